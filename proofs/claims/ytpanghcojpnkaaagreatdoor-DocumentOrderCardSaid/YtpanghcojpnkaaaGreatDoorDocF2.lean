/- The program's own closed example answers, by the kernel. No condition. -/
import Derived.Test.YtpanghcojpnkaaaGreatDoorDocP3
namespace Go.Proofs.YtpanghcojpnkaaaGreatDoor.Am
open Go Go.Am
theorem sS3:tP1:=of_decide_eq_true (by kernel_rfl)
end Go.Proofs.YtpanghcojpnkaaaGreatDoor.Am
