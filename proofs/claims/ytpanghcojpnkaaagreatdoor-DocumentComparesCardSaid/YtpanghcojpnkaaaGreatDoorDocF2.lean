/- The program's own closed example answers, by the kernel. No condition. -/
import Derived.Test.YtpanghcojpnkaaaGreatDoorDocP4
namespace Go.Proofs.YtpanghcojpnkaaaGreatDoor.Am
open Go Go.Am
theorem oM9:sP9:=of_decide_eq_true (by kernel_rfl)
end Go.Proofs.YtpanghcojpnkaaaGreatDoor.Am
