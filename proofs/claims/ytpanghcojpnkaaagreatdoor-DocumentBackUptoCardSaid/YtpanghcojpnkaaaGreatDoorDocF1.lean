/- The program's own closed example, by the kernel. No condition. -/
import Derived.Test.YtpanghcojpnkaaaGreatDoorDocP3
namespace Go.Proofs.YtpanghcojpnkaaaGreatDoor.Am
open Go Go.Am
theorem pB9:f10=true:=by kernel_rfl
end Go.Proofs.YtpanghcojpnkaaaGreatDoor.Am
namespace Go.Proofs.YtpanghcojpnkaaaGreatDoor.Am
open Go Go.Am
theorem oF7:tV3:=jF (by kernel_rfl)
end Go.Proofs.YtpanghcojpnkaaaGreatDoor.Am
