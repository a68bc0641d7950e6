/- The program's own closed example, by the kernel. No condition. -/
import Derived.Test.YtpanghcojpnkaaaGreatDoorDocP4
namespace Go.Proofs.YtpanghcojpnkaaaGreatDoor.Am
open Go Go.Am
theorem rU7:f10=true:=by kernel_rfl
end Go.Proofs.YtpanghcojpnkaaaGreatDoor.Am
namespace Go.Proofs.YtpanghcojpnkaaaGreatDoor.Am
open Go Go.Am
theorem qV8:tR:=of_decide_eq_true (by kernel_rfl)
end Go.Proofs.YtpanghcojpnkaaaGreatDoor.Am
