/- Facts of the standard font, by the kernel. No condition. -/
import Derived.Test.YtpanghcojpnkaaaGreatDoorDocStd
namespace Go.Proofs.YtpanghcojpnkaaaGreatDoor.Am
open Go Go.Am
theorem qS:uZ3 std:=of_decide_eq_true (by kernel_rfl)
end Go.Proofs.YtpanghcojpnkaaaGreatDoor.Am
