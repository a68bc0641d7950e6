/- Facts of the standard font, by the kernel. No condition. -/
import Derived.Test.YtpanghcojpnkaaaGreatDoorDocStd
namespace Go.Proofs.YtpanghcojpnkaaaGreatDoor.Am
open Go Go.Am
theorem pO4:tI4 std:=of_decide_eq_true (by kernel_rfl)
theorem qB0:std.2.2.2.1.length=95:=by kernel_rfl
end Go.Proofs.YtpanghcojpnkaaaGreatDoor.Am
