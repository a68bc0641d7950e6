/- Facts of the standard font, by the kernel. No condition. -/
import Derived.Test.YtmbjipigimohbaaGreatDoorDocStd
namespace Go.Proofs.YtmbjipigimohbaaGreatDoor.Am
open Go Go.Am
theorem qK2:sC2 std:=of_decide_eq_true (by kernel_rfl)
theorem rS4:std.2.2.2.1.length=95:=by kernel_rfl
end Go.Proofs.YtmbjipigimohbaaGreatDoor.Am
