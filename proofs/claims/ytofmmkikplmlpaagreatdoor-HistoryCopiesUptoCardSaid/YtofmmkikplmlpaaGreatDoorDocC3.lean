/- Facts of the standard font, by the kernel. No condition. -/
import Derived.Test.YtofmmkikplmlpaaGreatDoorDocStd
namespace Go.Proofs.YtofmmkikplmlpaaGreatDoor.Am
open Go Go.Am
theorem qI7:tS6 std:=of_decide_eq_true (by kernel_rfl)
theorem rP3:std.2.2.2.1.length=95:=by kernel_rfl
end Go.Proofs.YtofmmkikplmlpaaGreatDoor.Am
