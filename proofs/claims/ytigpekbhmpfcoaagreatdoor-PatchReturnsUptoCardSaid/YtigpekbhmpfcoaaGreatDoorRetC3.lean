/- Facts of the standard font, by the kernel. No condition. -/
import Derived.Test.YtigpekbhmpfcoaaGreatDoorRetStd
namespace Go.Proofs.YtigpekbhmpfcoaaGreatDoor.Am
open Go Go.Am
theorem pM7:tK7 std:=of_decide_eq_true (by kernel_rfl)
theorem std_glyphs:std.2.2.2.1.length = 95:=by kernel_rfl
end Go.Proofs.YtigpekbhmpfcoaaGreatDoor.Am
