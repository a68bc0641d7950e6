/- Facts of the standard font, by the kernel. No condition. -/
import Derived.Test.YtigpekbhmpfcoaaGreatDoorRetStd
namespace Go.Proofs.YtigpekbhmpfcoaaGreatDoor.Am
open Go Go.Am
theorem qU5:(f136 std).1 = std:=by kernel_rfl
theorem rT:(f136 std).2.1.length = 256:=by kernel_rfl
theorem pM9:(f136 std).2.1.all (fun g=>decide (-1 ≤ g) && decide (g < 95)) = true:=by kernel_rfl
end Go.Proofs.YtigpekbhmpfcoaaGreatDoor.Am
