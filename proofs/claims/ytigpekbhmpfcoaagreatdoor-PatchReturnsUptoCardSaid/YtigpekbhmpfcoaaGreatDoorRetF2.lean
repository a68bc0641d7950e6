/- The program's own closed example answers, by the kernel. No condition. -/
import Derived.Test.YtigpekbhmpfcoaaGreatDoorRetP4
namespace Go.Proofs.YtigpekbhmpfcoaaGreatDoor.Am
open Go Go.Am
theorem qX7:qA5:=of_decide_eq_true (by kernel_rfl)
end Go.Proofs.YtigpekbhmpfcoaaGreatDoor.Am
