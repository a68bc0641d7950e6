/- The program's own closed example, by the kernel. No condition. -/
import Derived.Test.YtigpekbhmpfcoaaGreatDoorRetP4
namespace Go.Proofs.YtigpekbhmpfcoaaGreatDoor.Am
open Go Go.Am
theorem rI3:f7 = true:=by kernel_rfl
end Go.Proofs.YtigpekbhmpfcoaaGreatDoor.Am
