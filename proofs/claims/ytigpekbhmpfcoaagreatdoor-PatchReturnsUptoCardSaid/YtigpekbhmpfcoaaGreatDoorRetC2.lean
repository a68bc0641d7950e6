/- Facts of the standard font, by the kernel. No condition. -/
import Derived.Test.YtigpekbhmpfcoaaGreatDoorRetStd
namespace Go.Proofs.YtigpekbhmpfcoaaGreatDoor.Am
open Go Go.Am
theorem pM6:tM9:=of_decide_eq_true (by kernel_rfl)
end Go.Proofs.YtigpekbhmpfcoaaGreatDoor.Am
