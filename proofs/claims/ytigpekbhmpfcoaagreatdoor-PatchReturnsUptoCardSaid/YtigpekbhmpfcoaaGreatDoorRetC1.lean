/- Facts of the standard font, by the kernel. No condition. -/
import Derived.Test.YtigpekbhmpfcoaaGreatDoorRetStd
namespace Go.Proofs.YtigpekbhmpfcoaaGreatDoor.Am
open Go Go.Am
theorem pM5:f119 = std:=by kernel_rfl
end Go.Proofs.YtigpekbhmpfcoaaGreatDoor.Am
