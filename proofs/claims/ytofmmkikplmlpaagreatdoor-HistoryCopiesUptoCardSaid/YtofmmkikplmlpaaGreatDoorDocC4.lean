/- Facts of the standard font, by the kernel. No condition. -/
import Derived.Test.YtofmmkikplmlpaaGreatDoorDocStd
namespace Go.Proofs.YtofmmkikplmlpaaGreatDoor.Am
open Go Go.Am
theorem qI8:tT1 std:=of_decide_eq_true (by kernel_rfl)
end Go.Proofs.YtofmmkikplmlpaaGreatDoor.Am
