/- Facts of the standard font, by the kernel. No condition. -/
import Derived.Test.YtofmmkikplmlpaaGreatDoorDocStd
namespace Go.Proofs.YtofmmkikplmlpaaGreatDoor.Am
open Go Go.Am
theorem qI5:f125=std:=by kernel_rfl
end Go.Proofs.YtofmmkikplmlpaaGreatDoor.Am
