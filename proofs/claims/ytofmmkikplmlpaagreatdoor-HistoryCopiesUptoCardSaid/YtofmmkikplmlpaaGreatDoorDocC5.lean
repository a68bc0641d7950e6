/- Facts of the standard font, by the kernel. No condition. -/
import Derived.Test.YtofmmkikplmlpaaGreatDoorDocStd
namespace Go.Proofs.YtofmmkikplmlpaaGreatDoor.Am
open Go Go.Am
theorem qA6:(f142 std).1=std:=by kernel_rfl
theorem rI1:(f142 std).2.1.length=256:=by kernel_rfl
theorem qI9:(f142 std).2.1.all (fun g=>decide (-1≤g)&&decide (g<95))=true:=by kernel_rfl
end Go.Proofs.YtofmmkikplmlpaaGreatDoor.Am
