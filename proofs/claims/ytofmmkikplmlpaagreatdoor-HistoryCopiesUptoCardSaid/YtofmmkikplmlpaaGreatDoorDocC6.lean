/- Facts of the standard font, by the kernel. No condition. -/
import Derived.Test.YtofmmkikplmlpaaGreatDoorDocStd
namespace Go.Proofs.YtofmmkikplmlpaaGreatDoor.Am
open Go Go.Am
def qR (l:List (List D140)):Bool:=decide (l.length≤64)&&l.all (fun p=>decide (1≤p.length)&&decide (p.length≤64))
theorem qA7:std.2.2.2.1.all (fun g=>qR (f120 g.2.2.1).1)=true:=by kernel_rfl
theorem qJ:std.2.2.2.1.all (fun g=>decide (g.2.2.1.length≤4096))=true:=by kernel_rfl
end Go.Proofs.YtofmmkikplmlpaaGreatDoor.Am
