/- Facts of the standard font, by the kernel. No condition. -/
import Derived.Test.YtmbjipigimohbaaGreatDoorDocStd
namespace Go.Proofs.YtmbjipigimohbaaGreatDoor.Am
open Go Go.Am
def qS2 (l:List (List D99)):Bool:=decide (l.length≤64)&&l.all (fun p=>decide (1≤p.length)&&decide (p.length≤64))
theorem qC4:std.2.2.2.1.all (fun g=>qS2 (f141 g.2.2.1).1)=true:=by kernel_rfl
theorem qK5:std.2.2.2.1.all (fun g=>decide (g.2.2.1.length≤4096))=true:=by kernel_rfl
end Go.Proofs.YtmbjipigimohbaaGreatDoor.Am
