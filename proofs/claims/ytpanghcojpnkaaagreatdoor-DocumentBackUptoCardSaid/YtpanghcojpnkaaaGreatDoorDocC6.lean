/- Facts of the standard font, by the kernel. No condition. -/
import Derived.Test.YtpanghcojpnkaaaGreatDoorDocStd
namespace Go.Proofs.YtpanghcojpnkaaaGreatDoor.Am
open Go Go.Am
def pI3 (l:List (List D125)):Bool:=decide (l.length≤64)&&l.all (fun p=>decide (1≤p.length)&&decide (p.length≤64))
theorem qJ7:std.2.2.2.1.all (fun g=>pI3 (f126 g.2.2.1).1)=true:=by kernel_rfl
theorem qX7:std.2.2.2.1.all (fun g=>decide (g.2.2.1.length≤4096))=true:=by kernel_rfl
end Go.Proofs.YtpanghcojpnkaaaGreatDoor.Am
