/- Facts of the standard font, by the kernel. No condition. -/
import Derived.Test.YtmbjipigimohbaaGreatDoorDocStd
namespace Go.Proofs.YtmbjipigimohbaaGreatDoor.Am
open Go Go.Am
theorem qC3:(f161 std).1=std:=by kernel_rfl
theorem rJ3:(f161 std).2.1.length=256:=by kernel_rfl
theorem qK4:(f161 std).2.1.all (fun g=>decide (-1≤g)&&decide (g<95))=true:=by kernel_rfl
end Go.Proofs.YtmbjipigimohbaaGreatDoor.Am
