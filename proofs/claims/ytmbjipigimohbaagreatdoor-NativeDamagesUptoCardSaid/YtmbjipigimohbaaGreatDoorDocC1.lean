/- Facts of the standard font, by the kernel. No condition. -/
import Derived.Test.YtmbjipigimohbaaGreatDoorDocStd
namespace Go.Proofs.YtmbjipigimohbaaGreatDoor.Am
open Go Go.Am
theorem qK0:f146=std:=by kernel_rfl
end Go.Proofs.YtmbjipigimohbaaGreatDoor.Am
