/- Facts of the standard font, by the kernel. No condition. -/
import Derived.Test.YtmbjipigimohbaaGreatDoorDocStd
namespace Go.Proofs.YtmbjipigimohbaaGreatDoor.Am
open Go Go.Am
theorem qK1:tO0:=of_decide_eq_true (by kernel_rfl)
end Go.Proofs.YtmbjipigimohbaaGreatDoor.Am
