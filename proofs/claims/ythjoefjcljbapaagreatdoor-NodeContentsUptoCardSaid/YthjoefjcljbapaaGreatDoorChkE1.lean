/- The program's own closed example, by the kernel. No condition. -/
import Derived.Test.YthjoefjcljbapaaGreatDoorChkP3
namespace Go.Proofs.YthjoefjcljbapaaGreatDoor.Am
open Go Go.Am
theorem f12_true : f12 = true := by kernel_rfl
end Go.Proofs.YthjoefjcljbapaaGreatDoor.Am
