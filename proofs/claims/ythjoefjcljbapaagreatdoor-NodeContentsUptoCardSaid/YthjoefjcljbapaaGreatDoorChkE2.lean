/- The program's own closed example answers, by the kernel. No condition. -/
import Derived.Test.YthjoefjcljbapaaGreatDoorChkP3
namespace Go.Proofs.YthjoefjcljbapaaGreatDoor.Am
open Go Go.Am
theorem f12_okd : f12_ok := of_decide_eq_true (by kernel_rfl)
end Go.Proofs.YthjoefjcljbapaaGreatDoor.Am
