/- Facts of the standard font, by the kernel. No condition. -/
import Derived.Test.YthjoefjcljbapaaGreatDoorChkStd
namespace Go.Proofs.YthjoefjcljbapaaGreatDoor.Am
open Go Go.Am
theorem f83_okd : f83_ok := of_decide_eq_true (by kernel_rfl)
end Go.Proofs.YthjoefjcljbapaaGreatDoor.Am
