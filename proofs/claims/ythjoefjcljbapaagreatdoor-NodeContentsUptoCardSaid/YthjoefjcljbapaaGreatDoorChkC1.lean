/- Facts of the standard font, by the kernel. No condition. -/
import Derived.Test.YthjoefjcljbapaaGreatDoorChkStd
namespace Go.Proofs.YthjoefjcljbapaaGreatDoor.Am
open Go Go.Am
theorem f83_std : f83 = std := by kernel_rfl
end Go.Proofs.YthjoefjcljbapaaGreatDoor.Am
