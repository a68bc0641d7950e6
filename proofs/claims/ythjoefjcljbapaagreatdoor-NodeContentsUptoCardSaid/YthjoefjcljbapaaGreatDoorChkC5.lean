/- Facts of the standard font, by the kernel. No condition. -/
import Derived.Test.YthjoefjcljbapaaGreatDoorChkStd
namespace Go.Proofs.YthjoefjcljbapaaGreatDoor.Am
open Go Go.Am
theorem f102_font : (f102 std).1 = std := by kernel_rfl
theorem f102_len : (f102 std).2.1.length = 256 := by kernel_rfl
theorem f102_tab : (f102 std).2.1.all (fun g => decide (-1 ≤ g) && decide (g < 95)) = true := by kernel_rfl
end Go.Proofs.YthjoefjcljbapaaGreatDoor.Am
