/- Facts of the standard font, by the kernel. No condition. -/
import Derived.Test.YthjoefjcljbapaaGreatDoorChkStd
namespace Go.Proofs.YthjoefjcljbapaaGreatDoor.Am
open Go Go.Am
theorem f120_okd : f120_ok std := of_decide_eq_true (by kernel_rfl)
theorem std_glyphs : std.2.2.2.1.length = 95 := by kernel_rfl
end Go.Proofs.YthjoefjcljbapaaGreatDoor.Am
