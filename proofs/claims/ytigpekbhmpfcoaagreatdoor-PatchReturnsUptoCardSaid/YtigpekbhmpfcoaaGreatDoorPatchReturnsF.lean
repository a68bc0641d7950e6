/- PatchReturns: the closed facts of its row. No condition. -/
import Derived.Test.YtigpekbhmpfcoaaGreatDoorCards
import Derived.JoinedCond
namespace Go.Proofs.YtigpekbhmpfcoaaGreatDoor.patchReturnsUpto
theorem facts : joinedFacts Tryz.pinned.checked.prog 3 Tryz.f3 (Rows.OpenSpec.upto Rows.patchReturnsSpec).bare Rows.patchReturnsUptoRow = true := by kernel_rfl
end Go.Proofs.YtigpekbhmpfcoaaGreatDoor.patchReturnsUpto
