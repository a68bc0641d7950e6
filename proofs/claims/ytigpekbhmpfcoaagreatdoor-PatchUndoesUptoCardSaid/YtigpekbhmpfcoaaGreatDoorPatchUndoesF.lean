/- PatchUndoes: the closed facts of its row. No condition. -/
import Derived.Test.YtigpekbhmpfcoaaGreatDoorCards
import Derived.JoinedCond
namespace Go.Proofs.YtigpekbhmpfcoaaGreatDoor.patchUndoesUpto
theorem facts : joinedFacts Tryz.pinned.checked.prog 4 Tryz.f4 (Rows.OpenSpec.upto Rows.patchUndoesSpec).bare Rows.patchUndoesUptoRow = true := by kernel_rfl
end Go.Proofs.YtigpekbhmpfcoaaGreatDoor.patchUndoesUpto
