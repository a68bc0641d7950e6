/- PatchDiffs: more closed facts of its row. No condition. -/
import Derived.Test.YtadggmnllfgjcaaGreatDoorCards
import Derived.JoinedCond
namespace Go.Proofs.YtadggmnllfgjcaaGreatDoor.patchDiffsUpto
theorem named : Tryz.pinned.checked.prog.funcNamed Rows.patchDiffsUptoRow.func = some 3 := by kernel_rfl
theorem inst : Tryz.f3.isInstance Tryz.pinned.checked.prog Rows.patchDiffsUptoRow.origin Rows.patchDiffsUptoRow.targs := of_decide_eq_true (by kernel_rfl)
theorem wrap : Tryz.f3.isWrapper Tryz.pinned.checked.prog Rows.patchDiffsUptoRow.wrapper Rows.patchDiffsUptoRow.mainSum := by unfold Func.isWrapper; first | (rw [if_pos (by decide +kernel)]; kernel_rfl) | (rw [if_neg (by decide +kernel)]; exact ⟨rfl, rfl⟩)
end Go.Proofs.YtadggmnllfgjcaaGreatDoor.patchDiffsUpto
