/- PatchAsks: more closed facts of its row. No condition. -/
import Derived.Test.YtcjaalnbodmdgaaGreatDoorCards
import Derived.JoinedCond
namespace Go.Proofs.YtcjaalnbodmdgaaGreatDoor.patchAsksUpto
theorem named : Tryz.pinned.checked.prog.funcNamed Rows.patchAsksUptoRow.func = some 3 := by kernel_rfl
theorem inst : Tryz.f3.isInstance Tryz.pinned.checked.prog Rows.patchAsksUptoRow.origin Rows.patchAsksUptoRow.targs := of_decide_eq_true (by kernel_rfl)
theorem wrap : Tryz.f3.isWrapper Tryz.pinned.checked.prog Rows.patchAsksUptoRow.wrapper Rows.patchAsksUptoRow.mainSum := by unfold Func.isWrapper; first | (rw [if_pos (by decide +kernel)]; kernel_rfl) | (rw [if_neg (by decide +kernel)]; exact ⟨rfl, rfl⟩)
end Go.Proofs.YtcjaalnbodmdgaaGreatDoor.patchAsksUpto
