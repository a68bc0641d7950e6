/- NodeWiths: more closed facts of its row. No condition. -/
import Derived.Test.YtleannhgpeiooaaGreatDoorCards
import Derived.JoinedCond
namespace Go.Proofs.YtleannhgpeiooaaGreatDoor.nodeWithsUpto
theorem named : Tryz.pinned.checked.prog.funcNamed Rows.nodeWithsUptoRow.func = some 6 := by kernel_rfl
theorem inst : Tryz.f6.isInstance Tryz.pinned.checked.prog Rows.nodeWithsUptoRow.origin Rows.nodeWithsUptoRow.targs := of_decide_eq_true (by kernel_rfl)
theorem wrap : Tryz.f6.isWrapper Tryz.pinned.checked.prog Rows.nodeWithsUptoRow.wrapper Rows.nodeWithsUptoRow.mainSum := by unfold Func.isWrapper; first | (rw [if_pos (by decide +kernel)]; kernel_rfl) | (rw [if_neg (by decide +kernel)]; exact ⟨rfl, rfl⟩)
end Go.Proofs.YtleannhgpeiooaaGreatDoor.nodeWithsUpto
