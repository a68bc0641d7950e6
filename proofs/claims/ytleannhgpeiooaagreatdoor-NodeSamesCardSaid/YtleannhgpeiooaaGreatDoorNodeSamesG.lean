/- NodeSames: more closed facts of its row. No condition. -/
import Derived.Test.YtleannhgpeiooaaGreatDoorCards
import Derived.JoinedCond
namespace Go.Proofs.YtleannhgpeiooaaGreatDoor.nodeSames
theorem named : Tryz.pinned.checked.prog.funcNamed Rows.nodeSamesRow.func = some 8 := by kernel_rfl
theorem inst : Tryz.f8.isInstance Tryz.pinned.checked.prog Rows.nodeSamesRow.origin Rows.nodeSamesRow.targs := of_decide_eq_true (by kernel_rfl)
theorem wrap : Tryz.f8.isWrapper Tryz.pinned.checked.prog Rows.nodeSamesRow.wrapper Rows.nodeSamesRow.mainSum := by unfold Func.isWrapper; first | (rw [if_pos (by decide +kernel)]; kernel_rfl) | (rw [if_neg (by decide +kernel)]; exact ⟨rfl, rfl⟩)
end Go.Proofs.YtleannhgpeiooaaGreatDoor.nodeSames
