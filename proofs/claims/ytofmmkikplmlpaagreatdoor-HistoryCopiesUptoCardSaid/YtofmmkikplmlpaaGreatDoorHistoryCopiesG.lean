/- HistoryCopies: more closed facts of its row. No condition. -/
import Derived.Test.YtofmmkikplmlpaaGreatDoorCards
import Derived.JoinedCond
namespace Go.Proofs.YtofmmkikplmlpaaGreatDoor.historyCopiesUpto
theorem named : Tryz.pinned.checked.prog.funcNamed Rows.historyCopiesUptoRow.func = some 6 := by kernel_rfl
theorem inst : Tryz.f6.isInstance Tryz.pinned.checked.prog Rows.historyCopiesUptoRow.origin Rows.historyCopiesUptoRow.targs := of_decide_eq_true (by kernel_rfl)
theorem wrap : Tryz.f6.isWrapper Tryz.pinned.checked.prog Rows.historyCopiesUptoRow.wrapper Rows.historyCopiesUptoRow.mainSum := by unfold Func.isWrapper; first | (rw [if_pos (by decide +kernel)]; kernel_rfl) | (rw [if_neg (by decide +kernel)]; exact ⟨rfl, rfl⟩)
end Go.Proofs.YtofmmkikplmlpaaGreatDoor.historyCopiesUpto
