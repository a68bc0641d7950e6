/- HistoryNobody: more closed facts of its row. No condition. -/
import Derived.Test.YtmmpcldfjocfmaaGreatDoorCards
import Derived.JoinedCond
namespace Go.Proofs.YtmmpcldfjocfmaaGreatDoor.historyNobody
theorem named : Tryz.pinned.checked.prog.funcNamed Rows.historyNobodyRow.func = some 3 := by kernel_rfl
theorem inst : Tryz.f3.isInstance Tryz.pinned.checked.prog Rows.historyNobodyRow.origin Rows.historyNobodyRow.targs := of_decide_eq_true (by kernel_rfl)
theorem wrap : Tryz.f3.isWrapper Tryz.pinned.checked.prog Rows.historyNobodyRow.wrapper Rows.historyNobodyRow.mainSum := by unfold Func.isWrapper; first | (rw [if_pos (by decide +kernel)]; kernel_rfl) | (rw [if_neg (by decide +kernel)]; exact ⟨rfl, rfl⟩)
end Go.Proofs.YtmmpcldfjocfmaaGreatDoor.historyNobody
