/- FontOutlines: more closed facts of its row. No condition. -/
import Derived.Test.YtdgfchmfajmkiaaDoorCards
import Derived.JoinedCond
namespace Go.Proofs.YtdgfchmfajmkiaaDoor.fontOutlines
theorem named : Tryd.pinned.checked.prog.funcNamed Rows.fontOutlinesRow.func = some 3 := by kernel_rfl
theorem inst : Tryd.f3.isInstance Tryd.pinned.checked.prog Rows.fontOutlinesRow.origin Rows.fontOutlinesRow.targs := of_decide_eq_true (by kernel_rfl)
theorem wrap : Tryd.f3.isWrapper Tryd.pinned.checked.prog Rows.fontOutlinesRow.wrapper Rows.fontOutlinesRow.mainSum := by unfold Func.isWrapper; first | (rw [if_pos (by decide +kernel)]; kernel_rfl) | (rw [if_neg (by decide +kernel)]; exact ⟨rfl, rfl⟩)
end Go.Proofs.YtdgfchmfajmkiaaDoor.fontOutlines
