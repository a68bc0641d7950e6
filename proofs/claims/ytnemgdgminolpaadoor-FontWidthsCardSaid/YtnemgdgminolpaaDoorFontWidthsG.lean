/- FontWidths: more closed facts of its row. No condition. -/
import Derived.Test.YtnemgdgminolpaaDoorCards
import Derived.JoinedCond
namespace Go.Proofs.YtnemgdgminolpaaDoor.fontWidths
theorem named : Tryd.pinned.checked.prog.funcNamed Rows.fontWidthsRow.func = some 4 := by kernel_rfl
theorem inst : Tryd.f4.isInstance Tryd.pinned.checked.prog Rows.fontWidthsRow.origin Rows.fontWidthsRow.targs := of_decide_eq_true (by kernel_rfl)
theorem wrap : Tryd.f4.isWrapper Tryd.pinned.checked.prog Rows.fontWidthsRow.wrapper Rows.fontWidthsRow.mainSum := by unfold Func.isWrapper; first | (rw [if_pos (by decide +kernel)]; kernel_rfl) | (rw [if_neg (by decide +kernel)]; exact ⟨rfl, rfl⟩)
end Go.Proofs.YtnemgdgminolpaaDoor.fontWidths
