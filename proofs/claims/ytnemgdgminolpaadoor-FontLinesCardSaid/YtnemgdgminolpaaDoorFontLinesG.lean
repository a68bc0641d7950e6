/- FontLines: more closed facts of its row. No condition. -/
import Derived.Test.YtnemgdgminolpaaDoorCards
import Derived.JoinedCond
namespace Go.Proofs.YtnemgdgminolpaaDoor.fontLines
theorem named : Tryd.pinned.checked.prog.funcNamed Rows.fontLinesRow.func = some 5 := by kernel_rfl
theorem inst : Tryd.f5.isInstance Tryd.pinned.checked.prog Rows.fontLinesRow.origin Rows.fontLinesRow.targs := of_decide_eq_true (by kernel_rfl)
theorem wrap : Tryd.f5.isWrapper Tryd.pinned.checked.prog Rows.fontLinesRow.wrapper Rows.fontLinesRow.mainSum := by unfold Func.isWrapper; first | (rw [if_pos (by decide +kernel)]; kernel_rfl) | (rw [if_neg (by decide +kernel)]; exact ⟨rfl, rfl⟩)
end Go.Proofs.YtnemgdgminolpaaDoor.fontLines
