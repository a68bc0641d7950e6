/- FontWraps: more closed facts of its row. No condition. -/
import Derived.Test.YtnemgdgminolpaaDoorCards
import Derived.JoinedCond
namespace Go.Proofs.YtnemgdgminolpaaDoor.fontWraps
theorem named : Tryd.pinned.checked.prog.funcNamed Rows.fontWrapsRow.func = some 7 := by kernel_rfl
theorem inst : Tryd.f7.isInstance Tryd.pinned.checked.prog Rows.fontWrapsRow.origin Rows.fontWrapsRow.targs := of_decide_eq_true (by kernel_rfl)
theorem wrap : Tryd.f7.isWrapper Tryd.pinned.checked.prog Rows.fontWrapsRow.wrapper Rows.fontWrapsRow.mainSum := by unfold Func.isWrapper; first | (rw [if_pos (by decide +kernel)]; kernel_rfl) | (rw [if_neg (by decide +kernel)]; exact ⟨rfl, rfl⟩)
end Go.Proofs.YtnemgdgminolpaaDoor.fontWraps
