/- NodeChecks: more closed facts of its row. No condition. -/
import Derived.Test.YtgjkpohjjmkkgaaGreatDoorCards
import Derived.JoinedCond
namespace Go.Proofs.YtgjkpohjjmkkgaaGreatDoor.nodeChecks
theorem named : Tryz.pinned.checked.prog.funcNamed Rows.nodeChecksRow.func = some 3 := by kernel_rfl
theorem inst : Tryz.f3.isInstance Tryz.pinned.checked.prog Rows.nodeChecksRow.origin Rows.nodeChecksRow.targs := of_decide_eq_true (by kernel_rfl)
theorem wrap : Tryz.f3.isWrapper Tryz.pinned.checked.prog Rows.nodeChecksRow.wrapper Rows.nodeChecksRow.mainSum := by unfold Func.isWrapper; first | (rw [if_pos (by decide +kernel)]; kernel_rfl) | (rw [if_neg (by decide +kernel)]; exact ⟨rfl, rfl⟩)
end Go.Proofs.YtgjkpohjjmkkgaaGreatDoor.nodeChecks
