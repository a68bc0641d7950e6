/- DocumentReturns: more closed facts of its row. No condition. -/
import Derived.Test.YtpanghcojpnkaaaGreatDoorCards
import Derived.JoinedCond
namespace Go.Proofs.YtpanghcojpnkaaaGreatDoor.documentReturnsUpto
theorem named : Tryz.pinned.checked.prog.funcNamed Rows.documentReturnsUptoRow.func = some 6 := by kernel_rfl
theorem inst : Tryz.f6.isInstance Tryz.pinned.checked.prog Rows.documentReturnsUptoRow.origin Rows.documentReturnsUptoRow.targs := of_decide_eq_true (by kernel_rfl)
theorem wrap : Tryz.f6.isWrapper Tryz.pinned.checked.prog Rows.documentReturnsUptoRow.wrapper Rows.documentReturnsUptoRow.mainSum := by unfold Func.isWrapper; first | (rw [if_pos (by decide +kernel)]; kernel_rfl) | (rw [if_neg (by decide +kernel)]; exact ⟨rfl, rfl⟩)
end Go.Proofs.YtpanghcojpnkaaaGreatDoor.documentReturnsUpto
