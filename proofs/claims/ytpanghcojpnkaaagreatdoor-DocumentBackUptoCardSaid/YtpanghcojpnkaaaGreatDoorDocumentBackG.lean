/- DocumentBack: more closed facts of its row. No condition. -/
import Derived.Test.YtpanghcojpnkaaaGreatDoorCards
import Derived.JoinedCond
namespace Go.Proofs.YtpanghcojpnkaaaGreatDoor.documentBackUpto
theorem named : Tryz.pinned.checked.prog.funcNamed Rows.documentBackUptoRow.func = some 7 := by kernel_rfl
theorem inst : Tryz.f7.isInstance Tryz.pinned.checked.prog Rows.documentBackUptoRow.origin Rows.documentBackUptoRow.targs := of_decide_eq_true (by kernel_rfl)
theorem wrap : Tryz.f7.isWrapper Tryz.pinned.checked.prog Rows.documentBackUptoRow.wrapper Rows.documentBackUptoRow.mainSum := by unfold Func.isWrapper; first | (rw [if_pos (by decide +kernel)]; kernel_rfl) | (rw [if_neg (by decide +kernel)]; exact ⟨rfl, rfl⟩)
end Go.Proofs.YtpanghcojpnkaaaGreatDoor.documentBackUpto
