/- NativeDamages: more closed facts of its row. No condition. -/
import Derived.Test.YtmbjipigimohbaaGreatDoorCards
import Derived.JoinedCond
namespace Go.Proofs.YtmbjipigimohbaaGreatDoor.nativeDamagesUpto
theorem named : Tryz.pinned.checked.prog.funcNamed Rows.nativeDamagesUptoRow.func = some 5 := by kernel_rfl
theorem inst : Tryz.f5.isInstance Tryz.pinned.checked.prog Rows.nativeDamagesUptoRow.origin Rows.nativeDamagesUptoRow.targs := of_decide_eq_true (by kernel_rfl)
theorem wrap : Tryz.f5.isWrapper Tryz.pinned.checked.prog Rows.nativeDamagesUptoRow.wrapper Rows.nativeDamagesUptoRow.mainSum := by unfold Func.isWrapper; first | (rw [if_pos (by decide +kernel)]; kernel_rfl) | (rw [if_neg (by decide +kernel)]; exact ⟨rfl, rfl⟩)
end Go.Proofs.YtmbjipigimohbaaGreatDoor.nativeDamagesUpto
