/- DocumentInserts: more closed facts of its row. No condition. -/
import Derived.Test.YtlpphnncneppoaaGreatDoorCards
import Derived.JoinedCond
namespace Go.Proofs.YtlpphnncneppoaaGreatDoor.documentInsertsUpto
theorem named : Tryz.pinned.checked.prog.funcNamed Rows.documentInsertsUptoRow.func = some 5 := by kernel_rfl
theorem inst : Tryz.f5.isInstance Tryz.pinned.checked.prog Rows.documentInsertsUptoRow.origin Rows.documentInsertsUptoRow.targs := of_decide_eq_true (by kernel_rfl)
theorem wrap : Tryz.f5.isWrapper Tryz.pinned.checked.prog Rows.documentInsertsUptoRow.wrapper Rows.documentInsertsUptoRow.mainSum := by unfold Func.isWrapper; first | (rw [if_pos (by decide +kernel)]; kernel_rfl) | (rw [if_neg (by decide +kernel)]; exact ⟨rfl, rfl⟩)
end Go.Proofs.YtlpphnncneppoaaGreatDoor.documentInsertsUpto
