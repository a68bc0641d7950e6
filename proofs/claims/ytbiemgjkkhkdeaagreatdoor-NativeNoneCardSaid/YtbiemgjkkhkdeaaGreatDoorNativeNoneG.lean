/- NativeNone: more closed facts of its row. No condition. -/
import Derived.Test.YtbiemgjkkhkdeaaGreatDoorCards
import Derived.JoinedCond
namespace Go.Proofs.YtbiemgjkkhkdeaaGreatDoor.nativeNone
theorem named : Tryz.pinned.checked.prog.funcNamed Rows.nativeNoneRow.func = some 5 := by kernel_rfl
theorem inst : Tryz.f5.isInstance Tryz.pinned.checked.prog Rows.nativeNoneRow.origin Rows.nativeNoneRow.targs := of_decide_eq_true (by kernel_rfl)
theorem wrap : Tryz.f5.isWrapper Tryz.pinned.checked.prog Rows.nativeNoneRow.wrapper Rows.nativeNoneRow.mainSum := by unfold Func.isWrapper; first | (rw [if_pos (by decide +kernel)]; kernel_rfl) | (rw [if_neg (by decide +kernel)]; exact ⟨rfl, rfl⟩)
end Go.Proofs.YtbiemgjkkhkdeaaGreatDoor.nativeNone
