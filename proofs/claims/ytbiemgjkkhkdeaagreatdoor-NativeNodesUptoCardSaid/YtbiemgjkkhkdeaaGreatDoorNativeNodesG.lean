/- NativeNodes: more closed facts of its row. No condition. -/
import Derived.Test.YtbiemgjkkhkdeaaGreatDoorCards
import Derived.JoinedCond
namespace Go.Proofs.YtbiemgjkkhkdeaaGreatDoor.nativeNodesUpto
theorem named : Tryz.pinned.checked.prog.funcNamed Rows.nativeNodesUptoRow.func = some 4 := by kernel_rfl
theorem inst : Tryz.f4.isInstance Tryz.pinned.checked.prog Rows.nativeNodesUptoRow.origin Rows.nativeNodesUptoRow.targs := of_decide_eq_true (by kernel_rfl)
theorem wrap : Tryz.f4.isWrapper Tryz.pinned.checked.prog Rows.nativeNodesUptoRow.wrapper Rows.nativeNodesUptoRow.mainSum := by unfold Func.isWrapper; first | (rw [if_pos (by decide +kernel)]; kernel_rfl) | (rw [if_neg (by decide +kernel)]; exact ⟨rfl, rfl⟩)
end Go.Proofs.YtbiemgjkkhkdeaaGreatDoor.nativeNodesUpto
