/- NativeNodes: the closed facts of its row. No condition. -/
import Derived.Test.YtbiemgjkkhkdeaaGreatDoorCards
import Derived.JoinedCond
namespace Go.Proofs.YtbiemgjkkhkdeaaGreatDoor.nativeNodesUpto
theorem fa : (Rows.nativeNodesUptoRow.inPlace == Program.inPlace Tryz.pinned.checked.prog 4) = true := by kernel_rfl
theorem fb : (Rows.nativeNodesUptoRow.unfollowed == Program.unfollowed Tryz.pinned.checked.prog 4) = true := by kernel_rfl
theorem fc : (Rows.nativeNodesUptoRow.recurses == Program.recurses Tryz.pinned.checked.prog 4) = true := by kernel_rfl
theorem fd : (Rows.nativeNodesUptoRow.named == Program.varsNamed Tryz.pinned.checked.prog 4) = true := by kernel_rfl
theorem fe : Program.mayEnter Tryz.pinned.checked.prog = true := by kernel_rfl
theorem ff : (Rows.nativeNodesUptoRow.lifted == Program.liftsFinal Tryz.pinned.checked.prog) = true := by kernel_rfl
theorem fg : (Program.make Tryz.pinned.checked.prog == some Rows.nativeNodesUptoRow.make) = true := by kernel_rfl
theorem fh : laidOutB Tryz.pinned.checked.prog = true := by kernel_rfl
theorem facts : joinedFacts Tryz.pinned.checked.prog 4 Tryz.f4 (Rows.OpenSpec.upto Rows.nativeNodesSpec).bare Rows.nativeNodesUptoRow = true := by
  unfold joinedFacts; rw [fa, fb, fc, fd, fe, ff, fg, fh]; kernel_rfl
end Go.Proofs.YtbiemgjkkhkdeaaGreatDoor.nativeNodesUpto
