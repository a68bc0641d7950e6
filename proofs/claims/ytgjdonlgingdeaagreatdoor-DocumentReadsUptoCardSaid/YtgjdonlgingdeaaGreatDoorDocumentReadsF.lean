/- DocumentReads: the closed facts of its row. No condition. -/
import Derived.Test.YtgjdonlgingdeaaGreatDoorCards
import Derived.JoinedCond
namespace Go.Proofs.YtgjdonlgingdeaaGreatDoor.documentReadsUpto
theorem fa : (Rows.documentReadsUptoRow.inPlace == Program.inPlace Tryz.pinned.checked.prog 4) = true := by kernel_rfl
theorem fb : (Rows.documentReadsUptoRow.unfollowed == Program.unfollowed Tryz.pinned.checked.prog 4) = true := by kernel_rfl
theorem fc : (Rows.documentReadsUptoRow.recurses == Program.recurses Tryz.pinned.checked.prog 4) = true := by kernel_rfl
theorem fd : (Rows.documentReadsUptoRow.named == Program.varsNamed Tryz.pinned.checked.prog 4) = true := by kernel_rfl
theorem fe : Program.mayEnter Tryz.pinned.checked.prog = true := by kernel_rfl
theorem ff : (Rows.documentReadsUptoRow.lifted == Program.liftsFinal Tryz.pinned.checked.prog) = true := by kernel_rfl
theorem fg : (Program.make Tryz.pinned.checked.prog == some Rows.documentReadsUptoRow.make) = true := by kernel_rfl
theorem fh : laidOutB Tryz.pinned.checked.prog = true := by kernel_rfl
theorem facts : joinedFacts Tryz.pinned.checked.prog 4 Tryz.f4 (Rows.OpenSpec.upto Rows.documentReadsSpec).bare Rows.documentReadsUptoRow = true := by
  unfold joinedFacts; rw [fa, fb, fc, fd, fe, ff, fg, fh]; kernel_rfl
end Go.Proofs.YtgjdonlgingdeaaGreatDoor.documentReadsUpto
