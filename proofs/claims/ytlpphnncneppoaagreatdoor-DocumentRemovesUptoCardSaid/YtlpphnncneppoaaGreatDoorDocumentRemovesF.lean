/- DocumentRemoves: the closed facts of its row. No condition. -/
import Derived.Test.YtlpphnncneppoaaGreatDoorCards
import Derived.JoinedCond
namespace Go.Proofs.YtlpphnncneppoaaGreatDoor.documentRemovesUpto
theorem fa : (Rows.documentRemovesUptoRow.inPlace == Program.inPlace Tryz.pinned.checked.prog 4) = true := by kernel_rfl
theorem fb : (Rows.documentRemovesUptoRow.unfollowed == Program.unfollowed Tryz.pinned.checked.prog 4) = true := by kernel_rfl
theorem fc : (Rows.documentRemovesUptoRow.recurses == Program.recurses Tryz.pinned.checked.prog 4) = true := by kernel_rfl
theorem fd : (Rows.documentRemovesUptoRow.named == Program.varsNamed Tryz.pinned.checked.prog 4) = true := by kernel_rfl
theorem fe : Program.mayEnter Tryz.pinned.checked.prog = true := by kernel_rfl
theorem ff : (Rows.documentRemovesUptoRow.lifted == Program.liftsFinal Tryz.pinned.checked.prog) = true := by kernel_rfl
theorem fg : (Program.make Tryz.pinned.checked.prog == some Rows.documentRemovesUptoRow.make) = true := by kernel_rfl
theorem fh : laidOutB Tryz.pinned.checked.prog = true := by kernel_rfl
theorem facts : joinedFacts Tryz.pinned.checked.prog 4 Tryz.f4 (Rows.OpenSpec.upto Rows.documentRemovesSpec).bare Rows.documentRemovesUptoRow = true := by
  unfold joinedFacts; rw [fa, fb, fc, fd, fe, ff, fg, fh]; kernel_rfl
end Go.Proofs.YtlpphnncneppoaaGreatDoor.documentRemovesUpto
