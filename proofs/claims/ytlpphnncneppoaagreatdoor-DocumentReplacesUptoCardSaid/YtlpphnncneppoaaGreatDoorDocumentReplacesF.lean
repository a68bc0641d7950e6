/- DocumentReplaces: the closed facts of its row. No condition. -/
import Derived.Test.YtlpphnncneppoaaGreatDoorCards
import Derived.JoinedCond
namespace Go.Proofs.YtlpphnncneppoaaGreatDoor.documentReplacesUpto
theorem fa : (Rows.documentReplacesUptoRow.inPlace == Program.inPlace Tryz.pinned.checked.prog 3) = true := by kernel_rfl
theorem fb : (Rows.documentReplacesUptoRow.unfollowed == Program.unfollowed Tryz.pinned.checked.prog 3) = true := by kernel_rfl
theorem fc : (Rows.documentReplacesUptoRow.recurses == Program.recurses Tryz.pinned.checked.prog 3) = true := by kernel_rfl
theorem fd : (Rows.documentReplacesUptoRow.named == Program.varsNamed Tryz.pinned.checked.prog 3) = true := by kernel_rfl
theorem fe : Program.mayEnter Tryz.pinned.checked.prog = true := by kernel_rfl
theorem ff : (Rows.documentReplacesUptoRow.lifted == Program.liftsFinal Tryz.pinned.checked.prog) = true := by kernel_rfl
theorem fg : (Program.make Tryz.pinned.checked.prog == some Rows.documentReplacesUptoRow.make) = true := by kernel_rfl
theorem fh : laidOutB Tryz.pinned.checked.prog = true := by kernel_rfl
theorem facts : joinedFacts Tryz.pinned.checked.prog 3 Tryz.f3 (Rows.OpenSpec.upto Rows.documentReplacesSpec).bare Rows.documentReplacesUptoRow = true := by
  unfold joinedFacts; rw [fa, fb, fc, fd, fe, ff, fg, fh]; kernel_rfl
end Go.Proofs.YtlpphnncneppoaaGreatDoor.documentReplacesUpto
