/- PatchDiffs: the closed facts of its row. No condition. -/
import Derived.Test.YtadggmnllfgjcaaGreatDoorCards
import Derived.JoinedCond
namespace Go.Proofs.YtadggmnllfgjcaaGreatDoor.patchDiffsUpto
theorem fa : (Rows.patchDiffsUptoRow.inPlace == Program.inPlace Tryz.pinned.checked.prog 3) = true := by kernel_rfl
theorem fb : (Rows.patchDiffsUptoRow.unfollowed == Program.unfollowed Tryz.pinned.checked.prog 3) = true := by kernel_rfl
theorem fc : (Rows.patchDiffsUptoRow.recurses == Program.recurses Tryz.pinned.checked.prog 3) = true := by kernel_rfl
theorem fd : (Rows.patchDiffsUptoRow.named == Program.varsNamed Tryz.pinned.checked.prog 3) = true := by kernel_rfl
theorem fe : Program.mayEnter Tryz.pinned.checked.prog = true := by kernel_rfl
theorem ff : (Rows.patchDiffsUptoRow.lifted == Program.liftsFinal Tryz.pinned.checked.prog) = true := by kernel_rfl
theorem fg : (Program.make Tryz.pinned.checked.prog == some Rows.patchDiffsUptoRow.make) = true := by kernel_rfl
theorem fh : laidOutB Tryz.pinned.checked.prog = true := by kernel_rfl
theorem facts : joinedFacts Tryz.pinned.checked.prog 3 Tryz.f3 (Rows.OpenSpec.upto Rows.patchDiffsSpec).bare Rows.patchDiffsUptoRow = true := by
  unfold joinedFacts; rw [fa, fb, fc, fd, fe, ff, fg, fh]; kernel_rfl
end Go.Proofs.YtadggmnllfgjcaaGreatDoor.patchDiffsUpto
