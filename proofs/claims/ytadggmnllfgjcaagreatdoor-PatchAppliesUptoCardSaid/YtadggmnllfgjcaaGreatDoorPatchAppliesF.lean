/- PatchApplies: the closed facts of its row. No condition. -/
import Derived.Test.YtadggmnllfgjcaaGreatDoorCards
import Derived.JoinedCond
namespace Go.Proofs.YtadggmnllfgjcaaGreatDoor.patchAppliesUpto
theorem fa : (Rows.patchAppliesUptoRow.inPlace == Program.inPlace Tryz.pinned.checked.prog 4) = true := by kernel_rfl
theorem fb : (Rows.patchAppliesUptoRow.unfollowed == Program.unfollowed Tryz.pinned.checked.prog 4) = true := by kernel_rfl
theorem fc : (Rows.patchAppliesUptoRow.recurses == Program.recurses Tryz.pinned.checked.prog 4) = true := by kernel_rfl
theorem fd : (Rows.patchAppliesUptoRow.named == Program.varsNamed Tryz.pinned.checked.prog 4) = true := by kernel_rfl
theorem fe : Program.mayEnter Tryz.pinned.checked.prog = true := by kernel_rfl
theorem ff : (Rows.patchAppliesUptoRow.lifted == Program.liftsFinal Tryz.pinned.checked.prog) = true := by kernel_rfl
theorem fg : (Program.make Tryz.pinned.checked.prog == some Rows.patchAppliesUptoRow.make) = true := by kernel_rfl
theorem fh : laidOutB Tryz.pinned.checked.prog = true := by kernel_rfl
theorem facts : joinedFacts Tryz.pinned.checked.prog 4 Tryz.f4 (Rows.OpenSpec.upto Rows.patchAppliesSpec).bare Rows.patchAppliesUptoRow = true := by
  unfold joinedFacts; rw [fa, fb, fc, fd, fe, ff, fg, fh]; kernel_rfl
end Go.Proofs.YtadggmnllfgjcaaGreatDoor.patchAppliesUpto
