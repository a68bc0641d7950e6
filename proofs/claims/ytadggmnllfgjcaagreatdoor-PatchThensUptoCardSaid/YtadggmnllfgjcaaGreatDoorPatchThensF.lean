/- PatchThens: the closed facts of its row. No condition. -/
import Derived.Test.YtadggmnllfgjcaaGreatDoorCards
import Derived.JoinedCond
namespace Go.Proofs.YtadggmnllfgjcaaGreatDoor.patchThensUpto
theorem fa : (Rows.patchThensUptoRow.inPlace == Program.inPlace Tryz.pinned.checked.prog 5) = true := by kernel_rfl
theorem fb : (Rows.patchThensUptoRow.unfollowed == Program.unfollowed Tryz.pinned.checked.prog 5) = true := by kernel_rfl
theorem fc : (Rows.patchThensUptoRow.recurses == Program.recurses Tryz.pinned.checked.prog 5) = true := by kernel_rfl
theorem fd : (Rows.patchThensUptoRow.named == Program.varsNamed Tryz.pinned.checked.prog 5) = true := by kernel_rfl
theorem fe : Program.mayEnter Tryz.pinned.checked.prog = true := by kernel_rfl
theorem ff : (Rows.patchThensUptoRow.lifted == Program.liftsFinal Tryz.pinned.checked.prog) = true := by kernel_rfl
theorem fg : (Program.make Tryz.pinned.checked.prog == some Rows.patchThensUptoRow.make) = true := by kernel_rfl
theorem fh : laidOutB Tryz.pinned.checked.prog = true := by kernel_rfl
theorem facts : joinedFacts Tryz.pinned.checked.prog 5 Tryz.f5 (Rows.OpenSpec.upto Rows.patchThensSpec).bare Rows.patchThensUptoRow = true := by
  unfold joinedFacts; rw [fa, fb, fc, fd, fe, ff, fg, fh]; kernel_rfl
end Go.Proofs.YtadggmnllfgjcaaGreatDoor.patchThensUpto
