/- DocumentChecks: the closed facts of its row. No condition. -/
import Derived.Test.YtgjdonlgingdeaaGreatDoorCards
import Derived.JoinedCond
namespace Go.Proofs.YtgjdonlgingdeaaGreatDoor.documentChecks
theorem fa : (Rows.documentChecksRow.inPlace == Program.inPlace Tryz.pinned.checked.prog 3) = true := by kernel_rfl
theorem fb : (Rows.documentChecksRow.unfollowed == Program.unfollowed Tryz.pinned.checked.prog 3) = true := by kernel_rfl
theorem fc : (Rows.documentChecksRow.recurses == Program.recurses Tryz.pinned.checked.prog 3) = true := by kernel_rfl
theorem fd : (Rows.documentChecksRow.named == Program.varsNamed Tryz.pinned.checked.prog 3) = true := by kernel_rfl
theorem fe : Program.mayEnter Tryz.pinned.checked.prog = true := by kernel_rfl
theorem ff : (Rows.documentChecksRow.lifted == Program.liftsFinal Tryz.pinned.checked.prog) = true := by kernel_rfl
theorem fg : (Program.make Tryz.pinned.checked.prog == some Rows.documentChecksRow.make) = true := by kernel_rfl
theorem fh : laidOutB Tryz.pinned.checked.prog = true := by kernel_rfl
theorem facts : joinedFacts Tryz.pinned.checked.prog 3 Tryz.f3 (OpenSpec.ofChange Rows.documentChecksSpec).bare Rows.documentChecksRow = true := by
  unfold joinedFacts; rw [fa, fb, fc, fd, fe, ff, fg, fh]; kernel_rfl
end Go.Proofs.YtgjdonlgingdeaaGreatDoor.documentChecks
