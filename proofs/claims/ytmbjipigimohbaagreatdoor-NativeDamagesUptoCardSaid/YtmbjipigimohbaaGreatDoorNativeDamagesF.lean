/- NativeDamages: the closed facts of its row. No condition. -/
import Derived.Test.YtmbjipigimohbaaGreatDoorCards
import Derived.JoinedCond
namespace Go.Proofs.YtmbjipigimohbaaGreatDoor.nativeDamagesUpto
theorem fa : (Rows.nativeDamagesUptoRow.inPlace == Program.inPlace Tryz.pinned.checked.prog 5) = true := by kernel_rfl
theorem fb : (Rows.nativeDamagesUptoRow.unfollowed == Program.unfollowed Tryz.pinned.checked.prog 5) = true := by kernel_rfl
theorem fc : (Rows.nativeDamagesUptoRow.recurses == Program.recurses Tryz.pinned.checked.prog 5) = true := by kernel_rfl
theorem fd : (Rows.nativeDamagesUptoRow.named == Program.varsNamed Tryz.pinned.checked.prog 5) = true := by kernel_rfl
theorem fe : Program.mayEnter Tryz.pinned.checked.prog = true := by kernel_rfl
theorem ff : (Rows.nativeDamagesUptoRow.lifted == Program.liftsFinal Tryz.pinned.checked.prog) = true := by kernel_rfl
theorem fg : (Program.make Tryz.pinned.checked.prog == some Rows.nativeDamagesUptoRow.make) = true := by kernel_rfl
theorem fh : laidOutB Tryz.pinned.checked.prog = true := by kernel_rfl
theorem facts : joinedFacts Tryz.pinned.checked.prog 5 Tryz.f5 (Rows.OpenSpec.upto Rows.nativeDamagesSpec).bare Rows.nativeDamagesUptoRow = true := by
  unfold joinedFacts; rw [fa, fb, fc, fd, fe, ff, fg, fh]; kernel_rfl
end Go.Proofs.YtmbjipigimohbaaGreatDoor.nativeDamagesUpto
