/- DocumentInserts: the closed facts of its row. No condition. -/
import Derived.Test.YtlpphnncneppoaaGreatDoorCards
import Derived.JoinedCond
namespace Go.Proofs.YtlpphnncneppoaaGreatDoor.documentInsertsUpto
theorem fa : (Rows.documentInsertsUptoRow.inPlace == Program.inPlace Tryz.pinned.checked.prog 5) = true := by kernel_rfl
theorem fb : (Rows.documentInsertsUptoRow.unfollowed == Program.unfollowed Tryz.pinned.checked.prog 5) = true := by kernel_rfl
theorem fc : (Rows.documentInsertsUptoRow.recurses == Program.recurses Tryz.pinned.checked.prog 5) = true := by kernel_rfl
theorem fd : (Rows.documentInsertsUptoRow.named == Program.varsNamed Tryz.pinned.checked.prog 5) = true := by kernel_rfl
theorem fe : Program.mayEnter Tryz.pinned.checked.prog = true := by kernel_rfl
theorem ff : (Rows.documentInsertsUptoRow.lifted == Program.liftsFinal Tryz.pinned.checked.prog) = true := by kernel_rfl
theorem fg : (Program.make Tryz.pinned.checked.prog == some Rows.documentInsertsUptoRow.make) = true := by kernel_rfl
theorem fh : laidOutB Tryz.pinned.checked.prog = true := by kernel_rfl
theorem facts : joinedFacts Tryz.pinned.checked.prog 5 Tryz.f5 (Rows.OpenSpec.upto Rows.documentInsertsSpec).bare Rows.documentInsertsUptoRow = true := by
  unfold joinedFacts; rw [fa, fb, fc, fd, fe, ff, fg, fh]; kernel_rfl
end Go.Proofs.YtlpphnncneppoaaGreatDoor.documentInsertsUpto
