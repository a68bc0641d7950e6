/- HistoryNobody: the closed facts of its row. No condition. -/
import Derived.Test.YtmmpcldfjocfmaaGreatDoorCards
import Derived.JoinedCond
namespace Go.Proofs.YtmmpcldfjocfmaaGreatDoor.historyNobody
theorem fa : (Rows.historyNobodyRow.inPlace == Program.inPlace Tryz.pinned.checked.prog 3) = true := by kernel_rfl
theorem fb : (Rows.historyNobodyRow.unfollowed == Program.unfollowed Tryz.pinned.checked.prog 3) = true := by kernel_rfl
theorem fc : (Rows.historyNobodyRow.recurses == Program.recurses Tryz.pinned.checked.prog 3) = true := by kernel_rfl
theorem fd : (Rows.historyNobodyRow.named == Program.varsNamed Tryz.pinned.checked.prog 3) = true := by kernel_rfl
theorem fe : Program.mayEnter Tryz.pinned.checked.prog = true := by kernel_rfl
theorem ff : (Rows.historyNobodyRow.lifted == Program.liftsFinal Tryz.pinned.checked.prog) = true := by kernel_rfl
theorem fg : (Program.make Tryz.pinned.checked.prog == some Rows.historyNobodyRow.make) = true := by kernel_rfl
theorem fh : laidOutB Tryz.pinned.checked.prog = true := by kernel_rfl
theorem facts : joinedFacts Tryz.pinned.checked.prog 3 Tryz.f3 (OpenSpec.ofChange Rows.historyNobodySpec).bare Rows.historyNobodyRow = true := by
  unfold joinedFacts; rw [fa, fb, fc, fd, fe, ff, fg, fh]; kernel_rfl
end Go.Proofs.YtmmpcldfjocfmaaGreatDoor.historyNobody
