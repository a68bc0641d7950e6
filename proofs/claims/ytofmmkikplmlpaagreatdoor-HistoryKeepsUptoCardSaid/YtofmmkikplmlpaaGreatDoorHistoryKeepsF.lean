/- HistoryKeeps: the closed facts of its row. No condition. -/
import Derived.Test.YtofmmkikplmlpaaGreatDoorCards
import Derived.JoinedCond
namespace Go.Proofs.YtofmmkikplmlpaaGreatDoor.historyKeepsUpto
theorem fa : (Rows.historyKeepsUptoRow.inPlace == Program.inPlace Tryz.pinned.checked.prog 4) = true := by kernel_rfl
theorem fb : (Rows.historyKeepsUptoRow.unfollowed == Program.unfollowed Tryz.pinned.checked.prog 4) = true := by kernel_rfl
theorem fc : (Rows.historyKeepsUptoRow.recurses == Program.recurses Tryz.pinned.checked.prog 4) = true := by kernel_rfl
theorem fd : (Rows.historyKeepsUptoRow.named == Program.varsNamed Tryz.pinned.checked.prog 4) = true := by kernel_rfl
theorem fe : Program.mayEnter Tryz.pinned.checked.prog = true := by kernel_rfl
theorem ff : (Rows.historyKeepsUptoRow.lifted == Program.liftsFinal Tryz.pinned.checked.prog) = true := by kernel_rfl
theorem fg : (Program.make Tryz.pinned.checked.prog == some Rows.historyKeepsUptoRow.make) = true := by kernel_rfl
theorem fh : laidOutB Tryz.pinned.checked.prog = true := by kernel_rfl
theorem facts : joinedFacts Tryz.pinned.checked.prog 4 Tryz.f4 (Rows.OpenSpec.upto Rows.historyKeepsSpec).bare Rows.historyKeepsUptoRow = true := by
  unfold joinedFacts; rw [fa, fb, fc, fd, fe, ff, fg, fh]; kernel_rfl
end Go.Proofs.YtofmmkikplmlpaaGreatDoor.historyKeepsUpto
