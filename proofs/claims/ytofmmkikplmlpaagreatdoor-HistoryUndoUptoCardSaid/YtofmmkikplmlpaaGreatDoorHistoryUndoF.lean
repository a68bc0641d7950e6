/- HistoryUndo: the closed facts of its row. No condition. -/
import Derived.Test.YtofmmkikplmlpaaGreatDoorCards
import Derived.JoinedCond
namespace Go.Proofs.YtofmmkikplmlpaaGreatDoor.historyUndoUpto
theorem fa : (Rows.historyUndoUptoRow.inPlace == Program.inPlace Tryz.pinned.checked.prog 3) = true := by kernel_rfl
theorem fb : (Rows.historyUndoUptoRow.unfollowed == Program.unfollowed Tryz.pinned.checked.prog 3) = true := by kernel_rfl
theorem fc : (Rows.historyUndoUptoRow.recurses == Program.recurses Tryz.pinned.checked.prog 3) = true := by kernel_rfl
theorem fd : (Rows.historyUndoUptoRow.named == Program.varsNamed Tryz.pinned.checked.prog 3) = true := by kernel_rfl
theorem fe : Program.mayEnter Tryz.pinned.checked.prog = true := by kernel_rfl
theorem ff : (Rows.historyUndoUptoRow.lifted == Program.liftsFinal Tryz.pinned.checked.prog) = true := by kernel_rfl
theorem fg : (Program.make Tryz.pinned.checked.prog == some Rows.historyUndoUptoRow.make) = true := by kernel_rfl
theorem fh : laidOutB Tryz.pinned.checked.prog = true := by kernel_rfl
theorem facts : joinedFacts Tryz.pinned.checked.prog 3 Tryz.f3 (Rows.OpenSpec.upto Rows.historyUndoSpec).bare Rows.historyUndoUptoRow = true := by
  unfold joinedFacts; rw [fa, fb, fc, fd, fe, ff, fg, fh]; kernel_rfl
end Go.Proofs.YtofmmkikplmlpaaGreatDoor.historyUndoUpto
