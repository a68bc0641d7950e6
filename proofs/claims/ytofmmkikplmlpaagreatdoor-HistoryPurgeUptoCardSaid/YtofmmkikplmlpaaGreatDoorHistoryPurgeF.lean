/- HistoryPurge: the closed facts of its row. No condition. -/
import Derived.Test.YtofmmkikplmlpaaGreatDoorCards
import Derived.JoinedCond
namespace Go.Proofs.YtofmmkikplmlpaaGreatDoor.historyPurgeUpto
theorem fa : (Rows.historyPurgeUptoRow.inPlace == Program.inPlace Tryz.pinned.checked.prog 5) = true := by kernel_rfl
theorem fb : (Rows.historyPurgeUptoRow.unfollowed == Program.unfollowed Tryz.pinned.checked.prog 5) = true := by kernel_rfl
theorem fc : (Rows.historyPurgeUptoRow.recurses == Program.recurses Tryz.pinned.checked.prog 5) = true := by kernel_rfl
theorem fd : (Rows.historyPurgeUptoRow.named == Program.varsNamed Tryz.pinned.checked.prog 5) = true := by kernel_rfl
theorem fe : Program.mayEnter Tryz.pinned.checked.prog = true := by kernel_rfl
theorem ff : (Rows.historyPurgeUptoRow.lifted == Program.liftsFinal Tryz.pinned.checked.prog) = true := by kernel_rfl
theorem fg : (Program.make Tryz.pinned.checked.prog == some Rows.historyPurgeUptoRow.make) = true := by kernel_rfl
theorem fh : laidOutB Tryz.pinned.checked.prog = true := by kernel_rfl
theorem facts : joinedFacts Tryz.pinned.checked.prog 5 Tryz.f5 (Rows.OpenSpec.upto Rows.historyPurgeSpec).bare Rows.historyPurgeUptoRow = true := by
  unfold joinedFacts; rw [fa, fb, fc, fd, fe, ff, fg, fh]; kernel_rfl
end Go.Proofs.YtofmmkikplmlpaaGreatDoor.historyPurgeUpto
