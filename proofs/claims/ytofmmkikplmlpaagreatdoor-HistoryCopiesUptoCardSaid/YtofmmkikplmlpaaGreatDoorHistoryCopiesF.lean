/- HistoryCopies: the closed facts of its row. No condition. -/
import Derived.Test.YtofmmkikplmlpaaGreatDoorCards
import Derived.JoinedCond
namespace Go.Proofs.YtofmmkikplmlpaaGreatDoor.historyCopiesUpto
theorem fa : (Rows.historyCopiesUptoRow.inPlace == Program.inPlace Tryz.pinned.checked.prog 6) = true := by kernel_rfl
theorem fb : (Rows.historyCopiesUptoRow.unfollowed == Program.unfollowed Tryz.pinned.checked.prog 6) = true := by kernel_rfl
theorem fc : (Rows.historyCopiesUptoRow.recurses == Program.recurses Tryz.pinned.checked.prog 6) = true := by kernel_rfl
theorem fd : (Rows.historyCopiesUptoRow.named == Program.varsNamed Tryz.pinned.checked.prog 6) = true := by kernel_rfl
theorem fe : Program.mayEnter Tryz.pinned.checked.prog = true := by kernel_rfl
theorem ff : (Rows.historyCopiesUptoRow.lifted == Program.liftsFinal Tryz.pinned.checked.prog) = true := by kernel_rfl
theorem fg : (Program.make Tryz.pinned.checked.prog == some Rows.historyCopiesUptoRow.make) = true := by kernel_rfl
theorem fh : laidOutB Tryz.pinned.checked.prog = true := by kernel_rfl
theorem facts : joinedFacts Tryz.pinned.checked.prog 6 Tryz.f6 (Rows.OpenSpec.upto Rows.historyCopiesSpec).bare Rows.historyCopiesUptoRow = true := by
  unfold joinedFacts; rw [fa, fb, fc, fd, fe, ff, fg, fh]; kernel_rfl
end Go.Proofs.YtofmmkikplmlpaaGreatDoor.historyCopiesUpto
