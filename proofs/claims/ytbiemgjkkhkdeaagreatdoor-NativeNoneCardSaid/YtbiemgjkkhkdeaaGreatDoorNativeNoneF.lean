/- NativeNone: the closed facts of its row. No condition. -/
import Derived.Test.YtbiemgjkkhkdeaaGreatDoorCards
import Derived.JoinedCond
namespace Go.Proofs.YtbiemgjkkhkdeaaGreatDoor.nativeNone
theorem fa : (Rows.nativeNoneRow.inPlace == Program.inPlace Tryz.pinned.checked.prog 5) = true := by kernel_rfl
theorem fb : (Rows.nativeNoneRow.unfollowed == Program.unfollowed Tryz.pinned.checked.prog 5) = true := by kernel_rfl
theorem fc : (Rows.nativeNoneRow.recurses == Program.recurses Tryz.pinned.checked.prog 5) = true := by kernel_rfl
theorem fd : (Rows.nativeNoneRow.named == Program.varsNamed Tryz.pinned.checked.prog 5) = true := by kernel_rfl
theorem fe : Program.mayEnter Tryz.pinned.checked.prog = true := by kernel_rfl
theorem ff : (Rows.nativeNoneRow.lifted == Program.liftsFinal Tryz.pinned.checked.prog) = true := by kernel_rfl
theorem fg : (Program.make Tryz.pinned.checked.prog == some Rows.nativeNoneRow.make) = true := by kernel_rfl
theorem fh : laidOutB Tryz.pinned.checked.prog = true := by kernel_rfl
theorem facts : joinedFacts Tryz.pinned.checked.prog 5 Tryz.f5 (OpenSpec.ofChange Rows.nativeNoneSpec).bare Rows.nativeNoneRow = true := by
  unfold joinedFacts; rw [fa, fb, fc, fd, fe, ff, fg, fh]; kernel_rfl
end Go.Proofs.YtbiemgjkkhkdeaaGreatDoor.nativeNone
