/- The seat's own facts, and a world in which the listed variables hold what they are listed with. No condition. -/
import Derived.Test.YtmbjipigimohbaaGreatDoorCards
import Derived.Test.YtmbjipigimohbaaGreatDoorTie
import Derived.Test.YtmbjipigimohbaaGreatDoorMach5
import Derived.WalkKit
import Derived.ProofKit
import Derived.OpenShut
import Derived.Deep.DeepHandedRow
import Derived.Deep.DeepWitnessRowRef
import Derived.Deep.DeepLaidRun
namespace Go.Proofs.YtmbjipigimohbaaGreatDoor
open Go.ChangeShapes Go.WideShapes Go.ChangeAt Go.RowKit Go.Am

theorem own : ownKnob Tryz.prog.godebug = none := by kernel_rfl
theorem laidOut : laidOutB Tryz.prog = true := by kernel_rfl

/-- The count of data, as the Rows text counts. -/
def bulkFn {H : Type} : BulkFn H where
  B := Rows.uptoBulk
  BA := Rows.uptoBulkAll
  str := fun s => by simp [Rows.uptoBulk]
  lit := fun l => by cases l <;> simp [Rows.uptoBulk]
  slice := fun e s => by simp only [Rows.uptoBulk]; omega
  agg := fun p => by simp [Rows.uptoBulk]
  nil' := by simp [Rows.uptoBulk]
  cons := fun d r => by simp [Rows.uptoBulkAll]

noncomputable def laidWorld (os : Os) : World :=
  let N := (World.settled Tryz.prog os).heap.size
  let w0 := World.holding Tryz.prog os ⟨#[.cells (rangeCells Rows.laid_unicode_White_Space).toArray 277, .cells #[.slice (some ⟨N + 0, 0, none⟩) (rangeLen Rows.laid_unicode_White_Space) (rangeLen Rows.laid_unicode_White_Space), .slice none 0 0, rangeLatin Rows.laid_unicode_White_Space] 274], #[], []⟩
  { w0 with heap := (putG (putG (putG (putG (putG w0.heap 4 (flat2 Rows.laid_unicode_utf8_acceptRanges)) 5 (flat1 Rows.laid_imageeditor_num_sines)) 1 [.pointer (some ⟨N + 1, 0, none⟩)]) 0 (flat1 Rows.laid_strings_asciiSpace)) 3 (flat1 Rows.laid_unicode_utf8_first)) }
end Go.Proofs.YtmbjipigimohbaaGreatDoor
