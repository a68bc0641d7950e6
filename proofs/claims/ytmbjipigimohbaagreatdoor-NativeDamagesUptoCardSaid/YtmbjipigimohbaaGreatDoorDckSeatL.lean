/- The listed variables in the witness' world. No condition. -/
import Derived.Test.YtmbjipigimohbaaGreatDoorDckSeat
namespace Go.Proofs.YtmbjipigimohbaaGreatDoor
open Go.ChangeShapes Go.WideShapes Go.ChangeAt Go.RowKit Go.Am
def laidList : List (String × DataW Unit) := Rows.nativeReturnsRow.laid
theorem seat_laid (os : Os) (args : Array Value) : laidMet Tryz.checked.prog laidList ((laidWorld os).forCall (fun _ _ => 0) ⟨#[], args, []⟩).memory :=
  laidMet_of_run3 10 (by kernel_rfl) (by kernel_rfl) (by kernel_rfl)
end Go.Proofs.YtmbjipigimohbaaGreatDoor
