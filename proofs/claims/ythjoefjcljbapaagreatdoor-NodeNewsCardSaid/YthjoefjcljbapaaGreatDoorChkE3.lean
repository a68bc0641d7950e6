/- The new node of each kind, by the kernel. No condition. -/
import Derived.Test.YthjoefjcljbapaaGreatDoorChkV
namespace Go.Proofs.YthjoefjcljbapaaGreatDoor.Am
open Go Go.Am

instance (p : D37) : Decidable (NodeFit p) := by
  unfold NodeFit
  infer_instance
def newsK (k : Int) : Bool := decide (f6_ok k) && decide (f7_ok k) && ((f6 k).2.1 == 0) && ((f7 k).2.1 == 0) && decide (f8_ok (f6 k).1 (f7 k).1) && f8 (f6 k).1 (f7 k).1 && (f9 k == f10 k) && decide (NodeFit (f6 k).1) && (f11 (f6 k).1 8 8 == 0) && ((f6 k).1.2.2.2.2.2.2.2.2.2.1.1 == 0)
theorem news_all : ([1, 2, 3, 4, 5, 6, 7, 8, 9, 10, 11] : List Int).all newsK = true := by kernel_rfl
end Go.Proofs.YthjoefjcljbapaaGreatDoor.Am
