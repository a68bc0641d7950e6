import Derived.Test.YtcjaalnbodmdgaaGreatDoorPatch2
namespace Go.Proofs.YtcjaalnbodmdgaaGreatDoor.Am
open Go Go.Am
set_option maxRecDepth 100000
theorem awake_true : f11 = true := by kernel_rfl
theorem awake_ok : f11_ok := of_decide_eq_true (by kernel_rfl)
