/- NodeNews: the closed facts of its row. No condition. -/
import Derived.Test.YthjoefjcljbapaaGreatDoorCards
import Derived.JoinedCond
namespace Go.Proofs.YthjoefjcljbapaaGreatDoor.nodeNews
theorem facts : joinedFacts Tryz.pinned.checked.prog 3 Tryz.f3 (OpenSpec.ofChange Rows.nodeNewsSpec).bare Rows.nodeNewsRow = true := by kernel_rfl
end Go.Proofs.YthjoefjcljbapaaGreatDoor.nodeNews
