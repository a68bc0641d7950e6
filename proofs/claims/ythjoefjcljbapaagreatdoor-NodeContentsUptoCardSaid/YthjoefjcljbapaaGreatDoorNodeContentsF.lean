/- NodeContents: the closed facts of its row. No condition. -/
import Derived.Test.YthjoefjcljbapaaGreatDoorCards
import Derived.JoinedCond
namespace Go.Proofs.YthjoefjcljbapaaGreatDoor.nodeContentsUpto
theorem facts : joinedFacts Tryz.pinned.checked.prog 4 Tryz.f4 (Rows.OpenSpec.upto Rows.nodeContentsSpec).bare Rows.nodeContentsUptoRow = true := by kernel_rfl
end Go.Proofs.YthjoefjcljbapaaGreatDoor.nodeContentsUpto
