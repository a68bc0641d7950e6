/- NodeEquals: the closed facts of its row. No condition. -/
import Derived.Test.YthjoefjcljbapaaGreatDoorCards
import Derived.JoinedCond
namespace Go.Proofs.YthjoefjcljbapaaGreatDoor.nodeEquals
theorem facts : joinedFacts Tryz.pinned.checked.prog 5 Tryz.f5 (OpenSpec.ofChange Rows.nodeEqualsSpec).bare Rows.nodeEqualsRow = true := by kernel_rfl
end Go.Proofs.YthjoefjcljbapaaGreatDoor.nodeEquals
