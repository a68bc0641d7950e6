/- NodeChecks: the closed facts of its row. No condition. -/
import Derived.Test.YtgjkpohjjmkkgaaGreatDoorCards
import Derived.JoinedCond
namespace Go.Proofs.YtgjkpohjjmkkgaaGreatDoor.nodeChecks
theorem facts : joinedFacts Tryz.pinned.checked.prog 3 Tryz.f3 (OpenSpec.ofChange Rows.nodeChecksSpec).bare Rows.nodeChecksRow = true := by kernel_rfl
end Go.Proofs.YtgjkpohjjmkkgaaGreatDoor.nodeChecks
