/- NodeWiths: the closed facts of its row. No condition. -/
import Derived.Test.YtleannhgpeiooaaGreatDoorCards
import Derived.JoinedCond
namespace Go.Proofs.YtleannhgpeiooaaGreatDoor.nodeWithsUpto
theorem facts : joinedFacts Tryz.pinned.checked.prog 6 Tryz.f6 (Rows.OpenSpec.upto Rows.nodeWithsSpec).bare Rows.nodeWithsUptoRow = true := by kernel_rfl
end Go.Proofs.YtleannhgpeiooaaGreatDoor.nodeWithsUpto
