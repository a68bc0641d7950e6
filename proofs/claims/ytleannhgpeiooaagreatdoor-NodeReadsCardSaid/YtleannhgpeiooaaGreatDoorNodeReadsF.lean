/- NodeReads: the closed facts of its row. No condition. -/
import Derived.Test.YtleannhgpeiooaaGreatDoorCards
import Derived.JoinedCond
namespace Go.Proofs.YtleannhgpeiooaaGreatDoor.nodeReads
theorem facts : joinedFacts Tryz.pinned.checked.prog 5 Tryz.f5 (OpenSpec.ofChange Rows.nodeReadsSpec).bare Rows.nodeReadsRow = true := by kernel_rfl
end Go.Proofs.YtleannhgpeiooaaGreatDoor.nodeReads
