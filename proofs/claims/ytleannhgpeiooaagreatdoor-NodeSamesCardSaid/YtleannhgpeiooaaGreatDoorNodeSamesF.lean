/- NodeSames: the closed facts of its row. No condition. -/
import Derived.Test.YtleannhgpeiooaaGreatDoorCards
import Derived.JoinedCond
namespace Go.Proofs.YtleannhgpeiooaaGreatDoor.nodeSames
theorem facts : joinedFacts Tryz.pinned.checked.prog 8 Tryz.f8 (OpenSpec.ofChange Rows.nodeSamesSpec).bare Rows.nodeSamesRow = true := by kernel_rfl
end Go.Proofs.YtleannhgpeiooaaGreatDoor.nodeSames
