/- PatchAsks: the closed facts of its row. No condition. -/
import Derived.Test.YtcjaalnbodmdgaaGreatDoorCards
import Derived.JoinedCond
namespace Go.Proofs.YtcjaalnbodmdgaaGreatDoor.patchAsksUpto
theorem facts : joinedFacts Tryz.pinned.checked.prog 3 Tryz.f3 (Rows.OpenSpec.upto Rows.patchAsksSpec).bare Rows.patchAsksUptoRow = true := by kernel_rfl
end Go.Proofs.YtcjaalnbodmdgaaGreatDoor.patchAsksUpto
