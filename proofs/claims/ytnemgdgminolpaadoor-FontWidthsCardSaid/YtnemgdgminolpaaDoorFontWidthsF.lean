/- FontWidths: the closed facts of its row. No condition. -/
import Derived.Test.YtnemgdgminolpaaDoorCards
import Derived.JoinedCond
namespace Go.Proofs.YtnemgdgminolpaaDoor.fontWidths
theorem facts : joinedFacts Tryd.pinned.checked.prog 4 Tryd.f4 (OpenSpec.ofChange Rows.fontWidthsSpec).bare Rows.fontWidthsRow = true := by kernel_rfl
end Go.Proofs.YtnemgdgminolpaaDoor.fontWidths
