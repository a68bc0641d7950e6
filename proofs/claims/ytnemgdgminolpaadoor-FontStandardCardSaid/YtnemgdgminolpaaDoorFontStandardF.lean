/- FontStandard: the closed facts of its row. No condition. -/
import Derived.Test.YtnemgdgminolpaaDoorCards
import Derived.JoinedCond
namespace Go.Proofs.YtnemgdgminolpaaDoor.fontStandard
theorem facts : joinedFacts Tryd.pinned.checked.prog 3 Tryd.f3 (OpenSpec.ofChange Rows.fontStandardSpec).bare Rows.fontStandardRow = true := by kernel_rfl
end Go.Proofs.YtnemgdgminolpaaDoor.fontStandard
