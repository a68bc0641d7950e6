/- FontLines: the closed facts of its row. No condition. -/
import Derived.Test.YtnemgdgminolpaaDoorCards
import Derived.JoinedCond
namespace Go.Proofs.YtnemgdgminolpaaDoor.fontLines
theorem facts : joinedFacts Tryd.pinned.checked.prog 5 Tryd.f5 (OpenSpec.ofChange Rows.fontLinesSpec).bare Rows.fontLinesRow = true := by kernel_rfl
end Go.Proofs.YtnemgdgminolpaaDoor.fontLines
