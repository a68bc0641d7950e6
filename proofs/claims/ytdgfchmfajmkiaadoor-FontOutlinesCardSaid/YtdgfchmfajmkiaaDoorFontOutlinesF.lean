/- FontOutlines: the closed facts of its row. No condition. -/
import Derived.Test.YtdgfchmfajmkiaaDoorCards
import Derived.JoinedCond
namespace Go.Proofs.YtdgfchmfajmkiaaDoor.fontOutlines
theorem facts : joinedFacts Tryd.pinned.checked.prog 3 Tryd.f3 (OpenSpec.ofChange Rows.fontOutlinesSpec).bare Rows.fontOutlinesRow = true := by kernel_rfl
end Go.Proofs.YtdgfchmfajmkiaaDoor.fontOutlines
