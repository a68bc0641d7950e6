/- FontBegins: the closed facts of its row. No condition. -/
import Derived.Test.YtnemgdgminolpaaDoorCards
import Derived.JoinedCond
namespace Go.Proofs.YtnemgdgminolpaaDoor.fontBegins
theorem facts : joinedFacts Tryd.pinned.checked.prog 8 Tryd.f8 (OpenSpec.ofChange Rows.fontBeginsSpec).bare Rows.fontBeginsRow = true := by kernel_rfl
end Go.Proofs.YtnemgdgminolpaaDoor.fontBegins
