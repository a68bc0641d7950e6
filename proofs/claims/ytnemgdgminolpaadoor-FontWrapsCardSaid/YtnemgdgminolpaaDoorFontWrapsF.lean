/- FontWraps: the closed facts of its row. No condition. -/
import Derived.Test.YtnemgdgminolpaaDoorCards
import Derived.JoinedCond
namespace Go.Proofs.YtnemgdgminolpaaDoor.fontWraps
theorem facts : joinedFacts Tryd.pinned.checked.prog 7 Tryd.f7 (OpenSpec.ofChange Rows.fontWrapsSpec).bare Rows.fontWrapsRow = true := by kernel_rfl
end Go.Proofs.YtnemgdgminolpaaDoor.fontWraps
