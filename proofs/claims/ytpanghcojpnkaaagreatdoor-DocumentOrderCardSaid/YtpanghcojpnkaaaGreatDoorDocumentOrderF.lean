/- DocumentOrder: the closed facts of its row. No condition. -/
import Derived.Test.YtpanghcojpnkaaaGreatDoorCards
import Derived.JoinedCond
namespace Go.Proofs.YtpanghcojpnkaaaGreatDoor.documentOrder
theorem facts : joinedFacts Tryz.pinned.checked.prog 3 Tryz.f3 (OpenSpec.ofChange Rows.documentOrderSpec).bare Rows.documentOrderRow = true := by kernel_rfl
end Go.Proofs.YtpanghcojpnkaaaGreatDoor.documentOrder
