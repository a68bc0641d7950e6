/- DocumentReturns: the closed facts of its row. No condition. -/
import Derived.Test.YtpanghcojpnkaaaGreatDoorCards
import Derived.JoinedCond
namespace Go.Proofs.YtpanghcojpnkaaaGreatDoor.documentReturnsUpto
theorem facts : joinedFacts Tryz.pinned.checked.prog 6 Tryz.f6 (Rows.OpenSpec.upto Rows.documentReturnsSpec).bare Rows.documentReturnsUptoRow = true := by kernel_rfl
end Go.Proofs.YtpanghcojpnkaaaGreatDoor.documentReturnsUpto
