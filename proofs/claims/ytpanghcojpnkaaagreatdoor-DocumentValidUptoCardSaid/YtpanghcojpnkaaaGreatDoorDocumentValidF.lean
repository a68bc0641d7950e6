/- DocumentValid: the closed facts of its row. No condition. -/
import Derived.Test.YtpanghcojpnkaaaGreatDoorCards
import Derived.JoinedCond
namespace Go.Proofs.YtpanghcojpnkaaaGreatDoor.documentValidUpto
theorem facts : joinedFacts Tryz.pinned.checked.prog 4 Tryz.f4 (Rows.OpenSpec.upto Rows.documentValidSpec).bare Rows.documentValidUptoRow = true := by kernel_rfl
end Go.Proofs.YtpanghcojpnkaaaGreatDoor.documentValidUpto
