/- DocumentBack: the closed facts of its row. No condition. -/
import Derived.Test.YtpanghcojpnkaaaGreatDoorCards
import Derived.JoinedCond
namespace Go.Proofs.YtpanghcojpnkaaaGreatDoor.documentBackUpto
theorem facts : joinedFacts Tryz.pinned.checked.prog 7 Tryz.f7 (Rows.OpenSpec.upto Rows.documentBackSpec).bare Rows.documentBackUptoRow = true := by kernel_rfl
end Go.Proofs.YtpanghcojpnkaaaGreatDoor.documentBackUpto
