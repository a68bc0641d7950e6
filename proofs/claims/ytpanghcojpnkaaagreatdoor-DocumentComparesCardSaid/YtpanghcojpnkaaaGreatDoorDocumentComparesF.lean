/- DocumentCompares: the closed facts of its row. No condition. -/
import Derived.Test.YtpanghcojpnkaaaGreatDoorCards
import Derived.JoinedCond
namespace Go.Proofs.YtpanghcojpnkaaaGreatDoor.documentCompares
theorem facts : joinedFacts Tryz.pinned.checked.prog 5 Tryz.f5 (OpenSpec.ofChange Rows.documentComparesSpec).bare Rows.documentComparesRow = true := by kernel_rfl
end Go.Proofs.YtpanghcojpnkaaaGreatDoor.documentCompares
