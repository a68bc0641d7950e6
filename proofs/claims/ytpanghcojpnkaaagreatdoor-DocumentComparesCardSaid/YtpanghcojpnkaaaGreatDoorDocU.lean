/- node.Check answers for every node: texts. No condition. -/
import Derived.Test.YtpanghcojpnkaaaGreatDoorDocT
import Derived.Test.YtpanghcojpnkaaaGreatDoorDocO
namespace Go.Proofs.YtpanghcojpnkaaaGreatDoor.Am
open Go Go.Am
end Go.Proofs.YtpanghcojpnkaaaGreatDoor.Am
