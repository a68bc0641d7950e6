/- node.Check answers for every node. Condition: lengths of Go slices. -/
import Derived.Test.YtpanghcojpnkaaaGreatDoorDocU
namespace Go.Proofs.YtpanghcojpnkaaaGreatDoor.Am
open Go Go.Am
end Go.Proofs.YtpanghcojpnkaaaGreatDoor.Am
