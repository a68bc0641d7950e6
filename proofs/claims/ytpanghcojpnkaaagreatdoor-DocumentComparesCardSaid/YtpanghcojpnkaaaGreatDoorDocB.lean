/- node.Check answers for every node: paths. Condition: lengths of Go slices. -/
import Derived.Test.YtpanghcojpnkaaaGreatDoorDocA
namespace Go.Proofs.YtpanghcojpnkaaaGreatDoor.Am
open Go Go.Am
end Go.Proofs.YtpanghcojpnkaaaGreatDoor.Am
