/- node.Check answers for every node: strokes. Condition: the polygons of a path. -/
import Derived.Test.YtpanghcojpnkaaaGreatDoorDocB
namespace Go.Proofs.YtpanghcojpnkaaaGreatDoor.Am
open Go Go.Am
end Go.Proofs.YtpanghcojpnkaaaGreatDoor.Am
