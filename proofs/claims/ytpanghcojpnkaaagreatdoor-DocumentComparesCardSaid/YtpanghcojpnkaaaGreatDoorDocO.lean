/- node.Check answers for every node: the outlines of strokes. Condition: the polygons of a path. -/
import Derived.Test.YtpanghcojpnkaaaGreatDoorDocS
namespace Go.Proofs.YtpanghcojpnkaaaGreatDoor.Am
open Go Go.Am
end Go.Proofs.YtpanghcojpnkaaaGreatDoor.Am
