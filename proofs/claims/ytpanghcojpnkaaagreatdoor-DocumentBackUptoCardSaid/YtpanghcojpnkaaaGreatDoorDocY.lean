/- Plain laws of documents and patches: documents found equal are the same; copies; joining lists. Condition: the value a Go value can be. -/
import Derived.Test.YtpanghcojpnkaaaGreatDoorDocX
import Derived.Test.YtpanghcojpnkaaaGreatDoorMach4
namespace Go.Proofs.YtpanghcojpnkaaaGreatDoor.Am
open Go Go.Am
end Go.Proofs.YtpanghcojpnkaaaGreatDoor.Am
