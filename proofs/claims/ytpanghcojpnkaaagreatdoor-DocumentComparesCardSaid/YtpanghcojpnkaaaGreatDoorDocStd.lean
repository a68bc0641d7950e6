/- The standard font, laid out. No condition. -/
import Derived.Test.YtpanghcojpnkaaaGreatDoorDocP4
namespace Go.Proofs.YtpanghcojpnkaaaGreatDoor.Am
open Go Go.Am
end Go.Proofs.YtpanghcojpnkaaaGreatDoor.Am
