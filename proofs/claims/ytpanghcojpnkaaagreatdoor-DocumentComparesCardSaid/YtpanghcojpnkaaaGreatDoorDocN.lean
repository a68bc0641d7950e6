/- Split of strings by one byte answers. No condition. -/
import Derived.Test.YtpanghcojpnkaaaGreatDoorDocL
import Derived.Test.YtpanghcojpnkaaaGreatDoorDocA
namespace Go.Proofs.YtpanghcojpnkaaaGreatDoor.Am
open Go Go.Am
end Go.Proofs.YtpanghcojpnkaaaGreatDoor.Am
