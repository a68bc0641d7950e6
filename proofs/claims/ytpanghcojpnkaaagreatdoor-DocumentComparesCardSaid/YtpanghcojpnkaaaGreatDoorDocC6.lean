/- Facts of the standard font, by the kernel. No condition. -/
import Derived.Test.YtpanghcojpnkaaaGreatDoorDocStd
namespace Go.Proofs.YtpanghcojpnkaaaGreatDoor.Am
open Go Go.Am
end Go.Proofs.YtpanghcojpnkaaaGreatDoor.Am
