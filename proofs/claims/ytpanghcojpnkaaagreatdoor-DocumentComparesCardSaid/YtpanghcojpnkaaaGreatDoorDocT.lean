/- node.Check answers for every node: texts, up to the lines. No condition. -/
import Derived.Test.YtpanghcojpnkaaaGreatDoorDocN
import Derived.Test.YtpanghcojpnkaaaGreatDoorDocB
import Derived.Test.YtpanghcojpnkaaaGreatDoorDocC1
import Derived.Test.YtpanghcojpnkaaaGreatDoorDocC2
import Derived.Test.YtpanghcojpnkaaaGreatDoorDocC3
import Derived.Test.YtpanghcojpnkaaaGreatDoorDocC4
import Derived.Test.YtpanghcojpnkaaaGreatDoorDocC5
import Derived.Test.YtpanghcojpnkaaaGreatDoorDocC6
import Derived.Test.YtpanghcojpnkaaaGreatDoorMach4
namespace Go.Proofs.YtpanghcojpnkaaaGreatDoor.Am
open Go Go.Am
end Go.Proofs.YtpanghcojpnkaaaGreatDoor.Am
