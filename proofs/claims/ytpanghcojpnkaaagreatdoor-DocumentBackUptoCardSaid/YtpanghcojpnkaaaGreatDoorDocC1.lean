/- Facts of the standard font, by the kernel. No condition. -/
import Derived.Test.YtpanghcojpnkaaaGreatDoorDocStd
namespace Go.Proofs.YtpanghcojpnkaaaGreatDoor.Am
open Go Go.Am
theorem qX2:f131=std:=by kernel_rfl
end Go.Proofs.YtpanghcojpnkaaaGreatDoor.Am
namespace Go.Proofs.YtpanghcojpnkaaaGreatDoor.Am
open Go Go.Am
theorem qX3:tG1:=jF (by kernel_rfl)
end Go.Proofs.YtpanghcojpnkaaaGreatDoor.Am
