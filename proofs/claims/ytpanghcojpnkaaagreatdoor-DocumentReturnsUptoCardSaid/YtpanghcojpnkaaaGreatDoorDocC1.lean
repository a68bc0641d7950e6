/- Facts of the standard font, by the kernel. No condition. -/
import Derived.Test.YtpanghcojpnkaaaGreatDoorDocStd
namespace Go.Proofs.YtpanghcojpnkaaaGreatDoor.Am
open Go Go.Am
theorem pO2:f131=std:=by kernel_rfl
end Go.Proofs.YtpanghcojpnkaaaGreatDoor.Am
namespace Go.Proofs.YtpanghcojpnkaaaGreatDoor.Am
open Go Go.Am
theorem pO3:tK6:=of_decide_eq_true (by kernel_rfl)
end Go.Proofs.YtpanghcojpnkaaaGreatDoor.Am
