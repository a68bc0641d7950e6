/- Facts of the standard font, by the kernel. No condition. -/
import Derived.Test.YtpanghcojpnkaaaGreatDoorDocStd
namespace Go.Proofs.YtpanghcojpnkaaaGreatDoor.Am
open Go Go.Am
theorem qX4:tE std:=jF (by kernel_rfl)
theorem rS7:std.2.2.2.1.length=95:=by kernel_rfl
end Go.Proofs.YtpanghcojpnkaaaGreatDoor.Am
