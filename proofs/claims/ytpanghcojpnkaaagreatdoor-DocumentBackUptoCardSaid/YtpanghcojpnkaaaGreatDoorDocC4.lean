/- Facts of the standard font, by the kernel. No condition. -/
import Derived.Test.YtpanghcojpnkaaaGreatDoorDocStd
namespace Go.Proofs.YtpanghcojpnkaaaGreatDoor.Am
open Go Go.Am
theorem qX5:tE5 std:=jF (by kernel_rfl)
end Go.Proofs.YtpanghcojpnkaaaGreatDoor.Am
namespace Go.Proofs.YtpanghcojpnkaaaGreatDoor.Am
open Go Go.Am
theorem qJ6:(f148 std).1=std:=by kernel_rfl
theorem rK6:(f148 std).2.1.length=256:=by kernel_rfl
theorem qX6:(f148 std).2.1.all (fun g=>decide (-1≤g)&&decide (g<95))=true:=by kernel_rfl
end Go.Proofs.YtpanghcojpnkaaaGreatDoor.Am
