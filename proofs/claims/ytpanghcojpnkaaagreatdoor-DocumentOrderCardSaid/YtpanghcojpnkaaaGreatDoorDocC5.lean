/- Facts of the standard font, by the kernel. No condition. -/
import Derived.Test.YtpanghcojpnkaaaGreatDoorDocStd
namespace Go.Proofs.YtpanghcojpnkaaaGreatDoor.Am
open Go Go.Am
theorem qA1:(f148 std).1 = std:=by kernel_rfl
theorem rC6:(f148 std).2.1.length = 256:=by kernel_rfl
theorem qS0:(f148 std).2.1.all (fun g=>decide (-1 ≤ g) && decide (g < 95)) = true:=by kernel_rfl
end Go.Proofs.YtpanghcojpnkaaaGreatDoor.Am
