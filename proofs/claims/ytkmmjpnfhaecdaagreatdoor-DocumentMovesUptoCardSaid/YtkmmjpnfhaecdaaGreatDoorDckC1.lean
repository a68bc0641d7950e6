/- The standard font: closed facts. No condition. -/
import Derived.Test.YtkmmjpnfhaecdaaGreatDoorDckStd
namespace Go.Proofs.YtkmmjpnfhaecdaaGreatDoor.Am
open Go Go.Am
theorem pY:IH=std:=by kernel_rfl
theorem mA:Uc:=jF (by kernel_rfl)
end Go.Proofs.YtkmmjpnfhaecdaaGreatDoor.Am
