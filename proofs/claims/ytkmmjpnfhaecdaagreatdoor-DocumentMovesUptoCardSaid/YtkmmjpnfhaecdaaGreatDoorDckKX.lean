/- The reference's standard font is the program's, by the kernel. No condition. -/
import Derived.Test.YtkmmjpnfhaecdaaGreatDoorDckStd
namespace Go.Proofs.YtkmmjpnfhaecdaaGreatDoor.Am
open Go Go.Am
theorem oA1:HQ=std:=by kernel_rfl
theorem oA2:VC:=jF (by kernel_rfl)
end Go.Proofs.YtkmmjpnfhaecdaaGreatDoor.Am
