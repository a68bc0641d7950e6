/- The reference's standard font is the program's, by the kernel. No condition. -/
import Derived.Test.YtadggmnllfgjcaaGreatDoorDckStd
namespace Go.Proofs.YtadggmnllfgjcaaGreatDoor.Am
open Go Go.Am
theorem oI2:HU=std:=by kernel_rfl
theorem oI3:WS:=jF (by kernel_rfl)
end Go.Proofs.YtadggmnllfgjcaaGreatDoor.Am
