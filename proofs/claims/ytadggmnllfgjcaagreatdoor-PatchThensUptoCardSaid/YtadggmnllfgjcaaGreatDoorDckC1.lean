/- The standard font: closed facts. No condition. -/
import Derived.Test.YtadggmnllfgjcaaGreatDoorDckStd
namespace Go.Proofs.YtadggmnllfgjcaaGreatDoor.Am
open Go Go.Am
theorem oG0:IL=std:=by kernel_rfl
theorem mH3:V9:=jF (by kernel_rfl)
end Go.Proofs.YtadggmnllfgjcaaGreatDoor.Am
