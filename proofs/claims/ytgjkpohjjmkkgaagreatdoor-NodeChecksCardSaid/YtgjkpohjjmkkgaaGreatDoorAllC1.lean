/- The standard font: closed facts. No condition. -/
import Derived.Test.YtgjkpohjjmkkgaaGreatDoorAllStd
namespace Go.Proofs.YtgjkpohjjmkkgaaGreatDoor.Am
open Go Go.Am
theorem oN3:f82=std:=by kernel_rfl
theorem mF6:rU6:=jF (by kernel_rfl)
end Go.Proofs.YtgjkpohjjmkkgaaGreatDoor.Am
