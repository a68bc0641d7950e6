/- The reference's standard font is the program's, by the kernel. No condition. -/
import Derived.Test.YtgjkpohjjmkkgaaGreatDoorAllStd
namespace Go.Proofs.YtgjkpohjjmkkgaaGreatDoor.Am
open Go Go.Am
theorem pF4:f102=std:=by kernel_rfl
theorem pF5:tI0:=jF (by kernel_rfl)
end Go.Proofs.YtgjkpohjjmkkgaaGreatDoor.Am
