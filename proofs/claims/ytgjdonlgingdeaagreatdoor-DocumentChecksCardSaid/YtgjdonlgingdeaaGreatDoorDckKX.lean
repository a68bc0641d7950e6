/- The reference's standard font is the program's, by the kernel. No condition. -/
import Derived.Test.YtgjdonlgingdeaaGreatDoorDckStd
namespace Go.Proofs.YtgjdonlgingdeaaGreatDoor.Am
open Go Go.Am
theorem pR4:Hr=std:=by kernel_rfl
theorem pR5:U8:=jF (by kernel_rfl)
end Go.Proofs.YtgjdonlgingdeaaGreatDoor.Am
