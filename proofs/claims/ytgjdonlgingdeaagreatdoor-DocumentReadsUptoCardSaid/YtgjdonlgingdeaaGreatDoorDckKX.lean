/- The reference's standard font is the program's, by the kernel. No condition. -/
import Derived.Test.YtgjdonlgingdeaaGreatDoorDckStd
namespace Go.Proofs.YtgjdonlgingdeaaGreatDoor.Am
open Go Go.Am
theorem pU7:Hw=std:=by kernel_rfl
theorem pU8:Vy:=jF (by kernel_rfl)
end Go.Proofs.YtgjdonlgingdeaaGreatDoor.Am
