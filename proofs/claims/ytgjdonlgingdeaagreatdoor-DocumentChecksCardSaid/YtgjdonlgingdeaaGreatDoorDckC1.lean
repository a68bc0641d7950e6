/- The standard font: closed facts. No condition. -/
import Derived.Test.YtgjdonlgingdeaaGreatDoorDckStd
namespace Go.Proofs.YtgjdonlgingdeaaGreatDoor.Am
open Go Go.Am
theorem pP2:Iu=std:=by kernel_rfl
theorem nQ7:sH:=jF (by kernel_rfl)
end Go.Proofs.YtgjdonlgingdeaaGreatDoor.Am
