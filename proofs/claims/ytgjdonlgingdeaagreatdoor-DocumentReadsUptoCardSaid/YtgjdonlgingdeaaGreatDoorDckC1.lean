/- The standard font: closed facts. No condition. -/
import Derived.Test.YtgjdonlgingdeaaGreatDoorDckStd
namespace Go.Proofs.YtgjdonlgingdeaaGreatDoor.Am
open Go Go.Am
theorem pS5:Iw=std:=by kernel_rfl
theorem nU4:TI:=jF (by kernel_rfl)
end Go.Proofs.YtgjdonlgingdeaaGreatDoor.Am
