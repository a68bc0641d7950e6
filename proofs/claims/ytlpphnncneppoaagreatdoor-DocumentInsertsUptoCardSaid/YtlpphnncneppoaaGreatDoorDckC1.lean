/- The standard font: closed facts. No condition. -/
import Derived.Test.YtlpphnncneppoaaGreatDoorDckStd
namespace Go.Proofs.YtlpphnncneppoaaGreatDoor.Am
open Go Go.Am
theorem pR7:I4=std:=by kernel_rfl
theorem nP7:TH:=jF (by kernel_rfl)
end Go.Proofs.YtlpphnncneppoaaGreatDoor.Am
