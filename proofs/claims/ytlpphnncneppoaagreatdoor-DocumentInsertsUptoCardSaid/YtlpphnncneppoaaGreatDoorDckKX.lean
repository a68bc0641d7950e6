/- The reference's standard font is the program's, by the kernel. No condition. -/
import Derived.Test.YtlpphnncneppoaaGreatDoorDckStd
namespace Go.Proofs.YtlpphnncneppoaaGreatDoor.Am
open Go Go.Am
theorem pT9:H9=std:=by kernel_rfl
theorem pU:Vh:=jF (by kernel_rfl)
end Go.Proofs.YtlpphnncneppoaaGreatDoor.Am
