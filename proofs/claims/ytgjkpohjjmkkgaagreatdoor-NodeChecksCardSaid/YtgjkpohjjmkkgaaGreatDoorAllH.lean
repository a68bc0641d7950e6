/- slices.Reverse at points: by the shelf's contract. No condition. -/
import Derived.Test.YtgjkpohjjmkkgaaGreatDoorRev
import Derived.Test.YtgjkpohjjmkkgaaGreatDoorRevP
namespace Go.Proofs.YtgjkpohjjmkkgaaGreatDoor.Am
open Go Go.Am
theorem mM:mL9 Tryz.prog 193 2:=
 ⟨λblk cap d w j o=>AnyQ.slices_Reverse Tryz.revN 2 Tryz.isAgg72 Tryz.sizeOf72 Chunk.l (λx=>x.len) (λx=>x.one) blk 0 cap d w j o,
  λw=>AnyQ.slices_Reverse_empty Tryz.revN none 0 w⟩
end Go.Proofs.YtgjkpohjjmkkgaaGreatDoor.Am
