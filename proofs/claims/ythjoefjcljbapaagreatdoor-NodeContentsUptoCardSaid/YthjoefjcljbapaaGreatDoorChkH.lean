/- slices.Reverse at points: by the shelf's contract. No condition. -/
import Derived.Test.YthjoefjcljbapaaGreatDoorRev
import Derived.Test.YthjoefjcljbapaaGreatDoorTryzRevP
namespace Go.Proofs.YthjoefjcljbapaaGreatDoor.Am
open Go Go.Am
theorem rev_ok : RevOk Tryz.prog 133 2 :=
  ⟨fun blk cap d w hH hs => AnyQ.slices_Reverse Tryz.revN 2 Tryz.isAgg56 Tryz.sizeOf56 Chunk.l (fun x => x.len) (fun x => x.one) blk 0 cap d w hH hs,
   fun w => AnyQ.slices_Reverse_empty Tryz.revN none 0 w⟩
end Go.Proofs.YthjoefjcljbapaaGreatDoor.Am
