/- slices.Insert and slices.Delete at nodes. No condition. -/
import Derived.Test.YtmbjipigimohbaaGreatDoorRev
import Derived.Test.YtmbjipigimohbaaGreatDoorRevP
import Derived.Test.YtmbjipigimohbaaGreatDoorProg
import Derived.Shelf.RegionOpenPlain
import Derived.WalkKit
import Derived.Lib.Hide
import Derived.Deep.RegionLaw
namespace Go.Proofs.YtmbjipigimohbaaGreatDoor.Am
open Go Go.Am Go.Proofs Go.RowKit Go.Shelf Go.Lib
def zQ (P:Program)(T n:Nat):Bool:=
 match P.info? T with
 |some i=>Nat.beq i.size n&&Nat.ble i.bytes 32768&&(match i.zero with|some z=>Nat.beq z.cells.size n&&z.cells.toList.all (fun v=>v.oneCell')|none=>false)
 |none=>false
theorem zN4 {P:Program}{T n:Nat}(h:zQ P T n=true):∃ i z,P.info? T=some i∧i.zero=some z∧i.size=n∧i.bytes≤32768∧z.cells.size=n∧∀ v∈z.cells.toList,v.oneCell'=true:=by
 unfold zQ at h;split at h
 ·simp only[Bool.and_eq_true] at h;obtain⟨⟨h1,h2⟩,h3⟩:=h;split at h3
  ·simp only[Bool.and_eq_true,List.all_eq_true] at h3;simp_all
  grind
 grind
theorem pM4:pM3 Tryz.prog 191 2:=
 ⟨fun blk cap d w hH hs=>AnyQ.slices_Reverse Tryz.revN 2 Tryz.isAgg100 Tryz.sizeOf100 Chunk.l (fun x=>x.len) (fun x=>x.one) blk 0 cap d w hH hs,
  fun w=>AnyQ.slices_Reverse_empty Tryz.revN none 0 w⟩
end Go.Proofs.YtmbjipigimohbaaGreatDoor.Am
