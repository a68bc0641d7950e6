/- slices.Insert and slices.Delete at nodes. No condition. -/
import Derived.Test.YtmmpcldfjocfmaaGreatDoorIns
import Derived.Test.YtmmpcldfjocfmaaGreatDoorRev
import Derived.Test.YtmmpcldfjocfmaaGreatDoorRevP
import Derived.Test.YtmmpcldfjocfmaaGreatDoorProg
import Derived.Shelf.RegionOpenPlain
import Derived.WalkKit
import Derived.Lib.Hide
import Derived.Lib.Overlaps
import Derived.Lib.AppendZerosOnto
import Derived.Deep.RegionLaw
import Derived.Shelf.Spec.SlicesInsert
namespace Go.Proofs.YtmmpcldfjocfmaaGreatDoor.Am
open Go Go.Am Go.Proofs Go.RowKit Go.Shelf Go.Lib
def zP2 (P:Program)(T n:Nat):Bool:=
 match P.info? T with
 |some i=>Nat.beq i.size n&&Nat.ble i.bytes 32768&&(match i.zero with|some z=>Nat.beq z.cells.size n&&z.cells.toList.all (fun v=>v.oneCell')|none=>false)
 |none=>false
theorem zM2 {P:Program}{T n:Nat}(h:zP2 P T n=true):∃ i z,P.info? T=some i∧i.zero=some z∧i.size=n∧i.bytes≤32768∧z.cells.size=n∧∀ v∈z.cells.toList,v.oneCell'=true:=by
 unfold zP2 at h;split at h
 ·simp only[Bool.and_eq_true] at h;obtain⟨⟨h1,h2⟩,h3⟩:=h;split at h3
  ·simp only[Bool.and_eq_true,List.all_eq_true] at h3;simp_all
  grind
 grind
theorem sY3 {w:World}{b N:Nat}{cur:Array Value}{e:TypeId}{cs:List Value}(h:w.heap[b]?=some (.cells cur e (0,0)))(ht:cur.toList.take N=cs){j:Nat}{v:Value}(hj:cs[j]?=some v):w.cell? ⟨b,j,none⟩=some v:=by
 rw[← ht,List.getElem?_take] at hj;split at hj
 ·simp[World.cell?,h];simpa using hj
 ·cases hj
theorem tR8 {w:World}{b o:Nat}{cur:Array Value}{e:TypeId}{vs:List Value}(h:w.heap[b]?=some (.cells cur e (0,0)))(hf:o+vs.length≤cur.size) :
  ∃ c1:Array Value,Turned w (w.setCells b o vs) b c1 e∧c1.toList=cur.toList.take o++(vs++cur.toList.drop (o+vs.length)):=by
 obtain⟨c1,h1,h2⟩:=zJ b e (0,0) vs o w cur h hf;obtain⟨s1,s2,s3⟩:=yF3 b vs o w;exact⟨c1,⟨s1,s2,s3,Nat.le_of_eq (zQ7 b vs o w).symm,h1,fun k _ hk=>zE3 b vs o w k hk⟩,h2⟩
theorem qG {z:Value}{i0:TypeInfo}(hi:Tryz.prog.info? 62=some i0)(hz:i0.zero=some z)(w:World):(zeroValue 62).run Tryz.prog w=.ok z w:=by
 simp_all [zeroValue,typeInfo]
set_option maxHeartbeats 4000000 in
set_option maxRecDepth 100000 in
theorem rF2:rY4 Tryz.prog 25 14:=by
 intro b n c i j cur e0 cs w hij hj hnc hcm hcl h1c hb hcur hct;obtain⟨i0,z,hi0,hz,hs,hby,hzs,hz1c⟩:=zM2 (P:=Tryz.prog) (T:=62) (n:=14) (by kernel_rfl);obtain⟨news,hnews⟩:∃ news,news=cs.drop (j*14):=⟨_,rfl⟩;have hlen:news.length=(n-j)*14:=by grind
 have hjn:j*14≤n*14:=Nat.mul_le_mul_right _ hj;have hij3:i*14≤j*14:=Nat.mul_le_mul_right _ (by omega);have hnc3:n*14≤c*14:=Nat.mul_le_mul_right _ hnc;have hsub:(n-j)*14=n*14-j*14:=Nat.sub_mul ..;have hfit:i*14+news.length≤cur.size:=by grind
 obtain⟨A,hA,hsrc⟩:∃ A:Addr,(if c=j then some (⟨b,0,none⟩:Addr) else some ⟨b,j*14,none⟩)=some A∧Hid (∀ t u,news[t]?=some u→w.drew.cell? (A.add t)=some u):=by
  by_cases h:c=j
  ·refine⟨⟨b,0,none⟩,by grind,fun t u hu=>?_⟩
   grind
  ·refine⟨⟨b,j*14,none⟩,by grind,fun t u hu=>?_⟩;rw[Addr.add_lit];exact sY3 (w:=w) hb hct (by grind)
 have s1:Hid (news.length=(n-j)*14):=hlen;have s2:Hid (∀ u∈news,u.oneCell'=true):=fun u hu=>h1c u (List.mem_of_mem_drop (by rw[← hnews];grind));have s3:Hid (∀ t,t<news.length→(w.drew.cell? ⟨b,0+i*14+t,none⟩).isSome=true∧w.drew.frozen? ⟨b,0+i*14+t,none⟩=false):=by
  intro t ht;refine⟨?_,?_⟩
  ·show (w.cell? _).isSome=true
   grind [World.cell?]
  ·show w.frozen? _=false
   grind [World.frozen?]
 obtain⟨c1,hT1,hc1⟩:=tR8 (w:=w.drew) (o:=0+i*14) (vs:=news) hb (by grind);have hT1:=hT1.drew;obtain⟨W1,hW1⟩:∃ W1,W1=w.drew.setCells b (0+i*14) news:=⟨_,rfl⟩;rw[← hW1] at hT1;have hc1s:c1.size=c*14:=by
  grind [Array.length_toList,List.length_append,List.length_take,List.length_drop]
 have hp3:(i+(n-j))*14=i*14+(n*14-j*14):=by grind
 have hq3:(n-(i+(n-j)))*14=j*14-i*14:=by grind
 obtain⟨c2,hcl2,hc2s,hc2t⟩:=tF (P:=Tryz.prog) W1 33 62 0 z Tryz.underlying33 (qG hi0 hz W1) b ((i+(n-j))*14) (n-(i+(n-j))) (c-(i+(n-j))) c1 e0 (by omega) hT1.at' (by grind) hz1c;have hT2:Turned w (W1.setRow b c2) b c2 e0:=hT1.next (Turned.row hT1.at');have hfin:c2.size=c*14∧c2.toList.take ((n-(j-i))*14)=cs.take (i*14)++cs.drop (j*14):=by
  rw[show n-(j-i)=i+(n-j) by omega,hc2t,hp3,hc1,← hnews]
  grind
 have HT:=Lib.hid hT2;have hW:Hid (W1=w.drew.setCells b (0+i*14) news):=hW1;have hcl3:∀ ty,(Builtin.clear_ #[33] ty #[.slice (some ⟨b,(i+(n-j))*14,none⟩) (n-(i+(n-j))) (c-(i+(n-j)))]).run Tryz.prog W1=.ok (.tuple #[]) (W1.setRow b c2):=fun ty=>hcl2;have hic:i≤c:=by omega
 have key:Calls Tryz.prog 25 #[.slice (some ⟨b,0,none⟩) n c,.int .i64 i,.int .i64 j] w fun e w'=>e=.returned (.slice (some ⟨b,0,none⟩) (i+(n-j)) c)∧w'=W1.setRow b c2:=by
  clear hfin HT hT2 hT1 hW1 hcl2 hc2s hc2t hc1s hc1 hp3 hq3 hfit hlen hnews hcl h1c hb hcur hct hjn hij3 hnc3 hsub hz hby hzs hz1c;have mixed:Tryz.prog.follows Departure.mixedOrders=true:=by kernel_rfl
  go_enter Tryz.func25,Tryz.ntmps25
  go_wp2_with fail
  go_region_law_o (refine step_append_room rfl (.tmp 22) (.tmp 25) 33 rfl 62 i0 14 Tryz.underlying33 hi0 hs b 0 i c (by simp[Act.eval,Act.put]) A (n-j) (c-j) news (by simp[Act.eval,Act.put]) s1.out hsrc.out s2.out (by omega) s3.out ?_;rw[← hW.out])
  go_wp2
  go_ret
  simp_all
 refine key.mono ?_;rintro e w' ⟨rfl,rfl⟩;exact⟨c2,by rw[show n-(j-i)=i+(n-j) by omega],HT.out,hfin⟩
theorem rY6:rY3 Tryz.prog 165 2:=
 ⟨fun blk cap d w hH hs=>AnyQ.slices_Reverse Tryz.revN 2 Tryz.isAgg124 Tryz.sizeOf124 Chunk.l (fun x=>x.len) (fun x=>x.one) blk 0 cap d w hH hs,
  fun w=>AnyQ.slices_Reverse_empty Tryz.revN none 0 w⟩
end Go.Proofs.YtmmpcldfjocfmaaGreatDoor.Am
