/- strings.SplitSeq's iterator at a separator of one byte: it hands the parts of the string to the loop's rounds. Condition: the string's length is that of a Go string. -/
import Derived.Test.YtmbjipigimohbaaGreatDoorMach5
import Derived.RangeFuncNested
import Derived.RangeFuncBound
import Derived.RangeFuncCalls
import Derived.RangeFuncLeaves
import Derived.Shelf.Abstract
import Derived.Shelf.RegionOpen
import Derived.WalkKit
import Derived.OwnWalkIn
import Derived.TacticsInMore
import Derived.LoopNIn
import Derived.LoopIn
import Derived.Lib.Hide
import Derived.Test.YtmbjipigimohbaaGreatDoorShelf
namespace Go.Proofs
open Go.RowKit Go.Shelf
def wW2 (c:UInt8):List UInt8→List (List UInt8)
  |[]=>[[]]
  |b::l=>if b==c then []::wW2 c l else match wW2 c l with | []=>[[b]]|x::r=>(b::x)::r
theorem sW4 (c:UInt8):∀ l,wW2 c l≠[]
  |[]=>by simp[wW2]
  |b::l=>by
    grind [wW2]
theorem tE4 (c:UInt8):∀ (l:List UInt8) (i:Nat),Lib.indexByte l c=i→wW2 c l=l.take i::wW2 c (l.drop (i+1))∧i<l.length
  |[],i,h=>by
    grind [Lib.indexByte]
  |b::l,i,h=>by
    unfold Lib.indexByte at h;rw[wW2];by_cases hb:b==c
    · simp[hb] at h ⊢;have:i=0:=by omega
      grind
    · simp[hb] at h ⊢;by_cases hn:Lib.indexByte l c==-1
      · grind
      · obtain⟨k,hk⟩:∃ k:Nat,Lib.indexByte l c=k:=⟨(Lib.indexByte l c).toNat,by omega⟩;have ih:=tE4 c l k hk
        grind
theorem uI2 (c:UInt8):∀ (l:List UInt8),Lib.indexByte l c=-1→wW2 c l=[l]
  |[],_=>rfl
  |b::l,h=>by
    unfold Lib.indexByte at h;rw[wW2];by_cases hb:b==c
    · grind
    · simp only[hb,if_false,Bool.false_eq_true] at h ⊢;by_cases hn:Lib.indexByte l c==-1
      · rw[uI2 c l (by grind)]
      · simp[hn] at h;have hge:=Lib.indexByte_ge l c;omega
theorem rM4 (s:ByteArray)(i:Nat):(⟨(s.data.toList.take i).toArray⟩:ByteArray)=s.extract 0 i:=by
  apply ByteArray.ext;apply Array.ext';simp_all
theorem rM5 (s:ByteArray)(i:Nat):(s.extract i s.size).data.toList=s.data.toList.drop i:=by
  simp;refine List.take_of_length_le ?_;simp_all
def It (W:World)(b1 b2 b3:Nat)(c:UInt8)(s:ByteArray):Prop:=
  W.cell? ⟨b1,0,none⟩=some (.string ⟨#[c]⟩)∧W.cell? ⟨b2,0,none⟩=some (.string s)∧W.frozen? ⟨b2,0,none⟩=false∧W.cell? ⟨b3,0,none⟩=some (.int .i64 0)
def sW5 (b2:Nat)(W:World):Nat:=match W.cell? ⟨b2,0,none⟩ with|some (.string s)=>s.size|_=>0
set_option maxHeartbeats 4000000 in
set_option maxRecDepth 100000 in
theorem sP9 (l b1 b2 b3:Nat)(h12:b1≠b2)(h32:b3≠b2)(c:UInt8)(J:List (List UInt8)→World→Prop)(xs:List (List UInt8))(hset:∀ pre W v,J pre W→J pre (W.setCell ⟨b2,0,none⟩ v))
    (hY:∀ pre x rest W s,xs=pre++x::rest→J pre W→It W b1 b2 b3 c s→YieldAt Fence.wide 0 Tryz.prog l #[.string ⟨x.toArray⟩] W fun e W'=>e=.returned (.bool true)∧J (pre++[x]) W'∧It W' b1 b2 b3 c s)
    (s0:ByteArray) (hs0:s0.size≤maxLen) (hxs:xs=wW2 c s0.data.toList) (W:World) (h0:J [] W) (hI:It W b1 b2 b3 c s0) :
    CallsIn Fence.wide 1 Tryz.prog 203 #[.func (.yield l) #[] #[],.pointer (some ⟨b1,0,none⟩),.pointer (some ⟨b2,0,none⟩),.pointer (some ⟨b3,0,none⟩)] W fun e W'=>(∃ v,e=.returned v)∧J xs W':=by
  unfold maxLen at hs0;refine callsIn_of_wp Tryz.func203 rfl trivial ?_ rfl;simp only[Tryz.ntmps203,List.size_toArray,List.length_cons,List.length_nil,Nat.reduceAdd,Nat.reduceSub,Array.replicate_succ,Array.replicate_zero,List.push_toArray,List.append_toArray,List.nil_append,List.cons_append];have hc1:=hI.1;have HI:=Lib.hid hI;clear hI;have HX:=Lib.hid hxs;clear hxs
  gi_wp2
  gi_loopw [7] (fun i wr=>∃ (pre:List (List UInt8)) (s:ByteArray),xs=pre++wW2 c s.data.toList∧s.size≤2 ^ 63-1∧J pre wr∧It wr b1 b2 b3 c s) (fun _ wr=>sW5 b2 wr)
  case atStart=>exact⟨[],s0,by exact HX.out,hs0,h0,HI.out⟩
  case round =>
    obtain⟨pre,s,hx,hsz,hJ,hIt⟩:=hrel;have hge:=Lib.indexByte_ge s.data.toList c;have hlen:s.data.toList.length=s.size:=by simp_all
    by_cases hn:Lib.indexByte s.data.toList c=-1
    · have hsp:=uI2 c _ hn;rw[hsp] at hx;have c1:=hIt.1;have c2:=hIt.2.1;have c3:=hIt.2.2.2;have HIt:=Lib.hid hIt;have Hx:=Lib.hid hx;have Hsp:=Lib.hid hsp;have Hn:=Lib.hid hn;have Hlen:=Lib.hid hlen;clear hIt hx hsp hlen;obtain⟨fn,tmps,assign,body,hy,hR⟩:=hY pre s.data.toList [] wr s Hx.out hJ HIt.out
      gi_wp2_with (refine⟨trivial,?_⟩;gi_at_call 205;refine (callsIn_wide.2 (Tryz.strings_Index_one s c wr)).mono ?_;rintro e w' ⟨rfl,rfl⟩;rw[Hn.out];clear hn)
      refine hR.mono ?_;rintro e W' ⟨rfl,hJ',hI'⟩
      gi_wp2
      go_end0
      exact⟨⟨_,rfl⟩,by rw[Hx.out];grind⟩
    · obtain⟨i,hi⟩:∃ i:Nat,Lib.indexByte s.data.toList c=i:=⟨(Lib.indexByte s.data.toList c).toNat,by omega⟩;obtain⟨hsp,hlt⟩:=tE4 c _ i hi;rw[hlen] at hlt;rw[hsp] at hx;have c1:=hIt.1;have c2:=hIt.2.1;have c3:=hIt.2.2.2;have HIt:=Lib.hid hIt;have Hx:=Lib.hid hx;have Hi:=Lib.hid hi;have Hlen:=Lib.hid hlen;clear hIt hx hsp hlen hn hge hi;obtain⟨fn,tmps,assign,body,hy,hR⟩:=hY pre (s.data.toList.take i) _ wr s Hx.out hJ HIt.out;rw[rM4] at hy
      gi_wp2_with (refine⟨trivial,?_⟩;gi_at_call 205;refine (callsIn_wide.2 (Tryz.strings_Index_one s c wr)).mono ?_;rintro e w' ⟨rfl,rfl⟩;rw[Hi.out])
      refine hR.mono ?_;rintro e W' ⟨rfl,hJ',hI'⟩;have c1':=hI'.1;have c2':=hI'.2.1;have c3':=hI'.2.2.2;have f2':=hI'.2.2.1
      gi_wp2
      have hsame:(W'.setCell ⟨b2,0,none⟩ (.string (s.extract (i+1) s.size))).cell? ⟨b2,0,none⟩=some (.string (s.extract (i+1) s.size)):=World.cell?_setCell_same' _ _ _ (by grind);have hoth:∀ b,b≠b2→(W'.setCell ⟨b2,0,none⟩ (.string (s.extract (i+1) s.size))).cell? ⟨b,0,none⟩=W'.cell? ⟨b,0,none⟩:=fun b hb=>by
        grind [World.cell?,Below.heap_setCell]
      have hsz':(s.extract (i+1) s.size).size=s.size-(i+1):=by simp_all
      refine⟨⟨pre++[s.data.toList.take i],s.extract (i+1) s.size,?_,by omega,hset _ _ _ hJ',(hoth b1 h12).trans c1',hsame,by grind [World.frozen?_setCell],(hoth b3 h32).trans c3'⟩,?_⟩
      · rw[Hx.out,rM5];simp
      · have h1:sW5 b2 (W'.setCell ⟨b2,0,none⟩ (.string (s.extract (i+1) s.size)))=s.size-(i+1):=by
          grind [sW5]
        have h2:sW5 b2 w'=s.size:=by
          simp[sW5,HIt.out.2.1]
        grind
def vD8 (w:World)(s sep:ByteArray):World:=((w.alloc (.cells #[.string s] 9)).alloc (.cells #[.string sep] 9)).alloc (.cells #[.int .i64 0] 3)
set_option maxHeartbeats 1000000 in
theorem sW6 (s sep:ByteArray)(w:World):Calls Tryz.prog 195 #[.string s,.string sep,.int .i64 0] w fun e w' =>
    e=.returned (.func (.func 203) #[] #[.pointer (some ⟨w.heap.size+1,0,none⟩),.pointer (some ⟨w.heap.size,0,none⟩),.pointer (some ⟨w.heap.size+2,0,none⟩)])∧w'=vD8 w s sep:=by
  go_wp2
  go_ret
  exact⟨rfl,rfl⟩
set_option maxHeartbeats 1000000 in
theorem sW7 (s sep:ByteArray)(w:World):Calls Tryz.prog 180 #[.string s,.string sep] w fun e w' =>
    e=.returned (.func (.func 203) #[] #[.pointer (some ⟨w.heap.size+1,0,none⟩),.pointer (some ⟨w.heap.size,0,none⟩),.pointer (some ⟨w.heap.size+2,0,none⟩)])∧w'=vD8 w s sep:=by
  go_enter Tryz.func180,Tryz.ntmps180
  go_wp2_with (go_at_call 195;refine (sW6 _ _ _).mono ?_;rintro e w' ⟨rfl,rfl⟩)
  go_ret
  simp_all
theorem rC8 (w:World)(s:ByteArray)(c:UInt8):It (vD8 w s ⟨#[c]⟩) (w.heap.size+1) w.heap.size (w.heap.size+2) c s:=by
  have h0:(vD8 w s ⟨#[c]⟩).heap[w.heap.size]?=some (.cells #[.string s] 9):=by
    grind [vD8,Below.heap_alloc,World.size_alloc,World.alloc_heap_new]
  have h1:(vD8 w s ⟨#[c]⟩).heap[w.heap.size+1]?=some (.cells #[.string ⟨#[c]⟩] 9):=by
    grind [vD8,Below.heap_alloc,World.size_alloc,World.alloc_heap_new]
  have h2:(vD8 w s ⟨#[c]⟩).heap[w.heap.size+2]?=some (.cells #[.int .i64 0] 3):=by
    grind [vD8,World.alloc_heap_new,World.size_alloc]
  exact⟨by grind [World.cell?],by grind [World.cell?],by grind [World.frozen?],by grind [World.cell?]⟩
end Go.Proofs
