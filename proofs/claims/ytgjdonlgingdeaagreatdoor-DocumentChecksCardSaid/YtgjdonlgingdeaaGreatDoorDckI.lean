/- strings.SplitSeq's iterator at a separator of one byte: it hands the parts of the string to the loop's rounds. Condition: the string's length is that of a Go string. -/
import Derived.RangeFuncNested
import Derived.RangeFuncBound
import Derived.RangeFuncCalls
import Derived.RangeFuncLeaves
import Derived.Shelf.Abstract
import Derived.Shelf.RegionOpen
import Derived.WalkKit
import Derived.OwnWalkIn
import Derived.TacticsInMore
import Derived.LoopNIn
import Derived.LoopIn
import Derived.Lib.Hide
import Derived.Test.YtgjdonlgingdeaaGreatDoorShelf
namespace Go.Proofs
open Go.RowKit Go.Shelf
open Go.World (alloc_heap_new cell? size_alloc)
def BR (c:UInt8):List UInt8->List (List UInt8)
  |[]=>[[]]
  |b::l=>if b==c then []::BR c l else match BR c l with | []=>[[b]]|x::r=>(b::x)::r
theorem fK (c:UInt8):∀l,BR c l≠[]
  |[]=>by simp[BR]
  |b::l=>by
    unfold BR;split
    · simp
    · split<;>simp
theorem fM (c:UInt8):∀(l:List UInt8) (i:Nat),Lib.indexByte l c=i->BR c l=l.take i::BR c (l.drop (i+1))/\i<l.length
  |[],i,h=>by
    simp only[Lib.indexByte] at h;omega
  |b::l,i,h=>by
    unfold Lib.indexByte at h;rw[BR];by_cases hb:b==c
    · simp only[hb,if_true] at h ⊢;have:i=0:=by omega
      subst this;simp
    · simp only[hb,if_false,Bool.false_eq_true] at h ⊢;by_cases hn:Lib.indexByte l c==-1
      · simp only[hn,if_true] at h;omega
      · simp only[hn,if_false,Bool.false_eq_true] at h;have hge:=Lib.indexByte_ge l c;have hn':Lib.indexByte l c≠-1:=by simpa using hn
        obtain⟨k,hk⟩:∃k:Nat,Lib.indexByte l c=k:=⟨(Lib.indexByte l c).toNat,by omega⟩;have ih:=fM c l k hk;have:i=k+1:=by omega
        subst this;rw[ih.1];exact⟨by simp,by simp;omega⟩
theorem uM (c:UInt8):∀(l:List UInt8),Lib.indexByte l c=-1->BR c l=[l]
  |[],_=>rfl
  |b::l,h=>by
    unfold Lib.indexByte at h;rw[BR];by_cases hb:b==c
    · simp[hb] at h
    · simp only[hb,if_false,Bool.false_eq_true] at h ⊢;by_cases hn:Lib.indexByte l c==-1
      · rw[uM c l (by simpa using hn)]
      · simp only[hn,if_false,Bool.false_eq_true] at h;have hge:=Lib.indexByte_ge l c;omega
theorem pW2 (s:ByteArray)(i:Nat):(⟨(s.data.toList.take i).toArray⟩:ByteArray)=s.extract 0 i:=by
  apply ByteArray.ext;apply Array.ext';simp[ByteArray.data_extract]
theorem pW3 (s:ByteArray)(i:Nat):(s.extract i s.size).data.toList=s.data.toList.drop i:=by
  simp only[ByteArray.data_extract,Array.toList_extract,List.extract_eq_take_drop];refine List.take_of_length_le ?_;rw[List.length_drop,Array.length_toList];exact Nat.le_refl _
def It (W:World)(b1 b2 b3:Nat)(c:UInt8)(s:ByteArray):Prop:=
  W.cell? ⟨b1,0,none⟩=some (.string ⟨#[c]⟩)/\W.cell? ⟨b2,0,none⟩=some (.string s)/\W.frozen? ⟨b2,0,none⟩=false/\W.cell? ⟨b3,0,none⟩=some (.int .i64 0)
def Ws (b2:Nat)(W:World):Nat:=match W.cell? ⟨b2,0,none⟩ with|some (.string s)=>s.size|_=>0
set_option maxHeartbeats 4000000 in
set_option maxRecDepth 100000 in
theorem qC (l b1 b2 b3:Nat)(h12:b1≠b2)(h32:b3≠b2)(c:UInt8)(J:List (List UInt8)->World->Prop)(xs:List (List UInt8))(hset:∀pre W v,J pre W->J pre (W.setCell ⟨b2,0,none⟩ v))
    (hY:∀pre x rest W s,xs=pre++x::rest->J pre W->It W b1 b2 b3 c s->YieldAt Fence.wide 0 Tryz.prog l #[.string ⟨x.toArray⟩] W λe W'=>e=.returned (.bool true)/\J (pre++[x]) W'/\It W' b1 b2 b3 c s)
    (s0:ByteArray) (hs0:s0.size<=maxLen) (hxs:xs=BR c s0.data.toList) (W:World) (h0:J [] W) (hI:It W b1 b2 b3 c s0) :
    CallsIn Fence.wide 1 Tryz.prog 285 #[.func (.yield l) #[] #[],.pointer (some ⟨b1,0,none⟩),.pointer (some ⟨b2,0,none⟩),.pointer (some ⟨b3,0,none⟩)] W λe W'=>(∃v,e=.returned v)/\J xs W':=by
  unfold maxLen at hs0;refine callsIn_of_wp Tryz.func285 rfl trivial ?_ rfl;simp only[Tryz.ntmps285,List.size_toArray,List.length_cons,List.length_nil,Nat.reduceAdd,Nat.reduceSub,Array.replicate_succ,Array.replicate_zero,List.push_toArray,List.append_toArray,List.nil_append,List.cons_append];have hc1:=hI.1;have HI:=Lib.hid hI;clear hI;have HX:=Lib.hid hxs;clear hxs
  gi_wp2
  gi_loopw [7] (λi wr=>∃(pre:List (List UInt8)) (s:ByteArray),xs=pre++BR c s.data.toList/\s.size<=2 ^ 63-1/\J pre wr/\It wr b1 b2 b3 c s) (λ_ wr=>Ws b2 wr)
  case atStart=>exact⟨[],s0,by rw[List.nil_append];exact HX.out,hs0,h0,HI.out⟩
  case round =>
    obtain⟨pre,s,hx,hsz,hJ,hIt⟩:=hrel;have hge:=Lib.indexByte_ge s.data.toList c;have hlen:s.data.toList.length=s.size:=by rw[Array.length_toList];rfl
    by_cases hn:Lib.indexByte s.data.toList c=-1
    · have hsp:=uM c _ hn;rw[hsp] at hx;have c1:=hIt.1;have c2:=hIt.2.1;have c3:=hIt.2.2.2;have HIt:=Lib.hid hIt;have Hx:=Lib.hid hx;have Hsp:=Lib.hid hsp;have Hn:=Lib.hid hn;have Hlen:=Lib.hid hlen;clear hIt hx hsp hlen;obtain⟨fn,tmps,assign,body,hy,hR⟩:=hY pre s.data.toList [] wr s Hx.out hJ HIt.out
      gi_wp2_with (refine⟨trivial,?_⟩;gi_at_call 287;refine (callsIn_wide.2 (Tryz.strings_Index_one s c wr)).mono ?_;rintro e w' ⟨rfl,rfl⟩;rw[Hn.out];clear hn)
      refine hR.mono ?_;rintro e W' ⟨rfl,hJ',hI'⟩
      gi_wp2
      go_end0
      exact⟨⟨_,rfl⟩,by rw[Hx.out];exact hJ'⟩
    · obtain⟨i,hi⟩:∃i:Nat,Lib.indexByte s.data.toList c=i:=⟨(Lib.indexByte s.data.toList c).toNat,by omega⟩;obtain⟨hsp,hlt⟩:=fM c _ i hi;rw[hlen] at hlt;rw[hsp] at hx;have c1:=hIt.1;have c2:=hIt.2.1;have c3:=hIt.2.2.2;have HIt:=Lib.hid hIt;have Hx:=Lib.hid hx;have Hi:=Lib.hid hi;have Hlen:=Lib.hid hlen;clear hIt hx hsp hlen hn hge hi;obtain⟨fn,tmps,assign,body,hy,hR⟩:=hY pre (s.data.toList.take i) _ wr s Hx.out hJ HIt.out;rw[pW2] at hy
      gi_wp2_with (refine⟨trivial,?_⟩;gi_at_call 287;refine (callsIn_wide.2 (Tryz.strings_Index_one s c wr)).mono ?_;rintro e w' ⟨rfl,rfl⟩;rw[Hi.out])
      refine hR.mono ?_;rintro e W' ⟨rfl,hJ',hI'⟩;have c1':=hI'.1;have c2':=hI'.2.1;have c3':=hI'.2.2.2;have f2':=hI'.2.2.1;have HI':=Lib.hid hI';clear hI' c1 c2 c3 hy hR
      gi_wp2
      have hsame:(W'.setCell ⟨b2,0,none⟩ (.string (s.extract (i+1) s.size))).cell? ⟨b2,0,none⟩=some (.string (s.extract (i+1) s.size)):=World.cell?_setCell_same' _ _ _ (by rw[c2'];rfl);have hoth:∀b,b≠b2->(W'.setCell ⟨b2,0,none⟩ (.string (s.extract (i+1) s.size))).cell? ⟨b,0,none⟩=W'.cell? ⟨b,0,none⟩:=λb hb=>by
        simp only[cell?,Below.heap_setCell W' ⟨b2,0,none⟩ _ b hb]
      have hsz':(s.extract (i+1) s.size).size=s.size-(i+1):=by simp[ByteArray.size_extract]
      refine⟨⟨pre++[s.data.toList.take i],s.extract (i+1) s.size,?_,by omega,hset _ _ _ hJ',(hoth b1 h12).trans c1',hsame,by rw[World.frozen?_setCell];exact f2',(hoth b3 h32).trans c3'⟩,?_⟩
      · rw[Hx.out,pW3];simp
      · have h1:Ws b2 (W'.setCell ⟨b2,0,none⟩ (.string (s.extract (i+1) s.size)))=s.size-(i+1):=by
          simp only[Ws,hsame,hsz']
        have h2:Ws b2 w'=s.size:=by
          simp only[Ws,HIt.out.2.1]
        rw[h1,h2];omega
def H8 (w:World)(s sep:ByteArray):World:=((w.alloc (.cells #[.string s] 9)).alloc (.cells #[.string sep] 9)).alloc (.cells #[.int .i64 0] 3)
set_option maxHeartbeats 1000000 in
theorem qP5 (s sep:ByteArray)(w:World):Calls Tryz.prog 273 #[.string s,.string sep,.int .i64 0] w λe w' =>
    e=.returned (.func (.func 285) #[] #[.pointer (some ⟨w.heap.size+1,0,none⟩),.pointer (some ⟨w.heap.size,0,none⟩),.pointer (some ⟨w.heap.size+2,0,none⟩)])/\w'=H8 w s sep:=by
  go_enter Tryz.func273,Tryz.ntmps273
  go_wp2
  go_ret
  exact⟨rfl,rfl⟩
set_option maxHeartbeats 1000000 in
theorem qP6 (s sep:ByteArray)(w:World):Calls Tryz.prog 238 #[.string s,.string sep] w λe w' =>
    e=.returned (.func (.func 285) #[] #[.pointer (some ⟨w.heap.size+1,0,none⟩),.pointer (some ⟨w.heap.size,0,none⟩),.pointer (some ⟨w.heap.size+2,0,none⟩)])/\w'=H8 w s sep:=by
  go_enter Tryz.func238,Tryz.ntmps238
  go_wp2_with (go_at_call 273;refine (qP5 _ _ _).mono ?_;rintro e w' ⟨rfl,rfl⟩)
  go_ret
  exact⟨rfl,rfl⟩
theorem qX8 (w:World)(s:ByteArray)(c:UInt8):It (H8 w s ⟨#[c]⟩) (w.heap.size+1) w.heap.size (w.heap.size+2) c s:=by
  have h0:(H8 w s ⟨#[c]⟩).heap[w.heap.size]?=some (.cells #[.string s] 9):=by
    unfold H8;rw[Below.heap_alloc _ _ _ (by rw[size_alloc,size_alloc];omega),Below.heap_alloc _ _ _ (by rw[size_alloc];omega)];exact alloc_heap_new _ _
  have h1:(H8 w s ⟨#[c]⟩).heap[w.heap.size+1]?=some (.cells #[.string ⟨#[c]⟩] 9):=by
    unfold H8;rw[Below.heap_alloc _ _ _ (by rw[size_alloc,size_alloc];omega)];have:=alloc_heap_new (w.alloc (.cells #[.string s] 9)) (.cells #[.string ⟨#[c]⟩] 9)
    rwa [size_alloc] at this
  have h2:(H8 w s ⟨#[c]⟩).heap[w.heap.size+2]?=some (.cells #[.int .i64 0] 3):=by
    unfold H8;have:=alloc_heap_new ((w.alloc (.cells #[.string s] 9)).alloc (.cells #[.string ⟨#[c]⟩] 9)) (.cells #[.int .i64 0] 3)
    rwa [size_alloc,size_alloc] at this
  exact⟨by unfold cell?;rw[h1];rfl,by unfold cell?;rw[h0];rfl,by unfold World.frozen?;rw[h0];rfl,by unfold cell?;rw[h2];rfl⟩
end Go.Proofs
