/- slices.Insert and slices.Delete at nodes. No condition. -/
import Derived.Test.YtkmmjpnfhaecdaaGreatDoorIns
import Derived.Test.YtkmmjpnfhaecdaaGreatDoorRev
import Derived.Test.YtkmmjpnfhaecdaaGreatDoorRevP
import Derived.Test.YtkmmjpnfhaecdaaGreatDoorProg
import Derived.Shelf.RegionOpenPlain
import Derived.WalkKit
import Derived.Lib.Hide
import Derived.Lib.Overlaps
import Derived.Lib.AppendZerosOnto
import Derived.Deep.RegionLaw
import Derived.Shelf.Spec.SlicesInsert
namespace Go.Proofs.YtkmmjpnfhaecdaaGreatDoor.Am
open Go Go.Am Go.Proofs Go.RowKit Go.Shelf Go.Lib
open Go.Builtin (append_ clear_ copy_ firstCells zeroCells)
open Go.World (cell? frozen? shape?)
open _root_.Nat (add_mul mul_le_mul sub_mul zero_add)
def zM9 (P:Program)(T n:Nat):Bool:=
 match P.info? T with
 |some i=>Nat.beq i.size n&&Nat.ble i.bytes 32768&&(match i.zero with|some z=>Nat.beq z.cells.size n&&z.cells.toList.all (λv=>v.oneCell')|none=>false)
 |none=>false
theorem zK8{P:Program}{T n:Nat}(h:zM9 P T n):∃i z,P.info? T=some i/\i.zero=some z/\i.size=n/\i.bytes<=32768/\z.cells.size=n/\∀v∈z.cells.toList,v.oneCell':=by
 unfold zM9 at h;split at h
 ·simp only[jB] at h;obtain⟨⟨o,C⟩,j⟩:=h;split at j
  ·simp only[jB,List.all_eq_true] at j;simp_all
  grind
 grind
variable {w:World}{N b:Nat}{cur:Array Value}{e:TypeId}{cs:List Value}
theorem Mg(h:w.heap[b]?=some (.cells cur e (0,0)))(ht:cur.toList.take N=cs){j:Nat}{v:Value}(o:cs[j]?=some v):w.cell? ⟨b,j,none⟩=some v:=by
 rw[<-ht,List.getElem?_take] at o;split at o
 ·simp[cell?,h];simpa using o
 ·cases o
variable {vs c1:List Value}{M I:Nat}
theorem oF4{cur:List Value}(ko:cs.length=N)(qc:cur.take N=cs)(o:I<=N)(gA:vs.length=M)(C:N+M<=cur.length)(J:c1=cur.take (I+M)++cs.drop I++cur.drop (I+M+(cs.drop I).length)) :
  (c1.take I++vs++c1.drop (I+vs.length)).length=cur.length/\(c1.take I++vs++c1.drop (I+vs.length)).take (N+M)=cs.take I++(vs++cs.drop I)/\c1.length=cur.length:=by
 have e1:c1.take I=cs.take I:=by
  grind
 have j:c1.drop (I+M)=cs.drop I++cur.drop (I+M+(cs.drop I).length):=by
  grind
 have qs:c1.length=cur.length:=by
  grind
 refine⟨?_,?_,qs⟩
 ·grind
 ·rw[gA,e1,j,<-List.append_assoc,<-List.append_assoc];rw[List.take_append_of_le_length (by grind),List.take_of_length_le (by grind),List.append_assoc]
theorem oS7{cur:List Value}(ko:cs.length=N)(qc:cur.take N=cs)(gA:vs.length=M)(j:N+M<=cur.length) :
  (cur.take N++vs++cur.drop (N+vs.length)).length=cur.length/\(cur.take N++vs++cur.drop (N+vs.length)).take (N+M)=cs++vs:=by
 grind
theorem nV2:(Tryz.prog.info? 58).map (·.size)=some 43:=by
 obtain⟨i,z,j,_,o,_⟩:=zK8 (P:=Tryz.prog) (T:=58) (n:=43) (by kernel_rfl)
 grind
set_option maxHeartbeats 4000000 in
set_option maxRecDepth 100000 in
theorem oS8 (b n c i vb m vc:Nat)(cur vcur:Array Value)(e0 ve:TypeId)(cs vs:List Value)(w:World)(hi:i<n)(hm:0<m)(ky:n+m<=c)(hc63:c<=9223372036854775807)(hvb:vb≠b)
  (ko:cs.length=n*43) (gA:vs.length=m*43) (hb:w.heap[b]?=some (.cells cur e0 (0,0))) (iD:cur.size=c*43) (qc:cur.toList.take (n*43)=cs) (hv:w.heap[vb]?=some (.cells vcur ve (0,0))) (km:vcur.toList.take (m*43)=vs)
  (h1c:∀v∈cs,v.oneCell'=true) (h1v:∀v∈vs,v.oneCell'=true) :
  Calls Tryz.prog 17 #[.slice (some ⟨b,0,none⟩) n c,.int .i64 i,.slice (some ⟨vb,0,none⟩) m vc] w λe w' =>
   e=.returned (.slice (some ⟨b,0,none⟩) (n+m) c)/\∃c2,Turned w w' b c2 e0/\c2.size=c*43/\c2.toList.take ((n+m)*43)=cs.take (i*43)++(vs++cs.drop (i*43)):=by
 have hz1:¬((m:Int)=0):=by omega
 have hz2:¬((i:Int)=(n:Int)):=by omega
 have mo:IntKind.i64.wrap ((i:Int)+(m:Int))=(i:Int)+(m:Int):=by grind [IntKind.wrap_i64]
 have ir:(0:Int)<=(i:Int)+(m:Int):=by omega
 have gS:i<=n:=by omega
 have htn:((i:Int)+(m:Int)).toNat=i+m:=by omega
 have gZ:¬(c=i+m):=by omega
 have hb3:(i:Int)<=(n:Int)+(m:Int):=by omega
 have hb4:¬(c=i):=by omega
 have hcc:(n+m)*43<=cur.size:=by grind
 have hov:∀lb cb,(callFunc 51 #[.slice (some ⟨vb,0,none⟩) m vc,.slice (some ⟨b,(i+m)*43,none⟩) lb cb]).run Tryz.prog w=.ok (.value (.bool false)) w:=λlb cb=>by
  rw[run_callFunc_extern Tryz.func51 (by kernel_rfl) (by kernel_rfl) (by kernel_rfl) (e:=Extern.SlicesOverlaps.overlaps #[22,22] #[4]) (by kernel_rfl),
   Lib.run_overlaps_apart w 22 4 58 Tryz.underlying22 43 Tryz.sizeOf58 ⟨vb,0,none⟩ ⟨b,(i+m)*43,none⟩ m vc lb cb hvb ve e0 vcur.size cur.size (by grind [shape?]) (by grind [shape?]) (by omega) (by grind [frozen?]) (by grind [frozen?])]
  rfl
 have hI:(i+m)*43=i*43+m*43:=add_mul ..;have hdl:(cs.drop (i*43)).length=(n-i)*43:=by grind
 obtain⟨c1,qs⟩:∃c1:Array Value,c1=(cur.toList.take ((i+m)*43)++cs.drop (i*43)++cur.toList.drop ((i+m)*43+(cs.drop (i*43)).length)).toArray:=⟨_,rfl⟩;have hcp1:∀ty dc sc,(copy_ #[22,22] ty #[.slice (some ⟨b,(i+m)*43,none⟩) (n+m-(i+m)) dc,.slice (some ⟨b,i*43,none⟩) (n+m-i) sc]).run Tryz.prog w.drew=.ok (goInt (Nat.min (n+m-i) (n+m-(i+m)))) (w.drew.setRow b c1):=λty dc sc=>by
  rw[qs];exact vR3 w.drew 22 22 ty 58 b ((i+m)*43) (n+m-(i+m)) dc ⟨b,i*43,none⟩ (n+m-i) sc cur e0 (cs.drop (i*43)) 43 Tryz.underlying22 nV2 hb
   (by grind)
   (λj v hj=>by rw[Addr.add_lit];exact Mg hb qc (by grind))
   (by grind) (λv hv=>h1c v (List.mem_of_mem_drop hv))
 obtain⟨k1,k2,k3⟩:=oF4 (cur:=cur.toList) (I:=i*43) (M:=m*43) (c1:=c1.toList) ko qc (jS _ gS) gA (by grind) (by grind);have hT1:Turned w (w.drew.setRow b c1) b c1 e0:=Turned.drew (Turned.row hb);obtain⟨W1,hW1⟩:∃W1,W1=w.drew.setRow b c1:=⟨_,rfl⟩;rw[<-hW1] at hcp1 hT1;have hvw:W1.heap[vb]?=some (.cells vcur ve (0,0)):=by rw[hT1.oth vb (EZ hv) hvb];grind
 obtain⟨c2,gT⟩:∃c2:Array Value,c2=(c1.toList.take (i*43)++vs++c1.toList.drop (i*43+vs.length)).toArray:=⟨_,rfl⟩;have hcp2:∀ty dc,(copy_ #[22,22] ty #[.slice (some ⟨b,i*43,none⟩) (n+m-i) dc,.slice (some ⟨vb,0,none⟩) m vc]).run Tryz.prog W1=.ok (goInt (Nat.min m (n+m-i))) (W1.setRow b c2):=λty dc=>by
  rw[gT];exact vR3 W1 22 22 ty 58 b (i*43) (n+m-i) dc ⟨vb,0,none⟩ m vc c1 e0 vs 43 Tryz.underlying22 nV2 hT1.at'
   (by rw[gA];congr 1;show m=min m (n+m-i);omega)
   (λj v hj=>by rw[Addr.add_lit,zero_add];grind [Mg])
   (by grind) h1v
 have hT2:Turned w (W1.setRow b c2) b c2 e0:=hT1.next (Turned.row hT1.at');clear hW1;have kS:c2.size=c*43/\c2.toList.take ((n+m)*43)=cs.take (i*43)++(vs++cs.drop (i*43)):=by
  grind
 have HF:=Lib.hid kS;have HT:=Lib.hid hT2;clear kS hT2 hT1 k1 k2 k3 qs gT hvw hI hcc hdl ko gA qc km iD h1c h1v hb hv hvb;have mixed:Tryz.prog.follows Departure.mixedOrders:=by kernel_rfl
 go_enter Tryz.func17,Tryz.ntmps17
 go_wp2_with (simp only[hov])
 go_region_law_o (refine step_copy_runI rfl _ _ 22 22 rfl _ _ (by simp[Act.eval,Act.put]) (by simp[Act.eval,Act.put]) (hcp1 _ _ _) ?_)
 go_wp2_with (at_builtin;refine wpList_copy_runI _ rfl _ _ 22 22 rfl _ _ rfl rfl (hcp2 _ _) ?_)
 go_ret
 exact⟨rfl,c2,HT.out,HF.out⟩
set_option maxHeartbeats 4000000 in
set_option maxRecDepth 100000 in
theorem nV3 (b n c vb m vc:Nat)(cur vcur:Array Value)(e0 ve:TypeId)(cs vs:List Value)(w:World)(hm:0<m)(ky:n+m<=c)
  (ko:cs.length=n*43) (gA:vs.length=m*43) (hb:w.heap[b]?=some (.cells cur e0 (0,0))) (iD:cur.size=c*43) (qc:cur.toList.take (n*43)=cs) (hv:w.heap[vb]?=some (.cells vcur ve (0,0))) (km:vcur.toList.take (m*43)=vs)
  (h1v:∀v∈vs,v.oneCell'=true) :
  Calls Tryz.prog 17 #[.slice (some ⟨b,0,none⟩) n c,.int .i64 n,.slice (some ⟨vb,0,none⟩) m vc] w λe w' =>
   e=.returned (.slice (some ⟨b,0,none⟩) (n+m) c)/\∃c2,Turned w w' b c2 e0/\c2.size=c*43/\c2.toList.take ((n+m)*43)=cs++vs:=by
 obtain⟨i0,z,hi,hz,hs,qq,iH,gY⟩:=zK8 (P:=Tryz.prog) (T:=58) (n:=43) (by kernel_rfl);have hcc:(n+m)*43<=cur.size:=by grind
 have ke:∀ty,(append_ #[22,22] ty #[.slice (some ⟨b,0,none⟩) n c,.slice (some ⟨vb,0,none⟩) m vc]).run Tryz.prog w=_:=λty =>
  yB7 (P:=Tryz.prog) (w:=w) 22 ty 58 e0 i0 Tryz.underlying22 hi b n c cur hb ⟨vb,0,none⟩ m vc vs (by grind) (λj u hu=>by rw[Addr.add_lit,zero_add];grind [Mg]) h1v ky (by grind)
 rw[hs] at ke;obtain⟨k1,k2⟩:=oS7 (cur:=cur.toList) (M:=m*43) ko qc gA (by grind);generalize gT:(cur.toList.take (n*43)++vs++cur.toList.drop (n*43+vs.length))=c2 at ke k1 k2;have hT:Turned w (w.setRow b c2.toArray) b c2.toArray e0:=Turned.row hb;obtain⟨W1,hW1⟩:∃W1,W1=w.setRow b c2.toArray:=⟨_,rfl⟩;have HF:=Lib.hid (show c2.toArray.size=c*43/\c2.toArray.toList.take ((n+m)*43)=cs++vs from ⟨by grind,by grind⟩);have HT:=Lib.hid hT;clear hW1 hT k1 k2 gT hcc ko gA hb iD qc hv km h1v hi hz hs qq iH gY
 go_enter Tryz.func17,Tryz.ntmps17
 go_wp2_with (at_builtin;refine Lib.wpList_append_run _ rfl _ _ _ _ rfl _ _ rfl rfl _ _ (ke _) ?_)
 all_goals (go_ret;exact⟨rfl,_,HT.out,HF.out⟩)
theorem nV4{zs:List Value}{k:Nat}(h:cs.length+vs.length=k):((cs++vs)++zs).take k=cs++vs:=by
 grind
set_option maxHeartbeats 4000000 in
set_option maxRecDepth 100000 in
theorem mN7 (base:Option Addr)(n c vb m vc:Nat)(vcur:Array Value)(ve:TypeId)(cs vs:List Value)(w:World)(hm:0<m)(hnc:n<=c)(ky:c<n+m)(gV:n+m<=4294967296)
  (ko:cs.length=n*43) (gA:vs.length=m*43) (uc:base=none->n=0) (nb:∀a,base=some a->∃b cur e0,a=⟨b,0,none⟩/\w.heap[b]?=some (.cells cur e0 (0,0))/\cur.toList.take (n*43)=cs)
  (hv:w.heap[vb]?=some (.cells vcur ve (0,0))) (km:vcur.toList.take (m*43)=vs) (h1v:∀v∈vs,v.oneCell'=true) :
  Calls Tryz.prog 17 #[.slice base n c,.int .i64 n,.slice (some ⟨vb,0,none⟩) m vc] w λe w' =>
   ∃cap cells,e=.returned (.slice (some ⟨w.heap.size,0,none⟩) (n+m) cap)/\Turned w w' w.heap.size cells 58/\n+m<=cap/\cap<=maxLen/\cells.size=cap*43/\cells.toList.take ((n+m)*43)=cs++vs:=by
 obtain⟨i0,z,hi,hz,hs,qq,iH,gY⟩:=zK8 (P:=Tryz.prog) (T:=58) (n:=43) (by kernel_rfl);have kU:(n+m)*i0.bytes<=140737488355328:=by
  calc (n+m)*i0.bytes<=4294967296*32768:=mul_le_mul gV qq
   _=140737488355328:=by grind
 have hsrc:Src Tryz.prog i0.size 22 (.slice (some ⟨vb,0,none⟩) m vc) m vs w:=by
  rw[hs];exact Src.ofSlice w Tryz.underlying22 ⟨vb,0,none⟩ m vc vs gA (λj u hj=>by rw[Addr.add_lit,zero_add];grind [Mg]) h1v
 have hold:(firstCells i0.size n (.slice base n c)).run Tryz.prog w.drew=.ok cs.toArray w.drew:=by
  rw[hs];cases base with
  |none =>
   have h0:=uc rfl;subst h0
   grind [run_firstCells_none]
  |some a =>
   obtain⟨b,cur,e0,rfl,hb,qc⟩:=nb a rfl;exact run_firstCells_some w.drew 43 n ⟨b,0,none⟩ n c cs ko (λj v hj=>by rw[Addr.add_lit,zero_add];exact Mg (w:=w) hb qc hj)
 have ke:∀ty,(append_ #[22,22] ty #[.slice base n c,.slice (some ⟨vb,0,none⟩) m vc]).run Tryz.prog w=_:=λty =>
  run_append_grow_src w 22 22 ty 58 i0 z Tryz.underlying22 hi hz base n c cs hold _ m vs hsrc ky (by omega) (growslice_fits ky kU)
 have qa:=grownCap_ge w (n+m) c 58;have hle:=grownCap_le_maxLen w (n+m) c 58 (by simp only[maxLen];omega);generalize grownCap w (n+m) c 58=K at ke qa hle;have hT:Turned w (w.drew.alloc (.cells ((cs++vs).toArray++zeroCells z.cells (K-(n+m))) 58)) w.heap.size ((cs++vs).toArray++zeroCells z.cells (K-(n+m))) 58:=Turned.drew Turned.new;obtain⟨ROW,hROW⟩:∃ROW,ROW=(cs++vs).toArray++zeroCells z.cells (K-(n+m)):=⟨_,rfl⟩;have kS:ROW.size=K*43/\ROW.toList.take ((n+m)*43)=cs++vs:=by
  grind [Array.size_append,size_zeroCells,List.size_toArray,jO,add_mul,Array.toList_append]
 rw[<-hROW] at ke hT;obtain⟨W1,hW1⟩:∃W1,W1=w.drew.alloc (.cells ROW 58):=⟨_,rfl⟩;rw[<-hW1] at ke hT;have HT:=Lib.hid hT;have key:Calls Tryz.prog 17 #[.slice base n c,.int .i64 n,.slice (some ⟨vb,0,none⟩) m vc] w λe w'=>e=.returned (.slice (some ⟨w.heap.size,0,none⟩) (n+m) K)/\w'=W1:=by
  clear hW1 hT HT kS hROW qa hle hold hsrc kU ko gA hv km h1v hi hz hs qq iH gY;cases base with
  |none =>
   go_enter Tryz.func17,Tryz.ntmps17
   go_wp2_with (at_builtin;refine Lib.wpList_append_run _ rfl _ _ _ _ rfl _ _ rfl rfl _ _ (ke _) ?_)
   all_goals (go_ret;simp_all)
  |some a =>
   go_enter Tryz.func17,Tryz.ntmps17
   go_wp2_with (at_builtin;refine Lib.wpList_append_run _ rfl _ _ _ _ rfl _ _ rfl rfl _ _ (ke _) ?_)
   all_goals (go_ret;simp_all)
 refine key.mono ?_;rintro e w' ⟨rfl,rfl⟩;exact⟨K,ROW,rfl,HT.out,qa,hle,kS⟩
theorem nV5{z1 z2:List Value}(ko:cs.length=N)(o:I<=N)(gA:vs.length=M)(C:z1.length=N+M-I){r:List Value}(J:r=cs.take I++z1++z2)(R:c1=r.take I++vs++r.drop (I+vs.length)) :
  r.length=N+M+z2.length/\c1.length=r.length/\(c1.take (I+M)++cs.drop I++c1.drop (I+M+(cs.drop I).length)).length=r.length/\(c1.take (I+M)++cs.drop I++c1.drop (I+M+(cs.drop I).length)).take (N+M)=cs.take I++(vs++cs.drop I):=by
 have j:r.length=N+M+z2.length:=by
  grind
 have qs:c1.length=r.length:=by
  grind
 have e1:c1.take (I+M)=cs.take I++vs:=by
  grind
 refine⟨j,qs,?_,?_⟩
 ·simp ;omega
 ·rw[e1,List.take_append_of_le_length (by grind),List.take_of_length_le (by grind),List.append_assoc]
set_option maxHeartbeats 4000000 in
set_option maxRecDepth 100000 in
theorem nV6 (b n c i vb m vc:Nat)(cur vcur:Array Value)(e0 ve:TypeId)(cs vs:List Value)(w:World)(hi:i<n)(hm:0<m)(hnc:n<=c)(ky:c<n+m)(gV:n+m<=4294967296)
  (ko:cs.length=n*43) (gA:vs.length=m*43) (hb:w.heap[b]?=some (.cells cur e0 (0,0))) (qc:cur.toList.take (n*43)=cs) (hv:w.heap[vb]?=some (.cells vcur ve (0,0))) (km:vcur.toList.take (m*43)=vs)
  (h1c:∀v∈cs,v.oneCell'=true) (h1v:∀v∈vs,v.oneCell'=true) :
  Calls Tryz.prog 17 #[.slice (some ⟨b,0,none⟩) n c,.int .i64 i,.slice (some ⟨vb,0,none⟩) m vc] w λe w' =>
   ∃cap cells,e=.returned (.slice (some ⟨w.heap.size,0,none⟩) (n+m) cap)/\Turned w w' w.heap.size cells 58/\n+m<=cap/\cap<=maxLen/\cells.size=cap*43/\cells.toList.take ((n+m)*43)=cs.take (i*43)++(vs++cs.drop (i*43)):=by
 have hz1:¬((m:Int)=0):=by omega
 have hz2:¬((i:Int)=(n:Int)):=by omega
 have hz3:(c:Int)<(n:Int)+(m:Int):=by omega
 obtain⟨i0,z,qw,hz,hs,qq,iH,gY⟩:=zK8 (P:=Tryz.prog) (T:=58) (n:=43) (by kernel_rfl);have kU:(n+m)*i0.bytes<=140737488355328:=by
  calc (n+m)*i0.bytes<=4294967296*32768:=mul_le_mul gV qq
   _=140737488355328:=by grind
 have mw:(n:Int)+(m:Int)-(i:Int)=((n+m-i:Nat):Int):=by omega
 have hik:i+(n+m-i)=n+m:=by omega
 have gS:i<=n:=by omega
 have hbk:(n+m-i)*i0.bytes<=281474976710656:=by
  have:(n+m-i)*i0.bytes<=(n+m)*i0.bytes:=jS _ (by omega);omega
 have hold:(firstCells i0.size i (.slice (some ⟨b,0,none⟩) i c)).run Tryz.prog w.drew=.ok (cs.take (i*43)).toArray w.drew:=by
  rw[hs];exact run_firstCells_some w.drew 43 i ⟨b,0,none⟩ i c (cs.take (i*43)) (by grind) (λj v hj=>by
   rw[Addr.add_lit,zero_add];rw[List.getElem?_take] at hj;split at hj
   ·exact Mg (w:=w) hb qc hj
   grind)
 have hrz:∀ty,(append_ #[22,3] ty #[.slice (some ⟨b,0,none⟩) i c,.int .i64 ((n:Int)+(m:Int)-(i:Int))]).run Tryz.prog w =
   .ok (.slice (some ⟨w.heap.size,0,none⟩) (n+m) (grownCap w (n+m) c 58)) (w.drew.alloc (.cells ((cs.take (i*43)).toArray++zeroCells z.cells (n+m-i)++zeroCells z.cells (grownCap w (n+m) c 58-(n+m))) 58)):=λty=>by
  grind [Lib.run_append_grow_zeros,Tryz.underlying22,Tryz.underlying3,growslice_fits]
 have qa:=grownCap_ge w (n+m) c 58;have hle:=grownCap_le_maxLen w (n+m) c 58 (by simp only[maxLen];omega);generalize grownCap w (n+m) c 58=K at hrz qa hle;obtain⟨ROW,hROW⟩:∃ROW:Array Value,ROW=(cs.take (i*43)).toArray++zeroCells z.cells (n+m-i)++zeroCells z.cells (K-(n+m)):=⟨_,rfl⟩;rw[<-hROW] at hrz;have hT0:Turned w (w.drew.alloc (.cells ROW 58)) w.heap.size ROW 58:=Turned.drew Turned.new;obtain⟨W0,hW0⟩:∃W0,W0=w.drew.alloc (.cells ROW 58):=⟨_,rfl⟩;rw[<-hW0] at hrz hT0;obtain⟨c1,qs⟩:∃c1:Array Value,c1=(ROW.toList.take (i*43)++vs++ROW.toList.drop (i*43+vs.length)).toArray:=⟨_,rfl⟩;obtain⟨r1,r2,r3,r4⟩:=nV5 (cs:=cs) (vs:=vs) (N:=n*43) (I:=i*43) (M:=m*43) (z1:=(zeroCells z.cells (n+m-i)).toList) (z2:=(zeroCells z.cells (K-(n+m))).toList) (r:=ROW.toList) (c1:=c1.toList) ko (jS _ gS) gA
  (by grind [jN,size_zeroCells,sub_mul,add_mul]) (by grind) (by grind)
 have hzl:(zeroCells z.cells (K-(n+m))).toList.length=(K-(n+m))*43:=o9 iH;rw[hzl] at r1;have hRs:ROW.size=K*43:=by
  grind
 have hnmK:(n+m)*43<=K*43:=jS _ qa;have hvb:vb<w.heap.size:=EZ hv;have qy:b<w.heap.size:=EZ hb;have hv0:W0.heap[vb]?=some (.cells vcur ve (0,0)):=by rw[hT0.oth vb hvb (by omega)];grind
 have hcpA:∀ty dc,(copy_ #[22,22] ty #[.slice (some ⟨w.heap.size,i*43,none⟩) (n+m-i) dc,.slice (some ⟨vb,0,none⟩) m vc]).run Tryz.prog W0=.ok (goInt (Nat.min m (n+m-i))) (W0.setRow w.heap.size c1):=λty dc=>by
  rw[qs];exact vR3 W0 22 22 ty 58 w.heap.size (i*43) (n+m-i) dc ⟨vb,0,none⟩ m vc ROW 58 vs 43 Tryz.underlying22 nV2 hT0.at'
   (by rw[gA];congr 1;show m=min m (n+m-i);omega)
   (λj v hj=>by rw[Addr.add_lit,zero_add];grind [Mg])
   (by grind) h1v
 have hT1:Turned w (W0.setRow w.heap.size c1) w.heap.size c1 58:=hT0.next (Turned.row hT0.at');obtain⟨W1,hW1⟩:∃W1,W1=W0.setRow w.heap.size c1:=⟨_,rfl⟩;rw[<-hW1] at hcpA hT1;have hT2:Turned w W1.drew w.heap.size c1 58:=hT1.drew';obtain⟨c2,gT⟩:∃c2:Array Value,c2=(c1.toList.take ((i+m)*43)++cs.drop (i*43)++c1.toList.drop ((i+m)*43+(cs.drop (i*43)).length)).toArray:=⟨_,rfl⟩;have hdl:(cs.drop (i*43)).length=(n-i)*43:=by rw[List.length_drop,ko,sub_mul]
 have gZ:W1.drew.heap[b]?=some (.cells cur e0 (0,0)):=by rw[hT2.oth b qy (by omega)];grind
 have hc1s:c1.size=K*43:=by grind
 have hcpB:∀ty dc sc,(copy_ #[22,22] ty #[.slice (some ⟨w.heap.size,(i+m)*43,none⟩) (n+m-(i+m)) dc,.slice (some ⟨b,i*43,none⟩) (n-i) sc]).run Tryz.prog W1.drew=.ok (goInt (Nat.min (n-i) (n+m-(i+m)))) (W1.drew.setRow w.heap.size c2):=λty dc sc=>by
  rw[gT];exact vR3 W1.drew 22 22 ty 58 w.heap.size ((i+m)*43) (n+m-(i+m)) dc ⟨b,i*43,none⟩ (n-i) sc c1 58 (cs.drop (i*43)) 43 Tryz.underlying22 nV2 hT2.at'
   (by grind)
   (λj v hj=>by rw[Addr.add_lit];exact Mg gZ qc (by rwa [List.getElem?_drop] at hj))
   (by grind) (λv hv=>h1c v (List.mem_of_mem_drop hv))
 have hT3:Turned w (W1.drew.setRow w.heap.size c2) w.heap.size c2 58:=hT2.next (Turned.row hT2.at');have kS:c2.size=K*43/\c2.toList.take ((n+m)*43)=cs.take (i*43)++(vs++cs.drop (i*43)):=by
  grind
 have HT:=Lib.hid hT3;have hGi:¬(K=i):=by omega
 have hGim:¬(K=i+m):=by omega
 have hci:¬(c=i):=by omega
 have mo:IntKind.i64.wrap ((i:Int)+(m:Int))=(i:Int)+(m:Int):=by grind [IntKind.wrap_i64]
 have ir:(0:Int)<=(i:Int)+(m:Int):=by omega
 have htn:((i:Int)+(m:Int)).toNat=i+m:=by omega
 have hb3:(i:Int)<=(n:Int):=by omega
 have hK63:K<=9223372036854775807:=by simp only[maxLen] at hle;omega
 have key:Calls Tryz.prog 17 #[.slice (some ⟨b,0,none⟩) n c,.int .i64 i,.slice (some ⟨vb,0,none⟩) m vc] w λe w'=>e=.returned (.slice (some ⟨w.heap.size,0,none⟩) (n+m) K)/\w'=W1.drew.setRow w.heap.size c2:=by
  clear kS HT hT3 hT2 hT1 hT0 hW0 hW1 hROW hRs hnmK r1 r2 r3 r4 qs gT hc1s hold kU hbk ko gA hb qc hv km h1c h1v hz hs qq iH gY hdl gZ hv0 hvb qy hzl mw hik hle qw;have mixed:Tryz.prog.follows Departure.mixedOrders:=by kernel_rfl
  go_enter Tryz.func17,Tryz.ntmps17
  go_wp2_with (first
   |(at_builtin;refine Lib.wpList_append_run _ rfl _ _ _ _ rfl _ _ rfl rfl _ _ (hrz _) ?_)
   |(at_builtin;refine wpList_copy_runI _ rfl _ _ 22 22 rfl _ _ rfl rfl (hcpA _ _) ?_))
  go_region_law_o (refine step_copy_runI rfl _ _ 22 22 rfl (.slice (some ⟨w.heap.size,(i+m)*43,none⟩) (n+m-(i+m)) (K-(i+m))) (.slice (some ⟨b,i*43,none⟩) (n-i) (c-i)) (by simp[Act.eval,Act.put]) (by simp[Act.eval,Act.put]) (hcpB 3 (K-(i+m)) (c-i)) ?_)
  go_wp2
  go_ret
  simp_all
 refine key.mono ?_;rintro e w' ⟨rfl,rfl⟩;exact⟨K,c2,rfl,HT.out,qa,hle,kS⟩
theorem qW3{o:Nat}(h:w.heap[b]?=some (.cells cur e (0,0)))(j:o+vs.length<=cur.size) :
  ∃c1:Array Value,Turned w (w.setCells b o vs) b c1 e/\c1.toList=cur.toList.take o++(vs++cur.toList.drop (o+vs.length)):=by
 obtain⟨c1,C,J⟩:=SZ b e (0,0) vs o w cur h j;obtain⟨s1,s2,R⟩:=yB6 b vs o w;exact⟨c1,⟨s1,s2,R,Nat.le_of_eq (o7 b vs o w).symm,C,λk _ hk=>P0 b vs o w k hk⟩,J⟩
theorem lS2{z:Value}{i0:TypeInfo}(j:Tryz.prog.info? 58=some i0)(o:i0.zero=some z)(w:World):(zeroValue 58).run Tryz.prog w=.ok z w:=by
 simp_all [zeroValue,typeInfo]
set_option maxHeartbeats 4000000 in
set_option maxRecDepth 100000 in
theorem lS3:lS1 Tryz.prog 15 43:=by
 intro b n c i j cur e0 cs w hij hj hnc nt ko h1c hb iD qc;obtain⟨i0,z,qw,hz,hs,qq,iH,gY⟩:=zK8 (P:=Tryz.prog) (T:=58) (n:=43) (by kernel_rfl);obtain⟨news,qp⟩:∃news,news=cs.drop (j*43):=⟨_,rfl⟩;have hlen:news.length=(n-j)*43:=by grind
 have hjn:j*43<=n*43:=jS _ hj;have hij3:i*43<=j*43:=jS _ (by omega);have hnc3:n*43<=c*43:=jS _ hnc;have nw:(n-j)*43=n*43-j*43:=sub_mul ..;have kl:i*43+news.length<=cur.size:=by grind
 obtain⟨A,hA,hsrc⟩:∃A:Addr,(if c=j then some (⟨b,0,none⟩:Addr) else some ⟨b,j*43,none⟩)=some A/\Hid (∀t u,news[t]?=some u->w.drew.cell? (A.add t)=some u):=by
  by_cases h:c=j
  ·refine⟨⟨b,0,none⟩,by grind,λt u hu=>?_⟩
   grind
  ·refine⟨⟨b,j*43,none⟩,by grind,λt u hu=>?_⟩;rw[Addr.add_lit];exact Mg (w:=w) hb qc (by grind)
 have s1:Hid (news.length=(n-j)*43):=hlen;have s2:Hid (∀u∈news,u.oneCell'):=λu hu=>h1c u (List.mem_of_mem_drop (by rw[<-qp];grind));have s3:Hid (∀t,t<news.length->(w.drew.cell? ⟨b,0+i*43+t,none⟩).isSome/\w.drew.frozen? ⟨b,0+i*43+t,none⟩=false):=by
  intro t ht;refine⟨?_,?_⟩
  ·show (w.cell? _).isSome=true
   grind [cell?]
  ·show w.frozen? _=false
   grind [frozen?]
 obtain⟨c1,hT1,qs⟩:=qW3 (w:=w.drew) (o:=0+i*43) (vs:=news) hb (by grind);have hT1:=hT1.drew;obtain⟨W1,hW1⟩:∃W1,W1=w.drew.setCells b (0+i*43) news:=⟨_,rfl⟩;rw[<-hW1] at hT1;have hc1s:c1.size=c*43:=by
  grind [jN,jO,jT,List.length_drop]
 have hp3:(i+(n-j))*43=i*43+(n*43-j*43):=by grind
 have hq3:(n-(i+(n-j)))*43=j*43-i*43:=by grind
 obtain⟨c2,hcl2,hc2s,hc2t⟩:=rY3 (P:=Tryz.prog) W1 22 58 0 z Tryz.underlying22 (lS2 qw hz W1) b ((i+(n-j))*43) (n-(i+(n-j))) (c-(i+(n-j))) c1 e0 (by omega) hT1.at' (by grind) gY;have hT2:Turned w (W1.setRow b c2) b c2 e0:=hT1.next (Turned.row hT1.at');have kS:c2.size=c*43/\c2.toList.take ((n-(j-i))*43)=cs.take (i*43)++cs.drop (j*43):=by
  rw[show n-(j-i)=i+(n-j) by omega,hc2t,hp3,qs,<-qp]
  grind
 have HT:=Lib.hid hT2;have hW:Hid (W1=w.drew.setCells b (0+i*43) news):=hW1;have hcl3:∀ty,(clear_ #[22] ty #[.slice (some ⟨b,(i+(n-j))*43,none⟩) (n-(i+(n-j))) (c-(i+(n-j)))]).run Tryz.prog W1=.ok (.tuple #[]) (W1.setRow b c2):=λty=>hcl2;have hic:i<=c:=by omega
 have key:Calls Tryz.prog 15 #[.slice (some ⟨b,0,none⟩) n c,.int .i64 i,.int .i64 j] w λe w'=>e=.returned (.slice (some ⟨b,0,none⟩) (i+(n-j)) c)/\w'=W1.setRow b c2:=by
  clear kS HT hT2 hT1 hW1 hcl2 hc2s hc2t hc1s qs hp3 hq3 kl hlen qp ko h1c hb iD qc hjn hij3 hnc3 nw hz qq iH gY;have mixed:Tryz.prog.follows Departure.mixedOrders:=by kernel_rfl
  go_enter Tryz.func15,Tryz.ntmps15
  go_wp2_with fail
  go_region_law_o (refine step_append_room rfl (.tmp 22) (.tmp 25) 22 rfl 58 i0 43 Tryz.underlying22 qw hs b 0 i c (by simp[Act.eval,Act.put]) A (n-j) (c-j) news (by simp[Act.eval,Act.put]) s1.out hsrc.out s2.out (by omega) s3.out ?_;rw[<-hW.out])
  go_wp2
  go_ret
  simp_all
 refine key.mono ?_;rintro e w' ⟨rfl,rfl⟩;exact⟨c2,by rw[show n-(j-i)=i+(n-j) by omega],HT.out,kS⟩
theorem lS4:lS0 Tryz.prog 17 43:=by
 intro base n c i vb m vc cur vcur R ve cs vs w hi hm gV hnc nt _ ko gA h1c j gi qg hv _ km;have hc63:c<=9223372036854775807:=by simp only[maxLen] at nt;omega
 by_cases gS:i=n
 ·subst gS;have e1:cs.take (i*43)++vs++cs.drop (i*43)=cs++vs:=by
   grind
  rw[e1];by_cases ky:i+m<=c
  ·obtain⟨b,rfl⟩:∃b,base=some b:=by
    cases base<;>simp_all
   obtain⟨a1,a2,a3,a4⟩:=qg b rfl;refine (nV3 b i c vb m vc cur vcur R ve cs vs w hm ky ko gA a2 a3 a4 hv km j).mono ?_;rintro e w' ⟨rfl,c2,o,C,J⟩;exact⟨b,c,c2,R,rfl,.inl rfl,o,ky,nt,C,J⟩
  ·refine (mN7 (base.map λb=>⟨b,0,none⟩) i c vb m vc vcur ve cs vs w hm hnc (by omega) gV ko gA (λh=>(gi (by simp_all)).1) (λa ha=>by
    cases base with
    |none=>grind
    |some b=>injection ha with ha;exact⟨b,cur,R,ha.symm,(qg b rfl).2.1,(qg b rfl).2.2.2⟩) hv km j).mono ?_
   rintro e w' ⟨cap,cells,rfl,o,C,J,q4,q5⟩;exact⟨_,cap,cells,58,rfl,.inr rfl,o,C,J,q4,q5⟩
 ·obtain⟨b,rfl⟩:∃b,base=some b:=by
   cases base<;>simp_all
  obtain⟨a1,a2,a3,a4⟩:=qg b rfl;rw[List.append_assoc];by_cases ky:n+m<=c
  ·refine (oS8 b n c i vb m vc cur vcur R ve cs vs w (by omega) hm ky hc63 (λe=>a1 e.symm) ko gA a2 a3 a4 hv km h1c j).mono ?_;rintro e w' ⟨rfl,c2,o,C,J⟩;exact⟨b,c,c2,R,rfl,.inl rfl,o,ky,nt,C,J⟩
  ·refine (nV6 b n c i vb m vc cur vcur R ve cs vs w (by omega) hm hnc (by omega) gV ko gA a2 a4 hv km h1c j).mono ?_;rintro e w' ⟨cap,cells,rfl,o,C,J,q4,q5⟩;exact⟨_,cap,cells,58,rfl,.inr rfl,o,C,J,q4,q5⟩
theorem Turned.after{j:World}{B:Nat}{cs:Array Value}{o:TypeId}(h:Turned (w.alloc (.cells cur o)) j B cs e)(_:w.heap.size<B):Turned w j B cs e:=by
 have C:(w.alloc (.cells cur o)).heap.size=w.heap.size+1:=by simp
 refine⟨h.os,h.tape,h.output,by have:=h.size;omega,h.at',λk J kh=>?_⟩;rw[h.oth k (by omega) kh]
 grind [Below.heap_alloc]
set_option maxHeartbeats 4000000 in
set_option maxRecDepth 100000 in
theorem nV7:xJ6 Tryz.prog 14 43:=by
 refine⟨⟨_,Tryz.func14,by kernel_rfl,by decide⟩,?_⟩;intro b o n c cur e0 us w hn gV hnc iq h1 hb iD;obtain⟨i0,z,hi,hz,hs,qq,iH,gY⟩:=zK8 (P:=Tryz.prog) (T:=58) (n:=43) (by kernel_rfl);have kU:(0+n)*i0.bytes<=140737488355328:=by
  calc (0+n)*i0.bytes<=4294967296*32768:=mul_le_mul (by omega) qq
   _=140737488355328:=by grind
 obtain⟨W0,hW0⟩:∃W0,W0=w.alloc (.cells #[] 58):=⟨_,rfl⟩;have mc:W0.heap.size=w.heap.size+1:=by simp_all
 have kx:∀j u,us[j]?=some u->W0.cell? ⟨b,o+j,none⟩=some u:=by
  grind [Below.heap_alloc,cell?]
 have hsrc:Src Tryz.prog i0.size 22 (.slice (some ⟨b,o,none⟩) n c) n us W0:=by
  grind [Src.ofSlice,Tryz.underlying22,Addr.add_lit]
 have hold:(firstCells i0.size 0 (.slice (some ⟨w.heap.size,0,none⟩) 0 0)).run Tryz.prog W0.drew=.ok ([]:List Value).toArray W0.drew:=by
  grind [run_firstCells_some]
 have ke:∀ty,(append_ #[22,22] ty #[.slice (some ⟨w.heap.size,0,none⟩) 0 0,.slice (some ⟨b,o,none⟩) n c]).run Tryz.prog W0=_:=λty =>
  run_append_grow_src W0 22 22 ty 58 i0 z Tryz.underlying22 hi hz (some ⟨w.heap.size,0,none⟩) 0 0 [] hold _ n us hsrc (by omega) (by omega) (growslice_fits (by omega) kU)
 have qa:=grownCap_ge W0 (0+n) 0 58;have hle:=grownCap_le_maxLen W0 (0+n) 0 58 (by simp only[maxLen];omega);generalize grownCap W0 (0+n) 0 58=K at ke qa hle;have hT:Turned W0 (W0.drew.alloc (.cells (([]++us).toArray++zeroCells z.cells (K-(0+n))) 58)) W0.heap.size (([]++us).toArray++zeroCells z.cells (K-(0+n))) 58:=Turned.drew Turned.new;obtain⟨ROW,hROW⟩:∃ROW,ROW=([]++us).toArray++zeroCells z.cells (K-(0+n)):=⟨_,rfl⟩;have kS:ROW.size=K*43/\ROW.toList.take (n*43)=us:=by
  rw[hROW];refine⟨?_,?_⟩
  ·rw[Array.size_append,size_zeroCells,iH,List.size_toArray,List.nil_append,iq,<-add_mul];omega
  ·have:=nV4 (cs:=[]) (vs:=us) (zs:=(zeroCells z.cells (K-(0+n))).toList) (k:=n*43) (by rw[List.length_nil,iq];omega);simpa using this
 rw[<-hROW] at ke hT;obtain⟨W1,hW1⟩:∃W1,W1=W0.drew.alloc (.cells ROW 58):=⟨_,rfl⟩;rw[<-hW1] at ke hT;rw[hW0] at hT;have HT:=Lib.hid (Turned.after hT (by grind));rw[zero_add] at ke qa;have key:Calls Tryz.prog 14 #[.slice (some ⟨b,o,none⟩) n c] w λe w'=>e=.returned (.slice (some ⟨w.heap.size+1,0,none⟩) n K)/\w'=W1:=by
  rw[mc,hW0] at ke;clear hW1 hT HT kS hROW qa hle hold hsrc kU iq h1 hb iD hi hz hs qq iH gY kx mc hW0;have q22:∀(w:World) (a:Option Addr) (n c n' c':Nat),(binOp .eql 22 (.slice a n c) (.slice none n' c')).run Tryz.prog w=.ok (.bool a.isNone) w:=λw a n c n' c'=>Lib.run_eql_slice_nil w _ _ a n c n' c' Tryz.underlying22
  go_enter Tryz.func14,Tryz.ntmps14
  go_wp2_with (at_builtin;refine Lib.wpList_append_run _ rfl _ _ _ _ rfl _ _ rfl rfl _ _ (ke _) ?_)
  go_ret
  simp_all
 refine key.mono ?_;rintro e w' ⟨rfl,rfl⟩;exact⟨_,K,ROW,58,rfl,by omega,by rw[show w.heap.size+1=(w.alloc (.cells #[] 58)).heap.size by simp];exact HT.out,qa,hle,kS⟩
theorem lS5:lS Tryz.prog 270 2:=
 ⟨λblk cap d w j o=>AnyQ.slices_Reverse Tryz.revN 2 Tryz.isAgg123 Tryz.sizeOf123 Chunk.l (λx=>x.len) (λx=>x.one) blk 0 cap d w j o,
  λw=>AnyQ.slices_Reverse_empty Tryz.revN none 0 w⟩
end Go.Proofs.YtkmmjpnfhaecdaaGreatDoor.Am
