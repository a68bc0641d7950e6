/- slices.Insert and slices.Delete at nodes. No condition. -/
import Derived.Test.YtlpphnncneppoaaGreatDoorIns
import Derived.Test.YtlpphnncneppoaaGreatDoorRev
import Derived.Test.YtlpphnncneppoaaGreatDoorRevP
import Derived.Test.YtlpphnncneppoaaGreatDoorProg
import Derived.Shelf.RegionOpenPlain
import Derived.WalkKit
import Derived.Lib.Hide
import Derived.Lib.Overlaps
import Derived.Lib.AppendZerosOnto
import Derived.Deep.RegionLaw
import Derived.Shelf.Spec.SlicesInsert
namespace Go.Proofs.YtlpphnncneppoaaGreatDoor.Am
open Go Go.Am Go.Proofs Go.RowKit Go.Shelf Go.Lib
open Go.Builtin (append_ clear_ copy_ firstCells zeroCells)
open Go.World (cell? frozen? shape?)
open _root_.Nat (add_mul mul_le_mul sub_mul zero_add)
def zM9 (P:Program)(T n:Nat):Bool:=
 match P.info? T with
 |some i=>Nat.beq i.size n&&Nat.ble i.bytes 32768&&(match i.zero with|some z=>Nat.beq z.cells.size n&&z.cells.toList.all (λv=>v.oneCell')|none=>false)
 |none=>false
theorem zK8{P:Program}{T n:Nat}(h:zM9 P T n):∃i z,P.info? T=some i/\i.zero=some z/\i.size=n/\i.bytes<=32768/\z.cells.size=n/\∀v∈z.cells.toList,v.oneCell':=by
 unfold zM9 at h;split at h
 ·simp only[jB] at h;obtain⟨⟨o,C⟩,j⟩:=h;split at j
  ·simp only[jB,List.all_eq_true] at j;simp_all
  grind
 grind
variable {w:World}{N b:Nat}{cur:Array Value}{e:TypeId}{cs:List Value}
theorem vQ(h:w.heap[b]?=some (.cells cur e (0,0)))(ht:cur.toList.take N=cs){j:Nat}{v:Value}(o:cs[j]?=some v):w.cell? ⟨b,j,none⟩=some v:=by
 rw[<-ht,List.getElem?_take] at o;split at o
 ·simp[cell?,h];simpa using o
 ·cases o
variable {vs c1:List Value}{M I:Nat}
theorem pZ2{cur:List Value}(kt:cs.length=N)(gY:cur.take N=cs)(o:I<=N)(gw:vs.length=M)(C:N+M<=cur.length)(J:c1=cur.take (I+M)++cs.drop I++cur.drop (I+M+(cs.drop I).length)) :
  (c1.take I++vs++c1.drop (I+vs.length)).length=cur.length/\(c1.take I++vs++c1.drop (I+vs.length)).take (N+M)=cs.take I++(vs++cs.drop I)/\c1.length=cur.length:=by
 have e1:c1.take I=cs.take I:=by
  grind
 have j:c1.drop (I+M)=cs.drop I++cur.drop (I+M+(cs.drop I).length):=by
  grind
 have qf:c1.length=cur.length:=by
  grind
 refine⟨?_,?_,qf⟩
 ·grind
 ·rw[gw,e1,j,<-List.append_assoc,<-List.append_assoc];rw[List.take_append_of_le_length (by grind),List.take_of_length_le (by grind),List.append_assoc]
theorem oM2{cur:List Value}(kt:cs.length=N)(gY:cur.take N=cs)(gw:vs.length=M)(j:N+M<=cur.length) :
  (cur.take N++vs++cur.drop (N+vs.length)).length=cur.length/\(cur.take N++vs++cur.drop (N+vs.length)).take (N+M)=cs++vs:=by
 grind
theorem l9:(Tryz.prog.info? 43).map (·.size)=some 43:=by
 obtain⟨i,z,j,_,o,_⟩:=zK8 (P:=Tryz.prog) (T:=43) (n:=43) (by kernel_rfl)
 grind
set_option maxHeartbeats 4000000 in
set_option maxRecDepth 100000 in
theorem oM3 (b n c i vb m vc:Nat)(cur vcur:Array Value)(e0 ve:TypeId)(cs vs:List Value)(w:World)(hi:i<n)(hm:0<m)(ky:n+m<=c)(hc63:c<=9223372036854775807)(hvb:vb≠b)
  (kt:cs.length=n*43) (gw:vs.length=m*43) (hb:w.heap[b]?=some (.cells cur e0 (0,0))) (iw:cur.size=c*43) (gY:cur.toList.take (n*43)=cs) (hv:w.heap[vb]?=some (.cells vcur ve (0,0))) (ko:vcur.toList.take (m*43)=vs)
  (h1c:∀v∈cs,v.oneCell'=true) (h1v:∀v∈vs,v.oneCell'=true) :
  Calls Tryz.prog 35 #[.slice (some ⟨b,0,none⟩) n c,.int .i64 i,.slice (some ⟨vb,0,none⟩) m vc] w λe w' =>
   e=.returned (.slice (some ⟨b,0,none⟩) (n+m) c)/\∃c2,Turned w w' b c2 e0/\c2.size=c*43/\c2.toList.take ((n+m)*43)=cs.take (i*43)++(vs++cs.drop (i*43)):=by
 have hz1:¬((m:Int)=0):=by omega
 have hz2:¬((i:Int)=(n:Int)):=by omega
 have mb:IntKind.i64.wrap ((i:Int)+(m:Int))=(i:Int)+(m:Int):=by grind [IntKind.wrap_i64]
 have qg:(0:Int)<=(i:Int)+(m:Int):=by omega
 have gk:i<=n:=by omega
 have htn:((i:Int)+(m:Int)).toNat=i+m:=by omega
 have gB:¬(c=i+m):=by omega
 have hb3:(i:Int)<=(n:Int)+(m:Int):=by omega
 have hb4:¬(c=i):=by omega
 have hcc:(n+m)*43<=cur.size:=by grind
 have hov:∀lb cb,(callFunc 69 #[.slice (some ⟨vb,0,none⟩) m vc,.slice (some ⟨b,(i+m)*43,none⟩) lb cb]).run Tryz.prog w=.ok (.value (.bool false)) w:=λlb cb=>by
  rw[run_callFunc_extern Tryz.func69 (by kernel_rfl) (by kernel_rfl) (by kernel_rfl) (e:=Extern.SlicesOverlaps.overlaps #[22,22] #[4]) (by kernel_rfl),
   Lib.run_overlaps_apart w 22 4 43 Tryz.underlying22 43 Tryz.sizeOf43 ⟨vb,0,none⟩ ⟨b,(i+m)*43,none⟩ m vc lb cb hvb ve e0 vcur.size cur.size (by grind [shape?]) (by grind [shape?]) (by omega) (by grind [frozen?]) (by grind [frozen?])]
  rfl
 have hI:(i+m)*43=i*43+m*43:=add_mul ..;have hdl:(cs.drop (i*43)).length=(n-i)*43:=by grind
 obtain⟨c1,qf⟩:∃c1:Array Value,c1=(cur.toList.take ((i+m)*43)++cs.drop (i*43)++cur.toList.drop ((i+m)*43+(cs.drop (i*43)).length)).toArray:=⟨_,rfl⟩;have hcp1:∀ty dc sc,(copy_ #[22,22] ty #[.slice (some ⟨b,(i+m)*43,none⟩) (n+m-(i+m)) dc,.slice (some ⟨b,i*43,none⟩) (n+m-i) sc]).run Tryz.prog w.drew=.ok (goInt (Nat.min (n+m-i) (n+m-(i+m)))) (w.drew.setRow b c1):=λty dc sc=>by
  rw[qf];exact l8 w.drew 22 22 ty 43 b ((i+m)*43) (n+m-(i+m)) dc ⟨b,i*43,none⟩ (n+m-i) sc cur e0 (cs.drop (i*43)) 43 Tryz.underlying22 l9 hb
   (by grind)
   (λj v hj=>by rw[Addr.add_lit];exact vQ hb gY (by grind))
   (by grind) (λv hv=>h1c v (List.mem_of_mem_drop hv))
 obtain⟨k1,k2,k3⟩:=pZ2 (cur:=cur.toList) (I:=i*43) (M:=m*43) (c1:=c1.toList) kt gY (jS _ gk) gw (by grind) (by grind);have hT1:Turned w (w.drew.setRow b c1) b c1 e0:=Turned.drew (Turned.row hb);obtain⟨W1,hW1⟩:∃W1,W1=w.drew.setRow b c1:=⟨_,rfl⟩;rw[<-hW1] at hcp1 hT1;have hvw:W1.heap[vb]?=some (.cells vcur ve (0,0)):=by rw[hT1.oth vb (zE hv) hvb];grind
 obtain⟨c2,gM⟩:∃c2:Array Value,c2=(c1.toList.take (i*43)++vs++c1.toList.drop (i*43+vs.length)).toArray:=⟨_,rfl⟩;have hcp2:∀ty dc,(copy_ #[22,22] ty #[.slice (some ⟨b,i*43,none⟩) (n+m-i) dc,.slice (some ⟨vb,0,none⟩) m vc]).run Tryz.prog W1=.ok (goInt (Nat.min m (n+m-i))) (W1.setRow b c2):=λty dc=>by
  rw[gM];exact l8 W1 22 22 ty 43 b (i*43) (n+m-i) dc ⟨vb,0,none⟩ m vc c1 e0 vs 43 Tryz.underlying22 l9 hT1.at'
   (by rw[gw];congr 1;show m=min m (n+m-i);omega)
   (λj v hj=>by rw[Addr.add_lit,zero_add];grind [vQ])
   (by grind) h1v
 have hT2:Turned w (W1.setRow b c2) b c2 e0:=hT1.next (Turned.row hT1.at');clear hW1;have kI:c2.size=c*43/\c2.toList.take ((n+m)*43)=cs.take (i*43)++(vs++cs.drop (i*43)):=by
  grind
 have HF:=Lib.hid kI;have HT:=Lib.hid hT2;clear kI hT2 hT1 k1 k2 k3 qf gM hvw hI hcc hdl kt gw gY ko iw h1c h1v hb hv hvb;have mixed:Tryz.prog.follows Departure.mixedOrders:=by kernel_rfl
 go_enter Tryz.func35,Tryz.ntmps35
 go_wp2_with (simp only[hov])
 go_region_law_o (refine step_copy_runI rfl _ _ 22 22 rfl _ _ (by simp[Act.eval,Act.put]) (by simp[Act.eval,Act.put]) (hcp1 _ _ _) ?_)
 go_wp2_with (at_builtin;refine wpList_copy_runI _ rfl _ _ 22 22 rfl _ _ rfl rfl (hcp2 _ _) ?_)
 go_ret
 exact⟨rfl,c2,HT.out,HF.out⟩
set_option maxHeartbeats 4000000 in
set_option maxRecDepth 100000 in
theorem nL2 (b n c vb m vc:Nat)(cur vcur:Array Value)(e0 ve:TypeId)(cs vs:List Value)(w:World)(hm:0<m)(ky:n+m<=c)
  (kt:cs.length=n*43) (gw:vs.length=m*43) (hb:w.heap[b]?=some (.cells cur e0 (0,0))) (iw:cur.size=c*43) (gY:cur.toList.take (n*43)=cs) (hv:w.heap[vb]?=some (.cells vcur ve (0,0))) (ko:vcur.toList.take (m*43)=vs)
  (h1v:∀v∈vs,v.oneCell'=true) :
  Calls Tryz.prog 35 #[.slice (some ⟨b,0,none⟩) n c,.int .i64 n,.slice (some ⟨vb,0,none⟩) m vc] w λe w' =>
   e=.returned (.slice (some ⟨b,0,none⟩) (n+m) c)/\∃c2,Turned w w' b c2 e0/\c2.size=c*43/\c2.toList.take ((n+m)*43)=cs++vs:=by
 obtain⟨i0,z,hi,hz,hs,qs,iz,gT⟩:=zK8 (P:=Tryz.prog) (T:=43) (n:=43) (by kernel_rfl);have hcc:(n+m)*43<=cur.size:=by grind
 have kf:∀ty,(append_ #[22,22] ty #[.slice (some ⟨b,0,none⟩) n c,.slice (some ⟨vb,0,none⟩) m vc]).run Tryz.prog w=_:=λty =>
  yB9 (P:=Tryz.prog) (w:=w) 22 ty 43 e0 i0 Tryz.underlying22 hi b n c cur hb ⟨vb,0,none⟩ m vc vs (by grind) (λj u hu=>by rw[Addr.add_lit,zero_add];grind [vQ]) h1v ky (by grind)
 rw[hs] at kf;obtain⟨k1,k2⟩:=oM2 (cur:=cur.toList) (M:=m*43) kt gY gw (by grind);generalize gM:(cur.toList.take (n*43)++vs++cur.toList.drop (n*43+vs.length))=c2 at kf k1 k2;have hT:Turned w (w.setRow b c2.toArray) b c2.toArray e0:=Turned.row hb;obtain⟨W1,hW1⟩:∃W1,W1=w.setRow b c2.toArray:=⟨_,rfl⟩;have HF:=Lib.hid (show c2.toArray.size=c*43/\c2.toArray.toList.take ((n+m)*43)=cs++vs from ⟨by grind,by grind⟩);have HT:=Lib.hid hT;clear hW1 hT k1 k2 gM hcc kt gw hb iw gY hv ko h1v hi hz hs qs iz gT
 go_enter Tryz.func35,Tryz.ntmps35
 go_wp2_with (at_builtin;refine Lib.wpList_append_run _ rfl _ _ _ _ rfl _ _ rfl rfl _ _ (kf _) ?_)
 all_goals (go_ret;exact⟨rfl,_,HT.out,HF.out⟩)
theorem nL3{zs:List Value}{k:Nat}(h:cs.length+vs.length=k):((cs++vs)++zs).take k=cs++vs:=by
 grind
set_option maxHeartbeats 4000000 in
set_option maxRecDepth 100000 in
theorem mD (base:Option Addr)(n c vb m vc:Nat)(vcur:Array Value)(ve:TypeId)(cs vs:List Value)(w:World)(hm:0<m)(hnc:n<=c)(ky:c<n+m)(gQ:n+m<=4294967296)
  (kt:cs.length=n*43) (gw:vs.length=m*43) (iZ:base=none->n=0) (uy:∀a,base=some a->∃b cur e0,a=⟨b,0,none⟩/\w.heap[b]?=some (.cells cur e0 (0,0))/\cur.toList.take (n*43)=cs)
  (hv:w.heap[vb]?=some (.cells vcur ve (0,0))) (ko:vcur.toList.take (m*43)=vs) (h1v:∀v∈vs,v.oneCell'=true) :
  Calls Tryz.prog 35 #[.slice base n c,.int .i64 n,.slice (some ⟨vb,0,none⟩) m vc] w λe w' =>
   ∃cap cells,e=.returned (.slice (some ⟨w.heap.size,0,none⟩) (n+m) cap)/\Turned w w' w.heap.size cells 43/\n+m<=cap/\cap<=maxLen/\cells.size=cap*43/\cells.toList.take ((n+m)*43)=cs++vs:=by
 obtain⟨i0,z,hi,hz,hs,qs,iz,gT⟩:=zK8 (P:=Tryz.prog) (T:=43) (n:=43) (by kernel_rfl);have kL:(n+m)*i0.bytes<=140737488355328:=by
  calc (n+m)*i0.bytes<=4294967296*32768:=mul_le_mul gQ qs
   _=140737488355328:=by grind
 have hsrc:Src Tryz.prog i0.size 22 (.slice (some ⟨vb,0,none⟩) m vc) m vs w:=by
  rw[hs];exact Src.ofSlice w Tryz.underlying22 ⟨vb,0,none⟩ m vc vs gw (λj u hj=>by rw[Addr.add_lit,zero_add];grind [vQ]) h1v
 have hold:(firstCells i0.size n (.slice base n c)).run Tryz.prog w.drew=.ok cs.toArray w.drew:=by
  rw[hs];cases base with
  |none =>
   have h0:=iZ rfl;subst h0
   grind [run_firstCells_none]
  |some a =>
   obtain⟨b,cur,e0,rfl,hb,gY⟩:=uy a rfl;exact run_firstCells_some w.drew 43 n ⟨b,0,none⟩ n c cs kt (λj v hj=>by rw[Addr.add_lit,zero_add];exact vQ (w:=w) hb gY hj)
 have kf:∀ty,(append_ #[22,22] ty #[.slice base n c,.slice (some ⟨vb,0,none⟩) m vc]).run Tryz.prog w=_:=λty =>
  run_append_grow_src w 22 22 ty 43 i0 z Tryz.underlying22 hi hz base n c cs hold _ m vs hsrc ky (by omega) (growslice_fits ky kL)
 have gW:=grownCap_ge w (n+m) c 43;have hle:=grownCap_le_maxLen w (n+m) c 43 (by simp only[maxLen];omega);generalize grownCap w (n+m) c 43=K at kf gW hle;have hT:Turned w (w.drew.alloc (.cells ((cs++vs).toArray++zeroCells z.cells (K-(n+m))) 43)) w.heap.size ((cs++vs).toArray++zeroCells z.cells (K-(n+m))) 43:=Turned.drew Turned.new;obtain⟨ROW,hROW⟩:∃ROW,ROW=(cs++vs).toArray++zeroCells z.cells (K-(n+m)):=⟨_,rfl⟩;have kI:ROW.size=K*43/\ROW.toList.take ((n+m)*43)=cs++vs:=by
  grind [Array.size_append,size_zeroCells,List.size_toArray,jO,add_mul,Array.toList_append]
 rw[<-hROW] at kf hT;obtain⟨W1,hW1⟩:∃W1,W1=w.drew.alloc (.cells ROW 43):=⟨_,rfl⟩;rw[<-hW1] at kf hT;have HT:=Lib.hid hT;have key:Calls Tryz.prog 35 #[.slice base n c,.int .i64 n,.slice (some ⟨vb,0,none⟩) m vc] w λe w'=>e=.returned (.slice (some ⟨w.heap.size,0,none⟩) (n+m) K)/\w'=W1:=by
  clear hW1 hT HT kI hROW gW hle hold hsrc kL kt gw hv ko h1v hi hz hs qs iz gT;cases base with
  |none =>
   go_enter Tryz.func35,Tryz.ntmps35
   go_wp2_with (at_builtin;refine Lib.wpList_append_run _ rfl _ _ _ _ rfl _ _ rfl rfl _ _ (kf _) ?_)
   all_goals (go_ret;simp_all)
  |some a =>
   go_enter Tryz.func35,Tryz.ntmps35
   go_wp2_with (at_builtin;refine Lib.wpList_append_run _ rfl _ _ _ _ rfl _ _ rfl rfl _ _ (kf _) ?_)
   all_goals (go_ret;simp_all)
 refine key.mono ?_;rintro e w' ⟨rfl,rfl⟩;exact⟨K,ROW,rfl,HT.out,gW,hle,kI⟩
theorem nL4{z1 z2:List Value}(kt:cs.length=N)(o:I<=N)(gw:vs.length=M)(C:z1.length=N+M-I){r:List Value}(J:r=cs.take I++z1++z2)(R:c1=r.take I++vs++r.drop (I+vs.length)) :
  r.length=N+M+z2.length/\c1.length=r.length/\(c1.take (I+M)++cs.drop I++c1.drop (I+M+(cs.drop I).length)).length=r.length/\(c1.take (I+M)++cs.drop I++c1.drop (I+M+(cs.drop I).length)).take (N+M)=cs.take I++(vs++cs.drop I):=by
 have j:r.length=N+M+z2.length:=by
  grind
 have qf:c1.length=r.length:=by
  grind
 have e1:c1.take (I+M)=cs.take I++vs:=by
  grind
 refine⟨j,qf,?_,?_⟩
 ·simp ;omega
 ·rw[e1,List.take_append_of_le_length (by grind),List.take_of_length_le (by grind),List.append_assoc]
set_option maxHeartbeats 4000000 in
set_option maxRecDepth 100000 in
theorem nL5 (b n c i vb m vc:Nat)(cur vcur:Array Value)(e0 ve:TypeId)(cs vs:List Value)(w:World)(hi:i<n)(hm:0<m)(hnc:n<=c)(ky:c<n+m)(gQ:n+m<=4294967296)
  (kt:cs.length=n*43) (gw:vs.length=m*43) (hb:w.heap[b]?=some (.cells cur e0 (0,0))) (gY:cur.toList.take (n*43)=cs) (hv:w.heap[vb]?=some (.cells vcur ve (0,0))) (ko:vcur.toList.take (m*43)=vs)
  (h1c:∀v∈cs,v.oneCell'=true) (h1v:∀v∈vs,v.oneCell'=true) :
  Calls Tryz.prog 35 #[.slice (some ⟨b,0,none⟩) n c,.int .i64 i,.slice (some ⟨vb,0,none⟩) m vc] w λe w' =>
   ∃cap cells,e=.returned (.slice (some ⟨w.heap.size,0,none⟩) (n+m) cap)/\Turned w w' w.heap.size cells 43/\n+m<=cap/\cap<=maxLen/\cells.size=cap*43/\cells.toList.take ((n+m)*43)=cs.take (i*43)++(vs++cs.drop (i*43)):=by
 have hz1:¬((m:Int)=0):=by omega
 have hz2:¬((i:Int)=(n:Int)):=by omega
 have hz3:(c:Int)<(n:Int)+(m:Int):=by omega
 obtain⟨i0,z,iL,hz,hs,qs,iz,gT⟩:=zK8 (P:=Tryz.prog) (T:=43) (n:=43) (by kernel_rfl);have kL:(n+m)*i0.bytes<=140737488355328:=by
  calc (n+m)*i0.bytes<=4294967296*32768:=mul_le_mul gQ qs
   _=140737488355328:=by grind
 have mj:(n:Int)+(m:Int)-(i:Int)=((n+m-i:Nat):Int):=by omega
 have hik:i+(n+m-i)=n+m:=by omega
 have gk:i<=n:=by omega
 have hbk:(n+m-i)*i0.bytes<=281474976710656:=by
  have:(n+m-i)*i0.bytes<=(n+m)*i0.bytes:=jS _ (by omega);omega
 have hold:(firstCells i0.size i (.slice (some ⟨b,0,none⟩) i c)).run Tryz.prog w.drew=.ok (cs.take (i*43)).toArray w.drew:=by
  rw[hs];exact run_firstCells_some w.drew 43 i ⟨b,0,none⟩ i c (cs.take (i*43)) (by grind) (λj v hj=>by
   rw[Addr.add_lit,zero_add];rw[List.getElem?_take] at hj;split at hj
   ·exact vQ (w:=w) hb gY hj
   grind)
 have hrz:∀ty,(append_ #[22,3] ty #[.slice (some ⟨b,0,none⟩) i c,.int .i64 ((n:Int)+(m:Int)-(i:Int))]).run Tryz.prog w =
   .ok (.slice (some ⟨w.heap.size,0,none⟩) (n+m) (grownCap w (n+m) c 43)) (w.drew.alloc (.cells ((cs.take (i*43)).toArray++zeroCells z.cells (n+m-i)++zeroCells z.cells (grownCap w (n+m) c 43-(n+m))) 43)):=λty=>by
  grind [Lib.run_append_grow_zeros,Tryz.underlying22,Tryz.underlying3,growslice_fits]
 have gW:=grownCap_ge w (n+m) c 43;have hle:=grownCap_le_maxLen w (n+m) c 43 (by simp only[maxLen];omega);generalize grownCap w (n+m) c 43=K at hrz gW hle;obtain⟨ROW,hROW⟩:∃ROW:Array Value,ROW=(cs.take (i*43)).toArray++zeroCells z.cells (n+m-i)++zeroCells z.cells (K-(n+m)):=⟨_,rfl⟩;rw[<-hROW] at hrz;have hT0:Turned w (w.drew.alloc (.cells ROW 43)) w.heap.size ROW 43:=Turned.drew Turned.new;obtain⟨W0,hW0⟩:∃W0,W0=w.drew.alloc (.cells ROW 43):=⟨_,rfl⟩;rw[<-hW0] at hrz hT0;obtain⟨c1,qf⟩:∃c1:Array Value,c1=(ROW.toList.take (i*43)++vs++ROW.toList.drop (i*43+vs.length)).toArray:=⟨_,rfl⟩;obtain⟨r1,r2,r3,r4⟩:=nL4 (cs:=cs) (vs:=vs) (N:=n*43) (I:=i*43) (M:=m*43) (z1:=(zeroCells z.cells (n+m-i)).toList) (z2:=(zeroCells z.cells (K-(n+m))).toList) (r:=ROW.toList) (c1:=c1.toList) kt (jS _ gk) gw
  (by grind [jN,size_zeroCells,sub_mul,add_mul]) (by grind) (by grind)
 have hzl:(zeroCells z.cells (K-(n+m))).toList.length=(K-(n+m))*43:=eY iz;rw[hzl] at r1;have hRs:ROW.size=K*43:=by
  grind
 have hnmK:(n+m)*43<=K*43:=jS _ gW;have hvb:vb<w.heap.size:=zE hv;have qw:b<w.heap.size:=zE hb;have hv0:W0.heap[vb]?=some (.cells vcur ve (0,0)):=by rw[hT0.oth vb hvb (by omega)];grind
 have hcpA:∀ty dc,(copy_ #[22,22] ty #[.slice (some ⟨w.heap.size,i*43,none⟩) (n+m-i) dc,.slice (some ⟨vb,0,none⟩) m vc]).run Tryz.prog W0=.ok (goInt (Nat.min m (n+m-i))) (W0.setRow w.heap.size c1):=λty dc=>by
  rw[qf];exact l8 W0 22 22 ty 43 w.heap.size (i*43) (n+m-i) dc ⟨vb,0,none⟩ m vc ROW 43 vs 43 Tryz.underlying22 l9 hT0.at'
   (by rw[gw];congr 1;show m=min m (n+m-i);omega)
   (λj v hj=>by rw[Addr.add_lit,zero_add];grind [vQ])
   (by grind) h1v
 have hT1:Turned w (W0.setRow w.heap.size c1) w.heap.size c1 43:=hT0.next (Turned.row hT0.at');obtain⟨W1,hW1⟩:∃W1,W1=W0.setRow w.heap.size c1:=⟨_,rfl⟩;rw[<-hW1] at hcpA hT1;have hT2:Turned w W1.drew w.heap.size c1 43:=hT1.drew';obtain⟨c2,gM⟩:∃c2:Array Value,c2=(c1.toList.take ((i+m)*43)++cs.drop (i*43)++c1.toList.drop ((i+m)*43+(cs.drop (i*43)).length)).toArray:=⟨_,rfl⟩;have hdl:(cs.drop (i*43)).length=(n-i)*43:=by rw[List.length_drop,kt,sub_mul]
 have gB:W1.drew.heap[b]?=some (.cells cur e0 (0,0)):=by rw[hT2.oth b qw (by omega)];grind
 have hc1s:c1.size=K*43:=by grind
 have hcpB:∀ty dc sc,(copy_ #[22,22] ty #[.slice (some ⟨w.heap.size,(i+m)*43,none⟩) (n+m-(i+m)) dc,.slice (some ⟨b,i*43,none⟩) (n-i) sc]).run Tryz.prog W1.drew=.ok (goInt (Nat.min (n-i) (n+m-(i+m)))) (W1.drew.setRow w.heap.size c2):=λty dc sc=>by
  rw[gM];exact l8 W1.drew 22 22 ty 43 w.heap.size ((i+m)*43) (n+m-(i+m)) dc ⟨b,i*43,none⟩ (n-i) sc c1 43 (cs.drop (i*43)) 43 Tryz.underlying22 l9 hT2.at'
   (by grind)
   (λj v hj=>by rw[Addr.add_lit];exact vQ gB gY (by rwa [List.getElem?_drop] at hj))
   (by grind) (λv hv=>h1c v (List.mem_of_mem_drop hv))
 have hT3:Turned w (W1.drew.setRow w.heap.size c2) w.heap.size c2 43:=hT2.next (Turned.row hT2.at');have kI:c2.size=K*43/\c2.toList.take ((n+m)*43)=cs.take (i*43)++(vs++cs.drop (i*43)):=by
  grind
 have HT:=Lib.hid hT3;have hGi:¬(K=i):=by omega
 have hGim:¬(K=i+m):=by omega
 have hci:¬(c=i):=by omega
 have mb:IntKind.i64.wrap ((i:Int)+(m:Int))=(i:Int)+(m:Int):=by grind [IntKind.wrap_i64]
 have qg:(0:Int)<=(i:Int)+(m:Int):=by omega
 have htn:((i:Int)+(m:Int)).toNat=i+m:=by omega
 have hb3:(i:Int)<=(n:Int):=by omega
 have hK63:K<=9223372036854775807:=by simp only[maxLen] at hle;omega
 have key:Calls Tryz.prog 35 #[.slice (some ⟨b,0,none⟩) n c,.int .i64 i,.slice (some ⟨vb,0,none⟩) m vc] w λe w'=>e=.returned (.slice (some ⟨w.heap.size,0,none⟩) (n+m) K)/\w'=W1.drew.setRow w.heap.size c2:=by
  clear kI HT hT3 hT2 hT1 hT0 hW0 hW1 hROW hRs hnmK r1 r2 r3 r4 qf gM hc1s hold kL hbk kt gw hb gY hv ko h1c h1v hz hs qs iz gT hdl gB hv0 hvb qw hzl mj hik hle iL;have mixed:Tryz.prog.follows Departure.mixedOrders:=by kernel_rfl
  go_enter Tryz.func35,Tryz.ntmps35
  go_wp2_with (first
   |(at_builtin;refine Lib.wpList_append_run _ rfl _ _ _ _ rfl _ _ rfl rfl _ _ (hrz _) ?_)
   |(at_builtin;refine wpList_copy_runI _ rfl _ _ 22 22 rfl _ _ rfl rfl (hcpA _ _) ?_))
  go_region_law_o (refine step_copy_runI rfl _ _ 22 22 rfl (.slice (some ⟨w.heap.size,(i+m)*43,none⟩) (n+m-(i+m)) (K-(i+m))) (.slice (some ⟨b,i*43,none⟩) (n-i) (c-i)) (by simp[Act.eval,Act.put]) (by simp[Act.eval,Act.put]) (hcpB 3 (K-(i+m)) (c-i)) ?_)
  go_wp2
  go_ret
  simp_all
 refine key.mono ?_;rintro e w' ⟨rfl,rfl⟩;exact⟨K,c2,rfl,HT.out,gW,hle,kI⟩
theorem qQ4{o:Nat}(h:w.heap[b]?=some (.cells cur e (0,0)))(j:o+vs.length<=cur.size) :
  ∃c1:Array Value,Turned w (w.setCells b o vs) b c1 e/\c1.toList=cur.toList.take o++(vs++cur.toList.drop (o+vs.length)):=by
 obtain⟨c1,C,J⟩:=S8 b e (0,0) vs o w cur h j;obtain⟨s1,s2,R⟩:=yB8 b vs o w;exact⟨c1,⟨s1,s2,R,Nat.le_of_eq (eX b vs o w).symm,C,λk _ hk=>Pf b vs o w k hk⟩,J⟩
theorem lI6{z:Value}{i0:TypeInfo}(j:Tryz.prog.info? 43=some i0)(o:i0.zero=some z)(w:World):(zeroValue 43).run Tryz.prog w=.ok z w:=by
 simp_all [zeroValue,typeInfo]
set_option maxHeartbeats 4000000 in
set_option maxRecDepth 100000 in
theorem lI7:lI5 Tryz.prog 31 43:=by
 intro b n c i j cur e0 cs w gz hj hnc ni kt h1c hb iw gY;obtain⟨i0,z,iL,hz,hs,qs,iz,gT⟩:=zK8 (P:=Tryz.prog) (T:=43) (n:=43) (by kernel_rfl);obtain⟨news,qq⟩:∃news,news=cs.drop (j*43):=⟨_,rfl⟩;have hlen:news.length=(n-j)*43:=by grind
 have hjn:j*43<=n*43:=jS _ hj;have hij3:i*43<=j*43:=jS _ (by omega);have hnc3:n*43<=c*43:=jS _ hnc;have nk:(n-j)*43=n*43-j*43:=sub_mul ..;have ki:i*43+news.length<=cur.size:=by grind
 obtain⟨A,hA,hsrc⟩:∃A:Addr,(if c=j then some (⟨b,0,none⟩:Addr) else some ⟨b,j*43,none⟩)=some A/\Hid (∀t u,news[t]?=some u->w.drew.cell? (A.add t)=some u):=by
  by_cases h:c=j
  ·refine⟨⟨b,0,none⟩,by grind,λt u hu=>?_⟩
   grind
  ·refine⟨⟨b,j*43,none⟩,by grind,λt u hu=>?_⟩;rw[Addr.add_lit];exact vQ (w:=w) hb gY (by grind)
 have s1:Hid (news.length=(n-j)*43):=hlen;have s2:Hid (∀u∈news,u.oneCell'):=λu hu=>h1c u (List.mem_of_mem_drop (by rw[<-qq];grind));have s3:Hid (∀t,t<news.length->(w.drew.cell? ⟨b,0+i*43+t,none⟩).isSome/\w.drew.frozen? ⟨b,0+i*43+t,none⟩=false):=by
  intro t ht;refine⟨?_,?_⟩
  ·show (w.cell? _).isSome=true
   grind [cell?]
  ·show w.frozen? _=false
   grind [frozen?]
 obtain⟨c1,hT1,qf⟩:=qQ4 (w:=w.drew) (o:=0+i*43) (vs:=news) hb (by grind);have hT1:=hT1.drew;obtain⟨W1,hW1⟩:∃W1,W1=w.drew.setCells b (0+i*43) news:=⟨_,rfl⟩;rw[<-hW1] at hT1;have hc1s:c1.size=c*43:=by
  grind [jN,jO,jT,List.length_drop]
 have hp3:(i+(n-j))*43=i*43+(n*43-j*43):=by grind
 have hq3:(n-(i+(n-j)))*43=j*43-i*43:=by grind
 obtain⟨c2,hcl2,hc2s,hc2t⟩:=rT0 (P:=Tryz.prog) W1 22 43 0 z Tryz.underlying22 (lI6 iL hz W1) b ((i+(n-j))*43) (n-(i+(n-j))) (c-(i+(n-j))) c1 e0 (by omega) hT1.at' (by grind) gT;have hT2:Turned w (W1.setRow b c2) b c2 e0:=hT1.next (Turned.row hT1.at');have kI:c2.size=c*43/\c2.toList.take ((n-(j-i))*43)=cs.take (i*43)++cs.drop (j*43):=by
  rw[show n-(j-i)=i+(n-j) by omega,hc2t,hp3,qf,<-qq]
  grind
 have HT:=Lib.hid hT2;have hW:Hid (W1=w.drew.setCells b (0+i*43) news):=hW1;have hcl3:∀ty,(clear_ #[22] ty #[.slice (some ⟨b,(i+(n-j))*43,none⟩) (n-(i+(n-j))) (c-(i+(n-j)))]).run Tryz.prog W1=.ok (.tuple #[]) (W1.setRow b c2):=λty=>hcl2;have hic:i<=c:=by omega
 have key:Calls Tryz.prog 31 #[.slice (some ⟨b,0,none⟩) n c,.int .i64 i,.int .i64 j] w λe w'=>e=.returned (.slice (some ⟨b,0,none⟩) (i+(n-j)) c)/\w'=W1.setRow b c2:=by
  clear kI HT hT2 hT1 hW1 hcl2 hc2s hc2t hc1s qf hp3 hq3 ki hlen qq kt h1c hb iw gY hjn hij3 hnc3 nk hz qs iz gT;have mixed:Tryz.prog.follows Departure.mixedOrders:=by kernel_rfl
  go_enter Tryz.func31,Tryz.ntmps31
  go_wp2_with fail
  go_region_law_o (refine step_append_room rfl (.tmp 22) (.tmp 25) 22 rfl 43 i0 43 Tryz.underlying22 iL hs b 0 i c (by simp[Act.eval,Act.put]) A (n-j) (c-j) news (by simp[Act.eval,Act.put]) s1.out hsrc.out s2.out (by omega) s3.out ?_;rw[<-hW.out])
  go_wp2
  go_ret
  simp_all
 refine key.mono ?_;rintro e w' ⟨rfl,rfl⟩;exact⟨c2,by rw[show n-(j-i)=i+(n-j) by omega],HT.out,kI⟩
theorem lI8:lI4 Tryz.prog 35 43:=by
 intro base n c i vb m vc cur vcur R ve cs vs w hi hm gQ hnc ni _ kt gw h1c j kS qc hv _ ko;have hc63:c<=9223372036854775807:=by simp only[maxLen] at ni;omega
 by_cases gk:i=n
 ·subst gk;have e1:cs.take (i*43)++vs++cs.drop (i*43)=cs++vs:=by
   grind
  rw[e1];by_cases ky:i+m<=c
  ·obtain⟨b,rfl⟩:∃b,base=some b:=by
    cases base<;>simp_all
   obtain⟨a1,a2,a3,a4⟩:=qc b rfl;refine (nL2 b i c vb m vc cur vcur R ve cs vs w hm ky kt gw a2 a3 a4 hv ko j).mono ?_;rintro e w' ⟨rfl,c2,o,C,J⟩;exact⟨b,c,c2,R,rfl,.inl rfl,o,ky,ni,C,J⟩
  ·refine (mD (base.map λb=>⟨b,0,none⟩) i c vb m vc vcur ve cs vs w hm hnc (by omega) gQ kt gw (λh=>(kS (by simp_all)).1) (λa ha=>by
    cases base with
    |none=>grind
    |some b=>injection ha with ha;exact⟨b,cur,R,ha.symm,(qc b rfl).2.1,(qc b rfl).2.2.2⟩) hv ko j).mono ?_
   rintro e w' ⟨cap,cells,rfl,o,C,J,q4,q5⟩;exact⟨_,cap,cells,43,rfl,.inr rfl,o,C,J,q4,q5⟩
 ·obtain⟨b,rfl⟩:∃b,base=some b:=by
   cases base<;>simp_all
  obtain⟨a1,a2,a3,a4⟩:=qc b rfl;rw[List.append_assoc];by_cases ky:n+m<=c
  ·refine (oM3 b n c i vb m vc cur vcur R ve cs vs w (by omega) hm ky hc63 (λe=>a1 e.symm) kt gw a2 a3 a4 hv ko h1c j).mono ?_;rintro e w' ⟨rfl,c2,o,C,J⟩;exact⟨b,c,c2,R,rfl,.inl rfl,o,ky,ni,C,J⟩
  ·refine (nL5 b n c i vb m vc cur vcur R ve cs vs w (by omega) hm hnc (by omega) gQ kt gw a2 a4 hv ko h1c j).mono ?_;rintro e w' ⟨cap,cells,rfl,o,C,J,q4,q5⟩;exact⟨_,cap,cells,43,rfl,.inr rfl,o,C,J,q4,q5⟩
theorem Turned.after{j:World}{B:Nat}{cs:Array Value}{o:TypeId}(h:Turned (w.alloc (.cells cur o)) j B cs e)(_:w.heap.size<B):Turned w j B cs e:=by
 have C:(w.alloc (.cells cur o)).heap.size=w.heap.size+1:=by simp
 refine⟨h.os,h.tape,h.output,by have:=h.size;omega,h.at',λk J kj=>?_⟩;rw[h.oth k (by omega) kj]
 grind [Below.heap_alloc]
set_option maxHeartbeats 4000000 in
set_option maxRecDepth 100000 in
theorem nL6:xJ8 Tryz.prog 67 43:=by
 refine⟨⟨_,Tryz.func67,by kernel_rfl,by decide⟩,?_⟩;intro b o n c cur e0 us w hn gQ hnc qp h1 hb iw;obtain⟨i0,z,hi,hz,hs,qs,iz,gT⟩:=zK8 (P:=Tryz.prog) (T:=43) (n:=43) (by kernel_rfl);have kL:(0+n)*i0.bytes<=140737488355328:=by
  calc (0+n)*i0.bytes<=4294967296*32768:=mul_le_mul (by omega) qs
   _=140737488355328:=by grind
 obtain⟨W0,hW0⟩:∃W0,W0=w.alloc (.cells #[] 43):=⟨_,rfl⟩;have tt:W0.heap.size=w.heap.size+1:=by simp_all
 have kF:∀j u,us[j]?=some u->W0.cell? ⟨b,o+j,none⟩=some u:=by
  grind [Below.heap_alloc,cell?]
 have hsrc:Src Tryz.prog i0.size 22 (.slice (some ⟨b,o,none⟩) n c) n us W0:=by
  grind [Src.ofSlice,Tryz.underlying22,Addr.add_lit]
 have hold:(firstCells i0.size 0 (.slice (some ⟨w.heap.size,0,none⟩) 0 0)).run Tryz.prog W0.drew=.ok ([]:List Value).toArray W0.drew:=by
  grind [run_firstCells_some]
 have kf:∀ty,(append_ #[22,22] ty #[.slice (some ⟨w.heap.size,0,none⟩) 0 0,.slice (some ⟨b,o,none⟩) n c]).run Tryz.prog W0=_:=λty =>
  run_append_grow_src W0 22 22 ty 43 i0 z Tryz.underlying22 hi hz (some ⟨w.heap.size,0,none⟩) 0 0 [] hold _ n us hsrc (by omega) (by omega) (growslice_fits (by omega) kL)
 have gW:=grownCap_ge W0 (0+n) 0 43;have hle:=grownCap_le_maxLen W0 (0+n) 0 43 (by simp only[maxLen];omega);generalize grownCap W0 (0+n) 0 43=K at kf gW hle;have hT:Turned W0 (W0.drew.alloc (.cells (([]++us).toArray++zeroCells z.cells (K-(0+n))) 43)) W0.heap.size (([]++us).toArray++zeroCells z.cells (K-(0+n))) 43:=Turned.drew Turned.new;obtain⟨ROW,hROW⟩:∃ROW,ROW=([]++us).toArray++zeroCells z.cells (K-(0+n)):=⟨_,rfl⟩;have kI:ROW.size=K*43/\ROW.toList.take (n*43)=us:=by
  rw[hROW];refine⟨?_,?_⟩
  ·rw[Array.size_append,size_zeroCells,iz,List.size_toArray,List.nil_append,qp,<-add_mul];omega
  ·have:=nL3 (cs:=[]) (vs:=us) (zs:=(zeroCells z.cells (K-(0+n))).toList) (k:=n*43) (by rw[List.length_nil,qp];omega);simpa using this
 rw[<-hROW] at kf hT;obtain⟨W1,hW1⟩:∃W1,W1=W0.drew.alloc (.cells ROW 43):=⟨_,rfl⟩;rw[<-hW1] at kf hT;rw[hW0] at hT;have HT:=Lib.hid (Turned.after hT (by grind));rw[zero_add] at kf gW;have key:Calls Tryz.prog 67 #[.slice (some ⟨b,o,none⟩) n c] w λe w'=>e=.returned (.slice (some ⟨w.heap.size+1,0,none⟩) n K)/\w'=W1:=by
  rw[tt,hW0] at kf;clear hW1 hT HT kI hROW gW hle hold hsrc kL qp h1 hb iw hi hz hs qs iz gT kF tt hW0;have q22:∀(w:World) (a:Option Addr) (n c n' c':Nat),(binOp .eql 22 (.slice a n c) (.slice none n' c')).run Tryz.prog w=.ok (.bool a.isNone) w:=λw a n c n' c'=>Lib.run_eql_slice_nil w _ _ a n c n' c' Tryz.underlying22
  go_enter Tryz.func67,Tryz.ntmps67
  go_wp2_with (at_builtin;refine Lib.wpList_append_run _ rfl _ _ _ _ rfl _ _ rfl rfl _ _ (kf _) ?_)
  go_ret
  simp_all
 refine key.mono ?_;rintro e w' ⟨rfl,rfl⟩;exact⟨_,K,ROW,43,rfl,by omega,by rw[show w.heap.size+1=(w.alloc (.cells #[] 43)).heap.size by simp];exact HT.out,gW,hle,kI⟩
theorem lI9:lI3 Tryz.prog 276 2:=
 ⟨λblk cap d w j o=>AnyQ.slices_Reverse Tryz.revN 2 Tryz.isAgg118 Tryz.sizeOf118 Chunk.l (λx=>x.len) (λx=>x.one) blk 0 cap d w j o,
  λw=>AnyQ.slices_Reverse_empty Tryz.revN none 0 w⟩
end Go.Proofs.YtlpphnncneppoaaGreatDoor.Am
