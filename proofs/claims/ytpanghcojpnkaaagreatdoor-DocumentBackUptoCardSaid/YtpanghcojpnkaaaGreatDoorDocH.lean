/- slices.Insert and slices.Delete at nodes. No condition. -/
import Derived.Test.YtpanghcojpnkaaaGreatDoorIns
import Derived.Test.YtpanghcojpnkaaaGreatDoorRev
import Derived.Test.YtpanghcojpnkaaaGreatDoorTryzRevP
import Derived.Test.YtpanghcojpnkaaaGreatDoorProg
import Derived.Shelf.RegionOpenPlain
import Derived.WalkKit
import Derived.Lib.Hide
import Derived.Lib.Overlaps
import Derived.Lib.AppendZerosOnto
import Derived.Deep.RegionLaw
import Derived.Shelf.Spec.SlicesInsert
namespace Go.Proofs.YtpanghcojpnkaaaGreatDoor.Am
open Go Go.Am Go.Proofs Go.RowKit Go.Shelf Go.Lib
def zM (P:Program)(T n:Nat):Bool:=
 match P.info? T with
 |some i=>Nat.beq i.size n&&Nat.ble i.bytes 32768&&(match i.zero with|some z=>Nat.beq z.cells.size n&&z.cells.toList.all (fun v=>v.oneCell')|none=>false)
 |none=>false
theorem zK2 {P:Program}{T n:Nat}(h:zM P T n=true):∃ i z,P.info? T=some i∧i.zero=some z∧i.size=n∧i.bytes≤32768∧z.cells.size=n∧∀ v∈z.cells.toList,v.oneCell'=true:=by
 unfold zM at h
 split at h
 ·rename_i i hi
  simp only[jB] at h
  obtain⟨⟨h1,h2⟩,h3⟩:=h
  split at h3
  ·rename_i z hz
   simp only[jB,List.all_eq_true] at h3
   exact⟨i,z,hi,hz,jC h1,jR h2,jC h3.1,h3.2⟩
  ·cases h3
 ·cases h
theorem wV1 {w:World}{b N:Nat}{cur:Array Value}{e:TypeId}{cs:List Value}(h:w.heap[b]?=some (.cells cur e (0,0)))(ht:cur.toList.take N=cs){j:Nat}{v:Value}(hj:cs[j]?=some v):w.cell? ⟨b,j,none⟩=some v:=by
 rw[← ht,List.getElem?_take] at hj
 split at hj
 ·simp only[World.cell?,h];simpa using hj
 ·cases hj
theorem rN1 {cur cs vs:List Value}{N I M:Nat}(hcl:cs.length=N)(hct:cur.take N=cs)(hI:I≤N)(hvl:vs.length=M)(hC:N+M≤cur.length){c1:List Value}(h1:c1=cur.take (I+M)++cs.drop I++cur.drop (I+M+(cs.drop I).length)) :
  (c1.take I++vs++c1.drop (I+vs.length)).length=cur.length∧(c1.take I++vs++c1.drop (I+vs.length)).take (N+M)=cs.take I++(vs++cs.drop I)∧c1.length=cur.length:=by
 have hl:(cur.take (I+M)).length=I+M:=by rw[jT];omega
 have e1:c1.take I=cs.take I:=by
  rw[h1,List.append_assoc,List.take_append_of_le_length (by omega),List.take_take,← hct,List.take_take]
  congr 1
  omega
 have e2:c1.drop (I+M)=cs.drop I++cur.drop (I+M+(cs.drop I).length):=by
  rw[h1,List.append_assoc,List.drop_append_of_le_length (by omega),List.drop_of_length_le (by omega),List.nil_append]
 have hc1:c1.length=cur.length:=by
  rw[h1];simp only[jO,jT,List.length_drop];omega
 refine⟨?_,?_,hc1⟩
 ·simp only[jO,jT,List.length_drop];omega
 ·rw[hvl,e1,e2,← List.append_assoc,← List.append_assoc]
  rw[List.take_append_of_le_length (by simp only[jO,jT,List.length_drop];omega),List.take_of_length_le (by simp only[jO,jT,List.length_drop];omega),List.append_assoc]
theorem rT3 {cur cs vs:List Value}{N M:Nat}(hcl:cs.length=N)(hct:cur.take N=cs)(hvl:vs.length=M)(hC:N+M≤cur.length) :
  (cur.take N++vs++cur.drop (N+vs.length)).length=cur.length∧(cur.take N++vs++cur.drop (N+vs.length)).take (N+M)=cs++vs:=by
 refine⟨?_,?_⟩
 ·simp only[jO,jT,List.length_drop];omega
 ·rw[hct,List.take_append_of_le_length (by rw[jO];omega),List.take_of_length_le (by rw[jO];omega)]
theorem qO:(Tryz.prog.info? 50).map (·.size)=some 43:=by
 obtain⟨i,z,hi,_,hs,_⟩:=zK2 (P:=Tryz.prog) (T:=50) (n:=43) (by kernel_rfl)
 rw[hi];simp[hs]
set_option maxHeartbeats 4000000 in
set_option maxRecDepth 100000 in
theorem rT4 (b n c i vb m vc:Nat)(cur vcur:Array Value)(e0 ve:TypeId)(cs vs:List Value)(w:World)(hi:i<n)(hm:0<m)(hroom:n+m≤c)(hc63:c≤9223372036854775807)(hvb:vb≠b)
  (hcl:cs.length=n*43) (hvl:vs.length=m*43) (hb:w.heap[b]?=some (.cells cur e0 (0,0))) (hcur:cur.size=c*43) (hct:cur.toList.take (n*43)=cs) (hv:w.heap[vb]?=some (.cells vcur ve (0,0))) (hvt:vcur.toList.take (m*43)=vs)
  (h1c:∀ v∈cs,v.oneCell'=true) (h1v:∀ v∈vs,v.oneCell'=true) :
  Calls Tryz.prog 36 #[.slice (some ⟨b,0,none⟩) n c,.int .i64 i,.slice (some ⟨vb,0,none⟩) m vc] w fun e w' =>
   e=.returned (.slice (some ⟨b,0,none⟩) (n+m) c)∧∃ c2,Turned w w' b c2 e0∧c2.size=c*43∧c2.toList.take ((n+m)*43)=cs.take (i*43)++(vs++cs.drop (i*43)):=by
 have hz1:¬ ((m:Int)=0):=by omega
 have hz2:¬ ((i:Int)=(n:Int)):=by omega
 have hw1:IntKind.i64.wrap ((i:Int)+(m:Int))=(i:Int)+(m:Int):=by rw[IntKind.wrap_i64];omega
 have hb1:(0:Int)≤(i:Int)+(m:Int):=by omega
 have hin:i≤n:=by omega
 have htn:((i:Int)+(m:Int)).toNat=i+m:=by omega
 have hb2:¬ (c=i+m):=by omega
 have hb3:(i:Int)≤(n:Int)+(m:Int):=by omega
 have hb4:¬ (c=i):=by omega
 have hcc:(n+m)*43≤cur.size:=by rw[hcur];exact jS _ hroom
 have hov:∀ lb cb,(callFunc 68 #[.slice (some ⟨vb,0,none⟩) m vc,.slice (some ⟨b,(i+m)*43,none⟩) lb cb]).run Tryz.prog w=.ok (.value (.bool false)) w:=fun lb cb=>by
  rw[run_callFunc_extern Tryz.func68 (by kernel_rfl) (by kernel_rfl) (by kernel_rfl) (e:=Extern.SlicesOverlaps.overlaps #[22,22] #[4]) (by kernel_rfl),
   Lib.run_overlaps_apart w 22 4 50 Tryz.underlying22 43 Tryz.sizeOf50 ⟨vb,0,none⟩ ⟨b,(i+m)*43,none⟩ m vc lb cb hvb ve e0 vcur.size cur.size (by simp[World.shape?,hv]) (by simp[World.shape?,hb]) (by omega) (by simp[World.frozen?,hv]) (by simp[World.frozen?,hv])]
  rfl
 have hI:(i+m)*43=i*43+m*43:=Nat.add_mul ..
 have hdl:(cs.drop (i*43)).length=(n-i)*43:=by rw[List.length_drop,hcl,Nat.sub_mul]
 obtain⟨c1,hc1⟩:∃ c1:Array Value,c1=(cur.toList.take ((i+m)*43)++cs.drop (i*43)++cur.toList.drop ((i+m)*43+(cs.drop (i*43)).length)).toArray:=⟨_,rfl⟩
 have hcp1:∀ ty dc sc,(Builtin.copy_ #[22,22] ty #[.slice (some ⟨b,(i+m)*43,none⟩) (n+m-(i+m)) dc,.slice (some ⟨b,i*43,none⟩) (n+m-i) sc]).run Tryz.prog w.drew=.ok (goInt (Nat.min (n+m-i) (n+m-(i+m)))) (w.drew.setRow b c1):=fun ty dc sc=>by
  rw[hc1]
  exact wV0 w.drew 22 22 ty 50 b ((i+m)*43) (n+m-(i+m)) dc ⟨b,i*43,none⟩ (n+m-i) sc cur e0 (cs.drop (i*43)) 43 Tryz.underlying22 qO hb
   (by rw[hdl];congr 1;show n-i=min (n+m-i) (n+m-(i+m));omega)
   (fun j v hj=>by rw[Addr.add_lit];exact wV1 hb hct (by rwa [List.getElem?_drop] at hj))
   (by rw[hdl,← Nat.add_mul];exact Nat.le_trans (jS _ (by omega)) hcc) (fun v hv=>h1c v (List.mem_of_mem_drop hv))
 obtain⟨k1,k2,k3⟩:=rN1 (cur:=cur.toList) (I:=i*43) (M:=m*43) (c1:=c1.toList) hcl hct (jS _ hin) hvl (by rw[← Nat.add_mul];simpa using hcc) (by rw[hc1,hI])
 have hT1:Turned w (w.drew.setRow b c1) b c1 e0:=Turned.drew (Turned.row hb)
 obtain⟨W1,hW1⟩:∃ W1,W1=w.drew.setRow b c1:=⟨_,rfl⟩
 rw[← hW1] at hcp1 hT1
 have hvw:W1.heap[vb]?=some (.cells vcur ve (0,0)):=by rw[hT1.oth vb (zE8 hv) hvb];exact hv
 obtain⟨c2,hc2⟩:∃ c2:Array Value,c2=(c1.toList.take (i*43)++vs++c1.toList.drop (i*43+vs.length)).toArray:=⟨_,rfl⟩
 have hcp2:∀ ty dc,(Builtin.copy_ #[22,22] ty #[.slice (some ⟨b,i*43,none⟩) (n+m-i) dc,.slice (some ⟨vb,0,none⟩) m vc]).run Tryz.prog W1=.ok (goInt (Nat.min m (n+m-i))) (W1.setRow b c2):=fun ty dc=>by
  rw[hc2]
  exact wV0 W1 22 22 ty 50 b (i*43) (n+m-i) dc ⟨vb,0,none⟩ m vc c1 e0 vs 43 Tryz.underlying22 qO hT1.at'
   (by rw[hvl];congr 1;show m=min m (n+m-i);omega)
   (fun j v hj=>by rw[Addr.add_lit,Nat.zero_add];exact wV1 hvw hvt hj)
   (by rw[hvl,← Nat.add_mul,← jN,k3,jN];exact Nat.le_trans (jS _ (by omega)) hcc) h1v
 have hT2:Turned w (W1.setRow b c2) b c2 e0:=hT1.next (Turned.row hT1.at')
 clear hW1
 have hfin:c2.size=c*43∧c2.toList.take ((n+m)*43)=cs.take (i*43)++(vs++cs.drop (i*43)):=by
  rw[hc2]
  refine⟨by rw[List.size_toArray,k1,jN,hcur],?_⟩
  rw[Nat.add_mul];exact k2
 have HF:=Lib.hid hfin
 have HT:=Lib.hid hT2
 clear hfin hT2 hT1 k1 k2 k3 hc1 hc2 hvw hI hcc hdl hcl hvl hct hvt hcur h1c h1v hb hv hvb
 have mixed:Tryz.prog.follows Departure.mixedOrders=true:=by kernel_rfl
 go_enter Tryz.func36,Tryz.ntmps36
 go_wp2_with (simp only[hov])
 go_region_law_o (refine step_copy_runI rfl _ _ 22 22 rfl _ _ (by simp[Act.eval,Act.put]) (by simp[Act.eval,Act.put]) (hcp1 _ _ _) ?_)
 go_wp2_with (at_builtin;refine wpList_copy_runI _ rfl _ _ 22 22 rfl _ _ rfl rfl (hcp2 _ _) ?_)
 go_ret
 exact⟨rfl,c2,HT.out,HF.out⟩
set_option maxHeartbeats 4000000 in
set_option maxRecDepth 100000 in
theorem qO0 (b n c vb m vc:Nat)(cur vcur:Array Value)(e0 ve:TypeId)(cs vs:List Value)(w:World)(hm:0<m)(hroom:n+m≤c)
  (hcl:cs.length=n*43) (hvl:vs.length=m*43) (hb:w.heap[b]?=some (.cells cur e0 (0,0))) (hcur:cur.size=c*43) (hct:cur.toList.take (n*43)=cs) (hv:w.heap[vb]?=some (.cells vcur ve (0,0))) (hvt:vcur.toList.take (m*43)=vs)
  (h1v:∀ v∈vs,v.oneCell'=true) :
  Calls Tryz.prog 36 #[.slice (some ⟨b,0,none⟩) n c,.int .i64 n,.slice (some ⟨vb,0,none⟩) m vc] w fun e w' =>
   e=.returned (.slice (some ⟨b,0,none⟩) (n+m) c)∧∃ c2,Turned w w' b c2 e0∧c2.size=c*43∧c2.toList.take ((n+m)*43)=cs++vs:=by
 have hz1:¬ ((m:Int)=0):=by omega
 obtain⟨i0,z,hi,hz,hs,hby,hzs,hz1c⟩:=zK2 (P:=Tryz.prog) (T:=50) (n:=43) (by kernel_rfl)
 have hcc:(n+m)*43≤cur.size:=by rw[hcur];exact jS _ hroom
 have hrun:∀ ty,(Builtin.append_ #[22,22] ty #[.slice (some ⟨b,0,none⟩) n c,.slice (some ⟨vb,0,none⟩) m vc]).run Tryz.prog w=_:=fun ty =>
  zZ8 (P:=Tryz.prog) (w:=w) 22 ty 50 e0 i0 Tryz.underlying22 hi b n c cur hb ⟨vb,0,none⟩ m vc vs (by rw[hvl,hs]) (fun j u hu=>by rw[Addr.add_lit,Nat.zero_add];exact wV1 hv hvt hu) h1v hroom (by rw[hs,hvl,← Nat.add_mul];exact hcc)
 rw[hs] at hrun
 obtain⟨k1,k2⟩:=rT3 (cur:=cur.toList) (M:=m*43) hcl hct hvl (by rw[← Nat.add_mul];simpa using hcc)
 generalize hc2:(cur.toList.take (n*43)++vs++cur.toList.drop (n*43+vs.length))=c2 at hrun k1 k2
 have hT:Turned w (w.setRow b c2.toArray) b c2.toArray e0:=Turned.row hb
 obtain⟨W1,hW1⟩:∃ W1,W1=w.setRow b c2.toArray:=⟨_,rfl⟩
 rw[← hW1] at hrun hT
 have HF:=Lib.hid (show c2.toArray.size=c*43∧c2.toArray.toList.take ((n+m)*43)=cs++vs from ⟨by rw[List.size_toArray,k1,jN,hcur],by rw[Nat.add_mul];exact k2⟩)
 have HT:=Lib.hid hT
 clear hW1 hT k1 k2 hc2 hcc hcl hvl hb hcur hct hv hvt h1v hi hz hs hby hzs hz1c
 have mixed:Tryz.prog.follows Departure.mixedOrders=true:=by kernel_rfl
 go_enter Tryz.func36,Tryz.ntmps36
 go_wp2_with (at_builtin;refine Lib.wpList_append_run _ rfl _ _ _ _ rfl _ _ rfl rfl _ _ (hrun _) ?_)
 all_goals (go_ret;exact⟨rfl,_,HT.out,HF.out⟩)
theorem rA7 {cs vs zs:List Value}{k:Nat}(h:cs.length+vs.length=k):((cs++vs)++zs).take k=cs++vs:=by
 rw[List.take_append_of_le_length (by rw[jO];omega),List.take_of_length_le (by rw[jO];omega)]
set_option maxHeartbeats 4000000 in
set_option maxRecDepth 100000 in
theorem pJ1 (base:Option Addr)(n c vb m vc:Nat)(vcur:Array Value)(ve:TypeId)(cs vs:List Value)(w:World)(hm:0<m)(hnc:n≤c)(hroom:c<n+m)(hbig:n+m≤4294967296)
  (hcl:cs.length=n*43) (hvl:vs.length=m*43) (hnil:base=none→n=0) (hbase:∀ a,base=some a→∃ b cur e0,a=⟨b,0,none⟩∧w.heap[b]?=some (.cells cur e0 (0,0))∧cur.toList.take (n*43)=cs)
  (hv:w.heap[vb]?=some (.cells vcur ve (0,0))) (hvt:vcur.toList.take (m*43)=vs) (h1v:∀ v∈vs,v.oneCell'=true) :
  Calls Tryz.prog 36 #[.slice base n c,.int .i64 n,.slice (some ⟨vb,0,none⟩) m vc] w fun e w' =>
   ∃ cap cells,e=.returned (.slice (some ⟨w.heap.size,0,none⟩) (n+m) cap)∧Turned w w' w.heap.size cells 50∧n+m≤cap∧cap≤maxLen∧cells.size=cap*43∧cells.toList.take ((n+m)*43)=cs++vs:=by
 have hz1:¬ ((m:Int)=0):=by omega
 obtain⟨i0,z,hi,hz,hs,hby,hzs,hz1c⟩:=zK2 (P:=Tryz.prog) (T:=50) (n:=43) (by kernel_rfl)
 have hbytes:(n+m)*i0.bytes≤140737488355328:=by
  calc (n+m)*i0.bytes≤4294967296*32768:=Nat.mul_le_mul hbig hby
   _=140737488355328:=by decide
 have hsrc:Src Tryz.prog i0.size 22 (.slice (some ⟨vb,0,none⟩) m vc) m vs w:=by
  rw[hs]
  exact Src.ofSlice w Tryz.underlying22 ⟨vb,0,none⟩ m vc vs hvl (fun j u hj=>by rw[Addr.add_lit,Nat.zero_add];exact wV1 hv hvt hj) h1v
 have hold:(Builtin.firstCells i0.size n (.slice base n c)).run Tryz.prog w.drew=.ok cs.toArray w.drew:=by
  rw[hs]
  cases base with
  |none =>
   have h0:=hnil rfl
   subst h0
   have hcs:cs=[]:=List.length_eq_zero_iff.1 (by rw[hcl,Nat.zero_mul])
   rw[hcs]
   exact run_firstCells_none w.drew 43 0 0 c
  |some a =>
   obtain⟨b,cur,e0,rfl,hb,hct⟩:=hbase a rfl
   exact run_firstCells_some w.drew 43 n ⟨b,0,none⟩ n c cs hcl (fun j v hj=>by rw[Addr.add_lit,Nat.zero_add];exact wV1 (w:=w) hb hct hj)
 have hrun:∀ ty,(Builtin.append_ #[22,22] ty #[.slice base n c,.slice (some ⟨vb,0,none⟩) m vc]).run Tryz.prog w=_:=fun ty =>
  run_append_grow_src w 22 22 ty 50 i0 z Tryz.underlying22 hi hz base n c cs hold _ m vs hsrc hroom (by omega) (growslice_fits hroom hbytes)
 have hge:=grownCap_ge w (n+m) c 50
 have hle:=grownCap_le_maxLen w (n+m) c 50 (by simp only[maxLen];omega)
 generalize grownCap w (n+m) c 50=K at hrun hge hle
 have hT:Turned w (w.drew.alloc (.cells ((cs++vs).toArray++Builtin.zeroCells z.cells (K-(n+m))) 50)) w.heap.size ((cs++vs).toArray++Builtin.zeroCells z.cells (K-(n+m))) 50:=Turned.drew Turned.new
 obtain⟨ROW,hROW⟩:∃ ROW,ROW=(cs++vs).toArray++Builtin.zeroCells z.cells (K-(n+m)):=⟨_,rfl⟩
 have hfin:ROW.size=K*43∧ROW.toList.take ((n+m)*43)=cs++vs:=by
  rw[hROW]
  refine⟨?_,?_⟩
  ·rw[Array.size_append,size_zeroCells,hzs,List.size_toArray,jO,hcl,hvl,← Nat.add_mul,← Nat.add_mul]
   congr 1;omega
  ·rw[Array.toList_append]
   exact rA7 (by rw[hcl,hvl,Nat.add_mul])
 rw[← hROW] at hrun hT
 obtain⟨W1,hW1⟩:∃ W1,W1=w.drew.alloc (.cells ROW 50):=⟨_,rfl⟩
 rw[← hW1] at hrun hT
 have HT:=Lib.hid hT
 have key:Calls Tryz.prog 36 #[.slice base n c,.int .i64 n,.slice (some ⟨vb,0,none⟩) m vc] w fun e w'=>e=.returned (.slice (some ⟨w.heap.size,0,none⟩) (n+m) K)∧w'=W1:=by
  clear hW1 hT HT hfin hROW hge hle hold hsrc hbytes hcl hvl hv hvt h1v hi hz hs hby hzs hz1c
  have mixed:Tryz.prog.follows Departure.mixedOrders=true:=by kernel_rfl
  cases base with
  |none =>
   have h0:=hnil rfl
   subst h0
   clear hnil hbase
   rw[Nat.zero_add] at hrun ⊢
   go_enter Tryz.func36,Tryz.ntmps36
   go_wp2_with (at_builtin;refine Lib.wpList_append_run _ rfl _ _ _ _ rfl _ _ rfl rfl _ _ (hrun _) ?_)
   all_goals (go_ret;exact⟨rfl,rfl⟩)
  |some a =>
   obtain⟨b,cur,e0,rfl,_⟩:=hbase a rfl
   clear hnil hbase
   go_enter Tryz.func36,Tryz.ntmps36
   go_wp2_with (at_builtin;refine Lib.wpList_append_run _ rfl _ _ _ _ rfl _ _ rfl rfl _ _ (hrun _) ?_)
   all_goals (go_ret;exact⟨rfl,rfl⟩)
 refine key.mono ?_
 rintro e w' ⟨rfl,rfl⟩
 exact⟨K,ROW,rfl,HT.out,hge,hle,hfin⟩
theorem qO1 {cs vs z1 z2:List Value}{N I M:Nat}(hcl:cs.length=N)(hI:I≤N)(hvl:vs.length=M)(hz:z1.length=N+M-I){r c1:List Value}(hr:r=cs.take I++z1++z2)(h1:c1=r.take I++vs++r.drop (I+vs.length)) :
  r.length=N+M+z2.length∧c1.length=r.length∧(c1.take (I+M)++cs.drop I++c1.drop (I+M+(cs.drop I).length)).length=r.length∧(c1.take (I+M)++cs.drop I++c1.drop (I+M+(cs.drop I).length)).take (N+M)=cs.take I++(vs++cs.drop I):=by
 have hrl:r.length=N+M+z2.length:=by
  rw[hr];simp only[jO,jT,hz];omega
 have e0:r.take I=cs.take I:=by
  rw[hr,List.append_assoc,List.take_append_of_le_length (by rw[jT];omega),List.take_take,Nat.min_self]
 have hc1:c1.length=r.length:=by
  rw[h1];simp only[jO,jT,List.length_drop];omega
 have e1:c1.take (I+M)=cs.take I++vs:=by
  rw[h1,e0,List.take_append_of_le_length (by simp only[jO,jT];omega),List.take_of_length_le (by simp only[jO,jT];omega)]
 refine⟨hrl,hc1,?_,?_⟩
 ·simp only[jO,jT,List.length_drop];omega
 ·rw[e1,List.take_append_of_le_length (by simp only[jO,jT,List.length_drop];omega),List.take_of_length_le (by simp only[jO,jT,List.length_drop];omega),List.append_assoc]
set_option maxHeartbeats 4000000 in
set_option maxRecDepth 100000 in
theorem qO2 (b n c i vb m vc:Nat)(cur vcur:Array Value)(e0 ve:TypeId)(cs vs:List Value)(w:World)(hi:i<n)(hm:0<m)(hnc:n≤c)(hroom:c<n+m)(hbig:n+m≤4294967296)
  (hcl:cs.length=n*43) (hvl:vs.length=m*43) (hb:w.heap[b]?=some (.cells cur e0 (0,0))) (hct:cur.toList.take (n*43)=cs) (hv:w.heap[vb]?=some (.cells vcur ve (0,0))) (hvt:vcur.toList.take (m*43)=vs)
  (h1c:∀ v∈cs,v.oneCell'=true) (h1v:∀ v∈vs,v.oneCell'=true) :
  Calls Tryz.prog 36 #[.slice (some ⟨b,0,none⟩) n c,.int .i64 i,.slice (some ⟨vb,0,none⟩) m vc] w fun e w' =>
   ∃ cap cells,e=.returned (.slice (some ⟨w.heap.size,0,none⟩) (n+m) cap)∧Turned w w' w.heap.size cells 50∧n+m≤cap∧cap≤maxLen∧cells.size=cap*43∧cells.toList.take ((n+m)*43)=cs.take (i*43)++(vs++cs.drop (i*43)):=by
 have hz1:¬ ((m:Int)=0):=by omega
 have hz2:¬ ((i:Int)=(n:Int)):=by omega
 have hz3:(c:Int)<(n:Int)+(m:Int):=by omega
 obtain⟨i0,z,hi0,hz,hs,hby,hzs,hz1c⟩:=zK2 (P:=Tryz.prog) (T:=50) (n:=43) (by kernel_rfl)
 have hbytes:(n+m)*i0.bytes≤140737488355328:=by
  calc (n+m)*i0.bytes≤4294967296*32768:=Nat.mul_le_mul hbig hby
   _=140737488355328:=by decide
 have hkk:(n:Int)+(m:Int)-(i:Int)=((n+m-i:Nat):Int):=by omega
 have hik:i+(n+m-i)=n+m:=by omega
 have hin:i≤n:=by omega
 have hbk:(n+m-i)*i0.bytes≤281474976710656:=by
  have:(n+m-i)*i0.bytes≤(n+m)*i0.bytes:=jS _ (by omega)
  omega
 have hold:(Builtin.firstCells i0.size i (.slice (some ⟨b,0,none⟩) i c)).run Tryz.prog w.drew=.ok (cs.take (i*43)).toArray w.drew:=by
  rw[hs]
  exact run_firstCells_some w.drew 43 i ⟨b,0,none⟩ i c (cs.take (i*43)) (by rw[jT,hcl];have:=jS 43 hin;omega) (fun j v hj=>by
   rw[Addr.add_lit,Nat.zero_add]
   rw[List.getElem?_take] at hj
   split at hj
   ·exact wV1 (w:=w) hb hct hj
   ·cases hj)
 have hrz:∀ ty,(Builtin.append_ #[22,3] ty #[.slice (some ⟨b,0,none⟩) i c,.int .i64 ((n:Int)+(m:Int)-(i:Int))]).run Tryz.prog w =
   .ok (.slice (some ⟨w.heap.size,0,none⟩) (n+m) (grownCap w (n+m) c 50)) (w.drew.alloc (.cells ((cs.take (i*43)).toArray++Builtin.zeroCells z.cells (n+m-i)++Builtin.zeroCells z.cells (grownCap w (n+m) c 50-(n+m))) 50)):=fun ty=>by
  have h:=Lib.run_append_grow_zeros w 22 3 ty 50 i0 z .i64 .i64 Tryz.underlying22 Tryz.underlying3 hi0 hz (some ⟨b,0,none⟩) i c (cs.take (i*43)) hold (n+m-i) (by omega) (by omega) (by omega) (by omega) hbk (by rw[hik];exact growslice_fits hroom hbytes)
  rw[hik] at h
  rw[hkk]
  exact h
 have hge:=grownCap_ge w (n+m) c 50
 have hle:=grownCap_le_maxLen w (n+m) c 50 (by simp only[maxLen];omega)
 generalize grownCap w (n+m) c 50=K at hrz hge hle
 obtain⟨ROW,hROW⟩:∃ ROW:Array Value,ROW=(cs.take (i*43)).toArray++Builtin.zeroCells z.cells (n+m-i)++Builtin.zeroCells z.cells (K-(n+m)):=⟨_,rfl⟩
 rw[← hROW] at hrz
 have hT0:Turned w (w.drew.alloc (.cells ROW 50)) w.heap.size ROW 50:=Turned.drew Turned.new
 obtain⟨W0,hW0⟩:∃ W0,W0=w.drew.alloc (.cells ROW 50):=⟨_,rfl⟩
 rw[← hW0] at hrz hT0
 obtain⟨c1,hc1⟩:∃ c1:Array Value,c1=(ROW.toList.take (i*43)++vs++ROW.toList.drop (i*43+vs.length)).toArray:=⟨_,rfl⟩
 obtain⟨r1,r2,r3,r4⟩:=qO1 (cs:=cs) (vs:=vs) (N:=n*43) (I:=i*43) (M:=m*43) (z1:=(Builtin.zeroCells z.cells (n+m-i)).toList) (z2:=(Builtin.zeroCells z.cells (K-(n+m))).toList) (r:=ROW.toList) (c1:=c1.toList) hcl (jS _ hin) hvl
  (by rw[jN,size_zeroCells,hzs,Nat.sub_mul,Nat.add_mul]) (by rw[hROW];simp) (by rw[hc1])
 have hzl:(Builtin.zeroCells z.cells (K-(n+m))).toList.length=(K-(n+m))*43:=yV9 hzs
 rw[hzl] at r1
 have hRs:ROW.size=K*43:=by
  rw[← jN,r1,← Nat.add_mul,← Nat.add_mul];congr 1;omega
 have hnmK:(n+m)*43≤K*43:=jS _ hge
 have hvb:vb<w.heap.size:=zE8 hv
 have hbb:b<w.heap.size:=zE8 hb
 have hv0:W0.heap[vb]?=some (.cells vcur ve (0,0)):=by rw[hT0.oth vb hvb (by omega)];exact hv
 have hcpA:∀ ty dc,(Builtin.copy_ #[22,22] ty #[.slice (some ⟨w.heap.size,i*43,none⟩) (n+m-i) dc,.slice (some ⟨vb,0,none⟩) m vc]).run Tryz.prog W0=.ok (goInt (Nat.min m (n+m-i))) (W0.setRow w.heap.size c1):=fun ty dc=>by
  rw[hc1]
  exact wV0 W0 22 22 ty 50 w.heap.size (i*43) (n+m-i) dc ⟨vb,0,none⟩ m vc ROW 50 vs 43 Tryz.underlying22 qO hT0.at'
   (by rw[hvl];congr 1;show m=min m (n+m-i);omega)
   (fun j v hj=>by rw[Addr.add_lit,Nat.zero_add];exact wV1 hv0 hvt hj)
   (by rw[hvl,← Nat.add_mul,hRs];exact Nat.le_trans (jS _ (by omega)) hnmK) h1v
 have hT1:Turned w (W0.setRow w.heap.size c1) w.heap.size c1 50:=hT0.next (Turned.row hT0.at')
 obtain⟨W1,hW1⟩:∃ W1,W1=W0.setRow w.heap.size c1:=⟨_,rfl⟩
 rw[← hW1] at hcpA hT1
 have hT2:Turned w W1.drew w.heap.size c1 50:=hT1.drew'
 obtain⟨c2,hc2⟩:∃ c2:Array Value,c2=(c1.toList.take ((i+m)*43)++cs.drop (i*43)++c1.toList.drop ((i+m)*43+(cs.drop (i*43)).length)).toArray:=⟨_,rfl⟩
 have hdl:(cs.drop (i*43)).length=(n-i)*43:=by rw[List.length_drop,hcl,Nat.sub_mul]
 have hb2:W1.drew.heap[b]?=some (.cells cur e0 (0,0)):=by rw[hT2.oth b hbb (by omega)];exact hb
 have hc1s:c1.size=K*43:=by rw[← jN,r2,jN,hRs]
 have hcpB:∀ ty dc sc,(Builtin.copy_ #[22,22] ty #[.slice (some ⟨w.heap.size,(i+m)*43,none⟩) (n+m-(i+m)) dc,.slice (some ⟨b,i*43,none⟩) (n-i) sc]).run Tryz.prog W1.drew=.ok (goInt (Nat.min (n-i) (n+m-(i+m)))) (W1.drew.setRow w.heap.size c2):=fun ty dc sc=>by
  rw[hc2]
  exact wV0 W1.drew 22 22 ty 50 w.heap.size ((i+m)*43) (n+m-(i+m)) dc ⟨b,i*43,none⟩ (n-i) sc c1 50 (cs.drop (i*43)) 43 Tryz.underlying22 qO hT2.at'
   (by rw[hdl];congr 1;show n-i=min (n-i) (n+m-(i+m));omega)
   (fun j v hj=>by rw[Addr.add_lit];exact wV1 hb2 hct (by rwa [List.getElem?_drop] at hj))
   (by rw[hdl,← Nat.add_mul,hc1s];exact Nat.le_trans (jS _ (by omega)) hnmK) (fun v hv=>h1c v (List.mem_of_mem_drop hv))
 have hT3:Turned w (W1.drew.setRow w.heap.size c2) w.heap.size c2 50:=hT2.next (Turned.row hT2.at')
 have hfin:c2.size=K*43∧c2.toList.take ((n+m)*43)=cs.take (i*43)++(vs++cs.drop (i*43)):=by
  rw[hc2]
  refine⟨?_,?_⟩
  ·rw[List.size_toArray,Nat.add_mul,r3,jN,hRs]
  ·rw[Nat.add_mul n,Nat.add_mul i];exact r4
 have HT:=Lib.hid hT3
 have hGi:¬ (K=i):=by omega
 have hGim:¬ (K=i+m):=by omega
 have hci:¬ (c=i):=by omega
 have hw1:IntKind.i64.wrap ((i:Int)+(m:Int))=(i:Int)+(m:Int):=by rw[IntKind.wrap_i64];omega
 have hb1:(0:Int)≤(i:Int)+(m:Int):=by omega
 have htn:((i:Int)+(m:Int)).toNat=i+m:=by omega
 have hb3:(i:Int)≤(n:Int):=by omega
 have hK63:K≤9223372036854775807:=by simp only[maxLen] at hle;omega
 have key:Calls Tryz.prog 36 #[.slice (some ⟨b,0,none⟩) n c,.int .i64 i,.slice (some ⟨vb,0,none⟩) m vc] w fun e w'=>e=.returned (.slice (some ⟨w.heap.size,0,none⟩) (n+m) K)∧w'=W1.drew.setRow w.heap.size c2:=by
  clear hfin HT hT3 hT2 hT1 hT0 hW0 hW1 hROW hRs hnmK r1 r2 r3 r4 hc1 hc2 hc1s hold hbytes hbk hcl hvl hb hct hv hvt h1c h1v hz hs hby hzs hz1c hdl hb2 hv0 hvb hbb hzl hkk hik hle hi0
  have mixed:Tryz.prog.follows Departure.mixedOrders=true:=by kernel_rfl
  go_enter Tryz.func36,Tryz.ntmps36
  go_wp2_with (first
   |(at_builtin;refine Lib.wpList_append_run _ rfl _ _ _ _ rfl _ _ rfl rfl _ _ (hrz _) ?_)
   |(at_builtin;refine wpList_copy_runI _ rfl _ _ 22 22 rfl _ _ rfl rfl (hcpA _ _) ?_))
  go_region_law_o (refine step_copy_runI rfl _ _ 22 22 rfl (.slice (some ⟨w.heap.size,(i+m)*43,none⟩) (n+m-(i+m)) (K-(i+m))) (.slice (some ⟨b,i*43,none⟩) (n-i) (c-i)) (by simp[Act.eval,Act.put]) (by simp[Act.eval,Act.put]) (hcpB 3 (K-(i+m)) (c-i)) ?_)
  go_wp2
  go_ret
  exact⟨rfl,rfl⟩
 refine key.mono ?_
 rintro e w' ⟨rfl,rfl⟩
 exact⟨K,c2,rfl,HT.out,hge,hle,hfin⟩
theorem sD9 {w:World}{b o:Nat}{cur:Array Value}{e:TypeId}{vs:List Value}(h:w.heap[b]?=some (.cells cur e (0,0)))(hf:o+vs.length≤cur.size) :
  ∃ c1:Array Value,Turned w (w.setCells b o vs) b c1 e∧c1.toList=cur.toList.take o++(vs++cur.toList.drop (o+vs.length)):=by
 obtain⟨c1,h1,h2⟩:=zJ6 b e (0,0) vs o w cur h hf
 obtain⟨s1,s2,s3⟩:=zZ7 b vs o w
 exact⟨c1,⟨s1,s2,s3,Nat.le_of_eq (zN6 b vs o w).symm,h1,fun k _ hk=>zD6 b vs o w k hk⟩,h2⟩
theorem oI4 {z:Value}{i0:TypeInfo}(hi:Tryz.prog.info? 50=some i0)(hz:i0.zero=some z)(w:World):(zeroValue 50).run Tryz.prog w=.ok z w:=by
 simp[zeroValue,typeInfo,hi,hz]
set_option maxHeartbeats 4000000 in
set_option maxRecDepth 100000 in
theorem oI5:oI3 Tryz.prog 39 43:=by
 intro b n c i j cur e0 cs w hij hj hnc hcm hcl h1c hb hcur hct
 obtain⟨i0,z,hi0,hz,hs,hby,hzs,hz1c⟩:=zK2 (P:=Tryz.prog) (T:=50) (n:=43) (by kernel_rfl)
 obtain⟨news,hnews⟩:∃ news,news=cs.drop (j*43):=⟨_,rfl⟩
 have hlen:news.length=(n-j)*43:=by rw[hnews,List.length_drop,hcl,Nat.sub_mul]
 have hjn:j*43≤n*43:=jS _ hj
 have hij3:i*43≤j*43:=jS _ (by omega)
 have hnc3:n*43≤c*43:=jS _ hnc
 have hsub:(n-j)*43=n*43-j*43:=Nat.sub_mul ..
 have hfit:i*43+news.length≤cur.size:=by rw[hlen,hcur];omega
 obtain⟨A,hA,hsrc⟩:∃ A:Addr,(if c=j then some (⟨b,0,none⟩:Addr) else some ⟨b,j*43,none⟩)=some A∧Hid (∀ t u,news[t]?=some u→w.drew.cell? (A.add t)=some u):=by
  by_cases h:c=j
  ·refine⟨⟨b,0,none⟩,by simp[h],fun t u hu=>?_⟩
   have h0:news.length=0:=by rw[hlen,show n-j=0 by omega,Nat.zero_mul]
   rw[List.length_eq_zero_iff.1 h0] at hu
   simp at hu
  ·refine⟨⟨b,j*43,none⟩,by simp[h],fun t u hu=>?_⟩
   rw[Addr.add_lit]
   exact wV1 (w:=w) hb hct (by rwa [hnews,List.getElem?_drop] at hu)
 have s1:Hid (news.length=(n-j)*43):=hlen
 have s2:Hid (∀ u∈news,u.oneCell'=true):=fun u hu=>h1c u (List.mem_of_mem_drop (by rw[← hnews];exact hu))
 have s3:Hid (∀ t,t<news.length→(w.drew.cell? ⟨b,0+i*43+t,none⟩).isSome=true∧w.drew.frozen? ⟨b,0+i*43+t,none⟩=false):=by
  intro t ht
  have:i*43+t<cur.size:=by omega
  refine⟨?_,?_⟩
  ·show (w.cell? _).isSome=true
   simp[World.cell?,hb,this]
  ·show w.frozen? _=false
   simp[World.frozen?,hb]
 obtain⟨c1,hT1,hc1⟩:=sD9 (w:=w.drew) (o:=0+i*43) (vs:=news) hb (by rw[Nat.zero_add];exact hfit)
 rw[Nat.zero_add] at hc1
 have hT1:=hT1.drew
 obtain⟨W1,hW1⟩:∃ W1,W1=w.drew.setCells b (0+i*43) news:=⟨_,rfl⟩
 rw[← hW1] at hT1
 have hc1s:c1.size=c*43:=by
  rw[← jN,hc1];simp only[jO,jT,List.length_drop,jN];omega
 have hp3:(i+(n-j))*43=i*43+(n*43-j*43):=by rw[Nat.add_mul,hsub]
 have hq3:(n-(i+(n-j)))*43=j*43-i*43:=by rw[show n-(i+(n-j))=j-i by omega,Nat.sub_mul]
 obtain⟨c2,hcl2,hc2s,hc2t⟩:=tP1 (P:=Tryz.prog) W1 22 50 0 z Tryz.underlying22 (oI4 hi0 hz W1) b ((i+(n-j))*43) (n-(i+(n-j))) (c-(i+(n-j))) c1 e0 (by omega) hT1.at' (by rw[hzs,hp3,hq3,hc1s];omega) hz1c
 have hT2:Turned w (W1.setRow b c2) b c2 e0:=hT1.next (Turned.row hT1.at')
 have hfin:c2.size=c*43∧c2.toList.take ((n-(j-i))*43)=cs.take (i*43)++cs.drop (j*43):=by
  refine⟨by rw[hc2s,hc1s],?_⟩
  rw[show n-(j-i)=i+(n-j) by omega,hc2t,hp3,hc1,← hnews]
  have e1:cur.toList.take (i*43)=cs.take (i*43):=by rw[← hct,List.take_take];congr 1;omega
  rw[e1,← List.append_assoc]
  rw[List.take_append_of_le_length (by rw[jO,jT,hlen];omega),List.take_of_length_le (by rw[jO,jT,hlen];omega)]
 have HT:=Lib.hid hT2
 have hW:Hid (W1=w.drew.setCells b (0+i*43) news):=hW1
 have hcl3:∀ ty,(Builtin.clear_ #[22] ty #[.slice (some ⟨b,(i+(n-j))*43,none⟩) (n-(i+(n-j))) (c-(i+(n-j)))]).run Tryz.prog W1=.ok (.tuple #[]) (W1.setRow b c2):=fun ty=>hcl2
 have heq:¬ ((i:Int)=(j:Int)):=by omega
 have hic:i≤c:=by omega
 have hjc:j≤c:=by omega
 have hc63:c≤9223372036854775807:=by simp only[maxLen] at hcm;omega
 have hin:i≤n:=by omega
 have key:Calls Tryz.prog 39 #[.slice (some ⟨b,0,none⟩) n c,.int .i64 i,.int .i64 j] w fun e w'=>e=.returned (.slice (some ⟨b,0,none⟩) (i+(n-j)) c)∧w'=W1.setRow b c2:=by
  clear hfin HT hT2 hT1 hW1 hcl2 hc2s hc2t hc1s hc1 hp3 hq3 hfit hlen hnews hcl h1c hb hcur hct hjn hij3 hnc3 hsub hz hby hzs hz1c
  have mixed:Tryz.prog.follows Departure.mixedOrders=true:=by kernel_rfl
  go_enter Tryz.func39,Tryz.ntmps39
  go_wp2_with fail
  go_region_law_o (refine step_append_room rfl (.tmp 22) (.tmp 25) 22 rfl 50 i0 43 Tryz.underlying22 hi0 hs b 0 i c (by simp[Act.eval,Act.put]) A (n-j) (c-j) news (by simp[Act.eval,Act.put]) s1.out hsrc.out s2.out (by omega) s3.out ?_;rw[← hW.out])
  go_wp2
  go_ret
  exact⟨rfl,rfl⟩
 refine key.mono ?_
 rintro e w' ⟨rfl,rfl⟩
 exact⟨c2,by rw[show n-(j-i)=i+(n-j) by omega],HT.out,hfin⟩
theorem oI6:oI2 Tryz.prog 36 43:=by
 intro base n c i vb m vc cur vcur e0 ve cs vs w hi hm hbig hnc hcm _ hcl hvl h1c h1v hnone hsome hv _ hvt
 have hc63:c≤9223372036854775807:=by simp only[maxLen] at hcm;omega
 by_cases hin:i=n
 ·subst hin
  have e1:cs.take (i*43)++vs++cs.drop (i*43)=cs++vs:=by
   rw[List.take_of_length_le (by omega),List.drop_of_length_le (by omega),List.append_nil]
  rw[e1]
  by_cases hroom:i+m≤c
  ·obtain⟨b,rfl⟩:∃ b,base=some b:=by
    cases base with
    |none=>have:=hnone rfl;omega
    |some b=>exact⟨b,rfl⟩
   obtain⟨a1,a2,a3,a4⟩:=hsome b rfl
   refine (qO0 b i c vb m vc cur vcur e0 ve cs vs w hm hroom hcl hvl a2 a3 a4 hv hvt h1v).mono ?_
   rintro e w' ⟨rfl,c2,q1,q2,q3⟩
   exact⟨b,c,c2,e0,rfl,.inl rfl,q1,hroom,hcm,q2,q3⟩
  ·refine (pJ1 (base.map fun b=>⟨b,0,none⟩) i c vb m vc vcur ve cs vs w hm hnc (by omega) hbig hcl hvl (fun h=>(hnone (by cases base with|none=>rfl|some b=>cases h)).1) (fun a ha=>by
    cases base with
    |none=>cases ha
    |some b=>injection ha with ha;exact⟨b,cur,e0,ha.symm,(hsome b rfl).2.1,(hsome b rfl).2.2.2⟩) hv hvt h1v).mono ?_
   rintro e w' ⟨cap,cells,rfl,q1,q2,q3,q4,q5⟩
   exact⟨_,cap,cells,50,rfl,.inr rfl,q1,q2,q3,q4,q5⟩
 ·obtain⟨b,rfl⟩:∃ b,base=some b:=by
   cases base with
   |none=>have:=hnone rfl;omega
   |some b=>exact⟨b,rfl⟩
  obtain⟨a1,a2,a3,a4⟩:=hsome b rfl
  rw[List.append_assoc]
  by_cases hroom:n+m≤c
  ·refine (rT4 b n c i vb m vc cur vcur e0 ve cs vs w (by omega) hm hroom hc63 (fun e=>a1 e.symm) hcl hvl a2 a3 a4 hv hvt h1c h1v).mono ?_
   rintro e w' ⟨rfl,c2,q1,q2,q3⟩
   exact⟨b,c,c2,e0,rfl,.inl rfl,q1,hroom,hcm,q2,q3⟩
  ·refine (qO2 b n c i vb m vc cur vcur e0 ve cs vs w (by omega) hm hnc (by omega) hbig hcl hvl a2 a4 hv hvt h1c h1v).mono ?_
   rintro e w' ⟨cap,cells,rfl,q1,q2,q3,q4,q5⟩
   exact⟨_,cap,cells,50,rfl,.inr rfl,q1,q2,q3,q4,q5⟩
theorem Turned.after {w w':World}{B:Nat}{cs c0:Array Value}{e e0:TypeId}(h:Turned (w.alloc (.cells c0 e0)) w' B cs e)(_:w.heap.size<B):Turned w w' B cs e:=by
 have hs:(w.alloc (.cells c0 e0)).heap.size=w.heap.size+1:=by simp
 refine⟨h.os,h.tape,h.output,by have:=h.size;omega,h.at',fun k hk hne=>?_⟩
 rw[h.oth k (by omega) hne]
 exact Below.heap_alloc w _ k hk
set_option maxHeartbeats 4000000 in
set_option maxRecDepth 100000 in
theorem qO3:xF8 Tryz.prog 41 43:=by
 refine⟨⟨_,Tryz.func41,by kernel_rfl,by decide⟩,?_⟩
 intro b o n c cur e0 us w hn hbig hnc hul h1 hb hcur
 obtain⟨i0,z,hi,hz,hs,hby,hzs,hz1c⟩:=zK2 (P:=Tryz.prog) (T:=50) (n:=43) (by kernel_rfl)
 have hbytes:(0+n)*i0.bytes≤140737488355328:=by
  calc (0+n)*i0.bytes≤4294967296*32768:=Nat.mul_le_mul (by omega) hby
   _=140737488355328:=by decide
 obtain⟨W0,hW0⟩:∃ W0,W0=w.alloc (.cells #[] 50):=⟨_,rfl⟩
 have hs0:W0.heap.size=w.heap.size+1:=by rw[hW0];simp
 have hcell:∀ j u,us[j]?=some u→W0.cell? ⟨b,o+j,none⟩=some u:=by
  intro j u hu
  have hbb:=zE8 hb
  have hh:W0.heap[b]?=some (.cells cur e0 (0,0)):=by rw[hW0,Below.heap_alloc w _ b hbb];exact hb
  have:=hcur j u hu
  simp only[World.cell?,hh];simpa using this
 have hsrc:Src Tryz.prog i0.size 22 (.slice (some ⟨b,o,none⟩) n c) n us W0:=by
  rw[hs]
  exact Src.ofSlice W0 Tryz.underlying22 ⟨b,o,none⟩ n c us hul (fun j u hj=>by rw[Addr.add_lit];exact hcell j u hj) h1
 have hold:(Builtin.firstCells i0.size 0 (.slice (some ⟨w.heap.size,0,none⟩) 0 0)).run Tryz.prog W0.drew=.ok ([]:List Value).toArray W0.drew:=by
  rw[hs]
  exact run_firstCells_some W0.drew 43 0 ⟨w.heap.size,0,none⟩ 0 0 [] (by simp) (fun j v hj=>by simp at hj)
 have hrun:∀ ty,(Builtin.append_ #[22,22] ty #[.slice (some ⟨w.heap.size,0,none⟩) 0 0,.slice (some ⟨b,o,none⟩) n c]).run Tryz.prog W0=_:=fun ty =>
  run_append_grow_src W0 22 22 ty 50 i0 z Tryz.underlying22 hi hz (some ⟨w.heap.size,0,none⟩) 0 0 [] hold _ n us hsrc (by omega) (by omega) (growslice_fits (by omega) hbytes)
 have hge:=grownCap_ge W0 (0+n) 0 50
 have hle:=grownCap_le_maxLen W0 (0+n) 0 50 (by simp only[maxLen];omega)
 generalize grownCap W0 (0+n) 0 50=K at hrun hge hle
 have hT:Turned W0 (W0.drew.alloc (.cells (([]++us).toArray++Builtin.zeroCells z.cells (K-(0+n))) 50)) W0.heap.size (([]++us).toArray++Builtin.zeroCells z.cells (K-(0+n))) 50:=Turned.drew Turned.new
 obtain⟨ROW,hROW⟩:∃ ROW,ROW=([]++us).toArray++Builtin.zeroCells z.cells (K-(0+n)):=⟨_,rfl⟩
 have hfin:ROW.size=K*43∧ROW.toList.take (n*43)=us:=by
  rw[hROW]
  refine⟨?_,?_⟩
  ·rw[Array.size_append,size_zeroCells,hzs,List.size_toArray,List.nil_append,hul,← Nat.add_mul]
   congr 1;omega
  ·rw[Array.toList_append,List.nil_append]
   have:=rA7 (cs:=[]) (vs:=us) (zs:=(Builtin.zeroCells z.cells (K-(0+n))).toList) (k:=n*43) (by rw[List.length_nil,hul];omega)
   simpa using this
 rw[← hROW] at hrun hT
 obtain⟨W1,hW1⟩:∃ W1,W1=W0.drew.alloc (.cells ROW 50):=⟨_,rfl⟩
 rw[← hW1] at hrun hT
 rw[hW0] at hT
 have HT:=Lib.hid (Turned.after hT (by rw[← hW0,hs0];omega))
 rw[Nat.zero_add] at hrun hge
 have key:Calls Tryz.prog 41 #[.slice (some ⟨b,o,none⟩) n c] w fun e w'=>e=.returned (.slice (some ⟨w.heap.size+1,0,none⟩) n K)∧w'=W1:=by
  rw[hs0,hW0] at hrun
  clear hW1 hT HT hfin hROW hge hle hold hsrc hbytes hul h1 hb hcur hi hz hs hby hzs hz1c hcell hs0 hW0
  have mixed:Tryz.prog.follows Departure.mixedOrders=true:=by kernel_rfl
  have q22:∀ (w:World) (a:Option Addr) (n c n' c':Nat),(binOp .eql 22 (.slice a n c) (.slice none n' c')).run Tryz.prog w=.ok (.bool a.isNone) w:=fun w a n c n' c'=>Lib.run_eql_slice_nil w _ _ a n c n' c' Tryz.underlying22
  go_enter Tryz.func41,Tryz.ntmps41
  go_wp2_with (at_builtin;refine Lib.wpList_append_run _ rfl _ _ _ _ rfl _ _ rfl rfl _ _ (hrun _) ?_)
  go_wp2
  go_ret
  exact⟨rfl,rfl⟩
 refine key.mono ?_
 rintro e w' ⟨rfl,rfl⟩
 exact⟨_,K,ROW,50,rfl,by omega,by rw[show w.heap.size+1=(w.alloc (.cells #[] 50)).heap.size by simp];exact HT.out,hge,hle,hfin⟩
theorem oI7:oI1 Tryz.prog 178 2:=
 ⟨fun blk cap d w hH hs=>AnyQ.slices_Reverse Tryz.revN 2 Tryz.isAgg126 Tryz.sizeOf126 Chunk.l (fun x=>x.len) (fun x=>x.one) blk 0 cap d w hH hs,
  fun w=>AnyQ.slices_Reverse_empty Tryz.revN none 0 w⟩
end Go.Proofs.YtpanghcojpnkaaaGreatDoor.Am
