/- The abstract machine, part 2: a typed interpreter for the program's code, and that it is sound. No condition. -/
import Derived.Test.YtmbjipigimohbaaGreatDoorMach1
import Derived.Great.BuildSlice
import Derived.Laws.BytesString
import Derived.MapKept
import Derived.OrdersIn
import Derived.RangeFuncCalls
namespace Go.Am
open Go Go.RowKit
variable {P:Program}{c:Ctx}{G:Gh}{w:World}{tm:Array Value}
theorem yT3 {α:Type}{R:α→List Value→Prop}(h:∀ x vs,R x vs→∀ u∈vs,u.oneCell'=true):∀ {l us},zM5 R l us→∀ u∈us,u.oneCell'=true:=by
 intro l
 induction l with
 |nil=>grind [zM5]
 |cons x l ih=>rintro us ⟨vs,ws,rfl,hx,hl⟩ u hu;grind
theorem yI3 {χ:Nat→Nat→Nat}:∀ {τ:Ty}{x:τ.den}{vs:List Value},zB6 χ w τ x vs→∀ u∈vs,u.oneCell'=true:=by
 intro τ
 induction τ with
 |int k=>intro x vs h u hu;subst h;simp at hu;subst hu;rfl
 |bool=>intro x vs h u hu;subst h;simp at hu;subst hu;rfl
 |str=>intro x vs h u hu;subst h;simp at hu;subst hu;rfl
 |nl=>grind [zB6]
 |cons a b ha hb=>grind [zB6]
 |st f hf=>grind [zB6]
 |arr n t ht=>grind [zB6,yT3]
 |sl t ht=>intro x vs h u hu;obtain⟨a,cap,rfl,_⟩:=h;simp at hu;subst hu;rfl
 |ptr t ht=>intro x vs h u hu;obtain⟨b,o,us,rfl,_⟩:=h;simp at hu;subst hu;rfl
theorem yB0 {t:Ty}{l:List t.den}{T:Nat}{m:Bool}{v:Value}(h:zG3 G w t l T m v):v.oneCell'=true:=by
 rcases h with h|⟨_,k,e,l',_,_,es,clock,rfl,_⟩
 ·rcases h.2 with ⟨rfl,_⟩ | ⟨cap,cur,e,us,rfl,_⟩<;>rfl
 ·rfl
theorem zV2:∀ {A:AVal}{τ:Ty}{vs:List Value},zA8 G w τ A vs→∀ u∈vs,u.oneCell'=true:=by
 intro A
 induction A with
 |val τ' x=>grind [zA8,yI3]
 |nil=>intro τ vs h u hu;rw[h.2] at hu;simp at hu;subst hu;rfl
 |own t l T m=>grind [zA8,yB0]
 |agg f a ih=>grind [zA8]
 |nl=>grind [zA8]
 |junk=>grind [zA8]
 |cons a b iha ihb=>grind [zA8]
 |_=>grind [zA8]
theorem zK7 {τ:Ty}{us:List Value}{u:Value}(hs:zO5 τ us u)(h1:∀ u∈us,u.oneCell'=true):u.cells.toList=us:=by
 unfold zO5 at hs;cases ha:τ.isAgg with
 |true=>grind [Value.cells]
 |false =>
  cases u<;>simp_all [Value.cells,Value.oneCell']
theorem zV3 {χ:Nat→Nat→Nat}:∀ {τ:Ty},τ.noPtr=true→zB6 χ w τ τ.dflt (zC τ):=by
 intro τ
 induction τ with
 |int k=>grind [zB6,zC,Ty.dflt]
 |bool=>grind [zB6,zC,Ty.dflt]
 |str=>grind [zB6,zC,Ty.dflt]
 |nl=>grind [zB6,zC]
 |cons a b ha hb=>intro h;simp[Ty.noPtr] at h;exact⟨_,_,rfl,ha h.1,hb h.2⟩
 |st f hf=>grind [Ty.noPtr,zB6,zC,Ty.dflt]
 |arr n t ht=>grind [Ty.noPtr,zB6,zC,Ty.dflt,zL2]
 |sl t _=>grind [zB6,zC,Ty.dflt]
 |ptr t _=>grind [Ty.noPtr]
theorem xJ4:∀ {τ:Ty},τ.noPtr=true→τ.plain=true→zA8 G w τ (zW5 τ) (zC τ):=by
 intro τ
 induction τ with
 |int k=>grind [zA8,zW5,zB6,zC,Ty.isL]
 |bool=>grind [zA8,zW5,zB6,zC,Ty.isL]
 |str=>grind [zA8,zW5,zB6,zC,Ty.isL]
 |nl=>grind [zA8,zW5,zC]
 |cons a b ha hb =>
  intro h hp;simp[Ty.noPtr] at h;simp[Ty.plain] at hp;exact⟨a,b,_,_,rfl,rfl,ha h.1 hp.1.1.2,hb h.2 hp.2⟩
 |st f hf =>
  intro h hp;simp only[Ty.noPtr] at h;simp[Ty.plain] at hp;simp only[zW5];cases hs:f.hasSl with
  |true=>grind [zA8,zC]
  |false=>simp only[cond_false,zA8];exact⟨trivial,rfl,zV3 (τ:=.st f) h⟩
 |arr n t ht=>intro h hp;simp only[zW5,zA8];exact⟨trivial,rfl,zV3 h⟩
 |sl t _=>grind [zW5,zA8,zC,Ty.isSl]
 |ptr t _=>grind [Ty.noPtr]
theorem zM9:∀ {τ:Ty},(zC τ).length=τ.size:=by
 intro τ
 induction τ<;>simp_all [zC,Ty.size]
theorem yX7 (cells:Array Value)(off:Nat)(ps:List Value)(h:off+ps.length≤cells.size) :
  ((ps.toArray.zipIdx.foldl (fun cs (x:Value×Nat)=>cs.setIfInBounds (off+x.2) x.1) cells)).toList=spl cells.toList off ps:=by
 have key:∀ (ps:List Value) (k:Nat) (cells:Array Value),off+k+ps.length≤cells.size →
   ((ps.zipIdx k).foldl (fun cs (x:Value×Nat)=>cs.setIfInBounds (off+x.2) x.1) cells).toList=spl cells.toList (off+k) ps:=by
  intro ps
  induction ps with
  |nil=>simp_all [xU1]
  |cons p ps ih =>
   intro k cells hk;simp;rw[ih (k+1) _ (by grind)];apply List.ext_getElem?;intro j;rw[spl_getElem? _ _ _ _ (by grind),spl_getElem? _ _ _ _ (by grind)];simp[List.getElem?_set];by_cases h1:off+k=j
   ·subst h1;rw[if_neg (by omega),if_pos rfl,if_pos (by grind),if_pos ⟨by omega,by omega⟩];simp
   ·by_cases h2:off+(k+1)≤j∧j<off+(k+1)+ps.length
    ·grind
    ·rw[if_neg h2,if_neg h1,if_neg (by omega)]
 grind
theorem xD4 {f:Ty}{places:Nat→Option (Nat×Nat)}(hpl:∀ k,k<f.flen→places k=some (f.foff k,(f.fty k).size)) :
  ∀ {parts:List (Nat×AVal)}{vs:List Value}{ks:List Nat}{z:AVal}{cells:Array Value},f.plain=true→zZ1 f parts=true→zH8 (zA G w tm none) (parts.map (·.2)) vs→ks=parts.map (·.1) →
   zA8 G w f z cells.toList→∃ cells',Instr.fill places cells (List.zip ks vs)=some cells'∧zA8 G w f (wR2 parts z) cells'.toList:=by
 intro parts
 induction parts with
 |nil=>simp_all [Instr.fill,wR2]
 |cons q r ih =>
  intro vs ks z cells hp hf hv hk hz;obtain⟨k,A⟩:=q;cases vs with
  |nil=>grind [zH8]
  |cons v vs =>
   simp only[zZ1,List.all_cons,Bool.and_eq_true] at hf;obtain⟨⟨hk1,hA⟩,hr⟩:=hf;have hk1:k<f.flen:=Nat.le_of_ble_eq_true hk1;have hpf:=yK8 hp hk1;obtain⟨us,h1,h2⟩:=zT8 hv.1 hA hpf.1;have hc:=zK7 h2 (zV2 h1);have hle:=yK7 hk1;have hcl:=zB2 hz;have hul:=zB2 h1;have hvs:v.cells=us.toArray:=by grind
   subst hk;simp only[List.map_cons,List.zip_cons_cons,Instr.fill,hpl k hk1];rw[if_neg (by grind)];have hcell:(Array.foldl (fun cs (x:Value×Nat)=>cs.setIfInBounds (f.foff k+x.2) x.1) cells v.cells.zipIdx).toList=spl cells.toList (f.foff k) us:=by
    grind [yX7,Array.length_toList]
   have hz':=zX9 hk1 hz h1;rw[← hcell] at hz';obtain⟨cells',h3,h4⟩:=ih hp (by grind [zZ1]) hv.2 rfl hz';exact⟨cells',h3,h4⟩
theorem yX8 {t:Ty}:∀ {parts:List (Nat×AVal)}{vs:List Value}{ks:List Nat}{l l':List t.den}{cells:Array Value},t.isL=false→(∀ q∈parts,q.1<l.length)→zH8 (zA G w tm none) (parts.map (·.2)) vs→ks=parts.map (·.1) →
   zM5 (zB6 G.χ w t) l cells.toList→wN8 t parts l=some l'→∃ cells',Instr.fill (fun i=>some (i*t.size,t.size)) cells (List.zip ks vs)=some cells'∧zM5 (zB6 G.χ w t) l' cells'.toList∧l'.length=l.length:=by
 intro parts
 induction parts with
 |nil=>intro vs ks l l' cells _ _ hv hk hz h;simp_all [wN8,Instr.fill]
 |cons q r ih =>
  intro vs ks l l' cells hp hlt hv hk hz h;obtain⟨k,A⟩:=q;cases vs with
  |nil=>grind [zH8]
  |cons v vs =>
   simp[List.map_cons,zH8] at hv;simp only[wN8] at h;split at h
   ·rename_i x hx;have hk1:k<l.length:=hlt (k,A) (by simp);obtain⟨us,h1,h2⟩:=zK5 hx hp hv.1;have hc:=zK7 h2 (yI3 h1);have hul:=zA1 h1;have hcl:=zD1 (k:=t.size) (fun _ _ h=>zA1 h) hz;have hvs:v.cells=us.toArray:=by grind
    have hle:k*t.size+t.size≤l.length*t.size:=by rw[← Nat.succ_mul];exact Nat.mul_le_mul_right _ (by omega)
    subst hk;simp only[List.map_cons,List.zip_cons_cons,Instr.fill];have hsz:v.cells.size=t.size:=by rw[hvs];simpa using hul
    rw[if_neg (by simp only[hsz];simp;rw[← Array.length_toList,hcl];exact hle)];have hcell:(Array.foldl (fun cs (x:Value×Nat)=>cs.setIfInBounds (k*t.size+x.2) x.1) cells v.cells.zipIdx).toList=spl cells.toList (k*t.size) us:=by
     grind [yX7,Array.length_toList]
    have hz':=yT0 (R:=zB6 G.χ w t) (k:=t.size) (fun _ _ h=>zA1 h) h1 hz hk1;rw[← hcell] at hz';obtain⟨cells',h3,h4,h5⟩:=ih hp (fun q hq=>by simp;exact hlt q (by simp[hq])) hv.2 rfl hz' h
    grind
   grind
end Go.Am
namespace Go.Am
open Go Go.RowKit
variable {P:Program}{c:Ctx}{G:Gh}{w:World}{tm:Array Value}
theorem xU7 {f:Ty}:∀ {fs:List Field}{o:Nat},zC3 P f (.inr (fs,o))=true→∃ pl:List (Nat×Nat),fs.mapM (fun f=>(P.info? f.type).map fun i=>(f.offset,i.size))=some pl∧∀ k,k<f.flen→pl[k]?=some (o+f.foff k,(f.fty k).size):=by
 induction f with
 |nl=>intro fs o h;cases fs<;>simp[zC3] at h;simp_all [Ty.flen]
 |cons a b _ ihb =>
  intro fs o h;cases fs with
  |nil=>grind [zC3]
  |cons fd r =>
   simp only[zC3,Bool.and_eq_true] at h;obtain⟨⟨⟨h1,_⟩,h3⟩,h4⟩:=h;have h1:=Nat.eq_of_beq_eq_true h1;obtain⟨pl,h5,h6⟩:=ihb h4;obtain⟨⟨i,z,hi,hs,_⟩,_⟩:=zG7 h3;refine⟨(fd.offset,i.size)::pl,by grind,fun k hk=>?_⟩;cases k<;>grind [Ty.foff,Ty.fty,Ty.flen,Nat.add_assoc]
 |_=>grind [zC3]
theorem yL4 {ps:List (Nat×Operand)}{ρ:Operand→Value}:ps.map (fun x=>(x.1,ρ x.2))=List.zip (ps.map (·.1)) ((ps.map (·.2)).map ρ):=by
 grind
theorem zO7:∀ {ps:List (Nat×Operand)}{xs:List AVal},xs.length=ps.length→(zD4 ps xs).map (·.2)=xs∧(zD4 ps xs).map (·.1)=ps.map (·.1):=by
 intro ps
 induction ps with
 |nil=>intro xs h;cases xs<;>simp at h;exact⟨rfl,rfl⟩
 |cons q r ih =>
  intro xs h;cases xs<;>simp_all [zD4]
theorem zE6 {α β:Type}{R:α→β→Prop}:∀ {xs:List α}{ys:List β},zH8 R xs ys→xs.length=ys.length:=by
 intro xs
 induction xs with
 |nil=>grind [zH8]
 |cons x xs ih=>intro ys h;cases ys<;>simp[zH8] at h ⊢;grind
theorem yX9 (hty:zM6 P c.tys=true){T:Nat}{ps:Array (Nat×Operand)}{ρ:Operand→Value}{xs:List AVal}{A:AVal}{p:List Prop}(hx:zH8 (zA G w tm none) xs ((ps.toList.map (·.2)).map ρ))
  (h:xS7 c T (zD4 ps.toList xs)=some (p,A)):∃ r,(Instr.build T (ps.map fun (i,x)=>(i,ρ x))).run P w=.ok r w∧zA G w tm none A r:=by
 have hl:xs.length=ps.toList.length:=by rw[zE6 hx];simp
 obtain⟨e1,e2⟩:=zO7 hl;have hparts:(ps.map fun (i,x)=>(i,ρ x)).toList=List.zip ((zD4 ps.toList xs).map (·.1)) ((ps.toList.map (·.2)).map ρ):=by
  rw[e2,← yL4];simp
 have hx':zH8 (zA G w tm none) ((zD4 ps.toList xs).map (·.2)) ((ps.toList.map (·.2)).map ρ):=by rw[e1];exact hx
 unfold xS7 at h;split at h
 ·rename_i f hT;have hT':=zI hty T (by rw[hT];simp);rw[hT] at hT';cases hb:(zZ1 f (zD4 ps.toList xs)&&f.noPtr) with
  |false=>simp[hb] at h
  |true =>
   simp only[hb,cond_true] at h;simp only[Bool.and_eq_true] at hb;obtain⟨fs,h1,h2⟩:=zX8 hT';obtain⟨pl,h3,h4⟩:=xU7 h2;have hpl:=zJ hT';simp only[Ty.plain,Bool.and_eq_true] at hpl;obtain⟨⟨i,z,hi,hs,_,hz,hzc,_⟩,_⟩:=zG7 hT';have hzr:zA8 G w f (zW5 f) z.cells.toList:=by rw[hzc];exact xJ4 hb.2 hpl.2
   obtain⟨cells',h5,h6⟩:=xD4 (G:=G) (w:=w) (tm:=tm) (places:=(pl.toArray[·]?)) (fun k hk=>by simpa using h4 k hk) hpl.2 hb.1 hx' rfl hzr;have hbuilt:P.built T (ps.map fun (i,x)=>(i,ρ x)).toList=some cells':=by
    rw[hparts];simp only[Program.built,hi,h1,hz,h3];exact h5
   refine⟨.agg cells',run_build w T _ cells' hbuilt,?_⟩;cases hs:f.hasSl with
   |true =>
    simp only[hs,cond_true,Option.some.injEq,Prod.mk.injEq] at h;obtain⟨rfl,rfl⟩:=h;simp only[zA];exact⟨cells'.toList,by simp,h6⟩
   |false =>
    simp only[hs,cond_false] at h;split at h
    ·rename_i x hx;simp only[Option.some.injEq,Prod.mk.injEq] at h;obtain⟨rfl,rfl⟩:=h;simp only[zA];exact (zI4 rfl).2 ⟨cells'.toList,by simp,by simp only[zB6];exact zN5 hx h6⟩
    ·cases h
 ·rename_i n t hT;have hT':=zI hty T (by rw[hT];simp);rw[hT] at hT';cases hb:((zD4 ps.toList xs).all (fun q=>Nat.blt q.1 n)&&t.noPtr) with
  |false=>simp[hb] at h
  |true =>
   simp only[hb,cond_true] at h;simp only[Bool.and_eq_true] at hb;obtain⟨e,h1,h2⟩:=zV0 hT';obtain⟨⟨i,z,hi,hs,_,hz,hzc,_⟩,_⟩:=zG7 hT';obtain⟨⟨ie,ze,hie,hse,_⟩,_⟩:=zG7 h2;split at h
   ·rename_i l hl;simp only[Option.some.injEq,Prod.mk.injEq] at h;obtain⟨rfl,rfl⟩:=h;have hzr:zM5 (zB6 G.χ w t) (List.replicate n t.dflt) z.cells.toList:=by rw[hzc];exact zL2 (zV3 hb.2) n
    obtain⟨cells',h5,h6,h7⟩:=yX8 (G:=G) (w:=w) (tm:=tm) (zD0 h2) (fun q hq=>by simp;exact Nat.le_of_ble_eq_true (List.all_eq_true.1 hb.1 q hq)) hx' rfl hzr hl;have hbuilt:P.built T (ps.map fun (i,x)=>(i,ρ x)).toList=some cells':=by
     rw[hparts];simp only[Program.built,hi,h1,hz,hie,hse];exact h5
    refine⟨.agg cells',run_build w T _ cells' hbuilt,?_⟩;simp only[zA];exact (zI4 rfl).2 ⟨cells'.toList,by simp,by simp only[zB6];exact⟨by rw[h7];simp,h6⟩⟩
   ·cases h
 ·cases h
theorem zA2 (s T:Nat):zD8 s≠zA9 T:=by grind [zD8,zA9]
theorem zC7 {s t:Nat}(h:zD8 s=zD8 t):s=t:=by grind [zD8]
theorem zA3 {s t:Nat}(h:zA9 s=zA9 t):s=t:=by grind [zA9]
theorem zC8 (s:Nat):¬ (0=zD8 s):=by grind [zD8]
theorem zA7 (s:Nat):¬ (0=zA9 s):=by grind [zA9]
def Gh.newBox (G:Gh)(b d:Nat):Gh:={ χ:=fun b' o=>if b'=b then zD8 d else G.χ b' o,β:=fun s=>if s=d then b else G.β s,γ:=G.γ }
def Gh.newArr (G:Gh)(b d:Nat):Gh:={ χ:=fun b' o=>if b'=b then zA9 d else G.χ b' o,β:=G.β,γ:=fun s=>if s=d then b else G.γ s }
theorem zH5 (w:World)(o:Obj):(w.alloc o).heap[w.heap.size]?=some o:=by
 show (w.heap.push o)[w.heap.size]?=_;simp
theorem zV4 {b o:Nat}(h:b<w.heap.size)(x:Obj):(w.alloc x).cell? ⟨b,o,none⟩=w.cell? ⟨b,o,none⟩:=by
 grind [Below.heap_alloc,World.cell?]
theorem zQ1 (x:Obj)(d:Nat):Ext (·=zD8 d) (·=zD8 d) G w (G.newBox w.heap.size d) (w.alloc x):=by
 refine⟨fun b o hb h=>?_,fun b hb _=>?_,by simp,fun s hs=>?_,fun T _=>rfl,fun _ h=>h⟩
 ·exact⟨by simp only[Gh.newBox];grind,zV4 hb x⟩
 ·exact⟨Below.heap_alloc w x b hb,fun o=>by simp only[Gh.newBox];rw[if_neg (by omega)]⟩
 ·simp only[Gh.newBox];rw[if_neg (fun e=>hs (by rw[e]))]
theorem zQ2 (x:Obj)(d:Nat):Ext (·=zA9 d) (·=zA9 d) G w (G.newArr w.heap.size d) (w.alloc x):=by
 refine⟨fun b o hb h=>?_,fun b hb _=>?_,by simp,fun s _=>rfl,fun T hT=>?_,fun _ h=>h⟩
 ·exact⟨by simp only[Gh.newArr];grind,zV4 hb x⟩
 ·exact⟨Below.heap_alloc w x b hb,fun o=>by simp only[Gh.newArr];rw[if_neg (by omega)]⟩
 ·simp only[Gh.newArr];rw[if_neg (fun e=>hT (by rw[e]))]
theorem zH {χ0:Nat→Nat→Nat}{w0:World}(h:Frame0 χ0 w0 G.χ w)(x:Obj)(χ':Nat→Nat→Nat)(hχ:∀ b o,b<w.heap.size→χ' b o=G.χ b o):Frame0 χ0 w0 χ' (w.alloc x):=by
 refine⟨h.os,h.tape,h.output,Nat.le_trans h.size (by simp),fun b hb hc=>?_,fun b o hb hc=>?_⟩
 ·rw[Below.heap_alloc w x b (Nat.lt_of_lt_of_le hb h.size)];exact h.block b hb hc
 ·have hlt:=Nat.lt_of_lt_of_le hb h.size;rw[zV4 hlt,hχ b o hlt];exact h.cell b o hb hc
theorem yQ0 {X Y:Nat→Prop}(hX:∀ T,¬ X (zA9 T)):∀ {A:AVal}{τ:Ty}{us:List Value},zA8 G w τ A us→¬ A.names X Y none:=by
 intro A
 induction A with
 |val _ _=>grind [AVal.names]
 |nil=>grind [AVal.names]
 |own t l T m=>grind [AVal.names]
 |agg f a ih=>grind [zA8,AVal.names]
 |nl=>grind [AVal.names]
 |junk=>grind [AVal.names]
 |cons a b iha ihb=>intro τ us h;simp only[zA8] at h;simp[AVal.names];grind
 |_=>grind [zA8]
theorem yY {d:Nat}:∀ {A:AVal}{s:Option Nat},A.hasRef d=false→s≠some d→¬ A.names (·=zD8 d) (·=zD8 d) s:=by
 intro A
 induction A with
 |own t l T m=>grind [AVal.names,zA2]
 |ownh t l T i U m=>grind [AVal.names,zA2]
 |eref _ T _ _ _=>grind [AVal.names,zA2]
 |ref s' τ p=>intro s h _;intro e;have:=zC7 e;simp_all [AVal.hasRef]
 |opt _ _ _ A ih=>intro s h _;exact ih h (by simp)
 |box τ a ih =>
  intro s h hs;cases s with
  |none=>exact ih h (by simp)
  |some s=>simp[AVal.names];exact⟨fun e=>hs (by rw[zC7 e]),ih h (by simp)⟩
 |may b τ a ih =>
  intro s h hs;cases s with
  |none=>exact ih h (by simp)
  |some s=>simp[AVal.names];exact⟨fun e=>hs (by rw[zC7 e]),ih h (by simp)⟩
 |pn b s' τ=>intro s h _;intro e;have:=zC7 e;simp_all [AVal.hasRef]
 |cons a b iha ihb=>grind [AVal.hasRef,AVal.names]
 |agg f a ih=>intro s h _;exact ih h (by simp)
 |tup a ih=>intro s h _;exact ih h (by simp)
 |fn f a ih=>intro s h _;exact ih h (by simp)
 |raw =>
  intro s _ hs;cases s<;>grind [AVal.names,zC7]
 |rref s'=>intro s h _;intro e;have:=zC7 e;simp_all [AVal.hasRef]
 |bld T e U l =>
  intro s _ hs;cases s with
  |none=>exact fun h=>zA2 _ _ h.symm
  |some s =>
   rintro (h|h)
   ·exact hs (by rw[zC7 h])
   ·exact zA2 _ _ h.symm
 |ptrs one l =>
  intro s h _;rintro⟨k,τ,p,hm,e⟩;have:=zC7 e;simp only[AVal.hasRef] at h;have:=List.any_eq_true.2 ⟨_,hm,show wE1 k (some (k,τ,p))=true by simp[wE1]⟩
  grind
 |fptr f caps =>
  intro s h _;rintro⟨k,τ,hm,e⟩;have:=zC7 e;simp only[AVal.hasRef] at h;have:=List.any_eq_true.2 ⟨_,hm,show wE0 k (some (k,τ))=true by simp[wE0]⟩
  grind
 |_=>grind [AVal.names]
theorem yY0 {T:Nat}:∀ {A:AVal}{s:Option Nat},A.hasTag T=false→¬ A.names (·=zA9 T) (·=zA9 T) s:=by
 intro A
 induction A with
 |own t l T' m=>intro s h;intro e;have:=zA3 e;simp_all [AVal.hasTag]
 |ownh t l T' i U m=>intro s h;simp[AVal.names];exact⟨fun e=>by have:=zA3 e;simp_all [AVal.hasTag],fun e=>by have:=zA3 e;simp_all [AVal.hasTag]⟩
 |eref _ T' _ _ _=>intro s h;intro e;have:=zA3 e;simp_all [AVal.hasTag]
 |ref s' τ p=>grind [AVal.names,zA2]
 |opt _ _ _ A ih=>intro s h;exact ih h
 |box τ a ih =>
  intro s h;cases s with
  |none=>exact ih h
  |some s=>simp[AVal.names];exact⟨zA2 _ _,ih h⟩
 |may b τ a ih =>
  intro s h;cases s with
  |none=>exact ih h
  |some s=>simp[AVal.names];exact⟨zA2 _ _,ih h⟩
 |pn b s' τ=>grind [AVal.names,zA2]
 |cons a b iha ihb=>grind [AVal.hasTag,AVal.names]
 |agg f a ih=>intro s h;exact ih h
 |tup a ih=>intro s h;exact ih h
 |fn f a ih=>intro s h;exact ih h
 |raw =>
  intro s h;cases s<;>grind [AVal.names,zA2]
 |rref s'=>grind [AVal.names,zA2]
 |fptr f caps=>grind [AVal.names,zA2]
 |bld T' e U l =>
  intro s h;have h:Nat.beq T U=false:=h;have k:zA9 U≠zA9 T:=fun e=>by have:=zA3 e;subst this;simp at h
  cases s with
  |none=>exact k
  |some s =>
   rintro (e|e)
   ·exact zA2 _ _ e
   ·exact k e
 |ptrs one l=>grind [AVal.names,zA2]
 |_=>grind [AVal.names]
theorem xU8 {τ:Ty}{A:AVal}{us:List Value}{d e:Nat}(h:zA8 G w τ A us)(hv:yK0 τ) :
  zA (G.newBox w.heap.size d) (w.alloc (.cells us.toArray e)) tm (some d) (.box τ A) (.pointer (some ⟨w.heap.size,0,none⟩)):=by
 refine⟨by simp[Gh.newBox],hv,us.toArray,e,?_,?_,fun o=>by simp[Gh.newBox]⟩
 ·simp only[Gh.newBox];exact zH5 w _
 ·exact yA5 (zQ1 _ d) (zC8 d) (yQ0 (fun T=>fun e=>zA2 _ _ e.symm) h) h
theorem xU9 {t:Ty}{l:List t.den}{us rest:List Value}{d e cap:Nat}(h:zM5 (zB6 G.χ w t) l us)(hv:yK0 t)(hcap:(us++rest).length=cap*t.size)(hlc:l.length≤cap)(hm:cap≤maxLen) :
  zA (G.newArr w.heap.size d) (w.alloc (.cells (us++rest).toArray e)) tm (some d) (.own t l d true) (.slice (some ⟨w.heap.size,0,none⟩) l.length cap):=by
 have hul:=zD1 (k:=t.size) (fun _ _ h=>zA1 h) h;refine .inl ⟨hv,.inr ⟨cap,(us++rest).toArray,e,us,by simp[Gh.newArr],?_,hlc,hm,by grind,?_,?_,fun o=>by simp[Gh.newArr]⟩⟩
 ·simp only[Gh.newArr];exact zH5 w _
 ·exact zB8 (fun _ _ h=>zA5 (zQ2 _ d).prot h) h
 grind
end Go.Am
namespace Go.Am
open Go Go.RowKit
variable {P:Program}{c:Ctx}{G:Gh}{w:World}{tm:Array Value}
theorem zJ6 (b:Nat)(e:TypeId)(fr:Nat×Nat):∀ (vs:List Value) (o:Nat) (w:World) (cur:Array Value),w.heap[b]?=some (.cells cur e fr)→o+vs.length≤cur.size →
  ∃ cur',(w.setCells b o vs).heap[b]?=some (.cells cur' e fr)∧cur'.toList=spl cur.toList o vs:=by
 intro vs
 induction vs with
 |nil=>intro o w cur h _;exact⟨cur,h,by simp[xU1]⟩
 |cons v r ih =>
  intro o w cur h hl;have h1:(w.setCell ⟨b,o,none⟩ v).heap[b]?=some (.cells (cur.setIfInBounds o v) e fr):=by
   simp only[World.setCell,Array.getElem?_modify,h];simp
  obtain⟨cur',h2,h3⟩:=ih (o+1) _ _ h1 (by grind);refine⟨cur',h2,?_⟩;rw[h3];apply List.ext_getElem?;intro j;rw[spl_getElem? _ _ _ _ (by grind),spl_getElem? _ _ _ _ (by grind)];simp[List.getElem?_set];by_cases h1:o=j
  ·subst h1;rw[if_neg (by omega),if_pos rfl,if_pos (by grind),if_pos ⟨by omega,by omega⟩];simp
  ·by_cases h2:o+1≤j∧j<o+1+r.length
   ·rw[if_pos h2,if_pos ⟨by omega,by omega⟩,show j-o=(j-(o+1))+1 from by omega];simp
   ·rw[if_neg h2,if_neg h1,if_neg (by omega)]
theorem zE9 (b:Nat):∀ (vs:List Value) (o:Nat) (w:World) (k:Nat),k≠b→(w.setCells b o vs).heap[k]?=w.heap[k]?:=by
 intro vs
 induction vs<;>grind [World.setCells,Below.heap_setCell]
theorem zR6 (b:Nat):∀ (vs:List Value) (o:Nat) (w:World),(w.setCells b o vs).heap.size=w.heap.size:=by
 intro vs
 induction vs<;>grind [World.setCells,World.setCell]
theorem yH3 (b:Nat):∀ (vs:List Value) (o:Nat) (w:World),(w.setCells b o vs).os=w.os∧(w.setCells b o vs).tape=w.tape∧(w.setCells b o vs).output=w.output:=by
 intro vs
 induction vs with
 |nil=>intro o w;exact⟨rfl,rfl,rfl⟩
 |cons v r ih=>intro o w;exact ih _ _
theorem zJ7 {τ:Ty}{T b o:Nat}{us:List Value}{u:Value}(hT:zC3 P τ (.inl T)=true)(hc:u.cells.toList=us)(hl:us.length=τ.size)(h1:∀ x∈us,x.oneCell'=true)
  {cur:Array Value}{e:TypeId}(hb:w.heap[b]?=some (.cells cur e (0,0))) (ho:o+us.length≤cur.size) :
  (Instr.storeAt T (.pointer (some ⟨b,o,none⟩)) u).run P w=.ok () (w.setCells b o us):=by
 obtain⟨⟨i,z,hi,hs,_⟩,_⟩:=zG7 hT;have:=run_storeCells_cells (P:=P) b o us 0 w (fun j hj=>by
   grind [World.cell?]) (fun j hj=>by grind [World.frozen?]) h1
 grind [Instr.storeAt,Instr.sureAddr,Sem.run_bind,Sem.run_pure,Result.andThen_ok,storeVar,zE3]
theorem zT9 {X:Nat→Prop}{b o:Nat}{us:List Value}(hX:∀ o,X (G.χ b o))(h0:¬ X 0):Ext X (fun _=>False) G w G (w.setCells b o us):=by
 refine⟨fun b' o' hb h=>⟨h,?_⟩,fun b' hb h=>⟨?_,fun _=>rfl⟩,by grind [zR6],fun _ _=>rfl,fun _ _=>rfl,fun _ h=>h.elim⟩
 ·grind [World.cell?,zE9]
 ·have hne:b'≠b:=by intro e;simp_all
  grind [zE9]
theorem zN8 {χ0:Nat→Nat→Nat}{w0:World}(h:Frame0 χ0 w0 G.χ w){b o:Nat}{us:List Value}(hb:∀ o,1<G.χ b o):Frame0 χ0 w0 G.χ (w.setCells b o us):=by
 obtain⟨s1,s2,s3⟩:=yH3 b us o w;refine⟨s1.trans h.os,s2.trans h.tape,s3.trans h.output,by rw[zR6];exact h.size,fun b' hb' hc=>?_,fun b' o' hb' hc=>?_⟩
 ·have hne:b'≠b:=by
   intro e;subst e;have h1:=(h.cell b' 0 hb' (hc 0)).1
   grind
  rw[zE9 b us o w b' hne];exact h.block b' hb' hc
 ·have h1:=h.cell b' o' hb' hc
  grind [World.cell?,zE9]
theorem yY1 (hty:zM6 P c.tys=true){T s:Nat}{x k v C:AVal}{xv kv vv:Value}(hx:zA G w tm none x xv)(hk:∀ s',zE2 x=some s'→zA G w tm (some s') k kv)(hv:zA G w tm none v vv)
  (h:xS6 c T x k v=some (s,C)) :
  ∃ us o,(Instr.storeAt T xv vv).run P w=.ok () (w.setCells (G.β s) o us)∧(∀ o,G.χ (G.β s) o=zD8 s)∧zE2 x=some s∧zA G (w.setCells (G.β s) o us) tm (some s) C kv:=by
 unfold xS6 at h;split at h
 ·rename_i s' τ q;split at h
  ·rename_i τ' k;cases hc:(Ty.beq τ' τ&&c.is T (τ.pty q)&&AVal.fits (τ.pty q) v&&AVal.laxT (k.at q) (τ.pty q)&&AVal.laxT (AVal.put q k v) τ) with
   |false=>grind
   |true =>
    simp[hc,cond_true,Option.some.injEq,Prod.mk.injEq] at h;obtain⟨rfl,rfl⟩:=h;simp  at hc;obtain⟨⟨⟨⟨h1,h2⟩,h3⟩,h4⟩,h5⟩:=hc;have e:=Ty.eq_of_beq h1;subst e;have hT:=zB4 hty h2;have hkb:=hk s' rfl;obtain⟨⟨hpl,hnl⟩,cur,e,g1,g2,g3⟩:=zG8 hkb;obtain⟨hq,rfl⟩:=hx;obtain⟨t1,t2,t3,t4⟩:=zT6 hpl hnl hq g2;obtain⟨us,u1,u2⟩:=zT8 hv h3 t4;have hone:=zV2 u1;have hcel:=zK7 u2 hone;have hul:=zB2 u1;have hcl:=zB2 g2;have hcs:τ'.poff q+us.length≤cur.size:=by grind
    refine⟨us,τ'.poff q,zJ7 hT hcel hul hone g1 hcs,g3,rfl,?_⟩;obtain⟨cur',c1,c2⟩:=zJ6 (G.β s') e (0,0) us (τ'.poff q) w cur g1 hcs;have hput:=xJ2 hpl hnl hq g2 u1 h5;have hext:Ext (·=zD8 s') (fun _=>False) G w G (w.setCells (G.β s') (τ'.poff q) us):=zT9 (fun o=>g3 o) (zC8 s');have hput':=yA5 hext (zC8 s') (yQ0 (fun T=>fun e=>zA2 _ _ e.symm) hput) hput;exact⟨hkb.1,⟨hpl,hnl⟩,cur',e,c1,by grind,g3⟩
  grind
 grind
end Go.Am
namespace Go.Am
open Go Go.RowKit
variable {P:Program}{c:Ctx}{G:Gh}{w:World}{tm:Array Value}
def Gh.reown (G:Gh)(b d n:Nat)(m:Bool):Gh:=
 {χ:=fun b' o=>if b'=b then (if m=false∧o<n then 0 else zA9 d) else G.χ b' o,β:=G.β,γ:=fun s=>if s=d then b else G.γ s }
theorem yF2 {t:Ty}(ht:t.isL=false){B:AVal}{l2:List t.den}{v:Value}(hB:zA G w tm none B v)
  (h:wO8 t B=some l2) :
  ∃ a cap,v=.slice a l2.length cap∧(l2=[]∨∃ ad us,a=some ad∧zM5 (zB6 G.χ w t) l2 us∧∀ j u,us[j]?=some u→w.cell? (ad.add j)=some u):=by
 have pure:∀ {v},zB6 G.χ w (.sl t) l2 [v]→∃ a cap,v=.slice a l2.length cap∧(l2=[]∨∃ ad us,a=some ad∧zM5 (zB6 G.χ w t) l2 us∧∀ j u,us[j]?=some u→w.cell? (ad.add j)=some u):=by
  intro v hc;obtain⟨a,cap,hv,hc⟩:=hc;injection hv with hv _
  refine⟨a,cap,hv,?_⟩;rcases hc with hc|⟨b,o,us,ha,_,h3,h4⟩
  ·grind
  ·exact .inr ⟨⟨b,o,none⟩,us,ha,h3,fun j u hu=>by rw[Addr.add_mid];exact (h4 j u hu).1⟩
 cases B with
 |own t' l T m =>
  obtain⟨e,rfl⟩:=zD2 h;injection e with e;subst e
  rcases (zB1 hB ht).2 with ⟨rfl,rfl⟩ | ⟨cap,cur,e,us,rfl,h2,h3,h4,h5,h6,h7,h8⟩
  ·simp_all
  ·refine⟨_,cap,rfl,.inr ⟨_,us,rfl,h6,fun j u hu=>?_⟩⟩;rw[Addr.add_mid];rw[← h7,List.getElem?_take] at hu;split at hu
   ·simp[World.cell?,h2];simpa using hu
   ·cases hu
 |nn b =>
  simp[wO8] at h;obtain⟨a,cap,rfl,_⟩:=hB;simp_all
 |_ =>
  have hv:=zK5 h rfl hB;exact pure ((zC6 rfl).1 hv)
theorem zU {T ty e:TypeId}(ht:P.underlying T=some (.slice e)){i:TypeInfo}(hi:P.info? e=some i){base:Option Addr}{n cap:Nat}(hn:n≤cap){a:Option Addr}{k:Nat}(w:World) :
  (Builtin.append_ #[T,T] ty #[.slice base n cap,.slice a 0 k]).run P w=.ok (.slice base n cap) w:=by
 cases a with
 |none=>cases base<;>simp[Builtin.append_,run_underlying ht,sizeOf,typeInfo,hi,Builtin.lenOf,hn,Builtin.firstCells,storeCells]
 |some a=>cases base<;>simp[Builtin.append_,run_underlying ht,sizeOf,typeInfo,hi,Builtin.lenOf,hn,Builtin.firstCells,loadCells,loadCellsFrom,storeCells]
theorem yH4 (t ty e e0:TypeId)(i:TypeInfo)(ht:P.underlying t=some (.slice e))(hi:P.info? e=some i)
  (g sLen sCap:Nat) (cur:Array Value) (hg:w.heap[g]?=some (.cells cur e0 (0,0)))
  (a:Addr) (m c:Nat) (news:List Value) (hl:news.length=m*i.size) (hnews:∀ j u,news[j]?=some u→w.cell? (a.add j)=some u) (h1:∀ u∈news,u.oneCell'=true)
  (hroom:sLen+m≤sCap) (hfit:sLen*i.size+news.length≤cur.size) :
  (Builtin.append_ #[t,t] ty #[.slice (some ⟨g,0,none⟩) sLen sCap,.slice (some a) m c]).run P w =
   .ok (.slice (some ⟨g,0,none⟩) (sLen+m) sCap) (w.setRow g (cur.toList.take (sLen*i.size)++news++cur.toList.drop (sLen*i.size+news.length)).toArray):=by
 have hf:=run_firstCells_some (P:=P) w i.size m a m c news hl hnews;have hst:=run_storeCells_at P g (sLen*i.size) e0 news 0 cur w hg (by grind) h1;simp[Builtin.append_,run_underlying ht,sizeOf,typeInfo,hi,Builtin.lenOf,hroom,hf,Addr.add_lit,hst]
theorem yY2 {U d:Nat}{n k:Nat}{m:Bool}{w':World}(hk:k≤n)(hcol:∀ o,G.χ (G.γ U) o=if m=false∧o<k then 0 else zA9 U)
  (hsz:w.heap.size≤w'.heap.size) (hoth:∀ b,b≠G.γ U→b<w.heap.size→w'.heap[b]?=w.heap[b]?) (hcell:∀ o,o<k→w'.cell? ⟨G.γ U,o,none⟩=w.cell? ⟨G.γ U,o,none⟩) :
  Ext (fun x=>x=zA9 U∨x=zA9 d) (fun x=>x=zA9 d) G w (G.reown (G.γ U) d n m) w':=by
 refine⟨fun b o hb h=>?_,fun b hb h=>?_,hsz,fun s _=>rfl,fun T hT=>?_,fun _ h=>.inr h⟩
 ·by_cases e:b=G.γ U
  ·subst e;by_cases hc:m=false∧o<k
   ·exact⟨by simp only[Gh.reown];rw[if_pos trivial,if_pos ⟨hc.1,by omega⟩],hcell o hc.2⟩
   ·grind [absurd,zA7]
  simp_all [Gh.reown,World.cell?]
 ·have e:b≠G.γ U:=by
   intro e;subst e;exact h k (by rw[hcol,if_neg (by omega)];exact .inl rfl)
  simp_all [Gh.reown]
 ·simp only[Gh.reown];rw[if_neg (fun e=>hT (by rw[e]))]
theorem yL5 {χ0:Nat→Nat→Nat}{w0:World}(h:Frame0 χ0 w0 G.χ w){U d:Nat}{n k:Nat}{m:Bool}{w':World}(hk:k≤n)(hcol:∀ o,G.χ (G.γ U) o=if m=false∧o<k then 0 else zA9 U)
  (hs:w'.os=w.os∧w'.tape=w.tape∧w'.output=w.output)
  (hsz:w.heap.size≤w'.heap.size) (hoth:∀ b,b≠G.γ U→b<w.heap.size→w'.heap[b]?=w.heap[b]?) (hcell:∀ o,o<k→w'.cell? ⟨G.γ U,o,none⟩=w.cell? ⟨G.γ U,o,none⟩) :
  Frame0 χ0 w0 (G.reown (G.γ U) d n m).χ w':=by
 refine⟨hs.1.trans h.os,hs.2.1.trans h.tape,hs.2.2.trans h.output,Nat.le_trans h.size hsz,fun b hb hc=>?_,fun b o hb hc=>?_⟩
 ·have e:b≠G.γ U:=by
   intro e;subst e;have h1:=(h.cell (G.γ U) k hb (hc k)).1
   grind [zA9]
  rw[hoth b e (Nat.lt_of_lt_of_le hb h.size)];exact h.block b hb hc
 ·have h1:=h.cell b o hb hc;by_cases e:b=G.γ U
  ·subst e;by_cases hm:m=false∧o<k
   ·have h2:=hcol o;rw[if_pos hm] at h2;refine⟨?_,by grind⟩;simp only[Gh.reown];rw[if_pos trivial,if_pos ⟨hm.1,by omega⟩,← h1.1,h2]
   grind [zA9]
  ·refine⟨by grind [Gh.reown],?_⟩;rw[← h1.2];simp[World.cell?,hoth b e (Nat.lt_of_lt_of_le hb h.size)]
theorem zU0 {U d n:Nat}{m:Bool}{w':World}(hsz:w.heap.size≤w'.heap.size)(hoth:∀ b,b<w.heap.size→w'.heap[b]?=w.heap[b]?) :
  Ext (fun x=>x=zA9 U∨x=zA9 d) (fun x=>x=zA9 d) G w (G.reown w.heap.size d n m) w':=by
 refine⟨fun b o hb h=>?_,fun b hb _=>?_,hsz,fun s _=>rfl,fun T hT=>?_,fun _ h=>.inr h⟩
 ·exact⟨by simp only[Gh.reown];grind,by grind [World.cell?]⟩
 ·exact⟨hoth b hb,fun o=>by simp only[Gh.reown];rw[if_neg (by omega)]⟩
 ·simp only[Gh.reown];rw[if_neg (fun e=>hT (by rw[e]))]
theorem zY0 {χ0:Nat→Nat→Nat}{w0:World}(h:Frame0 χ0 w0 G.χ w){d n:Nat}{m:Bool}{w':World}(hs:w'.os=w.os∧w'.tape=w.tape∧w'.output=w.output)
  (hsz:w.heap.size≤w'.heap.size) (hoth:∀ b,b<w.heap.size→w'.heap[b]?=w.heap[b]?):Frame0 χ0 w0 (G.reown w.heap.size d n m).χ w':=by
 refine⟨hs.1.trans h.os,hs.2.1.trans h.tape,hs.2.2.trans h.output,Nat.le_trans h.size hsz,fun b hb hc=>?_,fun b o hb hc=>?_⟩
 ·rw[hoth b (Nat.lt_of_lt_of_le hb h.size)];exact h.block b hb hc
 ·have h1:=h.cell b o hb hc;have hlt:=Nat.lt_of_lt_of_le hb h.size;exact⟨by simp only[Gh.reown];grind,by grind [World.cell?]⟩
theorem yY3 {t:Ty}{l:List t.den}{us rest:List Value}{w':World}{d e cap:Nat}{m:Bool}(hv:yK0 t)(h:zM5 (zB6 G.χ w t) l us)(hx:Ext (fun x=>x=zA9 d∨x=zA9 d) (fun x=>x=zA9 d) G w (G.reown w.heap.size d (l.length*t.size) m) w')
  (hb:w'.heap[w.heap.size]?=some (.cells (us++rest).toArray e (0,0))) (hcap:(us++rest).length=cap*t.size) (hlc:l.length≤cap) (hm:cap≤maxLen) :
  zG3 (G.reown w.heap.size d (l.length*t.size) m) w' t l d m (.slice (some ⟨w.heap.size,0,none⟩) l.length cap):=by
 have hul:=zD1 (k:=t.size) (fun _ _ h=>zA1 h) h;refine .inl ⟨hv,.inr ⟨cap,(us++rest).toArray,e,us,by simp[Gh.reown],?_,hlc,hm,by grind,?_,?_,fun o=>?_⟩⟩
 ·simp_all [Gh.reown]
 ·exact zB8 (fun _ _ h=>zA5 hx.prot h) h
 all_goals simp_all [Gh.reown]
theorem xJ5 {z:Array Value}{k n:Nat}(h:z.size=k):(Builtin.zeroCells z n).toList.length=n*k:=by grind [size_zeroCells]
theorem zU1 {χ0:Nat→Nat→Nat}{w0:World}(hfr:Frame0 χ0 w0 G.χ w){t:Ty}{T ty:TypeId}(hT:zC3 P (.sl t) (.inl T)=true){l l2:List t.den}{U d:Nat}{m:Bool}{v bv:Value}
  (hA:(v=.slice none 0 0∧l=[])∨zG3 G w t l U m v)
  {ns:List Value}(hB:∃ a cap,bv=.slice a l2.length cap∧(l2=[]∨∃ ad,a=some ad∧zM5 (zB6 G.χ w t) l2 ns∧∀ j u,ns[j]?=some u→w.cell? (ad.add j)=some u))
  (hlen:l.length+l2.length≤4294967296) :
  ∃ v' w' G',(Builtin.append_ #[T,T] ty #[v,bv]).run P w=.ok v' w'∧Ext (fun x=>x=zA9 U∨x=zA9 d) (fun x=>x=zA9 d) G w G' w'∧Frame0 χ0 w0 G'.χ w'∧zG3 G' w' t (l++l2) d m v'∧(l2=[]∨∀ b k c,v'=.slice (some ⟨b,0,none⟩) k c→∀ j u,ns[j]?=some u→w'.cell? ⟨b,l.length*t.size+j,none⟩=some u):=by
 obtain⟨e,h1,h2⟩:=zF8 hT;obtain⟨⟨i,z,hi,hs,hby,hz,hzc,_⟩,_⟩:=zG7 h2;have hvt:yK0 t:=by have:=zJ h2;exact⟨this,zD0 h2⟩
 have hzs:z.cells.size=t.size:=by grind [Array.length_toList,zM9]
 obtain⟨a,cap2,rfl,hB⟩:=hB;have hform:(v=.slice none 0 0∧l=[])∨∃ cap cur e0 us,v=.slice (some ⟨G.γ U,0,none⟩) l.length cap∧w.heap[G.γ U]?=some (.cells cur e0 (0,0))∧l.length≤cap∧cap≤maxLen∧cur.size=cap*t.size ∧
   zM5 (zB6 G.χ w t) l us∧cur.toList.take (l.length*t.size)=us∧(∀ o,G.χ (G.γ U) o=if m=false∧o<l.length*t.size then 0 else zA9 U):=by
  rcases hA with hA | hA
  ·grind
  ·exact (zB1 hA hvt.2).2
 have h63:l.length+l2.length≤maxLen:=by simp only[maxLen];omega
 have hbytes:(l.length+l2.length)*i.bytes≤140737488355328:=by
  calc (l.length+l2.length)*i.bytes≤4294967296*32768:=Nat.mul_le_mul hlen hby
   _=140737488355328:=by grind
 by_cases hl2:l2=[]
 ·subst hl2;rcases hform with ⟨rfl,rfl⟩ | ⟨cap,cur,e0,us,rfl,g1,g2,g3,g4,g5,g6,g7⟩
  ·refine⟨.slice none 0 0,w,G.reown w.heap.size d 0 m,zU h1 hi (Nat.le_refl _) w,zU0 (Nat.le_refl _) (fun _ _=>rfl),zY0 hfr ⟨rfl,rfl,rfl⟩ (Nat.le_refl _) (fun _ _=>rfl),by exact .inl ⟨hvt,.inl ⟨rfl,rfl⟩⟩,.inl rfl⟩
  ·have hx:Ext (fun x=>x=zA9 U∨x=zA9 d) (fun x=>x=zA9 d) G w (G.reown (G.γ U) d (l.length*t.size) m) w:=yY2 (Nat.le_refl _) g7 (Nat.le_refl _) (fun _ _ _=>rfl) (fun _ _=>rfl);refine⟨_,w,G.reown (G.γ U) d (l.length*t.size) m,zU h1 hi g2 w,hx,yL5 hfr (Nat.le_refl _) g7 ⟨rfl,rfl,rfl⟩ (Nat.le_refl _) (fun _ _ _=>rfl) (fun _ _=>rfl),.inl ⟨hvt,.inr ⟨cap,cur,e0,us,?_,?_,?_,g3,g4,?_,?_,fun o=>?_⟩⟩,.inl rfl⟩
   ·simp[Gh.reown]
   ·simp_all [Gh.reown]
   ·grind
   ·rw[List.append_nil];exact zB8 (fun _ _ h=>zA5 hx.prot h) g5
   all_goals simp_all [Gh.reown]
 ·rcases hB with hB | ⟨ad,rfl,n1,n2⟩
  ·grind
  have nl:=zD1 (k:=t.size) (fun _ _ h=>zA1 h) n1;have none1:=yT3 (fun _ _ h=>yI3 h) n1;have hl2p:0<l2.length:=List.length_pos_iff.2 hl2;rcases hform with ⟨rfl,rfl⟩ | ⟨cap,cur,e0,us,rfl,g1,g2,g3,g4,g5,g6,g7⟩
  ·have hr:=run_append_nil (P:=P) w T ty e i z h1 hi hz ad l2.length cap2 ns (by grind) n2 hl2p (by grind) (by have:=hbytes;simp  at this;omega);have hge:=grownCap_ge w l2.length 0 e;have hcm:=grownCap_le_maxLen w l2.length 0 e (by grind);have hoth:∀ b,b<w.heap.size→(w.drew.alloc (.cells (ns.toArray++Builtin.zeroCells z.cells (grownCap w l2.length 0 e-l2.length)) e)).heap[b]?=w.heap[b]?:=fun b hb=>Below.heap_alloc w.drew _ b hb;have hsz:w.heap.size≤(w.drew.alloc (.cells (ns.toArray++Builtin.zeroCells z.cells (grownCap w l2.length 0 e-l2.length)) e)).heap.size:=by simp
   refine⟨_,_,G.reown w.heap.size d (l2.length*t.size) m,hr,zU0 hsz hoth,zY0 hfr ⟨rfl,rfl,rfl⟩ hsz hoth,?_,.inr fun b k c hv' j u hj=>?_⟩
   rotate_left
   ·have hnew:(w.drew.alloc (.cells (ns.toArray++Builtin.zeroCells z.cells (grownCap w l2.length 0 e-l2.length)) e)).heap[w.heap.size]?=some (.cells (ns.toArray++Builtin.zeroCells z.cells (grownCap w l2.length 0 e-l2.length)) e (0,0)):=by
     rw[show (w.heap.size)=w.drew.heap.size from rfl,zH5]
    simp[World.cell?]
    grind
   have hx:=zU0 (G:=G) (U:=d) (d:=d) (n:=l2.length*t.size) (m:=m) hsz hoth;exact yY3 (cap:=grownCap w l2.length 0 e) (rest:=(Builtin.zeroCells z.cells (grownCap w l2.length 0 e-l2.length)).toList) (e:=e) hvt n1 hx (by rw[show (w.heap.size)=w.drew.heap.size from rfl,zH5];simp) (by rw[List.length_append,nl,xJ5 hzs,← Nat.add_mul];grind) hge hcm
  ·have ul:=zD1 (k:=t.size) (fun _ _ h=>zA1 h) g5;by_cases hroom:l.length+l2.length≤cap
   ·have hfit:l.length*i.size+ns.length≤cur.size:=by rw[hs,nl,g4,← Nat.add_mul];exact Nat.mul_le_mul_right _ hroom
    have hr:=yH4 (P:=P) (w:=w) T ty e e0 i h1 hi (G.γ U) l.length cap cur g1 ad l2.length cap2 ns (by grind) n2 none1 hroom hfit;rw[hs] at hr;have hcs:(cur.toList.take (l.length*t.size)++ns++cur.toList.drop (l.length*t.size+ns.length)).length=cap*t.size:=by
     grind
    generalize hcur':(cur.toList.take (l.length*t.size)++ns++cur.toList.drop (l.length*t.size+ns.length))=cur' at hr hcs;have hblk:=setRow_heap w (G.γ U) cur cur'.toArray e0 (0,0) g1;have hoth:∀ b,b≠G.γ U→b<w.heap.size→(w.setRow (G.γ U) cur'.toArray).heap[b]?=w.heap[b]?:=fun b hb _=>setRow_other w (G.γ U) b _ hb;have hsz:w.heap.size≤(w.setRow (G.γ U) cur'.toArray).heap.size:=by grind
    have hcell:∀ o,o<l.length*t.size→(w.setRow (G.γ U) cur'.toArray).cell? ⟨G.γ U,o,none⟩=w.cell? ⟨G.γ U,o,none⟩:=by
     intro o ho;simp only[World.cell?,hblk,g1];simp only[Option.isSome_none,Bool.false_eq_true,if_false,List.getElem?_toArray];rw[← hcur',List.append_assoc,List.getElem?_append_left (by grind),List.getElem?_take,if_pos ho];simp
    have hle:l.length*t.size≤(l.length+l2.length)*t.size:=Nat.mul_le_mul_right _ (by omega);have hx:Ext (fun x=>x=zA9 U∨x=zA9 d) (fun x=>x=zA9 d) G w (G.reown (G.γ U) d ((l.length+l2.length)*t.size) m) (w.setRow (G.γ U) cur'.toArray):=yY2 hle g7 hsz hoth hcell;refine⟨_,_,G.reown (G.γ U) d ((l.length+l2.length)*t.size) m,hr,hx,yL5 hfr hle g7 ⟨rfl,rfl,rfl⟩ hsz hoth hcell,.inl ⟨hvt,.inr ⟨cap,cur'.toArray,e0,us++ns,?_,?_,?_,g3,by grind,?_,?_,fun o=>?_⟩⟩,.inr fun b k c hv' j u hj=>?_⟩
    rotate_right
    ·simp only[Value.slice.injEq,Option.some.injEq,Addr.mk.injEq] at hv';rw[← hv'.1.1];simp only[World.cell?,hblk];simp only[Option.isSome_none,Bool.false_eq_true,if_false,List.getElem?_toArray];rw[← hcur',List.append_assoc,List.getElem?_append_right (by grind),List.getElem?_append_left (by grind)]
     grind
    ·simp[Gh.reown]
    ·simp_all [Gh.reown]
    ·grind
    ·exact zB8 (fun _ _ h=>zA5 hx.prot h) (yK6 g5 n1)
    ·show List.take ((l++l2).length*t.size) cur'=us++ns;have:(l++l2).length*t.size=(us++ns).length:=by rw[List.length_append,List.length_append,ul,nl,Nat.add_mul]
     rw[← hcur',g6,this];exact List.take_left
    simp_all [Gh.reown,List.length_append]
   ·have holds:∀ j u,us[j]?=some u→w.cell? ((⟨G.γ U,0,none⟩:Addr).add j)=some u:=by
     intro j u hu;rw[Addr.add_mid];rw[← g6,List.getElem?_take] at hu;split at hu
     ·simp only[World.cell?,g1];simpa using hu
     ·cases hu
    have hr:=run_append_grow (P:=P) w T ty e i z h1 hi hz ⟨G.γ U,0,none⟩ l.length cap us (by rw[ul,hs]) holds ad l2.length cap2 ns (by rw[nl,hs]) n2 (by omega) (by have:=h63;omega) (growslice_fits (by omega) hbytes);have hge:=grownCap_ge w (l.length+l2.length) cap e;have hcm:=grownCap_le_maxLen w (l.length+l2.length) cap e h63;generalize grownCap w (l.length+l2.length) cap e=nc at hr hge hcm;have hoth:∀ b,b<w.heap.size→(w.drew.alloc (.cells (us.toArray++ns.toArray++Builtin.zeroCells z.cells (nc-(l.length+l2.length))) e)).heap[b]?=w.heap[b]?:=fun b hb=>Below.heap_alloc w.drew _ b hb;have hsz:w.heap.size≤(w.drew.alloc (.cells (us.toArray++ns.toArray++Builtin.zeroCells z.cells (nc-(l.length+l2.length))) e)).heap.size:=by simp
    refine⟨_,_,G.reown w.heap.size d ((l++l2).length*t.size) m,hr,zU0 hsz hoth,zY0 hfr ⟨rfl,rfl,rfl⟩ hsz hoth,?_,.inr fun b k c hv' j u hj=>?_⟩
    rotate_left
    ·simp only[Value.slice.injEq,Option.some.injEq,Addr.mk.injEq] at hv';rw[← hv'.1.1];have hnew:(w.drew.alloc (.cells (us.toArray++ns.toArray++Builtin.zeroCells z.cells (nc-(l.length+l2.length))) e)).heap[w.heap.size]?=some (.cells (us.toArray++ns.toArray++Builtin.zeroCells z.cells (nc-(l.length+l2.length))) e (0,0)):=by
      rw[show (w.heap.size)=w.drew.heap.size from rfl,zH5]
     simp only[World.cell?,hnew];have hj':j<ns.length:=(List.getElem?_eq_some_iff.1 hj).1;rw[← Array.getElem?_toList];simp[Array.toList_append,← ul];rw[List.getElem?_append_right (by omega),List.getElem?_append_left (by omega)];simpa using hj
    have hx:=zU0 (G:=G) (U:=d) (d:=d) (n:=(l++l2).length*t.size) (m:=m) hsz hoth;have:=yY3 (cap:=nc) (rest:=(Builtin.zeroCells z.cells (nc-(l.length+l2.length))).toList) (e:=e) hvt (yK6 g5 n1) hx (by rw[show (w.heap.size)=w.drew.heap.size from rfl,zH5];simp) (by rw[List.length_append,List.length_append,ul,nl,xJ5 hzs,← Nat.add_mul,← Nat.add_mul];grind) (by simpa using hge) hcm;simpa using this
theorem yF3 {χ0:Nat→Nat→Nat}{w0:World}(hfr:Frame0 χ0 w0 G.χ w){t:Ty}{T ty:TypeId}(hT:zC3 P (.sl t) (.inl T)=true){l l2:List t.den}{U d:Nat}{m:Bool}{v bv:Value}
  (hA:(v=.slice none 0 0∧l=[])∨zG3 G w t l U m v)
  (hB:∃ a cap,bv=.slice a l2.length cap∧(l2=[]∨∃ ad us,a=some ad∧zM5 (zB6 G.χ w t) l2 us∧∀ j u,us[j]?=some u→w.cell? (ad.add j)=some u))
  (hlen:l.length+l2.length≤4294967296) :
  ∃ v' w' G',(Builtin.append_ #[T,T] ty #[v,bv]).run P w=.ok v' w'∧Ext (fun x=>x=zA9 U∨x=zA9 d) (fun x=>x=zA9 d) G w G' w'∧Frame0 χ0 w0 G'.χ w'∧zG3 G' w' t (l++l2) d m v':=by
 obtain⟨a,cap,hv,h⟩:=hB;rcases h with h|⟨ad,us,h1,h2,h3⟩
 ·obtain⟨v',w',G',q1,q2,q3,q4,_⟩:=zU1 (ty:=ty) (d:=d) (ns:=[]) hfr hT hA ⟨a,cap,hv,.inl h⟩ hlen
  grind
 ·obtain⟨v',w',G',q1,q2,q3,q4,_⟩:=zU1 (ty:=ty) (d:=d) (ns:=us) hfr hT hA ⟨a,cap,hv,.inr ⟨ad,h1,h2,h3⟩⟩ hlen
  grind
structure Turned (w w':World) (B:Nat) (cells:Array Value) (ty:TypeId):Prop where
 os:w'.os=w.os
 tape:w'.tape=w.tape
 output:w'.output=w.output
 size:w.heap.size≤w'.heap.size
 at':w'.heap[B]?=some (.cells cells ty (0,0))
 oth:∀ b,b<w.heap.size→b≠B→w'.heap[b]?=w.heap[b]?
theorem Turned.row {w:World}{b:Nat}{cur cur':Array Value}{e:TypeId}(h:w.heap[b]?=some (.cells cur e (0,0))):Turned w (w.setRow b cur') b cur' e:=
 ⟨rfl,rfl,rfl,by simp_all,setRow_heap w b cur cur' e (0,0) h,fun k _ hk=>setRow_other w b k cur' hk⟩
theorem Turned.next {w w' w'':World}{b:Nat}{cs cs':Array Value}{e e':TypeId}(h:Turned w w' b cs e)(h':Turned w' w'' b cs' e'):Turned w w'' b cs' e':=
 ⟨h'.os.trans h.os,h'.tape.trans h.tape,h'.output.trans h.output,Nat.le_trans h.size h'.size,h'.at',fun k hk hb=>(h'.oth k (Nat.lt_of_lt_of_le hk h.size) hb).trans (h.oth k hk hb)⟩
theorem Turned.drew {w w':World}{b:Nat}{cs:Array Value}{e:TypeId}(h:Turned w.drew w' b cs e):Turned w w' b cs e:=⟨h.os,h.tape,h.output,h.size,h.at',h.oth⟩
theorem wM4 {t:Ty}{l:List t.den}{us:List Value}{B d cap:Nat}{cells:Array Value}{ty:TypeId}{w':World}{χ0:Nat→Nat→Nat}{w0:World}(hfr:Frame0 χ0 w0 G.χ w)(hvt:yK0 t)(hL:zM5 (zB6 G.χ w t) l us)(hT:Turned w w' B cells ty)
  (hB:w.heap.size≤B) (hcap:l.length≤cap) (hm:cap≤maxLen) (hcs:cells.size=cap*t.size) (htk:cells.toList.take (l.length*t.size)=us) :
  Ext (fun x=>x=zA9 d∨x=zA9 d) (fun x=>x=zA9 d) G w (G.reown B d 0 true) w'∧Frame0 χ0 w0 (G.reown B d 0 true).χ w'∧zG3 (G.reown B d 0 true) w' t l d true (.slice (some ⟨B,0,none⟩) l.length cap):=by
 have hx:Ext (fun x=>x=zA9 d∨x=zA9 d) (fun x=>x=zA9 d) G w (G.reown B d 0 true) w':=by
  refine⟨fun b o hb h=>?_,fun b hb _=>?_,hT.size,fun s _=>rfl,fun T hT=>?_,fun _ h=>.inr h⟩
  ·exact⟨by simp only[Gh.reown];grind,by simp[World.cell?,hT.oth b hb (by omega)]⟩
  ·exact⟨hT.oth b hb (by omega),fun o=>by simp only[Gh.reown];rw[if_neg (by omega)]⟩
  ·simp only[Gh.reown];rw[if_neg (fun e=>hT (by rw[e]))]
 refine⟨hx,⟨hT.os.trans hfr.os,hT.tape.trans hfr.tape,hT.output.trans hfr.output,Nat.le_trans hfr.size hT.size,fun b hb hc=>?_,fun b o hb hc=>?_⟩,.inl ⟨hvt,.inr ⟨cap,cells,ty,us,?_,?_,hcap,hm,hcs,?_,htk,fun o=>?_⟩⟩⟩
 ·have hlt:=Nat.lt_of_lt_of_le hb hfr.size;rw[hT.oth b hlt (by omega)];exact hfr.block b hb hc
 ·have h1:=hfr.cell b o hb hc;have hlt:=Nat.lt_of_lt_of_le hb hfr.size;exact⟨by simp only[Gh.reown];grind,by rw[← h1.2];simp[World.cell?,hT.oth b hlt (by omega)]⟩
 ·simp[Gh.reown]
 ·simp[Gh.reown];exact hT.at'
 ·exact zB8 (fun _ _ h=>zA5 hx.prot h) hL
 grind [Gh.reown]
def wM5 (P:Program)(f k:Nat):Prop:=(∃ fn,P.funcs[f]?=some fn∧fn.body.isSome=true∧fn.name≠"runtime.NumGoroutine") ∧
 ∀ (b o n c:Nat) (cur:Array Value) (e0:TypeId) (us:List Value) (w:World),0<n→n≤4294967296→n≤c→us.length=n*k→(∀ v∈us,v.oneCell'=true)→w.heap[b]?=some (.cells cur e0 (0,0))→(∀ j u,us[j]?=some u→cur.toList[o+j]?=some u) →
  Calls P f #[.slice (some ⟨b,o,none⟩) n c] w fun e w'=>∃ B cap cells ty,e=.returned (.slice (some ⟨B,0,none⟩) n cap)∧w.heap.size≤B∧Turned w w' B cells ty∧n≤cap∧cap≤maxLen∧cells.size=cap*k∧cells.toList.take (n*k)=us
theorem xD5 {χ:Nat→Nat→Nat}:∀ {l:List Int}{us:List Value},zM5 (zB6 χ w (.int .u8)) l us→us=l.map (Value.int .u8):=by
 intro l
 induction l with
 |nil=>intro us h;exact h
 |cons x r ih=>intro us h;obtain⟨vs,ws,rfl,h1,h2⟩:=h;simp only[zB6] at h1;rw[h1,ih h2];rfl
theorem xM4:∀ (l:List Int) (r:ByteArray),l.foldl (fun r n=>r.push (UInt8.ofNat n.toNat)) r=⟨r.data++(xC3 l).toArray⟩:=by
 intro l
 induction l with
 |nil=>intro r;simp[xC3]
 |cons x l ih=>intro r;simp only[List.foldl_cons];rw[ih];simp[xC3,ByteArray.push]
theorem xD6 (hty:zM6 P c.tys=true){src dst:Nat}{x A:AVal}{v:Value}{p:List Prop}(hx:zA G w tm none x v)(h:wL7 c src dst x=some (p,A)) :
  ∃ r,(convert src dst v).run P w=.ok r w∧zA G w tm none A r:=by
 unfold wL7 at h;split at h
 ·rename_i k0 k k1 n e1 e2;obtain⟨rfl,rfl⟩:=h;have h1:=zI hty src (by grind);have h2:=zI hty dst (by grind);rw[e1] at h1;rw[e2] at h2;rw[VRep_int.1 hx];exact⟨_,by simp[convert,run_underlying (yA6 h1),run_underlying (yA6 h2),Conv.intToInt],zD5⟩
 ·obtain⟨rfl,rfl⟩:=h;have h1:=zI hty src (by grind);have h2:=zI hty dst (by grind);rw[VRep_str.1 hx];exact⟨_,by simp_all [convert,run_underlying,zM7],yI2⟩
 ·rename_i e1 e2;split at h
  ·rename_i l hl;obtain⟨rfl,rfl⟩:=h;have h1:=zI hty src (by grind);have h2:=zI hty dst (by grind);rw[e1] at h1;rw[e2] at h2;obtain⟨e,k1,k2⟩:=zF8 h1;obtain⟨a,cap,rfl,hs⟩:=yF2 rfl hx hl;refine⟨.string ⟨(xC3 l).toArray⟩,?_,yI2⟩;rw[run_convert_bytes_string w src dst e a l.length cap (by exact k1) (yA6 k2) (zM7 h2)];rcases hs with rfl|⟨ad,us,rfl,h3,h4⟩
   ·cases a with
    |none=>simp[Conv.bytesToString,xC3];rfl
    |some ad =>
     have hl:=run_loadCells_list (P:=P) w ad [] (fun j v hj=>by simp at hj);simp only[List.length_nil];rw[run_bytesToString w ad 0 cap [] (by simpa using hl)];rfl
   ·have hus:=xD5 h3;subst hus;have hl:=run_loadCells_list (P:=P) w ad _ h4;rw[List.length_map] at hl;rw[run_bytesToString w ad l.length cap l hl,xM4];simp[xC3]
  ·cases h
 ·cases h
end Go.Am
namespace Go.Am
open Go Go.RowKit Go.MapKept
variable {P:Program}{c:Ctx}{G:Gh}{w:World}{tm:Array Value}
def yY4:Ty→Bool
 |.int _=>true|.str=>true|.bool=>true|_=>false
def yL6 (P:Program)(l:List (Nat×(Ty×Ty))):Bool:=l.all fun e=>match P.underlying e.1 with
 |some (.map a b)=>zC3 P e.2.1 (.inl a)&&zC3 P e.2.2 (.inl b)&&yY4 e.2.1&&e.2.2.noPtr
 |_=>false
structure MapTyIs (P:Program) (T:Nat) (k v:Ty):Prop where
 is:∃ a b,P.underlying T=some (.map a b)∧zC3 P k (.inl a)=true∧zC3 P v (.inl b)=true
 key:yY4 k=true
 np:v.noPtr=true
theorem yT4 (h:yL6 P c.maps=true){T:Nat}{k v:Ty}(hm:c.mapTy T=some (k,v)):MapTyIs P T k v:=by
 have hmem:(T,(k,v))∈c.maps:=by
  unfold Ctx.mapTy at hm;generalize c.maps=l at hm
  induction l<;>grind [look,Nat.beq,Nat.eq_of_beq_eq_true,List.mem_cons_self]
 have:=List.all_eq_true.1 h _ hmem;split at this
 ·rename_i a b hu;simp  at this;exact⟨⟨a,b,hu,this.1.1.1,this.1.1.2⟩,this.1.2,this.2⟩
 grind
theorem wK4 {k:Ty}{a:Nat}(hk:yY4 k=true)(ht:zC3 P k (.inl a)=true):∃ d,P.underlying a=some d∧∀ {χ:Nat→Nat→Nat}{x:k.den}{v:Value},zT2 χ w k x v→IsKey d v:=by
 cases k with
 |int k=>exact⟨_,yA6 ht,fun h=>by grind [VRep_int,IsKey]⟩
 |str=>exact⟨_,zM7 ht,fun h=>by grind [VRep_str,IsKey]⟩
 |bool=>exact⟨_,yW6 ht,fun h=>by grind [VRep_bool,IsKey]⟩
 |_=>grind [yY4]
theorem wM6 {k:Ty}(hk:yY4 k=true){χ:Nat→Nat→Nat}{x y:k.den}{v u:Value}(hx:zT2 χ w k x v)(hy:zT2 χ w k y u):k.eqb x y=true↔u=v:=by
 cases k<;>grind [VRep_int,Ty.eqb,VRep_str,bool,VRep_bool,yY4]
theorem xJ6 {k e:Ty}{d:TypeDesc}(hk:yY4 k=true){χ:Nat→Nat→Nat}(hd:∀ {x:k.den}{v:Value},zT2 χ w k x v→IsKey d v){x:k.den}{v:Value}(hx:zT2 χ w k x v) :
  ∀ {l:List (k.den×e.den×Unit)}{es:List MapEntry}(i:Nat),xL5 χ w k e l es →
  (yR8 k e x l=none∧Instr.findNow d v es i=some none∧∀ y,wD8 k e x y l=l++[(x,y,())]) ∨
  ∃ y j en,yR8 k e x l=some y∧Instr.findNow d v es i=some (some (i+j,en.val))∧es[j]?=some en∧en.key=v∧zT2 χ w e y en.val∧∀ z,wD8 k e x z l=l.set j (x,z,()):=by
 intro l
 induction l with
 |nil=>intro es i h;subst h;exact .inl ⟨rfl,rfl,fun y=>rfl⟩
 |cons q l ih =>
  intro es i h;obtain⟨en,r,rfl,h1,h2,h3⟩:=h;obtain⟨b,hb,hbi⟩:=sameNow_of_keys (hd hx) (hd h1);have hq:=wM6 hk hx h1;cases b with
  |true =>
   have e1:=hbi.1 rfl;exact .inr ⟨q.2.1,0,en,by grind [yR8],by grind [Instr.findNow],rfl,e1.symm,h2,fun z=>by grind [wD8]⟩
  |false =>
   rcases ih (i+1) h3 with ⟨g1,g2,g3⟩ | ⟨y,j,en',g1,g2,g3,g4,g5,g6⟩
   ·grind [yR8,Instr.findNow,wD8]
   ·exact .inr ⟨y,j+1,en',by grind [yR8],by grind [Instr.findNow],by simpa using g3,g4,g5,fun z=>by grind [wD8]⟩
theorem xV {τ:Ty}{b:Nat}(ht:zC3 P τ (.inl b)=true)(hn:τ.noPtr=true){χ:Nat→Nat→Nat}:∃ z,(zeroValue b).run P w=.ok z w∧zT2 χ w τ τ.dflt z:=by
 obtain⟨⟨i,z,hi,_,_,hz,hc,ha⟩,_⟩:=zG7 ht;refine⟨z,by simp_all [zeroValue,typeInfo],zC τ,zV3 hn,?_⟩;cases hag:τ.isAgg with
 |true =>
  rw[hag] at ha;simp;cases z<;>simp[yW4] at ha;simp only[Value.cells] at hc;rw[← hc]
 |false =>
  rw[hag] at ha;cases z<;>simp[yW4] at ha<;>simpa[Value.cells] using hc.symm
theorem yT5 {k e:Ty}{l:List (k.den×e.den×Unit)}{T:Nat}{m:Bool}{v:Value}(h:zG3 G w (xS k e) l T m v):wE7 G w k e l T v:=by
 rcases h with h|⟨_,k',e',l',ht,hl,h⟩
 ·exact absurd h.1.2 (by simp[Ty.isL])
 ·injection ht with h1 h2
  injection h2 with h2 _
  subst h1;subst h2;simp_all
theorem yT6 (hm:yL6 P c.maps=true){T:Nat}{x y A:AVal}{v u:Value}{ok:Bool}{p:List Prop}(hx:zA G w tm none x v)(hy:zA G w tm none y u)(h:xC4 c T x y ok=some (p,A)) :
  ∃ r,(Instr.lookup T v u ok).run P w=.ok r w∧zA G w tm none A r:=by
 unfold xC4 at h;split at h
 ·rename_i k e hT;obtain⟨⟨a,b,hu,hk,he⟩,hkey,hnp⟩:=yT4 hm hT;split at h
  ·rename_i t l U m;split at h
   ·rename_i l' q hl hq;obtain⟨ec,hl⟩:=zD2 hl;injection ec with ec
    subst ec;subst hl;obtain⟨es,clock,rfl,hb,hE,_⟩:=yT5 hx;have hqv:=zK5 hq (by cases k<;>first|rfl|grind [yY4]) hy
    obtain⟨d,hd,hdk⟩:=wK4 (w:=w) hkey hk;have hlook:∀ r:Option (Nat×Value),Instr.findNow d u es.toList 0=some r→(Instr.lookup T (.map (some (G.γ U))) u ok).run P w =
      ((match r with|some (_,z)=>pure (z,true)|none=>(do pure (← zeroValue b,false)):Sem (Value×Bool)).run P w).andThen fun z=>(pure (if ok then .tuple #[z.1,.bool z.2] else z.1):Sem Value).run P:=by
     intro r hr;simp[Instr.lookup,run_underlying hu,Go.MapKept.run_getObj_map hb,run_checkKey hd (hdk hqv) es.isEmpty 9999,run_findKey hd hr];cases r with
     |none=>simp ;cases Sem.run P (zeroValue b) w<;>rfl
     |some q=>rfl
    obtain⟨z0,hz0,hzr⟩:=xV (P:=P) (w:=w) (χ:=G.χ) he hnp;rcases xJ6 hkey (e:=e) (d:=d) hdk hqv 0 hE with ⟨g1,g2,_⟩ | ⟨y',j,en,g1,g2,g3,g4,g5,_⟩
    ·have hr:=hlook _ g2;simp[hz0] at hr;rw[g1] at h;cases ok with
     |true =>
      obtain⟨rfl,rfl⟩:=h;refine⟨_,hr,?_⟩;exact⟨_,[.bool false],rfl,hzr,_,[],rfl,VRep_bool.2 rfl,rfl⟩
     |false =>
      grind [zA]
    ·have hr:=hlook _ g2;simp  at hr;rw[g1] at h;cases ok with
     |true =>
      obtain⟨rfl,rfl⟩:=h;refine⟨_,hr,?_⟩;exact⟨_,[.bool true],rfl,g5,_,[],rfl,VRep_bool.2 rfl,rfl⟩
     |false =>
      grind [zA]
   grind
  grind
 grind
theorem xD7 {χ:Nat→Nat→Nat}{k e:Ty}:∀ {l:List (k.den×e.den×Unit)}{es:List MapEntry}{x:k.den×e.den×Unit}{en:MapEntry},xL5 χ w k e l es→zT2 χ w k x.1 en.key→zT2 χ w e x.2.1 en.val→xL5 χ w k e (l++[x]) (es++[en]):=by
 intro l
 induction l with
 |nil=>intro es x en h h1 h2;subst h;exact⟨en,[],rfl,h1,h2,rfl⟩
 |cons q l ih=>rintro es x en ⟨e',r,rfl,g1,g2,g3⟩ h1 h2;exact⟨e',r++[en],rfl,g1,g2,ih g3 h1 h2⟩
theorem wF6 {χ:Nat→Nat→Nat}{k e:Ty}:∀ {l:List (k.den×e.den×Unit)}{es:List MapEntry}{x:k.den×e.den×Unit}{en:MapEntry}{j:Nat},xL5 χ w k e l es→zT2 χ w k x.1 en.key→zT2 χ w e x.2.1 en.val→xL5 χ w k e (l.set j x) (es.set j en):=by
 intro l
 induction l with
 |nil=>grind [xL5]
 |cons q l ih =>
  rintro es x en j ⟨e',r,rfl,g1,g2,g3⟩ h1 h2;cases j with
  |zero=>exact⟨en,r,rfl,h1,h2,g3⟩
  |succ j=>exact⟨e',r.set j en,rfl,g1,g2,ih g3 h1 h2⟩
theorem yB1 {T U:Nat}{k e:Ty}(hT:MapTyIs P T k e){l:List (k.den×e.den×Unit)}{v kv ev:Value}{x:k.den}{y:e.den}(hM:wE7 G w k e l U v)(hk:zT2 G.χ w k x kv)(he:zT2 G.χ w e y ev) :
  ∃ es' clock',(Instr.mapUpdate T v kv ev).run P w=.ok () { w with heap:=w.heap.setIfInBounds (G.γ U) (.map es' clock') }∧xL5 G.χ w k e (wD8 k e x y l) es'.toList:=by
 obtain⟨⟨a,b,hu,hka,_⟩,hkey,_⟩:=hT;obtain⟨es,clock,rfl,hb,hE,_⟩:=hM;obtain⟨d,hd,hdk⟩:=wK4 (w:=w) hkey hka;rcases xJ6 hkey (e:=e) (d:=d) hdk hk 0 hE with ⟨g1,g2,g3⟩ | ⟨y',j,en,g1,g2,g3,g4,g5,g6⟩
 ·refine⟨es.push { key:=kv,val:=ev,born:=clock },clock+1,?_,?_⟩
  ·simp[Instr.mapUpdate,run_underlying hu,Go.MapKept.run_getObj_map hb,run_checkKey hd (hdk hk),run_findKey hd g2,run_setObj_map _ hb]
  grind [Array.toList_push,xD7]
 ·have hj:es[j]?=some en:=by grind
  refine⟨es.modify j fun e'=>{ e' with key:=kv,val:=ev },clock,?_,?_⟩
  ·simp[Instr.mapUpdate,run_underlying hu,Go.MapKept.run_getObj_map hb,run_checkKey hd (hdk hk),run_findKey hd g2,hj,g4,run_keyThatStays (hdk hk),run_setObj_map _ hb]
  ·have:(es.modify j fun e'=>{ e' with key:=kv,val:=ev }).toList=es.toList.set j { en with key:=kv,val:=ev }:=by
    apply List.ext_getElem?
    grind
   grind [wF6]
end Go.Am
namespace Go.Am
open Go Go.RowKit
variable {gtab:GlobTab}{P:Program}{c:Ctx}{G:Gh}{w:World}{tm:Array Value}{n:Nat}{χ0:Nat→Nat→Nat}{w0:World}{S:St}{a:Act}
theorem wF7 {g:Nat}:∀ {l:List (Nat×(τ:Ty)×τ.den)},xS0 l g=.junk∨∃ τ x,(g,⟨τ,x⟩)∈l∧xS0 l g=.val (.ptr τ) x:=by
 intro l
 induction l with
 |nil=>exact .inl rfl
 |cons e r ih =>
  obtain⟨k,τ,x⟩:=e;simp only[xS0];cases hb:Nat.beq k g with
  |true=>have:=Nat.eq_of_beq_eq_true hb;subst this;exact .inr ⟨τ,x,List.mem_cons_self ..,rfl⟩
  |false =>
   grind
theorem zI0 (hR:Rel n χ0 w0 S a w G)(x:Operand):zA G w a.tmps none (arg S x) (a.eval x):=by
 cases x with
 |tmp t =>
  have h:=hR.reps t;show zA G w a.tmps none (arg S (.tmp t)) (a.tmps.getD t undef);simp only[arg];generalize S.get t=A at h;cases A with
  |box τ c =>
   simp only[zA] at h ⊢;cases hb:Nat.blt t vNo with
   |true=>exact⟨trivial,by rw[h.1 (Nat.le_of_ble_eq_true hb)];rfl⟩
   |false=>trivial
  |may b τ c=>trivial
  |bld T e U l =>
   simp only[zA] at h ⊢;cases hb:Nat.blt t vNo with
   |true=>exact⟨trivial,by rw[h.1 (Nat.le_of_ble_eq_true hb)];rfl⟩
   |false=>trivial
  |raw=>simp only[zA] at h ⊢;exact h.1
  |_=>exact zP9 h (by simp) (by simp) (by simp) (by simp)
 |const v =>
  simp[arg,Act.eval];unfold wK1;split
  all_goals grind [zC2,zD5,zA,VRep_str]
 |func f=>grind [arg,Act.eval,zA]
 |global g =>
  simp[arg,Act.eval];rcases wF7 (g:=g) (l:=GlobTab.tab) with h|⟨τ,x,h1,h2⟩
  ·grind [zA]
  ·obtain⟨vs,h3,h4⟩:=hR.glob g τ x h1
   grind [zV1]
def yT7 (tm:Array Value)(gd:Gd):Prop:=∀ s w g,gd=some (s,w,g)→tm.getD s undef=.bool w
theorem zN {gd:Gd}(hg:yT7 tm gd){A:AVal}{v:Value}(h:zA G w tm none A v):zA G w tm none (zG gd A) v:=by
 cases A with
 |opt s w' g A =>
  simp only[zA] at h;simp only[zG];split
  ·rename_i s' w'' g';cases hc:(Nat.beq s s'&&(w'==w'')) with
   |false=>simp[zA]
   |true =>
    simp only[Bool.and_eq_true] at hc;have e:=Nat.eq_of_beq_eq_true hc.1;subst e;have:=hg s w'' g' rfl
    grind
  grind [zA]
 |_=>grind [zG]
theorem wF8 {α β γ:Type}{R:β→γ→Prop}{f:α→β}{g:α→γ}:∀ (l:List α),(∀ x∈l,R (f x) (g x))→zH8 R (l.map f) (l.map g):=by
 intro l
 induction l with
 |nil=>intro _;trivial
 |cons x l ih=>intro h;exact⟨h x (by simp),ih (fun y hy=>h y (by grind))⟩
theorem xD8 {gd:Gd}(hg:yT7 tm gd){A:AVal}{s:Nat}{v:Value}(h:zA G w tm (some s) A v):∃ u,zA G w tm (some s) (zG gd A) u:=by
 cases A with
 |opt s' w' g A =>
  have h':zA G w tm none (.opt s' w' g A) v:=by grind [zA]
  exact⟨v,zL6 (zN hg h')⟩
 |_=>exact⟨v,h⟩
theorem xJ7 (hR:Rel n χ0 w0 S a w G){gd:Gd}(hg:yT7 a.tmps gd)(l:List Operand):zH8 (zA G w a.tmps none) ((l.map (arg S)).map (zG gd)) (l.map a.eval):=by
 grind [List.map_map,wF8,zN,zI0]
theorem zH0 (hR:Rel n χ0 w0 S a w G){A:AVal}{s:Nat}(h:zE2 A=some s):zA G w a.tmps (some s) (zB S A) (a.tmps.getD s undef):=by
 cases A with
 |ref s' τ p=>simp[zE2] at h;subst h;exact hR.reps _
 |eref s' T t i p=>simp[zE2] at h;subst h;exact hR.reps _
 |rref s'=>simp[zE2] at h;subst h;exact hR.reps _
 |_=>grind [zE2]
theorem zL4 {α β:Type}{R:α→β→Prop}{x:α}{l:List β}(h:zH8 R [x] l):∃ y,l=[y]∧R x y:=by
 match l,h with
 |[y],h=>exact⟨y,rfl,h.1⟩
theorem yI4 {α β:Type}{R:α→β→Prop}{x y:α}{l:List β}(h:zH8 R [x,y] l):∃ u v,l=[u,v]∧R x u∧R y v:=by
 match l,h with
 |[u,v],h=>exact⟨u,v,rfl,h.1,h.2.1⟩
theorem wF9:∀ {xs:List AVal}{vs:List Value},zH8 (zA G w tm none) xs vs→zA G w tm none (AVal.ofL xs) (.tuple vs.toArray):=by
 intro xs
 induction xs with
 |nil=>grind [zH8,AVal.ofL,zA]
 |cons x xs ih=>intro vs h;cases vs<;>simp only[zH8] at h;exact⟨_,_,rfl,h.1,ih h.2⟩
set_option maxHeartbeats 800000 in
theorem xV0 (hty:zM6 P c.tys=true)(hmt:yL6 P c.maps=true)(hft:yX P c.fts=true)(o:Oper){d:Nat}{xs ks:List AVal}{p:List Prop}{A:AVal}(hm:yA2 o.op=false)
  (hx:zH8 (zA G w a.tmps none) xs ((zE7 o.op).map a.eval)) (hk:∀ (i:Nat) X k,xs[i]?=some X→ks[i]?=some k→∀ s,zE2 X=some s→∃ u,zA G w a.tmps (some s) k u)
  (h:zZ3 c d o.op xs ks=some (p,A)) (hp:∀ q∈p,q):∃ v,(execOp a.eval o).run P w=.ok (.value v) w∧zA G w a.tmps none A v:=by
 obtain⟨dst,op,ty,pos,after,guard⟩:=o;simp only at hm hx h ⊢;unfold zZ3 at h;split at h
 ·-- move
  simp[zE7] at hx;obtain⟨y,e,h1⟩:=zL4 hx;simp_all [execOp]
 ·-- assign
  simp[zE7] at hx;obtain⟨y,e,h1⟩:=zL4 hx;simp_all [execOp]
 ·grind [yA2]
 ·grind [yA2]
 ·-- load
  rename_i T x A' k;simp[zE7] at hx;obtain⟨y,e,h1⟩:=zL4 hx;simp  at e;subst e;obtain⟨u,h2,h3⟩:=yL1 hty hft h1 (fun s hs=>hk 0 A' k rfl rfl s hs) h hp;simp_all [execOp]
 ·-- nilCheck
  simp[zE7] at hx;obtain⟨y,e,h1⟩:=zL4 hx;simp  at e;subst e;split at h
  ·have h2:=h1;have h2:=(zC6 rfl).1 h2;obtain⟨b,of,us,hv,_⟩:=h2;simp_all [execOp]
  ·obtain⟨rfl,rfl⟩:=h;simp_all [zA,execOp]
  ·obtain⟨rfl,rfl⟩:=h;simp_all [zA,execOp]
  ·have h2:=h1;obtain⟨vs,hv,_⟩:=h2;simp_all [execOp]
  grind
 ·-- binOp
  rename_i bo T x y yt A' B;obtain⟨u,v,e,h1,h2⟩:=yI4 hx;obtain⟨rfl,rfl⟩:=e;obtain⟨r,h3,h4⟩:=xM0 (ox:=x) hty h1 h2 h hp;refine⟨r,?_,h4⟩;show (do let s ← (do eqGuard bo T x y (a.eval x) (a.eval y);binOp bo T (a.eval x) (a.eval y):Sem Value);pure (Next.value s):Sem Next).run P w=_
  rw[Sem.run_bind,h3];rfl
 ·-- unOp
  simp[zE7] at hx;obtain⟨y,e,h1⟩:=zL4 hx;simp  at e;subst e;obtain⟨u,h2,h3⟩:=xU5 (P:=P) h1 h hp;simp_all [execOp]
 ·-- convert
  simp[zE7] at hx;obtain⟨y,e,h1⟩:=zL4 hx;simp  at e;subst e;obtain⟨u,h2,h3⟩:=xD6 hty h1 h;simp_all [execOp]
 ·-- build
  obtain⟨u,h2,h3⟩:=yX9 hty hx h;simp_all [execOp]
 ·grind [yA2]
 ·grind [yA2]
 ·-- slice
  rename_i T x lo hi A' r;have key:∀ {vlo vhi:Option Value},vlo=lo.map a.eval→vhi=hi.map a.eval→(∃ r,(Instr.sliceAt T (a.eval x) vlo vhi none).run P w=.ok r w∧zA G w a.tmps none A r)→∃ v,(execOp a.eval ⟨dst,.slice T x lo hi none,ty,pos,after,guard⟩).run P w=.ok (.value v) w∧zA G w a.tmps none A v:=by
   simp_all [execOp]
  cases lo with
  |none =>
   cases hi with
   |none =>
    simp[zE7] at hx;cases r with
    |cons _ _=>grind [zH8]
    |nil=>exact key rfl rfl (zO6 hty hx.1 (fun A e=>by grind [zN1]) (fun _=>rfl) (fun A e=>by grind [zN1]) (fun _=>rfl) h hp)
   |some y =>
    match r,hx with
    |[B],hx=>exact key rfl rfl (zO6 hty hx.1 (fun A e=>by grind [zN1]) (fun _=>rfl) (fun A e=>by simp[zN1] at e;subst e;exact⟨_,rfl,hx.2.1⟩) (fun e=>by grind [zN1]) h hp)
  |some z =>
   cases hi with
   |none =>
    match r,hx with
    |[B],hx=>exact key rfl rfl (zO6 hty hx.1 (fun A e=>by simp[zN1] at e;subst e;exact⟨_,rfl,hx.2.1⟩) (fun e=>by grind [zN1]) (fun A e=>by grind [zN1]) (fun _=>rfl) h hp)
   |some y =>
    match r,hx with
    |[B,C],hx=>exact key rfl rfl (zO6 hty hx.1 (fun A e=>by simp[zN1] at e;subst e;exact⟨_,rfl,hx.2.1⟩) (fun e=>by grind [zN1]) (fun A e=>by simp[zN1] at e;subst e;exact⟨_,rfl,hx.2.2.1⟩) (fun e=>by grind [zN1]) h hp)
 ·-- fieldAddr
  simp[zE7] at hx;obtain⟨y,e,h1⟩:=zL4 hx;simp  at e;subst e;obtain⟨u,h2,h3⟩:=yH0 hty h1 h;simp_all [execOp]
 ·-- field
  simp[zE7] at hx;obtain⟨y,e,h1⟩:=zL4 hx;simp  at e;subst e;obtain⟨u,h2,h3⟩:=yX1 hty h1 h;simp_all [execOp]
 ·-- indexAddr
  obtain⟨u,v,e,h1,h2⟩:=yI4 hx;obtain⟨rfl,rfl⟩:=e;obtain⟨r,h3,h4⟩:=yH1 hty h1 h2 h hp;simp_all [execOp]
 ·-- index
  obtain⟨u,v,e,h1,h2⟩:=yI4 hx;obtain⟨rfl,rfl⟩:=e;obtain⟨r,h3,h4⟩:=yX0 hty h1 h2 h hp;simp_all [execOp]
 ·-- extract
  simp[zE7] at hx;obtain⟨y,e,h1⟩:=zL4 hx;simp  at e;subst e;obtain⟨u,h2,h3⟩:=yO6 (P:=P) h1 h;simp_all [execOp]
 ·-- lookup
  obtain⟨u,v,e,h1,h2⟩:=yI4 hx;obtain⟨rfl,rfl⟩:=e;obtain⟨r,h3,h4⟩:=yT6 hmt h1 h2 h;simp_all [execOp]
 ·-- makeMap
  grind [yA2]
 ·-- makeFunc
  rename_i f fs cs0;split at h
  ·obtain⟨rfl,rfl⟩:=h;have hfs':fs=#[]:=by grind
   subst hfs';simp only[zE7] at hx;refine⟨.func (.func f) #[] (cs0.map a.eval),by simp[execOp,Instr.makeFunc],?_⟩;simp only[zA];have:=wF9 hx;rw[show (List.map a.eval cs0.toList).toArray=cs0.map a.eval from Array.toList_inj.1 (by simp)] at this
   grind
  grind
 ·-- len
  rename_i args ats A';simp only[zE7] at hx;obtain⟨y,e,h1⟩:=zL4 hx;have hargs:args.map a.eval=#[y]:=by
   grind
  obtain⟨u,h2,h3⟩:=xM1 (ty:=ty) hty h1 h;exact⟨u,by simp[execOp,resolve,invoke,builtin,hargs,h2],h3⟩
 ·-- max
  simp only[zE7] at hx;obtain⟨v,r,e,u,h2,h3⟩:=yQ (P:=P) (g:=Builtin.max2) wF4 hx h;exact⟨u,by simp_all [execOp,resolve,invoke,builtin,Builtin.max_],h3⟩
 ·-- min
  simp only[zE7] at hx;obtain⟨v,r,e,u,h2,h3⟩:=yQ (P:=P) (g:=Builtin.min2) wF5 hx h;exact⟨u,by simp_all [execOp,resolve,invoke,builtin,Builtin.min_],h3⟩
 grind
end Go.Am
namespace Go.Am
open Go Go.RowKit
variable {gtab:GlobTab}{P:Program}{c:Ctx}{G:Gh}{w:World}{tm:Array Value}{n:Nat}{χ0:Nat→Nat→Nat}{w0:World}{S:St}{a:Act}
theorem yQ1 (z:List Value)(k n:Nat)(hz:z.length=k)(hk:0<k):((Array.range (n*k)).map (fun i=>z.toArray[i % z.toArray.size]!)).toList=(List.replicate n z).flatten:=by
 apply List.ext_getElem?;intro j;by_cases hj:j<n*k
 ·have hmod:j % k<z.length:=by rw[hz];exact Nat.mod_lt _ hk
  have key:∀ (n j:Nat),j<n*k→(List.replicate n z).flatten[j]?=z[j % k]?:=by
   intro n
   induction n with
   |zero=>omega
   |succ n ih =>
    intro j hj;simp[List.replicate_succ];by_cases h1:j<k
    ·rw[List.getElem?_append_left (by omega),Nat.mod_eq_of_lt h1]
    ·rw[List.getElem?_append_right (by omega),ih (j-z.length) (by rw[Nat.succ_mul] at hj;omega),hz,Nat.mod_eq_sub_mod (a:=j) (by omega)]
  grind
 simp_all
theorem zU2 (z:List Value){n m:Nat}(h:n≤m):(List.replicate m z).flatten=(List.replicate n z).flatten++(List.replicate (m-n) z).flatten:=by
 grind [List.flatten_append,List.replicate_append_replicate]
theorem yT8 {t:Ty}{T e:TypeId}{ie:TypeInfo}{z:Value}(h1:P.underlying T=some (.slice e))(hie:P.info? e=some ie)(hz:ie.zero=some z)(hse:ie.size=t.size)(hby:ie.bytes≤32768)(hzc':z.cells=(zC t).toArray)
  (hc3:0<t.size) (n m:Int) (hb:0≤n∧n≤m∧m≤4294967296) (k1 k2:IntKind) :
  (Instr.makeSlice T (.int k1 n) (.int k2 m)).run P w=.ok (.slice (some ⟨w.heap.size,0,none⟩) n.toNat m.toNat) (w.alloc (.cells ((List.replicate n.toNat (zC t)).flatten++(List.replicate (m.toNat-n.toNat) (zC t)).flatten).toArray e)):=by
 have hw1:IntKind.i64.wrap n=n:=IntWalk.i64_in _ (by omega);have hw2:IntKind.i64.wrap m=m:=IntWalk.i64_in _ (by omega);have hbm:(ie.bytes:Int)*m≤32768*4294967296:=Int.mul_le_mul (by omega) hb.2.2 (by omega) (by omega);have hrow:((Array.range (m.toNat*t.size)).map (fun i=>(if m.toNat*t.size=0 then (#[]:Array Value) else (zC t).toArray)[i % (if m.toNat*t.size=0 then (#[]:Array Value) else (zC t).toArray).size]!))=((List.replicate n.toNat (zC t)).flatten++(List.replicate (m.toNat-n.toNat) (zC t)).flatten).toArray:=by
  by_cases h0:m.toNat*t.size=0
  ·have hz0:m.toNat=0:=by grind [Nat.mul_eq_zero]
   have hn0:n.toNat=0:=by omega
   simp[hz0,hn0]
  ·simp only[if_neg h0];apply Array.toList_inj.1;rw[yQ1 _ _ _ zM9 hc3,zU2 (zC t) (show n.toNat≤m.toNat by omega)]
 have hbig:¬ (281474976710656<(ie.bytes:Int)*m):=by omega
 have hm0:¬ m<0:=by omega
 have hn0:¬ n<0:=by omega
 have hnm:¬ m<n:=by omega
 rw[← hrow];by_cases h0:m.toNat*t.size=0
 ·simp[Instr.makeSlice,run_underlying h1,asInt,asIntOf,typeInfo,sizeOf,hie,hse,hw1,hw2,hbig,hm0,hn0,hnm,h0,newRow]
 ·simp[Instr.makeSlice,run_underlying h1,asInt,asIntOf,typeInfo,sizeOf,zeroValue,hie,hz,hzc',hse,hw1,hw2,hbig,hm0,hn0,hnm,h0,newRow]
theorem yT9 {t:Ty}{d e:Nat}(hnp:t.noPtr=true)(hv:yK0 t)(n m:Int)(hb:0≤n∧n≤m∧m≤4294967296) :
  zA (G.newArr w.heap.size d) (w.alloc (.cells ((List.replicate n.toNat (zC t)).flatten++(List.replicate (m.toNat-n.toNat) (zC t)).flatten).toArray e)) tm (some d) (.own t (List.replicate n.toNat t.dflt) d true) (.slice (some ⟨w.heap.size,0,none⟩) n.toNat m.toNat):=by
 have:=xU9 (G:=G) (w:=w) (tm:=tm) (l:=List.replicate n.toNat t.dflt) (rest:=(List.replicate (m.toNat-n.toNat) (zC t)).flatten) (d:=d) (e:=e) (cap:=m.toNat) (zL2 (zV3 hnp) n.toNat) hv
  (by rw[← zU2 (zC t) (show n.toNat≤m.toNat by omega)];simp[zM9]) (by grind) (by simp only[maxLen];omega)
 grind
theorem xV1 (hty:zM6 P c.tys=true){T len d:Nat}{ps:Array (Nat×Operand)}{xs:List AVal}{p:List Prop}{A:AVal}{o:Oper}(ho:o.op=.buildSlice T len ps)(hfr:Frame0 χ0 w0 G.χ w)
  (hx:zH8 (zA G w a.tmps none) xs ((ps.toList.map (·.2)).map a.eval)) (h:zZ2 c T len d (zD4 ps.toList xs)=some (p,A)) :
  xS9 A=true∧∃ v w' G',(execOp a.eval o).run P w=.ok (.value v) w'∧(Ext (·=zD8 d) (·=zD8 d) G w G' w'∨Ext (·=zA9 d) (·=zA9 d) G w G' w')∧Frame0 χ0 w0 G'.χ w'∧∀ tm,zA G' w' tm (some d) A v:=by
 unfold zZ2 at h;split at h
 ·rename_i hz0;cases hb:(c.wr.any (Nat.beq d)&&Nat.beq len 1) with
  |false=>grind
  |true =>
   simp[hb,cond_true] at h;split at h
   ·rename_i s hTy;cases hs:s.isL with
    |true=>grind
    |false =>
     simp[hs,Option.some.injEq,Prod.mk.injEq] at h;obtain⟨rfl,rfl⟩:=h;have hT:=zI hty T (by grind);rw[hTy] at hT;obtain⟨e,h1,h2⟩:=zF8 hT;obtain⟨⟨ie,z,hie,hse,_,hz,hzc,_⟩,_⟩:=zG7 h2;have hzc':z.cells=#[.slice none 0 0]:=by apply Array.toList_inj.1;rw[hzc];rfl
     have hse:ie.size=1:=hse;have hlx:xs.length=ps.toList.length:=by rw[zE6 hx];simp
     obtain⟨e1,e2⟩:=zO7 hlx;rw[hz0] at e1 e2;rw[← e1] at hx;obtain⟨o1,hps⟩:∃ o1,ps.toList=[(0,o1)]:=by
      match hq:ps.toList,e2 with
      |[(k,o1)],e2=>grind
     rw[hps] at hx;have hv:=hx.1;simp only[zA] at hv;have hparts:(ps.map fun (i,x)=>(i,a.eval x)).toList=[(0,.slice none 0 0)]:=by
      simp_all
     have hrun:(Instr.buildSlice T 1 (ps.map fun (i,x)=>(i,a.eval x))).run P w=.ok (.slice (some ⟨w.heap.size,0,none⟩) 1 1) (w.alloc (.cells #[.slice none 0 0] e)):=by
      refine run_buildSlice w T e 1 _ #[.slice none 0 0] ie z h1 hie hz (by grind) (by grind) ?_;rw[hparts,hse,hzc'];have hc1:(Value.slice none 0 0).cells=#[.slice none 0 0]:=rfl;simp[Instr.fill,show Array.range 1=#[0] from rfl,hc1]
     refine⟨rfl,.slice (some ⟨w.heap.size,0,none⟩) 1 1,w.alloc (.cells #[.slice none 0 0] e),G.newArr w.heap.size d,?_,.inr (zQ2 _ d),zH hfr _ _ (fun b o hb=>by simp only[Gh.newArr];rw[if_neg (by omega)]),fun tm=>?_⟩
     ·unfold execOp;simp_all
     ·have hpl:(Ty.sl s).plain=true:=zJ h2;simp[Ty.plain] at hpl;refine⟨⟨hpl.2,hs⟩,.inr ⟨by omega,.inr ⟨1,#[.slice none 0 0],e,by simp[Gh.newArr],?_,by simp,by simp[maxLen],by simp,fun o=>by simp[Gh.newArr],fun j x hj=>?_⟩⟩⟩
      ·grind [Gh.newArr,zH5]
      ·cases j with
       |zero =>
        simp  at hj;subst hj;exact⟨.slice none 0 0,by simp,by exact⟨⟨hpl.2,hs⟩,.inl ⟨rfl,rfl⟩⟩⟩
       |succ j=>grind
   grind
 grind
theorem wG:∀ (vs:List Value) (i:Nat) (cells:Array Value),(∀ v∈vs,v.cells=#[v])→i+vs.length≤cells.size →
  ∃ r,Instr.fill (fun i=>some (i*1,1)) cells (List.zip (List.range' i vs.length) vs)=some r∧r.size=cells.size∧∀ j,r[j]?=if i≤j∧j<i+vs.length then vs[j-i]? else cells[j]?:=by
 intro vs
 induction vs with
 |nil=>intro i cells _ _;exact⟨cells,rfl,rfl,fun j=>by rw[if_neg (by simp)]⟩
 |cons v r ih =>
  intro i cells h hs;simp only[List.length_cons] at hs;have hv:=h v (List.mem_cons_self ..);obtain⟨r',h1,h2,h3⟩:=ih (i+1) (cells.setIfInBounds (i*1+0) v) (fun v hv=>h v (List.mem_cons_of_mem _ hv)) (by rw[Array.size_setIfInBounds];omega);refine⟨r',?_,by simpa using h2,fun j=>?_⟩
  ·simp only[List.length_cons,List.range'_succ,List.zip_cons_cons,Instr.fill,hv];rw[if_neg (by simp;omega)];simpa using h1
  ·rw[h3 j];simp only[List.length_cons];by_cases hj:i+1≤j∧j<i+1+r.length
   ·rw[if_pos hj,if_pos (by omega),show j-i=j-(i+1)+1 by omega,List.getElem?_cons_succ]
   ·rw[if_neg hj];by_cases hi:i=j
    ·subst hi;rw[if_pos (by omega),Nat.sub_self,Nat.mul_one,Nat.add_zero,Array.getElem?_setIfInBounds_self_of_lt (by omega)];rfl
    ·rw[if_neg (by omega),Array.getElem?_setIfInBounds_ne (by omega)]
theorem xD9 {t:Ty}:∀ {parts:List (Nat×AVal)}{vs:List Value}{i:Nat}{l:List (Option (Nat×Ty×zG4))},zM2 t i parts=some l→zH8 (zA G w tm none) (parts.map (·.2)) vs →
  vs=l.map (yH9 G)∧parts.map (·.1)=List.range' i vs.length∧∀ k τ p,some (k,τ,p)∈l→zE τ p:=by
 intro parts
 induction parts with
 |nil =>
  intro vs i l h hx;simp only[zM2,Option.some.injEq] at h;subst h;cases vs with
  |nil=>exact⟨rfl,rfl,fun _ _ _ hm=>(by cases hm)⟩
  |cons v r=>exact hx.elim
 |cons q r ih =>
  intro vs i l h hx;obtain⟨k,A⟩:=q;cases vs with
  |nil=>exact hx.elim
  |cons v vs =>
   obtain⟨hx1,hx2⟩:=hx;have key:∀ o,(bif Nat.beq i k then (match zM2 t (i+1) r with|some l=>some (o::l)|none=>none) else none)=some l→v=yH9 G o→(∀ k τ p,o=some (k,τ,p)→zE τ p) →
     v::vs=l.map (yH9 G)∧((k,A)::r).map (·.1)=List.range' i (v::vs).length∧∀ k τ p,some (k,τ,p)∈l→zE τ p:=by
    intro o h hv hp;cases hb:Nat.beq i k with
    |false=>simp[hb] at h
    |true =>
     have:=Nat.eq_of_beq_eq_true hb;subst this;simp only[hb,cond_true] at h;split at h
     ·rename_i l' hl;simp only[Option.some.injEq] at h;subst h;obtain⟨e1,e2,e3⟩:=ih hl hx2;refine⟨by simp[hv,← e1],by simp[List.range'_succ,e2],fun k τ p hm=>?_⟩;rcases List.mem_cons.1 hm with hm|hm
      ·exact hp k τ p hm.symm
      ·exact e3 k τ p hm
     ·cases h
   cases A with
   |nilp=>simp only[zM2] at h;exact key none h hx1 (fun _ _ _ e=>(by cases e))
   |ref s τ p=>simp only[zM2] at h;exact key (some (s,τ,p)) h hx1.2 (fun _ _ _ e=>by simp only[Option.some.injEq,Prod.mk.injEq] at e;obtain⟨rfl,rfl,rfl⟩:=e;exact hx1.1)
   |_=>simp[zM2] at h
def Gh.newCold (G:Gh)(b:Nat):Gh:={ χ:=fun b' o=>if b'=b then 0 else G.χ b' o,β:=G.β,γ:=G.γ }
theorem zY1 (x:Obj)(d:Nat):Ext (·=zA9 d) (·=zA9 d) G w (G.newCold w.heap.size) (w.alloc x):=by
 refine⟨fun b o hb h=>?_,fun b hb _=>?_,by simp,fun s _=>rfl,fun T hT=>rfl,fun _ h=>h⟩
 ·exact⟨by simp only[Gh.newCold];grind,zV4 hb x⟩
 ·exact⟨Below.heap_alloc w x b hb,fun o=>by simp only[Gh.newCold];rw[if_neg (by omega)]⟩
theorem xM5 (hty:zM6 P c.tys=true){T len d:Nat}{ps:Array (Nat×Operand)}{xs:List AVal}{p:List Prop}{A:AVal}{o:Oper}(ho:o.op=.buildSlice T len ps)(hfr:Frame0 χ0 w0 G.χ w)
  (hx:zH8 (zA G w a.tmps none) xs ((ps.toList.map (·.2)).map a.eval)) (h:zU9 c T len (zD4 ps.toList xs)=some (p,A)) :
  xS9 A=true∧∃ v w' G',(execOp a.eval o).run P w=.ok (.value v) w'∧(Ext (·=zD8 d) (·=zD8 d) G w G' w'∨Ext (·=zA9 d) (·=zA9 d) G w G' w')∧Frame0 χ0 w0 G'.χ w'∧∀ tm,zA G' w' tm (some d) A v:=by
 unfold zU9 at h;split at h
 ·rename_i t hTy;split at h
  ·rename_i l hl;cases hc:(c.is T (.sl (.ptr t))&&(Nat.beq l.length len&&(Nat.blt 0 len&&Nat.ble len 16777216))) with
   |false=>simp[hc] at h
   |true =>
    simp only[hc,cond_true,Option.some.injEq,Prod.mk.injEq] at h;obtain⟨rfl,rfl⟩:=h;simp only[Bool.and_eq_true] at hc;obtain⟨hi,h2,h3,h4⟩:=hc;have h2:=Nat.eq_of_beq_eq_true h2;have h3:0<len:=Nat.le_of_ble_eq_true h3;have h4:len≤16777216:=Nat.le_of_ble_eq_true h4;obtain⟨e,k1,k2⟩:=zF8 (zB4 hty hi);obtain⟨⟨ie,z,hie,hse,_,hz,hzc,_⟩,_⟩:=zG7 k2;have hse:ie.size=1:=hse;have hlx:xs.length=ps.toList.length:=by rw[zE6 hx];simp
    obtain⟨e1,e2⟩:=zO7 hlx;have hx':zH8 (zA G w a.tmps none) ((zD4 ps.toList xs).map (·.2)) ((ps.toList.map (·.2)).map a.eval):=by rw[e1];exact hx
    obtain⟨q1,q2,q3⟩:=xD9 hl hx';have hlen:(l.map (yH9 G)).length=len:=by rw[List.length_map,h2]
    obtain⟨cells,f1,f2,f3⟩:=wG (l.map (yH9 G)) 0 ((Array.range (len*1)).map (z.cells[· % z.cells.size]!)) (fun v hv=>by obtain⟨o,_,rfl⟩:=List.mem_map.1 hv;cases o<;>rfl) (by simp[hlen]);have hparts:(ps.map fun (i,x)=>(i,a.eval x)).toList=List.zip (List.range' 0 (l.map (yH9 G)).length) (l.map (yH9 G)):=by
     rw[← q1,← q2,e2];simp[yL4]
    have hrun:(Instr.buildSlice T len (ps.map fun (i,x)=>(i,a.eval x))).run P w=.ok (.slice (some ⟨w.heap.size,0,none⟩) len len) (w.alloc (.cells cells e)):=by
     refine run_buildSlice w T e len _ cells ie z k1 hie hz (by rw[hse];omega) (by rw[hse];omega) ?_;rw[hparts,hse];exact f1
    refine⟨rfl,.slice (some ⟨w.heap.size,0,none⟩) len len,w.alloc (.cells cells e),G.newCold w.heap.size,?_,.inr (zY1 _ d),zH hfr _ _ (fun b o hb=>by simp only[Gh.newCold];rw[if_neg (by omega)]),fun tm=>?_⟩
    ·unfold execOp;simp_all
    ·refine⟨w.heap.size,0,len,by rw[h2];rfl,fun j v hv=>?_,q3⟩;have hv':(l.map (yH9 G))[j]?=some v:=hv;have hj:j<len:=by rw[← hlen];exact (List.getElem?_eq_some_iff.1 hv').1
     refine⟨?_,by simp[Gh.newCold]⟩;have:=f3 j;rw[if_pos (by omega),Nat.sub_zero,hv'] at this;simp only[World.cell?,zH5,Nat.zero_add];simpa using this
  ·cases h
 ·cases h
theorem yY5 {T d:Nat}{x:Operand}{A':AVal}{p:List Prop}{A:AVal}{o:Oper}(ho:o.op=.box T x)(hfr:Frame0 χ0 w0 G.χ w)
  (hx:zA G w a.tmps none A' (a.eval x)) (h:yS1 c T A'=some (p,A)) :
  xS9 A=true∧∃ v w' G',(execOp a.eval o).run P w=.ok (.value v) w'∧(Ext (·=zD8 d) (·=zD8 d) G w G' w'∨Ext (·=zA9 d) (·=zA9 d) G w G' w')∧Frame0 χ0 w0 G'.χ w'∧∀ tm,zA G' w' tm (some d) A v:=by
 unfold yS1 at h;split at h
 ·rename_i s τ q;split at h
  ·rename_i t hT;cases hb:c.is T (.ptr t) with
   |false=>simp[hb] at h
   |true =>
    simp only[hb,cond_true,Option.some.injEq,Prod.mk.injEq] at h;obtain⟨rfl,rfl⟩:=h;simp only[zA] at hx;refine⟨rfl,.pointer (some ⟨w.heap.size,0,none⟩),w.alloc (.cells #[a.eval x] T),G.newCold w.heap.size,?_,.inr (zY1 _ d),zH hfr _ _ (fun b o hb=>by simp only[Gh.newCold];rw[if_neg (by omega)]),fun tm=>?_⟩
    ·have hc:(a.eval x).cells=#[a.eval x]:=by rw[hx.2];rfl
     simp[execOp,ho,Instr.box,newVar,newRow,hc]
    ·refine⟨w.heap.size,0,1,rfl,fun j v hv=>?_,fun k τ' p' hm=>?_⟩
     ·cases j with
      |zero =>
       simp only[List.map_cons,List.map_nil,List.getElem?_cons_zero,Option.some.injEq] at hv;subst hv;refine⟨?_,by simp[Gh.newCold]⟩;simp only[World.cell?,zH5];simp[hx.2,yH9,Gh.newCold]
      |succ j=>simp at hv
     ·simp only[List.mem_singleton,Option.some.injEq,Prod.mk.injEq] at hm;obtain⟨rfl,rfl,rfl⟩:=hm;exact hx.1
  ·cases h
 ·split at h
  ·rename_i t hT;cases hb:c.is T (.ptr t) with
   |false=>simp[hb] at h
   |true =>
    simp only[hb,cond_true,Option.some.injEq,Prod.mk.injEq] at h;obtain⟨rfl,rfl⟩:=h;simp only[zA] at hx;refine⟨rfl,.pointer (some ⟨w.heap.size,0,none⟩),w.alloc (.cells #[a.eval x] T),G.newCold w.heap.size,?_,.inr (zY1 _ d),zH hfr _ _ (fun b o hb=>by simp only[Gh.newCold];rw[if_neg (by omega)]),fun tm=>?_⟩
    ·have hc:(a.eval x).cells=#[a.eval x]:=by rw[hx];rfl
     simp[execOp,ho,Instr.box,newVar,newRow,hc]
    ·refine⟨w.heap.size,0,1,rfl,fun j v hv=>?_,fun k τ' p' hm=>(by simp at hm)⟩;cases j with
     |zero =>
      simp only[List.map_cons,List.map_nil,List.getElem?_cons_zero,Option.some.injEq] at hv;subst hv;refine⟨?_,by simp[Gh.newCold]⟩;simp only[World.cell?,zH5];simp[hx,yH9]
     |succ j=>simp at hv
  ·cases h
 ·cases h
theorem xV2 {T e:Nat}:∀ {l:List (Nat×Nat×Nat×Nat)},xL0 T l=some e→∃ q,(T,e,q)∈l:=by
 intro l
 induction l with
 |nil=>intro h;cases h
 |cons q r ih =>
  obtain⟨T',e',q⟩:=q;intro h;simp only[xL0] at h;cases hb:Nat.beq T' T with
  |true =>
   have:=Nat.eq_of_beq_eq_true hb;subst this;rw[hb] at h;injection h with h
   subst h;exact⟨q,List.mem_cons_self ..⟩
  |false =>
   rw[hb] at h;obtain⟨q',hq⟩:=ih h;exact⟨q',List.mem_cons_of_mem _ hq⟩
theorem xV3 (hbt:∀ q∈c.blds,∃ i z,P.info? q.1=some i∧i.zero=some z∧z.cells=#[.pointer none,.slice none 0 0]){T e d:Nat}(hbl:xL0 T c.blds=some e){o:Oper}(ho:o.op=.alloc T)(hfr:Frame0 χ0 w0 G.χ w) :
  xS9 (.bld T e d [])=true∧∃ v w' G',(execOp a.eval o).run P w=.ok (.value v) w'∧(Ext (·=zD8 d) (·=zD8 d) G w G' w'∨Ext (·=zA9 d) (·=zA9 d) G w G' w')∧Frame0 χ0 w0 G'.χ w'∧∀ tm,zA G' w' tm (some d) (.bld T e d []) v:=by
 obtain⟨q,hq⟩:=xV2 hbl;obtain⟨i,z,hi,hz,hzc⟩:=hbt _ hq;refine⟨rfl,.pointer (some ⟨w.heap.size,0,none⟩),w.alloc (.cells #[.pointer none,.slice none 0 0] T),G.newBox w.heap.size d,?_,.inl (zQ1 _ d),zH hfr _ _ (fun b o hb=>by simp only[Gh.newBox];rw[if_neg (by omega)]),fun tm=>?_⟩
 ·unfold execOp;simp[ho,Instr.alloc,zeroValue,typeInfo,newVar,newRow,hi,hz,hzc]
 ·refine⟨fun _=>by simp[Gh.newBox],.pointer none,.slice none 0 0,?_,.inl rfl,.inl ⟨rfl,rfl⟩,fun g hg=>(by cases hg),fun o=>(by simp[Gh.newBox])⟩;simp only[Gh.newBox];exact zH5 w _
set_option maxHeartbeats 1000000 in
theorem xM6 (hty:zM6 P c.tys=true)(hbt:∀ q∈c.blds,∃ i z,P.info? q.1=some i∧i.zero=some z∧z.cells=#[.pointer none,.slice none 0 0])(hft:yX P c.fts=true)(o:Oper){d:Nat}{xs ks:List AVal}{p:List Prop}{A:AVal}(hm:yA2 o.op=true)(hfr:Frame0 χ0 w0 G.χ w)
  (hx:zH8 (zA G w a.tmps none) xs ((zE7 o.op).map a.eval)) (h:zZ3 c d o.op xs ks=some (p,A)) (hp:∀ q∈p,q) :
  xS9 A=true∧∃ v w' G',(execOp a.eval o).run P w=.ok (.value v) w'∧(Ext (·=zD8 d) (·=zD8 d) G w G' w'∨Ext (·=zA9 d) (·=zA9 d) G w G' w')∧Frame0 χ0 w0 G'.χ w'∧∀ tm,zA G' w' tm (some d) A v:=by
 obtain⟨dst,op,ty,pos,after,guard⟩:=o;simp only at hm hx h ⊢;cases op with
 |box T x =>
  match xs,hx with
  |[A'],hx =>
   simp only[zZ3] at h;cases hbp:yS1 c T A' with
   |some r =>
    simp only[hbp,Option.some.injEq] at h;subst h;exact yY5 rfl hfr hx.1 hbp
   |none =>
   simp only[hbp] at h;cases hc:(c.is T (c.ty T)&&AVal.fits (c.ty T) A') with
   |false=>grind
   |true =>
    simp[hc] at h;obtain⟨rfl,rfl⟩:=h;simp  at hc;have hT:=zB4 hty hc.1;obtain⟨us,h1,h2⟩:=zT8 hx.1 hc.2 (zD0 hT);have hcel:=zK7 h2 (zV2 h1);have hcel':(a.eval x).cells=us.toArray:=by grind
    refine⟨rfl,.pointer (some ⟨w.heap.size,0,none⟩),w.alloc (.cells us.toArray T),G.newBox w.heap.size d,?_,.inl (zQ1 _ d),zH hfr _ _ (fun b o hb=>by simp only[Gh.newBox];rw[if_neg (by omega)]),fun tm=>xU8 h1 ⟨zJ hT,zD0 hT⟩⟩;simp_all [execOp,Instr.box,newVar,newRow]
 |alloc T =>
  match xs,hx with
  |[],hx =>
   simp only[zZ3] at h;cases hfn:c.fts.any (Nat.beq T) with
   |true =>
    simp[hfn] at h;obtain⟨rfl,rfl⟩:=h;obtain⟨i,_,z,u,hi,_,_,_,hz,hzc⟩:=xC9 hft hfn;refine⟨rfl,.pointer (some ⟨w.heap.size,0,none⟩),w.alloc (.cells #[u] T),G.newBox w.heap.size d,?_,.inl (zQ1 _ d),zH hfr _ _ (fun b o hb=>by simp only[Gh.newBox];rw[if_neg (by omega)]),fun tm=>?_⟩
    ·simp_all [execOp,Instr.alloc,zeroValue,typeInfo,newVar,newRow]
    ·refine⟨by simp[Gh.newBox],u,T,?_,fun o=>by simp[Gh.newBox]⟩;simp only[Gh.newBox];exact zH5 w _
   |false =>
   simp only[hfn,cond_false] at h;cases hbl:xL0 T c.blds with
   |some e =>
    simp only[hbl,Option.some.injEq,Prod.mk.injEq] at h;obtain⟨rfl,rfl⟩:=h;exact xV3 hbt hbl rfl hfr
   |none =>
   simp[hbl] at h;cases hc:(c.is T (c.ty T)&&(c.ty T).noPtr) with
   |false=>grind
   |true =>
    simp[hc] at h;obtain⟨rfl,rfl⟩:=h;simp  at hc;have hT:=zB4 hty hc.1;obtain⟨⟨i,z,hi,hs,_,hz,hzc,_⟩,_⟩:=zG7 hT;have h1:zA8 G w (c.ty T) (zW5 (c.ty T)) (zC (c.ty T)):=xJ4 hc.2 (zJ hT);have hzc':z.cells=(zC (c.ty T)).toArray:=by grind
    refine⟨rfl,.pointer (some ⟨w.heap.size,0,none⟩),w.alloc (.cells (zC (c.ty T)).toArray T),G.newBox w.heap.size d,?_,.inl (zQ1 _ d),zH hfr _ _ (fun b o hb=>by simp only[Gh.newBox];rw[if_neg (by omega)]),fun tm=>xU8 h1 ⟨zJ hT,zD0 hT⟩⟩;simp_all [execOp,Instr.alloc,zeroValue,typeInfo,newVar,newRow]
 |buildSlice T len ps =>
  simp only[zE7] at hx;simp only[zZ3] at h;cases hnil:zZ2 c T len d (zD4 ps.toList xs) with
  |some r =>
   simp[hnil] at h;subst h;exact xV1 hty rfl hfr hx hnil
  |none =>
  simp only[hnil] at h;cases hptr:zU9 c T len (zD4 ps.toList xs) with
  |some r =>
   simp[hptr] at h;subst h;exact xM5 hty rfl hfr hx hptr
  |none =>
  simp only[hptr] at h;unfold yJ at h;split at h
  ·rename_i t hTy;have hT:=zI hty T (by grind);rw[hTy] at hT;cases hc:((zD4 ps.toList xs).all (fun q=>Nat.blt q.1 len)&&Nat.ble (len*t.size) 16777216&&Nat.blt 0 t.size&&t.noPtr) with
   |false=>grind
   |true =>
    simp[hc,cond_true] at h;simp only[Bool.and_eq_true] at hc;obtain⟨⟨⟨hc1,hc2⟩,hc3⟩,hc4⟩:=hc;have hc2:len*t.size≤16777216:=Nat.le_of_ble_eq_true hc2;have hc3:0<t.size:=Nat.le_of_ble_eq_true hc3;split at h
    ·rename_i l hl;obtain⟨rfl,rfl⟩:=h;obtain⟨e,h1,h2⟩:=zF8 hT;obtain⟨⟨ie,z,hie,hse,_,hz,hzc,_⟩,_⟩:=zG7 h2;have hlx:xs.length=ps.toList.length:=by rw[zE6 hx];simp
     obtain⟨e1,e2⟩:=zO7 hlx;have hparts:(ps.map fun (i,x)=>(i,a.eval x)).toList=List.zip ((zD4 ps.toList xs).map (·.1)) ((ps.toList.map (·.2)).map a.eval):=by
      simp_all [yL4]
     have hx':zH8 (zA G w a.tmps none) ((zD4 ps.toList xs).map (·.2)) ((ps.toList.map (·.2)).map a.eval):=by grind
     have hcells:zM5 (zB6 G.χ w t) (List.replicate len t.dflt) ((Array.range (len*t.size)).map (fun i=>(zC t).toArray[i % (zC t).toArray.size]!)).toList:=by
      rw[yQ1 _ _ _ zM9 hc3];grind [zL2,zV3]
     obtain⟨cells',h5,h6,h7⟩:=yX8 (G:=G) (w:=w) (tm:=a.tmps) (zD0 h2) (fun q hq=>by simp;exact Nat.le_of_ble_eq_true (List.all_eq_true.1 hc1 q hq)) hx' rfl hcells hl;have hlen:l.length=len:=by grind
     have hrun:(Instr.buildSlice T len (ps.map fun (i,x)=>(i,a.eval x))).run P w=.ok (.slice (some ⟨w.heap.size,0,none⟩) len len) (w.alloc (.cells cells' e)):=by
      by_cases h0:len*t.size=0
      ·have hl0:len=0:=by grind [Nat.mul_eq_zero]
       subst hl0;have hps:(ps.map fun (i,x)=>(i,a.eval x)).toList=[]:=by
        rw[hparts];cases hq:zD4 ps.toList xs<;>simp_all
       rw[← hparts,hps] at h5;simp[Instr.fill] at h5;subst h5;have hps':(ps.map fun (i,x)=>(i,a.eval x))=#[]:=by grind
       rw[hps'];simp[Instr.buildSlice,run_underlying h1,sizeOf,typeInfo,hie,Instr.fill,newRow,show Array.range 0=#[] from rfl]
      grind [run_buildSlice]
     refine⟨rfl,.slice (some ⟨w.heap.size,0,none⟩) len len,w.alloc (.cells cells' e),G.newArr w.heap.size d,?_,.inr (zQ2 _ d),zH hfr _ _ (fun b o hb=>by simp only[Gh.newArr];rw[if_neg (by omega)]),fun tm=>?_⟩
     ·simp_all [execOp]
     ·have hul:=zD1 (k:=t.size) (fun _ _ h=>zA1 h) h6;have hle:len≤len*t.size:=Nat.le_mul_of_pos_right _ hc3;have:=xU9 (G:=G) (w:=w) (tm:=tm) (rest:=[]) (d:=d) (e:=e) (cap:=len) h6 ⟨zJ h2,zD0 h2⟩ (by grind) (by omega) (by simp only[maxLen];omega);simp_all
    grind
  grind
 |makeSlice T x y =>
  match xs,hx with
  |[A',B'],hx =>
   simp only[zZ3] at h;unfold xI5 at h;split at h
   ·rename_i t k1 n1 k2 m1 hTy;have hT:=zI hty T (by grind);rw[hTy] at hT;cases hc:(Nat.blt 0 t.size&&t.noPtr) with
    |false=>grind
    |true =>
     simp[hc,cond_true,Option.some.injEq,Prod.mk.injEq] at h;obtain⟨rfl,rfl⟩:=h;simp only[Bool.and_eq_true] at hc;have hc3:0<t.size:=Nat.le_of_ble_eq_true hc.1;obtain⟨e,h1,h2⟩:=zF8 hT;obtain⟨⟨ie,z,hie,hse,hby,hz,hzc,_⟩,_⟩:=zG7 h2;have hzc':z.cells=(zC t).toArray:=by grind
     have hb:=hp _ (List.mem_singleton.2 rfl);have hx1:=hx.1;have hx2:=hx.2.1;have hv1:=VRep_int.1 hx1;have hv2:=VRep_int.1 hx2;have hrun:=yT8 (w:=w) h1 hie hz hse hby hzc' hc3 n1 m1 hb k1 k2;refine⟨rfl,_,_,G.newArr w.heap.size d,by simp only[execOp,hv1,hv2,Sem.run_bind,hrun];rfl,.inr (zQ2 _ d),zH hfr _ _ (fun b o hb=>by simp only[Gh.newArr];rw[if_neg (by omega)]),fun tm=>?_⟩;exact yT9 hc.2 ⟨zJ h2,zD0 h2⟩ n1 m1 hb
   grind
 |makeMap T r =>
  cases r with
  |some r=>grind [zZ3]
  |none =>
   match xs,hx with
   |[],hx =>
    simp only[zZ3] at h;unfold wK2 at h;split at h
    ·rename_i k e hT;obtain⟨rfl,rfl⟩:=h;refine⟨rfl,.map (some w.heap.size),w.alloc (.map #[] 0),G.newArr w.heap.size d,?_,.inr (zQ2 _ d),zH hfr _ _ (fun b o hb=>by simp only[Gh.newArr];rw[if_neg (by omega)]),fun tm=>?_⟩
     ·simp[execOp,Instr.makeMap]
     ·refine .inr ⟨rfl,k,e,[],rfl,HEq.rfl,#[],0,by simp[Gh.newArr],?_,rfl,fun o=>by simp[Gh.newArr]⟩;simp only[Gh.newArr];exact zH5 w _
    grind
 |_=>grind [yA2]
end Go.Am
namespace Go.Am
open Go Go.RowKit
variable {gtab:GlobTab}{P:Program}{c:Ctx}{G:Gh}{w:World}{tm:Array Value}{n:Nat}{χ0:Nat→Nat→Nat}{w0:World}{S:St}{a:Act}
theorem yB2 {u:St}:∀ {s:Nat},(∀ e∈u,e.1≠zA4)→St.has s u=true→(u++S).get s=u.get s:=by
 induction u<;>grind [St.has,St.get,Nat.beq]
theorem zK8 {u:St}:∀ {s:Nat},(∀ e∈u,e.1≠zA4)→St.has s u=false→(u++S).get s=S.get s:=by
 induction u with
 |nil=>grind
 |cons e r ih =>
  intro s hc h;obtain⟨k,A⟩:=e;simp only[St.has,List.any_cons,Bool.or_eq_false_iff] at h;simp[St.get,h.1];have hk2:Nat.beq k zA4=false:=by
   cases h2:Nat.beq k zA4<;>simp_all
  simp[hk2];exact ih (fun e he=>hc e (by grind)) h.2
theorem xE {u:St}:∀ {s:Nat},St.has s u=true→(∀ e∈u,e.1≠zA4)→(s,u.get s)∈u:=by
 induction u<;>grind [St.has,St.get,Nat.beq,Nat.eq_of_beq_eq_true]
theorem xV4 {p:AVal→Bool}(hj:p .junk=true):∀ {S:St}{s:Nat},S.all (fun e=>p e.2)=true→p (S.get s)=true:=by
 intro S
 induction S<;>grind [St.get]
theorem zD6 {d s:Nat}{v:Value}(h:d<a.tmps.size):(a.put (some d) v).tmps.getD s undef=if s=d then v else a.tmps.getD s undef:=by
 simp[Act.put,Array.getElem?_setIfInBounds];by_cases e:s=d
 ·grind
 ·rw[if_neg (fun e'=>e e'.symm),if_neg e]
theorem zJ8 {v:Value}:(a.put none v)=a:=rfl
theorem wG0 {dst:Option Nat}{v:Value}:(a.put dst v).tmps.size=a.tmps.size:=by cases dst<;>simp[Act.put]
theorem put_defers {dst:Option Nat}{v:Value}:(a.put dst v).defers=a.defers:=by cases dst<;>rfl
theorem zD7 {u:St}{dst:Option Nat}{v:Value}{X Y:Nat→Prop}{G':Gh}{w':World}(hR:Rel n χ0 w0 S a w G)(_:n≤vNo)(hu:∀ e∈u,e.1<zA4)(hdn:∀ d,dst=some d→d<n)(hd:∀ d,dst=some d→St.has d u=true)
  (hx:Ext X Y G w G' w') (h0:¬ X 0) (hfr:Frame0 χ0 w0 G'.χ w') (hold:∀ s,St.has s u=false→¬ (S.get s).names X Y (some s))
  (hhung:∀ s d,dst=some d→St.has s u=false→(S.get s).hung d=false)
  (hnew:∀ s,St.has s u=true→zA G' w' (a.put dst v).tmps (some s) (u.get s) ((a.put dst v).tmps.getD s undef)):Rel n χ0 w0 (u++S) (a.put dst v) w' G':=by
 have hcut:∀ e∈u,e.1≠zA4:=fun e he=>by grind
 refine⟨by rw[wG0];exact hR.len,by rw[put_defers];exact hR.defers,fun s=>?_,hfr,zI5 hx.prot hR.glob⟩;cases hs:St.has s u with
 |true=>grind [yB2]
 |false =>
  rw[zK8 hcut hs];have h1:=zV hx h0 a.tmps (hold s hs) (hR.reps s);have htm:∀ k,(k=s∨(S.get s).hung k=true)→(a.put dst v).tmps.getD k undef=a.tmps.getD k undef:=by
   intro k hk;cases dst with
   |none=>rfl
   |some d =>
    have hdn:d<a.tmps.size:=by
     have:=hdn d rfl;rw[hR.len];exact this
    rw[zD6 hdn,if_neg];rcases hk with rfl|hk
    ·grind
    ·grind
  grind [zK4]
theorem zR7 {d:Nat}{A:AVal}{v:Value}(hR:Rel n χ0 w0 S a w G)(hn:n≤vNo)(hd:d<n)(hhung:∀ s,(S.get s).hung d=false)(hA:A.hung d=false)
  (h:zA G w a.tmps none A v):Rel n χ0 w0 ([(d,A)]++S) (a.put (some d) v) w G:=by
 have hvc:vNo<zA4:=by decide
 refine zD7 (u:=[(d,A)]) (X:=fun _=>False) (Y:=fun _=>False) hR hn (fun e he=>by grind) (fun d' e=>by grind) (fun d' e=>by simp_all [St.has]) ⟨fun _ _ _ h=>⟨h,rfl⟩,fun _ _ _=>⟨rfl,fun _=>rfl⟩,Nat.le_refl _,fun _ _=>rfl,fun _ _=>rfl,fun _ h=>h⟩ id hR.frame
  (fun s _=>?_) (fun s d' e _=>by grind) (fun s hs=>?_)
 ·have key:∀ (A:AVal) (s:Option Nat),¬ A.names (fun _=>False) (fun _=>False) s:=by
   intro A
   induction A with
   |opt _ _ _ A ih=>grind [AVal.names]
   |box τ a ih=>intro s;cases s<;>simp[AVal.names]<;>exact ih none
   |may b τ a ih=>intro s;cases s<;>simp[AVal.names]<;>exact ih none
   |cons a b iha ihb=>grind [AVal.names]
   |agg f a ih=>grind [AVal.names]
   |tup a ih=>grind [AVal.names]
   |fn f a ih=>grind [AVal.names]
   |raw=>intro s;cases s<;>simp[AVal.names]
   |bld _ _ _ _=>intro s;cases s<;>simp[AVal.names]
   |_=>grind [AVal.names]
  grind
 ·have e:d=s:=by simp_all [St.has]
  subst e;have hdn:d<a.tmps.size:=by rw[hR.len];grind
  have hg:St.get [(d,A)] d=A:=by simp[St.get]
  rw[hg,zD6 hdn,if_pos rfl];refine zK4 (fun k hk=>?_) (zL6 h);rw[zD6 hdn,if_neg]
  grind
end Go.Am
namespace Go.Am
open Go Go.RowKit
variable {gtab:GlobTab}{P:Program}{c:Ctx}{G:Gh}{w:World}{tm:Array Value}{n:Nat}{χ0:Nat→Nat→Nat}{w0:World}{S:St}{a:Act}
def SpecOk [GlobTab] (P:Program)(f:Nat)(sp:Spec):Prop:=
 (∃ fn,P.funcs[f]?=some fn∧fn.body.isSome=true∧fn.name≠"runtime.NumGoroutine") ∧
 ∀ args co,sp args=some co→(∀ q∈co.ok,q)→∀ (G:Gh) (w:World) (vals:List Value),vals.length=args.length→GlobOk G.χ w →
  (∀ (i:Nat) A v,args[i]?=some A→vals[i]?=some v→ArgRep G w i A v) →
  Calls P f vals.toArray w fun e w'=>∃ v G',e=.returned v∧Frame0 G.χ w G'.χ w'∧zA G' w' #[] none co.res v ∧
   (∀ (i:Nat) k A u,(i,k)∈co.outs→args[i]?=some A→vals[i]?=some u →
    (∀ τ k0,A=.box τ k0→zA G' w' #[] (some i) (.box τ k) u∧G'.β i=G.β i)∧(∀ one ps τ k0,A=.lbox one ps τ k0→zN3 G' w' (hid i) τ k∧G'.β (hid i)=G.β (hid i))∧(zF7 A=false→yC4 A=false→zA G' w' #[] none k u))∧∀ k B,(k,B)∈co.nb→zA G' w' #[] (some k) B undef
theorem yL7 {i:Nat}{A:AVal}{v:Value}(hA:yC4 A=false)(h:zA G w #[] (some i) A v):ArgRep G w i A v:=by
 cases A<;>first|exact h | (simp[yC4] at hA)
theorem xV5 (Y k:AVal):yC4 (zD3 Y k)=false:=by
 unfold zD3
 repeat' (first|rfl|split | (simp only[Bool.cond_eq_ite];split))
def xV6 [GlobTab] (P:Program)(f:Nat)(e:List AVal→Option (List Prop×AVal)):Prop:=
 ∀ args p A,e args=some (p,A)→(∀ q∈p,q)→∀ (G:Gh) (w:World) (tm:Array Value) (vals:List Value),zH8 (zA G w tm none) args vals →
  ∃ v,(callFunc f vals.toArray).run P w=.ok (.value v) w∧zA G w tm none A v
theorem yL8 {G':Gh}{w':World}{tm':Array Value}(hprot:∀ b o,b<w.heap.size→G.χ b o=0→G'.χ b o=0∧w'.cell? ⟨b,o,none⟩=w.cell? ⟨b,o,none⟩) :
  ∀ {cs:AVal}{v:Value},cs.pureL=true→zA G w tm none cs v→zA G' w' tm' none cs v:=by
 intro cs
 induction cs with
 |nl=>grind [zA]
 |cons a b _ ihb =>
  intro v hp h;cases a with
  |val τ y=>grind [AVal.pureL,zA,zD]
  |nil=>grind [AVal.pureL,zA]
  |fn f c =>
   cases c<;>grind [AVal.pureL,zA]
  |_=>simp[AVal.pureL] at hp
 |_=>intro v hp;simp[AVal.pureL] at hp
def zH1 (β:Nat→Nat)(b:Nat):List AVal→Nat→Option Nat
 |[],_=>none
 |.ref s _ []::r,i=>if β s=b then some i else zH1 β b r (i+1)
 |_::r,i=>zH1 β b r (i+1)
theorem yF4 {β:Nat→Nat}{b:Nat}:∀ {ys:List AVal}{i j:Nat},zH1 β b ys i=some j→∃ s τ,i≤j∧ys[j-i]?=some (.ref s τ [])∧β s=b:=by
 intro ys
 induction ys with
 |nil=>grind [zH1]
 |cons A r ih =>
  intro i j h;have rest:zH1 β b r (i+1)=some j→∃ s τ,i≤j∧(A::r)[j-i]?=some (.ref s τ [])∧β s=b:=by
   grind
  cases A with
  |ref s τ p =>
   cases p<;>grind [zH1]
  |_=>exact rest h
theorem xM7 {β:Nat→Nat}{s:Nat}{τ:Ty}:∀ {ys:List AVal}{i k:Nat},ys[k]?=some (.ref s τ [])→(∀ j s' τ',j<k→ys[j]?=some (.ref s' τ' [])→β s'≠β s)→zH1 β (β s) ys i=some (i+k):=by
 intro ys
 induction ys with
 |nil=>grind
 |cons A r ih =>
  intro i k h hne;cases k with
  |zero =>
   grind [List.getElem?_cons_zero,Option.some.injEq,zH1]
  |succ k =>
   have hr:=ih (i:=i+1) (k:=k) (by grind) (fun j s' τ' hj hs=>hne (j+1) s' τ' (by omega) (by grind));rw[show i+(k+1)=i+1+k from by omega,← hr];cases A with
   |ref s' τ' p =>
    cases p with
    |nil=>simp only[zH1];rw[if_neg (hne 0 s' τ' (by omega) (by simp))]
    |cons _ _=>grind [zH1]
   |_=>simp only[zH1]
theorem xE0:∀ {ys:List AVal}{i j s s':Nat}{τ τ':Ty},zM3 ys=true→i<j→ys[i]?=some (.ref s τ [])→ys[j]?=some (.ref s' τ' [])→s≠s':=by
 intro ys
 induction ys with
 |nil=>grind
 |cons A r ih =>
  intro i j s s' τ τ' ho hij hi hj;have hmem:∀ {k:Nat}{l:List AVal},l[k]?=some (.ref s' τ' [])→s'∈yO2 l:=by
   intro k l
   induction l generalizing k with
   |nil=>grind
   |cons B l ihl =>
    intro h;cases k with
    |zero=>grind [List.getElem?_cons_zero,Option.some.injEq,yO2]
    |succ k=>have:=ihl (k:=k) (by grind);cases B<;>simp[yO2,this]
  have hrest:zM3 r=true:=by cases A<;>simp_all [zM3]
  cases j with
  |zero=>omega
  |succ j =>
   cases i with
   |zero =>
    simp only[List.getElem?_cons_zero,Option.some.injEq] at hi;subst hi;simp only[zM3,Bool.and_eq_true,Bool.not_eq_true'] at ho;have hm:=hmem (k:=j) (l:=r) (by simpa using hj);intro e;subst e;have:=ho.1;rw[List.any_eq_false] at this;exact this s hm (by simp)
   |succ i=>exact ih (i:=i) (j:=j) hrest (by omega) (by simpa using hi) (by simpa using hj)
def Gh.callee (G:Gh)(ys:List AVal):Gh:=
 {χ:=fun b o=>if G.χ b o=0 then 0 else match zH1 G.β b ys 0 with|some i=>zD8 i|none=>1,
  β:=fun i=>match ys[i]? with|some (.ref s _ _)=>G.β s|_=>0,
  γ:=G.γ }
def Gh.back (G G':Gh)(b0:Nat)(D:Option Nat):Gh:=
 {χ:=fun b o=>if b<b0 then G.χ b o else match D with
   |some d=>if G'.χ b o=0 then 0 else if G'.χ b o=zA9 0 then zA9 d else if G'.χ b o=zA9 1 then zA9 (100000+d) else if G'.χ b o=zA9 2 then zA9 (200000+d) else if G'.χ b o=zA9 3 then zA9 (300000+d) else 2
   |none=>if G'.χ b o=0 then 0 else 2,
  β:=G.β,
  γ:=fun T=>match D with
   |some d=>if T=d then G'.γ 0 else if T=100000+d then G'.γ 1 else if T=200000+d then G'.γ 2 else if T=300000+d then G'.γ 3 else G.γ T
   |none=>G.γ T }
theorem xM8 {Y k:AVal}{i:Nat}{v kv:Value}{ys:List AVal}(hy:ys[i]?=some Y)(hY:zA G w tm none Y v)(hk:∀ s,zE2 Y=some s→zA G w tm (some s) k kv)
  (hfind:∀ s τ,Y=.ref s τ []→zH1 G.β (G.β s) ys 0=some i):zA (G.callee ys) w #[] (some i) (zD3 Y k) v:=by
 have hprot:∀ b o,b<w.heap.size→G.χ b o=0→(G.callee ys).χ b o=0∧w.cell? ⟨b,o,none⟩=w.cell? ⟨b,o,none⟩:=fun b o _ h=>⟨by grind [Gh.callee],rfl⟩;cases Y with
 |val τ x=>grind [zD3,zA,zD]
 |nil=>grind [zD3,zA]
 |nilp=>simpa only[zD3,zA] using hY
 |own t l T m =>
  simp only[zD3];cases m with
  |true=>simp[zA]
  |false=>exact zD hprot ((zC6 rfl).2 (zE1 hY))
 |agg f b =>
  simp only[zD3];split
  ·rename_i x hx;exact zD hprot (zK5 hx rfl hY)
  grind [zA]
 |fn f cs =>
  grind [zD3,zA,yL8]
 |ref s τ p =>
  cases p with
  |nil =>
   cases k with
   |box τ' k =>
    simp only[zD3];cases hb:(Ty.beq τ' τ&&Nat.blt s vNo) with
    |false=>simp[zA]
    |true =>
     simp only[Bool.and_eq_true] at hb;have e:=Ty.eq_of_beq hb.1;subst e;split
     ·rename_i x hx;obtain⟨hvt,cur,e,g1,g2,g3⟩:=zG8 (hk s rfl);simp only[zA] at hY ⊢;have hβ:(G.callee ys).β i=G.β s:=by grind [Gh.callee]
      refine⟨by grind [Ty.poff],hvt,cur,e,by grind,?_,fun o=>?_⟩
      ·simp only[zA8];exact⟨trivial,hvt.2,zA5 hprot (zN5 hx g2)⟩
      ·rw[hβ];have h0:G.χ (G.β s) o≠0:=by grind [zD8]
       simp only[Gh.callee];rw[if_neg h0,hfind s τ' rfl]
     grind [zA]
   |_=>simp[zD3,zA]
  |cons _ _=>grind [zD3,zA]
 |_=>simp[zD3,zA]
theorem zK9 (T:Nat):5≤zA9 T:=by grind [zA9]
theorem zL8 (s:Nat):4≤zD8 s:=by grind [zD8]
def zR8 (G:Gh)(ys:List AVal)(b:Nat):Prop:=(zH1 G.β b ys 0).isSome=true
structure Back (G:Gh) (w:World) (ys:List AVal) (G':Gh) (w':World):Prop where
 frame:Frame0 (G.callee ys).χ w G'.χ w'
 given:∀ b,zR8 G ys b→(∀ o,4≤G.χ b o)∧∃ i,∀ o,G'.χ b o=zD8 i
theorem Back.old {ys:List AVal}{G':Gh}{w':World}(h:Back G w ys G' w'){b o:Nat}(hb:b<w.heap.size):G'.χ b o≤1∨∃ i,G'.χ b o=zD8 i:=by
 by_cases hg:zR8 G ys b
 ·obtain⟨_,i,hi⟩:=h.given b hg;grind
 ·have hle:(G.callee ys).χ b o≤1:=by
   grind [Gh.callee,zR8]
  exact .inl (by rw[(h.frame.cell b o hb hle).1];grind)
theorem Back.prot {ys:List AVal}{G':Gh}{w':World}(h:Back G w ys G' w')(D:Option Nat):∀ b o,b<w'.heap.size→G'.χ b o=0→(G.back G' w.heap.size D).χ b o=0∧w'.cell? ⟨b,o,none⟩=w'.cell? ⟨b,o,none⟩:=by
 intro b o _ h0;simp only[Gh.back];by_cases hb:b<w.heap.size
 ·by_cases hg:zR8 G ys b
  ·obtain⟨_,i,hi⟩:=h.given b hg
   grind [absurd,zC8]
  ·have hle:(G.callee ys).χ b o≤1:=by
    grind [Gh.callee,zR8]
   have h1:=(h.frame.cell b o hb hle).1
   grind [Gh.callee,zR8]
 grind
theorem Back.orep {ys:List AVal}{G':Gh}{w':World}(h:Back G w ys G' w'){d T:Nat}(hT:T<4){t:Ty}{l:List t.den}{m:Bool}{v:Value}(ho:zG3 G' w' t l T m v) :
  zG3 (G.back G' w.heap.size (some d)) w' t l (T*100000+d) m v:=by
 have hγ:(G.back G' w.heap.size (some d)).γ (T*100000+d)=G'.γ T:=by
  simp only[Gh.back]
  all_goals grind
 refine yA4 (fun ho=>⟨ho.1,?_⟩) hγ rfl (h.prot (some d)) (fun _ hc o=>?_) ho
 rotate_left
 ·have hnew:¬ G'.γ T<w.heap.size:=by
   intro hb;rcases h.old (o:=0) hb with h9|⟨i,h9⟩
   all_goals grind [zK9,zA2]
  grind [Gh.back,zA9]
 rcases ho.2 with h1|⟨cap,cur,e,us,h1,h2,h3,h4,h5,h6,h7,h8⟩
 ·grind
 ·have hnew:¬ G'.γ T<w.heap.size:=by
   intro hb;rcases h.old (o:=l.length*t.size) hb with h9|⟨i,h9⟩
   all_goals grind [zK9,zA2]
  refine .inr ⟨cap,cur,e,us,by grind,by grind,h3,h4,h5,zB8 (fun _ _ hc=>zA5 (h.prot (some d)) hc) h6,h7,fun o=>?_⟩
  grind [Gh.back,zA9]
theorem Back.trep {ys:List AVal}{G':Gh}{w':World}(h:Back G w ys G' w'){d:Nat}:∀ {A:AVal}{τ:Ty}{vs:List Value},zG5 A=true→zA8 G' w' τ A vs→zA8 (G.back G' w.heap.size (some d)) w' τ (A.tagTo d) vs:=by
 intro A
 induction A with
 |val τ' x=>intro τ vs _ ht;exact⟨ht.1,ht.2.1,zA5 (h.prot (some d)) ht.2.2⟩
 |nil=>grind [AVal.tagTo,zA8]
 |own t l T m=>intro τ vs hr ht;have hr:T<4:=Nat.le_of_ble_eq_true hr;obtain⟨h1,v,h2,h3⟩:=ht;exact⟨h1,v,h2,h.orep hr h3⟩
 |agg f b ih=>grind [zG5,AVal.tagTo,zA8]
 |nl=>grind [AVal.tagTo,zA8]
 |junk=>grind [AVal.tagTo,zA8]
 |cons x y ihx ihy=>grind [zG5,AVal.tagTo,zA8]
 |_=>grind [zA8]
theorem Back.arep {ys:List AVal}{G':Gh}{w':World}(h:Back G w ys G' w'){d:Nat}:∀ {A:AVal}{v:Value},zG5 A=true→zA G' w' #[] none A v→zA (G.back G' w.heap.size (some d)) w' tm none (A.tagTo d) v:=by
 intro A
 induction A with
 |junk=>grind [AVal.tagTo,zA]
 |val τ' x=>intro v _ ht;exact zD (h.prot (some d)) ht
 |nil=>grind [AVal.tagTo,zA]
 |own t l T m=>intro v hr ht;have hr:T<4:=Nat.le_of_ble_eq_true hr;exact h.orep hr ht
 |agg f b _=>intro v hr ht;obtain⟨vs,h1,h2⟩:=ht;exact⟨vs,h1,h.trep hr h2⟩
 |nl=>grind [AVal.tagTo,zA]
 |cons x y ihx ihy=>grind [zG5,AVal.tagTo,zA]
 |tup b ih=>grind [zG5,AVal.tagTo,zA]
 |nilp=>grind [AVal.tagTo,zA]
 |_=>grind [zG5]
end Go.Am
namespace Go.Am
open Go Go.RowKit
variable {gtab:GlobTab}{P:Program}{c:Ctx}{G:Gh}{w:World}{tm:Array Value}{n:Nat}{χ0:Nat→Nat→Nat}{w0:World}{S:St}{a:Act}
theorem zR9 {f:Nat}{args:List AVal}{co:CallOut}:∀ {fns:List (Nat×Spec)},zQ9 fns f args=some co→∃ sp,(f,sp)∈fns∧sp args=some co:=by
 intro fns
 induction fns<;>grind [zQ9,Nat.beq,Nat.eq_of_beq_eq_true]
theorem yL9 {ys args:List AVal}:∀ {outs:List (Nat×AVal)}{u:St},yP ys args outs=some u →
  (∀ i k,(i,k)∈outs→∃ s τ k0,ys[i]?=some (.ref s τ [])∧args[i]?=some (.box τ k0)∧(s,.box τ k)∈u) ∧
  (∀ e∈u,∃ i k s τ k0,(i,k)∈outs∧ys[i]?=some (.ref s τ [])∧args[i]?=some (.box τ k0)∧e=(s,.box τ k)∧yO9 k=true):=by
 intro outs
 induction outs with
 |nil=>grind [yP,Option.some.injEq]
 |cons q r ih =>
  intro u h;obtain⟨i,k⟩:=q;simp only[yP] at h;split at h
  ·rename_i s τ τ' k0 u' h1 h2 h3;cases hb:(Ty.beq τ' τ&&AVal.fits τ k&&yO9 k) with
   |false=>grind
   |true =>
    simp[hb] at h;subst h;simp  at hb;have e:=Ty.eq_of_beq hb.1.1;subst e;obtain⟨g1,g2⟩:=ih h3;constructor
    ·grind
    ·intro e he;rcases List.mem_cons.1 he with he|he
     ·exact⟨i,k,s,τ',k0,by simp,h1,h2,he,hb.2⟩
     ·obtain⟨i',k',s',τ'',k0',q1,q2,q3,q4⟩:=g2 e he;exact⟨i',k',s',τ'',k0',by simp[q1],q2,q3,q4⟩
  grind
theorem xE1 {outs:List (Nat×AVal)}:∀ {args:List AVal}{j i:Nat}{τ:Ty}{k0:AVal},yE9 outs j args=true→args[i]?=some (.box τ k0)→∃ k,(j+i,k)∈outs:=by
 intro args
 induction args with
 |nil=>grind
 |cons A r ih =>
  intro j i τ k0 hc h;simp[yE9] at hc;cases i<;>grind [List.getElem?_cons_zero,zF7]
theorem zS:∀ {ys args:List AVal}{i s:Nat}{τ:Ty}{A:AVal},zB9 ys args=true→ys[i]?=some (.ref s τ [])→args[i]?=some A→zF7 A=true:=by
 intro ys
 induction ys with
 |nil=>grind
 |cons y r ih =>
  intro args i s τ A ha hy hA;cases args with
  |nil=>grind
  |cons B l =>
   have hrest:zB9 r l=true:=by
    cases y with
    |ref s' τ' p=>cases p<;>simp_all [zB9]
    |ptrs one l=>cases l with
     |nil=>simp_all [zB9]
     |cons q _=>cases q<;>simp_all [zB9]
    |_=>grind [zB9]
   grind [List.getElem?_cons_zero,zB9]
theorem yF5:∀ {ys args:List AVal}{i:Nat}{one:Bool}{q:Nat×Ty×zG4}{l:List (Option (Nat×Ty×zG4))}{A:AVal},zB9 ys args=true→ys[i]?=some (.ptrs one (some q::l))→args[i]?=some A→yC4 A=true:=by
 intro ys
 induction ys with
 |nil=>grind
 |cons y r ih =>
  intro args i one q l A ha hy hA;cases args with
  |nil=>grind
  |cons B l' =>
   have hrest:zB9 r l'=true:=by
    cases y with
    |ref s' τ' p=>cases p<;>simp_all [zB9]
    |ptrs one l=>cases l with
     |nil=>simp_all [zB9]
     |cons q _=>cases q<;>simp_all [zB9]
    |_=>grind [zB9]
   grind [List.getElem?_cons_zero,zB9]
theorem yF6 {α β γ:Type}{f:α→β→γ}{xs:List α}{ys:List β}{i:Nat}{z:γ}(h:(List.zipWith f xs ys)[i]?=some z):∃ x y,xs[i]?=some x∧ys[i]?=some y∧z=f x y:=by
 grind
theorem xM9 {α β γ:Type}{f:α→β→γ}{xs:List α}{ys:List β}{i:Nat}{x:α}{y:β}(hx:xs[i]?=some x)(hy:ys[i]?=some y):(List.zipWith f xs ys)[i]?=some (f x y):=by
 grind
theorem zL5 {α β:Type}{R:α→β→Prop}:∀ {xs:List α}{ys:List β}{i:Nat}{x:α}{y:β},zH8 R xs ys→xs[i]?=some x→ys[i]?=some y→R x y:=by
 intro xs
 induction xs with
 |nil=>grind
 |cons a r ih =>
  intro ys i x y h hx hy;cases ys<;>grind [zH8,List.getElem?_cons_zero,Option.some.injEq]
theorem xN {Y k:AVal}{τ:Ty}{k0:AVal}(h:zD3 Y k=.box τ k0):∃ s k',Y=.ref s τ []∧k=.box τ k'∧s<vNo:=by
 cases Y with
 |ref s τ' p =>
  cases p with
  |nil =>
   cases k with
   |box τ'' k' =>
    simp only[zD3] at h;cases hb:(Ty.beq τ'' τ'&&Nat.blt s vNo) with
    |false=>grind
    |true =>
     simp only[hb,cond_true] at h;simp only[Bool.and_eq_true] at hb;have e:=Ty.eq_of_beq hb.1;subst e;have hs:s<vNo:=Nat.le_of_ble_eq_true hb.2;split at h
     ·injection h with h1 h2
      subst h1;exact⟨s,k',rfl,rfl,hs⟩
     ·cases h
   |_=>grind [zD3]
  |cons _ _=>grind [zD3]
 |own t l T m=>grind [zD3]
 |agg f b=>grind [zD3]
 |fn f cs=>grind [zD3]
 |_=>grind [zD3]
theorem yQ2 {D:Option Nat}{u:St}:∀ {A:AVal}{os:Option Nat},(∀ d,D=some d→∀ j,j<4→A.hasTag (j*100000+d)=false)→(∀ s,os=some s→St.has s u=false) →
  ¬ A.names (fun x=>(∃ s,x=zD8 s∧St.has s u=true)∨∃ d j,D=some d∧j<4∧x=zA9 (j*100000+d)) (fun x=>∃ d j,D=some d∧j<4∧x=zA9 (j*100000+d)) os:=by
 intro A
 induction A with
 |own t l T m =>
  intro os ht _;simp only[AVal.names];rintro (⟨s,e,_⟩ | ⟨d,j,hD,hj,e⟩)
  ·exact zA2 _ _ e.symm
  ·have:=zA3 e;subst this;have:=ht d hD j hj;simp[AVal.hasTag] at this
 |eref s T t i p =>
  intro os ht _;simp only[AVal.names];rintro⟨d,j,hD,hj,e⟩;have:=zA3 e;subst this;have:=ht d hD j hj;simp[AVal.hasTag] at this
 |ref s τ p=>intro os _ _;simp only[AVal.names];rintro⟨d,j,_,_,e⟩;exact zA2 _ _ e
 |opt _ _ _ A ih=>intro os ht _;simp only[AVal.names];exact ih ht (fun s e=>by cases e)
 |box τ b ih =>
  intro os ht hs;cases os with
  |none=>simp only[AVal.names];exact ih ht (fun s e=>by cases e)
  |some s =>
   simp only[AVal.names,not_or];refine⟨⟨?_,?_⟩,ih ht (fun s e=>by cases e)⟩
   ·rintro⟨s',e,h⟩;have:=zC7 e;subst this;rw[hs s rfl] at h;cases h
   ·rintro⟨d,j,_,_,e⟩;exact zA2 _ _ e
 |pn b s τ=>intro os _ _;simp only[AVal.names];rintro⟨d,j,_,_,e⟩;exact zA2 _ _ e
 |may b τ c ih =>
  intro os ht hs;cases os with
  |none=>simp only[AVal.names];exact ih ht (fun s e=>by cases e)
  |some s =>
   simp only[AVal.names,not_or];refine⟨⟨?_,?_⟩,ih ht (fun s e=>by cases e)⟩
   ·rintro⟨s',e,h⟩;have:=zC7 e;subst this;rw[hs s rfl] at h;cases h
   ·rintro⟨d,j,_,_,e⟩;exact zA2 _ _ e
 |cons x y ihx ihy =>
  intro os ht _;simp only[AVal.names,not_or];refine⟨ihx (fun d hd j hj=>?_) (fun s e=>by cases e),ihy (fun d hd j hj=>?_) (fun s e=>by cases e)⟩
  ·have:=ht d hd j hj;simp only[AVal.hasTag,Bool.or_eq_false_iff] at this;exact this.1
  ·have:=ht d hd j hj;simp only[AVal.hasTag,Bool.or_eq_false_iff] at this;exact this.2
 |agg f b ih=>intro os ht _;simp only[AVal.names];exact ih ht (fun s e=>by cases e)
 |tup b ih=>intro os ht _;simp only[AVal.names];exact ih ht (fun s e=>by cases e)
 |fn f b ih=>intro os ht _;simp only[AVal.names];exact ih ht (fun s e=>by cases e)
 |raw =>
  intro os _ hs;cases os with
  |none=>simp[AVal.names]
  |some s =>
   simp only[AVal.names];rintro (⟨s',e,h⟩ | ⟨d,j,_,_,e⟩)
   ·have:=zC7 e;subst this;rw[hs s rfl] at h;cases h
   ·exact zA2 _ _ e
 |ownh t l T i U m =>
  intro os ht _;simp only[AVal.names,not_or];refine⟨⟨fun ⟨s,e,_⟩=>zA2 _ _ e.symm,fun ⟨d,j,hd,hj,e⟩=>?_⟩,fun ⟨s,e,_⟩=>zA2 _ _ e.symm,fun ⟨d,j,hd,hj,e⟩=>?_⟩
  ·have h:=ht d hd j hj;have:=zA3 e;subst this;simp[AVal.hasTag] at h
  ·have h:=ht d hd j hj;have:=zA3 e;subst this;simp[AVal.hasTag] at h
 |rref s=>intro os _ _;simp only[AVal.names];rintro⟨d,j,_,_,e⟩;exact zA2 _ _ e
 |bld T e U l =>
  intro os ht hs;have k:∀ d j,D=some d→j<4→zA9 U≠zA9 (j*100000+d):=fun d j hd hj e=>by have h:=ht d hd j hj;have:=zA3 e;subst this;simp[AVal.hasTag] at h
  cases os with
  |none =>
   simp only[AVal.names];rintro (⟨s,e,_⟩ | ⟨d,j,hd,hj,e⟩)
   ·exact zA2 _ _ e.symm
   ·exact k d j hd hj e
  |some s =>
   simp only[AVal.names];rintro ((⟨s',e,h⟩ | ⟨d,j,_,_,e⟩) | (⟨s',e,_⟩ | ⟨d,j,hd,hj,e⟩))
   ·have:=zC7 e;subst this;rw[hs s rfl] at h;cases h
   ·exact zA2 _ _ e
   ·exact zA2 _ _ e.symm
   ·exact k d j hd hj e
 |ptrs one l=>intro os _ _;simp only[AVal.names];rintro⟨k,τ,p,_,d,j,_,_,e⟩;exact zA2 _ _ e
 |fptr f caps=>intro os _ _;simp only[AVal.names];rintro⟨k,τ,_,d,j,_,_,e⟩;exact zA2 _ _ e
 |_=>intro os _ _;simp[AVal.names]
theorem yY6 (hR:Rel n χ0 w0 S a w G){f:Nat}{sp:Spec}(hsp:SpecOk P f sp){ys:List AVal}{vals:List Value}{co:CallOut}{u:St}(hys:zH8 (zA G w a.tmps none) ys vals)
  (hco:sp (List.zipWith zD3 ys (ys.map (zB S)))=some co) (hok:∀ q∈co.ok,q) (hcov:yE9 co.outs 0 (List.zipWith zD3 ys (ys.map (zB S)))=true) (hone:zM3 ys=true)
  (hall:zB9 ys (List.zipWith zD3 ys (ys.map (zB S)))=true) (hout:yP ys (List.zipWith zD3 ys (ys.map (zB S))) co.outs=some u) :
  Calls P f vals.toArray w fun e w'=>∃ v G',e=.returned v∧Back G w ys G' w'∧zA G' w' #[] none co.res v ∧
   (∀ b,zR8 G ys b→∃ s,St.has s u=true∧∀ o,G.χ b o=zD8 s) ∧
   ∀ e∈u,∃ s τ k,e=(s,.box τ k)∧yO9 k=true∧(∃ i,G'.β i=G.β s∧zA G' w' #[] (some i) (.box τ k) (a.tmps.getD s undef))∧(∀ o,G.χ (G.β s) o=zD8 s)∧G.β s<w.heap.size∧a.tmps.getD s undef=.pointer (some ⟨G.β s,0,none⟩):=by
 have hlen:vals.length=(List.zipWith zD3 ys (ys.map (zB S))).length:=by simp[zE6 hys]
 have hysl:=zE6 hys;have yS4:∀ (i:Nat) s τ,ys[i]?=some (.ref s τ [])→∃ k',S.get s=.box τ k'∧(∀ o,G.χ (G.β s) o=zD8 s)∧G.β s<w.heap.size∧vals[i]?=some (a.tmps.getD s undef)∧a.tmps.getD s undef=.pointer (some ⟨G.β s,0,none⟩)∧∃ k0,(List.zipWith zD3 ys (ys.map (zB S)))[i]?=some (.box τ k0):=by
  intro i s τ hy;have hk:(ys.map (zB S))[i]?=some (S.get s):=by simp[hy,zB]
  have hz:=xM9 (f:=zD3) hy hk;have hb:=zS hall hy hz;obtain⟨τ',k0,hbx⟩:∃ τ' k0,zD3 (.ref s τ []) (S.get s)=.box τ' k0:=by
   cases hh:zD3 (.ref s τ []) (S.get s)<;>simp_all [zF7]
  obtain⟨s',k',e1,e2,hsv⟩:=xN hbx;injection e1 with e1 e3 _
  subst e1;subst e3;have hr:=hR.reps s;rw[e2] at hr;obtain⟨hvt,cur,e,g1,g2,g3⟩:=zG8 hr;obtain⟨v,hv⟩:∃ v,vals[i]?=some v:=by
   have:i<vals.length:=by rw[← hysl];exact (List.getElem?_eq_some_iff.1 hy).1
   exact⟨vals[i],List.getElem?_eq_getElem this⟩
  have hv2:=zL5 hys hy hv;simp only[zA] at hv2 hr;refine⟨k',e2,g3,zE0 g1,?_,hr.1 hsv,k0,by rw[hz,hbx]⟩;rw[hv,hv2.2,hr.1 hsv];simp[Ty.poff]
 have hfind:∀ (i:Nat) s τ,ys[i]?=some (.ref s τ [])→zH1 G.β (G.β s) ys 0=some i:=by
  intro i s τ hy;have:=xM7 (β:=G.β) (i:=0) hy (fun j s' τ' hj hs' e=>by
   obtain⟨_,_,c1,_⟩:=yS4 i s τ hy;obtain⟨_,_,c2,_⟩:=yS4 j s' τ' hs';have h1:=c1 0;have h2:=c2 0;rw[e,h1] at h2;exact xE0 hone hj hs' hy (zC7 h2).symm)
  simpa using this
 refine ((hsp.2 _ co hco hok (G.callee ys) w vals hlen (zI5 (fun b o _ h=>⟨by simp[Gh.callee,h],rfl⟩) hR.glob) (fun i A v hA hv=>?_)).mono ?_)
 ·obtain⟨Y,k,hY,hk,rfl⟩:=yF6 hA;have hk':k=zB S Y:=by simp[hY] at hk;exact hk.symm
  subst hk';refine yL7 (xV5 Y _) ?_;exact xM8 (kv:=match zE2 Y with|some s=>a.tmps.getD s undef|none=>undef) hY (zL5 hys hY hv) (fun s hs=>by rw[hs];exact zH0 hR hs) (fun s τ e=>by subst e;exact hfind i s τ hY)
 ·rintro e w' ⟨v,G',rfl,hfr,hres,houts,_⟩;have hgiven:∀ (i:Nat) s τ,ys[i]?=some (.ref s τ [])→G'.β i=G.β s∧∃ k,(i,k)∈co.outs∧zA G' w' #[] (some i) (.box τ k) (a.tmps.getD s undef):=by
   intro i s τ hy;obtain⟨k',e2,g3,g4,hv,_,k0,hz⟩:=yS4 i s τ hy;obtain⟨k,hk⟩:=xE1 hcov hz;rw[Nat.zero_add] at hk;obtain⟨h1,h2⟩:=(houts i k _ _ hk hz hv).1 τ k0 rfl;exact⟨by rw[h2];simp[Gh.callee,hy],k,hk,h1⟩
  refine⟨v,G',rfl,⟨hfr,fun b hb=>?_⟩,hres,fun b hb=>?_,fun e he=>?_⟩
  ·simp only[zR8,Option.isSome_iff_exists] at hb;obtain⟨i,hi⟩:=hb;obtain⟨s,τ,_,hy,rfl⟩:=yF4 hi;simp only[Nat.sub_zero] at hy;obtain⟨_,_,g3,_⟩:=yS4 i s τ hy;obtain⟨h1,k,_,h2⟩:=hgiven i s τ hy;obtain⟨_,cur,e,q1,q2,q3⟩:=zG8 h2;exact⟨fun o=>by rw[g3];exact zL8 s,i,fun o=>by rw[← h1];exact q3 o⟩
  ·simp only[zR8,Option.isSome_iff_exists] at hb;obtain⟨i,hi⟩:=hb;obtain⟨s,τ,_,hy,rfl⟩:=yF4 hi;simp only[Nat.sub_zero] at hy;obtain⟨_,_,g3,_⟩:=yS4 i s τ hy;obtain⟨_,k,hk,_⟩:=hgiven i s τ hy;obtain⟨s',τ',k0,q1,q2,q3⟩:=(yL9 hout).1 i k hk;rw[hy] at q1;injection q1 with q1
   injection q1 with q1 q4 _
   subst q1;exact⟨s,List.any_eq_true.2 ⟨_,q3,by simp⟩,g3⟩
  ·obtain⟨i,k,s,τ,k0,hm,hy,hz,rfl,hvk⟩:=(yL9 hout).2 e he;obtain⟨k',e2,g3,g4,hv,hpt,_,_⟩:=yS4 i s τ hy;obtain⟨h1,h2⟩:=(houts i k _ _ hm hz hv).1 τ k0 rfl;have h3:G'.β i=G.β s:=by rw[h2];simp[Gh.callee,hy]
   exact⟨s,τ,k,rfl,hvk,⟨i,h3,h1⟩,g3,g4,hpt⟩
end Go.Am
namespace Go.Am
open Go Go.RowKit
variable {gtab:GlobTab}{P:Program}{c:Ctx}{G:Gh}{w:World}{tm:Array Value}{n:Nat}{χ0:Nat→Nat→Nat}{w0:World}{S:St}{a:Act}
theorem yM {ys:List AVal}{b o:Nat}(h:¬ zR8 G ys b):(G.callee ys).χ b o≤1:=by
 grind [Gh.callee,zR8]
theorem xJ8 {ys:List AVal}{G':Gh}{w':World}{u:St}(D:Option Nat)(h:Back G w ys G' w')(hg:∀ b,zR8 G ys b→∃ s,St.has s u=true∧∀ o,G.χ b o=zD8 s) :
  Ext (fun x=>(∃ s,x=zD8 s∧St.has s u=true)∨∃ d j,D=some d∧j<4∧x=zA9 (j*100000+d)) (fun x=>∃ d j,D=some d∧j<4∧x=zA9 (j*100000+d)) G w (G.back G' w.heap.size D) w':=by
 refine⟨fun b o hb h0=>?_,fun b hb hX=>?_,h.frame.size,fun s _=>rfl,fun T hT=>?_,fun _ h=>.inr h⟩
 ·refine⟨by simp_all [Gh.back],?_⟩;exact (h.frame.cell b o hb (by grind [Gh.callee])).2
 ·have hng:¬ zR8 G ys b:=by
   intro hgb;obtain⟨s,h1,h2⟩:=hg b hgb;simp_all
  exact⟨h.frame.block b hb (fun o=>yM hng),fun o=>by simp_all [Gh.back]⟩
 ·simp only[Gh.back];cases D with
  |none=>rfl
  |some d =>
   simp only;rw[if_neg (fun e=>hT ⟨d,0,rfl,by omega,by grind⟩),if_neg (fun e=>hT ⟨d,1,rfl,by omega,by rw[e]⟩),if_neg (fun e=>hT ⟨d,2,rfl,by omega,by rw[e]⟩),if_neg (fun e=>hT ⟨d,3,rfl,by omega,by rw[e]⟩)]
theorem yQ3 (hfr:Frame0 χ0 w0 G.χ w){ys:List AVal}{G':Gh}{w':World}{u:St}(D:Option Nat)(h:Back G w ys G' w')(hg:∀ b,zR8 G ys b→∃ s,St.has s u=true∧∀ o,G.χ b o=zD8 s) :
  Frame0 χ0 w0 (G.back G' w.heap.size D).χ w':=by
 refine⟨h.frame.os.trans hfr.os,h.frame.tape.trans hfr.tape,h.frame.output.trans hfr.output,Nat.le_trans hfr.size h.frame.size,fun b hb hc=>?_,fun b o hb hc=>?_⟩
 ·have hlt:=Nat.lt_of_lt_of_le hb hfr.size;have hng:¬ zR8 G ys b:=by
   have h3:=(hfr.cell b 0 hb (hc 0)).1
   grind [zL8]
  rw[h.frame.block b hlt (fun o=>yM hng)];exact hfr.block b hb hc
 ·have hlt:=Nat.lt_of_lt_of_le hb hfr.size;have h3:=hfr.cell b o hb hc;refine⟨by grind [Gh.back],?_⟩;have hng:¬ zR8 G ys b:=by
   grind [zL8]
  rw[(h.frame.cell b o hlt (yM hng)).2]
  grind
def zI2 (dst:Option Nat)(res:AVal)(u:St):St:=
 match dst with
 |some d=>(d,res.tagTo d)::u
 |none=>u
theorem yU (hR:Rel n χ0 w0 S a w G)(hn:n≤vNo){ys:List AVal}{G':Gh}{w':World}{u:St}{dst:Option Nat}{res:AVal}{v:Value}(h:Back G w ys G' w')(hres:zA G' w' #[] none res v)(hro:zG5 res=true)
  (hg:∀ b,zR8 G ys b→∃ s,St.has s u=true∧∀ o,G.χ b o=zD8 s)
  (hu:∀ e∈u,∃ s τ k,e=(s,.box τ k)∧yO9 k=true∧(∃ i,G'.β i=G.β s∧zA G' w' #[] (some i) (.box τ k) (a.tmps.getD s undef))∧(∀ o,G.χ (G.β s) o=zD8 s)∧G.β s<w.heap.size∧a.tmps.getD s undef=.pointer (some ⟨G.β s,0,none⟩))
  (hlt:∀ e∈(zI2 dst res u),e.1<zA4) (hdn:∀ d,dst=some d→d<n) (hhung:∀ s d,dst=some d→(S.get s).hung d=false)
  (htag:∀ d,dst=some d→∀ s j,j<4→(S.get s).hasTag (j*100000+d)=false) :
  Rel n χ0 w0 ((zI2 dst res u)++S) (a.put dst v) w' (G.back G' w.heap.size dst):=by
 have hsub:∀ s,St.has s (zI2 dst res u)=false→St.has s u=false:=by
  intro s hs;cases dst with
  |none=>exact hs
  |some d=>simp only[zI2,St.has,List.any_cons,Bool.or_eq_false_iff] at hs;exact hs.2
 have hcutU:∀ e∈(zI2 dst res u),e.1≠zA4:=fun e he=>by grind
 have hcutu:∀ e∈u,e.1≠zA4:=fun e he=>by cases dst<;>grind [zI2]
 refine zD7 hR hn hlt hdn (fun d e=>by simp_all [St.has,zI2]) (xJ8 dst h hg) (fun hX=>hX.elim (fun ⟨s,e,_⟩=>zC8 s e) (fun ⟨d,j,_,_,e⟩=>zA7 _ e)) (yQ3 hR.frame dst h hg)
  (fun s hs=>yQ2 (fun d hd j hj=>htag d hd s j hj) (fun s' e=>by grind)) (fun s d e _=>hhung s d e) (fun s hs=>?_)
 have yS4:∀ s,St.has s u=true→(∀ d,dst=some d→s≠d)→zA (G.back G' w.heap.size dst) w' (a.put dst v).tmps (some s) (u.get s) ((a.put dst v).tmps.getD s undef):=by
  intro s hs hne;have hm:=xE hs hcutu;obtain⟨s',τ,k,e,hvk,⟨i,hi,hb⟩,hcol,hblk,hpt⟩:=hu _ hm;injection e with e1 e2
  subst e1;rw[e2];have htm:(a.put dst v).tmps.getD s undef=a.tmps.getD s undef:=by
   cases dst with
   |none=>rfl
   |some d =>
    have hd:d<a.tmps.size:=by rw[hR.len];exact hdn d rfl
    rw[zD6 hd,if_neg (hne d rfl)]
  rw[htm];obtain⟨h1,hvt,cur,e,h2,h3,h4⟩:=hb;refine⟨fun _=>hpt,hvt,cur,e,by rw[hi] at h2;exact h2,?_,fun o=>?_⟩
  ·cases k with
   |val τ' x=>exact⟨h3.1,h3.2.1,zA5 (h.prot dst) h3.2.2⟩
   |_=>simp[yO9] at hvk
  ·simp only[Gh.back];rw[if_pos hblk];exact hcol o
 cases dst with
 |none=>exact yS4 s hs (fun d e=>by grind)
 |some d =>
  have hd:d<a.tmps.size:=by rw[hR.len];exact hdn d rfl
  simp only[zI2] at hs ⊢;by_cases e:s=d
  ·subst e;have:St.get ((s,res.tagTo s)::u) s=res.tagTo s:=by simp[St.get]
   rw[this,zD6 hd,if_pos rfl];refine zK4 (tm:=(a.put (some s) v).tmps) (fun k hk=>rfl) (zL6 (h.arep hro hres))
  ·have hs':St.has s u=true:=by
    simp only[St.has,List.any_cons,Bool.or_eq_true] at hs;rcases hs with hs|hs
    ·exact absurd (Nat.eq_of_beq_eq_true hs).symm e
    ·exact hs
   have hget:St.get ((d,res.tagTo d)::u) s=u.get s:=by
    have h1:Nat.beq d s=false:=by grind [Nat.beq,absurd,Nat.eq_of_beq_eq_true]
    have h2:Nat.beq d zA4=false:=by cases hb:Nat.beq d zA4 with
     |false=>rfl
     |true=>exact absurd (Nat.eq_of_beq_eq_true hb) (hcutU (d,res.tagTo d) (by simp[zI2]))
    simp[St.get,h1,h2]
   grind
end Go.Am
namespace Go.Am
open Go Go.RowKit
variable {gtab:GlobTab}{P:Program}{c:Ctx}{G:Gh}{w:World}{tm:Array Value}{n:Nat}{χ0:Nat→Nat→Nat}{w0:World}{S:St}{a:Act}
structure BldOk (P:Program) (T e fW fS:Nat):Prop where
 zero:∃ i z,P.info? T=some i∧i.zero=some z∧z.cells=#[.pointer none,.slice none 0 0]
 fnW:∃ fn,P.funcs[fW]?=some fn∧fn.body.isSome=true∧fn.name≠"runtime.NumGoroutine"
 fnS:∃ fn,P.funcs[fS]?=some fn∧fn.body.isSome=true∧fn.name≠"runtime.NumGoroutine"
 write:∀ (b:Nat) (p v:Value) (xs:List Value) (x:List UInt8) (w:World),w.heap[b]?=some (.cells #[p,v] T (0,0))→(p=.pointer none∨p=.pointer (some ⟨b,0,none⟩))→wE8 w e v xs→zX6 v≠some b→xs.length+x.length≤4294967296 →
  Calls P fW #[.pointer (some ⟨b,0,none⟩),.string ⟨x.toArray⟩] w fun q w'=>∃ r v',q=.returned r∧w'.heap[b]?=some (.cells #[.pointer (some ⟨b,0,none⟩),v'] T (0,0))∧wE8 w' e v' (xs++zX0 x)∧(w'.os=w.os∧w'.tape=w.tape∧w'.output=w.output∧w.heap.size≤w'.heap.size) ∧
   (∀ k,k<w.heap.size→k≠b→zX6 v≠some k→w'.heap[k]?=w.heap[k]?)∧∀ g,zX6 v'=some g→zX6 v=some g∨w.heap.size≤g
 text:∀ (b:Nat) (p v:Value) (l:List UInt8) (w:World),w.heap[b]?=some (.cells #[p,v] T (0,0))→(p=.pointer none∨p=.pointer (some ⟨b,0,none⟩))→wE8 w e v (zX0 l)→zX6 v≠some b →
  Calls P fS #[.pointer (some ⟨b,0,none⟩)] w fun q w'=>q=.returned (.string ⟨l.toArray⟩)∧(w'.os=w.os∧w'.tape=w.tape∧w'.output=w.output∧w.heap.size≤w'.heap.size)∧∀ k,k<w.heap.size→zX6 v≠some k→w'.heap[k]?=w.heap[k]?
structure CtxOk [GlobTab] (P:Program) (c:Ctx):Prop where
 tys:zM6 P c.tys=true
 fns:∀ f sp,(f,sp)∈c.fns→SpecOk P f sp
 exts:∀ f e,(f,e)∈c.exts→xV6 P f e
 maps:yL6 P c.maps=true
 fts:yX P c.fts=true
 n:c.n≤vNo
 clones:∀ f k,(f,k)∈c.clones→wM5 P f k
 blds:∀ T e f g,(T,e,f,g)∈c.blds→BldOk P T e f g
def xJ9 (tm:Array Value)(gd:Gd):Prop:=∀ s want g,gd=some (s,want,g)→(tm.getD s undef=.bool want↔g=true)
theorem xN0 (hR:Rel n χ0 w0 S a w G){dsts:List (Option Nat)}{g0:Option (Nat×Bool)}{gd:Gd}(h:zP1 dsts S g0=some gd):xJ9 a.tmps gd:=by
 intro s want g e;subst e;cases g0 with
 |none=>grind [zP1]
 |some q =>
  simp only[zP1] at h;split at h
  ·rename_i s' hs;split at h
   ·have hr:=hR.reps s'
    grind [zA,VRep_bool]
   ·rename_i s2 w2 g2 b hb;simp  at h;obtain⟨rfl,rfl,rfl⟩:=h;have hr:=hR.reps s';rw[hb] at hr;cases g2 with
    |true=>rw[VRep_bool.1 (hr.2.1 rfl)];grind
    |false=>rw[hr.2.2 rfl];simp[undef]
   grind
  grind
theorem zN9 {gd:Gd}(hi:xJ9 tm gd)(hon:yT7 tm gd){A:AVal}{v:Value}(h:zA G w tm none A v):zA G w tm none (zG2 gd A) v:=by
 cases gd with
 |none=>exact h
 |some q =>
  obtain⟨s,want,g⟩:=q;have hg:g=true:=(hi s want g rfl).1 (hon s want g rfl);exact⟨hi s want g rfl,fun _=>h,fun e=>by grind⟩
theorem zO {gd:Gd}(hi:xJ9 tm gd)(hon:yT7 tm gd){l:List Prop}(h:∀ q∈zX gd l,q):∀ q∈l,q:=by
 cases gd with
 |none=>exact h
 |some q =>
  obtain⟨s,want,g⟩:=q;intro q hq;have hg:g=true:=(hi s want g rfl).1 (hon s want g rfl);exact h (g=true→q) (by simp_all [zX]) hg
theorem zS0 (hR:Rel n χ0 w0 S a w G)(hn:n≤vNo){d s:Nat}{want g:Bool}{A:AVal}(hi:xJ9 a.tmps (some (s,want,g)))(hoff:a.tmps.getD s undef≠.bool want)(hd:d<n)(hh:∀ s,(S.get s).hung d=false)(hA:(AVal.opt s want g A).hung d=false) :
  Rel n χ0 w0 ([(d,.opt s want g A)]++S) (a.put (some d) undef) w G:=by
 refine zR7 hR hn hd hh hA ?_;simp only[zA];have hg:g=false:=by
  cases g with
  |false=>rfl
  |true=>exact absurd ((hi s want true rfl).2 rfl) hoff
 simp_all
theorem zS1 {gd:Gd}(hon:yT7 tm gd){x:Operand}{want:Bool}{A:AVal}{v:Value}{ac:Act}(htm:ac.tmps=tm)(hb:ac.eval x=.bool want)(h:zA G w tm none A v):zA G w tm none (yC5 gd x want A) v:=by
 cases A with
 |opt s w' g A =>
  cases x with
  |tmp cc =>
   simp only[yC5];cases hc:(Nat.beq s cc&&(w'==want)) with
   |false=>grind [zN]
   |true =>
    simp_all [zA,Act.eval]
  |_=>grind [yC5,zN]
 |_=>grind [yC5]
end Go.Am
namespace Go.Am
open Go Go.RowKit
variable {gtab:GlobTab}{P:Program}{c:Ctx}{G:Gh}{w:World}{tm:Array Value}{n:Nat}{χ0:Nat→Nat→Nat}{w0:World}{S:St}{a:Act}
structure MapOk (Bad:Nat→Prop) (G:Gh) (w:World) (G':Gh) (w':World) (g:(t:Ty)→List t.den→Nat→Bool→AVal) (h:Nat→Nat→Ty→Int→zG4→AVal):Prop where
 prot:∀ b o,b<w.heap.size→G.χ b o=0→G'.χ b o=0∧w'.cell? ⟨b,o,none⟩=w.cell? ⟨b,o,none⟩
 ref:∀ s,G'.β s=G.β s
 box:∀ s,(∀ o,G.χ (G.β s) o=zD8 s)→G.β s<w.heap.size→w'.heap[G.β s]?=w.heap[G.β s]?∧∀ o,G'.χ (G.β s) o=zD8 s
 own1:∀ t l T m v,¬ Bad T→zG3 G w t l T m v→(g t l T m).fitsT (.sl t)=true→zA8 G' w' (.sl t) (g t l T m) [v]
 own2:∀ t l T m v,¬ Bad T→zG3 G w t l T m v→∀ tm,zA G' w' tm none (g t l T m) v
 eref:∀ s T t i p v,¬ Bad T→∀ tm,zA G w tm none (.eref s T t i p) v→zA G' w' tm none (h s T t i p) v
variable {Bad:Nat→Prop}{G':Gh}{w':World}{g:(t:Ty)→List t.den→Nat→Bool→AVal}{h:Nat→Nat→Ty→Int→zG4→AVal}
theorem xV7 {A:AVal}{t:Ty}(h:A.laxT (.sl t)=true):A.fitsT (.sl t)=true∨A=.junk:=by
 cases A with
 |junk=>simp_all
 |val τ' y=>exact .inl h
 |nil=>exact .inl h
 |own t l T m=>exact .inl h
 |nl=>exact .inl h
 |agg f c=>grind [AVal.laxT,Ty.beq]
 |cons a b=>grind [AVal.laxT,zF5]
 |_=>grind [AVal.laxT]
theorem MapOk.trep (H:MapOk Bad G w G' w' g h):∀ {A:AVal}{τ:Ty}{vs:List Value},(∀ T,Bad T→A.hasTag T=false)→zA8 G w τ A vs→(A.mapOwn g h).laxT τ=true→zA8 G' w' τ (A.mapOwn g h) vs:=by
 intro A
 induction A with
 |val τ' x=>intro τ vs _ ht _;exact⟨ht.1,ht.2.1,zA5 H.prot ht.2.2⟩
 |nil=>grind [AVal.mapOwn,zA8]
 |own t l T m =>
  intro τ vs hb ht hf;obtain⟨rfl,v,rfl,ho⟩:=ht;rcases xV7 hf with h1|h1
  ·exact H.own1 t l T m v (fun hB=>by have:=hb T hB;simp_all [AVal.hasTag]) ho h1
  ·rw[h1];exact⟨rfl,v,rfl,zV2 (G:=G) (w:=w) (A:=.own t l T m) (τ:=.sl t) (vs:=[v]) (by grind [zA8]) v (List.mem_singleton.2 rfl)⟩
 |agg f b ih =>
  intro τ vs hb ht hf;obtain⟨rfl,ht⟩:=ht;simp only[AVal.mapOwn] at hf ⊢;cases hc:(b.mapOwn g h).laxT f with
  |false=>grind [AVal.laxT,Ty.isSl]
  |true=>simp only[cond_true,zA8];exact⟨trivial,ih hb ht hc⟩
 |nl=>grind [AVal.mapOwn,zA8]
 |junk=>grind [AVal.mapOwn,zA8]
 |cons x y ihx ihy =>
  intro τ vs hb ht hf;obtain⟨h1,t1,us,ws,rfl,rfl,h2,h3⟩:=ht;simp[AVal.mapOwn,AVal.laxT,zF5] at hf;exact⟨h1,t1,us,ws,rfl,rfl,ihx (fun T hT=>by grind [AVal.hasTag,Bool.or_eq_false_iff]) h2 hf.1,ihy (fun T hT=>by grind [AVal.hasTag,Bool.or_eq_false_iff]) h3 hf.2⟩
 |_=>grind [zA8]
theorem MapOk.bx (H:MapOk Bad G w G' w' g h){s:Nat}{τ:Ty}{b:AVal}(hb:∀ T,Bad T→b.hasTag T=false)(ha:zN3 G w s τ b)(hc:(b.mapOwn g h).laxT τ=true):zN3 G' w' s τ (b.mapOwn g h):=by
 obtain⟨hvt,cur,e,h2,h3,h4⟩:=ha;obtain⟨q1,q2⟩:=H.box s h4 (zE0 h2);exact⟨hvt,cur,e,by rw[H.ref,q1];exact h2,H.trep hb h3 hc,fun o=>by rw[H.ref];exact q2 o⟩
theorem MapOk.arep (H:MapOk Bad G w G' w' g h):∀ {A:AVal}{os:Option Nat}{v:Value},(∀ T,Bad T→A.hasTag T=false)→zA G w tm os A v→zA G' w' tm os (A.mapOwn g h) v:=by
 intro A
 induction A with
 |junk=>intro os v _ _;simp only[AVal.mapOwn,zA]
 |val τ x=>intro os v _ ha;simp only[AVal.mapOwn,zA] at ha ⊢;exact zD H.prot ha
 |nil=>intro os v _ ha;simp only[AVal.mapOwn,zA] at ha ⊢;exact ha
 |nn b=>intro os v _ ha;simp only[AVal.mapOwn,zA] at ha ⊢;exact ha
 |own t l T m =>
  intro os v hb ha;simp only[zA] at ha;simp only[AVal.mapOwn];exact zL6 (H.own2 t l T m v (fun hB=>by have:=hb T hB;simp[AVal.hasTag] at this) ha tm)
 |eref s T t i p =>
  intro os v hb ha;simp only[AVal.mapOwn];exact zL6 (H.eref s T t i p v (fun hB=>by have:=hb T hB;simp[AVal.hasTag] at this) tm (zP9 ha (fun τ c=>by simp) (by simp) (by simp) (by simp)))
 |opt s' want gg A ih=>intro os v hb ha;simp only[AVal.mapOwn,zA] at ha ⊢;exact⟨ha.1,fun e=>ih hb (ha.2.1 e),ha.2.2⟩
 |box τ b ih =>
  intro os v hb ha;simp only[AVal.mapOwn];cases os with
  |none=>simp only[zA] at ha
  |some s =>
   cases hc:(b.mapOwn g h).laxT τ with
   |false=>simp only[cond_false,zA]
   |true =>
    simp only[cond_true];simp only[zA] at ha ⊢;exact⟨by rw[H.ref];exact ha.1,H.bx hb ha.2 hc⟩
 |may m τ b ih =>
  intro os v hb ha;simp only[AVal.mapOwn];cases os with
  |none=>simp only[zA] at ha
  |some s =>
   cases hc:(b.mapOwn g h).laxT τ with
   |false=>simp only[cond_false,zA]
   |true =>
    simp only[cond_true];simp only[zA] at ha ⊢;exact fun e=>H.bx hb (ha e) hc
 |nilp=>intro os v _ ha;simp only[AVal.mapOwn,zA] at ha ⊢;exact ha
 |pn m s' τ=>intro os v _ ha;simp only[AVal.mapOwn,zA] at ha ⊢;rw[H.ref];exact ha
 |ref s' τ p=>intro os v _ ha;simp only[AVal.mapOwn,zA] at ha ⊢;rw[H.ref];exact ha
 |agg f b _ =>
  intro os v hb ha;simp only[AVal.mapOwn];cases hc:(b.mapOwn g h).laxT f with
  |false=>simp only[cond_false,zA]
  |true =>
   simp only[cond_true];simp only[zA] at ha ⊢;obtain⟨vs,h1,h2⟩:=ha;exact⟨vs,h1,H.trep hb h2 hc⟩
 |nl=>intro os v _ ha;simp only[AVal.mapOwn,zA] at ha ⊢;exact ha
 |cons x y ihx ihy =>
  intro os v hb ha;simp only[AVal.mapOwn,zA] at ha ⊢;obtain⟨u,us,h1,h2,h3⟩:=ha;exact⟨u,us,h1,ihx (fun T hT=>by have:=hb T hT;simp only[AVal.hasTag,Bool.or_eq_false_iff] at this;exact this.1) h2,ihy (fun T hT=>by have:=hb T hT;simp only[AVal.hasTag,Bool.or_eq_false_iff] at this;exact this.2) h3⟩
 |tup b ih=>intro os v hb ha;simp only[AVal.mapOwn,zA] at ha ⊢;exact ih hb ha
 |fn f b ih=>intro os v hb ha;simp only[AVal.mapOwn,zA] at ha ⊢;obtain⟨vs,h1,h2⟩:=ha;exact⟨vs,h1,ih hb h2⟩
 |raw =>
  intro os v _ ha;simp only[AVal.mapOwn];cases os with
  |none=>simp only[zA] at ha
  |some s =>
   simp only[zA] at ha ⊢;obtain⟨h1,u,e,h2,h4⟩:=ha;obtain⟨q1,q2⟩:=H.box s h4 (zE0 h2);exact⟨by rw[H.ref];exact h1,u,e,by rw[H.ref,q1];exact h2,fun o=>by rw[H.ref];exact q2 o⟩
 |rref s'=>intro os v _ ha;simp only[AVal.mapOwn,zA] at ha ⊢;rw[H.ref];exact ha
 |ptrs one l=>intro os v _ ha;simp only[AVal.mapOwn,zA] at ha ⊢;exact zX7 H.prot (fun k _ _ _=>H.ref k) ha
 |lbox _ _ _ _=>intro os v _ _;simp only[AVal.mapOwn,zA]
 |bld _ _ _ _=>intro os v _ _;simp only[AVal.mapOwn,zA]
 |ownh t l T i U m=>intro os v _ _;simp only[AVal.mapOwn,zA]
 |fptr f caps =>
  intro os v _ ha;simp only[AVal.mapOwn,zA] at ha ⊢;obtain⟨b,h1,h2,h3⟩:=ha;have hb:b<w.heap.size:=by
   by_cases hb:b<w.heap.size
   ·exact hb
   ·have:w.heap[b]?=none:=Array.getElem?_eq_none (by omega);simp[World.cell?,this] at h3
  obtain⟨h4,h5⟩:=H.prot b 0 hb h2;refine⟨b,h1,h4,?_⟩;rw[h5,h3];congr 3;refine List.map_congr_left fun q hq=>?_;cases q with
  |none=>rfl
  |some q=>obtain⟨k,τ⟩:=q;simp only[xJ];rw[H.ref]
theorem yM0:∀ {A:AVal}{d:Nat},A.hung d=false→(∀ t l T m,(g t l T m).hung d=false)→(∀ s T t i p,(h s T t i p).hung d=false)→(A.mapOwn g h).hung d=false:=by
 intro A
 induction A with
 |own t l T m=>grind [AVal.mapOwn]
 |eref s T t i p=>grind [AVal.mapOwn]
 |opt s' want gg A ih=>grind [AVal.hung,Bool.or_eq_false_iff,AVal.mapOwn]
 |box τ b _=>grind [AVal.mapOwn,AVal.hung]
 |may m τ b _=>grind [AVal.mapOwn,AVal.hung]
 |agg f b _=>grind [AVal.mapOwn,AVal.hung]
 |cons x y ihx ihy=>grind [AVal.hung,Bool.or_eq_false_iff,AVal.mapOwn]
 |tup b ih=>intro d hh h1 h2;exact ih hh h1 h2
 |fn f b ih=>intro d hh h1 h2;exact ih hh h1 h2
 |_=>intro d _ _ _;simp[AVal.mapOwn,AVal.hung]
theorem zV5 {T:Nat}{k:AVal→AVal}:∀ {R:St}{s:Nat},St.has s (zB7 T k S R)=true→(zB7 T k S R).get s=k (S.get s)∧(S.get s).hasTag T=true∨(∃ e∈zB7 T k S R,e.1=zA4):=by
 intro R
 induction R with
 |nil=>grind [zB7,St.has]
 |cons e r ih =>
  intro s hs;obtain⟨s',A⟩:=e;simp only[zB7] at hs ⊢;cases ht:(S.get s').hasTag T with
  |false=>grind
  |true =>
   simp  at hs ⊢;simp only[St.get];cases hb:Nat.beq s' s with
   |true=>simp_all
   |false =>
    have hs':St.has s (zB7 T k S r)=true:=by grind [St.has]
    cases hcut:Nat.beq s' zA4 with
    |true=>simp_all
    |false =>
     grind
theorem zV6 {T:Nat}{k:AVal→AVal}:∀ {R:St}{s:Nat},St.has s R=true→(S.get s).hasTag T=true→St.has s (zB7 T k S R)=true:=by
 intro R
 induction R with
 |nil=>grind [St.has]
 |cons e r ih =>
  intro s hs ht;obtain⟨s',A⟩:=e;simp only[zB7];simp only[St.has,List.any_cons,Bool.or_eq_true] at hs;cases ht':(S.get s').hasTag T with
  |false =>
   rcases hs with hs|hs
   ·grind [Nat.eq_of_beq_eq_true]
   ·exact ih hs ht
  |true =>
   simp only[cond_true,St.has,List.any_cons,Bool.or_eq_true];rcases hs with hs|hs
   ·grind
   ·exact .inr (ih hs ht)
theorem zO0 {s:Nat}:∀ {S:St},(S.get s)≠.junk→St.has s S=true:=by
 intro S
 induction S with
 |nil=>intro h;exact absurd rfl h
 |cons e r ih =>
  intro h;obtain⟨k,A⟩:=e;simp only[St.get] at h;simp only[St.has,List.any_cons,Bool.or_eq_true];cases hb:Nat.beq k s with
  |true=>simp_all
  |false =>
   right;cases hc:Nat.beq k zA4 with
   |true=>grind
   |false=>simp[hb,hc] at h;exact ih h
theorem zQ3 {T:Nat}{A:AVal}(h:A.hasTag T=true):A≠.junk:=by grind [AVal.hasTag]
end Go.Am
namespace Go.Am
open Go Go.RowKit
variable {gtab:GlobTab}{P:Program}{c:Ctx}{G:Gh}{w:World}{tm:Array Value}{n:Nat}{χ0:Nat→Nat→Nat}{w0:World}{S:St}{a:Act}
theorem yY7 {U d:Nat}:∀ {A:AVal}{s:Option Nat},A.hasTag U=false→A.hasTag d=false→¬ A.names (fun x=>x=zA9 U∨x=zA9 d) (fun x=>x=zA9 d) s:=by
 intro A
 induction A with
 |own t l T m=>intro s h1 h2;simp[AVal.names];exact⟨fun e=>by have:=zA3 e;simp_all [AVal.hasTag],fun e=>by have:=zA3 e;simp_all [AVal.hasTag]⟩
 |ownh t l T i V m =>
  intro s h1 h2;simp[AVal.hasTag] at h1 h2;have key:∀ K,Nat.beq U K=false→Nat.beq d K=false→¬ (zA9 K=zA9 U∨zA9 K=zA9 d):=fun K k1 k2 e=>by
   rcases e with e|e
   ·have:=zA3 e;simp_all
   ·have:=zA3 e;simp_all
  grind [AVal.names]
 |eref s' T t i p=>intro s _ h2;exact fun e=>by have:=zA3 e;simp_all [AVal.hasTag]
 |ref s' τ p=>grind [AVal.names,zA2]
 |opt _ _ _ A ih=>intro s h1 h2;exact ih h1 h2
 |box τ b ih =>
  intro s h1 h2;cases s with
  |none=>exact ih h1 h2
  |some s=>simp[AVal.names];exact⟨⟨zA2 _ _,zA2 _ _⟩,ih h1 h2⟩
 |may m τ b ih =>
  intro s h1 h2;cases s with
  |none=>exact ih h1 h2
  |some s=>simp[AVal.names];exact⟨⟨zA2 _ _,zA2 _ _⟩,ih h1 h2⟩
 |pn b s' τ=>grind [AVal.names,zA2]
 |cons x y ihx ihy=>grind [AVal.hasTag,AVal.names]
 |agg f b ih=>intro s h1 h2;exact ih h1 h2
 |tup b ih=>intro s h1 h2;exact ih h1 h2
 |fn f b ih=>intro s h1 h2;exact ih h1 h2
 |raw =>
  intro s _ _;cases s<;>grind [AVal.names,zA2]
 |rref s'=>grind [AVal.names,zA2]
 |fptr f caps=>grind [AVal.names,zA2]
 |bld T' e V l =>
  intro s h1 h2;have h1:Nat.beq U V=false:=h1;have h2:Nat.beq d V=false:=h2;have k:¬ (zA9 V=zA9 U∨zA9 V=zA9 d):=by
   rintro (e|e)
   ·have:=zA3 e;subst this;simp at h1
   ·have:=zA3 e;subst this;simp at h2
  cases s with
  |none=>exact k
  |some s =>
   rintro (e|e)
   ·rcases e with e|e<;>exact zA2 _ _ e
   ·exact k e
 |ptrs one l=>grind [AVal.names,zA2]
 |_=>grind [AVal.names]
theorem zG1 {T:Nat}(h:zC0 T S=true)(s:Nat):(S.get s).hasTag T=false:=by
 have:=xV4 (p:=fun A=>!(A.hasTag T)) (S:=S) (s:=s) (by simp[AVal.hasTag]) h
 grind
theorem yY8 {d:Nat}(h:zW6 d S=true)(s:Nat):(S.get s).hasRef d=false:=by
 have:=xV4 (p:=fun A=>!(A.hasRef d)) (S:=S) (s:=s) (by simp[AVal.hasRef]) h
 grind
theorem wG1 {U d:Nat}{G':Gh}{w':World}(hx:Ext (fun x=>x=zA9 U∨x=zA9 d) (fun x=>x=zA9 d) G w G' w') :
  MapOk (fun T=>T=d) G w G' w' (fun t l T' m=>bif Nat.beq U T' then (bif m then .junk else .val (.sl t) l) else .own t l T' m) (fun s T' t i p=>bif Nat.beq U T' then .junk else .eref s T' t i p):=by
 have h0:¬ ((0:Nat)=zA9 U∨(0:Nat)=zA9 d):=by rintro (e|e);exact zA7 _ e;exact zA7 _ e
 refine⟨hx.prot,fun s=>hx.box s (zA2 _ _),fun s hcol hlt=>?_,fun t l T m v hB ho hf=>?_,fun t l T m v hB ho tm=>?_,fun s T t i p v hB tm ha=>?_⟩
 ·have:=hx.block _ hlt (fun o=>by grind [zA2])
  grind
 ·cases hb:Nat.beq U T with
  |true =>
   simp  at hf ⊢;cases m with
   |true=>grind [AVal.fitsT]
   |false=>simp only[cond_false,zA8];exact⟨trivial,rfl,zA5 hx.prot (zE1 ho)⟩
  |false =>
   simp only[cond_false,zA8];refine⟨trivial,v,rfl,zF6 hx h0 ?_ ho⟩;rintro (e|e)
   ·have:=zA3 e;simp_all
   grind [zA3]
 ·cases hb:Nat.beq U T with
  |true =>
   cases m with
   |true=>simp[zA]
   |false=>exact zP2 (zA5 hx.prot (zE1 ho))
  |false =>
   refine zF6 hx h0 ?_ ho;rintro (e|e)
   ·have:=zA3 e;simp_all
   grind [zA3]
 ·cases hb:Nat.beq U T with
  |true=>simp[zA]
  |false =>
   simp[zA] at ha ⊢;rw[hx.tag T (fun e=>hB (zA3 e))]
   grind
theorem xV8 {U d:Nat}{A:AVal}(h:A.hung d=false):(A.lose U).hung d=false:=by
 refine yM0 h (fun t l T m=>?_) (fun s T t i p=>?_)
 all_goals grind [AVal.hung]
theorem zV7 (hR:Rel n χ0 w0 S a w G)(hn:n≤vNo){d U:Nat}{R:AVal}{v':Value}{G':Gh}{w':World}(hd:zC0 d S=true)
  (hx:Ext (fun x=>x=zA9 U∨x=zA9 d) (fun x=>x=zA9 d) G w G' w') (hfr:Frame0 χ0 w0 G'.χ w') (hr:∀ tm,zA G' w' tm (some d) R v')
  (hlt:∀ e∈(d,R)::zB7 U (AVal.lose U) S S,e.1<zA4) (hd0:d<n) (hh:∀ s,(S.get s).hung d=false) :
  Rel n χ0 w0 (((d,R)::zB7 U (AVal.lose U) S S)++S) (a.put (some d) v') w' G':=by
 have h0:¬ ((0:Nat)=zA9 U∨(0:Nat)=zA9 d):=by rintro (e|e);exact zA7 _ e;exact zA7 _ e
 have hdn:d<a.tmps.size:=by rw[hR.len];exact hd0
 refine zD7 hR hn hlt (fun d' e=>by injection e with e;subst e;exact hd0) (fun d' e=>by simp_all [St.has]) hx h0 hfr (fun s hs=>?_) (fun s d' e _=>by grind) (fun s hs=>?_)
 ·refine yY7 ?_ (zG1 hd s);cases ht:(S.get s).hasTag U with
  |false=>rfl
  |true=>have:=zV6 (k:=AVal.lose U) (zO0 (zQ3 ht)) ht;grind [St.has]
 ·by_cases e:s=d
  ·subst e;have:St.get ((s,R)::zB7 U (AVal.lose U) S S) s=R:=by simp[St.get]
   rw[this,zD6 hdn,if_pos rfl]
   grind
  ·have h1:Nat.beq d s=false:=by grind [Nat.beq,absurd,Nat.eq_of_beq_eq_true]
   have h2:Nat.beq d zA4=false:=by cases hb:Nat.beq d zA4 with
    |false=>rfl
    |true=>have:=hlt (d,R) (by simp);grind [Nat.eq_of_beq_eq_true]
   have hs':St.has s (zB7 U (AVal.lose U) S S)=true:=by grind [St.has]
   have hget:St.get ((d,R)::zB7 U (AVal.lose U) S S) s=AVal.lose U (S.get s):=by
    grind [St.get,zV5]
   rw[hget,zD6 hdn,if_neg e];refine zK4 (tm:=a.tmps) (fun k hk=>?_) ((wG1 hx).arep (fun T hT=>by grind [zG1]) (hR.reps s));rw[zD6 hdn,if_neg]
   grind [xV8]
end Go.Am
namespace Go.Am
open Go Go.RowKit
variable {gtab:GlobTab}{P:Program}{c:Ctx}{G:Gh}{w:World}{tm:Array Value}{n:Nat}{χ0:Nat→Nat→Nat}{w0:World}{S:St}{a:Act}
theorem wG2 {c:List Value}{k o m:Nat}(h:o+m≤k):seg (c.take k) o m=seg c o m:=by
 apply List.ext_getElem?;intro j;simp[seg_getElem?,List.getElem?_take];by_cases hj:j<m
 ·simp only[hj,if_true];rw[if_pos (by omega)]
 grind
theorem xE2 {c us:List Value}{k o:Nat}(h:o+us.length≤k)(hk:k≤c.length):(spl c o us).take k=spl (c.take k) o us:=by
 apply List.ext_getElem?;intro j;rw[List.getElem?_take,spl_getElem? _ _ _ _ (by omega),spl_getElem? _ _ _ _ (by grind),List.getElem?_take];by_cases hj:j<k
 ·grind
 ·rw[if_neg hj,if_neg (by omega),if_neg hj]
theorem yY9 {c us:List Value}{k o:Nat}(h:k≤o)(hk:o+us.length≤c.length):(spl c o us).take k=c.take k:=by
 apply List.ext_getElem?;intro j;rw[List.getElem?_take,List.getElem?_take,spl_getElem? _ _ _ _ hk];by_cases hj:j<k
 ·rw[if_pos hj,if_pos hj,if_neg (by omega)]
 simp_all [if_neg]
theorem xN1 (hfr:Frame0 χ0 w0 G.χ w){t:Ty}(htl:t.isL=false){l:List t.den}{U:Nat}{v0:Value}{i:Nat}{q:zG4}{B:AVal}{us:List Value}{y:t.den}(ho:zG3 G w t l U true v0)(hi:i<l.length)(hq:zE t q)
  (hv:zA8 G w (t.pty q) B us) (hy:AVal.as t (AVal.put q (.val t (l.getD i t.dflt)) B)=some y) :
  (∃ cur e,w.heap[G.γ U]?=some (.cells cur e (0,0))∧i*t.size+t.poff q+us.length≤cur.size) ∧
  Frame0 χ0 w0 G.χ (w.setCells (G.γ U) (i*t.size+t.poff q) us) ∧
  Ext (fun x=>x=zA9 U) (fun _=>False) G w G (w.setCells (G.γ U) (i*t.size+t.poff q) us) ∧
  MapOk (fun _=>False) G w G (w.setCells (G.γ U) (i*t.size+t.poff q) us)
   (fun t' l T' m=>bif Nat.beq U T' then (match Ty.cast t' y with|some y'=>bif m then .own t' (l.set i y') T' m else .junk|none=>.junk) else .own t' l T' m) (fun s T' t i p=>.eref s T' t i p):=by
 obtain⟨⟨hpl,hnl⟩,ho⟩:=zB1 ho htl;rcases ho with ⟨_,rfl⟩ | ⟨cap,cur,e,uz,rfl,h2,h3,h4,h5,h6,h7,h8⟩
 ·grind
 have hcol:∀ o,G.χ (G.γ U) o=zA9 U:=fun o=>by simp_all
 have hul:=zD1 (k:=t.size) (fun _ _ h=>zA1 h) h6;have hg:=zR3 h6 hi;have hsz:i*t.size+t.size≤l.length*t.size:=by rw[← Nat.succ_mul];exact Nat.mul_le_mul_right _ (by omega)
 have hlc:l.length*t.size≤cur.size:=by grind
 have hc0:zA8 G w t (.val t (l.getD i t.dflt)) (seg uz (i*t.size) t.size):=by simp_all [zA8]
 obtain⟨k1,k2,k3,k4⟩:=zT6 hpl hnl hq hc0;have hvl:=zB2 hv;have hfits:=zT7 hy;have hnew:=zN5 hy (xJ2 hpl hnl hq hc0 hv (zR2 hfits));have hfit:i*t.size+t.poff q+us.length≤cur.size:=by omega
 have hx:Ext (fun x=>x=zA9 U) (fun _=>False) G w G (w.setCells (G.γ U) (i*t.size+t.poff q) us):=zT9 (fun o=>hcol o) (zA7 U);obtain⟨cur',c1,c2⟩:=zJ6 (G.γ U) e (0,0) us (i*t.size+t.poff q) w cur h2 hfit;have hown:∀ {l2:List t.den}{v2:Value},zG3 G w t l2 U true v2→zG3 G (w.setCells (G.γ U) (i*t.size+t.poff q) us) t (l2.set i y) U true v2:=by
  intro l2 v2 ho2;have ho2:=zB1 ho2 htl;refine .inl ⟨⟨hpl,hnl⟩,?_⟩;rcases ho2.2 with ⟨rfl,rfl⟩ | ⟨cap2,cur2,e2,uz2,rfl,g2,g3,g4,g5,g6,g7,g8⟩
  ·simp_all
  ·rw[h2] at g2;injection g2 with g2
   injection g2 with g2 g2e _
   subst g2;have hul2:=zD1 (k:=t.size) (fun _ _ h=>zA1 h) g6;by_cases hi2:i<l2.length
   ·have hsz2:i*t.size+t.size≤l2.length*t.size:=by rw[← Nat.succ_mul];exact Nat.mul_le_mul_right _ (by omega)
    have hsame:seg uz2 (i*t.size) t.size=seg uz (i*t.size) t.size:=by
     grind [wG2]
    refine .inr ⟨cap2,cur',e,spl uz2 (i*t.size) (spl (seg uz2 (i*t.size) t.size) (t.poff q) us),by simp,c1,by grind,g4,?_,?_,?_,fun o=>by simp_all⟩
    ·grind [Array.length_toList,zQ0]
    ·exact zB8 (fun _ _ h=>zA5 hx.prot h) (yT0 (R:=zB6 G.χ w t) (k:=t.size) (fun _ _ h=>zA1 h) (by grind) g6 hi2)
    grind [List.length_set,xE2,Array.length_toList,yK5]
   ·have hsz2:l2.length*t.size≤i*t.size:=Nat.mul_le_mul_right _ (by omega);rw[List.set_eq_of_length_le (by omega)];refine .inr ⟨cap2,cur',e,uz2,by simp,c1,g3,g4,?_,zB8 (fun _ _ h=>zA5 hx.prot h) g6,?_,fun o=>by simp_all⟩
    all_goals grind [Array.length_toList,zQ0,yY9]
 refine⟨⟨cur,e,h2,hfit⟩,zN8 hfr (fun o=>by grind [zK9]),hx,hx.prot,fun s=>rfl,fun s hcs hlt=>?_,fun t2 l2 T m v2 _ ho2 hf=>?_,fun t2 l2 T m v2 _ ho2 tm=>?_,fun s T t i p v _ tm ha=>ha⟩
 ·have:=hx.block _ hlt (fun o=>by grind [zA2])
  grind
 ·cases hb:Nat.beq U T with
  |false =>
   simp only[cond_false,zA8];exact⟨trivial,v2,rfl,zF6 hx (zA7 U) (fun e=>by have:=zA3 e;subst this;simp at hb) ho2⟩
  |true =>
   have:=Nat.eq_of_beq_eq_true hb;subst this;simp only[hb,cond_true] at hf ⊢;cases hc:Ty.cast t2 y with
   |none=>simp[hc,AVal.fitsT] at hf
   |some y' =>
    obtain⟨e',rfl⟩:=zD2 hc;subst e';cases m with
    |false=>simp[hc,AVal.fitsT] at hf
    |true=>simp only[cond_true,zA8];exact⟨trivial,v2,rfl,hown ho2⟩
 ·cases hb:Nat.beq U T with
  |false =>
   simp only[cond_false,zA];exact zF6 hx (zA7 U) (fun e=>by have:=zA3 e;subst this;simp at hb) ho2
  |true =>
   have:=Nat.eq_of_beq_eq_true hb;subst this;simp only[cond_true];cases hc:Ty.cast t2 y with
   |none=>simp only[zA]
   |some y' =>
    obtain⟨e',rfl⟩:=zD2 hc;subst e';cases m with
    |false=>simp only[cond_false,zA]
    |true=>simp only[cond_true,zA];exact hown ho2
theorem wM7 {U:Nat}(hX:∀ o,G.χ (G.γ U) o=zA9 U){o':Obj}{es:Array MapEntry}{clock:Nat}(hb:w.heap[G.γ U]?=some (.map es clock)) :
  Ext (fun x=>x=zA9 U) (fun _=>False) G w G { w with heap:=w.heap.setIfInBounds (G.γ U) o' }:=by
 have hne:∀ b',b'≠G.γ U→({ w with heap:=w.heap.setIfInBounds (G.γ U) o' }:World).heap[b']?=w.heap[b']?:=fun b' h=>(Go.MapKept.heap_set hb).2 b' h
 refine⟨fun b' o hb h=>⟨h,?_⟩,fun b' hb h=>⟨hne b' ?_,fun _=>rfl⟩,by simp,fun _ _=>rfl,fun _ _=>rfl,fun _ h=>h.elim⟩
 ·grind [zA7,World.cell?]
 ·intro e;simp_all
theorem xV9 (h:Frame0 χ0 w0 G.χ w){U:Nat}(hX:∀ o,G.χ (G.γ U) o=zA9 U){o':Obj}{es:Array MapEntry}{clock:Nat}(hb:w.heap[G.γ U]?=some (.map es clock)) :
  Frame0 χ0 w0 G.χ { w with heap:=w.heap.setIfInBounds (G.γ U) o' }:=by
 have hne:∀ b',b'≠G.γ U→({ w with heap:=w.heap.setIfInBounds (G.γ U) o' }:World).heap[b']?=w.heap[b']?:=fun b' h=>(Go.MapKept.heap_set hb).2 b' h
 have hnot:∀ b' o,b'<w0.heap.size→χ0 b' o≤1→b'≠G.γ U:=by
  intro b' o hb' hc e;have:=(h.cell b' o hb' hc).1
  grind [zK9]
 refine⟨h.os,h.tape,h.output,by simpa using h.size,fun b' hb' hc=>?_,fun b' o hb' hc=>?_⟩
 ·rw[hne b' (hnot b' 0 hb' (hc 0))];exact h.block b' hb' hc
 ·have h1:=h.cell b' o hb' hc
  grind [World.cell?]
theorem xW (hfr:Frame0 χ0 w0 G.χ w){T U:Nat}{k e:Ty}(hT:MapTyIs P T k e){l:List (k.den×e.den×Unit)}{v kv ev:Value}{x:k.den}{y:e.den}(hM:wE7 G w k e l U v)(hk:zT2 G.χ w k x kv)(he:zT2 G.χ w e y ev) :
  ∃ w',(Instr.mapUpdate T v kv ev).run P w=.ok () w'∧Frame0 χ0 w0 G.χ w'∧Ext (fun x=>x=zA9 U) (fun _=>False) G w G w' ∧
   MapOk (fun _=>False) G w G w' (fun t' l T' m=>bif Nat.beq U T' then (match Ty.cast (a:=.sl t') (.sl (xS k e)) l with|some l'=>.own (xS k e) (wD8 k e x y l') T' m|none=>.junk) else .own t' l T' m) (fun s T' t i p=>.eref s T' t i p):=by
 obtain⟨es',clock',hrun,hE'⟩:=yB1 hT hM hk he;obtain⟨es,clock,hv,hb,hE,hcol⟩:=hM;have hx:=wM7 (G:=G) (w:=w) hcol (o':=.map es' clock') hb;have hown:∀ {l2:List (k.den×e.den×Unit)}{m:Bool}{v2:Value},zG3 G w (xS k e) l2 U m v2→zG3 G { w with heap:=w.heap.setIfInBounds (G.γ U) (.map es' clock') } (xS k e) (wD8 k e x y l2) U m v2:=by
  intro l2 m v2 ho2;have hm:m=true:=by
   rcases ho2 with h|h
   ·exact absurd h.1.2 (by simp[Ty.isL])
   grind
  subst hm;have hM2:=yT5 ho2;have hv2:v2=v:=by obtain⟨_,_,h,_⟩:=hM2;grind
  subst hv2;obtain⟨es2,clock2,hrun2,hE2⟩:=yB1 hT hM2 hk he;rw[hrun] at hrun2;injection hrun2 with _ hw
  have hh:=congrArg (fun w:World=>w.heap[G.γ U]?) hw;simp[(Go.MapKept.heap_set hb).1] at hh;obtain⟨rfl,_⟩:=hh;exact .inr ⟨rfl,k,e,_,rfl,HEq.rfl,es',clock',hv,(Go.MapKept.heap_set hb).1,yK1 hx.prot hE2,hcol⟩
 refine⟨_,hrun,xV9 hfr hcol hb,hx,hx.prot,fun s=>rfl,fun s hcs hlt=>?_,fun t2 l2 T' m v2 _ ho2 hf=>?_,fun t2 l2 T' m v2 _ ho2 tm=>?_,fun s T' t i p v _ tm ha=>ha⟩
 ·have:=hx.block _ hlt (fun o=>by grind [zA2])
  grind
 ·cases hbq:Nat.beq U T' with
  |false =>
   simp only[cond_false,zA8];exact⟨trivial,v2,rfl,zF6 hx (zA7 U) (fun e=>by have:=zA3 e;simp_all) ho2⟩
  |true =>
   have:=Nat.eq_of_beq_eq_true hbq;subst this;simp  at hf ⊢;split at hf
   ·rename_i l2' hl;obtain⟨e',hl⟩:=zD2 hl;injection e' with e'
    subst e';subst hl;simp only[zA8];exact⟨trivial,v2,rfl,hown ho2⟩
   grind [AVal.fitsT]
 ·cases hbq:Nat.beq U T' with
  |false =>
   exact zF6 hx (zA7 U) (fun e=>by have:=zA3 e;simp_all) ho2
  |true =>
   have:=Nat.eq_of_beq_eq_true hbq;grind [zD2,zA]
theorem yD0 {U:Nat}:∀ {A:AVal}{s:Option Nat},A.hasTag U=false→¬ A.names (fun x=>x=zA9 U) (fun _=>False) s:=by
 intro A
 induction A with
 |own t l T m=>intro s h1;exact fun e=>by have:=zA3 e;simp_all [AVal.hasTag]
 |ownh t l T i V m=>intro s h1;simp[AVal.names];exact⟨fun e=>by have:=zA3 e;simp_all [AVal.hasTag],fun e=>by have:=zA3 e;simp_all [AVal.hasTag]⟩
 |opt _ _ _ A ih=>intro s h1;exact ih h1
 |box τ b ih =>
  intro s h1;cases s with
  |none=>exact ih h1
  |some s=>simp[AVal.names];exact⟨zA2 _ _,ih h1⟩
 |may m τ b ih =>
  intro s h1;cases s with
  |none=>exact ih h1
  |some s=>simp[AVal.names];exact⟨zA2 _ _,ih h1⟩
 |cons x y ihx ihy=>grind [AVal.hasTag,AVal.names]
 |agg f b ih=>intro s h1;exact ih h1
 |tup b ih=>intro s h1;exact ih h1
 |fn f b ih=>intro s h1;exact ih h1
 |raw =>
  intro s _;cases s<;>grind [AVal.names,zA2]
 |bld T' e V l =>
  intro s h;have h:Nat.beq U V=false:=h;have k:zA9 V≠zA9 U:=fun e=>by have:=zA3 e;subst this;simp at h
  cases s with
  |none=>exact k
  |some s =>
   rintro (e|e)
   ·exact zA2 _ _ e
   ·exact k e
 |_=>grind [AVal.names]
theorem yD1 (hR:Rel n χ0 w0 S a w G)(hn:n≤vNo){U:Nat}{X Y:Nat→Prop}{G':Gh}{w':World}{g:(t:Ty)→List t.den→Nat→Bool→AVal}{h:Nat→Nat→Ty→Int→zG4→AVal}{Bad:Nat→Prop}
  (hx:Ext X Y G w G' w') (h0:¬ X 0) (hfr:Frame0 χ0 w0 G'.χ w') (hm:MapOk Bad G w G' w' g h) (hbad:∀ T,Bad T→∀ s,(S.get s).hasTag T=false)
  (hnames:∀ s,(S.get s).hasTag U=false→¬ (S.get s).names X Y (some s)) (hlt:∀ e∈zB7 U (AVal.mapOwn g h) S S,e.1<zA4) :
  Rel n χ0 w0 (zB7 U (AVal.mapOwn g h) S S++S) a w' G':=by
 have:=zD7 (u:=zB7 U (AVal.mapOwn g h) S S) (dst:=none) (v:=undef) hR hn hlt (fun d e=>by cases e) (fun d e=>by grind) hx h0 hfr (fun s hs=>hnames s (by
   grind [zV6,AVal.mapOwn,zO0,zQ3])) (fun s d e=>by grind) (fun s hs=>by
   rcases zV5 hs with h3|⟨e,he,h3⟩
   ·rw[h3.1];exact hm.arep (fun T hT=>hbad T hT s) (hR.reps s)
   grind)
 exact this
theorem yM1 (hR:Rel n χ0 w0 S a w G)(hn:n≤vNo){U:Nat}{X Y:Nat→Prop}{G':Gh}{w':World}{k:AVal→AVal}
  (hx:Ext X Y G w G' w') (h0:¬ X 0) (hfr:Frame0 χ0 w0 G'.χ w') (hk:∀ s,(S.get s).hasTag U=true→zA G' w' a.tmps (some s) (k (S.get s)) (a.tmps.getD s undef))
  (hnames:∀ s,(S.get s).hasTag U=false→¬ (S.get s).names X Y (some s)) (hlt:∀ e∈zB7 U k S S,e.1<zA4) :
  Rel n χ0 w0 (zB7 U k S S++S) a w' G':=by
 have:=zD7 (u:=zB7 U k S S) (dst:=none) (v:=undef) hR hn hlt (fun d e=>by cases e) (fun d e=>by grind) hx h0 hfr (fun s hs=>hnames s (by
   grind [zV6,zO0,zQ3])) (fun s d e=>by grind) (fun s hs=>by
   rcases zV5 hs with h3|⟨e,he,h3⟩
   ·rw[h3.1];exact hk s h3.2
   grind)
 exact this
theorem xN2 {X Y:Nat→Prop}{G':Gh}{w':World}(hx:Ext X Y G w G' w'){t:Ty}{l:List (List t.den)}{T j U:Nat}{m m':Bool}{v:Value}{x:List t.den}(hT:¬ X (zA9 T))
  (hin:∀ u,xC1 G w t (List.getD (α:=List t.den) l j []) U m u→xC1 G' w' t x U m' u) (hTU:T≠U) (h:xR9 G w t l T j U m v):xR9 G' w' t (List.set (α:=List t.den) l j x) T j U m' v:=by
 obtain⟨hv,⟨he,_⟩ | ⟨hne,⟨h1,h2⟩ | ⟨cap,cur,e,h1,h2,h3,h4,h5,h6,h7⟩⟩⟩:=h
 ·grind
 ·exact⟨hv,.inr ⟨hne,.inl ⟨h1,by grind⟩⟩⟩
 ·have hb:=hx.block (G.γ T) (zE0 h2) (fun o=>by grind);have hg:=hx.tag T (fun h=>hT (hx.sub _ h));refine⟨hv,.inr ⟨hne,.inr ⟨cap,cur,e,by grind,by grind,by grind,h4,h5,fun o=>by grind,fun k y hk=>?_⟩⟩⟩;rw[List.getElem?_set] at hk;by_cases e:j=k
  ·split at hk
   ·grind
   grind
  ·rw[if_neg e] at hk;obtain⟨u,hu,hr⟩:=h7 k y hk;have e':¬ k=j:=fun h=>e h.symm;rw[if_neg e'] at hr;exact⟨u,hu,by rw[if_neg e'];exact zA5 hx.prot hr⟩
theorem yU0 {α:Type}{R:α→List Value→Prop}(h1:∀ x vs,R x vs→vs.length=1):∀ {l:List α}{us:List Value},zM5 R l us→us.length=l.length∧∀ (j:Nat) (x:α),l[j]?=some x→∃ u,us[j]?=some u∧R x [u]:=by
 intro l
 induction l with
 |nil=>grind [zM5]
 |cons y l ih =>
  rintro us ⟨vs,ws,rfl,hy,hl⟩;have:=h1 _ _ hy
  match vs,this with
  |[v],_ =>
   grind
theorem wG3 {α:Type}{R:α→List Value→Prop}:∀ {l:List α}{us:List Value},us.length=l.length→(∀ (j:Nat) (x:α),l[j]?=some x→∃ u,us[j]?=some u∧R x [u])→zM5 R l us:=by
 intro l
 induction l with
 |nil=>intro us h _;simp at h;subst h;rfl
 |cons y l ih =>
  intro us h hg;cases us with
  |nil=>grind
  |cons v us =>
   obtain⟨u,hu,hr⟩:=hg 0 y rfl;simp at hu;subst hu;exact⟨[v],us,rfl,hr,ih (by grind) fun j x hj=>by obtain⟨u,hu,hr⟩:=hg (j+1) x (by grind);grind⟩
theorem xE3 (hfr:Frame0 χ0 w0 G.χ w){s:Ty}{T ty:TypeId}(hT:zC3 P (.sl (.sl s)) (.inl T)=true){l:List (List s.den)}{U d T' V:Nat}{m:Bool}{v bv:Value}(hA:zG3 G w (.sl s) l U true v)(hB:xR9 G w s [[]] T' 0 V m bv)
  (hVU:V≠U) (hTV:T'≠V) (hVd:V≠d) (hlen:List.length (α:=List s.den) l+1≤4294967296) :
  ∃ v' w' G',(Builtin.append_ #[T,T] ty #[v,bv]).run P w=.ok v' w'∧Ext (fun x=>x=zA9 U∨x=zA9 d) (fun x=>x=zA9 d) G w G' w'∧Frame0 χ0 w0 G'.χ w'∧xR9 G' w' s (List.append (α:=List s.den) l [[]]) d (List.length (α:=List s.den) l) V m v':=by
 obtain⟨hvt,⟨he,_⟩ | ⟨_,⟨_,h0⟩ | ⟨cap,cur,e,rfl,h2,h3,h4,h5,h6,h7⟩⟩⟩:=hB
 ·grind
 ·grind
 obtain⟨u,hu,hr⟩:=h7 0 [] rfl;have hc:zB6 G.χ w (.sl s) ([]:List s.den) [u]:=by
  simp only[zB6];rcases hr.2 with ⟨rfl,_⟩ | ⟨cap',_,_,_,rfl,_⟩
  all_goals grind
 obtain⟨v',w',G',q1,q2,q3,q4,q5⟩:=zU1 (P:=P) (t:=.sl s) (ty:=ty) (d:=d) (l2:=[[]]) (ns:=[u]) hfr hT (.inr hA) ⟨some ⟨G.γ T',0,none⟩,cap,rfl,.inr ⟨⟨G.γ T',0,none⟩,rfl,⟨[u],[],rfl,hc,rfl⟩,fun j u' hj=>by
  grind [Addr.add_mid,World.cell?]⟩⟩ hlen
 refine⟨v',w',G',q1,q2,q3,hvt,.inr ⟨fun e=>hVd e.symm,.inr ?_⟩⟩;have h0:¬ ((0:Nat)=zA9 U∨(0:Nat)=zA9 d):=by rintro (e|e);exact zA7 _ e;exact zA7 _ e
 have hr':=yA3 q2 h0 (by grind [zA3]) hr;rcases (zB1 q4 rfl).2 with ⟨_,h⟩ | ⟨cap',cur',e',us,rfl,g2,g3,g4,g5,g6,g7,g8⟩
 ·grind
 have hlast:=(q5.resolve_left (by simp)) _ _ _ rfl 0 u rfl;obtain⟨k1,k2⟩:=yU0 (fun y vs h=>by grind [zA1,Ty.size]) g6;refine⟨cap',cur',e',rfl,g2,g3,g4,by grind [Ty.size],fun o=>by grind,fun j x hj=>?_⟩;by_cases e:j=List.length (α:=List s.den) l
 ·simp_all [World.cell?,Ty.size]
 ·obtain⟨u',hu',hc'⟩:=k2 j x hj
  grind
theorem yQ4 (hfr:Frame0 χ0 w0 G.χ w){s:Ty}{l:List (List s.den)}{U V i:Nat}{m:Bool}{v0 u:Value}{x:List s.den}(ho:xR9 G w s l U i U true v0)(hi:i<List.length (α:=List s.den) l)(hne:V≠U)(hu:xC1 G w s x V m u) :
  (∃ cur e,w.heap[G.γ U]?=some (.cells cur e (0,0))∧i+1≤cur.size) ∧
  Frame0 χ0 w0 G.χ (w.setCells (G.γ U) i [u]) ∧
  Ext (fun x=>x=zA9 U) (fun _=>False) G w G (w.setCells (G.γ U) i [u]) ∧
  xR9 G (w.setCells (G.γ U) i [u]) s (List.set (α:=List s.den) l i x) U i V m v0:=by
 obtain⟨hv,⟨_,⟨hm,_⟩ | ⟨_,hK⟩⟩ | ⟨he,_⟩⟩:=ho
 ·grind
 rotate_left
 ·grind
 rcases hK with ⟨_,h0⟩ | ⟨cap,cur,e,rfl,h2,h3,h4,h5,hcol,h7⟩
 ·grind
 have hfit:i+1≤cur.size:=by omega
 have hx:Ext (fun x=>x=zA9 U) (fun _=>False) G w G (w.setCells (G.γ U) i [u]):=zT9 (fun o=>hcol o) (zA7 U);obtain⟨cur',c1,c2⟩:=zJ6 (G.γ U) e (0,0) [u] i w cur h2 (by grind);refine⟨⟨cur,e,h2,hfit⟩,zN8 hfr (fun o=>by grind [zK9]),hx,hv,.inr ⟨fun e=>hne e.symm,.inr ⟨cap,cur',e,by grind,c1,by grind,h4,?_,hcol,fun k y hk=>?_⟩⟩⟩
 ·grind [Array.length_toList,zQ0]
 ·rw[c2];rw[List.getElem?_set] at hk;have hsp:∀ k,(spl cur.toList i [u])[k]?=if i≤k∧k<i+1 then [u][k-i]? else cur.toList[k]?:=fun k=>by
   rw[spl_getElem? _ _ _ _ (by exact hfit)];rfl
  by_cases e:i=k
  ·refine⟨u,by grind,?_⟩
   grind [yA3,zA7,zA3]
  ·rw[if_neg e] at hk;have e':¬ k=i:=fun h=>e h.symm;obtain⟨u',hu',hr⟩:=h7 k y hk e';refine⟨u',?_,by rw[if_neg e'];exact zA5 hx.prot hr⟩;rw[hsp,if_neg (by omega)]
   grind
theorem xN3 (hfr:Frame0 χ0 w0 G.χ w){s:Ty}(hs:s.isL=false){l:List (List s.den)}{U V i:Nat}{m:Bool}{v0 u:Value}{x:List s.den}(ho:zG3 G w (.sl s) l U true v0)(hi:i<List.length (α:=List s.den) l)(hne:V≠U)(hu:zG3 G w s x V m u) :
  (∃ cur e,w.heap[G.γ U]?=some (.cells cur e (0,0))∧i+1≤cur.size) ∧
  Frame0 χ0 w0 G.χ (w.setCells (G.γ U) i [u]) ∧
  Ext (fun x=>x=zA9 U) (fun _=>False) G w G (w.setCells (G.γ U) i [u]) ∧
  MapOk (fun _=>False) G w G (w.setCells (G.γ U) i [u])
   (fun t0 l0 T0 m0=>bif Nat.beq U T0 then (match Ty.cast (a:=.sl t0) (.sl (.sl s)) l0 with|some l1=>bif m0 then .ownh s (List.set (α:=List s.den) l1 i x) U i V m else .junk|none=>.junk) else .own t0 l0 T0 m0) (fun s T' t i p=>.eref s T' t i p):=by
 have hu:=zB1 hu hs;obtain⟨hvt,ho⟩:=zB1 ho rfl;rcases ho with ⟨_,h0⟩ | ⟨cap,cur,e,uz,rfl,h2,h3,h4,h5,h6,h7,h8⟩
 ·grind
 have hcol:∀ o,G.χ (G.γ U) o=zA9 U:=fun o=>by simp_all
 have h5':cur.size=cap:=by grind [Ty.size]
 have hfit:i+1≤cur.size:=by omega
 have hx:Ext (fun x=>x=zA9 U) (fun _=>False) G w G (w.setCells (G.γ U) i [u]):=zT9 (fun o=>hcol o) (zA7 U);obtain⟨cur',c1,c2⟩:=zJ6 (G.γ U) e (0,0) [u] i w cur h2 (by grind);have hown:∀ {l2:List (List s.den)}{v2:Value},zG3 G w (.sl s) l2 U true v2→xR9 G (w.setCells (G.γ U) i [u]) s (List.set (α:=List s.den) l2 i x) U i V m v2:=by
  intro l2 v2 ho2;have ho2:=zB1 ho2 rfl;refine⟨hu.1,.inr ⟨fun e=>hne e.symm,?_⟩⟩;rcases ho2.2 with ⟨rfl,h0⟩ | ⟨cap2,cur2,e2,uz2,rfl,g2,g3,g4,g5,g6,g7,g8⟩
  ·exact .inl ⟨rfl,by grind⟩
  ·rw[h2] at g2;injection g2 with g2
   injection g2 with g2 g2e _
   subst g2;obtain⟨k1,k2⟩:=yU0 (fun y vs h=>by grind [zA1,Ty.size]) g6;refine .inr ⟨cap2,cur',e,by grind,c1,by grind,g4,?_,hcol,fun k y hk=>?_⟩
   ·grind [Array.length_toList,zQ0,Ty.size]
   ·rw[c2];rw[List.getElem?_set] at hk;have hsp:∀ k,(spl cur.toList i [u])[k]?=if i≤k∧k<i+1 then [u][k-i]? else cur.toList[k]?:=fun k=>by
     grind [spl_getElem?,Array.length_toList]
    by_cases e:i=k
    ·subst e;split at hk
     ·refine⟨u,by rw[hsp,if_pos ⟨Nat.le_refl _,by omega⟩];simp,?_⟩
      grind [yA3,zA7,zA3]
     grind
    ·rw[if_neg e] at hk;obtain⟨u',hu',hr⟩:=k2 k y hk;have e':¬ k=i:=fun h=>e h.symm;refine⟨u',?_,by rw[if_neg e'];exact zA5 hx.prot hr⟩;rw[hsp,if_neg (by omega)];rw[← g7,List.getElem?_take] at hu';split at hu'
     ·exact hu'
     ·cases hu'
 refine⟨⟨cur,e,h2,hfit⟩,zN8 hfr (fun o=>by grind [zK9]),hx,hx.prot,fun s=>rfl,fun s hcs hlt=>?_,fun t2 l2 T m v2 _ ho2 hf=>?_,fun t2 l2 T m v2 _ ho2 tm=>?_,fun s T t i p v _ tm ha=>ha⟩
 ·have:=hx.block _ hlt (fun o=>by rw[hcs];exact zA2 _ _)
  grind
 ·cases hb:Nat.beq U T with
  |false =>
   simp only[cond_false,zA8];exact⟨trivial,v2,rfl,zF6 hx (zA7 U) (fun e=>by have:=zA3 e;subst this;simp at hb) ho2⟩
  |true =>
   simp[hb] at hf;split at hf
   ·cases m<;>simp[AVal.fitsT] at hf
   ·simp[AVal.fitsT] at hf
 ·cases hb:Nat.beq U T with
  |false =>
   exact zF6 hx (zA7 U) (fun e=>by have:=zA3 e;subst this;simp at hb) ho2
  |true =>
   have:=Nat.eq_of_beq_eq_true hb;subst this;simp;split
   ·rename_i l1 hl;obtain⟨e',hl⟩:=zD2 hl;injection e' with e'
    subst e';subst hl;cases m with
    |false=>simp[zA]
    |true=>exact hown ho2
   ·simp only[zA]
end Go.Am
namespace Go.Am
open Go Go.RowKit
variable {rd:Option Nat}{gtab:GlobTab}{P:Program}{c:Ctx}{G:Gh}{w:World}{tm:Array Value}{n:Nat}{χ0:Nat→Nat→Nat}{w0:World}{S:St}{a:Act}
def fz (r:Option Nat):Fence:={ Fence.wide with round:=r }
theorem xW0 {o:Oper}{x:Next}{w':World}(hr:(execOp a.eval o).run P w=.ok x w')(hx:∀ d,x≠.defer d):(o.semAt rd a.eval).run P w=.ok x w':=by
 by_cases h:∃ c,o.op=.defer c
 ·obtain⟨c,hc⟩:=h;have he:execOp a.eval o=(resolve a.eval c o.type >>= fun d=>pure (.defer d)):=by grind [execOp]
  cases hq:(resolve a.eval c o.type).run P w with
  |ok d w1 =>
   have:Next.defer d=x:=by simp_all
   grind
  |halt y w1=>simp_all
 grind [Oper.semAt_eq]
theorem zJ9 {o:Oper}{next:Act→World→Prop}{Q:Exit→Act→World→Prop}{v:Value}{w':World}(hr:(execOp a.eval o).run P w=.ok (.value v) w')(h:next (a.put o.dst v) w'):o.wpIn (fz rd) 0 P a w next Q:=by
 refine⟨fun _ _=>trivial,?_⟩;rw[show (fz rd).round=rd from rfl,xW0 hr (by simp)];exact h
theorem zV8 {o:Oper}{next:Act→World→Prop}{Q:Exit→Act→World→Prop}{w':World}(hr:(execOp a.eval o).run P w=.ok .skip w')(h:next (a.put o.dst undef) w'):o.wpIn (fz rd) 0 P a w next Q:=by
 refine⟨fun _ _=>trivial,?_⟩;rw[show (fz rd).round=rd from rfl,xW0 hr (by simp)];exact h
theorem zO8 {o:Oper}{next:Act→World→Prop}{Q:Exit→Act→World→Prop}{f:Nat}{args:Array Value}{w':World}(hr:(execOp a.eval o).run P w=.ok (.enter f args) w')
  (h:Calls P f args w' fun e w''=>∃ v,e=.returned v∧next (a.put o.dst v) w''):o.wpIn (fz rd) 0 P a w next Q:=by
 refine⟨fun _ _=>trivial,?_⟩;rw[show (fz rd).round=rd from rfl,xW0 hr (by simp),Oper.uponIn_enter];refine⟨fun e=>(by cases e),?_⟩;have h1:CallsIn Fence.wide (0-1) P f args w' fun e w''=>∃ v,e=.returned v∧next (a.put o.dst v) w'':=callsIn_wide.2 h
 refine CallsIn.mono (F:=fz rd) h1 ?_;simp_all
theorem xN4 (hR:Rel n χ0 w0 S a w G)(hn:n≤vNo){gd:Gd}(hi:xJ9 a.tmps gd)(hon:yT7 a.tmps gd){o:Oper}{x y z:Operand}{p:List Prop}{u:St}{hv:Bool}(ho:o.op=.pick x y z)
  (h:yH6 gd o.dst x [arg S x,arg S y,arg S z]=some (p,u,hv)) (hlt:∀ e∈u,e.1<zA4) (hdo:∀ d,o.dst=some d→d<n) (hh:∀ s,∀ e∈u,(S.get s).hung e.1=false) (huu:∀ e∈u,∀ e'∈u,e.2.hung e'.1=false)
  {next:Act→World→Prop}{Q:Exit→Act→World→Prop}(hnext:∀ v w' G',Rel n χ0 w0 (u++S) (a.put o.dst v) w' G'→next (a.put o.dst v) w'):o.wpIn (fz rd) 0 P a w next Q:=by
 unfold yH6 at h;split at h
 ·rename_i d C A B hd hl;obtain⟨rfl,rfl,rfl⟩:=hl;split at h
  ·rename_i b τ av τ' yv e1 e2 e3;split at h
   ·rename_i zv hz;obtain⟨rfl,rfl,rfl⟩:=h;obtain⟨e',rfl⟩:=zD2 hz;have hC:=zN hon (zI0 hR x);rw[e1] at hC;have hcv:=VRep_bool.1 hC;have hA:=fun hb=>zS1 (x:=x) (want:=true) hon (ac:=a) rfl hb (zI0 hR y);have hB:=fun hb=>zS1 (x:=x) (want:=false) hon (ac:=a) rfl hb (zI0 hR z);have hrun:(execOp a.eval o).run P w=.ok (.value (if b then a.eval y else a.eval z)) w:=by
     unfold execOp;simp_all [asBool]
    refine zJ9 hrun (hnext _ w G ?_);rw[hd];refine zR7 hR hn (hdo d hd) (fun s=>hh s _ (List.mem_singleton.2 rfl)) (huu _ (List.mem_singleton.2 rfl) _ (List.mem_singleton.2 rfl)) (zN9 hi hon ?_)
    grind
   grind
  ·rename_i b e1 _;have hC:=zN hon (zI0 hR x);rw[e1] at hC;have hcv:=VRep_bool.1 hC;have hA:=fun hb=>zS1 (x:=x) (want:=true) hon (ac:=a) rfl hb (zI0 hR y);have hB:=fun hb=>zS1 (x:=x) (want:=false) hon (ac:=a) rfl hb (zI0 hR z);have hrun:(execOp a.eval o).run P w=.ok (.value (if b then a.eval y else a.eval z)) w:=by
    unfold execOp;simp_all [asBool]
   cases b with
   |true =>
    simp only[Option.some.injEq,Prod.mk.injEq] at h;obtain⟨rfl,rfl,rfl⟩:=h;refine zJ9 hrun (hnext _ w G ?_);rw[hd];exact zR7 hR hn (hdo d hd) (fun s=>hh s _ (List.mem_singleton.2 rfl)) (huu _ (List.mem_singleton.2 rfl) _ (List.mem_singleton.2 rfl)) (zN9 hi hon (hA hcv))
   |false =>
    simp only[Option.some.injEq,Prod.mk.injEq] at h;obtain⟨rfl,rfl,rfl⟩:=h;refine zJ9 hrun (hnext _ w G ?_);rw[hd];exact zR7 hR hn (hdo d hd) (fun s=>hh s _ (List.mem_singleton.2 rfl)) (huu _ (List.mem_singleton.2 rfl) _ (List.mem_singleton.2 rfl)) (zN9 hi hon (hB hcv))
  grind
 grind
theorem yZ {gd:Gd}{xs:List AVal}:∀ (i:Nat) X k,xs[i]?=some X→((xs.map (zB S)).map (zG gd))[i]?=some k→k=zG gd (zB S X):=by
 grind
def Gh.still (G:Gh)(b k:Nat):Gh:={ G with χ:=fun b' o=>if b'=b∧o<k then 0 else G.χ b' o }
theorem yD2 {b k:Nat}:∀ b' o,b'<w.heap.size→G.χ b' o=0→(G.still b k).χ b' o=0∧w.cell? ⟨b',o,none⟩=w.cell? ⟨b',o,none⟩:=by
 grind [Gh.still]
theorem yZ0 {X:Nat→Prop}{b k:Nat}(hb:∀ o,o<k→G.χ b o=0∨X (G.χ b o)):Ext X (fun _=>False) G w (G.still b k) w:=by
 refine⟨yD2,fun b' _ h=>⟨rfl,fun o=>?_⟩,Nat.le_refl _,fun _ _=>rfl,fun _ _=>rfl,fun _ h=>h.elim⟩
 grind [Gh.still]
theorem yM2 {b k:Nat}(hf:Frame0 χ0 w0 G.χ w)(hb:∀ o,o<k→G.χ b o=0∨1<G.χ b o):Frame0 χ0 w0 (G.still b k).χ w:=by
 refine⟨hf.os,hf.tape,hf.output,hf.size,hf.block,fun b' o hb' hc=>?_⟩;have:=hf.cell b' o hb' hc;simp only[Gh.still];split
 ·grind
 grind
theorem xE4 {T:Nat}{X:Nat→Prop}(hX:∀ x,X x→x=zA9 T):∀ {A:AVal}{s:Option Nat},A.hasTag T=false→¬ A.names X (fun _=>False) s:=by
 intro A
 induction A with
 |own t l T' m=>intro s h1;exact fun e=>by have:=zA3 (hX _ e);simp_all [AVal.hasTag]
 |ownh t l T' i V m=>intro s h1;simp[AVal.names];exact⟨fun e=>by have:=zA3 (hX _ e);simp_all [AVal.hasTag],fun e=>by have:=zA3 (hX _ e);simp_all [AVal.hasTag]⟩
 |opt _ _ _ A ih=>intro s h1;exact ih h1
 |box τ b ih =>
  intro s h1;cases s with
  |none=>exact ih h1
  |some s=>simp[AVal.names];exact⟨fun e=>zA2 _ _ (hX _ e),ih h1⟩
 |may m τ b ih =>
  intro s h1;cases s with
  |none=>exact ih h1
  |some s=>simp[AVal.names];exact⟨fun e=>zA2 _ _ (hX _ e),ih h1⟩
 |cons x y ihx ihy=>grind [AVal.hasTag,AVal.names]
 |agg f b ih=>intro s h1;exact ih h1
 |tup b ih=>intro s h1;exact ih h1
 |fn f b ih=>intro s h1;exact ih h1
 |raw =>
  intro s _;cases s<;>grind [AVal.names,zA2]
 |bld T' e V l =>
  intro s h;have h:Nat.beq T V=false:=h;have k:¬ X (zA9 V):=fun e=>by have:=zA3 (hX _ e);subst this;simp at h
  cases s with
  |none=>exact k
  |some s =>
   rintro (e|e)
   ·exact zA2 _ _ (hX _ e)
   ·exact k e
 |_=>grind [AVal.names]
theorem yB3 {t:Ty}(htl:t.isL=false){l:List t.den}{T:Nat}{m:Bool}{v:Value}(hf:Frame0 χ0 w0 G.χ w)(h:zG3 G w t l T m v) :
  ∃ G',Ext (fun x=>x=zA9 T) (fun _=>False) G w G' w∧Frame0 χ0 w0 G'.χ w∧G'.β=G.β∧∀ v',zG3 G w t l T m v'→zG3 G' w t l T false v':=by
 have hcol:∀ o,o<l.length*t.size→G.χ (G.γ T) o=0∨G.χ (G.γ T) o=zA9 T:=by
  rcases (zB1 h htl).2 with h' | ⟨cap,cur,e,us,h1,h2,h3,h4,h5,h6,h7,h8⟩
  all_goals grind
 refine⟨G.still (G.γ T) (l.length*t.size),yZ0 hcol,yM2 hf fun o ho=>(hcol o ho).imp id fun e=>by grind [zK9],rfl,fun v' h=>.inl ⟨(zB1 h htl).1,?_⟩⟩;rcases (zB1 h htl).2 with h' | ⟨cap,cur,e,us,h1,h2,h3,h4,h5,h6,h7,h8⟩
 all_goals grind [zB8,zA5,yD2,Gh.still]
theorem xW1 {d:Nat}{t:Ty}{l:List t.den}{T:Nat}{m:Bool}{u:St}(hR:Rel n χ0 w0 ((d,.own t l T m)::u++S) a w G)(_:n≤vNo)(hd:d<zA4)(ht:zC0 T (u++S)=true)(htl:t.isL=false) :
  ∃ G',Rel n χ0 w0 ((d,.own t l T false)::u++S) a w G':=by
 have hvc:vNo<zA4:=by decide
 have hg:∀ B:AVal,St.get ((d,B)::u++S) d=B:=fun B=>by simp[St.get]
 have hs:=hR.reps d;rw[hg] at hs;obtain⟨G',hx,hfr,_,hst⟩:=yB3 htl hR.frame hs;refine⟨G',hR.len,hR.defers,fun s=>?_,hfr,zI5 hx.prot hR.glob⟩;by_cases e:d=s
 ·grind [zA]
 ·have h1:Nat.beq d s=false:=by grind [Nat.beq,absurd,Nat.eq_of_beq_eq_true]
  have h2:Nat.beq d zA4=false:=by grind [Nat.beq,Nat.eq_of_beq_eq_true]
  have hgs:∀ B:AVal,St.get ((d,B)::u++S) s=St.get (u++S) s:=fun B=>by grind [St.get]
  have:=hR.reps s;rw[hgs] at this ⊢;exact zV hx (fun e=>zA7 _ e) _ (xE4 (fun x h=>h) (zG1 ht s)) this
theorem wG4 {d:Nat}{B B':AVal}(hR:Rel n χ0 w0 ([(d,B)]++S) a w G)(_:n≤vNo)(_:d<n)(h:zA G w a.tmps (some d) B' (a.tmps.getD d undef)):Rel n χ0 w0 ([(d,B')]++S) a w G:=by
 refine⟨hR.len,hR.defers,fun s=>?_,hR.frame,hR.glob⟩;have hvc:vNo<zA4:=by decide
 have:=hR.reps s;simp only[List.cons_append,St.get] at this ⊢
 grind [Nat.beq,Nat.eq_of_beq_eq_true]
theorem xN5 {d:Nat}{o:Oper}{q:Nat×Bool×Bool}{t:Ty}{l:List t.den}{m:Bool}{v:Value}{G':Gh}{w':World}(hn:n≤vNo)(hR:Rel n χ0 w0 S a w G)(hi:xJ9 a.tmps (some q))(hon:yT7 a.tmps (some q))(hd:o.dst=some d)
  (hr:zW6 d S=true) (ht:zC0 d S=true) (htl:t.isL=false) (hlt:∀ e∈[(d,zG2 (some q) (.val (.sl t) l))],e.1<n) (hh:∀ s,∀ e∈[(d,zG2 (some q) (.val (.sl t) l))],(S.get s).hung e.1=false)
  (huu:(zG2 (some q) (.val (.sl t) l)).hung d=false) (hx':Ext (·=zD8 d) (·=zD8 d) G w G' w'∨Ext (·=zA9 d) (·=zA9 d) G w G' w') (hfr:Frame0 χ0 w0 G'.χ w') (hA:∀ tm,zA G' w' tm (some d) (.own t l d m) v)
  {K:Act→World→Prop}(hK:∀ G'',Rel n χ0 w0 ([(d,zG2 (some q) (.val (.sl t) l))]++S) (a.put o.dst v) w' G''→K (a.put o.dst v) w'):K (a.put o.dst v) w':=by
 have hdn:d<n:=hlt _ (List.mem_singleton.2 rfl);have hda:d<a.tmps.size:=by rw[hR.len];exact hdn
 rw[hd] at hK ⊢;have hone:∀ s,St.has s [(d,AVal.own t l d m)]=true→s=d:=by intro s hs;simp[St.has] at hs;exact hs.symm
 have hnone:∀ s,St.has s [(d,AVal.own t l d m)]=false→s≠d:=by intro s hs e;subst e;simp[St.has] at hs
 have hnew:∀ s,St.has s [(d,AVal.own t l d m)]=true→zA G' w' (a.put (some d) v).tmps (some s) (St.get [(d,AVal.own t l d m)] s) ((a.put (some d) v).tmps.getD s undef):=by
  intro s hs;have:=hone s hs;subst this;have hg:∀ B:AVal,St.get [(s,B)] s=B:=fun B=>by simp[St.get]
  rw[hg,zD6 hda,if_pos rfl];exact hA _
 have hvc:vNo<zA4:=by decide
 have hlt':∀ e∈[(d,AVal.own t l d m)],e.1<zA4:=fun e he=>by simp at he;subst he;exact Nat.lt_trans (Nat.lt_of_lt_of_le hdn hn) hvc
 have hdd:∀ d',some d=some d'→d'<n:=fun d' e=>by injection e with e;subst e;exact hdn
 have hhs:∀ s,(S.get s).hung d=false:=fun s=>hh s _ (List.mem_singleton.2 rfl);have hR1:Rel n χ0 w0 ([(d,AVal.own t l d m)]++S) (a.put (some d) v) w' G':=by
  rcases hx' with hx' | hx'
  ·exact zD7 hR hn hlt' hdd (fun d' e=>by injection e with e;subst e;simp[St.has]) hx' (zC8 d) hfr (fun s hs=>yY (yY8 hr s) (fun e=>hnone s hs (by injection e))) (fun s d' e _=>by injection e with e;subst e;exact hhs s) hnew
  ·exact zD7 hR hn hlt' hdd (fun d' e=>by injection e with e;subst e;simp[St.has]) hx' (zA7 d) hfr (fun s hs=>yY0 (zG1 ht s)) (fun s d' e _=>by injection e with e;subst e;exact hhs s) hnew
 obtain⟨G'',hR2⟩:=xW1 (u:=[]) (S:=S) hR1 hn (Nat.lt_trans (Nat.lt_of_lt_of_le hdn hn) hvc) (by simpa using ht) htl;refine hK G'' (wG4 (B:=.own t l d false) hR2 hn hdn ?_);have h2:=hR2.reps d;have hg:St.get ([(d,AVal.own t l d false)]++S) d=.own t l d false:=by simp[St.get]
 simp only[List.nil_append,List.cons_append] at hg h2;rw[hg] at h2;simp only[zA] at h2;have h3:zA G'' w' (a.put (some d) v).tmps none (.val (.sl t) l) ((a.put (some d) v).tmps.getD d undef):=by
  simp only[zA];rw[zC6 rfl];exact zE1 h2
 obtain⟨s,want,g⟩:=q;have hsd:s≠d:=by
  intro e;subst e;simp[zG2,AVal.hung] at huu
 have htm:(a.put (some d) v).tmps.getD s undef=a.tmps.getD s undef:=by rw[zD6 hda,if_neg hsd]
 have:=zN9 (gd:=some (s,want,g)) (tm:=(a.put (some d) v).tmps) (fun s' want' g' e=>by
  simp only[Option.some.injEq,Prod.mk.injEq] at e;obtain⟨rfl,rfl,rfl⟩:=e;rw[htm];exact hi _ _ _ rfl) (fun s' want' g' e=>by
  simp only[Option.some.injEq,Prod.mk.injEq] at e;obtain⟨rfl,rfl,rfl⟩:=e;rw[htm];exact hon _ _ _ rfl) h3
 simp only[zG2,zA] at this ⊢;exact this
theorem xN6 (hc:CtxOk P c)(hR:Rel c.n χ0 w0 S a w G){gd:Gd}(hi:xJ9 a.tmps gd)(hon:yT7 a.tmps gd){o:Oper}{p:List Prop}{u:St}{hv:Bool}
  (h:zM4 c gd o.dst o.op (((zE7 o.op).map (arg S)).map (zG gd)) (((((zE7 o.op).map (arg S)).map (zG gd)).map (zB S)).map (zG gd)) S=some (p,u,hv))
  (hlt:∀ e∈u,e.1<zA4) (hdo:∀ d,o.dst=some d→d<c.n) (hh:∀ s,∀ e∈u,(S.get s).hung e.1=false) (huu:∀ e∈u,∀ e'∈u,e.2.hung e'.1=false) (hp:∀ q∈p,q)
  {next:Act→World→Prop}{Q:Exit→Act→World→Prop}(hnext:∀ v w' G',Rel c.n χ0 w0 (u++S) (a.put o.dst v) w' G'→next (a.put o.dst v) w'):o.wpIn (fz rd) 0 P a w next Q:=by
 unfold zM4 at h;split at h
 ·cases h
 ·rename_i d hd;split at h
  ·cases h
  ·rename_i p0 A hcore;have hx:=xJ7 hR hon (zE7 o.op);have hk:∀ (i:Nat) X k,(((zE7 o.op).map (arg S)).map (zG gd))[i]?=some X→(((((zE7 o.op).map (arg S)).map (zG gd)).map (zB S)).map (zG gd))[i]?=some k→∀ s,zE2 X=some s→∃ v,zA G w a.tmps (some s) k v:=by
    intro i X k h1 h2 s hs;rw[yZ i X k h1 h2];exact xD8 hon (zH0 hR hs)
   cases hm:yA2 o.op with
   |false =>
    simp only[hm,cond_false,Option.some.injEq,Prod.mk.injEq] at h;obtain⟨rfl,rfl,rfl⟩:=h;have hp0:=zO hi hon hp;obtain⟨v,hrun,hA⟩:=xV0 hc.tys hc.maps hc.fts o hm hx hk hcore hp0;refine zJ9 hrun (hnext v w G ?_);rw[hd];exact zR7 hR hc.n (hdo d hd) (fun s=>hh s (d,zG2 gd A) (by simp)) (huu (d,zG2 gd A) (by simp) (d,zG2 gd A) (by simp)) (zN9 hi hon hA)
   |true =>
    simp only[hm,cond_true] at h;have hp0:∀ q∈p0,q:=by
     cases hb:(Option.isNone gd&&zW6 d S&&zC0 d S) with
     |false =>
      simp only[hb,cond_false] at h;unfold gMk at h;split at h
      ·rename_i q' t l T m;cases hb':(zW6 d S&&zC0 d S&&Nat.beq T d&&!t.isL) with
       |false=>simp only[hb',cond_false] at h;cases h
       |true =>
        simp only[hb',cond_true,Option.some.injEq,Prod.mk.injEq] at h;rw[← h.1] at hp;exact zO hi hon hp
      ·cases h
     |true=>simp only[hb,cond_true,Option.some.injEq,Prod.mk.injEq] at h;rw[h.1];exact hp
    obtain⟨hf,v,w',G',hrun,hx',hfr,hA⟩:=xM6 hc.tys (fun q hq=>(hc.blds _ _ _ _ hq).zero) hc.fts o hm hR.frame hx hcore hp0;cases hb:(Option.isNone gd&&zW6 d S&&zC0 d S) with
    |false =>
     simp only[hb,cond_false] at h;unfold gMk at h;split at h
     ·rename_i q' t l T m;cases hb':(zW6 d S&&zC0 d S&&Nat.beq T d&&!t.isL) with
      |false=>simp only[hb',cond_false] at h;cases h
      |true =>
       simp only[hb',cond_true,Option.some.injEq,Prod.mk.injEq] at h;obtain⟨rfl,rfl,rfl⟩:=h;simp only[Bool.and_eq_true] at hb';have hTd:=Nat.eq_of_beq_eq_true hb'.1.2;subst hTd;refine zJ9 hrun (xN5 hc.n hR hi hon hd hb'.1.1.1 hb'.1.1.2 (by simpa using hb'.2) (fun e he=>by simp at he;subst he;exact hdo _ hd) hh (huu _ (List.mem_singleton.2 rfl) _ (List.mem_singleton.2 rfl)) hx' hfr hA fun G'' hR''=>hnext v w' G'' hR'')
     ·cases h
    |true =>
     simp only[hb,cond_true,Option.some.injEq,Prod.mk.injEq] at h;obtain⟨rfl,rfl,rfl⟩:=h;simp only[Bool.and_eq_true] at hb;refine zJ9 hrun (hnext v w' G' ?_);rw[hd];have hdd:∀ d',some d=some d'→d'<c.n:=fun d' e=>by injection e with e;subst e;exact hdo _ hd
     have hdn:d<a.tmps.size:=by rw[hR.len];exact hdo d hd
     have hone:∀ s,St.has s [(d,A)]=true→s=d:=by intro s hs;simp[St.has] at hs;exact hs.symm
     have hnone:∀ s,St.has s [(d,A)]=false→s≠d:=by intro s hs e;subst e;simp[St.has] at hs
     have hnew:∀ s,St.has s [(d,A)]=true→zA G' w' (a.put (some d) v).tmps (some s) (St.get [(d,A)] s) ((a.put (some d) v).tmps.getD s undef):=by
      intro s hs;have:=hone s hs;subst this;have hg:St.get [(s,A)] s=A:=by simp[St.get]
      rw[hg,zD6 hdn,if_pos rfl];exact hA _
     rcases hx' with hx' | hx'
     ·exact zD7 hR hc.n hlt hdd (fun d' e=>by injection e with e;subst e;simp[St.has]) hx' (zC8 d) hfr (fun s hs=>yY (yY8 hb.1.2 s) (fun e=>hnone s hs (by injection e))) (fun s d' e _=>by injection e with e;subst e;exact hh s (d,A) (by simp)) hnew
     ·exact zD7 hR hc.n hlt hdd (fun d' e=>by injection e with e;subst e;simp[St.has]) hx' (zA7 d) hfr (fun s hs=>yY0 (zG1 hb.2 s)) (fun s d' e _=>by injection e with e;subst e;exact hh s (d,A) (by simp)) hnew
end Go.Am
