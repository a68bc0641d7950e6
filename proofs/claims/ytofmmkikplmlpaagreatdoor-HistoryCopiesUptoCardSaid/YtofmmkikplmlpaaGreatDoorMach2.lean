/- The abstract machine, part 2: a typed interpreter for the program's code, and that it is sound. No condition. -/
import Derived.Test.YtofmmkikplmlpaaGreatDoorMach1
import Derived.MapKept
import Derived.OrdersIn
import Derived.RangeFuncCalls
namespace Go.Am
open Go Go.RowKit
variable {P:Program}{c:Ctx}{G:Gh}{w:World}{tm:Array Value}
theorem xO3 {f:Ty}:∀ {fs:List Field}{o:Nat},zC3 P f (.inr (fs,o))=true→∃ pl:List (Nat×Nat),fs.mapM (fun f=>(P.info? f.type).map fun i=>(f.offset,i.size))=some pl∧∀ k,k<f.flen→pl[k]?=some (o+f.foff k,(f.fty k).size):=by
 induction f with
 |nl=>intro fs o h;cases fs<;>simp[zC3] at h;simp_all [Ty.flen]
 |cons a b _ ihb =>
  intro fs o h;cases fs with
  |nil=>grind [zC3]
  |cons fd r =>
   simp only[zC3,Bool.and_eq_true] at h;obtain⟨⟨⟨h1,_⟩,h3⟩,h4⟩:=h;have h1:=Nat.eq_of_beq_eq_true h1;obtain⟨pl,h5,h6⟩:=ihb h4;obtain⟨⟨i,z,hi,hs,_⟩,_⟩:=zG8 h3;refine⟨(fd.offset,i.size)::pl,by grind,fun k hk=>?_⟩;cases k<;>grind [Ty.foff,Ty.fty,Ty.flen,Nat.add_assoc]
 |_=>grind [zC3]
theorem yT {ps:List (Nat×Operand)}{ρ:Operand→Value}:ps.map (fun x=>(x.1,ρ x.2))=List.zip (ps.map (·.1)) ((ps.map (·.2)).map ρ):=by
 grind
theorem zR9:∀ {ps:List (Nat×Operand)}{xs:List AVal},xs.length=ps.length→(zE3 ps xs).map (·.2)=xs∧(zE3 ps xs).map (·.1)=ps.map (·.1):=by
 intro ps
 induction ps with
 |nil=>intro xs h;cases xs<;>simp at h;exact⟨rfl,rfl⟩
 |cons q r ih =>
  intro xs h;cases xs<;>simp_all [zE3]
theorem zG2 {α β:Type}{R:α→β→Prop}:∀ {xs:List α}{ys:List β},zH6 R xs ys→xs.length=ys.length:=by
 intro xs
 induction xs with
 |nil=>grind [zH6]
 |cons x xs ih=>intro ys h;cases ys<;>simp[zH6] at h ⊢;grind
theorem yT0 (hty:zM7 P c.tys=true){T:Nat}{ps:Array (Nat×Operand)}{ρ:Operand→Value}{xs:List AVal}{A:AVal}{p:List Prop}(hx:zH6 (zA G w tm none) xs ((ps.toList.map (·.2)).map ρ))
  (h:xM5 c T (zE3 ps.toList xs)=some (p,A)):∃ r,(Instr.build T (ps.map fun (i,x)=>(i,ρ x))).run P w=.ok r w∧zA G w tm none A r:=by
 have hl:xs.length=ps.toList.length:=by rw[zG2 hx];simp
 obtain⟨e1,e2⟩:=zR9 hl;have hparts:(ps.map fun (i,x)=>(i,ρ x)).toList=List.zip ((zE3 ps.toList xs).map (·.1)) ((ps.toList.map (·.2)).map ρ):=by
  rw[e2,← yT];simp
 have hx':zH6 (zA G w tm none) ((zE3 ps.toList xs).map (·.2)) ((ps.toList.map (·.2)).map ρ):=by rw[e1];exact hx
 unfold xM5 at h;split at h
 ·rename_i f hT;have hT':=zI7 hty T (by rw[hT];simp);rw[hT] at hT';cases hb:(zX5 f (zE3 ps.toList xs)&&f.noPtr) with
  |false=>simp[hb] at h
  |true =>
   simp only[hb,cond_true] at h;simp only[Bool.and_eq_true] at hb;obtain⟨fs,h1,h2⟩:=zW0 hT';obtain⟨pl,h3,h4⟩:=xO3 h2;have hpl:=zI0 hT';simp only[Ty.plain,Bool.and_eq_true] at hpl;obtain⟨⟨i,z,hi,hs,_,hz,hzc,_⟩,_⟩:=zG8 hT';have hzr:zA8 G w f (zV f) z.cells.toList:=by rw[hzc];exact xD7 hb.2 hpl.2
   obtain⟨cells',h5,h6⟩:=yY0 (G:=G) (w:=w) (tm:=tm) (places:=(pl.toArray[·]?)) (fun k hk=>by simpa using h4 k hk) hpl.2 hb.1 hx' rfl hzr;have hbuilt:P.built T (ps.map fun (i,x)=>(i,ρ x)).toList=some cells':=by
    rw[hparts];simp only[Program.built,hi,h1,hz,h3];exact h5
   refine⟨.agg cells',run_build w T _ cells' hbuilt,?_⟩;cases hs:f.hasSl with
   |true =>
    simp only[hs,cond_true,Option.some.injEq,Prod.mk.injEq] at h;obtain⟨rfl,rfl⟩:=h;simp only[zA];exact⟨cells'.toList,by simp,h6⟩
   |false =>
    simp only[hs,cond_false] at h;split at h
    ·rename_i x hx;simp only[Option.some.injEq,Prod.mk.injEq] at h;obtain⟨rfl,rfl⟩:=h;simp only[zA];exact (zH2 rfl).2 ⟨cells'.toList,by simp,by simp only[zB4];exact zL8 hx h6⟩
    ·cases h
 ·rename_i n t hT;have hT':=zI7 hty T (by rw[hT];simp);rw[hT] at hT';cases hb:((zE3 ps.toList xs).all (fun q=>Nat.blt q.1 n)&&t.noPtr) with
  |false=>simp[hb] at h
  |true =>
   simp only[hb,cond_true] at h;simp only[Bool.and_eq_true] at hb;obtain⟨e,h1,h2⟩:=zT3 hT';obtain⟨⟨i,z,hi,hs,_,hz,hzc,_⟩,_⟩:=zG8 hT';obtain⟨⟨ie,ze,hie,hse,_⟩,_⟩:=zG8 h2;split at h
   ·rename_i l hl;simp only[Option.some.injEq,Prod.mk.injEq] at h;obtain⟨rfl,rfl⟩:=h;have hzr:zL0 (zB4 G.χ w t) (List.replicate n t.dflt) z.cells.toList:=by rw[hzc];exact zK (zT6 hb.2) n
    obtain⟨cells',h5,h6,h7⟩:=yS9 (G:=G) (w:=w) (tm:=tm) (zC5 h2) (fun q hq=>by simp;exact Nat.le_of_ble_eq_true (List.all_eq_true.1 hb.1 q hq)) hx' rfl hzr hl;have hbuilt:P.built T (ps.map fun (i,x)=>(i,ρ x)).toList=some cells':=by
     rw[hparts];simp only[Program.built,hi,h1,hz,hie,hse];exact h5
    refine⟨.agg cells',run_build w T _ cells' hbuilt,?_⟩;simp only[zA];exact (zH2 rfl).2 ⟨cells'.toList,by simp,by simp only[zB4];exact⟨by rw[h7];simp,h6⟩⟩
   ·cases h
 ·cases h
theorem zA7 (s T:Nat):zE s≠zB T:=by grind [zE,zB]
theorem zD8 {s t:Nat}(h:zE s=zE t):s=t:=by grind [zE]
theorem zA4 {s t:Nat}(h:zB s=zB t):s=t:=by grind [zB]
theorem zD4 (s:Nat):¬ (0=zE s):=by grind [zE]
theorem zA9 (s:Nat):¬ (0=zB s):=by grind [zB]
def Gh.newBox (G:Gh)(b d:Nat):Gh:={ χ:=fun b' o=>if b'=b then zE d else G.χ b' o,β:=fun s=>if s=d then b else G.β s,γ:=G.γ }
def Gh.newArr (G:Gh)(b d:Nat):Gh:={ χ:=fun b' o=>if b'=b then zB d else G.χ b' o,β:=G.β,γ:=fun s=>if s=d then b else G.γ s }
theorem zL3 (w:World)(o:Obj):(w.alloc o).heap[w.heap.size]?=some o:=by
 show (w.heap.push o)[w.heap.size]?=_;simp
theorem yB2 {b o:Nat}(h:b<w.heap.size)(x:Obj):(w.alloc x).cell? ⟨b,o,none⟩=w.cell? ⟨b,o,none⟩:=by
 grind [Below.heap_alloc,World.cell?]
theorem zT7 (x:Obj)(d:Nat):Ext (·=zE d) (·=zE d) G w (G.newBox w.heap.size d) (w.alloc x):=by
 refine⟨fun b o hb h=>?_,fun b hb _=>?_,by simp,fun s hs=>?_,fun T _=>rfl,fun _ h=>h⟩
 ·exact⟨by simp only[Gh.newBox];grind,yB2 hb x⟩
 ·exact⟨Below.heap_alloc w x b hb,fun o=>by simp only[Gh.newBox];rw[if_neg (by omega)]⟩
 ·simp only[Gh.newBox];rw[if_neg (fun e=>hs (by rw[e]))]
theorem zO6 (x:Obj)(d:Nat):Ext (·=zB d) (·=zB d) G w (G.newArr w.heap.size d) (w.alloc x):=by
 refine⟨fun b o hb h=>?_,fun b hb _=>?_,by simp,fun s _=>rfl,fun T hT=>?_,fun _ h=>h⟩
 ·exact⟨by simp only[Gh.newArr];grind,yB2 hb x⟩
 ·exact⟨Below.heap_alloc w x b hb,fun o=>by simp only[Gh.newArr];rw[if_neg (by omega)]⟩
 ·simp only[Gh.newArr];rw[if_neg (fun e=>hT (by rw[e]))]
theorem zM0 {χ0:Nat→Nat→Nat}{w0:World}(h:Frame0 χ0 w0 G.χ w)(x:Obj)(χ':Nat→Nat→Nat)(hχ:∀ b o,b<w.heap.size→χ' b o=G.χ b o):Frame0 χ0 w0 χ' (w.alloc x):=by
 refine⟨h.os,h.tape,h.output,Nat.le_trans h.size (by simp),fun b hb hc=>?_,fun b o hb hc=>?_⟩
 ·rw[Below.heap_alloc w x b (Nat.lt_of_lt_of_le hb h.size)];exact h.block b hb hc
 ·have hlt:=Nat.lt_of_lt_of_le hb h.size;rw[yB2 hlt,hχ b o hlt];exact h.cell b o hb hc
theorem yL6 {X Y:Nat→Prop}(hX:∀ T,¬ X (zB T)):∀ {A:AVal}{τ:Ty}{us:List Value},zA8 G w τ A us→¬ A.names X Y none:=by
 intro A
 induction A with
 |val _ _=>grind [AVal.names]
 |nil=>grind [AVal.names]
 |own t l T m=>grind [AVal.names]
 |agg f a ih=>grind [zA8,AVal.names]
 |nl=>grind [AVal.names]
 |junk=>grind [AVal.names]
 |cons a b iha ihb=>intro τ us h;simp only[zA8] at h;simp[AVal.names];grind
 |_=>grind [zA8]
theorem yT1 {d:Nat}:∀ {A:AVal}{s:Option Nat},A.hasRef d=false→s≠some d→¬ A.names (·=zE d) (·=zE d) s:=by
 intro A
 induction A with
 |own t l T m=>grind [AVal.names,zA7]
 |ownh t l T i U m=>grind [AVal.names,zA7]
 |eref _ T _ _ _=>grind [AVal.names,zA7]
 |ref s' τ p=>intro s h _;intro e;have:=zD8 e;simp_all [AVal.hasRef]
 |opt _ _ _ A ih=>intro s h _;exact ih h (by simp)
 |box τ a ih =>
  intro s h hs;cases s with
  |none=>exact ih h (by simp)
  |some s=>simp[AVal.names];exact⟨fun e=>hs (by rw[zD8 e]),ih h (by simp)⟩
 |may b τ a ih =>
  intro s h hs;cases s with
  |none=>exact ih h (by simp)
  |some s=>simp[AVal.names];exact⟨fun e=>hs (by rw[zD8 e]),ih h (by simp)⟩
 |pn b s' τ=>intro s h _;intro e;have:=zD8 e;simp_all [AVal.hasRef]
 |cons a b iha ihb=>grind [AVal.hasRef,AVal.names]
 |agg f a ih=>intro s h _;exact ih h (by simp)
 |tup a ih=>intro s h _;exact ih h (by simp)
 |fn f a ih=>intro s h _;exact ih h (by simp)
 |raw =>
  intro s _ hs;cases s<;>grind [AVal.names,zD8]
 |rref s'=>intro s h _;intro e;have:=zD8 e;simp_all [AVal.hasRef]
 |fptr f caps =>
  intro s h _;rintro⟨k,τ,hm,e⟩;have:=zD8 e;simp only[AVal.hasRef] at h;have:=List.any_eq_true.2 ⟨_,hm,show xV8 k (some (k,τ))=true by simp[xV8]⟩
  grind
 |_=>grind [AVal.names]
theorem yT2 {T:Nat}:∀ {A:AVal}{s:Option Nat},A.hasTag T=false→¬ A.names (·=zB T) (·=zB T) s:=by
 intro A
 induction A with
 |own t l T' m=>intro s h;intro e;have:=zA4 e;simp_all [AVal.hasTag]
 |ownh t l T' i U m=>intro s h;simp[AVal.names];exact⟨fun e=>by have:=zA4 e;simp_all [AVal.hasTag],fun e=>by have:=zA4 e;simp_all [AVal.hasTag]⟩
 |eref _ T' _ _ _=>intro s h;intro e;have:=zA4 e;simp_all [AVal.hasTag]
 |ref s' τ p=>grind [AVal.names,zA7]
 |opt _ _ _ A ih=>intro s h;exact ih h
 |box τ a ih =>
  intro s h;cases s with
  |none=>exact ih h
  |some s=>simp[AVal.names];exact⟨zA7 _ _,ih h⟩
 |may b τ a ih =>
  intro s h;cases s with
  |none=>exact ih h
  |some s=>simp[AVal.names];exact⟨zA7 _ _,ih h⟩
 |pn b s' τ=>grind [AVal.names,zA7]
 |cons a b iha ihb=>grind [AVal.hasTag,AVal.names]
 |agg f a ih=>intro s h;exact ih h
 |tup a ih=>intro s h;exact ih h
 |fn f a ih=>intro s h;exact ih h
 |raw =>
  intro s h;cases s<;>grind [AVal.names,zA7]
 |rref s'=>grind [AVal.names,zA7]
 |fptr f caps=>grind [AVal.names,zA7]
 |_=>grind [AVal.names]
theorem xO4 {τ:Ty}{A:AVal}{us:List Value}{d e:Nat}(h:zA8 G w τ A us)(hv:yE2 τ) :
  zA (G.newBox w.heap.size d) (w.alloc (.cells us.toArray e)) tm (some d) (.box τ A) (.pointer (some ⟨w.heap.size,0,none⟩)):=by
 refine⟨by simp[Gh.newBox],hv,us.toArray,e,?_,?_,fun o=>by simp[Gh.newBox]⟩
 ·simp only[Gh.newBox];exact zL3 w _
 ·exact zY8 (zT7 _ d) (zD4 d) (yL6 (fun T=>fun e=>zA7 _ _ e.symm) h) h
theorem xO5 {t:Ty}{l:List t.den}{us rest:List Value}{d e cap:Nat}(h:zL0 (zB4 G.χ w t) l us)(hv:yE2 t)(hcap:(us++rest).length=cap*t.size)(hlc:l.length≤cap)(hm:cap≤maxLen) :
  zA (G.newArr w.heap.size d) (w.alloc (.cells (us++rest).toArray e)) tm (some d) (.own t l d true) (.slice (some ⟨w.heap.size,0,none⟩) l.length cap):=by
 have hul:=zC6 (k:=t.size) (fun _ _ h=>zA1 h) h;refine .inl ⟨hv,.inr ⟨cap,(us++rest).toArray,e,us,by simp[Gh.newArr],?_,hlc,hm,by grind,?_,?_,fun o=>by simp[Gh.newArr]⟩⟩
 ·simp only[Gh.newArr];exact zL3 w _
 ·exact zB5 (fun _ _ h=>zA2 (zO6 _ d).prot h) h
 grind
end Go.Am
namespace Go.Am
open Go Go.RowKit
variable {P:Program}{c:Ctx}{G:Gh}{w:World}{tm:Array Value}
theorem zI9 (b:Nat)(e:TypeId)(fr:Nat×Nat):∀ (vs:List Value) (o:Nat) (w:World) (cur:Array Value),w.heap[b]?=some (.cells cur e fr)→o+vs.length≤cur.size →
  ∃ cur',(w.setCells b o vs).heap[b]?=some (.cells cur' e fr)∧cur'.toList=spl cur.toList o vs:=by
 intro vs
 induction vs with
 |nil=>intro o w cur h _;exact⟨cur,h,by simp[xN8]⟩
 |cons v r ih =>
  intro o w cur h hl;have h1:(w.setCell ⟨b,o,none⟩ v).heap[b]?=some (.cells (cur.setIfInBounds o v) e fr):=by
   simp only[World.setCell,Array.getElem?_modify,h];simp
  obtain⟨cur',h2,h3⟩:=ih (o+1) _ _ h1 (by grind);refine⟨cur',h2,?_⟩;rw[h3];apply List.ext_getElem?;intro j;rw[spl_getElem? _ _ _ _ (by grind),spl_getElem? _ _ _ _ (by grind)];simp[List.getElem?_set];by_cases h1:o=j
  ·subst h1;rw[if_neg (by omega),if_pos rfl,if_pos (by grind),if_pos ⟨by omega,by omega⟩];simp
  ·by_cases h2:o+1≤j∧j<o+1+r.length
   ·rw[if_pos h2,if_pos ⟨by omega,by omega⟩,show j-o=(j-(o+1))+1 from by omega];simp
   ·rw[if_neg h2,if_neg h1,if_neg (by omega)]
theorem zE0 (b:Nat):∀ (vs:List Value) (o:Nat) (w:World) (k:Nat),k≠b→(w.setCells b o vs).heap[k]?=w.heap[k]?:=by
 intro vs
 induction vs<;>grind [World.setCells,Below.heap_setCell]
theorem zQ (b:Nat):∀ (vs:List Value) (o:Nat) (w:World),(w.setCells b o vs).heap.size=w.heap.size:=by
 intro vs
 induction vs<;>grind [World.setCells,World.setCell]
theorem yE6 (b:Nat):∀ (vs:List Value) (o:Nat) (w:World),(w.setCells b o vs).os=w.os∧(w.setCells b o vs).tape=w.tape∧(w.setCells b o vs).output=w.output:=by
 intro vs
 induction vs with
 |nil=>intro o w;exact⟨rfl,rfl,rfl⟩
 |cons v r ih=>intro o w;exact ih _ _
theorem zJ {τ:Ty}{T b o:Nat}{us:List Value}{u:Value}(hT:zC3 P τ (.inl T)=true)(hc:u.cells.toList=us)(hl:us.length=τ.size)(h1:∀ x∈us,x.oneCell'=true)
  {cur:Array Value}{e:TypeId}(hb:w.heap[b]?=some (.cells cur e (0,0))) (ho:o+us.length≤cur.size) :
  (Instr.storeAt T (.pointer (some ⟨b,o,none⟩)) u).run P w=.ok () (w.setCells b o us):=by
 obtain⟨⟨i,z,hi,hs,_⟩,_⟩:=zG8 hT;have:=run_storeCells_cells (P:=P) b o us 0 w (fun j hj=>by
   grind [World.cell?]) (fun j hj=>by grind [World.frozen?]) h1
 grind [Instr.storeAt,Instr.sureAddr,Sem.run_bind,Sem.run_pure,Result.andThen_ok,storeVar,zD3]
theorem zS {X:Nat→Prop}{b o:Nat}{us:List Value}(hX:∀ o,X (G.χ b o))(h0:¬ X 0):Ext X (fun _=>False) G w G (w.setCells b o us):=by
 refine⟨fun b' o' hb h=>⟨h,?_⟩,fun b' hb h=>⟨?_,fun _=>rfl⟩,by grind [zQ],fun _ _=>rfl,fun _ _=>rfl,fun _ h=>h.elim⟩
 ·grind [World.cell?,zE0]
 ·have hne:b'≠b:=by intro e;simp_all
  grind [zE0]
theorem zM1 {χ0:Nat→Nat→Nat}{w0:World}(h:Frame0 χ0 w0 G.χ w){b o:Nat}{us:List Value}(hb:∀ o,1<G.χ b o):Frame0 χ0 w0 G.χ (w.setCells b o us):=by
 obtain⟨s1,s2,s3⟩:=yE6 b us o w;refine⟨s1.trans h.os,s2.trans h.tape,s3.trans h.output,by rw[zQ];exact h.size,fun b' hb' hc=>?_,fun b' o' hb' hc=>?_⟩
 ·have hne:b'≠b:=by
   intro e;subst e;have h1:=(h.cell b' 0 hb' (hc 0)).1
   grind
  rw[zE0 b us o w b' hne];exact h.block b' hb' hc
 ·have h1:=h.cell b' o' hb' hc
  grind [World.cell?,zE0]
theorem yT3 (hty:zM7 P c.tys=true){T s:Nat}{x k v C:AVal}{xv kv vv:Value}(hx:zA G w tm none x xv)(hk:∀ s',zD0 x=some s'→zA G w tm (some s') k kv)(hv:zA G w tm none v vv)
  (h:xM4 c T x k v=some (s,C)) :
  ∃ us o,(Instr.storeAt T xv vv).run P w=.ok () (w.setCells (G.β s) o us)∧(∀ o,G.χ (G.β s) o=zE s)∧zD0 x=some s∧zA G (w.setCells (G.β s) o us) tm (some s) C kv:=by
 unfold xM4 at h;split at h
 ·rename_i s' τ q;split at h
  ·rename_i τ' k;cases hc:(Ty.beq τ' τ&&c.is T (τ.pty q)&&AVal.fits (τ.pty q) v&&AVal.laxT (k.at q) (τ.pty q)&&AVal.laxT (AVal.put q k v) τ) with
   |false=>grind
   |true =>
    simp[hc,cond_true,Option.some.injEq,Prod.mk.injEq] at h;obtain⟨rfl,rfl⟩:=h;simp  at hc;obtain⟨⟨⟨⟨h1,h2⟩,h3⟩,h4⟩,h5⟩:=hc;have e:=Ty.eq_of_beq h1;subst e;have hT:=zB6 hty h2;have hkb:=hk s' rfl;obtain⟨⟨hpl,hnl⟩,cur,e,g1,g2,g3⟩:=zH5 hkb;obtain⟨hq,rfl⟩:=hx;obtain⟨t1,t2,t3,t4⟩:=zR6 hpl hnl hq g2;obtain⟨us,u1,u2⟩:=zR8 hv h3 t4;have hone:=zT5 u1;have hcel:=zJ6 u2 hone;have hul:=zB1 u1;have hcl:=zB1 g2;have hcs:τ'.poff q+us.length≤cur.size:=by grind
    refine⟨us,τ'.poff q,zJ hT hcel hul hone g1 hcs,g3,rfl,?_⟩;obtain⟨cur',c1,c2⟩:=zI9 (G.β s') e (0,0) us (τ'.poff q) w cur g1 hcs;have hput:=xD5 hpl hnl hq g2 u1 h5;have hext:Ext (·=zE s') (fun _=>False) G w G (w.setCells (G.β s') (τ'.poff q) us):=zS (fun o=>g3 o) (zD4 s');have hput':=zY8 hext (zD4 s') (yL6 (fun T=>fun e=>zA7 _ _ e.symm) hput) hput;exact⟨hkb.1,⟨hpl,hnl⟩,cur',e,c1,by grind,g3⟩
  grind
 grind
end Go.Am
namespace Go.Am
open Go Go.RowKit
variable {P:Program}{c:Ctx}{G:Gh}{w:World}{tm:Array Value}
def Gh.reown (G:Gh)(b d n:Nat)(m:Bool):Gh:=
 {χ:=fun b' o=>if b'=b then (if m=false∧o<n then 0 else zB d) else G.χ b' o,β:=G.β,γ:=fun s=>if s=d then b else G.γ s }
theorem yT4 {t:Ty}(ht:t.isL=false){B:AVal}{l2:List t.den}{v:Value}(hB:zA G w tm none B v)
  (h:wH6 t B=some l2) :
  ∃ a cap,v=.slice a l2.length cap∧(l2=[]∨∃ ad us,a=some ad∧zL0 (zB4 G.χ w t) l2 us∧∀ j u,us[j]?=some u→w.cell? (ad.add j)=some u):=by
 have pure:∀ {v},zB4 G.χ w (.sl t) l2 [v]→∃ a cap,v=.slice a l2.length cap∧(l2=[]∨∃ ad us,a=some ad∧zL0 (zB4 G.χ w t) l2 us∧∀ j u,us[j]?=some u→w.cell? (ad.add j)=some u):=by
  intro v hc;obtain⟨a,cap,hv,hc⟩:=hc;injection hv with hv _
  refine⟨a,cap,hv,?_⟩;rcases hc with hc|⟨b,o,us,ha,_,h3,h4⟩
  ·grind
  ·exact .inr ⟨⟨b,o,none⟩,us,ha,h3,fun j u hu=>by rw[Addr.add_mid];exact (h4 j u hu).1⟩
 cases B with
 |own t' l T m =>
  obtain⟨e,rfl⟩:=zC7 h;injection e with e;subst e
  rcases (zB0 hB ht).2 with ⟨rfl,rfl⟩ | ⟨cap,cur,e,us,rfl,h2,h3,h4,h5,h6,h7,h8⟩
  ·simp_all
  ·refine⟨_,cap,rfl,.inr ⟨_,us,rfl,h6,fun j u hu=>?_⟩⟩;rw[Addr.add_mid];rw[← h7,List.getElem?_take] at hu;split at hu
   ·simp[World.cell?,h2];simpa using hu
   ·cases hu
 |nn b =>
  simp[wH6] at h;obtain⟨a,cap,rfl,_⟩:=hB;simp_all
 |_ =>
  have hv:=zJ4 h rfl hB;exact pure ((zC rfl).1 hv)
theorem zS0 {T ty e:TypeId}(ht:P.underlying T=some (.slice e)){i:TypeInfo}(hi:P.info? e=some i){base:Option Addr}{n cap:Nat}(hn:n≤cap){a:Option Addr}{k:Nat}(w:World) :
  (Builtin.append_ #[T,T] ty #[.slice base n cap,.slice a 0 k]).run P w=.ok (.slice base n cap) w:=by
 cases a with
 |none=>cases base<;>simp[Builtin.append_,run_underlying ht,sizeOf,typeInfo,hi,Builtin.lenOf,hn,Builtin.firstCells,storeCells]
 |some a=>cases base<;>simp[Builtin.append_,run_underlying ht,sizeOf,typeInfo,hi,Builtin.lenOf,hn,Builtin.firstCells,loadCells,loadCellsFrom,storeCells]
theorem yE7 (t ty e e0:TypeId)(i:TypeInfo)(ht:P.underlying t=some (.slice e))(hi:P.info? e=some i)
  (g sLen sCap:Nat) (cur:Array Value) (hg:w.heap[g]?=some (.cells cur e0 (0,0)))
  (a:Addr) (m c:Nat) (news:List Value) (hl:news.length=m*i.size) (hnews:∀ j u,news[j]?=some u→w.cell? (a.add j)=some u) (h1:∀ u∈news,u.oneCell'=true)
  (hroom:sLen+m≤sCap) (hfit:sLen*i.size+news.length≤cur.size) :
  (Builtin.append_ #[t,t] ty #[.slice (some ⟨g,0,none⟩) sLen sCap,.slice (some a) m c]).run P w =
   .ok (.slice (some ⟨g,0,none⟩) (sLen+m) sCap) (w.setRow g (cur.toList.take (sLen*i.size)++news++cur.toList.drop (sLen*i.size+news.length)).toArray):=by
 have hf:=run_firstCells_some (P:=P) w i.size m a m c news hl hnews;have hst:=run_storeCells_at P g (sLen*i.size) e0 news 0 cur w hg (by grind) h1;simp[Builtin.append_,run_underlying ht,sizeOf,typeInfo,hi,Builtin.lenOf,hroom,hf,Addr.add_lit,hst]
theorem yT5 {U d:Nat}{n k:Nat}{m:Bool}{w':World}(hk:k≤n)(hcol:∀ o,G.χ (G.γ U) o=if m=false∧o<k then 0 else zB U)
  (hsz:w.heap.size≤w'.heap.size) (hoth:∀ b,b≠G.γ U→b<w.heap.size→w'.heap[b]?=w.heap[b]?) (hcell:∀ o,o<k→w'.cell? ⟨G.γ U,o,none⟩=w.cell? ⟨G.γ U,o,none⟩) :
  Ext (fun x=>x=zB U∨x=zB d) (fun x=>x=zB d) G w (G.reown (G.γ U) d n m) w':=by
 refine⟨fun b o hb h=>?_,fun b hb h=>?_,hsz,fun s _=>rfl,fun T hT=>?_,fun _ h=>.inr h⟩
 ·by_cases e:b=G.γ U
  ·subst e;by_cases hc:m=false∧o<k
   ·exact⟨by simp only[Gh.reown];rw[if_pos trivial,if_pos ⟨hc.1,by omega⟩],hcell o hc.2⟩
   ·grind [absurd,zA9]
  simp_all [Gh.reown,World.cell?]
 ·have e:b≠G.γ U:=by
   intro e;subst e;exact h k (by rw[hcol,if_neg (by omega)];exact .inl rfl)
  simp_all [Gh.reown]
 ·simp only[Gh.reown];rw[if_neg (fun e=>hT (by rw[e]))]
theorem yI2 {χ0:Nat→Nat→Nat}{w0:World}(h:Frame0 χ0 w0 G.χ w){U d:Nat}{n k:Nat}{m:Bool}{w':World}(hk:k≤n)(hcol:∀ o,G.χ (G.γ U) o=if m=false∧o<k then 0 else zB U)
  (hs:w'.os=w.os∧w'.tape=w.tape∧w'.output=w.output)
  (hsz:w.heap.size≤w'.heap.size) (hoth:∀ b,b≠G.γ U→b<w.heap.size→w'.heap[b]?=w.heap[b]?) (hcell:∀ o,o<k→w'.cell? ⟨G.γ U,o,none⟩=w.cell? ⟨G.γ U,o,none⟩) :
  Frame0 χ0 w0 (G.reown (G.γ U) d n m).χ w':=by
 refine⟨hs.1.trans h.os,hs.2.1.trans h.tape,hs.2.2.trans h.output,Nat.le_trans h.size hsz,fun b hb hc=>?_,fun b o hb hc=>?_⟩
 ·have e:b≠G.γ U:=by
   intro e;subst e;have h1:=(h.cell (G.γ U) k hb (hc k)).1
   grind [zB]
  rw[hoth b e (Nat.lt_of_lt_of_le hb h.size)];exact h.block b hb hc
 ·have h1:=h.cell b o hb hc;by_cases e:b=G.γ U
  ·subst e;by_cases hm:m=false∧o<k
   ·have h2:=hcol o;rw[if_pos hm] at h2;refine⟨?_,by grind⟩;simp only[Gh.reown];rw[if_pos trivial,if_pos ⟨hm.1,by omega⟩,← h1.1,h2]
   grind [zB]
  ·refine⟨by grind [Gh.reown],?_⟩;rw[← h1.2];simp[World.cell?,hoth b e (Nat.lt_of_lt_of_le hb h.size)]
theorem zS1 {U d n:Nat}{m:Bool}{w':World}(hsz:w.heap.size≤w'.heap.size)(hoth:∀ b,b<w.heap.size→w'.heap[b]?=w.heap[b]?) :
  Ext (fun x=>x=zB U∨x=zB d) (fun x=>x=zB d) G w (G.reown w.heap.size d n m) w':=by
 refine⟨fun b o hb h=>?_,fun b hb _=>?_,hsz,fun s _=>rfl,fun T hT=>?_,fun _ h=>.inr h⟩
 ·exact⟨by simp only[Gh.reown];grind,by grind [World.cell?]⟩
 ·exact⟨hoth b hb,fun o=>by simp only[Gh.reown];rw[if_neg (by omega)]⟩
 ·simp only[Gh.reown];rw[if_neg (fun e=>hT (by rw[e]))]
theorem zW3 {χ0:Nat→Nat→Nat}{w0:World}(h:Frame0 χ0 w0 G.χ w){d n:Nat}{m:Bool}{w':World}(hs:w'.os=w.os∧w'.tape=w.tape∧w'.output=w.output)
  (hsz:w.heap.size≤w'.heap.size) (hoth:∀ b,b<w.heap.size→w'.heap[b]?=w.heap[b]?):Frame0 χ0 w0 (G.reown w.heap.size d n m).χ w':=by
 refine⟨hs.1.trans h.os,hs.2.1.trans h.tape,hs.2.2.trans h.output,Nat.le_trans h.size hsz,fun b hb hc=>?_,fun b o hb hc=>?_⟩
 ·rw[hoth b (Nat.lt_of_lt_of_le hb h.size)];exact h.block b hb hc
 ·have h1:=h.cell b o hb hc;have hlt:=Nat.lt_of_lt_of_le hb h.size;exact⟨by simp only[Gh.reown];grind,by grind [World.cell?]⟩
theorem yT6 {t:Ty}{l:List t.den}{us rest:List Value}{w':World}{d e cap:Nat}{m:Bool}(hv:yE2 t)(h:zL0 (zB4 G.χ w t) l us)(hx:Ext (fun x=>x=zB d∨x=zB d) (fun x=>x=zB d) G w (G.reown w.heap.size d (l.length*t.size) m) w')
  (hb:w'.heap[w.heap.size]?=some (.cells (us++rest).toArray e (0,0))) (hcap:(us++rest).length=cap*t.size) (hlc:l.length≤cap) (hm:cap≤maxLen) :
  zF7 (G.reown w.heap.size d (l.length*t.size) m) w' t l d m (.slice (some ⟨w.heap.size,0,none⟩) l.length cap):=by
 have hul:=zC6 (k:=t.size) (fun _ _ h=>zA1 h) h;refine .inl ⟨hv,.inr ⟨cap,(us++rest).toArray,e,us,by simp[Gh.reown],?_,hlc,hm,by grind,?_,?_,fun o=>?_⟩⟩
 ·simp_all [Gh.reown]
 ·exact zB5 (fun _ _ h=>zA2 hx.prot h) h
 all_goals simp_all [Gh.reown]
theorem xD8 {z:Array Value}{k n:Nat}(h:z.size=k):(Builtin.zeroCells z n).toList.length=n*k:=by grind [size_zeroCells]
theorem zS2 {χ0:Nat→Nat→Nat}{w0:World}(hfr:Frame0 χ0 w0 G.χ w){t:Ty}{T ty:TypeId}(hT:zC3 P (.sl t) (.inl T)=true){l l2:List t.den}{U d:Nat}{m:Bool}{v bv:Value}
  (hA:(v=.slice none 0 0∧l=[])∨zF7 G w t l U m v)
  {ns:List Value}(hB:∃ a cap,bv=.slice a l2.length cap∧(l2=[]∨∃ ad,a=some ad∧zL0 (zB4 G.χ w t) l2 ns∧∀ j u,ns[j]?=some u→w.cell? (ad.add j)=some u))
  (hlen:l.length+l2.length≤4294967296) :
  ∃ v' w' G',(Builtin.append_ #[T,T] ty #[v,bv]).run P w=.ok v' w'∧Ext (fun x=>x=zB U∨x=zB d) (fun x=>x=zB d) G w G' w'∧Frame0 χ0 w0 G'.χ w'∧zF7 G' w' t (l++l2) d m v'∧(l2=[]∨∀ b k c,v'=.slice (some ⟨b,0,none⟩) k c→∀ j u,ns[j]?=some u→w'.cell? ⟨b,l.length*t.size+j,none⟩=some u):=by
 obtain⟨e,h1,h2⟩:=zG9 hT;obtain⟨⟨i,z,hi,hs,hby,hz,hzc,_⟩,_⟩:=zG8 h2;have hvt:yE2 t:=by have:=zI0 h2;exact⟨this,zC5 h2⟩
 have hzs:z.cells.size=t.size:=by grind [Array.length_toList,zL2]
 obtain⟨a,cap2,rfl,hB⟩:=hB;have hform:(v=.slice none 0 0∧l=[])∨∃ cap cur e0 us,v=.slice (some ⟨G.γ U,0,none⟩) l.length cap∧w.heap[G.γ U]?=some (.cells cur e0 (0,0))∧l.length≤cap∧cap≤maxLen∧cur.size=cap*t.size ∧
   zL0 (zB4 G.χ w t) l us∧cur.toList.take (l.length*t.size)=us∧(∀ o,G.χ (G.γ U) o=if m=false∧o<l.length*t.size then 0 else zB U):=by
  rcases hA with hA | hA
  ·grind
  ·exact (zB0 hA hvt.2).2
 have h63:l.length+l2.length≤maxLen:=by simp only[maxLen];omega
 have hbytes:(l.length+l2.length)*i.bytes≤140737488355328:=by
  calc (l.length+l2.length)*i.bytes≤4294967296*32768:=Nat.mul_le_mul hlen hby
   _=140737488355328:=by grind
 by_cases hl2:l2=[]
 ·subst hl2;rcases hform with ⟨rfl,rfl⟩ | ⟨cap,cur,e0,us,rfl,g1,g2,g3,g4,g5,g6,g7⟩
  ·refine⟨.slice none 0 0,w,G.reown w.heap.size d 0 m,zS0 h1 hi (Nat.le_refl _) w,zS1 (Nat.le_refl _) (fun _ _=>rfl),zW3 hfr ⟨rfl,rfl,rfl⟩ (Nat.le_refl _) (fun _ _=>rfl),by exact .inl ⟨hvt,.inl ⟨rfl,rfl⟩⟩,.inl rfl⟩
  ·have hx:Ext (fun x=>x=zB U∨x=zB d) (fun x=>x=zB d) G w (G.reown (G.γ U) d (l.length*t.size) m) w:=yT5 (Nat.le_refl _) g7 (Nat.le_refl _) (fun _ _ _=>rfl) (fun _ _=>rfl);refine⟨_,w,G.reown (G.γ U) d (l.length*t.size) m,zS0 h1 hi g2 w,hx,yI2 hfr (Nat.le_refl _) g7 ⟨rfl,rfl,rfl⟩ (Nat.le_refl _) (fun _ _ _=>rfl) (fun _ _=>rfl),.inl ⟨hvt,.inr ⟨cap,cur,e0,us,?_,?_,?_,g3,g4,?_,?_,fun o=>?_⟩⟩,.inl rfl⟩
   ·simp[Gh.reown]
   ·simp_all [Gh.reown]
   ·grind
   ·rw[List.append_nil];exact zB5 (fun _ _ h=>zA2 hx.prot h) g5
   all_goals simp_all [Gh.reown]
 ·rcases hB with hB | ⟨ad,rfl,n1,n2⟩
  ·grind
  have nl:=zC6 (k:=t.size) (fun _ _ h=>zA1 h) n1;have none1:=yO8 (fun _ _ h=>yF4 h) n1;have hl2p:0<l2.length:=List.length_pos_iff.2 hl2;rcases hform with ⟨rfl,rfl⟩ | ⟨cap,cur,e0,us,rfl,g1,g2,g3,g4,g5,g6,g7⟩
  ·have hr:=run_append_nil (P:=P) w T ty e i z h1 hi hz ad l2.length cap2 ns (by grind) n2 hl2p (by grind) (by have:=hbytes;simp  at this;omega);have hge:=grownCap_ge w l2.length 0 e;have hcm:=grownCap_le_maxLen w l2.length 0 e (by grind);have hoth:∀ b,b<w.heap.size→(w.drew.alloc (.cells (ns.toArray++Builtin.zeroCells z.cells (grownCap w l2.length 0 e-l2.length)) e)).heap[b]?=w.heap[b]?:=fun b hb=>Below.heap_alloc w.drew _ b hb;have hsz:w.heap.size≤(w.drew.alloc (.cells (ns.toArray++Builtin.zeroCells z.cells (grownCap w l2.length 0 e-l2.length)) e)).heap.size:=by simp
   refine⟨_,_,G.reown w.heap.size d (l2.length*t.size) m,hr,zS1 hsz hoth,zW3 hfr ⟨rfl,rfl,rfl⟩ hsz hoth,?_,.inr fun b k c hv' j u hj=>?_⟩
   rotate_left
   ·have hnew:(w.drew.alloc (.cells (ns.toArray++Builtin.zeroCells z.cells (grownCap w l2.length 0 e-l2.length)) e)).heap[w.heap.size]?=some (.cells (ns.toArray++Builtin.zeroCells z.cells (grownCap w l2.length 0 e-l2.length)) e (0,0)):=by
     rw[show (w.heap.size)=w.drew.heap.size from rfl,zL3]
    simp[World.cell?]
    grind
   have hx:=zS1 (G:=G) (U:=d) (d:=d) (n:=l2.length*t.size) (m:=m) hsz hoth;exact yT6 (cap:=grownCap w l2.length 0 e) (rest:=(Builtin.zeroCells z.cells (grownCap w l2.length 0 e-l2.length)).toList) (e:=e) hvt n1 hx (by rw[show (w.heap.size)=w.drew.heap.size from rfl,zL3];simp) (by rw[List.length_append,nl,xD8 hzs,← Nat.add_mul];grind) hge hcm
  ·have ul:=zC6 (k:=t.size) (fun _ _ h=>zA1 h) g5;by_cases hroom:l.length+l2.length≤cap
   ·have hfit:l.length*i.size+ns.length≤cur.size:=by rw[hs,nl,g4,← Nat.add_mul];exact Nat.mul_le_mul_right _ hroom
    have hr:=yE7 (P:=P) (w:=w) T ty e e0 i h1 hi (G.γ U) l.length cap cur g1 ad l2.length cap2 ns (by grind) n2 none1 hroom hfit;rw[hs] at hr;have hcs:(cur.toList.take (l.length*t.size)++ns++cur.toList.drop (l.length*t.size+ns.length)).length=cap*t.size:=by
     grind
    generalize hcur':(cur.toList.take (l.length*t.size)++ns++cur.toList.drop (l.length*t.size+ns.length))=cur' at hr hcs;have hblk:=setRow_heap w (G.γ U) cur cur'.toArray e0 (0,0) g1;have hoth:∀ b,b≠G.γ U→b<w.heap.size→(w.setRow (G.γ U) cur'.toArray).heap[b]?=w.heap[b]?:=fun b hb _=>setRow_other w (G.γ U) b _ hb;have hsz:w.heap.size≤(w.setRow (G.γ U) cur'.toArray).heap.size:=by grind
    have hcell:∀ o,o<l.length*t.size→(w.setRow (G.γ U) cur'.toArray).cell? ⟨G.γ U,o,none⟩=w.cell? ⟨G.γ U,o,none⟩:=by
     intro o ho;simp only[World.cell?,hblk,g1];simp only[Option.isSome_none,Bool.false_eq_true,if_false,List.getElem?_toArray];rw[← hcur',List.append_assoc,List.getElem?_append_left (by grind),List.getElem?_take,if_pos ho];simp
    have hle:l.length*t.size≤(l.length+l2.length)*t.size:=Nat.mul_le_mul_right _ (by omega);have hx:Ext (fun x=>x=zB U∨x=zB d) (fun x=>x=zB d) G w (G.reown (G.γ U) d ((l.length+l2.length)*t.size) m) (w.setRow (G.γ U) cur'.toArray):=yT5 hle g7 hsz hoth hcell;refine⟨_,_,G.reown (G.γ U) d ((l.length+l2.length)*t.size) m,hr,hx,yI2 hfr hle g7 ⟨rfl,rfl,rfl⟩ hsz hoth hcell,.inl ⟨hvt,.inr ⟨cap,cur'.toArray,e0,us++ns,?_,?_,?_,g3,by grind,?_,?_,fun o=>?_⟩⟩,.inr fun b k c hv' j u hj=>?_⟩
    rotate_right
    ·simp only[Value.slice.injEq,Option.some.injEq,Addr.mk.injEq] at hv';rw[← hv'.1.1];simp only[World.cell?,hblk];simp only[Option.isSome_none,Bool.false_eq_true,if_false,List.getElem?_toArray];rw[← hcur',List.append_assoc,List.getElem?_append_right (by grind),List.getElem?_append_left (by grind)]
     grind
    ·simp[Gh.reown]
    ·simp_all [Gh.reown]
    ·grind
    ·exact zB5 (fun _ _ h=>zA2 hx.prot h) (yH5 g5 n1)
    ·show List.take ((l++l2).length*t.size) cur'=us++ns;have:(l++l2).length*t.size=(us++ns).length:=by rw[List.length_append,List.length_append,ul,nl,Nat.add_mul]
     rw[← hcur',g6,this];exact List.take_left
    simp_all [Gh.reown,List.length_append]
   ·have holds:∀ j u,us[j]?=some u→w.cell? ((⟨G.γ U,0,none⟩:Addr).add j)=some u:=by
     intro j u hu;rw[Addr.add_mid];rw[← g6,List.getElem?_take] at hu;split at hu
     ·simp only[World.cell?,g1];simpa using hu
     ·cases hu
    have hr:=run_append_grow (P:=P) w T ty e i z h1 hi hz ⟨G.γ U,0,none⟩ l.length cap us (by rw[ul,hs]) holds ad l2.length cap2 ns (by rw[nl,hs]) n2 (by omega) (by have:=h63;omega) (growslice_fits (by omega) hbytes);have hge:=grownCap_ge w (l.length+l2.length) cap e;have hcm:=grownCap_le_maxLen w (l.length+l2.length) cap e h63;generalize grownCap w (l.length+l2.length) cap e=nc at hr hge hcm;have hoth:∀ b,b<w.heap.size→(w.drew.alloc (.cells (us.toArray++ns.toArray++Builtin.zeroCells z.cells (nc-(l.length+l2.length))) e)).heap[b]?=w.heap[b]?:=fun b hb=>Below.heap_alloc w.drew _ b hb;have hsz:w.heap.size≤(w.drew.alloc (.cells (us.toArray++ns.toArray++Builtin.zeroCells z.cells (nc-(l.length+l2.length))) e)).heap.size:=by simp
    refine⟨_,_,G.reown w.heap.size d ((l++l2).length*t.size) m,hr,zS1 hsz hoth,zW3 hfr ⟨rfl,rfl,rfl⟩ hsz hoth,?_,.inr fun b k c hv' j u hj=>?_⟩
    rotate_left
    ·simp only[Value.slice.injEq,Option.some.injEq,Addr.mk.injEq] at hv';rw[← hv'.1.1];have hnew:(w.drew.alloc (.cells (us.toArray++ns.toArray++Builtin.zeroCells z.cells (nc-(l.length+l2.length))) e)).heap[w.heap.size]?=some (.cells (us.toArray++ns.toArray++Builtin.zeroCells z.cells (nc-(l.length+l2.length))) e (0,0)):=by
      rw[show (w.heap.size)=w.drew.heap.size from rfl,zL3]
     simp only[World.cell?,hnew];have hj':j<ns.length:=(List.getElem?_eq_some_iff.1 hj).1;rw[← Array.getElem?_toList];simp[Array.toList_append,← ul];rw[List.getElem?_append_right (by omega),List.getElem?_append_left (by omega)];simpa using hj
    have hx:=zS1 (G:=G) (U:=d) (d:=d) (n:=(l++l2).length*t.size) (m:=m) hsz hoth;have:=yT6 (cap:=nc) (rest:=(Builtin.zeroCells z.cells (nc-(l.length+l2.length))).toList) (e:=e) hvt (yH5 g5 n1) hx (by rw[show (w.heap.size)=w.drew.heap.size from rfl,zL3];simp) (by rw[List.length_append,List.length_append,ul,nl,xD8 hzs,← Nat.add_mul,← Nat.add_mul];grind) (by simpa using hge) hcm;simpa using this
theorem yC9 {χ0:Nat→Nat→Nat}{w0:World}(hfr:Frame0 χ0 w0 G.χ w){t:Ty}{T ty:TypeId}(hT:zC3 P (.sl t) (.inl T)=true){l l2:List t.den}{U d:Nat}{m:Bool}{v bv:Value}
  (hA:(v=.slice none 0 0∧l=[])∨zF7 G w t l U m v)
  (hB:∃ a cap,bv=.slice a l2.length cap∧(l2=[]∨∃ ad us,a=some ad∧zL0 (zB4 G.χ w t) l2 us∧∀ j u,us[j]?=some u→w.cell? (ad.add j)=some u))
  (hlen:l.length+l2.length≤4294967296) :
  ∃ v' w' G',(Builtin.append_ #[T,T] ty #[v,bv]).run P w=.ok v' w'∧Ext (fun x=>x=zB U∨x=zB d) (fun x=>x=zB d) G w G' w'∧Frame0 χ0 w0 G'.χ w'∧zF7 G' w' t (l++l2) d m v':=by
 obtain⟨a,cap,hv,h⟩:=hB;rcases h with h|⟨ad,us,h1,h2,h3⟩
 ·obtain⟨v',w',G',q1,q2,q3,q4,_⟩:=zS2 (ty:=ty) (d:=d) (ns:=[]) hfr hT hA ⟨a,cap,hv,.inl h⟩ hlen
  grind
 ·obtain⟨v',w',G',q1,q2,q3,q4,_⟩:=zS2 (ty:=ty) (d:=d) (ns:=us) hfr hT hA ⟨a,cap,hv,.inr ⟨ad,h1,h2,h3⟩⟩ hlen
  grind
structure Turned (w w':World) (B:Nat) (cells:Array Value) (ty:TypeId):Prop where
 os:w'.os=w.os
 tape:w'.tape=w.tape
 output:w'.output=w.output
 size:w.heap.size≤w'.heap.size
 at':w'.heap[B]?=some (.cells cells ty (0,0))
 oth:∀ b,b<w.heap.size→b≠B→w'.heap[b]?=w.heap[b]?
theorem Turned.row {w:World}{b:Nat}{cur cur':Array Value}{e:TypeId}(h:w.heap[b]?=some (.cells cur e (0,0))):Turned w (w.setRow b cur') b cur' e:=
 ⟨rfl,rfl,rfl,by simp_all,setRow_heap w b cur cur' e (0,0) h,fun k _ hk=>setRow_other w b k cur' hk⟩
theorem Turned.next {w w' w'':World}{b:Nat}{cs cs':Array Value}{e e':TypeId}(h:Turned w w' b cs e)(h':Turned w' w'' b cs' e'):Turned w w'' b cs' e':=
 ⟨h'.os.trans h.os,h'.tape.trans h.tape,h'.output.trans h.output,Nat.le_trans h.size h'.size,h'.at',fun k hk hb=>(h'.oth k (Nat.lt_of_lt_of_le hk h.size) hb).trans (h.oth k hk hb)⟩
theorem Turned.drew {w w':World}{b:Nat}{cs:Array Value}{e:TypeId}(h:Turned w.drew w' b cs e):Turned w w' b cs e:=⟨h.os,h.tape,h.output,h.size,h.at',h.oth⟩
theorem wE6 {G:Gh}{w w':World}{t:Ty}{l:List t.den}{us:List Value}{B cap:Nat}{cells:Array Value}{ty:TypeId}(hvt:yE2 t)(hL:zL0 (zB4 G.χ w t) l us)(hT:Turned w w' B cells ty)
  (hB:(∀ o,1<G.χ B o)∨w.heap.size≤B) (hcap:l.length≤cap) (hm:cap≤maxLen) (hcs:cells.size=cap*t.size) (htk:cells.toList.take (l.length*t.size)=us) :
  Frame0 G.χ w (G.reown B 0 0 true).χ w'∧zF7 (G.reown B 0 0 true) w' t l 0 true (.slice (some ⟨B,0,none⟩) l.length cap):=by
 have hprot:∀ b o,b<w.heap.size→G.χ b o≤1→(G.reown B 0 0 true).χ b o=G.χ b o∧w'.cell? ⟨b,o,none⟩=w.cell? ⟨b,o,none⟩:=by
  intro b o hb h0;have hne:b≠B:=by
   grind
  exact⟨by grind [Gh.reown],by simp[World.cell?,hT.oth b hb hne]⟩
 refine⟨⟨hT.os,hT.tape,hT.output,hT.size,fun b hb h=>?_,hprot⟩,.inl ⟨hvt,.inr ⟨cap,cells,ty,us,?_,?_,hcap,hm,hcs,?_,htk,fun o=>?_⟩⟩⟩
 ·refine hT.oth b hb ?_;rcases hB with h' | h'
  ·have:=h' 0;grind
  grind
 ·simp[Gh.reown]
 ·exact hT.at'
 all_goals grind [zB5,zA2,trans,Gh.reown]
theorem wD0 {t:Ty}{l:List t.den}{us:List Value}{B d cap:Nat}{cells:Array Value}{ty:TypeId}{w':World}{χ0:Nat→Nat→Nat}{w0:World}(hfr:Frame0 χ0 w0 G.χ w)(hvt:yE2 t)(hL:zL0 (zB4 G.χ w t) l us)(hT:Turned w w' B cells ty)
  (hB:w.heap.size≤B) (hcap:l.length≤cap) (hm:cap≤maxLen) (hcs:cells.size=cap*t.size) (htk:cells.toList.take (l.length*t.size)=us) :
  Ext (fun x=>x=zB d∨x=zB d) (fun x=>x=zB d) G w (G.reown B d 0 true) w'∧Frame0 χ0 w0 (G.reown B d 0 true).χ w'∧zF7 (G.reown B d 0 true) w' t l d true (.slice (some ⟨B,0,none⟩) l.length cap):=by
 have hx:Ext (fun x=>x=zB d∨x=zB d) (fun x=>x=zB d) G w (G.reown B d 0 true) w':=by
  refine⟨fun b o hb h=>?_,fun b hb _=>?_,hT.size,fun s _=>rfl,fun T hT=>?_,fun _ h=>.inr h⟩
  ·exact⟨by simp only[Gh.reown];grind,by simp[World.cell?,hT.oth b hb (by omega)]⟩
  ·exact⟨hT.oth b hb (by omega),fun o=>by simp only[Gh.reown];rw[if_neg (by omega)]⟩
  ·simp only[Gh.reown];rw[if_neg (fun e=>hT (by rw[e]))]
 refine⟨hx,⟨hT.os.trans hfr.os,hT.tape.trans hfr.tape,hT.output.trans hfr.output,Nat.le_trans hfr.size hT.size,fun b hb hc=>?_,fun b o hb hc=>?_⟩,.inl ⟨hvt,.inr ⟨cap,cells,ty,us,?_,?_,hcap,hm,hcs,?_,htk,fun o=>?_⟩⟩⟩
 ·have hlt:=Nat.lt_of_lt_of_le hb hfr.size;rw[hT.oth b hlt (by omega)];exact hfr.block b hb hc
 ·have h1:=hfr.cell b o hb hc;have hlt:=Nat.lt_of_lt_of_le hb hfr.size;exact⟨by simp only[Gh.reown];grind,by rw[← h1.2];simp[World.cell?,hT.oth b hlt (by omega)]⟩
 ·simp[Gh.reown]
 ·simp[Gh.reown];exact hT.at'
 ·exact zB5 (fun _ _ h=>zA2 hx.prot h) hL
 grind [Gh.reown]
def wD1 (P:Program)(f k:Nat):Prop:=(∃ fn,P.funcs[f]?=some fn∧fn.body.isSome=true∧fn.name≠"runtime.NumGoroutine") ∧
 ∀ (b o n c:Nat) (cur:Array Value) (e0:TypeId) (us:List Value) (w:World),0<n→n≤4294967296→n≤c→us.length=n*k→(∀ v∈us,v.oneCell'=true)→w.heap[b]?=some (.cells cur e0 (0,0))→(∀ j u,us[j]?=some u→cur.toList[o+j]?=some u) →
  Calls P f #[.slice (some ⟨b,o,none⟩) n c] w fun e w'=>∃ B cap cells ty,e=.returned (.slice (some ⟨B,0,none⟩) n cap)∧w.heap.size≤B∧Turned w w' B cells ty∧n≤cap∧cap≤maxLen∧cells.size=cap*k∧cells.toList.take (n*k)=us
end Go.Am
namespace Go.Am
open Go Go.RowKit Go.MapKept
variable {P:Program}{c:Ctx}{G:Gh}{w:World}{tm:Array Value}
def yT7:Ty→Bool
 |.int _=>true|.str=>true|.bool=>true|_=>false
def yI3 (P:Program)(l:List (Nat×(Ty×Ty))):Bool:=l.all fun e=>match P.underlying e.1 with
 |some (.map a b)=>zC3 P e.2.1 (.inl a)&&zC3 P e.2.2 (.inl b)&&yT7 e.2.1&&e.2.2.noPtr
 |_=>false
structure MapTyIs (P:Program) (T:Nat) (k v:Ty):Prop where
 is:∃ a b,P.underlying T=some (.map a b)∧zC3 P k (.inl a)=true∧zC3 P v (.inl b)=true
 key:yT7 k=true
 np:v.noPtr=true
theorem yO9 (h:yI3 P c.maps=true){T:Nat}{k v:Ty}(hm:c.mapTy T=some (k,v)):MapTyIs P T k v:=by
 have hmem:(T,(k,v))∈c.maps:=by
  unfold Ctx.mapTy at hm;generalize c.maps=l at hm
  induction l<;>grind [look,Nat.beq,Nat.eq_of_beq_eq_true,List.mem_cons_self]
 have:=List.all_eq_true.1 h _ hmem;split at this
 ·rename_i a b hu;simp  at this;exact⟨⟨a,b,hu,this.1.1.1,this.1.1.2⟩,this.1.2,this.2⟩
 grind
theorem wB7 {k:Ty}{a:Nat}(hk:yT7 k=true)(ht:zC3 P k (.inl a)=true):∃ d,P.underlying a=some d∧∀ {χ:Nat→Nat→Nat}{x:k.den}{v:Value},zR2 χ w k x v→IsKey d v:=by
 cases k with
 |int k=>exact⟨_,yF0 ht,fun h=>by grind [VRep_int,IsKey]⟩
 |str=>exact⟨_,zM9 ht,fun h=>by grind [VRep_str,IsKey]⟩
 |bool=>exact⟨_,yR8 ht,fun h=>by grind [VRep_bool,IsKey]⟩
 |_=>grind [yT7]
theorem wD2 {k:Ty}(hk:yT7 k=true){χ:Nat→Nat→Nat}{x y:k.den}{v u:Value}(hx:zR2 χ w k x v)(hy:zR2 χ w k y u):k.eqb x y=true↔u=v:=by
 cases k<;>grind [VRep_int,Ty.eqb,VRep_str,bool,VRep_bool,yT7]
theorem xD9 {k e:Ty}{d:TypeDesc}(hk:yT7 k=true){χ:Nat→Nat→Nat}(hd:∀ {x:k.den}{v:Value},zR2 χ w k x v→IsKey d v){x:k.den}{v:Value}(hx:zR2 χ w k x v) :
  ∀ {l:List (k.den×e.den×Unit)}{es:List MapEntry}(i:Nat),xG χ w k e l es →
  (yN2 k e x l=none∧Instr.findNow d v es i=some none∧∀ y,xV7 k e x y l=l++[(x,y,())]) ∨
  ∃ y j en,yN2 k e x l=some y∧Instr.findNow d v es i=some (some (i+j,en.val))∧es[j]?=some en∧en.key=v∧zR2 χ w e y en.val∧∀ z,xV7 k e x z l=l.set j (x,z,()):=by
 intro l
 induction l with
 |nil=>intro es i h;subst h;exact .inl ⟨rfl,rfl,fun y=>rfl⟩
 |cons q l ih =>
  intro es i h;obtain⟨en,r,rfl,h1,h2,h3⟩:=h;obtain⟨b,hb,hbi⟩:=sameNow_of_keys (hd hx) (hd h1);have hq:=wD2 hk hx h1;cases b with
  |true =>
   have e1:=hbi.1 rfl;exact .inr ⟨q.2.1,0,en,by grind [yN2],by grind [Instr.findNow],rfl,e1.symm,h2,fun z=>by grind [xV7]⟩
  |false =>
   rcases ih (i+1) h3 with ⟨g1,g2,g3⟩ | ⟨y,j,en',g1,g2,g3,g4,g5,g6⟩
   ·grind [yN2,Instr.findNow,xV7]
   ·exact .inr ⟨y,j+1,en',by grind [yN2],by grind [Instr.findNow],by simpa using g3,g4,g5,fun z=>by grind [xV7]⟩
theorem xO6 {τ:Ty}{b:Nat}(ht:zC3 P τ (.inl b)=true)(hn:τ.noPtr=true){χ:Nat→Nat→Nat}:∃ z,(zeroValue b).run P w=.ok z w∧zR2 χ w τ τ.dflt z:=by
 obtain⟨⟨i,z,hi,_,_,hz,hc,ha⟩,_⟩:=zG8 ht;refine⟨z,by simp_all [zeroValue,typeInfo],zB8 τ,zT6 hn,?_⟩;cases hag:τ.isAgg with
 |true =>
  rw[hag] at ha;simp;cases z<;>simp[yR6] at ha;simp only[Value.cells] at hc;rw[← hc]
 |false =>
  rw[hag] at ha;cases z<;>simp[yR6] at ha<;>simpa[Value.cells] using hc.symm
theorem yP {k e:Ty}{l:List (k.den×e.den×Unit)}{T:Nat}{m:Bool}{v:Value}(h:zF7 G w (xL8 k e) l T m v):xW3 G w k e l T v:=by
 rcases h with h|⟨_,k',e',l',ht,hl,h⟩
 ·exact absurd h.1.2 (by simp[Ty.isL])
 ·injection ht with h1 h2
  injection h2 with h2 _
  subst h1;subst h2;simp_all
theorem yP0 (hm:yI3 P c.maps=true){T:Nat}{x y A:AVal}{v u:Value}{ok:Bool}{p:List Prop}(hx:zA G w tm none x v)(hy:zA G w tm none y u)(h:yW9 c T x y ok=some (p,A)) :
  ∃ r,(Instr.lookup T v u ok).run P w=.ok r w∧zA G w tm none A r:=by
 unfold yW9 at h;split at h
 ·rename_i k e hT;obtain⟨⟨a,b,hu,hk,he⟩,hkey,hnp⟩:=yO9 hm hT;split at h
  ·rename_i t l U m;split at h
   ·rename_i l' q hl hq;obtain⟨ec,hl⟩:=zC7 hl;injection ec with ec
    subst ec;subst hl;obtain⟨es,clock,rfl,hb,hE,_⟩:=yP hx;have hqv:=zJ4 hq (by cases k<;>first|rfl|grind [yT7]) hy
    obtain⟨d,hd,hdk⟩:=wB7 (w:=w) hkey hk;have hlook:∀ r:Option (Nat×Value),Instr.findNow d u es.toList 0=some r→(Instr.lookup T (.map (some (G.γ U))) u ok).run P w =
      ((match r with|some (_,z)=>pure (z,true)|none=>(do pure (← zeroValue b,false)):Sem (Value×Bool)).run P w).andThen fun z=>(pure (if ok then .tuple #[z.1,.bool z.2] else z.1):Sem Value).run P:=by
     intro r hr;simp[Instr.lookup,run_underlying hu,Go.MapKept.run_getObj_map hb,run_checkKey hd (hdk hqv) es.isEmpty 9999,run_findKey hd hr];cases r with
     |none=>simp ;cases Sem.run P (zeroValue b) w<;>rfl
     |some q=>rfl
    obtain⟨z0,hz0,hzr⟩:=xO6 (P:=P) (w:=w) (χ:=G.χ) he hnp;rcases xD9 hkey (e:=e) (d:=d) hdk hqv 0 hE with ⟨g1,g2,_⟩ | ⟨y',j,en,g1,g2,g3,g4,g5,_⟩
    ·have hr:=hlook _ g2;simp[hz0] at hr;rw[g1] at h;cases ok with
     |true =>
      obtain⟨rfl,rfl⟩:=h;refine⟨_,hr,?_⟩;exact⟨_,[.bool false],rfl,hzr,_,[],rfl,VRep_bool.2 rfl,rfl⟩
     |false =>
      grind [zA]
    ·have hr:=hlook _ g2;simp  at hr;rw[g1] at h;cases ok with
     |true =>
      obtain⟨rfl,rfl⟩:=h;refine⟨_,hr,?_⟩;exact⟨_,[.bool true],rfl,g5,_,[],rfl,VRep_bool.2 rfl,rfl⟩
     |false =>
      grind [zA]
   grind
  grind
 grind
theorem yY1 {χ:Nat→Nat→Nat}{k e:Ty}:∀ {l:List (k.den×e.den×Unit)}{es:List MapEntry}{x:k.den×e.den×Unit}{en:MapEntry},xG χ w k e l es→zR2 χ w k x.1 en.key→zR2 χ w e x.2.1 en.val→xG χ w k e (l++[x]) (es++[en]):=by
 intro l
 induction l with
 |nil=>intro es x en h h1 h2;subst h;exact⟨en,[],rfl,h1,h2,rfl⟩
 |cons q l ih=>rintro es x en ⟨e',r,rfl,g1,g2,g3⟩ h1 h2;exact⟨e',r++[en],rfl,g1,g2,ih g3 h1 h2⟩
theorem xX1 {χ:Nat→Nat→Nat}{k e:Ty}:∀ {l:List (k.den×e.den×Unit)}{es:List MapEntry}{x:k.den×e.den×Unit}{en:MapEntry}{j:Nat},xG χ w k e l es→zR2 χ w k x.1 en.key→zR2 χ w e x.2.1 en.val→xG χ w k e (l.set j x) (es.set j en):=by
 intro l
 induction l with
 |nil=>grind [xG]
 |cons q l ih =>
  rintro es x en j ⟨e',r,rfl,g1,g2,g3⟩ h1 h2;cases j with
  |zero=>exact⟨en,r,rfl,h1,h2,g3⟩
  |succ j=>exact⟨e',r.set j en,rfl,g1,g2,ih g3 h1 h2⟩
theorem zZ3 {T U:Nat}{k e:Ty}(hT:MapTyIs P T k e){l:List (k.den×e.den×Unit)}{v kv ev:Value}{x:k.den}{y:e.den}(hM:xW3 G w k e l U v)(hk:zR2 G.χ w k x kv)(he:zR2 G.χ w e y ev) :
  ∃ es' clock',(Instr.mapUpdate T v kv ev).run P w=.ok () { w with heap:=w.heap.setIfInBounds (G.γ U) (.map es' clock') }∧xG G.χ w k e (xV7 k e x y l) es'.toList:=by
 obtain⟨⟨a,b,hu,hka,_⟩,hkey,_⟩:=hT;obtain⟨es,clock,rfl,hb,hE,_⟩:=hM;obtain⟨d,hd,hdk⟩:=wB7 (w:=w) hkey hka;rcases xD9 hkey (e:=e) (d:=d) hdk hk 0 hE with ⟨g1,g2,g3⟩ | ⟨y',j,en,g1,g2,g3,g4,g5,g6⟩
 ·refine⟨es.push { key:=kv,val:=ev,born:=clock },clock+1,?_,?_⟩
  ·simp[Instr.mapUpdate,run_underlying hu,Go.MapKept.run_getObj_map hb,run_checkKey hd (hdk hk),run_findKey hd g2,run_setObj_map _ hb]
  grind [Array.toList_push,yY1]
 ·have hj:es[j]?=some en:=by grind
  refine⟨es.modify j fun e'=>{ e' with key:=kv,val:=ev },clock,?_,?_⟩
  ·simp[Instr.mapUpdate,run_underlying hu,Go.MapKept.run_getObj_map hb,run_checkKey hd (hdk hk),run_findKey hd g2,hj,g4,run_keyThatStays (hdk hk),run_setObj_map _ hb]
  ·have:(es.modify j fun e'=>{ e' with key:=kv,val:=ev }).toList=es.toList.set j { en with key:=kv,val:=ev }:=by
    apply List.ext_getElem?
    grind
   grind [xX1]
end Go.Am
namespace Go.Am
open Go Go.RowKit
variable {gtab:GlobTab}{P:Program}{c:Ctx}{G:Gh}{w:World}{tm:Array Value}{n:Nat}{χ0:Nat→Nat→Nat}{w0:World}{S:St}{a:Act}
theorem xX2 {g:Nat}:∀ {l:List (Nat×(τ:Ty)×τ.den)},xL9 l g=.junk∨∃ τ x,(g,⟨τ,x⟩)∈l∧xL9 l g=.val (.ptr τ) x:=by
 intro l
 induction l with
 |nil=>exact .inl rfl
 |cons e r ih =>
  obtain⟨k,τ,x⟩:=e;simp only[xL9];cases hb:Nat.beq k g with
  |true=>have:=Nat.eq_of_beq_eq_true hb;subst this;exact .inr ⟨τ,x,List.mem_cons_self ..,rfl⟩
  |false =>
   grind
theorem zJ7 (hR:Rel n χ0 w0 S a w G)(x:Operand):zA G w a.tmps none (arg S x) (a.eval x):=by
 cases x with
 |tmp t =>
  have h:=hR.reps t;show zA G w a.tmps none (arg S (.tmp t)) (a.tmps.getD t undef);simp only[arg];generalize S.get t=A at h;cases A with
  |box τ c =>
   simp only[zA] at h ⊢;cases hb:Nat.blt t vNo with
   |true=>exact⟨trivial,by rw[h.1 (Nat.le_of_ble_eq_true hb)];rfl⟩
   |false=>trivial
  |may b τ c=>trivial
  |raw=>simp only[zA] at h ⊢;exact h.1
  |_=>exact zO2 h (by simp) (by simp) (by simp)
 |const v =>
  simp[arg,Act.eval];unfold wB3;split
  all_goals grind [zC2,zD,zA,VRep_str]
 |func f=>grind [arg,Act.eval,zA]
 |global g =>
  simp[arg,Act.eval];rcases xX2 (g:=g) (l:=GlobTab.tab) with h|⟨τ,x,h1,h2⟩
  ·grind [zA]
  ·obtain⟨vs,h3,h4⟩:=hR.glob g τ x h1
   grind [zT4]
def yP1 (tm:Array Value)(gd:Gd):Prop:=∀ s w g,gd=some (s,w,g)→tm.getD s undef=.bool w
theorem zO7 {gd:Gd}(hg:yP1 tm gd){A:AVal}{v:Value}(h:zA G w tm none A v):zA G w tm none (zF3 gd A) v:=by
 cases A with
 |opt s w' g A =>
  simp only[zA] at h;simp only[zF3];split
  ·rename_i s' w'' g';cases hc:(Nat.beq s s'&&(w'==w'')) with
   |false=>simp[zA]
   |true =>
    simp only[Bool.and_eq_true] at hc;have e:=Nat.eq_of_beq_eq_true hc.1;subst e;have:=hg s w'' g' rfl
    grind
  grind [zA]
 |_=>grind [zF3]
theorem xX3 {α β γ:Type}{R:β→γ→Prop}{f:α→β}{g:α→γ}:∀ (l:List α),(∀ x∈l,R (f x) (g x))→zH6 R (l.map f) (l.map g):=by
 intro l
 induction l with
 |nil=>intro _;trivial
 |cons x l ih=>intro h;exact⟨h x (by simp),ih (fun y hy=>h y (by grind))⟩
theorem yY2 {gd:Gd}(hg:yP1 tm gd){A:AVal}{s:Nat}{v:Value}(h:zA G w tm (some s) A v):∃ u,zA G w tm (some s) (zF3 gd A) u:=by
 cases A with
 |opt s' w' g A =>
  have h':zA G w tm none (.opt s' w' g A) v:=by grind [zA]
  exact⟨v,zK3 (zO7 hg h')⟩
 |_=>exact⟨v,h⟩
theorem xE (hR:Rel n χ0 w0 S a w G){gd:Gd}(hg:yP1 a.tmps gd)(l:List Operand):zH6 (zA G w a.tmps none) ((l.map (arg S)).map (zF3 gd)) (l.map a.eval):=by
 grind [List.map_map,xX3,zO7,zJ7]
theorem zG3 (hR:Rel n χ0 w0 S a w G){A:AVal}{s:Nat}(h:zD0 A=some s):zA G w a.tmps (some s) (zA3 S A) (a.tmps.getD s undef):=by
 cases A with
 |ref s' τ p=>simp[zD0] at h;subst h;exact hR.reps _
 |eref s' T t i p=>simp[zD0] at h;subst h;exact hR.reps _
 |rref s'=>simp[zD0] at h;subst h;exact hR.reps _
 |_=>grind [zD0]
theorem zK2 {α β:Type}{R:α→β→Prop}{x:α}{l:List β}(h:zH6 R [x] l):∃ y,l=[y]∧R x y:=by
 match l,h with
 |[y],h=>exact⟨y,rfl,h.1⟩
theorem yF5 {α β:Type}{R:α→β→Prop}{x y:α}{l:List β}(h:zH6 R [x,y] l):∃ u v,l=[u,v]∧R x u∧R y v:=by
 match l,h with
 |[u,v],h=>exact⟨u,v,rfl,h.1,h.2.1⟩
theorem xX4:∀ {xs:List AVal}{vs:List Value},zH6 (zA G w tm none) xs vs→zA G w tm none (AVal.ofL xs) (.tuple vs.toArray):=by
 intro xs
 induction xs with
 |nil=>grind [zH6,AVal.ofL,zA]
 |cons x xs ih=>intro vs h;cases vs<;>simp only[zH6] at h;exact⟨_,_,rfl,h.1,ih h.2⟩
set_option maxHeartbeats 800000 in
theorem xO7 (hty:zM7 P c.tys=true)(hmt:yI3 P c.maps=true)(hft:yX3 P c.fts=true)(o:Oper){d:Nat}{xs ks:List AVal}{p:List Prop}{A:AVal}(hm:zY5 o.op=false)
  (hx:zH6 (zA G w a.tmps none) xs ((zD9 o.op).map a.eval)) (hk:∀ (i:Nat) X k,xs[i]?=some X→ks[i]?=some k→∀ s,zD0 X=some s→∃ u,zA G w a.tmps (some s) k u)
  (h:zX7 c d o.op xs ks=some (p,A)) (hp:∀ q∈p,q):∃ v,(execOp a.eval o).run P w=.ok (.value v) w∧zA G w a.tmps none A v:=by
 obtain⟨dst,op,ty,pos,after,guard⟩:=o;simp only at hm hx h ⊢;unfold zX7 at h;split at h
 ·-- move
  simp[zD9] at hx;obtain⟨y,e,h1⟩:=zK2 hx;simp_all [execOp]
 ·-- assign
  simp[zD9] at hx;obtain⟨y,e,h1⟩:=zK2 hx;simp_all [execOp]
 ·grind [zY5]
 ·grind [zY5]
 ·-- load
  rename_i T x A' k;simp[zD9] at hx;obtain⟨y,e,h1⟩:=zK2 hx;simp  at e;subst e;obtain⟨u,h2,h3⟩:=yI hty hft h1 (fun s hs=>hk 0 A' k rfl rfl s hs) h hp;simp_all [execOp]
 ·-- nilCheck
  simp[zD9] at hx;obtain⟨y,e,h1⟩:=zK2 hx;simp  at e;subst e;split at h
  ·have h2:=h1;have h2:=(zC rfl).1 h2;obtain⟨b,of,us,hv,_⟩:=h2;simp_all [execOp]
  ·obtain⟨rfl,rfl⟩:=h;simp_all [zA,execOp]
  ·obtain⟨rfl,rfl⟩:=h;simp_all [zA,execOp]
  ·have h2:=h1;obtain⟨vs,hv,_⟩:=h2;simp_all [execOp]
  grind
 ·-- binOp
  rename_i bo T x y yt A' B;obtain⟨u,v,e,h1,h2⟩:=yF5 hx;obtain⟨rfl,rfl⟩:=e;obtain⟨r,h3,h4⟩:=xG5 (ox:=x) hty h1 h2 h hp;refine⟨r,?_,h4⟩;show (do let s ← (do eqGuard bo T x y (a.eval x) (a.eval y);binOp bo T (a.eval x) (a.eval y):Sem Value);pure (Next.value s):Sem Next).run P w=_
  rw[Sem.run_bind,h3];rfl
 ·-- unOp
  simp[zD9] at hx;obtain⟨y,e,h1⟩:=zK2 hx;simp  at e;subst e;obtain⟨u,h2,h3⟩:=xO1 (P:=P) h1 h hp;simp_all [execOp]
 ·-- convert
  simp[zD9] at hx;obtain⟨y,e,h1⟩:=zK2 hx;simp  at e;subst e;obtain⟨u,h2,h3⟩:=yX8 hty h1 h;simp_all [execOp]
 ·-- build
  obtain⟨u,h2,h3⟩:=yT0 hty hx h;simp_all [execOp]
 ·grind [zY5]
 ·grind [zY5]
 ·-- slice
  rename_i T x lo hi A' r;have key:∀ {vlo vhi:Option Value},vlo=lo.map a.eval→vhi=hi.map a.eval→(∃ r,(Instr.sliceAt T (a.eval x) vlo vhi none).run P w=.ok r w∧zA G w a.tmps none A r)→∃ v,(execOp a.eval ⟨dst,.slice T x lo hi none,ty,pos,after,guard⟩).run P w=.ok (.value v) w∧zA G w a.tmps none A v:=by
   simp_all [execOp]
  cases lo with
  |none =>
   cases hi with
   |none =>
    simp[zD9] at hx;cases r with
    |cons _ _=>grind [zH6]
    |nil=>exact key rfl rfl (zN hty hx.1 (fun A e=>by grind [zL6]) (fun _=>rfl) (fun A e=>by grind [zL6]) (fun _=>rfl) h hp)
   |some y =>
    match r,hx with
    |[B],hx=>exact key rfl rfl (zN hty hx.1 (fun A e=>by grind [zL6]) (fun _=>rfl) (fun A e=>by simp[zL6] at e;subst e;exact⟨_,rfl,hx.2.1⟩) (fun e=>by grind [zL6]) h hp)
  |some z =>
   cases hi with
   |none =>
    match r,hx with
    |[B],hx=>exact key rfl rfl (zN hty hx.1 (fun A e=>by simp[zL6] at e;subst e;exact⟨_,rfl,hx.2.1⟩) (fun e=>by grind [zL6]) (fun A e=>by grind [zL6]) (fun _=>rfl) h hp)
   |some y =>
    match r,hx with
    |[B,C],hx=>exact key rfl rfl (zN hty hx.1 (fun A e=>by simp[zL6] at e;subst e;exact⟨_,rfl,hx.2.1⟩) (fun e=>by grind [zL6]) (fun A e=>by simp[zL6] at e;subst e;exact⟨_,rfl,hx.2.2.1⟩) (fun e=>by grind [zL6]) h hp)
 ·-- fieldAddr
  simp[zD9] at hx;obtain⟨y,e,h1⟩:=zK2 hx;simp  at e;subst e;obtain⟨u,h2,h3⟩:=yE3 hty h1 h;simp_all [execOp]
 ·-- field
  simp[zD9] at hx;obtain⟨y,e,h1⟩:=zK2 hx;simp  at e;subst e;obtain⟨u,h2,h3⟩:=yS2 hty h1 h;simp_all [execOp]
 ·-- indexAddr
  obtain⟨u,v,e,h1,h2⟩:=yF5 hx;obtain⟨rfl,rfl⟩:=e;obtain⟨r,h3,h4⟩:=yE4 hty h1 h2 h hp;simp_all [execOp]
 ·-- index
  obtain⟨u,v,e,h1,h2⟩:=yF5 hx;obtain⟨rfl,rfl⟩:=e;obtain⟨r,h3,h4⟩:=yS1 hty h1 h2 h hp;simp_all [execOp]
 ·-- extract
  simp[zD9] at hx;obtain⟨y,e,h1⟩:=zK2 hx;simp  at e;subst e;obtain⟨u,h2,h3⟩:=yK6 (P:=P) h1 h;simp_all [execOp]
 ·-- lookup
  obtain⟨u,v,e,h1,h2⟩:=yF5 hx;obtain⟨rfl,rfl⟩:=e;obtain⟨r,h3,h4⟩:=yP0 hmt h1 h2 h;simp_all [execOp]
 ·-- makeMap
  grind [zY5]
 ·-- makeFunc
  rename_i f fs cs0;split at h
  ·obtain⟨rfl,rfl⟩:=h;have hfs':fs=#[]:=by grind
   subst hfs';simp only[zD9] at hx;refine⟨.func (.func f) #[] (cs0.map a.eval),by simp[execOp,Instr.makeFunc],?_⟩;simp only[zA];have:=xX4 hx;rw[show (List.map a.eval cs0.toList).toArray=cs0.map a.eval from Array.toList_inj.1 (by simp)] at this
   grind
  grind
 ·-- len
  rename_i args ats A';simp only[zD9] at hx;obtain⟨y,e,h1⟩:=zK2 hx;have hargs:args.map a.eval=#[y]:=by
   grind
  obtain⟨u,h2,h3⟩:=xG6 (ty:=ty) hty h1 h;exact⟨u,by simp[execOp,resolve,invoke,builtin,hargs,h2],h3⟩
 ·-- max
  simp only[zD9] at hx;obtain⟨v,r,e,u,h2,h3⟩:=yL5 (P:=P) (g:=Builtin.max2) xX hx h;exact⟨u,by simp_all [execOp,resolve,invoke,builtin,Builtin.max_],h3⟩
 ·-- min
  simp only[zD9] at hx;obtain⟨v,r,e,u,h2,h3⟩:=yL5 (P:=P) (g:=Builtin.min2) xX0 hx h;exact⟨u,by simp_all [execOp,resolve,invoke,builtin,Builtin.min_],h3⟩
 grind
end Go.Am
namespace Go.Am
open Go Go.RowKit
variable {gtab:GlobTab}{P:Program}{c:Ctx}{G:Gh}{w:World}{tm:Array Value}{n:Nat}{χ0:Nat→Nat→Nat}{w0:World}{S:St}{a:Act}
theorem yL7 (z:List Value)(k n:Nat)(hz:z.length=k)(hk:0<k):((Array.range (n*k)).map (fun i=>z.toArray[i % z.toArray.size]!)).toList=(List.replicate n z).flatten:=by
 apply List.ext_getElem?;intro j;by_cases hj:j<n*k
 ·have hmod:j % k<z.length:=by rw[hz];exact Nat.mod_lt _ hk
  have key:∀ (n j:Nat),j<n*k→(List.replicate n z).flatten[j]?=z[j % k]?:=by
   intro n
   induction n with
   |zero=>omega
   |succ n ih =>
    intro j hj;simp[List.replicate_succ];by_cases h1:j<k
    ·rw[List.getElem?_append_left (by omega),Nat.mod_eq_of_lt h1]
    ·rw[List.getElem?_append_right (by omega),ih (j-z.length) (by rw[Nat.succ_mul] at hj;omega),hz,Nat.mod_eq_sub_mod (a:=j) (by omega)]
  grind
 simp_all
theorem zS3 (z:List Value){n m:Nat}(h:n≤m):(List.replicate m z).flatten=(List.replicate n z).flatten++(List.replicate (m-n) z).flatten:=by
 grind [List.flatten_append,List.replicate_append_replicate]
theorem yP2 {t:Ty}{T e:TypeId}{ie:TypeInfo}{z:Value}(h1:P.underlying T=some (.slice e))(hie:P.info? e=some ie)(hz:ie.zero=some z)(hse:ie.size=t.size)(hby:ie.bytes≤32768)(hzc':z.cells=(zB8 t).toArray)
  (hc3:0<t.size) (n m:Int) (hb:0≤n∧n≤m∧m≤4294967296) (k1 k2:IntKind) :
  (Instr.makeSlice T (.int k1 n) (.int k2 m)).run P w=.ok (.slice (some ⟨w.heap.size,0,none⟩) n.toNat m.toNat) (w.alloc (.cells ((List.replicate n.toNat (zB8 t)).flatten++(List.replicate (m.toNat-n.toNat) (zB8 t)).flatten).toArray e)):=by
 have hw1:IntKind.i64.wrap n=n:=IntWalk.i64_in _ (by omega);have hw2:IntKind.i64.wrap m=m:=IntWalk.i64_in _ (by omega);have hbm:(ie.bytes:Int)*m≤32768*4294967296:=Int.mul_le_mul (by omega) hb.2.2 (by omega) (by omega);have hrow:((Array.range (m.toNat*t.size)).map (fun i=>(if m.toNat*t.size=0 then (#[]:Array Value) else (zB8 t).toArray)[i % (if m.toNat*t.size=0 then (#[]:Array Value) else (zB8 t).toArray).size]!))=((List.replicate n.toNat (zB8 t)).flatten++(List.replicate (m.toNat-n.toNat) (zB8 t)).flatten).toArray:=by
  by_cases h0:m.toNat*t.size=0
  ·have hz0:m.toNat=0:=by grind [Nat.mul_eq_zero]
   have hn0:n.toNat=0:=by omega
   simp[hz0,hn0]
  ·simp only[if_neg h0];apply Array.toList_inj.1;rw[yL7 _ _ _ zL2 hc3,zS3 (zB8 t) (show n.toNat≤m.toNat by omega)]
 have hbig:¬ (281474976710656<(ie.bytes:Int)*m):=by omega
 have hm0:¬ m<0:=by omega
 have hn0:¬ n<0:=by omega
 have hnm:¬ m<n:=by omega
 rw[← hrow];by_cases h0:m.toNat*t.size=0
 ·simp[Instr.makeSlice,run_underlying h1,asInt,asIntOf,typeInfo,sizeOf,hie,hse,hw1,hw2,hbig,hm0,hn0,hnm,h0,newRow]
 ·simp[Instr.makeSlice,run_underlying h1,asInt,asIntOf,typeInfo,sizeOf,zeroValue,hie,hz,hzc',hse,hw1,hw2,hbig,hm0,hn0,hnm,h0,newRow]
theorem yP3 {t:Ty}{d e:Nat}(hnp:t.noPtr=true)(hv:yE2 t)(n m:Int)(hb:0≤n∧n≤m∧m≤4294967296) :
  zA (G.newArr w.heap.size d) (w.alloc (.cells ((List.replicate n.toNat (zB8 t)).flatten++(List.replicate (m.toNat-n.toNat) (zB8 t)).flatten).toArray e)) tm (some d) (.own t (List.replicate n.toNat t.dflt) d true) (.slice (some ⟨w.heap.size,0,none⟩) n.toNat m.toNat):=by
 have:=xO5 (G:=G) (w:=w) (tm:=tm) (l:=List.replicate n.toNat t.dflt) (rest:=(List.replicate (m.toNat-n.toNat) (zB8 t)).flatten) (d:=d) (e:=e) (cap:=m.toNat) (zK (zT6 hnp) n.toNat) hv
  (by rw[← zS3 (zB8 t) (show n.toNat≤m.toNat by omega)];simp[zL2]) (by grind) (by simp only[maxLen];omega)
 grind
theorem xO8 (hty:zM7 P c.tys=true){T len d:Nat}{ps:Array (Nat×Operand)}{xs:List AVal}{p:List Prop}{A:AVal}{o:Oper}(ho:o.op=.buildSlice T len ps)(hfr:Frame0 χ0 w0 G.χ w)
  (hx:zH6 (zA G w a.tmps none) xs ((ps.toList.map (·.2)).map a.eval)) (h:zX6 c T len d (zE3 ps.toList xs)=some (p,A)) :
  wF6 A=true∧∃ v w' G',(execOp a.eval o).run P w=.ok (.value v) w'∧(Ext (·=zE d) (·=zE d) G w G' w'∨Ext (·=zB d) (·=zB d) G w G' w')∧Frame0 χ0 w0 G'.χ w'∧∀ tm,zA G' w' tm (some d) A v:=by
 unfold zX6 at h;split at h
 ·rename_i hz0;cases hb:(c.wr.any (Nat.beq d)&&Nat.beq len 1) with
  |false=>grind
  |true =>
   simp[hb,cond_true] at h;split at h
   ·rename_i s hTy;cases hs:s.isL with
    |true=>grind
    |false =>
     simp[hs,Option.some.injEq,Prod.mk.injEq] at h;obtain⟨rfl,rfl⟩:=h;have hT:=zI7 hty T (by grind);rw[hTy] at hT;obtain⟨e,h1,h2⟩:=zG9 hT;obtain⟨⟨ie,z,hie,hse,_,hz,hzc,_⟩,_⟩:=zG8 h2;have hzc':z.cells=#[.slice none 0 0]:=by apply Array.toList_inj.1;rw[hzc];rfl
     have hse:ie.size=1:=hse;have hlx:xs.length=ps.toList.length:=by rw[zG2 hx];simp
     obtain⟨e1,e2⟩:=zR9 hlx;rw[hz0] at e1 e2;rw[← e1] at hx;obtain⟨o1,hps⟩:∃ o1,ps.toList=[(0,o1)]:=by
      match hq:ps.toList,e2 with
      |[(k,o1)],e2=>grind
     rw[hps] at hx;have hv:=hx.1;simp only[zA] at hv;have hparts:(ps.map fun (i,x)=>(i,a.eval x)).toList=[(0,.slice none 0 0)]:=by
      simp_all
     have hrun:(Instr.buildSlice T 1 (ps.map fun (i,x)=>(i,a.eval x))).run P w=.ok (.slice (some ⟨w.heap.size,0,none⟩) 1 1) (w.alloc (.cells #[.slice none 0 0] e)):=by
      refine run_buildSlice w T e 1 _ #[.slice none 0 0] ie z h1 hie hz (by grind) (by grind) ?_;rw[hparts,hse,hzc'];have hc1:(Value.slice none 0 0).cells=#[.slice none 0 0]:=rfl;simp[Instr.fill,show Array.range 1=#[0] from rfl,hc1]
     refine⟨rfl,.slice (some ⟨w.heap.size,0,none⟩) 1 1,w.alloc (.cells #[.slice none 0 0] e),G.newArr w.heap.size d,?_,.inr (zO6 _ d),zM0 hfr _ _ (fun b o hb=>by simp only[Gh.newArr];rw[if_neg (by omega)]),fun tm=>?_⟩
     ·unfold execOp;simp_all
     ·have hpl:(Ty.sl s).plain=true:=zI0 h2;simp[Ty.plain] at hpl;refine⟨⟨hpl.2,hs⟩,.inr ⟨by omega,.inr ⟨1,#[.slice none 0 0],e,by simp[Gh.newArr],?_,by simp,by simp[maxLen],by simp,fun o=>by simp[Gh.newArr],fun j x hj=>?_⟩⟩⟩
      ·grind [Gh.newArr,zL3]
      ·cases j with
       |zero =>
        simp  at hj;subst hj;exact⟨.slice none 0 0,by simp,by exact⟨⟨hpl.2,hs⟩,.inl ⟨rfl,rfl⟩⟩⟩
       |succ j=>grind
   grind
 grind
theorem xG9 (hty:zM7 P c.tys=true)(_hmt:yI3 P c.maps=true)(hft:yX3 P c.fts=true)(o:Oper){d:Nat}{xs ks:List AVal}{p:List Prop}{A:AVal}(hm:zY5 o.op=true)(hfr:Frame0 χ0 w0 G.χ w)
  (hx:zH6 (zA G w a.tmps none) xs ((zD9 o.op).map a.eval)) (h:zX7 c d o.op xs ks=some (p,A)) (hp:∀ q∈p,q) :
  wF6 A=true∧∃ v w' G',(execOp a.eval o).run P w=.ok (.value v) w'∧(Ext (·=zE d) (·=zE d) G w G' w'∨Ext (·=zB d) (·=zB d) G w G' w')∧Frame0 χ0 w0 G'.χ w'∧∀ tm,zA G' w' tm (some d) A v:=by
 obtain⟨dst,op,ty,pos,after,guard⟩:=o;simp only at hm hx h ⊢;cases op with
 |box T x =>
  match xs,hx with
  |[A'],hx =>
   simp only[zX7] at h;cases hc:(c.is T (c.ty T)&&AVal.fits (c.ty T) A') with
   |false=>grind
   |true =>
    simp[hc] at h;obtain⟨rfl,rfl⟩:=h;simp  at hc;have hT:=zB6 hty hc.1;obtain⟨us,h1,h2⟩:=zR8 hx.1 hc.2 (zC5 hT);have hcel:=zJ6 h2 (zT5 h1);have hcel':(a.eval x).cells=us.toArray:=by grind
    refine⟨rfl,.pointer (some ⟨w.heap.size,0,none⟩),w.alloc (.cells us.toArray T),G.newBox w.heap.size d,?_,.inl (zT7 _ d),zM0 hfr _ _ (fun b o hb=>by simp only[Gh.newBox];rw[if_neg (by omega)]),fun tm=>xO4 h1 ⟨zI0 hT,zC5 hT⟩⟩;simp_all [execOp,Instr.box,newVar,newRow]
 |alloc T =>
  match xs,hx with
  |[],hx =>
   simp only[zX7] at h;cases hfn:c.fts.any (Nat.beq T) with
   |true =>
    simp[hfn] at h;obtain⟨rfl,rfl⟩:=h;obtain⟨i,_,z,u,hi,_,_,_,hz,hzc⟩:=yX4 hft hfn;refine⟨rfl,.pointer (some ⟨w.heap.size,0,none⟩),w.alloc (.cells #[u] T),G.newBox w.heap.size d,?_,.inl (zT7 _ d),zM0 hfr _ _ (fun b o hb=>by simp only[Gh.newBox];rw[if_neg (by omega)]),fun tm=>?_⟩
    ·simp_all [execOp,Instr.alloc,zeroValue,typeInfo,newVar,newRow]
    ·refine⟨by simp[Gh.newBox],u,T,?_,fun o=>by simp[Gh.newBox]⟩;simp only[Gh.newBox];exact zL3 w _
   |false =>
   simp[hfn,cond_false] at h;cases hc:(c.is T (c.ty T)&&(c.ty T).noPtr) with
   |false=>grind
   |true =>
    simp[hc] at h;obtain⟨rfl,rfl⟩:=h;simp  at hc;have hT:=zB6 hty hc.1;obtain⟨⟨i,z,hi,hs,_,hz,hzc,_⟩,_⟩:=zG8 hT;have h1:zA8 G w (c.ty T) (zV (c.ty T)) (zB8 (c.ty T)):=xD7 hc.2 (zI0 hT);have hzc':z.cells=(zB8 (c.ty T)).toArray:=by grind
    refine⟨rfl,.pointer (some ⟨w.heap.size,0,none⟩),w.alloc (.cells (zB8 (c.ty T)).toArray T),G.newBox w.heap.size d,?_,.inl (zT7 _ d),zM0 hfr _ _ (fun b o hb=>by simp only[Gh.newBox];rw[if_neg (by omega)]),fun tm=>xO4 h1 ⟨zI0 hT,zC5 hT⟩⟩;simp_all [execOp,Instr.alloc,zeroValue,typeInfo,newVar,newRow]
 |buildSlice T len ps =>
  simp only[zD9] at hx;simp only[zX7] at h;cases hnil:zX6 c T len d (zE3 ps.toList xs) with
  |some r =>
   simp[hnil] at h;subst h;exact xO8 hty rfl hfr hx hnil
  |none =>
  simp only[hnil] at h;unfold yG2 at h;split at h
  ·rename_i t hTy;have hT:=zI7 hty T (by grind);rw[hTy] at hT;cases hc:((zE3 ps.toList xs).all (fun q=>Nat.blt q.1 len)&&Nat.ble (len*t.size) 16777216&&Nat.blt 0 t.size&&t.noPtr) with
   |false=>grind
   |true =>
    simp[hc,cond_true] at h;simp only[Bool.and_eq_true] at hc;obtain⟨⟨⟨hc1,hc2⟩,hc3⟩,hc4⟩:=hc;have hc2:len*t.size≤16777216:=Nat.le_of_ble_eq_true hc2;have hc3:0<t.size:=Nat.le_of_ble_eq_true hc3;split at h
    ·rename_i l hl;obtain⟨rfl,rfl⟩:=h;obtain⟨e,h1,h2⟩:=zG9 hT;obtain⟨⟨ie,z,hie,hse,_,hz,hzc,_⟩,_⟩:=zG8 h2;have hlx:xs.length=ps.toList.length:=by rw[zG2 hx];simp
     obtain⟨e1,e2⟩:=zR9 hlx;have hparts:(ps.map fun (i,x)=>(i,a.eval x)).toList=List.zip ((zE3 ps.toList xs).map (·.1)) ((ps.toList.map (·.2)).map a.eval):=by
      simp_all [yT]
     have hx':zH6 (zA G w a.tmps none) ((zE3 ps.toList xs).map (·.2)) ((ps.toList.map (·.2)).map a.eval):=by grind
     have hcells:zL0 (zB4 G.χ w t) (List.replicate len t.dflt) ((Array.range (len*t.size)).map (fun i=>(zB8 t).toArray[i % (zB8 t).toArray.size]!)).toList:=by
      rw[yL7 _ _ _ zL2 hc3];grind [zK,zT6]
     obtain⟨cells',h5,h6,h7⟩:=yS9 (G:=G) (w:=w) (tm:=a.tmps) (zC5 h2) (fun q hq=>by simp;exact Nat.le_of_ble_eq_true (List.all_eq_true.1 hc1 q hq)) hx' rfl hcells hl;have hlen:l.length=len:=by grind
     have hrun:(Instr.buildSlice T len (ps.map fun (i,x)=>(i,a.eval x))).run P w=.ok (.slice (some ⟨w.heap.size,0,none⟩) len len) (w.alloc (.cells cells' e)):=by
      by_cases h0:len*t.size=0
      ·have hl0:len=0:=by grind [Nat.mul_eq_zero]
       subst hl0;have hps:(ps.map fun (i,x)=>(i,a.eval x)).toList=[]:=by
        rw[hparts];cases hq:zE3 ps.toList xs<;>simp_all
       rw[← hparts,hps] at h5;simp[Instr.fill] at h5;subst h5;have hps':(ps.map fun (i,x)=>(i,a.eval x))=#[]:=by grind
       rw[hps'];simp[Instr.buildSlice,run_underlying h1,sizeOf,typeInfo,hie,Instr.fill,newRow,show Array.range 0=#[] from rfl]
      grind [run_buildSlice]
     refine⟨rfl,.slice (some ⟨w.heap.size,0,none⟩) len len,w.alloc (.cells cells' e),G.newArr w.heap.size d,?_,.inr (zO6 _ d),zM0 hfr _ _ (fun b o hb=>by simp only[Gh.newArr];rw[if_neg (by omega)]),fun tm=>?_⟩
     ·simp_all [execOp]
     ·have hul:=zC6 (k:=t.size) (fun _ _ h=>zA1 h) h6;have hle:len≤len*t.size:=Nat.le_mul_of_pos_right _ hc3;have:=xO5 (G:=G) (w:=w) (tm:=tm) (rest:=[]) (d:=d) (e:=e) (cap:=len) h6 ⟨zI0 h2,zC5 h2⟩ (by grind) (by omega) (by simp only[maxLen];omega);simp_all
    grind
  grind
 |makeSlice T x y =>
  match xs,hx with
  |[A',B'],hx =>
   simp only[zX7] at h;unfold xC9 at h;split at h
   ·rename_i t k1 n1 k2 m1 hTy;have hT:=zI7 hty T (by grind);rw[hTy] at hT;cases hc:(Nat.blt 0 t.size&&t.noPtr) with
    |false=>grind
    |true =>
     simp[hc,cond_true,Option.some.injEq,Prod.mk.injEq] at h;obtain⟨rfl,rfl⟩:=h;simp only[Bool.and_eq_true] at hc;have hc3:0<t.size:=Nat.le_of_ble_eq_true hc.1;obtain⟨e,h1,h2⟩:=zG9 hT;obtain⟨⟨ie,z,hie,hse,hby,hz,hzc,_⟩,_⟩:=zG8 h2;have hzc':z.cells=(zB8 t).toArray:=by grind
     have hb:=hp _ (List.mem_singleton.2 rfl);have hx1:=hx.1;have hx2:=hx.2.1;have hv1:=VRep_int.1 hx1;have hv2:=VRep_int.1 hx2;have hrun:=yP2 (w:=w) h1 hie hz hse hby hzc' hc3 n1 m1 hb k1 k2;refine⟨rfl,_,_,G.newArr w.heap.size d,by simp only[execOp,hv1,hv2,Sem.run_bind,hrun];rfl,.inr (zO6 _ d),zM0 hfr _ _ (fun b o hb=>by simp only[Gh.newArr];rw[if_neg (by omega)]),fun tm=>?_⟩;exact yP3 hc.2 ⟨zI0 h2,zC5 h2⟩ n1 m1 hb
   grind
 |makeMap T r =>
  cases r with
  |some r=>grind [zX7]
  |none =>
   match xs,hx with
   |[],hx =>
    simp only[zX7] at h;unfold wB4 at h;split at h
    ·rename_i k e hT;obtain⟨rfl,rfl⟩:=h;refine⟨rfl,.map (some w.heap.size),w.alloc (.map #[] 0),G.newArr w.heap.size d,?_,.inr (zO6 _ d),zM0 hfr _ _ (fun b o hb=>by simp only[Gh.newArr];rw[if_neg (by omega)]),fun tm=>?_⟩
     ·simp[execOp,Instr.makeMap]
     ·refine .inr ⟨rfl,k,e,[],rfl,HEq.rfl,#[],0,by simp[Gh.newArr],?_,rfl,fun o=>by simp[Gh.newArr]⟩;simp only[Gh.newArr];exact zL3 w _
    grind
 |_=>grind [zY5]
end Go.Am
namespace Go.Am
open Go Go.RowKit
variable {gtab:GlobTab}{P:Program}{c:Ctx}{G:Gh}{w:World}{tm:Array Value}{n:Nat}{χ0:Nat→Nat→Nat}{w0:World}{S:St}{a:Act}
theorem zZ4 {u:St}:∀ {s:Nat},(∀ e∈u,e.1≠zA6)→St.has s u=true→(u++S).get s=u.get s:=by
 induction u<;>grind [St.has,St.get,Nat.beq]
theorem zJ8 {u:St}:∀ {s:Nat},(∀ e∈u,e.1≠zA6)→St.has s u=false→(u++S).get s=S.get s:=by
 induction u with
 |nil=>grind
 |cons e r ih =>
  intro s hc h;obtain⟨k,A⟩:=e;simp only[St.has,List.any_cons,Bool.or_eq_false_iff] at h;simp[St.get,h.1];have hk2:Nat.beq k zA6=false:=by
   cases h2:Nat.beq k zA6<;>simp_all
  simp[hk2];exact ih (fun e he=>hc e (by grind)) h.2
theorem yY3 {u:St}:∀ {s:Nat},St.has s u=true→(∀ e∈u,e.1≠zA6)→(s,u.get s)∈u:=by
 induction u<;>grind [St.has,St.get,Nat.beq,Nat.eq_of_beq_eq_true]
theorem xO9 {p:AVal→Bool}(hj:p .junk=true):∀ {S:St}{s:Nat},S.all (fun e=>p e.2)=true→p (S.get s)=true:=by
 intro S
 induction S<;>grind [St.get]
theorem zD5 {d s:Nat}{v:Value}(h:d<a.tmps.size):(a.put (some d) v).tmps.getD s undef=if s=d then v else a.tmps.getD s undef:=by
 simp[Act.put,Array.getElem?_setIfInBounds];by_cases e:s=d
 ·grind
 ·rw[if_neg (fun e'=>e e'.symm),if_neg e]
theorem zJ0 {v:Value}:(a.put none v)=a:=rfl
theorem xX5 {dst:Option Nat}{v:Value}:(a.put dst v).tmps.size=a.tmps.size:=by cases dst<;>simp[Act.put]
theorem put_defers {dst:Option Nat}{v:Value}:(a.put dst v).defers=a.defers:=by cases dst<;>rfl
theorem zD6 {u:St}{dst:Option Nat}{v:Value}{X Y:Nat→Prop}{G':Gh}{w':World}(hR:Rel n χ0 w0 S a w G)(_:n≤vNo)(hu:∀ e∈u,e.1<zA6)(hdn:∀ d,dst=some d→d<n)(hd:∀ d,dst=some d→St.has d u=true)
  (hx:Ext X Y G w G' w') (h0:¬ X 0) (hfr:Frame0 χ0 w0 G'.χ w') (hold:∀ s,St.has s u=false→¬ (S.get s).names X Y (some s))
  (hhung:∀ s d,dst=some d→St.has s u=false→(S.get s).hung d=false)
  (hnew:∀ s,St.has s u=true→zA G' w' (a.put dst v).tmps (some s) (u.get s) ((a.put dst v).tmps.getD s undef)):Rel n χ0 w0 (u++S) (a.put dst v) w' G':=by
 have hcut:∀ e∈u,e.1≠zA6:=fun e he=>by grind
 refine⟨by rw[xX5];exact hR.len,by rw[put_defers];exact hR.defers,fun s=>?_,hfr,zH4 hx.prot hR.glob⟩;cases hs:St.has s u with
 |true=>grind [zZ4]
 |false =>
  rw[zJ8 hcut hs];have h1:=zT2 hx h0 a.tmps (hold s hs) (hR.reps s);have htm:∀ k,(k=s∨(S.get s).hung k=true)→(a.put dst v).tmps.getD k undef=a.tmps.getD k undef:=by
   intro k hk;cases dst with
   |none=>rfl
   |some d =>
    have hdn:d<a.tmps.size:=by
     have:=hdn d rfl;rw[hR.len];exact this
    rw[zD5 hdn,if_neg];rcases hk with rfl|hk
    ·grind
    ·grind
  grind [zN5]
theorem zZ5 {d:Nat}{A:AVal}{v:Value}(hR:Rel n χ0 w0 S a w G)(hn:n≤vNo)(hd:d<n)(hhung:∀ s,(S.get s).hung d=false)(hA:A.hung d=false)
  (h:zA G w a.tmps none A v):Rel n χ0 w0 ([(d,A)]++S) (a.put (some d) v) w G:=by
 have hvc:vNo<zA6:=by decide
 refine zD6 (u:=[(d,A)]) (X:=fun _=>False) (Y:=fun _=>False) hR hn (fun e he=>by grind) (fun d' e=>by grind) (fun d' e=>by simp_all [St.has]) ⟨fun _ _ _ h=>⟨h,rfl⟩,fun _ _ _=>⟨rfl,fun _=>rfl⟩,Nat.le_refl _,fun _ _=>rfl,fun _ _=>rfl,fun _ h=>h⟩ id hR.frame
  (fun s _=>?_) (fun s d' e _=>by grind) (fun s hs=>?_)
 ·have key:∀ (A:AVal) (s:Option Nat),¬ A.names (fun _=>False) (fun _=>False) s:=by
   intro A
   induction A with
   |opt _ _ _ A ih=>grind [AVal.names]
   |box τ a ih=>intro s;cases s<;>simp[AVal.names]<;>exact ih none
   |may b τ a ih=>intro s;cases s<;>simp[AVal.names]<;>exact ih none
   |cons a b iha ihb=>grind [AVal.names]
   |agg f a ih=>grind [AVal.names]
   |tup a ih=>grind [AVal.names]
   |fn f a ih=>grind [AVal.names]
   |raw=>intro s;cases s<;>simp[AVal.names]
   |_=>grind [AVal.names]
  grind
 ·have e:d=s:=by simp_all [St.has]
  subst e;have hdn:d<a.tmps.size:=by rw[hR.len];grind
  have hg:St.get [(d,A)] d=A:=by simp[St.get]
  rw[hg,zD5 hdn,if_pos rfl];refine zN5 (fun k hk=>?_) (zK3 h);rw[zD5 hdn,if_neg]
  grind
end Go.Am
namespace Go.Am
open Go Go.RowKit
variable {gtab:GlobTab}{P:Program}{c:Ctx}{G:Gh}{w:World}{tm:Array Value}{n:Nat}{χ0:Nat→Nat→Nat}{w0:World}{S:St}{a:Act}
def SpecOk [GlobTab] (P:Program)(f:Nat)(sp:Spec):Prop:=
 (∃ fn,P.funcs[f]?=some fn∧fn.body.isSome=true∧fn.name≠"runtime.NumGoroutine") ∧
 ∀ args co,sp args=some co→(∀ q∈co.ok,q)→∀ (G:Gh) (w:World) (vals:List Value),vals.length=args.length→GlobOk G.χ w →
  (∀ (i:Nat) A v,args[i]?=some A→vals[i]?=some v→zA G w #[] (some i) A v) →
  Calls P f vals.toArray w fun e w'=>∃ v G',e=.returned v∧Frame0 G.χ w G'.χ w'∧zA G' w' #[] none co.res v ∧
   (∀ (i:Nat) k A u,(i,k)∈co.outs→args[i]?=some A→vals[i]?=some u →
    (∀ τ k0,A=.box τ k0→zA G' w' #[] (some i) (.box τ k) u∧G'.β i=G.β i)∧(zF8 A=false→zA G' w' #[] none k u))∧∀ k B,(k,B)∈co.nb→zA G' w' #[] (some k) B undef
def xP [GlobTab] (P:Program)(f:Nat)(e:List AVal→Option (List Prop×AVal)):Prop:=
 ∀ args p A,e args=some (p,A)→(∀ q∈p,q)→∀ (G:Gh) (w:World) (tm:Array Value) (vals:List Value),zH6 (zA G w tm none) args vals →
  ∃ v,(callFunc f vals.toArray).run P w=.ok (.value v) w∧zA G w tm none A v
theorem yI4 {G':Gh}{w':World}{tm':Array Value}(hprot:∀ b o,b<w.heap.size→G.χ b o=0→G'.χ b o=0∧w'.cell? ⟨b,o,none⟩=w.cell? ⟨b,o,none⟩) :
  ∀ {cs:AVal}{v:Value},cs.pureL=true→zA G w tm none cs v→zA G' w' tm' none cs v:=by
 intro cs
 induction cs with
 |nl=>grind [zA]
 |cons a b _ ihb =>
  intro v hp h;cases a with
  |val τ y=>grind [AVal.pureL,zA,zC4]
  |nil=>grind [AVal.pureL,zA]
  |fn f c =>
   cases c<;>grind [AVal.pureL,zA]
  |_=>simp[AVal.pureL] at hp
 |_=>intro v hp;simp[AVal.pureL] at hp
def zG4 (β:Nat→Nat)(b:Nat):List AVal→Nat→Option Nat
 |[],_=>none
 |.ref s _ []::r,i=>if β s=b then some i else zG4 β b r (i+1)
 |_::r,i=>zG4 β b r (i+1)
theorem yD {β:Nat→Nat}{b:Nat}:∀ {ys:List AVal}{i j:Nat},zG4 β b ys i=some j→∃ s τ,i≤j∧ys[j-i]?=some (.ref s τ [])∧β s=b:=by
 intro ys
 induction ys with
 |nil=>grind [zG4]
 |cons A r ih =>
  intro i j h;have rest:zG4 β b r (i+1)=some j→∃ s τ,i≤j∧(A::r)[j-i]?=some (.ref s τ [])∧β s=b:=by
   grind
  cases A with
  |ref s τ p =>
   cases p<;>grind [zG4]
  |_=>exact rest h
theorem xH {β:Nat→Nat}{s:Nat}{τ:Ty}:∀ {ys:List AVal}{i k:Nat},ys[k]?=some (.ref s τ [])→(∀ j s' τ',j<k→ys[j]?=some (.ref s' τ' [])→β s'≠β s)→zG4 β (β s) ys i=some (i+k):=by
 intro ys
 induction ys with
 |nil=>grind
 |cons A r ih =>
  intro i k h hne;cases k with
  |zero =>
   grind [List.getElem?_cons_zero,Option.some.injEq,zG4]
  |succ k =>
   have hr:=ih (i:=i+1) (k:=k) (by grind) (fun j s' τ' hj hs=>hne (j+1) s' τ' (by omega) (by grind));rw[show i+(k+1)=i+1+k from by omega,← hr];cases A with
   |ref s' τ' p =>
    cases p with
    |nil=>simp only[zG4];rw[if_neg (hne 0 s' τ' (by omega) (by simp))]
    |cons _ _=>grind [zG4]
   |_=>simp only[zG4]
theorem yY4:∀ {ys:List AVal}{i j s s':Nat}{τ τ':Ty},zK9 ys=true→i<j→ys[i]?=some (.ref s τ [])→ys[j]?=some (.ref s' τ' [])→s≠s':=by
 intro ys
 induction ys with
 |nil=>grind
 |cons A r ih =>
  intro i j s s' τ τ' ho hij hi hj;have hmem:∀ {k:Nat}{l:List AVal},l[k]?=some (.ref s' τ' [])→s'∈yK2 l:=by
   intro k l
   induction l generalizing k with
   |nil=>grind
   |cons B l ihl =>
    intro h;cases k with
    |zero=>grind [List.getElem?_cons_zero,Option.some.injEq,yK2]
    |succ k=>have:=ihl (k:=k) (by grind);cases B<;>simp[yK2,this]
  have hrest:zK9 r=true:=by cases A<;>simp_all [zK9]
  cases j with
  |zero=>omega
  |succ j =>
   cases i with
   |zero =>
    simp only[List.getElem?_cons_zero,Option.some.injEq] at hi;subst hi;simp only[zK9,Bool.and_eq_true,Bool.not_eq_true'] at ho;have hm:=hmem (k:=j) (l:=r) (by simpa using hj);intro e;subst e;have:=ho.1;rw[List.any_eq_false] at this;exact this s hm (by simp)
   |succ i=>exact ih (i:=i) (j:=j) hrest (by omega) (by simpa using hi) (by simpa using hj)
def Gh.callee (G:Gh)(ys:List AVal):Gh:=
 {χ:=fun b o=>if G.χ b o=0 then 0 else match zG4 G.β b ys 0 with|some i=>zE i|none=>1,
  β:=fun i=>match ys[i]? with|some (.ref s _ _)=>G.β s|_=>0,
  γ:=G.γ }
def Gh.back (G G':Gh)(b0:Nat)(D:Option Nat):Gh:=
 {χ:=fun b o=>if b<b0 then G.χ b o else match D with
   |some d=>if G'.χ b o=0 then 0 else if G'.χ b o=zB 0 then zB d else if G'.χ b o=zB 1 then zB (100000+d) else if G'.χ b o=zB 2 then zB (200000+d) else if G'.χ b o=zB 3 then zB (300000+d) else 2
   |none=>if G'.χ b o=0 then 0 else 2,
  β:=G.β,
  γ:=fun T=>match D with
   |some d=>if T=d then G'.γ 0 else if T=100000+d then G'.γ 1 else if T=200000+d then G'.γ 2 else if T=300000+d then G'.γ 3 else G.γ T
   |none=>G.γ T }
theorem xH0 {Y k:AVal}{i:Nat}{v kv:Value}{ys:List AVal}(hy:ys[i]?=some Y)(hY:zA G w tm none Y v)(hk:∀ s,zD0 Y=some s→zA G w tm (some s) k kv)
  (hfind:∀ s τ,Y=.ref s τ []→zG4 G.β (G.β s) ys 0=some i):zA (G.callee ys) w #[] (some i) (zD1 Y k) v:=by
 have hprot:∀ b o,b<w.heap.size→G.χ b o=0→(G.callee ys).χ b o=0∧w.cell? ⟨b,o,none⟩=w.cell? ⟨b,o,none⟩:=fun b o _ h=>⟨by grind [Gh.callee],rfl⟩;cases Y with
 |val τ x=>grind [zD1,zA,zC4]
 |nil=>grind [zD1,zA]
 |own t l T m =>
  simp only[zD1];cases m with
  |true=>simp[zA]
  |false=>exact zC4 hprot ((zC rfl).2 (zD2 hY))
 |agg f b =>
  simp only[zD1];split
  ·rename_i x hx;exact zC4 hprot (zJ4 hx rfl hY)
  grind [zA]
 |fn f cs =>
  grind [zD1,zA,yI4]
 |ref s τ p =>
  cases p with
  |nil =>
   cases k with
   |box τ' k =>
    simp only[zD1];cases hb:(Ty.beq τ' τ&&Nat.blt s vNo) with
    |false=>simp[zA]
    |true =>
     simp only[Bool.and_eq_true] at hb;have e:=Ty.eq_of_beq hb.1;subst e;split
     ·rename_i x hx;obtain⟨hvt,cur,e,g1,g2,g3⟩:=zH5 (hk s rfl);simp only[zA] at hY ⊢;have hβ:(G.callee ys).β i=G.β s:=by grind [Gh.callee]
      refine⟨by grind [Ty.poff],hvt,cur,e,by grind,?_,fun o=>?_⟩
      ·simp only[zA8];exact⟨trivial,hvt.2,zA2 hprot (zL8 hx g2)⟩
      ·rw[hβ];have h0:G.χ (G.β s) o≠0:=by grind [zE]
       simp only[Gh.callee];rw[if_neg h0,hfind s τ' rfl]
     grind [zA]
   |_=>simp[zD1,zA]
  |cons _ _=>grind [zD1,zA]
 |_=>simp[zD1,zA]
theorem zM2 (T:Nat):5≤zB T:=by grind [zB]
theorem zN7 (s:Nat):4≤zE s:=by grind [zE]
def zQ0 (G:Gh)(ys:List AVal)(b:Nat):Prop:=(zG4 G.β b ys 0).isSome=true
structure Back (G:Gh) (w:World) (ys:List AVal) (G':Gh) (w':World):Prop where
 frame:Frame0 (G.callee ys).χ w G'.χ w'
 given:∀ b,zQ0 G ys b→(∀ o,4≤G.χ b o)∧∃ i,∀ o,G'.χ b o=zE i
theorem Back.old {ys:List AVal}{G':Gh}{w':World}(h:Back G w ys G' w'){b o:Nat}(hb:b<w.heap.size):G'.χ b o≤1∨∃ i,G'.χ b o=zE i:=by
 by_cases hg:zQ0 G ys b
 ·obtain⟨_,i,hi⟩:=h.given b hg;grind
 ·have hle:(G.callee ys).χ b o≤1:=by
   grind [Gh.callee,zQ0]
  exact .inl (by rw[(h.frame.cell b o hb hle).1];grind)
theorem Back.prot {ys:List AVal}{G':Gh}{w':World}(h:Back G w ys G' w')(D:Option Nat):∀ b o,b<w'.heap.size→G'.χ b o=0→(G.back G' w.heap.size D).χ b o=0∧w'.cell? ⟨b,o,none⟩=w'.cell? ⟨b,o,none⟩:=by
 intro b o _ h0;simp only[Gh.back];by_cases hb:b<w.heap.size
 ·by_cases hg:zQ0 G ys b
  ·obtain⟨_,i,hi⟩:=h.given b hg
   grind [absurd,zD4]
  ·have hle:(G.callee ys).χ b o≤1:=by
    grind [Gh.callee,zQ0]
   have h1:=(h.frame.cell b o hb hle).1
   grind [Gh.callee,zQ0]
 grind
theorem Back.orep {ys:List AVal}{G':Gh}{w':World}(h:Back G w ys G' w'){d T:Nat}(hT:T<4){t:Ty}{l:List t.den}{m:Bool}{v:Value}(ho:zF7 G' w' t l T m v) :
  zF7 (G.back G' w.heap.size (some d)) w' t l (T*100000+d) m v:=by
 have hγ:(G.back G' w.heap.size (some d)).γ (T*100000+d)=G'.γ T:=by
  simp only[Gh.back]
  all_goals grind
 refine zY7 (fun ho=>⟨ho.1,?_⟩) hγ rfl (h.prot (some d)) (fun _ hc o=>?_) ho
 rotate_left
 ·have hnew:¬ G'.γ T<w.heap.size:=by
   intro hb;rcases h.old (o:=0) hb with h9|⟨i,h9⟩
   all_goals grind [zM2,zA7]
  grind [Gh.back,zB]
 rcases ho.2 with h1|⟨cap,cur,e,us,h1,h2,h3,h4,h5,h6,h7,h8⟩
 ·grind
 ·have hnew:¬ G'.γ T<w.heap.size:=by
   intro hb;rcases h.old (o:=l.length*t.size) hb with h9|⟨i,h9⟩
   all_goals grind [zM2,zA7]
  refine .inr ⟨cap,cur,e,us,by grind,by grind,h3,h4,h5,zB5 (fun _ _ hc=>zA2 (h.prot (some d)) hc) h6,h7,fun o=>?_⟩
  grind [Gh.back,zB]
theorem Back.trep {ys:List AVal}{G':Gh}{w':World}(h:Back G w ys G' w'){d:Nat}:∀ {A:AVal}{τ:Ty}{vs:List Value},zF9 A=true→zA8 G' w' τ A vs→zA8 (G.back G' w.heap.size (some d)) w' τ (A.tagTo d) vs:=by
 intro A
 induction A with
 |val τ' x=>intro τ vs _ ht;exact⟨ht.1,ht.2.1,zA2 (h.prot (some d)) ht.2.2⟩
 |nil=>grind [AVal.tagTo,zA8]
 |own t l T m=>intro τ vs hr ht;have hr:T<4:=Nat.le_of_ble_eq_true hr;obtain⟨h1,v,h2,h3⟩:=ht;exact⟨h1,v,h2,h.orep hr h3⟩
 |agg f b ih=>grind [zF9,AVal.tagTo,zA8]
 |nl=>grind [AVal.tagTo,zA8]
 |junk=>grind [AVal.tagTo,zA8]
 |cons x y ihx ihy=>grind [zF9,AVal.tagTo,zA8]
 |_=>grind [zA8]
theorem Back.arep {ys:List AVal}{G':Gh}{w':World}(h:Back G w ys G' w'){d:Nat}:∀ {A:AVal}{v:Value},zF9 A=true→zA G' w' #[] none A v→zA (G.back G' w.heap.size (some d)) w' tm none (A.tagTo d) v:=by
 intro A
 induction A with
 |junk=>grind [AVal.tagTo,zA]
 |val τ' x=>intro v _ ht;exact zC4 (h.prot (some d)) ht
 |nil=>grind [AVal.tagTo,zA]
 |own t l T m=>intro v hr ht;have hr:T<4:=Nat.le_of_ble_eq_true hr;exact h.orep hr ht
 |agg f b _=>intro v hr ht;obtain⟨vs,h1,h2⟩:=ht;exact⟨vs,h1,h.trep hr h2⟩
 |nl=>grind [AVal.tagTo,zA]
 |cons x y ihx ihy=>grind [zF9,AVal.tagTo,zA]
 |tup b ih=>grind [zF9,AVal.tagTo,zA]
 |nilp=>grind [AVal.tagTo,zA]
 |_=>grind [zF9]
end Go.Am
namespace Go.Am
open Go Go.RowKit
variable {gtab:GlobTab}{P:Program}{c:Ctx}{G:Gh}{w:World}{tm:Array Value}{n:Nat}{χ0:Nat→Nat→Nat}{w0:World}{S:St}{a:Act}
theorem zQ1 {f:Nat}{args:List AVal}{co:CallOut}:∀ {fns:List (Nat×Spec)},zP2 fns f args=some co→∃ sp,(f,sp)∈fns∧sp args=some co:=by
 intro fns
 induction fns<;>grind [zP2,Nat.beq,Nat.eq_of_beq_eq_true]
theorem yI5 {ys args:List AVal}:∀ {outs:List (Nat×AVal)}{u:St},yK9 ys args outs=some u →
  (∀ i k,(i,k)∈outs→∃ s τ k0,ys[i]?=some (.ref s τ [])∧args[i]?=some (.box τ k0)∧(s,.box τ k)∈u) ∧
  (∀ e∈u,∃ i k s τ k0,(i,k)∈outs∧ys[i]?=some (.ref s τ [])∧args[i]?=some (.box τ k0)∧e=(s,.box τ k)∧yK8 k=true):=by
 intro outs
 induction outs with
 |nil=>grind [yK9,Option.some.injEq]
 |cons q r ih =>
  intro u h;obtain⟨i,k⟩:=q;simp only[yK9] at h;split at h
  ·rename_i s τ τ' k0 u' h1 h2 h3;cases hb:(Ty.beq τ' τ&&AVal.fits τ k&&yK8 k) with
   |false=>grind
   |true =>
    simp[hb] at h;subst h;simp  at hb;have e:=Ty.eq_of_beq hb.1.1;subst e;obtain⟨g1,g2⟩:=ih h3;constructor
    ·grind
    ·intro e he;rcases List.mem_cons.1 he with he|he
     ·exact⟨i,k,s,τ',k0,by simp,h1,h2,he,hb.2⟩
     ·obtain⟨i',k',s',τ'',k0',q1,q2,q3,q4⟩:=g2 e he;exact⟨i',k',s',τ'',k0',by simp[q1],q2,q3,q4⟩
  grind
theorem yY5 {outs:List (Nat×AVal)}:∀ {args:List AVal}{j i:Nat}{τ:Ty}{k0:AVal},yC6 outs j args=true→args[i]?=some (.box τ k0)→∃ k,(j+i,k)∈outs:=by
 intro args
 induction args with
 |nil=>grind
 |cons A r ih =>
  intro j i τ k0 hc h;simp[yC6] at hc;cases i<;>grind [List.getElem?_cons_zero,zF8]
theorem zQ2:∀ {ys args:List AVal}{i s:Nat}{τ:Ty}{A:AVal},zG ys args=true→ys[i]?=some (.ref s τ [])→args[i]?=some A→zF8 A=true:=by
 intro ys
 induction ys with
 |nil=>grind
 |cons y r ih =>
  intro args i s τ A ha hy hA;cases args with
  |nil=>grind
  |cons B l =>
   have hrest:zG r l=true:=by
    cases y with
    |ref s' τ' p=>cases p<;>simp_all [zG]
    |_=>grind [zG]
   grind [List.getElem?_cons_zero,zG]
theorem yD0 {α β γ:Type}{f:α→β→γ}{xs:List α}{ys:List β}{i:Nat}{z:γ}(h:(List.zipWith f xs ys)[i]?=some z):∃ x y,xs[i]?=some x∧ys[i]?=some y∧z=f x y:=by
 grind
theorem xH1 {α β γ:Type}{f:α→β→γ}{xs:List α}{ys:List β}{i:Nat}{x:α}{y:β}(hx:xs[i]?=some x)(hy:ys[i]?=some y):(List.zipWith f xs ys)[i]?=some (f x y):=by
 grind
theorem zQ3 {α β:Type}{R:α→β→Prop}:∀ {xs:List α}{ys:List β}{i:Nat}{x:α}{y:β},zH6 R xs ys→xs[i]?=some x→ys[i]?=some y→R x y:=by
 intro xs
 induction xs with
 |nil=>grind
 |cons a r ih =>
  intro ys i x y h hx hy;cases ys<;>grind [zH6,List.getElem?_cons_zero,Option.some.injEq]
theorem xH2 {Y k:AVal}{τ:Ty}{k0:AVal}(h:zD1 Y k=.box τ k0):∃ s k',Y=.ref s τ []∧k=.box τ k'∧s<vNo:=by
 cases Y with
 |ref s τ' p =>
  cases p with
  |nil =>
   cases k with
   |box τ'' k' =>
    simp only[zD1] at h;cases hb:(Ty.beq τ'' τ'&&Nat.blt s vNo) with
    |false=>grind
    |true =>
     simp only[hb,cond_true] at h;simp only[Bool.and_eq_true] at hb;have e:=Ty.eq_of_beq hb.1;subst e;have hs:s<vNo:=Nat.le_of_ble_eq_true hb.2;split at h
     ·injection h with h1 h2
      subst h1;exact⟨s,k',rfl,rfl,hs⟩
     ·cases h
   |_=>grind [zD1]
  |cons _ _=>grind [zD1]
 |own t l T m=>grind [zD1]
 |agg f b=>grind [zD1]
 |fn f cs=>grind [zD1]
 |_=>grind [zD1]
theorem yL8 {D:Option Nat}{u:St}:∀ {A:AVal}{os:Option Nat},(∀ d,D=some d→∀ j,j<4→A.hasTag (j*100000+d)=false)→(∀ s,os=some s→St.has s u=false) →
  ¬ A.names (fun x=>(∃ s,x=zE s∧St.has s u=true)∨∃ d j,D=some d∧j<4∧x=zB (j*100000+d)) (fun x=>∃ d j,D=some d∧j<4∧x=zB (j*100000+d)) os:=by
 intro A
 induction A with
 |own t l T m =>
  intro os ht _;simp only[AVal.names];rintro (⟨s,e,_⟩ | ⟨d,j,hD,hj,e⟩)
  ·exact zA7 _ _ e.symm
  ·have:=zA4 e;subst this;have:=ht d hD j hj;simp[AVal.hasTag] at this
 |eref s T t i p =>
  intro os ht _;simp only[AVal.names];rintro⟨d,j,hD,hj,e⟩;have:=zA4 e;subst this;have:=ht d hD j hj;simp[AVal.hasTag] at this
 |ref s τ p=>intro os _ _;simp only[AVal.names];rintro⟨d,j,_,_,e⟩;exact zA7 _ _ e
 |opt _ _ _ A ih=>intro os ht _;simp only[AVal.names];exact ih ht (fun s e=>by cases e)
 |box τ b ih =>
  intro os ht hs;cases os with
  |none=>simp only[AVal.names];exact ih ht (fun s e=>by cases e)
  |some s =>
   simp only[AVal.names,not_or];refine⟨⟨?_,?_⟩,ih ht (fun s e=>by cases e)⟩
   ·rintro⟨s',e,h⟩;have:=zD8 e;subst this;rw[hs s rfl] at h;cases h
   ·rintro⟨d,j,_,_,e⟩;exact zA7 _ _ e
 |pn b s τ=>intro os _ _;simp only[AVal.names];rintro⟨d,j,_,_,e⟩;exact zA7 _ _ e
 |may b τ c ih =>
  intro os ht hs;cases os with
  |none=>simp only[AVal.names];exact ih ht (fun s e=>by cases e)
  |some s =>
   simp only[AVal.names,not_or];refine⟨⟨?_,?_⟩,ih ht (fun s e=>by cases e)⟩
   ·rintro⟨s',e,h⟩;have:=zD8 e;subst this;rw[hs s rfl] at h;cases h
   ·rintro⟨d,j,_,_,e⟩;exact zA7 _ _ e
 |cons x y ihx ihy =>
  intro os ht _;simp only[AVal.names,not_or];refine⟨ihx (fun d hd j hj=>?_) (fun s e=>by cases e),ihy (fun d hd j hj=>?_) (fun s e=>by cases e)⟩
  ·have:=ht d hd j hj;simp only[AVal.hasTag,Bool.or_eq_false_iff] at this;exact this.1
  ·have:=ht d hd j hj;simp only[AVal.hasTag,Bool.or_eq_false_iff] at this;exact this.2
 |agg f b ih=>intro os ht _;simp only[AVal.names];exact ih ht (fun s e=>by cases e)
 |tup b ih=>intro os ht _;simp only[AVal.names];exact ih ht (fun s e=>by cases e)
 |fn f b ih=>intro os ht _;simp only[AVal.names];exact ih ht (fun s e=>by cases e)
 |raw =>
  intro os _ hs;cases os with
  |none=>simp[AVal.names]
  |some s =>
   simp only[AVal.names];rintro (⟨s',e,h⟩ | ⟨d,j,_,_,e⟩)
   ·have:=zD8 e;subst this;rw[hs s rfl] at h;cases h
   ·exact zA7 _ _ e
 |ownh t l T i U m =>
  intro os ht _;simp only[AVal.names,not_or];refine⟨⟨fun ⟨s,e,_⟩=>zA7 _ _ e.symm,fun ⟨d,j,hd,hj,e⟩=>?_⟩,fun ⟨s,e,_⟩=>zA7 _ _ e.symm,fun ⟨d,j,hd,hj,e⟩=>?_⟩
  ·have h:=ht d hd j hj;have:=zA4 e;subst this;simp[AVal.hasTag] at h
  ·have h:=ht d hd j hj;have:=zA4 e;subst this;simp[AVal.hasTag] at h
 |rref s=>intro os _ _;simp only[AVal.names];rintro⟨d,j,_,_,e⟩;exact zA7 _ _ e
 |fptr f caps=>intro os _ _;simp only[AVal.names];rintro⟨k,τ,_,d,j,_,_,e⟩;exact zA7 _ _ e
 |_=>intro os _ _;simp[AVal.names]
theorem yT8 (hR:Rel n χ0 w0 S a w G){f:Nat}{sp:Spec}(hsp:SpecOk P f sp){ys:List AVal}{vals:List Value}{co:CallOut}{u:St}(hys:zH6 (zA G w a.tmps none) ys vals)
  (hco:sp (List.zipWith zD1 ys (ys.map (zA3 S)))=some co) (hok:∀ q∈co.ok,q) (hcov:yC6 co.outs 0 (List.zipWith zD1 ys (ys.map (zA3 S)))=true) (hone:zK9 ys=true)
  (hall:zG ys (List.zipWith zD1 ys (ys.map (zA3 S)))=true) (hout:yK9 ys (List.zipWith zD1 ys (ys.map (zA3 S))) co.outs=some u) :
  Calls P f vals.toArray w fun e w'=>∃ v G',e=.returned v∧Back G w ys G' w'∧zA G' w' #[] none co.res v ∧
   (∀ b,zQ0 G ys b→∃ s,St.has s u=true∧∀ o,G.χ b o=zE s) ∧
   ∀ e∈u,∃ s τ k,e=(s,.box τ k)∧yK8 k=true∧(∃ i,G'.β i=G.β s∧zA G' w' #[] (some i) (.box τ k) (a.tmps.getD s undef))∧(∀ o,G.χ (G.β s) o=zE s)∧G.β s<w.heap.size∧a.tmps.getD s undef=.pointer (some ⟨G.β s,0,none⟩):=by
 have hlen:vals.length=(List.zipWith zD1 ys (ys.map (zA3 S))).length:=by simp[zG2 hys]
 have hysl:=zG2 hys;have yQ7:∀ (i:Nat) s τ,ys[i]?=some (.ref s τ [])→∃ k',S.get s=.box τ k'∧(∀ o,G.χ (G.β s) o=zE s)∧G.β s<w.heap.size∧vals[i]?=some (a.tmps.getD s undef)∧a.tmps.getD s undef=.pointer (some ⟨G.β s,0,none⟩)∧∃ k0,(List.zipWith zD1 ys (ys.map (zA3 S)))[i]?=some (.box τ k0):=by
  intro i s τ hy;have hk:(ys.map (zA3 S))[i]?=some (S.get s):=by simp[hy,zA3]
  have hz:=xH1 (f:=zD1) hy hk;have hb:=zQ2 hall hy hz;obtain⟨τ',k0,hbx⟩:∃ τ' k0,zD1 (.ref s τ []) (S.get s)=.box τ' k0:=by
   cases hh:zD1 (.ref s τ []) (S.get s)<;>simp_all [zF8]
  obtain⟨s',k',e1,e2,hsv⟩:=xH2 hbx;injection e1 with e1 e3 _
  subst e1;subst e3;have hr:=hR.reps s;rw[e2] at hr;obtain⟨hvt,cur,e,g1,g2,g3⟩:=zH5 hr;obtain⟨v,hv⟩:∃ v,vals[i]?=some v:=by
   have:i<vals.length:=by rw[← hysl];exact (List.getElem?_eq_some_iff.1 hy).1
   exact⟨vals[i],List.getElem?_eq_getElem this⟩
  have hv2:=zQ3 hys hy hv;simp only[zA] at hv2 hr;refine⟨k',e2,g3,zE4 g1,?_,hr.1 hsv,k0,by rw[hz,hbx]⟩;rw[hv,hv2.2,hr.1 hsv];simp[Ty.poff]
 have hfind:∀ (i:Nat) s τ,ys[i]?=some (.ref s τ [])→zG4 G.β (G.β s) ys 0=some i:=by
  intro i s τ hy;have:=xH (β:=G.β) (i:=0) hy (fun j s' τ' hj hs' e=>by
   obtain⟨_,_,c1,_⟩:=yQ7 i s τ hy;obtain⟨_,_,c2,_⟩:=yQ7 j s' τ' hs';have h1:=c1 0;have h2:=c2 0;rw[e,h1] at h2;exact yY4 hone hj hs' hy (zD8 h2).symm)
  simpa using this
 refine ((hsp.2 _ co hco hok (G.callee ys) w vals hlen (zH4 (fun b o _ h=>⟨by simp[Gh.callee,h],rfl⟩) hR.glob) (fun i A v hA hv=>?_)).mono ?_)
 ·obtain⟨Y,k,hY,hk,rfl⟩:=yD0 hA;have hk':k=zA3 S Y:=by simp[hY] at hk;exact hk.symm
  subst hk';exact xH0 (kv:=match zD0 Y with|some s=>a.tmps.getD s undef|none=>undef) hY (zQ3 hys hY hv) (fun s hs=>by rw[hs];exact zG3 hR hs) (fun s τ e=>by subst e;exact hfind i s τ hY)
 ·rintro e w' ⟨v,G',rfl,hfr,hres,houts,_⟩;have hgiven:∀ (i:Nat) s τ,ys[i]?=some (.ref s τ [])→G'.β i=G.β s∧∃ k,(i,k)∈co.outs∧zA G' w' #[] (some i) (.box τ k) (a.tmps.getD s undef):=by
   intro i s τ hy;obtain⟨k',e2,g3,g4,hv,_,k0,hz⟩:=yQ7 i s τ hy;obtain⟨k,hk⟩:=yY5 hcov hz;rw[Nat.zero_add] at hk;obtain⟨h1,h2⟩:=(houts i k _ _ hk hz hv).1 τ k0 rfl;exact⟨by rw[h2];simp[Gh.callee,hy],k,hk,h1⟩
  refine⟨v,G',rfl,⟨hfr,fun b hb=>?_⟩,hres,fun b hb=>?_,fun e he=>?_⟩
  ·simp only[zQ0,Option.isSome_iff_exists] at hb;obtain⟨i,hi⟩:=hb;obtain⟨s,τ,_,hy,rfl⟩:=yD hi;simp only[Nat.sub_zero] at hy;obtain⟨_,_,g3,_⟩:=yQ7 i s τ hy;obtain⟨h1,k,_,h2⟩:=hgiven i s τ hy;obtain⟨_,cur,e,q1,q2,q3⟩:=zH5 h2;exact⟨fun o=>by rw[g3];exact zN7 s,i,fun o=>by rw[← h1];exact q3 o⟩
  ·simp only[zQ0,Option.isSome_iff_exists] at hb;obtain⟨i,hi⟩:=hb;obtain⟨s,τ,_,hy,rfl⟩:=yD hi;simp only[Nat.sub_zero] at hy;obtain⟨_,_,g3,_⟩:=yQ7 i s τ hy;obtain⟨_,k,hk,_⟩:=hgiven i s τ hy;obtain⟨s',τ',k0,q1,q2,q3⟩:=(yI5 hout).1 i k hk;rw[hy] at q1;injection q1 with q1
   injection q1 with q1 q4 _
   subst q1;exact⟨s,List.any_eq_true.2 ⟨_,q3,by simp⟩,g3⟩
  ·obtain⟨i,k,s,τ,k0,hm,hy,hz,rfl,hvk⟩:=(yI5 hout).2 e he;obtain⟨k',e2,g3,g4,hv,hpt,_,_⟩:=yQ7 i s τ hy;obtain⟨h1,h2⟩:=(houts i k _ _ hm hz hv).1 τ k0 rfl;have h3:G'.β i=G.β s:=by rw[h2];simp[Gh.callee,hy]
   exact⟨s,τ,k,rfl,hvk,⟨i,h3,h1⟩,g3,g4,hpt⟩
end Go.Am
namespace Go.Am
open Go Go.RowKit
variable {gtab:GlobTab}{P:Program}{c:Ctx}{G:Gh}{w:World}{tm:Array Value}{n:Nat}{χ0:Nat→Nat→Nat}{w0:World}{S:St}{a:Act}
theorem yI6 {ys:List AVal}{b o:Nat}(h:¬ zQ0 G ys b):(G.callee ys).χ b o≤1:=by
 grind [Gh.callee,zQ0]
theorem xE0 {ys:List AVal}{G':Gh}{w':World}{u:St}(D:Option Nat)(h:Back G w ys G' w')(hg:∀ b,zQ0 G ys b→∃ s,St.has s u=true∧∀ o,G.χ b o=zE s) :
  Ext (fun x=>(∃ s,x=zE s∧St.has s u=true)∨∃ d j,D=some d∧j<4∧x=zB (j*100000+d)) (fun x=>∃ d j,D=some d∧j<4∧x=zB (j*100000+d)) G w (G.back G' w.heap.size D) w':=by
 refine⟨fun b o hb h0=>?_,fun b hb hX=>?_,h.frame.size,fun s _=>rfl,fun T hT=>?_,fun _ h=>.inr h⟩
 ·refine⟨by simp_all [Gh.back],?_⟩;exact (h.frame.cell b o hb (by grind [Gh.callee])).2
 ·have hng:¬ zQ0 G ys b:=by
   intro hgb;obtain⟨s,h1,h2⟩:=hg b hgb;simp_all
  exact⟨h.frame.block b hb (fun o=>yI6 hng),fun o=>by simp_all [Gh.back]⟩
 ·simp only[Gh.back];cases D with
  |none=>rfl
  |some d =>
   simp only;rw[if_neg (fun e=>hT ⟨d,0,rfl,by omega,by grind⟩),if_neg (fun e=>hT ⟨d,1,rfl,by omega,by rw[e]⟩),if_neg (fun e=>hT ⟨d,2,rfl,by omega,by rw[e]⟩),if_neg (fun e=>hT ⟨d,3,rfl,by omega,by rw[e]⟩)]
theorem yL9 (hfr:Frame0 χ0 w0 G.χ w){ys:List AVal}{G':Gh}{w':World}{u:St}(D:Option Nat)(h:Back G w ys G' w')(hg:∀ b,zQ0 G ys b→∃ s,St.has s u=true∧∀ o,G.χ b o=zE s) :
  Frame0 χ0 w0 (G.back G' w.heap.size D).χ w':=by
 refine⟨h.frame.os.trans hfr.os,h.frame.tape.trans hfr.tape,h.frame.output.trans hfr.output,Nat.le_trans hfr.size h.frame.size,fun b hb hc=>?_,fun b o hb hc=>?_⟩
 ·have hlt:=Nat.lt_of_lt_of_le hb hfr.size;have hng:¬ zQ0 G ys b:=by
   have h3:=(hfr.cell b 0 hb (hc 0)).1
   grind [zN7]
  rw[h.frame.block b hlt (fun o=>yI6 hng)];exact hfr.block b hb hc
 ·have hlt:=Nat.lt_of_lt_of_le hb hfr.size;have h3:=hfr.cell b o hb hc;refine⟨by grind [Gh.back],?_⟩;have hng:¬ zQ0 G ys b:=by
   grind [zN7]
  rw[(h.frame.cell b o hlt (yI6 hng)).2]
  grind
def zH0 (dst:Option Nat)(res:AVal)(u:St):St:=
 match dst with
 |some d=>(d,res.tagTo d)::u
 |none=>u
theorem yP4 (hR:Rel n χ0 w0 S a w G)(hn:n≤vNo){ys:List AVal}{G':Gh}{w':World}{u:St}{dst:Option Nat}{res:AVal}{v:Value}(h:Back G w ys G' w')(hres:zA G' w' #[] none res v)(hro:zF9 res=true)
  (hg:∀ b,zQ0 G ys b→∃ s,St.has s u=true∧∀ o,G.χ b o=zE s)
  (hu:∀ e∈u,∃ s τ k,e=(s,.box τ k)∧yK8 k=true∧(∃ i,G'.β i=G.β s∧zA G' w' #[] (some i) (.box τ k) (a.tmps.getD s undef))∧(∀ o,G.χ (G.β s) o=zE s)∧G.β s<w.heap.size∧a.tmps.getD s undef=.pointer (some ⟨G.β s,0,none⟩))
  (hlt:∀ e∈(zH0 dst res u),e.1<zA6) (hdn:∀ d,dst=some d→d<n) (hhung:∀ s d,dst=some d→(S.get s).hung d=false)
  (htag:∀ d,dst=some d→∀ s j,j<4→(S.get s).hasTag (j*100000+d)=false) :
  Rel n χ0 w0 ((zH0 dst res u)++S) (a.put dst v) w' (G.back G' w.heap.size dst):=by
 have hsub:∀ s,St.has s (zH0 dst res u)=false→St.has s u=false:=by
  intro s hs;cases dst with
  |none=>exact hs
  |some d=>simp only[zH0,St.has,List.any_cons,Bool.or_eq_false_iff] at hs;exact hs.2
 have hcutU:∀ e∈(zH0 dst res u),e.1≠zA6:=fun e he=>by grind
 have hcutu:∀ e∈u,e.1≠zA6:=fun e he=>by cases dst<;>grind [zH0]
 refine zD6 hR hn hlt hdn (fun d e=>by simp_all [St.has,zH0]) (xE0 dst h hg) (fun hX=>hX.elim (fun ⟨s,e,_⟩=>zD4 s e) (fun ⟨d,j,_,_,e⟩=>zA9 _ e)) (yL9 hR.frame dst h hg)
  (fun s hs=>yL8 (fun d hd j hj=>htag d hd s j hj) (fun s' e=>by grind)) (fun s d e _=>hhung s d e) (fun s hs=>?_)
 have yQ7:∀ s,St.has s u=true→(∀ d,dst=some d→s≠d)→zA (G.back G' w.heap.size dst) w' (a.put dst v).tmps (some s) (u.get s) ((a.put dst v).tmps.getD s undef):=by
  intro s hs hne;have hm:=yY3 hs hcutu;obtain⟨s',τ,k,e,hvk,⟨i,hi,hb⟩,hcol,hblk,hpt⟩:=hu _ hm;injection e with e1 e2
  subst e1;rw[e2];have htm:(a.put dst v).tmps.getD s undef=a.tmps.getD s undef:=by
   cases dst with
   |none=>rfl
   |some d =>
    have hd:d<a.tmps.size:=by rw[hR.len];exact hdn d rfl
    rw[zD5 hd,if_neg (hne d rfl)]
  rw[htm];obtain⟨h1,hvt,cur,e,h2,h3,h4⟩:=hb;refine⟨fun _=>hpt,hvt,cur,e,by rw[hi] at h2;exact h2,?_,fun o=>?_⟩
  ·cases k with
   |val τ' x=>exact⟨h3.1,h3.2.1,zA2 (h.prot dst) h3.2.2⟩
   |_=>simp[yK8] at hvk
  ·simp only[Gh.back];rw[if_pos hblk];exact hcol o
 cases dst with
 |none=>exact yQ7 s hs (fun d e=>by grind)
 |some d =>
  have hd:d<a.tmps.size:=by rw[hR.len];exact hdn d rfl
  simp only[zH0] at hs ⊢;by_cases e:s=d
  ·subst e;have:St.get ((s,res.tagTo s)::u) s=res.tagTo s:=by simp[St.get]
   rw[this,zD5 hd,if_pos rfl];refine zN5 (tm:=(a.put (some s) v).tmps) (fun k hk=>rfl) (zK3 (h.arep hro hres))
  ·have hs':St.has s u=true:=by
    simp only[St.has,List.any_cons,Bool.or_eq_true] at hs;rcases hs with hs|hs
    ·exact absurd (Nat.eq_of_beq_eq_true hs).symm e
    ·exact hs
   have hget:St.get ((d,res.tagTo d)::u) s=u.get s:=by
    have h1:Nat.beq d s=false:=by grind [Nat.beq,absurd,Nat.eq_of_beq_eq_true]
    have h2:Nat.beq d zA6=false:=by cases hb:Nat.beq d zA6 with
     |false=>rfl
     |true=>exact absurd (Nat.eq_of_beq_eq_true hb) (hcutU (d,res.tagTo d) (by simp[zH0]))
    simp[St.get,h1,h2]
   grind
end Go.Am
namespace Go.Am
open Go Go.RowKit
variable {gtab:GlobTab}{P:Program}{c:Ctx}{G:Gh}{w:World}{tm:Array Value}{n:Nat}{χ0:Nat→Nat→Nat}{w0:World}{S:St}{a:Act}
structure CtxOk [GlobTab] (P:Program) (c:Ctx):Prop where
 tys:zM7 P c.tys=true
 fns:∀ f sp,(f,sp)∈c.fns→SpecOk P f sp
 exts:∀ f e,(f,e)∈c.exts→xP P f e
 maps:yI3 P c.maps=true
 fts:yX3 P c.fts=true
 n:c.n≤vNo
 clones:∀ f k,(f,k)∈c.clones→wD1 P f k
def xE1 (tm:Array Value)(gd:Gd):Prop:=∀ s want g,gd=some (s,want,g)→(tm.getD s undef=.bool want↔g=true)
theorem xH3 (hR:Rel n χ0 w0 S a w G){dsts:List (Option Nat)}{g0:Option (Nat×Bool)}{gd:Gd}(h:zN4 dsts S g0=some gd):xE1 a.tmps gd:=by
 intro s want g e;subst e;cases g0 with
 |none=>grind [zN4]
 |some q =>
  simp only[zN4] at h;split at h
  ·rename_i s' hs;split at h
   ·have hr:=hR.reps s'
    grind [zA,VRep_bool]
   ·rename_i s2 w2 g2 b hb;simp  at h;obtain⟨rfl,rfl,rfl⟩:=h;have hr:=hR.reps s';rw[hb] at hr;cases g2 with
    |true=>rw[VRep_bool.1 (hr.2.1 rfl)];grind
    |false=>rw[hr.2.2 rfl];simp[undef]
   grind
  grind
theorem zS4 {gd:Gd}(hi:xE1 tm gd)(hon:yP1 tm gd){A:AVal}{v:Value}(h:zA G w tm none A v):zA G w tm none (zG0 gd A) v:=by
 cases gd with
 |none=>exact h
 |some q =>
  obtain⟨s,want,g⟩:=q;have hg:g=true:=(hi s want g rfl).1 (hon s want g rfl);exact⟨hi s want g rfl,fun _=>h,fun e=>by grind⟩
theorem zM3 {gd:Gd}(hi:xE1 tm gd)(hon:yP1 tm gd){l:List Prop}(h:∀ q∈zV6 gd l,q):∀ q∈l,q:=by
 cases gd with
 |none=>exact h
 |some q =>
  obtain⟨s,want,g⟩:=q;intro q hq;have hg:g=true:=(hi s want g rfl).1 (hon s want g rfl);exact h (g=true→q) (by simp_all [zV6]) hg
theorem zZ6 (hR:Rel n χ0 w0 S a w G)(hn:n≤vNo){d s:Nat}{want g:Bool}{A:AVal}(hi:xE1 a.tmps (some (s,want,g)))(hoff:a.tmps.getD s undef≠.bool want)(hd:d<n)(hh:∀ s,(S.get s).hung d=false)(hA:(AVal.opt s want g A).hung d=false) :
  Rel n χ0 w0 ([(d,.opt s want g A)]++S) (a.put (some d) undef) w G:=by
 refine zZ5 hR hn hd hh hA ?_;simp only[zA];have hg:g=false:=by
  cases g with
  |false=>rfl
  |true=>exact absurd ((hi s want true rfl).2 rfl) hoff
 simp_all
theorem yI7 {gd:Gd}(hon:yP1 tm gd){x:Operand}{want:Bool}{A:AVal}{v:Value}{ac:Act}(htm:ac.tmps=tm)(hb:ac.eval x=.bool want)(h:zA G w tm none A v):zA G w tm none (yA6 gd x want A) v:=by
 cases A with
 |opt s w' g A =>
  cases x with
  |tmp cc =>
   simp only[yA6];cases hc:(Nat.beq s cc&&(w'==want)) with
   |false=>grind [zO7]
   |true =>
    simp_all [zA,Act.eval]
  |_=>grind [yA6,zO7]
 |_=>grind [yA6]
end Go.Am
namespace Go.Am
open Go Go.RowKit
variable {gtab:GlobTab}{P:Program}{c:Ctx}{G:Gh}{w:World}{tm:Array Value}{n:Nat}{χ0:Nat→Nat→Nat}{w0:World}{S:St}{a:Act}
structure MapOk (Bad:Nat→Prop) (G:Gh) (w:World) (G':Gh) (w':World) (g:(t:Ty)→List t.den→Nat→Bool→AVal) (h:Nat→Nat→Ty→Int→yK1→AVal):Prop where
 prot:∀ b o,b<w.heap.size→G.χ b o=0→G'.χ b o=0∧w'.cell? ⟨b,o,none⟩=w.cell? ⟨b,o,none⟩
 ref:∀ s,G'.β s=G.β s
 box:∀ s,(∀ o,G.χ (G.β s) o=zE s)→G.β s<w.heap.size→w'.heap[G.β s]?=w.heap[G.β s]?∧∀ o,G'.χ (G.β s) o=zE s
 own1:∀ t l T m v,¬ Bad T→zF7 G w t l T m v→(g t l T m).fitsT (.sl t)=true→zA8 G' w' (.sl t) (g t l T m) [v]
 own2:∀ t l T m v,¬ Bad T→zF7 G w t l T m v→∀ tm,zA G' w' tm none (g t l T m) v
 eref:∀ s T t i p v,¬ Bad T→∀ tm,zA G w tm none (.eref s T t i p) v→zA G' w' tm none (h s T t i p) v
variable {Bad:Nat→Prop}{G':Gh}{w':World}{g:(t:Ty)→List t.den→Nat→Bool→AVal}{h:Nat→Nat→Ty→Int→yK1→AVal}
theorem xP0 {A:AVal}{t:Ty}(h:A.laxT (.sl t)=true):A.fitsT (.sl t)=true∨A=.junk:=by
 cases A with
 |junk=>simp_all
 |val τ' y=>exact .inl h
 |nil=>exact .inl h
 |own t l T m=>exact .inl h
 |nl=>exact .inl h
 |agg f c=>grind [AVal.laxT,Ty.beq]
 |cons a b=>grind [AVal.laxT,zE9]
 |_=>grind [AVal.laxT]
theorem MapOk.trep (H:MapOk Bad G w G' w' g h):∀ {A:AVal}{τ:Ty}{vs:List Value},(∀ T,Bad T→A.hasTag T=false)→zA8 G w τ A vs→(A.mapOwn g h).laxT τ=true→zA8 G' w' τ (A.mapOwn g h) vs:=by
 intro A
 induction A with
 |val τ' x=>intro τ vs _ ht _;exact⟨ht.1,ht.2.1,zA2 H.prot ht.2.2⟩
 |nil=>grind [AVal.mapOwn,zA8]
 |own t l T m =>
  intro τ vs hb ht hf;obtain⟨rfl,v,rfl,ho⟩:=ht;rcases xP0 hf with h1|h1
  ·exact H.own1 t l T m v (fun hB=>by have:=hb T hB;simp_all [AVal.hasTag]) ho h1
  ·rw[h1];exact⟨rfl,v,rfl,zT5 (G:=G) (w:=w) (A:=.own t l T m) (τ:=.sl t) (vs:=[v]) (by grind [zA8]) v (List.mem_singleton.2 rfl)⟩
 |agg f b ih =>
  intro τ vs hb ht hf;obtain⟨rfl,ht⟩:=ht;simp only[AVal.mapOwn] at hf ⊢;cases hc:(b.mapOwn g h).laxT f with
  |false=>grind [AVal.laxT,Ty.isSl]
  |true=>simp only[cond_true,zA8];exact⟨trivial,ih hb ht hc⟩
 |nl=>grind [AVal.mapOwn,zA8]
 |junk=>grind [AVal.mapOwn,zA8]
 |cons x y ihx ihy =>
  intro τ vs hb ht hf;obtain⟨h1,t1,us,ws,rfl,rfl,h2,h3⟩:=ht;simp[AVal.mapOwn,AVal.laxT,zE9] at hf;exact⟨h1,t1,us,ws,rfl,rfl,ihx (fun T hT=>by grind [AVal.hasTag,Bool.or_eq_false_iff]) h2 hf.1,ihy (fun T hT=>by grind [AVal.hasTag,Bool.or_eq_false_iff]) h3 hf.2⟩
 |_=>grind [zA8]
theorem MapOk.bx (H:MapOk Bad G w G' w' g h){s:Nat}{τ:Ty}{b:AVal}(hb:∀ T,Bad T→b.hasTag T=false)(ha:zP4 G w s τ b)(hc:(b.mapOwn g h).laxT τ=true):zP4 G' w' s τ (b.mapOwn g h):=by
 obtain⟨hvt,cur,e,h2,h3,h4⟩:=ha;obtain⟨q1,q2⟩:=H.box s h4 (zE4 h2);exact⟨hvt,cur,e,by rw[H.ref,q1];exact h2,H.trep hb h3 hc,fun o=>by rw[H.ref];exact q2 o⟩
theorem MapOk.arep (H:MapOk Bad G w G' w' g h):∀ {A:AVal}{os:Option Nat}{v:Value},(∀ T,Bad T→A.hasTag T=false)→zA G w tm os A v→zA G' w' tm os (A.mapOwn g h) v:=by
 intro A
 induction A with
 |junk=>intro os v _ _;simp only[AVal.mapOwn,zA]
 |val τ x=>intro os v _ ha;simp only[AVal.mapOwn,zA] at ha ⊢;exact zC4 H.prot ha
 |nil=>intro os v _ ha;simp only[AVal.mapOwn,zA] at ha ⊢;exact ha
 |nn b=>intro os v _ ha;simp only[AVal.mapOwn,zA] at ha ⊢;exact ha
 |own t l T m =>
  intro os v hb ha;simp only[zA] at ha;simp only[AVal.mapOwn];exact zK3 (H.own2 t l T m v (fun hB=>by have:=hb T hB;simp[AVal.hasTag] at this) ha tm)
 |eref s T t i p =>
  intro os v hb ha;simp only[AVal.mapOwn];exact zK3 (H.eref s T t i p v (fun hB=>by have:=hb T hB;simp[AVal.hasTag] at this) tm (zO2 ha (fun τ c=>by simp) (by simp) (by simp)))
 |opt s' want gg A ih=>intro os v hb ha;simp only[AVal.mapOwn,zA] at ha ⊢;exact⟨ha.1,fun e=>ih hb (ha.2.1 e),ha.2.2⟩
 |box τ b ih =>
  intro os v hb ha;simp only[AVal.mapOwn];cases os with
  |none=>simp only[zA] at ha
  |some s =>
   cases hc:(b.mapOwn g h).laxT τ with
   |false=>simp only[cond_false,zA]
   |true =>
    simp only[cond_true];simp only[zA] at ha ⊢;exact⟨by rw[H.ref];exact ha.1,H.bx hb ha.2 hc⟩
 |may m τ b ih =>
  intro os v hb ha;simp only[AVal.mapOwn];cases os with
  |none=>simp only[zA] at ha
  |some s =>
   cases hc:(b.mapOwn g h).laxT τ with
   |false=>simp only[cond_false,zA]
   |true =>
    simp only[cond_true];simp only[zA] at ha ⊢;exact fun e=>H.bx hb (ha e) hc
 |nilp=>intro os v _ ha;simp only[AVal.mapOwn,zA] at ha ⊢;exact ha
 |pn m s' τ=>intro os v _ ha;simp only[AVal.mapOwn,zA] at ha ⊢;rw[H.ref];exact ha
 |ref s' τ p=>intro os v _ ha;simp only[AVal.mapOwn,zA] at ha ⊢;rw[H.ref];exact ha
 |agg f b _ =>
  intro os v hb ha;simp only[AVal.mapOwn];cases hc:(b.mapOwn g h).laxT f with
  |false=>simp only[cond_false,zA]
  |true =>
   simp only[cond_true];simp only[zA] at ha ⊢;obtain⟨vs,h1,h2⟩:=ha;exact⟨vs,h1,H.trep hb h2 hc⟩
 |nl=>intro os v _ ha;simp only[AVal.mapOwn,zA] at ha ⊢;exact ha
 |cons x y ihx ihy =>
  intro os v hb ha;simp only[AVal.mapOwn,zA] at ha ⊢;obtain⟨u,us,h1,h2,h3⟩:=ha;exact⟨u,us,h1,ihx (fun T hT=>by have:=hb T hT;simp only[AVal.hasTag,Bool.or_eq_false_iff] at this;exact this.1) h2,ihy (fun T hT=>by have:=hb T hT;simp only[AVal.hasTag,Bool.or_eq_false_iff] at this;exact this.2) h3⟩
 |tup b ih=>intro os v hb ha;simp only[AVal.mapOwn,zA] at ha ⊢;exact ih hb ha
 |fn f b ih=>intro os v hb ha;simp only[AVal.mapOwn,zA] at ha ⊢;obtain⟨vs,h1,h2⟩:=ha;exact⟨vs,h1,ih hb h2⟩
 |raw =>
  intro os v _ ha;simp only[AVal.mapOwn];cases os with
  |none=>simp only[zA] at ha
  |some s =>
   simp only[zA] at ha ⊢;obtain⟨h1,u,e,h2,h4⟩:=ha;obtain⟨q1,q2⟩:=H.box s h4 (zE4 h2);exact⟨by rw[H.ref];exact h1,u,e,by rw[H.ref,q1];exact h2,fun o=>by rw[H.ref];exact q2 o⟩
 |rref s'=>intro os v _ ha;simp only[AVal.mapOwn,zA] at ha ⊢;rw[H.ref];exact ha
 |ownh t l T i U m=>intro os v _ _;simp only[AVal.mapOwn,zA]
 |fptr f caps =>
  intro os v _ ha;simp only[AVal.mapOwn,zA] at ha ⊢;obtain⟨b,h1,h2,h3⟩:=ha;have hb:b<w.heap.size:=by
   by_cases hb:b<w.heap.size
   ·exact hb
   ·have:w.heap[b]?=none:=Array.getElem?_eq_none (by omega);simp[World.cell?,this] at h3
  obtain⟨h4,h5⟩:=H.prot b 0 hb h2;refine⟨b,h1,h4,?_⟩;rw[h5,h3];congr 3;refine List.map_congr_left fun q hq=>?_;cases q with
  |none=>rfl
  |some q=>obtain⟨k,τ⟩:=q;simp only[xD2];rw[H.ref]
theorem yI8:∀ {A:AVal}{d:Nat},A.hung d=false→(∀ t l T m,(g t l T m).hung d=false)→(∀ s T t i p,(h s T t i p).hung d=false)→(A.mapOwn g h).hung d=false:=by
 intro A
 induction A with
 |own t l T m=>grind [AVal.mapOwn]
 |eref s T t i p=>grind [AVal.mapOwn]
 |opt s' want gg A ih=>grind [AVal.hung,Bool.or_eq_false_iff,AVal.mapOwn]
 |box τ b _=>grind [AVal.mapOwn,AVal.hung]
 |may m τ b _=>grind [AVal.mapOwn,AVal.hung]
 |agg f b _=>grind [AVal.mapOwn,AVal.hung]
 |cons x y ihx ihy=>grind [AVal.hung,Bool.or_eq_false_iff,AVal.mapOwn]
 |tup b ih=>intro d hh h1 h2;exact ih hh h1 h2
 |fn f b ih=>intro d hh h1 h2;exact ih hh h1 h2
 |_=>intro d _ _ _;simp[AVal.mapOwn,AVal.hung]
theorem zT8 {T:Nat}{k:AVal→AVal}:∀ {R:St}{s:Nat},St.has s (zB7 T k S R)=true→(zB7 T k S R).get s=k (S.get s)∧(S.get s).hasTag T=true∨(∃ e∈zB7 T k S R,e.1=zA6):=by
 intro R
 induction R with
 |nil=>grind [zB7,St.has]
 |cons e r ih =>
  intro s hs;obtain⟨s',A⟩:=e;simp only[zB7] at hs ⊢;cases ht:(S.get s').hasTag T with
  |false=>grind
  |true =>
   simp  at hs ⊢;simp only[St.get];cases hb:Nat.beq s' s with
   |true=>simp_all
   |false =>
    have hs':St.has s (zB7 T k S r)=true:=by grind [St.has]
    cases hcut:Nat.beq s' zA6 with
    |true=>simp_all
    |false =>
     grind
theorem zT9 {T:Nat}{k:AVal→AVal}:∀ {R:St}{s:Nat},St.has s R=true→(S.get s).hasTag T=true→St.has s (zB7 T k S R)=true:=by
 intro R
 induction R with
 |nil=>grind [St.has]
 |cons e r ih =>
  intro s hs ht;obtain⟨s',A⟩:=e;simp only[zB7];simp only[St.has,List.any_cons,Bool.or_eq_true] at hs;cases ht':(S.get s').hasTag T with
  |false =>
   rcases hs with hs|hs
   ·grind [Nat.eq_of_beq_eq_true]
   ·exact ih hs ht
  |true =>
   simp only[cond_true,St.has,List.any_cons,Bool.or_eq_true];rcases hs with hs|hs
   ·grind
   ·exact .inr (ih hs ht)
theorem zN8 {s:Nat}:∀ {S:St},(S.get s)≠.junk→St.has s S=true:=by
 intro S
 induction S with
 |nil=>intro h;exact absurd rfl h
 |cons e r ih =>
  intro h;obtain⟨k,A⟩:=e;simp only[St.get] at h;simp only[St.has,List.any_cons,Bool.or_eq_true];cases hb:Nat.beq k s with
  |true=>simp_all
  |false =>
   right;cases hc:Nat.beq k zA6 with
   |true=>grind
   |false=>simp[hb,hc] at h;exact ih h
theorem zS5 {T:Nat}{A:AVal}(h:A.hasTag T=true):A≠.junk:=by grind [AVal.hasTag]
end Go.Am
namespace Go.Am
open Go Go.RowKit
variable {gtab:GlobTab}{P:Program}{c:Ctx}{G:Gh}{w:World}{tm:Array Value}{n:Nat}{χ0:Nat→Nat→Nat}{w0:World}{S:St}{a:Act}
theorem yT9 {U d:Nat}:∀ {A:AVal}{s:Option Nat},A.hasTag U=false→A.hasTag d=false→¬ A.names (fun x=>x=zB U∨x=zB d) (fun x=>x=zB d) s:=by
 intro A
 induction A with
 |own t l T m=>intro s h1 h2;simp[AVal.names];exact⟨fun e=>by have:=zA4 e;simp_all [AVal.hasTag],fun e=>by have:=zA4 e;simp_all [AVal.hasTag]⟩
 |ownh t l T i V m =>
  intro s h1 h2;simp[AVal.hasTag] at h1 h2;have key:∀ K,Nat.beq U K=false→Nat.beq d K=false→¬ (zB K=zB U∨zB K=zB d):=fun K k1 k2 e=>by
   rcases e with e|e
   ·have:=zA4 e;simp_all
   ·have:=zA4 e;simp_all
  grind [AVal.names]
 |eref s' T t i p=>intro s _ h2;exact fun e=>by have:=zA4 e;simp_all [AVal.hasTag]
 |ref s' τ p=>grind [AVal.names,zA7]
 |opt _ _ _ A ih=>intro s h1 h2;exact ih h1 h2
 |box τ b ih =>
  intro s h1 h2;cases s with
  |none=>exact ih h1 h2
  |some s=>simp[AVal.names];exact⟨⟨zA7 _ _,zA7 _ _⟩,ih h1 h2⟩
 |may m τ b ih =>
  intro s h1 h2;cases s with
  |none=>exact ih h1 h2
  |some s=>simp[AVal.names];exact⟨⟨zA7 _ _,zA7 _ _⟩,ih h1 h2⟩
 |pn b s' τ=>grind [AVal.names,zA7]
 |cons x y ihx ihy=>grind [AVal.hasTag,AVal.names]
 |agg f b ih=>intro s h1 h2;exact ih h1 h2
 |tup b ih=>intro s h1 h2;exact ih h1 h2
 |fn f b ih=>intro s h1 h2;exact ih h1 h2
 |raw =>
  intro s _ _;cases s<;>grind [AVal.names,zA7]
 |rref s'=>grind [AVal.names,zA7]
 |fptr f caps=>grind [AVal.names,zA7]
 |_=>grind [AVal.names]
theorem zF5 {T:Nat}(h:zC0 T S=true)(s:Nat):(S.get s).hasTag T=false:=by
 have:=xO9 (p:=fun A=>!(A.hasTag T)) (S:=S) (s:=s) (by simp[AVal.hasTag]) h
 grind
theorem yU {d:Nat}(h:zV0 d S=true)(s:Nat):(S.get s).hasRef d=false:=by
 have:=xO9 (p:=fun A=>!(A.hasRef d)) (S:=S) (s:=s) (by simp[AVal.hasRef]) h
 grind
theorem xX6 {U d:Nat}{G':Gh}{w':World}(hx:Ext (fun x=>x=zB U∨x=zB d) (fun x=>x=zB d) G w G' w') :
  MapOk (fun T=>T=d) G w G' w' (fun t l T' m=>bif Nat.beq U T' then (bif m then .junk else .val (.sl t) l) else .own t l T' m) (fun s T' t i p=>bif Nat.beq U T' then .junk else .eref s T' t i p):=by
 have h0:¬ ((0:Nat)=zB U∨(0:Nat)=zB d):=by rintro (e|e);exact zA9 _ e;exact zA9 _ e
 refine⟨hx.prot,fun s=>hx.box s (zA7 _ _),fun s hcol hlt=>?_,fun t l T m v hB ho hf=>?_,fun t l T m v hB ho tm=>?_,fun s T t i p v hB tm ha=>?_⟩
 ·have:=hx.block _ hlt (fun o=>by grind [zA7])
  grind
 ·cases hb:Nat.beq U T with
  |true =>
   simp  at hf ⊢;cases m with
   |true=>grind [AVal.fitsT]
   |false=>simp only[cond_false,zA8];exact⟨trivial,rfl,zA2 hx.prot (zD2 ho)⟩
  |false =>
   simp only[cond_false,zA8];refine⟨trivial,v,rfl,zF hx h0 ?_ ho⟩;rintro (e|e)
   ·have:=zA4 e;simp_all
   grind [zA4]
 ·cases hb:Nat.beq U T with
  |true =>
   cases m with
   |true=>simp[zA]
   |false=>exact zN6 (zA2 hx.prot (zD2 ho))
  |false =>
   refine zF hx h0 ?_ ho;rintro (e|e)
   ·have:=zA4 e;simp_all
   grind [zA4]
 ·cases hb:Nat.beq U T with
  |true=>simp[zA]
  |false =>
   simp[zA] at ha ⊢;rw[hx.tag T (fun e=>hB (zA4 e))]
   grind
theorem xP1 {U d:Nat}{A:AVal}(h:A.hung d=false):(A.lose U).hung d=false:=by
 refine yI8 h (fun t l T m=>?_) (fun s T t i p=>?_)
 all_goals grind [AVal.hung]
theorem zU (hR:Rel n χ0 w0 S a w G)(hn:n≤vNo){d U:Nat}{R:AVal}{v':Value}{G':Gh}{w':World}(hd:zC0 d S=true)
  (hx:Ext (fun x=>x=zB U∨x=zB d) (fun x=>x=zB d) G w G' w') (hfr:Frame0 χ0 w0 G'.χ w') (hr:∀ tm,zA G' w' tm (some d) R v')
  (hlt:∀ e∈(d,R)::zB7 U (AVal.lose U) S S,e.1<zA6) (hd0:d<n) (hh:∀ s,(S.get s).hung d=false) :
  Rel n χ0 w0 (((d,R)::zB7 U (AVal.lose U) S S)++S) (a.put (some d) v') w' G':=by
 have h0:¬ ((0:Nat)=zB U∨(0:Nat)=zB d):=by rintro (e|e);exact zA9 _ e;exact zA9 _ e
 have hdn:d<a.tmps.size:=by rw[hR.len];exact hd0
 refine zD6 hR hn hlt (fun d' e=>by injection e with e;subst e;exact hd0) (fun d' e=>by simp_all [St.has]) hx h0 hfr (fun s hs=>?_) (fun s d' e _=>by grind) (fun s hs=>?_)
 ·refine yT9 ?_ (zF5 hd s);cases ht:(S.get s).hasTag U with
  |false=>rfl
  |true=>have:=zT9 (k:=AVal.lose U) (zN8 (zS5 ht)) ht;grind [St.has]
 ·by_cases e:s=d
  ·subst e;have:St.get ((s,R)::zB7 U (AVal.lose U) S S) s=R:=by simp[St.get]
   rw[this,zD5 hdn,if_pos rfl]
   grind
  ·have h1:Nat.beq d s=false:=by grind [Nat.beq,absurd,Nat.eq_of_beq_eq_true]
   have h2:Nat.beq d zA6=false:=by cases hb:Nat.beq d zA6 with
    |false=>rfl
    |true=>have:=hlt (d,R) (by simp);grind [Nat.eq_of_beq_eq_true]
   have hs':St.has s (zB7 U (AVal.lose U) S S)=true:=by grind [St.has]
   have hget:St.get ((d,R)::zB7 U (AVal.lose U) S S) s=AVal.lose U (S.get s):=by
    grind [St.get,zT8]
   rw[hget,zD5 hdn,if_neg e];refine zN5 (tm:=a.tmps) (fun k hk=>?_) ((xX6 hx).arep (fun T hT=>by grind [zF5]) (hR.reps s));rw[zD5 hdn,if_neg]
   grind [xP1]
end Go.Am
namespace Go.Am
open Go Go.RowKit
variable {gtab:GlobTab}{P:Program}{c:Ctx}{G:Gh}{w:World}{tm:Array Value}{n:Nat}{χ0:Nat→Nat→Nat}{w0:World}{S:St}{a:Act}
theorem xX7 {c:List Value}{k o m:Nat}(h:o+m≤k):seg (c.take k) o m=seg c o m:=by
 apply List.ext_getElem?;intro j;simp[seg_getElem?,List.getElem?_take];by_cases hj:j<m
 ·simp only[hj,if_true];rw[if_pos (by omega)]
 grind
theorem yY6 {c us:List Value}{k o:Nat}(h:o+us.length≤k)(hk:k≤c.length):(spl c o us).take k=spl (c.take k) o us:=by
 apply List.ext_getElem?;intro j;rw[List.getElem?_take,spl_getElem? _ _ _ _ (by omega),spl_getElem? _ _ _ _ (by grind),List.getElem?_take];by_cases hj:j<k
 ·grind
 ·rw[if_neg hj,if_neg (by omega),if_neg hj]
theorem yU0 {c us:List Value}{k o:Nat}(h:k≤o)(hk:o+us.length≤c.length):(spl c o us).take k=c.take k:=by
 apply List.ext_getElem?;intro j;rw[List.getElem?_take,List.getElem?_take,spl_getElem? _ _ _ _ hk];by_cases hj:j<k
 ·rw[if_pos hj,if_pos hj,if_neg (by omega)]
 simp_all [if_neg]
theorem xH4 (hfr:Frame0 χ0 w0 G.χ w){t:Ty}(htl:t.isL=false){l:List t.den}{U:Nat}{v0:Value}{i:Nat}{q:yK1}{B:AVal}{us:List Value}{y:t.den}(ho:zF7 G w t l U true v0)(hi:i<l.length)(hq:zF0 t q)
  (hv:zA8 G w (t.pty q) B us) (hy:AVal.as t (AVal.put q (.val t (l.getD i t.dflt)) B)=some y) :
  (∃ cur e,w.heap[G.γ U]?=some (.cells cur e (0,0))∧i*t.size+t.poff q+us.length≤cur.size) ∧
  Frame0 χ0 w0 G.χ (w.setCells (G.γ U) (i*t.size+t.poff q) us) ∧
  Ext (fun x=>x=zB U) (fun _=>False) G w G (w.setCells (G.γ U) (i*t.size+t.poff q) us) ∧
  MapOk (fun _=>False) G w G (w.setCells (G.γ U) (i*t.size+t.poff q) us)
   (fun t' l T' m=>bif Nat.beq U T' then (match Ty.cast t' y with|some y'=>bif m then .own t' (l.set i y') T' m else .junk|none=>.junk) else .own t' l T' m) (fun s T' t i p=>.eref s T' t i p):=by
 obtain⟨⟨hpl,hnl⟩,ho⟩:=zB0 ho htl;rcases ho with ⟨_,rfl⟩ | ⟨cap,cur,e,uz,rfl,h2,h3,h4,h5,h6,h7,h8⟩
 ·grind
 have hcol:∀ o,G.χ (G.γ U) o=zB U:=fun o=>by simp_all
 have hul:=zC6 (k:=t.size) (fun _ _ h=>zA1 h) h6;have hg:=zP7 h6 hi;have hsz:i*t.size+t.size≤l.length*t.size:=by rw[← Nat.succ_mul];exact Nat.mul_le_mul_right _ (by omega)
 have hlc:l.length*t.size≤cur.size:=by grind
 have hc0:zA8 G w t (.val t (l.getD i t.dflt)) (seg uz (i*t.size) t.size):=by simp_all [zA8]
 obtain⟨k1,k2,k3,k4⟩:=zR6 hpl hnl hq hc0;have hvl:=zB1 hv;have hfits:=zR7 hy;have hnew:=zL8 hy (xD5 hpl hnl hq hc0 hv (zP6 hfits));have hfit:i*t.size+t.poff q+us.length≤cur.size:=by omega
 have hx:Ext (fun x=>x=zB U) (fun _=>False) G w G (w.setCells (G.γ U) (i*t.size+t.poff q) us):=zS (fun o=>hcol o) (zA9 U);obtain⟨cur',c1,c2⟩:=zI9 (G.γ U) e (0,0) us (i*t.size+t.poff q) w cur h2 hfit;have hown:∀ {l2:List t.den}{v2:Value},zF7 G w t l2 U true v2→zF7 G (w.setCells (G.γ U) (i*t.size+t.poff q) us) t (l2.set i y) U true v2:=by
  intro l2 v2 ho2;have ho2:=zB0 ho2 htl;refine .inl ⟨⟨hpl,hnl⟩,?_⟩;rcases ho2.2 with ⟨rfl,rfl⟩ | ⟨cap2,cur2,e2,uz2,rfl,g2,g3,g4,g5,g6,g7,g8⟩
  ·simp_all
  ·rw[h2] at g2;injection g2 with g2
   injection g2 with g2 g2e _
   subst g2;have hul2:=zC6 (k:=t.size) (fun _ _ h=>zA1 h) g6;by_cases hi2:i<l2.length
   ·have hsz2:i*t.size+t.size≤l2.length*t.size:=by rw[← Nat.succ_mul];exact Nat.mul_le_mul_right _ (by omega)
    have hsame:seg uz2 (i*t.size) t.size=seg uz (i*t.size) t.size:=by
     grind [xX7]
    refine .inr ⟨cap2,cur',e,spl uz2 (i*t.size) (spl (seg uz2 (i*t.size) t.size) (t.poff q) us),by simp,c1,by grind,g4,?_,?_,?_,fun o=>by simp_all⟩
    ·grind [Array.length_toList,zO4]
    ·exact zB5 (fun _ _ h=>zA2 hx.prot h) (yO4 (R:=zB4 G.χ w t) (k:=t.size) (fun _ _ h=>zA1 h) (by grind) g6 hi2)
    grind [List.length_set,yY6,Array.length_toList,yH4]
   ·have hsz2:l2.length*t.size≤i*t.size:=Nat.mul_le_mul_right _ (by omega);rw[List.set_eq_of_length_le (by omega)];refine .inr ⟨cap2,cur',e,uz2,by simp,c1,g3,g4,?_,zB5 (fun _ _ h=>zA2 hx.prot h) g6,?_,fun o=>by simp_all⟩
    all_goals grind [Array.length_toList,zO4,yU0]
 refine⟨⟨cur,e,h2,hfit⟩,zM1 hfr (fun o=>by grind [zM2]),hx,hx.prot,fun s=>rfl,fun s hcs hlt=>?_,fun t2 l2 T m v2 _ ho2 hf=>?_,fun t2 l2 T m v2 _ ho2 tm=>?_,fun s T t i p v _ tm ha=>ha⟩
 ·have:=hx.block _ hlt (fun o=>by grind [zA7])
  grind
 ·cases hb:Nat.beq U T with
  |false =>
   simp only[cond_false,zA8];exact⟨trivial,v2,rfl,zF hx (zA9 U) (fun e=>by have:=zA4 e;subst this;simp at hb) ho2⟩
  |true =>
   have:=Nat.eq_of_beq_eq_true hb;subst this;simp only[hb,cond_true] at hf ⊢;cases hc:Ty.cast t2 y with
   |none=>simp[hc,AVal.fitsT] at hf
   |some y' =>
    obtain⟨e',rfl⟩:=zC7 hc;subst e';cases m with
    |false=>simp[hc,AVal.fitsT] at hf
    |true=>simp only[cond_true,zA8];exact⟨trivial,v2,rfl,hown ho2⟩
 ·cases hb:Nat.beq U T with
  |false =>
   simp only[cond_false,zA];exact zF hx (zA9 U) (fun e=>by have:=zA4 e;subst this;simp at hb) ho2
  |true =>
   have:=Nat.eq_of_beq_eq_true hb;subst this;simp only[cond_true];cases hc:Ty.cast t2 y with
   |none=>simp only[zA]
   |some y' =>
    obtain⟨e',rfl⟩:=zC7 hc;subst e';cases m with
    |false=>simp only[cond_false,zA]
    |true=>simp only[cond_true,zA];exact hown ho2
theorem wD3 {U:Nat}(hX:∀ o,G.χ (G.γ U) o=zB U){o':Obj}{es:Array MapEntry}{clock:Nat}(hb:w.heap[G.γ U]?=some (.map es clock)) :
  Ext (fun x=>x=zB U) (fun _=>False) G w G { w with heap:=w.heap.setIfInBounds (G.γ U) o' }:=by
 have hne:∀ b',b'≠G.γ U→({ w with heap:=w.heap.setIfInBounds (G.γ U) o' }:World).heap[b']?=w.heap[b']?:=fun b' h=>(Go.MapKept.heap_set hb).2 b' h
 refine⟨fun b' o hb h=>⟨h,?_⟩,fun b' hb h=>⟨hne b' ?_,fun _=>rfl⟩,by simp,fun _ _=>rfl,fun _ _=>rfl,fun _ h=>h.elim⟩
 ·grind [zA9,World.cell?]
 ·intro e;simp_all
theorem xP2 (h:Frame0 χ0 w0 G.χ w){U:Nat}(hX:∀ o,G.χ (G.γ U) o=zB U){o':Obj}{es:Array MapEntry}{clock:Nat}(hb:w.heap[G.γ U]?=some (.map es clock)) :
  Frame0 χ0 w0 G.χ { w with heap:=w.heap.setIfInBounds (G.γ U) o' }:=by
 have hne:∀ b',b'≠G.γ U→({ w with heap:=w.heap.setIfInBounds (G.γ U) o' }:World).heap[b']?=w.heap[b']?:=fun b' h=>(Go.MapKept.heap_set hb).2 b' h
 have hnot:∀ b' o,b'<w0.heap.size→χ0 b' o≤1→b'≠G.γ U:=by
  intro b' o hb' hc e;have:=(h.cell b' o hb' hc).1
  grind [zM2]
 refine⟨h.os,h.tape,h.output,by simpa using h.size,fun b' hb' hc=>?_,fun b' o hb' hc=>?_⟩
 ·rw[hne b' (hnot b' 0 hb' (hc 0))];exact h.block b' hb' hc
 ·have h1:=h.cell b' o hb' hc
  grind [World.cell?]
theorem xP3 (hfr:Frame0 χ0 w0 G.χ w){T U:Nat}{k e:Ty}(hT:MapTyIs P T k e){l:List (k.den×e.den×Unit)}{v kv ev:Value}{x:k.den}{y:e.den}(hM:xW3 G w k e l U v)(hk:zR2 G.χ w k x kv)(he:zR2 G.χ w e y ev) :
  ∃ w',(Instr.mapUpdate T v kv ev).run P w=.ok () w'∧Frame0 χ0 w0 G.χ w'∧Ext (fun x=>x=zB U) (fun _=>False) G w G w' ∧
   MapOk (fun _=>False) G w G w' (fun t' l T' m=>bif Nat.beq U T' then (match Ty.cast (a:=.sl t') (.sl (xL8 k e)) l with|some l'=>.own (xL8 k e) (xV7 k e x y l') T' m|none=>.junk) else .own t' l T' m) (fun s T' t i p=>.eref s T' t i p):=by
 obtain⟨es',clock',hrun,hE'⟩:=zZ3 hT hM hk he;obtain⟨es,clock,hv,hb,hE,hcol⟩:=hM;have hx:=wD3 (G:=G) (w:=w) hcol (o':=.map es' clock') hb;have hown:∀ {l2:List (k.den×e.den×Unit)}{m:Bool}{v2:Value},zF7 G w (xL8 k e) l2 U m v2→zF7 G { w with heap:=w.heap.setIfInBounds (G.γ U) (.map es' clock') } (xL8 k e) (xV7 k e x y l2) U m v2:=by
  intro l2 m v2 ho2;have hm:m=true:=by
   rcases ho2 with h|h
   ·exact absurd h.1.2 (by simp[Ty.isL])
   grind
  subst hm;have hM2:=yP ho2;have hv2:v2=v:=by obtain⟨_,_,h,_⟩:=hM2;grind
  subst hv2;obtain⟨es2,clock2,hrun2,hE2⟩:=zZ3 hT hM2 hk he;rw[hrun] at hrun2;injection hrun2 with _ hw
  have hh:=congrArg (fun w:World=>w.heap[G.γ U]?) hw;simp[(Go.MapKept.heap_set hb).1] at hh;obtain⟨rfl,_⟩:=hh;exact .inr ⟨rfl,k,e,_,rfl,HEq.rfl,es',clock',hv,(Go.MapKept.heap_set hb).1,yH0 hx.prot hE2,hcol⟩
 refine⟨_,hrun,xP2 hfr hcol hb,hx,hx.prot,fun s=>rfl,fun s hcs hlt=>?_,fun t2 l2 T' m v2 _ ho2 hf=>?_,fun t2 l2 T' m v2 _ ho2 tm=>?_,fun s T' t i p v _ tm ha=>ha⟩
 ·have:=hx.block _ hlt (fun o=>by grind [zA7])
  grind
 ·cases hbq:Nat.beq U T' with
  |false =>
   simp only[cond_false,zA8];exact⟨trivial,v2,rfl,zF hx (zA9 U) (fun e=>by have:=zA4 e;simp_all) ho2⟩
  |true =>
   have:=Nat.eq_of_beq_eq_true hbq;subst this;simp  at hf ⊢;split at hf
   ·rename_i l2' hl;obtain⟨e',hl⟩:=zC7 hl;injection e' with e'
    subst e';subst hl;simp only[zA8];exact⟨trivial,v2,rfl,hown ho2⟩
   grind [AVal.fitsT]
 ·cases hbq:Nat.beq U T' with
  |false =>
   exact zF hx (zA9 U) (fun e=>by have:=zA4 e;simp_all) ho2
  |true =>
   have:=Nat.eq_of_beq_eq_true hbq;grind [zC7,zA]
theorem yB3 {U:Nat}:∀ {A:AVal}{s:Option Nat},A.hasTag U=false→¬ A.names (fun x=>x=zB U) (fun _=>False) s:=by
 intro A
 induction A with
 |own t l T m=>intro s h1;exact fun e=>by have:=zA4 e;simp_all [AVal.hasTag]
 |ownh t l T i V m=>intro s h1;simp[AVal.names];exact⟨fun e=>by have:=zA4 e;simp_all [AVal.hasTag],fun e=>by have:=zA4 e;simp_all [AVal.hasTag]⟩
 |opt _ _ _ A ih=>intro s h1;exact ih h1
 |box τ b ih =>
  intro s h1;cases s with
  |none=>exact ih h1
  |some s=>simp[AVal.names];exact⟨zA7 _ _,ih h1⟩
 |may m τ b ih =>
  intro s h1;cases s with
  |none=>exact ih h1
  |some s=>simp[AVal.names];exact⟨zA7 _ _,ih h1⟩
 |cons x y ihx ihy=>grind [AVal.hasTag,AVal.names]
 |agg f b ih=>intro s h1;exact ih h1
 |tup b ih=>intro s h1;exact ih h1
 |fn f b ih=>intro s h1;exact ih h1
 |raw =>
  intro s _;cases s<;>grind [AVal.names,zA7]
 |_=>grind [AVal.names]
theorem yB4 (hR:Rel n χ0 w0 S a w G)(hn:n≤vNo){U:Nat}{X Y:Nat→Prop}{G':Gh}{w':World}{g:(t:Ty)→List t.den→Nat→Bool→AVal}{h:Nat→Nat→Ty→Int→yK1→AVal}{Bad:Nat→Prop}
  (hx:Ext X Y G w G' w') (h0:¬ X 0) (hfr:Frame0 χ0 w0 G'.χ w') (hm:MapOk Bad G w G' w' g h) (hbad:∀ T,Bad T→∀ s,(S.get s).hasTag T=false)
  (hnames:∀ s,(S.get s).hasTag U=false→¬ (S.get s).names X Y (some s)) (hlt:∀ e∈zB7 U (AVal.mapOwn g h) S S,e.1<zA6) :
  Rel n χ0 w0 (zB7 U (AVal.mapOwn g h) S S++S) a w' G':=by
 have:=zD6 (u:=zB7 U (AVal.mapOwn g h) S S) (dst:=none) (v:=undef) hR hn hlt (fun d e=>by cases e) (fun d e=>by grind) hx h0 hfr (fun s hs=>hnames s (by
   grind [zT9,AVal.mapOwn,zN8,zS5])) (fun s d e=>by grind) (fun s hs=>by
   rcases zT8 hs with h3|⟨e,he,h3⟩
   ·rw[h3.1];exact hm.arep (fun T hT=>hbad T hT s) (hR.reps s)
   grind)
 exact this
theorem yI9 (hR:Rel n χ0 w0 S a w G)(hn:n≤vNo){U:Nat}{X Y:Nat→Prop}{G':Gh}{w':World}{k:AVal→AVal}
  (hx:Ext X Y G w G' w') (h0:¬ X 0) (hfr:Frame0 χ0 w0 G'.χ w') (hk:∀ s,(S.get s).hasTag U=true→zA G' w' a.tmps (some s) (k (S.get s)) (a.tmps.getD s undef))
  (hnames:∀ s,(S.get s).hasTag U=false→¬ (S.get s).names X Y (some s)) (hlt:∀ e∈zB7 U k S S,e.1<zA6) :
  Rel n χ0 w0 (zB7 U k S S++S) a w' G':=by
 have:=zD6 (u:=zB7 U k S S) (dst:=none) (v:=undef) hR hn hlt (fun d e=>by cases e) (fun d e=>by grind) hx h0 hfr (fun s hs=>hnames s (by
   grind [zT9,zN8,zS5])) (fun s d e=>by grind) (fun s hs=>by
   rcases zT8 hs with h3|⟨e,he,h3⟩
   ·rw[h3.1];exact hk s h3.2
   grind)
 exact this
theorem xH5 {X Y:Nat→Prop}{G':Gh}{w':World}(hx:Ext X Y G w G' w'){t:Ty}{l:List (List t.den)}{T j U:Nat}{m m':Bool}{v:Value}{x:List t.den}(hT:¬ X (zB T))
  (hin:∀ u,yW7 G w t (List.getD (α:=List t.den) l j []) U m u→yW7 G' w' t x U m' u) (hTU:T≠U) (h:xL7 G w t l T j U m v):xL7 G' w' t (List.set (α:=List t.den) l j x) T j U m' v:=by
 obtain⟨hv,⟨he,_⟩ | ⟨hne,⟨h1,h2⟩ | ⟨cap,cur,e,h1,h2,h3,h4,h5,h6,h7⟩⟩⟩:=h
 ·grind
 ·exact⟨hv,.inr ⟨hne,.inl ⟨h1,by grind⟩⟩⟩
 ·have hb:=hx.block (G.γ T) (zE4 h2) (fun o=>by grind);have hg:=hx.tag T (fun h=>hT (hx.sub _ h));refine⟨hv,.inr ⟨hne,.inr ⟨cap,cur,e,by grind,by grind,by grind,h4,h5,fun o=>by grind,fun k y hk=>?_⟩⟩⟩;rw[List.getElem?_set] at hk;by_cases e:j=k
  ·split at hk
   ·grind
   grind
  ·rw[if_neg e] at hk;obtain⟨u,hu,hr⟩:=h7 k y hk;have e':¬ k=j:=fun h=>e h.symm;rw[if_neg e'] at hr;exact⟨u,hu,by rw[if_neg e'];exact zA2 hx.prot hr⟩
theorem yP5 {α:Type}{R:α→List Value→Prop}(h1:∀ x vs,R x vs→vs.length=1):∀ {l:List α}{us:List Value},zL0 R l us→us.length=l.length∧∀ (j:Nat) (x:α),l[j]?=some x→∃ u,us[j]?=some u∧R x [u]:=by
 intro l
 induction l with
 |nil=>grind [zL0]
 |cons y l ih =>
  rintro us ⟨vs,ws,rfl,hy,hl⟩;have:=h1 _ _ hy
  match vs,this with
  |[v],_ =>
   grind
theorem xX8 {α:Type}{R:α→List Value→Prop}:∀ {l:List α}{us:List Value},us.length=l.length→(∀ (j:Nat) (x:α),l[j]?=some x→∃ u,us[j]?=some u∧R x [u])→zL0 R l us:=by
 intro l
 induction l with
 |nil=>intro us h _;simp at h;subst h;rfl
 |cons y l ih =>
  intro us h hg;cases us with
  |nil=>grind
  |cons v us =>
   obtain⟨u,hu,hr⟩:=hg 0 y rfl;simp at hu;subst hu;exact⟨[v],us,rfl,hr,ih (by grind) fun j x hj=>by obtain⟨u,hu,hr⟩:=hg (j+1) x (by grind);grind⟩
theorem yY7 (hfr:Frame0 χ0 w0 G.χ w){s:Ty}{T ty:TypeId}(hT:zC3 P (.sl (.sl s)) (.inl T)=true){l:List (List s.den)}{U d T' V:Nat}{m:Bool}{v bv:Value}(hA:zF7 G w (.sl s) l U true v)(hB:xL7 G w s [[]] T' 0 V m bv)
  (hVU:V≠U) (hTV:T'≠V) (hVd:V≠d) (hlen:List.length (α:=List s.den) l+1≤4294967296) :
  ∃ v' w' G',(Builtin.append_ #[T,T] ty #[v,bv]).run P w=.ok v' w'∧Ext (fun x=>x=zB U∨x=zB d) (fun x=>x=zB d) G w G' w'∧Frame0 χ0 w0 G'.χ w'∧xL7 G' w' s (List.append (α:=List s.den) l [[]]) d (List.length (α:=List s.den) l) V m v':=by
 obtain⟨hvt,⟨he,_⟩ | ⟨_,⟨_,h0⟩ | ⟨cap,cur,e,rfl,h2,h3,h4,h5,h6,h7⟩⟩⟩:=hB
 ·grind
 ·grind
 obtain⟨u,hu,hr⟩:=h7 0 [] rfl;have hc:zB4 G.χ w (.sl s) ([]:List s.den) [u]:=by
  simp only[zB4];rcases hr.2 with ⟨rfl,_⟩ | ⟨cap',_,_,_,rfl,_⟩
  all_goals grind
 obtain⟨v',w',G',q1,q2,q3,q4,q5⟩:=zS2 (P:=P) (t:=.sl s) (ty:=ty) (d:=d) (l2:=[[]]) (ns:=[u]) hfr hT (.inr hA) ⟨some ⟨G.γ T',0,none⟩,cap,rfl,.inr ⟨⟨G.γ T',0,none⟩,rfl,⟨[u],[],rfl,hc,rfl⟩,fun j u' hj=>by
  grind [Addr.add_mid,World.cell?]⟩⟩ hlen
 refine⟨v',w',G',q1,q2,q3,hvt,.inr ⟨fun e=>hVd e.symm,.inr ?_⟩⟩;have h0:¬ ((0:Nat)=zB U∨(0:Nat)=zB d):=by rintro (e|e);exact zA9 _ e;exact zA9 _ e
 have hr':=zY6 q2 h0 (by grind [zA4]) hr;rcases (zB0 q4 rfl).2 with ⟨_,h⟩ | ⟨cap',cur',e',us,rfl,g2,g3,g4,g5,g6,g7,g8⟩
 ·grind
 have hlast:=(q5.resolve_left (by simp)) _ _ _ rfl 0 u rfl;obtain⟨k1,k2⟩:=yP5 (fun y vs h=>by grind [zA1,Ty.size]) g6;refine⟨cap',cur',e',rfl,g2,g3,g4,by grind [Ty.size],fun o=>by grind,fun j x hj=>?_⟩;by_cases e:j=List.length (α:=List s.den) l
 ·simp_all [World.cell?,Ty.size]
 ·obtain⟨u',hu',hc'⟩:=k2 j x hj
  grind
theorem yM (hfr:Frame0 χ0 w0 G.χ w){s:Ty}{l:List (List s.den)}{U V i:Nat}{m:Bool}{v0 u:Value}{x:List s.den}(ho:xL7 G w s l U i U true v0)(hi:i<List.length (α:=List s.den) l)(hne:V≠U)(hu:yW7 G w s x V m u) :
  (∃ cur e,w.heap[G.γ U]?=some (.cells cur e (0,0))∧i+1≤cur.size) ∧
  Frame0 χ0 w0 G.χ (w.setCells (G.γ U) i [u]) ∧
  Ext (fun x=>x=zB U) (fun _=>False) G w G (w.setCells (G.γ U) i [u]) ∧
  xL7 G (w.setCells (G.γ U) i [u]) s (List.set (α:=List s.den) l i x) U i V m v0:=by
 obtain⟨hv,⟨_,⟨hm,_⟩ | ⟨_,hK⟩⟩ | ⟨he,_⟩⟩:=ho
 ·grind
 rotate_left
 ·grind
 rcases hK with ⟨_,h0⟩ | ⟨cap,cur,e,rfl,h2,h3,h4,h5,hcol,h7⟩
 ·grind
 have hfit:i+1≤cur.size:=by omega
 have hx:Ext (fun x=>x=zB U) (fun _=>False) G w G (w.setCells (G.γ U) i [u]):=zS (fun o=>hcol o) (zA9 U);obtain⟨cur',c1,c2⟩:=zI9 (G.γ U) e (0,0) [u] i w cur h2 (by grind);refine⟨⟨cur,e,h2,hfit⟩,zM1 hfr (fun o=>by grind [zM2]),hx,hv,.inr ⟨fun e=>hne e.symm,.inr ⟨cap,cur',e,by grind,c1,by grind,h4,?_,hcol,fun k y hk=>?_⟩⟩⟩
 ·grind [Array.length_toList,zO4]
 ·rw[c2];rw[List.getElem?_set] at hk;have hsp:∀ k,(spl cur.toList i [u])[k]?=if i≤k∧k<i+1 then [u][k-i]? else cur.toList[k]?:=fun k=>by
   rw[spl_getElem? _ _ _ _ (by exact hfit)];rfl
  by_cases e:i=k
  ·refine⟨u,by grind,?_⟩
   grind [zY6,zA9,zA4]
  ·rw[if_neg e] at hk;have e':¬ k=i:=fun h=>e h.symm;obtain⟨u',hu',hr⟩:=h7 k y hk e';refine⟨u',?_,by rw[if_neg e'];exact zA2 hx.prot hr⟩;rw[hsp,if_neg (by omega)]
   grind
theorem xH6 (hfr:Frame0 χ0 w0 G.χ w){s:Ty}(hs:s.isL=false){l:List (List s.den)}{U V i:Nat}{m:Bool}{v0 u:Value}{x:List s.den}(ho:zF7 G w (.sl s) l U true v0)(hi:i<List.length (α:=List s.den) l)(hne:V≠U)(hu:zF7 G w s x V m u) :
  (∃ cur e,w.heap[G.γ U]?=some (.cells cur e (0,0))∧i+1≤cur.size) ∧
  Frame0 χ0 w0 G.χ (w.setCells (G.γ U) i [u]) ∧
  Ext (fun x=>x=zB U) (fun _=>False) G w G (w.setCells (G.γ U) i [u]) ∧
  MapOk (fun _=>False) G w G (w.setCells (G.γ U) i [u])
   (fun t0 l0 T0 m0=>bif Nat.beq U T0 then (match Ty.cast (a:=.sl t0) (.sl (.sl s)) l0 with|some l1=>bif m0 then .ownh s (List.set (α:=List s.den) l1 i x) U i V m else .junk|none=>.junk) else .own t0 l0 T0 m0) (fun s T' t i p=>.eref s T' t i p):=by
 have hu:=zB0 hu hs;obtain⟨hvt,ho⟩:=zB0 ho rfl;rcases ho with ⟨_,h0⟩ | ⟨cap,cur,e,uz,rfl,h2,h3,h4,h5,h6,h7,h8⟩
 ·grind
 have hcol:∀ o,G.χ (G.γ U) o=zB U:=fun o=>by simp_all
 have h5':cur.size=cap:=by grind [Ty.size]
 have hfit:i+1≤cur.size:=by omega
 have hx:Ext (fun x=>x=zB U) (fun _=>False) G w G (w.setCells (G.γ U) i [u]):=zS (fun o=>hcol o) (zA9 U);obtain⟨cur',c1,c2⟩:=zI9 (G.γ U) e (0,0) [u] i w cur h2 (by grind);have hown:∀ {l2:List (List s.den)}{v2:Value},zF7 G w (.sl s) l2 U true v2→xL7 G (w.setCells (G.γ U) i [u]) s (List.set (α:=List s.den) l2 i x) U i V m v2:=by
  intro l2 v2 ho2;have ho2:=zB0 ho2 rfl;refine⟨hu.1,.inr ⟨fun e=>hne e.symm,?_⟩⟩;rcases ho2.2 with ⟨rfl,h0⟩ | ⟨cap2,cur2,e2,uz2,rfl,g2,g3,g4,g5,g6,g7,g8⟩
  ·exact .inl ⟨rfl,by grind⟩
  ·rw[h2] at g2;injection g2 with g2
   injection g2 with g2 g2e _
   subst g2;obtain⟨k1,k2⟩:=yP5 (fun y vs h=>by grind [zA1,Ty.size]) g6;refine .inr ⟨cap2,cur',e,by grind,c1,by grind,g4,?_,hcol,fun k y hk=>?_⟩
   ·grind [Array.length_toList,zO4,Ty.size]
   ·rw[c2];rw[List.getElem?_set] at hk;have hsp:∀ k,(spl cur.toList i [u])[k]?=if i≤k∧k<i+1 then [u][k-i]? else cur.toList[k]?:=fun k=>by
     grind [spl_getElem?,Array.length_toList]
    by_cases e:i=k
    ·subst e;split at hk
     ·refine⟨u,by rw[hsp,if_pos ⟨Nat.le_refl _,by omega⟩];simp,?_⟩
      grind [zY6,zA9,zA4]
     grind
    ·rw[if_neg e] at hk;obtain⟨u',hu',hr⟩:=k2 k y hk;have e':¬ k=i:=fun h=>e h.symm;refine⟨u',?_,by rw[if_neg e'];exact zA2 hx.prot hr⟩;rw[hsp,if_neg (by omega)];rw[← g7,List.getElem?_take] at hu';split at hu'
     ·exact hu'
     ·cases hu'
 refine⟨⟨cur,e,h2,hfit⟩,zM1 hfr (fun o=>by grind [zM2]),hx,hx.prot,fun s=>rfl,fun s hcs hlt=>?_,fun t2 l2 T m v2 _ ho2 hf=>?_,fun t2 l2 T m v2 _ ho2 tm=>?_,fun s T t i p v _ tm ha=>ha⟩
 ·have:=hx.block _ hlt (fun o=>by rw[hcs];exact zA7 _ _)
  grind
 ·cases hb:Nat.beq U T with
  |false =>
   simp only[cond_false,zA8];exact⟨trivial,v2,rfl,zF hx (zA9 U) (fun e=>by have:=zA4 e;subst this;simp at hb) ho2⟩
  |true =>
   simp[hb] at hf;split at hf
   ·cases m<;>simp[AVal.fitsT] at hf
   ·simp[AVal.fitsT] at hf
 ·cases hb:Nat.beq U T with
  |false =>
   exact zF hx (zA9 U) (fun e=>by have:=zA4 e;subst this;simp at hb) ho2
  |true =>
   have:=Nat.eq_of_beq_eq_true hb;subst this;simp;split
   ·rename_i l1 hl;obtain⟨e',hl⟩:=zC7 hl;injection e' with e'
    subst e';subst hl;cases m with
    |false=>simp[zA]
    |true=>exact hown ho2
   ·simp only[zA]
end Go.Am
namespace Go.Am
open Go Go.RowKit
variable {rd:Option Nat}{gtab:GlobTab}{P:Program}{c:Ctx}{G:Gh}{w:World}{tm:Array Value}{n:Nat}{χ0:Nat→Nat→Nat}{w0:World}{S:St}{a:Act}
def fz (r:Option Nat):Fence:={ Fence.wide with round:=r }
theorem xP4 {o:Oper}{x:Next}{w':World}(hr:(execOp a.eval o).run P w=.ok x w')(hx:∀ d,x≠.defer d):(o.semAt rd a.eval).run P w=.ok x w':=by
 by_cases h:∃ c,o.op=.defer c
 ·obtain⟨c,hc⟩:=h;have he:execOp a.eval o=(resolve a.eval c o.type >>= fun d=>pure (.defer d)):=by grind [execOp]
  cases hq:(resolve a.eval c o.type).run P w with
  |ok d w1 =>
   have:Next.defer d=x:=by simp_all
   grind
  |halt y w1=>simp_all
 grind [Oper.semAt_eq]
theorem zL4 {o:Oper}{next:Act→World→Prop}{Q:Exit→Act→World→Prop}{v:Value}{w':World}(hr:(execOp a.eval o).run P w=.ok (.value v) w')(h:next (a.put o.dst v) w'):o.wpIn (fz rd) 0 P a w next Q:=by
 refine⟨fun _ _=>trivial,?_⟩;rw[show (fz rd).round=rd from rfl,xP4 hr (by simp)];exact h
theorem zU0 {o:Oper}{next:Act→World→Prop}{Q:Exit→Act→World→Prop}{w':World}(hr:(execOp a.eval o).run P w=.ok .skip w')(h:next (a.put o.dst undef) w'):o.wpIn (fz rd) 0 P a w next Q:=by
 refine⟨fun _ _=>trivial,?_⟩;rw[show (fz rd).round=rd from rfl,xP4 hr (by simp)];exact h
theorem zU1 {o:Oper}{next:Act→World→Prop}{Q:Exit→Act→World→Prop}{f:Nat}{args:Array Value}{w':World}(hr:(execOp a.eval o).run P w=.ok (.enter f args) w')
  (h:Calls P f args w' fun e w''=>∃ v,e=.returned v∧next (a.put o.dst v) w''):o.wpIn (fz rd) 0 P a w next Q:=by
 refine⟨fun _ _=>trivial,?_⟩;rw[show (fz rd).round=rd from rfl,xP4 hr (by simp),Oper.uponIn_enter];refine⟨fun e=>(by cases e),?_⟩;have h1:CallsIn Fence.wide (0-1) P f args w' fun e w''=>∃ v,e=.returned v∧next (a.put o.dst v) w'':=callsIn_wide.2 h
 refine CallsIn.mono (F:=fz rd) h1 ?_;simp_all
theorem xH7 (hR:Rel n χ0 w0 S a w G)(hn:n≤vNo){gd:Gd}(hi:xE1 a.tmps gd)(hon:yP1 a.tmps gd){o:Oper}{x y z:Operand}{p:List Prop}{u:St}{hv:Bool}(ho:o.op=.pick x y z)
  (h:yE8 gd o.dst x [arg S x,arg S y,arg S z]=some (p,u,hv)) (hlt:∀ e∈u,e.1<zA6) (hdo:∀ d,o.dst=some d→d<n) (hh:∀ s,∀ e∈u,(S.get s).hung e.1=false) (huu:∀ e∈u,∀ e'∈u,e.2.hung e'.1=false)
  {next:Act→World→Prop}{Q:Exit→Act→World→Prop}(hnext:∀ v w' G',Rel n χ0 w0 (u++S) (a.put o.dst v) w' G'→next (a.put o.dst v) w'):o.wpIn (fz rd) 0 P a w next Q:=by
 unfold yE8 at h;split at h
 ·rename_i d C A B hd hl;obtain⟨rfl,rfl,rfl⟩:=hl;split at h
  ·rename_i b τ av τ' yv e1 e2 e3;split at h
   ·rename_i zv hz;obtain⟨rfl,rfl,rfl⟩:=h;obtain⟨e',rfl⟩:=zC7 hz;have hC:=zO7 hon (zJ7 hR x);rw[e1] at hC;have hcv:=VRep_bool.1 hC;have hA:=fun hb=>yI7 (x:=x) (want:=true) hon (ac:=a) rfl hb (zJ7 hR y);have hB:=fun hb=>yI7 (x:=x) (want:=false) hon (ac:=a) rfl hb (zJ7 hR z);have hrun:(execOp a.eval o).run P w=.ok (.value (if b then a.eval y else a.eval z)) w:=by
     unfold execOp;simp_all [asBool]
    refine zL4 hrun (hnext _ w G ?_);rw[hd];refine zZ5 hR hn (hdo d hd) (fun s=>hh s _ (List.mem_singleton.2 rfl)) (huu _ (List.mem_singleton.2 rfl) _ (List.mem_singleton.2 rfl)) (zS4 hi hon ?_)
    grind
   grind
  grind
 grind
theorem yU1 {gd:Gd}{xs:List AVal}:∀ (i:Nat) X k,xs[i]?=some X→((xs.map (zA3 S)).map (zF3 gd))[i]?=some k→k=zF3 gd (zA3 S X):=by
 grind
def Gh.still (G:Gh)(b k:Nat):Gh:={ G with χ:=fun b' o=>if b'=b∧o<k then 0 else G.χ b' o }
theorem yB5 {b k:Nat}:∀ b' o,b'<w.heap.size→G.χ b' o=0→(G.still b k).χ b' o=0∧w.cell? ⟨b',o,none⟩=w.cell? ⟨b',o,none⟩:=by
 grind [Gh.still]
theorem yU2 {X:Nat→Prop}{b k:Nat}(hb:∀ o,o<k→G.χ b o=0∨X (G.χ b o)):Ext X (fun _=>False) G w (G.still b k) w:=by
 refine⟨yB5,fun b' _ h=>⟨rfl,fun o=>?_⟩,Nat.le_refl _,fun _ _=>rfl,fun _ _=>rfl,fun _ h=>h.elim⟩
 grind [Gh.still]
theorem yJ {b k:Nat}(hf:Frame0 χ0 w0 G.χ w)(hb:∀ o,o<k→G.χ b o=0∨1<G.χ b o):Frame0 χ0 w0 (G.still b k).χ w:=by
 refine⟨hf.os,hf.tape,hf.output,hf.size,hf.block,fun b' o hb' hc=>?_⟩;have:=hf.cell b' o hb' hc;simp only[Gh.still];split
 ·grind
 grind
theorem yY8 {T:Nat}{X:Nat→Prop}(hX:∀ x,X x→x=zB T):∀ {A:AVal}{s:Option Nat},A.hasTag T=false→¬ A.names X (fun _=>False) s:=by
 intro A
 induction A with
 |own t l T' m=>intro s h1;exact fun e=>by have:=zA4 (hX _ e);simp_all [AVal.hasTag]
 |ownh t l T' i V m=>intro s h1;simp[AVal.names];exact⟨fun e=>by have:=zA4 (hX _ e);simp_all [AVal.hasTag],fun e=>by have:=zA4 (hX _ e);simp_all [AVal.hasTag]⟩
 |opt _ _ _ A ih=>intro s h1;exact ih h1
 |box τ b ih =>
  intro s h1;cases s with
  |none=>exact ih h1
  |some s=>simp[AVal.names];exact⟨fun e=>zA7 _ _ (hX _ e),ih h1⟩
 |may m τ b ih =>
  intro s h1;cases s with
  |none=>exact ih h1
  |some s=>simp[AVal.names];exact⟨fun e=>zA7 _ _ (hX _ e),ih h1⟩
 |cons x y ihx ihy=>grind [AVal.hasTag,AVal.names]
 |agg f b ih=>intro s h1;exact ih h1
 |tup b ih=>intro s h1;exact ih h1
 |fn f b ih=>intro s h1;exact ih h1
 |raw =>
  intro s _;cases s<;>grind [AVal.names,zA7]
 |_=>grind [AVal.names]
theorem zZ7 {t:Ty}(htl:t.isL=false){l:List t.den}{T:Nat}{m:Bool}{v:Value}(hf:Frame0 χ0 w0 G.χ w)(h:zF7 G w t l T m v) :
  ∃ G',Ext (fun x=>x=zB T) (fun _=>False) G w G' w∧Frame0 χ0 w0 G'.χ w∧G'.β=G.β∧∀ v',zF7 G w t l T m v'→zF7 G' w t l T false v':=by
 have hcol:∀ o,o<l.length*t.size→G.χ (G.γ T) o=0∨G.χ (G.γ T) o=zB T:=by
  rcases (zB0 h htl).2 with h' | ⟨cap,cur,e,us,h1,h2,h3,h4,h5,h6,h7,h8⟩
  all_goals grind
 refine⟨G.still (G.γ T) (l.length*t.size),yU2 hcol,yJ hf fun o ho=>(hcol o ho).imp id fun e=>by grind [zM2],rfl,fun v' h=>.inl ⟨(zB0 h htl).1,?_⟩⟩;rcases (zB0 h htl).2 with h' | ⟨cap,cur,e,us,h1,h2,h3,h4,h5,h6,h7,h8⟩
 all_goals grind [zB5,zA2,yB5,Gh.still]
theorem xP5 {d:Nat}{t:Ty}{l:List t.den}{T:Nat}{m:Bool}{u:St}(hR:Rel n χ0 w0 ((d,.own t l T m)::u++S) a w G)(_:n≤vNo)(hd:d<zA6)(ht:zC0 T (u++S)=true)(htl:t.isL=false) :
  ∃ G',Rel n χ0 w0 ((d,.own t l T false)::u++S) a w G':=by
 have hvc:vNo<zA6:=by decide
 have hg:∀ B:AVal,St.get ((d,B)::u++S) d=B:=fun B=>by simp[St.get]
 have hs:=hR.reps d;rw[hg] at hs;obtain⟨G',hx,hfr,_,hst⟩:=zZ7 htl hR.frame hs;refine⟨G',hR.len,hR.defers,fun s=>?_,hfr,zH4 hx.prot hR.glob⟩;by_cases e:d=s
 ·grind [zA]
 ·have h1:Nat.beq d s=false:=by grind [Nat.beq,absurd,Nat.eq_of_beq_eq_true]
  have h2:Nat.beq d zA6=false:=by grind [Nat.beq,Nat.eq_of_beq_eq_true]
  have hgs:∀ B:AVal,St.get ((d,B)::u++S) s=St.get (u++S) s:=fun B=>by grind [St.get]
  have:=hR.reps s;rw[hgs] at this ⊢;exact zT2 hx (fun e=>zA9 _ e) _ (yY8 (fun x h=>h) (zF5 ht s)) this
theorem xX9 {d:Nat}{B B':AVal}(hR:Rel n χ0 w0 ([(d,B)]++S) a w G)(_:n≤vNo)(_:d<n)(h:zA G w a.tmps (some d) B' (a.tmps.getD d undef)):Rel n χ0 w0 ([(d,B')]++S) a w G:=by
 refine⟨hR.len,hR.defers,fun s=>?_,hR.frame,hR.glob⟩;have hvc:vNo<zA6:=by decide
 have:=hR.reps s;simp only[List.cons_append,St.get] at this ⊢
 grind [Nat.beq,Nat.eq_of_beq_eq_true]
theorem xH8 {d:Nat}{o:Oper}{q:Nat×Bool×Bool}{t:Ty}{l:List t.den}{m:Bool}{v:Value}{G':Gh}{w':World}(hn:n≤vNo)(hR:Rel n χ0 w0 S a w G)(hi:xE1 a.tmps (some q))(hon:yP1 a.tmps (some q))(hd:o.dst=some d)
  (hr:zV0 d S=true) (ht:zC0 d S=true) (htl:t.isL=false) (hlt:∀ e∈[(d,zG0 (some q) (.val (.sl t) l))],e.1<n) (hh:∀ s,∀ e∈[(d,zG0 (some q) (.val (.sl t) l))],(S.get s).hung e.1=false)
  (huu:(zG0 (some q) (.val (.sl t) l)).hung d=false) (hx':Ext (·=zE d) (·=zE d) G w G' w'∨Ext (·=zB d) (·=zB d) G w G' w') (hfr:Frame0 χ0 w0 G'.χ w') (hA:∀ tm,zA G' w' tm (some d) (.own t l d m) v)
  {K:Act→World→Prop}(hK:∀ G'',Rel n χ0 w0 ([(d,zG0 (some q) (.val (.sl t) l))]++S) (a.put o.dst v) w' G''→K (a.put o.dst v) w'):K (a.put o.dst v) w':=by
 have hdn:d<n:=hlt _ (List.mem_singleton.2 rfl);have hda:d<a.tmps.size:=by rw[hR.len];exact hdn
 rw[hd] at hK ⊢;have hone:∀ s,St.has s [(d,AVal.own t l d m)]=true→s=d:=by intro s hs;simp[St.has] at hs;exact hs.symm
 have hnone:∀ s,St.has s [(d,AVal.own t l d m)]=false→s≠d:=by intro s hs e;subst e;simp[St.has] at hs
 have hnew:∀ s,St.has s [(d,AVal.own t l d m)]=true→zA G' w' (a.put (some d) v).tmps (some s) (St.get [(d,AVal.own t l d m)] s) ((a.put (some d) v).tmps.getD s undef):=by
  intro s hs;have:=hone s hs;subst this;have hg:∀ B:AVal,St.get [(s,B)] s=B:=fun B=>by simp[St.get]
  rw[hg,zD5 hda,if_pos rfl];exact hA _
 have hvc:vNo<zA6:=by decide
 have hlt':∀ e∈[(d,AVal.own t l d m)],e.1<zA6:=fun e he=>by simp at he;subst he;exact Nat.lt_trans (Nat.lt_of_lt_of_le hdn hn) hvc
 have hdd:∀ d',some d=some d'→d'<n:=fun d' e=>by injection e with e;subst e;exact hdn
 have hhs:∀ s,(S.get s).hung d=false:=fun s=>hh s _ (List.mem_singleton.2 rfl);have hR1:Rel n χ0 w0 ([(d,AVal.own t l d m)]++S) (a.put (some d) v) w' G':=by
  rcases hx' with hx' | hx'
  ·exact zD6 hR hn hlt' hdd (fun d' e=>by injection e with e;subst e;simp[St.has]) hx' (zD4 d) hfr (fun s hs=>yT1 (yU hr s) (fun e=>hnone s hs (by injection e))) (fun s d' e _=>by injection e with e;subst e;exact hhs s) hnew
  ·exact zD6 hR hn hlt' hdd (fun d' e=>by injection e with e;subst e;simp[St.has]) hx' (zA9 d) hfr (fun s hs=>yT2 (zF5 ht s)) (fun s d' e _=>by injection e with e;subst e;exact hhs s) hnew
 obtain⟨G'',hR2⟩:=xP5 (u:=[]) (S:=S) hR1 hn (Nat.lt_trans (Nat.lt_of_lt_of_le hdn hn) hvc) (by simpa using ht) htl;refine hK G'' (xX9 (B:=.own t l d false) hR2 hn hdn ?_);have h2:=hR2.reps d;have hg:St.get ([(d,AVal.own t l d false)]++S) d=.own t l d false:=by simp[St.get]
 simp only[List.nil_append,List.cons_append] at hg h2;rw[hg] at h2;simp only[zA] at h2;have h3:zA G'' w' (a.put (some d) v).tmps none (.val (.sl t) l) ((a.put (some d) v).tmps.getD d undef):=by
  simp only[zA];rw[zC rfl];exact zD2 h2
 obtain⟨s,want,g⟩:=q;have hsd:s≠d:=by
  intro e;subst e;simp[zG0,AVal.hung] at huu
 have htm:(a.put (some d) v).tmps.getD s undef=a.tmps.getD s undef:=by rw[zD5 hda,if_neg hsd]
 have:=zS4 (gd:=some (s,want,g)) (tm:=(a.put (some d) v).tmps) (fun s' want' g' e=>by
  simp only[Option.some.injEq,Prod.mk.injEq] at e;obtain⟨rfl,rfl,rfl⟩:=e;rw[htm];exact hi _ _ _ rfl) (fun s' want' g' e=>by
  simp only[Option.some.injEq,Prod.mk.injEq] at e;obtain⟨rfl,rfl,rfl⟩:=e;rw[htm];exact hon _ _ _ rfl) h3
 simp only[zG0,zA] at this ⊢;exact this
theorem xH9 (hc:CtxOk P c)(hR:Rel c.n χ0 w0 S a w G){gd:Gd}(hi:xE1 a.tmps gd)(hon:yP1 a.tmps gd){o:Oper}{p:List Prop}{u:St}{hv:Bool}
  (h:zL c gd o.dst o.op (((zD9 o.op).map (arg S)).map (zF3 gd)) (((((zD9 o.op).map (arg S)).map (zF3 gd)).map (zA3 S)).map (zF3 gd)) S=some (p,u,hv))
  (hlt:∀ e∈u,e.1<zA6) (hdo:∀ d,o.dst=some d→d<c.n) (hh:∀ s,∀ e∈u,(S.get s).hung e.1=false) (huu:∀ e∈u,∀ e'∈u,e.2.hung e'.1=false) (hp:∀ q∈p,q)
  {next:Act→World→Prop}{Q:Exit→Act→World→Prop}(hnext:∀ v w' G',Rel c.n χ0 w0 (u++S) (a.put o.dst v) w' G'→next (a.put o.dst v) w'):o.wpIn (fz rd) 0 P a w next Q:=by
 unfold zL at h;split at h
 ·cases h
 ·rename_i d hd;split at h
  ·cases h
  ·rename_i p0 A hcore;have hx:=xE hR hon (zD9 o.op);have hk:∀ (i:Nat) X k,(((zD9 o.op).map (arg S)).map (zF3 gd))[i]?=some X→(((((zD9 o.op).map (arg S)).map (zF3 gd)).map (zA3 S)).map (zF3 gd))[i]?=some k→∀ s,zD0 X=some s→∃ v,zA G w a.tmps (some s) k v:=by
    intro i X k h1 h2 s hs;rw[yU1 i X k h1 h2];exact yY2 hon (zG3 hR hs)
   cases hm:zY5 o.op with
   |false =>
    simp only[hm,cond_false,Option.some.injEq,Prod.mk.injEq] at h;obtain⟨rfl,rfl,rfl⟩:=h;have hp0:=zM3 hi hon hp;obtain⟨v,hrun,hA⟩:=xO7 hc.tys hc.maps hc.fts o hm hx hk hcore hp0;refine zL4 hrun (hnext v w G ?_);rw[hd];exact zZ5 hR hc.n (hdo d hd) (fun s=>hh s (d,zG0 gd A) (by simp)) (huu (d,zG0 gd A) (by simp) (d,zG0 gd A) (by simp)) (zS4 hi hon hA)
   |true =>
    simp only[hm,cond_true] at h;have hp0:∀ q∈p0,q:=by
     cases hb:(Option.isNone gd&&zV0 d S&&zC0 d S) with
     |false =>
      simp only[hb,cond_false] at h;unfold gMk at h;split at h
      ·rename_i q' t l T m;cases hb':(zV0 d S&&zC0 d S&&Nat.beq T d&&!t.isL) with
       |false=>simp only[hb',cond_false] at h;cases h
       |true =>
        simp only[hb',cond_true,Option.some.injEq,Prod.mk.injEq] at h;rw[← h.1] at hp;exact zM3 hi hon hp
      ·cases h
     |true=>simp only[hb,cond_true,Option.some.injEq,Prod.mk.injEq] at h;rw[h.1];exact hp
    obtain⟨hf,v,w',G',hrun,hx',hfr,hA⟩:=xG9 hc.tys hc.maps hc.fts o hm hR.frame hx hcore hp0;cases hb:(Option.isNone gd&&zV0 d S&&zC0 d S) with
    |false =>
     simp only[hb,cond_false] at h;unfold gMk at h;split at h
     ·rename_i q' t l T m;cases hb':(zV0 d S&&zC0 d S&&Nat.beq T d&&!t.isL) with
      |false=>simp only[hb',cond_false] at h;cases h
      |true =>
       simp only[hb',cond_true,Option.some.injEq,Prod.mk.injEq] at h;obtain⟨rfl,rfl,rfl⟩:=h;simp only[Bool.and_eq_true] at hb';have hTd:=Nat.eq_of_beq_eq_true hb'.1.2;subst hTd;refine zL4 hrun (xH8 hc.n hR hi hon hd hb'.1.1.1 hb'.1.1.2 (by simpa using hb'.2) (fun e he=>by simp at he;subst he;exact hdo _ hd) hh (huu _ (List.mem_singleton.2 rfl) _ (List.mem_singleton.2 rfl)) hx' hfr hA fun G'' hR''=>hnext v w' G'' hR'')
     ·cases h
    |true =>
     simp only[hb,cond_true,Option.some.injEq,Prod.mk.injEq] at h;obtain⟨rfl,rfl,rfl⟩:=h;simp only[Bool.and_eq_true] at hb;refine zL4 hrun (hnext v w' G' ?_);rw[hd];have hdd:∀ d',some d=some d'→d'<c.n:=fun d' e=>by injection e with e;subst e;exact hdo _ hd
     have hdn:d<a.tmps.size:=by rw[hR.len];exact hdo d hd
     have hone:∀ s,St.has s [(d,A)]=true→s=d:=by intro s hs;simp[St.has] at hs;exact hs.symm
     have hnone:∀ s,St.has s [(d,A)]=false→s≠d:=by intro s hs e;subst e;simp[St.has] at hs
     have hnew:∀ s,St.has s [(d,A)]=true→zA G' w' (a.put (some d) v).tmps (some s) (St.get [(d,A)] s) ((a.put (some d) v).tmps.getD s undef):=by
      intro s hs;have:=hone s hs;subst this;have hg:St.get [(s,A)] s=A:=by simp[St.get]
      rw[hg,zD5 hdn,if_pos rfl];exact hA _
     rcases hx' with hx' | hx'
     ·exact zD6 hR hc.n hlt hdd (fun d' e=>by injection e with e;subst e;simp[St.has]) hx' (zD4 d) hfr (fun s hs=>yT1 (yU hb.1.2 s) (fun e=>hnone s hs (by injection e))) (fun s d' e _=>by injection e with e;subst e;exact hh s (d,A) (by simp)) hnew
     ·exact zD6 hR hc.n hlt hdd (fun d' e=>by injection e with e;subst e;simp[St.has]) hx' (zA9 d) hfr (fun s hs=>yT2 (zF5 hb.2 s)) (fun s d' e _=>by injection e with e;subst e;exact hh s (d,A) (by simp)) hnew
end Go.Am
namespace Go.Am
open Go Go.RowKit
variable {gtab:GlobTab}{P:Program}{c:Ctx}{G:Gh}{w:World}{tm:Array Value}{n:Nat}{χ0:Nat→Nat→Nat}{w0:World}{S:St}{a:Act}
def lk (l:List (Nat×Nat))(x:Nat):Option Nat:=(l.find? fun p=>p.1==x).map (·.2)
def yD1 (l:List (Nat×Nat)):Prop:=∀ a b b',(a,b)∈l→(a,b')∈l→b=b'
def zG5 (l:List (Nat×Nat)):List (Nat×Nat):=l.map fun p=>(p.2,p.1)
theorem zK5 {x y:Nat}:∀ {l:List (Nat×Nat)},lk l x=some y→(x,y)∈l:=by
 grind [lk,Option.map_eq_some_iff]
theorem zN0 {x y:Nat}{l:List (Nat×Nat)}(hf:yD1 l)(h:(x,y)∈l):lk l x=some y:=by
 cases hl:lk l x with
 |some z=>rw[hf x z y (zK5 hl) h]
 |none =>
  grind [lk,Option.map_eq_none_iff]
theorem mem_swap {x y:Nat}{l:List (Nat×Nat)}:(x,y)∈zG5 l↔(y,x)∈l:=by
 simp[zG5];constructor
 ·grind
 ·intro h;exact⟨y,x,h,rfl,rfl⟩
theorem any_beq {l:List Nat}{x:Nat}:l.any (Nat.beq x)=true↔x∈l:=by
 simp_all
theorem zS6:∀ {l:List (Nat×Nat)},zR (l.map (·.1))=true→yD1 l:=by
 intro l
 induction l with
 |nil=>intro _ a b b' h;grind
 |cons p r ih =>
  intro h a b b' h1 h2;simp[zR] at h;rcases List.mem_cons.1 h1 with e1|e1
  ·grind
  ·rcases List.mem_cons.1 h2 with e2|e2
   ·grind
   ·exact ih h.2 a b b' e1 e2
theorem yM0:∀ {l:List (Nat×Nat)},zR (l.map (·.2))=true→yD1 (zG5 l):=by
 intro l h;refine zS6 ?_;rw[zG5,List.map_map];exact h
def zR3 (HB HT:List (Nat×Nat)):List (Nat×Nat):=HB.map (fun p=>(zE p.1,zE p.2))++HT.map (fun p=>(zB p.1,zB p.2))
theorem cols_box {HB HT:List (Nat×Nat)}{s x:Nat}:(zE s,x)∈zR3 HB HT↔∃ i,x=zE i∧(s,i)∈HB:=by
 simp[zR3];constructor
 ·grind [zD8,absurd,zA7]
 ·rintro⟨i,rfl,h⟩;exact .inl ⟨s,i,h,rfl,rfl⟩
theorem cols_arr {HB HT:List (Nat×Nat)}{T x:Nat}:(zB T,x)∈zR3 HB HT↔∃ U,x=zB U∧(T,U)∈HT:=by
 simp[zR3];constructor
 ·grind [absurd,zA7,zA4]
 ·rintro⟨i,rfl,h⟩;exact .inr ⟨T,i,h,rfl,rfl⟩
theorem yB6 {HB HT:List (Nat×Nat)}{x y:Nat}(h:(x,y)∈zR3 HB HT):4≤x∧4≤y:=by
 grind [zR3,zN7,zM2]
theorem zU2 {HB HT:List (Nat×Nat)}(h1:yD1 HB)(h2:yD1 HT):yD1 (zR3 HB HT):=by
 intro x y y' hx hy;have hx':=hx;simp[zR3] at hx';rcases hx' with ⟨p,q,h,rfl,rfl⟩ | ⟨p,q,h,rfl,rfl⟩
 ·obtain⟨i,rfl,hi⟩:=cols_box.1 hy;rw[h1 p q i h hi]
 ·obtain⟨i,rfl,hi⟩:=cols_arr.1 hy;rw[h2 p q i h hi]
def ren (HC:List (Nat×Nat))(x:Nat):Nat:=if x=0 then 0 else (lk HC x).getD 1
def Gh.calleeH (G:Gh)(HB HT:List (Nat×Nat)):Gh:=
 {χ:=fun b o=>ren (zR3 HB HT) (G.χ b o),
  β:=fun i=>match lk (zG5 HB) i with|some s=>G.β s|none=>0,
  γ:=fun T=>match lk (zG5 HT) T with|some U=>G.γ U | none=>0 }
def Gh.backH (G G':Gh)(b0:Nat)(HB HT KT KB:List (Nat×Nat)):Gh:=
 {χ:=fun b o=>if b<b0∧lk (zR3 HB HT) (G.χ b o)=none then G.χ b o else if G'.χ b o=0 then 0 else (lk (zR3 (zG5 HB++KB) KT) (G'.χ b o)).getD 2,
  β:=fun s=>match lk (zG5 KB) s with|some k=>G'.β k|none=>G.β s,
  γ:=fun U=>match lk (zG5 KT) U with|some T=>G'.γ T | none=>G.γ U }
theorem ren_zero {HB HT:List (Nat×Nat)}{x:Nat}:ren (zR3 HB HT) x=0↔x=0:=by
 unfold ren;constructor
 ·intro h;split at h
  ·grind
  ·cases hl:lk (zR3 HB HT) x with
   |none=>grind
   |some y=>have:=yB6 (zK5 hl);grind
 grind
theorem zG7 {HB HT:List (Nat×Nat)}{x:Nat}(h:lk (zR3 HB HT) x=none):ren (zR3 HB HT) x≤1:=by
 grind [ren]
theorem zQ4 {HB HT:List (Nat×Nat)}:∀ b o,b<w.heap.size→G.χ b o=0→(G.calleeH HB HT).χ b o=0∧w.cell? ⟨b,o,none⟩=w.cell? ⟨b,o,none⟩:=
 fun b o _ h=>⟨by grind [Gh.calleeH,ren_zero],rfl⟩
theorem xI {HB HT:List (Nat×Nat)}(h1:yD1 HB)(h2:yD1 HT)(h3:yD1 (zG5 HT)){U T:Nat}(hm:(U,T)∈HT){t:Ty}{l:List t.den}{m:Bool}{v:Value}(h:zF7 G w t l U m v) :
  zF7 (G.calleeH HB HT) w t l T m v:=by
 refine zY7 (fun h=>⟨h.1,?_⟩) (by simp only[Gh.calleeH];rw[zN0 h3 (mem_swap.2 hm)]) rfl zQ4 (fun _ hc o=>?_) h
 rotate_left
 ·simp only[Gh.calleeH];rw[hc];unfold ren;rw[if_neg (fun e=>zA9 U e.symm),zN0 (zU2 h1 h2) (cols_arr.2 ⟨T,rfl,hm⟩)];rfl
 rcases h.2 with h|⟨cap,cur,e,us,q1,q2,q3,q4,q5,q6,q7,q8⟩
 ·grind
 ·have hγ:(G.calleeH HB HT).γ T=G.γ U:=by simp only[Gh.calleeH];rw[zN0 h3 (mem_swap.2 hm)]
  refine .inr ⟨cap,cur,e,us,by grind,by grind,q3,q4,q5,zB5 (fun _ _ hc=>zA2 zQ4 hc) q6,q7,fun o=>?_⟩;rw[hγ];simp only[Gh.calleeH];rw[q8 o];split
  ·exact ren_zero.2 rfl
  ·unfold ren;rw[if_neg (fun e=>zA9 U e.symm),zN0 (zU2 h1 h2) (cols_arr.2 ⟨T,rfl,hm⟩)];rfl
theorem yP6 {G':Gh}{w':World}{R:List (Nat×Nat)}(hprot:∀ b o,b<w.heap.size→G.χ b o=0→G'.χ b o=0∧w'.cell? ⟨b,o,none⟩=w.cell? ⟨b,o,none⟩)
  (hown:∀ U T,(U,T)∈R→∀ (t:Ty) (l:List t.den) m v,zF7 G w t l U m v→zF7 G' w' t l T m v) :
  ∀ {A:AVal}{τ:Ty}{vs:List Value}{b:Nat},(∀ p∈A.tags τ b,p∈R)→zA8 G w τ A vs→zA8 G' w' τ (A.pos τ b) vs:=by
 intro A
 induction A with
 |val τ' x=>grind [AVal.pos,zA8,zA2]
 |nil=>grind [AVal.pos,zA8]
 |own t l T m =>
  grind [AVal.pos,zA8,AVal.tags]
 |agg f d ih=>grind [AVal.pos,zA8,AVal.tags]
 |nl=>grind [AVal.pos,zA8]
 |cons x y ihx ihy =>
  intro τ vs b hR h;obtain⟨h1,t1,us,ws,rfl,rfl,h2,h3⟩:=h;simp only[AVal.tags,List.mem_append] at hR;exact⟨_,_,us,ws,rfl,rfl,ihx (fun p hp=>hR p (.inl hp)) h2,ihy (fun p hp=>hR p (.inr hp)) h3⟩
 |junk=>grind [AVal.pos,zA8]
 |_=>grind [zA8]
theorem wD4 {k i:Nat}:∀ {HB:List (Nat×Nat)},lkB HB k=some i→(k,i)∈HB:=by
 intro HB
 induction HB with
 |nil=>intro h;cases h
 |cons q r ih =>
  obtain⟨s,j⟩:=q;intro h;simp only[lkB] at h;cases hb:Nat.beq s k<;>simp_all
theorem xI0 {G G':Gh}{HB:List (Nat×Nat)}{v:Value}(h:∀ k i,(k,i)∈HB→G'.β i=G.β k):∀ {caps l:List (Option (Nat×Ty))},yG5 HB caps=some l→caps.map (xD2 G v)=l.map (xD2 G' v):=by
 intro caps
 induction caps with
 |nil=>grind [yG5,Option.some.injEq]
 |cons q r ih =>
  cases q<;>grind [yG5,xD2,wD4]
theorem xP6 {HB HT:List (Nat×Nat)}(h1:yD1 HB)(h1':yD1 (zG5 HB))(h2:yD1 HT)(h3:yD1 (zG5 HT)){wants:List Nat}{Y k:AVal}{i:Nat}{v kv:Value}(hY:zA G w tm none Y v)
  (hk:∀ s,zD0 Y=some s→zA G w tm (some s) k kv) (hT:∀ p∈yR0 wants i Y k,p∈HT) (hB:∀ p∈yQ7 i Y,p∈HB):zA (G.calleeH HB HT) w #[] (some i) (zK4 HB wants i Y k) v:=by
 have hp:∀ b o,b<w.heap.size→G.χ b o=0→(G.calleeH HB HT).χ b o=0∧w.cell? ⟨b,o,none⟩=w.cell? ⟨b,o,none⟩:=zQ4;have ho:∀ U T,(U,T)∈HT→∀ (t:Ty) (l:List t.den) m v,zF7 G w t l U m v→zF7 (G.calleeH HB HT) w t l T m v:=fun U T hm t l m v h=>xI h1 h2 h3 hm h;cases Y with
 |val τ x=>simp only[zK4,zA] at hY ⊢;exact zC4 hp hY
 |nil=>simp only[zK4,zA] at hY ⊢;exact hY
 |own t l T m =>
  simp only[zK4];cases hw:wants.any (Nat.beq i) with
  |true =>
   simp only[cond_true,zA] at hY ⊢;exact ho T (zV1 i) (hT _ (by simp[yR0,hw])) t l m v hY
  |false =>
   simp only[cond_false];cases m with
   |true=>simp only[cond_true,zA]
   |false=>simp only[cond_false];simp only[zA] at hY ⊢;exact zC4 hp ((zC rfl).2 (zD2 hY))
 |agg f d =>
  simp only[zK4];cases hw:wants.any (Nat.beq i) with
  |true =>
   simp only[cond_true];simp only[zA] at hY ⊢;obtain⟨vs,e,ht⟩:=hY;exact⟨vs,e,yP6 hp ho (fun p hp=>hT p (by simpa[yR0,hw] using hp)) ht⟩
  |false =>
   simp only[cond_false];split
   ·rename_i x hx;simp only[zA];exact zC4 hp (zJ4 hx rfl hY)
   ·simp only[zA]
 |fn f cs =>
  simp only[zK4];cases hq:cs.pureL with
  |false=>simp only[cond_false,zA]
  |true=>simp only[cond_true];simp only[zA] at hY ⊢;obtain⟨vs,e1,e2⟩:=hY;exact⟨vs,e1,yI4 hp hq e2⟩
 |fptr f caps =>
  simp only[zK4];cases hc:yG5 HB caps with
  |none=>simp only[zA]
  |some l =>
   simp only[zA] at hY ⊢;obtain⟨b,rfl,h0,hcell⟩:=hY;have hb:b<w.heap.size:=by
    by_cases hb:b<w.heap.size
    ·exact hb
    ·have:w.heap[b]?=none:=Array.getElem?_eq_none (by omega);simp[World.cell?,this] at hcell
   refine⟨b,rfl,(hp b 0 hb h0).1,?_⟩;rw[hcell,xI0 (G:=G) (G':=G.calleeH HB HT) (fun k i hm=>by simp only[Gh.calleeH];rw[zN0 h1' (mem_swap.2 hm)]) hc]
 |ref s τ p =>
  cases p with
  |nil =>
   cases k with
   |box τ' k =>
    simp only[zK4];cases hb:Ty.beq τ' τ with
    |false=>simp only[cond_false,zA]
    |true =>
     simp only[cond_true];have e:=Ty.eq_of_beq hb;subst e;obtain⟨hvt,cur,e,g1,g2,g3⟩:=zH5 (hk s rfl);have hm:(s,i)∈HB:=hB _ (by simp[yQ7]);simp only[zA] at hY ⊢;have hβ:(G.calleeH HB HT).β i=G.β s:=by simp only[Gh.calleeH];rw[zN0 h1' (mem_swap.2 hm)]
     refine⟨fun _=>by rw[hβ];simpa[Ty.poff] using hY.2,hvt,cur,e,by rw[hβ];exact g1,yP6 hp ho (fun p hp=>hT p (by simpa[yR0] using hp)) g2,fun o=>?_⟩;rw[hβ];simp only[Gh.calleeH];rw[g3 o];unfold ren;rw[if_neg (fun e=>zD4 s e.symm),zN0 (zU2 h1 h2) (cols_box.2 ⟨i,rfl,hm⟩)];rfl
   |_=>simp only[zK4,zA]
  |cons _ _=>simp only[zK4,zA]
 |_=>simp only[zK4,zA]
section
variable {HB HT KT KB:List (Nat×Nat)}{G':Gh}{w':World}
theorem zU3 (hF:Frame0 (G.calleeH HB HT).χ w G'.χ w'):∀ b o,b<w'.heap.size→G'.χ b o=0→(G.backH G' w.heap.size HB HT KT KB).χ b o=0∧w'.cell? ⟨b,o,none⟩=w'.cell? ⟨b,o,none⟩:=by
 intro b o _ h0;refine⟨?_,rfl⟩;simp only[Gh.backH];split
 ·rename_i hc;have:=(hF.cell b o hc.1 (zG7 hc.2)).1;rw[h0] at this;exact ren_zero.1 this.symm
 simp_all
theorem yU3 (hF:Frame0 (G.calleeH HB HT).χ w G'.χ w')(h1:yD1 (zG5 HB++KB))(h2:yD1 KT)(h3:yD1 (zG5 KT)){T U:Nat}(hm:(T,U)∈KT){t:Ty}{l:List t.den}{m:Bool}{v:Value}(h:zF7 G' w' t l T m v) :
  zF7 (G.backH G' w.heap.size HB HT KT KB) w' t l U m v:=by
 refine zY7 (fun h=>⟨h.1,?_⟩) (by simp only[Gh.backH];rw[zN0 h3 (mem_swap.2 hm)]) rfl (zU3 hF) (fun _ q8 o=>?_) h
 rotate_left
 ·simp only[Gh.backH];split
  ·rename_i hc;have h4:=(hF.cell _ o hc.1 (zG7 hc.2)).1
   grind [zG7,Gh.calleeH,zM2]
  ·rw[q8 o,if_neg (fun e=>zA9 T e.symm),zN0 (zU2 h1 h2) (cols_arr.2 ⟨U,rfl,hm⟩)];rfl
 rcases h.2 with h|⟨cap,cur,e,us,q1,q2,q3,q4,q5,q6,q7,q8⟩
 ·grind
 ·have hγ:(G.backH G' w.heap.size HB HT KT KB).γ U=G'.γ T:=by simp only[Gh.backH];rw[zN0 h3 (mem_swap.2 hm)]
  refine .inr ⟨cap,cur,e,us,by grind,by grind,q3,q4,q5,zB5 (fun _ _ hc=>zA2 (zU3 hF) hc) q6,q7,fun o=>?_⟩;rw[hγ];simp only[Gh.backH];split
  ·rename_i hc;have h4:=(hF.cell _ o hc.1 (zG7 hc.2)).1;rw[q8 o] at h4;by_cases hmo:m=false∧o<l.length*t.size
   ·rw[if_pos hmo] at h4;rw[if_pos hmo];exact ren_zero.1 h4.symm
   ·grind [zG7,Gh.calleeH,zM2]
  ·rw[q8 o];by_cases hmo:m=false∧o<l.length*t.size
   ·rw[if_pos hmo,if_pos rfl,if_pos hmo]
   ·rw[if_neg hmo,if_neg (fun e=>zA9 T e.symm),if_neg hmo,zN0 (zU2 h1 h2) (cols_arr.2 ⟨U,rfl,hm⟩)];rfl
theorem zW4 (hF:Frame0 (G.calleeH HB HT).χ w G'.χ w')(h1:yD1 (zG5 HB++KB))(h2:yD1 KT){i s:Nat}(hm:(i,s)∈zG5 HB++KB)(hβ:(G.backH G' w.heap.size HB HT KT KB).β s=G'.β i){τ:Ty}{k k':AVal}
  (hk:∀ vs,zA8 G' w' τ k vs→zA8 (G.backH G' w.heap.size HB HT KT KB) w' τ k' vs) (h:zP4 G' w' i τ k):zP4 (G.backH G' w.heap.size HB HT KT KB) w' s τ k':=by
 obtain⟨hvt,cur,e,q2,q3,q4⟩:=h;refine⟨hvt,cur,e,by rw[hβ];exact q2,hk _ q3,fun o=>?_⟩;rw[hβ];simp only[Gh.backH];have hi:=q4 o;split
 ·rename_i hc;have h4:=(hF.cell _ o hc.1 (zG7 hc.2)).1;have:=zG7 (HB:=HB) (HT:=HT) hc.2;simp only[Gh.calleeH] at h4;rw[hi] at h4;have:=zN7 i;omega
 ·rw[hi,if_neg (fun e=>zD4 i e.symm),zN0 (zU2 h1 h2) (cols_box.2 ⟨s,rfl,hm⟩)];rfl
theorem xP7 (hF:Frame0 (G.calleeH HB HT).χ w G'.χ w')(h1:yD1 (zG5 HB++KB))(h2:yD1 KT)(h3:yD1 (zG5 KT)){s i:Nat}(hm:(s,i)∈HB)(hnew:lk (zG5 KB) s=none)(hβ:G'.β i=G.β s){τ:Ty}{k:AVal}{u:Value}(hpt:s<vNo→u=.pointer (some ⟨G.β s,0,none⟩))
  (hK:∀ p∈k.tags τ (zV1 s),p∈KT) (h:zA G' w' #[] (some i) (.box τ k) u):zA (G.backH G' w.heap.size HB HT KT KB) w' tm (some s) (.box τ (k.pos τ (zV1 s))) u:=by
 have hb:(G.backH G' w.heap.size HB HT KT KB).β s=G.β s:=by simp only[Gh.backH,hnew]
 refine⟨fun hs=>by rw[hb];exact hpt hs,zW4 hF h1 h2 (List.mem_append_left _ (mem_swap.2 hm)) (by rw[hb,hβ]) (fun vs ht=>yP6 (zU3 hF) (fun U T hm t l m v h=>yU3 hF h1 h2 h3 hm h) hK ht) h.2⟩
theorem xP8 (hF:Frame0 (G.calleeH HB HT).χ w G'.χ w'):Ext (fun x=>(∃ y,(x,y)∈zR3 HB HT)∨(∃ U,U∈KT.map (·.2)∧x=zB U)∨∃ V,V∈KB.map (·.2)∧x=zE V) (fun x=>(∃ U,U∈KT.map (·.2)∧x=zB U)∨∃ V,V∈KB.map (·.2)∧x=zE V) G w (G.backH G' w.heap.size HB HT KT KB) w':=by
 refine⟨fun b o hb h0=>?_,fun b hb hX=>?_,hF.size,fun s hs=>?_,fun T hT=>?_,fun _ h=>.inr h⟩
 ·have hn:lk (zR3 HB HT) (G.χ b o)=none:=by
   cases hl:lk (zR3 HB HT) (G.χ b o) with
   |none=>rfl
   |some y=>have:=yB6 (zK5 hl);omega
  refine⟨by simp_all [Gh.backH],?_⟩;exact (hF.cell b o hb (zG7 hn)).2
 ·have hn:∀ o,lk (zR3 HB HT) (G.χ b o)=none:=fun o=>by
   grind [lk,zR3,absurd,zK5]
  exact⟨hF.block b hb (fun o=>zG7 (hn o)),fun o=>by simp_all [Gh.backH]⟩
 ·simp only[Gh.backH];cases hl:lk (zG5 KB) s with
  |none=>rfl
  |some U=>exact absurd (.inr ⟨s,List.mem_map.2 ⟨(U,s),mem_swap.1 (zK5 hl),rfl⟩,rfl⟩) hs
 ·simp only[Gh.backH];cases hl:lk (zG5 KT) T with
  |none=>rfl
  |some U=>exact absurd (.inl ⟨T,List.mem_map.2 ⟨(U,T),mem_swap.1 (zK5 hl),rfl⟩,rfl⟩) hT
def Gh.backO (G G':Gh)(b0:Nat)(HB HT KT KB:List (Nat×Nat)):Gh:={ χ:=(G.backH G' b0 HB HT KT KB).χ,β:=G.β,γ:=(G.backH G' b0 HB HT KT KB).γ }
theorem xP9 (hF:Frame0 (G.calleeH HB HT).χ w G'.χ w'):Ext (fun x=>(∃ y,(x,y)∈zR3 HB HT)∨∃ U,U∈KT.map (·.2)∧x=zB U) (fun x=>∃ U,U∈KT.map (·.2)∧x=zB U) G w (G.backO G' w.heap.size HB HT KT KB) w':=by
 refine⟨fun b o hb h0=>?_,fun b hb hX=>?_,hF.size,fun s _=>rfl,fun T hT=>?_,fun _ h=>.inr h⟩
 ·have hn:lk (zR3 HB HT) (G.χ b o)=none:=by
   cases hl:lk (zR3 HB HT) (G.χ b o) with
   |none=>rfl
   |some y=>have:=yB6 (zK5 hl);omega
  refine⟨by simp_all [Gh.backO,Gh.backH],?_⟩;exact (hF.cell b o hb (zG7 hn)).2
 ·have hn:∀ o,lk (zR3 HB HT) (G.χ b o)=none:=fun o=>by
   grind [lk,zR3,absurd,zK5]
  exact⟨hF.block b hb (fun o=>zG7 (hn o)),fun o=>by simp_all [Gh.backO,Gh.backH]⟩
 ·simp only[Gh.backO,Gh.backH];cases hl:lk (zG5 KT) T with
  |none=>rfl
  |some U=>exact absurd ⟨T,List.mem_map.2 ⟨(U,T),mem_swap.1 (zK5 hl),rfl⟩,rfl⟩ hT
theorem xI1 {b0:Nat}:Ext (fun x=>(∃ y,(x,y)∈zR3 [] [])∨(∃ U,U∈([]:List (Nat×Nat)).map (·.2)∧x=zB U)∨∃ V,V∈KB.map (·.2)∧x=zE V) (fun x=>(∃ U,U∈([]:List (Nat×Nat)).map (·.2)∧x=zB U)∨∃ V,V∈KB.map (·.2)∧x=zE V) (G.backO G' b0 HB HT KT KB) w (G.backH G' b0 HB HT KT KB) w:=by
 refine⟨fun b o _ h0=>⟨h0,rfl⟩,fun b _ _=>⟨rfl,fun _=>rfl⟩,Nat.le_refl _,fun s hs=>?_,fun T _=>rfl,fun _ h=>.inr h⟩;simp only[Gh.backO,Gh.backH];cases hl:lk (zG5 KB) s with
 |none=>rfl
 |some U=>exact absurd (.inr ⟨s,List.mem_map.2 ⟨(U,s),mem_swap.1 (zK5 hl),rfl⟩,rfl⟩) hs
theorem yY9 (hF:Frame0 (G.calleeH HB HT).χ w G'.χ w')(hfr:Frame0 χ0 w0 G.χ w):Frame0 χ0 w0 (G.backH G' w.heap.size HB HT KT KB).χ w':=by
 have hnone:∀ b o,b<w0.heap.size→χ0 b o≤1→lk (zR3 HB HT) (G.χ b o)=none:=fun b o hb hc=>by
  cases hl:lk (zR3 HB HT) (G.χ b o) with
  |none=>rfl
  |some y=>have:=yB6 (zK5 hl);have:=(hfr.cell b o hb hc).1;omega
 refine⟨hF.os.trans hfr.os,hF.tape.trans hfr.tape,hF.output.trans hfr.output,Nat.le_trans hfr.size hF.size,fun b hb hc=>?_,fun b o hb hc=>?_⟩
 ·have hlt:=Nat.lt_of_lt_of_le hb hfr.size;rw[hF.block b hlt (fun o=>zG7 (hnone b o hb (hc o)))];exact hfr.block b hb hc
 ·have hlt:=Nat.lt_of_lt_of_le hb hfr.size;have hn:=hnone b o hb hc;have h3:=hfr.cell b o hb hc;refine⟨by simp_all [Gh.backH],?_⟩;rw[(hF.cell b o hlt (zG7 hn)).2]
  grind
end
theorem yM1 {G':Gh}{w':World}{d:Nat}(hprot:∀ b o,b<w.heap.size→G.χ b o=0→G'.χ b o=0∧w'.cell? ⟨b,o,none⟩=w.cell? ⟨b,o,none⟩)
  (hown:∀ T,T<4→∀ (t:Ty) (l:List t.den) m v,zF7 G w t l T m v→zF7 G' w' t l (T*100000+d) m v):∀ {A:AVal}{τ:Ty}{vs:List Value},zF9 A=true→zA8 G w τ A vs→zA8 G' w' τ (A.tagTo d) vs:=by
 intro A
 induction A with
 |val τ' x=>grind [AVal.tagTo,zA8,zA2]
 |nil=>grind [AVal.tagTo,zA8]
 |own t l T m=>intro τ vs hr ht;have hr:T<4:=Nat.le_of_ble_eq_true hr;grind [AVal.tagTo,zA8]
 |agg f b ih=>grind [zF9,AVal.tagTo,zA8]
 |nl=>grind [AVal.tagTo,zA8]
 |junk=>grind [AVal.tagTo,zA8]
 |cons x y ihx ihy=>intro τ vs hr ht;simp[zF9] at hr;obtain⟨h1,t1,us,ws,e,h2,h3,h4⟩:=ht;exact⟨h1,t1,us,ws,e,h2,ihx hr.1 h3,ihy hr.2 h4⟩
 |_=>intro τ vs _ ht;simp only[zA8] at ht
theorem yM2 {G':Gh}{w':World}{d:Nat}{tm':Array Value}(hprot:∀ b o,b<w.heap.size→G.χ b o=0→G'.χ b o=0∧w'.cell? ⟨b,o,none⟩=w.cell? ⟨b,o,none⟩)
  (hown:∀ T,T<4→∀ (t:Ty) (l:List t.den) m v,zF7 G w t l T m v→zF7 G' w' t l (T*100000+d) m v):∀ {A:AVal}{v:Value},zF9 A=true→zA G w tm none A v→zA G' w' tm' none (A.tagTo d) v:=by
 intro A
 induction A with
 |junk=>grind [AVal.tagTo,zA]
 |val τ' x=>grind [AVal.tagTo,zA,zC4]
 |nil=>grind [AVal.tagTo,zA]
 |own t l T m=>intro v hr ht;have hr:T<4:=Nat.le_of_ble_eq_true hr;grind [AVal.tagTo,zA]
 |agg f b _=>grind [zF9,AVal.tagTo,zA,yM1]
 |nl=>grind [AVal.tagTo,zA]
 |nilp=>grind [AVal.tagTo,zA]
 |cons x y ihx ihy=>intro v hr ht;simp[zF9] at hr;obtain⟨u,us,h1,h2,h3⟩:=ht;exact⟨u,us,h1,ihx hr.1 h2,ihy hr.2 h3⟩
 |tup b ih=>intro v hr ht;exact ih hr ht
 |_=>intro v hr _;simp[zF9] at hr
theorem yZ {G':Gh}{w':World}{d:Nat}{tm':Array Value}(hprot:∀ b o,b<w.heap.size→G.χ b o=0→G'.χ b o=0∧w'.cell? ⟨b,o,none⟩=w.cell? ⟨b,o,none⟩)
  (hown:∀ T,T<4→∀ (t:Ty) (l:List t.den) m v,zF7 G w t l T m v→zF7 G' w' t l (T*100000+d) m v) (yQ7:∀ s,vNo≤s→s<vNo+4→G'.β (vTo d s)=G.β s):∀ {A:AVal}{v:Value},yC7 A=true→zA G w tm none A v→zA G' w' tm' none (A.tagTo d) v:=by
 have h2:∀ s,(Nat.ble vNo s&&Nat.blt s (vNo+4))=true→G'.β (vTo d s)=G.β s:=fun s h=>by
  simp only[Bool.and_eq_true] at h;exact yQ7 s (Nat.le_of_ble_eq_true h.1) (Nat.le_of_ble_eq_true h.2)
 intro A
 induction A with
 |ref s τ p =>
  intro v hr ht;simp only[yC7,Bool.and_eq_true] at hr;simp only[AVal.tagTo,zA] at ht ⊢;rw[h2 s (by simp[hr.1,hr.2.1])];exact ht
 |pn b s τ =>
  intro v hr ht;simp only[yC7] at hr;simp only[AVal.tagTo,zA] at ht ⊢;rw[h2 s hr];exact ht
 |cons x y ihx ihy=>intro v hr ht;simp[yC7] at hr;obtain⟨u,us,h1,h2,h3⟩:=ht;exact⟨u,us,h1,ihx hr.1 h2,ihy hr.2 h3⟩
 |tup b ih=>intro v hr ht;exact ih hr ht
 |_=>intro v hr ht;exact yM2 hprot hown hr ht
end Go.Am
namespace Go.Am
open Go Go.RowKit
variable {rd:Option Nat}{gtab:GlobTab}{P:Program}{c:Ctx}{G:Gh}{w:World}{tm:Array Value}{n:Nat}{χ0:Nat→Nat→Nat}{w0:World}{S:St}{a:Act}
theorem yB7 {s0:Nat}:∀ {A:AVal}{s:Option Nat},s≠some s0→¬ A.names (fun x=>x=zE s0) (fun _=>False) s:=by
 intro A
 induction A with
 |own t l T m=>grind [AVal.names,zA7]
 |ownh t l T i V m=>grind [AVal.names,zA7]
 |opt _ _ _ A ih=>grind [AVal.names]
 |box τ b ih =>
  intro s h;cases s<;>grind [AVal.names,zD8]
 |may m τ b ih =>
  intro s h;cases s<;>grind [AVal.names,zD8]
 |raw =>
  intro s h;cases s<;>grind [AVal.names,zD8]
 |cons x y ihx ihy=>grind [AVal.names]
 |agg f b ih=>grind [AVal.names]
 |tup b ih=>grind [AVal.names]
 |fn f b ih=>grind [AVal.names]
 |_=>grind [AVal.names]
theorem xI2 {s:Nat}{v:Value}:∀ {cs:AVal}{caps:List (Option (Nat×Ty))}{xs:Array Value},zV4 s cs=some caps→zA G w tm none cs (.tuple xs)→v=.pointer (some ⟨G.β s,0,none⟩)→xs.toList=caps.map (xD2 G v):=by
 intro cs
 induction cs with
 |nl =>
  grind [zV4,Option.some.injEq,zA,Value.tuple.injEq]
 |cons A t _ ih =>
  intro caps xs h ha hv;simp[zA] at ha;obtain⟨x,r,rfl,h1,h2⟩:=ha;cases A with
  |ref k τ p =>
   cases p with
   |nil =>
    simp only[zV4] at h;split at h
    ·rename_i l hl;simp  at h;subst h;simp[zA,Ty.poff] at h1;have:=ih hl h2 hv;simp only[List.map_cons,xD2];rw[← this,h1.2]
    ·cases h
   |cons _ _=>simp[zV4] at h
  |rref s' =>
   simp only[zV4] at h;cases hb:Nat.beq s s' with
   |false=>grind
   |true =>
    have:=Nat.eq_of_beq_eq_true hb;subst this;split at h
    ·rename_i l hl;simp  at h;subst h;have:=ih hl h2 hv;simp only[List.map_cons,xD2];rw[← this,h1,hv]
    grind
  |_=>grind [zV4]
 |_=>grind [zV4]
def Gh.ice (G:Gh)(b:Nat):Gh:={ G with χ:=fun b' o=>if b'=b then 0 else G.χ b' o }
theorem xQ {T:Nat}{X:Nat→Prop}{G':Gh}{w':World}(hX:∀ x,X x→x=zB T)(hx:Ext X (fun _=>False) G w G' w') :
  MapOk (fun _=>False) G w G' w' (fun t l T' m=>bif Nat.beq T T' then .junk else .own t l T' m) (fun s T' t i p=>bif Nat.beq T T' then .junk else .eref s T' t i p):=by
 have h0:¬ X 0:=fun h=>zA9 _ (hX 0 h);refine⟨hx.prot,fun s=>hx.box s id,fun s hcol hlt=>?_,fun t l T' m v _ ho hf=>?_,fun t l T' m v _ ho tm=>?_,fun s T' t i p v _ tm ha=>?_⟩
 ·have:=hx.block _ hlt (fun o=>by grind [zA7])
  grind
 ·cases hb:Nat.beq T T' with
  |true=>grind [AVal.fitsT]
  |false =>
   simp only[cond_false,zA8];exact⟨trivial,v,rfl,zF hx h0 (fun e=>by have:=zA4 (hX _ e);simp_all) ho⟩
 ·cases hb:Nat.beq T T' with
  |true=>simp[zA]
  |false=>exact zF hx h0 (fun e=>by have:=zA4 (hX _ e);simp_all) ho
 ·cases hb:Nat.beq T T' with
  |true=>simp[zA]
  |false=>simp[zA] at ha ⊢;rw[hx.tag T' id];grind
theorem xI3 {U:Nat}{t:Ty}{i V s0:Nat}{x:List t.den}{m:Bool}{c:Ctx}:∀ {R:St}{s:Nat},St.has s (zX8 c U t i x V m s0 S R)=true →
  (zX8 c U t i x V m s0 S R).get s=(bif Nat.beq s s0||c.wr.any (Nat.beq s) then (S.get s).fill U t i x V m else (S.get s).gone U)∨∃ e∈zX8 c U t i x V m s0 S R,e.1=zA6:=by
 intro R
 induction R<;>grind [zX8,St.has,St.get,Nat.beq,List.mem_cons_self,Nat.eq_of_beq_eq_true]
theorem xI4 {U:Nat}{t:Ty}{i V s0:Nat}{x:List t.den}{m:Bool}{c:Ctx}{s:Nat}(ht:(S.get s).hasTag U=true):∀ {R:St},St.has s R=true→St.has s (zX8 c U t i x V m s0 S R)=true:=by
 intro R
 induction R with
 |nil=>grind [St.has]
 |cons e r ih =>
  intro h;obtain⟨q,A⟩:=e;simp only[zX8];simp only[St.has,List.any_cons,Bool.or_eq_true] at h;cases ht':(S.get q).hasTag U with
  |false =>
   rcases h with h|h
   ·simp_all
   ·exact ih h
  |true =>
   simp only[cond_true,St.has,List.any_cons,Bool.or_eq_true];rcases h with h|h
   ·grind
   ·exact .inr (ih h)
theorem yZ0 {U s0 s:Nat}{i:Int}:∀ {l:List Nat},l.any (Nat.beq s)=true→s≠s0→(∀ q∈zY U i s0 S l,q)→∀ q∈zX9 U i (S.get s),q:=by
 intro l
 induction l with
 |nil=>grind
 |cons k r ih =>
  intro h hne hq;simp[zY] at hq
  grind [Nat.eq_of_beq_eq_true,Nat.beq,absurd]
theorem yZ1 (hc:CtxOk P c)(hR:Rel c.n χ0 w0 S a w G){o:Oper}{T:Nat}{x y:Operand}{A v:AVal}{p:List Prop}{u:St}{hv:Bool}(ho:o.op=.store T x y)(hd:o.dst=none)
  (hA:zA G w a.tmps none A (a.eval x)) (hV:zA G w a.tmps none v (a.eval y)) (h:zY0 c T A (zA3 S A) v S=some (p,u,hv))
  (hlt:∀ e∈u,e.1<zA6) (hp:∀ q∈p,q)
  {next:Act→World→Prop}{Q:Exit→Act→World→Prop}(hnext:∀ v w' G',Rel c.n χ0 w0 (u++S) (a.put o.dst v) w' G'→next (a.put o.dst v) w'):o.wpIn (fz rd) 0 P a w next Q:=by
 unfold zY0 at h;split at h
 ·rename_i s0 U t i q;split at h
  ·rename_i t' l U' j U2 hk;have hcont:=zG3 hR (A:=.eref s0 U t i q) rfl;rw[hk] at hcont;unfold yG4 at h;split at h
   ·rename_i sv xv V m;cases hb:(Ty.beq (.sl t') t&&Nat.beq U' U2&&Nat.beq U' U&&c.is T (.sl t')&&q.isEmpty&&!(Nat.beq V U)&&!t'.isL) with
    |false=>grind
    |true =>
     simp only[hb,cond_true] at h;split at h
     ·rename_i xv' hxv';simp only[Option.some.injEq,Prod.mk.injEq] at h;obtain⟨rfl,rfl,rfl⟩:=h;simp only[Bool.and_eq_true,Bool.not_eq_true'] at hb;obtain⟨⟨⟨⟨⟨⟨b1,b2⟩,b3⟩,b4⟩,b5⟩,b6⟩,b7⟩:=hb;have e:=Ty.eq_of_beq b1;subst e;have e:=Nat.eq_of_beq_eq_true b2;subst e;have e:=Nat.eq_of_beq_eq_true b3;subst e;have hq:q=[]:=List.isEmpty_iff.1 b5;subst hq;have hT:=zB6 hc.tys b4;have hne:V≠U':=fun e=>by grind
      obtain⟨e',hxv'⟩:=zC7 hxv';injection e' with e'
      subst e';subst hxv';obtain⟨hij,hil⟩:=hp _ (List.mem_cons_self ..);subst hij;obtain⟨hi0,_,hxa⟩:=hA;have hi:i.toNat<List.length (α:=List sv.den) l:=by omega
      obtain⟨⟨cur,e,g1,g2⟩,hfr,hx,hH⟩:=yM (u:=a.eval y) hR.frame hcont hi hne (zB0 hV b7);have hone:=zZ2 hV;have hrun:=zJ (P:=P) (w:=w) (u:=a.eval y) (us:=[a.eval y]) (b:=G.γ U') (o:=i.toNat) (cur:=cur) (e:=e) hT (zJ6 (τ:=.sl sv) (us:=[a.eval y]) (by simp[zO5,Ty.isAgg]) (by grind)) (by simp[Ty.size]) (by grind) g1 (by grind);have hrun':(execOp a.eval o).run P w=.ok .skip (w.setCells (G.γ U') i.toNat [a.eval y]):=by
       unfold execOp;simp[ho,hxa,Ty.size,Ty.poff,hrun]
      refine zU0 hrun' (hnext undef _ G ?_);rw[hd,zJ0];have hmap:=xQ (T:=U') (fun x h=>h) hx;have hgone:∀ s,zA G (w.setCells (G.γ U') i.toNat [a.eval y]) a.tmps (some s) ((S.get s).gone U') (a.tmps.getD s undef):=fun s=>hmap.arep (fun _ h=>h.elim) (hR.reps s);refine zD6 (dst:=none) (v:=undef) hR hc.n hlt (fun d e=>by cases e) (fun d e=>by grind) hx (fun e=>zA9 _ e) hfr (fun s' hs'=>?_) (fun s d e=>by grind) (fun s' hs'=>?_)
      ·refine yY8 (fun x h=>h) ?_
       grind [xI4,zN8,zS5]
      ·rw[zJ0];rcases xI3 hs' with h3|⟨e,he,h3⟩
       ·rw[h3];cases hsel:(Nat.beq s' s0||c.wr.any (Nat.beq s')) with
        |false=>grind
        |true =>
         simp only[cond_true];have hask:∀ q∈zX9 U' i (S.get s'),q:=by
          by_cases e0:s'=s0
          ·subst e0;simp only[zA3] at hk;rw[hk];have h0:=hp _ (List.mem_cons_self ..);intro q hq;simp only[zX9,Nat.beq_refl,Bool.and_self,cond_true,List.mem_singleton] at hq;rw[hq];exact⟨trivial,h0.2⟩
          ·simp only[Bool.or_eq_true] at hsel;rcases hsel with h|h
           ·grind [absurd,Nat.eq_of_beq_eq_true]
           ·exact yZ0 h e0 fun q hq=>hp q (List.mem_cons_of_mem _ hq)
         have hrs:=hR.reps s';have hg:=hgone s';generalize S.get s'=A at hrs hask hg ⊢;cases A with
         |ownh t2 l2 T2 j2 U3 m2 =>
          cases m2 with
          |false=>exact hg
          |true =>
           simp only[AVal.fill];cases hbb:(Nat.beq T2 U'&&Nat.beq U3 U') with
           |false=>simp only[cond_false,zA]
           |true =>
            simp only[cond_true];simp only[zX9,hbb,cond_true,List.mem_singleton,forall_eq] at hask;simp only[Bool.and_eq_true] at hbb;have e1:=Nat.eq_of_beq_eq_true hbb.1;have e2:=Nat.eq_of_beq_eq_true hbb.2;subst e1;subst e2;split
            ·rename_i x2 hx2;obtain⟨e3,hx2⟩:=zC7 hx2;injection e3 with e3
             subst e3;subst hx2;obtain⟨q1,q2⟩:=hask;subst q1;have hl2:i.toNat<List.length (α:=List sv.den) l2:=by omega
             exact (yM hR.frame hrs hl2 hne (zB0 hV b7)).2.2.2
            grind [zA]
         |_=>exact hg
       ·have:=hlt e he;have:=hc.n;omega
     grind
   grind
  ·rename_i t' l U' hk;have hcont:=zG3 hR (A:=.eref s0 U t i q) rfl;rw[hk] at hcont;cases hho:wC7 v with
   |true =>
    simp[hho,cond_true] at h;unfold yG3 at h;split at h
    ·rename_i sv xv V m;cases hb:(Ty.beq t' t&&Ty.beq (.sl sv) t'&&Nat.beq U' U&&c.is T (.sl sv)&&q.isEmpty&&!(Nat.beq V U)&&!sv.isL) with
     |false=>grind
     |true =>
      simp[hb,cond_true,Option.some.injEq,Prod.mk.injEq] at h;obtain⟨rfl,rfl,rfl⟩:=h;simp only[Bool.and_eq_true,Bool.not_eq_true'] at hb;have e:=Ty.eq_of_beq hb.1.1.1.1.1.1;subst e;have e:=Ty.eq_of_beq hb.1.1.1.1.1.2;subst e;have e:=Nat.eq_of_beq_eq_true hb.1.1.1.1.2;subst e;have hT:=zB6 hc.tys hb.1.1.1.2;have hne:V≠U':=fun e=>by grind
      have hil:=hp _ (List.mem_singleton.2 rfl);obtain⟨hi0,_,hxv⟩:=hA;have hi:i.toNat<List.length (α:=List sv.den) l:=by omega
      obtain⟨⟨cur,e,g1,g2⟩,hfr,hx,hm⟩:=xH6 (u:=a.eval y) hR.frame hb.2 hcont hi hne hV;have hone:=zZ2 hV;have hrun:=zJ (P:=P) (w:=w) (u:=a.eval y) (us:=[a.eval y]) (b:=G.γ U') (o:=i.toNat) (cur:=cur) (e:=e) hT (zJ6 (τ:=.sl sv) (us:=[a.eval y]) (by simp[zO5,Ty.isAgg]) (by grind)) (by simp[Ty.size]) (by grind) g1 (by grind);have hrun':(execOp a.eval o).run P w=.ok .skip (w.setCells (G.γ U') i.toNat [a.eval y]):=by
       unfold execOp;simp_all [Ty.size,Ty.poff]
      refine zU0 hrun' (hnext undef _ G ?_);rw[hd,zJ0];exact yB4 hR hc.n hx (zA9 U') hfr hm (fun T hT=>hT.elim) (fun s hs=>yB3 hs) hlt
    grind
   |false =>
   simp only[hho,cond_false] at h;cases hb:(Ty.beq t' t&&Nat.beq U' U&&c.is T (t'.pty q)&&AVal.fits (t'.pty q) v) with
   |false=>grind
   |true =>
    simp only[hb,cond_true] at h;simp only[Bool.and_eq_true] at hb;have e:=Ty.eq_of_beq hb.1.1.1;subst e;have e:=Nat.eq_of_beq_eq_true hb.1.1.2;subst e;split at h
    ·rename_i yv hy;obtain⟨rfl,rfl,rfl⟩:=h;have hT:=zB6 hc.tys hb.1.2;have hil:=hp _ (List.mem_singleton.2 rfl);simp only[zA] at hA hcont;obtain⟨hi0,hq,hxv⟩:=hA;have hi:i.toNat<l.length:=by omega
     obtain⟨us,h1,h2⟩:=zR8 hV hb.2 (zC5 hT);obtain⟨⟨cur,e,g1,g2⟩,hfr,hx,hm⟩:=xH4 hR.frame (xD3 hq hT) hcont hi hq h1 hy;have hcel:=zJ6 h2 (zT5 h1);have hrun:=zJ (P:=P) (w:=w) (u:=a.eval y) hT hcel (zB1 h1) (zT5 h1) g1 g2;have hrun':(execOp a.eval o).run P w=.ok .skip (w.setCells (G.γ U') (i.toNat*t'.size+t'.poff q) us):=by
      grind [execOp,Sem.run_bind,Result.andThen_ok,Sem.run_pure]
     refine zU0 hrun' (hnext undef _ G ?_);rw[hd,zJ0];refine yI9 hR hc.n hx (zA9 U') hfr (fun s hs=>?_) (fun s hs=>yB3 hs) hlt;have hrs:=hR.reps s;generalize S.get s=A at hrs hs ⊢;cases A with
     |ownh t2 l2 T2 j V m2 =>
      simp only[AVal.setEl];cases hb2:(Nat.beq U' V&&m2&&!(Nat.beq T2 V)) with
      |false=>simp only[cond_false,zA]
      |true =>
       simp only[Bool.and_eq_true] at hb2;obtain⟨⟨hb2,rfl⟩,hb3⟩:=hb2;have e:=Nat.eq_of_beq_eq_true hb2;subst e;cases hcs:Ty.cast t2 yv with
       |none=>grind [zA]
       |some y' =>
        have hvt:yE2 t2:=hrs.1;have hTU:T2≠U':=fun e=>by grind
        refine xH5 hx (fun e=>hTU (zA4 e)) (fun u hu=>?_) hTU hrs;have h9:=hm.own2 t2 _ U' true u (fun h=>h) (.inl hu) a.tmps;simp only[Nat.beq_refl,cond_true,hcs,zA] at h9;exact zB0 h9 hvt.2
     |_=>exact hm.arep (fun T hT=>hT.elim) hrs
    grind
  grind
 ·rename_i s;split at h
  ·rename_i f cs hkc;cases hft:c.fts.any (Nat.beq T) with
   |false=>grind
   |true =>
    simp only[hft,cond_true] at h;split at h
    ·rename_i caps hcaps;simp only[Option.some.injEq,Prod.mk.injEq] at h;obtain⟨rfl,rfl,rfl⟩:=h;have hcont:=zG3 hR (A:=.rref s) rfl;rw[hkc] at hcont;simp only[zA] at hcont hA hV;obtain⟨_,u0,e,hb,hcol⟩:=hcont;obtain⟨vs,hv,hcs⟩:=hV;obtain⟨i,_,_,_,hi,_,hsz,_,_,_⟩:=yX4 hc.fts hft;have hone:(Value.func (.func f) #[] vs).oneCell'=true:=rfl;have hrun:(Instr.storeAt T (a.eval x) (a.eval y)).run P w=.ok () (w.setCells (G.β s) 0 [.func (.func f) #[] vs]):=by
      have:=run_storeCells_cells (P:=P) (G.β s) 0 [.func (.func f) #[] vs] 0 w (fun j hj=>by
       grind [World.cell?]) (fun j hj=>by grind [World.frozen?]) (fun u hu=>by grind)
      simp_all [Instr.storeAt,Instr.sureAddr,storeVar,sizeOf,typeInfo,Value.cells]
     have hrun':(execOp a.eval o).run P w=.ok .skip (w.setCells (G.β s) 0 [.func (.func f) #[] vs]):=by
      grind [execOp,Sem.run_bind,Result.andThen_ok,Sem.run_pure]
     obtain⟨cur',g1,g2⟩:=zI9 (G.β s) e (0,0) [.func (.func f) #[] vs] 0 w #[u0] hb (by simp);refine zU0 hrun' (hnext undef _ (G.ice (G.β s)) ?_);rw[hd];have hnone:∀ s',St.has s' [(s,AVal.fptr f caps)]=false→s'≠s:=by intro s' hs e;simp_all [St.has]
     have hbne:∀ b o,G.χ b o=0→b≠G.β s:=fun b o h0 e=>by grind [zD4]
     have hext:Ext (fun x=>x=zE s) (fun _=>False) G w (G.ice (G.β s)) (w.setCells (G.β s) 0 [.func (.func f) #[] vs]):=by
      refine⟨fun b o hb' h0=>⟨by simp_all [Gh.ice],?_⟩,fun b hb' hX=>?_,by simp_all [zQ],fun _ _=>rfl,fun _ _=>rfl,fun _ h=>h.elim⟩
      ·grind [World.cell?,zE0]
      ·have hne:b≠G.β s:=by intro e;simp_all
       exact⟨zE0 (G.β s) _ 0 w b hne,fun o=>by simp_all [Gh.ice]⟩
     have hfr:Frame0 χ0 w0 (G.ice (G.β s)).χ (w.setCells (G.β s) 0 [.func (.func f) #[] vs]):=by
      have h1:=zM1 hR.frame (b:=G.β s) (o:=0) (us:=[.func (.func f) #[] vs]) (fun o=>by grind [zN7]);refine⟨h1.os,h1.tape,h1.output,h1.size,h1.block,fun b o hb' hc'=>⟨?_,(h1.cell b o hb' hc').2⟩⟩;have h2:=(h1.cell b o hb' hc').1;have hne:b≠G.β s:=by grind [zN7]
      simp_all [Gh.ice]
     refine zD6 hR hc.n hlt (fun d e=>by cases e) (fun d e=>by grind) hext (zD4 s) hfr (fun s' hs'=>yB7 (fun e=>hnone s' hs' (by grind))) (fun _ d e=>by grind) (fun s' hs'=>?_);have:s'=s:=by simp_all [St.has]
     subst this;have hg:St.get [(s',AVal.fptr f caps)] s'=.fptr f caps:=by simp[St.get]
     rw[hg,zJ0];have hval:a.tmps.getD s' undef=.pointer (some ⟨G.β s',0,none⟩):=by
      grind
     rw[hval];refine⟨G.β s',rfl,by simp[Gh.ice],?_⟩;have hvs:=xI2 (v:=.pointer (some ⟨G.β s',0,none⟩)) hcaps hcs rfl;simp only[World.cell?];have h2:cur'=#[.func (.func f) #[] vs]:=by
      apply Array.toList_inj.1;rw[g2];apply List.ext_getElem?
      grind [spl_getElem?]
     have h3:vs=(caps.map (xD2 (G.ice (G.β s')) (.pointer (some ⟨G.β s',0,none⟩)))).toArray:=by
      apply Array.toList_inj.1;rw[hvs];refine List.map_congr_left fun q _=>?_;cases q<;>rfl
     grind
    grind
  grind
 ·split at h
  ·rename_i uu hst;obtain⟨rfl,rfl,rfl⟩:=h;obtain⟨s,C⟩:=uu;have hkk:∀ s',zD0 A=some s'→zA G w a.tmps (some s') (zA3 S A) (match zD0 A with|some s=>a.tmps.getD s undef|none=>undef):=by
    grind [zG3]
   obtain⟨us,off,hrun,hcol,hrs,hC⟩:=yT3 hc.tys hA hkk hV hst;have hrun':(execOp a.eval o).run P w=.ok .skip (w.setCells (G.β s) off us):=by
    grind [execOp,Sem.run_bind,Result.andThen_ok,Sem.run_pure]
   refine zU0 hrun' (hnext undef _ G ?_);rw[hd];rw[hrs] at hC;have hone:∀ s',St.has s' [(s,C)]=true→s'=s:=by simp_all [St.has]
   have hnone:∀ s',St.has s' [(s,C)]=false→s'≠s:=by intro s' hs e;subst e;simp[St.has] at hs
   refine zD6 hR hc.n hlt (fun d e=>by cases e) (fun d e=>by grind) (zS (X:=fun x=>x=zE s) (fun o=>hcol o) (zD4 s)) (zD4 s) (zM1 hR.frame (fun o=>by grind [zN7]))
    (fun s' hs'=>yB7 (fun e=>hnone s' hs' (by grind))) (fun _ d e=>by grind) (fun s' hs'=>?_)
   have:=hone s' hs';subst this;have hg:St.get [(s',C)] s'=C:=by simp[St.get]
   rw[hg];exact hC
  grind
theorem yP7 (hc:CtxOk P c)(hR:Rel c.n χ0 w0 S a w G){o:Oper}{T:Nat}{x y z:Operand}{A B C:AVal}{p:List Prop}{u:St}{hv:Bool}(ho:o.op=.mapUpdate T x y z)(hd:o.dst=none)
  (hA:zA G w a.tmps none A (a.eval x)) (hB:zA G w a.tmps none B (a.eval y)) (hC:zA G w a.tmps none C (a.eval z)) (h:yN8 c T A B C S=some (p,u,hv))
  (hlt:∀ e∈u,e.1<zA6){next:Act→World→Prop}{Q:Exit→Act→World→Prop}(hnext:∀ v w' G',Rel c.n χ0 w0 (u++S) (a.put o.dst v) w' G'→next (a.put o.dst v) w'):o.wpIn (fz rd) 0 P a w next Q:=by
 unfold yN8 at h;split at h
 ·rename_i k e hT;have hmt:=yO9 hc.maps hT;split at h
  ·rename_i t l U m;split at h
   ·rename_i l' xv yv hl hx hy;obtain⟨rfl,rfl,rfl⟩:=h;obtain⟨ec,hl⟩:=zC7 hl;injection ec with ec
    subst ec;obtain⟨⟨ka,kb,_,hka,hkb⟩,_,_⟩:=hmt;have hkv:=zJ4 hx (zC5 hka) hB;have hev:=zJ4 hy (zC5 hkb) hC;obtain⟨w',hrun,hfr,hext,hm⟩:=xP3 hR.frame (yO9 hc.maps hT) (yP hA) hkv hev;have hrun':(execOp a.eval o).run P w=.ok .skip w':=by
     grind [execOp,Sem.run_bind,Result.andThen_ok,Sem.run_pure]
    refine zU0 hrun' (hnext undef _ G ?_);rw[hd,zJ0];exact yB4 hR hc.n hext (zA9 U) hfr hm (fun T hT=>hT.elim) (fun s hs=>yB3 hs) hlt
   grind
  grind
 grind
theorem yB8 (hc:CtxOk P c)(hR:Rel c.n χ0 w0 S a w G){o:Oper}{T d:Nat}{args:Array Operand}{ats:Array TypeId}{A B:AVal}{va vb:Value}{p:List Prop}{u:St}{hv:Bool}
  (ho:o.op=.call { callee:=.builtin .append,args,argTypes:=ats }) (hats:ats.toList=[T,T]) (hd:o.dst=some d) (hargs:args.toList.map a.eval=[va,vb])
  (hA:zA G w a.tmps none A va) (hB:zA G w a.tmps none B vb) (h:zO0 c d T A B S=some (p,u,hv))
  (hlt:∀ e∈u,e.1<zA6) (hd0:d<c.n) (hh:∀ s,∀ e∈u,(S.get s).hung e.1=false) (hp:∀ q∈p,q)
  {next:Act→World→Prop}{Q:Exit→Act→World→Prop}(hnext:∀ v w' G',Rel c.n χ0 w0 (u++S) (a.put o.dst v) w' G'→next (a.put o.dst v) w'):o.wpIn (fz rd) 0 P a w next Q:=by
 have hats':ats=#[T,T]:=by grind
 have hargs':args.map a.eval=#[va,vb]:=by grind
 have hexec:∀ {v':Value}{w':World},(Builtin.append_ #[T,T] o.type #[va,vb]).run P w=.ok v' w'→(execOp a.eval o).run P w=.ok (.value v') w':=by
  unfold execOp
  grind [resolve,Sem.run_bind,Sem.run_pure,Result.andThen_ok,invoke,builtin]
 unfold zO0 at h;cases hnt:zC0 d S with
 |false=>grind
 |true =>
  simp[hnt,cond_true] at h;split at h
  ·rename_i p0 R U hap;obtain⟨rfl,rfl,rfl⟩:=h;unfold xM8 at hap;split at hap
   ·rename_i s T' V m;split at hap
    ·rename_i t' l U';cases hb:(c.is T (.sl (.sl s))&&!(Nat.beq V U')&&!(Nat.beq T' V)&&!(Nat.beq V d)) with
     |false=>simp_all
     |true =>
      simp only[hb,cond_true] at hap;simp  at hb;split at hap
      ·rename_i l1 hcast;simp only[Option.some.injEq,Prod.mk.injEq] at hap;obtain⟨rfl,rfl,rfl⟩:=hap;obtain⟨e,hcast⟩:=zC7 hcast;injection e with e
       subst e;have hcast:l=l1:=hcast;subst hcast;have hlen:=hp _ (List.mem_singleton.2 rfl);obtain⟨v',w',G',hr,hx,hfr,hown⟩:=yY7 (ty:=o.type) (U:=U') (d:=d) hR.frame (zB6 hc.tys hb.1.1.1) hA hB (fun e=>by subst e;simp at hb) (fun e=>by subst e;simp at hb) (fun e=>by subst e;simp at hb) (by omega);refine zL4 (hexec hr) (hnext v' w' G' ?_);rw[hd];exact zU (d:=d) (U:=U') (v':=v') hR hc.n hnt hx hfr (fun tm=>by grind [zA]) hlt hd0 (fun s=>hh s _ (List.mem_cons_self ..))
      grind
    grind
   grind
  unfold xM7 at h;cases hTy:c.ty T with
  |sl t =>
   have hT:=zI7 hc.tys T (by rw[hTy];simp);rw[hTy] at hT;simp only[hTy] at h;cases hpos:Nat.blt 0 t.size with
   |false=>grind
   |true =>
    simp[hpos,Bool.not_true,cond_false] at h;cases hsrc:wH6 t B with
    |none=>simp[hsrc] at h
    |some l2 =>
     simp only[hsrc] at h;have hBs:=yT4 (yF1 hT) hB hsrc;cases A with
     |nil =>
      obtain⟨rfl,rfl,rfl⟩:=h;have hb:=hp _ (List.mem_singleton.2 rfl);obtain⟨v',w',G',hr,hx,hfr,hown⟩:=yC9 (ty:=o.type) (U:=d) (d:=d) (m:=true) (l:=([]:List t.den)) hR.frame hT (.inl ⟨hA,rfl⟩) hBs (by simp ;omega);refine zL4 (hexec hr) (hnext v' w' G' ?_);rw[hd];have htd:∀ R:St,zB7 d (AVal.lose d) S R=[]:=by
       intro R
       induction R with
       |nil=>rfl
       |cons e r ih=>obtain⟨s,A⟩:=e;simp[zB7,zF5 hnt s,ih]
      have:=zU (d:=d) (U:=d) (R:=.own t l2 d true) (v':=v') hR hc.n hnt hx hfr (fun tm=>by exact hown) (by grind) hd0 (fun s=>hh s _ (List.mem_singleton.2 rfl));rw[htd] at this;exact this
     |own t' l U m =>
      cases hcast:Ty.cast (a:=.sl t') (.sl t) l with
      |none=>grind
      |some l1 =>
       simp[hcast] at h;obtain⟨rfl,rfl,rfl⟩:=h;obtain⟨e,rfl⟩:=zC7 hcast;injection e with e
       subst e;have hb:((l.length+l2.length:Nat):Int)≤4294967296:=hp _ (List.mem_singleton.2 rfl);obtain⟨v',w',G',hr,hx,hfr,hown⟩:=yC9 (ty:=o.type) (U:=U) (d:=d) (m:=m) (l:=l) hR.frame hT (.inr hA) hBs (by omega);refine zL4 (hexec hr) (hnext v' w' G' ?_);rw[hd];exact zU (d:=d) (U:=U) (v':=v') hR hc.n hnt hx hfr (fun tm=>by exact hown) hlt hd0 (fun s=>hh s _ (List.mem_cons_self ..))
     |_=>simp at h
  |_=>simp[hTy] at h
theorem yJ0:∀ {cs:AVal}{vs:List Value},zI3 cs=true→zA G w tm none cs (.tuple vs.toArray)→zH6 (zA G w tm none) cs.toL vs:=by
 intro cs
 induction cs with
 |nl=>intro vs _ h;simp[zA] at h;have:vs=[]:=(by grind);subst this;trivial
 |cons x y _ ihy =>
  intro vs hp h;obtain⟨u,us,e,h1,h2⟩:=h;have e:vs=u::us:=by grind
  subst e;exact⟨h1,ihy hp h2⟩
 |_=>grind [zI3]
theorem zM4 {α β:Type}{R:α→β→Prop}:∀ {xs:List α}{ys:List β}{xs':List α}{ys':List β},zH6 R xs ys→zH6 R xs' ys'→zH6 R (xs++xs') (ys++ys'):=by
 intro xs
 induction xs with
 |nil=>grind [zH6]
 |cons x xs ih=>intro ys xs' ys' h h';cases ys<;>simp only[zH6] at h;exact⟨h.1,ih h.2 h'⟩
theorem xI5 (hc:CtxOk P c)(hR:Rel c.n χ0 w0 S a w G){gd:Gd}(hi:xE1 a.tmps gd)(hon:yP1 a.tmps gd){o:Oper}{fo:Operand}{args:Array Operand}{ats:Array TypeId}{f:Nat}{cs:AVal}{r:List AVal}{p:List Prop}{u:St}{hv:Bool}
  (ho:o.op=.call { callee:=.value fo,args,argTypes:=ats }) (hf:zA G w a.tmps none (.fn f cs) (a.eval fo)) (hr:zH6 (zA G w a.tmps none) r (args.toList.map a.eval)) (hcs:zI3 cs=true)
  (h:zI4 c gd o.dst f (r++cs.toL) ((r++cs.toL).map (zA3 S)) S=some (p,u,hv))
  (hlt:∀ e∈u,e.1<zA6) (hdo:∀ d,o.dst=some d→d<c.n) (hh:∀ s,∀ e∈u,(S.get s).hung e.1=false) (huu:∀ e∈u,∀ e'∈u,e.2.hung e'.1=false) (hp:∀ q∈p,q)
  {next:Act→World→Prop}{Q:Exit→Act→World→Prop}(hnext:∀ v w' G',Rel c.n χ0 w0 (u++S) (a.put o.dst v) w' G'→next (a.put o.dst v) w'):o.wpIn (fz rd) 0 P a w next Q:=by
 simp only[zA] at hf;obtain⟨vs,hfv,hcv⟩:=hf;have hcl:=yJ0 (vs:=vs.toList) hcs (by simpa using hcv);have hys:=zM4 hr hcl;unfold zI4 at h;split at h
 ·grind
 ·rename_i co hco;obtain⟨sp,hmem,hsp⟩:=zQ1 hco;have hok:=hc.fns f sp hmem;obtain⟨fn,h1,h2,h3⟩:=hok.1;have hrun:(execOp a.eval o).run P w=.ok (.enter f (args.toList.map a.eval++vs.toList).toArray) w:=by
   have harr:(args.toList.map a.eval++vs.toList).toArray=args.map a.eval++vs:=by grind
   unfold execOp;simp[ho,resolve,hfv,Deferred.ofValue,invoke,callFunc,h1]
   grind
  cases hb:(yC6 co.outs 0 (List.zipWith zD1 (r++cs.toL) ((r++cs.toL).map (zA3 S)))&&zF9 co.res&&zK9 (r++cs.toL)&&zG (r++cs.toL) (List.zipWith zD1 (r++cs.toL) ((r++cs.toL).map (zA3 S)))) with
  |false=>simp only[hb,Bool.not_false,cond_true,reduceCtorEq] at h
  |true =>
   simp only[hb,Bool.not_true,cond_false] at h;simp only[Bool.and_eq_true] at hb;obtain⟨⟨⟨b1,b2⟩,b3⟩,b4⟩:=hb;split at h
   ·rename_i uu hout heat;cases gd with
    |none =>
     have hback:=fun hokp=>yT8 hR hok hys hsp hokp b1 b3 b4 hout;cases hd:o.dst with
     |none =>
      simp[hd] at h;obtain⟨rfl,rfl,rfl⟩:=h;refine zU1 hrun ((hback hp).mono ?_);rintro e w' ⟨v,G',rfl,hB,hres,hg,hu⟩;refine⟨v,rfl,hnext v w' (G.back G' w.heap.size none) ?_⟩;rw[hd];exact yP4 (dst:=none) (res:=co.res) hR hc.n hB hres b2 hg hu hlt (fun d e=>by cases e) (fun s d e=>(by grind)) (fun d e=>(by grind))
     |some d =>
      simp only[hd] at h;cases hnt:(zC0 d S&&zC0 (100000+d) S&&zC0 (200000+d) S&&zC0 (300000+d) S) with
      |false=>grind
      |true =>
       simp[hnt] at h;obtain⟨rfl,rfl,rfl⟩:=h;refine zU1 hrun ((hback hp).mono ?_);rintro e w' ⟨v,G',rfl,hB,hres,hg,hu⟩;refine⟨v,rfl,hnext v w' (G.back G' w.heap.size (some d)) ?_⟩;rw[hd];refine yP4 (dst:=some d) (res:=co.res) hR hc.n hB hres b2 hg hu hlt (fun d' e=>by injection e with e;subst e;exact hdo _ hd) (fun s d' e=>by grind [List.mem_cons_self]) (fun d' e s j hj=>?_)
       injection e with e;subst e
       obtain rfl|rfl|rfl|rfl:j=0∨j=1∨j=2∨j=3:=by omega
       all_goals grind [zF5]
    |some q =>
     simp only at h;split at h
     ·rename_i d τ x hd hres0;obtain⟨rfl,rfl,rfl⟩:=h;have hp0:=zM3 hi hon hp;refine zU1 hrun ((yT8 hR hok hys hsp hp0 b1 b3 b4 hout).mono ?_);rintro e w' ⟨v,G',rfl,hB,hres,hg,hu⟩;refine⟨v,rfl,hnext v w' (G.back G' w.heap.size none) ?_⟩;have hdst:o.dst=some d:=by grind
      rw[hdst];have hx:=xE0 none hB hg;have hdn:d<a.tmps.size:=by rw[hR.len];exact hdo _ hdst
      refine zD6 hR hc.n hlt (fun d' e=>by injection e with e;subst e;exact hdo _ hdst) (fun d' e=>by injection e with e;subst e;simp[St.has]) hx (fun hX=>hX.elim (fun ⟨s,e,_⟩=>zD4 s e) (fun ⟨d,j,_,_,e⟩=>zA9 _ e)) (yL9 hR.frame none hB hg)
       (fun s _=>yL8 (fun d' e=>by grind) (fun s' _=>by simp[St.has])) (fun s d' e _=>by injection e with e;subst e;exact hh s _ (List.mem_singleton.2 rfl)) (fun s hs=>?_)
      have hsd:s=d:=by simp[St.has] at hs;grind
      subst hsd;have hg1:St.get [(s,zG0 (some q) (.val τ x))] s=zG0 (some q) (.val τ x):=by simp[St.get]
      rw[hg1,zD5 hdn,if_pos rfl];refine zN5 (tm:=a.tmps) (fun k hk=>?_) (zK3 (zS4 hi hon ?_))
      ·rw[zD5 hdn,if_neg];intro e;subst e;have:=huu _ (List.mem_singleton.2 rfl) _ (List.mem_singleton.2 rfl)
       grind
      ·rw[hres0] at hres;exact zC4 (hB.prot none) hres
     grind
   grind
end Go.Am
