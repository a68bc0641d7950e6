/- The abstract machine, part 3: a typed interpreter for the program's code, and that it is sound. No condition. -/
import Derived.Test.YtmmpcldfjocfmaaGreatDoorMach2
import Derived.Orders
namespace Go.Am
open Go Go.RowKit
variable {rd:Option Nat}{gtab:GlobTab}{P:Program}{c:Ctx}{G:Gh}{w:World}{tm:Array Value}{n:Nat}{χ0:Nat→Nat→Nat}{w0:World}{S:St}{a:Act}
theorem yC4 {s0:Nat}:∀ {A:AVal}{s:Option Nat},s≠some s0→¬ A.names (fun x=>x=zE1 s0) (fun _=>False) s:=by
 intro A
 induction A with
 |own t l T m=>grind [AVal.names,zA4]
 |ownh t l T i V m=>grind [AVal.names,zA4]
 |opt _ _ _ A ih=>grind [AVal.names]
 |box τ b ih =>
  intro s h;cases s<;>grind [AVal.names,zD5]
 |may m τ b ih =>
  intro s h;cases s<;>grind [AVal.names,zD5]
 |raw =>
  intro s h;cases s<;>grind [AVal.names,zD5]
 |cons x y ihx ihy=>grind [AVal.names]
 |agg f b ih=>grind [AVal.names]
 |tup b ih=>grind [AVal.names]
 |fn f b ih=>grind [AVal.names]
 |_=>grind [AVal.names]
theorem xJ3 {s:Nat}{v:Value}:∀ {cs:AVal}{caps:List (Option (Nat×Ty))}{xs:Array Value},zW4 s cs=some caps→zA G w tm none cs (.tuple xs)→v=.pointer (some ⟨G.β s,0,none⟩)→xs.toList=caps.map (xE3 G v):=by
 intro cs
 induction cs with
 |nl =>
  grind [zW4,Option.some.injEq,zA,Value.tuple.injEq]
 |cons A t _ ih =>
  intro caps xs h ha hv;simp[zA] at ha;obtain⟨x,r,rfl,h1,h2⟩:=ha;cases A with
  |ref k τ p =>
   cases p with
   |nil =>
    simp only[zW4] at h;split at h
    ·rename_i l hl;simp  at h;subst h;simp[zA,Ty.poff] at h1;have:=ih hl h2 hv;simp only[List.map_cons,xE3];rw[← this,h1.2]
    ·cases h
   |cons _ _=>simp[zW4] at h
  |rref s' =>
   simp only[zW4] at h;cases hb:Nat.beq s s' with
   |false=>grind
   |true =>
    have:=Nat.eq_of_beq_eq_true hb;subst this;split at h
    ·rename_i l hl;simp  at h;subst h;have:=ih hl h2 hv;simp only[List.map_cons,xE3];rw[← this,h1,hv]
    grind
  |_=>grind [zW4]
 |_=>grind [zW4]
def Gh.ice (G:Gh)(b:Nat):Gh:={ G with χ:=fun b' o=>if b'=b then 0 else G.χ b' o }
theorem xR0 {T:Nat}{X:Nat→Prop}{G':Gh}{w':World}(hX:∀ x,X x→x=zB0 T)(hx:Ext X (fun _=>False) G w G' w') :
  MapOk (fun _=>False) G w G' w' (fun t l T' m=>bif Nat.beq T T' then .junk else .own t l T' m) (fun s T' t i p=>bif Nat.beq T T' then .junk else .eref s T' t i p):=by
 have h0:¬ X 0:=fun h=>zA9 _ (hX 0 h);refine⟨hx.prot,fun s=>hx.box s id,fun s hcol hlt=>?_,fun t l T' m v _ ho hf=>?_,fun t l T' m v _ ho tm=>?_,fun s T' t i p v _ tm ha=>?_⟩
 ·have:=hx.block _ hlt (fun o=>by grind [zA4])
  grind
 ·cases hb:Nat.beq T T' with
  |true=>grind [AVal.fitsT]
  |false =>
   simp only[cond_false,zA8];exact⟨trivial,v,rfl,zF2 hx h0 (fun e=>by have:=zA5 (hX _ e);simp_all) ho⟩
 ·cases hb:Nat.beq T T' with
  |true=>simp[zA]
  |false=>exact zF2 hx h0 (fun e=>by have:=zA5 (hX _ e);simp_all) ho
 ·cases hb:Nat.beq T T' with
  |true=>simp[zA]
  |false=>simp[zA] at ha ⊢;rw[hx.tag T' id];grind
theorem xJ4 {U:Nat}{t:Ty}{i V s0:Nat}{x:List t.den}{m:Bool}{c:Ctx}:∀ {R:St}{s:Nat},St.has s (zY8 c U t i x V m s0 S R)=true →
  (zY8 c U t i x V m s0 S R).get s=(bif Nat.beq s s0||c.wr.any (Nat.beq s) then (S.get s).fill U t i x V m else (S.get s).gone U)∨∃ e∈zY8 c U t i x V m s0 S R,e.1=zA7:=by
 intro R
 induction R<;>grind [zY8,St.has,St.get,Nat.beq,List.mem_cons_self,Nat.eq_of_beq_eq_true]
theorem xJ5 {U:Nat}{t:Ty}{i V s0:Nat}{x:List t.den}{m:Bool}{c:Ctx}{s:Nat}(ht:(S.get s).hasTag U=true):∀ {R:St},St.has s R=true→St.has s (zY8 c U t i x V m s0 S R)=true:=by
 intro R
 induction R with
 |nil=>grind [St.has]
 |cons e r ih =>
  intro h;obtain⟨q,A⟩:=e;simp only[zY8];simp only[St.has,List.any_cons,Bool.or_eq_true] at h;cases ht':(S.get q).hasTag U with
  |false =>
   rcases h with h|h
   ·simp_all
   ·exact ih h
  |true =>
   simp only[cond_true,St.has,List.any_cons,Bool.or_eq_true];rcases h with h|h
   ·grind
   ·exact .inr (ih h)
theorem xA3 {U s0 s:Nat}{i:Int}:∀ {l:List Nat},l.any (Nat.beq s)=true→s≠s0→(∀ q∈zZ U i s0 S l,q)→∀ q∈zY9 U i (S.get s),q:=by
 intro l
 induction l with
 |nil=>grind
 |cons k r ih =>
  intro h hne hq;simp[zZ] at hq
  grind [Nat.eq_of_beq_eq_true,Nat.beq,absurd]
theorem xA4 (hc:CtxOk P c)(hR:Rel c.n χ0 w0 S a w G){o:Oper}{T:Nat}{x y:Operand}{A v:AVal}{p:List Prop}{u:St}{hv:Bool}(ho:o.op=.store T x y)(hd:o.dst=none)
  (hA:zA G w a.tmps none A (a.eval x)) (hV:zA G w a.tmps none v (a.eval y)) (h:zZ0 c T A (zA3 S A) v S=some (p,u,hv))
  (hlt:∀ e∈u,e.1<zA7) (hp:∀ q∈p,q)
  {next:Act→World→Prop}{Q:Exit→Act→World→Prop}(hnext:∀ v w' G',Rel c.n χ0 w0 (u++S) (a.put o.dst v) w' G'→next (a.put o.dst v) w'):o.wpIn (fz rd) 0 P a w next Q:=by
 unfold zZ0 at h;split at h
 ·rename_i s0 U t i q;split at h
  ·rename_i t' l U' j U2 hk;have hcont:=zG6 hR (A:=.eref s0 U t i q) rfl;rw[hk] at hcont;unfold yH1 at h;split at h
   ·rename_i sv xv V m;cases hb:(Ty.beq (.sl t') t&&Nat.beq U' U2&&Nat.beq U' U&&c.is T (.sl t')&&q.isEmpty&&!(Nat.beq V U)&&!t'.isL) with
    |false=>grind
    |true =>
     simp only[hb,cond_true] at h;split at h
     ·rename_i xv' hxv';simp only[Option.some.injEq,Prod.mk.injEq] at h;obtain⟨rfl,rfl,rfl⟩:=h;simp only[Bool.and_eq_true,Bool.not_eq_true'] at hb;obtain⟨⟨⟨⟨⟨⟨b1,b2⟩,b3⟩,b4⟩,b5⟩,b6⟩,b7⟩:=hb;have e:=Ty.eq_of_beq b1;subst e;have e:=Nat.eq_of_beq_eq_true b2;subst e;have e:=Nat.eq_of_beq_eq_true b3;subst e;have hq:q=[]:=List.isEmpty_iff.1 b5;subst hq;have hT:=zB4 hc.tys b4;have hne:V≠U':=fun e=>by grind
      obtain⟨e',hxv'⟩:=zC6 hxv';injection e' with e'
      subst e';subst hxv';obtain⟨hij,hil⟩:=hp _ (List.mem_cons_self ..);subst hij;obtain⟨hi0,_,hxa⟩:=hA;have hi:i.toNat<List.length (α:=List sv.den) l:=by omega
      obtain⟨⟨cur,e,g1,g2⟩,hfr,hx,hH⟩:=yN3 (u:=a.eval y) hR.frame hcont hi hne (zB1 hV b7);have hone:=yA2 hV;have hrun:=zJ0 (P:=P) (w:=w) (u:=a.eval y) (us:=[a.eval y]) (b:=G.γ U') (o:=i.toNat) (cur:=cur) (e:=e) hT (zJ8 (τ:=.sl sv) (us:=[a.eval y]) (by simp[zN5,Ty.isAgg]) (by grind)) (by simp[Ty.size]) (by grind) g1 (by grind);have hrun':(execOp a.eval o).run P w=.ok .skip (w.setCells (G.γ U') i.toNat [a.eval y]):=by
       unfold execOp;simp[ho,hxa,Ty.size,Ty.poff,hrun]
      refine zV0 hrun' (hnext undef _ G ?_);rw[hd,zJ1];have hmap:=xR0 (T:=U') (fun x h=>h) hx;have hgone:∀ s,zA G (w.setCells (G.γ U') i.toNat [a.eval y]) a.tmps (some s) ((S.get s).gone U') (a.tmps.getD s undef):=fun s=>hmap.arep (fun _ h=>h.elim) (hR.reps s);refine zD8 (dst:=none) (v:=undef) hR hc.n hlt (fun d e=>by cases e) (fun d e=>by grind) hx (fun e=>zA9 _ e) hfr (fun s' hs'=>?_) (fun s d e=>by grind) (fun s' hs'=>?_)
      ·refine xA0 (fun x h=>h) ?_
       grind [xJ5,zO6,zT2]
      ·rw[zJ1];rcases xJ4 hs' with h3|⟨e,he,h3⟩
       ·rw[h3];cases hsel:(Nat.beq s' s0||c.wr.any (Nat.beq s')) with
        |false=>grind
        |true =>
         simp only[cond_true];have hask:∀ q∈zY9 U' i (S.get s'),q:=by
          by_cases e0:s'=s0
          ·subst e0;simp only[zA3] at hk;rw[hk];have h0:=hp _ (List.mem_cons_self ..);intro q hq;simp only[zY9,Nat.beq_refl,Bool.and_self,cond_true,List.mem_singleton] at hq;rw[hq];exact⟨trivial,h0.2⟩
          ·simp only[Bool.or_eq_true] at hsel;rcases hsel with h|h
           ·grind [absurd,Nat.eq_of_beq_eq_true]
           ·exact xA3 h e0 fun q hq=>hp q (List.mem_cons_of_mem _ hq)
         have hrs:=hR.reps s';have hg:=hgone s';generalize S.get s'=A at hrs hask hg ⊢;cases A with
         |ownh t2 l2 T2 j2 U3 m2 =>
          cases m2 with
          |false=>exact hg
          |true =>
           simp only[AVal.fill];cases hbb:(Nat.beq T2 U'&&Nat.beq U3 U') with
           |false=>simp only[cond_false,zA]
           |true =>
            simp only[cond_true];simp only[zY9,hbb,cond_true,List.mem_singleton,forall_eq] at hask;simp only[Bool.and_eq_true] at hbb;have e1:=Nat.eq_of_beq_eq_true hbb.1;have e2:=Nat.eq_of_beq_eq_true hbb.2;subst e1;subst e2;split
            ·rename_i x2 hx2;obtain⟨e3,hx2⟩:=zC6 hx2;injection e3 with e3
             subst e3;subst hx2;obtain⟨q1,q2⟩:=hask;subst q1;have hl2:i.toNat<List.length (α:=List sv.den) l2:=by omega
             exact (yN3 hR.frame hrs hl2 hne (zB1 hV b7)).2.2.2
            grind [zA]
         |_=>exact hg
       ·have:=hlt e he;have:=hc.n;omega
     grind
   grind
  ·rename_i t' l U' hk;have hcont:=zG6 hR (A:=.eref s0 U t i q) rfl;rw[hk] at hcont;cases hho:wE v with
   |true =>
    simp[hho,cond_true] at h;unfold yH0 at h;split at h
    ·rename_i sv xv V m;cases hb:(Ty.beq t' t&&Ty.beq (.sl sv) t'&&Nat.beq U' U&&c.is T (.sl sv)&&q.isEmpty&&!(Nat.beq V U)&&!sv.isL) with
     |false=>grind
     |true =>
      simp[hb,cond_true,Option.some.injEq,Prod.mk.injEq] at h;obtain⟨rfl,rfl,rfl⟩:=h;simp only[Bool.and_eq_true,Bool.not_eq_true'] at hb;have e:=Ty.eq_of_beq hb.1.1.1.1.1.1;subst e;have e:=Ty.eq_of_beq hb.1.1.1.1.1.2;subst e;have e:=Nat.eq_of_beq_eq_true hb.1.1.1.1.2;subst e;have hT:=zB4 hc.tys hb.1.1.1.2;have hne:V≠U':=fun e=>by grind
      have hil:=hp _ (List.mem_singleton.2 rfl);obtain⟨hi0,_,hxv⟩:=hA;have hi:i.toNat<List.length (α:=List sv.den) l:=by omega
      obtain⟨⟨cur,e,g1,g2⟩,hfr,hx,hm⟩:=xI7 (u:=a.eval y) hR.frame hb.2 hcont hi hne hV;have hone:=yA2 hV;have hrun:=zJ0 (P:=P) (w:=w) (u:=a.eval y) (us:=[a.eval y]) (b:=G.γ U') (o:=i.toNat) (cur:=cur) (e:=e) hT (zJ8 (τ:=.sl sv) (us:=[a.eval y]) (by simp[zN5,Ty.isAgg]) (by grind)) (by simp[Ty.size]) (by grind) g1 (by grind);have hrun':(execOp a.eval o).run P w=.ok .skip (w.setCells (G.γ U') i.toNat [a.eval y]):=by
       unfold execOp;simp_all [Ty.size,Ty.poff]
      refine zV0 hrun' (hnext undef _ G ?_);rw[hd,zJ1];exact yC1 hR hc.n hx (zA9 U') hfr hm (fun T hT=>hT.elim) (fun s hs=>yC0 hs) hlt
    grind
   |false =>
   simp only[hho,cond_false] at h;cases hb:(Ty.beq t' t&&Nat.beq U' U&&c.is T (t'.pty q)&&AVal.fits (t'.pty q) v) with
   |false=>grind
   |true =>
    simp only[hb,cond_true] at h;simp only[Bool.and_eq_true] at hb;have e:=Ty.eq_of_beq hb.1.1.1;subst e;have e:=Nat.eq_of_beq_eq_true hb.1.1.2;subst e;split at h
    ·rename_i yv hy;obtain⟨rfl,rfl,rfl⟩:=h;have hT:=zB4 hc.tys hb.1.2;have hil:=hp _ (List.mem_singleton.2 rfl);simp only[zA] at hA hcont;obtain⟨hi0,hq,hxv⟩:=hA;have hi:i.toNat<l.length:=by omega
     obtain⟨us,h1,h2⟩:=zS7 hV hb.2 (zC4 hT);obtain⟨⟨cur,e,g1,g2⟩,hfr,hx,hm⟩:=xI5 hR.frame (xE5 hq hT) hcont hi hq h1 hy;have hcel:=zJ8 h2 (zU4 h1);have hrun:=zJ0 (P:=P) (w:=w) (u:=a.eval y) hT hcel (zB2 h1) (zU4 h1) g1 g2;have hrun':(execOp a.eval o).run P w=.ok .skip (w.setCells (G.γ U') (i.toNat*t'.size+t'.poff q) us):=by
      grind [execOp,Sem.run_bind,Result.andThen_ok,Sem.run_pure]
     refine zV0 hrun' (hnext undef _ G ?_);rw[hd,zJ1];refine yJ9 hR hc.n hx (zA9 U') hfr (fun s hs=>?_) (fun s hs=>yC0 hs) hlt;have hrs:=hR.reps s;generalize S.get s=A at hrs hs ⊢;cases A with
     |ownh t2 l2 T2 j V m2 =>
      simp only[AVal.setEl];cases hb2:(Nat.beq U' V&&m2&&!(Nat.beq T2 V)) with
      |false=>simp only[cond_false,zA]
      |true =>
       simp only[Bool.and_eq_true] at hb2;obtain⟨⟨hb2,rfl⟩,hb3⟩:=hb2;have e:=Nat.eq_of_beq_eq_true hb2;subst e;cases hcs:Ty.cast t2 yv with
       |none=>grind [zA]
       |some y' =>
        have hvt:yF t2:=hrs.1;have hTU:T2≠U':=fun e=>by grind
        refine xI6 hx (fun e=>hTU (zA5 e)) (fun u hu=>?_) hTU hrs;have h9:=hm.own2 t2 _ U' true u (fun h=>h) (.inl hu) a.tmps;simp only[Nat.beq_refl,cond_true,hcs,zA] at h9;exact zB1 h9 hvt.2
     |_=>exact hm.arep (fun T hT=>hT.elim) hrs
    grind
  grind
 ·rename_i s;split at h
  ·rename_i f cs hkc;cases hft:c.fts.any (Nat.beq T) with
   |false=>grind
   |true =>
    simp only[hft,cond_true] at h;split at h
    ·rename_i caps hcaps;simp only[Option.some.injEq,Prod.mk.injEq] at h;obtain⟨rfl,rfl,rfl⟩:=h;have hcont:=zG6 hR (A:=.rref s) rfl;rw[hkc] at hcont;simp only[zA] at hcont hA hV;obtain⟨_,u0,e,hb,hcol⟩:=hcont;obtain⟨vs,hv,hcs⟩:=hV;obtain⟨i,_,_,_,hi,_,hsz,_,_,_⟩:=yY5 hc.fts hft;have hone:(Value.func (.func f) #[] vs).oneCell'=true:=rfl;have hrun:(Instr.storeAt T (a.eval x) (a.eval y)).run P w=.ok () (w.setCells (G.β s) 0 [.func (.func f) #[] vs]):=by
      have:=run_storeCells_cells (P:=P) (G.β s) 0 [.func (.func f) #[] vs] 0 w (fun j hj=>by
       grind [World.cell?]) (fun j hj=>by grind [World.frozen?]) (fun u hu=>by grind)
      simp_all [Instr.storeAt,Instr.sureAddr,storeVar,sizeOf,typeInfo,Value.cells]
     have hrun':(execOp a.eval o).run P w=.ok .skip (w.setCells (G.β s) 0 [.func (.func f) #[] vs]):=by
      grind [execOp,Sem.run_bind,Result.andThen_ok,Sem.run_pure]
     obtain⟨cur',g1,g2⟩:=zJ (G.β s) e (0,0) [.func (.func f) #[] vs] 0 w #[u0] hb (by simp);refine zV0 hrun' (hnext undef _ (G.ice (G.β s)) ?_);rw[hd];have hnone:∀ s',St.has s' [(s,AVal.fptr f caps)]=false→s'≠s:=by intro s' hs e;simp_all [St.has]
     have hbne:∀ b o,G.χ b o=0→b≠G.β s:=fun b o h0 e=>by grind [zD6]
     have hext:Ext (fun x=>x=zE1 s) (fun _=>False) G w (G.ice (G.β s)) (w.setCells (G.β s) 0 [.func (.func f) #[] vs]):=by
      refine⟨fun b o hb' h0=>⟨by simp_all [Gh.ice],?_⟩,fun b hb' hX=>?_,by simp_all [zQ7],fun _ _=>rfl,fun _ _=>rfl,fun _ h=>h.elim⟩
      ·grind [World.cell?,zE3]
      ·have hne:b≠G.β s:=by intro e;simp_all
       exact⟨zE3 (G.β s) _ 0 w b hne,fun o=>by simp_all [Gh.ice]⟩
     have hfr:Frame0 χ0 w0 (G.ice (G.β s)).χ (w.setCells (G.β s) 0 [.func (.func f) #[] vs]):=by
      have h1:=zM6 hR.frame (b:=G.β s) (o:=0) (us:=[.func (.func f) #[] vs]) (fun o=>by grind [zO5]);refine⟨h1.os,h1.tape,h1.output,h1.size,h1.block,fun b o hb' hc'=>⟨?_,(h1.cell b o hb' hc').2⟩⟩;have h2:=(h1.cell b o hb' hc').1;have hne:b≠G.β s:=by grind [zO5]
      simp_all [Gh.ice]
     refine zD8 hR hc.n hlt (fun d e=>by cases e) (fun d e=>by grind) hext (zD6 s) hfr (fun s' hs'=>yC4 (fun e=>hnone s' hs' (by grind))) (fun _ d e=>by grind) (fun s' hs'=>?_);have:s'=s:=by simp_all [St.has]
     subst this;have hg:St.get [(s',AVal.fptr f caps)] s'=.fptr f caps:=by simp[St.get]
     rw[hg,zJ1];have hval:a.tmps.getD s' undef=.pointer (some ⟨G.β s',0,none⟩):=by
      grind
     rw[hval];refine⟨G.β s',rfl,by simp[Gh.ice],?_⟩;have hvs:=xJ3 (v:=.pointer (some ⟨G.β s',0,none⟩)) hcaps hcs rfl;simp only[World.cell?];have h2:cur'=#[.func (.func f) #[] vs]:=by
      apply Array.toList_inj.1;rw[g2];apply List.ext_getElem?
      grind [spl_getElem?]
     have h3:vs=(caps.map (xE3 (G.ice (G.β s')) (.pointer (some ⟨G.β s',0,none⟩)))).toArray:=by
      apply Array.toList_inj.1;rw[hvs];refine List.map_congr_left fun q _=>?_;cases q<;>rfl
     grind
    grind
  grind
 ·split at h
  ·rename_i uu hst;obtain⟨rfl,rfl,rfl⟩:=h;obtain⟨s,C⟩:=uu;have hkk:∀ s',zD2 A=some s'→zA G w a.tmps (some s') (zA3 S A) (match zD2 A with|some s=>a.tmps.getD s undef|none=>undef):=by
    grind [zG6]
   obtain⟨us,off,hrun,hcol,hrs,hC⟩:=yU5 hc.tys hA hkk hV hst;have hrun':(execOp a.eval o).run P w=.ok .skip (w.setCells (G.β s) off us):=by
    grind [execOp,Sem.run_bind,Result.andThen_ok,Sem.run_pure]
   refine zV0 hrun' (hnext undef _ G ?_);rw[hd];rw[hrs] at hC;have hone:∀ s',St.has s' [(s,C)]=true→s'=s:=by simp_all [St.has]
   have hnone:∀ s',St.has s' [(s,C)]=false→s'≠s:=by intro s' hs e;subst e;simp[St.has] at hs
   refine zD8 hR hc.n hlt (fun d e=>by cases e) (fun d e=>by grind) (zS8 (X:=fun x=>x=zE1 s) (fun o=>hcol o) (zD6 s)) (zD6 s) (zM6 hR.frame (fun o=>by grind [zO5]))
    (fun s' hs'=>yC4 (fun e=>hnone s' hs' (by grind))) (fun _ d e=>by grind) (fun s' hs'=>?_)
   have:=hone s' hs';subst this;have hg:St.get [(s',C)] s'=C:=by simp[St.get]
   rw[hg];exact hC
  grind
theorem yR (hc:CtxOk P c)(hR:Rel c.n χ0 w0 S a w G){o:Oper}{T:Nat}{x y z:Operand}{A B C:AVal}{p:List Prop}{u:St}{hv:Bool}(ho:o.op=.mapUpdate T x y z)(hd:o.dst=none)
  (hA:zA G w a.tmps none A (a.eval x)) (hB:zA G w a.tmps none B (a.eval y)) (hC:zA G w a.tmps none C (a.eval z)) (h:yP1 c T A B C S=some (p,u,hv))
  (hlt:∀ e∈u,e.1<zA7){next:Act→World→Prop}{Q:Exit→Act→World→Prop}(hnext:∀ v w' G',Rel c.n χ0 w0 (u++S) (a.put o.dst v) w' G'→next (a.put o.dst v) w'):o.wpIn (fz rd) 0 P a w next Q:=by
 unfold yP1 at h;split at h
 ·rename_i k e hT;have hmt:=yQ1 hc.maps hT;split at h
  ·rename_i t l U m;split at h
   ·rename_i l' xv yv hl hx hy;obtain⟨rfl,rfl,rfl⟩:=h;obtain⟨ec,hl⟩:=zC6 hl;injection ec with ec
    subst ec;obtain⟨⟨ka,kb,_,hka,hkb⟩,_,_⟩:=hmt;have hkv:=zJ6 hx (zC4 hka) hB;have hev:=zJ6 hy (zC4 hkb) hC;obtain⟨w',hrun,hfr,hext,hm⟩:=xQ4 hR.frame (yQ1 hc.maps hT) (yQ2 hA) hkv hev;have hrun':(execOp a.eval o).run P w=.ok .skip w':=by
     grind [execOp,Sem.run_bind,Result.andThen_ok,Sem.run_pure]
    refine zV0 hrun' (hnext undef _ G ?_);rw[hd,zJ1];exact yC1 hR hc.n hext (zA9 U) hfr hm (fun T hT=>hT.elim) (fun s hs=>yC0 hs) hlt
   grind
  grind
 grind
theorem yC5 (hc:CtxOk P c)(hR:Rel c.n χ0 w0 S a w G){o:Oper}{T d:Nat}{args:Array Operand}{ats:Array TypeId}{A B:AVal}{va vb:Value}{p:List Prop}{u:St}{hv:Bool}
  (ho:o.op=.call { callee:=.builtin .append,args,argTypes:=ats }) (hats:ats.toList=[T,T]) (hd:o.dst=some d) (hargs:args.toList.map a.eval=[va,vb])
  (hA:zA G w a.tmps none A va) (hB:zA G w a.tmps none B vb) (h:zP c d T A B S=some (p,u,hv))
  (hlt:∀ e∈u,e.1<zA7) (hd0:d<c.n) (hh:∀ s,∀ e∈u,(S.get s).hung e.1=false) (hp:∀ q∈p,q)
  {next:Act→World→Prop}{Q:Exit→Act→World→Prop}(hnext:∀ v w' G',Rel c.n χ0 w0 (u++S) (a.put o.dst v) w' G'→next (a.put o.dst v) w'):o.wpIn (fz rd) 0 P a w next Q:=by
 have hats':ats=#[T,T]:=by grind
 have hargs':args.map a.eval=#[va,vb]:=by grind
 have hexec:∀ {v':Value}{w':World},(Builtin.append_ #[T,T] o.type #[va,vb]).run P w=.ok v' w'→(execOp a.eval o).run P w=.ok (.value v') w':=by
  unfold execOp
  grind [resolve,Sem.run_bind,Sem.run_pure,Result.andThen_ok,invoke,builtin]
 unfold zP at h;cases hnt:zC0 d S with
 |false=>grind
 |true =>
  simp[hnt,cond_true] at h;split at h
  ·rename_i p0 R U hap;obtain⟨rfl,rfl,rfl⟩:=h;unfold xN8 at hap;split at hap
   ·rename_i s T' V m;split at hap
    ·rename_i t' l U';cases hb:(c.is T (.sl (.sl s))&&!(Nat.beq V U')&&!(Nat.beq T' V)&&!(Nat.beq V d)) with
     |false=>simp_all
     |true =>
      simp only[hb,cond_true] at hap;simp  at hb;split at hap
      ·rename_i l1 hcast;simp only[Option.some.injEq,Prod.mk.injEq] at hap;obtain⟨rfl,rfl,rfl⟩:=hap;obtain⟨e,hcast⟩:=zC6 hcast;injection e with e
       subst e;have hcast:l=l1:=hcast;subst hcast;have hlen:=hp _ (List.mem_singleton.2 rfl);obtain⟨v',w',G',hr,hx,hfr,hown⟩:=xA (ty:=o.type) (U:=U') (d:=d) hR.frame (zB4 hc.tys hb.1.1.1) hA hB (fun e=>by subst e;simp at hb) (fun e=>by subst e;simp at hb) (fun e=>by subst e;simp at hb) (by omega);refine zJ2 (hexec hr) (hnext v' w' G' ?_);rw[hd];exact zV (d:=d) (U:=U') (v':=v') hR hc.n hnt hx hfr (fun tm=>by grind [zA]) hlt hd0 (fun s=>hh s _ (List.mem_cons_self ..))
      grind
    grind
   grind
  unfold xN7 at h;cases hTy:c.ty T with
  |sl t =>
   have hT:=zI8 hc.tys T (by rw[hTy];simp);rw[hTy] at hT;simp only[hTy] at h;cases hpos:Nat.blt 0 t.size with
   |false=>grind
   |true =>
    simp[hpos,Bool.not_true,cond_false] at h;cases hsrc:wI6 t B with
    |none=>simp[hsrc] at h
    |some l2 =>
     simp only[hsrc] at h;have hBs:=yU6 (yF9 hT) hB hsrc;cases A with
     |nil =>
      obtain⟨rfl,rfl,rfl⟩:=h;have hb:=hp _ (List.mem_singleton.2 rfl);obtain⟨v',w',G',hr,hx,hfr,hown⟩:=yD6 (ty:=o.type) (U:=d) (d:=d) (m:=true) (l:=([]:List t.den)) hR.frame hT (.inl ⟨hA,rfl⟩) hBs (by simp ;omega);refine zJ2 (hexec hr) (hnext v' w' G' ?_);rw[hd];have htd:∀ R:St,zB8 d (AVal.lose d) S R=[]:=by
       intro R
       induction R with
       |nil=>rfl
       |cons e r ih=>obtain⟨s,A⟩:=e;simp[zB8,zF7 hnt s,ih]
      have:=zV (d:=d) (U:=d) (R:=.own t l2 d true) (v':=v') hR hc.n hnt hx hfr (fun tm=>by exact hown) (by grind) hd0 (fun s=>hh s _ (List.mem_singleton.2 rfl));rw[htd] at this;exact this
     |own t' l U m =>
      cases hcast:Ty.cast (a:=.sl t') (.sl t) l with
      |none=>grind
      |some l1 =>
       simp[hcast] at h;obtain⟨rfl,rfl,rfl⟩:=h;obtain⟨e,rfl⟩:=zC6 hcast;injection e with e
       subst e;have hb:((l.length+l2.length:Nat):Int)≤4294967296:=hp _ (List.mem_singleton.2 rfl);obtain⟨v',w',G',hr,hx,hfr,hown⟩:=yD6 (ty:=o.type) (U:=U) (d:=d) (m:=m) (l:=l) hR.frame hT (.inr hA) hBs (by omega);refine zJ2 (hexec hr) (hnext v' w' G' ?_);rw[hd];exact zV (d:=d) (U:=U) (v':=v') hR hc.n hnt hx hfr (fun tm=>by exact hown) hlt hd0 (fun s=>hh s _ (List.mem_cons_self ..))
     |_=>simp at h
  |_=>simp[hTy] at h
theorem yK0:∀ {cs:AVal}{vs:List Value},zI4 cs=true→zA G w tm none cs (.tuple vs.toArray)→zH1 (zA G w tm none) cs.toL vs:=by
 intro cs
 induction cs with
 |nl=>intro vs _ h;simp[zA] at h;have:vs=[]:=(by grind);subst this;trivial
 |cons x y _ ihy =>
  intro vs hp h;obtain⟨u,us,e,h1,h2⟩:=h;have e:vs=u::us:=by grind
  subst e;exact⟨h1,ihy hp h2⟩
 |_=>grind [zI4]
theorem zN {α β:Type}{R:α→β→Prop}:∀ {xs:List α}{ys:List β}{xs':List α}{ys':List β},zH1 R xs ys→zH1 R xs' ys'→zH1 R (xs++xs') (ys++ys'):=by
 intro xs
 induction xs with
 |nil=>grind [zH1]
 |cons x xs ih=>intro ys xs' ys' h h';cases ys<;>simp only[zH1] at h;exact⟨h.1,ih h.2 h'⟩
theorem yN7 {G G':Gh}{w w':World}{tm tm':Array Value}{s s':Option Nat}{A:AVal}{v:Value}(h:zK1 A=true)(hp:∀ b o,b<w.heap.size→G.χ b o=0→G'.χ b o=0∧w'.cell? ⟨b,o,none⟩=w.cell? ⟨b,o,none⟩)
  (hA:zA G w tm s A v):zA G' w' tm' s' A v:=by
 cases A<;>simp[zK1] at h
 ·simp only[zA] at hA ⊢;exact zC3 hp hA
 ·simpa only[zA] using hA
theorem xJ6 (hc:CtxOk P c)(hR:Rel c.n χ0 w0 S a w G){gd:Gd}(hi:xF3 a.tmps gd)(hon:yQ4 a.tmps gd){o:Oper}{fo:Operand}{args:Array Operand}{ats:Array TypeId}{f:Nat}{cs:AVal}{r:List AVal}{p:List Prop}{u:St}{hv:Bool}
  (ho:o.op=.call { callee:=.value fo,args,argTypes:=ats }) (hf:zA G w a.tmps none (.fn f cs) (a.eval fo)) (hr:zH1 (zA G w a.tmps none) r (args.toList.map a.eval)) (hcs:zI4 cs=true)
  (h:zI5 c gd o.dst f (r++cs.toL) ((r++cs.toL).map (zA3 S)) S=some (p,u,hv))
  (hlt:∀ e∈u,e.1<zA7) (hdo:∀ d,o.dst=some d→d<c.n) (hh:∀ s,∀ e∈u,(S.get s).hung e.1=false) (huu:∀ e∈u,∀ e'∈u,e.2.hung e'.1=false) (hp:∀ q∈p,q)
  {next:Act→World→Prop}{Q:Exit→Act→World→Prop}(hnext:∀ v w' G',Rel c.n χ0 w0 (u++S) (a.put o.dst v) w' G'→next (a.put o.dst v) w'):o.wpIn (fz rd) 0 P a w next Q:=by
 simp only[zA] at hf;obtain⟨vs,hfv,hcv⟩:=hf;have hcl:=yK0 (vs:=vs.toList) hcs (by simpa using hcv);have hys:=zN hr hcl;unfold zI5 at h;split at h
 ·grind
 ·rename_i co hco;obtain⟨sp,hmem,hsp⟩:=zR hco;have hok:=hc.fns f sp hmem;obtain⟨fn,h1,h2,h3⟩:=hok.1;have hrun:(execOp a.eval o).run P w=.ok (.enter f (args.toList.map a.eval++vs.toList).toArray) w:=by
   have harr:(args.toList.map a.eval++vs.toList).toArray=args.map a.eval++vs:=by grind
   unfold execOp;simp[ho,resolve,hfv,Deferred.ofValue,invoke,callFunc,h1]
   grind
  cases hb:(yD3 co.outs 0 (List.zipWith zD1 (r++cs.toL) ((r++cs.toL).map (zA3 S)))&&zG1 co.res&&zL4 (r++cs.toL)&&zG2 (r++cs.toL) (List.zipWith zD1 (r++cs.toL) ((r++cs.toL).map (zA3 S)))) with
  |false=>simp only[hb,Bool.not_false,cond_true,reduceCtorEq] at h
  |true =>
   simp only[hb,Bool.not_true,cond_false] at h;simp only[Bool.and_eq_true] at hb;obtain⟨⟨⟨b1,b2⟩,b3⟩,b4⟩:=hb;split at h
   ·rename_i uu hout heat;cases gd with
    |none =>
     have hback:=fun hokp=>yV hR hok hys hsp hokp b1 b3 b4 hout;cases hd:o.dst with
     |none =>
      simp[hd] at h;obtain⟨rfl,rfl,rfl⟩:=h;refine zV1 hrun ((hback hp).mono ?_);rintro e w' ⟨v,G',rfl,hB,hres,hg,hu⟩;refine⟨v,rfl,hnext v w' (G.back G' w.heap.size none) ?_⟩;rw[hd];exact yQ7 (dst:=none) (res:=co.res) hR hc.n hB hres b2 hg hu hlt (fun d e=>by cases e) (fun s d e=>(by grind)) (fun d e=>(by grind))
     |some d =>
      simp only[hd] at h;cases hnt:(zC0 d S&&zC0 (100000+d) S&&zC0 (200000+d) S&&zC0 (300000+d) S) with
      |false=>grind
      |true =>
       simp[hnt] at h;obtain⟨rfl,rfl,rfl⟩:=h;refine zV1 hrun ((hback hp).mono ?_);rintro e w' ⟨v,G',rfl,hB,hres,hg,hu⟩;refine⟨v,rfl,hnext v w' (G.back G' w.heap.size (some d)) ?_⟩;rw[hd];refine yQ7 (dst:=some d) (res:=co.res) hR hc.n hB hres b2 hg hu hlt (fun d' e=>by injection e with e;subst e;exact hdo _ hd) (fun s d' e=>by grind [List.mem_cons_self]) (fun d' e s j hj=>?_)
       injection e with e;subst e
       obtain rfl|rfl|rfl|rfl:j=0∨j=1∨j=2∨j=3:=by omega
       all_goals grind [zF7]
    |some q =>
     simp only at h;split at h
     ·rename_i d hd;cases hpr:zK1 co.res with
      |false=>simp[hpr] at h
      |true =>
      simp only[hpr,cond_true,Option.some.injEq,Prod.mk.injEq] at h;obtain⟨rfl,rfl,rfl⟩:=h;have hp0:=zM9 hi hon hp;refine zV1 hrun ((yV hR hok hys hsp hp0 b1 b3 b4 hout).mono ?_);rintro e w' ⟨v,G',rfl,hB,hres,hg,hu⟩;refine⟨v,rfl,hnext v w' (G.back G' w.heap.size none) ?_⟩;have hdst:o.dst=some d:=by grind
      rw[hdst];have hx:=xF2 none hB hg;have hdn:d<a.tmps.size:=by rw[hR.len];exact hdo _ hdst
      refine zD8 hR hc.n hlt (fun d' e=>by injection e with e;subst e;exact hdo _ hdst) (fun d' e=>by injection e with e;subst e;simp[St.has]) hx (fun hX=>hX.elim (fun ⟨s,e,_⟩=>zD6 s e) (fun ⟨d,j,_,_,e⟩=>zA9 _ e)) (yN2 hR.frame none hB hg)
       (fun s _=>yN1 (fun d' e=>by grind) (fun s' _=>by simp[St.has])) (fun s d' e _=>by injection e with e;subst e;exact hh s _ (List.mem_singleton.2 rfl)) (fun s hs=>?_)
      have hsd:s=d:=by simp[St.has] at hs;grind
      subst hsd;have hg1:St.get [(s,zF8 (some q) co.res)] s=zF8 (some q) co.res:=by simp[St.get]
      rw[hg1,zD7 hdn,if_pos rfl];refine zO3 (tm:=a.tmps) (fun k hk=>?_) (zK7 (zM8 hi hon ?_))
      ·rw[zD7 hdn,if_neg];intro e;subst e;have:=huu _ (List.mem_singleton.2 rfl) _ (List.mem_singleton.2 rfl)
       grind
      ·exact yN7 hpr (hB.prot none) hres
     grind
   grind
end Go.Am
namespace Go.Am
open Go Go.RowKit
variable {rd:Option Nat}{gtab:GlobTab}{P:Program}{c:Ctx}{G:Gh}{w:World}{tm:Array Value}{n:Nat}{χ0:Nat→Nat→Nat}{w0:World}{S:St}{a:Act}
theorem zR5:∀ (A:AVal) (s:Option Nat),¬ A.names (fun _=>False) (fun _=>False) s:=by
 intro A
 induction A with
 |opt _ _ _ A ih=>grind [AVal.names]
 |box τ a ih=>intro s;cases s<;>simp[AVal.names]<;>exact ih none
 |may m τ a ih=>intro s;cases s<;>simp[AVal.names]<;>exact ih none
 |cons a b iha ihb=>grind [AVal.names]
 |agg f a ih=>grind [AVal.names]
 |tup a ih=>grind [AVal.names]
 |fn f a ih=>grind [AVal.names]
 |raw=>intro s;cases s<;>simp[AVal.names]
 |_=>grind [AVal.names]
theorem xF4 (hR:Rel n χ0 w0 S a w G)(hn:n≤vNo){U:Nat}(hlt:∀ e∈zB8 U (AVal.lose U) S S,e.1<zA7):Rel n χ0 w0 (zB8 U (AVal.lose U) S S++S) a w G:=by
 refine yC1 (U:=U) (X:=fun _=>False) (Y:=fun _=>False) (Bad:=fun _=>False) hR hn (Ext.refl _ G w) id hR.frame ?_ (fun T h=>h.elim) (fun s _=>zR5 _ _) hlt;refine⟨fun b o _ h=>⟨h,rfl⟩,fun s=>rfl,fun s hcol hlt=>⟨rfl,hcol⟩,fun t l T m v hB ho hf=>?_,fun t l T m v hB ho tm=>?_,fun s T t i p v hB tm ha=>?_⟩
 ·cases hb:Nat.beq U T with
  |true =>
   simp  at hf ⊢;cases m with
   |true=>grind [AVal.fitsT]
   |false=>simp only[cond_false,zA8];exact⟨trivial,rfl,zD3 ho⟩
  |false=>grind [zA8]
 all_goals grind [Nat.beq,zA,zO4,zD3]
theorem zX6 {HB HT KT KB:List (Nat×Nat)}:∀ {A:AVal}{os:Option Nat},(∀ T,(T∈HT.map (·.1)∨T∈KT.map (·.2))→A.hasTag T=false)→(∀ V,V∈KB.map (·.2)→A.hasRef V=false)→(∀ s,os=some s→s∉HB.map (·.1)∧s∉KB.map (·.2)) →
  ¬ A.names (fun x=>(∃ y,(x,y)∈zS2 HB HT)∨(∃ U,U∈KT.map (·.2)∧x=zB0 U)∨∃ V,V∈KB.map (·.2)∧x=zE1 V) (fun x=>(∃ U,U∈KT.map (·.2)∧x=zB0 U)∨∃ V,V∈KB.map (·.2)∧x=zE1 V) os:=by
 have karr:∀ K,(∀ T',(T'∈HT.map (·.1)∨T'∈KT.map (·.2))→Nat.beq T' K=false)→¬ ((∃ y,(zB0 K,y)∈zS2 HB HT)∨(∃ U,U∈KT.map (·.2)∧zB0 K=zB0 U)∨∃ V,V∈KB.map (·.2)∧zB0 K=zE1 V):=by
  intro K hK;rintro (⟨y,hy⟩ | ⟨U,hU,e⟩ | ⟨V,_,e⟩)
  ·obtain⟨U,_,hm⟩:=cols_arr.1 hy;have:=hK K (.inl (List.mem_map.2 ⟨_,hm,rfl⟩));simp_all
  ·have:=zA5 e;subst this;have:=hK K (.inr hU);simp_all
  ·exact zA4 _ _ e.symm
 have kbox:∀ s,(s∉HB.map (·.1)∧s∉KB.map (·.2))→¬ ((∃ y,(zE1 s,y)∈zS2 HB HT)∨(∃ U,U∈KT.map (·.2)∧zE1 s=zB0 U)∨∃ V,V∈KB.map (·.2)∧zE1 s=zE1 V):=by
  intro s hs;rintro (⟨y,hy⟩ | ⟨U,_,e⟩ | ⟨V,hV,e⟩)
  ·obtain⟨i,_,hm⟩:=cols_box.1 hy;exact hs.1 (List.mem_map.2 ⟨_,hm,rfl⟩)
  ·exact zA4 _ _ e
  ·have:=zD5 e;subst this;exact hs.2 hV
 have yref:∀ s,(∀ V,V∈KB.map (·.2)→Nat.beq V s=false)→¬ ((∃ U,U∈KT.map (·.2)∧zE1 s=zB0 U)∨∃ V,V∈KB.map (·.2)∧zE1 s=zE1 V):=by
  intro s hs;rintro (⟨U,_,e⟩ | ⟨V,hV,e⟩)
  ·exact zA4 _ _ e
  ·have:=zD5 e;subst this;have:=hs s hV;simp at this
 intro A
 induction A with
 |own t l T m=>intro os ht _ _;exact karr T ht
 |eref s T t i p=>intro os ht _ _ h;exact karr T ht (.inr h)
 |ref s τ p=>intro os _ hr _;exact yref s hr
 |pn b s τ=>intro os _ hr _;exact yref s hr
 |rref s=>intro os _ hr _;exact yref s hr
 |opt _ _ _ A ih=>intro os ht hr _;exact ih ht hr (fun s e=>by cases e)
 |box τ b ih =>
  intro os ht hr hs;cases os with
  |none=>exact ih ht hr (fun s e=>by cases e)
  |some s =>
   simp only[AVal.names,not_or];exact⟨by simpa only[not_or] using kbox s (hs s rfl),ih ht hr (fun s e=>by cases e)⟩
 |may m τ b ih =>
  intro os ht hr hs;cases os with
  |none=>exact ih ht hr (fun s e=>by cases e)
  |some s =>
   simp only[AVal.names,not_or];exact⟨by simpa only[not_or] using kbox s (hs s rfl),ih ht hr (fun s e=>by cases e)⟩
 |cons x y ihx ihy =>
  intro os ht hr _;simp only[AVal.hasTag,AVal.hasRef,Bool.or_eq_false_iff] at ht hr;simp only[AVal.names,not_or];exact⟨by simpa only[not_or] using ihx (fun T h=>(ht T h).1) (fun V h=>(hr V h).1) (fun s e=>by cases e),by simpa only[not_or] using ihy (fun T h=>(ht T h).2) (fun V h=>(hr V h).2) (fun s e=>by cases e)⟩
 |agg f b ih=>intro os ht hr _;exact ih ht hr (fun s e=>by cases e)
 |tup b ih=>intro os ht hr _;exact ih ht hr (fun s e=>by cases e)
 |fn f b ih=>intro os ht hr _;exact ih ht hr (fun s e=>by cases e)
 |raw =>
  intro os _ _ hs;cases os with
  |none=>exact fun h=>h
  |some s=>exact kbox s (hs s rfl)
 |ownh t l T i V m =>
  intro os ht _ _;have ht':=fun T' hT'=>ht T' hT';simp only[AVal.hasTag,Bool.or_eq_false_iff] at ht';rintro (h|h)
  ·exact karr T (fun T' hT'=>(ht' T' hT').1) h
  ·exact karr V (fun T' hT'=>(ht' T' hT').2) h
 |ptrs one l =>
  intro os _ hr _;rintro⟨k,τ,p,hm,h⟩;refine yref k (fun V hV=>?_) h;have h1:=hr V hV;simp only[AVal.hasRef,List.any_eq_false] at h1;have:=h1 _ hm;simp only[xW8] at this;exact Bool.eq_false_iff.2 this
 |fptr f caps =>
  intro os _ hr _;rintro⟨k,τ,hm,h⟩;refine yref k (fun V hV=>?_) h;have h1:=hr V hV;simp only[AVal.hasRef,List.any_eq_false] at h1;have:=h1 _ hm;simp only[xW7] at this;exact Bool.eq_false_iff.2 this
 |_=>intro os _ _ _;exact fun h=>h
theorem xZ0 {hb:List (Nat×Nat)}{wants:List Nat}:∀ {ys ks:List AVal}{i j:Nat}{Y k:AVal},ys[j]?=some Y→ks[j]?=some k→(yB5 hb wants i ys ks)[j]?=some (zK6 hb wants (i+j) Y k):=by
 intro ys
 induction ys with
 |nil=>grind
 |cons y r ih =>
  intro ks i j Y k hY hk;cases ks with
  |nil=>grind
  |cons q s =>
   simp only[yB5];cases j<;>grind
theorem yE {hb:List (Nat×Nat)}{wants:List Nat}:∀ {ys ks:List AVal}{i:Nat},ys.length=ks.length→(yB5 hb wants i ys ks).length=ys.length:=by
 intro ys
 induction ys with
 |nil=>grind [yB5]
 |cons y r ih=>intro ks i h;cases ks<;>grind [yB5,List.length_cons]
theorem xJ7 {wants:List Nat}{p:Nat×Nat}:∀ {ys ks:List AVal}{i j:Nat}{Y k:AVal},ys[j]?=some Y→ks[j]?=some k→p∈yS3 wants (i+j) Y k→p∈zZ1 wants i ys ks:=by
 intro ys
 induction ys with
 |nil=>grind
 |cons y r ih =>
  intro ks i j Y k hY hk hp;cases ks with
  |nil=>grind
  |cons q s =>
   simp[zZ1];cases j with
   |zero=>grind
   |succ j=>exact .inr (ih (i:=i+1) hY hk (by grind))
theorem yN8 {p:Nat×Nat}:∀ {ys:List AVal}{i j:Nat}{Y:AVal},ys[j]?=some Y→p∈yS (i+j) Y→p∈zL0 i ys:=by
 intro ys
 induction ys with
 |nil=>grind
 |cons y r ih =>
  intro i j Y hY hp;simp[zL0];cases j with
  |zero=>grind
  |succ j=>exact .inr (ih (i:=i+1) hY (by grind))
theorem yK1 {s k:Nat}:∀ {ys:List AVal}{i:Nat},(s,k)∈zL0 i ys→i≤k∧∃ τ,ys[k-i]?=some (.ref s τ []):=by
 intro ys
 induction ys with
 |nil=>grind [zL0]
 |cons y r ih =>
  intro i h;simp[zL0] at h;rcases h with h|h
  ·cases y with
   |ref s' τ p =>
    cases p<;>simp_all [yS]
   |_=>grind [yS]
  grind
theorem xJ8 {ys:List AVal}:yD9 (zG8 (zL0 0 ys)):=by
 intro a b b' h1 h2;obtain⟨_,τ,e1⟩:=yK1 (mem_swap.1 h1);obtain⟨_,τ',e2⟩:=yK1 (mem_swap.1 h2)
 grind
theorem xR1 {ys:List AVal}:∀ {outs:List (Nat×AVal)}{u:St}{bs:List Bor}{K:List (Nat×Nat)},xN9 ys outs=some (u,bs,K) →
  (∀ i k,(i,k)∈outs→∃ Y u' bs' K',ys[i]?=some Y∧wC7 Y i k=some (u',bs',K')∧∀ e∈u',e∈u) ∧
  (∀ e∈u,∃ i k Y u' bs' K',(i,k)∈outs∧ys[i]?=some Y∧wC7 Y i k=some (u',bs',K')∧e∈u'∧∀ p∈K',p∈K) ∧
  (∀ b∈bs,∃ i k Y u' bs' K',(i,k)∈outs∧ys[i]?=some Y∧wC7 Y i k=some (u',bs',K')∧b∈bs'∧∀ p∈K',p∈K):=by
 intro outs
 induction outs with
 |nil=>grind [xN9]
 |cons q r ih =>
  intro u bs K h;obtain⟨i,k⟩:=q;simp only[xN9] at h;split at h
  ·rename_i Y u2 bs2 K2 hY hr;split at h
   ·rename_i u' bs' K' ho;obtain⟨rfl,rfl,rfl⟩:=h;obtain⟨g1,g2,g3⟩:=ih hr;refine⟨?_,?_,?_⟩
    ·grind
    ·intro e he;rcases List.mem_append.1 he with he|he
     ·exact⟨i,k,Y,u',bs',K',by simp,hY,ho,he,fun p hp=>List.mem_append_left _ hp⟩
     ·obtain⟨i',k',Y',u3,bs3,K3,q1,q2,q3,q4,q5⟩:=g2 e he;exact⟨i',k',Y',u3,bs3,K3,by simp[q1],q2,q3,q4,fun p hp=>List.mem_append_right _ (q5 p hp)⟩
    grind
   grind
  grind
theorem xF5:∀ {A:AVal}{τ:Ty}{vs:List Value},zA8 G w τ A vs→vs.length=τ.size:=by
 intro A
 induction A with
 |val τ' x=>intro τ vs h;obtain⟨rfl,_,h⟩:=h;exact zA1 h
 |nil=>intro τ vs h;obtain⟨h1,rfl⟩:=h;cases τ<;>simp[Ty.isSl] at h1;simp[Ty.size]
 |own t l T m=>intro τ vs h;obtain⟨rfl,v,rfl,_⟩:=h;simp[Ty.size]
 |agg f b ih=>grind [zA8,Ty.size]
 |nl=>grind [zA8,Ty.size]
 |junk=>grind [zB2]
 |cons x y ihx ihy=>grind [zA8,Ty.size]
 |_=>grind [zA8]
def xR2 (G:Gh)(w:World)(G':Gh)(w':World)(b:Bor):Prop:=0<b.t.size∧∃ u m,zF9 G w b.t b.l b.U m u∧zF9 G' w' b.t b.l' b.T b.m u
theorem xF6 {t:Ty}{l:List t.den}{U:Nat}{m:Bool}{k:AVal}{bs:List Bor}{u:Value}{G':Gh}{w':World}(h:zI0 (.own t l U m) k=some bs)(h1:zF9 G w t l U m u)
  (h2:∀ t' l' T m',k=.own t' l' T m'→zF9 G' w' t' l' T m' u):∀ b∈bs,xR2 G w G' w' b:=by
 simp only[zI0] at h;split at h
 ·split at h
  ·rename_i l2 hl;cases hz:Nat.blt 0 t.size with
   |false=>grind
   |true =>
    simp[hz] at h;subst h;intro b hb;simp  at hb;subst hb;obtain⟨e,hl⟩:=zC6 hl;injection e with e
    subst e;subst hl;exact⟨Nat.le_of_ble_eq_true hz,u,m,h1,h2 _ _ _ _ rfl⟩
  grind
 grind
theorem xR3 {G':Gh}{w':World}:∀ {A k:AVal}{τ:Ty}{vs:List Value}{bs:List Bor},zI0 A k=some bs→zA8 G w τ A vs→zA8 G' w' τ k vs→∀ b∈bs,xR2 G w G' w' b:=by
 intro A
 induction A with
 |own t l U m =>
  grind [xF6,zA8]
 |agg f d ih =>
  intro k τ vs bs h h1 h2;simp only[zI0] at h
  grind [Ty.beq,zA8]
 |cons x y ihx ihy =>
  intro k τ vs bs h h1 h2;simp only[zI0] at h;split at h
  ·split at h
   ·obtain⟨h0,t0,us,ws,rfl,rfl,g1,g2⟩:=h1;obtain⟨h0',t0',us',ws',e,e2,g1',g2'⟩:=h2;injection e with e3 e4
    subst e3;subst e4;obtain⟨rfl,rfl⟩:=List.append_inj e2 (by rw[xF5 g1,xF5 g1'])
    grind
   grind
  grind
 |val _ _=>grind [zI0,Option.some.injEq]
 |nil=>grind [zI0,Option.some.injEq]
 |nl=>grind [zI0,Option.some.injEq]
 |_=>grind [zI0]
theorem yK2 {G':Gh}{w':World}{tm':Array Value}{A k:AVal}{v:Value}{bs:List Bor}(h:zI0 A k=some bs)(h1:zA G w tm none A v)(h2:zA G' w' tm' none k v):∀ b∈bs,xR2 G w G' w' b:=by
 cases A with
 |own t l U m=>grind [zA,xF6]
 |agg f d =>
  simp only[zI0] at h
  grind [Ty.beq,Ty.eq_of_beq,zA,Value.agg.injEq,xR3]
 |cons x y =>
  simp only[zI0] at h;split at h
  ·obtain⟨u,us,e1,g1,g2⟩:=h1;obtain⟨u',us',e2,g1',g2'⟩:=h2;rw[e1] at e2;obtain⟨rfl,rfl⟩:=e2;split at h
   ·rename_i bx by' hx hy;simp  at h;subst h;intro b hb;rcases List.mem_append.1 hb with hb|hb
    ·exact yK2 hx g1 g1' b hb
    ·exact yK2 hy g2 g2' b hb
   grind
  grind
 |val _ _=>grind [zI0,Option.some.injEq]
 |nil=>grind [zI0,Option.some.injEq]
 |nl=>grind [zI0,Option.some.injEq]
 |_=>grind [zI0]
 termination_by A
theorem xR4 {G':Gh}{w':World}{b:Bor}(hb:xR2 G w G' w' b)(hpos:0<b.l.length){l:List b.t.den}{m:Bool}{v:Value}(h:zF9 G w b.t l b.U m v)(hlen:l.length=b.l.length):zF9 G' w' b.t b.l' b.T b.m v:=by
 obtain⟨hz,u,m0,h1,h2⟩:=hb;by_cases ht:b.t.isL=true
 ·rcases h1 with h1|⟨_,k,e,_,_,_,_,_,e1,_⟩
  ·exact absurd ht (by rw[h1.1.2];simp)
  rcases h with h|⟨_,k,e,_,_,_,_,_,e2,_⟩
  ·exact absurd ht (by rw[h.1.2];simp)
  grind
 have ht:b.t.isL=false:=by grind
 have h1:=zB1 h1 ht;have h:=zB1 h ht;rcases h1.2 with ⟨_,e⟩ | ⟨cap,cur,e,us,q1,q2,q3,q4,q5,_⟩
 ·grind
 ·rcases h.2 with ⟨_,e⟩ | ⟨cap',cur',e',us',p1,p2,p3,p4,p5,_⟩
  ·grind
  grind [Nat.eq_of_mul_eq_mul_right]
theorem xA5 {T:Nat}{b:Bor}:∀ {bs:List Bor},yB6 bs T=some b→b∈bs∧b.U=T:=by
 intro bs
 induction bs with
 |nil=>intro h;cases h
 |cons x r ih =>
  intro h;simp only[yB6] at h;cases hb:Nat.beq x.U T<;>simp_all
structure TurnOk (bs:List Bor) (L:List Nat) (G:Gh) (w:World) (G':Gh) (w':World):Prop where
 prot:∀ b o,b<w.heap.size→G.χ b o=0→G'.χ b o=0∧w'.cell? ⟨b,o,none⟩=w.cell? ⟨b,o,none⟩
 ref:∀ s,G'.β s=G.β s
 keep:∀ t l T m v,T∉L→zF9 G w t l T m v→zF9 G' w' t l T m v
 tag:∀ T,T∉L→G'.γ T=G.γ T
 bor:∀ b∈bs,∀ (l:List b.t.den) m v,l.length=b.l.length→zF9 G w b.t l b.U m v→zF9 G' w' b.t b.l' b.U b.m v
 inL:∀ b∈bs,b.U∈L
 blk:∀ T,T∉L→(∀ o,G.χ (G.γ T) o=zB0 T)→G.γ T<w.heap.size→w'.heap[G.γ T]?=w.heap[G.γ T]?∧∀ o,G'.χ (G.γ T) o=zB0 T
theorem xA6 {L:List Nat}{T:Nat}(h:L.any (Nat.beq T)=false):T∉L:=fun hm=>by grind [any_beq]
theorem xF7 {bs:List Bor}{L:List Nat}{G':Gh}{w':World}(H:TurnOk bs L G w G' w'){t:Ty}{l:List t.den}{T:Nat}{m:Bool}{v:Value}(ha:∀ q∈(AVal.own t l T m).borAsks bs,q)(h:zF9 G w t l T m v){os:Option Nat} :
  zA G' w' tm os ((AVal.own t l T m).turn bs L) v∧(((AVal.own t l T m).turn bs L).fitsT (.sl t)=true→zA8 G' w' (.sl t) ((AVal.own t l T m).turn bs L) [v]):=by
 simp[AVal.turn,AVal.mapOwn];cases hb:yB6 bs T with
 |some b =>
  obtain⟨h1,h2⟩:=xA5 hb;subst h2;simp only[AVal.borAsks,hb,List.mem_singleton,forall_eq] at ha;simp only;split
  ·rename_i l2 hl;obtain⟨e,hl⟩:=zC6 hl;injection e with e
   subst e;have:=H.bor b h1 l m v ha h
   grind [zA,zA8]
  grind [zA,AVal.fitsT]
 |none =>
  cases hL:L.any (Nat.beq T) with
  |true =>
   simp;cases m with
   |true=>grind [zA,AVal.fitsT]
   |false =>
    have hc:=zA2 H.prot (zD3 h);exact⟨by exact zO4 hc,fun _=>by simp only[cond_false,zA8];exact⟨trivial,rfl,hc⟩⟩
  |false =>
   have:=H.keep t l T m v (xA6 hL) h
   grind [zA,zA8]
theorem yV6 {bs:List Bor}{L:List Nat}{G':Gh}{w':World}(H:TurnOk bs L G w G' w'):∀ {A:AVal}{τ:Ty}{vs:List Value},(∀ q∈A.borAsks bs,q)→zA8 G w τ A vs→(A.turn bs L).laxT τ=true→zA8 G' w' τ (A.turn bs L) vs:=by
 intro A
 induction A with
 |val τ' x=>intro τ vs _ h _;exact⟨h.1,h.2.1,zA2 H.prot h.2.2⟩
 |nil=>simp_all [AVal.turn,AVal.mapOwn,zA8]
 |own t l T m=>intro τ vs ha h hf;obtain⟨rfl,v,rfl,ho⟩:=h;exact (xQ1 hf).elim (xF7 (tm:=#[]) (os:=none) H ha ho).2 (fun e=>by rw[e];exact⟨rfl,v,rfl,yA2 ho⟩)
 |agg f b ih =>
  intro τ vs ha h hf;obtain⟨rfl,h⟩:=h;have e:(AVal.agg f b).turn bs L=bif (b.turn bs L).laxT f then .agg f (b.turn bs L) else .junk:=rfl;rw[e] at hf ⊢;cases hc:(b.turn bs L).laxT f with
  |false=>grind [AVal.laxT,Ty.isSl]
  |true=>simp[zA8];simp_all [AVal.borAsks]
 |nl=>simp_all [AVal.turn,AVal.mapOwn,zA8]
 |junk=>simp_all [AVal.turn,AVal.mapOwn,zA8]
 |cons x y ihx ihy =>
  intro τ vs ha h hf;obtain⟨h1,t1,us,ws,rfl,rfl,h2,h3⟩:=h;have e:(AVal.cons x y).turn bs L=.cons (x.turn bs L) (y.turn bs L):=rfl;rw[e] at hf ⊢;simp[AVal.laxT,zF1] at hf;simp[AVal.borAsks] at ha;exact⟨_,_,us,ws,rfl,rfl,ihx (fun q hq=>ha q (.inl hq)) h2 hf.1,ihy (fun q hq=>ha q (.inr hq)) h3 hf.2⟩
 |_=>grind [zA8]
theorem xR5 {bs:List Bor}{L:List Nat}{G':Gh}{w':World}(H:TurnOk bs L G w G' w'){s:Nat}{τ:Ty}{b:AVal}(ha:∀ q∈b.borAsks bs,q)
  (hbx:(∀ o,G.χ (G.β s) o=zE1 s)→G.β s<w.heap.size→w'.heap[G.β s]?=w.heap[G.β s]?∧∀ o,G'.χ (G.β s) o=zE1 s) (h:zQ1 G w s τ b) (hc:(b.turn bs L).laxT τ=true):zQ1 G' w' s τ (b.turn bs L):=by
 obtain⟨hvt,cur,e,h2,h3,h4⟩:=h;obtain⟨q1,q2⟩:=hbx h4 (zE6 h2);exact⟨hvt,cur,e,by rw[H.ref,q1];exact h2,yV6 H ha h3 hc,fun o=>by rw[H.ref];exact q2 o⟩
theorem xR6 {bs:List Bor}{L:List Nat}{G':Gh}{w':World}(H:TurnOk bs L G w G' w'):∀ {A:AVal}{os:Option Nat}{v:Value},(∀ q∈A.borAsks bs,q) →
  (∀ s,os=some s→(∀ o,G.χ (G.β s) o=zE1 s)→G.β s<w.heap.size→w'.heap[G.β s]?=w.heap[G.β s]?∧∀ o,G'.χ (G.β s) o=zE1 s)→zA G w tm os A v→zA G' w' tm os (A.turn bs L) v:=by
 intro A
 induction A with
 |junk=>simp_all [AVal.turn,AVal.mapOwn,zA]
 |val τ x=>intro os v _ _ h;exact zC3 H.prot h
 |nil=>simp_all [AVal.turn,AVal.mapOwn,zA]
 |nn b=>simp_all [AVal.turn,AVal.mapOwn,zA]
 |own t l T m=>grind [zA,xF7]
 |eref s T t i p =>
  intro os v _ _ h;have e:(AVal.eref s T t i p).turn bs L=bif L.any (Nat.beq T) then .junk else .eref s T t i p:=rfl;rw[e];cases hL:L.any (Nat.beq T) with
  |true=>simp[zA]
  |false=>simp ;simp only[zA] at h ⊢;rw[H.tag T (xA6 hL)];grind
 |opt s' want gg A ih =>
  intro os v ha _ h;exact⟨h.1,fun e=>ih ha (fun s e=>by grind) (h.2.1 e),h.2.2⟩
 |box τ b ih =>
  intro os v ha hbx h;have e:(AVal.box τ b).turn bs L=bif (b.turn bs L).laxT τ then .box τ (b.turn bs L) else .junk:=rfl;rw[e];cases os with
  |none=>grind [zA]
  |some s =>
   cases hc:(b.turn bs L).laxT τ with
   |false=>simp[zA]
   |true =>
    exact⟨by rw[H.ref];exact h.1,xR5 H ha (hbx s rfl) h.2 hc⟩
 |may m τ b ih =>
  intro os v ha hbx h;have e:(AVal.may m τ b).turn bs L=bif (b.turn bs L).laxT τ then .may m τ (b.turn bs L) else .junk:=rfl;rw[e];cases os with
  |none=>grind [zA]
  |some s =>
   cases hc:(b.turn bs L).laxT τ with
   |false=>simp[zA]
   |true =>
    simp only[cond_true,zA] at h ⊢;exact fun hm=>xR5 H ha (hbx s rfl) (h hm) hc
 |nilp=>simp_all [AVal.turn,AVal.mapOwn,zA]
 |pn m s' τ=>intro os v _ _ h;simp[AVal.turn,AVal.mapOwn,zA] at h ⊢;rw[H.ref];grind
 |ref s' τ p=>intro os v _ _ h;simp[AVal.turn,AVal.mapOwn,zA] at h ⊢;rw[H.ref];grind
 |raw =>
  intro os v _ hbx h;cases os with
  |none=>grind [zA]
  |some s =>
   obtain⟨h1,u,e,h2,h4⟩:=h;obtain⟨q1,q2⟩:=hbx s rfl h4 (zE6 h2);exact⟨by rw[H.ref];grind,u,e,by rw[H.ref,q1];grind,fun o=>by rw[H.ref];grind⟩
 |ownh t l T i U m=>simp[AVal.turn,AVal.mapOwn,zA]
 |rref s'=>intro os v _ _ h;simp[AVal.turn,AVal.mapOwn,zA] at h ⊢;rw[H.ref];grind
 |ptrs one l=>intro os v _ hr h;simp only[AVal.turn,AVal.mapOwn,zA] at h ⊢;exact zX0 H.prot (fun k _ _ _=>H.ref k) h
 |fptr f caps =>
  intro os v _ _ h;obtain⟨b,h1,h2,h3⟩:=h;have hb:b<w.heap.size:=by
   grind [World.cell?]
  obtain⟨h4,h5⟩:=H.prot b 0 hb h2;refine⟨b,h1,h4,?_⟩;rw[h5,h3];congr 3;refine List.map_congr_left fun q hq=>?_;cases q with
  |none=>rfl
  |some q=>simp only[xE3];rw[H.ref]
 |agg f b _ =>
  have e:(AVal.agg f b).turn bs L=bif (b.turn bs L).laxT f then .agg f (b.turn bs L) else .junk:=rfl
  grind [zA,yV6,AVal.borAsks]
 |nl=>intro os v _ _ h;exact h
 |cons x y ihx ihy =>
  intro os v ha _ h;have e:(AVal.cons x y).turn bs L=.cons (x.turn bs L) (y.turn bs L):=rfl;simp[AVal.borAsks] at ha
  grind [zA]
 |tup b ih =>
  have e:(AVal.tup b).turn bs L=.tup (b.turn bs L):=rfl
  grind [zA,AVal.borAsks]
 |fn f b ih =>
  have e:(AVal.fn f b).turn bs L=.fn f (b.turn bs L):=rfl
  grind [zA,AVal.borAsks]
theorem xJ9 {bs:List Bor}{L:List Nat}{G':Gh}{w':World}(H:TurnOk bs L G w G' w'){A:AVal}{os:Option Nat}{v:Value}(ha:∀ q∈A.borAsks bs,q)
  (hb:∀ s,os=some s→(∀ o,G.χ (G.β s) o=zE1 s)→G.β s<w.heap.size→w'.heap[G.β s]?=w.heap[G.β s]?∧∀ o,G'.χ (G.β s) o=zE1 s) (h:zA G w tm os A v):zA G' w' tm os (A.turnH bs L) v:=by
 cases A with
 |ownh t l T i U m =>
  simp only[AVal.turnH];cases hc:(!(Nat.beq T U)&&!(L.any (Nat.beq T))) with
  |false=>simp[zA]
  |true =>
   simp only[Bool.and_eq_true,Bool.not_eq_true'] at hc;have hTL:=xA6 hc.2;obtain⟨hv,⟨he,_⟩ | ⟨hne,h|⟨cap,cur,e,h1,h2,h3,h4,h5,h6,h7⟩⟩⟩:=h
   ·simp_all
   ·exact⟨hv,.inl ⟨rfl,.inr ⟨rfl,.inl h⟩⟩⟩
   ·obtain⟨b1,b2⟩:=H.blk T hTL h6 (zE6 h2);have hg:=H.tag T hTL;refine⟨hv,.inl ⟨rfl,.inr ⟨rfl,.inr ⟨cap,cur,e,by grind,by grind,h3,h4,h5,fun o=>by grind,fun j x hj hji=>?_⟩⟩⟩⟩;obtain⟨u,hu,hr⟩:=h7 j x hj;rw[if_neg hji] at hr;exact⟨u,hu,zA2 H.prot hr⟩
 |_=>exact xR6 H ha hb h
theorem xR7 {bs:List Bor}{L:List Nat}{A:AVal}{d:Nat}(h:A.hung d=false):(A.turn bs L).hung d=false:=by
 refine yJ8 h (fun t l T m=>?_) (fun s T t i p=>?_)
 all_goals grind [AVal.hung]
theorem xK {bs:List Bor}{L:List Nat}{A:AVal}{d:Nat}(h:A.hung d=false):(A.turnH bs L).hung d=false:=by
 cases A with
 |ownh t l T i U m=>simp only[AVal.turnH];cases (!(Nat.beq T U)&&!(L.any (Nat.beq T)))<;>simp[AVal.hung]
 |_=>exact xR7 h
theorem xK0 {g:(t:Ty)→List t.den→Nat→Bool→AVal}{h:Nat→Nat→Ty→Int→zY4→AVal}:∀ {A:AVal}{d:Nat},A.hasRef d=false→(∀ t l T m,(g t l T m).hasRef d=false)→(∀ s T t i p,(h s T t i p).hasRef d=false)→(A.mapOwn g h).hasRef d=false:=by
 intro A
 induction A with
 |own t l T m=>grind [AVal.mapOwn]
 |eref s T t i p=>grind [AVal.mapOwn]
 |opt s' want gg A ih=>grind [AVal.hasRef,AVal.mapOwn]
 |box τ b _=>grind [AVal.mapOwn,AVal.hasRef]
 |may m τ b _=>grind [AVal.mapOwn,AVal.hasRef]
 |agg f b _=>grind [AVal.mapOwn,AVal.hasRef]
 |cons x y ihx ihy=>grind [AVal.hasRef,Bool.or_eq_false_iff,AVal.mapOwn]
 |tup b ih=>intro d hh h1 h2;exact ih hh h1 h2
 |fn f b ih=>intro d hh h1 h2;exact ih hh h1 h2
 |ownh _ _ _ _ _ _=>intro d _ _ _;rfl
 |_=>intro d hh _ _;exact hh
theorem xR8 {bs:List Bor}{L:List Nat}{A:AVal}{d:Nat}(h:A.hasRef d=false):(A.turnH bs L).hasRef d=false:=by
 have key:(A.turn bs L).hasRef d=false:=by
  refine xK0 h (fun t l T m=>?_) (fun s T t i p=>?_)
  all_goals grind [AVal.hasRef]
 cases A with
 |ownh t l T i U m=>simp only[AVal.turnH];cases (!(Nat.beq T U)&&!(L.any (Nat.beq T)))<;>simp[AVal.hasRef]
 |_=>exact key
theorem xA7 {bs:List Bor}{L:List Nat}{s:Nat}(ht:zP0 L (S.get s)=true)(hs:¬ s<c.n):∀ {R:St},St.has s R=true→(∀ q∈zZ3 c bs L S R,q)→∀ q∈(S.get s).borAsks bs,q:=by
 intro R
 induction R with
 |nil=>intro h;cases h
 |cons e r ih =>
  intro h hq q hqs;obtain⟨k,A⟩:=e;simp only[zZ3,List.mem_append] at hq;simp only[St.has,List.any_cons,Bool.or_eq_true] at h;rcases h with h|h
  ·have:=Nat.eq_of_beq_eq_true h;subst this;refine hq q (.inl ?_);have hb:Nat.blt k c.n=false:=by
    cases hb:Nat.blt k c.n with
    |false=>rfl
    |true=>exact absurd (Nat.le_of_ble_eq_true hb) hs
   rw[hb,ht];exact hqs
  ·exact ih h (fun q hq'=>hq q (.inr hq')) q hqs
theorem xK1 {outs:List (Nat×AVal)}:∀ {ys L:List AVal}{i:Nat},∀ e∈zH6 outs i ys L,e.2=.junk:=by
 intro ys
 induction ys with
 |nil=>intro L i e he;simp[zH6] at he
 |cons Y r ih =>
  intro L i e he;cases L with
  |nil=>cases Y<;>simp[zH6] at he
  |cons A l =>
   cases Y with
   |ref s τ p =>
    simp only[zH6,List.mem_append] at he;rcases he with he|he
    ·cases hb:(zG0 A&&!(outs.any (fun e=>Nat.beq e.1 i))) with
     |false=>simp[hb] at he
     |true=>simp[hb] at he;rw[he]
    ·exact ih e he
   |_=>simp only[zH6] at he;exact ih e he
theorem xR9 {outs:List (Nat×AVal)}{s:Nat}{τ:Ty}{p:zY4}{A:AVal}:∀ {ys L:List AVal}{i j:Nat},ys[j]?=some (.ref s τ p)→L[j]?=some A→zG0 A=true→outs.any (fun e=>Nat.beq e.1 (i+j))=false→(s,.junk)∈zH6 outs i ys L:=by
 intro ys
 induction ys with
 |nil=>intro L i j h;simp at h
 |cons Y r ih =>
  intro L i j hy hL hA ho;cases L with
  |nil=>simp at hL
  |cons B l =>
   cases j with
   |zero =>
    simp only[List.getElem?_cons_zero,Option.some.injEq] at hy hL;subst hy;subst hL;simp only[zH6,List.mem_append];left;rw[hA,show outs.any (fun e=>Nat.beq e.1 i)=false from ho];simp
   |succ j =>
    have:=ih (i:=i+1) (by simpa using hy) (by simpa using hL) hA (by rw[show i+1+j=i+(j+1) by omega];exact ho);cases Y with
    |ref _ _ _=>simp only[zH6,List.mem_append];exact .inr this
    |_=>simp only[zH6];exact this
theorem xZ1 {dst:Option Nat}{co:CallOut}:yD9 (zG8 (nbK dst co)):=by
 unfold nbK;cases dst with
 |none=>intro a b b' h;simp[zG8] at h
 |some d =>
  cases (co.nb.isEmpty&&zG1 co.res) with
  |true=>intro a b b' h;simp[zG8] at h
  |false =>
   intro a b b' h h';simp[zG8,vTo] at h h';omega
theorem wH2 {dst:Option Nat}{co:CallOut}{k V:Nat}(h:(k,V)∈nbK dst co):vNo≤k∧vNo≤V∧∃ d,dst=some d∧V=vTo d k:=by
 unfold nbK at h;cases dst with
 |none=>simp at h
 |some d =>
  cases hb:(co.nb.isEmpty&&zG1 co.res) with
  |true=>simp[hb] at h
  |false =>
   simp only[hb,cond_false,List.mem_cons,Prod.mk.injEq,List.not_mem_nil,or_false] at h;rcases h with ⟨rfl,rfl⟩ | ⟨rfl,rfl⟩ | ⟨rfl,rfl⟩ | ⟨rfl,rfl⟩<;>exact⟨by omega,by unfold vTo;omega,d,rfl,rfl⟩
theorem wD {d:Nat}{co:CallOut}{k:Nat}(h1:vNo≤k)(h2:k<vNo+4)(hb:(co.nb.isEmpty&&zG1 co.res)=false):(k,vTo d k)∈nbK (some d) co:=by
 unfold nbK;simp only[hb,cond_false,List.mem_cons,Prod.mk.injEq,List.not_mem_nil,or_false];have:k=vNo∨k=vNo+1∨k=vNo+2∨k=vNo+3:=by omega
 rcases this with rfl|rfl|rfl|rfl<;>simp
theorem xS {bs:List Bor}{L:List Nat}{s:Nat}:∀ {R:St},St.has s (zL1 bs L S R)=true→(∀ e∈zL1 bs L S R,e.1≠zA7)→(zL1 bs L S R).get s=(S.get s).turnH bs L:=by
 intro R
 induction R<;>grind [zL1,St.has,zP0,St.get,Nat.beq,Nat.eq_of_beq_eq_true,absurd,List.mem_cons_self]
theorem xK2 {bs:List Bor}{L:List Nat}{s:Nat}(ht:zP0 L (S.get s)=true):∀ {R:St},St.has s R=true→St.has s (zL1 bs L S R)=true:=by
 intro R
 induction R with
 |nil=>grind [St.has]
 |cons e r ih =>
  intro h;obtain⟨s',A⟩:=e;simp only[zL1];simp only[St.has,List.any_cons,Bool.or_eq_true] at h;cases ht':zP0 L (S.get s') with
  |false =>
   rcases h with h|h
   ·simp_all
   ·exact ih h
  |true =>
   simp only[cond_true,St.has,List.any_cons,Bool.or_eq_true];rcases h with h|h
   ·grind
   ·exact .inr (ih h)
theorem xA8 {bs:List Bor}{L:List Nat}{s:Nat}(ht:zP0 L (S.get s)=true):∀ {k:Nat},s<k→(∀ q∈zZ2 bs L S k,q)→∀ q∈(S.get s).borAsks bs,q:=by
 intro k
 induction k with
 |zero=>grind
 |succ k ih =>
  intro h hq;simp[zZ2] at hq;by_cases e:s=k
  ·grind
  grind
theorem yV7 {L:List Nat}{A:AVal}(h:zP0 L A=true):A≠.junk:=by
 intro e;subst e;obtain⟨T,_,h⟩:=List.any_eq_true.1 h
 grind [AVal.hasTag]
theorem yV8 {hb:List (Nat×Nat)}{wants:List Nat}{i:Nat}{Y k A:AVal}(h:zK6 hb wants i Y k=A)(hA:zG0 A=true):∃ s τ k',Y=.ref s τ []∧k=.box τ k'∧A=.box τ (k'.pos τ (zW1 i)):=by
 subst h;cases Y with
 |ref s τ p =>
  cases p with
  |nil =>
   cases k with
   |box τ' k' =>
    simp only[zK6] at hA ⊢;cases hb:Ty.beq τ' τ with
    |false=>grind [zG0]
    |true=>have:=Ty.eq_of_beq hb;subst this;exact⟨s,τ',k',rfl,rfl,rfl⟩
   |_=>grind [zK6,zG0]
  |cons _ _=>grind [zK6,zG0]
 |own t l T m=>grind [zK6,zG0]
 |agg f d =>
  grind [zK6,Nat.beq,zG0]
 |fn f cs=>grind [zK6,zG0]
 |fptr f caps=>grind [zK6,zG0]
 |_=>grind [zK6,zG0]
theorem yK3 (hc:CtxOk P c)(hR:Rel c.n χ0 w0 S a w G){o:Oper}{fo:Operand}{args:Array Operand}{ats:Array TypeId}{f:Nat}{cs:AVal}{r:List AVal}{p:List Prop}{u:St}{hv:Bool}
  (ho:o.op=.call { callee:=.value fo,args,argTypes:=ats }) (hf:zA G w a.tmps none (.fn f cs) (a.eval fo)) (hr:zH1 (zA G w a.tmps none) r (args.toList.map a.eval)) (hcs:zI4 cs=true)
  (h:xG5 c o.dst f (r++cs.toL) S=some (p,u,hv))
  (hlt:∀ e∈u,e.1<zA7) (hdo:∀ d,o.dst=some d→d<c.n) (hh:∀ s,∀ e∈u,(S.get s).hung e.1=false) (hp:∀ q∈p,q)
  {next:Act→World→Prop}{Q:Exit→Act→World→Prop}(hnext:∀ v w' G',Rel c.n χ0 w0 (u++S) (a.put o.dst v) w' G'→next (a.put o.dst v) w'):o.wpIn (fz rd) 0 P a w next Q:=by
 simp only[zA] at hf;obtain⟨vs,hfv,hcv⟩:=hf;have hcl:=yK0 (vs:=vs.toList) hcs (by simpa using hcv);have hys:=zN hr hcl;generalize hysd:r++cs.toL=ys at h hys;generalize hwd:look [] c.wants f=wants at h;unfold xG5 at h;rw[hwd] at h;split at h
 ·cases h
 ·rename_i co hco;split at h
  ·cases h
  ·rename_i u1 bs K hout;obtain⟨sp,hmem,hsp⟩:=zR hco;have hok:=hc.fns f sp hmem;obtain⟨fn,h1,h2,h3⟩:=hok.1;have hrun:(execOp a.eval o).run P w=.ok (.enter f (args.toList.map a.eval++vs.toList).toArray) w:=by
    have harr:(args.toList.map a.eval++vs.toList).toArray=args.map a.eval++vs:=by apply Array.toList_inj.1;simp
    rw[harr];unfold execOp;have hbn:fn.body.isNone=false:=by cases hb:fn.body<;>simp_all
    simp[ho,resolve,hfv,Deferred.ofValue,invoke,callFunc,h1,h3];intro hb;simp[hb] at hbn
   generalize hvals:args.toList.map a.eval++vs.toList=vals at hys hrun;generalize hks:ys.map (zA3 S)=ks at h hsp;have hksl:ys.length=ks.length:=by rw[← hks];simp
   have hysl:=zF3 hys;generalize hE:zH6 co.outs 0 ys (yB5 (zL0 0 ys) wants 0 ys ks)=E at h;generalize hbb:(_&&zR9 (_++(nbK o.dst co).map (·.1)))=bb at h;cases bb with
   |false=>cases h
   |true =>
    simp only[Bool.and_eq_true] at hbb;obtain⟨⟨⟨⟨⟨⟨⟨⟨⟨b1,b2⟩,bf⟩,b3⟩,b4⟩,b5⟩,b6⟩,b7⟩,b8⟩,b9⟩:=hbb;simp only[cond_true,Option.some.injEq,Prod.mk.injEq] at h;obtain⟨hpe,hu,_⟩:=h;generalize hHT:zZ1 wants 0 ys ks=HT at b5 b6 hu hpe;generalize hHB:zL0 0 ys=HB at b3 b4 b9 hsp hE;generalize hKT:xO o.dst++K=KT at b7 b8 hu hpe;generalize hL:HT.map (·.1)++KT.map (·.2)=L at hu hpe;generalize hKB:nbK o.dst co=KB at bf b9 hu;subst hpe;have hpok:∀ q∈co.ok,q:=fun q hq=>hp q (List.mem_append_left _ hq);have hppos:∀ b∈bs,0<b.l.length:=fun b hb=>hp _ (List.mem_append_right _ (List.mem_append_left _ (List.mem_append_left _ (List.mem_map.2 ⟨b,hb,rfl⟩))));have hpask:∀ q∈zZ2 bs L S c.n,q:=fun q hq=>hp q (List.mem_append_right _ (List.mem_append_left _ (List.mem_append_right _ hq)));have hpvirt:∀ q∈zZ3 c bs L S S,q:=fun q hq=>hp q (List.mem_append_right _ (List.mem_append_right _ hq));have f1:=zT3 b4;have f1':yD9 (zG8 HB):=by rw[← hHB];exact xJ8
    have f1b:yD9 (zG8 HB++KB):=zT3 (by rw[List.map_append,zG8,List.map_map];exact b9);have f2:=zT3 b5;have f2':=yN4 b6;have f3:=zT3 b7;have f3':=yN4 b8;have fK:yD9 (zG8 KB):=by rw[← hKB];exact xZ1
    have hKBat:∀ k V,(k,V)∈KB→vNo≤k∧vNo≤V∧∃ d,o.dst=some d∧V=vTo d k:=fun k V h=>wH2 (by rw[hKB];exact h);have harg:∀ (i:Nat) Y,ys[i]?=some Y→(yB5 HB wants 0 ys ks)[i]?=some (zK6 HB wants i Y (zA3 S Y)):=fun i Y hY=>by
     have:=xZ0 (hb:=HB) (wants:=wants) (ks:=ks) (i:=0) hY (show ks[i]?=some (zA3 S Y) by rw[← hks];simp[hY])
     rwa [Nat.zero_add] at this
    refine zV1 hrun ((hok.2 _ co hsp hpok (G.calleeH HB HT) w vals (by rw[yE hksl,hysl]) (zH7 zR4 hR.glob) (fun i A v hA hv=>?_)).mono ?_)
    ·have hil:i<ys.length:=by have:=(List.getElem?_eq_some_iff.1 hA).1;rwa [yE hksl] at this
     obtain⟨Y,hY⟩:∃ Y,ys[i]?=some Y:=⟨_,List.getElem?_eq_getElem hil⟩;rw[harg i Y hY] at hA;injection hA with hA
     subst hA;refine xQ7 (kv:=match zD2 Y with|some s=>a.tmps.getD s undef|none=>undef) f1 f1' f2 f2' (zR1 hys hY hv) (fun s hs=>by rw[hs];exact zG6 hR hs) (fun q hq=>?_) (fun q hq=>?_)
     ·rw[← hHT];exact xJ7 (i:=0) hY (show ks[i]?=some (zA3 S Y) by rw[← hks];simp[hY]) (by rwa [Nat.zero_add])
     ·rw[← hHB];exact yN8 (i:=0) hY (by rwa [Nat.zero_add])
    ·rintro e w' ⟨v,G',rfl,hF,hres,houts,hnb⟩;refine⟨v,rfl,hnext v w' (G.backH G' w.heap.size HB HT KT KB) ?_⟩;generalize hW:xX o.dst co.nb KB (u1++E)=W;have hu':u=zH3 o.dst co.res W++zL1 bs L S S:=by
      rw[← hu,← hW];unfold zH3;cases o.dst<;>rfl
     subst hu';have hltU:∀ e∈zH3 o.dst co.res W,e.1<zA7:=fun e he=>hlt e (List.mem_append_left _ he);have hcutU:∀ e∈zH3 o.dst co.res W,e.1≠zA7:=fun e he=>by have:=hltU e he;omega
     have hcutT:∀ e∈zL1 bs L S S,e.1≠zA7:=fun e he=>by have:=hlt e (List.mem_append_right _ he);omega
     have hsubU:∀ e∈W,e∈zH3 o.dst co.res W:=by intro e he;unfold zH3;split;exact List.mem_cons_of_mem _ he;exact he
     have hsubW:∀ e∈u1++E,e∈W:=by intro e he;rw[← hW];unfold xX;split;exact List.mem_append_right _ (List.mem_append_right _ he);exact he
     obtain⟨g1,g2,g3⟩:=xR1 hout;have hprot:=zV3 (KT:=KT) (KB:=KB) hF;have hown:∀ U T,(U,T)∈KT→∀ (t:Ty) (l:List t.den) m v,zF9 G' w' t l U m v→zF9 (G.backH G' w.heap.size HB HT KT KB) w' t l T m v:=fun U T hm t l m v h=>yV5 hF f1b f3 f3' hm h;have hext:=xQ9 (G:=G) (KT:=KT) (KB:=KB) hF;have hextO:=xR (G:=G) (KT:=KT) (KB:=KB) hF;have h0:¬ ((∃ y,((0:Nat),y)∈zS2 HB HT)∨(∃ U,U∈KT.map (·.2)∧0=zB0 U)∨∃ V,V∈KB.map (·.2)∧0=zE1 V):=by
      rintro (⟨y,hy⟩ | ⟨U,_,e⟩ | ⟨V,_,e⟩)
      ·have:=yC3 hy;omega
      ·exact zA9 _ e
      ·exact zD6 _ e
     have hfresh:∀ V,V∈KB.map (·.2)→V<zA7∧St.has V (u1++E)=false∧∀ s,St.has s (zH3 o.dst co.res W)=false→(S.get s).hasRef V=false:=by
      intro V hV;obtain⟨q,hq,rfl⟩:=List.mem_map.1 hV;have h1:=List.all_eq_true.1 bf q hq;simp only[Bool.and_eq_true,Bool.not_eq_true'] at h1;refine⟨Nat.le_of_ble_eq_true h1.1,h1.2.1,fun s hs=>?_⟩;cases hr:(S.get s).hasRef q.2 with
      |false=>rfl
      |true =>
       exfalso;have hne:S.get s≠.junk:=fun e=>by rw[e] at hr;simp[AVal.hasRef] at hr
       obtain⟨e,he,hes⟩:=List.any_eq_true.1 (zO6 hne);have hes:=Nat.eq_of_beq_eq_true hes;have h2:=List.all_eq_true.1 h1.2.2 e he;rw[hes,hr] at h2;simp only[Bool.not_true,Bool.or_false,Bool.or_eq_true] at h2;rcases h2 with h2|h2
       ·cases hd:o.dst with
        |none=>rw[hd] at h2;cases h2
        |some d =>
         rw[hd] at h2 hs;have:=Nat.eq_of_beq_eq_true h2;subst this;simp[zH3,St.has] at hs
       ·obtain⟨e',he',hes'⟩:=List.any_eq_true.1 h2;have:St.has s (zH3 o.dst co.res W)=true:=List.any_eq_true.2 ⟨e',hsubU _ (hsubW _ he'),hes'⟩;rw[hs] at this;cases this
     have hVW:∀ V,V∈KB.map (·.2)→∀ e∈u1,e.1≠V:=fun V hV e he e2=>by
      have:=(hfresh V hV).2.1;have h2:St.has V (u1++E)=true:=List.any_eq_true.2 ⟨e,List.mem_append_left _ he,by rw[e2];exact Nat.beq_refl _⟩;rw[this] at h2;cases h2
     have hlkK:∀ s,s∉KB.map (·.2)→lk (zG8 KB) s=none:=fun s hs=>by
      cases hl:lk (zG8 KB) s with
      |none=>rfl
      |some k=>exact absurd (List.mem_map.2 ⟨_,mem_swap.1 (zL hl),rfl⟩) hs
     have hβK:∀ k V,(k,V)∈KB→(G.backH G' w.heap.size HB HT KT KB).β V=G'.β k:=fun k V hm=>by
      simp only[Gh.backH];rw[zN8 fK (mem_swap.2 hm)]
     have hboxback:∀ s i,(s,i)∈HB→∃ e∈u1++E,e.1=s:=by
      intro s i hm;rw[← hHB] at hm;obtain⟨_,τ,hY⟩:=yK1 hm;simp only[Nat.sub_zero] at hY;have hA:=harg i _ hY;have hbx:=zR0 b3 hY hA;cases hc:co.outs.any (fun e=>Nat.beq e.1 i) with
      |false =>
       have:=xR9 (outs:=co.outs) (i:=0) hY hA hbx (by rw[Nat.zero_add];exact hc);rw[hE] at this;exact⟨_,List.mem_append_right _ this,rfl⟩
      |true =>
      obtain⟨⟨i',k⟩,hk,hik⟩:=List.any_eq_true.1 hc;have:=Nat.eq_of_beq_eq_true hik;simp only at this;subst this;obtain⟨Y',u',bs',K',q1,q2,q3⟩:=g1 i' k hk;rw[hY] at q1;injection q1 with q1
      subst q1;simp only[wC7] at q2;generalize (AVal.fits τ k&&xW9 (k.tags τ (zW1 i')))=bb at q2;cases bb with
      |false=>cases q2
      |true =>
       simp only[cond_true,Option.some.injEq,Prod.mk.injEq] at q2;exact⟨_,List.mem_append_left _ (q3 _ (by rw[← q2.1];exact List.mem_cons_self ..)),rfl⟩
     have hentry1:∀ e∈u1,∀ tm',zA (G.backH G' w.heap.size HB HT KT KB) w' tm' (some e.1) e.2 (a.tmps.getD e.1 undef):=by
      intro e he tm';obtain⟨i,k,Y,u',bs',K',q1,hY,q3,q4,q5⟩:=g2 e he;have hA:=harg i Y hY;have hil:i<vals.length:=by rw[← hysl];exact (List.getElem?_eq_some_iff.1 hY).1
      obtain⟨uv,huv⟩:∃ uv,vals[i]?=some uv:=⟨_,List.getElem?_eq_getElem hil⟩;obtain⟨c1,c2⟩:=houts i k _ uv q1 hA huv;have hYv:=zR1 hys hY huv;have hKT':∀ q∈K',q∈KT:=fun q hq=>by rw[← hKT];exact List.mem_append_right _ (q5 q hq)
      have hcase:(∃ s τ,Y=.ref s τ [])∨u'=[]:=by
       unfold wC7 at q3;split at q3
       ·exact .inl ⟨_,_,rfl⟩
       ·right;split at q3
        ·simp only[Option.some.injEq,Prod.mk.injEq] at q3;exact q3.1.symm
        ·cases q3
      rcases hcase with ⟨s,τ,rfl⟩ | e1
      ·have hbx:=zR0 b3 hY hA;obtain⟨s',τ',k',e1,e2,e3⟩:=yV8 rfl hbx;injection e1 with e1 e4 _
       subst e1;subst e4;obtain⟨hb1,hb2⟩:=c1 τ _ e3;simp only[wC7] at q3;generalize hfb:(AVal.fits τ k&&xW9 (k.tags τ (zW1 i)))=bb at q3;cases bb with
       |false=>cases q3
       |true =>
        simp only[cond_true,Option.some.injEq,Prod.mk.injEq] at q3;obtain⟨rfl,rfl,rfl⟩:=q3;simp only[List.mem_singleton] at q4;subst q4;have hm:(s,i)∈HB:=by rw[← hHB];exact yN8 (i:=0) hY (by simp[yS])
        have hβ:G'.β i=G.β s:=by rw[hb2];simp only[Gh.calleeH];rw[zN8 f1' (mem_swap.2 hm)]
        have hr0:=hR.reps s;simp only[zA3] at e2;rw[e2] at hr0;simp only[zA] at hr0 hb1;have hnew:lk (zG8 KB) s=none:=hlkK s (fun hV=>hVW s hV _ he rfl);have hb:=(xQ8 (KT:=KT) (KB:=KB) (tm:=tm') (u:=.pointer (some ⟨G.β s,0,none⟩)) hF f1b f3 f3' hm hnew hβ (fun _=>rfl) hKT' (by simp only[zA];exact⟨fun _=>by rw[hβ],hb1.2⟩));simp only[zA] at hb ⊢;refine⟨fun hs=>?_,hb.2⟩;rw[hr0.1 hs];exact hb.1 hs
      ·subst e1;cases q4
     have hentry:∀ e∈W,∀ tm',zA (G.backH G' w.heap.size HB HT KT KB) w' tm' (some e.1) e.2 (a.tmps.getD e.1 undef):=by
      intro e he tm';have hold:∀ e∈u1++E,zA (G.backH G' w.heap.size HB HT KT KB) w' tm' (some e.1) e.2 (a.tmps.getD e.1 undef):=fun e he=>by
       rcases List.mem_append.1 he with he|he
       ·exact hentry1 e he tm'
       ·rw[← hE] at he;rw[xK1 e he];simp only[zA]
      rw[← hW] at he;cases hd:o.dst with
      |none=>rw[hd] at he;exact hold e he
      |some d =>
       rw[hd] at he;rcases List.mem_append.1 he with he|he
       ·obtain⟨⟨k,B⟩,hq,rfl⟩:=List.mem_map.1 he;have h1:=List.all_eq_true.1 b1 _ hq;simp only[Bool.and_eq_true] at h1;have hv1:=Nat.le_of_ble_eq_true h1.1;have hv2:=Nat.le_of_ble_eq_true h1.2.1;have hne:(co.nb.isEmpty&&zG1 co.res)=false:=by
         cases hn:co.nb with
         |nil=>rw[hn] at hq;cases hq
         |cons _ _=>rfl
        have hm:(k,vTo d k)∈KB:=by rw[← hKB,hd];exact wD hv1 hv2 hne
        have hge:=(hKBat _ _ hm).2.1;have hB:=hnb k B hq;have hresT:∀ T:Nat,T<4→(T,T*100000+d)∈KT:=by
         intro T hT;rw[← hKT,hd];refine List.mem_append_left _ ?_
         match T,hT with
         |0,_=>simp[xO]
         |1,_=>simp[xO]
         |2,_=>simp[xO]
         |3,_=>simp[xO]
        have hcon:∀ {c:AVal}{τ:Ty},zG1 c=true→∀ vs,zA8 G' w' τ c vs→zA8 (G.backH G' w.heap.size HB HT KT KB) w' τ (c.tagTo d) vs:=fun hc vs ht =>
         yN5 hprot (fun T hT t l m v h=>hown T (T*100000+d) (hresT T hT) t l m v h) hc ht
        cases B with
        |box τ c =>
         simp only[AVal.tagTo,zA] at hB ⊢;exact⟨fun h=>absurd h (Nat.not_lt.2 hge),zX5 hF f1b f3 (List.mem_append_right _ hm) (hβK _ _ hm) (hcon h1.2.2) hB.2⟩
        |may m τ c =>
         simp only[AVal.tagTo,zA] at hB ⊢;exact fun h=>zX5 hF f1b f3 (List.mem_append_right _ hm) (hβK _ _ hm) (hcon h1.2.2) (hB h)
        |_=>simp at h1
       ·rcases List.mem_append.1 he with he|he
        ·obtain⟨q,_,rfl⟩:=List.mem_map.1 he;simp only[zA]
        ·exact hold e he
     have hbor:∀ b∈bs,xR2 G w G' w' b∧(b.T,b.U)∈KT:=by
      intro b hb;obtain⟨i,k,Y,u',bs',K',q1,hY,q3,q4,q5⟩:=g3 b hb;have hA:=harg i Y hY;have hil:i<vals.length:=by rw[← hysl];exact (List.getElem?_eq_some_iff.1 hY).1
      obtain⟨uv,huv⟩:∃ uv,vals[i]?=some uv:=⟨_,List.getElem?_eq_getElem hil⟩;obtain⟨c1,c2⟩:=houts i k _ uv q1 hA huv;have hYv:=zR1 hys hY huv;unfold wC7 at q3;split at q3
      ·rename_i s τ;generalize (AVal.fits τ k&&xW9 (k.tags τ (zW1 i)))=bb at q3;cases bb with
       |false=>cases q3
       |true =>
        simp only[cond_true,Option.some.injEq,Prod.mk.injEq] at q3;rw[← q3.2.1] at q4;cases q4
      ·rename_i hnr;split at q3
       ·rename_i bs2 hbs;simp only[Option.some.injEq,Prod.mk.injEq] at q3;obtain⟨_,rfl,rfl⟩:=q3;have hnb:zG0 (zK6 HB wants i Y (zA3 S Y))=false:=by
         cases hbx:zG0 (zK6 HB wants i Y (zA3 S Y)) with
         |false=>rfl
         |true=>obtain⟨s,τ,_,e1,_⟩:=yV8 rfl hbx;exact absurd e1 (hnr s τ)
        refine⟨yK2 hbs hYv (c2 hnb) b q4,?_⟩;rw[← hKT];exact List.mem_append_right _ (q5 _ (List.mem_map.2 ⟨b,q4,rfl⟩))
       ·cases q3
     have h0O:¬ ((∃ y,((0:Nat),y)∈zS2 HB HT)∨∃ U,U∈KT.map (·.2)∧0=zB0 U):=fun h=>h0 (h.elim .inl (fun h=>.inr (.inl h)));have hnames:∀ T,T∉L→¬ ((∃ y,(zB0 T,y)∈zS2 HB HT)∨∃ U,U∈KT.map (·.2)∧zB0 T=zB0 U):=by
      intro T hT;rw[← hL] at hT;rintro (⟨y,hy⟩ | ⟨U,hU,e⟩)
      ·obtain⟨U,_,hm⟩:=cols_arr.1 hy;exact hT (List.mem_append_left _ (List.mem_map.2 ⟨_,hm,rfl⟩))
      ·have:=zA5 e;subst this;exact hT (List.mem_append_right _ hU)
     have hturn:TurnOk bs L G w (G.backO G' w.heap.size HB HT KT KB) w':=by
      refine⟨hextO.prot,fun s=>rfl,fun t l T m v hT h=>zF2 hextO h0O (hnames T hT) h,fun T hT=>hextO.tag T (fun hY=>hnames T hT (.inr hY)),fun b hb l m v hlen h=>?_,fun b hb=>?_,fun T hT hcol hlt'=>?_⟩
      ·exact hown _ _ (hbor b hb).2 _ _ _ _ (xR4 (hbor b hb).1 (hppos b hb) h hlen)
      ·rw[← hL];exact List.mem_append_right _ (List.mem_map.2 ⟨_,(hbor b hb).2,rfl⟩)
      ·have:=hextO.block _ hlt' (fun o hX=>by rw[hcol o] at hX;exact hnames T hT hX);exact⟨this.1,fun o=>by rw[this.2 o];exact hcol o⟩
     have htag0:∀ s,St.has s (zH3 o.dst co.res W++zL1 bs L S S)=false→∀ T,T∈L→(S.get s).hasTag T=false:=by
      intro s hs T hT;cases ht:(S.get s).hasTag T with
      |false=>rfl
      |true =>
       have hany:zP0 L (S.get s)=true:=List.any_eq_true.2 ⟨T,hT,ht⟩;have:=xK2 (bs:=bs) hany (zO6 (yV7 hany));simp only[St.has,List.any_append,Bool.or_eq_false_iff] at hs;rw[St.has] at this;rw[hs.2] at this;cases this
     have hsplit:∀ s,St.has s (zH3 o.dst co.res W++zL1 bs L S S)=false→St.has s (zH3 o.dst co.res W)=false:=fun s hs=>by
      simp only[St.has,List.any_append,Bool.or_eq_false_iff] at hs;exact hs.1
     have hnotHB:∀ s,St.has s (zH3 o.dst co.res W)=false→s∉HB.map (·.1):=fun s hs hm=>by
      obtain⟨q,hq,e2⟩:=List.mem_map.1 hm;obtain⟨e,he,e3⟩:=hboxback q.1 q.2 hq;have:St.has s (zH3 o.dst co.res W)=true:=List.any_eq_true.2 ⟨e,hsubU _ (hsubW _ he),by rw[e3,e2];exact Nat.beq_refl _⟩;rw[hs] at this;cases this
     have hdd:∀ d,o.dst=some d→d<a.tmps.size:=fun d e=>by rw[hR.len];exact hdo d e
     have hnotKB:∀ s,St.has s (zH3 o.dst co.res W)=false→s∉KB.map (·.2):=fun s hs hm=>by
      obtain⟨q,hq,rfl⟩:=List.mem_map.1 hm;obtain⟨_,_,d,hd,_⟩:=hKBat q.1 q.2 hq;have:St.has q.2 (zH3 o.dst co.res W)=true:=List.any_eq_true.2 ⟨(q.2,.junk),hsubU _ (by rw[← hW,hd];exact List.mem_append_right _ (List.mem_append_left _ (List.mem_map.2 ⟨q,hq,rfl⟩))),Nat.beq_refl _⟩;rw[hs] at this;cases this
     refine zD8 hR hc.n hlt hdo (fun d e=>by rw[e];simp[zH3,St.has]) hext h0 (xA1 hF hR.frame) (fun s hs=>?_) (fun s d e _=>?_) (fun s hs=>?_)
     ·refine zX6 (fun T hT=>htag0 s hs T (by rw[← hL];exact List.mem_append.2 hT)) (fun V hV=>(hfresh V hV).2.2 s (hsplit s hs)) (fun s' e=>?_);injection e with e
      subst e;exact⟨hnotHB s (hsplit s hs),hnotKB s (hsplit s hs)⟩
     ·exact hh s (d,co.res.tagTo d) (List.mem_append_left _ (by rw[e];simp[zH3]))
     ·cases hsU:St.has s (zH3 o.dst co.res W) with
      |true =>
       rw[yA4 hcutU hsU];have hm:=yZ6 hsU hcutU;cases hd:o.dst with
       |none =>
        rw[hd] at hm hsU;simp only[zH3] at hm hsU ⊢;exact hentry _ hm _
       |some d =>
        rw[hd] at hm hsU;simp only[zH3] at hm hsU ⊢;have hdn:d<a.tmps.size:=hdd d hd;by_cases e:s=d
        ·subst e;have:St.get ((s,co.res.tagTo s)::W) s=co.res.tagTo s:=by simp[St.get]
         rw[this,zD7 hdn,if_pos rfl];have hresT:∀ T,T<4→(T,T*100000+s)∈KT:=fun T hT=>by
          rw[← hKT,hd];refine List.mem_append_left _ ?_;obtain rfl|rfl|rfl|rfl:T=0∨T=1∨T=2∨T=3:=by omega
          all_goals simp[xO]
         have hownT:∀ T,T<4→∀ (t:Ty) (l:List t.den) m v,zF9 G' w' t l T m v→zF9 (G.backH G' w.heap.size HB HT KT KB) w' t l (T*100000+s) m v:=fun T hT t l m v h=>hown T (T*100000+s) (hresT T hT) t l m v h;cases hro:zG1 co.res with
         |true=>exact zK7 (yN6 (tm:=#[]) hprot hownT hro hres)
         |false =>
          refine zK7 (xA2 (tm:=#[]) hprot hownT (fun k k1 k2=>hβK k _ ?_) b2 hres);rw[← hKB,hd];exact wD k1 k2 (by rw[hro,Bool.and_false])
        ·rcases List.mem_cons.1 hm with hm|hm
         ·injection hm with hm _;exact absurd hm e
         ·rw[zD7 hdn,if_neg e];exact hentry _ hm _
      |false =>
       rw[zJ9 hcutU hsU];have hsT:St.has s (zL1 bs L S S)=true:=by
        simp only[St.has,List.any_append,Bool.or_eq_true] at hs;rcases hs with hs|hs
        ·rw[St.has] at hsU;rw[hsU] at hs;cases hs
        ·exact hs
       rw[xS hsT hcutT];have hmem:=yZ6 hsT hcutT;have hne:∀ d,o.dst=some d→s≠d:=by
        intro d e e2;subst e2;rw[e] at hsU;simp[zH3,St.has] at hsU
       have hval:(a.put o.dst v).tmps.getD s undef=a.tmps.getD s undef:=by
        cases hd:o.dst with
        |none=>rfl
        |some d=>rw[zD7 (hdd d hd),if_neg (hne d hd)]
       rw[hval];have hany:zP0 L (S.get s)=true:=by
        cases ht:zP0 L (S.get s) with
        |true=>rfl
        |false =>
         exfalso;have key:∀ R:St,St.has s (zL1 bs L S R)=false:=by
          intro R
          induction R with
          |nil=>rfl
          |cons e r ih =>
           obtain⟨s',A⟩:=e;simp only[zL1];cases ht':zP0 L (S.get s') with
           |false=>exact ih
           |true =>
            simp only[cond_true,St.has,List.any_cons,Bool.or_eq_false_iff];refine⟨?_,ih⟩;cases hb:Nat.beq s' s with
            |false=>rfl
            |true=>have:=Nat.eq_of_beq_eq_true hb;subst this;rw[ht] at ht';cases ht'
         rw[key S] at hsT;cases hsT
       have hasks:∀ q∈(S.get s).borAsks bs,q:=by
        by_cases hsn:s<c.n
        ·exact xA8 (bs:=bs) hany hsn hpask
        ·exact xA7 (bs:=bs) hany hsn (zO6 (yV7 hany)) hpvirt
       have hbx:∀ s',some s=some s'→(∀ o,G.χ (G.β s') o=zE1 s')→G.β s'<w.heap.size→w'.heap[G.β s']?=w.heap[G.β s']?∧∀ o,(G.backO G' w.heap.size HB HT KT KB).χ (G.β s') o=zE1 s':=by
        intro s' e hcol hlt';injection e with e
        subst e;have:=hextO.block (G.β s) hlt' (fun o' hX=>by
         rw[hcol o'] at hX;rcases hX with ⟨y,hy⟩ | ⟨U,_,e⟩
         ·obtain⟨i,_,hm⟩:=cols_box.1 hy;exact hnotHB s hsU (List.mem_map.2 ⟨_,hm,rfl⟩)
         ·exact zA4 _ _ e)
        exact⟨this.1,fun o=>by rw[this.2 o];exact hcol o⟩
       have hTO:=xJ9 hturn hasks hbx (hR.reps s);have hTB:zA (G.backH G' w.heap.size HB HT KT KB) w' a.tmps (some s) ((S.get s).turnH bs L) (a.tmps.getD s undef):=by
        refine zU1 xJ2 ?_ a.tmps (zX6 (fun T hT=>by simp at hT) (fun V hV=>xR8 ((hfresh V hV).2.2 s hsU)) (fun s' e=>?_)) hTO
        ·rintro (⟨y,hy⟩ | ⟨U,hU,_⟩ | ⟨V,_,e⟩)
         ·simp[zS2] at hy
         ·simp at hU
         ·exact zD6 _ e
        ·injection e with e
         subst e;exact⟨by simp,hnotKB s hsU⟩
       refine zO3 (tm:=a.tmps) (fun k hk=>?_) hTB;cases hd:o.dst with
       |none=>rfl
       |some d =>
        rw[zD7 (hdd d hd),if_neg];intro e;subst e;have:=xK (bs:=bs) (L:=L) (hh s (k,co.res.tagTo k) (List.mem_append_left _ (by rw[hd];simp[zH3])));rw[this] at hk;cases hk
end Go.Am
namespace Go.Am
open Go Go.RowKit
variable {rd:Option Nat}{gtab:GlobTab}{P:Program}{c:Ctx}{G:Gh}{w:World}{tm:Array Value}{n:Nat}{χ0:Nat→Nat→Nat}{w0:World}{S:St}{a:Act}
def Gh.frozen (w:World):Gh:=⟨fun b _=>if b<w.heap.size then 0 else 2,fun _=>0,fun _=>0⟩
theorem zE8 {b o:Nat}(h:b<w.heap.size):(Gh.frozen w).χ b o=0:=by grind [Gh.frozen]
theorem zN0:∀ b o,b<w.heap.size→G.χ b o=0→(Gh.frozen w).χ b o=0∧w.cell? ⟨b,o,none⟩=w.cell? ⟨b,o,none⟩:=fun _ _ h _=>⟨zE8 h,rfl⟩
theorem yV9 {t:Ty}(ht:t.isL=false){l:List t.den}{T:Nat}{m:Bool}{v:Value}(h:zF9 G w t l T m v):zB5 (Gh.frozen w).χ w (.sl t) l [v]:=by
 simp only[zB5];rcases (zB1 h ht).2 with ⟨rfl,rfl⟩ | ⟨cap,cur,e,us,rfl,h2,h3,h4,h5,h6,h7,h8⟩
 ·grind
 ·refine⟨_,cap,rfl,?_⟩;refine .inr ⟨G.γ T,0,us,rfl,h3,zB6 (fun _ _ hc=>zA2 (χ:=G.χ) zN0 hc) h6,fun j u hu=>?_⟩
  grind [zE8,zE6,World.cell?]
theorem yW:∀ {A:AVal}{τ:Ty}{vs:List Value},zA8 G w τ A vs→(A.lent).laxT τ=true→zA8 (Gh.frozen w) w τ A.lent vs:=by
 intro A
 induction A with
 |val τ' x=>intro τ vs h _;simp[AVal.lent,AVal.mapOwn,zA8] at h ⊢;grind [zA2,zN0]
 |nil=>simp_all [AVal.lent,AVal.mapOwn,zA8]
 |own t l T m =>
  intro τ vs h hf;simp[AVal.lent,AVal.mapOwn] at h hf ⊢;obtain⟨rfl,v,rfl,ho⟩:=h;cases ht:t.isL with
  |true=>exact⟨rfl,v,rfl,yA2 ho⟩
  |false=>simp only[cond_false,zA8];exact⟨trivial,rfl,yV9 ht ho⟩
 |agg f b ih =>
  have e:(AVal.agg f b).lent=bif b.lent.laxT f then .agg f b.lent else .junk:=rfl
  grind [AVal.laxT,Ty.isSl,zA8]
 |nl=>simp_all [AVal.lent,AVal.mapOwn,zA8]
 |junk=>simp_all [AVal.lent,AVal.mapOwn,zA8]
 |cons x y ihx ihy =>
  intro τ vs h hf;obtain⟨h1,t1,us,ws,rfl,rfl,h2,h3⟩:=h;have e:(AVal.cons x y).lent=.cons x.lent y.lent:=rfl;rw[e] at hf ⊢;simp[AVal.laxT,zF1] at hf;exact⟨_,_,us,ws,rfl,rfl,ihx h2 hf.1,ihy h3 hf.2⟩
 |_=>grind [zA8]
theorem xS0 {Y k:AVal}{i:Nat}{v kv:Value}(hY:zA G w tm none Y v)(hk:∀ s,zD2 Y=some s→zA G w tm (some s) k kv):zA (Gh.frozen w) w #[] (some i) (yB7 Y k) v:=by
 have hp:∀ b o,b<w.heap.size→G.χ b o=0→(Gh.frozen w).χ b o=0∧w.cell? ⟨b,o,none⟩=w.cell? ⟨b,o,none⟩:=zN0;cases Y with
 |val τ x=>grind [yB7,zA,zC3]
 |nil=>grind [yB7,zA]
 |own t l T m =>
  grind [yB7,zA,zO4,yV9]
 |ownh t l T j U m =>
  simp only[yB7];cases hTU:(Nat.beq T U&&!m) with
  |false=>simp[zA]
  |true =>
   obtain⟨hvt,⟨_,⟨_,x,ad,cap,rfl,rfl,h3⟩ | ⟨hm,_⟩⟩ | ⟨hne,_⟩⟩:=hY
   rotate_left
   ·grind
   rotate_right
   ·refine zO4 ?_;refine⟨ad,cap,rfl,?_⟩;rcases h3 with rfl|⟨o,us,cur,e,rfl,g2,g3,g4,g5,g6⟩
    ·grind
    ·exact .inr ⟨G.γ T,o,us,rfl,g2,zB6 (fun _ _ hc=>zA2 (χ:=G.χ) zN0 hc) g4,fun j u hu=>⟨by grind [World.cell?],zE8 (zE6 g3)⟩⟩
   simp_all
 |agg f d =>
  simp only[yB7];split
  ·rename_i x hx;have hfit:=zS6 hx;simp[AVal.fitsT] at hfit;exact zJ6 (G:=Gh.frozen w) (tm:=#[]) hx rfl (by grind [zA,yW,zQ3])
  grind [zA]
 |fn f cs =>
  grind [yB7,zA,yJ5]
 |ref s τ p =>
  cases p with
  |nil =>
   cases k with
   |box τ' k =>
    simp only[yB7];cases hb:Ty.beq τ' τ with
    |false=>simp[zA]
    |true =>
     have e:=Ty.eq_of_beq hb;subst e;split
     ·rename_i x hx;obtain⟨hvt,cur,e,g1,g2,g3⟩:=zH8 (hk s rfl);simp only[zA] at hY;have hv:v=.pointer (some ⟨G.β s,0,none⟩):=by grind [Ty.poff]
      rw[hv];have hc:=zM3 (G:=Gh.frozen w) hx (yW g2 (zQ3 (zS6 hx)));exact zU3 hc (fun j u hu=>⟨by grind [World.cell?],zE8 (zE6 g1)⟩)
     grind [zA]
   |_=>grind [yB7,zA]
  |cons _ _=>simp[yB7,zA]
 |nilp=>simpa only[yB7,zA] using hY
 |_=>simp[yB7,zA]
theorem zV4 {χ χ':Nat→Nat→Nat}{w w':World}:∀ {τ:Ty}{x:τ.den}{vs:List Value},τ.noMem=true→zB5 χ w τ x vs→zB5 χ' w' τ x vs:=by
 intro τ
 induction τ with
 |int k=>intro x vs _ hc;exact hc
 |bool=>intro x vs _ hc;exact hc
 |str=>intro x vs _ hc;exact hc
 |nl=>intro x vs _ hc;exact hc
 |cons a b ha hb=>intro x vs hn hc;simp[Ty.noMem] at hn;obtain⟨us,ws,rfl,h1,h2⟩:=hc;exact⟨us,ws,rfl,ha hn.1 h1,hb hn.2 h2⟩
 |st f hf=>intro x vs hn hc;exact hf hn hc
 |arr n t ht=>intro x vs hn hc;exact⟨hc.1,zB6 (fun _ _ h=>ht hn h) hc.2⟩
 |sl t ht=>grind [Ty.noMem]
 |ptr t ht=>grind [Ty.noMem]
def Gh.unlend (G G':Gh)(b0:Nat):Gh:={ G' with χ:=fun b o=>if b<b0 then (G.callee []).χ b o else G'.χ b o }
theorem xK3 {χ χ':Nat→Nat→Nat}{w w':World}{k v:Ty}(hk:k.noMem=true)(hv:v.noMem=true):∀ {l:List (k.den×v.den×Unit)}{es:List MapEntry},xH χ w k v l es→xH χ' w' k v l es:=by
 intro l
 induction l with
 |nil=>intro es h;exact h
 |cons x l ih=>rintro es ⟨e,r,rfl,⟨a1,a2,a3⟩,⟨b1,b2,b3⟩,h3⟩;exact⟨e,r,rfl,⟨a1,zV4 hk a2,a3⟩,⟨b1,zV4 hv b2,b3⟩,ih h3⟩
theorem xZ2 {G':Gh}{w':World}(hF:Frame0 (Gh.frozen w).χ w G'.χ w'):∀ {A:AVal}{v:Value},A.scal=true→zA G' w' #[] none A v→zA (G.unlend G' w.heap.size) w' #[] none A v:=by
 intro A
 induction A with
 |val τ x=>intro v hs h;obtain⟨vs,h1,h2⟩:=h;exact⟨vs,zV4 hs h1,h2⟩
 |nil=>grind [zA]
 |own t l T m =>
  intro v hs h;simp only[AVal.scal] at hs;rcases h with h|⟨hmm,hM⟩
  rotate_left
  ·refine .inr ⟨hmm,?_⟩;obtain⟨k,e,l',ht,hl,es,clock,h1,h2,h3,h4⟩:=hM;have hnew:¬ G'.γ T<w.heap.size:=by
    intro hb;have h9:=(hF.cell _ 0 hb (by grind [zE8])).1
    grind [zE8,zA9]
   subst ht;simp only[Ty.noMem,Bool.and_eq_true] at hs;refine⟨k,e,l',rfl,hl,es,clock,h1,h2,xK3 hs.1 hs.2.1 h3,fun o=>?_⟩;simp_all [Gh.unlend,if_neg]
  refine .inl ⟨h.1,?_⟩;rcases h.2 with h|⟨cap,cur,e,us,h1,h2,h3,h4,h5,h6,h7,h8⟩
  ·grind
  ·have hnew:¬ G'.γ T<w.heap.size:=by
    intro hb;have h9:=(hF.cell _ (l.length*t.size) hb (by grind [zE8])).1;rw[zE8 hb,h8,if_neg (by omega)] at h9
    grind [zA9]
   refine .inr ⟨cap,cur,e,us,h1,h2,h3,h4,h5,zB6 (fun _ _ hc=>zV4 hs hc) h6,h7,fun o=>?_⟩;simp_all [Gh.unlend,if_neg]
 |tup b ih=>grind [AVal.scal,zA]
 |nl=>grind [zA]
 |cons x y ihx ihy=>grind [AVal.scal,zA]
 |_=>grind [AVal.scal]
theorem xA9 {G':Gh}{w':World}(hF:Frame0 (Gh.frozen w).χ w G'.χ w'):Back G w [] (G.unlend G' w.heap.size) w':=by
 refine⟨⟨hF.os,hF.tape,hF.output,hF.size,fun b hb _=>hF.block b hb (fun o=>by grind [zE8]),fun b o hb _=>⟨by simp_all [Gh.unlend],(hF.cell b o hb (by grind [zE8])).2⟩⟩,fun b hb=>?_⟩
 grind [zQ9,zG7]
theorem zX7 (hc:CtxOk P c)(hR:Rel c.n χ0 w0 S a w G){o:Oper}{fo:Operand}{args:Array Operand}{ats:Array TypeId}{f:Nat}{cs:AVal}{r:List AVal}{p:List Prop}{u:St}{hv:Bool}
  (ho:o.op=.call { callee:=.value fo,args,argTypes:=ats }) (hf:zA G w a.tmps none (.fn f cs) (a.eval fo)) (hr:zH1 (zA G w a.tmps none) r (args.toList.map a.eval)) (hcs:zI4 cs=true)
  (h:yE8 c o.dst f (r++cs.toL) ((r++cs.toL).map (zA3 S)) S=some (p,u,hv))
  (hlt:∀ e∈u,e.1<zA7) (hdo:∀ d,o.dst=some d→d<c.n) (hh:∀ s,∀ e∈u,(S.get s).hung e.1=false) (hp:∀ q∈p,q)
  {next:Act→World→Prop}{Q:Exit→Act→World→Prop}(hnext:∀ v w' G',Rel c.n χ0 w0 (u++S) (a.put o.dst v) w' G'→next (a.put o.dst v) w'):o.wpIn (fz rd) 0 P a w next Q:=by
 simp only[zA] at hf;obtain⟨vs,hfv,hcv⟩:=hf;have hcl:=yK0 (vs:=vs.toList) hcs (by simpa using hcv);have hys:=zN hr hcl;generalize hysd:r++cs.toL=ys at h hys;unfold yE8 at h;split at h
 ·cases h
 ·rename_i co hco;split at h
  ·rename_i d houts hd;obtain⟨sp,hmem,hsp⟩:=zR hco;have hok:=hc.fns f sp hmem;obtain⟨fn,h1,h2,h3⟩:=hok.1;have hrun:(execOp a.eval o).run P w=.ok (.enter f (args.toList.map a.eval++vs.toList).toArray) w:=by
    have harr:(args.toList.map a.eval++vs.toList).toArray=args.map a.eval++vs:=by apply Array.toList_inj.1;simp
    rw[harr];unfold execOp;have hbn:fn.body.isNone=false:=by cases hb:fn.body<;>simp_all
    simp[ho,resolve,hfv,Deferred.ofValue,invoke,callFunc,h1,h3];intro hb;simp[hb] at hbn
   generalize hvals:args.toList.map a.eval++vs.toList=vals at hys hrun;generalize hbb:(_&&zC0 (300000+d) S)=bb at h;cases bb with
   |false=>cases h
   |true =>
    simp only[Bool.and_eq_true] at hbb;obtain⟨⟨⟨⟨⟨⟨_,b1⟩,b2⟩,b3⟩,b4⟩,b5⟩,b6⟩:=hbb;simp only[cond_true,Option.some.injEq,Prod.mk.injEq] at h;obtain⟨rfl,rfl,_⟩:=h;refine zV1 hrun ((hok.2 _ co hsp hp (Gh.frozen w) w vals (by simp[zF3 hys]) (zH7 (χ:=G.χ) zN0 hR.glob) (fun i A v hA hv=>?_)).mono ?_)
    ·obtain⟨Y,k,hY,hk,rfl⟩:=yD8 hA;have hk':k=zA3 S Y:=by simp[hY] at hk;exact hk.symm
     subst hk';exact xS0 (kv:=match zD2 Y with|some s=>a.tmps.getD s undef|none=>undef) (zR1 hys hY hv) (fun s hs=>by rw[hs];exact zG6 hR hs)
    ·rintro e w' ⟨v,G',rfl,hF,hres,_⟩;refine⟨v,rfl,hnext v w' (G.back (G.unlend G' w.heap.size) w.heap.size (some d)) ?_⟩;rw[hd];refine yQ7 (dst:=some d) (res:=co.res) (ys:=[]) (u:=[]) hR hc.n (xA9 hF) (xZ2 hF b2 hres) b1 (fun b hb=>by simp[zQ9,zG7] at hb) (fun e he=>by cases he) hlt (fun d' e=>by injection e with e;subst e;exact hdo _ hd)
      (fun s d' e=>by injection e with e;subst e;exact hh s _ (List.mem_cons_self ..)) (fun d' e s j hj=>?_)
     injection e with e;subst e
     obtain rfl|rfl|rfl|rfl:j=0∨j=1∨j=2∨j=3:=by omega
     ·simpa using zF7 b3 s
     ·simpa using zF7 b4 s
     ·simpa using zF7 b5 s
     ·simpa using zF7 b6 s
  ·cases h
theorem xB (hc:CtxOk P c)(hR:Rel c.n χ0 w0 S a w G){o:Oper}{fo:Operand}{args:Array Operand}{ats:Array TypeId}{f:Nat}{cs:AVal}{r:List AVal}{p:List Prop}{u:St}{hv:Bool}
  (ho:o.op=.call { callee:=.value fo,args,argTypes:=ats }) (hf:zA G w a.tmps none (.fn f cs) (a.eval fo)) (hr:zH1 (zA G w a.tmps none) r (args.toList.map a.eval)) (hcs:zI4 cs=true)
  (h:xG6 c o.dst f (r++cs.toL) S=some (p,u,hv))
  (hlt:∀ e∈u,e.1<zA7) (hdo:∀ d,o.dst=some d→d<c.n) (hh:∀ s,∀ e∈u,(S.get s).hung e.1=false) (hp:∀ q∈p,q)
  {next:Act→World→Prop}{Q:Exit→Act→World→Prop}(hnext:∀ v w' G',Rel c.n χ0 w0 (u++S) (a.put o.dst v) w' G'→next (a.put o.dst v) w'):o.wpIn (fz rd) 0 P a w next Q:=by
 simp only[zA] at hf;obtain⟨vs,hfv,hcv⟩:=hf;have hcl:=yK0 (vs:=vs.toList) hcs (by simpa using hcv);have hys:=zN hr hcl;generalize hysd:r++cs.toL=ys at h hys;unfold xG6 at h;split at h
 ·rename_i t x T i U d hd;generalize hbb:(_&&zC0 d S)=bb at h;cases bb with
  |false=>cases h
  |true =>
   simp only[Bool.and_eq_true,List.any_eq_true] at hbb;obtain⟨⟨b1,⟨f',k'⟩,hm,b2⟩,b3⟩:=hbb;simp only at b2;have e:=Nat.eq_of_beq_eq_true b1;subst e;have e:=Nat.eq_of_beq_eq_true b2.1;subst e;have e:=Nat.eq_of_beq_eq_true b2.2;subst e;simp only[cond_true,Option.some.injEq,Prod.mk.injEq] at h;obtain⟨rfl,rfl,_⟩:=h;obtain⟨q1,q2⟩:=hp _ (List.mem_singleton.2 rfl);obtain⟨hok1,hok⟩:=hc.clones f' t.size hm;obtain⟨fn,h1,h2,h3⟩:=hok1;have hrun:(execOp a.eval o).run P w=.ok (.enter f' (args.toList.map a.eval++vs.toList).toArray) w:=by
    have harr:(args.toList.map a.eval++vs.toList).toArray=args.map a.eval++vs:=by apply Array.toList_inj.1;simp
    rw[harr];unfold execOp;have hbn:fn.body.isNone=false:=by cases hb:fn.body<;>simp_all
    simp[ho,resolve,hfv,Deferred.ofValue,invoke,callFunc,h1,h3];intro hb;simp[hb] at hbn
   generalize hvals:args.toList.map a.eval++vs.toList=vals at hys hrun;obtain⟨v,rfl⟩:∃ v,vals=[v]:=by
    have:=zF3 hys
    match vals,this with
    |[v],_=>exact⟨v,rfl⟩
   have hA:=zR1 hys (i:=0) rfl rfl;simp only[zA] at hA;obtain⟨hvt,⟨_,⟨_,y,ad,cap,hy,rfl,h4⟩ | ⟨hm,_⟩⟩ | ⟨hne,_⟩⟩:=hA
   rotate_left
   ·cases hm
   rotate_right
   ·simp only[List.cons.injEq,and_true] at hy;subst hy;rcases h4 with rfl|⟨o',us,cur,e,rfl,g2,g3,g4,g5,g6⟩
    ·simp at q1
    ·have hul:=zC5 (k:=t.size) (fun _ _ h=>zA1 h) g4;refine zV1 hrun ((hok (G.γ T) o' _ cap cur e us w q1 (by omega) g2 hul (yQ0 (fun _ _ h=>yG1 h) g4) g3 g5).mono ?_);rintro e' w' ⟨B,cap',cells,ty,rfl,z1,z2,z3,z4,z5,z6⟩;obtain⟨hx,hfr,hown⟩:=wE4 (d:=d) hR.frame hvt g4 z2 z1 z3 z4 z5 z6;refine⟨_,rfl,hnext _ w' (G.reown B d 0 true) ?_⟩;rw[hd];have htd:∀ R:St,zB8 d (AVal.lose d) S R=[]:=by
      intro R
      induction R with
      |nil=>rfl
      |cons e r ih=>obtain⟨s,A⟩:=e;simp only[zB8,zF7 b3 s,cond_false,ih]
     have:=zV (d:=d) (U:=d) (R:=.own t x d true) hR hc.n b3 hx hfr (fun tm=>by simp only[zA];exact hown) (by rw[htd];exact hlt) (hdo _ hd) (fun s=>hh s _ (List.mem_singleton.2 rfl));rw[htd] at this;exact this
   ·exact absurd rfl hne
 ·cases h
theorem yW0 {d:Nat}{v:Value}{G':Gh}{w':World}{gd:Gd}{A:AVal}(hs0:∀ {G:Gh}{w:World}{tm:Array Value}{v:Value},zA G w tm (some d) A v→zA G w tm none A v)(hlen:a.tmps.size=n)(hd:d<n)(hi:xF3 a.tmps gd)(hon:yQ4 a.tmps gd)(hA:(zF8 gd A).hung d=false)
  (h:Rel n χ0 w0 ([(d,A)]++S) (a.put (some d) v) w' G'):Rel n χ0 w0 ([(d,zF8 gd A)]++S) (a.put (some d) v) w' G':=by
 refine⟨h.len,h.defers,fun s=>?_,h.frame,h.glob⟩;have hs:=h.reps s;by_cases e:d=s
 ·subst e;simp[St.get] at hs ⊢;cases gd with
  |none=>exact hs
  |some q =>
   obtain⟨s',want,g⟩:=q;have hg:g=true:=(hi s' want g rfl).1 (hon s' want g rfl);have hne:s'≠d:=by
    intro e;simp_all [zF8,AVal.hung]
   refine⟨?_,fun _=>hs0 hs,fun e=>by grind⟩;rw[zD7 (by grind),if_neg hne];exact hi s' want g rfl
 ·have hb:Nat.beq d s=false:=by
   grind [Nat.beq,absurd,Nat.eq_of_beq_eq_true]
  simp_all [St.get]
theorem yA6 {dst:Option Nat}{f:Nat}{ys ks:List AVal}{p:List Prop}{d:Nat}{A:AVal}{u:St}{hv:Bool}(h:yE8 c dst f ys ks S=some (p,(d,A)::u,hv)):dst=some d:=by
 unfold yE8 at h;split at h
 ·cases h
 ·split at h
  ·rename_i d' _ _;generalize (_&&zC0 _ S)=bb at h;cases bb with
   |false=>cases h
   |true =>
    simp only[cond_true,Option.some.injEq,Prod.mk.injEq,List.cons.injEq] at h;obtain⟨_,⟨⟨rfl,_⟩,_⟩,_⟩:=h;rfl
  ·cases h
theorem xB0 (hc:CtxOk P c)(hR:Rel c.n χ0 w0 S a w G){gd:Gd}(hi:xF3 a.tmps gd)(hon:yQ4 a.tmps gd){o:Oper}{fo:Operand}{args:Array Operand}{ats:Array TypeId}{f:Nat}{cs:AVal}{r:List AVal}{p:List Prop}{u:St}{hv:Bool}
  (ho:o.op=.call { callee:=.value fo,args,argTypes:=ats }) (hf:zA G w a.tmps none (.fn f cs) (a.eval fo)) (hr:zH1 (zA G w a.tmps none) r (args.toList.map a.eval)) (hcs:zI4 cs=true)
  (h:yS4 c gd o.dst f (r++cs.toL) S=some (p,u,hv))
  (hlt:∀ e∈u,e.1<zA7) (hdo:∀ d,o.dst=some d→d<c.n) (hh:∀ s,∀ e∈u,(S.get s).hung e.1=false) (huu:∀ e∈u,∀ e'∈u,e.2.hung e'.1=false) (hp:∀ q∈p,q)
  {next:Act→World→Prop}{Q:Exit→Act→World→Prop}(hnext:∀ v w' G',Rel c.n χ0 w0 (u++S) (a.put o.dst v) w' G'→next (a.put o.dst v) w'):o.wpIn (fz rd) 0 P a w next Q:=by
 unfold yS4 at h;split at h
 ·rename_i p0 d t l T m _ hl;obtain⟨rfl,rfl,_⟩:=h;have hdst:o.dst=some d:=yA6 hl;have hd:d<c.n:=hdo d hdst;refine zX7 hc hR ho hf hr hcs hl (fun e he=>by simp at he;subst he;exact hlt (d,zF8 gd (.own t l T m)) (List.mem_singleton.2 rfl)) hdo (fun s e he=>by simp_all) (zM9 hi hon hp) (fun v w' G' h'=>?_);refine hnext v w' G' ?_;rw[hdst] at h' ⊢;exact yW0 (fun h=>h) hR.len hd hi hon (huu _ (List.mem_singleton.2 rfl) _ (List.mem_singleton.2 rfl)) h'
 ·rename_i p0 d τ x _ hl;obtain⟨rfl,rfl,_⟩:=h;have hdst:o.dst=some d:=yA6 hl;have hd:d<c.n:=hdo d hdst;refine zX7 hc hR ho hf hr hcs hl (fun e he=>by simp at he;subst he;exact hlt (d,zF8 gd (.val τ x)) (List.mem_singleton.2 rfl)) hdo (fun s e he=>by simp_all) (zM9 hi hon hp) (fun v w' G' h'=>?_);refine hnext v w' G' ?_;rw[hdst] at h' ⊢;exact yW0 (fun h=>h) hR.len hd hi hon (huu _ (List.mem_singleton.2 rfl) _ (List.mem_singleton.2 rfl)) h'
 ·cases h
theorem yE0 {f:Nat}{ys:List AVal}{q:List Prop×AVal}:∀ {exts:List (Nat×(List AVal→Option (List Prop×AVal)))},yH3 exts f ys=some q→∃ e,(f,e)∈exts∧e ys=some q:=by
 intro exts
 induction exts with
 |nil=>grind [yH3]
 |cons x r ih =>
  intro h;obtain⟨g,e⟩:=x;simp only[yH3] at h;cases hg:Nat.beq g f with
  |false=>grind
  |true=>simp_all
theorem xS1 (hc:CtxOk P c)(hR:Rel c.n χ0 w0 S a w G){gd:Gd}(hi:xF3 a.tmps gd)(hon:yQ4 a.tmps gd){o:Oper}{fo:Operand}{args:Array Operand}{ats:Array TypeId}{f:Nat}{cs:AVal}{r:List AVal}{p:List Prop}{u:St}{hv:Bool}
  (ho:o.op=.call { callee:=.value fo,args,argTypes:=ats }) (hf:zA G w a.tmps none (.fn f cs) (a.eval fo)) (hr:zH1 (zA G w a.tmps none) r (args.toList.map a.eval)) (hcs:zI4 cs=true)
  (h:zW8 c gd o.dst f (r++cs.toL)=some (p,u,hv))
  (hlt:∀ e∈u,e.1<zA7) (hdo:∀ d,o.dst=some d→d<c.n) (hh:∀ s,∀ e∈u,(S.get s).hung e.1=false) (huu:∀ e∈u,∀ e'∈u,e.2.hung e'.1=false) (hp:∀ q∈p,q)
  {next:Act→World→Prop}{Q:Exit→Act→World→Prop}(hnext:∀ v w' G',Rel c.n χ0 w0 (u++S) (a.put o.dst v) w' G'→next (a.put o.dst v) w'):o.wpIn (fz rd) 0 P a w next Q:=by
 obtain⟨vs,hfv,hcv⟩:=hf;have hcl:=yK0 (vs:=vs.toList) hcs (by simpa using hcv);have hys:=zN hr hcl;have hrun:∀ v,(callFunc f (args.toList.map a.eval++vs.toList).toArray).run P w=.ok (.value v) w→(execOp a.eval o).run P w=.ok (.value v) w:=by
  have harr:(args.toList.map a.eval++vs.toList).toArray=args.map a.eval++vs:=by grind
  grind [execOp,resolve,Deferred.ofValue,invoke]
 unfold zW8 at h;split at h
 ·rename_i p0 τ x d he hd;obtain⟨e,hm,he⟩:=yE0 he;obtain⟨rfl,rfl,rfl⟩:=h;obtain⟨v,h1,h2⟩:=hc.exts f e hm _ _ _ he (zM9 hi hon hp) G w a.tmps _ hys;refine zJ2 (hrun v h1) (hnext v w G ?_);rw[hd];exact zQ8 hR hc.n (hdo d hd) (fun s=>hh s (d,zF8 gd (.val τ x)) (by simp)) (huu (d,zF8 gd (.val τ x)) (by simp) (d,zF8 gd (.val τ x)) (by simp)) (zM8 hi hon h2)
 ·rename_i p0 b d he hd;obtain⟨e,hm,he⟩:=yE0 he;split at h
  ·generalize hbb:(_&&!(b.hung d))=bb at h;cases bb with
   |false=>grind
   |true =>
    obtain⟨rfl,rfl,rfl⟩:=h;obtain⟨v,h1,h2⟩:=hc.exts f e hm _ _ _ he hp G w a.tmps _ hys;refine zJ2 (hrun v h1) (hnext v w G ?_);rw[hd];exact zQ8 hR hc.n (hdo d hd) (fun s=>hh s (d,.tup b) (by simp)) (huu (d,.tup b) (by simp) (d,.tup b) (by simp)) h2
  grind
 grind
end Go.Am
namespace Go.Am
open Go Go.RowKit
variable {rd:Option Nat}{gtab:GlobTab}{P:Program}{c:Ctx}{G:Gh}{w:World}{tm:Array Value}{n:Nat}{χ0:Nat→Nat→Nat}{w0:World}{S:St}{a:Act}
theorem yG3 {χ:Nat→Nat→Nat}{t:Ty}:zB5 χ w (.sl t) ([]:List t.den) [.slice none 0 0]:=by
 grind [zB5]
theorem yA7 {t:Ty}{T:Nat}{m:Bool}(h:(t.plain&&!t.isL)=true):zF9 G w t [] T m (.slice none 0 0):=by
 simp  at h;exact .inl ⟨h,.inl ⟨rfl,rfl⟩⟩
theorem yR0 {t t':Ty}{l':List t'.den}{l2:(Ty.sl t).den}(h:Ty.cast (a:=.sl t') (.sl t) l'=some l2):t'=t∧HEq l' l2:=by
 grind [zC6]
theorem zX8:∀ {A B:AVal}{τ:Ty}{vs:List Value},(zA0 true A B).fitsT τ=true→zA8 G w τ A vs→zA8 G w τ (zA0 true A B) vs:=by
 intro A
 induction A with
 |val τ' x =>
  intro B τ vs hf h;cases B with
  |val τ2 y =>
   grind [zA0,AVal.fitsT]
  |nil =>
   cases τ'<;>simp[zA0,AVal.fitsT] at hf
   grind [zA0]
  |agg f b =>
   cases τ'<;>simp[zA0,AVal.fitsT] at hf
   grind [zA0,AVal.fitsT]
  |own t l T m =>
   grind [zA0,voA,AVal.fitsT]
  |_=>grind [zA0,AVal.fitsT]
 |nil =>
  intro B τ vs hf h;obtain⟨h1,rfl⟩:=h;cases B with
  |nil=>grind [zA0,zA8]
  |val τ2 y =>
   cases τ2<;>simp only[zA0,AVal.fitsT,Bool.false_eq_true] at hf;simp  at hf;have e:=Ty.eq_of_beq hf.1;subst e;exact⟨rfl,rfl,yG3⟩
  |own t l T m =>
   simp only[zA0] at hf ⊢;generalize hp:(t.plain&&!t.isL)=b at hf;cases b with
   |false=>grind [AVal.fitsT]
   |true =>
    simp  at hf ⊢;have e:=Ty.eq_of_beq hf;subst e;simp only[zA8];exact⟨trivial,_,rfl,yA7 hp⟩
  |_=>grind [zA0,AVal.fitsT]
 |own t l T m =>
  intro B τ vs hf h;cases B with
  |nil =>
   grind [zA0,AVal.fitsT]
  |own t' l' T' m' =>
   grind [zA0,Nat.beq,AVal.fitsT]
  |val τ2 y =>
   simp[zA0,ovA] at hf ⊢;cases m with
   |true=>grind [AVal.fitsT]
   |false =>
    simp  at hf ⊢;split at hf
    ·obtain⟨rfl,v,rfl,ho⟩:=h;simp only[zA8];exact⟨trivial,rfl,zD3 ho⟩
    grind [AVal.fitsT]
  |_=>grind [zA0,AVal.fitsT]
 |agg f x ih =>
  intro B τ vs hf h;cases B with
  |agg f' b =>
   grind [zA0,AVal.fitsT,zA8]
  |val τ2 y =>
   cases τ2<;>simp[zA0,AVal.fitsT] at hf;simp only[zA0] at hf ⊢;split at hf
   ·rename_i x' hx;have hfit:=zS6 hx;simp[AVal.fitsT] at hfit;have e:=Ty.eq_of_beq hfit.1;injection e with e
    subst e;obtain⟨rfl,h⟩:=h;simp only[zA8];exact⟨trivial,rfl,zM3 (A:=.agg f x) hx (by grind [zA8])⟩
   grind [AVal.fitsT]
  |_=>grind [zA0,AVal.fitsT]
 |nl =>
  intro B τ vs hf h;cases B<;>grind [zA0,AVal.fitsT]
 |cons x y ihx ihy =>
  intro B τ vs hf h;cases B with
  |cons x' y' =>
   obtain⟨h1,t1,us,ws,rfl,rfl,h2,h3⟩:=h;simp[zA0,AVal.fitsT,zF1] at hf;exact⟨_,_,_,_,rfl,rfl,ihx hf.1 h2,ihy hf.2 h3⟩
  |_=>grind [zA0,AVal.fitsT]
 |junk=>grind [zA0,AVal.fitsT]
 |_=>grind [zA8]
theorem zX9:∀ {A B:AVal}{τ:Ty}{vs:List Value},(zA0 false A B).fitsT τ=true→zA8 G w τ B vs→zA8 G w τ (zA0 false A B) vs:=by
 intro A
 induction A with
 |val τ' x =>
  intro B τ vs hf h;cases B with
  |val τ2 y =>
   grind [zA0,zC6,AVal.fitsT]
  |nil =>
   obtain⟨h1,rfl⟩:=h;cases τ'<;>simp only[zA0,AVal.fitsT,Bool.false_eq_true] at hf;simp  at hf;have e:=Ty.eq_of_beq hf.1;subst e;simp only[zA0,zA8];exact⟨trivial,rfl,yG3⟩
  |agg f b =>
   cases τ'<;>simp[zA0,AVal.fitsT] at hf;simp[zA0] at hf ⊢;split at hf
   ·rename_i x' hx;have hfit:=zS6 hx;simp[AVal.fitsT] at hfit;have e:=Ty.eq_of_beq hfit.1;injection e with e
    subst e;obtain⟨rfl,h⟩:=h;simp only[zA8];exact⟨trivial,rfl,zM3 (A:=.agg f b) hx (by grind [zA8])⟩
   grind [AVal.fitsT]
  |own t l T m =>
   simp[zA0,voA] at hf ⊢;cases m with
   |true=>grind [AVal.fitsT]
   |false =>
    simp  at hf ⊢;split at hf
    ·rename_i z hz;obtain⟨e,hz⟩:=zC6 hz;subst e;subst hz;obtain⟨rfl,v,rfl,ho⟩:=h;simp only[zA8];exact⟨trivial,rfl,zD3 ho⟩
    grind [AVal.fitsT]
  |_=>grind [zA0,AVal.fitsT]
 |nil =>
  intro B τ vs hf h;cases B with
  |nil=>exact h
  |val τ2 y =>
   cases τ2<;>simp[zA0,AVal.fitsT] at hf
   grind [zA0]
  |own t l T m =>
   grind [zA0,AVal.fitsT]
  |_=>grind [zA0,AVal.fitsT]
 |own t l T m =>
  intro B τ vs hf h;cases B with
  |nil =>
   obtain⟨h1,rfl⟩:=h;simp only[zA0] at hf ⊢;generalize hp:(t.plain&&!t.isL)=b at hf;cases b with
   |false=>grind [AVal.fitsT]
   |true =>
    simp  at hf ⊢;have e:=Ty.eq_of_beq hf;subst e;simp only[zA8];exact⟨trivial,_,rfl,yA7 hp⟩
  |own t' l' T' m' =>
   simp only[zA0] at hf ⊢;generalize hb:(Nat.beq T T'&&(m==m'))=b at hf;cases b with
   |false=>grind [AVal.fitsT]
   |true =>
    simp  at hb
    grind [yR0,AVal.fitsT]
  |val τ2 y =>
   grind [zA0,ovA,AVal.fitsT,zC6]
  |_=>grind [zA0,AVal.fitsT]
 |agg f x ih =>
  intro B τ vs hf h;cases B with
  |agg f' b =>
   simp only[zA0] at hf ⊢;generalize hb:(Ty.beq f f'&&AVal.fits f (zA0 false x b))=bb at hf;cases bb with
   |false=>grind [AVal.fitsT]
   |true =>
    simp  at hb;have e:=Ty.eq_of_beq hb.1;subst e;exact⟨h.1,ih hb.2 h.2⟩
  |val τ2 y =>
   cases τ2<;>simp[zA0,AVal.fitsT] at hf
   grind [zA0,AVal.fitsT]
  |_=>grind [zA0,AVal.fitsT]
 |nl =>
  intro B τ vs hf h;cases B<;>grind [zA0,AVal.fitsT]
 |cons x y ihx ihy =>
  intro B τ vs hf h;cases B with
  |cons x' y' =>
   obtain⟨h1,t1,us,ws,rfl,rfl,h2,h3⟩:=h;simp[zA0,AVal.fitsT,zF1] at hf;exact⟨_,_,_,_,rfl,rfl,ihx hf.1 h2,ihy hf.2 h3⟩
  |_=>grind [zA0,AVal.fitsT]
 |_=>intro B τ vs hf h;cases B<;>simp[zA0,AVal.fitsT,zA8] at hf h
theorem zY:∀ {A B:AVal}{os:Option Nat}{v:Value},zA G w tm os A v→zA G w tm os (zA0 true A B) v:=by
 intro A
 induction A with
 |val τ' x =>
  intro B os v h;cases B with
  |val τ2 y =>
   grind [zA0,zA]
  |nil=>cases τ'<;>simp only[zA0,cond_true,zA];exact h
  |agg f b =>
   cases τ'<;>simp only[zA0,cond_true,zA]
   grind [zA]
  |own t l T m =>
   simp only[zA0,voA];cases m with
   |true=>simp only[cond_true,zA]
   |false =>
    simp only[cond_false]
    grind [zA]
  |_=>grind [zA0,zA]
 |nil =>
  intro B os v h;simp only[zA] at h;subst h;cases B with
  |nil=>grind [zA0,zA]
  |val τ2 y =>
   cases τ2<;>simp only[zA0,cond_true]<;>first|exact zO4 yG3|grind [zA]
  |own t l T m =>
   simp only[zA0];generalize hp:(t.plain&&!t.isL)=b;cases b with
   |false=>simp only[cond_false,zA]
   |true=>simp only[cond_true,zA];exact yA7 hp
  |_=>grind [zA0,zA]
 |own t l T m =>
  intro B os v h;cases B with
  |nil =>
   simp only[zA0];cases (t.plain&&!t.isL)<;>simp_all [cond_false,zA,cond_true]
  |own t' l' T' m' =>
   simp only[zA0];cases (Nat.beq T T'&&(m==m')) with
   |false=>simp only[cond_false,zA]
   |true =>
    simp only[cond_true]
    grind [zA]
  |val τ2 y =>
   simp only[zA0,ovA];cases m with
   |true=>simp only[cond_true,zA]
   |false =>
    simp only[cond_false]
    grind [zA,zO4,zD3]
  |_=>simp only[zA0,zA]
 |box τ x _ =>
  intro B os v h;cases B with
  |box τ' y =>
   simp only[zA0];generalize hb:(Ty.beq τ τ'&&AVal.fits τ (zA0 true x y))=b;cases b with
   |false=>simp only[cond_false,zA]
   |true =>
    simp only[Bool.and_eq_true] at hb;simp only[cond_true];cases os with
    |none=>grind [zA]
    |some s =>
     simp only[zA] at h ⊢;obtain⟨h1,h2,cur,e,h3,h4,h5⟩:=h;exact⟨h1,h2,cur,e,h3,zX8 hb.2 h4,h5⟩
  |_=>simp only[zA0,zA]
 |ref s τ p =>
  intro B os v h;cases p with
  |nil =>
   cases B with
   |ref s' τ' p' =>
    cases p' with
    |nil =>
     simp only[zA0];cases (Nat.beq s s'&&Ty.beq τ τ')<;>simp_all [cond_false,zA,cond_true]
    |cons _ _=>grind [zA0,zA]
   |nilp=>simp only[zA0,zA] at h ⊢;exact h.2
   |pn b s' τ' =>
    simp only[zA0];cases (Nat.beq s s'&&Ty.beq τ τ') with
    |false=>simp only[cond_false,zA]
    |true=>simp only[cond_true,zA] at h ⊢;exact h.2
   |_=>simp only[zA0,zA]
  |cons _ _=>grind [zA0,zA]
 |nilp =>
  intro B os v h;cases B with
  |ref s τ p=>cases p<;>simp only[zA0,zA,if_true] at h ⊢;exact h
  |pn b s τ=>simp only[zA0,zA,cond_true,if_true] at h ⊢;exact h
  |nilp=>exact h
  |_=>simp only[zA0,zA]
 |pn b s τ =>
  intro B os v h;cases B with
  |ref s' τ' p =>
   cases p with
   |nil =>
    simp only[zA0];cases (Nat.beq s s'&&Ty.beq τ τ') with
    |false=>simp only[cond_false,zA]
    |true=>exact h
   |cons _ _=>simp only[zA0,zA]
  |pn b' s' τ' =>
   simp only[zA0];cases (Nat.beq s s'&&Ty.beq τ τ') with
   |false=>simp only[cond_false,zA]
   |true=>exact h
  |nilp=>exact h
  |_=>simp only[zA0,zA]
 |nl =>
  intro B os v h;cases B<;>simp_all [zA0,zA]
 |cons x y ihx ihy =>
  intro B os v h;cases B with
  |cons x' y' =>
   obtain⟨u,us,rfl,h1,h2⟩:=h;simp only[zA0,zA];exact⟨u,us,rfl,ihx h1,ihy h2⟩
  |_=>simp[zA0,zA]
 |agg f x _ =>
  intro B os v h;cases B with
  |agg f' b =>
   simp only[zA0];generalize hb:(Ty.beq f f'&&AVal.fits f (zA0 true x b))=bb;cases bb with
   |false=>simp[zA]
   |true =>
    simp  at hb;obtain⟨vs,h1,h2⟩:=h;exact⟨vs,h1,zX8 hb.2 h2⟩
  |val τ2 y =>
   cases τ2<;>simp[zA0,zA];split
   ·rename_i x' hx;exact zJ6 hx rfl (zP1 h (by grind) (by grind) (by grind))
   grind [zA]
  |_=>simp[zA0,zA]
 |tup x ih =>
  intro B os v h;cases B<;>simp_all [zA0,zA]
 |ownh t l T i U m =>
  intro B os v h;cases B with
  |ownh t' l' T' i' U' m' =>
   simp only[zA0];cases (Nat.beq T T'&&Nat.beq U U'&&(m==m')) with
   |false=>simp[zA]
   |true =>
    grind [zA]
  |_=>simp only[zA0,zA]
 |_=>intro B os v h;cases B<;>simp only[zA0,zA]
theorem zY0:∀ {A B:AVal}{os:Option Nat}{v:Value},zA G w tm os B v→zA G w tm os (zA0 false A B) v:=by
 intro A
 induction A with
 |val τ' x =>
  intro B os v h;cases B with
  |val τ2 y =>
   simp only[zA0];split
   ·rename_i z hz;obtain⟨e,hz⟩:=zC6 hz;subst e;subst hz;exact h
   ·simp only[zA]
  |nil =>
   simp only[zA] at h;subst h;cases τ'<;>simp only[zA0,cond_false]<;>first|exact zO4 yG3|simp only[zA]
  |agg f b =>
   cases τ'<;>simp only[zA0,cond_false,zA];split
   ·rename_i x' hx;simp only[zA];exact zJ6 hx rfl (zP1 h (by intro _ _ e;cases e) (by intro e;cases e) (by intro _ _ _ e;cases e))
   ·simp only[zA]
  |own t l T m =>
   simp only[zA0,voA];cases m with
   |true=>simp only[cond_true,zA]
   |false =>
    simp only[cond_false];split
    ·rename_i z hz;obtain⟨e,hz⟩:=zC6 hz;subst e;subst hz;simp only[zA] at h;exact zO4 (zD3 h)
    ·simp only[zA]
  |_=>cases τ'<;>simp only[zA0,zA]
 |nil =>
  intro B os v h;cases B with
  |nil=>exact h
  |val τ2 y=>cases τ2<;>simp only[zA0,cond_false,zA];exact h
  |own t l T m =>
   simp only[zA0];cases (t.plain&&!t.isL) with
   |false=>simp only[cond_false,zA]
   |true=>exact h
  |_=>simp only[zA0,zA]
 |own t l T m =>
  intro B os v h;cases B with
  |nil =>
   simp only[zA] at h;subst h;simp only[zA0];generalize hp:(t.plain&&!t.isL)=b;cases b with
   |false=>simp only[cond_false,zA]
   |true=>simp only[cond_true,cond_false,zA];exact yA7 hp
  |own t' l' T' m' =>
   simp only[zA0];generalize hb:(Nat.beq T T'&&(m==m'))=b;cases b with
   |false=>simp only[cond_false,zA]
   |true =>
    simp only[Bool.and_eq_true,beq_iff_eq] at hb;have e:=Nat.eq_of_beq_eq_true hb.1;obtain⟨_,hb⟩:=hb;subst e;subst hb;simp only[cond_true];split
    ·rename_i z hz;obtain⟨e,hz⟩:=yR0 hz;subst e;have:=eq_of_heq hz;subst this;exact h
    ·simp only[zA]
  |val τ2 y =>
   simp only[zA0,ovA];cases m with
   |true=>simp only[cond_true,zA]
   |false =>
    simp only[cond_false];split
    ·rename_i z hz;obtain⟨e,hz⟩:=zC6 hz;subst e;subst hz;exact h
    ·simp only[zA]
  |_=>simp only[zA0,zA]
 |box τ x _ =>
  intro B os v h;cases B with
  |box τ' y =>
   simp only[zA0];generalize hb:(Ty.beq τ τ'&&AVal.fits τ (zA0 false x y))=b;cases b with
   |false=>simp only[cond_false,zA]
   |true =>
    simp only[Bool.and_eq_true] at hb;have e:=Ty.eq_of_beq hb.1;subst e;simp only[cond_true];cases os with
    |none=>simp only[zA] at h
    |some s =>
     simp only[zA] at h ⊢;obtain⟨h1,h2,cur,e,h3,h4,h5⟩:=h;exact⟨h1,h2,cur,e,h3,zX9 hb.2 h4,h5⟩
  |_=>simp only[zA0,zA]
 |ref s τ p =>
  intro B os v h;cases p with
  |nil =>
   cases B with
   |ref s' τ' p' =>
    cases p' with
    |nil =>
     simp only[zA0];generalize hb:(Nat.beq s s'&&Ty.beq τ τ')=b;cases b with
     |false=>simp only[cond_false,zA]
     |true =>
      simp only[Bool.and_eq_true] at hb;have e:=Nat.eq_of_beq_eq_true hb.1;have e':=Ty.eq_of_beq hb.2;subst e;subst e';exact h
    |cons _ _=>simp only[zA0,zA]
   |nilp=>simp only[zA0,zA,Bool.not_false,if_true] at h ⊢;exact h
   |pn b s' τ' =>
    simp only[zA0];generalize hb:(Nat.beq s s'&&Ty.beq τ τ')=bb;cases bb with
    |false=>simp only[cond_false,zA]
    |true =>
     simp only[Bool.and_eq_true] at hb;have e:=Nat.eq_of_beq_eq_true hb.1;subst e;simp only[cond_true,cond_false,zA] at h ⊢;exact h
   |_=>simp only[zA0,zA]
  |cons _ _=>cases B<;>simp only[zA0,zA]
 |nilp =>
  intro B os v h;cases B with
  |ref s τ p=>cases p<;>simp only[zA0,zA] at h ⊢;exact h.2
  |pn b s τ=>simp only[zA0,zA,cond_false] at h ⊢;exact h
  |nilp=>exact h
  |_=>simp only[zA0,zA]
 |pn b s τ =>
  intro B os v h;cases B with
  |ref s' τ' p =>
   cases p with
   |nil =>
    simp only[zA0];generalize hb:(Nat.beq s s'&&Ty.beq τ τ')=bb;cases bb with
    |false=>simp only[cond_false,zA]
    |true =>
     simp only[Bool.and_eq_true] at hb;have e:=Nat.eq_of_beq_eq_true hb.1;subst e;simp only[cond_true,cond_false,zA] at h ⊢;exact h.2
   |cons _ _=>simp only[zA0,zA]
  |pn b' s' τ' =>
   simp only[zA0];generalize hb:(Nat.beq s s'&&Ty.beq τ τ')=bb;cases bb with
   |false=>simp only[cond_false,zA]
   |true =>
    simp only[Bool.and_eq_true] at hb;have e:=Nat.eq_of_beq_eq_true hb.1;subst e;exact h
  |nilp=>simp only[zA0,zA,cond_false,if_true] at h ⊢;exact h
  |_=>simp only[zA0,zA]
 |nl =>
  intro B os v h;cases B with
  |nl=>exact h
  |_=>simp only[zA0,zA]
 |cons x y ihx ihy =>
  intro B os v h;cases B with
  |cons x' y' =>
   simp only[zA] at h;obtain⟨u,us,rfl,h1,h2⟩:=h;simp only[zA0,zA];exact⟨u,us,rfl,ihx h1,ihy h2⟩
  |_=>simp only[zA0,zA]
 |agg f x _ =>
  intro B os v h;cases B with
  |agg f' b =>
   simp only[zA0];generalize hb:(Ty.beq f f'&&AVal.fits f (zA0 false x b))=bb;cases bb with
   |false=>simp only[cond_false,zA]
   |true =>
    simp only[Bool.and_eq_true] at hb;have e:=Ty.eq_of_beq hb.1;subst e;simp only[cond_true,zA] at h ⊢;obtain⟨vs,h1,h2⟩:=h;exact⟨vs,h1,zX9 hb.2 h2⟩
  |val τ2 y =>
   cases τ2<;>simp only[zA0,zA];split
   ·exact h
   ·simp only[zA]
  |_=>simp only[zA0,zA]
 |tup x ih =>
  intro B os v h;cases B with
  |tup b=>simp only[zA0,zA] at h ⊢;exact ih h
  |_=>simp only[zA0,zA]
 |ownh t l T i U m =>
  intro B os v h;cases B with
  |ownh t' l' T' i' U' m' =>
   simp only[zA0];generalize hb:(Nat.beq T T'&&Nat.beq U U'&&(m==m'))=b;cases b with
   |false=>simp only[cond_false,zA]
   |true =>
    simp only[Bool.and_eq_true,beq_iff_eq] at hb;have e1:=Nat.eq_of_beq_eq_true hb.1.1;have e2:=Nat.eq_of_beq_eq_true hb.1.2;obtain⟨_,e3⟩:=hb;subst e1;subst e2;subst e3;simp only[cond_true];split
    ·rename_i z hz;obtain⟨e,hz⟩:=zC6 hz;injection e with e
     injection e with e
     subst e;have hz:l'=z:=hz;subst hz;exact h
    ·simp only[zA]
  |_=>simp only[zA0,zA]
 |_=>intro B os v h;cases B<;>simp only[zA0,zA]
def yW1 (g:Bool)(s:Nat)(A B:AVal):AVal:=bif Nat.blt s vNo then zA0 g A B else zL2 g A B
theorem zV5 {m g:Bool}{τ τ':Ty}{x y:AVal}{s:Nat}{v:Value}(h:m=true→AVal.fits τ (zA0 g x y)=true→Ty.beq τ τ'=true→zQ1 G w s τ (zA0 g x y)):zA G w tm (some s) (wH m τ τ' g x y) v:=by
 unfold wH;generalize hb:(Ty.beq τ τ'&&AVal.fits τ (zA0 g x y))=b;cases b with
 |false=>simp only[cond_false,zA]
 |true =>
  simp only[Bool.and_eq_true] at hb;simp only[cond_true,zA];exact fun hm=>h hm hb.2 hb.1
theorem yC6 {s:Nat}{τ:Ty}{x y:AVal}(hf:AVal.fits τ (zA0 true x y)=true)(h:zQ1 G w s τ x):zQ1 G w s τ (zA0 true x y):=by
 obtain⟨h2,cur,e,h3,h4,h5⟩:=h;exact⟨h2,cur,e,h3,zX8 hf h4,h5⟩
theorem yC7 {s:Nat}{τ τ':Ty}{x y:AVal}(hf:AVal.fits τ (zA0 false x y)=true)(he:Ty.beq τ τ'=true)(h:zQ1 G w s τ' y):zQ1 G w s τ (zA0 false x y):=by
 have e:=Ty.eq_of_beq he;subst e;obtain⟨h2,cur,e,h3,h4,h5⟩:=h;exact⟨h2,cur,e,h3,zX9 hf h4,h5⟩
theorem yE1 {s:Nat}{A B:AVal}{v:Value}(h:zA G w tm (some s) A v):zA G w tm (some s) (yW1 true s A B) v:=by
 unfold yW1;cases Nat.blt s vNo with
 |true=>exact zY h
 |false =>
  simp only[cond_false];cases A with
  |box τ x =>
   simp only[zA] at h;cases B with
   |junk=>simp only[zL2,zA];exact fun _=>h.2
   |may m τ' y=>exact zV5 fun _ hf _=>yC6 hf h.2
   |box τ' y=>exact zY (A:=.box τ x) (B:=.box τ' y) (by simp only[zA];exact h)
   |_=>simp only[zL2,zA0,zA]
  |may m τ x =>
   simp only[zA] at h;cases B with
   |junk=>simp only[zL2,cond_true,zA];exact h
   |box τ' y=>exact zV5 fun hm hf _=>yC6 hf (h hm)
   |may m' τ' y=>exact zV5 fun hm hf _=>yC6 hf (h hm)
   |_=>simp only[zL2,zA0,zA]
  |junk =>
   cases B with
   |box τ' y=>simp only[zL2,zA];exact fun h=>by cases h
   |may m' τ' y=>simp only[zL2,cond_true,zA];exact fun h=>by cases h
   |_=>simp only[zL2,zA0,zA]
  |_=>exact zY h
theorem yW2 {s:Nat}{A B:AVal}{v:Value}(h:zA G w tm (some s) B v):zA G w tm (some s) (yW1 false s A B) v:=by
 unfold yW1;cases Nat.blt s vNo with
 |true=>exact zY0 h
 |false =>
  simp only[cond_false];cases A with
  |box τ x =>
   cases B with
   |junk=>simp only[zL2,zA];exact fun h=>by cases h
   |may m τ' y=>simp only[zA] at h;exact zV5 fun hm hf he=>yC7 hf he (h hm)
   |box τ' y=>exact zY0 (A:=.box τ x) (B:=.box τ' y) h
   |_=>simp only[zL2,zA0,zA]
  |may m τ x =>
   cases B with
   |junk=>simp only[zL2,cond_false,zA];exact fun h=>by cases h
   |box τ' y=>simp only[zA] at h;exact zV5 fun _ hf he=>yC7 hf he h.2
   |may m' τ' y=>simp only[zA] at h;exact zV5 fun hm hf he=>yC7 hf he (h hm)
   |_=>simp only[zL2,zA0,zA]
  |junk =>
   cases B with
   |box τ' y=>simp only[zL2,zA] at h ⊢;exact fun _=>h.2
   |may m' τ' y=>simp only[zL2,cond_false,zA] at h ⊢;exact h
   |_=>simp only[zL2,zA0,zA]
  |_=>exact zY0 h
def St.hasCut (d:St):Bool:=d.any fun e=>Nat.beq e.1 zA7
theorem yC8 {g:Bool}{d1 d2:St}{s:Nat}:∀ {ks:St}{R:St},(yH4 g d1 d2 S ks++R).get s=.junk∨(yH4 g d1 d2 S ks++R).get s=yW1 g s ((d1++S).get s) ((d2++S).get s) ∨
  (St.has s ks=false∧St.hasCut ks=false∧(yH4 g d1 d2 S ks++R).get s=R.get s):=by
 intro ks
 induction ks with
 |nil=>exact .inr (.inr ⟨rfl,rfl,rfl⟩)
 |cons e r ih =>
  obtain⟨k,A⟩:=e;simp only[yH4,St.get,List.cons_append];cases hk:Nat.beq k s with
  |true =>
   have:=Nat.eq_of_beq_eq_true hk;subst this;simp only[cond_true];cases Nat.beq k zA7 with
   |true=>exact fun {_}=>.inl rfl
   |false=>exact fun {_}=>.inr (.inl rfl)
  |false =>
   cases hc:Nat.beq k zA7<;>simp_all [St.has,St.hasCut]
theorem yR1 {d1 d2:St}{s:Nat}(h1:St.has s (zZ4 d1++(zZ4 d2++(zI6 d1++zI6 d2)))=false)(h2:St.hasCut (zZ4 d1++(zZ4 d2++(zI6 d1++zI6 d2)))=false) :
  (d1++S).get s=S.get s∧(d2++S).get s=S.get s:=by
 have hc:∀ d:St,(∀ e∈d,e∈d1∨e∈d2)→(∀ e∈d,e.1≠zA7)∧St.has s d=false:=by
  intro d hd;have key:∀ e∈d,e.1≠zA7∧Nat.beq e.1 s=false:=by
   intro e he;simp only[St.has,St.hasCut,List.any_eq_false,List.mem_append,zZ4,zI6,List.mem_filter] at h1 h2;have hcut:e.1≠zA7:=by
    grind [Nat.beq,Nat.beq_refl]
   have hb:(!(Nat.beq e.1 zA7))=true:=by
    grind
   refine⟨hcut,?_⟩;rcases hd e he with h|h
   ·exact Bool.eq_false_iff.2 (h1 e (.inl ⟨h,hb⟩))
   ·exact Bool.eq_false_iff.2 (h1 e (.inr (.inl ⟨h,hb⟩)))
  grind [St.has,List.any_eq_false]
 grind [zJ9]
theorem zR6 {d1 d2:St}(hR:Rel n χ0 w0 (d1++S) a w G):Rel n χ0 w0 (zF true d1 d2 S++S) a w G:=by
 refine⟨hR.len,hR.defers,fun s=>?_,hR.frame,hR.glob⟩;have h:=hR.reps s;unfold zF;rcases yC8 (g:=true) (d1:=d1) (d2:=d2) (S:=S) (s:=s) (ks:=zZ4 d1++(zZ4 d2++(zI6 d1++zI6 d2))) (R:=S) with e|e|⟨e1,e2,e⟩
 ·grind [zA]
 ·rw[e];exact yE1 h
 ·rw[e,← (yR1 e1 e2).1];grind
theorem zN1 {d1 d2:St}(hR:Rel n χ0 w0 (d2++S) a w G):Rel n χ0 w0 (zF false d1 d2 S++S) a w G:=by
 refine⟨hR.len,hR.defers,fun s=>?_,hR.frame,hR.glob⟩;have h:=hR.reps s;unfold zF;rcases yC8 (g:=false) (d1:=d1) (d2:=d2) (S:=S) (s:=s) (ks:=zZ4 d1++(zZ4 d2++(zI6 d1++zI6 d2))) (R:=S) with e|e|⟨e1,e2,e⟩
 ·grind [zA]
 ·rw[e];exact yW2 h
 ·rw[e,← (yR1 e1 e2).2];grind
theorem xK4 {g:Bool}{d1 d2:St}{e:Nat×AVal}:∀ {ks:St},e∈ks→∃ A,(e.1,A)∈yH4 g d1 d2 S ks:=by
 intro ks
 induction ks with
 |nil=>intro h;cases h
 |cons e' r ih =>
  intro h;rcases List.mem_cons.1 h with h|h
  ·subst h;exact⟨_,List.mem_cons_self⟩
  ·obtain⟨A,hA⟩:=ih h;exact⟨A,List.mem_cons_of_mem _ hA⟩
theorem xK5 {g:Bool}{u:St}{e:Nat×AVal}(h:e∈u):∃ A,(e.1,A)∈zF g u [] S:=by
 unfold zF;refine xK4 ?_;simp only[zZ4,zI6,List.mem_append,List.mem_filter];cases hc:Nat.beq e.1 zA7 with
 |true=>exact .inr (.inr (.inl ⟨h,rfl⟩))
 |false=>exact .inl ⟨h,by simp⟩
theorem xK6 {d s:Nat}{want:Bool}{R:AVal}{u:St}{v:Value}{G':Gh}{w':World}(hpr:zK1 R=true)(hlen:a.tmps.size=n)(hd:d<n)(hdc:Nat.beq d zA7=false)(hi:xF3 a.tmps (some (s,want,true)))(hA:(zF8 (some (s,want,true)) R).hung d=false)
  (h:Rel n χ0 w0 ((d,R)::u++S) (a.put (some d) v) w' G'):Rel n χ0 w0 ((d,zF8 (some (s,want,true)) R)::zF true u [] S++S) (a.put (some d) v) w' G':=by
 refine⟨h.len,h.defers,fun k=>?_,h.frame,h.glob⟩;have hs:=h.reps k;by_cases e:d=k
 ·subst e;simp[St.get] at hs ⊢;have hne:s≠d:=by
   intro e;simp_all [zF8,AVal.hung]
  refine⟨?_,fun _=>yN7 hpr (fun _ _ _ h=>⟨h,rfl⟩) hs,fun e=>by grind⟩;rw[zD7 (by grind),if_neg hne];exact hi s want true rfl
 ·have hb:Nat.beq d k=false:=by
   grind [Nat.beq,absurd,Nat.eq_of_beq_eq_true]
  have hs:zA G' w' (a.put (some d) v).tmps (some k) (St.get (u++S) k) ((a.put (some d) v).tmps.getD k undef):=by simpa[St.get,hb,hdc] using hs
  have hg:St.get ((d,zF8 (some (s,want,true)) R)::zF true u [] S++S) k=St.get (zF true u [] S++S) k:=by simp[St.get,hb,hdc]
  rw[hg];unfold zF;rcases yC8 (g:=true) (d1:=u) (d2:=[]) (S:=S) (s:=k) (ks:=zZ4 u++(zZ4 []++(zI6 u++zI6 []))) (R:=S) with e|e|⟨e1,e2,e⟩
  ·rw[e];simp only[zA]
  ·rw[e];exact yE1 hs
  ·rw[e,← (yR1 e1 e2).1];exact hs
theorem yW3 (hc:CtxOk P c)(hR:Rel c.n χ0 w0 S a w G){q:Nat×Bool×Bool}(hi:xF3 a.tmps (some q))(hon:yQ4 a.tmps (some q)){o:Oper}{fo:Operand}{args:Array Operand}{ats:Array TypeId}{f:Nat}{cs:AVal}{r:List AVal}{p:List Prop}{u:St}{hv:Bool}
  (ho:o.op=.call { callee:=.value fo,args,argTypes:=ats }) (hf:zA G w a.tmps none (.fn f cs) (a.eval fo)) (hr:zH1 (zA G w a.tmps none) r (args.toList.map a.eval)) (hcs:zI4 cs=true)
  (h:yS5 c q o.dst f (r++cs.toL) S=some (p,u,hv))
  (hlt:∀ e∈u,e.1<zA7) (hdo:∀ d,o.dst=some d→d<c.n) (hh:∀ s,∀ e∈u,(S.get s).hung e.1=false) (huu:∀ e∈u,∀ e'∈u,e.2.hung e'.1=false) (hp:∀ q∈p,q)
  {next:Act→World→Prop}{Q:Exit→Act→World→Prop}(hnext:∀ v w' G',Rel c.n χ0 w0 (u++S) (a.put o.dst v) w' G'→next (a.put o.dst v) w'):o.wpIn (fz rd) 0 P a w next Q:=by
 obtain⟨s,want,g⟩:=q;have hg:g=true:=(hi s want g rfl).1 (hon s want g rfl);subst hg;unfold yS5 at h;split at h
 ·rename_i p0 d' R u0 hv0 d hl hd;cases hdd:(Nat.beq d' d&&zK1 R) with
  |false=>simp only[hdd,cond_false] at h;cases h
  |true =>
   simp only[hdd,cond_true,Option.some.injEq,Prod.mk.injEq] at h;have hpr:=(Bool.and_eq_true_iff.1 hdd).2;have hdd:=Nat.eq_of_beq_eq_true (Bool.and_eq_true_iff.1 hdd).1;subst hdd;obtain⟨rfl,rfl,_⟩:=h;have hkey:∀ e∈(d',R)::u0,∃ A,(e.1,A)∈(d',zF8 (some (s,want,true)) R)::zF true u0 [] S:=by
    intro e he;rcases List.mem_cons.1 he with he|he
    ·subst he;exact⟨_,List.mem_cons_self⟩
    ·obtain⟨A,hA⟩:=xK5 (g:=true) (S:=S) he;exact⟨A,List.mem_cons_of_mem _ hA⟩
   refine yK3 hc hR ho hf hr hcs hl (fun e he=>?_) hdo (fun k e he=>?_) (zM9 hi hon hp) (fun v w' G' h'=>?_)
   ·obtain⟨A,hA⟩:=hkey e he;have:=hlt (e.1,A) hA;exact this
   ·obtain⟨A,hA⟩:=hkey e he;have:=hh k (e.1,A) hA;exact this
   ·refine hnext v w' G' ?_;rw[hd] at h' ⊢;exact xK6 hpr hR.len (hdo _ hd) (by
     have h1:d'<zA7:=hlt _ List.mem_cons_self;cases h2:Nat.beq d' zA7 with
     |false=>rfl
     |true=>exact absurd (Nat.eq_of_beq_eq_true h2) (Nat.ne_of_lt h1)) hi (huu _ List.mem_cons_self _ List.mem_cons_self) h'
 ·cases h
end Go.Am
namespace Go.Am
open Go Go.RowKit
variable {rd:Option Nat}{gtab:GlobTab}{P:Program}{c:Ctx}{G:Gh}{w:World}{tm:Array Value}{n:Nat}{χ0:Nat→Nat→Nat}{w0:World}{S:St}{a:Act}
theorem xS2 {tm:Array Value}{s:Nat}{b:Bool}:tm.getD s undef=.bool b↔tm[s]?=some (.bool b):=by
 simp;cases h:tm[s]? with
 |none=>simp[undef]
 |some v=>simp
theorem xK7 {ops:Array Oper}{tm:Array Value}{j s:Nat}{b:Bool}(h:(ops.toList.map (·.dst))[j]?=some (some s)):(yielded ops tm j==some b)=true↔tm.getD s undef=.bool b:=by
 grind [bind,xS2,yielded]
theorem yK4 {ops:Array Oper}{o:Oper}{gd:Gd}(h:zO2 (ops.toList.map (·.dst)) S o.guard=some gd) :
  Region.wanted o (yielded ops a.tmps)=true↔yQ4 a.tmps gd:=by
 unfold Region.wanted
 grind [zO2,Option.some.injEq,yQ4,xK7]
theorem xZ3 {s:Nat}:∀ {u:St},(∀ e∈u,e.1≠zA7)→St.has s u=true→∃ B,(s,B)∈u∧u.get s=B:=by
 intro u
 induction u with
 |nil=>intro _ h;cases h
 |cons e r ih =>
  obtain⟨k,A⟩:=e;intro hc h;cases hk:Nat.beq k s with
  |true =>
   have:=Nat.eq_of_beq_eq_true hk;subst this;exact⟨A,List.mem_cons_self,by simp[St.get]⟩
  |false =>
   have hr:St.has s r=true:=by simpa[St.has,hk] using h
   obtain⟨B,h1,h2⟩:=ih (fun e he=>hc e (List.mem_cons_of_mem _ he)) hr;have hcut:Nat.beq k zA7=false:=by
    have:=hc (k,A) List.mem_cons_self;cases h3:Nat.beq k zA7 with
    |false=>rfl
    |true=>exact absurd (Nat.eq_of_beq_eq_true h3) this
   exact⟨B,List.mem_cons_of_mem _ h1,by simp[St.get,hk,hcut,h2]⟩
theorem xS3 {gd:Gd}{o:Oper}{xs0 xs:List AVal}{p:List Prop}{u:St}{hv:Bool}(hgd:gd≠none)(h:yP3 c gd o S xs0 xs=some (p,u,hv)) :
  ∃ d A u0,o.dst=some d∧(u=[(d,zF8 gd A)]∨∃ s want g,gd=some (s,want,g)∧u=(d,zF8 gd A)::zF g u0 [] S):=by
 cases gd with
 |none=>exact absurd rfl hgd
 |some q =>
 unfold yP3 at h;split at h
 ·split at h
  ·unfold yF5 at h;split at h
   ·rename_i d C A B hd;split at h
    ·split at h
     ·simp only[Option.some.injEq,Prod.mk.injEq] at h;obtain⟨_,rfl,_⟩:=h;exact⟨d,_,[],hd,.inl rfl⟩
     ·cases h
    ·split at h
     all_goals
      simp only[Option.some.injEq,Prod.mk.injEq] at h;obtain⟨_,rfl,_⟩:=h;exact⟨d,_,[],hd,.inl rfl⟩
    ·cases h
   ·cases h
  ·cases h
 ·split at h
  ·simp_all
  ·simp_all
  ·cases h
 ·split at h
  ·simp_all
  ·cases h
 ·split at h
  ·rename_i f cs r;cases hpl:zI4 cs with
   |false=>simp only[hpl,cond_false] at h;cases h
   |true =>
    simp only[hpl,cond_true] at h;unfold yP2 at h;generalize hx:zW8 c (some q) o.dst f (r++cs.toL)=y at h;cases y with
    |some q' =>
     simp only[zD0,Option.some.injEq] at h;subst h;unfold zW8 at hx;split at hx
     ·rename_i p0 τ x d he hd;simp only[Option.some.injEq,Prod.mk.injEq] at hx;obtain⟨_,rfl,_⟩:=hx;exact⟨_,_,[],by assumption,.inl rfl⟩
     ·cases hx
     ·cases hx
    |none =>
     simp only[zD0] at h;generalize hcs:zI5 c (some q) o.dst f (r++cs.toL) ((r++cs.toL).map (zA3 S)) S=x at h;cases x with
     |none =>
      simp only at h;unfold yM2 at h;simp only at h;generalize hcg:yS4 c (some q) o.dst f (r++cs.toL) S=z at h;cases z with
      |none =>
      simp only[zD0] at h;unfold yS5 at h;split at h
      ·rename_i p0 d' R u0 hv0 d hl hd;cases hdd:(Nat.beq d' d&&zK1 R) with
       |false=>simp only[hdd,cond_false] at h;cases h
       |true =>
        simp only[hdd,cond_true,Option.some.injEq,Prod.mk.injEq] at h;obtain⟨_,rfl,_⟩:=h;exact⟨d,_,u0,by assumption,.inr ⟨q.1,q.2.1,q.2.2,rfl,rfl⟩⟩
      ·cases h
      |some q' =>
      simp only[zD0,Option.some.injEq] at h;subst h;rename_i h;replace h:=hcg;unfold yS4 at h;split at h
      ·rename_i p0 d t l T m _ hl;simp only[Option.some.injEq,Prod.mk.injEq] at h;obtain⟨_,rfl,_⟩:=h;exact⟨_,_,[],yA6 hl,.inl rfl⟩
      ·rename_i p0 d τ x _ hl;simp only[Option.some.injEq,Prod.mk.injEq] at h;obtain⟨_,rfl,_⟩:=h;exact⟨_,_,[],yA6 hl,.inl rfl⟩
      ·cases h
     |some q' =>
      simp only[Option.some.injEq] at h;subst h;unfold zI5 at hcs;split at hcs
      ·cases hcs
      ·rename_i co hco;generalize (yD3 co.outs 0 _&&zG1 co.res&&_&&_)=b at hcs;cases b with
       |false=>simp only[Bool.not_false,cond_true] at hcs;cases hcs
       |true =>
        simp only[Bool.not_true,cond_false] at hcs;split at hcs
        ·split at hcs
         ·rename_i d hd;cases hpr:zK1 co.res with
          |false=>simp only[hpr,cond_false] at hcs;cases hcs
          |true =>
           simp only[hpr,cond_true,Option.some.injEq,Prod.mk.injEq] at hcs;obtain⟨_,rfl,_⟩:=hcs;exact⟨_,_,[],by assumption,.inl rfl⟩
         ·cases hcs
        ·cases hcs
  ·cases h
 ·simp at h
 ·unfold zL5 at h;split at h
  ·cases h
  ·rename_i d hd;split at h
   ·cases h
   ·rename_i p' A hA;cases hf:zZ5 o.op with
    |true =>
     simp only[hf,cond_true,Option.isNone_some,Bool.false_and,cond_false] at h;unfold gMk at h;split at h
     ·rename_i q' t l T m e;cases hb':(zW0 d S&&zC0 d S&&Nat.beq T d&&!t.isL) with
      |false=>simp only[hb',cond_false] at h;cases h
      |true =>
       simp only[hb',cond_true,Option.some.injEq,Prod.mk.injEq] at h;injection e with e
       subst e;exact⟨d,_,[],hd,.inl h.2.1.symm⟩
     ·cases h
    |false =>
     simp only[hf,cond_false,Option.some.injEq,Prod.mk.injEq] at h;obtain⟨_,rfl,_⟩:=h;exact⟨d,A,[],hd,.inl rfl⟩
theorem xB1 (hc:CtxOk P c)(hR:Rel c.n χ0 w0 S a w G){gd:Gd}(hi:xF3 a.tmps gd)(hon:yQ4 a.tmps gd){o:Oper}{p:List Prop}{u:St}{hv:Bool}
  (h:yP3 c gd o S ((zE0 o.op).map (arg S)) (((zE0 o.op).map (arg S)).map (zF5 gd))=some (p,u,hv))
  (hlt:∀ e∈u,e.1<zA7) (hdo:∀ d,o.dst=some d→d<c.n) (hh:∀ s,∀ e∈u,(S.get s).hung e.1=false) (huu:∀ e∈u,∀ e'∈u,e.2.hung e'.1=false) (hp:∀ q∈p,q)
  {next:Act→World→Prop}{Q:Exit→Act→World→Prop}(hnext:∀ v w' G',Rel c.n χ0 w0 (u++S) (a.put o.dst v) w' G'→next (a.put o.dst v) w'):o.wpIn (fz rd) 0 P a w next Q:=by
 have hargs:=xF1 hR hon (zE0 o.op);unfold yP3 at h;split at h
 ·split at h
  ·rename_i x y z ho;rw[ho] at h;exact xI8 hR hc.n hi hon ho h hlt hdo hh huu hnext
  ·cases h
 ·split at h
  ·rename_i T x y A v hd ho hl;rw[ho] at hargs hl;simp only[zE0,List.map_cons,List.map_nil,List.cons.injEq,and_true] at hl hargs;obtain⟨rfl,rfl⟩:=hl;simp only[zH1] at hargs;exact xA4 hc hR ho hd hargs.1 hargs.2.1 h hlt hp hnext
  ·rename_i T x y z A k v hd ho hl;rw[ho] at hargs hl;simp only[zE0,List.map_cons,List.map_nil,List.cons.injEq,and_true] at hl hargs;obtain⟨rfl,rfl,rfl⟩:=hl;simp only[zH1] at hargs;exact yR hc hR ho hd hargs.1 hargs.2.1 hargs.2.2.1 h hlt hnext
  ·cases h
 ·rename_i hk;split at h
  ·rename_i d cl args ats A B hd ho hl;split at h
   ·rename_i T T' hats;cases hT:Nat.beq T T' with
    |false=>simp[hT] at h
    |true =>
     have:=Nat.eq_of_beq_eq_true hT;subst this;simp only[hT,cond_true] at h;have hcl:cl=.builtin .append:=by
      rw[ho] at hk;unfold zS at hk;split at hk<;>simp_all
     subst hcl;rw[ho] at hl hargs;simp only[zE0] at hl hargs;rw[hl] at hargs;have:∃ va vb,args.toList.map a.eval=[va,vb]∧zA G w a.tmps none A va∧zA G w a.tmps none B vb:=by
      generalize hm:args.toList.map a.eval=m at hargs;cases m with
      |nil=>simp[zH1] at hargs
      |cons va m =>
       cases m with
       |nil=>simp[zH1] at hargs
       |cons vb m =>
        cases m with
        |nil=>simp only[zH1] at hargs;exact⟨va,vb,rfl,hargs.1,hargs.2.1⟩
        |cons _ _=>simp[zH1] at hargs
     obtain⟨va,vb,hm,hA,hB⟩:=this;exact yC5 hc hR ho hats hd hm hA hB h hlt (hdo _ hd) hh hp hnext
   ·cases h
  ·cases h
 ·rename_i hk;split at h
  ·rename_i f cs r hl;cases hpl:zI4 cs with
   |false=>simp[hpl] at h
   |true =>
    simp only[hpl,cond_true] at h;have:∃ fo args ats,o.op=.call { callee:=.value fo,args,argTypes:=ats }:=by
     unfold zS at hk;split at hk<;>first|exact absurd hk (by decide) | (rename_i fo args ats ho;exact⟨_,_,_,ho⟩)
    obtain⟨fo,args,ats,ho⟩:=this;rw[ho] at hl hargs;simp only[zE0] at hl hargs;rw[hl] at hargs;simp only[List.map_cons,zH1] at hargs;unfold yP2 at h;generalize hx:zW8 c gd o.dst f (r++cs.toL)=y at h;cases y with
    |some q' =>
     simp only[zD0,Option.some.injEq] at h;subst h;exact xS1 hc hR hi hon ho hargs.1 hargs.2 hpl hx hlt hdo hh huu hp hnext
    |none =>
     simp only[zD0] at h;generalize hcs:zI5 c gd o.dst f (r++cs.toL) ((r++cs.toL).map (zA3 S)) S=x at h;cases x with
     |some q' =>
      simp only[Option.some.injEq] at h;subst h;exact xJ6 hc hR hi hon ho hargs.1 hargs.2 hpl hcs hlt hdo hh huu hp hnext
     |none =>
      simp only at h;unfold yM2 at h;cases gd with
      |some q =>
       simp only at h;generalize hcg:yS4 c (some q) o.dst f (r++cs.toL) S=z at h;cases z with
       |some q' =>
        simp only[zD0,Option.some.injEq] at h;subst h;exact xB0 hc hR hi hon ho hargs.1 hargs.2 hpl hcg hlt hdo hh huu hp hnext
       |none =>
        simp only[zD0] at h;exact yW3 hc hR hi hon ho hargs.1 hargs.2 hpl h hlt hdo hh huu hp hnext
      |none =>
       simp only[zD0] at h;generalize hl:yE8 c o.dst f (r++cs.toL) ((r++cs.toL).map (zA3 S)) S=z at h;cases z with
       |some q' =>
        simp only[Option.some.injEq] at h;subst h;exact zX7 hc hR ho hargs.1 hargs.2 hpl hl hlt hdo hh hp hnext
       |none =>
        simp only at h;generalize hl2:xG6 c o.dst f (r++cs.toL) S=z at h;cases z with
        |some q' =>
         simp only[Option.some.injEq] at h;subst h;exact xB hc hR ho hargs.1 hargs.2 hpl hl2 hlt hdo hh hp hnext
        |none =>
         simp only at h;exact yK3 hc hR ho hargs.1 hargs.2 hpl h hlt hdo hh hp hnext
  ·cases h
 ·split at h
  ·simp only[Option.some.injEq,Prod.mk.injEq] at h;exact (hp False (by rw[← h.1];simp)).elim
  ·cases h
 ·exact xJ hc hR hi hon h hlt hdo hh huu hp hnext
theorem zN9 (hc:CtxOk P c)(hR:Rel c.n χ0 w0 S a w G){ops:Array Oper}{i:Nat}{o:Oper}(ho:ops[i]?=some o){p:List Prop}{u:St}{hv:Bool}
  (h:zS3 c (ops.toList.map (·.dst)) o S=some (p,u,hv))
  (hlt:∀ e∈u,e.1<zA7) (hdo:∀ d,o.dst=some d→d<c.n) (hh:∀ s,∀ e∈u,(S.get s).hung e.1=false) (huu:∀ e∈u,∀ e'∈u,e.2.hung e'.1=false) (hp:∀ q∈p,q)
  {next:Act→World→Prop}{Q:Exit→Act→World→Prop}(hnext:∀ v w' G',Rel c.n χ0 w0 (u++S) (a.put o.dst v) w' G'→next (a.put o.dst v) w'):wpOpIn (fz rd) 0 P ops Q i next a w:=by
 unfold zS3 at h;split at h
 ·grind
 ·rename_i gd hgd;have hi:=xI4 hR hgd;unfold wpOpIn;rw[ho];simp only;cases hof:zQ c gd o with
  |some r =>
   rw[hof] at h;simp only[zD0,Option.some.injEq] at h;subst h;obtain⟨s,want,d,rfl,hd,rfl,rfl,rfl,_⟩:=yM3 hof;have hoff':a.tmps.getD s undef≠.bool want:=fun e=>Bool.noConfusion ((hi s want false rfl).1 e);have hw:¬ Region.wanted o (yielded ops a.tmps)=true:=fun e=>hoff' ((yK4 hgd).1 e s want false rfl);rw[if_neg hw,hd];have:=zR2 (A:=.junk) hR hc.n hi hoff' (hdo d hd) (fun s=>hh s _ (List.mem_singleton.2 rfl)) (huu _ (List.mem_singleton.2 rfl) _ (List.mem_singleton.2 rfl));rw[← hd] at this ⊢;exact⟨fun _ _=>trivial,hnext _ _ _ this⟩
  |none =>
  rw[hof] at h;simp only[zD0] at h;by_cases hw:Region.wanted o (yielded ops a.tmps)=true
  ·grind [xB1,yK4]
  ·rw[if_neg hw];have hoff:¬ yQ4 a.tmps gd:=fun e=>hw ((yK4 hgd).2 e);cases gd with
   |none=>grind [yQ4]
   |some q =>
    obtain⟨s,want,g⟩:=q;have hoff':a.tmps.getD s undef≠.bool want:=fun e=>hoff (by intro s' want' g' e';obtain⟨rfl,rfl,rfl⟩:=e';exact e);obtain⟨d,A,u0,hd,rfl|⟨s',want',g',e',rfl⟩⟩:=xS3 (by simp) h
    ·rw[hd];have:=zR2 (A:=A) hR hc.n hi hoff' (hdo d hd) (fun s=>hh s _ (List.mem_singleton.2 rfl)) (huu _ (List.mem_singleton.2 rfl) _ (List.mem_singleton.2 rfl));rw[← hd] at this ⊢;exact⟨fun _ _=>trivial,hnext _ _ _ this⟩
    ·obtain⟨rfl,rfl,rfl⟩:s=s'∧want=want'∧g=g':=by simpa using e'
     have hg:g=false:=by
      cases g with
      |false=>rfl
      |true=>exact absurd ((hi s want true rfl).2 rfl) hoff'
     subst hg;have hm:Rel c.n χ0 w0 (zF false u0 [] S++S) a w G:=zN1 (d1:=u0) (d2:=[]) hR;have hgm:∀ k,((zF false u0 [] S++S).get k).hung d=false:=fun k=>by
      cases hk:St.has k (zF false u0 [] S) with
      |true =>
       have hcut:∀ e∈zF false u0 [] S,e.1≠zA7:=fun e he=>Nat.ne_of_lt (hlt e (List.mem_cons_of_mem _ he));rw[yA4 hcut hk];obtain⟨B,hB,e⟩:=xZ3 hcut hk;rw[e];exact huu _ (List.mem_cons_of_mem _ hB) _ List.mem_cons_self
      |false =>
       have hcut:∀ e∈zF false u0 [] S,e.1≠zA7:=fun e he=>Nat.ne_of_lt (hlt e (List.mem_cons_of_mem _ he));rw[zJ9 hcut hk];exact hh k _ List.mem_cons_self
     have:=zR2 (A:=A) hm hc.n hi hoff' (hdo d hd) hgm (huu _ List.mem_cons_self _ List.mem_cons_self);rw[hd];rw[← hd] at this ⊢;exact⟨fun _ _=>trivial,hnext _ _ _ this⟩
end Go.Am
namespace Go.Am
open Go Go.RowKit
variable {rd:Option Nat}{gtab:GlobTab}{P:Program}{c:Ctx}{G:Gh}{w:World}{tm:Array Value}{n:Nat}{χ0:Nat→Nat→Nat}{w0:World}{S:St}{a:Act}
theorem xZ4 {u u':St}(h:wC8 c S u=some u')(hR:Rel c.n χ0 w0 (u++S) a w G)(hn:c.n≤vNo)(hlt:∀ e∈u',e.1<zA7):∃ G',Rel c.n χ0 w0 (u'++S) a w G':=by
 unfold wC8 at h;split at h
 ·rename_i d t l T r;generalize (Nat.beq T d&&!(c.wr.any (Nat.beq d)))=b at h;cases b with
  |false=>grind
  |true =>
   generalize ht:(zC0 T (r++S)&&!t.isL)=b at h;cases b with
   |false=>grind
   |true =>
    simp  at ht;simp  at h;subst h;exact xQ6 hR hn (hlt _ (List.mem_cons_self ..)) ht.1 ht.2
 grind
theorem xS4 {u u':St}(h:wC8 c S u=some u'):u=u'∨∃ d t l T r,u=(d,.own t l T true)::r∧u'=(d,.own t l T false)::r∧T=d∧zC0 T (r++S)=true:=by
 unfold wC8 at h;split at h
 ·rename_i d t l T r;generalize hb:(Nat.beq T d&&!(c.wr.any (Nat.beq d)))=b at h;cases b with
  |false=>grind
  |true =>
   simp only[Bool.and_eq_true] at hb;generalize ht:(zC0 T (r++S)&&!t.isL)=b at h;cases b with
   |false=>grind
   |true =>
    simp  at ht;simp  at h;exact .inr ⟨d,t,l,T,r,rfl,h.symm,Nat.eq_of_beq_eq_true hb.1,ht.1⟩
 grind
theorem xZ5 (u:St)(h:Bool):xX0 c u h=u∨∃ d τ x,u=[(d,.val τ x)]∧xX0 c u h=[(d,.junk)]:=by
 unfold xX0;split
 ·rename_i d τ x;cases c.dead.any (Nat.beq d) with
  |true=>exact .inr ⟨d,τ,x,rfl,rfl⟩
  |false=>exact .inl rfl
 ·exact .inl rfl
theorem yK5 (hc:CtxOk P c)(hR:Rel c.n χ0 w0 S a w G){ops:Array Oper}{i:Nat}{o:Oper}(ho:ops[i]?=some o){p:List Prop}{u:St}{hv:Bool}
  (h:yE9 c (ops.toList.map (·.dst)) o S=some (p,u,hv))
  (hlt:∀ e∈u,e.1<zA7) (hdo:∀ d,o.dst=some d→d<c.n) (hh:∀ s,∀ e∈u,(S.get s).hung e.1=false) (huu:∀ e∈u,∀ e'∈u,e.2.hung e'.1=false) (hp:∀ q∈p,q)
  {next:Act→World→Prop}{Q:Exit→Act→World→Prop}(hnext:∀ v w' G',Rel c.n χ0 w0 (u++S) (a.put o.dst v) w' G'→next (a.put o.dst v) w'):wpOpIn (fz rd) 0 P ops Q i next a w:=by
 unfold yE9 at h;split at h
 ·grind
 ·rename_i p0 u0 h0 hst;cases hmk:wE0 o.op with
  |false =>
   simp only[hmk,cond_false,Option.some.injEq,Prod.mk.injEq] at h;obtain⟨rfl,rfl,rfl⟩:=h;rcases xZ5 (c:=c) u0 h0 with e|⟨d,τ,x,rfl,e⟩
   ·rw[e] at hlt hh huu hnext;exact zN9 hc hR ho hst hlt hdo hh huu hp hnext
   ·rw[e] at hlt hh huu hnext;refine zN9 hc hR ho hst (fun e he=>?_) hdo (fun s e he=>?_) (fun e he e' he'=>?_) hp fun v w' G' hR'=>?_
    ·rw[List.mem_singleton] at he;subst he;have:=hlt (d,.junk) (List.mem_singleton.2 rfl);exact this
    ·rw[List.mem_singleton] at he;subst he;have:=hh s (d,.junk) (List.mem_singleton.2 rfl);exact this
    ·rw[List.mem_singleton] at he;subst he;rfl
    ·refine hnext v w' G' ⟨hR'.len,hR'.defers,fun s=>?_,hR'.frame,hR'.glob⟩;have hs:=hR'.reps s;simp only[List.cons_append,List.nil_append,St.get] at hs ⊢;cases hb:Nat.beq d s with
     |true=>simp only[cond_true,zA]
     |false=>simpa only[hb,cond_false] using hs
  |true =>
   simp[hmk,cond_true] at h;split at h
   ·rename_i u' hu';obtain⟨rfl,rfl,rfl⟩:=h;rcases xS4 hu' with rfl|⟨d,t,l,T,r,rfl,rfl,_,_⟩
    ·grind [zN9]
    ·refine zN9 hc hR ho hst (fun e he=>?_) hdo (fun s e he=>?_) (fun e he e' he'=>?_) hp fun v w' G' hR'=>?_
     ·grind [List.mem_cons_self,List.mem_cons_of_mem]
     ·grind [List.mem_cons_self,List.mem_cons_of_mem]
     ·have hk:∀ e∈((d,AVal.own t l T true)::r),∃ e''∈((d,AVal.own t l T false)::r),e''.1=e.1∧∀ q,e''.2.hung q=e.2.hung q:=by
       intro e he;rcases List.mem_cons.1 he with rfl|he
       ·exact⟨_,List.mem_cons_self ..,rfl,fun q=>rfl⟩
       ·exact⟨e,List.mem_cons_of_mem _ he,rfl,fun q=>rfl⟩
      grind
     ·obtain⟨G'',hR''⟩:=xZ4 hu' hR' hc.n hlt
      grind
   grind
end Go.Am
namespace Go.Am
open Go Go.RowKit
variable {rd:Option Nat}{gtab:GlobTab}{P:Program}{c:Ctx}{G:Gh}{w:World}{tm:Array Value}{n:Nat}{χ0:Nat→Nat→Nat}{w0:World}{S:St}{a:Act}
theorem yA8 {S':St}(h:∀ s,S'.get s=S.get s)(hR:Rel n χ0 w0 S a w G):Rel n χ0 w0 S' a w G:=
 ⟨hR.len,hR.defers,fun s=>by rw[h];exact hR.reps s,hR.frame,hR.glob⟩
def uAt (ts:List Tr)(i:Nat):St:=match ts[i]? with|some t=>t.u|none=>[]
def exe (ts:List Tr):List Nat→St
 |[]=>[]
 |i::l=>uAt ts i++exe ts l
def tex (ts:List Tr):Nat→St
 |0=>[]
 |k+1=>uAt ts k++tex ts k
theorem yA9 {t:Tr}{ts:List Tr}:∀ {k:Nat},tex (t::ts) (k+1)=tex ts k++t.u:=by
 intro k
 induction k<;>grind [tex,uAt]
def Fam [GlobTab] (c:Ctx)(dsts:List (Option Nat))(ops:List Oper)(S U:St)(ts:List Tr)(p:List Prop):Prop:=
 ∀ i o,ops[i]?=some o→∃ pi hv,yE9 c dsts o ((tex ts i++U)++S)=some (pi,uAt ts i,hv)∧ts[i]?=some (yL4 dsts o ((tex ts i++U)++S) (uAt ts i) hv) ∧
  (∀ q∈pi,q∈p)∧(∀ e∈uAt ts i++(tex ts i++U),xG7 (uAt ts i) e.2=false)∧(∀ e∈uAt ts i,e.1<zA7)∧∀ d,o.dst=some d→d<c.n
theorem xK8 {dsts:List (Option Nat)}:∀ {ops:List Oper}{U:St}{p:List Prop}{U':St}{ts:List Tr},xE1 c dsts ops S U=some (p,U',ts) →
  ts.length=ops.length∧U'=tex ts ops.length++U∧Fam c dsts ops S U ts p:=by
 intro ops
 induction ops with
 |nil =>
  intro U p U' ts h;obtain⟨rfl,rfl,rfl⟩:=h;exact⟨rfl,rfl,fun i o ho=>by grind⟩
 |cons o r ih =>
  intro U p U' ts h;unfold xE1 at h;split at h
  ·grind
  ·rename_i p0 u hv hst;rw[St.force_eq] at h;cases hb:((u++U).any (fun e=>xG7 u e.2)||(!(u.all fun e=>Nat.blt e.1 zA7)||!(wH0 c o.dst))) with
   |true=>simp only[hb,cond_true] at h;grind
   |false =>
    simp only[hb,cond_false] at h;split at h
    ·grind
    ·rename_i p' u' t' hr;simp only[Option.some.injEq,Prod.mk.injEq] at h;obtain⟨rfl,rfl,rfl⟩:=h;obtain⟨h1,h2,h3⟩:=ih hr;simp only[Bool.or_eq_false_iff,Bool.not_eq_false',List.any_eq_false,List.all_eq_true] at hb;refine⟨by grind,by grind [List.length_cons,yA9,yL4],fun i o' ho=>?_⟩;cases i with
     |zero =>
      simp only[List.getElem?_cons_zero,Option.some.injEq] at ho;subst ho;refine⟨p0,hv,?_,?_,fun q hq=>List.mem_append_left _ hq,fun e he=>?_,fun e he=>?_,fun d hd=>?_⟩
      ·grind [tex,uAt,yL4]
      ·simp[tex,uAt,yL4]
      ·grind [tex,uAt,yL4]
      ·have:=hb.2.1 e (by simpa[uAt,yL4] using he);exact Nat.le_of_ble_eq_true this
      ·have:=hb.2.2;rw[hd] at this;exact Nat.le_of_ble_eq_true this
     |succ i =>
      simp only[List.getElem?_cons_succ] at ho;obtain⟨pi,hv',q1,q2,q3,q4,q5⟩:=h3 i o' ho;have e1:∀ t:Tr,uAt (t::t') (i+1)=uAt t' i:=fun t=>by simp[uAt]
      refine⟨pi,hv',?_,?_,fun q hq=>List.mem_append_right _ (q3 q hq),fun e he=>?_,fun e he=>?_,q5.2⟩
      ·rw[yA9,e1];simpa[yL4] using q1
      ·rw[yA9,e1];simpa[yL4] using q2
      ·rw[yA9,e1] at he;rw[e1];exact q4 e (by simpa[yL4] using he)
      ·rw[e1] at he;exact q5.1 e he
theorem zM:∀ {A:AVal}{d:Nat},A.hasOpt=false→A.hung d=false:=by
 intro A
 induction A<;>grind [AVal.hasOpt,Bool.or_eq_false_iff,AVal.hung]
theorem zP5 {u:St}{A:AVal}(h:xG7 u A=false):∀ e∈u,A.hung e.1=false:=by
 grind [xG7,List.any_eq_false]
theorem zY1 {q:AVal→Prop}(hj:q .junk):∀ {S:St}{s:Nat},(∀ e∈S,q e.2)→q (S.get s):=by
 intro S
 induction S<;>grind [St.get]
section region
variable {ops:Array Oper}{ts:List Tr}{p:List Prop}
theorem yR2 (hc:CtxOk P c)(hF:Fam c (ops.toList.map (·.dst)) ops.toList S [] ts p)(hS:∀ e∈S,e.2.hasOpt=false)(hp:∀ q∈p,q){i:Nat}{o:Oper}(ho:ops[i]?=some o)
  (hR:Rel c.n χ0 w0 (tex ts i++S) a w G){next:Act→World→Prop}{Q:Exit→Act→World→Prop}
  (hnext:∀ v w' G',Rel c.n χ0 w0 (uAt ts i++(tex ts i++S)) (a.put o.dst v) w' G'→next (a.put o.dst v) w'):wpOpIn (fz rd) 0 P ops Q i next a w:=by
 obtain⟨pi,hv,q1,q2,q3,q4,q5⟩:=hF i o (by grind);simp only[List.append_nil] at q1 q2 q4;refine yK5 hc hR ho q1 q5.1 q5.2 (fun s e he=>?_) (fun e he e' he'=>?_) (fun q hq=>hp q (q3 q hq)) hnext
 ·refine zY1 (q:=fun A=>A.hung e.1=false) rfl fun e' he'=>?_;rcases List.mem_append.1 he' with h|h
  ·exact zP5 (q4 e' (List.mem_append_right _ h)) e he
  ·exact zM (hS e' h)
 grind [zP5,List.mem_append_left]
theorem xZ6 {K:Act→Prop}(hK:∀ o∈ops.toList,∀ a v,K a→K (a.put o.dst v))(hc:CtxOk P c)(hF:Fam c (ops.toList.map (·.dst)) ops.toList S [] ts p)(hS:∀ e∈S,e.2.hasOpt=false)(hp:∀ q∈p,q){Q:Exit→Act→World→Prop}
  (hQ:∀ a' w' G',Rel c.n χ0 w0 (tex ts ops.size++S) a' w' G'→K a'→Q .normal a' w') :
  ∀ k i,i+k=ops.size→∀ a w G,Rel c.n χ0 w0 (tex ts i++S) a w G→K a→wpOpsIn (fz rd) 0 P ops Q (List.range' i k) a w:=by
 intro k
 induction k with
 |zero=>grind [wpOpsIn]
 |succ k ih =>
  intro i e a w G hR hk;have hlt:i<ops.size:=by omega
  refine yR2 hc hF hS hp (Array.getElem?_eq_getElem hlt) hR fun v w' G' hR'=>?_;refine ih (i+1) (by omega) _ _ G' ?_ (hK _ (by simp) _ _ hk)
  grind [tex,List.append_assoc]
end region
end Go.Am
namespace Go.Am
open Go Go.RowKit
variable {gtab:GlobTab}{P:Program}{c:Ctx}{S S':St}
theorem xZ7 {t:Nat}:∀ {l:List Operand},Operand.tmp t∈l→t∈zW5 l:=by
 intro l
 induction l with
 |nil=>grind
 |cons y l ih =>
  intro hx;rcases List.mem_cons.1 hx with rfl|hx
  ·simp[zW5]
  ·cases y<;>simp[zW5]<;>first|grind|grind
theorem xS5 {x:Operand}{l:List Operand}(hx:x∈l)(h:∀ r∈zW5 l,S'.get r=S.get r):arg S' x=arg S x:=by
 cases x<;>grind [arg,xZ7]
theorem xK9 {l:List Operand}(h:∀ r∈zW5 l,S'.get r=S.get r):l.map (arg S')=l.map (arg S):=
 List.map_congr_left fun _ hx=>xS5 hx h
theorem xB2 {dsts:List (Option Nat)}{g:Option (Nat×Bool)}(h:∀ r∈zS4 dsts g,S'.get r=S.get r):zO2 dsts S' g=zO2 dsts S g:=by
 cases g<;>grind [zO2,zS4]
theorem xZ8 {A:AVal}{s:Nat}:∀ {l:List AVal},A∈l→zD2 A=some s→s∈yL3 l:=by
 intro l
 induction l with
 |nil=>grind
 |cons B l ih =>
  intro h hs;rcases List.mem_cons.1 h with rfl|h
  ·cases A<;>simp[zD2] at hs<;>simp[yL3,hs]
  ·cases B<;>simp[yL3]<;>first|grind|grind
theorem yW4 {A:AVal}(h:zD2 A=none):zA3 S' A=zA3 S A:=by
 cases A<;>first|rfl|grind [zD2]
theorem yB {A:AVal}{l:List AVal}(hA:A∈l)(h:∀ r∈yL3 l,S'.get r=S.get r):zA3 S' A=zA3 S A:=by
 cases hs:zD2 A with
 |none=>exact yW4 hs
 |some s =>
  have:=h s (xZ8 hA hs);cases A<;>simp[zD2] at hs<;>(grind [zA3])
theorem yK6 {gd:Gd}{A:AVal}:zF5 gd A=bare A∨zF5 gd A=.junk:=by
 cases A with
 |opt s w g A =>
  simp[zF5,bare]
  grind
 |_=>exact .inl rfl
theorem zR7 {gd:Gd}{l:List AVal}(h:∀ r∈yL3 (l.map bare),S'.get r=S.get r):((l.map (zF5 gd)).map (zA3 S'))=((l.map (zF5 gd)).map (zA3 S)):=by
 rw[List.map_map,List.map_map];refine List.map_congr_left fun A hA=>?_;simp;rcases yK6 (gd:=gd) (A:=A) with e|e
 ·grind [yB,List.mem_map_of_mem]
 ·rw[e];rfl
theorem xB3 {l r:List AVal}:yL3 (l++r)=yL3 l++yL3 r:=by
 induction l with
 |nil=>rfl
 |cons A l ih=>cases A<;>simp[yL3,ih]
theorem yE2 {dsts:List (Option Nat)}{o:Oper}{p:List Prop}{u:St}(h:zS3 c dsts o S=some (p,u,false))(hr:∀ r∈(yL4 dsts o S u false).rd,S'.get r=S.get r)
  (hq:∀ e∈S',e∈S∨∀ d,o.dst=some d→yM5 d e.2=true):zS3 c dsts o S'=some (p,u,false):=by
 simp only[yL4] at hr;have h1:=xK9 (gtab:=gtab) (l:=zE0 o.op) (S:=S) (S':=S') fun r hr'=>hr r (List.mem_append_left _ hr');have h2:=xB2 (dsts:=dsts) (g:=o.guard) (S:=S) (S':=S') fun r hr'=>hr r (List.mem_append_right _ (List.mem_append_left _ hr'));have h3:∀ r∈yL3 (wD8 o.op ((zE0 o.op).map (fun x=>bare (arg S x)))),S'.get r=S.get r:=fun r hr'=>hr r (List.mem_append_right _ (List.mem_append_right _ hr'));have htag:∀ d T,o.dst=some d→(T=d∨T=100000+d∨T=200000+d∨T=300000+d)→zC0 T S=true→zC0 T S'=true:=by
  intro d T hd hT hn;simp only[zC0,List.all_eq_true] at hn ⊢;intro e he;rcases hq e he with h' | h'
  ·exact hn e h'
  ·have:=h' d hd;simp only[yM5,Bool.and_eq_true] at this;obtain⟨_,q1,q2,q3,q4⟩:=this;rcases hT with rfl|rfl|rfl|rfl<;>assumption
 have href:∀ d,o.dst=some d→zW0 d S=true→zW0 d S'=true:=by
  intro d hd hn;simp only[zW0,List.all_eq_true] at hn ⊢;intro e he;rcases hq e he with h' | h'
  ·exact hn e h'
  ·have:=h' d hd;simp only[yM5,Bool.and_eq_true] at this;exact this.1
 unfold zS3 at h ⊢;rw[h2];split at h
 ·cases h
 ·rename_i gd hgd;rw[h1];cases hof:zQ c gd o with
  |some r=>rw[hof] at h;exact h
  |none =>
  rw[hof] at h;simp only[zD0] at h ⊢;generalize hX:(zE0 o.op).map (arg S)=X at h ⊢;have hXb:(zE0 o.op).map (fun x=>bare (arg S x))=X.map bare:=by rw[← hX,List.map_map];rfl
  rw[hXb] at h3;have hy:zS o.op≠3→wD8 o.op (X.map bare)=X.map bare:=by
   intro hk;unfold wD8;split
   ·rename_i ho _;rw[ho] at hk;simp[zS] at hk
   ·rfl
  unfold yP3 at h ⊢;generalize hk:zS o.op=k at h ⊢ hy
  match k,hk,h,hy with
  |0,hk,h,hy=>exact h
  |1,hk,h,hy =>
   rw[hy (by decide)] at h3;simp only at h ⊢;split at h
   ·rename_i T x y A v h0 hd ho hl;have hcs:=zR7 (gd:=none) h3;rw[hl] at hcs;simp only[List.map_cons,List.cons.injEq] at hcs;rw[hcs.1];unfold zZ0 at h ⊢;split at h
    ·rename_i s0 U t i q;split at h
     ·unfold yH1 at h;split at h
      ·generalize (Ty.beq _ _&&Nat.beq _ _&&Nat.beq _ _&&c.is T _&&_&&_&&_)=b at h;cases b with
       |false=>simp at h
       |true =>
        simp only[cond_true] at h;split at h<;>simp at h
      ·cases h
     ·rename_i t' l U' hkk;cases hho:wE v with
      |true =>
       simp only[hho,cond_true] at h;unfold yH0 at h;split at h
       ·generalize (Ty.beq _ _&&Ty.beq _ _&&Nat.beq _ _&&c.is T _&&_&&_&&_)=b at h;cases b<;>simp at h
       ·cases h
      |false =>
      simp only[hho,cond_false] at h;cases hb:(Ty.beq t' t&&Nat.beq U' U&&c.is T (t'.pty q)&&AVal.fits (t'.pty q) v) with
      |false=>simp only[hb,cond_false] at h;cases h
      |true =>
       simp only[hb,cond_true] at h;split at h
       ·simp at h
       ·cases h
     ·cases h
    ·exact h
    ·exact h
   ·rename_i T x y z A k v h0 hd ho hl;unfold yP1 at h;split at h
    ·split at h
     ·split at h
      ·simp at h
      ·cases h
     ·cases h
    ·cases h
   ·cases h
  |2,hk,h,hy =>
   simp only at h;split at h
   ·split at h
    ·rename_i T T' hats;cases hT:Nat.beq T T' with
     |false=>simp[hT] at h
     |true =>
      simp only[hT,cond_true] at h;unfold zP at h;generalize zC0 _ S=b at h;cases b with
      |false=>cases h
      |true =>
       simp only[cond_true] at h;split at h
       ·simp at h
       ·split at h<;>simp at h
    ·cases h
   ·cases h
  |3,hk,h,hy =>
   simp only at h ⊢;split at h
   ·rename_i f cs r hl;cases hpl:zI4 cs with
    |false=>simp[hpl] at h
    |true =>
     simp only[hpl,cond_true] at h ⊢;have hct:(r++cs.toL).map (zA3 S')=(r++cs.toL).map (zA3 S):=by
      have:∃ fo args ats,o.op=.call { callee:=.value fo,args,argTypes:=ats }:=by
       unfold zS at hk;split at hk<;>first|exact absurd hk (by decide) | (rename_i fo args ats ho;exact⟨_,_,_,ho⟩)
      obtain⟨fo,args,ats,ho⟩:=this;cases X with
      |nil=>simp at hl
      |cons x0 X' =>
       simp only[List.map_cons,List.cons.injEq] at hl;obtain⟨hl1,rfl⟩:=hl;have hb0:bare x0=.fn f cs:=by
        rcases yK6 (gd:=gd) (A:=x0) with e|e
        ·rw[← e,hl1]
        ·rw[e] at hl1;cases hl1
       rw[ho,List.map_cons,hb0] at h3;simp only[wD8,xB3] at h3;rw[List.map_append,List.map_append,zR7 (fun r hr=>h3 r (List.mem_append_left _ hr))];congr 1;exact List.map_congr_left fun A hA=>yB hA fun r hr=>h3 r (List.mem_append_right _ hr)
     unfold yP2 at h ⊢;generalize hx:zW8 c gd o.dst f (r++cs.toL)=y at h ⊢;cases y with
     |some q'=>exact h
     |none =>
      simp only[zD0] at h ⊢;rw[hct];have hheavy:∀ q:List Prop×St×Bool,yM2 c gd o.dst f (r++cs.toL) S=some q→q.2.2=true∨(gd=none∧yE8 c o.dst f (r++cs.toL) ((r++cs.toL).map (zA3 S)) S=some q):=by
       intro q;unfold yM2;cases gd with
       |some _ =>
        intro e;simp only at e;generalize hcg:yS4 _ _ _ _ _ _=z at e;cases z with
        |some q' =>
         simp only[zD0,Option.some.injEq] at e;subst e;unfold yS4 at hcg;split at hcg
         ·simp only[Option.some.injEq] at hcg;rw[← hcg];exact .inl rfl
         ·simp only[Option.some.injEq] at hcg;rw[← hcg];exact .inl rfl
         ·cases hcg
        |none =>
         simp only[zD0] at e;unfold yS5 at e;split at e
         ·rename_i p0 d' R u0 hv0 d hl hd;cases hdd:(Nat.beq d' d&&zK1 R) with
          |false=>simp only[hdd,cond_false] at e;cases e
          |true=>simp only[hdd,cond_true,Option.some.injEq] at e;rw[← e];exact .inl rfl
         ·cases e
       |none =>
        simp only;generalize hl:yE8 c o.dst f (r++cs.toL) ((r++cs.toL).map (zA3 S)) S=z;cases z with
        |some q' =>
         intro e;simp only[zD0,Option.some.injEq] at e;subst e;exact .inr ⟨trivial,rfl⟩
        |none =>
         simp only[zD0];generalize hc2:xG6 c o.dst f (r++cs.toL) S=z2;cases z2 with
         |some q' =>
          intro e;simp only[Option.some.injEq] at e;subst e;unfold xG6 at hc2;split at hc2
          ·generalize (_&&zC0 _ S)=bb at hc2;cases bb with
           |false=>cases hc2
           |true=>simp only[cond_true,Option.some.injEq] at hc2;rw[← hc2];exact .inl rfl
          ·cases hc2
         |none =>
         simp only;generalize hh:xG5 c o.dst f (r++cs.toL) S=z;cases z with
         |none=>intro e;cases e
         |some q' =>
          intro e;simp only[Option.some.injEq] at e;subst e;unfold xG5 at hh;split at hh
          ·cases hh
          ·split at hh
           ·cases hh
           ·generalize (_&&zR9 _)=bb at hh;cases bb with
            |false=>cases hh
            |true=>simp only[cond_true,Option.some.injEq] at hh;rw[← hh];exact .inl rfl
      generalize hcs:zI5 c gd o.dst f (r++cs.toL) ((r++cs.toL).map (zA3 S)) S=x at h;cases x with
      |none =>
       rcases hheavy _ h with e|⟨rfl,hL2⟩
       ·cases e
       ·have yS3:∀ d,o.dst=some d→(zC0 d S&&zC0 (100000+d) S&&zC0 (200000+d) S&&zC0 (300000+d) S)=true:=by
         intro d hd;unfold yE8 at hL2;split at hL2
         ·cases hL2
         ·split at hL2
          ·rename_i d' _ hd';rw[hd] at hd';injection hd' with hd'
           subst hd';generalize hb:(_&&zC0 (300000+d) S)=bb at hL2;cases bb with
           |false=>cases hL2
           |true=>simp only[Bool.and_eq_true] at hb ⊢;exact⟨⟨⟨hb.1.1.1.2,hb.1.1.2⟩,hb.1.2⟩,hb.2⟩
          ·cases hL2
        have hsame:∀ d,o.dst=some d→(zC0 d S'=zC0 d S∧zC0 (100000+d) S'=zC0 (100000+d) S∧zC0 (200000+d) S'=zC0 (200000+d) S∧zC0 (300000+d) S'=zC0 (300000+d) S):=by
         intro d hd;have:=yS3 d hd;simp only[Bool.and_eq_true] at this;obtain⟨⟨⟨b1,b2⟩,b3⟩,b4⟩:=this;rw[b1,b2,b3,b4];exact⟨htag d _ hd (.inl rfl) b1,htag d _ hd (.inr (.inl rfl)) b2,htag d _ hd (.inr (.inr (.inl rfl))) b3,htag d _ hd (.inr (.inr (.inr rfl))) b4⟩
        have hcs':zI5 c none o.dst f (r++cs.toL) ((r++cs.toL).map (zA3 S)) S'=none:=by
         rw[← hcs];clear hcs;revert hsame;generalize o.dst=dst;intro hsame;cases dst with
         |none=>rfl
         |some d =>
          obtain⟨e1,e2,e3,e4⟩:=hsame d rfl;unfold zI5;simp only[e1,e2,e3,e4]
        rw[hcs'];simp only;have hl':yE8 c o.dst f (r++cs.toL) ((r++cs.toL).map (zA3 S)) S'=some (p,u,false):=by
         rw[← hL2];unfold yE8;split
         ·rfl
         ·split
          ·rename_i d' _ hd';obtain⟨e1,e2,e3,e4⟩:=hsame d' hd';rw[e1,e2,e3,e4]
          ·rfl
        unfold yM2;rw[hct,hl'];rfl
      |some q' =>
       simp only[Option.some.injEq] at h;subst h;have hcs':zI5 c gd o.dst f (r++cs.toL) ((r++cs.toL).map (zA3 S)) S'=some (p,u,false):=by
        unfold zI5 at hcs ⊢;split at hcs
        ·cases hcs
        ·rename_i co hco;generalize (yD3 co.outs 0 _&&zG1 co.res&&_&&_)=b at hcs ⊢;cases b with
         |false=>simp only[Bool.not_false,cond_true] at hcs;cases hcs
         |true =>
          simp only[Bool.not_true,cond_false] at hcs ⊢;split at hcs
          ·rename_i uu hout heat;cases gd with
           |some q=>exact hcs
           |none =>
            simp only at hcs ⊢;split at hcs
            ·exact hcs
            ·rename_i d hd;generalize hb:(zC0 d S&&zC0 (100000+d) S&&zC0 (200000+d) S&&zC0 (300000+d) S)=b at hcs;cases b with
             |false=>cases hcs
             |true =>
              simp only[Bool.and_eq_true] at hb;obtain⟨⟨⟨b1,b2⟩,b3⟩,b4⟩:=hb;rw[htag d _ hd (.inl rfl) b1,htag d _ hd (.inr (.inl rfl)) b2,htag d _ hd (.inr (.inr (.inl rfl))) b3,htag d _ hd (.inr (.inr (.inr rfl))) b4];exact hcs
          ·cases hcs
       rw[hcs']
   ·cases h
  |4,hk,h,hy=>exact h
  |k+5,hk,h,hy =>
   rw[hy (by omega)] at h3;simp only at h ⊢;rw[zR7 h3];unfold zL5 at h ⊢;split at h
   ·cases h
   ·rename_i d hd;split at h
    ·cases h
    ·rename_i p' A hA;cases hf:zZ5 o.op with
     |false=>simpa[hf] using h
     |true =>
      simp only[hf,cond_true] at h ⊢;cases hb:(gd.isNone&&zW0 d S&&zC0 d S) with
      |false =>
       simp only[hb,cond_false] at h;unfold gMk at h;split at h
       ·rename_i q t l T m _;cases hb':(zW0 d S&&zC0 d S&&Nat.beq T d&&!t.isL) with
        |false=>simp only[hb',cond_false] at h;cases h
        |true =>
         simp only[hb',cond_true] at h;simp only[Bool.and_eq_true] at hb';simp only[Option.isNone_some,Bool.false_and,cond_false,gMk,href d hd hb'.1.1.1,htag d d hd (.inl rfl) hb'.1.1.2,hb'.1.2,hb'.2,Bool.and_self,cond_true];exact h
       ·cases h
      |true =>
       simp only[hb,cond_true] at h;simp only[Bool.and_eq_true] at hb;rw[hb.1.1,href d hd hb.1.2,htag d d hd (.inl rfl) hb.2];exact h
theorem wH3 {gd:Gd}{d:Nat}{p p':List Prop}{A:AVal}{u:St}{hv:Bool}(h:gMk gd d p A S=some (p',u,hv)):∃ B,u=[(d,B)]:=by
 unfold gMk at h
 grind
theorem wL3 {dsts:List (Option Nat)}{o:Oper}{p:List Prop}{u:St}(h:zS3 c dsts o S=some (p,u,false))(hm:wE0 o.op=true):∃ d A,o.dst=some d∧u=[(d,A)]:=by
 unfold zS3 at h;split at h
 ·grind
 ·rw[yM4 (by revert hm;unfold wE0;split<;>simp_all [yH5])] at h;simp only[zD0] at h;unfold yP3 at h;unfold wE0 at hm;split at hm
  ·rename_i T n ps ho;rw[ho] at h;simp[zS,zL5] at h
   grind [zW0,zC0,wH3]
  ·rename_i T x y ho;rw[ho] at h;simp[zS,zL5] at h
   grind [zW0,zC0,wH3]
  ·rename_i args ats ho;rw[ho] at h;simp only[zS] at h
   grind [Nat.beq,zP,zC0]
  grind
theorem xB4 {dsts:List (Option Nat)}{o:Oper}{p:List Prop}{u:St}(h:yE9 c dsts o S=some (p,u,false))(hr:∀ r∈(yL4 dsts o S u false).rd,S'.get r=S.get r)
  (hq:∀ e∈S',e∈S∨∀ d,o.dst=some d→yM5 d e.2=true):yE9 c dsts o S'=some (p,u,false):=by
 unfold yE9 at h ⊢;split at h
 ·grind
 ·rename_i p0 u0 h0 hst;cases hmk:wE0 o.op with
  |false =>
   simp only[hmk,cond_false,Option.some.injEq,Prod.mk.injEq] at h;obtain⟨rfl,rfl,rfl⟩:=h;rw[yE2 hst (u:=u0) hr hq];simp only[cond_false]
  |true =>
   simp[hmk] at h;split at h
   ·rename_i u' hu';simp  at h;obtain⟨rfl,rfl,rfl⟩:=h;have hloc:=yE2 hst (u:=u0) hr hq;obtain⟨d,A,hd,rfl⟩:=wL3 hst hmk;have:wC8 c S' [(d,A)]=some u':=by
     rw[← hu'];unfold wC8;cases A with
     |own t l T m =>
      cases m with
      |false=>rfl
      |true =>
       simp only;generalize hb:(Nat.beq T d&&!(c.wr.any (Nat.beq d)))=b;cases b with
       |false=>rfl
       |true =>
        have hold:zC0 T S=true:=by
         grind [wC8]
        have hnew:zC0 T S'=true:=by
         simp only[zC0,List.all_eq_true] at hold ⊢;intro e he;rcases hq e he with h' | h'
         ·grind
         simp_all [yM5]
        grind
     |_=>rfl
    grind
   grind
end Go.Am
namespace Go.Am
open Go Go.RowKit
variable {gtab:GlobTab}{P:Program}{c:Ctx}{G:Gh}{w:World}{tm:Array Value}{n:Nat}{χ0:Nat→Nat→Nat}{w0:World}{S:St}{a:Act}
def ahd (ops:List Oper)(i j:Nat):Prop:=((ahead ops []).getD j 0).testBit i=true
theorem yC9 {acc:List Nat}{i:Nat}:∀ {l:List Edge},(zF6 acc l).testBit i=true→∃ e∈l,Region.binds .any e=true∧(i=e.on∨(acc.getD e.on 0).testBit i=true):=by
 intro l
 induction l with
 |nil=>grind [zF6]
 |cons e r ih =>
  intro h;simp only[zF6] at h;cases hb:Region.binds .any e with
  |false =>
   grind
  |true =>
   simp only[hb] at h;have h:((2 ^ e.on ||| acc.getD e.on 0) ||| zF6 acc r).testBit i=true:=h
   grind
theorem yW5:∀ {ops:List Oper}{acc:List Nat},∃ r,ahead ops acc=acc++r∧r.length=ops.length:=by
 intro ops
 induction ops with
 |nil=>simp_all [ahead]
 |cons o l ih =>
  intro acc;obtain⟨r,hr,hl⟩:=ih (acc:=acc++[zF6 acc o.after.toList])
  grind [ahead]
theorem xZ9:∀ {ops:List Oper}{acc:List Nat}{j i:Nat}{o:Oper},ops[j]?=some o→((ahead ops acc).getD (acc.length+j) 0).testBit i=true →
  ∃ e∈o.after.toList,Region.binds .any e=true∧(i=e.on∨((ahead ops acc).getD e.on 0).testBit i=true):=by
 intro ops
 induction ops with
 |nil=>grind
 |cons o' l ih =>
  intro acc j i o ho h;cases j with
  |zero =>
   simp  at ho;subst ho;simp only[ahead] at h ⊢;obtain⟨r,hr,_⟩:=yW5 (ops:=l) (acc:=acc++[zF6 acc o'.after.toList]);rw[hr] at h ⊢;have e1:((acc++[zF6 acc o'.after.toList])++r).getD (acc.length+0) 0=zF6 acc o'.after.toList:=by simp
   rw[e1] at h;obtain⟨e,he,hb,h'⟩:=yC9 h;refine⟨e,he,hb,h'.imp id fun h'=>?_⟩;by_cases hlt:e.on<acc.length
   ·simp only[List.getD_eq_getElem?_getD] at h' ⊢;rw[List.append_assoc,List.getElem?_append_left hlt];exact h'
   ·simp  at h';rw[List.getElem?_eq_none (by omega)] at h';simp at h'
  |succ j =>
   simp only[ahead] at h ⊢;have:=ih (acc:=acc++[zF6 acc o'.after.toList]) (j:=j) (i:=i) ho (by grind)
   grind
theorem wA {ops:List Oper}{j i:Nat}{o:Oper}(ho:ops[j]?=some o)(h:ahd ops i j):∃ e∈o.after.toList,Region.binds .any e=true∧(i=e.on∨ahd ops i e.on):=
 xZ9 (acc:=[]) ho (by grind [ahd])
theorem zT4:∀ {ops:List Oper}{k j:Nat}{o:Oper},zI7 k ops=true→ops[j]?=some o→∀ e∈o.after.toList,Region.binds .any e=true→e.on<k+j:=by
 intro ops
 induction ops with
 |nil=>grind
 |cons o' l ih =>
  intro k j o h ho e he hbd;simp only[zI7,Bool.and_eq_true] at h;cases j with
  |zero =>
   simp  at ho;subst ho;have:=List.all_eq_true.1 h.1 e he;simp_all
  |succ j =>
   grind
theorem xB5 {K b:Nat}{t:Tr}:∀ {l:List Tr}{k i:Nat}{t':Tr},yF6 K b t k l=true→l[i]?=some t'→K≤k+i→zW2 t' t=true→b.testBit (k+i)=true:=by
 intro l
 induction l with
 |nil=>grind
 |cons x l ih =>
  intro k i t' h hi hK hc;simp only[yF6,Bool.and_eq_true,Bool.or_eq_true] at h;cases i with
  |zero =>
   rcases h.1 with h' | h' | h'
   ·have:=Nat.blt_eq.mp h';omega
   all_goals grind
  |succ i =>
   grind
theorem xL {K:Nat}:∀ {bs:List Nat}{trs l:List Tr}{i j:Nat}{ti tj:Tr},zQ0 K trs bs l=true→(trs++l)[i]?=some ti→l[j]?=some tj→i<trs.length+j→K≤i→zW2 ti tj=true→(bs.getD j 0).testBit i=true:=by
 intro bs
 induction bs with
 |nil=>grind [zQ0]
 |cons b bs ih =>
  intro trs l i j ti tj h hi hj hlt hK hc;cases l with
  |nil=>grind
  |cons t l =>
   simp[zQ0] at h;cases j with
   |zero =>
    simp  at hj;subst hj;have:=xB5 h.1 (i:=i) (t':=ti) (by grind) (by omega) hc
    grind
   |succ j =>
    have:=ih (i:=i) (j:=j) (ti:=ti) (tj:=tj) h.2 (by grind) (by grind) (by grind) hK hc
    grind
theorem zT5:∀ {l m:List Nat}{x:Nat},apart l m=true→x∈l→x∈m→False:=by
 intro l
 induction l with
 |nil=>grind
 |cons y l ih =>
  intro m x h hl hm;simp only[apart] at h;rcases List.mem_cons.1 hl with rfl|hl
  ·simp  at h
   grind
  grind
theorem yK7 {r:Nat}:∀ {u:St},St.has r u=true↔r∈u.map (·.1):=by
 simp_all [St.has]
end Go.Am
