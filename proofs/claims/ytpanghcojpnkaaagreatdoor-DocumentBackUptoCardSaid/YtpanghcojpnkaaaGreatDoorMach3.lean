/- The abstract machine, part 3: a typed interpreter for the program's code, and that it is sound. No condition. -/
import Derived.Test.YtpanghcojpnkaaaGreatDoorMach2
import Derived.Orders
namespace Go.Am
open Go Go.RowKit
variable {rd:Option Nat}{gtab:GlobTab}{P:Program}{c:Ctx}{G:Gh}{w:World}{tm:Array Value}{n:Nat}{χ0:Nat→Nat→Nat}{w0:World}{S:St}{a:Act}
theorem zW9 {s0:Nat}:∀ {A:AVal}{s:Option Nat},s≠some s0→¬ A.names (fun x=>x=zG8 s0) (fun _=>False) s:=by
 intro A
 induction A with
 |own t l T m=>intro s _;simp only[AVal.names];exact fun e=>zA7 _ _ e.symm
 |ownh t l T i V m=>intro s _;simp only[AVal.names,not_or];exact⟨fun e=>zA7 _ _ e.symm,fun e=>zA7 _ _ e.symm⟩
 |opt _ _ _ A ih=>intro s _;simp only[AVal.names];exact ih (by simp)
 |box τ b ih =>
  intro s h
  cases s with
  |none=>simp only[AVal.names];exact ih (by simp)
  |some s=>simp only[AVal.names,not_or];exact⟨fun e=>h (by rw[zH3 e]),ih (by simp)⟩
 |raw =>
  intro s h
  cases s with
  |none=>simp[AVal.names]
  |some s=>simp only[AVal.names];exact fun e=>h (by rw[zH3 e])
 |cons x y ihx ihy=>intro s _;simp only[AVal.names,not_or];exact⟨ihx (by simp),ihy (by simp)⟩
 |agg f b ih=>intro s _;simp only[AVal.names];exact ih (by simp)
 |tup b ih=>intro s _;simp only[AVal.names];exact ih (by simp)
 |fn f b ih=>intro s _;simp only[AVal.names];exact ih (by simp)
 |_=>intro s _;simp[AVal.names]
theorem xA5 {s:Nat}{v:Value}:∀ {cs:AVal}{caps:List (Option (Nat×Ty))}{xs:Array Value},zS5 s cs=some caps→zA G w tm none cs (.tuple xs)→v=.pointer (some ⟨G.β s,0,none⟩)→xs.toList=caps.map (yM G v):=by
 intro cs
 induction cs with
 |nl =>
  intro caps xs h ha hv
  simp only[zS5,jA] at h
  subst h
  simp only[zA,Value.tuple.injEq] at ha
  rw[ha];rfl
 |cons A t _ ih =>
  intro caps xs h ha hv
  simp only[zA,Value.tuple.injEq] at ha
  obtain⟨x,r,rfl,h1,h2⟩:=ha
  cases A with
  |ref k τ p =>
   cases p with
   |nil =>
    simp only[zS5] at h
    split at h
    ·rename_i l hl
     simp only[jA] at h
     subst h
     simp only[zA,Ty.poff] at h1
     have:=ih hl h2 hv
     simp only[List.map_cons,yM]
     rw[← this,h1.2]
    ·cases h
   |cons _ _=>simp[zS5] at h
  |rref s' =>
   simp only[zS5] at h
   cases hb:Nat.beq s s' with
   |false=>simp[hb] at h
   |true =>
    have:=jC hb
    subst this
    simp only[hb,jE] at h
    split at h
    ·rename_i l hl
     simp only[jA] at h
     subst h
     simp only[zA] at h1
     have:=ih hl h2 hv
     simp only[List.map_cons,yM]
     rw[← this,h1,hv]
    ·cases h
  |_=>simp[zS5] at h
 |_=>intro caps xs h;simp[zS5] at h
def Gh.ice (G:Gh)(b:Nat):Gh:={ G with χ:=fun b' o=>if b'=b then 0 else G.χ b' o }
theorem yS8 (hc:CtxOk P c)(hR:Rel c.n χ0 w0 S a w G){o:Oper}{T:Nat}{x y:Operand}{A v:AVal}{p:List Prop}{u:St}{hv:Bool}(ho:o.op=.store T x y)(hd:o.dst=none)
  (hA:zA G w a.tmps none A (a.eval x)) (hV:zA G w a.tmps none v (a.eval y)) (h:zT9 c T A (zA4 S A) v S=some (p,u,hv))
  (hlt:∀ e∈u,e.1<c.n) (hp:∀ q∈p,q)
  {next:Act→World→Prop}{Q:Exit→Act→World→Prop}(hnext:∀ v w' G',Rel c.n χ0 w0 (u++S) (a.put o.dst v) w' G'→next (a.put o.dst v) w'):o.wpIn (fz rd) 0 P a w next Q:=by
 unfold zT9 at h
 split at h
 ·rename_i s0 U t i q
  split at h
  ·rename_i t' l U' hk
   have hcont:=zG3 hR (A:=.eref s0 U t i q) rfl
   rw[hk] at hcont
   cases hho:xR4 v with
   |true =>
    simp only[hho,jE] at h
    unfold yC at h
    split at h
    ·rename_i sv xv V m
     cases hb:(Ty.beq t' t&&Ty.beq (.sl sv) t'&&Nat.beq U' U&&c.is T (.sl sv)&&q.isEmpty&&!(Nat.beq V U)&&!sv.isL) with
     |false=>simp only[hb,jD] at h;cases h
     |true =>
      simp only[hb,jE,jA,jG] at h
      obtain⟨rfl,rfl,rfl⟩:=h
      simp only[jB,jK] at hb
      have e:=Ty.eq_of_beq hb.1.1.1.1.1.1;subst e
      have e:=Ty.eq_of_beq hb.1.1.1.1.1.2;subst e
      have e:=jC hb.1.1.1.1.2;subst e
      have hq:q=[]:=List.isEmpty_iff.1 hb.1.1.2
      subst hq
      have hT:=zC hc.tys hb.1.1.1.2
      have hne:V≠U':=fun e=>by rw[e] at hb;simp at hb
      have hil:=hp _ (jH.2 rfl)
      simp only[zA] at hA hcont hV
      obtain⟨hi0,_,hxv⟩:=hA
      have hi:i.toNat<List.length (α:=List sv.den) l:=by omega
      obtain⟨⟨cur,e,g1,g2⟩,hfr,hx,hm⟩:=yZ8 (u:=a.eval y) hR.frame hb.2 hcont hi hne hV
      have hone:=yB hV
      have hrun:=zK5 (P:=P) (w:=w) (u:=a.eval y) (us:=[a.eval y]) (b:=G.γ U') (o:=i.toNat) (cur:=cur) (e:=e) hT (zJ8 (τ:=.sl sv) (us:=[a.eval y]) (by simp[zP,Ty.isAgg]) (by simpa using hone)) (by simp[Ty.size]) (by simpa using hone) g1 (by simpa using g2)
      have hrun':(execOp a.eval o).run P w=.ok .skip (w.setCells (G.γ U') i.toNat [a.eval y]):=by
       unfold execOp;simp only[ho,hxv,Ty.size,Ty.poff,Nat.mul_one,Nat.add_zero,Sem.run_bind,hrun,Result.andThen_ok,Sem.run_pure]
      refine zV hrun' (hnext undef _ G ?_)
      rw[hd,zR5]
      exact zR8 hR hc.n hx (zA8 U') hfr hm (fun T hT=>hT.elim) (fun s hs=>zW6 hs) hlt
    ·cases h
   |false =>
   simp only[hho,jD] at h
   cases hb:(Ty.beq t' t&&Nat.beq U' U&&c.is T (t'.pty q)&&AVal.fits (t'.pty q) v) with
   |false=>simp[hb] at h
   |true =>
    simp only[hb,jE] at h
    simp only[jB] at hb
    have e:=Ty.eq_of_beq hb.1.1.1;subst e
    have e:=jC hb.1.1.2;subst e
    split at h
    ·rename_i yv hy
     simp only[jA,jG] at h
     obtain⟨rfl,rfl,rfl⟩:=h
     have hT:=zC hc.tys hb.1.2
     have hil:=hp _ (jH.2 rfl)
     simp only[zA] at hA hcont
     obtain⟨hi0,hq,hxv⟩:=hA
     have hi:i.toNat<l.length:=by omega
     obtain⟨us,h1,h2⟩:=zQ hV hb.2 (zC4 hT)
     obtain⟨⟨cur,e,g1,g2⟩,hfr,hx,hm⟩:=yZ6 hR.frame (yV4 hq hT) hcont hi hq h1 hy
     have hcel:=zJ8 h2 (zR1 h1)
     have hrun:=zK5 (P:=P) (w:=w) (u:=a.eval y) hT hcel (zB h1) (zR1 h1) g1 g2
     have hrun':(execOp a.eval o).run P w=.ok .skip (w.setCells (G.γ U') (i.toNat*t'.size+t'.poff q) us):=by
      unfold execOp;simp only[ho,hxv,Sem.run_bind,hrun,Result.andThen_ok,Sem.run_pure]
     refine zV hrun' (hnext undef _ G ?_)
     rw[hd,zR5]
     refine yS6 hR hc.n hx (zA8 U') hfr (fun s hs=>?_) (fun s hs=>zW6 hs) hlt
     have hrs:=hR.reps s
     generalize S.get s=A at hrs hs ⊢
     cases A with
     |ownh t2 l2 T2 j V m2 =>
      simp only[AVal.setEl]
      cases hb2:(Nat.beq U' V&&m2) with
      |false=>simp only[jD,zA]
      |true =>
       simp only[jB] at hb2
       obtain⟨hb2,rfl⟩:=hb2
       have e:=jC hb2;subst e
       simp only[jE]
       cases hcs:Ty.cast t2 yv with
       |none=>simp only[zA]
       |some y' =>
        simp only[zA] at hrs ⊢
        have hvt:zZ3 t2:=hrs.1
        have hTU:T2≠U':=by
         rcases hrs.2 with ⟨_,h,_⟩ | ⟨h,_⟩
         ·cases h
         ·exact h
        refine yZ7 hx (fun e=>hTU (zA6 e)) (fun u hu=>?_) hTU hrs
        have h9:=hm.own2 t2 _ U' true u (fun h=>h) (.inl hu) a.tmps
        simp only[Nat.beq_refl,jE,hcs,zA] at h9
        exact zB4 h9 hvt.2
     |_=>exact hm.arep (fun T hT=>hT.elim) hrs
    ·cases h
  ·cases h
 ·rename_i s
  split at h
  ·rename_i f cs hkc
   cases hft:c.fts.any (Nat.beq T) with
   |false=>simp[hft] at h
   |true =>
    simp only[hft,jE] at h
    split at h
    ·rename_i caps hcaps
     simp only[jA,jG] at h
     obtain⟨rfl,rfl,rfl⟩:=h
     have hcont:=zG3 hR (A:=.rref s) rfl
     rw[hkc] at hcont
     simp only[zA] at hcont hA hV
     obtain⟨_,u0,e,hb,hcol⟩:=hcont
     obtain⟨vs,hv,hcs⟩:=hV
     obtain⟨i,_,_,_,hi,_,hsz,_,_,_⟩:=yR5 hc.fts hft
     have hone:(Value.func (.func f) #[] vs).oneCell'=true:=rfl
     have hrun:(Instr.storeAt T (a.eval x) (a.eval y)).run P w=.ok () (w.setCells (G.β s) 0 [.func (.func f) #[] vs]):=by
      rw[hA,hv]
      have:=run_storeCells_cells (P:=P) (G.β s) 0 [.func (.func f) #[] vs] 0 w (fun j hj=>by
       simp only[World.cell?,hb,Nat.add_zero]
       simp at hj ⊢
       omega) (fun j hj=>by simp[World.frozen?,hb]) (fun u hu=>by rw[jH.1 hu];exact hone)
      simp only[Nat.add_zero] at this
      simp only[Instr.storeAt,Instr.sureAddr,Sem.run_bind,Sem.run_pure,Result.andThen_ok,storeVar,sizeOf,typeInfo,run_program,hi,hsz,Value.cells]
      simpa using this
     have hrun':(execOp a.eval o).run P w=.ok .skip (w.setCells (G.β s) 0 [.func (.func f) #[] vs]):=by
      unfold execOp;simp only[ho,Sem.run_bind,hrun,Result.andThen_ok,Sem.run_pure]
     obtain⟨cur',g1,g2⟩:=zJ6 (G.β s) e (0,0) [.func (.func f) #[] vs] 0 w #[u0] hb (by simp)
     refine zV hrun' (hnext undef _ (G.ice (G.β s)) ?_)
     rw[hd]
     have hnone:∀ s',St.has s' [(s,AVal.fptr f caps)]=false→s'≠s:=by intro s' hs e;subst e;simp[St.has] at hs
     have hbne:∀ b o,G.χ b o=0→b≠G.β s:=fun b o h0 e=>by rw[e,hcol] at h0;exact zE5 s h0.symm
     have hext:Ext (fun x=>x=zG8 s) (fun _=>False) G w (G.ice (G.β s)) (w.setCells (G.β s) 0 [.func (.func f) #[] vs]):=by
      refine⟨fun b o hb' h0=>⟨by simp only[Gh.ice];rw[if_neg (hbne b o h0)];exact h0,?_⟩,fun b hb' hX=>?_,by rw[zN6];exact jI _,fun _ _=>rfl,fun _ _=>rfl,fun _ h=>h.elim⟩
      ·simp only[World.cell?,zD6 (G.β s) _ 0 w b (hbne b o h0)]
      ·have hne:b≠G.β s:=by intro e;subst e;exact hX 0 (hcol 0)
       exact⟨zD6 (G.β s) _ 0 w b hne,fun o=>by simp only[Gh.ice];rw[if_neg hne]⟩
     have hfr:Frame0 χ0 w0 (G.ice (G.β s)).χ (w.setCells (G.β s) 0 [.func (.func f) #[] vs]):=by
      have h1:=zN7 hR.frame (b:=G.β s) (o:=0) (us:=[.func (.func f) #[] vs]) (fun o=>by rw[hcol];have:=zN8 s;omega)
      refine⟨h1.os,h1.tape,h1.output,h1.size,h1.block,fun b o hb' hc'=>⟨?_,(h1.cell b o hb' hc').2⟩⟩
      have h2:=(h1.cell b o hb' hc').1
      have hne:b≠G.β s:=by intro e;subst e;rw[hcol] at h2;have:=zN8 s;omega
      simp only[Gh.ice]
      rw[if_neg hne]
      exact h2
     refine zE6 hR hc.n hlt (fun d e=>by cases e) hext (zE5 s) hfr (fun s' hs'=>zW9 (fun e=>hnone s' hs' (by injection e))) (fun _ d e=>by cases e) (fun s' hs'=>?_)
     have:s'=s:=by simp[St.has] at hs';exact hs'.symm
     subst this
     have hg:St.get [(s',AVal.fptr f caps)] s'=.fptr f caps:=by simp[St.get]
     rw[hg,zR5]
     have hval:a.tmps.getD s' undef=.pointer (some ⟨G.β s',0,none⟩):=by
      have hr:=hR.reps s'
      simp only[zA4] at hkc
      rw[hkc] at hr
      simp only[zA] at hr
      exact hr.1
     rw[hval]
     simp only[zA]
     refine⟨G.β s',rfl,by simp[Gh.ice],?_⟩
     have hvs:=xA5 (v:=.pointer (some ⟨G.β s',0,none⟩)) hcaps hcs rfl
     simp only[World.cell?,g1]
     have h2:cur'=#[.func (.func f) #[] vs]:=by
      apply Array.toList_inj.1
      rw[g2]
      apply List.ext_getElem?
      intro j
      rw[spl_getElem? _ _ _ _ (by simp)]
      cases j with
      |zero=>simp
      |succ j=>simp
     rw[h2]
     have h3:vs=(caps.map (yM (G.ice (G.β s')) (.pointer (some ⟨G.β s',0,none⟩)))).toArray:=by
      apply Array.toList_inj.1
      rw[hvs]
      refine List.map_congr_left fun q _=>?_
      cases q<;>rfl
     rw[← h3]
     simp
    ·cases h
  ·cases h
 ·split at h
  ·rename_i uu hst
   simp only[jA,jG] at h
   obtain⟨rfl,rfl,rfl⟩:=h
   obtain⟨s,C⟩:=uu
   have hkk:∀ s',zC8 A=some s'→zA G w a.tmps (some s') (zA4 S A) (match zC8 A with|some s=>a.tmps.getD s undef|none=>undef):=by
    intro s' hs';rw[hs'];exact zG3 hR hs'
   obtain⟨us,off,hrun,hcol,hrs,hC⟩:=yO3 hc.tys hA hkk hV hst
   have hrun':(execOp a.eval o).run P w=.ok .skip (w.setCells (G.β s) off us):=by
    unfold execOp;simp only[ho,Sem.run_bind,hrun,Result.andThen_ok,Sem.run_pure]
   refine zV hrun' (hnext undef _ G ?_)
   rw[hd]
   rw[hrs] at hC
   simp only at hC
   have hone:∀ s',St.has s' [(s,C)]=true→s'=s:=by intro s' hs;simp[St.has] at hs;exact hs.symm
   have hnone:∀ s',St.has s' [(s,C)]=false→s'≠s:=by intro s' hs e;subst e;simp[St.has] at hs
   refine zE6 hR hc.n hlt (fun d e=>by cases e) (zU6 (X:=fun x=>x=zG8 s) (fun o=>hcol o) (zE5 s)) (zE5 s) (zN7 hR.frame (fun o=>by rw[hcol];have:=zN8 s;omega))
    (fun s' hs'=>zW9 (fun e=>hnone s' hs' (by injection e))) (fun _ d e=>by cases e) (fun s' hs'=>?_)
   have:=hone s' hs';subst this
   have hg:St.get [(s',C)] s'=C:=by simp[St.get]
   rw[hg]
   exact hC
  ·cases h
theorem yL0 (hc:CtxOk P c)(hR:Rel c.n χ0 w0 S a w G){o:Oper}{T:Nat}{x y z:Operand}{A B C:AVal}{p:List Prop}{u:St}{hv:Bool}(ho:o.op=.mapUpdate T x y z)(hd:o.dst=none)
  (hA:zA G w a.tmps none A (a.eval x)) (hB:zA G w a.tmps none B (a.eval y)) (hC:zA G w a.tmps none C (a.eval z)) (h:yJ0 c T A B C S=some (p,u,hv))
  (hlt:∀ e∈u,e.1<c.n){next:Act→World→Prop}{Q:Exit→Act→World→Prop}(hnext:∀ v w' G',Rel c.n χ0 w0 (u++S) (a.put o.dst v) w' G'→next (a.put o.dst v) w'):o.wpIn (fz rd) 0 P a w next Q:=by
 unfold yJ0 at h
 split at h
 ·rename_i k e hT
  have hmt:=yK1 hc.maps hT
  split at h
  ·rename_i t l U m
   split at h
   ·rename_i l' xv yv hl hx hy
    simp only[jA,jG] at h
    obtain⟨rfl,rfl,rfl⟩:=h
    obtain⟨ec,hl⟩:=zD5 hl
    injection ec with ec
    subst ec
    simp only[zA] at hA
    obtain⟨⟨ka,kb,_,hka,hkb⟩,_,_⟩:=hmt
    have hkv:=zH9 hx (zC4 hka) hB
    have hev:=zH9 hy (zC4 hkb) hC
    obtain⟨w',hrun,hfr,hext,hm⟩:=xG5 hR.frame (yK1 hc.maps hT) (yK2 hA) hkv hev
    have hrun':(execOp a.eval o).run P w=.ok .skip w':=by
     unfold execOp;simp only[ho,Sem.run_bind,hrun,Result.andThen_ok,Sem.run_pure]
    refine zV hrun' (hnext undef _ G ?_)
    rw[hd,zR5]
    exact zR8 hR hc.n hext (zA8 U) hfr hm (fun T hT=>hT.elim) (fun s hs=>zW6 hs) hlt
   ·cases h
  ·cases h
 ·cases h
theorem zX (hc:CtxOk P c)(hR:Rel c.n χ0 w0 S a w G){o:Oper}{T d:Nat}{args:Array Operand}{ats:Array TypeId}{A B:AVal}{va vb:Value}{p:List Prop}{u:St}{hv:Bool}
  (ho:o.op=.call { callee:=.builtin .append,args,argTypes:=ats }) (hats:ats.toList=[T,T]) (hd:o.dst=some d) (hargs:args.toList.map a.eval=[va,vb])
  (hA:zA G w a.tmps none A va) (hB:zA G w a.tmps none B vb) (h:zL8 c d T A B S=some (p,u,hv))
  (hlt:∀ e∈u,e.1<c.n) (hh:∀ s,∀ e∈u,(S.get s).hung e.1=false) (hp:∀ q∈p,q)
  {next:Act→World→Prop}{Q:Exit→Act→World→Prop}(hnext:∀ v w' G',Rel c.n χ0 w0 (u++S) (a.put o.dst v) w' G'→next (a.put o.dst v) w'):o.wpIn (fz rd) 0 P a w next Q:=by
 have hats':ats=#[T,T]:=by apply Array.toList_inj.1;simpa using hats
 have hargs':args.map a.eval=#[va,vb]:=by apply Array.toList_inj.1;simpa using hargs
 have hexec:∀ {v':Value}{w':World},(Builtin.append_ #[T,T] o.type #[va,vb]).run P w=.ok v' w'→(execOp a.eval o).run P w=.ok (.value v') w':=by
  intro v' w' hr
  unfold execOp
  simp only[ho,resolve,Sem.run_bind,Sem.run_pure,Result.andThen_ok,invoke,builtin,hargs',hats',hr]
 unfold zL8 at h
 cases hnt:zB6 d S with
 |false=>simp[hnt] at h
 |true =>
  simp only[hnt,jE] at h
  unfold xD9 at h
  cases hTy:c.ty T with
  |sl t =>
   have hT:=zJ0 hc.tys T (by rw[hTy];simp)
   rw[hTy] at hT
   simp only[hTy] at h
   cases hpos:Nat.blt 0 t.size with
   |false=>simp[hpos] at h
   |true =>
    simp only[hpos,Bool.not_true,jD] at h
    cases hsrc:xT t B with
    |none=>simp[hsrc] at h
    |some l2 =>
     simp only[hsrc] at h
     have hBs:=yO4 (yA6 hT) hB hsrc
     cases A with
     |nil =>
      simp only[jA,jG] at h
      obtain⟨rfl,rfl,rfl⟩:=h
      simp only[zA] at hA
      have hb:=hp _ (jH.2 rfl)
      obtain⟨v',w',G',hr,hx,hfr,hown⟩:=zY0 (ty:=o.type) (U:=d) (d:=d) (m:=true) (l:=([]:List t.den)) hR.frame hT (.inl ⟨hA,rfl⟩) hBs (by simp only[List.length_nil,Nat.zero_add];omega)
      refine zL2 (hexec hr) (hnext v' w' G' ?_)
      rw[hd]
      have htd:∀ R:St,zB5 d (AVal.lose d) S R=[]:=by
       intro R
       induction R with
       |nil=>rfl
       |cons e r ih=>obtain⟨s,A⟩:=e;simp only[zB5,zD3 hnt s,jD,ih]
      have:=zW5 (d:=d) (U:=d) (R:=.own t l2 d true) (v':=v') hR hc.n hnt hx hfr (fun tm=>by simp only[zA];rw[List.nil_append] at hown;exact hown) (by rw[htd];exact hlt) (fun s=>hh s _ (jH.2 rfl))
      rw[htd] at this
      exact this
     |own t' l U m =>
      simp only at h
      cases hcast:Ty.cast (a:=.sl t') (.sl t) l with
      |none=>simp[hcast] at h
      |some l1 =>
       simp only[hcast,jA,jG] at h
       obtain⟨rfl,rfl,rfl⟩:=h
       obtain⟨e,rfl⟩:=zD5 hcast
       injection e with e
       subst e
       simp only[zA] at hA
       have hb:((l.length+l2.length:Nat):Int)≤4294967296:=hp _ (jH.2 rfl)
       obtain⟨v',w',G',hr,hx,hfr,hown⟩:=zY0 (ty:=o.type) (U:=U) (d:=d) (m:=m) (l:=l) hR.frame hT (.inr hA) hBs (by omega)
       refine zL2 (hexec hr) (hnext v' w' G' ?_)
       rw[hd]
       exact zW5 (d:=d) (U:=U) (v':=v') hR hc.n hnt hx hfr (fun tm=>by simp only[zA];exact hown) hlt (fun s=>hh s _ (jQ ..))
     |_=>simp at h
  |_=>simp[hTy] at h
theorem yE4:∀ {cs:AVal}{vs:List Value},zH cs=true→zA G w tm none cs (.tuple vs.toArray)→zG (zA G w tm none) cs.toL vs:=by
 intro cs
 induction cs with
 |nl=>intro vs _ h;simp only[zA,Value.tuple.injEq] at h;have:vs=[]:=(by simpa using h);subst this;trivial
 |cons x y _ ihy =>
  intro vs hp h
  simp only[zH] at hp
  simp only[zA] at h
  obtain⟨u,us,e,h1,h2⟩:=h
  simp only[Value.tuple.injEq] at e
  have e:vs=u::us:=by simpa using e
  subst e
  exact⟨h1,ihy hp h2⟩
 |_=>intro vs hp;simp[zH] at hp
theorem zK7 {α β:Type}{R:α→β→Prop}:∀ {xs:List α}{ys:List β}{xs':List α}{ys':List β},zG R xs ys→zG R xs' ys'→zG R (xs++xs') (ys++ys'):=by
 intro xs
 induction xs with
 |nil=>intro ys xs' ys' h h';cases ys<;>simp[zG] at h;exact h'
 |cons x xs ih=>intro ys xs' ys' h h';cases ys<;>simp only[zG] at h;exact⟨h.1,ih h.2 h'⟩
theorem xA6 (hc:CtxOk P c)(hR:Rel c.n χ0 w0 S a w G){gd:Gd}(hi:xD a.tmps gd)(hon:yH2 a.tmps gd){o:Oper}{fo:Operand}{args:Array Operand}{ats:Array TypeId}{f:Nat}{cs:AVal}{r:List AVal}{p:List Prop}{u:St}{hv:Bool}
  (ho:o.op=.call { callee:=.value fo,args,argTypes:=ats }) (hf:zA G w a.tmps none (.fn f cs) (a.eval fo)) (hr:zG (zA G w a.tmps none) r (args.toList.map a.eval)) (hcs:zH cs=true)
  (h:zH0 c gd o.dst f (r++cs.toL) ((r++cs.toL).map (zA4 S)) S=some (p,u,hv))
  (hlt:∀ e∈u,e.1<c.n) (hh:∀ s,∀ e∈u,(S.get s).hung e.1=false) (huu:∀ e∈u,∀ e'∈u,e.2.hung e'.1=false) (hp:∀ q∈p,q)
  {next:Act→World→Prop}{Q:Exit→Act→World→Prop}(hnext:∀ v w' G',Rel c.n χ0 w0 (u++S) (a.put o.dst v) w' G'→next (a.put o.dst v) w'):o.wpIn (fz rd) 0 P a w next Q:=by
 simp only[zA] at hf
 obtain⟨vs,hfv,hcv⟩:=hf
 have hcl:=yE4 (vs:=vs.toList) hcs (by simpa using hcv)
 have hys:=zK7 hr hcl
 unfold zH0 at h
 split at h
 ·cases h
 ·rename_i co hco
  obtain⟨sp,hmem,hsp⟩:=zO hco
  have hok:=hc.fns f sp hmem
  obtain⟨fn,h1,h2,h3⟩:=hok.1
  have hrun:(execOp a.eval o).run P w=.ok (.enter f (args.toList.map a.eval++vs.toList).toArray) w:=by
   have harr:(args.toList.map a.eval++vs.toList).toArray=args.map a.eval++vs:=by apply Array.toList_inj.1;simp
   rw[harr]
   unfold execOp
   have hbn:fn.body.isNone=false:=by cases hb:fn.body<;>simp_all
   simp[ho,resolve,hfv,Deferred.ofValue,invoke,callFunc,h1,h3]
   intro hb
   simp[hb] at hbn
  cases hb:(zT8 co.outs 0 (List.zipWith zD (r++cs.toL) ((r++cs.toL).map (zA4 S)))&&zF8 co.res&&zJ2 (r++cs.toL)&&zF1 (r++cs.toL) (List.zipWith zD (r++cs.toL) ((r++cs.toL).map (zA4 S)))) with
  |false=>simp only[hb,Bool.not_false,jE,reduceCtorEq] at h
  |true =>
   simp only[hb,Bool.not_true,jD] at h
   simp only[jB] at hb
   obtain⟨⟨⟨b1,b2⟩,b3⟩,b4⟩:=hb
   split at h
   ·rename_i uu hout heat
    cases gd with
    |none =>
     simp only at h
     have hback:=fun hokp=>yO9 hR hok hys hsp hokp b1 b3 b4 hout
     cases hd:o.dst with
     |none =>
      simp only[hd,jA,jG] at h
      obtain⟨rfl,rfl,rfl⟩:=h
      refine zR9 hrun ((hback hp).mono ?_)
      rintro e w' ⟨v,G',rfl,hB,hres,hg,hu⟩
      refine⟨v,rfl,hnext v w' (G.back G' w.heap.size none) ?_⟩
      rw[hd]
      exact yK7 (dst:=none) (res:=co.res) hR hc.n hB hres b2 hg hu hlt (fun s d e=>(by cases e)) (fun d e=>(by cases e))
     |some d =>
      simp only[hd] at h
      cases hnt:(zB6 d S&&zB6 (100000+d) S&&zB6 (200000+d) S&&zB6 (300000+d) S) with
      |false=>simp[hnt] at h
      |true =>
       simp only[hnt,jE,jA,jG] at h
       obtain⟨rfl,rfl,rfl⟩:=h
       simp only[jB] at hnt
       refine zR9 hrun ((hback hp).mono ?_)
       rintro e w' ⟨v,G',rfl,hB,hres,hg,hu⟩
       refine⟨v,rfl,hnext v w' (G.back G' w.heap.size (some d)) ?_⟩
       rw[hd]
       refine yK7 (dst:=some d) (res:=co.res) hR hc.n hB hres b2 hg hu hlt (fun s d' e=>by injection e with e;subst e;exact hh s _ (jQ ..)) (fun d' e s j hj=>?_)
       injection e with e;subst e
       obtain rfl|rfl|rfl|rfl:j=0∨j=1∨j=2∨j=3:=by omega
       ·simpa using zD3 hnt.1.1.1 s
       ·simpa using zD3 hnt.1.1.2 s
       ·simpa using zD3 hnt.1.2 s
       ·simpa using zD3 hnt.2 s
    |some q =>
     simp only at h
     split at h
     ·rename_i d τ x hd hres0
      simp only[jA,jG] at h
      obtain⟨rfl,rfl,rfl⟩:=h
      have hp0:=zQ6 hi hon hp
      refine zR9 hrun ((yO9 hR hok hys hsp hp0 b1 b3 b4 hout).mono ?_)
      rintro e w' ⟨v,G',rfl,hB,hres,hg,hu⟩
      refine⟨v,rfl,hnext v w' (G.back G' w.heap.size none) ?_⟩
      have hdst:o.dst=some d:=by assumption
      rw[hdst]
      have hx:=yW1 none hB hg
      have hdn:d<a.tmps.size:=by rw[hR.len];exact hlt _ (jH.2 rfl)
      refine zE6 hR hc.n hlt (fun d' e=>by injection e with e;subst e;simp[St.has]) hx (fun hX=>hX.elim (fun ⟨s,e,_⟩=>zE5 s e) (fun ⟨d,j,_,_,e⟩=>zA8 _ e)) (yH4 hR.frame none hB hg)
       (fun s _=>yH3 (fun d' e=>by cases e) (fun s' _=>by simp[St.has])) (fun s d' e _=>by injection e with e;subst e;exact hh s _ (jH.2 rfl)) (fun s hs=>?_)
      have hsd:s=d:=by simp[St.has] at hs;exact hs.symm
      subst hsd
      have hg1:St.get [(s,zG7 (some q) (.val τ x))] s=zG7 (some q) (.val τ x):=by simp[St.get]
      rw[hg1,zD4 hdn,if_pos rfl]
      refine zM9 (tm:=a.tmps) (fun k hk=>?_) (zK1 (zQ5 hi hon ?_))
      ·rw[zD4 hdn,if_neg]
       intro e;subst e
       have:=huu _ (jH.2 rfl) _ (jH.2 rfl)
       simp only at this
       rw[this] at hk;cases hk
      ·rw[hres0] at hres
       simp only[zA] at hres ⊢
       exact zD0 (hB.prot none) hres
     ·cases h
   ·cases h
end Go.Am
namespace Go.Am
open Go Go.RowKit
variable {rd:Option Nat}{gtab:GlobTab}{P:Program}{c:Ctx}{G:Gh}{w:World}{tm:Array Value}{n:Nat}{χ0:Nat→Nat→Nat}{w0:World}{S:St}{a:Act}
theorem yE5:∀ (A:AVal) (s:Option Nat),¬ A.names (fun _=>False) (fun _=>False) s:=by
 intro A
 induction A with
 |opt _ _ _ A ih=>intro s;simp only[AVal.names];exact ih none
 |box τ a ih=>intro s;cases s<;>simp only[AVal.names,false_or]<;>exact ih none
 |cons a b iha ihb=>intro s;simp only[AVal.names,not_or];exact⟨iha none,ihb none⟩
 |agg f a ih=>intro s;simp only[AVal.names];exact ih none
 |tup a ih=>intro s;simp only[AVal.names];exact ih none
 |fn f a ih=>intro s;simp only[AVal.names];exact ih none
 |raw=>intro s;cases s<;>simp[AVal.names]
 |_=>intro s;simp[AVal.names]
theorem yW3 (hR:Rel n χ0 w0 S a w G)(hn:n≤zA9){U:Nat}(hlt:∀ e∈zB5 U (AVal.lose U) S S,e.1<n):Rel n χ0 w0 (zB5 U (AVal.lose U) S S++S) a w G:=by
 refine zR8 (U:=U) (X:=fun _=>False) (Y:=fun _=>False) (Bad:=fun _=>False) hR hn (Ext.refl _ G w) id hR.frame ?_ (fun T h=>h.elim) (fun s _=>yE5 _ _) hlt
 refine⟨fun b o _ h=>⟨h,rfl⟩,fun s=>rfl,fun s hcol hlt=>⟨rfl,hcol⟩,fun t l T m v hB ho hf=>?_,fun t l T m v hB ho tm=>?_,fun s T t i p v hB tm ha=>?_⟩
 ·cases hb:Nat.beq U T with
  |true =>
   simp only[hb,jE] at hf ⊢
   cases m with
   |true=>simp[AVal.fitsT] at hf
   |false=>simp only[jD,zA2];exact⟨trivial,rfl,zD1 ho⟩
  |false=>simp only[jD,zA2];exact⟨trivial,v,rfl,ho⟩
 ·cases hb:Nat.beq U T with
  |true =>
   simp only[jE]
   cases m with
   |true=>simp only[jE,zA]
   |false=>simp only[jD];exact zL5 (zD1 ho)
  |false=>simp only[jD,zA];exact ho
 ·cases hb:Nat.beq U T with
  |true=>simp only[jE,zA]
  |false=>simp only[jD];exact ha
theorem yS9 {HB HT KT:List (Nat×Nat)}:∀ {A:AVal}{os:Option Nat},(∀ T,(T∈HT.map (·.1)∨T∈KT.map (·.2))→A.hasTag T=false)→(∀ s,os=some s→s∉HB.map (·.1)) →
  ¬ A.names (fun x=>(∃ y,(x,y)∈zY4 HB HT)∨∃ U,U∈KT.map (·.2)∧x=zB2 U) (fun x=>∃ U,U∈KT.map (·.2)∧x=zB2 U) os:=by
 intro A
 induction A with
 |own t l T m =>
  intro os ht _
  simp only[AVal.names]
  rintro (⟨y,hy⟩ | ⟨U,hU,e⟩)
  ·obtain⟨U,_,hm⟩:=cols_arr.1 hy
   have:=ht T (.inl (List.mem_map.2 ⟨_,hm,rfl⟩));simp[AVal.hasTag] at this
  ·have:=zA6 e;subst this;have:=ht T (.inr hU);simp[AVal.hasTag] at this
 |eref s T t i p =>
  intro os ht _
  simp only[AVal.names]
  rintro⟨U,hU,e⟩
  have:=zA6 e;subst this;have:=ht T (.inr hU);simp[AVal.hasTag] at this
 |ref s τ p=>intro os _ _;simp only[AVal.names];rintro⟨U,_,e⟩;exact zA7 _ _ e
 |opt _ _ _ A ih=>intro os ht _;simp only[AVal.names];exact ih ht (fun s e=>by cases e)
 |box τ b ih =>
  intro os ht hs
  cases os with
  |none=>simp only[AVal.names];exact ih ht (fun s e=>by cases e)
  |some s =>
   simp only[AVal.names,not_or]
   refine⟨⟨?_,?_⟩,ih ht (fun s e=>by cases e)⟩
   ·rintro⟨y,hy⟩
    obtain⟨i,_,hm⟩:=cols_box.1 hy
    exact hs s rfl (List.mem_map.2 ⟨_,hm,rfl⟩)
   ·rintro⟨U,_,e⟩;exact zA7 _ _ e
 |cons x y ihx ihy =>
  intro os ht _
  simp only[AVal.names,not_or]
  refine⟨ihx (fun T hT=>?_) (fun s e=>by cases e),ihy (fun T hT=>?_) (fun s e=>by cases e)⟩
  ·have:=ht T hT;simp only[AVal.hasTag,jJ] at this;exact this.1
  ·have:=ht T hT;simp only[AVal.hasTag,jJ] at this;exact this.2
 |agg f b ih=>intro os ht _;simp only[AVal.names];exact ih ht (fun s e=>by cases e)
 |tup b ih=>intro os ht _;simp only[AVal.names];exact ih ht (fun s e=>by cases e)
 |fn f b ih=>intro os ht _;simp only[AVal.names];exact ih ht (fun s e=>by cases e)
 |raw =>
  intro os ht hs
  cases os with
  |none=>simp[AVal.names]
  |some s =>
   simp only[AVal.names]
   rintro (⟨y,hy⟩ | ⟨U,_,e⟩)
   ·obtain⟨i,_,hm⟩:=cols_box.1 hy
    exact hs s rfl (List.mem_map.2 ⟨_,hm,rfl⟩)
   ·exact zA7 _ _ e
 |ownh t l T i V m =>
  intro os ht _
  have key:∀ K,(∀ T',(T'∈HT.map (·.1)∨T'∈KT.map (·.2))→Nat.beq T' K=false)→¬ ((∃ y,(zB2 K,y)∈zY4 HB HT)∨∃ U,U∈KT.map (·.2)∧zB2 K=zB2 U):=by
   intro K hK
   rintro (⟨y,hy⟩ | ⟨U,hU,e⟩)
   ·obtain⟨U,_,hm⟩:=cols_arr.1 hy
    have:=hK K (.inl (List.mem_map.2 ⟨_,hm,rfl⟩));simp at this
   ·have:=zA6 e;subst this;have:=hK K (.inr hU);simp at this
  simp only[AVal.names,not_or]
  have ht':=fun T' hT'=>ht T' hT'
  simp only[AVal.hasTag,jJ] at ht'
  have k1:=key T fun T' hT'=>(ht' T' hT').1
  have k2:=key V fun T' hT'=>(ht' T' hT').2
  rw[not_or] at k1 k2
  exact⟨k1,k2⟩
 |rref s=>intro os _ _;simp only[AVal.names];rintro⟨U,_,e⟩;exact zA7 _ _ e
 |fptr f caps=>intro os _ _;simp only[AVal.names];rintro⟨k,τ,_,U,_,e⟩;exact zA7 _ _ e
 |_=>intro os _ _;simp[AVal.names]
theorem xN7 {hb:List (Nat×Nat)}{wants:List Nat}:∀ {ys ks:List AVal}{i j:Nat}{Y k:AVal},ys[j]?=some Y→ks[j]?=some k→(yF8 hb wants i ys ks)[j]?=some (zI9 hb wants (i+j) Y k):=by
 intro ys
 induction ys with
 |nil=>intro ks i j Y k h;simp at h
 |cons y r ih =>
  intro ks i j Y k hY hk
  cases ks with
  |nil=>simp at hk
  |cons q s =>
   simp only[yF8]
   cases j with
   |zero=>simp at hY hk;subst hY;subst hk;simp
   |succ j=>simp at hY hk ⊢;have:=ih (i:=i+1) hY hk;rwa [show i+1+j=i+(j+1) by omega] at this
theorem zY5 {hb:List (Nat×Nat)}{wants:List Nat}:∀ {ys ks:List AVal}{i:Nat},ys.length=ks.length→(yF8 hb wants i ys ks).length=ys.length:=by
 intro ys
 induction ys with
 |nil=>intro ks i _;simp[yF8]
 |cons y r ih=>intro ks i h;cases ks with
  |nil=>simp at h
  |cons q s=>simp only[yF8,List.length_cons];rw[ih (by simpa using h)]
theorem xA7 {wants:List Nat}{p:Nat×Nat}:∀ {ys ks:List AVal}{i j:Nat}{Y k:AVal},ys[j]?=some Y→ks[j]?=some k→p∈yM3 wants (i+j) Y k→p∈zX7 wants i ys ks:=by
 intro ys
 induction ys with
 |nil=>intro ks i j Y k h;simp at h
 |cons y r ih =>
  intro ks i j Y k hY hk hp
  cases ks with
  |nil=>simp at hk
  |cons q s =>
   simp only[zX7,List.mem_append]
   cases j with
   |zero=>simp at hY hk;subst hY;subst hk;exact .inl hp
   |succ j=>simp at hY hk;exact .inr (ih (i:=i+1) hY hk (by rwa [show i+1+j=i+(j+1) by omega]))
theorem yH6 {p:Nat×Nat}:∀ {ys:List AVal}{i j:Nat}{Y:AVal},ys[j]?=some Y→p∈yL9 (i+j) Y→p∈zO9 i ys:=by
 intro ys
 induction ys with
 |nil=>intro i j Y h;simp at h
 |cons y r ih =>
  intro i j Y hY hp
  simp only[zO9,List.mem_append]
  cases j with
  |zero=>simp at hY;subst hY;exact .inl hp
  |succ j=>simp at hY;exact .inr (ih (i:=i+1) hY (by rwa [show i+1+j=i+(j+1) by omega]))
theorem yE6 {s k:Nat}:∀ {ys:List AVal}{i:Nat},(s,k)∈zO9 i ys→i≤k∧∃ τ,ys[k-i]?=some (.ref s τ []):=by
 intro ys
 induction ys with
 |nil=>intro i h;simp[zO9] at h
 |cons y r ih =>
  intro i h
  simp only[zO9,List.mem_append] at h
  rcases h with h|h
  ·cases y with
   |ref s' τ p =>
    cases p with
    |nil=>simp only[yL9,jH,jG] at h;obtain⟨rfl,rfl⟩:=h;exact⟨jI _,τ,by simp⟩
    |cons _ _=>simp[yL9] at h
   |_=>simp[yL9] at h
  ·obtain⟨h1,τ,h2⟩:=ih h
   refine⟨by omega,τ,?_⟩
   rw[show k-i=(k-(i+1))+1 by omega]
   simpa using h2
theorem xA8 {ys:List AVal}:yE3 (zP1 (zO9 0 ys)):=by
 intro a b b' h1 h2
 obtain⟨_,τ,e1⟩:=yE6 (mem_swap.1 h1)
 obtain⟨_,τ',e2⟩:=yE6 (mem_swap.1 h2)
 rw[e1] at e2
 injection e2 with e2
 injection e2
theorem xH1 {ys:List AVal}:∀ {outs:List (Nat×AVal)}{u:St}{bs:List Bor}{K:List (Nat×Nat)},xE ys outs=some (u,bs,K) →
  (∀ i k,(i,k)∈outs→∃ Y u' bs' K',ys[i]?=some Y∧xQ4 Y i k=some (u',bs',K')∧∀ e∈u',e∈u) ∧
  (∀ e∈u,∃ i k Y u' bs' K',(i,k)∈outs∧ys[i]?=some Y∧xQ4 Y i k=some (u',bs',K')∧e∈u'∧∀ p∈K',p∈K) ∧
  (∀ b∈bs,∃ i k Y u' bs' K',(i,k)∈outs∧ys[i]?=some Y∧xQ4 Y i k=some (u',bs',K')∧b∈bs'∧∀ p∈K',p∈K):=by
 intro outs
 induction outs with
 |nil=>intro u bs K h;simp only[xE,jA,jG] at h;obtain⟨rfl,rfl,rfl⟩:=h;simp
 |cons q r ih =>
  intro u bs K h
  obtain⟨i,k⟩:=q
  simp only[xE] at h
  split at h
  ·rename_i Y u2 bs2 K2 hY hr
   split at h
   ·rename_i u' bs' K' ho
    simp only[jA,jG] at h
    obtain⟨rfl,rfl,rfl⟩:=h
    obtain⟨g1,g2,g3⟩:=ih hr
    refine⟨?_,?_,?_⟩
    ·intro i' k' hm
     rcases List.mem_cons.1 hm with hm|hm
     ·injection hm with e1 e2;subst e1;subst e2;exact⟨Y,u',bs',K',hY,ho,fun e he=>List.mem_append_left _ he⟩
     ·obtain⟨Y',u3,bs3,K3,q1,q2,q3⟩:=g1 i' k' hm;exact⟨Y',u3,bs3,K3,q1,q2,fun e he=>List.mem_append_right _ (q3 e he)⟩
    ·intro e he
     rcases List.mem_append.1 he with he|he
     ·exact⟨i,k,Y,u',bs',K',by simp,hY,ho,he,fun p hp=>List.mem_append_left _ hp⟩
     ·obtain⟨i',k',Y',u3,bs3,K3,q1,q2,q3,q4,q5⟩:=g2 e he;exact⟨i',k',Y',u3,bs3,K3,by simp[q1],q2,q3,q4,fun p hp=>List.mem_append_right _ (q5 p hp)⟩
    ·intro e he
     rcases List.mem_append.1 he with he|he
     ·exact⟨i,k,Y,u',bs',K',by simp,hY,ho,he,fun p hp=>List.mem_append_left _ hp⟩
     ·obtain⟨i',k',Y',u3,bs3,K3,q1,q2,q3,q4,q5⟩:=g3 e he;exact⟨i',k',Y',u3,bs3,K3,by simp[q1],q2,q3,q4,fun p hp=>List.mem_append_right _ (q5 p hp)⟩
   ·cases h
  ·cases h
theorem yW4:∀ {A:AVal}{τ:Ty}{vs:List Value},zA2 G w τ A vs→vs.length=τ.size:=by
 intro A
 induction A with
 |val τ' x=>intro τ vs h;simp only[zA2] at h;obtain⟨rfl,_,h⟩:=h;exact zA1 h
 |nil=>intro τ vs h;simp only[zA2] at h;obtain⟨h1,rfl⟩:=h;cases τ<;>simp[Ty.isSl] at h1;simp[Ty.size]
 |own t l T m=>intro τ vs h;simp only[zA2] at h;obtain⟨rfl,v,rfl,_⟩:=h;simp[Ty.size]
 |agg f b ih=>intro τ vs h;simp only[zA2] at h;obtain⟨rfl,h⟩:=h;simp[Ty.size,ih h]
 |nl=>intro τ vs h;simp only[zA2] at h;obtain⟨rfl,rfl⟩:=h;simp[Ty.size]
 |junk=>intro τ vs h;exact zB h
 |cons x y ihx ihy=>intro τ vs h;simp only[zA2] at h;obtain⟨h1,t1,us,ws,rfl,rfl,h2,h3⟩:=h;simp[Ty.size,ihx h2,ihy h3]
 |_=>intro τ vs h;simp only[zA2] at h
def xH2 (G:Gh)(w:World)(G':Gh)(w':World)(b:Bor):Prop:=0<b.t.size∧∃ u m,zF4 G w b.t b.l b.U m u∧zF4 G' w' b.t b.l' b.T b.m u
theorem yW5 {t:Ty}{l:List t.den}{U:Nat}{m:Bool}{k:AVal}{bs:List Bor}{u:Value}{G':Gh}{w':World}(h:zG5 (.own t l U m) k=some bs)(h1:zF4 G w t l U m u)
  (h2:∀ t' l' T m',k=.own t' l' T m'→zF4 G' w' t' l' T m' u):∀ b∈bs,xH2 G w G' w' b:=by
 simp only[zG5] at h
 split at h
 ·rename_i t' l' T m'
  split at h
  ·rename_i l2 hl
   cases hz:Nat.blt 0 t.size with
   |false=>simp[hz] at h
   |true =>
    simp only[hz,jE,jA] at h
    subst h
    intro b hb
    simp only[jH] at hb
    subst hb
    obtain⟨e,hl⟩:=zD5 hl
    injection e with e
    subst e
    have hl:l'=l2:=hl
    subst hl
    exact⟨jR hz,u,m,h1,h2 _ _ _ _ rfl⟩
  ·cases h
 ·cases h
theorem xH3 {G':Gh}{w':World}:∀ {A k:AVal}{τ:Ty}{vs:List Value}{bs:List Bor},zG5 A k=some bs→zA2 G w τ A vs→zA2 G' w' τ k vs→∀ b∈bs,xH2 G w G' w' b:=by
 intro A
 induction A with
 |own t l U m =>
  intro k τ vs bs h h1 h2
  simp only[zA2] at h1
  obtain⟨rfl,v,rfl,ho⟩:=h1
  refine yW5 h ho (fun t' l' T m' e=>?_)
  subst e
  simp only[zA2] at h2
  obtain⟨e,v',e2,h3⟩:=h2
  simp only[List.cons.injEq,and_true] at e2
  subst e2
  exact h3
 |agg f d ih =>
  intro k τ vs bs h h1 h2
  simp only[zG5] at h
  split at h
  ·rename_i f' d'
   cases hb:Ty.beq f f' with
   |false=>simp[hb] at h
   |true =>
    simp only[hb,jE] at h
    have e:=Ty.eq_of_beq hb;subst e
    simp only[zA2] at h1 h2
    exact ih h h1.2 h2.2
  ·cases h
 |cons x y ihx ihy =>
  intro k τ vs bs h h1 h2
  simp only[zG5] at h
  split at h
  ·split at h
   ·rename_i bx by' hx hy
    simp only[jA] at h
    subst h
    simp only[zA2] at h1 h2
    obtain⟨h0,t0,us,ws,rfl,rfl,g1,g2⟩:=h1
    obtain⟨h0',t0',us',ws',e,e2,g1',g2'⟩:=h2
    injection e with e3 e4
    subst e3;subst e4
    obtain⟨rfl,rfl⟩:=List.append_inj e2 (by rw[yW4 g1,yW4 g1'])
    intro b hb
    rcases List.mem_append.1 hb with hb|hb
    ·exact ihx hx g1 g1' b hb
    ·exact ihy hy g2 g2' b hb
   ·cases h
  ·cases h
 |val _ _=>intro k τ vs bs h;simp only[zG5,jA] at h;subst h;intro _ _ b hb;cases hb
 |nil=>intro k τ vs bs h;simp only[zG5,jA] at h;subst h;intro _ _ b hb;cases hb
 |nl=>intro k τ vs bs h;simp only[zG5,jA] at h;subst h;intro _ _ b hb;cases hb
 |_=>intro k τ vs bs h;simp[zG5] at h
theorem yE7 {G':Gh}{w':World}{tm':Array Value}{A k:AVal}{v:Value}{bs:List Bor}(h:zG5 A k=some bs)(h1:zA G w tm none A v)(h2:zA G' w' tm' none k v):∀ b∈bs,xH2 G w G' w' b:=by
 cases A with
 |own t l U m=>simp only[zA] at h1;exact yW5 h h1 (fun t' l' T m' e=>by subst e;simpa only[zA] using h2)
 |agg f d =>
  simp only[zG5] at h
  split at h
  ·rename_i f' d'
   cases hb:Ty.beq f f' with
   |false=>simp[hb] at h
   |true =>
    simp only[hb,jE] at h
    have e:=Ty.eq_of_beq hb;subst e
    simp only[zA] at h1 h2
    obtain⟨vs,e1,g1⟩:=h1
    obtain⟨vs',e2,g2⟩:=h2
    rw[e1] at e2
    simp only[Value.agg.injEq] at e2
    have e2:vs=vs':=by simpa using e2
    subst e2
    exact xH3 h g1 g2
  ·cases h
 |cons x y =>
  simp only[zG5] at h
  split at h
  ·rename_i x' y'
   simp only[zA] at h1 h2
   obtain⟨u,us,e1,g1,g2⟩:=h1
   obtain⟨u',us',e2,g1',g2'⟩:=h2
   rw[e1] at e2
   have e2:u=u'∧us=us':=by simpa using e2
   obtain⟨rfl,rfl⟩:=e2
   split at h
   ·rename_i bx by' hx hy
    simp only[jA] at h
    subst h
    intro b hb
    rcases List.mem_append.1 hb with hb|hb
    ·exact yE7 hx g1 g1' b hb
    ·exact yE7 hy g2 g2' b hb
   ·cases h
  ·cases h
 |val _ _=>simp only[zG5,jA] at h;subst h;intro b hb;cases hb
 |nil=>simp only[zG5,jA] at h;subst h;intro b hb;cases hb
 |nl=>simp only[zG5,jA] at h;subst h;intro b hb;cases hb
 |_=>simp[zG5] at h
 termination_by A
theorem xH4 {G':Gh}{w':World}{b:Bor}(hb:xH2 G w G' w' b)(hpos:0<b.l.length){l:List b.t.den}{m:Bool}{v:Value}(h:zF4 G w b.t l b.U m v)(hlen:l.length=b.l.length):zF4 G' w' b.t b.l' b.T b.m v:=by
 obtain⟨hz,u,m0,h1,h2⟩:=hb
 by_cases ht:b.t.isL=true
 ·rcases h1 with h1|⟨_,k,e,_,_,_,_,_,e1,_⟩
  ·exact absurd ht (by rw[h1.1.2];simp)
  rcases h with h|⟨_,k,e,_,_,_,_,_,e2,_⟩
  ·exact absurd ht (by rw[h.1.2];simp)
  rw[e2,← e1]
  exact h2
 have ht:b.t.isL=false:=by simpa using ht
 have h1:=zB4 h1 ht
 have h:=zB4 h ht
 rcases h1.2 with ⟨_,e⟩ | ⟨cap,cur,e,us,q1,q2,q3,q4,q5,_⟩
 ·rw[e] at hpos;simp at hpos
 ·rcases h.2 with ⟨_,e⟩ | ⟨cap',cur',e',us',p1,p2,p3,p4,p5,_⟩
  ·rw[e] at hlen;simp at hlen;omega
  ·rw[q2] at p2
   simp only[jA,Obj.cells.injEq] at p2
   obtain⟨rfl,_,_⟩:=p2
   have hc:cap=cap':=Nat.eq_of_mul_eq_mul_right hz (by rw[← q5,p5])
   subst hc
   rw[p1,hlen,← q1]
   exact h2
theorem yT {T:Nat}{b:Bor}:∀ {bs:List Bor},zW bs T=some b→b∈bs∧b.U=T:=by
 intro bs
 induction bs with
 |nil=>intro h;cases h
 |cons x r ih =>
  intro h
  simp only[zW] at h
  cases hb:Nat.beq x.U T with
  |true=>simp only[hb,jE,jA] at h;subst h;exact⟨jQ ..,jC hb⟩
  |false=>simp only[hb,jD] at h;obtain⟨h1,h2⟩:=ih h;exact⟨jP _ h1,h2⟩
structure TurnOk (bs:List Bor) (L:List Nat) (G:Gh) (w:World) (G':Gh) (w':World):Prop where
 prot:∀ b o,b<w.heap.size→G.χ b o=0→G'.χ b o=0∧w'.cell? ⟨b,o,none⟩=w.cell? ⟨b,o,none⟩
 ref:∀ s,G'.β s=G.β s
 keep:∀ t l T m v,T∉L→zF4 G w t l T m v→zF4 G' w' t l T m v
 tag:∀ T,T∉L→G'.γ T=G.γ T
 bor:∀ b∈bs,∀ (l:List b.t.den) m v,l.length=b.l.length→zF4 G w b.t l b.U m v→zF4 G' w' b.t b.l' b.U b.m v
 inL:∀ b∈bs,b.U∈L
theorem xH5 {L:List Nat}{T:Nat}(h:L.any (Nat.beq T)=false):T∉L:=fun hm=>by rw[any_beq.2 hm] at h;cases h
theorem yW6 {bs:List Bor}{L:List Nat}{G':Gh}{w':World}(H:TurnOk bs L G w G' w'){t:Ty}{l:List t.den}{T:Nat}{m:Bool}{v:Value}(ha:∀ q∈(AVal.own t l T m).borAsks bs,q)(h:zF4 G w t l T m v){os:Option Nat} :
  zA G' w' tm os ((AVal.own t l T m).turn bs L) v∧(((AVal.own t l T m).turn bs L).fitsT (.sl t)=true→zA2 G' w' (.sl t) ((AVal.own t l T m).turn bs L) [v]):=by
 simp only[AVal.turn,AVal.mapOwn]
 cases hb:zW bs T with
 |some b =>
  obtain⟨h1,h2⟩:=yT hb
  subst h2
  simp only[AVal.borAsks,hb,jH,forall_eq] at ha
  simp only
  split
  ·rename_i l2 hl
   obtain⟨e,hl⟩:=zD5 hl
   injection e with e
   subst e
   have hl:b.l'=l2:=hl
   subst hl
   have:=H.bor b h1 l m v ha h
   exact⟨by simp only[zA];exact this,fun _=>by simp only[zA2];exact⟨trivial,v,rfl,this⟩⟩
  ·exact⟨by simp only[zA],fun hf=>by simp[AVal.fitsT] at hf⟩
 |none =>
  simp only
  cases hL:L.any (Nat.beq T) with
  |true =>
   simp only[jE]
   cases m with
   |true=>exact⟨by simp only[jE,zA],fun hf=>by simp[AVal.fitsT] at hf⟩
   |false =>
    have hc:=zA5 H.prot (zD1 h)
    exact⟨by simp only[jD];exact zL5 hc,fun _=>by simp only[jD,zA2];exact⟨trivial,rfl,hc⟩⟩
  |false =>
   have:=H.keep t l T m v (xH5 hL) h
   exact⟨by simp only[jD,zA];exact this,fun _=>by simp only[jD,zA2];exact⟨trivial,v,rfl,this⟩⟩
theorem yP5 {bs:List Bor}{L:List Nat}{G':Gh}{w':World}(H:TurnOk bs L G w G' w'):∀ {A:AVal}{τ:Ty}{vs:List Value},(∀ q∈A.borAsks bs,q)→zA2 G w τ A vs→(A.turn bs L).laxT τ=true→zA2 G' w' τ (A.turn bs L) vs:=by
 intro A
 induction A with
 |val τ' x=>intro τ vs _ h _;simp only[AVal.turn,AVal.mapOwn,zA2] at h ⊢;exact⟨h.1,h.2.1,zA5 H.prot h.2.2⟩
 |nil=>intro τ vs _ h _;simp only[AVal.turn,AVal.mapOwn,zA2] at h ⊢;exact h
 |own t l T m=>intro τ vs ha h hf;simp only[zA2] at h;obtain⟨rfl,v,rfl,ho⟩:=h;exact (xG2 hf).elim (yW6 (tm:=#[]) (os:=none) H ha ho).2 (fun e=>by rw[e];simp only[zA2];exact⟨rfl,v,rfl,yB ho⟩)
 |agg f b ih =>
  intro τ vs ha h hf
  simp only[zA2] at h
  obtain⟨rfl,h⟩:=h
  have e:(AVal.agg f b).turn bs L=bif (b.turn bs L).laxT f then .agg f (b.turn bs L) else .junk:=rfl
  rw[e] at hf ⊢
  cases hc:(b.turn bs L).laxT f with
  |false=>simp[hc,AVal.laxT,Ty.isSl] at hf
  |true=>simp only[jE,zA2];exact⟨trivial,ih (by simpa[AVal.borAsks] using ha) h hc⟩
 |nl=>intro τ vs _ h _;simp only[AVal.turn,AVal.mapOwn,zA2] at h ⊢;exact h
 |junk=>intro τ vs _ h _;simp only[AVal.turn,AVal.mapOwn,zA2] at h ⊢;exact h
 |cons x y ihx ihy =>
  intro τ vs ha h hf
  simp only[zA2] at h
  obtain⟨h1,t1,us,ws,rfl,rfl,h2,h3⟩:=h
  have e:(AVal.cons x y).turn bs L=.cons (x.turn bs L) (y.turn bs L):=rfl
  rw[e] at hf ⊢
  simp only[AVal.laxT,zD7,jB] at hf
  simp only[AVal.borAsks,List.mem_append] at ha
  simp only[zA2]
  exact⟨_,_,us,ws,rfl,rfl,ihx (fun q hq=>ha q (.inl hq)) h2 hf.1,ihy (fun q hq=>ha q (.inr hq)) h3 hf.2⟩
 |_=>intro τ vs _ h;simp only[zA2] at h
theorem xH6 {bs:List Bor}{L:List Nat}{G':Gh}{w':World}(H:TurnOk bs L G w G' w'):∀ {A:AVal}{os:Option Nat}{v:Value},(∀ q∈A.borAsks bs,q) →
  (∀ s,os=some s→(∀ o,G.χ (G.β s) o=zG8 s)→G.β s<w.heap.size→w'.heap[G.β s]?=w.heap[G.β s]?∧∀ o,G'.χ (G.β s) o=zG8 s)→zA G w tm os A v→zA G' w' tm os (A.turn bs L) v:=by
 intro A
 induction A with
 |junk=>intro os v _ _ _;simp only[AVal.turn,AVal.mapOwn,zA]
 |val τ x=>intro os v _ _ h;simp only[AVal.turn,AVal.mapOwn,zA] at h ⊢;exact zD0 H.prot h
 |nil=>intro os v _ _ h;simp only[AVal.turn,AVal.mapOwn,zA] at h ⊢;exact h
 |nn b=>intro os v _ _ h;simp only[AVal.turn,AVal.mapOwn,zA] at h ⊢;exact h
 |own t l T m=>intro os v ha _ h;simp only[zA] at h;exact (yW6 H ha h).1
 |eref s T t i p =>
  intro os v _ _ h
  have e:(AVal.eref s T t i p).turn bs L=bif L.any (Nat.beq T) then .junk else .eref s T t i p:=rfl
  rw[e]
  cases hL:L.any (Nat.beq T) with
  |true=>simp only[jE,zA]
  |false=>simp only[jD];simp only[zA] at h ⊢;rw[H.tag T (xH5 hL)];exact h
 |opt s' want gg A ih =>
  intro os v ha _ h
  have e:(AVal.opt s' want gg A).turn bs L=.opt s' want gg (A.turn bs L):=rfl
  rw[e]
  simp only[zA] at h ⊢
  exact⟨h.1,fun e=>ih ha (fun s e=>by cases e) (h.2.1 e),h.2.2⟩
 |box τ b ih =>
  intro os v ha hbx h
  have e:(AVal.box τ b).turn bs L=bif (b.turn bs L).laxT τ then .box τ (b.turn bs L) else .junk:=rfl
  rw[e]
  cases os with
  |none=>simp only[zA] at h
  |some s =>
   cases hc:(b.turn bs L).laxT τ with
   |false=>simp only[jD,zA]
   |true =>
    simp only[jE]
    simp only[zA] at h ⊢
    obtain⟨h1,hvt,cur,e,h2,h3,h4⟩:=h
    obtain⟨q1,q2⟩:=hbx s rfl h4 (zE8 h2)
    exact⟨by rw[H.ref];exact h1,hvt,cur,e,by rw[H.ref,q1];exact h2,yP5 H (by simpa[AVal.borAsks] using ha) h3 hc,fun o=>by rw[H.ref];exact q2 o⟩
 |ref s' τ p=>intro os v _ _ h;simp only[AVal.turn,AVal.mapOwn,zA] at h ⊢;rw[H.ref];exact h
 |raw =>
  intro os v _ hbx h
  simp only[AVal.turn,AVal.mapOwn]
  cases os with
  |none=>simp only[zA] at h
  |some s =>
   simp only[zA] at h ⊢
   obtain⟨h1,u,e,h2,h4⟩:=h
   obtain⟨q1,q2⟩:=hbx s rfl h4 (zE8 h2)
   exact⟨by rw[H.ref];exact h1,u,e,by rw[H.ref,q1];exact h2,fun o=>by rw[H.ref];exact q2 o⟩
 |ownh t l T i U m=>intro os v _ _ _;simp only[AVal.turn,AVal.mapOwn,zA]
 |rref s'=>intro os v _ _ h;simp only[AVal.turn,AVal.mapOwn,zA] at h ⊢;rw[H.ref];exact h
 |fptr f caps =>
  intro os v _ _ h
  simp only[AVal.turn,AVal.mapOwn,zA] at h ⊢
  obtain⟨b,h1,h2,h3⟩:=h
  have hb:b<w.heap.size:=by
   by_cases hb:b<w.heap.size
   ·exact hb
   ·have:w.heap[b]?=none:=Array.getElem?_eq_none (by omega)
    simp[World.cell?,this] at h3
  obtain⟨h4,h5⟩:=H.prot b 0 hb h2
  refine⟨b,h1,h4,?_⟩
  rw[h5,h3]
  congr 3
  refine List.map_congr_left fun q hq=>?_
  cases q with
  |none=>rfl
  |some q=>obtain⟨k,τ⟩:=q;simp only[yM];rw[H.ref]
 |agg f b _ =>
  intro os v ha _ h
  have e:(AVal.agg f b).turn bs L=bif (b.turn bs L).laxT f then .agg f (b.turn bs L) else .junk:=rfl
  rw[e]
  cases hc:(b.turn bs L).laxT f with
  |false=>simp only[jD,zA]
  |true =>
   simp only[jE]
   simp only[zA] at h ⊢
   obtain⟨vs,h1,h2⟩:=h
   exact⟨vs,h1,yP5 H (by simpa[AVal.borAsks] using ha) h2 hc⟩
 |nl=>intro os v _ _ h;simp only[AVal.turn,AVal.mapOwn,zA] at h ⊢;exact h
 |cons x y ihx ihy =>
  intro os v ha _ h
  have e:(AVal.cons x y).turn bs L=.cons (x.turn bs L) (y.turn bs L):=rfl
  rw[e]
  simp only[AVal.borAsks,List.mem_append] at ha
  simp only[zA] at h ⊢
  obtain⟨u,us,h1,h2,h3⟩:=h
  exact⟨u,us,h1,ihx (fun q hq=>ha q (.inl hq)) (fun s e=>by cases e) h2,ihy (fun q hq=>ha q (.inr hq)) (fun s e=>by cases e) h3⟩
 |tup b ih =>
  intro os v ha _ h
  have e:(AVal.tup b).turn bs L=.tup (b.turn bs L):=rfl
  rw[e]
  simp only[zA] at h ⊢
  exact ih (by simpa[AVal.borAsks] using ha) (fun s e=>by cases e) h
 |fn f b ih =>
  intro os v ha _ h
  have e:(AVal.fn f b).turn bs L=.fn f (b.turn bs L):=rfl
  rw[e]
  simp only[zA] at h ⊢
  obtain⟨vs,h1,h2⟩:=h
  exact⟨vs,h1,ih (by simpa[AVal.borAsks] using ha) (fun s e=>by cases e) h2⟩
theorem xH7 {bs:List Bor}{L:List Nat}{A:AVal}{d:Nat}(h:A.hung d=false):(A.turn bs L).hung d=false:=by
 refine yE1 h (fun t l T m=>?_) (fun s T t i p=>?_)
 ·split
  ·split<;>simp[AVal.hung]
  ·cases L.any (Nat.beq T)<;>cases m<;>simp[AVal.hung]
 ·cases L.any (Nat.beq T)<;>simp[AVal.hung]
theorem xH8 {bs:List Bor}{L:List Nat}{s:Nat}:∀ {R:St},St.has s (zI8 bs L S R)=true→(∀ e∈zI8 bs L S R,e.1≠zA9)→(zI8 bs L S R).get s=(S.get s).turn bs L:=by
 intro R
 induction R with
 |nil=>intro h;simp[zI8,St.has] at h
 |cons e r ih =>
  intro h hc
  obtain⟨s',A⟩:=e
  simp only[zI8] at h hc ⊢
  cases ht:zP5 L (S.get s') with
  |false=>simp only[ht,jD] at h hc ⊢;exact ih h hc
  |true =>
   simp only[ht,jE] at h hc ⊢
   simp only[St.get]
   cases hb:Nat.beq s' s with
   |true=>have:=jC hb;subst this;rfl
   |false =>
    have hcut:Nat.beq s' zA9=false:=by
     cases hb2:Nat.beq s' zA9 with
     |false=>rfl
     |true=>exact absurd (jC hb2) (hc _ (jQ ..))
    simp only[hcut,jD]
    exact ih (by simpa[St.has,hb] using h) (fun e he=>hc e (jP _ he))
theorem xA9 {bs:List Bor}{L:List Nat}{s:Nat}(ht:zP5 L (S.get s)=true):∀ {R:St},St.has s R=true→St.has s (zI8 bs L S R)=true:=by
 intro R
 induction R with
 |nil=>intro h;simp[St.has] at h
 |cons e r ih =>
  intro h
  obtain⟨s',A⟩:=e
  simp only[zI8]
  simp only[St.has,List.any_cons,Bool.or_eq_true] at h
  cases ht':zP5 L (S.get s') with
  |false =>
   simp only[jD]
   rcases h with h|h
   ·have:=jC h;subst this;rw[ht] at ht';cases ht'
   ·exact ih h
  |true =>
   simp only[jE,St.has,List.any_cons,Bool.or_eq_true]
   rcases h with h|h
   ·exact .inl h
   ·exact .inr (ih h)
theorem yT0 {bs:List Bor}{L:List Nat}{s:Nat}(ht:zP5 L (S.get s)=true):∀ {k:Nat},s<k→(∀ q∈zU bs L S k,q)→∀ q∈(S.get s).borAsks bs,q:=by
 intro k
 induction k with
 |zero=>intro h;exact absurd h (Nat.not_lt_zero _)
 |succ k ih =>
  intro h hq
  simp only[zU,List.mem_append] at hq
  by_cases e:s=k
  ·rw[← e,ht,jE] at hq
   exact fun q hq'=>hq q (.inr hq')
  ·exact ih (by omega) (fun q hq'=>hq q (.inl hq'))
theorem xH9 {L:List Nat}{A:AVal}(h:zP5 L A=true):A≠.junk:=by
 intro e;subst e
 obtain⟨T,_,h⟩:=List.any_eq_true.1 h
 simp[AVal.hasTag] at h
theorem yE8 {hb:List (Nat×Nat)}{wants:List Nat}{i:Nat}{Y k A:AVal}(h:zI9 hb wants i Y k=A)(hA:zF7 A=true):∃ s τ k',Y=.ref s τ []∧k=.box τ k'∧A=.box τ (k'.pos τ (zS4 i)):=by
 subst h
 cases Y with
 |ref s τ p =>
  cases p with
  |nil =>
   cases k with
   |box τ' k' =>
    simp only[zI9] at hA ⊢
    cases hb:Ty.beq τ' τ with
    |false=>simp[hb,zF7] at hA
    |true=>have:=Ty.eq_of_beq hb;subst this;exact⟨s,τ',k',rfl,rfl,rfl⟩
   |_=>simp[zI9,zF7] at hA
  |cons _ _=>simp[zI9,zF7] at hA
 |own t l T m=>simp only[zI9] at hA;cases hw:wants.any (Nat.beq i)<;>cases m<;>simp[hw,zF7] at hA
 |agg f d =>
  simp only[zI9] at hA
  cases hw:wants.any (Nat.beq i) with
  |true=>simp[hw,zF7] at hA
  |false=>simp only[hw,jD] at hA;split at hA<;>simp[zF7] at hA
 |fn f cs=>simp only[zI9] at hA;cases hq:cs.pureL<;>simp[hq,zF7] at hA
 |fptr f caps=>simp only[zI9] at hA;split at hA<;>simp[zF7] at hA
 |_=>simp[zI9,zF7] at hA
theorem yT1 (hc:CtxOk P c)(hR:Rel c.n χ0 w0 S a w G){o:Oper}{fo:Operand}{args:Array Operand}{ats:Array TypeId}{f:Nat}{cs:AVal}{r:List AVal}{p:List Prop}{u:St}{hv:Bool}
  (ho:o.op=.call { callee:=.value fo,args,argTypes:=ats }) (hf:zA G w a.tmps none (.fn f cs) (a.eval fo)) (hr:zG (zA G w a.tmps none) r (args.toList.map a.eval)) (hcs:zH cs=true)
  (h:xE0 c o.dst f (r++cs.toL) S=some (p,u,hv))
  (hlt:∀ e∈u,e.1<c.n) (hh:∀ s,∀ e∈u,(S.get s).hung e.1=false) (hp:∀ q∈p,q)
  {next:Act→World→Prop}{Q:Exit→Act→World→Prop}(hnext:∀ v w' G',Rel c.n χ0 w0 (u++S) (a.put o.dst v) w' G'→next (a.put o.dst v) w'):o.wpIn (fz rd) 0 P a w next Q:=by
 simp only[zA] at hf
 obtain⟨vs,hfv,hcv⟩:=hf
 have hcl:=yE4 (vs:=vs.toList) hcs (by simpa using hcv)
 have hys:=zK7 hr hcl
 generalize hysd:r++cs.toL=ys at h hys
 generalize hwd:look [] c.wants f=wants at h
 unfold xE0 at h
 rw[hwd] at h
 split at h
 ·cases h
 ·rename_i co hco
  split at h
  ·cases h
  ·rename_i u1 bs K hout
   obtain⟨sp,hmem,hsp⟩:=zO hco
   have hok:=hc.fns f sp hmem
   obtain⟨fn,h1,h2,h3⟩:=hok.1
   have hrun:(execOp a.eval o).run P w=.ok (.enter f (args.toList.map a.eval++vs.toList).toArray) w:=by
    have harr:(args.toList.map a.eval++vs.toList).toArray=args.map a.eval++vs:=by apply Array.toList_inj.1;simp
    rw[harr]
    unfold execOp
    have hbn:fn.body.isNone=false:=by cases hb:fn.body<;>simp_all
    simp[ho,resolve,hfv,Deferred.ofValue,invoke,callFunc,h1,h3]
    intro hb
    simp[hb] at hbn
   generalize hvals:args.toList.map a.eval++vs.toList=vals at hys hrun
   generalize hks:ys.map (zA4 S)=ks at h hsp
   have hksl:ys.length=ks.length:=by rw[← hks];simp
   have hysl:=zG2 hys
   generalize hbb:(_&&zO8 (_++u1.map (·.1)))=bb at h
   cases bb with
   |false=>cases h
   |true =>
    simp only[jB] at hbb
    obtain⟨⟨⟨⟨⟨⟨⟨⟨b1,b2⟩,b3⟩,b4⟩,b5⟩,b6⟩,b7⟩,b8⟩,b9⟩:=hbb
    simp only[jE,jA,jG] at h
    obtain⟨hpe,hu,_⟩:=h
    generalize hHT:zX7 wants 0 ys ks=HT at b5 b6 hu hpe
    generalize hHB:zO9 0 ys=HB at b1 b3 b4 hsp
    generalize hKT:xT0 o.dst++K=KT at b7 b8 hu hpe
    generalize hL:HT.map (·.1)++KT.map (·.2)=L at hu hpe
    subst hpe
    have hpok:∀ q∈co.ok,q:=fun q hq=>hp q (List.mem_append_left _ hq)
    have hppos:∀ b∈bs,0<b.l.length:=fun b hb=>hp _ (List.mem_append_right _ (List.mem_append_left _ (List.mem_map.2 ⟨b,hb,rfl⟩)))
    have hpask:∀ q∈zU bs L S c.n,q:=fun q hq=>hp q (List.mem_append_right _ (List.mem_append_right _ hq))
    have f1:=zV1 b4
    have f1':yE3 (zP1 HB):=by rw[← hHB];exact xA8
    have f2:=zV1 b5
    have f2':=yH5 b6
    have f3:=zV1 b7
    have f3':=yH5 b8
    have harg:∀ (i:Nat) Y,ys[i]?=some Y→(yF8 HB wants 0 ys ks)[i]?=some (zI9 HB wants i Y (zA4 S Y)):=fun i Y hY=>by
     have:=xN7 (hb:=HB) (wants:=wants) (ks:=ks) (i:=0) hY (show ks[i]?=some (zA4 S Y) by rw[← hks];simp[hY])
     rwa [Nat.zero_add] at this
    refine zR9 hrun ((hok.2 _ co hsp hpok (G.calleeH HB HT) w vals (by rw[zY5 hksl,hysl]) (zG0 zO2 hR.glob) (fun i A v hA hv=>?_)).mono ?_)
    ·have hil:i<ys.length:=by have:=(List.getElem?_eq_some_iff.1 hA).1;rwa [zY5 hksl] at this
     obtain⟨Y,hY⟩:∃ Y,ys[i]?=some Y:=⟨_,jL hil⟩
     rw[harg i Y hY] at hA
     injection hA with hA
     subst hA
     refine xG9 (kv:=match zC8 Y with|some s=>a.tmps.getD s undef|none=>undef) f1 f1' f2 f2' (zO1 hys hY hv) (fun s hs=>by rw[hs];exact zG3 hR hs) (fun q hq=>?_) (fun q hq=>?_)
     ·rw[← hHT];exact xA7 (i:=0) hY (show ks[i]?=some (zA4 S Y) by rw[← hks];simp[hY]) (by rwa [Nat.zero_add])
     ·rw[← hHB];exact yH6 (i:=0) hY (by rwa [Nat.zero_add])
    ·rintro e w' ⟨v,G',rfl,hF,hres,houts⟩
     refine⟨v,rfl,hnext v w' (G.backH G' w.heap.size HB HT KT) ?_⟩
     have hu':u=zG9 o.dst co.res u1++zI8 bs L S S:=by rw[← hu];unfold zG9;rfl
     subst hu'
     have hltU:∀ e∈zG9 o.dst co.res u1,e.1<c.n:=fun e he=>hlt e (List.mem_append_left _ he)
     have hcutU:∀ e∈zG9 o.dst co.res u1,e.1≠zA9:=fun e he=>by have:=hltU e he;have:=hc.n;omega
     have hcutT:∀ e∈zI8 bs L S S,e.1≠zA9:=fun e he=>by have:=hlt e (List.mem_append_right _ he);have:=hc.n;omega
     have hsubU:∀ e∈u1,e∈zG9 o.dst co.res u1:=by intro e he;unfold zG9;split;exact jP _ he;exact he
     obtain⟨g1,g2,g3⟩:=xH1 hout
     have hprot:=zS0 (KT:=KT) hF
     have hown:∀ U T,(U,T)∈KT→∀ (t:Ty) (l:List t.den) m v,zF4 G' w' t l U m v→zF4 (G.backH G' w.heap.size HB HT KT) w' t l T m v:=fun U T hm t l m v h=>yP4 hF f1' f3 f3' hm h
     have hext:=xH0 (G:=G) (KT:=KT) hF
     have h0:¬ ((∃ y,((0:Nat),y)∈zY4 HB HT)∨∃ U,U∈KT.map (·.2)∧0=zB2 U):=by
      rintro (⟨y,hy⟩ | ⟨U,_,e⟩)
      ·have:=yK9 hy;omega
      ·exact zA8 _ e
     have hboxback:∀ s i,(s,i)∈HB→∃ e∈u1,e.1=s:=by
      intro s i hm
      rw[← hHB] at hm
      obtain⟨_,τ,hY⟩:=yE6 hm
      simp only[Nat.sub_zero] at hY
      have hA:=harg i _ hY
      have hbx:=zO0 b3 hY hA
      obtain⟨s',τ',k',e1,e2,e3⟩:=yE8 rfl hbx
      rw[e3] at hA
      obtain⟨k,hk⟩:=yD9 b1 hA
      rw[Nat.zero_add] at hk
      obtain⟨Y',u',bs',K',q1,q2,q3⟩:=g1 i k hk
      rw[hY] at q1
      injection q1 with q1
      subst q1
      simp only[xQ4] at q2
      generalize (AVal.fits τ k&&xM (k.tags τ (zS4 i)))=bb at q2
      cases bb with
      |false=>cases q2
      |true =>
       simp only[jE,jA,jG] at q2
       exact⟨_,q3 _ (by rw[← q2.1];exact jQ ..),rfl⟩
     have hentry:∀ e∈u1,∀ tm',zA (G.backH G' w.heap.size HB HT KT) w' tm' (some e.1) e.2 (a.tmps.getD e.1 undef):=by
      intro e he tm'
      obtain⟨i,k,Y,u',bs',K',q1,hY,q3,q4,q5⟩:=g2 e he
      have hA:=harg i Y hY
      have hil:i<vals.length:=by rw[← hysl];exact (List.getElem?_eq_some_iff.1 hY).1
      obtain⟨uv,huv⟩:∃ uv,vals[i]?=some uv:=⟨_,jL hil⟩
      obtain⟨c1,c2⟩:=houts i k _ uv q1 hA huv
      have hYv:=zO1 hys hY huv
      have hKT':∀ q∈K',q∈KT:=fun q hq=>by rw[← hKT];exact List.mem_append_right _ (q5 q hq)
      have hcase:(∃ s τ,Y=.ref s τ [])∨u'=[]:=by
       unfold xQ4 at q3
       split at q3
       ·exact .inl ⟨_,_,rfl⟩
       ·right
        split at q3
        ·simp only[jA,jG] at q3;exact q3.1.symm
        ·cases q3
      rcases hcase with ⟨s,τ,rfl⟩ | e1
      ·have hbx:=zO0 b3 hY hA
       obtain⟨s',τ',k',e1,e2,e3⟩:=yE8 rfl hbx
       injection e1 with e1 e4 _
       subst e1;subst e4
       obtain⟨hb1,hb2⟩:=c1 τ _ e3
       simp only[xQ4] at q3
       generalize hfb:(AVal.fits τ k&&xM (k.tags τ (zS4 i)))=bb at q3
       cases bb with
       |false=>cases q3
       |true =>
        simp only[jE,jA,jG] at q3
        obtain⟨rfl,rfl,rfl⟩:=q3
        simp only[jH] at q4
        subst q4
        have hm:(s,i)∈HB:=by rw[← hHB];exact yH6 (i:=0) hY (by simp[yL9])
        have hβ:G'.β i=G.β s:=by rw[hb2];simp only[Gh.calleeH];rw[zM2 f1' (mem_swap.2 hm)]
        have hr0:=hR.reps s
        simp only[zA4] at e2
        rw[e2] at hr0
        obtain⟨_,cur,ee,_,_,g3⟩:=zF3 hr0
        have:=xH (KT:=KT) (tm:=tm') hF f1 f1' f3 f3' f2 hm g3 hβ hKT' hb1
        have hval:uv=a.tmps.getD s undef:=by
         simp only[zA] at hYv hr0
         rw[hYv.2,hr0.1];simp[Ty.poff]
        rw[hval] at this
        exact this
      ·subst e1;cases q4
     have hbor:∀ b∈bs,xH2 G w G' w' b∧(b.T,b.U)∈KT:=by
      intro b hb
      obtain⟨i,k,Y,u',bs',K',q1,hY,q3,q4,q5⟩:=g3 b hb
      have hA:=harg i Y hY
      have hil:i<vals.length:=by rw[← hysl];exact (List.getElem?_eq_some_iff.1 hY).1
      obtain⟨uv,huv⟩:∃ uv,vals[i]?=some uv:=⟨_,jL hil⟩
      obtain⟨c1,c2⟩:=houts i k _ uv q1 hA huv
      have hYv:=zO1 hys hY huv
      unfold xQ4 at q3
      split at q3
      ·rename_i s τ
       generalize (AVal.fits τ k&&xM (k.tags τ (zS4 i)))=bb at q3
       cases bb with
       |false=>cases q3
       |true =>
        simp only[jE,jA,jG] at q3
        rw[← q3.2.1] at q4;cases q4
      ·rename_i hnr
       split at q3
       ·rename_i bs2 hbs
        simp only[jA,jG] at q3
        obtain⟨_,rfl,rfl⟩:=q3
        have hnb:zF7 (zI9 HB wants i Y (zA4 S Y))=false:=by
         cases hbx:zF7 (zI9 HB wants i Y (zA4 S Y)) with
         |false=>rfl
         |true=>obtain⟨s,τ,_,e1,_⟩:=yE8 rfl hbx;exact absurd e1 (hnr s τ)
        refine⟨yE7 hbs hYv (c2 hnb) b q4,?_⟩
        rw[← hKT]
        exact List.mem_append_right _ (q5 _ (List.mem_map.2 ⟨b,q4,rfl⟩))
       ·cases q3
     have hnames:∀ T,T∉L→¬ ((∃ y,(zB2 T,y)∈zY4 HB HT)∨∃ U,U∈KT.map (·.2)∧zB2 T=zB2 U):=by
      intro T hT
      rw[← hL] at hT
      rintro (⟨y,hy⟩ | ⟨U,hU,e⟩)
      ·obtain⟨U,_,hm⟩:=cols_arr.1 hy
       exact hT (List.mem_append_left _ (List.mem_map.2 ⟨_,hm,rfl⟩))
      ·have:=zA6 e;subst this;exact hT (List.mem_append_right _ hU)
     have hturn:TurnOk bs L G w (G.backH G' w.heap.size HB HT KT) w':=by
      refine⟨hext.prot,fun s=>rfl,fun t l T m v hT h=>zF0 hext h0 (hnames T hT) h,fun T hT=>hext.tag T (fun hY=>hnames T hT (.inr hY)),fun b hb l m v hlen h=>?_,fun b hb=>?_⟩
      ·exact hown _ _ (hbor b hb).2 _ _ _ _ (xH4 (hbor b hb).1 (hppos b hb) h hlen)
      ·rw[← hL];exact List.mem_append_right _ (List.mem_map.2 ⟨_,(hbor b hb).2,rfl⟩)
     have htag0:∀ s,St.has s (zG9 o.dst co.res u1++zI8 bs L S S)=false→∀ T,T∈L→(S.get s).hasTag T=false:=by
      intro s hs T hT
      cases ht:(S.get s).hasTag T with
      |false=>rfl
      |true =>
       have hany:zP5 L (S.get s)=true:=List.any_eq_true.2 ⟨T,hT,ht⟩
       have:=xA9 (bs:=bs) hany (zW4 (xH9 hany))
       simp only[St.has,List.any_append,jJ] at hs
       rw[St.has] at this
       rw[hs.2] at this;cases this
     refine zE6 hR hc.n hlt (fun d e=>by rw[e];simp[zG9,St.has]) hext h0 (yS7 hF hR.frame) (fun s hs=>?_) (fun s d e _=>?_) (fun s hs=>?_)
     ·refine yS9 (fun T hT=>htag0 s hs T (by rw[← hL];exact List.mem_append.2 hT)) (fun s' e hm=>?_)
      injection e with e
      subst e
      obtain⟨q,hq,e2⟩:=List.mem_map.1 hm
      obtain⟨e,he,e3⟩:=hboxback q.1 q.2 hq
      have:St.has s (zG9 o.dst co.res u1++zI8 bs L S S)=true:=List.any_eq_true.2 ⟨e,List.mem_append_left _ (hsubU e he),by rw[e3,e2];exact Nat.beq_refl _⟩
      rw[hs] at this;cases this
     ·exact hh s (d,co.res.tagTo d) (List.mem_append_left _ (by rw[e];simp[zG9]))
     ·cases hsU:St.has s (zG9 o.dst co.res u1) with
      |true =>
       rw[yO8 hcutU hsU]
       have hm:=yK6 hsU hcutU
       cases hd:o.dst with
       |none =>
        rw[hd] at hm hsU
        simp only[zG9] at hm hsU ⊢
        exact hentry _ hm _
       |some d =>
        rw[hd] at hm hsU b9
        simp only[zG9] at hm hsU ⊢
        have hdn:d<a.tmps.size:=by rw[hR.len];exact hltU (d,co.res.tagTo d) (by rw[hd];simp[zG9])
        by_cases e:s=d
        ·subst e
         have:St.get ((s,co.res.tagTo s)::u1) s=co.res.tagTo s:=by simp[St.get]
         rw[this,zD4 hdn,if_pos rfl]
         refine zK1 (xA4 (tm:=#[]) hprot (fun T hT t l m v h=>hown T (T*100000+s) ?_ t l m v h) b2 hres)
         rw[← hKT,hd]
         refine List.mem_append_left _ ?_
         obtain rfl|rfl|rfl|rfl:T=0∨T=1∨T=2∨T=3:=by omega
         all_goals simp[xT0]
        ·rcases List.mem_cons.1 hm with hm|hm
         ·injection hm with hm _;exact absurd hm e
         ·rw[zD4 hdn,if_neg e]
          exact hentry _ hm _
      |false =>
       rw[zQ4 hcutU hsU]
       have hsT:St.has s (zI8 bs L S S)=true:=by
        simp only[St.has,List.any_append,Bool.or_eq_true] at hs
        rcases hs with hs|hs
        ·rw[St.has] at hsU;rw[hsU] at hs;cases hs
        ·exact hs
       rw[xH8 hsT hcutT]
       have hmem:=yK6 hsT hcutT
       have hne:∀ d,o.dst=some d→s≠d:=by
        intro d e e2
        subst e2
        rw[e] at hsU
        simp[zG9,St.has] at hsU
       have hval:(a.put o.dst v).tmps.getD s undef=a.tmps.getD s undef:=by
        cases hd:o.dst with
        |none=>rfl
        |some d =>
         have hdn:d<a.tmps.size:=by rw[hR.len];exact hltU (d,co.res.tagTo d) (by rw[hd];simp[zG9])
         rw[zD4 hdn,if_neg (hne d hd)]
       rw[hval]
       have hany:zP5 L (S.get s)=true:=by
        cases ht:zP5 L (S.get s) with
        |true=>rfl
        |false =>
         exfalso
         have key:∀ R:St,St.has s (zI8 bs L S R)=false:=by
          intro R
          induction R with
          |nil=>rfl
          |cons e r ih =>
           obtain⟨s',A⟩:=e
           simp only[zI8]
           cases ht':zP5 L (S.get s') with
           |false=>exact ih
           |true =>
            simp only[jE,St.has,List.any_cons,jJ]
            refine⟨?_,ih⟩
            cases hb:Nat.beq s' s with
            |false=>rfl
            |true=>have:=jC hb;subst this;rw[ht] at ht';cases ht'
         rw[key S] at hsT;cases hsT
       have hasks:=yT0 (bs:=bs) hany (hlt _ (List.mem_append_right _ hmem)) hpask
       have hbx:∀ s',some s=some s'→(∀ o,G.χ (G.β s') o=zG8 s')→G.β s'<w.heap.size→w'.heap[G.β s']?=w.heap[G.β s']?∧∀ o,(G.backH G' w.heap.size HB HT KT).χ (G.β s') o=zG8 s':=by
        intro s' e hcol hlt'
        injection e with e
        subst e
        have:=hext.block (G.β s) hlt' (fun o' hX=>by
         rw[hcol o'] at hX
         rcases hX with ⟨y,hy⟩ | ⟨U,_,e⟩
         ·obtain⟨i,_,hm⟩:=cols_box.1 hy
          obtain⟨e,he,e3⟩:=hboxback s i hm
          have:St.has s (zG9 o.dst co.res u1)=true:=List.any_eq_true.2 ⟨e,hsubU e he,by rw[e3];exact Nat.beq_refl _⟩
          rw[hsU] at this;cases this
         ·exact zA7 _ _ e)
        exact⟨this.1,fun o=>by rw[this.2 o];exact hcol o⟩
       refine zM9 (tm:=a.tmps) (fun k hk=>?_) (xH6 hturn hasks hbx (hR.reps s))
       cases hd:o.dst with
       |none=>rfl
       |some d =>
        have hdn:d<a.tmps.size:=by rw[hR.len];exact hltU (d,co.res.tagTo d) (by rw[hd];simp[zG9])
        rw[zD4 hdn,if_neg]
        intro e
        subst e
        have:=xH7 (bs:=bs) (L:=L) (hh s (k,co.res.tagTo k) (List.mem_append_left _ (by rw[hd];simp[zG9])))
        rw[this] at hk;cases hk
end Go.Am
namespace Go.Am
open Go Go.RowKit
variable {rd:Option Nat}{gtab:GlobTab}{P:Program}{c:Ctx}{G:Gh}{w:World}{tm:Array Value}{n:Nat}{χ0:Nat→Nat→Nat}{w0:World}{S:St}{a:Act}
def Gh.frozen (w:World):Gh:=⟨fun b _=>if b<w.heap.size then 0 else 2,fun _=>0,fun _=>0⟩
theorem zD9 {b o:Nat}(h:b<w.heap.size):(Gh.frozen w).χ b o=0:=by simp[Gh.frozen,h]
theorem zK8:∀ b o,b<w.heap.size→G.χ b o=0→(Gh.frozen w).χ b o=0∧w.cell? ⟨b,o,none⟩=w.cell? ⟨b,o,none⟩:=fun _ _ h _=>⟨zD9 h,rfl⟩
theorem yP6 {t:Ty}(ht:t.isL=false){l:List t.den}{T:Nat}{m:Bool}{v:Value}(h:zF4 G w t l T m v):zB0 (Gh.frozen w).χ w (.sl t) l [v]:=by
 simp only[zB0]
 rcases (zB4 h ht).2 with ⟨rfl,rfl⟩ | ⟨cap,cur,e,us,rfl,h2,h3,h4,h5,h6,h7,h8⟩
 ·exact⟨none,0,rfl,.inl rfl⟩
 ·refine⟨_,cap,rfl,?_⟩
  refine .inr ⟨G.γ T,0,us,rfl,h3,zB8 (fun _ _ hc=>zA5 (χ:=G.χ) zK8 hc) h6,fun j u hu=>?_⟩
  have hul:=zB3 (k:=t.size) (fun _ _ h=>zA1 h) h6
  have hj:j<l.length*t.size:=by rw[← hul];exact (List.getElem?_eq_some_iff.1 hu).1
  rw[← h7,List.getElem?_take,if_pos hj] at hu
  refine⟨?_,zD9 (zE8 h2)⟩
  simp only[World.cell?,h2]
  simpa using hu
theorem yP7:∀ {A:AVal}{τ:Ty}{vs:List Value},zA2 G w τ A vs→(A.lent).laxT τ=true→zA2 (Gh.frozen w) w τ A.lent vs:=by
 intro A
 induction A with
 |val τ' x=>intro τ vs h _;simp only[AVal.lent,AVal.mapOwn,zA2] at h ⊢;exact⟨h.1,h.2.1,zA5 (χ:=G.χ) zK8 h.2.2⟩
 |nil=>intro τ vs h _;simp only[AVal.lent,AVal.mapOwn,zA2] at h ⊢;exact h
 |own t l T m =>
  intro τ vs h hf
  simp only[AVal.lent,AVal.mapOwn,zA2] at h hf ⊢
  obtain⟨rfl,v,rfl,ho⟩:=h
  cases ht:t.isL with
  |true=>simp only[jE,zA2];exact⟨rfl,v,rfl,yB ho⟩
  |false=>simp only[jD,zA2];exact⟨trivial,rfl,yP6 ht ho⟩
 |agg f b ih =>
  intro τ vs h hf
  simp only[zA2] at h
  obtain⟨rfl,h⟩:=h
  have e:(AVal.agg f b).lent=bif b.lent.laxT f then .agg f b.lent else .junk:=rfl
  rw[e] at hf ⊢
  cases hc:b.lent.laxT f with
  |false=>simp[hc,AVal.laxT,Ty.isSl] at hf
  |true=>simp only[jE,zA2];exact⟨trivial,ih h hc⟩
 |nl=>intro τ vs h _;simp only[AVal.lent,AVal.mapOwn,zA2] at h ⊢;exact h
 |junk=>intro τ vs h _;simp only[AVal.lent,AVal.mapOwn,zA2] at h ⊢;exact h
 |cons x y ihx ihy =>
  intro τ vs h hf
  simp only[zA2] at h
  obtain⟨h1,t1,us,ws,rfl,rfl,h2,h3⟩:=h
  have e:(AVal.cons x y).lent=.cons x.lent y.lent:=rfl
  rw[e] at hf ⊢
  simp only[AVal.laxT,zD7,jB] at hf
  simp only[zA2]
  exact⟨_,_,us,ws,rfl,rfl,ihx h2 hf.1,ihy h3 hf.2⟩
 |_=>intro τ vs h;simp only[zA2] at h
theorem xI {Y k:AVal}{i:Nat}{v kv:Value}(hY:zA G w tm none Y v)(hk:∀ s,zC8 Y=some s→zA G w tm (some s) k kv):zA (Gh.frozen w) w #[] (some i) (zZ1 Y k) v:=by
 have hp:∀ b o,b<w.heap.size→G.χ b o=0→(Gh.frozen w).χ b o=0∧w.cell? ⟨b,o,none⟩=w.cell? ⟨b,o,none⟩:=zK8
 cases Y with
 |val τ x=>simp only[zZ1,zA] at hY ⊢;exact zD0 hp hY
 |nil=>simp only[zZ1,zA] at hY ⊢;exact hY
 |own t l T m =>
  simp only[zZ1]
  cases ht:t.isL with
  |true=>simp only[jE,zA]
  |false=>simp only[jD];simp only[zA] at hY;exact zL5 (yP6 ht hY)
 |ownh t l T j U m =>
  simp only[zZ1]
  cases hTU:Nat.beq T U with
  |false=>simp only[jD,zA]
  |true =>
   have hTU:=jC hTU
   subst hTU
   simp only[jE]
   simp only[zA] at hY
   obtain⟨hvt,⟨_,_,x,ad,cap,rfl,rfl,h3⟩ | ⟨hne,_⟩⟩:=hY
   ·refine zL5 ?_
    simp only[zB0]
    refine⟨ad,cap,rfl,?_⟩
    rcases h3 with rfl|⟨o,us,cur,e,rfl,g2,g3,g4,g5,g6⟩
    ·exact .inl rfl
    ·exact .inr ⟨G.γ T,o,us,rfl,g2,zB8 (fun _ _ hc=>zA5 (χ:=G.χ) zK8 hc) g4,fun j u hu=>⟨by simp only[World.cell?,g3];simpa using g5 j u hu,zD9 (zE8 g3)⟩⟩
   ·exact absurd rfl hne
 |agg f d =>
  simp only[zZ1]
  split
  ·rename_i x hx
   simp only[zA] at hY ⊢
   obtain⟨vs,e,ht⟩:=hY
   have hfit:=zP9 hx
   simp only[AVal.fitsT,jB] at hfit
   exact zH9 (G:=Gh.frozen w) (tm:=#[]) hx rfl (by simp only[zA];exact⟨vs,e,yP7 ht (zN1 hfit.2)⟩)
  ·simp only[zA]
 |fn f cs =>
  simp only[zZ1]
  cases hq:cs.pureL with
  |false=>simp only[jD,zA]
  |true=>simp only[jE];simp only[zA] at hY ⊢;obtain⟨vs,e1,e2⟩:=hY;exact⟨vs,e1,yD7 hp hq e2⟩
 |ref s τ p =>
  cases p with
  |nil =>
   cases k with
   |box τ' k =>
    simp only[zZ1]
    cases hb:Ty.beq τ' τ with
    |false=>simp only[jD,zA]
    |true =>
     simp only[jE]
     have e:=Ty.eq_of_beq hb;subst e
     split
     ·rename_i x hx
      obtain⟨hvt,cur,e,g1,g2,g3⟩:=zF3 (hk s rfl)
      simp only[zA] at hY
      have hv:v=.pointer (some ⟨G.β s,0,none⟩):=by simpa[Ty.poff] using hY.2
      rw[hv]
      have hc:=zK3 (G:=Gh.frozen w) hx (yP7 g2 (zN1 (zP9 hx)))
      exact zR0 hc (fun j u hu=>⟨by simp only[World.cell?,g1];simpa using hu,zD9 (zE8 g1)⟩)
     ·simp only[zA]
   |_=>simp only[zZ1,zA]
  |cons _ _=>simp only[zZ1,zA]
 |_=>simp only[zZ1,zA]
theorem zS1 {χ χ':Nat→Nat→Nat}{w w':World}:∀ {τ:Ty}{x:τ.den}{vs:List Value},τ.noMem=true→zB0 χ w τ x vs→zB0 χ' w' τ x vs:=by
 intro τ
 induction τ with
 |int k=>intro x vs _ hc;exact hc
 |bool=>intro x vs _ hc;exact hc
 |str=>intro x vs _ hc;exact hc
 |nl=>intro x vs _ hc;exact hc
 |cons a b ha hb=>intro x vs hn hc;simp only[Ty.noMem,jB] at hn;simp only[zB0] at hc ⊢;obtain⟨us,ws,rfl,h1,h2⟩:=hc;exact⟨us,ws,rfl,ha hn.1 h1,hb hn.2 h2⟩
 |st f hf=>intro x vs hn hc;simp only[zB0] at hc ⊢;exact hf hn hc
 |arr n t ht=>intro x vs hn hc;simp only[zB0] at hc ⊢;exact⟨hc.1,zB8 (fun _ _ h=>ht hn h) hc.2⟩
 |sl t ht=>intro x vs hn;simp[Ty.noMem] at hn
 |ptr t ht=>intro x vs hn;simp[Ty.noMem] at hn
def Gh.unlend (G G':Gh)(b0:Nat):Gh:={ G' with χ:=fun b o=>if b<b0 then (G.callee []).χ b o else G'.χ b o }
theorem xB {χ χ':Nat→Nat→Nat}{w w':World}{k v:Ty}(hk:k.noMem=true)(hv:v.noMem=true):∀ {l:List (k.den×v.den×Unit)}{es:List MapEntry},yM5 χ w k v l es→yM5 χ' w' k v l es:=by
 intro l
 induction l with
 |nil=>intro es h;exact h
 |cons x l ih=>rintro es ⟨e,r,rfl,⟨a1,a2,a3⟩,⟨b1,b2,b3⟩,h3⟩;exact⟨e,r,rfl,⟨a1,zS1 hk a2,a3⟩,⟨b1,zS1 hv b2,b3⟩,ih h3⟩
theorem xN8 {G':Gh}{w':World}(hF:Frame0 (Gh.frozen w).χ w G'.χ w'):∀ {A:AVal}{v:Value},A.scal=true→zA G' w' #[] none A v→zA (G.unlend G' w.heap.size) w' #[] none A v:=by
 intro A
 induction A with
 |val τ x=>intro v hs h;simp only[AVal.scal] at hs;simp only[zA] at h ⊢;obtain⟨vs,h1,h2⟩:=h;exact⟨vs,zS1 hs h1,h2⟩
 |nil=>intro v _ h;simp only[zA] at h ⊢;exact h
 |own t l T m =>
  intro v hs h
  simp only[AVal.scal] at hs
  simp only[zA] at h ⊢
  rcases h with h|⟨hmm,hM⟩
  rotate_left
  ·refine .inr ⟨hmm,?_⟩
   obtain⟨k,e,l',ht,hl,es,clock,h1,h2,h3,h4⟩:=hM
   have hnew:¬ G'.γ T<w.heap.size:=by
    intro hb
    have h9:=(hF.cell _ 0 hb (by rw[zD9 hb];omega)).1
    rw[zD9 hb,h4] at h9
    exact zA8 T h9.symm
   subst ht
   simp only[Ty.noMem,jB] at hs
   refine⟨k,e,l',rfl,hl,es,clock,h1,h2,xB hs.1 hs.2.1 h3,fun o=>?_⟩
   simp only[Gh.unlend]
   rw[if_neg hnew]
   exact h4 o
  refine .inl ⟨h.1,?_⟩
  rcases h.2 with h|⟨cap,cur,e,us,h1,h2,h3,h4,h5,h6,h7,h8⟩
  ·exact .inl h
  ·have hnew:¬ G'.γ T<w.heap.size:=by
    intro hb
    have h9:=(hF.cell _ (l.length*t.size) hb (by rw[zD9 hb];omega)).1
    rw[zD9 hb,h8,if_neg (by omega)] at h9
    exact zA8 T h9.symm
   refine .inr ⟨cap,cur,e,us,h1,h2,h3,h4,h5,zB8 (fun _ _ hc=>zS1 hs hc) h6,h7,fun o=>?_⟩
   simp only[Gh.unlend]
   rw[if_neg hnew]
   exact h8 o
 |tup b ih=>intro v hs h;simp only[AVal.scal] at hs;simp only[zA] at h ⊢;exact ih hs h
 |nl=>intro v _ h;simp only[zA] at h ⊢;exact h
 |cons x y ihx ihy=>intro v hs h;simp only[AVal.scal,jB] at hs;simp only[zA] at h ⊢;obtain⟨u,us,h1,h2,h3⟩:=h;exact⟨u,us,h1,ihx hs.1 h2,ihy hs.2 h3⟩
 |_=>intro v hs;simp[AVal.scal] at hs
theorem yT2 {G':Gh}{w':World}(hF:Frame0 (Gh.frozen w).χ w G'.χ w'):Back G w [] (G.unlend G' w.heap.size) w':=by
 refine⟨⟨hF.os,hF.tape,hF.output,hF.size,fun b hb _=>hF.block b hb (fun o=>by rw[zD9 hb];omega),fun b o hb _=>⟨by simp only[Gh.unlend];rw[if_pos hb],(hF.cell b o hb (by rw[zD9 hb];omega)).2⟩⟩,fun b hb=>?_⟩
 simp[zN9,zE7] at hb
theorem yE9 (hc:CtxOk P c)(hR:Rel c.n χ0 w0 S a w G){o:Oper}{fo:Operand}{args:Array Operand}{ats:Array TypeId}{f:Nat}{cs:AVal}{r:List AVal}{p:List Prop}{u:St}{hv:Bool}
  (ho:o.op=.call { callee:=.value fo,args,argTypes:=ats }) (hf:zA G w a.tmps none (.fn f cs) (a.eval fo)) (hr:zG (zA G w a.tmps none) r (args.toList.map a.eval)) (hcs:zH cs=true)
  (h:zZ2 c o.dst f (r++cs.toL) ((r++cs.toL).map (zA4 S)) S=some (p,u,hv))
  (hlt:∀ e∈u,e.1<c.n) (hh:∀ s,∀ e∈u,(S.get s).hung e.1=false) (hp:∀ q∈p,q)
  {next:Act→World→Prop}{Q:Exit→Act→World→Prop}(hnext:∀ v w' G',Rel c.n χ0 w0 (u++S) (a.put o.dst v) w' G'→next (a.put o.dst v) w'):o.wpIn (fz rd) 0 P a w next Q:=by
 simp only[zA] at hf
 obtain⟨vs,hfv,hcv⟩:=hf
 have hcl:=yE4 (vs:=vs.toList) hcs (by simpa using hcv)
 have hys:=zK7 hr hcl
 generalize hysd:r++cs.toL=ys at h hys
 unfold zZ2 at h
 split at h
 ·cases h
 ·rename_i co hco
  split at h
  ·rename_i d houts hd
   obtain⟨sp,hmem,hsp⟩:=zO hco
   have hok:=hc.fns f sp hmem
   obtain⟨fn,h1,h2,h3⟩:=hok.1
   have hrun:(execOp a.eval o).run P w=.ok (.enter f (args.toList.map a.eval++vs.toList).toArray) w:=by
    have harr:(args.toList.map a.eval++vs.toList).toArray=args.map a.eval++vs:=by apply Array.toList_inj.1;simp
    rw[harr]
    unfold execOp
    have hbn:fn.body.isNone=false:=by cases hb:fn.body<;>simp_all
    simp[ho,resolve,hfv,Deferred.ofValue,invoke,callFunc,h1,h3]
    intro hb
    simp[hb] at hbn
   generalize hvals:args.toList.map a.eval++vs.toList=vals at hys hrun
   generalize hbb:(_&&zB6 (300000+d) S)=bb at h
   cases bb with
   |false=>cases h
   |true =>
    simp only[jB] at hbb
    obtain⟨⟨⟨⟨⟨b1,b2⟩,b3⟩,b4⟩,b5⟩,b6⟩:=hbb
    simp only[jE,jA,jG] at h
    obtain⟨rfl,rfl,_⟩:=h
    refine zR9 hrun ((hok.2 _ co hsp hp (Gh.frozen w) w vals (by simp[zG2 hys]) (zG0 (χ:=G.χ) zK8 hR.glob) (fun i A v hA hv=>?_)).mono ?_)
    ·obtain⟨Y,k,hY,hk,rfl⟩:=zY3 hA
     have hk':k=zA4 S Y:=by simp[hY] at hk;exact hk.symm
     subst hk'
     exact xI (kv:=match zC8 Y with|some s=>a.tmps.getD s undef|none=>undef) (zO1 hys hY hv) (fun s hs=>by rw[hs];exact zG3 hR hs)
    ·rintro e w' ⟨v,G',rfl,hF,hres,_⟩
     refine⟨v,rfl,hnext v w' (G.back (G.unlend G' w.heap.size) w.heap.size (some d)) ?_⟩
     rw[hd]
     refine yK7 (dst:=some d) (res:=co.res) (ys:=[]) (u:=[]) hR hc.n (yT2 hF) (xN8 hF b2 hres) b1 (fun b hb=>by simp[zN9,zE7] at hb) (fun e he=>by cases he) hlt
      (fun s d' e=>by injection e with e;subst e;exact hh s _ (jQ ..)) (fun d' e s j hj=>?_)
     injection e with e;subst e
     obtain rfl|rfl|rfl|rfl:j=0∨j=1∨j=2∨j=3:=by omega
     ·simpa using zD3 b3 s
     ·simpa using zD3 b4 s
     ·simpa using zD3 b5 s
     ·simpa using zD3 b6 s
  ·cases h
theorem yT3 (hc:CtxOk P c)(hR:Rel c.n χ0 w0 S a w G){o:Oper}{fo:Operand}{args:Array Operand}{ats:Array TypeId}{f:Nat}{cs:AVal}{r:List AVal}{p:List Prop}{u:St}{hv:Bool}
  (ho:o.op=.call { callee:=.value fo,args,argTypes:=ats }) (hf:zA G w a.tmps none (.fn f cs) (a.eval fo)) (hr:zG (zA G w a.tmps none) r (args.toList.map a.eval)) (hcs:zH cs=true)
  (h:yX6 c o.dst f (r++cs.toL) S=some (p,u,hv))
  (hlt:∀ e∈u,e.1<c.n) (hh:∀ s,∀ e∈u,(S.get s).hung e.1=false) (hp:∀ q∈p,q)
  {next:Act→World→Prop}{Q:Exit→Act→World→Prop}(hnext:∀ v w' G',Rel c.n χ0 w0 (u++S) (a.put o.dst v) w' G'→next (a.put o.dst v) w'):o.wpIn (fz rd) 0 P a w next Q:=by
 simp only[zA] at hf
 obtain⟨vs,hfv,hcv⟩:=hf
 have hcl:=yE4 (vs:=vs.toList) hcs (by simpa using hcv)
 have hys:=zK7 hr hcl
 generalize hysd:r++cs.toL=ys at h hys
 unfold yX6 at h
 split at h
 ·rename_i t x T i U m d hd
  generalize hbb:(_&&zB6 d S)=bb at h
  cases bb with
  |false=>cases h
  |true =>
   simp only[jB,List.any_eq_true] at hbb
   obtain⟨⟨b1,⟨f',k'⟩,hm,b2⟩,b3⟩:=hbb
   simp only at b2
   have e:=jC b1;subst e
   have e:=jC b2.1;subst e
   have e:=jC b2.2;subst e
   simp only[jE,jA,jG] at h
   obtain⟨rfl,rfl,_⟩:=h
   obtain⟨q1,q2⟩:=hp _ (jH.2 rfl)
   obtain⟨hok1,hok⟩:=hc.clones f' t.size hm
   obtain⟨fn,h1,h2,h3⟩:=hok1
   have hrun:(execOp a.eval o).run P w=.ok (.enter f' (args.toList.map a.eval++vs.toList).toArray) w:=by
    have harr:(args.toList.map a.eval++vs.toList).toArray=args.map a.eval++vs:=by apply Array.toList_inj.1;simp
    rw[harr]
    unfold execOp
    have hbn:fn.body.isNone=false:=by cases hb:fn.body<;>simp_all
    simp[ho,resolve,hfv,Deferred.ofValue,invoke,callFunc,h1,h3]
    intro hb
    simp[hb] at hbn
   generalize hvals:args.toList.map a.eval++vs.toList=vals at hys hrun
   obtain⟨v,rfl⟩:∃ v,vals=[v]:=by
    have:=zG2 hys
    match vals,this with
    |[v],_=>exact⟨v,rfl⟩
   have hA:=zO1 hys (i:=0) rfl rfl
   simp only[zA] at hA
   obtain⟨hvt,⟨_,_,y,ad,cap,hy,rfl,h4⟩ | ⟨hne,_⟩⟩:=hA
   ·simp only[List.cons.injEq,and_true] at hy
    subst hy
    rcases h4 with rfl|⟨o',us,cur,e,rfl,g2,g3,g4,g5,g6⟩
    ·simp at q1
    ·have hul:=zB3 (k:=t.size) (fun _ _ h=>zA1 h) g4
     refine zR9 hrun ((hok (G.γ T) o' _ cap cur e us w q1 (by omega) g2 hul (yK0 (fun _ _ h=>yA9 h) g4) g3 g5).mono ?_)
     rintro e' w' ⟨B,cap',cells,ty,rfl,z1,z2,z3,z4,z5,z6⟩
     obtain⟨hx,hfr,hown⟩:=xR7 (d:=d) hR.frame hvt g4 z2 z1 z3 z4 z5 z6
     refine⟨_,rfl,hnext _ w' (G.reown B d 0 true) ?_⟩
     rw[hd]
     have htd:∀ R:St,zB5 d (AVal.lose d) S R=[]:=by
      intro R
      induction R with
      |nil=>rfl
      |cons e r ih=>obtain⟨s,A⟩:=e;simp only[zB5,zD3 b3 s,jD,ih]
     have:=zW5 (d:=d) (U:=d) (R:=.own t x d true) hR hc.n b3 hx hfr (fun tm=>by simp only[zA];exact hown) (by rw[htd];exact hlt) (fun s=>hh s _ (jH.2 rfl))
     rw[htd] at this
     exact this
   ·exact absurd rfl hne
 ·cases h
theorem xI0 {d:Nat}{v:Value}{G':Gh}{w':World}{gd:Gd}{t:Ty}{l:List t.den}{T:Nat}{m:Bool}(hlen:a.tmps.size=n)(hd:d<n)(hi:xD a.tmps gd)(hon:yH2 a.tmps gd)(hA:(zG7 gd (.own t l T m)).hung d=false)
  (h:Rel n χ0 w0 ([(d,.own t l T m)]++S) (a.put (some d) v) w' G'):Rel n χ0 w0 ([(d,zG7 gd (.own t l T m))]++S) (a.put (some d) v) w' G':=by
 refine⟨h.len,h.defers,fun s=>?_,h.frame,h.glob⟩
 have hs:=h.reps s
 by_cases e:d=s
 ·subst e
  simp only[List.cons_append,List.nil_append,St.get,Nat.beq_refl,jE] at hs ⊢
  cases gd with
  |none=>exact hs
  |some q =>
   obtain⟨s',want,g⟩:=q
   simp only[zG7,zA] at hs ⊢
   have hg:g=true:=(hi s' want g rfl).1 (hon s' want g rfl)
   have hne:s'≠d:=by
    intro e
    subst e
    simp[zG7,AVal.hung] at hA
   refine⟨?_,fun _=>hs,fun e=>by rw[hg] at e;cases e⟩
   rw[zD4 (by rw[hlen];exact hd),if_neg hne]
   exact hi s' want g rfl
 ·have hb:Nat.beq d s=false:=by
   cases hb:Nat.beq d s with
   |false=>rfl
   |true=>exact absurd (jC hb) e
  simp only[List.cons_append,List.nil_append,St.get,hb,jD] at hs ⊢
  exact hs
theorem yT4 (hc:CtxOk P c)(hR:Rel c.n χ0 w0 S a w G){gd:Gd}(hi:xD a.tmps gd)(hon:yH2 a.tmps gd){o:Oper}{fo:Operand}{args:Array Operand}{ats:Array TypeId}{f:Nat}{cs:AVal}{r:List AVal}{p:List Prop}{u:St}{hv:Bool}
  (ho:o.op=.call { callee:=.value fo,args,argTypes:=ats }) (hf:zA G w a.tmps none (.fn f cs) (a.eval fo)) (hr:zG (zA G w a.tmps none) r (args.toList.map a.eval)) (hcs:zH cs=true)
  (h:xE1 c gd o.dst f (r++cs.toL) S=some (p,u,hv))
  (hlt:∀ e∈u,e.1<c.n) (hh:∀ s,∀ e∈u,(S.get s).hung e.1=false) (huu:∀ e∈u,∀ e'∈u,e.2.hung e'.1=false) (hp:∀ q∈p,q)
  {next:Act→World→Prop}{Q:Exit→Act→World→Prop}(hnext:∀ v w' G',Rel c.n χ0 w0 (u++S) (a.put o.dst v) w' G'→next (a.put o.dst v) w'):o.wpIn (fz rd) 0 P a w next Q:=by
 unfold xE1 at h
 split at h
 ·rename_i p0 d t l T m _ hl
  simp only[jA,jG] at h
  obtain⟨rfl,rfl,_⟩:=h
  have hdst:o.dst=some d:=by
   unfold zZ2 at hl
   split at hl
   ·cases hl
   ·split at hl
    ·generalize (_&&zB6 _ S)=bb at hl
     cases bb with
     |false=>cases hl
     |true =>
      simp only[jE,jA,jG,List.cons.injEq,and_true] at hl
      obtain⟨_,⟨rfl,_⟩,_⟩:=hl
      assumption
    ·cases hl
  have hd:d<c.n:=hlt _ (jH.2 rfl)
  refine yE9 hc hR ho hf hr hcs hl (fun e he=>by rw[jH.1 he];exact hd) (fun s e he=>by rw[jH.1 he];exact hh s (d,zG7 gd (.own t l T m)) (jH.2 rfl)) (zQ6 hi hon hp) (fun v w' G' h'=>?_)
  refine hnext v w' G' ?_
  rw[hdst] at h' ⊢
  exact xI0 hR.len hd hi hon (huu _ (jH.2 rfl) _ (jH.2 rfl)) h'
 ·cases h
theorem zY6 {f:Nat}{ys:List AVal}{q:List Prop×AVal}:∀ {exts:List (Nat×(List AVal→Option (List Prop×AVal)))},yC0 exts f ys=some q→∃ e,(f,e)∈exts∧e ys=some q:=by
 intro exts
 induction exts with
 |nil=>intro h;simp[yC0] at h
 |cons x r ih =>
  intro h
  obtain⟨g,e⟩:=x
  simp only[yC0] at h
  cases hg:Nat.beq g f with
  |false=>simp only[hg,jD] at h;obtain⟨e',h1,h2⟩:=ih h;exact⟨e',by simp[h1],h2⟩
  |true=>have:=jC hg;subst this;simp only[hg,jE] at h;exact⟨e,by simp,h⟩
theorem xI1 (hc:CtxOk P c)(hR:Rel c.n χ0 w0 S a w G){gd:Gd}(hi:xD a.tmps gd)(hon:yH2 a.tmps gd){o:Oper}{fo:Operand}{args:Array Operand}{ats:Array TypeId}{f:Nat}{cs:AVal}{r:List AVal}{p:List Prop}{u:St}{hv:Bool}
  (ho:o.op=.call { callee:=.value fo,args,argTypes:=ats }) (hf:zA G w a.tmps none (.fn f cs) (a.eval fo)) (hr:zG (zA G w a.tmps none) r (args.toList.map a.eval)) (hcs:zH cs=true)
  (h:zS9 c gd o.dst f (r++cs.toL)=some (p,u,hv))
  (hlt:∀ e∈u,e.1<c.n) (hh:∀ s,∀ e∈u,(S.get s).hung e.1=false) (huu:∀ e∈u,∀ e'∈u,e.2.hung e'.1=false) (hp:∀ q∈p,q)
  {next:Act→World→Prop}{Q:Exit→Act→World→Prop}(hnext:∀ v w' G',Rel c.n χ0 w0 (u++S) (a.put o.dst v) w' G'→next (a.put o.dst v) w'):o.wpIn (fz rd) 0 P a w next Q:=by
 simp only[zA] at hf
 obtain⟨vs,hfv,hcv⟩:=hf
 have hcl:=yE4 (vs:=vs.toList) hcs (by simpa using hcv)
 have hys:=zK7 hr hcl
 have hrun:∀ v,(callFunc f (args.toList.map a.eval++vs.toList).toArray).run P w=.ok (.value v) w→(execOp a.eval o).run P w=.ok (.value v) w:=by
  intro v hv
  have harr:(args.toList.map a.eval++vs.toList).toArray=args.map a.eval++vs:=by apply Array.toList_inj.1;simp
  rw[harr] at hv
  unfold execOp
  simpa[ho,resolve,hfv,Deferred.ofValue,invoke] using hv
 unfold zS9 at h
 split at h
 ·rename_i p0 τ x d he hd
  obtain⟨e,hm,he⟩:=zY6 he
  simp only[jA,jG] at h
  obtain⟨rfl,rfl,rfl⟩:=h
  obtain⟨v,h1,h2⟩:=hc.exts f e hm _ _ _ he (zQ6 hi hon hp) G w a.tmps _ hys
  refine zL2 (hrun v h1) (hnext v w G ?_)
  rw[hd]
  exact zU8 hR hc.n (hlt (d,zG7 gd (.val τ x)) (by simp)) (fun s=>hh s (d,zG7 gd (.val τ x)) (by simp)) (huu (d,zG7 gd (.val τ x)) (by simp) (d,zG7 gd (.val τ x)) (by simp)) (zQ5 hi hon h2)
 ·rename_i p0 b d he hd
  obtain⟨e,hm,he⟩:=zY6 he
  split at h
  ·generalize hbb:(_&&!(b.hung d))=bb at h
   cases bb with
   |false=>cases h
   |true =>
    simp only[jE,jA,jG] at h
    obtain⟨rfl,rfl,rfl⟩:=h
    obtain⟨v,h1,h2⟩:=hc.exts f e hm _ _ _ he hp G w a.tmps _ hys
    refine zL2 (hrun v h1) (hnext v w G ?_)
    rw[hd]
    exact zU8 hR hc.n (hlt (d,.tup b) (by simp)) (fun s=>hh s (d,.tup b) (by simp)) (huu (d,.tup b) (by simp) (d,.tup b) (by simp)) h2
  ·cases h
 ·cases h
end Go.Am
namespace Go.Am
open Go Go.RowKit
variable {rd:Option Nat}{gtab:GlobTab}{P:Program}{c:Ctx}{G:Gh}{w:World}{tm:Array Value}{n:Nat}{χ0:Nat→Nat→Nat}{w0:World}{S:St}{a:Act}
theorem xI2 {tm:Array Value}{s:Nat}{b:Bool}:tm.getD s undef=.bool b↔tm[s]?=some (.bool b):=by
 simp only[Array.getD_eq_getD_getElem?]
 cases h:tm[s]? with
 |none=>simp[undef]
 |some v=>simp
theorem xB0 {ops:Array Oper}{tm:Array Value}{j s:Nat}{b:Bool}(h:(ops.toList.map (·.dst))[j]?=some (some s)):(yielded ops tm j==some b)=true↔tm.getD s undef=.bool b:=by
 have h1:(ops[j]?).bind (·.dst)=some s:=by
  simp only[List.getElem?_map,Array.getElem?_toList] at h
  cases ho:ops[j]? with
  |none=>simp[ho] at h
  |some o=>simpa[ho] using h
 rw[xI2]
 unfold yielded
 rw[h1]
 simp only[Option.bind_some]
 cases hv:tm[s]? with
 |none=>simp
 |some v=>cases v<;>simp
theorem yP8 {ops:Array Oper}{o:Oper}{gd:Gd}(h:zL3 (ops.toList.map (·.dst)) S o.guard=some gd) :
  Region.wanted o (yielded ops a.tmps)=true↔yH2 a.tmps gd:=by
 unfold Region.wanted
 cases hg:o.guard with
 |none =>
  rw[hg] at h
  simp only[zL3,jA] at h
  subst h
  simp[yH2]
 |some q =>
  obtain⟨j,want⟩:=q
  rw[hg] at h
  simp only[zL3] at h
  split at h
  ·rename_i s hs
   simp only[xB0 hs]
   split at h
   ·simp only[jA] at h;subst h
    simp[yH2]
   ·simp only[jA] at h;subst h
    simp[yH2]
   ·cases h
  ·cases h
theorem xI3 {gd:Gd}{o:Oper}{xs0 xs:List AVal}{p:List Prop}{u:St}{hv:Bool}(hgd:gd≠none)(h:yR c gd o S xs0 xs=some (p,u,hv)) :
  ∃ d A,o.dst=some d∧u=[(d,zG7 gd A)]:=by
 cases gd with
 |none=>exact absurd rfl hgd
 |some q =>
 unfold yR at h
 split at h
 ·split at h
  ·unfold yA0 at h
   split at h
   ·rename_i d C A B hd
    split at h
    ·split at h
     ·simp only[jA,jG] at h
      obtain⟨_,rfl,_⟩:=h
      exact⟨d,_,hd,rfl⟩
     ·cases h
    ·cases h
   ·cases h
  ·cases h
 ·split at h
  ·simp_all
  ·simp_all
  ·cases h
 ·split at h
  ·simp_all
  ·cases h
 ·split at h
  ·rename_i f cs r
   cases hpl:zH cs with
   |false=>simp only[hpl,jD] at h;cases h
   |true =>
    simp only[hpl,jE] at h
    unfold yJ1 at h
    generalize hx:zS9 c (some q) o.dst f (r++cs.toL)=y at h
    cases y with
    |some q' =>
     simp only[zJ,jA] at h
     subst h
     unfold zS9 at hx
     split at hx
     ·rename_i p0 τ x d he hd
      simp only[jA,jG] at hx
      obtain⟨_,rfl,_⟩:=hx
      exact⟨_,_,by assumption,rfl⟩
     ·cases hx
     ·cases hx
    |none =>
     simp only[zJ] at h
     generalize hcs:zH0 c (some q) o.dst f (r++cs.toL) ((r++cs.toL).map (zA4 S)) S=x at h
     cases x with
     |none =>
      simp only at h
      unfold yG4 at h
      simp only at h
      unfold xE1 at h
      split at h
      ·rename_i p0 d t l T m _ hl
       simp only[jA,jG] at h
       obtain⟨_,rfl,_⟩:=h
       unfold zZ2 at hl
       split at hl
       ·cases hl
       ·split at hl
        ·rename_i d' _ hd
         generalize (_&&zB6 _ S)=bb at hl
         cases bb with
         |false=>cases hl
         |true =>
          simp only[jE,jA,jG,List.cons.injEq,and_true] at hl
          obtain⟨_,⟨rfl,_⟩,_⟩:=hl
          exact⟨_,_,by assumption,rfl⟩
        ·cases hl
      ·cases h
     |some q' =>
      simp only[jA] at h
      subst h
      unfold zH0 at hcs
      split at hcs
      ·cases hcs
      ·rename_i co hco
       generalize (zT8 co.outs 0 _&&zF8 co.res&&_&&_)=b at hcs
       cases b with
       |false=>simp only[Bool.not_false,jE] at hcs;cases hcs
       |true =>
        simp only[Bool.not_true,jD] at hcs
        split at hcs
        ·split at hcs
         ·rename_i d τ x hd
          simp only[jA,jG] at hcs
          obtain⟨_,rfl,_⟩:=hcs
          exact⟨_,_,by assumption,rfl⟩
         ·cases hcs
        ·cases hcs
  ·cases h
 ·simp at h
 ·unfold zM8 at h
  split at h
  ·cases h
  ·rename_i d hd
   split at h
   ·cases h
   ·rename_i p' A hA
    cases hf:zU0 o.op with
    |true =>
     simp only[hf,jE,Option.isNone_some,Bool.false_and,jD] at h
     unfold gMk at h
     split at h
     ·rename_i q' t l T m e
      cases hb':(zP4 d S&&zB6 d S&&Nat.beq T d&&!t.isL) with
      |false=>simp only[hb',jD] at h;cases h
      |true =>
       simp only[hb',jE,jA,jG] at h
       injection e with e
       subst e
       exact⟨d,_,hd,h.2.1.symm⟩
     ·cases h
    |false =>
     simp only[hf,jD,jA,jG] at h
     obtain⟨_,rfl,_⟩:=h
     exact⟨d,A,hd,rfl⟩
theorem yT5 (hc:CtxOk P c)(hR:Rel c.n χ0 w0 S a w G){gd:Gd}(hi:xD a.tmps gd)(hon:yH2 a.tmps gd){o:Oper}{p:List Prop}{u:St}{hv:Bool}
  (h:yR c gd o S ((zC9 o.op).map (arg S)) (((zC9 o.op).map (arg S)).map (zE9 gd))=some (p,u,hv))
  (hlt:∀ e∈u,e.1<c.n) (hh:∀ s,∀ e∈u,(S.get s).hung e.1=false) (huu:∀ e∈u,∀ e'∈u,e.2.hung e'.1=false) (hp:∀ q∈p,q)
  {next:Act→World→Prop}{Q:Exit→Act→World→Prop}(hnext:∀ v w' G',Rel c.n χ0 w0 (u++S) (a.put o.dst v) w' G'→next (a.put o.dst v) w'):o.wpIn (fz rd) 0 P a w next Q:=by
 have hargs:=yW0 hR hon (zC9 o.op)
 unfold yR at h
 split at h
 ·split at h
  ·rename_i x y z ho
   rw[ho] at h
   exact yZ9 hR hc.n hi hon ho h hlt hh huu hnext
  ·cases h
 ·split at h
  ·rename_i T x y A v hd ho hl
   rw[ho] at hargs hl
   simp only[zC9,List.map_cons,List.map_nil,List.cons.injEq,and_true] at hl hargs
   obtain⟨rfl,rfl⟩:=hl
   simp only[zG] at hargs
   exact yS8 hc hR ho hd hargs.1 hargs.2.1 h hlt hp hnext
  ·rename_i T x y z A k v hd ho hl
   rw[ho] at hargs hl
   simp only[zC9,List.map_cons,List.map_nil,List.cons.injEq,and_true] at hl hargs
   obtain⟨rfl,rfl,rfl⟩:=hl
   simp only[zG] at hargs
   exact yL0 hc hR ho hd hargs.1 hargs.2.1 hargs.2.2.1 h hlt hnext
  ·cases h
 ·rename_i hk
  split at h
  ·rename_i d cl args ats A B hd ho hl
   split at h
   ·rename_i T T' hats
    cases hT:Nat.beq T T' with
    |false=>simp[hT] at h
    |true =>
     have:=jC hT
     subst this
     simp only[hT,jE] at h
     have hcl:cl=.builtin .append:=by
      rw[ho] at hk
      unfold zS6 at hk
      split at hk<;>simp_all
     subst hcl
     rw[ho] at hl hargs
     simp only[zC9] at hl hargs
     rw[hl] at hargs
     have:∃ va vb,args.toList.map a.eval=[va,vb]∧zA G w a.tmps none A va∧zA G w a.tmps none B vb:=by
      generalize hm:args.toList.map a.eval=m at hargs
      cases m with
      |nil=>simp[zG] at hargs
      |cons va m =>
       cases m with
       |nil=>simp[zG] at hargs
       |cons vb m =>
        cases m with
        |nil=>simp only[zG] at hargs;exact⟨va,vb,rfl,hargs.1,hargs.2.1⟩
        |cons _ _=>simp[zG] at hargs
     obtain⟨va,vb,hm,hA,hB⟩:=this
     exact zX hc hR ho hats hd hm hA hB h hlt hh hp hnext
   ·cases h
  ·cases h
 ·rename_i hk
  split at h
  ·rename_i f cs r hl
   cases hpl:zH cs with
   |false=>simp[hpl] at h
   |true =>
    simp only[hpl,jE] at h
    have:∃ fo args ats,o.op=.call { callee:=.value fo,args,argTypes:=ats }:=by
     unfold zS6 at hk
     split at hk<;>first|exact absurd hk (by decide) | (rename_i fo args ats ho;exact⟨_,_,_,ho⟩)
    obtain⟨fo,args,ats,ho⟩:=this
    rw[ho] at hl hargs
    simp only[zC9] at hl hargs
    rw[hl] at hargs
    simp only[List.map_cons,zG] at hargs
    unfold yJ1 at h
    generalize hx:zS9 c gd o.dst f (r++cs.toL)=y at h
    cases y with
    |some q' =>
     simp only[zJ,jA] at h
     subst h
     exact xI1 hc hR hi hon ho hargs.1 hargs.2 hpl hx hlt hh huu hp hnext
    |none =>
     simp only[zJ] at h
     generalize hcs:zH0 c gd o.dst f (r++cs.toL) ((r++cs.toL).map (zA4 S)) S=x at h
     cases x with
     |some q' =>
      simp only[jA] at h
      subst h
      exact xA6 hc hR hi hon ho hargs.1 hargs.2 hpl hcs hlt hh huu hp hnext
     |none =>
      simp only at h
      unfold yG4 at h
      cases gd with
      |some q=>exact yT4 hc hR hi hon ho hargs.1 hargs.2 hpl h hlt hh huu hp hnext
      |none =>
       simp only[zJ] at h
       generalize hl:zZ2 c o.dst f (r++cs.toL) ((r++cs.toL).map (zA4 S)) S=z at h
       cases z with
       |some q' =>
        simp only[jA] at h
        subst h
        exact yE9 hc hR ho hargs.1 hargs.2 hpl hl hlt hh hp hnext
       |none =>
        simp only at h
        generalize hl2:yX6 c o.dst f (r++cs.toL) S=z at h
        cases z with
        |some q' =>
         simp only[jA] at h
         subst h
         exact yT3 hc hR ho hargs.1 hargs.2 hpl hl2 hlt hh hp hnext
        |none =>
         simp only at h
         exact yT1 hc hR ho hargs.1 hargs.2 hpl h hlt hh hp hnext
  ·cases h
 ·split at h
  ·simp only[jA,jG] at h
   exact (hp False (by rw[← h.1];simp)).elim
  ·cases h
 ·exact xA0 hc hR hi hon h hlt hh huu hp hnext
theorem zQ7 (hc:CtxOk P c)(hR:Rel c.n χ0 w0 S a w G){ops:Array Oper}{i:Nat}{o:Oper}(ho:ops[i]?=some o){p:List Prop}{u:St}{hv:Bool}
  (h:zX8 c (ops.toList.map (·.dst)) o S=some (p,u,hv))
  (hlt:∀ e∈u,e.1<c.n) (hh:∀ s,∀ e∈u,(S.get s).hung e.1=false) (huu:∀ e∈u,∀ e'∈u,e.2.hung e'.1=false) (hp:∀ q∈p,q)
  {next:Act→World→Prop}{Q:Exit→Act→World→Prop}(hnext:∀ v w' G',Rel c.n χ0 w0 (u++S) (a.put o.dst v) w' G'→next (a.put o.dst v) w'):wpOpIn (fz rd) 0 P ops Q i next a w:=by
 unfold zX8 at h
 split at h
 ·cases h
 ·rename_i gd hgd
  have hi:=yZ5 hR hgd
  unfold wpOpIn
  rw[ho]
  simp only
  by_cases hw:Region.wanted o (yielded ops a.tmps)=true
  ·rw[if_pos hw]
   exact yT5 hc hR hi ((yP8 hgd).1 hw) h hlt hh huu hp hnext
  ·rw[if_neg hw]
   have hoff:¬ yH2 a.tmps gd:=fun e=>hw ((yP8 hgd).2 e)
   cases gd with
   |none=>exact absurd (by simp[yH2]) hoff
   |some q =>
    obtain⟨s,want,g⟩:=q
    obtain⟨d,A,hd,rfl⟩:=xI3 (by simp) h
    have hoff':a.tmps.getD s undef≠.bool want:=fun e=>hoff (by intro s' want' g' e';simp only[jA,jG] at e';obtain⟨rfl,rfl,rfl⟩:=e';exact e)
    rw[hd]
    have:=yK8 (A:=A) hR hc.n hi hoff' (hlt _ (jH.2 rfl)) (fun s=>hh s _ (jH.2 rfl)) (huu _ (jH.2 rfl) _ (jH.2 rfl))
    rw[← hd] at this ⊢
    exact⟨fun _ _=>trivial,hnext _ _ _ this⟩
end Go.Am
namespace Go.Am
open Go Go.RowKit
variable {rd:Option Nat}{gtab:GlobTab}{P:Program}{c:Ctx}{G:Gh}{w:World}{tm:Array Value}{n:Nat}{χ0:Nat→Nat→Nat}{w0:World}{S:St}{a:Act}
theorem xN9 {u u':St}(h:xQ5 c S u=some u')(hR:Rel c.n χ0 w0 (u++S) a w G)(hn:c.n≤zA9)(hlt:∀ e∈u',e.1<c.n):∃ G',Rel c.n χ0 w0 (u'++S) a w G':=by
 unfold xQ5 at h
 split at h
 ·rename_i d t l T r
  generalize (Nat.beq T d&&!(c.wr.any (Nat.beq d)))=b at h
  cases b with
  |false=>simp only[jD,jA] at h;subst h;exact⟨G,hR⟩
  |true =>
   simp only[jE] at h
   generalize ht:(zB6 T (r++S)&&!t.isL)=b at h
   cases b with
   |false=>cases h
   |true =>
    simp only[jB,jK] at ht
    simp only[jE,jA] at h;subst h;exact xG8 hR hn (hlt _ (jQ ..)) ht.1 ht.2
 ·injection h with h;subst h;exact⟨G,hR⟩
theorem xI4 {u u':St}(h:xQ5 c S u=some u'):u=u'∨∃ d t l T r,u=(d,.own t l T true)::r∧u'=(d,.own t l T false)::r∧T=d∧zB6 T (r++S)=true:=by
 unfold xQ5 at h
 split at h
 ·rename_i d t l T r
  generalize hb:(Nat.beq T d&&!(c.wr.any (Nat.beq d)))=b at h
  cases b with
  |false=>simp only[jD,jA] at h;exact .inl h
  |true =>
   simp only[jE] at h
   simp only[jB] at hb
   generalize ht:(zB6 T (r++S)&&!t.isL)=b at h
   cases b with
   |false=>cases h
   |true =>
    simp only[jB] at ht
    simp only[jE,jA] at h;exact .inr ⟨d,t,l,T,r,rfl,h.symm,jC hb.1,ht.1⟩
 ·injection h with h;exact .inl h
theorem yF (hc:CtxOk P c)(hR:Rel c.n χ0 w0 S a w G){ops:Array Oper}{i:Nat}{o:Oper}(ho:ops[i]?=some o){p:List Prop}{u:St}{hv:Bool}
  (h:yR0 c (ops.toList.map (·.dst)) o S=some (p,u,hv))
  (hlt:∀ e∈u,e.1<c.n) (hh:∀ s,∀ e∈u,(S.get s).hung e.1=false) (huu:∀ e∈u,∀ e'∈u,e.2.hung e'.1=false) (hp:∀ q∈p,q)
  {next:Act→World→Prop}{Q:Exit→Act→World→Prop}(hnext:∀ v w' G',Rel c.n χ0 w0 (u++S) (a.put o.dst v) w' G'→next (a.put o.dst v) w'):wpOpIn (fz rd) 0 P ops Q i next a w:=by
 unfold yR0 at h
 split at h
 ·cases h
 ·rename_i p0 u0 h0 hst
  cases hmk:xU4 o.op with
  |false =>
   simp only[hmk,jD,jA,jG] at h
   obtain⟨rfl,rfl,rfl⟩:=h
   exact zQ7 hc hR ho hst hlt hh huu hp hnext
  |true =>
   simp only[hmk,jE] at h
   split at h
   ·rename_i u' hu'
    simp only[jA,jG] at h
    obtain⟨rfl,rfl,rfl⟩:=h
    rcases xI4 hu' with rfl|⟨d,t,l,T,r,rfl,rfl,_,_⟩
    ·exact zQ7 hc hR ho hst hlt hh huu hp hnext
    ·refine zQ7 hc hR ho hst (fun e he=>?_) (fun s e he=>?_) (fun e he e' he'=>?_) hp fun v w' G' hR'=>?_
     ·rcases List.mem_cons.1 he with rfl|he
      ·exact hlt (d,.own t l T false) (jQ ..)
      ·exact hlt e (jP _ he)
     ·rcases List.mem_cons.1 he with rfl|he
      ·exact hh s (d,.own t l T false) (jQ ..)
      ·exact hh s e (jP _ he)
     ·have hk:∀ e∈((d,AVal.own t l T true)::r),∃ e''∈((d,AVal.own t l T false)::r),e''.1=e.1∧∀ q,e''.2.hung q=e.2.hung q:=by
       intro e he
       rcases List.mem_cons.1 he with rfl|he
       ·exact⟨_,jQ ..,rfl,fun q=>rfl⟩
       ·exact⟨e,jP _ he,rfl,fun q=>rfl⟩
      obtain⟨x,x1,x2,x3⟩:=hk e he
      obtain⟨y,y1,y2,y3⟩:=hk e' he'
      rw[← x3,← y2]
      exact huu x x1 y y1
     ·obtain⟨G'',hR''⟩:=xN9 hu' hR' hc.n hlt
      exact hnext v w' G'' hR''
   ·cases h
end Go.Am
namespace Go.Am
open Go Go.RowKit
variable {rd:Option Nat}{gtab:GlobTab}{P:Program}{c:Ctx}{G:Gh}{w:World}{tm:Array Value}{n:Nat}{χ0:Nat→Nat→Nat}{w0:World}{S:St}{a:Act}
theorem zM3 {S':St}(h:∀ s,S'.get s=S.get s)(hR:Rel n χ0 w0 S a w G):Rel n χ0 w0 S' a w G:=
 ⟨hR.len,hR.defers,fun s=>by rw[h];exact hR.reps s,hR.frame,hR.glob⟩
theorem yL1 {u S S':St}(h:∀ s,S'.get s=S.get s):∀ s,(u++S').get s=(u++S).get s:=by
 intro s
 induction u with
 |nil=>exact h s
 |cons e r ih=>obtain⟨k,A⟩:=e;simp only[List.cons_append,St.get];rw[ih]
def uAt (ts:List Tr)(i:Nat):St:=match ts[i]? with|some t=>t.u|none=>[]
def exe (ts:List Tr):List Nat→St
 |[]=>[]
 |i::l=>uAt ts i++exe ts l
def tex (ts:List Tr):Nat→St
 |0=>[]
 |k+1=>uAt ts k++tex ts k
theorem yB1 {t:Tr}{ts:List Tr}:∀ {k:Nat},tex (t::ts) (k+1)=tex ts k++t.u:=by
 intro k
 induction k with
 |zero=>simp[tex,uAt]
 |succ k ih=>rw[tex,ih,tex];simp[uAt]
def Fam [GlobTab] (c:Ctx)(dsts:List (Option Nat))(ops:List Oper)(S U:St)(ts:List Tr)(p:List Prop):Prop:=
 ∀ i o,ops[i]?=some o→∃ pi hv,yR0 c dsts o ((tex ts i++U)++S)=some (pi,uAt ts i,hv)∧ts[i]?=some (yG5 dsts o ((tex ts i++U)++S) (uAt ts i) hv) ∧
  (∀ q∈pi,q∈p)∧(∀ e∈uAt ts i++(tex ts i++U),yX7 (uAt ts i) e.2=false)∧(∀ e∈uAt ts i,e.1<c.n)
theorem xB1 {dsts:List (Option Nat)}:∀ {ops:List Oper}{U:St}{p:List Prop}{U':St}{ts:List Tr},yM4 c dsts ops S U=some (p,U',ts) →
  ts.length=ops.length∧U'=tex ts ops.length++U∧Fam c dsts ops S U ts p:=by
 intro ops
 induction ops with
 |nil =>
  intro U p U' ts h
  simp only[yM4,jA,jG] at h
  obtain⟨rfl,rfl,rfl⟩:=h
  exact⟨rfl,rfl,fun i o ho=>by simp at ho⟩
 |cons o r ih =>
  intro U p U' ts h
  unfold yM4 at h
  split at h
  ·cases h
  ·rename_i p0 u hv hst
   cases hb:((u++U).any (fun e=>yX7 u e.2)||!(u.all fun e=>Nat.blt e.1 c.n)) with
   |true=>simp only[hb,jE] at h;cases h
   |false =>
    simp only[hb,jD] at h
    split at h
    ·cases h
    ·rename_i p' u' t' hr
     simp only[jA,jG] at h
     obtain⟨rfl,rfl,rfl⟩:=h
     obtain⟨h1,h2,h3⟩:=ih hr
     simp only[jJ,Bool.not_eq_false',List.any_eq_false,List.all_eq_true] at hb
     refine⟨by simp[h1],by rw[h2,List.length_cons,yB1];simp[yG5],fun i o' ho=>?_⟩
     cases i with
     |zero =>
      simp only[List.getElem?_cons_zero,jA] at ho
      subst ho
      refine⟨p0,hv,?_,?_,fun q hq=>List.mem_append_left _ hq,fun e he=>?_,fun e he=>?_⟩
      ·simpa[tex,uAt,yG5] using hst
      ·simp[tex,uAt,yG5]
      ·have:=hb.1 e (by simpa[tex,uAt,yG5] using he)
       simpa[uAt,yG5] using this
      ·have:=hb.2 e (by simpa[uAt,yG5] using he)
       exact Nat.blt_eq.mp this
     |succ i =>
      simp only[List.getElem?_cons_succ] at ho
      obtain⟨pi,hv',q1,q2,q3,q4,q5⟩:=h3 i o' ho
      have e1:∀ t:Tr,uAt (t::t') (i+1)=uAt t' i:=fun t=>by simp[uAt]
      refine⟨pi,hv',?_,?_,fun q hq=>List.mem_append_right _ (q3 q hq),fun e he=>?_,fun e he=>?_⟩
      ·rw[yB1,e1];simpa[yG5] using q1
      ·rw[yB1,e1];simpa[yG5] using q2
      ·rw[yB1,e1] at he;rw[e1];exact q4 e (by simpa[yG5] using he)
      ·rw[e1] at he;exact q5 e he
theorem zM4:∀ {A:AVal}{d:Nat},A.hasOpt=false→A.hung d=false:=by
 intro A
 induction A with
 |opt s w g A ih=>intro d h;simp[AVal.hasOpt] at h
 |cons x y ihx ihy=>intro d h;simp only[AVal.hasOpt,jJ] at h;simp[AVal.hung,ihx h.1,ihy h.2]
 |tup x ih=>intro d h;simp only[AVal.hasOpt] at h;simp[AVal.hung,ih h]
 |fn f x ih=>intro d h;simp only[AVal.hasOpt] at h;simp[AVal.hung,ih h]
 |_=>intro d _;rfl
theorem zM5 {u:St}{A:AVal}(h:yX7 u A=false):∀ e∈u,A.hung e.1=false:=by
 intro e he
 simp only[yX7,List.any_eq_false] at h
 simpa using h e he
theorem zT4 {q:AVal→Prop}(hj:q .junk):∀ {S:St}{s:Nat},(∀ e∈S,q e.2)→q (S.get s):=by
 intro S
 induction S with
 |nil=>intro s _;exact hj
 |cons e r ih =>
  intro s h
  obtain⟨k,A⟩:=e
  simp only[St.get]
  cases Nat.beq k s with
  |true=>exact h (k,A) (jQ ..)
  |false =>
   cases Nat.beq k zA9 with
   |true=>exact hj
   |false=>exact ih fun e he=>h e (jP _ he)
section region
variable {ops:Array Oper}{ts:List Tr}{p:List Prop}
theorem yW7 (hc:CtxOk P c)(hF:Fam c (ops.toList.map (·.dst)) ops.toList S [] ts p)(hS:∀ e∈S,e.2.hasOpt=false)(hp:∀ q∈p,q){i:Nat}{o:Oper}(ho:ops[i]?=some o)
  (hR:Rel c.n χ0 w0 (tex ts i++S) a w G){next:Act→World→Prop}{Q:Exit→Act→World→Prop}
  (hnext:∀ v w' G',Rel c.n χ0 w0 (uAt ts i++(tex ts i++S)) (a.put o.dst v) w' G'→next (a.put o.dst v) w'):wpOpIn (fz rd) 0 P ops Q i next a w:=by
 obtain⟨pi,hv,q1,q2,q3,q4,q5⟩:=hF i o (by simpa using ho)
 simp only[List.append_nil] at q1 q2 q4
 refine yF hc hR ho q1 q5 (fun s e he=>?_) (fun e he e' he'=>?_) (fun q hq=>hp q (q3 q hq)) hnext
 ·refine zT4 (q:=fun A=>A.hung e.1=false) rfl fun e' he'=>?_
  rcases List.mem_append.1 he' with h|h
  ·exact zM5 (q4 e' (List.mem_append_right _ h)) e he
  ·exact zM4 (hS e' h)
 ·exact zM5 (q4 e (List.mem_append_left _ he)) e' he'
theorem xO {K:Act→Prop}(hK:∀ o∈ops.toList,∀ a v,K a→K (a.put o.dst v))(hc:CtxOk P c)(hF:Fam c (ops.toList.map (·.dst)) ops.toList S [] ts p)(hS:∀ e∈S,e.2.hasOpt=false)(hp:∀ q∈p,q){Q:Exit→Act→World→Prop}
  (hQ:∀ a' w' G',Rel c.n χ0 w0 (tex ts ops.size++S) a' w' G'→K a'→Q .normal a' w') :
  ∀ k i,i+k=ops.size→∀ a w G,Rel c.n χ0 w0 (tex ts i++S) a w G→K a→wpOpsIn (fz rd) 0 P ops Q (List.range' i k) a w:=by
 intro k
 induction k with
 |zero=>intro i e a w G hR hk;simp only[List.range'_zero,wpOpsIn];obtain rfl:i=ops.size:=(by omega);exact hQ _ _ _ hR hk
 |succ k ih =>
  intro i e a w G hR hk
  rw[List.range'_succ,wpOpsIn_cons]
  have hlt:i<ops.size:=by omega
  refine yW7 hc hF hS hp (Array.getElem?_eq_getElem hlt) hR fun v w' G' hR'=>?_
  refine ih (i+1) (by omega) _ _ G' ?_ (hK _ (by simp) _ _ hk)
  rw[tex,List.append_assoc]
  exact hR'
end region
end Go.Am
namespace Go.Am
open Go Go.RowKit
variable {gtab:GlobTab}{P:Program}{c:Ctx}{S S':St}
theorem xO0 {t:Nat}:∀ {l:List Operand},Operand.tmp t∈l→t∈zX5 l:=by
 intro l
 induction l with
 |nil=>intro h;cases h
 |cons y l ih =>
  intro hx
  rcases List.mem_cons.1 hx with rfl|hx
  ·simp[zX5]
  ·have:=ih hx
   cases y<;>simp only[zX5,List.mem_cons]<;>first|exact this|exact .inr this
theorem xI5 {x:Operand}{l:List Operand}(hx:x∈l)(h:∀ r∈zX5 l,S'.get r=S.get r):arg S' x=arg S x:=by
 cases x with
 |tmp t=>simp only[arg,h t (xO0 hx)]
 |_=>rfl
theorem xB2 {l:List Operand}(h:∀ r∈zX5 l,S'.get r=S.get r):l.map (arg S')=l.map (arg S):=
 List.map_congr_left fun _ hx=>xI5 hx h
theorem yT6 {dsts:List (Option Nat)}{g:Option (Nat×Bool)}(h:∀ r∈yC1 dsts g,S'.get r=S.get r):zL3 dsts S' g=zL3 dsts S g:=by
 cases g with
 |none=>rfl
 |some q =>
  obtain⟨j,want⟩:=q
  simp only[zL3]
  simp only[yC1] at h
  split
  ·rename_i s hs
   rw[h s (by simp[hs])]
  ·rfl
theorem xO1 {A:AVal}{s:Nat}:∀ {l:List AVal},A∈l→zC8 A=some s→s∈refs l:=by
 intro l
 induction l with
 |nil=>intro h;cases h
 |cons B l ih =>
  intro h hs
  rcases List.mem_cons.1 h with rfl|h
  ·cases A<;>simp[zC8] at hs<;>simp[refs,hs]
  ·have:=ih h hs
   cases B<;>simp only[refs,List.mem_cons]<;>first|exact this|exact .inr this
theorem yP9 {A:AVal}(h:zC8 A=none):zA4 S' A=zA4 S A:=by
 cases A<;>first|rfl|simp[zC8] at h
theorem zV2 {A:AVal}{l:List AVal}(hA:A∈l)(h:∀ r∈refs l,S'.get r=S.get r):zA4 S' A=zA4 S A:=by
 cases hs:zC8 A with
 |none=>exact yP9 hs
 |some s =>
  have:=h s (xO1 hA hs)
  cases A<;>simp[zC8] at hs<;>(subst hs;simpa[zA4] using this)
theorem yF0 {gd:Gd}{A:AVal}:zE9 gd A=bare A∨zE9 gd A=.junk:=by
 cases A with
 |opt s w g A =>
  simp only[zE9,bare]
  cases gd with
  |none=>exact .inr rfl
  |some q =>
   obtain⟨s',w',g'⟩:=q
   simp only
   cases (Nat.beq s s'&&(w==w')) with
   |true=>exact .inl rfl
   |false=>exact .inr rfl
 |_=>exact .inl rfl
theorem zO3 {gd:Gd}{l:List AVal}(h:∀ r∈refs (l.map bare),S'.get r=S.get r):((l.map (zE9 gd)).map (zA4 S'))=((l.map (zE9 gd)).map (zA4 S)):=by
 rw[List.map_map,List.map_map]
 refine List.map_congr_left fun A hA=>?_
 simp only[Function.comp]
 rcases yF0 (gd:=gd) (A:=A) with e|e
 ·rw[e];exact zV2 (List.mem_map_of_mem hA) h
 ·rw[e];rfl
theorem yT7 {l r:List AVal}:refs (l++r)=refs l++refs r:=by
 induction l with
 |nil=>rfl
 |cons A l ih=>cases A<;>simp[refs,ih]
theorem zY7 {dsts:List (Option Nat)}{o:Oper}{p:List Prop}{u:St}(h:zX8 c dsts o S=some (p,u,false))(hr:∀ r∈(yG5 dsts o S u false).rd,S'.get r=S.get r)
  (hq:∀ e∈S',e∈S∨∀ d,o.dst=some d→yG6 d e.2=true):zX8 c dsts o S'=some (p,u,false):=by
 simp only[yG5] at hr
 have h1:=xB2 (gtab:=gtab) (l:=zC9 o.op) (S:=S) (S':=S') fun r hr'=>hr r (List.mem_append_left _ hr')
 have h2:=yT6 (dsts:=dsts) (g:=o.guard) (S:=S) (S':=S') fun r hr'=>hr r (List.mem_append_right _ (List.mem_append_left _ hr'))
 have h3:∀ r∈refs (xU2 o.op ((zC9 o.op).map (fun x=>bare (arg S x)))),S'.get r=S.get r:=fun r hr'=>hr r (List.mem_append_right _ (List.mem_append_right _ hr'))
 have htag:∀ d T,o.dst=some d→(T=d∨T=100000+d∨T=200000+d∨T=300000+d)→zB6 T S=true→zB6 T S'=true:=by
  intro d T hd hT hn
  simp only[zB6,List.all_eq_true] at hn ⊢
  intro e he
  rcases hq e he with h' | h'
  ·exact hn e h'
  ·have:=h' d hd
   simp only[yG6,jB] at this
   obtain⟨_,q1,q2,q3,q4⟩:=this
   rcases hT with rfl|rfl|rfl|rfl<;>assumption
 have href:∀ d,o.dst=some d→zP4 d S=true→zP4 d S'=true:=by
  intro d hd hn
  simp only[zP4,List.all_eq_true] at hn ⊢
  intro e he
  rcases hq e he with h' | h'
  ·exact hn e h'
  ·have:=h' d hd
   simp only[yG6,jB] at this
   exact this.1
 unfold zX8 at h ⊢
 rw[h2]
 split at h
 ·cases h
 ·rename_i gd hgd
  rw[h1]
  generalize hX:(zC9 o.op).map (arg S)=X at h ⊢
  have hXb:(zC9 o.op).map (fun x=>bare (arg S x))=X.map bare:=by rw[← hX,List.map_map];rfl
  rw[hXb] at h3
  have hy:zS6 o.op≠3→xU2 o.op (X.map bare)=X.map bare:=by
   intro hk
   unfold xU2
   split
   ·rename_i ho _;rw[ho] at hk;simp[zS6] at hk
   ·rfl
  unfold yR at h ⊢
  generalize hk:zS6 o.op=k at h ⊢ hy
  match k,hk,h,hy with
  |0,hk,h,hy=>exact h
  |1,hk,h,hy =>
   rw[hy (by decide)] at h3
   simp only at h ⊢
   split at h
   ·rename_i T x y A v h0 hd ho hl
    have hcs:=zO3 (gd:=none) h3
    rw[hl] at hcs
    simp only[List.map_cons,List.cons.injEq] at hcs
    rw[hcs.1]
    unfold zT9 at h ⊢
    split at h
    ·rename_i s0 U t i q
     split at h
     ·rename_i t' l U' hkk
      cases hho:xR4 v with
      |true =>
       simp only[hho,jE] at h
       unfold yC at h
       split at h
       ·generalize (Ty.beq _ _&&Ty.beq _ _&&Nat.beq _ _&&c.is T _&&_&&_&&_)=b at h
        cases b<;>simp at h
       ·cases h
      |false =>
      simp only[hho,jD] at h
      cases hb:(Ty.beq t' t&&Nat.beq U' U&&c.is T (t'.pty q)&&AVal.fits (t'.pty q) v) with
      |false=>simp only[hb,jD] at h;cases h
      |true =>
       simp only[hb,jE] at h
       split at h
       ·simp at h
       ·cases h
     ·cases h
    ·exact h
    ·exact h
   ·rename_i T x y z A k v h0 hd ho hl
    unfold yJ0 at h
    split at h
    ·split at h
     ·split at h
      ·simp at h
      ·cases h
     ·cases h
    ·cases h
   ·cases h
  |2,hk,h,hy =>
   simp only at h
   split at h
   ·split at h
    ·rename_i T T' hats
     cases hT:Nat.beq T T' with
     |false=>simp[hT] at h
     |true =>
      simp only[hT,jE] at h
      unfold zL8 at h
      generalize zB6 _ S=b at h
      cases b with
      |false=>cases h
      |true =>
       simp only[jE] at h
       split at h<;>simp at h
    ·cases h
   ·cases h
  |3,hk,h,hy =>
   simp only at h ⊢
   split at h
   ·rename_i f cs r hl
    cases hpl:zH cs with
    |false=>simp[hpl] at h
    |true =>
     simp only[hpl,jE] at h ⊢
     have hct:(r++cs.toL).map (zA4 S')=(r++cs.toL).map (zA4 S):=by
      have:∃ fo args ats,o.op=.call { callee:=.value fo,args,argTypes:=ats }:=by
       unfold zS6 at hk
       split at hk<;>first|exact absurd hk (by decide) | (rename_i fo args ats ho;exact⟨_,_,_,ho⟩)
      obtain⟨fo,args,ats,ho⟩:=this
      cases X with
      |nil=>simp at hl
      |cons x0 X' =>
       simp only[List.map_cons,List.cons.injEq] at hl
       obtain⟨hl1,rfl⟩:=hl
       have hb0:bare x0=.fn f cs:=by
        rcases yF0 (gd:=gd) (A:=x0) with e|e
        ·rw[← e,hl1]
        ·rw[e] at hl1;cases hl1
       rw[ho,List.map_cons,hb0] at h3
       simp only[xU2,yT7] at h3
       rw[List.map_append,List.map_append,zO3 (fun r hr=>h3 r (List.mem_append_left _ hr))]
       congr 1
       exact List.map_congr_left fun A hA=>zV2 hA fun r hr=>h3 r (List.mem_append_right _ hr)
     unfold yJ1 at h ⊢
     generalize hx:zS9 c gd o.dst f (r++cs.toL)=y at h ⊢
     cases y with
     |some q'=>exact h
     |none =>
      simp only[zJ] at h ⊢
      rw[hct]
      have hheavy:∀ q:List Prop×St×Bool,yG4 c gd o.dst f (r++cs.toL) S=some q→q.2.2=true∨(gd=none∧zZ2 c o.dst f (r++cs.toL) ((r++cs.toL).map (zA4 S)) S=some q):=by
       intro q
       unfold yG4
       cases gd with
       |some _ =>
        intro e
        simp only at e
        unfold xE1 at e
        split at e
        ·simp only[jA] at e;rw[← e];exact .inl rfl
        ·cases e
       |none =>
        simp only
        generalize hl:zZ2 c o.dst f (r++cs.toL) ((r++cs.toL).map (zA4 S)) S=z
        cases z with
        |some q' =>
         intro e
         simp only[zJ,jA] at e
         subst e
         exact .inr ⟨trivial,rfl⟩
        |none =>
         simp only[zJ]
         generalize hc2:yX6 c o.dst f (r++cs.toL) S=z2
         cases z2 with
         |some q' =>
          intro e
          simp only[jA] at e
          subst e
          unfold yX6 at hc2
          split at hc2
          ·generalize (_&&zB6 _ S)=bb at hc2
           cases bb with
           |false=>cases hc2
           |true=>simp only[jE,jA] at hc2;rw[← hc2];exact .inl rfl
          ·cases hc2
         |none =>
         simp only
         generalize hh:xE0 c o.dst f (r++cs.toL) S=z
         cases z with
         |none=>intro e;cases e
         |some q' =>
          intro e
          simp only[jA] at e
          subst e
          unfold xE0 at hh
          split at hh
          ·cases hh
          ·split at hh
           ·cases hh
           ·generalize (_&&zO8 _)=bb at hh
            cases bb with
            |false=>cases hh
            |true=>simp only[jE,jA] at hh;rw[← hh];exact .inl rfl
      generalize hcs:zH0 c gd o.dst f (r++cs.toL) ((r++cs.toL).map (zA4 S)) S=x at h
      cases x with
      |none =>
       rcases hheavy _ h with e|⟨rfl,hL2⟩
       ·cases e
       ·have yM3:∀ d,o.dst=some d→(zB6 d S&&zB6 (100000+d) S&&zB6 (200000+d) S&&zB6 (300000+d) S)=true:=by
         intro d hd
         unfold zZ2 at hL2
         split at hL2
         ·cases hL2
         ·split at hL2
          ·rename_i d' _ hd'
           rw[hd] at hd'
           injection hd' with hd'
           subst hd'
           generalize hb:(_&&zB6 (300000+d) S)=bb at hL2
           cases bb with
           |false=>cases hL2
           |true=>simp only[jB] at hb ⊢;exact⟨⟨⟨hb.1.1.1.2,hb.1.1.2⟩,hb.1.2⟩,hb.2⟩
          ·cases hL2
        have hsame:∀ d,o.dst=some d→(zB6 d S'=zB6 d S∧zB6 (100000+d) S'=zB6 (100000+d) S∧zB6 (200000+d) S'=zB6 (200000+d) S∧zB6 (300000+d) S'=zB6 (300000+d) S):=by
         intro d hd
         have:=yM3 d hd
         simp only[jB] at this
         obtain⟨⟨⟨b1,b2⟩,b3⟩,b4⟩:=this
         rw[b1,b2,b3,b4]
         exact⟨htag d _ hd (.inl rfl) b1,htag d _ hd (.inr (.inl rfl)) b2,htag d _ hd (.inr (.inr (.inl rfl))) b3,htag d _ hd (.inr (.inr (.inr rfl))) b4⟩
        have hcs':zH0 c none o.dst f (r++cs.toL) ((r++cs.toL).map (zA4 S)) S'=none:=by
         rw[← hcs]
         clear hcs
         revert hsame
         generalize o.dst=dst
         intro hsame
         cases dst with
         |none=>rfl
         |some d =>
          obtain⟨e1,e2,e3,e4⟩:=hsame d rfl
          unfold zH0
          simp only[e1,e2,e3,e4]
        rw[hcs']
        simp only
        have hl':zZ2 c o.dst f (r++cs.toL) ((r++cs.toL).map (zA4 S)) S'=some (p,u,false):=by
         rw[← hL2]
         unfold zZ2
         split
         ·rfl
         ·split
          ·rename_i d' _ hd'
           obtain⟨e1,e2,e3,e4⟩:=hsame d' hd'
           rw[e1,e2,e3,e4]
          ·rfl
        unfold yG4
        rw[hct,hl']
        rfl
      |some q' =>
       simp only[jA] at h
       subst h
       have hcs':zH0 c gd o.dst f (r++cs.toL) ((r++cs.toL).map (zA4 S)) S'=some (p,u,false):=by
        unfold zH0 at hcs ⊢
        split at hcs
        ·cases hcs
        ·rename_i co hco
         generalize (zT8 co.outs 0 _&&zF8 co.res&&_&&_)=b at hcs ⊢
         cases b with
         |false=>simp only[Bool.not_false,jE] at hcs;cases hcs
         |true =>
          simp only[Bool.not_true,jD] at hcs ⊢
          split at hcs
          ·rename_i uu hout heat
           cases gd with
           |some q=>exact hcs
           |none =>
            simp only at hcs ⊢
            split at hcs
            ·exact hcs
            ·rename_i d hd
             generalize hb:(zB6 d S&&zB6 (100000+d) S&&zB6 (200000+d) S&&zB6 (300000+d) S)=b at hcs
             cases b with
             |false=>cases hcs
             |true =>
              simp only[jB] at hb
              obtain⟨⟨⟨b1,b2⟩,b3⟩,b4⟩:=hb
              rw[htag d _ hd (.inl rfl) b1,htag d _ hd (.inr (.inl rfl)) b2,htag d _ hd (.inr (.inr (.inl rfl))) b3,htag d _ hd (.inr (.inr (.inr rfl))) b4]
              exact hcs
          ·cases hcs
       rw[hcs']
   ·cases h
  |4,hk,h,hy=>exact h
  |k+5,hk,h,hy =>
   rw[hy (by omega)] at h3
   simp only at h ⊢
   rw[zO3 h3]
   unfold zM8 at h ⊢
   split at h
   ·cases h
   ·rename_i d hd
    split at h
    ·cases h
    ·rename_i p' A hA
     cases hf:zU0 o.op with
     |false=>simpa[hf] using h
     |true =>
      simp only[hf,jE] at h ⊢
      cases hb:(gd.isNone&&zP4 d S&&zB6 d S) with
      |false =>
       simp only[hb,jD] at h
       unfold gMk at h
       split at h
       ·rename_i q t l T m _
        cases hb':(zP4 d S&&zB6 d S&&Nat.beq T d&&!t.isL) with
        |false=>simp only[hb',jD] at h;cases h
        |true =>
         simp only[hb',jE] at h
         simp only[jB] at hb'
         simp only[Option.isNone_some,Bool.false_and,jD,gMk,href d hd hb'.1.1.1,htag d d hd (.inl rfl) hb'.1.1.2,hb'.1.2,hb'.2,Bool.and_self,jE]
         exact h
       ·cases h
      |true =>
       simp only[hb,jE] at h
       simp only[jB] at hb
       rw[hb.1.1,href d hd hb.1.2,htag d d hd (.inl rfl) hb.2]
       exact h
theorem xU6 {gd:Gd}{d:Nat}{p p':List Prop}{A:AVal}{u:St}{hv:Bool}(h:gMk gd d p A S=some (p',u,hv)):∃ B,u=[(d,B)]:=by
 unfold gMk at h
 split at h
 ·rename_i q t l T m
  cases hb':(zP4 d S&&zB6 d S&&Nat.beq T d&&!t.isL) with
  |false=>simp only[hb',jD] at h;cases h
  |true=>simp only[hb',jE,jA,jG] at h;exact⟨_,h.2.1.symm⟩
 ·cases h
theorem xX8 {dsts:List (Option Nat)}{o:Oper}{p:List Prop}{u:St}(h:zX8 c dsts o S=some (p,u,false))(hm:xU4 o.op=true):∃ d A,o.dst=some d∧u=[(d,A)]:=by
 unfold zX8 at h
 split at h
 ·cases h
 ·rename_i gd hgd
  unfold yR at h
  generalize (zC9 o.op).map (arg S)=X at h
  unfold xU4 at hm
  split at hm
  ·rename_i T n ps ho
   rw[ho] at h
   simp only[zS6,zM8,zU0,jE] at h
   split at h
   ·cases h
   ·rename_i d hd
    split at h
    ·cases h
    ·rename_i p' A hA
     ·generalize (gd.isNone&&zP4 d S&&zB6 d S)=b at h
      cases b with
      |false =>
       simp only[jD] at h
       obtain⟨B,hB⟩:=xU6 h
       exact⟨d,B,hd,hB⟩
      |true=>simp only[jE,jA,jG] at h;exact⟨d,_,hd,h.2.1.symm⟩
  ·rename_i T x y ho
   rw[ho] at h
   simp only[zS6,zM8,zU0,jE] at h
   split at h
   ·cases h
   ·rename_i d hd
    split at h
    ·cases h
    ·rename_i p' A hA
     ·generalize (gd.isNone&&zP4 d S&&zB6 d S)=b at h
      cases b with
      |false =>
       simp only[jD] at h
       obtain⟨B,hB⟩:=xU6 h
       exact⟨d,B,hd,hB⟩
      |true=>simp only[jE,jA,jG] at h;exact⟨d,_,hd,h.2.1.symm⟩
  ·rename_i args ats ho
   rw[ho] at h
   simp only[zS6] at h
   split at h
   ·split at h
    ·rename_i T T' hats
     cases hT:Nat.beq T T' with
     |false=>simp[hT] at h
     |true =>
      simp only[hT,jE] at h
      unfold zL8 at h
      generalize zB6 _ S=b at h
      cases b with
      |false=>cases h
      |true =>
       simp only[jE] at h
       split at h<;>simp at h
    ·cases h
   ·cases h
  ·cases hm
theorem yT8 {dsts:List (Option Nat)}{o:Oper}{p:List Prop}{u:St}(h:yR0 c dsts o S=some (p,u,false))(hr:∀ r∈(yG5 dsts o S u false).rd,S'.get r=S.get r)
  (hq:∀ e∈S',e∈S∨∀ d,o.dst=some d→yG6 d e.2=true):yR0 c dsts o S'=some (p,u,false):=by
 unfold yR0 at h ⊢
 split at h
 ·cases h
 ·rename_i p0 u0 h0 hst
  cases hmk:xU4 o.op with
  |false =>
   simp only[hmk,jD,jA,jG] at h
   obtain⟨rfl,rfl,rfl⟩:=h
   rw[zY7 hst hr hq]
   rfl
  |true =>
   simp only[hmk,jE] at h
   split at h
   ·rename_i u' hu'
    simp only[jA,jG] at h
    obtain⟨rfl,rfl,rfl⟩:=h
    have hloc:=zY7 hst (u:=u0) hr hq
    rw[hloc]
    obtain⟨d,A,hd,rfl⟩:=xX8 hst hmk
    have:xQ5 c S' [(d,A)]=some u':=by
     rw[← hu']
     unfold xQ5
     cases A with
     |own t l T m =>
      cases m with
      |false=>rfl
      |true =>
       simp only
       generalize hb:(Nat.beq T d&&!(c.wr.any (Nat.beq d)))=b
       cases b with
       |false=>rfl
       |true =>
        simp only[jB] at hb
        have e:=jC hb.1
        subst e
        simp only[jE,List.nil_append]
        have hold:zB6 T S=true:=by
         unfold xQ5 at hu'
         simp only[Nat.beq_refl,Bool.true_and,hb.2,jE,List.nil_append] at hu'
         generalize zB6 T S=b at hu'
         cases b with
         |false=>simp at hu'
         |true=>rfl
        have hnew:zB6 T S'=true:=by
         simp only[zB6,List.all_eq_true] at hold ⊢
         intro e he
         rcases hq e he with h' | h'
         ·exact hold e h'
         ·have:=h' T hd
          simp only[yG6,jB] at this
          exact this.2.1
        rw[hold,hnew]
     |_=>rfl
    simp only[jE,this]
   ·cases h
end Go.Am
namespace Go.Am
open Go Go.RowKit
variable {gtab:GlobTab}{P:Program}{c:Ctx}{G:Gh}{w:World}{tm:Array Value}{n:Nat}{χ0:Nat→Nat→Nat}{w0:World}{S:St}{a:Act}
def ahd (ops:List Oper)(i j:Nat):Prop:=((ahead ops []).getD j 0).testBit i=true
theorem zX0 {acc:List Nat}{i:Nat}:∀ {l:List Edge},(zE1 acc l).testBit i=true→∃ e∈l,Region.binds .any e=true∧(i=e.on∨(acc.getD e.on 0).testBit i=true):=by
 intro l
 induction l with
 |nil=>intro h;simp[zE1] at h
 |cons e r ih =>
  intro h
  simp only[zE1] at h
  cases hb:Region.binds .any e with
  |false =>
   simp only[hb,jD] at h
   obtain⟨e',he,h'⟩:=ih h
   exact⟨e',jP _ he,h'⟩
  |true =>
   simp only[hb,jE] at h
   have h:((2 ^ e.on ||| acc.getD e.on 0) ||| zE1 acc r).testBit i=true:=h
   rw[Nat.testBit_or,Nat.testBit_or,Bool.or_eq_true,Bool.or_eq_true] at h
   rcases h with (h|h)|h
   ·rw[Nat.testBit_two_pow] at h
    exact⟨e,jQ ..,hb,.inl (jF h).symm⟩
   ·exact⟨e,jQ ..,hb,.inr h⟩
   ·obtain⟨e',he,h'⟩:=ih h
    exact⟨e',jP _ he,h'⟩
theorem yQ:∀ {ops:List Oper}{acc:List Nat},∃ r,ahead ops acc=acc++r∧r.length=ops.length:=by
 intro ops
 induction ops with
 |nil=>intro acc;exact⟨[],by simp[ahead]⟩
 |cons o l ih =>
  intro acc
  obtain⟨r,hr,hl⟩:=ih (acc:=acc++[zE1 acc o.after.toList])
  exact⟨zE1 acc o.after.toList::r,by simp only[ahead,hr];simp,by simp[hl]⟩
theorem xO2:∀ {ops:List Oper}{acc:List Nat}{j i:Nat}{o:Oper},ops[j]?=some o→((ahead ops acc).getD (acc.length+j) 0).testBit i=true →
  ∃ e∈o.after.toList,Region.binds .any e=true∧(i=e.on∨((ahead ops acc).getD e.on 0).testBit i=true):=by
 intro ops
 induction ops with
 |nil=>intro acc j i o ho;simp at ho
 |cons o' l ih =>
  intro acc j i o ho h
  cases j with
  |zero =>
   simp only[List.getElem?_cons_zero,jA] at ho
   subst ho
   simp only[ahead] at h ⊢
   obtain⟨r,hr,_⟩:=yQ (ops:=l) (acc:=acc++[zE1 acc o'.after.toList])
   rw[hr] at h ⊢
   have e1:((acc++[zE1 acc o'.after.toList])++r).getD (acc.length+0) 0=zE1 acc o'.after.toList:=by simp
   rw[e1] at h
   obtain⟨e,he,hb,h'⟩:=zX0 h
   refine⟨e,he,hb,h'.imp id fun h'=>?_⟩
   by_cases hlt:e.on<acc.length
   ·simp only[jM] at h' ⊢
    rw[List.append_assoc,List.getElem?_append_left hlt]
    exact h'
   ·simp only[jM] at h'
    rw[List.getElem?_eq_none (by omega)] at h'
    simp at h'
  |succ j =>
   simp only[List.getElem?_cons_succ] at ho
   simp only[ahead] at h ⊢
   have:=ih (acc:=acc++[zE1 acc o'.after.toList]) (j:=j) (i:=i) ho (by simpa[Nat.add_assoc,Nat.add_comm 1 j] using h)
   exact this
theorem xO3 {ops:List Oper}{j i:Nat}{o:Oper}(ho:ops[j]?=some o)(h:ahd ops i j):∃ e∈o.after.toList,Region.binds .any e=true∧(i=e.on∨ahd ops i e.on):=
 xO2 (acc:=[]) ho (by simpa[ahd] using h)
theorem yQ0:∀ {ops:List Oper}{k j:Nat}{o:Oper},zK k ops=true→ops[j]?=some o→∀ e∈o.after.toList,Region.binds .any e=true→e.on<k+j:=by
 intro ops
 induction ops with
 |nil=>intro k j o _ ho;simp at ho
 |cons o' l ih =>
  intro k j o h ho e he hbd
  simp only[zK,jB] at h
  cases j with
  |zero =>
   simp only[List.getElem?_cons_zero,jA] at ho
   subst ho
   have:=List.all_eq_true.1 h.1 e he
   rw[hbd] at this
   simpa using Nat.blt_eq.mp this
  |succ j =>
   have:=ih h.2 (by simpa using ho) e he hbd
   omega
theorem yT9 {b:Nat}{t:Tr}:∀ {l:List Tr}{k i:Nat}{t':Tr},yA1 b t k l=true→l[i]?=some t'→yC2 t' t=true→b.testBit (k+i)=true:=by
 intro l
 induction l with
 |nil=>intro k i t' _ h;simp at h
 |cons x l ih =>
  intro k i t' h hi hc
  simp only[yA1,jB,Bool.or_eq_true] at h
  cases i with
  |zero =>
   simp only[List.getElem?_cons_zero,jA] at hi
   subst hi
   rcases h.1 with h' | h'
   ·rw[hc] at h';cases h'
   ·exact h'
  |succ i =>
   have:=ih h.2 (by simpa using hi) hc
   rw[show k+(i+1)=k+1+i by omega];exact this
theorem xB3:∀ {bs:List Nat}{trs l:List Tr}{i j:Nat}{ti tj:Tr},zP6 trs bs l=true→(trs++l)[i]?=some ti→l[j]?=some tj→i<trs.length+j→yC2 ti tj=true→(bs.getD j 0).testBit i=true:=by
 intro bs
 induction bs with
 |nil=>intro trs l i j ti tj h _ hj;cases l<;>simp[zP6] at h;simp at hj
 |cons b bs ih =>
  intro trs l i j ti tj h hi hj hlt hc
  cases l with
  |nil=>simp[zP6] at h
  |cons t l =>
   simp only[zP6,jB] at h
   cases j with
   |zero =>
    simp only[List.getElem?_cons_zero,jA] at hj
    subst hj
    have:=yT9 h.1 (i:=i) (t':=ti) (by rwa [List.getElem?_append_left (by omega)] at hi) hc
    simpa using this
   |succ j =>
    have:=ih (i:=i) (j:=j) (ti:=ti) (tj:=tj) h.2 (by simpa using hi) (by simpa using hj) (by simp;omega) hc
    simpa using this
theorem yF1:∀ {l m:List Nat}{x:Nat},yX8 l m=true→x∈l→x∈m→False:=by
 intro l
 induction l with
 |nil=>intro m x _ h;cases h
 |cons y l ih =>
  intro m x h hl hm
  simp only[yX8,jB] at h
  rcases List.mem_cons.1 hl with rfl|hl
  ·simp only[jK,List.any_eq_false] at h
   exact h.1 x hm (by simp)
  ·exact ih h.2 hl hm
theorem has_map {r:Nat}:∀ {u:St},St.has r u=true↔r∈u.map (·.1):=by
 intro u
 induction u with
 |nil=>simp[St.has]
 |cons e l ih =>
  simp only[St.has] at ih
  simp only[St.has,List.any_cons,Bool.or_eq_true,List.map_cons,List.mem_cons,ih]
  constructor
  ·rintro (h|h)
   ·exact .inl (jC h).symm
   ·exact .inr h
  ·rintro (h|h)
   ·exact .inl (by rw[h];exact Nat.beq_refl _)
   ·exact .inr h
end Go.Am
namespace Go.Am
open Go Go.RowKit
variable {rd:Option Nat}{gtab:GlobTab}{P:Program}{c:Ctx}{G:Gh}{w:World}{tm:Array Value}{n:Nat}{χ0:Nat→Nat→Nat}{w0:World}{S:St}{a:Act}
section draw
variable {ops:Array Oper}{ts:List Tr}{p:List Prop}
def wr (ts:List Tr)(j r:Nat):Prop:=St.has r (uAt ts j)=true
structure Inv (ops:Array Oper) (ts:List Tr) (S:St) (l:List Nat):Prop where
 nd:l.Nodup
 lt:∀ i∈l,i<ops.size
 down:∀ j∈l,∀ i,ahd ops.toList i j→i∈l
 val:∀ r k,(∀ j,j<k→wr ts j r→j∈l)→(∀ j∈l,wr ts j r→j<k)→(exe ts l++S).get r=(tex ts k++S).get r
def xB4 (ts:List Tr):Prop:=∀ j,∀ e∈uAt ts j,e.1≠zA9
theorem xO4 (hn:xB4 ts){r:Nat}:∀ {k:Nat},(∀ j,j<k→¬ wr ts j r)→(tex ts k++S).get r=S.get r:=by
 intro k
 induction k with
 |zero=>intro _;rfl
 |succ k ih =>
  intro h
  rw[tex,List.append_assoc,zQ4 (hn k) (by have:=h k (by omega);simpa[wr] using this)]
  exact ih fun j hj=>h j (by omega)
theorem xS1 (hn:xB4 ts){r i:Nat}:∀ {k:Nat},i<k→wr ts i r→(∀ j,i<j→j<k→¬ wr ts j r)→(tex ts k++S).get r=(uAt ts i).get r:=by
 intro k
 induction k with
 |zero=>intro h;omega
 |succ k ih =>
  intro h hw hj
  rw[tex,List.append_assoc]
  by_cases e:i=k
  ·subst e;exact yO8 (hn i) hw
  ·rw[zQ4 (hn k) (by have:=hj k (by omega) (by omega);simpa[wr] using this)]
   exact ih (by omega) hw fun j h1 h2=>hj j h1 (by omega)
theorem zX1 {j r:Nat}(h:wr ts j r):∃ t,ts[j]?=some t∧t.u=uAt ts j:=by
 unfold wr uAt at h
 unfold uAt
 cases ht:ts[j]? with
 |none=>simp[ht,St.has] at h
 |some t=>exact⟨t,rfl,rfl⟩
theorem zK9 {t t':Tr}(h:yC2 t t'=false):t.heavy=false∧t'.heavy=false∧(∀ r,St.has r t.u=true→r∈t'.rd→False)∧(∀ r,St.has r t.u=true→St.has r t'.u=true→False) ∧
  (∀ r,r∈t.rd→St.has r t'.u=true→False)∧xM0 t.dst t.u t'.u=true:=by
 simp only[yC2,jJ,Bool.not_eq_false',jB] at h
 obtain⟨h1,h2,h3,h4,h5,h6⟩:=h
 exact⟨h1,h2,fun r a b=>yF1 h3 (has_map.1 a) b,fun r a b=>yF1 h4 (has_map.1 a) (has_map.1 b),fun r a b=>yF1 h5 a (has_map.1 b),h6⟩
theorem xS2 (hn:xB4 ts):Inv ops ts S []:=
 ⟨List.nodup_nil,fun i h=>(by cases h),fun j h=>(by cases h),fun r k h _=>(xO4 hn fun j hj hw=>by cases h j hj hw).symm⟩
def Ord (ops:Array Oper)(ts:List Tr):Prop:=∀ i j ti tj,ts[i]?=some ti→ts[j]?=some tj→i<j→yC2 ti tj=true→ahd ops.toList i j
theorem Inv.up {l:List Nat}(hI:Inv ops ts S l){i:Nat}{o:Oper}(ho:ops[i]?=some o)(he:∀ e∈o.after.toList,Region.binds .any e=true→e.on∈l){j:Nat}(h:ahd ops.toList j i):j∈l:=by
 obtain⟨e,hm,hb,h'⟩:=xO3 (ops:=ops.toList) (by simpa using ho) h
 rcases h' with rfl|h'
 ·exact he e hm hb
 ·exact hI.down _ (he e hm hb) _ h'
theorem Inv.cons {l:List Nat}(hn:xB4 ts)(hO:Ord ops ts)(hI:Inv ops ts S l){i:Nat}{o:Oper}(ho:ops[i]?=some o)(hi:i∉l)(he:∀ e∈o.after.toList,Region.binds .any e=true→e.on∈l):Inv ops ts S (i::l):=by
 refine⟨List.nodup_cons.2 ⟨hi,hI.nd⟩,fun j hj=>?_,fun j hj k hk=>?_,fun r k h1 h2=>?_⟩
 ·rcases List.mem_cons.1 hj with rfl|hj
  ·exact (Array.getElem?_eq_some_iff.1 ho).1
  ·exact hI.lt j hj
 ·rcases List.mem_cons.1 hj with rfl|hj
  ·exact jP _ (hI.up ho he hk)
  ·exact jP _ (hI.down j hj k hk)
 ·rw[exe,List.append_assoc]
  by_cases hw:wr ts i r
  ·rw[yO8 (hn i) hw]
   refine (xS1 hn (h2 i (jQ ..) hw) hw fun j hij hjk hwj=>?_).symm
   have hj:j∈l:=by
    rcases List.mem_cons.1 (h1 j hjk hwj) with e|e
    ·omega
    ·exact e
   obtain⟨ti,hti,ei⟩:=zX1 hw
   obtain⟨tj,htj,ej⟩:=zX1 hwj
   cases hc:yC2 ti tj with
   |true=>exact hi (hI.down j hj i (hO i j ti tj hti htj hij hc))
   |false=>exact (zK9 hc).2.2.2.1 r (by rw[ei];exact hw) (by rw[ej];exact hwj)
  ·rw[zQ4 (hn i) (by simpa[wr] using hw)]
   refine hI.val r k (fun j hj hwj=>?_) fun j hj hwj=>h2 j (jP _ hj) hwj
   rcases List.mem_cons.1 (h1 j hj hwj) with e|e
   ·subst e;exact absurd hwj hw
   ·exact e
theorem xI6 {e:Nat×AVal}:∀ {l:List Nat},e∈exe ts l→∃ j∈l,e∈uAt ts j:=by
 intro l
 induction l with
 |nil=>intro h;cases h
 |cons i l ih =>
  intro h
  rcases List.mem_append.1 h with h|h
  ·exact⟨i,jQ ..,h⟩
  ·obtain⟨j,hj,h⟩:=ih h
   exact⟨j,jP _ hj,h⟩
theorem xI7 {e:Nat×AVal}{j:Nat}:∀ {k:Nat},j<k→e∈uAt ts j→e∈tex ts k:=by
 intro k
 induction k with
 |zero=>intro h;omega
 |succ k ih =>
  intro h he
  rw[tex]
  by_cases ej:j=k
  ·subst ej;exact List.mem_append_left _ he
  ·exact List.mem_append_right _ (ih (by omega) he)
theorem yL2 {j:Nat}{e:Nat×AVal}(h:e∈uAt ts j):∃ t,ts[j]?=some t∧t.u=uAt ts j:=by
 unfold uAt at h ⊢
 cases ht:ts[j]? with
 |none=>simp[ht] at h
 |some t=>exact⟨t,rfl,rfl⟩
theorem xI8 (hc:CtxOk P c)(hF:Fam c (ops.toList.map (·.dst)) ops.toList S [] ts p)(hS:∀ e∈S,e.2.hasOpt=false)(hp:∀ q∈p,q)(hO:Ord ops ts)
  {l:List Nat}(hI:Inv ops ts S l){i:Nat}{o:Oper}(ho:ops[i]?=some o) (hi:i∉l) (he:∀ e∈o.after.toList,Region.binds .any e=true→e.on∈l)
  (hR:Rel c.n χ0 w0 (exe ts l++S) a w G){next:Act→World→Prop}{Q:Exit→Act→World→Prop}
  (hnext:∀ v w' G',Rel c.n χ0 w0 (exe ts (i::l)++S) (a.put o.dst v) w' G'→next (a.put o.dst v) w'):wpOpIn (fz rd) 0 P ops Q i next a w:=by
 have hF':=hF
 obtain⟨pi,hv,q1,q2,q3,q4,q5⟩:=hF i o (by simpa using ho)
 simp only[List.append_nil] at q1 q2 q4
 have hlater:∀ j tj,j∈l→ts[j]?=some tj→i<j→yC2 (yG5 (ops.toList.map (·.dst)) o (tex ts i++S) (uAt ts i) hv) tj=false:=by
  intro j tj hj htj hij
  cases hcl:yC2 _ tj with
  |true=>exact absurd (hI.down j hj i (hO i j _ tj q2 htj hij hcl)) hi
  |false=>rfl
 have hearlier:∀ j tj,j∉l→ts[j]?=some tj→j<i→yC2 tj (yG5 (ops.toList.map (·.dst)) o (tex ts i++S) (uAt ts i) hv)=false:=by
  intro j tj hj htj hij
  cases hcl:yC2 tj _ with
  |true=>exact absurd (hI.up ho he (hO j i tj _ htj q2 hij hcl)) hj
  |false=>rfl
 cases hv with
 |true =>
  have hget:∀ r,(exe ts l++S).get r=(tex ts i++S).get r:=by
   intro r
   refine hI.val r i (fun j hj hw=>?_) fun j hj hw=>?_
   ·by_cases hjl:j∈l
    ·exact hjl
    ·obtain⟨t,ht,_⟩:=zX1 hw
     have:=(zK9 (hearlier j t hjl ht hj)).2.1
     simp[yG5] at this
   ·obtain⟨t,ht,_⟩:=zX1 hw
    by_cases hlt:j<i
    ·exact hlt
    ·have:i≠j:=fun e=>hi (e ▸ hj)
     have:=(zK9 (hlater j t hj ht (by omega))).1
     simp[yG5] at this
  refine yW7 hc hF' hS hp ho (zM3 (fun s=>(hget s).symm) hR) fun v w' G' hR'=>hnext v w' G' ?_
  rw[exe,List.append_assoc]
  exact zM3 (yL1 hget) hR'
 |false =>
  have hloc:=yT8 (S':=exe ts l++S) q1 (fun r hr=>hI.val r i (fun j hj hw=>?_) (fun j hj hw=>?_)) (fun e hem=>?_)
  ·refine yF hc hR ho hloc q5 (fun s e hem=>?_) (fun e hem e' hem'=>zM5 (q4 e (List.mem_append_left _ hem)) e' hem') (fun q hq=>hp q (q3 q hq)) fun v w' G' hR'=>hnext v w' G' (by rw[exe,List.append_assoc];exact hR')
   refine zT4 (q:=fun A=>A.hung e.1=false) rfl fun e' he'=>?_
   rcases List.mem_append.1 he' with h|h
   ·obtain⟨j,hj,hej⟩:=xI6 h
    by_cases hlt:j<i
    ·exact zM5 (q4 e' (List.mem_append_right _ (xI7 hlt hej))) e hem
    ·have:i≠j:=fun e=>hi (e ▸ hj)
     obtain⟨t,ht,eu⟩:=yL2 hej
     have hq:=(zK9 (hlater j t hj ht (by omega))).2.2.2.2.2
     simp only[xM0,List.all_eq_true,yG5,jB,jK] at hq
     exact zM5 (hq e' (by rw[eu];exact hej)).1 e hem
   ·exact zM4 (hS e' h)
  ·by_cases hjl:j∈l
   ·exact hjl
   ·obtain⟨t,ht,eu⟩:=zX1 hw
    exact ((zK9 (hearlier j t hjl ht hj)).2.2.1 r (by rw[eu];exact hw) hr).elim
  ·obtain⟨t,ht,eu⟩:=zX1 hw
   by_cases hlt:j<i
   ·exact hlt
   ·have:i≠j:=fun e=>hi (e ▸ hj)
    exact ((zK9 (hlater j t hj ht (by omega))).2.2.2.2.1 r hr (by rw[eu];exact hw)).elim
  ·rcases List.mem_append.1 hem with h|h
   ·obtain⟨j,hj,hej⟩:=xI6 h
    by_cases hlt:j<i
    ·exact .inl (List.mem_append_left _ (xI7 hlt hej))
    ·have:i≠j:=fun e=>hi (e ▸ hj)
     obtain⟨t,ht,eu⟩:=yL2 hej
     have hq:=(zK9 (hlater j t hj ht (by omega))).2.2.2.2.2
     simp only[xM0,List.all_eq_true,yG5,jB] at hq
     refine .inr fun d hd=>?_
     have:=(hq e (by rw[eu];exact hej)).2
     rw[hd] at this
     exact this
   ·exact .inl (List.mem_append_right _ h)
theorem xS3 {l:List Nat}(h:((List.range ops.size).filter fun i=>!(l.contains i)).length=0):∀ i,i<ops.size→i∈l:=by
 intro i hi
 have h0:=List.length_eq_zero_iff.1 h
 have:=List.filter_eq_nil_iff.1 h0 i (List.mem_range.2 hi)
 simpa using this
theorem xB5 {l:List Nat}{listed:Array Bool}(hE:zK 0 ops.toList=true)(hs:listed.size=ops.size)(hl:∀ j,listed.getD j false=true↔j∈l)(hr:Region.ready .any ops listed=[]):∀ i,i<ops.size→i∈l:=by
 intro i
 induction i using Nat.strongRecOn with
 |_ i ih =>
  intro hi
  by_cases hm:i∈l
  ·exact hm
  ·have:i∈Region.ready .any ops listed:=by
    refine mem_ready.2 ⟨?_,ops[i],Array.getElem?_eq_getElem hi,fun e he hbd=>?_⟩
    ·have h1:¬ listed.getD i false=true:=fun h=>hm ((hl i).1 h)
     have h2:i<listed.size:=by omega
     simp[h2] at h1 ⊢
     exact h1
    ·have:=yQ0 (ops:=ops.toList) (j:=i) (o:=ops[i]) hE (by simp[hi]) e (by simpa using he) hbd
     exact (hl e.on).2 (ih e.on (by omega) (by omega))
   rw[hr] at this
   cases this
theorem xO5 {K:Act→Prop}(hK:∀ o∈ops.toList,∀ a v,K a→K (a.put o.dst v))(hc:CtxOk P c)(hF:Fam c (ops.toList.map (·.dst)) ops.toList S [] ts p)(hS:∀ e∈S,e.2.hasOpt=false)(hp:∀ q∈p,q)(hO:Ord ops ts)(hn:xB4 ts)
  (hE:zK 0 ops.toList=true){Q:Exit→Act→World→Prop}(hQ:∀ a' w' G',Rel c.n χ0 w0 (tex ts ops.size++S) a' w' G'→K a'→Q .normal a' w') :
  ∀ zI1 listed l a w G,listed.size=ops.size→(∀ j,listed.getD j false=true↔j∈l)→Inv ops ts S l→((List.range ops.size).filter fun i=>!(l.contains i)).length≤zI1 →
   Rel c.n χ0 w0 (exe ts l++S) a w G→K a→wpAnyIn (fz rd) 0 P .any ops Q zI1 listed a w:=by
 have fin:∀ l a w G,Inv ops ts S l→(∀ i,i<ops.size→i∈l)→Rel c.n χ0 w0 (exe ts l++S) a w G→K a→Q .normal a w:=by
  intro l a w G hI hf hR hk
  refine hQ a w G (zM3 (fun s=>?_) hR) hk
  refine (hI.val s ops.size (fun j hj _=>hf j hj) fun j hj _=>hI.lt j hj).symm
 intro zI1
 induction zI1 with
 |zero =>
  intro listed l a w G hs hl hI hm hR hk
  have hf:=xS3 (ops:=ops) (l:=l) (by omega)
  refine⟨?_,fin l a w G hI hf hR hk⟩
  refine List.eq_nil_iff_forall_not_mem.2 fun i hi=>?_
  obtain⟨h1,o,ho,_⟩:=mem_ready.1 hi
  have hlt:=(Array.getElem?_eq_some_iff.1 ho).1
  have:=(hl i).2 (hf i hlt)
  have h2:i<listed.size:=by omega
  simp[h2] at h1 this
  rw[this] at h1
  cases h1
 |succ zI1 ih =>
  intro listed l a w G hs hl hI hm hR hk
  refine⟨fun hr=>fin l a w G hI (xB5 hE hs hl hr) hR hk,fun i hi=>?_⟩
  obtain⟨h1,o,ho,he⟩:=mem_ready.1 hi
  have hlt:=(Array.getElem?_eq_some_iff.1 ho).1
  have h2:i<listed.size:=by omega
  have hil:i∉l:=by
   intro h
   have:=(hl i).2 h
   simp[h2] at h1 this
   rw[this] at h1
   cases h1
  have he':∀ e∈o.after.toList,Region.binds .any e=true→e.on∈l:=fun e hem hb=>(hl _).1 (he e (by simpa using hem) hb)
  refine xI8 hc hF hS hp hO hI ho hil he' hR fun v w' G' hR'=>?_
  refine ih _ (i::l) _ _ G' (by rw[Array.size_setIfInBounds];exact hs) (fun j=>?_) (hI.cons hn hO ho hil he') ?_ hR' (hK _ (List.mem_of_getElem? (by simpa using ho)) _ _ hk)
  ·by_cases e:i=j
   ·subst e;simp[h2]
   ·rw[getD_set_ne false e,hl j]
    simp[Ne.symm e]
  ·have hsub:(List.range ops.size).filter (fun k=>!((i::l).contains k))=((List.range ops.size).filter (fun k=>!(l.contains k))).filter (fun k=>!(k==i)):=by
    rw[List.filter_filter]
    refine List.filter_congr fun k _=>?_
    simp only[List.contains_cons,Bool.not_or]
   rw[hsub]
   have:(((List.range ops.size).filter (fun k=>!(l.contains k))).filter (fun k=>!(k==i))).length<((List.range ops.size).filter (fun k=>!(l.contains k))).length:=by
    refine List.length_filter_lt_length_iff_exists.2 ⟨i,List.mem_filter.2 ⟨List.mem_range.2 hlt,by simpa using hil⟩,by simp⟩
   omega
theorem xU7 (h:zP6 [] (ahead ops.toList []) ts=true):Ord ops ts:=by
 intro i j ti tj hi hj hij hcl
 exact xB3 (trs:=[]) h (by simpa using hi) hj (by simpa using hij) hcl
end draw
end Go.Am
namespace Go.Am
open Go Go.RowKit
variable {gtab:GlobTab}{P:Program}{c:Ctx}{G:Gh}{w:World}{tm:Array Value}{n:Nat}{χ0:Nat→Nat→Nat}{w0:World}{S:St}{a:Act}
def Gh.rename (G:Gh)(T U:Nat):Gh:=
 {χ:=fun b o=>if G.χ b o=zB2 T then zB2 U else G.χ b o,β:=G.β,γ:=fun k=>if k=U then G.γ T else G.γ k }
theorem zO4 {T U:Nat}:∀ b o,b<w.heap.size→G.χ b o=0→(G.rename T U).χ b o=0∧w.cell? ⟨b,o,none⟩=w.cell? ⟨b,o,none⟩:=by
 intro b o _ h
 refine⟨?_,rfl⟩
 simp only[Gh.rename]
 rw[if_neg (by rw[h];exact zA8 T),h]
theorem rename_ext {T U:Nat}:Ext (fun x=>x=zB2 T∨x=zB2 U) (fun x=>x=zB2 U) G w (G.rename T U) w:=by
 refine⟨zO4,fun b _ h=>⟨rfl,fun o=>?_⟩,jI _,fun _ _=>rfl,fun k hk=>?_,fun _ h=>.inr h⟩
 ·simp only[Gh.rename];rw[if_neg fun e=>h o (.inl e)]
 ·simp only[Gh.rename];rw[if_neg fun e=>hk (by rw[e])]
theorem yH7 {T U:Nat}{t:Ty}{l:List t.den}{m:Bool}{v:Value}(h:zF4 G w t l T m v):zF4 (G.rename T U) w t l U m v:=by
 refine zU1 (fun h=>⟨h.1,?_⟩) (by simp[Gh.rename]) rfl zO4 (fun _ hc o=>?_) h
 rotate_left
 ·simp only[Gh.rename,hc o]
  simp
 rcases h.2 with h|⟨cap,cur,e,us,h1,h2,h3,h4,h5,h6,h7,h8⟩
 ·exact .inl h
 ·have hg:(G.rename T U).γ U=G.γ T:=by simp[Gh.rename]
  refine .inr ⟨cap,cur,e,us,by rw[hg];exact h1,by rw[hg];exact h2,h3,h4,h5,zB8 (fun _ _ h=>zA5 zO4 h) h6,h7,fun o=>?_⟩
  rw[hg]
  simp only[Gh.rename,h8 o]
  split
  ·rw[if_neg (zA8 T)]
  ·rw[if_pos rfl]
theorem yH8 {T:Nat}(h:yG3 T S=true)(s:Nat):(S.get s).hasTag T=false:=by
 by_cases hj:S.get s=.junk
 ·rw[hj];rfl
 ·have hs:=zW4 hj
  simp only[St.has,List.any_eq_true] at hs
  obtain⟨e,he,hb⟩:=hs
  have:=List.all_eq_true.1 h e he
  rw[jC hb] at this
  simpa using this
theorem yQ1 (hR:Rel n χ0 w0 S a w G)(hn:n≤zA9){T U:Nat}(hU:yG3 U S=true)(hlt:∀ e∈zB5 T (AVal.retag T U) S S,e.1<n) :
  Rel n χ0 w0 (zB5 T (AVal.retag T U) S S++S) a w (G.rename T U):=by
 have h0:¬ ((0:Nat)=zB2 T∨(0:Nat)=zB2 U):=by rintro (e|e);exact zA8 _ e;exact zA8 _ e
 have hor:∀ {t:Ty}{l:List t.den}{T':Nat}{m:Bool}{v:Value},¬ T'=U→Nat.beq T T'=false→zF4 G w t l T' m v→zF4 (G.rename T U) w t l T' m v:=by
  intro t l T' m v hB hb ho
  refine zF0 rename_ext h0 ?_ ho
  rintro (e|e)
  ·have:=zA6 e;subst this;simp at hb
  ·exact hB (zA6 e)
 refine zR8 (U:=T) (Bad:=fun k=>k=U) hR hn rename_ext h0 ?_ ?_ (fun k hk s=>by subst hk;exact yH8 hU s) (fun s hs=>yP hs (yH8 hU s)) hlt
 ·refine⟨hR.frame.os,hR.frame.tape,hR.frame.output,hR.frame.size,hR.frame.block,fun b o hb hc=>?_⟩
  have:=hR.frame.cell b o hb hc
  refine⟨?_,this.2⟩
  simp only[Gh.rename]
  rw[if_neg,this.1]
  rw[this.1]
  have:=zK6 T
  omega
 ·refine⟨zO4,fun s=>rfl,fun s hcol hl=>⟨rfl,fun o=>?_⟩,fun t l T' m v hB ho hf=>?_,fun t l T' m v hB ho tm=>?_,fun s T' t i p v hB tm ha=>?_⟩
  ·simp only[Gh.rename];rw[if_neg (by rw[hcol];exact zA7 _ _),hcol]
  ·simp only[zA2]
   cases hb:Nat.beq T T' with
   |true=>have:=jC hb;subst this;exact⟨trivial,v,rfl,yH7 ho⟩
   |false=>exact⟨trivial,v,rfl,hor hB hb ho⟩
  ·simp only[zA]
   cases hb:Nat.beq T T' with
   |true=>have:=jC hb;subst this;exact yH7 ho
   |false=>exact hor hB hb ho
  ·simp only[zA] at ha ⊢
   cases hb:Nat.beq T T' with
   |true=>have:=jC hb;subst this;simpa[Gh.rename] using ha
   |false=>rw[jD,rename_ext.tag (w:=w) T' fun e=>hB (zA6 e)];exact ha
end Go.Am
namespace Go.Am
open Go Go.RowKit
variable {rd:Option Nat}{gtab:GlobTab}{P:Program}{c:Ctx}{G:Gh}{w:World}{tm:Array Value}{n:Nat}{χ0:Nat→Nat→Nat}{w0:World}{S:St}{a:Act}
theorem yW8 {T:Nat}{X:Nat→Prop}{G':Gh}(hX:∀ x,X x→x=zB2 T)(hx:Ext X (fun _=>False) G w G' w) :
  MapOk (fun _=>False) G w G' w (fun t l T' m=>bif Nat.beq T T' then .junk else .own t l T' m) (fun s T' t i p=>bif Nat.beq T T' then .junk else .eref s T' t i p):=by
 have h0:¬ X 0:=fun h=>zA8 _ (hX 0 h)
 refine⟨hx.prot,fun s=>hx.box s id,fun s hcol hlt=>?_,fun t l T' m v _ ho hf=>?_,fun t l T' m v _ ho tm=>?_,fun s T' t i p v _ tm ha=>?_⟩
 ·have:=hx.block _ hlt (fun o=>by rw[hcol];exact fun e=>zA7 _ _ (hX _ e))
  exact⟨this.1,fun o=>by rw[this.2 o];exact hcol o⟩
 ·cases hb:Nat.beq T T' with
  |true=>simp[hb,AVal.fitsT] at hf
  |false =>
   simp only[jD,zA2]
   exact⟨trivial,v,rfl,zF0 hx h0 (fun e=>by have:=zA6 (hX _ e);subst this;simp at hb) ho⟩
 ·cases hb:Nat.beq T T' with
  |true=>simp only[jE,zA]
  |false=>simp only[jD,zA];exact zF0 hx h0 (fun e=>by have:=zA6 (hX _ e);subst this;simp at hb) ho
 ·cases hb:Nat.beq T T' with
  |true=>simp only[jE,zA]
  |false=>simp only[jD,zA] at ha ⊢;rw[hx.tag T' id];exact ha
theorem xI9 {T:Nat}{g:(t:Ty)→List t.den→Nat→Bool→AVal}{h:Nat→Nat→Ty→Int→yI4→AVal}{G':Gh}(H:MapOk (fun _=>False) G w G' w g h) :
  ∀ {b:AVal}{f:Ty}{k:Nat}{vs:List Value}{t:Ty}{l:List t.den}{m:Bool},zA2 G w f b vs→b.nth k=.own t l T m→(∀ v,zF4 G w t l T m v→zF4 G' w t l T false v) →
   ((b.mapOwn g h).setNth k (.own t l T false)).fitsT f=true→zA2 G' w f ((b.mapOwn g h).setNth k (.own t l T false)) vs:=by
 intro b
 induction b with
 |cons x y _ ihy =>
  intro f k vs t l m ht hk ho hf
  simp only[zA2] at ht
  obtain⟨h1,t1,us,ws,rfl,rfl,h2,h3⟩:=ht
  cases k with
  |zero =>
   simp only[AVal.nth] at hk
   subst hk
   simp only[zA2] at h2
   obtain⟨rfl,v,rfl,h2⟩:=h2
   simp only[AVal.mapOwn,AVal.setNth,AVal.fitsT,zD7,jB] at hf ⊢
   simp only[zA2]
   exact⟨_,_,_,_,rfl,rfl,⟨rfl,v,rfl,ho v h2⟩,H.trep (fun _ h=>h.elim) h3 (zN1 hf.2)⟩
  |succ k =>
   simp only[AVal.nth] at hk
   simp only[AVal.mapOwn,AVal.setNth,AVal.fitsT,zD7,jB] at hf ⊢
   simp only[zA2]
   exact⟨_,_,_,_,rfl,rfl,H.trep (fun _ h=>h.elim) h2 (zN1 hf.1),ihy h3 hk ho hf.2⟩
 |_=>intro f k vs t l m _ hk;cases k<;>simp[AVal.nth] at hk
theorem xS4 {T:Nat}{t:Ty}{l:List t.den}{m:Bool}:∀ {b:AVal}{f:Ty}{k:Nat}{us:List Value},zA2 G w f b us→b.nth k=.own t l T m→∃ v,zF4 G w t l T m v:=by
 intro b
 induction b with
 |cons x y _ ihy =>
  intro f k us ht hfld
  simp only[zA2] at ht
  obtain⟨h1,t1,us,ws,rfl,rfl,h2,h3⟩:=ht
  cases k with
  |zero=>simp only[AVal.nth] at hfld;subst hfld;simp only[zA2] at h2;obtain⟨_,v,_,h2⟩:=h2;exact⟨v,h2⟩
  |succ k=>simp only[AVal.nth] at hfld;exact ihy h3 hfld
 |_=>intro f k us _ hfld;cases k<;>simp[AVal.nth] at hfld
theorem xJ (hR:Rel n χ0 w0 S a w G)(hn:n≤zA9){s k T:Nat}(hT:yX9 k (S.get s)=some T)(hlt:∀ e∈(s,zF2 k (S.get s))::zB5 T (AVal.gone T) S S,e.1<n) :
  ∃ G',Rel n χ0 w0 (((s,zF2 k (S.get s))::zB5 T (AVal.gone T) S S)++S) a w G':=by
 have hs:=hR.reps s
 have main:∀ G',Ext (fun x=>x=zB2 T) (fun _=>False) G w G' w→Frame0 χ0 w0 G'.χ w→(zA G' w a.tmps (some s) (zF2 k (S.get s)) (a.tmps.getD s undef)) →
   ∃ G',Rel n χ0 w0 (((s,zF2 k (S.get s))::zB5 T (AVal.gone T) S S)++S) a w G':=by
  intro G' hx hfr hst
  refine⟨G',?_⟩
  have:=zE6 (u:=(s,zF2 k (S.get s))::zB5 T (AVal.gone T) S S) (dst:=none) (v:=undef) hR hn hlt (fun d e=>by cases e) hx (fun e=>zA8 _ e) hfr (fun s' hs'=>?_) (fun s d e=>by cases e) (fun s' hs'=>?_)
  ·exact this
  ·refine xG7 (fun x h=>h) ?_
   simp only[St.has,List.any_cons,jJ] at hs'
   cases ht:(S.get s').hasTag T with
   |false=>rfl
   |true=>have:=zR7 (k:=AVal.gone T) (zW4 (zU9 ht)) ht;unfold St.has at this;rw[hs'.2] at this;cases this
  ·rw[zR5]
   by_cases e:s=s'
   ·subst e
    have:St.get ((s,zF2 k (S.get s))::zB5 T (AVal.gone T) S S) s=zF2 k (S.get s):=by simp[St.get]
    rw[this];exact hst
   ·have h1:Nat.beq s s'=false:=by cases hb:Nat.beq s s' with
     |false=>rfl
     |true=>exact absurd (jC hb) e
    have h2:Nat.beq s zA9=false:=by cases hb:Nat.beq s zA9 with
     |false=>rfl
     |true=>have:=hlt (s,zF2 k (S.get s)) (by simp);have:=jC hb;omega
    have hs'':St.has s' (zB5 T (AVal.gone T) S S)=true:=by simpa[St.has,h1] using hs'
    have hget:St.get ((s,zF2 k (S.get s))::zB5 T (AVal.gone T) S S) s'=AVal.gone T (S.get s'):=by
     simp only[St.get,h1,h2,jD]
     rcases zR6 hs'' with h3|⟨e,he,h3⟩
     ·exact h3.1
     ·have:=hlt e (by simp[he]);omega
    rw[hget]
    exact (yW8 (fun x h=>h) hx).arep (fun _ h=>h.elim) (hR.reps s')
 generalize hA:S.get s=A at hs hT main ⊢
 cases A with
 |own t l T' m =>
  simp only[yX9,jA] at hT
  subst hT
  simp only[zA] at hs
  cases htl:t.isL with
  |true=>exact main G ⟨fun _ _ _ h=>⟨h,rfl⟩,fun _ _ _=>⟨rfl,fun _=>rfl⟩,jI _,fun _ _=>rfl,fun _ _=>rfl,fun _ h=>h.elim⟩ hR.frame (by simp only[zF2,htl,jE,zA])
  |false =>
   obtain⟨G',h1,h2,h3⟩:=zV0 htl hR.frame hs
   exact main G' h1 h2 (by simp only[zF2,htl,jD,zA];exact h3.2 _ hs)
 |box τ b =>
  simp only[yX9] at hT
  split at hT
  ·rename_i t l T' m hfld
   injection hT with hT
   subst hT
   cases b with
   |agg f b =>
    simp only[AVal.fld] at hfld
    simp only[zA] at hs
    obtain⟨hv,hvt,cur,e,g1,g2,g3⟩:=hs
    simp only[zA2] at g2
    obtain⟨rfl,g2⟩:=g2
    have hown:∃ v,zF4 G w t l T' m v:=xS4 g2 hfld
    obtain⟨v0,ho⟩:=hown
    cases htl:t.isL with
    |true=>exact main G ⟨fun _ _ _ h=>⟨h,rfl⟩,fun _ _ _=>⟨rfl,fun _=>rfl⟩,jI _,fun _ _=>rfl,fun _ _=>rfl,fun _ h=>h.elim⟩ hR.frame (by simp only[zF2,hfld,htl,jE,zA])
    |false =>
    obtain⟨G',h1,h2,h3,h4⟩:=zV0 htl hR.frame ho
    refine main G' h1 h2 ?_
    simp only[zF2,hfld,htl,jD]
    generalize hfit:((b.gone T').setNth k (.own t l T' false)).fitsT f=fit
    cases fit with
    |false=>simp only[jD,zA]
    |true =>
     simp only[jE,zA]
     have hb:=h1.block (G.β s) (zE8 g1) (fun o=>by rw[g3];exact zA7 _ _)
     refine⟨by rw[h3];exact hv,hvt,cur,e,by rw[h3,hb.1];exact g1,?_,fun o=>by rw[h3,hb.2 o];exact g3 o⟩
     simp only[zA2]
     exact⟨trivial,xI9 (yW8 (fun x h=>h) h1) g2 hfld h4 hfit⟩
   |_=>exact main G ⟨fun _ _ _ h=>⟨h,rfl⟩,fun _ _ _=>⟨rfl,fun _=>rfl⟩,jI _,fun _ _=>rfl,fun _ _=>rfl,fun _ h=>h.elim⟩ hR.frame (by simp only[zF2,zA])
  ·cases hT
 |ownh t l T' i U m =>
  simp only[yX9] at hT
  cases hTU:Nat.beq T' U with
  |true=>simp[hTU] at hT
  |false =>
  simp only[hTU,jD,jA] at hT
  subst hT
  simp only[zA] at hs
  obtain⟨hvt,⟨he,_⟩ | ⟨hne,hcase⟩⟩:=hs
  ·subst he;simp at hTU
  have hfin:∀ (G':Gh),Ext (fun x=>x=zB2 U) (fun _=>False) G w G' w→(∀ u,yY0 G w t (List.getD (α:=List t.den) l i []) U m u→i<List.length (α:=List t.den) l→zB0 G'.χ w (.sl t) (List.getD (α:=List t.den) l i []) [u]) →
    yY0 G' w (.sl t) l T' true (a.tmps.getD s undef):=by
   intro G' hx hcr
   refine⟨⟨by simp[Ty.plain,hvt.1,hvt.2],rfl⟩,?_⟩
   rcases hcase with h|⟨cap,cur,e,h1,h2,h3,h4,h5,h6,h7⟩
   ·exact .inl h
   ·have hb:=hx.block (G.γ T') (zE8 h2) (fun o=>by rw[h6 o];exact fun e=>hne (zA6 e))
    have hg:=hx.tag T' (fun h=>h)
    refine .inr ⟨cap,cur,e,cur.toList.take (List.length (α:=List t.den) l),by rw[hg];exact h1,by rw[hg];exact h2,h3,h4,by rw[h5];simp[Ty.size],?_,by simp[Ty.size],fun o=>by rw[hg,hb.2 o,h6 o];simp⟩
    refine xN5 (α:=List t.den) (R:=zB0 G'.χ w (.sl t)) (l:=l) (us:=List.take (List.length (α:=List t.den) l) cur.toList) (by simp[h5];omega) fun j x hj=>?_
    obtain⟨u,hu,hr⟩:=h7 j x hj
    have hjl:j<List.length (α:=List t.den) l:=by
     rw[List.getElem?_eq_some_iff] at hj;exact hj.1
    refine⟨u,by rw[List.getElem?_take,if_pos hjl];exact hu,?_⟩
    by_cases e:j=i
    ·rw[if_pos e] at hr
     subst e
     have hx2:List.getD (α:=List t.den) l j []=x:=by rw[jM,hj];rfl
     rw[← hx2] at hr ⊢
     exact hcr u hr hjl
    ·rw[if_neg e] at hr
     exact zA5 hx.prot hr
  by_cases hin:i<List.length (α:=List t.den) l∧∃ u,yY0 G w t (List.getD (α:=List t.den) l i []) U m u
  ·obtain⟨hi,u,hu⟩:=hin
   obtain⟨G',h1,h2,h3,h4⟩:=zV0 hvt.2 hR.frame (.inl hu)
   exact main G' h1 h2 (by simp only[zF2,zA];exact .inl (hfin G' h1 fun u' hu' _=>zD1 (h4 u' (.inl hu'))))
  ·exact main G ⟨fun _ _ _ h=>⟨h,rfl⟩,fun _ _ _=>⟨rfl,fun _=>rfl⟩,jI _,fun _ _=>rfl,fun _ _=>rfl,fun _ h=>h.elim⟩ hR.frame (by
    simp only[zF2,zA]
    exact .inl (hfin G ⟨fun _ _ _ h=>⟨h,rfl⟩,fun _ _ _=>⟨rfl,fun _=>rfl⟩,jI _,fun _ _=>rfl,fun _ _=>rfl,fun _ h=>h.elim⟩ fun u hu hi=>absurd ⟨hi,u,hu⟩ hin))
 |_=>simp[yX9] at hT
theorem xO6 {T:Nat}{k:AVal→AVal}:∀ {R:St}{s:Nat},St.has s (yY T k S R)=true→(yY T k S R).get s=k (S.get s)∧(S.get s).hasRef T=true∨(∃ e∈yY T k S R,e.1=zA9):=by
 intro R
 induction R with
 |nil=>intro s hs;simp[yY,St.has] at hs
 |cons e r ih =>
  intro s hs
  obtain⟨q,A⟩:=e
  simp only[yY] at hs ⊢
  cases ht:(S.get q).hasRef T with
  |false=>simp only[ht,jD] at hs ⊢;exact ih hs
  |true =>
   simp only[ht,jE] at hs ⊢
   simp only[St.get]
   cases hq:Nat.beq q s with
   |true=>have:=jC hq;subst this;exact .inl ⟨rfl,ht⟩
   |false =>
    cases hc:Nat.beq q zA9 with
    |true=>exact .inr ⟨_,jQ ..,jC hc⟩
    |false =>
     simp only[jD]
     have hs':St.has s (yY T k S r)=true:=by simpa[St.has,hq] using hs
     rcases ih hs' with h|⟨e,he,h⟩
     ·exact .inl h
     ·exact .inr ⟨e,jP _ he,h⟩
theorem xB6 (hR:Rel n χ0 w0 S a w G)(hn:n≤zA9){s:Nat}{u:St}(h:yR1 S s=some u)(hlt:∀ e∈u,e.1<n):∃ G',Rel n χ0 w0 (u++S) a w G':=by
 unfold yR1 at h
 split at h
 ·rename_i τ b hA
  split at h
  ·rename_i x hx
   injection h with h
   subst h
   have hs:=hR.reps s
   rw[hA] at hs
   simp only[zA] at hs
   obtain⟨hv,hvt,cur,e,g1,g2,g3⟩:=hs
   have hc:=zK3 hx g2
   have hE:Ext (fun x=>x=zG8 s) (fun _=>False) G w (G.still (G.β s) cur.size) w:=yP3 fun o _=>.inr (g3 o)
   have hF:Frame0 χ0 w0 (G.still (G.β s) cur.size).χ w:=yE2 hR.frame fun o _=>.inr (by rw[g3];have:=zN8 s;omega)
   have hptr:∀ tm os,zA (G.still (G.β s) cur.size) w tm os (.val (.ptr τ) x) (.pointer (some ⟨G.β s,0,none⟩)):=by
    intro tm os
    simp only[zA]
    refine (zC1 rfl).2 ?_
    simp only[zB0]
    refine⟨G.β s,0,cur.toList,rfl,zA5 zW7 hc,fun j v hj=>?_⟩
    have hlt:j<cur.size:=by
     have:=(List.getElem?_eq_some_iff.1 hj).1
     simpa using this
    refine⟨?_,?_⟩
    ·simp only[World.cell?,g1]
     simpa using hj
    ·simp only[Gh.still,Nat.zero_add,true_and]
     rw[if_pos hlt]
   refine⟨G.still (G.β s) cur.size,?_⟩
   have:=zE6 (u:=(s,.val (.ptr τ) x)::yY s (yJ2 s τ x) S S) (dst:=none) (v:=undef) hR hn hlt (fun d e=>by cases e) hE (fun e=>zE5 _ e) hF (fun s' hs'=>?_) (fun s d e=>by cases e) (fun s' hs'=>?_)
   ·exact this
   ·refine zW9 fun e=>?_
    injection e with e
    subst e
    simp[St.has] at hs'
   ·rw[zR5]
    by_cases e:s=s'
    ·subst e
     have:St.get ((s,.val (.ptr τ) x)::yY s (yJ2 s τ x) S S) s=.val (.ptr τ) x:=by simp[St.get]
     rw[this,hv]
     exact hptr _ _
    ·have h1:Nat.beq s s'=false:=by cases hb:Nat.beq s s' with
      |false=>rfl
      |true=>exact absurd (jC hb) e
     have h2:Nat.beq s zA9=false:=by cases hb:Nat.beq s zA9 with
      |false=>rfl
      |true=>have:=hlt _ (jQ ..);have:=jC hb;omega
     have hs'':St.has s' (yY s (yJ2 s τ x) S S)=true:=by simpa[St.has,h1] using hs'
     have hget:St.get ((s,.val (.ptr τ) x)::yY s (yJ2 s τ x) S S) s'=yJ2 s τ x (S.get s'):=by
      simp only[St.get,h1,h2,jD]
      rcases xO6 hs'' with h3|⟨e,he,h3⟩
      ·exact h3.1
      ·have:=hlt e (by simp[he]);omega
     rw[hget]
     have hr:=hR.reps s'
     generalize S.get s'=B at hr
     cases B with
     |ref s2 τ2 p =>
      cases p with
      |nil =>
       simp only[yJ2]
       generalize hb:(Nat.beq s s2&&Ty.beq τ2 τ)=bb
       cases bb with
       |false=>simp only[jD,zA]
       |true =>
        simp only[jB] at hb
        have e1:=jC hb.1
        subst e1
        simp only[zA] at hr
        rw[hr.2]
        simpa[Ty.poff] using hptr a.tmps (some s')
      |cons _ _=>simp only[yJ2,zA]
     |_=>simp only[yJ2,zA]
  ·cases h
 ·cases h
theorem xB7 (hR:Rel n χ0 w0 S a w G)(hn:n≤zA9){g:Nat×Nat×Nat×Nat}{u:St}(h:xE2 S g=some u)(hlt:∀ e∈u,e.1<n):∃ G',Rel n χ0 w0 (u++S) a w G':=by
 obtain⟨kind,s,k,U⟩:=g
 simp only[xE2] at h
 cases h3:Nat.beq kind 3 with
 |true=>simp only[h3,jE] at h;exact xB6 hR hn h hlt
 |false =>
  simp only[h3,jD] at h
  cases h4:Nat.beq kind 4 with
  |true =>
   simp only[h4,jE] at h
   cases hb:Nat.beq k U with
   |true=>simp only[hb,jE,jA] at h;subst h;exact⟨G,hR⟩
   |false =>
    simp only[hb,jD] at h
    cases hu:yG3 U S with
    |false=>simp[hu] at h
    |true=>simp only[hu,jE,jA] at h;subst h;exact⟨_,yQ1 hR hn hu hlt⟩
  |false =>
  simp only[h4,jD] at h
  cases h5:Nat.beq kind 5 with
  |true=>simp only[h5,jE,jA] at h;subst h;exact⟨G,yW3 hR hn hlt⟩
  |false =>
  simp only[h5,jD] at h
  split at h
  ·cases h
  ·rename_i T hT
   split at h
   ·cases hb:Nat.beq T U with
    |true=>simp only[hb,jE,jA] at h;subst h;exact⟨G,hR⟩
    |false =>
     simp only[hb,jD] at h
     cases hu:yG3 U S with
     |false=>simp[hu] at h
     |true=>simp only[hu,jE,jA] at h;subst h;exact⟨_,yQ1 hR hn hu hlt⟩
   ·injection h with h;subst h;exact xJ hR hn hT hlt
   ·injection h with h;subst h;exact⟨G,yW3 hR hn hlt⟩
theorem yH9 (hn:n≤zA9):∀ {gs:List (Nat×Nat×Nat×Nat)}{S:St}{G:Gh}{u:St},Rel n χ0 w0 S a w G→yG7 gs S=some u→(∀ e∈u,e.1<n)→∃ G',Rel n χ0 w0 (u++S) a w G':=by
 intro gs
 induction gs with
 |nil=>intro S G u hR h _;simp only[yG7,jA] at h;subst h;exact⟨G,hR⟩
 |cons g r ih =>
  intro S G u hR h hlt
  simp only[yG7] at h
  split at h
  ·cases h
  ·rename_i u1 h1
   split at h
   ·cases h
   ·rename_i u2 h2
    injection h with h
    subst h
    obtain⟨G1,hR1⟩:=xB7 hR hn h1 fun e he=>hlt e (List.mem_append_right _ he)
    rw[List.append_assoc]
    exact ih hR1 h2 fun e he=>hlt e (List.mem_append_left _ he)
theorem xO7 {f:AVal→AVal}:∀ {u:St}{s:Nat},(∀ e∈u,e.1≠zA9)→St.get (u.map (fun e=>(e.1,f e.2))++S) s=if St.has s u=true then f (u.get s) else S.get s:=by
 intro u
 induction u with
 |nil=>intro s _;simp[St.has]
 |cons e r ih =>
  intro s hc
  obtain⟨k,A⟩:=e
  have h2:Nat.beq k zA9=false:=by cases hb:Nat.beq k zA9 with
   |false=>rfl
   |true=>exact absurd (jC hb) (hc _ (jQ ..))
  simp only[List.map_cons,List.cons_append,St.get,h2,jD]
  cases hk:Nat.beq k s with
  |true=>simp[St.has,hk]
  |false =>
   simp only[jD]
   rw[ih fun e he=>hc e (jP _ he)]
   have:St.has s ((k,A)::r)=St.has s r:=by simp only[St.has,List.any_cons,hk,Bool.false_or]
   rw[this]
theorem xO8 {u:St}(hR:Rel n χ0 w0 (u++S) a w G)(hu:∀ e∈u,e.1≠zA9):Rel n χ0 w0 (u.map (fun e=>(e.1,bif e.2.hasOpt then .junk else e.2))++S) a w G:=by
 refine⟨hR.len,hR.defers,fun s=>?_,hR.frame,hR.glob⟩
 have:=hR.reps s
 rw[xO7 (f:=fun A=>bif A.hasOpt then .junk else A) hu]
 split
 ·rename_i hs
  rw[yO8 hu hs] at this
  generalize u.get s=A at this
  cases A.hasOpt with
  |true=>simp only[jE,zA]
  |false=>simp only[jD];exact this
 ·rename_i hs
  rw[zQ4 hu (by simpa using hs)] at this
  exact this
theorem yQ2 {ops:Array Oper}{K:Act→Prop}(hK:∀ o∈ops.toList,∀ a v,K a→K (a.put o.dst v))(hc:CtxOk P c)(hm:P.follows .mixedOrders=true){gh:List (Nat×Nat×Nat×Nat)}{id:Nat}{draw:Bool}{p:List Prop}{u:St}(h:yR2 c gh ops.toList draw S=some (p,u))(hp:∀ q∈p,q)
  (hR:Rel c.n χ0 w0 S a w G) (hk:K a){Q:Exit→Act→World→Prop}(hQ:∀ a' w' G',Rel c.n χ0 w0 (u++S) a' w' G'→K a'→Q .normal a' w'):(Code.region id ops draw).wpIn (fz rd) 0 P Q a w:=by
 unfold yR2 at h
 cases hS:S.any (fun e=>e.2.hasOpt) with
 |true=>simp[hS] at h
 |false =>
  simp only[hS,jD] at h
  have hS':∀ e∈S,e.2.hasOpt=false:=by simpa using hS
  split at h
  ·cases h
  ·rename_i p0 u0 ts hrun
   obtain⟨hl,rfl,hF⟩:=xB1 hrun
   simp only[List.append_nil,jN] at hl h
   have hn:xB4 ts:=by
    intro j e he
    obtain⟨t,ht,_⟩:=yL2 he
    have hj:j<ops.toList.length:=by rw[jN,← hl];exact (List.getElem?_eq_some_iff.1 ht).1
    obtain⟨pi,hv,_,_,_,_,q5⟩:=hF j ops.toList[j] (jL hj)
    have:=q5 e he
    have:=hc.n
    omega
   have htex:∀ k,∀ e∈tex ts k,e.1≠zA9:=by
    intro k
    induction k with
    |zero=>intro e he;cases he
    |succ k ih =>
     intro e he
     rcases List.mem_append.1 he with he|he
     ·exact hn k e he
     ·exact ih e he
   generalize hgo:(!draw||(zK 0 ops.toList&&zP6 [] (ahead ops.toList []) ts))=go at h
   cases go with
   |false=>cases h
   |true =>
    simp only[jE] at h
    split at h
    ·rename_i u' hu'
     generalize hlt:u'.all (fun e=>Nat.blt e.1 c.n)=lt at h
     cases lt with
     |false=>cases h
     |true =>
      simp only[jE,jA,jG] at h
      obtain⟨rfl,rfl⟩:=h
      have fin:∀ a' w' G',Rel c.n χ0 w0 (tex ts ops.size++S) a' w' G'→K a'→Q .normal a' w':=by
       intro a' w' G' hR' hk'
       obtain⟨G'',hR''⟩:=yH9 hc.n (xO8 hR' (htex _)) hu' fun e he=>Nat.blt_eq.mp (List.all_eq_true.1 hlt e he)
       exact hQ a' w' G'' (by rw[List.append_assoc];exact hR'') hk'
      cases draw with
      |false =>
       refine wpIn_region ?_
       have:=xO (rd:=rd) hK hc hF hS' hp fin ops.size 0 (by omega) a w G (by simpa[tex] using hR) hk
       rwa [List.range_eq_range']
      |true =>
       simp only[Bool.not_true,Bool.false_or,jB] at hgo
       refine wpIn_region_any hm ?_
       refine xO5 hK hc hF hS' hp (xU7 hgo.2) hn hgo.1 fin ops.size _ [] a _ G (by simp) (fun j=>?_) (xS2 hn) ?_ ?_ hk
       ·simp[Array.getElem?_replicate]
        split<;>simp
       ·exact Nat.le_trans (List.length_filter_le _ _) (by simp)
       ·have hx:Ext (fun _=>False) (fun _=>False) G w G { w with drawn:=w.drawn+1 }:=⟨fun _ _ _ h=>⟨h,rfl⟩,fun _ _ _=>⟨rfl,fun _=>rfl⟩,jI _,fun _ _=>rfl,fun _ _=>rfl,fun _ h=>h⟩
        exact⟨hR.len,hR.defers,fun s=>yA4 hx (fun h=>h) _ (yE5 _ _) (hR.reps s),⟨hR.frame.os,hR.frame.tape,hR.frame.output,hR.frame.size,hR.frame.block,hR.frame.cell⟩,zG0 hx.prot hR.glob⟩
    ·cases h
end Go.Am
namespace Go.Am
open Go Go.RowKit
variable {gtab:GlobTab}{P:Program}{c:Ctx}{G:Gh}{w:World}{tm:Array Value}{n:Nat}{χ0:Nat→Nat→Nat}{w0:World}{S:St}{a:Act}
theorem yB2 {χ:Nat→Nat→Nat}{t:Ty}:zB0 χ w (.sl t) ([]:List t.den) [.slice none 0 0]:=by
 simp only[zB0];exact⟨none,0,rfl,.inl trivial⟩
theorem zV3 {t:Ty}{T:Nat}{m:Bool}(h:(t.plain&&!t.isL)=true):zF4 G w t [] T m (.slice none 0 0):=by
 simp only[jB,jK] at h
 exact .inl ⟨h,.inl ⟨rfl,rfl⟩⟩
theorem yL3 {t t':Ty}{l':List t'.den}{l2:(Ty.sl t).den}(h:Ty.cast (a:=.sl t') (.sl t) l'=some l2):t'=t∧HEq l' l2:=by
 obtain⟨e,h⟩:=zD5 h
 injection e with e
 subst e
 exact⟨rfl,heq_of_eq h⟩
theorem yF2:∀ {A B:AVal}{τ:Ty}{vs:List Value},(zA0 true A B).fitsT τ=true→zA2 G w τ A vs→zA2 G w τ (zA0 true A B) vs:=by
 intro A
 induction A with
 |val τ' x =>
  intro B τ vs hf h
  cases B with
  |val τ2 y =>
   simp only[zA0] at hf ⊢
   split at hf
   ·exact h
   ·simp[AVal.fitsT] at hf
  |nil =>
   cases τ'<;>simp only[zA0,AVal.fitsT,Bool.false_eq_true] at hf
   simp only[zA0,jE];exact h
  |agg f b =>
   cases τ'<;>simp only[zA0,AVal.fitsT,Bool.false_eq_true] at hf
   simp only[zA0,jE] at hf ⊢
   split at hf
   ·exact h
   ·simp[AVal.fitsT] at hf
  |own t l T m =>
   simp only[zA0,voA] at hf ⊢
   cases m with
   |true=>simp[AVal.fitsT] at hf
   |false =>
    simp only[jD] at hf ⊢
    split at hf
    ·exact h
    ·simp[AVal.fitsT] at hf
  |_=>cases τ'<;>simp[zA0,AVal.fitsT] at hf
 |nil =>
  intro B τ vs hf h
  simp only[zA2] at h
  obtain⟨h1,rfl⟩:=h
  cases B with
  |nil=>simp only[zA0,zA2];exact⟨h1,trivial⟩
  |val τ2 y =>
   cases τ2<;>simp only[zA0,AVal.fitsT,Bool.false_eq_true] at hf
   rename_i t
   simp only[zA0,jE,zA2]
   simp only[jB] at hf
   have e:=Ty.eq_of_beq hf.1
   subst e
   exact⟨rfl,rfl,yB2⟩
  |own t l T m =>
   simp only[zA0] at hf ⊢
   generalize hp:(t.plain&&!t.isL)=b at hf
   cases b with
   |false=>simp[AVal.fitsT] at hf
   |true =>
    simp only[jE,AVal.fitsT] at hf ⊢
    have e:=Ty.eq_of_beq hf
    subst e
    simp only[zA2]
    exact⟨trivial,_,rfl,zV3 hp⟩
  |_=>simp[zA0,AVal.fitsT] at hf
 |own t l T m =>
  intro B τ vs hf h
  cases B with
  |nil =>
   simp only[zA0] at hf ⊢
   generalize hp:(t.plain&&!t.isL)=b at hf
   cases b with
   |false=>simp[AVal.fitsT] at hf
   |true=>simp only[jE];exact h
  |own t' l' T' m' =>
   simp only[zA0] at hf ⊢
   generalize (Nat.beq T T'&&(m==m'))=b at hf ⊢
   cases b with
   |false=>simp[AVal.fitsT] at hf
   |true =>
    simp only[jE] at hf ⊢
    split at hf
    ·exact h
    ·simp[AVal.fitsT] at hf
  |val τ2 y =>
   simp only[zA0,ovA] at hf ⊢
   cases m with
   |true=>simp[AVal.fitsT] at hf
   |false =>
    simp only[jD] at hf ⊢
    split at hf
    ·simp only[zA2] at h
     obtain⟨rfl,v,rfl,ho⟩:=h
     simp only[jE,zA2]
     exact⟨trivial,rfl,zD1 ho⟩
    ·simp[AVal.fitsT] at hf
  |_=>simp[zA0,AVal.fitsT] at hf
 |agg f x ih =>
  intro B τ vs hf h
  cases B with
  |agg f' b =>
   simp only[zA0] at hf ⊢
   generalize hb:(Ty.beq f f'&&AVal.fits f (zA0 true x b))=bb at hf
   cases bb with
   |false=>simp[AVal.fitsT] at hf
   |true =>
    simp only[jB] at hb
    simp only[jE,zA2] at h ⊢
    exact⟨h.1,ih hb.2 h.2⟩
  |val τ2 y =>
   cases τ2<;>simp only[zA0,AVal.fitsT,Bool.false_eq_true] at hf
   rename_i f'
   simp only[zA0] at hf ⊢
   split at hf
   ·rename_i x' hx
    have hfit:=zP9 hx
    simp only[AVal.fitsT,jB] at hfit
    have e:=Ty.eq_of_beq hfit.1
    injection e with e
    subst e
    simp only[zA2] at h
    obtain⟨rfl,h⟩:=h
    simp only[zA2,jE]
    exact⟨trivial,rfl,zK3 (A:=.agg f x) hx (by simp only[zA2];exact⟨trivial,h⟩)⟩
   ·simp[AVal.fitsT] at hf
  |_=>simp[zA0,AVal.fitsT] at hf
 |nl =>
  intro B τ vs hf h
  cases B with
  |nl=>exact h
  |_=>simp[zA0,AVal.fitsT] at hf
 |cons x y ihx ihy =>
  intro B τ vs hf h
  cases B with
  |cons x' y' =>
   simp only[zA2] at h
   obtain⟨h1,t1,us,ws,rfl,rfl,h2,h3⟩:=h
   simp only[zA0,AVal.fitsT,zD7,jB] at hf
   simp only[zA0,zA2]
   exact⟨_,_,_,_,rfl,rfl,ihx hf.1 h2,ihy hf.2 h3⟩
  |_=>simp[zA0,AVal.fitsT] at hf
 |junk=>intro B τ vs hf h;cases B<;>simp[zA0,AVal.fitsT] at hf
 |_=>intro B τ vs _ h;simp[zA2] at h
theorem yF3:∀ {A B:AVal}{τ:Ty}{vs:List Value},(zA0 false A B).fitsT τ=true→zA2 G w τ B vs→zA2 G w τ (zA0 false A B) vs:=by
 intro A
 induction A with
 |val τ' x =>
  intro B τ vs hf h
  cases B with
  |val τ2 y =>
   simp only[zA0] at hf ⊢
   split at hf
   ·rename_i z hz
    obtain⟨e,hz⟩:=zD5 hz
    subst e;subst hz
    exact h
   ·simp[AVal.fitsT] at hf
  |nil =>
   simp only[zA2] at h
   obtain⟨h1,rfl⟩:=h
   cases τ'<;>simp only[zA0,AVal.fitsT,Bool.false_eq_true] at hf
   simp only[jB] at hf
   have e:=Ty.eq_of_beq hf.1
   subst e
   simp only[zA0,jD,zA2]
   exact⟨trivial,rfl,yB2⟩
  |agg f b =>
   cases τ'<;>simp only[zA0,AVal.fitsT,Bool.false_eq_true] at hf
   rename_i f'
   simp only[zA0,jD] at hf ⊢
   split at hf
   ·rename_i x' hx
    have hfit:=zP9 hx
    simp only[AVal.fitsT,jB] at hfit
    have e:=Ty.eq_of_beq hfit.1
    injection e with e
    subst e
    simp only[zA2] at h
    obtain⟨rfl,h⟩:=h
    simp only[zA2]
    exact⟨trivial,rfl,zK3 (A:=.agg f b) hx (by simp only[zA2];exact⟨trivial,h⟩)⟩
   ·simp[AVal.fitsT] at hf
  |own t l T m =>
   simp only[zA0,voA] at hf ⊢
   cases m with
   |true=>simp[AVal.fitsT] at hf
   |false =>
    simp only[jD] at hf ⊢
    split at hf
    ·rename_i z hz
     obtain⟨e,hz⟩:=zD5 hz
     subst e;subst hz
     simp only[zA2] at h
     obtain⟨rfl,v,rfl,ho⟩:=h
     simp only[zA2]
     exact⟨trivial,rfl,zD1 ho⟩
    ·simp[AVal.fitsT] at hf
  |_=>cases τ'<;>simp[zA0,AVal.fitsT] at hf
 |nil =>
  intro B τ vs hf h
  cases B with
  |nil=>exact h
  |val τ2 y =>
   cases τ2<;>simp only[zA0,AVal.fitsT,Bool.false_eq_true] at hf
   simp only[zA0,jD];exact h
  |own t l T m =>
   simp only[zA0] at hf ⊢
   generalize hp:(t.plain&&!t.isL)=b at hf
   cases b with
   |false=>simp[AVal.fitsT] at hf
   |true=>exact h
  |_=>simp[zA0,AVal.fitsT] at hf
 |own t l T m =>
  intro B τ vs hf h
  cases B with
  |nil =>
   simp only[zA2] at h
   obtain⟨h1,rfl⟩:=h
   simp only[zA0] at hf ⊢
   generalize hp:(t.plain&&!t.isL)=b at hf
   cases b with
   |false=>simp[AVal.fitsT] at hf
   |true =>
    simp only[jE,AVal.fitsT] at hf ⊢
    have e:=Ty.eq_of_beq hf
    subst e
    simp only[jD,zA2]
    exact⟨trivial,_,rfl,zV3 hp⟩
  |own t' l' T' m' =>
   simp only[zA0] at hf ⊢
   generalize hb:(Nat.beq T T'&&(m==m'))=b at hf
   cases b with
   |false=>simp[AVal.fitsT] at hf
   |true =>
    simp only[jE] at hf ⊢
    simp only[jB,beq_iff_eq] at hb
    have e:=jC hb.1
    obtain⟨_,hb⟩:=hb
    subst e;subst hb
    split at hf
    ·rename_i z hz
     obtain⟨e,hz⟩:=yL3 hz
     subst e
     have:=eq_of_heq hz
     subst this
     exact h
    ·simp[AVal.fitsT] at hf
  |val τ2 y =>
   simp only[zA0,ovA] at hf ⊢
   cases m with
   |true=>simp[AVal.fitsT] at hf
   |false =>
    simp only[jD] at hf ⊢
    split at hf
    ·rename_i z hz
     obtain⟨e,hz⟩:=zD5 hz
     subst e;subst hz
     exact h
    ·simp[AVal.fitsT] at hf
  |_=>simp[zA0,AVal.fitsT] at hf
 |agg f x ih =>
  intro B τ vs hf h
  cases B with
  |agg f' b =>
   simp only[zA0] at hf ⊢
   generalize hb:(Ty.beq f f'&&AVal.fits f (zA0 false x b))=bb at hf
   cases bb with
   |false=>simp[AVal.fitsT] at hf
   |true =>
    simp only[jB] at hb
    have e:=Ty.eq_of_beq hb.1
    subst e
    simp only[jE,zA2] at h ⊢
    exact⟨h.1,ih hb.2 h.2⟩
  |val τ2 y =>
   cases τ2<;>simp only[zA0,AVal.fitsT,Bool.false_eq_true] at hf
   rename_i f'
   simp only[zA0] at hf ⊢
   split at hf
   ·exact h
   ·simp[AVal.fitsT] at hf
  |_=>simp[zA0,AVal.fitsT] at hf
 |nl =>
  intro B τ vs hf h
  cases B with
  |nl=>exact h
  |_=>simp[zA0,AVal.fitsT] at hf
 |cons x y ihx ihy =>
  intro B τ vs hf h
  cases B with
  |cons x' y' =>
   simp only[zA2] at h
   obtain⟨h1,t1,us,ws,rfl,rfl,h2,h3⟩:=h
   simp only[zA0,AVal.fitsT,zD7,jB] at hf
   simp only[zA0,zA2]
   exact⟨_,_,_,_,rfl,rfl,ihx hf.1 h2,ihy hf.2 h3⟩
  |_=>simp[zA0,AVal.fitsT] at hf
 |_=>intro B τ vs hf h;cases B<;>simp[zA0,AVal.fitsT,zA2] at hf h
theorem yU:∀ {A B:AVal}{os:Option Nat}{v:Value},zA G w tm os A v→zA G w tm os (zA0 true A B) v:=by
 intro A
 induction A with
 |val τ' x =>
  intro B os v h
  cases B with
  |val τ2 y =>
   simp only[zA0]
   split
   ·exact h
   ·simp only[zA]
  |nil=>cases τ'<;>simp only[zA0,jE,zA];exact h
  |agg f b =>
   cases τ'<;>simp only[zA0,jE,zA]
   split
   ·exact h
   ·simp only[zA]
  |own t l T m =>
   simp only[zA0,voA]
   cases m with
   |true=>simp only[jE,zA]
   |false =>
    simp only[jD]
    split
    ·exact h
    ·simp only[zA]
  |_=>cases τ'<;>simp only[zA0,zA]
 |nil =>
  intro B os v h
  simp only[zA] at h
  subst h
  cases B with
  |nil=>simp only[zA0,zA]
  |val τ2 y =>
   cases τ2<;>simp only[zA0,jE]<;>first|exact zL5 yB2|simp only[zA]
  |own t l T m =>
   simp only[zA0]
   generalize hp:(t.plain&&!t.isL)=b
   cases b with
   |false=>simp only[jD,zA]
   |true=>simp only[jE,zA];exact zV3 hp
  |_=>simp only[zA0,zA]
 |own t l T m =>
  intro B os v h
  cases B with
  |nil =>
   simp only[zA0]
   cases (t.plain&&!t.isL) with
   |false=>simp only[jD,zA]
   |true=>simp only[jE];exact h
  |own t' l' T' m' =>
   simp only[zA0]
   cases (Nat.beq T T'&&(m==m')) with
   |false=>simp only[jD,zA]
   |true =>
    simp only[jE]
    split
    ·exact h
    ·simp only[zA]
  |val τ2 y =>
   simp only[zA0,ovA]
   cases m with
   |true=>simp only[jE,zA]
   |false =>
    simp only[jD]
    split
    ·simp only[zA] at h
     exact zL5 (zD1 h)
    ·simp only[zA]
  |_=>simp only[zA0,zA]
 |box τ x _ =>
  intro B os v h
  cases B with
  |box τ' y =>
   simp only[zA0]
   generalize hb:(Ty.beq τ τ'&&AVal.fits τ (zA0 true x y))=b
   cases b with
   |false=>simp only[jD,zA]
   |true =>
    simp only[jB] at hb
    simp only[jE]
    cases os with
    |none=>simp only[zA] at h
    |some s =>
     simp only[zA] at h ⊢
     obtain⟨h1,h2,cur,e,h3,h4,h5⟩:=h
     exact⟨h1,h2,cur,e,h3,yF2 hb.2 h4,h5⟩
  |_=>simp only[zA0,zA]
 |ref s τ p =>
  intro B os v h
  cases p with
  |nil =>
   cases B with
   |ref s' τ' p' =>
    cases p' with
    |nil =>
     simp only[zA0]
     cases (Nat.beq s s'&&Ty.beq τ τ') with
     |false=>simp only[jD,zA]
     |true=>simp only[jE];exact h
    |cons _ _=>simp only[zA0,zA]
   |_=>simp only[zA0,zA]
  |cons _ _=>cases B<;>simp only[zA0,zA]
 |nl =>
  intro B os v h
  cases B with
  |nl=>exact h
  |_=>simp only[zA0,zA]
 |cons x y ihx ihy =>
  intro B os v h
  cases B with
  |cons x' y' =>
   simp only[zA] at h
   obtain⟨u,us,rfl,h1,h2⟩:=h
   simp only[zA0,zA]
   exact⟨u,us,rfl,ihx h1,ihy h2⟩
  |_=>simp only[zA0,zA]
 |agg f x _ =>
  intro B os v h
  cases B with
  |agg f' b =>
   simp only[zA0]
   generalize hb:(Ty.beq f f'&&AVal.fits f (zA0 true x b))=bb
   cases bb with
   |false=>simp only[jD,zA]
   |true =>
    simp only[jB] at hb
    simp only[jE,zA] at h ⊢
    obtain⟨vs,h1,h2⟩:=h
    exact⟨vs,h1,yF2 hb.2 h2⟩
  |val τ2 y =>
   cases τ2<;>simp only[zA0,zA]
   split
   ·rename_i x' hx
    simp only[zA,jE]
    exact zH9 hx rfl (zL9 h (by intro _ _ e;cases e) (by intro e;cases e))
   ·simp only[zA]
  |_=>simp only[zA0,zA]
 |tup x ih =>
  intro B os v h
  cases B with
  |tup b=>simp only[zA0,zA] at h ⊢;exact ih h
  |_=>simp only[zA0,zA]
 |_=>intro B os v h;cases B<;>simp only[zA0,zA]
theorem yU0:∀ {A B:AVal}{os:Option Nat}{v:Value},zA G w tm os B v→zA G w tm os (zA0 false A B) v:=by
 intro A
 induction A with
 |val τ' x =>
  intro B os v h
  cases B with
  |val τ2 y =>
   simp only[zA0]
   split
   ·rename_i z hz
    obtain⟨e,hz⟩:=zD5 hz
    subst e;subst hz
    exact h
   ·simp only[zA]
  |nil =>
   simp only[zA] at h
   subst h
   cases τ'<;>simp only[zA0,jD]<;>first|exact zL5 yB2|simp only[zA]
  |agg f b =>
   cases τ'<;>simp only[zA0,jD,zA]
   split
   ·rename_i x' hx
    simp only[zA]
    exact zH9 hx rfl (zL9 h (by intro _ _ e;cases e) (by intro e;cases e))
   ·simp only[zA]
  |own t l T m =>
   simp only[zA0,voA]
   cases m with
   |true=>simp only[jE,zA]
   |false =>
    simp only[jD]
    split
    ·rename_i z hz
     obtain⟨e,hz⟩:=zD5 hz
     subst e;subst hz
     simp only[zA] at h
     exact zL5 (zD1 h)
    ·simp only[zA]
  |_=>cases τ'<;>simp only[zA0,zA]
 |nil =>
  intro B os v h
  cases B with
  |nil=>exact h
  |val τ2 y=>cases τ2<;>simp only[zA0,jD,zA];exact h
  |own t l T m =>
   simp only[zA0]
   cases (t.plain&&!t.isL) with
   |false=>simp only[jD,zA]
   |true=>exact h
  |_=>simp only[zA0,zA]
 |own t l T m =>
  intro B os v h
  cases B with
  |nil =>
   simp only[zA] at h
   subst h
   simp only[zA0]
   generalize hp:(t.plain&&!t.isL)=b
   cases b with
   |false=>simp only[jD,zA]
   |true=>simp only[jE,jD,zA];exact zV3 hp
  |own t' l' T' m' =>
   simp only[zA0]
   generalize hb:(Nat.beq T T'&&(m==m'))=b
   cases b with
   |false=>simp only[jD,zA]
   |true =>
    simp only[jB,beq_iff_eq] at hb
    have e:=jC hb.1
    obtain⟨_,hb⟩:=hb
    subst e;subst hb
    simp only[jE]
    split
    ·rename_i z hz
     obtain⟨e,hz⟩:=yL3 hz
     subst e
     have:=eq_of_heq hz
     subst this
     exact h
    ·simp only[zA]
  |val τ2 y =>
   simp only[zA0,ovA]
   cases m with
   |true=>simp only[jE,zA]
   |false =>
    simp only[jD]
    split
    ·rename_i z hz
     obtain⟨e,hz⟩:=zD5 hz
     subst e;subst hz
     exact h
    ·simp only[zA]
  |_=>simp only[zA0,zA]
 |box τ x _ =>
  intro B os v h
  cases B with
  |box τ' y =>
   simp only[zA0]
   generalize hb:(Ty.beq τ τ'&&AVal.fits τ (zA0 false x y))=b
   cases b with
   |false=>simp only[jD,zA]
   |true =>
    simp only[jB] at hb
    have e:=Ty.eq_of_beq hb.1
    subst e
    simp only[jE]
    cases os with
    |none=>simp only[zA] at h
    |some s =>
     simp only[zA] at h ⊢
     obtain⟨h1,h2,cur,e,h3,h4,h5⟩:=h
     exact⟨h1,h2,cur,e,h3,yF3 hb.2 h4,h5⟩
  |_=>simp only[zA0,zA]
 |ref s τ p =>
  intro B os v h
  cases p with
  |nil =>
   cases B with
   |ref s' τ' p' =>
    cases p' with
    |nil =>
     simp only[zA0]
     generalize hb:(Nat.beq s s'&&Ty.beq τ τ')=b
     cases b with
     |false=>simp only[jD,zA]
     |true =>
      simp only[jB] at hb
      have e:=jC hb.1
      have e':=Ty.eq_of_beq hb.2
      subst e;subst e'
      exact h
    |cons _ _=>simp only[zA0,zA]
   |_=>simp only[zA0,zA]
  |cons _ _=>cases B<;>simp only[zA0,zA]
 |nl =>
  intro B os v h
  cases B with
  |nl=>exact h
  |_=>simp only[zA0,zA]
 |cons x y ihx ihy =>
  intro B os v h
  cases B with
  |cons x' y' =>
   simp only[zA] at h
   obtain⟨u,us,rfl,h1,h2⟩:=h
   simp only[zA0,zA]
   exact⟨u,us,rfl,ihx h1,ihy h2⟩
  |_=>simp only[zA0,zA]
 |agg f x _ =>
  intro B os v h
  cases B with
  |agg f' b =>
   simp only[zA0]
   generalize hb:(Ty.beq f f'&&AVal.fits f (zA0 false x b))=bb
   cases bb with
   |false=>simp only[jD,zA]
   |true =>
    simp only[jB] at hb
    have e:=Ty.eq_of_beq hb.1
    subst e
    simp only[jE,zA] at h ⊢
    obtain⟨vs,h1,h2⟩:=h
    exact⟨vs,h1,yF3 hb.2 h2⟩
  |val τ2 y =>
   cases τ2<;>simp only[zA0,zA]
   split
   ·exact h
   ·simp only[zA]
  |_=>simp only[zA0,zA]
 |tup x ih =>
  intro B os v h
  cases B with
  |tup b=>simp only[zA0,zA] at h ⊢;exact ih h
  |_=>simp only[zA0,zA]
 |_=>intro B os v h;cases B<;>simp only[zA0,zA]
def St.hasCut (d:St):Bool:=d.any fun e=>Nat.beq e.1 zA9
theorem yI {g:Bool}{d1 d2:St}{s:Nat}:∀ {ks:St}{R:St},(yG8 g d1 d2 S ks++R).get s=.junk∨(yG8 g d1 d2 S ks++R).get s=zA0 g ((d1++S).get s) ((d2++S).get s) ∨
  (St.has s ks=false∧St.hasCut ks=false∧(yG8 g d1 d2 S ks++R).get s=R.get s):=by
 intro ks
 induction ks with
 |nil=>intro R;exact .inr (.inr ⟨rfl,rfl,rfl⟩)
 |cons e r ih =>
  intro R
  obtain⟨k,A⟩:=e
  simp only[yG8,List.cons_append,St.get]
  cases hk:Nat.beq k s with
  |true =>
   have:=jC hk
   subst this
   simp only[jE]
   cases Nat.beq k zA9 with
   |true=>exact .inl rfl
   |false=>exact .inr (.inl rfl)
  |false =>
   simp only[jD]
   cases hc:Nat.beq k zA9 with
   |true=>exact .inl rfl
   |false =>
    simp only[jD]
    rcases ih (R:=R) with h|h|⟨h1,h2,h3⟩
    ·exact .inl h
    ·exact .inr (.inl h)
    ·refine .inr (.inr ⟨?_,?_,h3⟩)
     ·simp only[St.has,List.any_cons,hk,Bool.false_or] at h1 ⊢;exact h1
     ·simp only[St.hasCut,List.any_cons,hc,Bool.false_or] at h2 ⊢;exact h2
theorem yW9 {d1 d2:St}{s:Nat}(h1:St.has s (yC3 d1++(yC3 d2++(zK0 d1++zK0 d2)))=false)(h2:St.hasCut (yC3 d1++(yC3 d2++(zK0 d1++zK0 d2)))=false) :
  (d1++S).get s=S.get s∧(d2++S).get s=S.get s:=by
 have hc:∀ d:St,(∀ e∈d,e∈d1∨e∈d2)→(∀ e∈d,e.1≠zA9)∧St.has s d=false:=by
  intro d hd
  have key:∀ e∈d,e.1≠zA9∧Nat.beq e.1 s=false:=by
   intro e he
   simp only[St.has,St.hasCut,List.any_eq_false,List.mem_append,yC3,zK0,List.mem_filter] at h1 h2
   have hcut:e.1≠zA9:=by
    intro ec
    have hb:Nat.beq e.1 zA9=true:=by rw[ec];exact Nat.beq_refl _
    rcases hd e he with h|h
    ·exact h2 e (.inr (.inr (.inl ⟨h,hb⟩))) hb
    ·exact h2 e (.inr (.inr (.inr ⟨h,hb⟩))) hb
   have hb:(!(Nat.beq e.1 zA9))=true:=by
    cases hx:Nat.beq e.1 zA9 with
    |false=>rfl
    |true=>exact absurd (jC hx) hcut
   refine⟨hcut,?_⟩
   rcases hd e he with h|h
   ·exact Bool.eq_false_iff.2 (h1 e (.inl ⟨h,hb⟩))
   ·exact Bool.eq_false_iff.2 (h1 e (.inr (.inl ⟨h,hb⟩)))
  refine⟨fun e he=>(key e he).1,?_⟩
  simp only[St.has,List.any_eq_false]
  intro e he
  simp[(key e he).2]
 obtain⟨a1,a2⟩:=hc d1 fun e h=>.inl h
 obtain⟨b1,b2⟩:=hc d2 fun e h=>.inr h
 exact⟨zQ4 a1 a2,zQ4 b1 b2⟩
theorem zO5 {d1 d2:St}(hR:Rel n χ0 w0 (d1++S) a w G):Rel n χ0 w0 (zL0 true d1 d2 S++S) a w G:=by
 refine⟨hR.len,hR.defers,fun s=>?_,hR.frame,hR.glob⟩
 have h:=hR.reps s
 unfold zL0
 rcases yI (g:=true) (d1:=d1) (d2:=d2) (S:=S) (s:=s) (ks:=yC3 d1++(yC3 d2++(zK0 d1++zK0 d2))) (R:=S) with e|e|⟨e1,e2,e⟩
 ·rw[e];simp only[zA]
 ·rw[e];exact yU h
 ·rw[e,← (yW9 e1 e2).1];exact h
theorem zO6 {d1 d2:St}(hR:Rel n χ0 w0 (d2++S) a w G):Rel n χ0 w0 (zL0 false d1 d2 S++S) a w G:=by
 refine⟨hR.len,hR.defers,fun s=>?_,hR.frame,hR.glob⟩
 have h:=hR.reps s
 unfold zL0
 rcases yI (g:=false) (d1:=d1) (d2:=d2) (S:=S) (s:=s) (ks:=yC3 d1++(yC3 d2++(zK0 d1++zK0 d2))) (R:=S) with e|e|⟨e1,e2,e⟩
 ·rw[e];simp only[zA]
 ·rw[e];exact yU0 h
 ·rw[e,← (yW9 e1 e2).2];exact h
end Go.Am
