/- The abstract machine, part 3: a typed interpreter for the program's code, and that it is sound. No condition. -/
import Derived.Test.YtkmmjpnfhaecdaaGreatDoorMach2
import Derived.Orders
import Derived.Lib.Bytealg
import Derived.ProofKit
import Derived.Carry
namespace Go.Am
open Go Go.RowKit
open Go.Region (binds ready wanted)
open Go.World (cell?)
open _root_.Int (toNat)
open _root_.List (all_eq_true any_cons any_eq_false any_eq_true append_assoc append_nil getD length map_cons map_map mem_append mem_append_left mem_append_right mem_cons range)
open _root_.Nat (ble blt le_of_not_lt)
variable {rd:Option Nat}{gtab:GlobTab}{P:Program}{c:Ctx}{G:Gh}{w:World}{tm:Array Value}{n:Nat}{χ0:Nat->Nat->Nat}{w0:World}{S:St}{a:Act}
def Gh.frozen (w:World):Gh:=⟨λb _=>if b<w.heap.size then 0 else 2,λ_=>0,λ_=>0⟩
theorem Ls{b o:Nat}(h:b<w.heap.size):(Gh.frozen w).χ b o=0:=by grind [Gh.frozen]
theorem Xc:∀b o,b<w.heap.size->G.χ b o=0->(Gh.frozen w).χ b o=0/\w.cell? ⟨b,o,none⟩=w.cell? ⟨b,o,none⟩:=λ_ _ h _=>⟨Ls h,rfl⟩
variable {t:Ty}{T:Nat}{v:Value}
theorem yR4(ht:t.isL=false){l:List t.den}{m:Bool}(h:BQ G w t l T m v):AP (Gh.frozen w).χ w (.sl t) l [v]:=by
 simp only[AP];rcases (EO h ht).2 with ⟨rfl,rfl⟩ | ⟨cap,cur,e,us,rfl,R,C,h4,h5,I,h7,h8⟩
 ·grind
 ·refine⟨_,cap,rfl,?_⟩;refine .inr ⟨G.γ T,0,us,rfl,C,Fg (λ_ _ J=>CX (χ:=G.χ) Xc J) I,λj u hu=>?_⟩
  grind [Ls,EZ,cell?]
theorem yR5:∀{A:AVal}{τ:Ty}{vs:List Value},AF G w τ A vs->(A.lent).laxT τ->AF (Gh.frozen w) w τ A.lent vs:=by
 intro A
 induction A with
 |val τ' x=>intro τ vs h _;simp[AVal.lent,AVal.mapOwn,AF] at h ⊢;grind [CX,Xc]
 |nil=>simp_all [AVal.lent,AVal.mapOwn,AF]
 |own t l T m =>
  intro τ vs h C;simp[AVal.lent,AVal.mapOwn] at h C ⊢;obtain⟨rfl,v,rfl,I⟩:=h;cases ht:t.isL with
  |true=>exact⟨rfl,v,rfl,WO I⟩
  |false=>simp only[jD,AF];exact⟨trivial,rfl,yR4 ht I⟩
 |agg f b ih =>
  have e:(AVal.agg f b).lent=cond (b.lent.laxT f) (.agg f b.lent) (.junk):=rfl
  grind [AVal.laxT,Ty.isSl,AF]
 |nl=>simp_all [AVal.lent,AVal.mapOwn,AF]
 |junk=>simp_all [AVal.lent,AVal.mapOwn,AF]
 |cons x y kZ kV =>
  intro τ vs h C;obtain⟨h1,t1,us,ws,rfl,rfl,J,R⟩:=h;have e:(AVal.cons x y).lent=.cons x.lent y.lent:=rfl;rw[e] at C ⊢;simp[AVal.laxT,GU] at C;exact⟨_,_,us,ws,rfl,rfl,kZ J C.1,kV R C.2⟩
 |_=>grind [AF]
variable {i:Nat}
theorem xL8{Y k:AVal}{kv:Value}(J:zA G w tm none Y v)(R:∀s,zD Y=some s->zA G w tm (some s) k kv):zA (Gh.frozen w) w #[] (some i) (Jp Y k) v:=by
 have hp:∀b o,b<w.heap.size->G.χ b o=0->(Gh.frozen w).χ b o=0/\w.cell? ⟨b,o,none⟩=w.cell? ⟨b,o,none⟩:=Xc;cases Y with
 |val τ x=>grind [Jp,zA,Gz]
 |nil=>grind [Jp,zA]
 |own t l T m =>
  grind [Jp,zA,Lo,yR4]
 |ownh t l T j U m =>
  simp only[Jp];cases hTU:(Nat.beq T U&&!m) with
  |false=>simp[zA]
  |true =>
   obtain⟨km,⟨_,⟨_,x,ad,cap,rfl,rfl,h3⟩ | ⟨hm,_⟩⟩ | ⟨kh,_⟩⟩:=J
   rotate_left
   ·grind
   rotate_right
   ·refine Lo ?_;refine⟨ad,cap,rfl,?_⟩;rcases h3 with rfl|⟨o,us,cur,e,rfl,g2,g3,g4,g5,g6⟩
    ·grind
    ·exact .inr ⟨G.γ T,o,us,rfl,g2,Fg (λ_ _ I=>CX (χ:=G.χ) Xc I) g4,λj u hu=>⟨by grind [cell?],Ls (EZ g3)⟩⟩
   simp_all
 |agg f d =>
  simp only[Jp];split
  ·rename_i x C;have kl:=NF C;simp[AVal.fitsT] at kl;exact I3 (G:=Gh.frozen w) (tm:=#[]) C rfl (by grind [zA,yR5,Pv])
  grind [zA]
 |fn f cs =>
  grind [Jp,zA,yF3]
 |ref s τ p =>
  cases p with
  |nil =>
   cases k with
   |box τ' k =>
    simp only[Jp];cases hb:Ty.beq τ' τ with
    |false=>simp[zA]
    |true =>
     have e:=Ty.eq_of_beq hb;subst e;split
     ·rename_i x C;obtain⟨km,cur,e,g1,g2,g3⟩:=NG (R s rfl);simp only[zA] at J;have hv:v=.pointer (some ⟨G.β s,0,none⟩):=by grind [Ty.poff]
      rw[hv];have I:=Kb (G:=Gh.frozen w) C (yR5 g2 (Pv (NF C)));exact SU I (λj u hu=>⟨by grind [cell?],Ls (EZ g1)⟩)
     grind [zA]
   |_=>grind [Jp,zA]
  |cons _ _=>simp[Jp,zA]
 |_=>simp[Jp,zA]
variable {χ':Nat->Nat->Nat}{w':World}
theorem s7{χ:Nat->Nat->Nat}{w:World}:∀{τ:Ty}{x:τ.den}{vs:List Value},τ.noMem->AP χ w τ x vs->AP χ' w' τ x vs:=by
 intro τ
 induction τ with
 |int k=>intro x vs _ C;exact C
 |bool=>intro x vs _ C;exact C
 |str=>intro x vs _ C;exact C
 |nl=>intro x vs _ C;exact C
 |cons a b J hb=>intro x vs I C;simp[Ty.noMem] at I;obtain⟨us,ws,rfl,R,h2⟩:=C;exact⟨us,ws,rfl,J I.1 R,hb I.2 h2⟩
 |st f hf=>intro x vs I C;exact hf I C
 |arr n t ht=>intro x vs I C;exact⟨C.1,Fg (λ_ _ h=>ht I h) C.2⟩
 |sl t ht=>grind [Ty.noMem]
 |ptr t ht=>grind [Ty.noMem]
def Gh.unlend (G G':Gh)(b0:Nat):Gh:={ G' with χ:=λb o=>if b<b0 then (G.callee []).χ b o else G'.χ b o }
theorem xE6{χ:Nat->Nat->Nat}{w:World}{k v:Ty}(C:k.noMem)(hv:v.noMem):∀{l:List (k.den×v.den×Unit)}{es:List MapEntry},I0 χ w k v l es->I0 χ' w' k v l es:=by
 intro l
 induction l with
 |nil=>intro es h;exact h
 |cons x l I=>rintro es ⟨e,r,rfl,⟨J,a2,a3⟩,⟨R,b2,b3⟩,h3⟩;exact⟨e,r,rfl,⟨J,s7 C a2,a3⟩,⟨R,s7 hv b2,b3⟩,I h3⟩
variable {G':Gh}
theorem xS1(hF:Frame0 (Gh.frozen w).χ w G'.χ w'):∀{A:AVal}{v:Value},A.scal->zA G' w' #[] none A v->zA (G.unlend G' w.heap.size) w' #[] none A v:=by
 intro A
 induction A with
 |val τ x=>intro v C h;obtain⟨vs,I,J⟩:=h;exact⟨vs,s7 C I,J⟩
 |nil=>grind [zA]
 |own t l T m =>
  intro v C h;simp only[AVal.scal] at C;rcases h with h|⟨R,hM⟩
  rotate_left
  ·refine .inr ⟨R,?_⟩;obtain⟨k,e,l',ht,hl,es,clock,I,J,h3,h4⟩:=hM;have gx:¬G'.γ T<w.heap.size:=by
    intro hb;have h9:=(hF.cell _ 0 hb (by grind [Ls])).1
    grind [Ls,DG]
   subst ht;simp only[Ty.noMem,jB] at C;refine⟨k,e,l',rfl,hl,es,clock,I,J,xE6 C.1 C.2.1 h3,λo=>?_⟩;simp_all [Gh.unlend,if_neg]
  refine .inl ⟨h.1,?_⟩;rcases h.2 with h|⟨cap,cur,e,us,I,J,h3,h4,h5,h6,h7,h8⟩
  ·grind
  ·have gx:¬G'.γ T<w.heap.size:=by
    intro hb;have h9:=(hF.cell _ (l.length*t.size) hb (by grind [Ls])).1;rw[Ls hb,h8,if_neg (by omega)] at h9
    grind [DG]
   refine .inr ⟨cap,cur,e,us,I,J,h3,h4,h5,Fg (λ_ _ hc=>s7 C hc) h6,h7,λo=>?_⟩;simp_all [Gh.unlend,if_neg]
 |tup b ih=>grind [AVal.scal,zA]
 |nl=>grind [zA]
 |cons x y kZ kV=>grind [AVal.scal,zA]
 |_=>grind [AVal.scal]
theorem yV6(C:Frame0 (Gh.frozen w).χ w G'.χ w'):Back G w [] (G.unlend G' w.heap.size) w':=by
 refine⟨⟨C.os,C.tape,C.output,C.size,λb hb _=>C.block b hb (λo=>by grind [Ls]),λb o hb _=>⟨by simp_all [Gh.unlend],(C.cell b o hb (by grind [Ls])).2⟩⟩,λb hb=>?_⟩
 grind [FK,G4]
variable {o:Oper}{fo:Operand}{args:Array Operand}{ats:Array TypeId}{f:Nat}{cs:AVal}{r:List AVal}{u:St}{hv:Bool}{next:Act->World->Prop}
theorem yG6(J:CtxOk P c)(R:Rel c.n χ0 w0 S a w G){p:List Prop}
  (ho:o.op=.call { callee:=.value fo,args,argTypes:=ats }) (hf:zA G w a.tmps none (.fn f cs) (a.eval fo)) (hr:C2 (zA G w a.tmps none) r (args.toList.map a.eval)) (kr:Iw cs=true)
  (h:yB c o.dst f (r++cs.toL) ((r++cs.toL).map (C6 S)) S=some (p,u,hv))
  (C:∀e∈u,e.1<c.n) (hh:∀s,∀e∈u,(S.get s).hung e.1=false) (hp:∀q∈p,q)
  {Q:Exit->Act->World->Prop}(hZ:∀v w' G',Rel c.n χ0 w0 (u++S) (a.put o.dst v) w' G'->next (a.put o.dst v) w'):o.wpIn (fz rd) 0 P a w next Q:=by
 obtain⟨vs,tu,nk⟩:=hf;have ko:=WZ (vs:=vs.toList) kr (by simpa using nk);have gC:=Xa hr ko;unfold yB at h;split at h
 ·grind
 ·rename_i co nv;split at h
  ·rename_i d qb hd;obtain⟨sp,gI,I⟩:=zO7 nv;have kf:=J.fns f sp gI;obtain⟨fn,h1,h2,h3⟩:=kf.1;have ke:(execOp a.eval o).run P w=.ok (.enter f (args.toList.map a.eval++vs.toList).toArray) w:=by
    have gE:(args.toList.map a.eval++vs.toList).toArray=args.map a.eval++vs:=by grind
    unfold execOp;simp[ho,resolve,tu,Deferred.ofValue,invoke,callFunc,h1]
    grind
   generalize tw:args.toList.map a.eval++vs.toList=vals at gC ke;generalize qy:(_&&BY (300000+d) S)=bb at h;cases bb with
   |false=>grind
   |true =>
    simp  at qy;obtain⟨⟨⟨⟨⟨b1,b2⟩,b3⟩,b4⟩,b5⟩,b6⟩:=qy;obtain⟨rfl,rfl,_⟩:=h;refine Tb ke ((kf.2 _ co I hp (Gh.frozen w) w vals (by grind [NJ]) (NA (χ:=G.χ) Xc R.glob) (λi A v hA hv=>?_)).mono ?_)
    ·obtain⟨Y,k,hY,hk,rfl⟩:=yA hA;exact xL8 (kv:=match zD Y with|some s=>a.tmps.getD s undef|none=>undef) (P2 gC hY hv) (λs hs=>by grind [NL])
    ·rintro e w' ⟨v,G',rfl,hF,kY,_⟩;refine⟨v,rfl,hZ v w' (G.back (G.unlend G' w.heap.size) w.heap.size (some d)) ?_⟩;rw[hd];refine yM7 (dst:=some d) (res:=co.res) (ys:=[]) (u:=[]) R J.n (yV6 hF) (xS1 hF b2 kY) b1 (λb hb=>by grind [FK,G4]) (λe he=>by grind) C
      (λs d' e=>by grind [jQ]) (λd' e s j hj=>?_)
     grind [Mc]
  grind
theorem yV7(I:CtxOk P c)(J:Rel c.n χ0 w0 S a w G){p:List Prop}
  (ho:o.op=.call { callee:=.value fo,args,argTypes:=ats }) (hf:zA G w a.tmps none (.fn f cs) (a.eval fo)) (hr:C2 (zA G w a.tmps none) r (args.toList.map a.eval)) (kr:Iw cs=true)
  (h:SE c o.dst f (r++cs.toL) S=some (p,u,hv))
  (hlt:∀e∈u,e.1<c.n) (hh:∀s,∀e∈u,(S.get s).hung e.1=false) (hp:∀q∈p,q)
  {Q:Exit->Act->World->Prop}(hZ:∀v w' G',Rel c.n χ0 w0 (u++S) (a.put o.dst v) w' G'->next (a.put o.dst v) w'):o.wpIn (fz rd) 0 P a w next Q:=by
 obtain⟨vs,tu,nk⟩:=hf;have ko:=WZ (vs:=vs.toList) kr (by simpa using nk);have gC:=Xa hr ko;generalize hysd:r++cs.toL=ys at h gC;unfold SE at h;split at h
 ·rename_i t x T i U d hd;generalize qy:(_&&BY d S)=bb at h;cases bb with
  |false=>grind
  |true =>
   simp only[jB,any_eq_true] at qy;obtain⟨⟨b1,⟨f',k'⟩,hm,b2⟩,b3⟩:=qy;have e:=jC b1;subst e;have e:=jC b2.1;subst e;have e:=jC b2.2;subst e;obtain⟨rfl,rfl,_⟩:=h;obtain⟨q1,q2⟩:=hp _ (jH.2 rfl);obtain⟨iC,kf⟩:=I.clones f' t.size hm;obtain⟨fn,h1,h2,h3⟩:=iC;have ke:(execOp a.eval o).run P w=.ok (.enter f' (args.toList.map a.eval++vs.toList).toArray) w:=by
    have gE:(args.toList.map a.eval++vs.toList).toArray=args.map a.eval++vs:=by grind
    unfold execOp;simp[ho,resolve,tu,Deferred.ofValue,invoke,callFunc,h1]
    grind
   generalize tw:args.toList.map a.eval++vs.toList=vals at gC ke;obtain⟨v,rfl⟩:∃v,vals=[v]:=by
    have:=NJ gC
    match vals,this with
    |[v],_=>exact⟨v,rfl⟩
   have hA:=P2 gC (i:=0) rfl rfl;obtain⟨km,⟨_,⟨_,y,ad,cap,hy,rfl,h4⟩ | ⟨hm,_⟩⟩ | ⟨kh,_⟩⟩:=hA
   rotate_left
   ·grind
   rotate_right
   ·simp  at hy;subst hy;rcases h4 with rfl|⟨o',us,cur,e,rfl,g2,g3,g4,g5,g6⟩
    ·grind
    ·have iq:=Gy (k:=t.size) (λ_ _ h=>CO h) g4;refine Tb ke ((kf (G.γ T) o' _ cap cur e us w q1 (by omega) g2 iq (Px (λ_ _ h=>NI h) g4) g3 g5).mono ?_);rintro e' w' ⟨B,cap',cells,ty,rfl,z1,z2,z3,z4,z5,z6⟩;obtain⟨hx,C,kW⟩:=xW3 (d:=d) J.frame km g4 z2 z1 z3 z4 z5 z6;have htd:∀R:St,CW d (AVal.lose d) S R=[]:=by
      intro R
      induction R with
      |nil=>rfl
      |cons e r ih=>obtain⟨s,A⟩:=e;simp[CW,Mc b3 s,ih]
     have:=r7 (d:=d) (U:=d) (R:=.own t x d true) J I.n b3 hx C (λtm=>by exact kW) (by grind) (λs=>hh s _ (jH.2 rfl))
     grind
   ·exact absurd rfl kh
 grind
variable {gd:Gd}
theorem xL9{d:Nat}{l:List t.den}{m:Bool}(hlen:a.tmps.size=n)(R:d<n)(J:J0 a.tmps gd)(gf:Gm a.tmps gd)(hA:(EB gd (.own t l T m)).hung d=false)
  (h:Rel n χ0 w0 ([(d,.own t l T m)]++S) (a.put (some d) v) w' G'):Rel n χ0 w0 ([(d,EB gd (.own t l T m))]++S) (a.put (some d) v) w' G':=by
 refine⟨h.len,h.defers,λs=>?_,h.frame,h.glob⟩;have I:=h.reps s;by_cases e:d=s
 ·subst e;simp[St.get] at I ⊢;cases gd with
  |none=>exact I
  |some q =>
   obtain⟨C,want,g⟩:=q;have hg:g:=(J C want g rfl).1 (gf C want g rfl);have kh:C≠d:=by
    intro e;simp_all [EB,AVal.hung]
   refine⟨?_,λ_=>I,λe=>by grind⟩;rw[Gn (by grind),if_neg kh];exact J C want g rfl
 ·have hb:Nat.beq d s=false:=by
   grind [Nat.beq,absurd,jC]
  simp_all [St.get]
theorem yV8(hc:CtxOk P c)(R:Rel c.n χ0 w0 S a w G)(hi:J0 a.tmps gd)(gf:Gm a.tmps gd){p:List Prop}
  (ho:o.op=.call { callee:=.value fo,args,argTypes:=ats }) (hf:zA G w a.tmps none (.fn f cs) (a.eval fo)) (hr:C2 (zA G w a.tmps none) r (args.toList.map a.eval)) (kr:Iw cs=true)
  (h:xI c gd o.dst f (r++cs.toL) S=some (p,u,hv))
  (J:∀e∈u,e.1<c.n) (hh:∀s,∀e∈u,(S.get s).hung e.1=false) (ql:∀e∈u,∀e'∈u,e.2.hung e'.1=false) (hp:∀q∈p,q)
  {Q:Exit->Act->World->Prop}(hZ:∀v w' G',Rel c.n χ0 w0 (u++S) (a.put o.dst v) w' G'->next (a.put o.dst v) w'):o.wpIn (fz rd) 0 P a w next Q:=by
 unfold xI at h;split at h
 ·rename_i p0 d t l T m _ C;obtain⟨rfl,rfl,_⟩:=h;have I:o.dst=some d:=by
   unfold yB at C;split at C
   ·grind
   ·split at C
    ·generalize (_&&BY _ S)=bb at C;cases bb with
     |false=>cases C
     |true =>
      simp  at C;obtain⟨_,⟨rfl,_⟩,_⟩:=C;assumption
    grind
  have hd:d<c.n:=J _ (jH.2 rfl);refine yG6 hc R ho hf hr kr C (λe he=>by grind) (λs e he=>by simp_all) (WX hi gf hp) (λv w' G' h'=>?_);refine hZ v w' G' ?_;rw[I] at h' ⊢;exact xL9 R.len hd hi gf (ql _ (jH.2 rfl) _ (jH.2 rfl)) h'
 grind
theorem yA1{ys:List AVal}{q:List Prop×AVal}:∀{exts:List (Nat×(List AVal->Option (List Prop×AVal)))},WA exts f ys=some q->∃e,(f,e)∈exts/\e ys=some q:=by
 intro exts
 induction exts with
 |nil=>grind [WA]
 |cons x r C =>
  intro h;obtain⟨g,e⟩:=x;simp only[WA] at h;cases I:Nat.beq g f with
  |false=>grind
  |true=>simp_all
theorem xM(I:CtxOk P c)(hR:Rel c.n χ0 w0 S a w G)(hi:J0 a.tmps gd)(gf:Gm a.tmps gd){p:List Prop}
  (ho:o.op=.call { callee:=.value fo,args,argTypes:=ats }) (hf:zA G w a.tmps none (.fn f cs) (a.eval fo)) (hr:C2 (zA G w a.tmps none) r (args.toList.map a.eval)) (kr:Iw cs=true)
  (h:zU c gd o.dst f (r++cs.toL)=some (p,u,hv))
  (C:∀e∈u,e.1<c.n) (hh:∀s,∀e∈u,(S.get s).hung e.1=false) (ql:∀e∈u,∀e'∈u,e.2.hung e'.1=false) (hp:∀q∈p,q)
  {Q:Exit->Act->World->Prop}(hZ:∀v w' G',Rel c.n χ0 w0 (u++S) (a.put o.dst v) w' G'->next (a.put o.dst v) w'):o.wpIn (fz rd) 0 P a w next Q:=by
 obtain⟨vs,tu,nk⟩:=hf;have ko:=WZ (vs:=vs.toList) kr (by simpa using nk);have gC:=Xa hr ko;have ke:∀v,(callFunc f (args.toList.map a.eval++vs.toList).toArray).run P w=.ok (.value v) w->(execOp a.eval o).run P w=.ok (.value v) w:=by
  have gE:(args.toList.map a.eval++vs.toList).toArray=args.map a.eval++vs:=by grind
  grind [execOp,resolve,Deferred.ofValue,invoke]
 unfold zU at h;split at h
 ·rename_i p0 τ x d he J;obtain⟨e,hm,he⟩:=yA1 he;obtain⟨rfl,rfl,rfl⟩:=h;obtain⟨v,R,h2⟩:=I.exts f e hm _ _ _ he (WX hi gf hp) G w a.tmps _ gC;refine Md (ke v R) (hZ v w G ?_);rw[J];exact WV hR I.n (C (d,EB gd (.val τ x)) (by simp)) (λs=>hh s (d,EB gd (.val τ x)) (by simp)) (ql (d,EB gd (.val τ x)) (by simp) (d,EB gd (.val τ x)) (by simp)) (WW hi gf h2)
 ·rename_i p0 b d he J;obtain⟨e,hm,he⟩:=yA1 he;split at h
  ·generalize qy:(_&&!(b.hung d))=bb at h;cases bb with
   |false=>grind
   |true =>
    obtain⟨rfl,rfl,rfl⟩:=h;obtain⟨v,R,h2⟩:=I.exts f e hm _ _ _ he hp G w a.tmps _ gC;refine Md (ke v R) (hZ v w G ?_);rw[J];exact WV hR I.n (C (d,.tup b) (by simp)) (λs=>hh s (d,.tup b) (by simp)) (ql (d,.tup b) (by simp) (d,.tup b) (by simp)) h2
  grind
 grind
variable {rd:Option Nat}{gtab:GlobTab}{P:Program}{c:Ctx}{G:Gh}{w:World}{tm:Array Value}{n:Nat}{χ0:Nat->Nat->Nat}{w0:World}{S:St}{a:Act}
variable {s:Nat}{b:Bool}
theorem xM0{tm:Array Value}:tm.getD s undef=.bool b↔tm[s]?=some (.bool b):=by
 simp;cases h:tm[s]? with
 |none=>simp[undef]
 |some v=>simp
theorem xE7{ops:Array Oper}{tm:Array Value}{j:Nat}(h:(ops.toList.map (·.dst))[j]?=some (some s)):(yielded ops tm j==some b)=true↔tm.getD s undef=.bool b:=by
 grind [bind,xM0,yielded]
theorem yR6{ops:Array Oper}(h:Lh (ops.toList.map (·.dst)) S o.guard=some gd) :
  wanted o (yielded ops a.tmps)=true↔Gm a.tmps gd:=by
 unfold wanted
 grind [Lh,jA,Gm,xE7]
theorem xM1{xs0 xs:List AVal}{p:List Prop}(hgd:gd≠none)(h:LY c gd o S xs0 xs=some (p,u,hv)) :
  ∃d A,o.dst=some d/\u=[(d,EB gd A)]:=by
 cases gd with
 |none=>grind
 |some q =>
 unfold LY at h;split at h
 ·split at h
  ·unfold fX at h;split at h
   ·rename_i d C A B J;split at h
    ·split at h
     ·obtain⟨_,rfl,_⟩:=h;exact⟨d,_,J,rfl⟩
     grind
    grind
   grind
  grind
 ·grind
 ·grind
 ·split at h
  ·rename_i f cs r;cases kT:Iw cs with
   |false=>grind
   |true =>
    simp[kT,jE] at h;unfold fV at h;generalize R:zU c (some q) o.dst f (r++cs.toL)=y at h;cases y with
    |some q' =>
     simp[Jq] at h;subst h;unfold zU at R;split at R
     ·obtain⟨_,rfl,_⟩:=R;exact⟨_,_,by grind,rfl⟩
     all_goals grind
    |none =>
     simp only[Jq] at h;generalize kr:JW c (some q) o.dst f (r++cs.toL) ((r++cs.toL).map (C6 S)) S=x at h;cases x with
     |none =>
      unfold SF at h;simp only at h;unfold xI at h;split at h
      ·rename_i p0 d t l T m _ I;obtain⟨_,rfl,_⟩:=h;unfold yB at I;split at I
       ·grind
       ·split at I
        ·generalize (_&&BY _ S)=bb at I;cases bb with
         |false=>grind
         |true =>
          exact⟨_,_,by grind,rfl⟩
        grind
      grind
     |some q' =>
      simp  at h;subst h;unfold JW at kr;split at kr
      ·grind
      ·rename_i co nv;generalize (LV co.outs 0 _&&EI co.res&&_&&_)=b at kr;cases b with
       |false=>grind
       |true =>
        simp  at kr;split at kr
        ·split at kr
         ·obtain⟨_,rfl,_⟩:=kr;exact⟨_,_,by grind,rfl⟩
         grind
        grind
  grind
 ·grind
 ·unfold zK at h;split at h
  ·grind
  ·rename_i d J;split at h
   ·grind
   ·rename_i p' A hA;cases hf:Ib o.op with
    |true =>
     unfold N7 at h
     grind
    |false =>
     simp[hf] at h;obtain⟨_,rfl,_⟩:=h;exact⟨d,A,J,rfl⟩
theorem yV9(hc:CtxOk P c)(hR:Rel c.n χ0 w0 S a w G)(hi:J0 a.tmps gd)(gf:Gm a.tmps gd){p:List Prop}
  (h:LY c gd o S ((DI o.op).map (arg S)) (((DI o.op).map (arg S)).map (zF gd))=some (p,u,hv))
  (J:∀e∈u,e.1<c.n) (hh:∀s,∀e∈u,(S.get s).hung e.1=false) (ql:∀e∈u,∀e'∈u,e.2.hung e'.1=false) (hp:∀q∈p,q)
  {Q:Exit->Act->World->Prop}(hZ:∀v w' G',Rel c.n χ0 w0 (u++S) (a.put o.dst v) w' G'->next (a.put o.dst v) w'):o.wpIn (fz rd) 0 P a w next Q:=by
 have ku:=yZ6 hR gf (DI o.op);unfold LY at h;split at h
 ·split at h
  ·rename_i x y z I;rw[I] at h;exact xD1 hR hc.n hi gf I h J hh ql hZ
  grind
 ·split at h
  ·rename_i T x y A v hd I C;simp[DI] at C ku
   grind [C2,yV0]
  ·rename_i T x y z A k v hd I C;simp[DI] at C ku
   grind [C2,yN1]
  grind
 ·rename_i R;split at h
  ·rename_i d cl args ats A B hd I C;split at h
   ·rename_i T T' nz;cases hT:Nat.beq T T' with
    |false=>grind
    |true =>
     have:=jC hT;have ko:cl=.builtin .append:=by
      unfold Jr at R
      grind
     subst ko;rw[I] at C ku;simp only[DI] at C ku;rw[C] at ku;have:∃va vb,args.toList.map a.eval=[va,vb]/\zA G w a.tmps none A va/\zA G w a.tmps none B vb:=by
      generalize hm:args.toList.map a.eval=m at ku;cases m with
      |nil=>grind [C2]
      |cons va m =>
       cases m with
       |nil=>grind [C2]
       |cons vb m =>
        cases m with
        |nil=>exact⟨va,vb,rfl,ku.1,ku.2.1⟩
        |cons _ _=>grind [C2]
     grind [zY7]
   grind
  grind
 ·rename_i R;split at h
  ·rename_i f cs r C;cases kT:Iw cs with
   |false=>grind
   |true =>
    have:∃fo args ats,o.op=.call { callee:=.value fo,args,argTypes:=ats }:=by
     unfold Jr at R
     grind
    obtain⟨fo,args,ats,I⟩:=this;rw[I] at C ku;simp only[DI] at C ku;simp[C2] at ku;unfold fV at h;generalize hx:zU c gd o.dst f (r++cs.toL)=y at h;cases y with
    |some q' =>
     grind [Jq,jA,xM]
    |none =>
     simp only[Jq] at h;generalize kr:JW c gd o.dst f (r++cs.toL) ((r++cs.toL).map (C6 S)) S=x at h;cases x with
     |some q' =>
      grind [jA,xE0]
     |none =>
      unfold SF at h;cases gd with
      |some q=>grind [yV8]
      |none =>
       simp only[Jq] at h
       grind [yB,C6,jA,yG6,SE,yV7,yV5]
  grind
 ·split at h
  ·exact (hp False (by grind)).elim
  grind
 grind [xD3]
theorem zR4(hc:CtxOk P c)(hR:Rel c.n χ0 w0 S a w G){ops:Array Oper}(ho:ops[i]?=some o){p:List Prop}
  (h:JY c (ops.toList.map (·.dst)) o S=some (p,u,hv))
  (J:∀e∈u,e.1<c.n) (hh:∀s,∀e∈u,(S.get s).hung e.1=false) (ql:∀e∈u,∀R∈u,e.2.hung R.1=false) (hp:∀q∈p,q)
  {Q:Exit->Act->World->Prop}(hZ:∀v w' G',Rel c.n χ0 w0 (u++S) (a.put o.dst v) w' G'->next (a.put o.dst v) w'):wpOpIn (fz rd) 0 P ops Q i next a w:=by
 unfold JY at h;split at h
 ·grind
 ·rename_i gd I;have hi:=xC8 hR I;unfold wpOpIn;rw[ho];simp only;by_cases hw:wanted o (yielded ops a.tmps)=true
  ·grind [yV9,yR6]
  ·rw[if_neg hw];have iB:¬Gm a.tmps gd:=λe=>hw ((yR6 I).2 e);cases gd with
   |none=>grind [Gm]
   |some q =>
    obtain⟨s,want,g⟩:=q;obtain⟨d,A,hd,rfl⟩:=xM1 (by simp) h;have C:a.tmps.getD s undef≠.bool want:=λe=>iB (by intro s' want' g' R;obtain⟨rfl,rfl,rfl⟩:=R;exact e);rw[hd];have:=yM8 (A:=A) hR hc.n hi C (J _ (jH.2 rfl)) (λs=>hh s _ (jH.2 rfl)) (ql _ (jH.2 rfl) _ (jH.2 rfl));rw[<-hd] at this ⊢;exact⟨λ_ _=>trivial,hZ _ _ _ this⟩
variable {rd:Option Nat}{gtab:GlobTab}{P:Program}{c:Ctx}{G:Gh}{w:World}{tm:Array Value}{n:Nat}{χ0:Nat->Nat->Nat}{w0:World}{S:St}{a:Act}
variable {u':St}
theorem xS2(h:N8 c S u=some u')(I:Rel c.n χ0 w0 (u++S) a w G)(J:c.n<=BP)(C:∀e∈u',e.1<c.n):∃G',Rel c.n χ0 w0 (u'++S) a w G':=by
 unfold N8 at h;split at h
 ·rename_i d t l T r;generalize (Nat.beq T d&&!(c.wr.any (Nat.beq d)))=b at h;cases b with
  |false=>grind
  |true =>
   generalize ht:(BY T (r++S)&&!t.isL)=b at h;cases b with
   |false=>grind
   |true =>
    simp  at ht;simp  at h;subst h;exact xK6 I J (C _ (jQ ..)) ht.1 ht.2
 grind
theorem xM2(h:N8 c S u=some u'):u=u'\/∃d t l T r,u=(d,.own t l T true)::r/\u'=(d,.own t l T false)::r/\T=d/\BY T (r++S):=by
 unfold N8 at h;split at h
 ·rename_i d t l T r;generalize hb:(Nat.beq T d&&!(c.wr.any (Nat.beq d)))=b at h;cases b with
  |false=>grind
  |true =>
   simp only[jB] at hb;generalize ht:(BY T (r++S)&&!t.isL)=b at h;cases b with
   |false=>grind
   |true =>
    simp  at ht;simp  at h;exact .inr ⟨d,t,l,T,r,rfl,h.symm,jC hb.1,ht.1⟩
 grind
theorem yG7(R:CtxOk P c)(hR:Rel c.n χ0 w0 S a w G){ops:Array Oper}(ho:ops[i]?=some o){p:List Prop}
  (h:Js c (ops.toList.map (·.dst)) o S=some (p,u,hv))
  (C:∀e∈u,e.1<c.n) (hh:∀s,∀e∈u,(S.get s).hung e.1=false) (ql:∀e∈u,∀e'∈u,e.2.hung e'.1=false) (hp:∀q∈p,q)
  {Q:Exit->Act->World->Prop}(hZ:∀v w' G',Rel c.n χ0 w0 (u++S) (a.put o.dst v) w' G'->next (a.put o.dst v) w'):wpOpIn (fz rd) 0 P ops Q i next a w:=by
 unfold Js at h;split at h
 ·grind
 ·rename_i p0 u0 h0 gu;cases I:SG o.op with
  |false =>
   grind [zR4]
  |true =>
   simp[I,jE] at h;split at h
   ·rename_i u' gR;obtain⟨rfl,rfl,rfl⟩:=h;rcases xM2 gR with rfl|⟨d,t,l,T,r,rfl,rfl,_,_⟩
    ·grind [zR4]
    ·refine zR4 R hR ho gu (λe he=>?_) (λs e he=>?_) (λe he e' iV=>?_) hp λv w' G' J=>?_
     ·grind [jQ,jP]
     ·grind [jQ,jP]
     ·have hk:∀e∈((d,AVal.own t l T true)::r),∃e''∈((d,AVal.own t l T false)::r),e''.1=e.1/\∀q,e''.2.hung q=e.2.hung q:=by
       intro e he;rcases mem_cons.1 he with rfl|he
       ·exact⟨_,jQ ..,rfl,λq=>rfl⟩
       ·exact⟨e,jP _ he,rfl,λq=>rfl⟩
      grind
     ·obtain⟨G'',hR''⟩:=xS2 gR J R.n C
      grind
   grind
variable {rd:Option Nat}{gtab:GlobTab}{P:Program}{c:Ctx}{G:Gh}{w:World}{tm:Array Value}{n:Nat}{χ0:Nat->Nat->Nat}{w0:World}{S:St}{a:Act}
theorem s8{S':St}(h:∀s,S'.get s=S.get s)(C:Rel n χ0 w0 S a w G):Rel n χ0 w0 S' a w G:=
 ⟨C.len,C.defers,λs=>by rw[h];exact C.reps s,C.frame,C.glob⟩
def DR (ts:List Tr)(i:Nat):St:=match ts[i]? with|some t=>t.u|none=>[]
def exe (ts:List Tr):List Nat->St
 |[]=>[]
 |i::l=>DR ts i++exe ts l
def tex (ts:List Tr):Nat->St
 |0=>[]
 |k+1=>DR ts k++tex ts k
theorem zX{t:Tr}{ts:List Tr}:∀{k:Nat},tex (t::ts) (k+1)=tex ts k++t.u:=by
 intro k
 induction k<;>grind [tex,DR]
def Te [GlobTab] (c:Ctx)(dsts:List (Option Nat))(ops:List Oper)(S U:St)(ts:List Tr)(p:List Prop):Prop:=
 ∀i o,ops[i]?=some o->∃pi hv,Js c dsts o ((tex ts i++U)++S)=some (pi,DR ts i,hv)/\ts[i]?=some (FJ dsts o ((tex ts i++U)++S) (DR ts i) hv) /\
  (∀q∈pi,q∈p)/\(∀e∈DR ts i++(tex ts i++U),SH (DR ts i) e.2=false)/\(∀e∈DR ts i,e.1<c.n)
theorem xE8{dsts:List (Option Nat)}:∀{ops:List Oper}{U:St}{p:List Prop}{U':St}{ts:List Tr},fZ c dsts ops S U=some (p,U',ts) ->
  ts.length=ops.length/\U'=tex ts ops.length++U/\Te c dsts ops S U ts p:=by
 intro ops
 induction ops with
 |nil =>
  intro U p U' ts h;obtain⟨rfl,rfl,rfl⟩:=h;exact⟨rfl,rfl,λi o C=>by grind⟩
 |cons o r J =>
  intro U p U' ts h;unfold fZ at h;split at h
  ·grind
  ·rename_i R u hv gu;cases hb:((u++U).any (λe=>SH u e.2)||!(u.all λe=>blt e.1 c.n)) with
   |true=>simp only[hb,jE] at h;grind
   |false =>
    simp only[hb,jD] at h;split at h
    ·grind
    ·rename_i p' u' t' hr;simp only[jA,jG] at h;obtain⟨rfl,rfl,rfl⟩:=h;obtain⟨h1,h2,h3⟩:=J hr;simp only[jJ,Bool.not_eq_false',any_eq_false,all_eq_true] at hb;refine⟨by grind,by grind [List.length_cons,zX,FJ],λi o' C=>?_⟩;cases i with
     |zero =>
      simp only[List.getElem?_cons_zero,jA] at C;subst C;refine⟨R,hv,?_,?_,λq I=>mem_append_left _ I,λe he=>?_,λe he=>?_⟩
      ·grind [tex,DR,FJ]
      ·simp[tex,DR,FJ]
      ·grind [tex,DR,FJ]
      ·have:=hb.2 e (by simpa[DR,FJ] using he);simp_all
     |succ i =>
      simp only[List.getElem?_cons_succ] at C;obtain⟨pi,qi,q1,q2,q3,q4,q5⟩:=h3 i o' C;have e1:∀t:Tr,DR (t::t') (i+1)=DR t' i:=λt=>by simp[DR]
      refine⟨pi,qi,?_,?_,λq I=>mem_append_right _ (q3 q I),λe he=>?_,λe he=>?_⟩
      ·rw[zX,e1];simpa[FJ] using q1
      ·rw[zX,e1];simpa[FJ] using q2
      ·rw[zX,e1] at he;rw[e1];exact q4 e (by simpa[FJ] using he)
      ·rw[e1] at he;exact q5 e he
theorem P4:∀{A:AVal}{d:Nat},A.hasOpt=false->A.hung d=false:=by
 intro A
 induction A<;>grind [AVal.hasOpt,jJ,AVal.hung]
theorem Xd{A:AVal}(h:SH u A=false):∀e∈u,A.hung e.1=false:=by
 grind [SH,any_eq_false]
theorem zU6{q:AVal->Prop}(C:q .junk):∀{S:St}{s:Nat},(∀e∈S,q e.2)->q (S.get s):=by
 intro S
 induction S<;>grind [St.get]
section region
variable {ops:Array Oper}{ts:List Tr}{p:List Prop}
theorem yN2(R:CtxOk P c)(hF:Te c (ops.toList.map (·.dst)) ops.toList S [] ts p)(hS:∀e∈S,e.2.hasOpt=false)(hp:∀q∈p,q){i:Nat}{o:Oper}(ho:ops[i]?=some o)
  (hR:Rel c.n χ0 w0 (tex ts i++S) a w G){next:Act->World->Prop}{Q:Exit->Act->World->Prop}
  (hZ:∀v w' G',Rel c.n χ0 w0 (DR ts i++(tex ts i++S)) (a.put o.dst v) w' G'->next (a.put o.dst v) w'):wpOpIn (fz rd) 0 P ops Q i next a w:=by
 obtain⟨pi,hv,I,q2,q3,J,q5⟩:=hF i o (by grind);simp only[append_nil] at I q2 J;refine yG7 R hR ho I q5 (λs e he=>?_) (λe he C iV=>?_) (λq hq=>hp q (q3 q hq)) hZ
 ·refine zU6 (q:=λA=>A.hung e.1=false) rfl λC iV=>?_;rcases mem_append.1 iV with h|h
  ·exact Xd (J C (mem_append_right _ h)) e he
  ·exact P4 (hS C h)
 grind [Xd,mem_append_left]
theorem xS3{K:Act->Prop}(J:∀o∈ops.toList,∀a v,K a->K (a.put o.dst v))(R:CtxOk P c)(hF:Te c (ops.toList.map (·.dst)) ops.toList S [] ts p)(hS:∀e∈S,e.2.hasOpt=false)(hp:∀q∈p,q){Q:Exit->Act->World->Prop}
  (hQ:∀C w' G',Rel c.n χ0 w0 (tex ts ops.size++S) C w' G'->K C->Q .normal C w') :
  ∀k i,i+k=ops.size->∀a w G,Rel c.n χ0 w0 (tex ts i++S) a w G->K a->wpOpsIn (fz rd) 0 P ops Q (List.range' i k) a w:=by
 intro k
 induction k with
 |zero=>grind [wpOpsIn]
 |succ k ih =>
  intro i e a w G hR hk;have I:i<ops.size:=by omega
  refine yN2 R hF hS hp (Array.getElem?_eq_getElem I) hR λv w' G' hR'=>?_;refine ih (i+1) (by omega) _ _ G' ?_ (J _ (by simp) _ _ hk)
  grind [tex,append_assoc]
end region
variable {gtab:GlobTab}{P:Program}{c:Ctx}{S S':St}
theorem xS4{t:Nat}:∀{l:List Operand},Operand.tmp t∈l->t∈N3 l:=by intro l;induction l with|nil=>grind|cons y l I=>intro C;rcases mem_cons.1 C with rfl|C;simp[N3];cases y<;>simp[N3]<;>first|grind|grind
theorem xM3{x:Operand}{l:List Operand}(C:x∈l)(h:∀r∈N3 l,S'.get r=S.get r):arg S' x=arg S x:=by cases x<;>grind [arg,xS4]
theorem xE9{l:List Operand}(h:∀r∈N3 l,S'.get r=S.get r):l.map (arg S')=l.map (arg S):=List.map_congr_left λ_ C=>xM3 C h
variable {dsts:List (Option Nat)}
theorem yW{g:Option (Nat×Bool)}(h:∀r∈yD8 dsts g,S'.get r=S.get r):Lh dsts S' g=Lh dsts S g:=by cases g<;>grind [Lh,yD8]
variable {A:AVal}
theorem xS5{s:Nat}:∀{l:List AVal},A∈l->zD A=some s->s∈refs l:=by intro l;induction l with|nil=>grind|cons B l I=>intro h C;rcases mem_cons.1 h with rfl|h;cases A<;>simp[zD] at C<;>simp[refs,C];cases B<;>simp[refs]<;>first|grind|grind
theorem yR7(h:zD A=none):C6 S' A=C6 S A:=by cases A<;>first|rfl|grind [zD]
theorem zX0{l:List AVal}(I:A∈l)(h:∀r∈refs l,S'.get r=S.get r):C6 S' A=C6 S A:=by cases C:zD A with|none=>exact yR7 C|some s=>have:=h s (xS5 I C);cases A<;>simp[zD] at C<;>(grind [C6])
variable {gd:Gd}
theorem yG8:zF gd A=bare A\/zF gd A=.junk:=by cases A with|opt s w g A=>simp[zF,bare];grind|_=>exact .inl rfl
theorem zP0{l:List AVal}(h:∀r∈refs (l.map bare),S'.get r=S.get r):((l.map (zF gd)).map (C6 S'))=((l.map (zF gd)).map (C6 S)):=by rw[map_map,map_map];refine List.map_congr_left λA C=>?_;simp;rcases yG8 (gd:=gd) (A:=A) with e|e;grind [zX0,List.mem_map_of_mem];rw[e];rfl
theorem yW0{l r:List AVal}:refs (l++r)=refs l++refs r:=by induction l with|nil=>rfl|cons A l C=>cases A<;>simp[refs,C]
variable {o:Oper}{u:St}
theorem yA2{p:List Prop}(h:JY c dsts o S=some (p,u,false))(hr:∀r∈(FJ dsts o S u false).rd,S'.get r=S.get r)(hq:∀e∈S',e∈S\/∀d,o.dst=some d->SI d e.2):JY c dsts o S'=some (p,u,false):=by simp only[FJ] at hr;have h1:=xE9 (gtab:=gtab) (l:=DI o.op) (S:=S) (S':=S') λr ng=>hr r (mem_append_left _ ng);have h2:=yW (dsts:=dsts) (g:=o.guard) (S:=S) (S':=S') λr ng=>hr r (mem_append_right _ (mem_append_left _ ng));have h3:∀r∈refs (W4 o.op ((DI o.op).map (λx=>bare (arg S x)))),S'.get r=S.get r:=λr ng=>hr r (mem_append_right _ (mem_append_right _ ng));(have gM:∀d T,o.dst=some d->(T=d\/T=100000+d\/T=200000+d\/T=300000+d)->BY T S->BY T S':=by intro d T C hT hn;simp only[BY,all_eq_true] at hn ⊢;intro e he;rcases hq e he with h' | h';(·grind);(·have:=h' d C;simp only[SI,jB] at this;obtain⟨_,q1,q2,q3,q4⟩:=this;rcases hT with rfl|rfl|rfl|rfl<;>assumption));(have href:∀d,o.dst=some d->Ht d S->Ht d S':=by intro d C hn;simp only[Ht,all_eq_true] at hn ⊢;intro e he;rcases hq e he with h' | h';(·grind);simp_all [SI,jB]);unfold JY at h ⊢;rw[h2];split at h;(·grind);(·rename_i gd hgd;rw[h1];generalize hX:(DI o.op).map (arg S)=X at h ⊢;(have hXb:(DI o.op).map (λx=>bare (arg S x))=X.map bare:=by rw[<-hX,map_map];rfl);rw[hXb] at h3;(have hy:Jr o.op≠3->W4 o.op (X.map bare)=X.map bare:=by intro R;unfold W4;grind [Jr]);unfold LY at h ⊢;generalize R:Jr o.op=k at h ⊢ hy;match k,R,h,hy with |0,R,h,hy=>grind|1,R,h,hy=>rw[hy (by grind)] at h3;simp only at h ⊢;split at h;(·rename_i T x y A v h0 C ho hl;have kr:=zP0 (gd:=none) h3;rw[hl] at kr;simp only[map_cons,List.cons.injEq] at kr;rw[kr.1];unfold fR at h ⊢;split at h;(·rename_i s0 U t i q;split at h;(·unfold yD5 at h;split at h;(·generalize (Ty.beq _ _&&Nat.beq _ _&&Nat.beq _ _&&c.is T _&&_&&_&&_)=b at h;cases b with|false=>grind|true=>simp only[jE] at h;split at h<;>simp at h);grind);(·rename_i t' l U' mw;cases hho:xW0 v with|true=>simp only[hho,jE] at h;unfold yD4 at h;split at h;(·generalize (Ty.beq _ _&&Ty.beq _ _&&Nat.beq _ _&&c.is T _&&_&&_&&_)=b at h;cases b<;>simp at h);grind|false=>simp only[hho,jD] at h;cases hb:(Ty.beq t' t&&Nat.beq U' U&&c.is T (t'.pty q)&&AVal.fits (t'.pty q) v) with|false=>simp_all|true=>simp only[hb,jE] at h;split at h;all_goals grind);grind);all_goals grind);(·rename_i T x y z A k v h0 C ho hl;unfold fS at h;split at h;(·split at h;(·split at h;all_goals grind);grind);grind);grind|2,R,h,hy=>simp only at h;split at h;(·split at h;(·rename_i T T' nz;cases hT:Nat.beq T T' with|false=>grind|true=>simp only[hT,jE] at h;unfold W6 at h;generalize BY _ S=b at h;cases b with|false=>grind|true=>simp only[jE] at h;split at h;(·simp at h);(·split at h<;>simp at h));grind);grind|3,R,h,hy=>simp only at h ⊢;split at h;(·rename_i f cs r hl;cases kT:Iw cs with|false=>grind|true=>simp only[kT,jE] at h ⊢;(have qc:(r++cs.toL).map (C6 S')=(r++cs.toL).map (C6 S):=by (have:∃fo args ats,o.op=.call { callee:=.value fo,args,argTypes:=ats }:=by unfold Jr at R;split at R<;>first|exact absurd R (by decide) | (rename_i fo args ats ho;exact⟨_,_,_,ho⟩));obtain⟨fo,args,ats,ho⟩:=this;cases X with|nil=>simp at hl|cons x0 X'=>simp only[map_cons,List.cons.injEq] at hl;obtain⟨uo,rfl⟩:=hl;(have hb0:bare x0=.fn f cs:=by rcases yG8 (gd:=gd) (A:=x0) with e|e;(·rw[<-e,uo]);(·rw[e] at uo;cases uo));rw[ho,map_cons,hb0] at h3;simp only[W4,yW0] at h3;rw[List.map_append,List.map_append,zP0 (λr hr=>h3 r (mem_append_left _ hr))];congr 1;exact List.map_congr_left λA hA=>zX0 hA λr hr=>h3 r (mem_append_right _ hr));unfold fV at h ⊢;generalize hx:zU c gd o.dst f (r++cs.toL)=y at h ⊢;cases y with|some q'=>exact h|none=>simp only[Jq] at h ⊢;rw[qc];(have hheavy:∀q:List Prop×St×Bool,SF c gd o.dst f (r++cs.toL) S=some q->q.2.2=true\/(gd=none/\yB c o.dst f (r++cs.toL) ((r++cs.toL).map (C6 S)) S=some q):=by intro q;unfold SF;cases gd with|some _=>intro e;simp only at e;unfold xI at e;split at e;(·simp only[jA] at e;rw[<-e];exact .inl rfl);(·cases e)|none=>simp only;generalize hl:yB c o.dst f (r++cs.toL) ((r++cs.toL).map (C6 S)) S=z;cases z with|some q'=>intro e;simp only[Jq,jA] at e;subst e;exact .inr ⟨trivial,rfl⟩|none=>simp only[Jq];generalize gT:SE c o.dst f (r++cs.toL) S=z2;cases z2 with|some q'=>intro e;simp only[jA] at e;subst e;unfold SE at gT;split at gT;(·generalize (_&&BY _ S)=bb at gT;cases bb with|false=>cases gT|true=>simp only[jE,jA] at gT;rw[<-gT];exact .inl rfl);(·cases gT)|none=>simp only;generalize hh:W9 c o.dst f (r++cs.toL) S=z;cases z with|none=>intro e;cases e|some q'=>intro e;simp only[jA] at e;subst e;unfold W9 at hh;split at hh;(·cases hh);(·split at hh;(·cases hh);(·generalize (_&&Jn _)=bb at hh;cases bb with|false=>cases hh|true=>simp only[jE,jA] at hh;rw[<-hh];exact .inl rfl)));generalize kr:JW c gd o.dst f (r++cs.toL) ((r++cs.toL).map (C6 S)) S=x at h;cases x with|none=>rcases hheavy _ h with e|⟨rfl,J⟩;(·cases e);(·(have N5:∀d,o.dst=some d->(BY d S&&BY (100000+d) S&&BY (200000+d) S&&BY (300000+d) S):=by intro d C;unfold yB at J;split at J;(·cases J);(·split at J;(·rename_i d' _ iW;rw[C] at iW;injection iW with iW;subst iW;generalize hb:(_&&BY (300000+d) S)=bb at J;cases bb with|false=>cases J|true=>simp only[jB] at hb ⊢;exact⟨⟨⟨hb.1.1.1.2,hb.1.1.2⟩,hb.1.2⟩,hb.2⟩);(·cases J)));(have I:∀d,o.dst=some d->(BY d S'=BY d S/\BY (100000+d) S'=BY (100000+d) S/\BY (200000+d) S'=BY (200000+d) S/\BY (300000+d) S'=BY (300000+d) S):=by intro d C;have:=N5 d C;simp only[jB] at this;obtain⟨⟨⟨b1,b2⟩,b3⟩,b4⟩:=this;rw[b1,b2,b3,b4];exact⟨gM d _ C (.inl rfl) b1,gM d _ C (.inr (.inl rfl)) b2,gM d _ C (.inr (.inr (.inl rfl))) b3,gM d _ C (.inr (.inr (.inr rfl))) b4⟩);(have hcs':JW c none o.dst f (r++cs.toL) ((r++cs.toL).map (C6 S)) S'=none:=by rw[<-kr];clear kr;revert I;generalize o.dst=dst;intro I;cases dst with|none=>rfl|some d=>obtain⟨e1,e2,e3,e4⟩:=I d rfl;unfold JW;simp only[e1,e2,e3,e4]);rw[hcs'];simp only;(have hl':yB c o.dst f (r++cs.toL) ((r++cs.toL).map (C6 S)) S'=some (p,u,false):=by rw[<-J];unfold yB;split;(·rfl);(·split;(·rename_i d' _ iW;obtain⟨e1,e2,e3,e4⟩:=I d' iW;rw[e1,e2,e3,e4]);(·rfl)));unfold SF;rw[qc,hl'];rfl)|some q'=>simp only[jA] at h;subst h;(have hcs':JW c gd o.dst f (r++cs.toL) ((r++cs.toL).map (C6 S)) S'=some (p,u,false):=by unfold JW at kr ⊢;split at kr;(·grind);(·rename_i co nv;generalize (LV co.outs 0 _&&EI co.res&&_&&_)=b at kr ⊢;cases b with|false=>simp only[Bool.not_false,jE] at kr;cases kr|true=>simp only[Bool.not_true,jD] at kr ⊢;split at kr;(·rename_i uu gW heat;cases gd with|some q=>exact kr|none=>simp only at kr ⊢;split at kr;(·exact kr);(·rename_i d C;generalize hb:(BY d S&&BY (100000+d) S&&BY (200000+d) S&&BY (300000+d) S)=b at kr;cases b with|false=>cases kr|true=>simp only[jB] at hb;obtain⟨⟨⟨b1,b2⟩,b3⟩,b4⟩:=hb;rw[gM d _ C (.inl rfl) b1,gM d _ C (.inr (.inl rfl)) b2,gM d _ C (.inr (.inr (.inl rfl))) b3,gM d _ C (.inr (.inr (.inr rfl))) b4];exact kr));(·cases kr)));grind);grind|4,R,h,hy=>exact h|k+5,R,h,hy=>rw[hy (by omega)] at h3;simp only at h ⊢;rw[zP0 h3];unfold zK at h ⊢;split at h;(·cases h);(·rename_i d C;split at h;(·cases h);(·rename_i p' A hA;cases hf:Ib o.op with|false=>simpa[hf] using h|true=>simp only[hf,jE] at h ⊢;cases hb:(gd.isNone&&Ht d S&&BY d S) with|false=>simp only[hb,jD] at h;unfold N7 at h;split at h;(·rename_i q t l T m _;cases kP:(Ht d S&&BY d S&&Nat.beq T d&&!t.isL) with|false=>simp only[kP,jD] at h;cases h|true=>simp only[kP,jE] at h;simp only[jB] at kP;simp only[Option.isNone_some,Bool.false_and,jD,N7,href d C kP.1.1.1,gM d d C (.inl rfl) kP.1.1.2,kP.1.2,kP.2,Bool.and_self,jE];exact h);(·cases h)|true=>simp only[hb,jE] at h;simp only[jB] at hb;rw[hb.1.1,href d C hb.1.2,gM d d C (.inl rfl) hb.2];exact h)))
theorem xZ6{d:Nat}{p C:List Prop}{hv:Bool}(h:N7 gd d p A S=some (C,u,hv)):∃B,u=[(d,B)]:=by unfold N7 at h;grind
theorem wD3{p:List Prop}(h:JY c dsts o S=some (p,u,false))(hm:SG o.op):∃d A,o.dst=some d/\u=[(d,A)]:=by unfold JY at h;split at h;grind;unfold LY at h;unfold SG at hm;split at hm;rename_i T n ps C;rw[C] at h;simp[Jr,zK] at h;grind [Ht,BY,xZ6];rename_i T x y C;rw[C] at h;simp[Jr,zK] at h;grind [Ht,BY,xZ6];rename_i args ats C;rw[C] at h;simp only[Jr] at h;grind [Nat.beq,W6,BY];grind
theorem yW1{p:List Prop}(h:Js c dsts o S=some (p,u,false))(R:∀r∈(FJ dsts o S u false).rd,S'.get r=S.get r)(I:∀e∈S',e∈S\/∀d,o.dst=some d->SI d e.2):Js c dsts o S'=some (p,u,false):=by unfold Js at h ⊢;split at h;grind;rename_i p0 u0 h0 gu;cases C:SG o.op with|false=>grind [yA2]|true=>simp[C] at h;split at h;rename_i u' gR;simp at h;obtain⟨rfl,rfl,rfl⟩:=h;have J:=yA2 gu (u:=u0) R I;obtain⟨d,A,hd,rfl⟩:=wD3 gu C;(have:N8 c S' [(d,A)]=some u':=by rw[<-gR];unfold N8;cases A with|own t l T m=>(cases m with|false=>rfl|true=>simp only;generalize hb:(Nat.beq T d&&!(c.wr.any (Nat.beq d)))=b;cases b with|false=>rfl|true=>(have hold:BY T S:=by grind [N8]);(have gx:BY T S':=by simp only[BY,all_eq_true] at hold ⊢;intro e he;rcases I e he with h' | h';grind;simp_all [SI]);grind)|_=>rfl);grind;grind
variable {gtab:GlobTab}{P:Program}{c:Ctx}{G:Gh}{w:World}{tm:Array Value}{n:Nat}{χ0:Nat->Nat->Nat}{w0:World}{S:St}{a:Act}
def ahd (ops:List Oper)(i j:Nat):Prop:=((ahead ops []).getD j 0).testBit i=true
variable {i:Nat}
theorem zY8{acc:List Nat}:∀{l:List Edge},(Ju acc l).testBit i->∃e∈l,binds .any e/\(i=e.on\/(acc.getD e.on 0).testBit i):=by
 intro l
 induction l with
 |nil=>grind [Ju]
 |cons e r C =>
  intro h;simp only[Ju] at h;cases hb:binds .any e with
  |false =>
   grind
  |true =>
   simp only[hb] at h;have h:((2 ^ e.on ||| acc.getD e.on 0) ||| Ju acc r).testBit i:=h
   grind
theorem yR8:∀{ops:List Oper}{acc:List Nat},∃r,ahead ops acc=acc++r/\r.length=ops.length:=by
 intro ops
 induction ops with
 |nil=>simp_all [ahead]
 |cons o l C =>
  intro acc;obtain⟨r,I,J⟩:=C (acc:=acc++[Ju acc o.after.toList])
  grind [ahead]
theorem xS6:∀{ops:List Oper}{acc:List Nat}{j i:Nat}{o:Oper},ops[j]?=some o->((ahead ops acc).getD (acc.length+j) 0).testBit i=true ->
  ∃e∈o.after.toList,binds .any e/\(i=e.on\/((ahead ops acc).getD e.on 0).testBit i):=by
 intro ops
 induction ops with
 |nil=>grind
 |cons o' l R =>
  intro acc j i o I h;cases j with
  |zero =>
   simp  at I;subst I;simp only[ahead] at h ⊢;obtain⟨r,hr,_⟩:=yR8 (ops:=l) (acc:=acc++[Ju acc o'.after.toList]);rw[hr] at h ⊢;have e1:((acc++[Ju acc o'.after.toList])++r).getD (acc.length+0) 0=Ju acc o'.after.toList:=by simp
   rw[e1] at h;obtain⟨e,he,hb,C⟩:=zY8 h;refine⟨e,he,hb,C.imp id λC=>?_⟩;by_cases J:e.on<acc.length
   ·simp only[jM] at C ⊢;rw[append_assoc,List.getElem?_append_left J];exact C
   ·simp  at C;rw[List.getElem?_eq_none (by omega)] at C;simp at C
  |succ j =>
   simp only[ahead] at h ⊢;have:=R (acc:=acc++[Ju acc o'.after.toList]) (j:=j) (i:=i) I (by grind)
   grind
theorem xS7{ops:List Oper}{j:Nat}(C:ops[j]?=some o)(h:ahd ops i j):∃e∈o.after.toList,binds .any e/\(i=e.on\/ahd ops i e.on):=
 xS6 (acc:=[]) C (by grind [ahd])
theorem zR5:∀{ops:List Oper}{k j:Nat}{o:Oper},LZ k ops->ops[j]?=some o->∀e∈o.after.toList,binds .any e->e.on<k+j:=by
 intro ops
 induction ops with
 |nil=>grind
 |cons o' l J =>
  intro k j o h C e he I;simp only[LZ,jB] at h;cases j with
  |zero =>
   simp  at C;subst C;have:=all_eq_true.1 h.1 e he;simp_all
  |succ j =>
   grind
variable {K:Nat}
theorem yW2{b:Nat}{t:Tr}:∀{l:List Tr}{k i:Nat}{t':Tr},jV K b t k l->l[i]?=some t'->K<=k+i->Jt t' t->b.testBit (k+i):=by
 intro l
 induction l with
 |nil=>grind
 |cons x l I =>
  intro k i t' h J R hc;simp only[jV,jB,Bool.or_eq_true] at h;cases i with
  |zero =>
   rcases h.1 with C | C | C
   ·have:=Nat.blt_eq.mp C;omega
   all_goals grind
  |succ i =>
   grind
theorem xF:∀{bs:List Nat}{trs l:List Tr}{i j:Nat}{ti tj:Tr},Ma K trs bs l->(trs++l)[i]?=some ti->l[j]?=some tj->i<trs.length+j->K<=i->Jt ti tj->(bs.getD j 0).testBit i:=by
 intro bs
 induction bs with
 |nil=>grind [Ma]
 |cons b bs J =>
  intro trs l i j ti tj h hi C R hK I;cases l with
  |nil=>grind
  |cons t l =>
   simp[Ma] at h;cases j with
   |zero =>
    simp  at C;subst C;have:=yW2 h.1 (i:=i) (t':=ti) (by grind) (by omega) I
    grind
   |succ j =>
    have:=J (i:=i) (j:=j) (ti:=ti) (tj:=tj) h.2 (by grind) (by grind) (by grind) hK I
    grind
theorem xM4:∀{l m:List Nat}{x:Nat},apart l m->x∈l->x∈m->False:=by
 intro l
 induction l with
 |nil=>grind
 |cons y l I =>
  intro m x h C hm;simp only[apart] at h;rcases mem_cons.1 C with rfl|C
  ·simp  at h
   grind
  grind
theorem xW9{r:Nat}:∀{u:St},St.has r u=true↔r∈u.map (·.1):=by
 simp_all [St.has]
variable {rd:Option Nat}{gtab:GlobTab}{P:Program}{c:Ctx}{G:Gh}{w:World}{tm:Array Value}{n:Nat}{χ0:Nat->Nat->Nat}{w0:World}{S:St}{a:Act}
section draw
variable {ops:Array Oper}{ts:List Tr}{p:List Prop}
def wr (ts:List Tr)(j r:Nat):Prop:=St.has r (DR ts j)=true
structure Inv (ops:Array Oper) (ts:List Tr) (S:St) (l:List Nat):Prop where
 nd:l.Nodup
 lt:∀i∈l,i<ops.size
 down:∀j∈l,∀i,ahd ops.toList i j->i∈l
 val:∀r k,(∀j,j<k->wr ts j r->j∈l)->(∀j∈l,wr ts j r->j<k)->(exe ts l++S).get r=(tex ts k++S).get r
def NP (ts:List Tr):Prop:=∀j,∀e∈DR ts j,e.1≠BP
variable {r:Nat}
theorem xS8(C:NP ts):∀{k:Nat},(∀j,j<k->¬wr ts j r)->(tex ts k++S).get r=S.get r:=by
 intro k
 induction k with
 |zero=>intro _;rfl
 |succ k I =>
  intro h;rw[tex,append_assoc,Lr (C k) (by simp_all [wr])]
  grind
variable {i:Nat}
theorem xX(C:NP ts):∀{k:Nat},i<k->wr ts i r->(∀j,i<j->j<k->¬wr ts j r)->(tex ts k++S).get r=(DR ts i).get r:=by
 intro k
 induction k with
 |zero=>grind
 |succ k I =>
  intro h hw J;rw[tex,append_assoc];by_cases e:i=k
  ·subst e;exact NM (C i) hw
  ·rw[Lr (C k) (by grind [wr])]
   grind
variable {j:Nat}
theorem Xe(h:wr ts j r):∃t,ts[j]?=some t/\t.u=DR ts j:=by
 grind [wr,DR,St.has]
theorem P5{t t':Tr}(h:Jt t t'=false):(t.heavy=false->t'.heavy=false/\(∀r,r∈t.rd->St.has r t'.u->False)/\jU t.dst t.u t'.u=true) /\
  (t.heavy->t'.pl/\∀d,t.dst=some d->St.has d t'.u=false)/\(∀r,St.has r t.u->r∈t'.rd->False)/\(∀r,St.has r t.u->St.has r t'.u->False):=by
 grind [Jt,xM4,xW9]
theorem xF0:∀{S:St},St.has r S=false->S.get r=.junk:=by
 intro S
 induction S with
 |nil=>intro _;rfl
 |cons e S C =>
  intro h;simp only[St.has,any_cons,jJ] at h;have I:=C (show St.has r S=false from h.2);simp_all [St.get]
variable {u:St}
theorem xM5{dst:Option Nat}{S:St}(h:fY dst S u):∃d τ x,u=[(d,.val τ x)]/\St.has d S=false:=by
 unfold fY at h
 grind
theorem xM6 (C:NP ts):Inv ops ts S []:=
 ⟨List.nodup_nil,λi h=>(by grind),λj h=>(by grind),λr k h _=>(xS8 C λj I hw=>by grind).symm⟩
def Ord (k:Nat)(ops:Array Oper)(ts:List Tr):Prop:=∀i j ti tj,ts[i]?=some ti->ts[j]?=some tj->i<j->k<=i->Jt ti tj->ahd ops.toList i j
theorem Inv.up {l:List Nat}(I:Inv ops ts S l){i:Nat}{o:Oper}(J:ops[i]?=some o)(he:∀e∈o.after.toList,binds .any e->e.on∈l){j:Nat}(h:ahd ops.toList j i):j∈l:=by
 obtain⟨e,hm,hb,C⟩:=xS7 (ops:=ops.toList) (by simpa using J) h;rcases C with rfl|C
 ·grind
 ·exact I.down _ (he e hm hb) _ C
variable {o:Oper}
theorem Inv.cons{l:List Nat}(R:NP ts)(hO:∀j ti tj,j∈l->ts[i]?=some ti->ts[j]?=some tj->i<j->Jt ti tj->ahd ops.toList i j)(J:Inv ops ts S l)(ho:ops[i]?=some o)(hi:i∉l)(he:∀e∈o.after.toList,binds .any e->e.on∈l):Inv ops ts S (i::l):=by
 refine⟨List.nodup_cons.2 ⟨hi,J.nd⟩,λj C=>?_,λj C k hk=>?_,λr k h1 h2=>?_⟩
 ·rcases mem_cons.1 C with rfl|C
  ·grind
  ·exact J.lt j C
 ·rcases mem_cons.1 C with rfl|C
  ·exact jP _ (J.up ho he hk)
  ·exact jP _ (J.down j C k hk)
 ·rw[exe,append_assoc];by_cases hw:wr ts i r
  ·rw[NM (R i) hw];refine (xX R (h2 i (jQ ..) hw) hw λj hij hjk I=>?_).symm;have C:j∈l:=by
    grind
   obtain⟨ti,hti,ei⟩:=Xe hw;obtain⟨tj,htj,ej⟩:=Xe I;cases hc:Jt ti tj with
   |true=>exact hi (J.down j C i (hO j ti tj C hti htj hij hc))
   |false=>exact (P5 hc).2.2.2 r (by rw[ei];exact hw) (by rw[ej];exact I)
  ·rw[Lr (R i) (by grind [wr])];refine J.val r k (λj C I=>?_) λj C I=>h2 j (jP _ C) I
   grind
variable {e:Nat×AVal}
theorem xM7:∀{l:List Nat},e∈exe ts l->∃j∈l,e∈DR ts j:=by
 intro l
 induction l with
 |nil=>intro h;cases h
 |cons i l C =>
  intro h;rcases mem_append.1 h with h|h
  all_goals grind
theorem yW3:∀{k:Nat},j<k->e∈DR ts j->e∈tex ts k:=by
 intro k
 induction k<;>grind [tex]
theorem yN3(h:e∈DR ts j):∃t,ts[j]?=some t/\t.u=DR ts j:=by
 grind [DR]
variable {k:Nat}
theorem xM8{S:St}(h:j<k)(hw:wr ts j r):St.has r (tex ts k++S):=by
 obtain⟨e,he,C⟩:=any_eq_true.1 (show (DR ts j).any (λe=>Nat.beq e.1 r)=true from hw);exact any_eq_true.2 ⟨e,mem_append_left _ (yW3 h he),C⟩
theorem xS9{S:St}(h:i<=j)(C:St.has r (tex ts i++S)):St.has r (tex ts j++S):=by
 induction j<;>grind [tex,append_assoc,St.has]
theorem xM9(hn:NP ts)(hc:CtxOk P c)(hF:Te c (ops.toList.map (·.dst)) ops.toList S [] ts p)(hS:∀e∈S,e.2.hasOpt=false)(hp:∀q∈p,q)(hO:Ord k ops ts)
  {l:List Nat}(hI:Inv ops ts S l) (hk:∀j,j<k->j∈l)(ho:ops[i]?=some o) (hi:i∉l) (he:∀e∈o.after.toList,binds .any e->e.on∈l)
  (hR:Rel c.n χ0 w0 (exe ts l++S) a w G){next:Act->World->Prop}{Q:Exit->Act->World->Prop}
  (hZ:∀v w' G',Rel c.n χ0 w0 (exe ts (i::l)++S) (a.put o.dst v) w' G'->next (a.put o.dst v) w'):wpOpIn (fz rd) 0 P ops Q i next a w:=by
 have hF':=hF;obtain⟨pi,hv,q1,q2,q3,q4,q5⟩:=hF i o (by grind);simp only[append_nil] at q1 q2 q4;have qj:∀j tj,j∈l->ts[j]?=some tj->i<j->Jt (FJ (ops.toList.map (·.dst)) o (tex ts i++S) (DR ts i) hv) tj=false:=by
  intro j tj C htj I;cases ko:Jt _ tj with
  |true=>exact absurd (hI.down j C i (hO i j _ tj q2 htj I (le_of_not_lt λh=>hi (hk i h)) ko)) hi
  |false=>rfl
 have ia:∀j tj,j∉l->ts[j]?=some tj->j<i->Jt tj (FJ (ops.toList.map (·.dst)) o (tex ts i++S) (DR ts i) hv)=false:=by
  intro j tj C htj I;cases ko:Jt tj _ with
  |true=>exact absurd (hI.up ho he (hO j i tj _ htj q2 I (le_of_not_lt λh=>C (hk j h)) ko)) C
  |false=>rfl
 cases hv with
 |true =>
  have hall:∀j,j<i->∀t,ts[j]?=some t->j∈l:=by
   intro j C t ht;by_cases iI:j∈l
   ·grind
   ·have h1:=P5 (ia j t iI ht C)
    grind [FJ]
  have kT:∀j∈l,i<j->∀r,wr ts j r->∃τ x,DR ts j=[(r,.val τ x)]/\St.has r (tex ts j++S)=false/\St.has r (DR ts i)=false/\o.dst≠some r:=by
   intro j C I r hw;obtain⟨t,ht,eu⟩:=Xe hw;have h1:=P5 (qj j t C ht I);obtain⟨h2,h3⟩:=h1.2.1 rfl;obtain⟨oj,hoj⟩:∃oj,ops.toList[j]?=some oj:=⟨ops[j]'(hI.lt j C),by grind⟩;obtain⟨pj,hvj,_,r2,_⟩:=hF' j oj hoj;rw[ht] at r2;injection r2 with r2
   rw[append_nil] at r2;have h2':fY oj.dst (tex ts j++S) (DR ts j):=by
    rw[r2] at h2;simp only[FJ,jB] at h2
    grind
   obtain⟨d,τ,x,e1,e3⟩:=xM5 h2';have hr:r=d:=by
    unfold wr at hw;rw[e1] at hw;simp only[St.has,any_cons,List.any_nil] at hw
    grind [jC]
   subst hr;refine⟨τ,x,e1,e3,?_,λhd=>?_⟩
   ·cases hh:St.has r (DR ts i) with
    |false=>rfl
    |true=>exact (h1.2.2.2 r hh (by rw[eu];exact hw)).elim
   ·have:=h3 r hd;rw[eu] at this;exact absurd (show St.has r (DR ts j)=true from hw) (by grind)
  have gq:∀r,(∀j∈l,i<j->¬wr ts j r)->(exe ts l++S).get r=(tex ts i++S).get r:=λr ib=>by
   refine hI.val r i (λj C hw=>?_) λj C hw=>?_
   all_goals grind
  have ma:∀r,(∃j∈l,i<j/\wr ts j r)->∃τ x,(exe ts l++S).get r=.val τ x/\(tex ts i++S).get r=.junk/\St.has r (DR ts i)=false/\o.dst≠some r:=by
   rintro r ⟨j,C,I,hw⟩;obtain⟨τ,x,e1,e3,e4,e5⟩:=kT j C I r hw;refine⟨τ,x,?_,xF0 ?_,e4,e5⟩
   ·have:=hI.val r (j+1) (λj' iz th=>?_) (λj' iz th=>?_)
    ·rw[this,tex,append_assoc,NM (hn j) hw,e1];simp[St.get]
    ·by_cases h:j'=j
     ·grind
     ·have:=xM8 (S:=S) (show j'<j by omega) th
      grind
    grind [xM8]
   grind [St.has,tex,xS9,Nat.le_of_lt]
  have R0:Rel c.n G.χ w (tex ts i++S) a w G:=by
   refine { hR with frame:=⟨rfl,rfl,rfl,jI _,λ_ _ _=>rfl,λ_ _ _ _=>⟨rfl,rfl⟩⟩,reps:=λs=>?_ }
   by_cases h:∃j∈l,i<j/\wr ts j s
   ·obtain⟨_,_,_,e,_⟩:=ma s h;rw[e];simp only[zA]
   ·rw[<-gq s λj C I hw=>h ⟨j,C,I,hw⟩];exact hR.reps s
  refine yN2 hc hF' hS hp ho R0 λv w' G' R=>hZ v w' G' ?_;rw[exe,append_assoc];have hfr:Frame0 χ0 w0 G'.χ w':=by
   have h:=hR.frame;have k:=R.frame;refine⟨k.os.trans h.os,k.tape.trans h.tape,k.output.trans h.output,Nat.le_trans h.size k.size,λb hb hc=>?_,λb o hb hc=>?_⟩
   ·rw[k.block b (Nat.lt_of_lt_of_le hb h.size) (λo=>by rw[(h.cell b o hb (hc o)).1];grind)];exact h.block b hb hc
   ·have h1:=h.cell b o hb hc;have h2:=k.cell b o (Nat.lt_of_lt_of_le hb h.size) (by rw[h1.1];exact hc);exact⟨h2.1.trans h1.1,h2.2.trans h1.2⟩
  refine { R with frame:=hfr,reps:=λs=>?_ }
  by_cases h:∃j∈l,i<j/\wr ts j s
  ·obtain⟨τ,x,e1,_,e4,e5⟩:=ma s h;have k:=hR.reps s;rw[e1] at k;simp only[zA] at k;rw[Lr (hn i) e4,e1];simp only[zA];have e:(a.put o.dst v).tmps.getD s undef=a.tmps.getD s undef:=by
    unfold Act.put;cases hd:o.dst with
    |none=>rfl
    |some d =>
     have kh:d≠s:=λe=>e5 (by rw[hd,e]);show (a.tmps.setIfInBounds d v).getD s undef=_;rw[Array.getD_eq_getD_getElem?,Array.getD_eq_getD_getElem?,Array.getElem?_setIfInBounds_ne kh]
   rw[e];exact Gz (λb o hb h0=>by
    have:=R.frame.cell b o hb (by rw[h0];decide);exact⟨this.1.trans h0,this.2⟩) k
  ·have e:(DR ts i++(exe ts l++S)).get s=(DR ts i++(tex ts i++S)).get s:=by
    cases hh:St.has s (DR ts i) with
    |true=>rw[NM (hn i) hh,NM (hn i) hh]
    |false=>rw[Lr (hn i) hh,Lr (hn i) hh];exact gq s λj C I hw=>h ⟨j,C,I,hw⟩
   rw[e];exact R.reps s
 |false =>
  have hloc:=yW1 (S':=exe ts l++S) q1 (λr hr=>hI.val r i (λj C hw=>?_) (λj C hw=>?_)) (λe hem=>?_)
  ·refine yG7 hc hR ho hloc q5 (λs e hem=>?_) (λe hem e' hem'=>Xd (q4 e (mem_append_left _ hem)) e' hem') (λq hq=>hp q (q3 q hq)) λv w' G' R=>hZ v w' G' (by rw[exe,append_assoc];exact R);refine zU6 (q:=λA=>A.hung e.1=false) rfl λe' iV=>?_;rcases mem_append.1 iV with h|h
   ·obtain⟨j,C,J⟩:=xM7 h;by_cases hlt:j<i
    ·exact Xd (q4 e' (mem_append_right _ (yW3 hlt J))) e hem
    ·have:i≠j:=λe=>hi (e ▸ C);obtain⟨t,ht,eu⟩:=yN3 J;have hq:=((P5 (qj j t C ht (by omega))).1 rfl).2.2;simp only[jU,all_eq_true,FJ,jB,jK] at hq;exact Xd (hq e' (by rw[eu];exact J)).1 e hem
   ·exact P4 (hS e' h)
  ·by_cases iI:j∈l
   ·grind
   ·obtain⟨t,ht,eu⟩:=Xe hw;exact ((P5 (ia j t iI ht C)).2.2.1 r (by rw[eu];exact hw) hr).elim
  ·obtain⟨t,ht,eu⟩:=Xe hw;by_cases hlt:j<i
   ·exact hlt
   ·have:i≠j:=λe=>hi (e ▸ C);exact (((P5 (qj j t C ht (by omega))).1 rfl).2.1 r hr (by rw[eu];exact hw)).elim
  ·rcases mem_append.1 hem with h|h
   ·obtain⟨j,C,J⟩:=xM7 h;by_cases hlt:j<i
    ·exact .inl (mem_append_left _ (yW3 hlt J))
    ·have:i≠j:=λe=>hi (e ▸ C);obtain⟨t,ht,eu⟩:=yN3 J;have hq:=((P5 (qj j t C ht (by omega))).1 rfl).2.2;simp only[jU,all_eq_true,FJ,jB] at hq;refine .inr λd hd=>?_;have:=(hq e (by rw[eu];exact J)).2;rw[hd] at this;exact this
   ·exact .inl (mem_append_right _ h)
theorem xX0{l:List Nat}(h:((range ops.size).filter λi=>!(l.contains i)).length=0):∀i,i<ops.size->i∈l:=by
 simp_all
theorem xF1{l:List Nat}{listed:Array Bool}(I:LZ 0 ops.toList)(R:listed.size=ops.size)(hl:∀j,listed.getD j false=true↔j∈l)(hr:ready .any ops listed=[]):∀i,i<ops.size->i∈l:=by
 intro i
 induction i using Nat.strongRecOn with
 |_ i ih =>
  intro J;by_cases hm:i∈l
  ·grind
  ·have:i∈ready .any ops listed:=by
    refine mem_ready.2 ⟨?_,ops[i],Array.getElem?_eq_getElem J,λe he C=>?_⟩
    ·grind
    ·have:=zR5 (ops:=ops.toList) (j:=i) (o:=ops[i]) I (by grind) e (by grind) C
     grind
   grind
theorem xA1{K:Act->Prop}(hK:∀o∈ops.toList,∀a v,K a->K (a.put o.dst v))(hc:CtxOk P c)(hF:Te c (ops.toList.map (·.dst)) ops.toList S [] ts p)(hS:∀e∈S,e.2.hasOpt=false)(hp:∀q∈p,q){m:Nat}(hO:Ord m ops ts)(hn:NP ts)
  (hE:LZ 0 ops.toList){Q:Exit->Act->World->Prop}(hQ:∀a' w' G',Rel c.n χ0 w0 (tex ts ops.size++S) a' w' G'->K a'->Q .normal a' w') :
  ∀AV listed l a w G,listed.size=ops.size->(∀j,listed.getD j false=true↔j∈l)->(∀j,j<m->j∈l)->Inv ops ts S l->((range ops.size).filter λi=>!(l.contains i)).length<=AV ->
   Rel c.n χ0 w0 (exe ts l++S) a w G->K a->wpAnyIn (fz rd) 0 P .any ops Q AV listed a w:=by
 have fin:∀l a w G,Inv ops ts S l->(∀i,i<ops.size->i∈l)->Rel c.n χ0 w0 (exe ts l++S) a w G->K a->Q .normal a w:=by
  intro l a w G I hf J R;refine hQ a w G (s8 (λs=>?_) J) R;refine (I.val s ops.size (λj hj _=>hf j hj) λj hj _=>I.lt j hj).symm
 intro AV
 induction AV with
 |zero =>
  intro listed l a w G hs hl C I hm J R;have hf:=xX0 (ops:=ops) (l:=l) (by omega);refine⟨?_,fin l a w G I hf J R⟩;refine List.eq_nil_iff_forall_not_mem.2 λi hi=>?_
  grind [mem_ready,Array.getElem?_eq_some_iff]
 |succ AV ih =>
  intro listed l a w G hs hl C I hm J R;refine⟨λhr=>fin l a w G I (xF1 hE hs hl hr) J R,λi hi=>?_⟩;obtain⟨h1,o,ho,he⟩:=mem_ready.1 hi;have hlt:=(Array.getElem?_eq_some_iff.1 ho).1;have h2:i<listed.size:=by omega
  have qm:i∉l:=by
   grind
  have iV:∀e∈o.after.toList,binds .any e->e.on∈l:=λe hem hb=>(hl _).1 (he e (by grind) hb);refine xM9 hn hc hF hS hp hO I C ho qm iV J λv w' G' hR'=>?_;refine ih _ (i::l) _ _ G' (by grind) (λj=>?_) (λj hj=>jP _ (C j hj)) (I.cons hn (λj ti tj _ h1 h2 h3 h4=>hO i j ti tj h1 h2 h3 (le_of_not_lt λh=>qm (C i h)) h4) ho qm iV) ?_ hR' (hK _ (List.mem_of_getElem? (by simpa using ho)) _ _ R)
  ·by_cases e:i=j
   ·subst e;simp[h2]
   ·rw[getD_set_ne false e,hl j];simp[Ne.symm e]
  ·have nw:(range ops.size).filter (λk=>!((i::l).contains k))=((range ops.size).filter (λk=>!(l.contains k))).filter (λk=>!(k==i)):=by
    rw[List.filter_filter]
    grind
   rw[nw];have:(((range ops.size).filter (λk=>!(l.contains k))).filter (λk=>!(k==i))).length<((range ops.size).filter (λk=>!(l.contains k))).length:=by
    refine List.length_filter_lt_length_iff_exists.2 ⟨i,List.mem_filter.2 ⟨List.mem_range.2 hlt,by grind⟩,by simp⟩
   omega
theorem xV2(h:Ma k [] (ahead ops.toList []) ts):Ord k ops ts:=by
 intro i j ti tj R C I J ko;exact xF (trs:=[]) h (by grind) C (by grind) J ko
theorem yW4{dsts:List (Option Nat)}{q:List Prop}{hv:Bool}(h:Js c dsts o S=some (q,u,hv)):(∀d,o.op≠.defer d)/\∀cs b,o.op≠.select cs b:=by
 have key:∀op,o.op=op->Jr op=5->(∀d xs ks,Ia c d op xs ks=none)->Ib op=false->False:=by
  unfold Js JY LY at h;split at h
  ·grind
  ·rename_i C u' I gu;split at gu
   ·grind
   ·simp only[zK] at gu
    grind
 refine⟨λd e=>key _ e rfl (λ_ _ _=>by simp[Ia]) rfl,λcs b e=>key _ e rfl (λ_ _ _=>by simp[Ia]) rfl⟩
section Jv
variable {F:Fence}{m:Nat}{Q:Exit->Act->World->Prop}
variable {oi:Oper}{v:Value}{K:Act->World->Prop}
theorem xT{j:Nat}{oj:Oper}(J:ops[j]?=some oj)(iT:oi.apart ops oj)(kT:(∀d,oj.op≠.defer d)/\∀cs b,oj.op≠.select cs b)(hQ:∀e a w,e≠.normal->¬Q e a w)
  (h:wpOpIn F m P ops Q j K (a.put oi.dst v) w):wpOpIn F m P ops Q j (λC w'=>(∃u D,C=({ a with defers:=D }:Act).put oj.dst u)/\K (C.put oi.dst v) w') a w:=by
 obtain⟨f1,f2,_⟩:=Oper.apart_spec iT;have R:∀u,(a.put oi.dst v).put oj.dst u=(a.put oj.dst u).put oi.dst v:=λu=>Act.put_comm a v u f2;unfold wpOpIn at h ⊢;simp only[J] at h ⊢;rw[wanted_put oj a oi.dst v f1,about_put oj w a oi.dst v f1] at h;cases hw:wanted oj (yielded ops a.tmps) with
 |false =>
  grind
 |true =>
  simp[hw] at h ⊢;unfold Oper.wpIn at h ⊢;rw[about_put oj w a oi.dst v f1,Oper.semAt_eq _ _ _ kT.1,execOp_put oj kT.2 a oi.dst v f1] at h;rw[Oper.semAt_eq _ _ _ kT.1];refine⟨h.1,?_⟩;have h:=h.2;cases I:(execOp a.eval oj).run P w with
  |halt x w' =>
   rw[I] at h;cases x<;>simp only[Oper.uponIn] at h
   grind
  |ok x w' =>
   rw[I] at h;cases x with
   |value u=>grind [Oper.uponIn]
   |skip=>grind [Oper.uponIn]
   |defer d =>
    grind [Oper.uponIn,Act.put_comm,Act.put_defers]
   |enter f args =>
    grind [Oper.uponIn]
   |row row args =>
    grind [Oper.uponIn]
   |round l f tmps assign body =>
    refine⟨h.1,RoundIn.mono h.2 λe w2 he=>?_⟩
    grind
   |_=>grind [Oper.uponIn]
variable {i:Nat}
theorem yS{o:Oper}(J:ops[i]?=some o)(kT:∀d,o.op≠.defer d)(I:YieldsFenced P ops o v a)(h:K (a.put o.dst v) w):wpOpIn F m P ops Q i K a w:=by
 unfold wpOpIn;simp only[J];have C:∀f,o.about P w a.eval=some f->F.fn f:=λf R=>by rw[I.2 w] at R;grind
 rcases I.1 with ⟨hw,hv⟩ | ⟨hw,rfl⟩
 ·rw[if_pos hw];unfold Oper.wpIn;rw[Oper.semAt_eq _ _ _ kT,hv w];exact⟨C,h⟩
 grind
theorem xN(hi:ops[i]?=some oi)(kT:∀(j:Nat)(o:Oper),ops[j]?=some o->(∀d,o.op≠.defer d)/\∀cs b,o.op≠.select cs b)(hQ:∀e a w,e≠.normal->¬Q e a w) :
  ∀(AV:Nat) (listed:Array Bool) (a:Act) (w:World),
   (∀j oj,ops[j]?=some oj->j≠i->listed.getD j true=false->(∀e∈oj.after,binds .any e->e.on≠i)->oi.apart ops oj=true) ->
   i∈ready .any ops listed->YieldsFenced P ops oi v a ->
   wpAnyIn F m P .any ops Q AV (listed.setIfInBounds i true) (a.put oi.dst v) w->wpAnyIn F m P .any ops Q (AV+1) listed a w:=by
 intro AV
 induction AV with
 |zero =>
  intro listed a w qd hr hy hw;refine⟨λh0=>(by grind),λj J=>?_⟩;by_cases e:j=i
  ·grind [yS]
  ·have:=ready_mono J e;rw[hw.1] at this
   grind
 |succ AV ih =>
  intro listed a w qd hr hy hw;refine⟨λh0=>(by grind),λj J=>?_⟩;by_cases e:j=i
  ·grind [yS]
  ·obtain⟨R,oj,C,hall⟩:=mem_ready.1 J;have ug:∀e∈oj.after,binds .any e->e.on≠i:=λed hed hb heq=>by
    grind [mem_ready,Array.getElem?_eq_none,le_of_not_lt]
   have iT:=qd j oj C e R ug;obtain⟨_,_,f3⟩:=Oper.apart_spec iT;refine wpOpIn_mono (λa' w' h3=>?_) (xT C iT (kT _ _ C) hQ (hw.2 j (ready_mono J e)));obtain⟨⟨u,D,rfl⟩,h3⟩:=h3;refine ih (listed.setIfInBounds j true) _ w' (λk ok hk hki I ib=>?_) (ready_mono hr (Ne.symm e)) ?_ (by grind [Array.setIfInBounds_comm])
   ·refine qd k ok hk hki ?_ ib;by_cases hjk:j=k
    ·grind
    ·rw[getD_set_ne true hjk] at I;exact I
   ·have hy':YieldsFenced P ops oi v ({ a with defers:=D }:Act):=hy.of_same rfl rfl (λ_=>rfl)
    exact hy'.of_same (execOp_put oi (kT _ _ hi).2 _ oj.dst u f3) (wanted_put oi _ oj.dst u f3) (λw=>about_put oi w _ oj.dst u f3)
end Jv
variable {dsts:List (Option Nat)}{u:St}{hv:Bool}{q:List Prop}{o:Oper}
theorem yW5{S':St}{T:Nat}{x y:Operand}{t:Ty}{l:List t.den}{k:IntKind}{i:Int}(J:o.op=.indexAddr T x y)(hg:o.guard=none)(hx:arg S' x=.val (.sl t) l)(hy:arg S' y=.val (.int k) i)
  (h:Js c dsts o S'=some (q,u,hv)) (I:∀p∈q,p):0<=i/\i<(l.length:Int):=by
 have C:∃R,JY c dsts o S'=some (q,R):=by
  grind [Js,SG]
 unfold JY at C;simp[Lh,LY,J,Jr,DI,zF,zK,Ia,fM,Ib] at C;split at C
 ·grind
 ·split at C
  ·grind
  ·cases hi:c.is T (.sl t) with
   |false=>grind
   |true =>
    simp[N4] at C;have e:q=Jm y i (l.length:Int):=by grind
    rw[e] at I;exact Ln I
theorem yS0(hc:CtxOk P c){S':St}(hR:Rel c.n χ0 w0 S' a w G)(gu:Js c dsts o S'=some (q,u,hv))(hq:∀p∈q,p)(h:SJ c S' o):∃v,YieldsFenced P ops o v a:=by
 unfold SJ at h;split at h
 ·rename_i d hg hd;have hw:wanted o (yielded ops a.tmps):=by grind [wanted]
  split at h
  ·rename_i x J;exact⟨a.eval x,.inl ⟨hw,λw=>by simp[execOp,J]⟩,λw=>by grind [Oper.about]⟩
  ·rename_i args ats t l T i U m J C;rw[J] at C;simp only[DI] at C;obtain⟨x,hx⟩:∃x,args.toList=[x]:=by
    cases hq:args.toList<;>simp_all
   rw[hx] at C;simp  at C;split at h
   ·rename_i T' hT';simp  at h;obtain⟨e',h1,h2⟩:=zG (DY hc.tys h.1);have I:=Jz hR x;rw[C] at I;have hv:∃b n k,a.eval x=.slice b n k:=by
     obtain⟨_,⟨he,_⟩ | ⟨_,⟨hv,_⟩ | ⟨cap,_,_,hv,_⟩⟩⟩:=I
     all_goals simp_all
    obtain⟨b,n,k,hv⟩:=hv;have ku:args=#[x]:=by grind
    have nz:ats=#[T']:=by grind
    subst ku;subst nz;refine⟨.int .i64 (n:Int),.inl ⟨hw,λw=>?_⟩,λw=>?_⟩
    ·simp[execOp,J,resolve,invoke,builtin,hv,Builtin.len_,run_underlying h1,goInt]
    simp_all [Oper.about,resolve,Target.leads]
   grind
  ·rename_i op T x y kd k p k' q J C;rw[J] at C;simp[DI] at C;have hk:=Nz (jC h);have I:=Jz hR x;have R:=Jz hR y;rw[C.1] at I;rw[C.2] at R;have I:=VRep_int.1 I;have R:=VRep_int.1 R;refine⟨.int k (k.wrap (p-q)),.inl ⟨hw,λw=>?_⟩,λw=>by grind [Oper.about]⟩;simp_all [execOp,zL0,binOp,Op.intArith]
  ·rename_i T x y t' l k i' J C;rw[J] at C;simp[DI] at C;have hb:=yW5 J hg C.1 C.2 gu hq;have I:=Jz hR x;have R:=Jz hR y;rw[C.1] at I;rw[C.2] at R;simp only[zA] at I R;have R:=VRep_int.1 R;rw[zC rfl] at I;obtain⟨ad,cap,qi,hx⟩:=I;injection qi with qi _
   rcases hx with rfl|⟨b,o',us,ha,h1,h2,h3⟩
   ·grind
   ·exact⟨.pointer (some ⟨b,o'+i'.toNat*t'.size,none⟩),.inl ⟨hw,λw=>by simp[execOp,J,qi,R,SV (DY hc.tys h) ha hb w]⟩,λw=>by grind [Oper.about]⟩
  grind
 grind
theorem yW6{i:Nat}:∀{l:List Oper}{C n:Nat}{oj:Oper},Ps ops i o C l->l[n]?=some oj->i<C+n->(∀e∈oj.after,binds .any e->e.on≠i)->o.apart ops oj:=by
 intro l
 induction l with
 |nil=>grind
 |cons x r R =>
  intro C n oj h hn J ib;simp only[Ps,jB,Bool.or_eq_true] at h;cases n with
  |zero =>
   rcases h.1 with I|I|I
   ·have:=jR I;omega
   ·grind [absurd,jC]
   grind
  |succ n=>grind
theorem yW7{all:List Oper}:∀{r:List Oper}{ts:List Tr}{i:Nat}{U:St},i<=Jv c all S i r ts U/\Jv c all S i r ts U<=i+r.length /\
  ∀j,i<=j->j<Jv c all S i r ts U->∃o,r[j-i]?=some o/\SJ c ((tex ts (j-i)++U)++S) o/\Ps all.toArray j o 0 all:=by
 intro r
 induction r with
 |nil=>grind [Jv]
 |cons o r J =>
  intro ts i U;cases ts with
  |nil=>simp only[Jv];exact⟨jI _,by omega,λj C I=>by omega⟩
  |cons t ts =>
   simp only[Jv];cases hb:(SJ c (U++S) o&&Ps all.toArray i o 0 all) with
   |false=>simp only[jD];exact⟨jI _,by omega,λj C I=>by omega⟩
   |true =>
    simp;obtain⟨C,I,h3⟩:=J (ts:=ts) (i:=i+1) (U:=t.u++U);refine⟨by omega,by grind,λj hj R=>?_⟩;by_cases e:j=i
    ·grind [tex]
    ·have e1:j-i=(j-(i+1))+1:=by omega
     grind [zX]
def Ig (n:Nat):Nat->Array Bool
 |0=>Array.replicate n false
 |i+1=>(Ig n i).setIfInBounds i true
theorem s9{n:Nat}:∀{i:Nat},(Ig n i).size=n:=by
 intro i
 induction i<;>grind [Ig]
theorem tI{n:Nat}:∀{i j:Nat},i<=n->((Ig n i).getD j false=true↔j<i):=by
 intro i
 induction i with
 |zero=>simp[Ig];grind
 |succ i C =>
  intro j I;by_cases e:i=j
  ·have:i<(Ig n i).size:=by grind [s9]
   simp_all [Ig]
  ·rw[Ig,getD_set_ne false e,C (by omega)];omega
def yH:Nat->List Nat
 |0=>[]
 |k+1=>k::yH k
theorem downs_mem{j:Nat}:∀{k:Nat},j∈yH k↔j<k:=by
 intro k
 induction k<;>grind [yH]
theorem xN0:∀{k:Nat},exe ts (yH k)=tex ts k:=by
 intro k
 induction k<;>grind [yH,exe,tex]
theorem xN1 (I:NP ts)(J:LZ 0 ops.toList):∀{k:Nat},k<=ops.size->Inv ops ts S (yH k):=by
 intro k
 induction k with
 |zero=>intro _;exact xM6 I
 |succ k R =>
  intro hk;have C:k<ops.size:=by omega
  refine Inv.cons I (λj ti tj hj _ _ hij=>?_) (R (by omega)) (Array.getElem?_eq_getElem C) (λh=>?_) (λe he hb=>?_)
  ·grind [downs_mem]
  ·grind [downs_mem]
  ·have:=zR5 (ops:=ops.toList) (j:=k) (o:=ops[k]) J (by grind) e he hb
   grind [downs_mem]
variable {k:Nat}
theorem xT0:∀{n:Nat},((range n).filter λi=>!((yH k).contains i)).length<=n-k:=by
 intro n
 induction n with
 |zero=>simp
 |succ n J =>
  rw[List.range_succ,List.filter_append,jO];by_cases h:n<k
  ·have C:n∈yH k:=downs_mem.2 h;have I:([n].filter λi=>!((yH k).contains i))=[]:=by simp[C]
   rw[I,List.length_nil];omega
  ·have:([n].filter λi=>!((yH k).contains i)).length<=1:=List.length_filter_le _ _;omega
theorem xN2{K:Act->Prop}(hK:∀o∈ops.toList,∀a v,K a->K (a.put o.dst v))(hc:CtxOk P c)(R:Te c (ops.toList.map (·.dst)) ops.toList S [] ts p)(hS:∀e∈S,e.2.hasOpt=false)(hp:∀q∈p,q)(hE:LZ 0 ops.toList=true)
  {Q:Exit->Act->World->Prop}(hQ:∀e a w,e≠.normal->¬Q e a w){fk:Nat}(hks:k<=ops.size) (hk:∀j,j<k->∃o,ops[j]?=some o/\SJ c (tex ts j++S) o/\Ps ops j o 0 ops.toList=true)
  (kS:∀a w G,Rel c.n χ0 w0 (tex ts k++S) a w G->K a->wpAnyIn (fz rd) 0 P .any ops Q fk (Ig ops.size k) a w) :
  ∀n i,i+n=k->∀a w G,Rel c.n χ0 w0 (tex ts i++S) a w G->K a->wpAnyIn (fz rd) 0 P .any ops Q (fk+n) (Ig ops.size i) a w:=by
 have kT:∀(j:Nat) (o:Oper),ops[j]?=some o->(∀d,o.op≠.defer d)/\∀cs b,o.op≠.select cs b:=λj o C=>by
  obtain⟨_,_,h1,_⟩:=R j o (by grind);exact yW4 h1
 intro n
 induction n with
 |zero=>grind
 |succ n ih =>
  intro i hi a w G hR qn;obtain⟨o,C,h1,h2⟩:=hk i (by omega);obtain⟨pi,hv,I,_,q3,_⟩:=R i o (by grind);rw[append_nil] at I;obtain⟨v,hy⟩:=yS0 (ops:=ops) hc hR I (λq hq=>hp q (q3 q hq)) h1;have hw:=yN2 (rd:=rd) (Q:=λ_ _ _=>False) (next:=λa' w'=>∃G',Rel c.n χ0 w0 (tex ts (i+1)++S) a' w' G') hc R hS hp C hR (λv w' G' J=>⟨G',by grind [tex,append_assoc]⟩)
  have hb:∃G',Rel c.n χ0 w0 (tex ts (i+1)++S) (a.put o.dst v) w G':=by
   unfold wpOpIn at hw;simp only[C] at hw;rcases hy.1 with ⟨I,q2⟩ | ⟨I,rfl⟩
   ·simp[I] at hw;unfold Oper.wpIn at hw;rw[Oper.semAt_eq _ _ _ (kT _ _ C).1,q2 w] at hw;exact hw.2
   grind
  obtain⟨G',J⟩:=hb;refine xN C kT hQ (fk+n) (Ig ops.size i) a w (λj oj hj hji hun ib=>?_) (mem_ready.2 ⟨?_,o,C,λe he hbd=>?_⟩) hy (ih (i+1) (by omega) _ _ G' J (hK o (List.mem_of_getElem? (by simpa using C)) _ _ qn))
  ·refine yW6 (n:=j) h2 (by grind) ?_ ib
   grind [tI,Ig,s9]
  ·grind [Ig,s9,Array.getElem?_eq_some_iff,tI]
  ·have:=zR5 (ops:=ops.toList) (j:=i) (o:=o) hE (by grind) e (by grind) hbd
   grind [tI]
end draw
variable {gtab:GlobTab}{P:Program}{c:Ctx}{G:Gh}{w:World}{tm:Array Value}{n:Nat}{χ0:Nat->Nat->Nat}{w0:World}{S:St}{a:Act}
def Gh.rename (G:Gh)(T U:Nat):Gh:=
 {χ:=λb o=>if G.χ b o=AM T then AM U else G.χ b o,β:=G.β,γ:=λk=>if k=U then G.γ T else G.γ k }
variable {U T:Nat}
theorem Mf:∀b o,b<w.heap.size->G.χ b o=0->(G.rename T U).χ b o=0/\w.cell? ⟨b,o,none⟩=w.cell? ⟨b,o,none⟩:=by
 grind [Gh.rename,DG]
theorem rename_ext:Ext (λx=>x=AM T\/x=AM U) (λx=>x=AM U) G w (G.rename T U) w:=by
 refine⟨Mf,λb _ h=>⟨rfl,λo=>?_⟩,jI _,λ_ _=>rfl,λk C=>?_,λ_ h=>.inr h⟩
 ·simp_all [Gh.rename]
 ·simp only[Gh.rename];rw[if_neg λe=>C (by rw[e])]
variable {t:Ty}{v:Value}
theorem yJ6{l:List t.den}{m:Bool}(h:BQ G w t l T m v):BQ (G.rename T U) w t l U m v:=by
 refine zW (λh=>⟨h.1,?_⟩) (by simp[Gh.rename]) rfl Mf (λ_ hc o=>?_) h
 rotate_left
 ·grind [Gh.rename]
 rcases h.2 with h|⟨cap,cur,e,us,h1,h2,C,I,J,R,h7,h8⟩
 ·grind
 ·have hg:(G.rename T U).γ U=G.γ T:=by simp[Gh.rename]
  refine .inr ⟨cap,cur,e,us,by grind,by grind,C,I,J,Fg (λ_ _ h=>CX Mf h) R,h7,λo=>?_⟩;rw[hg];simp only[Gh.rename,h8 o];split
  ·rw[if_neg (DG T)]
  ·rw[if_pos rfl]
theorem yJ7(h:SB T S)(s:Nat):(S.get s).hasTag T=false:=by
 by_cases C:S.get s=.junk
 ·rw[C];rfl
 ·have I:=P3 C;simp only[St.has,any_eq_true] at I;obtain⟨e,he,hb⟩:=I;have:=all_eq_true.1 h e he
  grind [jC]
variable {T':Nat}
theorem J1(h:T'≠U):(G.rename T U).γ (cond (Nat.beq T T') U T')=G.γ T':=by
 cases hb:Nat.beq T T'<;>simp_all [Gh.rename]
theorem uB{b o:Nat}(h:G.χ b o=AM T'):(G.rename T U).χ b o=AM (cond (Nat.beq T T') U T'):=by
 cases hb:Nat.beq T T' with
 |true=>simp_all [Gh.rename]
 |false=>simp[Gh.rename];rw[if_neg (λe=>by rw[h] at e;have:=CL e;simp_all),h]
theorem yW8(I:T'≠U){l:List t.den}{m:Bool}(h:Ha G w t l T' m v):Ha (G.rename T U) w t l (cond (Nat.beq T T') U T') m v:=by
 refine⟨h.1,?_⟩;rcases h.2 with h|⟨cap,cur,e,us,h1,h2,J,R,h5,h6,h7,h8⟩
 ·grind
 ·refine .inr ⟨cap,cur,e,us,by grind [J1],by grind [J1],J,R,h5,Fg (λ_ _ h=>CX Mf h) h6,h7,λo=>?_⟩;rw[J1 I];have C:=h8 o;by_cases hc:m=false/\o<l.length*t.size
  ·grind [Mf,EZ]
  ·rw[if_neg hc] at C ⊢;exact uB C
variable {V:Nat}
theorem yS1(C:T'≠U)(I:V≠U)(h:T'≠V):(cond (Nat.beq T T') U T')≠(cond (Nat.beq T V) U V):=by
 grind [Nat.beq,absurd,jC]
variable {i:Nat}
theorem yW9(I:T'≠U)(J:V≠U){l:List (List t.den)}{m:Bool}(h:Jw G w t l T' i V m v) :
  Jw (G.rename T U) w t l (cond (Nat.beq T T') U T') i (cond (Nat.beq T V) U V) m v:=by
 obtain⟨hv,⟨he,⟨hm,x,ad,cap,q1,q2,R⟩ | ⟨hm,hK⟩⟩ | ⟨kh,h|⟨cap,cur,e,g1,g2,g3,g4,g5,g6,g7⟩⟩⟩:=h
 ·subst he;refine⟨hv,.inl ⟨rfl,.inl ⟨hm,x,ad,cap,q1,q2,?_⟩⟩⟩;rcases R with R|⟨o,us,cur,e,k1,k2,k3,k4,k5,k6⟩
  ·grind
  ·exact .inr ⟨o,us,cur,e,by grind [J1],k2,by grind [J1],Fg (λ_ _ h=>CX Mf h) k4,k5,λo=>by grind [J1,uB]⟩
 ·subst he;refine⟨hv,.inl ⟨rfl,.inr ⟨hm,?_⟩⟩⟩;rcases hK with h|⟨cap,cur,e,g1,g2,g3,g4,g5,g6,g7⟩
  ·exact .inl h
  ·refine .inr ⟨cap,cur,e,by grind [J1],by grind [J1],g3,g4,g5,λo=>by grind [J1,uB],λj x hj hji=>?_⟩
   grind [CX,Mf]
 ·refine⟨hv,.inr ⟨yS1 I J kh,.inl h⟩⟩
 ·refine⟨hv,.inr ⟨yS1 I J kh,.inr ⟨cap,cur,e,by grind [J1],by grind [J1],g3,g4,g5,λo=>by rw[J1 I];exact uB (g6 o),λj x hj=>?_⟩⟩⟩;obtain⟨u,hu,C⟩:=g7 j x hj;refine⟨u,hu,?_⟩;by_cases e:j=i
  ·rw[if_pos e] at C ⊢;exact yW8 J C
  ·rw[if_neg e] at C ⊢;exact CX Mf C
theorem yS2(C:Rel n χ0 w0 S a w G)(hn:n<=BP)(hU:SB U S)(hlt:∀e∈CW T (AVal.retagH T U) S S,e.1<n) :
  Rel n χ0 w0 (CW T (AVal.retagH T U) S S++S) a w (G.rename T U):=by
 have h0:¬((0:Nat)=AM T\/(0:Nat)=AM U):=by rintro (e|e);exact DG _ e;exact DG _ e
 have hor:∀{t:Ty}{l:List t.den}{T':Nat}{m:Bool}{v:Value},¬T'=U->Nat.beq T T'=false->BQ G w t l T' m v->BQ (G.rename T U) w t l T' m v:=by
  intro t l T' m v I hb J;refine Hb rename_ext h0 ?_ J;rintro (e|e)
  ·have:=CL e;simp_all
  grind [CL]
 have R:MapOk (λk=>k=U) G w (G.rename T U) w (λt l T' m=>.own t l (cond (Nat.beq T T') U T') m) (λs T' t i p=>.eref s (cond (Nat.beq T T') U T') t i p):=by
  refine⟨Mf,λs=>rfl,λs kg hl=>⟨rfl,λo=>?_⟩,λt l T' m v I J hf=>?_,λt l T' m v I J tm=>?_,λs T' t i p v I tm ha=>?_⟩
  ·simp_all [Gh.rename,CK]
  ·simp only[AF];cases hb:Nat.beq T T' with
   |true=>have:=jC hb;subst this;exact⟨trivial,v,rfl,yJ6 J⟩
   |false=>exact⟨trivial,v,rfl,hor I hb J⟩
  ·grind [zA,Nat.beq,jC,yJ6]
  ·simp only[zA] at ha ⊢;cases hb:Nat.beq T T' with
   |true=>grind [jC,Gh.rename]
   |false=>rw[jD,rename_ext.tag (w:=w) T' λe=>I (CL e)];grind
 refine yF9 (U:=T) C hn rename_ext h0 ?_ (λs hs=>?_) (λs hs=>yQ7 hs (yJ7 hU s)) hlt
 ·refine⟨C.frame.os,C.frame.tape,C.frame.output,C.frame.size,C.frame.block,λb o hb hc=>?_⟩;have:=C.frame.cell b o hb hc;simp only[Gh.rename]
  grind [I4]
 ·have qx:=C.reps s;have ib:=yJ7 hU s;generalize S.get s=A at qx ib ⊢;cases A with
  |ownh t l T' i V m =>
   simp[AVal.hasTag] at ib;exact yW9 (λe=>by simp_all) (λe=>by simp_all) qx
  |_=>exact R.arep (λk hk=>by subst hk;exact ib) qx
variable {rd:Option Nat}{gtab:GlobTab}{P:Program}{c:Ctx}{G:Gh}{w:World}{tm:Array Value}{n:Nat}{χ0:Nat->Nat->Nat}{w0:World}{S:St}{a:Act}
variable {G':Gh}
theorem xA2{X:Nat->Prop}(I:∀x,X x->x=AM T)(C:Ext X (λ_=>False) G w G' w):MapOk (λ_=>False) G w G' w (λt l T' m=>cond (Nat.beq T T') (.junk) (.own t l T' m)) (λs T' t i p=>cond (Nat.beq T T') (.junk) (.eref s T' t i p)):=by have h0:¬X 0:=λh=>DG _ (I 0 h);refine⟨C.prot,λs=>C.box s id,λs kg J=>?_,λt l T' m v _ R hf=>?_,λt l T' m v _ R tm=>?_,λs T' t i p v _ tm ha=>?_⟩;have:=C.block _ J (λo=>by grind [CK]);grind;(cases hb:Nat.beq T T' with|true=>grind [AVal.fitsT]|false=>simp only[jD,AF];exact⟨trivial,v,rfl,Hb C h0 (λe=>by have:=CL (I _ e);simp_all) R⟩);(cases hb:Nat.beq T T' with|true=>simp[zA]|false=>exact Hb C h0 (λe=>by have:=CL (I _ e);simp_all) R);cases hb:Nat.beq T T' with|true=>simp[zA]|false=>simp[zA] at ha ⊢;rw[C.tag T' id];grind
theorem xN3{g:(t:Ty)->List t.den->Nat->Bool->AVal}{h:Nat->Nat->Ty->Int->yI->AVal}(H:MapOk (λ_=>False) G w G' w g h):∀{b:AVal}{f:Ty}{k:Nat}{vs:List Value}{t:Ty}{l:List t.den}{m:Bool},AF G w f b vs->b.nth k=.own t l T m->(∀v,BQ G w t l T m v->BQ G' w t l T false v)->((b.mapOwn g h).setNth k (.own t l T false)).fitsT f->AF G' w f ((b.mapOwn g h).setNth k (.own t l T false)) vs:=by intro b;induction b with|cons x y _ kV=>intro f k vs t l m ht J R C;obtain⟨h1,t1,us,ws,rfl,rfl,I,h3⟩:=ht;(cases k with|zero=>subst J;obtain⟨rfl,v,rfl,I⟩:=I;simp[AVal.mapOwn,AVal.setNth,AVal.fitsT,GU] at C ⊢;exact⟨_,_,_,_,rfl,rfl,⟨rfl,v,rfl,R v I⟩,H.trep (λ_ h=>h.elim) h3 (Pv C.2)⟩|succ k=>simp[AVal.mapOwn,AVal.setNth,AVal.fitsT,GU] at C ⊢;exact⟨_,_,_,_,rfl,rfl,H.trep (λ_ h=>h.elim) I (Pv C.1),kV h3 J R C.2⟩)|_=>grind [AVal.nth]
theorem xX1{l:List t.den}{m:Bool}:∀{b:AVal}{f:Ty}{k:Nat}{us:List Value},AF G w f b us->b.nth k=.own t l T m->∃v,BQ G w t l T m v:=by intro b;induction b with|cons x y _ kV=>intro f k us ht uq;cases k<;>grind [AVal.nth,AF]|_=>grind [AVal.nth]
variable {k s:Nat}
theorem xN4(I:Rel n χ0 w0 S a w G)(hn:n<=BP)(C:SL k (S.get s)=some T)(hlt:∀e∈(s,Ix k (S.get s))::CW T (AVal.gone T) S S,e.1<n):∃G',Rel n χ0 w0 (((s,Ix k (S.get s))::CW T (AVal.gone T) S S)++S) a w G':=by have hs:=I.reps s;(have main:∀G',Ext (λx=>x=AM T) (λ_=>False) G w G' w->Frame0 χ0 w0 G'.χ w->(zA G' w a.tmps (some s) (Ix k (S.get s)) (a.tmps.getD s undef))->∃G',Rel n χ0 w0 (((s,Ix k (S.get s))::CW T (AVal.gone T) S S)++S) a w G':=by intro G' hx hfr gu;refine⟨G',?_⟩;have:=Hd (u:=(s,Ix k (S.get s))::CW T (AVal.gone T) S S) (dst:=none) (v:=undef) I hn hlt (λd e=>by grind) hx (λe=>DG _ e) hfr (λs' qu=>?_) (λs d e=>by grind) (λs' qu=>?_);exact this;refine yU8 (λx h=>h) ?_;(cases ht:(S.get s').hasTag T with|false=>rfl|true=>have:=r0 (k:=AVal.gone T) (P3 (WY ht)) ht;grind [St.has]);rw[NN];by_cases e:s=s';simp_all [St.get];(have J:Nat.beq s s'=false:=by grind [Nat.beq,absurd,jC]);(have h2:Nat.beq s BP=false:=by cases hb:Nat.beq s BP with|false=>rfl|true=>have:=hlt (s,Ix k (S.get s)) (by simp);grind [jC]);(have hs'':St.has s' (CW T (AVal.gone T) S S):=by grind [St.has]);(have gq:St.get ((s,Ix k (S.get s))::CW T (AVal.gone T) S S) s'=AVal.gone T (S.get s'):=by grind [St.get,p9]);rw[gq];exact (xA2 (λx h=>h) hx).arep (λ_ h=>h.elim) (I.reps s'));generalize hA:S.get s=A at hs C main ⊢;cases A with|own t l T' m=>simp[SL] at C;subst C;(cases gH:t.isL with|true=>exact main G ⟨λ_ _ _ h=>⟨h,rfl⟩,λ_ _ _=>⟨rfl,λ_=>rfl⟩,jI _,λ_ _=>rfl,λ_ _=>rfl,λ_ h=>h.elim⟩ I.frame (by grind [Ix,zA])|false=>obtain⟨G',J,h2,h3⟩:=r8 gH I.frame hs;grind [Ix,zA])|box τ b=>simp only[SL] at C;split at C;rename_i t l T' m uq;injection C with C;subst C;(cases b with|agg f b=>simp only[AVal.fld] at uq;obtain⟨hv,km,cur,e,g1,g2,g3⟩:=hs;obtain⟨rfl,g2⟩:=g2;have kW:∃v,BQ G w t l T' m v:=xX1 g2 uq;obtain⟨v0,ho⟩:=kW;(cases gH:t.isL with|true=>exact main G ⟨λ_ _ _ h=>⟨h,rfl⟩,λ_ _ _=>⟨rfl,λ_=>rfl⟩,jI _,λ_ _=>rfl,λ_ _=>rfl,λ_ h=>h.elim⟩ I.frame (by grind [Ix,zA])|false=>obtain⟨G',J,h2,h3,h4⟩:=r8 gH I.frame ho;refine main G' J h2 ?_;simp only[Ix,uq,gH];generalize kl:((b.gone T').setNth k (.own t l T' false)).fitsT f=fit;cases fit with|false=>simp[zA]|true=>have hb:=J.block (G.β s) (EZ g1) (λo=>by grind [CK]);refine⟨by grind,km,cur,e,by grind,?_,λo=>by grind⟩;simp only[AF];exact⟨trivial,xN3 (xA2 (λx h=>h) J) g2 uq h4 kl⟩)|_=>exact main G ⟨λ_ _ _ h=>⟨h,rfl⟩,λ_ _ _=>⟨rfl,λ_=>rfl⟩,jI _,λ_ _=>rfl,λ_ _=>rfl,λ_ h=>h.elim⟩ I.frame (by simp[Ix,zA]));grind|ownh t l T' i U m=>simp only[SL] at C;(cases hTU:Nat.beq T' U with|true=>grind|false=>simp[hTU,jD,jA] at C;subst C;obtain⟨km,⟨he,_⟩ | ⟨kh,uk⟩⟩:=hs;simp_all;(have kS:∀(G':Gh),Ext (λx=>x=AM U) (λ_=>False) G w G' w->(∀u,Ha G w t (getD (α:=List t.den) l i []) U m u->i<length (α:=List t.den) l->AP G'.χ w (.sl t) (getD (α:=List t.den) l i []) [u])->Ha G' w (.sl t) l T' true (a.tmps.getD s undef):=by intro G' hx hcr;refine⟨⟨by simp[Ty.plain,km.1,km.2],rfl⟩,?_⟩;rcases uk with h|⟨cap,cur,e,J,h2,h3,h4,h5,h6,h7⟩;grind;have hb:=hx.block (G.γ T') (EZ h2) (λo=>by grind [CL]);have hg:=hx.tag T' (λh=>h);refine .inr ⟨cap,cur,e,cur.toList.take (length (α:=List t.den) l),by grind,by grind,h3,h4,by grind [Ty.size],?_,by simp[Ty.size],λo=>by grind⟩;refine xR9 (α:=List t.den) (R:=AP G'.χ w (.sl t)) (l:=l) (us:=List.take (length (α:=List t.den) l) cur.toList) (by grind) λj x hj=>?_;obtain⟨u,hu,hr⟩:=h7 j x hj;(have iI:j<length (α:=List t.den) l:=by grind);refine⟨u,by grind,?_⟩;by_cases e:j=i;rw[if_pos e] at hr;subst e;(have gB:getD (α:=List t.den) l j []=x:=by rw[jM,hj];rfl);rw[<-gB] at hr ⊢;exact hcr u hr iI;rw[if_neg e] at hr;exact CX hx.prot hr);by_cases gS:i<length (α:=List t.den) l/\∃u,Ha G w t (getD (α:=List t.den) l i []) U m u;obtain⟨hi,u,hu⟩:=gS;obtain⟨G',J,h2,h3,h4⟩:=r8 km.2 I.frame (.inl hu);exact main G' J h2 (by exact .inl (kS G' J λu' gR _=>G3 (h4 u' (.inl gR))));exact main G ⟨λ_ _ _ h=>⟨h,rfl⟩,λ_ _ _=>⟨rfl,λ_=>rfl⟩,jI _,λ_ _=>rfl,λ_ _=>rfl,λ_ h=>h.elim⟩ I.frame (by exact .inl (kS G ⟨λ_ _ _ h=>⟨h,rfl⟩,λ_ _ _=>⟨rfl,λ_=>rfl⟩,jI _,λ_ _=>rfl,λ_ _=>rfl,λ_ h=>h.elim⟩ λu hu hi=>absurd ⟨hi,u,hu⟩ gS)))|_=>simp[SL] at C
theorem xT1{k:AVal->AVal}:∀{R:St}{s:Nat},St.has s (Ll T k S R)->(Ll T k S R).get s=k (S.get s)/\(S.get s).hasRef T=true\/(∃e∈Ll T k S R,e.1=BP):=by intro R;induction R<;>grind [Ll,St.has,St.get,Nat.beq,jQ,jC]
variable {u:St}
theorem xF2(I:Rel n χ0 w0 S a w G)(hn:n<=BP)(h:yT2 S s=some u)(J:∀e∈u,e.1<n):∃G',Rel n χ0 w0 (u++S) a w G':=by unfold yT2 at h;split at h;rename_i τ b hA;split at h;rename_i x hx;injection h with h;subst h;have R:=I.reps s;rw[hA] at R;obtain⟨hv,km,cur,e,g1,g2,g3⟩:=R;have hc:=Kb hx g2;have hE:Ext (λx=>x=BM s) (λ_=>False) G w (G.still (G.β s) cur.size) w:=yR0 λo _=>.inr (g3 o);have hF:Frame0 χ0 w0 (G.still (G.β s) cur.size).χ w:=yG I.frame λo _=>.inr (by grind [NO]);(have hptr:∀tm os,zA (G.still (G.β s) cur.size) w tm os (.val (.ptr τ) x) (.pointer (some ⟨G.β s,0,none⟩)):=by intro tm os;refine (zC rfl).2 ?_;refine⟨G.β s,0,cur.toList,rfl,CX zY4 hc,λj v hj=>?_⟩;grind [cell?,Gh.still]);refine⟨G.still (G.β s) cur.size,?_⟩;have:=Hd (u:=(s,.val (.ptr τ) x)::Ll s (N9 s τ x) S S) (dst:=none) (v:=undef) I hn J (λd e=>by grind) hE (λe=>Hw _ e) hF (λC qu=>?_) (λs d e=>by grind) (λC qu=>?_);exact this;refine zY6 λe=>?_;simp_all [St.has];rw[NN];by_cases e:s=C;simp_all [St.get];(have h1:Nat.beq s C=false:=by grind [Nat.beq,absurd,jC]);(have h2:Nat.beq s BP=false:=by grind [Nat.beq,jQ,jC]);(have hs'':St.has C (Ll s (N9 s τ x) S S):=by grind [St.has]);(have gq:St.get ((s,.val (.ptr τ) x)::Ll s (N9 s τ x) S S) C=N9 s τ x (S.get C):=by grind [St.get,xT1]);rw[gq];have hr:=I.reps C;generalize S.get C=B at hr;(cases B with|ref s2 τ2 p=>(cases p with|nil=>simp only[N9];generalize hb:(Nat.beq s s2&&Ty.beq τ2 τ)=bb;cases bb<;>simp_all [zA,Ty.poff]|cons _ _=>grind [N9,zA])|_=>simp[N9,zA]);grind;grind
theorem xF3(I:Rel n χ0 w0 S a w G)(J:n<=BP){g:Nat×Nat×Nat×Nat}(h:xI0 S g=some u)(C:∀e∈u,e.1<n):∃G',Rel n χ0 w0 (u++S) a w G':=by obtain⟨kind,s,k,U⟩:=g;simp only[xI0] at h;cases R:Nat.beq kind 3 with|true=>simp[R] at h;exact xF2 I J h C|false=>simp[R,jD] at h;cases h4:Nat.beq kind 4 with|true=>simp[h4] at h;(cases hb:Nat.beq k U with|true=>grind|false=>simp[hb] at h;cases hu:SB U S with|false=>grind|true=>simp[hu] at h;subst h;exact⟨_,yS2 I J hu C⟩)|false=>simp[h4] at h;cases h5:Nat.beq kind 5 with|true=>simp[h5] at h;subst h;exact⟨G,yZ8 I J C⟩|false=>simp[h5] at h;split at h;grind;rename_i T hT;split at h;(cases hb:Nat.beq T U with|true=>grind|false=>simp[hb] at h;cases hu:SB U S with|false=>grind|true=>simp[hu] at h;subst h;exact⟨_,yS2 I J hu C⟩);injection h with h;subst h;exact xN4 I J hT C;injection h with h;subst h;exact⟨G,yZ8 I J C⟩
theorem yJ8 (J:n<=BP):∀{gs:List (Nat×Nat×Nat×Nat)}{S:St}{G:Gh}{u:St},Rel n χ0 w0 S a w G->SM gs S=some u->(∀e∈u,e.1<n)->∃G',Rel n χ0 w0 (u++S) a w G':=by intro gs;induction gs with|nil=>grind [SM,jA]|cons g r R=>intro S G u hR h C;simp only[SM] at h;split at h;grind;rename_i u1 h1;split at h;grind;rename_i u2 h2;injection h with h;subst h;obtain⟨G1,I⟩:=xF3 hR J h1 λe he=>C e (mem_append_right _ he);rw[append_assoc];exact R I h2 λe he=>C e (mem_append_left _ he)
theorem xT2{f:AVal->AVal}:∀{u:St}{s:Nat},(∀e∈u,e.1≠BP)->St.get (u.map (λe=>(e.1,f e.2))++S) s=if St.has s u=true then f (u.get s) else S.get s:=by intro u;induction u with|nil=>grind [St.has]|cons e r C=>intro s I;obtain⟨k,A⟩:=e;(have J:Nat.beq k BP=false:=by grind [Nat.beq,absurd,jC,jQ]);simp only[map_cons,List.cons_append,St.get];cases R:Nat.beq k s with|true=>grind [St.has]|false=>(have:St.has s ((k,A)::r)=St.has s r:=by simp_all [St.has]);grind
theorem xT3(C:Rel n χ0 w0 (u++S) a w G)(hu:∀e∈u,e.1≠BP):Rel n χ0 w0 (u.map (λe=>(e.1,cond e.2.hasOpt (.junk) e.2))++S) a w G:=by refine⟨C.len,C.defers,λs=>?_,C.frame,C.glob⟩;have:=C.reps s;rw[xT2 (f:=λA=>cond A.hasOpt (.junk) A) hu];grind [NM,zA,Lr]
variable {id:Nat}
theorem yS3{ops:Array Oper}{K:Act->Prop}(hK:∀o∈ops.toList,∀a v,K a->K (a.put o.dst v))(hc:CtxOk P c)(hm:P.follows .mixedOrders){gh:List (Nat×Nat×Nat×Nat)}{draw:Bool}{p:List Prop}(h:yT3 c gh ops.toList draw S=some (p,u))(hp:∀q∈p,q)(C:Rel c.n χ0 w0 S a w G)(hk:K a){Q:Exit->Act->World->Prop}(hQ:∀J w' G',Rel c.n χ0 w0 (u++S) J w' G'->K J->Q .normal J w'):(Code.region id ops draw).wpIn (fz rd) 0 P Q a w:=by unfold yT3 at h;cases hS:S.any (λe=>e.2.hasOpt) with|true=>grind|false=>simp only[hS,jD] at h;(have R:∀e∈S,e.2.hasOpt=false:=by grind);split at h;grind;rename_i p0 u0 ts ke;obtain⟨hl,rfl,hF⟩:=xE8 ke;simp only[append_nil,jN] at hl h;(have hn:NP ts:=by intro j e he;obtain⟨t,ht,_⟩:=yN3 he;(have hj:j<ops.toList.length:=by grind);obtain⟨pi,hv,_,_,_,_,q5⟩:=hF j ops.toList[j] (jL hj);have:=q5 e he;have:=hc.n;omega);(have htex:∀k,∀e∈tex ts k,e.1≠BP:=by intro k;induction k with|zero=>intro e he;cases he|succ k ih=>intro e he;rcases mem_append.1 he with he|he;exact hn k e he;grind);generalize hgo:(!draw||(LZ 0 ops.toList&&(Ma 0 [] (ahead ops.toList []) ts||Ma (Jv c ops.toList S 0 ops.toList ts []) [] (ahead ops.toList []) ts)))=go at h;cases go with|false=>grind|true=>split at h;rename_i u' gR;generalize hlt:u'.all (λe=>blt e.1 c.n)=lt at h;(cases lt with|false=>grind|true=>obtain⟨rfl,rfl⟩:=h;(have fin:∀J w' G',Rel c.n χ0 w0 (tex ts ops.size++S) J w' G'->K J->Q .normal J w':=by intro J w' G' hR' qn;obtain⟨G'',hR''⟩:=yJ8 hc.n (xT3 hR' (htex _)) gR λe he=>Nat.blt_eq.mp (all_eq_true.1 hlt e he);grind);cases draw with|false=>refine wpIn_region ?_;have:=xS3 (rd:=rd) hK hc hF R hp fin ops.size 0 (by omega) a w G (by grind [tex]) hk;rwa [List.range_eq_range']|true=>simp at hgo;have hx:Ext (λ_=>False) (λ_=>False) G w G { w with drawn:=w.drawn+1 }:=⟨λ_ _ _ h=>⟨h,rfl⟩,λ_ _ _=>⟨rfl,λ_=>rfl⟩,jI _,λ_ _=>rfl,λ_ _=>rfl,λ_ h=>h⟩;have hR1:Rel c.n χ0 w0 S a { w with drawn:=w.drawn+1 } G:=⟨C.len,C.defers,λs=>jY hx (λh=>h) _ (yG2 _ _) (C.reps s),⟨C.frame.os,C.frame.tape,C.frame.output,C.frame.size,C.frame.block,C.frame.cell⟩,NA hx.prot C.glob⟩;obtain⟨hE,ho|ho⟩:=hgo;refine wpIn_region_any hm ?_;refine xA1 hK hc hF R hp (xV2 ho) hn hE fin ops.size _ [] a _ G (by simp) (λj=>?_) (λj hj=>absurd hj (Nat.not_lt_zero _)) (xM6 hn) ?_ (by grind [exe]) hk;simp;grind;grind;obtain⟨_,I,mw⟩:=yW7 (c:=c) (S:=S) (all:=ops.toList) (r:=ops.toList) (ts:=ts) (i:=0) (U:=[]);generalize Jv c ops.toList S 0 ops.toList ts []=k at ho I mw;(have I:k<=ops.size:=by grind);refine wpIn_mono (Q:=λe a w=>e=.normal/\Q .normal a w) (wpIn_region_any hm ?_) (λe a w h=>by grind);have:=xN2 (rd:=rd) (Q:=λe a w=>e=.normal/\Q .normal a w) (k:=k) (fk:=ops.size-k) hK hc hF R hp hE (λe a w kh h=>kh h.1) I (λj hj=>?_) (λa w G C hk=>?_) k 0 (by omega) a _ G (by simpa[tex] using hR1) hk;rw[show ops.size-k+k=ops.size by omega] at this;exact this;obtain⟨o,q1,q2,q3⟩:=mw j (Nat.zero_le _) hj;exact⟨o,by grind,by grind,by simpa using q3⟩;exact xA1 hK hc hF R hp (xV2 ho) hn hE (λJ w' G' hR' qn=>⟨rfl,fin J w' G' hR' qn⟩) (ops.size-k) (Ig ops.size k) (yH k) a w G s9 (λj=>(tI I).trans downs_mem.symm) (λj hj=>downs_mem.2 hj) (xN1 hn hE I) xT0 (by grind [xN0]) hk);grind
variable {gtab:GlobTab}{P:Program}{c:Ctx}{G:Gh}{w:World}{tm:Array Value}{n:Nat}{χ0:Nat->Nat->Nat}{w0:World}{S:St}{a:Act}
theorem uC{χ:Nat->Nat->Nat}:AP χ w (.sl t) ([]:List t.den) [.slice none 0 0]:=by grind [AP]
theorem Xf{m:Bool}(h:(t.plain&&!t.isL)):BQ G w t [] T m (.slice none 0 0):=by simp at h;exact .inl ⟨h,.inl ⟨rfl,rfl⟩⟩
theorem yN4{t':Ty}{l':List t'.den}{l2:(Ty.sl t).den}(h:Ty.cast (a:=.sl t') (.sl t) l'=some l2):t'=t/\HEq l' l2:=by obtain⟨e,h⟩:=EE h;injection e with e;subst e;simp_all
theorem yH0:∀{A B:AVal}{τ:Ty}{vs:List Value},(AY true A B).fitsT τ->AF G w τ A vs->AF G w τ (AY true A B) vs:=by intro A;induction A with|val τ' x=>intro B τ vs C h;(cases B with|val τ2 y=>grind [AY,AVal.fitsT]|nil=>cases τ'<;>simp[AY,AVal.fitsT] at C;grind [AY]|agg f b=>cases τ'<;>simp[AY,AVal.fitsT] at C;grind [AY,AVal.fitsT]|own t l T m=>grind [AY,WC,AVal.fitsT]|_=>grind [AY,AVal.fitsT])|nil=>intro B τ vs C h;obtain⟨J,rfl⟩:=h;(cases B with|nil=>grind [AY,AF]|val τ2 y=>cases τ2<;>simp only[AY,AVal.fitsT,Bool.false_eq_true] at C;simp at C;have e:=Ty.eq_of_beq C.1;subst e;exact⟨rfl,rfl,uC⟩|own t l T m=>simp only[AY] at C ⊢;generalize R:(t.plain&&!t.isL)=b at C;(cases b with|false=>grind [AVal.fitsT]|true=>simp at C ⊢;have e:=Ty.eq_of_beq C;subst e;simp only[AF];exact⟨trivial,_,rfl,Xf R⟩)|_=>grind [AY,AVal.fitsT])|own t l T m=>intro B τ vs C h;(cases B with|nil=>grind [AY,AVal.fitsT]|own t' l' T' m'=>grind [AY,Nat.beq,AVal.fitsT]|val τ2 y=>simp[AY,WB] at C ⊢;(cases m with|true=>grind [AVal.fitsT]|false=>simp at C ⊢;split at C;obtain⟨rfl,v,rfl,ho⟩:=h;simp only[AF];exact⟨trivial,rfl,G3 ho⟩;grind [AVal.fitsT])|_=>grind [AY,AVal.fitsT])|agg f x ih=>intro B τ vs C h;(cases B with|agg f' b=>grind [AY,AVal.fitsT,AF]|val τ2 y=>cases τ2<;>simp[AY,AVal.fitsT] at C;simp only[AY] at C ⊢;split at C;rename_i x' I;have kl:=NF I;simp[AVal.fitsT] at kl;have e:=Ty.eq_of_beq kl.1;injection e with e;subst e;obtain⟨rfl,h⟩:=h;simp only[AF];exact⟨trivial,rfl,Kb (A:=.agg f x) I (by grind [AF])⟩;grind [AVal.fitsT]|_=>grind [AY,AVal.fitsT])|nl=>intro B τ vs C h;cases B<;>grind [AY,AVal.fitsT]|cons x y kZ kV=>intro B τ vs C h;(cases B with|cons x' y'=>obtain⟨J,t1,us,ws,rfl,rfl,h2,h3⟩:=h;simp[AY,AVal.fitsT,GU] at C;exact⟨_,_,_,_,rfl,rfl,kZ C.1 h2,kV C.2 h3⟩|_=>grind [AY,AVal.fitsT])|junk=>grind [AY,AVal.fitsT]|_=>grind [AF]
theorem yH1:∀{A B:AVal}{τ:Ty}{vs:List Value},(AY false A B).fitsT τ->AF G w τ B vs->AF G w τ (AY false A B) vs:=by intro A;induction A with|val τ' x=>intro B τ vs C h;(cases B with|val τ2 y=>grind [AY,EE,AVal.fitsT]|nil=>obtain⟨J,rfl⟩:=h;cases τ'<;>simp only[AY,AVal.fitsT,Bool.false_eq_true] at C;simp at C;have e:=Ty.eq_of_beq C.1;subst e;simp only[AY,AF];exact⟨trivial,rfl,uC⟩|agg f b=>cases τ'<;>simp[AY,AVal.fitsT] at C;simp[AY] at C ⊢;split at C;rename_i x' R;have kl:=NF R;simp[AVal.fitsT] at kl;have e:=Ty.eq_of_beq kl.1;injection e with e;subst e;obtain⟨rfl,h⟩:=h;simp only[AF];exact⟨trivial,rfl,Kb (A:=.agg f b) R (by grind [AF])⟩;grind [AVal.fitsT]|own t l T m=>simp[AY,WC] at C ⊢;(cases m with|true=>grind [AVal.fitsT]|false=>simp at C ⊢;split at C;rename_i z I;obtain⟨e,I⟩:=EE I;subst e;subst I;obtain⟨rfl,v,rfl,ho⟩:=h;simp only[AF];exact⟨trivial,rfl,G3 ho⟩;grind [AVal.fitsT])|_=>grind [AY,AVal.fitsT])|nil=>intro B τ vs C h;(cases B with|nil=>exact h|val τ2 y=>cases τ2<;>simp[AY,AVal.fitsT] at C;grind [AY]|own t l T m=>grind [AY,AVal.fitsT]|_=>grind [AY,AVal.fitsT])|own t l T m=>intro B τ vs C h;(cases B with|nil=>obtain⟨J,rfl⟩:=h;simp only[AY] at C ⊢;generalize hp:(t.plain&&!t.isL)=b at C;(cases b with|false=>grind [AVal.fitsT]|true=>simp at C ⊢;have e:=Ty.eq_of_beq C;subst e;simp only[AF];exact⟨trivial,_,rfl,Xf hp⟩)|own t' l' T' m'=>simp only[AY] at C ⊢;generalize hb:(Nat.beq T T'&&(m==m'))=b at C;(cases b with|false=>grind [AVal.fitsT]|true=>simp at hb;grind [yN4,AVal.fitsT])|val τ2 y=>grind [AY,WB,AVal.fitsT,EE]|_=>grind [AY,AVal.fitsT])|agg f x ih=>intro B τ vs C h;(cases B with|agg f' b=>simp only[AY] at C ⊢;generalize hb:(Ty.beq f f'&&AVal.fits f (AY false x b))=bb at C;(cases bb with|false=>grind [AVal.fitsT]|true=>simp at hb;have e:=Ty.eq_of_beq hb.1;subst e;exact⟨h.1,ih hb.2 h.2⟩)|val τ2 y=>cases τ2<;>simp[AY,AVal.fitsT] at C;grind [AY,AVal.fitsT]|_=>grind [AY,AVal.fitsT])|nl=>intro B τ vs C h;(cases B with|nl=>exact h|_=>simp[AY,AVal.fitsT] at C)|cons x y kZ kV=>intro B τ vs C h;(cases B with|cons x' y'=>obtain⟨J,t1,us,ws,rfl,rfl,h2,h3⟩:=h;simp[AY,AVal.fitsT,GU] at C;exact⟨_,_,_,_,rfl,rfl,kZ C.1 h2,kV C.2 h3⟩|_=>simp[AY,AVal.fitsT] at C)|_=>intro B τ vs C h;cases B<;>simp[AY,AVal.fitsT,AF] at C h
theorem yX:∀{A B:AVal}{os:Option Nat}{v:Value},zA G w tm os A v->zA G w tm os (AY true A B) v:=by intro A;induction A with|val τ' x=>intro B os v h;(cases B with|val τ2 y=>grind [AY,zA]|nil=>cases τ'<;>simp only[AY,jE,zA];exact h|agg f b=>cases τ'<;>simp only[AY,jE,zA];grind [zA]|own t l T m=>simp only[AY,WC];(cases m with|true=>simp only[jE,zA]|false=>simp only[jD];grind [zA])|_=>grind [AY,zA])|nil=>intro B os v h;simp only[zA] at h;subst h;(cases B with|nil=>grind [AY,zA]|val τ2 y=>(cases τ2<;>simp only[AY,jE]<;>first|exact Lo uC|grind [zA])|own t l T m=>simp only[AY];generalize R:(t.plain&&!t.isL)=b;(cases b with|false=>simp only[jD,zA]|true=>simp only[jE,zA];exact Xf R)|_=>grind [AY,zA])|own t l T m=>intro B os v h;(cases B with|nil=>simp only[AY];cases (t.plain&&!t.isL)<;>simp_all [jD,zA,jE]|own t' l' T' J=>simp only[AY];(cases (Nat.beq T T'&&(m==J)) with|false=>simp only[jD,zA]|true=>simp only[jE];grind [zA])|val τ2 y=>simp only[AY,WB];(cases m with|true=>simp only[jE,zA]|false=>simp only[jD];grind [zA,Lo,G3])|_=>simp only[AY,zA])|box τ x _=>intro B os v h;(cases B with|box τ' y=>simp only[AY];generalize hb:(Ty.beq τ τ'&&AVal.fits τ (AY true x y))=b;(cases b with|false=>simp only[jD,zA]|true=>simp only[jB] at hb;simp only[jE];cases os with|none=>grind [zA]|some s=>simp only[zA] at h ⊢;obtain⟨C,I,cur,e,h3,h4,h5⟩:=h;exact⟨C,I,cur,e,h3,yH0 hb.2 h4,h5⟩)|_=>simp only[AY,zA])|ref s τ p=>intro B os v h;(cases p with|nil=>(cases B with|ref s' τ' p'=>(cases p' with|nil=>simp only[AY];cases (Nat.beq s s'&&Ty.beq τ τ')<;>simp_all [jD,zA,jE]|cons _ _=>grind [AY,zA])|_=>simp only[AY,zA])|cons _ _=>grind [AY,zA])|nl=>intro B os v h;cases B<;>simp_all [AY,zA]|cons x y kZ kV=>intro B os v h;(cases B with|cons x' y'=>obtain⟨u,us,rfl,C,I⟩:=h;simp only[AY,zA];exact⟨u,us,rfl,kZ C,kV I⟩|_=>simp[AY,zA])|agg f x _=>intro B os v h;(cases B with|agg f' b=>simp only[AY];generalize hb:(Ty.beq f f'&&AVal.fits f (AY true x b))=bb;(cases bb with|false=>simp[zA]|true=>simp at hb;obtain⟨vs,C,I⟩:=h;exact⟨vs,C,yH0 hb.2 I⟩)|val τ2 y=>cases τ2<;>simp[AY,zA];split;rename_i x' hx;exact I3 hx rfl (SS h (by grind) (by grind));grind [zA]|_=>simp[AY,zA])|tup x ih=>intro B os v h;cases B<;>simp_all [AY,zA]|ownh t l T i U m=>intro B os v h;(cases B with|ownh t' l' T' i' U' J=>simp only[AY];(cases (Nat.beq T T'&&Nat.beq U U'&&(m==J)) with|false=>simp[zA]|true=>grind [zA])|_=>simp only[AY,zA])|_=>intro B os v h;cases B<;>simp only[AY,zA]
theorem yX0:∀{A B:AVal}{os:Option Nat}{v:Value},zA G w tm os B v->zA G w tm os (AY false A B) v:=by intro A;induction A with|val τ' x=>intro B os v h;(cases B with|val τ2 y=>simp only[AY];split;rename_i z C;obtain⟨e,C⟩:=EE C;subst e;subst C;exact h;simp only[zA]|nil=>simp only[zA] at h;subst h;(cases τ'<;>simp only[AY,jD]<;>first|exact Lo uC|simp only[zA])|agg f b=>cases τ'<;>simp only[AY,jD,zA];split;rename_i x' hx;simp only[zA];exact I3 hx rfl (SS h (by intro _ _ e;cases e) (by intro e;cases e));simp only[zA]|own t l T m=>simp only[AY,WC];(cases m with|true=>simp only[jE,zA]|false=>simp only[jD];split;rename_i z C;obtain⟨e,C⟩:=EE C;subst e;subst C;simp only[zA] at h;exact Lo (G3 h);simp only[zA])|_=>cases τ'<;>simp only[AY,zA])|nil=>intro B os v h;(cases B with|nil=>exact h|val τ2 y=>cases τ2<;>simp only[AY,jD,zA];exact h|own t l T m=>simp only[AY];(cases (t.plain&&!t.isL) with|false=>simp only[jD,zA]|true=>exact h)|_=>simp only[AY,zA])|own t l T m=>intro B os v h;(cases B with|nil=>simp only[zA] at h;subst h;simp only[AY];generalize hp:(t.plain&&!t.isL)=b;(cases b with|false=>simp only[jD,zA]|true=>simp only[jE,jD,zA];exact Xf hp)|own t' l' T' R=>simp only[AY];generalize hb:(Nat.beq T T'&&(m==R))=b;(cases b with|false=>simp only[jD,zA]|true=>simp only[jB,beq_iff_eq] at hb;have e:=jC hb.1;obtain⟨_,hb⟩:=hb;subst e;subst hb;simp only[jE];split;rename_i z C;obtain⟨e,C⟩:=yN4 C;subst e;have:=eq_of_heq C;subst this;exact h;simp only[zA])|val τ2 y=>simp only[AY,WB];(cases m with|true=>simp only[jE,zA]|false=>simp only[jD];split;rename_i z C;obtain⟨e,C⟩:=EE C;subst e;subst C;exact h;simp only[zA])|_=>simp only[AY,zA])|box τ x _=>intro B os v h;(cases B with|box τ' y=>simp only[AY];generalize hb:(Ty.beq τ τ'&&AVal.fits τ (AY false x y))=b;(cases b with|false=>simp only[jD,zA]|true=>simp only[jB] at hb;have e:=Ty.eq_of_beq hb.1;subst e;simp only[jE];cases os with|none=>simp only[zA] at h|some s=>simp only[zA] at h ⊢;obtain⟨I,J,cur,e,h3,h4,h5⟩:=h;exact⟨I,J,cur,e,h3,yH1 hb.2 h4,h5⟩)|_=>simp only[AY,zA])|ref s τ p=>intro B os v h;(cases p with|nil=>(cases B with|ref s' τ' p'=>(cases p' with|nil=>simp only[AY];generalize hb:(Nat.beq s s'&&Ty.beq τ τ')=b;(cases b with|false=>simp only[jD,zA]|true=>simp only[jB] at hb;have e:=jC hb.1;have e':=Ty.eq_of_beq hb.2;subst e;subst e';exact h)|cons _ _=>simp only[AY,zA])|_=>simp only[AY,zA])|cons _ _=>cases B<;>simp only[AY,zA])|nl=>intro B os v h;(cases B with|nl=>exact h|_=>simp only[AY,zA])|cons x y kZ kV=>intro B os v h;(cases B with|cons x' y'=>simp only[zA] at h;obtain⟨u,us,rfl,I,J⟩:=h;simp only[AY,zA];exact⟨u,us,rfl,kZ I,kV J⟩|_=>simp only[AY,zA])|agg f x _=>intro B os v h;(cases B with|agg f' b=>simp only[AY];generalize hb:(Ty.beq f f'&&AVal.fits f (AY false x b))=bb;(cases bb with|false=>simp only[jD,zA]|true=>simp only[jB] at hb;have e:=Ty.eq_of_beq hb.1;subst e;simp only[jE,zA] at h ⊢;obtain⟨vs,I,J⟩:=h;exact⟨vs,I,yH1 hb.2 J⟩)|val τ2 y=>cases τ2<;>simp only[AY,zA];split;exact h;simp only[zA]|_=>simp only[AY,zA])|tup x ih=>intro B os v h;(cases B with|tup b=>simp only[AY,zA] at h ⊢;exact ih h|_=>simp only[AY,zA])|ownh t l T i U m=>intro B os v h;(cases B with|ownh t' l' T' i' U' R=>simp only[AY];generalize hb:(Nat.beq T T'&&Nat.beq U U'&&(m==R))=b;(cases b with|false=>simp only[jD,zA]|true=>simp only[jB,beq_iff_eq] at hb;have e1:=jC hb.1.1;have e2:=jC hb.1.2;obtain⟨_,e3⟩:=hb;subst e1;subst e2;subst e3;simp only[jE];split;rename_i z C;obtain⟨e,C⟩:=EE C;injection e with e;injection e with e;subst e;have C:l'=z:=C;subst C;exact h;simp only[zA])|_=>simp only[AY,zA])|_=>intro B os v h;cases B<;>simp only[AY,zA]
def St.hasCut (d:St):Bool:=d.any λe=>Nat.beq e.1 BP
variable {d2 d1:St}
theorem yJ9{g:Bool}:∀{ks:St}{R:St},(SN g d1 d2 S ks++R).get s=.junk\/(SN g d1 d2 S ks++R).get s=AY g ((d1++S).get s) ((d2++S).get s)\/(St.has s ks=false/\St.hasCut ks=false/\(SN g d1 d2 S ks++R).get s=R.get s):=by intro ks;induction ks with|nil=>exact .inr (.inr ⟨rfl,rfl,rfl⟩)|cons e r C=>obtain⟨k,A⟩:=e;simp[SN,St.get];cases I:Nat.beq k s with|true=>cases Nat.beq k BP<;>simp_all|false=>cases J:Nat.beq k BP<;>simp_all [St.has,St.hasCut]
theorem xA3(C:St.has s (yE d1++(yE d2++(JZ d1++JZ d2)))=false)(I:St.hasCut (yE d1++(yE d2++(JZ d1++JZ d2)))=false):(d1++S).get s=S.get s/\(d2++S).get s=S.get s:=by (have R:∀d:St,(∀e∈d,e∈d1\/e∈d2)->(∀e∈d,e.1≠BP)/\St.has s d=false:=by intro d J;(have key:∀e∈d,e.1≠BP/\Nat.beq e.1 s=false:=by intro e he;simp only[St.has,St.hasCut,any_eq_false,mem_append,yE,JZ,List.mem_filter] at C I;(have ue:e.1≠BP:=by grind [Nat.beq,Nat.beq_refl]);(have hb:(!(Nat.beq e.1 BP)):=by grind);refine⟨ue,?_⟩;rcases J e he with h|h;exact Bool.eq_false_iff.2 (C e (.inl ⟨h,hb⟩));exact Bool.eq_false_iff.2 (C e (.inr (.inl ⟨h,hb⟩))));grind [St.has,any_eq_false]);grind [Lr]
theorem uD(C:Rel n χ0 w0 (d1++S) a w G):Rel n χ0 w0 (Ic true d1 d2 S++S) a w G:=by refine⟨C.len,C.defers,λs=>?_,C.frame,C.glob⟩;have h:=C.reps s;unfold Ic;rcases yJ9 (g:=true) (d1:=d1) (d2:=d2) (S:=S) (s:=s) (ks:=yE d1++(yE d2++(JZ d1++JZ d2))) (R:=S) with e|e|⟨e1,I,e⟩;grind [zA];grind [yX];rw[e,<-(xA3 e1 I).1];grind
theorem uR(C:Rel n χ0 w0 (d2++S) a w G):Rel n χ0 w0 (Ic false d1 d2 S++S) a w G:=by refine⟨C.len,C.defers,λs=>?_,C.frame,C.glob⟩;have h:=C.reps s;unfold Ic;rcases yJ9 (g:=false) (d1:=d1) (d2:=d2) (S:=S) (s:=s) (ks:=yE d1++(yE d2++(JZ d1++JZ d2))) (R:=S) with e|e|⟨e1,I,e⟩;grind [zA];grind [yX0];rw[e,<-(xA3 e1 I).2];grind
variable {gtab:GlobTab}{P:Program}{c:Ctx}{G:Gh}{w:World}{tm:Array Value}{n:Nat}{χ0:Nat->Nat->Nat}{w0:World}{S:St}{a:Act}
theorem AllP_iff:∀{l:List Prop},Ka l↔∀q∈l,q:=by
 intro l
 induction l with
 |nil=>exact⟨λ_ q C=>(by grind),λ_=>trivial⟩
 |cons p r J =>
  cases r with
  |nil =>
   refine⟨λh q C=>?_,λh=>h p (jQ ..)⟩;rcases mem_cons.1 C with rfl|C
   ·exact h
   grind
  |cons q r =>
   constructor
   ·intro h I C;rcases mem_cons.1 C with rfl|C
    ·exact h.1
    ·exact J.1 h.2 I C
   ·intro h;exact⟨h p (jQ ..),J.2 λI C=>h I (jP _ C)⟩
theorem yX1{b:Prop}{l:List Prop}(h:∀q∈WE b l,q)(hb:b):∀q∈l,q:=by
 cases l with
 |nil=>grind
 |cons p r =>
  have:=h (b->Ka (p::r)) (by simp[WE])
  grind [AllP_iff]
def Fw:Exit->Option Nat
 |.normal=>some 0
 |.ret=>some 1
 |.exit id=>some (id+2)
 |_=>none
def tk (g:Option Bool):Bool:=g.getD true
def Fa [GlobTab] (n:Nat)(χ0:Nat->Nat->Nat)(w0:World)(S:St)(l:List Comp)(e:Exit)(a:Act)(w:World):Prop:=
 ∃k cp G,Fw e=some k/\B7 k l=some cp/\tk cp.g/\(∀k' c',B7 k' l=some c'->tk c'.g->k'=k)/\Rel n χ0 w0 (cp.d++S) a w G
theorem yA3:∀{l l':List Comp},B7 k (l++l')=match B7 k l with|some x=>some x|none=>B7 k l':=by
 intro l
 induction l with
 |nil=>intro l';rfl
 |cons x r C =>
  intro l';simp[B7];cases Nat.beq x.kind k with
  |true=>rfl
  |false=>exact C
variable {x:Comp}
theorem Xg:∀{l:List Comp},B7 k l=some x->x.kind=k:=by
 intro l
 induction l with
 |nil=>intro h;cases h
 |cons y r C =>
  intro h;simp only[B7] at h;cases hb:Nat.beq y.kind k<;>simp_all
theorem zR6{q:Nat->Bool}:∀{l:List Comp},B7 k (l.filter λx=>q x.kind)=cond (q k) (B7 k l) none:=by
 intro l
 induction l with
 |nil=>cases q k<;>rfl
 |cons x r C =>
  simp only[List.filter_cons];cases I:q x.kind with
  |true =>
   simp[B7];cases hb:Nat.beq x.kind k<;>simp_all
  |false =>
   simp[B7];cases hb:Nat.beq x.kind k<;>simp_all
theorem P6{l:List Comp}:B7 k (E8 T l)=cond (Nat.beq k T) none (B7 k l):=by
 unfold E8;rw[zR6 (q:=λx=>!(Nat.beq x T))]
 grind
theorem uV{f:Comp->Comp}(C:∀x,(f x).kind=x.kind):∀{l:List Comp},B7 k (l.map f)=(B7 k l).map f:=by
 intro l
 induction l with
 |nil=>rfl
 |cons x r I =>
  simp[B7,C];cases Nat.beq x.kind k with
  |true=>rfl
  |false=>exact I
def u7 (t:Bool)(S:St):Option Comp->Option Comp->St
 |some a,some b=>Ic t a.d b.d S
 |some a,none=>a.d
 |none,some b=>b.d
 |none,none=>[]
def Xh (t:Bool)(S:St)(la lb:List Comp)(x:Comp):Comp:=⟨x.kind,Hv t (B7 x.kind la) (B7 x.kind lb),u7 t S (B7 x.kind la) (B7 x.kind lb)⟩
variable {lb la:List Comp}
theorem xN6{t:Bool}:∀{l:List Comp},WD t S la lb l=l.map (Xh t S la lb):=by
 intro l
 induction l with
 |nil=>rfl
 |cons x r C =>
  simp[WD,C,Xh];cases B7 x.kind la<;>cases B7 x.kind lb<;>rfl
theorem u9{t:Bool} :
  B7 k (WD t S la lb (la++lb.filter λx=>(B7 x.kind la).isNone))=match B7 k la,B7 k lb with
   |none,none=>none
   |xa,xb=>some ⟨k,Hv t xa xb,u7 t S xa xb⟩:=by
 rw[xN6,uV (f:=Xh t S la lb) (λ_=>rfl),yA3,zR6 (q:=λx=>(B7 x la).isNone)];cases C:B7 k la with
 |some x=>grind [Xh,Xg]
 |none =>
  cases hb:B7 k lb<;>grind [Xh,Xg]
variable {y:Option Bool}
theorem NQ{x:Option Bool}:tk (FI x y)=(tk x&&tk y):=by cases x<;>cases y<;>simp[FI,tk]
theorem NR{x:Option Bool}:tk (gor x y)=(tk x||tk y):=by cases x<;>cases y<;>simp[gor,tk]
theorem xT5{g:Option Bool}(h:tk g=false):g=some false:=by
 cases g<;>grind [tk]
variable {e:Exit}{ob oa:Out}
theorem xF4(h:Fa n χ0 w0 S oa.comps e a w):Fa n χ0 w0 S (SO true S oa ob).comps e a w:=by
 obtain⟨k,cp,G,h1,h2,h3,h4,R⟩:=h;simp only[SO];refine⟨k,⟨k,Hv true (some cp) (B7 k ob.comps),u7 true S (some cp) (B7 k ob.comps)⟩,G,h1,?_,?_,?_,?_⟩
 ·rw[u9,h2]
 ·cases hb:B7 k ob.comps with
  |none=>cases I:cp.g<;>simp_all [Hv,FI,tk]
  |some b=>grind [Hv,tk]
 ·intro J c' C ht;rw[u9] at C;cases ha:B7 J oa.comps with
  |none =>
   cases hb:B7 J ob.comps with
   |none=>grind
   |some b =>
    simp[ha,hb] at C;subst C;cases I:b.g<;>simp[Hv,FI,tk,I] at ht
  |some x =>
   cases hb:B7 J ob.comps with
   |none =>
    simp[ha] at C;subst C;cases I:x.g<;>simp_all [Hv,FI,tk]
   |some b =>
    grind [jA,Hv,tk]
 ·cases B7 k ob.comps with
  |none=>exact R
  |some b=>exact uD R
theorem xF5(h:Fa n χ0 w0 S ob.comps e a w):Fa n χ0 w0 S (SO false S oa ob).comps e a w:=by
 obtain⟨k,cp,G,h1,h2,h3,h4,R⟩:=h;simp only[SO];refine⟨k,⟨k,Hv false (B7 k oa.comps) (some cp),u7 false S (B7 k oa.comps) (some cp)⟩,G,h1,?_,?_,?_,?_⟩
 ·grind [u9]
 ·cases hb:B7 k oa.comps with
  |none=>cases I:cp.g<;>simp_all [Hv,FI,tk]
  |some b=>grind [Hv,tk]
 ·intro J c' C ht;rw[u9] at C;cases hb:B7 J ob.comps with
  |none =>
   cases ha:B7 J oa.comps with
   |none=>grind
   |some b =>
    simp[ha,hb] at C;subst C;cases I:b.g<;>simp[Hv,FI,tk,I] at ht
  |some x =>
   cases ha:B7 J oa.comps with
   |none =>
    simp[hb] at C;subst C;cases I:x.g<;>simp_all [Hv,FI,tk]
   |some b =>
    grind [jA,Hv,tk]
 ·cases B7 k oa.comps with
  |none=>exact R
  |some b=>exact uR R
def vE (m:Comp)(S:St)(la:List Comp)(x:Comp):Comp:=
 ⟨x.kind,(match B7 x.kind la with|some a=>gor a.g (FI m.g x.g)|none=>FI m.g x.g),(match B7 x.kind la with|some a=>Ic (tk a.g) a.d (x.d++m.d) S | none=>x.d++m.d)⟩
theorem xT6{m:Comp}:∀{l:List Comp},SP m S la l=l.map (vE m S la):=by
 intro l
 induction l with
 |nil=>rfl
 |cons x r C =>
  simp[SP,C,vE];cases B7 x.kind la<;>rfl
theorem P7{m:Comp} :
  B7 k (SP m S la lb++la.filter λx=>(B7 x.kind lb).isNone)=match B7 k la,B7 k lb with
   |none,none=>none
   |some a,none=>some a
   |none,some x=>some ⟨k,FI m.g x.g,x.d++m.d⟩
   |some a,some x=>some ⟨k,gor a.g (FI m.g x.g),Ic (tk a.g) a.d (x.d++m.d) S⟩:=by
 rw[yA3,xT6,uV (f:=vE m S la) (λ_=>rfl),zR6 (q:=λx=>(B7 x lb).isNone)]
 grind [vE,Xg]
theorem xN7{m:Comp}(hm:B7 0 oa.comps=some m)(h:Fa n χ0 w0 S oa.comps e a w)(he:Fw e≠some 0):Fa n χ0 w0 S (SQ m S oa ob).comps e a w:=by
 obtain⟨k,cp,G,R,h2,h3,h4,h5⟩:=h;have hk0:Nat.beq k 0=false:=by cases k with|zero=>grind|succ k=>rfl
 have nm:tk m.g=false:=by
  grind
 have h2':B7 k (E8 0 oa.comps)=some cp:=by grind [P6]
 simp only[SQ];cases hb:B7 k ob.comps with
 |none =>
  refine⟨k,cp,G,R,by grind [P7],h3,?_,h5⟩;intro I c' C ht;rw[P7,P6] at C;cases qn:Nat.beq I 0 with
  |true =>
   grind [jA,NQ]
  |false =>
   grind [jA,NQ,NR]
 |some x0 =>
  refine⟨k,{ kind:=k,g:=gor cp.g (FI m.g x0.g),d:=Ic (tk cp.g) cp.d (x0.d++m.d) S },G,R,by grind [P7],?_,?_,?_⟩
  ·simp[NR,h3]
  ·intro I c' C ht;rw[P7,P6] at C;cases qn:Nat.beq I 0 with
   |true =>
    simp[qn] at C;cases kP:B7 I ob.comps with
    |none=>simp[kP] at C
    |some x=>simp[kP] at C;subst C;simp[NQ,nm] at ht
   |false =>
    simp[qn] at C;cases J:B7 I oa.comps with
    |none =>
     cases kP:B7 I ob.comps with
     |none=>simp[J,kP] at C
     |some x=>simp[J,kP] at C;subst C;simp[NQ,nm] at ht
    |some y =>
     refine h4 I y J ?_;cases kP:B7 I ob.comps with
     |none=>simp[J,kP] at C;subst C;exact ht
     |some x=>simp[J,kP] at C;subst C;simpa[NQ,NR,nm] using ht
  grind [uD]
theorem xN8{m:Comp}(hmt:tk m.g)(hu:∀C I,B7 C oa.comps=some I->tk I.g->C=0)
  (h:Fa n χ0 w0 (m.d++S) ob.comps e a w):Fa n χ0 w0 S (SQ m S oa ob).comps e a w:=by
 obtain⟨k,cp,G,h1,h2,h3,h4,J⟩:=h;rw[<-append_assoc] at J;have kQ:∀C y,B7 C (E8 0 oa.comps)=some y->y.g=some false:=by
  grind [P6,Nat.beq,xT5,tk]
 have ur:∀C I,B7 C (SP m S (E8 0 oa.comps) ob.comps++(E8 0 oa.comps).filter λx=>(B7 x.kind ob.comps).isNone)=some I->tk I.g->C=k:=by
  grind [P7,B7,E8,NQ,tk,NR]
 simp only[SQ];cases ha:B7 k (E8 0 oa.comps) with
 |none =>
  refine⟨k,{ kind:=k,g:=FI m.g cp.g,d:=cp.d++m.d },G,h1,by grind [P7],?_,ur,J⟩
  grind [NQ]
 |some y =>
  have R:=kQ k y ha;refine⟨k,{ kind:=k,g:=gor y.g (FI m.g cp.g),d:=Ic (tk y.g) y.d (cp.d++m.d) S },G,h1,by grind [P7],?_,ur,?_⟩
  ·grind [NR,NQ]
  ·simp[R];exact uR J
theorem xF6(h:Fa n χ0 w0 S oa.comps e a w):Exit.inBlock id (Fa n χ0 w0 S (yC id S oa).comps) e a w:=by
 obtain⟨k,cp,G,h1,R,h3,h4,h5⟩:=h;unfold yC;cases hE:B7 (id+2) oa.comps with
 |none =>
  have hP:Fa n χ0 w0 S oa.comps e a w:=⟨k,cp,G,h1,R,h3,h4,h5⟩;have kh:e≠.exit id:=by
   grind [Fw,jA]
  cases e<;>simp_all [Exit.inBlock]
 |some ex =>
  have b20:Nat.beq (id+2) 0=false:=rfl;cases h0:B7 0 oa.comps with
  |none =>
   have kR:∀C,B7 C ({ ex with kind:=0 }::E8 (id+2) oa.comps)=cond (Nat.beq 0 C) (some { ex with kind:=0 }) (cond (Nat.beq C (id+2)) none (B7 C oa.comps)):=by
    grind [B7,P6]
   by_cases J:k=id+2
   ·subst J;rw[hE] at R;injection R with R
    subst R;have hP:Fa n χ0 w0 S ({ ex with kind:=0 }::E8 (id+2) oa.comps) .normal a w:=by
     refine⟨0,{ ex with kind:=0 },G,rfl,by simp_all,h3,λC c' I ht=>?_,h5⟩
     cases hb:Nat.beq 0 C with
     |true=>grind [jC]
     |false =>
      cases gZ:Nat.beq C (id+2)<;>simp_all
    cases e<;>simp_all [Fw,Exit.inBlock]
   ·have hP:Fa n χ0 w0 S ({ ex with kind:=0 }::E8 (id+2) oa.comps) e a w:=by
     refine⟨k,cp,G,h1,?_,h3,λC c' I ht=>?_,h5⟩
     all_goals grind [Nat.beq,absurd,jC,id]
    cases e with
    |exit id'=>simp[Fw] at h1;simp only[Exit.inBlock];grind
    |_=>exact hP
  |some m =>
   simp only;generalize hN:({ kind:=0,g:=gor ex.g m.g,d:=Ic (ex.g.getD true) ex.d m.d S }:Comp)=N;have kR:∀C,B7 C (N::E8 0 (E8 (id+2) oa.comps))=cond (Nat.beq 0 C) (some N) (cond (Nat.beq C 0) none (cond (Nat.beq C (id+2)) none (B7 C oa.comps))):=by
    grind [B7,P6]
   by_cases J:k=id+2\/k=0
   ·have hP:Fa n χ0 w0 S (N::E8 0 (E8 (id+2) oa.comps)) .normal a w:=by
     have ur:∀C c',B7 C (N::E8 0 (E8 (id+2) oa.comps))=some c'->tk c'.g->C=0:=by
      intro C c' I ht;rw[kR] at I;cases hb:Nat.beq 0 C with
      |true=>simp_all
      |false =>
       simp[hb] at I;cases ir:Nat.beq C 0 with
       |true=>grind
       |false =>
        cases gZ:Nat.beq C (id+2) with
        |true=>grind
        |false =>
         simp[ir,gZ] at I;have:=h4 C c' I ht;rcases J with J|J
         ·rw[J] at this;subst this;simp at gZ
         ·rw[J] at this;exact this
     rcases J with J|J
     ·subst J;rw[hE] at R;injection R with R
      subst R;refine⟨0,N,G,rfl,by simp[kR],?_,ur,?_⟩
      ·grind [NR]
      ·have:ex.g.getD true:=h3
       grind [uD]
     ·have hxf:tk ex.g=false:=by
       grind
      refine⟨0,N,G,rfl,by simp[kR],?_,ur,?_⟩
      ·grind [NR]
      ·have:ex.g.getD true=false:=hxf
       grind [uR]
    cases e with
    |exit id' =>
     simp[Fw] at h1;simp only[Exit.inBlock]
     grind
    |normal=>exact hP
    |ret=>simp[Fw] at h1;omega
    |_=>simp[Fw] at h1
   ·have hk2:k≠id+2:=λe=>J (.inl e);have hk0:k≠0:=λe=>J (.inr e);have hxf:tk ex.g=false:=by
     grind
    have nm:tk m.g=false:=by
     grind
    have hP:Fa n χ0 w0 S (N::E8 0 (E8 (id+2) oa.comps)) e a w:=by
     refine⟨k,cp,G,h1,?_,h3,λC c' I ht=>?_,h5⟩
     ·rw[kR];have b1:Nat.beq 0 k=false:=by cases hb:Nat.beq 0 k with|false=>rfl|true=>exact absurd (jC hb).symm hk0
      have b3:Nat.beq k 0=false:=by cases hb:Nat.beq k 0 with|false=>rfl|true=>exact absurd (jC hb) hk0
      have b2:Nat.beq k (id+2)=false:=by cases hb:Nat.beq k (id+2) with|false=>rfl|true=>exact absurd (jC hb) hk2
      rw[b1,b2,b3];exact R
     ·rw[kR] at I;cases hb:Nat.beq 0 C with
      |true =>
       simp[hb] at I;subst I;rw[<-hN] at ht;simp[NR,hxf,nm] at ht
      |false =>
       simp[hb] at I;cases ir:Nat.beq C 0 with
       |true=>simp[ir] at I
       |false =>
        cases gZ:Nat.beq C (id+2) with
        |true=>simp[gZ] at I
        |false=>simp[ir,gZ] at I;exact h4 C c' I ht
    cases e with
    |exit id'=>simp[Fw] at h1;simp only[Exit.inBlock];grind
    |_=>exact hP
inductive Sh where
 |val (τ:Ty)|own (t:Ty) (T:Nat) (m:Bool)|nl|cons (a b:Sh)|agg (f:Ty) (s:Sh)|box (τ:Ty) (s:Sh)|ref (s:Nat) (τ:Ty)|tup (s:Sh)|fn (f:Nat) (s:Sh)|any|nil|nn (b:Bool)|fptr (f:Nat) (caps:List (Option (Nat×Ty)))|ownh (t:Ty) (T U:Nat) (m:Bool)
@[reducible] def Sh.den:Sh->Type
 |.val τ=>τ.den|.own t _ _=>List t.den|.nl=>Unit|.cons a b=>a.den×b.den|.agg _ s=>s.den|.box _ s=>s.den|.ref _ _=>Unit|.tup s=>s.den|.fn _ s=>s.den|.any=>Unit|.nil=>Unit|.nn _=>Unit|.fptr _ _=>Unit|.ownh t _ _ _=>List (List t.den)×Nat
def Sh.mk:(s:Sh)->s.den->AVal
 |.val τ,x=>.val τ x
 |.own t T m,l=>.own t l T m
 |.nl,_=>.nl
 |.cons a b,x=>.cons (a.mk x.1) (b.mk x.2)
 |.agg f s,x=>.agg f (s.mk x)
 |.box τ s,x=>.box τ (s.mk x)
 |.ref s τ,_=>.ref s τ []
 |.tup s,x=>.tup (s.mk x)
 |.fn f s,x=>.fn f (s.mk x)
 |.any,_=>.junk
 |.nil,_=>.nil
 |.nn b,_=>.nn b
 |.fptr f caps,_=>.fptr f caps
 |.ownh t T U m,x=>.ownh t x.1 T x.2 U m
def NS (t:Ty)(T:Nat)(m:Bool):AVal->Option (List t.den)
 |.nil=>cond (t.plain&&!t.isL) (some []) none
 |.own t' l T' m'=>cond (Nat.beq T T'&&(m==m')) (Ty.cast (a:=.sl t') (.sl t) l) none
 |_=>none
def yK (t:Ty)(T U:Nat)(m:Bool):AVal->Option (List (List t.den)×Nat)
 |.ownh t' l T' i U' m'=>cond (Nat.beq T T'&&Nat.beq U U'&&(m==m')) (match Ty.cast (a:=.sl (.sl t')) (.sl (.sl t)) l with|some l2=>some (l2,i)|none=>none) none
 |.own t' l T' true=>cond (Nat.beq T T'&&!(Nat.beq T U)&&t.plain&&!t.isL) (match Ty.cast (a:=.sl t') (.sl (.sl t)) l with|some l2=>some (l2,length (α:=List t.den) l2)|none=>none) none
 |_=>none
def vF:AVal->Bool
 |.nil=>true|_=>false
def vJ (b:Bool):AVal->Bool
 |.nn b'=>b==b' | _=>false
def Lt:List (Option (Nat×Ty))->List (Option (Nat×Ty))->Bool
 |[],[]=>true
 |none::r,none::r'=>Lt r r'
 |some (k,τ)::r,some (k',τ')::r'=>Nat.beq k k'&&Ty.beq τ τ'&&Lt r r'
 |_,_=>false
def vN (f:Nat)(caps:List (Option (Nat×Ty))):AVal->Bool
 |.fptr f' caps'=>Nat.beq f f'&&Lt caps caps'
 |_=>false
def vT:AVal->Bool
 |.nl=>true|_=>false
def Tf (s:Nat)(τ:Ty):AVal->Bool
 |.ref s' τ' []=>Nat.beq s s'&&Ty.beq τ τ'
 |_=>false
def vU (f:Nat):AVal->Option AVal
 |.fn f' c=>cond (Nat.beq f f') (some c) none
 |_=>none
def Tg (f:Ty):AVal->Option AVal
 |.agg f' c=>cond (Ty.beq f f') (some c) none
 |_=>none
def Xi (τ:Ty):AVal->Option AVal
 |.box τ' c=>cond (Ty.beq τ τ') (some c) none
 |_=>none
def xX2:AVal->Option AVal
 |.tup c=>some c
 |_=>none
def Th:AVal->Option (AVal×AVal)
 |.cons a b=>some (a,b)
 |_=>none
def Sh.parse:(s:Sh)->AVal->Option s.den
 |.val τ,A=>cond τ.isL none (AVal.as τ A)
 |.own t T m,A=>NS t T m A
 |.nl,A=>cond (vT A) (some ()) none
 |.cons a b,A=>match Th A with
  |some (x,y)=>(match a.parse x,b.parse y with|some p,some q=>some (p,q)|_,_=>none)
  |none=>none
 |.agg f s,A=>match Tg f A with
  |some c=>(match s.parse c with|some x=>cond ((s.mk x).fitsT f) (some x) none|none=>none)
  |none=>none
 |.box τ s,A=>match Xi τ A with
  |some c=>(match s.parse c with|some x=>cond ((s.mk x).fitsT τ) (some x) none|none=>none)
  |none=>none
 |.ref s τ,A=>cond (Tf s τ A) (some ()) none
 |.tup s,A=>match xX2 A with
  |some c=>s.parse c
  |none=>none
 |.fn f s,A=>match vU f A with
  |some c=>s.parse c
  |none=>none
 |.any,_=>some ()
 |.nil,A=>cond (vF A) (some ()) none
 |.nn b,A=>cond (vJ b A) (some ()) none
 |.fptr f caps,A=>cond (vN f caps A) (some ()) none
 |.ownh t T U m,A=>yK t T U m A
variable {gtab:GlobTab}{P:Program}{c:Ctx}{G:Gh}{w:World}{tm:Array Value}{n:Nat}{χ0:Nat->Nat->Nat}{w0:World}{S:St}{a:Act}
theorem xT9:∀{l l':List (Option (Nat×Ty))},Lt l l'->l=l':=by
 intro l
 induction l with
 |nil=>grind [Lt]
 |cons q r J =>
  intro l' h;cases q with
  |none=>cases l' with
   |nil=>grind [Lt]
   |cons C I=>cases C<;>grind [Lt]
  |some q=>cases l' with
   |nil=>grind [Lt]
   |cons C I=>cases C<;>grind [Lt,jC,Ty.eq_of_beq]
variable {A:AVal}
theorem yH2{m:Bool}{l:List t.den}{os:Option Nat}(h:NS t T m A=some l)(I:zA G w tm os A v):BQ G w t l T m v:=by
 cases A with
 |nil =>
  grind [NS,zA,Xf]
 |own t' l' T' C =>
  simp only[NS] at h;generalize hb:(Nat.beq T T'&&(m==C))=b at h;cases b with
  |false=>grind
  |true =>
   simp  at hb
   grind [yN4,zA]
 |_=>grind [NS]
theorem yK2:∀{s:Sh}{A:AVal}{x:s.den}{τ:Ty}{vs:List Value},s.parse A=some x->(s.mk x).fitsT τ->AF G w τ A vs->AF G w τ (s.mk x) vs:=by
 intro s
 induction s with
 |val τ' =>
  intro A x τ vs h C I;simp only[Sh.parse] at h;cases hl:τ'.isL with
  |true=>grind
  |false =>
   simp[hl] at h;simp[Sh.mk,AVal.fitsT] at C;have e:=Ty.eq_of_beq C.1;subst e;simp only[Sh.mk,AF];exact⟨trivial,hl,Kb h I⟩
 |own t T m =>
  intro A x τ vs h C I;simp only[Sh.parse] at h;have e:=Ty.eq_of_beq C;subst e;simp only[Sh.mk,AF];refine⟨trivial,?_⟩;cases A with
  |nil=>exact⟨_,I.2,yH2 (tm:=#[]) (os:=none) h (by grind [zA])⟩
  |own t' l' T' m'=>obtain⟨_,v,h1,h2⟩:=I;exact⟨v,h1,yH2 (tm:=#[]) (os:=none) h (by grind [zA])⟩
  |_=>grind [NS]
 |nl =>
  intro A x τ vs h C I;cases A with
  |nl=>exact I
  |_=>grind [Sh.parse,vT]
 |cons p q J R =>
  intro A x τ vs h C I;cases A with
  |cons a b =>
   simp[Sh.parse,Th] at h;split at h
   ·rename_i y z hy hz;injection h with h
    subst h;obtain⟨h1,t1,us,ws,rfl,rfl,h2,h3⟩:=I;simp[Sh.mk,AVal.fitsT,GU] at C;exact⟨_,_,_,_,rfl,rfl,J hy C.1 h2,R hz C.2 h3⟩
   grind
  |_=>grind [Sh.parse,Th]
 |agg f s ih =>
  intro A x τ vs h C I;cases A with
  |agg f' b =>
   simp[Sh.parse,Tg] at h;cases hb:Ty.beq f f' with
   |false=>grind
   |true =>
    simp[hb] at h;have e:=Ty.eq_of_beq hb;split at h
    ·rename_i y hy;generalize kl:(s.mk y).fitsT f=bb at h;cases bb with
     |false=>grind
     |true =>
      grind [AF,Sh.mk]
    grind
  |_=>grind [Sh.parse,Tg]
 |nil =>
  intro A x τ vs h C I;cases A with
  |nil=>exact I
  |_=>grind [Sh.parse,vF]
 |_=>grind [Sh.mk,AVal.fitsT]
theorem FL:∀{s:Sh}{A:AVal}{x:s.den}{os:Option Nat}{v:Value},s.parse A=some x->zA G w tm os A v->zA G w tm os (s.mk x) v:=by
 intro s
 induction s with
 |val τ' =>
  intro A x os v h C;simp only[Sh.parse] at h;cases I:τ'.isL with
  |true=>grind
  |false =>
   simp[I] at h;refine I3 h I (SS C ?_ ?_)
   all_goals grind [AVal.as,AVal.asT]
 |own t T m=>grind [Sh.parse,Sh.mk,zA,yH2]
 |nl =>
  intro A x os v h C;cases A with
  |nl=>exact C
  |_=>grind [Sh.parse,vT]
 |cons p q ihp ihq =>
  intro A x os v h C;cases A with
  |cons a b =>
   simp[Sh.parse,Th] at h;split at h
   ·rename_i y z hy hz;injection h with h
    subst h;obtain⟨u,us,rfl,J,h3⟩:=C;exact⟨u,us,rfl,ihp hy J,ihq hz h3⟩
   grind
  |_=>grind [Sh.parse,Th]
 |agg f s ih =>
  intro A x os v h C;cases A with
  |agg R b =>
   grind [Sh.parse,Tg,Ty.beq,Ty.eq_of_beq,zA,Sh.mk,yK2]
  |_=>grind [Sh.parse,Tg]
 |box f s ih =>
  intro A x os v h C;cases A with
  |box R b =>
   simp[Sh.parse,Xi] at h;cases hb:Ty.beq f R with
   |false=>grind
   |true =>
    simp[hb] at h;have e:=Ty.eq_of_beq hb;subst e;split at h
    ·rename_i y hy;generalize kl:(s.mk y).fitsT f=bb at h;cases bb with
     |false=>grind
     |true =>
      simp  at h;subst h;cases os with
      |none=>grind [zA]
      |some s =>
       obtain⟨h1,J,cur,e,h3,h4,h5⟩:=C;exact⟨h1,J,cur,e,h3,yK2 hy kl h4,h5⟩
    grind
  |_=>grind [Sh.parse,Xi]
 |ref s τ =>
  intro A x os v h C;simp only[Sh.parse] at h;generalize hr:Tf s τ A=b at h;cases b with
  |false=>grind
  |true =>
   cases A with
   |ref s' τ' p =>
    cases p with
    |nil =>
     simp only[Tf,jB] at hr;have e1:=jC hr.1;subst e1;exact C
    |cons _ _=>grind [Tf]
   |_=>grind [Tf]
 |tup s ih =>
  intro A x os v h C;cases A with
  |tup b=>exact ih h C
  |_=>simp[Sh.parse,xX2] at h
 |fn f s ih =>
  intro A x os v h C;cases A with
  |fn R cs =>
   simp[Sh.parse,vU] at h;cases hb:Nat.beq f R with
   |false=>grind
   |true =>
    simp[hb] at h;have e:=jC hb;subst e;obtain⟨vs,h1,J⟩:=C;exact⟨vs,h1,ih h J⟩
  |_=>simp[Sh.parse,vU] at h
 |any=>simp[Sh.mk,zA]
 |nil =>
  intro A x os v h C;cases A with
  |nil=>exact C
  |_=>grind [Sh.parse,vF]
 |nn b =>
  intro A x os v h C;cases A with
  |nn b' =>
   simp[Sh.parse,vJ] at h;cases hb:(b==b') with
   |false=>simp[hb] at h
   |true=>have:=beq_iff_eq.1 hb;subst this;exact C
  |_=>simp[Sh.parse,vJ] at h
 |ownh t T U m =>
  intro A x os v h C;cases A with
  |ownh t' l' T' i' U' m' =>
   simp[Sh.parse,yK] at h;generalize hb:(Nat.beq T T'&&Nat.beq U U'&&(m==m'))=b at h;cases b with
   |false=>cases h
   |true =>
    simp only[jB,beq_iff_eq] at hb;have e1:=jC hb.1.1;have e2:=jC hb.1.2;have e3:=hb.2;subst e1 e2 e3;split at h
    ·rename_i l2 I;injection h with h
     subst h;obtain⟨e,I⟩:=EE I;injection e with e
     injection e with e
     subst e;subst I;exact C
    grind
  |own t' l' T' m' =>
   cases m' with
   |false=>grind [Sh.parse,yK]
   |true =>
   simp[Sh.parse,yK] at h;generalize hb:(Nat.beq T T'&&!(Nat.beq T U)&&t.plain&&!t.isL)=b at h;cases b with
   |false=>grind
   |true =>
    simp only[jB,jK] at hb;have e1:=jC hb.1.1.1;subst e1;split at h
    ·rename_i l2 I;injection h with h
     subst h;obtain⟨e,I⟩:=EE I;injection e with e
     subst e;have I:l'=l2:=I;subst I;refine⟨⟨hb.1.2,hb.2⟩,.inr ⟨λe=>by grind,?_⟩⟩;rcases (EO C rfl).2 with h|⟨cap,cur,e,us,h1,J,h3,h4,h5,h6,h7,h8⟩
     ·exact .inl h
     ·obtain⟨k1,k2⟩:=yM9 (λy vs h=>by have:=CO h;simpa[Ty.size] using this) h6;refine .inr ⟨cap,cur,e,h1,J,h3,h4,by rw[h5];simp[Ty.size],λo=>by rw[h8,if_neg (by simp)],λj x hj=>?_⟩;have iI:j<length (α:=List t.den) l':=(List.getElem?_eq_some_iff.1 hj).1;obtain⟨u,hu,hc⟩:=k2 j x hj;refine⟨u,?_,by rw[if_neg (by omega)];exact hc⟩;rw[<-h7,List.getElem?_take] at hu;split at hu
      ·exact hu
      ·cases hu
    grind
  |_=>simp[Sh.parse,yK] at h
 |fptr f caps =>
  intro A x os v h C;cases A with
  |fptr R caps' =>
   simp[Sh.parse,vN] at h;cases hb:(Nat.beq f R&&Lt caps caps') with
   |false=>simp[hb] at h
   |true =>
    simp only[jB] at hb;have e1:=jC hb.1;have e2:=xT9 hb.2;subst e1;subst e2;exact C
  |_=>simp[Sh.parse,vN] at h
theorem v7:∀{s:Sh}{x:s.den},(s.mk x).hasOpt=false:=by
 intro s
 induction s<;>grind [Sh.mk,AVal.hasOpt]
@[reducible] def AK:List (Nat×Sh)->Type
 |[]=>Unit
 |(_,s)::r=>s.den×AK r
def xU:(l:List (Nat×Sh))->AK l->St
 |[],_=>[]
 |(k,s)::r,x=>(k,s.mk x.1)::xU r x.2
def Ez:(l:List (Nat×Sh))->St->Option (AK l)
 |[],_=>some ()
 |(k,s)::r,S=>match s.parse (S.get k),Ez r S with|some x,some y=>some (x,y)|_,_=>none
def NT:St:=[(BP,.junk)]
def Weaker (S' S:St):Prop:=∀(s:Nat),∀G w tm v,zA G w tm (some s) (S.get s) v->zA G w tm (some s) (S'.get s) v
theorem Weaker.rel{S':St}(h:Weaker S' S)(C:Rel n χ0 w0 S a w G):Rel n χ0 w0 S' a w G:=⟨C.len,C.defers,λs=>h s _ _ _ _ (C.reps s),C.frame,C.glob⟩
theorem v8:Weaker NT S:=by
 intro s G w tm v _;simp[NT,St.get]
 grind [zA]
theorem zH:∀{l:List (Nat×Sh)}{x:AK l}{R:St},Ez l S=some x->Weaker R S->Weaker (xU l x++R) S:=by
 intro l
 induction l with
 |nil=>intro x R _ h;exact h
 |cons e r I =>
  intro x R C h;obtain⟨k,s⟩:=e;simp only[Ez] at C;split at C
  ·rename_i y z hy J;injection C with C
   subst C;intro q G w tm v hA;simp[xU,St.get];cases hk:Nat.beq k q with
   |true =>
    grind [jC,FL]
   |false =>
    cases Nat.beq k BP with
    |true=>simp[zA]
    |false=>exact I J h q G w tm v hA
  grind
theorem yX4{A:St}(h:St.hasCut A):(A++S).get s=A.get s:=by
 induction A<;>grind [St.get,St.hasCut]
theorem zI{A B:St}(h:St.hasCut B):St.hasCut (A++B):=by
 grind [St.hasCut]
variable {gtab:GlobTab}{P:Program}{c:Ctx}{G:Gh}{w:World}{tm:Array Value}{n:Nat}{χ0:Nat->Nat->Nat}{w0:World}{S:St}{a:Act}
def xO (ks:List Nat)(vs:Nat->Value)(a:Act):Prop:=∀i∈ks,a.tmps.getD i undef=vs i
def wM (ks:List Nat):List Oper->Bool
 |[]=>true
 |o::r=>(match o.dst with|some d=>!(ks.any (Nat.beq d))|none=>true)&&wM ks r
def Fu (ks:List Nat):Code->Bool
 |.region _ ops _=>wM ks ops.toList
 |.seq a b=>Fu ks a&&Fu ks b
 |.cond _ a b=>Fu ks a&&Fu ks b
 |.block _ a=>Fu ks a
 |.loop a=>Fu ks a
 |_=>true
theorem yX5{ks:List Nat}{vs:Nat->Value}:∀{ops:List Oper},wM ks ops->∀o∈ops,∀a v,xO ks vs a->xO ks vs (a.put o.dst v):=by
 intro ops
 induction ops with
 |nil=>grind
 |cons x r R =>
  intro h o C a v I;simp[wM] at h;rcases mem_cons.1 C with rfl|C
  ·cases hd:o.dst with
   |none=>exact I
   |some d =>
    intro i J;have kh:d≠i:=by simp_all
    rw[<-I i J];simp[Act.put,Array.getElem?_setIfInBounds_ne kh]
  grind
def Xj [GlobTab] (P:Program)(c:Ctx)(code:Code)(S:St)(out:Out):Prop:=
 (∀q∈out.ok,q)->∀(rd:Option Nat) (χ0:Nat->Nat->Nat) (w0:World) (vs:Nat->Value) (a:Act) (w:World) (G:Gh),Rel c.n χ0 w0 S a w G->xO c.keep vs a ->
  code.wpIn (fz rd) 0 P (λe a' w'=>Fa c.n χ0 w0 S out.comps e a' w'/\xO c.keep vs a') a w
def J2 [GlobTab] (P:Program)(c:Ctx):Code->Prop
 |.seq a b=>J2 P c a/\J2 P c b
 |.cond _ a b=>J2 P c a/\J2 P c b
 |.block _ a=>J2 P c a
 |.loop a=>∀S out,look (λ_=>none) c.loops (Iy a) S=some out->Xj P c (.loop a) S out
 |_=>True
theorem yD(he:Fw e=some k)(C:Rel n χ0 w0 (u++S) a w G):Fa n χ0 w0 S [⟨k,none,u⟩] e a w:=by
 refine⟨k,⟨k,none,u⟩,G,he,by simp[B7],rfl,λI J R _=>?_,C⟩
 grind [B7,Nat.beq,jC]
theorem zY9 (hc:CtxOk P c)(hm:P.follows .mixedOrders):∀{code:Code}{S:St}{out:Out},J2 P c code->Fu c.keep code->eval c code S=some out->Xj P c code S out:=by
 intro code
 induction code with
 |skip =>
  intro S out _ _ h _ rd χ0 w0 vs a w G I J;simp only[eval,jA] at h;subst h;exact wpIn_skip ⟨yD rfl I,J⟩
 |region id ops draw =>
  intro S out _ hw h kf rd χ0 w0 vs a w G I J;simp only[eval] at h;split at h
  ·grind
  ·rename_i v hg;generalize hv:v.all (λe=>blt e.1 c.n)=bv at h;cases bv with
   |false=>grind
   |true =>
    simp only[Bool.not_true,jD] at h;split at h
    ·rename_i p u hr;injection h with h
     subst h;obtain⟨G1,hR1⟩:=yJ8 hc.n I hg λe he=>Nat.blt_eq.mp (all_eq_true.1 hv e he);exact yS3 (yX5 (vs:=vs) hw) hc hm hr kf hR1 J λa' w' G' hR' qn=>⟨yD rfl (by rw[append_assoc];exact hR'),qn⟩
    grind
 |seq x y kZ kV =>
  intro S out R hw h kf rd χ0 w0 vs a w G I J;simp only[J2] at R;simp only[Fu,jB] at hw;simp only[eval] at h;split at h
  ·grind
  ·rename_i oa ha;split at h
   ·rename_i h0;injection h with h
    subst h;refine wpIn_seq (wpIn_mono (kZ R.1 hw.1 ha kf rd χ0 w0 vs a w G I J) λe a' w' C=>?_);cases e with
    |normal=>obtain⟨⟨k,cp,G',h1,h2,_⟩,_⟩:=C;grind [Fw,jA]
    |_=>exact C
   ·rename_i m h0;split at h
    ·grind
    ·rename_i ob hb;injection h with h
     subst h;simp only[SQ,mem_append] at kf;refine wpIn_seq (wpIn_mono (kZ R.1 hw.1 ha (λq hq=>kf q (.inl hq)) rd χ0 w0 vs a w G I J) λe a' w' C=>?_);obtain⟨C,qn⟩:=C;by_cases he:e=.normal
     ·subst he;obtain⟨k,cp,G',h1,h2,h3,h4,h5⟩:=C;simp only[Fw,jA] at h1;subst h1;rw[h0] at h2;injection h2 with h2
      subst h2;simp only[Exit.then];refine wpIn_mono (kV R.2 hw.2 hb (λq hq=>?_) rd χ0 w0 vs a' w' G' h5 qn) λe'' a'' w'' hP'=>⟨xN8 h3 h4 hP'.1,hP'.2⟩;cases hg:m.g with
      |none=>grind [imp]
      |some b =>
       have ir:b:=by rw[hg] at h3;exact h3
       exact yX1 (λq hq=>kf q (.inr (by grind [imp]))) ir q hq
     ·have kh:Fw e≠some 0:=by
       cases e with
       |normal=>simp_all
       |exit id=>simp[Fw]
       |_=>simp[Fw]
      have:=xN7 (ob:=ob) h0 C kh;cases e with
      |normal=>simp_all
      |_=>exact⟨this,qn⟩
 |cond x p q ihp ihq =>
  intro S out R hw h kf rd χ0 w0 vs a w G I J;simp[Fu] at hw;simp only[eval] at h;split at h
  ·rename_i t hx;split at h
   ·rename_i oa ob ha hb;injection h with h
    subst h;have hv:a.eval x=.bool t:=by
     have:=Jz I x;rw[hx] at this;have:=(zC rfl).1 this;simp_all [AP]
    simp[SO,mem_append] at kf;refine wpIn_cond_split hv (λht=>?_) (λht=>?_)
    ·subst ht;exact wpIn_mono (ihp R.1 hw.1 ha (yX1 (λq hq=>kf q (.inl hq)) rfl) rd χ0 w0 vs a w G I J) λe a' w' C=>⟨xF4 C.1,C.2⟩
    ·subst ht;exact wpIn_mono (ihq R.2 hw.2 hb (yX1 (λq hq=>kf q (.inr hq)) rfl) rd χ0 w0 vs a w G I J) λe a' w' C=>⟨xF5 C.1,C.2⟩
   grind
  grind
 |block id x ih =>
  intro S out R hw h kf rd χ0 w0 vs a w G I J;simp only[eval] at h;split at h
  ·rename_i oa ha;injection h with h
   subst h;have td:∀q∈oa.ok,q:=by
    grind [yC]
   refine wpIn_block (wpIn_mono (ih R hw ha td rd χ0 w0 vs a w G I J) λe a' w' C=>?_);have:=xF6 (id:=id) C.1;cases e with
   |exit id' =>
    simp only[Exit.inBlock] at this ⊢;split
    ·simp_all
    ·rename_i e;rw[if_neg e] at this;exact⟨this,C.2⟩
   |_=>exact⟨this,C.2⟩
  grind
 |loop x _ =>
  intro S out R hw h;exact R S out h
 |exit id =>
  intro S out _ _ h _ rd χ0 w0 vs a w G I J;simp[eval] at h;subst h;exact wpIn_exit ⟨yD rfl I,J⟩
 |ret =>
  intro S out _ _ h _ rd χ0 w0 vs a w G I J;simp[eval] at h;subst h;exact wpIn_ret ⟨yD rfl I,J⟩
 |_=>grind [eval]
def loopN {X:Type}(g:X->Bool)(next:X->X):Nat->X->X
 |0,x=>x
 |k+1,x=>cond (g x) (loopN g next k (next x)) x
def AV:Nat:=18446744073709551616
def A3 {X:Type}(g:X->Bool)(next:X->X)(x:X):X:=loopN g next AV x
def Runs {X:Type}(g:X->Bool)(next:X->X)(ok:X->Prop):Nat->X->Prop
 |0,x=>ok x/\g x=false
 |k+1,x=>ok x/\g x/\Runs g next ok k (next x)
def AB {X:Type}(g:X->Bool)(next:X->X)(ok:X->Prop)(x:X):Prop:=∃k,k<AV/\Runs g next ok k x
theorem Runs.loopN {X:Type}{g:X->Bool}{next:X->X}{ok:X->Prop}:∀{k:Nat}{x:X}{F:Nat},Runs g next ok k x->k<F->g (loopN g next F x)=false/\ok (Am.loopN g next F x):=by
 intro k
 induction k with
 |zero =>
  intro x F h C;cases F with
  |zero=>omega
  |succ F=>simp only[Am.loopN,h.2,jD];exact⟨trivial,h.1⟩
 |succ k I =>
  intro x F h C;cases F with
  |zero=>omega
  |succ F=>simp[Am.loopN,h.2.1];exact I h.2.2 (by omega)
variable {body:Code}
theorem xO1{rd:Option Nat}{Q:Exit->Act->World->Prop}(I:Nat->Act->World->Prop)(h₀:I k a w)
  (round:∀k a w,I k a w->body.wpIn (fz rd) 0 P (Exit.then (λJ w'=>∃m,m<k/\I m J w') Q) a w):(Code.loop body).wpIn (fz rd) 0 P Q a w:=by
 intro b kk cs R hb hr;have key:∀n a w,I n a w->∃e J w',Q e J w'/\ArrivesIn (Machine.fenced P (fz rd)) P (lone (b.atR a (.code body::.inLoop body::kk)) cs w) b kk cs e J w':=by
  intro n
  induction n using Nat.strongRecOn with
  |_ n ih =>
   intro a w hI;obtain⟨e,a₁,w₁,C,gE⟩:=round n a w hI b (.inLoop body::kk) cs R hb hr;cases e with
   |normal =>
    obtain⟨m,hlt,hI₁⟩:=C;obtain⟨e₂,a₂,w₂,hq₂,harr₂⟩:=ih m hlt a₁ w₁ hI₁;exact⟨e₂,a₂,w₂,hq₂,.of_steps (StepsIn.trans gE (.one (fenced_calm hb hr rfl) stepR_inLoop)) harr₂⟩
   |exit id=>exact⟨_,a₁,w₁,C,.pass (x:=.inLoop body) rfl (λ_ _=>.inl (by simp)) gE⟩
   |goto l=>exact⟨_,a₁,w₁,C,.pass (x:=.inLoop body) rfl (λ_ _=>.inl (by simp)) gE⟩
   |ret=>exact⟨_,a₁,w₁,C,.pass (x:=.inLoop body) rfl (λ_ _=>.inl (by simp)) gE⟩
   |panic ch=>exact⟨_,a₁,w₁,C,.pass (x:=.inLoop body) rfl (λ_ _=>.inl (by simp)) gE⟩
   |outgrown=>exact⟨_,a₁,w₁,C,.pass (x:=.inLoop body) rfl (λ_ _=>.inl (by simp)) gE⟩
 obtain⟨e,J,w',C,gE⟩:=key _ a w h₀;exact⟨e,J,w',C,.of_steps (.one (fenced_calm hb hr rfl) stepR_loop) gE⟩
def E9 (ly lx:List (Nat×Sh))(y:AK ly)(x:AK lx):St:=xU ly y++(xU lx x++NT)
def P8 (L:St)(l:List Comp):List Comp:=(E8 0 l).map λcp=>⟨cp.kind,cp.g,cp.d++L⟩
def wR (ly lx:List (Nat×Sh))(g:AK ly->AK lx->Bool)(next:AK ly->AK lx->AK lx)(ok:AK ly->AK lx->Prop)(comps:AK ly->AK lx->List Comp)(S:St):Option Out:=
 match Ez ly S,Ez lx S with
 |some y,some x=>some ⟨[AB (g y) (next y) (ok y) x],P8 (E9 ly lx y (A3 (g y) (next y) x)) (comps y (A3 (g y) (next y) x))⟩
 |_,_=>none
variable {lx ly:List (Nat×Sh)}
theorem xA6{y:AK ly}{x:AK lx}:St.hasCut (E9 ly lx y x):=zI (zI rfl)
theorem xF8(hc:CtxOk P c)(hm:P.follows .mixedOrders)(hL:J2 P c body)(hw:Fu c.keep body){g:AK ly->AK lx->Bool}{next:AK ly->AK lx->AK lx}
  {ok:AK ly->AK lx->Prop}{comps:AK ly->AK lx->List Comp}{oks:AK ly->AK lx->List Prop}
  (uw:∀y x,eval c body (E9 ly lx y x)=some ⟨oks y x,comps y x⟩) (ic:∀y x,ok y x->Ka (oks y x))
  (hZ:∀y x,∃m,B7 0 (comps y x)=some m/\tk m.g=g y x/\Ez ly (m.d++E9 ly lx y x)=some y/\Ez lx (m.d++E9 ly lx y x)=some (next y x)) :
  ∀S out,wR ly lx g next ok comps S=some out->Xj P c (.loop body) S out:=by
 intro S out h kf rd χ0 w0 vs a w G hR hk;unfold wR at h;split at h
 ·rename_i y x hy hx;injection h with h
  subst h;obtain⟨k,hkf,qe⟩:=kf _ (jQ ..);have hR0:Rel c.n χ0 w0 (E9 ly lx y x) a w G:=(zH hy (zH hx v8)).rel hR;refine xO1 (I:=λk a w=>∃C G F,Rel c.n χ0 w0 (E9 ly lx y C) a w G/\xO c.keep vs a/\Runs (g y) (next y) (ok y) k C/\k<F/\loopN (g y) (next y) F C=A3 (g y) (next y) x) (k:=k) ⟨x,G,AV,hR0,hk,qe,hkf,rfl⟩ ?_
  rintro k a w ⟨C,G,F,hR,hk,qe,hF,ig⟩;have te:ok y C:=by cases k with|zero=>exact qe.1|succ k=>exact qe.1
  refine wpIn_mono (zY9 hc hm hL hw (uw y C) (AllP_iff.1 (ic y C te)) rd χ0 w0 vs a w G hR hk) λe a' w' hP=>?_;obtain⟨hP,qn⟩:=hP;obtain⟨m,m1,m2,m3,m4⟩:=hZ y C;obtain⟨q,cp,G',h1,h2,h3,h4,h5⟩:=hP;by_cases he:e=.normal
  ·subst he;simp[Fw] at h1;subst h1;rw[m1] at h2;injection h2 with h2
   subst h2;rw[m2] at h3;cases k with
   |zero=>rw[qe.2] at h3;grind
   |succ k =>
    cases F with
    |zero=>omega
    |succ F =>
     refine⟨k,by omega,next y C,G',F,(zH m3 (zH m4 v8)).rel h5,qn,qe.2.2,by omega,?_⟩
     simp_all [Am.loopN]
  ·have hq:q≠0:=by
    intro e0;subst e0;cases e<;>simp[Fw] at h1 he
   have hg:g y C=false:=by
    grind
   have kS:C=A3 (g y) (next y) x:=by
    rw[<-ig];cases F with
    |zero=>omega
    |succ F=>rw[Am.loopN,hg,jD]
   subst kS;have hq0:Nat.beq q 0=false:=by cases q with|zero=>exact absurd rfl hq|succ q=>rfl
   have kR:∀J,B7 J (P8 (E9 ly lx y (A3 (g y) (next y) x)) (comps y (A3 (g y) (next y) x)))=(cond (Nat.beq J 0) none (B7 J (comps y (A3 (g y) (next y) x)))).map λcp=>⟨cp.kind,cp.g,cp.d++E9 ly lx y (A3 (g y) (next y) x)⟩:=by
    intro J;unfold P8;rw[uV (f:=λcp=>⟨cp.kind,cp.g,cp.d++E9 ly lx y (A3 (g y) (next y) x)⟩) (λ_=>rfl),P6]
   have R:Fa c.n χ0 w0 S (P8 (E9 ly lx y (A3 (g y) (next y) x)) (comps y (A3 (g y) (next y) x))) e a' w':=by
    refine⟨q,⟨cp.kind,cp.g,cp.d++E9 ly lx y (A3 (g y) (next y) x)⟩,G',h1,?_,h3,λJ c' hf ht=>?_,?_⟩
    ·rw[kR,hq0,jD,h2];rfl
    ·rw[kR] at hf;cases qn:Nat.beq J 0 with
     |true=>simp[qn] at hf
     |false =>
      cases hx:B7 J (comps y (A3 (g y) (next y) x))<;>grind
    grind [s8,yX4,zI,xA6]
   cases e with
   |normal=>exact absurd rfl he
   |_=>exact⟨R,qn⟩
 grind
variable {gtab:GlobTab}{P:Program}{c:Ctx}{G:Gh}{w:World}{tm:Array Value}{n:Nat}{χ0:Nat->Nat->Nat}{w0:World}{S:St}{a:Act}
def zZ [GlobTab] (c:Ctx)(S:St):ResultVar->Option AVal
 |.tmp t=>some (arg S (.tmp t))
 |.cell r T=>match LU c T (arg S (.tmp r)) (C6 S (arg S (.tmp r))) with|some ([],A)=>some A | _=>none
def Kd [GlobTab] (c:Ctx)(S:St):List ResultVar->Option AVal
 |[]=>some (.tup .nl)
 |[r]=>zZ c S r
 |[r,s]=>match zZ c S r,zZ c S s with|some A,some B=>some (.tup (.cons A (.cons B .nl)))|_,_=>none
 |[r,s,t]=>match zZ c S r,zZ c S s,zZ c S t with|some A,some B,some C=>some (.tup (.cons A (.cons B (.cons C .nl))))|_,_,_=>none
 |[r,s,t,u]=>match zZ c S r,zZ c S s,zZ c S t,zZ c S u with|some A,some B,some C,some D=>some (.tup (.cons A (.cons B (.cons C (.cons D .nl)))))|_,_,_,_=>none
 |_=>none
def xO2 (tmps:Array Value):ResultVar->Sem Value
 |.tmp t=>pure (tmps.getD t undef)
 |.cell a t=>do loadVar t (<-asAddr (tmps.getD a undef))
theorem zE(I:CtxOk P c)(C:Rel n χ0 w0 S a w G){r:ResultVar}(h:zZ c S r=some A):∃v,(xO2 a.tmps r).run P w=.ok v w/\zA G w a.tmps none A v:=by
 cases r with
 |tmp t =>
  simp[zZ] at h;subst h;exact⟨_,rfl,Jz C (.tmp t)⟩
 |cell r T =>
  simp only[zZ] at h;split at h
  ·rename_i A' R;have hx:=Jz C (.tmp r);obtain⟨u,h1,h2⟩:=yF I.tys I.fts hx (λs J=>⟨_,by
    have:=C.reps s;cases hA:arg S (.tmp r)<;>simp[hA,zD] at J<;>(subst J;simpa[C6] using this)⟩) R (λq hq=>by grind)
   simp only[xO2];have hv:a.eval (.tmp r)=a.tmps.getD r undef:=rfl;cases hvv:a.tmps.getD r undef with
   |pointer p =>
    cases p<;>simp_all [Instr.loadAt,Instr.sureAddr,asAddr]
   |_=>simp_all [Instr.loadAt,Instr.sureAddr]
  grind
variable {fn:Func}
theorem yS4(R:CtxOk P c)(hR:Rel n χ0 w0 S a w G)(h:Kd c S fn.results.toList=some A):∃v,(results fn a.tmps).run P w=.ok v w/\zA G w a.tmps none A v:=by
 have hfn:fn.results=fn.results.toList.toArray:=by simp
 generalize fn.results.toList=l at h hfn;have hsem:results fn a.tmps=(do let vs <-fn.results.mapM (xO2 a.tmps);pure (if h:vs.size=1 then vs[0] else .tuple vs)):=by
  congr 1
 match l,h with
 |[],h=>simp[Kd] at h;subst h;simp_all [zA]
 |[r],h =>
  obtain⟨v,h1,h2⟩:=zE R hR h;simp_all
 |[r,s],h =>
  simp only[Kd] at h;split at h
  ·rename_i A' B hA hB;injection h with h;subst h
   obtain⟨v,h1,h2⟩:=zE R hR hA;obtain⟨v',h1',I⟩:=zE R hR hB;exact⟨.tuple #[v,v'],by simp_all,by exact⟨v,[v'],rfl,h2,v',[],rfl,I,rfl⟩⟩
  grind
 |[r,s,t],h =>
  simp only[Kd] at h;split at h
  ·rename_i A' B C hA hB hC;injection h with h;subst h
   obtain⟨v,h1,h2⟩:=zE R hR hA;obtain⟨v',h1',I⟩:=zE R hR hB;obtain⟨v'',h1'',J⟩:=zE R hR hC;exact⟨.tuple #[v,v',v''],by simp_all,by exact⟨v,[v',v''],rfl,h2,v',[v''],rfl,I,v'',[],rfl,J,rfl⟩⟩
  grind
 |[r,s,t,u],h =>
  simp only[Kd] at h;split at h
  ·rename_i A' B C D hA hB hC hD;injection h with h;subst h
   obtain⟨v,h1,h2⟩:=zE R hR hA;obtain⟨v',h1',I⟩:=zE R hR hB;obtain⟨v'',h1'',J⟩:=zE R hR hC;obtain⟨v3,h13,h23⟩:=zE R hR hD;exact⟨.tuple #[v,v',v'',v3],by simp_all,by exact⟨v,[v',v'',v3],rfl,h2,v',[v'',v3],rfl,I,v'',[v3],rfl,J,v3,[],rfl,h23,rfl⟩⟩
  grind
 |_::_::_::_::_::_,h=>grind [Kd]
def P9 (S:St)(l:List Comp):Option St:=
 bif l.all (λx=>ble x.kind 1) then
  match B7 0 l,B7 1 l with
  |none,some r=>some r.d
  |some m,none=>some m.d
  |some m,some r=>some (Ic (tk r.g) r.d m.d S)
  |none,none=>none
 else none
theorem yS5:∀{l:List Comp},B7 k l=some x->x∈l:=by
 intro l
 induction l<;>grind [B7]
theorem xA7{l:List Comp}{d:St}(h:P9 S l=some d)(J:Fa n χ0 w0 S l e a w):(e=.normal\/e=.ret)/\∃G,Rel n χ0 w0 (d++S) a w G:=by
 obtain⟨k,cp,G,R,I,h3,h4,h5⟩:=J;unfold P9 at h;generalize C:l.all (λx=>ble x.kind 1)=b at h;cases b with
 |false=>grind
 |true =>
  have hk:k<=1:=by
   have:=all_eq_true.1 C cp (yS5 I);rw[Xg I] at this;simp_all
  have he:e=.normal\/e=.ret:=by
   cases e<;>grind [id,Fw,jA]
  refine⟨he,G,?_⟩;obtain rfl|rfl:k=0\/k=1:=by omega
  all_goals grind [tk,uR,uD]
def Gp:Nat->List AVal->St
 |_,[]=>[]
 |i,A::r=>(i,A)::Gp (i+1) r
@[reducible] def En:List (Nat×Sh)->Type
 |[]=>Unit
 |(_,s)::r=>s.den×En r
def wV:(s:Sh)->s.den->AVal
 |.box _ s,x=>s.mk x
 |s,x=>s.mk x
def PA:(l:List (Nat×Sh))->En l->List (Nat×AVal)
 |[],_=>[]
 |(i,s)::r,x=>(i,wV s x.1)::PA r x.2
def Ke:(l:List (Nat×Sh))->St->Option (En l)
 |[],_=>some ()
 |(i,s)::r,S=>match s.parse (S.get i),Ke r S with|some x,some y=>some (x,y)|_,_=>none
def xO3:Sh->Bool
 |.box _ _=>true|_=>false
def fnSpec (ps:List (Nat×Sh))(rs:Sh)(os:List (Nat×Sh))(ok:AK ps->Prop)(f:AK ps->rs.den)(o:AK ps->En os):Spec:=λargs =>
 bif Nat.beq args.length ps.length then
  match Ez ps (Gp 0 args) with
  |some x=>some ⟨[ok x],rs.mk (f x),PA os (o x),[]⟩
  |none=>none
 else none
def PB:Nat->List (Nat×Sh)->Bool
 |_,[]=>true
 |i,(k,_)::r=>Nat.beq k i&&PB (i+1) r
def Xk (ps:List (Nat×Sh))(keep:List Nat)(os:List (Nat×Sh)):Bool:=
 os.all λe=>keep.any (Nat.beq e.1)&&(match ps[e.1]? with
  |some (_,.box τ _)=>(match e.2 with|.box τ' _=>Ty.beq τ' τ | _=>false)
  |some (_,.any)=>false
  |some _=>!xO3 e.2
  |none=>false)
theorem yH3:∀{args:List AVal}{i:Nat},i<=s->s<i+args.length->i+args.length<=BP->some ((Gp i args).get s)=args[s-i]?:=by
 intro args
 induction args with
 |nil=>grind
 |cons A r C =>
  intro i I J R;simp[Gp,St.get];by_cases e:i=s
  ·simp_all
  grind [Nat.beq,absurd,jC]
theorem xO4:∀{args:List AVal}{i:Nat},i+args.length<=s\/s<i->(Gp i args).get s=.junk:=by
 intro args
 induction args<;>grind [Gp,St.get,Nat.beq,jC]
theorem yK3{S:St}:∀{ps:List (Nat×Sh)}{x:AK ps}{k:Nat}{i:Nat}{s:Sh},Ez ps S=some x->ps[k]?=some (i,s)->∃y,s.parse (S.get i)=some y:=by
 intro ps
 induction ps<;>grind [Ez]
theorem xX4:∀{ps:List (Nat×Sh)}{i k j:Nat}{s:Sh},PB i ps->ps[k]?=some (j,s)->j=i+k:=by
 intro ps
 induction ps with
 |nil=>grind
 |cons e r C =>
  intro i k j s h I;simp[PB] at h
  grind
theorem xO5{S:St}{k:AVal}:∀{os:List (Nat×Sh)}{x:En os},Ke os S=some x->(i,k)∈PA os x->∃s y,(i,s)∈os/\k=wV s y/\s.parse (S.get i)=some y:=by
 intro os
 induction os with
 |nil=>intro x _ h;cases h
 |cons e r J =>
  intro x C I;simp only[Ke] at C;split at C
  ·rcases mem_cons.1 I with h|h
   all_goals grind
  grind
variable {τ:Ty}{B:AVal}
theorem xO6{s:Sh}{x:s.den}(h:s.parse A=some x)(I:A=.box τ B):s=.any\/∃C,s=.box τ C:=by
 cases s with
 |box τ' C =>
  simp[Sh.parse,Xi] at h;cases hb:Ty.beq τ' τ with
  |true=>have:=Ty.eq_of_beq hb;simp_all
  |false=>grind
 |any=>simp_all
 |val τ'=>grind [Sh.parse,AVal.as,AVal.asT]
 |own t T m=>grind [Sh.parse,NS]
 |nl=>grind [Sh.parse,vT]
 |cons a b=>grind [Sh.parse,Th]
 |agg f s=>grind [Sh.parse,Tg]
 |ref s τ'=>grind [Sh.parse,Tf]
 |tup s=>grind [Sh.parse,xX2]
 |fn f s=>grind [Sh.parse,vU]
 |nil=>grind [Sh.parse,vF]
 |nn b=>grind [Sh.parse,vJ]
 |fptr f caps=>grind [Sh.parse,vN]
 |ownh t T U m=>grind [Sh.parse,yK]
def Eo (ps:List (Nat×Sh))(x:AK ps):St:=xU ps x++NT
theorem xF9:∀{ps:List (Nat×Sh)}{x:AK ps},∀e∈Eo ps x,e.2.hasOpt=false:=by
 intro ps
 induction ps with
 |nil=>intro x e he;simp[Eo,xU,NT] at he;subst he;rfl
 |cons q r C =>
  intro x e he;rcases mem_cons.1 he with h|h
  ·grind [v7]
  ·exact C e h
variable {f:Nat}{code:Code}{ps os:List (Nat×Sh)}{rs:Sh}
theorem xG(hc:CtxOk P c)(hm:P.follows .mixedOrders)(hf:P.funcs[f]?=some fn)(hb:fn.body=some code)(gn:fn.name≠"runtime.NumGoroutine") (hn:fn.ntmps=c.n)
  (hL:J2 P c code) (hw:Fu c.keep code){ok:AK ps->Prop}{F:AK ps->rs.den}{o:AK ps->En os}
  {oks:AK ps->List Prop}{comps:AK ps->List Comp}{d:AK ps->St}{res:AK ps->AVal}(ub:(PB 0 ps&&Xk ps c.keep os&&ble ps.length c.n)=true)
  (heval:∀x,eval c code (Eo ps x)=some ⟨oks x,comps x⟩) (ic:∀x,ok x->Ka (oks x))
  (kS:∀x,P9 (Eo ps x) (comps x)=some (d x)) (kY:∀x,Kd c (d x++Eo ps x) fn.results.toList=some (res x)) (gX:∀x,rs.parse (res x)=some (F x))
  (gW:∀x,Ke os (d x++Eo ps x)=some (o x)):SpecOk P f (fnSpec ps rs os ok F o):=by
 simp only[jB] at ub;obtain⟨⟨hps1,hps2⟩,hps3⟩:=ub;have hps3:ps.length<=c.n:=jR hps3;refine⟨⟨fn,hf,by grind,gn⟩,λargs co hsp kf G w vals hlen hglob kj=>?_⟩;unfold fnSpec at hsp;generalize qo:Nat.beq args.length ps.length=b at hsp;cases b with
 |false=>grind
 |true =>
  have qo:=jC qo;simp only[jE] at hsp;split at hsp
  ·rename_i x hx;injection hsp with hsp
   subst hsp;have te:ok x:=kf _ (jQ ..);refine callsIn_wide.1 (callsIn_of_wp (n:=0) hf hb trivial ?_);generalize hact:({ tmps:=vals.toArray++Array.replicate (fn.ntmps-vals.toArray.size) undef,defers:=[] }:Act)=act;have gq:∀s,s<vals.length->act.tmps.getD s undef=vals.getD s undef:=by
    intro s hs;rw[<-hact];simp[Array.getElem?_append,hs]
   have hcn:=hc.n;have iP:Rel c.n G.χ w (Eo ps x) act w G:=by
    refine⟨?_,by grind,λs=>?_,⟨rfl,rfl,rfl,jI _,λ_ _ _=>rfl,λ_ _ _ _=>⟨rfl,rfl⟩⟩,hglob⟩
    ·grind
    ·have key:zA G w #[] (some s) ((Eo ps x).get s) (act.tmps.getD s undef):=by
      refine zH hx v8 s G w #[] _ ?_;by_cases hs:s<args.length
      ·have h1:=yH3 (s:=s) (args:=args) (i:=0) (by omega) (by omega) (by omega);simp_all
      grind [xO4,zA]
     refine zO (λk hk=>?_) key;have:=zU6 (q:=λA=>A.hasOpt=false) rfl (S:=Eo ps x) (s:=s) xF9
     grind [P4]
   refine wpIn_mono (zY9 hc hm hL hw (heval x) (AllP_iff.1 (ic x te)) none G.χ w (λi=>act.tmps.getD i undef) act w G iP (λi _=>rfl)) λe a' w' hP=>?_;obtain⟨hP,hk⟩:=hP;obtain⟨he,G',hR⟩:=xA7 (kS x) hP;obtain⟨v,hv1,hv2⟩:=yS4 hc hR (kY x);have ux:a'.defers=[]/\∃v,(results fn a'.tmps).run P w'=.ok v w'/\∃v' G',Ending.returned v=.returned v'/\Frame0 G.χ w G'.χ w'/\zA G' w' #[] none (rs.mk (F x)) v' /\
     (∀(i:Nat) k A u,(i,k)∈PA os (o x)->args[i]?=some A->vals[i]?=some u ->
      (∀τ k0,A=.box τ k0->zA G' w' #[] (some i) (.box τ k) u/\G'.β i=G.β i)/\(Ft A=false->zA G' w' #[] none k u)):=by
    refine⟨hR.defers,v,hv1,v,G',rfl,hR.frame,?_,?_⟩
    ·refine zO (λk hk=>?_) (FL (gX x) hv2)
     grind [P4,v7]
    ·intro i k A u hi ha hu;obtain⟨s',y,h1,rfl,h3⟩:=xO5 (gW x) hi;simp only[Xk,all_eq_true,jB] at hps2;have h4:=hps2 _ h1;have ik:=FL h3 (hR.reps i);have hilt:i<args.length:=(List.getElem?_eq_some_iff.1 ha).1;have uy:a'.tmps.getD i undef=u:=by
      obtain⟨j,hj,hjb⟩:=any_eq_true.1 h4.1;have:=jC hjb;subst this;rw[hk i hj]
      grind
     rw[uy] at ik;have ik:zA G' w' #[] (some i) (s'.mk y) u:=zO (λk hk=>by grind [P4,v7]) ik;obtain⟨p,hpi⟩:∃p,ps[i]?=some (i,p)/\∃z,p.parse A=some z:=by
      have qm:i<ps.length:=by omega
      obtain⟨⟨j,p⟩,hpi⟩:∃q,ps[i]?=some q:=⟨_,jL qm⟩;have hj:=xX4 hps1 hpi;obtain⟨z,hz⟩:=yK3 hx hpi;have h1:=yH3 (s:=j) (args:=args) (i:=0) (by omega) (by omega) (by omega)
      grind
     obtain⟨hpi,z,hz⟩:=hpi;rw[hpi] at h4;constructor
     ·rintro τ k0 rfl;rcases xO6 hz rfl with rfl|⟨s2,rfl⟩
      ·grind
      ·cases s' with
       |box τ' s3 =>
        have:=Ty.eq_of_beq h4.2;subst this;refine⟨ik,?_⟩;have h0:=kj i _ _ ha hu;have:=h0.1.symm.trans ik.1;simp only[Value.pointer.injEq,jA,Addr.mk.injEq] at this;exact this.1.symm
       |_=>simp at h4
     ·intro hA;cases s' with
      |box τ' s3 =>
       split at h4
       ·rename_i j τ2 s2 e;obtain⟨rfl,rfl⟩:=e;simp only[Sh.parse] at hz;cases A<;>simp[Xi,Ft] at hz hA
       ·simp at h4
       ·simp[xO3] at h4
       ·simp at h4
      |_=>exact SS (by simpa only[wV] using ik) (by intro τ c e;cases e) (by intro e;cases e)
   rcases he with rfl|rfl
   ·exact ux
   ·exact ux
  grind
variable {gtab:GlobTab}{P:Program}{c:Ctx}
def Ti (H:St):List Comp->List (List (Nat×Sh))->Option (List Comp)
 |[],[]=>some []
 |cp::r,l::s=>match Ez l (cp.d++H),Ti H r s with
  |some z,some q=>some (⟨cp.kind,cp.g,xU l z++NT⟩::q)
  |_,_=>none
 |_,_=>none
def wW (H:St)(l:List Comp)(ls:List (List (Nat×Sh))):Option (List Comp):=
 match Ti H l ls with
 |some [q]=>some [⟨q.kind,none,q.d⟩]
 |r=>r
def NU [GlobTab] (c:Ctx)(body:Code)(ly lx:List (Nat×Sh))(les:List (List (Nat×Sh)))(y:AK ly)(x:AK lx):Option (Prop×Bool×AK ly×AK lx×List Comp):=
 match eval c body (E9 ly lx y x) with
 |none=>none
 |some o=>match B7 0 o.comps with
  |none=>none
  |some m=>match Ez ly (m.d++E9 ly lx y x),Ez lx (m.d++E9 ly lx y x),wW (E9 ly lx y x) (E8 0 o.comps) les with
   |some y',some x',some es=>some (Ka o.ok,tk m.g,y',x',es)
   |_,_,_=>none
def I6 (ly lx:List (Nat×Sh))(g:AK ly->AK lx->Bool)(next:AK ly->AK lx->AK lx)(ok:AK ly->AK lx->Prop)(es:AK ly->AK lx->List Comp)(S:St):Option Out:=
 match Ez ly S,Ez lx S with
 |some y,some x=>some ⟨[AB (g y) (next y) (ok y) x],es y (A3 (g y) (next y) x)⟩
 |_,_=>none
theorem yX8{H:St}:∀{l:List Comp}{ls:List (List (Nat×Sh))}{es:List Comp},Ti H l ls=some es->(B7 k es=none/\B7 k l=none)\/∃cp cp',B7 k l=some cp/\B7 k es=some cp'/\cp'.g=cp.g/\St.hasCut cp'.d/\Weaker cp'.d (cp.d++H):=by intro l;induction l with|nil=>intro ls es h;cases ls<;>simp[Ti] at h;subst h;exact .inl ⟨rfl,rfl⟩|cons cp r I=>intro ls es h;cases ls with|nil=>grind [Ti]|cons s ls=>simp only[Ti] at h;split at h;rename_i z q C J;injection h with h;subst h;simp only[B7];(cases Nat.beq cp.kind k with|true=>exact .inr ⟨cp,_,rfl,rfl,rfl,zI rfl,zH C v8⟩|false=>grind);grind
variable {les:List (List (Nat×Sh))}
theorem xO8{H:St}{l:List Comp}(h:wW H l les=some la):(B7 k la=none/\B7 k l=none)\/∃cp cp',B7 k l=some cp/\B7 k la=some cp'/\(cp'.g=cp.g\/(cp'.g=none/\∀C J,B7 C l=some J->C=k))/\St.hasCut cp'.d/\Weaker cp'.d (cp.d++H):=by unfold wW at h;split at h;rename_i q hq;(have gk:∀C,B7 C [q]=none->B7 C l=none:=λC h'=>by grind [yX8]);rcases yX8 (k:=k) hq with ⟨R,h2⟩ | ⟨cp,cp',R,h2,h3,h4,h5⟩;grind [B7];right;have I:=h2;simp only[B7] at I;(cases hb:Nat.beq q.kind k with|false=>grind|true=>simp[hb] at I;subst I;refine⟨cp,⟨q.kind,none,q.d⟩,R,by grind [B7],.inr ⟨rfl,λC J hf=>?_⟩,h4,h5⟩;cases kP:Nat.beq q.kind C<;>simp_all [B7]);grind [yX8]
theorem xU0(hc:CtxOk P c)(hm:P.follows .mixedOrders)(hL:J2 P c body)(hw:Fu c.keep body){g:AK ly->AK lx->Bool}{next:AK ly->AK lx->AK lx}{ok:AK ly->AK lx->Prop}{es:AK ly->AK lx->List Comp}(kt:∀y x,NU c body ly lx les y x=some (ok y x,g y x,y,next y x,es y x)):∀S out,I6 ly lx g next ok es S=some out->Xj P c (.loop body) S out:=by intro S out h kf rd χ0 w0 vs a w G hR hk;unfold I6 at h;split at h;rename_i y x hy hx;injection h with h;subst h;(have qf:∀y x,∃o m,eval c body (E9 ly lx y x)=some o/\B7 0 o.comps=some m/\Ka o.ok=ok y x/\tk m.g=g y x/\Ez ly (m.d++E9 ly lx y x)=some y/\Ez lx (m.d++E9 ly lx y x)=some (next y x)/\wW (E9 ly lx y x) (E8 0 o.comps) les=some (es y x):=by intro y x;have:=kt y x;unfold NU at this;split at this;cases this;rename_i o ho;split at this;cases this;rename_i m hm;split at this;rename_i y' x' es' C h2 h3;simp only[jA,jG] at this;obtain⟨e1,e2,rfl,rfl,rfl⟩:=this;exact⟨o,m,ho,hm,e1,e2,C,h2,h3⟩;cases this);let O:AK ly->AK lx->Out:=λy x=>(eval c body (E9 ly lx y x)).getD ⟨[],[]⟩;(have hO:∀y x,eval c body (E9 ly lx y x)=some (O y x):=by intro y x;obtain⟨o,m,C,_⟩:=qf y x;simp only[O,C,Option.getD_some]);(have J:wR ly lx g next ok (λy x=>(O y x).comps) S=some ⟨[AB (g y) (next y) (ok y) x],P8 (E9 ly lx y (A3 (g y) (next y) x)) (O y (A3 (g y) (next y) x)).comps⟩:=by unfold wR;rw[hy,hx]);have hsnd:=xF8 hc hm hL hw (g:=g) (next:=next) (ok:=ok) (comps:=λy x=>(O y x).comps) (oks:=λy x=>(O y x).ok) hO (λy x hx=>by obtain⟨o,m,C,h2,h3,_⟩:=qf y x;have:=hO y x;rw[C] at this;injection this with this;rw[<-this,h3];exact hx) (λy x=>by obtain⟨o,m,C,h2,h3,h4,h5,h6,h7⟩:=qf y x;have:=hO y x;rw[C] at this;injection this with this;exact⟨m,by rw[<-this];exact h2,h4,h5,h6⟩) S _ J kf rd χ0 w0 vs a w G hR hk;refine wpIn_mono hsnd λe a' w' hP=>⟨?_,hP.2⟩;obtain⟨k,cp,G',q1,R,q3,q4,q5⟩:=hP.1;obtain⟨o,m,C,h2,h3,h4,h5,h6,h7⟩:=qf y (A3 (g y) (next y) x);have I:=hO y (A3 (g y) (next y) x);rw[C] at I;injection I with I;(have kR:∀k',B7 k' (P8 (E9 ly lx y (A3 (g y) (next y) x)) (O y (A3 (g y) (next y) x)).comps)=(B7 k' (E8 0 o.comps)).map λcp=>⟨cp.kind,cp.g,cp.d++E9 ly lx y (A3 (g y) (next y) x)⟩:=by intro k';unfold P8;rw[uV (f:=λcp=>⟨cp.kind,cp.g,cp.d++E9 ly lx y (A3 (g y) (next y) x)⟩) (λ_=>rfl),I]);rw[kR] at R;rcases xO8 (k:=k) h7 with ⟨_,e2⟩ | ⟨c1,c2,e1,e2,e3,e4,e5⟩;rw[e2] at R;cases R;rw[e1] at R;simp only[Option.map_some,jA] at R;subst R;(have htk:tk c2.g:=by rcases e3 with e3|⟨e3,_⟩;rw[e3];exact q3;rw[e3];rfl);refine⟨k,c2,G',q1,e2,htk,λk' c' hf ht=>?_,?_⟩;rcases xO8 (k:=k') h7 with ⟨f1,_⟩ | ⟨d1,d2,f1,f2,f3,_,_⟩;rw[f1] at hf;cases hf;rw[f2] at hf;injection hf with hf;subst hf;rcases f3 with f3|⟨_,f3⟩;refine q4 k' ⟨d1.kind,d1.g,d1.d++E9 ly lx y (A3 (g y) (next y) x)⟩ (by rw[kR,f1];rfl) ?_;rw[f3] at ht;exact ht;exact (f3 k c1 e1).symm;have r1:Rel c.n χ0 w0 (c1.d++E9 ly lx y (A3 (g y) (next y) x)) a' w' G':=s8 (λs=>(yX4 (zI xA6)).symm) q5;exact s8 (λs=>yX4 e4) (e5.rel r1);cases h
def I7 [GlobTab] (c:Ctx)(code:Code)(rv:List ResultVar)(ps:List (Nat×Sh))(rs:Sh)(os:List (Nat×Sh))(x:AK ps):Option (Prop×rs.den×En os):=
 match eval c code (Eo ps x) with
 |none=>none
 |some o=>match P9 (Eo ps x) o.comps with
  |none=>none
  |some d=>match Kd c (d++Eo ps x) rv,Ke os (d++Eo ps x) with
   |some r,some z=>(match rs.parse r with|some v=>some (Ka o.ok,v,z)|none=>none)
   |_,_=>none
variable {rv:List ResultVar}
theorem xU1(hc:CtxOk P c)(hm:P.follows .mixedOrders)(hf:P.funcs[f]?=some fn)(hb:fn.body=some code)(gn:fn.name≠"runtime.NumGoroutine") (hn:fn.ntmps=c.n) (hL:J2 P c code) (hw:Fu c.keep code){ok:AK ps->Prop}{F:AK ps->rs.den}{o:AK ps->En os}(ub:(PB 0 ps&&Xk ps c.keep os&&ble ps.length c.n))(hrv:fn.results.toList=rv) (kt:∀x,I7 c code rv ps rs os x=some (ok x,F x,o x)):SpecOk P f (fnSpec ps rs os ok F o):=by (have qf:∀x,∃out d r,eval c code (Eo ps x)=some out/\P9 (Eo ps x) out.comps=some d/\Kd c (d++Eo ps x) fn.results.toList=some r/\rs.parse r=some (F x)/\Ke os (d++Eo ps x)=some (o x)/\Ka out.ok=ok x:=by intro x;have:=kt x;unfold I7 at this;grind);let O:AK ps->Out:=λx=>(eval c code (Eo ps x)).getD ⟨[],[]⟩;let D:AK ps->St:=λx=>(P9 (Eo ps x) (O x).comps).getD [];let R:AK ps->AVal:=λx=>(Kd c (D x++Eo ps x) fn.results.toList).getD .junk;(have hO:∀x,eval c code (Eo ps x)=some (O x)/\P9 (Eo ps x) (O x).comps=some (D x)/\Kd c (D x++Eo ps x) fn.results.toList=some (R x)/\rs.parse (R x)=some (F x)/\Ke os (D x++Eo ps x)=some (o x)/\Ka (O x).ok=ok x:=by intro x;obtain⟨out,d,r,h1,h2,h3,h4,h5,h6⟩:=qf x;grind);exact xG hc hm hf hb gn hn hL hw (oks:=λx=>(O x).ok) (comps:=λx=>(O x).comps) (d:=D) (res:=R) ub (λx=>(hO x).1) (λx hx=>by grind) (λx=>(hO x).2.1) (λx=>(hO x).2.2.1) (λx=>(hO x).2.2.2.1) (λx=>(hO x).2.2.2.2.1)
variable {gtab:GlobTab}{P:Program}{c:Ctx}
def Fx:Code->List Code
 |.seq a b=>Fx a++Fx b
 |.cond _ a b=>Fx a++Fx b
 |.block _ a=>Fx a
 |.loop a=>[a]
 |_=>[]
def Tj (cd:Code)(i:Nat):Code:=(Fx cd).getD i .skip
def yY [GlobTab] (P:Program)(c:Ctx)(b:Code):Prop:=∀S out,look (λ_=>none) c.loops (Iy b) S=some out->Xj P c (.loop b) S out
def He [GlobTab] (P:Program)(c:Ctx):List Code->Prop
 |[]=>True
 |b::r=>yY P c b/\He P c r
theorem zX5:∀{l r:List Code},He P c (l++r)->He P c l/\He P c r:=by intro l;induction l with|nil=>intro r h;exact⟨trivial,h⟩|cons b l C=>intro r h;have:=C h.2;exact⟨⟨h.1,this.1⟩,this.2⟩
theorem yH4:∀{code:Code}{bs:List Code},Fx code=bs->He P c bs->J2 P c code:=by intro code;induction code with|seq a b gK gG=>intro bs he h;subst he;simp only[Fx] at h;have:=zX5 h;exact⟨gK rfl this.1,gG rfl this.2⟩|cond x a b gK gG=>intro bs he h;subst he;simp only[Fx] at h;have:=zX5 h;exact⟨gK rfl this.1,gG rfl this.2⟩|block id a C=>intro bs he h;subst he;simp only[Fx] at h;exact C rfl h|loop a _=>intro bs he h;subst he;simp only[Fx] at h;exact h.1|_=>intro bs _ _;trivial
def NV [GlobTab] (P:Program):List (Nat×Spec)->Prop
 |[]=>True
 |(f,sp)::r=>SpecOk P f sp/\NV P r
theorem yN7:∀{l:List (Nat×Spec)},NV P l->∀f sp,(f,sp)∈l->SpecOk P f sp:=by intro l;induction l with|nil=>intro _ f sp h;cases h|cons e r C=>intro h f sp hm;obtain⟨g,s⟩:=e;rcases mem_cons.1 hm with e|hm;simp only[jG] at e;obtain⟨rfl,rfl⟩:=e;exact h.1;exact C h.2 f sp hm
def xO9 [GlobTab] (P:Program):List (Nat×(List AVal->Option (List Prop×AVal)))->Prop
 |[]=>True
 |(f,e)::r=>P1 P f e/\xO9 P r
theorem xP:∀{l:List (Nat×(List AVal->Option (List Prop×AVal)))},xO9 P l->∀f e,(f,e)∈l->P1 P f e:=by intro l;induction l with|nil=>intro _ f e h;cases h|cons q r C=>intro h f e hm;obtain⟨g,J⟩:=q;rcases mem_cons.1 hm with hm|hm;injection hm with e1 I;subst e1;subst I;exact h.1;exact C h.2 f e hm
theorem xZ8 (ht:ED P c.tys)(iu:(Jy P c.maps&&yP P c.fts))(C:NV P c.fns)(he:xO9 P c.exts)(I:ble c.n BP)(ko:c.clones=[]:=by rfl):CtxOk P c:=⟨ht,yN7 C,xP he,((jB _ _).mp iu).1,((jB _ _).mp iu).2,jR I,λf k h=>by rw[ko] at h;cases h⟩
theorem wY (ht:ED P c.tys)(iu:(Jy P c.maps&&yP P c.fts))(C:NV P c.fns)(he:c.exts=[])(I:ble c.n BP)(ko:c.clones=[]:=by rfl):CtxOk P c:=⟨ht,yN7 C,(λf e h=>by rw[he] at h;cases h),((jB _ _).mp iu).1,((jB _ _).mp iu).2,jR I,λf k h=>by rw[ko] at h;cases h⟩
theorem xZ9(ht:ED P c.tys)(iu:(Jy P c.maps&&yP P c.fts))(C:NV P c.fns)(he:c.exts=[])(I:ble c.n BP)(ko:c.clones=[(f,k)])(J:xJ6 P f k):CtxOk P c:=⟨ht,yN7 C,(λf e h=>by rw[he] at h;cases h),((jB _ _).mp iu).1,((jB _ _).mp iu).2,jR I,λR k' h=>by rw[ko,jH] at h;cases h;exact J⟩
variable {bs:List Code}
theorem xU2(C:CtxOk P c)(hm:P.follows .mixedOrders)(hb:Fx body=bs)(I:He P c bs)(hw:Fu c.keep body){g:AK ly->AK lx->Bool}{next:AK ly->AK lx->AK lx}{ok:AK ly->AK lx->Prop}{es:AK ly->AK lx->List Comp}(J:look (λ_=>none) c.loops (Iy body)=I6 ly lx g next ok es)(kt:∀y x,NU c body ly lx les y x=some (ok y x,g y x,y,next y x,es y x)):yY P c body:=by intro S out h;rw[J] at h;exact xU0 C hm (yH4 hb I) hw kt S out h
theorem xU3(hc:CtxOk P c)(hm:P.follows .mixedOrders)(hf:P.funcs[f]?=some fn)(hb:fn.body=some code)(gn:fn.name≠"runtime.NumGoroutine") (hn:fn.ntmps=c.n)(iO:Fx code=bs) (hL:He P c bs) (hw:Fu c.keep code){ok:AK ps->Prop}{F:AK ps->rs.den}{o:AK ps->En os}(ub:(PB 0 ps&&Xk ps c.keep os&&ble ps.length c.n))(hrv:fn.results.toList=rv) (kt:∀x,I7 c code rv ps rs os x=some (ok x,F x,o x)):SpecOk P f (fnSpec ps rs os ok F o):=xU1 hc hm hf hb gn hn (yH4 iO hL) hw ub hrv kt
theorem xY5(hf:P.funcs[f]?=some fn)(hb:fn.body.isSome)(gn:fn.name≠"runtime.NumGoroutine"){F:AK ps->rs.den}{o:AK ps->En os}:SpecOk P f (fnSpec ps rs os (λ_=>False) F o):=by refine⟨⟨fn,hf,hb,gn⟩,λargs co hsp kf=>?_⟩;unfold fnSpec at hsp;generalize Nat.beq args.length ps.length=b at hsp;cases b with|false=>cases hsp|true=>simp only[jE] at hsp;split at hsp;injection hsp with hsp;subst hsp;exact (kf _ (jQ ..)).elim;cases hsp
theorem wA{R:Nat->AK ps->Prop×rs.den×En os}(h:∀k,SpecOk P f (fnSpec ps rs os (λx=>(R k x).1) (λx=>(R k x).2.1) (λx=>(R k x).2.2)))(m:AK ps->Nat):SpecOk P f (fnSpec ps rs os (λx=>(R (m x) x).1) (λx=>(R (m x) x).2.1) (λx=>(R (m x) x).2.2)):=by refine⟨(h 0).1,λargs co C kf=>?_⟩;unfold fnSpec at C;generalize hb:Nat.beq args.length ps.length=b at C;cases b with|false=>cases C|true=>simp only[jE] at C;split at C;rename_i x I;refine (h (m x)).2 args co ?_ kf;unfold fnSpec;rw[hb,jE,I];exact C;cases C
@[reducible] def vI:Sh:=.val (.int .i64)
@[reducible] def vB:Sh:=.val .bool
@[reducible] def vS:Sh:=.val .str
def ex (k:Nat)(g:Option Bool)(l:List (Nat×Sh))(v:AK l):Comp:=⟨k,g,xU l v++NT⟩
@[reducible] def Cx (tys:List (Nat×Ty)) (fns:List (Nat×Spec)) (loops:List (Nat×(St->Option Out))) (gh:List (Nat×List (Nat×Nat×Nat×Nat))) (wrap:Bool) (n:Nat) (keep wr:List Nat):Ctx:=
 {tys,fns,loops,gh,wrap,n,keep,wr }
theorem y5(C:CtxOk P c)(hm:P.follows .mixedOrders){sp:St->Option Out}{g:AK ly->AK lx->Bool}{next:AK ly->AK lx->AK lx}{ok:AK ly->AK lx->Prop}{es:AK ly->AK lx->List Comp}(I:sp=I6 ly lx g next ok es)(les:List (List (Nat×Sh)))(hb:Fx body=bs)(J:He P c bs)(hw:Fu c.keep body)(R:look (λ_=>none) c.loops (Iy body)=sp)(kt:∀y x,NU c body ly lx les y x=some (ok y x,g y x,y,next y x,es y x)):yY P c body:=by subst I;exact xU2 C hm hb J hw R kt
def PC (fn:Func)(c:Ctx)(ps:List (Nat×Sh))(os:List (Nat×Sh)):Bool:=
 fn.body.isSome&&(!(fn.name=="runtime.NumGoroutine")&&(Nat.beq fn.ntmps c.n&&(Fu c.keep (fn.body.getD .skip)&&(PB 0 ps&&Xk ps c.keep os&&ble ps.length c.n))))
theorem Xl(J:CtxOk P c)(hm:P.follows .mixedOrders)(R:P.funcs[f]?=some fn){ok:AK ps->Prop}{F:AK ps->rs.den}{o:AK ps->En os}(C:PC fn c ps os)(iO:Fx (fn.body.getD .skip)=bs)(hL:He P c bs)(kt:∀x,I7 c (fn.body.getD .skip) fn.results.toList ps rs os x=some (ok x,F x,o x)):SpecOk P f (fnSpec ps rs os ok F o):=by simp only[PC,jB,jK,beq_eq_false_iff_ne,ne_eq] at C;obtain⟨h1,h2,h3,I,h5⟩:=C;obtain⟨code,hb⟩:=Option.isSome_iff_exists.1 h1;rw[hb,Option.getD_some] at I iO kt;exact xU3 J hm R hb h2 (jC h3) iO hL I (by simpa only[jB] using h5) rfl kt
theorem zU9:∀{l r:List Code},He P c l->He P c r->He P c (l++r) |[],_,_,h=>h|_::_,_,⟨C,I⟩,h=>⟨C,zU9 I h⟩
structure Li where
 ly:List (Nat×Sh)
 lx:List (Nat×Sh)
 g:AK ly->AK lx->Bool
 next:AK ly->AK lx->AK lx
 ok:AK ly->AK lx->Prop
 es:AK ly->AK lx->List Comp
 les:List (List (Nat×Sh))
def Li.sp (l:Li):St->Option Out:=I6 l.ly l.lx l.g l.next l.ok l.es
def Lu:Code->List Code
 |.seq a b=>Lu a++Lu b
 |.cond _ a b=>Lu a++Lu b
 |.block _ a=>Lu a
 |.loop a=>a::Lu a
 |_=>[]
abbrev wC8:Type:=Option (Σ l:Li,Bool×(St->Option Out)×(AK l.ly->AK l.lx->Option (Prop×Bool×AK l.ly×AK l.lx×List Comp)))
def Tk [GlobTab] (c:Ctx):List Code->List (Nat×Li)->List wC8
 |b::bs,(_,l)::ls=>some ⟨l,Fu c.keep b,look (λ_=>none) c.loops (Iy b),λy x=>NU c b l.ly l.lx l.les y x⟩::Tk c bs ls
 |_::_,[]=>[none]
 |[],_=>[]
def Tl:List (Nat×Li)->List wC8
 |[]=>[]
 |(_,l)::ls=>some ⟨l,true,l.sp,λy x=>some (l.ok y x,l.g y x,y,l.next y x,l.es y x)⟩::Tl ls
def wC9 [GlobTab] (c:Ctx)(b:Code):Prop:=∃l:Li,Fu c.keep b/\look (λ_=>none) c.loops (Iy b)=l.sp/\∀y x,NU c b l.ly l.lx l.les y x=some (l.ok y x,l.g y x,y,l.next y x,l.es y x)
theorem xA8:∀{bs:List Code}{ls:List (Nat×Li)},Tk c bs ls=Tl ls->∀b∈bs,wC9 c b |[],_,_,_,h=>nomatch h|_::_,[],h,_,_=>by cases h|b::bs,(_,l)::ls,h,C,hb=>by simp only[Tk,Tl,List.cons.injEq,jA,Sigma.mk.injEq,heq_eq_eq,jG,true_and] at h;obtain⟨⟨I,J,R⟩,h4⟩:=h;rcases mem_cons.1 hb with rfl|hb;exact⟨l,I,J,λy x=>congrFun (congrFun R y) x⟩;exact xA8 h4 C hb
theorem xP0 (J:CtxOk P c)(hm:P.follows .mixedOrders):∀{code:Code},(∀b∈Lu code,wC9 c b)->He P c (Fx code):=by intro code;induction code with|seq a b gK gG=>intro h;exact zU9 (gK λx C=>h x (mem_append_left _ C)) (gG λx C=>h x (mem_append_right _ C))|cond x a b gK gG=>intro h;exact zU9 (gK λx C=>h x (mem_append_left _ C)) (gG λx C=>h x (mem_append_right _ C))|block id a I=>intro h;exact I h|loop a I=>intro h;obtain⟨l,R,h2,h3⟩:=h a (jQ ..);exact⟨y5 J hm rfl l.les rfl (I λx C=>h x (jP _ C)) R h2 h3,trivial⟩|_=>intro _;trivial
structure Fb [GlobTab] (P:Program) where
 n:Nat
 s:Spec
 h:SpecOk P n s
def Fb.l [GlobTab]{P:Program}:List (Fb P)->List (Nat×Spec)
 |[]=>[]
 |b::r=>(b.n,b.s)::Fb.l r
theorem Fb.all:∀l:List (Fb P),NV P (Fb.l l) |[]=>trivial|b::r=>⟨b.h,Fb.all r⟩
def Li.l:List (Nat×Li)->List (Nat×(St->Option Out))
 |[]=>[]
 |(k,l)::r=>(k,l.sp)::Li.l r
theorem wD6(C:CtxOk P c)(hm:P.follows .mixedOrders)(I:P.funcs[f]?=some fn){ok:AK ps->Prop}{F:AK ps->rs.den}{o:AK ps->En os}(J:PC fn c ps os){ls:List (Nat×Li)}(R:Tk c (Lu (fn.body.getD .skip)) ls=Tl ls)(kt:∀x,I7 c (fn.body.getD .skip) fn.results.toList ps rs os x=some (ok x,F x,o x)):SpecOk P f (fnSpec ps rs os ok F o):=Xl C hm I J rfl (xP0 C hm (xA8 R)) kt
def FM (k:IntKind)(a b:Int):Int:=Pp k (λx y=>x &&& y) a b
def ior (k:IntKind)(a b:Int):Int:=Pp k (λx y=>x ||| y) a b
def Fi (a b:Int)(n:Nat):Int:=a.fdiv (2 ^ (min b.toNat n))
def nth {α:Type}(l:List α)(i:Int)(d:α):α:=l.getD i.toNat d
def A7 (i n:Int):Prop:=0<=i/\i<n
def len {α:Type}(l:List α):Int:=(l.length:Int)
def wD (s:List UInt8)(i:Int):Int:=((s.getD i.toNat 0).toNat:Int)
variable {gtab:GlobTab}{P:Program}
def y8:List AVal->Option (List Prop×AVal)
 |[.val (.int .u64) x,.val (.int .u64) y,.val (.int .u64) c] =>
  some ([0<=c/\c<=1],.tup (.cons (.val (.int .u64) (((toNat x+toNat y+toNat c) % 18446744073709551616:Nat):Int)) (.cons (.val (.int .u64) (((toNat x+toNat y+toNat c) / 18446744073709551616:Nat):Int)) .nl)))
 |_=>none
def z8:List AVal->Option (List Prop×AVal)
 |[.val .str s,.val (.int .u8) c]=>some ([],.val (.int .i64) (Lib.indexByte s (toNat c).toUInt8))
 |_=>none
variable {vals:List Value}
theorem xU6{G:Gh}{w:World}{tm:Array Value}(h:C2 (zA G w tm none) [A,B] vals):∃u v,vals=[u,v]/\zA G w tm none A u/\zA G w tm none B v:=by match vals,h with |[u,v],h=>simp only[C2] at h;exact⟨u,v,rfl,h.1,h.2.1⟩|[],h=>simp[C2] at h|[_],h=>simp[C2] at h|_::_::_::_,h=>simp[C2] at h
theorem xG1{G:Gh}{w:World}{tm:Array Value}{C:AVal}(h:C2 (zA G w tm none) [A,B,C] vals):∃u v x,vals=[u,v,x]/\zA G w tm none A u/\zA G w tm none B v/\zA G w tm none C x:=by match vals,h with |[u,v,x],h=>simp only[C2] at h;exact⟨u,v,x,rfl,h.1,h.2.1,h.2.2.1⟩|[],h=>simp[C2] at h|[_],h=>simp[C2] at h|[_,_],h=>simp[C2] at h|_::_::_::_::_,h=>simp[C2] at h
theorem xV3(hf:P.funcs[f]?=some fn)(gn:(fn.name=="runtime.NumGoroutine")=false) (hb:fn.body.isNone=true) (hn:(Extern.findNext fn).isNone=true) (he:Extern.find fn=some Extern.BytealgIndexByte.indexByte):P1 P f z8:=by intro args p A h _ G w tm vals hv;unfold z8 at h;split at h;simp only[jA,jG] at h;obtain⟨rfl,rfl⟩:=h;obtain⟨u,v,rfl,h1,h2⟩:=xU6 hv;simp only[zA] at h1 h2;rw[VRep_str] at h1;rw[VRep_int] at h2;subst h1;subst h2;refine⟨_,?_,FD⟩;rw[run_callFunc_extern hf gn hb (Option.isNone_iff_eq_none.1 hn) he,Lib.run_indexByteString];rfl;cases h
theorem wB6(hf:P.funcs[f]?=some fn)(gn:(fn.name=="runtime.NumGoroutine")=false) (hb:fn.body.isNone=true) (hn:(Extern.findNext fn).isNone=true) (he:Extern.find fn=some add64Entry):P1 P f y8:=by intro args p A h hp G w tm vals hv;unfold y8 at h;split at h;rename_i x y c;simp only[jA,jG] at h;obtain⟨rfl,rfl⟩:=h;have hc:(0:Int)<=c/\(c:Int)<=1:=hp _ (jQ ..);obtain⟨u,v,q,rfl,h1,h2,h3⟩:=xG1 hv;simp only[zA] at h1 h2 h3;rw[VRep_int] at h1 h2 h3;subst h1;subst h2;subst h3;refine⟨Extern.MathBitsCarry.pair ((toNat x+toNat y+toNat c) % Extern.MathBitsCarry.m64) ((toNat x+toNat y+toNat c) / Extern.MathBitsCarry.m64),?_,?_⟩;rw[run_callFunc_extern hf gn hb (Option.isNone_iff_eq_none.1 hn) he];(have key:∀k:Nat,k<=1->(add64Entry #[.int .u64 x,.int .u64 y,.int .u64 (k:Int)]).run P w=.ok (Extern.MathBitsCarry.pair ((toNat x+toNat y+k) % Extern.MathBitsCarry.m64) ((toNat x+toNat y+k) / Extern.MathBitsCarry.m64)) w:=by intro k hk;(have:k=0\/k=1:=by omega);rcases this with rfl|rfl<;>rfl);obtain⟨k,hk⟩:=Int.eq_ofNat_of_zero_le hc.1;have h0:c=((k:Nat):Int):=hk;(have nh:k<=1:=by have h1:=hc.2;rw[h0] at h1;exact Int.ofNat_le.1 h1);rw[h0];show ((add64Entry #[.int .u64 x,.int .u64 y,.int .u64 (k:Int)]).run P w).andThen _=_;rw[key k nh];rfl;simp only[zA,Extern.MathBitsCarry.pair,Extern.MathBitsCarry.m64];exact⟨_,[_],rfl,FD (s:=none) (tm:=tm),_,[],rfl,FD (s:=none) (tm:=tm),rfl⟩;cases h
open Go
instance (r:Int):Decidable (A6 r):=inferInstanceAs (Decidable (_/\_))
instance (i n:Int):Decidable (A7 i n):=inferInstanceAs (Decidable (_/\_))
def Xm {X:Type}(g:X->Bool)(next:X->X)(okb:X->Bool):Nat->X->Bool
 |0,_=>false
 |k+1,x=>okb x&&(cond (g x) (Xm g next okb k (next x)) true)
theorem xU7{X:Type}{g:X->Bool}{next:X->X}{ok:X->Prop}{okb:X->Bool}(h:∀x,okb x=true↔ok x):∀{F:Nat}{x:X},Xm g next okb F x=true↔∃k,k<F/\Runs g next ok k x:=by intro F;induction F with|zero=>intro x;simp[Xm]|succ F R=>intro x;simp only[Xm,jB,h];cases I:g x with|false=>simp only[jD,and_true];constructor;intro J;exact⟨0,by omega,J,I⟩;rintro⟨k,_,C⟩;(cases k with|zero=>exact C.1|succ k=>exact C.1)|true=>simp only[jE,R];constructor;rintro⟨J,k,hk,C⟩;exact⟨k+1,by omega,J,I,C⟩;rintro⟨k,hk,C⟩;cases k with|zero=>rw[C.2] at I;cases I|succ k=>exact⟨C.1,k,by omega,C.2.2⟩
instance {X:Type}{g:X->Bool}{next:X->X}{ok:X->Prop}[inst:∀x,Decidable (ok x)] (x:X):Decidable (AB g next ok x):=decidable_of_iff (Xm g next (λx=>decide (ok x)) AV x=true) (xU7 λx=>by simp)
variable {gtab:GlobTab}{P:Program}{w:World}{χ:Nat->Nat->Nat}
def Ty.deep:Ty->Bool
 |.ptr _=>false|.cons h t=>h.deep&&t.deep|.st f=>f.deep|.arr _ t=>t.deep|.sl t=>blt 0 t.size&&t.deep|_=>true
def Ty.wf:(τ:Ty)->τ.den->Prop
 |.int k,x=>k.min<=x/\x<=k.max
 |.bool,_=>True
 |.str,s=>length (α:=UInt8) s<=maxLen
 |.nl,_=>True
 |.cons h t,x=>h.wf x.1/\t.wf x.2
 |.st f,x=>f.wf x
 |.arr n t,l=>length (α:=t.den) l=n/\∀y∈(l:List t.den),t.wf y
 |.sl t,l=>length (α:=t.den) l<=maxLen/\∀y∈(l:List t.den),t.wf y
 |.ptr t,x=>t.wf x
theorem xG2{f:Nat->Value}(sz:Nat):∀n,(range n).flatMap (λi=>(range sz).map λk=>f (i*sz+k))=(range (n*sz)).map f:=by
 intro n
 induction n<;>simp_all [Nat.succ_mul,List.range_add]
variable {cs:List Value}
theorem xP2(sz:Nat):∀n,(range n).flatMap (λi=>(cs.drop (i*sz)).take sz)=cs.take (n*sz):=by
 intro n
 induction n<;>simp_all [List.range_succ,Nat.succ_mul,List.take_add]
theorem Xn(h:B0 P τ (.inl T)):P.cellsOf T=τ.size:=by
 obtain⟨⟨i,z,C,I,_⟩,_⟩:=Hc h
 grind [Program.cellsOf]
theorem cells?_is{a:Addr}{n:Nat}(h:w.cells? 0 a n=some cs):cs=(range n).map (λk=>(w.cell? (a.add k)).getD undef)/\∀k,k<n->∃v,w.cell? (a.add k)=some v:=by
 simp[World.cells?] at h;generalize C:(λi=>w.cell? (a.add i))=f at h;have key:∀(l:List Nat) (cs:List Value),l.mapM f=some cs->cs=l.map (λk=>(f k).getD undef)/\∀k∈l,∃v,f k=some v:=by
  intro l
  induction l<;>simp_all [Option.bind_eq_some_iff]
 have:=key _ _ h;subst C;simp_all
theorem xP3 (a:Addr)(m k:Nat):(a.add m).add k=a.add (m+k):=by
 grind [Addr.add,Nat.add_assoc]
theorem yS6{a:Addr}(h:w.cell? a=some v):a.spot=none/\a.block<w.heap.size:=by
 unfold cell? at h;split at h
 ·rename_i c _ _ hb;split at h
  ·grind
  ·refine⟨by simp_all,EZ hb⟩
 grind
section
variable {H:Type}{enc:TypeId×Value->H}{sp:Nat->Bool}{held:Bool}
end
end Go.Am
