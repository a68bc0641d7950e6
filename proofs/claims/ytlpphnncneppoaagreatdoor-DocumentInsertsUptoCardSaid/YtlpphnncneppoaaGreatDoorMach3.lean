/- The abstract machine, part 3: a typed interpreter for the program's code, and that it is sound. No condition. -/
import Derived.Test.YtlpphnncneppoaaGreatDoorMach2
import Derived.Orders
import Derived.Lib.Bytealg
import Derived.ProofKit
import Derived.Carry
namespace Go.Am
open Go Go.RowKit
open Go.Region (binds ready wanted)
open Go.World (cell?)
open _root_.Int (toNat)
open _root_.List (all_eq_true any_cons any_eq_false any_eq_true append_assoc append_nil getD length map_cons map_map map_nil mem_append mem_append_left mem_append_right mem_cons range)
open _root_.Nat (ble blt le_of_not_lt)
variable {rd:Option Nat}{gtab:GlobTab}{P:Program}{c:Ctx}{G:Gh}{w:World}{tm:Array Value}{n:Nat}{χ0:Nat->Nat->Nat}{w0:World}{S:St}{a:Act}
def Gh.frozen (w:World):Gh:=⟨λb _=>if b<w.heap.size then 0 else 2,λ_=>0,λ_=>0⟩
theorem Lf{b o:Nat}(h:b<w.heap.size):(Gh.frozen w).χ b o=0:=by grind [Gh.frozen]
theorem W9:∀b o,b<w.heap.size->G.χ b o=0->(Gh.frozen w).χ b o=0/\w.cell? ⟨b,o,none⟩=w.cell? ⟨b,o,none⟩:=λ_ _ h _=>⟨Lf h,rfl⟩
variable {t:Ty}{T:Nat}{v:Value}
theorem yR4(ht:t.isL=false){l:List t.den}{m:Bool}(h:BQ G w t l T m v):AN (Gh.frozen w).χ w (.sl t) l [v]:=by simp only[AN];rcases (EE h ht).2 with ⟨rfl,rfl⟩ | ⟨cap,cur,e,us,rfl,R,C,h4,h5,I,h7,h8⟩;grind;refine⟨_,cap,rfl,?_⟩;refine .inr ⟨G.γ T,0,us,rfl,C,EU (λ_ _ J=>CX (χ:=G.χ) W9 J) I,λj u hu=>?_⟩;grind [Lf,zE,cell?]
theorem yR5:∀{A:AVal}{τ:Ty}{vs:List Value},AF G w τ A vs->(A.lent).laxT τ->AF (Gh.frozen w) w τ A.lent vs:=by intro A;induction A with|val τ' x=>intro τ vs h _;simp[AVal.lent,AVal.mapOwn,AF] at h ⊢;grind [CX,W9]|nil=>simp_all [AVal.lent,AVal.mapOwn,AF]|own t l T m=>intro τ vs h C;simp[AVal.lent,AVal.mapOwn] at h C ⊢;obtain⟨rfl,v,rfl,I⟩:=h;(cases ht:t.isL with|true=>exact⟨rfl,v,rfl,Wu I⟩|false=>simp only[jD,AF];exact⟨trivial,rfl,yR4 ht I⟩)|agg f b ih=>have e:(AVal.agg f b).lent=cond (b.lent.laxT f) (.agg f b.lent) (.junk):=rfl;grind [AVal.laxT,Ty.isSl,AF]|nl=>simp_all [AVal.lent,AVal.mapOwn,AF]|junk=>simp_all [AVal.lent,AVal.mapOwn,AF]|cons x y kP kK=>intro τ vs h C;obtain⟨h1,t1,us,ws,rfl,rfl,J,R⟩:=h;have e:(AVal.cons x y).lent=.cons x.lent y.lent:=rfl;rw[e] at C ⊢;simp[AVal.laxT,GH] at C;exact⟨_,_,us,ws,rfl,rfl,kP J C.1,kK R C.2⟩|_=>grind [AF]
variable {i:Nat}
theorem xM{Y k:AVal}{kv:Value}(C:zA G w tm none Y v)(hk:∀s,EF Y=some s->zA G w tm (some s) k kv):zA (Gh.frozen w) w #[] (some i) (Jf Y k) v:=by have hp:∀b o,b<w.heap.size->G.χ b o=0->(Gh.frozen w).χ b o=0/\w.cell? ⟨b,o,none⟩=w.cell? ⟨b,o,none⟩:=W9;cases Y with|val τ x=>simp only[Jf,zA] at C ⊢;exact Gk hp C|nil=>simp only[Jf,zA] at C ⊢;exact C|own t l T m=>simp only[Jf];(cases ht:t.isL with|true=>simp only[jE,zA]|false=>simp only[jD];simp only[zA] at C;exact Lb (yR4 ht C))|ownh t l T j U m=>simp only[Jf];(cases I:(Nat.beq T U&&!m) with|false=>simp only[jD,zA]|true=>simp only[jB,jK] at I;obtain⟨I,rfl⟩:=I;have I:=jC I;subst I;simp only[jE];simp only[zA] at C;obtain⟨ko,⟨_,⟨_,x,ad,cap,rfl,rfl,h3⟩ | ⟨hm,_⟩⟩ | ⟨kj,_⟩⟩:=C;rotate_left;cases hm;rotate_right;refine Lb ?_;simp only[AN];refine⟨ad,cap,rfl,?_⟩;rcases h3 with rfl|⟨o,us,cur,e,rfl,g2,g3,g4,g5,g6⟩;exact .inl rfl;exact .inr ⟨G.γ T,o,us,rfl,g2,EU (λ_ _ R=>CX (χ:=G.χ) W9 R) g4,λj u hu=>⟨by simp only[cell?,g3];simpa using g5 j u hu,Lf (zE g3)⟩⟩;exact absurd rfl kj)|agg f d=>simp only[Jf];split;rename_i x J;simp only[zA] at C ⊢;obtain⟨vs,e,ht⟩:=C;have ki:=Nz J;simp only[AVal.fitsT,jB] at ki;exact Ip (G:=Gh.frozen w) (tm:=#[]) J rfl (by simp only[zA];exact⟨vs,e,yR5 ht (OZ ki.2)⟩);simp only[zA]|fn f cs=>simp only[Jf];(cases hq:cs.pureL with|false=>simp only[jD,zA]|true=>simp only[jE];simp only[zA] at C ⊢;obtain⟨vs,e1,e2⟩:=C;exact⟨vs,e1,yF5 hp hq e2⟩)|ref s τ p=>(cases p with|nil=>(cases k with|box τ' k=>simp only[Jf];(cases hb:Ty.beq τ' τ with|false=>simp only[jD,zA]|true=>simp only[jE];have e:=Ty.eq_of_beq hb;subst e;split;rename_i x J;obtain⟨ko,cur,e,g1,g2,g3⟩:=N0 (hk s rfl);simp only[zA] at C;(have hv:v=.pointer (some ⟨G.β s,0,none⟩):=by simpa[Ty.poff] using C.2);rw[hv];have R:=JV (G:=Gh.frozen w) J (yR5 g2 (OZ (Nz J)));exact S3 R (λj u hu=>⟨by simp only[cell?,g1];simpa using hu,Lf (zE g1)⟩);simp only[zA])|_=>simp only[Jf,zA])|cons _ _=>simp only[Jf,zA])|_=>simp only[Jf,zA]
variable {χ':Nat->Nat->Nat}{w':World}
theorem fJ{χ:Nat->Nat->Nat}{w:World}:∀{τ:Ty}{x:τ.den}{vs:List Value},τ.noMem->AN χ w τ x vs->AN χ' w' τ x vs:=by intro τ;induction τ with|int k=>intro x vs _ C;exact C|bool=>intro x vs _ C;exact C|str=>intro x vs _ C;exact C|nl=>intro x vs _ C;exact C|cons a b J hb=>intro x vs I C;simp[Ty.noMem] at I;obtain⟨us,ws,rfl,R,h2⟩:=C;exact⟨us,ws,rfl,J I.1 R,hb I.2 h2⟩|st f hf=>intro x vs I C;exact hf I C|arr n t ht=>intro x vs I C;exact⟨C.1,EU (λ_ _ h=>ht I h) C.2⟩|sl t ht=>grind [Ty.noMem]|ptr t ht=>grind [Ty.noMem]
def Gh.unlend (G G':Gh)(b0:Nat):Gh:={ G' with χ:=λb o=>if b<b0 then (G.callee []).χ b o else G'.χ b o }
theorem xE7{χ:Nat->Nat->Nat}{w:World}{k v:Ty}(C:k.noMem)(hv:v.noMem):∀{l:List (k.den×v.den×Unit)}{es:List MapEntry},Il χ w k v l es->Il χ' w' k v l es:=by intro l;induction l with|nil=>intro es h;exact h|cons x l I=>rintro es ⟨e,r,rfl,⟨J,a2,a3⟩,⟨R,b2,b3⟩,h3⟩;exact⟨e,r,rfl,⟨J,fJ C a2,a3⟩,⟨R,fJ hv b2,b3⟩,I h3⟩
variable {G':Gh}
theorem xS1(hF:Frame0 (Gh.frozen w).χ w G'.χ w'):∀{A:AVal}{v:Value},A.scal->zA G' w' #[] none A v->zA (G.unlend G' w.heap.size) w' #[] none A v:=by intro A;induction A with|val τ x=>intro v C h;obtain⟨vs,I,J⟩:=h;exact⟨vs,fJ C I,J⟩|nil=>grind [zA]|own t l T m=>intro v C h;simp only[AVal.scal] at C;rcases h with h|⟨R,hM⟩;rotate_left;refine .inr ⟨R,?_⟩;obtain⟨k,e,l',ht,hl,es,clock,I,J,h3,h4⟩:=hM;(have kV:¬G'.γ T<w.heap.size:=by intro hb;have h9:=(hF.cell _ 0 hb (by grind [Lf])).1;grind [Lf,DE]);subst ht;simp only[Ty.noMem,jB] at C;refine⟨k,e,l',rfl,hl,es,clock,I,J,xE7 C.1 C.2.1 h3,λo=>?_⟩;simp_all [Gh.unlend,if_neg];refine .inl ⟨h.1,?_⟩;rcases h.2 with h|⟨cap,cur,e,us,I,J,h3,h4,h5,h6,h7,h8⟩;grind;(have kV:¬G'.γ T<w.heap.size:=by intro hb;have h9:=(hF.cell _ (l.length*t.size) hb (by grind [Lf])).1;rw[Lf hb,h8,if_neg (by omega)] at h9;grind [DE]);refine .inr ⟨cap,cur,e,us,I,J,h3,h4,h5,EU (λ_ _ hc=>fJ C hc) h6,h7,λo=>?_⟩;simp_all [Gh.unlend,if_neg]|tup b ih=>grind [AVal.scal,zA]|nl=>grind [zA]|cons x y kP kK=>grind [AVal.scal,zA]|_=>grind [AVal.scal]
theorem yV6(C:Frame0 (Gh.frozen w).χ w G'.χ w'):Back G w [] (G.unlend G' w.heap.size) w':=by refine⟨⟨C.os,C.tape,C.output,C.size,λb hb _=>C.block b hb (λo=>by grind [Lf]),λb o hb _=>⟨by simp_all [Gh.unlend],(C.cell b o hb (by grind [Lf])).2⟩⟩,λb hb=>?_⟩;grind [F3,Gm]
variable {o:Oper}{fo:Operand}{args:Array Operand}{ats:Array TypeId}{f:Nat}{cs:AVal}{r:List AVal}{u:St}{hv:Bool}{next:Act->World->Prop}
theorem yG8(hc:CtxOk P c)(C:Rel c.n χ0 w0 S a w G){p:List Prop}(ho:o.op=.call { callee:=.value fo,args,argTypes:=ats })(hf:zA G w a.tmps none (.fn f cs) (a.eval fo))(hr:C2 (zA G w a.tmps none) r (args.toList.map a.eval))(kl:Ii cs)(h:Jg c o.dst f (r++cs.toL) ((r++cs.toL).map (C4 S)) S=some (p,u,hv))(I:∀e∈u,e.1<c.n)(hh:∀s,∀e∈u,(S.get s).hung e.1=false)(hp:∀q∈p,q){Q:Exit->Act->World->Prop}(hZ:∀v w' G',Rel c.n χ0 w0 (u++S) (a.put o.dst v) w' G'->next (a.put o.dst v) w'):o.wpIn (fz rd) 0 P a w next Q:=by simp only[zA] at hf;obtain⟨vs,tf,ng⟩:=hf;have kt:=W6 (vs:=vs.toList) kl (by simpa using ng);have gf:=W7 hr kt;generalize hysd:r++cs.toL=ys at h gf;unfold Jg at h;split at h;cases h;rename_i co nj;split at h;rename_i d gX hd;obtain⟨sp,gC,J⟩:=zO7 nj;have kg:=hc.fns f sp gC;obtain⟨fn,h1,h2,h3⟩:=kg.1;(have kf:(execOp a.eval o).run P w=.ok (.enter f (args.toList.map a.eval++vs.toList).toArray) w:=by (have gi:(args.toList.map a.eval++vs.toList).toArray=args.map a.eval++vs:=by apply Array.toList_inj.1;simp);rw[gi];unfold execOp;(have R:fn.body.isNone=false:=by cases hb:fn.body<;>simp_all);simp[ho,resolve,tf,Deferred.ofValue,invoke,callFunc,h1,h3];intro hb;simp[hb] at R);generalize th:args.toList.map a.eval++vs.toList=vals at gf kf;generalize qw:(_&&BZ (300000+d) S)=bb at h;(cases bb with|false=>cases h|true=>simp only[jB] at qw;obtain⟨⟨⟨⟨⟨b1,b2⟩,b3⟩,b4⟩,b5⟩,b6⟩:=qw;simp only[jE,jA,jG] at h;obtain⟨rfl,rfl,_⟩:=h;refine SA kf ((kg.2 _ co J hp (Gh.frozen w) w vals (by simp[N3 gf]) (Nv (χ:=G.χ) W9 C.glob) (λi A v hA hv=>?_)).mono ?_);obtain⟨Y,k,hY,hk,rfl⟩:=yA0 hA;(have gK:k=C4 S Y:=by simp[hY] at hk;exact hk.symm);subst gK;exact xM (kv:=match EF Y with |some s=>a.tmps.getD s undef|none=>undef) (Ph gf hY hv) (λs hs=>by rw[hs];exact N5 C hs);rintro e w' ⟨v,G',rfl,hF,kO,_⟩;refine⟨v,rfl,hZ v w' (G.back (G.unlend G' w.heap.size) w.heap.size (some d)) ?_⟩;rw[hd];refine yM9 (dst:=some d) (res:=co.res) (ys:=[]) (u:=[]) C hc.n (yV6 hF) (xS1 hF b2 kO) b1 (λb hb=>by simp[F3,Gm] at hb) (λe he=>by cases he) I (λs d' e=>by injection e with e;subst e;exact hh s _ (jQ ..)) (λd' e s j hj=>?_);injection e with e;subst e;(obtain rfl|rfl|rfl|rfl:j=0\/j=1\/j=2\/j=3:=by omega);simpa using Jt b3 s;simpa using Jt b4 s;simpa using Jt b5 s;simpa using Jt b6 s);cases h
theorem yV7(hc:CtxOk P c)(hR:Rel c.n χ0 w0 S a w G){p:List Prop}(ho:o.op=.call { callee:=.value fo,args,argTypes:=ats })(hf:zA G w a.tmps none (.fn f cs) (a.eval fo))(hr:C2 (zA G w a.tmps none) r (args.toList.map a.eval))(kl:Ii cs)(h:Sm c o.dst f (r++cs.toL) S=some (p,u,hv))(I:∀e∈u,e.1<c.n)(hh:∀s,∀e∈u,(S.get s).hung e.1=false)(hp:∀q∈p,q){Q:Exit->Act->World->Prop}(hZ:∀v w' G',Rel c.n χ0 w0 (u++S) (a.put o.dst v) w' G'->next (a.put o.dst v) w'):o.wpIn (fz rd) 0 P a w next Q:=by simp only[zA] at hf;obtain⟨vs,tf,ng⟩:=hf;have kt:=W6 (vs:=vs.toList) kl (by simpa using ng);have gf:=W7 hr kt;generalize hysd:r++cs.toL=ys at h gf;unfold Sm at h;split at h;rename_i t x T i U d hd;generalize qw:(_&&BZ d S)=bb at h;(cases bb with|false=>cases h|true=>simp only[jB,any_eq_true] at qw;obtain⟨⟨b1,⟨f',k'⟩,hm,J⟩,b3⟩:=qw;simp only at J;have e:=jC b1;subst e;have e:=jC J.1;subst e;have e:=jC J.2;subst e;simp only[jE,jA,jG] at h;obtain⟨rfl,rfl,_⟩:=h;obtain⟨q1,q2⟩:=hp _ (jH.2 rfl);obtain⟨iu,kg⟩:=hc.clones f' t.size hm;obtain⟨fn,h1,h2,h3⟩:=iu;(have kf:(execOp a.eval o).run P w=.ok (.enter f' (args.toList.map a.eval++vs.toList).toArray) w:=by (have gi:(args.toList.map a.eval++vs.toList).toArray=args.map a.eval++vs:=by apply Array.toList_inj.1;simp);rw[gi];unfold execOp;(have hbn:fn.body.isNone=false:=by cases hb:fn.body<;>simp_all);simp[ho,resolve,tf,Deferred.ofValue,invoke,callFunc,h1,h3];intro hb;simp[hb] at hbn);generalize th:args.toList.map a.eval++vs.toList=vals at gf kf;(obtain⟨v,rfl⟩:∃v,vals=[v]:=by have:=N3 gf;match vals,this with |[v],_=>exact⟨v,rfl⟩);have hA:=Ph gf (i:=0) rfl rfl;simp only[zA] at hA;obtain⟨ko,⟨_,⟨_,y,ad,cap,hy,rfl,h4⟩ | ⟨hm,_⟩⟩ | ⟨kj,_⟩⟩:=hA;rotate_left;cases hm;rotate_right;simp only[List.cons.injEq,and_true] at hy;subst hy;rcases h4 with rfl|⟨o',us,cur,e,rfl,g2,g3,g4,g5,g6⟩;simp at q1;have qp:=FU (k:=t.size) (λ_ _ h=>CO h) g4;refine SA kf ((kg (G.γ T) o' _ cap cur e us w q1 (by omega) g2 qp (Pc (λ_ _ h=>N2 h) g4) g3 g5).mono ?_);rintro e' w' ⟨B,cap',cells,ty,rfl,z1,z2,z3,z4,z5,z6⟩;obtain⟨hx,hfr,kJ⟩:=xW4 (d:=d) hR.frame ko g4 z2 z1 z3 z4 z5 z6;refine⟨_,rfl,hZ _ w' (G.reown B d 0 true) ?_⟩;rw[hd];(have C:∀R:St,CS d (AVal.lose d) S R=[]:=by intro R;induction R with|nil=>rfl|cons e r ih=>obtain⟨s,A⟩:=e;simp only[CS,Jt b3 s,jD,ih]);have:=fF (d:=d) (U:=d) (R:=.own t x d true) hR hc.n b3 hx hfr (λtm=>by simp only[zA];exact kJ) (by rw[C];exact I) (λs=>hh s _ (jH.2 rfl));rw[C] at this;exact this;exact absurd rfl kj);cases h
variable {gd:Gd}
theorem xM0{d:Nat}{l:List t.den}{m:Bool}(hlen:a.tmps.size=n)(R:d<n)(J:Js a.tmps gd)(kM:FX a.tmps gd)(hA:(E1 gd (.own t l T m)).hung d=false)(h:Rel n χ0 w0 ([(d,.own t l T m)]++S) (a.put (some d) v) w' G'):Rel n χ0 w0 ([(d,E1 gd (.own t l T m))]++S) (a.put (some d) v) w' G':=by refine⟨h.len,h.defers,λs=>?_,h.frame,h.glob⟩;have I:=h.reps s;by_cases e:d=s;subst e;simp[St.get] at I ⊢;(cases gd with|none=>exact I|some q=>obtain⟨C,want,g⟩:=q;have hg:g:=(J C want g rfl).1 (kM C want g rfl);(have kj:C≠d:=by intro e;simp_all [E1,AVal.hung]);refine⟨?_,λ_=>I,λe=>by grind⟩;rw[FY (by grind),if_neg kj];exact J C want g rfl);(have hb:Nat.beq d s=false:=by grind [Nat.beq,absurd,jC]);simp_all [St.get]
theorem yV8(hc:CtxOk P c)(J:Rel c.n χ0 w0 S a w G)(R:Js a.tmps gd)(kM:FX a.tmps gd){p:List Prop}(ho:o.op=.call { callee:=.value fo,args,argTypes:=ats })(hf:zA G w a.tmps none (.fn f cs) (a.eval fo))(hr:C2 (zA G w a.tmps none) r (args.toList.map a.eval))(kl:Ii cs)(h:Wh c gd o.dst f (r++cs.toL) S=some (p,u,hv))(I:∀e∈u,e.1<c.n)(hh:∀s,∀e∈u,(S.get s).hung e.1=false)(gN:∀e∈u,∀e'∈u,e.2.hung e'.1=false)(hp:∀q∈p,q){Q:Exit->Act->World->Prop}(hZ:∀v w' G',Rel c.n χ0 w0 (u++S) (a.put o.dst v) w' G'->next (a.put o.dst v) w'):o.wpIn (fz rd) 0 P a w next Q:=by unfold Wh at h;split at h;rename_i p0 d t l T m _ C;obtain⟨rfl,rfl,_⟩:=h;(have mm:o.dst=some d:=by unfold Jg at C;split at C;grind;split at C;generalize (_&&BZ _ S)=bb at C;(cases bb with|false=>cases C|true=>simp at C;obtain⟨_,⟨rfl,_⟩,_⟩:=C;assumption);grind);have hd:d<c.n:=I _ (jH.2 rfl);refine yG8 hc J ho hf hr kl C (λe he=>by grind) (λs e he=>by simp_all) (W4 R kM hp) (λv w' G' h'=>?_);refine hZ v w' G' ?_;rw[mm] at h' ⊢;exact xM0 J.len hd R kM (gN _ (jH.2 rfl) _ (jH.2 rfl)) h';grind
theorem yA3{ys:List AVal}{q:List Prop×AVal}:∀{exts:List (Nat×(List AVal->Option (List Prop×AVal)))},Wg exts f ys=some q->∃e,(f,e)∈exts/\e ys=some q:=by intro exts;induction exts with|nil=>grind [Wg]|cons x r C=>intro h;obtain⟨g,e⟩:=x;simp only[Wg] at h;cases I:Nat.beq g f with|false=>grind|true=>simp_all
theorem xM1(I:CtxOk P c)(hR:Rel c.n χ0 w0 S a w G)(hi:Js a.tmps gd)(kM:FX a.tmps gd){p:List Prop}(ho:o.op=.call { callee:=.value fo,args,argTypes:=ats })(hf:zA G w a.tmps none (.fn f cs) (a.eval fo))(hr:C2 (zA G w a.tmps none) r (args.toList.map a.eval))(kl:Ii cs)(h:zU c gd o.dst f (r++cs.toL)=some (p,u,hv))(C:∀e∈u,e.1<c.n)(hh:∀s,∀e∈u,(S.get s).hung e.1=false)(gN:∀e∈u,∀e'∈u,e.2.hung e'.1=false)(hp:∀q∈p,q){Q:Exit->Act->World->Prop}(hZ:∀v w' G',Rel c.n χ0 w0 (u++S) (a.put o.dst v) w' G'->next (a.put o.dst v) w'):o.wpIn (fz rd) 0 P a w next Q:=by obtain⟨vs,tf,ng⟩:=hf;have kt:=W6 (vs:=vs.toList) kl (by simpa using ng);have gf:=W7 hr kt;(have kf:∀v,(callFunc f (args.toList.map a.eval++vs.toList).toArray).run P w=.ok (.value v) w->(execOp a.eval o).run P w=.ok (.value v) w:=by (have gi:(args.toList.map a.eval++vs.toList).toArray=args.map a.eval++vs:=by grind);grind [execOp,resolve,Deferred.ofValue,invoke]);unfold zU at h;split at h;rename_i p0 τ x d he J;obtain⟨e,hm,he⟩:=yA3 he;obtain⟨rfl,rfl,rfl⟩:=h;obtain⟨v,R,h2⟩:=I.exts f e hm _ _ _ he (W4 hi kM hp) G w a.tmps _ gf;refine LQ (kf v R) (hZ v w G ?_);rw[J];exact W2 hR I.n (C (d,E1 gd (.val τ x)) (by simp)) (λs=>hh s (d,E1 gd (.val τ x)) (by simp)) (gN (d,E1 gd (.val τ x)) (by simp) (d,E1 gd (.val τ x)) (by simp)) (W3 hi kM h2);rename_i p0 b d he J;obtain⟨e,hm,he⟩:=yA3 he;split at h;generalize qw:(_&&!(b.hung d))=bb at h;(cases bb with|false=>grind|true=>obtain⟨rfl,rfl,rfl⟩:=h;obtain⟨v,R,h2⟩:=I.exts f e hm _ _ _ he hp G w a.tmps _ gf;refine LQ (kf v R) (hZ v w G ?_);rw[J];exact W2 hR I.n (C (d,.tup b) (by simp)) (λs=>hh s (d,.tup b) (by simp)) (gN (d,.tup b) (by simp) (d,.tup b) (by simp)) h2);grind;grind
variable {rd:Option Nat}{gtab:GlobTab}{P:Program}{c:Ctx}{G:Gh}{w:World}{tm:Array Value}{n:Nat}{χ0:Nat->Nat->Nat}{w0:World}{S:St}{a:Act}
variable {s:Nat}{b:Bool}
theorem xM2{tm:Array Value}:tm.getD s undef=.bool b↔tm[s]?=some (.bool b):=by simp;cases h:tm[s]? with|none=>simp[undef]|some v=>simp
theorem xE8{ops:Array Oper}{tm:Array Value}{j:Nat}(h:(ops.toList.map (·.dst))[j]?=some (some s)):(yielded ops tm j==some b)=true↔tm.getD s undef=.bool b:=by grind [bind,xM2,yielded]
theorem yR6{ops:Array Oper}(h:KW (ops.toList.map (·.dst)) S o.guard=some gd):wanted o (yielded ops a.tmps)=true↔FX a.tmps gd:=by unfold wanted;grind [KW,jA,FX,xE8]
theorem xM3{xs0 xs:List AVal}{p:List Prop}(hgd:gd≠none)(h:LK c gd o S xs0 xs=some (p,u,hv)):∃d A,o.dst=some d/\u=[(d,E1 gd A)]:=by cases gd with|none=>exact absurd rfl hgd|some q=>unfold LK at h;split at h;split at h;unfold yC at h;split at h;rename_i d C A B J;split at h;split at h;simp only[jA,jG] at h;obtain⟨_,rfl,_⟩:=h;exact⟨d,_,J,rfl⟩;cases h;cases h;cases h;cases h;split at h;simp_all;simp_all;cases h;split at h;simp_all;cases h;split at h;rename_i f cs r;(cases kz:Ii cs with|false=>simp only[kz,jD] at h;cases h|true=>simp only[kz,jE] at h;unfold dO at h;generalize R:zU c (some q) o.dst f (r++cs.toL)=y at h;cases y with|some q'=>simp only[Jh,jA] at h;subst h;unfold zU at R;split at R;rename_i p0 τ x d he J;simp only[jA,jG] at R;obtain⟨_,rfl,_⟩:=R;exact⟨_,_,by assumption,rfl⟩;cases R;cases R|none=>simp only[Jh] at h;generalize kl:JO c (some q) o.dst f (r++cs.toL) ((r++cs.toL).map (C4 S)) S=x at h;cases x with|none=>simp only at h;unfold Sn at h;simp only at h;unfold Wh at h;split at h;rename_i p0 d t l T m _ I;simp only[jA,jG] at h;obtain⟨_,rfl,_⟩:=h;unfold Jg at I;split at I;cases I;split at I;rename_i d' _ J;generalize (_&&BZ _ S)=bb at I;(cases bb with|false=>cases I|true=>simp only[jE,jA,jG,List.cons.injEq,and_true] at I;obtain⟨_,⟨rfl,_⟩,_⟩:=I;exact⟨_,_,by assumption,rfl⟩);cases I;cases h|some q'=>simp only[jA] at h;subst h;unfold JO at kl;split at kl;cases kl;rename_i co nj;generalize (LH co.outs 0 _&&E8 co.res&&_&&_)=b at kl;cases b with|false=>simp only[Bool.not_false,jE] at kl;cases kl|true=>simp only[Bool.not_true,jD] at kl;split at kl;split at kl;rename_i d τ x J;simp only[jA,jG] at kl;obtain⟨_,rfl,_⟩:=kl;exact⟨_,_,by assumption,rfl⟩;cases kl;cases kl);cases h;simp at h;unfold zK at h;split at h;cases h;rename_i d J;split at h;cases h;rename_i p' A hA;cases hf:HN o.op with|true=>simp only[hf,jE,Option.isNone_some,Bool.false_and,jD] at h;unfold Nt at h;split at h;rename_i q' t l T m e;(cases kE:(GK d S&&BZ d S&&Nat.beq T d&&!t.isL) with|false=>simp only[kE,jD] at h;cases h|true=>simp only[kE,jE,jA,jG] at h;injection e with e;subst e;exact⟨d,_,J,h.2.1.symm⟩);cases h|false=>simp only[hf,jD,jA,jG] at h;obtain⟨_,rfl,_⟩:=h;exact⟨d,A,J,rfl⟩
theorem yV9(hc:CtxOk P c)(R:Rel c.n χ0 w0 S a w G)(hi:Js a.tmps gd)(kM:FX a.tmps gd){p:List Prop}(h:LK c gd o S ((CB o.op).map (arg S)) (((CB o.op).map (arg S)).map (zF gd))=some (p,u,hv))(C:∀e∈u,e.1<c.n)(hh:∀s,∀e∈u,(S.get s).hung e.1=false)(gN:∀e∈u,∀e'∈u,e.2.hung e'.1=false)(hp:∀q∈p,q){Q:Exit->Act->World->Prop}(hZ:∀v w' G',Rel c.n χ0 w0 (u++S) (a.put o.dst v) w' G'->next (a.put o.dst v) w'):o.wpIn (fz rd) 0 P a w next Q:=by have ke:=yZ6 R kM (CB o.op);unfold LK at h;split at h;split at h;rename_i x y z I;rw[I] at h;exact xD2 R hc.n hi kM I h C hh gN hZ;cases h;split at h;rename_i T x y A v hd I J;rw[I] at ke J;simp only[CB,map_cons,map_nil,List.cons.injEq,and_true] at J ke;obtain⟨rfl,rfl⟩:=J;simp only[C2] at ke;exact yV0 hc R I hd ke.1 ke.2.1 h C hp hZ;rename_i T x y z A k v hd I J;rw[I] at ke J;simp only[CB,map_cons,map_nil,List.cons.injEq,and_true] at J ke;obtain⟨rfl,rfl,rfl⟩:=J;simp only[C2] at ke;exact yN3 hc R I hd ke.1 ke.2.1 ke.2.2.1 h C hZ;cases h;rename_i hk;split at h;rename_i d cl args ats A B hd I J;split at h;rename_i T T' ug;(cases hT:Nat.beq T T' with|false=>simp[hT] at h|true=>have:=jC hT;subst this;simp only[hT,jE] at h;(have kt:cl=.builtin .append:=by rw[I] at hk;unfold Ji at hk;split at hk<;>simp_all);subst kt;rw[I] at J ke;simp only[CB] at J ke;rw[J] at ke;(have:∃va vb,args.toList.map a.eval=[va,vb]/\zA G w a.tmps none A va/\zA G w a.tmps none B vb:=by generalize hm:args.toList.map a.eval=m at ke;cases m with|nil=>simp[C2] at ke|cons va m=>cases m with|nil=>simp[C2] at ke|cons vb m=>cases m with|nil=>simp only[C2] at ke;exact⟨va,vb,rfl,ke.1,ke.2.1⟩|cons _ _=>simp[C2] at ke);obtain⟨va,vb,hm,hA,hB⟩:=this;exact zY7 hc R I ug hd hm hA hB h C hh hp hZ);cases h;cases h;rename_i hk;split at h;rename_i f cs r J;(cases kz:Ii cs with|false=>simp[kz] at h|true=>simp only[kz,jE] at h;(have:∃fo args ats,o.op=.call { callee:=.value fo,args,argTypes:=ats }:=by unfold Ji at hk;split at hk<;>first|exact absurd hk (by decide) | (rename_i fo args ats I;exact⟨_,_,_,I⟩));obtain⟨fo,args,ats,I⟩:=this;rw[I] at J ke;simp only[CB] at J ke;rw[J] at ke;simp only[map_cons,C2] at ke;unfold dO at h;generalize hx:zU c gd o.dst f (r++cs.toL)=y at h;cases y with|some q'=>simp only[Jh,jA] at h;subst h;exact xM1 hc R hi kM I ke.1 ke.2 kz hx C hh gN hp hZ|none=>simp only[Jh] at h;generalize kl:JO c gd o.dst f (r++cs.toL) ((r++cs.toL).map (C4 S)) S=x at h;cases x with|some q'=>simp only[jA] at h;subst h;exact xE1 hc R hi kM I ke.1 ke.2 kz kl C hh gN hp hZ|none=>simp only at h;unfold Sn at h;cases gd with|some q=>exact yV8 hc R hi kM I ke.1 ke.2 kz h C hh gN hp hZ|none=>simp only[Jh] at h;generalize J:Jg c o.dst f (r++cs.toL) ((r++cs.toL).map (C4 S)) S=z at h;cases z with|some q'=>simp only[jA] at h;subst h;exact yG8 hc R I ke.1 ke.2 kz J C hh hp hZ|none=>simp only at h;generalize iV:Sm c o.dst f (r++cs.toL) S=z at h;cases z with|some q'=>simp only[jA] at h;subst h;exact yV7 hc R I ke.1 ke.2 kz iV C hh hp hZ|none=>simp only at h;exact yV5 hc R I ke.1 ke.2 kz h C hh hp hZ);cases h;split at h;simp only[jA,jG] at h;exact (hp False (by rw[<-h.1];simp)).elim;cases h;exact xD4 hc R hi kM h C hh gN hp hZ
theorem zR4(hc:CtxOk P c)(hR:Rel c.n χ0 w0 S a w G){ops:Array Oper}(ho:ops[i]?=some o){p:List Prop}(h:JQ c (ops.toList.map (·.dst)) o S=some (p,u,hv))(J:∀e∈u,e.1<c.n)(hh:∀s,∀e∈u,(S.get s).hung e.1=false)(gN:∀e∈u,∀R∈u,e.2.hung R.1=false)(hp:∀q∈p,q){Q:Exit->Act->World->Prop}(hZ:∀v w' G',Rel c.n χ0 w0 (u++S) (a.put o.dst v) w' G'->next (a.put o.dst v) w'):wpOpIn (fz rd) 0 P ops Q i next a w:=by unfold JQ at h;split at h;grind;rename_i gd I;have hi:=xC9 hR I;unfold wpOpIn;rw[ho];simp only;by_cases hw:wanted o (yielded ops a.tmps)=true;grind [yV9,yR6];rw[if_neg hw];have ir:¬FX a.tmps gd:=λe=>hw ((yR6 I).2 e);cases gd with|none=>grind [FX]|some q=>obtain⟨s,want,g⟩:=q;obtain⟨d,A,hd,rfl⟩:=xM3 (by simp) h;have C:a.tmps.getD s undef≠.bool want:=λe=>ir (by intro s' want' g' R;obtain⟨rfl,rfl,rfl⟩:=R;exact e);rw[hd];have:=yN (A:=A) hR hc.n hi C (J _ (jH.2 rfl)) (λs=>hh s _ (jH.2 rfl)) (gN _ (jH.2 rfl) _ (jH.2 rfl));rw[<-hd] at this ⊢;exact⟨λ_ _=>trivial,hZ _ _ _ this⟩
variable {rd:Option Nat}{gtab:GlobTab}{P:Program}{c:Ctx}{G:Gh}{w:World}{tm:Array Value}{n:Nat}{χ0:Nat->Nat->Nat}{w0:World}{S:St}{a:Act}
variable {u':St}
theorem xS2(h:Nu c S u=some u')(I:Rel c.n χ0 w0 (u++S) a w G)(J:c.n<=BO)(C:∀e∈u',e.1<c.n):∃G',Rel c.n χ0 w0 (u'++S) a w G':=by
 unfold Nu at h;split at h
 ·rename_i d t l T r;generalize (Nat.beq T d&&!(c.wr.any (Nat.beq d)))=b at h;cases b with
  |false=>grind
  |true =>
   generalize ht:(BZ T (r++S)&&!t.isL)=b at h;cases b with
   |false=>grind
   |true =>
    simp  at ht;simp  at h;subst h;exact xK8 I J (C _ (jQ ..)) ht.1 ht.2
 grind
theorem xM4(h:Nu c S u=some u'):u=u'\/∃d t l T r,u=(d,.own t l T true)::r/\u'=(d,.own t l T false)::r/\T=d/\BZ T (r++S):=by
 unfold Nu at h;split at h
 ·rename_i d t l T r;generalize hb:(Nat.beq T d&&!(c.wr.any (Nat.beq d)))=b at h;cases b with
  |false=>grind
  |true =>
   simp only[jB] at hb;generalize ht:(BZ T (r++S)&&!t.isL)=b at h;cases b with
   |false=>grind
   |true =>
    simp  at ht;simp  at h;exact .inr ⟨d,t,l,T,r,rfl,h.symm,jC hb.1,ht.1⟩
 grind
theorem yG9(R:CtxOk P c)(hR:Rel c.n χ0 w0 S a w G){ops:Array Oper}(ho:ops[i]?=some o){p:List Prop}
  (h:Jj c (ops.toList.map (·.dst)) o S=some (p,u,hv))
  (C:∀e∈u,e.1<c.n) (hh:∀s,∀e∈u,(S.get s).hung e.1=false) (gN:∀e∈u,∀e'∈u,e.2.hung e'.1=false) (hp:∀q∈p,q)
  {Q:Exit->Act->World->Prop}(hZ:∀v w' G',Rel c.n χ0 w0 (u++S) (a.put o.dst v) w' G'->next (a.put o.dst v) w'):wpOpIn (fz rd) 0 P ops Q i next a w:=by
 unfold Jj at h;split at h
 ·grind
 ·rename_i p0 u0 h0 kZ;cases I:Sp o.op with
  |false =>
   grind [zR4]
  |true =>
   simp[I,jE] at h;split at h
   ·rename_i u' gI;obtain⟨rfl,rfl,rfl⟩:=h;rcases xM4 gI with rfl|⟨d,t,l,T,r,rfl,rfl,_,_⟩
    ·grind [zR4]
    ·refine zR4 R hR ho kZ (λe he=>?_) (λs e he=>?_) (λe he e' iO=>?_) hp λv w' G' J=>?_
     ·grind [jQ,jP]
     ·grind [jQ,jP]
     ·have hk:∀e∈((d,AVal.own t l T true)::r),∃e''∈((d,AVal.own t l T false)::r),e''.1=e.1/\∀q,e''.2.hung q=e.2.hung q:=by
       intro e he;rcases mem_cons.1 he with rfl|he
       ·exact⟨_,jQ ..,rfl,λq=>rfl⟩
       ·exact⟨e,jP _ he,rfl,λq=>rfl⟩
      grind
     ·obtain⟨G'',hR''⟩:=xS2 gI J R.n C
      grind
   grind
variable {rd:Option Nat}{gtab:GlobTab}{P:Program}{c:Ctx}{G:Gh}{w:World}{tm:Array Value}{n:Nat}{χ0:Nat->Nat->Nat}{w0:World}{S:St}{a:Act}
theorem fK{S':St}(h:∀s,S'.get s=S.get s)(C:Rel n χ0 w0 S a w G):Rel n χ0 w0 S' a w G:=
 ⟨C.len,C.defers,λs=>by rw[h];exact C.reps s,C.frame,C.glob⟩
def DP (ts:List Tr)(i:Nat):St:=match ts[i]? with|some t=>t.u|none=>[]
def exe (ts:List Tr):List Nat->St
 |[]=>[]
 |i::l=>DP ts i++exe ts l
def tex (ts:List Tr):Nat->St
 |0=>[]
 |k+1=>DP ts k++tex ts k
theorem zX{t:Tr}{ts:List Tr}:∀{k:Nat},tex (t::ts) (k+1)=tex ts k++t.u:=by
 intro k
 induction k<;>grind [tex,DP]
def SD [GlobTab] (c:Ctx)(dsts:List (Option Nat))(ops:List Oper)(S U:St)(ts:List Tr)(p:List Prop):Prop:=
 ∀i o,ops[i]?=some o->∃pi hv,Jj c dsts o ((tex ts i++U)++S)=some (pi,DP ts i,hv)/\ts[i]?=some (Fz dsts o ((tex ts i++U)++S) (DP ts i) hv) /\
  (∀q∈pi,q∈p)/\(∀e∈DP ts i++(tex ts i++U),Sq (DP ts i) e.2=false)/\(∀e∈DP ts i,e.1<c.n)
theorem xE9{dsts:List (Option Nat)}:∀{ops:List Oper}{U:St}{p:List Prop}{U':St}{ts:List Tr},dS c dsts ops S U=some (p,U',ts) ->
  ts.length=ops.length/\U'=tex ts ops.length++U/\SD c dsts ops S U ts p:=by
 intro ops
 induction ops with
 |nil =>
  intro U p U' ts h;obtain⟨rfl,rfl,rfl⟩:=h;exact⟨rfl,rfl,λi o C=>by grind⟩
 |cons o r J =>
  intro U p U' ts h;unfold dS at h;split at h
  ·grind
  ·rename_i R u hv kZ;cases hb:((u++U).any (λe=>Sq u e.2)||!(u.all λe=>blt e.1 c.n)) with
   |true=>simp only[hb,jE] at h;grind
   |false =>
    simp only[hb,jD] at h;split at h
    ·grind
    ·rename_i p' u' t' hr;simp only[jA,jG] at h;obtain⟨rfl,rfl,rfl⟩:=h;obtain⟨h1,h2,h3⟩:=J hr;simp only[jJ,Bool.not_eq_false',any_eq_false,all_eq_true] at hb;refine⟨by grind,by grind [List.length_cons,zX,Fz],λi o' C=>?_⟩;cases i with
     |zero =>
      simp only[List.getElem?_cons_zero,jA] at C;subst C;refine⟨R,hv,?_,?_,λq I=>mem_append_left _ I,λe he=>?_,λe he=>?_⟩
      ·grind [tex,DP,Fz]
      ·simp[tex,DP,Fz]
      ·grind [tex,DP,Fz]
      ·have:=hb.2 e (by simpa[DP,Fz] using he);simp_all
     |succ i =>
      simp only[List.getElem?_cons_succ] at C;obtain⟨pi,gP,q1,q2,q3,q4,q5⟩:=h3 i o' C;have e1:∀t:Tr,DP (t::t') (i+1)=DP t' i:=λt=>by simp[DP]
      refine⟨pi,gP,?_,?_,λq I=>mem_append_right _ (q3 q I),λe he=>?_,λe he=>?_⟩
      ·rw[zX,e1];simpa[Fz] using q1
      ·rw[zX,e1];simpa[Fz] using q2
      ·rw[zX,e1] at he;rw[e1];exact q4 e (by simpa[Fz] using he)
      ·rw[e1] at he;exact q5 e he
theorem Pk:∀{A:AVal}{d:Nat},A.hasOpt=false->A.hung d=false:=by
 intro A
 induction A<;>grind [AVal.hasOpt,jJ,AVal.hung]
theorem WA{A:AVal}(h:Sq u A=false):∀e∈u,A.hung e.1=false:=by
 grind [Sq,any_eq_false]
theorem zU6{q:AVal->Prop}(C:q .junk):∀{S:St}{s:Nat},(∀e∈S,q e.2)->q (S.get s):=by
 intro S
 induction S<;>grind [St.get]
section region
variable {ops:Array Oper}{ts:List Tr}{p:List Prop}
theorem yN4(R:CtxOk P c)(hF:SD c (ops.toList.map (·.dst)) ops.toList S [] ts p)(hS:∀e∈S,e.2.hasOpt=false)(hp:∀q∈p,q){i:Nat}{o:Oper}(ho:ops[i]?=some o)
  (hR:Rel c.n χ0 w0 (tex ts i++S) a w G){next:Act->World->Prop}{Q:Exit->Act->World->Prop}
  (hZ:∀v w' G',Rel c.n χ0 w0 (DP ts i++(tex ts i++S)) (a.put o.dst v) w' G'->next (a.put o.dst v) w'):wpOpIn (fz rd) 0 P ops Q i next a w:=by
 obtain⟨pi,hv,I,q2,q3,J,q5⟩:=hF i o (by grind);simp only[append_nil] at I q2 J;refine yG9 R hR ho I q5 (λs e he=>?_) (λe he C iO=>?_) (λq hq=>hp q (q3 q hq)) hZ
 ·refine zU6 (q:=λA=>A.hung e.1=false) rfl λC iO=>?_;rcases mem_append.1 iO with h|h
  ·exact WA (J C (mem_append_right _ h)) e he
  ·exact Pk (hS C h)
 grind [WA,mem_append_left]
theorem xS3{K:Act->Prop}(J:∀o∈ops.toList,∀a v,K a->K (a.put o.dst v))(R:CtxOk P c)(hF:SD c (ops.toList.map (·.dst)) ops.toList S [] ts p)(hS:∀e∈S,e.2.hasOpt=false)(hp:∀q∈p,q){Q:Exit->Act->World->Prop}
  (hQ:∀C w' G',Rel c.n χ0 w0 (tex ts ops.size++S) C w' G'->K C->Q .normal C w') :
  ∀k i,i+k=ops.size->∀a w G,Rel c.n χ0 w0 (tex ts i++S) a w G->K a->wpOpsIn (fz rd) 0 P ops Q (List.range' i k) a w:=by
 intro k
 induction k with
 |zero=>grind [wpOpsIn]
 |succ k ih =>
  intro i e a w G hR hk;have I:i<ops.size:=by omega
  refine yN4 R hF hS hp (Array.getElem?_eq_getElem I) hR λv w' G' hR'=>?_;refine ih (i+1) (by omega) _ _ G' ?_ (J _ (by simp) _ _ hk)
  grind [tex,append_assoc]
end region
variable {gtab:GlobTab}{P:Program}{c:Ctx}{S S':St}
theorem xS4{t:Nat}:∀{l:List Operand},Operand.tmp t∈l->t∈Nn l:=by intro l;induction l with|nil=>grind|cons y l I=>intro C;rcases mem_cons.1 C with rfl|C;simp[Nn];cases y<;>simp[Nn]<;>first|grind|grind
theorem xM5{x:Operand}{l:List Operand}(C:x∈l)(h:∀r∈Nn l,S'.get r=S.get r):arg S' x=arg S x:=by cases x<;>grind [arg,xS4]
theorem xF{l:List Operand}(h:∀r∈Nn l,S'.get r=S.get r):l.map (arg S')=l.map (arg S):=List.map_congr_left λ_ C=>xM5 C h
variable {dsts:List (Option Nat)}
theorem yW{g:Option (Nat×Bool)}(h:∀r∈yE dsts g,S'.get r=S.get r):KW dsts S' g=KW dsts S g:=by cases g<;>grind [KW,yE]
variable {A:AVal}
theorem xS5{s:Nat}:∀{l:List AVal},A∈l->EF A=some s->s∈refs l:=by intro l;induction l with|nil=>grind|cons B l I=>intro h C;rcases mem_cons.1 h with rfl|h;cases A<;>simp[EF] at C<;>simp[refs,C];cases B<;>simp[refs]<;>first|grind|grind
theorem yR7(h:EF A=none):C4 S' A=C4 S A:=by cases A<;>first|rfl|grind [EF]
theorem zX0{l:List AVal}(I:A∈l)(h:∀r∈refs l,S'.get r=S.get r):C4 S' A=C4 S A:=by cases C:EF A with|none=>exact yR7 C|some s=>have:=h s (xS5 I C);cases A<;>simp[EF] at C<;>(grind [C4])
variable {gd:Gd}
theorem yH:zF gd A=bare A\/zF gd A=.junk:=by cases A with|opt s w g A=>simp[zF,bare];grind|_=>exact .inl rfl
theorem zP0{l:List AVal}(h:∀r∈refs (l.map bare),S'.get r=S.get r):((l.map (zF gd)).map (C4 S'))=((l.map (zF gd)).map (C4 S)):=by rw[map_map,map_map];refine List.map_congr_left λA C=>?_;simp;rcases yH (gd:=gd) (A:=A) with e|e;grind [zX0,List.mem_map_of_mem];rw[e];rfl
theorem yW0{l r:List AVal}:refs (l++r)=refs l++refs r:=by induction l with|nil=>rfl|cons A l C=>cases A<;>simp[refs,C]
variable {o:Oper}{u:St}
theorem yA4{p:List Prop}(h:JQ c dsts o S=some (p,u,false))(hr:∀r∈(Fz dsts o S u false).rd,S'.get r=S.get r)(hq:∀e∈S',e∈S\/∀d,o.dst=some d->Sr d e.2):JQ c dsts o S'=some (p,u,false):=by simp only[Fz] at hr;have h1:=xF (gtab:=gtab) (l:=CB o.op) (S:=S) (S':=S') λr iR=>hr r (mem_append_left _ iR);have h2:=yW (dsts:=dsts) (g:=o.guard) (S:=S) (S':=S') λr iR=>hr r (mem_append_right _ (mem_append_left _ iR));have h3:∀r∈refs (Wb o.op ((CB o.op).map (λx=>bare (arg S x)))),S'.get r=S.get r:=λr iR=>hr r (mem_append_right _ (mem_append_right _ iR));(have gH:∀d T,o.dst=some d->(T=d\/T=100000+d\/T=200000+d\/T=300000+d)->BZ T S->BZ T S':=by intro d T C hT hn;simp only[BZ,all_eq_true] at hn ⊢;intro e he;rcases hq e he with h' | h';(·grind);(·have:=h' d C;simp only[Sr,jB] at this;obtain⟨_,q1,q2,q3,q4⟩:=this;rcases hT with rfl|rfl|rfl|rfl<;>assumption));(have href:∀d,o.dst=some d->GK d S->GK d S':=by intro d C hn;simp only[GK,all_eq_true] at hn ⊢;intro e he;rcases hq e he with h' | h';(·grind);simp_all [Sr,jB]);unfold JQ at h ⊢;rw[h2];split at h;(·grind);(·rename_i gd hgd;rw[h1];generalize hX:(CB o.op).map (arg S)=X at h ⊢;(have hXb:(CB o.op).map (λx=>bare (arg S x))=X.map bare:=by rw[<-hX,map_map];rfl);rw[hXb] at h3;(have hy:Ji o.op≠3->Wb o.op (X.map bare)=X.map bare:=by intro R;unfold Wb;grind [Ji]);unfold LK at h ⊢;generalize R:Ji o.op=k at h ⊢ hy;match k,R,h,hy with |0,R,h,hy=>grind|1,R,h,hy=>rw[hy (by grind)] at h3;simp only at h ⊢;split at h;(·rename_i T x y A v h0 C ho hl;have kl:=zP0 (gd:=none) h3;rw[hl] at kl;simp only[map_cons,List.cons.injEq] at kl;rw[kl.1];unfold dK at h ⊢;split at h;(·rename_i s0 U t i q;split at h;(·unfold yD7 at h;split at h;(·generalize (Ty.beq _ _&&Nat.beq _ _&&Nat.beq _ _&&c.is T _&&_&&_&&_)=b at h;cases b with|false=>grind|true=>simp only[jE] at h;split at h<;>simp at h);grind);(·rename_i t' l U' mj;cases hho:xW1 v with|true=>simp only[hho,jE] at h;unfold yD6 at h;split at h;(·generalize (Ty.beq _ _&&Ty.beq _ _&&Nat.beq _ _&&c.is T _&&_&&_&&_)=b at h;cases b<;>simp at h);grind|false=>simp only[hho,jD] at h;cases hb:(Ty.beq t' t&&Nat.beq U' U&&c.is T (t'.pty q)&&AVal.fits (t'.pty q) v) with|false=>simp_all|true=>simp only[hb,jE] at h;split at h;all_goals grind);grind);all_goals grind);(·rename_i T x y z A k v h0 C ho hl;unfold dL at h;split at h;(·split at h;(·split at h;all_goals grind);grind);grind);grind|2,R,h,hy=>simp only at h;split at h;(·split at h;(·rename_i T T' ug;cases hT:Nat.beq T T' with|false=>grind|true=>simp only[hT,jE] at h;unfold Wd at h;generalize BZ _ S=b at h;cases b with|false=>grind|true=>simp only[jE] at h;split at h;(·simp at h);(·split at h<;>simp at h));grind);grind|3,R,h,hy=>simp only at h ⊢;split at h;(·rename_i f cs r hl;cases kz:Ii cs with|false=>grind|true=>simp only[kz,jE] at h ⊢;(have gY:(r++cs.toL).map (C4 S')=(r++cs.toL).map (C4 S):=by (have:∃fo args ats,o.op=.call { callee:=.value fo,args,argTypes:=ats }:=by unfold Ji at R;split at R<;>first|exact absurd R (by decide) | (rename_i fo args ats ho;exact⟨_,_,_,ho⟩));obtain⟨fo,args,ats,ho⟩:=this;cases X with|nil=>simp at hl|cons x0 X'=>simp only[map_cons,List.cons.injEq] at hl;obtain⟨hl1,rfl⟩:=hl;(have mo:bare x0=.fn f cs:=by rcases yH (gd:=gd) (A:=x0) with e|e;(·rw[<-e,hl1]);(·rw[e] at hl1;cases hl1));rw[ho,map_cons,mo] at h3;simp only[Wb,yW0] at h3;rw[List.map_append,List.map_append,zP0 (λr hr=>h3 r (mem_append_left _ hr))];congr 1;exact List.map_congr_left λA hA=>zX0 hA λr hr=>h3 r (mem_append_right _ hr));unfold dO at h ⊢;generalize hx:zU c gd o.dst f (r++cs.toL)=y at h ⊢;cases y with|some q'=>exact h|none=>simp only[Jh] at h ⊢;rw[gY];(have mq:∀q:List Prop×St×Bool,Sn c gd o.dst f (r++cs.toL) S=some q->q.2.2=true\/(gd=none/\Jg c o.dst f (r++cs.toL) ((r++cs.toL).map (C4 S)) S=some q):=by intro q;unfold Sn;cases gd with|some _=>intro e;simp only at e;unfold Wh at e;split at e;(·simp only[jA] at e;rw[<-e];exact .inl rfl);(·cases e)|none=>simp only;generalize hl:Jg c o.dst f (r++cs.toL) ((r++cs.toL).map (C4 S)) S=z;cases z with|some q'=>intro e;simp only[Jh,jA] at e;subst e;exact .inr ⟨trivial,rfl⟩|none=>simp only[Jh];generalize gM:Sm c o.dst f (r++cs.toL) S=z2;cases z2 with|some q'=>intro e;simp only[jA] at e;subst e;unfold Sm at gM;split at gM;(·generalize (_&&BZ _ S)=bb at gM;cases bb with|false=>cases gM|true=>simp only[jE,jA] at gM;rw[<-gM];exact .inl rfl);(·cases gM)|none=>simp only;generalize hh:xI c o.dst f (r++cs.toL) S=z;cases z with|none=>intro e;cases e|some q'=>intro e;simp only[jA] at e;subst e;unfold xI at hh;split at hh;(·cases hh);(·split at hh;(·cases hh);(·generalize (_&&Jd _)=bb at hh;cases bb with|false=>cases hh|true=>simp only[jE,jA] at hh;rw[<-hh];exact .inl rfl)));generalize kl:JO c gd o.dst f (r++cs.toL) ((r++cs.toL).map (C4 S)) S=x at h;cases x with|none=>rcases mq _ h with e|⟨rfl,J⟩;(·cases e);(·(have Nq:∀d,o.dst=some d->(BZ d S&&BZ (100000+d) S&&BZ (200000+d) S&&BZ (300000+d) S):=by intro d C;unfold Jg at J;split at J;(·cases J);(·split at J;(·rename_i d' _ iP;rw[C] at iP;injection iP with iP;subst iP;generalize hb:(_&&BZ (300000+d) S)=bb at J;cases bb with|false=>cases J|true=>simp only[jB] at hb ⊢;exact⟨⟨⟨hb.1.1.1.2,hb.1.1.2⟩,hb.1.2⟩,hb.2⟩);(·cases J)));(have I:∀d,o.dst=some d->(BZ d S'=BZ d S/\BZ (100000+d) S'=BZ (100000+d) S/\BZ (200000+d) S'=BZ (200000+d) S/\BZ (300000+d) S'=BZ (300000+d) S):=by intro d C;have:=Nq d C;simp only[jB] at this;obtain⟨⟨⟨b1,b2⟩,b3⟩,b4⟩:=this;rw[b1,b2,b3,b4];exact⟨gH d _ C (.inl rfl) b1,gH d _ C (.inr (.inl rfl)) b2,gH d _ C (.inr (.inr (.inl rfl))) b3,gH d _ C (.inr (.inr (.inr rfl))) b4⟩);(have mr:JO c none o.dst f (r++cs.toL) ((r++cs.toL).map (C4 S)) S'=none:=by rw[<-kl];clear kl;revert I;generalize o.dst=dst;intro I;cases dst with|none=>rfl|some d=>obtain⟨e1,e2,e3,e4⟩:=I d rfl;unfold JO;simp only[e1,e2,e3,e4]);rw[mr];simp only;(have hl':Jg c o.dst f (r++cs.toL) ((r++cs.toL).map (C4 S)) S'=some (p,u,false):=by rw[<-J];unfold Jg;split;(·rfl);(·split;(·rename_i d' _ iP;obtain⟨e1,e2,e3,e4⟩:=I d' iP;rw[e1,e2,e3,e4]);(·rfl)));unfold Sn;rw[gY,hl'];rfl)|some q'=>simp only[jA] at h;subst h;(have mr:JO c gd o.dst f (r++cs.toL) ((r++cs.toL).map (C4 S)) S'=some (p,u,false):=by unfold JO at kl ⊢;split at kl;(·grind);(·rename_i co nj;generalize (LH co.outs 0 _&&E8 co.res&&_&&_)=b at kl ⊢;cases b with|false=>simp only[Bool.not_false,jE] at kl;cases kl|true=>simp only[Bool.not_true,jD] at kl ⊢;split at kl;(·rename_i uu gR heat;cases gd with|some q=>exact kl|none=>simp only at kl ⊢;split at kl;(·exact kl);(·rename_i d C;generalize hb:(BZ d S&&BZ (100000+d) S&&BZ (200000+d) S&&BZ (300000+d) S)=b at kl;cases b with|false=>cases kl|true=>simp only[jB] at hb;obtain⟨⟨⟨b1,b2⟩,b3⟩,b4⟩:=hb;rw[gH d _ C (.inl rfl) b1,gH d _ C (.inr (.inl rfl)) b2,gH d _ C (.inr (.inr (.inl rfl))) b3,gH d _ C (.inr (.inr (.inr rfl))) b4];exact kl));(·cases kl)));grind);grind|4,R,h,hy=>exact h|k+5,R,h,hy=>rw[hy (by omega)] at h3;simp only at h ⊢;rw[zP0 h3];unfold zK at h ⊢;split at h;(·cases h);(·rename_i d C;split at h;(·cases h);(·rename_i p' A hA;cases hf:HN o.op with|false=>simpa[hf] using h|true=>simp only[hf,jE] at h ⊢;cases hb:(gd.isNone&&GK d S&&BZ d S) with|false=>simp only[hb,jD] at h;unfold Nt at h;split at h;(·rename_i q t l T m _;cases kE:(GK d S&&BZ d S&&Nat.beq T d&&!t.isL) with|false=>simp only[kE,jD] at h;cases h|true=>simp only[kE,jE] at h;simp only[jB] at kE;simp only[Option.isNone_some,Bool.false_and,jD,Nt,href d C kE.1.1.1,gH d d C (.inl rfl) kE.1.1.2,kE.1.2,kE.2,Bool.and_self,jE];exact h);(·cases h)|true=>simp only[hb,jE] at h;simp only[jB] at hb;rw[hb.1.1,href d C hb.1.2,gH d d C (.inl rfl) hb.2];exact h)))
theorem xZ6{d:Nat}{p C:List Prop}{hv:Bool}(h:Nt gd d p A S=some (C,u,hv)):∃B,u=[(d,B)]:=by unfold Nt at h;grind
theorem wD3{p:List Prop}(h:JQ c dsts o S=some (p,u,false))(hm:Sp o.op):∃d A,o.dst=some d/\u=[(d,A)]:=by unfold JQ at h;split at h;grind;unfold LK at h;unfold Sp at hm;split at hm;rename_i T n ps C;rw[C] at h;simp[Ji,zK] at h;grind [GK,BZ,xZ6];rename_i T x y C;rw[C] at h;simp[Ji,zK] at h;grind [GK,BZ,xZ6];rename_i args ats C;rw[C] at h;simp only[Ji] at h;grind [Nat.beq,Wd,BZ];grind
theorem yW1{p:List Prop}(h:Jj c dsts o S=some (p,u,false))(R:∀r∈(Fz dsts o S u false).rd,S'.get r=S.get r)(I:∀e∈S',e∈S\/∀d,o.dst=some d->Sr d e.2):Jj c dsts o S'=some (p,u,false):=by unfold Jj at h ⊢;split at h;grind;rename_i p0 u0 h0 kZ;cases C:Sp o.op with|false=>grind [yA4]|true=>simp[C] at h;split at h;rename_i u' gI;simp at h;obtain⟨rfl,rfl,rfl⟩:=h;have J:=yA4 kZ (u:=u0) R I;obtain⟨d,A,hd,rfl⟩:=wD3 kZ C;(have:Nu c S' [(d,A)]=some u':=by rw[<-gI];unfold Nu;cases A with|own t l T m=>(cases m with|false=>rfl|true=>simp only;generalize hb:(Nat.beq T d&&!(c.wr.any (Nat.beq d)))=b;cases b with|false=>rfl|true=>(have hold:BZ T S:=by grind [Nu]);(have kV:BZ T S':=by simp only[BZ,all_eq_true] at hold ⊢;intro e he;rcases I e he with h' | h';grind;simp_all [Sr]);grind)|_=>rfl);grind;grind
variable {gtab:GlobTab}{P:Program}{c:Ctx}{G:Gh}{w:World}{tm:Array Value}{n:Nat}{χ0:Nat->Nat->Nat}{w0:World}{S:St}{a:Act}
def ahd (ops:List Oper)(i j:Nat):Prop:=((ahead ops []).getD j 0).testBit i=true
variable {i:Nat}
theorem zY8{acc:List Nat}:∀{l:List Edge},(Jl acc l).testBit i->∃e∈l,binds .any e/\(i=e.on\/(acc.getD e.on 0).testBit i):=by
 intro l
 induction l with
 |nil=>grind [Jl]
 |cons e r C =>
  intro h;simp only[Jl] at h;cases hb:binds .any e with
  |false =>
   grind
  |true =>
   simp only[hb] at h;have h:((2 ^ e.on ||| acc.getD e.on 0) ||| Jl acc r).testBit i:=h
   grind
theorem yR8:∀{ops:List Oper}{acc:List Nat},∃r,ahead ops acc=acc++r/\r.length=ops.length:=by
 intro ops
 induction ops with
 |nil=>simp_all [ahead]
 |cons o l C =>
  intro acc;obtain⟨r,I,J⟩:=C (acc:=acc++[Jl acc o.after.toList])
  grind [ahead]
theorem xS6:∀{ops:List Oper}{acc:List Nat}{j i:Nat}{o:Oper},ops[j]?=some o->((ahead ops acc).getD (acc.length+j) 0).testBit i=true ->
  ∃e∈o.after.toList,binds .any e/\(i=e.on\/((ahead ops acc).getD e.on 0).testBit i):=by
 intro ops
 induction ops with
 |nil=>grind
 |cons o' l R =>
  intro acc j i o I h;cases j with
  |zero =>
   simp  at I;subst I;simp only[ahead] at h ⊢;obtain⟨r,hr,_⟩:=yR8 (ops:=l) (acc:=acc++[Jl acc o'.after.toList]);rw[hr] at h ⊢;have e1:((acc++[Jl acc o'.after.toList])++r).getD (acc.length+0) 0=Jl acc o'.after.toList:=by simp
   rw[e1] at h;obtain⟨e,he,hb,C⟩:=zY8 h;refine⟨e,he,hb,C.imp id λC=>?_⟩;by_cases J:e.on<acc.length
   ·simp only[jM] at C ⊢;rw[append_assoc,List.getElem?_append_left J];exact C
   ·simp  at C;rw[List.getElem?_eq_none (by omega)] at C;simp at C
  |succ j =>
   simp only[ahead] at h ⊢;have:=R (acc:=acc++[Jl acc o'.after.toList]) (j:=j) (i:=i) I (by grind)
   grind
theorem xS7{ops:List Oper}{j:Nat}(C:ops[j]?=some o)(h:ahd ops i j):∃e∈o.after.toList,binds .any e/\(i=e.on\/ahd ops i e.on):=
 xS6 (acc:=[]) C (by grind [ahd])
theorem zR5:∀{ops:List Oper}{k j:Nat}{o:Oper},LM k ops->ops[j]?=some o->∀e∈o.after.toList,binds .any e->e.on<k+j:=by
 intro ops
 induction ops with
 |nil=>grind
 |cons o' l J =>
  intro k j o h C e he I;simp only[LM,jB] at h;cases j with
  |zero =>
   simp  at C;subst C;have:=all_eq_true.1 h.1 e he;simp_all
  |succ j =>
   grind
variable {K:Nat}
theorem yW2{b:Nat}{t:Tr}:∀{l:List Tr}{k i:Nat}{t':Tr},dV K b t k l->l[i]?=some t'->K<=k+i->Jk t' t->b.testBit (k+i):=by
 intro l
 induction l with
 |nil=>grind
 |cons x l I =>
  intro k i t' h J R hc;simp only[dV,jB,Bool.or_eq_true] at h;cases i with
  |zero =>
   rcases h.1 with C | C | C
   ·have:=Nat.blt_eq.mp C;omega
   all_goals grind
  |succ i =>
   grind
theorem xF0:∀{bs:List Nat}{trs l:List Tr}{i j:Nat}{ti tj:Tr},LN K trs bs l->(trs++l)[i]?=some ti->l[j]?=some tj->i<trs.length+j->K<=i->Jk ti tj->(bs.getD j 0).testBit i:=by
 intro bs
 induction bs with
 |nil=>grind [LN]
 |cons b bs J =>
  intro trs l i j ti tj h hi C R hK I;cases l with
  |nil=>grind
  |cons t l =>
   simp[LN] at h;cases j with
   |zero =>
    simp  at C;subst C;have:=yW2 h.1 (i:=i) (t':=ti) (by grind) (by omega) I
    grind
   |succ j =>
    have:=J (i:=i) (j:=j) (ti:=ti) (tj:=tj) h.2 (by grind) (by grind) (by grind) hK I
    grind
theorem xM6:∀{l m:List Nat}{x:Nat},apart l m->x∈l->x∈m->False:=by
 intro l
 induction l with
 |nil=>grind
 |cons y l I =>
  intro m x h C hm;simp only[apart] at h;rcases mem_cons.1 C with rfl|C
  ·simp  at h
   grind
  grind
theorem xX{r:Nat}:∀{u:St},St.has r u=true↔r∈u.map (·.1):=by
 simp_all [St.has]
variable {rd:Option Nat}{gtab:GlobTab}{P:Program}{c:Ctx}{G:Gh}{w:World}{tm:Array Value}{n:Nat}{χ0:Nat->Nat->Nat}{w0:World}{S:St}{a:Act}
section draw
variable {ops:Array Oper}{ts:List Tr}{p:List Prop}
def wr (ts:List Tr)(j r:Nat):Prop:=St.has r (DP ts j)=true
structure Inv (ops:Array Oper) (ts:List Tr) (S:St) (l:List Nat):Prop where
 nd:l.Nodup
 lt:∀i∈l,i<ops.size
 down:∀j∈l,∀i,ahd ops.toList i j->i∈l
 val:∀r k,(∀j,j<k->wr ts j r->j∈l)->(∀j∈l,wr ts j r->j<k)->(exe ts l++S).get r=(tex ts k++S).get r
def N9 (ts:List Tr):Prop:=∀j,∀e∈DP ts j,e.1≠BO
variable {r:Nat}
theorem xS8(C:N9 ts):∀{k:Nat},(∀j,j<k->¬wr ts j r)->(tex ts k++S).get r=S.get r:=by
 intro k
 induction k with
 |zero=>intro _;rfl
 |succ k I =>
  intro h;rw[tex,append_assoc,Le (C k) (by simp_all [wr])]
  grind
variable {i:Nat}
theorem xX0(C:N9 ts):∀{k:Nat},i<k->wr ts i r->(∀j,i<j->j<k->¬wr ts j r)->(tex ts k++S).get r=(DP ts i).get r:=by
 intro k
 induction k with
 |zero=>grind
 |succ k I =>
  intro h hw J;rw[tex,append_assoc];by_cases e:i=k
  ·subst e;exact N6 (C i) hw
  ·rw[Le (C k) (by grind [wr])]
   grind
variable {j:Nat}
theorem SE(h:wr ts j r):∃t,ts[j]?=some t/\t.u=DP ts j:=by
 grind [wr,DP,St.has]
theorem Pl{t t':Tr}(h:Jk t t'=false):(t.heavy=false->t'.heavy=false/\(∀r,r∈t.rd->St.has r t'.u->False)/\dU t.dst t.u t'.u=true) /\
  (t.heavy->t'.pl/\∀d,t.dst=some d->St.has d t'.u=false)/\(∀r,St.has r t.u->r∈t'.rd->False)/\(∀r,St.has r t.u->St.has r t'.u->False):=by
 grind [Jk,xM6,xX]
theorem xF1:∀{S:St},St.has r S=false->S.get r=.junk:=by
 intro S
 induction S with
 |nil=>intro _;rfl
 |cons e S C =>
  intro h;simp only[St.has,any_cons,jJ] at h;have I:=C (show St.has r S=false from h.2);simp_all [St.get]
variable {u:St}
theorem xM7{dst:Option Nat}{S:St}(h:dQ dst S u):∃d τ x,u=[(d,.val τ x)]/\St.has d S=false:=by
 unfold dQ at h
 grind
theorem xM8 (C:N9 ts):Inv ops ts S []:=
 ⟨List.nodup_nil,λi h=>(by grind),λj h=>(by grind),λr k h _=>(xS8 C λj I hw=>by grind).symm⟩
def Ord (k:Nat)(ops:Array Oper)(ts:List Tr):Prop:=∀i j ti tj,ts[i]?=some ti->ts[j]?=some tj->i<j->k<=i->Jk ti tj->ahd ops.toList i j
theorem Inv.up {l:List Nat}(I:Inv ops ts S l){i:Nat}{o:Oper}(J:ops[i]?=some o)(he:∀e∈o.after.toList,binds .any e->e.on∈l){j:Nat}(h:ahd ops.toList j i):j∈l:=by
 obtain⟨e,hm,hb,C⟩:=xS7 (ops:=ops.toList) (by simpa using J) h;rcases C with rfl|C
 ·grind
 ·exact I.down _ (he e hm hb) _ C
variable {o:Oper}
theorem Inv.cons{l:List Nat}(R:N9 ts)(hO:∀j ti tj,j∈l->ts[i]?=some ti->ts[j]?=some tj->i<j->Jk ti tj->ahd ops.toList i j)(J:Inv ops ts S l)(ho:ops[i]?=some o)(hi:i∉l)(he:∀e∈o.after.toList,binds .any e->e.on∈l):Inv ops ts S (i::l):=by
 refine⟨List.nodup_cons.2 ⟨hi,J.nd⟩,λj C=>?_,λj C k hk=>?_,λr k h1 h2=>?_⟩
 ·rcases mem_cons.1 C with rfl|C
  ·grind
  ·exact J.lt j C
 ·rcases mem_cons.1 C with rfl|C
  ·exact jP _ (J.up ho he hk)
  ·exact jP _ (J.down j C k hk)
 ·rw[exe,append_assoc];by_cases hw:wr ts i r
  ·rw[N6 (R i) hw];refine (xX0 R (h2 i (jQ ..) hw) hw λj gz hjk I=>?_).symm;have C:j∈l:=by
    grind
   obtain⟨ti,hti,ei⟩:=SE hw;obtain⟨tj,htj,ej⟩:=SE I;cases hc:Jk ti tj with
   |true=>exact hi (J.down j C i (hO j ti tj C hti htj gz hc))
   |false=>exact (Pl hc).2.2.2 r (by rw[ei];exact hw) (by rw[ej];exact I)
  ·rw[Le (R i) (by grind [wr])];refine J.val r k (λj C I=>?_) λj C I=>h2 j (jP _ C) I
   grind
variable {e:Nat×AVal}
theorem xM9:∀{l:List Nat},e∈exe ts l->∃j∈l,e∈DP ts j:=by
 intro l
 induction l with
 |nil=>intro h;cases h
 |cons i l C =>
  intro h;rcases mem_append.1 h with h|h
  all_goals grind
theorem yW3:∀{k:Nat},j<k->e∈DP ts j->e∈tex ts k:=by
 intro k
 induction k<;>grind [tex]
theorem yN5(h:e∈DP ts j):∃t,ts[j]?=some t/\t.u=DP ts j:=by
 grind [DP]
variable {k:Nat}
theorem xN{S:St}(h:j<k)(hw:wr ts j r):St.has r (tex ts k++S):=by
 obtain⟨e,he,C⟩:=any_eq_true.1 (show (DP ts j).any (λe=>Nat.beq e.1 r)=true from hw);exact any_eq_true.2 ⟨e,mem_append_left _ (yW3 h he),C⟩
theorem xS9{S:St}(h:i<=j)(C:St.has r (tex ts i++S)):St.has r (tex ts j++S):=by
 induction j<;>grind [tex,append_assoc,St.has]
theorem xN0(hn:N9 ts)(R:CtxOk P c)(hF:SD c (ops.toList.map (·.dst)) ops.toList S [] ts p)(hS:∀e∈S,e.2.hasOpt=false)(hp:∀q∈p,q)(hO:Ord k ops ts)
  {l:List Nat}(hI:Inv ops ts S l) (hk:∀j,j<k->j∈l)(ho:ops[i]?=some o) (hi:i∉l) (he:∀e∈o.after.toList,binds .any e->e.on∈l)
  (hR:Rel c.n χ0 w0 (exe ts l++S) a w G){next:Act->World->Prop}{Q:Exit->Act->World->Prop}
  (hZ:∀v w' G',Rel c.n χ0 w0 (exe ts (i::l)++S) (a.put o.dst v) w' G'->next (a.put o.dst v) w'):wpOpIn (fz rd) 0 P ops Q i next a w:=by
 have hF':=hF;obtain⟨pi,hv,q1,q2,q3,q4,q5⟩:=hF i o (by grind);simp only[append_nil] at q1 q2 q4;have qh:∀j tj,j∈l->ts[j]?=some tj->i<j->Jk (Fz (ops.toList.map (·.dst)) o (tex ts i++S) (DP ts i) hv) tj=false:=by
  intro j tj C htj gz;cases kt:Jk _ tj with
  |true=>exact absurd (hI.down j C i (hO i j _ tj q2 htj gz (le_of_not_lt λh=>hi (hk i h)) kt)) hi
  |false=>rfl
 have qy:∀j tj,j∉l->ts[j]?=some tj->j<i->Jk tj (Fz (ops.toList.map (·.dst)) o (tex ts i++S) (DP ts i) hv)=false:=by
  intro j tj C htj gz;cases kt:Jk tj _ with
  |true=>exact absurd (hI.up ho he (hO j i tj _ htj q2 gz (le_of_not_lt λh=>C (hk j h)) kt)) C
  |false=>rfl
 cases hv with
 |true =>
  have hall:∀j,j<i->∀t,ts[j]?=some t->j∈l:=by
   intro j C t ht;by_cases iv:j∈l
   ·grind
   ·have h1:=Pl (qy j t iv ht C)
    grind [Fz]
  have kz:∀j∈l,i<j->∀r,wr ts j r->∃τ x,DP ts j=[(r,.val τ x)]/\St.has r (tex ts j++S)=false/\St.has r (DP ts i)=false/\o.dst≠some r:=by
   intro j C gz r hw;obtain⟨t,ht,eu⟩:=SE hw;have h1:=Pl (qh j t C ht gz);obtain⟨h2,h3⟩:=h1.2.1 rfl;obtain⟨oj,hoj⟩:∃oj,ops.toList[j]?=some oj:=⟨ops[j]'(hI.lt j C),by grind⟩;obtain⟨pj,hvj,_,r2,_⟩:=hF' j oj hoj;rw[ht] at r2;injection r2 with r2
   rw[append_nil] at r2;have h2':dQ oj.dst (tex ts j++S) (DP ts j):=by
    rw[r2] at h2;simp only[Fz,jB] at h2
    grind
   obtain⟨d,τ,x,e1,e3⟩:=xM7 h2';have hr:r=d:=by
    unfold wr at hw;rw[e1] at hw;simp only[St.has,any_cons,List.any_nil,Bool.or_false] at hw
    grind [jC]
   subst hr;refine⟨τ,x,e1,e3,?_,λhd=>?_⟩
   ·cases hh:St.has r (DP ts i) with
    |false=>rfl
    |true=>exact (h1.2.2.2 r hh (by rw[eu];exact hw)).elim
   ·have:=h3 r hd;rw[eu] at this;exact absurd (show St.has r (DP ts j)=true from hw) (by grind)
  have kT:∀r,(∀j∈l,i<j->¬wr ts j r)->(exe ts l++S).get r=(tex ts i++S).get r:=λr qn=>by
   refine hI.val r i (λj C hw=>?_) λj C hw=>?_
   ·obtain⟨t,ht,_⟩:=SE hw;exact hall j C t ht
   ·by_cases I:j<i
    ·exact I
    ·have:i≠j:=λe=>hi (e ▸ C);exact (qn j C (by omega) hw).elim
  have tp:∀r,(∃j∈l,i<j/\wr ts j r)->∃τ x,(exe ts l++S).get r=.val τ x/\(tex ts i++S).get r=.junk/\St.has r (DP ts i)=false/\o.dst≠some r:=by
   rintro r ⟨j,C,gz,hw⟩;obtain⟨τ,x,e1,e3,e4,e5⟩:=kz j C gz r hw;refine⟨τ,x,?_,xF1 ?_,e4,e5⟩
   ·have:=hI.val r (j+1) (λj' ql nb=>?_) (λj' ql nb=>?_)
    ·rw[this,tex,append_assoc,N6 (hn j) hw,e1];simp[St.get]
    ·by_cases h:j'=j
     ·rw[h];exact C
     ·have:=xN (S:=S) (show j'<j by omega) nb;rw[e3] at this;cases this
    ·by_cases h:j'<j+1
     ·exact h
     ·obtain⟨_,_,_,e3',_⟩:=kz j' ql (by omega) r nb;have:=xN (S:=S) (show j<j' by omega) hw;rw[e3'] at this;cases this
   ·cases hh:St.has r (tex ts i++S) with
    |false=>rfl
    |true=>have:=xS9 (S:=S) (Nat.le_of_lt gz) hh;rw[e3] at this;cases this
  have R0:Rel c.n G.χ w (tex ts i++S) a w G:=by
   refine { hR with frame:=⟨rfl,rfl,rfl,jI _,λ_ _ _=>rfl,λ_ _ _ _=>⟨rfl,rfl⟩⟩,reps:=λs=>?_ }
   by_cases h:∃j∈l,i<j/\wr ts j s
   ·obtain⟨_,_,_,e,_⟩:=tp s h;rw[e];simp only[zA]
   ·rw[<-kT s λj C gz hw=>h ⟨j,C,gz,hw⟩];exact hR.reps s
  refine yN4 R hF' hS hp ho R0 λv w' G' J=>hZ v w' G' ?_;rw[exe,append_assoc];have hfr:Frame0 χ0 w0 G'.χ w':=by
   have h:=hR.frame;have k:=J.frame;refine⟨k.os.trans h.os,k.tape.trans h.tape,k.output.trans h.output,Nat.le_trans h.size k.size,λb hb R=>?_,λb o hb R=>?_⟩
   ·rw[k.block b (Nat.lt_of_lt_of_le hb h.size) (λo=>by rw[(h.cell b o hb (R o)).1];exact R o)];exact h.block b hb R
   ·have h1:=h.cell b o hb R;have h2:=k.cell b o (Nat.lt_of_lt_of_le hb h.size) (by rw[h1.1];exact R);exact⟨h2.1.trans h1.1,h2.2.trans h1.2⟩
  refine { J with frame:=hfr,reps:=λs=>?_ }
  by_cases h:∃j∈l,i<j/\wr ts j s
  ·obtain⟨τ,x,e1,_,e4,e5⟩:=tp s h;have k:=hR.reps s;rw[e1] at k;simp only[zA] at k;rw[Le (hn i) e4,e1];simp only[zA];have e:(a.put o.dst v).tmps.getD s undef=a.tmps.getD s undef:=by
    unfold Act.put;cases hd:o.dst with
    |none=>rfl
    |some d =>
     have kj:d≠s:=λe=>e5 (by rw[hd,e]);show (a.tmps.setIfInBounds d v).getD s undef=_;rw[Array.getD_eq_getD_getElem?,Array.getD_eq_getD_getElem?,Array.getElem?_setIfInBounds_ne kj]
   rw[e];exact Gk (λb o hb h0=>by
    have:=J.frame.cell b o hb (by rw[h0];decide);exact⟨this.1.trans h0,this.2⟩) k
  ·have e:(DP ts i++(exe ts l++S)).get s=(DP ts i++(tex ts i++S)).get s:=by
    cases hh:St.has s (DP ts i) with
    |true=>rw[N6 (hn i) hh,N6 (hn i) hh]
    |false=>rw[Le (hn i) hh,Le (hn i) hh];exact kT s λj C gz hw=>h ⟨j,C,gz,hw⟩
   rw[e];exact J.reps s
 |false =>
  have hloc:=yW1 (S':=exe ts l++S) q1 (λr hr=>hI.val r i (λj C hw=>?_) (λj C hw=>?_)) (λe mu=>?_)
  ·refine yG9 R hR ho hloc q5 (λs e mu=>?_) (λe mu e' hem'=>WA (q4 e (mem_append_left _ mu)) e' hem') (λq hq=>hp q (q3 q hq)) λv w' G' J=>hZ v w' G' (by rw[exe,append_assoc];exact J);refine zU6 (q:=λA=>A.hung e.1=false) rfl λe' iO=>?_;rcases mem_append.1 iO with h|h
   ·obtain⟨j,C,mv⟩:=xM9 h;by_cases I:j<i
    ·exact WA (q4 e' (mem_append_right _ (yW3 I mv))) e mu
    ·have:i≠j:=λe=>hi (e ▸ C);obtain⟨t,ht,eu⟩:=yN5 mv;have hq:=((Pl (qh j t C ht (by omega))).1 rfl).2.2;simp only[dU,all_eq_true,Fz,jB,jK] at hq;exact WA (hq e' (by rw[eu];exact mv)).1 e mu
   ·exact Pk (hS e' h)
  ·by_cases iv:j∈l
   ·grind
   ·obtain⟨t,ht,eu⟩:=SE hw;exact ((Pl (qy j t iv ht C)).2.2.1 r (by rw[eu];exact hw) hr).elim
  ·obtain⟨t,ht,eu⟩:=SE hw;by_cases I:j<i
   ·exact I
   ·have:i≠j:=λe=>hi (e ▸ C);exact (((Pl (qh j t C ht (by omega))).1 rfl).2.1 r hr (by rw[eu];exact hw)).elim
  ·rcases mem_append.1 mu with h|h
   ·obtain⟨j,C,mv⟩:=xM9 h;by_cases I:j<i
    ·exact .inl (mem_append_left _ (yW3 I mv))
    ·have:i≠j:=λe=>hi (e ▸ C);obtain⟨t,ht,eu⟩:=yN5 mv;have hq:=((Pl (qh j t C ht (by omega))).1 rfl).2.2;simp only[dU,all_eq_true,Fz,jB] at hq;refine .inr λd hd=>?_;have:=(hq e (by rw[eu];exact mv)).2;rw[hd] at this;exact this
   ·exact .inl (mem_append_right _ h)
theorem xX1{l:List Nat}(h:((range ops.size).filter λi=>!(l.contains i)).length=0):∀i,i<ops.size->i∈l:=by
 simp_all
theorem xF2{l:List Nat}{listed:Array Bool}(I:LM 0 ops.toList)(R:listed.size=ops.size)(hl:∀j,listed.getD j false=true↔j∈l)(hr:ready .any ops listed=[]):∀i,i<ops.size->i∈l:=by
 intro i
 induction i using Nat.strongRecOn with
 |_ i ih =>
  intro J;by_cases hm:i∈l
  ·grind
  ·have:i∈ready .any ops listed:=by
    refine mem_ready.2 ⟨?_,ops[i],Array.getElem?_eq_getElem J,λe he C=>?_⟩
    ·grind
    ·have:=zR5 (ops:=ops.toList) (j:=i) (o:=ops[i]) I (by grind) e (by grind) C
     grind
   grind
theorem xA2{K:Act->Prop}(hK:∀o∈ops.toList,∀a v,K a->K (a.put o.dst v))(hc:CtxOk P c)(hF:SD c (ops.toList.map (·.dst)) ops.toList S [] ts p)(hS:∀e∈S,e.2.hasOpt=false)(hp:∀q∈p,q){m:Nat}(hO:Ord m ops ts)(hn:N9 ts)
  (hE:LM 0 ops.toList){Q:Exit->Act->World->Prop}(hQ:∀a' w' G',Rel c.n χ0 w0 (tex ts ops.size++S) a' w' G'->K a'->Q .normal a' w') :
  ∀AW listed l a w G,listed.size=ops.size->(∀j,listed.getD j false=true↔j∈l)->(∀j,j<m->j∈l)->Inv ops ts S l->((range ops.size).filter λi=>!(l.contains i)).length<=AW ->
   Rel c.n χ0 w0 (exe ts l++S) a w G->K a->wpAnyIn (fz rd) 0 P .any ops Q AW listed a w:=by
 have fin:∀l a w G,Inv ops ts S l->(∀i,i<ops.size->i∈l)->Rel c.n χ0 w0 (exe ts l++S) a w G->K a->Q .normal a w:=by
  intro l a w G I hf J R;refine hQ a w G (fK (λs=>?_) J) R;refine (I.val s ops.size (λj hj _=>hf j hj) λj hj _=>I.lt j hj).symm
 intro AW
 induction AW with
 |zero =>
  intro listed l a w G hs hl C I hm J R;have hf:=xX1 (ops:=ops) (l:=l) (by omega);refine⟨?_,fin l a w G I hf J R⟩;refine List.eq_nil_iff_forall_not_mem.2 λi hi=>?_
  grind [mem_ready,Array.getElem?_eq_some_iff]
 |succ AW ih =>
  intro listed l a w G hs hl C I hm J R;refine⟨λhr=>fin l a w G I (xF2 hE hs hl hr) J R,λi hi=>?_⟩;obtain⟨h1,o,ho,he⟩:=mem_ready.1 hi;have hlt:=(Array.getElem?_eq_some_iff.1 ho).1;have h2:i<listed.size:=by omega
  have qm:i∉l:=by
   grind
  have iO:∀e∈o.after.toList,binds .any e->e.on∈l:=λe mu hb=>(hl _).1 (he e (by grind) hb);refine xN0 hn hc hF hS hp hO I C ho qm iO J λv w' G' hR'=>?_;refine ih _ (i::l) _ _ G' (by grind) (λj=>?_) (λj hj=>jP _ (C j hj)) (I.cons hn (λj ti tj _ h1 h2 h3 h4=>hO i j ti tj h1 h2 h3 (le_of_not_lt λh=>qm (C i h)) h4) ho qm iO) ?_ hR' (hK _ (List.mem_of_getElem? (by simpa using ho)) _ _ R)
  ·by_cases e:i=j
   ·subst e;simp[h2]
   ·rw[getD_set_ne false e,hl j];simp[Ne.symm e]
  ·have nk:(range ops.size).filter (λk=>!((i::l).contains k))=((range ops.size).filter (λk=>!(l.contains k))).filter (λk=>!(k==i)):=by
    rw[List.filter_filter]
    grind
   rw[nk];have:(((range ops.size).filter (λk=>!(l.contains k))).filter (λk=>!(k==i))).length<((range ops.size).filter (λk=>!(l.contains k))).length:=by
    refine List.length_filter_lt_length_iff_exists.2 ⟨i,List.mem_filter.2 ⟨List.mem_range.2 hlt,by grind⟩,by simp⟩
   omega
theorem xV3(h:LN k [] (ahead ops.toList []) ts):Ord k ops ts:=by
 intro i j ti tj J C gz I kt;exact xF0 (trs:=[]) h (by grind) C (by grind) I kt
theorem yW4{dsts:List (Option Nat)}{q:List Prop}{hv:Bool}(h:Jj c dsts o S=some (q,u,hv)):(∀d,o.op≠.defer d)/\∀cs b,o.op≠.select cs b:=by
 have key:∀op,o.op=op->Ji op=5->(∀d xs ks,HM c d op xs ks=none)->HN op=false->False:=by
  unfold Jj JQ LK at h;split at h
  ·grind
  ·rename_i C u' I kZ;split at kZ
   ·grind
   ·simp only[zK] at kZ
    grind
 refine⟨λd e=>key _ e rfl (λ_ _ _=>by simp[HM]) rfl,λcs b e=>key _ e rfl (λ_ _ _=>by simp[HM]) rfl⟩
section Jm
variable {F:Fence}{m:Nat}{Q:Exit->Act->World->Prop}
variable {oi:Oper}{v:Value}{K:Act->World->Prop}
theorem xT{j:Nat}{oj:Oper}(J:ops[j]?=some oj)(iM:oi.apart ops oj)(kz:(∀d,oj.op≠.defer d)/\∀cs b,oj.op≠.select cs b)(hQ:∀e a w,e≠.normal->¬Q e a w)
  (h:wpOpIn F m P ops Q j K (a.put oi.dst v) w):wpOpIn F m P ops Q j (λC w'=>(∃u D,C=({ a with defers:=D }:Act).put oj.dst u)/\K (C.put oi.dst v) w') a w:=by
 obtain⟨f1,f2,_⟩:=Oper.apart_spec iM;have R:∀u,(a.put oi.dst v).put oj.dst u=(a.put oj.dst u).put oi.dst v:=λu=>Act.put_comm a v u f2;unfold wpOpIn at h ⊢;simp only[J] at h ⊢;rw[wanted_put oj a oi.dst v f1,about_put oj w a oi.dst v f1] at h;cases hw:wanted oj (yielded ops a.tmps) with
 |false =>
  grind
 |true =>
  simp[hw] at h ⊢;unfold Oper.wpIn at h ⊢;rw[about_put oj w a oi.dst v f1,Oper.semAt_eq _ _ _ kz.1,execOp_put oj kz.2 a oi.dst v f1] at h;rw[Oper.semAt_eq _ _ _ kz.1];refine⟨h.1,?_⟩;have h:=h.2;cases I:(execOp a.eval oj).run P w with
  |halt x w' =>
   rw[I] at h;cases x<;>simp only[Oper.uponIn] at h
   grind
  |ok x w' =>
   rw[I] at h;cases x with
   |value u=>grind [Oper.uponIn]
   |skip=>grind [Oper.uponIn]
   |defer d =>
    grind [Oper.uponIn,Act.put_comm,Act.put_defers]
   |enter f args =>
    grind [Oper.uponIn]
   |row row args =>
    grind [Oper.uponIn]
   |round l f tmps assign body =>
    refine⟨h.1,RoundIn.mono h.2 λe w2 he=>?_⟩
    grind
   |_=>grind [Oper.uponIn]
variable {i:Nat}
theorem yS{o:Oper}(J:ops[i]?=some o)(kz:∀d,o.op≠.defer d)(I:YieldsFenced P ops o v a)(h:K (a.put o.dst v) w):wpOpIn F m P ops Q i K a w:=by
 unfold wpOpIn;simp only[J];have C:∀f,o.about P w a.eval=some f->F.fn f:=λf R=>by rw[I.2 w] at R;grind
 rcases I.1 with ⟨hw,hv⟩ | ⟨hw,rfl⟩
 ·rw[if_pos hw];unfold Oper.wpIn;rw[Oper.semAt_eq _ _ _ kz,hv w];exact⟨C,h⟩
 grind
theorem xN1(hi:ops[i]?=some oi)(kz:∀(j:Nat)(o:Oper),ops[j]?=some o->(∀d,o.op≠.defer d)/\∀cs b,o.op≠.select cs b)(hQ:∀e a w,e≠.normal->¬Q e a w) :
  ∀(AW:Nat) (listed:Array Bool) (a:Act) (w:World),
   (∀j oj,ops[j]?=some oj->j≠i->listed.getD j true=false->(∀e∈oj.after,binds .any e->e.on≠i)->oi.apart ops oj=true) ->
   i∈ready .any ops listed->YieldsFenced P ops oi v a ->
   wpAnyIn F m P .any ops Q AW (listed.setIfInBounds i true) (a.put oi.dst v) w->wpAnyIn F m P .any ops Q (AW+1) listed a w:=by
 intro AW
 induction AW with
 |zero =>
  intro listed a w gZ hr hy hw;refine⟨λh0=>(by grind),λj J=>?_⟩;by_cases e:j=i
  ·grind [yS]
  ·have:=ready_mono J e;rw[hw.1] at this
   grind
 |succ AW ih =>
  intro listed a w gZ hr hy hw;refine⟨λh0=>(by grind),λj J=>?_⟩;by_cases e:j=i
  ·grind [yS]
  ·obtain⟨R,oj,C,hall⟩:=mem_ready.1 J;have ue:∀e∈oj.after,binds .any e->e.on≠i:=λed hed hb heq=>by
    grind [mem_ready,Array.getElem?_eq_none,le_of_not_lt]
   have iM:=gZ j oj C e R ue;obtain⟨_,_,f3⟩:=Oper.apart_spec iM;refine wpOpIn_mono (λa' w' h3=>?_) (xT C iM (kz _ _ C) hQ (hw.2 j (ready_mono J e)));obtain⟨⟨u,D,rfl⟩,h3⟩:=h3;refine ih (listed.setIfInBounds j true) _ w' (λk ok hk hki I qn=>?_) (ready_mono hr (Ne.symm e)) ?_ (by grind [Array.setIfInBounds_comm])
   ·refine gZ k ok hk hki ?_ qn;by_cases hjk:j=k
    ·grind
    ·rw[getD_set_ne true hjk] at I;exact I
   ·have hy':YieldsFenced P ops oi v ({ a with defers:=D }:Act):=hy.of_same rfl rfl (λ_=>rfl)
    exact hy'.of_same (execOp_put oi (kz _ _ hi).2 _ oj.dst u f3) (wanted_put oi _ oj.dst u f3) (λw=>about_put oi w _ oj.dst u f3)
end Jm
variable {dsts:List (Option Nat)}{u:St}{hv:Bool}{q:List Prop}{o:Oper}
theorem yW5{S':St}{T:Nat}{x y:Operand}{t:Ty}{l:List t.den}{k:IntKind}{i:Int}(J:o.op=.indexAddr T x y)(hg:o.guard=none)(hx:arg S' x=.val (.sl t) l)(hy:arg S' y=.val (.int k) i)
  (h:Jj c dsts o S'=some (q,u,hv)) (I:∀p∈q,p):0<=i/\i<(l.length:Int):=by
 have C:∃R,JQ c dsts o S'=some (q,R):=by
  grind [Jj,Sp]
 unfold JQ at C;simp[KW,LK,J,Ji,CB,zF,zK,HM,dF,HN] at C;split at C
 ·grind
 ·split at C
  ·grind
  ·cases hi:c.is T (.sl t) with
   |false=>grind
   |true =>
    simp[Np] at C;have e:q=Jc y i (l.length:Int):=by grind
    rw[e] at I;exact La I
theorem yS0(hc:CtxOk P c){S':St}(hR:Rel c.n χ0 w0 S' a w G)(kZ:Jj c dsts o S'=some (q,u,hv))(hq:∀p∈q,p)(h:Ss c S' o):∃v,YieldsFenced P ops o v a:=by
 unfold Ss at h;split at h
 ·rename_i d hg hd;have hw:wanted o (yielded ops a.tmps):=by grind [wanted]
  split at h
  ·rename_i x J;exact⟨a.eval x,.inl ⟨hw,λw=>by simp[execOp,J]⟩,λw=>by grind [Oper.about]⟩
  ·rename_i args ats t l T i U m J C;rw[J] at C;simp only[CB] at C;obtain⟨x,hx⟩:∃x,args.toList=[x]:=by
    cases hq:args.toList<;>simp_all
   rw[hx] at C;simp  at C;split at h
   ·rename_i T' hT';simp  at h;obtain⟨e',h1,h2⟩:=GQ (DV hc.tys h.1);have I:=Jr hR x;rw[C] at I;have hv:∃b n k,a.eval x=.slice b n k:=by
     obtain⟨_,⟨he,_⟩ | ⟨_,⟨hv,_⟩ | ⟨cap,_,_,hv,_⟩⟩⟩:=I
     all_goals simp_all
    obtain⟨b,n,k,hv⟩:=hv;have ke:args=#[x]:=by grind
    have ug:ats=#[T']:=by grind
    subst ke;subst ug;refine⟨.int .i64 (n:Int),.inl ⟨hw,λw=>?_⟩,λw=>?_⟩
    ·simp[execOp,J,resolve,invoke,builtin,hv,Builtin.len_,run_underlying h1,goInt]
    simp_all [Oper.about,resolve,Target.leads]
   grind
  ·rename_i op T x y kd k p k' q J C;rw[J] at C;simp[CB] at C;have hk:=Ni (jC h);have I:=Jr hR x;have R:=Jr hR y;rw[C.1] at I;rw[C.2] at R;have I:=VRep_int.1 I;have R:=VRep_int.1 R;refine⟨.int k (k.wrap (p-q)),.inl ⟨hw,λw=>?_⟩,λw=>by grind [Oper.about]⟩;simp_all [execOp,zL0,binOp,Op.intArith]
  ·rename_i T x y t' l k i' J C;rw[J] at C;simp[CB] at C;have hb:=yW5 J hg C.1 C.2 kZ hq;have I:=Jr hR x;have R:=Jr hR y;rw[C.1] at I;rw[C.2] at R;simp only[zA] at I R;have R:=VRep_int.1 R;rw[zC rfl] at I;obtain⟨ad,cap,gP,hx⟩:=I;injection gP with gP _
   rcases hx with rfl|⟨b,o',us,ha,h1,h2,h3⟩
   ·grind
   ·exact⟨.pointer (some ⟨b,o'+i'.toNat*t'.size,none⟩),.inl ⟨hw,λw=>by simp[execOp,J,gP,R,S4 (DV hc.tys h) ha hb w]⟩,λw=>by grind [Oper.about]⟩
  grind
 grind
theorem yW6{i:Nat}:∀{l:List Oper}{C n:Nat}{oj:Oper},OW ops i o C l->l[n]?=some oj->i<C+n->(∀e∈oj.after,binds .any e->e.on≠i)->o.apart ops oj:=by
 intro l
 induction l with
 |nil=>grind
 |cons x r R =>
  intro C n oj h hn J qn;simp only[OW,jB,Bool.or_eq_true] at h;cases n with
  |zero =>
   rcases h.1 with I|I|I
   ·have:=jR I;omega
   ·grind [absurd,jC]
   grind
  |succ n=>grind
theorem yW7{all:List Oper}:∀{r:List Oper}{ts:List Tr}{i:Nat}{U:St},i<=Jm c all S i r ts U/\Jm c all S i r ts U<=i+r.length /\
  ∀j,i<=j->j<Jm c all S i r ts U->∃o,r[j-i]?=some o/\Ss c ((tex ts (j-i)++U)++S) o/\OW all.toArray j o 0 all:=by
 intro r
 induction r with
 |nil=>grind [Jm]
 |cons o r J =>
  intro ts i U;cases ts with
  |nil=>simp only[Jm];exact⟨jI _,by omega,λj C I=>by omega⟩
  |cons t ts =>
   simp only[Jm];cases hb:(Ss c (U++S) o&&OW all.toArray i o 0 all) with
   |false=>simp only[jD];exact⟨jI _,by omega,λj C I=>by omega⟩
   |true =>
    simp;obtain⟨C,I,h3⟩:=J (ts:=ts) (i:=i+1) (U:=t.u++U);refine⟨by omega,by grind,λj hj R=>?_⟩;by_cases e:j=i
    ·grind [tex]
    ·have e1:j-i=(j-(i+1))+1:=by omega
     grind [zX]
def HQ (n:Nat):Nat->Array Bool
 |0=>Array.replicate n false
 |i+1=>(HQ n i).setIfInBounds i true
theorem fM{n:Nat}:∀{i:Nat},(HQ n i).size=n:=by
 intro i
 induction i<;>grind [HQ]
theorem yD{n:Nat}:∀{i j:Nat},i<=n->((HQ n i).getD j false=true↔j<i):=by
 intro i
 induction i with
 |zero=>simp[HQ];grind
 |succ i C =>
  intro j I;by_cases e:i=j
  ·have:i<(HQ n i).size:=by grind [fM]
   simp_all [HQ]
  ·rw[HQ,getD_set_ne false e,C (by omega)];omega
def JX:Nat->List Nat
 |0=>[]
 |k+1=>k::JX k
theorem downs_mem{j:Nat}:∀{k:Nat},j∈JX k↔j<k:=by
 intro k
 induction k<;>grind [JX]
theorem xN2:∀{k:Nat},exe ts (JX k)=tex ts k:=by
 intro k
 induction k<;>grind [JX,exe,tex]
theorem xN3 (I:N9 ts)(J:LM 0 ops.toList):∀{k:Nat},k<=ops.size->Inv ops ts S (JX k):=by
 intro k
 induction k with
 |zero=>intro _;exact xM8 I
 |succ k R =>
  intro hk;have C:k<ops.size:=by omega
  refine Inv.cons I (λj ti tj hj _ _ gz=>?_) (R (by omega)) (Array.getElem?_eq_getElem C) (λh=>?_) (λe he hb=>?_)
  ·grind [downs_mem]
  ·grind [downs_mem]
  ·have:=zR5 (ops:=ops.toList) (j:=k) (o:=ops[k]) J (by grind) e he hb
   grind [downs_mem]
variable {k:Nat}
theorem xT0:∀{n:Nat},((range n).filter λi=>!((JX k).contains i)).length<=n-k:=by
 intro n
 induction n with
 |zero=>simp
 |succ n J =>
  rw[List.range_succ,List.filter_append,jO];by_cases h:n<k
  ·have C:n∈JX k:=downs_mem.2 h;have I:([n].filter λi=>!((JX k).contains i))=[]:=by simp[C]
   rw[I,List.length_nil];omega
  ·have:([n].filter λi=>!((JX k).contains i)).length<=1:=List.length_filter_le _ _;omega
theorem xN4{K:Act->Prop}(hK:∀o∈ops.toList,∀a v,K a->K (a.put o.dst v))(hc:CtxOk P c)(R:SD c (ops.toList.map (·.dst)) ops.toList S [] ts p)(hS:∀e∈S,e.2.hasOpt=false)(hp:∀q∈p,q)(hE:LM 0 ops.toList=true)
  {Q:Exit->Act->World->Prop}(hQ:∀e a w,e≠.normal->¬Q e a w){fk:Nat}(ui:k<=ops.size) (hk:∀j,j<k->∃o,ops[j]?=some o/\Ss c (tex ts j++S) o/\OW ops j o 0 ops.toList=true)
  (kI:∀a w G,Rel c.n χ0 w0 (tex ts k++S) a w G->K a->wpAnyIn (fz rd) 0 P .any ops Q fk (HQ ops.size k) a w) :
  ∀n i,i+n=k->∀a w G,Rel c.n χ0 w0 (tex ts i++S) a w G->K a->wpAnyIn (fz rd) 0 P .any ops Q (fk+n) (HQ ops.size i) a w:=by
 have kz:∀(j:Nat) (o:Oper),ops[j]?=some o->(∀d,o.op≠.defer d)/\∀cs b,o.op≠.select cs b:=λj o C=>by
  obtain⟨_,_,h1,_⟩:=R j o (by grind);exact yW4 h1
 intro n
 induction n with
 |zero=>grind
 |succ n ih =>
  intro i hi a w G hR gK;obtain⟨o,C,h1,h2⟩:=hk i (by omega);obtain⟨pi,hv,I,_,q3,_⟩:=R i o (by grind);rw[append_nil] at I;obtain⟨v,hy⟩:=yS0 (ops:=ops) hc hR I (λq hq=>hp q (q3 q hq)) h1;have hw:=yN4 (rd:=rd) (Q:=λ_ _ _=>False) (next:=λa' w'=>∃G',Rel c.n χ0 w0 (tex ts (i+1)++S) a' w' G') hc R hS hp C hR (λv w' G' J=>⟨G',by grind [tex,append_assoc]⟩)
  have hb:∃G',Rel c.n χ0 w0 (tex ts (i+1)++S) (a.put o.dst v) w G':=by
   unfold wpOpIn at hw;simp only[C] at hw;rcases hy.1 with ⟨I,q2⟩ | ⟨I,rfl⟩
   ·simp[I] at hw;unfold Oper.wpIn at hw;rw[Oper.semAt_eq _ _ _ (kz _ _ C).1,q2 w] at hw;exact hw.2
   grind
  obtain⟨G',J⟩:=hb;refine xN1 C kz hQ (fk+n) (HQ ops.size i) a w (λj oj hj hji hun qn=>?_) (mem_ready.2 ⟨?_,o,C,λe he hbd=>?_⟩) hy (ih (i+1) (by omega) _ _ G' J (hK o (List.mem_of_getElem? (by simpa using C)) _ _ gK))
  ·refine yW6 (n:=j) h2 (by grind) ?_ qn
   grind [yD,HQ,fM]
  ·grind [HQ,fM,Array.getElem?_eq_some_iff,yD]
  ·have:=zR5 (ops:=ops.toList) (j:=i) (o:=o) hE (by grind) e (by grind) hbd
   grind [yD]
end draw
variable {gtab:GlobTab}{P:Program}{c:Ctx}{G:Gh}{w:World}{tm:Array Value}{n:Nat}{χ0:Nat->Nat->Nat}{w0:World}{S:St}{a:Act}
def Gh.rename (G:Gh)(T U:Nat):Gh:=
 {χ:=λb o=>if G.χ b o=AL T then AL U else G.χ b o,β:=G.β,γ:=λk=>if k=U then G.γ T else G.γ k }
variable {U T:Nat}
theorem LS:∀b o,b<w.heap.size->G.χ b o=0->(G.rename T U).χ b o=0/\w.cell? ⟨b,o,none⟩=w.cell? ⟨b,o,none⟩:=by
 grind [Gh.rename,DE]
theorem rename_ext:Ext (λx=>x=AL T\/x=AL U) (λx=>x=AL U) G w (G.rename T U) w:=by
 refine⟨LS,λb _ h=>⟨rfl,λo=>?_⟩,jI _,λ_ _=>rfl,λk C=>?_,λ_ h=>.inr h⟩
 ·simp_all [Gh.rename]
 ·simp only[Gh.rename];rw[if_neg λe=>C (by rw[e])]
variable {t:Ty}{v:Value}
theorem yJ7{l:List t.den}{m:Bool}(h:BQ G w t l T m v):BQ (G.rename T U) w t l U m v:=by
 refine zW (λh=>⟨h.1,?_⟩) (by simp[Gh.rename]) rfl LS (λ_ hc o=>?_) h
 rotate_left
 ·grind [Gh.rename]
 rcases h.2 with h|⟨cap,cur,e,us,h1,h2,C,I,J,R,h7,h8⟩
 ·grind
 ·have hg:(G.rename T U).γ U=G.γ T:=by simp[Gh.rename]
  refine .inr ⟨cap,cur,e,us,by grind,by grind,C,I,J,EU (λ_ _ h=>CX LS h) R,h7,λo=>?_⟩;rw[hg];simp only[Gh.rename,h8 o];split
  ·rw[if_neg (DE T)]
  ·rw[if_pos rfl]
theorem yJ8(h:Sj T S)(s:Nat):(S.get s).hasTag T=false:=by
 by_cases C:S.get s=.junk
 ·rw[C];rfl
 ·have I:=Pj C;simp only[St.has,any_eq_true] at I;obtain⟨e,he,hb⟩:=I;have:=all_eq_true.1 h e he
  grind [jC]
variable {T':Nat}
theorem Ju(h:T'≠U):(G.rename T U).γ (cond (Nat.beq T T') U T')=G.γ T':=by
 cases hb:Nat.beq T T'<;>simp_all [Gh.rename]
theorem fN{b o:Nat}(h:G.χ b o=AL T'):(G.rename T U).χ b o=AL (cond (Nat.beq T T') U T'):=by
 cases hb:Nat.beq T T' with
 |true=>simp_all [Gh.rename]
 |false=>simp[Gh.rename];rw[if_neg (λe=>by rw[h] at e;have:=CJ e;simp_all),h]
theorem yW8(I:T'≠U){l:List t.den}{m:Bool}(h:yT G w t l T' m v):yT (G.rename T U) w t l (cond (Nat.beq T T') U T') m v:=by
 refine⟨h.1,?_⟩;rcases h.2 with h|⟨cap,cur,e,us,h1,h2,J,R,h5,h6,h7,h8⟩
 ·grind
 ·refine .inr ⟨cap,cur,e,us,by grind [Ju],by grind [Ju],J,R,h5,EU (λ_ _ h=>CX LS h) h6,h7,λo=>?_⟩;rw[Ju I];have C:=h8 o;by_cases hc:m=false/\o<l.length*t.size
  ·grind [LS,zE]
  ·rw[if_neg hc] at C ⊢;exact fN C
variable {V:Nat}
theorem yS1(C:T'≠U)(I:V≠U)(h:T'≠V):(cond (Nat.beq T T') U T')≠(cond (Nat.beq T V) U V):=by
 grind [Nat.beq,absurd,jC]
variable {i:Nat}
theorem yW9(I:T'≠U)(J:V≠U){l:List (List t.den)}{m:Bool}(h:Jn G w t l T' i V m v) :
  Jn (G.rename T U) w t l (cond (Nat.beq T T') U T') i (cond (Nat.beq T V) U V) m v:=by
 obtain⟨hv,⟨he,⟨hm,x,ad,cap,q1,q2,R⟩ | ⟨hm,hK⟩⟩ | ⟨kj,h|⟨cap,cur,e,g1,g2,g3,g4,g5,g6,g7⟩⟩⟩:=h
 ·subst he;refine⟨hv,.inl ⟨rfl,.inl ⟨hm,x,ad,cap,q1,q2,?_⟩⟩⟩;rcases R with R|⟨o,us,cur,e,k1,k2,k3,k4,k5,k6⟩
  ·grind
  ·exact .inr ⟨o,us,cur,e,by grind [Ju],k2,by grind [Ju],EU (λ_ _ h=>CX LS h) k4,k5,λo=>by grind [Ju,fN]⟩
 ·subst he;refine⟨hv,.inl ⟨rfl,.inr ⟨hm,?_⟩⟩⟩;rcases hK with h|⟨cap,cur,e,g1,g2,g3,g4,g5,g6,g7⟩
  ·exact .inl h
  ·refine .inr ⟨cap,cur,e,by grind [Ju],by grind [Ju],g3,g4,g5,λo=>by grind [Ju,fN],λj x hj hji=>?_⟩
   grind [CX,LS]
 ·refine⟨hv,.inr ⟨yS1 I J kj,.inl h⟩⟩
 ·refine⟨hv,.inr ⟨yS1 I J kj,.inr ⟨cap,cur,e,by grind [Ju],by grind [Ju],g3,g4,g5,λo=>by rw[Ju I];exact fN (g6 o),λj x hj=>?_⟩⟩⟩;obtain⟨u,hu,C⟩:=g7 j x hj;refine⟨u,hu,?_⟩;by_cases e:j=i
  ·rw[if_pos e] at C ⊢;exact yW8 J C
  ·rw[if_neg e] at C ⊢;exact CX LS C
theorem yS2(C:Rel n χ0 w0 S a w G)(hn:n<=BO)(hU:Sj U S)(hlt:∀e∈CS T (AVal.retagH T U) S S,e.1<n) :
  Rel n χ0 w0 (CS T (AVal.retagH T U) S S++S) a w (G.rename T U):=by
 have h0:¬((0:Nat)=AL T\/(0:Nat)=AL U):=by rintro (e|e);exact DE _ e;exact DE _ e
 have hor:∀{t:Ty}{l:List t.den}{T':Nat}{m:Bool}{v:Value},¬T'=U->Nat.beq T T'=false->BQ G w t l T' m v->BQ (G.rename T U) w t l T' m v:=by
  intro t l T' m v I hb J;refine GO rename_ext h0 ?_ J;rintro (e|e)
  ·have:=CJ e;simp_all
  grind [CJ]
 have R:MapOk (λk=>k=U) G w (G.rename T U) w (λt l T' m=>.own t l (cond (Nat.beq T T') U T') m) (λs T' t i p=>.eref s (cond (Nat.beq T T') U T') t i p):=by
  refine⟨LS,λs=>rfl,λs kh hl=>⟨rfl,λo=>?_⟩,λt l T' m v I J hf=>?_,λt l T' m v I J tm=>?_,λs T' t i p v I tm ha=>?_⟩
  ·simp_all [Gh.rename,CI]
  ·simp only[AF];cases hb:Nat.beq T T' with
   |true=>have:=jC hb;subst this;exact⟨trivial,v,rfl,yJ7 J⟩
   |false=>exact⟨trivial,v,rfl,hor I hb J⟩
  ·grind [zA,Nat.beq,jC,yJ7]
  ·simp only[zA] at ha ⊢;cases hb:Nat.beq T T' with
   |true=>grind [jC,Gh.rename]
   |false=>rw[jD,rename_ext.tag (w:=w) T' λe=>I (CJ e)];grind
 refine yG0 (U:=T) C hn rename_ext h0 ?_ (λs hs=>?_) (λs hs=>yQ8 hs (yJ8 hU s)) hlt
 ·refine⟨C.frame.os,C.frame.tape,C.frame.output,C.frame.size,C.frame.block,λb o hb hc=>?_⟩;have:=C.frame.cell b o hb hc;simp only[Gh.rename]
  grind [Iq]
 ·have qv:=C.reps s;have qn:=yJ8 hU s;generalize S.get s=A at qv qn ⊢;cases A with
  |ownh t l T' i V m =>
   simp[AVal.hasTag] at qn;exact yW9 (λe=>by simp_all) (λe=>by simp_all) qv
  |_=>exact R.arep (λk hk=>by subst hk;exact qn) qv
variable {rd:Option Nat}{gtab:GlobTab}{P:Program}{c:Ctx}{G:Gh}{w:World}{tm:Array Value}{n:Nat}{χ0:Nat->Nat->Nat}{w0:World}{S:St}{a:Act}
variable {G':Gh}
theorem xA3{X:Nat->Prop}(I:∀x,X x->x=AL T)(C:Ext X (λ_=>False) G w G' w):MapOk (λ_=>False) G w G' w (λt l T' m=>cond (Nat.beq T T') (.junk) (.own t l T' m)) (λs T' t i p=>cond (Nat.beq T T') (.junk) (.eref s T' t i p)):=by have h0:¬X 0:=λh=>DE _ (I 0 h);refine⟨C.prot,λs=>C.box s id,λs kh J=>?_,λt l T' m v _ R hf=>?_,λt l T' m v _ R tm=>?_,λs T' t i p v _ tm ha=>?_⟩;have:=C.block _ J (λo=>by grind [CI]);grind;(cases hb:Nat.beq T T' with|true=>grind [AVal.fitsT]|false=>simp only[jD,AF];exact⟨trivial,v,rfl,GO C h0 (λe=>by have:=CJ (I _ e);simp_all) R⟩);(cases hb:Nat.beq T T' with|true=>simp[zA]|false=>exact GO C h0 (λe=>by have:=CJ (I _ e);simp_all) R);cases hb:Nat.beq T T' with|true=>simp[zA]|false=>simp[zA] at ha ⊢;rw[C.tag T' id];grind
theorem xN5{g:(t:Ty)->List t.den->Nat->Bool->AVal}{h:Nat->Nat->Ty->Int->Fq->AVal}(H:MapOk (λ_=>False) G w G' w g h):∀{b:AVal}{f:Ty}{k:Nat}{vs:List Value}{t:Ty}{l:List t.den}{m:Bool},AF G w f b vs->b.nth k=.own t l T m->(∀v,BQ G w t l T m v->BQ G' w t l T false v)->((b.mapOwn g h).setNth k (.own t l T false)).fitsT f->AF G' w f ((b.mapOwn g h).setNth k (.own t l T false)) vs:=by intro b;induction b with|cons x y _ kK=>intro f k vs t l m ht J R C;obtain⟨h1,t1,us,ws,rfl,rfl,I,h3⟩:=ht;(cases k with|zero=>subst J;obtain⟨rfl,v,rfl,I⟩:=I;simp[AVal.mapOwn,AVal.setNth,AVal.fitsT,GH] at C ⊢;exact⟨_,_,_,_,rfl,rfl,⟨rfl,v,rfl,R v I⟩,H.trep (λ_ h=>h.elim) h3 (OZ C.2)⟩|succ k=>simp[AVal.mapOwn,AVal.setNth,AVal.fitsT,GH] at C ⊢;exact⟨_,_,_,_,rfl,rfl,H.trep (λ_ h=>h.elim) I (OZ C.1),kK h3 J R C.2⟩)|_=>grind [AVal.nth]
theorem xX2{l:List t.den}{m:Bool}:∀{b:AVal}{f:Ty}{k:Nat}{us:List Value},AF G w f b us->b.nth k=.own t l T m->∃v,BQ G w t l T m v:=by intro b;induction b with|cons x y _ kK=>intro f k us ht iG;cases k<;>grind [AVal.nth,AF]|_=>grind [AVal.nth]
variable {k s:Nat}
theorem xN6(I:Rel n χ0 w0 S a w G)(hn:n<=BO)(C:Su k (S.get s)=some T)(hlt:∀e∈(s,Gj k (S.get s))::CS T (AVal.gone T) S S,e.1<n):∃G',Rel n χ0 w0 (((s,Gj k (S.get s))::CS T (AVal.gone T) S S)++S) a w G':=by have hs:=I.reps s;(have main:∀G',Ext (λx=>x=AL T) (λ_=>False) G w G' w->Frame0 χ0 w0 G'.χ w->(zA G' w a.tmps (some s) (Gj k (S.get s)) (a.tmps.getD s undef))->∃G',Rel n χ0 w0 (((s,Gj k (S.get s))::CS T (AVal.gone T) S S)++S) a w G':=by intro G' hx hfr kZ;refine⟨G',?_⟩;have:=GR (u:=(s,Gj k (S.get s))::CS T (AVal.gone T) S S) (dst:=none) (v:=undef) I hn hlt (λd e=>by grind) hx (λe=>DE _ e) hfr (λs' gJ=>?_) (λs d e=>by grind) (λs' gJ=>?_);exact this;refine yU8 (λx h=>h) ?_;(cases ht:(S.get s').hasTag T with|false=>rfl|true=>have:=fE (k:=AVal.gone T) (Pj (W5 ht)) ht;grind [St.has]);rw[N7];by_cases e:s=s';simp_all [St.get];(have J:Nat.beq s s'=false:=by grind [Nat.beq,absurd,jC]);(have h2:Nat.beq s BO=false:=by cases hb:Nat.beq s BO with|false=>rfl|true=>have:=hlt (s,Gj k (S.get s)) (by simp);grind [jC]);(have mw:St.has s' (CS T (AVal.gone T) S S):=by grind [St.has]);(have kT:St.get ((s,Gj k (S.get s))::CS T (AVal.gone T) S S) s'=AVal.gone T (S.get s'):=by grind [St.get,fB]);rw[kT];exact (xA3 (λx h=>h) hx).arep (λ_ h=>h.elim) (I.reps s'));generalize hA:S.get s=A at hs C main ⊢;cases A with|own t l T' m=>simp[Su] at C;subst C;(cases gr:t.isL with|true=>exact main G ⟨λ_ _ _ h=>⟨h,rfl⟩,λ_ _ _=>⟨rfl,λ_=>rfl⟩,jI _,λ_ _=>rfl,λ_ _=>rfl,λ_ h=>h.elim⟩ I.frame (by grind [Gj,zA])|false=>obtain⟨G',J,h2,h3⟩:=fG gr I.frame hs;grind [Gj,zA])|box τ b=>simp only[Su] at C;split at C;rename_i t l T' m iG;injection C with C;subst C;(cases b with|agg f b=>simp only[AVal.fld] at iG;obtain⟨hv,ko,cur,e,g1,g2,g3⟩:=hs;obtain⟨rfl,g2⟩:=g2;have kJ:∃v,BQ G w t l T' m v:=xX2 g2 iG;obtain⟨v0,ho⟩:=kJ;(cases gr:t.isL with|true=>exact main G ⟨λ_ _ _ h=>⟨h,rfl⟩,λ_ _ _=>⟨rfl,λ_=>rfl⟩,jI _,λ_ _=>rfl,λ_ _=>rfl,λ_ h=>h.elim⟩ I.frame (by grind [Gj,zA])|false=>obtain⟨G',J,h2,h3,h4⟩:=fG gr I.frame ho;refine main G' J h2 ?_;simp only[Gj,iG,gr];generalize ki:((b.gone T').setNth k (.own t l T' false)).fitsT f=fit;cases fit with|false=>simp[zA]|true=>have hb:=J.block (G.β s) (zE g1) (λo=>by grind [CI]);refine⟨by grind,ko,cur,e,by grind,?_,λo=>by grind⟩;simp only[AF];exact⟨trivial,xN5 (xA3 (λx h=>h) J) g2 iG h4 ki⟩)|_=>exact main G ⟨λ_ _ _ h=>⟨h,rfl⟩,λ_ _ _=>⟨rfl,λ_=>rfl⟩,jI _,λ_ _=>rfl,λ_ _=>rfl,λ_ h=>h.elim⟩ I.frame (by simp[Gj,zA]));grind|ownh t l T' i U m=>simp only[Su] at C;(cases hTU:Nat.beq T' U with|true=>grind|false=>simp[hTU,jD,jA] at C;subst C;obtain⟨ko,⟨he,_⟩ | ⟨kj,uk⟩⟩:=hs;simp_all;(have kI:∀(G':Gh),Ext (λx=>x=AL U) (λ_=>False) G w G' w->(∀u,yT G w t (getD (α:=List t.den) l i []) U m u->i<length (α:=List t.den) l->AN G'.χ w (.sl t) (getD (α:=List t.den) l i []) [u])->yT G' w (.sl t) l T' true (a.tmps.getD s undef):=by intro G' hx hcr;refine⟨⟨by simp[Ty.plain,ko.1,ko.2],rfl⟩,?_⟩;rcases uk with h|⟨cap,cur,e,J,h2,h3,h4,h5,h6,h7⟩;grind;have hb:=hx.block (G.γ T') (zE h2) (λo=>by grind [CJ]);have hg:=hx.tag T' (λh=>h);refine .inr ⟨cap,cur,e,cur.toList.take (length (α:=List t.den) l),by grind,by grind,h3,h4,by grind [Ty.size],?_,by simp[Ty.size],λo=>by grind⟩;refine xR9 (α:=List t.den) (R:=AN G'.χ w (.sl t)) (l:=l) (us:=List.take (length (α:=List t.den) l) cur.toList) (by grind) λj x hj=>?_;obtain⟨u,hu,hr⟩:=h7 j x hj;(have iv:j<length (α:=List t.den) l:=by grind);refine⟨u,by grind,?_⟩;by_cases e:j=i;rw[if_pos e] at hr;subst e;(have gm:getD (α:=List t.den) l j []=x:=by rw[jM,hj];rfl);rw[<-gm] at hr ⊢;exact hcr u hr iv;rw[if_neg e] at hr;exact CX hx.prot hr);by_cases gk:i<length (α:=List t.den) l/\∃u,yT G w t (getD (α:=List t.den) l i []) U m u;obtain⟨hi,u,hu⟩:=gk;obtain⟨G',J,h2,h3,h4⟩:=fG ko.2 I.frame (.inl hu);exact main G' J h2 (by exact .inl (kI G' J λu' gI _=>Gl (h4 u' (.inl gI))));exact main G ⟨λ_ _ _ h=>⟨h,rfl⟩,λ_ _ _=>⟨rfl,λ_=>rfl⟩,jI _,λ_ _=>rfl,λ_ _=>rfl,λ_ h=>h.elim⟩ I.frame (by exact .inl (kI G ⟨λ_ _ _ h=>⟨h,rfl⟩,λ_ _ _=>⟨rfl,λ_=>rfl⟩,jI _,λ_ _=>rfl,λ_ _=>rfl,λ_ h=>h.elim⟩ λu hu hi=>absurd ⟨hi,u,hu⟩ gk)))|_=>simp[Su] at C
theorem xT1{k:AVal->AVal}:∀{R:St}{s:Nat},St.has s (JR T k S R)->(JR T k S R).get s=k (S.get s)/\(S.get s).hasRef T=true\/(∃e∈JR T k S R,e.1=BO):=by intro R;induction R<;>grind [JR,St.has,St.get,Nat.beq,jQ,jC]
variable {u:St}
theorem xF3(I:Rel n χ0 w0 S a w G)(hn:n<=BO)(h:yT2 S s=some u)(J:∀e∈u,e.1<n):∃G',Rel n χ0 w0 (u++S) a w G':=by unfold yT2 at h;split at h;rename_i τ b hA;split at h;rename_i x hx;injection h with h;subst h;have R:=I.reps s;rw[hA] at R;obtain⟨hv,ko,cur,e,g1,g2,g3⟩:=R;have hc:=JV hx g2;have hE:Ext (λx=>x=BL s) (λ_=>False) G w (G.still (G.β s) cur.size) w:=yR1 λo _=>.inr (g3 o);have hF:Frame0 χ0 w0 (G.still (G.β s) cur.size).χ w:=yG1 I.frame λo _=>.inr (by grind [N8]);(have hptr:∀tm os,zA (G.still (G.β s) cur.size) w tm os (.val (.ptr τ) x) (.pointer (some ⟨G.β s,0,none⟩)):=by intro tm os;refine (zC rfl).2 ?_;refine⟨G.β s,0,cur.toList,rfl,CX zY4 hc,λj v hj=>?_⟩;grind [cell?,Gh.still]);refine⟨G.still (G.β s) cur.size,?_⟩;have:=GR (u:=(s,.val (.ptr τ) x)::JR s (LO s τ x) S S) (dst:=none) (v:=undef) I hn J (λd e=>by grind) hE (λe=>Hh _ e) hF (λC gJ=>?_) (λs d e=>by grind) (λC gJ=>?_);exact this;refine zY6 λe=>?_;simp_all [St.has];rw[N7];by_cases e:s=C;simp_all [St.get];(have h1:Nat.beq s C=false:=by grind [Nat.beq,absurd,jC]);(have h2:Nat.beq s BO=false:=by grind [Nat.beq,jQ,jC]);(have mw:St.has C (JR s (LO s τ x) S S):=by grind [St.has]);(have kT:St.get ((s,.val (.ptr τ) x)::JR s (LO s τ x) S S) C=LO s τ x (S.get C):=by grind [St.get,xT1]);rw[kT];have hr:=I.reps C;generalize S.get C=B at hr;(cases B with|ref s2 τ2 p=>(cases p with|nil=>simp only[LO];generalize hb:(Nat.beq s s2&&Ty.beq τ2 τ)=bb;cases bb<;>simp_all [zA,Ty.poff]|cons _ _=>grind [LO,zA])|_=>simp[LO,zA]);grind;grind
theorem xF4(I:Rel n χ0 w0 S a w G)(J:n<=BO){g:Nat×Nat×Nat×Nat}(h:xI2 S g=some u)(C:∀e∈u,e.1<n):∃G',Rel n χ0 w0 (u++S) a w G':=by obtain⟨kind,s,k,U⟩:=g;simp only[xI2] at h;cases R:Nat.beq kind 3 with|true=>simp[R] at h;exact xF3 I J h C|false=>simp[R,jD] at h;cases h4:Nat.beq kind 4 with|true=>simp[h4] at h;(cases hb:Nat.beq k U with|true=>grind|false=>simp[hb] at h;cases hu:Sj U S with|false=>grind|true=>simp[hu] at h;subst h;exact⟨_,yS2 I J hu C⟩)|false=>simp[h4] at h;cases h5:Nat.beq kind 5 with|true=>simp[h5] at h;subst h;exact⟨G,yZ9 I J C⟩|false=>simp[h5] at h;split at h;grind;rename_i T hT;split at h;(cases hb:Nat.beq T U with|true=>grind|false=>simp[hb] at h;cases hu:Sj U S with|false=>grind|true=>simp[hu] at h;subst h;exact⟨_,yS2 I J hu C⟩);injection h with h;subst h;exact xN6 I J hT C;injection h with h;subst h;exact⟨G,yZ9 I J C⟩
theorem yJ9 (J:n<=BO):∀{gs:List (Nat×Nat×Nat×Nat)}{S:St}{G:Gh}{u:St},Rel n χ0 w0 S a w G->Sv gs S=some u->(∀e∈u,e.1<n)->∃G',Rel n χ0 w0 (u++S) a w G':=by intro gs;induction gs with|nil=>grind [Sv,jA]|cons g r R=>intro S G u hR h C;simp only[Sv] at h;split at h;grind;rename_i u1 h1;split at h;grind;rename_i u2 h2;injection h with h;subst h;obtain⟨G1,I⟩:=xF4 hR J h1 λe he=>C e (mem_append_right _ he);rw[append_assoc];exact R I h2 λe he=>C e (mem_append_left _ he)
theorem xT2{f:AVal->AVal}:∀{u:St}{s:Nat},(∀e∈u,e.1≠BO)->St.get (u.map (λe=>(e.1,f e.2))++S) s=if St.has s u=true then f (u.get s) else S.get s:=by intro u;induction u with|nil=>grind [St.has]|cons e r C=>intro s I;obtain⟨k,A⟩:=e;(have J:Nat.beq k BO=false:=by grind [Nat.beq,absurd,jC,jQ]);simp only[map_cons,List.cons_append,St.get];cases R:Nat.beq k s with|true=>grind [St.has]|false=>(have:St.has s ((k,A)::r)=St.has s r:=by simp_all [St.has]);grind
theorem xT3(C:Rel n χ0 w0 (u++S) a w G)(hu:∀e∈u,e.1≠BO):Rel n χ0 w0 (u.map (λe=>(e.1,cond e.2.hasOpt (.junk) e.2))++S) a w G:=by refine⟨C.len,C.defers,λs=>?_,C.frame,C.glob⟩;have:=C.reps s;rw[xT2 (f:=λA=>cond A.hasOpt (.junk) A) hu];grind [N6,zA,Le]
variable {id:Nat}
theorem yS3{ops:Array Oper}{K:Act->Prop}(hK:∀o∈ops.toList,∀a v,K a->K (a.put o.dst v))(hc:CtxOk P c)(hm:P.follows .mixedOrders){gh:List (Nat×Nat×Nat×Nat)}{draw:Bool}{p:List Prop}(h:yT3 c gh ops.toList draw S=some (p,u))(hp:∀q∈p,q)(C:Rel c.n χ0 w0 S a w G)(hk:K a){Q:Exit->Act->World->Prop}(hQ:∀I w' G',Rel c.n χ0 w0 (u++S) I w' G'->K I->Q .normal I w'):(Code.region id ops draw).wpIn (fz rd) 0 P Q a w:=by unfold yT3 at h;cases hS:S.any (λe=>e.2.hasOpt) with|true=>grind|false=>simp only[hS,jD] at h;(have J:∀e∈S,e.2.hasOpt=false:=by grind);split at h;grind;rename_i p0 u0 ts kf;obtain⟨hl,rfl,hF⟩:=xE9 kf;simp only[append_nil,jN] at hl h;(have hn:N9 ts:=by intro j e he;obtain⟨t,ht,_⟩:=yN5 he;(have R:j<ops.toList.length:=by grind);obtain⟨pi,hv,_,_,_,_,q5⟩:=hF j ops.toList[j] (jL R);have:=q5 e he;have:=hc.n;omega);(have htex:∀k,∀e∈tex ts k,e.1≠BO:=by intro k;induction k with|zero=>intro e he;cases he|succ k ih=>intro e he;rcases mem_append.1 he with he|he;exact hn k e he;grind);generalize hgo:(!draw||(LM 0 ops.toList&&(LN 0 [] (ahead ops.toList []) ts||LN (Jm c ops.toList S 0 ops.toList ts []) [] (ahead ops.toList []) ts)))=go at h;cases go with|false=>grind|true=>split at h;rename_i u' gI;generalize hlt:u'.all (λe=>blt e.1 c.n)=lt at h;(cases lt with|false=>grind|true=>obtain⟨rfl,rfl⟩:=h;(have fin:∀I w' G',Rel c.n χ0 w0 (tex ts ops.size++S) I w' G'->K I->Q .normal I w':=by intro I w' G' hR' gK;obtain⟨G'',hR''⟩:=yJ9 hc.n (xT3 hR' (htex _)) gI λe he=>Nat.blt_eq.mp (all_eq_true.1 hlt e he);grind);cases draw with|false=>refine wpIn_region ?_;have:=xS3 (rd:=rd) hK hc hF J hp fin ops.size 0 (by omega) a w G (by grind [tex]) hk;rwa [List.range_eq_range']|true=>simp at hgo;have hx:Ext (λ_=>False) (λ_=>False) G w G { w with drawn:=w.drawn+1 }:=⟨λ_ _ _ h=>⟨h,rfl⟩,λ_ _ _=>⟨rfl,λ_=>rfl⟩,jI _,λ_ _=>rfl,λ_ _=>rfl,λ_ h=>h⟩;have hR1:Rel c.n χ0 w0 S a { w with drawn:=w.drawn+1 } G:=⟨C.len,C.defers,λs=>dZ hx (λh=>h) _ (yG4 _ _) (C.reps s),⟨C.frame.os,C.frame.tape,C.frame.output,C.frame.size,C.frame.block,C.frame.cell⟩,Nv hx.prot C.glob⟩;obtain⟨hE,ho|ho⟩:=hgo;refine wpIn_region_any hm ?_;refine xA2 hK hc hF J hp (xV3 ho) hn hE fin ops.size _ [] a _ G (by simp) (λj=>?_) (λj R=>absurd R (Nat.not_lt_zero _)) (xM8 hn) ?_ (by grind [exe]) hk;simp;grind;grind;obtain⟨_,ui,mj⟩:=yW7 (c:=c) (S:=S) (all:=ops.toList) (r:=ops.toList) (ts:=ts) (i:=0) (U:=[]);generalize Jm c ops.toList S 0 ops.toList ts []=k at ho ui mj;(have ui:k<=ops.size:=by grind);refine wpIn_mono (Q:=λe a w=>e=.normal/\Q .normal a w) (wpIn_region_any hm ?_) (λe a w h=>by grind);have:=xN4 (rd:=rd) (Q:=λe a w=>e=.normal/\Q .normal a w) (k:=k) (fk:=ops.size-k) hK hc hF J hp hE (λe a w kj h=>kj h.1) ui (λj R=>?_) (λa w G C hk=>?_) k 0 (by omega) a _ G (by simpa[tex] using hR1) hk;rw[show ops.size-k+k=ops.size by omega] at this;exact this;obtain⟨o,q1,q2,q3⟩:=mj j (Nat.zero_le _) R;exact⟨o,by grind,by grind,by simpa using q3⟩;exact xA2 hK hc hF J hp (xV3 ho) hn hE (λI w' G' hR' gK=>⟨rfl,fin I w' G' hR' gK⟩) (ops.size-k) (HQ ops.size k) (JX k) a w G fM (λj=>(yD ui).trans downs_mem.symm) (λj R=>downs_mem.2 R) (xN3 hn hE ui) xT0 (by grind [xN2]) hk);grind
variable {gtab:GlobTab}{P:Program}{c:Ctx}{G:Gh}{w:World}{tm:Array Value}{n:Nat}{χ0:Nat->Nat->Nat}{w0:World}{S:St}{a:Act}
theorem fO{χ:Nat->Nat->Nat}:AN χ w (.sl t) ([]:List t.den) [.slice none 0 0]:=by grind [AN]
theorem WB{m:Bool}(h:(t.plain&&!t.isL)):BQ G w t [] T m (.slice none 0 0):=by simp at h;exact .inl ⟨h,.inl ⟨rfl,rfl⟩⟩
theorem yN6{t':Ty}{l':List t'.den}{l2:(Ty.sl t).den}(h:Ty.cast (a:=.sl t') (.sl t) l'=some l2):t'=t/\HEq l' l2:=by obtain⟨e,h⟩:=E5 h;injection e with e;subst e;simp_all
theorem yH1:∀{A B:AVal}{τ:Ty}{vs:List Value},(AX true A B).fitsT τ->AF G w τ A vs->AF G w τ (AX true A B) vs:=by intro A;induction A with|val τ' x=>intro B τ vs C h;(cases B with|val τ2 y=>grind [AX,AVal.fitsT]|nil=>cases τ'<;>simp[AX,AVal.fitsT] at C;grind [AX]|agg f b=>cases τ'<;>simp[AX,AVal.fitsT] at C;grind [AX,AVal.fitsT]|own t l T m=>grind [AX,Wj,AVal.fitsT]|_=>grind [AX,AVal.fitsT])|nil=>intro B τ vs C h;obtain⟨J,rfl⟩:=h;(cases B with|nil=>grind [AX,AF]|val τ2 y=>cases τ2<;>simp only[AX,AVal.fitsT,Bool.false_eq_true] at C;simp at C;have e:=Ty.eq_of_beq C.1;subst e;exact⟨rfl,rfl,fO⟩|own t l T m=>simp only[AX] at C ⊢;generalize R:(t.plain&&!t.isL)=b at C;(cases b with|false=>grind [AVal.fitsT]|true=>simp at C ⊢;have e:=Ty.eq_of_beq C;subst e;simp only[AF];exact⟨trivial,_,rfl,WB R⟩)|_=>grind [AX,AVal.fitsT])|own t l T m=>intro B τ vs C h;(cases B with|nil=>grind [AX,AVal.fitsT]|own t' l' T' m'=>grind [AX,Nat.beq,AVal.fitsT]|val τ2 y=>simp[AX,Wi] at C ⊢;(cases m with|true=>grind [AVal.fitsT]|false=>simp at C ⊢;split at C;obtain⟨rfl,v,rfl,ho⟩:=h;simp only[AF];exact⟨trivial,rfl,Gl ho⟩;grind [AVal.fitsT])|_=>grind [AX,AVal.fitsT])|agg f x ih=>intro B τ vs C h;(cases B with|agg f' b=>grind [AX,AVal.fitsT,AF]|val τ2 y=>cases τ2<;>simp[AX,AVal.fitsT] at C;simp only[AX] at C ⊢;split at C;rename_i x' I;have ki:=Nz I;simp[AVal.fitsT] at ki;have e:=Ty.eq_of_beq ki.1;injection e with e;subst e;obtain⟨rfl,h⟩:=h;simp only[AF];exact⟨trivial,rfl,JV (A:=.agg f x) I (by grind [AF])⟩;grind [AVal.fitsT]|_=>grind [AX,AVal.fitsT])|nl=>intro B τ vs C h;cases B<;>grind [AX,AVal.fitsT]|cons x y kP kK=>intro B τ vs C h;(cases B with|cons x' y'=>obtain⟨J,t1,us,ws,rfl,rfl,h2,h3⟩:=h;simp[AX,AVal.fitsT,GH] at C;exact⟨_,_,_,_,rfl,rfl,kP C.1 h2,kK C.2 h3⟩|_=>grind [AX,AVal.fitsT])|junk=>grind [AX,AVal.fitsT]|_=>grind [AF]
theorem yH2:∀{A B:AVal}{τ:Ty}{vs:List Value},(AX false A B).fitsT τ->AF G w τ B vs->AF G w τ (AX false A B) vs:=by intro A;induction A with|val τ' x=>intro B τ vs C h;(cases B with|val τ2 y=>grind [AX,E5,AVal.fitsT]|nil=>obtain⟨J,rfl⟩:=h;cases τ'<;>simp only[AX,AVal.fitsT,Bool.false_eq_true] at C;simp at C;have e:=Ty.eq_of_beq C.1;subst e;simp only[AX,AF];exact⟨trivial,rfl,fO⟩|agg f b=>cases τ'<;>simp[AX,AVal.fitsT] at C;simp[AX] at C ⊢;split at C;rename_i x' R;have ki:=Nz R;simp[AVal.fitsT] at ki;have e:=Ty.eq_of_beq ki.1;injection e with e;subst e;obtain⟨rfl,h⟩:=h;simp only[AF];exact⟨trivial,rfl,JV (A:=.agg f b) R (by grind [AF])⟩;grind [AVal.fitsT]|own t l T m=>simp[AX,Wj] at C ⊢;(cases m with|true=>grind [AVal.fitsT]|false=>simp at C ⊢;split at C;rename_i z I;obtain⟨e,I⟩:=E5 I;subst e;subst I;obtain⟨rfl,v,rfl,ho⟩:=h;simp only[AF];exact⟨trivial,rfl,Gl ho⟩;grind [AVal.fitsT])|_=>grind [AX,AVal.fitsT])|nil=>intro B τ vs C h;(cases B with|nil=>exact h|val τ2 y=>cases τ2<;>simp[AX,AVal.fitsT] at C;grind [AX]|own t l T m=>grind [AX,AVal.fitsT]|_=>grind [AX,AVal.fitsT])|own t l T m=>intro B τ vs C h;(cases B with|nil=>obtain⟨J,rfl⟩:=h;simp only[AX] at C ⊢;generalize hp:(t.plain&&!t.isL)=b at C;(cases b with|false=>grind [AVal.fitsT]|true=>simp at C ⊢;have e:=Ty.eq_of_beq C;subst e;simp only[AF];exact⟨trivial,_,rfl,WB hp⟩)|own t' l' T' m'=>simp only[AX] at C ⊢;generalize hb:(Nat.beq T T'&&(m==m'))=b at C;(cases b with|false=>grind [AVal.fitsT]|true=>simp at hb;grind [yN6,AVal.fitsT])|val τ2 y=>grind [AX,Wi,AVal.fitsT,E5]|_=>grind [AX,AVal.fitsT])|agg f x ih=>intro B τ vs C h;(cases B with|agg f' b=>simp only[AX] at C ⊢;generalize hb:(Ty.beq f f'&&AVal.fits f (AX false x b))=bb at C;(cases bb with|false=>grind [AVal.fitsT]|true=>simp at hb;have e:=Ty.eq_of_beq hb.1;subst e;exact⟨h.1,ih hb.2 h.2⟩)|val τ2 y=>cases τ2<;>simp[AX,AVal.fitsT] at C;grind [AX,AVal.fitsT]|_=>grind [AX,AVal.fitsT])|nl=>intro B τ vs C h;(cases B with|nl=>exact h|_=>simp[AX,AVal.fitsT] at C)|cons x y kP kK=>intro B τ vs C h;(cases B with|cons x' y'=>obtain⟨J,t1,us,ws,rfl,rfl,h2,h3⟩:=h;simp[AX,AVal.fitsT,GH] at C;exact⟨_,_,_,_,rfl,rfl,kP C.1 h2,kK C.2 h3⟩|_=>simp[AX,AVal.fitsT] at C)|_=>intro B τ vs C h;cases B<;>simp[AX,AVal.fitsT,AF] at C h
theorem yX:∀{A B:AVal}{os:Option Nat}{v:Value},zA G w tm os A v->zA G w tm os (AX true A B) v:=by intro A;induction A with|val τ' x=>intro B os v h;(cases B with|val τ2 y=>grind [AX,zA]|nil=>cases τ'<;>simp only[AX,jE,zA];exact h|agg f b=>cases τ'<;>simp only[AX,jE,zA];grind [zA]|own t l T m=>simp only[AX,Wj];(cases m with|true=>simp only[jE,zA]|false=>simp only[jD];grind [zA])|_=>grind [AX,zA])|nil=>intro B os v h;simp only[zA] at h;subst h;(cases B with|nil=>grind [AX,zA]|val τ2 y=>(cases τ2<;>simp only[AX,jE]<;>first|exact Lb fO|grind [zA])|own t l T m=>simp only[AX];generalize R:(t.plain&&!t.isL)=b;(cases b with|false=>simp only[jD,zA]|true=>simp only[jE,zA];exact WB R)|_=>grind [AX,zA])|own t l T m=>intro B os v h;(cases B with|nil=>simp only[AX];cases (t.plain&&!t.isL)<;>simp_all [jD,zA,jE]|own t' l' T' J=>simp only[AX];(cases (Nat.beq T T'&&(m==J)) with|false=>simp only[jD,zA]|true=>simp only[jE];grind [zA])|val τ2 y=>simp only[AX,Wi];(cases m with|true=>simp only[jE,zA]|false=>simp only[jD];grind [zA,Lb,Gl])|_=>simp only[AX,zA])|box τ x _=>intro B os v h;(cases B with|box τ' y=>simp only[AX];generalize hb:(Ty.beq τ τ'&&AVal.fits τ (AX true x y))=b;(cases b with|false=>simp only[jD,zA]|true=>simp only[jB] at hb;simp only[jE];cases os with|none=>grind [zA]|some s=>simp only[zA] at h ⊢;obtain⟨C,I,cur,e,h3,h4,h5⟩:=h;exact⟨C,I,cur,e,h3,yH1 hb.2 h4,h5⟩)|_=>simp only[AX,zA])|ref s τ p=>intro B os v h;(cases p with|nil=>(cases B with|ref s' τ' p'=>(cases p' with|nil=>simp only[AX];cases (Nat.beq s s'&&Ty.beq τ τ')<;>simp_all [jD,zA,jE]|cons _ _=>grind [AX,zA])|_=>simp only[AX,zA])|cons _ _=>grind [AX,zA])|nl=>intro B os v h;cases B<;>simp_all [AX,zA]|cons x y kP kK=>intro B os v h;(cases B with|cons x' y'=>obtain⟨u,us,rfl,C,I⟩:=h;simp only[AX,zA];exact⟨u,us,rfl,kP C,kK I⟩|_=>simp[AX,zA])|agg f x _=>intro B os v h;(cases B with|agg f' b=>simp only[AX];generalize hb:(Ty.beq f f'&&AVal.fits f (AX true x b))=bb;(cases bb with|false=>simp[zA]|true=>simp at hb;obtain⟨vs,C,I⟩:=h;exact⟨vs,C,yH1 hb.2 I⟩)|val τ2 y=>cases τ2<;>simp[AX,zA];split;rename_i x' hx;exact Ip hx rfl (S1 h (by grind) (by grind));grind [zA]|_=>simp[AX,zA])|tup x ih=>intro B os v h;cases B<;>simp_all [AX,zA]|ownh t l T i U m=>intro B os v h;(cases B with|ownh t' l' T' i' U' J=>simp only[AX];(cases (Nat.beq T T'&&Nat.beq U U'&&(m==J)) with|false=>simp[zA]|true=>grind [zA])|_=>simp only[AX,zA])|_=>intro B os v h;cases B<;>simp only[AX,zA]
theorem yX0:∀{A B:AVal}{os:Option Nat}{v:Value},zA G w tm os B v->zA G w tm os (AX false A B) v:=by intro A;induction A with|val τ' x=>intro B os v h;(cases B with|val τ2 y=>simp only[AX];split;rename_i z C;obtain⟨e,C⟩:=E5 C;subst e;subst C;exact h;simp only[zA]|nil=>simp only[zA] at h;subst h;(cases τ'<;>simp only[AX,jD]<;>first|exact Lb fO|simp only[zA])|agg f b=>cases τ'<;>simp only[AX,jD,zA];split;rename_i x' hx;simp only[zA];exact Ip hx rfl (S1 h (by intro _ _ e;cases e) (by intro e;cases e));simp only[zA]|own t l T m=>simp only[AX,Wj];(cases m with|true=>simp only[jE,zA]|false=>simp only[jD];split;rename_i z C;obtain⟨e,C⟩:=E5 C;subst e;subst C;simp only[zA] at h;exact Lb (Gl h);simp only[zA])|_=>cases τ'<;>simp only[AX,zA])|nil=>intro B os v h;(cases B with|nil=>exact h|val τ2 y=>cases τ2<;>simp only[AX,jD,zA];exact h|own t l T m=>simp only[AX];(cases (t.plain&&!t.isL) with|false=>simp only[jD,zA]|true=>exact h)|_=>simp only[AX,zA])|own t l T m=>intro B os v h;(cases B with|nil=>simp only[zA] at h;subst h;simp only[AX];generalize hp:(t.plain&&!t.isL)=b;(cases b with|false=>simp only[jD,zA]|true=>simp only[jE,jD,zA];exact WB hp)|own t' l' T' R=>simp only[AX];generalize hb:(Nat.beq T T'&&(m==R))=b;(cases b with|false=>simp only[jD,zA]|true=>simp only[jB,beq_iff_eq] at hb;have e:=jC hb.1;obtain⟨_,hb⟩:=hb;subst e;subst hb;simp only[jE];split;rename_i z C;obtain⟨e,C⟩:=yN6 C;subst e;have:=eq_of_heq C;subst this;exact h;simp only[zA])|val τ2 y=>simp only[AX,Wi];(cases m with|true=>simp only[jE,zA]|false=>simp only[jD];split;rename_i z C;obtain⟨e,C⟩:=E5 C;subst e;subst C;exact h;simp only[zA])|_=>simp only[AX,zA])|box τ x _=>intro B os v h;(cases B with|box τ' y=>simp only[AX];generalize hb:(Ty.beq τ τ'&&AVal.fits τ (AX false x y))=b;(cases b with|false=>simp only[jD,zA]|true=>simp only[jB] at hb;have e:=Ty.eq_of_beq hb.1;subst e;simp only[jE];cases os with|none=>simp only[zA] at h|some s=>simp only[zA] at h ⊢;obtain⟨I,J,cur,e,h3,h4,h5⟩:=h;exact⟨I,J,cur,e,h3,yH2 hb.2 h4,h5⟩)|_=>simp only[AX,zA])|ref s τ p=>intro B os v h;(cases p with|nil=>(cases B with|ref s' τ' p'=>(cases p' with|nil=>simp only[AX];generalize hb:(Nat.beq s s'&&Ty.beq τ τ')=b;(cases b with|false=>simp only[jD,zA]|true=>simp only[jB] at hb;have e:=jC hb.1;have e':=Ty.eq_of_beq hb.2;subst e;subst e';exact h)|cons _ _=>simp only[AX,zA])|_=>simp only[AX,zA])|cons _ _=>cases B<;>simp only[AX,zA])|nl=>intro B os v h;(cases B with|nl=>exact h|_=>simp only[AX,zA])|cons x y kP kK=>intro B os v h;(cases B with|cons x' y'=>simp only[zA] at h;obtain⟨u,us,rfl,I,J⟩:=h;simp only[AX,zA];exact⟨u,us,rfl,kP I,kK J⟩|_=>simp only[AX,zA])|agg f x _=>intro B os v h;(cases B with|agg f' b=>simp only[AX];generalize hb:(Ty.beq f f'&&AVal.fits f (AX false x b))=bb;(cases bb with|false=>simp only[jD,zA]|true=>simp only[jB] at hb;have e:=Ty.eq_of_beq hb.1;subst e;simp only[jE,zA] at h ⊢;obtain⟨vs,I,J⟩:=h;exact⟨vs,I,yH2 hb.2 J⟩)|val τ2 y=>cases τ2<;>simp only[AX,zA];split;exact h;simp only[zA]|_=>simp only[AX,zA])|tup x ih=>intro B os v h;(cases B with|tup b=>simp only[AX,zA] at h ⊢;exact ih h|_=>simp only[AX,zA])|ownh t l T i U m=>intro B os v h;(cases B with|ownh t' l' T' i' U' R=>simp only[AX];generalize hb:(Nat.beq T T'&&Nat.beq U U'&&(m==R))=b;(cases b with|false=>simp only[jD,zA]|true=>simp only[jB,beq_iff_eq] at hb;have e1:=jC hb.1.1;have e2:=jC hb.1.2;obtain⟨_,e3⟩:=hb;subst e1;subst e2;subst e3;simp only[jE];split;rename_i z C;obtain⟨e,C⟩:=E5 C;injection e with e;injection e with e;subst e;have C:l'=z:=C;subst C;exact h;simp only[zA])|_=>simp only[AX,zA])|_=>intro B os v h;cases B<;>simp only[AX,zA]
def St.hasCut (d:St):Bool:=d.any λe=>Nat.beq e.1 BO
variable {d2 d1:St}
theorem yK{g:Bool}:∀{ks:St}{R:St},(Sw g d1 d2 S ks++R).get s=.junk\/(Sw g d1 d2 S ks++R).get s=AX g ((d1++S).get s) ((d2++S).get s)\/(St.has s ks=false/\St.hasCut ks=false/\(Sw g d1 d2 S ks++R).get s=R.get s):=by intro ks;induction ks with|nil=>exact .inr (.inr ⟨rfl,rfl,rfl⟩)|cons e r C=>obtain⟨k,A⟩:=e;simp[Sw,St.get];cases I:Nat.beq k s with|true=>cases Nat.beq k BO<;>simp_all|false=>cases J:Nat.beq k BO<;>simp_all [St.has,St.hasCut]
theorem xA4(C:St.has s (JS d1++(JS d2++(JT d1++JT d2)))=false)(I:St.hasCut (JS d1++(JS d2++(JT d1++JT d2)))=false):(d1++S).get s=S.get s/\(d2++S).get s=S.get s:=by (have R:∀d:St,(∀e∈d,e∈d1\/e∈d2)->(∀e∈d,e.1≠BO)/\St.has s d=false:=by intro d J;(have key:∀e∈d,e.1≠BO/\Nat.beq e.1 s=false:=by intro e he;simp only[St.has,St.hasCut,any_eq_false,mem_append,JS,JT,List.mem_filter] at C I;(have ub:e.1≠BO:=by grind [Nat.beq,Nat.beq_refl]);(have hb:(!(Nat.beq e.1 BO)):=by grind);refine⟨ub,?_⟩;rcases J e he with h|h;exact Bool.eq_false_iff.2 (C e (.inl ⟨h,hb⟩));exact Bool.eq_false_iff.2 (C e (.inr (.inl ⟨h,hb⟩))));grind [St.has,any_eq_false]);grind [Le]
theorem fP(C:Rel n χ0 w0 (d1++S) a w G):Rel n χ0 w0 (HO true d1 d2 S++S) a w G:=by refine⟨C.len,C.defers,λs=>?_,C.frame,C.glob⟩;have h:=C.reps s;unfold HO;rcases yK (g:=true) (d1:=d1) (d2:=d2) (S:=S) (s:=s) (ks:=JS d1++(JS d2++(JT d1++JT d2))) (R:=S) with e|e|⟨e1,I,e⟩;grind [zA];grind [yX];rw[e,<-(xA4 e1 I).1];grind
theorem fQ(C:Rel n χ0 w0 (d2++S) a w G):Rel n χ0 w0 (HO false d1 d2 S++S) a w G:=by refine⟨C.len,C.defers,λs=>?_,C.frame,C.glob⟩;have h:=C.reps s;unfold HO;rcases yK (g:=false) (d1:=d1) (d2:=d2) (S:=S) (s:=s) (ks:=JS d1++(JS d2++(JT d1++JT d2))) (R:=S) with e|e|⟨e1,I,e⟩;grind [zA];grind [yX0];rw[e,<-(xA4 e1 I).2];grind
variable {gtab:GlobTab}{P:Program}{c:Ctx}{G:Gh}{w:World}{tm:Array Value}{n:Nat}{χ0:Nat->Nat->Nat}{w0:World}{S:St}{a:Act}
theorem AllP_iff:∀{l:List Prop},JU l↔∀q∈l,q:=by intro l;induction l with|nil=>exact⟨λ_ q C=>(by grind),λ_=>trivial⟩|cons p r J=>cases r with|nil=>refine⟨λh q C=>?_,λh=>h p (jQ ..)⟩;rcases mem_cons.1 C with rfl|C;exact h;grind|cons q r=>constructor;intro h I C;rcases mem_cons.1 C with rfl|C;exact h.1;exact J.1 h.2 I C;intro h;exact⟨h p (jQ ..),J.2 λI C=>h I (jP _ C)⟩
theorem yX1{b:Prop}{l:List Prop}(h:∀q∈Wl b l,q)(hb:b):∀q∈l,q:=by cases l with|nil=>grind|cons p r=>have:=h (b->JU (p::r)) (by simp[Wl]);grind [AllP_iff]
def EP:Exit->Option Nat
 |.normal=>some 0
 |.ret=>some 1
 |.exit id=>some (id+2)
 |_=>none
def tk (g:Option Bool):Bool:=g.getD true
def ER [GlobTab] (n:Nat)(χ0:Nat->Nat->Nat)(w0:World)(S:St)(l:List Comp)(e:Exit)(a:Act)(w:World):Prop:=
 ∃k cp G,EP e=some k/\B5 k l=some cp/\tk cp.g/\(∀k' c',B5 k' l=some c'->tk c'.g->k'=k)/\Rel n χ0 w0 (cp.d++S) a w G
theorem yA5:∀{l l':List Comp},B5 k (l++l')=match B5 k l with |some x=>some x|none=>B5 k l':=by intro l;induction l with|nil=>intro l';rfl|cons x r C=>intro l';simp[B5];cases Nat.beq x.kind k with|true=>rfl|false=>exact C
variable {x:Comp}
theorem WC:∀{l:List Comp},B5 k l=some x->x.kind=k:=by intro l;induction l with|nil=>intro h;cases h|cons y r C=>intro h;simp only[B5] at h;cases hb:Nat.beq y.kind k<;>simp_all
theorem zR6{q:Nat->Bool}:∀{l:List Comp},B5 k (l.filter λx=>q x.kind)=cond (q k) (B5 k l) none:=by intro l;induction l with|nil=>cases q k<;>rfl|cons x r C=>simp only[List.filter_cons];cases I:q x.kind with|true=>simp[B5];cases hb:Nat.beq x.kind k<;>simp_all|false=>simp[B5];cases hb:Nat.beq x.kind k<;>simp_all
theorem Pm{l:List Comp}:B5 k (Ey T l)=cond (Nat.beq k T) none (B5 k l):=by unfold Ey;rw[zR6 (q:=λx=>!(Nat.beq x T))];grind
theorem fR{f:Comp->Comp}(C:∀x,(f x).kind=x.kind):∀{l:List Comp},B5 k (l.map f)=(B5 k l).map f:=by intro l;induction l with|nil=>rfl|cons x r I=>simp[B5,C];cases Nat.beq x.kind k with|true=>rfl|false=>exact I
def fS (t:Bool)(S:St):Option Comp->Option Comp->St
 |some a,some b=>HO t a.d b.d S
 |some a,none=>a.d
 |none,some b=>b.d
 |none,none=>[]
def WD (t:Bool)(S:St)(la lb:List Comp)(x:Comp):Comp:=⟨x.kind,Hg t (B5 x.kind la) (B5 x.kind lb),fS t S (B5 x.kind la) (B5 x.kind lb)⟩
variable {lb la:List Comp}
theorem xN8{t:Bool}:∀{l:List Comp},Wk t S la lb l=l.map (WD t S la lb):=by intro l;induction l with|nil=>rfl|cons x r C=>simp[Wk,C,WD];cases B5 x.kind la<;>cases B5 x.kind lb<;>rfl
theorem fT{t:Bool}:B5 k (Wk t S la lb (la++lb.filter λx=>(B5 x.kind la).isNone))=match B5 k la,B5 k lb with |none,none=>none|xa,xb=>some ⟨k,Hg t xa xb,fS t S xa xb⟩:=by rw[xN8,fR (f:=WD t S la lb) (λ_=>rfl),yA5,zR6 (q:=λx=>(B5 x la).isNone)];cases C:B5 k la with|some x=>grind [WD,WC]|none=>cases hb:B5 k lb<;>grind [WD,WC]
variable {y:Option Bool}
theorem NA{x:Option Bool}:tk (Fy x y)=(tk x&&tk y):=by cases x<;>cases y<;>simp[Fy,tk]
theorem NB{x:Option Bool}:tk (gor x y)=(tk x||tk y):=by cases x<;>cases y<;>simp[gor,tk]
theorem xT5{g:Option Bool}(h:tk g=false):g=some false:=by cases g<;>grind [tk]
variable {e:Exit}{ob oa:Out}
theorem xF5(h:ER n χ0 w0 S oa.comps e a w):ER n χ0 w0 S (Sx true S oa ob).comps e a w:=by obtain⟨k,cp,G,h1,h2,h3,h4,R⟩:=h;simp only[Sx];refine⟨k,⟨k,Hg true (some cp) (B5 k ob.comps),fS true S (some cp) (B5 k ob.comps)⟩,G,h1,?_,?_,?_,?_⟩;rw[fT,h2];(cases hb:B5 k ob.comps with|none=>cases I:cp.g<;>simp_all [Hg,Fy,tk]|some b=>grind [Hg,tk]);intro J c' C ht;rw[fT] at C;(cases ha:B5 J oa.comps with|none=>(cases hb:B5 J ob.comps with|none=>grind|some b=>simp[ha,hb] at C;subst C;cases I:b.g<;>simp[Hg,Fy,tk,I] at ht)|some x=>cases hb:B5 J ob.comps with|none=>simp[ha] at C;subst C;cases I:x.g<;>simp_all [Hg,Fy,tk]|some b=>grind [jA,Hg,tk]);cases B5 k ob.comps with|none=>exact R|some b=>exact fP R
theorem xF6(h:ER n χ0 w0 S ob.comps e a w):ER n χ0 w0 S (Sx false S oa ob).comps e a w:=by obtain⟨k,cp,G,h1,h2,h3,h4,R⟩:=h;simp only[Sx];refine⟨k,⟨k,Hg false (B5 k oa.comps) (some cp),fS false S (B5 k oa.comps) (some cp)⟩,G,h1,?_,?_,?_,?_⟩;grind [fT];(cases hb:B5 k oa.comps with|none=>cases I:cp.g<;>simp_all [Hg,Fy,tk]|some b=>grind [Hg,tk]);intro J c' C ht;rw[fT] at C;(cases hb:B5 J ob.comps with|none=>(cases ha:B5 J oa.comps with|none=>grind|some b=>simp[ha,hb] at C;subst C;cases I:b.g<;>simp[Hg,Fy,tk,I] at ht)|some x=>cases ha:B5 J oa.comps with|none=>simp[hb] at C;subst C;cases I:x.g<;>simp_all [Hg,Fy,tk]|some b=>grind [jA,Hg,tk]);cases B5 k oa.comps with|none=>exact R|some b=>exact fQ R
def fU (m:Comp)(S:St)(la:List Comp)(x:Comp):Comp:=
 ⟨x.kind,(match B5 x.kind la with|some a=>gor a.g (Fy m.g x.g)|none=>Fy m.g x.g),(match B5 x.kind la with|some a=>HO (tk a.g) a.d (x.d++m.d) S | none=>x.d++m.d)⟩
theorem xT6{m:Comp}:∀{l:List Comp},Sy m S la l=l.map (fU m S la):=by intro l;induction l with|nil=>rfl|cons x r C=>simp[Sy,C,fU];cases B5 x.kind la<;>rfl
theorem Pn{m:Comp}:B5 k (Sy m S la lb++la.filter λx=>(B5 x.kind lb).isNone)=match B5 k la,B5 k lb with |none,none=>none|some a,none=>some a|none,some x=>some ⟨k,Fy m.g x.g,x.d++m.d⟩|some a,some x=>some ⟨k,gor a.g (Fy m.g x.g),HO (tk a.g) a.d (x.d++m.d) S⟩:=by rw[yA5,xT6,fR (f:=fU m S la) (λ_=>rfl),zR6 (q:=λx=>(B5 x lb).isNone)];grind [fU,WC]
theorem xN9{m:Comp}(hm:B5 0 oa.comps=some m)(h:ER n χ0 w0 S oa.comps e a w)(he:EP e≠some 0):ER n χ0 w0 S (Sz m S oa ob).comps e a w:=by obtain⟨k,cp,G,R,h2,h3,h4,h5⟩:=h;(have tq:Nat.beq k 0=false:=by cases k with|zero=>grind|succ k=>rfl);(have nh:tk m.g=false:=by grind);(have h2':B5 k (Ey 0 oa.comps)=some cp:=by grind [Pm]);simp only[Sz];cases hb:B5 k ob.comps with|none=>refine⟨k,cp,G,R,by grind [Pn],h3,?_,h5⟩;intro I c' C ht;rw[Pn,Pm] at C;(cases gK:Nat.beq I 0 with|true=>grind [jA,NA]|false=>grind [jA,NA,NB])|some x0=>refine⟨k,{ kind:=k,g:=gor cp.g (Fy m.g x0.g),d:=HO (tk cp.g) cp.d (x0.d++m.d) S },G,R,by grind [Pn],?_,?_,?_⟩;simp[NB,h3];intro I c' C ht;rw[Pn,Pm] at C;(cases gK:Nat.beq I 0 with|true=>simp[gK] at C;(cases kE:B5 I ob.comps with|none=>simp[kE] at C|some x=>simp[kE] at C;subst C;simp[NA,nh] at ht)|false=>simp[gK] at C;cases J:B5 I oa.comps with|none=>(cases kE:B5 I ob.comps with|none=>simp[J,kE] at C|some x=>simp[J,kE] at C;subst C;simp[NA,nh] at ht)|some y=>refine h4 I y J ?_;cases kE:B5 I ob.comps with|none=>simp[J,kE] at C;subst C;exact ht|some x=>simp[J,kE] at C;subst C;simpa[NA,NB,nh] using ht);grind [fP]
theorem xO{m:Comp}(hmt:tk m.g)(hu:∀C I,B5 C oa.comps=some I->tk I.g->C=0)(h:ER n χ0 w0 (m.d++S) ob.comps e a w):ER n χ0 w0 S (Sz m S oa ob).comps e a w:=by obtain⟨k,cp,G,h1,h2,h3,h4,J⟩:=h;rw[<-append_assoc] at J;(have kH:∀C y,B5 C (Ey 0 oa.comps)=some y->y.g=some false:=by grind [Pm,Nat.beq,xT5,tk]);(have uo:∀C I,B5 C (Sy m S (Ey 0 oa.comps) ob.comps++(Ey 0 oa.comps).filter λx=>(B5 x.kind ob.comps).isNone)=some I->tk I.g->C=k:=by grind [Pn,B5,Ey,NA,tk,NB]);simp only[Sz];cases ha:B5 k (Ey 0 oa.comps) with|none=>refine⟨k,{ kind:=k,g:=Fy m.g cp.g,d:=cp.d++m.d },G,h1,by grind [Pn],?_,uo,J⟩;grind [NA]|some y=>have R:=kH k y ha;refine⟨k,{ kind:=k,g:=gor y.g (Fy m.g cp.g),d:=HO (tk y.g) y.d (cp.d++m.d) S },G,h1,by grind [Pn],?_,uo,?_⟩;grind [NB,NA];simp[R];exact fQ J
theorem xF7(h:ER n χ0 w0 S oa.comps e a w):Exit.inBlock id (ER n χ0 w0 S (dW id S oa).comps) e a w:=by obtain⟨k,cp,G,h1,J,h3,h4,h5⟩:=h;unfold dW;cases hE:B5 (id+2) oa.comps with|none=>have hP:ER n χ0 w0 S oa.comps e a w:=⟨k,cp,G,h1,J,h3,h4,h5⟩;(have kj:e≠.exit id:=by rintro rfl;simp only[EP,jA] at h1;rw[<-h1,hE] at J;cases J);(cases e with|exit id'=>simp only[Exit.inBlock];rw[if_neg (λe=>kj (by rw[e]))];exact hP|_=>exact hP)|some ex=>have b20:Nat.beq (id+2) 0=false:=rfl;cases h0:B5 0 oa.comps with|none=>simp only;(have ku:∀C,B5 C ({ ex with kind:=0 }::Ey (id+2) oa.comps)=cond (Nat.beq 0 C) (some { ex with kind:=0 }) (cond (Nat.beq C (id+2)) none (B5 C oa.comps)):=by intro C;simp only[B5,Pm]);by_cases R:k=id+2;subst R;rw[hE] at J;injection J with J;subst J;(have hP:ER n χ0 w0 S ({ ex with kind:=0 }::Ey (id+2) oa.comps) .normal a w:=by refine⟨0,{ ex with kind:=0 },G,rfl,by simp[ku],h3,λC c' I ht=>?_,h5⟩;rw[ku] at I;cases hb:Nat.beq 0 C with|true=>exact (jC hb).symm|false=>simp only[hb,jD] at I;cases gB:Nat.beq C (id+2) with|true=>simp[gB] at I|false=>simp only[gB,jD] at I;have:=h4 C c' I ht;subst this;simp at gB);(cases e with|exit id'=>simp only[EP,jA] at h1;simp only[Exit.inBlock];rw[if_pos (by omega)];exact hP|normal=>simp[EP] at h1|ret=>simp only[EP,jA] at h1;omega|_=>simp[EP] at h1);(have tq:k≠0:=by intro e0;subst e0;rw[h0] at J;cases J);(have hxf:tk ex.g=false:=by cases hx:tk ex.g with|false=>rfl|true=>exact absurd (h4 _ _ hE hx).symm R);(have hP:ER n χ0 w0 S ({ ex with kind:=0 }::Ey (id+2) oa.comps) e a w:=by refine⟨k,cp,G,h1,?_,h3,λC c' I ht=>?_,h5⟩;rw[ku];(have b1:Nat.beq 0 k=false:=by cases hb:Nat.beq 0 k with|false=>rfl|true=>exact absurd (jC hb).symm tq);(have b2:Nat.beq k (id+2)=false:=by cases hb:Nat.beq k (id+2) with|false=>rfl|true=>exact absurd (jC hb) R);rw[b1,b2];exact J;rw[ku] at I;cases hb:Nat.beq 0 C with|true=>simp only[hb,jE,jA] at I;subst I;simp only at ht;rw[hxf] at ht;cases ht|false=>simp only[hb,jD] at I;cases gB:Nat.beq C (id+2) with|true=>simp[gB] at I|false=>simp only[gB,jD] at I;exact h4 C c' I ht);(cases e with|exit id'=>simp only[EP,jA] at h1;simp only[Exit.inBlock];rw[if_neg (by omega)];exact hP|_=>exact hP)|some m=>simp only;generalize hN:({ kind:=0,g:=gor ex.g m.g,d:=HO (ex.g.getD true) ex.d m.d S }:Comp)=N;(have ku:∀C,B5 C (N::Ey 0 (Ey (id+2) oa.comps))=cond (Nat.beq 0 C) (some N) (cond (Nat.beq C 0) none (cond (Nat.beq C (id+2)) none (B5 C oa.comps))):=by intro C;simp only[B5,Pm,<-hN]);by_cases R:k=id+2\/k=0;(have hP:ER n χ0 w0 S (N::Ey 0 (Ey (id+2) oa.comps)) .normal a w:=by (have uo:∀C c',B5 C (N::Ey 0 (Ey (id+2) oa.comps))=some c'->tk c'.g->C=0:=by intro C c' I ht;rw[ku] at I;cases hb:Nat.beq 0 C with|true=>exact (jC hb).symm|false=>simp only[hb,jD] at I;cases qg:Nat.beq C 0 with|true=>simp[qg] at I|false=>cases gB:Nat.beq C (id+2) with|true=>simp[qg,gB] at I|false=>simp only[qg,gB,jD] at I;have:=h4 C c' I ht;rcases R with R|R;rw[R] at this;subst this;simp at gB;rw[R] at this;exact this);rcases R with R|R;subst R;rw[hE] at J;injection J with J;subst J;refine⟨0,N,G,rfl,by simp[ku],?_,uo,?_⟩;rw[<-hN];simp only[NB,h3,Bool.true_or];rw[<-hN];have:ex.g.getD true:=h3;simp only[this];exact fP h5;subst R;rw[h0] at J;injection J with J;subst J;(have hxf:tk ex.g=false:=by cases hx:tk ex.g with|false=>rfl|true=>have:=h4 _ _ hE hx;omega);refine⟨0,N,G,rfl,by simp[ku],?_,uo,?_⟩;rw[<-hN];simp only[NB,h3,Bool.or_true];rw[<-hN];have:ex.g.getD true=false:=hxf;simp only[this];exact fQ h5);(cases e with|exit id'=>simp only[EP,jA] at h1;simp only[Exit.inBlock];rw[if_pos (by omega)];exact hP|normal=>exact hP|ret=>simp only[EP,jA] at h1;omega|_=>simp[EP] at h1);have hk2:k≠id+2:=λe=>R (.inl e);have tq:k≠0:=λe=>R (.inr e);(have hxf:tk ex.g=false:=by cases hx:tk ex.g with|false=>rfl|true=>exact absurd (h4 _ _ hE hx).symm hk2);(have nh:tk m.g=false:=by cases hx:tk m.g with|false=>rfl|true=>exact absurd (h4 _ _ h0 hx).symm tq);(have hP:ER n χ0 w0 S (N::Ey 0 (Ey (id+2) oa.comps)) e a w:=by refine⟨k,cp,G,h1,?_,h3,λC c' I ht=>?_,h5⟩;rw[ku];(have b1:Nat.beq 0 k=false:=by cases hb:Nat.beq 0 k with|false=>rfl|true=>exact absurd (jC hb).symm tq);(have b3:Nat.beq k 0=false:=by cases hb:Nat.beq k 0 with|false=>rfl|true=>exact absurd (jC hb) tq);(have b2:Nat.beq k (id+2)=false:=by cases hb:Nat.beq k (id+2) with|false=>rfl|true=>exact absurd (jC hb) hk2);rw[b1,b2,b3];exact J;rw[ku] at I;cases hb:Nat.beq 0 C with|true=>simp only[hb,jE,jA] at I;subst I;rw[<-hN] at ht;simp[NB,hxf,nh] at ht|false=>simp only[hb,jD] at I;cases qg:Nat.beq C 0 with|true=>simp[qg] at I|false=>cases gB:Nat.beq C (id+2) with|true=>simp[qg,gB] at I|false=>simp only[qg,gB,jD] at I;exact h4 C c' I ht);cases e with|exit id'=>simp only[EP,jA] at h1;simp only[Exit.inBlock];rw[if_neg (by omega)];exact hP|_=>exact hP
inductive Sh where
 |val (τ:Ty)|own (t:Ty) (T:Nat) (m:Bool)|nl|cons (a b:Sh)|agg (f:Ty) (s:Sh)|box (τ:Ty) (s:Sh)|ref (s:Nat) (τ:Ty)|tup (s:Sh)|fn (f:Nat) (s:Sh)|any|nil|nn (b:Bool)|fptr (f:Nat) (caps:List (Option (Nat×Ty)))|ownh (t:Ty) (T U:Nat) (m:Bool)
@[reducible] def Sh.den:Sh->Type
 |.val τ=>τ.den|.own t _ _=>List t.den|.nl=>Unit|.cons a b=>a.den×b.den|.agg _ s=>s.den|.box _ s=>s.den|.ref _ _=>Unit|.tup s=>s.den|.fn _ s=>s.den|.any=>Unit|.nil=>Unit|.nn _=>Unit|.fptr _ _=>Unit|.ownh t _ _ _=>List (List t.den)×Nat
def Sh.mk:(s:Sh)->s.den->AVal
 |.val τ,x=>.val τ x
 |.own t T m,l=>.own t l T m
 |.nl,_=>.nl
 |.cons a b,x=>.cons (a.mk x.1) (b.mk x.2)
 |.agg f s,x=>.agg f (s.mk x)
 |.box τ s,x=>.box τ (s.mk x)
 |.ref s τ,_=>.ref s τ []
 |.tup s,x=>.tup (s.mk x)
 |.fn f s,x=>.fn f (s.mk x)
 |.any,_=>.junk
 |.nil,_=>.nil
 |.nn b,_=>.nn b
 |.fptr f caps,_=>.fptr f caps
 |.ownh t T U m,x=>.ownh t x.1 T x.2 U m
def NC (t:Ty)(T:Nat)(m:Bool):AVal->Option (List t.den)
 |.nil=>cond (t.plain&&!t.isL) (some []) none
 |.own t' l T' m'=>cond (Nat.beq T T'&&(m==m')) (Ty.cast (a:=.sl t') (.sl t) l) none
 |_=>none
def SF (t:Ty)(T U:Nat)(m:Bool):AVal->Option (List (List t.den)×Nat)
 |.ownh t' l T' i U' m'=>cond (Nat.beq T T'&&Nat.beq U U'&&(m==m')) (match Ty.cast (a:=.sl (.sl t')) (.sl (.sl t)) l with|some l2=>some (l2,i)|none=>none) none
 |.own t' l T' true=>cond (Nat.beq T T'&&!(Nat.beq T U)&&t.plain&&!t.isL) (match Ty.cast (a:=.sl t') (.sl (.sl t)) l with|some l2=>some (l2,length (α:=List t.den) l2)|none=>none) none
 |_=>none
def fV:AVal->Bool
 |.nil=>true|_=>false
def fX (b:Bool):AVal->Bool
 |.nn b'=>b==b' | _=>false
def yI:List (Option (Nat×Ty))->List (Option (Nat×Ty))->Bool
 |[],[]=>true
 |none::r,none::r'=>yI r r'
 |some (k,τ)::r,some (k',τ')::r'=>Nat.beq k k'&&Ty.beq τ τ'&&yI r r'
 |_,_=>false
def fY (f:Nat)(caps:List (Option (Nat×Ty))):AVal->Bool
 |.fptr f' caps'=>Nat.beq f f'&&yI caps caps'
 |_=>false
def fZ:AVal->Bool
 |.nl=>true|_=>false
def SG (s:Nat)(τ:Ty):AVal->Bool
 |.ref s' τ' []=>Nat.beq s s'&&Ty.beq τ τ'
 |_=>false
def jU (f:Nat):AVal->Option AVal
 |.fn f' c=>cond (Nat.beq f f') (some c) none
 |_=>none
def SH (f:Ty):AVal->Option AVal
 |.agg f' c=>cond (Ty.beq f f') (some c) none
 |_=>none
def WE (τ:Ty):AVal->Option AVal
 |.box τ' c=>cond (Ty.beq τ τ') (some c) none
 |_=>none
def jV:AVal->Option AVal
 |.tup c=>some c
 |_=>none
def SI:AVal->Option (AVal×AVal)
 |.cons a b=>some (a,b)
 |_=>none
def Sh.parse:(s:Sh)->AVal->Option s.den
 |.val τ,A=>cond τ.isL none (AVal.as τ A)
 |.own t T m,A=>NC t T m A
 |.nl,A=>cond (fZ A) (some ()) none
 |.cons a b,A=>match SI A with
  |some (x,y)=>(match a.parse x,b.parse y with|some p,some q=>some (p,q)|_,_=>none)
  |none=>none
 |.agg f s,A=>match SH f A with
  |some c=>(match s.parse c with|some x=>cond ((s.mk x).fitsT f) (some x) none|none=>none)
  |none=>none
 |.box τ s,A=>match WE τ A with
  |some c=>(match s.parse c with|some x=>cond ((s.mk x).fitsT τ) (some x) none|none=>none)
  |none=>none
 |.ref s τ,A=>cond (SG s τ A) (some ()) none
 |.tup s,A=>match jV A with
  |some c=>s.parse c
  |none=>none
 |.fn f s,A=>match jU f A with
  |some c=>s.parse c
  |none=>none
 |.any,_=>some ()
 |.nil,A=>cond (fV A) (some ()) none
 |.nn b,A=>cond (fX b A) (some ()) none
 |.fptr f caps,A=>cond (fY f caps A) (some ()) none
 |.ownh t T U m,A=>SF t T U m A
variable {gtab:GlobTab}{P:Program}{c:Ctx}{G:Gh}{w:World}{tm:Array Value}{n:Nat}{χ0:Nat->Nat->Nat}{w0:World}{S:St}{a:Act}
theorem xU:∀{l l':List (Option (Nat×Ty))},yI l l'->l=l':=by intro l;induction l with|nil=>grind [yI]|cons q r J=>intro l' h;cases q with|none=>(cases l' with|nil=>grind [yI]|cons C I=>cases C<;>grind [yI])|some q=>cases l' with|nil=>grind [yI]|cons C I=>cases C<;>grind [yI,jC,Ty.eq_of_beq]
variable {A:AVal}
theorem yH3{m:Bool}{l:List t.den}{os:Option Nat}(h:NC t T m A=some l)(I:zA G w tm os A v):BQ G w t l T m v:=by cases A with|nil=>grind [NC,zA,WB]|own t' l' T' C=>simp only[NC] at h;generalize hb:(Nat.beq T T'&&(m==C))=b at h;(cases b with|false=>grind|true=>simp at hb;grind [yN6,zA])|_=>grind [NC]
theorem yK3:∀{s:Sh}{A:AVal}{x:s.den}{τ:Ty}{vs:List Value},s.parse A=some x->(s.mk x).fitsT τ->AF G w τ A vs->AF G w τ (s.mk x) vs:=by intro s;induction s with|val τ'=>intro A x τ vs h C I;simp only[Sh.parse] at h;(cases hl:τ'.isL with|true=>grind|false=>simp[hl] at h;simp[Sh.mk,AVal.fitsT] at C;have e:=Ty.eq_of_beq C.1;subst e;simp only[Sh.mk,AF];exact⟨trivial,hl,JV h I⟩)|own t T m=>intro A x τ vs h C I;simp only[Sh.parse] at h;have e:=Ty.eq_of_beq C;subst e;simp only[Sh.mk,AF];refine⟨trivial,?_⟩;(cases A with|nil=>exact⟨_,I.2,yH3 (tm:=#[]) (os:=none) h (by grind [zA])⟩|own t' l' T' m'=>obtain⟨_,v,h1,h2⟩:=I;exact⟨v,h1,yH3 (tm:=#[]) (os:=none) h (by grind [zA])⟩|_=>grind [NC])|nl=>intro A x τ vs h C I;(cases A with|nl=>exact I|_=>grind [Sh.parse,fZ])|cons p q J R=>intro A x τ vs h C I;(cases A with|cons a b=>simp[Sh.parse,SI] at h;split at h;rename_i y z hy hz;injection h with h;subst h;obtain⟨h1,t1,us,ws,rfl,rfl,h2,h3⟩:=I;simp[Sh.mk,AVal.fitsT,GH] at C;exact⟨_,_,_,_,rfl,rfl,J hy C.1 h2,R hz C.2 h3⟩;grind|_=>grind [Sh.parse,SI])|agg f s ih=>intro A x τ vs h C I;(cases A with|agg f' b=>simp[Sh.parse,SH] at h;(cases hb:Ty.beq f f' with|false=>grind|true=>simp[hb] at h;have e:=Ty.eq_of_beq hb;split at h;rename_i y hy;generalize ki:(s.mk y).fitsT f=bb at h;(cases bb with|false=>grind|true=>grind [AF,Sh.mk]);grind)|_=>grind [Sh.parse,SH])|nil=>intro A x τ vs h C I;(cases A with|nil=>exact I|_=>grind [Sh.parse,fV])|_=>grind [Sh.mk,AVal.fitsT]
theorem F4:∀{s:Sh}{A:AVal}{x:s.den}{os:Option Nat}{v:Value},s.parse A=some x->zA G w tm os A v->zA G w tm os (s.mk x) v:=by intro s;induction s with|val τ'=>intro A x os v h C;simp only[Sh.parse] at h;(cases I:τ'.isL with|true=>simp[I] at h|false=>simp only[I,jD] at h;simp only[Sh.mk,zA];refine Ip h I (S1 C ?_ ?_);intro τ c e;subst e;simp[AVal.as,AVal.asT] at h;intro e;subst e;simp[AVal.as,AVal.asT] at h)|own t T m=>intro A x os v h C;simp only[Sh.parse] at h;simp only[Sh.mk,zA];exact yH3 h C|nl=>intro A x os v h C;(cases A with|nl=>exact C|_=>simp[Sh.parse,fZ] at h)|cons p q ihp ihq=>intro A x os v h C;(cases A with|cons a b=>simp only[Sh.parse,SI] at h;split at h;rename_i y z hy hz;injection h with h;subst h;simp only[zA] at C;obtain⟨u,us,rfl,J,h3⟩:=C;simp only[Sh.mk,zA];exact⟨u,us,rfl,ihp hy J,ihq hz h3⟩;cases h|_=>simp[Sh.parse,SI] at h)|agg f s ih=>intro A x os v h C;(cases A with|agg R b=>simp only[Sh.parse,SH] at h;(cases hb:Ty.beq f R with|false=>simp[hb] at h|true=>simp only[hb,jE] at h;have e:=Ty.eq_of_beq hb;subst e;split at h;rename_i y hy;generalize ki:(s.mk y).fitsT f=bb at h;(cases bb with|false=>cases h|true=>simp only[jE,jA] at h;subst h;simp only[zA] at C;obtain⟨vs,h1,J⟩:=C;simp only[Sh.mk,zA];exact⟨vs,h1,yK3 hy ki J⟩);cases h)|_=>simp[Sh.parse,SH] at h)|box f s ih=>intro A x os v h C;(cases A with|box R b=>simp only[Sh.parse,WE] at h;(cases hb:Ty.beq f R with|false=>simp[hb] at h|true=>simp only[hb,jE] at h;have e:=Ty.eq_of_beq hb;subst e;split at h;rename_i y hy;generalize ki:(s.mk y).fitsT f=bb at h;(cases bb with|false=>cases h|true=>simp only[jE,jA] at h;subst h;cases os with|none=>simp only[zA] at C|some s=>simp only[zA] at C;obtain⟨h1,J,cur,e,h3,h4,h5⟩:=C;simp only[Sh.mk,zA];exact⟨h1,J,cur,e,h3,yK3 hy ki h4,h5⟩);cases h)|_=>simp[Sh.parse,WE] at h)|ref s τ=>intro A x os v h C;simp only[Sh.parse] at h;generalize hr:SG s τ A=b at h;(cases b with|false=>cases h|true=>cases A with|ref s' τ' p=>(cases p with|nil=>simp only[SG,jB] at hr;have e1:=jC hr.1;have e2:=Ty.eq_of_beq hr.2;subst e1;subst e2;exact C|cons _ _=>simp[SG] at hr)|_=>simp[SG] at hr)|tup s ih=>intro A x os v h C;(cases A with|tup b=>simp only[Sh.parse,jV] at h;simp only[Sh.mk,zA] at C ⊢;exact ih h C|_=>simp[Sh.parse,jV] at h)|fn f s ih=>intro A x os v h C;(cases A with|fn R cs=>simp only[Sh.parse,jU] at h;(cases hb:Nat.beq f R with|false=>simp[hb] at h|true=>simp only[hb,jE] at h;have e:=jC hb;subst e;simp only[Sh.mk,zA] at C ⊢;obtain⟨vs,h1,J⟩:=C;exact⟨vs,h1,ih h J⟩)|_=>simp[Sh.parse,jU] at h)|any=>intro A x os v _ _;simp only[Sh.mk,zA]|nil=>intro A x os v h C;(cases A with|nil=>exact C|_=>simp[Sh.parse,fV] at h)|nn b=>intro A x os v h C;(cases A with|nn b'=>simp only[Sh.parse,fX] at h;(cases hb:(b==b') with|false=>simp[hb] at h|true=>have:=beq_iff_eq.1 hb;subst this;exact C)|_=>simp[Sh.parse,fX] at h)|ownh t T U m=>intro A x os v h C;(cases A with|ownh t' l' T' i' U' m'=>simp only[Sh.parse,SF] at h;generalize hb:(Nat.beq T T'&&Nat.beq U U'&&(m==m'))=b at h;(cases b with|false=>cases h|true=>simp only[jE] at h;simp only[jB,beq_iff_eq] at hb;have e1:=jC hb.1.1;have e2:=jC hb.1.2;have e3:=hb.2;subst e1 e2 e3;split at h;rename_i l2 I;injection h with h;subst h;obtain⟨e,I⟩:=E5 I;injection e with e;injection e with e;subst e;have I:l'=l2:=I;subst I;exact C;cases h)|own t' l' T' m'=>(cases m' with|false=>simp[Sh.parse,SF] at h|true=>simp only[Sh.parse,SF] at h;generalize hb:(Nat.beq T T'&&!(Nat.beq T U)&&t.plain&&!t.isL)=b at h;cases b with|false=>cases h|true=>simp only[jE] at h;simp only[jB,jK] at hb;have e1:=jC hb.1.1.1;subst e1;split at h;rename_i l2 I;injection h with h;subst h;obtain⟨e,I⟩:=E5 I;injection e with e;subst e;have I:l'=l2:=I;subst I;simp only[zA] at C;simp only[Sh.mk,zA];refine⟨⟨hb.1.2,hb.2⟩,.inr ⟨λe=>by subst e;simp at hb,?_⟩⟩;rcases (EE C rfl).2 with h|⟨cap,cur,e,us,h1,J,h3,h4,h5,h6,h7,h8⟩;exact .inl h;obtain⟨k1,k2⟩:=yN0 (λy vs h=>by have:=CO h;simpa[Ty.size] using this) h6;refine .inr ⟨cap,cur,e,h1,J,h3,h4,by rw[h5];simp[Ty.size],λo=>by rw[h8,if_neg (by simp)],λj x hj=>?_⟩;have iv:j<length (α:=List t.den) l':=(List.getElem?_eq_some_iff.1 hj).1;obtain⟨u,hu,hc⟩:=k2 j x hj;refine⟨u,?_,by rw[if_neg (by omega)];exact hc⟩;rw[<-h7,List.getElem?_take] at hu;split at hu;exact hu;cases hu;cases h)|_=>simp[Sh.parse,SF] at h)|fptr f caps=>intro A x os v h C;cases A with|fptr R caps'=>simp only[Sh.parse,fY] at h;(cases hb:(Nat.beq f R&&yI caps caps') with|false=>simp[hb] at h|true=>simp only[jB] at hb;have e1:=jC hb.1;have e2:=xU hb.2;subst e1;subst e2;exact C)|_=>simp[Sh.parse,fY] at h
theorem jW:∀{s:Sh}{x:s.den},(s.mk x).hasOpt=false:=by intro s;induction s<;>grind [Sh.mk,AVal.hasOpt]
@[reducible] def AI:List (Nat×Sh)->Type
 |[]=>Unit
 |(_,s)::r=>s.den×AI r
def Lg:(l:List (Nat×Sh))->AI l->St
 |[],_=>[]
 |(k,s)::r,x=>(k,s.mk x.1)::Lg r x.2
def Er:(l:List (Nat×Sh))->St->Option (AI l)
 |[],_=>some ()
 |(k,s)::r,S=>match s.parse (S.get k),Er r S with|some x,some y=>some (x,y)|_,_=>none
def ND:St:=[(BO,.junk)]
def Weaker (S' S:St):Prop:=∀(s:Nat),∀G w tm v,zA G w tm (some s) (S.get s) v->zA G w tm (some s) (S'.get s) v
theorem Weaker.rel{S':St}(h:Weaker S' S)(C:Rel n χ0 w0 S a w G):Rel n χ0 w0 S' a w G:=⟨C.len,C.defers,λs=>h s _ _ _ _ (C.reps s),C.frame,C.glob⟩
theorem jX:Weaker ND S:=by intro s G w tm v _;simp[ND,St.get];grind [zA]
theorem SJ:∀{l:List (Nat×Sh)}{x:AI l}{R:St},Er l S=some x->Weaker R S->Weaker (Lg l x++R) S:=by intro l;induction l with|nil=>intro x R _ h;exact h|cons e r I=>intro x R C h;obtain⟨k,s⟩:=e;simp only[Er] at C;split at C;rename_i y z hy J;injection C with C;subst C;intro q G w tm v hA;simp[Lg,St.get];(cases hk:Nat.beq k q with|true=>grind [jC,F4]|false=>cases Nat.beq k BO with|true=>simp[zA]|false=>exact I J h q G w tm v hA);grind
theorem yX4{A:St}(h:St.hasCut A):(A++S).get s=A.get s:=by induction A<;>grind [St.get,St.hasCut]
theorem WG{A B:St}(h:St.hasCut B):St.hasCut (A++B):=by grind [St.hasCut]
variable {gtab:GlobTab}{P:Program}{c:Ctx}{G:Gh}{w:World}{tm:Array Value}{n:Nat}{χ0:Nat->Nat->Nat}{w0:World}{S:St}{a:Act}
def WH (ks:List Nat)(vs:Nat->Value)(a:Act):Prop:=∀i∈ks,a.tmps.getD i undef=vs i
def jY (ks:List Nat):List Oper->Bool
 |[]=>true
 |o::r=>(match o.dst with|some d=>!(ks.any (Nat.beq d))|none=>true)&&jY ks r
def ES (ks:List Nat):Code->Bool
 |.region _ ops _=>jY ks ops.toList
 |.seq a b=>ES ks a&&ES ks b
 |.cond _ a b=>ES ks a&&ES ks b
 |.block _ a=>ES ks a
 |.loop a=>ES ks a
 |_=>true
theorem yX5{ks:List Nat}{vs:Nat->Value}:∀{ops:List Oper},jY ks ops->∀o∈ops,∀a v,WH ks vs a->WH ks vs (a.put o.dst v):=by intro ops;induction ops with|nil=>grind|cons x r R=>intro h o C a v I;simp[jY] at h;rcases mem_cons.1 C with rfl|C;(cases hd:o.dst with|none=>exact I|some d=>intro i J;(have kj:d≠i:=by simp_all);rw[<-I i J];simp[Act.put,Array.getElem?_setIfInBounds_ne kj]);grind
def WI [GlobTab] (P:Program)(c:Ctx)(code:Code)(S:St)(out:Out):Prop:=
 (∀q∈out.ok,q)->∀(rd:Option Nat) (χ0:Nat->Nat->Nat) (w0:World) (vs:Nat->Value) (a:Act) (w:World) (G:Gh),Rel c.n χ0 w0 S a w G->WH c.keep vs a ->
  code.wpIn (fz rd) 0 P (λe a' w'=>ER c.n χ0 w0 S out.comps e a' w'/\WH c.keep vs a') a w
def HR [GlobTab] (P:Program)(c:Ctx):Code->Prop
 |.seq a b=>HR P c a/\HR P c b
 |.cond _ a b=>HR P c a/\HR P c b
 |.block _ a=>HR P c a
 |.loop a=>∀S out,look (λ_=>none) c.loops (Ij a) S=some out->WI P c (.loop a) S out
 |_=>True
theorem jZ(he:EP e=some k)(C:Rel n χ0 w0 (u++S) a w G):ER n χ0 w0 S [⟨k,none,u⟩] e a w:=by refine⟨k,⟨k,none,u⟩,G,he,by simp[B5],rfl,λI J R _=>?_,C⟩;grind [B5,Nat.beq,jC]
theorem zZ (hc:CtxOk P c)(hm:P.follows .mixedOrders):∀{code:Code}{S:St}{out:Out},HR P c code->ES c.keep code->eval c code S=some out->WI P c code S out:=by intro code;induction code with|skip=>intro S out _ _ h _ rd χ0 w0 vs a w G I J;simp only[eval,jA] at h;subst h;exact wpIn_skip ⟨jZ rfl I,J⟩|region id ops draw=>intro S out _ hw h kg rd χ0 w0 vs a w G I J;simp only[eval] at h;split at h;cases h;rename_i v hg;generalize hv:v.all (λe=>blt e.1 c.n)=bv at h;(cases bv with|false=>cases h|true=>simp only[Bool.not_true,jD] at h;split at h;rename_i p u hr;injection h with h;subst h;simp only[ES] at hw;obtain⟨G1,hR1⟩:=yJ9 hc.n I hg λe he=>Nat.blt_eq.mp (all_eq_true.1 hv e he);exact yS3 (yX5 (vs:=vs) hw) hc hm hr kg hR1 J λa' w' G' hR' gK=>⟨jZ rfl (by rw[append_assoc];exact hR'),gK⟩;cases h)|seq x y kP kK=>intro S out R hw h kg rd χ0 w0 vs a w G I J;simp only[HR] at R;simp only[ES,jB] at hw;simp only[eval] at h;split at h;cases h;rename_i oa ha;split at h;rename_i h0;injection h with h;subst h;refine wpIn_seq (wpIn_mono (kP R.1 hw.1 ha kg rd χ0 w0 vs a w G I J) λe a' w' C=>?_);(cases e with|normal=>obtain⟨⟨k,cp,G',h1,h2,_⟩,_⟩:=C;simp only[EP,jA] at h1;subst h1;rw[h0] at h2;cases h2|_=>exact C);rename_i m h0;split at h;cases h;rename_i ob hb;injection h with h;subst h;simp only[Sz,mem_append] at kg;refine wpIn_seq (wpIn_mono (kP R.1 hw.1 ha (λq hq=>kg q (.inl hq)) rd χ0 w0 vs a w G I J) λe a' w' C=>?_);obtain⟨C,gK⟩:=C;by_cases he:e=.normal;subst he;obtain⟨k,cp,G',h1,h2,h3,h4,h5⟩:=C;simp only[EP,jA] at h1;subst h1;rw[h0] at h2;injection h2 with h2;subst h2;simp only[Exit.then];refine wpIn_mono (kK R.2 hw.2 hb (λq hq=>?_) rd χ0 w0 vs a' w' G' h5 gK) λe'' a'' w'' hP'=>⟨xO h3 h4 hP'.1,hP'.2⟩;(cases hg:m.g with|none=>exact kg q (.inr (by simp only[imp,hg];exact hq))|some b=>(have qg:b:=by rw[hg] at h3;exact h3);exact yX1 (λq hq=>kg q (.inr (by simp only[imp,hg];exact hq))) qg q hq);(have kj:EP e≠some 0:=by cases e with|normal=>exact absurd rfl he|exit id=>simp[EP]|_=>simp[EP]);have:=xN9 (ob:=ob) h0 C kj;(cases e with|normal=>exact absurd rfl he|_=>exact⟨this,gK⟩)|cond x p q ihp ihq=>intro S out R hw h kg rd χ0 w0 vs a w G I J;simp only[HR] at R;simp only[ES,jB] at hw;simp only[eval] at h;split at h;rename_i t hx;split at h;rename_i oa ob ha hb;injection h with h;subst h;(have hv:a.eval x=.bool t:=by have:=Jr I x;rw[hx] at this;simp only[zA] at this;have:=(zC rfl).1 this;simpa only[AN,List.cons.injEq,and_true] using this);simp only[Sx,mem_append] at kg;refine wpIn_cond_split hv (λht=>?_) (λht=>?_);subst ht;exact wpIn_mono (ihp R.1 hw.1 ha (yX1 (λq hq=>kg q (.inl hq)) rfl) rd χ0 w0 vs a w G I J) λe a' w' C=>⟨xF5 C.1,C.2⟩;subst ht;exact wpIn_mono (ihq R.2 hw.2 hb (yX1 (λq hq=>kg q (.inr hq)) rfl) rd χ0 w0 vs a w G I J) λe a' w' C=>⟨xF6 C.1,C.2⟩;cases h;cases h|block id x ih=>intro S out R hw h kg rd χ0 w0 vs a w G I J;simp only[HR] at R;simp only[ES] at hw;simp only[eval] at h;split at h;rename_i oa ha;injection h with h;subst h;(have mz:∀q∈oa.ok,q:=by intro q hq;refine kg q ?_;unfold dW;split<;>exact hq);refine wpIn_block (wpIn_mono (ih R hw ha mz rd χ0 w0 vs a w G I J) λe a' w' C=>?_);have:=xF7 (id:=id) C.1;(cases e with|exit id'=>simp only[Exit.inBlock] at this ⊢;split;rename_i e;rw[if_pos e] at this;exact⟨this,C.2⟩;rename_i e;rw[if_neg e] at this;exact⟨this,C.2⟩|_=>exact⟨this,C.2⟩);cases h|loop x _=>intro S out R hw h;simp only[eval] at h;exact R S out h|exit id=>intro S out _ _ h _ rd χ0 w0 vs a w G I J;simp only[eval,jA] at h;subst h;exact wpIn_exit ⟨jZ rfl I,J⟩|ret=>intro S out _ _ h _ rd χ0 w0 vs a w G I J;simp only[eval,jA] at h;subst h;exact wpIn_ret ⟨jZ rfl I,J⟩|_=>intro S out _ _ h;simp[eval] at h
def loopN {X:Type}(g:X->Bool)(next:X->X):Nat->X->X
 |0,x=>x
 |k+1,x=>cond (g x) (loopN g next k (next x)) x
def AW:Nat:=18446744073709551616
def A3 {X:Type}(g:X->Bool)(next:X->X)(x:X):X:=loopN g next AW x
def Runs {X:Type}(g:X->Bool)(next:X->X)(ok:X->Prop):Nat->X->Prop
 |0,x=>ok x/\g x=false
 |k+1,x=>ok x/\g x/\Runs g next ok k (next x)
def AB {X:Type}(g:X->Bool)(next:X->X)(ok:X->Prop)(x:X):Prop:=∃k,k<AW/\Runs g next ok k x
theorem Runs.loopN {X:Type}{g:X->Bool}{next:X->X}{ok:X->Prop}:∀{k:Nat}{x:X}{F:Nat},Runs g next ok k x->k<F->g (loopN g next F x)=false/\ok (Am.loopN g next F x):=by intro k;induction k with|zero=>intro x F h C;(cases F with|zero=>omega|succ F=>simp only[Am.loopN,h.2,jD];exact⟨trivial,h.1⟩)|succ k I=>intro x F h C;cases F with|zero=>omega|succ F=>simp[Am.loopN,h.2.1];exact I h.2.2 (by omega)
variable {body:Code}
theorem xO3{rd:Option Nat}{Q:Exit->Act->World->Prop}(I:Nat->Act->World->Prop)(h₀:I k a w)(round:∀k a w,I k a w->body.wpIn (fz rd) 0 P (Exit.then (λJ w'=>∃m,m<k/\I m J w') Q) a w):(Code.loop body).wpIn (fz rd) 0 P Q a w:=by intro b kk cs R hb hr;(have key:∀n a w,I n a w->∃e J w',Q e J w'/\ArrivesIn (Machine.fenced P (fz rd)) P (lone (b.atR a (.code body::.inLoop body::kk)) cs w) b kk cs e J w':=by intro n;induction n using Nat.strongRecOn with|_ n ih=>intro a w hI;obtain⟨e,a₁,w₁,C,gi⟩:=round n a w hI b (.inLoop body::kk) cs R hb hr;cases e with|normal=>obtain⟨m,hlt,hI₁⟩:=C;obtain⟨e₂,a₂,w₂,hq₂,harr₂⟩:=ih m hlt a₁ w₁ hI₁;exact⟨e₂,a₂,w₂,hq₂,.of_steps (StepsIn.trans gi (.one (fenced_calm hb hr rfl) stepR_inLoop)) harr₂⟩|exit id=>exact⟨_,a₁,w₁,C,.pass (x:=.inLoop body) rfl (λ_ _=>.inl (by simp)) gi⟩|goto l=>exact⟨_,a₁,w₁,C,.pass (x:=.inLoop body) rfl (λ_ _=>.inl (by simp)) gi⟩|ret=>exact⟨_,a₁,w₁,C,.pass (x:=.inLoop body) rfl (λ_ _=>.inl (by simp)) gi⟩|panic ch=>exact⟨_,a₁,w₁,C,.pass (x:=.inLoop body) rfl (λ_ _=>.inl (by simp)) gi⟩|outgrown=>exact⟨_,a₁,w₁,C,.pass (x:=.inLoop body) rfl (λ_ _=>.inl (by simp)) gi⟩);obtain⟨e,J,w',C,gi⟩:=key _ a w h₀;exact⟨e,J,w',C,.of_steps (.one (fenced_calm hb hr rfl) stepR_loop) gi⟩
def Ez (ly lx:List (Nat×Sh))(y:AI ly)(x:AI lx):St:=Lg ly y++(Lg lx x++ND)
def Po (L:St)(l:List Comp):List Comp:=(Ey 0 l).map λcp=>⟨cp.kind,cp.g,cp.d++L⟩
def j6 (ly lx:List (Nat×Sh))(g:AI ly->AI lx->Bool)(next:AI ly->AI lx->AI lx)(ok:AI ly->AI lx->Prop)(comps:AI ly->AI lx->List Comp)(S:St):Option Out:=
 match Er ly S,Er lx S with
 |some y,some x=>some ⟨[AB (g y) (next y) (ok y) x],Po (Ez ly lx y (A3 (g y) (next y) x)) (comps y (A3 (g y) (next y) x))⟩
 |_,_=>none
variable {lx ly:List (Nat×Sh)}
theorem xA7{y:AI ly}{x:AI lx}:St.hasCut (Ez ly lx y x):=WG (WG rfl)
theorem xF9(hc:CtxOk P c)(hm:P.follows .mixedOrders)(hL:HR P c body)(hw:ES c.keep body){g:AI ly->AI lx->Bool}{next:AI ly->AI lx->AI lx}{ok:AI ly->AI lx->Prop}{comps:AI ly->AI lx->List Comp}{oks:AI ly->AI lx->List Prop}(uq:∀y x,eval c body (Ez ly lx y x)=some ⟨oks y x,comps y x⟩)(qz:∀y x,ok y x->JU (oks y x))(hZ:∀y x,∃m,B5 0 (comps y x)=some m/\tk m.g=g y x/\Er ly (m.d++Ez ly lx y x)=some y/\Er lx (m.d++Ez ly lx y x)=some (next y x)):∀S out,j6 ly lx g next ok comps S=some out->WI P c (.loop body) S out:=by intro S out h kg rd χ0 w0 vs a w G hR hk;unfold j6 at h;split at h;rename_i y x hy hx;injection h with h;subst h;obtain⟨k,hkf,qa⟩:=kg _ (jQ ..);have hR0:Rel c.n χ0 w0 (Ez ly lx y x) a w G:=(SJ hy (SJ hx jX)).rel hR;refine xO3 (I:=λk a w=>∃C G F,Rel c.n χ0 w0 (Ez ly lx y C) a w G/\WH c.keep vs a/\Runs (g y) (next y) (ok y) k C/\k<F/\loopN (g y) (next y) F C=A3 (g y) (next y) x) (k:=k) ⟨x,G,AW,hR0,hk,qa,hkf,rfl⟩ ?_;rintro k a w ⟨C,G,F,hR,hk,qa,hF,qi⟩;(have nv:ok y C:=by cases k with|zero=>exact qa.1|succ k=>exact qa.1);refine wpIn_mono (zZ hc hm hL hw (uq y C) (AllP_iff.1 (qz y C nv)) rd χ0 w0 vs a w G hR hk) λe a' w' hP=>?_;obtain⟨hP,gK⟩:=hP;obtain⟨m,m1,m2,m3,m4⟩:=hZ y C;obtain⟨q,cp,G',h1,h2,h3,h4,h5⟩:=hP;by_cases he:e=.normal;subst he;simp only[EP,jA] at h1;subst h1;rw[m1] at h2;injection h2 with h2;subst h2;rw[m2] at h3;(cases k with|zero=>rw[qa.2] at h3;cases h3|succ k=>simp only[Exit.then];cases F with|zero=>omega|succ F=>refine⟨k,by omega,next y C,G',F,(SJ m3 (SJ m4 jX)).rel h5,gK,qa.2.2,by omega,?_⟩;rw[<-qi,Am.loopN,h3,jE]);(have hq:q≠0:=by intro e0;subst e0;cases e<;>simp[EP] at h1 he);(have hg:g y C=false:=by cases hg:g y C with|false=>rfl|true=>rw[<-m2] at hg;exact absurd (h4 0 m m1 hg).symm hq);(have kI:C=A3 (g y) (next y) x:=by rw[<-qi];cases F with|zero=>omega|succ F=>rw[Am.loopN,hg,jD]);subst kI;(have hq0:Nat.beq q 0=false:=by cases q with|zero=>exact absurd rfl hq|succ q=>rfl);(have ku:∀J,B5 J (Po (Ez ly lx y (A3 (g y) (next y) x)) (comps y (A3 (g y) (next y) x)))=(cond (Nat.beq J 0) none (B5 J (comps y (A3 (g y) (next y) x)))).map λcp=>⟨cp.kind,cp.g,cp.d++Ez ly lx y (A3 (g y) (next y) x)⟩:=by intro J;unfold Po;rw[fR (f:=λcp=>⟨cp.kind,cp.g,cp.d++Ez ly lx y (A3 (g y) (next y) x)⟩) (λ_=>rfl),Pm]);(have R:ER c.n χ0 w0 S (Po (Ez ly lx y (A3 (g y) (next y) x)) (comps y (A3 (g y) (next y) x))) e a' w':=by refine⟨q,⟨cp.kind,cp.g,cp.d++Ez ly lx y (A3 (g y) (next y) x)⟩,G',h1,?_,h3,λJ c' hf ht=>?_,?_⟩;rw[ku,hq0,jD,h2];rfl;rw[ku] at hf;(cases gK:Nat.beq J 0 with|true=>simp[gK] at hf|false=>simp only[gK,jD] at hf;cases hx:B5 J (comps y (A3 (g y) (next y) x)) with|none=>simp[hx] at hf|some z=>simp only[hx,Option.map_some,jA] at hf;subst hf;exact h4 J z hx ht);exact fK (λs=>yX4 (WG xA7)) h5);(cases e with|normal=>exact absurd rfl he|_=>exact⟨R,gK⟩);cases h
variable {gtab:GlobTab}{P:Program}{c:Ctx}{G:Gh}{w:World}{tm:Array Value}{n:Nat}{χ0:Nat->Nat->Nat}{w0:World}{S:St}{a:Act}
def Is [GlobTab] (c:Ctx)(S:St):ResultVar->Option AVal
 |.tmp t=>some (arg S (.tmp t))
 |.cell r T=>match yL c T (arg S (.tmp r)) (C4 S (arg S (.tmp r))) with|some ([],A)=>some A | _=>none
def JY [GlobTab] (c:Ctx)(S:St):List ResultVar->Option AVal
 |[]=>some (.tup .nl)
 |[r]=>Is c S r
 |[r,s]=>match Is c S r,Is c S s with|some A,some B=>some (.tup (.cons A (.cons B .nl)))|_,_=>none
 |[r,s,t]=>match Is c S r,Is c S s,Is c S t with|some A,some B,some C=>some (.tup (.cons A (.cons B (.cons C .nl))))|_,_,_=>none
 |[r,s,t,u]=>match Is c S r,Is c S s,Is c S t,Is c S u with|some A,some B,some C,some D=>some (.tup (.cons A (.cons B (.cons C (.cons D .nl)))))|_,_,_,_=>none
 |_=>none
def xO4 (tmps:Array Value):ResultVar->Sem Value
 |.tmp t=>pure (tmps.getD t undef)
 |.cell a t=>do loadVar t (<-asAddr (tmps.getD a undef))
theorem Lh(I:CtxOk P c)(C:Rel n χ0 w0 S a w G){r:ResultVar}(h:Is c S r=some A):∃v,(xO4 a.tmps r).run P w=.ok v w/\zA G w a.tmps none A v:=by cases r with|tmp t=>simp[Is] at h;subst h;exact⟨_,rfl,Jr C (.tmp t)⟩|cell r T=>simp only[Is] at h;split at h;rename_i A' R;have hx:=Jr C (.tmp r);obtain⟨u,h1,h2⟩:=yF1 I.tys I.fts hx (λs J=>⟨_,by have:=C.reps s;cases hA:arg S (.tmp r)<;>simp[hA,EF] at J<;>(subst J;simpa[C4] using this)⟩) R (λq hq=>by grind);simp only[xO4];have hv:a.eval (.tmp r)=a.tmps.getD r undef:=rfl;(cases hvv:a.tmps.getD r undef with|pointer p=>cases p<;>simp_all [Instr.loadAt,Instr.sureAddr,asAddr]|_=>simp_all [Instr.loadAt,Instr.sureAddr]);grind
variable {fn:Func}
theorem yS4(R:CtxOk P c)(hR:Rel n χ0 w0 S a w G)(h:JY c S fn.results.toList=some A):∃v,(results fn a.tmps).run P w=.ok v w/\zA G w a.tmps none A v:=by
 have hfn:fn.results=fn.results.toList.toArray:=by simp
 generalize fn.results.toList=l at h hfn;have hsem:results fn a.tmps=(do let vs <-fn.results.mapM (xO4 a.tmps);pure (if h:vs.size=1 then vs[0] else .tuple vs)):=by
  congr 1
 match l,h with
 |[],h=>simp[JY] at h;subst h;simp_all [zA]
 |[r],h =>
  obtain⟨v,h1,h2⟩:=Lh R hR h;simp_all
 |[r,s],h =>
  simp only[JY] at h;split at h
  ·rename_i A' B hA hB;injection h with h;subst h
   obtain⟨v,h1,h2⟩:=Lh R hR hA;obtain⟨v',h1',I⟩:=Lh R hR hB;exact⟨.tuple #[v,v'],by simp_all,by exact⟨v,[v'],rfl,h2,v',[],rfl,I,rfl⟩⟩
  grind
 |[r,s,t],h =>
  simp only[JY] at h;split at h
  ·rename_i A' B C hA hB hC;injection h with h;subst h
   obtain⟨v,h1,h2⟩:=Lh R hR hA;obtain⟨v',h1',I⟩:=Lh R hR hB;obtain⟨v'',h1'',J⟩:=Lh R hR hC;exact⟨.tuple #[v,v',v''],by simp_all,by exact⟨v,[v',v''],rfl,h2,v',[v''],rfl,I,v'',[],rfl,J,rfl⟩⟩
  grind
 |[r,s,t,u],h =>
  simp only[JY] at h;split at h
  ·rename_i A' B C D hA hB hC hD;injection h with h;subst h
   obtain⟨v,h1,h2⟩:=Lh R hR hA;obtain⟨v',h1',I⟩:=Lh R hR hB;obtain⟨v'',h1'',J⟩:=Lh R hR hC;obtain⟨v3,h13,h23⟩:=Lh R hR hD;exact⟨.tuple #[v,v',v'',v3],by simp_all,by exact⟨v,[v',v'',v3],rfl,h2,v',[v'',v3],rfl,I,v'',[v3],rfl,J,v3,[],rfl,h23,rfl⟩⟩
  grind
 |_::_::_::_::_::_,h=>grind [JY]
def Pp (S:St)(l:List Comp):Option St:=
 bif l.all (λx=>ble x.kind 1) then
  match B5 0 l,B5 1 l with
  |none,some r=>some r.d
  |some m,none=>some m.d
  |some m,some r=>some (HO (tk r.g) r.d m.d S)
  |none,none=>none
 else none
theorem yS5:∀{l:List Comp},B5 k l=some x->x∈l:=by intro l;induction l<;>grind [B5]
theorem xA8{l:List Comp}{d:St}(h:Pp S l=some d)(J:ER n χ0 w0 S l e a w):(e=.normal\/e=.ret)/\∃G,Rel n χ0 w0 (d++S) a w G:=by obtain⟨k,cp,G,R,I,h3,h4,h5⟩:=J;unfold Pp at h;generalize C:l.all (λx=>ble x.kind 1)=b at h;cases b with|false=>grind|true=>(have hk:k<=1:=by have:=all_eq_true.1 C cp (yS5 I);rw[WC I] at this;simp_all);(have he:e=.normal\/e=.ret:=by cases e<;>grind [id,EP,jA]);refine⟨he,G,?_⟩;(obtain rfl|rfl:k=0\/k=1:=by omega);all_goals grind [tk,fQ,fP]
def FZ:Nat->List AVal->St
 |_,[]=>[]
 |i,A::r=>(i,A)::FZ (i+1) r
@[reducible] def Eh:List (Nat×Sh)->Type
 |[]=>Unit
 |(_,s)::r=>s.den×Eh r
def SL:(s:Sh)->s.den->AVal
 |.box _ s,x=>s.mk x
 |s,x=>s.mk x
def Pq:(l:List (Nat×Sh))->Eh l->List (Nat×AVal)
 |[],_=>[]
 |(i,s)::r,x=>(i,SL s x.1)::Pq r x.2
def JZ:(l:List (Nat×Sh))->St->Option (Eh l)
 |[],_=>some ()
 |(i,s)::r,S=>match s.parse (S.get i),JZ r S with|some x,some y=>some (x,y)|_,_=>none
def xO5:Sh->Bool
 |.box _ _=>true|_=>false
def fnSpec (ps:List (Nat×Sh))(rs:Sh)(os:List (Nat×Sh))(ok:AI ps->Prop)(f:AI ps->rs.den)(o:AI ps->Eh os):Spec:=λargs =>
 bif Nat.beq args.length ps.length then
  match Er ps (FZ 0 args) with
  |some x=>some ⟨[ok x],rs.mk (f x),Pq os (o x),[]⟩
  |none=>none
 else none
def Pr:Nat->List (Nat×Sh)->Bool
 |_,[]=>true
 |i,(k,_)::r=>Nat.beq k i&&Pr (i+1) r
def WJ (ps:List (Nat×Sh))(keep:List Nat)(os:List (Nat×Sh)):Bool:=
 os.all λe=>keep.any (Nat.beq e.1)&&(match ps[e.1]? with
  |some (_,.box τ _)=>(match e.2 with|.box τ' _=>Ty.beq τ' τ | _=>false)
  |some (_,.any)=>false
  |some _=>!xO5 e.2
  |none=>false)
theorem yH4:∀{args:List AVal}{i:Nat},i<=s->s<i+args.length->i+args.length<=BO->some ((FZ i args).get s)=args[s-i]?:=by intro args;induction args with|nil=>grind|cons A r C=>intro i I J R;simp[FZ,St.get];by_cases e:i=s;simp_all;grind [Nat.beq,absurd,jC]
theorem xO6:∀{args:List AVal}{i:Nat},i+args.length<=s\/s<i->(FZ i args).get s=.junk:=by intro args;induction args<;>grind [FZ,St.get,Nat.beq,jC]
theorem yK4{S:St}:∀{ps:List (Nat×Sh)}{x:AI ps}{k:Nat}{i:Nat}{s:Sh},Er ps S=some x->ps[k]?=some (i,s)->∃y,s.parse (S.get i)=some y:=by intro ps;induction ps<;>grind [Er]
theorem xX4:∀{ps:List (Nat×Sh)}{i k j:Nat}{s:Sh},Pr i ps->ps[k]?=some (j,s)->j=i+k:=by intro ps;induction ps with|nil=>grind|cons e r C=>intro i k j s h I;simp[Pr] at h;grind
theorem xO7{S:St}{k:AVal}:∀{os:List (Nat×Sh)}{x:Eh os},JZ os S=some x->(i,k)∈Pq os x->∃s y,(i,s)∈os/\k=SL s y/\s.parse (S.get i)=some y:=by intro os;induction os with|nil=>intro x _ h;cases h|cons e r J=>intro x C I;simp only[JZ] at C;split at C;(·rcases mem_cons.1 I with h|h;all_goals grind);grind
variable {τ:Ty}{B:AVal}
theorem xO8{s:Sh}{x:s.den}(h:s.parse A=some x)(I:A=.box τ B):s=.any\/∃C,s=.box τ C:=by cases s with|box τ' C=>simp[Sh.parse,WE] at h;(cases hb:Ty.beq τ' τ with|true=>have:=Ty.eq_of_beq hb;simp_all|false=>grind)|any=>simp_all|val τ'=>grind [Sh.parse,AVal.as,AVal.asT]|own t T m=>grind [Sh.parse,NC]|nl=>grind [Sh.parse,fZ]|cons a b=>grind [Sh.parse,SI]|agg f s=>grind [Sh.parse,SH]|ref s τ'=>grind [Sh.parse,SG]|tup s=>grind [Sh.parse,jV]|fn f s=>grind [Sh.parse,jU]|nil=>grind [Sh.parse,fV]|nn b=>grind [Sh.parse,fX]|fptr f caps=>grind [Sh.parse,fY]|ownh t T U m=>grind [Sh.parse,SF]
def Ei (ps:List (Nat×Sh))(x:AI ps):St:=Lg ps x++ND
theorem xG:∀{ps:List (Nat×Sh)}{x:AI ps},∀e∈Ei ps x,e.2.hasOpt=false:=by intro ps;induction ps with|nil=>intro x e he;simp[Ei,Lg,ND] at he;subst he;rfl|cons q r C=>intro x e he;rcases mem_cons.1 he with h|h;grind [jW];exact C e h
variable {f:Nat}{code:Code}{ps os:List (Nat×Sh)}{rs:Sh}
theorem xG0(hc:CtxOk P c)(hm:P.follows .mixedOrders)(hf:P.funcs[f]?=some fn)(hb:fn.body=some code)(kY:fn.name≠"runtime.NumGoroutine") (hn:fn.ntmps=c.n) (hL:HR P c code) (hw:ES c.keep code){ok:AI ps->Prop}{F:AI ps->rs.den}{o:AI ps->Eh os}{oks:AI ps->List Prop}{comps:AI ps->List Comp}{d:AI ps->St}{res:AI ps->AVal}(iD:(Pr 0 ps&&WJ ps c.keep os&&ble ps.length c.n)=true) (heval:∀x,eval c code (Ei ps x)=some ⟨oks x,comps x⟩) (qz:∀x,ok x->JU (oks x)) (kI:∀x,Pp (Ei ps x) (comps x)=some (d x)) (kO:∀x,JY c (d x++Ei ps x) fn.results.toList=some (res x)) (gS:∀x,rs.parse (res x)=some (F x)) (gR:∀x,JZ os (d x++Ei ps x)=some (o x)):SpecOk P f (fnSpec ps rs os ok F o):=by simp only[jB] at iD;obtain⟨⟨hps1,hps2⟩,hps3⟩:=iD;have hps3:ps.length<=c.n:=jR hps3;refine⟨⟨fn,hf,by rw[hb];rfl,kY⟩,λargs co hsp kg G w vals hlen hglob kn=>?_⟩;unfold fnSpec at hsp;generalize qo:Nat.beq args.length ps.length=b at hsp;cases b with|false=>cases hsp|true=>have qo:=jC qo;simp only[jE] at hsp;split at hsp;rename_i x hx;injection hsp with hsp;subst hsp;have nv:ok x:=kg _ (jQ ..);refine callsIn_wide.1 (callsIn_of_wp (n:=0) hf hb trivial ?_);generalize hact:({ tmps:=vals.toArray++Array.replicate (fn.ntmps-vals.toArray.size) undef,defers:=[] }:Act)=act;(have kT:∀s,s<vals.length->act.tmps.getD s undef=vals.getD s undef:=by intro s hs;rw[<-hact];simp[Array.getElem?_append,hs]);have hcn:=hc.n;(have iH:Rel c.n G.χ w (Ei ps x) act w G:=by refine⟨?_,by rw[<-hact],λs=>?_,⟨rfl,rfl,rfl,jI _,λ_ _ _=>rfl,λ_ _ _ _=>⟨rfl,rfl⟩⟩,hglob⟩;rw[<-hact];simp;omega;(have key:zA G w #[] (some s) ((Ei ps x).get s) (act.tmps.getD s undef):=by refine SJ hx jX s G w #[] _ ?_;by_cases hs:s<args.length;have h1:=yH4 (s:=s) (args:=args) (i:=0) (by omega) (by omega) (by omega);simp only[Nat.sub_zero] at h1;(have h2:vals[s]?=some (vals.getD s undef):=by simp[jL (show s<vals.length by omega)]);rw[kT s (by omega)];exact kn s _ _ h1.symm h2;rw[xO6 (.inl (by omega))];simp only[zA]);refine zO (λk hk=>?_) key;have:=zU6 (q:=λA=>A.hasOpt=false) rfl (S:=Ei ps x) (s:=s) xG;rw[Pk this] at hk;cases hk);refine wpIn_mono (zZ hc hm hL hw (heval x) (AllP_iff.1 (qz x nv)) none G.χ w (λi=>act.tmps.getD i undef) act w G iH (λi _=>rfl)) λe a' w' hP=>?_;obtain⟨hP,hk⟩:=hP;obtain⟨he,G',hR⟩:=xA8 (kI x) hP;obtain⟨v,hv1,tc⟩:=yS4 hc hR (kO x);(have ur:a'.defers=[]/\∃v,(results fn a'.tmps).run P w'=.ok v w'/\∃v' G',Ending.returned v=.returned v'/\Frame0 G.χ w G'.χ w'/\zA G' w' #[] none (rs.mk (F x)) v'/\(∀(i:Nat) k A u,(i,k)∈Pq os (o x)->args[i]?=some A->vals[i]?=some u->(∀τ k0,A=.box τ k0->zA G' w' #[] (some i) (.box τ k) u/\G'.β i=G.β i)/\(Ff A=false->zA G' w' #[] none k u)):=by refine⟨hR.defers,v,hv1,v,G',rfl,hR.frame,?_,?_⟩;refine zO (λk hk=>?_) (F4 (gS x) tc);rw[Pk jW] at hk;cases hk;intro i k A u hi ha hu;obtain⟨s',y,h1,rfl,h3⟩:=xO7 (gR x) hi;simp only[WJ,all_eq_true,jB] at hps2;have h4:=hps2 _ h1;simp only at h4;have qj:=F4 h3 (hR.reps i);have hilt:i<args.length:=(List.getElem?_eq_some_iff.1 ha).1;(have uw:a'.tmps.getD i undef=u:=by obtain⟨j,hj,hjb⟩:=any_eq_true.1 h4.1;have:=jC hjb;subst this;rw[hk i hj];show act.tmps.getD i undef=u;rw[kT i (by omega)];simp[hu]);rw[uw] at qj;have qj:zA G' w' #[] (some i) (s'.mk y) u:=zO (λk hk=>by rw[Pk jW] at hk;cases hk) qj;(obtain⟨p,hpi⟩:∃p,ps[i]?=some (i,p)/\∃z,p.parse A=some z:=by (have qm:i<ps.length:=by omega);obtain⟨⟨j,p⟩,hpi⟩:∃q,ps[i]?=some q:=⟨_,jL qm⟩;have hj:=xX4 hps1 hpi;simp only[Nat.zero_add] at hj;subst hj;obtain⟨z,hz⟩:=yK4 hx hpi;have h1:=yH4 (s:=j) (args:=args) (i:=0) (by omega) (by omega) (by omega);simp only[Nat.sub_zero,ha,jA] at h1;rw[h1] at hz;exact⟨p,hpi,z,hz⟩);obtain⟨hpi,z,hz⟩:=hpi;rw[hpi] at h4;constructor;rintro τ k0 rfl;rcases xO8 hz rfl with rfl|⟨s2,rfl⟩;simp at h4;simp only at h4;(cases s' with|box τ' s3=>have:=Ty.eq_of_beq h4.2;subst this;refine⟨qj,?_⟩;have h0:=kn i _ _ ha hu;simp only[Sh.mk,zA] at h0 qj;have:=h0.1.symm.trans qj.1;simp only[Value.pointer.injEq,jA,Addr.mk.injEq] at this;exact this.1.symm|_=>simp at h4);intro hA;cases s' with|box τ' s3=>exfalso;split at h4;rename_i j τ2 s2 e;simp only[jA,jG] at e;obtain⟨rfl,rfl⟩:=e;simp only[Sh.parse] at hz;cases A<;>simp[WE,Ff] at hz hA;simp at h4;simp[xO5] at h4;simp at h4|_=>exact S1 (by simpa only[SL] using qj) (by intro τ c e;simp only[SL,Sh.mk] at e;cases e) (by intro e;simp only[SL,Sh.mk] at e;cases e));rcases he with rfl|rfl;exact ur;exact ur;cases hsp
variable {gtab:GlobTab}{P:Program}{c:Ctx}
def SM (H:St):List Comp->List (List (Nat×Sh))->Option (List Comp)
 |[],[]=>some []
 |cp::r,l::s=>match Er l (cp.d++H),SM H r s with
  |some z,some q=>some (⟨cp.kind,cp.g,Lg l z++ND⟩::q)
  |_,_=>none
 |_,_=>none
def j7 (H:St)(l:List Comp)(ls:List (List (Nat×Sh))):Option (List Comp):=
 match SM H l ls with
 |some [q]=>some [⟨q.kind,none,q.d⟩]
 |r=>r
def NF [GlobTab] (c:Ctx)(body:Code)(ly lx:List (Nat×Sh))(les:List (List (Nat×Sh)))(y:AI ly)(x:AI lx):Option (Prop×Bool×AI ly×AI lx×List Comp):=
 match eval c body (Ez ly lx y x) with
 |none=>none
 |some o=>match B5 0 o.comps with
  |none=>none
  |some m=>match Er ly (m.d++Ez ly lx y x),Er lx (m.d++Ez ly lx y x),j7 (Ez ly lx y x) (Ey 0 o.comps) les with
   |some y',some x',some es=>some (JU o.ok,tk m.g,y',x',es)
   |_,_,_=>none
def Iu (ly lx:List (Nat×Sh))(g:AI ly->AI lx->Bool)(next:AI ly->AI lx->AI lx)(ok:AI ly->AI lx->Prop)(es:AI ly->AI lx->List Comp)(S:St):Option Out:=
 match Er ly S,Er lx S with
 |some y,some x=>some ⟨[AB (g y) (next y) (ok y) x],es y (A3 (g y) (next y) x)⟩
 |_,_=>none
theorem yX8{H:St}:∀{l:List Comp}{ls:List (List (Nat×Sh))}{es:List Comp},SM H l ls=some es->(B5 k es=none/\B5 k l=none)\/∃cp cp',B5 k l=some cp/\B5 k es=some cp'/\cp'.g=cp.g/\St.hasCut cp'.d/\Weaker cp'.d (cp.d++H):=by intro l;induction l with|nil=>intro ls es h;cases ls<;>simp[SM] at h;subst h;exact .inl ⟨rfl,rfl⟩|cons cp r I=>intro ls es h;cases ls with|nil=>grind [SM]|cons s ls=>simp only[SM] at h;split at h;rename_i z q C J;injection h with h;subst h;simp only[B5];(cases Nat.beq cp.kind k with|true=>exact .inr ⟨cp,_,rfl,rfl,rfl,WG rfl,SJ C jX⟩|false=>grind);grind
variable {les:List (List (Nat×Sh))}
theorem xP{H:St}{l:List Comp}(h:j7 H l les=some la):(B5 k la=none/\B5 k l=none)\/∃cp cp',B5 k l=some cp/\B5 k la=some cp'/\(cp'.g=cp.g\/(cp'.g=none/\∀C J,B5 C l=some J->C=k))/\St.hasCut cp'.d/\Weaker cp'.d (cp.d++H):=by unfold j7 at h;split at h;rename_i q hq;(have kQ:∀C,B5 C [q]=none->B5 C l=none:=λC h'=>by grind [yX8]);rcases yX8 (k:=k) hq with ⟨R,h2⟩ | ⟨cp,cp',R,h2,h3,h4,h5⟩;grind [B5];right;have I:=h2;simp only[B5] at I;(cases hb:Nat.beq q.kind k with|false=>grind|true=>simp[hb] at I;subst I;refine⟨cp,⟨q.kind,none,q.d⟩,R,by grind [B5],.inr ⟨rfl,λC J hf=>?_⟩,h4,h5⟩;cases kE:Nat.beq q.kind C<;>simp_all [B5]);grind [yX8]
theorem xU1(hc:CtxOk P c)(hm:P.follows .mixedOrders)(hL:HR P c body)(hw:ES c.keep body){g:AI ly->AI lx->Bool}{next:AI ly->AI lx->AI lx}{ok:AI ly->AI lx->Prop}{es:AI ly->AI lx->List Comp}(kx:∀y x,NF c body ly lx les y x=some (ok y x,g y x,y,next y x,es y x)):∀S out,Iu ly lx g next ok es S=some out->WI P c (.loop body) S out:=by intro S out h kg rd χ0 w0 vs a w G hR hk;unfold Iu at h;split at h;rename_i y x hy hx;injection h with h;subst h;(have qb:∀y x,∃o m,eval c body (Ez ly lx y x)=some o/\B5 0 o.comps=some m/\JU o.ok=ok y x/\tk m.g=g y x/\Er ly (m.d++Ez ly lx y x)=some y/\Er lx (m.d++Ez ly lx y x)=some (next y x)/\j7 (Ez ly lx y x) (Ey 0 o.comps) les=some (es y x):=by intro y x;have:=kx y x;unfold NF at this;split at this;cases this;rename_i o ho;split at this;cases this;rename_i m hm;split at this;rename_i y' x' es' C h2 h3;simp only[jA,jG] at this;obtain⟨e1,e2,rfl,rfl,rfl⟩:=this;exact⟨o,m,ho,hm,e1,e2,C,h2,h3⟩;cases this);let O:AI ly->AI lx->Out:=λy x=>(eval c body (Ez ly lx y x)).getD ⟨[],[]⟩;(have hO:∀y x,eval c body (Ez ly lx y x)=some (O y x):=by intro y x;obtain⟨o,m,C,_⟩:=qb y x;simp only[O,C,Option.getD_some]);(have J:j6 ly lx g next ok (λy x=>(O y x).comps) S=some ⟨[AB (g y) (next y) (ok y) x],Po (Ez ly lx y (A3 (g y) (next y) x)) (O y (A3 (g y) (next y) x)).comps⟩:=by unfold j6;rw[hy,hx]);have hsnd:=xF9 hc hm hL hw (g:=g) (next:=next) (ok:=ok) (comps:=λy x=>(O y x).comps) (oks:=λy x=>(O y x).ok) hO (λy x hx=>by obtain⟨o,m,C,h2,h3,_⟩:=qb y x;have:=hO y x;rw[C] at this;injection this with this;rw[<-this,h3];exact hx) (λy x=>by obtain⟨o,m,C,h2,h3,h4,h5,h6,h7⟩:=qb y x;have:=hO y x;rw[C] at this;injection this with this;exact⟨m,by rw[<-this];exact h2,h4,h5,h6⟩) S _ J kg rd χ0 w0 vs a w G hR hk;refine wpIn_mono hsnd λe a' w' hP=>⟨?_,hP.2⟩;obtain⟨k,cp,G',q1,R,q3,q4,q5⟩:=hP.1;obtain⟨o,m,C,h2,h3,h4,h5,h6,h7⟩:=qb y (A3 (g y) (next y) x);have I:=hO y (A3 (g y) (next y) x);rw[C] at I;injection I with I;(have ku:∀k',B5 k' (Po (Ez ly lx y (A3 (g y) (next y) x)) (O y (A3 (g y) (next y) x)).comps)=(B5 k' (Ey 0 o.comps)).map λcp=>⟨cp.kind,cp.g,cp.d++Ez ly lx y (A3 (g y) (next y) x)⟩:=by intro k';unfold Po;rw[fR (f:=λcp=>⟨cp.kind,cp.g,cp.d++Ez ly lx y (A3 (g y) (next y) x)⟩) (λ_=>rfl),I]);rw[ku] at R;rcases xP (k:=k) h7 with ⟨_,e2⟩ | ⟨c1,c2,e1,e2,e3,e4,e5⟩;rw[e2] at R;cases R;rw[e1] at R;simp only[Option.map_some,jA] at R;subst R;(have htk:tk c2.g:=by rcases e3 with e3|⟨e3,_⟩;rw[e3];exact q3;rw[e3];rfl);refine⟨k,c2,G',q1,e2,htk,λk' c' hf ht=>?_,?_⟩;rcases xP (k:=k') h7 with ⟨f1,_⟩ | ⟨d1,d2,f1,f2,f3,_,_⟩;rw[f1] at hf;cases hf;rw[f2] at hf;injection hf with hf;subst hf;rcases f3 with f3|⟨_,f3⟩;refine q4 k' ⟨d1.kind,d1.g,d1.d++Ez ly lx y (A3 (g y) (next y) x)⟩ (by rw[ku,f1];rfl) ?_;rw[f3] at ht;exact ht;exact (f3 k c1 e1).symm;have r1:Rel c.n χ0 w0 (c1.d++Ez ly lx y (A3 (g y) (next y) x)) a' w' G':=fK (λs=>(yX4 (WG xA7)).symm) q5;exact fK (λs=>yX4 e4) (e5.rel r1);cases h
def Iv [GlobTab] (c:Ctx)(code:Code)(rv:List ResultVar)(ps:List (Nat×Sh))(rs:Sh)(os:List (Nat×Sh))(x:AI ps):Option (Prop×rs.den×Eh os):=
 match eval c code (Ei ps x) with
 |none=>none
 |some o=>match Pp (Ei ps x) o.comps with
  |none=>none
  |some d=>match JY c (d++Ei ps x) rv,JZ os (d++Ei ps x) with
   |some r,some z=>(match rs.parse r with|some v=>some (JU o.ok,v,z)|none=>none)
   |_,_=>none
variable {rv:List ResultVar}
theorem xU2(hc:CtxOk P c)(hm:P.follows .mixedOrders)(hf:P.funcs[f]?=some fn)(hb:fn.body=some code)(kY:fn.name≠"runtime.NumGoroutine") (hn:fn.ntmps=c.n) (hL:HR P c code) (hw:ES c.keep code){ok:AI ps->Prop}{F:AI ps->rs.den}{o:AI ps->Eh os}(iD:(Pr 0 ps&&WJ ps c.keep os&&ble ps.length c.n))(hrv:fn.results.toList=rv) (kx:∀x,Iv c code rv ps rs os x=some (ok x,F x,o x)):SpecOk P f (fnSpec ps rs os ok F o):=by (have qb:∀x,∃out d r,eval c code (Ei ps x)=some out/\Pp (Ei ps x) out.comps=some d/\JY c (d++Ei ps x) fn.results.toList=some r/\rs.parse r=some (F x)/\JZ os (d++Ei ps x)=some (o x)/\JU out.ok=ok x:=by intro x;have:=kx x;unfold Iv at this;grind);let O:AI ps->Out:=λx=>(eval c code (Ei ps x)).getD ⟨[],[]⟩;let D:AI ps->St:=λx=>(Pp (Ei ps x) (O x).comps).getD [];let R:AI ps->AVal:=λx=>(JY c (D x++Ei ps x) fn.results.toList).getD .junk;(have hO:∀x,eval c code (Ei ps x)=some (O x)/\Pp (Ei ps x) (O x).comps=some (D x)/\JY c (D x++Ei ps x) fn.results.toList=some (R x)/\rs.parse (R x)=some (F x)/\JZ os (D x++Ei ps x)=some (o x)/\JU (O x).ok=ok x:=by intro x;obtain⟨out,d,r,h1,h2,h3,h4,h5,h6⟩:=qb x;grind);exact xG0 hc hm hf hb kY hn hL hw (oks:=λx=>(O x).ok) (comps:=λx=>(O x).comps) (d:=D) (res:=R) iD (λx=>(hO x).1) (λx hx=>by grind) (λx=>(hO x).2.1) (λx=>(hO x).2.2.1) (λx=>(hO x).2.2.2.1) (λx=>(hO x).2.2.2.2.1)
variable {gtab:GlobTab}{P:Program}{c:Ctx}
def zG:Code->List Code
 |.seq a b=>zG a++zG b
 |.cond _ a b=>zG a++zG b
 |.block _ a=>zG a
 |.loop a=>[a]
 |_=>[]
def SN (cd:Code)(i:Nat):Code:=(zG cd).getD i .skip
def yY [GlobTab] (P:Program)(c:Ctx)(b:Code):Prop:=∀S out,look (λ_=>none) c.loops (Ij b) S=some out->WI P c (.loop b) S out
def GS [GlobTab] (P:Program)(c:Ctx):List Code->Prop
 |[]=>True
 |b::r=>yY P c b/\GS P c r
theorem zX5:∀{l r:List Code},GS P c (l++r)->GS P c l/\GS P c r:=by intro l;induction l with|nil=>intro r h;exact⟨trivial,h⟩|cons b l C=>intro r h;have:=C h.2;exact⟨⟨h.1,this.1⟩,this.2⟩
theorem yH5:∀{code:Code}{bs:List Code},zG code=bs->GS P c bs->HR P c code:=by intro code;induction code with|seq a b gA gq=>intro bs he h;subst he;simp only[zG] at h;have:=zX5 h;exact⟨gA rfl this.1,gq rfl this.2⟩|cond x a b gA gq=>intro bs he h;subst he;simp only[zG] at h;have:=zX5 h;exact⟨gA rfl this.1,gq rfl this.2⟩|block id a C=>intro bs he h;subst he;simp only[zG] at h;exact C rfl h|loop a _=>intro bs he h;subst he;simp only[zG] at h;exact h.1|_=>intro bs _ _;trivial
def NG [GlobTab] (P:Program):List (Nat×Spec)->Prop
 |[]=>True
 |(f,sp)::r=>SpecOk P f sp/\NG P r
theorem yN9:∀{l:List (Nat×Spec)},NG P l->∀f sp,(f,sp)∈l->SpecOk P f sp:=by intro l;induction l with|nil=>intro _ f sp h;cases h|cons e r C=>intro h f sp hm;obtain⟨g,s⟩:=e;rcases mem_cons.1 hm with e|hm;simp only[jG] at e;obtain⟨rfl,rfl⟩:=e;exact h.1;exact C h.2 f sp hm
def xP0 [GlobTab] (P:Program):List (Nat×(List AVal->Option (List Prop×AVal)))->Prop
 |[]=>True
 |(f,e)::r=>Pg P f e/\xP0 P r
theorem xP1:∀{l:List (Nat×(List AVal->Option (List Prop×AVal)))},xP0 P l->∀f e,(f,e)∈l->Pg P f e:=by intro l;induction l with|nil=>intro _ f e h;cases h|cons q r C=>intro h f e hm;obtain⟨g,J⟩:=q;rcases mem_cons.1 hm with hm|hm;injection hm with e1 I;subst e1;subst I;exact h.1;exact C h.2 f e hm
theorem xZ9 (ht:E3 P c.tys)(ia:(Jq P c.maps&&Jp P c.fts))(C:NG P c.fns)(he:xP0 P c.exts)(I:ble c.n BO)(kt:c.clones=[]:=by rfl):CtxOk P c:=⟨ht,yN9 C,xP1 he,((jB _ _).mp ia).1,((jB _ _).mp ia).2,jR I,λf k h=>by rw[kt] at h;cases h⟩
theorem j8 (ht:E3 P c.tys)(ia:(Jq P c.maps&&Jp P c.fts))(C:NG P c.fns)(he:c.exts=[])(I:ble c.n BO)(kt:c.clones=[]:=by rfl):CtxOk P c:=⟨ht,yN9 C,(λf e h=>by rw[he] at h;cases h),((jB _ _).mp ia).1,((jB _ _).mp ia).2,jR I,λf k h=>by rw[kt] at h;cases h⟩
theorem wA(ht:E3 P c.tys)(ia:(Jq P c.maps&&Jp P c.fts))(C:NG P c.fns)(he:c.exts=[])(I:ble c.n BO)(kt:c.clones=[(f,k)])(J:xJ8 P f k):CtxOk P c:=⟨ht,yN9 C,(λf e h=>by rw[he] at h;cases h),((jB _ _).mp ia).1,((jB _ _).mp ia).2,jR I,λR k' h=>by rw[kt,jH] at h;cases h;exact J⟩
variable {bs:List Code}
theorem xU3(C:CtxOk P c)(hm:P.follows .mixedOrders)(hb:zG body=bs)(I:GS P c bs)(hw:ES c.keep body){g:AI ly->AI lx->Bool}{next:AI ly->AI lx->AI lx}{ok:AI ly->AI lx->Prop}{es:AI ly->AI lx->List Comp}(J:look (λ_=>none) c.loops (Ij body)=Iu ly lx g next ok es)(kx:∀y x,NF c body ly lx les y x=some (ok y x,g y x,y,next y x,es y x)):yY P c body:=by intro S out h;rw[J] at h;exact xU1 C hm (yH5 hb I) hw kx S out h
theorem xU4(hc:CtxOk P c)(hm:P.follows .mixedOrders)(hf:P.funcs[f]?=some fn)(hb:fn.body=some code)(kY:fn.name≠"runtime.NumGoroutine") (hn:fn.ntmps=c.n)(iF:zG code=bs) (hL:GS P c bs) (hw:ES c.keep code){ok:AI ps->Prop}{F:AI ps->rs.den}{o:AI ps->Eh os}(iD:(Pr 0 ps&&WJ ps c.keep os&&ble ps.length c.n))(hrv:fn.results.toList=rv) (kx:∀x,Iv c code rv ps rs os x=some (ok x,F x,o x)):SpecOk P f (fnSpec ps rs os ok F o):=xU2 hc hm hf hb kY hn (yH5 iF hL) hw iD hrv kx
theorem xY5(hf:P.funcs[f]?=some fn)(hb:fn.body.isSome)(kY:fn.name≠"runtime.NumGoroutine"){F:AI ps->rs.den}{o:AI ps->Eh os}:SpecOk P f (fnSpec ps rs os (λ_=>False) F o):=by refine⟨⟨fn,hf,hb,kY⟩,λargs co hsp kg=>?_⟩;unfold fnSpec at hsp;generalize Nat.beq args.length ps.length=b at hsp;cases b with|false=>cases hsp|true=>simp only[jE] at hsp;split at hsp;injection hsp with hsp;subst hsp;exact (kg _ (jQ ..)).elim;cases hsp
theorem wA0{R:Nat->AI ps->Prop×rs.den×Eh os}(h:∀k,SpecOk P f (fnSpec ps rs os (λx=>(R k x).1) (λx=>(R k x).2.1) (λx=>(R k x).2.2)))(m:AI ps->Nat):SpecOk P f (fnSpec ps rs os (λx=>(R (m x) x).1) (λx=>(R (m x) x).2.1) (λx=>(R (m x) x).2.2)):=by refine⟨(h 0).1,λargs co C kg=>?_⟩;unfold fnSpec at C;generalize hb:Nat.beq args.length ps.length=b at C;cases b with|false=>cases C|true=>simp only[jE] at C;split at C;rename_i x I;refine (h (m x)).2 args co ?_ kg;unfold fnSpec;rw[hb,jE,I];exact C;cases C
@[reducible] def vI:Sh:=.val (.int .i64)
@[reducible] def vB:Sh:=.val .bool
@[reducible] def vS:Sh:=.val .str
def ex (k:Nat)(g:Option Bool)(l:List (Nat×Sh))(v:AI l):Comp:=⟨k,g,Lg l v++ND⟩
@[reducible] def Cx (tys:List (Nat×Ty)) (fns:List (Nat×Spec)) (loops:List (Nat×(St->Option Out))) (gh:List (Nat×List (Nat×Nat×Nat×Nat))) (wrap:Bool) (n:Nat) (keep wr:List Nat):Ctx:=
 {tys,fns,loops,gh,wrap,n,keep,wr }
theorem j9(C:CtxOk P c)(hm:P.follows .mixedOrders){sp:St->Option Out}{g:AI ly->AI lx->Bool}{next:AI ly->AI lx->AI lx}{ok:AI ly->AI lx->Prop}{es:AI ly->AI lx->List Comp}(I:sp=Iu ly lx g next ok es)(les:List (List (Nat×Sh)))(hb:zG body=bs)(J:GS P c bs)(hw:ES c.keep body)(R:look (λ_=>none) c.loops (Ij body)=sp)(kx:∀y x,NF c body ly lx les y x=some (ok y x,g y x,y,next y x,es y x)):yY P c body:=by subst I;exact xU3 C hm hb J hw R kx
def Ps (fn:Func)(c:Ctx)(ps:List (Nat×Sh))(os:List (Nat×Sh)):Bool:=
 fn.body.isSome&&(!(fn.name=="runtime.NumGoroutine")&&(Nat.beq fn.ntmps c.n&&(ES c.keep (fn.body.getD .skip)&&(Pr 0 ps&&WJ ps c.keep os&&ble ps.length c.n))))
theorem WK(J:CtxOk P c)(hm:P.follows .mixedOrders)(R:P.funcs[f]?=some fn){ok:AI ps->Prop}{F:AI ps->rs.den}{o:AI ps->Eh os}(C:Ps fn c ps os)(iF:zG (fn.body.getD .skip)=bs)(hL:GS P c bs)(kx:∀x,Iv c (fn.body.getD .skip) fn.results.toList ps rs os x=some (ok x,F x,o x)):SpecOk P f (fnSpec ps rs os ok F o):=by simp only[Ps,jB,jK,beq_eq_false_iff_ne,ne_eq] at C;obtain⟨h1,h2,h3,I,h5⟩:=C;obtain⟨code,hb⟩:=Option.isSome_iff_exists.1 h1;rw[hb,Option.getD_some] at I iF kx;exact xU4 J hm R hb h2 (jC h3) iF hL I (by simpa only[jB] using h5) rfl kx
theorem zU9:∀{l r:List Code},GS P c l->GS P c r->GS P c (l++r) |[],_,_,h=>h|_::_,_,⟨C,I⟩,h=>⟨C,zU9 I h⟩
structure Li where
 ly:List (Nat×Sh)
 lx:List (Nat×Sh)
 g:AI ly->AI lx->Bool
 next:AI ly->AI lx->AI lx
 ok:AI ly->AI lx->Prop
 es:AI ly->AI lx->List Comp
 les:List (List (Nat×Sh))
def Li.sp (l:Li):St->Option Out:=Iu l.ly l.lx l.g l.next l.ok l.es
def Lj:Code->List Code
 |.seq a b=>Lj a++Lj b
 |.cond _ a b=>Lj a++Lj b
 |.block _ a=>Lj a
 |.loop a=>a::Lj a
 |_=>[]
abbrev wC8:Type:=Option (Σ l:Li,Bool×(St->Option Out)×(AI l.ly->AI l.lx->Option (Prop×Bool×AI l.ly×AI l.lx×List Comp)))
def SO [GlobTab] (c:Ctx):List Code->List (Nat×Li)->List wC8
 |b::bs,(_,l)::ls=>some ⟨l,ES c.keep b,look (λ_=>none) c.loops (Ij b),λy x=>NF c b l.ly l.lx l.les y x⟩::SO c bs ls
 |_::_,[]=>[none]
 |[],_=>[]
def SP:List (Nat×Li)->List wC8
 |[]=>[]
 |(_,l)::ls=>some ⟨l,true,l.sp,λy x=>some (l.ok y x,l.g y x,y,l.next y x,l.es y x)⟩::SP ls
def wC9 [GlobTab] (c:Ctx)(b:Code):Prop:=∃l:Li,ES c.keep b/\look (λ_=>none) c.loops (Ij b)=l.sp/\∀y x,NF c b l.ly l.lx l.les y x=some (l.ok y x,l.g y x,y,l.next y x,l.es y x)
theorem xA9:∀{bs:List Code}{ls:List (Nat×Li)},SO c bs ls=SP ls->∀b∈bs,wC9 c b |[],_,_,_,h=>nomatch h|_::_,[],h,_,_=>by cases h|b::bs,(_,l)::ls,h,C,hb=>by simp only[SO,SP,List.cons.injEq,jA,Sigma.mk.injEq,heq_eq_eq,jG,true_and] at h;obtain⟨⟨I,J,R⟩,h4⟩:=h;rcases mem_cons.1 hb with rfl|hb;exact⟨l,I,J,λy x=>congrFun (congrFun R y) x⟩;exact xA9 h4 C hb
theorem xP2 (J:CtxOk P c)(hm:P.follows .mixedOrders):∀{code:Code},(∀b∈Lj code,wC9 c b)->GS P c (zG code):=by intro code;induction code with|seq a b gA gq=>intro h;exact zU9 (gA λx C=>h x (mem_append_left _ C)) (gq λx C=>h x (mem_append_right _ C))|cond x a b gA gq=>intro h;exact zU9 (gA λx C=>h x (mem_append_left _ C)) (gq λx C=>h x (mem_append_right _ C))|block id a I=>intro h;exact I h|loop a I=>intro h;obtain⟨l,R,h2,h3⟩:=h a (jQ ..);exact⟨j9 J hm rfl l.les rfl (I λx C=>h x (jP _ C)) R h2 h3,trivial⟩|_=>intro _;trivial
structure Fb [GlobTab] (P:Program) where
 n:Nat
 s:Spec
 h:SpecOk P n s
def Fb.l [GlobTab]{P:Program}:List (Fb P)->List (Nat×Spec)
 |[]=>[]
 |b::r=>(b.n,b.s)::Fb.l r
theorem Fb.all:∀l:List (Fb P),NG P (Fb.l l) |[]=>trivial|b::r=>⟨b.h,Fb.all r⟩
def Li.l:List (Nat×Li)->List (Nat×(St->Option Out))
 |[]=>[]
 |(k,l)::r=>(k,l.sp)::Li.l r
theorem wD6(C:CtxOk P c)(hm:P.follows .mixedOrders)(I:P.funcs[f]?=some fn){ok:AI ps->Prop}{F:AI ps->rs.den}{o:AI ps->Eh os}(J:Ps fn c ps os){ls:List (Nat×Li)}(R:SO c (Lj (fn.body.getD .skip)) ls=SP ls)(kx:∀x,Iv c (fn.body.getD .skip) fn.results.toList ps rs os x=some (ok x,F x,o x)):SpecOk P f (fnSpec ps rs os ok F o):=WK C hm I J rfl (xP2 C hm (xA9 R)) kx
def F5 (k:IntKind)(a b:Int):Int:=OS k (λx y=>x &&& y) a b
def ior (k:IntKind)(a b:Int):Int:=OS k (λx y=>x ||| y) a b
def EW (a b:Int)(n:Nat):Int:=a.fdiv (2 ^ (min b.toNat n))
def nth {α:Type}(l:List α)(i:Int)(d:α):α:=l.getD i.toNat d
def A7 (i n:Int):Prop:=0<=i/\i<n
def len {α:Type}(l:List α):Int:=(l.length:Int)
def wD (s:List UInt8)(i:Int):Int:=((s.getD i.toNat 0).toNat:Int)
variable {gtab:GlobTab}{P:Program}
def xB:List AVal->Option (List Prop×AVal)
 |[.val (.int .u64) x,.val (.int .u64) y,.val (.int .u64) c] =>
  some ([0<=c/\c<=1],.tup (.cons (.val (.int .u64) (((toNat x+toNat y+toNat c) % 18446744073709551616:Nat):Int)) (.cons (.val (.int .u64) (((toNat x+toNat y+toNat c) / 18446744073709551616:Nat):Int)) .nl)))
 |_=>none
def k7:List AVal->Option (List Prop×AVal)
 |[.val .str s,.val (.int .u8) c]=>some ([],.val (.int .i64) (Lib.indexByte s (toNat c).toUInt8))
 |_=>none
variable {vals:List Value}
theorem xU7{G:Gh}{w:World}{tm:Array Value}(h:C2 (zA G w tm none) [A,B] vals):∃u v,vals=[u,v]/\zA G w tm none A u/\zA G w tm none B v:=by match vals,h with |[u,v],h=>simp only[C2] at h;exact⟨u,v,rfl,h.1,h.2.1⟩|[],h=>simp[C2] at h|[_],h=>simp[C2] at h|_::_::_::_,h=>simp[C2] at h
theorem xG2{G:Gh}{w:World}{tm:Array Value}{C:AVal}(h:C2 (zA G w tm none) [A,B,C] vals):∃u v x,vals=[u,v,x]/\zA G w tm none A u/\zA G w tm none B v/\zA G w tm none C x:=by match vals,h with |[u,v,x],h=>simp only[C2] at h;exact⟨u,v,x,rfl,h.1,h.2.1,h.2.2.1⟩|[],h=>simp[C2] at h|[_],h=>simp[C2] at h|[_,_],h=>simp[C2] at h|_::_::_::_::_,h=>simp[C2] at h
theorem xV4(hf:P.funcs[f]?=some fn)(kY:(fn.name=="runtime.NumGoroutine")=false) (hb:fn.body.isNone=true) (hn:(Extern.findNext fn).isNone=true) (he:Extern.find fn=some Extern.BytealgIndexByte.indexByte):Pg P f k7:=by intro args p A h _ G w tm vals hv;unfold k7 at h;split at h;simp only[jA,jG] at h;obtain⟨rfl,rfl⟩:=h;obtain⟨u,v,rfl,h1,h2⟩:=xU7 hv;simp only[zA] at h1 h2;rw[VRep_str] at h1;rw[VRep_int] at h2;subst h1;subst h2;refine⟨_,?_,zD⟩;rw[run_callFunc_extern hf kY hb (Option.isNone_iff_eq_none.1 hn) he,Lib.run_indexByteString];rfl;cases h
theorem wB7(hf:P.funcs[f]?=some fn)(kY:(fn.name=="runtime.NumGoroutine")=false) (hb:fn.body.isNone=true) (hn:(Extern.findNext fn).isNone=true) (he:Extern.find fn=some add64Entry):Pg P f xB:=by intro args p A h hp G w tm vals hv;unfold xB at h;split at h;rename_i x y c;simp only[jA,jG] at h;obtain⟨rfl,rfl⟩:=h;have hc:(0:Int)<=c/\(c:Int)<=1:=hp _ (jQ ..);obtain⟨u,v,q,rfl,h1,h2,h3⟩:=xG2 hv;simp only[zA] at h1 h2 h3;rw[VRep_int] at h1 h2 h3;subst h1;subst h2;subst h3;refine⟨Extern.MathBitsCarry.pair ((toNat x+toNat y+toNat c) % Extern.MathBitsCarry.m64) ((toNat x+toNat y+toNat c) / Extern.MathBitsCarry.m64),?_,?_⟩;rw[run_callFunc_extern hf kY hb (Option.isNone_iff_eq_none.1 hn) he];(have key:∀k:Nat,k<=1->(add64Entry #[.int .u64 x,.int .u64 y,.int .u64 (k:Int)]).run P w=.ok (Extern.MathBitsCarry.pair ((toNat x+toNat y+k) % Extern.MathBitsCarry.m64) ((toNat x+toNat y+k) / Extern.MathBitsCarry.m64)) w:=by intro k hk;(have:k=0\/k=1:=by omega);rcases this with rfl|rfl<;>rfl);obtain⟨k,hk⟩:=Int.eq_ofNat_of_zero_le hc.1;have h0:c=((k:Nat):Int):=hk;(have nf:k<=1:=by have h1:=hc.2;rw[h0] at h1;exact Int.ofNat_le.1 h1);rw[h0];show ((add64Entry #[.int .u64 x,.int .u64 y,.int .u64 (k:Int)]).run P w).andThen _=_;rw[key k nf];rfl;simp only[zA,Extern.MathBitsCarry.pair,Extern.MathBitsCarry.m64];exact⟨_,[_],rfl,zD (s:=none) (tm:=tm),_,[],rfl,zD (s:=none) (tm:=tm),rfl⟩;cases h
open Go
instance (r:Int):Decidable (A6 r):=inferInstanceAs (Decidable (_/\_))
instance (i n:Int):Decidable (A7 i n):=inferInstanceAs (Decidable (_/\_))
def WL {X:Type}(g:X->Bool)(next:X->X)(okb:X->Bool):Nat->X->Bool
 |0,_=>false
 |k+1,x=>okb x&&(cond (g x) (WL g next okb k (next x)) true)
theorem xU8{X:Type}{g:X->Bool}{next:X->X}{ok:X->Prop}{okb:X->Bool}(h:∀x,okb x=true↔ok x):∀{F:Nat}{x:X},WL g next okb F x=true↔∃k,k<F/\Runs g next ok k x:=by intro F;induction F with|zero=>intro x;simp[WL]|succ F R=>intro x;simp only[WL,jB,h];cases I:g x with|false=>simp only[jD,and_true];constructor;intro J;exact⟨0,by omega,J,I⟩;rintro⟨k,_,C⟩;(cases k with|zero=>exact C.1|succ k=>exact C.1)|true=>simp only[jE,R];constructor;rintro⟨J,k,hk,C⟩;exact⟨k+1,by omega,J,I,C⟩;rintro⟨k,hk,C⟩;cases k with|zero=>rw[C.2] at I;cases I|succ k=>exact⟨C.1,k,by omega,C.2.2⟩
instance {X:Type}{g:X->Bool}{next:X->X}{ok:X->Prop}[inst:∀x,Decidable (ok x)] (x:X):Decidable (AB g next ok x):=decidable_of_iff (WL g next (λx=>decide (ok x)) AW x=true) (xU8 λx=>by simp)
variable {gtab:GlobTab}{P:Program}{w:World}{χ:Nat->Nat->Nat}
def Ty.deep:Ty->Bool
 |.ptr _=>false|.cons h t=>h.deep&&t.deep|.st f=>f.deep|.arr _ t=>t.deep|.sl t=>blt 0 t.size&&t.deep|_=>true
def Ty.wf:(τ:Ty)->τ.den->Prop
 |.int k,x=>k.min<=x/\x<=k.max
 |.bool,_=>True
 |.str,s=>length (α:=UInt8) s<=maxLen
 |.nl,_=>True
 |.cons h t,x=>h.wf x.1/\t.wf x.2
 |.st f,x=>f.wf x
 |.arr n t,l=>length (α:=t.den) l=n/\∀y∈(l:List t.den),t.wf y
 |.sl t,l=>length (α:=t.den) l<=maxLen/\∀y∈(l:List t.den),t.wf y
 |.ptr t,x=>t.wf x
theorem xG3{f:Nat->Value}(sz:Nat):∀n,(range n).flatMap (λi=>(range sz).map λk=>f (i*sz+k))=(range (n*sz)).map f:=by intro n;induction n<;>simp_all [Nat.succ_mul,List.range_add]
variable {cs:List Value}
theorem xP4(sz:Nat):∀n,(range n).flatMap (λi=>(cs.drop (i*sz)).take sz)=cs.take (n*sz):=by intro n;induction n<;>simp_all [List.range_succ,Nat.succ_mul,List.take_add]
theorem WM(h:AY P τ (.inl T)):P.cellsOf T=τ.size:=by obtain⟨⟨i,z,C,I,_⟩,_⟩:=GP h;grind [Program.cellsOf]
theorem cells?_is{a:Addr}{n:Nat}(h:w.cells? 0 a n=some cs):cs=(range n).map (λk=>(w.cell? (a.add k)).getD undef)/\∀k,k<n->∃v,w.cell? (a.add k)=some v:=by simp[World.cells?] at h;generalize C:(λi=>w.cell? (a.add i))=f at h;(have key:∀(l:List Nat) (cs:List Value),l.mapM f=some cs->cs=l.map (λk=>(f k).getD undef)/\∀k∈l,∃v,f k=some v:=by intro l;induction l<;>simp_all [Option.bind_eq_some_iff]);have:=key _ _ h;subst C;simp_all
theorem xP5 (a:Addr)(m k:Nat):(a.add m).add k=a.add (m+k):=by grind [Addr.add,Nat.add_assoc]
theorem yS6{a:Addr}(h:w.cell? a=some v):a.spot=none/\a.block<w.heap.size:=by unfold cell? at h;split at h;rename_i c _ _ hb;split at h;grind;refine⟨by simp_all,zE hb⟩;grind
section
variable {H:Type}{enc:TypeId×Value->H}{sp:Nat->Bool}{held:Bool}
end
end Go.Am
