/- The abstract machine, part 4: a typed interpreter for the program's code, and that it is sound. No condition. -/
import Derived.Test.YtgjkpohjjmkkgaaGreatDoorMach3
import Derived.Lib.Bytealg
import Derived.ProofKit
import Derived.Carry
import Derived.ChangeSame
namespace Go.Am
open Go Go.RowKit
inductive Sh where
 |val (τ:Ty)|own (t:Ty) (T:Nat) (m:Bool)|nl|cons (a b:Sh)|agg (f:Ty) (s:Sh)|box (τ:Ty) (s:Sh)|ref (s:Nat) (τ:Ty)|tup (s:Sh)|fn (f:Nat) (s:Sh)|any|nil|nn (b:Bool)|fptr (f:Nat) (caps:List (Option (Nat×Ty)))|ownh (t:Ty) (T U:Nat) (m:Bool)
@[reducible] def Sh.den:Sh->Type
 |.val τ=>τ.den|.own t _ _=>List t.den|.nl=>Unit|.cons a b=>a.den×b.den|.agg _ s=>s.den|.box _ s=>s.den|.ref _ _=>Unit|.tup s=>s.den|.fn _ s=>s.den|.any=>Unit|.nil=>Unit|.nn _=>Unit|.fptr _ _=>Unit|.ownh t _ _ _=>List (List t.den)×Nat
def Sh.mk:(s:Sh)->s.den->AVal
 |.val τ,x=>.val τ x
 |.own t T m,l=>.own t l T m
 |.nl,_=>.nl
 |.cons a b,x=>.cons (a.mk x.1) (b.mk x.2)
 |.agg f s,x=>.agg f (s.mk x)
 |.box τ s,x=>.box τ (s.mk x)
 |.ref s τ,_=>.ref s τ []
 |.tup s,x=>.tup (s.mk x)
 |.fn f s,x=>.fn f (s.mk x)
 |.any,_=>.junk
 |.nil,_=>.nil
 |.nn b,_=>.nn b
 |.fptr f caps,_=>.fptr f caps
 |.ownh t T U m,x=>.ownh t x.1 T x.2 U m
def yX1 (t:Ty)(T:Nat)(m:Bool):AVal->Option (List t.den)
 |.nil=>cond (t.plain&&!t.isL) (some []) none
 |.own t' l T' m'=>cond (Nat.beq T T'&&(m==m')) (Ty.cast (a:=.sl t') (.sl t) l) none
 |_=>none
def yJ9 (t:Ty)(T U:Nat)(m:Bool):AVal->Option (List (List t.den)×Nat)
 |.ownh t' l T' i U' m'=>cond (Nat.beq T T'&&Nat.beq U U'&&(m==m')) (match Ty.cast (a:=.sl (.sl t')) (.sl (.sl t)) l with|some l2=>some (l2,i)|none=>none) none
 |.own t' l T' true=>cond (Nat.beq T T'&&!(Nat.beq T U)&&t.plain&&!t.isL) (match Ty.cast (a:=.sl t') (.sl (.sl t)) l with|some l2=>some (l2,List.length (α:=List t.den) l2)|none=>none) none
 |_=>none
def xA1:AVal->Bool
 |.nil=>true|_=>false
def xT (b:Bool):AVal->Bool
 |.nn b'=>b==b' | _=>false
def yB5:List (Option (Nat×Ty))->List (Option (Nat×Ty))->Bool
 |[],[]=>true
 |none::r,none::r'=>yB5 r r'
 |some (k,τ)::r,some (k',τ')::r'=>Nat.beq k k'&&Ty.beq τ τ'&&yB5 r r'
 |_,_=>false
def xA2 (f:Nat)(caps:List (Option (Nat×Ty))):AVal->Bool
 |.fptr f' caps'=>Nat.beq f f'&&yB5 caps caps'
 |_=>false
def xT0:AVal->Bool
 |.nl=>true|_=>false
def yK (s:Nat)(τ:Ty):AVal->Bool
 |.ref s' τ' []=>Nat.beq s s'&&Ty.beq τ τ'
 |_=>false
def wA3 (f:Nat):AVal->Option AVal
 |.fn f' c=>cond (Nat.beq f f') (some c) none
 |_=>none
def xF4 (f:Ty):AVal->Option AVal
 |.agg f' c=>cond (Ty.beq f f') (some c) none
 |_=>none
def xN5 (τ:Ty):AVal->Option AVal
 |.box τ' c=>cond (Ty.beq τ τ') (some c) none
 |_=>none
def xT1:AVal->Option AVal
 |.tup c=>some c
 |_=>none
def yK0:AVal->Option (AVal×AVal)
 |.cons a b=>some (a,b)
 |_=>none
def Sh.parse:(s:Sh)->AVal->Option s.den
 |.val τ,A=>cond τ.isL none (AVal.as τ A)
 |.own t T m,A=>yX1 t T m A
 |.nl,A=>cond (xT0 A) (some ()) none
 |.cons a b,A=>match yK0 A with
  |some (x,y)=>(match a.parse x,b.parse y with|some p,some q=>some (p,q)|_,_=>none)
  |none=>none
 |.agg f s,A=>match xF4 f A with
  |some c=>(match s.parse c with|some x=>cond ((s.mk x).fitsT f) (some x) none|none=>none)
  |none=>none
 |.box τ s,A=>match xN5 τ A with
  |some c=>(match s.parse c with|some x=>cond ((s.mk x).fitsT τ) (some x) none|none=>none)
  |none=>none
 |.ref s τ,A=>cond (yK s τ A) (some ()) none
 |.tup s,A=>match xT1 A with
  |some c=>s.parse c
  |none=>none
 |.fn f s,A=>match wA3 f A with
  |some c=>s.parse c
  |none=>none
 |.any,_=>some ()
 |.nil,A=>cond (xA1 A) (some ()) none
 |.nn b,A=>cond (xT b A) (some ()) none
 |.fptr f caps,A=>cond (xA2 f caps A) (some ()) none
 |.ownh t T U m,A=>yJ9 t T U m A
variable {gtab:GlobTab}{P:Program}{c:Ctx}{G:Gh}{w:World}{tm:Array Value}{n:Nat}{χ0:Nat->Nat->Nat}{w0:World}{S:St}{a:Act}
theorem xT2:∀{l l':List (Option (Nat×Ty))},yB5 l l'=true->l=l':=by intro l;induction l with|nil=>intro l' h;(cases l' with|nil=>rfl|cons _ _=>simp[yB5] at h)|cons q r o=>intro l' h;cases q with|none=>(cases l' with|nil=>simp[yB5] at h|cons j C=>cases j with|none=>simp only[yB5] at h;rw[o h]|some _=>simp[yB5] at h)|some q=>cases l' with|nil=>simp[yB5] at h|cons j C=>cases j with|none=>simp[yB5] at h|some j=>obtain⟨k,τ⟩:=q;obtain⟨I,τ'⟩:=j;simp only[yB5,jB] at h;rw[jC h.1.1,Ty.eq_of_beq h.1.2,o h.2]
theorem yH1 {t:Ty}{T:Nat}{m:Bool}{A:AVal}{l:List t.den}{v:Value}{os:Option Nat}(h:yX1 t T m A=some l)(j:zA G w tm os A v):zG0 G w t l T m v:=by cases A with|nil=>simp only[yX1] at h;generalize o:(t.plain&&!t.isL)=b at h;(cases b with|false=>cases h|true=>simp only[jE,jA] at h;subst h;simp only[zA] at j;subst j;exact zX o)|own t' l' T' C=>simp only[yX1] at h;generalize hb:(Nat.beq T T'&&(m==C))=b at h;(cases b with|false=>cases h|true=>simp only[jE] at h;simp only[jB,beq_iff_eq] at hb;have e:=jC hb.1;obtain⟨_,hb⟩:=hb;subst e;subst hb;obtain⟨e,I⟩:=yN3 h;subst e;have:=eq_of_heq I;subst this;simpa only[zA] using j)|_=>simp[yX1] at h
theorem yK1:∀{s:Sh}{A:AVal}{x:s.den}{τ:Ty}{vs:List Value},s.parse A=some x->(s.mk x).fitsT τ=true->zA2 G w τ A vs->zA2 G w τ (s.mk x) vs:=by intro s;induction s with|val τ'=>intro A x τ vs h o j;simp only[Sh.parse] at h;(cases C:τ'.isL with|true=>simp[C] at h|false=>simp only[C,jD] at h;simp only[Sh.mk,AVal.fitsT,jB] at o;have e:=Ty.eq_of_beq o.1;subst e;simp only[Sh.mk,zA2];exact⟨trivial,C,zL1 h j⟩)|own t T m=>intro A x τ vs h o j;simp only[Sh.parse] at h;simp only[Sh.mk,AVal.fitsT] at o;have e:=Ty.eq_of_beq o;subst e;simp only[Sh.mk,zA2];refine⟨trivial,?_⟩;(cases A with|nil=>simp only[zA2] at j;exact⟨_,j.2,yH1 (tm:=#[]) (os:=none) h (by simp only[zA])⟩|own t' l' T' m'=>simp only[zA2] at j;obtain⟨_,v,R,I⟩:=j;exact⟨v,R,yH1 (tm:=#[]) (os:=none) h (by simp only[zA];exact I)⟩|_=>simp[yX1] at h)|nl=>intro A x τ vs h o j;(cases A with|nl=>exact j|_=>simp[Sh.parse,xT0] at h)|cons p q ma mb=>intro A x τ vs h o j;(cases A with|cons a b=>simp only[Sh.parse,yK0] at h;split at h;rename_i y z J hz;injection h with h;subst h;simp only[zA2] at j;obtain⟨R,t1,us,ws,rfl,rfl,I,h3⟩:=j;simp only[Sh.mk,AVal.fitsT,zD8,jB] at o;simp only[Sh.mk,zA2];exact⟨_,_,_,_,rfl,rfl,ma J o.1 I,mb hz o.2 h3⟩;cases h|_=>simp[Sh.parse,yK0] at h)|agg f s ih=>intro A x τ vs h o j;(cases A with|agg f' b=>simp only[Sh.parse,xF4] at h;(cases hb:Ty.beq f f' with|false=>simp[hb] at h|true=>simp only[hb,jE] at h;have e:=Ty.eq_of_beq hb;subst e;split at h;rename_i y J;generalize ki:(s.mk y).fitsT f=bb at h;(cases bb with|false=>cases h|true=>simp only[jE,jA] at h;subst h;simp only[zA2] at j;simp only[Sh.mk,zA2];exact⟨j.1,ih J ki j.2⟩);cases h)|_=>simp[Sh.parse,xF4] at h)|nil=>intro A x τ vs h o j;(cases A with|nil=>exact j|_=>simp[Sh.parse,xA1] at h)|_=>intro A x τ vs h o;simp[Sh.mk,AVal.fitsT] at o
theorem zF3:∀{s:Sh}{A:AVal}{x:s.den}{os:Option Nat}{v:Value},s.parse A=some x->zA G w tm os A v->zA G w tm os (s.mk x) v:=by intro s;induction s with|val τ'=>intro A x os v h C;simp only[Sh.parse] at h;(cases I:τ'.isL with|true=>simp[I] at h|false=>simp only[I,jD] at h;simp only[Sh.mk,zA];refine zI7 h I (zM9 C ?_ ?_);intro τ c e;subst e;simp[AVal.as,AVal.asT] at h;intro e;subst e;simp[AVal.as,AVal.asT] at h)|own t T m=>intro A x os v h C;simp only[Sh.parse] at h;simp only[Sh.mk,zA];exact yH1 h C|nl=>intro A x os v h C;(cases A with|nl=>exact C|_=>simp[Sh.parse,xT0] at h)|cons p q ma mb=>intro A x os v h C;(cases A with|cons a b=>simp only[Sh.parse,yK0] at h;split at h;rename_i y z hy hz;injection h with h;subst h;simp only[zA] at C;obtain⟨u,us,rfl,J,h3⟩:=C;simp only[Sh.mk,zA];exact⟨u,us,rfl,ma hy J,mb hz h3⟩;cases h|_=>simp[Sh.parse,yK0] at h)|agg f s ih=>intro A x os v h C;(cases A with|agg R b=>simp only[Sh.parse,xF4] at h;(cases hb:Ty.beq f R with|false=>simp[hb] at h|true=>simp only[hb,jE] at h;have e:=Ty.eq_of_beq hb;subst e;split at h;rename_i y hy;generalize ki:(s.mk y).fitsT f=bb at h;(cases bb with|false=>cases h|true=>simp only[jE,jA] at h;subst h;simp only[zA] at C;obtain⟨vs,h1,J⟩:=C;simp only[Sh.mk,zA];exact⟨vs,h1,yK1 hy ki J⟩);cases h)|_=>simp[Sh.parse,xF4] at h)|box f s ih=>intro A x os v h C;(cases A with|box R b=>simp only[Sh.parse,xN5] at h;(cases hb:Ty.beq f R with|false=>simp[hb] at h|true=>simp only[hb,jE] at h;have e:=Ty.eq_of_beq hb;subst e;split at h;rename_i y hy;generalize ki:(s.mk y).fitsT f=bb at h;(cases bb with|false=>cases h|true=>simp only[jE,jA] at h;subst h;cases os with|none=>simp only[zA] at C|some s=>simp only[zA] at C;obtain⟨h1,J,cur,e,h3,h4,h5⟩:=C;simp only[Sh.mk,zA];exact⟨h1,J,cur,e,h3,yK1 hy ki h4,h5⟩);cases h)|_=>simp[Sh.parse,xN5] at h)|ref s τ=>intro A x os v h C;simp only[Sh.parse] at h;generalize hr:yK s τ A=b at h;(cases b with|false=>cases h|true=>cases A with|ref s' τ' p=>(cases p with|nil=>simp only[yK,jB] at hr;have e1:=jC hr.1;have e2:=Ty.eq_of_beq hr.2;subst e1;subst e2;exact C|cons _ _=>simp[yK] at hr)|_=>simp[yK] at hr)|tup s ih=>intro A x os v h C;(cases A with|tup b=>simp only[Sh.parse,xT1] at h;simp only[Sh.mk,zA] at C ⊢;exact ih h C|_=>simp[Sh.parse,xT1] at h)|fn f s ih=>intro A x os v h C;(cases A with|fn R cs=>simp only[Sh.parse,wA3] at h;(cases hb:Nat.beq f R with|false=>simp[hb] at h|true=>simp only[hb,jE] at h;have e:=jC hb;subst e;simp only[Sh.mk,zA] at C ⊢;obtain⟨vs,h1,J⟩:=C;exact⟨vs,h1,ih h J⟩)|_=>simp[Sh.parse,wA3] at h)|any=>intro A x os v _ _;simp only[Sh.mk,zA]|nil=>intro A x os v h C;(cases A with|nil=>exact C|_=>simp[Sh.parse,xA1] at h)|nn b=>intro A x os v h C;(cases A with|nn b'=>simp only[Sh.parse,xT] at h;(cases hb:(b==b') with|false=>simp[hb] at h|true=>have:=beq_iff_eq.1 hb;subst this;exact C)|_=>simp[Sh.parse,xT] at h)|ownh t T U m=>intro A x os v h C;(cases A with|ownh t' l' T' i' U' m'=>simp only[Sh.parse,yJ9] at h;generalize hb:(Nat.beq T T'&&Nat.beq U U'&&(m==m'))=b at h;(cases b with|false=>cases h|true=>simp only[jE] at h;simp only[jB,beq_iff_eq] at hb;have e1:=jC hb.1.1;have e2:=jC hb.1.2;have e3:=hb.2;subst e1 e2 e3;split at h;rename_i l2 I;injection h with h;subst h;obtain⟨e,I⟩:=zC7 I;injection e with e;injection e with e;subst e;have I:l'=l2:=I;subst I;exact C;cases h)|own t' l' T' m'=>(cases m' with|false=>simp[Sh.parse,yJ9] at h|true=>simp only[Sh.parse,yJ9] at h;generalize hb:(Nat.beq T T'&&!(Nat.beq T U)&&t.plain&&!t.isL)=b at h;cases b with|false=>cases h|true=>simp only[jE] at h;simp only[jB,jK] at hb;have e1:=jC hb.1.1.1;subst e1;split at h;rename_i l2 I;injection h with h;subst h;obtain⟨e,I⟩:=zC7 I;injection e with e;subst e;have I:l'=l2:=I;subst I;simp only[zA] at C;simp only[Sh.mk,zA];refine⟨⟨hb.1.2,hb.2⟩,.inr ⟨λe=>by subst e;simp at hb,?_⟩⟩;rcases (zB0 C rfl).2 with h|⟨cap,cur,e,us,h1,J,h3,h4,h5,h6,h7,h8⟩;exact .inl h;obtain⟨k1,k2⟩:=yM8 (λy vs h=>by have:=zA1 h;simpa[Ty.size] using this) h6;refine .inr ⟨cap,cur,e,h1,J,h3,h4,by rw[h5];simp[Ty.size],λo=>by rw[h8,if_neg (by simp)],λj x hj=>?_⟩;have gL:j<List.length (α:=List t.den) l':=(List.getElem?_eq_some_iff.1 hj).1;obtain⟨u,hu,hc⟩:=k2 j x hj;refine⟨u,?_,by rw[if_neg (by omega)];exact hc⟩;rw[<-h7,List.getElem?_take] at hu;split at hu;exact hu;cases hu;cases h)|_=>simp[Sh.parse,yJ9] at h)|fptr f caps=>intro A x os v h C;cases A with|fptr R caps'=>simp only[Sh.parse,xA2] at h;(cases hb:(Nat.beq f R&&yB5 caps caps') with|false=>simp[hb] at h|true=>simp only[jB] at hb;have e1:=jC hb.1;have e2:=xT2 hb.2;subst e1;subst e2;exact C)|_=>simp[Sh.parse,xA2] at h
theorem yN5:∀{s:Sh}{x:s.den},(s.mk x).hasOpt=false:=by intro s;induction s with|cons p q ma mb=>intro x;simp[Sh.mk,AVal.hasOpt,ma,mb]|tup s j=>intro x;simp[Sh.mk,AVal.hasOpt,j]|fn f s j=>intro x;simp[Sh.mk,AVal.hasOpt,j]|_=>intro x;simp[Sh.mk,AVal.hasOpt]
@[reducible] def zC2:List (Nat×Sh)->Type
 |[]=>Unit
 |(_,s)::r=>s.den×zC2 r
def xP6:(l:List (Nat×Sh))->zC2 l->St
 |[],_=>[]
 |(k,s)::r,x=>(k,s.mk x.1)::xP6 r x.2
def zD4:(l:List (Nat×Sh))->St->Option (zC2 l)
 |[],_=>some ()
 |(k,s)::r,S=>match s.parse (S.get k),zD4 r S with|some x,some y=>some (x,y)|_,_=>none
def yX2:St:=[(zA9,.junk)]
def Weaker (S' S:St):Prop:=∀(s:Nat),∀G w tm v,zA G w tm (some s) (S.get s) v->zA G w tm (some s) (S'.get s) v
theorem Weaker.rel {S':St}(h:Weaker S' S)(j:Rel n χ0 w0 S a w G):Rel n χ0 w0 S' a w G:=⟨j.len,j.defers,λs=>h s _ _ _ _ (j.reps s),j.frame,j.glob⟩
theorem zT4:Weaker yX2 S:=by intro s G w tm v _;simp only[yX2,St.get];cases Nat.beq zA9 s<;>simp[zA]
theorem zH2:∀{l:List (Nat×Sh)}{x:zC2 l}{R:St},zD4 l S=some x->Weaker R S->Weaker (xP6 l x++R) S:=by intro l;induction l with|nil=>intro x R _ h;exact h|cons e r C=>intro x R j h;obtain⟨k,s⟩:=e;simp only[zD4] at j;split at j;rename_i y z I J;injection j with j;subst j;intro q G w tm v o;simp only[xP6,List.cons_append,St.get];(cases hk:Nat.beq k q with|true=>have:=jC hk;subst this;exact zF3 I o|false=>simp only[jD];cases Nat.beq k zA9 with|true=>simp only[jE,zA]|false=>exact C J h q G w tm v o);cases j
theorem yX3 {A:St}(h:St.hasCut A=true){s:Nat}:(A++S).get s=A.get s:=by induction A with|nil=>cases h|cons e r j=>obtain⟨k,B⟩:=e;simp only[List.cons_append,St.get];cases Nat.beq k s with|true=>rfl|false=>simp only[jD];cases o:Nat.beq k zA9 with|true=>rfl|false=>simp only[jD];refine j ?_;simpa only[St.hasCut,List.any_cons,o,Bool.false_or] using h
theorem zI2 {A B:St}(h:St.hasCut B=true):St.hasCut (A++B)=true:=by simp only[St.hasCut,List.any_append,Bool.or_eq_true] at h ⊢;exact .inr h
end Go.Am
namespace Go.Am
open Go Go.RowKit
variable {gtab:GlobTab}{P:Program}{c:Ctx}{G:Gh}{w:World}{tm:Array Value}{n:Nat}{χ0:Nat->Nat->Nat}{w0:World}{S:St}{a:Act}
def xN6 (ks:List Nat)(vs:Nat->Value)(a:Act):Prop:=∀i∈ks,a.tmps.getD i undef=vs i
def zT5 (ks:List Nat):List Oper->Bool
 |[]=>true
 |o::r=>(match o.dst with|some d=>!(ks.any (Nat.beq d))|none=>true)&&zT5 ks r
def zE7 (ks:List Nat):Code->Bool
 |.region _ ops _=>zT5 ks ops.toList
 |.seq a b=>zE7 ks a&&zE7 ks b
 |.cond _ a b=>zE7 ks a&&zE7 ks b
 |.block _ a=>zE7 ks a
 |.loop a=>zE7 ks a
 |_=>true
theorem yX4 {ks:List Nat}{vs:Nat->Value}:∀{ops:List Oper},zT5 ks ops=true->∀o∈ops,∀a v,xN6 ks vs a->xN6 ks vs (a.put o.dst v):=by intro ops;induction ops with|nil=>intro _ o h;cases h|cons x r J=>intro h o j a v C;simp only[zT5,jB] at h;rcases List.mem_cons.1 j with rfl|j;(cases R:o.dst with|none=>exact C|some d=>rw[R] at h;simp only[jK,List.any_eq_false] at h;intro i I;(have kh:d≠i:=by intro e;subst e;exact h.1 d I (Nat.beq_refl d));rw[<-C i I];simp[Act.put,Array.getElem?_setIfInBounds_ne kh]);exact J h.2 o j a v C
def xN7 [GlobTab] (P:Program)(c:Ctx)(code:Code)(S:St)(out:Out):Prop:=
 (∀q∈out.ok,q)->∀(rd:Option Nat) (χ0:Nat->Nat->Nat) (w0:World) (vs:Nat->Value) (a:Act) (w:World) (G:Gh),Rel c.n χ0 w0 S a w G->xN6 c.keep vs a ->
  code.wpIn (fz rd) 0 P (λe a' w'=>yN4 c.n χ0 w0 S out.comps e a' w'/\xN6 c.keep vs a') a w
def zI3 [GlobTab] (P:Program)(c:Ctx):Code->Prop
 |.seq a b=>zI3 P c a/\zI3 P c b
 |.cond _ a b=>zI3 P c a/\zI3 P c b
 |.block _ a=>zI3 P c a
 |.loop a=>∀S out,look (λ_=>none) c.loops (zE8 a) S=some out->xN7 P c (.loop a) S out
 |_=>True
theorem yC9 {k:Nat}{u:St}{e:Exit}(he:zC e=some k)(o:Rel n χ0 w0 (u++S) a w G):yN4 n χ0 w0 S [⟨k,none,u⟩] e a w:=by refine⟨k,⟨k,none,u⟩,G,he,by simp[zA4],rfl,λC I j _=>?_,o⟩;simp only[zA4] at j;cases hb:Nat.beq k C with|true=>exact (jC hb).symm|false=>simp[hb] at j
theorem zY8 (hc:CtxOk P c)(hm:P.follows .mixedOrders=true):∀{code:Code}{S:St}{out:Out},zI3 P c code->zE7 c.keep code=true->eval c code S=some out->xN7 P c code S out:=by intro code;induction code with|skip=>intro S out _ _ h _ rd χ0 w0 vs a w G o C;simp only[eval,jA] at h;subst h;exact wpIn_skip ⟨yC9 rfl o,C⟩|region id ops draw=>intro S out _ hw h kj rd χ0 w0 vs a w G o C;simp only[eval] at h;split at h;cases h;rename_i v hg;generalize hv:v.all (λe=>Nat.blt e.1 c.n)=bv at h;(cases bv with|false=>cases h|true=>simp only[Bool.not_true,jD] at h;split at h;rename_i p u hr;injection h with h;subst h;simp only[zE7] at hw;obtain⟨G1,hR1⟩:=yJ7 hc.n o hg λe he=>Nat.blt_eq.mp (List.all_eq_true.1 hv e he);exact yS3 (yX4 (vs:=vs) hw) hc hm hr kj hR1 C λa' w' G' hR' gk=>⟨yC9 rfl (by rw[List.append_assoc];exact hR'),gk⟩;cases h)|seq x y kz ku=>intro S out I hw h kj rd χ0 w0 vs a w G o C;simp only[zI3] at I;simp only[zE7,jB] at hw;simp only[eval] at h;split at h;cases h;rename_i oa ha;split at h;rename_i h0;injection h with h;subst h;refine wpIn_seq (wpIn_mono (kz I.1 hw.1 ha kj rd χ0 w0 vs a w G o C) λe a' w' j=>?_);(cases e with|normal=>obtain⟨⟨k,cp,G',h1,R,_⟩,_⟩:=j;simp only[zC,jA] at h1;subst h1;rw[h0] at R;cases R|_=>exact j);rename_i m h0;split at h;cases h;rename_i ob hb;injection h with h;subst h;simp only[yI6,List.mem_append] at kj;refine wpIn_seq (wpIn_mono (kz I.1 hw.1 ha (λq J=>kj q (.inl J)) rd χ0 w0 vs a w G o C) λe a' w' j=>?_);obtain⟨j,gk⟩:=j;by_cases he:e=.normal;subst he;obtain⟨k,cp,G',h1,R,h3,h4,h5⟩:=j;simp only[zC,jA] at h1;subst h1;rw[h0] at R;injection R with R;subst R;simp only[Exit.then];refine wpIn_mono (ku I.2 hw.2 hb (λq J=>?_) rd χ0 w0 vs a' w' G' h5 gk) λe'' a'' w'' hP'=>⟨xN4 h3 h4 hP'.1,hP'.2⟩;(cases hg:m.g with|none=>exact kj q (.inr (by simp only[imp,hg];exact J))|some b=>(have gQ:b=true:=by rw[hg] at h3;exact h3);exact yX0 (λq J=>kj q (.inr (by simp only[imp,hg];exact J))) gQ q J);(have kh:zC e≠some 0:=by cases e with|normal=>exact absurd rfl he|exit id=>simp[zC]|_=>simp[zC]);have:=xN3 (ob:=ob) h0 j kh;(cases e with|normal=>exact absurd rfl he|_=>exact⟨this,gk⟩)|cond x p q ma mb=>intro S out I hw h kj rd χ0 w0 vs a w G o C;simp only[zI3] at I;simp only[zE7,jB] at hw;simp only[eval] at h;split at h;rename_i t hx;split at h;rename_i oa ob ha hb;injection h with h;subst h;(have hv:a.eval x=.bool t:=by have:=zJ6 o x;rw[hx] at this;simp only[zA] at this;have:=(zC3 rfl).1 this;simpa only[zB,List.cons.injEq,and_true] using this);simp only[zX7,List.mem_append] at kj;refine wpIn_cond_split hv (λht=>?_) (λht=>?_);subst ht;exact wpIn_mono (ma I.1 hw.1 ha (yX0 (λq J=>kj q (.inl J)) rfl) rd χ0 w0 vs a w G o C) λe a' w' j=>⟨xF1 j.1,j.2⟩;subst ht;exact wpIn_mono (mb I.2 hw.2 hb (yX0 (λq J=>kj q (.inr J)) rfl) rd χ0 w0 vs a w G o C) λe a' w' j=>⟨xF2 j.1,j.2⟩;cases h;cases h|block id x ih=>intro S out I hw h kj rd χ0 w0 vs a w G o C;simp only[zI3] at I;simp only[zE7] at hw;simp only[eval] at h;split at h;rename_i oa ha;injection h with h;subst h;(have hok':∀q∈oa.ok,q:=by intro q J;refine kj q ?_;unfold yB9;split<;>exact J);refine wpIn_block (wpIn_mono (ih I hw ha hok' rd χ0 w0 vs a w G o C) λe a' w' j=>?_);have:=xF3 (id:=id) j.1;(cases e with|exit id'=>simp only[Exit.inBlock] at this ⊢;split;rename_i e;rw[if_pos e] at this;exact⟨this,j.2⟩;rename_i e;rw[if_neg e] at this;exact⟨this,j.2⟩|_=>exact⟨this,j.2⟩);cases h|loop x _=>intro S out I hw h;simp only[eval] at h;exact I S out h|exit id=>intro S out _ _ h _ rd χ0 w0 vs a w G o C;simp only[eval,jA] at h;subst h;exact wpIn_exit ⟨yC9 rfl o,C⟩|ret=>intro S out _ _ h _ rd χ0 w0 vs a w G o C;simp only[eval,jA] at h;subst h;exact wpIn_ret ⟨yC9 rfl o,C⟩|_=>intro S out _ _ h;simp[eval] at h
def loopN {X:Type}(g:X->Bool)(next:X->X):Nat->X->X
 |0,x=>x
 |k+1,x=>cond (g x) (loopN g next k (next x)) x
def zG8:Nat:=18446744073709551616
def zB9 {X:Type}(g:X->Bool)(next:X->X)(x:X):X:=loopN g next zG8 x
def Runs {X:Type}(g:X->Bool)(next:X->X)(ok:X->Prop):Nat->X->Prop
 |0,x=>ok x/\g x=false
 |k+1,x=>ok x/\g x=true/\Runs g next ok k (next x)
def Ends {X:Type}(g:X->Bool)(next:X->X)(ok:X->Prop)(x:X):Prop:=∃k,k<zG8/\Runs g next ok k x
theorem Runs.loopN {X:Type}{g:X->Bool}{next:X->X}{ok:X->Prop}:∀{k:Nat}{x:X}{F:Nat},Runs g next ok k x->k<F->g (loopN g next F x)=false/\ok (Am.loopN g next F x):=by intro k;induction k with|zero=>intro x F h j;(cases F with|zero=>omega|succ F=>simp only[Am.loopN,h.2,jD];exact⟨trivial,h.1⟩)|succ k o=>intro x F h j;cases F with|zero=>omega|succ F=>simp only[Am.loopN,h.2.1,jE];exact o h.2.2 (by omega)
theorem xN8 {rd:Option Nat}{cd:Code}{Q:Exit->Act->World->Prop}(I:Nat->Act->World->Prop){k:Nat}(h₀:I k a w)(round:∀k a w,I k a w->cd.wpIn (fz rd) 0 P (Exit.then (λo C=>∃m,m<k/\I m o C) Q) a w):(Code.loop cd).wpIn (fz rd) 0 P Q a w:=by intro b kk cs J hb R;(have key:∀n a w,I n a w->∃e o C,Q e o C/\ArrivesIn (Machine.fenced P (fz rd)) P (lone (b.atR a (.code cd::.inLoop cd::kk)) cs w) b kk cs e o C:=by intro n;induction n using Nat.strongRecOn with|_ n ih=>intro a w hI;obtain⟨e,a₁,w₁,j,kP⟩:=round n a w hI b (.inLoop cd::kk) cs J hb R;cases e with|normal=>obtain⟨m,hlt,hI₁⟩:=j;obtain⟨e₂,a₂,w₂,hq₂,harr₂⟩:=ih m hlt a₁ w₁ hI₁;exact⟨e₂,a₂,w₂,hq₂,.of_steps (StepsIn.trans kP (.one (fenced_calm hb R rfl) stepR_inLoop)) harr₂⟩|exit id=>exact⟨_,a₁,w₁,j,.pass (x:=.inLoop cd) rfl (λ_ _=>.inl (by simp)) kP⟩|goto l=>exact⟨_,a₁,w₁,j,.pass (x:=.inLoop cd) rfl (λ_ _=>.inl (by simp)) kP⟩|ret=>exact⟨_,a₁,w₁,j,.pass (x:=.inLoop cd) rfl (λ_ _=>.inl (by simp)) kP⟩|panic ch=>exact⟨_,a₁,w₁,j,.pass (x:=.inLoop cd) rfl (λ_ _=>.inl (by simp)) kP⟩|outgrown=>exact⟨_,a₁,w₁,j,.pass (x:=.inLoop cd) rfl (λ_ _=>.inl (by simp)) kP⟩);obtain⟨e,o,C,j,kP⟩:=key _ a w h₀;exact⟨e,o,C,j,.of_steps (.one (fenced_calm hb R rfl) stepR_loop) kP⟩
def zE3 (ly lx:List (Nat×Sh))(y:zC2 ly)(x:zC2 lx):St:=xP6 ly y++(xP6 lx x++yX2)
def zU8 (L:St)(l:List Comp):List Comp:=(zI4 0 l).map λcp=>⟨cp.kind,cp.g,cp.d++L⟩
def yD (ly lx:List (Nat×Sh))(g:zC2 ly->zC2 lx->Bool)(next:zC2 ly->zC2 lx->zC2 lx)(ok:zC2 ly->zC2 lx->Prop)(comps:zC2 ly->zC2 lx->List Comp)(S:St):Option Out:=
 match zD4 ly S,zD4 lx S with
 |some y,some x=>some ⟨[Ends (g y) (next y) (ok y) x],zU8 (zE3 ly lx y (zB9 (g y) (next y) x)) (comps y (zB9 (g y) (next y) x))⟩
 |_,_=>none
theorem xA3 {ly lx:List (Nat×Sh)}{y:zC2 ly}{x:zC2 lx}:St.hasCut (zE3 ly lx y x)=true:=zI2 (zI2 rfl)
theorem xF5 (hc:CtxOk P c)(hm:P.follows .mixedOrders=true){body:Code}(hL:zI3 P c body)(hw:zE7 c.keep body=true){ly lx:List (Nat×Sh)}{g:zC2 ly->zC2 lx->Bool}{next:zC2 ly->zC2 lx->zC2 lx}{ok:zC2 ly->zC2 lx->Prop}{comps:zC2 ly->zC2 lx->List Comp}{oks:zC2 ly->zC2 lx->List Prop}(iN:∀y x,eval c body (zE3 ly lx y x)=some ⟨oks y x,comps y x⟩)(qg:∀y x,ok y x->xI (oks y x))(hZ:∀y x,∃m,zA4 0 (comps y x)=some m/\tk m.g=g y x/\zD4 ly (m.d++zE3 ly lx y x)=some y/\zD4 lx (m.d++zE3 ly lx y x)=some (next y x)):∀S out,yD ly lx g next ok comps S=some out->xN7 P c (.loop body) S out:=by intro S out h kj rd χ0 w0 vs a w G hR hk;unfold yD at h;split at h;rename_i y x hy R;injection h with h;subst h;obtain⟨k,hkf,gM⟩:=kj _ (jQ ..);have hR0:Rel c.n χ0 w0 (zE3 ly lx y x) a w G:=(zH2 hy (zH2 R zT4)).rel hR;refine xN8 (I:=λk a w=>∃j G F,Rel c.n χ0 w0 (zE3 ly lx y j) a w G/\xN6 c.keep vs a/\Runs (g y) (next y) (ok y) k j/\k<F/\loopN (g y) (next y) F j=zB9 (g y) (next y) x) (k:=k) ⟨x,G,zG8,hR0,hk,gM,hkf,rfl⟩ ?_;rintro k a w ⟨j,G,F,hR,hk,gM,hF,gT⟩;(have iO:ok y j:=by cases k with|zero=>exact gM.1|succ k=>exact gM.1);refine wpIn_mono (zY8 hc hm hL hw (iN y j) (AllP_iff.1 (qg y j iO)) rd χ0 w0 vs a w G hR hk) λe a' w' hP=>?_;obtain⟨hP,gk⟩:=hP;obtain⟨m,m1,m2,m3,m4⟩:=hZ y j;obtain⟨q,cp,G',h1,h2,h3,h4,h5⟩:=hP;by_cases he:e=.normal;subst he;simp only[zC,jA] at h1;subst h1;rw[m1] at h2;injection h2 with h2;subst h2;rw[m2] at h3;(cases k with|zero=>rw[gM.2] at h3;cases h3|succ k=>simp only[Exit.then];cases F with|zero=>omega|succ F=>refine⟨k,by omega,next y j,G',F,(zH2 m3 (zH2 m4 zT4)).rel h5,gk,gM.2.2,by omega,?_⟩;rw[<-gT,Am.loopN,h3,jE]);(have hq:q≠0:=by intro e0;subst e0;cases e<;>simp[zC] at h1 he);(have hg:g y j=false:=by cases hg:g y j with|false=>rfl|true=>rw[<-m2] at hg;exact absurd (h4 0 m m1 hg).symm hq);(have gS:j=zB9 (g y) (next y) x:=by rw[<-gT];cases F with|zero=>omega|succ F=>rw[Am.loopN,hg,jD]);subst gS;(have hq0:Nat.beq q 0=false:=by cases q with|zero=>exact absurd rfl hq|succ q=>rfl);(have kr:∀o,zA4 o (zU8 (zE3 ly lx y (zB9 (g y) (next y) x)) (comps y (zB9 (g y) (next y) x)))=(cond (Nat.beq o 0) none (zA4 o (comps y (zB9 (g y) (next y) x)))).map λcp=>⟨cp.kind,cp.g,cp.d++zE3 ly lx y (zB9 (g y) (next y) x)⟩:=by intro o;unfold zU8;rw[zX0 (f:=λcp=>⟨cp.kind,cp.g,cp.d++zE3 ly lx y (zB9 (g y) (next y) x)⟩) (λ_=>rfl),zJ]);(have C:yN4 c.n χ0 w0 S (zU8 (zE3 ly lx y (zB9 (g y) (next y) x)) (comps y (zB9 (g y) (next y) x))) e a' w':=by refine⟨q,⟨cp.kind,cp.g,cp.d++zE3 ly lx y (zB9 (g y) (next y) x)⟩,G',h1,?_,h3,λo c' J ht=>?_,?_⟩;rw[kr,hq0,jD,h2];rfl;rw[kr] at J;(cases gk:Nat.beq o 0 with|true=>simp[gk] at J|false=>simp only[gk,jD] at J;cases R:zA4 o (comps y (zB9 (g y) (next y) x)) with|none=>simp[R] at J|some z=>simp only[R,Option.map_some,jA] at J;subst J;exact h4 o z R ht);exact zW7 (λs=>yX3 (zI2 xA3)) h5);(cases e with|normal=>exact absurd rfl he|_=>exact⟨C,gk⟩);cases h
end Go.Am
namespace Go.Am
open Go Go.RowKit
variable {gtab:GlobTab}{P:Program}{c:Ctx}{G:Gh}{w:World}{tm:Array Value}{n:Nat}{χ0:Nat->Nat->Nat}{w0:World}{S:St}{a:Act}
def zY9 [GlobTab] (c:Ctx)(S:St):ResultVar->Option AVal
 |.tmp t=>some (arg S (.tmp t))
 |.cell r T=>match yK7 c T (arg S (.tmp r)) (zA5 S (arg S (.tmp r))) with|some ([],A)=>some A | _=>none
def zS [GlobTab] (c:Ctx)(S:St):List ResultVar->Option AVal
 |[]=>some (.tup .nl)
 |[r]=>zY9 c S r
 |[r,s]=>match zY9 c S r,zY9 c S s with|some A,some B=>some (.tup (.cons A (.cons B .nl)))|_,_=>none
 |[r,s,t]=>match zY9 c S r,zY9 c S s,zY9 c S t with|some A,some B,some C=>some (.tup (.cons A (.cons B (.cons C .nl))))|_,_,_=>none
 |[r,s,t,u]=>match zY9 c S r,zY9 c S s,zY9 c S t,zY9 c S u with|some A,some B,some C,some D=>some (.tup (.cons A (.cons B (.cons C (.cons D .nl)))))|_,_,_,_=>none
 |_=>none
def xN9 (tmps:Array Value):ResultVar->Sem Value
 |.tmp t=>pure (tmps.getD t undef)
 |.cell a t=>do loadVar t (<-asAddr (tmps.getD a undef))
theorem zE2 (I:CtxOk P c)(C:Rel n χ0 w0 S a w G){r:ResultVar}{A:AVal}(h:zY9 c S r=some A):∃v,(xN9 a.tmps r).run P w=.ok v w/\zA G w a.tmps none A v:=by cases r with|tmp t=>simp only[zY9,jA] at h;subst h;exact⟨_,rfl,zJ6 C (.tmp t)⟩|cell r T=>simp only[zY9] at h;split at h;rename_i A' hl;injection h with h;subst h;have hx:=zJ6 C (.tmp r);obtain⟨u,j,h2⟩:=yF I.tys I.fts hx (λs J=>⟨_,by have:=C.reps s;cases R:arg S (.tmp r)<;>simp[R,zD] at J<;>(subst J;simpa[zA5,R] using this)⟩) hl (λq hq=>by cases hq);refine⟨u,?_,h2⟩;simp only[xN9];have hv:a.eval (.tmp r)=a.tmps.getD r undef:=rfl;rw[hv] at j;(cases o:a.tmps.getD r undef with|pointer p=>(cases p with|none=>rw[o] at j;simp[Instr.loadAt,Instr.sureAddr] at j|some ad=>rw[o] at j;simpa[Instr.loadAt,Instr.sureAddr,asAddr] using j)|_=>rw[o] at j;simp[Instr.loadAt,Instr.sureAddr] at j);cases h
theorem yS4 (R:CtxOk P c)(hR:Rel n χ0 w0 S a w G){fn:Func}{A:AVal}(h:zS c S fn.results.toList=some A):∃v,(results fn a.tmps).run P w=.ok v w/\zA G w a.tmps none A v:=by
 have hfn:fn.results=fn.results.toList.toArray:=by simp
 generalize fn.results.toList=l at h hfn;have hsem:results fn a.tmps=(do let vs <-fn.results.mapM (xN9 a.tmps);pure (if h:vs.size=1 then vs[0] else .tuple vs)):=by
  unfold results;congr 1
 rw[hsem,hfn]
 match l,h with
 |[],h=>simp only[zS,jA] at h;subst h;exact⟨.tuple #[],by simp,by simp only[zA]⟩
 |[r],h =>
  obtain⟨v,h1,h2⟩:=zE2 R hR h;exact⟨v,by simp[h1],h2⟩
 |[r,s],h =>
  simp only[zS] at h;split at h
  ·rename_i A' B hA hB;injection h with h;subst h
   obtain⟨v,h1,h2⟩:=zE2 R hR hA;obtain⟨v',j,o⟩:=zE2 R hR hB;exact⟨.tuple #[v,v'],by simp[h1,j],by simp only[zA];exact⟨v,[v'],rfl,h2,v',[],rfl,o,rfl⟩⟩
  ·cases h
 |[r,s,t],h =>
  simp only[zS] at h;split at h
  ·rename_i A' B C hA hB hC;injection h with h;subst h
   obtain⟨v,h1,h2⟩:=zE2 R hR hA;obtain⟨v',j,o⟩:=zE2 R hR hB;obtain⟨v'',I,J⟩:=zE2 R hR hC;exact⟨.tuple #[v,v',v''],by simp[h1,j,I],by simp only[zA];exact⟨v,[v',v''],rfl,h2,v',[v''],rfl,o,v'',[],rfl,J,rfl⟩⟩
  ·cases h
 |[r,s,t,u],h =>
  simp only[zS] at h;split at h
  ·rename_i A' B C D hA hB hC hD;injection h with h;subst h
   obtain⟨v,h1,h2⟩:=zE2 R hR hA;obtain⟨v',j,o⟩:=zE2 R hR hB;obtain⟨v'',I,J⟩:=zE2 R hR hC;obtain⟨v3,h13,h23⟩:=zE2 R hR hD;exact⟨.tuple #[v,v',v'',v3],by simp[h1,j,I,h13],by simp only[zA];exact⟨v,[v',v'',v3],rfl,h2,v',[v'',v3],rfl,o,v'',[v3],rfl,J,v3,[],rfl,h23,rfl⟩⟩
  ·cases h
 |_::_::_::_::_::_,h=>simp[zS] at h
def yX5 (S:St)(l:List Comp):Option St:=
 bif l.all (λx=>Nat.ble x.kind 1) then
  match zA4 0 l,zA4 1 l with
  |none,some r=>some r.d
  |some m,none=>some m.d
  |some m,some r=>some (zM0 (tk r.g) r.d m.d S)
  |none,none=>none
 else none
theorem yS5 {k:Nat}{x:Comp}:∀{l:List Comp},zA4 k l=some x->x∈l:=by intro l;induction l with|nil=>intro h;cases h|cons y r j=>intro h;simp only[zA4] at h;cases hb:Nat.beq y.kind k with|true=>simp only[hb,jE,jA] at h;subst h;exact jQ ..|false=>simp only[hb,jD] at h;exact jP _ (j h)
theorem xA4 {l:List Comp}{d:St}{e:Exit}(h:yX5 S l=some d)(R:yN4 n χ0 w0 S l e a w):(e=.normal\/e=.ret)/\∃G,Rel n χ0 w0 (d++S) a w G:=by obtain⟨k,cp,G,J,C,h3,h4,I⟩:=R;unfold yX5 at h;generalize j:l.all (λx=>Nat.ble x.kind 1)=b at h;cases b with|false=>cases h|true=>simp only[jE] at h;(have hk:k<=1:=by have:=List.all_eq_true.1 j cp (yS5 C);rw[zN7 C] at this;exact jR this);(have he:e=.normal\/e=.ret:=by cases e with|normal=>exact .inl rfl|ret=>exact .inr rfl|exit id=>simp only[zC,jA] at J;omega|_=>simp[zC] at J);refine⟨he,G,?_⟩;generalize h0:zA4 0 l=o0 at h;generalize o:zA4 1 l=o1 at h;(obtain rfl|rfl:k=0\/k=1:=by omega);have:=h0.symm.trans C;subst this;(cases o1 with|none=>injection h with h;subst h;exact I|some r=>injection h with h;subst h;(have:tk r.g=false:=by cases hx:tk r.g with|false=>rfl|true=>have:=h4 1 r o hx;omega);rw[this];exact zP3 I);have:=o.symm.trans C;subst this;cases o0 with|none=>injection h with h;subst h;exact I|some m=>injection h with h;subst h;rw[h3];exact zP2 I
def yB6:Nat->List AVal->St
 |_,[]=>[]
 |i,A::r=>(i,A)::yB6 (i+1) r
@[reducible] def yN6:List (Nat×Sh)->Type
 |[]=>Unit
 |(_,s)::r=>s.den×yN6 r
def xY8:(s:Sh)->s.den->AVal
 |.box _ s,x=>s.mk x
 |s,x=>s.mk x
def mkO:(l:List (Nat×Sh))->yN6 l->List (Nat×AVal)
 |[],_=>[]
 |(i,s)::r,x=>(i,xY8 s x.1)::mkO r x.2
def yA4:(l:List (Nat×Sh))->St->Option (yN6 l)
 |[],_=>some ()
 |(i,s)::r,S=>match s.parse (S.get i),yA4 r S with|some x,some y=>some (x,y)|_,_=>none
def xO:Sh->Bool
 |.box _ _=>true|_=>false
def fnSpec (ps:List (Nat×Sh))(rs:Sh)(os:List (Nat×Sh))(ok:zC2 ps->Prop)(f:zC2 ps->rs.den)(o:zC2 ps->yN6 os):Spec:=λargs =>
 bif Nat.beq args.length ps.length then
  match zD4 ps (yB6 0 args) with
  |some x=>some ⟨[ok x],rs.mk (f x),mkO os (o x),[]⟩
  |none=>none
 else none
def xW7:Nat->List (Nat×Sh)->Bool
 |_,[]=>true
 |i,(k,_)::r=>Nat.beq k i&&xW7 (i+1) r
def xY9 (ps:List (Nat×Sh))(keep:List Nat)(os:List (Nat×Sh)):Bool:=
 os.all λe=>keep.any (Nat.beq e.1)&&(match ps[e.1]? with
  |some (_,.box τ _)=>(match e.2 with|.box τ' _=>Ty.beq τ' τ | _=>false)
  |some (_,.any)=>false
  |some _=>!xO e.2
  |none=>false)
theorem yH2 {s:Nat}:∀{args:List AVal}{i:Nat},i<=s->s<i+args.length->i+args.length<=zA9->some ((yB6 i args).get s)=args[s-i]?:=by intro args;induction args with|nil=>intro i o j;simp at j;omega|cons A r C=>intro i o j I;simp only[List.length_cons] at j I;simp only[yB6,St.get];by_cases e:i=s;subst e;simp;(have hb:Nat.beq i s=false:=by cases hb:Nat.beq i s with|false=>rfl|true=>exact absurd (jC hb) e);(have J:Nat.beq i zA9=false:=by cases hb:Nat.beq i zA9 with|false=>rfl|true=>have:=jC hb;omega);rw[hb,J,jD,jD,C (by omega) (by omega) (by omega)];rw[show s-i=(s-(i+1))+1 by omega];simp
theorem xO0 {s:Nat}:∀{args:List AVal}{i:Nat},i+args.length<=s\/s<i->(yB6 i args).get s=.junk:=by intro args;induction args with|nil=>intro i _;rfl|cons A r j=>intro i h;simp only[List.length_cons] at h;simp only[yB6,St.get];(have hb:Nat.beq i s=false:=by cases hb:Nat.beq i s with|false=>rfl|true=>have:=jC hb;omega);rw[hb,jD];cases Nat.beq i zA9 with|true=>rfl|false=>exact j (by omega)
theorem yK2 {S:St}:∀{ps:List (Nat×Sh)}{x:zC2 ps}{k:Nat}{i:Nat}{s:Sh},zD4 ps S=some x->ps[k]?=some (i,s)->∃y,s.parse (S.get i)=some y:=by intro ps;induction ps with|nil=>intro x k i s _ h;simp at h|cons e r I=>intro x k i s o C;obtain⟨j,t⟩:=e;simp only[zD4] at o;split at o;rename_i y z J R;(cases k with|zero=>simp only[List.getElem?_cons_zero,jA,jG] at C;obtain⟨rfl,rfl⟩:=C;exact⟨y,J⟩|succ k=>exact I R (by simpa using C));cases o
theorem xW8:∀{ps:List (Nat×Sh)}{i k j:Nat}{s:Sh},xW7 i ps=true->ps[k]?=some (j,s)->j=i+k:=by intro ps;induction ps with|nil=>intro i k j s _ h;simp at h|cons e r C=>intro i k j s h o;obtain⟨q,t⟩:=e;simp only[xW7,jB] at h;cases k with|zero=>simp only[List.getElem?_cons_zero,jA,jG] at o;obtain⟨rfl,rfl⟩:=o;exact jC h.1|succ k=>have:=C h.2 (by simpa using o);omega
theorem xO1 {S:St}{i:Nat}{k:AVal}:∀{os:List (Nat×Sh)}{x:yN6 os},yA4 os S=some x->(i,k)∈mkO os x->∃s y,(i,s)∈os/\k=xY8 s y/\s.parse (S.get i)=some y:=by intro os;induction os with|nil=>intro x _ h;cases h|cons e r I=>intro x o C;obtain⟨j,τ⟩:=e;simp only[yA4] at o;split at o;rename_i y z J R;injection o with o;subst o;simp only[mkO] at C;rcases List.mem_cons.1 C with h|h;simp only[jG] at h;obtain⟨rfl,rfl⟩:=h;exact⟨τ,y,jQ ..,rfl,J⟩;obtain⟨τ',y',h1,h2,h3⟩:=I R h;exact⟨τ',y',jP _ h1,h2,h3⟩;cases o
theorem xO2 {s:Sh}{A:AVal}{x:s.den}{τ:Ty}{o:AVal}(h:s.parse A=some x)(C:A=.box τ o):s=.any\/∃j,s=.box τ j:=by subst C;cases s with|box τ' j=>simp only[Sh.parse,xN5] at h;(cases hb:Ty.beq τ' τ with|true=>have:=Ty.eq_of_beq hb;subst this;exact .inr ⟨j,rfl⟩|false=>simp[hb] at h)|any=>exact .inl rfl|val τ'=>simp only[Sh.parse,AVal.as,AVal.asT] at h;cases τ'.isL<;>simp at h|own t T m=>simp[Sh.parse,yX1] at h|nl=>simp[Sh.parse,xT0] at h|cons a b=>simp[Sh.parse,yK0] at h|agg f s=>simp[Sh.parse,xF4] at h|ref s τ'=>simp[Sh.parse,yK] at h|tup s=>simp[Sh.parse,xT1] at h|fn f s=>simp[Sh.parse,wA3] at h|nil=>simp[Sh.parse,xA1] at h|nn b=>simp[Sh.parse,xT] at h|fptr f caps=>simp[Sh.parse,xA2] at h|ownh t T U m=>simp[Sh.parse,yJ9] at h
def zC1 (ps:List (Nat×Sh))(x:zC2 ps):St:=xP6 ps x++yX2
theorem xF6:∀{ps:List (Nat×Sh)}{x:zC2 ps},∀e∈zC1 ps x,e.2.hasOpt=false:=by intro ps;induction ps with|nil=>intro x e he;simp only[zC1,xP6,yX2,List.nil_append,jH] at he;subst he;rfl|cons q r j=>intro x e he;obtain⟨k,s⟩:=q;simp only[zC1,xP6,List.cons_append] at he;rcases List.mem_cons.1 he with h|h;subst h;exact yN5;exact j e h
theorem xF7 (hc:CtxOk P c)(hm:P.follows .mixedOrders=true){f:Nat}{fn:Func}{code:Code}(hf:P.funcs[f]?=some fn)(hb:fn.body=some code)(kV:fn.name≠"runtime.NumGoroutine") (hn:fn.ntmps=c.n) (hL:zI3 P c code) (hw:zE7 c.keep code=true){ps:List (Nat×Sh)}{rs:Sh}{os:List (Nat×Sh)}{ok:zC2 ps->Prop}{F:zC2 ps->rs.den}{o:zC2 ps->yN6 os}{oks:zC2 ps->List Prop}{comps:zC2 ps->List Comp}{d:zC2 ps->St}{res:zC2 ps->AVal}(qt:(xW7 0 ps&&xY9 ps c.keep os&&Nat.ble ps.length c.n)=true) (heval:∀x,eval c code (zC1 ps x)=some ⟨oks x,comps x⟩) (qg:∀x,ok x->xI (oks x)) (gS:∀x,yX5 (zC1 ps x) (comps x)=some (d x)) (kG:∀x,zS c (d x++zC1 ps x) fn.results.toList=some (res x)) (mc:∀x,rs.parse (res x)=some (F x)) (gE:∀x,yA4 os (d x++zC1 ps x)=some (o x)):SpecOk P f (fnSpec ps rs os ok F o):=by simp only[jB] at qt;obtain⟨⟨hps1,hps2⟩,hps3⟩:=qt;have hps3:ps.length<=c.n:=jR hps3;refine⟨⟨fn,hf,by rw[hb];rfl,kV⟩,λargs co hsp kj G w vals hlen hglob kJ=>?_⟩;unfold fnSpec at hsp;generalize ig:Nat.beq args.length ps.length=b at hsp;cases b with|false=>cases hsp|true=>have ig:=jC ig;simp only[jE] at hsp;split at hsp;rename_i x hx;injection hsp with hsp;subst hsp;have iO:ok x:=kj _ (jQ ..);refine callsIn_wide.1 (callsIn_of_wp (n:=0) hf hb trivial ?_);generalize mf:({ tmps:=vals.toArray++Array.replicate (fn.ntmps-vals.toArray.size) undef,defers:=[] }:Act)=act;(have kM:∀s,s<vals.length->act.tmps.getD s undef=vals.getD s undef:=by intro s hs;rw[<-mf];simp[Array.getElem?_append,hs]);have hcn:=hc.n;(have ik:Rel c.n G.χ w (zC1 ps x) act w G:=by refine⟨?_,by rw[<-mf],λs=>?_,⟨rfl,rfl,rfl,jI _,λ_ _ _=>rfl,λ_ _ _ _=>⟨rfl,rfl⟩⟩,hglob⟩;rw[<-mf];simp;omega;(have key:zA G w #[] (some s) ((zC1 ps x).get s) (act.tmps.getD s undef):=by refine zH2 hx zT4 s G w #[] _ ?_;by_cases hs:s<args.length;have h1:=yH2 (s:=s) (args:=args) (i:=0) (by omega) (by omega) (by omega);simp only[Nat.sub_zero] at h1;(have h2:vals[s]?=some (vals.getD s undef):=by simp[jL (show s<vals.length by omega)]);rw[kM s (by omega)];exact kJ s _ _ h1.symm h2;rw[xO0 (.inl (by omega))];simp only[zA]);refine zN9 (λk hk=>?_) key;have:=zU6 (q:=λA=>A.hasOpt=false) rfl (S:=zC1 ps x) (s:=s) xF6;rw[zN5 this] at hk;cases hk);refine wpIn_mono (zY8 hc hm hL hw (heval x) (AllP_iff.1 (qg x iO)) none G.χ w (λi=>act.tmps.getD i undef) act w G ik (λi _=>rfl)) λe a' w' hP=>?_;obtain⟨hP,hk⟩:=hP;obtain⟨he,G',hR⟩:=xA4 (gS x) hP;obtain⟨v,hv1,nf⟩:=yS4 hc hR (kG x);(have iP:a'.defers=[]/\∃v,(results fn a'.tmps).run P w'=.ok v w'/\∃v' G',Ending.returned v=.returned v'/\Frame0 G.χ w G'.χ w'/\zA G' w' #[] none (rs.mk (F x)) v'/\(∀(i:Nat) k A u,(i,k)∈mkO os (o x)->args[i]?=some A->vals[i]?=some u->(∀τ k0,A=.box τ k0->zA G' w' #[] (some i) (.box τ k) u/\G'.β i=G.β i)/\(zH6 A=false->zA G' w' #[] none k u)):=by refine⟨hR.defers,v,hv1,v,G',rfl,hR.frame,?_,?_⟩;refine zN9 (λk hk=>?_) (zF3 (mc x) nf);rw[zN5 yN5] at hk;cases hk;intro i k A u hi ha hu;obtain⟨s',y,h1,rfl,h3⟩:=xO1 (gE x) hi;simp only[xY9,List.all_eq_true,jB] at hps2;have h4:=hps2 _ h1;simp only at h4;have gG:=zF3 h3 (hR.reps i);have hilt:i<args.length:=(List.getElem?_eq_some_iff.1 ha).1;(have iQ:a'.tmps.getD i undef=u:=by obtain⟨j,hj,hjb⟩:=List.any_eq_true.1 h4.1;have:=jC hjb;subst this;rw[hk i hj];show act.tmps.getD i undef=u;rw[kM i (by omega)];simp[hu]);rw[iQ] at gG;have gG:zA G' w' #[] (some i) (s'.mk y) u:=zN9 (λk hk=>by rw[zN5 yN5] at hk;cases hk) gG;(obtain⟨p,mg⟩:∃p,ps[i]?=some (i,p)/\∃z,p.parse A=some z:=by (have gX:i<ps.length:=by omega);obtain⟨⟨j,p⟩,mg⟩:∃q,ps[i]?=some q:=⟨_,jL gX⟩;have hj:=xW8 hps1 mg;simp only[Nat.zero_add] at hj;subst hj;obtain⟨z,hz⟩:=yK2 hx mg;have h1:=yH2 (s:=j) (args:=args) (i:=0) (by omega) (by omega) (by omega);simp only[Nat.sub_zero,ha,jA] at h1;rw[h1] at hz;exact⟨p,mg,z,hz⟩);obtain⟨mg,z,hz⟩:=mg;rw[mg] at h4;constructor;rintro τ k0 rfl;rcases xO2 hz rfl with rfl|⟨s2,rfl⟩;simp at h4;simp only at h4;(cases s' with|box τ' s3=>have:=Ty.eq_of_beq h4.2;subst this;refine⟨gG,?_⟩;have h0:=kJ i _ _ ha hu;simp only[Sh.mk,zA] at h0 gG;have:=h0.1.symm.trans gG.1;simp only[Value.pointer.injEq,jA,Addr.mk.injEq] at this;exact this.1.symm|_=>simp at h4);intro hA;cases s' with|box τ' s3=>exfalso;split at h4;rename_i j τ2 s2 e;simp only[jA,jG] at e;obtain⟨rfl,rfl⟩:=e;simp only[Sh.parse] at hz;cases A<;>simp[xN5,zH6] at hz hA;simp at h4;simp[xO] at h4;simp at h4|_=>exact zM9 (by simpa only[xY8] using gG) (by intro τ c e;simp only[xY8,Sh.mk] at e;cases e) (by intro e;simp only[xY8,Sh.mk] at e;cases e));rcases he with rfl|rfl;exact iP;exact iP;cases hsp
end Go.Am
namespace Go.Am
open Go Go.RowKit
variable {gtab:GlobTab}{P:Program}{c:Ctx}
def xX5 (H:St):List Comp->List (List (Nat×Sh))->Option (List Comp)
 |[],[]=>some []
 |cp::r,l::s=>match zD4 l (cp.d++H),xX5 H r s with
  |some z,some q=>some (⟨cp.kind,cp.g,xP6 l z++yX2⟩::q)
  |_,_=>none
 |_,_=>none
def wA4 (H:St)(l:List Comp)(ls:List (List (Nat×Sh))):Option (List Comp):=
 match xX5 H l ls with
 |some [q]=>some [⟨q.kind,none,q.d⟩]
 |r=>r
def yN7 [GlobTab] (c:Ctx)(body:Code)(ly lx:List (Nat×Sh))(les:List (List (Nat×Sh)))(y:zC2 ly)(x:zC2 lx):Option (Prop×Bool×zC2 ly×zC2 lx×List Comp):=
 match eval c body (zE3 ly lx y x) with
 |none=>none
 |some o=>match zA4 0 o.comps with
  |none=>none
  |some m=>match zD4 ly (m.d++zE3 ly lx y x),zD4 lx (m.d++zE3 ly lx y x),wA4 (zE3 ly lx y x) (zI4 0 o.comps) les with
   |some y',some x',some es=>some (xI o.ok,tk m.g,y',x',es)
   |_,_,_=>none
def xT3 (ly lx:List (Nat×Sh))(g:zC2 ly->zC2 lx->Bool)(next:zC2 ly->zC2 lx->zC2 lx)(ok:zC2 ly->zC2 lx->Prop)(es:zC2 ly->zC2 lx->List Comp)(S:St):Option Out:=
 match zD4 ly S,zD4 lx S with
 |some y,some x=>some ⟨[Ends (g y) (next y) (ok y) x],es y (zB9 (g y) (next y) x)⟩
 |_,_=>none
theorem yX6 {H:St}{k:Nat}:∀{l:List Comp}{ls:List (List (Nat×Sh))}{es:List Comp},xX5 H l ls=some es->(zA4 k es=none/\zA4 k l=none)\/∃cp cp',zA4 k l=some cp/\zA4 k es=some cp'/\cp'.g=cp.g/\St.hasCut cp'.d=true/\Weaker cp'.d (cp.d++H):=by intro l;induction l with|nil=>intro ls es h;cases ls<;>simp[xX5] at h;subst h;exact .inl ⟨rfl,rfl⟩|cons cp r j=>intro ls es h;cases ls with|nil=>simp[xX5] at h|cons s ls=>simp only[xX5] at h;split at h;rename_i z q o C;injection h with h;subst h;simp only[zA4];(cases Nat.beq cp.kind k with|true=>exact .inr ⟨cp,_,rfl,rfl,rfl,zI2 rfl,zH2 o zT4⟩|false=>exact j C);cases h
theorem xO3 {H:St}{k:Nat}{l:List Comp}{ls:List (List (Nat×Sh))}{es:List Comp}(h:wA4 H l ls=some es):(zA4 k es=none/\zA4 k l=none)\/∃cp cp',zA4 k l=some cp/\zA4 k es=some cp'/\(cp'.g=cp.g\/(cp'.g=none/\∀j c',zA4 j l=some c'->j=k))/\St.hasCut cp'.d=true/\Weaker cp'.d (cp.d++H):=by unfold wA4 at h;split at h;rename_i q hq;injection h with h;subst h;(have kF:∀j,zA4 j [q]=none->zA4 j l=none:=λj h'=>by rcases yX6 (k:=j) hq with ⟨_,o⟩ | ⟨cp,cp',_,o,_⟩;exact o;rw[h'] at o;cases o);rcases yX6 (k:=k) hq with ⟨I,o⟩ | ⟨cp,cp',I,o,h3,J,R⟩;left;refine⟨?_,o⟩;simp only[zA4] at I ⊢;(cases hb:Nat.beq q.kind k with|true=>simp[hb] at I|false=>rfl);right;have C:=o;simp only[zA4] at C;(cases hb:Nat.beq q.kind k with|false=>simp[hb] at C|true=>simp only[hb,jE,jA] at C;subst C;refine⟨cp,⟨q.kind,none,q.d⟩,I,by simp only[zA4,hb,jE],.inr ⟨rfl,λj c' hf=>?_⟩,J,R⟩;cases kl:Nat.beq q.kind j with|true=>rw[<-jC kl,jC hb]|false=>have:=kF j (by simp only[zA4,kl,jD]);rw[this] at hf;cases hf);rename_i r _;rcases yX6 (k:=k) h with I|⟨cp,cp',I,o,h3,J,R⟩;exact .inl I;exact .inr ⟨cp,cp',I,o,.inl h3,J,R⟩
theorem xT4 (hc:CtxOk P c)(hm:P.follows .mixedOrders=true){body:Code}(hL:zI3 P c body)(hw:zE7 c.keep body=true){ly lx:List (Nat×Sh)}{les:List (List (Nat×Sh))}{g:zC2 ly->zC2 lx->Bool}{next:zC2 ly->zC2 lx->zC2 lx}{ok:zC2 ly->zC2 lx->Prop}{es:zC2 ly->zC2 lx->List Comp}(kI:∀y x,yN7 c body ly lx les y x=some (ok y x,g y x,y,next y x,es y x)):∀S out,xT3 ly lx g next ok es S=some out->xN7 P c (.loop body) S out:=by intro S out h kj rd χ0 w0 vs a w G hR hk;unfold xT3 at h;split at h;rename_i y x hy hx;injection h with h;subst h;(have gN:∀y x,∃o m,eval c body (zE3 ly lx y x)=some o/\zA4 0 o.comps=some m/\xI o.ok=ok y x/\tk m.g=g y x/\zD4 ly (m.d++zE3 ly lx y x)=some y/\zD4 lx (m.d++zE3 ly lx y x)=some (next y x)/\wA4 (zE3 ly lx y x) (zI4 0 o.comps) les=some (es y x):=by intro y x;have:=kI y x;unfold yN7 at this;split at this;cases this;rename_i o ho;split at this;cases this;rename_i m hm;split at this;rename_i y' x' es' j h2 h3;simp only[jA,jG] at this;obtain⟨e1,e2,rfl,rfl,rfl⟩:=this;exact⟨o,m,ho,hm,e1,e2,j,h2,h3⟩;cases this);let O:zC2 ly->zC2 lx->Out:=λy x=>(eval c body (zE3 ly lx y x)).getD ⟨[],[]⟩;(have hO:∀y x,eval c body (zE3 ly lx y x)=some (O y x):=by intro y x;obtain⟨o,m,j,_⟩:=gN y x;simp only[O,j,Option.getD_some]);(have I:yD ly lx g next ok (λy x=>(O y x).comps) S=some ⟨[Ends (g y) (next y) (ok y) x],zU8 (zE3 ly lx y (zB9 (g y) (next y) x)) (O y (zB9 (g y) (next y) x)).comps⟩:=by unfold yD;rw[hy,hx]);have hsnd:=xF5 hc hm hL hw (g:=g) (next:=next) (ok:=ok) (comps:=λy x=>(O y x).comps) (oks:=λy x=>(O y x).ok) hO (λy x hx=>by obtain⟨o,m,j,h2,h3,_⟩:=gN y x;have:=hO y x;rw[j] at this;injection this with this;rw[<-this,h3];exact hx) (λy x=>by obtain⟨o,m,j,h2,h3,h4,h5,h6,h7⟩:=gN y x;have:=hO y x;rw[j] at this;injection this with this;exact⟨m,by rw[<-this];exact h2,h4,h5,h6⟩) S _ I kj rd χ0 w0 vs a w G hR hk;refine wpIn_mono hsnd λe a' w' hP=>⟨?_,hP.2⟩;obtain⟨k,cp,G',q1,J,q3,q4,q5⟩:=hP.1;obtain⟨o,m,j,h2,h3,h4,h5,h6,h7⟩:=gN y (zB9 (g y) (next y) x);have C:=hO y (zB9 (g y) (next y) x);rw[j] at C;injection C with C;(have kr:∀R,zA4 R (zU8 (zE3 ly lx y (zB9 (g y) (next y) x)) (O y (zB9 (g y) (next y) x)).comps)=(zA4 R (zI4 0 o.comps)).map λcp=>⟨cp.kind,cp.g,cp.d++zE3 ly lx y (zB9 (g y) (next y) x)⟩:=by intro R;unfold zU8;rw[zX0 (f:=λcp=>⟨cp.kind,cp.g,cp.d++zE3 ly lx y (zB9 (g y) (next y) x)⟩) (λ_=>rfl),C]);rw[kr] at J;rcases xO3 (k:=k) h7 with ⟨_,e2⟩ | ⟨c1,c2,e1,e2,e3,e4,e5⟩;rw[e2] at J;cases J;rw[e1] at J;simp only[Option.map_some,jA] at J;subst J;(have htk:tk c2.g=true:=by rcases e3 with e3|⟨e3,_⟩;rw[e3];exact q3;rw[e3];rfl);refine⟨k,c2,G',q1,e2,htk,λR c' hf ht=>?_,?_⟩;rcases xO3 (k:=R) h7 with ⟨f1,_⟩ | ⟨d1,d2,f1,f2,f3,_,_⟩;rw[f1] at hf;cases hf;rw[f2] at hf;injection hf with hf;subst hf;rcases f3 with f3|⟨_,f3⟩;refine q4 R ⟨d1.kind,d1.g,d1.d++zE3 ly lx y (zB9 (g y) (next y) x)⟩ (by rw[kr,f1];rfl) ?_;rw[f3] at ht;exact ht;exact (f3 k c1 e1).symm;have r1:Rel c.n χ0 w0 (c1.d++zE3 ly lx y (zB9 (g y) (next y) x)) a' w' G':=zW7 (λs=>(yX3 (zI2 xA3)).symm) q5;exact zW7 (λs=>yX3 e4) (e5.rel r1);cases h
def xF8 [GlobTab] (c:Ctx)(code:Code)(rv:List ResultVar)(ps:List (Nat×Sh))(rs:Sh)(os:List (Nat×Sh))(x:zC2 ps):Option (Prop×rs.den×yN6 os):=
 match eval c code (zC1 ps x) with
 |none=>none
 |some o=>match yX5 (zC1 ps x) o.comps with
  |none=>none
  |some d=>match zS c (d++zC1 ps x) rv,yA4 os (d++zC1 ps x) with
   |some r,some z=>(match rs.parse r with|some v=>some (xI o.ok,v,z)|none=>none)
   |_,_=>none
theorem xT5 (hc:CtxOk P c)(hm:P.follows .mixedOrders=true){f:Nat}{fn:Func}{code:Code}(hf:P.funcs[f]?=some fn)(hb:fn.body=some code)(kV:fn.name≠"runtime.NumGoroutine") (hn:fn.ntmps=c.n) (hL:zI3 P c code) (hw:zE7 c.keep code=true){ps:List (Nat×Sh)}{rs:Sh}{os:List (Nat×Sh)}{ok:zC2 ps->Prop}{F:zC2 ps->rs.den}{o:zC2 ps->yN6 os}(qt:(xW7 0 ps&&xY9 ps c.keep os&&Nat.ble ps.length c.n)=true){rv:List ResultVar}(hrv:fn.results.toList=rv) (kI:∀x,xF8 c code rv ps rs os x=some (ok x,F x,o x)):SpecOk P f (fnSpec ps rs os ok F o):=by (have gN:∀x,∃out d r,eval c code (zC1 ps x)=some out/\yX5 (zC1 ps x) out.comps=some d/\zS c (d++zC1 ps x) fn.results.toList=some r/\rs.parse r=some (F x)/\yA4 os (d++zC1 ps x)=some (o x)/\xI out.ok=ok x:=by intro x;have:=kI x;rw[hrv];unfold xF8 at this;split at this;cases this;rename_i out ho;split at this;cases this;rename_i d hd;split at this;rename_i r z hr hz;split at this;rename_i v hv;simp only[jA,jG] at this;obtain⟨e1,rfl,rfl⟩:=this;exact⟨out,d,r,ho,hd,hr,hv,hz,e1⟩;cases this;cases this);let O:zC2 ps->Out:=λx=>(eval c code (zC1 ps x)).getD ⟨[],[]⟩;let D:zC2 ps->St:=λx=>(yX5 (zC1 ps x) (O x).comps).getD [];let R:zC2 ps->AVal:=λx=>(zS c (D x++zC1 ps x) fn.results.toList).getD .junk;(have hO:∀x,eval c code (zC1 ps x)=some (O x)/\yX5 (zC1 ps x) (O x).comps=some (D x)/\zS c (D x++zC1 ps x) fn.results.toList=some (R x)/\rs.parse (R x)=some (F x)/\yA4 os (D x++zC1 ps x)=some (o x)/\xI (O x).ok=ok x:=by intro x;obtain⟨out,d,r,h1,h2,h3,h4,h5,h6⟩:=gN x;(have e1:O x=out:=by simp only[O,h1,Option.getD_some]);(have e2:D x=d:=by simp only[D,e1,h2,Option.getD_some]);(have e3:R x=r:=by simp only[R,e2,h3,Option.getD_some]);rw[e1,e2,e3];exact⟨h1,h2,h3,h4,h5,h6⟩);exact xF7 hc hm hf hb kV hn hL hw (oks:=λx=>(O x).ok) (comps:=λx=>(O x).comps) (d:=D) (res:=R) qt (λx=>(hO x).1) (λx hx=>by rw[(hO x).2.2.2.2.2];exact hx) (λx=>(hO x).2.1) (λx=>(hO x).2.2.1) (λx=>(hO x).2.2.2.1) (λx=>(hO x).2.2.2.2.1)
end Go.Am
namespace Go.Am
open Go Go.RowKit
variable {gtab:GlobTab}{P:Program}{c:Ctx}
def zG1:Code->List Code
 |.seq a b=>zG1 a++zG1 b
 |.cond _ a b=>zG1 a++zG1 b
 |.block _ a=>zG1 a
 |.loop a=>[a]
 |_=>[]
def wB4 (cd:Code)(i:Nat):Code:=(zG1 cd).getD i .skip
def yX7 [GlobTab] (P:Program)(c:Ctx)(b:Code):Prop:=∀S out,look (λ_=>none) c.loops (zE8 b) S=some out->xN7 P c (.loop b) S out
def zU [GlobTab] (P:Program)(c:Ctx):List Code->Prop
 |[]=>True
 |b::r=>yX7 P c b/\zU P c r
theorem zX2:∀{l r:List Code},zU P c (l++r)->zU P c l/\zU P c r:=by intro l;induction l with|nil=>intro r h;exact⟨trivial,h⟩|cons b l j=>intro r h;have:=j h.2;exact⟨⟨h.1,this.1⟩,this.2⟩
theorem yH3:∀{code:Code}{bs:List Code},zG1 code=bs->zU P c bs->zI3 P c code:=by intro code;induction code with|seq a b gj kQ=>intro bs he h;subst he;simp only[zG1] at h;have:=zX2 h;exact⟨gj rfl this.1,kQ rfl this.2⟩|cond x a b gj kQ=>intro bs he h;subst he;simp only[zG1] at h;have:=zX2 h;exact⟨gj rfl this.1,kQ rfl this.2⟩|block id a j=>intro bs he h;subst he;simp only[zG1] at h;exact j rfl h|loop a _=>intro bs he h;subst he;simp only[zG1] at h;exact h.1|_=>intro bs _ _;trivial
def xT6 [GlobTab] (P:Program):List (Nat×Spec)->Prop
 |[]=>True
 |(f,sp)::r=>SpecOk P f sp/\xT6 P r
theorem xA5:∀{l:List (Nat×Spec)},xT6 P l->∀f sp,(f,sp)∈l->SpecOk P f sp:=by intro l;induction l with|nil=>intro _ f sp h;cases h|cons e r j=>intro h f sp hm;obtain⟨g,s⟩:=e;rcases List.mem_cons.1 hm with e|hm;simp only[jG] at e;obtain⟨rfl,rfl⟩:=e;exact h.1;exact j h.2 f sp hm
def xO4 [GlobTab] (P:Program):List (Nat×(List AVal->Option (List Prop×AVal)))->Prop
 |[]=>True
 |(f,e)::r=>xJ7 P f e/\xO4 P r
theorem xO5:∀{l:List (Nat×(List AVal->Option (List Prop×AVal)))},xO4 P l->∀f e,(f,e)∈l->xJ7 P f e:=by intro l;induction l with|nil=>intro _ f e h;cases h|cons q r j=>intro h f e hm;obtain⟨g,C⟩:=q;rcases List.mem_cons.1 hm with hm|hm;injection hm with e1 o;subst e1;subst o;exact h.1;exact j h.2 f e hm
theorem xZ (ht:zM4 P c.tys=true)(uo:(yF3 P c.maps&&yT4 P c.fts)=true)(j:xT6 P c.fns)(he:xO4 P c.exts)(o:Nat.ble c.n zA9=true)(kK:c.clones=[]:=by rfl):CtxOk P c:=⟨ht,xA5 j,xO5 he,((jB _ _).mp uo).1,((jB _ _).mp uo).2,jR o,λf k h=>by rw[kK] at h;cases h⟩
theorem wA5 (ht:zM4 P c.tys=true)(uo:(yF3 P c.maps&&yT4 P c.fts)=true)(j:xT6 P c.fns)(he:c.exts=[])(o:Nat.ble c.n zA9=true)(kK:c.clones=[]:=by rfl):CtxOk P c:=⟨ht,xA5 j,(λf e h=>by rw[he] at h;cases h),((jB _ _).mp uo).1,((jB _ _).mp uo).2,jR o,λf k h=>by rw[kK] at h;cases h⟩
theorem xT7 (j:CtxOk P c)(hm:P.follows .mixedOrders=true){body:Code}{bs:List Code}(hb:zG1 body=bs)(o:zU P c bs)(hw:zE7 c.keep body=true){ly lx:List (Nat×Sh)}{les:List (List (Nat×Sh))}{g:zC2 ly->zC2 lx->Bool}{next:zC2 ly->zC2 lx->zC2 lx}{ok:zC2 ly->zC2 lx->Prop}{es:zC2 ly->zC2 lx->List Comp}(C:look (λ_=>none) c.loops (zE8 body)=xT3 ly lx g next ok es)(kI:∀y x,yN7 c body ly lx les y x=some (ok y x,g y x,y,next y x,es y x)):yX7 P c body:=by intro S out h;rw[C] at h;exact xT4 j hm (yH3 hb o) hw kI S out h
theorem xT8 (hc:CtxOk P c)(hm:P.follows .mixedOrders=true){f:Nat}{fn:Func}{code:Code}(hf:P.funcs[f]?=some fn)(hb:fn.body=some code)(kV:fn.name≠"runtime.NumGoroutine") (hn:fn.ntmps=c.n){bs:List Code}(qx:zG1 code=bs) (hL:zU P c bs) (hw:zE7 c.keep code=true){ps:List (Nat×Sh)}{rs:Sh}{os:List (Nat×Sh)}{ok:zC2 ps->Prop}{F:zC2 ps->rs.den}{o:zC2 ps->yN6 os}(qt:(xW7 0 ps&&xY9 ps c.keep os&&Nat.ble ps.length c.n)=true){rv:List ResultVar}(hrv:fn.results.toList=rv) (kI:∀x,xF8 c code rv ps rs os x=some (ok x,F x,o x)):SpecOk P f (fnSpec ps rs os ok F o):=xT5 hc hm hf hb kV hn (yH3 qx hL) hw qt hrv kI
theorem xX6 {f:Nat}{fn:Func}(hf:P.funcs[f]?=some fn)(hb:fn.body.isSome=true)(kV:fn.name≠"runtime.NumGoroutine"){ps:List (Nat×Sh)}{rs:Sh}{os:List (Nat×Sh)}{F:zC2 ps->rs.den}{o:zC2 ps->yN6 os}:SpecOk P f (fnSpec ps rs os (λ_=>False) F o):=by refine⟨⟨fn,hf,hb,kV⟩,λargs co hsp kj=>?_⟩;unfold fnSpec at hsp;generalize Nat.beq args.length ps.length=b at hsp;cases b with|false=>cases hsp|true=>simp only[jE] at hsp;split at hsp;injection hsp with hsp;subst hsp;exact (kj _ (jQ ..)).elim;cases hsp
@[reducible] def vI:Sh:=.val (.int .i64)
@[reducible] def vB:Sh:=.val .bool
@[reducible] def vS:Sh:=.val .str
def ex (k:Nat)(g:Option Bool)(l:List (Nat×Sh))(v:zC2 l):Comp:=⟨k,g,xP6 l v++yX2⟩
@[reducible] def Cx (tys:List (Nat×Ty)) (fns:List (Nat×Spec)) (loops:List (Nat×(St->Option Out))) (gh:List (Nat×List (Nat×Nat×Nat×Nat))) (wrap:Bool) (n:Nat) (keep wr:List Nat):Ctx:=
 {tys,fns,loops,gh,wrap,n,keep,wr }
theorem wC2 (j:CtxOk P c)(hm:P.follows .mixedOrders=true){body:Code}{sp:St->Option Out}{ly lx:List (Nat×Sh)}{g:zC2 ly->zC2 lx->Bool}{next:zC2 ly->zC2 lx->zC2 lx}{ok:zC2 ly->zC2 lx->Prop}{es:zC2 ly->zC2 lx->List Comp}(o:sp=xT3 ly lx g next ok es)(les:List (List (Nat×Sh))){bs:List Code}(hb:zG1 body=bs)(C:zU P c bs)(hw:zE7 c.keep body=true)(I:look (λ_=>none) c.loops (zE8 body)=sp)(kI:∀y x,yN7 c body ly lx les y x=some (ok y x,g y x,y,next y x,es y x)):yX7 P c body:=by subst o;exact xT7 j hm hb C hw I kI
def xZ0 (fn:Func)(c:Ctx)(ps:List (Nat×Sh))(os:List (Nat×Sh)):Bool:=
 fn.body.isSome&&(!(fn.name=="runtime.NumGoroutine")&&(Nat.beq fn.ntmps c.n&&(zE7 c.keep (fn.body.getD .skip)&&(xW7 0 ps&&xY9 ps c.keep os&&Nat.ble ps.length c.n))))
theorem wC3 (I:CtxOk P c)(hm:P.follows .mixedOrders=true){f:Nat}{fn:Func}(J:P.funcs[f]?=some fn){ps:List (Nat×Sh)}{rs:Sh}{os:List (Nat×Sh)}{ok:zC2 ps->Prop}{F:zC2 ps->rs.den}{o:zC2 ps->yN6 os}(j:xZ0 fn c ps os=true){bs:List Code}(qx:zG1 (fn.body.getD .skip)=bs)(R:zU P c bs)(kI:∀x,xF8 c (fn.body.getD .skip) fn.results.toList ps rs os x=some (ok x,F x,o x)):SpecOk P f (fnSpec ps rs os ok F o):=by simp only[xZ0,jB,jK,beq_eq_false_iff_ne,ne_eq] at j;obtain⟨h1,h2,h3,C,h5⟩:=j;obtain⟨code,hb⟩:=Option.isSome_iff_exists.1 h1;rw[hb,Option.getD_some] at C qx kI;exact xT8 I hm J hb h2 (jC h3) qx R C (by simpa only[jB] using h5) rfl kI
def wC4 (k:IntKind)(a b:Int):Int:=yD2 k (λx y=>x &&& y) a b
def ior (k:IntKind)(a b:Int):Int:=yD2 k (λx y=>x ||| y) a b
def wC5 (a b:Int)(n:Nat):Int:=a.fdiv (2 ^ (min b.toNat n))
def nth {α:Type}(l:List α)(i:Int)(d:α):α:=l.getD i.toNat d
def InB (i n:Int):Prop:=0<=i/\i<n
def len {α:Type}(l:List α):Int:=(l.length:Int)
def wB7 (s:List UInt8)(i:Int):Int:=((s.getD i.toNat 0).toNat:Int)
end Go.Am
namespace Go.Am
open Go Go.RowKit
variable {gtab:GlobTab}{P:Program}
def xA6:List AVal->Option (List Prop×AVal)
 |[.val (.int .u64) x,.val (.int .u64) y,.val (.int .u64) c] =>
  some ([0<=c/\c<=1],.tup (.cons (.val (.int .u64) (((Int.toNat x+Int.toNat y+Int.toNat c) % 18446744073709551616:Nat):Int)) (.cons (.val (.int .u64) (((Int.toNat x+Int.toNat y+Int.toNat c) / 18446744073709551616:Nat):Int)) .nl)))
 |_=>none
def yA5:List AVal->Option (List Prop×AVal)
 |[.val .str s,.val (.int .u8) c]=>some ([],.val (.int .i64) (Lib.indexByte s (Int.toNat c).toUInt8))
 |_=>none
theorem xT9 {G:Gh}{w:World}{tm:Array Value}{A B:AVal}{vals:List Value}(h:zG5 (zA G w tm none) [A,B] vals):∃u v,vals=[u,v]/\zA G w tm none A u/\zA G w tm none B v:=by match vals,h with |[u,v],h=>simp only[zG5] at h;exact⟨u,v,rfl,h.1,h.2.1⟩|[],h=>simp[zG5] at h|[_],h=>simp[zG5] at h|_::_::_::_,h=>simp[zG5] at h
theorem xF9 {G:Gh}{w:World}{tm:Array Value}{A B C:AVal}{vals:List Value}(h:zG5 (zA G w tm none) [A,B,C] vals):∃u v x,vals=[u,v,x]/\zA G w tm none A u/\zA G w tm none B v/\zA G w tm none C x:=by match vals,h with |[u,v,x],h=>simp only[zG5] at h;exact⟨u,v,x,rfl,h.1,h.2.1,h.2.2.1⟩|[],h=>simp[zG5] at h|[_],h=>simp[zG5] at h|[_,_],h=>simp[zG5] at h|_::_::_::_::_,h=>simp[zG5] at h
theorem xU7 {f:Nat}{fn:Func}(hf:P.funcs[f]?=some fn)(kV:(fn.name=="runtime.NumGoroutine")=false) (hb:fn.body.isNone=true) (hn:(Extern.findNext fn).isNone=true) (he:Extern.find fn=some Extern.BytealgIndexByte.indexByte):xJ7 P f yA5:=by intro args p A h _ G w tm vals hv;unfold yA5 at h;split at h;simp only[jA,jG] at h;obtain⟨rfl,rfl⟩:=h;obtain⟨u,v,rfl,h1,h2⟩:=xT9 hv;simp only[zA] at h1 h2;rw[VRep_str] at h1;rw[VRep_int] at h2;subst h1;subst h2;refine⟨_,?_,zC9⟩;rw[run_callFunc_extern hf kV hb (Option.isNone_iff_eq_none.1 hn) he,Lib.run_indexByteString];rfl;cases h
theorem wA6 {f:Nat}{fn:Func}(hf:P.funcs[f]?=some fn)(kV:(fn.name=="runtime.NumGoroutine")=false) (hb:fn.body.isNone=true) (hn:(Extern.findNext fn).isNone=true) (he:Extern.find fn=some add64Entry):xJ7 P f xA6:=by intro args p A h hp G w tm vals hv;unfold xA6 at h;split at h;rename_i x y c;simp only[jA,jG] at h;obtain⟨rfl,rfl⟩:=h;have hc:(0:Int)<=c/\(c:Int)<=1:=hp _ (jQ ..);obtain⟨u,v,q,rfl,h1,h2,h3⟩:=xF9 hv;simp only[zA] at h1 h2 h3;rw[VRep_int] at h1 h2 h3;subst h1;subst h2;subst h3;refine⟨Extern.MathBitsCarry.pair ((Int.toNat x+Int.toNat y+Int.toNat c) % Extern.MathBitsCarry.m64) ((Int.toNat x+Int.toNat y+Int.toNat c) / Extern.MathBitsCarry.m64),?_,?_⟩;rw[run_callFunc_extern hf kV hb (Option.isNone_iff_eq_none.1 hn) he];(have key:∀k:Nat,k<=1->(add64Entry #[.int .u64 x,.int .u64 y,.int .u64 (k:Int)]).run P w=.ok (Extern.MathBitsCarry.pair ((Int.toNat x+Int.toNat y+k) % Extern.MathBitsCarry.m64) ((Int.toNat x+Int.toNat y+k) / Extern.MathBitsCarry.m64)) w:=by intro k hk;(have:k=0\/k=1:=by omega);rcases this with rfl|rfl<;>rfl);obtain⟨k,hk⟩:=Int.eq_ofNat_of_zero_le hc.1;have h0:c=((k:Nat):Int):=hk;(have iU:k<=1:=by have h1:=hc.2;rw[h0] at h1;exact Int.ofNat_le.1 h1);rw[h0];show ((add64Entry #[.int .u64 x,.int .u64 y,.int .u64 (k:Int)]).run P w).andThen _=_;rw[key k iU];rfl;simp only[zA,Extern.MathBitsCarry.pair,Extern.MathBitsCarry.m64];exact⟨_,[_],rfl,zC9 (s:=none) (tm:=tm),_,[],rfl,zC9 (s:=none) (tm:=tm),rfl⟩;cases h
end Go.Am
namespace Go.Am
open Go
instance (r:Int):Decidable (InR r):=inferInstanceAs (Decidable (_/\_))
instance (i n:Int):Decidable (InB i n):=inferInstanceAs (Decidable (_/\_))
def xO6 {X:Type}(g:X->Bool)(next:X->X)(okb:X->Bool):Nat->X->Bool
 |0,_=>false
 |k+1,x=>okb x&&(cond (g x) (xO6 g next okb k (next x)) true)
theorem xU {X:Type}{g:X->Bool}{next:X->X}{ok:X->Prop}{okb:X->Bool}(h:∀x,okb x=true↔ok x):∀{F:Nat}{x:X},xO6 g next okb F x=true↔∃k,k<F/\Runs g next ok k x:=by intro F;induction F with|zero=>intro x;simp[xO6]|succ F I=>intro x;simp only[xO6,jB,h];cases o:g x with|false=>simp only[jD,and_true];constructor;intro C;exact⟨0,by omega,C,o⟩;rintro⟨k,_,j⟩;(cases k with|zero=>exact j.1|succ k=>exact j.1)|true=>simp only[jE,I];constructor;rintro⟨C,k,J,j⟩;exact⟨k+1,by omega,C,o,j⟩;rintro⟨k,J,j⟩;cases k with|zero=>rw[j.2] at o;cases o|succ k=>exact⟨j.1,k,by omega,j.2.2⟩
instance {X:Type}{g:X->Bool}{next:X->X}{ok:X->Prop}[inst:∀x,Decidable (ok x)] (x:X):Decidable (Am.Ends g next ok x):=decidable_of_iff (xO6 g next (λx=>decide (ok x)) zG8 x=true) (xU λx=>by simp)
end Go.Am
namespace Go.Am
open Go Go.RowKit
variable {gtab:GlobTab}{P:Program}{w:World}{χ:Nat->Nat->Nat}
def Ty.deep:Ty->Bool
 |.ptr _=>false|.cons h t=>h.deep&&t.deep|.st f=>f.deep|.arr _ t=>t.deep|.sl t=>Nat.blt 0 t.size&&t.deep|_=>true
def Ty.wf:(τ:Ty)->τ.den->Prop
 |.int k,x=>k.min<=x/\x<=k.max
 |.bool,_=>True
 |.str,s=>List.length (α:=UInt8) s<=maxLen
 |.nl,_=>True
 |.cons h t,x=>h.wf x.1/\t.wf x.2
 |.st f,x=>f.wf x
 |.arr n t,l=>List.length (α:=t.den) l=n/\∀y∈(l:List t.den),t.wf y
 |.sl t,l=>List.length (α:=t.den) l<=maxLen/\∀y∈(l:List t.den),t.wf y
 |.ptr t,x=>t.wf x
theorem yS6 {α β γ:Type}{f:α->Option β}{R:γ->List Value->Prop}{g:α->List Value}{wf:γ->Prop}:∀{l:List α}{ys:List β},l.mapM f=some ys->(∀x y,x∈l->f x=some y->∃z,R z (g x)/\wf z)->∃zs:List γ,zs.length=l.length/\zJ9 R zs (l.flatMap g)/\∀z∈zs,wf z:=by intro l;induction l with|nil=>intro ys _ _;exact⟨[],rfl,rfl,λz h=>(by cases h)⟩|cons x l C=>intro ys h o;simp only[List.mapM_cons,Option.bind_eq_bind,Option.bind_eq_some_iff,Option.pure_def,jA] at h;obtain⟨y,I,ys',kS,rfl⟩:=h;obtain⟨z,J,h2⟩:=o x y (jQ ..) I;obtain⟨zs,h3,h4,h5⟩:=C kS λx y hx=>o x y (jP _ hx);refine⟨z::zs,by simp[h3],⟨g x,l.flatMap g,rfl,J,h4⟩,λz' j=>?_⟩;rcases List.mem_cons.1 j with rfl|j;exact h2;exact h5 z' j
theorem xG {f:Nat->Value}(sz:Nat):∀n,(List.range n).flatMap (λi=>(List.range sz).map λk=>f (i*sz+k))=(List.range (n*sz)).map f:=by intro n;induction n with|zero=>simp|succ n j=>rw[List.range_succ,List.flatMap_append,j,Nat.succ_mul,List.range_add,List.map_append];simp
theorem xO7 {cs:List Value}(sz:Nat):∀n,(List.range n).flatMap (λi=>(cs.drop (i*sz)).take sz)=cs.take (n*sz):=by intro n;induction n with|zero=>simp|succ n j=>rw[List.range_succ,List.flatMap_append,j,Nat.succ_mul,List.take_add];simp
theorem zN8 {τ:Ty}{T:Nat}(h:zC0 P τ (.inl T)=true):P.cellsOf T=τ.size:=by obtain⟨⟨i,z,j,o,_⟩,_⟩:=zF6 h;simp[Program.cellsOf,j,o]
theorem cells?_is {a:Addr}{n:Nat}{cs:List Value}(h:w.cells? 0 a n=some cs):cs=(List.range n).map (λk=>(w.cell? (a.add k)).getD undef)/\∀k,k<n->∃v,w.cell? (a.add k)=some v:=by simp only[World.cells?,Nat.zero_le,if_true] at h;generalize C:(λi=>w.cell? (a.add i))=f at h;(have key:∀(l:List Nat) (cs:List Value),l.mapM f=some cs->cs=l.map (λk=>(f k).getD undef)/\∀k∈l,∃v,f k=some v:=by intro l;induction l with|nil=>intro cs h;simp at h;subst h;exact⟨rfl,λk h=>(by cases h)⟩|cons x l I=>intro cs h;simp only[List.mapM_cons,Option.bind_eq_bind,Option.bind_eq_some_iff,Option.pure_def,jA] at h;obtain⟨y,o,ys,kS,rfl⟩:=h;obtain⟨J,R⟩:=I ys kS;refine⟨by simp[o,J],λk j=>?_⟩;rcases List.mem_cons.1 j with rfl|j;exact⟨y,o⟩;exact R k j);have:=key _ _ h;subst C;exact⟨this.1,λk j=>this.2 k (List.mem_range.2 j)⟩
theorem xO8 (a:Addr)(m k:Nat):(a.add m).add k=a.add (m+k):=by by_cases hm:m=0;subst hm;simp[Addr.add];by_cases j:k=0;subst j;simp[Addr.add];simp[Addr.add,hm,j,Nat.add_assoc]
theorem yS7 {a:Addr}{v:Value}(h:w.cell? a=some v):a.spot=none/\a.block<w.heap.size:=by unfold World.cell? at h;split at h;rename_i c _ _ hb;split at h;cases h;rename_i j;refine⟨by simpa using j,zE0 hb⟩;cases h
section
variable {H:Type}{enc:TypeId×Value->H}{sp:Nat->Bool}{held:Bool}
theorem xU0 (hχ:∀b o,b<w.heap.size->χ b o=0):∀τ:Ty,(∀(T zG8:Nat) (cs:List Value) (d:DataW H) (ps:List MemPlace),zC0 P τ (.inl T)=true->τ.deep=true->DataW.trod enc P w 0 sp held zG8 T cs=some (d,ps)->∃x,zB χ w τ x cs/\τ.wf x)/\(∀(fs:List Field) (o:Nat) (cs:List Value) (zG8:Nat) (xs:List (DataW H×List MemPlace)),zC0 P τ (.inr (fs,o))=true->τ.deep=true->fs.mapM (λf=>DataW.trod enc P w 0 sp held zG8 f.type ((cs.drop f.offset).take (P.cellsOf f.type)))=some xs->cs.length=o+τ.size->∃x,zB χ w τ x (cs.drop o)/\τ.wf x):=by intro τ;induction τ with|int k=>refine⟨λT zG8 cs d ps C _ h=>?_,λfs o cs zG8 xs C=>by simp[zC0] at C⟩;(have hu:P.underlying T=some (.int k):=by simp only[zC0,jB] at C;cases hu:P.underlying T with|none=>simp[hu] at C|some d=>rw[hu] at C;cases d<;>simp at C;rw[zG9 C.1]);(cases zG8 with|zero=>simp[DataW.trod] at h|succ zG8=>unfold DataW.trod at h;rw[hu] at h;match cs,h with |[.int k' n],h=>simp only at h;split at h;rename_i hc;obtain⟨rfl,hw⟩:=hc;simp only[Lit.wf,jB,decide_eq_true_eq] at hw;exact⟨n,by simp only[zB],hw⟩;cases h)|bool=>refine⟨λT zG8 cs d ps C _ h=>?_,λfs o cs zG8 xs C=>by simp[zC0] at C⟩;(have hu:P.underlying T=some .bool:=by simp only[zC0,jB] at C;cases hu:P.underlying T with|none=>simp[hu] at C|some d=>rw[hu] at C;cases d<;>simp at C;rfl);(cases zG8 with|zero=>simp[DataW.trod] at h|succ zG8=>unfold DataW.trod at h;rw[hu] at h;match cs,h with |[.bool b],h=>exact⟨b,by simp only[zB],trivial⟩)|str=>refine⟨λT zG8 cs d ps C _ h=>?_,λfs o cs zG8 xs C=>by simp[zC0] at C⟩;have hu:=zK1 C;(cases zG8 with|zero=>simp[DataW.trod] at h|succ zG8=>unfold DataW.trod at h;rw[hu] at h;match cs,h with |[.string b],h=>simp only at h;split at h;rename_i hs;refine⟨b.data.toList,by simp only[zB],?_⟩;show b.data.toList.length<=maxLen;rw[jN];exact hs;cases h)|nl=>refine⟨λT zG8 cs d ps C=>by simp[zC0] at C,λfs o cs zG8 xs C _ h hl=>?_⟩;refine⟨(),?_,trivial⟩;simp only[zB,Ty.size,Nat.add_zero] at hl ⊢;simp[hl]|cons a b gj kQ=>refine⟨λT zG8 cs d ps C=>by simp[zC0] at C,λfs o cs zG8 xs C I h hl=>?_⟩;(cases fs with|nil=>simp[zC0] at C|cons fd r=>simp only[zC0,jB] at C;obtain⟨⟨⟨h1,_⟩,h2⟩,h3⟩:=C;have ho:=jC h1;simp only[Ty.deep,jB] at I;simp only[Ty.size] at hl;simp only[List.mapM_cons,Option.bind_eq_bind,Option.bind_eq_some_iff,Option.pure_def,jA] at h;obtain⟨y,J,ys,kS,rfl⟩:=h;obtain⟨x,q1,q2⟩:=gj.1 _ _ _ _ _ h2 I.1 (show _=some (y.1,y.2) from J);rw[zN8 h2,ho] at q1;obtain⟨z,q3,q4⟩:=kQ.2 r (o+a.size) cs zG8 ys h3 I.2 kS (by omega);refine⟨(x,z),?_,q2,q4⟩;simp only[zB];refine⟨_,_,?_,q1,q3⟩;rw[<-List.drop_drop,List.take_append_drop])|st f ih=>refine⟨λT zG8 cs d ps C I h=>?_,λfs o cs zG8 xs C=>by simp[zC0] at C⟩;obtain⟨fs,hu,hf⟩:=zQ5 C;have kB:=zN8 C;(cases zG8 with|zero=>simp[DataW.trod] at h|succ zG8=>unfold DataW.trod at h;rw[hu] at h;simp only at h;split at h;rename_i hl;simp only[Option.map_eq_some_iff] at h;obtain⟨xs,nv,_⟩:=h;obtain⟨x,h1,h2⟩:=ih.2 fs.toList 0 cs zG8 xs hf (by simpa only[Ty.deep] using I) nv (by rw[hl,kB];simp[Ty.size]);exact⟨x,by simpa only[zB,List.drop_zero] using h1,h2⟩;cases h)|arr n t ih=>refine⟨λT zG8 cs d ps C I h=>?_,λfs o cs zG8 xs C=>by simp[zC0] at C⟩;obtain⟨e,hu,hf⟩:=zO C;have kB:=zN8 C;have gI:=zN8 hf;(cases zG8 with|zero=>simp[DataW.trod] at h|succ zG8=>unfold DataW.trod at h;rw[hu] at h;simp only at h;split at h;rename_i hl;simp only[Option.map_eq_some_iff] at h;obtain⟨xs,nv,_⟩:=h;obtain⟨zs,h1,h2,h3⟩:=yS6 (R:=zB χ w t) (g:=λi=>(cs.drop (i*t.size)).take t.size) (wf:=t.wf) nv (λi y _ J=>by rw[gI] at J;exact ih.1 _ _ _ _ _ hf (by simpa only[Ty.deep] using I) (show _=some (y.1,y.2) from J));rw[xO7] at h2;simp only[List.length_range] at h1;rw[List.take_of_length_le (by rw[hl,kB];simp[Ty.size])] at h2;exact⟨zs,by simp only[zB];exact⟨h1,h2⟩,h1,h3⟩;cases h)|sl t ih=>refine⟨λT zG8 cs d ps C I h=>?_,λfs o cs zG8 xs C=>by simp[zC0] at C⟩;obtain⟨e,hu,hf⟩:=zF7 C;have gI:=zN8 hf;(cases zG8 with|zero=>simp[DataW.trod] at h|succ zG8=>unfold DataW.trod at h;rw[hu] at h;match cs,h with |[.slice none 0 0],h=>exact⟨[],by simp only[zB];exact⟨none,0,rfl,.inl trivial⟩,by simp[Ty.wf]⟩|[.slice (some a) ln cap],h=>simp only at h;split at h;rename_i hc;simp only[Option.bind_eq_some_iff] at h;obtain⟨els,mh,_⟩:=h;rw[gI] at mh;obtain⟨zs,h1,h2,h3⟩:=yS6 (R:=zB χ w t) (g:=λi=>(List.range t.size).map λk=>(w.cell? (a.add (i*t.size+k))).getD undef) (wf:=t.wf) mh (λi y _ J=>by simp only[Option.bind_eq_some_iff] at J;obtain⟨cs',kn,J⟩:=J;obtain⟨z,q1,q2⟩:=ih.1 _ _ _ _ _ hf (by simp only[Ty.deep,jB] at I;exact I.2) (show _=some (y.1,y.2) from J);refine⟨z,?_,q2⟩;have:=(cells?_is kn).1;rw[this] at q1;simpa only[xO8] using q1);rw[xG (f:=λj=>(w.cell? (a.add j)).getD undef)] at h2;simp only[List.length_range] at h1;refine⟨zs,?_,by simp only[Ty.wf];exact⟨by omega,h3⟩⟩;simp only[zB];refine⟨some a,cap,by rw[h1],?_⟩;by_cases hz:zs=[];exact .inl hz;(have kC:∀j,j<ln*t.size->∃v,w.cell? (a.add j)=some v:=by intro j hj;(have kO:0<t.size:=by rcases Nat.eq_zero_or_pos t.size with h0|h0;rw[h0] at hj;simp at hj;exact h0);have hi:j / t.size<ln:=Nat.div_lt_of_lt_mul (by rw[Nat.mul_comm];exact hj);(have kZ:∀i,i<ln->∃y,(w.cells? 0 (a.add (i*t.size)) t.size).bind (DataW.trod enc P w 0 sp held zG8 e)=some y:=by intro i hi;(have key:∀(l:List Nat) els,l.mapM (λi=>(w.cells? 0 (a.add (i*t.size)) t.size).bind (DataW.trod enc P w 0 sp held zG8 e))=some els->∀i∈l,∃y,(w.cells? 0 (a.add (i*t.size)) t.size).bind (DataW.trod enc P w 0 sp held zG8 e)=some y:=by intro l;induction l with|nil=>intro els _ i h;cases h|cons x l ihl=>intro els h i hi;simp only[List.mapM_cons,Option.bind_eq_bind,Option.bind_eq_some_iff,Option.pure_def,jA] at h;obtain⟨y,J,ys,kS,rfl⟩:=h;rcases List.mem_cons.1 hi with rfl|hi;exact⟨y,by simpa only[Option.bind_eq_some_iff] using J⟩;exact ihl ys kS i hi);exact key _ _ mh i (List.mem_range.2 hi));obtain⟨y,J⟩:=kZ _ hi;simp only[Option.bind_eq_some_iff] at J;obtain⟨cs',kn,_⟩:=J;obtain⟨v,hv⟩:=(cells?_is kn).2 (j % t.size) (Nat.mod_lt _ kO);refine⟨v,?_⟩;(have e1:(a.add (j / t.size*t.size)).add (j % t.size)=a.add j:=by rw[xO8,Nat.div_add_mod']);rwa [e1] at hv);obtain⟨b,o,s⟩:=a;simp only[Ty.deep,jB] at I;have hs1:0<t.size:=jR I.1;by_cases hs0:ln=0;exact .inl (List.length_eq_zero_iff.1 (by omega));have kO:0<ln*t.size:=Nat.mul_pos (by omega) (by omega);obtain⟨v,hv⟩:=kC 0 kO;have hsp:=(yS7 hv).1;(have hsp:s=none:=by simpa[Addr.add] using hsp);subst hsp;refine .inr ⟨b,o,_,rfl,by omega,h2,λj v hj=>?_⟩;rw[List.getElem?_map] at hj;(have gL:j<ln*t.size:=by rcases Nat.lt_or_ge j (ln*t.size) with h' | h';exact h';rw[List.getElem?_eq_none (by simpa using h')] at hj;simp at hj);obtain⟨v',gD⟩:=kC j gL;rw[List.getElem?_range gL] at hj;simp only[Option.map_some,jA] at hj;rw[gD] at hj;simp only[Option.getD_some] at hj;subst hj;(have e2:(⟨b,o,none⟩:Addr).add j=⟨b,o+j,none⟩:=by by_cases hj0:j=0;subst hj0;simp[Addr.add];simp[Addr.add,hj0]);rw[e2] at gD;exact⟨gD,hχ b (o+j) (yS7 gD).2⟩;cases h)|ptr t _=>exact⟨λT zG8 cs d ps _ I=>by simp[Ty.deep] at I,λfs o cs zG8 xs _ I=>by simp[Ty.deep] at I⟩
end
end Go.Am
namespace Go.Am
open Go Go.RowKit Go.ChangeShapes
variable {gtab:GlobTab}{P:Program}{w:World}
def enumSh:Nat->List Ty->List (Nat×Sh)
 |_,[]=>[]
 |i,τ::r=>(i,.val τ)::enumSh (i+1) r
def mkA:(i:Nat)->(τs:List Ty)->zC2 (enumSh i τs)->List AVal
 |_,[],_=>[]
 |i,τ::r,x=>.val τ x.1::mkA (i+1) r x.2
def wfL:(i:Nat)->(τs:List Ty)->zC2 (enumSh i τs)->Prop
 |_,[],_=>True
 |i,τ::r,x=>τ.wf x.1/\wfL (i+1) r x.2
def zX3 (P:Program):List Ty->List TypeId->Bool
 |[],[]=>true
 |τ::r,T::s=>zC0 P τ (.inl T)&&τ.deep&&zX3 P r s
 |_,_=>false
theorem beq_refl:∀τ:Ty,Ty.beq τ τ=true:=by intro τ;induction τ with|int k=>simp[Ty.beq]|cons a b j hb=>simp[Ty.beq,j,hb]|st f h=>simpa[Ty.beq] using h|arr n t h=>simpa[Ty.beq] using h|sl t h=>simpa[Ty.beq] using h|ptr t h=>simpa[Ty.beq] using h|_=>rfl
theorem xO9 {τ:Ty}{x:τ.den}:Ty.cast τ x=some x:=by unfold Ty.cast;split;rfl;rename_i h;rw[beq_refl] at h;cases h
theorem xP:∀{τs:List Ty}{i:Nat}{x:zC2 (enumSh i τs)}{S:St},(∀k,(mkA i τs x)[k]?=none\/(mkA i τs x)[k]?=some (S.get (i+k)))->(∀τ∈τs,τ.isL=false)->zD4 (enumSh i τs) S=some x:=by intro τs;induction τs with|nil=>intro i x S _ _;rfl|cons τ r C=>intro i x S h o;simp only[enumSh,zD4];have j:=h 0;simp only[mkA,List.getElem?_cons_zero,Nat.add_zero] at j;rcases j with j|j;cases j;injection j with j;rw[<-j];(have I:(Sh.val τ).parse (.val τ x.1)=some x.1:=by simp only[Sh.parse,o τ (jQ ..),jD,AVal.as,AVal.asT,xO9]);have J:=C (i:=i+1) (x:=x.2) (S:=S) (λk=>by have:=h (k+1);simp only[mkA,List.getElem?_cons_succ] at this;rw[show i+1+k=i+(k+1) by omega];exact this) λτ hτ=>o τ (jP _ hτ);rw[I,J];rfl
theorem xG0:∀{τs:List Ty}{i:Nat}{x:zC2 (enumSh i τs)},(mkA i τs x).length=τs.length/\(enumSh i τs).length=τs.length:=by intro τs;induction τs with|nil=>intro i x;exact⟨rfl,rfl⟩|cons τ r j=>intro i x;simp[mkA,enumSh,(j (i:=i+1) (x:=x.2)).1,(j (i:=i+1) (x:=x.2)).2]
theorem yX8:∀{τs:List Ty}{Ts:List TypeId},zX3 P τs Ts=true->∀τ∈τs,τ.isL=false:=by intro τs;induction τs with|nil=>intro Ts _ τ h;cases h|cons σ r j=>intro Ts h τ hτ;cases Ts with|nil=>simp[zX3] at h|cons T s=>simp only[zX3,jB] at h;rcases List.mem_cons.1 hτ with rfl|hτ;exact zC4 h.1.1;exact j h.2 τ hτ
section
variable {H:Type}{enc:TypeId×Value->H}
theorem xW9 {τ:Ty}{T:TypeId}{v:Value}(j:zC0 P τ (.inl T)=true)(o:τ.isAgg=false)(C:τ.deep=true){base:Nat}(h:Value.okWide P w .any base T v):∀cs,v≠.agg cs:=by intro cs e;subst e;obtain⟨_,hu⟩:=zF6 j;unfold Value.okWide at h;cases τ with|st f=>simp[Ty.isAgg] at o|arr n t=>simp[Ty.isAgg] at o|ptr t=>simp[Ty.deep] at C|nl=>simp[zC0] at j|cons a b=>simp[zC0] at j|int k=>(have hu:P.underlying T=some (.int k):=by simp only[zC0,jB] at j;cases hu:P.underlying T with|none=>simp[hu] at j|some d=>rw[hu] at j;cases d<;>simp at j;rw[zG9 j.1]);rw[hu] at h;simp[Cell.okWide,Cell.ok,hu] at h|bool=>(have hu:P.underlying T=some .bool:=by simp only[zC0,jB] at j;cases hu:P.underlying T with|none=>simp[hu] at j|some d=>rw[hu] at j;cases d<;>simp at j;rfl);rw[hu] at h;simp[Cell.okWide,Cell.ok,hu] at h|str=>have hu:=zK1 j;rw[hu] at h;simp[Cell.okWide,Cell.ok,hu] at h|sl t=>obtain⟨e,hu,_⟩:=zF7 j;rw[hu] at h;simp[Cell.okWide,Cell.ok,hu] at h
theorem xZ1 {τ:Ty}{T:TypeId}{v:Value}(j:zC0 P τ (.inl T)=true)(o:τ.isAgg=true){base:Nat}(h:Value.okWide P w .any base T v):∃cs,v=.agg cs:=by unfold Value.okWide at h;cases τ with|st f=>obtain⟨fs,hu,_⟩:=zQ5 j;rw[hu] at h;obtain⟨cs,h,_⟩:=h;exact⟨cs,h⟩|arr n t=>obtain⟨e,hu,_⟩:=zO j;rw[hu] at h;obtain⟨cs,h,_⟩:=h;exact⟨cs,h⟩|_=>simp[Ty.isAgg] at o
theorem xP0 {G:Gh}(hχ:∀b o,b<w.heap.size->G.χ b o=0):∀{τs:List Ty}{Ts:List TypeId}{vs:List Value}{ds:List (DataW H)}{ps:List MemPlace}{i base:Nat},zX3 P τs Ts=true->DataW.TrodAll enc P w 0 (λ_=>true) true Ts vs ds ps->(∀(j:Nat) t v,Ts[j]?=some t->vs[j]?=some v->Value.okWide P w .any base t v)->∃x:zC2 (enumSh i τs),vs.length=τs.length/\wfL i τs x/\∀(k:Nat) A v,(mkA i τs x)[k]?=some A->vs[k]?=some v->zA G w #[] (some (i+k)) A v:=by intro τs;induction τs with|nil=>intro Ts vs ds ps i base ht h _;(cases Ts with|cons T s=>simp[zX3] at ht|nil=>cases vs with|nil=>exact⟨(),rfl,trivial,λk A v h=>by simp[mkA] at h⟩|cons v vs=>cases ds<;>simp[DataW.TrodAll] at h)|cons τ r ih=>intro Ts vs ds ps i base ht h kj;cases Ts with|nil=>simp[zX3] at ht|cons T s=>cases vs with|nil=>simp[DataW.TrodAll] at h|cons v vs=>cases ds with|nil=>simp[DataW.TrodAll] at h|cons d ds=>simp only[zX3,jB] at ht;obtain⟨⟨J,h2⟩,h3⟩:=ht;simp only[DataW.TrodAll] at h;obtain⟨p,q,⟨fl,hd⟩,hr,_⟩:=h;obtain⟨x,hx,R⟩:=(xU0 hχ τ).1 T fl _ d p J h2 hd;obtain⟨y,hy1,hy2,hy3⟩:=ih (i:=i+1) h3 hr λj t v ht C=>kj (j+1) t v (by simpa using ht) (by simpa using C);refine⟨(x,y),by simp[hy1],⟨R,hy2⟩,λk A u I hu=>?_⟩;cases k with|zero=>simp only[mkA,List.getElem?_cons_zero,jA] at I hu;subst I;subst hu;simp only[zA];refine⟨_,hx,?_⟩;have C:=kj 0 T v rfl rfl;(cases ha:τ.isAgg with|true=>obtain⟨cs,rfl⟩:=xZ1 J ha C;simp[Value.cells]|false=>have:=xW9 J ha h2 C;cases v with|agg cs=>exact absurd rfl (this cs)|_=>rfl)|succ k=>simp only[mkA,List.getElem?_cons_succ] at I hu;have:=hy3 k A u I hu;rwa [show i+1+k=i+(k+1) by omega] at this
theorem law_calls {τs:List Ty}{Ts:List TypeId}{f:Nat}{ok:zC2 (enumSh 0 τs)->Prop}{F:zC2 (enumSh 0 τs)->Bool}{o:zC2 (enumSh 0 τs)->yN6 []}(hs:SpecOk P f (fnSpec (enumSh 0 τs) (.val .bool) [] ok F o))(km:zX3 P τs Ts=true)(hn:Nat.ble τs.length zA9=true)(R:∀x,wfL 0 τs x->ok x/\F x=true){args:Array Value}{ds:List (DataW H)}{ps:List MemPlace}{base:Nat}(hA:DataW.TrodAll enc P w 0 (λ_=>true) true Ts args.toList ds ps)(kj:∀(j:Nat) t v,Ts[j]?=some t->args.toList[j]?=some v->Value.okWide P w .any base t v)(J:GlobOk (λb _=>if b<w.heap.size then 0 else 2) w):Calls P f args w λe w'=>e=.returned (.bool true)/\Below w.heap.size w w':=by let G:Gh:=⟨λb _=>if b<w.heap.size then 0 else 2,λ_=>0,λ_=>0⟩;(have hχ:∀b o,b<w.heap.size->G.χ b o=0:=λb o hb=>by simp[G,hb]);obtain⟨x,h1,h2,h3⟩:=xP0 (G:=G) hχ (i:=0) km hA kj;obtain⟨iO,hFx⟩:=R x h2;have hlen:=xG0 (τs:=τs) (i:=0) (x:=x);have hn:τs.length<=zA9:=jR hn;have mc:zD4 (enumSh 0 τs) (yB6 0 (mkA 0 τs x))=some x:=xP (λk=>by by_cases hk:k<τs.length;right;have:=yH2 (s:=k) (args:=mkA 0 τs x) (i:=0) (by omega) (by omega) (by omega);simp only[Nat.sub_zero] at this;rw[Nat.zero_add];exact this.symm;left;exact List.getElem?_eq_none (by omega)) (yX8 km);(have hsp:fnSpec (enumSh 0 τs) (.val .bool) [] ok F o (mkA 0 τs x)=some ⟨[ok x],.val .bool (F x),[],[]⟩:=by unfold fnSpec;rw[hlen.1,hlen.2,Nat.beq_refl,jE,mc];rfl);have C:=hs.2 _ _ hsp (λq hq=>by simp only[jH] at hq;subst hq;exact iO) G w args.toList (by rw[h1,hlen.1]) J (λi A v hA hv=>by have:=h3 i A v hA hv;rwa [Nat.zero_add] at this);(have:args.toList.toArray=args:=by simp);rw[this] at C;refine C.mono ?_;rintro e w' ⟨v,G',rfl,I,kG,_⟩;simp only[zA] at kG;have hv:=(zC3 rfl).1 kG;simp only[zB,List.cons.injEq,and_true] at hv;rw[hv,hFx];refine⟨rfl,I.os,I.tape,I.output,I.size,λk hk=>I.block k hk λo=>?_⟩;rw[hχ k o hk];omega
end
theorem below_trods {H:Type}{enc:TypeId×Value->H}(I:laidOutB P=true):∀{Ts:List TypeId}{vs:List Value}{ds:List (DataW H)}{ps:List MemPlace}{W W':World}{sp:Nat->Bool},Ts.all (λt=>P.readableRec t&&Nat.blt t P.types.size)=true->DataW.TrodAll enc P W 0 (λ_=>true) true Ts vs ds ps->Below W.heap.size W W'->(∀x∈ps,x.block<W.heap.size)->(∀p∈ps,sp p.block=true)->DataW.TrodAll enc P W' 0 sp true Ts vs ds ps:=by intro Ts;induction Ts with|nil=>intro vs ds ps W W' sp _ h _ _ _;cases vs<;>cases ds<;>simp_all [DataW.TrodAll]|cons T s J=>intro vs ds ps W W' sp ht h hb o C;cases vs with|nil=>simp[DataW.TrodAll] at h|cons v vs=>cases ds with|nil=>simp[DataW.TrodAll] at h|cons d ds=>simp only[List.all_cons,jB] at ht;simp only[DataW.TrodAll] at h ⊢;obtain⟨p,q,R,h2,rfl⟩:=h;refine⟨p,q,WideElems.Trod_stays I ht.1.1 (Nat.blt_eq.mp ht.1.2) R (λx j=>hb.same (o x (List.mem_append_left _ j))) (λx j=>C x (List.mem_append_left _ j)),?_,rfl⟩;exact J ht.2 h2 hb (λx j=>o x (List.mem_append_right _ j)) (λx j=>C x (List.mem_append_right _ j))
theorem trod_len3 {H:Type}{enc:TypeId×Value->H}{T0 T1 T2:TypeId}{vs:List Value}{ds:List (DataW H)}{ps:List MemPlace}{sp:Nat->Bool}{C:Bool}(h:DataW.TrodAll enc P w 0 sp C [T0,T1,T2] vs ds ps):∃d0 d1 d2,ds=[d0,d1,d2]:=by obtain⟨v,vs1,d,ds1,a,b,rfl,rfl,rfl,o,j⟩:=trodAll_cons h;obtain⟨v,vs1,I,ds1,a,b,rfl,rfl,rfl,o,j⟩:=trodAll_cons j;obtain⟨v,vs1,d'',ds1,a,b,rfl,rfl,rfl,o,j⟩:=trodAll_cons j;obtain⟨rfl,rfl,rfl⟩:=trodAll_nil j;exact⟨d,I,d'',rfl⟩
theorem post_law {H:Type}{enc:TypeId×Value->H}{f:Func}{s:ChangeSpec}{W W':World}{args:Array Value}{v:Value}{ds gs:List (DataW H)}{before pa pv:List MemPlace}(C:DataW.Whole enc P f.params.toList s.vars false W args.toList ds gs before)(kG:∀(b:Nat)(sp:Nat->Bool)(I:Bool),DataW.TrodAll enc P W' b sp I f.resultTypes.toList (v.resultList f.resultTypes.size) (s.fn H (ds++gs)).results [])(ke:∀sp:Nat->Bool,(∀p∈before,sp p.block=true)->DataW.TrodAll enc P W' 0 sp true f.params.toList args.toList (s.fn H (ds++gs)).args pa)(j:∀sp:Nat->Bool,(∀p∈before,sp p.block=true)->DataW.TrodVars enc P W' sp s.vars (s.fn H (ds++gs)).vars pv)(qt:before=pa++pv)(J:W.keptBut W' (· ∈before)):s.post enc P f false true false false W args v W':=by (have hold:∀p∈before,(λb=>decide (b<W.heap.size)) p.block=true:=λp o=>by simpa using C.lt p o);refine⟨ds,gs,before,[],pa,pv,C,kG _ _ _,ke _ hold,j _ hold,World.keptBut_mono (λp o=>⟨o,?_⟩) J,λh=>by cases h⟩;rw[qt,List.mem_append] at o;exact Or.inr o
def zeroV (P:Program)(T:TypeId):Value:=((P.info? T).bind (·.zero)).getD undef
def wB8:DataW Unit->Value
 |.lit (.int k n)=>.int k n
 |_=>undef
def flat1:DataW Unit->List Value
 |.agg l=>l.map wB8
 |.lit (.int k n)=>[.int k n]
 |_=>[]
def flat2:DataW Unit->List Value
 |.agg l=>l.flatMap flat1
 |_=>[]
def putG (h:Array Obj)(g:Nat)(cs:List Value):Array Obj:=h.modify g fun
 |.cells _ t frozen=>.cells cs.toArray t frozen
 |o=>o
def rangeLen:DataW Unit->Nat
 |.ptr (.agg (.slice l _::_))=>l.length
 |_=>0
def rangeLatin:DataW Unit->Value
 |.ptr (.agg [_,_,d])=>wB8 d
 |_=>undef
def rangeCells:DataW Unit->List Value
 |.ptr (.agg (.slice l _::_))=>l.flatMap flat1
 |_=>[]
end Go.Am
namespace Go.Am
open Go
theorem xZ2 {X:Type}{g:X->Bool}{next:X->X}{x:X}(h:g x=false):∀F,loopN g next F x=x:=by intro F;cases F with|zero=>rfl|succ F=>simp[loopN,h]
theorem xA7 {X:Type}{g:X->Bool}{next:X->X}(inv:X->Prop)(m:X->Nat)(ko:∀x,inv x->g x=true->inv (next x)/\m (next x)<m x):∀{x:X},inv x->m x<zG8->inv (zB9 g next x)/\g (zB9 g next x)=false:=by (have key:∀(F:Nat) (x:X),inv x->m x<F->inv (loopN g next F x)/\g (loopN g next F x)=false:=by intro F;induction F with|zero=>intro x _ h;omega|succ F C=>intro x j hm;simp only[loopN];cases o:g x with|false=>simp only[jD];exact⟨j,o⟩|true=>simp only[jE];have:=ko x j o;exact C _ this.1 (by omega));intro x j hm;exact key zG8 x j hm
theorem xA8 {X:Type}{g:X->Bool}{next:X->X}{ok:X->Prop}(inv:X->Prop)(m:X->Nat)(kj:∀x,inv x->ok x)(ko:∀x,inv x->g x=true->inv (next x)/\m (next x)<m x):∀{x:X},inv x->m x<zG8->Am.Ends g next ok x:=by (have key:∀(F:Nat) (x:X),inv x->m x<F->∃k,k<F/\Runs g next ok k x:=by intro F;induction F with|zero=>intro x _ h;omega|succ F C=>intro x j hm;cases o:g x with|false=>exact⟨0,by omega,kj x j,o⟩|true=>have:=ko x j o;obtain⟨k,J,I⟩:=C _ this.1 (by omega);exact⟨k+1,by omega,kj x j,o,I⟩);intro x j hm;exact key zG8 x j hm
theorem wC1 {g:Int×Unit->Bool}{next:Int×Unit->Int×Unit}{n:Int}{c:Int->Bool}(gC:0<=n)(hn:n<9223372036854775808)(R:∀x,g x=(decide (x.1<n)&&!(c x.1)))(hx:∀x,next x=(x.1+1,())):∃j,0<=j/\j<=n/\zB9 g next (0,())=(j,())/\(∀k,0<=k->k<j->c k=false)/\(j<n->c j=true):=by have h:=xA7 (g:=g) (next:=next) (λx=>0<=x.1/\x.1<=n/\∀k,0<=k->k<x.1->c k=false) (λx=>(n-x.1).toNat) (λx hi ky=>by rw[R] at ky;simp only[jB,decide_eq_true_eq,jK] at ky;rw[hx];refine⟨⟨by omega,by omega,λk I C=>?_⟩,by simp only;omega⟩;by_cases e:k=x.1;rw[e];exact ky.2;exact hi.2.2 k I (by simp only at C;omega)) (x:=(0,())) ⟨by simp,gC,λk I C=>by simp only at C;omega⟩ (by simp only[zG8];omega);generalize hj:zB9 g next (0,())=e at h;obtain⟨⟨I,C,h3⟩,o⟩:=h;refine⟨e.1,I,C,rfl,h3,λJ=>?_⟩;rw[R] at o;simp only[Bool.and_eq_false_iff,decide_eq_false_iff_not,Bool.not_eq_false'] at o;rcases o with o|o;exact absurd J o;exact o
theorem xZ3 {g:Int×Unit->Bool}{next:Int×Unit->Int×Unit}{ok:Int×Unit->Prop}{n:Int}(gC:0<=n)(C:n<9223372036854775808)(j:∀x,g x=true->x.1<n)(o:∀x,next x=(x.1+1,()))(kj:∀x:Int×Unit,0<=x.1->x.1<=n->ok x):Am.Ends g next ok (0,()):=xA8 (λx=>0<=x.1/\x.1<=n) (λx=>(n-x.1).toNat) (λx h=>kj x h.1 h.2) (λx I ky=>by have:=j x ky;rw[o];refine⟨⟨by simp only;omega,by simp only;omega⟩,by simp only;omega⟩) ⟨by simp,gC⟩ (by simp only[zG8];omega)
def xZ4 (n:Int)(c:Int->Bool):Bool:=(List.range n.toNat).any λi=>c (i:Int)
theorem wA7 {g:Int×Unit->Bool}{next:Int×Unit->Int×Unit}{n:Int}{c:Int->Bool}(gC:0<=n)(I:n<9223372036854775808)(J:∀x,g x=(decide (x.1<n)&&!(c x.1)))(R:∀x,next x=(x.1+1,())):(decide ((zB9 g next (0,())).1<n)&&c (zB9 g next (0,())).1)=xZ4 n c:=by obtain⟨j,h1,h2,h3,h4,h5⟩:=wC1 gC I J R;rw[h3];rw[Bool.eq_iff_iff];simp only[jB,decide_eq_true_eq,xZ4,List.any_eq_true,List.mem_range];constructor;rintro⟨h,h'⟩;exact⟨j.toNat,by omega,by rw[Int.toNat_of_nonneg h1];exact h'⟩;rintro⟨i,hi,o⟩;by_cases C:j<n;exact⟨C,h5 C⟩;have:=h4 (i:Int) (by omega) (by omega);rw[this] at o;cases o
theorem xX7 {n m:Int}{c d:Int->Bool}(h:n=m)(C:∀i,0<=i->i<n->c i=d i):xZ4 n c=xZ4 m d:=by subst h;unfold xZ4;rw[Bool.eq_iff_iff];simp only[List.any_eq_true,List.mem_range];constructor;rintro⟨i,j,o⟩;exact⟨i,j,by rw[<-C i (by omega) (by omega)];exact o⟩;rintro⟨i,j,o⟩;exact⟨i,j,by rw[C i (by omega) (by omega)];exact o⟩
theorem xX8 {α:Type}(l:List α):0<=len l:=by simp[len]
def yX9 {A:Type}(step:A->Int->A):Nat->A->A
 |0,a=>a
 |k+1,a=>step (yX9 step k a) (k:Int)
theorem xZ5 {A:Type}{g:A×Int×Unit->Bool}{next:A×Int×Unit->A×Int×Unit}{n:Int}{step:A->Int->A}(gC:0<=n)(hn:n<9223372036854775808)(o:∀x,g x=decide (x.2.1<n))(J:∀x,next x=(step x.1 x.2.1,x.2.1+1,()))(a:A):zB9 g next (a,0,())=(yX9 step n.toNat a,n,()):=by have h:=xA7 (g:=g) (next:=next) (λx=>0<=x.2.1/\x.2.1<=n/\x.1=yX9 step x.2.1.toNat a) (λx=>(n-x.2.1).toNat) (λx C ky=>by rw[o] at ky;have ky:=jF ky;rw[J];refine⟨⟨by simp only;omega,by simp only;omega,?_⟩,by simp only;omega⟩;simp only;(have e:(x.2.1+1).toNat=x.2.1.toNat+1:=by omega);rw[e,yX9,<-C.2.2,Int.toNat_of_nonneg C.1]) (x:=(a,0,())) ⟨by simp,gC,rfl⟩ (by simp only[zG8];omega);generalize zB9 g next (a,0,())=e at h;obtain⟨⟨R,h2,I⟩,j⟩:=h;rw[o] at j;have j:=of_decide_eq_false j;obtain⟨e1,e2,e3⟩:=e;simp only at R h2 I j;(have:e2=n:=by omega);subst this;rw[I]
theorem xZ6 {A:Type}{g:A×Int×Unit->Bool}{next:A×Int×Unit->A×Int×Unit}{ok:A×Int×Unit->Prop}{n:Int}{step:A->Int->A}(gC:0<=n)(I:n<9223372036854775808)(o:∀x,g x=decide (x.2.1<n))(C:∀x,next x=(step x.1 x.2.1,x.2.1+1,()))(a:A)(kj:∀i:Int,0<=i->i<=n->ok (yX9 step i.toNat a,i,())):Am.Ends g next ok (a,0,()):=xA8 (λx=>0<=x.2.1/\x.2.1<=n/\x.1=yX9 step x.2.1.toNat a) (λx=>(n-x.2.1).toNat) (λx h=>by have:=kj x.2.1 h.1 h.2.1;rw[<-h.2.2] at this;exact this) (λx j ky=>by rw[o] at ky;have ky:=jF ky;rw[C];refine⟨⟨by simp only;omega,by simp only;omega,?_⟩,by simp only;omega⟩;simp only;(have e:(x.2.1+1).toNat=x.2.1.toNat+1:=by omega);rw[e,yX9,<-j.2.2,Int.toNat_of_nonneg j.1]) ⟨by simp,gC,rfl⟩ (by simp only[zG8];omega)
end Go.Am
namespace Go.Am
open Go Go.RowKit
variable {gtab:GlobTab}{P:Program}
end Go.Am
namespace Go.Am
open Go Go.RowKit
variable {gtab:GlobTab}{P:Program}{w:World}{χ:Nat->Nat->Nat}
section
variable {H:Type}{enc:TypeId×Value->H}{sp:Nat->Bool}{held:Bool}
end
end Go.Am
namespace Go.Am
open Go Go.RowKit
variable {gtab:GlobTab}{P:Program}
theorem yY {χ:Nat->Nat->Nat}{w:World}:Frame0 χ w χ w:=⟨rfl,rfl,rfl,jI _,λ_ _ _=>rfl,λ_ _ _ _=>⟨rfl,rfl⟩⟩
theorem xG1 {f:Nat}{τ:Ty}{rs:Sh}{ok:τ.den->Prop}{F:τ.den->rs.den}{o:zC2 [(0,Sh.val τ)]->yN6 []}(hfn:∃fn,P.funcs[f]?=some fn/\fn.body.isSome=true/\fn.name≠"runtime.NumGoroutine") (H:∀x,ok x->∀(G:Gh) (w:World) (v:Value),GlobOk G.χ w->zQ G.χ w τ x v->Calls P f #[v] w λe w'=>∃u G',e=.returned u/\Frame0 G.χ w G'.χ w'/\zA G' w' #[] none (rs.mk (F x)) u):SpecOk P f (fnSpec [(0,.val τ)] rs [] (λx=>ok x.1) (λx=>F x.1) o):=by refine⟨hfn,λargs co hsp kj G w vals hlen hglob kJ=>?_⟩;unfold fnSpec at hsp;generalize ig:Nat.beq args.length _=b at hsp;cases b with|false=>cases hsp|true=>simp only[jE] at hsp;split at hsp;rename_i x hx;injection hsp with hsp;subst hsp;have hl:args.length=1:=jC ig;(obtain⟨A,rfl⟩:∃A,args=[A]:=by match args,hl with |[A],_=>exact⟨A,rfl⟩);(obtain⟨v,rfl⟩:∃v,vals=[v]:=by match vals,hlen with |[v],_=>exact⟨v,rfl⟩);obtain⟨l,_⟩:=x;(have hp:(Sh.val τ).parse A=some l:=by simp only[zD4,yB6,St.get] at hx;split at hx;rename_i y z hy _;simp only[jA,jG] at hx;rw[<-hx.1];simpa using hy;cases hx);have hA:=zF3 hp (kJ 0 A v rfl rfl);simp only[Sh.mk,zA] at hA;refine (H l (kj _ (jH.2 rfl)) G w v hglob hA).mono ?_;rintro e w' ⟨u,G',rfl,q1,q2⟩;exact⟨u,G',rfl,q1,q2,λi k A' u h=>by cases h⟩;cases hsp
theorem xG2 {f:Nat}{τ σ:Ty}{rs:Sh}{ok:τ.den->σ.den->Prop}{F:τ.den->σ.den->rs.den}{o:zC2 [(0,Sh.val τ),(1,Sh.val σ)]->yN6 []}(hfn:∃fn,P.funcs[f]?=some fn/\fn.body.isSome=true/\fn.name≠"runtime.NumGoroutine") (H:∀x y,ok x y->∀(G:Gh) (w:World) (v u:Value),GlobOk G.χ w->zQ G.χ w τ x v->zQ G.χ w σ y u->Calls P f #[v,u] w λe w'=>∃r G',e=.returned r/\Frame0 G.χ w G'.χ w'/\zA G' w' #[] none (rs.mk (F x y)) r):SpecOk P f (fnSpec [(0,.val τ),(1,.val σ)] rs [] (λx=>ok x.1 x.2.1) (λx=>F x.1 x.2.1) o):=by refine⟨hfn,λargs co hsp kj G w vals hlen hglob kJ=>?_⟩;unfold fnSpec at hsp;generalize ig:Nat.beq args.length _=b at hsp;cases b with|false=>cases hsp|true=>simp only[jE] at hsp;split at hsp;rename_i x hx;injection hsp with hsp;subst hsp;have hl:args.length=2:=jC ig;(obtain⟨A,B,rfl⟩:∃A B,args=[A,B]:=by match args,hl with |[A,B],_=>exact⟨A,B,rfl⟩);(obtain⟨v,u,rfl⟩:∃v u,vals=[v,u]:=by match vals,hlen with |[v,u],_=>exact⟨v,u,rfl⟩);obtain⟨l,m,_⟩:=x;(have hp:(Sh.val τ).parse A=some l/\(Sh.val σ).parse B=some m:=by simp only[zD4,yB6,St.get] at hx;split at hx;rename_i y z hy hz;simp only[jA,jG] at hx;split at hz;rename_i y' z' hy' _;simp only[jA] at hz;rw[<-hz] at hx;simp only[jG] at hx;rw[<-hx.1,<-hx.2.1];exact⟨by simpa using hy,by simpa[Nat.beq,zA9] using hy'⟩;cases hz;cases hx);have hA:=zF3 hp.1 (kJ 0 A v rfl rfl);have hB:=zF3 hp.2 (kJ 1 B u rfl rfl);simp only[Sh.mk,zA] at hA hB;refine (H l m (kj _ (jH.2 rfl)) G w v u hglob hA hB).mono ?_;rintro e w' ⟨r,G',rfl,q1,q2⟩;exact⟨r,G',rfl,q1,q2,λi k A' u h=>by cases h⟩;cases hsp
theorem xZ7 {f:Nat}{F:List UInt8->List UInt8->Int}{o:zC2 [(0,Sh.val .str),(1,Sh.val .str)]->yN6 []}(hfn:∃fn,P.funcs[f]?=some fn/\fn.body.isSome=true/\fn.name≠"runtime.NumGoroutine") (H:∀(s:ByteArray) (c:UInt8) (w:World),Calls P f #[.string s,.string ⟨#[c]⟩] w λe w'=>e=.returned (.int .i64 (F s.data.toList [c]))/\w'=w):SpecOk P f (fnSpec [(0,.val .str),(1,.val .str)] (.val (.int .i64)) [] (λx=>List.length x.2.1=1) (λx=>F x.1 x.2.1) o):=by refine xG2 (τ:=.str) (σ:=.str) (rs:=.val (.int .i64)) (ok:=λ_ y=>List.length y=1) (F:=F) hfn λx y hy G w v u _ hv hu=>?_;rw[zC3 rfl] at hv hu;simp only[zB] at hv hu;injection hv with hv _;injection hu with hu _;match y,hy with |[c],_=>subst hv hu;refine (H ⟨List.toArray x⟩ c w).mono ?_;rintro e w' ⟨rfl,rfl⟩;refine⟨_,G,rfl,yY,?_⟩;simp only[Sh.mk,zA];rw[zC3 rfl];simp[zB]
theorem xP1 {χ:Nat->Nat->Nat}{w:World}:∀{l:List (List UInt8)},zJ9 (zB χ w .str) l (l.map λx=>Value.string ⟨x.toArray⟩):=by intro l;induction l with|nil=>simp[zJ9]|cons x l j=>exact⟨[.string ⟨x.toArray⟩],_,rfl,by simp only[zB],j⟩
theorem xP2 {χ:Nat->Nat->Nat}{w:World}{k:IntKind}:∀{l:List Int}{vs:List Value},zJ9 (zB χ w (.int k)) l vs->vs=l.map (Value.int k):=by intro l;induction l with|nil=>intro vs h;simpa[zJ9] using h|cons x l o=>rintro vs ⟨us,ws,rfl,j,C⟩;simp only[zB] at j;rw[j,o C];rfl
theorem wA8 {χ:Nat->Nat->Nat}{w:World}(h:GlobOk χ w){g n:Nat}{k:IntKind}{l:List Int}(hm:(g,(⟨.arr n (.int k),l⟩:(τ:Ty)×τ.den))∈GlobTab.tab)(c:Nat)(I:c<n):w.cell? ⟨g,c,none⟩=some (.int k (l.getD c 0)):=by obtain⟨vs,j,o⟩:=h g (.arr n (.int k)) l hm;unfold zB at j;obtain⟨j,C⟩:=j;have e:=xP2 C;subst e;have hlen:List.length (α:=Int) l=n:=j;have:=(o c (.int k (l.getD c 0)) (by rw[List.getElem?_map,jL (by omega),jM,jL (by omega)];rfl)).1;simpa using this
theorem xZ8 {f:Nat}{F:List UInt8->List (List UInt8)}{e:TypeId}{ok:List UInt8->Prop}{o:zC2 [(0,Sh.val .str)]->yN6 []}(hfn:∃fn,P.funcs[f]?=some fn/\fn.body.isSome=true/\fn.name≠"runtime.NumGoroutine") (H:∀(s:ByteArray) (w:World) (χ:Nat->Nat->Nat),ok s.data.toList->GlobOk χ w->Calls P f #[.string s] w λe' w'=>e'=.returned (.slice (some ⟨w.heap.size,0,none⟩) (F s.data.toList).length (F s.data.toList).length)/\w'=w.alloc (.cells ((F s.data.toList).map λl=>Value.string ⟨l.toArray⟩).toArray e)):SpecOk P f (fnSpec [(0,.val .str)] (.val (.sl .str)) [] (λx=>ok x.1) (λx=>F x.1) o):=by refine xG1 (τ:=.str) (rs:=.val (.sl .str)) (ok:=ok) (F:=F) hfn λx hx G w v hglob hv=>?_;rw[zC3 rfl] at hv;simp only[zB] at hv;injection hv with hv _;subst hv;refine (H ⟨List.toArray x⟩ w G.χ (by simpa using hx) hglob).mono ?_;rintro e' w' ⟨rfl,rfl⟩;let G':Gh:={ G with χ:=λb o=>if b=w.heap.size then 0 else G.χ b o };refine⟨_,G',rfl,⟨rfl,rfl,rfl,by simp,λb hb _=>Below.heap_alloc _ _ _ hb,λb o hb _=>⟨if_neg (by omega),World.cell?_alloc_old _ _ _ (by simp only;omega)⟩⟩,?_⟩;simp only[Sh.mk,zA];rw[zC3 rfl];unfold zB;refine⟨_,_,rfl,.inr ⟨w.heap.size,0,_,rfl,jI _,xP1,λj v hv=>⟨?_,if_pos rfl⟩⟩⟩;simp only[World.cell?,World.alloc_heap_new,Nat.zero_add];simpa using hv
end Go.Am
namespace Go.Am
open Go Go.RowKit
variable {gtab:GlobTab}{P:Program}{c:Ctx}
def xP3:Code->Option Code
 |.seq a b=>match xP3 a with|some x=>some x|none=>xP3 b
 |.block _ a=>xP3 a
 |.rangeFunc _ _ _ b=>some b
 |_=>none
def xU8 [GlobTab] (c:Ctx)(code:Code)(S:St):Bool:=match eval c code S with
 |some o=>o.comps.all λx=>Nat.beq x.kind 0
 |none=>false
def xX [GlobTab] (P:Program)(c:Ctx)(code:Code)(ps os:List (Nat×Sh))(ok:zC2 ps->Prop)(o:zC2 ps->yN6 os):Prop:=
 ∀x,ok x->∀(rd:Option Nat) (χ0:Nat->Nat->Nat) (w0:World) (a:Act) (w:World) (G:Gh),Rel c.n χ0 w0 (zC1 ps x) a w G ->
  code.wpIn (fz rd) 0 P (λe a' w'=>e=.normal/\(∀i∈c.keep,a'.tmps.getD i undef=a.tmps.getD i undef) /\
   ∃G' d,Rel c.n χ0 w0 (d++zC1 ps x) a' w' G'/\yA4 os (d++zC1 ps x)=some (o x)) a w
theorem xZ9 (hc:CtxOk P c)(hm:P.follows .mixedOrders=true){code:Code}{bs:List Code}(qx:zG1 code=bs)(hL:zU P c bs)(hw:zE7 c.keep code=true){ps os:List (Nat×Sh)}{ok:zC2 ps->Prop}{rs:Sh}{F:zC2 ps->rs.den}{o:zC2 ps->yN6 os}(kH:∀x,xU8 c code (zC1 ps x)=true)(kI:∀x,xF8 c code [] ps rs os x=some (ok x,F x,o x)):xX P c code ps os ok o:=by intro x hx rd χ0 w0 a w G hR;have h:=kI x;have kH:=kH x;unfold xF8 at h;unfold xU8 at kH;split at h;cases h;rename_i out I;rw[I] at kH;simp only at kH;split at h;cases h;rename_i d hd;split at h;rename_i r z hr hz;split at h;rename_i v hv;simp only[jA,jG] at h;obtain⟨e1,_,rfl⟩:=h;refine wpIn_mono (zY8 hc hm (yH3 qx hL) hw I (AllP_iff.1 (by rw[e1];exact hx)) rd χ0 w0 (λi=>a.tmps.getD i undef) a w G hR (λi _=>rfl)) ?_;rintro e a' w' ⟨J,hk⟩;obtain⟨_,G',j⟩:=xA4 hd J;refine⟨?_,hk,G',d,j,hz⟩;obtain⟨k,cp,G2,C,R,_⟩:=J;have:=List.all_eq_true.1 kH cp (yS5 R);rw[zN7 R] at this;have:=jC this;subst this;(cases e with|normal=>rfl|ret=>simp[zC] at C|exit id=>simp[zC] at C|_=>simp[zC] at C);cases h;cases h
end Go.Am
namespace Go.Am
open Go Go.RowKit
variable {gtab:GlobTab}{P:Program}{c:Ctx}
def xU9 {α β:Type}(ok:β->α->Prop)(next:β->α->β):List α->β->Prop
 |[],_=>True
 |x::r,l=>ok l x/\xU9 ok next r (next l x)
theorem wA {α β:Type}{ok:β->α->Prop}{next:β->α->β}:∀{pre:List α}{x:α}{rest:List α}{l:β},xU9 ok next (pre++x::rest) l->ok (pre.foldl next l) x:=by intro pre;induction pre with|nil=>intro x rest l h;exact h.1|cons y pre j=>intro x rest l h;exact j h.2
theorem xP4:∀(A:AVal) (s:Option Nat),¬A.names (· =1) (λ_=>False) s:=by intro A;induction A with|own t l T m=>intro s;simp only[AVal.names,zB2];omega|ownh t l T i U m=>intro s;simp only[AVal.names,zB2];omega|opt _ _ _ A j=>intro s;simp only[AVal.names];exact j none|box τ b j=>intro s;(cases s with|none=>simp only[AVal.names];exact j none|some s=>simp only[AVal.names,not_or];exact⟨by simp only[zG3];omega,j none⟩)|cons x y kz ku=>intro s;simp only[AVal.names,not_or];exact⟨kz none,ku none⟩|agg f b j=>intro s;simp only[AVal.names];exact j none|tup b j=>intro s;simp only[AVal.names];exact j none|fn f b j=>intro s;simp only[AVal.names];exact j none|raw=>intro s;(cases s with|none=>simp[AVal.names]|some s=>simp only[AVal.names,zG3];omega)|_=>intro s;simp[AVal.names]
theorem yY0 {G:Gh}{W W':World}{b:Nat}(hχ:∀o,G.χ b o=1)(h:∀k,k≠b->W'.heap[k]?=W.heap[k]?)(I:W.heap.size<=W'.heap.size):Ext (· =1) (λ_=>False) G W G W':=by refine⟨λj o _ C=>⟨C,?_⟩,λj _ J=>⟨h j ?_,λ_=>rfl⟩,I,λ_ _=>rfl,λ_ _=>rfl,λ_ h=>h.elim⟩;(have kh:j≠b:=by intro e;subst e;rw[hχ o] at C;cases C);simp only[World.cell?,h j kh];intro e;subst e;exact J 0 (hχ 0)
theorem Frame0.trans {χ0 χ1 χ2:Nat->Nat->Nat}{w0 I J:World}(h:Frame0 χ0 w0 χ1 I)(k:Frame0 χ1 I χ2 J):Frame0 χ0 w0 χ2 J:=by refine⟨k.os.trans h.os,k.tape.trans h.tape,k.output.trans h.output,Nat.le_trans h.size k.size,λb hb j=>?_,λb o hb j=>?_⟩;rw[k.block b (Nat.lt_of_lt_of_le hb h.size) (λo=>by rw[(h.cell b o hb (j o)).1];exact j o)];exact h.block b hb j;have C:=h.cell b o hb j;have R:=k.cell b o (Nat.lt_of_lt_of_le hb h.size) (by rw[C.1];exact j);exact⟨R.1.trans C.1,R.2.trans C.2⟩
theorem Frame0.beyond {χ0 χ:Nat->Nat->Nat}{w0 W W':World}{b:Nat}(h:Frame0 χ0 w0 χ W)(hb:w0.heap.size<=b)(I:∀k,k≠b->W'.heap[k]?=W.heap[k]?)(R:W'.heap.size=W.heap.size)(kL:W'.os=W.os/\W'.tape=W.tape/\W'.output=W.output):Frame0 χ0 w0 χ W':=by refine⟨kL.1.trans h.os,kL.2.1.trans h.tape,kL.2.2.trans h.output,by rw[R];exact h.size,λk j C=>?_,λk o j C=>?_⟩;rw[I k (by omega)];exact h.block k j C;have J:=h.cell k o j C;refine⟨J.1,?_⟩;rw[<-J.2];simp only[World.cell?,I k (show k≠b by omega)]
structure JB [GlobTab] (χ0:Nat->Nat->Nat) (w0:World) (lo hi:Nat) (E:List (Nat×Nat×AVal)) (G:Gh) (W:World):Prop where
 frame:Frame0 χ0 w0 G.χ W
 glob:GlobOk G.χ W
 reps:∀e∈E,zA G W #[] (some e.1) e.2.2 (.pointer (some ⟨e.2.1,0,none⟩))
 own:∀b,lo<=b->b<=hi->∀o,G.χ b o=1
 size:hi<W.heap.size
 low:w0.heap.size<=lo
theorem JB.foreign {χ0:Nat->Nat->Nat}{w0:World}{lo o:Nat}{E:List (Nat×Nat×AVal)}{G:Gh}{W W':World}{b:Nat}(h:JB χ0 w0 lo o E G W)(I:lo<=b)(hh:b<=o)(J:∀k,k≠b->W'.heap[k]?=W.heap[k]?)(C:W'.heap.size=W.heap.size)(kL:W'.os=W.os/\W'.tape=W.tape/\W'.output=W.output):JB χ0 w0 lo o E G W':=by have R:=yY0 (h.own b I hh) J (Nat.le_of_eq C.symm);have j:=h.low;refine⟨h.frame.beyond (Nat.le_trans j I) J C kL,zG7 R.prot h.glob,λe he=>yC0 R (by decide) _ (xP4 _ _) (h.reps e he),h.own,by rw[C];exact h.size,j⟩
theorem JB.setCell {χ0:Nat->Nat->Nat}{w0:World}{lo j:Nat}{E:List (Nat×Nat×AVal)}{G:Gh}{W:World}{b:Nat}(h:JB χ0 w0 lo j E G W)(o:lo<=b)(C:b<=j)(v:Value):JB χ0 w0 lo j E G (W.setCell ⟨b,0,none⟩ v):=h.foreign o C (λk I=>Below.heap_setCell W ⟨b,0,none⟩ v k I) (by simp[World.setCell]) ⟨rfl,rfl,rfl⟩
theorem JB.putObj {χ0:Nat->Nat->Nat}{w0:World}{lo j:Nat}{E:List (Nat×Nat×AVal)}{G:Gh}{W:World}{b:Nat}(h:JB χ0 w0 lo j E G W)(C:lo<=b)(I:b<=j)(o:Obj):JB χ0 w0 lo j E G (W.putObj b o):=h.foreign C I (λk J=>World.putObj_heap_other J) (by simp[World.putObj]) ⟨rfl,rfl,rfl⟩
theorem JB.step {χ0:Nat->Nat->Nat}{w0:World}{lo J:Nat}{E E':List (Nat×Nat×AVal)}{G G':Gh}{W W':World}(h:JB χ0 w0 lo J E G W)(j:Frame0 G.χ W G'.χ W')(R:GlobOk G'.χ W')(hr:∀e∈E',zA G' W' #[] (some e.1) e.2.2 (.pointer (some ⟨e.2.1,0,none⟩))):JB χ0 w0 lo J E' G' W'/\∀b,lo<=b->b<=J->W'.heap[b]?=W.heap[b]?:=by have kB:=h.size;refine⟨⟨h.frame.trans j,R,hr,λb C I o=>?_,Nat.lt_of_lt_of_le kB j.size,h.low⟩,λb C I=>j.block b (by omega) (λo=>by rw[h.own b C I o];exact jI _)⟩;rw[(j.cell b o (by omega) (by rw[h.own b C I o];exact jI _)).1];exact h.own b C I o
theorem xX9 {f:Nat}{τ σ υ ω:Ty}{rs:Sh}{ok:τ.den->σ.den->υ.den->ω.den->Prop}{F:τ.den->σ.den->υ.den->ω.den->rs.den}{o:zC2 [(0,Sh.val τ),(1,Sh.val σ),(2,Sh.val υ),(3,Sh.val ω)]->yN6 []}(hfn:∃fn,P.funcs[f]?=some fn/\fn.body.isSome=true/\fn.name≠"runtime.NumGoroutine") (H:∀x y z u,ok x y z u->∀(G:Gh) (w:World) (v1 v2 v3 v4:Value),GlobOk G.χ w->zQ G.χ w τ x v1->zQ G.χ w σ y v2->zQ G.χ w υ z v3->zQ G.χ w ω u v4->Calls P f #[v1,v2,v3,v4] w λe w'=>∃r G',e=.returned r/\Frame0 G.χ w G'.χ w'/\zA G' w' #[] none (rs.mk (F x y z u)) r):SpecOk P f (fnSpec [(0,.val τ),(1,.val σ),(2,.val υ),(3,.val ω)] rs [] (λx=>ok x.1 x.2.1 x.2.2.1 x.2.2.2.1) (λx=>F x.1 x.2.1 x.2.2.1 x.2.2.2.1) o):=by refine⟨hfn,λargs co hsp kj G w vals hlen hglob kJ=>?_⟩;unfold fnSpec at hsp;generalize ig:Nat.beq args.length _=b at hsp;cases b with|false=>cases hsp|true=>simp only[jE] at hsp;split at hsp;rename_i x hx;injection hsp with hsp;subst hsp;have hl:args.length=4:=jC ig;(obtain⟨A,B,C,D,rfl⟩:∃A B C D,args=[A,B,C,D]:=by match args,hl with |[A,B,C,D],_=>exact⟨A,B,C,D,rfl⟩);(obtain⟨v1,v2,v3,v4,rfl⟩:∃v1 v2 v3 v4,vals=[v1,v2,v3,v4]:=by match vals,hlen with |[v1,v2,v3,v4],_=>exact⟨v1,v2,v3,v4,rfl⟩);have hp:∀(k:Nat) (i:Nat) (s:Sh),[(0,Sh.val τ),(1,Sh.val σ),(2,Sh.val υ),(3,Sh.val ω)][k]?=some (i,s)->∃y,s.parse (St.get (yB6 0 [A,B,C,D]) i)=some y:=λk i s h=>yK2 hx h;obtain⟨x1,x2,x3,x4,_⟩:=x;simp only[zD4] at hx;(have hg:∀i,St.get (yB6 0 [A,B,C,D]) i=[A,B,C,D].getD i .junk:=by intro i;simp only[yB6,St.get];match i with |0=>simp|1=>simp[zA9,Nat.beq]|2=>simp[zA9,Nat.beq]|3=>simp[zA9,Nat.beq]|k+4=>simp[zA9,Nat.beq]);simp only[hg,List.getD_cons_zero,List.getD_cons_succ] at hx;generalize h1:(Sh.val τ).parse A=o1 at hx;generalize h2:(Sh.val σ).parse B=o2 at hx;generalize h3:(Sh.val υ).parse C=o3 at hx;generalize h4:(Sh.val ω).parse D=o4 at hx;cases o1<;>cases o2<;>cases o3<;>cases o4<;>simp at hx;obtain⟨rfl,rfl,rfl,rfl⟩:=hx;have hA:=zF3 h1 (kJ 0 A v1 rfl rfl);have hB:=zF3 h2 (kJ 1 B v2 rfl rfl);have hC:=zF3 h3 (kJ 2 C v3 rfl rfl);have hD:=zF3 h4 (kJ 3 D v4 rfl rfl);simp only[Sh.mk,zA] at hA hB hC hD;refine (H _ _ _ _ (kj _ (jH.2 rfl)) G w v1 v2 v3 v4 hglob hA hB hC hD).mono ?_;rintro e w' ⟨r,G',rfl,q1,q2⟩;exact⟨r,G',rfl,q1,q2,λi k A' u h=>by cases h⟩;cases hsp
end Go.Am
namespace Go.Am
open Go Go.RowKit
variable {gtab:GlobTab}{P:Program}
end Go.Am
