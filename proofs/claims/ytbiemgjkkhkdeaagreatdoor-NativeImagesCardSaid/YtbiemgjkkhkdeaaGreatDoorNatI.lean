/- Runs are read alike: the program's takeRuns is the reference's TakeImage and TakeMask. Condition: readers that were made. -/
import Derived.Test.YtbiemgjkkhkdeaaGreatDoorNatG
set_option linter.unusedVariables false
namespace Go.Proofs.YtbiemgjkkhkdeaaGreatDoor.Am
open Go Go.Am Go.Proofs
theorem f44o (p:D60):wX0 p=(p,()):=rfl
theorem f38o (r:D71):vA9 r=(r,()):=rfl
theorem uC6 {α:Type}(v:α)(n:Nat){g:List α×Int×Unit→Bool}{next:List α×Int×Unit→List α×Int×Unit}{ok:List α×Int×Unit→Prop}(hn:n≤100000)
  (hg:∀ l i,g (l,i,())=decide (i<(n:Int))) (hx:∀ l i,next (l,i,())=(l++[v],i+1,())) (hok:∀ (l:List α) (i:Int),l.length≤1000000→0≤i→i≤1000000→ok (l,i,())) :
  ∀ (m i:Nat) (l:List α),i+m=n→l.length+m≤1000000→LT g next ok m (l,(i:Int),()) (l++List.replicate m v,(n:Int),()):=by
 intro m
 induction m with
 |zero =>
  intro i l hi hl;rw[List.replicate_zero,List.append_nil,show (i:Int)=(n:Int) by omega];exact .stop (hok _ _ (by omega) (by omega) (by omega)) (by rw[hg];exact decide_eq_false (by omega))
 |succ m ih =>
  intro i l hi hl;refine .step (hok _ _ (by omega) (by omega) (by omega)) (by rw[hg];exact decide_eq_true (by omega)) ?_;have:=ih (i+1) (l++[v]) (by omega) (by simp;omega);rw[hx,show (i:Int)+1=((i+1:Nat):Int) by omega];rw[List.append_assoc,List.singleton_append,← List.replicate_succ] at this;exact this
theorem vX {α:Type}(w h:Int)(v:α)(n:Nat){g:(Int×Int×List α×Unit)×Int×Unit→Bool}{next:(Int×Int×List α×Unit)×Int×Unit→(Int×Int×List α×Unit)×Int×Unit}{ok:(Int×Int×List α×Unit)×Int×Unit→Prop}(hn:n≤100000)
  (hg:∀ l i,g ((w,h,l,()),i,())=decide (i<(n:Int))) (hx:∀ l i,next ((w,h,l,()),i,())=((w,h,l++[v],()),i+1,())) (hok:∀ (l:List α) (i:Int),l.length≤1000000→0≤i→i≤1000000→ok ((w,h,l,()),i,())) :
  ∀ (m i:Nat) (l:List α),i+m=n→l.length+m≤1000000→LT g next ok m ((w,h,l,()),(i:Int),()) ((w,h,l++List.replicate m v,()),(n:Int),()):=by
 intro m
 induction m with
 |zero =>
  intro i l hi hl;rw[List.replicate_zero,List.append_nil,show (i:Int)=(n:Int) by omega];exact .stop (hok _ _ (by omega) (by omega) (by omega)) (by rw[hg];exact decide_eq_false (by omega))
 |succ m ih =>
  intro i l hi hl;refine .step (hok _ _ (by omega) (by omega) (by omega)) (by rw[hg];exact decide_eq_true (by omega)) ?_;have:=ih (i+1) (l++[v]) (by omega) (by simp;omega);rw[hx,show (i:Int)+1=((i+1:Nat):Int) by omega];rw[List.append_assoc,List.singleton_append,← List.replicate_succ] at this;exact this
def vP6 (p:D60):D45:=uE4 () p
def uT2 (p:D60):D60:=(vS6 () p).2.1
def vE0 (r:D71):D71:=(wS9 r 65535).1
def vV5 (r:D71):D45:=(wW6 r 65535,wW6 (vE0 r) 65535,wW6 (vE0 (vE0 r)) 65535,wW6 (vE0 (vE0 (vE0 r))) 65535,())
def uL (r:D71):D71:=vE0 (vE0 (vE0 (vE0 r)))
def uW4 (r:D71):Prop:=wU0 r 65535∧wU0 (vE0 r) 65535∧wU0 (vE0 (vE0 r)) 65535∧wU0 (vE0 (vE0 (vE0 r))) 65535
theorem c65 {p:D60}{r:D71}(h:RR p r):wU1 p 65535∧wU0 r 65535∧wW6 r 65535=wS8 p 65535∧RR (wS7 p 65535).1 (vE0 r):=by
 obtain⟨a1,a2,a3,a4,_⟩:=vG4 h 65535 (by decide);exact⟨a1,a2,a3,a4⟩
theorem uP2 {p:D60}{r:D71}(h:RR p r):vJ9 () p∧uW4 r∧vV5 r=vP6 p∧RR (uT2 p) (uL r):=by
 obtain⟨a1,a2,a3,a4⟩:=c65 h;obtain⟨b1,b2,b3,b4⟩:=c65 a4;obtain⟨c1,c2,c3,c4⟩:=c65 b4;obtain⟨d1,d2,d3,d4⟩:=c65 c4;refine⟨⟨⟨by decide,by decide⟩,a1,⟨by decide,by decide⟩,b1,⟨by decide,by decide⟩,c1,⟨by decide,by decide⟩,d1⟩,⟨a2,b2,c2,d2⟩,?_,d4⟩;show (_,_,_,_,())=(_,_,_,_,());rw[a3,b3,c3,d3]
def vP7 (l:List D45)(p:D60):D60:=bif (bif decide (len l>0) then Ty.eqb T45 (nth l (len l-1) Z45) (vP6 p) else false) then (wV1 (uT2 p) 4).1 else uT2 p
def vN0 (l:List D45)(r:D71):D71:=bif (bif decide (len l>0) then Ty.eqb T45 (nth l (len l-1) Z45) (vV5 r) else false) then (wZ1 (uL r) 4).1 else uL r
theorem uT3 {p:D60}{r:D71}(h:RR p r)(l:List D45):RR (vP7 l p) (vN0 l r):=by
 obtain⟨h1,h2,h3,h4⟩:=uP2 h;unfold vP7 vN0;rw[h3];cases (bif decide (len l>0) then Ty.eqb T45 (nth l (len l-1) Z45) (vP6 p) else false) with
 |true=>exact (vV4 h4 4 (by decide)).2.2.1
 |false=>exact h4
theorem uN4 (r:D60)(w h:Int)(v:D45)(n:Nat)(l:List D45)(hn:n≤65536)(hl:l.length≤65536):LT (vD5 (r,((),()),w,h,v,(n:Int),())) (wY7 (r,((),()),w,h,v,(n:Int),())) (vA7 (r,((),()),w,h,v,(n:Int),())) n (l,0,()) (l++List.replicate n v,(n:Int),()):=
 uC6 v n (by omega) (fun _ _=>rfl) (fun _ _=>rfl) (fun l i h1 h2 h3 _=>⟨by show ((l.length+1:Nat):Int)≤4294967296;omega,inR (by show _≤i+1;omega) (by show i+1≤_;omega)⟩) n 0 l (by omega) (by omega)
theorem uL0 (r:D71)(a:Int×Int×List D45×Unit)(w h:Int)(v:D45)(n:Nat)(l:List D45)(hn:n≤65536)(hl:l.length≤65536):LT (vA4 (r,a,w,h,(n:Int),v,())) (wW4 (r,a,w,h,(n:Int),v,())) (wZ2 (r,a,w,h,(n:Int),v,())) n ((w,h,l,()),0,()) ((w,h,l++List.replicate n v,()),(n:Int),()):=
 vX w h v n (by omega) (fun _ _=>rfl) (fun _ _=>rfl) (fun l i h1 h2 h3 _=>⟨by show ((l.length+1:Nat):Int)≤4294967296;omega,inR (by show _≤i+1;omega) (by show i+1≤_;omega)⟩) n 0 l (by omega) (by omega)
theorem uN5 {p:D60}{r:D71}{w h:Int}{l:List D45}(hR:RR p r)(he:p.2.2.2.1=0)(hl:len l<w*h)(hN:w*h≤65536) :
  ∃ n:Nat,l.length+n+1≤(w*h).toNat∧wW5 (((),()),w,h,()) (p,l,())∧wU8 (((),()),w,h,()) (p,l,())=((vP7 l (wS7 p (w*h-len l-1)).1).2.2.2.1==0) ∧
   wT (((),()),w,h,()) (p,l,())=vP7 l (wS7 p (w*h-len l-1)).1 ∧
   wW (((),()),w,h,()) (p,l,())=(vP7 l (wS7 p (w*h-len l-1)).1,l++List.replicate (n+1) (vP6 (wS7 p (w*h-len l-1)).1),()) ∧
   wV2 (w,h,()) (r,(0,0,[],()),(w,h,l,()),())∧wX1 (w,h,()) (r,(0,0,[],()),(w,h,l,()),())=true ∧
   wU3 (w,h,()) (r,(0,0,[],()),(w,h,l,()),())=(vN0 l (wS9 r (w*h-len l-1)).1,(0,0,[],()),(w,h,l++List.replicate (n+1) (vP6 (wS7 p (w*h-len l-1)).1),()),()) ∧
   RR (vP7 l (wS7 p (w*h-len l-1)).1) (vN0 l (wS9 r (w*h-len l-1)).1):=by
 have hl0:=wM9 l;obtain⟨c1,c2,c3,c4,c5,c6⟩:=vG4 hR (w*h-len l-1) (by omega);obtain⟨v1,v2,v3,v4⟩:=uP2 c4;have hm:=uT3 c4 l;obtain⟨e1,e2⟩:=vJ1 hR;obtain⟨m1,m2⟩:=vJ1 hm;rw[he] at e1 e2;have k25:decide (len l<w*h)=true:=decide_eq_true hl;obtain⟨n,hn⟩:∃ n:Nat,wS8 p (w*h-len l-1)=(n:Int):=⟨(wS8 p (w*h-len l-1)).toNat,by omega⟩;rw[hn] at c3 c5;have hlen:len l=(l.length:Int):=rfl;have hfill:=fun q=>uN4 q w h (vP6 (wS7 p (w*h-len l-1)).1) (n+1) l (by omega) (by omega);have hfillR:=fun q=>uL0 q (0,0,[],()) w h (vP6 (wS7 p (w*h-len l-1)).1) (n+1) l (by omega) (by omega);have hn1:(n:Int)+1=((n+1:Nat):Int):=by omega
 have r1:InR (w*h):=inR (by omega) (by omega);have r2:InR (w*h-len l):=inR (by omega) (by omega);have r3:InR (w*h-len l-1):=inR (by omega) (by omega);have r4:InR ((n:Int)+1):=inR (by omega) (by omega);have r5:InR (len l-1):=inR (by omega) (by omega);have b1:decide (len l>0)=true→InB (len l-1) (len l):=fun h=>by have:=of_decide_eq_true h;exact⟨by omega,by omega⟩
 refine⟨n,by omega,?_,?_,?_,?_,?_,?_,?_,hm⟩
 ·refine⟨r1,fun _=>trivial,fun _=>?_⟩;simp only[k25,f44o,cond_true,hn];refine⟨r1,r2,r3,c1,v1,fun _=>r5,b1,fun _=>trivial,trivial,fun _=>⟨r4,?_⟩⟩;rw[hn1];exact (hfill _).ends (by omega)
 ·simp only[wU8,vB8,k25,f44o,cond_true,e1];show (((0:Int)==0)&&(!(wU7 (vP7 l (wS7 p (w*h-len l-1)).1)!=0)))=_;rw[m1];simp[bne]
 ·simp only[wT,k25,f44o,cond_true,e1];rfl
 ·simp only[wW,vB8,k25,f44o,cond_true,hn];show (vP7 l (wS7 p (w*h-len l-1)).1,(zC4 (vD5 (vP7 l (wS7 p (w*h-len l-1)).1,((),()),w,h,vP6 (wS7 p (w*h-len l-1)).1,(n:Int)+1,())) (wY7 (vP7 l (wS7 p (w*h-len l-1)).1,((),()),w,h,vP6 (wS7 p (w*h-len l-1)).1,(n:Int)+1,())) (l,0,())).1,())=_;rw[hn1,(hfill _).fix (by omega)]
 ·refine⟨trivial,fun _=>r1,fun _=>?_⟩;simp only[f38o,c3];refine⟨r1,r2,r3,c2,r4,v2.1,v2.2.1,v2.2.2.1,v2.2.2.2,fun _=>r5,b1,fun _=>trivial,?_⟩;show xQ1 (vA4 (vN0 l (wS9 r (w*h-len l-1)).1,(0,0,[],()),w,h,(n:Int)+1,vV5 (wS9 r (w*h-len l-1)).1,())) (wW4 (vN0 l (wS9 r (w*h-len l-1)).1,(0,0,[],()),w,h,(n:Int)+1,vV5 (wS9 r (w*h-len l-1)).1,())) (wZ2 (vN0 l (wS9 r (w*h-len l-1)).1,(0,0,[],()),w,h,(n:Int)+1,vV5 (wS9 r (w*h-len l-1)).1,())) ((w,h,l,()),0,());rw[hn1,v3];exact (hfillR _).ends (by omega)
 ·simp only[wX1,vE9,k25,e2];rfl
 ·simp only[wU3,vE9,f38o,c3];show (vN0 l (wS9 r (w*h-len l-1)).1,(0,0,[],()),(zC4 (vA4 (vN0 l (wS9 r (w*h-len l-1)).1,(0,0,[],()),w,h,(n:Int)+1,vV5 (wS9 r (w*h-len l-1)).1,())) (wW4 (vN0 l (wS9 r (w*h-len l-1)).1,(0,0,[],()),w,h,(n:Int)+1,vV5 (wS9 r (w*h-len l-1)).1,())) ((w,h,l,()),0,())).1,())=_;rw[hn1,v3,(hfillR _).fix (by omega)]
theorem uN6 {w h:Int}(hN:w*h≤65536)(hN0:0≤w*h):∀ (m:Nat) (p:D60) (r:D71) (l:List D45),RR p r→w*h-len l≤m→len l≤w*h →
  ∃ (k1 k2:Nat) (eP:wV9) (eR:wU9),k1≤m∧k2≤m+1∧LT (wU8 (((),()),w,h,())) (wW (((),()),w,h,())) (wW5 (((),()),w,h,())) k1 (p,l,()) eP ∧
   LT (wX1 (w,h,())) (wU3 (w,h,())) (wV2 (w,h,())) k2 (r,(0,0,[],()),(w,h,l,()),()) eR∧RR (wT (((),()),w,h,()) eP) (wT9 (w,h,()) eR) ∧
   (wT7 (w,h,()) eR).1=w∧(wT7 (w,h,()) eR).2.1=h∧((wT (((),()),w,h,()) eP).2.2.2.1=0→(wT7 (w,h,()) eR).2.2.1=wW0 (((),()),w,h,()) eP)∧len (wW0 (((),()),w,h,()) eP)≤w*h:=by
 have r1:InR (w*h):=inR (by omega) (by omega);have halt:∀ (m:Nat) (p:D60) (r:D71) (l:List D45),RR p r→len l≤w*h→(decide (len l<w*h)=false∨(decide (len l<w*h)=true∧p.2.2.2.1≠0)) →
  ∃ (k1 k2:Nat) (eP:wV9) (eR:wU9),k1≤m∧k2≤m+1∧LT (wU8 (((),()),w,h,())) (wW (((),()),w,h,())) (wW5 (((),()),w,h,())) k1 (p,l,()) eP ∧
   LT (wX1 (w,h,())) (wU3 (w,h,())) (wV2 (w,h,())) k2 (r,(0,0,[],()),(w,h,l,()),()) eR∧RR (wT (((),()),w,h,()) eP) (wT9 (w,h,()) eR) ∧
   (wT7 (w,h,()) eR).1=w∧(wT7 (w,h,()) eR).2.1=h∧((wT (((),()),w,h,()) eP).2.2.2.1=0→(wT7 (w,h,()) eR).2.2.1=wW0 (((),()),w,h,()) eP)∧len (wW0 (((),()),w,h,()) eP)≤w*h:=by
  intro m p r l hR hll hor;obtain⟨e1,e2⟩:=vJ1 hR;have g30:(bif decide (len l<w*h) then (wU7 p==0) else false)=false:=by
   rcases hor with h|⟨h,h'⟩
   ·rw[h];rfl
   ·rw[h,e1];simpa using h'
  have g28:(bif (wW7 r==0) then decide (len l<w*h) else false)=false:=by
   rcases hor with h|⟨h,h'⟩
   ·rw[h];cases (wW7 r==0)<;>rfl
   ·have:(wW7 r==0)=false:=by rw[e2];simpa using h'
    rw[this];rfl
  have gP:wU8 (((),()),w,h,()) (p,l,())=false:=by
   simp only[wU8,vB8,g30];rfl
  have gR:wX1 (w,h,()) (r,(0,0,[],()),(w,h,l,()),())=false:=g28;have oP:wW5 (((),()),w,h,()) (p,l,()):=⟨r1,fun _=>trivial,fun h30=>by
   have h30:(bif decide (len l<w*h) then (wU7 p==0) else false)=true:=h30;rw[g30] at h30;cases h30⟩
  have oR:wV2 (w,h,()) (r,(0,0,[],()),(w,h,l,()),()):=⟨trivial,fun _=>r1,fun h28=>by
   have h28:(bif (wW7 r==0) then decide (len l<w*h) else false)=true:=h28;rw[g28] at h28;cases h28⟩
  have xP:wT (((),()),w,h,()) (p,l,())=p:=by
   simp only[wT,g30,f44o,Bool.not_false,cond_true];cases decide (len l<w*h)<;>rfl
  refine⟨0,0,(p,l,()),(r,(0,0,[],()),(w,h,l,()),()),Nat.zero_le _,Nat.zero_le _,.stop oP gP,.stop oR gR,?_,rfl,rfl,fun _=>rfl,hll⟩;rw[xP];exact hR
 intro m
 induction m with
 |zero=>intro p r l hR h1 h2;exact halt 0 p r l hR h2 (.inl (decide_eq_false (by omega)))
 |succ m ih =>
  intro p r l hR h1 h2;by_cases hl:len l<w*h
  ·by_cases he:p.2.2.2.1=0
   ·obtain⟨n,s1,s2,s3,s4,s5,s6,s7,s8,s9⟩:=uN5 hR he hl hN;by_cases hm:(vP7 l (wS7 p (w*h-len l-1)).1).2.2.2.1=0
    ·obtain⟨k1,k2,eP,eR,q1,q2,q3,q4,q5⟩:=ih _ _ (l++List.replicate (n+1) (vP6 (wS7 p (w*h-len l-1)).1)) s9 (by simp only[len,List.length_append,List.length_replicate] at h1 ⊢;omega) (by simp only[len,List.length_append,List.length_replicate];omega);rw[← s5] at q3;rw[← s8] at q4;exact⟨k1+1,k2+1,eP,eR,by omega,by omega,.step s2 (by rw[s3,hm];rfl) q3,.step s6 s7 q4,q5⟩
    ·obtain⟨k1,k2,eP,eR,q1,q2,q3,q4,q5⟩:=halt 0 _ _ (l++List.replicate (n+1) (vP6 (wS7 p (w*h-len l-1)).1)) s9 (by simp only[len,List.length_append,List.length_replicate];omega) (by
      cases hb:decide (len (l++List.replicate (n+1) (vP6 (wS7 p (w*h-len l-1)).1))<w*h) with
      |true=>exact .inr ⟨rfl,hm⟩
      |false=>exact .inl rfl)
     have hg:wU8 (((),()),w,h,()) (p,l,())=false:=by rw[s3];simpa using hm
     rw[← s8] at q4;have hk1:k1=0:=by omega
     subst hk1;have he1:eP=(vP7 l (wS7 p (w*h-len l-1)).1,l++List.replicate (n+1) (vP6 (wS7 p (w*h-len l-1)).1),()):=by cases q3;rfl
     have hx0:wT (((),()),w,h,()) eP=vP7 l (wS7 p (w*h-len l-1)).1:=by
      have hge:wU8 (((),()),w,h,()) eP=false:=by cases q3;assumption
      obtain⟨z1,_⟩:=vJ1 s9;rw[he1];have z2:(wU7 (vP7 l (wS7 p (w*h-len l-1)).1)==0)=false:=by rw[z1];simpa using hm
      simp only[wT,f44o,z2];cases decide (len (l++List.replicate (n+1) (vP6 (wS7 p (w*h-len l-1)).1))<w*h)<;>rfl
     refine⟨0,k2+1,(p,l,()),eR,Nat.zero_le _,by omega,.stop s2 hg,.step s6 s7 q4,?_,q5.2.1,q5.2.2.1,fun h0=>?_,h2⟩
     ·rw[s4,← hx0];exact q5.1
     ·rw[s4] at h0;exact absurd h0 hm
   ·exact halt _ p r l hR h2 (.inr ⟨decide_eq_true hl,he⟩)
  ·exact halt _ p r l hR h2 (.inl (decide_eq_false hl))
theorem uN7 {p:D60}{r:D71}(hR:RR p r):vH3 p∧vB0 r∧uB8 r=vW4 p∧RR (vO4 p).1 (vP1 r).1∧len (vW4 p).2.2.1≤65536:=by
 obtain⟨a1,a2,a3,a4,a5,a6⟩:=vG4 hR 256 (by decide);obtain⟨b1,b2,b3,b4,b5,b6⟩:=vG4 a4 256 (by decide);have hw:=vK9 (w:=wS8 p 256) (h:=wS8 (wS7 p 256).1 256) (by omega) (by omega) (by omega) (by omega);generalize hc:(!(Ty.eqb .bool (wS8 p 256==0) (wS8 (wS7 p 256).1 256==0)))=c;generalize hq:(bif c then (wV1 (wS7 (wS7 p 256).1 256).1 4).1 else (wS7 (wS7 p 256).1 256).1)=q;generalize hq':(bif c then (wZ1 (wS9 (wS9 r 256).1 256).1 4).1 else (wS9 (wS9 r 256).1 256).1)=q';have hqr:RR q q':=by
  rw[← hq,← hq'];cases c with
  |true=>exact (vV4 b4 4 (by decide)).2.2.1
  |false=>exact b4
 obtain⟨k1,k2,eP,eR,q1,q2,q3,q4,q5,q6,q7,q8,q9⟩:=uN6 hw.2 hw.1 (wS8 p 256*wS8 (wS7 p 256).1 256).toNat q q' [] hqr (by simp only[len,List.length_nil];omega) (by simp only[len,List.length_nil];omega);have fP:=q3.fix (by omega);have fR:=q4.fix (by omega);have nP:=q3.ends (by omega);have nR:=q4.ends (by omega);have v37:wZ3 r=(wS8 p 256,wS8 (wS7 p 256).1 256,()):=by
  show (wW6 r 256,wW6 (wS9 r 256).1 256,())=_;rw[a3,b3]
 have o37:(vI5 r).1=q':=by
  show (bif (!(Ty.eqb .bool (wW6 r 256==0) (wW6 (wS9 r 256).1 256==0))) then (wZ1 (wS9 (wS9 r 256).1 256).1 4).1 else (wS9 (wS9 r 256).1 256).1)=q';rw[a3,b3,hc,hq']
 obtain⟨z1,z2⟩:=vJ1 q5;have hP:vU1 p ((),())=(vH2 p ((),()),((bif ((wU7 (wT (((),()),wS8 p 256,wS8 (wS7 p 256).1 256,()) eP))!=0) then (0:Int) else wS8 p 256),(bif ((wU7 (wT (((),()),wS8 p 256,wS8 (wS7 p 256).1 256,()) eP))!=0) then (0:Int) else wS8 (wS7 p 256).1 256),(bif ((wU7 (wT (((),()),wS8 p 256,wS8 (wS7 p 256).1 256,()) eP))!=0) then [] else wW0 (((),()),wS8 p 256,wS8 (wS7 p 256).1 256,()) eP),()),
   ((bif ((wU7 (wT (((),()),wS8 p 256,wS8 (wS7 p 256).1 256,()) eP))!=0) then wT (((),()),wS8 p 256,wS8 (wS7 p 256).1 256,()) eP else wT (((),()),wS8 p 256,wS8 (wS7 p 256).1 256,()) eP),())):=by
  rw[← fP,← hq,← hc];rfl
 have hRt:vQ7 r=(vB0 r,((bif ((wW7 (wT9 (wS8 p 256,wS8 (wS7 p 256).1 256,()) eR))!=0) then (0:Int) else (wT7 (wS8 p 256,wS8 (wS7 p 256).1 256,()) eR).1),(bif ((wW7 (wT9 (wS8 p 256,wS8 (wS7 p 256).1 256,()) eR))!=0) then (0:Int) else (wT7 (wS8 p 256,wS8 (wS7 p 256).1 256,()) eR).2.1),(bif ((wW7 (wT9 (wS8 p 256,wS8 (wS7 p 256).1 256,()) eR))!=0) then [] else (wT7 (wS8 p 256,wS8 (wS7 p 256).1 256,()) eR).2.2.1),()),
   ((bif ((wW7 (wT9 (wS8 p 256,wS8 (wS7 p 256).1 256,()) eR))!=0) then wT9 (wS8 p 256,wS8 (wS7 p 256).1 256,()) eR else wT9 (wS8 p 256,wS8 (wS7 p 256).1 256,()) eR),())):=by
  rw[← fR,← o37];simp only[vB0,vQ7,v37,f38o]
 have okP:vH2 p ((),()):=⟨a1,b1,fun _=>trivial,by
  show xQ1 _ _ _ ((bif (!(Ty.eqb .bool (wS8 p 256==0) (wS8 (wS7 p 256).1 256==0))) then (wV1 (wS7 (wS7 p 256).1 256).1 4).1 else (wS7 (wS7 p 256).1 256).1),[],());rw[hc,hq];exact nP,trivial⟩
 have okR:vB0 r:=by
  refine⟨⟨a2,b2,fun _=>trivial⟩,?_,trivial⟩;show xQ1 (wX1 ((wZ3 r).1,(wZ3 r).2.1,())) (wU3 ((wZ3 r).1,(wZ3 r).2.1,())) (wV2 ((wZ3 r).1,(wZ3 r).2.1,())) ((vI5 r).1,(0,0,[],()),((wZ3 r).1,(wZ3 r).2.1,[],()),());rw[o37,v37];exact nR
 refine⟨okP,okR,?_⟩;simp only[vW4,vO4,vU2,uI,vY2,hP,uB8,vP1,hRt,z1,z2];by_cases he:(wT (((),()),wS8 p 256,wS8 (wS7 p 256).1 256,()) eP).2.2.2.1=0
 ·have hb:((wT (((),()),wS8 p 256,wS8 (wS7 p 256).1 256,()) eP).2.2.2.1 !=0)=false:=by simp[he]
  simp only[hb,cond_false,q6,q7,q8 he];exact⟨trivial,q5,by omega⟩
 ·have hb:((wT (((),()),wS8 p 256,wS8 (wS7 p 256).1 256,()) eP).2.2.2.1 !=0)=true:=by simp[he]
  simp only[hb,cond_true];exact⟨trivial,q5,by simp[len]⟩
def vP8 (p:D60):Int:=uE5 () p
def uT4 (p:D60):D60:=(vS7 () p).2.1
def vV6 (r:D71):Int:=wW6 r 65535
def uL1 (r:D71):D71:=(wS9 r 65535).1
theorem uP3 {p:D60}{r:D71}(h:RR p r):vK2 () p∧wU0 r 65535∧vV6 r=vP8 p∧RR (uT4 p) (uL1 r):=by
 obtain⟨a1,a2,a3,a4,_⟩:=vG4 h 65535 (by decide);exact⟨a1,a2,a3,a4⟩
def vP9 (l:List Int)(p:D60):D60:=bif (bif decide (len l>0) then BEq.beq (nth l (len l-1) 0) (vP8 p) else false) then (wV1 (uT4 p) 4).1 else uT4 p
def vN1 (l:List Int)(r:D71):D71:=bif (bif decide (len l>0) then BEq.beq (nth l (len l-1) 0) (vV6 r) else false) then (wZ1 (uL1 r) 4).1 else uL1 r
theorem uT5 {p:D60}{r:D71}(h:RR p r)(l:List Int):RR (vP9 l p) (vN1 l r):=by
 obtain⟨h1,h2,h3,h4⟩:=uP3 h;unfold vP9 vN1;rw[h3];cases (bif decide (len l>0) then BEq.beq (nth l (len l-1) 0) (vP8 p) else false) with
 |true=>exact (vV4 h4 4 (by decide)).2.2.1
 |false=>exact h4
theorem uN8 (r:D60)(w h:Int)(v:Int)(n:Nat)(l:List Int)(hn:n≤65536)(hl:l.length≤65536):LT (vD9 (r,((),()),w,h,v,(n:Int),())) (wZ0 (r,((),()),w,h,v,(n:Int),())) (vB1 (r,((),()),w,h,v,(n:Int),())) n (l,0,()) (l++List.replicate n v,(n:Int),()):=
 uC6 v n (by omega) (fun _ _=>rfl) (fun _ _=>rfl) (fun l i h1 h2 h3 _=>⟨by show ((l.length+1:Nat):Int)≤4294967296;omega,inR (by show _≤i+1;omega) (by show i+1≤_;omega)⟩) n 0 l (by omega) (by omega)
theorem uL2 (r:D71)(a:Int×Int×List Int×Unit)(w h:Int)(v:Int)(n:Nat)(l:List Int)(hn:n≤65536)(hl:l.length≤65536):LT (vC2 (r,a,w,h,(n:Int),v,())) (wX5 (r,a,w,h,(n:Int),v,())) (vA5 (r,a,w,h,(n:Int),v,())) n ((w,h,l,()),0,()) ((w,h,l++List.replicate n v,()),(n:Int),()):=
 vX w h v n (by omega) (fun _ _=>rfl) (fun _ _=>rfl) (fun l i h1 h2 h3 _=>⟨by show ((l.length+1:Nat):Int)≤4294967296;omega,inR (by show _≤i+1;omega) (by show i+1≤_;omega)⟩) n 0 l (by omega) (by omega)
theorem uN9 {p:D60}{r:D71}{w h:Int}{l:List Int}(hR:RR p r)(he:p.2.2.2.1=0)(hl:len l<w*h)(hN:w*h≤65536) :
  ∃ n:Nat,l.length+n+1≤(w*h).toNat∧wW8 (((),()),w,h,()) (p,l,())∧wV (((),()),w,h,()) (p,l,())=((vP9 l (wS7 p (w*h-len l-1)).1).2.2.2.1==0) ∧
   wT0 (((),()),w,h,()) (p,l,())=vP9 l (wS7 p (w*h-len l-1)).1 ∧
   wW2 (((),()),w,h,()) (p,l,())=(vP9 l (wS7 p (w*h-len l-1)).1,l++List.replicate (n+1) (vP8 (wS7 p (w*h-len l-1)).1),()) ∧
   wV3 (w,h,()) (r,(0,0,[],()),(w,h,l,()),())∧wX2 (w,h,()) (r,(0,0,[],()),(w,h,l,()),())=true ∧
   wU4 (w,h,()) (r,(0,0,[],()),(w,h,l,()),())=(vN1 l (wS9 r (w*h-len l-1)).1,(0,0,[],()),(w,h,l++List.replicate (n+1) (vP8 (wS7 p (w*h-len l-1)).1),()),()) ∧
   RR (vP9 l (wS7 p (w*h-len l-1)).1) (vN1 l (wS9 r (w*h-len l-1)).1):=by
 have hl0:=wM9 l;obtain⟨c1,c2,c3,c4,c5,c6⟩:=vG4 hR (w*h-len l-1) (by omega);obtain⟨v1,v2,v3,v4⟩:=uP3 c4;have hm:=uT5 c4 l;obtain⟨e1,e2⟩:=vJ1 hR;obtain⟨m1,m2⟩:=vJ1 hm;rw[he] at e1 e2;have k25:decide (len l<w*h)=true:=decide_eq_true hl;obtain⟨n,hn⟩:∃ n:Nat,wS8 p (w*h-len l-1)=(n:Int):=⟨(wS8 p (w*h-len l-1)).toNat,by omega⟩;rw[hn] at c3 c5;have hlen:len l=(l.length:Int):=rfl;have hfill:=fun q=>uN8 q w h (vP8 (wS7 p (w*h-len l-1)).1) (n+1) l (by omega) (by omega);have hfillR:=fun q=>uL2 q (0,0,[],()) w h (vP8 (wS7 p (w*h-len l-1)).1) (n+1) l (by omega) (by omega);have hn1:(n:Int)+1=((n+1:Nat):Int):=by omega
 have r1:InR (w*h):=inR (by omega) (by omega);have r2:InR (w*h-len l):=inR (by omega) (by omega);have r3:InR (w*h-len l-1):=inR (by omega) (by omega);have r4:InR ((n:Int)+1):=inR (by omega) (by omega);have r5:InR (len l-1):=inR (by omega) (by omega);have b1:decide (len l>0)=true→InB (len l-1) (len l):=fun h=>by have:=of_decide_eq_true h;exact⟨by omega,by omega⟩
 refine⟨n,by omega,?_,?_,?_,?_,?_,?_,?_,hm⟩
 ·refine⟨r1,fun _=>trivial,fun _=>?_⟩;simp only[k25,f44o,cond_true,hn];refine⟨r1,r2,r3,c1,v1,fun _=>r5,b1,fun _=>trivial,trivial,fun _=>⟨r4,?_⟩⟩;rw[hn1];exact (hfill _).ends (by omega)
 ·simp only[wV,vC1,k25,f44o,cond_true,e1];show (((0:Int)==0)&&(!(wU7 (vP9 l (wS7 p (w*h-len l-1)).1)!=0)))=_;rw[m1];simp[bne]
 ·simp only[wT0,k25,f44o,cond_true,e1];rfl
 ·simp only[wW2,vC1,k25,f44o,cond_true,hn];show (vP9 l (wS7 p (w*h-len l-1)).1,(zC4 (vD9 (vP9 l (wS7 p (w*h-len l-1)).1,((),()),w,h,vP8 (wS7 p (w*h-len l-1)).1,(n:Int)+1,())) (wZ0 (vP9 l (wS7 p (w*h-len l-1)).1,((),()),w,h,vP8 (wS7 p (w*h-len l-1)).1,(n:Int)+1,())) (l,0,())).1,())=_;rw[hn1,(hfill _).fix (by omega)]
 ·refine⟨trivial,fun _=>r1,fun _=>?_⟩;simp only[f38o,c3];refine⟨r1,r2,r3,c2,r4,v2,fun _=>r5,b1,fun _=>trivial,?_⟩;show xQ1 (vC2 (vN1 l (wS9 r (w*h-len l-1)).1,(0,0,[],()),w,h,(n:Int)+1,vV6 (wS9 r (w*h-len l-1)).1,())) (wX5 (vN1 l (wS9 r (w*h-len l-1)).1,(0,0,[],()),w,h,(n:Int)+1,vV6 (wS9 r (w*h-len l-1)).1,())) (vA5 (vN1 l (wS9 r (w*h-len l-1)).1,(0,0,[],()),w,h,(n:Int)+1,vV6 (wS9 r (w*h-len l-1)).1,())) ((w,h,l,()),0,());rw[hn1,v3];exact (hfillR _).ends (by omega)
 ·simp only[wX2,vF,k25,e2];rfl
 ·simp only[wU4,vF,f38o,c3];show (vN1 l (wS9 r (w*h-len l-1)).1,(0,0,[],()),(zC4 (vC2 (vN1 l (wS9 r (w*h-len l-1)).1,(0,0,[],()),w,h,(n:Int)+1,vV6 (wS9 r (w*h-len l-1)).1,())) (wX5 (vN1 l (wS9 r (w*h-len l-1)).1,(0,0,[],()),w,h,(n:Int)+1,vV6 (wS9 r (w*h-len l-1)).1,())) ((w,h,l,()),0,())).1,())=_;rw[hn1,v3,(hfillR _).fix (by omega)]
theorem uO {w h:Int}(hN:w*h≤65536)(hN0:0≤w*h):∀ (m:Nat) (p:D60) (r:D71) (l:List Int),RR p r→w*h-len l≤m→len l≤w*h →
  ∃ (k1 k2:Nat) (eP:wW1) (eR:wV0),k1≤m∧k2≤m+1∧LT (wV (((),()),w,h,())) (wW2 (((),()),w,h,())) (wW8 (((),()),w,h,())) k1 (p,l,()) eP ∧
   LT (wX2 (w,h,())) (wU4 (w,h,())) (wV3 (w,h,())) k2 (r,(0,0,[],()),(w,h,l,()),()) eR∧RR (wT0 (((),()),w,h,()) eP) (wU (w,h,()) eR) ∧
   (wT8 (w,h,()) eR).1=w∧(wT8 (w,h,()) eR).2.1=h∧((wT0 (((),()),w,h,()) eP).2.2.2.1=0→(wT8 (w,h,()) eR).2.2.1=wW3 (((),()),w,h,()) eP)∧len (wW3 (((),()),w,h,()) eP)≤w*h:=by
 have r1:InR (w*h):=inR (by omega) (by omega);have halt:∀ (m:Nat) (p:D60) (r:D71) (l:List Int),RR p r→len l≤w*h→(decide (len l<w*h)=false∨(decide (len l<w*h)=true∧p.2.2.2.1≠0)) →
  ∃ (k1 k2:Nat) (eP:wW1) (eR:wV0),k1≤m∧k2≤m+1∧LT (wV (((),()),w,h,())) (wW2 (((),()),w,h,())) (wW8 (((),()),w,h,())) k1 (p,l,()) eP ∧
   LT (wX2 (w,h,())) (wU4 (w,h,())) (wV3 (w,h,())) k2 (r,(0,0,[],()),(w,h,l,()),()) eR∧RR (wT0 (((),()),w,h,()) eP) (wU (w,h,()) eR) ∧
   (wT8 (w,h,()) eR).1=w∧(wT8 (w,h,()) eR).2.1=h∧((wT0 (((),()),w,h,()) eP).2.2.2.1=0→(wT8 (w,h,()) eR).2.2.1=wW3 (((),()),w,h,()) eP)∧len (wW3 (((),()),w,h,()) eP)≤w*h:=by
  intro m p r l hR hll hor;obtain⟨e1,e2⟩:=vJ1 hR;have g30:(bif decide (len l<w*h) then (wU7 p==0) else false)=false:=by
   rcases hor with h|⟨h,h'⟩
   ·rw[h];rfl
   ·rw[h,e1];simpa using h'
  have g28:(bif (wW7 r==0) then decide (len l<w*h) else false)=false:=by
   rcases hor with h|⟨h,h'⟩
   ·rw[h];cases (wW7 r==0)<;>rfl
   ·have:(wW7 r==0)=false:=by rw[e2];simpa using h'
    rw[this];rfl
  have gP:wV (((),()),w,h,()) (p,l,())=false:=by
   simp only[wV,vC1,g30];rfl
  have gR:wX2 (w,h,()) (r,(0,0,[],()),(w,h,l,()),())=false:=g28;have oP:wW8 (((),()),w,h,()) (p,l,()):=⟨r1,fun _=>trivial,fun h30=>by
   have h30:(bif decide (len l<w*h) then (wU7 p==0) else false)=true:=h30;rw[g30] at h30;cases h30⟩
  have oR:wV3 (w,h,()) (r,(0,0,[],()),(w,h,l,()),()):=⟨trivial,fun _=>r1,fun h28=>by
   have h28:(bif (wW7 r==0) then decide (len l<w*h) else false)=true:=h28;rw[g28] at h28;cases h28⟩
  have xP:wT0 (((),()),w,h,()) (p,l,())=p:=by
   simp only[wT0,g30,f44o,Bool.not_false,cond_true];cases decide (len l<w*h)<;>rfl
  refine⟨0,0,(p,l,()),(r,(0,0,[],()),(w,h,l,()),()),Nat.zero_le _,Nat.zero_le _,.stop oP gP,.stop oR gR,?_,rfl,rfl,fun _=>rfl,hll⟩;rw[xP];exact hR
 intro m
 induction m with
 |zero=>intro p r l hR h1 h2;exact halt 0 p r l hR h2 (.inl (decide_eq_false (by omega)))
 |succ m ih =>
  intro p r l hR h1 h2;by_cases hl:len l<w*h
  ·by_cases he:p.2.2.2.1=0
   ·obtain⟨n,s1,s2,s3,s4,s5,s6,s7,s8,s9⟩:=uN9 hR he hl hN;by_cases hm:(vP9 l (wS7 p (w*h-len l-1)).1).2.2.2.1=0
    ·obtain⟨k1,k2,eP,eR,q1,q2,q3,q4,q5⟩:=ih _ _ (l++List.replicate (n+1) (vP8 (wS7 p (w*h-len l-1)).1)) s9 (by simp only[len,List.length_append,List.length_replicate] at h1 ⊢;omega) (by simp only[len,List.length_append,List.length_replicate];omega);rw[← s5] at q3;rw[← s8] at q4;exact⟨k1+1,k2+1,eP,eR,by omega,by omega,.step s2 (by rw[s3,hm];rfl) q3,.step s6 s7 q4,q5⟩
    ·obtain⟨k1,k2,eP,eR,q1,q2,q3,q4,q5⟩:=halt 0 _ _ (l++List.replicate (n+1) (vP8 (wS7 p (w*h-len l-1)).1)) s9 (by simp only[len,List.length_append,List.length_replicate];omega) (by
      cases hb:decide (len (l++List.replicate (n+1) (vP8 (wS7 p (w*h-len l-1)).1))<w*h) with
      |true=>exact .inr ⟨rfl,hm⟩
      |false=>exact .inl rfl)
     have hg:wV (((),()),w,h,()) (p,l,())=false:=by rw[s3];simpa using hm
     rw[← s8] at q4;have hk1:k1=0:=by omega
     subst hk1;have he1:eP=(vP9 l (wS7 p (w*h-len l-1)).1,l++List.replicate (n+1) (vP8 (wS7 p (w*h-len l-1)).1),()):=by cases q3;rfl
     have hx0:wT0 (((),()),w,h,()) eP=vP9 l (wS7 p (w*h-len l-1)).1:=by
      have hge:wV (((),()),w,h,()) eP=false:=by cases q3;assumption
      obtain⟨z1,_⟩:=vJ1 s9;rw[he1];have z2:(wU7 (vP9 l (wS7 p (w*h-len l-1)).1)==0)=false:=by rw[z1];simpa using hm
      simp only[wT0,f44o,z2];cases decide (len (l++List.replicate (n+1) (vP8 (wS7 p (w*h-len l-1)).1))<w*h)<;>rfl
     refine⟨0,k2+1,(p,l,()),eR,Nat.zero_le _,by omega,.stop s2 hg,.step s6 s7 q4,?_,q5.2.1,q5.2.2.1,fun h0=>?_,h2⟩
     ·rw[s4,← hx0];exact q5.1
     ·rw[s4] at h0;exact absurd h0 hm
   ·exact halt _ p r l hR h2 (.inr ⟨decide_eq_true hl,he⟩)
  ·exact halt _ p r l hR h2 (.inl (decide_eq_false hl))
theorem uO0 {p:D60}{r:D71}(hR:RR p r):vH6 p∧vB2 r∧uC3 r=vW5 p∧RR (vP3 p).1 (vP4 r).1∧len (vW5 p).2.2.1≤65536:=by
 obtain⟨a1,a2,a3,a4,a5,a6⟩:=vG4 hR 256 (by decide);obtain⟨b1,b2,b3,b4,b5,b6⟩:=vG4 a4 256 (by decide);have hw:=vK9 (w:=wS8 p 256) (h:=wS8 (wS7 p 256).1 256) (by omega) (by omega) (by omega) (by omega);generalize hc:(!(Ty.eqb .bool (wS8 p 256==0) (wS8 (wS7 p 256).1 256==0)))=c;generalize hq:(bif c then (wV1 (wS7 (wS7 p 256).1 256).1 4).1 else (wS7 (wS7 p 256).1 256).1)=q;generalize hq':(bif c then (wZ1 (wS9 (wS9 r 256).1 256).1 4).1 else (wS9 (wS9 r 256).1 256).1)=q';have hqr:RR q q':=by
  rw[← hq,← hq'];cases c with
  |true=>exact (vV4 b4 4 (by decide)).2.2.1
  |false=>exact b4
 obtain⟨k1,k2,eP,eR,q1,q2,q3,q4,q5,q6,q7,q8,q9⟩:=uO hw.2 hw.1 (wS8 p 256*wS8 (wS7 p 256).1 256).toNat q q' [] hqr (by simp only[len,List.length_nil];omega) (by simp only[len,List.length_nil];omega);have fP:=q3.fix (by omega);have fR:=q4.fix (by omega);have nP:=q3.ends (by omega);have nR:=q4.ends (by omega);have v37:wZ3 r=(wS8 p 256,wS8 (wS7 p 256).1 256,()):=by
  show (wW6 r 256,wW6 (wS9 r 256).1 256,())=_;rw[a3,b3]
 have o37:(vI5 r).1=q':=by
  show (bif (!(Ty.eqb .bool (wW6 r 256==0) (wW6 (wS9 r 256).1 256==0))) then (wZ1 (wS9 (wS9 r 256).1 256).1 4).1 else (wS9 (wS9 r 256).1 256).1)=q';rw[a3,b3,hc,hq']
 obtain⟨z1,z2⟩:=vJ1 q5;have hP:vU8 p ((),())=(vH5 p ((),()),((bif ((wU7 (wT0 (((),()),wS8 p 256,wS8 (wS7 p 256).1 256,()) eP))!=0) then (0:Int) else wS8 p 256),(bif ((wU7 (wT0 (((),()),wS8 p 256,wS8 (wS7 p 256).1 256,()) eP))!=0) then (0:Int) else wS8 (wS7 p 256).1 256),(bif ((wU7 (wT0 (((),()),wS8 p 256,wS8 (wS7 p 256).1 256,()) eP))!=0) then [] else wW3 (((),()),wS8 p 256,wS8 (wS7 p 256).1 256,()) eP),()),
   ((bif ((wU7 (wT0 (((),()),wS8 p 256,wS8 (wS7 p 256).1 256,()) eP))!=0) then wT0 (((),()),wS8 p 256,wS8 (wS7 p 256).1 256,()) eP else wT0 (((),()),wS8 p 256,wS8 (wS7 p 256).1 256,()) eP),())):=by
  rw[← fP,← hq,← hc];rfl
 have hRt:vQ8 r=(vB2 r,((bif ((wW7 (wU (wS8 p 256,wS8 (wS7 p 256).1 256,()) eR))!=0) then (0:Int) else (wT8 (wS8 p 256,wS8 (wS7 p 256).1 256,()) eR).1),(bif ((wW7 (wU (wS8 p 256,wS8 (wS7 p 256).1 256,()) eR))!=0) then (0:Int) else (wT8 (wS8 p 256,wS8 (wS7 p 256).1 256,()) eR).2.1),(bif ((wW7 (wU (wS8 p 256,wS8 (wS7 p 256).1 256,()) eR))!=0) then [] else (wT8 (wS8 p 256,wS8 (wS7 p 256).1 256,()) eR).2.2.1),()),
   ((bif ((wW7 (wU (wS8 p 256,wS8 (wS7 p 256).1 256,()) eR))!=0) then wU (wS8 p 256,wS8 (wS7 p 256).1 256,()) eR else wU (wS8 p 256,wS8 (wS7 p 256).1 256,()) eR),())):=by
  rw[← fR,← o37];simp only[vB2,vQ8,v37,f38o]
 have okP:vH5 p ((),()):=⟨a1,b1,fun _=>trivial,by
  show xQ1 _ _ _ ((bif (!(Ty.eqb .bool (wS8 p 256==0) (wS8 (wS7 p 256).1 256==0))) then (wV1 (wS7 (wS7 p 256).1 256).1 4).1 else (wS7 (wS7 p 256).1 256).1),[],());rw[hc,hq];exact nP,trivial⟩
 have okR:vB2 r:=by
  refine⟨⟨a2,b2,fun _=>trivial⟩,?_,trivial⟩;show xQ1 (wX2 ((wZ3 r).1,(wZ3 r).2.1,())) (wU4 ((wZ3 r).1,(wZ3 r).2.1,())) (wV3 ((wZ3 r).1,(wZ3 r).2.1,())) ((vI5 r).1,(0,0,[],()),((wZ3 r).1,(wZ3 r).2.1,[],()),());rw[o37,v37];exact nR
 refine⟨okP,okR,?_⟩;simp only[vW5,vP3,vU9,uI4,vY8,hP,uC3,vP4,hRt,z1,z2];by_cases he:(wT0 (((),()),wS8 p 256,wS8 (wS7 p 256).1 256,()) eP).2.2.2.1=0
 ·have hb:((wT0 (((),()),wS8 p 256,wS8 (wS7 p 256).1 256,()) eP).2.2.2.1 !=0)=false:=by simp[he]
  simp only[hb,cond_false,q6,q7,q8 he];exact⟨trivial,q5,by omega⟩
 ·have hb:((wT0 (((),()),wS8 p 256,wS8 (wS7 p 256).1 256,()) eP).2.2.2.1 !=0)=true:=by simp[he]
  simp only[hb,cond_true];exact⟨trivial,q5,by simp[len]⟩
end Go.Proofs.YtbiemgjkkhkdeaaGreatDoor.Am
