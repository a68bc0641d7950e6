/- Runs are read alike: the program's takeRuns is the reference's TakeImage and TakeMask. Condition: readers that were made. -/
import Derived.Test.YtbiemgjkkhkdeaaGreatDoorNatG
set_option linter.unusedVariables false
namespace Go.Proofs.YtbiemgjkkhkdeaaGreatDoor.Am
open Go Go.Am Go.Proofs
theorem f44o (p:D60):wZ3 p=(p,()):=rfl
theorem f38o (r:D71):vI4 r=(r,()):=rfl
theorem tN5 {α:Type}(v:α)(n:Nat){g:List α×Int×Unit→Bool}{next:List α×Int×Unit→List α×Int×Unit}{ok:List α×Int×Unit→Prop}(hn:n≤100000)
  (hg:∀ l i,g (l,i,())=decide (i<(n:Int))) (hx:∀ l i,next (l,i,())=(l++[v],i+1,())) (hok:∀ (l:List α) (i:Int),l.length≤1000000→0≤i→i≤1000000→ok (l,i,())) :
  ∀ (m i:Nat) (l:List α),i+m=n→l.length+m≤1000000→LT g next ok m (l,(i:Int),()) (l++List.replicate m v,(n:Int),()):=by
 intro m
 induction m with
 |zero =>
  intro i l hi hl;rw[List.replicate_zero,List.append_nil,show (i:Int)=(n:Int) by omega];exact .stop (hok _ _ (by omega) (by omega) (by omega)) (by rw[hg];exact decide_eq_false (by omega))
 |succ m ih =>
  intro i l hi hl;refine .step (hok _ _ (by omega) (by omega) (by omega)) (by rw[hg];exact decide_eq_true (by omega)) ?_;have:=ih (i+1) (l++[v]) (by omega) (by simp;omega);rw[hx,show (i:Int)+1=((i+1:Nat):Int) by omega];rw[List.append_assoc,List.singleton_append,← List.replicate_succ] at this;exact this
theorem tC4 {α:Type}(w h:Int)(v:α)(n:Nat){g:(Int×Int×List α×Unit)×Int×Unit→Bool}{next:(Int×Int×List α×Unit)×Int×Unit→(Int×Int×List α×Unit)×Int×Unit}{ok:(Int×Int×List α×Unit)×Int×Unit→Prop}(hn:n≤100000)
  (hg:∀ l i,g ((w,h,l,()),i,())=decide (i<(n:Int))) (hx:∀ l i,next ((w,h,l,()),i,())=((w,h,l++[v],()),i+1,())) (hok:∀ (l:List α) (i:Int),l.length≤1000000→0≤i→i≤1000000→ok ((w,h,l,()),i,())) :
  ∀ (m i:Nat) (l:List α),i+m=n→l.length+m≤1000000→LT g next ok m ((w,h,l,()),(i:Int),()) ((w,h,l++List.replicate m v,()),(n:Int),()):=by
 intro m
 induction m with
 |zero =>
  intro i l hi hl;rw[List.replicate_zero,List.append_nil,show (i:Int)=(n:Int) by omega];exact .stop (hok _ _ (by omega) (by omega) (by omega)) (by rw[hg];exact decide_eq_false (by omega))
 |succ m ih =>
  intro i l hi hl;refine .step (hok _ _ (by omega) (by omega) (by omega)) (by rw[hg];exact decide_eq_true (by omega)) ?_;have:=ih (i+1) (l++[v]) (by omega) (by simp;omega);rw[hx,show (i:Int)+1=((i+1:Nat):Int) by omega];rw[List.append_assoc,List.singleton_append,← List.replicate_succ] at this;exact this
def uN5 (p:D60):D45:=tR0 () p
def sO7 (p:D60):D60:=(uS4 () p).2.1
def vQ (r:D71):D71:=(wT7 r 65535).1
def tA4 (r:D71):D45:=(wU7 r 65535,wU7 (vQ r) 65535,wU7 (vQ (vQ r)) 65535,wU7 (vQ (vQ (vQ r))) 65535,())
def sD9 (r:D71):D71:=vQ (vQ (vQ (vQ r)))
def sU4 (r:D71):Prop:=wV1 r 65535∧wV1 (vQ r) 65535∧wV1 (vQ (vQ r)) 65535∧wV1 (vQ (vQ (vQ r))) 65535
theorem c65 {p:D60}{r:D71}(h:RR p r):wV p 65535∧wV1 r 65535∧wU7 r 65535=wT6 p 65535∧RR (wT3 p 65535).1 (vQ r):=by
 obtain⟨a1,a2,a3,a4,_⟩:=vH h 65535 (by decide);exact⟨a1,a2,a3,a4⟩
theorem sK7 {p:D60}{r:D71}(h:RR p r):uB7 () p∧sU4 r∧tA4 r=uN5 p∧RR (sO7 p) (sD9 r):=by
 obtain⟨a1,a2,a3,a4⟩:=c65 h;obtain⟨b1,b2,b3,b4⟩:=c65 a4;obtain⟨c1,c2,c3,c4⟩:=c65 b4;obtain⟨d1,d2,d3,d4⟩:=c65 c4;refine⟨⟨⟨by decide,by decide⟩,a1,⟨by decide,by decide⟩,b1,⟨by decide,by decide⟩,c1,⟨by decide,by decide⟩,d1⟩,⟨a2,b2,c2,d2⟩,?_,d4⟩;show (_,_,_,_,())=(_,_,_,_,());rw[a3,b3,c3,d3]
def uN6 (l:List D45)(p:D60):D60:=bif (bif decide (len l>0) then Ty.eqb T45 (nth l (len l-1) Z45) (uN5 p) else false) then (wW8 (sO7 p) 4).1 else sO7 p
def uJ2 (l:List D45)(r:D71):D71:=bif (bif decide (len l>0) then Ty.eqb T45 (nth l (len l-1) Z45) (tA4 r) else false) then (vC6 (sD9 r) 4).1 else sD9 r
theorem sO8 {p:D60}{r:D71}(h:RR p r)(l:List D45):RR (uN6 l p) (uJ2 l r):=by
 obtain⟨h1,h2,h3,h4⟩:=sK7 h;unfold uN6 uJ2;rw[h3];cases (bif decide (len l>0) then Ty.eqb T45 (nth l (len l-1) Z45) (uN5 p) else false) with
 |true=>exact (uP7 h4 4 (by decide)).2.2.1
 |false=>exact h4
theorem sH6 (r:D60)(w h:Int)(v:D45)(n:Nat)(l:List D45)(hn:n≤65536)(hl:l.length≤65536):LT (vO7 (r,((),()),w,h,v,(n:Int),())) (vF (r,((),()),w,h,v,(n:Int),())) (vK8 (r,((),()),w,h,v,(n:Int),())) n (l,0,()) (l++List.replicate n v,(n:Int),()):=
 tN5 v n (by omega) (fun _ _=>rfl) (fun _ _=>rfl) (fun l i h1 h2 h3 _=>⟨by show ((l.length+1:Nat):Int)≤4294967296;omega,inR (by show _≤i+1;omega) (by show i+1≤_;omega)⟩) n 0 l (by omega) (by omega)
theorem sE (r:D71)(a:Int×Int×List D45×Unit)(w h:Int)(v:D45)(n:Nat)(l:List D45)(hn:n≤65536)(hl:l.length≤65536):LT (vK1 (r,a,w,h,(n:Int),v,())) (vB3 (r,a,w,h,(n:Int),v,())) (vG9 (r,a,w,h,(n:Int),v,())) n ((w,h,l,()),0,()) ((w,h,l++List.replicate n v,()),(n:Int),()):=
 tC4 w h v n (by omega) (fun _ _=>rfl) (fun _ _=>rfl) (fun l i h1 h2 h3 _=>⟨by show ((l.length+1:Nat):Int)≤4294967296;omega,inR (by show _≤i+1;omega) (by show i+1≤_;omega)⟩) n 0 l (by omega) (by omega)
theorem sH7 {p:D60}{r:D71}{w h:Int}{l:List D45}(hR:RR p r)(he:p.2.2.2.1=0)(hl:len l<w*h)(hN:w*h≤65536) :
  ∃ n:Nat,l.length+n+1≤(w*h).toNat∧vB6 (((),()),w,h,()) (p,l,())∧wY7 (((),()),w,h,()) (p,l,())=((uN6 l (wT3 p (w*h-len l-1)).1).2.2.2.1==0) ∧
   wU2 (((),()),w,h,()) (p,l,())=uN6 l (wT3 p (w*h-len l-1)).1 ∧
   vA2 (((),()),w,h,()) (p,l,())=(uN6 l (wT3 p (w*h-len l-1)).1,l++List.replicate (n+1) (uN5 (wT3 p (w*h-len l-1)).1),()) ∧
   wZ5 (w,h,()) (r,(0,0,[],()),(w,h,l,()),())∧vC7 (w,h,()) (r,(0,0,[],()),(w,h,l,()),())=true ∧
   wY0 (w,h,()) (r,(0,0,[],()),(w,h,l,()),())=(uJ2 l (wT7 r (w*h-len l-1)).1,(0,0,[],()),(w,h,l++List.replicate (n+1) (uN5 (wT3 p (w*h-len l-1)).1),()),()) ∧
   RR (uN6 l (wT3 p (w*h-len l-1)).1) (uJ2 l (wT7 r (w*h-len l-1)).1):=by
 have hl0:=wN1 l;obtain⟨c1,c2,c3,c4,c5,c6⟩:=vH hR (w*h-len l-1) (by omega);obtain⟨v1,v2,v3,v4⟩:=sK7 c4;have hm:=sO8 c4 l;obtain⟨e1,e2⟩:=vX7 hR;obtain⟨m1,m2⟩:=vX7 hm;rw[he] at e1 e2;have k25:decide (len l<w*h)=true:=decide_eq_true hl;obtain⟨n,hn⟩:∃ n:Nat,wT6 p (w*h-len l-1)=(n:Int):=⟨(wT6 p (w*h-len l-1)).toNat,by omega⟩;rw[hn] at c3 c5;have hlen:len l=(l.length:Int):=rfl;have hfill:=fun q=>sH6 q w h (uN5 (wT3 p (w*h-len l-1)).1) (n+1) l (by omega) (by omega);have hfillR:=fun q=>sE q (0,0,[],()) w h (uN5 (wT3 p (w*h-len l-1)).1) (n+1) l (by omega) (by omega);have hn1:(n:Int)+1=((n+1:Nat):Int):=by omega
 have r1:InR (w*h):=inR (by omega) (by omega);have r2:InR (w*h-len l):=inR (by omega) (by omega);have r3:InR (w*h-len l-1):=inR (by omega) (by omega);have r4:InR ((n:Int)+1):=inR (by omega) (by omega);have r5:InR (len l-1):=inR (by omega) (by omega);have b1:decide (len l>0)=true→InB (len l-1) (len l):=fun h=>by have:=of_decide_eq_true h;exact⟨by omega,by omega⟩
 refine⟨n,by omega,?_,?_,?_,?_,?_,?_,?_,hm⟩
 ·refine⟨r1,fun _=>trivial,fun _=>?_⟩;simp only[k25,f44o,cond_true,hn];refine⟨r1,r2,r3,c1,v1,fun _=>r5,b1,fun _=>trivial,trivial,fun _=>⟨r4,?_⟩⟩;rw[hn1];exact (hfill _).ends (by omega)
 ·simp only[wY7,vM,k25,f44o,cond_true,e1];show (((0:Int)==0)&&(!(wW0 (uN6 l (wT3 p (w*h-len l-1)).1)!=0)))=_;rw[m1];simp[bne]
 ·simp only[wU2,k25,f44o,cond_true,e1];rfl
 ·simp only[vA2,vM,k25,f44o,cond_true,hn];show (uN6 l (wT3 p (w*h-len l-1)).1,(zC5 (vO7 (uN6 l (wT3 p (w*h-len l-1)).1,((),()),w,h,uN5 (wT3 p (w*h-len l-1)).1,(n:Int)+1,())) (vF (uN6 l (wT3 p (w*h-len l-1)).1,((),()),w,h,uN5 (wT3 p (w*h-len l-1)).1,(n:Int)+1,())) (l,0,())).1,())=_;rw[hn1,(hfill _).fix (by omega)]
 ·refine⟨trivial,fun _=>r1,fun _=>?_⟩;simp only[f38o,c3];refine⟨r1,r2,r3,c2,r4,v2.1,v2.2.1,v2.2.2.1,v2.2.2.2,fun _=>r5,b1,fun _=>trivial,?_⟩;show xQ5 (vK1 (uJ2 l (wT7 r (w*h-len l-1)).1,(0,0,[],()),w,h,(n:Int)+1,tA4 (wT7 r (w*h-len l-1)).1,())) (vB3 (uJ2 l (wT7 r (w*h-len l-1)).1,(0,0,[],()),w,h,(n:Int)+1,tA4 (wT7 r (w*h-len l-1)).1,())) (vG9 (uJ2 l (wT7 r (w*h-len l-1)).1,(0,0,[],()),w,h,(n:Int)+1,tA4 (wT7 r (w*h-len l-1)).1,())) ((w,h,l,()),0,());rw[hn1,v3];exact (hfillR _).ends (by omega)
 ·simp only[vC7,vS1,k25,e2];rfl
 ·simp only[wY0,vS1,f38o,c3];show (uJ2 l (wT7 r (w*h-len l-1)).1,(0,0,[],()),(zC5 (vK1 (uJ2 l (wT7 r (w*h-len l-1)).1,(0,0,[],()),w,h,(n:Int)+1,tA4 (wT7 r (w*h-len l-1)).1,())) (vB3 (uJ2 l (wT7 r (w*h-len l-1)).1,(0,0,[],()),w,h,(n:Int)+1,tA4 (wT7 r (w*h-len l-1)).1,())) ((w,h,l,()),0,())).1,())=_;rw[hn1,v3,(hfillR _).fix (by omega)]
theorem sH8 {w h:Int}(hN:w*h≤65536)(hN0:0≤w*h):∀ (m:Nat) (p:D60) (r:D71) (l:List D45),RR p r→w*h-len l≤m→len l≤w*h →
  ∃ (k1 k2:Nat) (eP:vA1) (eR:wY9),k1≤m∧k2≤m+1∧LT (wY7 (((),()),w,h,())) (vA2 (((),()),w,h,())) (vB6 (((),()),w,h,())) k1 (p,l,()) eP ∧
   LT (vC7 (w,h,())) (wY0 (w,h,())) (wZ5 (w,h,())) k2 (r,(0,0,[],()),(w,h,l,()),()) eR∧RR (wU2 (((),()),w,h,()) eP) (wW5 (w,h,()) eR) ∧
   (wV9 (w,h,()) eR).1=w∧(wV9 (w,h,()) eR).2.1=h∧((wU2 (((),()),w,h,()) eP).2.2.2.1=0→(wV9 (w,h,()) eR).2.2.1=vA3 (((),()),w,h,()) eP)∧len (vA3 (((),()),w,h,()) eP)≤w*h:=by
 have r1:InR (w*h):=inR (by omega) (by omega);have halt:∀ (m:Nat) (p:D60) (r:D71) (l:List D45),RR p r→len l≤w*h→(decide (len l<w*h)=false∨(decide (len l<w*h)=true∧p.2.2.2.1≠0)) →
  ∃ (k1 k2:Nat) (eP:vA1) (eR:wY9),k1≤m∧k2≤m+1∧LT (wY7 (((),()),w,h,())) (vA2 (((),()),w,h,())) (vB6 (((),()),w,h,())) k1 (p,l,()) eP ∧
   LT (vC7 (w,h,())) (wY0 (w,h,())) (wZ5 (w,h,())) k2 (r,(0,0,[],()),(w,h,l,()),()) eR∧RR (wU2 (((),()),w,h,()) eP) (wW5 (w,h,()) eR) ∧
   (wV9 (w,h,()) eR).1=w∧(wV9 (w,h,()) eR).2.1=h∧((wU2 (((),()),w,h,()) eP).2.2.2.1=0→(wV9 (w,h,()) eR).2.2.1=vA3 (((),()),w,h,()) eP)∧len (vA3 (((),()),w,h,()) eP)≤w*h:=by
  intro m p r l hR hll hor;obtain⟨e1,e2⟩:=vX7 hR;have g30:(bif decide (len l<w*h) then (wW0 p==0) else false)=false:=by
   rcases hor with h|⟨h,h'⟩
   ·rw[h];rfl
   ·rw[h,e1];simpa using h'
  have g28:(bif (wZ1 r==0) then decide (len l<w*h) else false)=false:=by
   rcases hor with h|⟨h,h'⟩
   ·rw[h];cases (wZ1 r==0)<;>rfl
   ·have:(wZ1 r==0)=false:=by rw[e2];simpa using h'
    rw[this];rfl
  have gP:wY7 (((),()),w,h,()) (p,l,())=false:=by
   simp only[wY7,vM,g30];rfl
  have gR:vC7 (w,h,()) (r,(0,0,[],()),(w,h,l,()),())=false:=g28;have oP:vB6 (((),()),w,h,()) (p,l,()):=⟨r1,fun _=>trivial,fun h30=>by
   have h30:(bif decide (len l<w*h) then (wW0 p==0) else false)=true:=h30;rw[g30] at h30;cases h30⟩
  have oR:wZ5 (w,h,()) (r,(0,0,[],()),(w,h,l,()),()):=⟨trivial,fun _=>r1,fun h28=>by
   have h28:(bif (wZ1 r==0) then decide (len l<w*h) else false)=true:=h28;rw[g28] at h28;cases h28⟩
  have xP:wU2 (((),()),w,h,()) (p,l,())=p:=by
   simp only[wU2,g30,f44o,Bool.not_false,cond_true];cases decide (len l<w*h)<;>rfl
  refine⟨0,0,(p,l,()),(r,(0,0,[],()),(w,h,l,()),()),Nat.zero_le _,Nat.zero_le _,.stop oP gP,.stop oR gR,?_,rfl,rfl,fun _=>rfl,hll⟩;rw[xP];exact hR
 intro m
 induction m with
 |zero=>intro p r l hR h1 h2;exact halt 0 p r l hR h2 (.inl (decide_eq_false (by omega)))
 |succ m ih =>
  intro p r l hR h1 h2;by_cases hl:len l<w*h
  ·by_cases he:p.2.2.2.1=0
   ·obtain⟨n,s1,s2,s3,s4,s5,s6,s7,s8,s9⟩:=sH7 hR he hl hN;by_cases hm:(uN6 l (wT3 p (w*h-len l-1)).1).2.2.2.1=0
    ·obtain⟨k1,k2,eP,eR,q1,q2,q3,q4,q5⟩:=ih _ _ (l++List.replicate (n+1) (uN5 (wT3 p (w*h-len l-1)).1)) s9 (by simp only[len,List.length_append,List.length_replicate] at h1 ⊢;omega) (by simp only[len,List.length_append,List.length_replicate];omega);rw[← s5] at q3;rw[← s8] at q4;exact⟨k1+1,k2+1,eP,eR,by omega,by omega,.step s2 (by rw[s3,hm];rfl) q3,.step s6 s7 q4,q5⟩
    ·obtain⟨k1,k2,eP,eR,q1,q2,q3,q4,q5⟩:=halt 0 _ _ (l++List.replicate (n+1) (uN5 (wT3 p (w*h-len l-1)).1)) s9 (by simp only[len,List.length_append,List.length_replicate];omega) (by
      cases hb:decide (len (l++List.replicate (n+1) (uN5 (wT3 p (w*h-len l-1)).1))<w*h) with
      |true=>exact .inr ⟨rfl,hm⟩
      |false=>exact .inl rfl)
     have hg:wY7 (((),()),w,h,()) (p,l,())=false:=by rw[s3];simpa using hm
     rw[← s8] at q4;have hk1:k1=0:=by omega
     subst hk1;have he1:eP=(uN6 l (wT3 p (w*h-len l-1)).1,l++List.replicate (n+1) (uN5 (wT3 p (w*h-len l-1)).1),()):=by cases q3;rfl
     have hx0:wU2 (((),()),w,h,()) eP=uN6 l (wT3 p (w*h-len l-1)).1:=by
      have hge:wY7 (((),()),w,h,()) eP=false:=by cases q3;assumption
      obtain⟨z1,_⟩:=vX7 s9;rw[he1];have z2:(wW0 (uN6 l (wT3 p (w*h-len l-1)).1)==0)=false:=by rw[z1];simpa using hm
      simp only[wU2,f44o,z2];cases decide (len (l++List.replicate (n+1) (uN5 (wT3 p (w*h-len l-1)).1))<w*h)<;>rfl
     refine⟨0,k2+1,(p,l,()),eR,Nat.zero_le _,by omega,.stop s2 hg,.step s6 s7 q4,?_,q5.2.1,q5.2.2.1,fun h0=>?_,h2⟩
     ·rw[s4,← hx0];exact q5.1
     ·rw[s4] at h0;exact absurd h0 hm
   ·exact halt _ p r l hR h2 (.inr ⟨decide_eq_true hl,he⟩)
  ·exact halt _ p r l hR h2 (.inl (decide_eq_false hl))
theorem sH9 {p:D60}{r:D71}(hR:RR p r):vC9 p∧vG0 r∧uY8 r=vT1 p∧RR (vB1 p).1 (uN0 r).1∧len (vT1 p).2.2.1≤65536:=by
 obtain⟨a1,a2,a3,a4,a5,a6⟩:=vH hR 256 (by decide);obtain⟨b1,b2,b3,b4,b5,b6⟩:=vH a4 256 (by decide);have hw:=uE8 (w:=wT6 p 256) (h:=wT6 (wT3 p 256).1 256) (by omega) (by omega) (by omega) (by omega);generalize hc:(!(Ty.eqb .bool (wT6 p 256==0) (wT6 (wT3 p 256).1 256==0)))=c;generalize hq:(bif c then (wW8 (wT3 (wT3 p 256).1 256).1 4).1 else (wT3 (wT3 p 256).1 256).1)=q;generalize hq':(bif c then (vC6 (wT7 (wT7 r 256).1 256).1 4).1 else (wT7 (wT7 r 256).1 256).1)=q';have hqr:RR q q':=by
  rw[← hq,← hq'];cases c with
  |true=>exact (uP7 b4 4 (by decide)).2.2.1
  |false=>exact b4
 obtain⟨k1,k2,eP,eR,q1,q2,q3,q4,q5,q6,q7,q8,q9⟩:=sH8 hw.2 hw.1 (wT6 p 256*wT6 (wT3 p 256).1 256).toNat q q' [] hqr (by simp only[len,List.length_nil];omega) (by simp only[len,List.length_nil];omega);have fP:=q3.fix (by omega);have fR:=q4.fix (by omega);have nP:=q3.ends (by omega);have nR:=q4.ends (by omega);have v37:vI1 r=(wT6 p 256,wT6 (wT3 p 256).1 256,()):=by
  show (wU7 r 256,wU7 (wT7 r 256).1 256,())=_;rw[a3,b3]
 have o37:(vZ6 r).1=q':=by
  show (bif (!(Ty.eqb .bool (wU7 r 256==0) (wU7 (wT7 r 256).1 256==0))) then (vC6 (wT7 (wT7 r 256).1 256).1 4).1 else (wT7 (wT7 r 256).1 256).1)=q';rw[a3,b3,hc,hq']
 obtain⟨z1,z2⟩:=vX7 q5;have hP:uU9 p ((),())=(vW3 p ((),()),((bif ((wW0 (wU2 (((),()),wT6 p 256,wT6 (wT3 p 256).1 256,()) eP))!=0) then (0:Int) else wT6 p 256),(bif ((wW0 (wU2 (((),()),wT6 p 256,wT6 (wT3 p 256).1 256,()) eP))!=0) then (0:Int) else wT6 (wT3 p 256).1 256),(bif ((wW0 (wU2 (((),()),wT6 p 256,wT6 (wT3 p 256).1 256,()) eP))!=0) then [] else vA3 (((),()),wT6 p 256,wT6 (wT3 p 256).1 256,()) eP),()),
   ((bif ((wW0 (wU2 (((),()),wT6 p 256,wT6 (wT3 p 256).1 256,()) eP))!=0) then wU2 (((),()),wT6 p 256,wT6 (wT3 p 256).1 256,()) eP else wU2 (((),()),wT6 p 256,wT6 (wT3 p 256).1 256,()) eP),())):=by
  rw[← fP,← hq,← hc];rfl
 have hRt:uP0 r=(vG0 r,((bif ((wZ1 (wW5 (wT6 p 256,wT6 (wT3 p 256).1 256,()) eR))!=0) then (0:Int) else (wV9 (wT6 p 256,wT6 (wT3 p 256).1 256,()) eR).1),(bif ((wZ1 (wW5 (wT6 p 256,wT6 (wT3 p 256).1 256,()) eR))!=0) then (0:Int) else (wV9 (wT6 p 256,wT6 (wT3 p 256).1 256,()) eR).2.1),(bif ((wZ1 (wW5 (wT6 p 256,wT6 (wT3 p 256).1 256,()) eR))!=0) then [] else (wV9 (wT6 p 256,wT6 (wT3 p 256).1 256,()) eR).2.2.1),()),
   ((bif ((wZ1 (wW5 (wT6 p 256,wT6 (wT3 p 256).1 256,()) eR))!=0) then wW5 (wT6 p 256,wT6 (wT3 p 256).1 256,()) eR else wW5 (wT6 p 256,wT6 (wT3 p 256).1 256,()) eR),())):=by
  rw[← fR,← o37];simp only[vG0,uP0,v37,f38o]
 have okP:vW3 p ((),()):=⟨a1,b1,fun _=>trivial,by
  show xQ5 _ _ _ ((bif (!(Ty.eqb .bool (wT6 p 256==0) (wT6 (wT3 p 256).1 256==0))) then (wW8 (wT3 (wT3 p 256).1 256).1 4).1 else (wT3 (wT3 p 256).1 256).1),[],());rw[hc,hq];exact nP,trivial⟩
 have okR:vG0 r:=by
  refine⟨⟨a2,b2,fun _=>trivial⟩,?_,trivial⟩;show xQ5 (vC7 ((vI1 r).1,(vI1 r).2.1,())) (wY0 ((vI1 r).1,(vI1 r).2.1,())) (wZ5 ((vI1 r).1,(vI1 r).2.1,())) ((vZ6 r).1,(0,0,[],()),((vI1 r).1,(vI1 r).2.1,[],()),());rw[o37,v37];exact nR
 refine⟨okP,okR,?_⟩;simp only[vT1,vB1,uV,tX9,tE0,hP,uY8,uN0,hRt,z1,z2];by_cases he:(wU2 (((),()),wT6 p 256,wT6 (wT3 p 256).1 256,()) eP).2.2.2.1=0
 ·have hb:((wU2 (((),()),wT6 p 256,wT6 (wT3 p 256).1 256,()) eP).2.2.2.1 !=0)=false:=by simp[he]
  simp only[hb,cond_false,q6,q7,q8 he];exact⟨trivial,q5,by omega⟩
 ·have hb:((wU2 (((),()),wT6 p 256,wT6 (wT3 p 256).1 256,()) eP).2.2.2.1 !=0)=true:=by simp[he]
  simp only[hb,cond_true];exact⟨trivial,q5,by simp[len]⟩
def uN7 (p:D60):Int:=tR1 () p
def sO9 (p:D60):D60:=(uS5 () p).2.1
def tA5 (r:D71):Int:=wU7 r 65535
def sE0 (r:D71):D71:=(wT7 r 65535).1
theorem sK8 {p:D60}{r:D71}(h:RR p r):uB9 () p∧wV1 r 65535∧tA5 r=uN7 p∧RR (sO9 p) (sE0 r):=by
 obtain⟨a1,a2,a3,a4,_⟩:=vH h 65535 (by decide);exact⟨a1,a2,a3,a4⟩
def uN8 (l:List Int)(p:D60):D60:=bif (bif decide (len l>0) then BEq.beq (nth l (len l-1) 0) (uN7 p) else false) then (wW8 (sO9 p) 4).1 else sO9 p
def uJ3 (l:List Int)(r:D71):D71:=bif (bif decide (len l>0) then BEq.beq (nth l (len l-1) 0) (tA5 r) else false) then (vC6 (sE0 r) 4).1 else sE0 r
theorem sP {p:D60}{r:D71}(h:RR p r)(l:List Int):RR (uN8 l p) (uJ3 l r):=by
 obtain⟨h1,h2,h3,h4⟩:=sK8 h;unfold uN8 uJ3;rw[h3];cases (bif decide (len l>0) then BEq.beq (nth l (len l-1) 0) (uN7 p) else false) with
 |true=>exact (uP7 h4 4 (by decide)).2.2.1
 |false=>exact h4
theorem sI (r:D60)(w h:Int)(v:Int)(n:Nat)(l:List Int)(hn:n≤65536)(hl:l.length≤65536):LT (vO9 (r,((),()),w,h,v,(n:Int),())) (vF1 (r,((),()),w,h,v,(n:Int),())) (vK9 (r,((),()),w,h,v,(n:Int),())) n (l,0,()) (l++List.replicate n v,(n:Int),()):=
 tN5 v n (by omega) (fun _ _=>rfl) (fun _ _=>rfl) (fun l i h1 h2 h3 _=>⟨by show ((l.length+1:Nat):Int)≤4294967296;omega,inR (by show _≤i+1;omega) (by show i+1≤_;omega)⟩) n 0 l (by omega) (by omega)
theorem sE1 (r:D71)(a:Int×Int×List Int×Unit)(w h:Int)(v:Int)(n:Nat)(l:List Int)(hn:n≤65536)(hl:l.length≤65536):LT (vN0 (r,a,w,h,(n:Int),v,())) (vD6 (r,a,w,h,(n:Int),v,())) (vK2 (r,a,w,h,(n:Int),v,())) n ((w,h,l,()),0,()) ((w,h,l++List.replicate n v,()),(n:Int),()):=
 tC4 w h v n (by omega) (fun _ _=>rfl) (fun _ _=>rfl) (fun l i h1 h2 h3 _=>⟨by show ((l.length+1:Nat):Int)≤4294967296;omega,inR (by show _≤i+1;omega) (by show i+1≤_;omega)⟩) n 0 l (by omega) (by omega)
theorem sI0 {p:D60}{r:D71}{w h:Int}{l:List Int}(hR:RR p r)(he:p.2.2.2.1=0)(hl:len l<w*h)(hN:w*h≤65536) :
  ∃ n:Nat,l.length+n+1≤(w*h).toNat∧vB7 (((),()),w,h,()) (p,l,())∧wY8 (((),()),w,h,()) (p,l,())=((uN8 l (wT3 p (w*h-len l-1)).1).2.2.2.1==0) ∧
   wU3 (((),()),w,h,()) (p,l,())=uN8 l (wT3 p (w*h-len l-1)).1 ∧
   vA5 (((),()),w,h,()) (p,l,())=(uN8 l (wT3 p (w*h-len l-1)).1,l++List.replicate (n+1) (uN7 (wT3 p (w*h-len l-1)).1),()) ∧
   wZ6 (w,h,()) (r,(0,0,[],()),(w,h,l,()),())∧vC8 (w,h,()) (r,(0,0,[],()),(w,h,l,()),())=true ∧
   wY1 (w,h,()) (r,(0,0,[],()),(w,h,l,()),())=(uJ3 l (wT7 r (w*h-len l-1)).1,(0,0,[],()),(w,h,l++List.replicate (n+1) (uN7 (wT3 p (w*h-len l-1)).1),()),()) ∧
   RR (uN8 l (wT3 p (w*h-len l-1)).1) (uJ3 l (wT7 r (w*h-len l-1)).1):=by
 have hl0:=wN1 l;obtain⟨c1,c2,c3,c4,c5,c6⟩:=vH hR (w*h-len l-1) (by omega);obtain⟨v1,v2,v3,v4⟩:=sK8 c4;have hm:=sP c4 l;obtain⟨e1,e2⟩:=vX7 hR;obtain⟨m1,m2⟩:=vX7 hm;rw[he] at e1 e2;have k25:decide (len l<w*h)=true:=decide_eq_true hl;obtain⟨n,hn⟩:∃ n:Nat,wT6 p (w*h-len l-1)=(n:Int):=⟨(wT6 p (w*h-len l-1)).toNat,by omega⟩;rw[hn] at c3 c5;have hlen:len l=(l.length:Int):=rfl;have hfill:=fun q=>sI q w h (uN7 (wT3 p (w*h-len l-1)).1) (n+1) l (by omega) (by omega);have hfillR:=fun q=>sE1 q (0,0,[],()) w h (uN7 (wT3 p (w*h-len l-1)).1) (n+1) l (by omega) (by omega);have hn1:(n:Int)+1=((n+1:Nat):Int):=by omega
 have r1:InR (w*h):=inR (by omega) (by omega);have r2:InR (w*h-len l):=inR (by omega) (by omega);have r3:InR (w*h-len l-1):=inR (by omega) (by omega);have r4:InR ((n:Int)+1):=inR (by omega) (by omega);have r5:InR (len l-1):=inR (by omega) (by omega);have b1:decide (len l>0)=true→InB (len l-1) (len l):=fun h=>by have:=of_decide_eq_true h;exact⟨by omega,by omega⟩
 refine⟨n,by omega,?_,?_,?_,?_,?_,?_,?_,hm⟩
 ·refine⟨r1,fun _=>trivial,fun _=>?_⟩;simp only[k25,f44o,cond_true,hn];refine⟨r1,r2,r3,c1,v1,fun _=>r5,b1,fun _=>trivial,trivial,fun _=>⟨r4,?_⟩⟩;rw[hn1];exact (hfill _).ends (by omega)
 ·simp only[wY8,vM1,k25,f44o,cond_true,e1];show (((0:Int)==0)&&(!(wW0 (uN8 l (wT3 p (w*h-len l-1)).1)!=0)))=_;rw[m1];simp[bne]
 ·simp only[wU3,k25,f44o,cond_true,e1];rfl
 ·simp only[vA5,vM1,k25,f44o,cond_true,hn];show (uN8 l (wT3 p (w*h-len l-1)).1,(zC5 (vO9 (uN8 l (wT3 p (w*h-len l-1)).1,((),()),w,h,uN7 (wT3 p (w*h-len l-1)).1,(n:Int)+1,())) (vF1 (uN8 l (wT3 p (w*h-len l-1)).1,((),()),w,h,uN7 (wT3 p (w*h-len l-1)).1,(n:Int)+1,())) (l,0,())).1,())=_;rw[hn1,(hfill _).fix (by omega)]
 ·refine⟨trivial,fun _=>r1,fun _=>?_⟩;simp only[f38o,c3];refine⟨r1,r2,r3,c2,r4,v2,fun _=>r5,b1,fun _=>trivial,?_⟩;show xQ5 (vN0 (uJ3 l (wT7 r (w*h-len l-1)).1,(0,0,[],()),w,h,(n:Int)+1,tA5 (wT7 r (w*h-len l-1)).1,())) (vD6 (uJ3 l (wT7 r (w*h-len l-1)).1,(0,0,[],()),w,h,(n:Int)+1,tA5 (wT7 r (w*h-len l-1)).1,())) (vK2 (uJ3 l (wT7 r (w*h-len l-1)).1,(0,0,[],()),w,h,(n:Int)+1,tA5 (wT7 r (w*h-len l-1)).1,())) ((w,h,l,()),0,());rw[hn1,v3];exact (hfillR _).ends (by omega)
 ·simp only[vC8,vS2,k25,e2];rfl
 ·simp only[wY1,vS2,f38o,c3];show (uJ3 l (wT7 r (w*h-len l-1)).1,(0,0,[],()),(zC5 (vN0 (uJ3 l (wT7 r (w*h-len l-1)).1,(0,0,[],()),w,h,(n:Int)+1,tA5 (wT7 r (w*h-len l-1)).1,())) (vD6 (uJ3 l (wT7 r (w*h-len l-1)).1,(0,0,[],()),w,h,(n:Int)+1,tA5 (wT7 r (w*h-len l-1)).1,())) ((w,h,l,()),0,())).1,())=_;rw[hn1,v3,(hfillR _).fix (by omega)]
theorem sI1 {w h:Int}(hN:w*h≤65536)(hN0:0≤w*h):∀ (m:Nat) (p:D60) (r:D71) (l:List Int),RR p r→w*h-len l≤m→len l≤w*h →
  ∃ (k1 k2:Nat) (eP:vA4) (eR:wZ),k1≤m∧k2≤m+1∧LT (wY8 (((),()),w,h,())) (vA5 (((),()),w,h,())) (vB7 (((),()),w,h,())) k1 (p,l,()) eP ∧
   LT (vC8 (w,h,())) (wY1 (w,h,())) (wZ6 (w,h,())) k2 (r,(0,0,[],()),(w,h,l,()),()) eR∧RR (wU3 (((),()),w,h,()) eP) (wW6 (w,h,()) eR) ∧
   (wW (w,h,()) eR).1=w∧(wW (w,h,()) eR).2.1=h∧((wU3 (((),()),w,h,()) eP).2.2.2.1=0→(wW (w,h,()) eR).2.2.1=vA6 (((),()),w,h,()) eP)∧len (vA6 (((),()),w,h,()) eP)≤w*h:=by
 have r1:InR (w*h):=inR (by omega) (by omega);have halt:∀ (m:Nat) (p:D60) (r:D71) (l:List Int),RR p r→len l≤w*h→(decide (len l<w*h)=false∨(decide (len l<w*h)=true∧p.2.2.2.1≠0)) →
  ∃ (k1 k2:Nat) (eP:vA4) (eR:wZ),k1≤m∧k2≤m+1∧LT (wY8 (((),()),w,h,())) (vA5 (((),()),w,h,())) (vB7 (((),()),w,h,())) k1 (p,l,()) eP ∧
   LT (vC8 (w,h,())) (wY1 (w,h,())) (wZ6 (w,h,())) k2 (r,(0,0,[],()),(w,h,l,()),()) eR∧RR (wU3 (((),()),w,h,()) eP) (wW6 (w,h,()) eR) ∧
   (wW (w,h,()) eR).1=w∧(wW (w,h,()) eR).2.1=h∧((wU3 (((),()),w,h,()) eP).2.2.2.1=0→(wW (w,h,()) eR).2.2.1=vA6 (((),()),w,h,()) eP)∧len (vA6 (((),()),w,h,()) eP)≤w*h:=by
  intro m p r l hR hll hor;obtain⟨e1,e2⟩:=vX7 hR;have g30:(bif decide (len l<w*h) then (wW0 p==0) else false)=false:=by
   rcases hor with h|⟨h,h'⟩
   ·rw[h];rfl
   ·rw[h,e1];simpa using h'
  have g28:(bif (wZ1 r==0) then decide (len l<w*h) else false)=false:=by
   rcases hor with h|⟨h,h'⟩
   ·rw[h];cases (wZ1 r==0)<;>rfl
   ·have:(wZ1 r==0)=false:=by rw[e2];simpa using h'
    rw[this];rfl
  have gP:wY8 (((),()),w,h,()) (p,l,())=false:=by
   simp only[wY8,vM1,g30];rfl
  have gR:vC8 (w,h,()) (r,(0,0,[],()),(w,h,l,()),())=false:=g28;have oP:vB7 (((),()),w,h,()) (p,l,()):=⟨r1,fun _=>trivial,fun h30=>by
   have h30:(bif decide (len l<w*h) then (wW0 p==0) else false)=true:=h30;rw[g30] at h30;cases h30⟩
  have oR:wZ6 (w,h,()) (r,(0,0,[],()),(w,h,l,()),()):=⟨trivial,fun _=>r1,fun h28=>by
   have h28:(bif (wZ1 r==0) then decide (len l<w*h) else false)=true:=h28;rw[g28] at h28;cases h28⟩
  have xP:wU3 (((),()),w,h,()) (p,l,())=p:=by
   simp only[wU3,g30,f44o,Bool.not_false,cond_true];cases decide (len l<w*h)<;>rfl
  refine⟨0,0,(p,l,()),(r,(0,0,[],()),(w,h,l,()),()),Nat.zero_le _,Nat.zero_le _,.stop oP gP,.stop oR gR,?_,rfl,rfl,fun _=>rfl,hll⟩;rw[xP];exact hR
 intro m
 induction m with
 |zero=>intro p r l hR h1 h2;exact halt 0 p r l hR h2 (.inl (decide_eq_false (by omega)))
 |succ m ih =>
  intro p r l hR h1 h2;by_cases hl:len l<w*h
  ·by_cases he:p.2.2.2.1=0
   ·obtain⟨n,s1,s2,s3,s4,s5,s6,s7,s8,s9⟩:=sI0 hR he hl hN;by_cases hm:(uN8 l (wT3 p (w*h-len l-1)).1).2.2.2.1=0
    ·obtain⟨k1,k2,eP,eR,q1,q2,q3,q4,q5⟩:=ih _ _ (l++List.replicate (n+1) (uN7 (wT3 p (w*h-len l-1)).1)) s9 (by simp only[len,List.length_append,List.length_replicate] at h1 ⊢;omega) (by simp only[len,List.length_append,List.length_replicate];omega);rw[← s5] at q3;rw[← s8] at q4;exact⟨k1+1,k2+1,eP,eR,by omega,by omega,.step s2 (by rw[s3,hm];rfl) q3,.step s6 s7 q4,q5⟩
    ·obtain⟨k1,k2,eP,eR,q1,q2,q3,q4,q5⟩:=halt 0 _ _ (l++List.replicate (n+1) (uN7 (wT3 p (w*h-len l-1)).1)) s9 (by simp only[len,List.length_append,List.length_replicate];omega) (by
      cases hb:decide (len (l++List.replicate (n+1) (uN7 (wT3 p (w*h-len l-1)).1))<w*h) with
      |true=>exact .inr ⟨rfl,hm⟩
      |false=>exact .inl rfl)
     have hg:wY8 (((),()),w,h,()) (p,l,())=false:=by rw[s3];simpa using hm
     rw[← s8] at q4;have hk1:k1=0:=by omega
     subst hk1;have he1:eP=(uN8 l (wT3 p (w*h-len l-1)).1,l++List.replicate (n+1) (uN7 (wT3 p (w*h-len l-1)).1),()):=by cases q3;rfl
     have hx0:wU3 (((),()),w,h,()) eP=uN8 l (wT3 p (w*h-len l-1)).1:=by
      have hge:wY8 (((),()),w,h,()) eP=false:=by cases q3;assumption
      obtain⟨z1,_⟩:=vX7 s9;rw[he1];have z2:(wW0 (uN8 l (wT3 p (w*h-len l-1)).1)==0)=false:=by rw[z1];simpa using hm
      simp only[wU3,f44o,z2];cases decide (len (l++List.replicate (n+1) (uN7 (wT3 p (w*h-len l-1)).1))<w*h)<;>rfl
     refine⟨0,k2+1,(p,l,()),eR,Nat.zero_le _,by omega,.stop s2 hg,.step s6 s7 q4,?_,q5.2.1,q5.2.2.1,fun h0=>?_,h2⟩
     ·rw[s4,← hx0];exact q5.1
     ·rw[s4] at h0;exact absurd h0 hm
   ·exact halt _ p r l hR h2 (.inr ⟨decide_eq_true hl,he⟩)
  ·exact halt _ p r l hR h2 (.inl (decide_eq_false hl))
theorem sI2 {p:D60}{r:D71}(hR:RR p r):vD p∧vG1 r∧uY9 r=vP0 p∧RR (wZ0 p).1 (uN1 r).1∧len (vP0 p).2.2.1≤65536:=by
 obtain⟨a1,a2,a3,a4,a5,a6⟩:=vH hR 256 (by decide);obtain⟨b1,b2,b3,b4,b5,b6⟩:=vH a4 256 (by decide);have hw:=uE8 (w:=wT6 p 256) (h:=wT6 (wT3 p 256).1 256) (by omega) (by omega) (by omega) (by omega);generalize hc:(!(Ty.eqb .bool (wT6 p 256==0) (wT6 (wT3 p 256).1 256==0)))=c;generalize hq:(bif c then (wW8 (wT3 (wT3 p 256).1 256).1 4).1 else (wT3 (wT3 p 256).1 256).1)=q;generalize hq':(bif c then (vC6 (wT7 (wT7 r 256).1 256).1 4).1 else (wT7 (wT7 r 256).1 256).1)=q';have hqr:RR q q':=by
  rw[← hq,← hq'];cases c with
  |true=>exact (uP7 b4 4 (by decide)).2.2.1
  |false=>exact b4
 obtain⟨k1,k2,eP,eR,q1,q2,q3,q4,q5,q6,q7,q8,q9⟩:=sI1 hw.2 hw.1 (wT6 p 256*wT6 (wT3 p 256).1 256).toNat q q' [] hqr (by simp only[len,List.length_nil];omega) (by simp only[len,List.length_nil];omega);have fP:=q3.fix (by omega);have fR:=q4.fix (by omega);have nP:=q3.ends (by omega);have nR:=q4.ends (by omega);have v37:vI1 r=(wT6 p 256,wT6 (wT3 p 256).1 256,()):=by
  show (wU7 r 256,wU7 (wT7 r 256).1 256,())=_;rw[a3,b3]
 have o37:(vZ6 r).1=q':=by
  show (bif (!(Ty.eqb .bool (wU7 r 256==0) (wU7 (wT7 r 256).1 256==0))) then (vC6 (wT7 (wT7 r 256).1 256).1 4).1 else (wT7 (wT7 r 256).1 256).1)=q';rw[a3,b3,hc,hq']
 obtain⟨z1,z2⟩:=vX7 q5;have hP:uV2 p ((),())=(vW4 p ((),()),((bif ((wW0 (wU3 (((),()),wT6 p 256,wT6 (wT3 p 256).1 256,()) eP))!=0) then (0:Int) else wT6 p 256),(bif ((wW0 (wU3 (((),()),wT6 p 256,wT6 (wT3 p 256).1 256,()) eP))!=0) then (0:Int) else wT6 (wT3 p 256).1 256),(bif ((wW0 (wU3 (((),()),wT6 p 256,wT6 (wT3 p 256).1 256,()) eP))!=0) then [] else vA6 (((),()),wT6 p 256,wT6 (wT3 p 256).1 256,()) eP),()),
   ((bif ((wW0 (wU3 (((),()),wT6 p 256,wT6 (wT3 p 256).1 256,()) eP))!=0) then wU3 (((),()),wT6 p 256,wT6 (wT3 p 256).1 256,()) eP else wU3 (((),()),wT6 p 256,wT6 (wT3 p 256).1 256,()) eP),())):=by
  rw[← fP,← hq,← hc];rfl
 have hRt:uP1 r=(vG1 r,((bif ((wZ1 (wW6 (wT6 p 256,wT6 (wT3 p 256).1 256,()) eR))!=0) then (0:Int) else (wW (wT6 p 256,wT6 (wT3 p 256).1 256,()) eR).1),(bif ((wZ1 (wW6 (wT6 p 256,wT6 (wT3 p 256).1 256,()) eR))!=0) then (0:Int) else (wW (wT6 p 256,wT6 (wT3 p 256).1 256,()) eR).2.1),(bif ((wZ1 (wW6 (wT6 p 256,wT6 (wT3 p 256).1 256,()) eR))!=0) then [] else (wW (wT6 p 256,wT6 (wT3 p 256).1 256,()) eR).2.2.1),()),
   ((bif ((wZ1 (wW6 (wT6 p 256,wT6 (wT3 p 256).1 256,()) eR))!=0) then wW6 (wT6 p 256,wT6 (wT3 p 256).1 256,()) eR else wW6 (wT6 p 256,wT6 (wT3 p 256).1 256,()) eR),())):=by
  rw[← fR,← o37];simp only[vG1,uP1,v37,f38o]
 have okP:vW4 p ((),()):=⟨a1,b1,fun _=>trivial,by
  show xQ5 _ _ _ ((bif (!(Ty.eqb .bool (wT6 p 256==0) (wT6 (wT3 p 256).1 256==0))) then (wW8 (wT3 (wT3 p 256).1 256).1 4).1 else (wT3 (wT3 p 256).1 256).1),[],());rw[hc,hq];exact nP,trivial⟩
 have okR:vG1 r:=by
  refine⟨⟨a2,b2,fun _=>trivial⟩,?_,trivial⟩;show xQ5 (vC8 ((vI1 r).1,(vI1 r).2.1,())) (wY1 ((vI1 r).1,(vI1 r).2.1,())) (wZ6 ((vI1 r).1,(vI1 r).2.1,())) ((vZ6 r).1,(0,0,[],()),((vI1 r).1,(vI1 r).2.1,[],()),());rw[o37,v37];exact nR
 refine⟨okP,okR,?_⟩;simp only[vP0,wZ0,uV3,tY1,tE2,hP,uY9,uN1,hRt,z1,z2];by_cases he:(wU3 (((),()),wT6 p 256,wT6 (wT3 p 256).1 256,()) eP).2.2.2.1=0
 ·have hb:((wU3 (((),()),wT6 p 256,wT6 (wT3 p 256).1 256,()) eP).2.2.2.1 !=0)=false:=by simp[he]
  simp only[hb,cond_false,q6,q7,q8 he];exact⟨trivial,q5,by omega⟩
 ·have hb:((wU3 (((),()),wT6 p 256,wT6 (wT3 p 256).1 256,()) eP).2.2.2.1 !=0)=true:=by simp[he]
  simp only[hb,cond_true];exact⟨trivial,q5,by simp[len]⟩
end Go.Proofs.YtbiemgjkkhkdeaaGreatDoor.Am
