/- Readers: lists of numbers are read alike. Condition: readers that were made. -/
import Derived.Test.YtbiemgjkkhkdeaaGreatDoorNatR
set_option linter.unusedVariables false
namespace Go.Proofs.YtbiemgjkkhkdeaaGreatDoor.Am
open Go Go.Am Go.Proofs
theorem f84o (p:D60):vN5 p=(p,()):=rfl
theorem f86o (r:D71):vK6 r=(r,()):=rfl
theorem tV9 (n:Nat)(hn:n≤100000):∀ (m i:Nat) (p:D60) (r:D71) (l:List Int),RR p r→p.2.2.2.1=0→i+m=n→l.length=i →
  ∃ (k1 k2:Nat) (eP:wW9) (eR:vB0),k1≤m∧k2≤m∧LT (wX4 ((n:Int),())) (wX8 ((n:Int),())) (vF7 ((n:Int),())) k1 (p,l,(i:Int),()) eP ∧
   LT (wW2 ((n:Int),())) (wX ((n:Int),())) (vB9 ((n:Int),())) k2 (r,l,(i:Int),()) eR ∧
   (bif !(vU7 eR.1) then [] else eR.2.1)=(bif wX9 ((n:Int),()) eP then [] else eP.2.1)∧(bif wX9 ((n:Int),()) eP then [] else eP.2.1).length≤n∧RR (bif wX9 ((n:Int),()) eP then (wU1 eP.1).1 else eP.1) eR.1:=by
 intro m
 induction m with
 |zero =>
  intro i p r l hR he hi hl;have hv:decide ((i:Int)<(n:Int))=false:=decide_eq_false (by omega);obtain⟨g1,g2⟩:=vL3 hR;have hg:(p.2.2.2.1==0)=true:=by simpa using he
  have gP:wX4 ((n:Int),()) (p,l,(i:Int),())=false:=by simp only[wX4,wZ2,hv,Bool.false_and]
  have eP:wX9 ((n:Int),()) (p,l,(i:Int),())=false:=by simp only[wX9,wZ2,hv,Bool.false_and]
  have gR:wW2 ((n:Int),()) (r,l,(i:Int),())=false:=by simp only[wW2,vK3,hv,cond_false]
  refine⟨0,0,_,_,Nat.le_refl _,Nat.le_refl _,.stop (fun h=>?_) gP,.stop ⟨fun _=>trivial,fun h=>?_⟩ gR,?_,?_,?_⟩
  ·rw[show decide ((i:Int)<(n:Int))=true from h] at hv;cases hv
  ·rw[show wW2 ((n:Int),()) (r,l,(i:Int),())=true from h] at gR;cases gR
  ·rw[eP,g2,hg];rfl
  ·rw[eP];show l.length≤n;omega
  ·rw[eP];exact hR
 |succ m ih =>
  intro i p r l hR he hi hl;have hv:decide ((i:Int)<(n:Int))=true:=decide_eq_true (by omega);obtain⟨g1,g2⟩:=vL3 hR;have hg:(p.2.2.2.1==0)=true:=by simpa using he
  rw[hg] at g1 g2;obtain⟨a1,a2,a3,a4⟩:=wX6 hR;obtain⟨b1,b2⟩:=vL3 a4;have okR:vB9 ((n:Int),()) (r,l,(i:Int),()):=by
   refine⟨fun _=>trivial,fun _=>?_⟩;simp only[hv,f86o,cond_true];refine⟨a2,?_⟩;simp only[List.length_cons,List.length_nil];omega
  have gR:wW2 ((n:Int),()) (r,l,(i:Int),())=true:=by simp only[wW2,vK3,hv,cond_true,g2]
  have nR:wX ((n:Int),()) (r,l,(i:Int),())=((wT9 r).1,l++[wT4 p],((i+1:Nat):Int),()):=by
   simp only[wX,vK3,hv,f86o,cond_true,a3];rw[vL5 (by omega) (by omega)];rfl
  have okP:vF7 ((n:Int),()) (p,l,(i:Int),()):=fun _=>⟨a1,trivial,fun _=>by
   show ((l.length+[wT4 p].length:Nat):Int)≤4294967296;simp only[List.length_cons,List.length_nil];omega⟩
  by_cases he':(wU1 p).1.2.2.2.1=0
  ·have hb:((wU1 p).1.2.2.2.1==0)=true:=by simpa using he'
   obtain⟨k1,k2,eP,eR,q1,q2,q3,q4,q5⟩:=ih (i+1) _ _ (l++[wT4 p]) a4 he' (by omega) (by simp;omega);have gP:wX4 ((n:Int),()) (p,l,(i:Int),())=true:=by simp only[wX4,wZ2,hv,b1,hb];rfl
   have nP:wX8 ((n:Int),()) (p,l,(i:Int),())=((wU1 p).1,l++[wT4 p],((i+1:Nat):Int),()):=by
    simp only[wX8,wZ2,f84o];rw[vL5 (by omega) (by omega)];rfl
   rw[← nP] at q3;rw[← nR] at q4;exact⟨k1+1,k2+1,eP,eR,by omega,by omega,.step okP gP q3,.step okR gR q4,q5⟩
  ·have hb:((wU1 p).1.2.2.2.1==0)=false:=by simpa using he'
   have gP:wX4 ((n:Int),()) (p,l,(i:Int),())=false:=by simp only[wX4,wZ2,hv,b1,hb];rfl
   have eP:wX9 ((n:Int),()) (p,l,(i:Int),())=true:=by simp only[wX9,wZ2,hv,b1,hb];rfl
   have gR':wW2 ((n:Int),()) ((wT9 r).1,l++[wT4 p],((i+1:Nat):Int),())=false:=by
    simp only[wW2,vK3,b2,hb];cases decide (((i+1:Nat):Int)<(n:Int))<;>rfl
   have okR':vB9 ((n:Int),()) ((wT9 r).1,l++[wT4 p],((i+1:Nat):Int),()):=⟨fun _=>trivial,fun h=>by
    rw[show wW2 ((n:Int),()) ((wT9 r).1,l++[wT4 p],((i+1:Nat):Int),())=true from h] at gR';cases gR'⟩
   have st:=LT.stop (next:=wX ((n:Int),())) okR' gR'
   rw[← nR] at st;refine⟨0,1,_,_,Nat.zero_le _,by omega,.stop okP gP,.step okR gR st,?_,?_,?_⟩
   ·rw[eP,nR,show vU7 ((wT9 r).1,l++[wT4 p],((i+1:Nat):Int),()).1=_ from b2,hb];rfl
   ·rw[eP];show 0≤n;omega
   ·rw[eP,nR];exact a4
theorem sP4 {p:D60}{r:D71}(h:RR p r)(n:Int)(hn:n≤100000):vD2 p n∧vP7 r n∧uR8 r n=vQ1 p n∧RR (vC3 p n).1 (uG3 r n).1∧(vQ1 p n).length≤100000:=by
 obtain⟨c1,c2,c3,c4,c5,c6⟩:=vH h n (by omega);obtain⟨m,hm⟩:∃ m:Nat,wT6 p n=(m:Int):=⟨(wT6 p n).toNat,by omega⟩;obtain⟨g1,g2⟩:=vL3 c4;have hx:∀ z:vB0,vV6 (wU7 r n,()) z=z.1:=fun z=>by
  show (bif decide (z.2.2.1<wU7 r n) then z.1 else z.1)=z.1;cases decide (z.2.2.1<wU7 r n)<;>rfl
 by_cases he:(wT3 p n).1.2.2.2.1=0
 ·obtain⟨k1,k2,eP,eR,q1,q2,q3,q4,q5,q6,q7⟩:=tV9 m (by omega) m 0 _ _ [] c4 he (by omega) rfl;have fP:=q3.fix (by omega);have fR:=q4.fix (by omega);have nP:=q3.ends (by omega);have nR:=q4.ends (by omega);rw[← hm] at fP nP q5 q6 q7;rw[← hm,← c3] at fR nR;have fP:zC5 (wX4 (wT6 p n,())) (wX8 (wT6 p n,())) ((wT3 p n).1,[],0,())=eP:=fP;have fR:zC5 (wW2 (wU7 r n,())) (wX (wU7 r n,())) ((wT7 r n).1,[],0,())=eR:=fR;refine⟨⟨c1,nP⟩,⟨c2,nR,trivial⟩,?_,?_,?_⟩
  ·simp only[vQ1,vV5,uR8,uE1,fP,fR,hx];exact q5
  ·simp only[vC3,vV5,uG3,uE1,fP,fR,hx,f86o];cases (!(vU7 eR.1))<;>exact q7
  ·simp only[vQ1,vV5,fP];exact Nat.le_trans q6 (by omega)
 ·have hz:=c6 he;have hb:((wT3 p n).1.2.2.2.1==0)=false:=by simpa using he
  rw[hb] at g1 g2;have hz':wU7 r n=0:=c3.trans hz;have gP:wX4 (wT6 p n,()) ((wT3 p n).1,[],0,())=false:=by rw[hz];rfl
  have gR:wW2 (wU7 r n,()) ((wT7 r n).1,[],0,())=false:=by rw[hz'];rfl
  have e1:wX9 (wT6 p n,()) ((wT3 p n).1,[],0,())=false:=by rw[hz];rfl
  have okP:vF7 (wT6 p n,()) ((wT3 p n).1,[],0,()):=fun h=>by rw[hz] at h;cases h
  have okR:vB9 (wU7 r n,()) ((wT7 r n).1,[],0,()):=⟨fun _=>trivial,fun h=>by
   rw[show wW2 (wU7 r n,()) ((wT7 r n).1,[],0,())=true from h] at gR;cases gR⟩
  have tP:=LT.stop (next:=wX8 (wT6 p n,())) okP gP
  have tR:=LT.stop (next:=wX (wU7 r n,())) okR gR
  have fP:=tP.fix (by omega);have fR:=tR.fix (by omega);refine⟨⟨c1,tP.ends (by omega)⟩,⟨c2,tR.ends (by omega),trivial⟩,?_,?_,?_⟩
  ·simp only[vQ1,vV5,uR8,uE1,fP,fR,hx,g2,e1];rfl
  ·simp only[vC3,vV5,uG3,uE1,fP,fR,hx,f86o,g2,e1];exact c4
  ·simp only[vQ1,vV5,fP,e1];show ([]:List Int).length≤100000;simp
end Go.Proofs.YtbiemgjkkhkdeaaGreatDoor.Am
