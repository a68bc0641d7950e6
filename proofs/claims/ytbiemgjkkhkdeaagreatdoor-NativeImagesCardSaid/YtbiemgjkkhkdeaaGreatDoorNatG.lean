/- Readers: counts, errors, what is left. Condition: readers that were made. -/
import Derived.Test.YtbiemgjkkhkdeaaGreatDoorNatF
set_option linter.unusedVariables false
namespace Go.Proofs.YtbiemgjkkhkdeaaGreatDoor.Am
open Go Go.Am Go.Proofs
theorem vJ1 {p:D60}{r:D71}(h:RR p r):wU7 p=p.2.2.2.1∧wW7 r=p.2.2.2.1:=by
 obtain⟨s,a1,a2,e,rfl,rfl,_,_⟩:=h.out;exact⟨rfl,rfl⟩
theorem vV4 {p:D60}{r:D71}(h:RR p r)(e:Int)(he:e≠0):vD3 p e∧vD6 r e∧RR (wV1 p e).1 (wZ1 r e).1∧(wV1 p e).1.2.2.2.1≠0:=by
 obtain⟨s,a1,a2,e0,rfl,rfl,hs,hat⟩:=h.out;have h1:=vM1 h;refine⟨trivial,trivial,?_⟩;simp only[wV1,vQ5,wZ1,vU3,h1.1,h1.2];cases hb:(e0==0) with
 |true=>exact⟨RR.mk hs (fun h=>absurd h he),he⟩
 |false=>exact⟨RR.mk hs hat,fun h=>(beq_eq_false_iff_ne.1 hb) h⟩
theorem uX3 (n:Int):wP9 n 0=max n 0:=by unfold wP9;omega
theorem vG4 {p:D60}{r:D71}(h:RR p r)(n:Int)(hn:n<9223372036854775808):wU1 p n∧wU0 r n∧wW6 r n=wS8 p n∧RR (wS7 p n).1 (wS9 r n).1∧(0≤wS8 p n∧wS8 p n≤max n 0)∧((wS7 p n).1.2.2.2.1≠0→wS8 p n=0):=by
 obtain⟨h1,h2,h3,h4,h5,h6⟩:=uT1 h;obtain⟨g1,g2⟩:=vM1 h4;have hw:IntKind.wrap .u64 (wP9 n 0)=max n 0:=by rw[IntKind.wrap_u64,uX3];omega
 refine⟨⟨h1,trivial⟩,⟨h2,fun _=>trivial⟩,?_⟩;simp only[wS8,wS7,vT,wW6,wS9,vU4,hw,h3,g1];cases hb:((vH7 p).1.2.2.2.1==0) with
 |false =>
  have hz:=h6 (by simpa using hb);have hd:decide ((0:Int)>max n 0)=false:=decide_eq_false (by omega);simp only[hz,hd,cond_false,cond_true,Bool.not_false];refine⟨by decide,h4,by omega,fun _=>trivial⟩
 |true =>
  simp only[Bool.not_true,cond_false];by_cases hd:vM3 p>max n 0
  ·simp only[decide_eq_true hd,cond_true];have:=vV4 h4 3 (by decide);refine⟨trivial,?_,by omega,fun _=>trivial⟩;have h7:=this.2.2.1;simp only[wV1,vQ5,g1,hb,cond_true] at h7;exact h7
  ·simp only[decide_eq_false hd,cond_false];have hv:=vS5 (x:=vM3 p) (by omega) (by omega);rw[hv];refine⟨trivial,h4,by omega,fun he=>absurd ((beq_iff_eq).1 hb) he⟩
theorem uK9 {p:D60}{r:D71}(h:RR p r):vF0 p∧vK6 r∧uC5 r=vN6 p∧vL1 p=(p,())∧vS8 r=(r,())∧vN6 p=(bif p.2.2.2.1==0 then len p.2.1-p.2.2.1 else 0):=by
 obtain⟨s,a1,a2,e,rfl,rfl,hs,hat⟩:=h.out;obtain⟨g1,g2⟩:=vM1 h;refine⟨trivial,trivial,?_⟩;simp only[vN6,vL1,vT0,uC5,vS8,vV3,g1,g2];cases hb:(e==0) with
 |false=>exact⟨rfl,rfl,rfl,rfl⟩
 |true =>
  obtain⟨rfl,q1,q2⟩:=hat ((beq_iff_eq).1 hb);refine⟨rfl,rfl,rfl,?_⟩;exact vS5 (by show _≤len s-a2;omega) (by show len s-a2<_;omega)
theorem uW3 {p:D60}{r:D71}(h:RR p r):vK7 p∧vK8 r∧uJ3 r=uJ1 p:=by
 obtain⟨s,a1,a2,e,rfl,rfl,hs,hat⟩:=h.out;obtain⟨g1,g2⟩:=vM1 h;obtain⟨l1,l2,l3,l4,l5,l6⟩:=uK9 h;obtain⟨e1,e2⟩:=vJ1 h;refine⟨⟨trivial,fun _=>trivial⟩,⟨trivial,fun _=>trivial⟩,?_⟩;show (bif (bif (vR8 (s,a2,e,true,())) then decide (a2<len s) else false) then (6:Int) else wW7 (s,a2,e,true,()))=(bif (wU7 (true,s,a1,e,())!=0) then wU7 (true,s,a1,e,()) else bif decide (vN6 (true,s,a1,e,())>0) then 6 else 0);rw[g2,e1,e2,l6];by_cases he:e=0
 ·subst he;obtain⟨rfl,q1,q2⟩:=hat rfl;by_cases hl:a2<len s
  ·have h2:decide (len s-a2>0)=true:=decide_eq_true (by omega);have h3:decide (a2<len s)=true:=decide_eq_true hl;simp only[h2,h3,bne,beq_self_eq_true,cond_true,cond_false,Bool.not_true]
  ·have h2:decide (len s-a2>0)=false:=decide_eq_false (by omega);have h3:decide (a2<len s)=false:=decide_eq_false hl;simp only[h2,h3,bne,beq_self_eq_true,cond_true,cond_false,Bool.not_true]
 ·have:(e==0)=false:=by simpa using he
  simp only[this,bne,cond_false,Bool.not_false,cond_true]
theorem uF2 {p:D60}{r:D71}(h:RR p r):vE p r∧vW8 p r=true:=by
 obtain⟨e1,e2⟩:=vJ1 h;obtain⟨l1,l2,l3,l4,l5,_⟩:=uK9 h;obtain⟨k1,k2,k3⟩:=uW3 h;have v9:(wU7 p==wW7 r)=true:=by rw[e1,e2];simp
 have v16:(vN6 p==uC5 r)=true:=by rw[l3];simp
 have o1:wX0 p=(p,()):=rfl;have o2:vA9 r=(r,()):=rfl;constructor
 ·simp only[vE,vR1,v9,o1,o2,l4,l5,cond_true,v16];exact⟨trivial,trivial,fun _=>l1,fun _=>l2,fun _=>k1,fun _=>k2⟩
 ·simp only[vW8,vR1,v9,o1,o2,l4,l5,cond_true,v16,k3];simp
end Go.Proofs.YtbiemgjkkhkdeaaGreatDoor.Am
