/- Readers: counts, errors, what is left. Condition: readers that were made. -/
import Derived.Test.YtbiemgjkkhkdeaaGreatDoorNatF
set_option linter.unusedVariables false
namespace Go.Proofs.YtbiemgjkkhkdeaaGreatDoor.Am
open Go Go.Am Go.Proofs
theorem vX7 {p:D60}{r:D71}(h:RR p r):wW0 p=p.2.2.2.1∧wZ1 r=p.2.2.2.1:=by
 obtain⟨s,a1,a2,e,rfl,rfl,_,_⟩:=h.out;exact⟨rfl,rfl⟩
theorem uP7 {p:D60}{r:D71}(h:RR p r)(e:Int)(he:e≠0):vE8 p e∧vL0 r e∧RR (wW8 p e).1 (vC6 r e).1∧(wW8 p e).1.2.2.2.1≠0:=by
 obtain⟨s,a1,a2,e0,rfl,rfl,hs,hat⟩:=h.out;have h1:=vL3 h;refine⟨trivial,trivial,?_⟩;simp only[wW8,uO4,vC6,uY5,h1.1,h1.2];cases hb:(e0==0) with
 |true=>exact⟨RR.mk hs (fun h=>absurd h he),he⟩
 |false=>exact⟨RR.mk hs hat,fun h=>(beq_eq_false_iff_ne.1 hb) h⟩
theorem sW0 (n:Int):wQ1 n 0=max n 0:=by unfold wQ1;omega
theorem vH {p:D60}{r:D71}(h:RR p r)(n:Int)(hn:n<9223372036854775808):wV p n∧wV1 r n∧wU7 r n=wT6 p n∧RR (wT3 p n).1 (wT7 r n).1∧(0≤wT6 p n∧wT6 p n≤max n 0)∧((wT3 p n).1.2.2.2.1≠0→wT6 p n=0):=by
 obtain⟨h1,h2,h3,h4,h5,h6⟩:=tP5 h;obtain⟨g1,g2⟩:=vL3 h4;have hw:IntKind.wrap .u64 (wQ1 n 0)=max n 0:=by rw[IntKind.wrap_u64,sW0];omega
 refine⟨⟨h1,trivial⟩,⟨h2,fun _=>trivial⟩,?_⟩;simp only[wT6,wT3,uU0,wU7,wT7,uY7,hw,h3,g1];cases hb:((vC p).1.2.2.2.1==0) with
 |false =>
  have hz:=h6 (by simpa using hb);have hd:decide ((0:Int)>max n 0)=false:=decide_eq_false (by omega);simp only[hz,hd,cond_false,cond_true,Bool.not_false];refine⟨by decide,h4,by omega,fun _=>trivial⟩
 |true =>
  simp only[Bool.not_true,cond_false];by_cases hd:wV2 p>max n 0
  ·simp only[decide_eq_true hd,cond_true];have:=uP7 h4 3 (by decide);refine⟨trivial,?_,by omega,fun _=>trivial⟩;have h7:=this.2.2.1;simp only[wW8,uO4,g1,hb,cond_true] at h7;exact h7
  ·simp only[decide_eq_false hd,cond_false];have hv:=vL5 (x:=wV2 p) (by omega) (by omega);rw[hv];refine⟨trivial,h4,by omega,fun he=>absurd ((beq_iff_eq).1 hb) he⟩
theorem tP6 {p:D60}{r:D71}(h:RR p r):vS3 p∧uB2 r∧tH1 r=uK2 p∧uF0 p=(p,())∧uS3 r=(r,())∧uK2 p=(bif p.2.2.2.1==0 then len p.2.1-p.2.2.1 else 0):=by
 obtain⟨s,a1,a2,e,rfl,rfl,hs,hat⟩:=h.out;obtain⟨g1,g2⟩:=vL3 h;refine⟨trivial,trivial,?_⟩;simp only[uK2,uF0,uU1,tH1,uS3,uU3,g1,g2];cases hb:(e==0) with
 |false=>exact⟨rfl,rfl,rfl,rfl⟩
 |true =>
  obtain⟨rfl,q1,q2⟩:=hat ((beq_iff_eq).1 hb);refine⟨rfl,rfl,rfl,?_⟩;exact vL5 (by show _≤len s-a2;omega) (by show len s-a2<_;omega)
theorem sU3 {p:D60}{r:D71}(h:RR p r):uB3 p∧uB4 r∧tW7 r=tW5 p:=by
 obtain⟨s,a1,a2,e,rfl,rfl,hs,hat⟩:=h.out;obtain⟨g1,g2⟩:=vL3 h;obtain⟨l1,l2,l3,l4,l5,l6⟩:=tP6 h;obtain⟨e1,e2⟩:=vX7 h;refine⟨⟨trivial,fun _=>trivial⟩,⟨trivial,fun _=>trivial⟩,?_⟩;show (bif (bif (vU7 (s,a2,e,true,())) then decide (a2<len s) else false) then (6:Int) else wZ1 (s,a2,e,true,()))=(bif (wW0 (true,s,a1,e,())!=0) then wW0 (true,s,a1,e,()) else bif decide (uK2 (true,s,a1,e,())>0) then 6 else 0);rw[g2,e1,e2,l6];by_cases he:e=0
 ·subst he;obtain⟨rfl,q1,q2⟩:=hat rfl;by_cases hl:a2<len s
  ·have h2:decide (len s-a2>0)=true:=decide_eq_true (by omega);have h3:decide (a2<len s)=true:=decide_eq_true hl;simp only[h2,h3,bne,beq_self_eq_true,cond_true,cond_false,Bool.not_true]
  ·have h2:decide (len s-a2>0)=false:=decide_eq_false (by omega);have h3:decide (a2<len s)=false:=decide_eq_false hl;simp only[h2,h3,bne,beq_self_eq_true,cond_true,cond_false,Bool.not_true]
 ·have:(e==0)=false:=by simpa using he
  simp only[this,bne,cond_false,Bool.not_false,cond_true]
theorem sH5 {p:D60}{r:D71}(h:RR p r):vS5 p r∧tH2 p r=true:=by
 obtain⟨e1,e2⟩:=vX7 h;obtain⟨l1,l2,l3,l4,l5,_⟩:=tP6 h;obtain⟨k1,k2,k3⟩:=sU3 h;have v9:(wW0 p==wZ1 r)=true:=by rw[e1,e2];simp
 have v16:(uK2 p==tH1 r)=true:=by rw[l3];simp
 have o1:wZ3 p=(p,()):=rfl;have o2:vI4 r=(r,()):=rfl;constructor
 ·simp only[vS5,uO1,v9,o1,o2,l4,l5,cond_true,v16];exact⟨trivial,trivial,fun _=>l1,fun _=>l2,fun _=>k1,fun _=>k2⟩
 ·simp only[tH2,uO1,v9,o1,o2,l4,l5,cond_true,v16,k3];simp
end Go.Proofs.YtbiemgjkkhkdeaaGreatDoor.Am
