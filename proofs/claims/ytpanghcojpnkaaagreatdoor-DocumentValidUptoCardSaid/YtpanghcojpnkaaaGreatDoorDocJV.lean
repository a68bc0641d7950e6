/- DocumentValid, in plain words. Condition: the second form's bound. -/
import Derived.Test.YtpanghcojpnkaaaGreatDoorDocIn
import Derived.Test.YtpanghcojpnkaaaGreatDoorDocF1
namespace Go.Proofs.YtpanghcojpnkaaaGreatDoor.Am
open Go Go.Am
theorem pE2 (p:D28)(a:D52)(m:D54)(g:Good p)(hf:wJ8 a.1)(hs:Short a.1):f4_ok p a m∧f4 p a m=true:=by
 have o1:=pD8 g hf hs a.2.1 a.2.2.1
 have o2:=oQ4 g m.1
 have o3:=oG8 g m.1 m.2.1 m.2.2.1
 obtain⟨o4,z4⟩:=oI0 g m.1
 have z1:(f14 p a.1 a.2.1 a.2.2.1).2.2.1=0→vM0 (f14 p a.1 a.2.1 a.2.2.1).1∧f9 (f14 p a.1 a.2.1 a.2.2.1).1=0:=fun h=>by
  obtain⟨v,_,_,_,_,k,_,e,vm⟩:=pD7 g a.1 a.2.1 a.2.2.1 h
  rw[e]
  exact⟨wV _ (rN g v.len1 (pJ0 hf) (rM9 hs) _).fit,(wA1 _).2 vm⟩
 have z2:(f15 p m.1).2.1=0→vM0 (f15 p m.1).1∧f9 (f15 p m.1).1=0:=fun h=>by
  obtain⟨q1,q2⟩:=pE g m.1 h
  exact⟨wV _ q1.fit,q2⟩
 have z3:(f16 p m.1 m.2.1 m.2.2.1).2.1=0→vM0 (f16 p m.1 m.2.1 m.2.2.1).1∧f9 (f16 p m.1 m.2.1 m.2.2.1).1=0:=fun h=>by
  obtain⟨q1,q2⟩:=pE0 g m.1 m.2.1 m.2.2.1 h
  exact⟨wV _ q1.fit,q2⟩
 have z5:(f17 p m.1).2.2.1=0→vM0 (f17 p m.1).1∧f9 (f17 p m.1).1=0:=fun h=>by
  obtain⟨i,c,C,_,_,v,d,l1,l2,e,vm⟩:=z4 h
  rw[e]
  exact⟨wV _ (pE1 g d l1).fit,(wA1 _).2 vm⟩
 dsimp only[f4_ok,f4,f4t]
 rw[pB9]
 have hO:=oF7
 generalize tV3=O at hO ⊢
 clear z4
 generalize f14 p a.1 a.2.1 a.2.2.1=r1 at z1 ⊢
 generalize f15 p m.1=r2 at z2 ⊢
 generalize f16 p m.1 m.2.1 m.2.2.1=r3 at z3 ⊢
 generalize f17 p m.1=r4 at z5 ⊢
 have b1:(bif (r1.2.2.1==0) then (f9 r1.1 !=0) else false)=false:=by
  by_cases h:r1.2.2.1=0
  ·rw[(z1 h).2,h];rfl
  ·rw[show (r1.2.2.1==0)=false by simpa using h];rfl
 have b2:(bif (r2.2.1==0) then (f9 r2.1 !=0) else false)=false:=by
  by_cases h:r2.2.1=0
  ·rw[(z2 h).2,h];rfl
  ·rw[show (r2.2.1==0)=false by simpa using h];rfl
 have b3:(bif (r3.2.1==0) then (f9 r3.1 !=0) else false)=false:=by
  by_cases h:r3.2.1=0
  ·rw[(z3 h).2,h];rfl
  ·rw[show (r3.2.1==0)=false by simpa using h];rfl
 have b4:(bif (r4.2.2.1 !=0) then true else (f9 r4.1==0))=true:=by
  by_cases h:r4.2.2.1=0
  ·rw[(z5 h).2,h];rfl
  ·rw[show (r4.2.2.1 !=0)=true by simpa using h];rfl
 refine⟨⟨o1,fun h=>(z1 (by simpa using h)).1,fun _=>⟨o2,fun h=>(z2 (by simpa using h)).1,fun _=>⟨o3,fun h=>(z3 (by simpa using h)).1,fun _=>⟨o4,fun h=>(z5 (by simpa using h)).1,fun _=>hO⟩⟩⟩⟩,?_⟩
 rw[b1,b2,b3]
 show (bif (bif (r4.2.2.1 !=0) then true else (f9 r4.1==0)) then true else false)=true
 rw[b4];rfl
theorem documentValid_law:∀ x,wfL 0 [T28,T52,T54] x→xL0 0 [T28,T52,T54] x≤1048576→f4_ok x.1 x.2.1 x.2.2.1∧f4 x.1 x.2.1 x.2.2.1=true:=by
 intro x hx hN
 have hN1:Ty.bulk T28 x.1≤1048576:=Nat.le_trans (Nat.le_add_right _ _) hN
 have hN2:Ty.bulk T52 x.2.1≤1048576:=Nat.le_trans (Nat.le_trans (Nat.le_add_right _ _) (Nat.le_add_left _ _)) hN
 have hw:Ty.wf T49 x.2.1.1:=hx.2.1.1
 exact pE2 x.1 x.2.1 x.2.2.1 (oG7 hx.1 hN1) (pI5 hw) (rM2 (Nat.le_trans (sb (fieldsOf T52) 0 x.2.1) hN2))
end Go.Proofs.YtpanghcojpnkaaaGreatDoor.Am
