/- DocumentReturns, in plain words. Condition: the second form's bound. -/
import Derived.Test.YtpanghcojpnkaaaGreatDoorDocRt
import Derived.Test.YtpanghcojpnkaaaGreatDoorDocF1
namespace Go.Proofs.YtpanghcojpnkaaaGreatDoor.Am
open Go Go.Am
theorem qB4 (p:D28)(m:D54)(w:Ty.wf T28 p)(g:Good p):f6_ok p m∧f6 p m=true:=by
 have hlen:len p.2.2.2.1<9223372036854775808:=g.fit.1.1
 have hf8:=vZ9 p m.1 hlen
 have ln:(p.2.2.2.1.length:Int)=len p.2.2.2.1:=rfl
 cases hv31:(bif (bif ((f9 p)!=0) then true else (decide (f8 p m.1<0))) then true else (decide (f8 p m.1≥(len p.2.2.2.1)))) with
 |true =>
  refine⟨⟨hf8.1,uZ p g.fit,fun _=>qV8,fun h=>?_⟩,?_⟩
  ·have h':(!(bif (bif ((f9 p)!=0) then true else (decide (f8 p m.1<0))) then true else (decide (f8 p m.1≥(len p.2.2.2.1)))))=true:=h
   rw[hv31] at h';cases h'
  ·simp only[f6,f6t,hv31,cond_true,rU7]
 |false =>
  have hv:=hv31
  simp only[Bool.cond_true_left,Bool.or_eq_false_iff,bne_eq_false_iff_eq,decide_eq_false_iff_not] at hv
  obtain⟨⟨h9,h80⟩,h8n⟩:=hv
  have v:=(vI9 p).1 h9
  have hn:=v.len1
  rcases vS7 p m.1 hlen with ⟨h,_⟩ | ⟨i,hi,hfi,hid,_⟩
  ·omega
  ·have e36:(nth p.2.2.2.1 (f8 p m.1) Z49).2.2.1=paL p.2.2.2.1 i:=by rw[hfi];rfl
   obtain⟨r1,r2⟩:=qX6 p m (wQ0 v) hn hi hid.symm
   have s1:=qX8 g v hi
   have h18:f18 p p=true:=(pT w w).2 rfl
   rw[hid] at s1
   have o18:=nA0 p w
   have hok16:=rI1 g m.1 (paL p.2.2.2.1 i) (rank p i:Int)
   have hokm:=rI1 g m.1 m.2.1 m.2.2.1
   have hsec:(f16 p m.1 m.2.1 m.2.2.1).2.1=0→f16 (f16 p m.1 m.2.1 m.2.2.1).1 m.1 (paL p.2.2.2.1 i) (rank p i:Int)=(p,0,())∧vZ4 (f16 p m.1 m.2.1 m.2.2.1).1 m.1 (paL p.2.2.2.1 i) (rank p i:Int):=fun h0=>by
    obtain⟨c,b,hb⟩:=uM5 v hi
    have hle:=b.le
    have h0':=h0
    rw[← hid] at h0'
    obtain⟨k,k1,k2,k3⟩:=qX9 g v hi b hb m.2.1 m.2.2.1 h0'
    rw[hid] at k2
    rw[k2]
    have:=qY0 g v hi b k1 k3
    rw[hid] at this
    exact⟨this,rI1 (uQ9 (k:=(k:Int)) (q:=m.2.1) g (i:=i) (c:=c) (by omega)) _ _ _⟩
   dsimp only[f6_ok,f6,f6t]
   rw[e36,r2,s1,rU7]
   have hO:=qV8
   generalize tR=O at hO ⊢
   refine⟨⟨hf8.1,uZ p g.fit,fun _=>hO,fun _=>⟨⟨by omega,by omega⟩,(vS9 p _ (by omega)).1,r1,hok16,fun _=>o18,fun _=>⟨hokm,fun h83=>?_,fun _=>hO⟩⟩⟩,?_⟩
   ·obtain⟨q1,q2⟩:=hsec (by simpa using h83)
    refine⟨q2,fun _=>?_⟩
    rw[q1]
    exact o18
   ·rw[hv31]
    show (bif (bif ((0:Int)!=0) then true else (!(f18 p p))) then false else _)=true
    rw[h18]
    show (bif (_&&((f16 p m.1 m.2.1 m.2.2.1).2.1==0)) then false else true)=true
    cases h83:((f16 p m.1 m.2.1 m.2.2.1).2.1==0) with
    |false=>rw[Bool.and_false];rfl
    |true =>
     obtain⟨q1,q2⟩:=hsec (by simpa using h83)
     rw[q1]
     show (bif ((bif ((0:Int)!=0) then true else (!(f18 p p)))&&true) then false else true)=true
     rw[h18];rfl
theorem documentReturns_law:∀ x,wfL 0 [T28,T54] x→xL1 0 [T28,T54] x≤1048576→f6_ok x.1 x.2.1∧f6 x.1 x.2.1=true:=by
 intro x hx hN
 have hN1:Ty.bulk T28 x.1≤1048576:=Nat.le_trans (Nat.le_add_right _ _) hN
 exact qB4 x.1 x.2.1 hx.1 (nA9 hx.1 hN1)
end Go.Proofs.YtpanghcojpnkaaaGreatDoor.Am
