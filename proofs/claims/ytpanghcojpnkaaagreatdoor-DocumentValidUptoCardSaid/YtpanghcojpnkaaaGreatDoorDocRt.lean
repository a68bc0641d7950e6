/- Move and back again. Condition: the second form's bound. -/
import Derived.Test.YtpanghcojpnkaaaGreatDoorDocSl
namespace Go.Proofs.YtpanghcojpnkaaaGreatDoor.Am
open Go Go.Am
theorem qM4 {p:D28}(v:Valid p):f38 p=(p,0,()):=by
 rw[sD1,(wA1 p).2 v];rfl
end Go.Proofs.YtpanghcojpnkaaaGreatDoor.Am
namespace Go.Proofs.YtpanghcojpnkaaaGreatDoor.Am
open Go Go.Am
theorem qM5 {p:D28}(g:Good p)(v:Valid p){i:Nat}(hi:i<p.2.2.2.1.length){c:Nat}(b:blkP p i c)(hb:f11 p (idL p.2.2.2.1 i)=(List.range' (i+1) c).map (idL p.2.2.2.1))(q at':Int)
  (h:(f16 p (idL p.2.2.2.1 i) q at').2.1=0):∃ k:Nat,k≤(yL8 p.2.2.2.1 i (1+c)).length∧(f16 p (idL p.2.2.2.1 i) q at').1=tP5 p i c (k:Int) q∧Valid (tP5 p i c (k:Int) q):=by
 have hle:=b.le
 have hn:=v.len1
 have h9:=(wA1 p).2 v
 have h8:=vX4 v hi
 have ln:(p.2.2.2.1.length:Int)=len p.2.2.2.1:=rfl
 by_cases h33:f33 p q=0
 ·have hq:=(wX2 v q).2.1 h33
  cases hc:(bif (q==idL p.2.2.2.1 i) then true else f40 (f11 p (idL p.2.2.2.1 i)) q) with
  |true =>
   simp only[f16,f16t,h9,h8,h33,hc,bne_self_eq_false,jD,jE,decide_eq_false (show ¬ ((i:Int)<0) by omega)] at h
   exact absurd h (by decide)
  |false =>
   have hq':q=0∨∃ j,j<p.2.2.2.1.length∧idL p.2.2.2.1 j=q∧kdL p.2.2.2.1 j=1∧(j<i∨i+1+c≤j):=by
    rcases hq with h|⟨j,h1,h2,h3⟩
    ·exact .inl h
    ·refine .inr ⟨j,h1,h2,h3,?_⟩
     by_cases ho:j<i∨i+1+c≤j
     ·exact ho
     ·have:=(uN2 v hi b hb q).2 ⟨j,by omega,by omega,h2⟩
      rw[hc] at this;cases this
   have hlb:len (f11 p (idL p.2.2.2.1 i))=(c:Int):=by rw[hb];simp only[len,List.length_map,List.length_range']
   have hcp:=(wU7 g v.len1).1
   have e1:(i:Int).toNat=i:=Int.toNat_natCast i
   have e2:((i:Int)+1+(c:Int)).toNat=i+(1+c):=by omega
   have hcut:(p.1,p.2.1,p.2.2.1,f39 p.2.2.2.1 (i:Int) ((i:Int)+1+(c:Int)),p.2.2.2.2)=cutD p i c:=by
    unfold f39;rw[e1,e2];rfl
   cases hr:(bif decide (at'<0) then true else decide (at'>len (f20 (cutD p i c) q))) with
   |true =>
    simp only[f16,f16t,h9,h8,h33,hc,hcp,hlb,hcut,hr,bne_self_eq_false,jD,jE,decide_eq_false (show ¬ ((i:Int)<0) by omega)] at h
    exact absurd h (by decide)
   |false =>
    simp only[Bool.cond_true_left,jJ,decide_eq_false_iff_not] at hr
    have hv:=pC8 g v hi b hb q at' hq' (by omega) (by omega)
    have hcl:=rM5 b
    have hq2:q=0∨∃ j,j<(cutD p i c).2.2.2.1.length∧idL (cutD p i c).2.2.2.1 j=q:=by
     rcases hq' with h|⟨j,h1,h2,_,h3⟩
     ·exact .inl h
     ·obtain⟨k,k1,k2⟩:=qM2 b h1 h3
      exact .inr ⟨k,k1,by rw[k2,h2]⟩
    obtain⟨_,s2,s3⟩:=sD0 (cutD p i c) q at' (qM3 b) (by omega) hq2 (by omega)
    rw[hv] at h ⊢
    obtain⟨k,hk⟩:∃ k:Nat,f37 (cutD p i c) q at'=(k:Int):=⟨(f37 (cutD p i c) q at').toNat,by omega⟩
    rw[hk] at h ⊢
    have hz:f9 (tP5 p i c (k:Int) q)=0:=by
     rw[sD1] at h
     by_cases hz:f9 (tP5 p i c (k:Int) q)=0
     ·exact hz
     ·rw[show (f9 (tP5 p i c (k:Int) q)!=0)=true by simpa using hz] at h
      exact absurd h hz
    have hvm:=(wA1 _).1 hz
    refine⟨k,?_,by rw[qM4 hvm],hvm⟩
    have:len (cutD p i c).2.2.2.1=((yL8 p.2.2.2.1 i (1+c)).length:Int):=rfl
    omega
 ·exfalso
  simp only[f16,f16t,h9,h8,bne_self_eq_false,jD,decide_eq_false (show ¬ ((i:Int)<0) by omega),show (f33 p q !=0)=true by simpa using h33,jE] at h
  exact h33 h
theorem zD4 (b:List D49)(q:Int)(r:Nat):((uK b q).getD r Z49).1=(b.getD r Z49).1∧((uK b q).getD r Z49).2.1=(b.getD r Z49).2.1∧(0<r→(uK b q).getD r Z49=b.getD r Z49):=by
 unfold uK
 by_cases h:r=0
 ·subst h
  refine⟨?_,?_,fun h=>absurd h (Nat.lt_irrefl _)⟩
  all_goals
   cases b with
   |nil=>rfl
   |cons x y=>rfl
 ·have e:(List.set b 0 (sP8 (nth b (0:Int) Z49) q)).getD r Z49=b.getD r Z49:=by
   rw[jM,jM,List.getElem?_set_ne (by omega)]
  rw[e]
  exact⟨rfl,rfl,fun _=>rfl⟩
end Go.Proofs.YtpanghcojpnkaaaGreatDoor.Am
