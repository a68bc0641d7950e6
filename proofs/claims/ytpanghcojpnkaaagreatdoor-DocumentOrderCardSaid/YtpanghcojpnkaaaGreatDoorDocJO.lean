/- DocumentOrder, in plain words. No condition. -/
import Derived.Test.YtpanghcojpnkaaaGreatDoorDocVa
import Derived.Test.YtpanghcojpnkaaaGreatDoorDocF1
import Derived.Test.YtpanghcojpnkaaaGreatDoorDocF2
namespace Go.Proofs.YtpanghcojpnkaaaGreatDoor.Am
open Go Go.Am
theorem nth_map_range' {I:Nat → Int} {s c k:Nat} (h:k < c):nth ((List.range' s c).map I) (k:Int) (0:Int) = I (s + k):=by
 show ((List.range' s c).map I).getD ((k:Int)).toNat 0 = _
 rw [Int.toNat_natCast,List.getD_eq_getElem?_getD,List.getElem?_map,List.getElem?_range' h]
 simp
theorem documentOrder_law:∀ x,wfL 0 [T28,.int .i64] x → f3_ok x.1 x.2.1 ∧ f3 x.1 x.2.1 = true:=by
 rintro ⟨p,id,⟨⟩⟩ ⟨wp,_,_⟩
 simp only at wp ⊢
 have hfit:=doc_fit wp
 have hlen:len p.2.2.2.1 < 9223372036854775808:=hfit.1.1
 have hf8:=rE1 p id hlen
 cases hv25:(bif (bif ((f9 p) != 0) then true else (decide (f8 p id < 0))) then true else (decide (f8 p id ≥ (len p.2.2.2.1)))) with
 | true =>
  refine ⟨⟨hf8.1,pB2 p hfit,fun _=>sS3,fun h=>?_⟩,?_⟩
  ·have h':(!(bif (bif ((f9 p) != 0) then true else (decide (f8 p id < 0))) then true else (decide (f8 p id ≥ (len p.2.2.2.1))))) = true:=h
   rw [hv25] at h'; cases h'
  ·simp only [f3,f3t,hv25,cond_true,rE3]
 | false =>
  simp only [Bool.cond_true_left,Bool.or_eq_false_iff,bne_eq_false_iff_eq,decide_eq_false_iff_not] at hv25
  obtain ⟨⟨h9,h80⟩,h8n⟩:=hv25
  have v:=(valid_iff p).1 h9
  have hn:=v.len1
  have ln:(p.2.2.2.1.length:Int) = len p.2.2.2.1:=rfl
  rcases find_spec p id hlen with ⟨h,_⟩ | ⟨i,hi,hfi,hid,_⟩
  ·omega
  ·subst hid
   obtain ⟨c,hc,hb,_⟩:=valid_below v hi
   have hb0:f11 p 0 = f13 p:=by
    rw [(below_spec p 0 (by omega)).2,(ids_spec p (by omega)).2,undL_zero (valid_tree v)]
   have hl13:len (f13 p) < 9223372036854775808:=by
    rw [(ids_spec p (by omega)).2]; simp only [len,List.length_map,List.length_range]; omega
   have h12:f12 (f11 p 0) (f13 p) = true:=by rw [hb0]; exact qW5 _ hl13
   have hlb:len (f11 p (idL p.2.2.2.1 i)) = (c:Int):=by rw [hb]; simp only [len,List.length_map,List.length_range']
   have hv46:(bif (!(f12 (f11 p 0) (f13 p))) then true else (decide ((f8 p (idL p.2.2.2.1 i) + 1 + len (f11 p (idL p.2.2.2.1 i))) > (len p.2.2.2.1)))) = false:=by
    rw [h12,hfi,hlb]
    exact decide_eq_false (by omega)
   obtain ⟨z,z1,z2,z3,z4,z5⟩:=xY0 (g:=tH3 (p,f8 p (idL p.2.2.2.1 i),f11 p (idL p.2.2.2.1 i),len (f11 p (idL p.2.2.2.1 i)),())) (next:=vE5 (p,f8 p (idL p.2.2.2.1 i),f11 p (idL p.2.2.2.1 i),len (f11 p (idL p.2.2.2.1 i)),()))
    (n:=len (f11 p (idL p.2.2.2.1 i))) (c:=fun k=>(nth p.2.2.2.1 (f8 p (idL p.2.2.2.1 i) + 1 + k) Z49).1 != (nth (f11 p (idL p.2.2.2.1 i)) k (0:Int))) (xT7 _) (by rw [hlb]; omega) (fun _=>rfl) (fun _=>rfl)
   have hz:z = (c:Int):=by
    by_cases hlt:z < len (f11 p (idL p.2.2.2.1 i))
    ·have h6:=z5 hlt
     rw [hlb] at hlt
     obtain ⟨k,rfl⟩:∃ k:Nat,z = (k:Int):=⟨z.toNat,by omega⟩
     rw [hb,nth_map_range' (by omega),hfi,show ((i:Int) + 1 + (k:Int)) = ((i + 1 + k:Nat):Int) by omega] at h6
     simp [idL] at h6
    ·rw [hlb] at z2 hlt; omega
   have he1:tW (p,f8 p (idL p.2.2.2.1 i),f11 p (idL p.2.2.2.1 i),len (f11 p (idL p.2.2.2.1 i)),()) (zC1 (tH3 (p,f8 p (idL p.2.2.2.1 i),f11 p (idL p.2.2.2.1 i),len (f11 p (idL p.2.2.2.1 i)),())) (vE5 (p,f8 p (idL p.2.2.2.1 i),f11 p (idL p.2.2.2.1 i),len (f11 p (idL p.2.2.2.1 i)),())) (0,())) = false:=by
    rw [z3,hz]
    show (decide ((c:Int) < len (f11 p (idL p.2.2.2.1 i))) && _) = false
    rw [hlb,decide_eq_false (by omega),Bool.false_and]
   refine ⟨⟨hf8.1,pB2 p hfit,fun _=>sS3,fun _=>⟨(below_spec p _ (by omega)).1,(below_spec p 0 (by omega)).1,(ids_spec p (by omega)).1,oA6 _ _ (by rw [hb0]; exact hl13),fun _=>?_,fun _=>?_,fun _=>⟨?_,fun _=>sS3⟩⟩⟩,?_⟩
   ·exact inr_small (by omega) (by omega)
   ·show InR (f8 p (idL p.2.2.2.1 i) + 1 + len (f11 p (idL p.2.2.2.1 i)))
    rw [hlb]; exact inr_small (by omega) (by omega)
   ·refine xQ1 (fun x=>0 ≤ x.1 ∧ x.1 ≤ len (f11 p (idL p.2.2.2.1 i))) (fun x=>(len (f11 p (idL p.2.2.2.1 i)) - x.1).toNat) (fun x hx=>?_) (fun x hx hg=>?_) (x:=(0,())) ⟨Int.le_refl 0,xT7 _⟩ (by unfold zI1; simp only; rw [hlb]; omega)
    ·intro hlt
     have hlt:x.1 < len (f11 p (idL p.2.2.2.1 i)):=of_decide_eq_true hlt
     have h0:=hx.1
     refine ⟨⟨h0,hlt⟩,?_,?_,?_,fun _=>?_⟩
     ·show InR (f8 p (idL p.2.2.2.1 i) + 1)
      exact inr_small (by omega) (by omega)
     ·show InR (f8 p (idL p.2.2.2.1 i) + 1 + x.1)
      rw [hlb] at hlt; exact inr_small (by omega) (by omega)
     ·show InB (f8 p (idL p.2.2.2.1 i) + 1 + x.1) (len p.2.2.2.1)
      rw [hlb] at hlt
      exact ⟨by omega,by omega⟩
     ·rw [hlb] at hlt; exact inr_small (by omega) (by omega)
    ·have hlt:x.1 < len (f11 p (idL p.2.2.2.1 i)):=and_lt hg
     have h0:=hx.1
     exact ⟨⟨(show 0 ≤ x.1 + 1 by omega),(show x.1 + 1 ≤ len (f11 p (idL p.2.2.2.1 i)) by omega)⟩,(show (len (f11 p (idL p.2.2.2.1 i)) - (x.1 + 1)).toNat < (len (f11 p (idL p.2.2.2.1 i)) - x.1).toNat by omega)⟩
   ·have hv25:(bif (bif ((f9 p) != 0) then true else (decide (f8 p (idL p.2.2.2.1 i) < 0))) then true else (decide (f8 p (idL p.2.2.2.1 i) ≥ (len p.2.2.2.1)))) = false:=by
     rw [h9,decide_eq_false h80,decide_eq_false h8n]; rfl
    simp only [f3,f3t,hv25,hv46,he1,cond_false,rE3]
end Go.Proofs.YtpanghcojpnkaaaGreatDoor.Am
