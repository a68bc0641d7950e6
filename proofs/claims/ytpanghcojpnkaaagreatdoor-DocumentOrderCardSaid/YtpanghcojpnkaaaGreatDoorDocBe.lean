/- Find, Below, ids and same in plain words. Condition: lengths of Go slices. -/
import Derived.Test.YtpanghcojpnkaaaGreatDoorDocNo
import Derived.Test.YtpanghcojpnkaaaGreatDoorDocX
namespace Go.Proofs.YtpanghcojpnkaaaGreatDoor.Am
open Go Go.Am
theorem find_spec (p:D28) (k:Int) (hl:len p.2.2.2.1 < 9223372036854775808) :
  (f8 p k = -1 ∧ ∀ j:Nat,j < p.2.2.2.1.length → idL p.2.2.2.1 j ≠ k) ∨ ∃ j:Nat,j < p.2.2.2.1.length ∧ f8 p k = (j:Int) ∧ idL p.2.2.2.1 j = k ∧ ∀ u:Nat,u < j → idL p.2.2.2.1 u ≠ k:=by
 obtain ⟨z,h1,h2,h3,h4,h5⟩:=xY0 (g:=wA3 (p.2.2.2.1,(k,()),len p.2.2.2.1,())) (next:=xZ (p.2.2.2.1,(k,()),len p.2.2.2.1,())) (n:=len p.2.2.2.1) (c:=fun i=>(nth p.2.2.2.1 i Z49).1 == k) (xT7 _) hl (fun _=>rfl) (fun _=>rfl)
 have e:f8 p k = (bif (decide (z < len p.2.2.2.1) && ((nth p.2.2.2.1 z Z49).1 == k)) then z else -1):=by
  show (bif wL5 (p.2.2.2.1,(k,()),len p.2.2.2.1,()) (zC1 (wA3 (p.2.2.2.1,(k,()),len p.2.2.2.1,())) (xZ (p.2.2.2.1,(k,()),len p.2.2.2.1,())) (0,())) then wJ1 (p.2.2.2.1,(k,()),len p.2.2.2.1,()) (zC1 (wA3 (p.2.2.2.1,(k,()),len p.2.2.2.1,())) (xZ (p.2.2.2.1,(k,()),len p.2.2.2.1,())) (0,())) else -1) = _
  rw [h3]; rfl
 have ln:(p.2.2.2.1.length:Int) = len p.2.2.2.1:=rfl
 by_cases hz:z < len p.2.2.2.1
 ·right
  have h6:=h5 hz
  refine ⟨z.toNat,by omega,?_,?_,fun u hu=>?_⟩
  ·rw [e,h6,decide_eq_true hz]; show z = _; omega
  ·have:((z.toNat:Nat):Int) = z:=by omega
   simpa [idL,this] using h6
  ·have:=h4 (u:Int) (by omega) (by omega)
   simpa [idL] using this
 ·left
  refine ⟨by rw [e,decide_eq_false hz]; rfl,fun j hj=>?_⟩
  have:=h4 (j:Int) (by omega) (by omega)
  simpa [idL] using this
abbrev bf (k:Int) (l:List (Int × Bool × Unit)):Option Bool:=yI6 (.int .i64) .bool k l
abbrev bs (k:Int) (v:Bool) (l:List (Int × Bool × Unit)):List (Int × Bool × Unit):=xL7 (.int .i64) .bool k v l
theorem bf_bs (k:Int) (v:Bool) (j:Int):∀ l,bf j (bs k v l) = if j = k then some v else bf j l
 | []=>by
  show (bif (j == k) then some v else none) = _
  by_cases h:j = k
  ·simp [h]
  ·have:(j == k) = false:=by simpa using h
   rw [this,if_neg h]; rfl
 | e :: r=>by
  have ih:=bf_bs k v j r
  show yI6 (.int .i64) .bool j (bif (k == e.1) then (k,v,()) :: r else e :: bs k v r) = if j = k then some v else (bif (j == e.1) then some e.2.1 else bf j r)
  by_cases hk:k = e.1
  ·have h1:(k == e.1) = true:=by simpa using hk
   rw [h1,cond_true]
   show (bif (j == k) then some v else bf j r) = _
   by_cases h:j = k
   ·simp [h]
   ·have h2:(j == k) = false:=by simpa using h
    have h3:(j == e.1) = false:=by rw [← hk]; exact h2
    rw [h2,if_neg h,h3]; rfl
  ·have h1:(k == e.1) = false:=by simpa using hk
   rw [h1,cond_false]
   show (bif (j == e.1) then some e.2.1 else bf j (bs k v r)) = _
   rw [ih]
   by_cases h:j = e.1
   ·have h2:(j == e.1) = true:=by simpa using h
    have h3:j ≠ k:=fun q=>hk (by rw [← q,h])
    simp only [h2,if_neg h3]
   ·have h2:(j == e.1) = false:=by simpa using h
    rw [h2]; simp only [cond_false]
def belI (l:List D49) (q:Int) (x:wT8):Prop:=∃ i:Nat,x.2.2.1 = (i:Int) ∧ (i:Int) ≤ len l ∧ x.1 = (undL (idL l) (paL l) i q).map (idL l) ∧ len x.1 ≤ i ∧
 ∀ k,Option.getD (bf k x.2.1) false = true ↔ ∃ u,u < i ∧ Und (idL l) (paL l) q u ∧ idL l u = k
theorem bel_next (l:List D49) (q:Int) (a:List Int) (m:List (Int × Bool × Unit)) (i:Int):wL0 (q,l,len l,()) (a,m,i,()) =
  (bif (bif ((nth l i Z49).2.2.1 == q) then true else (Option.getD (bf (nth l i Z49).2.2.1 m) false)) then a ++ [(nth l i Z49).1] else a,bif (bif ((nth l i Z49).2.2.1 == q) then true else (Option.getD (bf (nth l i Z49).2.2.1 m) false)) then bs (nth l i Z49).1 true m else m,i + 1,()):=rfl
theorem below_spec (p:D28) (q:Int) (hn:len p.2.2.2.1 ≤ 4294967296):uE6 p q ∧ f11 p q = (undL (idL p.2.2.2.1) (paL p.2.2.2.1) p.2.2.2.1.length q).map (idL p.2.2.2.1):=by
 have h0n:=xT7 p.2.2.2.1
 have w:=whole (g:=vS4 (q,p.2.2.2.1,len p.2.2.2.1,())) (next:=wL0 (q,p.2.2.2.1,len p.2.2.2.1,())) (ok:=vN4 (q,p.2.2.2.1,len p.2.2.2.1,())) (belI p.2.2.2.1 q) (fun x=>(len p.2.2.2.1 - x.2.2.1).toNat) (fun x hx=>fun h3=>?_) (fun x hx hg=>?_) (x:=(([]:List Int),([]:List (Int × Bool × Unit)),(0:Int),()))
  ⟨0,rfl,by omega,rfl,by simp [len],fun k=>⟨fun h=>by exact absurd (show false = true from h) (by simp),fun ⟨u,hu,_⟩=>by omega⟩⟩ (by unfold zI1; simp only; omega)
 ·refine ⟨w.1,?_⟩
  obtain ⟨⟨i,hi0,hi1,hl,_⟩,hg⟩:=w.2
  show (zC1 (vS4 (q,p.2.2.2.1,len p.2.2.2.1,())) (wL0 (q,p.2.2.2.1,len p.2.2.2.1,())) (([]:List Int),([]:List (Int × Bool × Unit)),(0:Int),())).1 = _
  rw [hl]
  have hg':¬ (zC1 (vS4 (q,p.2.2.2.1,len p.2.2.2.1,())) (wL0 (q,p.2.2.2.1,len p.2.2.2.1,())) (([]:List Int),([]:List (Int × Bool × Unit)),(0:Int),())).2.2.1 < len p.2.2.2.1:=of_decide_eq_false hg
  have ln:(p.2.2.2.1.length:Int) = len p.2.2.2.1:=rfl
  have:i = p.2.2.2.1.length:=by omega
  rw [this]
 ·have h4:x.2.2.1 < len p.2.2.2.1:=of_decide_eq_true h3
  obtain ⟨i,hi0,hi1,hl,hle,_⟩:=hx
  refine ⟨⟨by omega,h4⟩,fun _=>?_,inr_small (by omega) (by omega)⟩
  have e:len x.1 = (x.1.length:Int):=rfl
  show ((x.1.length + 1:Nat):Int) ≤ 4294967296
  omega
 ·have h4:x.2.2.1 < len p.2.2.2.1:=of_decide_eq_true hg
  obtain ⟨i,hi0,hi1,hl,hle,hm⟩:=hx
  obtain ⟨a,m,i',⟨⟩⟩:=x
  simp only at hi0 hl hle hm h4
  subst hi0
  rw [bel_next]
  have hc:(bif ((nth p.2.2.2.1 (i:Int) Z49).2.2.1 == q) then true else (Option.getD (bf (nth p.2.2.2.1 (i:Int) Z49).2.2.1 m) false)) = true ↔ Und (idL p.2.2.2.1) (paL p.2.2.2.1) q i:=by
   rw [Bool.cond_true_left,Bool.or_eq_true,hm,beq_iff_eq]
   constructor
   ·rintro (h | ⟨u,hu,h1,h2⟩)
    ·exact .top h
    ·exact .sub h1 hu h2.symm
   ·intro h
    cases h with
    | top h=>exact .inl h
    | @sub u _ h1 h2 h3=>exact .inr ⟨u,h2,h1,h3.symm⟩
  refine ⟨?_,(show (len p.2.2.2.1 - ((i:Int) + 1)).toNat < (len p.2.2.2.1 - (i:Int)).toNat by omega)⟩
  cases hb:(bif ((nth p.2.2.2.1 (i:Int) Z49).2.2.1 == q) then true else (Option.getD (bf (nth p.2.2.2.1 (i:Int) Z49).2.2.1 m) false)) with
  | true =>
   have hu:=hc.1 hb
   refine ⟨i + 1,by simp,by omega,?_,?_,fun k=>?_⟩
   ·rw [undL_succ,if_pos hu,List.map_append,← hl]; rfl
   ·show len (a ++ [_]) ≤ _
    rw [len_app,len_one]; omega
   ·show Option.getD (bf k (bs (nth p.2.2.2.1 (i:Int) Z49).1 true m)) false = true ↔ _
    rw [bf_bs]
    by_cases hk:k = (nth p.2.2.2.1 (i:Int) Z49).1
    ·rw [if_pos hk]
     exact ⟨fun _=>⟨i,by omega,hu,hk.symm⟩,fun _=>rfl⟩
    ·rw [if_neg hk,hm k]
     constructor
     ·rintro ⟨u,h1,h2,h3⟩; exact ⟨u,by omega,h2,h3⟩
     ·rintro ⟨u,h1,h2,h3⟩
      have:u ≠ i:=fun e=>hk (by rw [← h3,e]; rfl)
      exact ⟨u,by omega,h2,h3⟩
  | false =>
   have hu:¬ Und (idL p.2.2.2.1) (paL p.2.2.2.1) q i:=fun h=>by rw [hc.2 h] at hb; cases hb
   refine ⟨i + 1,by simp,by omega,?_,?_,fun k=>?_⟩
   ·rw [undL_succ,if_neg hu,List.append_nil]; exact hl
   ·show len a ≤ _
    omega
   ·rw [show (bif false then bs (nth p.2.2.2.1 (i:Int) Z49).1 true m else m) = m from rfl,hm k]
    constructor
    ·rintro ⟨u,h1,h2,h3⟩; exact ⟨u,by omega,h2,h3⟩
    ·rintro ⟨u,h1,h2,h3⟩
     have:u ≠ i:=fun e=>hu (by rw [← e]; exact h2)
     exact ⟨u,by omega,h2,h3⟩
def idsI (l:List D49) (x:wT7):Prop:=∃ i:Nat,x.2.1 = (i:Int) ∧ (i:Int) ≤ len l ∧ x.1 = (List.range i).map (idL l)
theorem ids_spec (p:D28) (hn:len p.2.2.2.1 ≤ 4294967296):uP p ∧ f13 p = (List.range p.2.2.2.1.length).map (idL p.2.2.2.1):=by
 have h0n:=xT7 p.2.2.2.1
 have w:=whole (g:=vR9 (p.2.2.2.1,len p.2.2.2.1,())) (next:=wO4 (p.2.2.2.1,len p.2.2.2.1,())) (ok:=vN2 (p.2.2.2.1,len p.2.2.2.1,())) (idsI p.2.2.2.1) (fun x=>(len p.2.2.2.1 - x.2.1).toNat) (fun x hx=>fun h3=>?_) (fun x hx hg=>?_) (x:=(([]:List Int),(0:Int),()))
  ⟨0,rfl,by omega,rfl⟩ (by unfold zI1; simp only; omega)
 ·refine ⟨w.1,?_⟩
  obtain ⟨⟨i,hi0,hi1,hl⟩,hg⟩:=w.2
  show (zC1 (vR9 (p.2.2.2.1,len p.2.2.2.1,())) (wO4 (p.2.2.2.1,len p.2.2.2.1,())) (([]:List Int),(0:Int),())).1 = _
  rw [hl]
  have hg':¬ (zC1 (vR9 (p.2.2.2.1,len p.2.2.2.1,())) (wO4 (p.2.2.2.1,len p.2.2.2.1,())) (([]:List Int),(0:Int),())).2.1 < len p.2.2.2.1:=of_decide_eq_false hg
  have ln:(p.2.2.2.1.length:Int) = len p.2.2.2.1:=rfl
  have:i = p.2.2.2.1.length:=by omega
  rw [this]
 ·have h4:x.2.1 < len p.2.2.2.1:=of_decide_eq_true h3
  obtain ⟨i,hi0,hi1,hl⟩:=hx
  refine ⟨⟨by omega,h4⟩,?_,inr_small (by omega) (by omega)⟩
  have e:x.1.length = i:=by rw [hl]; simp
  show ((x.1.length + 1:Nat):Int) ≤ 4294967296
  omega
 ·have h4:x.2.1 < len p.2.2.2.1:=of_decide_eq_true hg
  obtain ⟨i,hi0,hi1,hl⟩:=hx
  obtain ⟨a,i',⟨⟩⟩:=x
  simp only at hi0 hl h4
  subst hi0
  refine ⟨⟨i + 1,by show (i:Int) + 1 = _; omega,by omega,?_⟩,(show (len p.2.2.2.1 - ((i:Int) + 1)).toNat < (len p.2.2.2.1 - (i:Int)).toNat by omega)⟩
  show a ++ [(nth p.2.2.2.1 (i:Int) Z49).1] = _
  rw [hl,List.range_succ,List.map_append]; rfl
theorem oI5 (a b:List Int) (ha:len a < 9223372036854775808):f12 a b = eqC (len a) (len b) (ne0 a b):=by
 rw [← eqScan (g:=uE1 (a,b,len a,())) (next:=wX2 (a,b,len a,())) (c:=ne0 a b) (xT7 _) ha (fun _=>rfl) (fun _=>rfl)]
 rfl
theorem oA6 (a b:List Int) (ha:len a < 9223372036854775808):uE2 a b :=
 okScan (g:=uE1 (a,b,len a,())) (next:=wX2 (a,b,len a,())) (c:=ne0 a b) (xT7 _) ha (fun _=>rfl) (fun _=>rfl) fun x _ _ hx h=>by
  have h:=hx (of_decide_eq_true h)
  exact ⟨h.1,h.2.1,fun _=>h.2.2⟩
theorem qW5 (a:List Int) (ha:len a < 9223372036854775808):f12 a a = true:=by
 rw [oI5 a a ha]; exact eqC_self (ne0_self a)
end Go.Proofs.YtpanghcojpnkaaaGreatDoor.Am
