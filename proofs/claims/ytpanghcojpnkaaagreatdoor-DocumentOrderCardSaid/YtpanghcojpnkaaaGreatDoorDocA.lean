/- node.Check answers for every node: the simple parts. Condition: lengths of Go slices. -/
import Derived.Test.YtpanghcojpnkaaaGreatDoorDocP3
import Derived.Test.YtpanghcojpnkaaaGreatDoorMach4
namespace Go.Proofs.YtpanghcojpnkaaaGreatDoor.Am
open Go Go.Am
theorem and_lt {a n:Int} {b:Bool} (h:(decide (a < n) && b) = true):a < n:=by
 simp only [Bool.and_eq_true,decide_eq_true_eq] at h; exact h.1
theorem inr_small {x:Int} (h1:-4611686018427387904 ≤ x) (h2:x ≤ 9223372036854775807):InR x:=by unfold InR; omega
theorem wrap_in {x:Int} (h:InR x):IntKind.wrap .i64 x = x:=by unfold InR at h; rw [IntKind.wrap_i64]; omega
theorem whole {X:Type} {g:X → Bool} {next:X → X} {ok:X → Prop} (inv:X → Prop) (m:X → Nat) (hok:∀ x,inv x → ok x) (hstep:∀ x,inv x → g x = true → inv (next x) ∧ m (next x) < m x) {x:X} (hx:inv x) (hm:m x < zI1) :
  Am.Ends g next ok x ∧ inv (zC1 g next x) ∧ g (zC1 g next x) = false :=
 ⟨xQ1 inv m hok hstep hx hm,xQ0 inv m hstep hx hm⟩
theorem nth_mem {α:Type} {l:List α} {i:Int} {d:α} (h:InB i (len l)):nth l i d ∈ l:=by
 obtain ⟨h1,h2⟩:=h
 have h3:i.toNat < l.length:=by simp only [len] at h2; omega
 show l.getD i.toNat d ∈ l
 rw [List.getD_eq_getElem?_getD,List.getElem?_eq_getElem h3]
 exact List.getElem_mem h3
theorem len_set {α:Type} (l:List α) (i:Nat) (x:α):len (List.set l i x) = len l:=by simp [len]
theorem len_app {α:Type} (l m:List α):len (l ++ m) = len l + len m:=by simp [len]
theorem prod_in {a b:Int} (ha:0 ≤ a ∧ a ≤ 256) (hb:0 ≤ b ∧ b ≤ 256):InR (a * b):=by
 have h1:0 ≤ a * b:=Int.mul_nonneg ha.1 hb.1
 have h2:a * b ≤ 256 * 256:=Int.mul_le_mul ha.2 hb.2 hb.1 (by omega)
 unfold InR; omega
theorem qS2 (p:Int):uU p:=trivial
theorem qA3 (p:Int):tK0 p:=trivial
theorem qA4 (p:Int):tK1 p:=trivial
theorem pX7 (p:Int):sA1 p:=trivial
theorem rC7 (p:Int):uF2 p:=trivial
theorem qS3 (p:Int):uU2 p:=trivial
theorem qS4 (p:Int):uU3 p:=trivial
theorem pX8 (p:Int):tZ2 p:=trivial
theorem sR9 (p:D49):uT9 p:=trivial
theorem pX9 (p q:Int):sA2 p q:=trivial
theorem qS5 (p q:Int):uV p q:=trivial
theorem rC8 (p:Int):uF5 p:=trivial
theorem uS1 (p:D125):vJ2 p:=trivial
theorem qS6 (p q r:Int):uX0 p q r:=trivial
theorem wC8 (p q:D125):wD p q:=trivial
theorem wI8 (p q:D125):wG8 p q:=trivial
theorem tW0 (p q:Int):vU9 p q:=trivial
theorem uS2 (p:Int):vK3 p:=trivial
theorem tW1 (p q r:Int):vU2 p q r:=trivial
theorem uS3 (p:Int):vI8 p:=tW1 _ _ _
theorem vS8 (p:Int):wZ8 p:=tW1 _ _ _
theorem uS4 (p:Int):vJ p:=tW1 _ _ _
theorem rC9 (p:D37):uF3 p:=⟨uS3 _,uS3 _,uS3 _,uS3 _,vS8 _,vS8 _⟩
theorem uH7 (p:D37):vT1 p:=rC9 p
theorem qS7 (p:D42):uU7 p:=⟨uS4 _,uS4 _,uS4 _,uS4 _⟩
theorem tW2 (p:D42):uI7 p:=qS7 p
theorem tW3 (p:D42):vU4 p:=tW2 p
theorem tW4 (a b:Int):vU0 a b:=fun h _=>by
 have:b ≠ 0:=by intro e; subst e; simp at h
 exact ⟨this,this⟩
theorem wA0 (a b:Int):wA8 a b:=fun _ _=>tW4 a b
theorem uS5 (a b c d:Int):vI9 a b c d:=⟨tW4 _ _,tW4 _ _,wA0 _ _⟩
theorem pY (p:D37):sA0 p:=⟨uH7 _,fun _ _=>⟨wA0 _ _,wA0 _ _,wA0 _ _,wA0 _ _,uH7 _,fun _=>⟨uS5 _ _ _ _,uS5 _ _ _ _,uH7 _⟩⟩⟩
theorem qS8 (p:D37) (q:D125):uV6 p q:=⟨rC9 _,vS8 _,vS8 _,uS5 _ _ _ _,vS8 _,uS5 _ _ _ _,vS8 _⟩
theorem rD (p:D37) (q:D125):uF7 p q:=⟨qS8 _ _,wA0 _ _,wA0 _ _⟩
theorem qS9 (s:List UInt8) (h:len s < 9223372036854775808):uU1 s:=fun _ =>
 xV4 (xT7 s) h (fun _ h=>and_lt h) (fun _=>rfl) fun x h1 _=>fun h3=>by
  have h4:x.1 < len s:=of_decide_eq_true h3
  exact ⟨⟨h1,h4⟩,fun _=>⟨h1,h4⟩,fun _=>inr_small (by omega) (by omega)⟩
theorem qA5 (p:D24) (h:len p.2.2.1 < 9223372036854775808):tJ9 p:=fun h0=>by
 have hb:(0 ≤ p.1 ∧ p.1 ≤ 256) ∧ (0 ≤ p.2.1 ∧ p.2.1 ≤ 256):=by
  simp only [Bool.not_eq_true',Bool.cond_true_left,Bool.or_eq_false_iff,decide_eq_false_iff_not] at h0
  omega
 exact ⟨fun _=>prod_in hb.1 hb.2,fun _=>xV4 (xT7 p.2.2.1) h (fun _ h=>and_lt h) (fun _=>rfl) fun x h1 _=>fun h3=>by
  have h4:x.1 < len p.2.2.1:=of_decide_eq_true h3
  exact ⟨⟨h1,h4⟩,pX8 _,fun _=>inr_small (by omega) (by omega)⟩⟩
theorem qA6 (p:D40) (h:len p.2.2.1 < 9223372036854775808):tK2 p:=⟨pX9 _ _,fun h0=>by
  have hb:(0 ≤ p.1 ∧ p.1 ≤ 256) ∧ (0 ≤ p.2.1 ∧ p.2.1 ≤ 256):=by
   have h0:f84 p.1 p.2.1 = true:=by simpa using h0
   simp only [f84,f84t,Bool.cond_false_right,Bool.and_eq_true,decide_eq_true_eq] at h0
   omega
  exact prod_in hb.1 hb.2,fun _=>xV4 (xT7 p.2.2.1) h (fun _ h=>and_lt h) (fun _=>rfl) fun x h1 _=>fun h3=>by
  have h4:x.1 < len p.2.2.1:=of_decide_eq_true h3
  exact ⟨⟨h1,h4⟩,tW2 _,fun _=>inr_small (by omega) (by omega)⟩⟩
theorem pY0 (p:D49) (w h:Int) (hn:len p.2.2.2.1 < 9223372036854775808) (hm:len p.2.2.2.2.2.2.2.2.2.1.2.2.1 < 9223372036854775808):tZ9 p w h :=
 fun _=>⟨qS2 _,fun _=>⟨qS9 _ hn,fun _=>⟨rC7 _,fun _=>rC7 _,fun _=>qS3 _,fun _=>⟨qS4 _,fun _=>sR9 _,fun _=>qA5 _ hm⟩⟩⟩⟩
theorem qT (a:Int) (l:List Int) (b n:Int) (h:len l < 9223372036854775808):uV1 a l b n:=fun _=>by
 refine ⟨qS5 _ _,fun hc _=>⟨xV4 (xT7 l) h (fun _ h=>and_lt h) (fun _=>rfl) fun x h1 _=>fun h3=>?_,?_⟩⟩
 ·have h4:x.1 < len l:=of_decide_eq_true h3
  exact ⟨⟨h1,h4⟩,fun _=>inr_small (by omega) (by omega)⟩
 ·intro _ hk
  have:len l = 4 ∨ len l = 3:=by
   simp only [Bool.not_eq_true',Bool.cond_true_left,Bool.or_eq_false_iff,Bool.not_eq_false'] at hc
   have h1:=hc.1
   simp only [f139,qG6] at h1
   cases hq:(a == 1) <;> simp [hq] at h1 <;> omega
  unfold InB; omega
theorem qT0 (l:List D122) (h:len l < 9223372036854775808):uV3 l :=
 xV4 (xT7 l) h (fun _ h=>and_lt h) (fun _=>rfl) fun x h1 _=>fun h3=>by
  have h4:x.1 < len l:=of_decide_eq_true h3
  exact ⟨⟨h1,h4⟩,fun _=>tW2 _,fun _=>⟨fun h5=>by have h5:=of_decide_eq_true h5; exact inr_small (by omega) (by omega),fun h5=>by have h5:=of_decide_eq_true h5; exact ⟨(show 0 ≤ x.1 - 1 by omega),(show x.1 - 1 < len l by omega)⟩⟩,fun _=>inr_small (by omega) (by omega)⟩
theorem qT1 (a:Int) (l:List Int) (b:Int) (m:List D122) (h:len l < 9223372036854775808) (h':len m < 9223372036854775808):uV4 a l b m:=⟨qT _ _ _ _ h,fun _=>qT0 _ h'⟩
theorem qT2 (p q:Int):tB6 p q:=trivial
theorem qT3 (p q:Int):tB7 p q:=trivial
theorem qT4 (p:Int):tC4 p:=trivial
theorem qT5 (a:Int) (l:List Int) (m:List D122) (hl:len l < 9223372036854775808) (hm:len m < 9223372036854775808) (h9:a = 9 → len l = 3):tC a l m :=
 ⟨xV4 (xT7 l) hl (fun _ h=>and_lt h) (fun _=>rfl) fun x h1 _=>fun h3=>by
  have h4:x.1 < len l:=of_decide_eq_true h3
  exact ⟨⟨h1,h4⟩,qT3 _ _,fun _=>inr_small (by omega) (by omega)⟩,
  fun _=>by
  have key:∀ b:Bool,((a == 9) = true → b = true → False) ∨ True:=fun _=>.inr trivial
  have e3:∀ c:Bool,(bif (a == 9) then c else false) = true → len l = 3:=fun c h=>by
   cases hq:(a == 9) with
   | true=>exact h9 (by simpa using hq)
   | false=>simp [hq] at h
  refine ⟨fun h=>?_,fun h=>?_,fun h=>?_,fun _=>xV4 (xT7 m) hm (fun _ h=>and_lt h) (fun _=>rfl) fun x h1 _=>fun h3=>?_⟩
  ·have:=h9 (by simpa using h); unfold InB; omega
  ·have:=e3 _ h; unfold InB; omega
  ·cases hq:(a == 9) with
   | true=>have:=h9 (by simpa using hq); unfold InB; omega
   | false=>simp [hq] at h
  ·have h4:x.1 < len m:=of_decide_eq_true h3
   exact ⟨⟨h1,h4⟩,fun _=>tW2 _,fun _=>inr_small (by omega) (by omega)⟩⟩
theorem qT6 (a:Int) (l:List Int) (m:List D122) (hm:len m < 9223372036854775808) (h2:a = 2 → len l = 5) (h3:a = 3 → len l ≤ 16):tC2 a l m:=by
 refine ⟨fun h=>?_,fun h=>?_,fun _=>⟨fun h=>?_,fun _=>?_⟩⟩
 ·have:=h2 (by simpa using h); unfold InB; omega
 ·have:=h2 (by simpa using h); unfold InB; omega
 ·have hl:=h3 (by simpa using h)
  refine xQ1 (fun x=>2 ≤ x.1 ∧ x.1 ≤ 18) (fun x=>(20 - x.1).toNat) (fun x hx=>fun hg=>?_) (fun x hx hg=>?_) ⟨by decide,by decide⟩ (by simp [zI1])
  ·have h4:x.1 < len l:=of_decide_eq_true hg
   exact ⟨⟨by omega,h4⟩,inr_small (by omega) (by omega),⟨(show 0 ≤ x.1 - 2 by omega),(show x.1 - 2 < len l by omega)⟩,fun _=>inr_small (by omega) (by omega)⟩
  ·have h4:x.1 < len l:=and_lt hg
   exact ⟨(show 2 ≤ x.1 + 2 ∧ x.1 + 2 ≤ 18 by omega),(show (20 - (x.1 + 2)).toNat < (20 - x.1).toNat by omega)⟩
 ·have e:(bif (a == 3) then m else m) = m:=by cases (a == 3) <;> rfl
  show Am.Ends (vR ((bif (a == 3) then m else m),())) (wT4 ((bif (a == 3) then m else m),())) (wX0 ((bif (a == 3) then m else m),())) (1,())
  rw [e]
  refine xQ1 (fun x=>1 ≤ x.1) (fun x=>(len m - x.1).toNat) (fun x hx=>fun hg=>?_) (fun x hx hg=>?_) (by decide) (by unfold zI1; omega)
  ·have h4:x.1 < len m:=of_decide_eq_true hg
   exact ⟨⟨by omega,h4⟩,inr_small (by omega) (by omega),⟨(show 0 ≤ x.1 - 1 by omega),(show x.1 - 1 < len m by omega)⟩,fun _=>inr_small (by omega) (by omega)⟩
  ·have h4:x.1 < len m:=and_lt hg
   exact ⟨(show 1 ≤ x.1 + 1 by omega),(show (len m - (x.1 + 1)).toNat < (len m - x.1).toNat by omega)⟩
theorem qT7 (a:Int) (l:List Int) (m:List D122) (hl:len l < 9223372036854775808) (hm:len m < 9223372036854775808):tC3 a l m:=by
 intro _
 refine ⟨qT2 _ _,fun hc _=>?_⟩
 have hc:f133 a (len l) = true:=by
  simp only [Bool.cond_true_left,Bool.or_eq_false_iff,Bool.not_eq_false'] at hc
  exact hc.1
 have k9:a = 9 → len l = 3:=by rintro rfl; simpa [f133,rI6] using hc
 have k2:a = 2 → len l = 5:=by rintro rfl; simpa [f133,rI6] using hc
 have k3:a = 3 → len l ≤ 16:=by
  rintro rfl
  simp only [f133,rI6] at hc
  by_cases h:len l ≤ 16
  ·exact h
  ·simp [h] at hc
 exact ⟨qT5 a l m hl hm k9,fun _=>qT6 a l m hm k2 k3⟩
theorem qT8 (a:Int) (l:List Int) (hl:len l < 9223372036854775808):tC6 a l:=by
 intro _
 refine ⟨qT4 _,fun he=>?_⟩
 have he:len l = len (f136 a):=by simpa using he
 exact xV4 (xT7 l) hl (fun _ h=>and_lt h) (fun _=>rfl) fun x h1 _=>fun h3=>by
  have h4:x.1 < len l:=of_decide_eq_true h3
  exact ⟨⟨h1,h4⟩,⟨h1,(show x.1 < len (f136 a) by omega)⟩,fun _=>⟨h1,(show x.1 < len (f136 a) by omega)⟩,fun _=>inr_small (by omega) (by omega)⟩
theorem qT9 (p:D47) (h:len p.2.2.2.1 < 9223372036854775808):tC8 p:=fun h0=>by
 have hb:(0 ≤ p.1 ∧ p.1 ≤ 256) ∧ (0 ≤ p.2.1 ∧ p.2.1 ≤ 256):=by
  simp only [Bool.not_eq_true',Bool.cond_true_left,Bool.or_eq_false_iff,decide_eq_false_iff_not] at h0
  omega
 exact ⟨fun _=>prod_in hb.1 hb.2,fun _=>xV4 (xT7 p.2.2.2.1) h (fun _ h=>and_lt h) (fun _=>rfl) fun x h1 _=>fun h3=>by
  have h4:x.1 < len p.2.2.2.1:=of_decide_eq_true h3
  exact ⟨⟨h1,h4⟩,fun _=>inr_small (by omega) (by omega)⟩⟩
theorem tW5 (l:List (List D125)) (r:Int) (h:len l < 9223372036854775808) (hq:∀ q ∈ l,len q ≤ 4611686018427387904):vU8 l r:=fun _=>by
 refine ⟨?_,fun _=>?_⟩
 ·refine xQ1 (fun x=>(0 ≤ x.1 ∧ x.1 ≤ 4096) ∧ 0 ≤ x.2.1) (fun x=>(len l - x.2.1).toNat) (fun x hx=>fun hg=>?_) (fun x hx hg=>?_) ⟨⟨by decide,by decide⟩,by decide⟩ (by unfold zI1; simp only; omega)
  ·have h4:x.2.1 < len l:=of_decide_eq_true hg
   have h5:=hq _ (nth_mem (d:=([]:List D125)) (i:=x.2.1) ⟨hx.2,h4⟩)
   have h6:=xT7 (nth l x.2.1 ([]:List D125))
   exact ⟨⟨hx.2,h4⟩,inr_small (show _ ≤ x.1 + len (nth l x.2.1 ([]:List D125)) by omega) (show x.1 + len (nth l x.2.1 ([]:List D125)) ≤ _ by omega),fun _=>inr_small (by omega) (by omega)⟩
  ·have h4:x.2.1 < len l:=and_lt hg
   have h6:=xT7 (nth l x.2.1 ([]:List D125))
   have h7:x.1 + len (nth l x.2.1 ([]:List D125)) ≤ 4096:=by
    have hg:(decide (x.2.1 < len l) && !(decide (x.1 + len (nth l x.2.1 ([]:List D125)) > 4096))) = true:=hg
    simp only [Bool.and_eq_true,Bool.not_eq_true',decide_eq_false_iff_not] at hg
    omega
   exact ⟨⟨(show 0 ≤ x.1 + len (nth l x.2.1 ([]:List D125)) ∧ _ from ⟨by omega,h7⟩),(show 0 ≤ x.2.1 + 1 by omega)⟩,(show (len l - (x.2.1 + 1)).toNat < (len l - x.2.1).toNat by omega)⟩
 ·exact xV4 (xT7 l) h (fun _ h=>and_lt h) (fun _=>rfl) fun x h1 _=>fun h3=>by
   have h4:x.1 < len l:=of_decide_eq_true h3
   have h5:=hq _ (nth_mem (d:=([]:List D125)) (i:=x.1) ⟨h1,h4⟩)
   exact ⟨⟨h1,h4⟩,xV4 (xT7 _) (show len (nth l x.1 ([]:List D125)) < _ by omega) (fun _ h=>and_lt h) (fun _=>rfl) fun z k1 _=>fun k3=>by
    have k4:z.1 < len (nth l x.1 ([]:List D125)):=of_decide_eq_true k3
    exact ⟨⟨k1,k4⟩,fun _=>inr_small (by omega) (by omega)⟩,fun _=>inr_small (by omega) (by omega)⟩
end Go.Proofs.YtpanghcojpnkaaaGreatDoor.Am
