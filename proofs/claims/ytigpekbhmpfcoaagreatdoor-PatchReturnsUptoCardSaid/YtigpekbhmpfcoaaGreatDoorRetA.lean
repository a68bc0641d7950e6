/- node.Check answers for every node: the simple parts. Condition: lengths of Go slices. -/
import Derived.Test.YtigpekbhmpfcoaaGreatDoorRetP4
import Derived.Test.YtigpekbhmpfcoaaGreatDoorMach4
namespace Go.Proofs.YtigpekbhmpfcoaaGreatDoor.Am
open Go Go.Am
theorem and_lt {a n:Int} {b:Bool} (h:(decide (a < n) && b) = true):a < n:=by
 simp only [Bool.and_eq_true,decide_eq_true_eq] at h; exact h.1
theorem inr_small {x:Int} (h1:-4611686018427387904 ≤ x) (h2:x ≤ 9223372036854775807):InR x:=by unfold InR; omega
theorem wrap_in {x:Int} (h:InR x):IntKind.wrap .i64 x = x:=by unfold InR at h; rw [IntKind.wrap_i64]; omega
theorem whole {X:Type} {g:X → Bool} {next:X → X} {ok:X → Prop} (inv:X → Prop) (m:X → Nat) (hok:∀ x,inv x → ok x) (hstep:∀ x,inv x → g x = true → inv (next x) ∧ m (next x) < m x) {x:X} (hx:inv x) (hm:m x < zH8) :
  Am.Ends g next ok x ∧ inv (zB9 g next x) ∧ g (zB9 g next x) = false :=
 ⟨xP6 inv m hok hstep hx hm,xP5 inv m hstep hx hm⟩
theorem nth_mem {α:Type} {l:List α} {i:Int} {d:α} (h:InB i (len l)):nth l i d ∈ l:=by
 obtain ⟨h1,h2⟩:=h
 have h3:i.toNat < l.length:=by simp only [len] at h2; omega
 show l.getD i.toNat d ∈ l
 rw [List.getD_eq_getElem?_getD,List.getElem?_eq_getElem h3]
 exact List.getElem_mem h3
theorem len_set {α:Type} (l:List α) (i:Nat) (x:α):len (List.set l i x) = len l:=by simp [len]
theorem len_app {α:Type} (l m:List α):len (l ++ m) = len l + len m:=by simp [len]
theorem prod_in {a b:Int} (ha:0 ≤ a ∧ a ≤ 256) (hb:0 ≤ b ∧ b ≤ 256):InR (a * b):=by
 have h1:0 ≤ a * b:=Int.mul_nonneg ha.1 hb.1
 have h2:a * b ≤ 256 * 256:=Int.mul_le_mul ha.2 hb.2 hb.1 (by omega)
 unfold InR; omega
theorem oV0 (p:Int):sN p:=trivial
theorem qU7 (p:Int):tV9 p:=trivial
theorem qU8 (p:Int):tW0 p:=trivial
theorem oV1 (p:Int):sN7 p:=trivial
theorem qU9 (p:Int):tV8 p:=trivial
theorem oV2 (p:Int):sN2 p:=trivial
theorem oV3 (p:Int):sN3 p:=trivial
theorem oV4 (p:Int):sM8 p:=trivial
theorem rH4 (p:D57):tG1 p:=trivial
theorem oV5 (p q:Int):sN8 p q:=trivial
theorem pN0 (p q:Int):tG9 p q:=trivial
theorem rT0 (p:Int):uP2 p:=trivial
theorem tD5 (p:D94):vO5 p:=trivial
theorem pN1 (p q r:Int):tJ p q r:=trivial
theorem wC1 (p q:D94):wC2 p q:=trivial
theorem wI9 (p q:D94):wG8 p q:=trivial
theorem sI8 (p q:Int):uB0 p q:=trivial
theorem tD6 (p:Int):vP6 p:=trivial
theorem sI9 (p q r:Int):uA5 p q r:=trivial
theorem tD7 (p:Int):vO1 p:=sI9 _ _ _
theorem vY4 (p:Int):vF1 p:=sI9 _ _ _
theorem tD8 (p:Int):vO2 p:=sI9 _ _ _
theorem qV (p:D45):tW p:=⟨tD7 _,tD7 _,tD7 _,tD7 _,vY4 _,vY4 _⟩
theorem uS5 (p:D45):vY6 p:=qV p
theorem pN2 (p:D50):tG5 p:=⟨tD8 _,tD8 _,tD8 _,tD8 _⟩
theorem sJ (p:D50):uT7 p:=pN2 p
theorem rH5 (p:D50):tG8 p:=sJ p
theorem sJ0 (a b:Int):uA2 a b:=fun h _=>by
 have:b ≠ 0:=by intro e; subst e; simp at h
 exact ⟨this,this⟩
theorem wA8 (a b:Int):wC9 a b:=fun _ _=>sJ0 a b
theorem sJ1 (a b c d:Int):uT6 a b c d:=⟨sJ0 _ _,sJ0 _ _,wA8 _ _⟩
theorem oV6 (p:D45):sN6 p:=⟨uS5 _,fun _ _=>⟨wA8 _ _,wA8 _ _,wA8 _ _,wA8 _ _,uS5 _,fun _=>⟨sJ1 _ _ _ _,sJ1 _ _ _ _,uS5 _⟩⟩⟩
theorem pN3 (p:D45) (q:D94):tH5 p q:=⟨qV _,vY4 _,vY4 _,sJ1 _ _ _ _,vY4 _,sJ1 _ _ _ _,vY4 _⟩
theorem rT1 (p:D45) (q:D94):uP4 p q:=⟨pN3 _ _,wA8 _ _,wA8 _ _⟩
theorem oV7 (s:List UInt8) (h:len s < 9223372036854775808):sN1 s:=fun _ =>
 xU6 (xT s) h (fun _ h=>and_lt h) (fun _=>rfl) fun x h1 _=>fun h3=>by
  have h4:x.1 < len s:=of_decide_eq_true h3
  exact ⟨⟨h1,h4⟩,fun _=>⟨h1,h4⟩,fun _=>inr_small (by omega) (by omega)⟩
theorem qV0 (p:D24) (h:len p.2.2.1 < 9223372036854775808):tV7 p:=fun h0=>by
 have hb:(0 ≤ p.1 ∧ p.1 ≤ 256) ∧ (0 ≤ p.2.1 ∧ p.2.1 ≤ 256):=by
  simp only [Bool.not_eq_true',Bool.cond_true_left,Bool.or_eq_false_iff,decide_eq_false_iff_not] at h0
  omega
 exact ⟨fun _=>prod_in hb.1 hb.2,fun _=>xU6 (xT p.2.2.1) h (fun _ h=>and_lt h) (fun _=>rfl) fun x h1 _=>fun h3=>by
  have h4:x.1 < len p.2.2.1:=of_decide_eq_true h3
  exact ⟨⟨h1,h4⟩,oV4 _,fun _=>inr_small (by omega) (by omega)⟩⟩
theorem qV1 (p:D48) (h:len p.2.2.1 < 9223372036854775808):tW1 p:=⟨oV5 _ _,fun h0=>by
  have hb:(0 ≤ p.1 ∧ p.1 ≤ 256) ∧ (0 ≤ p.2.1 ∧ p.2.1 ≤ 256):=by
   have h0:f84 p.1 p.2.1 = true:=by simpa using h0
   simp only [f84,f84t,Bool.cond_false_right,Bool.and_eq_true,decide_eq_true_eq] at h0
   omega
  exact prod_in hb.1 hb.2,fun _=>xU6 (xT p.2.2.1) h (fun _ h=>and_lt h) (fun _=>rfl) fun x h1 _=>fun h3=>by
  have h4:x.1 < len p.2.2.1:=of_decide_eq_true h3
  exact ⟨⟨h1,h4⟩,sJ _,fun _=>inr_small (by omega) (by omega)⟩⟩
theorem oV8 (p:D57) (w h:Int) (hn:len p.2.2.2.1 < 9223372036854775808) (hm:len p.2.2.2.2.2.2.2.2.2.1.2.2.1 < 9223372036854775808):sN4 p w h :=
 fun _=>⟨oV0 _,fun _=>⟨oV7 _ hn,fun _=>⟨qU9 _,fun _=>qU9 _,fun _=>oV2 _,fun _=>⟨oV3 _,fun _=>rH4 _,fun _=>qV0 _ hm⟩⟩⟩⟩
theorem pN4 (a:Int) (l:List Int) (b n:Int) (h:len l < 9223372036854775808):tH0 a l b n:=fun _=>by
 refine ⟨pN0 _ _,fun hc _=>⟨xU6 (xT l) h (fun _ h=>and_lt h) (fun _=>rfl) fun x h1 _=>fun h3=>?_,?_⟩⟩
 ·have h4:x.1 < len l:=of_decide_eq_true h3
  exact ⟨⟨h1,h4⟩,fun _=>inr_small (by omega) (by omega)⟩
 ·intro _ hk
  have:len l = 4 ∨ len l = 3:=by
   simp only [Bool.not_eq_true',Bool.cond_true_left,Bool.or_eq_false_iff,Bool.not_eq_false'] at hc
   have h1:=hc.1
   simp only [f127,pB] at h1
   cases hq:(a == 1) <;> simp [hq] at h1 <;> omega
  unfold InB; omega
theorem pN5 (l:List D91) (h:len l < 9223372036854775808):tH2 l :=
 xU6 (xT l) h (fun _ h=>and_lt h) (fun _=>rfl) fun x h1 _=>fun h3=>by
  have h4:x.1 < len l:=of_decide_eq_true h3
  exact ⟨⟨h1,h4⟩,fun _=>sJ _,fun _=>⟨fun h5=>by have h5:=of_decide_eq_true h5; exact inr_small (by omega) (by omega),fun h5=>by have h5:=of_decide_eq_true h5; exact ⟨(show 0 ≤ x.1 - 1 by omega),(show x.1 - 1 < len l by omega)⟩⟩,fun _=>inr_small (by omega) (by omega)⟩
theorem pN6 (a:Int) (l:List Int) (b:Int) (m:List D91) (h:len l < 9223372036854775808) (h':len m < 9223372036854775808):tH3 a l b m:=⟨pN4 _ _ _ _ h,fun _=>pN5 _ h'⟩
theorem pN7 (p q:Int):tN5 p q:=trivial
theorem pN8 (p q:Int):tN6 p q:=trivial
theorem pN9 (p:Int):tO3 p:=trivial
theorem pO (a:Int) (l:List Int) (m:List D91) (hl:len l < 9223372036854775808) (hm:len m < 9223372036854775808) (h9:a = 9 → len l = 3):tN9 a l m :=
 ⟨xU6 (xT l) hl (fun _ h=>and_lt h) (fun _=>rfl) fun x h1 _=>fun h3=>by
  have h4:x.1 < len l:=of_decide_eq_true h3
  exact ⟨⟨h1,h4⟩,pN8 _ _,fun _=>inr_small (by omega) (by omega)⟩,
  fun _=>by
  have key:∀ b:Bool,((a == 9) = true → b = true → False) ∨ True:=fun _=>.inr trivial
  have e3:∀ c:Bool,(bif (a == 9) then c else false) = true → len l = 3:=fun c h=>by
   cases hq:(a == 9) with
   | true=>exact h9 (by simpa using hq)
   | false=>simp [hq] at h
  refine ⟨fun h=>?_,fun h=>?_,fun h=>?_,fun _=>xU6 (xT m) hm (fun _ h=>and_lt h) (fun _=>rfl) fun x h1 _=>fun h3=>?_⟩
  ·have:=h9 (by simpa using h); unfold InB; omega
  ·have:=e3 _ h; unfold InB; omega
  ·cases hq:(a == 9) with
   | true=>have:=h9 (by simpa using hq); unfold InB; omega
   | false=>simp [hq] at h
  ·have h4:x.1 < len m:=of_decide_eq_true h3
   exact ⟨⟨h1,h4⟩,fun _=>sJ _,fun _=>inr_small (by omega) (by omega)⟩⟩
theorem pO0 (a:Int) (l:List Int) (m:List D91) (hm:len m < 9223372036854775808) (h2:a = 2 → len l = 5) (h3:a = 3 → len l ≤ 16):tO1 a l m:=by
 refine ⟨fun h=>?_,fun h=>?_,fun _=>⟨fun h=>?_,fun _=>?_⟩⟩
 ·have:=h2 (by simpa using h); unfold InB; omega
 ·have:=h2 (by simpa using h); unfold InB; omega
 ·have hl:=h3 (by simpa using h)
  refine xP6 (fun x=>2 ≤ x.1 ∧ x.1 ≤ 18) (fun x=>(20 - x.1).toNat) (fun x hx=>fun hg=>?_) (fun x hx hg=>?_) ⟨by decide,by decide⟩ (by simp [zH8])
  ·have h4:x.1 < len l:=of_decide_eq_true hg
   exact ⟨⟨by omega,h4⟩,inr_small (by omega) (by omega),⟨(show 0 ≤ x.1 - 2 by omega),(show x.1 - 2 < len l by omega)⟩,fun _=>inr_small (by omega) (by omega)⟩
  ·have h4:x.1 < len l:=and_lt hg
   exact ⟨(show 2 ≤ x.1 + 2 ∧ x.1 + 2 ≤ 18 by omega),(show (20 - (x.1 + 2)).toNat < (20 - x.1).toNat by omega)⟩
 ·have e:(bif (a == 3) then m else m) = m:=by cases (a == 3) <;> rfl
  show Am.Ends (vW6 ((bif (a == 3) then m else m),())) (wV8 ((bif (a == 3) then m else m),())) (vA0 ((bif (a == 3) then m else m),())) (1,())
  rw [e]
  refine xP6 (fun x=>1 ≤ x.1) (fun x=>(len m - x.1).toNat) (fun x hx=>fun hg=>?_) (fun x hx hg=>?_) (by decide) (by unfold zH8; omega)
  ·have h4:x.1 < len m:=of_decide_eq_true hg
   exact ⟨⟨by omega,h4⟩,inr_small (by omega) (by omega),⟨(show 0 ≤ x.1 - 1 by omega),(show x.1 - 1 < len m by omega)⟩,fun _=>inr_small (by omega) (by omega)⟩
  ·have h4:x.1 < len m:=and_lt hg
   exact ⟨(show 1 ≤ x.1 + 1 by omega),(show (len m - (x.1 + 1)).toNat < (len m - x.1).toNat by omega)⟩
theorem pO1 (a:Int) (l:List Int) (m:List D91) (hl:len l < 9223372036854775808) (hm:len m < 9223372036854775808):tO2 a l m:=by
 intro _
 refine ⟨pN7 _ _,fun hc _=>?_⟩
 have hc:f121 a (len l) = true:=by
  simp only [Bool.cond_true_left,Bool.or_eq_false_iff,Bool.not_eq_false'] at hc
  exact hc.1
 have k9:a = 9 → len l = 3:=by rintro rfl; simpa [f121,rY8] using hc
 have k2:a = 2 → len l = 5:=by rintro rfl; simpa [f121,rY8] using hc
 have k3:a = 3 → len l ≤ 16:=by
  rintro rfl
  simp only [f121,rY8] at hc
  by_cases h:len l ≤ 16
  ·exact h
  ·simp [h] at hc
 exact ⟨pO a l m hl hm k9,fun _=>pO0 a l m hm k2 k3⟩
theorem pO2 (a:Int) (l:List Int) (hl:len l < 9223372036854775808):tO5 a l:=by
 intro _
 refine ⟨pN9 _,fun he=>?_⟩
 have he:len l = len (f124 a):=by simpa using he
 exact xU6 (xT l) hl (fun _ h=>and_lt h) (fun _=>rfl) fun x h1 _=>fun h3=>by
  have h4:x.1 < len l:=of_decide_eq_true h3
  exact ⟨⟨h1,h4⟩,⟨h1,(show x.1 < len (f124 a) by omega)⟩,fun _=>⟨h1,(show x.1 < len (f124 a) by omega)⟩,fun _=>inr_small (by omega) (by omega)⟩
theorem pO3 (p:D55) (h:len p.2.2.2.1 < 9223372036854775808):tO7 p:=fun h0=>by
 have hb:(0 ≤ p.1 ∧ p.1 ≤ 256) ∧ (0 ≤ p.2.1 ∧ p.2.1 ≤ 256):=by
  simp only [Bool.not_eq_true',Bool.cond_true_left,Bool.or_eq_false_iff,decide_eq_false_iff_not] at h0
  omega
 exact ⟨fun _=>prod_in hb.1 hb.2,fun _=>xU6 (xT p.2.2.2.1) h (fun _ h=>and_lt h) (fun _=>rfl) fun x h1 _=>fun h3=>by
  have h4:x.1 < len p.2.2.2.1:=of_decide_eq_true h3
  exact ⟨⟨h1,h4⟩,fun _=>inr_small (by omega) (by omega)⟩⟩
theorem sJ2 (l:List (List D94)) (r:Int) (h:len l < 9223372036854775808) (hq:∀ q ∈ l,len q ≤ 4611686018427387904):uB l r:=fun _=>by
 refine ⟨?_,fun _=>?_⟩
 ·refine xP6 (fun x=>(0 ≤ x.1 ∧ x.1 ≤ 4096) ∧ 0 ≤ x.2.1) (fun x=>(len l - x.2.1).toNat) (fun x hx=>fun hg=>?_) (fun x hx hg=>?_) ⟨⟨by decide,by decide⟩,by decide⟩ (by unfold zH8; simp only; omega)
  ·have h4:x.2.1 < len l:=of_decide_eq_true hg
   have h5:=hq _ (nth_mem (d:=([]:List D94)) (i:=x.2.1) ⟨hx.2,h4⟩)
   have h6:=xT (nth l x.2.1 ([]:List D94))
   exact ⟨⟨hx.2,h4⟩,inr_small (show _ ≤ x.1 + len (nth l x.2.1 ([]:List D94)) by omega) (show x.1 + len (nth l x.2.1 ([]:List D94)) ≤ _ by omega),fun _=>inr_small (by omega) (by omega)⟩
  ·have h4:x.2.1 < len l:=and_lt hg
   have h6:=xT (nth l x.2.1 ([]:List D94))
   have h7:x.1 + len (nth l x.2.1 ([]:List D94)) ≤ 4096:=by
    have hg:(decide (x.2.1 < len l) && !(decide (x.1 + len (nth l x.2.1 ([]:List D94)) > 4096))) = true:=hg
    simp only [Bool.and_eq_true,Bool.not_eq_true',decide_eq_false_iff_not] at hg
    omega
   exact ⟨⟨(show 0 ≤ x.1 + len (nth l x.2.1 ([]:List D94)) ∧ _ from ⟨by omega,h7⟩),(show 0 ≤ x.2.1 + 1 by omega)⟩,(show (len l - (x.2.1 + 1)).toNat < (len l - x.2.1).toNat by omega)⟩
 ·exact xU6 (xT l) h (fun _ h=>and_lt h) (fun _=>rfl) fun x h1 _=>fun h3=>by
   have h4:x.1 < len l:=of_decide_eq_true h3
   have h5:=hq _ (nth_mem (d:=([]:List D94)) (i:=x.1) ⟨h1,h4⟩)
   exact ⟨⟨h1,h4⟩,xU6 (xT _) (show len (nth l x.1 ([]:List D94)) < _ by omega) (fun _ h=>and_lt h) (fun _=>rfl) fun z k1 _=>fun k3=>by
    have k4:z.1 < len (nth l x.1 ([]:List D94)):=of_decide_eq_true k3
    exact ⟨⟨k1,k4⟩,fun _=>inr_small (by omega) (by omega)⟩,fun _=>inr_small (by omega) (by omega)⟩
end Go.Proofs.YtigpekbhmpfcoaaGreatDoor.Am
