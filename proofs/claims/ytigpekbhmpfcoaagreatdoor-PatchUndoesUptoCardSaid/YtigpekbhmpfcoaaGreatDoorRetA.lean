/- node.Check answers for every node: the simple parts. Condition: lengths of Go slices. -/
import Derived.Test.YtigpekbhmpfcoaaGreatDoorRetP4
import Derived.Test.YtigpekbhmpfcoaaGreatDoorMach4
namespace Go.Proofs.YtigpekbhmpfcoaaGreatDoor.Am
open Go Go.Am
theorem and_lt {a n:Int} {b:Bool} (h:(decide (a < n) && b) = true):a < n:=by
 simp only [Bool.and_eq_true,decide_eq_true_eq] at h; exact h.1
theorem inr_small {x:Int} (h1:-4611686018427387904 ≤ x) (h2:x ≤ 9223372036854775807):InR x:=by unfold InR; omega
theorem wrap_in {x:Int} (h:InR x):IntKind.wrap .i64 x = x:=by unfold InR at h; rw [IntKind.wrap_i64]; omega
theorem whole {X:Type} {g:X → Bool} {next:X → X} {ok:X → Prop} (inv:X → Prop) (m:X → Nat) (hok:∀ x,inv x → ok x) (hstep:∀ x,inv x → g x = true → inv (next x) ∧ m (next x) < m x) {x:X} (hx:inv x) (hm:m x < zH8) :
  Am.Ends g next ok x ∧ inv (zB9 g next x) ∧ g (zB9 g next x) = false :=
 ⟨xP6 inv m hok hstep hx hm,xP5 inv m hstep hx hm⟩
theorem nth_mem {α:Type} {l:List α} {i:Int} {d:α} (h:InB i (len l)):nth l i d ∈ l:=by
 obtain ⟨h1,h2⟩:=h
 have h3:i.toNat < l.length:=by simp only [len] at h2; omega
 show l.getD i.toNat d ∈ l
 rw [List.getD_eq_getElem?_getD,List.getElem?_eq_getElem h3]
 exact List.getElem_mem h3
theorem len_set {α:Type} (l:List α) (i:Nat) (x:α):len (List.set l i x) = len l:=by simp [len]
theorem len_app {α:Type} (l m:List α):len (l ++ m) = len l + len m:=by simp [len]
theorem prod_in {a b:Int} (ha:0 ≤ a ∧ a ≤ 256) (hb:0 ≤ b ∧ b ≤ 256):InR (a * b):=by
 have h1:0 ≤ a * b:=Int.mul_nonneg ha.1 hb.1
 have h2:a * b ≤ 256 * 256:=Int.mul_le_mul ha.2 hb.2 hb.1 (by omega)
 unfold InR; omega
theorem oT9 (p:Int):sL2 p:=trivial
theorem qT5 (p:Int):tT9 p:=trivial
theorem qT6 (p:Int):tU0 p:=trivial
theorem oU (p:Int):sM p:=trivial
theorem qT7 (p:Int):tT8 p:=trivial
theorem oU0 (p:Int):sL5 p:=trivial
theorem oU1 (p:Int):sL6 p:=trivial
theorem oU2 (p:Int):sL0 p:=trivial
theorem rF8 (p:D57):tE p:=trivial
theorem oU3 (p q:Int):sM0 p q:=trivial
theorem pL8 (p q:Int):tE7 p q:=trivial
theorem rS (p:Int):uN0 p:=trivial
theorem tB1 (p:D94):vN p:=trivial
theorem pL9 (p q r:Int):tG8 p q r:=trivial
theorem wB9 (p q:D94):wC p q:=trivial
theorem wI5 (p q:D94):wG5 p q:=trivial
theorem sG8 (p q:Int):vZ3 p q:=trivial
theorem tB2 (p:Int):vO0 p:=trivial
theorem sG9 (p q r:Int):vY8 p q r:=trivial
theorem tB3 (p:Int):vM6 p:=sG9 _ _ _
theorem vW7 (p:Int):vE1 p:=sG9 _ _ _
theorem tB4 (p:Int):vM7 p:=sG9 _ _ _
theorem qT8 (p:D45):tU p:=⟨tB3 _,tB3 _,tB3 _,tB3 _,vW7 _,vW7 _⟩
theorem uQ2 (p:D45):vX0 p:=qT8 p
theorem pM (p:D50):tE3 p:=⟨tB4 _,tB4 _,tB4 _,tB4 _⟩
theorem sH (p:D50):uR4 p:=pM p
theorem rF9 (p:D50):tE6 p:=sH p
theorem sH0 (a b:Int):vY5 a b:=fun h _=>by
 have:b ≠ 0:=by intro e; subst e; simp at h
 exact ⟨this,this⟩
theorem wA7 (a b:Int):wC6 a b:=fun _ _=>sH0 a b
theorem sH1 (a b c d:Int):uR3 a b c d:=⟨sH0 _ _,sH0 _ _,wA7 _ _⟩
theorem oU4 (p:D45):sL9 p:=⟨uQ2 _,fun _ _=>⟨wA7 _ _,wA7 _ _,wA7 _ _,wA7 _ _,uQ2 _,fun _=>⟨sH1 _ _ _ _,sH1 _ _ _ _,uQ2 _⟩⟩⟩
theorem pM0 (p:D45) (q:D94):tF3 p q:=⟨qT8 _,vW7 _,vW7 _,sH1 _ _ _ _,vW7 _,sH1 _ _ _ _,vW7 _⟩
theorem rS0 (p:D45) (q:D94):uN2 p q:=⟨pM0 _ _,wA7 _ _,wA7 _ _⟩
theorem oU5 (s:List UInt8) (h:len s < 9223372036854775808):sL4 s:=fun _ =>
 xU6 (xT s) h (fun _ h=>and_lt h) (fun _=>rfl) fun x h1 _=>fun h3=>by
  have h4:x.1 < len s:=of_decide_eq_true h3
  exact ⟨⟨h1,h4⟩,fun _=>⟨h1,h4⟩,fun _=>inr_small (by omega) (by omega)⟩
theorem qT9 (p:D24) (h:len p.2.2.1 < 9223372036854775808):tT7 p:=fun h0=>by
 have hb:(0 ≤ p.1 ∧ p.1 ≤ 256) ∧ (0 ≤ p.2.1 ∧ p.2.1 ≤ 256):=by
  simp only [Bool.not_eq_true',Bool.cond_true_left,Bool.or_eq_false_iff,decide_eq_false_iff_not] at h0
  omega
 exact ⟨fun _=>prod_in hb.1 hb.2,fun _=>xU6 (xT p.2.2.1) h (fun _ h=>and_lt h) (fun _=>rfl) fun x h1 _=>fun h3=>by
  have h4:x.1 < len p.2.2.1:=of_decide_eq_true h3
  exact ⟨⟨h1,h4⟩,oU2 _,fun _=>inr_small (by omega) (by omega)⟩⟩
theorem qU (p:D48) (h:len p.2.2.1 < 9223372036854775808):tU1 p:=⟨oU3 _ _,fun h0=>by
  have hb:(0 ≤ p.1 ∧ p.1 ≤ 256) ∧ (0 ≤ p.2.1 ∧ p.2.1 ≤ 256):=by
   have h0:f84 p.1 p.2.1 = true:=by simpa using h0
   simp only [f84,f84t,Bool.cond_false_right,Bool.and_eq_true,decide_eq_true_eq] at h0
   omega
  exact prod_in hb.1 hb.2,fun _=>xU6 (xT p.2.2.1) h (fun _ h=>and_lt h) (fun _=>rfl) fun x h1 _=>fun h3=>by
  have h4:x.1 < len p.2.2.1:=of_decide_eq_true h3
  exact ⟨⟨h1,h4⟩,sH _,fun _=>inr_small (by omega) (by omega)⟩⟩
theorem oU6 (p:D57) (w h:Int) (hn:len p.2.2.2.1 < 9223372036854775808) (hm:len p.2.2.2.2.2.2.2.2.2.1.2.2.1 < 9223372036854775808):sL7 p w h :=
 fun _=>⟨oT9 _,fun _=>⟨oU5 _ hn,fun _=>⟨qT7 _,fun _=>qT7 _,fun _=>oU0 _,fun _=>⟨oU1 _,fun _=>rF8 _,fun _=>qT9 _ hm⟩⟩⟩⟩
theorem pM1 (a:Int) (l:List Int) (b n:Int) (h:len l < 9223372036854775808):tE9 a l b n:=fun _=>by
 refine ⟨pL8 _ _,fun hc _=>⟨xU6 (xT l) h (fun _ h=>and_lt h) (fun _=>rfl) fun x h1 _=>fun h3=>?_,?_⟩⟩
 ·have h4:x.1 < len l:=of_decide_eq_true h3
  exact ⟨⟨h1,h4⟩,fun _=>inr_small (by omega) (by omega)⟩
 ·intro _ hk
  have:len l = 4 ∨ len l = 3:=by
   simp only [Bool.not_eq_true',Bool.cond_true_left,Bool.or_eq_false_iff,Bool.not_eq_false'] at hc
   have h1:=hc.1
   simp only [f127,qZ7] at h1
   cases hq:(a == 1) <;> simp [hq] at h1 <;> omega
  unfold InB; omega
theorem pM2 (l:List D91) (h:len l < 9223372036854775808):tF0 l :=
 xU6 (xT l) h (fun _ h=>and_lt h) (fun _=>rfl) fun x h1 _=>fun h3=>by
  have h4:x.1 < len l:=of_decide_eq_true h3
  exact ⟨⟨h1,h4⟩,fun _=>sH _,fun _=>⟨fun h5=>by have h5:=of_decide_eq_true h5; exact inr_small (by omega) (by omega),fun h5=>by have h5:=of_decide_eq_true h5; exact ⟨(show 0 ≤ x.1 - 1 by omega),(show x.1 - 1 < len l by omega)⟩⟩,fun _=>inr_small (by omega) (by omega)⟩
theorem pM3 (a:Int) (l:List Int) (b:Int) (m:List D91) (h:len l < 9223372036854775808) (h':len m < 9223372036854775808):tF1 a l b m:=⟨pM1 _ _ _ _ h,fun _=>pM2 _ h'⟩
theorem pM4 (p q:Int):tL3 p q:=trivial
theorem pM5 (p q:Int):tL4 p q:=trivial
theorem pM6 (p:Int):tM1 p:=trivial
theorem pM7 (a:Int) (l:List Int) (m:List D91) (hl:len l < 9223372036854775808) (hm:len m < 9223372036854775808) (h9:a = 9 → len l = 3):tL7 a l m :=
 ⟨xU6 (xT l) hl (fun _ h=>and_lt h) (fun _=>rfl) fun x h1 _=>fun h3=>by
  have h4:x.1 < len l:=of_decide_eq_true h3
  exact ⟨⟨h1,h4⟩,pM5 _ _,fun _=>inr_small (by omega) (by omega)⟩,
  fun _=>by
  have key:∀ b:Bool,((a == 9) = true → b = true → False) ∨ True:=fun _=>.inr trivial
  have e3:∀ c:Bool,(bif (a == 9) then c else false) = true → len l = 3:=fun c h=>by
   cases hq:(a == 9) with
   | true=>exact h9 (by simpa using hq)
   | false=>simp [hq] at h
  refine ⟨fun h=>?_,fun h=>?_,fun h=>?_,fun _=>xU6 (xT m) hm (fun _ h=>and_lt h) (fun _=>rfl) fun x h1 _=>fun h3=>?_⟩
  ·have:=h9 (by simpa using h); unfold InB; omega
  ·have:=e3 _ h; unfold InB; omega
  ·cases hq:(a == 9) with
   | true=>have:=h9 (by simpa using hq); unfold InB; omega
   | false=>simp [hq] at h
  ·have h4:x.1 < len m:=of_decide_eq_true h3
   exact ⟨⟨h1,h4⟩,fun _=>sH _,fun _=>inr_small (by omega) (by omega)⟩⟩
theorem pM8 (a:Int) (l:List Int) (m:List D91) (hm:len m < 9223372036854775808) (h2:a = 2 → len l = 5) (h3:a = 3 → len l ≤ 16):tM a l m:=by
 refine ⟨fun h=>?_,fun h=>?_,fun _=>⟨fun h=>?_,fun _=>?_⟩⟩
 ·have:=h2 (by simpa using h); unfold InB; omega
 ·have:=h2 (by simpa using h); unfold InB; omega
 ·have hl:=h3 (by simpa using h)
  refine xP6 (fun x=>2 ≤ x.1 ∧ x.1 ≤ 18) (fun x=>(20 - x.1).toNat) (fun x hx=>fun hg=>?_) (fun x hx hg=>?_) ⟨by decide,by decide⟩ (by simp [zH8])
  ·have h4:x.1 < len l:=of_decide_eq_true hg
   exact ⟨⟨by omega,h4⟩,inr_small (by omega) (by omega),⟨(show 0 ≤ x.1 - 2 by omega),(show x.1 - 2 < len l by omega)⟩,fun _=>inr_small (by omega) (by omega)⟩
  ·have h4:x.1 < len l:=and_lt hg
   exact ⟨(show 2 ≤ x.1 + 2 ∧ x.1 + 2 ≤ 18 by omega),(show (20 - (x.1 + 2)).toNat < (20 - x.1).toNat by omega)⟩
 ·have e:(bif (a == 3) then m else m) = m:=by cases (a == 3) <;> rfl
  show Am.Ends (vU9 ((bif (a == 3) then m else m),())) (wV ((bif (a == 3) then m else m),())) (wZ3 ((bif (a == 3) then m else m),())) (1,())
  rw [e]
  refine xP6 (fun x=>1 ≤ x.1) (fun x=>(len m - x.1).toNat) (fun x hx=>fun hg=>?_) (fun x hx hg=>?_) (by decide) (by unfold zH8; omega)
  ·have h4:x.1 < len m:=of_decide_eq_true hg
   exact ⟨⟨by omega,h4⟩,inr_small (by omega) (by omega),⟨(show 0 ≤ x.1 - 1 by omega),(show x.1 - 1 < len m by omega)⟩,fun _=>inr_small (by omega) (by omega)⟩
  ·have h4:x.1 < len m:=and_lt hg
   exact ⟨(show 1 ≤ x.1 + 1 by omega),(show (len m - (x.1 + 1)).toNat < (len m - x.1).toNat by omega)⟩
theorem pM9 (a:Int) (l:List Int) (m:List D91) (hl:len l < 9223372036854775808) (hm:len m < 9223372036854775808):tM0 a l m:=by
 intro _
 refine ⟨pM4 _ _,fun hc _=>?_⟩
 have hc:f121 a (len l) = true:=by
  simp only [Bool.cond_true_left,Bool.or_eq_false_iff,Bool.not_eq_false'] at hc
  exact hc.1
 have k9:a = 9 → len l = 3:=by rintro rfl; simpa [f121,rX7] using hc
 have k2:a = 2 → len l = 5:=by rintro rfl; simpa [f121,rX7] using hc
 have k3:a = 3 → len l ≤ 16:=by
  rintro rfl
  simp only [f121,rX7] at hc
  by_cases h:len l ≤ 16
  ·exact h
  ·simp [h] at hc
 exact ⟨pM7 a l m hl hm k9,fun _=>pM8 a l m hm k2 k3⟩
theorem pN (a:Int) (l:List Int) (hl:len l < 9223372036854775808):tM3 a l:=by
 intro _
 refine ⟨pM6 _,fun he=>?_⟩
 have he:len l = len (f124 a):=by simpa using he
 exact xU6 (xT l) hl (fun _ h=>and_lt h) (fun _=>rfl) fun x h1 _=>fun h3=>by
  have h4:x.1 < len l:=of_decide_eq_true h3
  exact ⟨⟨h1,h4⟩,⟨h1,(show x.1 < len (f124 a) by omega)⟩,fun _=>⟨h1,(show x.1 < len (f124 a) by omega)⟩,fun _=>inr_small (by omega) (by omega)⟩
theorem pN0 (p:D55) (h:len p.2.2.2.1 < 9223372036854775808):tM5 p:=fun h0=>by
 have hb:(0 ≤ p.1 ∧ p.1 ≤ 256) ∧ (0 ≤ p.2.1 ∧ p.2.1 ≤ 256):=by
  simp only [Bool.not_eq_true',Bool.cond_true_left,Bool.or_eq_false_iff,decide_eq_false_iff_not] at h0
  omega
 exact ⟨fun _=>prod_in hb.1 hb.2,fun _=>xU6 (xT p.2.2.2.1) h (fun _ h=>and_lt h) (fun _=>rfl) fun x h1 _=>fun h3=>by
  have h4:x.1 < len p.2.2.2.1:=of_decide_eq_true h3
  exact ⟨⟨h1,h4⟩,fun _=>inr_small (by omega) (by omega)⟩⟩
theorem sH2 (l:List (List D94)) (r:Int) (h:len l < 9223372036854775808) (hq:∀ q ∈ l,len q ≤ 4611686018427387904):vZ2 l r:=fun _=>by
 refine ⟨?_,fun _=>?_⟩
 ·refine xP6 (fun x=>(0 ≤ x.1 ∧ x.1 ≤ 4096) ∧ 0 ≤ x.2.1) (fun x=>(len l - x.2.1).toNat) (fun x hx=>fun hg=>?_) (fun x hx hg=>?_) ⟨⟨by decide,by decide⟩,by decide⟩ (by unfold zH8; simp only; omega)
  ·have h4:x.2.1 < len l:=of_decide_eq_true hg
   have h5:=hq _ (nth_mem (d:=([]:List D94)) (i:=x.2.1) ⟨hx.2,h4⟩)
   have h6:=xT (nth l x.2.1 ([]:List D94))
   exact ⟨⟨hx.2,h4⟩,inr_small (show _ ≤ x.1 + len (nth l x.2.1 ([]:List D94)) by omega) (show x.1 + len (nth l x.2.1 ([]:List D94)) ≤ _ by omega),fun _=>inr_small (by omega) (by omega)⟩
  ·have h4:x.2.1 < len l:=and_lt hg
   have h6:=xT (nth l x.2.1 ([]:List D94))
   have h7:x.1 + len (nth l x.2.1 ([]:List D94)) ≤ 4096:=by
    have hg:(decide (x.2.1 < len l) && !(decide (x.1 + len (nth l x.2.1 ([]:List D94)) > 4096))) = true:=hg
    simp only [Bool.and_eq_true,Bool.not_eq_true',decide_eq_false_iff_not] at hg
    omega
   exact ⟨⟨(show 0 ≤ x.1 + len (nth l x.2.1 ([]:List D94)) ∧ _ from ⟨by omega,h7⟩),(show 0 ≤ x.2.1 + 1 by omega)⟩,(show (len l - (x.2.1 + 1)).toNat < (len l - x.2.1).toNat by omega)⟩
 ·exact xU6 (xT l) h (fun _ h=>and_lt h) (fun _=>rfl) fun x h1 _=>fun h3=>by
   have h4:x.1 < len l:=of_decide_eq_true h3
   have h5:=hq _ (nth_mem (d:=([]:List D94)) (i:=x.1) ⟨h1,h4⟩)
   exact ⟨⟨h1,h4⟩,xU6 (xT _) (show len (nth l x.1 ([]:List D94)) < _ by omega) (fun _ h=>and_lt h) (fun _=>rfl) fun z k1 _=>fun k3=>by
    have k4:z.1 < len (nth l x.1 ([]:List D94)):=of_decide_eq_true k3
    exact ⟨⟨k1,k4⟩,fun _=>inr_small (by omega) (by omega)⟩,fun _=>inr_small (by omega) (by omega)⟩
end Go.Proofs.YtigpekbhmpfcoaaGreatDoor.Am
