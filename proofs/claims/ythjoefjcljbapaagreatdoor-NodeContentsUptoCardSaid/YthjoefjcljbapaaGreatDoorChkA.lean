/- node.Check answers for every node: the simple parts. Condition: lengths of Go slices. -/
import Derived.Test.YthjoefjcljbapaaGreatDoorChkP3
import Derived.Test.YthjoefjcljbapaaGreatDoorMach4
namespace Go.Proofs.YthjoefjcljbapaaGreatDoor.Am
open Go Go.Am
theorem and_lt {a n : Int} {b : Bool} (h : (decide (a < n) && b) = true) : a < n := by
  simp only [Bool.and_eq_true, decide_eq_true_eq] at h; exact h.1
theorem inr_small {x : Int} (h1 : -4611686018427387904 ≤ x) (h2 : x ≤ 9223372036854775807) : InR x := by unfold InR; omega
theorem wrap_in {x : Int} (h : InR x) : IntKind.wrap .i64 x = x := by unfold InR at h; rw [IntKind.wrap_i64]; omega
theorem whole {X : Type} {g : X → Bool} {next : X → X} {ok : X → Prop} (inv : X → Prop) (m : X → Nat) (hok : ∀ x, inv x → ok x) (hstep : ∀ x, inv x → g x = true → inv (next x) ∧ m (next x) < m x) {x : X} (hx : inv x) (hm : m x < fuel) :
    Am.Ends g next ok x ∧ inv (loopEnd g next x) ∧ g (loopEnd g next x) = false :=
  ⟨ends_ind inv m hok hstep hx hm, loop_ind inv m hstep hx hm⟩
theorem fuel_big {n : Nat} (h : n ≤ 9223372036854775807) : n < fuel := by unfold fuel; omega
theorem nth_mem {α : Type} {l : List α} {i : Int} {d : α} (h : InB i (len l)) : nth l i d ∈ l := by
  obtain ⟨h1, h2⟩ := h
  have h3 : i.toNat < l.length := by simp only [len] at h2; omega
  show l.getD i.toNat d ∈ l
  rw [List.getD_eq_getElem?_getD, List.getElem?_eq_getElem h3]
  exact List.getElem_mem h3
theorem len_set {α : Type} (l : List α) (i : Nat) (x : α) : len (List.set l i x) = len l := by simp [len]
theorem len_app {α : Type} (l m : List α) : len (l ++ m) = len l + len m := by simp [len]
theorem prod_in {a b : Int} (ha : 0 ≤ a ∧ a ≤ 256) (hb : 0 ≤ b ∧ b ≤ 256) : InR (a * b) := by
  have h1 : 0 ≤ a * b := Int.mul_nonneg ha.1 hb.1
  have h2 : a * b ≤ 256 * 256 := Int.mul_le_mul ha.2 hb.2 hb.1 (by omega)
  unfold InR; omega
theorem f9_all (p : Int) : f9_ok p := trivial
theorem f15_all (p : Int) : f15_ok p := trivial
theorem f17_all (p : Int) : f17_ok p := trivial
theorem f26_all (p : Int) : f26_ok p := trivial
theorem f47_all (p : Int) : f47_ok p := trivial
theorem f48_all (p : Int) : f48_ok p := trivial
theorem f49_all (p : Int) : f49_ok p := trivial
theorem f69_all (p : Int) : f69_ok p := trivial
theorem f31_all (p : D37) : f31_ok p := trivial
theorem f73_all (p q : Int) : f73_ok p q := trivial
theorem f93_all (p q : Int) : f93_ok p q := trivial
theorem f95_all (p : Int) : f95_ok p := trivial
theorem f97_all (p : D55) : f97_ok p := trivial
theorem f99_all (p q r : Int) : f99_ok p q r := trivial
theorem f116_all (p q : D55) : f116_ok p q := trivial
theorem f117_all (p q : D55) : f117_ok p q := trivial
theorem f142_all (p q : Int) : f142_ok p q := trivial
theorem f143_all (p : Int) : f143_ok p := trivial
theorem f91_all (p q r : Int) : f91_ok p q r := trivial
theorem f70_all (p : Int) : f70_ok p := f91_all _ _ _
theorem f71_all (p : Int) : f71_ok p := f91_all _ _ _
theorem f109_all (p : Int) : f109_ok p := f91_all _ _ _
theorem f51_all (p : D25) : f51_ok p := ⟨f70_all _, f70_all _, f70_all _, f70_all _, f71_all _, f71_all _⟩
theorem f24_all (p : D25) : f24_ok p := f51_all p
theorem f92_all (p : D30) : f92_ok p := ⟨f109_all _, f109_all _, f109_all _, f109_all _⟩
theorem f74_all (p : D30) : f74_ok p := f92_all p
theorem f55_all (p : D30) : f55_ok p := f74_all p
theorem f72_all (a b : Int) : f72_ok a b := fun h _ => by
  have : b ≠ 0 := by intro e; subst e; simp at h
  exact ⟨this, this⟩
theorem f52_all (a b : Int) : f52_ok a b := fun _ _ => f72_all a b
theorem f53_all (a b c d : Int) : f53_ok a b c d := ⟨f72_all _ _, f72_all _ _, f52_all _ _⟩
theorem f25_all (p : D25) : f25_ok p := ⟨f24_all _, fun _ _ => ⟨f52_all _ _, f52_all _ _, f52_all _ _, f52_all _ _, f24_all _, fun _ => ⟨f53_all _ _ _ _, f53_all _ _ _ _, f24_all _⟩⟩⟩
theorem f110_all (p : D25) (q : D55) : f110_ok p q := ⟨f51_all _, f71_all _, f71_all _, f53_all _ _ _ _, f71_all _, f53_all _ _ _ _, f71_all _⟩
theorem f96_all (p : D25) (q : D55) : f96_ok p q := ⟨f110_all _ _, f52_all _ _, f52_all _ _⟩
theorem f46_all (s : List UInt8) (h : len s < 9223372036854775808) : f46_ok s := fun _ =>
  scan_ends (len_nonneg s) h (fun _ h => and_lt h) (fun _ => rfl) fun x h1 _ => fun h3 => by
    have h4 : x.1 < len s := of_decide_eq_true h3
    exact ⟨⟨h1, h4⟩, fun _ => ⟨h1, h4⟩, fun _ => inr_small (by omega) (by omega)⟩
theorem f50_all (p : D23) (h : len p.2.2.1 < 9223372036854775808) : f50_ok p := fun h0 => by
  have hb : (0 ≤ p.1 ∧ p.1 ≤ 256) ∧ (0 ≤ p.2.1 ∧ p.2.1 ≤ 256) := by
    simp only [Bool.not_eq_true', Bool.cond_true_left, Bool.or_eq_false_iff, decide_eq_false_iff_not] at h0
    omega
  exact ⟨fun _ => prod_in hb.1 hb.2, fun _ => scan_ends (len_nonneg p.2.2.1) h (fun _ h => and_lt h) (fun _ => rfl) fun x h1 _ => fun h3 => by
    have h4 : x.1 < len p.2.2.1 := of_decide_eq_true h3
    exact ⟨⟨h1, h4⟩, f69_all _, fun _ => inr_small (by omega) (by omega)⟩⟩
theorem f54_all (p : D28) (h : len p.2.2.1 < 9223372036854775808) : f54_ok p := ⟨f73_all _ _, fun h0 => by
    have hb : (0 ≤ p.1 ∧ p.1 ≤ 256) ∧ (0 ≤ p.2.1 ∧ p.2.1 ≤ 256) := by
      have h0 : f73 p.1 p.2.1 = true := by simpa using h0
      simp only [f73, f73t, Bool.cond_false_right, Bool.and_eq_true, decide_eq_true_eq] at h0
      omega
    exact prod_in hb.1 hb.2, fun _ => scan_ends (len_nonneg p.2.2.1) h (fun _ h => and_lt h) (fun _ => rfl) fun x h1 _ => fun h3 => by
    have h4 : x.1 < len p.2.2.1 := of_decide_eq_true h3
    exact ⟨⟨h1, h4⟩, f74_all _, fun _ => inr_small (by omega) (by omega)⟩⟩
theorem f23_all (p : D37) (w h : Int) (hn : len p.2.2.2.1 < 9223372036854775808) (hm : len p.2.2.2.2.2.2.2.2.2.1.2.2.1 < 9223372036854775808) : f23_ok p w h :=
  fun _ => ⟨f9_all _, fun _ => ⟨f46_all _ hn, fun _ => ⟨f47_all _, fun _ => f47_all _, fun _ => f48_all _, fun _ => ⟨f49_all _, fun _ => f31_all _, fun _ => f50_all _ hm⟩⟩⟩⟩
theorem f75_all (a : Int) (l : List Int) (b n : Int) (h : len l < 9223372036854775808) : f75_ok a l b n := fun _ => by
  refine ⟨f93_all _ _, fun hc _ => ⟨scan_ends (len_nonneg l) h (fun _ h => and_lt h) (fun _ => rfl) fun x h1 _ => fun h3 => ?_, ?_⟩⟩
  · have h4 : x.1 < len l := of_decide_eq_true h3
    exact ⟨⟨h1, h4⟩, fun _ => inr_small (by omega) (by omega)⟩
  · intro _ hk
    have : len l = 4 ∨ len l = 3 := by
      simp only [Bool.not_eq_true', Bool.cond_true_left, Bool.or_eq_false_iff, Bool.not_eq_false'] at hc
      have h1 := hc.1
      simp only [f93, f93t] at h1
      cases hq : (a == 1) <;> simp [hq] at h1 <;> omega
    unfold InB; omega
theorem f76_all (l : List D53) (h : len l < 9223372036854775808) : f76_ok l :=
  scan_ends (len_nonneg l) h (fun _ h => and_lt h) (fun _ => rfl) fun x h1 _ => fun h3 => by
    have h4 : x.1 < len l := of_decide_eq_true h3
    exact ⟨⟨h1, h4⟩, fun _ => f74_all _, fun _ => ⟨fun h5 => by have h5 := of_decide_eq_true h5; exact inr_small (by omega) (by omega), fun h5 => by have h5 := of_decide_eq_true h5; exact ⟨(show 0 ≤ x.1 - 1 by omega), (show x.1 - 1 < len l by omega)⟩⟩, fun _ => inr_small (by omega) (by omega)⟩
theorem f56_all (a : Int) (l : List Int) (b : Int) (m : List D53) (h : len l < 9223372036854775808) (h' : len m < 9223372036854775808) : f56_ok a l b m := ⟨f75_all _ _ _ _ h, fun _ => f76_all _ h'⟩
theorem f85_all (p q : Int) : f85_ok p q := trivial
theorem f108_all (p q : Int) : f108_ok p q := trivial
theorem f88_all (p : Int) : f88_ok p := trivial
theorem f86_all (a : Int) (l : List Int) (m : List D53) (hl : len l < 9223372036854775808) (hm : len m < 9223372036854775808) (h9 : a = 9 → len l = 3) : f86_ok a l m :=
  ⟨scan_ends (len_nonneg l) hl (fun _ h => and_lt h) (fun _ => rfl) fun x h1 _ => fun h3 => by
    have h4 : x.1 < len l := of_decide_eq_true h3
    exact ⟨⟨h1, h4⟩, f108_all _ _, fun _ => inr_small (by omega) (by omega)⟩,
   fun _ => by
    have key : ∀ b : Bool, ((a == 9) = true → b = true → False) ∨ True := fun _ => .inr trivial
    have e3 : ∀ c : Bool, (bif (a == 9) then c else false) = true → len l = 3 := fun c h => by
      cases hq : (a == 9) with
      | true => exact h9 (by simpa using hq)
      | false => simp [hq] at h
    refine ⟨fun h => ?_, fun h => ?_, fun h => ?_, fun _ => scan_ends (len_nonneg m) hm (fun _ h => and_lt h) (fun _ => rfl) fun x h1 _ => fun h3 => ?_⟩
    · have := h9 (by simpa using h); unfold InB; omega
    · have := e3 _ h; unfold InB; omega
    · cases hq : (a == 9) with
      | true => have := h9 (by simpa using hq); unfold InB; omega
      | false => simp [hq] at h
    · have h4 : x.1 < len m := of_decide_eq_true h3
      exact ⟨⟨h1, h4⟩, fun _ => f74_all _, fun _ => inr_small (by omega) (by omega)⟩⟩
theorem f87_all (a : Int) (l : List Int) (m : List D53) (hm : len m < 9223372036854775808) (h2 : a = 2 → len l = 5) (h3 : a = 3 → len l ≤ 16) : f87_ok a l m := by
  refine ⟨fun h => ?_, fun h => ?_, fun _ => ⟨fun h => ?_, fun _ => ?_⟩⟩
  · have := h2 (by simpa using h); unfold InB; omega
  · have := h2 (by simpa using h); unfold InB; omega
  · have hl := h3 (by simpa using h)
    refine ends_ind (fun x => 2 ≤ x.1 ∧ x.1 ≤ 18) (fun x => (20 - x.1).toNat) (fun x hx => fun hg => ?_) (fun x hx hg => ?_) ⟨by decide, by decide⟩ (by simp [fuel])
    · have h4 : x.1 < len l := of_decide_eq_true hg
      exact ⟨⟨by omega, h4⟩, inr_small (by omega) (by omega), ⟨(show 0 ≤ x.1 - 2 by omega), (show x.1 - 2 < len l by omega)⟩, fun _ => inr_small (by omega) (by omega)⟩
    · have h4 : x.1 < len l := and_lt hg
      exact ⟨(show 2 ≤ x.1 + 2 ∧ x.1 + 2 ≤ 18 by omega), (show (20 - (x.1 + 2)).toNat < (20 - x.1).toNat by omega)⟩
  · have e : (bif (a == 3) then m else m) = m := by cases (a == 3) <;> rfl
    show Am.Ends (f87_L10_g ((bif (a == 3) then m else m), ())) (f87_L10_next ((bif (a == 3) then m else m), ())) (f87_L10_ok ((bif (a == 3) then m else m), ())) (1, ())
    rw [e]
    refine ends_ind (fun x => 1 ≤ x.1) (fun x => (len m - x.1).toNat) (fun x hx => fun hg => ?_) (fun x hx hg => ?_) (by decide) (by unfold fuel; omega)
    · have h4 : x.1 < len m := of_decide_eq_true hg
      exact ⟨⟨by omega, h4⟩, inr_small (by omega) (by omega), ⟨(show 0 ≤ x.1 - 1 by omega), (show x.1 - 1 < len m by omega)⟩, fun _ => inr_small (by omega) (by omega)⟩
    · have h4 : x.1 < len m := and_lt hg
      exact ⟨(show 1 ≤ x.1 + 1 by omega), (show (len m - (x.1 + 1)).toNat < (len m - x.1).toNat by omega)⟩
theorem f59_all (a : Int) (l : List Int) (m : List D53) (hl : len l < 9223372036854775808) (hm : len m < 9223372036854775808) : f59_ok a l m := by
  intro _
  refine ⟨f85_all _ _, fun hc _ => ?_⟩
  have hc : f85 a (len l) = true := by
    simp only [Bool.cond_true_left, Bool.or_eq_false_iff, Bool.not_eq_false'] at hc
    exact hc.1
  have k9 : a = 9 → len l = 3 := by rintro rfl; simpa [f85, f85t] using hc
  have k2 : a = 2 → len l = 5 := by rintro rfl; simpa [f85, f85t] using hc
  have k3 : a = 3 → len l ≤ 16 := by
    rintro rfl
    simp only [f85, f85t] at hc
    by_cases h : len l ≤ 16
    · exact h
    · simp [h] at hc
  exact ⟨f86_all a l m hl hm k9, fun _ => f87_all a l m hm k2 k3⟩
theorem f60_all (a : Int) (l : List Int) (hl : len l < 9223372036854775808) : f60_ok a l := by
  intro _
  refine ⟨f88_all _, fun he => ?_⟩
  have he : len l = len (f88 a) := by simpa using he
  exact scan_ends (len_nonneg l) hl (fun _ h => and_lt h) (fun _ => rfl) fun x h1 _ => fun h3 => by
    have h4 : x.1 < len l := of_decide_eq_true h3
    exact ⟨⟨h1, h4⟩, ⟨h1, (show x.1 < len (f88 a) by omega)⟩, fun _ => ⟨h1, (show x.1 < len (f88 a) by omega)⟩, fun _ => inr_small (by omega) (by omega)⟩
theorem f61_all (p : D35) (h : len p.2.2.2.1 < 9223372036854775808) : f61_ok p := fun h0 => by
  have hb : (0 ≤ p.1 ∧ p.1 ≤ 256) ∧ (0 ≤ p.2.1 ∧ p.2.1 ≤ 256) := by
    simp only [Bool.not_eq_true', Bool.cond_true_left, Bool.or_eq_false_iff, decide_eq_false_iff_not] at h0
    omega
  exact ⟨fun _ => prod_in hb.1 hb.2, fun _ => scan_ends (len_nonneg p.2.2.2.1) h (fun _ h => and_lt h) (fun _ => rfl) fun x h1 _ => fun h3 => by
    have h4 : x.1 < len p.2.2.2.1 := of_decide_eq_true h3
    exact ⟨⟨h1, h4⟩, fun _ => inr_small (by omega) (by omega)⟩⟩
theorem f81_all (l : List (List D55)) (r : Int) (h : len l < 9223372036854775808) (hq : ∀ q ∈ l, len q ≤ 4611686018427387904) : f81_ok l r := fun _ => by
  refine ⟨?_, fun _ => ?_⟩
  · refine ends_ind (fun x => (0 ≤ x.1 ∧ x.1 ≤ 4096) ∧ 0 ≤ x.2.1) (fun x => (len l - x.2.1).toNat) (fun x hx => fun hg => ?_) (fun x hx hg => ?_) ⟨⟨by decide, by decide⟩, by decide⟩ (by unfold fuel; simp only; omega)
    · have h4 : x.2.1 < len l := of_decide_eq_true hg
      have h5 := hq _ (nth_mem (d := ([] : List D55)) (i := x.2.1) ⟨hx.2, h4⟩)
      have h6 := len_nonneg (nth l x.2.1 ([] : List D55))
      exact ⟨⟨hx.2, h4⟩, inr_small (show _ ≤ x.1 + len (nth l x.2.1 ([] : List D55)) by omega) (show x.1 + len (nth l x.2.1 ([] : List D55)) ≤ _ by omega), fun _ => inr_small (by omega) (by omega)⟩
    · have h4 : x.2.1 < len l := and_lt hg
      have h6 := len_nonneg (nth l x.2.1 ([] : List D55))
      have h7 : x.1 + len (nth l x.2.1 ([] : List D55)) ≤ 4096 := by
        have hg : (decide (x.2.1 < len l) && !(decide (x.1 + len (nth l x.2.1 ([] : List D55)) > 4096))) = true := hg
        simp only [Bool.and_eq_true, Bool.not_eq_true', decide_eq_false_iff_not] at hg
        omega
      exact ⟨⟨(show 0 ≤ x.1 + len (nth l x.2.1 ([] : List D55)) ∧ _ from ⟨by omega, h7⟩), (show 0 ≤ x.2.1 + 1 by omega)⟩, (show (len l - (x.2.1 + 1)).toNat < (len l - x.2.1).toNat by omega)⟩
  · exact scan_ends (len_nonneg l) h (fun _ h => and_lt h) (fun _ => rfl) fun x h1 _ => fun h3 => by
      have h4 : x.1 < len l := of_decide_eq_true h3
      have h5 := hq _ (nth_mem (d := ([] : List D55)) (i := x.1) ⟨h1, h4⟩)
      exact ⟨⟨h1, h4⟩, scan_ends (len_nonneg _) (show len (nth l x.1 ([] : List D55)) < _ by omega) (fun _ h => and_lt h) (fun _ => rfl) fun z k1 _ => fun k3 => by
        have k4 : z.1 < len (nth l x.1 ([] : List D55)) := of_decide_eq_true k3
        exact ⟨⟨k1, k4⟩, fun _ => inr_small (by omega) (by omega)⟩, fun _ => inr_small (by omega) (by omega)⟩
end Go.Proofs.YthjoefjcljbapaaGreatDoor.Am
