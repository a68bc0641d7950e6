/- Plain laws for the statements on nodes: filters, warps, kernels. No condition. -/
import Derived.Test.YtleannhgpeiooaaGreatDoorNodeP
namespace Go.Proofs.YtleannhgpeiooaaGreatDoor.Am
open Go Go.Am

def fbad (s : List D59) (p : List Int) (i : Int) : Bool := bif decide (nth p i 0 < (nth s i Z59).1) then true else decide (nth p i 0 > (nth s i Z59).2.1)

theorem f80_any (k : Int) (p : List Int) (hp : len p < 9223372036854775808) :
    f80 k p = bif (bif decide (k < 1) then true else decide (k > 10)) then 8 else bif (len p != len (f122 k)) then 1 else bif anyI (len p) (fbad (f122 k) p) then 2 else 0 := by
  rw [← scan_any (g := f80_L7_g (f122 k, p, len p, ())) (next := f80_L7_next (f122 k, p, len p, ())) (c := fbad (f122 k) p) (len_nonneg p) hp (fun _ => rfl) (fun _ => rfl)]
  rfl

theorem not_le_dec (a b : Int) : (!decide (a ≤ b)) = decide (b < a) := by
  by_cases h : a ≤ b
  · simp [h, Int.not_lt.2 h]
  · simp [h, Int.not_le.1 h]
theorem len3_ne (n : Nat) (m : Int) (h : m ≤ 2) : ((n : Int) + 1 + 1 + 1 != m) = true := by
  simp only [bne_iff_ne, ne_eq]; omega
theorem kinds10 {k : Int} (h : 1 ≤ k ∧ k ≤ 10) : k = 1 ∨ k = 2 ∨ k = 3 ∨ k = 4 ∨ k = 5 ∨ k = 6 ∨ k = 7 ∨ k = 8 ∨ k = 9 ∨ k = 10 := by omega

theorem fcheck_eq (k : Int) (p : List Int) (hp : len p < 9223372036854775808) : f80 k p = f95 k p := by
  rw [f80_any k p hp]
  by_cases hk : 1 ≤ k ∧ k ≤ 10
  · rcases kinds10 hk with rfl | rfl | rfl | rfl | rfl | rfl | rfl | rfl | rfl | rfl
    all_goals
      rcases p with _ | ⟨a, _ | ⟨b, _ | ⟨c, r⟩⟩⟩
      all_goals simp [f95, f140, f141, f122, anyI, fbad, len, nth, List.range_succ, not_le_dec, len3_ne]
  · have h1 : (bif decide (k < 1) then true else decide (k > 10)) = true := by
      simp only [Bool.cond_true_left, Bool.or_eq_true, decide_eq_true_eq]; omega
    have h2 : (!(f140 k 1 10)) = true := by
      simp only [f140, Bool.cond_false_right, Bool.not_eq_true', Bool.and_eq_false_iff, decide_eq_false_iff_not]; omega
    rw [h1, cond_true]
    unfold f95
    simp only [h2, cond_true]

theorem f80_all (k : Int) (p : List Int) (hp : len p < 9223372036854775808) : f80_ok k p := by
  intro _
  refine ⟨trivial, fun h => ?_⟩
  have e : len p = len (f122 k) := by simpa using h
  refine scan_ends (n := len p) (len_nonneg p) hp (fun x h => ?_) (fun _ => rfl) fun x h1 h2 h3 => ?_
  · have : (decide (x.1 < len p) && !(fbad (f122 k) p x.1)) = true := h
    simp only [Bool.and_eq_true, decide_eq_true_eq] at this
    exact this.1
  · have h3 : x.1 < len p := of_decide_eq_true h3
    exact ⟨⟨h1, h3⟩, ⟨h1, by rw [← e]; exact h3⟩, fun _ => ⟨h1, by rw [← e]; exact h3⟩, fun _ => by unfold InR; omega⟩

theorem f140_iff (a lo hi : Int) : f140 a lo hi = true ↔ lo ≤ a ∧ a ≤ hi := by
  simp only [f140, Bool.cond_false_right, Bool.and_eq_true, decide_eq_true_eq, ge_iff_le]

theorem f95_all (k : Int) (p : List Int) : f95_ok k p := by
  refine ⟨trivial, fun h => ⟨trivial, fun h1 => ?_⟩⟩
  have hk : 1 ≤ k ∧ k ≤ 10 := (f140_iff k 1 10).1 (by simpa using h)
  have e : len p = f141 k := by simpa using h1
  rcases kinds10 hk with rfl | rfl | rfl | rfl | rfl | rfl | rfl | rfl | rfl | rfl
  all_goals
    simp only [f141] at e
    simp at e
    simp [InB, f140_ok, e]

theorem imax_four (a a' b b' : Int) : imax (imax a a') (imax b b') = imax (imax (imax a a') b) b' := by
  unfold imax
  (repeat' split) <;> omega

theorem freach_eq (k : Int) (p : List Int) (hp : len p < 9223372036854775808) : f47 k p = f50 k p := by
  unfold f47 f50 f97
  simp only [fcheck_eq k p hp, imax_four]

theorem support_eq (k : Int) : f49 k = f52 k := by
  by_cases h0 : k = 0
  · subst h0; rfl
  by_cases h1 : k = 1
  · subst h1; rfl
  by_cases h2 : k = 2
  · subst h2; rfl
  by_cases h3 : k = 3
  · subst h3; rfl
  by_cases h4 : k = 4
  · subst h4; rfl
  have hv : f44 k = false := by
    simp only [f44, Bool.cond_false_right, Bool.and_eq_false_iff, decide_eq_false_iff_not]; omega
  have e0 : (k == 0) = false := by simpa using h0
  have e1 : (k == 1) = false := by simpa using h1
  have e2 : (k == 2) = false := by simpa using h2
  have e3 : (k == 3) = false := by simpa using h3
  have e4 : (k == 4) = false := by simpa using h4
  simp only [f49, f52, hv, e0, e1, e2, e3, e4, cond_false]

theorem cond20 {b : Bool} (h : (bif b then (2 : Int) else 0) = 0) : b = false := by
  cases b with
  | false => rfl
  | true => cases h
/-- What a valid filter's parameters are. -/
theorem fcheck_zero {k : Int} {p : List Int} (h : f95 k p = 0) : 1 ≤ k ∧ k ≤ 10 ∧ len p = f141 k ∧ (k ≠ 5 → k ≠ 6 → -16 ≤ nth p 0 0 ∧ nth p 0 0 ≤ 16) ∧ (k = 9 → -16 ≤ nth p 1 0 ∧ nth p 1 0 ≤ 16) := by
  by_cases hk : 1 ≤ k ∧ k ≤ 10
  · have hv8 : (!(f140 k 1 10)) = false := by rw [(f140_iff k 1 10).2 hk]; rfl
    by_cases hl : len p = f141 k
    · refine ⟨hk.1, hk.2, hl, ?_⟩
      have hv13 : (len p != f141 k) = false := by simpa using hl
      unfold f95 at h
      simp only [hv8, hv13, cond_false] at h
      rcases kinds10 hk with rfl | rfl | rfl | rfl | rfl | rfl | rfl | rfl | rfl | rfl
      all_goals
        simp [f140] at h
        simp
      all_goals
        have h := cond20 h
        simp only [Bool.or_eq_false_iff, Bool.not_eq_false', decide_eq_true_eq] at h
        omega
    · have hv13 : (len p != f141 k) = true := by simpa using hl
      unfold f95 at h
      simp only [hv8, hv13, cond_false, cond_true] at h
      cases h
  · have hv8 : (!(f140 k 1 10)) = true := by
      cases hf : f140 k 1 10 with
      | false => rfl
      | true => exact absurd ((f140_iff k 1 10).1 hf) hk
    unfold f95 at h
    simp only [hv8, cond_true] at h
    cases h

theorem neg_in {a : Int} (h1 : -16 ≤ a) (h2 : a ≤ 16) : InR (Int.sub 0 a) := by
  have e : Int.sub 0 a = 0 - a := rfl
  unfold InR; rw [e]; omega

theorem freach_ok (k : Int) (p : List Int) (hp : len p < 9223372036854775808) : f47_ok k p := by
  refine ⟨f80_all k p hp, fun h => ?_⟩
  have h0 : f95 k p = 0 := by rw [← fcheck_eq k p hp]; simpa using h
  obtain ⟨h1, h2, h3, h4, h5⟩ := fcheck_zero h0
  refine ⟨fun hm => ⟨fun h9 => ?_, fun h9 h10 => ?_⟩, fun hc => ?_⟩
  · have e : k = 9 := by simpa using h9
    subst e
    have e2 : len p = 2 := h3
    have := h4 (by decide) (by decide)
    have := h5 rfl
    refine ⟨⟨by decide, by omega⟩, neg_in (by omega) (by omega), ⟨by decide, by omega⟩, neg_in (by omega) (by omega)⟩
  · have e : k = 10 := by simpa using h10
    subst e
    have e2 : len p = 1 := h3
    have := h4 (by decide) (by decide)
    exact ⟨⟨by decide, by omega⟩, by unfold InR; omega⟩
  · have hc : ((!(k == 10) && !(k == 9)) && !(bif (k == 5) then (k == 5) else (k == 6))) = true := hc
    have h56 : k ≠ 5 ∧ k ≠ 6 := by
      constructor <;> rintro rfl <;> simp at hc
    have : 1 ≤ f141 k := by
      rcases kinds10 ⟨h1, h2⟩ with rfl | rfl | rfl | rfl | rfl | rfl | rfl | rfl | rfl | rfl <;> first | decide | exact absurd rfl h56.1 | exact absurd rfl h56.2
    exact ⟨by decide, by omega⟩

theorem freach_ok' (k : Int) (p : List Int) : f50_ok k p := by
  refine ⟨f95_all k p, fun h => ?_⟩
  have h0 : f95 k p = 0 := by simpa using h
  obtain ⟨h1, h2, h3, h4, h5⟩ := fcheck_zero h0
  refine ⟨fun hm => ⟨fun h9 => ?_, fun h9 h10 => ?_⟩, fun hc => ?_⟩
  · have e : k = 9 := by simpa using h9
    subst e
    have e2 : len p = 2 := h3
    have := h4 (by decide) (by decide)
    have := h5 rfl
    refine ⟨⟨by decide, by omega⟩, ⟨by decide, by omega⟩, neg_in (by omega) (by omega), ⟨by decide, by omega⟩, ⟨by decide, by omega⟩, neg_in (by omega) (by omega)⟩
  · have e : k = 10 := by simpa using h10
    subst e
    have e2 : len p = 1 := h3
    have := h4 (by decide) (by decide)
    exact ⟨⟨by decide, by omega⟩, by unfold InR; omega⟩
  · have hc : ((!(k == 10) && !(k == 9)) && !(bif (k == 5) then (k == 5) else (k == 6))) = true := hc
    have h56 : k ≠ 5 ∧ k ≠ 6 := by
      constructor <;> rintro rfl <;> simp at hc
    have : 1 ≤ f141 k := by
      rcases kinds10 ⟨h1, h2⟩ with rfl | rfl | rfl | rfl | rfl | rfl | rfl | rfl | rfl | rfl <;> first | decide | exact absurd rfl h56.1 | exact absurd rfl h56.2
    exact ⟨by decide, by omega⟩
end Go.Proofs.YtleannhgpeiooaaGreatDoor.Am
