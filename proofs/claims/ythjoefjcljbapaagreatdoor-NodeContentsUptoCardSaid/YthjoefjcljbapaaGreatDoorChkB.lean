/- node.Check answers for every node: paths. Condition: lengths of Go slices. -/
import Derived.Test.YthjoefjcljbapaaGreatDoorChkA
namespace Go.Proofs.YthjoefjcljbapaaGreatDoor.Am
open Go Go.Am
theorem inb0 : InB (0 : Int) 3 := by unfold InB; omega
theorem inb1 : InB (1 : Int) 3 := by unfold InB; omega
theorem inb2 : InB (2 : Int) 3 := by unfold InB; omega
theorem len_one {α : Type} (x : α) : len [x] = 1 := rfl
theorem f95_in (p : Int) : 0 ≤ f95 p ∧ f95 p ≤ 3 := by
  simp only [f95, f95t]
  cases (p == 3) <;> cases (p == 4) <;> cases (p == 5) <;> simp
theorem seg9 (y : f94_L9_Y) : Am.Ends (f94_L9_g y) (f94_L9_next y) (f94_L9_ok y) (0, ()) ∧ f94_L9_g y (loopEnd (f94_L9_g y) (f94_L9_next y) (0, ())) = false := by
  have h := whole (g := f94_L9_g y) (next := f94_L9_next y) (ok := f94_L9_ok y) (fun x => 0 ≤ x.1 ∧ x.1 ≤ 3) (fun x => (3 - x.1).toNat) (fun x hx => fun h3 => by
      have h4 : x.1 < 3 := of_decide_eq_true h3
      exact ⟨⟨hx.1, h4⟩, f97_all _, fun _ => f95_all _, fun _ => inr_small (by omega) (by omega)⟩) (fun x hx hg => by
      have h4 : x.1 < 3 := and_lt hg
      exact ⟨(show 0 ≤ x.1 + 1 ∧ x.1 + 1 ≤ 3 by omega), (show (3 - (x.1 + 1)).toNat < (3 - x.1).toNat by omega)⟩) (x := (0, ())) ⟨by decide, by decide⟩ (by simp [fuel])
  exact ⟨h.1, h.2.2⟩
theorem seg4 (l : List D58) (hl : len l < 9223372036854775808) :
    Am.Ends (f94_L4_g (l, l, len l, ())) (f94_L4_next (l, l, len l, ())) (f94_L4_ok (l, l, len l, ())) (0, ()) ∧
    (0 ≤ (loopEnd (f94_L4_g (l, l, len l, ())) (f94_L4_next (l, l, len l, ())) (0, ())).1 ∧ (0 < (loopEnd (f94_L4_g (l, l, len l, ())) (f94_L4_next (l, l, len l, ())) (0, ())).1 → (nth l 0 Z58).1 = 1)) ∧
    f94_L4_g (l, l, len l, ()) (loopEnd (f94_L4_g (l, l, len l, ())) (f94_L4_next (l, l, len l, ())) (0, ())) = false := by
  refine whole (fun x : f94_L4_X => 0 ≤ x.1 ∧ (0 < x.1 → (nth l 0 Z58).1 = 1)) (fun x => (len l - x.1).toNat) (fun x hx => fun h3 => ?_) (fun x hx hg => ?_) ⟨by decide, fun h => absurd h (by decide)⟩ (by unfold fuel; simp only; omega)
  · have h4 : x.1 < len l := of_decide_eq_true h3
    refine ⟨⟨hx.1, h4⟩, fun _ => ⟨(seg9 _).1, fun _ => ⟨fun h5 => ?_, fun h5 => ?_⟩⟩, fun _ => inr_small (by omega) (by omega)⟩
    · exact inr_small (by omega) (by omega)
    · simp only [Bool.and_eq_true, Bool.not_eq_true', beq_eq_false_iff_ne, ne_eq] at h5
      exact ⟨(show 0 ≤ x.1 - 1 by omega), (show x.1 - 1 < len l by omega)⟩
  · have h4 : x.1 < len l := and_lt hg
    refine ⟨⟨(show 0 ≤ x.1 + 1 by omega), fun _ => ?_⟩, (show (len l - (x.1 + 1)).toNat < (len l - x.1).toNat by omega)⟩
    by_cases h0 : x.1 = 0
    · simp only [f94_L4_g, f94_L4t, h0] at hg
      simp only [Bool.and_eq_true, Bool.not_eq_true'] at hg
      have h5 := hg.2.2.2
      cases hk : ((nth l 0 Z58).1 != 1) with
      | true => simp [hk] at h5
      | false => simpa using hk
    · exact hx.2 (by omega)
theorem f94_all (l : List D58) (hl : len l < 9223372036854775808) : f94_ok l := fun _ => (seg4 l hl).1
theorem f94_zero {l : List D58} (hl : len l < 9223372036854775808) (h : f94 l = 0) : len l ≤ 128 ∧ (0 < len l → (nth l 0 Z58).1 = 1) := by
  obtain ⟨_, ⟨h1, h2⟩, h3⟩ := seg4 l hl
  simp only [f94, f94t] at h
  generalize loopEnd (f94_L4_g (l, l, len l, ())) (f94_L4_next (l, l, len l, ())) (0, ()) = e at h h1 h2 h3
  have hv : decide (len l > 128) = false := by
    cases hv : decide (len l > 128) with
    | false => rfl
    | true => simp [hv] at h
  have hle := of_decide_eq_false hv
  refine ⟨by omega, fun hp => h2 ?_⟩
  have he1 : f94_L4_e1 (l, l, len l, ()) e = false := by
    cases he : f94_L4_e1 (l, l, len l, ()) e with
    | false => rfl
    | true =>
      simp only [hv, he, cond_false, cond_true, f94_L4_x1_0] at h
      revert h
      cases (bif (decide ((nth l e.1 Z58).1 < 1)) then true else (decide ((nth l e.1 Z58).1 > 5))) <;> simp only [cond_true, cond_false]
      · cases f94_L9_e1 _ _ <;> simp [f94_L9_x1_0]
      · simp
  by_cases hlt : e.1 < len l
  · exfalso
    simp only [f94_L4_g, f94_L4t] at h3
    simp only [f94_L4_e1, f94_L4t] at he1
    have h9 := (seg9 (l, e.1, nth l e.1 Z58, l, len l, e.1, (nth l e.1 Z58).2.1, ())).2
    generalize loopEnd (f94_L9_g (l, e.1, nth l e.1 Z58, l, len l, e.1, (nth l e.1 Z58).2.1, ())) (f94_L9_next (l, e.1, nth l e.1 Z58, l, len l, e.1, (nth l e.1 Z58).2.1, ())) (0, ()) = z at h3 he1 h9
    generalize (bif (decide ((nth l e.1 Z58).1 < 1)) then true else (decide ((nth l e.1 Z58).1 > 5))) = v24 at h3 he1
    generalize (bif (nth l e.1 Z58).1 != 1 then (bif e.1 == 0 then true else ((nth l (e.1 - 1) Z58).1 == 5)) else false) = v61 at h3 he1
    have e4 : f94_L9_e4 (l, e.1, nth l e.1 Z58, l, len l, e.1, (nth l e.1 Z58).2.1, ()) z = !(decide (z.1 < 3)) := rfl
    have e1 : f94_L9_e1 (l, e.1, nth l e.1 Z58, l, len l, e.1, (nth l e.1 Z58).2.1, ()) z = true ∨ decide (z.1 < 3) = false := by
      cases hz : decide (z.1 < 3) with
      | false => exact .inr rfl
      | true =>
        left
        simp only [f94_L9_g, f94_L9t, hz, Bool.true_and, Bool.not_eq_false'] at h9
        simp only [f94_L9_e1, f94_L9t, hz, Bool.true_and]
        exact h9
    simp only [hlt, decide_true, Bool.true_and] at h3 he1
    rw [e4] at h3 he1
    rcases e1 with e1 | e1
    · rw [e1] at he1; cases v24 <;> simp_all
    · rw [e1] at h3 he1; cases v24 <;> cases v61 <;> simp_all
  · omega
theorem place13 (y : f77_L13_Y) {n : Int} (hk : y.2.2.2.2.2.2.1 ≤ 3) (l : List D58) (hn : len l = n) (hi : InB y.2.1 n) :
    Am.Ends (f77_L13_g y) (f77_L13_next y) (f77_L13_ok y) (l, 0, ()) ∧ len (loopEnd (f77_L13_g y) (f77_L13_next y) (l, 0, ())).1 = n := by
  have h := whole (g := f77_L13_g y) (next := f77_L13_next y) (ok := f77_L13_ok y) (fun x => len x.1 = n ∧ 0 ≤ x.2.1 ∧ x.2.1 ≤ 3) (fun x => (3 - x.2.1).toNat) (fun x hx => fun h3 => by
      have h4 : x.2.1 < y.2.2.2.2.2.2.1 := of_decide_eq_true h3
      obtain ⟨k1, k2⟩ := hi
      refine ⟨⟨hx.2.1, by omega⟩, f96_all _ _, f97_all _, fun _ => ⟨⟨k1, ?_⟩, ⟨hx.2.1, by omega⟩, ?_⟩, fun _ => inr_small (by omega) (by omega)⟩
      · show y.2.1 < len x.1; rw [hx.1]; exact k2
      · show y.2.1 < len x.1; rw [hx.1]; exact k2) (fun x hx hg => by
      have h4 : x.2.1 < y.2.2.2.2.2.2.1 := and_lt hg
      exact ⟨⟨(show len (List.set x.1 _ _) = n by rw [len_set]; exact hx.1), (show 0 ≤ x.2.1 + 1 ∧ x.2.1 + 1 ≤ 3 by omega)⟩, (show (3 - (x.2.1 + 1)).toNat < (3 - x.2.1).toNat by omega)⟩) (x := (l, 0, ())) ⟨hn, Int.le_refl 0, (by decide : (0 : Int) ≤ 3)⟩ (by simp [fuel])
  exact ⟨h.1, h.2.1.1⟩
theorem place9_next (a : D25) (l : List D58) (x : f77_L9_X) : f77_L9_next (a, l, len l, ()) x = ((loopEnd (f77_L13_g (a, x.2.1, nth l x.2.1 Z58, l, len l, x.2.1, f95 (nth l x.2.1 Z58).1, ())) (f77_L13_next (a, x.2.1, nth l x.2.1 Z58, l, len l, x.2.1, f95 (nth l x.2.1 Z58).1, ())) (List.set x.1 (Int.toNat x.2.1) ((nth l x.2.1 Z58).1, (nth x.1 x.2.1 Z58).2.1, ()), 0, ())).1, x.2.1 + 1, ()) := rfl
theorem place9 (l : List D58) (a : D25) (z : List D58) (hz : len z = len l) (hl : len l ≤ 128) :
    Am.Ends (f77_L9_g (a, l, len l, ())) (f77_L9_next (a, l, len l, ())) (f77_L9_ok (a, l, len l, ())) (z, 0, ()) ∧ len (loopEnd (f77_L9_g (a, l, len l, ())) (f77_L9_next (a, l, len l, ())) (z, 0, ())).1 = len l := by
  have h := whole (g := f77_L9_g (a, l, len l, ())) (next := f77_L9_next (a, l, len l, ())) (ok := f77_L9_ok (a, l, len l, ())) (fun x => len x.1 = len l ∧ 0 ≤ x.2.1) (fun x => (len l - x.2.1).toNat) (fun x hx => fun h3 => ?_) (fun x hx hg => ?_) (x := (z, 0, ())) ⟨hz, Int.le_refl 0⟩ (by unfold fuel; simp only; omega)
  · exact ⟨h.1, h.2.1.1⟩
  · have h4 : x.2.1 < len l := of_decide_eq_true h3
    have hb : InB x.2.1 (len l) := ⟨hx.2, h4⟩
    refine ⟨hb, ?_, ?_, f95_all _, (place13 _ (f95_in _).2 _ (by rw [len_set]; exact hx.1) hb).1, fun _ => inr_small (by omega) (by omega)⟩
    · show InB x.2.1 (len x.1); rw [hx.1]; exact hb
    · show x.2.1 < len x.1; rw [hx.1]; exact h4
  · have h4 : x.2.1 < len l := and_lt hg
    have hb : InB x.2.1 (len l) := ⟨hx.2, h4⟩
    have h13 := (place13 (a, x.2.1, nth l x.2.1 Z58, l, len l, x.2.1, f95 (nth l x.2.1 Z58).1, ()) (f95_in _).2 (List.set x.1 (Int.toNat x.2.1) ((nth l x.2.1 Z58).1, (nth x.1 x.2.1 Z58).2.1, ())) (by rw [len_set]; exact hx.1) hb).2
    rw [place9_next]
    exact ⟨⟨h13, (show 0 ≤ x.2.1 + 1 by omega)⟩, (show (len l - (x.2.1 + 1)).toNat < (len l - x.2.1).toNat by omega)⟩
theorem f77_all (l : List D58) (a : D25) (hl : len l < 9223372036854775808) : f77_ok l a ∧ len (f77 l a).1 ≤ 128 := by
  have hrep : len (List.replicate (Int.toNat (len l)) Z58) = len l := by simp [len]
  refine ⟨⟨f94_all l hl, fun h0 => ⟨f24_all _, fun _ => ?_⟩⟩, ?_⟩
  · have h0 : f94 l = 0 := by simpa using h0
    have hk := (f94_zero hl h0).1
    have := len_nonneg l
    exact ⟨⟨by omega, by omega, by omega⟩, (place9 l a _ hrep hk).1⟩
  · simp only [f77, f77t]
    cases h0 : (f94 l != 0) with
    | true => simp [len]
    | false =>
      have h0 : f94 l = 0 := by simpa using h0
      have hk := (f94_zero hl h0).1
      have h9 := (place9 l a _ hrep hk).2
      simp only [cond_false]
      cases (f24 a != 0) with
      | true => simp [len]
      | false =>
        simp only [cond_false]
        cases f77_L9_e1 _ _ with
        | true => simp [f77_L9_x1_0, f77_L13_x1_0, len]
        | false => simp only [cond_false, f77_L9_x2_0]; rw [h9]; exact hk
theorem f111_all {p : D55} {l : List D55} (h1 : 1 ≤ len l) (h2 : len l ≤ 2147483648) : f111_v2_ok p l ∧ len l ≤ len (f111_v2_o p l).1 ∧ len (f111_v2_o p l).1 ≤ len l + 1 := by
  have hw : IntKind.wrap .i64 (len l - 1) = len l - 1 := wrap_in (inr_small (by omega) (by omega))
  refine ⟨⟨?_, fun _ => ?_⟩, ?_⟩
  · rw [hw]; exact ⟨by omega, by omega⟩
  · simp only [len] at h2; simp only [List.length_cons, List.length_nil]; omega
  · simp only [f111_v2_o, f111_v2t]
    cases (!(Ty.eqb T55 p (nth l (IntKind.wrap .i64 (len l - 1)) Z55))) with
    | true => simp only [cond_true, len_app, len_one]; omega
    | false => simp only [cond_false]; omega
theorem ext8 (y : f98_v1_L8_Y) (l : List D55) (h1 : 1 ≤ len l) (h2 : len l ≤ 1073741824) :
    Am.Ends (f98_v1_L8_g y) (f98_v1_L8_next y) (f98_v1_L8_ok y) (l, 1, ()) ∧ len l ≤ len (loopEnd (f98_v1_L8_g y) (f98_v1_L8_next y) (l, 1, ())).1 ∧ len (loopEnd (f98_v1_L8_g y) (f98_v1_L8_next y) (l, 1, ())).1 ≤ len l + 16 := by
  have h := whole (g := f98_v1_L8_g y) (next := f98_v1_L8_next y) (ok := f98_v1_L8_ok y) (fun x => (1 ≤ x.2.1 ∧ x.2.1 ≤ 9) ∧ len l ≤ len x.1 ∧ len x.1 ≤ len l + (x.2.1 - 1)) (fun x => (9 - x.2.1).toNat) (fun x hx => fun _ => by
      exact ⟨inb0, inb1, f52_all _ _, inb0, inb1, f52_all _ _, (f111_all (by omega) (by omega)).1⟩) (fun x hx hg => by
      have h4 : x.2.1 ≤ 8 := of_decide_eq_true hg
      have hw : IntKind.wrap .i64 (x.2.1 + 1) = x.2.1 + 1 := wrap_in (inr_small (by omega) (by omega))
      have ha : ∀ q : D55, len x.1 ≤ len (f111_v2_o q x.1).1 ∧ len (f111_v2_o q x.1).1 ≤ len x.1 + 1 := fun q => (f111_all (p := q) (by omega) (by omega)).2
      simp only [f98_v1_L8_next, f98_v1_L8t]
      rw [hw]
      exact ⟨⟨⟨by omega, by omega⟩, Int.le_trans hx.2.1 (ha _).1, Int.le_trans (ha _).2 (by omega)⟩, by omega⟩) (x := (l, 1, ())) ⟨⟨Int.le_refl 1, (by decide : (1 : Int) ≤ 9)⟩, Int.le_refl _, (show len l ≤ len l + (1 - 1) by omega)⟩ (by simp [fuel])
  exact ⟨h.1, h.2.1.2.1, by have := h.2.1.2.2; have := h.2.1.1.2; omega⟩
theorem ext15 (y : f98_v1_L15_Y) (l : List D55) (h1 : 1 ≤ len l) (h2 : len l ≤ 1073741824) :
    Am.Ends (f98_v1_L15_g y) (f98_v1_L15_next y) (f98_v1_L15_ok y) (l, 1, ()) ∧ len l ≤ len (loopEnd (f98_v1_L15_g y) (f98_v1_L15_next y) (l, 1, ())).1 ∧ len (loopEnd (f98_v1_L15_g y) (f98_v1_L15_next y) (l, 1, ())).1 ≤ len l + 16 := by
  have h := whole (g := f98_v1_L15_g y) (next := f98_v1_L15_next y) (ok := f98_v1_L15_ok y) (fun x => (1 ≤ x.2.1 ∧ x.2.1 ≤ 17) ∧ len l ≤ len x.1 ∧ len x.1 ≤ len l + (x.2.1 - 1)) (fun x => (17 - x.2.1).toNat) (fun x hx => fun _ => by
      exact ⟨inb0, inb1, inb2, f52_all _ _, inb0, inb1, inb2, f52_all _ _, (f111_all (by omega) (by omega)).1⟩) (fun x hx hg => by
      have h4 : x.2.1 ≤ 16 := of_decide_eq_true hg
      have hw : IntKind.wrap .i64 (x.2.1 + 1) = x.2.1 + 1 := wrap_in (inr_small (by omega) (by omega))
      have ha : ∀ q : D55, len x.1 ≤ len (f111_v2_o q x.1).1 ∧ len (f111_v2_o q x.1).1 ≤ len x.1 + 1 := fun q => (f111_all (p := q) (by omega) (by omega)).2
      simp only [f98_v1_L15_next, f98_v1_L15t]
      rw [hw]
      exact ⟨⟨⟨by omega, by omega⟩, Int.le_trans hx.2.1 (ha _).1, Int.le_trans (ha _).2 (by omega)⟩, by omega⟩) (x := (l, 1, ())) ⟨⟨Int.le_refl 1, (by decide : (1 : Int) ≤ 17)⟩, Int.le_refl _, (show len l ≤ len l + (1 - 1) by omega)⟩ (by simp [fuel])
  exact ⟨h.1, h.2.1.2.1, by have := h.2.1.2.2; have := h.2.1.1.2; omega⟩
theorem f98_all {l : List D55} {s : D58} (h1 : 1 ≤ len l) (h2 : len l ≤ 1073741824) : f98_v1_ok l s ∧ len l ≤ len (f98_v1 l s) ∧ len (f98_v1 l s) ≤ len l + 16 := by
  have hw : IntKind.wrap .i64 (len l - 1) = len l - 1 := wrap_in (inr_small (by omega) (by omega))
  have ha := f111_all (p := nth s.2.1 (0 : Int) Z55) h1 (show len l ≤ 2147483648 by omega)
  refine ⟨⟨?_, fun _ => ⟨inb0, ha.1⟩, fun _ => ⟨fun _ => (ext8 _ l h1 h2).1, fun _ _ => (ext15 _ l h1 h2).1⟩⟩, ?_⟩
  · rw [hw]; exact ⟨by omega, by omega⟩
  · simp only [f98_v1, f98_v1t, f98_v1_L8_x3_0, f98_v1_L15_x5_0]
    have h8 := (ext8 (s, nth l (IntKind.wrap .i64 (len l - 1)) Z55, ((), ()), ()) l h1 h2).2
    have h15 := (ext15 (s, nth l (IntKind.wrap .i64 (len l - 1)) Z55, ((), ()), ()) l h1 h2).2
    cases (s.1 == 2) with
    | true => simp only [cond_true]; omega
    | false =>
      cases (s.1 == 3) with
      | true => simp only [cond_true, cond_false]; exact h8
      | false =>
        cases (s.1 == 4) with
        | true => simp only [cond_true, cond_false]; exact h15
        | false => simp only [cond_false]; omega
def Few (n m : Int) (l : List (List D55)) : Prop := len l ≤ n ∧ ∀ q ∈ l, len q ≤ m
theorem flat7 (l : List D58) (hl : len l ≤ 128) (h0 : 0 < len l → (nth l 0 Z58).1 = 1) :
    Am.Ends (f78_L7_g (l, l, len l, ())) (f78_L7_next (l, l, len l, ())) (f78_L7_ok (l, l, len l, ())) ([], [], 0, ()) ∧ Few 128 4096 (loopEnd (f78_L7_g (l, l, len l, ())) (f78_L7_next (l, l, len l, ())) ([], [], 0, ())).1 := by
  have step : ∀ x : f78_L7_X, (0 ≤ x.2.2.1 ∧ (0 < x.2.2.1 → 1 ≤ len x.2.1) ∧ len x.2.1 ≤ 1 + 16 * x.2.2.1) → x.2.2.1 < len l →
      (((nth l x.2.2.1 Z58).1 == 1) = false → 1 ≤ len x.2.1) ∧
      1 ≤ len (bif ((nth l x.2.2.1 Z58).1 == 1) then ([(nth (nth l x.2.2.1 Z58).2.1 (0 : Int) Z55)] : List D55) else (f98_v1 x.2.1 (nth l x.2.2.1 Z58))) ∧
      len (bif ((nth l x.2.2.1 Z58).1 == 1) then ([(nth (nth l x.2.2.1 Z58).2.1 (0 : Int) Z55)] : List D55) else (f98_v1 x.2.1 (nth l x.2.2.1 Z58))) ≤ 1 + 16 * (x.2.2.1 + 1) := by
    intro x hx hlt
    have hne : ((nth l x.2.2.1 Z58).1 == 1) = false → 1 ≤ len x.2.1 := fun hf => by
      by_cases hz : x.2.2.1 = 0
      · have := h0 (by omega)
        rw [hz, this] at hf
        simp at hf
      · exact hx.2.1 (by omega)
    refine ⟨hne, ?_⟩
    cases hk : ((nth l x.2.2.1 Z58).1 == 1) with
    | true => simp only [cond_true, len_one]; omega
    | false =>
      simp only [cond_false]
      have ha := (f98_all (s := nth l x.2.2.1 Z58) (hne hk) (show len x.2.1 ≤ 1073741824 by omega)).2
      have := hne hk
      omega
  have h := whole (g := f78_L7_g (l, l, len l, ())) (next := f78_L7_next (l, l, len l, ())) (ok := f78_L7_ok (l, l, len l, ())) (fun x => (0 ≤ x.2.2.1 ∧ (0 < x.2.2.1 → 1 ≤ len x.2.1) ∧ len x.2.1 ≤ 1 + 16 * x.2.2.1) ∧ (x.2.2.1 ≤ len l ∧ len x.1 ≤ x.2.2.1) ∧ ∀ q ∈ x.1, len q ≤ 4096) (fun x => (len l - x.2.2.1).toNat) (fun x hx => fun h3 => by
      have h4 : x.2.2.1 < len l := of_decide_eq_true h3
      obtain ⟨s1, s2, s3⟩ := step x hx.1 h4
      refine ⟨⟨hx.1.1, h4⟩, fun _ => inb0, fun hf => (f98_all (s1 hf) (by have := hx.1.2.2; omega)).1, inr_small (show _ ≤ len l - 1 by omega) (show len l - 1 ≤ _ by omega), fun _ => inr_small (by omega) (by omega), fun hf => ?_, fun _ => ?_, inr_small (by omega) (by omega)⟩
      · simp only [Bool.not_eq_true', beq_eq_false_iff_ne, ne_eq] at hf
        have hf : ¬ x.2.2.1 = len l - 1 := hf
        exact ⟨(show 0 ≤ x.2.2.1 + 1 by omega), (show x.2.2.1 + 1 < len l by omega)⟩
      · have := hx.2.1.2
        simp only [len] at this hl h4
        simp only [List.length_cons, List.length_nil]
        omega) (fun x hx hg => by
      have h4 : x.2.2.1 < len l := of_decide_eq_true hg
      obtain ⟨s1, s2, s3⟩ := step x hx.1 h4
      have hle := hx.2.1.2
      refine ⟨⟨⟨(show 0 ≤ x.2.2.1 + 1 by omega), fun _ => s2, s3⟩, ⟨(show x.2.2.1 + 1 ≤ len l by omega), ?_⟩, ?_⟩, (show (len l - (x.2.2.1 + 1)).toNat < (len l - x.2.2.1).toNat by omega)⟩
      · simp only [f78_L7_next, f78_L7t]
        cases (bif (x.2.2.1 == (len l - 1)) then true else ((nth l (x.2.2.1 + 1) Z58).1 == 1)) with
        | true => simp only [cond_true, len_app, len_one]; omega
        | false => simp only [cond_false]; omega
      · simp only [f78_L7_next, f78_L7t]
        cases (bif (x.2.2.1 == (len l - 1)) then true else ((nth l (x.2.2.1 + 1) Z58).1 == 1)) with
        | true =>
          simp only [cond_true]
          intro q hq
          rcases List.mem_append.1 hq with hq | hq
          · exact hx.2.2 q hq
          · rw [List.mem_singleton.1 hq]; omega
        | false => simp only [cond_false]; exact hx.2.2) (x := ([], [], 0, ())) ⟨⟨by decide, fun h => absurd h (by decide), by simp [len]⟩, ⟨len_nonneg l, by simp [len]⟩, fun q hq => by cases hq⟩ (by unfold fuel; simp only; omega)
  exact ⟨h.1, by have h1 := h.2.1.2.1.1; have h2 := h.2.1.2.1.2; omega, h.2.1.2.2⟩
theorem f78_all (l : List D58) (hl : len l < 9223372036854775808) : f78_ok l ∧ Few 128 4096 (f78 l).1 := by
  refine ⟨⟨f94_all l hl, fun h0 => ?_⟩, ?_⟩
  · have h0 : f94 l = 0 := by simpa using h0
    exact (flat7 l (f94_zero hl h0).1 (f94_zero hl h0).2).1
  · simp only [f78, f78t, f78_L7_x2_0]
    cases h0 : (f94 l != 0) with
    | true => exact ⟨by simp [len], fun q hq => by cases hq⟩
    | false =>
      have h0 : f94 l = 0 := by simpa using h0
      exact (flat7 l (f94_zero hl h0).1 (f94_zero hl h0).2).2
theorem f79_all (l : List D58) (hl : len l < 9223372036854775808) : f79_ok l := ⟨f94_all l hl, fun h0 => by
  have h0 : f94 l = 0 := by simpa using h0
  have hk := (f94_zero hl h0).1
  refine ends_ind (fun x => 0 ≤ x.2.1 ∧ x.2.1 ≤ len l ∧ len x.1 ≤ x.2.1) (fun x => (len l - x.2.1).toNat) (fun x hx => fun h3 => ?_) (fun x hx hg => ?_) ⟨by decide, len_nonneg l, by simp [len]⟩ (by unfold fuel; simp only; omega)
  · have h4 : x.2.1 < len l := of_decide_eq_true h3
    refine ⟨⟨hx.1, h4⟩, inr_small (show _ ≤ len l - 1 by omega) (show len l - 1 ≤ _ by omega), fun _ => inr_small (by omega) (by omega), fun hf => ?_, fun _ => ?_, inr_small (by omega) (by omega)⟩
    · simp only [Bool.not_eq_true', beq_eq_false_iff_ne, ne_eq] at hf
      have hf : ¬ x.2.1 = len l - 1 := hf
      exact ⟨(show 0 ≤ x.2.1 + 1 by omega), (show x.2.1 + 1 < len l by omega)⟩
    · have := hx.2.2
      simp only [len] at this hk h4
      simp only [List.length_cons, List.length_nil]
      omega
  · have h4 : x.2.1 < len l := of_decide_eq_true hg
    refine ⟨⟨(show 0 ≤ x.2.1 + 1 by omega), (show x.2.1 + 1 ≤ len l by omega), ?_⟩, (show (len l - (x.2.1 + 1)).toNat < (len l - x.2.1).toNat by omega)⟩
    have := hx.2.2
    simp only [f79_L6_next, f79_L6t]
    cases (bif (x.2.1 == (len l - 1)) then true else ((nth l (x.2.1 + 1) Z58).1 == 1)) with
    | true => simp only [cond_true, len_app, len_one]; omega
    | false => simp only [cond_false]; omega⟩
end Go.Proofs.YthjoefjcljbapaaGreatDoor.Am
