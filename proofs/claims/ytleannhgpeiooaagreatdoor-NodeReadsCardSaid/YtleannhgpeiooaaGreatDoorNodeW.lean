/- Plain laws for the statements on nodes: warps. No condition. -/
import Derived.Test.YtleannhgpeiooaaGreatDoorNodeR
namespace Go.Proofs.YtleannhgpeiooaaGreatDoor.Am
open Go Go.Am

def wbad (l : List D59) (i : Int) : Bool :=
  bif (bif (bif decide ((nth l i Z59).1 < -1048576) then true else decide ((nth l i Z59).1 > 1048576)) then true else decide ((nth l i Z59).2.1 < -1048576)) then true else decide ((nth l i Z59).2.1 > 1048576)

theorem wcheck_eq (p : D35) (hp : len p.2.2.2.1 < 9223372036854775808) : f81 p = f96 p := by
  have h1 := scan_any (g := f81_L6_g (p.2.2.2.1, len p.2.2.2.1, ())) (next := f81_L6_next (p.2.2.2.1, len p.2.2.2.1, ())) (c := wbad p.2.2.2.1) (len_nonneg _) hp (fun _ => rfl) (fun _ => rfl)
  have h2 := scan_any (g := f96_L4_g (p, len p.2.2.2.1, ())) (next := f96_L4_next (p, len p.2.2.2.1, ())) (c := wbad p.2.2.2.1) (len_nonneg _) hp (fun _ => rfl) (fun _ => rfl)
  have e1 : f81_L6_e1 (p.2.2.2.1, len p.2.2.2.1, ()) (loopEnd (f81_L6_g (p.2.2.2.1, len p.2.2.2.1, ())) (f81_L6_next (p.2.2.2.1, len p.2.2.2.1, ())) (0, ())) = anyI (len p.2.2.2.1) (wbad p.2.2.2.1) := h1
  have e2 : f96_L4_e1 (p, len p.2.2.2.1, ()) (loopEnd (f96_L4_g (p, len p.2.2.2.1, ())) (f96_L4_next (p, len p.2.2.2.1, ())) (0, ())) = anyI (len p.2.2.2.1) (wbad p.2.2.2.1) := h2
  unfold f81 f96
  simp only [e1, e2]
  cases decide (p.1 < 2) <;> cases decide (p.1 > 8) <;> cases decide (p.2.1 < 2) <;> cases decide (p.2.1 > 8) <;> cases decide (p.2.2.1 < 1) <;> cases decide (p.2.2.1 > 256) <;> cases (len p.2.2.2.1 != p.1 * p.2.1) <;> rfl

theorem mul_small {a b : Int} (h1 : 2 ≤ a) (h2 : a ≤ 8) (h3 : 2 ≤ b) (h4 : b ≤ 8) : 0 ≤ a * b ∧ a * b ≤ 64 :=
  ⟨Int.mul_nonneg (by omega) (by omega), Int.le_trans (Int.mul_le_mul h2 h4 (by omega) (by omega)) (by decide)⟩

theorem w81_all (p : D35) (hp : len p.2.2.2.1 < 9223372036854775808) : f81_ok p := by
  intro h
  have h : (!(bif (bif (bif decide (p.1 < 2) then true else decide (p.1 > 8)) then true else decide (p.2.1 < 2)) then true else decide (p.2.1 > 8))) = true := h
  simp only [Bool.cond_true_left, Bool.not_or, Bool.and_eq_true, Bool.not_eq_true', decide_eq_false_iff_not] at h
  have hm := mul_small (a := p.1) (b := p.2.1) (by omega) (by omega) (by omega) (by omega)
  refine ⟨fun _ => by unfold InR; omega, fun _ => ?_⟩
  refine scan_ends (n := len p.2.2.2.1) (len_nonneg _) hp (fun x h => ?_) (fun _ => rfl) fun x h1 h2 h3 => ?_
  · have : (decide (x.1 < len p.2.2.2.1) && !(wbad p.2.2.2.1 x.1)) = true := h
    simp only [Bool.and_eq_true, decide_eq_true_eq] at this
    exact this.1
  · have h3 : x.1 < len p.2.2.2.1 := of_decide_eq_true h3
    exact ⟨⟨h1, h3⟩, fun _ => by unfold InR; omega⟩

theorem w96_all (p : D35) (hp : len p.2.2.2.1 < 9223372036854775808) : f96_ok p := by
  refine ⟨fun h => ?_, fun _ => ?_⟩
  · have h : (!(bif (bif (bif (bif (bif decide (p.1 < 2) then true else decide (p.1 > 8)) then true else decide (p.2.1 < 2)) then true else decide (p.2.1 > 8)) then true else decide (p.2.2.1 < 1)) then true else decide (p.2.2.1 > 256))) = true := h
    simp only [Bool.cond_true_left, Bool.not_or, Bool.and_eq_true, Bool.not_eq_true', decide_eq_false_iff_not] at h
    have hm := mul_small (a := p.1) (b := p.2.1) (by omega) (by omega) (by omega) (by omega)
    unfold InR; omega
  · refine scan_ends (n := len p.2.2.2.1) (len_nonneg _) hp (fun x h => ?_) (fun _ => rfl) fun x h1 h2 h3 => ?_
    · have : (decide (x.1 < len p.2.2.2.1) && !(wbad p.2.2.2.1 x.1)) = true := h
      simp only [Bool.and_eq_true, decide_eq_true_eq] at this
      exact this.1
    · have h3 : x.1 < len p.2.2.2.1 := of_decide_eq_true h3
      have hb : InB x.1 (len p.2.2.2.1) := ⟨h1, h3⟩
      exact ⟨hb, fun _ => hb, fun _ => hb, fun _ => hb, fun _ => by unfold InR; omega⟩

/-- One displacement, taken into the greatest so far. -/
def wstep (l : List D59) (m : Int) (i : Int) : Int := imax (imax (imax (imax m (nth l i Z59).1) (Int.sub 0 (nth l i Z59).1)) (nth l i Z59).2.1) (Int.sub 0 (nth l i Z59).2.1)

theorem w48_loop (l : List D59) (hp : len l < 9223372036854775808) : loopEnd (f48_L5_g (l, len l, ())) (f48_L5_next (l, len l, ())) (0, 0, ()) = (foldI (wstep l) (len l).toNat 0, len l, ()) :=
  fold_loop (g := f48_L5_g (l, len l, ())) (next := f48_L5_next (l, len l, ())) (step := wstep l) (n := len l) (len_nonneg l) hp (fun _ => rfl) (fun _ => rfl) (0 : Int)

theorem bif_imax (a v : Int) : (bif decide (v > a) then v else a) = imax a v := by
  unfold imax
  by_cases h : v > a
  · simp [h]
  · simp [h]

theorem w51_in (p : D35) (l4 : List Int) (n i m : Int) (h4 : len l4 = 4) : loopEnd (f51_L9_g (p, l4, n, i, len l4, ())) (f51_L9_next (p, l4, n, i, len l4, ())) (m, 0, ()) =
    (foldI (fun a k => imax a (nth l4 k 0)) 4 m, 4, ()) := by
  have := fold_loop (g := f51_L9_g (p, l4, n, i, len l4, ())) (next := f51_L9_next (p, l4, n, i, len l4, ())) (n := 4) (step := fun a k => imax a (nth l4 k 0)) (by decide) (by decide) (fun x => by rw [← h4]; rfl) (fun x => by
    rw [← bif_imax]; rfl) m
  exact this

theorem w51_loop (p : D35) (hp : len p.2.2.2.1 < 9223372036854775808) : loopEnd (f51_L5_g (p, len p.2.2.2.1, ())) (f51_L5_next (p, len p.2.2.2.1, ())) (0, 0, ()) = (foldI (wstep p.2.2.2.1) (len p.2.2.2.1).toNat 0, len p.2.2.2.1, ()) := by
  refine fold_loop (g := f51_L5_g (p, len p.2.2.2.1, ())) (next := f51_L5_next (p, len p.2.2.2.1, ())) (step := wstep p.2.2.2.1) (n := len p.2.2.2.1) (len_nonneg _) hp (fun _ => rfl) (fun x => ?_) (0 : Int)
  have h := w51_in p [(nth p.2.2.2.1 x.2.1 Z59).1, Int.sub 0 (nth p.2.2.2.1 x.2.1 Z59).1, (nth p.2.2.2.1 x.2.1 Z59).2.1, Int.sub 0 (nth p.2.2.2.1 x.2.1 Z59).2.1] (len p.2.2.2.1) x.2.1 x.1 rfl
  show ((f51_L9_x4 _ (loopEnd (f51_L9_g _) (f51_L9_next _) (x.1, 0, ()))).1, x.2.1 + 1, ()) = _
  rw [h]
  rfl

theorem wbad_false {l : List D59} {i : Int} (h : wbad l i = false) : -1048576 ≤ (nth l i Z59).1 ∧ (nth l i Z59).1 ≤ 1048576 ∧ -1048576 ≤ (nth l i Z59).2.1 ∧ (nth l i Z59).2.1 ≤ 1048576 := by
  simp only [wbad, Bool.cond_true_left, Bool.or_eq_false_iff, decide_eq_false_iff_not] at h
  omega

theorem anyI_false {n : Int} {c : Int → Bool} (h : anyI n c = false) : ∀ i, 0 ≤ i → i < n → c i = false := by
  intro i h1 h2
  simp only [anyI, List.any_eq_false, List.mem_range] at h
  have := h i.toNat (by omega)
  rw [Int.toNat_of_nonneg h1] at this
  simpa using this

theorem imax_le {a b c : Int} (h1 : a ≤ c) (h2 : b ≤ c) : imax a b ≤ c := by unfold imax; split <;> omega
theorem le_imax {a b c : Int} (h1 : c ≤ a) : c ≤ imax a b := by unfold imax; split <;> omega

/-- What a valid warp's displacements are. -/
theorem wcheck_zero {p : D35} (hp : len p.2.2.2.1 < 9223372036854775808) (h : f81 p = 0) : ∀ i, 0 ≤ i → i < len p.2.2.2.1 → wbad p.2.2.2.1 i = false := by
  have h1 := scan_any (g := f81_L6_g (p.2.2.2.1, len p.2.2.2.1, ())) (next := f81_L6_next (p.2.2.2.1, len p.2.2.2.1, ())) (c := wbad p.2.2.2.1) (len_nonneg _) hp (fun _ => rfl) (fun _ => rfl)
  have e1 : f81_L6_e1 (p.2.2.2.1, len p.2.2.2.1, ()) (loopEnd (f81_L6_g (p.2.2.2.1, len p.2.2.2.1, ())) (f81_L6_next (p.2.2.2.1, len p.2.2.2.1, ())) (0, ())) = anyI (len p.2.2.2.1) (wbad p.2.2.2.1) := h1
  refine anyI_false ?_
  cases ha : anyI (len p.2.2.2.1) (wbad p.2.2.2.1) with
  | false => rfl
  | true =>
    exfalso
    unfold f81 at h
    simp only [e1, ha, cond_true] at h
    revert h
    cases (bif (bif (bif decide (p.1 < 2) then true else decide (p.1 > 8)) then true else decide (p.2.1 < 2)) then true else decide (p.2.1 > 8)) <;> cases (bif (bif decide (p.2.2.1 < 1) then true else decide (p.2.2.1 > 256)) then true else (len p.2.2.2.1 != p.1 * p.2.1)) <;> (intro h; cases h)

theorem wfold_bound {l : List D59} {n : Nat} (h : ∀ i, 0 ≤ i → i < (n : Int) → wbad l i = false) : ∀ k, k ≤ n → 0 ≤ foldI (wstep l) k 0 ∧ foldI (wstep l) k 0 ≤ 1048576 := by
  refine foldI_inv (fun m => 0 ≤ m ∧ m ≤ 1048576) (fun m i h1 h2 hm => ?_) (by omega)
  have := wbad_false (h i h1 h2)
  have e : ∀ a : Int, Int.sub 0 a = 0 - a := fun _ => rfl
  unfold wstep
  rw [e, e]
  exact ⟨le_imax (le_imax (le_imax (le_imax hm.1))), imax_le (imax_le (imax_le (imax_le hm.2 (by omega)) (by omega)) (by omega)) (by omega)⟩

theorem ceil_eq {m : Int} (h0 : 0 ≤ m) (h1 : m ≤ 1048576) : Int.tdiv (m + 65536 - 1) 65536 = Int.sub 0 (f98 (Int.sub 0 m) 65536) := by
  have e : ∀ a : Int, Int.sub 0 a = -a := fun a => by show 0 - a = -a; omega
  rw [e, e]
  unfold f98
  have b1 : ((65536 : Int) == 0) = false := by decide
  have b2 : ((65536 : Int) == -1) = false := by decide
  have b3 : decide ((65536 : Int) < 0) = false := by decide
  simp only [b1, b2, b3, Bool.cond_false_right, Bool.and_false, cond_false]
  rw [Int.neg_tdiv, Int.neg_tmod, Int.tdiv_eq_ediv_of_nonneg h0, Int.tmod_eq_emod_of_nonneg h0, Int.tdiv_eq_ediv_of_nonneg (by omega)]
  by_cases hr : m % 65536 = 0
  · have : (-(m % 65536) != 0) = false := by simp [hr]
    rw [this, Bool.false_and, cond_false]
    omega
  · have h2 : (-(m % 65536) != 0) = true := by simp; omega
    have h3 : decide (-(m % 65536) < 0) = true := by simp; omega
    rw [h2, h3]
    show (m + 65536 - 1) / 65536 = -(-(m / 65536) - 1)
    omega

theorem wreach_eq (p : D35) (hp : len p.2.2.2.1 < 9223372036854775808) : f48 p = f51 p := by
  have h1 : f48 p = bif (f81 p != 0) then 0 else Int.tdiv ((f48_L5_x2 (p.2.2.2.1, len p.2.2.2.1, ()) (loopEnd (f48_L5_g (p.2.2.2.1, len p.2.2.2.1, ())) (f48_L5_next (p.2.2.2.1, len p.2.2.2.1, ())) (0, 0, ()))).1 + 65536 - 1) 65536 := rfl
  have h2 : f51 p = bif (f96 p != 0) then 0 else Int.sub 0 (f98 (Int.sub 0 (f51_L5_x2 (p, len p.2.2.2.1, ()) (loopEnd (f51_L5_g (p, len p.2.2.2.1, ())) (f51_L5_next (p, len p.2.2.2.1, ())) (0, 0, ()))).1) 65536) := rfl
  rw [h1, h2, w48_loop _ hp, w51_loop p hp, wcheck_eq p hp]
  cases hz : (f96 p != 0) with
  | true => rfl
  | false =>
    have hz : f81 p = 0 := by rw [wcheck_eq p hp]; simpa using hz
    have hb := wfold_bound (l := p.2.2.2.1) (n := (len p.2.2.2.1).toNat) (fun i a b => wcheck_zero hp hz i a (by have := len_nonneg p.2.2.2.1; omega)) (len p.2.2.2.1).toNat (Nat.le_refl _)
    exact ceil_eq hb.1 hb.2
end Go.Proofs.YtleannhgpeiooaaGreatDoor.Am
