/- Font: the error of a font, by the program and by the reference. No condition. -/
import Derived.Test.YtdgfchmfajmkiaaDoorOutP2
import Derived.Test.YtdgfchmfajmkiaaDoorMach4
namespace Go.Proofs.YtdgfchmfajmkiaaDoor.Am
open Go Go.Am
def firstE (e : Int → Int) (d : Int) : Nat → Int → Int
  | 0, _ => d
  | k + 1, i => bif e i == 0 then firstE e d k (i + 1) else e i
theorem firstE_at {e : Int → Int} {d : Int} : ∀ (k : Nat) (i j : Int), i ≤ j → j ≤ i + k → (∀ t, i ≤ t → t < j → e t = 0) → (j < i + k → e j ≠ 0) → firstE e d k i = if j < i + k then e j else d := by
  intro k
  induction k with
  | zero => intro i j h1 h2 _ _; rw [if_neg (by omega)]; rfl
  | succ k ih =>
    intro i j h1 h2 h3 h4
    rw [firstE]
    by_cases hi : e i = 0
    · have hij : i + 1 ≤ j := by
        by_cases he : j = i
        · subst he; exact absurd hi (h4 (by omega))
        · omega
      rw [hi]
      simp only [beq_self_eq_true, cond_true]
      rw [ih (i + 1) j hij (by omega) (fun t ht1 ht2 => h3 t (by omega) ht2) (fun h => h4 (by omega))]
      have : (j < i + 1 + (k : Int)) ↔ (j < i + ((k + 1 : Nat) : Int)) := by omega
      simp only [this]
    · have hij : j = i := by
        by_cases he : j = i
        · exact he
        · exact absurd (h3 i (by omega) (by omega)) hi
      subst hij
      have : (e j == 0) = false := by simpa using hi
      rw [this, cond_false, if_pos (by omega)]
theorem firstE_congr {e e' : Int → Int} {d : Int} : ∀ (k : Nat) (i : Int), (∀ t, i ≤ t → t < i + k → e t = e' t) → firstE e d k i = firstE e' d k i := by
  intro k
  induction k with
  | zero => intro i _; rfl
  | succ k ih =>
    intro i h
    rw [firstE, firstE, h i (by omega) (by omega), ih (i + 1) (fun t h1 h2 => h t (by omega) (by omega))]
theorem firstE_zero {e : Int → Int} : ∀ (k : Nat) (i : Int), firstE e 0 k i = 0 → ∀ t, i ≤ t → t < i + k → e t = 0 := by
  intro k
  induction k with
  | zero => intro i _ t h1 h2; omega
  | succ k ih =>
    intro i h t h1 h2
    rw [firstE] at h
    by_cases hi : e i = 0
    · rw [hi] at h
      simp only [beq_self_eq_true, cond_true] at h
      by_cases ht : t = i
      · subst ht; exact hi
      · exact ih (i + 1) h t (by omega) (by omega)
    · have : (e i == 0) = false := by simpa using hi
      rw [this, cond_false] at h
      exact absurd h hi
theorem scanE {g : Int × Unit → Bool} {next : Int × Unit → Int × Unit} {e1 : Int × Unit → Bool} {x1 : Int × Unit → Int} {n d : Int} {e : Int → Int} (hn0 : 0 ≤ n) (hn : n < 9223372036854775808) (hg : ∀ x, g x = (decide (x.1 < n) && (e x.1 == 0))) (hx : ∀ x, next x = (x.1 + 1, ()))
    (he : ∀ x, e1 x = (decide (x.1 < n) && (e x.1 != 0))) (hx1 : ∀ x, e x.1 ≠ 0 → x1 x = e x.1) :
    (bif e1 (loopEnd g next (0, ())) then x1 (loopEnd g next (0, ())) else d) = firstE e d n.toNat 0 := by
  obtain ⟨j, h1, h2, h3, h4, h5⟩ := scan (g := g) (next := next) (c := fun i => e i != 0) hn0 hn (fun x => by rw [hg]; simp [bne]) hx
  rw [h3, firstE_at n.toNat 0 j h1 (by omega) (fun t ht1 ht2 => by simpa using h4 t ht1 ht2) (fun h => by simpa using h5 (by omega)), he]
  by_cases hj : j < n
  · have this : (e j != 0) = true := h5 hj
    rw [if_pos (by omega)]
    simp only [hj, decide_true, Bool.true_and, this, cond_true]
    exact hx1 (j, ()) (by simpa using this)
  · rw [if_neg (by omega)]
    simp [hj]
theorem scan_both {g : Int × Unit → Bool} {next : Int × Unit → Int × Unit} {n : Int} {c : Int → Bool} (hn0 : 0 ≤ n) (hn : n < 9223372036854775808) (hg : ∀ x, g x = (decide (x.1 < n) && !(c x.1))) (hx : ∀ x, next x = (x.1 + 1, ())) :
    (!decide ((loopEnd g next (0, ())).1 < n)) = !anyI n c := by
  rw [← scan_any hn0 hn hg hx]
  obtain ⟨j, _, _, h3, _, h5⟩ := scan hn0 hn hg hx
  rw [h3]
  by_cases hj : j < n
  · simp [hj, h5 hj]
  · simp [hj]
def c9 (s : D74) (k : Int) : Bool := bif f51 (nth s.2.1 k Z50) then true else (bif decide (k ≥ f52 s.1) then !(Ty.eqb T50 (nth s.2.1 k Z50) ((0 : Int), (0 : Int), ())) else false)
def ord (l : List D74) (i : Int) : Bool := bif (nth l i Z74).1 != 1 then (bif i == 0 then true else (nth l (i - 1) Z74).1 == 5) else false
def eS (l : List D74) (i : Int) : Int := bif (bif decide ((nth l i Z74).1 < 1) then true else decide ((nth l i Z74).1 > 5)) then 8 else bif anyI 3 (c9 (nth l i Z74)) then 2 else bif ord l i then 24 else 0
theorem f30_in (l : List D74) (i : Int) (z : Int) : (f30_L9_e4 (l, i, nth l i Z74, l, z, i, (nth l i Z74).2.1, ()) (loopEnd (f30_L9_g (l, i, nth l i Z74, l, z, i, (nth l i Z74).2.1, ())) (f30_L9_next (l, i, nth l i Z74, l, z, i, (nth l i Z74).2.1, ())) (0, ()))) = !anyI 3 (c9 (nth l i Z74)) :=
  scan_both (c := c9 (nth l i Z74)) (by omega) (by omega) (fun _ => rfl) (fun _ => rfl)
theorem f30_in1 (l : List D74) (i : Int) (z : Int) : (f30_L9_e1 (l, i, nth l i Z74, l, z, i, (nth l i Z74).2.1, ()) (loopEnd (f30_L9_g (l, i, nth l i Z74, l, z, i, (nth l i Z74).2.1, ())) (f30_L9_next (l, i, nth l i Z74, l, z, i, (nth l i Z74).2.1, ())) (0, ()))) = anyI 3 (c9 (nth l i Z74)) :=
  scan_any (c := c9 (nth l i Z74)) (by omega) (by omega) (fun _ => rfl) (fun _ => rfl)
theorem f30_eq (l : List D74) (hl : len l < 9223372036854775808) : f30 l = bif decide (len l > 128) then 3 else firstE (eS l) 0 (len l).toNat 0 := by
  have key := scanE (g := f30_L4_g (l, l, len l, ())) (next := f30_L4_next (l, l, len l, ())) (e1 := f30_L4_e1 (l, l, len l, ())) (x1 := f30_L4_x1_0 (l, l, len l, ())) (d := 0) (e := eS l) (len_nonneg l) hl
    (fun x => by
      simp only [f30_L4_g, f30_L4t, f30_in, eS]
      show (_ && (_ && (_ && !(ord l x.1)))) = _
      generalize (bif decide ((nth l x.1 Z74).1 < 1) then true else decide ((nth l x.1 Z74).1 > 5)) = A
      generalize anyI 3 (c9 (nth l x.1 Z74)) = B
      generalize ord l x.1 = C
      cases A <;> cases B <;> cases C <;> simp) (fun _ => rfl)
    (fun x => by
      simp only [f30_L4_e1, f30_L4t, f30_in, f30_in1, eS]
      show (_ && (_ || (_ && (_ || (_ && (ord l x.1)))))) = _
      generalize (bif decide ((nth l x.1 Z74).1 < 1) then true else decide ((nth l x.1 Z74).1 > 5)) = A
      generalize anyI 3 (c9 (nth l x.1 Z74)) = B
      generalize ord l x.1 = C
      cases A <;> cases B <;> cases C <;> simp)
    (fun x hx => by
      revert hx
      simp only [f30_L4_x1_0, f30_in1, eS, f30_L9_x1_0]
      generalize (bif decide ((nth l x.1 Z74).1 < 1) then true else decide ((nth l x.1 Z74).1 > 5)) = A
      generalize anyI 3 (c9 (nth l x.1 Z74)) = B
      generalize ord l x.1 = C
      cases A <;> cases B <;> cases C <;> simp)
  show (bif decide (len l > 128) then 3 else _) = _
  rw [← key]
theorem scan_neg {g : Int × Unit → Bool} {next : Int × Unit → Int × Unit} {n : Int} {c : Int → Bool} (hn : n < 9223372036854775808) (hg : ∀ x, g x = (decide (x.1 < n) && !(c x.1))) (hx : ∀ x, next x = (x.1 + 1, ())) :
    (decide ((loopEnd g next (0, ())).1 < n) && c (loopEnd g next (0, ())).1) = anyI n c ∧ (!decide ((loopEnd g next (0, ())).1 < n)) = !anyI n c := by
  by_cases h0 : 0 ≤ n
  · exact ⟨scan_any h0 hn hg hx, scan_both h0 hn hg hx⟩
  · have hgf : g (0, ()) = false := by rw [hg]; simp; omega
    have he : loopEnd g next (0, ()) = (0, ()) := loopN_end hgf _
    have ha : anyI n c = false := by unfold anyI; rw [show n.toNat = 0 by omega]; rfl
    rw [he, ha]
    simp; omega
theorem anyI_iff {n : Int} {c : Int → Bool} : anyI n c = true ↔ ∃ i, 0 ≤ i ∧ i < n ∧ c i = true := by
  unfold anyI
  rw [List.any_eq_true]
  constructor
  · rintro ⟨k, hk, hc⟩
    rw [List.mem_range] at hk
    exact ⟨k, by omega, by omega, hc⟩
  · rintro ⟨i, h1, h2, hc⟩
    exact ⟨i.toNat, List.mem_range.2 (by omega), by rw [Int.toNat_of_nonneg h1]; exact hc⟩
theorem anyI_not {n : Int} {c : Int → Bool} (h : anyI n c = false) : ∀ i, 0 ≤ i → i < n → c i = false := by
  intro i h1 h2
  cases hc : c i with
  | false => rfl
  | true => have := anyI_iff.2 ⟨i, h1, h2, hc⟩; rw [this] at h; cases h
def c2 (s : D74) (k : Int) : Bool := bif (bif decide (k < f40 s.1) then !(f69 (nth s.2.1 k Z50)) else false) then true else (bif decide (k ≥ f40 s.1) then !(Ty.eqb T50 (nth s.2.1 k Z50) ((0 : Int), (0 : Int), ())) else false)
theorem f56_eq (s : D74) : f56 s = !anyI 3 (c2 s) := by
  have h := scan_any (g := f56_L2_g (s, ())) (next := f56_L2_next (s, ())) (n := 3) (c := c2 s) (by omega) (by omega) (fun _ => rfl) (fun _ => rfl)
  rw [← h]
  show (bif _ then false else true) = _
  generalize hA : f56_L2_e1 (s, ()) (loopEnd (f56_L2_g (s, ())) (f56_L2_next (s, ())) (0, ())) = A
  have hA' : (decide ((loopEnd (f56_L2_g (s, ())) (f56_L2_next (s, ())) (0, ())).1 < 3) && c2 s (loopEnd (f56_L2_g (s, ())) (f56_L2_next (s, ())) (0, ())).1) = A := hA
  rw [hA']
  cases A <;> rfl
def eS' (l : List D74) (i : Int) : Int := bif decide (f40 (nth l i Z74).1 < 0) then 8 else bif !(f56 (nth l i Z74)) then 2 else bif ord l i then 24 else 0
theorem f38_eq (l : List D74) (hl : len l < 9223372036854775808) : f38 l = bif decide (len l > 128) then 3 else firstE (eS' l) 0 (len l).toNat 0 := by
  have key := scanE (g := f38_L4_g (l, ())) (next := f38_L4_next (l, ())) (e1 := f38_L4_e1 (l, ())) (x1 := f38_L4_x1_0 (l, ())) (d := 0) (e := eS' l) (len_nonneg l) hl
    (fun x => by
      simp only [f38_L4_g, f38_L4t, eS']
      show (_ && (_ && (_ && !(ord l x.1)))) = _
      generalize decide (f40 (nth l x.1 Z74).1 < 0) = A
      generalize (!(f56 (nth l x.1 Z74))) = B
      generalize ord l x.1 = C
      cases A <;> cases B <;> cases C <;> simp) (fun _ => rfl)
    (fun x => by
      simp only [f38_L4_e1, f38_L4t, eS']
      show (_ && (_ || (_ && (_ || (_ && (ord l x.1)))))) = _
      generalize decide (f40 (nth l x.1 Z74).1 < 0) = A
      generalize (!(f56 (nth l x.1 Z74))) = B
      generalize ord l x.1 = C
      cases A <;> cases B <;> cases C <;> simp)
    (fun x hx => by
      revert hx
      simp only [f38_L4_x1_0, eS']
      generalize decide (f40 (nth l x.1 Z74).1 < 0) = A
      generalize (!(f56 (nth l x.1 Z74))) = B
      generalize ord l x.1 = C
      cases A <;> cases B <;> cases C <;> simp)
  show (bif decide (len l > 128) then 3 else _) = _
  rw [← key]
theorem kinds (k : Int) : (k = 1 ∧ f40 k = 1 ∧ f52 k = 1) ∨ (k = 2 ∧ f40 k = 1 ∧ f52 k = 1) ∨ (k = 3 ∧ f40 k = 2 ∧ f52 k = 2) ∨ (k = 4 ∧ f40 k = 3 ∧ f52 k = 3) ∨ (k = 5 ∧ f40 k = 0 ∧ f52 k = 0) ∨ ((k < 1 ∨ 5 < k) ∧ f40 k = -1) := by
  by_cases h1 : k = 1
  · subst h1; exact .inl ⟨rfl, rfl, rfl⟩
  by_cases h2 : k = 2
  · subst h2; exact .inr (.inl ⟨rfl, rfl, rfl⟩)
  by_cases h3 : k = 3
  · subst h3; exact .inr (.inr (.inl ⟨rfl, rfl, rfl⟩))
  by_cases h4 : k = 4
  · subst h4; exact .inr (.inr (.inr (.inl ⟨rfl, rfl, rfl⟩)))
  by_cases h5 : k = 5
  · subst h5; exact .inr (.inr (.inr (.inr (.inl ⟨rfl, rfl, rfl⟩))))
  refine .inr (.inr (.inr (.inr (.inr ⟨by omega, ?_⟩))))
  have e1 : (k == 1) = false := by simpa using h1
  have e2 : (k == 2) = false := by simpa using h2
  have e3 : (k == 3) = false := by simpa using h3
  have e4 : (k == 4) = false := by simpa using h4
  have e5 : (k == 5) = false := by simpa using h5
  simp only [f40, f40t, e1, e2, e3, e4, e5, cond_false]
theorem f51_eq (p : D50) : f51 p = !f69 p := by
  rw [Bool.eq_iff_iff]
  simp only [f51, f51t, f69, f69t]
  by_cases a : p.1 < -16777216 <;> by_cases b : p.1 > 16777216 <;> by_cases c : p.2.1 < -16777216 <;> by_cases d : p.2.1 > 16777216 <;> simp [a, b, c, d] <;> omega
theorem zeroP (p : D50) : Ty.eqb T50 p ((0 : Int), (0 : Int), ()) = true ↔ p.1 = 0 ∧ p.2.1 = 0 := by
  show ((p.1 == 0) && ((p.2.1 == 0) && true)) = true ↔ _
  simp
theorem f51_zero {p : D50} (h : f51 p = true) : Ty.eqb T50 p ((0 : Int), (0 : Int), ()) = false := by
  cases hz : Ty.eqb T50 p ((0 : Int), (0 : Int), ()) with
  | false => rfl
  | true =>
    have := (zeroP p).1 hz
    simp [f51, f51t, this.1, this.2] at h
theorem c9_c2 {s : D74} (h : f40 s.1 = f52 s.1) (k : Int) : c9 s k = c2 s k := by
  unfold c9 c2
  rw [h, f51_eq]
  have hz := @f51_zero (nth s.2.1 k Z50)
  rw [f51_eq] at hz
  revert hz
  generalize f69 (nth s.2.1 k Z50) = A
  generalize Ty.eqb T50 (nth s.2.1 k Z50) ((0 : Int), (0 : Int), ()) = B
  by_cases hk : k < f52 s.1
  · have : ¬ k ≥ f52 s.1 := by omega
    cases A <;> cases B <;> simp [hk, this]
  · have : k ≥ f52 s.1 := by omega
    cases A <;> cases B <;> simp [hk, this]
theorem eS_eq (l : List D74) (i : Int) : eS l i = eS' l i := by
  unfold eS eS'
  rw [f56_eq]
  rcases kinds (nth l i Z74).1 with ⟨h, h1, h2⟩ | ⟨h, h1, h2⟩ | ⟨h, h1, h2⟩ | ⟨h, h1, h2⟩ | ⟨h, h1, h2⟩ | ⟨h, h1⟩
  iterate 5
    rw [anyI_congr (n := 3) (m := 3) rfl (fun k _ _ => c9_c2 (h1.trans h2.symm) k), h1, h]
    simp
  rw [h1]
  rcases h with h | h
  · simp [h]
  · have : ¬ (nth l i Z74).1 < 1 := by omega
    simp [h, this]
theorem f30_f30 (l : List D74) (hl : len l < 9223372036854775808) : f30 l = f38 l := by
  rw [f30_eq l hl, f38_eq l hl, firstE_congr _ _ fun t _ _ => eS_eq l t]
def big (p : D50) : Bool := decide (imax (imax (imax p.1 (Int.sub 0 p.1)) p.2.1) (Int.sub 0 p.2.1) > (65536 : Int))
def cP (s : D74) (k : Int) : Bool := bif !(f25 (nth s.2.1 k Z50).1 (-65536) 65536) then true else !(f25 (nth s.2.1 k Z50).2.1 (-65536) 65536)
theorem cP_big (s : D74) (k : Int) : cP s k = big (nth s.2.1 k Z50) := by
  rw [Bool.eq_iff_iff]
  simp only [cP, big, f25, f25t, imax]
  generalize (nth s.2.1 k Z50).1 = x
  generalize (nth s.2.1 k Z50).2.1 = y
  have e1 : Int.sub 0 x = -x := by show 0 - x = -x; omega
  have e2 : Int.sub 0 y = -y := by show 0 - y = -y; omega
  rw [e1, e2]
  by_cases a : x ≥ -65536 <;> by_cases b : x ≤ 65536 <;> by_cases c : y ≥ -65536 <;> by_cases d : y ≤ 65536 <;> simp [a, b, c, d] <;> (repeat' split) <;> omega
theorem f40_le (k : Int) : f40 k ≤ 3 := by
  rcases kinds k with ⟨_, h, _⟩ | ⟨_, h, _⟩ | ⟨_, h, _⟩ | ⟨_, h, _⟩ | ⟨_, h, _⟩ | ⟨_, h⟩ <;> omega
theorem f54_in (l : List D74) (i : Int) : (f54_L5_e1 (l, i, ()) (loopEnd (f54_L5_g (l, i, ())) (f54_L5_next (l, i, ())) (0, ()))) = anyI (f40 (nth l i Z74).1) (fun k => big (nth (nth l i Z74).2.1 k Z50)) ∧
    (f54_L5_e4 (l, i, ()) (loopEnd (f54_L5_g (l, i, ())) (f54_L5_next (l, i, ())) (0, ()))) = !anyI (f40 (nth l i Z74).1) (fun k => big (nth (nth l i Z74).2.1 k Z50)) :=
  scan_neg (n := f40 (nth l i Z74).1) (c := fun k => big (nth (nth l i Z74).2.1 k Z50)) (by have := f40_le (nth l i Z74).1; omega) (fun _ => rfl) (fun _ => rfl)
theorem f54_eq (l : List D74) (hl : len l < 9223372036854775808) : f54 l = !anyI (len l) (fun i => anyI (f40 (nth l i Z74).1) (fun k => big (nth (nth l i Z74).2.1 k Z50))) := by
  have h := scan_any (g := f54_L2_g (l, ())) (next := f54_L2_next (l, ())) (n := len l) (c := fun i => anyI (f40 (nth l i Z74).1) (fun k => big (nth (nth l i Z74).2.1 k Z50))) (len_nonneg l) hl
    (fun x => by simp only [f54_L2_g, f54_L2t, (f54_in l x.1).2]) (fun _ => rfl)
  rw [← h]
  have he : f54_L2_e1 (l, ()) (loopEnd (f54_L2_g (l, ())) (f54_L2_next (l, ())) (0, ())) = (decide ((loopEnd (f54_L2_g (l, ())) (f54_L2_next (l, ())) (0, ())).1 < len l) && anyI (f40 (nth l (loopEnd (f54_L2_g (l, ())) (f54_L2_next (l, ())) (0, ())).1 Z74).1) (fun k => big (nth (nth l (loopEnd (f54_L2_g (l, ())) (f54_L2_next (l, ())) (0, ())).1 Z74).2.1 k Z50))) := by
    simp only [f54_L2_e1, f54_L2t, (f54_in l _).1]
  show (bif f54_L2_e1 (l, ()) (loopEnd (f54_L2_g (l, ())) (f54_L2_next (l, ())) (0, ())) then f54_L2_x1_0 (l, ()) (loopEnd (f54_L2_g (l, ())) (f54_L2_next (l, ())) (0, ())) else true) = _
  rw [he]
  have hx : f54_L2_x1_0 (l, ()) (loopEnd (f54_L2_g (l, ())) (f54_L2_next (l, ())) (0, ())) = false := rfl
  rw [hx]
  generalize (decide ((loopEnd (f54_L2_g (l, ())) (f54_L2_next (l, ())) (0, ())).1 < len l) && anyI _ _) = A
  cases A <;> rfl
theorem f47_in (l : List D74) (i z : Int) : (f47_L10_e1 (l, z, i, (nth l i Z74).2.1, ()) (loopEnd (f47_L10_g (l, z, i, (nth l i Z74).2.1, ())) (f47_L10_next (l, z, i, (nth l i Z74).2.1, ())) (0, ()))) = anyI 3 (cP (nth l i Z74)) ∧
    (f47_L10_e4 (l, z, i, (nth l i Z74).2.1, ()) (loopEnd (f47_L10_g (l, z, i, (nth l i Z74).2.1, ())) (f47_L10_next (l, z, i, (nth l i Z74).2.1, ())) (0, ()))) = !anyI 3 (cP (nth l i Z74)) :=
  scan_neg (c := cP (nth l i Z74)) (by omega) (fun _ => rfl) (fun _ => rfl)
theorem f47_eq (q : D47) (hl : len q.2.2.1 < 9223372036854775808) : f47 q = bif !(f25 q.2.1 0 65536) then 2 else bif f30 q.2.2.1 != 0 then f30 q.2.2.1 else bif anyI (len q.2.2.1) (fun i => anyI 3 (cP (nth q.2.2.1 i Z74))) then 2 else 0 := by
  have h := scan_any (g := f47_L7_g (q.2.2.1, len q.2.2.1, ())) (next := f47_L7_next (q.2.2.1, len q.2.2.1, ())) (n := len q.2.2.1) (c := fun i => anyI 3 (cP (nth q.2.2.1 i Z74))) (len_nonneg _) hl
    (fun x => by simp only [f47_L7_g, f47_L7t, (f47_in q.2.2.1 x.1 _).2]) (fun _ => rfl)
  rw [← h]
  have he : f47_L7_e1 (q.2.2.1, len q.2.2.1, ()) (loopEnd (f47_L7_g (q.2.2.1, len q.2.2.1, ())) (f47_L7_next (q.2.2.1, len q.2.2.1, ())) (0, ())) =
      (decide ((loopEnd (f47_L7_g (q.2.2.1, len q.2.2.1, ())) (f47_L7_next (q.2.2.1, len q.2.2.1, ())) (0, ())).1 < len q.2.2.1) && anyI 3 (cP (nth q.2.2.1 (loopEnd (f47_L7_g (q.2.2.1, len q.2.2.1, ())) (f47_L7_next (q.2.2.1, len q.2.2.1, ())) (0, ())).1 Z74))) := by
    simp only [f47_L7_e1, f47_L7t, (f47_in q.2.2.1 _ _).1]
  show (bif !(f25 q.2.1 0 65536) then 2 else bif f30 q.2.2.1 != 0 then f30 q.2.2.1 else bif f47_L7_e1 (q.2.2.1, len q.2.2.1, ()) (loopEnd (f47_L7_g (q.2.2.1, len q.2.2.1, ())) (f47_L7_next (q.2.2.1, len q.2.2.1, ())) (0, ())) then 2 else 0) = _
  rw [he]
theorem used {l : List D74} {i : Int} (h : eS l i = 0) : anyI 3 (cP (nth l i Z74)) = anyI (f40 (nth l i Z74).1) (fun k => big (nth (nth l i Z74).2.1 k Z50)) := by
  have hv : f40 (nth l i Z74).1 = f52 (nth l i Z74).1 ∧ 0 ≤ f40 (nth l i Z74).1 ∧ f40 (nth l i Z74).1 ≤ 3 := by
    rcases kinds (nth l i Z74).1 with ⟨_, h1, h2⟩ | ⟨_, h1, h2⟩ | ⟨_, h1, h2⟩ | ⟨_, h1, h2⟩ | ⟨_, h1, h2⟩ | ⟨hk, h1⟩
    iterate 5 exact ⟨h1.trans h2.symm, by omega, by omega⟩
    rw [eS_eq] at h
    unfold eS' at h
    rw [h1] at h
    simp at h
  have hc : anyI 3 (c9 (nth l i Z74)) = false := by
    cases hc : anyI 3 (c9 (nth l i Z74)) with
    | false => rfl
    | true =>
      unfold eS at h
      rw [hc] at h
      revert h
      generalize (bif decide ((nth l i Z74).1 < 1) then true else decide ((nth l i Z74).1 > 5)) = A
      cases A <;> simp
  obtain ⟨h1, h2, h3⟩ := hv
  have hz : ∀ k, f40 (nth l i Z74).1 ≤ k → k < 3 → big (nth (nth l i Z74).2.1 k Z50) = false := by
    intro k hk hk3
    have := anyI_not hc k (by omega) hk3
    unfold c9 at this
    rw [← h1] at this
    have hz : Ty.eqb T50 (nth (nth l i Z74).2.1 k Z50) ((0 : Int), (0 : Int), ()) = true := by
      revert this
      generalize f51 (nth (nth l i Z74).2.1 k Z50) = A
      generalize Ty.eqb T50 (nth (nth l i Z74).2.1 k Z50) ((0 : Int), (0 : Int), ()) = B
      have : k ≥ f40 (nth l i Z74).1 := hk
      cases A <;> cases B <;> simp [this]
    obtain ⟨z1, z2⟩ := (zeroP _).1 hz
    unfold big
    rw [z1, z2]
    rfl
  rw [Bool.eq_iff_iff, anyI_iff, anyI_iff]
  constructor
  · rintro ⟨k, k1, k2, k3⟩
    rw [cP_big] at k3
    refine ⟨k, k1, ?_, k3⟩
    by_cases hk : k < f40 (nth l i Z74).1
    · exact hk
    · rw [hz k (by omega) k2] at k3; cases k3
  · rintro ⟨k, k1, k2, k3⟩
    exact ⟨k, k1, by omega, by rw [cP_big]; exact k3⟩
theorem glyph_eq (q : D47) (hl : len q.2.2.1 < 9223372036854775808) : f47 q = bif (bif decide (q.2.1 < 0) then true else decide (q.2.1 > 65536)) then 2 else bif f38 q.2.2.1 != 0 then f38 q.2.2.1 else bif !(f54 q.2.2.1) then 2 else 0 := by
  rw [f47_eq q hl, f30_f30 _ hl, f54_eq _ hl]
  have hr : (!(f25 q.2.1 0 65536)) = (bif decide (q.2.1 < 0) then true else decide (q.2.1 > 65536)) := by
    rw [Bool.eq_iff_iff]
    simp only [f25, f25t]
    by_cases a : q.2.1 ≥ 0 <;> by_cases b : q.2.1 ≤ 65536 <;> simp [a, b] <;> omega
  rw [hr]
  by_cases h0 : f38 q.2.2.1 = 0
  · have hz : ∀ t, 0 ≤ t → t < len q.2.2.1 → eS q.2.2.1 t = 0 := by
      rw [← f30_f30 _ hl, f30_eq _ hl] at h0
      by_cases hb : len q.2.2.1 > 128
      · simp [hb] at h0
      · simp only [hb, decide_false, cond_false] at h0
        intro t h1 h2
        exact firstE_zero _ _ h0 t h1 (by have := len_nonneg q.2.2.1; omega)
    rw [anyI_congr (n := len q.2.2.1) rfl fun t h1 h2 => used (hz t h1 h2), Bool.not_not]
  · have : (f38 q.2.2.1 != 0) = true := by simpa using h0
    rw [this]
    rfl
def eG (p : D24) (i : Int) : Int := bif (bif decide (i > 0) then decide ((nth p.2.2.2.1 i Z47).1 ≤ (nth p.2.2.2.1 (i - 1) Z47).1) else false) then 24 else f47 (nth p.2.2.2.1 i Z47)
def eK (p : D24) (i : Int) : Int := bif (bif decide (i > 0) then !(f48 (nth p.2.2.2.2.1 i Z87) (nth p.2.2.2.2.1 (i - 1) Z87)) else false) then 24 else bif !(f25 (nth p.2.2.2.2.1 i Z87).2.2.1 (-65536) 65536) then 2 else 0
def head (p : D24) : Bool := bif (bif !(f25 p.1 1 65536) then true else !(f25 p.2.1 0 65536)) then true else !(f25 p.2.2.1 0 65536)
def many (p : D24) : Bool := bif decide (len p.2.2.2.1 > 256) then true else decide (len p.2.2.2.2.1 > 256)
theorem f24_eq (p : D24) (hG : len p.2.2.2.1 < 9223372036854775808) (hK : len p.2.2.2.2.1 < 9223372036854775808) :
    f24 p = bif head p then 2 else bif many p then 3 else firstE (eG p) (firstE (eK p) 0 (len p.2.2.2.2.1).toNat 0) (len p.2.2.2.1).toNat 0 := by
  have k2 := scanE (g := f24_L15_g (p, p.2.2.2.2.1, len p.2.2.2.2.1, ())) (next := f24_L15_next (p, p.2.2.2.2.1, len p.2.2.2.2.1, ())) (e1 := f24_L15_e1 (p, p.2.2.2.2.1, len p.2.2.2.2.1, ())) (x1 := f24_L15_x1_0 (p, p.2.2.2.2.1, len p.2.2.2.2.1, ())) (d := 0) (e := eK p) (len_nonneg _) hK
    (fun x => by
      simp only [f24_L15_g, f24_L15t, eK]
      generalize (bif decide (x.1 > 0) then !(f48 (nth p.2.2.2.2.1 x.1 Z87) (nth p.2.2.2.2.1 (x.1 - 1) Z87)) else false) = A
      generalize f25 (nth p.2.2.2.2.1 x.1 Z87).2.2.1 (-65536) 65536 = B
      cases A <;> cases B <;> simp) (fun _ => rfl)
    (fun x => by
      simp only [f24_L15_e1, f24_L15t, eK]
      generalize (bif decide (x.1 > 0) then !(f48 (nth p.2.2.2.2.1 x.1 Z87) (nth p.2.2.2.2.1 (x.1 - 1) Z87)) else false) = A
      generalize f25 (nth p.2.2.2.2.1 x.1 Z87).2.2.1 (-65536) 65536 = B
      cases A <;> cases B <;> simp)
    (fun x hx => by
      revert hx
      simp only [f24_L15_x1_0, eK]
      generalize (bif decide (x.1 > 0) then !(f48 (nth p.2.2.2.2.1 x.1 Z87) (nth p.2.2.2.2.1 (x.1 - 1) Z87)) else false) = A
      generalize f25 (nth p.2.2.2.2.1 x.1 Z87).2.2.1 (-65536) 65536 = B
      cases A <;> cases B <;> simp)
  have k1 := scanE (g := f24_L6_g (p, p.2.2.2.1, len p.2.2.2.1, ())) (next := f24_L6_next (p, p.2.2.2.1, len p.2.2.2.1, ())) (e1 := f24_L6_e1 (p, p.2.2.2.1, len p.2.2.2.1, ())) (x1 := f24_L6_x1_0 (p, p.2.2.2.1, len p.2.2.2.1, ())) (d := firstE (eK p) 0 (len p.2.2.2.2.1).toNat 0) (e := eG p) (len_nonneg _) hG
    (fun x => by
      simp only [f24_L6_g, f24_L6t, eG, bne]
      generalize (bif decide (x.1 > 0) then decide ((nth p.2.2.2.1 x.1 Z47).1 ≤ (nth p.2.2.2.1 (x.1 - 1) Z47).1) else false) = A
      generalize f47 (nth p.2.2.2.1 x.1 Z47) = B
      cases A <;> simp) (fun _ => rfl)
    (fun x => by
      simp only [f24_L6_e1, f24_L6t, eG, bne]
      generalize (bif decide (x.1 > 0) then decide ((nth p.2.2.2.1 x.1 Z47).1 ≤ (nth p.2.2.2.1 (x.1 - 1) Z47).1) else false) = A
      generalize f47 (nth p.2.2.2.1 x.1 Z47) = B
      cases A <;> simp)
    (fun x hx => rfl)
  rw [← k1, ← k2]
  rfl
def eG' (p : D24) (i : Int) : Int := bif (bif decide (i > 0) then decide ((nth p.2.2.2.1 i Z47).1 ≤ (nth p.2.2.2.1 (i - 1) Z47).1) else false) then 24 else
  bif (bif decide ((nth p.2.2.2.1 i Z47).2.1 < 0) then true else decide ((nth p.2.2.2.1 i Z47).2.1 > 65536)) then 2 else bif f38 (nth p.2.2.2.1 i Z47).2.2.1 != 0 then f38 (nth p.2.2.2.1 i Z47).2.2.1 else bif !(f54 (nth p.2.2.2.1 i Z47).2.2.1) then 2 else 0
def before (k q : D87) : Bool := bif decide (k.1 < q.1) then true else bif k.1 == q.1 then decide (k.2.1 ≤ q.2.1) else false
def eK' (p : D24) (i : Int) : Int := bif (before (nth p.2.2.2.2.1 i Z87) (nth p.2.2.2.2.1 (i - 1) Z87) && decide (i > 0)) then 24 else
  bif (bif decide ((nth p.2.2.2.2.1 i Z87).2.2.1 < -65536) then true else decide ((nth p.2.2.2.2.1 i Z87).2.2.1 > 65536)) then 2 else 0
def head' (p : D24) : Bool := bif (bif (bif (bif (bif decide (p.1 < 1) then true else decide (p.1 > 65536)) then true else decide (p.2.1 < 0)) then true else decide (p.2.1 > 65536)) then true else decide (p.2.2.1 < 0)) then true else decide (p.2.2.1 > 65536)
theorem f33_eq (p : D24) (hG : len p.2.2.2.1 < 9223372036854775808) (hK : len p.2.2.2.2.1 < 9223372036854775808) :
    f33 p = bif head' p then 2 else bif many p then 3 else firstE (eG' p) (firstE (eK' p) 0 (len p.2.2.2.2.1).toNat 0) (len p.2.2.2.1).toNat 0 := by
  have k2 := scanE (g := f33_L19_g (p, ())) (next := f33_L19_next (p, ())) (e1 := f33_L19_e1 (p, ())) (x1 := f33_L19_x1_0 (p, ())) (d := 0) (e := eK' p) (len_nonneg p.2.2.2.2.1) hK
    (fun x => by
      simp only [f33_L19_g, f33_L19t, eK', before]
      generalize (bif decide ((nth p.2.2.2.2.1 x.1 Z87).1 < (nth p.2.2.2.2.1 (x.1 - 1) Z87).1) then true else bif (nth p.2.2.2.2.1 x.1 Z87).1 == (nth p.2.2.2.2.1 (x.1 - 1) Z87).1 then decide ((nth p.2.2.2.2.1 x.1 Z87).2.1 ≤ (nth p.2.2.2.2.1 (x.1 - 1) Z87).2.1) else false) = A
      generalize (bif decide ((nth p.2.2.2.2.1 x.1 Z87).2.2.1 < -65536) then true else decide ((nth p.2.2.2.2.1 x.1 Z87).2.2.1 > 65536)) = B
      generalize decide (x.1 > 0) = C
      cases A <;> cases B <;> cases C <;> simp) (fun _ => rfl)
    (fun x => by
      simp only [f33_L19_e1, f33_L19t, eK', before]
      generalize (bif decide ((nth p.2.2.2.2.1 x.1 Z87).1 < (nth p.2.2.2.2.1 (x.1 - 1) Z87).1) then true else bif (nth p.2.2.2.2.1 x.1 Z87).1 == (nth p.2.2.2.2.1 (x.1 - 1) Z87).1 then decide ((nth p.2.2.2.2.1 x.1 Z87).2.1 ≤ (nth p.2.2.2.2.1 (x.1 - 1) Z87).2.1) else false) = A
      generalize (bif decide ((nth p.2.2.2.2.1 x.1 Z87).2.2.1 < -65536) then true else decide ((nth p.2.2.2.2.1 x.1 Z87).2.2.1 > 65536)) = B
      generalize decide (x.1 > 0) = C
      cases A <;> cases B <;> cases C <;> simp)
    (fun x hx => by
      revert hx
      simp only [f33_L19_x1_0, eK', before]
      generalize (bif decide ((nth p.2.2.2.2.1 x.1 Z87).1 < (nth p.2.2.2.2.1 (x.1 - 1) Z87).1) then true else bif (nth p.2.2.2.2.1 x.1 Z87).1 == (nth p.2.2.2.2.1 (x.1 - 1) Z87).1 then decide ((nth p.2.2.2.2.1 x.1 Z87).2.1 ≤ (nth p.2.2.2.2.1 (x.1 - 1) Z87).2.1) else false) = A
      generalize (bif decide ((nth p.2.2.2.2.1 x.1 Z87).2.2.1 < -65536) then true else decide ((nth p.2.2.2.2.1 x.1 Z87).2.2.1 > 65536)) = B
      generalize decide (x.1 > 0) = C
      cases A <;> cases B <;> cases C <;> simp)
  have k1 := scanE (g := f33_L6_g (p, ())) (next := f33_L6_next (p, ())) (e1 := f33_L6_e1 (p, ())) (x1 := f33_L6_x1_0 (p, ())) (d := firstE (eK' p) 0 (len p.2.2.2.2.1).toNat 0) (e := eG' p) (len_nonneg p.2.2.2.1) hG
    (fun x => by
      simp only [f33_L6_g, f33_L6t, eG', bne]
      generalize (bif decide (x.1 > 0) then decide ((nth p.2.2.2.1 x.1 Z47).1 ≤ (nth p.2.2.2.1 (x.1 - 1) Z47).1) else false) = A
      generalize (bif decide ((nth p.2.2.2.1 x.1 Z47).2.1 < 0) then true else decide ((nth p.2.2.2.1 x.1 Z47).2.1 > 65536)) = B
      generalize f54 (nth p.2.2.2.1 x.1 Z47).2.2.1 = C
      generalize f38 (nth p.2.2.2.1 x.1 Z47).2.2.1 = D
      by_cases hD : D = 0
      · cases A <;> cases B <;> cases C <;> simp [hD]
      · have hD' : (D == 0) = false := by simpa using hD
        cases A <;> cases B <;> cases C <;> simp [hD']) (fun _ => rfl)
    (fun x => by
      simp only [f33_L6_e1, f33_L6t, eG', bne]
      generalize (bif decide (x.1 > 0) then decide ((nth p.2.2.2.1 x.1 Z47).1 ≤ (nth p.2.2.2.1 (x.1 - 1) Z47).1) else false) = A
      generalize (bif decide ((nth p.2.2.2.1 x.1 Z47).2.1 < 0) then true else decide ((nth p.2.2.2.1 x.1 Z47).2.1 > 65536)) = B
      generalize f54 (nth p.2.2.2.1 x.1 Z47).2.2.1 = C
      generalize f38 (nth p.2.2.2.1 x.1 Z47).2.2.1 = D
      by_cases hD : D = 0
      · cases A <;> cases B <;> cases C <;> simp [hD]
      · have hD' : (D == 0) = false := by simpa using hD
        cases A <;> cases B <;> cases C <;> simp [hD'])
    (fun x hx => by
      revert hx
      simp only [f33_L6_x1_0, eG', bne]
      generalize (bif decide (x.1 > 0) then decide ((nth p.2.2.2.1 x.1 Z47).1 ≤ (nth p.2.2.2.1 (x.1 - 1) Z47).1) else false) = A
      generalize (bif decide ((nth p.2.2.2.1 x.1 Z47).2.1 < 0) then true else decide ((nth p.2.2.2.1 x.1 Z47).2.1 > 65536)) = B
      generalize f54 (nth p.2.2.2.1 x.1 Z47).2.2.1 = C
      generalize f38 (nth p.2.2.2.1 x.1 Z47).2.2.1 = D
      by_cases hD : D = 0
      · cases A <;> cases B <;> cases C <;> simp [hD]
      · have hD' : (D == 0) = false := by simpa using hD
        cases A <;> cases B <;> cases C <;> simp [hD, hD'])
  rw [← k1, ← k2]
  rfl
theorem check_eq (p : D24) (hG : len p.2.2.2.1 < 9223372036854775808) (hK : len p.2.2.2.2.1 < 9223372036854775808) (hS : ∀ i, len (nth p.2.2.2.1 i Z47).2.2.1 < 9223372036854775808) : f24 p = f33 p := by
  rw [f24_eq p hG hK, f33_eq p hG hK]
  have hh : head p = head' p := by
    rw [Bool.eq_iff_iff]
    simp only [head, head', f25, f25t]
    by_cases a1 : p.1 ≥ 1 <;> by_cases a2 : p.1 ≤ 65536 <;> by_cases a3 : p.2.1 ≥ 0 <;> by_cases a4 : p.2.1 ≤ 65536 <;> by_cases a5 : p.2.2.1 ≥ 0 <;> by_cases a6 : p.2.2.1 ≤ 65536 <;> simp [a1, a2, a3, a4, a5, a6] <;> omega
  have hg : ∀ i, eG p i = eG' p i := fun i => by unfold eG eG'; rw [glyph_eq _ (hS i)]
  have hk : ∀ i, eK p i = eK' p i := fun i => by
    unfold eK eK'
    have h1 : (bif decide (i > 0) then !(f48 (nth p.2.2.2.2.1 i Z87) (nth p.2.2.2.2.1 (i - 1) Z87)) else false) = (before (nth p.2.2.2.2.1 i Z87) (nth p.2.2.2.2.1 (i - 1) Z87) && decide (i > 0)) := by
      generalize nth p.2.2.2.2.1 i Z87 = a
      generalize nth p.2.2.2.2.1 (i - 1) Z87 = b
      have : (!(f48 a b)) = before a b := by
        rw [Bool.eq_iff_iff]
        simp only [f48, f48t, before]
        by_cases h1 : a.1 > b.1 <;> by_cases h2 : a.1 = b.1 <;> by_cases h3 : a.2.1 > b.2.1 <;> simp [h1, h2, h3] <;> omega
      rw [this]
      generalize decide (i > 0) = A
      generalize before a b = B
      cases A <;> cases B <;> rfl
    have h2 : (!(f25 (nth p.2.2.2.2.1 i Z87).2.2.1 (-65536) 65536)) = (bif decide ((nth p.2.2.2.2.1 i Z87).2.2.1 < -65536) then true else decide ((nth p.2.2.2.2.1 i Z87).2.2.1 > 65536)) := by
      rw [Bool.eq_iff_iff]
      simp only [f25, f25t]
      generalize (nth p.2.2.2.2.1 i Z87).2.2.1 = y
      by_cases a : y ≥ -65536 <;> by_cases b : y ≤ 65536 <;> simp [a, b] <;> omega
    rw [h1, h2]
  rw [hh, firstE_congr _ _ fun t _ _ => hg t, firstE_congr (e := eK p) _ _ fun t _ _ => hk t]
theorem inR {r : Int} (h1 : -9223372036854775808 ≤ r) (h2 : r ≤ 9223372036854775807) : InR r := ⟨h1, h2⟩
theorem ne0 {a : Bool} {i : Int} (h : (a && !(i == 0)) = true) : i ≠ 0 := by
  simp only [Bool.and_eq_true, Bool.not_eq_true', beq_eq_false_iff_ne] at h
  exact h.2
theorem f30_all (l : List D74) : f30_ok l := by
  intro h
  have hl : len l ≤ 128 := by simpa using h
  refine scan_ends (n := len l) (len_nonneg l) (by omega) (fun x hx => ?_) (fun _ => rfl) (fun x h1 h2 => ?_)
  · simp only [f30_L4_g, f30_L4t, Bool.and_eq_true, decide_eq_true_eq] at hx; exact hx.1
  · intro hv
    have hv : x.1 < len l := of_decide_eq_true hv
    refine ⟨⟨h1, hv⟩, fun _ => ⟨?_, fun _ => ⟨fun g => inR (by omega) (by omega), fun g => ⟨?_, ?_⟩⟩⟩, fun _ => inR (by omega) (by omega)⟩
    · refine scan_ends (n := 3) (by omega) (by omega) (fun y hy => ?_) (fun _ => rfl) (fun y k1 k2 => ?_)
      · simp only [f30_L9_g, f30_L9t, Bool.and_eq_true, decide_eq_true_eq] at hy; exact hy.1
      · intro hk
        have hk : y.1 < 3 := of_decide_eq_true hk
        exact ⟨⟨k1, hk⟩, trivial, fun _ => trivial, fun _ => inR (by omega) (by omega)⟩
    · have := ne0 g; show 0 ≤ x.1 - 1; omega
    · show x.1 - 1 < len l; omega
theorem f56_all (s : D74) : f56_ok s := by
  refine scan_ends (n := 3) (by omega) (by omega) (fun y hy => ?_) (fun _ => rfl) (fun y k1 k2 => ?_)
  · simp only [f56_L2_g, f56_L2t, Bool.and_eq_true, decide_eq_true_eq] at hy; exact hy.1
  · intro hk
    have hk : y.1 < 3 := of_decide_eq_true hk
    exact ⟨trivial, fun _ => ⟨k1, hk⟩, fun _ => trivial, fun _ => trivial, fun _ => ⟨k1, hk⟩, fun _ => inR (by omega) (by omega)⟩
theorem f38_all (l : List D74) : f38_ok l := by
  intro h
  have hl : len l ≤ 128 := by simpa using h
  refine scan_ends (n := len l) (len_nonneg l) (by omega) (fun x hx => ?_) (fun _ => rfl) (fun x h1 h2 => ?_)
  · simp only [f38_L4_g, f38_L4t, Bool.and_eq_true, decide_eq_true_eq] at hx; exact hx.1
  · intro hv
    have hv : x.1 < len l := of_decide_eq_true hv
    refine ⟨⟨h1, hv⟩, trivial, fun _ => ⟨⟨h1, hv⟩, f56_all _, fun _ => ⟨⟨h1, hv⟩, fun g => inR (by omega) (by omega), fun g => ⟨?_, ?_⟩⟩⟩, fun _ => inR (by omega) (by omega)⟩
    · have := ne0 g; show 0 ≤ x.1 - 1; omega
    · show x.1 - 1 < len l; omega
theorem f30_len {l : List D74} (h : f30 l = 0) : len l ≤ 128 := by
  by_cases hb : len l > 128
  · have : f30 l = bif decide (len l > 128) then 3 else _ := rfl
    rw [this] at h
    simp [hb] at h
  · omega
theorem f38_len {l : List D74} (h : f38 l = 0) : len l ≤ 128 := by
  by_cases hb : len l > 128
  · have : f38 l = bif decide (len l > 128) then 3 else _ := rfl
    rw [this] at h
    simp [hb] at h
  · omega
theorem f38_segs {l : List D74} (h : f38 l = 0) (t : Int) (h1 : 0 ≤ t) (h2 : t < len l) : eS l t = 0 := by
  have hl := f38_len h
  rw [← f30_f30 l (by omega), f30_eq l (by omega)] at h
  have hb : ¬ len l > 128 := by omega
  simp only [hb, decide_false, cond_false] at h
  exact firstE_zero _ _ h t h1 (by have := len_nonneg l; omega)
theorem seg_right {l : List D74} {i : Int} (h : eS l i = 0) : 0 ≤ f40 (nth l i Z74).1 ∧ ∀ k, 0 ≤ k → k < 3 → f51 (nth (nth l i Z74).2.1 k Z50) = false := by
  constructor
  · rw [eS_eq] at h
    unfold eS' at h
    by_cases hk : f40 (nth l i Z74).1 < 0
    · simp [hk] at h
    · omega
  · intro k k1 k2
    have hc : anyI 3 (c9 (nth l i Z74)) = false := by
      cases hc : anyI 3 (c9 (nth l i Z74)) with
      | false => rfl
      | true =>
        unfold eS at h
        rw [hc] at h
        revert h
        generalize (bif decide ((nth l i Z74).1 < 1) then true else decide ((nth l i Z74).1 > 5)) = A
        cases A <;> simp
    have := anyI_not hc k k1 k2
    unfold c9 at this
    revert this
    generalize f51 (nth (nth l i Z74).2.1 k Z50) = A
    cases A <;> simp
theorem f51_near {p : D50} (h : f51 p = false) : -16777216 ≤ p.1 ∧ p.1 ≤ 16777216 ∧ -16777216 ≤ p.2.1 ∧ p.2.1 ≤ 16777216 := by
  have h' : ¬ (f51 p = true) := by rw [h]; simp
  simp only [f51, f51t] at h'
  by_cases a : p.1 < -16777216 <;> by_cases b : p.1 > 16777216 <;> by_cases c : p.2.1 < -16777216 <;> by_cases d : p.2.1 > 16777216 <;> simp [a, b, c, d] at h' <;> omega
theorem f54_all (l : List D74) (h : f38 l = 0) : f54_ok l := by
  have hl := f38_len h
  refine scan_ends (n := len l) (len_nonneg l) (by omega) (fun x hx => ?_) (fun _ => rfl) (fun x h1 h2 => ?_)
  · simp only [f54_L2_g, f54_L2t, Bool.and_eq_true, decide_eq_true_eq] at hx; exact hx.1
  · intro hv
    have hv : x.1 < len l := of_decide_eq_true hv
    have hs := seg_right (f38_segs h x.1 h1 hv)
    have h3 := f40_le (nth l x.1 Z74).1
    refine ⟨scan_ends (n := f40 (nth l x.1 Z74).1) hs.1 (by omega) (fun y hy => ?_) (fun _ => rfl) (fun y k1 k2 => ?_), fun _ => inR (by omega) (by omega)⟩
    · simp only [f54_L5_g, f54_L5t, Bool.and_eq_true, decide_eq_true_eq] at hy; exact hy.1
    · refine ⟨⟨h1, hv⟩, trivial, fun hk => ?_⟩
      have hk : y.1 < f40 (nth l x.1 Z74).1 := of_decide_eq_true hk
      have hn := f51_near (hs.2 y.1 k1 (by omega))
      refine ⟨⟨h1, hv⟩, ⟨k1, by omega⟩, ?_, ?_, fun _ => inR (by omega) (by omega)⟩
      · show InR (0 - (nth (nth l x.1 Z74).2.1 y.1 Z50).1); exact inR (by omega) (by omega)
      · show InR (0 - (nth (nth l x.1 Z74).2.1 y.1 Z50).2.1); exact inR (by omega) (by omega)
theorem f47_all (q : D47) : f47_ok q := by
  refine ⟨trivial, fun _ => ⟨f30_all _, fun h0 => ?_⟩⟩
  have h0 : f30 q.2.2.1 = 0 := by simpa using h0
  have hl := f30_len h0
  refine scan_ends (n := len q.2.2.1) (len_nonneg _) (by omega) (fun x hx => ?_) (fun _ => rfl) (fun x h1 h2 => ?_)
  · simp only [f47_L7_g, f47_L7t, Bool.and_eq_true, decide_eq_true_eq] at hx; exact hx.1
  · intro hv
    have hv : x.1 < len q.2.2.1 := of_decide_eq_true hv
    refine ⟨⟨h1, hv⟩, scan_ends (n := 3) (by omega) (by omega) (fun y hy => ?_) (fun _ => rfl) (fun y k1 k2 => ?_), fun _ => inR (by omega) (by omega)⟩
    · simp only [f47_L10_g, f47_L10t, Bool.and_eq_true, decide_eq_true_eq] at hy; exact hy.1
    · intro hk
      have hk : y.1 < 3 := of_decide_eq_true hk
      exact ⟨⟨k1, hk⟩, trivial, fun _ => trivial, fun _ => inR (by omega) (by omega)⟩
theorem few {p : D24} (h : (!(many p)) = true) : len p.2.2.2.1 ≤ 256 ∧ len p.2.2.2.2.1 ≤ 256 := by
  simp only [many] at h
  by_cases a : len p.2.2.2.1 > 256 <;> by_cases b : len p.2.2.2.2.1 > 256 <;> simp [a, b] at h
  exact ⟨by omega, by omega⟩
theorem f24_all (p : D24) : f24_ok p := by
  refine ⟨trivial, fun _ => trivial, fun _ => trivial, fun _ hm => ?_⟩
  obtain ⟨hG, hK⟩ := few hm
  refine ⟨scan_ends (n := len p.2.2.2.1) (len_nonneg _) (by omega) (fun x hx => ?_) (fun _ => rfl) (fun x h1 h2 => ?_), fun _ => scan_ends (n := len p.2.2.2.2.1) (len_nonneg _) (by omega) (fun x hx => ?_) (fun _ => rfl) (fun x h1 h2 => ?_)⟩
  · simp only [f24_L6_g, f24_L6t, Bool.and_eq_true, decide_eq_true_eq] at hx; exact hx.1
  · intro hv
    have hv : x.1 < len p.2.2.2.1 := of_decide_eq_true hv
    refine ⟨⟨h1, hv⟩, fun g => inR (by omega) (by omega), fun g => ⟨?_, ?_⟩, fun _ => f47_all _, fun _ => inR (by omega) (by omega)⟩
    · have : x.1 > 0 := of_decide_eq_true g
      show 0 ≤ x.1 - 1; omega
    · show x.1 - 1 < len p.2.2.2.1; omega
  · simp only [f24_L15_g, f24_L15t, Bool.and_eq_true, decide_eq_true_eq] at hx; exact hx.1
  · intro hv
    have hv : x.1 < len p.2.2.2.2.1 := of_decide_eq_true hv
    refine ⟨⟨h1, hv⟩, fun g => inR (by omega) (by omega), fun g => ⟨?_, ?_⟩, fun _ => trivial, fun _ => trivial, fun _ => inR (by omega) (by omega)⟩
    · have : x.1 > 0 := of_decide_eq_true g
      show 0 ≤ x.1 - 1; omega
    · show x.1 - 1 < len p.2.2.2.2.1; omega
theorem f33_all (p : D24) : f33_ok p := by
  intro _ hm
  obtain ⟨hG, hK⟩ := few hm
  refine ⟨scan_ends (n := len p.2.2.2.1) (len_nonneg _) (by omega) (fun x hx => ?_) (fun _ => rfl) (fun x h1 h2 => ?_), fun _ => scan_ends (n := len p.2.2.2.2.1) (len_nonneg _) (by omega) (fun x hx => ?_) (fun _ => rfl) (fun x h1 h2 => ?_)⟩
  · simp only [f33_L6_g, f33_L6t, Bool.and_eq_true, decide_eq_true_eq] at hx; exact hx.1
  · intro hv
    have hv : x.1 < len p.2.2.2.1 := of_decide_eq_true hv
    refine ⟨⟨h1, hv⟩, fun g => inR (by omega) (by omega), fun g => ⟨?_, ?_⟩, fun _ _ => ⟨f38_all _, fun h0 => f54_all _ (by simpa using h0)⟩, fun _ => inR (by omega) (by omega)⟩
    · have : x.1 > 0 := of_decide_eq_true g
      show 0 ≤ x.1 - 1; omega
    · show x.1 - 1 < len p.2.2.2.1; omega
  · simp only [f33_L19_g, f33_L19t, Bool.and_eq_true, decide_eq_true_eq] at hx; exact hx.1
  · intro hv
    have hv : x.1 < len p.2.2.2.2.1 := of_decide_eq_true hv
    refine ⟨⟨h1, hv⟩, fun g => ⟨inR (by omega) (by omega), ?_, ?_⟩, fun _ => inR (by omega) (by omega)⟩
    · have : x.1 > 0 := of_decide_eq_true g
      show 0 ≤ x.1 - 1; omega
    · show x.1 - 1 < len p.2.2.2.2.1; omega
end Go.Proofs.YtdgfchmfajmkiaaDoor.Am
