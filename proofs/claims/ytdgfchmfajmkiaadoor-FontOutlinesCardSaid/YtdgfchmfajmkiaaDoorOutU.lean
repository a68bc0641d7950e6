/- Font: the pen behind a text, by the program and by the reference. No condition. -/
import Derived.Test.YtdgfchmfajmkiaaDoorOutV
namespace Go.Proofs.YtdgfchmfajmkiaaDoor.Am
open Go Go.Am
theorem kern_eq (p : D24) (t : List Int) (a b : Int) : f29 (p, t, ()) a b = f37 p (chr p a) (chr p b) := rfl
theorem f37_range {p : D24} (h : Right p) (a b : Int) : -65536 ≤ f37 p a b ∧ f37 p a b ≤ 65536 := by
  have hk := h.ks
  have hn := len_nonneg p.2.2.2.2.1
  obtain ⟨j, j1, j2, j3, j4, j5⟩ := scan (g := f37_L2_g (a, b, p, ())) (next := f37_L2_next (a, b, p, ())) (n := len p.2.2.2.2.1) (c := fun i => bif (nth p.2.2.2.2.1 i Z87).1 == a then (nth p.2.2.2.2.1 i Z87).2.1 == b else false) hn (by omega) (fun _ => rfl) (fun _ => rfl)
  have hv : f37 p a b = bif f37_L2_e1 (a, b, p, ()) (loopEnd (f37_L2_g (a, b, p, ())) (f37_L2_next (a, b, p, ())) (0, ())) then (nth p.2.2.2.2.1 (loopEnd (f37_L2_g (a, b, p, ())) (f37_L2_next (a, b, p, ())) (0, ())).1 Z87).2.2.1 else 0 := rfl
  rw [hv, j3]
  cases he : f37_L2_e1 (a, b, p, ()) (j, ()) with
  | false => simp only [cond_false]; omega
  | true =>
    simp only [cond_true]
    have : (decide (j < len p.2.2.2.2.1) && (bif (nth p.2.2.2.2.1 j Z87).1 == a then (nth p.2.2.2.2.1 j Z87).2.1 == b else false)) = true := he
    simp only [Bool.and_eq_true, decide_eq_true_eq] at this
    exact h.kern j1 this.1
def idx (p : D24) (s : List UInt8) : Nat → List Int
  | 0 => []
  | k + 1 => bif decide (glyphOf p (byteAt s (k : Int)) < 0) then idx p s k else idx p s k ++ [glyphOf p (byteAt s (k : Int))]
def pen (p : D24) (l : List Int) : Nat → Int
  | 0 => 0
  | k + 1 => (bif decide ((k : Int) > 0) then pen p l k + f37 p (chr p (nth l ((k : Int) - 1) 0)) (chr p (nth l (k : Int) 0)) else pen p l k) + (nth p.2.2.2.1 (nth l (k : Int) 0) Z47).2.1
theorem idx_len (p : D24) (s : List UInt8) : ∀ k, (idx p s k).length ≤ k := by
  intro k
  induction k with
  | zero => simp [idx]
  | succ k ih =>
    rw [idx]
    cases decide (glyphOf p (byteAt s (k : Int)) < 0) with
    | true => simp only [cond_true]; omega
    | false => simp only [cond_false, List.length_append, List.length_singleton]; omega
theorem idx_in {p : D24} (s : List UInt8) : ∀ k, ∀ g ∈ idx p s k, 0 ≤ g ∧ g < len p.2.2.2.1 := by
  intro k
  induction k with
  | zero => intro g hg; simp [idx] at hg
  | succ k ih =>
    intro g hg
    rw [idx] at hg
    by_cases h0 : glyphOf p (byteAt s (k : Int)) < 0
    · simp only [h0, decide_true, cond_true] at hg; exact ih g hg
    · simp only [h0, decide_false, cond_false, List.mem_append, List.mem_singleton] at hg
      rcases hg with hg | rfl
      · exact ih g hg
      · have := glyphOf_range (p := p) (byteAt s (k : Int))
        exact ⟨by omega, by omega⟩
theorem nth_mem {l : List Int} {i : Int} (h1 : 0 ≤ i) (h2 : i < len l) : nth l i 0 ∈ l := by
  unfold nth len at *
  have : i.toNat < l.length := by omega
  rw [List.getD_eq_getElem?_getD, List.getElem?_eq_getElem this]
  exact List.getElem_mem this
theorem nth_left {l r : List Int} {i : Int} (h1 : 0 ≤ i) (h2 : i < len l) : nth (l ++ r) i 0 = nth l i 0 := by
  unfold nth len at *
  have : i.toNat < l.length := by omega
  rw [List.getD_eq_getElem?_getD, List.getD_eq_getElem?_getD, List.getElem?_append_left this]
theorem nth_right {l : List Int} {g : Int} : nth (l ++ [g]) (len l) 0 = g := by
  unfold nth len
  simp [List.getD_eq_getElem?_getD]
theorem pen_left (p : D24) (l r : List Int) : ∀ k : Nat, (k : Int) ≤ len l → pen p (l ++ r) k = pen p l k := by
  intro k
  induction k with
  | zero => intro _; rfl
  | succ k ih =>
    intro hk
    rw [pen, pen, ih (by omega), nth_left (i := (k : Int)) (by omega) (by omega)]
    by_cases h0 : (k : Int) > 0
    · rw [nth_left (i := (k : Int) - 1) (by omega) (by omega)]
    · simp only [h0, decide_false, cond_false]
theorem pen_range {p : D24} (h : Right p) {l : List Int} (hl : ∀ g ∈ l, 0 ≤ g ∧ g < len p.2.2.2.1) : ∀ k : Nat, (k : Int) ≤ len l → -65536 * (k : Int) ≤ pen p l k ∧ pen p l k ≤ 131072 * (k : Int) := by
  intro k
  induction k with
  | zero => intro _; simp [pen]
  | succ k ih =>
    intro hk
    have i := ih (by omega)
    have hg := hl _ (nth_mem (l := l) (i := (k : Int)) (by omega) (by omega))
    have ha := (h.glyph hg.1 hg.2).2
    have hkn := f37_range h (chr p (nth l ((k : Int) - 1) 0)) (chr p (nth l (k : Int) 0))
    rw [pen]
    by_cases h0 : (k : Int) > 0
    · simp only [h0, decide_true, cond_true]
      push_cast
      omega
    · simp only [h0, decide_false, cond_false]
      push_cast
      omega
def ref36 (p : D24) (s : List UInt8) (a : List Int) (i : Int) : List Int := bif decide (f36 p (byteAt s i) ≥ 0) then a ++ [f36 p (byteAt s i)] else a
theorem ref36_idx {p : D24} (h : Right p) (s : List UInt8) : ∀ k, foldI (ref36 p s) k [] = idx p s k := by
  intro k
  induction k with
  | zero => rfl
  | succ k ih =>
    rw [foldI, idx, ih]
    unfold ref36
    rw [f36_eq h]
    by_cases h0 : glyphOf p (byteAt s (k : Int)) < 0
    · have : ¬ glyphOf p (byteAt s (k : Int)) ≥ 0 := by omega
      simp [h0, this]
    · have : glyphOf p (byteAt s (k : Int)) ≥ 0 := by omega
      simp [h0, this]
def cap (s : List UInt8) : Int := imin (len s) 128
theorem cap_le (s : List UInt8) : 0 ≤ cap s ∧ cap s ≤ 128 ∧ cap s ≤ len s := by
  have := len_nonneg s
  unfold cap imin
  split <;> omega
theorem f15_g (p : D24) (s : List UInt8) (x : List Int × Int × Unit) : f15_L3_g (s, p, ()) x = decide (x.2.1 < cap s) := by
  show (bif decide (x.2.1 < len s) then decide (x.2.1 < 128) else false) = _
  rw [Bool.eq_iff_iff]
  unfold cap imin
  by_cases a : x.2.1 < len s <;> by_cases b : x.2.1 < 128 <;> simp [a, b] <;> split <;> omega
theorem f15_eq {p : D24} (h : Right p) (s : List UInt8) : f15 p s = idx p s (cap s).toNat := by
  have hc := cap_le s
  have := fold_loop (g := f15_L3_g (s, p, ())) (next := f15_L3_next (s, p, ())) (n := cap s) (step := ref36 p s) hc.1 (by omega) (f15_g p s) (fun _ => rfl) []
  show f15_L3_x2_0 (s, p, ()) (loopEnd (f15_L3_g (s, p, ())) (f15_L3_next (s, p, ())) ([], 0, ())) = _
  rw [this]
  show foldI (ref36 p s) (cap s).toNat [] = _
  exact ref36_idx h s _
def ref35 (p : D24) (l : List Int) (a : List Int) (b i : Int) : List Int × Int :=
  (a ++ [bif decide (i > 0) then b + f37 p (chr p (nth l (i - 1) 0)) (chr p (nth l i 0)) else b], (bif decide (i > 0) then b + f37 p (chr p (nth l (i - 1) 0)) (chr p (nth l i 0)) else b) + (nth p.2.2.2.1 (nth l i 0) Z47).2.1)
theorem ref35_pen (p : D24) (l : List Int) : ∀ k, (foldP (ref35 p l) k ([], 0)).2 = pen p l k ∧ (foldP (ref35 p l) k ([], 0)).1.length = k := by
  intro k
  induction k with
  | zero => exact ⟨rfl, rfl⟩
  | succ k ih =>
    rw [foldP, pen, ← ih.1]
    generalize foldP (ref35 p l) k ([], 0) = x at ih
    obtain ⟨a, b⟩ := x
    refine ⟨rfl, ?_⟩
    show (a ++ [_]).length = k + 1
    rw [List.length_append, ih.2]
    rfl
theorem f16_eq (p : D24) (l : List Int) (hl : len l < 9223372036854775808) : ∃ a, f16 p l = a ++ [pen p l l.length] ∧ a.length = l.length := by
  have := foldP_loop (g := f16_L4_g (l, p, ())) (next := f16_L4_next (l, p, ())) (n := len l) (step := ref35 p l) (len_nonneg l) hl (fun _ => rfl) (fun _ => rfl) [] 0
  have hk := ref35_pen p l l.length
  have hn : (len l).toNat = l.length := by unfold len; omega
  refine ⟨(foldP (ref35 p l) l.length ([], 0)).1, ?_, hk.2⟩
  show f16_L4_x2_0 (l, p, ()) (loopEnd (f16_L4_g (l, p, ())) (f16_L4_next (l, p, ())) ([], 0, 0, ())) ++ [f16_L4_x2_1 (l, p, ()) (loopEnd (f16_L4_g (l, p, ())) (f16_L4_next (l, p, ())) ([], 0, 0, ()))] = _
  rw [this, hn]
  show (foldP (ref35 p l) l.length ([], 0)).1 ++ [(foldP (ref35 p l) l.length ([], 0)).2] = _
  rw [hk.1]
def prog42 (d : D65) (s : List UInt8) (a : List D50) (b i : Int) : List D50 × Int :=
  let g := nth d.2.1 (byteAt s i) 0
  let m := bif decide (len a > 0) then b + f29 d (nth a (len a - 1) Z50).1 g else b
  (bif decide (g < 0) then a else a ++ [(g, m, ())], bif decide (g < 0) then b else m + (nth d.1.2.2.2.1 g Z47).2.1)
theorem f11_eq (d : D65) (s : List UInt8) (hl : len s < 9223372036854775808) : f11 d s = ((foldP (prog42 d s) (len s).toNat ([], 0)).1, (foldP (prog42 d s) (len s).toNat ([], 0)).2, ()) := by
  have := foldP_loop (g := f11_L4_g (d, s, len s, ())) (next := f11_L4_next (d, s, len s, ())) (n := len s) (step := prog42 d s) (len_nonneg s) hl (fun x => by
    show (decide (x.2.2.1 < len s) && (decide (nth d.2.1 (byteAt s x.2.2.1) 0 < 0) || !decide (nth d.2.1 (byteAt s x.2.2.1) 0 < 0))) = _
    cases decide (nth d.2.1 (byteAt s x.2.2.1) 0 < 0) <;> simp) (fun _ => rfl) [] 0
  show (f11_L4_x2_0 (d, s, len s, ()) (loopEnd (f11_L4_g (d, s, len s, ())) (f11_L4_next (d, s, len s, ())) ([], 0, 0, ())), f11_L4_x2_1 (d, s, len s, ()) (loopEnd (f11_L4_g (d, s, len s, ())) (f11_L4_next (d, s, len s, ())) ([], 0, 0, ())), ()) = _
  rw [this]
  rfl
theorem byteAt_range (s : List UInt8) (i : Int) : 0 ≤ byteAt s i ∧ byteAt s i < 256 := by
  unfold byteAt
  have := (s.getD i.toNat 0).toNat_lt
  omega
theorem nth_fst {a : List D50} {i : Int} (h1 : 0 ≤ i) (h2 : i < len a) : (nth a i Z50).1 = nth (a.map (·.1)) i 0 := by
  unfold nth len at *
  have : i.toNat < a.length := by omega
  simp [List.getD_eq_getElem?_getD, this]
theorem prog42_pen {p : D24} {d : D65} (hd : d.1 = p) (ht : ∀ c, 0 ≤ c → c < 256 → nth d.2.1 c 0 = glyphOf p c) (s : List UInt8) : ∀ k, (foldP (prog42 d s) k ([], 0)).1.map (·.1) = idx p s k ∧ (foldP (prog42 d s) k ([], 0)).2 = pen p (idx p s k) (idx p s k).length := by
  obtain ⟨d1, d2, _⟩ := d
  simp only at hd ht
  subst hd
  intro k
  induction k with
  | zero => exact ⟨rfl, rfl⟩
  | succ k ih =>
    rw [foldP, idx]
    generalize foldP (prog42 (d1, d2, ()) s) k ([], 0) = x at ih
    obtain ⟨a, b⟩ := x
    obtain ⟨h1, h2⟩ := ih
    simp only at h1 h2
    have hb := byteAt_range s (k : Int)
    unfold prog42
    simp only
    rw [ht _ hb.1 hb.2]
    have hla : len a = len (idx d1 s k) := by rw [← h1]; simp [len]
    by_cases h0 : glyphOf d1 (byteAt s (k : Int)) < 0
    · simp only [h0, decide_true, cond_true]
      exact ⟨h1, h2⟩
    · simp only [h0, decide_false, cond_false]
      refine ⟨by rw [List.map_append, h1]; rfl, ?_⟩
      rw [List.length_append, List.length_singleton, pen, pen_left _ _ _ _ (by unfold len; omega), h2]
      have e1 : nth (idx d1 s k ++ [glyphOf d1 (byteAt s (k : Int))]) (((idx d1 s k).length : Nat) : Int) 0 = glyphOf d1 (byteAt s (k : Int)) := nth_right
      rw [e1]
      by_cases hp : len a > 0
      · have hp' : (((idx d1 s k).length : Nat) : Int) > 0 := by have : len (idx d1 s k) = (((idx d1 s k).length : Nat) : Int) := rfl; omega
        simp only [hp, hp', decide_true, cond_true]
        rw [kern_eq, nth_fst (by omega) (by omega), h1, hla]
        have e2 : nth (idx d1 s k ++ [glyphOf d1 (byteAt s (k : Int))]) ((((idx d1 s k).length : Nat) : Int) - 1) 0 = nth (idx d1 s k) (len (idx d1 s k) - 1) 0 := nth_left (i := len (idx d1 s k) - 1) (by omega) (by omega)
        rw [e2]
      · have hp' : ¬ (((idx d1 s k).length : Nat) : Int) > 0 := by have : len (idx d1 s k) = (((idx d1 s k).length : Nat) : Int) := rfl; omega
        simp only [hp, hp', decide_false, cond_false]
end Go.Proofs.YtdgfchmfajmkiaaDoor.Am
