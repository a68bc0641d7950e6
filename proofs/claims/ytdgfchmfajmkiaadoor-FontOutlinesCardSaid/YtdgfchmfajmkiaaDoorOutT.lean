/- Font: the width of a text: the rounding, what is asked, the law. No condition. -/
import Derived.Test.YtdgfchmfajmkiaaDoorOutU
namespace Go.Proofs.YtdgfchmfajmkiaaDoor.Am
open Go Go.Am
theorem wrap_u64 {x : Int} (h1 : 0 ≤ x) (h2 : x < 18446744073709551616) : IntKind.wrap .u64 x = x := by
  show (let m := x % (2 ^ 64 : Int); if (false && decide (m ≥ (2 ^ 63 : Int))) = true then m - (2 ^ 64 : Int) else m) = x
  simp
  omega
theorem floor_eq {a b : Int} (hb : 0 < b) (ha : -4611686018427387904 ≤ a ∧ a ≤ 4611686018427387904) : ∃ q r, f32 a b = q ∧ f41 a b = q ∧ b * q = a - r ∧ 0 ≤ r ∧ r < b ∧ f32_ok a b ∧ f41_ok a b ∧ -4611686018427387905 ≤ q ∧ q ≤ 4611686018427387904 := by
  have e := Int.mul_tdiv_add_tmod a b
  have hm1 : 0 ≤ a → 0 ≤ a.tmod b ∧ a.tmod b < b := fun h => ⟨Int.tmod_nonneg b h, Int.tmod_lt_of_pos a hb⟩
  have hm2 : a < 0 → -b < a.tmod b ∧ a.tmod b ≤ 0 := fun h => by
    have h1 := Int.tmod_nonneg b (a := -a) (by omega)
    have h2 := Int.tmod_lt_of_pos (-a) hb
    rw [Int.neg_tmod] at h1 h2
    exact ⟨by omega, by omega⟩
  generalize ht : a.tdiv b = t at e
  generalize hm : a.tmod b = m at e hm1 hm2
  have hbt : (0 ≤ t → t ≤ b * t) ∧ (t ≤ 0 → b * t ≤ t) := by
    have e2 : b * t = (b - 1) * t + t := by rw [Int.sub_mul, Int.one_mul]; omega
    refine ⟨fun h => ?_, fun h => ?_⟩
    · have := Int.mul_nonneg (a := b - 1) (b := t) (by omega) h; omega
    · have := Int.mul_nonneg (a := b - 1) (b := -t) (by omega) (by omega)
      rw [Int.mul_neg] at this; omega
  have hbt2 : (t ≤ -1 → b * t ≤ -b) ∧ (1 ≤ t → b ≤ b * t) := by
    refine ⟨fun h => ?_, fun h => ?_⟩
    · have := Int.mul_nonneg (a := b) (b := -1 - t) (by omega) (by omega)
      rw [Int.mul_sub] at this; omega
    · have := Int.mul_nonneg (a := b) (b := t - 1) (by omega) (by omega)
      rw [Int.mul_sub, Int.mul_one] at this; omega
  have htr : -4611686018427387904 ≤ t ∧ t ≤ 4611686018427387904 := by
    by_cases h0 : 0 ≤ a
    · have := hm1 h0
      by_cases h1 : 0 ≤ t
      · have := hbt.1 h1; omega
      · have := hbt2.1 (by omega); omega
    · have := hm2 (by omega)
      by_cases h1 : 1 ≤ t
      · have := hbt2.2 h1; omega
      · have := hbt.2 (by omega); omega
  have hb0 : (b == 0) = false := by simp; omega
  have hb1 : (b == -1) = false := by simp; omega
  have hblt : decide (b < 0) = false := by simp; omega
  have hok : InR t := inR (by omega) (by omega)
  have hok1 : InR (t - 1) := inR (by omega) (by omega)
  have hbne : b ≠ 0 := by omega
  have hf65 : f32 a b = bif (bif m != 0 then decide (a < 0) else false) then t - 1 else t := by
    simp only [f32, f32t, hb0, hb1, ht, hm, hblt]
    cases (a == -9223372036854775808) <;> cases decide (a < 0) <;> cases (m != 0) <;> rfl
  have hf59 : f41 a b = bif (bif m != 0 then decide (m < 0) else false) then t - 1 else t := by
    simp only [f41, f41t, hb0, hb1, ht, hm, hblt]
    cases (a == -9223372036854775808) <;> cases decide (m < 0) <;> cases (m != 0) <;> rfl
  have hsame : f41 a b = f32 a b := by
    rw [hf65, hf59]
    by_cases h0 : m = 0
    · simp [h0]
    · have : (m < 0) ↔ (a < 0) := by
        constructor
        · intro h; by_cases ha0 : 0 ≤ a
          · have := hm1 ha0; omega
          · omega
        · intro h; have := hm2 h; omega
      simp [this]
  have hoks : f32_ok a b ∧ f41_ok a b := by
    refine ⟨fun _ _ => ⟨hbne, ?_, hbne, fun _ => ?_⟩, fun _ _ => ⟨hbne, ?_, hbne, fun _ => ?_⟩⟩
    · rw [ht]; exact hok
    · show InR (a.tdiv b - 1); rw [ht]; exact hok1
    · rw [ht]; exact hok
    · show InR (a.tdiv b - 1); rw [ht]; exact hok1
  by_cases hc : m ≠ 0 ∧ a < 0
  · have hq : f32 a b = t - 1 := by
      have hne : (m != 0) = true := by simpa using hc.1
      rw [hf65, hne]; simp [hc.2]
    have := hm2 hc.2
    refine ⟨t - 1, m + b, hq, hsame.trans hq, ?_, by omega, by omega, hoks.1, hoks.2, by omega, by omega⟩
    rw [Int.mul_sub, Int.mul_one]; omega
  · have hq : f32 a b = t := by
      rw [hf65]
      by_cases h0 : m = 0
      · simp [h0]
      · have : ¬ a < 0 := fun h => hc ⟨h0, h⟩
        simp [this]
    have hr : 0 ≤ m ∧ m < b := by
      by_cases h0 : 0 ≤ a
      · exact hm1 h0
      · have := hm2 (by omega)
        by_cases hz : m = 0
        · omega
        · exact absurd ⟨hz, by omega⟩ hc
    exact ⟨t, m, hq, hsame.trans hq, by omega, hr.1, hr.2, hoks.1, hoks.2, by omega, by omega⟩
theorem round_eq {a b : Int} (hb : 1 ≤ b ∧ b ≤ 65536) (ha : -4611686018427387904 ≤ a ∧ a ≤ 4611686018427387904) : f13 a b = f18 a b ∧ f13_ok a b ∧ f18_ok a b := by
  obtain ⟨q, r, e1, e2, e3, r1, r2, o1, o2, q1, q2⟩ := floor_eq (a := a) (b := b) (by omega) ha
  have hb0 : (b == 0) = false := by simp; omega
  have hb1 : (b == -1) = false := by simp; omega
  have hbp : decide (b > 0) = true := by simp; omega
  have hbn : decide (b < 0) = false := by simp; omega
  have er : a - b * q = r := by omega
  have w1 : IntKind.wrap .u64 r = r := wrap_u64 r1 (by omega)
  have w2 : IntKind.wrap .u64 b = b := wrap_u64 (by omega) (by omega)
  have w3 : IntKind.wrap .u64 (b - r) = b - r := wrap_u64 (by omega) (by omega)
  have hrn : decide (r < 0) = false := by simp; omega
  have h60 : f42 r = r := by simp only [f42, f42t, hrn, w1, cond_false]
  have h60b : f42 b = b := by simp only [f42, f42t, hbn, w2, cond_false]
  refine ⟨?_, ?_, ?_⟩
  · simp only [f13, f13t, f18, f18t, hb0, hb1, e1, e2, er, h60, h60b, w3, hbp, hbn]
    cases (a == -9223372036854775808) <;> cases decide (r ≥ b - r) <;> rfl
  · intro _ _
    refine ⟨o1, ?_, ?_, fun _ => ?_, fun _ => ?_, fun _ => ?_⟩
    · rw [e1, e3]; exact inR (by omega) (by omega)
    · rw [e1, er]; exact inR (by omega) (by omega)
    · rw [e1, er]; exact inR (by omega) (by omega)
    · rw [e1, er]; exact inR (by omega) (by omega)
    · rw [e1]; exact inR (by omega) (by omega)
  · intro _
    refine ⟨o2, fun _ => ⟨?_, ?_, trivial, trivial, fun _ => ?_⟩⟩
    · rw [e2, e3]; exact inR (by omega) (by omega)
    · rw [e2, er]; exact inR (by omega) (by omega)
    · rw [e2]; exact inR (by omega) (by omega)
theorem mul_range {a b A B : Int} (ha : -A ≤ a ∧ a ≤ A) (hb : 0 ≤ b ∧ b ≤ B) : -(A * B) ≤ a * b ∧ a * b ≤ A * B := by
  have hA : 0 ≤ A := by omega
  have h1 := Int.mul_nonneg (a := A - a) (b := b) (by omega) hb.1
  have h2 := Int.mul_nonneg (a := A + a) (b := b) (by omega) hb.1
  have h3 := Int.mul_nonneg (a := A) (b := B - b) hA (by omega)
  rw [Int.sub_mul] at h1
  rw [Int.add_mul] at h2
  rw [Int.mul_sub] at h3
  omega
theorem inRs {i : Int} (h1 : 0 ≤ i) (h2 : i < 4611686018427387904) : InR (i + 1) := inR (by omega) (by omega)
theorem f9_all {p : D24} (h : Right p) (hc : ∀ i, 0 ≤ i → i < len p.2.2.2.1 → 0 ≤ chr p i ∧ chr p i < 256) : f9_ok p := by
  have hg := h.gs
  have hn := len_nonneg p.2.2.2.1
  refine ⟨?_, ?_, ?_⟩
  · refine fold_ends (n := len p.2.2.2.1) (step := fun a i => bif chr p i == 63 then i else a) hn (by omega) (fun _ => rfl) (fun _ => rfl) _ (fun i i1 i2 => ?_)
    intro hv
    have hv : i < len p.2.2.2.1 := of_decide_eq_true hv
    exact ⟨⟨i1, hv⟩, inRs (i := i) i1 (by omega)⟩
  · rw [f9_other p (by omega)]
    refine fold_ends (n := 256) (step := tab10 (other p)) (by omega) (by omega) (fun _ => rfl) (fun _ => rfl) _ (fun i i1 i2 => ?_)
    intro hv
    have hv : i < 256 := of_decide_eq_true hv
    exact ⟨⟨i1, hv⟩, inRs (i := i) i1 (by omega)⟩
  · refine fold_ends (n := len p.2.2.2.1) (step := tab15 p) hn (by omega) (fun _ => rfl) (fun _ => rfl) _ (fun i i1 i2 => ?_)
    intro hv
    have hv : i < len p.2.2.2.1 := of_decide_eq_true hv
    exact ⟨⟨i1, hv⟩, hc i i1 hv, inRs (i := i) i1 (by omega)⟩
theorem f37_all {p : D24} (h : Right p) (a b : Int) : f37_ok p a b := by
  have hk := h.ks
  refine scan_ends (n := len p.2.2.2.2.1) (len_nonneg _) (by omega) (fun x hx => ?_) (fun _ => rfl) (fun x h1 h2 => ?_)
  · simp only [f37_L2_g, f37_L2t, Bool.and_eq_true, decide_eq_true_eq] at hx; exact hx.1
  · intro hv
    have hv : x.1 < len p.2.2.2.2.1 := of_decide_eq_true hv
    exact ⟨⟨h1, hv⟩, fun _ => ⟨h1, hv⟩, fun _ => ⟨h1, hv⟩, fun _ => inR (by omega) (by omega)⟩
theorem f29_all {p : D24} (h : Right p) (t : List Int) {a b : Int} (ha : 0 ≤ a ∧ a < len p.2.2.2.1) (hb : 0 ≤ b ∧ b < len p.2.2.2.1) : f29_ok (p, t, ()) a b := by
  have hk := h.ks
  refine ⟨ha, hb, scan_ends (n := len p.2.2.2.2.1) (len_nonneg _) (by omega) (fun x hx => ?_) (fun _ => rfl) (fun x h1 h2 => ?_)⟩
  · simp only [f29_L3_g, f29_L3t, Bool.and_eq_true, decide_eq_true_eq] at hx; exact hx.1
  · intro hv
    have hv : x.1 < len p.2.2.2.2.1 := of_decide_eq_true hv
    exact ⟨⟨h1, hv⟩, fun _ => inR (by omega) (by omega)⟩
theorem f36_all {p : D24} (h : Right p) (c : Int) : f36_ok p c := by
  have hg := h.gs
  have hn := len_nonneg p.2.2.2.1
  refine ends_ind (fun x => 0 ≤ x.2.1 ∧ x.2.1 ≤ len p.2.2.2.1) (fun x => (len p.2.2.2.1 - x.2.1).toNat) (fun x hx => ?_) (fun x hi hgx => ?_) ⟨by simp, by simpa using hn⟩ (by simp only [fuel]; omega)
  · intro hv
    have hv : x.2.1 < len p.2.2.2.1 := of_decide_eq_true hv
    exact ⟨⟨hx.1, hv⟩, fun _ => ⟨hx.1, hv⟩, fun _ => inR (by omega) (by omega)⟩
  · simp only [f36_L3_g, f36_L3t, Bool.and_eq_true, decide_eq_true_eq] at hgx
    have := hgx.1
    exact ⟨⟨by show 0 ≤ x.2.1 + 1; omega, by show x.2.1 + 1 ≤ _; omega⟩, by show (len p.2.2.2.1 - (x.2.1 + 1)).toNat < _; omega⟩
theorem f15_all {p : D24} (h : Right p) (s : List UInt8) : f15_ok p s := by
  have hc := cap_le s
  refine fold_ends (n := cap s) (step := ref36 p s) hc.1 (by omega) (f15_g p s) (fun _ => rfl) [] (fun i i1 i2 => ?_)
  rw [ref36_idx h s]
  intro hv
  have hv : i < cap s := by
    have := f15_g p s (idx p s i.toNat, i, ())
    rw [show f15_L3_g (s, p, ()) (idx p s i.toNat, i, ()) = true from hv] at this
    exact of_decide_eq_true this.symm
  have hl := idx_len p s i.toNat
  refine ⟨⟨i1, (show i < len s by omega)⟩, f36_all h _, fun _ => ?_, inRs (i := i) i1 (by omega)⟩
  show (((idx p s i.toNat).length + 1 : Nat) : Int) ≤ 4294967296
  omega
theorem f16_all {p : D24} (h : Right p) {l : List Int} (hl : ∀ g ∈ l, 0 ≤ g ∧ g < len p.2.2.2.1) (hb : len l ≤ 128) : f16_ok p l := by
  have hn := len_nonneg l
  have hend := foldP_loop (g := f16_L4_g (l, p, ())) (next := f16_L4_next (l, p, ())) (n := len l) (step := ref35 p l) hn (by omega) (fun _ => rfl) (fun _ => rfl) [] 0
  refine ⟨?_, ?_⟩
  · refine foldP_ends (n := len l) (step := ref35 p l) hn (by omega) (fun _ => rfl) (fun _ => rfl) [] 0 (fun i i1 i2 => ?_)
    have hk := ref35_pen p l i.toNat
    intro hv
    have hv : i < len l := of_decide_eq_true hv
    have hr := pen_range h hl i.toNat (by omega)
    have hg := hl _ (nth_mem i1 hv)
    have ha := (h.glyph hg.1 hg.2).2
    have hkn := f37_range h (chr p (nth l (i - 1) 0)) (chr p (nth l i 0))
    have hpen : (foldP (ref35 p l) i.toNat ([], 0)).2 = pen p l i.toNat := hk.1
    refine ⟨fun g => ?_, ?_, ⟨i1, hv⟩, hg, ?_, inRs (i := i) i1 (by omega)⟩
    · have hi : i > 0 := of_decide_eq_true g
      have hg' := hl _ (nth_mem (l := l) (i := i - 1) (by omega) (by omega))
      refine ⟨(show InR (i - 1) from inR (by omega) (by omega)), (show InB (i - 1) (len l) from ⟨by omega, by omega⟩), hg', ⟨i1, hv⟩, hg, f37_all h _ _, ?_⟩
      show InR ((foldP (ref35 p l) i.toNat ([], 0)).2 + f37 p (chr p (nth l (i - 1) 0)) (chr p (nth l i 0)))
      rw [hpen]; exact inR (by omega) (by omega)
    · show (((foldP (ref35 p l) i.toNat ([], 0)).1.length + 1 : Nat) : Int) ≤ 4294967296
      rw [hk.2]; omega
    · show InR ((bif decide (i > 0) then (foldP (ref35 p l) i.toNat ([], 0)).2 + f37 p (chr p (nth l (i - 1) 0)) (chr p (nth l i 0)) else (foldP (ref35 p l) i.toNat ([], 0)).2) + (nth p.2.2.2.1 (nth l i 0) Z47).2.1)
      rw [hpen]
      cases decide (i > 0) <;> simp only [cond_true, cond_false] <;> exact inR (by omega) (by omega)
  · show (((f16_L4_x2_0 (l, p, ()) (loopEnd (f16_L4_g (l, p, ())) (f16_L4_next (l, p, ())) ([], 0, 0, ()))).length + 1 : Nat) : Int) ≤ 4294967296
    rw [hend]
    have hk := (ref35_pen p l (len l).toNat).2
    show (((foldP (ref35 p l) (len l).toNat ([], 0)).1.length + 1 : Nat) : Int) ≤ 4294967296
    rw [hk]; omega
theorem f11_all {p : D24} (h : Right p) {d : D65} (hd : d.1 = p) (hlen : len d.2.1 = 256) (ht : ∀ c, 0 ≤ c → c < 256 → nth d.2.1 c 0 = glyphOf p c) {s : List UInt8} (hs : len s ≤ 128) : f11_ok d s := by
  have hn := len_nonneg s
  refine foldP_ends (n := len s) (step := prog42 d s) hn (by omega) (fun x => by
    show (decide (x.2.2.1 < len s) && (decide (nth d.2.1 (byteAt s x.2.2.1) 0 < 0) || !decide (nth d.2.1 (byteAt s x.2.2.1) 0 < 0))) = _
    cases decide (nth d.2.1 (byteAt s x.2.2.1) 0 < 0) <;> simp) (fun _ => rfl) [] 0 (fun i i1 i2 => ?_)
  obtain ⟨hx1, hx2⟩ := prog42_pen hd ht s i.toNat
  generalize foldP (prog42 d s) i.toNat ([], 0) = x at hx1 hx2
  obtain ⟨a, b⟩ := x
  simp only at hx1 hx2
  have hil := idx_len p s i.toNat
  have hla : len a = len (idx p s i.toNat) := by rw [← hx1]; simp [len]
  have hll : len (idx p s i.toNat) = ((idx p s i.toNat).length : Int) := rfl
  have hin := idx_in (p := p) s i.toNat
  have hr := pen_range h hin (idx p s i.toNat).length (by omega)
  have hb := byteAt_range s i
  intro hv
  have hiv : i < len s := of_decide_eq_true hv
  clear hv
  obtain ⟨d1, d2, _⟩ := d
  simp only at hd ht hlen
  subst hd
  refine ⟨⟨i1, hiv⟩, hb, fun g0 => ?_, fun _ => inRs (i := i) i1 (by omega)⟩
  have g0 : ¬ glyphOf d1 (byteAt s i) < 0 := by
    have : (!decide (nth d2 (byteAt s i) 0 < 0)) = true := g0
    rw [ht _ hb.1 hb.2] at this
    simpa using this
  have hgr := glyphOf_range (p := d1) (byteAt s i)
  have hgi : 0 ≤ glyphOf d1 (byteAt s i) ∧ glyphOf d1 (byteAt s i) < len d1.2.2.2.1 := ⟨by omega, by omega⟩
  have ha := (h.glyph hgi.1 hgi.2).2
  have hkn := fun u v => f37_range h u v
  refine ⟨fun g1 => ?_, ?_, ?_, ?_⟩
  · have g1 : len a > 0 := of_decide_eq_true g1
    have hm := hin _ (nth_mem (l := idx d1 s i.toNat) (i := len a - 1) (by omega) (by omega))
    have hf : (nth a (len a - 1) Z50).1 = nth (idx d1 s i.toNat) (len a - 1) 0 := by rw [nth_fst (by omega) (by omega), hx1]
    refine ⟨(show InR (len a - 1) from inR (by omega) (by omega)), ⟨by show 0 ≤ len a - 1; omega, by show len a - 1 < len a; omega⟩, ?_, ?_⟩
    · show f29_ok (d1, d2, ()) (nth a (len a - 1) Z50).1 (nth d2 (byteAt s i) 0)
      rw [hf, ht _ hb.1 hb.2]
      exact f29_all h d2 hm hgi
    · show InR (b + f29 (d1, d2, ()) (nth a (len a - 1) Z50).1 (nth d2 (byteAt s i) 0))
      rw [kern_eq, hx2]
      have := hkn (chr d1 (nth a (len a - 1) Z50).1) (chr d1 (nth d2 (byteAt s i) 0))
      exact inR (by omega) (by omega)
  · show ((a.length + 1 : Nat) : Int) ≤ 4294967296
    have : len a = (a.length : Int) := rfl
    omega
  · show InB (nth d2 (byteAt s i) 0) (len d1.2.2.2.1)
    rw [ht _ hb.1 hb.2]; exact hgi
  · show InR ((bif decide (len a > 0) then b + f29 (d1, d2, ()) (nth a (len a - 1) Z50).1 (nth d2 (byteAt s i) 0) else b) + (nth d1.2.2.2.1 (nth d2 (byteAt s i) 0) Z47).2.1)
    rw [kern_eq, hx2, ht _ hb.1 hb.2]
    have := hkn (chr d1 (nth a (len a - 1) Z50).1) (chr d1 (glyphOf d1 (byteAt s i)))
    cases decide (len a > 0) <;> simp only [cond_true, cond_false] <;> exact inR (by omega) (by omega)
theorem idx_congr {p : D24} {s s' : List UInt8} : ∀ k : Nat, (∀ i : Int, 0 ≤ i → i < k → byteAt s i = byteAt s' i) → idx p s k = idx p s' k := by
  intro k
  induction k with
  | zero => intro _; rfl
  | succ k ih =>
    intro h
    rw [idx, idx, ih (fun i i1 i2 => h i i1 (by omega)), h k (by omega) (by omega)]
def cut (s : List UInt8) : List UInt8 := bif decide (len s > 128) then List.take (Int.toNat 128) s else s
theorem cut_len (s : List UInt8) : len (cut s) = cap s := by
  have h0 := len_nonneg s
  have hc : cap s = if 128 < len s then 128 else len s := rfl
  rw [hc]
  unfold cut
  by_cases h : len s > 128
  · rw [if_pos h]
    simp only [h, decide_true, cond_true]
    unfold len at *
    rw [List.length_take]
    have : Int.toNat 128 = 128 := rfl
    omega
  · rw [if_neg h]
    simp only [h, decide_false, cond_false]
theorem cut_at (s : List UInt8) (i : Int) (h2 : i < cap s) : byteAt (cut s) i = byteAt s i := by
  have hc := cap_le s
  unfold cut
  by_cases h : len s > 128
  · simp only [h, decide_true, cond_true]
    unfold byteAt
    have : i.toNat < Int.toNat 128 := by have : Int.toNat 128 = 128 := rfl; omega
    rw [List.getD_eq_getElem?_getD, List.getD_eq_getElem?_getD, List.getElem?_take_of_lt this]
  · simp only [h, decide_false, cond_false]
theorem last_app {a : List Int} {x : Int} : nth (a ++ [x]) (len (a ++ [x]) - 1) 0 = x := by
  have : len (a ++ [x]) - 1 = len a := by unfold len; simp
  rw [this]
  exact nth_right
structure Known (p : D24) : Prop where
  gs : len p.2.2.2.1 < 9223372036854775808
  ks : len p.2.2.2.2.1 < 9223372036854775808
  segs : ∀ i, len (nth p.2.2.2.1 i Z47).2.2.1 < 9223372036854775808
  chars : ∀ i, 0 ≤ i → i < len p.2.2.2.1 → 0 ≤ chr p i ∧ chr p i < 256
theorem size_range (z : Int) : 0 ≤ f46 z 1 1048576 ∧ f46 z 1 1048576 ≤ 1048576 := by
  simp only [f46, f46t, imin, imax]
  repeat' split
  all_goals omega
theorem width_eq {p : D24} (hp : Known p) (s : List UInt8) (z : Int) : f23 p s z = f35 p s z ∧ f23_ok p s z ∧ f35_ok p s z := by
  have hck := check_eq p hp.gs hp.ks hp.segs
  by_cases h0 : f24 p = 0
  · have hR := right_of h0 hp.gs hp.ks
    have h0' : f33 p = 0 := by rw [← hck]; exact h0
    obtain ⟨t1, t2, t3⟩ := f9_at hR hp.chars
    have hcl := cut_len s
    have hcap := cap_le s
    have hp42 := prog42_pen t1 t3 (cut s) (cap s).toNat
    have hidx : idx p (cut s) (cap s).toNat = idx p s (cap s).toNat := idx_congr _ fun i _ i2 => cut_at s i (by omega)
    have hpen : (f11 (f9 p) (cut s)).2.1 = pen p (idx p s (cap s).toNat) (idx p s (cap s).toNat).length := by
      rw [f11_eq _ _ (by omega), hcl]
      show (foldP (prog42 (f9 p) (cut s)) (cap s).toNat ([], 0)).2 = _
      rw [hp42.2, hidx]
    have hin := idx_in (p := p) s (cap s).toNat
    have hil := idx_len p s (cap s).toNat
    have hll : len (idx p s (cap s).toNat) = ((idx p s (cap s).toNat).length : Int) := rfl
    have hr := pen_range hR hin (idx p s (cap s).toNat).length (by omega)
    obtain ⟨a, ha, hal⟩ := f16_eq p (idx p s (cap s).toNat) (by omega)
    have hlast : nth (f16 p (f15 p s)) (len (f16 p (f15 p s)) - 1) 0 = pen p (idx p s (cap s).toNat) (idx p s (cap s).toNat).length := by
      rw [f15_eq hR, ha]; exact last_app
    have hlen : len (f16 p (f15 p s)) = ((idx p s (cap s).toNat).length : Int) + 1 := by
      rw [f15_eq hR, ha]; unfold len; rw [List.length_append, hal]; rfl
    have hz := size_range z
    have hmul := mul_range (a := pen p (idx p s (cap s).toNat) (idx p s (cap s).toNat).length) (b := f46 z 1 1048576) (A := 16777216) (B := 1048576) ⟨by omega, by omega⟩ hz
    have hround := round_eq (a := pen p (idx p s (cap s).toNat) (idx p s (cap s).toNat).length * f46 z 1 1048576) (b := p.1) hR.em ⟨by omega, by omega⟩
    have hcomm : f46 z 1 1048576 * pen p (idx p s (cap s).toNat) (idx p s (cap s).toNat).length = pen p (idx p s (cap s).toNat) (idx p s (cap s).toNat).length * f46 z 1 1048576 := Int.mul_comm _ _
    have hem : (f9 p).1.1 = p.1 := by rw [t1]
    have e15 : f23 p s z = bif f24 p != 0 then 0 else f13 (f46 z 1 1048576 * (f11 (f9 p) (cut s)).2.1) (f9 p).1.1 := rfl
    have e16 : f35 p s z = bif f33 p != 0 then 0 else f18 (nth (f16 p (f15 p s)) (len (f16 p (f15 p s)) - 1) 0 * f46 z 1 1048576) p.1 := rfl
    refine ⟨?_, ⟨f24_all p, fun _ => ⟨fun g => ⟨by omega, ?_⟩, f9_all hR hp.chars, trivial, f11_all hR t1 t2 t3 (show len (cut s) ≤ 128 by omega), ?_, ?_⟩⟩, f33_all p, fun _ => ⟨f15_all hR s, ?_, ?_, ?_, trivial, ?_, ?_⟩⟩
    · rw [e15, e16, h0, h0', hpen, hlast, hem, hcomm]
      simp only [bne_self_eq_false, cond_false]
      exact hround.1
    · have : len s > 128 := of_decide_eq_true g
      omega
    · show InR (f46 z 1 1048576 * (f11 (f9 p) (cut s)).2.1)
      rw [hpen, hcomm]; exact inR (by omega) (by omega)
    · show f13_ok (f46 z 1 1048576 * (f11 (f9 p) (cut s)).2.1) (f9 p).1.1
      rw [hpen, hcomm, hem]; exact hround.2.1
    · show f16_ok p (f15 p s)
      rw [f15_eq hR]; exact f16_all hR hin (by omega)
    · show InR (len (f16 p (f15 p s)) - 1)
      rw [hlen]; exact inR (by omega) (by omega)
    · show InB (len (f16 p (f15 p s)) - 1) (len (f16 p (f15 p s)))
      rw [hlen]; exact ⟨by omega, by omega⟩
    · show InR (nth (f16 p (f15 p s)) (len (f16 p (f15 p s)) - 1) 0 * f46 z 1 1048576)
      rw [hlast]; exact inR (by omega) (by omega)
    · show f18_ok (nth (f16 p (f15 p s)) (len (f16 p (f15 p s)) - 1) 0 * f46 z 1 1048576) p.1
      rw [hlast]; exact hround.2.2
  · have h0' : f33 p ≠ 0 := by rw [← hck]; exact h0
    have b1 : (f24 p != 0) = true := by simpa using h0
    have b2 : (f33 p != 0) = true := by simpa using h0'
    have e15 : f23 p s z = bif f24 p != 0 then 0 else f13 (f46 z 1 1048576 * (f11 (f9 p) (cut s)).2.1) (f9 p).1.1 := rfl
    have e16 : f35 p s z = bif f33 p != 0 then 0 else f18 (nth (f16 p (f15 p s)) (len (f16 p (f15 p s)) - 1) 0 * f46 z 1 1048576) p.1 := rfl
    refine ⟨by rw [e15, e16, b1, b2]; rfl, ⟨f24_all p, fun g => ?_⟩, f33_all p, fun g => ?_⟩
    · have g : (!(f24 p != 0)) = true := g
      rw [b1] at g; cases g
    · have g : (!(f33 p != 0)) = true := g
      rw [b2] at g; cases g
theorem len_lt {α : Type} {l : List α} (h : l.length ≤ maxLen) : len l < 9223372036854775808 := by
  unfold len
  have : maxLen = 9223372036854775807 := rfl
  omega
theorem nth_cases {α : Type} (l : List α) (i : Int) (d : α) : nth l i d = d ∨ nth l i d ∈ l := by
  unfold nth
  rw [List.getD_eq_getElem?_getD]
  cases h : l[i.toNat]? with
  | none => exact .inl rfl
  | some x => exact .inr (List.mem_of_getElem? h)
theorem known_of {p : D24} (h : Ty.wf T24 p) : Known p := by
  obtain ⟨_, _, _, ⟨h1, h2⟩, ⟨h3, _⟩, _⟩ := h
  refine ⟨len_lt h1, len_lt h3, fun i => ?_, fun i i1 i2 => ?_⟩
  · rcases nth_cases p.2.2.2.1 i Z47 with e | e
    · rw [e]; show len ([] : List D74) < _; simp [len]
    · obtain ⟨_, _, ⟨h4, _⟩, _⟩ := h2 _ e
      exact len_lt h4
  · unfold chr
    rcases nth_cases p.2.2.2.1 i Z47 with e | e
    · rw [e]; show 0 ≤ (0 : Int) ∧ (0 : Int) < 256; omega
    · obtain ⟨⟨h5, h6⟩, _⟩ := h2 _ e
      have e1 : IntKind.min .u8 = 0 := rfl
      have e2 : IntKind.max .u8 = 255 := rfl
      rw [e1] at h5
      rw [e2] at h6
      exact ⟨h5, Int.lt_of_le_of_lt h6 (by decide)⟩
end Go.Proofs.YtdgfchmfajmkiaaDoor.Am
