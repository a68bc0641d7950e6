/- Font: the polygons of a path: what is asked, and how far they reach. No condition. -/
import Derived.Test.YtdgfchmfajmkiaaDoorOutM
namespace Go.Proofs.YtdgfchmfajmkiaaDoor.Am
open Go Go.Am
theorem round_in {a b M : Int} (hb : 1 ≤ b ∧ b ≤ 65536) (hM : 0 ≤ M ∧ M ≤ 1099511627776) (h1 : -(M * b) ≤ a) (h2 : a ≤ M * b) : (-M ≤ f13 a b ∧ f13 a b ≤ M) ∧ f13_ok a b := by
  have hMb := mul_range (a := M) (b := b) (A := 1099511627776) (B := 65536) ⟨by omega, by omega⟩ ⟨by omega, by omega⟩
  have ha : -4611686018427387904 ≤ a ∧ a ≤ 4611686018427387904 := ⟨by omega, by omega⟩
  refine ⟨?_, (round_eq hb ha).2.1⟩
  obtain ⟨q, r, e1, _, e3, r1, r2, _⟩ := floor_eq (a := a) (b := b) (by omega) ha
  have hb0 : (b == 0) = false := by simp; omega
  have hb1 : (b == -1) = false := by simp; omega
  have hbp : decide (b > 0) = true := by simp; omega
  have hbn : decide (b < 0) = false := by simp; omega
  have er : a - b * q = r := by omega
  have hf : f13 a b = bif decide (r ≥ b - r) then q + 1 else q := by
    simp only [f13, f13t, hb0, hb1, e1, er, hbp, hbn]
    cases (a == -9223372036854775808) <;> cases decide (r ≥ b - r) <;> rfl
  have lo : -M ≤ q := by
    by_cases h : -M ≤ q
    · exact h
    · have := Int.mul_nonneg (a := b) (b := -M - 1 - q) (by omega) (by omega)
      rw [Int.mul_sub, Int.mul_sub, Int.mul_neg, Int.mul_one, Int.mul_comm b M] at this
      omega
  have hi : q ≤ M := by
    by_cases h : q ≤ M
    · exact h
    · have := Int.mul_nonneg (a := b) (b := q - (M + 1)) (by omega) (by omega)
      rw [Int.mul_sub, Int.mul_add, Int.mul_one, Int.mul_comm b M] at this
      omega
  rw [hf]
  cases hr : decide (r ≥ b - r) with
  | false => simp only [cond_false]; exact ⟨lo, hi⟩
  | true =>
    have hr := of_decide_eq_true hr
    simp only [cond_true]
    refine ⟨by omega, ?_⟩
    by_cases h : q + 1 ≤ M
    · exact h
    · have hq : q = M := by omega
      rw [hq, Int.mul_comm b M] at e3
      omega
theorem wt {w x : Int} (hw : 0 ≤ w) (hx : -16777216 ≤ x ∧ x ≤ 16777216) : -(w * 16777216) ≤ w * x ∧ w * x ≤ w * 16777216 := by
  have h1 := Int.mul_nonneg hw (show 0 ≤ 16777216 - x by omega)
  have h2 := Int.mul_nonneg hw (show 0 ≤ 16777216 + x by omega)
  rw [Int.mul_sub] at h1
  rw [Int.mul_add] at h2
  omega
def nearP (p : D50) : Prop := -16777216 ≤ p.1 ∧ p.1 ≤ 16777216 ∧ -16777216 ≤ p.2.1 ∧ p.2.1 ≤ 16777216
def polyI (n : Int) (l : List D50) : Prop := l ≠ [] ∧ len l ≤ n ∧ ∀ p ∈ l, nearP p
theorem polyI_mono {n m : Int} {l : List D50} (h : polyI n l) (hm : n ≤ m) : polyI m l := ⟨h.1, by have := h.2.1; omega, h.2.2⟩
theorem f53_all {n : Int} {l : List D50} {p : D50} (h : polyI n l) (hn : n ≤ 100000) (hp : nearP p) : f53_v2_ok p l ∧ polyI (n + 1) (f53_v2_o p l).1 := by
  obtain ⟨h1, h2, h3⟩ := h
  have hl : 1 ≤ len l := by
    cases l with
    | nil => exact absurd rfl h1
    | cons a b => unfold len; simp only [List.length_cons]; omega
  have hll : len l = (l.length : Int) := rfl
  refine ⟨⟨(show InR (len l - 1) from inR (by omega) (by omega)), ⟨(show 0 ≤ len l - 1 by omega), (show len l - 1 < len l by omega)⟩, fun _ => ?_⟩, ?_⟩
  · show ((l.length + 1 : Nat) : Int) ≤ 4294967296
    omega
  · show polyI (n + 1) (bif !(Ty.eqb T50 p (nth l (len l - 1) Z50)) then l ++ [p] else l)
    cases !(Ty.eqb T50 p (nth l (len l - 1) Z50)) with
    | false => exact ⟨h1, by simp only [cond_false]; omega, h3⟩
    | true =>
      simp only [cond_true]
      refine ⟨by simp, ?_, fun q hq => ?_⟩
      · unfold len at *
        simp only [List.length_append, List.length_cons, List.length_nil]
        omega
      · rcases List.mem_append.1 hq with hq | hq
        · exact h3 q hq
        · rw [List.mem_singleton.1 hq]; exact hp
theorem poly_loop {g : List D50 × Int × Unit → Bool} {next : List D50 × Int × Unit → List D50 × Int × Unit} {K : Int} {pt : Int → D50} (hK : 0 ≤ K ∧ K ≤ 100) (hg : ∀ x, g x = decide (x.2.1 ≤ K)) (hx : ∀ x, next x = ((f53_v2_o (pt x.2.1) x.1).1, x.2.1 + 1, ())) (hn : ∀ k, 1 ≤ k → k ≤ K → nearP (pt k)) {n : Int} (hn9 : n ≤ 90000) {l : List D50} (h : polyI n l) :
    polyI (n + K) (loopEnd g next (l, 1, ())).1 ∧ ∀ ok : List D50 × Int × Unit → Prop, (∀ a k, 1 ≤ k → (k ≤ K → f53_v2_ok (pt k) a) → ok (a, k, ())) → Am.Ends g next ok (l, 1, ()) := by
  have hstep : ∀ x : List D50 × Int × Unit, (1 ≤ x.2.1 ∧ x.2.1 ≤ K + 1 ∧ polyI (n + x.2.1 - 1) x.1) → g x = true → (1 ≤ (next x).2.1 ∧ (next x).2.1 ≤ K + 1 ∧ polyI (n + (next x).2.1 - 1) (next x).1) ∧ (K + 1 - (next x).2.1).toNat < (K + 1 - x.2.1).toNat := by
    intro x hi hgx
    rw [hg] at hgx
    have hgx := of_decide_eq_true hgx
    rw [hx]
    have := (f53_all (p := pt x.2.1) hi.2.2 (by omega) (hn _ hi.1 hgx)).2
    refine ⟨⟨by simp only; omega, by simp only; omega, polyI_mono this (by simp only; omega)⟩, by simp only; omega⟩
  have h0 : 1 ≤ ((l, 1, ()) : List D50 × Int × Unit).2.1 ∧ ((l, 1, ()) : List D50 × Int × Unit).2.1 ≤ K + 1 ∧ polyI (n + ((l, 1, ()) : List D50 × Int × Unit).2.1 - 1) ((l, 1, ()) : List D50 × Int × Unit).1 := ⟨by simp, by simp only; omega, polyI_mono h (by simp only; omega)⟩
  refine ⟨?_, fun ok hok => ?_⟩
  · have h := loop_ind (g := g) (next := next) _ (fun x => (K + 1 - x.2.1).toNat) hstep h0 (by simp only [fuel]; omega)
    exact polyI_mono h.1.2.2 (by have := h.1.2.1; omega)
  · refine ends_ind _ (fun x => (K + 1 - x.2.1).toNat) (fun x hi => ?_) hstep h0 (by simp only [fuel]; omega)
    exact hok x.1 x.2.1 hi.1 fun hk => (f53_all (p := pt x.2.1) hi.2.2 (by omega) (hn _ hi.1 hk)).1
theorem w8 {k : Int} (h1 : 1 ≤ k) (h2 : k ≤ 8) : 0 ≤ (8 - k) * (8 - k) ∧ 0 ≤ 2 * k * (8 - k) ∧ 0 ≤ k * k ∧ (8 - k) * (8 - k) + 2 * k * (8 - k) + k * k = 64 := by
  have : k = 1 ∨ k = 2 ∨ k = 3 ∨ k = 4 ∨ k = 5 ∨ k = 6 ∨ k = 7 ∨ k = 8 := by omega
  rcases this with rfl | rfl | rfl | rfl | rfl | rfl | rfl | rfl <;> decide
theorem w16 {k : Int} (h1 : 1 ≤ k) (h2 : k ≤ 16) : 0 ≤ (16 - k) * (16 - k) * (16 - k) ∧ 0 ≤ 3 * k * (16 - k) * (16 - k) ∧ 0 ≤ 3 * k * k * (16 - k) ∧ 0 ≤ k * k * k ∧ (16 - k) * (16 - k) * (16 - k) + 3 * k * (16 - k) * (16 - k) + 3 * k * k * (16 - k) + k * k * k = 4096 ∧ (0 ≤ (16 - k) * (16 - k) ∧ (16 - k) * (16 - k) ≤ 4096) ∧ (0 ≤ 3 * k * (16 - k) ∧ 3 * k * (16 - k) ≤ 4096) ∧ (0 ≤ 3 * k * k ∧ 3 * k * k ≤ 4096) ∧ (0 ≤ k * k ∧ k * k ≤ 4096) := by
  have : k = 1 ∨ k = 2 ∨ k = 3 ∨ k = 4 ∨ k = 5 ∨ k = 6 ∨ k = 7 ∨ k = 8 ∨ k = 9 ∨ k = 10 ∨ k = 11 ∨ k = 12 ∨ k = 13 ∨ k = 14 ∨ k = 15 ∨ k = 16 := by omega
  rcases this with rfl | rfl | rfl | rfl | rfl | rfl | rfl | rfl | rfl | rfl | rfl | rfl | rfl | rfl | rfl | rfl <;> decide
theorem quad_in {k x y z : Int} (h1 : 1 ≤ k) (h2 : k ≤ 8) (hx : -16777216 ≤ x ∧ x ≤ 16777216) (hy : -16777216 ≤ y ∧ y ≤ 16777216) (hz : -16777216 ≤ z ∧ z ≤ 16777216) :
    InR ((8 - k) * (8 - k) * x) ∧ InR (2 * k * (8 - k) * y) ∧ InR ((8 - k) * (8 - k) * x + 2 * k * (8 - k) * y) ∧ InR (k * k * z) ∧ InR ((8 - k) * (8 - k) * x + 2 * k * (8 - k) * y + k * k * z) ∧ f13_ok ((8 - k) * (8 - k) * x + 2 * k * (8 - k) * y + k * k * z) 64 ∧ -16777216 ≤ f13 ((8 - k) * (8 - k) * x + 2 * k * (8 - k) * y + k * k * z) 64 ∧ f13 ((8 - k) * (8 - k) * x + 2 * k * (8 - k) * y + k * k * z) 64 ≤ 16777216 := by
  obtain ⟨a1, a2, a3, a4⟩ := w8 h1 h2
  have b1 := wt a1 hx
  have b2 := wt a2 hy
  have b3 := wt a3 hz
  have r := round_in (a := (8 - k) * (8 - k) * x + 2 * k * (8 - k) * y + k * k * z) (b := 64) (M := 16777216) ⟨by omega, by omega⟩ ⟨by omega, by omega⟩ (by omega) (by omega)
  exact ⟨inR (by omega) (by omega), inR (by omega) (by omega), inR (by omega) (by omega), inR (by omega) (by omega), inR (by omega) (by omega), r.2, r.1.1, r.1.2⟩
theorem cubic_in {k x y z u : Int} (h1 : 1 ≤ k) (h2 : k ≤ 16) (hx : -16777216 ≤ x ∧ x ≤ 16777216) (hy : -16777216 ≤ y ∧ y ≤ 16777216) (hz : -16777216 ≤ z ∧ z ≤ 16777216) (hu : -16777216 ≤ u ∧ u ≤ 16777216) :
    InR ((16 - k) * (16 - k) * (16 - k) * x) ∧ InR (3 * k * (16 - k) * (16 - k) * y) ∧ InR ((16 - k) * (16 - k) * (16 - k) * x + 3 * k * (16 - k) * (16 - k) * y) ∧ InR (3 * k * k * (16 - k) * z) ∧ InR ((16 - k) * (16 - k) * (16 - k) * x + 3 * k * (16 - k) * (16 - k) * y + 3 * k * k * (16 - k) * z) ∧ InR (k * k * k * u) ∧ InR ((16 - k) * (16 - k) * (16 - k) * x + 3 * k * (16 - k) * (16 - k) * y + 3 * k * k * (16 - k) * z + k * k * k * u) ∧
    f13_ok ((16 - k) * (16 - k) * (16 - k) * x + 3 * k * (16 - k) * (16 - k) * y + 3 * k * k * (16 - k) * z + k * k * k * u) 4096 ∧ -16777216 ≤ f13 ((16 - k) * (16 - k) * (16 - k) * x + 3 * k * (16 - k) * (16 - k) * y + 3 * k * k * (16 - k) * z + k * k * k * u) 4096 ∧ f13 ((16 - k) * (16 - k) * (16 - k) * x + 3 * k * (16 - k) * (16 - k) * y + 3 * k * k * (16 - k) * z + k * k * k * u) 4096 ≤ 16777216 := by
  obtain ⟨a1, a2, a3, a4, a5, _⟩ := w16 h1 h2
  have b1 := wt a1 hx
  have b2 := wt a2 hy
  have b3 := wt a3 hz
  have b4 := wt a4 hu
  have r := round_in (a := (16 - k) * (16 - k) * (16 - k) * x + 3 * k * (16 - k) * (16 - k) * y + 3 * k * k * (16 - k) * z + k * k * k * u) (b := 4096) (M := 16777216) ⟨by omega, by omega⟩ ⟨by omega, by omega⟩ (by omega) (by omega)
  exact ⟨inR (by omega) (by omega), inR (by omega) (by omega), inR (by omega) (by omega), inR (by omega) (by omega), inR (by omega) (by omega), inR (by omega) (by omega), inR (by omega) (by omega), r.2, r.1.1, r.1.2⟩
def ptQ (s : D74) (p : D50) (k : Int) : D50 := (f13 ((8 - k) * (8 - k) * p.1 + 2 * k * (8 - k) * (nth s.2.1 0 Z50).1 + k * k * (nth s.2.1 1 Z50).1) 64, f13 ((8 - k) * (8 - k) * p.2.1 + 2 * k * (8 - k) * (nth s.2.1 0 Z50).2.1 + k * k * (nth s.2.1 1 Z50).2.1) 64, ())
def ptC (s : D74) (p : D50) (k : Int) : D50 := (f13 ((16 - k) * (16 - k) * (16 - k) * p.1 + 3 * k * (16 - k) * (16 - k) * (nth s.2.1 0 Z50).1 + 3 * k * k * (16 - k) * (nth s.2.1 1 Z50).1 + k * k * k * (nth s.2.1 2 Z50).1) 4096, f13 ((16 - k) * (16 - k) * (16 - k) * p.2.1 + 3 * k * (16 - k) * (16 - k) * (nth s.2.1 0 Z50).2.1 + 3 * k * k * (16 - k) * (nth s.2.1 1 Z50).2.1 + k * k * k * (nth s.2.1 2 Z50).2.1) 4096, ())
theorem nth_near {l : List D50} (h : ∀ p ∈ l, nearP p) (i : Int) : nearP (nth l i Z50) := by
  rcases nth_cases l i Z50 with e | e
  · rw [e]; exact ⟨by decide, by decide, by decide, by decide⟩
  · exact h _ e
theorem f31_all {n : Int} {l : List D50} {s : D74} (h : polyI n l) (hn : n ≤ 80000) (hs : ∀ k, 0 ≤ k → k < 3 → nearP (nth s.2.1 k Z50)) : f31_v1_ok l s ∧ polyI (n + 16) (f31_v1 l s) := by
  have hp : nearP (nth l (len l - 1) Z50) := nth_near h.2.2 _
  have s0 := hs 0 (by omega) (by omega)
  have s1 := hs 1 (by omega) (by omega)
  have s2 := hs 2 (by omega) (by omega)
  have hl : 1 ≤ len l := by
    cases l with
    | nil => exact absurd rfl h.1
    | cons a b => unfold len; simp only [List.length_cons]; omega
  have hl2 := h.2.1
  have hq := poly_loop (g := f31_v1_L8_g (s, nth l (len l - 1) Z50, ((), ()), ())) (next := f31_v1_L8_next (s, nth l (len l - 1) Z50, ((), ()), ())) (K := 8) (pt := ptQ s (nth l (len l - 1) Z50)) ⟨by omega, by omega⟩ (fun _ => rfl) (fun _ => rfl) (fun k k1 k2 => by
    have a := quad_in k1 k2 (x := (nth l (len l - 1) Z50).1) (y := (nth s.2.1 0 Z50).1) (z := (nth s.2.1 1 Z50).1) ⟨hp.1, hp.2.1⟩ ⟨s0.1, s0.2.1⟩ ⟨s1.1, s1.2.1⟩
    have b := quad_in k1 k2 (x := (nth l (len l - 1) Z50).2.1) (y := (nth s.2.1 0 Z50).2.1) (z := (nth s.2.1 1 Z50).2.1) hp.2.2 s0.2.2 s1.2.2
    exact ⟨a.2.2.2.2.2.2.1, a.2.2.2.2.2.2.2, b.2.2.2.2.2.2.1, b.2.2.2.2.2.2.2⟩) (by omega) h
  have hc := poly_loop (g := f31_v1_L15_g (s, nth l (len l - 1) Z50, ((), ()), ())) (next := f31_v1_L15_next (s, nth l (len l - 1) Z50, ((), ()), ())) (K := 16) (pt := ptC s (nth l (len l - 1) Z50)) ⟨by omega, by omega⟩ (fun _ => rfl) (fun _ => rfl) (fun k k1 k2 => by
    have a := cubic_in k1 k2 (x := (nth l (len l - 1) Z50).1) (y := (nth s.2.1 0 Z50).1) (z := (nth s.2.1 1 Z50).1) (u := (nth s.2.1 2 Z50).1) ⟨hp.1, hp.2.1⟩ ⟨s0.1, s0.2.1⟩ ⟨s1.1, s1.2.1⟩ ⟨s2.1, s2.2.1⟩
    have b := cubic_in k1 k2 (x := (nth l (len l - 1) Z50).2.1) (y := (nth s.2.1 0 Z50).2.1) (z := (nth s.2.1 1 Z50).2.1) (u := (nth s.2.1 2 Z50).2.1) hp.2.2 s0.2.2 s1.2.2 s2.2.2
    exact ⟨a.2.2.2.2.2.2.2.2.1, a.2.2.2.2.2.2.2.2.2, b.2.2.2.2.2.2.2.2.1, b.2.2.2.2.2.2.2.2.2⟩) (by omega) h
  have hli := f53_all (p := nth s.2.1 0 Z50) h (by omega) s0
  refine ⟨⟨(show InR (len l - 1) from inR (by omega) (by omega)), ⟨(show 0 ≤ len l - 1 by omega), (show len l - 1 < len l by omega)⟩, fun _ => ⟨⟨by decide, by decide⟩, hli.1⟩, fun _ => ⟨fun _ => ?_, fun _ _ => ?_⟩⟩, ?_⟩
  · refine hq.2 _ fun a k k1 hk => ?_
    intro hv
    have k2 : k ≤ 8 := of_decide_eq_true hv
    have w := w8 k1 k2
    have a' := quad_in k1 k2 (x := (nth l (len l - 1) Z50).1) (y := (nth s.2.1 0 Z50).1) (z := (nth s.2.1 1 Z50).1) ⟨hp.1, hp.2.1⟩ ⟨s0.1, s0.2.1⟩ ⟨s1.1, s1.2.1⟩
    have b' := quad_in k1 k2 (x := (nth l (len l - 1) Z50).2.1) (y := (nth s.2.1 0 Z50).2.1) (z := (nth s.2.1 1 Z50).2.1) hp.2.2 s0.2.2 s1.2.2
    exact ⟨(show InR (8 - k) from inR (by omega) (by omega)), (show InR ((8 - k) * (8 - k)) from inR (by omega) (by omega)), (show InR (2 * k) from inR (by omega) (by omega)), (show InR (2 * k * (8 - k)) from inR (by omega) (by omega)), (show InR (k * k) from inR (by omega) (by omega)), a'.1, ⟨by decide, by decide⟩, a'.2.1, a'.2.2.1, ⟨by decide, by decide⟩, a'.2.2.2.1, a'.2.2.2.2.1, a'.2.2.2.2.2.1, b'.1, ⟨by decide, by decide⟩, b'.2.1, b'.2.2.1, ⟨by decide, by decide⟩, b'.2.2.2.1, b'.2.2.2.2.1, b'.2.2.2.2.2.1, hk k2, (show InR (k + 1) from inR (by omega) (by omega))⟩
  · refine hc.2 _ fun a k k1 hk => ?_
    intro hv
    have k2 : k ≤ 16 := of_decide_eq_true hv
    obtain ⟨w1, w2, w3, w4, w5, w6, w7, w8, w9⟩ := w16 k1 k2
    have a' := cubic_in k1 k2 (x := (nth l (len l - 1) Z50).1) (y := (nth s.2.1 0 Z50).1) (z := (nth s.2.1 1 Z50).1) (u := (nth s.2.1 2 Z50).1) ⟨hp.1, hp.2.1⟩ ⟨s0.1, s0.2.1⟩ ⟨s1.1, s1.2.1⟩ ⟨s2.1, s2.2.1⟩
    have b' := cubic_in k1 k2 (x := (nth l (len l - 1) Z50).2.1) (y := (nth s.2.1 0 Z50).2.1) (z := (nth s.2.1 1 Z50).2.1) (u := (nth s.2.1 2 Z50).2.1) hp.2.2 s0.2.2 s1.2.2 s2.2.2
    exact ⟨(show InR (16 - k) from inR (by omega) (by omega)), (show InR ((16 - k) * (16 - k)) from inR (by omega) (by omega)), (show InR ((16 - k) * (16 - k) * (16 - k)) from inR (by omega) (by omega)), (show InR (3 * k) from inR (by omega) (by omega)), (show InR (3 * k * (16 - k)) from inR (by omega) (by omega)), (show InR (3 * k * (16 - k) * (16 - k)) from inR (by omega) (by omega)), (show InR (3 * k) from inR (by omega) (by omega)), (show InR (3 * k * k) from inR (by omega) (by omega)), (show InR (3 * k * k * (16 - k)) from inR (by omega) (by omega)), (show InR (k * k) from inR (by omega) (by omega)), (show InR (k * k * k) from inR (by omega) (by omega)),
      a'.1, ⟨by decide, by decide⟩, a'.2.1, a'.2.2.1, ⟨by decide, by decide⟩, a'.2.2.2.1, a'.2.2.2.2.1, ⟨by decide, by decide⟩, a'.2.2.2.2.2.1, a'.2.2.2.2.2.2.1, a'.2.2.2.2.2.2.2.1, b'.1, ⟨by decide, by decide⟩, b'.2.1, b'.2.2.1, ⟨by decide, by decide⟩, b'.2.2.2.1, b'.2.2.2.2.1, ⟨by decide, by decide⟩, b'.2.2.2.2.2.1, b'.2.2.2.2.2.2.1, b'.2.2.2.2.2.2.2.1, hk k2, (show InR (k + 1) from inR (by omega) (by omega))⟩
  · show polyI (n + 16) (bif s.1 == 2 then (f53_v2_o (nth s.2.1 0 Z50) l).1 else bif s.1 == 3 then (loopEnd (f31_v1_L8_g (s, nth l (len l - 1) Z50, ((), ()), ())) (f31_v1_L8_next (s, nth l (len l - 1) Z50, ((), ()), ())) (l, 1, ())).1 else bif s.1 == 4 then (loopEnd (f31_v1_L15_g (s, nth l (len l - 1) Z50, ((), ()), ())) (f31_v1_L15_next (s, nth l (len l - 1) Z50, ((), ()), ())) (l, 1, ())).1 else l)
    cases (s.1 == 2)
    · cases (s.1 == 3)
      · cases (s.1 == 4)
        · exact polyI_mono h (by omega)
        · exact polyI_mono hc.1 (by omega)
      · exact polyI_mono hq.1 (by omega)
    · exact polyI_mono hli.2 (by omega)
end Go.Proofs.YtdgfchmfajmkiaaDoor.Am
