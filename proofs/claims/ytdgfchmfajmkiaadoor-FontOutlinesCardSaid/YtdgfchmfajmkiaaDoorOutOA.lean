/- Font: the reference's curves are the program's: adding points, bending, in the order of both. No condition. -/
import Derived.Test.YtdgfchmfajmkiaaDoorOutG
namespace Go.Proofs.YtdgfchmfajmkiaaDoor.Am
open Go Go.Am
theorem eqb_iff {a b : D50} : Ty.eqb T50 a b = true ↔ a = b := by
  show ((a.1 == b.1) && ((a.2.1 == b.2.1) && true)) = true ↔ a = b
  obtain ⟨a1, a2, _⟩ := a
  obtain ⟨b1, b2, _⟩ := b
  simp
theorem eqb_comm (a b : D50) : Ty.eqb T50 a b = Ty.eqb T50 b a := by
  cases h : Ty.eqb T50 b a with
  | true => rw [eqb_iff.1 h]; exact eqb_iff.2 rfl
  | false =>
    cases h2 : Ty.eqb T50 a b with
    | false => rfl
    | true => rw [eqb_iff.1 h2] at h; rw [eqb_iff.2 rfl] at h; cases h
def addP (l : List D50) (q : D50) : List D50 := bif Ty.eqb T50 q (nth l (len l - 1) Z50) then l else l ++ [q]
def addN (pt : Int → D50) : Nat → List D50 → List D50
  | 0, l => l
  | k + 1, l => addP (addN pt k l) (pt ((k : Int) + 1))
theorem len_pos {α : Type} {l : List α} (h : l ≠ []) : 1 ≤ len l := by
  cases l with
  | nil => exact absurd rfl h
  | cons a b => unfold len; simp only [List.length_cons]; omega
theorem nth_end {α : Type} {l : List α} {q d : α} : nth (l ++ [q]) (len (l ++ [q]) - 1) d = q := by
  have e : (len (l ++ [q]) - 1).toNat = l.length := by unfold len; simp only [List.length_append, List.length_cons, List.length_nil]; omega
  unfold nth
  rw [e, List.getD_eq_getElem?_getD]
  simp
theorem f53_add (l : List D50) (q : D50) : (f53_v2_o q l).1 = addP l q := by
  show (bif !(Ty.eqb T50 q (nth l (len l - 1) Z50)) then l ++ [q] else l) = addP l q
  unfold addP
  cases Ty.eqb T50 q (nth l (len l - 1) Z50) <;> rfl
theorem f57_add {l : List D50} (h : l ≠ []) (q : D50) : f57_v1 l q = addP l q := by
  have hl := len_pos h
  show (bif (bif decide (len l > 0) then Ty.eqb T50 (nth l (len l - 1) Z50) q else false) then l else l ++ [q]) = addP l q
  have hd : decide (len l > 0) = true := by simp; omega
  rw [hd, cond_true, eqb_comm]
  rfl
theorem f57_all {l : List D50} (h : len l ≤ 200000) (q : D50) : f57_v1_ok l q := by
  have h0 := len_nonneg l
  have hll : len l = (l.length : Int) := rfl
  refine ⟨fun _ => (show InR (len l - 1) from inR (by omega) (by omega)), fun g => ?_, fun _ => (show len l - 1 < len l by omega), fun _ => ?_⟩
  · have g : len l > 0 := of_decide_eq_true g
    exact ⟨(show 0 ≤ len l - 1 by omega), (show len l - 1 < len l by omega)⟩
  · show ((l.length + 1 : Nat) : Int) ≤ 4294967296
    omega
theorem add_last {l : List D50} (q : D50) : nth (addP l q) (len (addP l q) - 1) Z50 = q := by
  unfold addP
  cases h : Ty.eqb T50 q (nth l (len l - 1) Z50) with
  | true => simp only [cond_true]; exact (eqb_iff.1 h).symm
  | false => simp only [cond_false]; exact nth_end
theorem add_poly {n : Int} {l : List D50} {q : D50} (h : polyI n l) (hn : n ≤ 100000) (hq : nearP q) : polyI (n + 1) (addP l q) := by
  rw [← f53_add]; exact (f53_all h hn hq).2
theorem pts_loop {g : List D50 × Int × Unit → Bool} {next : List D50 × Int × Unit → List D50 × Int × Unit} {K : Int} {pt : Int → D50} {f : List D50 → Int → List D50} (hK : 0 ≤ K ∧ K ≤ 100) (hg : ∀ x, g x = decide (x.2.1 ≤ K)) (hx : ∀ x, next x = (f x.1 x.2.1, x.2.1 + 1, ()))
    (hf : ∀ a k, a ≠ [] → 1 ≤ k → k ≤ K → f a k = addP a (pt k)) (hn : ∀ k, 1 ≤ k → k ≤ K → nearP (pt k)) {n : Int} (hn9 : n ≤ 90000) {l : List D50} (h : polyI n l) :
    (loopEnd g next (l, 1, ())).1 = addN pt K.toNat l ∧ ∀ ok : List D50 × Int × Unit → Prop, (∀ a k, 1 ≤ k → polyI 100000 a → ok (a, k, ())) → Am.Ends g next ok (l, 1, ()) := by
  have hstep : ∀ x : List D50 × Int × Unit, (1 ≤ x.2.1 ∧ x.2.1 ≤ K + 1 ∧ polyI (n + x.2.1 - 1) x.1 ∧ x.1 = addN pt (x.2.1 - 1).toNat l) → g x = true → (1 ≤ (next x).2.1 ∧ (next x).2.1 ≤ K + 1 ∧ polyI (n + (next x).2.1 - 1) (next x).1 ∧ (next x).1 = addN pt ((next x).2.1 - 1).toNat l) ∧ (K + 1 - (next x).2.1).toNat < (K + 1 - x.2.1).toNat := by
    intro x hi hgx
    rw [hg] at hgx
    have hgx := of_decide_eq_true hgx
    rw [hx, hf _ _ hi.2.2.1.1 hi.1 hgx]
    have := add_poly (q := pt x.2.1) hi.2.2.1 (by omega) (hn _ hi.1 hgx)
    refine ⟨⟨by simp only; omega, by simp only; omega, polyI_mono this (by simp only; omega), ?_⟩, by simp only; omega⟩
    show addP x.1 (pt x.2.1) = addN pt (x.2.1 + 1 - 1).toNat l
    have e : (x.2.1 + 1 - 1).toNat = (x.2.1 - 1).toNat + 1 := by omega
    have e2 : (((x.2.1 - 1).toNat : Nat) : Int) + 1 = x.2.1 := by omega
    rw [e, addN, e2, ← hi.2.2.2]
  have h0 : 1 ≤ ((l, 1, ()) : List D50 × Int × Unit).2.1 ∧ ((l, 1, ()) : List D50 × Int × Unit).2.1 ≤ K + 1 ∧ polyI (n + ((l, 1, ()) : List D50 × Int × Unit).2.1 - 1) ((l, 1, ()) : List D50 × Int × Unit).1 ∧ ((l, 1, ()) : List D50 × Int × Unit).1 = addN pt (((l, 1, ()) : List D50 × Int × Unit).2.1 - 1).toNat l := ⟨by simp, by simp only; omega, polyI_mono h (by simp only; omega), rfl⟩
  refine ⟨?_, fun ok hok => ?_⟩
  · obtain ⟨⟨q1, q2, q3, q4⟩, q5⟩ := loop_ind (g := g) (next := next) _ (fun x => (K + 1 - x.2.1).toNat) hstep h0 (by simp only [fuel]; omega)
    rw [hg] at q5
    have q5 := of_decide_eq_false q5
    rw [q4]
    congr 1
    omega
  · refine ends_ind _ (fun x => (K + 1 - x.2.1).toNat) (fun x hi => ?_) hstep h0 (by simp only [fuel]; omega)
    exact hok x.1 x.2.1 hi.1 (polyI_mono hi.2.2.1 (by omega))
theorem quad_eq {k x y z : Int} (h1 : 1 ≤ k) (h2 : k ≤ 8) (hx : -16777216 ≤ x ∧ x ≤ 16777216) (hy : -16777216 ≤ y ∧ y ≤ 16777216) (hz : -16777216 ≤ z ∧ z ≤ 16777216) :
    f58 x y z k = f13 ((8 - k) * (8 - k) * x + 2 * k * (8 - k) * y + k * k * z) 64 ∧ f58_ok x y z k := by
  obtain ⟨a1, a2, a3, a4⟩ := w8 h1 h2
  have b1 := wt a1 hx
  have b2 := wt a2 hy
  have b3 := wt a3 hz
  obtain ⟨i1, i2, i3, i4, i5, _⟩ := quad_in h1 h2 hx hy hz
  have r := round_eq (a := (8 - k) * (8 - k) * x + 2 * k * (8 - k) * y + k * k * z) (b := 64) ⟨by omega, by omega⟩ ⟨by omega, by omega⟩
  refine ⟨r.1.symm, (show InR (8 - k) from inR (by omega) (by omega)), (show InR (8 - k) from inR (by omega) (by omega)), (show InR ((8 - k) * (8 - k)) from inR (by omega) (by omega)), i1, (show InR (2 * k) from inR (by omega) (by omega)), (show InR (8 - k) from inR (by omega) (by omega)), (show InR (2 * k * (8 - k)) from inR (by omega) (by omega)), i2, i3, (show InR (k * k) from inR (by omega) (by omega)), i4, i5, r.2.2⟩
theorem cubic_eq {k x y z u : Int} (h1 : 1 ≤ k) (h2 : k ≤ 16) (hx : -16777216 ≤ x ∧ x ≤ 16777216) (hy : -16777216 ≤ y ∧ y ≤ 16777216) (hz : -16777216 ≤ z ∧ z ≤ 16777216) (hu : -16777216 ≤ u ∧ u ≤ 16777216) :
    f59 x y z u k = f13 ((16 - k) * (16 - k) * (16 - k) * x + 3 * k * (16 - k) * (16 - k) * y + 3 * k * k * (16 - k) * z + k * k * k * u) 4096 ∧ f59_ok x y z u k := by
  obtain ⟨a1, a2, a3, a4, a5, w6, w7, w8, w9⟩ := w16 h1 h2
  have b1 := wt a1 hx
  have b2 := wt a2 hy
  have b3 := wt a3 hz
  have b4 := wt a4 hu
  obtain ⟨i1, i2, i3, i4, i5, i6, i7, _⟩ := cubic_in h1 h2 hx hy hz hu
  have r := round_eq (a := (16 - k) * (16 - k) * (16 - k) * x + 3 * k * (16 - k) * (16 - k) * y + 3 * k * k * (16 - k) * z + k * k * k * u) (b := 4096) ⟨by omega, by omega⟩ ⟨by omega, by omega⟩
  refine ⟨r.1.symm, (show InR (16 - k) from inR (by omega) (by omega)), (show InR ((16 - k) * (16 - k)) from inR (by omega) (by omega)), (show InR ((16 - k) * (16 - k) * (16 - k)) from inR (by omega) (by omega)), i1, (show InR (3 * k) from inR (by omega) (by omega)), (show InR (3 * k * (16 - k)) from inR (by omega) (by omega)), (show InR (3 * k * (16 - k) * (16 - k)) from inR (by omega) (by omega)), i2, i3, (show InR (3 * k) from inR (by omega) (by omega)), (show InR (3 * k * k) from inR (by omega) (by omega)), (show InR (3 * k * k * (16 - k)) from inR (by omega) (by omega)), i4, i5, (show InR (k * k) from inR (by omega) (by omega)), (show InR (k * k * k) from inR (by omega) (by omega)), i6, i7, r.2.2⟩
theorem round_mul {b c : Int} (hb : 1 ≤ b ∧ b ≤ 65536) (hc : -16777216 ≤ c ∧ c ≤ 16777216) : f13 (b * c) b = c := by
  have hm := mul_range (a := c) (b := b) (A := 16777216) (B := 65536) hc ⟨by omega, by omega⟩
  rw [Int.mul_comm c b] at hm
  obtain ⟨q, r, e1, _, e3, r1, r2, _⟩ := floor_eq (a := b * c) (b := b) (by omega) ⟨by omega, by omega⟩
  have hb0 : (b == 0) = false := by simp; omega
  have hb1 : (b == -1) = false := by simp; omega
  have hbp : decide (b > 0) = true := by simp; omega
  have hbn : decide (b < 0) = false := by simp; omega
  have hq : q = c := by
    have h : b * (c - q) = r := by rw [Int.mul_sub]; omega
    by_cases e : c = q
    · exact e.symm
    · exfalso
      have : 1 ≤ c - q ∨ c - q ≤ -1 := by omega
      rcases this with h' | h'
      · have := Int.mul_nonneg (a := b) (b := c - q - 1) (by omega) (by omega)
        rw [Int.mul_sub, Int.mul_one] at this
        omega
      · have := Int.mul_nonneg (a := b) (b := -1 - (c - q)) (by omega) (by omega)
        rw [Int.mul_sub, Int.mul_neg, Int.mul_one] at this
        omega
  subst hq
  have er : b * q - b * q = r := by omega
  have hr : r = 0 := by omega
  subst hr
  have hlt : decide ((0 : Int) ≥ b - 0) = false := by simp; omega
  have h0 : b * q - b * q = 0 := by omega
  simp only [f13, f13t, hb0, hb1, e1, h0, hbp, hbn, hlt]
  cases (b * q == -9223372036854775808) <;> rfl
theorem ptQ_end {s : D74} {p : D50} (h : nearP (nth s.2.1 1 Z50)) : ptQ s p 8 = nth s.2.1 1 Z50 := by
  have e1 := round_mul (b := 64) (c := (nth s.2.1 1 Z50).1) ⟨by omega, by omega⟩ ⟨h.1, h.2.1⟩
  have e2 := round_mul (b := 64) (c := (nth s.2.1 1 Z50).2.1) ⟨by omega, by omega⟩ h.2.2
  unfold ptQ
  generalize nth s.2.1 1 Z50 = q at e1 e2 ⊢
  generalize nth s.2.1 0 Z50 = q0
  obtain ⟨a, b, _⟩ := q
  simp only at e1 e2
  have k1 : (8 - 8 : Int) * (8 - 8) * p.1 + 2 * 8 * (8 - 8) * q0.1 + 8 * 8 * a = 64 * a := by omega
  have k2 : (8 - 8 : Int) * (8 - 8) * p.2.1 + 2 * 8 * (8 - 8) * q0.2.1 + 8 * 8 * b = 64 * b := by omega
  simp only
  rw [k1, k2, e1, e2]
theorem ptC_end {s : D74} {p : D50} (h : nearP (nth s.2.1 2 Z50)) : ptC s p 16 = nth s.2.1 2 Z50 := by
  have e1 := round_mul (b := 4096) (c := (nth s.2.1 2 Z50).1) ⟨by omega, by omega⟩ ⟨h.1, h.2.1⟩
  have e2 := round_mul (b := 4096) (c := (nth s.2.1 2 Z50).2.1) ⟨by omega, by omega⟩ h.2.2
  unfold ptC
  generalize nth s.2.1 2 Z50 = q at e1 e2 ⊢
  generalize nth s.2.1 0 Z50 = q0
  generalize nth s.2.1 1 Z50 = q1
  obtain ⟨a, b, _⟩ := q
  simp only at e1 e2
  have k1 : (16 - 16 : Int) * (16 - 16) * (16 - 16) * p.1 + 3 * 16 * (16 - 16) * (16 - 16) * q0.1 + 3 * 16 * 16 * (16 - 16) * q1.1 + 16 * 16 * 16 * a = 4096 * a := by omega
  have k2 : (16 - 16 : Int) * (16 - 16) * (16 - 16) * p.2.1 + 3 * 16 * (16 - 16) * (16 - 16) * q0.2.1 + 3 * 16 * 16 * (16 - 16) * q1.2.1 + 16 * 16 * 16 * b = 4096 * b := by omega
  simp only
  rw [k1, k2, e1, e2]
theorem addN_last {pt : Int → D50} {l : List D50} (k : Nat) : nth (addN pt (k + 1) l) (len (addN pt (k + 1) l) - 1) Z50 = pt ((k : Int) + 1) := add_last _
theorem bend_eq {n : Int} {l : List D50} {s : D74} (h : polyI n l) (hn : n ≤ 80000) (hs : ∀ k, 0 ≤ k → k < 3 → nearP (nth s.2.1 k Z50)) (hk : 2 ≤ s.1 ∧ s.1 ≤ 5) :
    f39_v1 l (nth l (len l - 1) Z50) s = f31_v1 l s ∧ f39_v1_ok l (nth l (len l - 1) Z50) s ∧ nth (f31_v1 l s) (len (f31_v1 l s) - 1) Z50 = bif decide (f40 s.1 > 0) then nth s.2.1 (f40 s.1 - 1) Z50 else nth l (len l - 1) Z50 := by
  have hp : nearP (nth l (len l - 1) Z50) := nth_near h.2.2 _
  have s0 := hs 0 (by omega) (by omega)
  have s1 := hs 1 (by omega) (by omega)
  have s2 := hs 2 (by omega) (by omega)
  have hl := len_pos h.1
  have hl2 := h.2.1
  have e31 : f31_v1 l s = bif s.1 == 2 then (f53_v2_o (nth s.2.1 0 Z50) l).1 else bif s.1 == 3 then (loopEnd (f31_v1_L8_g (s, nth l (len l - 1) Z50, ((), ()), ())) (f31_v1_L8_next (s, nth l (len l - 1) Z50, ((), ()), ())) (l, 1, ())).1 else bif s.1 == 4 then (loopEnd (f31_v1_L15_g (s, nth l (len l - 1) Z50, ((), ()), ())) (f31_v1_L15_next (s, nth l (len l - 1) Z50, ((), ()), ())) (l, 1, ())).1 else l := rfl
  rw [e31]
  clear e31
  have hlast : nth l (len l - 1) Z50 = nth l (len l - 1) Z50 := rfl
  generalize hpe : nth l (len l - 1) Z50 = p at hp ⊢
  clear hlast
  have nq : ∀ k, 1 ≤ k → k ≤ 8 → nearP (ptQ s p k) := fun k k1 k2 => by
    have a := quad_in k1 k2 (x := p.1) (y := (nth s.2.1 0 Z50).1) (z := (nth s.2.1 1 Z50).1) ⟨hp.1, hp.2.1⟩ ⟨s0.1, s0.2.1⟩ ⟨s1.1, s1.2.1⟩
    have b := quad_in k1 k2 (x := p.2.1) (y := (nth s.2.1 0 Z50).2.1) (z := (nth s.2.1 1 Z50).2.1) hp.2.2 s0.2.2 s1.2.2
    exact ⟨a.2.2.2.2.2.2.1, a.2.2.2.2.2.2.2, b.2.2.2.2.2.2.1, b.2.2.2.2.2.2.2⟩
  have nc : ∀ k, 1 ≤ k → k ≤ 16 → nearP (ptC s p k) := fun k k1 k2 => by
    have a := cubic_in k1 k2 (x := p.1) (y := (nth s.2.1 0 Z50).1) (z := (nth s.2.1 1 Z50).1) (u := (nth s.2.1 2 Z50).1) ⟨hp.1, hp.2.1⟩ ⟨s0.1, s0.2.1⟩ ⟨s1.1, s1.2.1⟩ ⟨s2.1, s2.2.1⟩
    have b := cubic_in k1 k2 (x := p.2.1) (y := (nth s.2.1 0 Z50).2.1) (z := (nth s.2.1 1 Z50).2.1) (u := (nth s.2.1 2 Z50).2.1) hp.2.2 s0.2.2 s1.2.2 s2.2.2
    exact ⟨a.2.2.2.2.2.2.2.2.1, a.2.2.2.2.2.2.2.2.2, b.2.2.2.2.2.2.2.2.1, b.2.2.2.2.2.2.2.2.2⟩
  have kq : ∀ k, 1 ≤ k → k ≤ 8 → ((f58 p.1 (nth s.2.1 0 Z50).1 (nth s.2.1 1 Z50).1 k, f58 p.2.1 (nth s.2.1 0 Z50).2.1 (nth s.2.1 1 Z50).2.1 k, ()) : D50) = ptQ s p k ∧ f58_ok p.1 (nth s.2.1 0 Z50).1 (nth s.2.1 1 Z50).1 k ∧ f58_ok p.2.1 (nth s.2.1 0 Z50).2.1 (nth s.2.1 1 Z50).2.1 k := fun k k1 k2 => by
    have a := quad_eq k1 k2 (x := p.1) (y := (nth s.2.1 0 Z50).1) (z := (nth s.2.1 1 Z50).1) ⟨hp.1, hp.2.1⟩ ⟨s0.1, s0.2.1⟩ ⟨s1.1, s1.2.1⟩
    have b := quad_eq k1 k2 (x := p.2.1) (y := (nth s.2.1 0 Z50).2.1) (z := (nth s.2.1 1 Z50).2.1) hp.2.2 s0.2.2 s1.2.2
    exact ⟨by rw [a.1, b.1]; rfl, a.2, b.2⟩
  have kc : ∀ k, 1 ≤ k → k ≤ 16 → ((f59 p.1 (nth s.2.1 0 Z50).1 (nth s.2.1 1 Z50).1 (nth s.2.1 2 Z50).1 k, f59 p.2.1 (nth s.2.1 0 Z50).2.1 (nth s.2.1 1 Z50).2.1 (nth s.2.1 2 Z50).2.1 k, ()) : D50) = ptC s p k ∧ f59_ok p.1 (nth s.2.1 0 Z50).1 (nth s.2.1 1 Z50).1 (nth s.2.1 2 Z50).1 k ∧ f59_ok p.2.1 (nth s.2.1 0 Z50).2.1 (nth s.2.1 1 Z50).2.1 (nth s.2.1 2 Z50).2.1 k := fun k k1 k2 => by
    have a := cubic_eq k1 k2 (x := p.1) (y := (nth s.2.1 0 Z50).1) (z := (nth s.2.1 1 Z50).1) (u := (nth s.2.1 2 Z50).1) ⟨hp.1, hp.2.1⟩ ⟨s0.1, s0.2.1⟩ ⟨s1.1, s1.2.1⟩ ⟨s2.1, s2.2.1⟩
    have b := cubic_eq k1 k2 (x := p.2.1) (y := (nth s.2.1 0 Z50).2.1) (z := (nth s.2.1 1 Z50).2.1) (u := (nth s.2.1 2 Z50).2.1) hp.2.2 s0.2.2 s1.2.2 s2.2.2
    exact ⟨by rw [a.1, b.1]; rfl, a.2, b.2⟩
  have q1 := pts_loop (g := f31_v1_L8_g (s, p, ((), ()), ())) (next := f31_v1_L8_next (s, p, ((), ()), ())) (K := 8) (pt := ptQ s p) (f := fun a k => (f53_v2_o (ptQ s p k) a).1) ⟨by omega, by omega⟩ (fun _ => rfl) (fun _ => rfl) (fun a k _ _ _ => f53_add a _) nq (by omega) h
  have q2 := pts_loop (g := f39_v1_L7_g (p, s, ())) (next := f39_v1_L7_next (p, s, ())) (K := 8) (pt := ptQ s p) (f := fun a k => f57_v1 a (f58 p.1 (nth s.2.1 0 Z50).1 (nth s.2.1 1 Z50).1 k, f58 p.2.1 (nth s.2.1 0 Z50).2.1 (nth s.2.1 1 Z50).2.1 k, ())) ⟨by omega, by omega⟩ (fun _ => rfl) (fun _ => rfl) (fun a k ha k1 k2 => by rw [(kq k k1 k2).1, f57_add ha]) nq (by omega) h
  have c1 := pts_loop (g := f31_v1_L15_g (s, p, ((), ()), ())) (next := f31_v1_L15_next (s, p, ((), ()), ())) (K := 16) (pt := ptC s p) (f := fun a k => (f53_v2_o (ptC s p k) a).1) ⟨by omega, by omega⟩ (fun _ => rfl) (fun _ => rfl) (fun a k _ _ _ => f53_add a _) nc (by omega) h
  have c2 := pts_loop (g := f39_v1_L12_g (p, s, ())) (next := f39_v1_L12_next (p, s, ())) (K := 16) (pt := ptC s p) (f := fun a k => f57_v1 a (f59 p.1 (nth s.2.1 0 Z50).1 (nth s.2.1 1 Z50).1 (nth s.2.1 2 Z50).1 k, f59 p.2.1 (nth s.2.1 0 Z50).2.1 (nth s.2.1 1 Z50).2.1 (nth s.2.1 2 Z50).2.1 k, ())) ⟨by omega, by omega⟩ (fun _ => rfl) (fun _ => rfl) (fun a k ha k1 k2 => by rw [(kc k k1 k2).1, f57_add ha]) nc (by omega) h
  have e39 : f39_v1 l p s = bif (bif s.1 == 1 then s.1 == 1 else s.1 == 2) then f57_v1 l (nth s.2.1 0 Z50) else bif s.1 == 3 then (loopEnd (f39_v1_L7_g (p, s, ())) (f39_v1_L7_next (p, s, ())) (l, 1, ())).1 else bif s.1 == 4 then (loopEnd (f39_v1_L12_g (p, s, ())) (f39_v1_L12_next (p, s, ())) (l, 1, ())).1 else l := rfl
  have hok : f39_v1_ok l p s := by
    refine ⟨fun _ => ⟨⟨by decide, by decide⟩, f57_all (by omega) _⟩, fun _ => ⟨fun _ => ?_, fun _ _ => ?_⟩⟩
    · refine q2.2 _ fun a k k1 ha => ?_
      intro hv
      have k2 : k ≤ 8 := of_decide_eq_true hv
      have e := kq k k1 k2
      exact ⟨⟨by decide, by decide⟩, ⟨by decide, by decide⟩, e.2.1, ⟨by decide, by decide⟩, ⟨by decide, by decide⟩, e.2.2, f57_all (Int.le_trans ha.2.1 (by decide)) _, (show InR (k + 1) from inR (by omega) (by omega))⟩
    · refine c2.2 _ fun a k k1 ha => ?_
      intro hv
      have k2 : k ≤ 16 := of_decide_eq_true hv
      have e := kc k k1 k2
      exact ⟨⟨by decide, by decide⟩, ⟨by decide, by decide⟩, ⟨by decide, by decide⟩, e.2.1, ⟨by decide, by decide⟩, ⟨by decide, by decide⟩, ⟨by decide, by decide⟩, e.2.2, f57_all (Int.le_trans ha.2.1 (by decide)) _, (show InR (k + 1) from inR (by omega) (by omega))⟩
  rw [e39, q1.1, q2.1, c1.1, c2.1, f53_add, f57_add h.1]
  refine ⟨?_, hok, ?_⟩
  all_goals
    have hc : s.1 = 2 ∨ s.1 = 3 ∨ s.1 = 4 ∨ s.1 = 5 := by omega
    rcases hc with e | e | e | e <;> rw [e]
  · rfl
  · rfl
  · rfl
  · rfl
  · exact add_last _
  · exact (addN_last 7).trans (ptQ_end s1)
  · exact (addN_last 15).trans (ptC_end s2)
  · exact hpe
end Go.Proofs.YtdgfchmfajmkiaaDoor.Am
