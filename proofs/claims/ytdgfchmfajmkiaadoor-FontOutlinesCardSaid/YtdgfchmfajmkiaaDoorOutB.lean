/- Font: font.Outline, loop by loop. No condition. -/
import Derived.Test.YtdgfchmfajmkiaaDoorOutH
namespace Go.Proofs.YtdgfchmfajmkiaaDoor.Am
open Go Go.Am
def placeP (z : Int) (p : D24) (n : Int) (g q : D50) : D50 := (f13 ((g.2.1 + q.1) * z) p.1, f13 ((p.2.1 + n * p.2.2.1 - q.2.1) * z) p.1, ())
def placeS (z : Int) (p : D24) (n : Int) (g : D50) (poly : List D50) (a : List D50) (i : Int) : List D50 := List.set a (Int.toNat i) (placeP z p n g (nth poly i Z50))
def placed (z : Int) (p : D24) (n : Int) (g : D50) (poly : List D50) : List D50 := foldI (placeS z p n g poly) (len poly).toNat (List.replicate (Int.toNat (len poly)) Z50)
theorem placeS_len (z : Int) (p : D24) (n : Int) (g : D50) (poly a : List D50) (k : Nat) : (foldI (placeS z p n g poly) k a).length = a.length := by
  induction k with
  | zero => rfl
  | succ k ih => rw [foldI]; unfold placeS; rw [List.length_set]; exact ih
theorem placed_len (z : Int) (p : D24) (n : Int) (g : D50) (poly : List D50) : len (placed z p n g poly) = len poly := by
  unfold placed len
  rw [placeS_len, List.length_replicate]
  omega
abbrev Y25 := Int × D24 × D65 × (List (List D50)) × Int × Int × D50 × (List (List UInt8)) × Int × Int × (List D50) × Int × Int × (List (List D50)) × Int × Int × (List D50) × Int × Unit
def y25 (z : Int) (p : D24) (a11 : D65) (a12 : List (List D50)) (v83 n : Int) (g : D50) (a41 : List (List UInt8)) (a42 a43 : Int) (a54 : List D50) (a55 a56 : Int) (a74 : List (List D50)) (a75 a76 : Int) (poly : List D50) : Y25 := (z, p, a11, a12, v83, n, g, a41, a42, a43, a54, a55, a56, a74, a75, a76, poly, len poly, ())
section
variable {z : Int} {p : D24} {a11 : D65} {a12 : List (List D50)} {v83 n : Int} {g : D50} {a41 : List (List UInt8)} {a42 a43 : Int} {a54 : List D50} {a55 a56 : Int} {a74 : List (List D50)} {a75 a76 : Int} {poly : List D50}
theorem placed_eq (hl : len poly < 9223372036854775808) : (loopEnd (f4_L25_g (y25 z p a11 a12 v83 n g a41 a42 a43 a54 a55 a56 a74 a75 a76 poly)) (f4_L25_next (y25 z p a11 a12 v83 n g a41 a42 a43 a54 a55 a56 a74 a75 a76 poly)) (List.replicate (Int.toNat (len poly)) Z50, 0, ())).1 = placed z p n g poly := by
  rw [fold_loop (g := f4_L25_g (y25 z p a11 a12 v83 n g a41 a42 a43 a54 a55 a56 a74 a75 a76 poly)) (next := f4_L25_next (y25 z p a11 a12 v83 n g a41 a42 a43 a54 a55 a56 a74 a75 a76 poly)) (n := len poly) (step := placeS z p n g poly) (len_nonneg _) hl (fun _ => rfl) (fun _ => rfl)]
  rfl
structure Spot (z : Int) (p : D24) (n : Int) (g : D50) : Prop where
  size : 0 ≤ z ∧ z ≤ 1048576
  em : 1 ≤ p.1 ∧ p.1 ≤ 65536
  asc : 0 ≤ p.2.1 ∧ p.2.1 ≤ 65536
  line : 0 ≤ p.2.2.1 ∧ p.2.2.1 ≤ 65536
  num : 0 ≤ n ∧ n ≤ 1000
  pen : -17000000 ≤ g.2.1 ∧ g.2.1 ≤ 17000000
theorem placed_ends (hS : Spot z p n g) (hp : polyI 4000 poly) : Am.Ends (f4_L25_g (y25 z p a11 a12 v83 n g a41 a42 a43 a54 a55 a56 a74 a75 a76 poly)) (f4_L25_next (y25 z p a11 a12 v83 n g a41 a42 a43 a54 a55 a56 a74 a75 a76 poly)) (f4_L25_ok (y25 z p a11 a12 v83 n g a41 a42 a43 a54 a55 a56 a74 a75 a76 poly)) (List.replicate (Int.toNat (len poly)) Z50, 0, ()) := by
  have hl := hp.2.1
  refine fold_ends (n := len poly) (step := placeS z p n g poly) (len_nonneg _) (by omega) (fun _ => rfl) (fun _ => rfl) _ (fun i i1 i2 => ?_)
  have hlen : len (foldI (placeS z p n g poly) i.toNat (List.replicate (Int.toNat (len poly)) Z50)) = len poly := by
    unfold len
    rw [placeS_len, List.length_replicate]
    omega
  generalize foldI (placeS z p n g poly) i.toNat (List.replicate (Int.toNat (len poly)) Z50) = a at hlen
  intro hv
  have hv : i < len poly := of_decide_eq_true hv
  obtain ⟨q1, q2, q3, q4⟩ := nth_near hp.2.2 i
  obtain ⟨s1, s2, s3, s4, s5, s6⟩ := hS
  have m1 := mul_range (a := g.2.1 + (nth poly i Z50).1) (b := z) (A := 40000000) (B := 1048576) ⟨by omega, by omega⟩ s1
  have m2 := mul_range (a := n) (b := p.2.2.1) (A := 1000) (B := 65536) ⟨by omega, by omega⟩ s4
  have m3 := mul_range (a := p.2.1 + n * p.2.2.1 - (nth poly i Z50).2.1) (b := z) (A := 100000000) (B := 1048576) ⟨by omega, by omega⟩ s1
  have r1 := (round_eq (a := (g.2.1 + (nth poly i Z50).1) * z) s2 ⟨by omega, by omega⟩).2.1
  have r2 := (round_eq (a := (p.2.1 + n * p.2.2.1 - (nth poly i Z50).2.1) * z) s2 ⟨by omega, by omega⟩).2.1
  exact ⟨⟨i1, hv⟩, (show InR (g.2.1 + (nth poly i Z50).1) from inR (by omega) (by omega)), (show InR ((g.2.1 + (nth poly i Z50).1) * z) from inR (by omega) (by omega)), r1, (show InR (n * p.2.2.1) from inR (by omega) (by omega)), (show InR (p.2.1 + n * p.2.2.1) from inR (by omega) (by omega)), (show InR (p.2.1 + n * p.2.2.1 - (nth poly i Z50).2.1) from inR (by omega) (by omega)), (show InR ((p.2.1 + n * p.2.2.1 - (nth poly i Z50).2.1) * z) from inR (by omega) (by omega)), r2, ⟨i1, (show i < len a by omega)⟩, (show i < len a by omega), (show InR (i + 1) from inR (by omega) (by omega))⟩
end
abbrev S2 := List (List D50) × Int
def st18 (z : Int) (p : D24) (n : Int) (g : D50) (_ : Nat) (s : S2) (poly : List D50) : Option S2 := bif decide (s.2 + len poly > 4096) then none else some (s.1 ++ [placed z p n g poly], s.2 + len poly)
def outI (s : S2) : Prop := len s.1 ≤ s.2 ∧ s.2 ≤ 4096 ∧ ∀ q ∈ s.1, len q ≤ 4096
theorem st18_inv {z : Int} {p : D24} {n : Int} {g : D50} {j : Nat} {s s' : S2} {poly : List D50} (h : outI s) (hp : polyI 4000 poly) (hs : st18 z p n g j s poly = some s') : outI s' := by
  unfold st18 at hs
  cases hd : decide (s.2 + len poly > 4096) with
  | true => rw [hd] at hs; cases hs
  | false =>
    rw [hd] at hs
    have hd := of_decide_eq_false hd
    simp only [cond_false, Option.some.injEq] at hs
    subst hs
    have hl : 1 ≤ len poly := by
      cases hq : poly with
      | nil => exact absurd hq hp.1
      | cons a b => unfold len; simp only [List.length_cons]; omega
    obtain ⟨h1, h2, h3⟩ := h
    refine ⟨?_, by omega, fun q hq => ?_⟩
    · unfold len at *
      simp only [List.length_append, List.length_cons, List.length_nil]
      omega
    · rcases List.mem_append.1 hq with hq | hq
      · exact h3 q hq
      · rw [List.mem_singleton.1 hq, placed_len]
        have := hp.2.1
        omega
abbrev Y18 := Int × D24 × D65 × Int × D50 × (List (List UInt8)) × Int × Int × (List D50) × Int × Int × (List (List D50)) × Int × Unit
def y18o (z : Int) (p : D24) (a11 : D65) (n : Int) (g : D50) (a41 : List (List UInt8)) (a42 a43 : Int) (a54 : List D50) (a55 a56 : Int) (F : List (List D50)) : Y18 := (z, p, a11, n, g, a41, a42, a43, a54, a55, a56, F, len F, ())
section
variable {z : Int} {p : D24} {a11 : D65} {n : Int} {g : D50} {a41 : List (List UInt8)} {a42 a43 : Int} {a54 : List D50} {a55 a56 : Int} {F : List (List D50)}
theorem stops18 (hF : ∀ q ∈ F, polyI 4000 q) (hl : len F ≤ 128) : Stops (f4_L18_g (y18o z p a11 n g a41 a42 a43 a54 a55 a56 F)) (f4_L18_next (y18o z p a11 n g a41 a42 a43 a54 a55 a56 F)) F [] (st18 z p n g) :=
  ⟨by unfold len at hl; omega,
    (fun x hx => by
      have hx : (decide (x.2.2.1 < len F) && !decide (x.2.1 + len (nth F x.2.2.1 []) > 4096)) = true := hx
      rw [Bool.and_eq_true] at hx
      exact of_decide_eq_true hx.1),
    (fun a b j s hj hs => by
      unfold st18 at hs
      have hpl : len (nth F (j : Int) []) ≤ 4000 := (hF _ (nth_in hj)).2.1
      cases hd : decide (b + len (nth F (j : Int) []) > 4096) with
      | true => rw [show decide ((a, b).2 + len (nth F (j : Int) []) > 4096) = true from hd] at hs; cases hs
      | false =>
        rw [show decide ((a, b).2 + len (nth F (j : Int) []) > 4096) = false from hd] at hs
        simp only [cond_false, Option.some.injEq] at hs
        subst hs
        have hjl : decide ((j : Int) < len F) = true := decide_eq_true (by unfold len; omega)
        refine ⟨?_, ?_⟩
        · show (decide ((j : Int) < len F) && !decide (b + len (nth F (j : Int) []) > 4096)) = true
          rw [hjl, hd]; rfl
        · have e := placed_eq (z := z) (p := p) (a11 := a11) (a12 := a) (v83 := b + len (nth F (j : Int) [])) (n := n) (g := g) (a41 := a41) (a42 := a42) (a43 := a43) (a54 := a54) (a55 := a55) (a56 := a56) (a74 := F) (a75 := len F) (a76 := (j : Int)) (poly := nth F (j : Int) []) (by omega)
          show _ = (a ++ [placed z p n g (nth F (j : Int) [])], b + len (nth F (j : Int) []), (j : Int) + 1, ())
          rw [← e]
          rfl),
    (fun a b j hj hs => by
      unfold st18 at hs
      cases hd : decide (b + len (nth F (j : Int) []) > 4096) with
      | true =>
        show (decide ((j : Int) < len F) && !decide (b + len (nth F (j : Int) []) > 4096)) = false
        rw [hd]; simp
      | false => rw [show decide ((a, b).2 + len (nth F (j : Int) []) > 4096) = false from hd] at hs; cases hs)⟩
theorem ends18 (hS : Spot z p n g) (hF : ∀ q ∈ F, polyI 4000 q) (hl : len F ≤ 128) {a : List (List D50)} {b : Int} (h0 : outI (a, b)) : Am.Ends (f4_L18_g (y18o z p a11 n g a41 a42 a43 a54 a55 a56 F)) (f4_L18_next (y18o z p a11 n g a41 a42 a43 a54 a55 a56 F)) (f4_L18_ok (y18o z p a11 n g a41 a42 a43 a54 a55 a56 F)) (a, b, 0, ()) := by
  refine (stops18 hF hl).ends outI (fun j s e s' _ hs he h => st18_inv hs (hF e he) h) h0 fun a b j hj h => ?_
  intro hv
  have hv : (j : Int) < len F := of_decide_eq_true hv
  have hj' : j < F.length := by unfold len at hv; omega
  have hp := hF _ (nth_in (d := []) hj')
  obtain ⟨h1, h2, h3⟩ := h
  simp only at h1 h2
  have hpl := hp.2.1
  have hpn := len_nonneg (nth F (j : Int) [])
  have hla : len a = (a.length : Int) := rfl
  have hb0 := len_nonneg a
  refine ⟨⟨(show (0 : Int) ≤ (j : Int) by omega), hv⟩, (show InR (b + len (nth F (j : Int) [])) from inR (by omega) (by omega)), fun _ => ⟨⟨(show 0 ≤ len (nth F (j : Int) []) from hpn), Int.le_refl _, (show len (nth F (j : Int) []) ≤ 4294967296 by omega)⟩, placed_ends hS hp, ?_⟩, fun _ => (show InR ((j : Int) + 1) from inR (by omega) (by omega))⟩
  show ((a.length + 1 : Nat) : Int) ≤ 4294967296
  omega
end
end Go.Proofs.YtdgfchmfajmkiaaDoor.Am
