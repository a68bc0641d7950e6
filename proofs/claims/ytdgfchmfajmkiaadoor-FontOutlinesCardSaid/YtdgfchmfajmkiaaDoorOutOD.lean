/- Font: the reference's outline: its loops, what they ask; the law FontOutlines. No condition. -/
import Derived.Test.YtdgfchmfajmkiaaDoorOutOC
import Derived.Test.YtdgfchmfajmkiaaDoorOutX
namespace Go.Proofs.YtdgfchmfajmkiaaDoor.Am
open Go Go.Am
theorem eqb_self (a : D50) : Ty.eqb T50 a a = true := eqb_iff.2 rfl
theorem in_self (l : List (List D50)) (i : Int) (h1 : 0 ≤ i) (h2 : i < len l) (hq : len (nth l i []) ≤ 4096) : f6_L9_e4 (l, l, i, ()) (loopEnd (f6_L9_g (l, l, i, ())) (f6_L9_next (l, l, i, ())) (0, ())) = true ∧ Am.Ends (f6_L9_g (l, l, i, ())) (f6_L9_next (l, l, i, ())) (f6_L9_ok (l, l, i, ())) (0, ()) := by
  have hg : ∀ x : Int × Unit, f6_L9_g (l, l, i, ()) x = (decide (x.1 < len (nth l i [])) && !(!(Ty.eqb T50 (nth (nth l i []) x.1 Z50) (nth (nth l i []) x.1 Z50)))) := fun _ => rfl
  refine ⟨?_, ?_⟩
  · have h := scan_both (g := f6_L9_g (l, l, i, ())) (next := f6_L9_next (l, l, i, ())) (n := len (nth l i [])) (c := fun k => !(Ty.eqb T50 (nth (nth l i []) k Z50) (nth (nth l i []) k Z50))) (len_nonneg _) (by omega) hg (fun _ => rfl)
    have hz : anyI (len (nth l i [])) (fun k => !(Ty.eqb T50 (nth (nth l i []) k Z50) (nth (nth l i []) k Z50))) = false := by
      unfold anyI
      rw [List.any_eq_false]
      intro k _
      show ¬ (!(Ty.eqb T50 (nth (nth l i []) (k : Int) Z50) (nth (nth l i []) (k : Int) Z50))) = true
      rw [eqb_self]
      simp
    rw [hz] at h
    exact h
  · refine scan_ends (n := len (nth l i [])) (len_nonneg _) (by omega) (fun x hx => ?_) (fun _ => rfl) (fun x k1 k2 => ?_)
    · rw [hg, Bool.and_eq_true] at hx
      exact of_decide_eq_true hx.1
    · refine ⟨⟨h1, h2⟩, fun hv => ?_⟩
      have hv : x.1 < len (nth l i []) := of_decide_eq_true hv
      exact ⟨⟨h1, h2⟩, ⟨k1, hv⟩, ⟨h1, h2⟩, ⟨k1, hv⟩, fun _ => (show InR (x.1 + 1) from inR (by omega) (by omega))⟩
theorem nth_few {l : List (List D50)} (hq : ∀ q ∈ l, len q ≤ 4096) (i : Int) : len (nth l i []) ≤ 4096 := by
  rcases nth_cases l i [] with e | e
  · rw [e]; decide
  · exact hq _ e
theorem polys_self (l : List (List D50)) (hl : len l ≤ 4096) (hq : ∀ q ∈ l, len q ≤ 4096) : f6 l l = true ∧ f6_ok l l := by
  have hne : (len l != len l) = false := by simp
  have hend := loop_ind (g := f6_L4_g (l, l, ())) (next := f6_L4_next (l, l, ())) (fun x => 0 ≤ x.1 ∧ x.1 ≤ len l) (fun x => (len l - x.1).toNat) (fun x hi hg => by
    have hg : (decide (x.1 < len l) && _) = true := hg
    rw [Bool.and_eq_true] at hg
    have := of_decide_eq_true hg.1
    exact ⟨⟨(show 0 ≤ x.1 + 1 by omega), (show x.1 + 1 ≤ len l by omega)⟩, (show (len l - (x.1 + 1)).toNat < _ by omega)⟩) (x := (0, ())) ⟨by simp, len_nonneg l⟩ (by simp only [fuel]; omega)
  refine ⟨?_, fun _ => ?_⟩
  · have he : f6_L4_e1 (l, l, ()) (loopEnd (f6_L4_g (l, l, ())) (f6_L4_next (l, l, ())) (0, ())) = false := by
      generalize loopEnd (f6_L4_g (l, l, ())) (f6_L4_next (l, l, ())) (0, ()) = x at hend
      obtain ⟨⟨x1, x2⟩, hg⟩ := hend
      have hnx : (len (nth l x.1 []) != len (nth l x.1 [])) = false := by simp
      by_cases hx : x.1 < len l
      · have h9 := (in_self l x.1 x1 hx (nth_few hq _)).1
        have hg : (decide (x.1 < len l) && ((!(len (nth l x.1 []) != len (nth l x.1 []))) && f6_L9_e4 (l, l, x.1, ()) (loopEnd (f6_L9_g (l, l, x.1, ())) (f6_L9_next (l, l, x.1, ())) (0, ())))) = false := hg
        rw [h9, hnx, decide_eq_true hx] at hg
        cases hg
      · have : decide (x.1 < len l) = false := decide_eq_false hx
        show (decide (x.1 < len l) && _) = false
        rw [this, Bool.false_and]
    simp only [f6, f6t, he, hne, cond_false]
  · refine ends_ind (fun x => 0 ≤ x.1 ∧ x.1 ≤ len l) (fun x => (len l - x.1).toNat) (fun x hi => ?_) (fun x hi hg => ?_) ⟨by simp, len_nonneg l⟩ (by simp only [fuel]; omega)
    · intro hv
      have hv : x.1 < len l := of_decide_eq_true hv
      exact ⟨⟨hi.1, hv⟩, ⟨hi.1, hv⟩, fun _ => (in_self l x.1 hi.1 hv (nth_few hq _)).2, fun _ => (show InR (x.1 + 1) from inR (by omega) (by omega))⟩
    · have hg : (decide (x.1 < len l) && _) = true := hg
      rw [Bool.and_eq_true] at hg
      have := of_decide_eq_true hg.1
      exact ⟨⟨(show 0 ≤ x.1 + 1 by omega), (show x.1 + 1 ≤ len l by omega)⟩, (show (len l - (x.1 + 1)).toNat < _ by omega)⟩
def placeQ (z : Int) (p : D24) (n m : Int) (q : D50) : D50 := (f18 ((m + q.1) * z) p.1, f18 ((p.2.1 + n * p.2.2.1 - q.2.1) * z) p.1, ())
abbrev Y19 := Int × D24 × (List (List UInt8)) × (List (List D50)) × Int × (List Int) × (List Int) × Int × (List (List D50)) × Int × Unit
def y19r (z : Int) (p : D24) (L : List (List UInt8)) (a : List (List D50)) (n : Int) (G P : List Int) (i : Int) (polys : List (List D50)) (k : Int) : Y19 := (z, p, L, a, n, G, P, i, polys, k, ())
abbrev Y15 := Int × D24 × (List (List UInt8)) × Int × (List Int) × (List Int) × Int × (List (List D50)) × Unit
def y15r (z : Int) (p : D24) (L : List (List UInt8)) (n : Int) (G P : List Int) (i : Int) (polys : List (List D50)) : Y15 := (z, p, L, n, G, P, i, polys, ())
abbrev Y11 := Int × D24 × (List (List UInt8)) × Int × (List Int) × (List Int) × Unit
def y11r (z : Int) (p : D24) (L : List (List UInt8)) (n : Int) (G P : List Int) : Y11 := (z, p, L, n, G, P, ())
def segsG (p : D24) (g : Int) : List D74 := (nth p.2.2.2.1 g Z47).2.2.1
structure PenOk (z : Int) (p : D24) (n : Int) (G P : List Int) (i : Int) : Prop where
  spot : Spot z p n (nth G i 0, nth P i 0, ())
  inG : 0 ≤ i ∧ i < len G
  inP : i < len P
  at0 : 0 ≤ nth G i 0 ∧ nth G i 0 < len p.2.2.2.1
  path : f30 (segsG p (nth G i 0)) = 0
section
variable {z : Int} {p : D24} {L : List (List UInt8)} {a : List (List D50)} {n : Int} {G P : List Int} {i : Int} {polys : List (List D50)} {k : Int}
theorem r19 (hl : len (nth polys k []) < 9223372036854775808) : (loopEnd (f5_L19_g (y19r z p L a n G P i polys k)) (f5_L19_next (y19r z p L a n G P i polys k)) ([], 0, ())).1 = (nth polys k []).map (placeQ z p n (nth P i 0)) := by
  have h := fold_loop (g := f5_L19_g (y19r z p L a n G P i polys k)) (next := f5_L19_next (y19r z p L a n G P i polys k)) (n := len (nth polys k [])) (step := fun b m => b ++ [placeQ z p n (nth P i 0) (nth (nth polys k []) m Z50)]) (len_nonneg _) hl (fun _ => rfl) (fun _ => rfl) []
  rw [h]
  have e : (len (nth polys k [])).toNat = (nth polys k []).length := by unfold len; omega
  rw [e, foldI_cat (F := fun m => [placeQ z p n (nth P i 0) (nth (nth polys k []) m Z50)]) (n := (nth polys k []).length) (fun _ _ _ _ => rfl) [] _ (Nat.le_refl _), List.nil_append]
  exact catI_map _ _ _
theorem near_range (hS : Spot z p n (nth G i 0, nth P i 0, ())) {q : D50} (hq : nearP q) : InR (nth P i 0 + q.1) ∧ InR ((nth P i 0 + q.1) * z) ∧ InR (n * p.2.2.1) ∧ InR (p.2.1 + n * p.2.2.1) ∧ InR (p.2.1 + n * p.2.2.1 - q.2.1) ∧ InR ((p.2.1 + n * p.2.2.1 - q.2.1) * z) ∧ f18_ok ((nth P i 0 + q.1) * z) p.1 ∧ f18_ok ((p.2.1 + n * p.2.2.1 - q.2.1) * z) p.1 ∧ placeQ z p n (nth P i 0) q = placeP z p n (nth G i 0, nth P i 0, ()) q := by
  obtain ⟨q1, q2, q3, q4⟩ := hq
  obtain ⟨s1, s2, s3, s4, s5, s6⟩ := hS
  simp only at s6
  have m1 := mul_range (a := nth P i 0 + q.1) (b := z) (A := 40000000) (B := 1048576) ⟨by omega, by omega⟩ s1
  have m2 := mul_range (a := n) (b := p.2.2.1) (A := 1000) (B := 65536) ⟨by omega, by omega⟩ s4
  have m3 := mul_range (a := p.2.1 + n * p.2.2.1 - q.2.1) (b := z) (A := 100000000) (B := 1048576) ⟨by omega, by omega⟩ s1
  have r1 := round_eq (a := (nth P i 0 + q.1) * z) s2 ⟨by omega, by omega⟩
  have r2 := round_eq (a := (p.2.1 + n * p.2.2.1 - q.2.1) * z) s2 ⟨by omega, by omega⟩
  refine ⟨inR (by omega) (by omega), inR (by omega) (by omega), inR (by omega) (by omega), inR (by omega) (by omega), inR (by omega) (by omega), inR (by omega) (by omega), r1.2.2, r2.2.2, ?_⟩
  unfold placeQ placeP
  rw [r1.1, r2.1]
theorem ends19 (hS : PenOk z p n G P i) (hk : 0 ≤ k ∧ k < len polys) (hp : polyI 4000 (nth polys k [])) : Am.Ends (f5_L19_g (y19r z p L a n G P i polys k)) (f5_L19_next (y19r z p L a n G P i polys k)) (f5_L19_ok (y19r z p L a n G P i polys k)) ([], 0, ()) := by
  have hl := hp.2.1
  refine fold_ends (n := len (nth polys k [])) (step := fun b m => b ++ [placeQ z p n (nth P i 0) (nth (nth polys k []) m Z50)]) (len_nonneg _) (by omega) (fun _ => rfl) (fun _ => rfl) [] (fun m m1 m2 => ?_)
  have hb : (foldI (fun b m => b ++ [placeQ z p n (nth P i 0) (nth (nth polys k []) m Z50)]) m.toNat []).length = m.toNat := by
    generalize m.toNat = j
    induction j with
    | zero => rfl
    | succ j ih => rw [foldI]; simp [ih]
  generalize foldI (fun b m => b ++ [placeQ z p n (nth P i 0) (nth (nth polys k []) m Z50)]) m.toNat [] = b at hb
  refine ⟨hk, fun hv => ?_⟩
  have hv : m < len (nth polys k []) := of_decide_eq_true hv
  obtain ⟨t1, t2, t3, t4, t5, t6, t7, t8, _⟩ := near_range hS.spot (nth_near hp.2.2 m)
  refine ⟨hk, ⟨m1, hv⟩, ⟨hS.inG.1, hS.inP⟩, t1, t2, t7, t3, t4, t5, t6, t8, ?_, (show InR (m + 1) from inR (by omega) (by omega))⟩
  show ((b.length + 1 : Nat) : Int) ≤ 4294967296
  omega
theorem r15 (hl : ∀ q ∈ polys, polyI 4000 q) (hn : len polys ≤ 128) : (loopEnd (f5_L15_g (y15r z p L n G P i polys)) (f5_L15_next (y15r z p L n G P i polys)) (a, 0, ())).1 = a ++ polys.map (fun poly => poly.map (placeQ z p n (nth P i 0))) := by
  have h := fold_loop (g := f5_L15_g (y15r z p L n G P i polys)) (next := f5_L15_next (y15r z p L n G P i polys)) (n := len polys) (step := fun b j => b ++ [(loopEnd (f5_L19_g (y19r z p L b n G P i polys j)) (f5_L19_next (y19r z p L b n G P i polys j)) ([], 0, ())).1]) (len_nonneg _) (by omega) (fun _ => rfl) (fun _ => rfl) a
  rw [h]
  have e : (len polys).toNat = polys.length := by unfold len; omega
  rw [e, foldI_cat (F := fun j => [(nth polys j []).map (placeQ z p n (nth P i 0))]) (n := polys.length) (fun b j j1 j2 => by
    have hj := hl _ (nth_in (l := polys) (d := []) (j := j.toNat) (by omega))
    rw [show ((j.toNat : Nat) : Int) = j by omega] at hj
    rw [r19 (by have := hj.2.1; omega)]) a _ (Nat.le_refl _)]
  show a ++ _ = a ++ _
  congr 1
  exact catI_map polys [] (fun poly => poly.map (placeQ z p n (nth P i 0)))
theorem ends15 (hS : PenOk z p n G P i) (hl : ∀ q ∈ polys, polyI 4000 q) (hn : len polys ≤ 128) (ha : len a ≤ 4000000) : Am.Ends (f5_L15_g (y15r z p L n G P i polys)) (f5_L15_next (y15r z p L n G P i polys)) (f5_L15_ok (y15r z p L n G P i polys)) (a, 0, ()) := by
  refine fold_ends (n := len polys) (step := fun b j => b ++ [(loopEnd (f5_L19_g (y19r z p L b n G P i polys j)) (f5_L19_next (y19r z p L b n G P i polys j)) ([], 0, ())).1]) (len_nonneg _) (by omega) (fun _ => rfl) (fun _ => rfl) a (fun m m1 m2 => ?_)
  have hb : ∀ j : Nat, (foldI (fun b j => b ++ [(loopEnd (f5_L19_g (y19r z p L b n G P i polys j)) (f5_L19_next (y19r z p L b n G P i polys j)) ([], 0, ())).1]) j a).length = a.length + j := by
    intro j
    induction j with
    | zero => rfl
    | succ j ih => rw [foldI]; simp only [List.length_append, List.length_singleton, ih]; omega
  have hb := hb m.toNat
  generalize foldI (fun b j => b ++ [(loopEnd (f5_L19_g (y19r z p L b n G P i polys j)) (f5_L19_next (y19r z p L b n G P i polys j)) ([], 0, ())).1]) m.toNat a = b at hb
  intro hv
  have hv : m < len polys := of_decide_eq_true hv
  have hj := hl _ (nth_in (l := polys) (d := []) (j := m.toNat) (by unfold len at hv; omega))
  rw [show ((m.toNat : Nat) : Int) = m by omega] at hj
  refine ⟨ends19 hS ⟨m1, hv⟩ hj, ?_, (show InR (m + 1) from inR (by omega) (by omega))⟩
  show ((b.length + 1 : Nat) : Int) ≤ 4294967296
  have : len a = (a.length : Int) := rfl
  omega
end
def F11 (z : Int) (p : D24) (n : Int) (G P : List Int) (i : Int) : List (List D50) := (f12 (segsG p (nth G i 0))).1.map (fun poly => poly.map (placeQ z p n (nth P i 0)))
theorem catI_len {A : Type} {F : Int → List A} {B : Int} : ∀ {k : Nat}, (∀ i : Int, 0 ≤ i → i < k → len (F i) ≤ B) → len (catI F k) ≤ B * (k : Int) := by
  intro k
  induction k with
  | zero => intro _; simp [catI, len]
  | succ k ih =>
    intro h
    have h1 := ih fun i i1 i2 => h i i1 (by omega)
    have h2 := h (k : Int) (by omega) (by omega)
    have e : len (catI F (k + 1)) = len (catI F k) + len (F (k : Int)) := by unfold len; rw [catI, List.length_append]; omega
    have e2 : B * ((k + 1 : Nat) : Int) = B * (k : Int) + B := by rw [Int.natCast_add, Int.mul_add]; simp
    rw [e, e2]
    omega
section
variable {z : Int} {p : D24} {L : List (List UInt8)} {a : List (List D50)} {n : Int} {G P : List Int}
theorem F11_few (h : ∀ i, 0 ≤ i → i < len G → PenOk z p n G P i) {i : Int} (i1 : 0 ≤ i) (i2 : i < len G) : len (F11 z p n G P i) ≤ 128 := by
  obtain ⟨_, _, h3, _⟩ := f12_all (h i i1 i2).path
  unfold F11 len at *
  rw [List.length_map]
  exact h3
theorem step11 (h : ∀ i, 0 ≤ i → i < len G → PenOk z p n G P i) {b : List (List D50)} {i : Int} (i1 : 0 ≤ i) (i2 : i < len G) : (loopEnd (f5_L15_g (y15r z p L n G P i (f17 (segsG p (nth G i 0))).1)) (f5_L15_next (y15r z p L n G P i (f17 (segsG p (nth G i 0))).1)) (b, 0, ())).1 = b ++ F11 z p n G P i := by
  have hp := (h i i1 i2).path
  obtain ⟨_, _, h3, h4⟩ := f12_all hp
  rw [(f17_eq17 hp).1, r15 h4 h3]
  rfl
theorem r11 (h : ∀ i, 0 ≤ i → i < len G → PenOk z p n G P i) (hG : len G < 9223372036854775808) : (loopEnd (f5_L11_g (y11r z p L n G P)) (f5_L11_next (y11r z p L n G P)) (a, 0, ())).1 = a ++ catI (F11 z p n G P) G.length := by
  have hl := fold_loop (g := f5_L11_g (y11r z p L n G P)) (next := f5_L11_next (y11r z p L n G P)) (n := len G) (step := fun b i => (loopEnd (f5_L15_g (y15r z p L n G P i (f17 (segsG p (nth G i 0))).1)) (f5_L15_next (y15r z p L n G P i (f17 (segsG p (nth G i 0))).1)) (b, 0, ())).1) (len_nonneg _) hG (fun _ => rfl) (fun _ => rfl) a
  rw [hl]
  have e : (len G).toNat = G.length := by unfold len; omega
  rw [e, foldI_cat (F := F11 z p n G P) (n := G.length) (fun b j j1 j2 => step11 h j1 (by unfold len; omega)) a _ (Nat.le_refl _)]
theorem ends11 (h : ∀ i, 0 ≤ i → i < len G → PenOk z p n G P i) (hG : len G ≤ 128) (ha : len a ≤ 3000000) : Am.Ends (f5_L11_g (y11r z p L n G P)) (f5_L11_next (y11r z p L n G P)) (f5_L11_ok (y11r z p L n G P)) (a, 0, ()) := by
  refine fold_ends (n := len G) (step := fun b i => (loopEnd (f5_L15_g (y15r z p L n G P i (f17 (segsG p (nth G i 0))).1)) (f5_L15_next (y15r z p L n G P i (f17 (segsG p (nth G i 0))).1)) (b, 0, ())).1) (len_nonneg _) (by omega) (fun _ => rfl) (fun _ => rfl) a (fun m m1 m2 => ?_)
  have hll : len G = (G.length : Int) := rfl
  have hb := foldI_cat (step := fun b i => (loopEnd (f5_L15_g (y15r z p L n G P i (f17 (segsG p (nth G i 0))).1)) (f5_L15_next (y15r z p L n G P i (f17 (segsG p (nth G i 0))).1)) (b, 0, ())).1) (F := F11 z p n G P) (n := G.length) (fun b j j1 j2 => step11 h j1 (by omega)) a m.toNat (by omega)
  have hc := catI_len (F := F11 z p n G P) (B := 128) (k := m.toNat) fun i i1 i2 => F11_few h i1 (by omega)
  generalize foldI (fun b i => (loopEnd (f5_L15_g (y15r z p L n G P i (f17 (segsG p (nth G i 0))).1)) (f5_L15_next (y15r z p L n G P i (f17 (segsG p (nth G i 0))).1)) (b, 0, ())).1) m.toNat a = b at hb
  have hbl : len b ≤ 4000000 := by
    have : len b = len a + len (catI (F11 z p n G P) m.toNat) := by rw [hb]; unfold len; rw [List.length_append]; omega
    omega
  intro hv
  have hv : m < len G := of_decide_eq_true hv
  have hS := h m m1 hv
  obtain ⟨_, _, h3, h4⟩ := f12_all hS.path
  obtain ⟨e17, o17⟩ := f17_eq17 hS.path
  refine ⟨hS.inG, hS.at0, o17, ?_, (show InR (m + 1) from inR (by omega) (by omega))⟩
  show Am.Ends (f5_L15_g (y15r z p L n G P m (f17 (segsG p (nth G m 0))).1)) (f5_L15_next (y15r z p L n G P m (f17 (segsG p (nth G m 0))).1)) (f5_L15_ok (y15r z p L n G P m (f17 (segsG p (nth G m 0))).1)) (b, 0, ())
  rw [e17]
  exact ends15 hS h4 h3 hbl
end
end Go.Proofs.YtdgfchmfajmkiaaDoor.Am
