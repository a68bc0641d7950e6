/- Font: path.Flatten: what is asked, and its polygons. No condition. -/
import Derived.Test.YtdgfchmfajmkiaaDoorOutF
namespace Go.Proofs.YtdgfchmfajmkiaaDoor.Am
open Go Go.Am
theorem ord_first {l : List D74} {i : Int} (h : eS l i = 0) (hk : ((nth l i Z74).1 == 1) = false) : i ≠ 0 := by
  intro h0
  have ho : ord l i = true := by
    unfold ord
    have : ((nth l i Z74).1 != 1) = true := by simpa using hk
    rw [this, h0]
    rfl
  unfold eS at h
  rw [ho] at h
  revert h
  generalize (bif decide ((nth l i Z74).1 < 1) then true else decide ((nth l i Z74).1 > 5)) = A
  generalize anyI 3 (c9 (nth l i Z74)) = B
  cases A <;> cases B <;> simp
def flatI (l : List D74) (x : List (List D50) × List D50 × Int × Unit) : Prop :=
  0 ≤ x.2.2.1 ∧ x.2.2.1 ≤ len l ∧ len x.1 ≤ x.2.2.1 ∧ (0 < x.2.2.1 → polyI (1 + 16 * x.2.2.1) x.2.1) ∧ ∀ q ∈ x.1, polyI 4000 q
theorem flat_seg {l : List D74} (hl : len l ≤ 128) (he : ∀ t, 0 ≤ t → t < len l → eS l t = 0) {x : List (List D50) × List D50 × Int × Unit} (h : flatI l x) (hi : x.2.2.1 < len l) :
    (((nth l x.2.2.1 Z74).1 == 1) = false → f31_v1_ok x.2.1 (nth l x.2.2.1 Z74)) ∧ polyI (1 + 16 * (x.2.2.1 + 1)) (bif (nth l x.2.2.1 Z74).1 == 1 then [nth (nth l x.2.2.1 Z74).2.1 0 Z50] else f31_v1 x.2.1 (nth l x.2.2.1 Z74)) := by
  have e := he _ h.1 hi
  have hs : ∀ k, 0 ≤ k → k < 3 → nearP (nth (nth l x.2.2.1 Z74).2.1 k Z50) := fun k k1 k2 => f51_near ((seg_right e).2 k k1 k2)
  have h0 := h.1
  cases hk : (nth l x.2.2.1 Z74).1 == 1 with
  | true =>
    refine ⟨fun h => (by cases h), ?_⟩
    simp only [cond_true]
    refine ⟨by simp, ?_, fun p hp => ?_⟩
    · show (1 : Int) ≤ _
      omega
    · rw [List.mem_singleton.1 hp]; exact hs 0 (by omega) (by omega)
  | false =>
    have hne := ord_first e hk
    have := f31_all (h.2.2.2.1 (by omega)) (by omega) hs
    refine ⟨fun _ => this.1, ?_⟩
    simp only [cond_false]
    exact polyI_mono this.2 (by omega)
theorem flat_next {l : List D74} (hl : len l ≤ 128) (he : ∀ t, 0 ≤ t → t < len l → eS l t = 0) {x : List (List D50) × List D50 × Int × Unit} (h : flatI l x) (hg : f12_L7_g (l, l, len l, ()) x = true) :
    flatI l (f12_L7_next (l, l, len l, ()) x) ∧ (len l - (f12_L7_next (l, l, len l, ()) x).2.2.1).toNat < (len l - x.2.2.1).toNat := by
  have hi : x.2.2.1 < len l := of_decide_eq_true hg
  have hp := (flat_seg hl he h hi).2
  obtain ⟨a, b, i, _⟩ := x
  obtain ⟨h1, h2, h3, h4, h5⟩ := h
  simp only at h1 h2 h3 h4 h5 hi hp
  refine ⟨⟨(show 0 ≤ i + 1 by omega), (show i + 1 ≤ len l by omega), ?_, fun _ => hp, ?_⟩, (show (len l - (i + 1)).toNat < (len l - i).toNat by omega)⟩
  · show len (bif (bif i == len l - 1 then true else (nth l (i + 1) Z74).1 == 1) then a ++ [_] else a) ≤ i + 1
    cases (bif i == len l - 1 then true else (nth l (i + 1) Z74).1 == 1) with
    | false => simp only [cond_false]; omega
    | true =>
      simp only [cond_true]
      unfold len at *
      simp only [List.length_append, List.length_cons, List.length_nil]
      omega
  · show ∀ q ∈ (bif (bif i == len l - 1 then true else (nth l (i + 1) Z74).1 == 1) then a ++ [bif (nth l i Z74).1 == 1 then [nth (nth l i Z74).2.1 0 Z50] else f31_v1 b (nth l i Z74)] else a), polyI 4000 q
    cases (bif i == len l - 1 then true else (nth l (i + 1) Z74).1 == 1) with
    | false => exact h5
    | true =>
      simp only [cond_true]
      intro q hq
      rcases List.mem_append.1 hq with hq | hq
      · exact h5 q hq
      · rw [List.mem_singleton.1 hq]; exact polyI_mono hp (by omega)
theorem flat_start (l : List D74) : flatI l ([], [], 0, ()) := ⟨Int.le_refl _, len_nonneg l, Int.le_refl _, fun h => absurd h (by decide), fun q hq => by cases hq⟩
theorem f30_segs {l : List D74} (h : f30 l = 0) : len l ≤ 128 ∧ ∀ t, 0 ≤ t → t < len l → eS l t = 0 := by
  have hl := f30_len h
  exact ⟨hl, f38_segs (by rw [← f30_f30 l (by omega)]; exact h)⟩
theorem f12_all {l : List D74} (h : f30 l = 0) : f12_ok l ∧ (f12 l).2.1 = 0 ∧ len (f12 l).1 ≤ 128 ∧ ∀ q ∈ (f12 l).1, polyI 4000 q := by
  obtain ⟨hl, he⟩ := f30_segs h
  have hn := len_nonneg l
  have hb : (f30 l != 0) = false := by rw [h]; rfl
  have hend := loop_ind (g := f12_L7_g (l, l, len l, ())) (next := f12_L7_next (l, l, len l, ())) (flatI l) (fun x => (len l - x.2.2.1).toNat) (fun x hi hg => flat_next hl he hi hg) (flat_start l) (by simp only [fuel]; omega)
  refine ⟨⟨f30_all l, fun _ => ?_⟩, ?_, ?_⟩
  · refine ends_ind (flatI l) (fun x => (len l - x.2.2.1).toNat) (fun x h => ?_) (fun x hi hg => flat_next hl he hi hg) (flat_start l) (by simp only [fuel]; omega)
    intro hv
    have hi : x.2.2.1 < len l := of_decide_eq_true hv
    have hs := flat_seg hl he h hi
    obtain ⟨a, b, i, _⟩ := x
    obtain ⟨h1, h2, h3, h4, h5⟩ := h
    simp only at h1 h2 h3 h4 h5 hi hs
    have hla : len a = (a.length : Int) := rfl
    refine ⟨⟨h1, hi⟩, fun _ => ⟨by decide, by decide⟩, fun g => hs.1 g, (show InR (len l - 1) from inR (by omega) (by omega)), fun _ => (show InR (i + 1) from inR (by omega) (by omega)), fun g => ?_, fun _ => ?_, (show InR (i + 1) from inR (by omega) (by omega))⟩
    · have g : (!(i == len l - 1)) = true := g
      have g : i ≠ len l - 1 := by simpa using g
      exact ⟨(show 0 ≤ i + 1 by omega), (show i + 1 < len l by omega)⟩
    · show ((a.length + 1 : Nat) : Int) ≤ 4294967296
      omega
  · show (bif f30 l != 0 then f30 l else 0) = 0
    rw [hb]; rfl
  · have e : (f12 l).1 = (loopEnd (f12_L7_g (l, l, len l, ())) (f12_L7_next (l, l, len l, ())) ([], [], 0, ())).1 := by
      show (bif f30 l != 0 then [] else f12_L7_x2_0 (l, l, len l, ()) (loopEnd (f12_L7_g (l, l, len l, ())) (f12_L7_next (l, l, len l, ())) ([], [], 0, ()))) = _
      rw [hb]; rfl
    rw [e]
    exact ⟨by have := hend.1.2.2.1; have := hend.1.2.1; omega, hend.1.2.2.2.2⟩
end Go.Proofs.YtdgfchmfajmkiaaDoor.Am
