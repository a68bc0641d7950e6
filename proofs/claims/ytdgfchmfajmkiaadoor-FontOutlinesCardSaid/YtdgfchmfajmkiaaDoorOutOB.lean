/- Font: the reference's Flatten is the program's. Condition: the path is right. -/
import Derived.Test.YtdgfchmfajmkiaaDoorOutOA
namespace Go.Proofs.YtdgfchmfajmkiaaDoor.Am
open Go Go.Am
def stepF (l : List D74) (a : List (List D50)) (b : List D50) (i : Int) : List (List D50) × List D50 :=
  (bif (bif i == len l - 1 then true else (nth l (i + 1) Z74).1 == 1) then a ++ [bif (nth l i Z74).1 == 1 then [nth (nth l i Z74).2.1 0 Z50] else f31_v1 b (nth l i Z74)] else a, bif (nth l i Z74).1 == 1 then [nth (nth l i Z74).2.1 0 Z50] else f31_v1 b (nth l i Z74))
def outR (l : List D74) (a : List (List D50) × Nat) (i : Int) : List (List D50) := bif (nth l i Z74).1 == 1 then a.1 ++ [[]] else a.1
def holR (l : List D74) (a : List (List D50) × Nat) (i : Int) : Nat := bif (nth l i Z74).1 == 1 then a.1.length else a.2
def stepR (l : List D74) (a : List (List D50) × Nat) (p : D50) (i : Int) : (List (List D50) × Nat) × D50 :=
  ((List.set (outR l a i) (Int.toNat (len (outR l a i) - 1)) (f39_v1 (List.getD (outR l a i) (holR l a i) []) p (nth l i Z74)), Int.toNat (len (outR l a i) - 1)), bif decide (f40 (nth l i Z74).1 > 0) then nth (nth l i Z74).2.1 (f40 (nth l i Z74).1 - 1) Z50 else p)
def flatRel (l : List D74) (k : Nat) (x : List (List D50) × List D50) (y : (List (List D50) × Nat) × D50) : Prop :=
  (k = 0 ∧ x = ([], []) ∧ y.1 = ([], 0)) ∨ (0 < k ∧ polyI (1 + 16 * (k : Int)) x.2 ∧ nth x.2 (len x.2 - 1) Z50 = y.2 ∧ ∃ A, y.1 = (A ++ [x.2], A.length) ∧ (A.length : Int) < k ∧ x.1 = bif (bif (k : Int) == len l then true else (nth l (k : Int) Z74).1 == 1) then A ++ [x.2] else A)
theorem flat_rel {l : List D74} (hl : len l ≤ 128) (he : ∀ t, 0 ≤ t → t < len l → eS l t = 0) {k : Nat} (hk : (k : Int) < len l) {x : List (List D50) × List D50} {y : (List (List D50) × Nat) × D50} (h : flatRel l k x y) :
    flatRel l (k + 1) (stepF l x.1 x.2 (k : Int)) (stepR l y.1 y.2 (k : Int)) ∧ (Int.toNat (len (outR l y.1 (k : Int)) - 1) = holR l y.1 (k : Int) ∧ 1 ≤ len (outR l y.1 (k : Int)) ∧ len (outR l y.1 (k : Int)) ≤ k + 1) ∧ f39_v1_ok (List.getD (outR l y.1 (k : Int)) (holR l y.1 (k : Int)) []) y.2 (nth l (k : Int) Z74) := by
  have e := he (k : Int) (by omega) hk
  have hs : ∀ j, 0 ≤ j → j < 3 → nearP (nth (nth l (k : Int) Z74).2.1 j Z50) := fun j k1 k2 => f51_near ((seg_right e).2 j k1 k2)
  have hkind := (seg_right e).1
  have hclosed : ∀ q : Bool, (bif ((k + 1 : Nat) : Int) == len l then true else (nth l ((k + 1 : Nat) : Int) Z74).1 == 1) = q → (bif (k : Int) == len l - 1 then true else (nth l ((k : Int) + 1) Z74).1 == 1) = q := by
    intro q hq
    have e1 : ((k + 1 : Nat) : Int) = (k : Int) + 1 := by omega
    rw [e1] at hq
    have e2 : ((k : Int) + 1 == len l) = ((k : Int) == len l - 1) := by
      rw [Bool.eq_iff_iff]; simp; omega
    rw [e2] at hq
    exact hq
  obtain ⟨x1, x2⟩ := x
  obtain ⟨y1, p⟩ := y
  cases hm : (nth l (k : Int) Z74).1 == 1 with
  | true =>
    have hm1 : (nth l (k : Int) Z74).1 = 1 := by simpa using hm
    have hf : stepF l x1 x2 (k : Int) = (bif (bif ((k + 1 : Nat) : Int) == len l then true else (nth l ((k + 1 : Nat) : Int) Z74).1 == 1) then x1 ++ [[nth (nth l (k : Int) Z74).2.1 0 Z50]] else x1, [nth (nth l (k : Int) Z74).2.1 0 Z50]) := by
      unfold stepF
      rw [hm, hclosed _ rfl]
      rfl
    have ho : outR l y1 (k : Int) = y1.1 ++ [[]] := by unfold outR; rw [hm]; rfl
    have hh : holR l y1 (k : Int) = y1.1.length := by unfold holR; rw [hm]; rfl
    have hlen : len (outR l y1 (k : Int)) = (y1.1.length : Int) + 1 := by rw [ho]; unfold len; simp
    have hn : Int.toNat (len (outR l y1 (k : Int)) - 1) = y1.1.length := by rw [hlen]; omega
    have hget : List.getD (outR l y1 (k : Int)) (holR l y1 (k : Int)) [] = [] := by rw [ho, hh]; simp
    have hb : f39_v1 [] p (nth l (k : Int) Z74) = [nth (nth l (k : Int) Z74).2.1 0 Z50] := by
      show (bif (bif (nth l (k : Int) Z74).1 == 1 then (nth l (k : Int) Z74).1 == 1 else (nth l (k : Int) Z74).1 == 2) then f57_v1 [] (nth (nth l (k : Int) Z74).2.1 0 Z50) else _) = _
      rw [hm]; rfl
    have hbo : f39_v1_ok [] p (nth l (k : Int) Z74) := by
      refine ⟨fun _ => ⟨⟨by decide, by decide⟩, f57_all (by decide) _⟩, fun g => ?_⟩
      have g : (bif (nth l (k : Int) Z74).1 == 1 then (nth l (k : Int) Z74).1 == 1 else (nth l (k : Int) Z74).1 == 2) = false := g
      rw [hm] at g; cases g
    have hr : stepR l y1 p (k : Int) = ((y1.1 ++ [[nth (nth l (k : Int) Z74).2.1 0 Z50]], y1.1.length), nth (nth l (k : Int) Z74).2.1 0 Z50) := by
      unfold stepR
      rw [hget, hb, hn, ho, hm1]
      have : List.set (y1.1 ++ [[]]) y1.1.length [nth (nth l (k : Int) Z74).2.1 0 Z50] = y1.1 ++ [[nth (nth l (k : Int) Z74).2.1 0 Z50]] := by simp
      rw [this]
      rfl
    have hy : x1 = y1.1 ∧ (y1.1.length : Int) ≤ k := by
      rcases h with ⟨h0, h1, h2⟩ | ⟨h0, _, _, A, h2, h3, h4⟩
      · simp only [Prod.mk.injEq] at h1
        have h2 : y1 = ([], 0) := h2
        rw [h1.1, h2]; exact ⟨rfl, by simp⟩
      · have h2 : y1 = (A ++ [x2], A.length) := h2
        have h4 : x1 = bif (bif (k : Int) == len l then true else (nth l (k : Int) Z74).1 == 1) then A ++ [x2] else A := h4
        rw [hm] at h4
        have h5 : (bif (k : Int) == len l then true else true) = true := by cases (k : Int) == len l <;> rfl
        rw [h5] at h4
        rw [h4, h2]
        refine ⟨rfl, ?_⟩
        have : (A.length : Int) < k := h3
        simp only [List.length_append, List.length_cons, List.length_nil]
        omega
    refine ⟨?_, ⟨by rw [hn, hh], by rw [hlen]; omega, by rw [hlen]; omega⟩, by rw [hget]; exact hbo⟩
    rw [hf, hr]
    refine .inr ⟨by omega, ⟨by simp, ?_, fun q hq => ?_⟩, ?_, y1.1, rfl, by omega, ?_⟩
    · show (1 : Int) ≤ _
      omega
    · rw [List.mem_singleton.1 hq]; exact hs 0 (by omega) (by omega)
    · exact nth_end (l := [])
    · simp only [hy.1]
  | false =>
    have hm1 : (nth l (k : Int) Z74).1 ≠ 1 := by simpa using hm
    have hne := ord_first e hm
    rcases h with ⟨h0, _⟩ | ⟨h0, hp, hlast, A, h2, h3, h4⟩
    · subst h0; exact absurd rfl hne
    have h2 : y1 = (A ++ [x2], A.length) := h2
    have h4 : x1 = bif (bif (k : Int) == len l then true else (nth l (k : Int) Z74).1 == 1) then A ++ [x2] else A := h4
    have hp : polyI (1 + 16 * (k : Int)) x2 := hp
    have hlast : nth x2 (len x2 - 1) Z50 = p := hlast
    have hkl : ((k : Int) == len l) = false := by simp; omega
    rw [hkl, hm] at h4
    have h4 : x1 = A := h4
    subst h2
    subst h4
    have ho : outR l (x1 ++ [x2], x1.length) (k : Int) = x1 ++ [x2] := by unfold outR; rw [hm]; rfl
    have hh : holR l (x1 ++ [x2], x1.length) (k : Int) = x1.length := by unfold holR; rw [hm]; rfl
    have hlen : len (outR l (x1 ++ [x2], x1.length) (k : Int)) = (x1.length : Int) + 1 := by rw [ho]; unfold len; simp
    have hn : Int.toNat (len (outR l (x1 ++ [x2], x1.length) (k : Int)) - 1) = x1.length := by rw [hlen]; omega
    have hget : List.getD (outR l (x1 ++ [x2], x1.length) (k : Int)) (holR l (x1 ++ [x2], x1.length) (k : Int)) [] = x2 := by rw [ho, hh]; simp
    have hk25 : 2 ≤ (nth l (k : Int) Z74).1 ∧ (nth l (k : Int) Z74).1 ≤ 5 := by
      rcases kinds (nth l (k : Int) Z74).1 with h | h | h | h | h | h
      · exact absurd h.1 hm1
      · omega
      · omega
      · omega
      · omega
      · omega
    have hbend := bend_eq (s := nth l (k : Int) Z74) hp (by omega) hs hk25
    rw [hlast] at hbend
    obtain ⟨b1, b2, b3⟩ := hbend
    have hf : stepF l x1 x2 (k : Int) = (bif (bif ((k + 1 : Nat) : Int) == len l then true else (nth l ((k + 1 : Nat) : Int) Z74).1 == 1) then x1 ++ [f31_v1 x2 (nth l (k : Int) Z74)] else x1, f31_v1 x2 (nth l (k : Int) Z74)) := by
      unfold stepF
      rw [hm, hclosed _ rfl]
      rfl
    have hr : stepR l (x1 ++ [x2], x1.length) p (k : Int) = ((x1 ++ [f31_v1 x2 (nth l (k : Int) Z74)], x1.length), bif decide (f40 (nth l (k : Int) Z74).1 > 0) then nth (nth l (k : Int) Z74).2.1 (f40 (nth l (k : Int) Z74).1 - 1) Z50 else p) := by
      unfold stepR
      rw [hget, b1, hn, ho]
      have : List.set (x1 ++ [x2]) x1.length (f31_v1 x2 (nth l (k : Int) Z74)) = x1 ++ [f31_v1 x2 (nth l (k : Int) Z74)] := by simp
      rw [this]
    refine ⟨?_, ⟨by rw [hn, hh], by rw [hlen]; omega, by rw [hlen]; omega⟩, by rw [hget]; exact b2⟩
    rw [hf, hr]
    have hp2 := (f31_all (s := nth l (k : Int) Z74) hp (by omega) hs).2
    exact .inr ⟨by omega, polyI_mono hp2 (by omega), b3, x1, rfl, by omega, rfl⟩
theorem flat_both {l : List D74} (hl : len l ≤ 128) (he : ∀ t, 0 ≤ t → t < len l → eS l t = 0) : ∀ k : Nat, (k : Int) ≤ len l → flatRel l k (foldP (stepF l) k ([], [])) (foldP (stepR l) k (([], 0), Z50)) := by
  intro k
  induction k with
  | zero => intro _; exact .inl ⟨rfl, rfl, rfl⟩
  | succ k ih => intro hk; exact (flat_rel hl he (by omega) (ih (by omega))).1
theorem f17_eq17 {l : List D74} (h : f30 l = 0) : f17 l = f12 l ∧ f17_ok l := by
  obtain ⟨hl, he⟩ := f30_segs h
  have hn := len_nonneg l
  have hll : len l = (l.length : Int) := rfl
  have hb : (f30 l != 0) = false := by rw [h]; rfl
  have h38 : f38 l = 0 := by rw [← f30_f30 l (by omega)]; exact h
  have hb' : (f38 l != 0) = false := by rw [h38]; rfl
  have hF := foldP_loop (g := f12_L7_g (l, l, len l, ())) (next := f12_L7_next (l, l, len l, ())) (n := len l) (step := stepF l) hn (by omega) (fun _ => rfl) (fun _ => rfl) [] []
  have hR := foldP_loop (g := f17_L7_g (l, ())) (next := f17_L7_next (l, ())) (n := len l) (step := stepR l) hn (by omega) (fun _ => rfl) (fun _ => rfl) ([], 0) Z50
  have hfin : (foldP (stepR l) (len l).toNat (([], 0), Z50)).1.1 = (foldP (stepF l) (len l).toNat ([], [])).1 := by
    have hr := flat_both hl he (len l).toNat (by omega)
    rcases hr with ⟨_, h1, h2⟩ | ⟨_, _, _, A, h2, _, h4⟩
    · rw [h1, h2]
    · have e : (((len l).toNat : Nat) : Int) = len l := by omega
      rw [e] at h4
      have e2 : (len l == len l) = true := by simp
      rw [e2] at h4
      rw [h4, h2]
      rfl
  refine ⟨?_, f38_all l, fun _ => ?_⟩
  · have e1 : f17 l = (bif f38 l != 0 then [] else (f17_L7_x2_0 (l, ()) (loopEnd (f17_L7_g (l, ())) (f17_L7_next (l, ())) (([], 0), Z50, 0, ()))).1, bif f38 l != 0 then f38 l else 0, ()) := rfl
    have e2 : f12 l = (bif f30 l != 0 then [] else f12_L7_x2_0 (l, l, len l, ()) (loopEnd (f12_L7_g (l, l, len l, ())) (f12_L7_next (l, l, len l, ())) ([], [], 0, ())), bif f30 l != 0 then f30 l else 0, ()) := rfl
    rw [e1, e2, hb, hb', hF, hR]
    show ((foldP (stepR l) (len l).toNat (([], 0), Z50)).1.1, (0 : Int), ()) = ((foldP (stepF l) (len l).toNat ([], [])).1, (0 : Int), ())
    rw [hfin]
  · refine foldP_ends (n := len l) (step := stepR l) hn (by omega) (fun _ => rfl) (fun _ => rfl) ([], 0) Z50 (fun i i1 i2 => ?_)
    intro hv
    have hi : i < len l := of_decide_eq_true hv
    have hrel := flat_rel hl he (k := i.toNat) (by omega) (flat_both hl he i.toNat (by omega))
    have ei : ((i.toNat : Nat) : Int) = i := by omega
    rw [ei] at hrel
    generalize foldP (stepR l) i.toNat (([], 0), Z50) = y at hrel ⊢
    obtain ⟨a, p⟩ := y
    obtain ⟨_, ⟨q1, q2, q3⟩, q4⟩ := hrel
    have hal : len a.1 ≤ 200 := by
      have : len a.1 ≤ len (outR l a i) := by
        unfold outR
        cases (nth l i Z74).1 == 1 with
        | true => simp only [cond_true]; unfold len; simp only [List.length_append]; omega
        | false => exact Int.le_refl _
      have q3 : len (outR l a i) ≤ i + 1 := q3
      omega
    have q1 : Int.toNat (len (outR l a i) - 1) = holR l a i := q1
    have q2 : 1 ≤ len (outR l a i) := q2
    have q3 : len (outR l a i) ≤ i + 1 := q3
    have hk := (seg_right (he i i1 hi)).1
    have hk3 := f40_le (nth l i Z74).1
    have hr1 : InR (len (outR l a i) - 1) := inR (by omega) (by omega)
    have hb1 : InB (len (outR l a i) - 1) (len (outR l a i)) := ⟨by omega, by omega⟩
    have hlt : len (outR l a i) - 1 < len (outR l a i) := by omega
    refine ⟨⟨i1, hi⟩, fun _ => ?_, hr1, hr1, hb1, ⟨q1, hlt⟩, ⟨i1, hi⟩, q4, hb1, ⟨q1, hlt⟩, ⟨q1, hlt⟩, ⟨i1, hi⟩, trivial, fun g => ?_, (show InR (i + 1) from inR (by omega) (by omega))⟩
    · show ((a.1.length + 1 : Nat) : Int) ≤ 4294967296
      have : len a.1 = (a.1.length : Int) := rfl
      omega
    · have g : f40 (nth l i Z74).1 > 0 := of_decide_eq_true g
      exact ⟨(show InR (f40 (nth l i Z74).1 - 1) from inR (by omega) (by omega)), ⟨i1, hi⟩, ⟨(show 0 ≤ f40 (nth l i Z74).1 - 1 by omega), (show f40 (nth l i Z74).1 - 1 < 3 by omega)⟩⟩
end Go.Proofs.YtdgfchmfajmkiaaDoor.Am
