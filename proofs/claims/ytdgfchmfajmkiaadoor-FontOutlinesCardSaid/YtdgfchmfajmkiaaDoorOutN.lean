/- Font: the parts of a text, by the program and by the reference. No condition. -/
import Derived.Test.YtdgfchmfajmkiaaDoorOutT
namespace Go.Proofs.YtdgfchmfajmkiaaDoor.Am
open Go Go.Am
def prep (w : List UInt8) : List (List UInt8) → List (List UInt8)
  | [] => [w]
  | x :: r => (w ++ x) :: r
theorem prep_nil {X : List (List UInt8)} (h : X ≠ []) : prep [] X = X := by
  cases X with
  | nil => exact absurd rfl h
  | cons => rfl
theorem prep_prep (v w : List UInt8) (X : List (List UInt8)) : prep v (prep w X) = prep (v ++ w) X := by
  cases X <;> simp [prep]
theorem splitB_cons (c b : UInt8) (l : List UInt8) : splitB c (b :: l) = if b == c then [] :: splitB c l else prep [b] (splitB c l) := by
  rw [splitB]
  split
  · rfl
  · cases splitB c l <;> rfl
def tot : List (List UInt8) → Nat
  | [] => 0
  | x :: r => x.length + 1 + tot r
theorem tot_prep (w : List UInt8) {X : List (List UInt8)} (h : X ≠ []) : tot (prep w X) = w.length + tot X := by
  cases X with
  | nil => exact absurd rfl h
  | cons x r => simp [prep, tot]; omega
theorem tot_split (c : UInt8) : ∀ l : List UInt8, tot (splitB c l) = l.length + 1
  | [] => rfl
  | b :: l => by
    rw [splitB_cons]
    have ih := tot_split c l
    split
    · simp only [tot, List.length_nil, List.length_cons, ih]; omega
    · rw [tot_prep _ (splitB_ne c l), ih]; simp; omega
theorem length_tot : ∀ X : List (List UInt8), X.length ≤ tot X
  | [] => Nat.le_refl _
  | x :: r => by
    have := length_tot r
    simp only [List.length_cons, tot]; omega
theorem byte_toNat {a : UInt8} {c : UInt8} : ((a.toNat : Int) == (c.toNat : Int)) = (a == c) := by
  rw [Bool.eq_iff_iff]
  simp only [beq_iff_eq]
  constructor
  · intro h; exact UInt8.toNat_inj.1 (by omega)
  · intro h; rw [h]
theorem drop_at {s : List UInt8} {i : Int} (h0 : 0 ≤ i) (h : i < len s) : s.drop i.toNat = s.getD i.toNat 0 :: s.drop (i + 1).toNat := by
  unfold len at h
  have e : (i + 1).toNat = i.toNat + 1 := by omega
  have hl : i.toNat < s.length := by omega
  rw [e, List.drop_eq_getElem_cons hl, List.getD_eq_getElem?_getD, List.getElem?_eq_getElem hl, Option.getD_some]
theorem part_succ {s : List UInt8} {a i : Int} (ha : 0 ≤ a) (hai : a ≤ i) (h : i < len s) : List.drop a.toNat (List.take (i + 1).toNat s) = List.drop a.toNat (List.take i.toNat s) ++ [s.getD i.toNat 0] := by
  unfold len at h
  have e : (i + 1).toNat = i.toNat + 1 := by omega
  have hl : i.toNat < s.length := by omega
  rw [e, List.take_succ_eq_append_getElem hl, List.drop_append_of_le_length (by rw [List.length_take]; omega), List.getD_eq_getElem?_getD, List.getElem?_eq_getElem hl, Option.getD_some]
theorem part_nil {s : List UInt8} {a : Int} : List.drop a.toNat (List.take a.toNat s) = [] := by
  refine List.drop_eq_nil_of_le ?_
  rw [List.length_take]; omega
def splI (c : UInt8) (s : List UInt8) (x : List (List UInt8) × Int × Int × Unit) : Prop :=
  0 ≤ x.2.1 ∧ x.2.1 ≤ x.2.2.1 ∧ ((x.2.2.1 ≤ len s ∧ x.1 ++ prep (List.drop x.2.1.toNat (List.take x.2.2.1.toNat s)) (splitB c (s.drop x.2.2.1.toNat)) = splitB c s) ∨ (x.2.2.1 = len s + 1 ∧ x.1 = splitB c s))
theorem splI_next {c : UInt8} {s : List UInt8} {x : List (List UInt8) × Int × Int × Unit} (hi : splI c s x) (hg : f34_L4_g (s, (c.toNat : Int), ()) x = true) : splI c s (f34_L4_next (s, (c.toNat : Int), ()) x) := by
  obtain ⟨a5, a6, a7, _⟩ := x
  have hg : a7 ≤ len s := of_decide_eq_true hg
  obtain ⟨h1, h2, h3⟩ := hi
  simp only at h1 h2 h3
  have h3 : a5 ++ prep (List.drop a6.toNat (List.take a7.toNat s)) (splitB c (s.drop a7.toNat)) = splitB c s := by
    rcases h3 with h3 | h3
    · exact h3.2
    · omega
  simp only [f34_L4_next, f34_L4t]
  by_cases he : a7 = len s
  · have hd : s.drop a7.toNat = [] := List.drop_eq_nil_of_le (by unfold len at he; omega)
    rw [hd] at h3
    have h3 : a5 ++ [List.drop a6.toNat (List.take a7.toNat s) ++ []] = splitB c s := h3
    rw [List.append_nil] at h3
    have : (a7 == len s) = true := by simpa using he
    rw [this]
    simp only [cond_true]
    exact ⟨(show 0 ≤ a7 + 1 by omega), Int.le_refl _, Or.inr ⟨(show a7 + 1 = len s + 1 by omega), h3⟩⟩
  · have hlt : a7 < len s := by omega
    have : (a7 == len s) = false := by simpa using he
    rw [this]
    simp only [cond_false]
    rw [drop_at (by omega) hlt, splitB_cons] at h3
    have hb : (byteAt s a7 == (c.toNat : Int)) = (s.getD a7.toNat 0 == c) := byte_toNat
    rw [hb]
    cases hc : s.getD a7.toNat 0 == c with
    | true =>
      rw [hc] at h3
      simp only [if_true] at h3
      simp only [cond_true]
      refine ⟨(show 0 ≤ a7 + 1 by omega), Int.le_refl _, Or.inl ⟨(show a7 + 1 ≤ len s by omega), ?_⟩⟩
      show (a5 ++ [List.drop a6.toNat (List.take a7.toNat s)]) ++ prep (List.drop (a7 + 1).toNat (List.take (a7 + 1).toNat s)) (splitB c (s.drop (a7 + 1).toNat)) = splitB c s
      rw [part_nil, prep_nil (splitB_ne c _), List.append_assoc, ← h3]
      simp [prep]
    | false =>
      rw [hc] at h3
      simp only [Bool.false_eq_true, if_false] at h3
      simp only [cond_false]
      refine ⟨h1, (show a6 ≤ a7 + 1 by omega), Or.inl ⟨(show a7 + 1 ≤ len s by omega), ?_⟩⟩
      show a5 ++ prep (List.drop a6.toNat (List.take (a7 + 1).toNat s)) (splitB c (s.drop (a7 + 1).toNat)) = splitB c s
      rw [part_succ h1 h2 hlt, ← h3, prep_prep]
theorem splI_start (c : UInt8) (s : List UInt8) : splI c s ([], 0, 0, ()) := by
  refine ⟨Int.le_refl _, Int.le_refl _, Or.inl ⟨len_nonneg s, ?_⟩⟩
  show [] ++ prep (List.drop (0 : Int).toNat (List.take (0 : Int).toNat s)) (splitB c (s.drop (0 : Int).toNat)) = splitB c s
  rw [part_nil, prep_nil (splitB_ne c _)]
  rfl
theorem splI_m {c : UInt8} {s : List UInt8} {x : List (List UInt8) × Int × Int × Unit} (hi : splI c s x) (hg : f34_L4_g (s, (c.toNat : Int), ()) x = true) : (len s + 1 - (f34_L4_next (s, (c.toNat : Int), ()) x).2.2.1).toNat < (len s + 1 - x.2.2.1).toNat := by
  have hg : x.2.2.1 ≤ len s := of_decide_eq_true hg
  show (len s + 1 - (x.2.2.1 + 1)).toNat < _
  have := hi.1
  omega
theorem f34_eq (c : UInt8) (s : List UInt8) (hs : len s < 9223372036854775808) : f34 s (c.toNat : Int) = splitB c s := by
  have h := loop_ind (g := f34_L4_g (s, (c.toNat : Int), ())) (next := f34_L4_next (s, (c.toNat : Int), ())) (splI c s) (fun x => (len s + 1 - x.2.2.1).toNat) (fun x hi hg => ⟨splI_next hi hg, splI_m hi hg⟩) (splI_start c s) (by simp only [fuel]; omega)
  show (loopEnd (f34_L4_g (s, (c.toNat : Int), ())) (f34_L4_next (s, (c.toNat : Int), ())) ([], 0, 0, ())).1 = splitB c s
  generalize loopEnd (f34_L4_g (s, (c.toNat : Int), ())) (f34_L4_next (s, (c.toNat : Int), ())) ([], 0, 0, ()) = e at h
  obtain ⟨⟨_, _, h3⟩, h4⟩ := h
  have h4 : ¬ e.2.2.1 ≤ len s := of_decide_eq_false h4
  rcases h3 with h3 | h3
  · exact absurd h3.1 h4
  · exact h3.2
theorem f34_all (c : UInt8) (s : List UInt8) (hs : len s ≤ 128) : f34_ok s (c.toNat : Int) := by
  refine ends_ind (splI c s) (fun x => (len s + 1 - x.2.2.1).toNat) (fun x hi => ?_) (fun x hi hg => ⟨splI_next hi hg, splI_m hi hg⟩) (splI_start c s) (by simp only [fuel]; omega)
  obtain ⟨a5, a6, a7, _⟩ := x
  obtain ⟨h1, h2, h3⟩ := hi
  simp only at h1 h2 h3
  intro hv
  have hv : a7 ≤ len s := of_decide_eq_true hv
  have h3 : a5 ++ prep (List.drop a6.toNat (List.take a7.toNat s)) (splitB c (s.drop a7.toNat)) = splitB c s := by
    rcases h3 with h3 | h3
    · exact h3.2
    · omega
  have hl := length_tot (splitB c s)
  rw [tot_split, ← h3, List.length_append] at hl
  have hll : len s = (s.length : Int) := rfl
  have hr : InR (a7 + 1) := inR (by omega) (by omega)
  refine ⟨fun g => ⟨(show 0 ≤ a7 by omega), (show a7 < len s from ?_)⟩, fun _ => ⟨⟨h1, h2, hv⟩, ?_, hr⟩, hr⟩
  · have g : (!(a7 == len s)) = true := g
    have : a7 ≠ len s := by simpa using g
    omega
  · show ((a5.length + 1 : Nat) : Int) ≤ 4294967296
    omega
theorem count_zero {c : UInt8} {l : List UInt8} (h : Lib.countByte l c = 0) : splitB c l = [l] := by
  refine splitB_none c l ?_
  unfold Lib.countByte at h
  induction l with
  | nil => rfl
  | cons b l ih =>
    rw [List.count_cons] at h
    have h1 : (b == c) = false := by
      cases hb : b == c with
      | false => rfl
      | true => rw [hb] at h; simp at h
    rw [h1] at h
    have := ih (by simpa using h)
    unfold Lib.indexByte
    rw [h1, this]
    simp
theorem count_at {c : UInt8} : ∀ {l : List UInt8} {i : Nat}, Lib.indexByte l c = i → Lib.countByte l c = 1 + Lib.countByte (l.drop (i + 1)) c
  | [], i, h => by simp only [Lib.indexByte] at h; omega
  | b :: l, i, h => by
    unfold Lib.indexByte at h
    unfold Lib.countByte
    rw [List.count_cons]
    by_cases hb : b == c
    · simp only [hb, if_true] at h ⊢
      have : i = 0 := by omega
      subst this
      simp; omega
    · simp only [hb, if_false, Bool.false_eq_true] at h ⊢
      by_cases hn : Lib.indexByte l c == -1
      · simp only [hn, if_true] at h; omega
      · simp only [hn, if_false, Bool.false_eq_true] at h
        have hge := Lib.indexByte_ge l c
        have hn' : Lib.indexByte l c ≠ -1 := by simpa using hn
        obtain ⟨k, hk⟩ : ∃ k : Nat, Lib.indexByte l c = k := ⟨(Lib.indexByte l c).toNat, by omega⟩
        have ih := count_at hk
        have : i = k + 1 := by omega
        subst this
        unfold Lib.countByte at ih
        rw [ih]; simp
theorem count_le (c : UInt8) (l : List UInt8) : Lib.countByte l c ≤ l.length := List.count_le_length
def libI (c : UInt8) (s : List UInt8) (x : List UInt8 × List (List UInt8) × Int × Unit) : Prop :=
  0 ≤ x.2.2.1 ∧ x.2.2.1 ≤ Lib.countByte s c ∧ x.2.1.length = Lib.countByte s c + 1 ∧ (Lib.countByte x.1 c : Int) = Lib.countByte s c - x.2.2.1 ∧ x.1.length ≤ s.length ∧ x.2.1.take x.2.2.1.toNat ++ splitB c x.1 = splitB c s
theorem take_set {X : List (List UInt8)} {k : Nat} {w : List UInt8} (h : k < X.length) : (X.set k w).take (k + 1) = X.take k ++ [w] := by
  rw [List.take_succ_eq_append_getElem (by simpa using h)]
  simp [List.take_set_of_le]
theorem libI_next {c : UInt8} {s : List UInt8} {k : Int} (hk : k = Lib.countByte s c) {x : List UInt8 × List (List UInt8) × Int × Unit} (hi : libI c s x) (hg : f50_L11_g ([c], 0, k, ()) x = true) :
    libI c s (f50_L11_next ([c], 0, k, ()) x) ∧ (k - (f50_L11_next ([c], 0, k, ()) x).2.2.1).toNat < (k - x.2.2.1).toNat := by
  obtain ⟨a0, a9, a10, _⟩ := x
  obtain ⟨h1, h2, h3, h4, h5, h6⟩ := hi
  simp only at h1 h2 h3 h4 h5 h6
  simp only [f50_L11_g, f50_L11t, Bool.and_eq_true, decide_eq_true_eq, Bool.not_eq_true', decide_eq_false_iff_not] at hg
  obtain ⟨hg1, hg2⟩ := hg
  have hg2 : ¬ Lib.indexByte a0 c < 0 := hg2
  obtain ⟨i, hii⟩ : ∃ i : Nat, Lib.indexByte a0 c = i := ⟨(Lib.indexByte a0 c).toNat, by omega⟩
  have hs := splitB_at c a0 i hii
  have hc := count_at hii
  have e82 : f66 a0 [c] = i := hii
  simp only [f50_L11_next, f50_L11t, e82]
  have e0 : ((i : Int) + 0).toNat = i := by omega
  have e1 : ((i : Int) + len [c]).toNat = i + 1 := by show ((i : Int) + 1).toNat = _; omega
  have ek : (a10 + 1).toNat = a10.toNat + 1 := by omega
  rw [e0, e1]
  refine ⟨⟨(show 0 ≤ a10 + 1 by omega), (show a10 + 1 ≤ _ by omega), ?_, ?_, ?_, ?_⟩, (show (k - (a10 + 1)).toNat < (k - a10).toNat by omega)⟩
  · simpa using h3
  · show (Lib.countByte (a0.drop (i + 1)) c : Int) = Lib.countByte s c - (a10 + 1)
    omega
  · show (a0.drop (i + 1)).length ≤ s.length
    rw [List.length_drop]; omega
  · show (a9.set a10.toNat (a0.take i)).take (a10 + 1).toNat ++ splitB c (a0.drop (i + 1)) = splitB c s
    rw [ek, take_set (by omega), List.append_assoc, ← h6, hs.1]
    rfl
theorem libI_start (c : UInt8) (s : List UInt8) : libI c s (s, List.replicate (Lib.countByte s c + 1) [], 0, ()) := by
  refine ⟨Int.le_refl _, (show (0 : Int) ≤ _ by omega), by simp, (show (Lib.countByte s c : Int) = Lib.countByte s c - 0 by omega), Nat.le_refl _, ?_⟩
  show (List.replicate (Lib.countByte s c + 1) []).take (0 : Int).toNat ++ splitB c s = splitB c s
  rfl
theorem lib_n (c : UInt8) (s : List UInt8) : imin ((Lib.countByte s c : Int) + 1) (len s + 1) = (Lib.countByte s c : Int) + 1 := by
  have := count_le c s
  unfold imin len
  split <;> omega
theorem f27_eq (c : UInt8) (s : List UInt8) (hs : len s < 9223372036854775808) : f27 s [c] = splitB c s := by
  have hcl := count_le c s
  have hll : len s = (s.length : Int) := rfl
  have h := loop_ind (g := f50_L11_g ([c], 0, (Lib.countByte s c : Int), ())) (next := f50_L11_next ([c], 0, (Lib.countByte s c : Int), ())) (libI c s) (fun x => ((Lib.countByte s c : Int) - x.2.2.1).toNat) (fun x hi hg => libI_next rfl hi hg) (libI_start c s) (by simp only [fuel]; omega)
  have e84 : f68 s [c] = (Lib.countByte s c : Int) := rfl
  have eb : ([c] == ([] : List UInt8)) = false := rfl
  have en : Int.toNat ((Lib.countByte s c : Int) + 1) = Lib.countByte s c + 1 := by omega
  have em : (Lib.countByte s c : Int) + 1 - 1 = (Lib.countByte s c : Int) := by omega
  have e1 : ((-1 : Int) == 0) = false := rfl
  have e2 : decide ((-1 : Int) < 0) = true := rfl
  simp only [f27, f27t, f50, f50t, e84, eb, e1, e2, cond_false, cond_true, lib_n, en, em]
  generalize loopEnd (f50_L11_g ([c], 0, (Lib.countByte s c : Int), ())) (f50_L11_next ([c], 0, (Lib.countByte s c : Int), ())) (s, List.replicate (Lib.countByte s c + 1) [], 0, ()) = e at h
  obtain ⟨a0, a9, a10, _⟩ := e
  obtain ⟨⟨h1, h2, h3, h4, h5, h6⟩, h7⟩ := h
  simp only at h1 h2 h3 h4 h5 h6
  have hone : splitB c a0 = [a0] := by
    simp only [f50_L11_g, f50_L11t, Bool.and_eq_false_iff, decide_eq_false_iff_not, Bool.not_eq_false', decide_eq_true_eq] at h7
    rcases h7 with h7 | h7
    · exact count_zero (by omega)
    · have h7 : Lib.indexByte a0 c < 0 := h7
      have := Lib.indexByte_ge a0 c
      exact splitB_none c a0 (by omega)
  show (a9.set a10.toNat a0).take (a10 + 1).toNat = splitB c s
  have ek : (a10 + 1).toNat = a10.toNat + 1 := by omega
  rw [ek, take_set (by omega), ← hone, h6]
theorem f27_all (c : UInt8) (s : List UInt8) (hs : len s ≤ 128) : f27_ok s [c] := by
  have hcl := count_le c s
  have hll : len s = (s.length : Int) := rfl
  have e84 : f68 s [c] = (Lib.countByte s c : Int) := rfl
  have eb : ([c] == ([] : List UInt8)) = false := rfl
  have en : Int.toNat ((Lib.countByte s c : Int) + 1) = Lib.countByte s c + 1 := by omega
  have em : (Lib.countByte s c : Int) + 1 - 1 = (Lib.countByte s c : Int) := by omega
  have e1 : ((-1 : Int) == 0) = false := rfl
  have e2 : decide ((-1 : Int) < 0) = true := rfl
  have h := loop_ind (g := f50_L11_g ([c], 0, (Lib.countByte s c : Int), ())) (next := f50_L11_next ([c], 0, (Lib.countByte s c : Int), ())) (libI c s) (fun x => ((Lib.countByte s c : Int) - x.2.2.1).toNat) (fun x hi hg => libI_next rfl hi hg) (libI_start c s) (by simp only [fuel]; omega)
  have hE : Am.Ends (f50_L11_g ([c], 0, (Lib.countByte s c : Int), ())) (f50_L11_next ([c], 0, (Lib.countByte s c : Int), ())) (f50_L11_ok ([c], 0, (Lib.countByte s c : Int), ())) (s, List.replicate (Lib.countByte s c + 1) [], 0, ()) := by
    refine ends_ind (libI c s) (fun x => ((Lib.countByte s c : Int) - x.2.2.1).toNat) (fun x hi => ?_) (fun x hi hg => libI_next rfl hi hg) (libI_start c s) (by simp only [fuel]; omega)
    obtain ⟨a0, a9, a10, _⟩ := x
    obtain ⟨h1, h2, h3, h4, h5, h6⟩ := hi
    simp only at h1 h2 h3 h4 h5 h6
    intro hv
    have hv : a10 < (Lib.countByte s c : Int) := of_decide_eq_true hv
    refine ⟨rfl, fun g => ?_⟩
    have g : (!decide (Lib.indexByte a0 c < 0)) = true := g
    have g : ¬ Lib.indexByte a0 c < 0 := by simpa using g
    obtain ⟨i, hii⟩ : ∃ i : Nat, Lib.indexByte a0 c = i := ⟨(Lib.indexByte a0 c).toNat, by omega⟩
    have hs := splitB_at c a0 i hii
    have e82 : f66 a0 [c] = i := hii
    have hla : len a0 = (a0.length : Int) := rfl
    have hl9 : len a9 = (a9.length : Int) := rfl
    have hone : len [c] = 1 := rfl
    simp only [e82, hone]
    exact ⟨inR (by omega) (by omega), ⟨by omega, by omega⟩, ⟨by omega, by omega⟩, by omega, inR (by omega) (by omega), ⟨by omega, by omega⟩, inR (by omega) (by omega)⟩
  simp only [f27_ok, f27t, f50_ok, f50t, e84, eb, e1, e2, cond_true, lib_n, en, em]
  generalize loopEnd (f50_L11_g ([c], 0, (Lib.countByte s c : Int), ())) (f50_L11_next ([c], 0, (Lib.countByte s c : Int), ())) (s, List.replicate (Lib.countByte s c + 1) [], 0, ()) = e at h
  obtain ⟨a0, a9, a10, _⟩ := e
  obtain ⟨⟨h1, h2, h3, h4, h5, h6⟩, h7⟩ := h
  simp only at h1 h2 h3 h4 h5 h6
  have hl9 : len a9 = (a9.length : Int) := rfl
  have hset : len (a9.set a10.toNat a0) = (a9.length : Int) := by unfold len; rw [List.length_set]
  refine fun _ => ⟨fun g => absurd g (by simp), fun _ => ⟨fun _ => ⟨rfl, inR (by omega) (by omega)⟩, inR (by omega) (by omega), ⟨by omega, by omega, by omega⟩, inR (by omega) (by omega), hE, ?_⟩⟩
  show InB a10 (len a9) ∧ a10 < len a9 ∧ InR (a10 + 1) ∧ 0 ≤ a10 + 1 ∧ a10 + 1 ≤ len (a9.set a10.toNat a0)
  rw [hset]
  exact ⟨⟨by omega, by omega⟩, by omega, inR (by omega) (by omega), by omega, by omega⟩
end Go.Proofs.YtdgfchmfajmkiaaDoor.Am
