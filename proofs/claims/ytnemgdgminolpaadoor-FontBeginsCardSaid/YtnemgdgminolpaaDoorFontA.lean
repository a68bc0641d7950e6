/- Font: the outline of a text begins with that of its first line. No condition. -/
import Derived.Test.YtnemgdgminolpaaDoorFontP3
import Derived.Test.YtnemgdgminolpaaDoorFontK
import Derived.Test.YtnemgdgminolpaaDoorFontO
namespace Go.Proofs.YtnemgdgminolpaaDoor.Am
open Go Go.Am
theorem words_true {f : List UInt8 → Bool} (hf : ∀ s, f s = true) : ∀ (ws a : List (List UInt8)) (b : List UInt8), ws.foldl (word f) (a, b) = (a, b ++ ws.flatMap (fun w => 32 :: w))
  | [], a, b => by simp
  | w :: r, a, b => by
    have e : word f (a, b) w = (a, b ++ [32] ++ w) := by unfold word; simp only [hf, cond_true]
    rw [List.foldl_cons, e, words_true hf r]
    simp
theorem part_true {f : List UInt8 → Bool} (hf : ∀ s, f s = true) (l : List (List UInt8)) (q : List UInt8) : partL f l q = l ++ [q] := by
  obtain ⟨w, r, e, h⟩ := split_cat 32 q
  unfold partL
  rw [e, List.tail_cons, List.headD_cons, words_true hf, ← h]
theorem parts_true {f : List UInt8 → Bool} (hf : ∀ s, f s = true) : ∀ (ps l : List (List UInt8)), ps.foldl (partL f) l = l ++ ps
  | [], l => by simp
  | q :: r, l => by rw [List.foldl_cons, part_true hf, parts_true hf r]; simp
theorem lines_true {f : List UInt8 → Bool} (hf : ∀ s, f s = true) (s : List UInt8) : linesOf f s = splitB 10 s := by
  unfold linesOf
  rw [parts_true hf, List.nil_append]
theorem fit0 (p : D25) (z : Int) (s : List UInt8) : fitR p z 0 s = true := rfl
theorem split_one {c : UInt8} {w : List UInt8} (h : c ∉ w) : splitB c w = [w] := by
  refine count_zero ?_
  unfold Lib.countByte
  exact List.count_eq_zero.2 h
theorem first_line (d : D31) (X : List (List D48)) (hs : len d.2.1 < 9223372036854775808) :
    ∃ w r, splitB 10 d.2.1 = w :: r ∧ (10 : UInt8) ∉ w ∧ (loopEnd (f8_L5_g (d, X, ())) (f8_L5_next (d, X, ())) (0, ())).1 = len w ∧ List.take w.length d.2.1 = w ∧ w.length ≤ d.2.1.length ∧ (∀ i : Int, 0 ≤ i → i < len w → byteAt w i = byteAt d.2.1 i) := by
  obtain ⟨w, r, e, h⟩ := split_cat 10 d.2.1
  have hno : (10 : UInt8) ∉ w := split_no 10 d.2.1 w (by rw [e]; exact List.mem_cons_self ..)
  have htake : List.take w.length d.2.1 = w := by rw [h]; exact List.take_left' rfl
  have hle : w.length ≤ d.2.1.length := by rw [h, List.length_append]; omega
  have hat : ∀ i : Int, 0 ≤ i → i < len w → byteAt w i = byteAt d.2.1 i := by
    intro i i1 i2
    unfold len at i2
    unfold byteAt
    have hl : i.toNat < w.length := by omega
    rw [List.getD_eq_getElem?_getD, List.getD_eq_getElem?_getD]
    conv => rhs; rw [h]
    rw [List.getElem?_append_left hl]
  obtain ⟨j, j1, j2, j3, j4, j5⟩ := scan (g := f8_L5_g (d, X, ())) (next := f8_L5_next (d, X, ())) (n := len d.2.1) (c := fun i => byteAt d.2.1 i == 10) (len_nonneg _) hs (fun x => by
    show (bif decide (x.1 < len d.2.1) then byteAt d.2.1 x.1 != 10 else false) = _
    cases decide (x.1 < len d.2.1) <;> rfl) (fun _ => rfl)
  refine ⟨w, r, e, hno, ?_, htake, hle, hat⟩
  rw [j3]
  show j = len w
  have hwl : len w = (w.length : Int) := rfl
  have hdl : len d.2.1 = (d.2.1.length : Int) := rfl
  by_cases hlt : j < len w
  · have h5 : (byteAt d.2.1 j == 10) = true := j5 (by omega)
    rw [← hat j j1 hlt] at h5
    exact absurd (byte_mem (c := 10) j1 hlt (by simpa using h5)) hno
  · by_cases hgt : len w < j
    · have h4 : (byteAt d.2.1 (len w) == 10) = false := j4 (len w) (len_nonneg w) hgt
      cases r with
      | nil =>
        have : d.2.1 = w := by rw [h]; simp
        rw [this] at hdl j2
        omega
      | cons m r =>
        have h10 : byteAt d.2.1 (len w) = 10 := by
          unfold byteAt
          rw [hwl, Int.toNat_natCast, List.getD_eq_getElem?_getD]
          conv => lhs; rw [h]
          rw [List.getElem?_append_right (Nat.le_refl _)]
          simp
        rw [h10] at h4
        cases h4
    · omega
theorem err_first {p : D25} {s w : List UInt8} {z : Int} (h : errT p s z 0 = 0) (hle : w.length ≤ s.length) (hat : ∀ i : Int, 0 ≤ i → i < len w → byteAt w i = byteAt s i) : errT p w z 0 = 0 := by
  have hF := fine_of h
  unfold errT at h ⊢
  have h0 : (f12 p != 0) = false := by rw [hF.font]; rfl
  rw [h0] at h ⊢
  simp only [cond_false] at h ⊢
  have ha : anyI (len s) (badB s) = false := by
    cases ha : anyI (len s) (badB s) with
    | false => rfl
    | true => rw [ha] at h; simp only [cond_true] at h; exact absurd h (by decide)
  have hb : anyI (len w) (badB w) = false := by
    cases hb : anyI (len w) (badB w) with
    | false => rfl
    | true =>
      obtain ⟨i, i1, i2, i3⟩ := anyI_iff.1 hb
      have : badB s i = true := by
        unfold badB at i3 ⊢
        rw [← hat i i1 i2]
        exact i3
      have := anyI_iff.2 ⟨i, i1, (show i < len s by unfold len at *; omega), this⟩
      rw [ha] at this
      cases this
  have hsl : decide (len s > 128) = false := by have := hF.short; simp only [decide_eq_false_iff_not]; unfold len; omega
  have hwl : decide (len w > 128) = false := by have := hF.short; simp only [decide_eq_false_iff_not]; unfold len; omega
  rw [ha, hsl] at h
  rw [hb, hwl]
  exact h
def preS (a b : S2) : Prop := a.1 <+: b.1
theorem pre18 {z : Int} {p : D25} {n : Int} {g : D48} (k : Nat) (s : S2) (e : List D48) (s' : S2) (h : st18 z p n g k s e = some s') : preS s s' := by
  unfold st18 at h
  cases hd : decide (s.2 + len e > 4096) with
  | true => rw [hd] at h; cases h
  | false =>
    rw [hd] at h
    simp only [cond_false, Option.some.injEq] at h
    subst h
    exact List.prefix_append ..
theorem preS_trans (a b c : S2) (h1 : preS a b) (h2 : preS b c) : preS a c := List.IsPrefix.trans h1 h2
theorem pre12 {z : Int} {p : D25} {n : Int} (k : Nat) (s : S2) (g : D48) (s' : S2) (h : st12 z p n k s g = some s') : preS s s' := by
  unfold st12 at h
  cases hd : (f43 (segsOf p g)).2.1 != 0 with
  | true => rw [hd] at h; cases h
  | false =>
    rw [hd] at h
    exact runI_pre preS (fun s => List.prefix_refl s.1) preS_trans pre18 _ _ _ _ h
theorem pre8 {z : Int} {p : D25} {d : D91} (k : Nat) (s : S2) (l : List UInt8) (s' : S2) (h : st8 z p d k s l = some s') : preS s s' :=
  runI_pre preS (fun s => List.prefix_refl s.1) preS_trans pre12 _ _ _ _ h
theorem eqb48 (x : D48) : Ty.eqb T48 x x = true := by
  simp [Ty.eqb]
theorem in_self (l : List (List D48)) (i : Int) (h1 : 0 ≤ i) (h2 : i < len l) (hq : len (nth l i []) ≤ 4096) : f22_L9_e4 (l, l, i, ()) (loopEnd (f22_L9_g (l, l, i, ())) (f22_L9_next (l, l, i, ())) (0, ())) = true ∧ Am.Ends (f22_L9_g (l, l, i, ())) (f22_L9_next (l, l, i, ())) (f22_L9_ok (l, l, i, ())) (0, ()) := by
  have hg : ∀ x : Int × Unit, f22_L9_g (l, l, i, ()) x = (decide (x.1 < len (nth l i [])) && !(!(Ty.eqb T48 (nth (nth l i []) x.1 Z48) (nth (nth l i []) x.1 Z48)))) := fun _ => rfl
  refine ⟨?_, ?_⟩
  · have h := scan_both (g := f22_L9_g (l, l, i, ())) (next := f22_L9_next (l, l, i, ())) (n := len (nth l i [])) (c := fun k => !(Ty.eqb T48 (nth (nth l i []) k Z48) (nth (nth l i []) k Z48))) (len_nonneg _) (by omega) hg (fun _ => rfl)
    have hz : anyI (len (nth l i [])) (fun k => !(Ty.eqb T48 (nth (nth l i []) k Z48) (nth (nth l i []) k Z48))) = false := by
      unfold anyI
      rw [List.any_eq_false]
      intro k _
      show ¬ (!(Ty.eqb T48 (nth (nth l i []) (k : Int) Z48) (nth (nth l i []) (k : Int) Z48))) = true
      rw [eqb48]
      simp
    rw [hz] at h
    exact h
  · refine scan_ends (n := len (nth l i [])) (len_nonneg _) (by omega) (fun x hx => ?_) (fun _ => rfl) (fun x k1 k2 => ?_)
    · rw [hg, Bool.and_eq_true] at hx
      exact of_decide_eq_true hx.1
    · refine ⟨⟨h1, h2⟩, fun hv => ?_⟩
      have hv : x.1 < len (nth l i []) := of_decide_eq_true hv
      exact ⟨⟨h1, h2⟩, ⟨k1, hv⟩, ⟨h1, h2⟩, ⟨k1, hv⟩, fun _ => (show InR (x.1 + 1) from inR (by omega) (by omega))⟩
theorem nth_few {l : List (List D48)} (hq : ∀ q ∈ l, len q ≤ 4096) (i : Int) : len (nth l i []) ≤ 4096 := by
  rcases nth_cases l i [] with e | e
  · rw [e]; decide
  · exact hq _ e
theorem polys_self (l : List (List D48)) (hl : len l ≤ 4096) (hq : ∀ q ∈ l, len q ≤ 4096) : f22 l l = true ∧ f22_ok l l := by
  have hne : (len l != len l) = false := by simp
  have hend := loop_ind (g := f22_L4_g (l, l, ())) (next := f22_L4_next (l, l, ())) (fun x => 0 ≤ x.1 ∧ x.1 ≤ len l) (fun x => (len l - x.1).toNat) (fun x hi hg => by
    have hg : (decide (x.1 < len l) && _) = true := hg
    rw [Bool.and_eq_true] at hg
    have := of_decide_eq_true hg.1
    exact ⟨⟨(show 0 ≤ x.1 + 1 by omega), (show x.1 + 1 ≤ len l by omega)⟩, (show (len l - (x.1 + 1)).toNat < _ by omega)⟩) (x := (0, ())) ⟨by simp, len_nonneg l⟩ (by simp only [fuel]; omega)
  refine ⟨?_, fun _ => ?_⟩
  · have he : f22_L4_e1 (l, l, ()) (loopEnd (f22_L4_g (l, l, ())) (f22_L4_next (l, l, ())) (0, ())) = false := by
      generalize loopEnd (f22_L4_g (l, l, ())) (f22_L4_next (l, l, ())) (0, ()) = x at hend
      obtain ⟨⟨x1, x2⟩, hg⟩ := hend
      have hnx : (len (nth l x.1 []) != len (nth l x.1 [])) = false := by simp
      by_cases hx : x.1 < len l
      · have h9 := (in_self l x.1 x1 hx (nth_few hq _)).1
        have hg : (decide (x.1 < len l) && ((!(len (nth l x.1 []) != len (nth l x.1 []))) && f22_L9_e4 (l, l, x.1, ()) (loopEnd (f22_L9_g (l, l, x.1, ())) (f22_L9_next (l, l, x.1, ())) (0, ())))) = false := hg
        rw [h9, hnx, decide_eq_true hx] at hg
        cases hg
      · have : decide (x.1 < len l) = false := decide_eq_false hx
        show (decide (x.1 < len l) && _) = false
        rw [this, Bool.false_and]
    simp only [f22, he, hne, cond_false]
  · refine ends_ind (fun x => 0 ≤ x.1 ∧ x.1 ≤ len l) (fun x => (len l - x.1).toNat) (fun x hi => ?_) (fun x hi hg => ?_) ⟨by simp, len_nonneg l⟩ (by simp only [fuel]; omega)
    · intro hv
      have hv : x.1 < len l := of_decide_eq_true hv
      exact ⟨⟨hi.1, hv⟩, ⟨hi.1, hv⟩, fun _ => (in_self l x.1 hi.1 hv (nth_few hq _)).2, fun _ => (show InR (x.1 + 1) from inR (by omega) (by omega))⟩
    · have hg : (decide (x.1 < len l) && _) = true := hg
      rw [Bool.and_eq_true] at hg
      have := of_decide_eq_true hg.1
      exact ⟨⟨(show 0 ≤ x.1 + 1 by omega), (show x.1 + 1 ≤ len l by omega)⟩, (show (len l - (x.1 + 1)).toNat < _ by omega)⟩
theorem begins_eq {d : D31} (hp : Known d.1) (hs : len d.2.1 < 9223372036854775808) (ht : f13 = true) (ho : f13_ok) : f8_ok d ∧ f8 d = true := by
  obtain ⟨o1, h1, h2⟩ := f20_all hp d.2.1 d.2.2.1 0 hs
  have hE : ∀ X, Am.Ends (f8_L5_g (d, X, ())) (f8_L5_next (d, X, ())) (f8_L5_ok (d, X, ())) (0, ()) := fun X => by
    have hg : ∀ x : Int × Unit, f8_L5_g (d, X, ()) x = (bif decide (x.1 < len d.2.1) then byteAt d.2.1 x.1 != 10 else false) := fun _ => rfl
    have hlt : ∀ x : Int × Unit, (bif decide (x.1 < len d.2.1) then byteAt d.2.1 x.1 != 10 else false) = true → x.1 < len d.2.1 := fun x hx => by
      cases hd : decide (x.1 < len d.2.1) with
      | true => exact of_decide_eq_true hd
      | false => rw [hd] at hx; cases hx
    refine scan_ends (n := len d.2.1) (len_nonneg _) hs (fun x hx => ?_) (fun _ => rfl) (fun x k1 k2 => ?_)
    · rw [hg] at hx; exact hlt x hx
    · exact ⟨fun hv => ⟨k1, of_decide_eq_true hv⟩, fun hv => (show InR (x.1 + 1) from inR (by omega) (by have := hlt x hv; omega))⟩
  obtain ⟨w, r, e, hno, hj, htake, hle, hat⟩ := first_line d (f20 d.1 d.2.1 d.2.2.1 0).1 hs
  have hwl : len w = (w.length : Int) := rfl
  have hdl : len d.2.1 = (d.2.1.length : Int) := rfl
  have hcut : List.take (Int.toNat (len w)) d.2.1 = w := by rw [hwl, Int.toNat_natCast]; exact htake
  obtain ⟨p1, p2, p3⟩ := f20_all hp w d.2.2.1 0 (by omega)
  have hx : f8_L5_x2_0 (d, (f20 d.1 d.2.1 d.2.2.1 0).1, ()) (loopEnd (f8_L5_g (d, (f20 d.1 d.2.1 d.2.2.1 0).1, ())) (f8_L5_next (d, (f20 d.1 d.2.1 d.2.2.1 0).1, ())) (0, ())) = len w := hj
  by_cases hz : (f20 d.1 d.2.1 d.2.2.1 0).2.1 = 0
  · have herr : errT d.1 d.2.1 d.2.2.1 0 = 0 := by
      by_cases h : errT d.1 d.2.1 d.2.2.1 0 = 0
      · exact h
      · exact absurd hz (h1 h)
    have herr' := err_first herr hle hat
    have hF := fine_of herr
    obtain ⟨h3, h4⟩ := h2 herr
    obtain ⟨q3, _⟩ := p3 herr'
    rw [lines_true (fit0 d.1 d.2.2.1), e] at h3 h4
    rw [lines_true (fit0 d.1 d.2.2.1), split_one hno] at q3
    cases hrun : runI (st8 d.2.2.1 d.1 (f32 d.1)) 0 (w :: r) ([], 0) with
    | none => have := h4 hrun; rw [hz] at this; cases this
    | some S =>
      have e20 := h3 S hrun
      simp only [runI, Option.bind_eq_some_iff] at hrun
      obtain ⟨s1, k1, k2⟩ := hrun
      have e20' := q3 s1 (by simp only [runI, k1]; rfl)
      obtain ⟨t, htt⟩ := runI_pre preS (fun s => List.prefix_refl s.1) preS_trans pre8 _ _ _ _ k2
      have hout : outI s1 := st8_inv (by omega) ⟨Int.le_refl _, by decide, fun q hq => by cases hq⟩ (line_ok hp hF.font hF.size (s := w) (by have := hF.short; omega)) k1
      have hself := polys_self s1.1 (by have := hout.1; have := hout.2.1; omega) hout.2.2
      have htk : List.take (Int.toNat (len s1.1)) S.1 = s1.1 := by
        rw [← htt]
        unfold len
        rw [Int.toNat_natCast]
        exact List.take_left' rfl
      have hle2 : len s1.1 ≤ len S.1 := by
        rw [← htt]; unfold len; rw [List.length_append]; omega
      refine ⟨?_, ?_⟩
      · simp only [f8_ok, hx, hcut, e20']
        rw [e20] at hx ⊢
        refine ⟨o1, fun _ => ho, fun _ => ⟨hE _, ?_, ?_, ?_, ?_, fun _ => ho⟩⟩
        · exact ⟨len_nonneg w, by omega⟩
        · exact p1
        · intro _; exact ⟨len_nonneg s1.1, hle2⟩
        · intro _
          show f22_ok (List.take (Int.toNat (len s1.1)) S.1) s1.1
          rw [htk]
          exact hself.2
      · simp only [f8, hx, hcut, e20']
        rw [e20]
        simp only [htk, hself.1, ht]
        simp [hle2]
  · have hn : ((f20 d.1 d.2.1 d.2.2.1 0).2.1 != 0) = true := by simpa using hz
    refine ⟨⟨o1, fun _ => ho, fun g => ?_⟩, ?_⟩
    · have g : (!((f20 d.1 d.2.1 d.2.2.1 0).2.1 != 0)) = true := g
      rw [hn] at g
      cases g
    · simp only [f8, hn, ht, cond_true]
end Go.Proofs.YtnemgdgminolpaaDoor.Am
