/- Font: the loop over the lines of a text. No condition. -/
import Derived.Test.YtnemgdgminolpaaDoorFontR
namespace Go.Proofs.YtnemgdgminolpaaDoor.Am
open Go Go.Am
theorem byte_mem {l : List UInt8} {i : Int} (h0 : 0 ≤ i) (h : i < len l) {c : UInt8} (hb : byteAt l i = (c.toNat : Int)) : c ∈ l := by
  unfold len at h
  have hl : i.toNat < l.length := by omega
  unfold byteAt at hb
  rw [List.getD_eq_getElem?_getD, List.getElem?_eq_getElem hl, Option.getD_some] at hb
  have : l[i.toNat] = c := UInt8.toNat_inj.1 (by omega)
  rw [← this]
  exact List.getElem_mem hl
def y18 (d : D31) (L : List (List UInt8)) (m i : Int) : D31 × List (List UInt8) × Int × Int × Int × Unit := (d, L, m, i, len (nth L i []), ())
def e18 (d : D31) (L : List (List UInt8)) (m i : Int) : Bool × Int × Unit := loopEnd (f7_L18_g (y18 d L m i)) (f7_L18_next (y18 d L m i)) (false, 0, ())
def byteI (l : List UInt8) (x : Bool × Int × Unit) : Prop := 0 ≤ x.2.1 ∧ x.2.1 ≤ len l ∧ (x.1 = true → (32 : UInt8) ∈ l)
theorem byteI_next {d : D31} {L : List (List UInt8)} {m i : Int} {x : Bool × Int × Unit} (h : byteI (nth L i []) x) (hg : f7_L18_g (y18 d L m i) x = true) :
    byteI (nth L i []) (f7_L18_next (y18 d L m i) x) ∧ (len (nth L i []) - (f7_L18_next (y18 d L m i) x).2.1).toNat < (len (nth L i []) - x.2.1).toNat := by
  obtain ⟨b, k, _⟩ := x
  obtain ⟨h1, h2, h3⟩ := h
  simp only at h1 h2 h3
  have hg : (decide (k < len (nth L i [])) && !(byteAt (nth L i []) k == 10)) = true := hg
  simp only [Bool.and_eq_true, decide_eq_true_eq] at hg
  have hgk := hg.1
  refine ⟨⟨(show 0 ≤ k + 1 by omega), (show k + 1 ≤ _ by omega), fun hb => ?_⟩, (show (len (nth L i []) - (k + 1)).toNat < (len (nth L i []) - k).toNat by omega)⟩
  have hb : (bif b then true else byteAt (nth L i []) k == 32) = true := hb
  cases b with
  | true => exact h3 rfl
  | false => exact byte_mem h1 hgk (by simpa using hb)
theorem byteI_end {d : D31} {L : List (List UInt8)} {m i : Int} (hl : len (nth L i []) < 9223372036854775808) (h10 : (10 : UInt8) ∉ nth L i []) :
    (f7_L18_e4 (y18 d L m i) (e18 d L m i) = true ∧ (f7_L18_x4_0 (y18 d L m i) (e18 d L m i) = true → (32 : UInt8) ∈ nth L i [])) := by
  have h := loop_ind (g := f7_L18_g (y18 d L m i)) (next := f7_L18_next (y18 d L m i)) (byteI (nth L i [])) (fun x => (len (nth L i []) - x.2.1).toNat) (fun x hi hg => byteI_next hi hg) (x := (false, 0, ())) ⟨Int.le_refl _, len_nonneg _, fun h => absurd h (by decide)⟩ (by simp only [fuel]; omega)
  unfold e18
  generalize loopEnd (f7_L18_g (y18 d L m i)) (f7_L18_next (y18 d L m i)) (false, 0, ()) = x at h
  obtain ⟨b, k, _⟩ := x
  obtain ⟨⟨h1, h2, h3⟩, h4⟩ := h
  simp only at h1 h2 h3
  have h4 : (decide (k < len (nth L i [])) && !(byteAt (nth L i []) k == 10)) = false := h4
  have hk : ¬ k < len (nth L i []) := by
    intro hk
    have : byteAt (nth L i []) k = 10 := by simpa [hk] using h4
    exact h10 (byte_mem h1 hk this)
  refine ⟨?_, h3⟩
  show (!decide (k < len (nth L i []))) = true
  simp [hk]
theorem byteI_ends {d : D31} {L : List (List UInt8)} {m i : Int} (hi : 0 ≤ i ∧ i < len L) (hl : len (nth L i []) < 9223372036854775808) : Am.Ends (f7_L18_g (y18 d L m i)) (f7_L18_next (y18 d L m i)) (f7_L18_ok (y18 d L m i)) (false, 0, ()) := by
  refine ends_ind (byteI (nth L i [])) (fun x => (len (nth L i []) - x.2.1).toNat) (fun x h => ?_) (fun x h hg => byteI_next h hg) ⟨Int.le_refl _, len_nonneg _, fun h => absurd h (by decide)⟩ (by simp only [fuel]; omega)
  obtain ⟨b, k, _⟩ := x
  obtain ⟨h1, h2, h3⟩ := h
  simp only at h1 h2 h3
  intro hv
  have hv : k < len (nth L i []) := of_decide_eq_true hv
  exact ⟨hi, ⟨h1, hv⟩, fun _ => ⟨fun _ => hi, fun _ => ⟨h1, hv⟩⟩, fun _ => (show InR (k + 1) from inR (by omega) (by omega))⟩
def w56 (d : D31) (L : List (List UInt8)) (k i : Int) : Bool := bif decide (len (nth L i []) > len d.2.1 - k) then true else !(nth L i [] == List.drop (Int.toNat k) (List.take (Int.toNat (k + len (nth L i []))) d.2.1))
def w88 (d : D31) (L : List (List UInt8)) (k i : Int) : Bool := bif decide (k + len (nth L i []) ≥ len d.2.1) then true else bif byteAt d.2.1 (k + len (nth L i [])) != 10 then (bif byteAt d.2.1 (k + len (nth L i [])) != 32 then true else d.2.2.2.1 == 0) else false
def w5 (L : List (List UInt8)) (k i : Int) : Int := bif decide (i + 1 < len L) then k + len (nth L i []) + 1 else k + len (nth L i [])
def w132 (d : D31) (L : List (List UInt8)) (k i : Int) : Bool := bif (bif f7_L18_x4_0 (y18 d L (w5 L k i) i) (e18 d L (w5 L k i) i) then decide (d.2.2.2.1 > 0) else false) then decide (f15 d.1 (nth L i []) d.2.2.1 > d.2.2.2.1) else false
theorem g7 (d : D31) (L : List (List UInt8)) (k i : Int) : f7_L6_g (d, L, ()) (k, i, ()) = (decide (i < len L) && ((!w56 d L k i) && ((bif decide (i + 1 < len L) then !w88 d L k i else true) && (f7_L18_e4 (y18 d L (w5 L k i) i) (e18 d L (w5 L k i) i) && !w132 d L k i)))) := rfl
section
variable {d : D31} {L : List (List UInt8)} {k i : Int}
theorem w56_no {wrap : Int} {f : List UInt8 → Bool} (h : Meets wrap f L d.2.1 k i) : w56 d L k i = false := by
  have h1 : decide (len (nth L i []) > len d.2.1 - k) = false := by
    have := h.fit
    simp only [decide_eq_false_iff_not]; omega
  unfold w56
  rw [h1, h.same]
  simp
theorem w88_no {f : List UInt8 → Bool} (h : Meets d.2.2.2.1 f L d.2.1 k i) (hm : i + 1 < len L) : w88 d L k i = false := by
  obtain ⟨h1, h2, _⟩ := h.more hm
  have hd : decide (k + len (nth L i []) ≥ len d.2.1) = false := by simp only [decide_eq_false_iff_not]; omega
  unfold w88
  rw [hd]
  rcases h2 with h2 | ⟨h2, h3⟩
  · rw [h2]; rfl
  · rw [h2]
    have : (d.2.2.2.1 == 0) = false := by simpa using h3
    rw [this]
    rfl
theorem w132_no (h : Meets d.2.2.2.1 (fitR d.1 d.2.2.1 d.2.2.2.1) L d.2.1 k i) (hl : len (nth L i []) < 9223372036854775808) (he : f15 d.1 (nth L i []) d.2.2.1 = f16 d.1 (nth L i []) d.2.2.1) : f7_L18_e4 (y18 d L (w5 L k i) i) (e18 d L (w5 L k i) i) = true ∧ w132 d L k i = false := by
  obtain ⟨b1, b2⟩ := byteI_end (d := d) (m := w5 L k i) hl h.right.1
  refine ⟨b1, ?_⟩
  unfold w132
  cases hb : f7_L18_x4_0 (y18 d L (w5 L k i) i) (e18 d L (w5 L k i) i) with
  | false => rfl
  | true =>
    have hf := h.right.2 (b2 hb)
    simp only [cond_true]
    cases hw : decide (d.2.2.2.1 > 0) with
    | false => rfl
    | true =>
      have hw := of_decide_eq_true hw
      unfold fitR at hf
      have h0 : (d.2.2.2.1 == 0) = false := by simp; omega
      rw [h0] at hf
      have hf : f16 d.1 (nth L i []) d.2.2.1 ≤ d.2.2.2.1 := of_decide_eq_true hf
      simp only [cond_true, decide_eq_false_iff_not]
      omega
end
structure Plain (d : D31) (L : List (List UInt8)) : Prop where
  few : len L < 9223372036854775808
  long : len d.2.1 < 9223372036854775808
  width : ∀ l : List UInt8, len l ≤ len d.2.1 → f15 d.1 l d.2.2.1 = f16 d.1 l d.2.2.1 ∧ f15_ok d.1 l d.2.2.1
theorem wrapI_g {d : D31} {L : List (List UInt8)} (hP : Plain d L) {k i : Int} (h : Meets d.2.2.2.1 (fitR d.1 d.2.2.1 d.2.2.2.1) L d.2.1 k i) : f7_L6_g (d, L, ()) (k, i, ()) = true := by
  have hlen := h.fit
  have h0 := h.at0
  have hlong := hP.long
  obtain ⟨b1, b2⟩ := w132_no h (by omega) (hP.width _ (by omega)).1
  rw [g7, w56_no h, b1, b2]
  have hi : decide (i < len L) = true := decide_eq_true h0.2.2
  rw [hi]
  by_cases hm : i + 1 < len L
  · rw [w88_no h hm]; simp
  · simp [hm]
theorem wrapI_next {d : D31} {L : List (List UInt8)} {x : Int × Int × Unit} (h : wrapI d.2.2.2.1 (fitR d.1 d.2.2.1 d.2.2.2.1) L d.2.1 x) (hg : f7_L6_g (d, L, ()) x = true) :
    wrapI d.2.2.2.1 (fitR d.1 d.2.2.1 d.2.2.2.1) L d.2.1 (f7_L6_next (d, L, ()) x) ∧ (len L - (f7_L6_next (d, L, ()) x).2.1).toNat < (len L - x.2.1).toNat := by
  obtain ⟨k, i, _⟩ := x
  rw [g7] at hg
  simp only [Bool.and_eq_true] at hg
  have hi := of_decide_eq_true hg.1
  have hM := meets h hi
  obtain ⟨h1, h2, h3⟩ := hM.at0
  simp only at h1 h2 h3
  have hn := len_nonneg (nth L i [])
  have e : f7_L6_next (d, L, ()) (k, i, ()) = (w5 L k i, i + 1, ()) := rfl
  rw [e]
  refine ⟨?_, (show (len L - (i + 1)).toNat < (len L - i).toNat by omega)⟩
  unfold w5
  by_cases hm : i + 1 < len L
  · have := hM.more hm
    simp only [hm, decide_true, cond_true]
    exact ⟨(show 0 ≤ k + len (nth L i []) + 1 by omega), (show 0 ≤ i + 1 by omega), Or.inl ⟨hm, (show k + len (nth L i []) + 1 ≤ _ by have := this.1; simp only at this; omega), this.2.2⟩⟩
  · have := hM.last hm
    simp only [hm, decide_false, cond_false]
    exact ⟨(show 0 ≤ k + len (nth L i []) by omega), (show 0 ≤ i + 1 by omega), Or.inr ⟨(show i + 1 = _ by omega), this⟩⟩
theorem wrapI_end {d : D31} {L : List (List UInt8)} (hP : Plain d L) (hS : wrapI d.2.2.2.1 (fitR d.1 d.2.2.1 d.2.2.2.1) L d.2.1 (0, 0, ())) :
    ∃ e, loopEnd (f7_L6_g (d, L, ())) (f7_L6_next (d, L, ())) (0, 0, ()) = e ∧ e.2.1 = len L ∧ e.1 = len d.2.1 := by
  have hfew := hP.few
  have h := loop_ind (g := f7_L6_g (d, L, ())) (next := f7_L6_next (d, L, ())) (wrapI d.2.2.2.1 (fitR d.1 d.2.2.1 d.2.2.2.1) L d.2.1) (fun x => (len L - x.2.1).toNat) (fun x hi hg => wrapI_next hi hg) hS (by simp only [fuel]; omega)
  refine ⟨_, rfl, ?_⟩
  generalize loopEnd (f7_L6_g (d, L, ())) (f7_L6_next (d, L, ())) (0, 0, ()) = x at h
  obtain ⟨h1, h2⟩ := h
  rcases h1.2.2 with h3 | h3
  · have := wrapI_g hP (meets h1 h3.1)
    obtain ⟨k, i, _⟩ := x
    rw [this] at h2
    cases h2
  · exact h3
theorem wrapI_ends {d : D31} {L : List (List UInt8)} (hP : Plain d L) (hS : wrapI d.2.2.2.1 (fitR d.1 d.2.2.1 d.2.2.2.1) L d.2.1 (0, 0, ())) : Am.Ends (f7_L6_g (d, L, ())) (f7_L6_next (d, L, ())) (f7_L6_ok (d, L, ())) (0, 0, ()) := by
  have hfew := hP.few
  have hlong := hP.long
  refine ends_ind (wrapI d.2.2.2.1 (fitR d.1 d.2.2.1 d.2.2.2.1) L d.2.1) (fun x => (len L - x.2.1).toNat) (fun x h => ?_) (fun x hi hg => wrapI_next hi hg) hS (by simp only [fuel]; omega)
  obtain ⟨k, i, _⟩ := x
  intro hv
  have hv : i < len L := of_decide_eq_true hv
  have hM := meets h hv
  obtain ⟨h1, h2, h3⟩ := hM.at0
  simp only at h1 h2 h3
  have hfit := hM.fit
  simp only at hfit
  have hn := len_nonneg (nth L i [])
  have hib : InB i (len L) := ⟨h2, h3⟩
  have hsum : InR (k + len (nth L i [])) := inR (by omega) (by omega)
  have hi1 : InR (i + 1) := inR (by omega) (by omega)
  have hll : len (nth L i []) < 9223372036854775808 := by omega
  refine ⟨hib, (show InR (len d.2.1 - k) from inR (by omega) (by omega)), fun _ => hib, fun _ => hsum, fun _ => ⟨h1, (show k ≤ k + len (nth L i []) by omega), hfit⟩, fun _ => ⟨hsum, hi1, fun hm => ?_, fun _ => ⟨byteI_ends ⟨h2, h3⟩ hll, fun _ => ⟨fun _ => hib, fun _ => (hP.width (nth L i []) (by omega)).2⟩⟩⟩, fun _ => hi1⟩
  have hm : i + 1 < len L := of_decide_eq_true hm
  have hlt := (hM.more hm).1
  simp only at hlt
  have hb : InB (k + len (nth L i [])) (len d.2.1) := ⟨by omega, hlt⟩
  exact ⟨fun _ => hb, fun _ => hb, fun _ => (show InR (k + len (nth L i []) + 1) from inR (by omega) (by omega))⟩
theorem wrap_start {wrap : Int} {f : List UInt8 → Bool} {L : List (List UInt8)} {s : List UInt8} (h : Seg wrap f L s) : wrapI wrap f L s (0, 0, ()) ∧ 0 < len L := by
  have hL : 0 < len L := by
    cases L with
    | nil => exact h.elim
    | cons x r => unfold len; simp only [List.length_cons]; omega
  exact ⟨⟨Int.le_refl _, Int.le_refl _, Or.inl ⟨hL, len_nonneg s, h⟩⟩, hL⟩
theorem wraps_eq {d : D31} (hp : Known d.1) (hs : len d.2.1 < 9223372036854775808) (ht : f13 = true) (ho : f13_ok) : f7_ok d ∧ f7 d = true := by
  obtain ⟨e17, o17, _⟩ := f17_eq hp d.2.1 d.2.2.1 d.2.2.2.1 hs
  by_cases h : errT d.1 d.2.1 d.2.2.1 d.2.2.2.1 = 0
  · have hF := fine_of h
    have hn : (errT d.1 d.2.1 d.2.2.1 d.2.2.2.1 != 0) = false := by rw [h]; rfl
    rw [hn, h] at e17
    simp only [cond_false] at e17
    have hseg := lines_seg (wrap := d.2.2.2.1) (f := fitR d.1 d.2.2.1 d.2.2.2.1) (fun s hs => by
      intro h0
      unfold fitR at hs
      rw [h0] at hs
      exact absurd hs (by simp)) d.2.1
    have hlen := linesOf_len (fitR d.1 d.2.2.1 d.2.2.2.1) hF.short
    generalize hL : linesOf (fitR d.1 d.2.2.1 d.2.2.2.1) d.2.1 = L at e17 hseg hlen
    obtain ⟨hst, hpos⟩ := wrap_start hseg
    have hsh := hF.short
    have hP : Plain d L := ⟨by unfold len; omega, hs, fun l hl => by
      obtain ⟨k1, k2, k3, k4, k5⟩ := fits_eq hp hF.font hF.size l (by unfold len at hl; omega)
      exact ⟨k4.symm.trans k1, k5⟩⟩
    obtain ⟨e, he, h1, h2⟩ := wrapI_end hP hst
    refine ⟨⟨o17, fun _ => ho, fun _ => ?_⟩, ?_⟩
    · rw [e17]
      exact ⟨wrapI_ends hP hst, fun _ _ => ho⟩
    · have he1 : f7_L6_e1 (d, L, ()) e = false := by
        have hd : decide (e.2.1 < len L) = false := by rw [h1]; simp
        simp only [f7_L6_e1, hd, Bool.false_and]
      have hx : f7_L6_x2_0 (d, L, ()) e = len d.2.1 := h2
      have hp0 : decide (len L > 0) = true := decide_eq_true hpos
      have hz : ((0 : Int) != 0) = false := rfl
      simp only [f7, e17, he, he1, hx, hp0, hz, ht]
      simp
  · have hn : (errT d.1 d.2.1 d.2.2.1 d.2.2.2.1 != 0) = true := by simpa using h
    rw [hn] at e17
    simp only [cond_true] at e17
    refine ⟨⟨o17, fun _ => ho, fun g => ?_⟩, ?_⟩
    · rw [e17] at g
      have g : (!(errT d.1 d.2.1 d.2.2.1 d.2.2.2.1 != 0)) = true := g
      rw [hn] at g
      exact absurd g (by decide)
    · simp only [f7, e17, hn, ht, cond_true]
end Go.Proofs.YtnemgdgminolpaaDoor.Am
