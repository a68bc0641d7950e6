/- node.Check answers for every node: strokes. Condition: the polygons of a path. -/
import Derived.Test.YthjoefjcljbapaaGreatDoorChkB
namespace Go.Proofs.YthjoefjcljbapaaGreatDoor.Am
open Go Go.Am
theorem red3 (l : List D55) (o : Bool) (hl : len l ≤ 4096) :
    Am.Ends (f112_L3_g (o, l, len l, ())) (f112_L3_next (o, l, len l, ())) (f112_L3_ok (o, l, len l, ())) ([], 0, ()) ∧ len (loopEnd (f112_L3_g (o, l, len l, ())) (f112_L3_next (o, l, len l, ())) ([], 0, ())).1 ≤ len l := by
  have h := whole (g := f112_L3_g (o, l, len l, ())) (next := f112_L3_next (o, l, len l, ())) (ok := f112_L3_ok (o, l, len l, ())) (fun x => (0 ≤ x.2.1 ∧ x.2.1 ≤ len l) ∧ len x.1 ≤ x.2.1) (fun x => (len l - x.2.1).toNat) (fun x hx => fun h3 => ?_) (fun x hx hg => ?_) (x := ([], 0, ())) ⟨⟨Int.le_refl 0, len_nonneg l⟩, Int.le_refl 0⟩ (by unfold fuel; simp only; omega)
  · exact ⟨h.1, Int.le_trans h.2.1.2 h.2.1.1.2⟩
  · have h4 : x.2.1 < len l := of_decide_eq_true h3
    have h5 := len_nonneg x.1
    have h6 := hx.2
    refine ⟨⟨hx.1.1, h4⟩, fun _ => inr_small (by omega) (by omega), fun hf => ?_, fun _ => ?_, inr_small (by omega) (by omega)⟩
    · simp only [Bool.not_eq_true', beq_eq_false_iff_ne, ne_eq] at hf
      exact ⟨(show 0 ≤ len x.1 - 1 by omega), (show len x.1 - 1 < len x.1 by omega)⟩
    · have := hx.2
      simp only [len] at this hl h4
      simp only [List.length_cons, List.length_nil]
      omega
  · have h4 : x.2.1 < len l := of_decide_eq_true hg
    have h6 := hx.2
    refine ⟨⟨(show 0 ≤ x.2.1 + 1 ∧ x.2.1 + 1 ≤ len l by omega), ?_⟩, (show (len l - (x.2.1 + 1)).toNat < (len l - x.2.1).toNat by omega)⟩
    simp only [f112_L3_next, f112_L3t]
    cases (bif ((len x.1) == 0) then true else (!(Ty.eqb T55 (nth l x.2.1 Z55) (nth x.1 (len x.1 - 1) Z55)))) with
    | true => simp only [cond_true, len_app, len_one]; omega
    | false => simp only [cond_false]; omega
theorem red8 (l : List D55) (o : Bool) (hl : len l ≤ 4096) :
    Am.Ends (f112_L8_g (o, ())) (f112_L8_next (o, ())) (f112_L8_ok (o, ())) (l, ()) ∧ len (loopEnd (f112_L8_g (o, ())) (f112_L8_next (o, ())) (l, ())).1 ≤ len l := by
  have gt : ∀ x : f112_L8_X, (bif (bif (!o) then (decide ((len x.1) > 1)) else false) then (Ty.eqb T55 (nth x.1 (len x.1 - 1) Z55) (nth x.1 (0 : Int) Z55)) else false) = true → len x.1 > 1 := fun x h => by
    cases hq : (bif (!o) then (decide ((len x.1) > 1)) else false) with
    | false => rw [hq] at h; cases h
    | true =>
      cases ho : (!o) with
      | false => rw [ho] at hq; cases hq
      | true => rw [ho] at hq; exact of_decide_eq_true hq
  have gt' : ∀ x : f112_L8_X, (bif (!o) then (decide ((len x.1) > 1)) else false) = true → len x.1 > 1 := fun x h => by
    cases ho : (!o) with
    | false => rw [ho] at h; cases h
    | true => rw [ho] at h; exact of_decide_eq_true h
  have h := whole (g := f112_L8_g (o, ())) (next := f112_L8_next (o, ())) (ok := f112_L8_ok (o, ())) (fun x => len x.1 ≤ len l) (fun x => x.1.length) (fun x hx => ?_) (fun x hx hg => ?_) (x := (l, ())) (Int.le_refl _) (by simp only [len] at hl; unfold fuel; simp only; omega)
  · exact ⟨h.1, h.2.1⟩
  · have h5 := len_nonneg x.1
    exact ⟨fun hf => by have := gt' x hf; exact inr_small (show _ ≤ len x.1 - 1 by omega) (show len x.1 - 1 ≤ _ by omega), fun hf => by have := gt' x hf; exact ⟨(show 0 ≤ len x.1 - 1 by omega), (show len x.1 - 1 < len x.1 by omega)⟩, fun hf => by have := gt' x hf; exact ⟨Int.le_refl 0, (show 0 < len x.1 by omega)⟩, fun hf => by have := gt x hf; exact ⟨inr_small (show _ ≤ len x.1 - 1 by omega) (show len x.1 - 1 ≤ _ by omega), ⟨(show 0 ≤ len x.1 - 1 by omega), (show len x.1 - 1 ≤ len x.1 by omega)⟩⟩⟩
  · have h5 := gt x hg
    have e : (f112_L8_next (o, ()) x).1 = List.take (Int.toNat (len x.1 - 1)) x.1 := rfl
    rw [e]
    simp only [len] at h5 hx ⊢
    rw [List.length_take]
    omega
theorem f112_all (l : List D55) (o : Bool) (hl : len l ≤ 4096) : f112_ok l o ∧ len (f112 l o) ≤ len l := by
  have h3 := red3 l o hl
  have h8 := red8 (loopEnd (f112_L3_g (o, l, len l, ())) (f112_L3_next (o, l, len l, ())) ([], 0, ())).1 o (by omega)
  exact ⟨⟨h3.1, h8.1⟩, Int.le_trans h8.2 h3.2⟩
theorem hyp7 (y : f134_L7_Y) : Am.Ends (f134_L7_g y) (f134_L7_next y) (f134_L7_ok y) (0, 9223372036854775808, ()) := by
  refine ends_ind (fun x => 0 ≤ x.2.1) (fun x => x.2.1.toNat) (fun x _ => fun _ => f142_all _ _) (fun x hx hg => ?_) (by decide) (by unfold fuel; decide)
  have h4 : x.2.1 ≠ 0 := by
    have hg : (x.2.1 != 0) = true := hg
    simpa using hg
  have e : (f134_L7_next y x).2.1 = ishr x.2.1 (1 : Int) 64 := rfl
  rw [e]
  have e2 : ishr x.2.1 (1 : Int) 64 = x.2.1.fdiv 2 := rfl
  rw [e2]
  have h5 : x.2.1.fdiv 2 = x.2.1 / 2 := Int.fdiv_eq_ediv_of_nonneg _ (by omega)
  rw [h5]
  omega
theorem f134_all (a b : Int) : f134_ok a b := by
  refine ⟨f143_all _, f143_all _, f142_all _ _, f143_all _, f143_all _, f142_all _ _, ⟨Int.le_refl 0, by decide⟩, ⟨Int.natCast_nonneg _, ?_⟩, hyp7 _⟩
  have hb : ∀ z : Int, Int.toNat (IntKind.wrap .u64 z) < 18446744073709551616 := fun z => by
    rw [IntKind.wrap_u64]
    have := Int.emod_nonneg z (b := 18446744073709551616) (by omega)
    have := Int.emod_lt_of_pos z (b := 18446744073709551616) (by omega)
    omega
  have h1 := hb (f143 a * f143 a)
  have h2 := hb (f143 b * f143 b)
  have e1 : (f142 (f143 a) (f143 a)).2.1 = IntKind.wrap .u64 (f143 a * f143 a) := rfl
  have e2 : (f142 (f143 b) (f143 b)).2.1 = IntKind.wrap .u64 (f143 b * f143 b) := rfl
  rw [e1, e2]
  have h3 : (Int.toNat (IntKind.wrap .u64 (f143 a * f143 a)) + Int.toNat (IntKind.wrap .u64 (f143 b * f143 b)) + Int.toNat (0 : Int)) / 18446744073709551616 ≤ 1 := by
    rw [show Int.toNat (0 : Int) = 0 from rfl]
    omega
  exact_mod_cast h3
theorem f130_all (p q : D55) (w : Int) : f130_ok p q w := ⟨f117_all _ _, f134_all _ _, f52_all _ _, f52_all _ _, f52_all _ _, f52_all _ _⟩
theorem edg3 (l : List D55) (o : Bool) (w : Int) (hl : len l ≤ 4096) :
    Am.Ends (f113_L3_g (l, o, w, ())) (f113_L3_next (l, o, w, ())) (f113_L3_ok (l, o, w, ())) ([], 1, ()) ∧ len (loopEnd (f113_L3_g (l, o, w, ())) (f113_L3_next (l, o, w, ())) ([], 1, ())).1 ≤ len l := by
  have h := whole (g := f113_L3_g (l, o, w, ())) (next := f113_L3_next (l, o, w, ())) (ok := f113_L3_ok (l, o, w, ())) (fun x => (1 ≤ x.2.1 ∧ (x.2.1 ≤ len l ∨ x.2.1 = 1)) ∧ len x.1 ≤ x.2.1 - 1) (fun x => (len l - x.2.1).toNat) (fun x hx => fun h3 => ?_) (fun x hx hg => ?_) (x := ([], 1, ())) ⟨⟨Int.le_refl 1, .inr rfl⟩, Int.le_refl 0⟩ (by unfold fuel; simp only; omega)
  · have h5 := len_nonneg l
    exact ⟨h.1, by have := h.2.1.1; have := h.2.1.2; omega⟩
  · have h4 : x.2.1 < len l := of_decide_eq_true h3
    have h6 := hx.2
    have h7 := hx.1.1
    refine ⟨inr_small (by omega) (by omega), ⟨(show 0 ≤ x.2.1 - 1 by omega), (show x.2.1 - 1 < len l by omega)⟩, ⟨(show 0 ≤ x.2.1 by omega), h4⟩, f130_all _ _ _, ?_, inr_small (by omega) (by omega)⟩
    simp only [len] at h6 hl h4
    simp only [List.length_cons, List.length_nil]
    omega
  · have h4 : x.2.1 < len l := of_decide_eq_true hg
    have h6 := hx.2
    have h7 := hx.1.1
    refine ⟨⟨⟨(show 1 ≤ x.2.1 + 1 by omega), .inl (show x.2.1 + 1 ≤ len l by omega)⟩, ?_⟩, (show (len l - (x.2.1 + 1)).toNat < (len l - x.2.1).toNat by omega)⟩
    simp only [f113_L3_next, f113_L3t, len_app, len_one]
    omega
theorem f113_all (l : List D55) (o : Bool) (w : Int) (hl : len l ≤ 4096) : f113_ok l o w ∧ len (f113 l o w) ≤ len l + 1 := by
  have h3 := edg3 l o w hl
  have hn := len_nonneg l
  refine ⟨⟨h3.1, fun hf => ?_⟩, ?_⟩
  · have h5 : len l > 1 := by
      cases ho : (!o) with
      | false => rw [ho] at hf; cases hf
      | true => rw [ho] at hf; exact of_decide_eq_true hf
    refine ⟨inr_small (by omega) (by omega), ⟨(show 0 ≤ len l - 1 by omega), (show len l - 1 < len l by omega)⟩, ⟨Int.le_refl 0, (show 0 < len l by omega)⟩, f130_all _ _ _, ?_⟩
    have h6 := h3.2
    simp only [f113_L3_x2_0]
    simp only [len] at h6 hl
    simp only [List.length_cons, List.length_nil]
    omega
  · simp only [f113, f113t, f113_L3_x2_0]
    cases (bif (!o) then (decide ((len l) > 1)) else false) with
    | true => simp only [cond_true, len_app, len_one]; omega
    | false => simp only [cond_false]; omega
theorem f132_all (l : List D55) (hl : len l ≤ 4096) : f132_ok l := by
  refine ends_ind (fun x => 0 ≤ x.2.1 ∧ x.2.1 ≤ len l) (fun x => (len l - x.2.1).toNat) (fun x hx => fun h3 => ?_) (fun x hx hg => ?_) ⟨Int.le_refl 0, len_nonneg l⟩ (by unfold fuel; simp only; omega)
  · have h4 : x.2.1 < len l := of_decide_eq_true h3
    have hw : IntKind.wrap .i64 (x.2.1 + 1) = x.2.1 + 1 := wrap_in (inr_small (by omega) (by omega))
    refine ⟨⟨hx.1, h4⟩, (show len l ≠ 0 by omega), ?_⟩
    show InB (Int.tmod (IntKind.wrap .i64 (x.2.1 + 1)) (len l)) (len l)
    rw [hw, Int.tmod_eq_emod_of_nonneg (by omega)]
    exact ⟨Int.emod_nonneg _ (by omega), Int.emod_lt_of_pos _ (by omega)⟩
  · have h4 : x.2.1 < len l := of_decide_eq_true hg
    have hw : IntKind.wrap .i64 (x.2.1 + 1) = x.2.1 + 1 := wrap_in (inr_small (by omega) (by omega))
    simp only [f132_L3_next, f132_L3t]
    rw [hw]
    omega
theorem f132_nil : f132 [] = 0 := by kernel_rfl
theorem f157_all {a : Int} (h : 0 ≤ a ∧ a ≤ 16384) : f157_ok a := by
  have e : Int.tdiv a 256 = a / 256 := Int.tdiv_eq_ediv_of_nonneg h.1
  have hw : IntKind.wrap .i64 (Int.tdiv a 256) = a / 256 := by rw [e]; exact wrap_in (inr_small (by omega) (by omega))
  refine ⟨fun _ => ⟨by decide, by decide⟩, fun hf => ?_⟩
  rw [hw] at hf ⊢
  have hf : ¬ (a / 256 ≥ 64) := by simpa using hf
  have hw2 : IntKind.wrap .i64 (a / 256 + 1) = a / 256 + 1 := wrap_in (inr_small (by omega) (by omega))
  rw [hw2]
  exact ⟨⟨by omega, by omega⟩, ⟨by omega, by omega⟩, ⟨by omega, by omega⟩, f52_all _ _⟩
theorem f152_all {a : Int} (h : 0 ≤ a ∧ a < 65536) : f152_ok a := by
  have e : Int.tdiv a 16384 = a / 16384 := Int.tdiv_eq_ediv_of_nonneg h.1
  have hw : IntKind.wrap .i64 (Int.tdiv a 16384) = a / 16384 := by rw [e]; exact wrap_in (inr_small (by omega) (by omega))
  have hw2 : IntKind.wrap .i64 (16384 * (a / 16384)) = 16384 * (a / 16384) := wrap_in (inr_small (by omega) (by omega))
  have hw3 : IntKind.wrap .i64 (a - 16384 * (a / 16384)) = a - 16384 * (a / 16384) := wrap_in (inr_small (by omega) (by omega))
  have hw4 : IntKind.wrap .i64 (16384 - (a - 16384 * (a / 16384))) = 16384 - (a - 16384 * (a / 16384)) := wrap_in (inr_small (by omega) (by omega))
  simp only [f152_ok, f152t, hw, hw2, hw3, hw4]
  exact ⟨fun _ => f157_all (by omega), ⟨fun _ => ⟨fun _ => f157_all (by omega), fun _ _ => f157_all (by omega)⟩, fun _ => f157_all (by omega)⟩⟩
theorem f141_all (a : Int) : f141_ok a := by
  have h1 : 0 ≤ iand .i64 a (65535 : Int) ∧ iand .i64 a (65535 : Int) < 65536 := by
    have e : iand .i64 a (65535 : Int) = IntKind.wrap .i64 (((BitVec.ofInt 64 a &&& BitVec.ofInt 64 65535).toNat : Nat) : Int) := rfl
    have h2 : (BitVec.ofInt 64 a &&& BitVec.ofInt 64 65535).toNat ≤ 65535 := by
      rw [BitVec.toNat_and]
      exact Nat.and_le_right
    rw [e, wrap_in (inr_small (by omega) (by omega))]
    omega
  have hw : IntKind.wrap .i64 (iand .i64 a (65535 : Int) + 16384) = iand .i64 a (65535 : Int) + 16384 := wrap_in (inr_small (by omega) (by omega))
  refine ⟨f152_all h1, ?_⟩
  show f152_ok (Int.tmod (IntKind.wrap .i64 (iand .i64 a (65535 : Int) + 16384)) (65536 : Int))
  rw [hw, Int.tmod_eq_emod_of_nonneg (by omega)]
  exact f152_all ⟨Int.emod_nonneg _ (by omega), Int.emod_lt_of_pos _ (by omega)⟩
theorem cir3 (c : D55) (w : Int) (l : List D55) (n : Int) (hn : n = 16) (hl : len l = 16) :
    Am.Ends (f131_L3_g (w, c, n, ())) (f131_L3_next (w, c, n, ())) (f131_L3_ok (w, c, n, ())) (l, 0, ()) ∧ len (loopEnd (f131_L3_g (w, c, n, ())) (f131_L3_next (w, c, n, ())) (l, 0, ())).1 = 16 := by
  have h := whole (g := f131_L3_g (w, c, n, ())) (next := f131_L3_next (w, c, n, ())) (ok := f131_L3_ok (w, c, n, ())) (fun x => (0 ≤ x.2.1 ∧ x.2.1 ≤ 16) ∧ len x.1 = 16) (fun x => (16 - x.2.1).toNat) (fun x hx => fun h3 => ?_) (fun x hx hg => ?_) (x := (l, 0, ())) ⟨⟨Int.le_refl 0, (by decide : (0 : Int) ≤ 16)⟩, hl⟩ (by simp [fuel])
  · exact ⟨h.1, h.2.1.2⟩
  · have h4 : x.2.1 < n := of_decide_eq_true h3
    rw [hn] at h4
    refine ⟨f141_all _, f52_all _ _, f52_all _ _, f116_all _ _, ⟨hx.1.1, ?_⟩, ?_⟩
    · show x.2.1 < len x.1; rw [hx.2]; exact h4
    · show x.2.1 < len x.1; rw [hx.2]; exact h4
  · have h4 : x.2.1 < n := of_decide_eq_true hg
    rw [hn] at h4
    have hw : IntKind.wrap .i64 (x.2.1 + 1) = x.2.1 + 1 := wrap_in (inr_small (by omega) (by omega))
    simp only [f131_L3_next, f131_L3t, len_set]
    rw [hw]
    exact ⟨⟨by omega, hx.2⟩, by omega⟩
theorem f131_all (c : D55) (w : Int) : f131_ok c w ∧ len (f131 c w) = 16 := by
  have hn : len (List.replicate (Int.toNat (16 : Int)) Z55) = 16 := by simp [len]
  have h := cir3 c w (List.replicate (Int.toNat (16 : Int)) Z55) (len (List.replicate (Int.toNat (16 : Int)) Z55)) hn hn
  refine ⟨⟨⟨by omega, by omega, by omega⟩, h.1⟩, ?_⟩
  simp only [f131, f131t, f131_L3_x2_0]
  exact h.2
end Go.Proofs.YthjoefjcljbapaaGreatDoor.Am
