/- Plain law of NodeNews. No condition. -/
import Derived.Test.YthjoefjcljbapaaGreatDoorChkQ
import Derived.Test.YthjoefjcljbapaaGreatDoorChkE1
import Derived.Test.YthjoefjcljbapaaGreatDoorChkE2
import Derived.Test.YthjoefjcljbapaaGreatDoorChkE3
namespace Go.Proofs.YthjoefjcljbapaaGreatDoor.Am
open Go Go.Am

theorem f9_all' (k : Int) : f9_ok k := by first | trivial | (simp only [f9_ok, f9t]; simp)
theorem f10_all (k : Int) : f10_ok k := by
  simp only [f10_ok, f10t]
  intro h
  simp only [Bool.not_eq_true', Bool.cond_true_left, Bool.or_eq_false_iff, decide_eq_false_iff_not] at h
  have e : len ([([103, 114, 111, 117, 112] : List UInt8), ([105, 109, 97, 103, 101] : List UInt8), ([102, 105, 108, 108] : List UInt8), ([103, 114, 97, 100, 105, 101, 110, 116] : List UInt8), ([112, 97, 116, 104] : List UInt8), ([116, 101, 120, 116] : List UInt8), ([97, 100, 106, 117, 115, 116] : List UInt8), ([102, 105, 108, 116, 101, 114] : List UInt8), ([108, 105, 110, 107] : List UInt8), ([99, 108, 111, 110, 101] : List UInt8), ([119, 97, 114, 112] : List UInt8)] : List (List UInt8)) = 11 := rfl
  rw [e]
  exact ⟨inr_small (by omega) (by omega), ⟨by omega, by omega⟩⟩
def outN : D37 × Int × Unit := ((0, 0, 0, [], false, false, false, 0, 0, (0, 0, [], ()), Z25, 0, (0, 0, [], ()), Z30, 0, [], 0, [], [], 0, 0, 0, 0, [], 0, 0, 0, (0, 0, 0, [], ()), ()), 8, ())
theorem f6_out {k : Int} (h : f9 k = []) : f6 k = outN := by
  delta f6 f6t
  generalize f9 k = l at h
  subst h
  rfl
theorem f7_out {k : Int} (h : f10 k = []) : f7 k = outN := by
  delta f7 f7t
  generalize f10 k = l at h
  subst h
  rfl
theorem f6_out_ok {k : Int} (h : f9 k = []) : f6_ok k := by
  delta f6_ok f6t
  generalize f9 k = l at h
  subst h
  exact ⟨f9_all' k, fun hf => Bool.noConfusion hf⟩
theorem f7_out_ok {k : Int} (h : f10 k = []) : f7_ok k := by
  delta f7_ok f7t
  generalize f10 k = l at h
  subst h
  exact ⟨f10_all k, fun hf => Bool.noConfusion hf⟩
theorem news_out {k : Int} (h : k < 1 ∨ 11 < k) : f9 k = [] ∧ f10 k = [] := by
  have ne : ∀ j : Int, 1 ≤ j → j ≤ 11 → (k == j) = false := fun j h1 h2 => by
    have : k ≠ j := by omega
    simpa using this
  refine ⟨?_, ?_⟩
  · simp only [f9, f9t, ne 1 (by decide) (by decide), ne 2 (by decide) (by decide), ne 3 (by decide) (by decide), ne 4 (by decide) (by decide), ne 5 (by decide) (by decide), ne 6 (by decide) (by decide), ne 7 (by decide) (by decide), ne 8 (by decide) (by decide), ne 9 (by decide) (by decide), ne 10 (by decide) (by decide), ne 11 (by decide) (by decide), cond_false]
  · have : (bif decide (k < 1) then true else decide (k > 11)) = true := by
      rcases h with h | h
      · simp [h]
      · have h' : k > 11 := h
        simp [h']
    simp only [f10, f10t, this, cond_true]
theorem f23_size (p : D37) {w h : Int} (hm : p.2.2.2.2.2.2.2.2.2.1.1 = 0) (hw : 1 ≤ w ∧ w ≤ 256) (hh : 1 ≤ h ∧ h ≤ 256) : f23 p w h = f23 p 8 8 := by
  have e : ∀ w h : Int, 1 ≤ w ∧ w ≤ 256 → 1 ≤ h ∧ h ≤ 256 → (bif (bif (bif (decide (w < 1)) then true else (decide (w > 256))) then true else (decide (h < 1))) then true else (decide (h > 256))) = false := fun w h hw hh => by
    have h1 : ¬ w < 1 := by omega
    have h2 : ¬ w > 256 := by omega
    have h3 : ¬ h < 1 := by omega
    have h4 : ¬ h > 256 := by omega
    simp [h1, h2, h3, h4]
  have e0 : (p.2.2.2.2.2.2.2.2.2.1.1 != 0) = false := by rw [hm]; rfl
  simp only [f23, f23t, e w h hw hh, e 8 8 (by omega) (by omega), e0, cond_false]
theorem f11_size (p : D37) {w h : Int} (hm : p.2.2.2.2.2.2.2.2.2.1.1 = 0) (hw : 1 ≤ w ∧ w ≤ 256) (hh : 1 ≤ h ∧ h ≤ 256) : f11 p w h = f11 p 8 8 := by
  simp only [f11, f11t, f23_size p hm hw hh]
theorem out_self : f8 outN.1 outN.1 = true := by kernel_rfl
theorem out_ok : f8_ok outN.1 outN.1 := of_decide_eq_true (by kernel_rfl)
theorem range_b {w h : Int} {c : Bool} (hc : c = true) : (bif (bif (bif (bif c then (decide (w ≥ 1)) else false) then (decide (w ≤ 256)) else false) then (decide (h ≥ 1)) else false) then (decide (h ≤ 256)) else false) = true → (1 ≤ w ∧ w ≤ 256) ∧ (1 ≤ h ∧ h ≤ 256) := by
  subst hc
  intro h0
  simp only [cond_true, Bool.cond_false_right, Bool.and_eq_true, decide_eq_true_eq] at h0
  omega
theorem nodeNews_at (k w h : Int) : f3_ok k w h ∧ f3 k w h = true := by
  by_cases hk : k < 1 ∨ 11 < k
  · obtain ⟨h9, h10⟩ := news_out hk
    have e6 := f6_out h9
    have e7 := f7_out h10
    have e1 : (outN.2.1 != outN.2.1) = false := by decide
    have e2 : (outN.2.1 == 0) = false := by decide
    simp only [f3_ok, f3, f3t, e6, e7, h9, h10, e1, e2, out_self, f12_true, cond_false, cond_true, Bool.not_true, Bool.not_false, beq_self_eq_true]
    exact ⟨⟨f6_out_ok h9, f7_out_ok h10, fun _ => out_ok, fun _ => f9_all' k, fun _ => f10_all k, fun _ => ⟨fun hf => Bool.noConfusion hf, fun _ => f12_okd⟩⟩, trivial⟩
  · have hm : k ∈ ([1, 2, 3, 4, 5, 6, 7, 8, 9, 10, 11] : List Int) := by
      simp only [List.mem_cons, List.not_mem_nil, or_false]
      omega
    have hn := List.all_eq_true.1 news_all k hm
    simp only [newsK, Bool.and_eq_true, decide_eq_true_eq, beq_iff_eq] at hn
    obtain ⟨⟨⟨⟨⟨⟨⟨⟨⟨n1, n2⟩, n3⟩, n4⟩, n5⟩, n6⟩, n7⟩, n8⟩, n9⟩, n10⟩ := hn
    have e1 : ((f6 k).2.1 != (f7 k).2.1) = false := by rw [n3, n4]; rfl
    have e2 : ((f6 k).2.1 == 0) = true := by rw [n3]; rfl
    have hc := range_b (w := w) (h := h) e2
    simp only [f3_ok, f3, f3t, e1, n6, n7, f12_true, cond_false, Bool.not_true, Bool.not_false, beq_self_eq_true]
    generalize (bif (bif (bif (bif ((f6 k).2.1 == 0) then (decide (w ≥ 1)) else false) then (decide (w ≤ 256)) else false) then (decide (h ≥ 1)) else false) then (decide (h ≤ 256)) else false) = c at hc ⊢
    have e3 : (bif c then (f11 (f6 k).1 w h != 0) else false) = false := by
      cases c with
      | false => rfl
      | true =>
        obtain ⟨h1, h2⟩ := hc rfl
        rw [f11_size _ n10 h1 h2, n9]; rfl
    simp only [e3]
    exact ⟨⟨n1, n2, fun _ => n5, fun _ => f9_all' k, fun _ => f10_all k, fun _ => ⟨fun _ => f11_all _ _ _ n8, fun _ => f12_okd⟩⟩, rfl⟩
theorem nodeNews_law : ∀ x, wfL 0 [.int .i64, .int .i64, .int .i64] x → f3_ok x.1 x.2.1 x.2.2.1 ∧ f3 x.1 x.2.1 x.2.2.1 = true :=
  fun x _ => nodeNews_at x.1 x.2.1 x.2.2.1
end Go.Proofs.YthjoefjcljbapaaGreatDoor.Am
