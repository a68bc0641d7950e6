/- Plain laws for the statements on nodes: NodeReads. No condition. -/
import Derived.Test.YtleannhgpeiooaaGreatDoorNodeW
namespace Go.Proofs.YtleannhgpeiooaaGreatDoor.Am
open Go Go.Am

theorem sub_in {a : Int} (h1 : -1048576 ≤ a) (h2 : a ≤ 1048576) : InR (Int.sub 0 a) := by
  have e : Int.sub 0 a = 0 - a := rfl
  unfold InR; rw [e]; omega

theorem tdiv_bound {m : Int} (h0 : 0 ≤ m) (h1 : m ≤ 1048576) : 0 ≤ Int.tdiv (m + 65536 - 1) 65536 ∧ Int.tdiv (m + 65536 - 1) 65536 ≤ 17 := by
  rw [Int.tdiv_eq_ediv_of_nonneg (by omega)]
  omega

theorem w48_all (p : D35) (hp : len p.2.2.2.1 < 9223372036854775808) : f48_ok p := by
  refine ⟨w81_all p hp, fun h => ?_⟩
  have hz : f81 p = 0 := by simpa using h
  have hw := wcheck_zero hp hz
  have hn := len_nonneg p.2.2.2.1
  have hb := wfold_bound (l := p.2.2.2.1) (n := (len p.2.2.2.1).toNat) (fun i a b => hw i a (by omega))
  refine ⟨?_, ?_⟩
  · refine fold_ends (g := f48_L5_g (p.2.2.2.1, len p.2.2.2.1, ())) (next := f48_L5_next (p.2.2.2.1, len p.2.2.2.1, ())) (step := wstep p.2.2.2.1) (n := len p.2.2.2.1) hn hp (fun _ => rfl) (fun _ => rfl) (0 : Int) fun i h1 h2 h3 => ?_
    have h3 : i < len p.2.2.2.1 := of_decide_eq_true h3
    have hv := wbad_false (hw i h1 h3)
    exact ⟨⟨h1, h3⟩, sub_in hv.1 hv.2.1, sub_in hv.2.2.1 hv.2.2.2, by unfold InR; show _ ≤ i + 1 ∧ i + 1 ≤ _; omega⟩
  · have hl := w48_loop p.2.2.2.1 hp
    show InR ((f48_L5_x2 (p.2.2.2.1, len p.2.2.2.1, ()) (loopEnd (f48_L5_g (p.2.2.2.1, len p.2.2.2.1, ())) (f48_L5_next (p.2.2.2.1, len p.2.2.2.1, ())) (0, 0, ()))).1 + 65536) ∧ InR ((f48_L5_x2 (p.2.2.2.1, len p.2.2.2.1, ()) (loopEnd (f48_L5_g (p.2.2.2.1, len p.2.2.2.1, ())) (f48_L5_next (p.2.2.2.1, len p.2.2.2.1, ())) (0, 0, ()))).1 + 65536 - 1) ∧ InR (Int.tdiv ((f48_L5_x2 (p.2.2.2.1, len p.2.2.2.1, ()) (loopEnd (f48_L5_g (p.2.2.2.1, len p.2.2.2.1, ())) (f48_L5_next (p.2.2.2.1, len p.2.2.2.1, ())) (0, 0, ()))).1 + 65536 - 1) 65536)
    rw [hl]
    have hm := hb (len p.2.2.2.1).toNat (Nat.le_refl _)
    have ht := tdiv_bound hm.1 hm.2
    refine ⟨?_, ?_, ?_⟩
    · unfold InR; show _ ≤ foldI (wstep p.2.2.2.1) (len p.2.2.2.1).toNat 0 + 65536 ∧ foldI (wstep p.2.2.2.1) (len p.2.2.2.1).toNat 0 + 65536 ≤ _; omega
    · unfold InR; show _ ≤ foldI (wstep p.2.2.2.1) (len p.2.2.2.1).toNat 0 + 65536 - 1 ∧ foldI (wstep p.2.2.2.1) (len p.2.2.2.1).toNat 0 + 65536 - 1 ≤ _; omega
    · unfold InR; show _ ≤ Int.tdiv (foldI (wstep p.2.2.2.1) (len p.2.2.2.1).toNat 0 + 65536 - 1) 65536 ∧ Int.tdiv (foldI (wstep p.2.2.2.1) (len p.2.2.2.1).toNat 0 + 65536 - 1) 65536 ≤ _; omega

theorem floor_ok {m : Int} (h0 : 0 ≤ m) (h1 : m ≤ 1048576) : f98_ok (Int.sub 0 m) 65536 := by
  have e : Int.sub 0 m = -m := by show 0 - m = -m; omega
  rw [e]
  have hq : -16 ≤ Int.tdiv (-m) 65536 ∧ Int.tdiv (-m) 65536 ≤ 0 := by
    rw [Int.neg_tdiv, Int.tdiv_eq_ediv_of_nonneg h0]; omega
  refine fun _ _ => ⟨by decide, by unfold InR; omega, by decide, fun _ => by unfold InR; omega⟩

theorem w51_all (p : D35) (hp : len p.2.2.2.1 < 9223372036854775808) : f51_ok p := by
  refine ⟨w96_all p hp, fun h => ?_⟩
  have hz : f81 p = 0 := by rw [wcheck_eq p hp]; simpa using h
  have hw := wcheck_zero hp hz
  have hn := len_nonneg p.2.2.2.1
  have hb := wfold_bound (l := p.2.2.2.1) (n := (len p.2.2.2.1).toNat) (fun i a b => hw i a (by omega))
  have hm := hb (len p.2.2.2.1).toNat (Nat.le_refl _)
  refine ⟨?_, ?_⟩
  · refine ends_ind (fun x : Int × Int × Unit => 0 ≤ x.2.1 ∧ x.2.1 ≤ len p.2.2.2.1) (fun x => (len p.2.2.2.1 - x.2.1).toNat) (fun x hx h3 => ?_) (fun x hi hgx => ?_) ⟨by decide, hn⟩ (by simp only [fuel]; omega)
    · have h3 : x.2.1 < len p.2.2.2.1 := of_decide_eq_true h3
      have hv := wbad_false (hw x.2.1 hx.1 h3)
      have hin : InB x.2.1 (len p.2.2.2.1) := ⟨hx.1, h3⟩
      refine ⟨hin, hin, sub_in hv.1 hv.2.1, hin, hin, sub_in hv.2.2.1 hv.2.2.2, ?_, by unfold InR; omega⟩
      refine ends_ind (fun z : Int × Int × Unit => 0 ≤ z.2.1 ∧ z.2.1 ≤ 4) (fun z => (4 - z.2.1).toNat) (fun z hz h4 => ?_) (fun z hz hgz => ?_) ⟨Int.le_refl 0, by show (0 : Int) ≤ 4; decide⟩ (by simp only [fuel]; omega)
      · have h4 : z.2.1 < 4 := of_decide_eq_true h4
        have hin4 : InB z.2.1 4 := ⟨hz.1, h4⟩
        exact ⟨hin4, fun _ => hin4, by unfold InR; omega⟩
      · have hgz : z.2.1 < 4 := of_decide_eq_true hgz
        show (0 ≤ z.2.1 + 1 ∧ z.2.1 + 1 ≤ 4) ∧ (4 - (z.2.1 + 1)).toNat < (4 - z.2.1).toNat
        omega
    · have hgx : x.2.1 < len p.2.2.2.1 := of_decide_eq_true hgx
      show (0 ≤ x.2.1 + 1 ∧ x.2.1 + 1 ≤ len p.2.2.2.1) ∧ (len p.2.2.2.1 - (x.2.1 + 1)).toNat < (len p.2.2.2.1 - x.2.1).toNat
      omega
  · show InR (Int.sub 0 (f51_L5_x2 (p, len p.2.2.2.1, ()) (loopEnd (f51_L5_g (p, len p.2.2.2.1, ())) (f51_L5_next (p, len p.2.2.2.1, ())) (0, 0, ()))).1) ∧ f98_ok (Int.sub 0 (f51_L5_x2 (p, len p.2.2.2.1, ()) (loopEnd (f51_L5_g (p, len p.2.2.2.1, ())) (f51_L5_next (p, len p.2.2.2.1, ())) (0, 0, ()))).1) 65536 ∧ InR (Int.sub 0 (f98 (Int.sub 0 (f51_L5_x2 (p, len p.2.2.2.1, ()) (loopEnd (f51_L5_g (p, len p.2.2.2.1, ())) (f51_L5_next (p, len p.2.2.2.1, ())) (0, 0, ()))).1) 65536))
    rw [w51_loop p hp]
    refine ⟨sub_in (by show _ ≤ foldI (wstep p.2.2.2.1) _ _; omega) hm.2, floor_ok hm.1 hm.2, ?_⟩
    have := ceil_eq hm.1 hm.2
    have ht := tdiv_bound hm.1 hm.2
    show InR (Int.sub 0 (f98 (Int.sub 0 (foldI (wstep p.2.2.2.1) (len p.2.2.2.1).toNat 0)) 65536))
    rw [← this]
    unfold InR; omega

theorem w48_bound (p : D35) (hp : len p.2.2.2.1 < 9223372036854775808) : 0 ≤ f48 p ∧ f48 p ≤ 17 := by
  have h1 : f48 p = bif (f81 p != 0) then 0 else Int.tdiv ((f48_L5_x2 (p.2.2.2.1, len p.2.2.2.1, ()) (loopEnd (f48_L5_g (p.2.2.2.1, len p.2.2.2.1, ())) (f48_L5_next (p.2.2.2.1, len p.2.2.2.1, ())) (0, 0, ()))).1 + 65536 - 1) 65536 := rfl
  rw [h1, w48_loop _ hp]
  cases hz : (f81 p != 0) with
  | true => exact ⟨Int.le_refl 0, by show (0 : Int) ≤ 17; decide⟩
  | false =>
    have hz : f81 p = 0 := by simpa using hz
    have hn := len_nonneg p.2.2.2.1
    have hb := wfold_bound (l := p.2.2.2.1) (n := (len p.2.2.2.1).toNat) (fun i a b => wcheck_zero hp hz i a (by omega)) (len p.2.2.2.1).toNat (Nat.le_refl _)
    exact tdiv_bound hb.1 hb.2

theorem support_bound (k : Int) : 0 ≤ f49 k ∧ f49 k ≤ 2 := by
  unfold f49
  dsimp only
  generalize (bif (k == 2) then (k == 2) else (k == 4)) = a
  generalize (bif (k == 0) then (k == 0) else (bif (k == 1) then (k == 1) else (k == 3))) = b
  cases a <;> cases b <;> decide

theorem reach_eq {n : D37} (h : Lens n) : f20 n = f21 n := by
  unfold f20 f21
  simp only [freach_eq _ _ h.params, wreach_eq _ h.warp, support_eq]
  cases (n.2.1 == 8) <;> cases (n.2.1 == 11) <;> rfl

theorem reach_ok {n : D37} (h : Lens n) : f20_ok n ∧ f21_ok n := by
  have hw := w48_bound _ h.warp
  have hs := support_bound n.2.2.2.2.2.2.2.2.2.2.2.1
  refine ⟨⟨fun _ => freach_ok _ _ h.params, fun _ _ => ⟨w48_all _ h.warp, trivial, by unfold InR; omega, by unfold InR; omega⟩⟩, ⟨fun _ => freach_ok' _ _, fun _ _ => ⟨w51_all _ h.warp, ?_, ?_, ?_⟩⟩⟩
  · exact fun _ => trivial
  · rw [← wreach_eq _ h.warp, ← support_eq]; unfold InR; omega
  · rw [← wreach_eq _ h.warp, ← support_eq]; unfold InR; omega

theorem nodeReads_law : ∀ x, wfL 0 [T37] x → f5_ok x.1 ∧ f5 x.1 = true := by
  intro x hx
  have h := lens_of hx.1
  have hr := reach_ok h
  refine ⟨⟨trivial, trivial, fun _ => hr.1, fun _ => hr.2, fun _ => example_ok⟩, ?_⟩
  show (bif (bif Ty.eqb .bool (f18 x.1) (f18 x.1) then (f20 x.1 == f21 x.1) else false) then f16 else false) = true
  rw [eqb_self, reach_eq h, example_true]
  simp
end Go.Proofs.YtleannhgpeiooaaGreatDoor.Am
