/- NativeDamages: the given card. No condition of its own. -/
import Derived.Test.YtmbjipigimohbaaGreatDoorDckSeatL
import Derived.Test.YtmbjipigimohbaaGreatDoorDckGlob
import Derived.Test.YtmbjipigimohbaaGreatDoorDckSeatW
import Derived.Test.YtmbjipigimohbaaGreatDoorNqA
import Derived.Test.YtmbjipigimohbaaGreatDoorNativeDamagesF
import Derived.Test.YtmbjipigimohbaaGreatDoorNativeDamagesG
namespace Go.Proofs.YtmbjipigimohbaaGreatDoor.nativeDamagesUpto
open Go.ChangeShapes Go.WideShapes Go.ChangeAt Go.RowKit Go.Am Go.Proofs.YtmbjipigimohbaaGreatDoor
theorem laid_met (os : Os) (args : Array Value) : laidMet Tryz.checked.prog Rows.nativeDamagesUptoRow.laid ((laidWorld os).forCall (fun _ _ => 0) ⟨#[], args, []⟩).memory := seat_laid os args
noncomputable def args0 : Array Value := #[zeroV Tryz.prog 29, zeroV Tryz.prog 69, zeroV Tryz.prog 9]
theorem reads (os : Os) {H : Type} (enc : TypeId × Value → H) : ∃ x, DataW.whole enc Tryz.checked.prog ((laidWorld os).forCall (fun _ _ => 0) ⟨#[], args0, []⟩).memory Tryz.f5.params.toList Rows.nativeDamagesSpec.vars false args0.toList 12 = some x :=
  Option.isSome_iff_exists.1 (by kernel_rfl)
theorem w3 (os : Os) : Input.okWideB Tryz.checked.prog ((laidWorld os).forCall (fun _ _ => 0) ⟨#[], args0, []⟩) 5 ⟨#[], args0, []⟩ = true := by kernel_rfl
theorem w4 (os : Os) (H : Type) (enc : TypeId × Value → H) : (Rows.OpenSpec.upto Rows.nativeDamagesSpec).bare.sizedB enc Tryz.checked.prog Tryz.f5 false ((laidWorld os).forCall (fun _ _ => 0) ⟨#[], args0, []⟩).memory args0 12 = true := by kernel_rfl
theorem w5 (os : Os) (H : Type) (enc : TypeId × Value → H) (x : List (DataW H) × List (DataW H) × List MemPlace) (hx : DataW.whole enc Tryz.checked.prog ((laidWorld os).forCall (fun _ _ => 0) ⟨#[], args0, []⟩).memory Tryz.f5.params.toList Rows.nativeDamagesSpec.vars false args0.toList 12 = some x) : Rows.uptoSmall H (x.1 ++ x.2.1) = true := by
  have h : (match DataW.whole enc Tryz.checked.prog ((laidWorld os).forCall (fun _ _ => 0) ⟨#[], args0, []⟩).memory Tryz.f5.params.toList Rows.nativeDamagesSpec.vars false args0.toList 12 with | some x => Rows.uptoSmall H (x.1 ++ x.2.1) | none => false) = true := by kernel_rfl
  rw [hx] at h
  exact h
set_option maxRecDepth 100000 in
theorem w6 (os : Os) {H : Type} (enc : TypeId × Value → H) : (Rows.OpenSpec.upto Rows.nativeDamagesSpec).preRow enc Tryz.checked.prog Tryz.f5 Rows.nativeDamagesUptoRow.domain false Rows.nativeDamagesUptoRow.laid ((laidWorld os).forCall (fun _ _ => 0) ⟨#[], args0, []⟩).memory args0 := by
  obtain ⟨x, hx⟩ := reads os enc
  exact OpenSpec.preRow_of_cond 12 hx rfl (fun k hk => (show some Rows.uptoSmall = some k from hk) |> Option.some.inj |> fun e => e ▸ w5 os H enc x hx) (w4 os H enc) (laid_met os _)
theorem w7 : Tryz.checked.prog.inits.idxOf? 5 = none := by kernel_rfl
set_option maxRecDepth 100000 in
theorem spec : SpecOk Tryz.prog 5 (fnSpec (enumSh 0 [Am.T28, Am.T68, .str]) (.val .bool) [] (fun x => Am.f5_ok x.1 x.2.1 x.2.2.1) (fun x => Am.f5 x.1 x.2.1 x.2.2.1) (fun _ => ())) := Am.f5_is
set_option maxRecDepth 100000 in
theorem contract (H : Type) (enc : TypeId × Value → H) (W : World) (base : Nat) (args : Array Value) (ds gs : List (DataW H)) (before : List MemPlace)
    (hval : ∀ (j : Nat) t v, Tryz.f5.params[j]? = some t → args[j]? = some v → Value.okWide Tryz.prog W .any base t v)
    (hW : DataW.Whole enc Tryz.prog Tryz.f5.params.toList Rows.nativeDamagesSpec.vars false W args.toList ds gs before) (hN : Rows.uptoBulkAll ds ≤ 1048576) (hglob : GlobOk (fun b _ => if b < W.heap.size then 0 else 2) W) :
    Calls Tryz.prog 5 args W fun e W' => ∃ v, e = .returned v ∧ Rows.nativeDamagesSpec.post enc Tryz.prog Tryz.f5 false true false false W args v W' := by
  have hW' := hW
  obtain ⟨p, q, hA0, hV, rfl, hfz, hnd⟩ := hW
  obtain ⟨rfl, rfl⟩ := trodVars_none hV
  have hA : DataW.TrodAll enc Tryz.prog W 0 (fun _ => true) true [29, 69, 9] args.toList ds p := hA0
  have hcall := law_callsU bulkFn (enc := enc) (w := W) (τs := [Am.T28, Am.T68, .str]) (Ts := [29, 69, 9]) spec (by kernel_rfl) (by kernel_rfl) Am.nativeDamages_law hA (base := base) (fun j t v ht hv => hval j t v (by rw [Tryz.params5]; simpa using ht) (by simpa using hv)) hN hglob
  simp only [List.append_nil] at hW'
  have hlt : ∀ x ∈ p, x.block < W.heap.size := fun x hx => by simpa using hW'.lt x hx
  refine hcall.mono fun e W' ⟨he, hb⟩ => ?_
  subst he
  have hspec : (Rows.nativeDamagesSpec.fn H (ds ++ [])) = { results := [.lit (.bool true)], args := ds } := by
    rw [List.append_nil]
    obtain ⟨d0, d1, d2, rfl⟩ := trod_len3 hA; rfl
  refine ⟨_, rfl, post_law (pa := p) (pv := []) hW' (fun _ _ _ => ?_) (fun sp hsp => ?_) (fun _ _ => by rw [hspec]; rfl) (by simp) (hb.frame _)⟩
  · rw [hspec]; exact trodAll_cons_mk (shut_bool Tryz.underlying4 _) trodAll_mk0
  · rw [hspec]; exact below_trods laidOut (by kernel_rfl) hA hb hlt hsp
set_option maxRecDepth 100000 in
theorem wit (os : Os) (H : Type) (enc : TypeId × Value → H) : ∃ (w : World) (tape : Tape) (i : Input), w.os = os ∧ (w.forCall tape i).Shaped Tryz.checked.prog ∧ i.vars = [] ∧ Input.okWide Tryz.checked.prog (w.forCall tape i) .any w.heap.size 5 i ∧
      (Rows.OpenSpec.upto Rows.nativeDamagesSpec).preRow enc Tryz.checked.prog Tryz.f5 Rows.nativeDamagesUptoRow.domain false Rows.nativeDamagesUptoRow.laid (w.forCall tape i).memory i.args ∧ ({} : Assume).holds Tryz.checked.prog (lone (Frame.enter Tryz.checked.prog 5 i.args .normal) [] (w.forCall tape i)) :=
  witness_row_atRef (enc := enc) (C := Tryz.checked) false (laidWorld os) args0 (seat_os os) (seat_vars os args0) (seat_rest os args0) (w3 os) (w6 os enc)
set_option maxRecDepth 100000 in
theorem lifted (os : Os) (started : os.Started) (H : Type) (enc : TypeId × Value → H) (F : Stop.Interp) :
    ReturnsInHanded {} Tryz.checked os 5 .any ((Rows.OpenSpec.upto Rows.nativeDamagesSpec).preRow enc Tryz.prog Tryz.f5 Rows.nativeDamagesUptoRow.domain false Rows.nativeDamagesUptoRow.laid) (((Rows.OpenSpec.upto Rows.nativeDamagesSpec).at F).post enc Tryz.prog Tryz.f5 false true false false) := by
  refine returnsInHanded_of_row (C := Tryz.checked) (s := Rows.OpenSpec.upto Rows.nativeDamagesSpec) own started w7 Tryz.func5 (wit os H enc) ?_
  intro W base args ds gs before hval hW _ hcond _ hL _ _
  have hsm := hcond _ rfl
  have hgs : gs = [] := by
    obtain ⟨p, q, _, hV, _⟩ := hW
    exact (trodVars_none hV).1
  subst hgs
  rw [List.append_nil] at hsm
  exact contract H enc W base args ds [] before hval hW (of_decide_eq_true hsm) (Am.glob_of W hL)
theorem said : Rows.NativeDamagesUptoSaid :=
  OpenClaim.holds_of_cond 5 Tryz.f5 rfl rfl rfl rfl rfl rfl rfl ⟨rfl, rfl, rfl, rfl, rfl⟩ rfl rfl rfl rfl rfl named Tryz.func5 facts inst wrap
    (fun os started H enc _ F => by rw [OpenClaim.pre_eq_preRow]; exact lifted os started H enc F)
theorem plain (f : FuncId) (fn : Func) (hf : Tryz.pinned.checked.prog.funcNamed Rows.nativeDamagesUptoRow.func = some f) (hfn : Tryz.pinned.checked.prog.funcs[f]? = some fn) :
    false = Tryz.pinned.checked.prog.looks [] ∧ ∀ (j : Nat) t, fn.params[j]? = some t → Tryz.pinned.checked.prog.wantsStandIn t = false := by
  obtain rfl : f = 5 := Option.some.inj ((show Tryz.prog.funcNamed Rows.nativeDamagesUptoRow.func = some 5 by kernel_rfl).symm.trans hf) |>.symm
  obtain rfl : fn = Tryz.f5 := (Option.some.inj (Tryz.func5.symm.trans hfn)).symm
  refine ⟨by kernel_rfl, fun j t ht => ?_⟩
  rw [Tryz.params5] at ht
  have hm := Array.mem_of_getElem? ht
  have hall : ([29, 69, 9] : List TypeId).all (fun t => !(Tryz.prog.wantsStandIn t)) = true := by kernel_rfl
  have := List.all_eq_true.1 hall t (by simpa using hm)
  have h0 : Tryz.prog.wantsStandIn t = false := Bool.eq_false_iff.2 (by simpa using this)
  exact h0
end Go.Proofs.YtmbjipigimohbaaGreatDoor.nativeDamagesUpto
namespace Go.Proofs.YtmbjipigimohbaaGreatDoor
theorem nativeDamagesUpto_card : Rows.NativeDamagesUptoCardSaid :=
  Claim7.holds_tied_plain_at .later [] _ _ _ _ nativeDamagesUpto.said (fun _ h => by cases h) (by kernel_rfl) (fun _ h => by cases h) nativeDamagesUpto_row_tie rfl ⟨rfl, rfl⟩ (by kernel_rfl) rfl nativeDamagesUpto.plain (by kernel_rfl)
end Go.Proofs.YtmbjipigimohbaaGreatDoor
