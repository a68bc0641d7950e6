/- FontWraps: the given card. No condition of its own. -/
import Derived.Test.YtnemgdgminolpaaDoorFontSeatL
import Derived.Test.YtnemgdgminolpaaDoorFontGlob
import Derived.Test.YtnemgdgminolpaaDoorFontSeatW
import Derived.Test.YtnemgdgminolpaaDoorFontJ
import Derived.Test.YtnemgdgminolpaaDoorFontWrapsF
import Derived.Test.YtnemgdgminolpaaDoorFontWrapsG
namespace Go.Proofs.YtnemgdgminolpaaDoor.fontWraps
open Go.ChangeShapes Go.WideShapes Go.ChangeAt Go.RowKit Go.Am Go.Proofs.YtnemgdgminolpaaDoor
theorem laid_met (os : Os) (args : Array Value) : laidMet Tryd.checked.prog Rows.fontWrapsRow.laid ((laidWorld os).forCall (fun _ _ => 0) ⟨#[], args, []⟩).memory := seat_laid os args
noncomputable def args0 : Array Value := #[zeroV Tryd.prog 32]
theorem reads (os : Os) {H : Type} (enc : TypeId × Value → H) : ∃ x, DataW.whole enc Tryd.checked.prog ((laidWorld os).forCall (fun _ _ => 0) ⟨#[], args0, []⟩).memory Tryd.f7.params.toList Rows.fontWrapsSpec.vars false args0.toList 12 = some x :=
  Option.isSome_iff_exists.1 (by kernel_rfl)
theorem w3 (os : Os) : Input.okWideB Tryd.checked.prog ((laidWorld os).forCall (fun _ _ => 0) ⟨#[], args0, []⟩) 7 ⟨#[], args0, []⟩ = true := by kernel_rfl
theorem w4 (os : Os) (H : Type) (enc : TypeId × Value → H) : (OpenSpec.ofChange Rows.fontWrapsSpec).bare.sizedB enc Tryd.checked.prog Tryd.f7 false ((laidWorld os).forCall (fun _ _ => 0) ⟨#[], args0, []⟩).memory args0 12 = true := by kernel_rfl
theorem w6 (os : Os) {H : Type} (enc : TypeId × Value → H) : (OpenSpec.ofChange Rows.fontWrapsSpec).preRow enc Tryd.checked.prog Tryd.f7 Rows.fontWrapsRow.domain false Rows.fontWrapsRow.laid ((laidWorld os).forCall (fun _ _ => 0) ⟨#[], args0, []⟩).memory args0 := by
  obtain ⟨x, hx⟩ := reads os enc
  exact OpenSpec.preRow_of_cond 12 hx rfl (fun k hk => by cases hk) (w4 os H enc) (laid_met os _)
theorem w7 : Tryd.checked.prog.inits.idxOf? 7 = none := by kernel_rfl
set_option maxRecDepth 100000 in
theorem spec : SpecOk Tryd.prog 7 (fnSpec (enumSh 0 [Am.T31]) (.val .bool) [] (fun x => Am.f7_ok x.1) (fun x => Am.f7 x.1) (fun _ => ())) := Am.f7_is
set_option maxRecDepth 100000 in
theorem contract (H : Type) (enc : TypeId × Value → H) (W : World) (base : Nat) (args : Array Value) (ds gs : List (DataW H)) (before : List MemPlace)
    (hval : ∀ (j : Nat) t v, Tryd.f7.params[j]? = some t → args[j]? = some v → Value.okWide Tryd.prog W .any base t v)
    (hW : DataW.Whole enc Tryd.prog Tryd.f7.params.toList Rows.fontWrapsSpec.vars false W args.toList ds gs before) (hglob : GlobOk (fun b _ => if b < W.heap.size then 0 else 2) W) :
    Calls Tryd.prog 7 args W fun e W' => ∃ v, e = .returned v ∧ Rows.fontWrapsSpec.post enc Tryd.prog Tryd.f7 false true false false W args v W' := by
  have hW' := hW
  obtain ⟨p, q, hA0, hV, rfl, hfz, hnd⟩ := hW
  obtain ⟨rfl, rfl⟩ := trodVars_none hV
  have hA : DataW.TrodAll enc Tryd.prog W 0 (fun _ => true) true [32] args.toList ds p := hA0
  have hcall := law_calls (enc := enc) (w := W) (τs := [Am.T31]) (Ts := [32]) spec (by kernel_rfl) (by kernel_rfl) Am.fontWraps_law hA (base := base) (fun j t v ht hv => hval j t v (by rw [Tryd.params7]; simpa using ht) (by simpa using hv)) hglob
  simp only [List.append_nil] at hW'
  have hlt : ∀ x ∈ p, x.block < W.heap.size := fun x hx => by simpa using hW'.lt x hx
  refine hcall.mono fun e W' ⟨he, hb⟩ => ?_
  subst he
  have hspec : (Rows.fontWrapsSpec.fn H (ds ++ [])) = { results := [.lit (.bool true)], args := ds } := by
    rw [List.append_nil]
    obtain ⟨d0, rfl⟩ := trod_len1 hA; rfl
  refine ⟨_, rfl, post_law (pa := p) (pv := []) hW' (fun _ _ _ => ?_) (fun sp hsp => ?_) (fun _ _ => by rw [hspec]; rfl) (by simp) (hb.frame _)⟩
  · rw [hspec]; exact trodAll_cons_mk (shut_bool Tryd.underlying4 _) trodAll_mk0
  · rw [hspec]; exact below_trods laidOut (by kernel_rfl) hA hb hlt hsp
set_option maxRecDepth 100000 in
theorem wit (os : Os) (H : Type) (enc : TypeId × Value → H) : ∃ (w : World) (tape : Tape) (i : Input), w.os = os ∧ (w.forCall tape i).Shaped Tryd.checked.prog ∧ i.vars = [] ∧ Input.okWide Tryd.checked.prog (w.forCall tape i) .any w.heap.size 7 i ∧
      (OpenSpec.ofChange Rows.fontWrapsSpec).preRow enc Tryd.checked.prog Tryd.f7 Rows.fontWrapsRow.domain false Rows.fontWrapsRow.laid (w.forCall tape i).memory i.args ∧ ({} : Assume).holds Tryd.checked.prog (lone (Frame.enter Tryd.checked.prog 7 i.args .normal) [] (w.forCall tape i)) :=
  witness_row_atRef (enc := enc) (C := Tryd.checked) false (laidWorld os) args0 (seat_os os) (seat_vars os args0) (seat_rest os args0) (w3 os) (w6 os enc)
set_option maxRecDepth 100000 in
theorem lifted (os : Os) (started : os.Started) (H : Type) (enc : TypeId × Value → H) (F : Stop.Interp) :
    ReturnsInHanded {} Tryd.checked os 7 .any ((OpenSpec.ofChange Rows.fontWrapsSpec).preRow enc Tryd.prog Tryd.f7 Rows.fontWrapsRow.domain false Rows.fontWrapsRow.laid) (((OpenSpec.ofChange Rows.fontWrapsSpec).at F).post enc Tryd.prog Tryd.f7 false true false false) := by
  refine returnsInHanded_of_row (C := Tryd.checked) (s := OpenSpec.ofChange Rows.fontWrapsSpec) own started w7 Tryd.func7 (wit os H enc) ?_
  intro W base args ds gs before hval hW _ _ _ hL _ _
  exact contract H enc W base args ds gs before hval hW (Am.glob_of W hL)
theorem said : Rows.FontWrapsSaid :=
  OpenClaim.holds_of_cond 7 Tryd.f7 rfl rfl rfl rfl rfl rfl rfl ⟨rfl, rfl, rfl, rfl, rfl⟩ rfl rfl rfl rfl rfl named Tryd.func7 facts inst wrap
    (fun os started H enc _ F => by rw [OpenClaim.pre_eq_preRow]; exact lifted os started H enc F)
theorem plain (f : FuncId) (fn : Func) (hf : Tryd.pinned.checked.prog.funcNamed Rows.fontWrapsRow.func = some f) (hfn : Tryd.pinned.checked.prog.funcs[f]? = some fn) :
    false = Tryd.pinned.checked.prog.looks [] ∧ ∀ (j : Nat) t, fn.params[j]? = some t → Tryd.pinned.checked.prog.wantsStandIn t = false := by
  obtain rfl : f = 7 := Option.some.inj ((show Tryd.prog.funcNamed Rows.fontWrapsRow.func = some 7 by kernel_rfl).symm.trans hf) |>.symm
  obtain rfl : fn = Tryd.f7 := (Option.some.inj (Tryd.func7.symm.trans hfn)).symm
  refine ⟨by kernel_rfl, fun j t ht => ?_⟩
  rw [Tryd.params7] at ht
  have hm := Array.mem_of_getElem? ht
  have hall : ([32] : List TypeId).all (fun t => !(Tryd.prog.wantsStandIn t)) = true := by kernel_rfl
  have := List.all_eq_true.1 hall t (by simpa using hm)
  have h0 : Tryd.prog.wantsStandIn t = false := Bool.eq_false_iff.2 (by simpa using this)
  exact h0
end Go.Proofs.YtnemgdgminolpaaDoor.fontWraps
namespace Go.Proofs.YtnemgdgminolpaaDoor
theorem fontWraps_card : Rows.FontWrapsCardSaid :=
  Claim7.holds_tied_plain_at .later [] _ _ _ _ fontWraps.said (fun _ h => by cases h) (by kernel_rfl) (fun _ h => by cases h) fontWraps_row_tie rfl ⟨rfl, rfl⟩ (by kernel_rfl) rfl fontWraps.plain (by kernel_rfl)
end Go.Proofs.YtnemgdgminolpaaDoor
