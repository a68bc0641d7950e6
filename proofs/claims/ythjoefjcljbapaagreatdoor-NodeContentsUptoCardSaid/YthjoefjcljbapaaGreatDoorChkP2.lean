/- Printed by program, part 2. No condition. -/
import Derived.Test.YthjoefjcljbapaaGreatDoorChkL
set_option linter.unusedVariables false
set_option synthInstance.maxSize 4000
set_option synthInstance.maxHeartbeats 400000
namespace Go.Proofs.YthjoefjcljbapaaGreatDoor.Am
open Go Go.Am Go.Proofs
abbrev f41_L4_Y : Type := ((List Int) × (List Int) × Unit)
abbrev f41_L4_X : Type := (Int × Unit)
def f41_L4t (y : f41_L4_Y) (x : f41_L4_X) : Prop × Bool × f41_L4_X × Bool × Bool :=
 let a0 := y.1
 let a1 := y.2.1
 let a5 := x.1
 let v14 := (decide (a5 < (len a0)))
 let v25 := ((nth a0 a5 (0 : Int)) != (nth a1 a5 (0 : Int)))
 ((v14 = true → (InB a5 (len a0) ∧ (InB a5 (len a1) ∧ ((!v25) = true → InR (a5 + 1))))), (v14 && (!v25)), ((a5 + 1), ()), (v14 && v25), (!v14))
def f41_L4_ok (y : f41_L4_Y) (x : f41_L4_X) : Prop := (f41_L4t y x).1
def f41_L4_g (y : f41_L4_Y) (x : f41_L4_X) : Bool := (f41_L4t y x).2.1
def f41_L4_next (y : f41_L4_Y) (x : f41_L4_X) : f41_L4_X := (f41_L4t y x).2.2.1
def f41_L4_e1 (y : f41_L4_Y) (x : f41_L4_X) : Bool := (f41_L4t y x).2.2.2.1
def f41_L4_e2 (y : f41_L4_Y) (x : f41_L4_X) : Bool := (f41_L4t y x).2.2.2.2
instance (y : f41_L4_Y) (x : f41_L4_X) : Decidable (f41_L4_ok y x) := by
 unfold f41_L4_ok f41_L4t
 try dsimp only
 infer_instance
def f41_L4_x1_0 (y : f41_L4_Y) (x : f41_L4_X) : Bool :=
 false
def f41_L4_spec : St → Option Out := loopS [(0, (.val (.sl (.int .i64)))), (1, (.val (.sl (.int .i64))))] [(5, vI)] f41_L4_g f41_L4_next f41_L4_ok fun y x => [ex 1 (some (f41_L4_e1 y x)) [(4, vB)] ((f41_L4_x1_0 y x), ()), ex 2 (some (f41_L4_e2 y x)) [] ()]
def f41t (p0 : (List Int)) (p1 : (List Int)) : Prop × Bool :=
 let v10 := ((len p0) != (len p1))
 let y4 := (p0, p1, ())
 let x4 := ((0 : Int), ())
 let e4 := (loopEnd (f41_L4_g y4) (f41_L4_next y4) x4)
 (((!v10) = true → (Am.Ends (f41_L4_g y4) (f41_L4_next y4) (f41_L4_ok y4) x4)), (bif v10 then false else (bif (f41_L4_e1 y4 e4) then (f41_L4_x1_0 y4 e4) else true)))
def f41_ok (p0 : (List Int)) (p1 : (List Int)) : Prop := (f41t p0 p1).1
def f41 (p0 : (List Int)) (p1 : (List Int)) : Bool := (f41t p0 p1).2
instance (p0 : (List Int)) (p1 : (List Int)) : Decidable (f41_ok p0 p1) := by
 unfold f41_ok f41t
 try dsimp only
 infer_instance
def f41_spec : Am.Spec := fnSpec [(0, (.val (.sl (.int .i64)))), (1, (.val (.sl (.int .i64))))] vB [] (fun x => f41_ok x.1 x.2.1) (fun x => f41 x.1 x.2.1) (fun _ => ())
def f41_ctx : Ctx := Cx tys [] [(4, f41_L4_spec)] [] false 26 [] []
theorem f41_cok : CtxOk Tryz.prog f41_ctx := ctxOk_mk tys_ok rfl trivial rfl (by kernel_rfl)
noncomputable def f41_code : Code := Tryz.f41.body.getD .skip
noncomputable def f41_L4 : Code := nthLoop f41_code 0
theorem f41_L4_is : LoopSnd Tryz.prog f41_ctx f41_L4 := lgen f41_cok mixed (sp := f41_L4_spec) rfl [[(4, vB)], []] (bs := []) (by kernel_rfl) trivial (by kernel_rfl) (by kernel_rfl) fun y x => by kernel_rfl
theorem f41_is : SpecOk Tryz.prog 41 f41_spec := fgen f41_cok mixed Tryz.func41 (by kernel_rfl) (bs := [f41_L4]) (by kernel_rfl) ⟨f41_L4_is, trivial⟩ fun x => by kernel_rfl
def f21t (p0 : D23) (p1 : D23) : Prop × Bool :=
 let v16 := (bif (p0.1 == p1.1) then (p0.2.1 == p1.2.1) else false)
 ((v16 = true → (f41_ok p0.2.2.1 p1.2.2.1)), (bif v16 then (f41 p0.2.2.1 p1.2.2.1) else false))
def f21_ok (p0 : D23) (p1 : D23) : Prop := (f21t p0 p1).1
def f21 (p0 : D23) (p1 : D23) : Bool := (f21t p0 p1).2
instance (p0 : D23) (p1 : D23) : Decidable (f21_ok p0 p1) := by
 unfold f21_ok f21t
 try dsimp only
 infer_instance
def f21_spec : Am.Spec := fnSpec [(0, (.val T23)), (1, (.val T23))] vB [] (fun x => f21_ok x.1 x.2.1) (fun x => f21 x.1 x.2.1) (fun _ => ())
def f21_ctx : Ctx := Cx tys [(41, f41_spec)] [] [] false 24 [] []
theorem f21_cok : CtxOk Tryz.prog f21_ctx := ctxOk_mk tys_ok rfl ⟨f41_is, trivial⟩ rfl (by kernel_rfl)
theorem f21_is : SpecOk Tryz.prog 21 f21_spec := fgen f21_cok mixed Tryz.func21 (by kernel_rfl) (bs := []) (by kernel_rfl) trivial fun x => by kernel_rfl
abbrev f42_L4_Y : Type := (D28 × D28 × Unit)
abbrev f42_L4_X : Type := (Int × Unit)
def f42_L4t (y : f42_L4_Y) (x : f42_L4_X) : Prop × Bool × f42_L4_X × Bool × Bool :=
 let a2 := y.1
 let a3 := y.2.1
 let a5 := x.1
 let v31 := (decide (a5 < (len a2.2.2.1)))
 let v44 := (!(Ty.eqb T30 (nth a2.2.2.1 a5 Z30) (nth a3.2.2.1 a5 Z30)))
 ((v31 = true → (InB a5 (len a2.2.2.1) ∧ (InB a5 (len a3.2.2.1) ∧ ((!v44) = true → InR (a5 + 1))))), (v31 && (!v44)), ((a5 + 1), ()), (v31 && v44), (!v31))
def f42_L4_ok (y : f42_L4_Y) (x : f42_L4_X) : Prop := (f42_L4t y x).1
def f42_L4_g (y : f42_L4_Y) (x : f42_L4_X) : Bool := (f42_L4t y x).2.1
def f42_L4_next (y : f42_L4_Y) (x : f42_L4_X) : f42_L4_X := (f42_L4t y x).2.2.1
def f42_L4_e1 (y : f42_L4_Y) (x : f42_L4_X) : Bool := (f42_L4t y x).2.2.2.1
def f42_L4_e2 (y : f42_L4_Y) (x : f42_L4_X) : Bool := (f42_L4t y x).2.2.2.2
instance (y : f42_L4_Y) (x : f42_L4_X) : Decidable (f42_L4_ok y x) := by
 unfold f42_L4_ok f42_L4t
 try dsimp only
 infer_instance
def f42_L4_x1_0 (y : f42_L4_Y) (x : f42_L4_X) : Bool :=
 false
def f42_L4_spec : St → Option Out := loopS [(2, (.box T28 (.val T28))), (3, (.box T28 (.val T28)))] [(5, vI)] f42_L4_g f42_L4_next f42_L4_ok fun y x => [ex 1 (some (f42_L4_e1 y x)) [(4, vB)] ((f42_L4_x1_0 y x), ()), ex 2 (some (f42_L4_e2 y x)) [] ()]
def f42t (p0 : D28) (p1 : D28) : Prop × Bool :=
 let v26 := (bif (bif (p0.1 != p1.1) then true else (p0.2.1 != p1.2.1)) then true else ((len p0.2.2.1) != (len p1.2.2.1)))
 let y4 := (p0, p1, ())
 let x4 := ((0 : Int), ())
 let e4 := (loopEnd (f42_L4_g y4) (f42_L4_next y4) x4)
 (((!v26) = true → (Am.Ends (f42_L4_g y4) (f42_L4_next y4) (f42_L4_ok y4) x4)), (bif v26 then false else (bif (f42_L4_e1 y4 e4) then (f42_L4_x1_0 y4 e4) else true)))
def f42_ok (p0 : D28) (p1 : D28) : Prop := (f42t p0 p1).1
def f42 (p0 : D28) (p1 : D28) : Bool := (f42t p0 p1).2
instance (p0 : D28) (p1 : D28) : Decidable (f42_ok p0 p1) := by
 unfold f42_ok f42t
 try dsimp only
 infer_instance
def f42_spec : Am.Spec := fnSpec [(0, (.val T28)), (1, (.val T28))] vB [] (fun x => f42_ok x.1 x.2.1) (fun x => f42 x.1 x.2.1) (fun _ => ())
def f42_ctx : Ctx := Cx tys [] [(4, f42_L4_spec)] [] false 45 [] []
theorem f42_cok : CtxOk Tryz.prog f42_ctx := ctxOk_mk tys_ok rfl trivial rfl (by kernel_rfl)
noncomputable def f42_code : Code := Tryz.f42.body.getD .skip
noncomputable def f42_L4 : Code := nthLoop f42_code 0
theorem f42_L4_is : LoopSnd Tryz.prog f42_ctx f42_L4 := lgen f42_cok mixed (sp := f42_L4_spec) rfl [[(4, vB)], []] (bs := []) (by kernel_rfl) trivial (by kernel_rfl) (by kernel_rfl) fun y x => by kernel_rfl
theorem f42_is : SpecOk Tryz.prog 42 f42_spec := fgen f42_cok mixed Tryz.func42 (by kernel_rfl) (bs := [f42_L4]) (by kernel_rfl) ⟨f42_L4_is, trivial⟩ fun x => by kernel_rfl
abbrev f43_L4_Y : Type := ((List D53) × (List D53) × Unit)
abbrev f43_L4_X : Type := (Int × Unit)
def f43_L4t (y : f43_L4_Y) (x : f43_L4_X) : Prop × Bool × f43_L4_X × Bool × Bool :=
 let a0 := y.1
 let a1 := y.2.1
 let a5 := x.1
 let v14 := (decide (a5 < (len a0)))
 let v25 := (!(Ty.eqb T53 (nth a0 a5 Z53) (nth a1 a5 Z53)))
 ((v14 = true → (InB a5 (len a0) ∧ (InB a5 (len a1) ∧ ((!v25) = true → InR (a5 + 1))))), (v14 && (!v25)), ((a5 + 1), ()), (v14 && v25), (!v14))
def f43_L4_ok (y : f43_L4_Y) (x : f43_L4_X) : Prop := (f43_L4t y x).1
def f43_L4_g (y : f43_L4_Y) (x : f43_L4_X) : Bool := (f43_L4t y x).2.1
def f43_L4_next (y : f43_L4_Y) (x : f43_L4_X) : f43_L4_X := (f43_L4t y x).2.2.1
def f43_L4_e1 (y : f43_L4_Y) (x : f43_L4_X) : Bool := (f43_L4t y x).2.2.2.1
def f43_L4_e2 (y : f43_L4_Y) (x : f43_L4_X) : Bool := (f43_L4t y x).2.2.2.2
instance (y : f43_L4_Y) (x : f43_L4_X) : Decidable (f43_L4_ok y x) := by
 unfold f43_L4_ok f43_L4t
 try dsimp only
 infer_instance
def f43_L4_x1_0 (y : f43_L4_Y) (x : f43_L4_X) : Bool :=
 false
def f43_L4_spec : St → Option Out := loopS [(0, (.val (.sl T53))), (1, (.val (.sl T53)))] [(5, vI)] f43_L4_g f43_L4_next f43_L4_ok fun y x => [ex 1 (some (f43_L4_e1 y x)) [(4, vB)] ((f43_L4_x1_0 y x), ()), ex 2 (some (f43_L4_e2 y x)) [] ()]
def f43t (p0 : (List D53)) (p1 : (List D53)) : Prop × Bool :=
 let v10 := ((len p0) != (len p1))
 let y4 := (p0, p1, ())
 let x4 := ((0 : Int), ())
 let e4 := (loopEnd (f43_L4_g y4) (f43_L4_next y4) x4)
 (((!v10) = true → (Am.Ends (f43_L4_g y4) (f43_L4_next y4) (f43_L4_ok y4) x4)), (bif v10 then false else (bif (f43_L4_e1 y4 e4) then (f43_L4_x1_0 y4 e4) else true)))
def f43_ok (p0 : (List D53)) (p1 : (List D53)) : Prop := (f43t p0 p1).1
def f43 (p0 : (List D53)) (p1 : (List D53)) : Bool := (f43t p0 p1).2
instance (p0 : (List D53)) (p1 : (List D53)) : Decidable (f43_ok p0 p1) := by
 unfold f43_ok f43t
 try dsimp only
 infer_instance
def f43_spec : Am.Spec := fnSpec [(0, (.val (.sl T53))), (1, (.val (.sl T53)))] vB [] (fun x => f43_ok x.1 x.2.1) (fun x => f43 x.1 x.2.1) (fun _ => ())
def f43_ctx : Ctx := Cx tys [] [(4, f43_L4_spec)] [] false 26 [] []
theorem f43_cok : CtxOk Tryz.prog f43_ctx := ctxOk_mk tys_ok rfl trivial rfl (by kernel_rfl)
noncomputable def f43_code : Code := Tryz.f43.body.getD .skip
noncomputable def f43_L4 : Code := nthLoop f43_code 0
theorem f43_L4_is : LoopSnd Tryz.prog f43_ctx f43_L4 := lgen f43_cok mixed (sp := f43_L4_spec) rfl [[(4, vB)], []] (bs := []) (by kernel_rfl) trivial (by kernel_rfl) (by kernel_rfl) fun y x => by kernel_rfl
theorem f43_is : SpecOk Tryz.prog 43 f43_spec := fgen f43_cok mixed Tryz.func43 (by kernel_rfl) (bs := [f43_L4]) (by kernel_rfl) ⟨f43_L4_is, trivial⟩ fun x => by kernel_rfl
abbrev f44_L4_Y : Type := ((List D58) × (List D58) × Unit)
abbrev f44_L4_X : Type := (Int × Unit)
def f44_L4t (y : f44_L4_Y) (x : f44_L4_X) : Prop × Bool × f44_L4_X × Bool × Bool :=
 let a0 := y.1
 let a1 := y.2.1
 let a5 := x.1
 let v14 := (decide (a5 < (len a0)))
 let v25 := (!(Ty.eqb T58 (nth a0 a5 Z58) (nth a1 a5 Z58)))
 ((v14 = true → (InB a5 (len a0) ∧ (InB a5 (len a1) ∧ ((!v25) = true → InR (a5 + 1))))), (v14 && (!v25)), ((a5 + 1), ()), (v14 && v25), (!v14))
def f44_L4_ok (y : f44_L4_Y) (x : f44_L4_X) : Prop := (f44_L4t y x).1
def f44_L4_g (y : f44_L4_Y) (x : f44_L4_X) : Bool := (f44_L4t y x).2.1
def f44_L4_next (y : f44_L4_Y) (x : f44_L4_X) : f44_L4_X := (f44_L4t y x).2.2.1
def f44_L4_e1 (y : f44_L4_Y) (x : f44_L4_X) : Bool := (f44_L4t y x).2.2.2.1
def f44_L4_e2 (y : f44_L4_Y) (x : f44_L4_X) : Bool := (f44_L4t y x).2.2.2.2
instance (y : f44_L4_Y) (x : f44_L4_X) : Decidable (f44_L4_ok y x) := by
 unfold f44_L4_ok f44_L4t
 try dsimp only
 infer_instance
def f44_L4_x1_0 (y : f44_L4_Y) (x : f44_L4_X) : Bool :=
 false
def f44_L4_spec : St → Option Out := loopS [(0, (.val (.sl T58))), (1, (.val (.sl T58)))] [(5, vI)] f44_L4_g f44_L4_next f44_L4_ok fun y x => [ex 1 (some (f44_L4_e1 y x)) [(4, vB)] ((f44_L4_x1_0 y x), ()), ex 2 (some (f44_L4_e2 y x)) [] ()]
def f44t (p0 : (List D58)) (p1 : (List D58)) : Prop × Bool :=
 let v10 := ((len p0) != (len p1))
 let y4 := (p0, p1, ())
 let x4 := ((0 : Int), ())
 let e4 := (loopEnd (f44_L4_g y4) (f44_L4_next y4) x4)
 (((!v10) = true → (Am.Ends (f44_L4_g y4) (f44_L4_next y4) (f44_L4_ok y4) x4)), (bif v10 then false else (bif (f44_L4_e1 y4 e4) then (f44_L4_x1_0 y4 e4) else true)))
def f44_ok (p0 : (List D58)) (p1 : (List D58)) : Prop := (f44t p0 p1).1
def f44 (p0 : (List D58)) (p1 : (List D58)) : Bool := (f44t p0 p1).2
instance (p0 : (List D58)) (p1 : (List D58)) : Decidable (f44_ok p0 p1) := by
 unfold f44_ok f44t
 try dsimp only
 infer_instance
def f44_spec : Am.Spec := fnSpec [(0, (.val (.sl T58))), (1, (.val (.sl T58)))] vB [] (fun x => f44_ok x.1 x.2.1) (fun x => f44 x.1 x.2.1) (fun _ => ())
def f44_ctx : Ctx := Cx tys [] [(4, f44_L4_spec)] [] false 26 [] []
theorem f44_cok : CtxOk Tryz.prog f44_ctx := ctxOk_mk tys_ok rfl trivial rfl (by kernel_rfl)
noncomputable def f44_code : Code := Tryz.f44.body.getD .skip
noncomputable def f44_L4 : Code := nthLoop f44_code 0
theorem f44_L4_is : LoopSnd Tryz.prog f44_ctx f44_L4 := lgen f44_cok mixed (sp := f44_L4_spec) rfl [[(4, vB)], []] (bs := []) (by kernel_rfl) trivial (by kernel_rfl) (by kernel_rfl) fun y x => by kernel_rfl
theorem f44_is : SpecOk Tryz.prog 44 f44_spec := fgen f44_cok mixed Tryz.func44 (by kernel_rfl) (bs := [f44_L4]) (by kernel_rfl) ⟨f44_L4_is, trivial⟩ fun x => by kernel_rfl
abbrev f45_L4_Y : Type := (D35 × D35 × Unit)
abbrev f45_L4_X : Type := (Int × Unit)
def f45_L4t (y : f45_L4_Y) (x : f45_L4_X) : Prop × Bool × f45_L4_X × Bool × Bool :=
 let a2 := y.1
 let a3 := y.2.1
 let a5 := x.1
 let v38 := (decide (a5 < (len a2.2.2.2.1)))
 let v51 := (!(Ty.eqb T55 (nth a2.2.2.2.1 a5 Z55) (nth a3.2.2.2.1 a5 Z55)))
 ((v38 = true → (InB a5 (len a2.2.2.2.1) ∧ (InB a5 (len a3.2.2.2.1) ∧ ((!v51) = true → InR (a5 + 1))))), (v38 && (!v51)), ((a5 + 1), ()), (v38 && v51), (!v38))
def f45_L4_ok (y : f45_L4_Y) (x : f45_L4_X) : Prop := (f45_L4t y x).1
def f45_L4_g (y : f45_L4_Y) (x : f45_L4_X) : Bool := (f45_L4t y x).2.1
def f45_L4_next (y : f45_L4_Y) (x : f45_L4_X) : f45_L4_X := (f45_L4t y x).2.2.1
def f45_L4_e1 (y : f45_L4_Y) (x : f45_L4_X) : Bool := (f45_L4t y x).2.2.2.1
def f45_L4_e2 (y : f45_L4_Y) (x : f45_L4_X) : Bool := (f45_L4t y x).2.2.2.2
instance (y : f45_L4_Y) (x : f45_L4_X) : Decidable (f45_L4_ok y x) := by
 unfold f45_L4_ok f45_L4t
 try dsimp only
 infer_instance
def f45_L4_x1_0 (y : f45_L4_Y) (x : f45_L4_X) : Bool :=
 false
def f45_L4_spec : St → Option Out := loopS [(2, (.box T35 (.val T35))), (3, (.box T35 (.val T35)))] [(5, vI)] f45_L4_g f45_L4_next f45_L4_ok fun y x => [ex 1 (some (f45_L4_e1 y x)) [(4, vB)] ((f45_L4_x1_0 y x), ()), ex 2 (some (f45_L4_e2 y x)) [] ()]
def f45t (p0 : D35) (p1 : D35) : Prop × Bool :=
 let v33 := (bif (bif (bif (p0.1 != p1.1) then true else (p0.2.1 != p1.2.1)) then true else (p0.2.2.1 != p1.2.2.1)) then true else ((len p0.2.2.2.1) != (len p1.2.2.2.1)))
 let y4 := (p0, p1, ())
 let x4 := ((0 : Int), ())
 let e4 := (loopEnd (f45_L4_g y4) (f45_L4_next y4) x4)
 (((!v33) = true → (Am.Ends (f45_L4_g y4) (f45_L4_next y4) (f45_L4_ok y4) x4)), (bif v33 then false else (bif (f45_L4_e1 y4 e4) then (f45_L4_x1_0 y4 e4) else true)))
def f45_ok (p0 : D35) (p1 : D35) : Prop := (f45t p0 p1).1
def f45 (p0 : D35) (p1 : D35) : Bool := (f45t p0 p1).2
instance (p0 : D35) (p1 : D35) : Decidable (f45_ok p0 p1) := by
 unfold f45_ok f45t
 try dsimp only
 infer_instance
def f45_spec : Am.Spec := fnSpec [(0, (.val T35)), (1, (.val T35))] vB [] (fun x => f45_ok x.1 x.2.1) (fun x => f45 x.1 x.2.1) (fun _ => ())
def f45_ctx : Ctx := Cx tys [] [(4, f45_L4_spec)] [] false 52 [] []
theorem f45_cok : CtxOk Tryz.prog f45_ctx := ctxOk_mk tys_ok rfl trivial rfl (by kernel_rfl)
noncomputable def f45_code : Code := Tryz.f45.body.getD .skip
noncomputable def f45_L4 : Code := nthLoop f45_code 0
theorem f45_L4_is : LoopSnd Tryz.prog f45_ctx f45_L4 := lgen f45_cok mixed (sp := f45_L4_spec) rfl [[(4, vB)], []] (bs := []) (by kernel_rfl) trivial (by kernel_rfl) (by kernel_rfl) fun y x => by kernel_rfl
theorem f45_is : SpecOk Tryz.prog 45 f45_spec := fgen f45_cok mixed Tryz.func45 (by kernel_rfl) (bs := [f45_L4]) (by kernel_rfl) ⟨f45_L4_is, trivial⟩ fun x => by kernel_rfl
def f22t (p0 : D37) (p1 : D37) : Prop × Bool :=
 let v23 := (bif (bif (f42 p0.2.2.2.2.2.2.2.2.2.2.2.2.1 p1.2.2.2.2.2.2.2.2.2.2.2.2.1) then (Ty.eqb T30 p0.2.2.2.2.2.2.2.2.2.2.2.2.2.1 p1.2.2.2.2.2.2.2.2.2.2.2.2.2.1) else false) then (p0.2.2.2.2.2.2.2.2.2.2.2.2.2.2.1 == p1.2.2.2.2.2.2.2.2.2.2.2.2.2.2.1) else false)
 let v37 := (bif (bif v23 then (f41 p0.2.2.2.2.2.2.2.2.2.2.2.2.2.2.2.1 p1.2.2.2.2.2.2.2.2.2.2.2.2.2.2.2.1) else false) then (p0.2.2.2.2.2.2.2.2.2.2.2.2.2.2.2.2.1 == p1.2.2.2.2.2.2.2.2.2.2.2.2.2.2.2.2.1) else false)
 let v44 := (bif v37 then (f43 p0.2.2.2.2.2.2.2.2.2.2.2.2.2.2.2.2.2.1 p1.2.2.2.2.2.2.2.2.2.2.2.2.2.2.2.2.2.1) else false)
 let v58 := (bif (bif v44 then (f44 p0.2.2.2.2.2.2.2.2.2.2.2.2.2.2.2.2.2.2.1 p1.2.2.2.2.2.2.2.2.2.2.2.2.2.2.2.2.2.2.1) else false) then (p0.2.2.2.2.2.2.2.2.2.2.2.2.2.2.2.2.2.2.2.1 == p1.2.2.2.2.2.2.2.2.2.2.2.2.2.2.2.2.2.2.2.1) else false)
 let v72 := (bif (bif v58 then (p0.2.2.2.2.2.2.2.2.2.2.2.2.2.2.2.2.2.2.2.2.1 == p1.2.2.2.2.2.2.2.2.2.2.2.2.2.2.2.2.2.2.2.2.1) else false) then (p0.2.2.2.2.2.2.2.2.2.2.2.2.2.2.2.2.2.2.2.2.2.1 == p1.2.2.2.2.2.2.2.2.2.2.2.2.2.2.2.2.2.2.2.2.2.1) else false)
 let v86 := (bif (bif v72 then (p0.2.2.2.2.2.2.2.2.2.2.2.2.2.2.2.2.2.2.2.2.2.2.1 == p1.2.2.2.2.2.2.2.2.2.2.2.2.2.2.2.2.2.2.2.2.2.2.1) else false) then (p0.2.2.2.2.2.2.2.2.2.2.2.2.2.2.2.2.2.2.2.2.2.2.2.1 == p1.2.2.2.2.2.2.2.2.2.2.2.2.2.2.2.2.2.2.2.2.2.2.2.1) else false)
 let v100 := (bif (bif v86 then (p0.2.2.2.2.2.2.2.2.2.2.2.2.2.2.2.2.2.2.2.2.2.2.2.2.1 == p1.2.2.2.2.2.2.2.2.2.2.2.2.2.2.2.2.2.2.2.2.2.2.2.2.1) else false) then (p0.2.2.2.2.2.2.2.2.2.2.2.2.2.2.2.2.2.2.2.2.2.2.2.2.2.1 == p1.2.2.2.2.2.2.2.2.2.2.2.2.2.2.2.2.2.2.2.2.2.2.2.2.2.1) else false)
 let v107 := (bif v100 then (p0.2.2.2.2.2.2.2.2.2.2.2.2.2.2.2.2.2.2.2.2.2.2.2.2.2.2.1 == p1.2.2.2.2.2.2.2.2.2.2.2.2.2.2.2.2.2.2.2.2.2.2.2.2.2.2.1) else false)
 (((f42_ok p0.2.2.2.2.2.2.2.2.2.2.2.2.1 p1.2.2.2.2.2.2.2.2.2.2.2.2.1) ∧ ((v23 = true → (f41_ok p0.2.2.2.2.2.2.2.2.2.2.2.2.2.2.2.1 p1.2.2.2.2.2.2.2.2.2.2.2.2.2.2.2.1)) ∧ ((v37 = true → (f43_ok p0.2.2.2.2.2.2.2.2.2.2.2.2.2.2.2.2.2.1 p1.2.2.2.2.2.2.2.2.2.2.2.2.2.2.2.2.2.1)) ∧ ((v44 = true → (f44_ok p0.2.2.2.2.2.2.2.2.2.2.2.2.2.2.2.2.2.2.1 p1.2.2.2.2.2.2.2.2.2.2.2.2.2.2.2.2.2.2.1)) ∧ (v107 = true → (f45_ok p0.2.2.2.2.2.2.2.2.2.2.2.2.2.2.2.2.2.2.2.2.2.2.2.2.2.2.2.1 p1.2.2.2.2.2.2.2.2.2.2.2.2.2.2.2.2.2.2.2.2.2.2.2.2.2.2.2.1)))))), (bif v107 then (f45 p0.2.2.2.2.2.2.2.2.2.2.2.2.2.2.2.2.2.2.2.2.2.2.2.2.2.2.2.1 p1.2.2.2.2.2.2.2.2.2.2.2.2.2.2.2.2.2.2.2.2.2.2.2.2.2.2.2.1) else false))
def f22_ok (p0 : D37) (p1 : D37) : Prop := (f22t p0 p1).1
def f22 (p0 : D37) (p1 : D37) : Bool := (f22t p0 p1).2
instance (p0 : D37) (p1 : D37) : Decidable (f22_ok p0 p1) := by
 unfold f22_ok f22t
 try dsimp only
 infer_instance
def f22_spec : Am.Spec := fnSpec [(0, (.val T37)), (1, (.val T37))] vB [] (fun x => f22_ok x.1 x.2.1) (fun x => f22 x.1 x.2.1) (fun _ => ())
def f22_ctx : Ctx := Cx tys [(41, f41_spec), (42, f42_spec), (43, f43_spec), (44, f44_spec), (45, f45_spec)] [] [] false 115 [] []
theorem f22_cok : CtxOk Tryz.prog f22_ctx := ctxOk_mk tys_ok rfl ⟨f41_is, f42_is, f43_is, f44_is, f45_is, trivial⟩ rfl (by kernel_rfl)
theorem f22_is : SpecOk Tryz.prog 22 f22_spec := fgen f22_cok mixed Tryz.func22 (by kernel_rfl) (bs := []) (by kernel_rfl) trivial fun x => by kernel_rfl
def f8t (p0 : D37) (p1 : D37) : Prop × Bool :=
 let v37 := (bif (bif (bif (bif (p0.1 == p1.1) then (p0.2.1 == p1.2.1) else false) then (p0.2.2.1 == p1.2.2.1) else false) then (p0.2.2.2.1 == p1.2.2.2.1) else false) then (Ty.eqb .bool p0.2.2.2.2.1 p1.2.2.2.2.1) else false)
 let v58 := (bif (bif (bif v37 then (Ty.eqb .bool p0.2.2.2.2.2.1 p1.2.2.2.2.2.1) else false) then (Ty.eqb .bool p0.2.2.2.2.2.2.1 p1.2.2.2.2.2.2.1) else false) then (p0.2.2.2.2.2.2.2.1 == p1.2.2.2.2.2.2.2.1) else false)
 let v65 := (bif v58 then (p0.2.2.2.2.2.2.2.2.1 == p1.2.2.2.2.2.2.2.2.1) else false)
 let v86 := (bif (bif (bif v65 then (f21 p0.2.2.2.2.2.2.2.2.2.1 p1.2.2.2.2.2.2.2.2.2.1) else false) then (Ty.eqb T25 p0.2.2.2.2.2.2.2.2.2.2.1 p1.2.2.2.2.2.2.2.2.2.2.1) else false) then (p0.2.2.2.2.2.2.2.2.2.2.2.1 == p1.2.2.2.2.2.2.2.2.2.2.2.1) else false)
 (((v65 = true → (f21_ok p0.2.2.2.2.2.2.2.2.2.1 p1.2.2.2.2.2.2.2.2.2.1)) ∧ (v86 = true → (f22_ok p0 p1))), (bif v86 then (f22 p0 p1) else false))
def f8_ok (p0 : D37) (p1 : D37) : Prop := (f8t p0 p1).1
def f8 (p0 : D37) (p1 : D37) : Bool := (f8t p0 p1).2
instance (p0 : D37) (p1 : D37) : Decidable (f8_ok p0 p1) := by
 unfold f8_ok f8t
 try dsimp only
 infer_instance
def f8_spec : Am.Spec := fnSpec [(0, (.val T37)), (1, (.val T37))] vB [] (fun x => f8_ok x.1 x.2.1) (fun x => f8 x.1 x.2.1) (fun _ => ())
def f8_ctx : Ctx := Cx tys [(21, f21_spec), (22, f22_spec)] [] [] false 92 [] []
theorem f8_cok : CtxOk Tryz.prog f8_ctx := ctxOk_mk tys_ok rfl ⟨f21_is, f22_is, trivial⟩ rfl (by kernel_rfl)
theorem f8_is : SpecOk Tryz.prog 8 f8_spec := fgen f8_cok mixed Tryz.func8 (by kernel_rfl) (bs := []) (by kernel_rfl) trivial fun x => by kernel_rfl
def f15t (p0 : Int) : Prop × Bool :=
 let v5 := (p0 == 2)
 let v6 := (p0 == 5)
 let v7 := (p0 == 6)
 let v8 := (p0 == 9)
 (True, (bif (bif v5 then v5 else (bif v6 then v6 else (bif v7 then v7 else (bif v8 then v8 else (p0 == 10))))) then true else false))
def f15_ok (p0 : Int) : Prop := (f15t p0).1
def f15 (p0 : Int) : Bool := (f15t p0).2
instance (p0 : Int) : Decidable (f15_ok p0) := by
 unfold f15_ok f15t
 try dsimp only
 infer_instance
def f15_spec : Am.Spec := fnSpec [(0, vI)] vB [] (fun x => f15_ok x.1) (fun x => f15 x.1) (fun _ => ())
def f15_ctx : Ctx := Cx tys [] [] [] false 10 [] []
theorem f15_cok : CtxOk Tryz.prog f15_ctx := ctxOk_mk tys_ok rfl trivial rfl (by kernel_rfl)
theorem f15_is : SpecOk Tryz.prog 15 f15_spec := fgen f15_cok mixed Tryz.func15 (by kernel_rfl) (bs := []) (by kernel_rfl) trivial fun x => by kernel_rfl
def f17t (p0 : Int) : Prop × Bool :=
 let v5 := (p0 == 2)
 let v6 := (p0 == 9)
 let v7 := (p0 == 10)
 (True, (bif (bif v5 then v5 else (bif v6 then v6 else (bif v7 then v7 else (p0 == 11)))) then true else false))
def f17_ok (p0 : Int) : Prop := (f17t p0).1
def f17 (p0 : Int) : Bool := (f17t p0).2
instance (p0 : Int) : Decidable (f17_ok p0) := by
 unfold f17_ok f17t
 try dsimp only
 infer_instance
def f17_spec : Am.Spec := fnSpec [(0, vI)] vB [] (fun x => f17_ok x.1) (fun x => f17 x.1) (fun _ => ())
def f17_ctx : Ctx := Cx tys [] [] [] false 9 [] []
theorem f17_cok : CtxOk Tryz.prog f17_ctx := ctxOk_mk tys_ok rfl trivial rfl (by kernel_rfl)
theorem f17_is : SpecOk Tryz.prog 17 f17_spec := fgen f17_cok mixed Tryz.func17 (by kernel_rfl) (bs := []) (by kernel_rfl) trivial fun x => by kernel_rfl
def f9t (p0 : Int) : Prop × (List UInt8) :=
 let v5 := (p0 == 1)
 let v7 := (p0 == 2)
 let v9 := (p0 == 3)
 let v11 := (p0 == 4)
 let v13 := (p0 == 5)
 let v15 := (p0 == 6)
 let v17 := (p0 == 7)
 let v19 := (p0 == 8)
 let v21 := (p0 == 9)
 let v23 := (p0 == 10)
 let m2_2 := (bif v19 then ([102, 105, 108, 116, 101, 114] : List UInt8) else (bif v21 then ([108, 105, 110, 107] : List UInt8) else (bif v23 then ([99, 108, 111, 110, 101] : List UInt8) else ([119, 97, 114, 112] : List UInt8))))
 let m2_6 := (bif v11 then ([103, 114, 97, 100, 105, 101, 110, 116] : List UInt8) else (bif v13 then ([112, 97, 116, 104] : List UInt8) else (bif v15 then ([116, 101, 120, 116] : List UInt8) else (bif v17 then ([97, 100, 106, 117, 115, 116] : List UInt8) else m2_2))))
 let c_14 := (bif v9 then true else (bif v11 then true else (bif v13 then true else (bif v15 then true else (bif v17 then true else (bif v19 then true else (bif v21 then true else (bif v23 then true else (p0 == 11)))))))))
 let m2_10 := (bif (bif v5 then true else (bif v7 then true else c_14)) then (bif v5 then ([103, 114, 111, 117, 112] : List UInt8) else (bif v7 then ([105, 109, 97, 103, 101] : List UInt8) else (bif v9 then ([102, 105, 108, 108] : List UInt8) else m2_6))) else ([] : List UInt8))
 (True, m2_10)
def f9_ok (p0 : Int) : Prop := (f9t p0).1
def f9 (p0 : Int) : (List UInt8) := (f9t p0).2
instance (p0 : Int) : Decidable (f9_ok p0) := by
 unfold f9_ok f9t
 try dsimp only
 infer_instance
def f9_spec : Am.Spec := fnSpec [(0, vI)] vS [] (fun x => f9_ok x.1) (fun x => f9 x.1) (fun _ => ())
def f9_ctx : Ctx := Cx tys [] [] [] false 26 [] []
theorem f9_cok : CtxOk Tryz.prog f9_ctx := ctxOk_mk tys_ok rfl trivial rfl (by kernel_rfl)
theorem f9_is : SpecOk Tryz.prog 9 f9_spec := fgen f9_cok mixed Tryz.func9 (by kernel_rfl) (bs := []) (by kernel_rfl) trivial fun x => by kernel_rfl
def f31t (p0 : D37) : Prop × Bool :=
 (True, (bif (bif (p0.2.1 == 7) then true else (p0.2.1 == 8)) then true else (p0.2.1 == 11)))
def f31_ok (p0 : D37) : Prop := (f31t p0).1
def f31 (p0 : D37) : Bool := (f31t p0).2
instance (p0 : D37) : Decidable (f31_ok p0) := by
 unfold f31_ok f31t
 try dsimp only
 infer_instance
def f31_spec : Am.Spec := fnSpec [(0, (.val T37))] vB [] (fun x => f31_ok x.1) (fun x => f31 x.1) (fun _ => ())
def f31_ctx : Ctx := Cx tys [] [] [] false 16 [] []
theorem f31_cok : CtxOk Tryz.prog f31_ctx := ctxOk_mk tys_ok rfl trivial rfl (by kernel_rfl)
theorem f31_is : SpecOk Tryz.prog 31 f31_spec := fgen f31_cok mixed Tryz.func31 (by kernel_rfl) (bs := []) (by kernel_rfl) trivial fun x => by kernel_rfl
abbrev f46_L4_Y : Type := ((List UInt8) × Int × Unit)
abbrev f46_L4_X : Type := (Int × Unit)
def f46_L4t (y : f46_L4_Y) (x : f46_L4_X) : Prop × Bool × f46_L4_X × Bool × Bool :=
 let a0 := y.1
 let a14 := x.1
 let v15 := (decide (a14 < y.2.1))
 let v20 := (decide ((byteAt a0 a14) < 33))
 let v26 := (bif v20 then true else (decide ((byteAt a0 a14) > 126)))
 ((v15 = true → (InB a14 (len a0) ∧ (((!v20) = true → InB a14 (len a0)) ∧ ((!v26) = true → InR (a14 + 1))))), (v15 && (!v26)), ((a14 + 1), ()), (v15 && v26), (!v15))
def f46_L4_ok (y : f46_L4_Y) (x : f46_L4_X) : Prop := (f46_L4t y x).1
def f46_L4_g (y : f46_L4_Y) (x : f46_L4_X) : Bool := (f46_L4t y x).2.1
def f46_L4_next (y : f46_L4_Y) (x : f46_L4_X) : f46_L4_X := (f46_L4t y x).2.2.1
def f46_L4_e1 (y : f46_L4_Y) (x : f46_L4_X) : Bool := (f46_L4t y x).2.2.2.1
def f46_L4_e2 (y : f46_L4_Y) (x : f46_L4_X) : Bool := (f46_L4t y x).2.2.2.2
instance (y : f46_L4_Y) (x : f46_L4_X) : Decidable (f46_L4_ok y x) := by
 unfold f46_L4_ok f46_L4t
 try dsimp only
 infer_instance
def f46_L4_x1_0 (y : f46_L4_Y) (x : f46_L4_X) : Bool :=
 false
def f46_L4_spec : St → Option Out := loopS [(0, vS), (13, vI)] [(14, vI)] f46_L4_g f46_L4_next f46_L4_ok fun y x => [ex 1 (some (f46_L4_e1 y x)) [(2, vB)] ((f46_L4_x1_0 y x), ()), ex 2 (some (f46_L4_e2 y x)) [] ()]
def f46t (p0 : (List UInt8)) : Prop × Bool :=
 let v11 := (bif (decide ((len p0) < 1)) then true else (decide ((len p0) > 32)))
 let y4 := (p0, (len p0), ())
 let x4 := ((0 : Int), ())
 let e4 := (loopEnd (f46_L4_g y4) (f46_L4_next y4) x4)
 (((!v11) = true → (Am.Ends (f46_L4_g y4) (f46_L4_next y4) (f46_L4_ok y4) x4)), (bif v11 then false else (bif (f46_L4_e1 y4 e4) then (f46_L4_x1_0 y4 e4) else true)))
def f46_ok (p0 : (List UInt8)) : Prop := (f46t p0).1
def f46 (p0 : (List UInt8)) : Bool := (f46t p0).2
instance (p0 : (List UInt8)) : Decidable (f46_ok p0) := by
 unfold f46_ok f46t
 try dsimp only
 infer_instance
def f46_spec : Am.Spec := fnSpec [(0, vS)] vB [] (fun x => f46_ok x.1) (fun x => f46 x.1) (fun _ => ())
def f46_ctx : Ctx := Cx tys [] [(4, f46_L4_spec)] [] false 28 [] []
theorem f46_cok : CtxOk Tryz.prog f46_ctx := ctxOk_mk tys_ok rfl trivial rfl (by kernel_rfl)
noncomputable def f46_code : Code := Tryz.f46.body.getD .skip
noncomputable def f46_L4 : Code := nthLoop f46_code 0
theorem f46_L4_is : LoopSnd Tryz.prog f46_ctx f46_L4 := lgen f46_cok mixed (sp := f46_L4_spec) rfl [[(2, vB)], []] (bs := []) (by kernel_rfl) trivial (by kernel_rfl) (by kernel_rfl) fun y x => by kernel_rfl
theorem f46_is : SpecOk Tryz.prog 46 f46_spec := fgen f46_cok mixed Tryz.func46 (by kernel_rfl) (bs := [f46_L4]) (by kernel_rfl) ⟨f46_L4_is, trivial⟩ fun x => by kernel_rfl
def f47t (p0 : Int) : Prop × Bool :=
 (True, (bif (decide (p0 ≥ 0)) then (decide (p0 ≤ 1073741824)) else false))
def f47_ok (p0 : Int) : Prop := (f47t p0).1
def f47 (p0 : Int) : Bool := (f47t p0).2
instance (p0 : Int) : Decidable (f47_ok p0) := by
 unfold f47_ok f47t
 try dsimp only
 infer_instance
def f47_spec : Am.Spec := fnSpec [(0, vI)] vB [] (fun x => f47_ok x.1) (fun x => f47 x.1) (fun _ => ())
def f47_ctx : Ctx := Cx tys [] [] [] false 9 [] []
theorem f47_cok : CtxOk Tryz.prog f47_ctx := ctxOk_mk tys_ok rfl trivial rfl (by kernel_rfl)
theorem f47_is : SpecOk Tryz.prog 47 f47_spec := fgen f47_cok mixed Tryz.func47 (by kernel_rfl) (bs := []) (by kernel_rfl) trivial fun x => by kernel_rfl
def f48t (p0 : Int) : Prop × Bool :=
 (True, (bif (decide (p0 ≥ 0)) then (decide (p0 ≤ 65535)) else false))
def f48_ok (p0 : Int) : Prop := (f48t p0).1
def f48 (p0 : Int) : Bool := (f48t p0).2
instance (p0 : Int) : Decidable (f48_ok p0) := by
 unfold f48_ok f48t
 try dsimp only
 infer_instance
def f48_spec : Am.Spec := fnSpec [(0, vI)] vB [] (fun x => f48_ok x.1) (fun x => f48 x.1) (fun _ => ())
def f48_ctx : Ctx := Cx tys [] [] [] false 9 [] []
theorem f48_cok : CtxOk Tryz.prog f48_ctx := ctxOk_mk tys_ok rfl trivial rfl (by kernel_rfl)
theorem f48_is : SpecOk Tryz.prog 48 f48_spec := fgen f48_cok mixed Tryz.func48 (by kernel_rfl) (bs := []) (by kernel_rfl) trivial fun x => by kernel_rfl
def f49t (p0 : Int) : Prop × Bool :=
 (True, (bif (decide (p0 ≥ 0)) then (decide (p0 < 18)) else false))
def f49_ok (p0 : Int) : Prop := (f49t p0).1
def f49 (p0 : Int) : Bool := (f49t p0).2
instance (p0 : Int) : Decidable (f49_ok p0) := by
 unfold f49_ok f49t
 try dsimp only
 infer_instance
def f49_spec : Am.Spec := fnSpec [(0, vI)] vB [] (fun x => f49_ok x.1) (fun x => f49 x.1) (fun _ => ())
def f49_ctx : Ctx := Cx tys [] [] [] false 9 [] []
theorem f49_cok : CtxOk Tryz.prog f49_ctx := ctxOk_mk tys_ok rfl trivial rfl (by kernel_rfl)
theorem f49_is : SpecOk Tryz.prog 49 f49_spec := fgen f49_cok mixed Tryz.func49 (by kernel_rfl) (bs := []) (by kernel_rfl) trivial fun x => by kernel_rfl
def f69t (p0 : Int) : Prop × Bool :=
 (True, (bif (decide (p0 ≥ 0)) then (decide (p0 ≤ 65535)) else false))
def f69_ok (p0 : Int) : Prop := (f69t p0).1
def f69 (p0 : Int) : Bool := (f69t p0).2
instance (p0 : Int) : Decidable (f69_ok p0) := by
 unfold f69_ok f69t
 try dsimp only
 infer_instance
def f69_spec : Am.Spec := fnSpec [(0, vI)] vB [] (fun x => f69_ok x.1) (fun x => f69 x.1) (fun _ => ())
def f69_ctx : Ctx := Cx tys [] [] [] false 9 [] []
theorem f69_cok : CtxOk Tryz.prog f69_ctx := ctxOk_mk tys_ok rfl trivial rfl (by kernel_rfl)
theorem f69_is : SpecOk Tryz.prog 69 f69_spec := fgen f69_cok mixed Tryz.func69 (by kernel_rfl) (bs := []) (by kernel_rfl) trivial fun x => by kernel_rfl
abbrev f50_L6_Y : Type := ((List Int) × Int × Unit)
abbrev f50_L6_X : Type := (Int × Unit)
def f50_L6t (y : f50_L6_Y) (x : f50_L6_X) : Prop × Bool × f50_L6_X × Bool × Bool :=
 let a42 := y.1
 let a44 := x.1
 let v45 := (decide (a44 < y.2.1))
 let v46 := (nth a42 a44 (0 : Int))
 let v50 := (!(f69 v46))
 ((v45 = true → (InB a44 (len a42) ∧ ((f69_ok v46) ∧ ((!v50) = true → InR (a44 + 1))))), (v45 && (!v50)), ((a44 + 1), ()), (v45 && v50), (!v45))
def f50_L6_ok (y : f50_L6_Y) (x : f50_L6_X) : Prop := (f50_L6t y x).1
def f50_L6_g (y : f50_L6_Y) (x : f50_L6_X) : Bool := (f50_L6t y x).2.1
def f50_L6_next (y : f50_L6_Y) (x : f50_L6_X) : f50_L6_X := (f50_L6t y x).2.2.1
def f50_L6_e1 (y : f50_L6_Y) (x : f50_L6_X) : Bool := (f50_L6t y x).2.2.2.1
def f50_L6_e2 (y : f50_L6_Y) (x : f50_L6_X) : Bool := (f50_L6t y x).2.2.2.2
instance (y : f50_L6_Y) (x : f50_L6_X) : Decidable (f50_L6_ok y x) := by
 unfold f50_L6_ok f50_L6t
 try dsimp only
 infer_instance
def f50_L6_x1_0 (y : f50_L6_Y) (x : f50_L6_X) : Int :=
 (2 : Int)
def f50_L6_spec : St → Option Out := loopS [(42, (.val (.sl (.int .i64)))), (43, vI)] [(44, vI)] f50_L6_g f50_L6_next f50_L6_ok fun y x => [ex 1 (some (f50_L6_e1 y x)) [(2, vI)] ((f50_L6_x1_0 y x), ()), ex 2 (some (f50_L6_e2 y x)) [] ()]
def f50t (p0 : D23) : Prop × Int :=
 let v22 := (bif (bif (bif (decide (p0.1 < 0)) then true else (decide (p0.1 > 256))) then true else (decide (p0.2.1 < 0))) then true else (decide (p0.2.1 > 256)))
 let v29 := (!(Ty.eqb .bool (p0.1 == 0) (p0.2.1 == 0)))
 let v40 := (bif v29 then true else ((len p0.2.2.1) != (p0.1 * p0.2.1)))
 let y6 := (p0.2.2.1, (len p0.2.2.1), ())
 let x6 := ((0 : Int), ())
 let e6 := (loopEnd (f50_L6_g y6) (f50_L6_next y6) x6)
 (((!v22) = true → (((!v29) = true → InR (p0.1 * p0.2.1)) ∧ ((!v40) = true → (Am.Ends (f50_L6_g y6) (f50_L6_next y6) (f50_L6_ok y6) x6)))), (bif v22 then (15 : Int) else (bif v40 then (15 : Int) else (bif (f50_L6_e1 y6 e6) then (f50_L6_x1_0 y6 e6) else (0 : Int)))))
def f50_ok (p0 : D23) : Prop := (f50t p0).1
def f50 (p0 : D23) : Int := (f50t p0).2
instance (p0 : D23) : Decidable (f50_ok p0) := by
 unfold f50_ok f50t
 try dsimp only
 infer_instance
def f50_spec : Am.Spec := fnSpec [(0, (.val T23))] vI [] (fun x => f50_ok x.1) (fun x => f50 x.1) (fun _ => ())
def f50_ctx : Ctx := Cx tys [(69, f69_spec)] [(6, f50_L6_spec)] [] false 52 [] []
theorem f50_cok : CtxOk Tryz.prog f50_ctx := ctxOk_mk tys_ok rfl ⟨f69_is, trivial⟩ rfl (by kernel_rfl)
noncomputable def f50_code : Code := Tryz.f50.body.getD .skip
noncomputable def f50_L6 : Code := nthLoop f50_code 0
theorem f50_L6_is : LoopSnd Tryz.prog f50_ctx f50_L6 := lgen f50_cok mixed (sp := f50_L6_spec) rfl [[(2, vI)], []] (bs := []) (by kernel_rfl) trivial (by kernel_rfl) (by kernel_rfl) fun y x => by kernel_rfl
theorem f50_is : SpecOk Tryz.prog 50 f50_spec := fgen f50_cok mixed Tryz.func50 (by kernel_rfl) (bs := [f50_L6]) (by kernel_rfl) ⟨f50_L6_is, trivial⟩ fun x => by kernel_rfl
def f23t (p0 : D37) (p1 : Int) (p2 : Int) : Prop × Int :=
 let v21 := (bif (bif (bif (decide (p1 < 1)) then true else (decide (p1 > 256))) then true else (decide (p2 < 1))) then true else (decide (p2 > 256)))
 let v25 := ((f9 p0.2.1) == ([] : List UInt8))
 let v29 := (!(f46 p0.2.2.2.1))
 let v33 := (!(f47 p0.1))
 let v39 := (bif v33 then true else (!(f47 p0.2.2.1)))
 let v45 := (bif v39 then true else (!(f48 p0.2.2.2.2.2.2.2.1)))
 let v49 := (!(f49 p0.2.2.2.2.2.2.2.2.1))
 let v58 := (bif v49 then true else (bif (f31 p0) then (p0.2.2.2.2.2.2.2.2.1 != 0) else false))
 let v61 := (f50 p0.2.2.2.2.2.2.2.2.2.1)
 let m6_1 := (bif (v61 != 0) then v61 else (bif (bif (p0.2.2.2.2.2.2.2.2.2.1.1 != 0) then (bif (p0.2.2.2.2.2.2.2.2.2.1.1 != p1) then true else (p0.2.2.2.2.2.2.2.2.2.1.2.1 != p2)) else false) then (15 : Int) else (0 : Int)))
 (((!v21) = true → ((f9_ok p0.2.1) ∧ ((!v25) = true → ((f46_ok p0.2.2.2.1) ∧ ((!v29) = true → ((f47_ok p0.1) ∧ (((!v33) = true → (f47_ok p0.2.2.1)) ∧ (((!v39) = true → (f48_ok p0.2.2.2.2.2.2.2.1)) ∧ ((!v45) = true → ((f49_ok p0.2.2.2.2.2.2.2.2.1) ∧ (((!v49) = true → (f31_ok p0)) ∧ ((!v58) = true → (f50_ok p0.2.2.2.2.2.2.2.2.2.1))))))))))))), (bif v21 then (15 : Int) else (bif v25 then (8 : Int) else (bif v29 then (13 : Int) else (bif v45 then (2 : Int) else (bif v58 then (8 : Int) else m6_1))))))
def f23_ok (p0 : D37) (p1 : Int) (p2 : Int) : Prop := (f23t p0 p1 p2).1
def f23 (p0 : D37) (p1 : Int) (p2 : Int) : Int := (f23t p0 p1 p2).2
instance (p0 : D37) (p1 : Int) (p2 : Int) : Decidable (f23_ok p0 p1 p2) := by
 unfold f23_ok f23t
 try dsimp only
 infer_instance
def f23_spec : Am.Spec := fnSpec [(0, (.val T37)), (1, vI), (2, vI)] vI [] (fun x => f23_ok x.1 x.2.1 x.2.2.1) (fun x => f23 x.1 x.2.1 x.2.2.1) (fun _ => ())
def f23_ctx : Ctx := Cx tys [(9, f9_spec), (31, f31_spec), (46, f46_spec), (47, f47_spec), (48, f48_spec), (49, f49_spec), (50, f50_spec)] [] [] false 83 [] []
theorem f23_cok : CtxOk Tryz.prog f23_ctx := ctxOk_mk tys_ok rfl ⟨f9_is, f31_is, f46_is, f47_is, f48_is, f49_is, f50_is, trivial⟩ rfl (by kernel_rfl)
theorem f23_is : SpecOk Tryz.prog 23 f23_spec := fgen f23_cok mixed Tryz.func23 (by kernel_rfl) (bs := []) (by kernel_rfl) trivial fun x => by kernel_rfl
def f91t (p0 : Int) (p1 : Int) (p2 : Int) : Prop × Int :=
 (True, (imin p2 (imax p0 p1)))
def f91_ok (p0 : Int) (p1 : Int) (p2 : Int) : Prop := (f91t p0 p1 p2).1
def f91 (p0 : Int) (p1 : Int) (p2 : Int) : Int := (f91t p0 p1 p2).2
instance (p0 : Int) (p1 : Int) (p2 : Int) : Decidable (f91_ok p0 p1 p2) := by
 unfold f91_ok f91t
 try dsimp only
 infer_instance
def f91_spec : Am.Spec := fnSpec [(0, vI), (1, vI), (2, vI)] vI [] (fun x => f91_ok x.1 x.2.1 x.2.2.1) (fun x => f91 x.1 x.2.1 x.2.2.1) (fun _ => ())
def f91_ctx : Ctx := Cx tys [] [] [] true 12 [] []
theorem f91_cok : CtxOk Tryz.prog f91_ctx := ctxOk_mk tys_ok rfl trivial rfl (by kernel_rfl)
theorem f91_is : SpecOk Tryz.prog 91 f91_spec := fgen f91_cok mixed Tryz.func91 (by kernel_rfl) (bs := []) (by kernel_rfl) trivial fun x => by kernel_rfl
def f70t (p0 : Int) : Prop × Int :=
 ((f91_ok p0 (-16777216 : Int) (16777216 : Int)), (f91 p0 (-16777216 : Int) (16777216 : Int)))
def f70_ok (p0 : Int) : Prop := (f70t p0).1
def f70 (p0 : Int) : Int := (f70t p0).2
instance (p0 : Int) : Decidable (f70_ok p0) := by
 unfold f70_ok f70t
 try dsimp only
 infer_instance
def f70_spec : Am.Spec := fnSpec [(0, vI)] vI [] (fun x => f70_ok x.1) (fun x => f70 x.1) (fun _ => ())
def f70_ctx : Ctx := Cx tys [(91, f91_spec)] [] [] false 5 [] []
theorem f70_cok : CtxOk Tryz.prog f70_ctx := ctxOk_mk tys_ok rfl ⟨f91_is, trivial⟩ rfl (by kernel_rfl)
theorem f70_is : SpecOk Tryz.prog 70 f70_spec := fgen f70_cok mixed Tryz.func70 (by kernel_rfl) (bs := []) (by kernel_rfl) trivial fun x => by kernel_rfl
def f71t (p0 : Int) : Prop × Int :=
 ((f91_ok p0 (-1099511627776 : Int) (1099511627776 : Int)), (f91 p0 (-1099511627776 : Int) (1099511627776 : Int)))
def f71_ok (p0 : Int) : Prop := (f71t p0).1
def f71 (p0 : Int) : Int := (f71t p0).2
instance (p0 : Int) : Decidable (f71_ok p0) := by
 unfold f71_ok f71t
 try dsimp only
 infer_instance
def f71_spec : Am.Spec := fnSpec [(0, vI)] vI [] (fun x => f71_ok x.1) (fun x => f71 x.1) (fun _ => ())
def f71_ctx : Ctx := Cx tys [(91, f91_spec)] [] [] false 5 [] []
theorem f71_cok : CtxOk Tryz.prog f71_ctx := ctxOk_mk tys_ok rfl ⟨f91_is, trivial⟩ rfl (by kernel_rfl)
theorem f71_is : SpecOk Tryz.prog 71 f71_spec := fgen f71_cok mixed Tryz.func71 (by kernel_rfl) (bs := []) (by kernel_rfl) trivial fun x => by kernel_rfl
def f51t (p0 : D25) : Prop × D25 :=
 (((f70_ok p0.1) ∧ ((f70_ok p0.2.1) ∧ ((f70_ok p0.2.2.1) ∧ ((f70_ok p0.2.2.2.1) ∧ ((f71_ok p0.2.2.2.2.1) ∧ (f71_ok p0.2.2.2.2.2.1)))))), ((f70 p0.1), (f70 p0.2.1), (f70 p0.2.2.1), (f70 p0.2.2.2.1), (f71 p0.2.2.2.2.1), (f71 p0.2.2.2.2.2.1), ()))
def f51_ok (p0 : D25) : Prop := (f51t p0).1
def f51 (p0 : D25) : D25 := (f51t p0).2
instance (p0 : D25) : Decidable (f51_ok p0) := by
 unfold f51_ok f51t
 try dsimp only
 infer_instance
def f51_spec : Am.Spec := fnSpec [(0, (.val T25))] (.val T25) [] (fun x => f51_ok x.1) (fun x => f51 x.1) (fun _ => ())
def f51_ctx : Ctx := Cx tys [(70, f70_spec), (71, f71_spec)] [] [] true 22 [] []
theorem f51_cok : CtxOk Tryz.prog f51_ctx := ctxOk_mk tys_ok rfl ⟨f70_is, f71_is, trivial⟩ rfl (by kernel_rfl)
theorem f51_is : SpecOk Tryz.prog 51 f51_spec := fgen f51_cok mixed Tryz.func51 (by kernel_rfl) (bs := []) (by kernel_rfl) trivial fun x => by kernel_rfl
def f24t (p0 : D25) : Prop × Int :=
 ((f51_ok p0), (bif (!(Ty.eqb T25 p0 (f51 p0))) then (2 : Int) else (0 : Int)))
def f24_ok (p0 : D25) : Prop := (f24t p0).1
def f24 (p0 : D25) : Int := (f24t p0).2
instance (p0 : D25) : Decidable (f24_ok p0) := by
 unfold f24_ok f24t
 try dsimp only
 infer_instance
def f24_spec : Am.Spec := fnSpec [(0, (.val T25))] vI [] (fun x => f24_ok x.1) (fun x => f24 x.1) (fun _ => ())
def f24_ctx : Ctx := Cx tys [(51, f51_spec)] [] [] false 7 [] []
theorem f24_cok : CtxOk Tryz.prog f24_ctx := ctxOk_mk tys_ok rfl ⟨f51_is, trivial⟩ rfl (by kernel_rfl)
theorem f24_is : SpecOk Tryz.prog 24 f24_spec := fgen f24_cok mixed Tryz.func24 (by kernel_rfl) (bs := []) (by kernel_rfl) trivial fun x => by kernel_rfl
def f53t (p0 : Int) (p1 : Int) (p2 : Int) (p3 : Int) : Prop × Int :=
 let v12 := (f72 p1 (65536 : Int))
 let v14 := (f72 p3 (65536 : Int))
 let v34 := (IntKind.wrap .i64 ((IntKind.wrap .i64 (p0 * (IntKind.wrap .i64 (p1 - (IntKind.wrap .i64 (v12 * 65536)))))) + (IntKind.wrap .i64 (p2 * (IntKind.wrap .i64 (p3 - (IntKind.wrap .i64 (v14 * 65536))))))))
 (((f72_ok p1 (65536 : Int)) ∧ ((f72_ok p3 (65536 : Int)) ∧ (f52_ok v34 (65536 : Int)))), (IntKind.wrap .i64 ((IntKind.wrap .i64 ((IntKind.wrap .i64 (p0 * v12)) + (IntKind.wrap .i64 (p2 * v14)))) + (f52 v34 (65536 : Int)))))
def f53_ok (p0 : Int) (p1 : Int) (p2 : Int) (p3 : Int) : Prop := (f53t p0 p1 p2 p3).1
def f53 (p0 : Int) (p1 : Int) (p2 : Int) (p3 : Int) : Int := (f53t p0 p1 p2 p3).2
instance (p0 : Int) (p1 : Int) (p2 : Int) (p3 : Int) : Decidable (f53_ok p0 p1 p2 p3) := by
 unfold f53_ok f53t
 try dsimp only
 infer_instance
def f53_spec : Am.Spec := fnSpec [(0, vI), (1, vI), (2, vI), (3, vI)] vI [] (fun x => f53_ok x.1 x.2.1 x.2.2.1 x.2.2.2.1) (fun x => f53 x.1 x.2.1 x.2.2.1 x.2.2.2.1) (fun _ => ())
def f53_ctx : Ctx := Cx tys [(52, f52_spec), (72, f72_spec)] [] [] true 37 [] []
theorem f53_cok : CtxOk Tryz.prog f53_ctx := ctxOk_mk tys_ok rfl ⟨f52_is, f72_is, trivial⟩ rfl (by kernel_rfl)
theorem f53_is : SpecOk Tryz.prog 53 f53_spec := fgen f53_cok mixed Tryz.func53 (by kernel_rfl) (bs := []) (by kernel_rfl) trivial fun x => by kernel_rfl
def f25t (p0 : D25) : Prop × (D25 × Int × Unit) :=
 let v8 := (f24 p0)
 let v10 := (v8 != 0)
 let v23 := (IntKind.wrap .i64 ((IntKind.wrap .i64 (p0.1 * p0.2.2.2.1)) - (IntKind.wrap .i64 (p0.2.1 * p0.2.2.1))))
 let v25 := (v23 == 0)
 let v29 := (IntKind.wrap .i64 (p0.2.2.2.1 * 4294967296))
 let v31 := (f52 v29 v23)
 let v35 := (IntKind.wrap .i64 ((IntKind.wrap .i64 (Int.sub 0 p0.2.1)) * 4294967296))
 let v37 := (f52 v35 v23)
 let v41 := (IntKind.wrap .i64 ((IntKind.wrap .i64 (Int.sub 0 p0.2.2.1)) * 4294967296))
 let v43 := (f52 v41 v23)
 let v46 := (IntKind.wrap .i64 (p0.1 * 4294967296))
 let v48 := (f52 v46 v23)
 let s_2 := (v31, v37, v43, v48, (0 : Int), (0 : Int), ())
 let v52 := ((f24 s_2) != 0)
 let v56 := (IntKind.wrap .i64 (Int.sub 0 v31))
 let v61 := (IntKind.wrap .i64 (Int.sub 0 v43))
 let v68 := (IntKind.wrap .i64 (Int.sub 0 v37))
 let v73 := (IntKind.wrap .i64 (Int.sub 0 v48))
 let s_5 := (v31, v37, v43, v48, (f53 v56 p0.2.2.2.2.1 v61 p0.2.2.2.2.2.1), (f53 v68 p0.2.2.2.2.1 v73 p0.2.2.2.2.2.1), ())
 let v80 := ((f24 s_5) != 0)
 let m2_2 := (bif v25 then ((0 : Int), (0 : Int), (0 : Int), (0 : Int), (0 : Int), (0 : Int), ()) else (bif v52 then ((0 : Int), (0 : Int), (0 : Int), (0 : Int), (0 : Int), (0 : Int), ()) else (bif v80 then ((0 : Int), (0 : Int), (0 : Int), (0 : Int), (0 : Int), (0 : Int), ()) else s_5)))
 (((f24_ok p0) ∧ ((!v10) = true → ((!v25) = true → ((f52_ok v29 v23) ∧ ((f52_ok v35 v23) ∧ ((f52_ok v41 v23) ∧ ((f52_ok v46 v23) ∧ ((f24_ok s_2) ∧ ((!v52) = true → ((f53_ok v56 p0.2.2.2.2.1 v61 p0.2.2.2.2.2.1) ∧ ((f53_ok v68 p0.2.2.2.2.1 v73 p0.2.2.2.2.2.1) ∧ (f24_ok s_5)))))))))))), ((bif v10 then ((0 : Int), (0 : Int), (0 : Int), (0 : Int), (0 : Int), (0 : Int), ()) else m2_2), (bif v10 then v8 else (bif v25 then (17 : Int) else (bif v52 then (17 : Int) else (bif v80 then (17 : Int) else (0 : Int))))), ()))
def f25_ok (p0 : D25) : Prop := (f25t p0).1
def f25 (p0 : D25) : (D25 × Int × Unit) := (f25t p0).2
instance (p0 : D25) : Decidable (f25_ok p0) := by
 unfold f25_ok f25t
 try dsimp only
 infer_instance
def f25_spec : Am.Spec := fnSpec [(0, (.val T25))] (.tup (.cons (.val T25) (.cons vI .nl))) [] (fun x => f25_ok x.1) (fun x => f25 x.1) (fun _ => ())
def f25_ctx : Ctx := Cx tys [(24, f24_spec), (52, f52_spec), (53, f53_spec)] [] [] true 83 [] []
theorem f25_cok : CtxOk Tryz.prog f25_ctx := ctxOk_mk tys_ok rfl ⟨f24_is, f52_is, f53_is, trivial⟩ rfl (by kernel_rfl)
theorem f25_is : SpecOk Tryz.prog 25 f25_spec := fgen f25_cok mixed Tryz.func25 (by kernel_rfl) (bs := []) (by kernel_rfl) trivial fun x => by kernel_rfl
def f26t (p0 : Int) : Prop × Bool :=
 (True, (bif (decide (p0 ≥ 0)) then (decide (p0 ≤ 4)) else false))
def f26_ok (p0 : Int) : Prop := (f26t p0).1
def f26 (p0 : Int) : Bool := (f26t p0).2
instance (p0 : Int) : Decidable (f26_ok p0) := by
 unfold f26_ok f26t
 try dsimp only
 infer_instance
def f26_spec : Am.Spec := fnSpec [(0, vI)] vB [] (fun x => f26_ok x.1) (fun x => f26 x.1) (fun _ => ())
def f26_ctx : Ctx := Cx tys [] [] [] false 9 [] []
theorem f26_cok : CtxOk Tryz.prog f26_ctx := ctxOk_mk tys_ok rfl trivial rfl (by kernel_rfl)
theorem f26_is : SpecOk Tryz.prog 26 f26_spec := fgen f26_cok mixed Tryz.func26 (by kernel_rfl) (bs := []) (by kernel_rfl) trivial fun x => by kernel_rfl
def f73t (p0 : Int) (p1 : Int) : Prop × Bool :=
 (True, (bif (bif (bif (bif (decide (p0 ≥ 0)) then (decide (p0 ≤ 256)) else false) then (decide (p1 ≥ 0)) else false) then (decide (p1 ≤ 256)) else false) then (Ty.eqb .bool (p0 == 0) (p1 == 0)) else false))
def f73_ok (p0 : Int) (p1 : Int) : Prop := (f73t p0 p1).1
def f73 (p0 : Int) (p1 : Int) : Bool := (f73t p0 p1).2
instance (p0 : Int) (p1 : Int) : Decidable (f73_ok p0 p1) := by
 unfold f73_ok f73t
 try dsimp only
 infer_instance
def f73_spec : Am.Spec := fnSpec [(0, vI), (1, vI)] vB [] (fun x => f73_ok x.1 x.2.1) (fun x => f73 x.1 x.2.1) (fun _ => ())
def f73_ctx : Ctx := Cx tys [] [] [] false 26 [] []
theorem f73_cok : CtxOk Tryz.prog f73_ctx := ctxOk_mk tys_ok rfl trivial rfl (by kernel_rfl)
theorem f73_is : SpecOk Tryz.prog 73 f73_spec := fgen f73_cok mixed Tryz.func73 (by kernel_rfl) (bs := []) (by kernel_rfl) trivial fun x => by kernel_rfl
def f109t (p0 : Int) : Prop × Int :=
 ((f91_ok p0 (0 : Int) (65535 : Int)), (f91 p0 (0 : Int) (65535 : Int)))
def f109_ok (p0 : Int) : Prop := (f109t p0).1
def f109 (p0 : Int) : Int := (f109t p0).2
instance (p0 : Int) : Decidable (f109_ok p0) := by
 unfold f109_ok f109t
 try dsimp only
 infer_instance
def f109_spec : Am.Spec := fnSpec [(0, vI)] vI [] (fun x => f109_ok x.1) (fun x => f109 x.1) (fun _ => ())
def f109_ctx : Ctx := Cx tys [(91, f91_spec)] [] [] false 5 [] []
theorem f109_cok : CtxOk Tryz.prog f109_ctx := ctxOk_mk tys_ok rfl ⟨f91_is, trivial⟩ rfl (by kernel_rfl)
theorem f109_is : SpecOk Tryz.prog 109 f109_spec := fgen f109_cok mixed Tryz.func109 (by kernel_rfl) (bs := []) (by kernel_rfl) trivial fun x => by kernel_rfl
def f92t (p0 : D30) : Prop × D30 :=
 (((f109_ok p0.1) ∧ ((f109_ok p0.2.1) ∧ ((f109_ok p0.2.2.1) ∧ (f109_ok p0.2.2.2.1)))), ((f109 p0.1), (f109 p0.2.1), (f109 p0.2.2.1), (f109 p0.2.2.2.1), ()))
def f92_ok (p0 : D30) : Prop := (f92t p0).1
def f92 (p0 : D30) : D30 := (f92t p0).2
instance (p0 : D30) : Decidable (f92_ok p0) := by
 unfold f92_ok f92t
 try dsimp only
 infer_instance
def f92_spec : Am.Spec := fnSpec [(0, (.val T30))] (.val T30) [] (fun x => f92_ok x.1) (fun x => f92 x.1) (fun _ => ())
def f92_ctx : Ctx := Cx tys [(109, f109_spec)] [] [] false 16 [] []
theorem f92_cok : CtxOk Tryz.prog f92_ctx := ctxOk_mk tys_ok rfl ⟨f109_is, trivial⟩ rfl (by kernel_rfl)
theorem f92_is : SpecOk Tryz.prog 92 f92_spec := fgen f92_cok mixed Tryz.func92 (by kernel_rfl) (bs := []) (by kernel_rfl) trivial fun x => by kernel_rfl
def f74t (p0 : D30) : Prop × Bool :=
 ((f92_ok p0), (Ty.eqb T30 p0 (f92 p0)))
def f74_ok (p0 : D30) : Prop := (f74t p0).1
def f74 (p0 : D30) : Bool := (f74t p0).2
instance (p0 : D30) : Decidable (f74_ok p0) := by
 unfold f74_ok f74t
 try dsimp only
 infer_instance
def f74_spec : Am.Spec := fnSpec [(0, (.val T30))] vB [] (fun x => f74_ok x.1) (fun x => f74 x.1) (fun _ => ())
def f74_ctx : Ctx := Cx tys [(92, f92_spec)] [] [] false 7 [] []
theorem f74_cok : CtxOk Tryz.prog f74_ctx := ctxOk_mk tys_ok rfl ⟨f92_is, trivial⟩ rfl (by kernel_rfl)
theorem f74_is : SpecOk Tryz.prog 74 f74_spec := fgen f74_cok mixed Tryz.func74 (by kernel_rfl) (bs := []) (by kernel_rfl) trivial fun x => by kernel_rfl
abbrev f54_L4_Y : Type := ((List D30) × Int × Unit)
abbrev f54_L4_X : Type := (Int × Unit)
def f54_L4t (y : f54_L4_Y) (x : f54_L4_X) : Prop × Bool × f54_L4_X × Bool × Bool :=
 let a23 := y.1
 let a25 := x.1
 let v26 := (decide (a25 < y.2.1))
 let v27 := (nth a23 a25 Z30)
 let v31 := (!(f74 v27))
 ((v26 = true → (InB a25 (len a23) ∧ ((f74_ok v27) ∧ ((!v31) = true → InR (a25 + 1))))), (v26 && (!v31)), ((a25 + 1), ()), (v26 && v31), (!v26))
def f54_L4_ok (y : f54_L4_Y) (x : f54_L4_X) : Prop := (f54_L4t y x).1
def f54_L4_g (y : f54_L4_Y) (x : f54_L4_X) : Bool := (f54_L4t y x).2.1
def f54_L4_next (y : f54_L4_Y) (x : f54_L4_X) : f54_L4_X := (f54_L4t y x).2.2.1
def f54_L4_e1 (y : f54_L4_Y) (x : f54_L4_X) : Bool := (f54_L4t y x).2.2.2.1
def f54_L4_e2 (y : f54_L4_Y) (x : f54_L4_X) : Bool := (f54_L4t y x).2.2.2.2
instance (y : f54_L4_Y) (x : f54_L4_X) : Decidable (f54_L4_ok y x) := by
 unfold f54_L4_ok f54_L4t
 try dsimp only
 infer_instance
def f54_L4_x1_0 (y : f54_L4_Y) (x : f54_L4_X) : Int :=
 (2 : Int)
def f54_L4_spec : St → Option Out := loopS [(23, (.val (.sl T30))), (24, vI)] [(25, vI)] f54_L4_g f54_L4_next f54_L4_ok fun y x => [ex 1 (some (f54_L4_e1 y x)) [(2, vI)] ((f54_L4_x1_0 y x), ()), ex 2 (some (f54_L4_e2 y x)) [] ()]
def f54t (p0 : D28) : Prop × Int :=
 let v10 := (!(f73 p0.1 p0.2.1))
 let v21 := (bif v10 then true else ((len p0.2.2.1) != (p0.1 * p0.2.1)))
 let y4 := (p0.2.2.1, (len p0.2.2.1), ())
 let x4 := ((0 : Int), ())
 let e4 := (loopEnd (f54_L4_g y4) (f54_L4_next y4) x4)
 (((f73_ok p0.1 p0.2.1) ∧ (((!v10) = true → InR (p0.1 * p0.2.1)) ∧ ((!v21) = true → (Am.Ends (f54_L4_g y4) (f54_L4_next y4) (f54_L4_ok y4) x4)))), (bif v21 then (15 : Int) else (bif (f54_L4_e1 y4 e4) then (f54_L4_x1_0 y4 e4) else (0 : Int))))
def f54_ok (p0 : D28) : Prop := (f54t p0).1
def f54 (p0 : D28) : Int := (f54t p0).2
instance (p0 : D28) : Decidable (f54_ok p0) := by
 unfold f54_ok f54t
 try dsimp only
 infer_instance
def f54_spec : Am.Spec := fnSpec [(0, (.val T28))] vI [] (fun x => f54_ok x.1) (fun x => f54 x.1) (fun _ => ())
def f54_ctx : Ctx := Cx tys [(73, f73_spec), (74, f74_spec)] [(4, f54_L4_spec)] [] false 33 [] []
theorem f54_cok : CtxOk Tryz.prog f54_ctx := ctxOk_mk tys_ok rfl ⟨f73_is, f74_is, trivial⟩ rfl (by kernel_rfl)
noncomputable def f54_code : Code := Tryz.f54.body.getD .skip
noncomputable def f54_L4 : Code := nthLoop f54_code 0
theorem f54_L4_is : LoopSnd Tryz.prog f54_ctx f54_L4 := lgen f54_cok mixed (sp := f54_L4_spec) rfl [[(2, vI)], []] (bs := []) (by kernel_rfl) trivial (by kernel_rfl) (by kernel_rfl) fun y x => by kernel_rfl
theorem f54_is : SpecOk Tryz.prog 54 f54_spec := fgen f54_cok mixed Tryz.func54 (by kernel_rfl) (bs := [f54_L4]) (by kernel_rfl) ⟨f54_L4_is, trivial⟩ fun x => by kernel_rfl
def f55t (p0 : D30) : Prop × Int :=
 ((f74_ok p0), (bif (!(f74 p0)) then (2 : Int) else (0 : Int)))
def f55_ok (p0 : D30) : Prop := (f55t p0).1
def f55 (p0 : D30) : Int := (f55t p0).2
instance (p0 : D30) : Decidable (f55_ok p0) := by
 unfold f55_ok f55t
 try dsimp only
 infer_instance
def f55_spec : Am.Spec := fnSpec [(0, (.val T30))] vI [] (fun x => f55_ok x.1) (fun x => f55 x.1) (fun _ => ())
def f55_ctx : Ctx := Cx tys [(74, f74_spec)] [] [] false 6 [] []
theorem f55_cok : CtxOk Tryz.prog f55_ctx := ctxOk_mk tys_ok rfl ⟨f74_is, trivial⟩ rfl (by kernel_rfl)
theorem f55_is : SpecOk Tryz.prog 55 f55_spec := fgen f55_cok mixed Tryz.func55 (by kernel_rfl) (bs := []) (by kernel_rfl) trivial fun x => by kernel_rfl
def f93t (p0 : Int) (p1 : Int) : Prop × Bool :=
 (True, (bif (p0 == 1) then (p1 == 4) else (p1 == 3)))
def f93_ok (p0 : Int) (p1 : Int) : Prop := (f93t p0 p1).1
def f93 (p0 : Int) (p1 : Int) : Bool := (f93t p0 p1).2
instance (p0 : Int) (p1 : Int) : Decidable (f93_ok p0 p1) := by
 unfold f93_ok f93t
 try dsimp only
 infer_instance
def f93_spec : Am.Spec := fnSpec [(0, vI), (1, vI)] vB [] (fun x => f93_ok x.1 x.2.1) (fun x => f93 x.1 x.2.1) (fun _ => ())
def f93_ctx : Ctx := Cx tys [] [] [] false 11 [] []
theorem f93_cok : CtxOk Tryz.prog f93_ctx := ctxOk_mk tys_ok rfl trivial rfl (by kernel_rfl)
theorem f93_is : SpecOk Tryz.prog 93 f93_spec := fgen f93_cok mixed Tryz.func93 (by kernel_rfl) (bs := []) (by kernel_rfl) trivial fun x => by kernel_rfl
abbrev f75_L8_Y : Type := (Int × (List Int) × (List Int) × Int × Unit)
abbrev f75_L8_X : Type := (Int × Unit)
def f75_L8t (y : f75_L8_Y) (x : f75_L8_X) : Prop × Bool × f75_L8_X × Bool × Bool :=
 let a36 := y.2.2.1
 let a38 := x.1
 let v39 := (decide (a38 < y.2.2.2.1))
 let v40 := (nth a36 a38 (0 : Int))
 let v47 := (bif (decide (v40 < (-1048576))) then true else (decide (v40 > 1048576)))
 ((v39 = true → (InB a38 (len a36) ∧ ((!v47) = true → InR (a38 + 1)))), (v39 && (!v47)), ((a38 + 1), ()), (v39 && v47), (!v39))
def f75_L8_ok (y : f75_L8_Y) (x : f75_L8_X) : Prop := (f75_L8t y x).1
def f75_L8_g (y : f75_L8_Y) (x : f75_L8_X) : Bool := (f75_L8t y x).2.1
def f75_L8_next (y : f75_L8_Y) (x : f75_L8_X) : f75_L8_X := (f75_L8t y x).2.2.1
def f75_L8_e1 (y : f75_L8_Y) (x : f75_L8_X) : Bool := (f75_L8t y x).2.2.2.1
def f75_L8_e2 (y : f75_L8_Y) (x : f75_L8_X) : Bool := (f75_L8t y x).2.2.2.2
instance (y : f75_L8_Y) (x : f75_L8_X) : Decidable (f75_L8_ok y x) := by
 unfold f75_L8_ok f75_L8t
 try dsimp only
 infer_instance
def f75_L8_x1_0 (y : f75_L8_Y) (x : f75_L8_X) : Int :=
 (2 : Int)
def f75_L8_l2 : List (Nat × Sh) := [(0, vI), (1, (.val (.sl (.int .i64))))]
def f75_L8_spec : St → Option Out := loopS [(0, vI), (1, (.val (.sl (.int .i64)))), (36, (.val (.sl (.int .i64)))), (37, vI)] [(38, vI)] f75_L8_g f75_L8_next f75_L8_ok fun y x => [ex 1 (some (f75_L8_e1 y x)) [(8, vI)] ((f75_L8_x1_0 y x), ()), ex 2 (some (f75_L8_e2 y x)) f75_L8_l2 (y.1, y.2.1, ())]
def f75t (p0 : Int) (p1 : (List Int)) (p2 : Int) (p3 : Int) : Prop × Int :=
 let v24 := (bif (bif (bif (decide (p0 < 1)) then true else (decide (p0 > 4))) then true else (decide (p2 < 0))) then true else (decide (p2 > 2)))
 let v27 := (len p1)
 let v33 := (bif (!(f93 p0 v27)) then true else (p3 == 0))
 let v35 := (decide (p3 > 16))
 let y8 := (p0, p1, p1, (len p1), ())
 let x8 := ((0 : Int), ())
 let e8 := (loopEnd (f75_L8_g y8) (f75_L8_next y8) x8)
 let v54 := (bif (p0 == 2) then true else (p0 == 4))
 let m8_3 := (bif v33 then (1 : Int) else (bif v35 then (3 : Int) else (bif (f75_L8_e1 y8 e8) then (f75_L8_x1_0 y8 e8) else (bif (bif v54 then (decide ((nth p1 (2 : Int) (0 : Int)) < 0)) else false) then (2 : Int) else (0 : Int)))))
 (((!v24) = true → ((f93_ok p0 v27) ∧ ((!v33) = true → ((!v35) = true → ((Am.Ends (f75_L8_g y8) (f75_L8_next y8) (f75_L8_ok y8) x8) ∧ ((f75_L8_e2 y8 e8) = true → (v54 = true → InB (2 : Int) (len p1)))))))), (bif v24 then (8 : Int) else m8_3))
def f75_ok (p0 : Int) (p1 : (List Int)) (p2 : Int) (p3 : Int) : Prop := (f75t p0 p1 p2 p3).1
def f75 (p0 : Int) (p1 : (List Int)) (p2 : Int) (p3 : Int) : Int := (f75t p0 p1 p2 p3).2
instance (p0 : Int) (p1 : (List Int)) (p2 : Int) (p3 : Int) : Decidable (f75_ok p0 p1 p2 p3) := by
 unfold f75_ok f75t
 try dsimp only
 infer_instance
def f75_spec : Am.Spec := fnSpec [(0, vI), (1, (.val (.sl (.int .i64)))), (2, vI), (3, vI)] vI [] (fun x => f75_ok x.1 x.2.1 x.2.2.1 x.2.2.2.1) (fun x => f75 x.1 x.2.1 x.2.2.1 x.2.2.2.1) (fun _ => ())
def f75_ctx : Ctx := Cx tys [(93, f93_spec)] [(8, f75_L8_spec)] [] false 61 [] []
theorem f75_cok : CtxOk Tryz.prog f75_ctx := ctxOk_mk tys_ok rfl ⟨f93_is, trivial⟩ rfl (by kernel_rfl)
noncomputable def f75_code : Code := Tryz.f75.body.getD .skip
noncomputable def f75_L8 : Code := nthLoop f75_code 0
theorem f75_L8_is : LoopSnd Tryz.prog f75_ctx f75_L8 := lgen f75_cok mixed (sp := f75_L8_spec) rfl [[(8, vI)], f75_L8_l2] (bs := []) (by kernel_rfl) trivial (by kernel_rfl) (by kernel_rfl) fun y x => by kernel_rfl
theorem f75_is : SpecOk Tryz.prog 75 f75_spec := fgen f75_cok mixed Tryz.func75 (by kernel_rfl) (bs := [f75_L8]) (by kernel_rfl) ⟨f75_L8_is, trivial⟩ fun x => by kernel_rfl
abbrev f76_L2_Y : Type := ((List D53) × (List D53) × Int × Unit)
abbrev f76_L2_X : Type := (Int × Unit)
def f76_L2t (y : f76_L2_Y) (x : f76_L2_X) : Prop × Bool × f76_L2_X × Bool × Bool :=
 let a0 := y.1
 let a5 := y.2.1
 let a7 := x.1
 let v8 := (decide (a7 < y.2.2.1))
 let v10 := (nth a5 a7 Z53)
 let v19 := (bif (decide (v10.1 < 0)) then true else (decide (v10.1 > 65535)))
 let v25 := (bif v19 then true else (!(f74 v10.2.1)))
 let v27 := (decide (a7 > 0))
 let v33 := (a7 - 1)
 let v38 := (bif v27 then (decide (v10.1 ≤ (nth a0 v33 Z53).1)) else false)
 let c_2 := ((!v25) && (!v38))
 ((v8 = true → (InB a7 (len a5) ∧ (((!v19) = true → (f74_ok v10.2.1)) ∧ (((!v25) = true → ((v27 = true → InR (a7 - 1)) ∧ (v27 = true → InB v33 (len a0)))) ∧ (c_2 = true → InR (a7 + 1)))))), (v8 && c_2), ((a7 + 1), ()), (v8 && (v25 || ((!v25) && v38))), (!v8))
def f76_L2_ok (y : f76_L2_Y) (x : f76_L2_X) : Prop := (f76_L2t y x).1
def f76_L2_g (y : f76_L2_Y) (x : f76_L2_X) : Bool := (f76_L2t y x).2.1
def f76_L2_next (y : f76_L2_Y) (x : f76_L2_X) : f76_L2_X := (f76_L2t y x).2.2.1
def f76_L2_e1 (y : f76_L2_Y) (x : f76_L2_X) : Bool := (f76_L2t y x).2.2.2.1
def f76_L2_e2 (y : f76_L2_Y) (x : f76_L2_X) : Bool := (f76_L2t y x).2.2.2.2
instance (y : f76_L2_Y) (x : f76_L2_X) : Decidable (f76_L2_ok y x) := by
 unfold f76_L2_ok f76_L2t
 try dsimp only
 infer_instance
def f76_L2_x1_0 (y : f76_L2_Y) (x : f76_L2_X) : Int :=
 let v10 := (nth y.2.1 x.1 Z53)
 (bif (bif (bif (decide (v10.1 < 0)) then true else (decide (v10.1 > 65535))) then true else (!(f74 v10.2.1))) then (2 : Int) else (24 : Int))
def f76_L2_spec : St → Option Out := loopS [(0, (.val (.sl T53))), (5, (.val (.sl T53))), (6, vI)] [(7, vI)] f76_L2_g f76_L2_next f76_L2_ok fun y x => [ex 1 (some (f76_L2_e1 y x)) [(2, vI)] ((f76_L2_x1_0 y x), ()), ex 2 (some (f76_L2_e2 y x)) [] ()]
def f76t (p0 : (List D53)) : Prop × Int :=
 let y2 := (p0, p0, (len p0), ())
 let x2 := ((0 : Int), ())
 let e2 := (loopEnd (f76_L2_g y2) (f76_L2_next y2) x2)
 ((Am.Ends (f76_L2_g y2) (f76_L2_next y2) (f76_L2_ok y2) x2), (bif (f76_L2_e1 y2 e2) then (f76_L2_x1_0 y2 e2) else (0 : Int)))
def f76_ok (p0 : (List D53)) : Prop := (f76t p0).1
def f76 (p0 : (List D53)) : Int := (f76t p0).2
instance (p0 : (List D53)) : Decidable (f76_ok p0) := by
 unfold f76_ok f76t
 try dsimp only
 infer_instance
def f76_spec : Am.Spec := fnSpec [(0, (.val (.sl T53)))] vI [] (fun x => f76_ok x.1) (fun x => f76 x.1) (fun _ => ())
def f76_ctx : Ctx := Cx tys [(74, f74_spec)] [(2, f76_L2_spec)] [] false 40 [] []
theorem f76_cok : CtxOk Tryz.prog f76_ctx := ctxOk_mk tys_ok rfl ⟨f74_is, trivial⟩ rfl (by kernel_rfl)
noncomputable def f76_code : Code := Tryz.f76.body.getD .skip
noncomputable def f76_L2 : Code := nthLoop f76_code 0
theorem f76_L2_is : LoopSnd Tryz.prog f76_ctx f76_L2 := lgen f76_cok mixed (sp := f76_L2_spec) rfl [[(2, vI)], []] (bs := []) (by kernel_rfl) trivial (by kernel_rfl) (by kernel_rfl) fun y x => by kernel_rfl
theorem f76_is : SpecOk Tryz.prog 76 f76_spec := fgen f76_cok mixed Tryz.func76 (by kernel_rfl) (bs := [f76_L2]) (by kernel_rfl) ⟨f76_L2_is, trivial⟩ fun x => by kernel_rfl
def f56t (p0 : Int) (p1 : (List Int)) (p2 : Int) (p3 : (List D53)) : Prop × Int :=
 let v14 := (len p3)
 let v15 := (f75 p0 p1 p2 v14)
 let v17 := (v15 != 0)
 (((f75_ok p0 p1 p2 v14) ∧ ((!v17) = true → (f76_ok p3))), (bif v17 then v15 else (f76 p3)))
def f56_ok (p0 : Int) (p1 : (List Int)) (p2 : Int) (p3 : (List D53)) : Prop := (f56t p0 p1 p2 p3).1
def f56 (p0 : Int) (p1 : (List Int)) (p2 : Int) (p3 : (List D53)) : Int := (f56t p0 p1 p2 p3).2
instance (p0 : Int) (p1 : (List Int)) (p2 : Int) (p3 : (List D53)) : Decidable (f56_ok p0 p1 p2 p3) := by
 unfold f56_ok f56t
 try dsimp only
 infer_instance
def f56_spec : Am.Spec := fnSpec [(0, vI), (1, (.val (.sl (.int .i64)))), (2, vI), (3, (.val (.sl T53)))] vI [] (fun x => f56_ok x.1 x.2.1 x.2.2.1 x.2.2.2.1) (fun x => f56 x.1 x.2.1 x.2.2.1 x.2.2.2.1) (fun _ => ())
def f56_ctx : Ctx := Cx tys [(75, f75_spec), (76, f76_spec)] [] [] false 21 [] []
theorem f56_cok : CtxOk Tryz.prog f56_ctx := ctxOk_mk tys_ok rfl ⟨f75_is, f76_is, trivial⟩ rfl (by kernel_rfl)
theorem f56_is : SpecOk Tryz.prog 56 f56_spec := fgen f56_cok mixed Tryz.func56 (by kernel_rfl) (bs := []) (by kernel_rfl) trivial fun x => by kernel_rfl
def f95t (p0 : Int) : Prop × Int :=
 let v5 := (p0 == 3)
 let v7 := (p0 == 4)
 (True, (bif (bif v5 then true else (bif v7 then true else (p0 == 5))) then (bif v5 then (2 : Int) else (bif v7 then (3 : Int) else (0 : Int))) else (1 : Int)))
def f95_ok (p0 : Int) : Prop := (f95t p0).1
def f95 (p0 : Int) : Int := (f95t p0).2
instance (p0 : Int) : Decidable (f95_ok p0) := by
 unfold f95_ok f95t
 try dsimp only
 infer_instance
def f95_spec : Am.Spec := fnSpec [(0, vI)] vI [] (fun x => f95_ok x.1) (fun x => f95 x.1) (fun _ => ())
def f95_ctx : Ctx := Cx tys [] [] [] false 10 [] []
theorem f95_cok : CtxOk Tryz.prog f95_ctx := ctxOk_mk tys_ok rfl trivial rfl (by kernel_rfl)
theorem f95_is : SpecOk Tryz.prog 95 f95_spec := fgen f95_cok mixed Tryz.func95 (by kernel_rfl) (bs := []) (by kernel_rfl) trivial fun x => by kernel_rfl
def f97t (p0 : D55) : Prop × Bool :=
 (True, (bif (bif (bif (decide (p0.1 < (-16777216))) then true else (decide (p0.1 > 16777216))) then true else (decide (p0.2.1 < (-16777216)))) then true else (decide (p0.2.1 > 16777216))))
def f97_ok (p0 : D55) : Prop := (f97t p0).1
def f97 (p0 : D55) : Bool := (f97t p0).2
instance (p0 : D55) : Decidable (f97_ok p0) := by
 unfold f97_ok f97t
 try dsimp only
 infer_instance
def f97_spec : Am.Spec := fnSpec [(0, (.val T55))] vB [] (fun x => f97_ok x.1) (fun x => f97 x.1) (fun _ => ())
def f97_ctx : Ctx := Cx tys [] [] [] false 21 [] []
theorem f97_cok : CtxOk Tryz.prog f97_ctx := ctxOk_mk tys_ok rfl trivial rfl (by kernel_rfl)
theorem f97_is : SpecOk Tryz.prog 97 f97_spec := fgen f97_cok mixed Tryz.func97 (by kernel_rfl) (bs := []) (by kernel_rfl) trivial fun x => by kernel_rfl
abbrev f94_L9_Y : Type := ((List D58) × Int × D58 × (List D58) × Int × Int × (List D55) × Unit)
abbrev f94_L9_X : Type := (Int × Unit)
def f94_L9t (y : f94_L9_Y) (x : f94_L9_X) : Prop × Bool × f94_L9_X × Bool × Bool :=
 let a4 := y.2.2.1
 let a27 := x.1
 let v28 := (decide (a27 < 3))
 let v30 := (nth y.2.2.2.2.2.2.1 a27 Z55)
 let v32 := (f97 v30)
 let v44 := (bif v32 then true else (bif (decide (a27 ≥ (f95 a4.1))) then (!(Ty.eqb T55 v30 ((0 : Int), (0 : Int), ()))) else false))
 ((v28 = true → (InB a27 3 ∧ ((f97_ok v30) ∧ (((!v32) = true → (f95_ok a4.1)) ∧ ((!v44) = true → InR (a27 + 1)))))), (v28 && (!v44)), ((a27 + 1), ()), (v28 && v44), (!v28))
def f94_L9_ok (y : f94_L9_Y) (x : f94_L9_X) : Prop := (f94_L9t y x).1
def f94_L9_g (y : f94_L9_Y) (x : f94_L9_X) : Bool := (f94_L9t y x).2.1
def f94_L9_next (y : f94_L9_Y) (x : f94_L9_X) : f94_L9_X := (f94_L9t y x).2.2.1
def f94_L9_e1 (y : f94_L9_Y) (x : f94_L9_X) : Bool := (f94_L9t y x).2.2.2.1
def f94_L9_e4 (y : f94_L9_Y) (x : f94_L9_X) : Bool := (f94_L9t y x).2.2.2.2
instance (y : f94_L9_Y) (x : f94_L9_X) : Decidable (f94_L9_ok y x) := by
 unfold f94_L9_ok f94_L9t
 try dsimp only
 infer_instance
def f94_L9_x1_0 (y : f94_L9_Y) (x : f94_L9_X) : Int :=
 (2 : Int)
def f94_L9_l4 : List (Nat × Sh) := [(0, (.val (.sl T58))), (3, vI), (4, (.box T58 (.val T58))), (10, (.val (.sl T58))), (11, vI), (12, vI)]
def f94_L9_spec : St → Option Out := loopS [(0, (.val (.sl T58))), (3, vI), (4, (.box T58 (.val T58))), (10, (.val (.sl T58))), (11, vI), (12, vI), (26, (.val (.arr 3 T55)))] [(27, vI)] f94_L9_g f94_L9_next f94_L9_ok fun y x => [ex 1 (some (f94_L9_e1 y x)) [(2, vI)] ((f94_L9_x1_0 y x), ()), ex 4 (some (f94_L9_e4 y x)) f94_L9_l4 (y.1, y.2.1, y.2.2.1, y.2.2.2.1, y.2.2.2.2.1, y.2.2.2.2.2.1, ())]
abbrev f94_L4_Y : Type := ((List D58) × (List D58) × Int × Unit)
abbrev f94_L4_X : Type := (Int × Unit)
def f94_L4t (y : f94_L4_Y) (x : f94_L4_X) : Prop × Bool × f94_L4_X × Bool × Bool :=
 let a0 := y.1
 let a10 := y.2.1
 let a11 := y.2.2.1
 let a12 := x.1
 let v13 := (decide (a12 < a11))
 let v15 := (nth a10 a12 Z58)
 let v24 := (bif (decide (v15.1 < 1)) then true else (decide (v15.1 > 5)))
 let y9 := (a0, a12, v15, a10, a11, a12, v15.2.1, ())
 let x9 := ((0 : Int), ())
 let e9 := (loopEnd (f94_L9_g y9) (f94_L9_next y9) x9)
 let q9_4 := (f94_L9_e4 y9 e9)
 let v48 := (v15.1 != 1)
 let v51 := (a12 == 0)
 let v55 := (a12 - 1)
 let v61 := (bif v48 then (bif v51 then true else ((nth a0 v55 Z58).1 == 5)) else false)
 let c_5 := ((!v24) && (q9_4 && (!v61)))
 ((v13 = true → (InB a12 (len a10) ∧ (((!v24) = true → ((Am.Ends (f94_L9_g y9) (f94_L9_next y9) (f94_L9_ok y9) x9) ∧ (q9_4 = true → (((v48 && (!v51)) = true → InR (a12 - 1)) ∧ ((v48 && (!v51)) = true → InB v55 (len a0)))))) ∧ (c_5 = true → InR (a12 + 1))))), (v13 && c_5), ((a12 + 1), ()), (v13 && (v24 || ((!v24) && ((f94_L9_e1 y9 e9) || (q9_4 && v61))))), (!v13))
def f94_L4_ok (y : f94_L4_Y) (x : f94_L4_X) : Prop := (f94_L4t y x).1
def f94_L4_g (y : f94_L4_Y) (x : f94_L4_X) : Bool := (f94_L4t y x).2.1
def f94_L4_next (y : f94_L4_Y) (x : f94_L4_X) : f94_L4_X := (f94_L4t y x).2.2.1
def f94_L4_e1 (y : f94_L4_Y) (x : f94_L4_X) : Bool := (f94_L4t y x).2.2.2.1
def f94_L4_e2 (y : f94_L4_Y) (x : f94_L4_X) : Bool := (f94_L4t y x).2.2.2.2
instance (y : f94_L4_Y) (x : f94_L4_X) : Decidable (f94_L4_ok y x) := by
 unfold f94_L4_ok f94_L4t
 try dsimp only
 infer_instance
def f94_L4_x1_0 (y : f94_L4_Y) (x : f94_L4_X) : Int :=
 let a10 := y.2.1
 let a12 := x.1
 let v15 := (nth a10 a12 Z58)
 let y9 := (y.1, a12, v15, a10, y.2.2.1, a12, v15.2.1, ())
 let e9 := (loopEnd (f94_L9_g y9) (f94_L9_next y9) ((0 : Int), ()))
 (bif (bif (decide (v15.1 < 1)) then true else (decide (v15.1 > 5))) then (8 : Int) else (bif (f94_L9_e1 y9 e9) then (f94_L9_x1_0 y9 e9) else (24 : Int)))
def f94_L4_spec : St → Option Out := loopS [(0, (.val (.sl T58))), (10, (.val (.sl T58))), (11, vI)] [(12, vI)] f94_L4_g f94_L4_next f94_L4_ok fun y x => [ex 1 (some (f94_L4_e1 y x)) [(2, vI)] ((f94_L4_x1_0 y x), ()), ex 2 (some (f94_L4_e2 y x)) [] ()]
def f94t (p0 : (List D58)) : Prop × Int :=
 let v9 := (decide ((len p0) > 128))
 let y4 := (p0, p0, (len p0), ())
 let x4 := ((0 : Int), ())
 let e4 := (loopEnd (f94_L4_g y4) (f94_L4_next y4) x4)
 (((!v9) = true → (Am.Ends (f94_L4_g y4) (f94_L4_next y4) (f94_L4_ok y4) x4)), (bif v9 then (3 : Int) else (bif (f94_L4_e1 y4 e4) then (f94_L4_x1_0 y4 e4) else (0 : Int))))
def f94_ok (p0 : (List D58)) : Prop := (f94t p0).1
def f94 (p0 : (List D58)) : Int := (f94t p0).2
instance (p0 : (List D58)) : Decidable (f94_ok p0) := by
 unfold f94_ok f94t
 try dsimp only
 infer_instance
def f94_spec : Am.Spec := fnSpec [(0, (.val (.sl T58)))] vI [] (fun x => f94_ok x.1) (fun x => f94 x.1) (fun _ => ())
def f94_ctx : Ctx := Cx tys [(95, f95_spec), (97, f97_spec)] [(9, f94_L9_spec), (4, f94_L4_spec)] [] false 63 [] []
theorem f94_cok : CtxOk Tryz.prog f94_ctx := ctxOk_mk tys_ok rfl ⟨f95_is, f97_is, trivial⟩ rfl (by kernel_rfl)
noncomputable def f94_code : Code := Tryz.f94.body.getD .skip
noncomputable def f94_L4 : Code := nthLoop f94_code 0
noncomputable def f94_L9 : Code := nthLoop f94_L4 0
theorem f94_L9_is : LoopSnd Tryz.prog f94_ctx f94_L9 := lgen f94_cok mixed (sp := f94_L9_spec) rfl [[(2, vI)], f94_L9_l4] (bs := []) (by kernel_rfl) trivial (by kernel_rfl) (by kernel_rfl) fun y x => by kernel_rfl
theorem f94_L4_is : LoopSnd Tryz.prog f94_ctx f94_L4 := lgen f94_cok mixed (sp := f94_L4_spec) rfl [[(2, vI)], []] (bs := [f94_L9]) (by kernel_rfl) ⟨f94_L9_is, trivial⟩ (by kernel_rfl) (by kernel_rfl) fun y x => by kernel_rfl
theorem f94_is : SpecOk Tryz.prog 94 f94_spec := fgen f94_cok mixed Tryz.func94 (by kernel_rfl) (bs := [f94_L4]) (by kernel_rfl) ⟨f94_L4_is, trivial⟩ fun x => by kernel_rfl
def f110t (p0 : D25) (p1 : D55) : Prop × D55 :=
 let v8 := (f51 p0)
 let v11 := (f71 p1.1)
 let v14 := (f71 p1.2.1)
 let v24 := (IntKind.wrap .i64 ((f53 v8.1 v11 v8.2.2.1 v14) + v8.2.2.2.2.1))
 let v35 := (IntKind.wrap .i64 ((f53 v8.2.1 v11 v8.2.2.2.1 v14) + v8.2.2.2.2.2.1))
 (((f51_ok p0) ∧ ((f71_ok p1.1) ∧ ((f71_ok p1.2.1) ∧ ((f53_ok v8.1 v11 v8.2.2.1 v14) ∧ ((f71_ok v24) ∧ ((f53_ok v8.2.1 v11 v8.2.2.2.1 v14) ∧ (f71_ok v35))))))), ((f71 v24), (f71 v35), ()))
def f110_ok (p0 : D25) (p1 : D55) : Prop := (f110t p0 p1).1
def f110 (p0 : D25) (p1 : D55) : D55 := (f110t p0 p1).2
instance (p0 : D25) (p1 : D55) : Decidable (f110_ok p0 p1) := by
 unfold f110_ok f110t
 try dsimp only
 infer_instance
def f110_spec : Am.Spec := fnSpec [(0, (.val T25)), (1, (.val T55))] (.val T55) [] (fun x => f110_ok x.1 x.2.1) (fun x => f110 x.1 x.2.1) (fun _ => ())
def f110_ctx : Ctx := Cx tys [(51, f51_spec), (53, f53_spec), (71, f71_spec)] [] [] true 38 [] []
theorem f110_cok : CtxOk Tryz.prog f110_ctx := ctxOk_mk tys_ok rfl ⟨f51_is, f53_is, f71_is, trivial⟩ rfl (by kernel_rfl)
theorem f110_is : SpecOk Tryz.prog 110 f110_spec := fgen f110_cok mixed Tryz.func110 (by kernel_rfl) (bs := []) (by kernel_rfl) trivial fun x => by kernel_rfl
def f96t (p0 : D25) (p1 : D55) : Prop × D55 :=
 let s := ((IntKind.wrap .i64 (4096 * p1.1)), (IntKind.wrap .i64 (4096 * p1.2.1)), ())
 let v14 := (f110 p0 s)
 (((f110_ok p0 s) ∧ ((f52_ok v14.1 (4096 : Int)) ∧ (f52_ok v14.2.1 (4096 : Int)))), ((f52 v14.1 (4096 : Int)), (f52 v14.2.1 (4096 : Int)), ()))
def f96_ok (p0 : D25) (p1 : D55) : Prop := (f96t p0 p1).1
def f96 (p0 : D25) (p1 : D55) : D55 := (f96t p0 p1).2
instance (p0 : D25) (p1 : D55) : Decidable (f96_ok p0 p1) := by
 unfold f96_ok f96t
 try dsimp only
 infer_instance
def f96_spec : Am.Spec := fnSpec [(0, (.val T25)), (1, (.val T55))] (.val T55) [] (fun x => f96_ok x.1 x.2.1) (fun x => f96 x.1 x.2.1) (fun _ => ())
def f96_ctx : Ctx := Cx tys [(52, f52_spec), (110, f110_spec)] [] [] true 22 [] []
theorem f96_cok : CtxOk Tryz.prog f96_ctx := ctxOk_mk tys_ok rfl ⟨f52_is, f110_is, trivial⟩ rfl (by kernel_rfl)
theorem f96_is : SpecOk Tryz.prog 96 f96_spec := fgen f96_cok mixed Tryz.func96 (by kernel_rfl) (bs := []) (by kernel_rfl) trivial fun x => by kernel_rfl
abbrev f77_L13_Y : Type := (D25 × Int × D58 × (List D58) × Int × Int × Int × Unit)
abbrev f77_L13_X : Type := ((List D58) × Int × Unit)
def f77_L13t (y : f77_L13_Y) (x : f77_L13_X) : Prop × Bool × f77_L13_X × Bool × Bool :=
 let a3 := y.1
 let a9 := y.2.1
 let a8 := x.1
 let a42 := x.2.1
 let v43 := (decide (a42 < y.2.2.2.2.2.2.1))
 let v49 := (nth y.2.2.1.2.1 a42 Z55)
 let v50 := (f96 a3 v49)
 let v52 := (f97 v50)
 ((v43 = true → (InB a42 3 ∧ ((f96_ok a3 v49) ∧ ((f97_ok v50) ∧ (((!v52) = true → (InB a9 (len a8) ∧ (InB a42 3 ∧ a9 < len a8))) ∧ ((!v52) = true → InR (a42 + 1))))))), (v43 && (!v52)), ((List.set a8 (Int.toNat a9) ((nth a8 a9 Z58).1, (List.set (nth a8 a9 Z58).2.1 (Int.toNat a42) v50), ())), (a42 + 1), ()), (v43 && v52), (!v43))
def f77_L13_ok (y : f77_L13_Y) (x : f77_L13_X) : Prop := (f77_L13t y x).1
def f77_L13_g (y : f77_L13_Y) (x : f77_L13_X) : Bool := (f77_L13t y x).2.1
def f77_L13_next (y : f77_L13_Y) (x : f77_L13_X) : f77_L13_X := (f77_L13t y x).2.2.1
def f77_L13_e1 (y : f77_L13_Y) (x : f77_L13_X) : Bool := (f77_L13t y x).2.2.2.1
def f77_L13_e4 (y : f77_L13_Y) (x : f77_L13_X) : Bool := (f77_L13t y x).2.2.2.2
instance (y : f77_L13_Y) (x : f77_L13_X) : Decidable (f77_L13_ok y x) := by
 unfold f77_L13_ok f77_L13t
 try dsimp only
 infer_instance
def f77_L13_x1_0 (y : f77_L13_Y) (x : f77_L13_X) : (List D58) :=
 ([] : List D58)
def f77_L13_x1_1 (y : f77_L13_Y) (x : f77_L13_X) : Int :=
 (2 : Int)
def f77_L13_l1 : List (Nat × Sh) := [(4, (.own T58 0 false)), (5, vI)]
def f77_L13_x4_0 (y : f77_L13_Y) (x : f77_L13_X) : (List D58) :=
 x.1
def f77_L13_l4 : List (Nat × Sh) := [(3, (.box T25 (.val T25))), (8, (.own T58 1008 true)), (26, (.val (.sl T58))), (27, vI), (28, vI)]
def f77_L13_spec : St → Option Out := loopS [(3, (.box T25 (.val T25))), (9, vI), (10, (.box T58 (.val T58))), (26, (.val (.sl T58))), (27, vI), (28, vI), (41, vI)] [(8, (.own T58 1008 true)), (42, vI)] f77_L13_g f77_L13_next f77_L13_ok fun y x => [ex 1 (some (f77_L13_e1 y x)) f77_L13_l1 ((f77_L13_x1_0 y x), (f77_L13_x1_1 y x), ()), ex 4 (some (f77_L13_e4 y x)) f77_L13_l4 (y.1, (f77_L13_x4_0 y x), y.2.2.2.1, y.2.2.2.2.1, y.2.2.2.2.2.1, ())]
abbrev f77_L9_Y : Type := (D25 × (List D58) × Int × Unit)
abbrev f77_L9_X : Type := ((List D58) × Int × Unit)
def f77_L9t (y : f77_L9_Y) (x : f77_L9_X) : Prop × Bool × f77_L9_X × Bool × Bool :=
 let a26 := y.2.1
 let a27 := y.2.2.1
 let a8 := x.1
 let a28 := x.2.1
 let v29 := (decide (a28 < a27))
 let v31 := (nth a26 a28 Z58)
 let y13 := (y.1, a28, v31, a26, a27, a28, (f95 v31.1), ())
 let x13 := ((List.set a8 (Int.toNat a28) (v31.1, (nth a8 a28 Z58).2.1, ())), (0 : Int), ())
 let e13 := (loopEnd (f77_L13_g y13) (f77_L13_next y13) x13)
 let q13_4 := (f77_L13_e4 y13 e13)
 ((v29 = true → (InB a28 (len a26) ∧ (InB a28 (len a8) ∧ (a28 < len a8 ∧ ((f95_ok v31.1) ∧ ((Am.Ends (f77_L13_g y13) (f77_L13_next y13) (f77_L13_ok y13) x13) ∧ (q13_4 = true → InR (a28 + 1)))))))), (v29 && q13_4), ((f77_L13_x4_0 y13 e13), (a28 + 1), ()), (v29 && (f77_L13_e1 y13 e13)), (!v29))
def f77_L9_ok (y : f77_L9_Y) (x : f77_L9_X) : Prop := (f77_L9t y x).1
def f77_L9_g (y : f77_L9_Y) (x : f77_L9_X) : Bool := (f77_L9t y x).2.1
def f77_L9_next (y : f77_L9_Y) (x : f77_L9_X) : f77_L9_X := (f77_L9t y x).2.2.1
def f77_L9_e1 (y : f77_L9_Y) (x : f77_L9_X) : Bool := (f77_L9t y x).2.2.2.1
def f77_L9_e2 (y : f77_L9_Y) (x : f77_L9_X) : Bool := (f77_L9t y x).2.2.2.2
instance (y : f77_L9_Y) (x : f77_L9_X) : Decidable (f77_L9_ok y x) := by
 unfold f77_L9_ok f77_L9t
 try dsimp only
 infer_instance
def f77_L9_x1_0 (y : f77_L9_Y) (x : f77_L9_X) : (List D58) :=
 let a26 := y.2.1
 let a8 := x.1
 let a28 := x.2.1
 let v31 := (nth a26 a28 Z58)
 let y13 := (y.1, a28, v31, a26, y.2.2.1, a28, (f95 v31.1), ())
 (f77_L13_x1_0 y13 (loopEnd (f77_L13_g y13) (f77_L13_next y13) ((List.set a8 (Int.toNat a28) (v31.1, (nth a8 a28 Z58).2.1, ())), (0 : Int), ())))
def f77_L9_x1_1 (y : f77_L9_Y) (x : f77_L9_X) : Int :=
 let a26 := y.2.1
 let a8 := x.1
 let a28 := x.2.1
 let v31 := (nth a26 a28 Z58)
 let y13 := (y.1, a28, v31, a26, y.2.2.1, a28, (f95 v31.1), ())
 (f77_L13_x1_1 y13 (loopEnd (f77_L13_g y13) (f77_L13_next y13) ((List.set a8 (Int.toNat a28) (v31.1, (nth a8 a28 Z58).2.1, ())), (0 : Int), ())))
def f77_L9_l1 : List (Nat × Sh) := [(4, (.own T58 0 false)), (5, vI)]
def f77_L9_x2_0 (y : f77_L9_Y) (x : f77_L9_X) : (List D58) :=
 x.1
def f77_L9_spec : St → Option Out := loopS [(3, (.box T25 (.val T25))), (26, (.val (.sl T58))), (27, vI)] [(8, (.own T58 1008 true)), (28, vI)] f77_L9_g f77_L9_next f77_L9_ok fun y x => [ex 1 (some (f77_L9_e1 y x)) f77_L9_l1 ((f77_L9_x1_0 y x), (f77_L9_x1_1 y x), ()), ex 2 (some (f77_L9_e2 y x)) [(8, (.own T58 1008 true))] ((f77_L9_x2_0 y x), ())]
def f77t (p0 : (List D58)) (p1 : D25) : Prop × ((List D58) × Int × Unit) :=
 let v14 := (f94 p0)
 let v16 := (v14 != 0)
 let v19 := (f24 p1)
 let v21 := (v19 != 0)
 let v24 := (len p0)
 let y9 := (p1, p0, (len p0), ())
 let x9 := ((List.replicate (Int.toNat v24) Z58), (0 : Int), ())
 let e9 := (loopEnd (f77_L9_g y9) (f77_L9_next y9) x9)
 let q9_1 := (f77_L9_e1 y9 e9)
 (((f94_ok p0) ∧ ((!v16) = true → ((f24_ok p1) ∧ ((!v21) = true → ((0 ≤ v24 ∧ v24 ≤ v24 ∧ v24 ≤ 4294967296) ∧ (Am.Ends (f77_L9_g y9) (f77_L9_next y9) (f77_L9_ok y9) x9)))))), ((bif v16 then [] else (bif v21 then [] else (bif q9_1 then (f77_L9_x1_0 y9 e9) else (f77_L9_x2_0 y9 e9)))), (bif v16 then v14 else (bif v21 then v19 else (bif q9_1 then (f77_L9_x1_1 y9 e9) else (0 : Int)))), ()))
def f77_ok (p0 : (List D58)) (p1 : D25) : Prop := (f77t p0 p1).1
def f77 (p0 : (List D58)) (p1 : D25) : ((List D58) × Int × Unit) := (f77t p0 p1).2
instance (p0 : (List D58)) (p1 : D25) : Decidable (f77_ok p0 p1) := by
 unfold f77_ok f77t
 try dsimp only
 infer_instance
def f77_spec : Am.Spec := fnSpec [(0, (.val (.sl T58))), (1, (.val T25))] (.tup (.cons (.val (.sl T58)) (.cons vI .nl))) [] (fun x => f77_ok x.1 x.2.1) (fun x => f77 x.1 x.2.1) (fun _ => ())
def f77_ctx : Ctx := Cx tys [(24, f24_spec), (94, f94_spec), (95, f95_spec), (96, f96_spec), (97, f97_spec)] [(13, f77_L13_spec), (9, f77_L9_spec)] [(15, [(4, 0, 25, 1008)]), (43, [(1, 4, 0, 0), (4, 0, 1008, 0)])] false 63 [] [25]
theorem f77_cok : CtxOk Tryz.prog f77_ctx := ctxOk_mk tys_ok rfl ⟨f24_is, f94_is, f95_is, f96_is, f97_is, trivial⟩ rfl (by kernel_rfl)
noncomputable def f77_code : Code := Tryz.f77.body.getD .skip
noncomputable def f77_L9 : Code := nthLoop f77_code 0
noncomputable def f77_L13 : Code := nthLoop f77_L9 0
theorem f77_L13_is : LoopSnd Tryz.prog f77_ctx f77_L13 := lgen f77_cok mixed (sp := f77_L13_spec) rfl [f77_L13_l1, f77_L13_l4] (bs := []) (by kernel_rfl) trivial (by kernel_rfl) (by kernel_rfl) fun y x => by kernel_rfl
theorem f77_L9_is : LoopSnd Tryz.prog f77_ctx f77_L9 := lgen f77_cok mixed (sp := f77_L9_spec) rfl [f77_L9_l1, [(8, (.own T58 1008 true))]] (bs := [f77_L13]) (by kernel_rfl) ⟨f77_L13_is, trivial⟩ (by kernel_rfl) (by kernel_rfl) fun y x => by kernel_rfl
theorem f77_is : SpecOk Tryz.prog 77 f77_spec := fgen f77_cok mixed Tryz.func77 (by kernel_rfl) (bs := [f77_L9]) (by kernel_rfl) ⟨f77_L9_is, trivial⟩ fun x => by kernel_rfl
def f111_v2t (p0 : D55) (p1 : (List D55)) : Prop × (Unit) × ((List D55) × Unit) :=
 let v7 := (IntKind.wrap .i64 ((len p1) - 1))
 let v10 := (!(Ty.eqb T55 p0 (nth p1 v7 Z55)))
 let v13 := ([p0] : List D55)
 ((InB v7 (len p1) ∧ (v10 = true → ((List.length p1 + List.length v13 : Nat) : Int) ≤ 4294967296)), (), ((bif v10 then (p1 ++ v13) else p1), ()))
def f111_v2_ok (p0 : D55) (p1 : (List D55)) : Prop := (f111_v2t p0 p1).1
def f111_v2 (p0 : D55) (p1 : (List D55)) : (Unit) := (f111_v2t p0 p1).2.1
def f111_v2_o (p0 : D55) (p1 : (List D55)) : ((List D55) × Unit) := (f111_v2t p0 p1).2.2
instance (p0 : D55) (p1 : (List D55)) : Decidable (f111_v2_ok p0 p1) := by
 unfold f111_v2_ok f111_v2t
 try dsimp only
 infer_instance
def f111_v2_spec : Am.Spec := fnSpec [(0, (.val T55)), (1, (.box (.sl T55) (.own T55 400100 false)))] (.tup .nl) [(1, (.box (.sl T55) (.own T55 400100 false)))] (fun x => f111_v2_ok x.1 x.2.1) (fun x => f111_v2 x.1 x.2.1) (fun x => f111_v2_o x.1 x.2.1)
def f111_v2_ctx : Ctx := Cx tys [] [] [(5, [(4, 0, 14, 400100)])] true 15 [1] []
theorem f111_v2_cok : CtxOk Tryz.prog f111_v2_ctx := ctxOk_mk tys_ok rfl trivial rfl (by kernel_rfl)
theorem f111_v2_is : SpecOk Tryz.prog 111 f111_v2_spec := fgen f111_v2_cok mixed Tryz.func111 (by kernel_rfl) (bs := []) (by kernel_rfl) trivial fun x => by kernel_rfl
abbrev f98_v1_L8_Y : Type := (D58 × D55 × (Unit × Unit) × Unit)
abbrev f98_v1_L8_X : Type := ((List D55) × Int × Unit)
def f98_v1_L8t (y : f98_v1_L8_Y) (x : f98_v1_L8_X) : Prop × Bool × f98_v1_L8_X :=
 let a3 := y.1
 let a5 := y.2.1
 let a2 := x.1
 let a7 := x.2.1
 let v37 := (decide (a7 ≤ 8))
 let v41 := (IntKind.wrap .i64 (8 - a7))
 let v44 := (IntKind.wrap .i64 (v41 * v41))
 let v48 := (IntKind.wrap .i64 ((IntKind.wrap .i64 (2 * a7)) * v41))
 let v51 := (IntKind.wrap .i64 (a7 * a7))
 let v70 := (IntKind.wrap .i64 ((IntKind.wrap .i64 ((IntKind.wrap .i64 (v44 * a5.1)) + (IntKind.wrap .i64 (v48 * ((nth a3.2.1 (0 : Int) Z55).1))))) + (IntKind.wrap .i64 (v51 * ((nth a3.2.1 (1 : Int) Z55).1)))))
 let v89 := (IntKind.wrap .i64 ((IntKind.wrap .i64 ((IntKind.wrap .i64 (v44 * a5.2.1)) + (IntKind.wrap .i64 (v48 * ((nth a3.2.1 (0 : Int) Z55).2.1))))) + (IntKind.wrap .i64 (v51 * ((nth a3.2.1 (1 : Int) Z55).2.1)))))
 let s := ((f52 v70 (64 : Int)), (f52 v89 (64 : Int)), ())
 ((v37 = true → (InB (0 : Int) 3 ∧ (InB (1 : Int) 3 ∧ ((f52_ok v70 (64 : Int)) ∧ (InB (0 : Int) 3 ∧ (InB (1 : Int) 3 ∧ ((f52_ok v89 (64 : Int)) ∧ (f111_v2_ok s a2)))))))), v37, ((f111_v2_o s a2).1, (IntKind.wrap .i64 (a7 + 1)), ()))
def f98_v1_L8_ok (y : f98_v1_L8_Y) (x : f98_v1_L8_X) : Prop := (f98_v1_L8t y x).1
def f98_v1_L8_g (y : f98_v1_L8_Y) (x : f98_v1_L8_X) : Bool := (f98_v1_L8t y x).2.1
def f98_v1_L8_next (y : f98_v1_L8_Y) (x : f98_v1_L8_X) : f98_v1_L8_X := (f98_v1_L8t y x).2.2
instance (y : f98_v1_L8_Y) (x : f98_v1_L8_X) : Decidable (f98_v1_L8_ok y x) := by
 unfold f98_v1_L8_ok f98_v1_L8t
 try dsimp only
 infer_instance
def f98_v1_L8_x3_0 (y : f98_v1_L8_Y) (x : f98_v1_L8_X) : (List D55) :=
 x.1
def f98_v1_L8_l3 : List (Nat × Sh) := [(2, (.box (.sl T55) (.own T55 400200 false)))]
def f98_v1_L8_spec : St → Option Out := loopS [(3, (.box T58 (.val T58))), (5, (.box T55 (.val T55))), (6, (.fn 111 (.cons (.ref 2 (.sl T55)) .nl)))] [(2, (.box (.sl T55) (.own T55 400200 false))), (7, vI)] f98_v1_L8_g f98_v1_L8_next f98_v1_L8_ok fun y x => [ex 3 none f98_v1_L8_l3 ((f98_v1_L8_x3_0 y x), ())]
abbrev f98_v1_L15_Y : Type := (D58 × D55 × (Unit × Unit) × Unit)
abbrev f98_v1_L15_X : Type := ((List D55) × Int × Unit)
def f98_v1_L15t (y : f98_v1_L15_Y) (x : f98_v1_L15_X) : Prop × Bool × f98_v1_L15_X :=
 let a3 := y.1
 let a5 := y.2.1
 let a2 := x.1
 let a12 := x.2.1
 let v96 := (decide (a12 ≤ 16))
 let v100 := (IntKind.wrap .i64 (16 - a12))
 let v105 := (IntKind.wrap .i64 ((IntKind.wrap .i64 (v100 * v100)) * v100))
 let v111 := (IntKind.wrap .i64 ((IntKind.wrap .i64 ((IntKind.wrap .i64 (3 * a12)) * v100)) * v100))
 let v117 := (IntKind.wrap .i64 ((IntKind.wrap .i64 ((IntKind.wrap .i64 (3 * a12)) * a12)) * v100))
 let v122 := (IntKind.wrap .i64 ((IntKind.wrap .i64 (a12 * a12)) * a12))
 let v141 := (IntKind.wrap .i64 ((IntKind.wrap .i64 ((IntKind.wrap .i64 (v105 * a5.1)) + (IntKind.wrap .i64 (v111 * ((nth a3.2.1 (0 : Int) Z55).1))))) + (IntKind.wrap .i64 (v117 * ((nth a3.2.1 (1 : Int) Z55).1)))))
 let v148 := (IntKind.wrap .i64 (v141 + (IntKind.wrap .i64 (v122 * ((nth a3.2.1 (2 : Int) Z55).1)))))
 let v167 := (IntKind.wrap .i64 ((IntKind.wrap .i64 ((IntKind.wrap .i64 (v105 * a5.2.1)) + (IntKind.wrap .i64 (v111 * ((nth a3.2.1 (0 : Int) Z55).2.1))))) + (IntKind.wrap .i64 (v117 * ((nth a3.2.1 (1 : Int) Z55).2.1)))))
 let v174 := (IntKind.wrap .i64 (v167 + (IntKind.wrap .i64 (v122 * ((nth a3.2.1 (2 : Int) Z55).2.1)))))
 let s := ((f52 v148 (4096 : Int)), (f52 v174 (4096 : Int)), ())
 ((v96 = true → (InB (0 : Int) 3 ∧ (InB (1 : Int) 3 ∧ (InB (2 : Int) 3 ∧ ((f52_ok v148 (4096 : Int)) ∧ (InB (0 : Int) 3 ∧ (InB (1 : Int) 3 ∧ (InB (2 : Int) 3 ∧ ((f52_ok v174 (4096 : Int)) ∧ (f111_v2_ok s a2)))))))))), v96, ((f111_v2_o s a2).1, (IntKind.wrap .i64 (a12 + 1)), ()))
def f98_v1_L15_ok (y : f98_v1_L15_Y) (x : f98_v1_L15_X) : Prop := (f98_v1_L15t y x).1
def f98_v1_L15_g (y : f98_v1_L15_Y) (x : f98_v1_L15_X) : Bool := (f98_v1_L15t y x).2.1
def f98_v1_L15_next (y : f98_v1_L15_Y) (x : f98_v1_L15_X) : f98_v1_L15_X := (f98_v1_L15t y x).2.2
instance (y : f98_v1_L15_Y) (x : f98_v1_L15_X) : Decidable (f98_v1_L15_ok y x) := by
 unfold f98_v1_L15_ok f98_v1_L15t
 try dsimp only
 infer_instance
def f98_v1_L15_x5_0 (y : f98_v1_L15_Y) (x : f98_v1_L15_X) : (List D55) :=
 x.1
def f98_v1_L15_l5 : List (Nat × Sh) := [(2, (.box (.sl T55) (.own T55 400200 false)))]
def f98_v1_L15_spec : St → Option Out := loopS [(3, (.box T58 (.val T58))), (5, (.box T55 (.val T55))), (6, (.fn 111 (.cons (.ref 2 (.sl T55)) .nl)))] [(2, (.box (.sl T55) (.own T55 400200 false))), (12, vI)] f98_v1_L15_g f98_v1_L15_next f98_v1_L15_ok fun y x => [ex 5 none f98_v1_L15_l5 ((f98_v1_L15_x5_0 y x), ())]
def f98_v1t (p0 : (List D55)) (p1 : D58) : Prop × (List D55) :=
 let v21 := (IntKind.wrap .i64 ((len p0) - 1))
 let v22 := (nth p0 v21 Z55)
 let v28 := (p1.1 == 2)
 let v32 := (nth p1.2.1 (0 : Int) Z55)
 let v35 := (p1.1 == 3)
 let y8 := (p1, v22, ((), ()), ())
 let x8 := (p0, (1 : Int), ())
 let v94 := (p1.1 == 4)
 let y15 := (p1, v22, ((), ()), ())
 let x15 := (p0, (1 : Int), ())
 let m2_2 := (bif v28 then (f111_v2_o v32 p0).1 else (bif v35 then (f98_v1_L8_x3_0 y8 (loopEnd (f98_v1_L8_g y8) (f98_v1_L8_next y8) x8)) else (bif v94 then (f98_v1_L15_x5_0 y15 (loopEnd (f98_v1_L15_g y15) (f98_v1_L15_next y15) x15)) else p0)))
 ((InB v21 (len p0) ∧ ((v28 = true → (InB (0 : Int) 3 ∧ (f111_v2_ok v32 p0))) ∧ (v28 = false → ((v35 = true → (Am.Ends (f98_v1_L8_g y8) (f98_v1_L8_next y8) (f98_v1_L8_ok y8) x8)) ∧ (v35 = false → (v94 = true → (Am.Ends (f98_v1_L15_g y15) (f98_v1_L15_next y15) (f98_v1_L15_ok y15) x15))))))), m2_2)
def f98_v1_ok (p0 : (List D55)) (p1 : D58) : Prop := (f98_v1t p0 p1).1
def f98_v1 (p0 : (List D55)) (p1 : D58) : (List D55) := (f98_v1t p0 p1).2
instance (p0 : (List D55)) (p1 : D58) : Decidable (f98_v1_ok p0 p1) := by
 unfold f98_v1_ok f98_v1t
 try dsimp only
 infer_instance
def f98_v1_spec : Am.Spec := fnSpec [(0, (.own T55 400000 false)), (1, (.val T58))] (.own T55 0 false) [] (fun x => f98_v1_ok x.1 x.2.1) (fun x => f98_v1 x.1 x.2.1) (fun _ => ())
def f98_v1_ctx : Ctx := { Cx tys [(52, f52_spec), (111, f111_v2_spec)] [(8, f98_v1_L8_spec), (15, f98_v1_L15_spec)] [(1, [(4, 0, 400000, 400200)]), (41, [(4, 0, 400200, 0)])] true 179 [] [] with wants := [(111, [])] }
theorem f98_v1_cok : CtxOk Tryz.prog f98_v1_ctx := ctxOk_mk tys_ok rfl ⟨f52_is, f111_v2_is, trivial⟩ rfl (by kernel_rfl)
noncomputable def f98_v1_code : Code := Tryz.f98.body.getD .skip
noncomputable def f98_v1_L8 : Code := nthLoop f98_v1_code 0
theorem f98_v1_L8_is : LoopSnd Tryz.prog f98_v1_ctx f98_v1_L8 := lgen f98_v1_cok mixed (sp := f98_v1_L8_spec) rfl [f98_v1_L8_l3] (bs := []) (by kernel_rfl) trivial (by kernel_rfl) (by kernel_rfl) fun y x => by kernel_rfl
noncomputable def f98_v1_L15 : Code := nthLoop f98_v1_code 1
theorem f98_v1_L15_is : LoopSnd Tryz.prog f98_v1_ctx f98_v1_L15 := lgen f98_v1_cok mixed (sp := f98_v1_L15_spec) rfl [f98_v1_L15_l5] (bs := []) (by kernel_rfl) trivial (by kernel_rfl) (by kernel_rfl) fun y x => by kernel_rfl
theorem f98_v1_is : SpecOk Tryz.prog 98 f98_v1_spec := fgen f98_v1_cok mixed Tryz.func98 (by kernel_rfl) (bs := [f98_v1_L8, f98_v1_L15]) (by kernel_rfl) ⟨f98_v1_L8_is, f98_v1_L15_is, trivial⟩ fun x => by kernel_rfl
abbrev f78_L7_Y : Type := ((List D58) × (List D58) × Int × Unit)
abbrev f78_L7_X : Type := ((List (List D55)) × (List D55) × Int × Unit)
def f78_L7t (y : f78_L7_Y) (x : f78_L7_X) : Prop × Bool × f78_L7_X :=
 let a0 := y.1
 let a14 := y.2.1
 let a5 := x.1
 let a6 := x.2.1
 let a16 := x.2.2.1
 let v17 := (decide (a16 < y.2.2.1))
 let v19 := (nth a14 a16 Z58)
 let v23 := (v19.1 == 1)
 let m6 := (bif v23 then ([(nth v19.2.1 (0 : Int) Z55)] : List D55) else (f98_v1 a6 v19))
 let v33 := (len a0)
 let v35 := (a16 == (v33 - 1))
 let v39 := (a16 + 1)
 let v44 := (bif v35 then true else ((nth a0 v39 Z58).1 == 1))
 let v47 := ([m6] : List (List D55))
 ((v17 = true → (InB a16 (len a14) ∧ ((v23 = true → InB (0 : Int) 3) ∧ ((v23 = false → (f98_v1_ok a6 v19)) ∧ (InR (v33 - 1) ∧ (((!v35) = true → InR (a16 + 1)) ∧ (((!v35) = true → InB v39 (len a0)) ∧ ((v44 = true → ((List.length a5 + List.length v47 : Nat) : Int) ≤ 4294967296) ∧ InR (a16 + 1))))))))), v17, ((bif v44 then (a5 ++ v47) else a5), m6, (a16 + 1), ()))
def f78_L7_ok (y : f78_L7_Y) (x : f78_L7_X) : Prop := (f78_L7t y x).1
def f78_L7_g (y : f78_L7_Y) (x : f78_L7_X) : Bool := (f78_L7t y x).2.1
def f78_L7_next (y : f78_L7_Y) (x : f78_L7_X) : f78_L7_X := (f78_L7t y x).2.2
instance (y : f78_L7_Y) (x : f78_L7_X) : Decidable (f78_L7_ok y x) := by
 unfold f78_L7_ok f78_L7t
 try dsimp only
 infer_instance
def f78_L7_x2_0 (y : f78_L7_Y) (x : f78_L7_X) : (List (List D55)) :=
 x.1
def f78_L7_l2 : List (Nat × Sh) := [(5, (.own (.sl T55) 1005 false))]
def f78_L7_spec : St → Option Out := loopS [(0, (.val (.sl T58))), (14, (.val (.sl T58))), (15, vI)] [(5, (.own (.sl T55) 1005 false)), (6, (.own T55 1006 false)), (16, vI)] f78_L7_g f78_L7_next f78_L7_ok fun y x => [ex 2 none f78_L7_l2 ((f78_L7_x2_0 y x), ())]
def f78t (p0 : (List D58)) : Prop × ((List (List D55)) × Int × Unit) :=
 let v10 := (f94 p0)
 let v12 := (v10 != 0)
 let y7 := (p0, p0, (len p0), ())
 let x7 := (([] : List (List D55)), ([] : List D55), (0 : Int), ())
 (((f94_ok p0) ∧ ((!v12) = true → (Am.Ends (f78_L7_g y7) (f78_L7_next y7) (f78_L7_ok y7) x7))), ((bif v12 then [] else (f78_L7_x2_0 y7 (loopEnd (f78_L7_g y7) (f78_L7_next y7) x7))), (bif v12 then v10 else (0 : Int)), ()))
def f78_ok (p0 : (List D58)) : Prop := (f78t p0).1
def f78 (p0 : (List D58)) : ((List (List D55)) × Int × Unit) := (f78t p0).2
instance (p0 : (List D58)) : Decidable (f78_ok p0) := by
 unfold f78_ok f78t
 try dsimp only
 infer_instance
def f78_spec : Am.Spec := fnSpec [(0, (.val (.sl T58)))] (.tup (.cons (.own (.sl T55) 0 false) (.cons vI .nl))) [] (fun x => f78_ok x.1) (fun x => f78 x.1) (fun _ => ())
def f78_ctx : Ctx := { Cx tys [(94, f94_spec), (98, f98_v1_spec)] [(7, f78_L7_spec)] [(21, [(4, 0, 27, 1006)]), (23, [(4, 0, 30, 1006)]), (27, [(4, 0, 48, 1005)]), (31, [(4, 0, 1005, 0)])] false 51 [] [] with wants := [(98, [0])] }
theorem f78_cok : CtxOk Tryz.prog f78_ctx := ctxOk_mk tys_ok rfl ⟨f94_is, f98_v1_is, trivial⟩ rfl (by kernel_rfl)
noncomputable def f78_code : Code := Tryz.f78.body.getD .skip
noncomputable def f78_L7 : Code := nthLoop f78_code 0
theorem f78_L7_is : LoopSnd Tryz.prog f78_ctx f78_L7 := lgen f78_cok mixed (sp := f78_L7_spec) rfl [f78_L7_l2] (bs := []) (by kernel_rfl) trivial (by kernel_rfl) (by kernel_rfl) fun y x => by kernel_rfl
theorem f78_is : SpecOk Tryz.prog 78 f78_spec := fgen f78_cok mixed Tryz.func78 (by kernel_rfl) (bs := [f78_L7]) (by kernel_rfl) ⟨f78_L7_is, trivial⟩ fun x => by kernel_rfl
abbrev f79_L6_Y : Type := ((List D58) × (List D58) × Int × Unit)
abbrev f79_L6_X : Type := ((List Bool) × Int × Unit)
def f79_L6t (y : f79_L6_Y) (x : f79_L6_X) : Prop × Bool × f79_L6_X :=
 let a0 := y.1
 let a13 := y.2.1
 let a5 := x.1
 let a15 := x.2.1
 let v16 := (decide (a15 < y.2.2.1))
 let v22 := (len a0)
 let v24 := (a15 == (v22 - 1))
 let v28 := (a15 + 1)
 let v33 := (bif v24 then true else ((nth a0 v28 Z58).1 == 1))
 let v38 := ([((nth a13 a15 Z58).1 != 5)] : List Bool)
 ((v16 = true → (InB a15 (len a13) ∧ (InR (v22 - 1) ∧ (((!v24) = true → InR (a15 + 1)) ∧ (((!v24) = true → InB v28 (len a0)) ∧ ((v33 = true → ((List.length a5 + List.length v38 : Nat) : Int) ≤ 4294967296) ∧ InR (a15 + 1))))))), v16, ((bif v33 then (a5 ++ v38) else a5), (a15 + 1), ()))
def f79_L6_ok (y : f79_L6_Y) (x : f79_L6_X) : Prop := (f79_L6t y x).1
def f79_L6_g (y : f79_L6_Y) (x : f79_L6_X) : Bool := (f79_L6t y x).2.1
def f79_L6_next (y : f79_L6_Y) (x : f79_L6_X) : f79_L6_X := (f79_L6t y x).2.2
instance (y : f79_L6_Y) (x : f79_L6_X) : Decidable (f79_L6_ok y x) := by
 unfold f79_L6_ok f79_L6t
 try dsimp only
 infer_instance
def f79_L6_x2_0 (y : f79_L6_Y) (x : f79_L6_X) : (List Bool) :=
 x.1
def f79_L6_spec : St → Option Out := loopS [(0, (.val (.sl T58))), (13, (.val (.sl T58))), (14, vI)] [(5, (.own .bool 1005 false)), (15, vI)] f79_L6_g f79_L6_next f79_L6_ok fun y x => [ex 2 none [(5, (.own .bool 1005 false))] ((f79_L6_x2_0 y x), ())]
def f79t (p0 : (List D58)) : Prop × ((List Bool) × Int × Unit) :=
 let v9 := (f94 p0)
 let v11 := (v9 != 0)
 let y6 := (p0, p0, (len p0), ())
 let x6 := (([] : List Bool), (0 : Int), ())
 (((f94_ok p0) ∧ ((!v11) = true → (Am.Ends (f79_L6_g y6) (f79_L6_next y6) (f79_L6_ok y6) x6))), ((bif v11 then [] else (f79_L6_x2_0 y6 (loopEnd (f79_L6_g y6) (f79_L6_next y6) x6))), (bif v11 then v9 else (0 : Int)), ()))
def f79_ok (p0 : (List D58)) : Prop := (f79t p0).1
def f79 (p0 : (List D58)) : ((List Bool) × Int × Unit) := (f79t p0).2
instance (p0 : (List D58)) : Decidable (f79_ok p0) := by
 unfold f79_ok f79t
 try dsimp only
 infer_instance
def f79_spec : Am.Spec := fnSpec [(0, (.val (.sl T58)))] (.tup (.cons (.own .bool 0 false) (.cons vI .nl))) [] (fun x => f79_ok x.1) (fun x => f79 x.1) (fun _ => ())
def f79_ctx : Ctx := Cx tys [(94, f94_spec)] [(6, f79_L6_spec)] [(19, [(4, 0, 39, 1005)]), (23, [(4, 0, 1005, 0)])] false 42 [] []
theorem f79_cok : CtxOk Tryz.prog f79_ctx := ctxOk_mk tys_ok rfl ⟨f94_is, trivial⟩ rfl (by kernel_rfl)
noncomputable def f79_code : Code := Tryz.f79.body.getD .skip
noncomputable def f79_L6 : Code := nthLoop f79_code 0
theorem f79_L6_is : LoopSnd Tryz.prog f79_ctx f79_L6 := lgen f79_cok mixed (sp := f79_L6_spec) rfl [[(5, (.own .bool 1005 false))]] (bs := []) (by kernel_rfl) trivial (by kernel_rfl) (by kernel_rfl) fun y x => by kernel_rfl
theorem f79_is : SpecOk Tryz.prog 79 f79_spec := fgen f79_cok mixed Tryz.func79 (by kernel_rfl) (bs := [f79_L6]) (by kernel_rfl) ⟨f79_L6_is, trivial⟩ fun x => by kernel_rfl
abbrev f81_L5_Y : Type := ((List (List D55)) × (List (List D55)) × Int × Unit)
abbrev f81_L5_X : Type := (Int × Int × Unit)
def f81_L5t (y : f81_L5_Y) (x : f81_L5_X) : Prop × Bool × f81_L5_X × Bool × Bool :=
 let a18 := y.2.1
 let a5 := x.1
 let a20 := x.2.1
 let v21 := (decide (a20 < y.2.2.1))
 let v26 := (len (nth a18 a20 ([] : List D55)))
 let v27 := (a5 + v26)
 let v29 := (decide (v27 > 4096))
 ((v21 = true → (InB a20 (len a18) ∧ (InR (a5 + v26) ∧ ((!v29) = true → InR (a20 + 1))))), (v21 && (!v29)), (v27, (a20 + 1), ()), (v21 && v29), (!v21))
def f81_L5_ok (y : f81_L5_Y) (x : f81_L5_X) : Prop := (f81_L5t y x).1
def f81_L5_g (y : f81_L5_Y) (x : f81_L5_X) : Bool := (f81_L5t y x).2.1
def f81_L5_next (y : f81_L5_Y) (x : f81_L5_X) : f81_L5_X := (f81_L5t y x).2.2.1
def f81_L5_e1 (y : f81_L5_Y) (x : f81_L5_X) : Bool := (f81_L5t y x).2.2.2.1
def f81_L5_e2 (y : f81_L5_Y) (x : f81_L5_X) : Bool := (f81_L5t y x).2.2.2.2
instance (y : f81_L5_Y) (x : f81_L5_X) : Decidable (f81_L5_ok y x) := by
 unfold f81_L5_ok f81_L5t
 try dsimp only
 infer_instance
def f81_L5_x1_0 (y : f81_L5_Y) (x : f81_L5_X) : Int :=
 (3 : Int)
def f81_L5_spec : St → Option Out := loopS [(0, (.val (.sl (.sl T55)))), (18, (.val (.sl (.sl T55)))), (19, vI)] [(5, vI), (20, vI)] f81_L5_g f81_L5_next f81_L5_ok fun y x => [ex 1 (some (f81_L5_e1 y x)) [(4, vI)] ((f81_L5_x1_0 y x), ()), ex 2 (some (f81_L5_e2 y x)) [(0, (.val (.sl (.sl T55))))] (y.1, ())]
abbrev f81_L15_Y : Type := ((List (List D55)) × Int × Int × (List D55) × Int × Unit)
abbrev f81_L15_X : Type := (Int × Unit)
def f81_L15t (y : f81_L15_Y) (x : f81_L15_X) : Prop × Bool × f81_L15_X × Bool × Bool :=
 let a37 := y.2.2.2.1
 let a39 := x.1
 let v40 := (decide (a39 < y.2.2.2.2.1))
 let v41 := (nth a37 a39 Z55)
 let v60 := (bif (bif (bif (decide (v41.1 < (-16777216))) then true else (decide (v41.1 > 16777216))) then true else (decide (v41.2.1 < (-16777216)))) then true else (decide (v41.2.1 > 16777216)))
 ((v40 = true → (InB a39 (len a37) ∧ ((!v60) = true → InR (a39 + 1)))), (v40 && (!v60)), ((a39 + 1), ()), (v40 && v60), (!v40))
def f81_L15_ok (y : f81_L15_Y) (x : f81_L15_X) : Prop := (f81_L15t y x).1
def f81_L15_g (y : f81_L15_Y) (x : f81_L15_X) : Bool := (f81_L15t y x).2.1
def f81_L15_next (y : f81_L15_Y) (x : f81_L15_X) : f81_L15_X := (f81_L15t y x).2.2.1
def f81_L15_e1 (y : f81_L15_Y) (x : f81_L15_X) : Bool := (f81_L15t y x).2.2.2.1
def f81_L15_e6 (y : f81_L15_Y) (x : f81_L15_X) : Bool := (f81_L15t y x).2.2.2.2
instance (y : f81_L15_Y) (x : f81_L15_X) : Decidable (f81_L15_ok y x) := by
 unfold f81_L15_ok f81_L15t
 try dsimp only
 infer_instance
def f81_L15_x1_0 (y : f81_L15_Y) (x : f81_L15_X) : Int :=
 (2 : Int)
def f81_L15_l6 : List (Nat × Sh) := [(31, (.val (.sl (.sl T55)))), (32, vI), (33, vI)]
def f81_L15_spec : St → Option Out := loopS [(31, (.val (.sl (.sl T55)))), (32, vI), (33, vI), (37, (.val (.sl T55))), (38, vI)] [(39, vI)] f81_L15_g f81_L15_next f81_L15_ok fun y x => [ex 1 (some (f81_L15_e1 y x)) [(4, vI)] ((f81_L15_x1_0 y x), ()), ex 6 (some (f81_L15_e6 y x)) f81_L15_l6 (y.1, y.2.1, y.2.2.1, ())]
abbrev f81_L12_Y : Type := ((List (List D55)) × Int × Unit)
abbrev f81_L12_X : Type := (Int × Unit)
def f81_L12t (y : f81_L12_Y) (x : f81_L12_X) : Prop × Bool × f81_L12_X × Bool × Bool :=
 let a31 := y.1
 let a32 := y.2.1
 let a33 := x.1
 let v34 := (decide (a33 < a32))
 let v35 := (nth a31 a33 ([] : List D55))
 let y15 := (a31, a32, a33, v35, (len v35), ())
 let x15 := ((0 : Int), ())
 let e15 := (loopEnd (f81_L15_g y15) (f81_L15_next y15) x15)
 let q15_6 := (f81_L15_e6 y15 e15)
 ((v34 = true → (InB a33 (len a31) ∧ ((Am.Ends (f81_L15_g y15) (f81_L15_next y15) (f81_L15_ok y15) x15) ∧ (q15_6 = true → InR (a33 + 1))))), (v34 && q15_6), ((a33 + 1), ()), (v34 && (f81_L15_e1 y15 e15)), (!v34))
def f81_L12_ok (y : f81_L12_Y) (x : f81_L12_X) : Prop := (f81_L12t y x).1
def f81_L12_g (y : f81_L12_Y) (x : f81_L12_X) : Bool := (f81_L12t y x).2.1
def f81_L12_next (y : f81_L12_Y) (x : f81_L12_X) : f81_L12_X := (f81_L12t y x).2.2.1
def f81_L12_e1 (y : f81_L12_Y) (x : f81_L12_X) : Bool := (f81_L12t y x).2.2.2.1
def f81_L12_e4 (y : f81_L12_Y) (x : f81_L12_X) : Bool := (f81_L12t y x).2.2.2.2
instance (y : f81_L12_Y) (x : f81_L12_X) : Decidable (f81_L12_ok y x) := by
 unfold f81_L12_ok f81_L12t
 try dsimp only
 infer_instance
def f81_L12_x1_0 (y : f81_L12_Y) (x : f81_L12_X) : Int :=
 let a31 := y.1
 let a33 := x.1
 let v35 := (nth a31 a33 ([] : List D55))
 let y15 := (a31, y.2.1, a33, v35, (len v35), ())
 (f81_L15_x1_0 y15 (loopEnd (f81_L15_g y15) (f81_L15_next y15) ((0 : Int), ())))
def f81_L12_spec : St → Option Out := loopS [(31, (.val (.sl (.sl T55)))), (32, vI)] [(33, vI)] f81_L12_g f81_L12_next f81_L12_ok fun y x => [ex 1 (some (f81_L12_e1 y x)) [(4, vI)] ((f81_L12_x1_0 y x), ()), ex 4 (some (f81_L12_e4 y x)) [] ()]
def f81t (p0 : (List (List D55))) (p1 : Int) : Prop × Int :=
 let v17 := (bif (p1 != 0) then (p1 != 1) else false)
 let y5 := (p0, p0, (len p0), ())
 let x5 := ((0 : Int), (0 : Int), ())
 let e5 := (loopEnd (f81_L5_g y5) (f81_L5_next y5) x5)
 let y12 := (p0, (len p0), ())
 let x12 := ((0 : Int), ())
 let e12 := (loopEnd (f81_L12_g y12) (f81_L12_next y12) x12)
 (((!v17) = true → ((Am.Ends (f81_L5_g y5) (f81_L5_next y5) (f81_L5_ok y5) x5) ∧ ((f81_L5_e2 y5 e5) = true → (Am.Ends (f81_L12_g y12) (f81_L12_next y12) (f81_L12_ok y12) x12)))), (bif v17 then (8 : Int) else (bif (f81_L5_e1 y5 e5) then (f81_L5_x1_0 y5 e5) else (bif (f81_L12_e1 y12 e12) then (f81_L12_x1_0 y12 e12) else (0 : Int)))))
def f81_ok (p0 : (List (List D55))) (p1 : Int) : Prop := (f81t p0 p1).1
def f81 (p0 : (List (List D55))) (p1 : Int) : Int := (f81t p0 p1).2
instance (p0 : (List (List D55))) (p1 : Int) : Decidable (f81_ok p0 p1) := by
 unfold f81_ok f81t
 try dsimp only
 infer_instance
def f81_spec : Am.Spec := fnSpec [(0, (.val (.sl (.sl T55)))), (1, vI)] vI [] (fun x => f81_ok x.1 x.2.1) (fun x => f81 x.1 x.2.1) (fun _ => ())
def f81_ctx : Ctx := Cx tys [] [(5, f81_L5_spec), (15, f81_L15_spec), (12, f81_L12_spec)] [] false 63 [] []
theorem f81_cok : CtxOk Tryz.prog f81_ctx := ctxOk_mk tys_ok rfl trivial rfl (by kernel_rfl)
noncomputable def f81_code : Code := Tryz.f81.body.getD .skip
noncomputable def f81_L5 : Code := nthLoop f81_code 0
theorem f81_L5_is : LoopSnd Tryz.prog f81_ctx f81_L5 := lgen f81_cok mixed (sp := f81_L5_spec) rfl [[(4, vI)], [(0, (.val (.sl (.sl T55))))]] (bs := []) (by kernel_rfl) trivial (by kernel_rfl) (by kernel_rfl) fun y x => by kernel_rfl
noncomputable def f81_L12 : Code := nthLoop f81_code 1
noncomputable def f81_L15 : Code := nthLoop f81_L12 0
theorem f81_L15_is : LoopSnd Tryz.prog f81_ctx f81_L15 := lgen f81_cok mixed (sp := f81_L15_spec) rfl [[(4, vI)], f81_L15_l6] (bs := []) (by kernel_rfl) trivial (by kernel_rfl) (by kernel_rfl) fun y x => by kernel_rfl
theorem f81_L12_is : LoopSnd Tryz.prog f81_ctx f81_L12 := lgen f81_cok mixed (sp := f81_L12_spec) rfl [[(4, vI)], []] (bs := [f81_L15]) (by kernel_rfl) ⟨f81_L15_is, trivial⟩ (by kernel_rfl) (by kernel_rfl) fun y x => by kernel_rfl
theorem f81_is : SpecOk Tryz.prog 81 f81_spec := fgen f81_cok mixed Tryz.func81 (by kernel_rfl) (bs := [f81_L5, f81_L12]) (by kernel_rfl) ⟨f81_L5_is, f81_L12_is, trivial⟩ fun x => by kernel_rfl
def f99t (p0 : Int) (p1 : Int) (p2 : Int) : Prop × Int :=
 let m6_2 := (bif (bif (decide (p0 < 1)) then true else (decide (p0 > 4096))) then (2 : Int) else (bif (bif (decide (p1 < 0)) then true else (decide (p1 > 2))) then (8 : Int) else (bif (bif (decide (p2 < 0)) then true else (decide (p2 > 2))) then (8 : Int) else (0 : Int))))
 (True, m6_2)
def f99_ok (p0 : Int) (p1 : Int) (p2 : Int) : Prop := (f99t p0 p1 p2).1
def f99 (p0 : Int) (p1 : Int) (p2 : Int) : Int := (f99t p0 p1 p2).2
instance (p0 : Int) (p1 : Int) (p2 : Int) : Decidable (f99_ok p0 p1 p2) := by
 unfold f99_ok f99t
 try dsimp only
 infer_instance
def f99_spec : Am.Spec := fnSpec [(0, vI), (1, vI), (2, vI)] vI [] (fun x => f99_ok x.1 x.2.1 x.2.2.1) (fun x => f99 x.1 x.2.1 x.2.2.1) (fun _ => ())
def f99_ctx : Ctx := Cx tys [] [] [] false 25 [] []
theorem f99_cok : CtxOk Tryz.prog f99_ctx := ctxOk_mk tys_ok rfl trivial rfl (by kernel_rfl)
theorem f99_is : SpecOk Tryz.prog 99 f99_spec := fgen f99_cok mixed Tryz.func99 (by kernel_rfl) (bs := []) (by kernel_rfl) trivial fun x => by kernel_rfl
abbrev f112_L3_Y : Type := (Bool × (List D55) × Int × Unit)
abbrev f112_L3_X : Type := ((List D55) × Int × Unit)
def f112_L3t (y : f112_L3_Y) (x : f112_L3_X) : Prop × Bool × f112_L3_X :=
 let a8 := y.2.1
 let a5 := x.1
 let a10 := x.2.1
 let v11 := (decide (a10 < y.2.2.1))
 let v12 := (nth a8 a10 Z55)
 let v16 := ((len a5) == 0)
 let v21 := (len a5)
 let v22 := (v21 - 1)
 let v26 := (bif v16 then true else (!(Ty.eqb T55 v12 (nth a5 v22 Z55))))
 let v29 := ([v12] : List D55)
 ((v11 = true → (InB a10 (len a8) ∧ (((!v16) = true → InR (v21 - 1)) ∧ (((!v16) = true → InB v22 (len a5)) ∧ ((v26 = true → ((List.length a5 + List.length v29 : Nat) : Int) ≤ 4294967296) ∧ InR (a10 + 1)))))), v11, ((bif v26 then (a5 ++ v29) else a5), (a10 + 1), ()))
def f112_L3_ok (y : f112_L3_Y) (x : f112_L3_X) : Prop := (f112_L3t y x).1
def f112_L3_g (y : f112_L3_Y) (x : f112_L3_X) : Bool := (f112_L3t y x).2.1
def f112_L3_next (y : f112_L3_Y) (x : f112_L3_X) : f112_L3_X := (f112_L3t y x).2.2
instance (y : f112_L3_Y) (x : f112_L3_X) : Decidable (f112_L3_ok y x) := by
 unfold f112_L3_ok f112_L3t
 try dsimp only
 infer_instance
def f112_L3_x2_0 (y : f112_L3_Y) (x : f112_L3_X) : (List D55) :=
 x.1
def f112_L3_l2 : List (Nat × Sh) := [(1, vB), (5, (.own T55 1005 false))]
def f112_L3_spec : St → Option Out := loopS [(1, vB), (8, (.val (.sl T55))), (9, vI)] [(5, (.own T55 1005 false)), (10, vI)] f112_L3_g f112_L3_next f112_L3_ok fun y x => [ex 2 none f112_L3_l2 (y.1, (f112_L3_x2_0 y x), ())]
abbrev f112_L8_Y : Type := (Bool × Unit)
abbrev f112_L8_X : Type := ((List D55) × Unit)
def f112_L8t (y : f112_L8_Y) (x : f112_L8_X) : Prop × Bool × f112_L8_X :=
 let a5 := x.1
 let v38 := (bif (!y.1) then (decide ((len a5) > 1)) else false)
 let v42 := (len a5)
 let v43 := (v42 - 1)
 let v50 := (bif v38 then (Ty.eqb T55 (nth a5 v43 Z55) (nth a5 (0 : Int) Z55)) else false)
 let v53 := (len a5)
 let v54 := (v53 - 1)
 (((v38 = true → InR (v42 - 1)) ∧ ((v38 = true → InB v43 (len a5)) ∧ ((v38 = true → InB (0 : Int) (len a5)) ∧ (v50 = true → (InR (v53 - 1) ∧ (0 ≤ v54 ∧ v54 ≤ len a5)))))), v50, ((List.take (Int.toNat v54) a5), ()))
def f112_L8_ok (y : f112_L8_Y) (x : f112_L8_X) : Prop := (f112_L8t y x).1
def f112_L8_g (y : f112_L8_Y) (x : f112_L8_X) : Bool := (f112_L8t y x).2.1
def f112_L8_next (y : f112_L8_Y) (x : f112_L8_X) : f112_L8_X := (f112_L8t y x).2.2
instance (y : f112_L8_Y) (x : f112_L8_X) : Decidable (f112_L8_ok y x) := by
 unfold f112_L8_ok f112_L8t
 try dsimp only
 infer_instance
def f112_L8_x4_0 (y : f112_L8_Y) (x : f112_L8_X) : (List D55) :=
 x.1
def f112_L8_spec : St → Option Out := loopS [(1, vB)] [(5, (.val (.sl T55)))] f112_L8_g f112_L8_next f112_L8_ok fun y x => [ex 4 none [(5, (.val (.sl T55)))] ((f112_L8_x4_0 y x), ())]
def f112t (p0 : (List D55)) (p1 : Bool) : Prop × (List D55) :=
 let y3 := (p1, p0, (len p0), ())
 let x3 := (([] : List D55), (0 : Int), ())
 let y8 := (p1, ())
 let x8 := ((f112_L3_x2_0 y3 (loopEnd (f112_L3_g y3) (f112_L3_next y3) x3)), ())
 (((Am.Ends (f112_L3_g y3) (f112_L3_next y3) (f112_L3_ok y3) x3) ∧ (Am.Ends (f112_L8_g y8) (f112_L8_next y8) (f112_L8_ok y8) x8)), (f112_L8_x4_0 y8 (loopEnd (f112_L8_g y8) (f112_L8_next y8) x8)))
def f112_ok (p0 : (List D55)) (p1 : Bool) : Prop := (f112t p0 p1).1
def f112 (p0 : (List D55)) (p1 : Bool) : (List D55) := (f112t p0 p1).2
instance (p0 : (List D55)) (p1 : Bool) : Decidable (f112_ok p0 p1) := by
 unfold f112_ok f112t
 try dsimp only
 infer_instance
def f112_spec : Am.Spec := fnSpec [(0, (.val (.sl T55))), (1, vB)] (.val (.sl T55)) [] (fun x => f112_ok x.1 x.2.1) (fun x => f112 x.1 x.2.1) (fun _ => ())
def f112_ctx : Ctx := Cx tys [] [(3, f112_L3_spec), (8, f112_L8_spec)] [(13, [(4, 0, 30, 1005)])] false 57 [] []
theorem f112_cok : CtxOk Tryz.prog f112_ctx := ctxOk_mk tys_ok rfl trivial rfl (by kernel_rfl)
noncomputable def f112_code : Code := Tryz.f112.body.getD .skip
noncomputable def f112_L3 : Code := nthLoop f112_code 0
theorem f112_L3_is : LoopSnd Tryz.prog f112_ctx f112_L3 := lgen f112_cok mixed (sp := f112_L3_spec) rfl [f112_L3_l2] (bs := []) (by kernel_rfl) trivial (by kernel_rfl) (by kernel_rfl) fun y x => by kernel_rfl
noncomputable def f112_L8 : Code := nthLoop f112_code 1
theorem f112_L8_is : LoopSnd Tryz.prog f112_ctx f112_L8 := lgen f112_cok mixed (sp := f112_L8_spec) rfl [[(5, (.val (.sl T55)))]] (bs := []) (by kernel_rfl) trivial (by kernel_rfl) (by kernel_rfl) fun y x => by kernel_rfl
theorem f112_is : SpecOk Tryz.prog 112 f112_spec := fgen f112_cok mixed Tryz.func112 (by kernel_rfl) (bs := [f112_L3, f112_L8]) (by kernel_rfl) ⟨f112_L3_is, f112_L8_is, trivial⟩ fun x => by kernel_rfl
def f117t (p0 : D55) (p1 : D55) : Prop × D55 :=
 (True, ((IntKind.wrap .i64 (p0.1 - p1.1)), (IntKind.wrap .i64 (p0.2.1 - p1.2.1)), ()))
def f117_ok (p0 : D55) (p1 : D55) : Prop := (f117t p0 p1).1
def f117 (p0 : D55) (p1 : D55) : D55 := (f117t p0 p1).2
instance (p0 : D55) (p1 : D55) : Decidable (f117_ok p0 p1) := by
 unfold f117_ok f117t
 try dsimp only
 infer_instance
def f117_spec : Am.Spec := fnSpec [(0, (.val T55)), (1, (.val T55))] (.val T55) [] (fun x => f117_ok x.1 x.2.1) (fun x => f117 x.1 x.2.1) (fun _ => ())
def f117_ctx : Ctx := Cx tys [] [] [] true 16 [] []
theorem f117_cok : CtxOk Tryz.prog f117_ctx := ctxOk_mk tys_ok rfl trivial rfl (by kernel_rfl)
theorem f117_is : SpecOk Tryz.prog 117 f117_spec := fgen f117_cok mixed Tryz.func117 (by kernel_rfl) (bs := []) (by kernel_rfl) trivial fun x => by kernel_rfl
def f142t (p0 : Int) (p1 : Int) : Prop × (Int × Int × Unit) :=
 let v15 := (iand .u64 p0 (4294967295 : Int))
 let v17 := (ishr p0 (32 : Int) 64)
 let v19 := (iand .u64 p1 (4294967295 : Int))
 let v21 := (ishr p1 (32 : Int) 64)
 let v30 := (IntKind.wrap .u64 ((IntKind.wrap .u64 (v17 * v19)) + (ishr (IntKind.wrap .u64 (v15 * v19)) (32 : Int) 64)))
 let v47 := (IntKind.wrap .u64 ((IntKind.wrap .u64 ((IntKind.wrap .u64 (v17 * v21)) + (ishr v30 (32 : Int) 64))) + (ishr (IntKind.wrap .u64 ((iand .u64 v30 (4294967295 : Int)) + (IntKind.wrap .u64 (v15 * v21)))) (32 : Int) 64)))
 (True, (v47, (IntKind.wrap .u64 (p0 * p1)), ()))
def f142_ok (p0 : Int) (p1 : Int) : Prop := (f142t p0 p1).1
def f142 (p0 : Int) (p1 : Int) : (Int × Int × Unit) := (f142t p0 p1).2
instance (p0 : Int) (p1 : Int) : Decidable (f142_ok p0 p1) := by
 unfold f142_ok f142t
 try dsimp only
 infer_instance
def f142_spec : Am.Spec := fnSpec [(0, (.val (.int .u64))), (1, (.val (.int .u64)))] (.tup (.cons (.val (.int .u64)) (.cons (.val (.int .u64)) .nl))) [] (fun x => f142_ok x.1 x.2.1) (fun x => f142 x.1 x.2.1) (fun _ => ())
def f142_ctx : Ctx := Cx tys [] [] [] true 51 [] []
theorem f142_cok : CtxOk Tryz.prog f142_ctx := ctxOk_mk tys_ok rfl trivial rfl (by kernel_rfl)
theorem f142_is : SpecOk Tryz.prog 142 f142_spec := fgen f142_cok mixed Tryz.func142 (by kernel_rfl) (bs := []) (by kernel_rfl) trivial fun x => by kernel_rfl
def f143t (p0 : Int) : Prop × Int :=
 (True, (bif (decide (p0 < 0)) then (IntKind.wrap .u64 (Int.sub 0 (IntKind.wrap .u64 p0))) else (IntKind.wrap .u64 p0)))
def f143_ok (p0 : Int) : Prop := (f143t p0).1
def f143 (p0 : Int) : Int := (f143t p0).2
instance (p0 : Int) : Decidable (f143_ok p0) := by
 unfold f143_ok f143t
 try dsimp only
 infer_instance
def f143_spec : Am.Spec := fnSpec [(0, vI)] (.val (.int .u64)) [] (fun x => f143_ok x.1) (fun x => f143 x.1) (fun _ => ())
def f143_ctx : Ctx := Cx tys [] [] [] true 10 [] []
theorem f143_cok : CtxOk Tryz.prog f143_ctx := ctxOk_mk tys_ok rfl trivial rfl (by kernel_rfl)
theorem f143_is : SpecOk Tryz.prog 143 f143_spec := fgen f143_cok mixed Tryz.func143 (by kernel_rfl) (bs := []) (by kernel_rfl) trivial fun x => by kernel_rfl
abbrev f134_L7_Y : Type := (Int × Int × Unit)
abbrev f134_L7_X : Type := (Int × Int × Unit)
def f134_L7t (y : f134_L7_Y) (x : f134_L7_X) : Prop × Bool × f134_L7_X :=
 let a5 := y.1
 let a10 := x.1
 let a11 := x.2.1
 let v43 := (a11 != 0)
 let v48 := (ior .u64 a10 a11)
 let v52 := (f142 v48 v48)
 ((v43 = true → (f142_ok v48 v48)), v43, ((bif (bif (decide (v52.1 < a5)) then true else (bif (v52.1 == a5) then (decide (v52.2.1 ≤ y.2.1)) else false)) then v48 else a10), (ishr a11 (1 : Int) 64), ()))
def f134_L7_ok (y : f134_L7_Y) (x : f134_L7_X) : Prop := (f134_L7t y x).1
def f134_L7_g (y : f134_L7_Y) (x : f134_L7_X) : Bool := (f134_L7t y x).2.1
def f134_L7_next (y : f134_L7_Y) (x : f134_L7_X) : f134_L7_X := (f134_L7t y x).2.2
instance (y : f134_L7_Y) (x : f134_L7_X) : Decidable (f134_L7_ok y x) := by
 unfold f134_L7_ok f134_L7t
 try dsimp only
 infer_instance
def f134_L7_x2_0 (y : f134_L7_Y) (x : f134_L7_X) : Int :=
 x.1
def f134_L7_spec : St → Option Out := loopS [(5, (.val (.int .u64))), (6, (.val (.int .u64)))] [(10, (.val (.int .u64))), (11, (.val (.int .u64)))] f134_L7_g f134_L7_next f134_L7_ok fun y x => [ex 2 none [(10, (.val (.int .u64)))] ((f134_L7_x2_0 y x), ())]
def f134t (p0 : Int) (p1 : Int) : Prop × Int :=
 let v15 := (f143 p0)
 let v17 := (f143 p0)
 let v18 := (f142 v15 v17)
 let v23 := (f143 p1)
 let v25 := (f143 p1)
 let v26 := (f142 v23 v25)
 let v34 := (((Int.toNat v18.2.1 + Int.toNat v26.2.1 + Int.toNat (0 : Int)) / 18446744073709551616 : Nat) : Int)
 let y7 := ((((Int.toNat v18.1 + Int.toNat v26.1 + Int.toNat v34) % 18446744073709551616 : Nat) : Int), (((Int.toNat v18.2.1 + Int.toNat v26.2.1 + Int.toNat (0 : Int)) % 18446744073709551616 : Nat) : Int), ())
 let x7 := ((0 : Int), (9223372036854775808 : Int), ())
 let r7_2_0 := (f134_L7_x2_0 y7 (loopEnd (f134_L7_g y7) (f134_L7_next y7) x7))
 (((f143_ok p0) ∧ ((f143_ok p0) ∧ ((f142_ok v15 v17) ∧ ((f143_ok p1) ∧ ((f143_ok p1) ∧ ((f142_ok v23 v25) ∧ ((0 ≤ (0 : Int) ∧ (0 : Int) ≤ 1) ∧ ((0 ≤ v34 ∧ v34 ≤ 1) ∧ (Am.Ends (f134_L7_g y7) (f134_L7_next y7) (f134_L7_ok y7) x7))))))))), (bif (decide (r7_2_0 > 9223372036854775807)) then (9223372036854775807 : Int) else (IntKind.wrap .i64 r7_2_0)))
def f134_ok (p0 : Int) (p1 : Int) : Prop := (f134t p0 p1).1
def f134 (p0 : Int) (p1 : Int) : Int := (f134t p0 p1).2
instance (p0 : Int) (p1 : Int) : Decidable (f134_ok p0 p1) := by
 unfold f134_ok f134t
 try dsimp only
 infer_instance
def f134_spec : Am.Spec := fnSpec [(0, vI), (1, vI)] vI [] (fun x => f134_ok x.1 x.2.1) (fun x => f134 x.1 x.2.1) (fun _ => ())
def f134_ctx : Ctx := { Cx tys [(142, f142_spec), (143, f143_spec)] [(7, f134_L7_spec)] [] true 73 [] [] with exts := [(144, extAdd64)] }
theorem f134_cok : CtxOk Tryz.prog f134_ctx := ctxOk_mkE tys_ok rfl ⟨f142_is, f143_is, trivial⟩ ⟨x144_ok, trivial⟩ (by kernel_rfl)
noncomputable def f134_code : Code := Tryz.f134.body.getD .skip
noncomputable def f134_L7 : Code := nthLoop f134_code 0
theorem f134_L7_is : LoopSnd Tryz.prog f134_ctx f134_L7 := lgen f134_cok mixed (sp := f134_L7_spec) rfl [[(10, (.val (.int .u64)))]] (bs := []) (by kernel_rfl) trivial (by kernel_rfl) (by kernel_rfl) fun y x => by kernel_rfl
theorem f134_is : SpecOk Tryz.prog 134 f134_spec := fgen f134_cok mixed Tryz.func134 (by kernel_rfl) (bs := [f134_L7]) (by kernel_rfl) ⟨f134_L7_is, trivial⟩ fun x => by kernel_rfl
def f130t (p0 : D55) (p1 : D55) (p2 : Int) : Prop × D156 :=
 let v11 := (f117 p1 p0)
 let v14 := (IntKind.wrap .i64 (16 * v11.1))
 let v17 := (IntKind.wrap .i64 (16 * v11.2.1))
 let v18 := (f134 v14 v17)
 let v26 := (IntKind.wrap .i64 ((IntKind.wrap .i64 ((-8) * p2)) * v11.2.1))
 let v33 := (IntKind.wrap .i64 ((IntKind.wrap .i64 (8 * p2)) * v11.1))
 let v41 := (IntKind.wrap .i64 ((IntKind.wrap .i64 (8 * p2)) * v11.1))
 let v48 := (IntKind.wrap .i64 ((IntKind.wrap .i64 (8 * p2)) * v11.2.1))
 (((f117_ok p1 p0) ∧ ((f134_ok v14 v17) ∧ ((f52_ok v26 v18) ∧ ((f52_ok v33 v18) ∧ ((f52_ok v41 v18) ∧ (f52_ok v48 v18)))))), (p0, p1, v11, ((f52 v26 v18), (f52 v33 v18), ()), ((f52 v41 v18), (f52 v48 v18), ()), ()))
def f130_ok (p0 : D55) (p1 : D55) (p2 : Int) : Prop := (f130t p0 p1 p2).1
def f130 (p0 : D55) (p1 : D55) (p2 : Int) : D156 := (f130t p0 p1 p2).2
instance (p0 : D55) (p1 : D55) (p2 : Int) : Decidable (f130_ok p0 p1 p2) := by
 unfold f130_ok f130t
 try dsimp only
 infer_instance
def f130_spec : Am.Spec := fnSpec [(0, (.val T55)), (1, (.val T55)), (2, vI)] (.val T156) [] (fun x => f130_ok x.1 x.2.1 x.2.2.1) (fun x => f130 x.1 x.2.1 x.2.2.1) (fun _ => ())
def f130_ctx : Ctx := Cx tys [(52, f52_spec), (117, f117_spec), (134, f134_spec)] [] [] true 53 [] []
theorem f130_cok : CtxOk Tryz.prog f130_ctx := ctxOk_mk tys_ok rfl ⟨f52_is, f117_is, f134_is, trivial⟩ rfl (by kernel_rfl)
theorem f130_is : SpecOk Tryz.prog 130 f130_spec := fgen f130_cok mixed Tryz.func130 (by kernel_rfl) (bs := []) (by kernel_rfl) trivial fun x => by kernel_rfl
abbrev f113_L3_Y : Type := ((List D55) × Bool × Int × Unit)
abbrev f113_L3_X : Type := ((List D156) × Int × Unit)
def f113_L3t (y : f113_L3_Y) (x : f113_L3_X) : Prop × Bool × f113_L3_X :=
 let a0 := y.1
 let a2 := y.2.2.1
 let a7 := x.1
 let a8 := x.2.1
 let v12 := (decide (a8 < (len a0)))
 let v18 := (a8 - 1)
 let v19 := (nth a0 v18 Z55)
 let v23 := (nth a0 a8 Z55)
 let v27 := ([(f130 v19 v23 a2)] : List D156)
 ((v12 = true → (InR (a8 - 1) ∧ (InB v18 (len a0) ∧ (InB a8 (len a0) ∧ ((f130_ok v19 v23 a2) ∧ (((List.length a7 + List.length v27 : Nat) : Int) ≤ 4294967296 ∧ InR (a8 + 1))))))), v12, ((a7 ++ v27), (a8 + 1), ()))
def f113_L3_ok (y : f113_L3_Y) (x : f113_L3_X) : Prop := (f113_L3t y x).1
def f113_L3_g (y : f113_L3_Y) (x : f113_L3_X) : Bool := (f113_L3t y x).2.1
def f113_L3_next (y : f113_L3_Y) (x : f113_L3_X) : f113_L3_X := (f113_L3t y x).2.2
instance (y : f113_L3_Y) (x : f113_L3_X) : Decidable (f113_L3_ok y x) := by
 unfold f113_L3_ok f113_L3t
 try dsimp only
 infer_instance
def f113_L3_x2_0 (y : f113_L3_Y) (x : f113_L3_X) : (List D156) :=
 x.1
def f113_L3_l2 : List (Nat × Sh) := [(0, (.val (.sl T55))), (1, vB), (2, vI), (7, (.own T156 1007 false))]
def f113_L3_spec : St → Option Out := loopS [(0, (.val (.sl T55))), (1, vB), (2, vI)] [(7, (.own T156 1007 false)), (8, vI)] f113_L3_g f113_L3_next f113_L3_ok fun y x => [ex 2 none f113_L3_l2 (y.1, y.2.1, y.2.2.1, (f113_L3_x2_0 y x), ())]
def f113t (p0 : (List D55)) (p1 : Bool) (p2 : Int) : Prop × (List D156) :=
 let y3 := (p0, p1, p2, ())
 let x3 := (([] : List D156), (1 : Int), ())
 let r3_2_0 := (f113_L3_x2_0 y3 (loopEnd (f113_L3_g y3) (f113_L3_next y3) x3))
 let v35 := (bif (!p1) then (decide ((len p0) > 1)) else false)
 let v39 := (len p0)
 let v40 := (v39 - 1)
 let v41 := (nth p0 v40 Z55)
 let v44 := (nth p0 (0 : Int) Z55)
 let v48 := ([(f130 v41 v44 p2)] : List D156)
 (((Am.Ends (f113_L3_g y3) (f113_L3_next y3) (f113_L3_ok y3) x3) ∧ (v35 = true → (InR (v39 - 1) ∧ (InB v40 (len p0) ∧ (InB (0 : Int) (len p0) ∧ ((f130_ok v41 v44 p2) ∧ ((List.length r3_2_0 + List.length v48 : Nat) : Int) ≤ 4294967296)))))), (bif v35 then (r3_2_0 ++ v48) else r3_2_0))
def f113_ok (p0 : (List D55)) (p1 : Bool) (p2 : Int) : Prop := (f113t p0 p1 p2).1
def f113 (p0 : (List D55)) (p1 : Bool) (p2 : Int) : (List D156) := (f113t p0 p1 p2).2
instance (p0 : (List D55)) (p1 : Bool) (p2 : Int) : Decidable (f113_ok p0 p1 p2) := by
 unfold f113_ok f113t
 try dsimp only
 infer_instance
def f113_spec : Am.Spec := fnSpec [(0, (.val (.sl T55))), (1, vB), (2, vI)] (.own T156 0 false) [] (fun x => f113_ok x.1 x.2.1 x.2.2.1) (fun x => f113 x.1 x.2.1 x.2.2.1) (fun _ => ())
def f113_ctx : Ctx := Cx tys [(130, f130_spec)] [(3, f113_L3_spec)] [(11, [(4, 0, 28, 1007)]), (15, [(4, 0, 49, 1007)]), (17, [(4, 0, 1007, 0)])] false 51 [] []
theorem f113_cok : CtxOk Tryz.prog f113_ctx := ctxOk_mk tys_ok rfl ⟨f130_is, trivial⟩ rfl (by kernel_rfl)
noncomputable def f113_code : Code := Tryz.f113.body.getD .skip
noncomputable def f113_L3 : Code := nthLoop f113_code 0
theorem f113_L3_is : LoopSnd Tryz.prog f113_ctx f113_L3 := lgen f113_cok mixed (sp := f113_L3_spec) rfl [f113_L3_l2] (bs := []) (by kernel_rfl) trivial (by kernel_rfl) (by kernel_rfl) fun y x => by kernel_rfl
theorem f113_is : SpecOk Tryz.prog 113 f113_spec := fgen f113_cok mixed Tryz.func113 (by kernel_rfl) (bs := [f113_L3]) (by kernel_rfl) ⟨f113_L3_is, trivial⟩ fun x => by kernel_rfl
abbrev f132_L3_Y : Type := ((List D55) × (List D55) × Int × Unit)
abbrev f132_L3_X : Type := (Int × Int × Unit)
def f132_L3t (y : f132_L3_Y) (x : f132_L3_X) : Prop × Bool × f132_L3_X :=
 let a0 := y.1
 let a7 := y.2.1
 let a9 := x.2.1
 let v10 := (decide (a9 < y.2.2.1))
 let v12 := (nth a7 a9 Z55)
 let v18 := (len a0)
 let v19 := (Int.tmod (IntKind.wrap .i64 (a9 + 1)) v18)
 let v20 := (nth a0 v19 Z55)
 ((v10 = true → (InB a9 (len a7) ∧ (v18 ≠ 0 ∧ InB v19 (len a0)))), v10, ((IntKind.wrap .i64 (x.1 + (IntKind.wrap .i64 ((IntKind.wrap .i64 (v12.1 * v20.2.1)) - (IntKind.wrap .i64 (v20.1 * v12.2.1)))))), (IntKind.wrap .i64 (a9 + 1)), ()))
def f132_L3_ok (y : f132_L3_Y) (x : f132_L3_X) : Prop := (f132_L3t y x).1
def f132_L3_g (y : f132_L3_Y) (x : f132_L3_X) : Bool := (f132_L3t y x).2.1
def f132_L3_next (y : f132_L3_Y) (x : f132_L3_X) : f132_L3_X := (f132_L3t y x).2.2
instance (y : f132_L3_Y) (x : f132_L3_X) : Decidable (f132_L3_ok y x) := by
 unfold f132_L3_ok f132_L3t
 try dsimp only
 infer_instance
def f132_L3_x2_0 (y : f132_L3_Y) (x : f132_L3_X) : Int :=
 x.1
def f132_L3_spec : St → Option Out := loopS [(0, (.val (.sl T55))), (7, (.val (.sl T55))), (8, vI)] [(3, vI), (9, vI)] f132_L3_g f132_L3_next f132_L3_ok fun y x => [ex 2 none [(3, vI)] ((f132_L3_x2_0 y x), ())]
def f132t (p0 : (List D55)) : Prop × Int :=
 let y3 := (p0, p0, (len p0), ())
 let x3 := ((0 : Int), (0 : Int), ())
 ((Am.Ends (f132_L3_g y3) (f132_L3_next y3) (f132_L3_ok y3) x3), (f132_L3_x2_0 y3 (loopEnd (f132_L3_g y3) (f132_L3_next y3) x3)))
def f132_ok (p0 : (List D55)) : Prop := (f132t p0).1
def f132 (p0 : (List D55)) : Int := (f132t p0).2
instance (p0 : (List D55)) : Decidable (f132_ok p0) := by
 unfold f132_ok f132t
 try dsimp only
 infer_instance
def f132_spec : Am.Spec := fnSpec [(0, (.val (.sl T55)))] vI [] (fun x => f132_ok x.1) (fun x => f132 x.1) (fun _ => ())
def f132_ctx : Ctx := Cx tys [] [(3, f132_L3_spec)] [] true 37 [] []
theorem f132_cok : CtxOk Tryz.prog f132_ctx := ctxOk_mk tys_ok rfl trivial rfl (by kernel_rfl)
noncomputable def f132_code : Code := Tryz.f132.body.getD .skip
noncomputable def f132_L3 : Code := nthLoop f132_code 0
theorem f132_L3_is : LoopSnd Tryz.prog f132_ctx f132_L3 := lgen f132_cok mixed (sp := f132_L3_spec) rfl [[(3, vI)]] (bs := []) (by kernel_rfl) trivial (by kernel_rfl) (by kernel_rfl) fun y x => by kernel_rfl
theorem f132_is : SpecOk Tryz.prog 132 f132_spec := fgen f132_cok mixed Tryz.func132 (by kernel_rfl) (bs := [f132_L3]) (by kernel_rfl) ⟨f132_L3_is, trivial⟩ fun x => by kernel_rfl
def f133 (_p0 : (List D55)) : Unit := ()
def f133_o (p0 : (List D55)) : (List D55) × Unit := (List.reverse p0, ())
def f133_ok (_p0 : (List D55)) : Prop := True
instance (p0 : (List D55)) : Decidable (f133_ok p0) := isTrue trivial
def f133_ps : List (Nat × Sh) := [(0, (.own T55 400000 true))]
def f133_rs : Sh := (.tup .nl)
def f133_os : List (Nat × Sh) := [(0, (.own T55 400000 true))]
def f133_spec : Am.Spec := fnSpec f133_ps f133_rs f133_os (fun x => f133_ok x.1) (fun x => f133 x.1) (fun x => f133_o x.1)
theorem f133_is : SpecOk Tryz.prog 133 f133_spec := spec_rev (by decide) rfl ⟨_, Tryz.func133, by kernel_rfl, by decide⟩ rev_ok
def f116t (p0 : D55) (p1 : D55) : Prop × D55 :=
 (True, ((IntKind.wrap .i64 (p0.1 + p1.1)), (IntKind.wrap .i64 (p0.2.1 + p1.2.1)), ()))
def f116_ok (p0 : D55) (p1 : D55) : Prop := (f116t p0 p1).1
def f116 (p0 : D55) (p1 : D55) : D55 := (f116t p0 p1).2
instance (p0 : D55) (p1 : D55) : Decidable (f116_ok p0 p1) := by
 unfold f116_ok f116t
 try dsimp only
 infer_instance
def f116_spec : Am.Spec := fnSpec [(0, (.val T55)), (1, (.val T55))] (.val T55) [] (fun x => f116_ok x.1 x.2.1) (fun x => f116 x.1 x.2.1) (fun _ => ())
def f116_ctx : Ctx := Cx tys [] [] [] true 16 [] []
theorem f116_cok : CtxOk Tryz.prog f116_ctx := ctxOk_mk tys_ok rfl trivial rfl (by kernel_rfl)
theorem f116_is : SpecOk Tryz.prog 116 f116_spec := fgen f116_cok mixed Tryz.func116 (by kernel_rfl) (bs := []) (by kernel_rfl) trivial fun x => by kernel_rfl
def f157t (p0 : Int) : Prop × Int :=
 let v5 := (IntKind.wrap .i64 (Int.tdiv p0 (256 : Int)))
 let v7 := (decide (v5 ≥ 64))
 let v14 := (IntKind.wrap .i64 (v5 + 1))
 let v25 := (IntKind.wrap .i64 ((IntKind.wrap .i64 ((nth G5 v14 (0 : Int)) - (nth G5 v5 (0 : Int)))) * (IntKind.wrap .i64 (p0 - (IntKind.wrap .i64 (256 * v5))))))
 (((v7 = true → InB (64 : Int) 65) ∧ ((!v7) = true → (InB v5 65 ∧ (InB v14 65 ∧ (InB v5 65 ∧ (f52_ok v25 (256 : Int))))))), (bif v7 then (nth G5 (64 : Int) (0 : Int)) else (IntKind.wrap .i64 ((nth G5 v5 (0 : Int)) + (f52 v25 (256 : Int))))))
def f157_ok (p0 : Int) : Prop := (f157t p0).1
def f157 (p0 : Int) : Int := (f157t p0).2
instance (p0 : Int) : Decidable (f157_ok p0) := by
 unfold f157_ok f157t
 try dsimp only
 infer_instance
def f157_spec : Am.Spec := fnSpec [(0, vI)] vI [] (fun x => f157_ok x.1) (fun x => f157 x.1) (fun _ => ())
def f157_ctx : Ctx := Cx tys [(52, f52_spec)] [] [] true 28 [] []
theorem f157_cok : CtxOk Tryz.prog f157_ctx := ctxOk_mk tys_ok rfl ⟨f52_is, trivial⟩ rfl (by kernel_rfl)
theorem f157_is : SpecOk Tryz.prog 157 f157_spec := fgen f157_cok mixed Tryz.func157 (by kernel_rfl) (bs := []) (by kernel_rfl) trivial fun x => by kernel_rfl
def f152t (p0 : Int) : Prop × Int :=
 let v6 := (IntKind.wrap .i64 (Int.tdiv p0 (16384 : Int)))
 let v10 := (IntKind.wrap .i64 (p0 - (IntKind.wrap .i64 (16384 * v6))))
 let v13 := (v6 == 0)
 let v17 := (v6 == 1)
 let v19 := (IntKind.wrap .i64 (16384 - v10))
 let v22 := (v6 == 2)
 let v27 := (IntKind.wrap .i64 (16384 - v10))
 let m2_2 := (bif (bif v13 then true else (bif v17 then true else v22)) then (bif v13 then (f157 v10) else (bif v17 then (f157 v19) else (IntKind.wrap .i64 (Int.sub 0 (f157 v10))))) else (IntKind.wrap .i64 (Int.sub 0 (f157 v27))))
 (((v13 = true → (f157_ok v10)) ∧ ((v13 = false → ((v17 = true → (f157_ok v19)) ∧ (v17 = false → (v22 = true → (f157_ok v10))))) ∧ ((((!v22) && (!v17)) && (!v13)) = true → (f157_ok v27)))), m2_2)
def f152_ok (p0 : Int) : Prop := (f152t p0).1
def f152 (p0 : Int) : Int := (f152t p0).2
instance (p0 : Int) : Decidable (f152_ok p0) := by
 unfold f152_ok f152t
 try dsimp only
 infer_instance
def f152_spec : Am.Spec := fnSpec [(0, vI)] vI [] (fun x => f152_ok x.1) (fun x => f152 x.1) (fun _ => ())
def f152_ctx : Ctx := Cx tys [(157, f157_spec)] [] [] true 30 [] []
theorem f152_cok : CtxOk Tryz.prog f152_ctx := ctxOk_mk tys_ok rfl ⟨f157_is, trivial⟩ rfl (by kernel_rfl)
theorem f152_is : SpecOk Tryz.prog 152 f152_spec := fgen f152_cok mixed Tryz.func152 (by kernel_rfl) (bs := []) (by kernel_rfl) trivial fun x => by kernel_rfl
def f141t (p0 : Int) : Prop × (Int × Int × Unit) :=
 let v6 := (iand .i64 p0 (65535 : Int))
 let v11 := (Int.tmod (IntKind.wrap .i64 (v6 + 16384)) (65536 : Int))
 (((f152_ok v6) ∧ (f152_ok v11)), ((f152 v6), (f152 v11), ()))
def f141_ok (p0 : Int) : Prop := (f141t p0).1
def f141 (p0 : Int) : (Int × Int × Unit) := (f141t p0).2
instance (p0 : Int) : Decidable (f141_ok p0) := by
 unfold f141_ok f141t
 try dsimp only
 infer_instance
def f141_spec : Am.Spec := fnSpec [(0, vI)] (.tup (.cons vI (.cons vI .nl))) [] (fun x => f141_ok x.1) (fun x => f141 x.1) (fun _ => ())
def f141_ctx : Ctx := Cx tys [(152, f152_spec)] [] [] true 13 [] []
theorem f141_cok : CtxOk Tryz.prog f141_ctx := ctxOk_mk tys_ok rfl ⟨f152_is, trivial⟩ rfl (by kernel_rfl)
theorem f141_is : SpecOk Tryz.prog 141 f141_spec := fgen f141_cok mixed Tryz.func141 (by kernel_rfl) (bs := []) (by kernel_rfl) trivial fun x => by kernel_rfl
abbrev f131_L3_Y : Type := (Int × D55 × Int × Unit)
abbrev f131_L3_X : Type := ((List D55) × Int × Unit)
def f131_L3t (y : f131_L3_Y) (x : f131_L3_X) : Prop × Bool × f131_L3_X :=
 let a1 := y.1
 let a2 := y.2.1
 let a5 := x.1
 let a12 := x.2.1
 let v13 := (decide (a12 < y.2.2.1))
 let v17 := (IntKind.wrap .i64 (4096 * a12))
 let v18 := (f141 v17)
 let v26 := (IntKind.wrap .i64 (a1 * v18.2.1))
 let v30 := (IntKind.wrap .i64 (a1 * v18.1))
 let s := ((f52 v26 (131072 : Int)), (f52 v30 (131072 : Int)), ())
 ((v13 = true → ((f141_ok v17) ∧ ((f52_ok v26 (131072 : Int)) ∧ ((f52_ok v30 (131072 : Int)) ∧ ((f116_ok a2 s) ∧ (InB a12 (len a5) ∧ a12 < len a5)))))), v13, ((List.set a5 (Int.toNat a12) (f116 a2 s)), (IntKind.wrap .i64 (a12 + 1)), ()))
def f131_L3_ok (y : f131_L3_Y) (x : f131_L3_X) : Prop := (f131_L3t y x).1
def f131_L3_g (y : f131_L3_Y) (x : f131_L3_X) : Bool := (f131_L3t y x).2.1
def f131_L3_next (y : f131_L3_Y) (x : f131_L3_X) : f131_L3_X := (f131_L3t y x).2.2
instance (y : f131_L3_Y) (x : f131_L3_X) : Decidable (f131_L3_ok y x) := by
 unfold f131_L3_ok f131_L3t
 try dsimp only
 infer_instance
def f131_L3_x2_0 (y : f131_L3_Y) (x : f131_L3_X) : (List D55) :=
 x.1
def f131_L3_spec : St → Option Out := loopS [(1, vI), (2, (.box T55 (.val T55))), (11, vI)] [(5, (.own T55 1005 true)), (12, vI)] f131_L3_g f131_L3_next f131_L3_ok fun y x => [ex 2 none [(5, (.own T55 1005 true))] ((f131_L3_x2_0 y x), ())]
def f131t (p0 : D55) (p1 : Int) : Prop × (List D55) :=
 let v9 := (List.replicate (Int.toNat (16 : Int)) Z55)
 let y3 := (p1, p0, (len v9), ())
 let x3 := (v9, (0 : Int), ())
 (((0 ≤ (16 : Int) ∧ (16 : Int) ≤ (16 : Int) ∧ (16 : Int) ≤ 4294967296) ∧ (Am.Ends (f131_L3_g y3) (f131_L3_next y3) (f131_L3_ok y3) x3)), (f131_L3_x2_0 y3 (loopEnd (f131_L3_g y3) (f131_L3_next y3) x3)))
def f131_ok (p0 : D55) (p1 : Int) : Prop := (f131t p0 p1).1
def f131 (p0 : D55) (p1 : Int) : (List D55) := (f131t p0 p1).2
instance (p0 : D55) (p1 : Int) : Decidable (f131_ok p0 p1) := by
 unfold f131_ok f131t
 try dsimp only
 infer_instance
def f131_spec : Am.Spec := fnSpec [(0, (.val T55)), (1, vI)] (.own T55 0 true) [] (fun x => f131_ok x.1 x.2.1) (fun x => f131 x.1 x.2.1) (fun _ => ())
def f131_ctx : Ctx := Cx tys [(52, f52_spec), (116, f116_spec), (141, f141_spec)] [(3, f131_L3_spec)] [(3, [(4, 0, 9, 1005)]), (17, [(4, 0, 1005, 0)])] true 37 [] [9]
theorem f131_cok : CtxOk Tryz.prog f131_ctx := ctxOk_mk tys_ok rfl ⟨f52_is, f116_is, f141_is, trivial⟩ rfl (by kernel_rfl)
noncomputable def f131_code : Code := Tryz.f131.body.getD .skip
noncomputable def f131_L3 : Code := nthLoop f131_code 0
theorem f131_L3_is : LoopSnd Tryz.prog f131_ctx f131_L3 := lgen f131_cok mixed (sp := f131_L3_spec) rfl [[(5, (.own T55 1005 true))]] (bs := []) (by kernel_rfl) trivial (by kernel_rfl) (by kernel_rfl) fun y x => by kernel_rfl
theorem f131_is : SpecOk Tryz.prog 131 f131_spec := fgen f131_cok mixed Tryz.func131 (by kernel_rfl) (bs := [f131_L3]) (by kernel_rfl) ⟨f131_L3_is, trivial⟩ fun x => by kernel_rfl
def f115_v5t (p0 : (Int × Int × Int × (List (List D55)) × Int × Unit)) (p1 : (List D55)) : Prop × (Unit) × ((Int × Int × Int × (List (List D55)) × Int × Unit) × Unit) :=
 let v6 := (f132 p1)
 let v8 := (v6 == 0)
 let v10 := (decide (v6 < 0))
 let m1 := (bif v10 then (f133_o p1).1 else p1)
 let v19 := ([m1] : List (List D55))
 let s := ((bif v8 then p0.1 else p0.1), (bif v8 then p0.2.1 else p0.2.1), (bif v8 then p0.2.2.1 else p0.2.2.1), (bif v8 then p0.2.2.2.1 else (p0.2.2.2.1 ++ v19)), (bif v8 then p0.2.2.2.2.1 else (IntKind.wrap .i64 (p0.2.2.2.2.1 + (len m1)))), ())
 (((f132_ok p1) ∧ ((!v8) = true → ((v10 = true → ((f133_ok p1) ∧ (0 < List.length p1 ∧ (List.length p1 = List.length p1 ∧ (List.length p1 = List.length p1 ∧ List.length p1 = List.length p1))))) ∧ ((List.length p0.2.2.2.1 + List.length v19 : Nat) : Int) ≤ 4294967296))), (), (s, ()))
def f115_v5_ok (p0 : (Int × Int × Int × (List (List D55)) × Int × Unit)) (p1 : (List D55)) : Prop := (f115_v5t p0 p1).1
def f115_v5 (p0 : (Int × Int × Int × (List (List D55)) × Int × Unit)) (p1 : (List D55)) : (Unit) := (f115_v5t p0 p1).2.1
def f115_v5_o (p0 : (Int × Int × Int × (List (List D55)) × Int × Unit)) (p1 : (List D55)) : ((Int × Int × Int × (List (List D55)) × Int × Unit) × Unit) := (f115_v5t p0 p1).2.2
instance (p0 : (Int × Int × Int × (List (List D55)) × Int × Unit)) (p1 : (List D55)) : Decidable (f115_v5_ok p0 p1) := by
 unfold f115_v5_ok f115_v5t
 try dsimp only
 infer_instance
def f115_v5_spec : Am.Spec := fnSpec [(0, (.box T131 (.agg (.cons (.int .i64) (.cons (.int .i64) (.cons (.int .i64) (.cons (.sl (.sl T55)) (.cons (.int .i64) .nl))))) (.cons vI (.cons vI (.cons vI (.cons (.own (.sl T55) 400000 false) (.cons vI .nl)))))))), (1, (.own T55 400100 true))] (.tup .nl) [(0, (.box T131 (.agg (.cons (.int .i64) (.cons (.int .i64) (.cons (.int .i64) (.cons (.sl (.sl T55)) (.cons (.int .i64) .nl))))) (.cons vI (.cons vI (.cons vI (.cons (.own (.sl T55) 400000 false) (.cons vI .nl))))))))] (fun x => f115_v5_ok x.1 x.2.1) (fun x => f115_v5 x.1 x.2.1) (fun x => f115_v5_o x.1 x.2.1)
def f115_v5_ctx : Ctx := { Cx tys [(132, f132_spec), (133, f133_spec)] [] [(8, [(1, 1, 0, 0)]), (9, [(4, 0, 20, 400000)])] true 32 [0] [] with wants := [(133, [0])] }
theorem f115_v5_cok : CtxOk Tryz.prog f115_v5_ctx := ctxOk_mk tys_ok rfl ⟨f132_is, f133_is, trivial⟩ rfl (by kernel_rfl)
theorem f115_v5_is : SpecOk Tryz.prog 115 f115_v5_spec := fgen f115_v5_cok mixed Tryz.func115 (by kernel_rfl) (bs := []) (by kernel_rfl) trivial fun x => by kernel_rfl
def f114_v2t (p0 : (Int × Int × Int × (List (List D55)) × Int × Unit)) (p1 : D55) : Prop × (Unit) × ((Int × Int × Int × (List (List D55)) × Int × Unit) × Unit) :=
 let v10 := (p0.2.2.1 == 1)
 let v17 := (f131 p1 p0.1)
 let s_1 := (p0.1, p0.2.1, p0.2.2.1, p0.2.2.2.1, p0.2.2.2.2.1, ())
 let v18o := (f115_v5_o s_1 v17)
 let v20 := (p0.2.2.1 == 2)
 let v25 := (f52 p0.1 (2 : Int))
 let s_2 := ((IntKind.wrap .i64 (Int.sub 0 v25)), (IntKind.wrap .i64 (Int.sub 0 v25)), ())
 let s_3 := (v25, (IntKind.wrap .i64 (Int.sub 0 v25)), ())
 let s_4 := (v25, v25, ())
 let s_5 := ((IntKind.wrap .i64 (Int.sub 0 v25)), v25, ())
 let v51 := ([(f116 p1 s_2), (f116 p1 s_3), (f116 p1 s_4), (f116 p1 s_5)] : List D55)
 let s_7 := (p0.1, p0.2.1, p0.2.2.1, p0.2.2.2.1, p0.2.2.2.2.1, ())
 let v52o := (f115_v5_o s_7 v51)
 let s_8 := ((bif v10 then v18o.1.1 else (bif v20 then v52o.1.1 else p0.1)), (bif v10 then v18o.1.2.1 else (bif v20 then v52o.1.2.1 else p0.2.1)), (bif v10 then v18o.1.2.2.1 else (bif v20 then v52o.1.2.2.1 else p0.2.2.1)), (bif v10 then v18o.1.2.2.2.1 else (bif v20 then v52o.1.2.2.2.1 else p0.2.2.2.1)), (bif v10 then v18o.1.2.2.2.2.1 else (bif v20 then v52o.1.2.2.2.2.1 else p0.2.2.2.2.1)), ())
 (((v10 = true → ((f131_ok p1 p0.1) ∧ (f115_v5_ok s_1 v17))) ∧ (v10 = false → (v20 = true → ((f52_ok p0.1 (2 : Int)) ∧ ((f116_ok p1 s_2) ∧ ((f116_ok p1 s_3) ∧ ((f116_ok p1 s_4) ∧ ((f116_ok p1 s_5) ∧ (f115_v5_ok s_7 v51))))))))), (), (s_8, ()))
def f114_v2_ok (p0 : (Int × Int × Int × (List (List D55)) × Int × Unit)) (p1 : D55) : Prop := (f114_v2t p0 p1).1
def f114_v2 (p0 : (Int × Int × Int × (List (List D55)) × Int × Unit)) (p1 : D55) : (Unit) := (f114_v2t p0 p1).2.1
def f114_v2_o (p0 : (Int × Int × Int × (List (List D55)) × Int × Unit)) (p1 : D55) : ((Int × Int × Int × (List (List D55)) × Int × Unit) × Unit) := (f114_v2t p0 p1).2.2
instance (p0 : (Int × Int × Int × (List (List D55)) × Int × Unit)) (p1 : D55) : Decidable (f114_v2_ok p0 p1) := by
 unfold f114_v2_ok f114_v2t
 try dsimp only
 infer_instance
def f114_v2_spec : Am.Spec := fnSpec [(0, (.box T131 (.agg (.cons (.int .i64) (.cons (.int .i64) (.cons (.int .i64) (.cons (.sl (.sl T55)) (.cons (.int .i64) .nl))))) (.cons vI (.cons vI (.cons vI (.cons (.own (.sl T55) 400000 false) (.cons vI .nl)))))))), (1, (.val T55))] (.tup .nl) [(0, (.box T131 (.agg (.cons (.int .i64) (.cons (.int .i64) (.cons (.int .i64) (.cons (.sl (.sl T55)) (.cons (.int .i64) .nl))))) (.cons vI (.cons vI (.cons vI (.cons (.own (.sl T55) 400000 false) (.cons vI .nl))))))))] (fun x => f114_v2_ok x.1 x.2.1) (fun x => f114_v2 x.1 x.2.1) (fun x => f114_v2_o x.1 x.2.1)
def f114_v2_ctx : Ctx := { Cx tys [(52, f52_spec), (115, f115_v5_spec), (116, f116_spec), (131, f131_spec)] [] [] true 53 [0] [51] with wants := [(115, [1])] }
theorem f114_v2_cok : CtxOk Tryz.prog f114_v2_ctx := ctxOk_mk tys_ok rfl ⟨f52_is, f115_v5_is, f116_is, f131_is, trivial⟩ rfl (by kernel_rfl)
theorem f114_v2_is : SpecOk Tryz.prog 114 f114_v2_spec := fgen f114_v2_cok mixed Tryz.func114 (by kernel_rfl) (bs := []) (by kernel_rfl) trivial fun x => by kernel_rfl
def f118_v1t (p0 : (Int × Int × Int × (List (List D55)) × Int × Unit)) (p1 : D156) (p2 : D156) : Prop × (Unit) × ((Int × Int × Int × (List (List D55)) × Int × Unit) × Unit) :=
 let v23 := (p0.2.1 == 1)
 let v30 := (f131 p2.1 p0.1)
 let s_1 := (p0.1, p0.2.1, p0.2.2.1, p0.2.2.2.1, p0.2.2.2.2.1, ())
 let v31o := (f115_v5_o s_1 v30)
 let v40 := ([p2.1, (f116 p2.1 p1.2.2.2.1), (f116 p2.1 p2.2.2.2.1)] : List D55)
 let s_3 := (p0.1, p0.2.1, p0.2.2.1, p0.2.2.2.1, p0.2.2.2.2.1, ())
 let v41o := (f115_v5_o s_3 v40)
 let v50 := ([p2.1, (f117 p2.1 p1.2.2.2.1), (f117 p2.1 p2.2.2.2.1)] : List D55)
 let s_5 := (v41o.1.1, v41o.1.2.1, v41o.1.2.2.1, v41o.1.2.2.2.1, v41o.1.2.2.2.2.1, ())
 let v51o := (f115_v5_o s_5 v50)
 let v66 := (IntKind.wrap .i64 ((IntKind.wrap .i64 (p1.2.2.1.1 * p2.2.2.1.2.1)) - (IntKind.wrap .i64 (p1.2.2.1.2.1 * p2.2.2.1.1))))
 let v75 := (IntKind.wrap .i64 (v51o.1.1 * v51o.1.1))
 let v89 := (IntKind.wrap .i64 (v75 + (IntKind.wrap .i64 (4 * (IntKind.wrap .i64 ((IntKind.wrap .i64 (p1.2.2.2.1.1 * p2.2.2.2.1.1)) + (IntKind.wrap .i64 (p1.2.2.2.1.2.1 * p2.2.2.2.1.2.1))))))))
 let v102 := (bif (bif (v51o.1.2.1 == 2) then true else (v66 == 0)) then true else (decide (v89 ≤ 0)))
 let v109 := (IntKind.wrap .i64 (v75 * (IntKind.wrap .i64 (p1.2.2.2.1.1 + p2.2.2.2.1.1))))
 let v111 := (f52 v109 v89)
 let v118 := (IntKind.wrap .i64 (v75 * (IntKind.wrap .i64 (p1.2.2.2.1.2.1 + p2.2.2.2.1.2.1))))
 let v120 := (f52 v118 v89)
 let s_6 := (v111, v120, ())
 let v132 := (decide ((f134 v111 v120) > (IntKind.wrap .i64 (4 * v51o.1.1))))
 let v134 := (decide (v66 > 0))
 let v146 := ([p2.1, (f117 p2.1 p1.2.2.2.1), (f117 p2.1 s_6), (f117 p2.1 p2.2.2.2.1)] : List D55)
 let s_8 := (v51o.1.1, v51o.1.2.1, v51o.1.2.2.1, v51o.1.2.2.2.1, v51o.1.2.2.2.2.1, ())
 let v147o := (f115_v5_o s_8 v146)
 let v159 := ([p2.1, (f116 p2.1 p1.2.2.2.1), (f116 p2.1 s_6), (f116 p2.1 p2.2.2.2.1)] : List D55)
 let s_10 := (v51o.1.1, v51o.1.2.1, v51o.1.2.2.1, v51o.1.2.2.2.1, v51o.1.2.2.2.2.1, ())
 let v160o := (f115_v5_o s_10 v159)
 let c_5 := (v23 || ((!v23) && (v102 || ((!v102) && v132))))
 let s_11 := ((bif c_5 then (bif v23 then v31o.1.1 else v51o.1.1) else (bif v134 then v147o.1.1 else v160o.1.1)), (bif c_5 then (bif v23 then v31o.1.2.1 else v51o.1.2.1) else (bif v134 then v147o.1.2.1 else v160o.1.2.1)), (bif c_5 then (bif v23 then v31o.1.2.2.1 else v51o.1.2.2.1) else (bif v134 then v147o.1.2.2.1 else v160o.1.2.2.1)), (bif c_5 then (bif v23 then v31o.1.2.2.2.1 else v51o.1.2.2.2.1) else (bif v134 then v147o.1.2.2.2.1 else v160o.1.2.2.2.1)), (bif c_5 then (bif v23 then v31o.1.2.2.2.2.1 else v51o.1.2.2.2.2.1) else (bif v134 then v147o.1.2.2.2.2.1 else v160o.1.2.2.2.2.1)), ())
 (((v23 = true → ((f131_ok p2.1 p0.1) ∧ (f115_v5_ok s_1 v30))) ∧ ((!v23) = true → ((f116_ok p2.1 p1.2.2.2.1) ∧ ((f116_ok p2.1 p2.2.2.2.1) ∧ ((f115_v5_ok s_3 v40) ∧ ((f117_ok p2.1 p1.2.2.2.1) ∧ ((f117_ok p2.1 p2.2.2.2.1) ∧ ((f115_v5_ok s_5 v50) ∧ ((!v102) = true → ((f52_ok v109 v89) ∧ ((f52_ok v118 v89) ∧ ((f134_ok v111 v120) ∧ ((!v132) = true → ((v134 = true → ((f117_ok p2.1 p1.2.2.2.1) ∧ ((f117_ok p2.1 s_6) ∧ ((f117_ok p2.1 p2.2.2.2.1) ∧ (f115_v5_ok s_8 v146))))) ∧ (v134 = false → ((f116_ok p2.1 p1.2.2.2.1) ∧ ((f116_ok p2.1 s_6) ∧ ((f116_ok p2.1 p2.2.2.2.1) ∧ (f115_v5_ok s_10 v159))))))))))))))))))), (), (s_11, ()))
def f118_v1_ok (p0 : (Int × Int × Int × (List (List D55)) × Int × Unit)) (p1 : D156) (p2 : D156) : Prop := (f118_v1t p0 p1 p2).1
def f118_v1 (p0 : (Int × Int × Int × (List (List D55)) × Int × Unit)) (p1 : D156) (p2 : D156) : (Unit) := (f118_v1t p0 p1 p2).2.1
def f118_v1_o (p0 : (Int × Int × Int × (List (List D55)) × Int × Unit)) (p1 : D156) (p2 : D156) : ((Int × Int × Int × (List (List D55)) × Int × Unit) × Unit) := (f118_v1t p0 p1 p2).2.2
instance (p0 : (Int × Int × Int × (List (List D55)) × Int × Unit)) (p1 : D156) (p2 : D156) : Decidable (f118_v1_ok p0 p1 p2) := by
 unfold f118_v1_ok f118_v1t
 try dsimp only
 infer_instance
def f118_v1_spec : Am.Spec := fnSpec [(0, (.box T131 (.agg (.cons (.int .i64) (.cons (.int .i64) (.cons (.int .i64) (.cons (.sl (.sl T55)) (.cons (.int .i64) .nl))))) (.cons vI (.cons vI (.cons vI (.cons (.own (.sl T55) 400000 false) (.cons vI .nl)))))))), (1, (.val T156)), (2, (.val T156))] (.tup .nl) [(0, (.box T131 (.agg (.cons (.int .i64) (.cons (.int .i64) (.cons (.int .i64) (.cons (.sl (.sl T55)) (.cons (.int .i64) .nl))))) (.cons vI (.cons vI (.cons vI (.cons (.own (.sl T55) 400000 false) (.cons vI .nl))))))))] (fun x => f118_v1_ok x.1 x.2.1 x.2.2.1) (fun x => f118_v1 x.1 x.2.1 x.2.2.1) (fun x => f118_v1_o x.1 x.2.1 x.2.2.1)
def f118_v1_ctx : Ctx := { Cx tys [(52, f52_spec), (115, f115_v5_spec), (116, f116_spec), (117, f117_spec), (131, f131_spec), (134, f134_spec)] [] [] true 161 [0] [40, 50, 146, 159] with wants := [(115, [1])] }
theorem f118_v1_cok : CtxOk Tryz.prog f118_v1_ctx := ctxOk_mk tys_ok rfl ⟨f52_is, f115_v5_is, f116_is, f117_is, f131_is, f134_is, trivial⟩ rfl (by kernel_rfl)
theorem f118_v1_is : SpecOk Tryz.prog 118 f118_v1_spec := fgen f118_v1_cok mixed Tryz.func118 (by kernel_rfl) (bs := []) (by kernel_rfl) trivial fun x => by kernel_rfl
def f119_v1t (p0 : (Int × Int × Int × (List (List D55)) × Int × Unit)) (p1 : D156) (p2 : D156) : Prop × (Unit) × ((Int × Int × Int × (List (List D55)) × Int × Unit) × Unit) :=
 let v12 := (p0.2.2.1 == 1)
 let v20 := (f131 p1.1 p0.1)
 let s_1 := (p0.1, p0.2.1, p0.2.2.1, p0.2.2.2.1, p0.2.2.2.2.1, ())
 let v21o := (f115_v5_o s_1 v20)
 let v29 := (f131 p2.2.1 v21o.1.1)
 let s_3 := (v21o.1.1, v21o.1.2.1, v21o.1.2.2.1, v21o.1.2.2.2.1, v21o.1.2.2.2.2.1, ())
 let v30o := (f115_v5_o s_3 v29)
 let v32 := (p0.2.2.1 == 2)
 let v37 := (f117 p1.1 p1.2.2.2.2.1)
 let v57 := ([(f116 v37 p1.2.2.2.1), (f116 p1.1 p1.2.2.2.1), (f117 p1.1 p1.2.2.2.1), (f117 v37 p1.2.2.2.1)] : List D55)
 let s_5 := (p0.1, p0.2.1, p0.2.2.1, p0.2.2.2.1, p0.2.2.2.2.1, ())
 let v58o := (f115_v5_o s_5 v57)
 let v63 := (f116 p2.2.1 p2.2.2.2.2.1)
 let v83 := ([(f116 p2.2.1 p2.2.2.2.1), (f116 v63 p2.2.2.2.1), (f117 v63 p2.2.2.2.1), (f117 p2.2.1 p2.2.2.2.1)] : List D55)
 let s_7 := (v58o.1.1, v58o.1.2.1, v58o.1.2.2.1, v58o.1.2.2.2.1, v58o.1.2.2.2.2.1, ())
 let v84o := (f115_v5_o s_7 v83)
 let s_8 := ((bif v12 then v30o.1.1 else (bif v32 then v84o.1.1 else p0.1)), (bif v12 then v30o.1.2.1 else (bif v32 then v84o.1.2.1 else p0.2.1)), (bif v12 then v30o.1.2.2.1 else (bif v32 then v84o.1.2.2.1 else p0.2.2.1)), (bif v12 then v30o.1.2.2.2.1 else (bif v32 then v84o.1.2.2.2.1 else p0.2.2.2.1)), (bif v12 then v30o.1.2.2.2.2.1 else (bif v32 then v84o.1.2.2.2.2.1 else p0.2.2.2.2.1)), ())
 (((v12 = true → ((f131_ok p1.1 p0.1) ∧ ((f115_v5_ok s_1 v20) ∧ ((f131_ok p2.2.1 v21o.1.1) ∧ (f115_v5_ok s_3 v29))))) ∧ (v12 = false → (v32 = true → ((f117_ok p1.1 p1.2.2.2.2.1) ∧ ((f116_ok v37 p1.2.2.2.1) ∧ ((f116_ok p1.1 p1.2.2.2.1) ∧ ((f117_ok p1.1 p1.2.2.2.1) ∧ ((f117_ok v37 p1.2.2.2.1) ∧ ((f115_v5_ok s_5 v57) ∧ ((f116_ok p2.2.1 p2.2.2.2.2.1) ∧ ((f116_ok p2.2.1 p2.2.2.2.1) ∧ ((f116_ok v63 p2.2.2.2.1) ∧ ((f117_ok v63 p2.2.2.2.1) ∧ ((f117_ok p2.2.1 p2.2.2.2.1) ∧ (f115_v5_ok s_7 v83))))))))))))))), (), (s_8, ()))
def f119_v1_ok (p0 : (Int × Int × Int × (List (List D55)) × Int × Unit)) (p1 : D156) (p2 : D156) : Prop := (f119_v1t p0 p1 p2).1
def f119_v1 (p0 : (Int × Int × Int × (List (List D55)) × Int × Unit)) (p1 : D156) (p2 : D156) : (Unit) := (f119_v1t p0 p1 p2).2.1
def f119_v1_o (p0 : (Int × Int × Int × (List (List D55)) × Int × Unit)) (p1 : D156) (p2 : D156) : ((Int × Int × Int × (List (List D55)) × Int × Unit) × Unit) := (f119_v1t p0 p1 p2).2.2
instance (p0 : (Int × Int × Int × (List (List D55)) × Int × Unit)) (p1 : D156) (p2 : D156) : Decidable (f119_v1_ok p0 p1 p2) := by
 unfold f119_v1_ok f119_v1t
 try dsimp only
 infer_instance
def f119_v1_spec : Am.Spec := fnSpec [(0, (.box T131 (.agg (.cons (.int .i64) (.cons (.int .i64) (.cons (.int .i64) (.cons (.sl (.sl T55)) (.cons (.int .i64) .nl))))) (.cons vI (.cons vI (.cons vI (.cons (.own (.sl T55) 400000 false) (.cons vI .nl)))))))), (1, (.val T156)), (2, (.val T156))] (.tup .nl) [(0, (.box T131 (.agg (.cons (.int .i64) (.cons (.int .i64) (.cons (.int .i64) (.cons (.sl (.sl T55)) (.cons (.int .i64) .nl))))) (.cons vI (.cons vI (.cons vI (.cons (.own (.sl T55) 400000 false) (.cons vI .nl))))))))] (fun x => f119_v1_ok x.1 x.2.1 x.2.2.1) (fun x => f119_v1 x.1 x.2.1 x.2.2.1) (fun x => f119_v1_o x.1 x.2.1 x.2.2.1)
def f119_v1_ctx : Ctx := { Cx tys [(115, f115_v5_spec), (116, f116_spec), (117, f117_spec), (131, f131_spec)] [] [] true 85 [0] [57, 83] with wants := [(115, [1])] }
theorem f119_v1_cok : CtxOk Tryz.prog f119_v1_ctx := ctxOk_mk tys_ok rfl ⟨f115_v5_is, f116_is, f117_is, f131_is, trivial⟩ rfl (by kernel_rfl)
theorem f119_v1_is : SpecOk Tryz.prog 119 f119_v1_spec := fgen f119_v1_cok mixed Tryz.func119 (by kernel_rfl) (bs := []) (by kernel_rfl) trivial fun x => by kernel_rfl
abbrev f100_v2_L6_Y : Type := (Bool × (List D156) × (List D156) × Int × Unit)
abbrev f100_v2_L6_X : Type := ((Int × Int × Int × (List (List D55)) × Int × Unit) × Int × Unit)
def f100_v2_L6t (y : f100_v2_L6_Y) (x : f100_v2_L6_X) : Prop × Bool × f100_v2_L6_X :=
 let a32 := y.2.2.1
 let a0 := x.1
 let a34 := x.2.1
 let v35 := (decide (a34 < y.2.2.2.1))
 let v36 := (nth a32 a34 Z156)
 let v59 := ([(f116 v36.1 v36.2.2.2.1), (f116 v36.2.1 v36.2.2.2.1), (f117 v36.2.1 v36.2.2.2.1), (f117 v36.1 v36.2.2.2.1)] : List D55)
 let s_1 := (a0.1, a0.2.1, a0.2.2.1, a0.2.2.2.1, a0.2.2.2.2.1, ())
 let v60o := (f115_v5_o s_1 v59)
 ((v35 = true → (InB a34 (len a32) ∧ ((f116_ok v36.1 v36.2.2.2.1) ∧ ((f116_ok v36.2.1 v36.2.2.2.1) ∧ ((f117_ok v36.2.1 v36.2.2.2.1) ∧ ((f117_ok v36.1 v36.2.2.2.1) ∧ ((f115_v5_ok s_1 v59) ∧ InR (a34 + 1)))))))), v35, ((v60o.1.1, v60o.1.2.1, v60o.1.2.2.1, v60o.1.2.2.2.1, v60o.1.2.2.2.2.1, ()), (a34 + 1), ()))
def f100_v2_L6_ok (y : f100_v2_L6_Y) (x : f100_v2_L6_X) : Prop := (f100_v2_L6t y x).1
def f100_v2_L6_g (y : f100_v2_L6_Y) (x : f100_v2_L6_X) : Bool := (f100_v2_L6t y x).2.1
def f100_v2_L6_next (y : f100_v2_L6_Y) (x : f100_v2_L6_X) : f100_v2_L6_X := (f100_v2_L6t y x).2.2
instance (y : f100_v2_L6_Y) (x : f100_v2_L6_X) : Decidable (f100_v2_L6_ok y x) := by
 unfold f100_v2_L6_ok f100_v2_L6t
 try dsimp only
 infer_instance
def f100_v2_L6_x2_0 (y : f100_v2_L6_Y) (x : f100_v2_L6_X) : (Int × Int × Int × (List (List D55)) × Int × Unit) :=
 let a0 := x.1
 (a0.1, a0.2.1, a0.2.2.1, a0.2.2.2.1, a0.2.2.2.2.1, ())
def f100_v2_L6_l2 : List (Nat × Sh) := [(0, (.box T131 (.agg (.cons (.int .i64) (.cons (.int .i64) (.cons (.int .i64) (.cons (.sl (.sl T55)) (.cons (.int .i64) .nl))))) (.cons vI (.cons vI (.cons vI (.cons (.own (.sl T55) 400000 false) (.cons vI .nl)))))))), (2, vB), (7, (.own T156 1007 false))]
def f100_v2_L6_spec : St → Option Out := loopS [(2, vB), (7, (.own T156 1007 false)), (32, (.own T156 1007 false)), (33, vI)] [(0, (.box T131 (.agg (.cons (.int .i64) (.cons (.int .i64) (.cons (.int .i64) (.cons (.sl (.sl T55)) (.cons (.int .i64) .nl))))) (.cons vI (.cons vI (.cons vI (.cons (.own (.sl T55) 400000 false) (.cons vI .nl)))))))), (34, vI)] f100_v2_L6_g f100_v2_L6_next f100_v2_L6_ok fun y x => [ex 2 none f100_v2_L6_l2 ((f100_v2_L6_x2_0 y x), y.1, y.2.1, ())]
abbrev f100_v2_L13_Y : Type := (Bool × (List D156) × Unit)
abbrev f100_v2_L13_X : Type := ((Int × Int × Int × (List (List D55)) × Int × Unit) × Int × Unit)
def f100_v2_L13t (y : f100_v2_L13_Y) (x : f100_v2_L13_X) : Prop × Bool × f100_v2_L13_X :=
 let a7 := y.2.1
 let a0 := x.1
 let a10 := x.2.1
 let v78 := (decide (a10 < (len a7)))
 let v84 := (a10 - 1)
 let v85 := (nth a7 v84 Z156)
 let v89 := (nth a7 a10 Z156)
 let s_1 := (a0.1, a0.2.1, a0.2.2.1, a0.2.2.2.1, a0.2.2.2.2.1, ())
 let v91o := (f118_v1_o s_1 v85 v89)
 ((v78 = true → (InR (a10 - 1) ∧ (InB v84 (len a7) ∧ (InB a10 (len a7) ∧ ((f118_v1_ok s_1 v85 v89) ∧ InR (a10 + 1)))))), v78, ((v91o.1.1, v91o.1.2.1, v91o.1.2.2.1, v91o.1.2.2.2.1, v91o.1.2.2.2.2.1, ()), (a10 + 1), ()))
def f100_v2_L13_ok (y : f100_v2_L13_Y) (x : f100_v2_L13_X) : Prop := (f100_v2_L13t y x).1
def f100_v2_L13_g (y : f100_v2_L13_Y) (x : f100_v2_L13_X) : Bool := (f100_v2_L13t y x).2.1
def f100_v2_L13_next (y : f100_v2_L13_Y) (x : f100_v2_L13_X) : f100_v2_L13_X := (f100_v2_L13t y x).2.2
instance (y : f100_v2_L13_Y) (x : f100_v2_L13_X) : Decidable (f100_v2_L13_ok y x) := by
 unfold f100_v2_L13_ok f100_v2_L13t
 try dsimp only
 infer_instance
def f100_v2_L13_x4_0 (y : f100_v2_L13_Y) (x : f100_v2_L13_X) : (Int × Int × Int × (List (List D55)) × Int × Unit) :=
 let a0 := x.1
 (a0.1, a0.2.1, a0.2.2.1, a0.2.2.2.1, a0.2.2.2.2.1, ())
def f100_v2_L13_l4 : List (Nat × Sh) := [(0, (.box T131 (.agg (.cons (.int .i64) (.cons (.int .i64) (.cons (.int .i64) (.cons (.sl (.sl T55)) (.cons (.int .i64) .nl))))) (.cons vI (.cons vI (.cons vI (.cons (.own (.sl T55) 400000 false) (.cons vI .nl)))))))), (2, vB), (7, (.own T156 1007 false))]
def f100_v2_L13_spec : St → Option Out := loopS [(2, vB), (7, (.own T156 1007 false))] [(0, (.box T131 (.agg (.cons (.int .i64) (.cons (.int .i64) (.cons (.int .i64) (.cons (.sl (.sl T55)) (.cons (.int .i64) .nl))))) (.cons vI (.cons vI (.cons vI (.cons (.own (.sl T55) 400000 false) (.cons vI .nl)))))))), (10, vI)] f100_v2_L13_g f100_v2_L13_next f100_v2_L13_ok fun y x => [ex 4 none f100_v2_L13_l4 ((f100_v2_L13_x4_0 y x), y.1, y.2.1, ())]
def f100_v2t (p0 : (Int × Int × Int × (List (List D55)) × Int × Unit)) (p1 : (List D55)) (p2 : Bool) : Prop × (Unit) × ((Int × Int × Int × (List (List D55)) × Int × Unit) × Unit) :=
 let v13 := (f112 p1 p2)
 let v20 := (f113 v13 p2 p0.1)
 let v23 := ((len v20) == 0)
 let v26 := ((len v13) == 1)
 let v29 := (nth v13 (0 : Int) Z55)
 let s_1 := (p0.1, p0.2.1, p0.2.2.1, p0.2.2.2.1, p0.2.2.2.2.1, ())
 let v31o := (f114_v2_o s_1 v29)
 let y6 := (p2, v20, v20, (len v20), ())
 let x6 := ((p0.1, p0.2.1, p0.2.2.1, p0.2.2.2.1, p0.2.2.2.2.1, ()), (0 : Int), ())
 let r6_2_0 := (f100_v2_L6_x2_0 y6 (loopEnd (f100_v2_L6_g y6) (f100_v2_L6_next y6) x6))
 let v63 := (!p2)
 let v67 := (len v20)
 let v68 := (v67 - 1)
 let v69 := (nth v20 v68 Z156)
 let v72 := (nth v20 (0 : Int) Z156)
 let s_4 := (r6_2_0.1, r6_2_0.2.1, r6_2_0.2.2.1, r6_2_0.2.2.2.1, r6_2_0.2.2.2.2.1, ())
 let v74o := (f118_v1_o s_4 v69 v72)
 let s_5 := ((bif v63 then v74o.1.1 else r6_2_0.1), (bif v63 then v74o.1.2.1 else r6_2_0.2.1), (bif v63 then v74o.1.2.2.1 else r6_2_0.2.2.1), (bif v63 then v74o.1.2.2.2.1 else r6_2_0.2.2.2.1), (bif v63 then v74o.1.2.2.2.2.1 else r6_2_0.2.2.2.2.1), ())
 let y13 := (p2, v20, ())
 let x13 := (s_5, (1 : Int), ())
 let r13_4_0 := (f100_v2_L13_x4_0 y13 (loopEnd (f100_v2_L13_g y13) (f100_v2_L13_next y13) x13))
 let v95 := (nth v20 (0 : Int) Z156)
 let v99 := (len v20)
 let v100 := (v99 - 1)
 let v101 := (nth v20 v100 Z156)
 let s_7 := (r13_4_0.1, r13_4_0.2.1, r13_4_0.2.2.1, r13_4_0.2.2.2.1, r13_4_0.2.2.2.2.1, ())
 let v103o := (f119_v1_o s_7 v95 v101)
 let s_8 := ((bif v23 then (bif v26 then v31o.1.1 else p0.1) else (bif p2 then v103o.1.1 else r13_4_0.1)), (bif v23 then (bif v26 then v31o.1.2.1 else p0.2.1) else (bif p2 then v103o.1.2.1 else r13_4_0.2.1)), (bif v23 then (bif v26 then v31o.1.2.2.1 else p0.2.2.1) else (bif p2 then v103o.1.2.2.1 else r13_4_0.2.2.1)), (bif v23 then (bif v26 then v31o.1.2.2.2.1 else p0.2.2.2.1) else (bif p2 then v103o.1.2.2.2.1 else r13_4_0.2.2.2.1)), (bif v23 then (bif v26 then v31o.1.2.2.2.2.1 else p0.2.2.2.2.1) else (bif p2 then v103o.1.2.2.2.2.1 else r13_4_0.2.2.2.2.1)), ())
 (((f112_ok p1 p2) ∧ ((f113_ok v13 p2 p0.1) ∧ ((v23 = true → (v26 = true → (InB (0 : Int) (len v13) ∧ (f114_v2_ok s_1 v29)))) ∧ ((!v23) = true → ((Am.Ends (f100_v2_L6_g y6) (f100_v2_L6_next y6) (f100_v2_L6_ok y6) x6) ∧ ((v63 = true → (InR (v67 - 1) ∧ (InB v68 (len v20) ∧ (InB (0 : Int) (len v20) ∧ (f118_v1_ok s_4 v69 v72))))) ∧ ((Am.Ends (f100_v2_L13_g y13) (f100_v2_L13_next y13) (f100_v2_L13_ok y13) x13) ∧ (p2 = true → (InB (0 : Int) (len v20) ∧ (InR (v99 - 1) ∧ (InB v100 (len v20) ∧ (f119_v1_ok s_7 v95 v101)))))))))))), (), (s_8, ()))
def f100_v2_ok (p0 : (Int × Int × Int × (List (List D55)) × Int × Unit)) (p1 : (List D55)) (p2 : Bool) : Prop := (f100_v2t p0 p1 p2).1
def f100_v2 (p0 : (Int × Int × Int × (List (List D55)) × Int × Unit)) (p1 : (List D55)) (p2 : Bool) : (Unit) := (f100_v2t p0 p1 p2).2.1
def f100_v2_o (p0 : (Int × Int × Int × (List (List D55)) × Int × Unit)) (p1 : (List D55)) (p2 : Bool) : ((Int × Int × Int × (List (List D55)) × Int × Unit) × Unit) := (f100_v2t p0 p1 p2).2.2
instance (p0 : (Int × Int × Int × (List (List D55)) × Int × Unit)) (p1 : (List D55)) (p2 : Bool) : Decidable (f100_v2_ok p0 p1 p2) := by
 unfold f100_v2_ok f100_v2t
 try dsimp only
 infer_instance
def f100_v2_spec : Am.Spec := fnSpec [(0, (.box T131 (.agg (.cons (.int .i64) (.cons (.int .i64) (.cons (.int .i64) (.cons (.sl (.sl T55)) (.cons (.int .i64) .nl))))) (.cons vI (.cons vI (.cons vI (.cons (.own (.sl T55) 400000 false) (.cons vI .nl)))))))), (1, (.val (.sl T55))), (2, vB)] (.tup .nl) [(0, (.box T131 (.agg (.cons (.int .i64) (.cons (.int .i64) (.cons (.int .i64) (.cons (.sl (.sl T55)) (.cons (.int .i64) .nl))))) (.cons vI (.cons vI (.cons vI (.cons (.own (.sl T55) 400000 false) (.cons vI .nl))))))))] (fun x => f100_v2_ok x.1 x.2.1 x.2.2.1) (fun x => f100_v2 x.1 x.2.1 x.2.2.1) (fun x => f100_v2_o x.1 x.2.1 x.2.2.1)
def f100_v2_ctx : Ctx := { Cx tys [(112, f112_spec), (113, f113_spec), (114, f114_v2_spec), (115, f115_v5_spec), (116, f116_spec), (117, f117_spec), (118, f118_v1_spec), (119, f119_v1_spec)] [(6, f100_v2_L6_spec), (13, f100_v2_L13_spec)] [(3, [(4, 0, 20, 1007)])] false 104 [0] [59] with wants := [(114, []), (115, [1]), (118, []), (119, [])] }
theorem f100_v2_cok : CtxOk Tryz.prog f100_v2_ctx := ctxOk_mk tys_ok rfl ⟨f112_is, f113_is, f114_v2_is, f115_v5_is, f116_is, f117_is, f118_v1_is, f119_v1_is, trivial⟩ rfl (by kernel_rfl)
noncomputable def f100_v2_code : Code := Tryz.f100.body.getD .skip
noncomputable def f100_v2_L6 : Code := nthLoop f100_v2_code 0
theorem f100_v2_L6_is : LoopSnd Tryz.prog f100_v2_ctx f100_v2_L6 := lgen f100_v2_cok mixed (sp := f100_v2_L6_spec) rfl [f100_v2_L6_l2] (bs := []) (by kernel_rfl) trivial (by kernel_rfl) (by kernel_rfl) fun y x => by kernel_rfl
noncomputable def f100_v2_L13 : Code := nthLoop f100_v2_code 1
theorem f100_v2_L13_is : LoopSnd Tryz.prog f100_v2_ctx f100_v2_L13 := lgen f100_v2_cok mixed (sp := f100_v2_L13_spec) rfl [f100_v2_L13_l4] (bs := []) (by kernel_rfl) trivial (by kernel_rfl) (by kernel_rfl) fun y x => by kernel_rfl
theorem f100_v2_is : SpecOk Tryz.prog 100 f100_v2_spec := fgen f100_v2_cok mixed Tryz.func100 (by kernel_rfl) (bs := [f100_v2_L6, f100_v2_L13]) (by kernel_rfl) ⟨f100_v2_L6_is, f100_v2_L13_is, trivial⟩ fun x => by kernel_rfl
abbrev f80_L11_Y : Type := ((List Bool) × Unit × (List (List D55)) × Int × Unit)
abbrev f80_L11_X : Type := ((Int × Int × Int × (List (List D55)) × Int × Unit) × Int × Unit)
def f80_L11t (y : f80_L11_Y) (x : f80_L11_X) : Prop × Bool × f80_L11_X × Bool × Bool :=
 let a1 := y.1
 let a39 := y.2.2.1
 let a38 := x.1
 let a41 := x.2.1
 let v42 := (decide (a41 < y.2.2.2.1))
 let v44 := (nth a39 a41 ([] : List D55))
 let v50 := (nth a1 a41 false)
 let s_1 := (a38.1, a38.2.1, a38.2.2.1, a38.2.2.2.1, a38.2.2.2.2.1, ())
 let v52o := (f100_v2_o s_1 v44 v50)
 let v57 := (decide (v52o.1.2.2.2.2.1 > 4096))
 ((v42 = true → (InB a41 (len a39) ∧ (InB a41 (len a1) ∧ ((f100_v2_ok s_1 v44 v50) ∧ ((!v57) = true → InR (a41 + 1)))))), (v42 && (!v57)), ((v52o.1.1, v52o.1.2.1, v52o.1.2.2.1, v52o.1.2.2.2.1, v52o.1.2.2.2.2.1, ()), (a41 + 1), ()), (v42 && v57), (!v42))
def f80_L11_ok (y : f80_L11_Y) (x : f80_L11_X) : Prop := (f80_L11t y x).1
def f80_L11_g (y : f80_L11_Y) (x : f80_L11_X) : Bool := (f80_L11t y x).2.1
def f80_L11_next (y : f80_L11_Y) (x : f80_L11_X) : f80_L11_X := (f80_L11t y x).2.2.1
def f80_L11_e1 (y : f80_L11_Y) (x : f80_L11_X) : Bool := (f80_L11t y x).2.2.2.1
def f80_L11_e2 (y : f80_L11_Y) (x : f80_L11_X) : Bool := (f80_L11t y x).2.2.2.2
instance (y : f80_L11_Y) (x : f80_L11_X) : Decidable (f80_L11_ok y x) := by
 unfold f80_L11_ok f80_L11t
 try dsimp only
 infer_instance
def f80_L11_x1_0 (y : f80_L11_Y) (x : f80_L11_X) : (List (List D55)) :=
 ([] : List (List D55))
def f80_L11_x1_1 (y : f80_L11_Y) (x : f80_L11_X) : Int :=
 (3 : Int)
def f80_L11_l1 : List (Nat × Sh) := [(10, (.own (.sl T55) 0 false)), (11, vI)]
def f80_L11_x2_0 (y : f80_L11_Y) (x : f80_L11_X) : (Int × Int × Int × (List (List D55)) × Int × Unit) :=
 let a38 := x.1
 (a38.1, a38.2.1, a38.2.2.1, a38.2.2.2.1, a38.2.2.2.2.1, ())
def f80_L11_l2 : List (Nat × Sh) := [(14, (.ref 38 T131)), (38, (.box T131 (.agg (.cons (.int .i64) (.cons (.int .i64) (.cons (.int .i64) (.cons (.sl (.sl T55)) (.cons (.int .i64) .nl))))) (.cons vI (.cons vI (.cons vI (.cons (.own (.sl T55) 403800 false) (.cons vI .nl))))))))]
def f80_L11_spec : St → Option Out := loopS [(1, (.val (.sl .bool))), (14, (.ref 38 T131)), (39, (.val (.sl (.sl T55)))), (40, vI)] [(38, (.box T131 (.agg (.cons (.int .i64) (.cons (.int .i64) (.cons (.int .i64) (.cons (.sl (.sl T55)) (.cons (.int .i64) .nl))))) (.cons vI (.cons vI (.cons vI (.cons (.own (.sl T55) 403800 false) (.cons vI .nl)))))))), (41, vI)] f80_L11_g f80_L11_next f80_L11_ok fun y x => [ex 1 (some (f80_L11_e1 y x)) f80_L11_l1 ((f80_L11_x1_0 y x), (f80_L11_x1_1 y x), ()), ex 2 (some (f80_L11_e2 y x)) f80_L11_l2 (y.2.1, (f80_L11_x2_0 y x), ())]
def f80t (p0 : (List (List D55))) (p1 : (List Bool)) (p2 : Int) (p3 : Int) (p4 : Int) : Prop × ((List (List D55)) × Int × Unit) :=
 let v20 := (f99 p2 p3 p4)
 let v22 := (v20 != 0)
 let v25 := (f81 p0 (0 : Int))
 let v27 := (v25 != 0)
 let v33 := ((len p1) != (len p0))
 let y11 := (p1, (), p0, (len p0), ())
 let x11 := ((p2, p3, p4, ([] : List (List D55)), (0 : Int), ()), (0 : Int), ())
 let e11 := (loopEnd (f80_L11_g y11) (f80_L11_next y11) x11)
 let q11_1 := (f80_L11_e1 y11 e11)
 (((f99_ok p2 p3 p4) ∧ ((!v22) = true → ((f81_ok p0 (0 : Int)) ∧ ((!v27) = true → ((!v33) = true → (Am.Ends (f80_L11_g y11) (f80_L11_next y11) (f80_L11_ok y11) x11)))))), ((bif v22 then [] else (bif v27 then [] else (bif v33 then [] else (bif q11_1 then (f80_L11_x1_0 y11 e11) else (f80_L11_x2_0 y11 e11).2.2.2.1)))), (bif v22 then v20 else (bif v27 then v25 else (bif v33 then (15 : Int) else (bif q11_1 then (f80_L11_x1_1 y11 e11) else (0 : Int))))), ()))
def f80_ok (p0 : (List (List D55))) (p1 : (List Bool)) (p2 : Int) (p3 : Int) (p4 : Int) : Prop := (f80t p0 p1 p2 p3 p4).1
def f80 (p0 : (List (List D55))) (p1 : (List Bool)) (p2 : Int) (p3 : Int) (p4 : Int) : ((List (List D55)) × Int × Unit) := (f80t p0 p1 p2 p3 p4).2
instance (p0 : (List (List D55))) (p1 : (List Bool)) (p2 : Int) (p3 : Int) (p4 : Int) : Decidable (f80_ok p0 p1 p2 p3 p4) := by
 unfold f80_ok f80t
 try dsimp only
 infer_instance
def f80_spec : Am.Spec := fnSpec [(0, (.val (.sl (.sl T55)))), (1, (.val (.sl .bool))), (2, vI), (3, vI), (4, vI)] (.tup (.cons (.own (.sl T55) 0 false) (.cons vI .nl))) [] (fun x => f80_ok x.1 x.2.1 x.2.2.1 x.2.2.2.1 x.2.2.2.2.1) (fun x => f80 x.1 x.2.1 x.2.2.1 x.2.2.2.1 x.2.2.2.2.1) (fun _ => ())
def f80_ctx : Ctx := { Cx tys [(81, f81_spec), (99, f99_spec), (100, f100_v2_spec)] [(11, f80_L11_spec)] [(35, [(4, 0, 403800, 0)])] false 63 [] [] with wants := [(100, [])] }
theorem f80_cok : CtxOk Tryz.prog f80_ctx := ctxOk_mk tys_ok rfl ⟨f81_is, f99_is, f100_v2_is, trivial⟩ rfl (by kernel_rfl)
noncomputable def f80_code : Code := Tryz.f80.body.getD .skip
noncomputable def f80_L11 : Code := nthLoop f80_code 0
theorem f80_L11_is : LoopSnd Tryz.prog f80_ctx f80_L11 := lgen f80_cok mixed (sp := f80_L11_spec) rfl [f80_L11_l1, f80_L11_l2] (bs := []) (by kernel_rfl) trivial (by kernel_rfl) (by kernel_rfl) fun y x => by kernel_rfl
theorem f80_is : SpecOk Tryz.prog 80 f80_spec := fgen f80_cok mixed Tryz.func80 (by kernel_rfl) (bs := [f80_L11]) (by kernel_rfl) ⟨f80_L11_is, trivial⟩ fun x => by kernel_rfl
def f57t (p0 : D37) : Prop × Int :=
 let v15 := (f77 p0.2.2.2.2.2.2.2.2.2.2.2.2.2.2.2.2.2.2.1 p0.2.2.2.2.2.2.2.2.2.2.1)
 let v19 := (v15.2.1 != 0)
 let v28 := (bif (p0.2.2.2.2.2.2.2.2.2.2.2.2.2.2.2.2.2.2.2.1 != 0) then (p0.2.2.2.2.2.2.2.2.2.2.2.2.2.2.2.2.2.2.2.1 != 1) else false)
 let v41 := (bif (p0.2.2.2.2.2.2.2.2.2.2.2.2.2.2.2.2.2.2.2.2.1 == 0) then (bif (p0.2.2.2.2.2.2.2.2.2.2.2.2.2.2.2.2.2.2.2.2.2.1 != 0) then true else (p0.2.2.2.2.2.2.2.2.2.2.2.2.2.2.2.2.2.2.2.2.2.2.1 != 0)) else false)
 let v44 := (f78 v15.1)
 let v48 := (v44.2.1 != 0)
 let v54 := (p0.2.2.2.2.2.2.2.2.2.2.2.2.2.2.2.2.2.2.2.2.1 != 0)
 let v57 := (f79 v15.1)
 let v61 := (v57.2.1 != 0)
 let v72 := (f80 v44.1 v57.1 p0.2.2.2.2.2.2.2.2.2.2.2.2.2.2.2.2.2.2.2.2.1 p0.2.2.2.2.2.2.2.2.2.2.2.2.2.2.2.2.2.2.2.2.2.1 p0.2.2.2.2.2.2.2.2.2.2.2.2.2.2.2.2.2.2.2.2.2.2.1)
 let v76 := (v72.2.1 != 0)
 let m5_1 := (bif v54 then v72.1 else v44.1)
 let m6 := (bif v54 then (0 : Int) else p0.2.2.2.2.2.2.2.2.2.2.2.2.2.2.2.2.2.2.2.1)
 let v80 := (f81 m5_1 m6)
 let v82 := (v80 != 0)
 let m2_4 := (bif v41 then (1 : Int) else (bif v48 then v44.2.1 else (bif ((v61 || ((!v61) && v76)) && v54) then (bif v61 then v57.2.1 else v72.2.1) else (bif v82 then v80 else (f55 p0.2.2.2.2.2.2.2.2.2.2.2.2.2.1)))))
 (((f77_ok p0.2.2.2.2.2.2.2.2.2.2.2.2.2.2.2.2.2.2.1 p0.2.2.2.2.2.2.2.2.2.2.1) ∧ ((!v19) = true → ((!v28) = true → ((!v41) = true → ((f78_ok v15.1) ∧ ((!v48) = true → ((v54 = true → ((f79_ok v15.1) ∧ ((!v61) = true → (f80_ok v44.1 v57.1 p0.2.2.2.2.2.2.2.2.2.2.2.2.2.2.2.2.2.2.2.2.1 p0.2.2.2.2.2.2.2.2.2.2.2.2.2.2.2.2.2.2.2.2.2.1 p0.2.2.2.2.2.2.2.2.2.2.2.2.2.2.2.2.2.2.2.2.2.2.1)))) ∧ ((bif v54 then ((!v61) && (!v76)) else true) = true → ((f81_ok m5_1 m6) ∧ ((!v82) = true → (f55_ok p0.2.2.2.2.2.2.2.2.2.2.2.2.2.1))))))))))), (bif v19 then v15.2.1 else (bif v28 then (8 : Int) else m2_4)))
def f57_ok (p0 : D37) : Prop := (f57t p0).1
def f57 (p0 : D37) : Int := (f57t p0).2
instance (p0 : D37) : Decidable (f57_ok p0) := by
 unfold f57_ok f57t
 try dsimp only
 infer_instance
def f57_spec : Am.Spec := fnSpec [(0, (.val T37))] vI [] (fun x => f57_ok x.1) (fun x => f57 x.1) (fun _ => ())
def f57_ctx : Ctx := Cx tys [(55, f55_spec), (77, f77_spec), (78, f78_spec), (79, f79_spec), (80, f80_spec), (81, f81_spec)] [] [(17, [(4, 0, 44, 1005)]), (27, [(4, 0, 57, 1007)]), (33, [(5, 0, 1005, 0), (4, 0, 72, 1005)])] false 87 [] []
theorem f57_cok : CtxOk Tryz.prog f57_ctx := ctxOk_mk tys_ok rfl ⟨f55_is, f77_is, f78_is, f79_is, f80_is, f81_is, trivial⟩ rfl (by kernel_rfl)
theorem f57_is : SpecOk Tryz.prog 57 f57_spec := fgen f57_cok mixed Tryz.func57 (by kernel_rfl) (bs := []) (by kernel_rfl) trivial fun x => by kernel_rfl
def f121t (p0 : Int) (p1 : Int) (p2 : Int) : Prop × Bool :=
 (True, (bif (decide (p0 ≥ p1)) then (decide (p0 ≤ p2)) else false))
def f121_ok (p0 : Int) (p1 : Int) (p2 : Int) : Prop := (f121t p0 p1 p2).1
def f121 (p0 : Int) (p1 : Int) (p2 : Int) : Bool := (f121t p0 p1 p2).2
instance (p0 : Int) (p1 : Int) (p2 : Int) : Decidable (f121_ok p0 p1 p2) := by
 unfold f121_ok f121t
 try dsimp only
 infer_instance
def f121_spec : Am.Spec := fnSpec [(0, vI), (1, vI), (2, vI)] vB [] (fun x => f121_ok x.1 x.2.1 x.2.2.1) (fun x => f121 x.1 x.2.1 x.2.2.1) (fun _ => ())
def f121_ctx : Ctx := Cx tys [] [] [] false 15 [] []
theorem f121_cok : CtxOk Tryz.prog f121_ctx := ctxOk_mk tys_ok rfl trivial rfl (by kernel_rfl)
theorem f121_is : SpecOk Tryz.prog 121 f121_spec := fgen f121_cok mixed Tryz.func121 (by kernel_rfl) (bs := []) (by kernel_rfl) trivial fun x => by kernel_rfl
abbrev f135_L10_Y : Type := ((List D58) × Int × Int × (List D55) × Unit)
abbrev f135_L10_X : Type := (Int × Unit)
def f135_L10t (y : f135_L10_Y) (x : f135_L10_X) : Prop × Bool × f135_L10_X × Bool × Bool :=
 let a27 := x.1
 let v28 := (decide (a27 < 3))
 let v29 := (nth y.2.2.2.1 a27 Z55)
 let v33 := (!(f121 v29.1 (-65536 : Int) (65536 : Int)))
 let v39 := (bif v33 then true else (!(f121 v29.2.1 (-65536 : Int) (65536 : Int))))
 ((v28 = true → (InB a27 3 ∧ ((f121_ok v29.1 (-65536 : Int) (65536 : Int)) ∧ (((!v33) = true → (f121_ok v29.2.1 (-65536 : Int) (65536 : Int))) ∧ ((!v39) = true → InR (a27 + 1)))))), (v28 && (!v39)), ((a27 + 1), ()), (v28 && v39), (!v28))
def f135_L10_ok (y : f135_L10_Y) (x : f135_L10_X) : Prop := (f135_L10t y x).1
def f135_L10_g (y : f135_L10_Y) (x : f135_L10_X) : Bool := (f135_L10t y x).2.1
def f135_L10_next (y : f135_L10_Y) (x : f135_L10_X) : f135_L10_X := (f135_L10t y x).2.2.1
def f135_L10_e1 (y : f135_L10_Y) (x : f135_L10_X) : Bool := (f135_L10t y x).2.2.2.1
def f135_L10_e4 (y : f135_L10_Y) (x : f135_L10_X) : Bool := (f135_L10t y x).2.2.2.2
instance (y : f135_L10_Y) (x : f135_L10_X) : Decidable (f135_L10_ok y x) := by
 unfold f135_L10_ok f135_L10t
 try dsimp only
 infer_instance
def f135_L10_x1_0 (y : f135_L10_Y) (x : f135_L10_X) : Int :=
 (2 : Int)
def f135_L10_l4 : List (Nat × Sh) := [(19, (.val (.sl T58))), (20, vI), (21, vI)]
def f135_L10_spec : St → Option Out := loopS [(19, (.val (.sl T58))), (20, vI), (21, vI), (26, (.val (.arr 3 T55)))] [(27, vI)] f135_L10_g f135_L10_next f135_L10_ok fun y x => [ex 1 (some (f135_L10_e1 y x)) [(2, vI)] ((f135_L10_x1_0 y x), ()), ex 4 (some (f135_L10_e4 y x)) f135_L10_l4 (y.1, y.2.1, y.2.2.1, ())]
abbrev f135_L7_Y : Type := ((List D58) × Int × Unit)
abbrev f135_L7_X : Type := (Int × Unit)
def f135_L7t (y : f135_L7_Y) (x : f135_L7_X) : Prop × Bool × f135_L7_X × Bool × Bool :=
 let a19 := y.1
 let a20 := y.2.1
 let a21 := x.1
 let v22 := (decide (a21 < a20))
 let y10 := (a19, a20, a21, (nth a19 a21 Z58).2.1, ())
 let x10 := ((0 : Int), ())
 let e10 := (loopEnd (f135_L10_g y10) (f135_L10_next y10) x10)
 let q10_4 := (f135_L10_e4 y10 e10)
 ((v22 = true → (InB a21 (len a19) ∧ ((Am.Ends (f135_L10_g y10) (f135_L10_next y10) (f135_L10_ok y10) x10) ∧ (q10_4 = true → InR (a21 + 1))))), (v22 && q10_4), ((a21 + 1), ()), (v22 && (f135_L10_e1 y10 e10)), (!v22))
def f135_L7_ok (y : f135_L7_Y) (x : f135_L7_X) : Prop := (f135_L7t y x).1
def f135_L7_g (y : f135_L7_Y) (x : f135_L7_X) : Bool := (f135_L7t y x).2.1
def f135_L7_next (y : f135_L7_Y) (x : f135_L7_X) : f135_L7_X := (f135_L7t y x).2.2.1
def f135_L7_e1 (y : f135_L7_Y) (x : f135_L7_X) : Bool := (f135_L7t y x).2.2.2.1
def f135_L7_e2 (y : f135_L7_Y) (x : f135_L7_X) : Bool := (f135_L7t y x).2.2.2.2
instance (y : f135_L7_Y) (x : f135_L7_X) : Decidable (f135_L7_ok y x) := by
 unfold f135_L7_ok f135_L7t
 try dsimp only
 infer_instance
def f135_L7_x1_0 (y : f135_L7_Y) (x : f135_L7_X) : Int :=
 let a19 := y.1
 let a21 := x.1
 let y10 := (a19, y.2.1, a21, (nth a19 a21 Z58).2.1, ())
 (f135_L10_x1_0 y10 (loopEnd (f135_L10_g y10) (f135_L10_next y10) ((0 : Int), ())))
def f135_L7_spec : St → Option Out := loopS [(19, (.val (.sl T58))), (20, vI)] [(21, vI)] f135_L7_g f135_L7_next f135_L7_ok fun y x => [ex 1 (some (f135_L7_e1 y x)) [(2, vI)] ((f135_L7_x1_0 y x), ()), ex 2 (some (f135_L7_e2 y x)) [] ()]
def f135t (p0 : D143) : Prop × Int :=
 let v11 := (!(f121 p0.2.1 (0 : Int) (65536 : Int)))
 let v14 := (f94 p0.2.2.1)
 let v16 := (v14 != 0)
 let y7 := (p0.2.2.1, (len p0.2.2.1), ())
 let x7 := ((0 : Int), ())
 let e7 := (loopEnd (f135_L7_g y7) (f135_L7_next y7) x7)
 (((f121_ok p0.2.1 (0 : Int) (65536 : Int)) ∧ ((!v11) = true → ((f94_ok p0.2.2.1) ∧ ((!v16) = true → (Am.Ends (f135_L7_g y7) (f135_L7_next y7) (f135_L7_ok y7) x7))))), (bif v11 then (2 : Int) else (bif v16 then v14 else (bif (f135_L7_e1 y7 e7) then (f135_L7_x1_0 y7 e7) else (0 : Int)))))
def f135_ok (p0 : D143) : Prop := (f135t p0).1
def f135 (p0 : D143) : Int := (f135t p0).2
instance (p0 : D143) : Decidable (f135_ok p0) := by
 unfold f135_ok f135t
 try dsimp only
 infer_instance
def f135_spec : Am.Spec := fnSpec [(0, (.val T143))] vI [] (fun x => f135_ok x.1) (fun x => f135 x.1) (fun _ => ())
def f135_ctx : Ctx := Cx tys [(94, f94_spec), (121, f121_spec)] [(10, f135_L10_spec), (7, f135_L7_spec)] [] false 42 [] []
theorem f135_cok : CtxOk Tryz.prog f135_ctx := ctxOk_mk tys_ok rfl ⟨f94_is, f121_is, trivial⟩ rfl (by kernel_rfl)
noncomputable def f135_code : Code := Tryz.f135.body.getD .skip
noncomputable def f135_L7 : Code := nthLoop f135_code 0
noncomputable def f135_L10 : Code := nthLoop f135_L7 0
theorem f135_L10_is : LoopSnd Tryz.prog f135_ctx f135_L10 := lgen f135_cok mixed (sp := f135_L10_spec) rfl [[(2, vI)], f135_L10_l4] (bs := []) (by kernel_rfl) trivial (by kernel_rfl) (by kernel_rfl) fun y x => by kernel_rfl
theorem f135_L7_is : LoopSnd Tryz.prog f135_ctx f135_L7 := lgen f135_cok mixed (sp := f135_L7_spec) rfl [[(2, vI)], []] (bs := [f135_L10]) (by kernel_rfl) ⟨f135_L10_is, trivial⟩ (by kernel_rfl) (by kernel_rfl) fun y x => by kernel_rfl
theorem f135_is : SpecOk Tryz.prog 135 f135_spec := fgen f135_cok mixed Tryz.func135 (by kernel_rfl) (bs := [f135_L7]) (by kernel_rfl) ⟨f135_L7_is, trivial⟩ fun x => by kernel_rfl
def f136t (p0 : D148) (p1 : D148) : Prop × Bool :=
 (True, (bif (decide (p0.1 > p1.1)) then true else (bif (p0.1 == p1.1) then (decide (p0.2.1 > p1.2.1)) else false)))
def f136_ok (p0 : D148) (p1 : D148) : Prop := (f136t p0 p1).1
def f136 (p0 : D148) (p1 : D148) : Bool := (f136t p0 p1).2
instance (p0 : D148) (p1 : D148) : Decidable (f136_ok p0 p1) := by
 unfold f136_ok f136t
 try dsimp only
 infer_instance
def f136_spec : Am.Spec := fnSpec [(0, (.val T148)), (1, (.val T148))] vB [] (fun x => f136_ok x.1 x.2.1) (fun x => f136 x.1 x.2.1) (fun _ => ())
def f136_ctx : Ctx := Cx tys [] [] [] false 24 [] []
theorem f136_cok : CtxOk Tryz.prog f136_ctx := ctxOk_mk tys_ok rfl trivial rfl (by kernel_rfl)
theorem f136_is : SpecOk Tryz.prog 136 f136_spec := fgen f136_cok mixed Tryz.func136 (by kernel_rfl) (bs := []) (by kernel_rfl) trivial fun x => by kernel_rfl
abbrev f120_L6_Y : Type := (D113 × (List D143) × Int × Unit)
abbrev f120_L6_X : Type := (Int × Unit)
def f120_L6t (y : f120_L6_Y) (x : f120_L6_X) : Prop × Bool × f120_L6_X × Bool × Bool :=
 let a1 := y.1
 let a35 := y.2.1
 let a37 := x.1
 let v38 := (decide (a37 < y.2.2.1))
 let v40 := (nth a35 a37 Z143)
 let v43 := (decide (a37 > 0))
 let v50 := (a37 - 1)
 let v55 := (bif v43 then (decide (v40.1 ≤ (nth a1.2.2.2.1 v50 Z143).1)) else false)
 let v59 := ((f135 v40) != 0)
 let c_2 := ((!v55) && (!v59))
 ((v38 = true → (InB a37 (len a35) ∧ ((v43 = true → InR (a37 - 1)) ∧ ((v43 = true → InB v50 (len a1.2.2.2.1)) ∧ (((!v55) = true → (f135_ok v40)) ∧ (c_2 = true → InR (a37 + 1))))))), (v38 && c_2), ((a37 + 1), ()), (v38 && (v55 || ((!v55) && v59))), (!v38))
def f120_L6_ok (y : f120_L6_Y) (x : f120_L6_X) : Prop := (f120_L6t y x).1
def f120_L6_g (y : f120_L6_Y) (x : f120_L6_X) : Bool := (f120_L6t y x).2.1
def f120_L6_next (y : f120_L6_Y) (x : f120_L6_X) : f120_L6_X := (f120_L6t y x).2.2.1
def f120_L6_e1 (y : f120_L6_Y) (x : f120_L6_X) : Bool := (f120_L6t y x).2.2.2.1
def f120_L6_e2 (y : f120_L6_Y) (x : f120_L6_X) : Bool := (f120_L6t y x).2.2.2.2
instance (y : f120_L6_Y) (x : f120_L6_X) : Decidable (f120_L6_ok y x) := by
 unfold f120_L6_ok f120_L6t
 try dsimp only
 infer_instance
def f120_L6_x1_0 (y : f120_L6_Y) (x : f120_L6_X) : Int :=
 let a37 := x.1
 let v40 := (nth y.2.1 a37 Z143)
 (bif (bif (decide (a37 > 0)) then (decide (v40.1 ≤ (nth y.1.2.2.2.1 (a37 - 1) Z143).1)) else false) then (24 : Int) else (f135 v40))
def f120_L6_spec : St → Option Out := loopS [(1, (.box T113 (.val T113))), (35, (.val (.sl T143))), (36, vI)] [(37, vI)] f120_L6_g f120_L6_next f120_L6_ok fun y x => [ex 1 (some (f120_L6_e1 y x)) [(2, vI)] ((f120_L6_x1_0 y x), ()), ex 2 (some (f120_L6_e2 y x)) [(1, (.box T113 (.val T113)))] (y.1, ())]
abbrev f120_L15_Y : Type := (D113 × (List D148) × Int × Unit)
abbrev f120_L15_X : Type := (Int × Unit)
def f120_L15t (y : f120_L15_Y) (x : f120_L15_X) : Prop × Bool × f120_L15_X × Bool × Bool :=
 let a1 := y.1
 let a63 := y.2.1
 let a65 := x.1
 let v66 := (decide (a65 < y.2.2.1))
 let v68 := (nth a63 a65 Z148)
 let v71 := (decide (a65 > 0))
 let v77 := (a65 - 1)
 let v78 := (nth a1.2.2.2.2.1 v77 Z148)
 let v82 := (bif v71 then (!(f136 v68 v78)) else false)
 let v86 := (!(f121 v68.2.2.1 (-65536 : Int) (65536 : Int)))
 let c_2 := ((!v82) && (!v86))
 ((v66 = true → (InB a65 (len a63) ∧ ((v71 = true → InR (a65 - 1)) ∧ ((v71 = true → InB v77 (len a1.2.2.2.2.1)) ∧ ((v71 = true → (f136_ok v68 v78)) ∧ (((!v82) = true → (f121_ok v68.2.2.1 (-65536 : Int) (65536 : Int))) ∧ (c_2 = true → InR (a65 + 1)))))))), (v66 && c_2), ((a65 + 1), ()), (v66 && (v82 || ((!v82) && v86))), (!v66))
def f120_L15_ok (y : f120_L15_Y) (x : f120_L15_X) : Prop := (f120_L15t y x).1
def f120_L15_g (y : f120_L15_Y) (x : f120_L15_X) : Bool := (f120_L15t y x).2.1
def f120_L15_next (y : f120_L15_Y) (x : f120_L15_X) : f120_L15_X := (f120_L15t y x).2.2.1
def f120_L15_e1 (y : f120_L15_Y) (x : f120_L15_X) : Bool := (f120_L15t y x).2.2.2.1
def f120_L15_e4 (y : f120_L15_Y) (x : f120_L15_X) : Bool := (f120_L15t y x).2.2.2.2
instance (y : f120_L15_Y) (x : f120_L15_X) : Decidable (f120_L15_ok y x) := by
 unfold f120_L15_ok f120_L15t
 try dsimp only
 infer_instance
def f120_L15_x1_0 (y : f120_L15_Y) (x : f120_L15_X) : Int :=
 let a65 := x.1
 (bif (bif (decide (a65 > 0)) then (!(f136 (nth y.2.1 a65 Z148) (nth y.1.2.2.2.2.1 (a65 - 1) Z148))) else false) then (24 : Int) else (2 : Int))
def f120_L15_spec : St → Option Out := loopS [(1, (.box T113 (.val T113))), (63, (.val (.sl T148))), (64, vI)] [(65, vI)] f120_L15_g f120_L15_next f120_L15_ok fun y x => [ex 1 (some (f120_L15_e1 y x)) [(2, vI)] ((f120_L15_x1_0 y x), ()), ex 4 (some (f120_L15_e4 y x)) [] ()]
def f120t (p0 : D113) : Prop × Int :=
 let v11 := (!(f121 p0.1 (1 : Int) (65536 : Int)))
 let v17 := (bif v11 then true else (!(f121 p0.2.1 (0 : Int) (65536 : Int))))
 let v23 := (bif v17 then true else (!(f121 p0.2.2.1 (0 : Int) (65536 : Int))))
 let v33 := (bif (decide ((len p0.2.2.2.1) > 256)) then true else (decide ((len p0.2.2.2.2.1) > 256)))
 let y6 := (p0, p0.2.2.2.1, (len p0.2.2.2.1), ())
 let x6 := ((0 : Int), ())
 let e6 := (loopEnd (f120_L6_g y6) (f120_L6_next y6) x6)
 let y15 := (p0, p0.2.2.2.2.1, (len p0.2.2.2.2.1), ())
 let x15 := ((0 : Int), ())
 let e15 := (loopEnd (f120_L15_g y15) (f120_L15_next y15) x15)
 (((f121_ok p0.1 (1 : Int) (65536 : Int)) ∧ (((!v11) = true → (f121_ok p0.2.1 (0 : Int) (65536 : Int))) ∧ (((!v17) = true → (f121_ok p0.2.2.1 (0 : Int) (65536 : Int))) ∧ ((!v23) = true → ((!v33) = true → ((Am.Ends (f120_L6_g y6) (f120_L6_next y6) (f120_L6_ok y6) x6) ∧ ((f120_L6_e2 y6 e6) = true → (Am.Ends (f120_L15_g y15) (f120_L15_next y15) (f120_L15_ok y15) x15)))))))), (bif v23 then (2 : Int) else (bif v33 then (3 : Int) else (bif (f120_L6_e1 y6 e6) then (f120_L6_x1_0 y6 e6) else (bif (f120_L15_e1 y15 e15) then (f120_L15_x1_0 y15 e15) else (0 : Int))))))
def f120_ok (p0 : D113) : Prop := (f120t p0).1
def f120 (p0 : D113) : Int := (f120t p0).2
instance (p0 : D113) : Decidable (f120_ok p0) := by
 unfold f120_ok f120t
 try dsimp only
 infer_instance
def f120_spec : Am.Spec := fnSpec [(0, (.val T113))] vI [] (fun x => f120_ok x.1) (fun x => f120 x.1) (fun _ => ())
def f120_ctx : Ctx := Cx tys [(121, f121_spec), (135, f135_spec), (136, f136_spec)] [(6, f120_L6_spec), (15, f120_L15_spec)] [] false 88 [] []
theorem f120_cok : CtxOk Tryz.prog f120_ctx := ctxOk_mk tys_ok rfl ⟨f121_is, f135_is, f136_is, trivial⟩ rfl (by kernel_rfl)
noncomputable def f120_code : Code := Tryz.f120.body.getD .skip
noncomputable def f120_L6 : Code := nthLoop f120_code 0
theorem f120_L6_is : LoopSnd Tryz.prog f120_ctx f120_L6 := lgen f120_cok mixed (sp := f120_L6_spec) rfl [[(2, vI)], [(1, (.box T113 (.val T113)))]] (bs := []) (by kernel_rfl) trivial (by kernel_rfl) (by kernel_rfl) fun y x => by kernel_rfl
noncomputable def f120_L15 : Code := nthLoop f120_code 1
theorem f120_L15_is : LoopSnd Tryz.prog f120_ctx f120_L15 := lgen f120_cok mixed (sp := f120_L15_spec) rfl [[(2, vI)], []] (bs := []) (by kernel_rfl) trivial (by kernel_rfl) (by kernel_rfl) fun y x => by kernel_rfl
theorem f120_is : SpecOk Tryz.prog 120 f120_spec := fgen f120_cok mixed Tryz.func120 (by kernel_rfl) (bs := [f120_L6, f120_L15]) (by kernel_rfl) ⟨f120_L6_is, f120_L15_is, trivial⟩ fun x => by kernel_rfl
abbrev f101_L5_Y : Type := ((List UInt8) × Int × Int × Int × Unit)
abbrev f101_L5_X : Type := (Int × Unit)
def f101_L5t (y : f101_L5_Y) (x : f101_L5_X) : Prop × Bool × f101_L5_X × Bool × Bool :=
 let a1 := y.1
 let a18 := x.1
 let v19 := (decide (a18 < y.2.2.2.1))
 let v24 := (decide ((byteAt a1 a18) < 32))
 let v30 := (bif v24 then true else (decide ((byteAt a1 a18) > 126)))
 let v36 := (bif v30 then ((byteAt a1 a18) != 10) else false)
 ((v19 = true → (InB a18 (len a1) ∧ (((!v24) = true → InB a18 (len a1)) ∧ ((v30 = true → InB a18 (len a1)) ∧ ((!v36) = true → InR (a18 + 1)))))), (v19 && (!v36)), ((a18 + 1), ()), (v19 && v36), (!v19))
def f101_L5_ok (y : f101_L5_Y) (x : f101_L5_X) : Prop := (f101_L5t y x).1
def f101_L5_g (y : f101_L5_Y) (x : f101_L5_X) : Bool := (f101_L5t y x).2.1
def f101_L5_next (y : f101_L5_Y) (x : f101_L5_X) : f101_L5_X := (f101_L5t y x).2.2.1
def f101_L5_e1 (y : f101_L5_Y) (x : f101_L5_X) : Bool := (f101_L5t y x).2.2.2.1
def f101_L5_e2 (y : f101_L5_Y) (x : f101_L5_X) : Bool := (f101_L5t y x).2.2.2.2
instance (y : f101_L5_Y) (x : f101_L5_X) : Decidable (f101_L5_ok y x) := by
 unfold f101_L5_ok f101_L5t
 try dsimp only
 infer_instance
def f101_L5_x1_0 (y : f101_L5_Y) (x : f101_L5_X) : Int :=
 (4 : Int)
def f101_L5_spec : St → Option Out := loopS [(1, vS), (2, vI), (3, vI), (17, vI)] [(18, vI)] f101_L5_g f101_L5_next f101_L5_ok fun y x => [ex 1 (some (f101_L5_e1 y x)) [(8, vI)] ((f101_L5_x1_0 y x), ()), ex 2 (some (f101_L5_e2 y x)) [(1, vS), (2, vI), (3, vI)] (y.1, y.2.1, y.2.2.1, ())]
def f101t (p0 : D113) (p1 : (List UInt8)) (p2 : Int) (p3 : Int) : Prop × Int :=
 let v12 := (f120 p0)
 let v14 := (v12 != 0)
 let y5 := (p1, p2, p3, (len p1), ())
 let x5 := ((0 : Int), ())
 let e5 := (loopEnd (f101_L5_g y5) (f101_L5_next y5) x5)
 let v40 := (decide ((len p1) > 128))
 let v43 := (!(f121 p2 (1 : Int) (1048576 : Int)))
 let m8_3 := (bif v14 then v12 else (bif (f101_L5_e1 y5 e5) then (f101_L5_x1_0 y5 e5) else (bif v40 then (3 : Int) else (bif (bif v43 then true else (!(f121 p3 (0 : Int) (1048576 : Int)))) then (2 : Int) else (0 : Int)))))
 (((f120_ok p0) ∧ ((!v14) = true → ((Am.Ends (f101_L5_g y5) (f101_L5_next y5) (f101_L5_ok y5) x5) ∧ ((f101_L5_e2 y5 e5) = true → ((!v40) = true → ((f121_ok p2 (1 : Int) (1048576 : Int)) ∧ ((!v43) = true → (f121_ok p3 (0 : Int) (1048576 : Int))))))))), m8_3)
def f101_ok (p0 : D113) (p1 : (List UInt8)) (p2 : Int) (p3 : Int) : Prop := (f101t p0 p1 p2 p3).1
def f101 (p0 : D113) (p1 : (List UInt8)) (p2 : Int) (p3 : Int) : Int := (f101t p0 p1 p2 p3).2
instance (p0 : D113) (p1 : (List UInt8)) (p2 : Int) (p3 : Int) : Decidable (f101_ok p0 p1 p2 p3) := by
 unfold f101_ok f101t
 try dsimp only
 infer_instance
def f101_spec : Am.Spec := fnSpec [(0, (.val T113)), (1, vS), (2, vI), (3, vI)] vI [] (fun x => f101_ok x.1 x.2.1 x.2.2.1 x.2.2.2.1) (fun x => f101 x.1 x.2.1 x.2.2.1 x.2.2.2.1) (fun _ => ())
def f101_ctx : Ctx := Cx tys [(120, f120_spec), (121, f121_spec)] [(5, f101_L5_spec)] [] false 49 [] []
theorem f101_cok : CtxOk Tryz.prog f101_ctx := ctxOk_mk tys_ok rfl ⟨f120_is, f121_is, trivial⟩ rfl (by kernel_rfl)
noncomputable def f101_code : Code := Tryz.f101.body.getD .skip
noncomputable def f101_L5 : Code := nthLoop f101_code 0
theorem f101_L5_is : LoopSnd Tryz.prog f101_ctx f101_L5 := lgen f101_cok mixed (sp := f101_L5_spec) rfl [[(8, vI)], [(1, vS), (2, vI), (3, vI)]] (bs := []) (by kernel_rfl) trivial (by kernel_rfl) (by kernel_rfl) fun y x => by kernel_rfl
theorem f101_is : SpecOk Tryz.prog 101 f101_spec := fgen f101_cok mixed Tryz.func101 (by kernel_rfl) (bs := [f101_L5]) (by kernel_rfl) ⟨f101_L5_is, trivial⟩ fun x => by kernel_rfl
abbrev f102_L4_Y : Type := (D113 × Unit × (D113 × (List Int) × Unit) × (List D143) × Int × Unit)
abbrev f102_L4_X : Type := (Int × Int × Unit)
def f102_L4t (y : f102_L4_Y) (x : f102_L4_X) : Prop × Bool × f102_L4_X :=
 let a14 := y.2.2.2.1
 let a16 := x.2.1
 let v17 := (decide (a16 < y.2.2.2.2.1))
 ((v17 = true → (InB a16 (len a14) ∧ InR (a16 + 1))), v17, ((bif ((nth a14 a16 Z143).1 == 63) then a16 else x.1), (a16 + 1), ()))
def f102_L4_ok (y : f102_L4_Y) (x : f102_L4_X) : Prop := (f102_L4t y x).1
def f102_L4_g (y : f102_L4_Y) (x : f102_L4_X) : Bool := (f102_L4t y x).2.1
def f102_L4_next (y : f102_L4_Y) (x : f102_L4_X) : f102_L4_X := (f102_L4t y x).2.2
instance (y : f102_L4_Y) (x : f102_L4_X) : Decidable (f102_L4_ok y x) := by
 unfold f102_L4_ok f102_L4t
 try dsimp only
 infer_instance
def f102_L4_x2_0 (y : f102_L4_Y) (x : f102_L4_X) : Int :=
 x.1
def f102_L4_l2 : List (Nat × Sh) := [(1, (.box T113 (.val T113))), (3, (.ref 12 T163)), (4, vI), (12, (.box T163 (.agg (.cons T113 (.cons (.arr 256 (.int .i64)) .nl)) (.cons (.val T113) (.cons (.val (.arr 256 (.int .i64))) .nl)))))]
def f102_L4_spec : St → Option Out := loopS [(1, (.box T113 (.val T113))), (3, (.ref 12 T163)), (12, (.box T163 (.agg (.cons T113 (.cons (.arr 256 (.int .i64)) .nl)) (.cons (.val T113) (.cons (.val (.arr 256 (.int .i64))) .nl))))), (14, (.val (.sl T143))), (15, vI)] [(4, vI), (16, vI)] f102_L4_g f102_L4_next f102_L4_ok fun y x => [ex 2 none f102_L4_l2 (y.1, y.2.1, (f102_L4_x2_0 y x), y.2.2.1, ())]
abbrev f102_L10_Y : Type := (D113 × Unit × Int × Unit)
abbrev f102_L10_X : Type := ((D113 × (List Int) × Unit) × Int × Unit)
def f102_L10t (y : f102_L10_Y) (x : f102_L10_X) : Prop × Bool × f102_L10_X :=
 let a12 := x.1
 let a26 := x.2.1
 let v27 := (decide (a26 < 256))
 ((v27 = true → (InB a26 256 ∧ InR (a26 + 1))), v27, ((a12.1, (List.set a12.2.1 (Int.toNat a26) y.2.2.1), ()), (a26 + 1), ()))
def f102_L10_ok (y : f102_L10_Y) (x : f102_L10_X) : Prop := (f102_L10t y x).1
def f102_L10_g (y : f102_L10_Y) (x : f102_L10_X) : Bool := (f102_L10t y x).2.1
def f102_L10_next (y : f102_L10_Y) (x : f102_L10_X) : f102_L10_X := (f102_L10t y x).2.2
instance (y : f102_L10_Y) (x : f102_L10_X) : Decidable (f102_L10_ok y x) := by
 unfold f102_L10_ok f102_L10t
 try dsimp only
 infer_instance
def f102_L10_x4_0 (y : f102_L10_Y) (x : f102_L10_X) : (D113 × (List Int) × Unit) :=
 let a12 := x.1
 (a12.1, a12.2.1, ())
def f102_L10_l4 : List (Nat × Sh) := [(1, (.box T113 (.val T113))), (3, (.ref 12 T163)), (12, (.box T163 (.agg (.cons T113 (.cons (.arr 256 (.int .i64)) .nl)) (.cons (.val T113) (.cons (.val (.arr 256 (.int .i64))) .nl)))))]
def f102_L10_spec : St → Option Out := loopS [(1, (.box T113 (.val T113))), (3, (.ref 12 T163)), (4, vI)] [(12, (.box T163 (.agg (.cons T113 (.cons (.arr 256 (.int .i64)) .nl)) (.cons (.val T113) (.cons (.val (.arr 256 (.int .i64))) .nl))))), (26, vI)] f102_L10_g f102_L10_next f102_L10_ok fun y x => [ex 4 none f102_L10_l4 (y.1, y.2.1, (f102_L10_x4_0 y x), ())]
abbrev f102_L15_Y : Type := (Unit × (List D143) × Int × Unit)
abbrev f102_L15_X : Type := ((D113 × (List Int) × Unit) × Int × Unit)
def f102_L15t (y : f102_L15_Y) (x : f102_L15_X) : Prop × Bool × f102_L15_X :=
 let a37 := y.2.1
 let a12 := x.1
 let a39 := x.2.1
 let v40 := (decide (a39 < y.2.2.1))
 let v42 := (nth a37 a39 Z143)
 ((v40 = true → (InB a39 (len a37) ∧ (InB v42.1 256 ∧ InR (a39 + 1)))), v40, ((a12.1, (List.set a12.2.1 (Int.toNat v42.1) a39), ()), (a39 + 1), ()))
def f102_L15_ok (y : f102_L15_Y) (x : f102_L15_X) : Prop := (f102_L15t y x).1
def f102_L15_g (y : f102_L15_Y) (x : f102_L15_X) : Bool := (f102_L15t y x).2.1
def f102_L15_next (y : f102_L15_Y) (x : f102_L15_X) : f102_L15_X := (f102_L15t y x).2.2
instance (y : f102_L15_Y) (x : f102_L15_X) : Decidable (f102_L15_ok y x) := by
 unfold f102_L15_ok f102_L15t
 try dsimp only
 infer_instance
def f102_L15_x6_0 (y : f102_L15_Y) (x : f102_L15_X) : (D113 × (List Int) × Unit) :=
 let a12 := x.1
 (a12.1, a12.2.1, ())
def f102_L15_l6 : List (Nat × Sh) := [(3, (.ref 12 T163)), (12, (.box T163 (.agg (.cons T113 (.cons (.arr 256 (.int .i64)) .nl)) (.cons (.val T113) (.cons (.val (.arr 256 (.int .i64))) .nl)))))]
def f102_L15_spec : St → Option Out := loopS [(3, (.ref 12 T163)), (37, (.val (.sl T143))), (38, vI)] [(12, (.box T163 (.agg (.cons T113 (.cons (.arr 256 (.int .i64)) .nl)) (.cons (.val T113) (.cons (.val (.arr 256 (.int .i64))) .nl))))), (39, vI)] f102_L15_g f102_L15_next f102_L15_ok fun y x => [ex 6 none f102_L15_l6 (y.1, (f102_L15_x6_0 y x), ())]
def f102t (p0 : D113) : Prop × D163 :=
 let y4 := (p0, (), (p0, (List.replicate 256 (0 : Int)), ()), p0.2.2.2.1, (len p0.2.2.2.1), ())
 let x4 := ((-1 : Int), (0 : Int), ())
 let y10 := (p0, (), (f102_L4_x2_0 y4 (loopEnd (f102_L4_g y4) (f102_L4_next y4) x4)), ())
 let x10 := ((p0, (List.replicate 256 (0 : Int)), ()), (0 : Int), ())
 let r10_4_0 := (f102_L10_x4_0 y10 (loopEnd (f102_L10_g y10) (f102_L10_next y10) x10))
 let y15 := ((), p0.2.2.2.1, (len p0.2.2.2.1), ())
 let x15 := ((r10_4_0.1, r10_4_0.2.1, ()), (0 : Int), ())
 let r15_6_0 := (f102_L15_x6_0 y15 (loopEnd (f102_L15_g y15) (f102_L15_next y15) x15))
 (((Am.Ends (f102_L4_g y4) (f102_L4_next y4) (f102_L4_ok y4) x4) ∧ ((Am.Ends (f102_L10_g y10) (f102_L10_next y10) (f102_L10_ok y10) x10) ∧ (Am.Ends (f102_L15_g y15) (f102_L15_next y15) (f102_L15_ok y15) x15))), (r15_6_0.1, r15_6_0.2.1, ()))
def f102_ok (p0 : D113) : Prop := (f102t p0).1
def f102 (p0 : D113) : D163 := (f102t p0).2
instance (p0 : D113) : Decidable (f102_ok p0) := by
 unfold f102_ok f102t
 try dsimp only
 infer_instance
def f102_spec : Am.Spec := fnSpec [(0, (.val T113))] (.val (.ptr T163)) [] (fun x => f102_ok x.1) (fun x => f102 x.1) (fun _ => ())
def f102_ctx : Ctx := Cx tys [] [(4, f102_L4_spec), (10, f102_L10_spec), (15, f102_L15_spec)] [(39, [(3, 12, 0, 0)])] false 53 [] []
theorem f102_cok : CtxOk Tryz.prog f102_ctx := ctxOk_mk tys_ok rfl trivial rfl (by kernel_rfl)
noncomputable def f102_code : Code := Tryz.f102.body.getD .skip
noncomputable def f102_L4 : Code := nthLoop f102_code 0
theorem f102_L4_is : LoopSnd Tryz.prog f102_ctx f102_L4 := lgen f102_cok mixed (sp := f102_L4_spec) rfl [f102_L4_l2] (bs := []) (by kernel_rfl) trivial (by kernel_rfl) (by kernel_rfl) fun y x => by kernel_rfl
noncomputable def f102_L10 : Code := nthLoop f102_code 1
theorem f102_L10_is : LoopSnd Tryz.prog f102_ctx f102_L10 := lgen f102_cok mixed (sp := f102_L10_spec) rfl [f102_L10_l4] (bs := []) (by kernel_rfl) trivial (by kernel_rfl) (by kernel_rfl) fun y x => by kernel_rfl
noncomputable def f102_L15 : Code := nthLoop f102_code 2
theorem f102_L15_is : LoopSnd Tryz.prog f102_ctx f102_L15 := lgen f102_cok mixed (sp := f102_L15_spec) rfl [f102_L15_l6] (bs := []) (by kernel_rfl) trivial (by kernel_rfl) (by kernel_rfl) fun y x => by kernel_rfl
theorem f102_is : SpecOk Tryz.prog 102 f102_spec := fgen f102_cok mixed Tryz.func102 (by kernel_rfl) (bs := [f102_L4, f102_L10, f102_L15]) (by kernel_rfl) ⟨f102_L4_is, f102_L10_is, f102_L15_is, trivial⟩ fun x => by kernel_rfl
abbrev f82_L25_Y : Type := (Int × D113 × D163 × (List (List D55)) × Int × Int × D55 × (List (List UInt8)) × Int × Int × (List D55) × Int × Int × (List (List D55)) × Int × Int × (List D55) × Int × Unit)
abbrev f82_L25_X : Type := ((List D55) × Int × Unit)
def f82_L25t (y : f82_L25_Y) (x : f82_L25_X) : Prop × Bool × f82_L25_X :=
 let a2 := y.1
 let a4 := y.2.1
 let a89 := y.2.2.2.2.2.2.2.2.2.2.2.2.2.2.2.2.1
 let a24 := x.1
 let a91 := x.2.1
 let v92 := (decide (a91 < y.2.2.2.2.2.2.2.2.2.2.2.2.2.2.2.2.2.1))
 let v94 := (nth a89 a91 Z55)
 let v104 := (IntKind.wrap .i64 ((IntKind.wrap .i64 (y.2.2.2.2.2.2.1.2.1 + v94.1)) * a2))
 let v119 := (IntKind.wrap .i64 ((IntKind.wrap .i64 ((IntKind.wrap .i64 (a4.2.1 + (IntKind.wrap .i64 (y.2.2.2.2.2.1 * a4.2.2.1)))) - v94.2.1)) * a2))
 ((v92 = true → (InB a91 (len a89) ∧ ((f52_ok v104 a4.1) ∧ ((f52_ok v119 a4.1) ∧ (InB a91 (len a24) ∧ a91 < len a24))))), v92, ((List.set a24 (Int.toNat a91) ((f52 v104 a4.1), (f52 v119 a4.1), ())), (IntKind.wrap .i64 (a91 + 1)), ()))
def f82_L25_ok (y : f82_L25_Y) (x : f82_L25_X) : Prop := (f82_L25t y x).1
def f82_L25_g (y : f82_L25_Y) (x : f82_L25_X) : Bool := (f82_L25t y x).2.1
def f82_L25_next (y : f82_L25_Y) (x : f82_L25_X) : f82_L25_X := (f82_L25t y x).2.2
instance (y : f82_L25_Y) (x : f82_L25_X) : Decidable (f82_L25_ok y x) := by
 unfold f82_L25_ok f82_L25t
 try dsimp only
 infer_instance
def f82_L25_x8_0 (y : f82_L25_Y) (x : f82_L25_X) : (List D55) :=
 x.1
def f82_L25_l8 : List (Nat × Sh) := [(2, vI), (4, (.box T113 (.val T113))), (11, (.val (.ptr T163))), (12, (.own (.sl T55) 1012 false)), (13, vI), (14, vI), (19, (.box T55 (.val T55))), (24, (.own T55 1024 true)), (41, (.val (.sl .str))), (42, vI), (43, vI), (54, (.own T55 1016 false)), (55, vI), (56, vI), (74, (.own (.sl T55) 1020 false)), (75, vI), (76, vI)]
def f82_L25_spec : St → Option Out := loopS [(2, vI), (4, (.box T113 (.val T113))), (11, (.val (.ptr T163))), (12, (.own (.sl T55) 1012 false)), (13, vI), (14, vI), (19, (.box T55 (.val T55))), (41, (.val (.sl .str))), (42, vI), (43, vI), (54, (.own T55 1016 false)), (55, vI), (56, vI), (74, (.own (.sl T55) 1020 false)), (75, vI), (76, vI), (89, (.val (.sl T55))), (90, vI)] [(24, (.own T55 1024 true)), (91, vI)] f82_L25_g f82_L25_next f82_L25_ok fun y x => [ex 8 none f82_L25_l8 (y.1, y.2.1, y.2.2.1, y.2.2.2.1, y.2.2.2.2.1, y.2.2.2.2.2.1, y.2.2.2.2.2.2.1, (f82_L25_x8_0 y x), y.2.2.2.2.2.2.2.1, y.2.2.2.2.2.2.2.2.1, y.2.2.2.2.2.2.2.2.2.1, y.2.2.2.2.2.2.2.2.2.2.1, y.2.2.2.2.2.2.2.2.2.2.2.1, y.2.2.2.2.2.2.2.2.2.2.2.2.1, y.2.2.2.2.2.2.2.2.2.2.2.2.2.1, y.2.2.2.2.2.2.2.2.2.2.2.2.2.2.1, y.2.2.2.2.2.2.2.2.2.2.2.2.2.2.2.1, ())]
abbrev f82_L18_Y : Type := (Int × D113 × D163 × Int × D55 × (List (List UInt8)) × Int × Int × (List D55) × Int × Int × (List (List D55)) × Int × Unit)
abbrev f82_L18_X : Type := ((List (List D55)) × Int × Int × Unit)
def f82_L18t (y : f82_L18_Y) (x : f82_L18_X) : Prop × Bool × f82_L18_X × Bool × Bool :=
 let a74 := y.2.2.2.2.2.2.2.2.2.2.2.1
 let a75 := y.2.2.2.2.2.2.2.2.2.2.2.2.1
 let a12 := x.1
 let a76 := x.2.2.1
 let v77 := (decide (a76 < a75))
 let v78 := (nth a74 a76 ([] : List D55))
 let v83 := (IntKind.wrap .i64 (x.2.1 + (len v78)))
 let v85 := (decide (v83 > 4096))
 let v87 := (len v78)
 let y25 := (y.1, y.2.1, y.2.2.1, a12, v83, y.2.2.2.1, y.2.2.2.2.1, y.2.2.2.2.2.1, y.2.2.2.2.2.2.1, y.2.2.2.2.2.2.2.1, y.2.2.2.2.2.2.2.2.1, y.2.2.2.2.2.2.2.2.2.1, y.2.2.2.2.2.2.2.2.2.2.1, a74, a75, a76, v78, (len v78), ())
 let x25 := ((List.replicate (Int.toNat v87) Z55), (0 : Int), ())
 let v128 := ([(f82_L25_x8_0 y25 (loopEnd (f82_L25_g y25) (f82_L25_next y25) x25))] : List (List D55))
 ((v77 = true → (InB a76 (len a74) ∧ ((!v85) = true → ((0 ≤ v87 ∧ v87 ≤ v87 ∧ v87 ≤ 4294967296) ∧ ((Am.Ends (f82_L25_g y25) (f82_L25_next y25) (f82_L25_ok y25) x25) ∧ ((List.length a12 + List.length v128 : Nat) : Int) ≤ 4294967296))))), (v77 && (!v85)), ((a12 ++ v128), v83, (IntKind.wrap .i64 (a76 + 1)), ()), (v77 && v85), (!v77))
def f82_L18_ok (y : f82_L18_Y) (x : f82_L18_X) : Prop := (f82_L18t y x).1
def f82_L18_g (y : f82_L18_Y) (x : f82_L18_X) : Bool := (f82_L18t y x).2.1
def f82_L18_next (y : f82_L18_Y) (x : f82_L18_X) : f82_L18_X := (f82_L18t y x).2.2.1
def f82_L18_e1 (y : f82_L18_Y) (x : f82_L18_X) : Bool := (f82_L18t y x).2.2.2.1
def f82_L18_e6 (y : f82_L18_Y) (x : f82_L18_X) : Bool := (f82_L18t y x).2.2.2.2
instance (y : f82_L18_Y) (x : f82_L18_X) : Decidable (f82_L18_ok y x) := by
 unfold f82_L18_ok f82_L18t
 try dsimp only
 infer_instance
def f82_L18_x1_0 (y : f82_L18_Y) (x : f82_L18_X) : (List (List D55)) :=
 ([] : List (List D55))
def f82_L18_x1_1 (y : f82_L18_Y) (x : f82_L18_X) : Int :=
 (3 : Int)
def f82_L18_l1 : List (Nat × Sh) := [(8, (.own (.sl T55) 0 false)), (9, vI)]
def f82_L18_x6_0 (y : f82_L18_Y) (x : f82_L18_X) : (List (List D55)) :=
 x.1
def f82_L18_x6_1 (y : f82_L18_Y) (x : f82_L18_X) : Int :=
 x.2.1
def f82_L18_l6 : List (Nat × Sh) := [(2, vI), (4, (.box T113 (.val T113))), (11, (.val (.ptr T163))), (12, (.own (.sl T55) 1012 false)), (13, vI), (14, vI), (41, (.val (.sl .str))), (42, vI), (43, vI), (54, (.own T55 1016 false)), (55, vI), (56, vI)]
def f82_L18_spec : St → Option Out := loopS [(2, vI), (4, (.box T113 (.val T113))), (11, (.val (.ptr T163))), (14, vI), (19, (.box T55 (.val T55))), (41, (.val (.sl .str))), (42, vI), (43, vI), (54, (.own T55 1016 false)), (55, vI), (56, vI), (74, (.own (.sl T55) 1020 false)), (75, vI)] [(12, (.own (.sl T55) 1012 false)), (13, vI), (76, vI)] f82_L18_g f82_L18_next f82_L18_ok fun y x => [ex 1 (some (f82_L18_e1 y x)) f82_L18_l1 ((f82_L18_x1_0 y x), (f82_L18_x1_1 y x), ()), ex 6 (some (f82_L18_e6 y x)) f82_L18_l6 (y.1, y.2.1, y.2.2.1, (f82_L18_x6_0 y x), (f82_L18_x6_1 y x), y.2.2.2.1, y.2.2.2.2.2.1, y.2.2.2.2.2.2.1, y.2.2.2.2.2.2.2.1, y.2.2.2.2.2.2.2.2.1, y.2.2.2.2.2.2.2.2.2.1, y.2.2.2.2.2.2.2.2.2.2.1, ())]
abbrev f82_L12_Y : Type := (Int × D113 × D163 × Int × (List (List UInt8)) × Int × Int × (List D55) × Int × Unit)
abbrev f82_L12_X : Type := ((List (List D55)) × Int × Int × Unit)
def f82_L12t (y : f82_L12_Y) (x : f82_L12_X) : Prop × Bool × f82_L12_X × Bool × Bool :=
 let a4 := y.2.1
 let a54 := y.2.2.2.2.2.2.2.1
 let a55 := y.2.2.2.2.2.2.2.2.1
 let a56 := x.2.2.1
 let v57 := (decide (a56 < a55))
 let v58 := (nth a54 a56 Z55)
 let v65 := (nth a4.2.2.2.1 v58.1 Z143)
 let v68 := (f78 v65.2.2.1)
 let v72 := (v68.2.1 != 0)
 let y18 := (y.1, a4, y.2.2.1, y.2.2.2.1, v58, y.2.2.2.2.1, y.2.2.2.2.2.1, y.2.2.2.2.2.2.1, a54, a55, a56, v68.1, (len v68.1), ())
 let x18 := (x.1, x.2.1, (0 : Int), ())
 let e18 := (loopEnd (f82_L18_g y18) (f82_L18_next y18) x18)
 ((v57 = true → (InB a56 (len a54) ∧ (InB v58.1 (len a4.2.2.2.1) ∧ ((f78_ok v65.2.2.1) ∧ ((!v72) = true → (Am.Ends (f82_L18_g y18) (f82_L18_next y18) (f82_L18_ok y18) x18)))))), (v57 && ((!v72) && (f82_L18_e6 y18 e18))), ((f82_L18_x6_0 y18 e18), (f82_L18_x6_1 y18 e18), (IntKind.wrap .i64 (a56 + 1)), ()), (v57 && (v72 || ((!v72) && (f82_L18_e1 y18 e18)))), (!v57))
def f82_L12_ok (y : f82_L12_Y) (x : f82_L12_X) : Prop := (f82_L12t y x).1
def f82_L12_g (y : f82_L12_Y) (x : f82_L12_X) : Bool := (f82_L12t y x).2.1
def f82_L12_next (y : f82_L12_Y) (x : f82_L12_X) : f82_L12_X := (f82_L12t y x).2.2.1
def f82_L12_e1 (y : f82_L12_Y) (x : f82_L12_X) : Bool := (f82_L12t y x).2.2.2.1
def f82_L12_e4 (y : f82_L12_Y) (x : f82_L12_X) : Bool := (f82_L12t y x).2.2.2.2
instance (y : f82_L12_Y) (x : f82_L12_X) : Decidable (f82_L12_ok y x) := by
 unfold f82_L12_ok f82_L12t
 try dsimp only
 infer_instance
def f82_L12_x1_0 (y : f82_L12_Y) (x : f82_L12_X) : (List (List D55)) :=
 let a4 := y.2.1
 let a54 := y.2.2.2.2.2.2.2.1
 let a56 := x.2.2.1
 let v58 := (nth a54 a56 Z55)
 let v68 := (f78 (nth a4.2.2.2.1 v58.1 Z143).2.2.1)
 let y18 := (y.1, a4, y.2.2.1, y.2.2.2.1, v58, y.2.2.2.2.1, y.2.2.2.2.2.1, y.2.2.2.2.2.2.1, a54, y.2.2.2.2.2.2.2.2.1, a56, v68.1, (len v68.1), ())
 (bif (v68.2.1 != 0) then [] else (f82_L18_x1_0 y18 (loopEnd (f82_L18_g y18) (f82_L18_next y18) (x.1, x.2.1, (0 : Int), ()))))
def f82_L12_x1_1 (y : f82_L12_Y) (x : f82_L12_X) : Int :=
 let a4 := y.2.1
 let a54 := y.2.2.2.2.2.2.2.1
 let a56 := x.2.2.1
 let v58 := (nth a54 a56 Z55)
 let v68 := (f78 (nth a4.2.2.2.1 v58.1 Z143).2.2.1)
 let y18 := (y.1, a4, y.2.2.1, y.2.2.2.1, v58, y.2.2.2.2.1, y.2.2.2.2.2.1, y.2.2.2.2.2.2.1, a54, y.2.2.2.2.2.2.2.2.1, a56, v68.1, (len v68.1), ())
 (bif (v68.2.1 != 0) then v68.2.1 else (f82_L18_x1_1 y18 (loopEnd (f82_L18_g y18) (f82_L18_next y18) (x.1, x.2.1, (0 : Int), ()))))
def f82_L12_l1 : List (Nat × Sh) := [(8, (.own (.sl T55) 0 false)), (9, vI)]
def f82_L12_x4_0 (y : f82_L12_Y) (x : f82_L12_X) : (List (List D55)) :=
 x.1
def f82_L12_x4_1 (y : f82_L12_Y) (x : f82_L12_X) : Int :=
 x.2.1
def f82_L12_l4 : List (Nat × Sh) := [(2, vI), (4, (.box T113 (.val T113))), (11, (.val (.ptr T163))), (12, (.own (.sl T55) 1012 false)), (13, vI), (41, (.val (.sl .str))), (42, vI), (43, vI)]
def f82_L12_spec : St → Option Out := loopS [(2, vI), (4, (.box T113 (.val T113))), (11, (.val (.ptr T163))), (14, vI), (41, (.val (.sl .str))), (42, vI), (43, vI), (54, (.own T55 1016 false)), (55, vI)] [(12, (.own (.sl T55) 1012 false)), (13, vI), (56, vI)] f82_L12_g f82_L12_next f82_L12_ok fun y x => [ex 1 (some (f82_L12_e1 y x)) f82_L12_l1 ((f82_L12_x1_0 y x), (f82_L12_x1_1 y x), ()), ex 4 (some (f82_L12_e4 y x)) f82_L12_l4 (y.1, y.2.1, y.2.2.1, (f82_L12_x4_0 y x), (f82_L12_x4_1 y x), y.2.2.2.2.1, y.2.2.2.2.2.1, y.2.2.2.2.2.2.1, ())]
abbrev f82_L8_Y : Type := (Int × D113 × D163 × (List (List UInt8)) × Int × Unit)
abbrev f82_L8_X : Type := ((List (List D55)) × Int × Int × Unit)
def f82_L8t (y : f82_L8_Y) (x : f82_L8_X) : Prop × Bool × f82_L8_X × Bool × Bool :=
 let a11 := y.2.2.1
 let a41 := y.2.2.2.1
 let a42 := y.2.2.2.2.1
 let a43 := x.2.2.1
 let v44 := (decide (a43 < a42))
 let v46 := (nth a41 a43 ([] : List UInt8))
 let v51 := (f104 a11 v46)
 let y12 := (y.1, y.2.1, a11, a43, a41, a42, a43, v51.1, (len v51.1), ())
 let x12 := (x.1, x.2.1, (0 : Int), ())
 let e12 := (loopEnd (f82_L12_g y12) (f82_L12_next y12) x12)
 ((v44 = true → (InB a43 (len a41) ∧ ((f104_ok a11 v46) ∧ (Am.Ends (f82_L12_g y12) (f82_L12_next y12) (f82_L12_ok y12) x12)))), (v44 && (f82_L12_e4 y12 e12)), ((f82_L12_x4_0 y12 e12), (f82_L12_x4_1 y12 e12), (IntKind.wrap .i64 (a43 + 1)), ()), (v44 && (f82_L12_e1 y12 e12)), (!v44))
def f82_L8_ok (y : f82_L8_Y) (x : f82_L8_X) : Prop := (f82_L8t y x).1
def f82_L8_g (y : f82_L8_Y) (x : f82_L8_X) : Bool := (f82_L8t y x).2.1
def f82_L8_next (y : f82_L8_Y) (x : f82_L8_X) : f82_L8_X := (f82_L8t y x).2.2.1
def f82_L8_e1 (y : f82_L8_Y) (x : f82_L8_X) : Bool := (f82_L8t y x).2.2.2.1
def f82_L8_e2 (y : f82_L8_Y) (x : f82_L8_X) : Bool := (f82_L8t y x).2.2.2.2
instance (y : f82_L8_Y) (x : f82_L8_X) : Decidable (f82_L8_ok y x) := by
 unfold f82_L8_ok f82_L8t
 try dsimp only
 infer_instance
def f82_L8_x1_0 (y : f82_L8_Y) (x : f82_L8_X) : (List (List D55)) :=
 let a11 := y.2.2.1
 let a41 := y.2.2.2.1
 let a43 := x.2.2.1
 let v51 := (f104 a11 (nth a41 a43 ([] : List UInt8)))
 let y12 := (y.1, y.2.1, a11, a43, a41, y.2.2.2.2.1, a43, v51.1, (len v51.1), ())
 (f82_L12_x1_0 y12 (loopEnd (f82_L12_g y12) (f82_L12_next y12) (x.1, x.2.1, (0 : Int), ())))
def f82_L8_x1_1 (y : f82_L8_Y) (x : f82_L8_X) : Int :=
 let a11 := y.2.2.1
 let a41 := y.2.2.2.1
 let a43 := x.2.2.1
 let v51 := (f104 a11 (nth a41 a43 ([] : List UInt8)))
 let y12 := (y.1, y.2.1, a11, a43, a41, y.2.2.2.2.1, a43, v51.1, (len v51.1), ())
 (f82_L12_x1_1 y12 (loopEnd (f82_L12_g y12) (f82_L12_next y12) (x.1, x.2.1, (0 : Int), ())))
def f82_L8_l1 : List (Nat × Sh) := [(8, (.own (.sl T55) 0 false)), (9, vI)]
def f82_L8_x2_0 (y : f82_L8_Y) (x : f82_L8_X) : (List (List D55)) :=
 x.1
def f82_L8_l2 : List (Nat × Sh) := [(12, (.own (.sl T55) 1012 false))]
def f82_L8_spec : St → Option Out := loopS [(2, vI), (4, (.box T113 (.val T113))), (11, (.val (.ptr T163))), (41, (.val (.sl .str))), (42, vI)] [(12, (.own (.sl T55) 1012 false)), (13, vI), (43, vI)] f82_L8_g f82_L8_next f82_L8_ok fun y x => [ex 1 (some (f82_L8_e1 y x)) f82_L8_l1 ((f82_L8_x1_0 y x), (f82_L8_x1_1 y x), ()), ex 2 (some (f82_L8_e2 y x)) f82_L8_l2 ((f82_L8_x2_0 y x), ())]
def f82t (p0 : D113) (p1 : (List UInt8)) (p2 : Int) (p3 : Int) : Prop × ((List (List D55)) × Int × Unit) :=
 let v31 := (f101 p0 p1 p2 p3)
 let v33 := (v31 != 0)
 let v36 := (f102 p0)
 let v41 := (f103 v36 p1 p2 p3)
 let y8 := (p2, p0, v36, v41, (len v41), ())
 let x8 := (([] : List (List D55)), (0 : Int), (0 : Int), ())
 let e8 := (loopEnd (f82_L8_g y8) (f82_L8_next y8) x8)
 let q8_1 := (f82_L8_e1 y8 e8)
 (((f101_ok p0 p1 p2 p3) ∧ ((!v33) = true → ((f102_ok p0) ∧ ((f103_ok v36 p1 p2 p3) ∧ (Am.Ends (f82_L8_g y8) (f82_L8_next y8) (f82_L8_ok y8) x8))))), ((bif v33 then [] else (bif q8_1 then (f82_L8_x1_0 y8 e8) else (f82_L8_x2_0 y8 e8))), (bif v33 then v31 else (bif q8_1 then (f82_L8_x1_1 y8 e8) else (0 : Int))), ()))
def f82_ok (p0 : D113) (p1 : (List UInt8)) (p2 : Int) (p3 : Int) : Prop := (f82t p0 p1 p2 p3).1
def f82 (p0 : D113) (p1 : (List UInt8)) (p2 : Int) (p3 : Int) : ((List (List D55)) × Int × Unit) := (f82t p0 p1 p2 p3).2
instance (p0 : D113) (p1 : (List UInt8)) (p2 : Int) (p3 : Int) : Decidable (f82_ok p0 p1 p2 p3) := by
 unfold f82_ok f82t
 try dsimp only
 infer_instance
def f82_spec : Am.Spec := fnSpec [(0, (.val T113)), (1, vS), (2, vI), (3, vI)] (.tup (.cons (.own (.sl T55) 0 false) (.cons vI .nl))) [] (fun x => f82_ok x.1 x.2.1 x.2.2.1 x.2.2.2.1) (fun x => f82 x.1 x.2.1 x.2.2.1 x.2.2.2.1) (fun _ => ())
def f82_ctx : Ctx := Cx tys [(52, f52_spec), (78, f78_spec), (101, f101_spec), (102, f102_spec), (103, f103_spec), (104, f104_spec)] [(25, f82_L25_spec), (18, f82_L18_spec), (12, f82_L12_spec), (8, f82_L8_spec)] [(21, [(4, 0, 51, 1016)]), (29, [(4, 0, 68, 1020)]), (47, [(4, 0, 88, 1024)]), (58, [(1, 24, 0, 0)]), (59, [(4, 0, 129, 1012)]), (67, [(4, 0, 1012, 0)])] true 134 [] [88]
theorem f82_cok : CtxOk Tryz.prog f82_ctx := ctxOk_mk tys_ok rfl ⟨f52_is, f78_is, f101_is, f102_is, f103_is, f104_is, trivial⟩ rfl (by kernel_rfl)
noncomputable def f82_code : Code := Tryz.f82.body.getD .skip
noncomputable def f82_L8 : Code := nthLoop f82_code 0
noncomputable def f82_L12 : Code := nthLoop f82_L8 0
noncomputable def f82_L18 : Code := nthLoop f82_L12 0
noncomputable def f82_L25 : Code := nthLoop f82_L18 0
theorem f82_L25_is : LoopSnd Tryz.prog f82_ctx f82_L25 := lgen f82_cok mixed (sp := f82_L25_spec) rfl [f82_L25_l8] (bs := []) (by kernel_rfl) trivial (by kernel_rfl) (by kernel_rfl) fun y x => by kernel_rfl
theorem f82_L18_is : LoopSnd Tryz.prog f82_ctx f82_L18 := lgen f82_cok mixed (sp := f82_L18_spec) rfl [f82_L18_l1, f82_L18_l6] (bs := [f82_L25]) (by kernel_rfl) ⟨f82_L25_is, trivial⟩ (by kernel_rfl) (by kernel_rfl) fun y x => by kernel_rfl
theorem f82_L12_is : LoopSnd Tryz.prog f82_ctx f82_L12 := lgen f82_cok mixed (sp := f82_L12_spec) rfl [f82_L12_l1, f82_L12_l4] (bs := [f82_L18]) (by kernel_rfl) ⟨f82_L18_is, trivial⟩ (by kernel_rfl) (by kernel_rfl) fun y x => by kernel_rfl
theorem f82_L8_is : LoopSnd Tryz.prog f82_ctx f82_L8 := lgen f82_cok mixed (sp := f82_L8_spec) rfl [f82_L8_l1, f82_L8_l2] (bs := [f82_L12]) (by kernel_rfl) ⟨f82_L12_is, trivial⟩ (by kernel_rfl) (by kernel_rfl) fun y x => by kernel_rfl
theorem f82_is : SpecOk Tryz.prog 82 f82_spec := fgen f82_cok mixed Tryz.func82 (by kernel_rfl) (bs := [f82_L8]) (by kernel_rfl) ⟨f82_L8_is, trivial⟩ fun x => by kernel_rfl
def f105 (p0 : List UInt8) : List (List UInt8) := Lib.fields p0
def f105_ok (p0 : List UInt8) : Prop := (List.length p0 : Int) ≤ 4294967280 ∧ (p0.all fun b => decide (b.toNat < 128)) = true
instance (p0 : List UInt8) : Decidable (f105_ok p0) := by
  unfold f105_ok
  infer_instance
def f105_ps : List (Nat × Sh) := [(0, (.val .str))]
def f105_rs : Sh := (.val (.sl .str))
def f105_os : List (Nat × Sh) := []
def f105_spec : Am.Spec := fnSpec f105_ps f105_rs f105_os (fun x => f105_ok x.1) (fun x => f105 x.1) (fun _ => ())
theorem tab0 : G0 = Lib.asciiSpaceTab := by kernel_rfl
theorem f105_is : SpecOk Tryz.prog 105 f105_spec := spec_strs (F := f105) (e := 9) (ok := f105_ok) ⟨_, Tryz.func105, by kernel_rfl, by decide⟩ fun s w χ hok hg =>
  Any.strings_Fields_core Tryz.lays157 (by kernel_rfl) s w (by have h1 := hok.1; rw [Array.length_toList] at h1; have h2 : s.data.size = s.size := rfl; omega)
    (fun j b hj => by have := List.all_eq_true.1 hok.2 b (List.mem_of_getElem? hj); simpa using this)
    (fun c hc => by
      have h1 := glob_row hg (g := 0) (n := 256) (k := .u8) (l := G0) (List.mem_cons_self ..) c hc
      rw [tab0, Lib.asciiSpaceTab_at c hc] at h1
      exact h1)
def f106t (p0 : (List UInt8)) (p1 : Int) : Prop × Int :=
 ((f128_ok p0 p1), (f128 p0 p1))
def f106_ok (p0 : (List UInt8)) (p1 : Int) : Prop := (f106t p0 p1).1
def f106 (p0 : (List UInt8)) (p1 : Int) : Int := (f106t p0 p1).2
instance (p0 : (List UInt8)) (p1 : Int) : Decidable (f106_ok p0 p1) := by
 unfold f106_ok f106t
 try dsimp only
 infer_instance
def f106_spec : Am.Spec := fnSpec [(0, vS), (1, (.val (.int .u8)))] vI [] (fun x => f106_ok x.1 x.2.1) (fun x => f106 x.1 x.2.1) (fun _ => ())
def f106_ctx : Ctx := Cx tys [(128, f128_spec)] [] [] false 8 [] []
theorem f106_cok : CtxOk Tryz.prog f106_ctx := ctxOk_mk tys_ok rfl ⟨f128_is, trivial⟩ rfl (by kernel_rfl)
theorem f106_is : SpecOk Tryz.prog 106 f106_spec := fgen f106_cok mixed Tryz.func106 (by kernel_rfl) (bs := []) (by kernel_rfl) trivial fun x => by kernel_rfl
def f129t (p0 : Int) (p1 : Int) (p2 : Int) (p3 : Int) : Prop × (List D58) :=
 let v30 := ([((1 : Int), ([(p0, p1, ()), Z55, Z55] : List D55), ()), ((2 : Int), ([(p2, p1, ()), Z55, Z55] : List D55), ()), ((2 : Int), ([(p2, p3, ()), Z55, Z55] : List D55), ()), ((2 : Int), ([(p0, p3, ()), Z55, Z55] : List D55), ()), ((5 : Int), (List.replicate 3 Z55), ())] : List D58)
 (True, v30)
def f129_ok (p0 : Int) (p1 : Int) (p2 : Int) (p3 : Int) : Prop := (f129t p0 p1 p2 p3).1
def f129 (p0 : Int) (p1 : Int) (p2 : Int) (p3 : Int) : (List D58) := (f129t p0 p1 p2 p3).2
instance (p0 : Int) (p1 : Int) (p2 : Int) (p3 : Int) : Decidable (f129_ok p0 p1 p2 p3) := by
 unfold f129_ok f129t
 try dsimp only
 infer_instance
def f129_spec : Am.Spec := fnSpec [(0, vI), (1, vI), (2, vI), (3, vI)] (.own T58 0 false) [] (fun x => f129_ok x.1 x.2.1 x.2.2.1 x.2.2.2.1) (fun x => f129 x.1 x.2.1 x.2.2.1 x.2.2.2.1) (fun _ => ())
def f129_ctx : Ctx := Cx tys [] [] [(3, [(4, 0, 30, 0)])] false 31 [] []
theorem f129_cok : CtxOk Tryz.prog f129_ctx := ctxOk_mk tys_ok rfl trivial rfl (by kernel_rfl)
theorem f129_is : SpecOk Tryz.prog 129 f129_spec := fgen f129_cok mixed Tryz.func129 (by kernel_rfl) (bs := []) (by kernel_rfl) trivial fun x => by kernel_rfl
abbrev f107_L7_Y : Type := (Int × Int × (List D58) × Int × Unit)
abbrev f107_L7_X : Type := (Int × Unit)
def f107_L7t (y : f107_L7_Y) (x : f107_L7_X) : Prop × Bool × f107_L7_X :=
 let a7 := x.1
 let v20 := (decide ((a7 + 1) < 7))
 let v24 := (a7 + 1)
 let v28 := (bif v20 then ((iand .i64 (ishr y.2.1 v24 64) (1 : Int)) == 1) else false)
 ((InR (a7 + 1) ∧ ((v20 = true → InR (a7 + 1)) ∧ ((v20 = true → 0 ≤ v24) ∧ (v28 = true → InR (a7 + 1))))), v28, ((a7 + 1), ()))
def f107_L7_ok (y : f107_L7_Y) (x : f107_L7_X) : Prop := (f107_L7t y x).1
def f107_L7_g (y : f107_L7_Y) (x : f107_L7_X) : Bool := (f107_L7t y x).2.1
def f107_L7_next (y : f107_L7_Y) (x : f107_L7_X) : f107_L7_X := (f107_L7t y x).2.2
instance (y : f107_L7_Y) (x : f107_L7_X) : Decidable (f107_L7_ok y x) := by
 unfold f107_L7_ok f107_L7t
 try dsimp only
 infer_instance
def f107_L7_x4_0 (y : f107_L7_Y) (x : f107_L7_X) : Int :=
 x.1
def f107_L7_l4 : List (Nat × Sh) := [(0, vI), (1, vI), (5, (.own T58 1005 false)), (6, vI), (7, vI)]
def f107_L7_spec : St → Option Out := loopS [(0, vI), (1, vI), (5, (.own T58 1005 false)), (6, vI)] [(7, vI)] f107_L7_g f107_L7_next f107_L7_ok fun y x => [ex 4 none f107_L7_l4 (y.1, y.2.1, y.2.2.1, y.2.2.2.1, (f107_L7_x4_0 y x), ())]
abbrev f107_L3_Y : Type := (Unit)
abbrev f107_L3_X : Type := (Int × Int × (List D58) × Int × Unit)
def f107_L3t (y : f107_L3_Y) (x : f107_L3_X) : Prop × Bool × f107_L3_X :=
 let a0 := x.1
 let a1 := x.2.1
 let a5 := x.2.2.1
 let a6 := x.2.2.2.1
 let v9 := (decide (a6 < 7))
 let v16 := ((iand .i64 (ishr a1 a6 64) (1 : Int)) == 0)
 let y7 := (a0, a1, a5, a6, ())
 let x7 := (a6, ())
 let r7_4_0 := (f107_L7_x4_0 y7 (loopEnd (f107_L7_g y7) (f107_L7_next y7) x7))
 let v33 := (100 * a0)
 let v35 := (100 * a6)
 let v36 := (700 - v35)
 let v38 := (100 * a0)
 let v39 := (v38 + 100)
 let v41 := (100 * r7_4_0)
 let v42 := (600 - v41)
 let v43 := (f129 v33 v36 v39 v42)
 let c := (v16 || (!v16))
 let m6 := (bif v16 then a6 else r7_4_0)
 ((v9 = true → (0 ≤ a6 ∧ (((!v16) = true → ((Am.Ends (f107_L7_g y7) (f107_L7_next y7) (f107_L7_ok y7) x7) ∧ (InR (100 * a0) ∧ (InR (100 * a6) ∧ (InR (700 - v35) ∧ (InR (100 * a0) ∧ (InR (v38 + 100) ∧ (InR (100 * r7_4_0) ∧ (InR (600 - v41) ∧ ((f129_ok v33 v36 v39 v42) ∧ ((List.length a5 + List.length v43 : Nat) : Int) ≤ 4294967296)))))))))) ∧ (c = true → InR (m6 + 1))))), (v9 && c), ((bif v16 then a0 else a0), (bif v16 then a1 else a1), (bif v16 then a5 else (a5 ++ v43)), (m6 + 1), ()))
def f107_L3_ok (y : f107_L3_Y) (x : f107_L3_X) : Prop := (f107_L3t y x).1
def f107_L3_g (y : f107_L3_Y) (x : f107_L3_X) : Bool := (f107_L3t y x).2.1
def f107_L3_next (y : f107_L3_Y) (x : f107_L3_X) : f107_L3_X := (f107_L3t y x).2.2
instance (y : f107_L3_Y) (x : f107_L3_X) : Decidable (f107_L3_ok y x) := by
 unfold f107_L3_ok f107_L3t
 try dsimp only
 infer_instance
def f107_L3_x2_0 (y : f107_L3_Y) (x : f107_L3_X) : (List D58) :=
 x.2.2.1
def f107_L3_spec : St → Option Out := loopS [] [(0, vI), (1, vI), (5, (.own T58 1005 false)), (6, vI)] f107_L3_g f107_L3_next f107_L3_ok fun y x => [ex 2 none [(5, (.own T58 1005 false))] ((f107_L3_x2_0 y x), ())]
def f107t (p0 : Int) (p1 : Int) : Prop × (List D58) :=
 let x3 := (p0, p1, ([] : List D58), (0 : Int), ())
 ((Am.Ends (f107_L3_g ()) (f107_L3_next ()) (f107_L3_ok ()) x3), (f107_L3_x2_0 () (loopEnd (f107_L3_g ()) (f107_L3_next ()) x3)))
def f107_ok (p0 : Int) (p1 : Int) : Prop := (f107t p0 p1).1
def f107 (p0 : Int) (p1 : Int) : (List D58) := (f107t p0 p1).2
instance (p0 : Int) (p1 : Int) : Decidable (f107_ok p0 p1) := by
 unfold f107_ok f107t
 try dsimp only
 infer_instance
def f107_spec : Am.Spec := fnSpec [(0, vI), (1, vI)] (.own T58 0 false) [] (fun x => f107_ok x.1 x.2.1) (fun x => f107 x.1 x.2.1) (fun _ => ())
def f107_ctx : Ctx := Cx tys [(129, f129_spec)] [(7, f107_L7_spec), (3, f107_L3_spec)] [(19, [(4, 0, 44, 1005)]), (23, [(4, 0, 1005, 0)])] false 47 [] []
theorem f107_cok : CtxOk Tryz.prog f107_ctx := ctxOk_mk tys_ok rfl ⟨f129_is, trivial⟩ rfl (by kernel_rfl)
noncomputable def f107_code : Code := Tryz.f107.body.getD .skip
noncomputable def f107_L3 : Code := nthLoop f107_code 0
noncomputable def f107_L7 : Code := nthLoop f107_L3 0
theorem f107_L7_is : LoopSnd Tryz.prog f107_ctx f107_L7 := lgen f107_cok mixed (sp := f107_L7_spec) rfl [f107_L7_l4] (bs := []) (by kernel_rfl) trivial (by kernel_rfl) (by kernel_rfl) fun y x => by kernel_rfl
theorem f107_L3_is : LoopSnd Tryz.prog f107_ctx f107_L3 := lgen f107_cok mixed (sp := f107_L3_spec) rfl [[(5, (.own T58 1005 false))]] (bs := [f107_L7]) (by kernel_rfl) ⟨f107_L7_is, trivial⟩ (by kernel_rfl) (by kernel_rfl) fun y x => by kernel_rfl
theorem f107_is : SpecOk Tryz.prog 107 f107_spec := fgen f107_cok mixed Tryz.func107 (by kernel_rfl) (bs := [f107_L3]) (by kernel_rfl) ⟨f107_L3_is, trivial⟩ fun x => by kernel_rfl
abbrev f83_L7_Y : Type := ((List UInt8) × (List (List UInt8)) × Int × Int × Int × Unit)
abbrev f83_L7_X : Type := ((Int × Int × Int × (List D143) × (List D148) × Unit) × (Int × Int × Int × (List D143) × (List D148) × Unit) × (Int × Int × (List D58) × Unit) × Int × Unit)
def f83_L7t (y : f83_L7_Y) (x : f83_L7_X) : Prop × Bool × f83_L7_X :=
 let a3 := y.1
 let a0 := x.1
 let a1 := x.2.1
 let a4 := x.2.2.1
 let a22 := x.2.2.2.1
 let v23 := (decide (a22 < y.2.2.2.2.1))
 let v27 := (2 * a22)
 let v28 := (byteAt a3 v27)
 let v29 := (f106 ([48, 49, 50, 51, 52, 53, 54, 55, 56, 57, 97, 98, 99, 100, 101, 102] : List UInt8) v28)
 let v30 := (16 * v29)
 let v33 := (2 * a22)
 let v34 := (v33 + 1)
 let v35 := (byteAt a3 v34)
 let v36 := (f106 ([48, 49, 50, 51, 52, 53, 54, 55, 56, 57, 97, 98, 99, 100, 101, 102] : List UInt8) v35)
 let v37 := (v30 + v36)
 let v42 := (f107 a22 v37)
 ((v23 = true → (InR (2 * a22) ∧ (InB v27 (len a3) ∧ ((f106_ok ([48, 49, 50, 51, 52, 53, 54, 55, 56, 57, 97, 98, 99, 100, 101, 102] : List UInt8) v28) ∧ (InR (16 * v29) ∧ (InR (2 * a22) ∧ (InR (v33 + 1) ∧ (InB v34 (len a3) ∧ ((f106_ok ([48, 49, 50, 51, 52, 53, 54, 55, 56, 57, 97, 98, 99, 100, 101, 102] : List UInt8) v35) ∧ (InR (v30 + v36) ∧ ((f107_ok a22 v37) ∧ (((List.length a4.2.2.1 + List.length v42 : Nat) : Int) ≤ 4294967296 ∧ InR (a22 + 1))))))))))))), v23, ((a0.1, a0.2.1, a0.2.2.1, a0.2.2.2.1, a0.2.2.2.2.1, ()), (a1.1, a1.2.1, a1.2.2.1, a1.2.2.2.1, a1.2.2.2.2.1, ()), (a4.1, a4.2.1, (a4.2.2.1 ++ v42), ()), (a22 + 1), ()))
def f83_L7_ok (y : f83_L7_Y) (x : f83_L7_X) : Prop := (f83_L7t y x).1
def f83_L7_g (y : f83_L7_Y) (x : f83_L7_X) : Bool := (f83_L7t y x).2.1
def f83_L7_next (y : f83_L7_Y) (x : f83_L7_X) : f83_L7_X := (f83_L7t y x).2.2
instance (y : f83_L7_Y) (x : f83_L7_X) : Decidable (f83_L7_ok y x) := by
 unfold f83_L7_ok f83_L7t
 try dsimp only
 infer_instance
def f83_L7_x4_0 (y : f83_L7_Y) (x : f83_L7_X) : (Int × Int × Int × (List D143) × (List D148) × Unit) :=
 let a0 := x.1
 (a0.1, a0.2.1, a0.2.2.1, a0.2.2.2.1, a0.2.2.2.2.1, ())
def f83_L7_x4_1 (y : f83_L7_Y) (x : f83_L7_X) : (Int × Int × Int × (List D143) × (List D148) × Unit) :=
 let a1 := x.2.1
 (a1.1, a1.2.1, a1.2.2.1, a1.2.2.2.1, a1.2.2.2.2.1, ())
def f83_L7_x4_2 (y : f83_L7_Y) (x : f83_L7_X) : (Int × Int × (List D58) × Unit) :=
 let a4 := x.2.2.1
 (a4.1, a4.2.1, a4.2.2.1, ())
def f83_L7_l4 : List (Nat × Sh) := [(0, (.box T113 (.agg (.cons (.int .i64) (.cons (.int .i64) (.cons (.int .i64) (.cons (.sl T143) (.cons (.sl T148) .nl))))) (.cons vI (.cons vI (.cons vI (.cons (.own T143 400000 false) (.cons (.own T148 400001 false) .nl)))))))), (1, (.box T113 (.agg (.cons (.int .i64) (.cons (.int .i64) (.cons (.int .i64) (.cons (.sl T143) (.cons (.sl T148) .nl))))) (.cons vI (.cons vI (.cons vI (.cons (.own T143 400100 false) (.cons (.own T148 400101 false) .nl)))))))), (4, (.box T143 (.agg (.cons (.int .u8) (.cons (.int .i64) (.cons (.sl T58) .nl))) (.cons (.val (.int .u8)) (.cons vI (.cons (.own T58 400400 false) .nl)))))), (8, (.val (.sl .str))), (9, vI), (10, vI)]
def f83_L7_spec : St → Option Out := loopS [(3, vS), (8, (.val (.sl .str))), (9, vI), (10, vI), (21, vI)] [(0, (.box T113 (.agg (.cons (.int .i64) (.cons (.int .i64) (.cons (.int .i64) (.cons (.sl T143) (.cons (.sl T148) .nl))))) (.cons vI (.cons vI (.cons vI (.cons (.own T143 400000 false) (.cons (.own T148 400001 false) .nl)))))))), (1, (.box T113 (.agg (.cons (.int .i64) (.cons (.int .i64) (.cons (.int .i64) (.cons (.sl T143) (.cons (.sl T148) .nl))))) (.cons vI (.cons vI (.cons vI (.cons (.own T143 400100 false) (.cons (.own T148 400101 false) .nl)))))))), (4, (.box T143 (.agg (.cons (.int .u8) (.cons (.int .i64) (.cons (.sl T58) .nl))) (.cons (.val (.int .u8)) (.cons vI (.cons (.own T58 400400 false) .nl)))))), (22, vI)] f83_L7_g f83_L7_next f83_L7_ok fun y x => [ex 4 none f83_L7_l4 ((f83_L7_x4_0 y x), (f83_L7_x4_1 y x), (f83_L7_x4_2 y x), y.2.1, y.2.2.1, y.2.2.2.1, ())]
abbrev f83_L3_Y : Type := ((List (List UInt8)) × Int × Unit)
abbrev f83_L3_X : Type := ((Int × Int × Int × (List D143) × (List D148) × Unit) × (Int × Int × Int × (List D143) × (List D148) × Unit) × Int × Unit)
def f83_L3t (y : f83_L3_Y) (x : f83_L3_X) : Prop × Bool × f83_L3_X :=
 let a8 := y.1
 let a9 := y.2.1
 let a0 := x.1
 let a1 := x.2.1
 let a10 := x.2.2.1
 let v11 := (decide (a10 < a9))
 let v13 := (nth a8 a10 ([] : List UInt8))
 let v20 := (len v13)
 let y7 := (v13, a8, a9, a10, (Int.tdiv v20 (2 : Int)), ())
 let x7 := ((a0.1, a0.2.1, a0.2.2.1, a0.2.2.2.1, a0.2.2.2.2.1, ()), (a1.1, a1.2.1, a1.2.2.1, a1.2.2.2.1, a1.2.2.2.2.1, ()), ((IntKind.wrap .u8 (32 + a10)), (600 : Int), ([] : List D58), ()), (0 : Int), ())
 let e7 := (loopEnd (f83_L7_g y7) (f83_L7_next y7) x7)
 let r7_4_0 := (f83_L7_x4_0 y7 e7)
 let r7_4_1 := (f83_L7_x4_1 y7 e7)
 let r7_4_2 := (f83_L7_x4_2 y7 e7)
 let v49 := ([(r7_4_2.1, r7_4_2.2.1, r7_4_2.2.2.1, ())] : List D143)
 ((v11 = true → (InB a10 (len a8) ∧ (InR (32 + a10) ∧ (InR (Int.tdiv v20 (2 : Int)) ∧ ((Am.Ends (f83_L7_g y7) (f83_L7_next y7) (f83_L7_ok y7) x7) ∧ (((List.length r7_4_1.2.2.2.1 + List.length v49 : Nat) : Int) ≤ 4294967296 ∧ InR (a10 + 1))))))), v11, ((r7_4_0.1, r7_4_0.2.1, r7_4_0.2.2.1, r7_4_0.2.2.2.1, r7_4_0.2.2.2.2.1, ()), (r7_4_1.1, r7_4_1.2.1, r7_4_1.2.2.1, (r7_4_1.2.2.2.1 ++ v49), r7_4_1.2.2.2.2.1, ()), (a10 + 1), ()))
def f83_L3_ok (y : f83_L3_Y) (x : f83_L3_X) : Prop := (f83_L3t y x).1
def f83_L3_g (y : f83_L3_Y) (x : f83_L3_X) : Bool := (f83_L3t y x).2.1
def f83_L3_next (y : f83_L3_Y) (x : f83_L3_X) : f83_L3_X := (f83_L3t y x).2.2
instance (y : f83_L3_Y) (x : f83_L3_X) : Decidable (f83_L3_ok y x) := by
 unfold f83_L3_ok f83_L3t
 try dsimp only
 infer_instance
def f83_L3_x2_0 (y : f83_L3_Y) (x : f83_L3_X) : (Int × Int × Int × (List D143) × (List D148) × Unit) :=
 let a0 := x.1
 (a0.1, a0.2.1, a0.2.2.1, a0.2.2.2.1, a0.2.2.2.2.1, ())
def f83_L3_x2_1 (y : f83_L3_Y) (x : f83_L3_X) : (Int × Int × Int × (List D143) × (List D148) × Unit) :=
 let a1 := x.2.1
 (a1.1, a1.2.1, a1.2.2.1, a1.2.2.2.1, a1.2.2.2.2.1, ())
def f83_L3_l2 : List (Nat × Sh) := [(0, (.box T113 (.agg (.cons (.int .i64) (.cons (.int .i64) (.cons (.int .i64) (.cons (.sl T143) (.cons (.sl T148) .nl))))) (.cons vI (.cons vI (.cons vI (.cons (.own T143 400000 false) (.cons (.own T148 400001 false) .nl)))))))), (1, (.box T113 (.agg (.cons (.int .i64) (.cons (.int .i64) (.cons (.int .i64) (.cons (.sl T143) (.cons (.sl T148) .nl))))) (.cons vI (.cons vI (.cons vI (.cons (.own T143 400100 false) (.cons (.own T148 400101 false) .nl))))))))]
def f83_L3_spec : St → Option Out := loopS [(8, (.val (.sl .str))), (9, vI)] [(0, (.box T113 (.agg (.cons (.int .i64) (.cons (.int .i64) (.cons (.int .i64) (.cons (.sl T143) (.cons (.sl T148) .nl))))) (.cons vI (.cons vI (.cons vI (.cons (.own T143 400000 false) (.cons (.own T148 400001 false) .nl)))))))), (1, (.box T113 (.agg (.cons (.int .i64) (.cons (.int .i64) (.cons (.int .i64) (.cons (.sl T143) (.cons (.sl T148) .nl))))) (.cons vI (.cons vI (.cons vI (.cons (.own T143 400100 false) (.cons (.own T148 400101 false) .nl)))))))), (10, vI)] f83_L3_g f83_L3_next f83_L3_ok fun y x => [ex 2 none f83_L3_l2 ((f83_L3_x2_0 y x), (f83_L3_x2_1 y x), ())]
def f83t  : Prop × D113 :=
 let v8 := (f105 lit0)
 let y3 := (v8, (len v8), ())
 let x3 := (((0 : Int), (0 : Int), (0 : Int), ([] : List D143), ([] : List D148), ()), ((1000 : Int), (800 : Int), (1200 : Int), ([] : List D143), ([] : List D148), ()), (0 : Int), ())
 let r3_2_1 := (f83_L3_x2_1 y3 (loopEnd (f83_L3_g y3) (f83_L3_next y3) x3))
 let s_6 := (r3_2_1.1, r3_2_1.2.1, r3_2_1.2.2.1, r3_2_1.2.2.2.1, ([((65 : Int), (86 : Int), (-100 : Int), ()), ((76 : Int), (84 : Int), (-100 : Int), ()), ((84 : Int), (97 : Int), (-100 : Int), ()), ((86 : Int), (65 : Int), (-100 : Int), ())] : List D148), ())
 (((f105_ok lit0) ∧ (Am.Ends (f83_L3_g y3) (f83_L3_next y3) (f83_L3_ok y3) x3)), s_6)
def f83_ok  : Prop := (f83t).1
def f83  : D113 := (f83t).2
instance  : Decidable (f83_ok) := by
 unfold f83_ok f83t
 try dsimp only
 infer_instance
def f83_spec : Am.Spec := fnSpec [] (.val T113) [] (fun x => f83_ok ) (fun x => f83 ) (fun _ => ())
def f83_ctx : Ctx := Cx tys [(105, f105_spec), (106, f106_spec), (107, f107_spec)] [(7, f83_L7_spec), (3, f83_L3_spec)] [(21, [(4, 0, 43, 400400)]), (25, [(4, 0, 50, 400100)]), (29, [(4, 0, 57, 400101)]), (31, [(4, 0, 400100, 400000), (4, 0, 400101, 400001)])] false 60 [] []
theorem f83_cok : CtxOk Tryz.prog f83_ctx := ctxOk_mk tys_ok rfl ⟨f105_is, f106_is, f107_is, trivial⟩ rfl (by kernel_rfl)
noncomputable def f83_code : Code := Tryz.f83.body.getD .skip
noncomputable def f83_L3 : Code := nthLoop f83_code 0
noncomputable def f83_L7 : Code := nthLoop f83_L3 0
theorem f83_L7_is : LoopSnd Tryz.prog f83_ctx f83_L7 := lgen f83_cok mixed (sp := f83_L7_spec) rfl [f83_L7_l4] (bs := []) (by kernel_rfl) trivial (by kernel_rfl) (by kernel_rfl) fun y x => by kernel_rfl
theorem f83_L3_is : LoopSnd Tryz.prog f83_ctx f83_L3 := lgen f83_cok mixed (sp := f83_L3_spec) rfl [f83_L3_l2] (bs := [f83_L7]) (by kernel_rfl) ⟨f83_L7_is, trivial⟩ (by kernel_rfl) (by kernel_rfl) fun y x => by kernel_rfl
theorem f83_is : SpecOk Tryz.prog 83 f83_spec := fgen f83_cok mixed Tryz.func83 (by kernel_rfl) (bs := [f83_L3]) (by kernel_rfl) ⟨f83_L3_is, trivial⟩ fun x => by kernel_rfl
abbrev f84_L6_Y : Type := ((List (List D55)) × D25 × (List (List D55)) × Int × Unit)
abbrev f84_L6_X : Type := (Int × Int × Unit)
def f84_L6t (y : f84_L6_Y) (x : f84_L6_X) : Prop × Bool × f84_L6_X × Bool × Bool :=
 let a21 := y.2.2.1
 let a7 := x.1
 let a23 := x.2.1
 let v24 := (decide (a23 < y.2.2.2.1))
 let v29 := (len (nth a21 a23 ([] : List D55)))
 let v30 := (a7 + v29)
 let v32 := (decide (v30 > 4096))
 ((v24 = true → (InB a23 (len a21) ∧ (InR (a7 + v29) ∧ ((!v32) = true → InR (a23 + 1))))), (v24 && (!v32)), (v30, (a23 + 1), ()), (v24 && v32), (!v24))
def f84_L6_ok (y : f84_L6_Y) (x : f84_L6_X) : Prop := (f84_L6t y x).1
def f84_L6_g (y : f84_L6_Y) (x : f84_L6_X) : Bool := (f84_L6t y x).2.1
def f84_L6_next (y : f84_L6_Y) (x : f84_L6_X) : f84_L6_X := (f84_L6t y x).2.2.1
def f84_L6_e1 (y : f84_L6_Y) (x : f84_L6_X) : Bool := (f84_L6t y x).2.2.2.1
def f84_L6_e2 (y : f84_L6_Y) (x : f84_L6_X) : Bool := (f84_L6t y x).2.2.2.2
instance (y : f84_L6_Y) (x : f84_L6_X) : Decidable (f84_L6_ok y x) := by
 unfold f84_L6_ok f84_L6t
 try dsimp only
 infer_instance
def f84_L6_x1_0 (y : f84_L6_Y) (x : f84_L6_X) : (List (List D55)) :=
 ([] : List (List D55))
def f84_L6_x1_1 (y : f84_L6_Y) (x : f84_L6_X) : Int :=
 (3 : Int)
def f84_L6_l1 : List (Nat × Sh) := [(4, (.own (.sl T55) 0 false)), (5, vI)]
def f84_L6_l2 : List (Nat × Sh) := [(0, (.val (.sl (.sl T55)))), (3, (.box T25 (.val T25)))]
def f84_L6_spec : St → Option Out := loopS [(0, (.val (.sl (.sl T55)))), (3, (.box T25 (.val T25))), (21, (.val (.sl (.sl T55)))), (22, vI)] [(7, vI), (23, vI)] f84_L6_g f84_L6_next f84_L6_ok fun y x => [ex 1 (some (f84_L6_e1 y x)) f84_L6_l1 ((f84_L6_x1_0 y x), (f84_L6_x1_1 y x), ()), ex 2 (some (f84_L6_e2 y x)) f84_L6_l2 (y.1, y.2.1, ())]
abbrev f84_L18_Y : Type := (D25 × Int × (List (List D55)) × Int × Int × (List D55) × Int × Unit)
abbrev f84_L18_X : Type := (((List (List D55)) × Nat) × Int × Unit)
def f84_L18t (y : f84_L18_Y) (x : f84_L18_X) : Prop × Bool × f84_L18_X × Bool × Bool :=
 let a3 := y.1
 let a11 := y.2.1
 let a50 := y.2.2.2.2.2.1
 let a10 := x.1
 let a52 := x.2.1
 let v53 := (decide (a52 < y.2.2.2.2.2.2.1))
 let v55 := (nth a50 a52 Z55)
 let v58 := (f97 v55)
 let v61 := (f96 a3 v55)
 let v63 := (f97 v61)
 let v67 := (List.getD a10.1 a10.2 [])
 let c := ((!v58) && (!v63))
 ((v53 = true → (InB a52 (len a50) ∧ ((f97_ok v55) ∧ (((!v58) = true → ((f96_ok a3 v55) ∧ ((f97_ok v61) ∧ ((!v63) = true → (InB a11 (len a10.1) ∧ ((Int.toNat a11 = a10.2 ∧ a11 < len a10.1) ∧ (InB a52 (len v67) ∧ a52 < len v67))))))) ∧ (c = true → InR (a52 + 1)))))), (v53 && c), (((List.set a10.1 a10.2 (List.set (List.getD a10.1 a10.2 []) (Int.toNat a52) v61)), a10.2), (a52 + 1), ()), (v53 && (v58 || ((!v58) && v63))), (!v53))
def f84_L18_ok (y : f84_L18_Y) (x : f84_L18_X) : Prop := (f84_L18t y x).1
def f84_L18_g (y : f84_L18_Y) (x : f84_L18_X) : Bool := (f84_L18t y x).2.1
def f84_L18_next (y : f84_L18_Y) (x : f84_L18_X) : f84_L18_X := (f84_L18t y x).2.2.1
def f84_L18_e1 (y : f84_L18_Y) (x : f84_L18_X) : Bool := (f84_L18t y x).2.2.2.1
def f84_L18_e6 (y : f84_L18_Y) (x : f84_L18_X) : Bool := (f84_L18t y x).2.2.2.2
instance (y : f84_L18_Y) (x : f84_L18_X) : Decidable (f84_L18_ok y x) := by
 unfold f84_L18_ok f84_L18t
 try dsimp only
 infer_instance
def f84_L18_x1_0 (y : f84_L18_Y) (x : f84_L18_X) : (List (List D55)) :=
 ([] : List (List D55))
def f84_L18_x1_1 (y : f84_L18_Y) (x : f84_L18_X) : Int :=
 (bif (f97 (nth y.2.2.2.2.2.1 x.2.1 Z55)) then (2 : Int) else (2 : Int))
def f84_L18_l1 : List (Nat × Sh) := [(4, (.own (.sl T55) 0 false)), (5, vI)]
def f84_L18_x6_0 (y : f84_L18_Y) (x : f84_L18_X) : ((List (List D55)) × Nat) :=
 let a10 := x.1
 (a10.1, a10.2)
def f84_L18_l6 : List (Nat × Sh) := [(3, (.box T25 (.val T25))), (10, (.ownh T55 1010 48 true)), (37, (.val (.sl (.sl T55)))), (38, vI), (39, vI)]
def f84_L18_spec : St → Option Out := loopS [(3, (.box T25 (.val T25))), (11, vI), (37, (.val (.sl (.sl T55)))), (38, vI), (39, vI), (50, (.val (.sl T55))), (51, vI)] [(10, (.ownh T55 1010 48 true)), (52, vI)] f84_L18_g f84_L18_next f84_L18_ok fun y x => [ex 1 (some (f84_L18_e1 y x)) f84_L18_l1 ((f84_L18_x1_0 y x), (f84_L18_x1_1 y x), ()), ex 6 (some (f84_L18_e6 y x)) f84_L18_l6 (y.1, (f84_L18_x6_0 y x), y.2.2.1, y.2.2.2.1, y.2.2.2.2.1, ())]
abbrev f84_L14_Y : Type := (D25 × (List (List D55)) × Int × Unit)
abbrev f84_L14_X : Type := ((List (List D55)) × Int × Unit)
def f84_L14t (y : f84_L14_Y) (x : f84_L14_X) : Prop × Bool × f84_L14_X × Bool × Bool :=
 let a37 := y.2.1
 let a38 := y.2.2.1
 let a10 := x.1
 let a39 := x.2.1
 let v40 := (decide (a39 < a38))
 let v42 := (nth a37 a39 ([] : List D55))
 let v47 := (len v42)
 let y18 := (y.1, a39, a37, a38, a39, v42, (len v42), ())
 let x18 := (((List.set a10 (Int.toNat a39) (List.replicate (Int.toNat v47) Z55)), (Int.toNat a39)), (0 : Int), ())
 let e18 := (loopEnd (f84_L18_g y18) (f84_L18_next y18) x18)
 let q18_6 := (f84_L18_e6 y18 e18)
 ((v40 = true → (InB a39 (len a37) ∧ ((0 ≤ v47 ∧ v47 ≤ v47 ∧ v47 ≤ 4294967296) ∧ (InB a39 (len a10) ∧ (a39 < len a10 ∧ ((Am.Ends (f84_L18_g y18) (f84_L18_next y18) (f84_L18_ok y18) x18) ∧ (q18_6 = true → InR (a39 + 1)))))))), (v40 && q18_6), ((f84_L18_x6_0 y18 e18).1, (a39 + 1), ()), (v40 && (f84_L18_e1 y18 e18)), (!v40))
def f84_L14_ok (y : f84_L14_Y) (x : f84_L14_X) : Prop := (f84_L14t y x).1
def f84_L14_g (y : f84_L14_Y) (x : f84_L14_X) : Bool := (f84_L14t y x).2.1
def f84_L14_next (y : f84_L14_Y) (x : f84_L14_X) : f84_L14_X := (f84_L14t y x).2.2.1
def f84_L14_e1 (y : f84_L14_Y) (x : f84_L14_X) : Bool := (f84_L14t y x).2.2.2.1
def f84_L14_e4 (y : f84_L14_Y) (x : f84_L14_X) : Bool := (f84_L14t y x).2.2.2.2
instance (y : f84_L14_Y) (x : f84_L14_X) : Decidable (f84_L14_ok y x) := by
 unfold f84_L14_ok f84_L14t
 try dsimp only
 infer_instance
def f84_L14_x1_0 (y : f84_L14_Y) (x : f84_L14_X) : (List (List D55)) :=
 let a37 := y.2.1
 let a39 := x.2.1
 let v42 := (nth a37 a39 ([] : List D55))
 let y18 := (y.1, a39, a37, y.2.2.1, a39, v42, (len v42), ())
 (f84_L18_x1_0 y18 (loopEnd (f84_L18_g y18) (f84_L18_next y18) (((List.set x.1 (Int.toNat a39) (List.replicate (Int.toNat (len v42)) Z55)), (Int.toNat a39)), (0 : Int), ())))
def f84_L14_x1_1 (y : f84_L14_Y) (x : f84_L14_X) : Int :=
 let a37 := y.2.1
 let a39 := x.2.1
 let v42 := (nth a37 a39 ([] : List D55))
 let y18 := (y.1, a39, a37, y.2.2.1, a39, v42, (len v42), ())
 (f84_L18_x1_1 y18 (loopEnd (f84_L18_g y18) (f84_L18_next y18) (((List.set x.1 (Int.toNat a39) (List.replicate (Int.toNat (len v42)) Z55)), (Int.toNat a39)), (0 : Int), ())))
def f84_L14_l1 : List (Nat × Sh) := [(4, (.own (.sl T55) 0 false)), (5, vI)]
def f84_L14_x4_0 (y : f84_L14_Y) (x : f84_L14_X) : (List (List D55)) :=
 x.1
def f84_L14_l4 : List (Nat × Sh) := [(10, (.own (.sl T55) 1010 true))]
def f84_L14_spec : St → Option Out := loopS [(3, (.box T25 (.val T25))), (37, (.val (.sl (.sl T55)))), (38, vI)] [(10, (.own (.sl T55) 1010 true)), (39, vI)] f84_L14_g f84_L14_next f84_L14_ok fun y x => [ex 1 (some (f84_L14_e1 y x)) f84_L14_l1 ((f84_L14_x1_0 y x), (f84_L14_x1_1 y x), ()), ex 4 (some (f84_L14_e4 y x)) f84_L14_l4 ((f84_L14_x4_0 y x), ())]
def f84t (p0 : (List (List D55))) (p1 : D25) : Prop × ((List (List D55)) × Int × Unit) :=
 let v17 := (f24 p1)
 let v19 := (v17 != 0)
 let y6 := (p0, p1, p0, (len p0), ())
 let x6 := ((0 : Int), (0 : Int), ())
 let e6 := (loopEnd (f84_L6_g y6) (f84_L6_next y6) x6)
 let q6_1 := (f84_L6_e1 y6 e6)
 let v35 := (len p0)
 let y14 := (p1, p0, (len p0), ())
 let x14 := ((List.replicate (Int.toNat v35) ([] : List D55)), (0 : Int), ())
 let e14 := (loopEnd (f84_L14_g y14) (f84_L14_next y14) x14)
 let q14_1 := (f84_L14_e1 y14 e14)
 (((f24_ok p1) ∧ ((!v19) = true → ((Am.Ends (f84_L6_g y6) (f84_L6_next y6) (f84_L6_ok y6) x6) ∧ ((f84_L6_e2 y6 e6) = true → ((0 ≤ v35 ∧ v35 ≤ v35 ∧ v35 ≤ 4294967296) ∧ (Am.Ends (f84_L14_g y14) (f84_L14_next y14) (f84_L14_ok y14) x14)))))), ((bif v19 then [] else (bif q6_1 then (f84_L6_x1_0 y6 e6) else (bif q14_1 then (f84_L14_x1_0 y14 e14) else (f84_L14_x4_0 y14 e14)))), (bif v19 then v17 else (bif q6_1 then (f84_L6_x1_1 y6 e6) else (bif q14_1 then (f84_L14_x1_1 y14 e14) else (0 : Int)))), ()))
def f84_ok (p0 : (List (List D55))) (p1 : D25) : Prop := (f84t p0 p1).1
def f84 (p0 : (List (List D55))) (p1 : D25) : ((List (List D55)) × Int × Unit) := (f84t p0 p1).2
instance (p0 : (List (List D55))) (p1 : D25) : Decidable (f84_ok p0 p1) := by
 unfold f84_ok f84t
 try dsimp only
 infer_instance
def f84_spec : Am.Spec := fnSpec [(0, (.val (.sl (.sl T55)))), (1, (.val T25))] (.tup (.cons (.val (.sl (.sl T55))) (.cons vI .nl))) [] (fun x => f84_ok x.1 x.2.1) (fun x => f84 x.1 x.2.1) (fun _ => ())
def f84_ctx : Ctx := Cx tys [(24, f24_spec), (96, f96_spec), (97, f97_spec)] [(6, f84_L6_spec), (18, f84_L18_spec), (14, f84_L14_spec)] [(25, [(4, 0, 36, 1010)]), (54, [(1, 10, 0, 0)]), (57, [(1, 4, 0, 0), (4, 0, 1010, 0)])] false 74 [] [36, 48]
theorem f84_cok : CtxOk Tryz.prog f84_ctx := ctxOk_mk tys_ok rfl ⟨f24_is, f96_is, f97_is, trivial⟩ rfl (by kernel_rfl)
noncomputable def f84_code : Code := Tryz.f84.body.getD .skip
noncomputable def f84_L6 : Code := nthLoop f84_code 0
theorem f84_L6_is : LoopSnd Tryz.prog f84_ctx f84_L6 := lgen f84_cok mixed (sp := f84_L6_spec) rfl [f84_L6_l1, f84_L6_l2] (bs := []) (by kernel_rfl) trivial (by kernel_rfl) (by kernel_rfl) fun y x => by kernel_rfl
noncomputable def f84_L14 : Code := nthLoop f84_code 1
noncomputable def f84_L18 : Code := nthLoop f84_L14 0
theorem f84_L18_is : LoopSnd Tryz.prog f84_ctx f84_L18 := lgen f84_cok mixed (sp := f84_L18_spec) rfl [f84_L18_l1, f84_L18_l6] (bs := []) (by kernel_rfl) trivial (by kernel_rfl) (by kernel_rfl) fun y x => by kernel_rfl
theorem f84_L14_is : LoopSnd Tryz.prog f84_ctx f84_L14 := lgen f84_cok mixed (sp := f84_L14_spec) rfl [f84_L14_l1, f84_L14_l4] (bs := [f84_L18]) (by kernel_rfl) ⟨f84_L18_is, trivial⟩ (by kernel_rfl) (by kernel_rfl) fun y x => by kernel_rfl
theorem f84_is : SpecOk Tryz.prog 84 f84_spec := fgen f84_cok mixed Tryz.func84 (by kernel_rfl) (bs := [f84_L6, f84_L14]) (by kernel_rfl) ⟨f84_L6_is, f84_L14_is, trivial⟩ fun x => by kernel_rfl
end Go.Proofs.YthjoefjcljbapaaGreatDoor.Am
