/- Printed by program, part 2. No condition. -/
import Derived.Test.YtcjaalnbodmdgaaGreatDoorPatch
set_option linter.unusedVariables false
set_option synthInstance.maxSize 4000
set_option synthInstance.maxHeartbeats 400000
namespace Go.Proofs.YtcjaalnbodmdgaaGreatDoor.Am
open Go Go.Am

-- imageeditor/document.Find$1
def f95_v1t (p0 : D60) (p1 : Int) : Prop × Bool :=
 (True, (p0.1 == p1))
def f95_v1_ok (p0 : D60) (p1 : Int) : Prop := (f95_v1t p0 p1).1
def f95_v1 (p0 : D60) (p1 : Int) : Bool := (f95_v1t p0 p1).2
instance (p0 : D60) (p1 : Int) : Decidable (f95_v1_ok p0 p1) := by
 unfold f95_v1_ok f95_v1t
 try dsimp only
 infer_instance
def f95_v1_spec : Am.Spec := fnSpec [(0, (.val T60)), (1, (.val (.ptr (.int .i64))))] vB [] (fun x => f95_v1_ok x.1 x.2.1) (fun x => f95_v1 x.1 x.2.1) (fun _ => ())
def f95_v1_ctx : Ctx := Cx tys [] [] [] false 8 [] []
theorem f95_v1_cok : CtxOk Tryz.prog f95_v1_ctx := ctxOk_mk tys_ok rfl trivial rfl (by kernel_rfl)
theorem f95_v1_is : SpecOk Tryz.prog 95 f95_v1_spec := fgen f95_v1_cok mixed Tryz.func95 (by kernel_rfl) (bs := []) (by kernel_rfl) trivial fun x => by kernel_rfl

-- slices.IndexFunc[[]imageeditor/api.Node,imageeditor/api.Node]
abbrev f94_v1_L2_Y : Type := ((List D60) × (Int × Unit) × Int × Unit)
abbrev f94_v1_L2_X : Type := (Int × Unit)
def f94_v1_L2t (y : f94_v1_L2_Y) (x : f94_v1_L2_X) : Prop × Bool × f94_v1_L2_X × Bool × Bool :=
 let a0 := y.1 
 let a1 := y.2.1 
 let a8 := x.1 
 let v9 := (decide (a8 < y.2.2.1))
 let v14 := (nth a0 a8 Z60)
 let v16 := (f95_v1 v14 a1.1)
 ((v9 = true → (InB a8 (len a0) ∧ ((f95_v1_ok v14 a1.1) ∧ ((!v16) = true → InR (a8 + 1))))), (v9 && (!v16)), ((a8 + 1), ()), (v9 && v16), (!v9))
def f94_v1_L2_ok (y : f94_v1_L2_Y) (x : f94_v1_L2_X) : Prop := (f94_v1_L2t y x).1
def f94_v1_L2_g (y : f94_v1_L2_Y) (x : f94_v1_L2_X) : Bool := (f94_v1_L2t y x).2.1
def f94_v1_L2_next (y : f94_v1_L2_Y) (x : f94_v1_L2_X) : f94_v1_L2_X := (f94_v1_L2t y x).2.2.1
def f94_v1_L2_e1 (y : f94_v1_L2_Y) (x : f94_v1_L2_X) : Bool := (f94_v1_L2t y x).2.2.2.1
def f94_v1_L2_e2 (y : f94_v1_L2_Y) (x : f94_v1_L2_X) : Bool := (f94_v1_L2t y x).2.2.2.2
instance (y : f94_v1_L2_Y) (x : f94_v1_L2_X) : Decidable (f94_v1_L2_ok y x) := by
 unfold f94_v1_L2_ok f94_v1_L2t
 try dsimp only
 infer_instance
def f94_v1_L2_x1_0 (y : f94_v1_L2_Y) (x : f94_v1_L2_X) : Int :=
 x.1
def f94_v1_L2_spec : St → Option Out := loopS [(0, (.val (.sl T60))), (1, (.fn 95 (.cons (.val (.ptr (.int .i64))) .nl))), (7, vI)] [(8, vI)] f94_v1_L2_g f94_v1_L2_next f94_v1_L2_ok fun y x => [ex 1 (some (f94_v1_L2_e1 y x)) [(4, vI)] ((f94_v1_L2_x1_0 y x), ()), ex 2 (some (f94_v1_L2_e2 y x)) [] ()]
def f94_v1t (p0 : (List D60)) (p1 : (Int × Unit)) : Prop × Int :=
 let y2 := (p0, (p1.1, ()), (len p0), ())
 let x2 := ((0 : Int), ())
 let e2 := (loopEnd (f94_v1_L2_g y2) (f94_v1_L2_next y2) x2)
 ((Am.Ends (f94_v1_L2_g y2) (f94_v1_L2_next y2) (f94_v1_L2_ok y2) x2), (bif (f94_v1_L2_e1 y2 e2) then (f94_v1_L2_x1_0 y2 e2) else (-1 : Int)))
def f94_v1_ok (p0 : (List D60)) (p1 : (Int × Unit)) : Prop := (f94_v1t p0 p1).1
def f94_v1 (p0 : (List D60)) (p1 : (Int × Unit)) : Int := (f94_v1t p0 p1).2
instance (p0 : (List D60)) (p1 : (Int × Unit)) : Decidable (f94_v1_ok p0 p1) := by
 unfold f94_v1_ok f94_v1t
 try dsimp only
 infer_instance
def f94_v1_spec : Am.Spec := fnSpec [(0, (.val (.sl T60))), (1, (.fn 95 (.cons (.val (.ptr (.int .i64))) .nl)))] vI [] (fun x => f94_v1_ok x.1 x.2.1) (fun x => f94_v1 x.1 x.2.1) (fun _ => ())
def f94_v1_ctx : Ctx := Cx tys [(95, f95_v1_spec)] [(2, f94_v1_L2_spec)] [] false 19 [] []
theorem f94_v1_cok : CtxOk Tryz.prog f94_v1_ctx := ctxOk_mk tys_ok rfl ⟨f95_v1_is, trivial⟩ rfl (by kernel_rfl)
noncomputable def f94_v1_code : Code := Tryz.f94.body.getD .skip
noncomputable def f94_v1_L2 : Code := nthLoop f94_v1_code 0
theorem f94_v1_L2_is : LoopSnd Tryz.prog f94_v1_ctx f94_v1_L2 := lgen f94_v1_cok mixed (sp := f94_v1_L2_spec) rfl [[(4, vI)], []] (bs := []) (by kernel_rfl) trivial (by kernel_rfl) (by kernel_rfl) fun y x => by kernel_rfl
theorem f94_v1_is : SpecOk Tryz.prog 94 f94_v1_spec := fgen f94_v1_cok mixed Tryz.func94 (by kernel_rfl) (bs := [f94_v1_L2]) (by kernel_rfl) ⟨f94_v1_L2_is, trivial⟩ fun x => by kernel_rfl

-- imageeditor/document.Find
def f77t (p0 : D63) (p1 : Int) : Prop × Int :=
 let s := (p1, ())
 ((f94_v1_ok p0.2.2.2.1 s), (f94_v1 p0.2.2.2.1 s))
def f77_ok (p0 : D63) (p1 : Int) : Prop := (f77t p0 p1).1
def f77 (p0 : D63) (p1 : Int) : Int := (f77t p0 p1).2
instance (p0 : D63) (p1 : Int) : Decidable (f77_ok p0 p1) := by
 unfold f77_ok f77t
 try dsimp only
 infer_instance
def f77_spec : Am.Spec := fnSpec [(0, (.val T63)), (1, vI)] vI [] (fun x => f77_ok x.1 x.2.1) (fun x => f77 x.1 x.2.1) (fun _ => ())
def f77_ctx : Ctx := Cx tys [(94, f94_v1_spec)] [] [(2, [(3, 3, 0, 0)])] false 9 [] []
theorem f77_cok : CtxOk Tryz.prog f77_ctx := ctxOk_mk tys_ok rfl ⟨f94_v1_is, trivial⟩ rfl (by kernel_rfl)
theorem f77_is : SpecOk Tryz.prog 77 f77_spec := fgen f77_cok mixed Tryz.func77 (by kernel_rfl) (bs := []) (by kernel_rfl) trivial fun x => by kernel_rfl

-- imageeditor/document.checkRefs$1
def f76_v1t (p0 : D76) (p1 : D60) : Prop × Bool :=
 (True, (p0.1 == p1.2.2.2.2.2.2.2.2.2.2.2.2.2.2.2.2.2.2.2.2.2.2.2.2.2.2.1))
def f76_v1_ok (p0 : D76) (p1 : D60) : Prop := (f76_v1t p0 p1).1
def f76_v1 (p0 : D76) (p1 : D60) : Bool := (f76_v1t p0 p1).2
instance (p0 : D76) (p1 : D60) : Decidable (f76_v1_ok p0 p1) := by
 unfold f76_v1_ok f76_v1t
 try dsimp only
 infer_instance
def f76_v1_spec : Am.Spec := fnSpec [(0, (.val T76)), (1, (.val (.ptr T60)))] vB [] (fun x => f76_v1_ok x.1 x.2.1) (fun x => f76_v1 x.1 x.2.1) (fun _ => ())
def f76_v1_ctx : Ctx := Cx tys [] [] [] false 9 [] []
theorem f76_v1_cok : CtxOk Tryz.prog f76_v1_ctx := ctxOk_mk tys_ok rfl trivial rfl (by kernel_rfl)
theorem f76_v1_is : SpecOk Tryz.prog 76 f76_v1_spec := fgen f76_v1_cok mixed Tryz.func76 (by kernel_rfl) (bs := []) (by kernel_rfl) trivial fun x => by kernel_rfl

-- slices.IndexFunc[[]imageeditor/api.Link,imageeditor/api.Link]
abbrev f93_v1_L2_Y : Type := ((List D76) × (D60 × Unit) × Int × Unit)
abbrev f93_v1_L2_X : Type := (Int × Unit)
def f93_v1_L2t (y : f93_v1_L2_Y) (x : f93_v1_L2_X) : Prop × Bool × f93_v1_L2_X × Bool × Bool :=
 let a0 := y.1 
 let a1 := y.2.1 
 let a8 := x.1 
 let v9 := (decide (a8 < y.2.2.1))
 let v14 := (nth a0 a8 Z76)
 let v16 := (f76_v1 v14 a1.1)
 ((v9 = true → (InB a8 (len a0) ∧ ((f76_v1_ok v14 a1.1) ∧ ((!v16) = true → InR (a8 + 1))))), (v9 && (!v16)), ((a8 + 1), ()), (v9 && v16), (!v9))
def f93_v1_L2_ok (y : f93_v1_L2_Y) (x : f93_v1_L2_X) : Prop := (f93_v1_L2t y x).1
def f93_v1_L2_g (y : f93_v1_L2_Y) (x : f93_v1_L2_X) : Bool := (f93_v1_L2t y x).2.1
def f93_v1_L2_next (y : f93_v1_L2_Y) (x : f93_v1_L2_X) : f93_v1_L2_X := (f93_v1_L2t y x).2.2.1
def f93_v1_L2_e1 (y : f93_v1_L2_Y) (x : f93_v1_L2_X) : Bool := (f93_v1_L2t y x).2.2.2.1
def f93_v1_L2_e2 (y : f93_v1_L2_Y) (x : f93_v1_L2_X) : Bool := (f93_v1_L2t y x).2.2.2.2
instance (y : f93_v1_L2_Y) (x : f93_v1_L2_X) : Decidable (f93_v1_L2_ok y x) := by
 unfold f93_v1_L2_ok f93_v1_L2t
 try dsimp only
 infer_instance
def f93_v1_L2_x1_0 (y : f93_v1_L2_Y) (x : f93_v1_L2_X) : Int :=
 x.1
def f93_v1_L2_spec : St → Option Out := loopS [(0, (.val (.sl T76))), (1, (.fn 76 (.cons (.val (.ptr T60)) .nl))), (7, vI)] [(8, vI)] f93_v1_L2_g f93_v1_L2_next f93_v1_L2_ok fun y x => [ex 1 (some (f93_v1_L2_e1 y x)) [(4, vI)] ((f93_v1_L2_x1_0 y x), ()), ex 2 (some (f93_v1_L2_e2 y x)) [] ()]
def f93_v1t (p0 : (List D76)) (p1 : (D60 × Unit)) : Prop × Int :=
 let y2 := (p0, (p1.1, ()), (len p0), ())
 let x2 := ((0 : Int), ())
 let e2 := (loopEnd (f93_v1_L2_g y2) (f93_v1_L2_next y2) x2)
 ((Am.Ends (f93_v1_L2_g y2) (f93_v1_L2_next y2) (f93_v1_L2_ok y2) x2), (bif (f93_v1_L2_e1 y2 e2) then (f93_v1_L2_x1_0 y2 e2) else (-1 : Int)))
def f93_v1_ok (p0 : (List D76)) (p1 : (D60 × Unit)) : Prop := (f93_v1t p0 p1).1
def f93_v1 (p0 : (List D76)) (p1 : (D60 × Unit)) : Int := (f93_v1t p0 p1).2
instance (p0 : (List D76)) (p1 : (D60 × Unit)) : Decidable (f93_v1_ok p0 p1) := by
 unfold f93_v1_ok f93_v1t
 try dsimp only
 infer_instance
def f93_v1_spec : Am.Spec := fnSpec [(0, (.val (.sl T76))), (1, (.fn 76 (.cons (.val (.ptr T60)) .nl)))] vI [] (fun x => f93_v1_ok x.1 x.2.1) (fun x => f93_v1 x.1 x.2.1) (fun _ => ())
def f93_v1_ctx : Ctx := Cx tys [(76, f76_v1_spec)] [(2, f93_v1_L2_spec)] [] false 19 [] []
theorem f93_v1_cok : CtxOk Tryz.prog f93_v1_ctx := ctxOk_mk tys_ok rfl ⟨f76_v1_is, trivial⟩ rfl (by kernel_rfl)
noncomputable def f93_v1_code : Code := Tryz.f93.body.getD .skip
noncomputable def f93_v1_L2 : Code := nthLoop f93_v1_code 0
theorem f93_v1_L2_is : LoopSnd Tryz.prog f93_v1_ctx f93_v1_L2 := lgen f93_v1_cok mixed (sp := f93_v1_L2_spec) rfl [[(4, vI)], []] (bs := []) (by kernel_rfl) trivial (by kernel_rfl) (by kernel_rfl) fun y x => by kernel_rfl
theorem f93_v1_is : SpecOk Tryz.prog 93 f93_v1_spec := fgen f93_v1_cok mixed Tryz.func93 (by kernel_rfl) (bs := [f93_v1_L2]) (by kernel_rfl) ⟨f93_v1_L2_is, trivial⟩ fun x => by kernel_rfl

-- slices.ContainsFunc[[]imageeditor/api.Link,imageeditor/api.Link]
def f75_v1t (p0 : (List D76)) (p1 : (D60 × Unit)) : Prop × Bool :=
 let s := (p1.1, ())
 ((f93_v1_ok p0 s), (decide ((f93_v1 p0 s) ≥ 0)))
def f75_v1_ok (p0 : (List D76)) (p1 : (D60 × Unit)) : Prop := (f75_v1t p0 p1).1
def f75_v1 (p0 : (List D76)) (p1 : (D60 × Unit)) : Bool := (f75_v1t p0 p1).2
instance (p0 : (List D76)) (p1 : (D60 × Unit)) : Decidable (f75_v1_ok p0 p1) := by
 unfold f75_v1_ok f75_v1t
 try dsimp only
 infer_instance
def f75_v1_spec : Am.Spec := fnSpec [(0, (.val (.sl T76))), (1, (.fn 76 (.cons (.val (.ptr T60)) .nl)))] vB [] (fun x => f75_v1_ok x.1 x.2.1) (fun x => f75_v1 x.1 x.2.1) (fun _ => ())
def f75_v1_ctx : Ctx := Cx tys [(93, f93_v1_spec)] [] [] false 9 [] []
theorem f75_v1_cok : CtxOk Tryz.prog f75_v1_ctx := ctxOk_mk tys_ok rfl ⟨f93_v1_is, trivial⟩ rfl (by kernel_rfl)
theorem f75_v1_is : SpecOk Tryz.prog 75 f75_v1_spec := fgen f75_v1_cok mixed Tryz.func75 (by kernel_rfl) (bs := []) (by kernel_rfl) trivial fun x => by kernel_rfl

-- imageeditor/document.checkRefs
abbrev f59_L2_Y : Type := (D63 × (List D60) × Int × Unit)
abbrev f59_L2_X : Type := (Int × Unit)
def f59_L2t (y : f59_L2_Y) (x : f59_L2_X) : Prop × Bool × f59_L2_X × Bool × Bool :=
 let a1 := y.1 
 let a7 := y.2.1 
 let a9 := x.1 
 let v10 := (decide (a9 < y.2.2.1))
 let v11 := (nth a7 a9 Z60)
 let v16 := (v11.2.1 == 9)
 let s := (v11, ())
 let v21 := (!(f75_v1 a1.2.2.2.2.2.2.2.1 s))
 let v23 := (v11.2.1 == 10)
 let v27 := (f77 a1 v11.2.2.2.2.2.2.2.2.2.2.2.2.2.2.2.2.2.2.2.2.2.2.2.2.2.2.1)
 let v29 := (decide (v27 < 0))
 let v33 := (nth a1.2.2.2.1 v27 Z60)
 let v35 := (f72 v33)
 let c_6 := (bif v16 then (!v21) else (bif v23 then ((!v29) && (!v35)) else true))
 ((v10 = true → (InB a9 (len a7) ∧ ((v16 = true → (f75_v1_ok a1.2.2.2.2.2.2.2.1 s)) ∧ ((v16 = false → (v23 = true → ((f77_ok a1 v11.2.2.2.2.2.2.2.2.2.2.2.2.2.2.2.2.2.2.2.2.2.2.2.2.2.2.1) ∧ ((!v29) = true → (InB v27 (len a1.2.2.2.1) ∧ (f72_ok v33)))))) ∧ (c_6 = true → InR (a9 + 1)))))), (v10 && c_6), ((a9 + 1), ()), (v10 && (bif v16 then v21 else ((v29 || ((!v29) && v35)) && v23))), (!v10))
def f59_L2_ok (y : f59_L2_Y) (x : f59_L2_X) : Prop := (f59_L2t y x).1
def f59_L2_g (y : f59_L2_Y) (x : f59_L2_X) : Bool := (f59_L2t y x).2.1
def f59_L2_next (y : f59_L2_Y) (x : f59_L2_X) : f59_L2_X := (f59_L2t y x).2.2.1
def f59_L2_e1 (y : f59_L2_Y) (x : f59_L2_X) : Bool := (f59_L2t y x).2.2.2.1
def f59_L2_e2 (y : f59_L2_Y) (x : f59_L2_X) : Bool := (f59_L2t y x).2.2.2.2
instance (y : f59_L2_Y) (x : f59_L2_X) : Decidable (f59_L2_ok y x) := by
 unfold f59_L2_ok f59_L2t
 try dsimp only
 infer_instance
def f59_L2_x1_0 (y : f59_L2_Y) (x : f59_L2_X) : Int :=
 let v11 := (nth y.2.1 x.1 Z60)
 (bif (v11.2.1 == 9) then (9 : Int) else (bif (decide ((f77 y.1 v11.2.2.2.2.2.2.2.2.2.2.2.2.2.2.2.2.2.2.2.2.2.2.2.2.2.2.1) < 0)) then (9 : Int) else (8 : Int)))
def f59_L2_spec : St → Option Out := loopS [(1, (.box T63 (.val T63))), (7, (.val (.sl T60))), (8, vI)] [(9, vI)] f59_L2_g f59_L2_next f59_L2_ok fun y x => [ex 1 (some (f59_L2_e1 y x)) [(2, vI)] ((f59_L2_x1_0 y x), ()), ex 2 (some (f59_L2_e2 y x)) [] ()]
def f59t (p0 : D63) : Prop × Int :=
 let y2 := (p0, p0.2.2.2.1, (len p0.2.2.2.1), ())
 let x2 := ((0 : Int), ())
 let e2 := (loopEnd (f59_L2_g y2) (f59_L2_next y2) x2)
 ((Am.Ends (f59_L2_g y2) (f59_L2_next y2) (f59_L2_ok y2) x2), (bif (f59_L2_e1 y2 e2) then (f59_L2_x1_0 y2 e2) else (0 : Int)))
def f59_ok (p0 : D63) : Prop := (f59t p0).1
def f59 (p0 : D63) : Int := (f59t p0).2
instance (p0 : D63) : Decidable (f59_ok p0) := by
 unfold f59_ok f59t
 try dsimp only
 infer_instance
def f59_spec : Am.Spec := fnSpec [(0, (.val T63))] vI [] (fun x => f59_ok x.1) (fun x => f59 x.1) (fun _ => ())
def f59_ctx : Ctx := Cx tys [(72, f72_spec), (75, f75_v1_spec), (77, f77_spec)] [(2, f59_L2_spec)] [(12, [(3, 4, 0, 0)])] false 37 [] []
theorem f59_cok : CtxOk Tryz.prog f59_ctx := ctxOk_mk tys_ok rfl ⟨f72_is, f75_v1_is, f77_is, trivial⟩ rfl (by kernel_rfl)
noncomputable def f59_code : Code := Tryz.f59.body.getD .skip
noncomputable def f59_L2 : Code := nthLoop f59_code 0
theorem f59_L2_is : LoopSnd Tryz.prog f59_ctx f59_L2 := lgen f59_cok mixed (sp := f59_L2_spec) rfl [[(2, vI)], []] (bs := []) (by kernel_rfl) trivial (by kernel_rfl) (by kernel_rfl) fun y x => by kernel_rfl
theorem f59_is : SpecOk Tryz.prog 59 f59_spec := fgen f59_cok mixed Tryz.func59 (by kernel_rfl) (bs := [f59_L2]) (by kernel_rfl) ⟨f59_L2_is, trivial⟩ fun x => by kernel_rfl

-- imageeditor/document.sources
abbrev f79_L5_Y : Type := (Int × D63 × (List D60) × Int × Unit)
abbrev f79_L5_X : Type := ((List Int) × Int × Unit)
def f79_L5t (y : f79_L5_Y) (x : f79_L5_X) : Prop × Bool × f79_L5_X :=
 let a1 := y.1 
 let a2 := y.2.1 
 let a18 := y.2.2.1 
 let a5 := x.1 
 let a20 := x.2.1 
 let v21 := (decide (a20 < y.2.2.2.1))
 let v33 := ((nth a18 a20 Z60).2.2.1 == (nth a2.2.2.2.1 a1 Z60).1)
 let v36 := ([a20] : List Int)
 ((v21 = true → (InB a20 (len a18) ∧ (InB a1 (len a2.2.2.2.1) ∧ ((v33 = true → ((List.length a5 + List.length v36 : Nat) : Int) ≤ 4294967296) ∧ InR (a20 + 1))))), v21, ((bif v33 then (a5 ++ v36) else a5), (a20 + 1), ()))
def f79_L5_ok (y : f79_L5_Y) (x : f79_L5_X) : Prop := (f79_L5t y x).1
def f79_L5_g (y : f79_L5_Y) (x : f79_L5_X) : Bool := (f79_L5t y x).2.1
def f79_L5_next (y : f79_L5_Y) (x : f79_L5_X) : f79_L5_X := (f79_L5t y x).2.2
instance (y : f79_L5_Y) (x : f79_L5_X) : Decidable (f79_L5_ok y x) := by
 unfold f79_L5_ok f79_L5t
 try dsimp only
 infer_instance
def f79_L5_x3_0 (y : f79_L5_Y) (x : f79_L5_X) : (List Int) :=
 x.1
def f79_L5_l3 : List (Nat × Sh) := [(5, (.own (.int .i64) 1005 false))]
def f79_L5_spec : St → Option Out := loopS [(1, vI), (2, (.box T63 (.val T63))), (18, (.val (.sl T60))), (19, vI)] [(5, (.own (.int .i64) 1005 false)), (20, vI)] f79_L5_g f79_L5_next f79_L5_ok fun y x => [ex 3 none f79_L5_l3 ((f79_L5_x3_0 y x), ())]
def f79t (p0 : D63) (p1 : Int) : Prop × (List Int) :=
 let v12 := (nth p0.2.2.2.1 p1 Z60)
 let v16 := (v12.2.1 == 1)
 let y5 := (p1, p0, p0.2.2.2.1, (len p0.2.2.2.1), ())
 let x5 := (([] : List Int), (0 : Int), ())
 let v40 := (v12.2.1 == 10)
 let v45 := (nth p0.2.2.2.1 p1 Z60)
 let v48 := (f77 p0 v45.2.2.2.2.2.2.2.2.2.2.2.2.2.2.2.2.2.2.2.2.2.2.2.2.2.2.1)
 let v50 := (decide (v48 ≥ 0))
 let v53 := ([v48] : List Int)
 ((InB p1 (len p0.2.2.2.1) ∧ ((v16 = true → (Am.Ends (f79_L5_g y5) (f79_L5_next y5) (f79_L5_ok y5) x5)) ∧ (v16 = false → (v40 = true → (InB p1 (len p0.2.2.2.1) ∧ ((f77_ok p0 v45.2.2.2.2.2.2.2.2.2.2.2.2.2.2.2.2.2.2.2.2.2.2.2.2.2.2.1) ∧ (v50 = true → (List.length v53 : Int) ≤ 4294967296))))))), (bif v16 then (f79_L5_x3_0 y5 (loopEnd (f79_L5_g y5) (f79_L5_next y5) x5)) else (bif v40 then (bif v50 then v53 else []) else [])))
def f79_ok (p0 : D63) (p1 : Int) : Prop := (f79t p0 p1).1
def f79 (p0 : D63) (p1 : Int) : (List Int) := (f79t p0 p1).2
instance (p0 : D63) (p1 : Int) : Decidable (f79_ok p0 p1) := by
 unfold f79_ok f79t
 try dsimp only
 infer_instance
def f79_spec : Am.Spec := fnSpec [(0, (.val T63)), (1, vI)] (.own (.int .i64) 0 false) [] (fun x => f79_ok x.1 x.2.1) (fun x => f79 x.1 x.2.1) (fun _ => ())
def f79_ctx : Ctx := Cx tys [(77, f77_spec)] [(5, f79_L5_spec)] [(17, [(4, 0, 37, 1005)]), (27, [(4, 0, 54, 1005)]), (29, [(4, 0, 1005, 0)])] false 56 [] []
theorem f79_cok : CtxOk Tryz.prog f79_ctx := ctxOk_mk tys_ok rfl ⟨f77_is, trivial⟩ rfl (by kernel_rfl)
noncomputable def f79_code : Code := Tryz.f79.body.getD .skip
noncomputable def f79_L5 : Code := nthLoop f79_code 0
theorem f79_L5_is : LoopSnd Tryz.prog f79_ctx f79_L5 := lgen f79_cok mixed (sp := f79_L5_spec) rfl [f79_L5_l3] (bs := []) (by kernel_rfl) trivial (by kernel_rfl) (by kernel_rfl) fun y x => by kernel_rfl
theorem f79_is : SpecOk Tryz.prog 79 f79_spec := fgen f79_cok mixed Tryz.func79 (by kernel_rfl) (bs := [f79_L5]) (by kernel_rfl) ⟨f79_L5_is, trivial⟩ fun x => by kernel_rfl

-- imageeditor/document.cyclic$1 (calls itself)
abbrev f78_v1_R : Type := Int → (List Bool) → (List Bool) → D63 → Unit → Prop × Bool × ((List Bool) × (List Bool) × D63 × Unit)
def f78_v1_sp (r : f78_v1_R) : Am.Spec := fnSpec [(0, vI), (1, (.box (.sl .bool) (.own .bool 400100 true))), (2, (.box (.sl .bool) (.own .bool 400200 true))), (3, (.box T63 (.val T63))), (4, (.fptr 78 [some (1, (.sl .bool)), some (2, (.sl .bool)), some (3, T63), none]))] vB [(1, (.box (.sl .bool) (.own .bool 400100 true))), (2, (.box (.sl .bool) (.own .bool 400200 true))), (3, (.box T63 (.val T63)))] (fun x => (r x.1 x.2.1 x.2.2.1 x.2.2.2.1 x.2.2.2.2.1).1) (fun x => (r x.1 x.2.1 x.2.2.1 x.2.2.2.1 x.2.2.2.2.1).2.1) (fun x => (r x.1 x.2.1 x.2.2.1 x.2.2.2.1 x.2.2.2.2.1).2.2)
abbrev f78_v1_L5_Y : Type := (Int × Unit × (List Int) × Int × Unit)
abbrev f78_v1_L5_X : Type := ((List Bool) × (List Bool) × D63 × Int × Unit)
def f78_v1_L5t (r : f78_v1_R) (y : f78_v1_L5_Y) (x : f78_v1_L5_X) : Prop × Bool × f78_v1_L5_X × Bool × Bool :=
 let a29 := y.2.2.1 
 let a1 := x.1 
 let a2 := x.2.1 
 let a3 := x.2.2.1 
 let a31 := x.2.2.2.1 
 let v32 := (decide (a31 < y.2.2.2.1))
 let v33 := (nth a29 a31 (0 : Int))
 let v37 := (r v33 a1 a2 a3 ()).2.1
 let v37o := (r v33 a1 a2 a3 ()).2.2
 ((v32 = true → (InB a31 (len a29) ∧ ((r v33 a1 a2 a3 ()).1 ∧ ((!v37) = true → InR (a31 + 1))))), (v32 && (!v37)), (v37o.1, v37o.2.1, v37o.2.2.1, (a31 + 1), ()), (v32 && v37), (!v32))
def f78_v1_L5_ok (r : f78_v1_R) (y : f78_v1_L5_Y) (x : f78_v1_L5_X) : Prop := ((f78_v1_L5t r) y x).1
def f78_v1_L5_g (r : f78_v1_R) (y : f78_v1_L5_Y) (x : f78_v1_L5_X) : Bool := ((f78_v1_L5t r) y x).2.1
def f78_v1_L5_next (r : f78_v1_R) (y : f78_v1_L5_Y) (x : f78_v1_L5_X) : f78_v1_L5_X := ((f78_v1_L5t r) y x).2.2.1
def f78_v1_L5_e1 (r : f78_v1_R) (y : f78_v1_L5_Y) (x : f78_v1_L5_X) : Bool := ((f78_v1_L5t r) y x).2.2.2.1
def f78_v1_L5_e2 (r : f78_v1_R) (y : f78_v1_L5_Y) (x : f78_v1_L5_X) : Bool := ((f78_v1_L5t r) y x).2.2.2.2
instance (r : f78_v1_R) [∀ q0 q1 q2 q3 q4, Decidable (r q0 q1 q2 q3 q4).1] (y : f78_v1_L5_Y) (x : f78_v1_L5_X) : Decidable ((f78_v1_L5_ok r) y x) := by
 unfold f78_v1_L5_ok f78_v1_L5t
 try dsimp only
 infer_instance
def f78_v1_L5_x1_0 (r : f78_v1_R) (y : f78_v1_L5_Y) (x : f78_v1_L5_X) : (List Bool) :=
 ((r (nth y.2.2.1 x.2.2.2.1 (0 : Int)) x.1 x.2.1 x.2.2.1 ()).2.2).1
def f78_v1_L5_x1_1 (r : f78_v1_R) (y : f78_v1_L5_Y) (x : f78_v1_L5_X) : (List Bool) :=
 ((r (nth y.2.2.1 x.2.2.2.1 (0 : Int)) x.1 x.2.1 x.2.2.1 ()).2.2).2.1
def f78_v1_L5_x1_2 (r : f78_v1_R) (y : f78_v1_L5_Y) (x : f78_v1_L5_X) : D63 :=
 ((r (nth y.2.2.1 x.2.2.2.1 (0 : Int)) x.1 x.2.1 x.2.2.1 ()).2.2).2.2.1
def f78_v1_L5_x1_3 (r : f78_v1_R) (y : f78_v1_L5_Y) (x : f78_v1_L5_X) : Bool :=
 true
def f78_v1_L5_l1 : List (Nat × Sh) := [(1, (.box (.sl .bool) (.own .bool 400100 true))), (2, (.box (.sl .bool) (.own .bool 400200 true))), (3, (.box T63 (.val T63))), (6, vB)]
def f78_v1_L5_x2_0 (r : f78_v1_R) (y : f78_v1_L5_Y) (x : f78_v1_L5_X) : (List Bool) :=
 x.1
def f78_v1_L5_x2_1 (r : f78_v1_R) (y : f78_v1_L5_Y) (x : f78_v1_L5_X) : (List Bool) :=
 x.2.1
def f78_v1_L5_x2_2 (r : f78_v1_R) (y : f78_v1_L5_Y) (x : f78_v1_L5_X) : D63 :=
 x.2.2.1
def f78_v1_L5_l2 : List (Nat × Sh) := [(0, vI), (1, (.box (.sl .bool) (.own .bool 400100 true))), (2, (.box (.sl .bool) (.own .bool 400200 true))), (3, (.box T63 (.val T63)))]
def f78_v1_L5_spec (r : f78_v1_R) : St → Option Out := loopS [(0, vI), (4, (.fptr 78 [some (1, (.sl .bool)), some (2, (.sl .bool)), some (3, T63), none])), (29, (.own (.int .i64) 29 false)), (30, vI)] [(1, (.box (.sl .bool) (.own .bool 400100 true))), (2, (.box (.sl .bool) (.own .bool 400200 true))), (3, (.box T63 (.val T63))), (31, vI)] (f78_v1_L5_g r) (f78_v1_L5_next r) (f78_v1_L5_ok r) fun y x => [ex 1 (some ((f78_v1_L5_e1 r) y x)) f78_v1_L5_l1 (((f78_v1_L5_x1_0 r) y x), ((f78_v1_L5_x1_1 r) y x), ((f78_v1_L5_x1_2 r) y x), ((f78_v1_L5_x1_3 r) y x), ()), ex 2 (some ((f78_v1_L5_e2 r) y x)) f78_v1_L5_l2 (y.1, ((f78_v1_L5_x2_0 r) y x), ((f78_v1_L5_x2_1 r) y x), ((f78_v1_L5_x2_2 r) y x), ())]
def f78_v1t (r : f78_v1_R) (p0 : Int) (p1 : (List Bool)) (p2 : (List Bool)) (p3 : D63) (p4 : Unit) : Prop × Bool × ((List Bool) × (List Bool) × D63 × Unit) :=
 let v12 := (nth p1 p0 false)
 let v18 := (bif v12 then true else (nth p2 p0 false))
 let v29 := (f79 p3 p0)
 let y5 := (p0, (), v29, (len v29), ())
 let x5 := (p1, (List.set p2 (Int.toNat p0) true), p3, (0 : Int), ())
 let e5 := (loopEnd ((f78_v1_L5_g r) y5) ((f78_v1_L5_next r) y5) x5)
 let q5_1 := ((f78_v1_L5_e1 r) y5 e5)
 let r5_2_0 := ((f78_v1_L5_x2_0 r) y5 e5)
 ((InB p0 (len p1) ∧ (p0 < len p1 ∧ (((!v12) = true → InB p0 (len p2)) ∧ (((!v12) = true → p0 < len p2) ∧ ((v18 = true → (InB p0 (len p1) ∧ p0 < len p1)) ∧ ((!v18) = true → (InB p0 (len p2) ∧ (p0 < len p2 ∧ ((f79_ok p3 p0) ∧ ((Am.Ends ((f78_v1_L5_g r) y5) ((f78_v1_L5_next r) y5) ((f78_v1_L5_ok r) y5) x5) ∧ (((f78_v1_L5_e2 r) y5 e5) = true → (InB p0 (len r5_2_0) ∧ p0 < len r5_2_0)))))))))))), (bif v18 then (!(nth p1 p0 false)) else (bif q5_1 then ((f78_v1_L5_x1_3 r) y5 e5) else false)), ((bif v18 then p1 else (bif q5_1 then ((f78_v1_L5_x1_0 r) y5 e5) else (List.set r5_2_0 (Int.toNat p0) true))), (bif v18 then p2 else (bif q5_1 then ((f78_v1_L5_x1_1 r) y5 e5) else ((f78_v1_L5_x2_1 r) y5 e5))), (bif v18 then p3 else (bif q5_1 then ((f78_v1_L5_x1_2 r) y5 e5) else ((f78_v1_L5_x2_2 r) y5 e5))), ()))
def f78_v1_ctx (r : f78_v1_R) : Ctx := { Cx tys [(78, f78_v1_sp r), (79, f79_spec)] [(5, (f78_v1_L5_spec r))] [] false 42 [1, 2, 3] [] with wants := [(78, [])], fts := fts }
theorem f78_v1_cok (r : f78_v1_R) (hr : SpecOk Tryz.prog 78 (f78_v1_sp r)) : CtxOk Tryz.prog (f78_v1_ctx r) := ctxOk_mk tys_ok (by kernel_rfl) ⟨hr, f79_is, trivial⟩ rfl (by kernel_rfl)
noncomputable def f78_v1_code : Code := Tryz.f78.body.getD .skip
noncomputable def f78_v1_L5 : Code := nthLoop f78_v1_code 0
theorem f78_v1_L5_is (r : f78_v1_R) (hr : SpecOk Tryz.prog 78 (f78_v1_sp r)) : LoopSnd Tryz.prog (f78_v1_ctx r) f78_v1_L5 := lgen (f78_v1_cok r hr) mixed (sp := (f78_v1_L5_spec r)) rfl [f78_v1_L5_l1, f78_v1_L5_l2] (bs := []) (by kernel_rfl) trivial (by kernel_rfl) (by kernel_rfl) fun y x => by kernel_rfl
instance (r : f78_v1_R) [∀ q0 q1 q2 q3 q4, Decidable (r q0 q1 q2 q3 q4).1] (p0 : Int) (p1 : (List Bool)) (p2 : (List Bool)) (p3 : D63) (p4 : Unit) : Decidable (f78_v1t r p0 p1 p2 p3 p4).1 := by
 unfold f78_v1t
 try dsimp only
 infer_instance
theorem f78_v1_step (r : f78_v1_R) (hr : SpecOk Tryz.prog 78 (f78_v1_sp r)) : SpecOk Tryz.prog 78 (f78_v1_sp (f78_v1t r)) := fgen (f78_v1_cok r hr) mixed Tryz.func78 (by kernel_rfl) (bs := [f78_v1_L5]) (by kernel_rfl) ⟨f78_v1_L5_is r hr, trivial⟩ fun x => by kernel_rfl
def f78_v1_k : Nat → f78_v1_R
 | 0 => fun _ _ _ _ _ => (False, false, (([] : List Bool), ([] : List Bool), Z63, ()))
 | k + 1 => f78_v1t (f78_v1_k k)
theorem f78_v1_all : ∀ k, SpecOk Tryz.prog 78 (f78_v1_sp (f78_v1_k k))
 | 0 => func_never Tryz.func78 (by kernel_rfl) (by decide)
 | k + 1 => f78_v1_step _ (f78_v1_all k)
def f78_v1_m (p0 : Int) (p1 : (List Bool)) (p2 : (List Bool)) (p3 : D63) (p4 : Unit) : Nat := (List.length p1 + 1)
def f78_v1_ok (p0 : Int) (p1 : (List Bool)) (p2 : (List Bool)) (p3 : D63) (p4 : Unit) : Prop := (f78_v1_k (f78_v1_m p0 p1 p2 p3 p4) p0 p1 p2 p3 p4).1
def f78_v1 (p0 : Int) (p1 : (List Bool)) (p2 : (List Bool)) (p3 : D63) (p4 : Unit) : Bool := (f78_v1_k (f78_v1_m p0 p1 p2 p3 p4) p0 p1 p2 p3 p4).2.1
def f78_v1_o (p0 : Int) (p1 : (List Bool)) (p2 : (List Bool)) (p3 : D63) (p4 : Unit) : ((List Bool) × (List Bool) × D63 × Unit) := (f78_v1_k (f78_v1_m p0 p1 p2 p3 p4) p0 p1 p2 p3 p4).2.2
def f78_v1_dec : ∀ (k : Nat) (p0 : Int) (p1 : (List Bool)) (p2 : (List Bool)) (p3 : D63) (p4 : Unit), Decidable (f78_v1_k k p0 p1 p2 p3 p4).1
 | 0, _, _, _, _, _ => isFalse id
 | k + 1, p0, p1, p2, p3, p4 => by
  have : ∀ (q0 : Int) (q1 : (List Bool)) (q2 : (List Bool)) (q3 : D63) (q4 : Unit), Decidable (f78_v1_k k q0 q1 q2 q3 q4).1 := f78_v1_dec k
  exact inferInstanceAs (Decidable (f78_v1t (f78_v1_k k) p0 p1 p2 p3 p4).1)
instance (p0 : Int) (p1 : (List Bool)) (p2 : (List Bool)) (p3 : D63) (p4 : Unit) : Decidable (f78_v1_ok p0 p1 p2 p3 p4) := f78_v1_dec _ p0 p1 p2 p3 p4
def f78_v1_spec : Am.Spec := fnSpec [(0, vI), (1, (.box (.sl .bool) (.own .bool 400100 true))), (2, (.box (.sl .bool) (.own .bool 400200 true))), (3, (.box T63 (.val T63))), (4, (.fptr 78 [some (1, (.sl .bool)), some (2, (.sl .bool)), some (3, T63), none]))] vB [(1, (.box (.sl .bool) (.own .bool 400100 true))), (2, (.box (.sl .bool) (.own .bool 400200 true))), (3, (.box T63 (.val T63)))] (fun x => f78_v1_ok x.1 x.2.1 x.2.2.1 x.2.2.2.1 x.2.2.2.2.1) (fun x => f78_v1 x.1 x.2.1 x.2.2.1 x.2.2.2.1 x.2.2.2.2.1) (fun x => f78_v1_o x.1 x.2.1 x.2.2.1 x.2.2.2.1 x.2.2.2.2.1)
theorem f78_v1_is : SpecOk Tryz.prog 78 f78_v1_spec := spec_pick (ps := [(0, vI), (1, (.box (.sl .bool) (.own .bool 400100 true))), (2, (.box (.sl .bool) (.own .bool 400200 true))), (3, (.box T63 (.val T63))), (4, (.fptr 78 [some (1, (.sl .bool)), some (2, (.sl .bool)), some (3, T63), none]))]) (rs := vB) (os := [(1, (.box (.sl .bool) (.own .bool 400100 true))), (2, (.box (.sl .bool) (.own .bool 400200 true))), (3, (.box T63 (.val T63)))]) (R := fun k x => f78_v1_k k x.1 x.2.1 x.2.2.1 x.2.2.2.1 x.2.2.2.2.1) f78_v1_all fun x => f78_v1_m x.1 x.2.1 x.2.2.1 x.2.2.2.1 x.2.2.2.2.1

-- imageeditor/document.cyclic
abbrev f60_L6_Y : Type := (Unit × Int × Unit)
abbrev f60_L6_X : Type := (D63 × (List Bool) × (List Bool) × Int × Unit)
def f60_L6t (y : f60_L6_Y) (x : f60_L6_X) : Prop × Bool × f60_L6_X × Bool × Bool :=
 let a1 := x.1 
 let a3 := x.2.1 
 let a4 := x.2.2.1 
 let a19 := x.2.2.2.1 
 let v20 := (decide (a19 < y.2.1))
 let v24 := (f78_v1 a19 a4 a3 a1 ())
 let v24o := (f78_v1_o a19 a4 a3 a1 ())
 ((v20 = true → ((f78_v1_ok a19 a4 a3 a1 ()) ∧ ((!v24) = true → InR (a19 + 1)))), (v20 && (!v24)), (v24o.2.2.1, v24o.2.1, v24o.1, (a19 + 1), ()), (v20 && v24), (!v20))
def f60_L6_ok (y : f60_L6_Y) (x : f60_L6_X) : Prop := (f60_L6t y x).1
def f60_L6_g (y : f60_L6_Y) (x : f60_L6_X) : Bool := (f60_L6t y x).2.1
def f60_L6_next (y : f60_L6_Y) (x : f60_L6_X) : f60_L6_X := (f60_L6t y x).2.2.1
def f60_L6_e1 (y : f60_L6_Y) (x : f60_L6_X) : Bool := (f60_L6t y x).2.2.2.1
def f60_L6_e2 (y : f60_L6_Y) (x : f60_L6_X) : Bool := (f60_L6t y x).2.2.2.2
instance (y : f60_L6_Y) (x : f60_L6_X) : Decidable (f60_L6_ok y x) := by
 unfold f60_L6_ok f60_L6t
 try dsimp only
 infer_instance
def f60_L6_x1_0 (y : f60_L6_Y) (x : f60_L6_X) : Bool :=
 true
def f60_L6_spec : St → Option Out := loopS [(5, (.fptr 78 [some (4, (.sl .bool)), some (3, (.sl .bool)), some (1, T63), none])), (18, vI)] [(1, (.box T63 (.val T63))), (3, (.box (.sl .bool) (.own .bool 400300 true))), (4, (.box (.sl .bool) (.own .bool 400400 true))), (19, vI)] f60_L6_g f60_L6_next f60_L6_ok fun y x => [ex 1 (some (f60_L6_e1 y x)) [(2, vB)] ((f60_L6_x1_0 y x), ()), ex 2 (some (f60_L6_e2 y x)) [] ()]
def f60t (p0 : D63) : Prop × Bool :=
 let v9 := (len p0.2.2.2.1)
 let v13 := (len p0.2.2.2.1)
 let y6 := ((), (len p0.2.2.2.1), ())
 let x6 := (p0, (List.replicate (Int.toNat v9) false), (List.replicate (Int.toNat v13) false), (0 : Int), ())
 let e6 := (loopEnd (f60_L6_g y6) (f60_L6_next y6) x6)
 (((0 ≤ v9 ∧ v9 ≤ v9 ∧ v9 ≤ 4294967296) ∧ ((0 ≤ v13 ∧ v13 ≤ v13 ∧ v13 ≤ 4294967296) ∧ (Am.Ends (f60_L6_g y6) (f60_L6_next y6) (f60_L6_ok y6) x6))), (bif (f60_L6_e1 y6 e6) then (f60_L6_x1_0 y6 e6) else false))
def f60_ok (p0 : D63) : Prop := (f60t p0).1
def f60 (p0 : D63) : Bool := (f60t p0).2
instance (p0 : D63) : Decidable (f60_ok p0) := by
 unfold f60_ok f60t
 try dsimp only
 infer_instance
def f60_spec : Am.Spec := fnSpec [(0, (.val T63))] vB [] (fun x => f60_ok x.1) (fun x => f60 x.1) (fun _ => ())
def f60_ctx : Ctx := { Cx tys [(78, f78_v1_spec)] [(6, f60_L6_spec)] [(3, [(4, 0, 10, 400300)]), (5, [(4, 0, 14, 400400)])] false 26 [] [10, 14] with wants := [(78, [])], fts := fts }
theorem f60_cok : CtxOk Tryz.prog f60_ctx := ctxOk_mk tys_ok (by kernel_rfl) ⟨f78_v1_is, trivial⟩ rfl (by kernel_rfl)
noncomputable def f60_code : Code := Tryz.f60.body.getD .skip
noncomputable def f60_L6 : Code := nthLoop f60_code 0
theorem f60_L6_is : LoopSnd Tryz.prog f60_ctx f60_L6 := lgen f60_cok mixed (sp := f60_L6_spec) rfl [[(2, vB)], []] (bs := []) (by kernel_rfl) trivial (by kernel_rfl) (by kernel_rfl) fun y x => by kernel_rfl
theorem f60_is : SpecOk Tryz.prog 60 f60_spec := fgen f60_cok mixed Tryz.func60 (by kernel_rfl) (bs := [f60_L6]) (by kernel_rfl) ⟨f60_L6_is, trivial⟩ fun x => by kernel_rfl

-- never called: imageeditor/meta.checkEntry
def f81 (_p0 : (List D40)) (_p1 : D40) : Int := (0 : Int)
def f81_ok (_p0 : (List D40)) (_p1 : D40) : Prop := False
instance (_p0 : (List D40)) (_p1 : D40) : Decidable (f81_ok _p0 _p1) := by
  unfold f81_ok
  infer_instance
def f81_ps : List (Nat × Sh) := [(0, (.val (.sl T40))), (1, (.val T40))]
def f81_rs : Sh := vI
def f81_os : List (Nat × Sh) := []
def f81_spec : Am.Spec := fnSpec f81_ps f81_rs f81_os (fun x => f81_ok x.1 x.2.1) (fun x => f81 x.1 x.2.1) (fun _ => ())
theorem f81_is : SpecOk Tryz.prog 81 f81_spec := func_never Tryz.func81 (by kernel_rfl) (by decide)

-- imageeditor/meta.Check
abbrev f62_L4_Y : Type := ((List D40) × (List D40) × Int × Unit)
abbrev f62_L4_X : Type := (Int × Unit)
def f62_L4t (y : f62_L4_Y) (x : f62_L4_X) : Prop × Bool × f62_L4_X × Bool × Bool :=
 let a0 := y.1 
 let a9 := y.2.1 
 let a11 := x.1 
 let v12 := (decide (a11 < y.2.2.1))
 let v14 := (nth a9 a11 Z40)
 let v18 := (List.take (Int.toNat a11) a0)
 let v22 := ((f81 v18 v14) != 0)
 ((v12 = true → (InB a11 (len a9) ∧ ((0 ≤ a11 ∧ a11 ≤ len a0) ∧ ((f81_ok v18 v14) ∧ ((!v22) = true → InR (a11 + 1)))))), (v12 && (!v22)), ((a11 + 1), ()), (v12 && v22), (!v12))
def f62_L4_ok (y : f62_L4_Y) (x : f62_L4_X) : Prop := (f62_L4t y x).1
def f62_L4_g (y : f62_L4_Y) (x : f62_L4_X) : Bool := (f62_L4t y x).2.1
def f62_L4_next (y : f62_L4_Y) (x : f62_L4_X) : f62_L4_X := (f62_L4t y x).2.2.1
def f62_L4_e1 (y : f62_L4_Y) (x : f62_L4_X) : Bool := (f62_L4t y x).2.2.2.1
def f62_L4_e2 (y : f62_L4_Y) (x : f62_L4_X) : Bool := (f62_L4t y x).2.2.2.2
instance (y : f62_L4_Y) (x : f62_L4_X) : Decidable (f62_L4_ok y x) := by
 unfold f62_L4_ok f62_L4t
 try dsimp only
 infer_instance
def f62_L4_x1_0 (y : f62_L4_Y) (x : f62_L4_X) : Int :=
 let a11 := x.1 
 (f81 (List.take (Int.toNat a11) y.1) (nth y.2.1 a11 Z40))
def f62_L4_spec : St → Option Out := loopS [(0, (.val (.sl T40))), (9, (.val (.sl T40))), (10, vI)] [(11, vI)] f62_L4_g f62_L4_next f62_L4_ok fun y x => [ex 1 (some (f62_L4_e1 y x)) [(2, vI)] ((f62_L4_x1_0 y x), ()), ex 2 (some (f62_L4_e2 y x)) [] ()]
def f62t (p0 : (List D40)) : Prop × Int :=
 let v8 := (decide ((len p0) > 16))
 let y4 := (p0, p0, (len p0), ())
 let x4 := ((0 : Int), ())
 let e4 := (loopEnd (f62_L4_g y4) (f62_L4_next y4) x4)
 (((!v8) = true → (Am.Ends (f62_L4_g y4) (f62_L4_next y4) (f62_L4_ok y4) x4)), (bif v8 then (3 : Int) else (bif (f62_L4_e1 y4 e4) then (f62_L4_x1_0 y4 e4) else (0 : Int))))
def f62_ok (p0 : (List D40)) : Prop := (f62t p0).1
def f62 (p0 : (List D40)) : Int := (f62t p0).2
instance (p0 : (List D40)) : Decidable (f62_ok p0) := by
 unfold f62_ok f62t
 try dsimp only
 infer_instance
def f62_spec : Am.Spec := fnSpec [(0, (.val (.sl T40)))] vI [] (fun x => f62_ok x.1) (fun x => f62 x.1) (fun _ => ())
def f62_ctx : Ctx := Cx tys [(81, f81_spec)] [(4, f62_L4_spec)] [] false 25 [] []
theorem f62_cok : CtxOk Tryz.prog f62_ctx := ctxOk_mk tys_ok rfl ⟨f81_is, trivial⟩ rfl (by kernel_rfl)
noncomputable def f62_code : Code := Tryz.f62.body.getD .skip
noncomputable def f62_L4 : Code := nthLoop f62_code 0
theorem f62_L4_is : LoopSnd Tryz.prog f62_ctx f62_L4 := lgen f62_cok mixed (sp := f62_L4_spec) rfl [[(2, vI)], []] (bs := []) (by kernel_rfl) trivial (by kernel_rfl) (by kernel_rfl) fun y x => by kernel_rfl
theorem f62_is : SpecOk Tryz.prog 62 f62_spec := fgen f62_cok mixed Tryz.func62 (by kernel_rfl) (bs := [f62_L4]) (by kernel_rfl) ⟨f62_L4_is, trivial⟩ fun x => by kernel_rfl

-- imageeditor/document.Check
def f40t (p0 : D63) : Prop × Int :=
 let v10 := (f55 p0)
 let v12 := (v10 != 0)
 let v23 := (bif (decide ((len p0.2.2.2.1) > 64)) then true else (decide ((len p0.2.2.2.2.2.2.2.1) > 8)))
 let v31 := (bif (decide (p0.2.2.2.2.1 < 1)) then true else (decide (p0.2.2.2.2.1 > 1073741824)))
 let v33 := (f56 p0)
 let v35 := (v33 != 0)
 let v38 := (f57 p0)
 let v40 := (v38 != 0)
 let v43 := (f58 p0)
 let v45 := (v43 != 0)
 let v48 := (f59 p0)
 let v50 := (v48 != 0)
 let v53 := (f60 p0)
 let v56 := (f61 p0.2.2.2.2.2.1)
 let v58 := (v56 != 0)
 let v79 := (bif (p0.2.2.2.2.2.1.1 != 0) then (bif (p0.2.2.2.2.2.1.1 != p0.1) then true else (p0.2.2.2.2.2.1.2.1 != p0.2.1)) else false)
 let m2_6 := (bif v35 then v33 else (bif v40 then v38 else (bif v45 then v43 else (bif v50 then v48 else (bif v53 then (11 : Int) else (bif v58 then v56 else (bif v79 then (15 : Int) else (f62 p0.2.2.2.2.2.2.1))))))))
 (((f55_ok p0) ∧ ((!v12) = true → ((!v23) = true → ((!v31) = true → ((f56_ok p0) ∧ ((!v35) = true → ((f57_ok p0) ∧ ((!v40) = true → ((f58_ok p0) ∧ ((!v45) = true → ((f59_ok p0) ∧ ((!v50) = true → ((f60_ok p0) ∧ ((!v53) = true → ((f61_ok p0.2.2.2.2.2.1) ∧ ((!v58) = true → ((!v79) = true → (f62_ok p0.2.2.2.2.2.2.1)))))))))))))))))), (bif v12 then v10 else (bif v23 then (3 : Int) else (bif v31 then (2 : Int) else m2_6))))
def f40_ok (p0 : D63) : Prop := (f40t p0).1
def f40 (p0 : D63) : Int := (f40t p0).2
instance (p0 : D63) : Decidable (f40_ok p0) := by
 unfold f40_ok f40t
 try dsimp only
 infer_instance
def f40_spec : Am.Spec := fnSpec [(0, (.val T63))] vI [] (fun x => f40_ok x.1) (fun x => f40 x.1) (fun _ => ())
def f40_ctx : Ctx := Cx tys [(55, f55_spec), (56, f56_spec), (57, f57_spec), (58, f58_spec), (59, f59_spec), (60, f60_spec), (61, f61_spec), (62, f62_spec)] [] [] false 83 [] []
theorem f40_cok : CtxOk Tryz.prog f40_ctx := ctxOk_mk tys_ok rfl ⟨f55_is, f56_is, f57_is, f58_is, f59_is, f60_is, f61_is, f62_is, trivial⟩ rfl (by kernel_rfl)
theorem f40_is : SpecOk Tryz.prog 40 f40_spec := fgen f40_cok mixed Tryz.func40 (by kernel_rfl) (bs := []) (by kernel_rfl) trivial fun x => by kernel_rfl

-- imageeditor/patch.head
def f41t (p0 : D63) : Prop × D22 :=
 (True, (p0.1, p0.2.1, p0.2.2.1, p0.2.2.2.2.1, ()))
def f41_ok (p0 : D63) : Prop := (f41t p0).1
def f41 (p0 : D63) : D22 := (f41t p0).2
instance (p0 : D63) : Decidable (f41_ok p0) := by
 unfold f41_ok f41t
 try dsimp only
 infer_instance
def f41_spec : Am.Spec := fnSpec [(0, (.val T63))] (.val T22) [] (fun x => f41_ok x.1) (fun x => f41 x.1) (fun _ => ())
def f41_ctx : Ctx := Cx tys [] [] [] false 12 [] []
theorem f41_cok : CtxOk Tryz.prog f41_ctx := ctxOk_mk tys_ok rfl trivial rfl (by kernel_rfl)
theorem f41_is : SpecOk Tryz.prog 41 f41_spec := fgen f41_cok mixed Tryz.func41 (by kernel_rfl) (bs := []) (by kernel_rfl) trivial fun x => by kernel_rfl

-- imageeditor/patch.Diff
abbrev f26_L9_Y : Type := (D63 × D63 × (D22 × D22 × Int × (List D60) × (List D60) × (Int × Int × (List Int) × Unit) × (Int × Int × (List Int) × Unit) × (List D40) × (List D40) × (List D76) × (List D76) × Unit) × (List D60) × (List D60) × Unit)
abbrev f26_L9_X : Type := ((D22 × D22 × Int × (List D60) × (List D60) × (Int × Int × (List Int) × Unit) × (Int × Int × (List Int) × Unit) × (List D40) × (List D40) × (List D76) × (List D76) × Unit) × Unit)
def f26_L9t (y : f26_L9_Y) (x : f26_L9_X) : Prop × Bool × f26_L9_X :=
 let a9 := y.2.2.2.1 
 let a10 := y.2.2.2.2.1 
 let a8 := x.1 
 let v43 := (bif (decide (a8.2.2.1 < (len a9))) then (decide (a8.2.2.1 < (len a10))) else false)
 let v48 := (nth a9 a8.2.2.1 Z60)
 let v53 := (nth a10 a8.2.2.1 Z60)
 let v56 := (bif v43 then (f21 v48 v53) else false)
 let s_2 := (a8.1, a8.2.1, (a8.2.2.1 + 1), a8.2.2.2.1, a8.2.2.2.2.1, (a8.2.2.2.2.2.1.1, a8.2.2.2.2.2.1.2.1, a8.2.2.2.2.2.1.2.2.1, ()), (a8.2.2.2.2.2.2.1.1, a8.2.2.2.2.2.2.1.2.1, a8.2.2.2.2.2.2.1.2.2.1, ()), a8.2.2.2.2.2.2.2.1, a8.2.2.2.2.2.2.2.2.1, a8.2.2.2.2.2.2.2.2.2.1, a8.2.2.2.2.2.2.2.2.2.2.1, ())
 (((v43 = true → InB a8.2.2.1 (len a9)) ∧ ((v43 = true → InB a8.2.2.1 (len a10)) ∧ ((v43 = true → (f21_ok v48 v53)) ∧ (v56 = true → InR (a8.2.2.1 + 1))))), v56, (s_2, ()))
def f26_L9_ok (y : f26_L9_Y) (x : f26_L9_X) : Prop := (f26_L9t y x).1
def f26_L9_g (y : f26_L9_Y) (x : f26_L9_X) : Bool := (f26_L9t y x).2.1
def f26_L9_next (y : f26_L9_Y) (x : f26_L9_X) : f26_L9_X := (f26_L9t y x).2.2
instance (y : f26_L9_Y) (x : f26_L9_X) : Decidable (f26_L9_ok y x) := by
 unfold f26_L9_ok f26_L9t
 try dsimp only
 infer_instance
def f26_L9_x2_0 (y : f26_L9_Y) (x : f26_L9_X) : (D22 × D22 × Int × (List D60) × (List D60) × (Int × Int × (List Int) × Unit) × (Int × Int × (List Int) × Unit) × (List D40) × (List D40) × (List D76) × (List D76) × Unit) :=
 let a8 := x.1 
 let s_5 := (a8.1, a8.2.1, a8.2.2.1, a8.2.2.2.1, a8.2.2.2.2.1, (a8.2.2.2.2.2.1.1, a8.2.2.2.2.2.1.2.1, a8.2.2.2.2.2.1.2.2.1, ()), (a8.2.2.2.2.2.2.1.1, a8.2.2.2.2.2.2.1.2.1, a8.2.2.2.2.2.2.1.2.2.1, ()), a8.2.2.2.2.2.2.2.1, a8.2.2.2.2.2.2.2.2.1, a8.2.2.2.2.2.2.2.2.2.1, a8.2.2.2.2.2.2.2.2.2.2.1, ())
 s_5
def f26_L9_l2 : List (Nat × Sh) := [(2, (.box T63 (.val T63))), (3, (.box T63 (.val T63))), (4, (.box T30 (.agg (.cons T22 (.cons T22 (.cons (.int .i64) (.cons (.sl T60) (.cons (.sl T60) (.cons T26 (.cons T26 (.cons (.sl T40) (.cons (.sl T40) (.cons (.sl T76) (.cons (.sl T76) .nl))))))))))) (.cons (.val T22) (.cons (.val T22) (.cons vI (.cons (.val (.sl T60)) (.cons (.val (.sl T60)) (.cons (.agg (.cons (.int .i64) (.cons (.int .i64) (.cons (.sl (.int .i64)) .nl))) (.cons vI (.cons vI (.cons (.val (.sl (.int .i64))) .nl)))) (.cons (.agg (.cons (.int .i64) (.cons (.int .i64) (.cons (.sl (.int .i64)) .nl))) (.cons vI (.cons vI (.cons (.val (.sl (.int .i64))) .nl)))) (.cons (.val (.sl T40)) (.cons (.val (.sl T40)) (.cons (.val (.sl T76)) (.cons (.val (.sl T76)) .nl)))))))))))))), (8, (.box T30 (.agg (.cons T22 (.cons T22 (.cons (.int .i64) (.cons (.sl T60) (.cons (.sl T60) (.cons T26 (.cons T26 (.cons (.sl T40) (.cons (.sl T40) (.cons (.sl T76) (.cons (.sl T76) .nl))))))))))) (.cons (.val T22) (.cons (.val T22) (.cons vI (.cons (.own T60 400800 false) (.cons (.own T60 400801 false) (.cons (.agg (.cons (.int .i64) (.cons (.int .i64) (.cons (.sl (.int .i64)) .nl))) (.cons vI (.cons vI (.cons (.own (.int .i64) 400802 false) .nl)))) (.cons (.agg (.cons (.int .i64) (.cons (.int .i64) (.cons (.sl (.int .i64)) .nl))) (.cons vI (.cons vI (.cons (.own (.int .i64) 400803 false) .nl)))) (.cons (.own T40 400804 false) (.cons (.own T40 400805 false) (.cons (.own T76 400806 false) (.cons (.own T76 400807 false) .nl)))))))))))))), (9, (.val (.sl T60))), (10, (.val (.sl T60)))]
def f26_L9_spec : St → Option Out := loopS [(2, (.box T63 (.val T63))), (3, (.box T63 (.val T63))), (4, (.box T30 (.agg (.cons T22 (.cons T22 (.cons (.int .i64) (.cons (.sl T60) (.cons (.sl T60) (.cons T26 (.cons T26 (.cons (.sl T40) (.cons (.sl T40) (.cons (.sl T76) (.cons (.sl T76) .nl))))))))))) (.cons (.val T22) (.cons (.val T22) (.cons vI (.cons (.val (.sl T60)) (.cons (.val (.sl T60)) (.cons (.agg (.cons (.int .i64) (.cons (.int .i64) (.cons (.sl (.int .i64)) .nl))) (.cons vI (.cons vI (.cons (.val (.sl (.int .i64))) .nl)))) (.cons (.agg (.cons (.int .i64) (.cons (.int .i64) (.cons (.sl (.int .i64)) .nl))) (.cons vI (.cons vI (.cons (.val (.sl (.int .i64))) .nl)))) (.cons (.val (.sl T40)) (.cons (.val (.sl T40)) (.cons (.val (.sl T76)) (.cons (.val (.sl T76)) .nl)))))))))))))), (9, (.val (.sl T60))), (10, (.val (.sl T60)))] [(8, (.box T30 (.agg (.cons T22 (.cons T22 (.cons (.int .i64) (.cons (.sl T60) (.cons (.sl T60) (.cons T26 (.cons T26 (.cons (.sl T40) (.cons (.sl T40) (.cons (.sl T76) (.cons (.sl T76) .nl))))))))))) (.cons (.val T22) (.cons (.val T22) (.cons vI (.cons (.own T60 400800 false) (.cons (.own T60 400801 false) (.cons (.agg (.cons (.int .i64) (.cons (.int .i64) (.cons (.sl (.int .i64)) .nl))) (.cons vI (.cons vI (.cons (.own (.int .i64) 400802 false) .nl)))) (.cons (.agg (.cons (.int .i64) (.cons (.int .i64) (.cons (.sl (.int .i64)) .nl))) (.cons vI (.cons vI (.cons (.own (.int .i64) 400803 false) .nl)))) (.cons (.own T40 400804 false) (.cons (.own T40 400805 false) (.cons (.own T76 400806 false) (.cons (.own T76 400807 false) .nl))))))))))))))] f26_L9_g f26_L9_next f26_L9_ok fun y x => [ex 2 none f26_L9_l2 (y.1, y.2.1, y.2.2.1, (f26_L9_x2_0 y x), y.2.2.2.1, y.2.2.2.2.1, ())]
abbrev f26_L12_Y : Type := (D63 × D63 × (D22 × D22 × Int × (List D60) × (List D60) × (Int × Int × (List Int) × Unit) × (Int × Int × (List Int) × Unit) × (List D40) × (List D40) × (List D76) × (List D76) × Unit) × (D22 × D22 × Int × (List D60) × (List D60) × (Int × Int × (List Int) × Unit) × (Int × Int × (List Int) × Unit) × (List D40) × (List D40) × (List D76) × (List D76) × Unit) × Unit)
abbrev f26_L12_X : Type := ((List D60) × (List D60) × Unit)
def f26_L12t (y : f26_L12_Y) (x : f26_L12_X) : Prop × Bool × f26_L12_X :=
 let a9 := x.1 
 let a10 := x.2.1 
 let v76 := (bif (decide ((len a9) > 0)) then (decide ((len a10) > 0)) else false)
 let v80 := (len a9)
 let v81 := (v80 - 1)
 let v82 := (nth a9 v81 Z60)
 let v86 := (len a10)
 let v87 := (v86 - 1)
 let v88 := (nth a10 v87 Z60)
 let v91 := (bif v76 then (f21 v82 v88) else false)
 let v94 := (len a9)
 let v95 := (v94 - 1)
 let v99 := (len a10)
 let v100 := (v99 - 1)
 (((v76 = true → InR (v80 - 1)) ∧ ((v76 = true → InB v81 (len a9)) ∧ ((v76 = true → InR (v86 - 1)) ∧ ((v76 = true → InB v87 (len a10)) ∧ ((v76 = true → (f21_ok v82 v88)) ∧ (v91 = true → (InR (v94 - 1) ∧ ((0 ≤ v95 ∧ v95 ≤ len a9) ∧ (InR (v99 - 1) ∧ (0 ≤ v100 ∧ v100 ≤ len a10)))))))))), v91, ((List.take (Int.toNat v95) a9), (List.take (Int.toNat v100) a10), ()))
def f26_L12_ok (y : f26_L12_Y) (x : f26_L12_X) : Prop := (f26_L12t y x).1
def f26_L12_g (y : f26_L12_Y) (x : f26_L12_X) : Bool := (f26_L12t y x).2.1
def f26_L12_next (y : f26_L12_Y) (x : f26_L12_X) : f26_L12_X := (f26_L12t y x).2.2
instance (y : f26_L12_Y) (x : f26_L12_X) : Decidable (f26_L12_ok y x) := by
 unfold f26_L12_ok f26_L12t
 try dsimp only
 infer_instance
def f26_L12_x4_0 (y : f26_L12_Y) (x : f26_L12_X) : (List D60) :=
 x.1
def f26_L12_x4_1 (y : f26_L12_Y) (x : f26_L12_X) : (List D60) :=
 x.2.1
def f26_L12_l4 : List (Nat × Sh) := [(2, (.box T63 (.val T63))), (3, (.box T63 (.val T63))), (4, (.box T30 (.agg (.cons T22 (.cons T22 (.cons (.int .i64) (.cons (.sl T60) (.cons (.sl T60) (.cons T26 (.cons T26 (.cons (.sl T40) (.cons (.sl T40) (.cons (.sl T76) (.cons (.sl T76) .nl))))))))))) (.cons (.val T22) (.cons (.val T22) (.cons vI (.cons (.val (.sl T60)) (.cons (.val (.sl T60)) (.cons (.agg (.cons (.int .i64) (.cons (.int .i64) (.cons (.sl (.int .i64)) .nl))) (.cons vI (.cons vI (.cons (.val (.sl (.int .i64))) .nl)))) (.cons (.agg (.cons (.int .i64) (.cons (.int .i64) (.cons (.sl (.int .i64)) .nl))) (.cons vI (.cons vI (.cons (.val (.sl (.int .i64))) .nl)))) (.cons (.val (.sl T40)) (.cons (.val (.sl T40)) (.cons (.val (.sl T76)) (.cons (.val (.sl T76)) .nl)))))))))))))), (8, (.box T30 (.agg (.cons T22 (.cons T22 (.cons (.int .i64) (.cons (.sl T60) (.cons (.sl T60) (.cons T26 (.cons T26 (.cons (.sl T40) (.cons (.sl T40) (.cons (.sl T76) (.cons (.sl T76) .nl))))))))))) (.cons (.val T22) (.cons (.val T22) (.cons vI (.cons (.own T60 400800 false) (.cons (.own T60 400801 false) (.cons (.agg (.cons (.int .i64) (.cons (.int .i64) (.cons (.sl (.int .i64)) .nl))) (.cons vI (.cons vI (.cons (.own (.int .i64) 400802 false) .nl)))) (.cons (.agg (.cons (.int .i64) (.cons (.int .i64) (.cons (.sl (.int .i64)) .nl))) (.cons vI (.cons vI (.cons (.own (.int .i64) 400803 false) .nl)))) (.cons (.own T40 400804 false) (.cons (.own T40 400805 false) (.cons (.own T76 400806 false) (.cons (.own T76 400807 false) .nl)))))))))))))), (9, (.val (.sl T60))), (10, (.val (.sl T60)))]
def f26_L12_spec : St → Option Out := loopS [(2, (.box T63 (.val T63))), (3, (.box T63 (.val T63))), (4, (.box T30 (.agg (.cons T22 (.cons T22 (.cons (.int .i64) (.cons (.sl T60) (.cons (.sl T60) (.cons T26 (.cons T26 (.cons (.sl T40) (.cons (.sl T40) (.cons (.sl T76) (.cons (.sl T76) .nl))))))))))) (.cons (.val T22) (.cons (.val T22) (.cons vI (.cons (.val (.sl T60)) (.cons (.val (.sl T60)) (.cons (.agg (.cons (.int .i64) (.cons (.int .i64) (.cons (.sl (.int .i64)) .nl))) (.cons vI (.cons vI (.cons (.val (.sl (.int .i64))) .nl)))) (.cons (.agg (.cons (.int .i64) (.cons (.int .i64) (.cons (.sl (.int .i64)) .nl))) (.cons vI (.cons vI (.cons (.val (.sl (.int .i64))) .nl)))) (.cons (.val (.sl T40)) (.cons (.val (.sl T40)) (.cons (.val (.sl T76)) (.cons (.val (.sl T76)) .nl)))))))))))))), (8, (.box T30 (.agg (.cons T22 (.cons T22 (.cons (.int .i64) (.cons (.sl T60) (.cons (.sl T60) (.cons T26 (.cons T26 (.cons (.sl T40) (.cons (.sl T40) (.cons (.sl T76) (.cons (.sl T76) .nl))))))))))) (.cons (.val T22) (.cons (.val T22) (.cons vI (.cons (.own T60 400800 false) (.cons (.own T60 400801 false) (.cons (.agg (.cons (.int .i64) (.cons (.int .i64) (.cons (.sl (.int .i64)) .nl))) (.cons vI (.cons vI (.cons (.own (.int .i64) 400802 false) .nl)))) (.cons (.agg (.cons (.int .i64) (.cons (.int .i64) (.cons (.sl (.int .i64)) .nl))) (.cons vI (.cons vI (.cons (.own (.int .i64) 400803 false) .nl)))) (.cons (.own T40 400804 false) (.cons (.own T40 400805 false) (.cons (.own T76 400806 false) (.cons (.own T76 400807 false) .nl))))))))))))))] [(9, (.val (.sl T60))), (10, (.val (.sl T60)))] f26_L12_g f26_L12_next f26_L12_ok fun y x => [ex 4 none f26_L12_l4 (y.1, y.2.1, y.2.2.1, y.2.2.2.1, (f26_L12_x4_0 y x), (f26_L12_x4_1 y x), ())]
def f26t (p0 : D63) (p1 : D63) : Prop × (D30 × Int × Unit) :=
 let v12 := (f40 p0)
 let v14 := (v12 != 0)
 let v18 := (f40 p1)
 let v20 := (v18 != 0)
 let s_2 := (Z22, Z22, (0 : Int), ([] : List D60), ([] : List D60), ((0 : Int), (0 : Int), ([] : List Int), ()), ((0 : Int), (0 : Int), ([] : List Int), ()), ([] : List D40), ([] : List D40), ([] : List D76), ([] : List D76), ())
 let s_5 := ((f41 p0), (f41 p1), (0 : Int), ([] : List D60), ([] : List D60), ((0 : Int), (0 : Int), ([] : List Int), ()), ((0 : Int), (0 : Int), ([] : List Int), ()), ([] : List D40), ([] : List D40), ([] : List D76), ([] : List D76), ())
 let y9 := (p0, p1, s_2, p0.2.2.2.1, p1.2.2.2.1, ())
 let x9 := (s_5, ())
 let r9_2_0 := (f26_L9_x2_0 y9 (loopEnd (f26_L9_g y9) (f26_L9_next y9) x9))
 let s_8 := (Z22, Z22, (0 : Int), ([] : List D60), ([] : List D60), ((0 : Int), (0 : Int), ([] : List Int), ()), ((0 : Int), (0 : Int), ([] : List Int), ()), ([] : List D40), ([] : List D40), ([] : List D76), ([] : List D76), ())
 let s_11 := (r9_2_0.1, r9_2_0.2.1, r9_2_0.2.2.1, r9_2_0.2.2.2.1, r9_2_0.2.2.2.2.1, (r9_2_0.2.2.2.2.2.1.1, r9_2_0.2.2.2.2.2.1.2.1, r9_2_0.2.2.2.2.2.1.2.2.1, ()), (r9_2_0.2.2.2.2.2.2.1.1, r9_2_0.2.2.2.2.2.2.1.2.1, r9_2_0.2.2.2.2.2.2.1.2.2.1, ()), r9_2_0.2.2.2.2.2.2.2.1, r9_2_0.2.2.2.2.2.2.2.2.1, r9_2_0.2.2.2.2.2.2.2.2.2.1, r9_2_0.2.2.2.2.2.2.2.2.2.2.1, ())
 let y12 := (p0, p1, s_8, s_11, ())
 let x12 := ((List.drop (Int.toNat r9_2_0.2.2.1) p0.2.2.2.1), (List.drop (Int.toNat r9_2_0.2.2.1) p1.2.2.2.1), ())
 let e12 := (loopEnd (f26_L12_g y12) (f26_L12_next y12) x12)
 let r12_4_0 := (f26_L12_x4_0 y12 e12)
 let r12_4_1 := (f26_L12_x4_1 y12 e12)
 let v103 := (f12 r12_4_0)
 let v105 := (f12 r12_4_1)
 let v113 := (!(f22 p0.2.2.2.2.2.1 p1.2.2.2.2.2.1))
 let m8 := (bif v113 then r9_2_0.1 else r9_2_0.1)
 let m8_1 := (bif v113 then r9_2_0.2.1 else r9_2_0.2.1)
 let m8_2 := (bif v113 then r9_2_0.2.2.1 else r9_2_0.2.2.1)
 let m8_3 := (bif v113 then v103 else v103)
 let m8_4 := (bif v113 then v105 else v105)
 let m8_5 := (bif v113 then (f13 p0.2.2.2.2.2.1) else (r9_2_0.2.2.2.2.2.1.1, r9_2_0.2.2.2.2.2.1.2.1, r9_2_0.2.2.2.2.2.1.2.2.1, ()))
 let m8_6 := (bif v113 then (f13 p1.2.2.2.2.2.1) else (r9_2_0.2.2.2.2.2.2.1.1, r9_2_0.2.2.2.2.2.2.1.2.1, r9_2_0.2.2.2.2.2.2.1.2.2.1, ()))
 let m8_9 := (bif v113 then r9_2_0.2.2.2.2.2.2.2.2.2.1 else r9_2_0.2.2.2.2.2.2.2.2.2.1)
 let m8_10 := (bif v113 then r9_2_0.2.2.2.2.2.2.2.2.2.2.1 else r9_2_0.2.2.2.2.2.2.2.2.2.2.1)
 let v127 := (!(f23 p0.2.2.2.2.2.2.1 p1.2.2.2.2.2.2.1))
 let m8_11 := (bif v127 then m8 else m8)
 let m8_12 := (bif v127 then m8_1 else m8_1)
 let m8_13 := (bif v127 then m8_2 else m8_2)
 let m8_14 := (bif v127 then m8_3 else m8_3)
 let m8_15 := (bif v127 then m8_4 else m8_4)
 let m8_16 := (bif v127 then m8_5 else m8_5)
 let m8_17 := (bif v127 then m8_6 else m8_6)
 let m8_18 := (bif v127 then (f14 p0.2.2.2.2.2.2.1) else (bif v113 then r9_2_0.2.2.2.2.2.2.2.1 else r9_2_0.2.2.2.2.2.2.2.1))
 let m8_19 := (bif v127 then (f14 p1.2.2.2.2.2.2.1) else (bif v113 then r9_2_0.2.2.2.2.2.2.2.2.1 else r9_2_0.2.2.2.2.2.2.2.2.1))
 let v141 := (!(f24 p0.2.2.2.2.2.2.2.1 p1.2.2.2.2.2.2.2.1))
 let s_18 := ((bif v14 then Z22 else (bif v20 then Z22 else (bif v141 then m8_11 else m8_11))), (bif v14 then Z22 else (bif v20 then Z22 else (bif v141 then m8_12 else m8_12))), (bif v14 then (0 : Int) else (bif v20 then (0 : Int) else (bif v141 then m8_13 else m8_13))), (bif v14 then [] else (bif v20 then [] else (bif v141 then m8_14 else m8_14))), (bif v14 then [] else (bif v20 then [] else (bif v141 then m8_15 else m8_15))), (bif v14 then ((0 : Int), (0 : Int), ([] : List Int), ()) else (bif v20 then ((0 : Int), (0 : Int), ([] : List Int), ()) else (bif v141 then m8_16 else m8_16))), (bif v14 then ((0 : Int), (0 : Int), ([] : List Int), ()) else (bif v20 then ((0 : Int), (0 : Int), ([] : List Int), ()) else (bif v141 then m8_17 else m8_17))), (bif v14 then [] else (bif v20 then [] else (bif v141 then m8_18 else m8_18))), (bif v14 then [] else (bif v20 then [] else (bif v141 then m8_19 else m8_19))), (bif v14 then [] else (bif v20 then [] else (bif v141 then (f15 p0.2.2.2.2.2.2.2.1) else (bif v127 then m8_9 else m8_9)))), (bif v14 then [] else (bif v20 then [] else (bif v141 then (f15 p1.2.2.2.2.2.2.2.1) else (bif v127 then m8_10 else m8_10)))), ())
 (((f40_ok p0) ∧ ((!v14) = true → ((f40_ok p1) ∧ ((!v20) = true → ((f41_ok p0) ∧ ((f41_ok p1) ∧ ((Am.Ends (f26_L9_g y9) (f26_L9_next y9) (f26_L9_ok y9) x9) ∧ ((0 ≤ r9_2_0.2.2.1 ∧ r9_2_0.2.2.1 ≤ len p0.2.2.2.1) ∧ ((0 ≤ r9_2_0.2.2.1 ∧ r9_2_0.2.2.1 ≤ len p1.2.2.2.1) ∧ ((Am.Ends (f26_L12_g y12) (f26_L12_next y12) (f26_L12_ok y12) x12) ∧ ((f12_ok r12_4_0) ∧ ((f12_ok r12_4_1) ∧ ((f22_ok p0.2.2.2.2.2.1 p1.2.2.2.2.2.1) ∧ ((v113 = true → ((f13_ok p0.2.2.2.2.2.1) ∧ (f13_ok p1.2.2.2.2.2.1))) ∧ ((f23_ok p0.2.2.2.2.2.2.1 p1.2.2.2.2.2.2.1) ∧ ((v127 = true → ((f14_ok p0.2.2.2.2.2.2.1) ∧ (f14_ok p1.2.2.2.2.2.2.1))) ∧ ((f24_ok p0.2.2.2.2.2.2.2.1 p1.2.2.2.2.2.2.2.1) ∧ (v141 = true → ((f15_ok p0.2.2.2.2.2.2.2.1) ∧ (f15_ok p1.2.2.2.2.2.2.2.1)))))))))))))))))))), (s_18, (bif v14 then v12 else (bif v20 then v18 else (0 : Int))), ()))
def f26_ok (p0 : D63) (p1 : D63) : Prop := (f26t p0 p1).1
def f26 (p0 : D63) (p1 : D63) : (D30 × Int × Unit) := (f26t p0 p1).2
instance (p0 : D63) (p1 : D63) : Decidable (f26_ok p0 p1) := by
 unfold f26_ok f26t
 try dsimp only
 infer_instance
def f26_spec : Am.Spec := fnSpec [(0, (.val T63)), (1, (.val T63))] (.tup (.cons (.val T30) (.cons vI .nl))) [] (fun x => f26_ok x.1 x.2.1) (fun x => f26 x.1 x.2.1) (fun _ => ())
def f26_ctx : Ctx := Cx tys [(12, f12_spec), (13, f13_spec), (14, f14_spec), (15, f15_spec), (21, f21_spec), (22, f22_spec), (23, f23_spec), (24, f24_spec), (40, f40_spec), (41, f41_spec)] [(9, f26_L9_spec), (12, f26_L12_spec)] [(37, [(4, 0, 130, 400804), (4, 0, 133, 400805)]), (43, [(4, 0, 400804, 400404), (4, 0, 400805, 400405)])] false 151 [] []
theorem f26_cok : CtxOk Tryz.prog f26_ctx := ctxOk_mk tys_ok rfl ⟨f12_is, f13_is, f14_is, f15_is, f21_is, f22_is, f23_is, f24_is, f40_is, f41_is, trivial⟩ rfl (by kernel_rfl)
noncomputable def f26_code : Code := Tryz.f26.body.getD .skip
noncomputable def f26_L9 : Code := nthLoop f26_code 0
theorem f26_L9_is : LoopSnd Tryz.prog f26_ctx f26_L9 := lgen f26_cok mixed (sp := f26_L9_spec) rfl [f26_L9_l2] (bs := []) (by kernel_rfl) trivial (by kernel_rfl) (by kernel_rfl) fun y x => by kernel_rfl
noncomputable def f26_L12 : Code := nthLoop f26_code 1
theorem f26_L12_is : LoopSnd Tryz.prog f26_ctx f26_L12 := lgen f26_cok mixed (sp := f26_L12_spec) rfl [f26_L12_l4] (bs := []) (by kernel_rfl) trivial (by kernel_rfl) (by kernel_rfl) fun y x => by kernel_rfl
theorem f26_is : SpecOk Tryz.prog 26 f26_spec := fgen f26_cok mixed Tryz.func26 (by kernel_rfl) (bs := [f26_L9, f26_L12]) (by kernel_rfl) ⟨f26_L9_is, f26_L12_is, trivial⟩ fun x => by kernel_rfl

-- imageeditor/patch.fits
def f42t (p0 : D63) (p1 : D30) : Prop × Bool :=
 let v22 := (bif (bif (!(Ty.eqb T22 (f41 p0) p1.1)) then true else (decide (p1.2.2.1 < 0))) then true else (decide (p1.2.2.1 > (len p0.2.2.2.1))))
 let v26 := (len p0.2.2.2.1)
 let v34 := (bif v22 then true else (decide ((v26 - p1.2.2.1) < (len p1.2.2.2.1))))
 let v43 := (len p1.2.2.2.1)
 let v44 := (p1.2.2.1 + v43)
 let v45 := (List.drop (Int.toNat p1.2.2.1) (List.take (Int.toNat v44) p0.2.2.2.1))
 let v49 := (!(f20_v1 v45 p1.2.2.2.1 ()))
 let v55 := (!(f22 p1.2.2.2.2.2.1 p1.2.2.2.2.2.2.1))
 let v63 := (bif v55 then (!(f22 p1.2.2.2.2.2.1 p0.2.2.2.2.2.1)) else false)
 let v69 := (!(f23 p1.2.2.2.2.2.2.2.1 p1.2.2.2.2.2.2.2.2.1))
 let v77 := (bif v69 then (!(f23 p1.2.2.2.2.2.2.2.1 p0.2.2.2.2.2.2.1)) else false)
 let v82 := (f24 p1.2.2.2.2.2.2.2.2.2.1 p1.2.2.2.2.2.2.2.2.2.2.1)
 (((f41_ok p0) ∧ (((!v22) = true → InR (v26 - p1.2.2.1)) ∧ ((!v34) = true → (InR (p1.2.2.1 + v43) ∧ ((0 ≤ p1.2.2.1 ∧ p1.2.2.1 ≤ v44 ∧ v44 ≤ len p0.2.2.2.1) ∧ ((f20_v1_ok v45 p1.2.2.2.1 ()) ∧ ((!v49) = true → ((f22_ok p1.2.2.2.2.2.1 p1.2.2.2.2.2.2.1) ∧ ((v55 = true → (f22_ok p1.2.2.2.2.2.1 p0.2.2.2.2.2.1)) ∧ ((!v63) = true → ((f23_ok p1.2.2.2.2.2.2.2.1 p1.2.2.2.2.2.2.2.2.1) ∧ ((v69 = true → (f23_ok p1.2.2.2.2.2.2.2.1 p0.2.2.2.2.2.2.1)) ∧ ((!v77) = true → ((f24_ok p1.2.2.2.2.2.2.2.2.2.1 p1.2.2.2.2.2.2.2.2.2.2.1) ∧ ((!v82) = true → (f24_ok p1.2.2.2.2.2.2.2.2.2.1 p0.2.2.2.2.2.2.2.1)))))))))))))))), (bif v34 then false else (bif v49 then false else (bif v63 then false else (bif v77 then false else (bif v82 then true else (f24 p1.2.2.2.2.2.2.2.2.2.1 p0.2.2.2.2.2.2.2.1)))))))
def f42_ok (p0 : D63) (p1 : D30) : Prop := (f42t p0 p1).1
def f42 (p0 : D63) (p1 : D30) : Bool := (f42t p0 p1).2
instance (p0 : D63) (p1 : D30) : Decidable (f42_ok p0 p1) := by
 unfold f42_ok f42t
 try dsimp only
 infer_instance
def f42_spec : Am.Spec := fnSpec [(0, (.val T63)), (1, (.val T30))] vB [] (fun x => f42_ok x.1 x.2.1) (fun x => f42 x.1 x.2.1) (fun _ => ())
def f42_ctx : Ctx := Cx tys [(20, f20_v1_spec), (22, f22_spec), (23, f23_spec), (24, f24_spec), (41, f41_spec)] [] [] false 90 [] []
theorem f42_cok : CtxOk Tryz.prog f42_ctx := ctxOk_mk tys_ok rfl ⟨f20_v1_is, f22_is, f23_is, f24_is, f41_is, trivial⟩ rfl (by kernel_rfl)
theorem f42_is : SpecOk Tryz.prog 42 f42_spec := fgen f42_cok mixed Tryz.func42 (by kernel_rfl) (bs := []) (by kernel_rfl) trivial fun x => by kernel_rfl

def f63 (_p0 : Unit) (_p1 : Int) : List D60 := []
def f63_ok (_p0 : Unit) (p1 : Int) : Prop := 0 ≤ p1 ∧ p1 ≤ 4294967296
instance (p0 : Unit) (p1 : Int) : Decidable (f63_ok p0 p1) := by
  unfold f63_ok
  infer_instance
def f63_ps : List (Nat × Sh) := [(0, .nil), (1, (.val (.int .i64)))]
def f63_rs : Sh := (.own T60 0 true)
def f63_os : List (Nat × Sh) := []
def f63_spec : Am.Spec := fnSpec f63_ps f63_rs f63_os (fun x => f63_ok x.1 x.2.1) (fun x => f63 x.1 x.2.1) (fun _ => ())
theorem f63_is : SpecOk Tryz.prog 63 f63_spec := spec_grow ⟨by kernel_rfl, by kernel_rfl⟩ ⟨_, Tryz.func63, by kernel_rfl, by decide⟩ grow_zero grow_more

-- slices.Concat[[]imageeditor/api.Node,imageeditor/api.Node]
abbrev f43_L3_Y : Type := ((List (List D60)) × (List (List D60)) × Int × Unit)
abbrev f43_L3_X : Type := (Int × Int × Unit)
def f43_L3t (y : f43_L3_Y) (x : f43_L3_X) : Prop × Bool × f43_L3_X :=
 let a9 := y.2.1 
 let a3 := x.1 
 let a11 := x.2.1 
 let v12 := (decide (a11 < y.2.2.1))
 let v17 := (len (nth a9 a11 ([] : List D60)))
 let v18 := (a3 + v17)
 ((v12 = true → (InB a11 (len a9) ∧ (InR (a3 + v17) ∧ (((decide (v18 < 0)) = true → (False ∧ False)) ∧ InR (a11 + 1))))), v12, (v18, (a11 + 1), ()))
def f43_L3_ok (y : f43_L3_Y) (x : f43_L3_X) : Prop := (f43_L3t y x).1
def f43_L3_g (y : f43_L3_Y) (x : f43_L3_X) : Bool := (f43_L3t y x).2.1
def f43_L3_next (y : f43_L3_Y) (x : f43_L3_X) : f43_L3_X := (f43_L3t y x).2.2
instance (y : f43_L3_Y) (x : f43_L3_X) : Decidable (f43_L3_ok y x) := by
 unfold f43_L3_ok f43_L3t
 try dsimp only
 infer_instance
def f43_L3_x2_0 (y : f43_L3_Y) (x : f43_L3_X) : Int :=
 x.1
def f43_L3_l2 : List (Nat × Sh) := [(0, (.val (.sl (.sl T60)))), (3, vI)]
def f43_L3_spec : St → Option Out := loopS [(0, (.val (.sl (.sl T60)))), (9, (.val (.sl (.sl T60)))), (10, vI)] [(3, vI), (11, vI)] f43_L3_g f43_L3_next f43_L3_ok fun y x => [ex 2 none f43_L3_l2 (y.1, (f43_L3_x2_0 y x), ())]
abbrev f43_L11_Y : Type := ((List (List D60)) × Int × Unit)
abbrev f43_L11_X : Type := ((List D60) × Int × Unit)
def f43_L11t (y : f43_L11_Y) (x : f43_L11_X) : Prop × Bool × f43_L11_X :=
 let a25 := y.1 
 let a6 := x.1 
 let a27 := x.2.1 
 let v28 := (decide (a27 < y.2.1))
 let v29 := (nth a25 a27 ([] : List D60))
 ((v28 = true → (InB a27 (len a25) ∧ (((List.length a6 + List.length v29 : Nat) : Int) ≤ 4294967296 ∧ InR (a27 + 1)))), v28, ((a6 ++ v29), (a27 + 1), ()))
def f43_L11_ok (y : f43_L11_Y) (x : f43_L11_X) : Prop := (f43_L11t y x).1
def f43_L11_g (y : f43_L11_Y) (x : f43_L11_X) : Bool := (f43_L11t y x).2.1
def f43_L11_next (y : f43_L11_Y) (x : f43_L11_X) : f43_L11_X := (f43_L11t y x).2.2
instance (y : f43_L11_Y) (x : f43_L11_X) : Decidable (f43_L11_ok y x) := by
 unfold f43_L11_ok f43_L11t
 try dsimp only
 infer_instance
def f43_L11_x4_0 (y : f43_L11_Y) (x : f43_L11_X) : (List D60) :=
 x.1
def f43_L11_spec : St → Option Out := loopS [(25, (.val (.sl (.sl T60)))), (26, vI)] [(6, (.own T60 1006 true)), (27, vI)] f43_L11_g f43_L11_next f43_L11_ok fun y x => [ex 4 none [(6, (.own T60 1006 true))] ((f43_L11_x4_0 y x), ())]
def f43t (p0 : (List (List D60))) : Prop × (List D60) :=
 let y3 := (p0, p0, (len p0), ())
 let x3 := ((0 : Int), (0 : Int), ())
 let r3_2_0 := (f43_L3_x2_0 y3 (loopEnd (f43_L3_g y3) (f43_L3_next y3) x3))
 let y11 := (p0, (len p0), ())
 let x11 := ((f63 () r3_2_0), (0 : Int), ())
 (((Am.Ends (f43_L3_g y3) (f43_L3_next y3) (f43_L3_ok y3) x3) ∧ ((f63_ok () r3_2_0) ∧ (Am.Ends (f43_L11_g y11) (f43_L11_next y11) (f43_L11_ok y11) x11))), (f43_L11_x4_0 y11 (loopEnd (f43_L11_g y11) (f43_L11_next y11) x11)))
def f43_ok (p0 : (List (List D60))) : Prop := (f43t p0).1
def f43 (p0 : (List (List D60))) : (List D60) := (f43t p0).2
instance (p0 : (List (List D60))) : Decidable (f43_ok p0) := by
 unfold f43_ok f43t
 try dsimp only
 infer_instance
def f43_spec : Am.Spec := fnSpec [(0, (.val (.sl (.sl T60))))] (.own T60 0 true) [] (fun x => f43_ok x.1) (fun x => f43 x.1) (fun _ => ())
def f43_ctx : Ctx := Cx tys [(63, f63_spec)] [(3, f43_L3_spec), (11, f43_L11_spec)] [(19, [(4, 0, 24, 1006)]), (27, [(4, 0, 33, 1006)]), (31, [(4, 0, 1006, 0)])] false 36 [] [33]
theorem f43_cok : CtxOk Tryz.prog f43_ctx := ctxOk_mk tys_ok rfl ⟨f63_is, trivial⟩ rfl (by kernel_rfl)
noncomputable def f43_code : Code := Tryz.f43.body.getD .skip
noncomputable def f43_L3 : Code := nthLoop f43_code 0
theorem f43_L3_is : LoopSnd Tryz.prog f43_ctx f43_L3 := lgen f43_cok mixed (sp := f43_L3_spec) rfl [f43_L3_l2] (bs := []) (by kernel_rfl) trivial (by kernel_rfl) (by kernel_rfl) fun y x => by kernel_rfl
noncomputable def f43_L11 : Code := nthLoop f43_code 1
theorem f43_L11_is : LoopSnd Tryz.prog f43_ctx f43_L11 := lgen f43_cok mixed (sp := f43_L11_spec) rfl [[(6, (.own T60 1006 true))]] (bs := []) (by kernel_rfl) trivial (by kernel_rfl) (by kernel_rfl) fun y x => by kernel_rfl
theorem f43_is : SpecOk Tryz.prog 43 f43_spec := fgen f43_cok mixed Tryz.func43 (by kernel_rfl) (bs := [f43_L3, f43_L11]) (by kernel_rfl) ⟨f43_L3_is, f43_L11_is, trivial⟩ fun x => by kernel_rfl

-- imageeditor/patch.copyNodes
abbrev f12_v1_L3_Y : Type := ((List D60) × (List D60) × Int × Unit)
abbrev f12_v1_L3_X : Type := ((List D60) × Int × Unit)
def f12_v1_L3t (y : f12_v1_L3_Y) (x : f12_v1_L3_X) : Prop × Bool × f12_v1_L3_X :=
 let a9 := y.2.1 
 let a3 := x.1 
 let a11 := x.2.1 
 let v12 := (decide (a11 < y.2.2.1))
 let v15 := (nth a9 a11 Z60)
 ((v12 = true → (InB a11 (len a9) ∧ (a11 < len a9 ∧ ((f30_ok v15 v15) ∧ (InB a11 (len a3) ∧ (a11 < len a3 ∧ InR (a11 + 1))))))), v12, ((List.set a3 (Int.toNat a11) (f30 v15 v15).1), (a11 + 1), ()))
def f12_v1_L3_ok (y : f12_v1_L3_Y) (x : f12_v1_L3_X) : Prop := (f12_v1_L3t y x).1
def f12_v1_L3_g (y : f12_v1_L3_Y) (x : f12_v1_L3_X) : Bool := (f12_v1_L3t y x).2.1
def f12_v1_L3_next (y : f12_v1_L3_Y) (x : f12_v1_L3_X) : f12_v1_L3_X := (f12_v1_L3t y x).2.2
instance (y : f12_v1_L3_Y) (x : f12_v1_L3_X) : Decidable (f12_v1_L3_ok y x) := by
 unfold f12_v1_L3_ok f12_v1_L3t
 try dsimp only
 infer_instance
def f12_v1_L3_x2_0 (y : f12_v1_L3_Y) (x : f12_v1_L3_X) : (List D60) :=
 x.1
def f12_v1_L3_l2 : List (Nat × Sh) := [(0, (.own T60 400000 true)), (3, (.own T60 1003 true))]
def f12_v1_L3_spec : St → Option Out := loopS [(0, (.own T60 400000 true)), (9, (.own T60 400000 true)), (10, vI)] [(3, (.own T60 1003 true)), (11, vI)] f12_v1_L3_g f12_v1_L3_next f12_v1_L3_ok fun y x => [ex 2 none f12_v1_L3_l2 (y.1, (f12_v1_L3_x2_0 y x), ())]
def f12_v1t (p0 : (List D60)) : Prop × (List D60) × ((List D60) × Unit) :=
 let v7 := (len p0)
 let y3 := (p0, p0, (len p0), ())
 let x3 := ((List.replicate (Int.toNat v7) Z60), (0 : Int), ())
 (((0 ≤ v7 ∧ v7 ≤ v7 ∧ v7 ≤ 4294967296) ∧ (Am.Ends (f12_v1_L3_g y3) (f12_v1_L3_next y3) (f12_v1_L3_ok y3) x3)), (f12_v1_L3_x2_0 y3 (loopEnd (f12_v1_L3_g y3) (f12_v1_L3_next y3) x3)), (p0, ()))
def f12_v1_ok (p0 : (List D60)) : Prop := (f12_v1t p0).1
def f12_v1 (p0 : (List D60)) : (List D60) := (f12_v1t p0).2.1
def f12_v1_o (p0 : (List D60)) : ((List D60) × Unit) := (f12_v1t p0).2.2
instance (p0 : (List D60)) : Decidable (f12_v1_ok p0) := by
 unfold f12_v1_ok f12_v1t
 try dsimp only
 infer_instance
def f12_v1_spec : Am.Spec := fnSpec [(0, (.own T60 400000 true))] (.val (.sl T60)) [(0, (.own T60 400000 true))] (fun x => f12_v1_ok x.1) (fun x => f12_v1 x.1) (fun x => f12_v1_o x.1)
def f12_v1_ctx : Ctx := Cx tys [(30, f30_spec)] [(3, f12_v1_L3_spec)] [(3, [(4, 0, 8, 1003)]), (15, [(1, 2, 0, 0), (4, 0, 1003, 0)])] false 27 [0] [8]
theorem f12_v1_cok : CtxOk Tryz.prog f12_v1_ctx := ctxOk_mk tys_ok rfl ⟨f30_is, trivial⟩ rfl (by kernel_rfl)
noncomputable def f12_v1_code : Code := Tryz.f12.body.getD .skip
noncomputable def f12_v1_L3 : Code := nthLoop f12_v1_code 0
theorem f12_v1_L3_is : LoopSnd Tryz.prog f12_v1_ctx f12_v1_L3 := lgen f12_v1_cok mixed (sp := f12_v1_L3_spec) rfl [f12_v1_L3_l2] (bs := []) (by kernel_rfl) trivial (by kernel_rfl) (by kernel_rfl) fun y x => by kernel_rfl
theorem f12_v1_is : SpecOk Tryz.prog 12 f12_v1_spec := fgen f12_v1_cok mixed Tryz.func12 (by kernel_rfl) (bs := [f12_v1_L3]) (by kernel_rfl) ⟨f12_v1_L3_is, trivial⟩ fun x => by kernel_rfl

-- imageeditor/patch.Apply
def f27t (p0 : D63) (p1 : D30) : Prop × (D63 × Int × Unit) :=
 let v10 := (f40 p0)
 let v12 := (v10 != 0)
 let v18 := (!(f42 p0 p1))
 let v46 := (len p1.2.2.2.1)
 let v47 := (p1.2.2.1 + v46)
 let v49 := ([(List.take (Int.toNat p1.2.2.1) p0.2.2.2.1), p1.2.2.2.2.1, (List.drop (Int.toNat v47) p0.2.2.2.1)] : List (List D60))
 let v50 := (f43 v49)
 let v51 := (f12_v1 v50)
 let v58 := (f14 p0.2.2.2.2.2.2.1)
 let v61 := (f15 p0.2.2.2.2.2.2.2.1)
 let v70 := (!(f22 p1.2.2.2.2.2.1 p1.2.2.2.2.2.2.1))
 let m7 := (bif v70 then p1.2.1.1 else p1.2.1.1)
 let m7_1 := (bif v70 then p1.2.1.2.1 else p1.2.1.2.1)
 let m7_2 := (bif v70 then p1.2.1.2.2.1 else p1.2.1.2.2.1)
 let m7_3 := (bif v70 then v51 else v51)
 let m7_4 := (bif v70 then p1.2.1.2.2.2.1 else p1.2.1.2.2.2.1)
 let m7_5 := (bif v70 then (f13 p1.2.2.2.2.2.2.1) else (f13 p0.2.2.2.2.2.1))
 let m7_7 := (bif v70 then v61 else v61)
 let v80 := (!(f23 p1.2.2.2.2.2.2.2.1 p1.2.2.2.2.2.2.2.2.1))
 let m7_8 := (bif v80 then m7 else m7)
 let m7_9 := (bif v80 then m7_1 else m7_1)
 let m7_10 := (bif v80 then m7_2 else m7_2)
 let m7_11 := (bif v80 then m7_3 else m7_3)
 let m7_12 := (bif v80 then m7_4 else m7_4)
 let m7_13 := (bif v80 then m7_5 else m7_5)
 let m7_14 := (bif v80 then (f14 p1.2.2.2.2.2.2.2.2.1) else (bif v70 then v58 else v58))
 let v90 := (!(f24 p1.2.2.2.2.2.2.2.2.2.1 p1.2.2.2.2.2.2.2.2.2.2.1))
 let m7_16 := (bif v90 then m7_8 else m7_8)
 let m7_17 := (bif v90 then m7_9 else m7_9)
 let m7_18 := (bif v90 then m7_10 else m7_10)
 let m7_19 := (bif v90 then m7_11 else m7_11)
 let m7_20 := (bif v90 then m7_12 else m7_12)
 let m7_21 := (bif v90 then m7_13 else m7_13)
 let m7_22 := (bif v90 then m7_14 else m7_14)
 let m7_23 := (bif v90 then (f15 p1.2.2.2.2.2.2.2.2.2.2.1) else (bif v80 then m7_7 else m7_7))
 let s := (m7_16, m7_17, m7_18, m7_19, m7_20, m7_21, m7_22, m7_23, ())
 let v96 := (f40 s)
 let v98 := (v96 != 0)
 let s_4 := ((bif v12 then (0 : Int) else (bif v18 then (0 : Int) else (bif v98 then (0 : Int) else m7_16))), (bif v12 then (0 : Int) else (bif v18 then (0 : Int) else (bif v98 then (0 : Int) else m7_17))), (bif v12 then (0 : Int) else (bif v18 then (0 : Int) else (bif v98 then (0 : Int) else m7_18))), (bif v12 then [] else (bif v18 then [] else (bif v98 then [] else m7_19))), (bif v12 then (0 : Int) else (bif v18 then (0 : Int) else (bif v98 then (0 : Int) else m7_20))), (bif v12 then ((0 : Int), (0 : Int), ([] : List Int), ()) else (bif v18 then ((0 : Int), (0 : Int), ([] : List Int), ()) else (bif v98 then ((0 : Int), (0 : Int), ([] : List Int), ()) else m7_21))), (bif v12 then [] else (bif v18 then [] else (bif v98 then [] else m7_22))), (bif v12 then [] else (bif v18 then [] else (bif v98 then [] else m7_23))), ())
 (((f40_ok p0) ∧ ((!v12) = true → ((f42_ok p0 p1) ∧ ((!v18) = true → ((0 ≤ p1.2.2.1 ∧ p1.2.2.1 ≤ len p0.2.2.2.1) ∧ (InR (p1.2.2.1 + v46) ∧ ((0 ≤ v47 ∧ v47 ≤ len p0.2.2.2.1) ∧ ((f43_ok v49) ∧ ((f12_v1_ok v50) ∧ (0 < List.length v50 ∧ (List.length v50 = List.length v50 ∧ ((f13_ok p0.2.2.2.2.2.1) ∧ ((f14_ok p0.2.2.2.2.2.2.1) ∧ ((f15_ok p0.2.2.2.2.2.2.2.1) ∧ ((f22_ok p1.2.2.2.2.2.1 p1.2.2.2.2.2.2.1) ∧ ((v70 = true → (f13_ok p1.2.2.2.2.2.2.1)) ∧ ((f23_ok p1.2.2.2.2.2.2.2.1 p1.2.2.2.2.2.2.2.2.1) ∧ ((v80 = true → (f14_ok p1.2.2.2.2.2.2.2.2.1)) ∧ ((f24_ok p1.2.2.2.2.2.2.2.2.2.1 p1.2.2.2.2.2.2.2.2.2.2.1) ∧ ((v90 = true → (f15_ok p1.2.2.2.2.2.2.2.2.2.2.1)) ∧ (f40_ok s))))))))))))))))))))), (s_4, (bif v12 then v10 else (bif v18 then (14 : Int) else (bif v98 then v96 else (0 : Int)))), ()))
def f27_ok (p0 : D63) (p1 : D30) : Prop := (f27t p0 p1).1
def f27 (p0 : D63) (p1 : D30) : (D63 × Int × Unit) := (f27t p0 p1).2
instance (p0 : D63) (p1 : D30) : Decidable (f27_ok p0 p1) := by
 unfold f27_ok f27t
 try dsimp only
 infer_instance
def f27_spec : Am.Spec := fnSpec [(0, (.val T63)), (1, (.val T30))] (.tup (.cons (.val T63) (.cons vI .nl))) [] (fun x => f27_ok x.1 x.2.1) (fun x => f27 x.1 x.2.1) (fun _ => ())
def f27_ctx : Ctx := { Cx tys [(12, f12_v1_spec), (13, f13_spec), (14, f14_spec), (15, f15_spec), (22, f22_spec), (23, f23_spec), (24, f24_spec), (40, f40_spec), (42, f42_spec), (43, f43_spec)] [] [(17, [(4, 0, 58, 400702)]), (25, [(5, 0, 400702, 0), (4, 0, 83, 400702)]), (37, [(4, 0, 400702, 400402)])] false 102 [] [] with wants := [(12, [0])] }
theorem f27_cok : CtxOk Tryz.prog f27_ctx := ctxOk_mk tys_ok rfl ⟨f12_v1_is, f13_is, f14_is, f15_is, f22_is, f23_is, f24_is, f40_is, f42_is, f43_is, trivial⟩ rfl (by kernel_rfl)
theorem f27_is : SpecOk Tryz.prog 27 f27_spec := fgen f27_cok mixed Tryz.func27 (by kernel_rfl) (bs := []) (by kernel_rfl) trivial fun x => by kernel_rfl

-- imageeditor/patch.Then
def f28t (p0 : D30) (p1 : D30) (p2 : D63) : Prop × (D30 × Int × Unit) :=
 let v13 := (f27 p2 p0)
 let v17 := (v13.2.1 != 0)
 let v23 := (f27 v13.1 p1)
 let v27 := (v23.2.1 != 0)
 let v32 := (f26 p2 v23.1)
 let s_2 := (Z22, Z22, (0 : Int), ([] : List D60), ([] : List D60), ((0 : Int), (0 : Int), ([] : List Int), ()), ((0 : Int), (0 : Int), ([] : List Int), ()), ([] : List D40), ([] : List D40), ([] : List D76), ([] : List D76), ())
 let s_5 := (Z22, Z22, (0 : Int), ([] : List D60), ([] : List D60), ((0 : Int), (0 : Int), ([] : List Int), ()), ((0 : Int), (0 : Int), ([] : List Int), ()), ([] : List D40), ([] : List D40), ([] : List D76), ([] : List D76), ())
 (((f27_ok p2 p0) ∧ ((!v17) = true → ((f27_ok v13.1 p1) ∧ ((!v27) = true → (f26_ok p2 v23.1))))), ((bif v17 then s_5 else (bif v27 then s_2 else v32.1)), (bif v17 then v13.2.1 else (bif v27 then v23.2.1 else v32.2.1)), ()))
def f28_ok (p0 : D30) (p1 : D30) (p2 : D63) : Prop := (f28t p0 p1 p2).1
def f28 (p0 : D30) (p1 : D30) (p2 : D63) : (D30 × Int × Unit) := (f28t p0 p1 p2).2
instance (p0 : D30) (p1 : D30) (p2 : D63) : Decidable (f28_ok p0 p1 p2) := by
 unfold f28_ok f28t
 try dsimp only
 infer_instance
def f28_spec : Am.Spec := fnSpec [(0, (.val T30)), (1, (.val T30)), (2, (.val T63))] (.tup (.cons (.val T30) (.cons vI .nl))) [] (fun x => f28_ok x.1 x.2.1 x.2.2.1) (fun x => f28 x.1 x.2.1 x.2.2.1) (fun _ => ())
def f28_ctx : Ctx := Cx tys [(26, f26_spec), (27, f27_spec)] [] [] false 35 [] []
theorem f28_cok : CtxOk Tryz.prog f28_ctx := ctxOk_mk tys_ok rfl ⟨f26_is, f27_is, trivial⟩ rfl (by kernel_rfl)
theorem f28_is : SpecOk Tryz.prog 28 f28_spec := fgen f28_cok mixed Tryz.func28 (by kernel_rfl) (bs := []) (by kernel_rfl) trivial fun x => by kernel_rfl

-- imageeditor/imageeditorref32.SameMask
abbrev f44_L4_Y : Type := (D26 × D26 × Int × Unit)
abbrev f44_L4_X : Type := (Int × Unit)
def f44_L4t (y : f44_L4_Y) (x : f44_L4_X) : Prop × Bool × f44_L4_X × Bool × Bool :=
 let a2 := y.1 
 let a3 := y.2.1 
 let a30 := x.1 
 let v31 := (decide (a30 < y.2.2.1))
 let v43 := ((nth a2.2.2.1 a30 (0 : Int)) != (nth a3.2.2.1 a30 (0 : Int)))
 ((v31 = true → (InB a30 (len a2.2.2.1) ∧ (InB a30 (len a3.2.2.1) ∧ ((!v43) = true → InR (a30 + 1))))), (v31 && (!v43)), ((a30 + 1), ()), (v31 && v43), (!v31))
def f44_L4_ok (y : f44_L4_Y) (x : f44_L4_X) : Prop := (f44_L4t y x).1
def f44_L4_g (y : f44_L4_Y) (x : f44_L4_X) : Bool := (f44_L4t y x).2.1
def f44_L4_next (y : f44_L4_Y) (x : f44_L4_X) : f44_L4_X := (f44_L4t y x).2.2.1
def f44_L4_e1 (y : f44_L4_Y) (x : f44_L4_X) : Bool := (f44_L4t y x).2.2.2.1
def f44_L4_e2 (y : f44_L4_Y) (x : f44_L4_X) : Bool := (f44_L4t y x).2.2.2.2
instance (y : f44_L4_Y) (x : f44_L4_X) : Decidable (f44_L4_ok y x) := by
 unfold f44_L4_ok f44_L4t
 try dsimp only
 infer_instance
def f44_L4_x1_0 (y : f44_L4_Y) (x : f44_L4_X) : Bool :=
 false
def f44_L4_spec : St → Option Out := loopS [(2, (.box T26 (.val T26))), (3, (.box T26 (.val T26))), (29, vI)] [(30, vI)] f44_L4_g f44_L4_next f44_L4_ok fun y x => [ex 1 (some (f44_L4_e1 y x)) [(4, vB)] ((f44_L4_x1_0 y x), ()), ex 2 (some (f44_L4_e2 y x)) [] ()]
def f44t (p0 : D26) (p1 : D26) : Prop × Bool :=
 let v26 := (bif (bif (p0.1 != p1.1) then true else (p0.2.1 != p1.2.1)) then true else ((len p0.2.2.1) != (len p1.2.2.1)))
 let y4 := (p0, p1, (len p0.2.2.1), ())
 let x4 := ((0 : Int), ())
 let e4 := (loopEnd (f44_L4_g y4) (f44_L4_next y4) x4)
 (((!v26) = true → (Am.Ends (f44_L4_g y4) (f44_L4_next y4) (f44_L4_ok y4) x4)), (bif v26 then false else (bif (f44_L4_e1 y4 e4) then (f44_L4_x1_0 y4 e4) else true)))
def f44_ok (p0 : D26) (p1 : D26) : Prop := (f44t p0 p1).1
def f44 (p0 : D26) (p1 : D26) : Bool := (f44t p0 p1).2
instance (p0 : D26) (p1 : D26) : Decidable (f44_ok p0 p1) := by
 unfold f44_ok f44t
 try dsimp only
 infer_instance
def f44_spec : Am.Spec := fnSpec [(0, (.val T26)), (1, (.val T26))] vB [] (fun x => f44_ok x.1 x.2.1) (fun x => f44 x.1 x.2.1) (fun _ => ())
def f44_ctx : Ctx := Cx tys [] [(4, f44_L4_spec)] [] false 45 [] []
theorem f44_cok : CtxOk Tryz.prog f44_ctx := ctxOk_mk tys_ok rfl trivial rfl (by kernel_rfl)
noncomputable def f44_code : Code := Tryz.f44.body.getD .skip
noncomputable def f44_L4 : Code := nthLoop f44_code 0
theorem f44_L4_is : LoopSnd Tryz.prog f44_ctx f44_L4 := lgen f44_cok mixed (sp := f44_L4_spec) rfl [[(4, vB)], []] (bs := []) (by kernel_rfl) trivial (by kernel_rfl) (by kernel_rfl) fun y x => by kernel_rfl
theorem f44_is : SpecOk Tryz.prog 44 f44_spec := fgen f44_cok mixed Tryz.func44 (by kernel_rfl) (bs := [f44_L4]) (by kernel_rfl) ⟨f44_L4_is, trivial⟩ fun x => by kernel_rfl

-- imageeditor/imageeditorref11.Same
abbrev f45_L4_Y : Type := (D51 × D51 × Unit)
abbrev f45_L4_X : Type := (Int × Unit)
def f45_L4t (y : f45_L4_Y) (x : f45_L4_X) : Prop × Bool × f45_L4_X × Bool × Bool :=
 let a2 := y.1 
 let a3 := y.2.1 
 let a5 := x.1 
 let v31 := (decide (a5 < (len a2.2.2.1)))
 let v44 := (!(Ty.eqb T22 (nth a2.2.2.1 a5 Z22) (nth a3.2.2.1 a5 Z22)))
 ((v31 = true → (InB a5 (len a2.2.2.1) ∧ (InB a5 (len a3.2.2.1) ∧ ((!v44) = true → InR (a5 + 1))))), (v31 && (!v44)), ((a5 + 1), ()), (v31 && v44), (!v31))
def f45_L4_ok (y : f45_L4_Y) (x : f45_L4_X) : Prop := (f45_L4t y x).1
def f45_L4_g (y : f45_L4_Y) (x : f45_L4_X) : Bool := (f45_L4t y x).2.1
def f45_L4_next (y : f45_L4_Y) (x : f45_L4_X) : f45_L4_X := (f45_L4t y x).2.2.1
def f45_L4_e1 (y : f45_L4_Y) (x : f45_L4_X) : Bool := (f45_L4t y x).2.2.2.1
def f45_L4_e2 (y : f45_L4_Y) (x : f45_L4_X) : Bool := (f45_L4t y x).2.2.2.2
instance (y : f45_L4_Y) (x : f45_L4_X) : Decidable (f45_L4_ok y x) := by
 unfold f45_L4_ok f45_L4t
 try dsimp only
 infer_instance
def f45_L4_x1_0 (y : f45_L4_Y) (x : f45_L4_X) : Bool :=
 false
def f45_L4_spec : St → Option Out := loopS [(2, (.box T51 (.val T51))), (3, (.box T51 (.val T51)))] [(5, vI)] f45_L4_g f45_L4_next f45_L4_ok fun y x => [ex 1 (some (f45_L4_e1 y x)) [(4, vB)] ((f45_L4_x1_0 y x), ()), ex 2 (some (f45_L4_e2 y x)) [] ()]
def f45t (p0 : D51) (p1 : D51) : Prop × Bool :=
 let v26 := (bif (bif (p0.1 != p1.1) then true else (p0.2.1 != p1.2.1)) then true else ((len p0.2.2.1) != (len p1.2.2.1)))
 let y4 := (p0, p1, ())
 let x4 := ((0 : Int), ())
 let e4 := (loopEnd (f45_L4_g y4) (f45_L4_next y4) x4)
 (((!v26) = true → (Am.Ends (f45_L4_g y4) (f45_L4_next y4) (f45_L4_ok y4) x4)), (bif v26 then false else (bif (f45_L4_e1 y4 e4) then (f45_L4_x1_0 y4 e4) else true)))
def f45_ok (p0 : D51) (p1 : D51) : Prop := (f45t p0 p1).1
def f45 (p0 : D51) (p1 : D51) : Bool := (f45t p0 p1).2
instance (p0 : D51) (p1 : D51) : Decidable (f45_ok p0 p1) := by
 unfold f45_ok f45t
 try dsimp only
 infer_instance
def f45_spec : Am.Spec := fnSpec [(0, (.val T51)), (1, (.val T51))] vB [] (fun x => f45_ok x.1 x.2.1) (fun x => f45 x.1 x.2.1) (fun _ => ())
def f45_ctx : Ctx := Cx tys [] [(4, f45_L4_spec)] [] false 45 [] []
theorem f45_cok : CtxOk Tryz.prog f45_ctx := ctxOk_mk tys_ok rfl trivial rfl (by kernel_rfl)
noncomputable def f45_code : Code := Tryz.f45.body.getD .skip
noncomputable def f45_L4 : Code := nthLoop f45_code 0
theorem f45_L4_is : LoopSnd Tryz.prog f45_ctx f45_L4 := lgen f45_cok mixed (sp := f45_L4_spec) rfl [[(4, vB)], []] (bs := []) (by kernel_rfl) trivial (by kernel_rfl) (by kernel_rfl) fun y x => by kernel_rfl
theorem f45_is : SpecOk Tryz.prog 45 f45_spec := fgen f45_cok mixed Tryz.func45 (by kernel_rfl) (bs := [f45_L4]) (by kernel_rfl) ⟨f45_L4_is, trivial⟩ fun x => by kernel_rfl

-- imageeditor/imageeditorref32.Same
abbrev f29_L4_Y : Type := (D63 × D63 × Int × Unit)
abbrev f29_L4_X : Type := (Int × Unit)
def f29_L4t (y : f29_L4_Y) (x : f29_L4_X) : Prop × Bool × f29_L4_X × Bool × Bool :=
 let a2 := y.1 
 let a3 := y.2.1 
 let a74 := x.1 
 let v75 := (decide (a74 < y.2.2.1))
 let v80 := (nth a2.2.2.2.1 a74 Z60)
 let v85 := (nth a3.2.2.2.1 a74 Z60)
 let v88 := (!(f34 v80 v85))
 ((v75 = true → (InB a74 (len a2.2.2.2.1) ∧ (InB a74 (len a3.2.2.2.1) ∧ ((f34_ok v80 v85) ∧ ((!v88) = true → InR (a74 + 1)))))), (v75 && (!v88)), ((a74 + 1), ()), (v75 && v88), (!v75))
def f29_L4_ok (y : f29_L4_Y) (x : f29_L4_X) : Prop := (f29_L4t y x).1
def f29_L4_g (y : f29_L4_Y) (x : f29_L4_X) : Bool := (f29_L4t y x).2.1
def f29_L4_next (y : f29_L4_Y) (x : f29_L4_X) : f29_L4_X := (f29_L4t y x).2.2.1
def f29_L4_e1 (y : f29_L4_Y) (x : f29_L4_X) : Bool := (f29_L4t y x).2.2.2.1
def f29_L4_e2 (y : f29_L4_Y) (x : f29_L4_X) : Bool := (f29_L4t y x).2.2.2.2
instance (y : f29_L4_Y) (x : f29_L4_X) : Decidable (f29_L4_ok y x) := by
 unfold f29_L4_ok f29_L4t
 try dsimp only
 infer_instance
def f29_L4_x1_0 (y : f29_L4_Y) (x : f29_L4_X) : Bool :=
 false
def f29_L4_l2 : List (Nat × Sh) := [(2, (.box T63 (.val T63))), (3, (.box T63 (.val T63)))]
def f29_L4_spec : St → Option Out := loopS [(2, (.box T63 (.val T63))), (3, (.box T63 (.val T63))), (73, vI)] [(74, vI)] f29_L4_g f29_L4_next f29_L4_ok fun y x => [ex 1 (some (f29_L4_e1 y x)) [(4, vB)] ((f29_L4_x1_0 y x), ()), ex 2 (some (f29_L4_e2 y x)) f29_L4_l2 (y.1, y.2.1, ())]
abbrev f29_L10_Y : Type := (D63 × D63 × Int × Unit)
abbrev f29_L10_X : Type := (Int × Unit)
def f29_L10t (y : f29_L10_Y) (x : f29_L10_X) : Prop × Bool × f29_L10_X × Bool × Bool :=
 let a2 := y.1 
 let a3 := y.2.1 
 let a93 := x.1 
 let v94 := (decide (a93 < y.2.2.1))
 let v106 := (!(Ty.eqb T40 (nth a2.2.2.2.2.2.2.1 a93 Z40) (nth a3.2.2.2.2.2.2.1 a93 Z40)))
 ((v94 = true → (InB a93 (len a2.2.2.2.2.2.2.1) ∧ (InB a93 (len a3.2.2.2.2.2.2.1) ∧ ((!v106) = true → InR (a93 + 1))))), (v94 && (!v106)), ((a93 + 1), ()), (v94 && v106), (!v94))
def f29_L10_ok (y : f29_L10_Y) (x : f29_L10_X) : Prop := (f29_L10t y x).1
def f29_L10_g (y : f29_L10_Y) (x : f29_L10_X) : Bool := (f29_L10t y x).2.1
def f29_L10_next (y : f29_L10_Y) (x : f29_L10_X) : f29_L10_X := (f29_L10t y x).2.2.1
def f29_L10_e1 (y : f29_L10_Y) (x : f29_L10_X) : Bool := (f29_L10t y x).2.2.2.1
def f29_L10_e4 (y : f29_L10_Y) (x : f29_L10_X) : Bool := (f29_L10t y x).2.2.2.2
instance (y : f29_L10_Y) (x : f29_L10_X) : Decidable (f29_L10_ok y x) := by
 unfold f29_L10_ok f29_L10t
 try dsimp only
 infer_instance
def f29_L10_x1_0 (y : f29_L10_Y) (x : f29_L10_X) : Bool :=
 false
def f29_L10_l4 : List (Nat × Sh) := [(2, (.box T63 (.val T63))), (3, (.box T63 (.val T63)))]
def f29_L10_spec : St → Option Out := loopS [(2, (.box T63 (.val T63))), (3, (.box T63 (.val T63))), (92, vI)] [(93, vI)] f29_L10_g f29_L10_next f29_L10_ok fun y x => [ex 1 (some (f29_L10_e1 y x)) [(4, vB)] ((f29_L10_x1_0 y x), ()), ex 4 (some (f29_L10_e4 y x)) f29_L10_l4 (y.1, y.2.1, ())]
abbrev f29_L16_Y : Type := (D63 × D63 × Int × Unit)
abbrev f29_L16_X : Type := (Int × Unit)
def f29_L16t (y : f29_L16_Y) (x : f29_L16_X) : Prop × Bool × f29_L16_X × Bool × Bool :=
 let a2 := y.1 
 let a3 := y.2.1 
 let a111 := x.1 
 let v112 := (decide (a111 < y.2.2.1))
 let v117 := (nth a2.2.2.2.2.2.2.2.1 a111 Z76)
 let v122 := (nth a3.2.2.2.2.2.2.2.1 a111 Z76)
 let v149 := (bif (bif (bif (v117.1 != v122.1) then true else (!(v117.2.1 == v122.2.1))) then true else (v117.2.2.1 != v122.2.2.1)) then true else (v117.2.2.2.1 != v122.2.2.2.1))
 let v157 := (bif v149 then true else (!(f45 v117.2.2.2.2.1 v122.2.2.2.2.1)))
 ((v112 = true → (InB a111 (len a2.2.2.2.2.2.2.2.1) ∧ (InB a111 (len a3.2.2.2.2.2.2.2.1) ∧ (((!v149) = true → (f45_ok v117.2.2.2.2.1 v122.2.2.2.2.1)) ∧ ((!v157) = true → InR (a111 + 1)))))), (v112 && (!v157)), ((a111 + 1), ()), (v112 && v157), (!v112))
def f29_L16_ok (y : f29_L16_Y) (x : f29_L16_X) : Prop := (f29_L16t y x).1
def f29_L16_g (y : f29_L16_Y) (x : f29_L16_X) : Bool := (f29_L16t y x).2.1
def f29_L16_next (y : f29_L16_Y) (x : f29_L16_X) : f29_L16_X := (f29_L16t y x).2.2.1
def f29_L16_e1 (y : f29_L16_Y) (x : f29_L16_X) : Bool := (f29_L16t y x).2.2.2.1
def f29_L16_e6 (y : f29_L16_Y) (x : f29_L16_X) : Bool := (f29_L16t y x).2.2.2.2
instance (y : f29_L16_Y) (x : f29_L16_X) : Decidable (f29_L16_ok y x) := by
 unfold f29_L16_ok f29_L16t
 try dsimp only
 infer_instance
def f29_L16_x1_0 (y : f29_L16_Y) (x : f29_L16_X) : Bool :=
 false
def f29_L16_spec : St → Option Out := loopS [(2, (.box T63 (.val T63))), (3, (.box T63 (.val T63))), (110, vI)] [(111, vI)] f29_L16_g f29_L16_next f29_L16_ok fun y x => [ex 1 (some (f29_L16_e1 y x)) [(4, vB)] ((f29_L16_x1_0 y x), ()), ex 6 (some (f29_L16_e6 y x)) [] ()]
def f29t (p0 : D63) (p1 : D63) : Prop × Bool :=
 let v44 := (bif (bif (bif (bif (p0.1 != p1.1) then true else (p0.2.1 != p1.2.1)) then true else (p0.2.2.1 != p1.2.2.1)) then true else (p0.2.2.2.2.1 != p1.2.2.2.2.1)) then true else ((len p0.2.2.2.1) != (len p1.2.2.2.1)))
 let v62 := (bif (bif v44 then true else ((len p0.2.2.2.2.2.2.1) != (len p1.2.2.2.2.2.2.1))) then true else ((len p0.2.2.2.2.2.2.2.1) != (len p1.2.2.2.2.2.2.2.1)))
 let v70 := (bif v62 then true else (!(f44 p0.2.2.2.2.2.1 p1.2.2.2.2.2.1)))
 let y4 := (p0, p1, (len p0.2.2.2.1), ())
 let x4 := ((0 : Int), ())
 let e4 := (loopEnd (f29_L4_g y4) (f29_L4_next y4) x4)
 let y10 := (p0, p1, (len p0.2.2.2.2.2.2.1), ())
 let x10 := ((0 : Int), ())
 let e10 := (loopEnd (f29_L10_g y10) (f29_L10_next y10) x10)
 let y16 := (p0, p1, (len p0.2.2.2.2.2.2.2.1), ())
 let x16 := ((0 : Int), ())
 let e16 := (loopEnd (f29_L16_g y16) (f29_L16_next y16) x16)
 let m4_3 := (bif v70 then false else (bif (f29_L4_e1 y4 e4) then (f29_L4_x1_0 y4 e4) else (bif (f29_L10_e1 y10 e10) then (f29_L10_x1_0 y10 e10) else (bif (f29_L16_e1 y16 e16) then (f29_L16_x1_0 y16 e16) else true))))
 ((((!v62) = true → (f44_ok p0.2.2.2.2.2.1 p1.2.2.2.2.2.1)) ∧ ((!v70) = true → ((Am.Ends (f29_L4_g y4) (f29_L4_next y4) (f29_L4_ok y4) x4) ∧ ((f29_L4_e2 y4 e4) = true → ((Am.Ends (f29_L10_g y10) (f29_L10_next y10) (f29_L10_ok y10) x10) ∧ ((f29_L10_e4 y10 e10) = true → (Am.Ends (f29_L16_g y16) (f29_L16_next y16) (f29_L16_ok y16) x16))))))), m4_3)
def f29_ok (p0 : D63) (p1 : D63) : Prop := (f29t p0 p1).1
def f29 (p0 : D63) (p1 : D63) : Bool := (f29t p0 p1).2
instance (p0 : D63) (p1 : D63) : Decidable (f29_ok p0 p1) := by
 unfold f29_ok f29t
 try dsimp only
 infer_instance
def f29_spec : Am.Spec := fnSpec [(0, (.val T63)), (1, (.val T63))] vB [] (fun x => f29_ok x.1 x.2.1) (fun x => f29 x.1 x.2.1) (fun _ => ())
def f29_ctx : Ctx := Cx tys [(34, f34_spec), (44, f44_spec), (45, f45_spec)] [(4, f29_L4_spec), (10, f29_L10_spec), (16, f29_L16_spec)] [] false 159 [] []
theorem f29_cok : CtxOk Tryz.prog f29_ctx := ctxOk_mk tys_ok rfl ⟨f34_is, f44_is, f45_is, trivial⟩ rfl (by kernel_rfl)
noncomputable def f29_code : Code := Tryz.f29.body.getD .skip
noncomputable def f29_L4 : Code := nthLoop f29_code 0
theorem f29_L4_is : LoopSnd Tryz.prog f29_ctx f29_L4 := lgen f29_cok mixed (sp := f29_L4_spec) rfl [[(4, vB)], f29_L4_l2] (bs := []) (by kernel_rfl) trivial (by kernel_rfl) (by kernel_rfl) fun y x => by kernel_rfl
noncomputable def f29_L10 : Code := nthLoop f29_code 1
theorem f29_L10_is : LoopSnd Tryz.prog f29_ctx f29_L10 := lgen f29_cok mixed (sp := f29_L10_spec) rfl [[(4, vB)], f29_L10_l4] (bs := []) (by kernel_rfl) trivial (by kernel_rfl) (by kernel_rfl) fun y x => by kernel_rfl
noncomputable def f29_L16 : Code := nthLoop f29_code 2
theorem f29_L16_is : LoopSnd Tryz.prog f29_ctx f29_L16 := lgen f29_cok mixed (sp := f29_L16_spec) rfl [[(4, vB)], []] (bs := []) (by kernel_rfl) trivial (by kernel_rfl) (by kernel_rfl) fun y x => by kernel_rfl
theorem f29_is : SpecOk Tryz.prog 29 f29_spec := fgen f29_cok mixed Tryz.func29 (by kernel_rfl) (bs := [f29_L4, f29_L10, f29_L16]) (by kernel_rfl) ⟨f29_L4_is, f29_L10_is, f29_L16_is, trivial⟩ fun x => by kernel_rfl

-- imageeditor/imageeditorlaw42.awake
def f11t  : Prop × Bool :=
 let v20 := ([(1 : Int), (5 : Int), (2 : Int), (6 : Int), (3 : Int), (7 : Int)] : List Int)
 let v21 := (f25 v20)
 let v22 := ([(1 : Int), (5 : Int), (2 : Int), (9 : Int), (3 : Int), (7 : Int)] : List Int)
 let v23 := (f25 v22)
 let v24 := ([(1 : Int), (5 : Int), (3 : Int), (7 : Int)] : List Int)
 let v25 := (f25 v24)
 let v29 := (f26 v21 v23)
 let v35 := (f26 v21 v25)
 let v41 := (f26 v21 v21)
 let v47 := (f27 v21 v29.1)
 let v59 := (f4 v29.1)
 let v60 := (f27 v47.1 v59)
 let v66 := (f4 v29.1)
 let v68 := (f28 v29.1 v66 v21)
 let s_1 := ((0 : Int), (0 : Int), (0 : Int), ([] : List D60), (0 : Int), ((0 : Int), (0 : Int), ([] : List Int), ()), ([] : List D40), ([] : List D76), ())
 let v95 := (bif (bif (bif (v29.2.1 == 0) then (v29.1.2.2.1 == 1) else false) then ((len v29.1.2.2.2.1) == 1) else false) then ((len v29.1.2.2.2.2.1) == 1) else false)
 let v100 := (bif v95 then ((f9 v29.1) == 2) else false)
 let v126 := (bif (bif (bif (bif (bif v100 then (!(f7 v29.1)) else false) then (v35.2.1 == 0) else false) then (v35.1.2.2.1 == 1) else false) then ((len v35.1.2.2.2.1) == 1) else false) then ((len v35.1.2.2.2.2.1) == 0) else false)
 let v135 := (bif (bif v126 then (v41.2.1 == 0) else false) then (v41.1.2.2.1 == 3) else false)
 let v140 := (bif v135 then ((f9 v41.1) == 0) else false)
 let v148 := (bif (bif v140 then (f7 v41.1) else false) then (v47.2.1 == 0) else false)
 let v161 := (bif (bif (bif v148 then (f29 v47.1 v23) else false) then ((f27 v47.1 v29.1).2.1 == 14) else false) then (v60.2.1 == 0) else false)
 let v170 := (bif (bif v161 then (f29 v60.1 v21) else false) then (v68.2.1 == 0) else false)
 (((f25_ok v20) ∧ ((f25_ok v22) ∧ ((f25_ok v24) ∧ ((f26_ok v21 v23) ∧ ((f26_ok v21 v25) ∧ ((f26_ok v21 v21) ∧ ((f27_ok v21 v29.1) ∧ ((f27_ok v47.1 v29.1) ∧ ((f4_ok v29.1) ∧ ((f27_ok v47.1 v59) ∧ ((f4_ok v29.1) ∧ ((f28_ok v29.1 v66 v21) ∧ ((f26_ok s_1 v21) ∧ ((v95 = true → (f9_ok v29.1)) ∧ ((v100 = true → (f7_ok v29.1)) ∧ ((v135 = true → (f9_ok v41.1)) ∧ ((v140 = true → (f7_ok v41.1)) ∧ ((v148 = true → (f29_ok v47.1 v23)) ∧ ((v161 = true → (f29_ok v60.1 v21)) ∧ (v170 = true → (f7_ok v68.1))))))))))))))))))))), (bif (bif v170 then (f7 v68.1) else false) then ((f26 s_1 v21).2.1 == 15) else false))
def f11_ok  : Prop := (f11t).1
def f11  : Bool := (f11t).2
instance  : Decidable (f11_ok) := by
 unfold f11_ok f11t
 try dsimp only
 infer_instance
def f11_spec : Am.Spec := fnSpec [] vB [] (fun x => f11_ok ) (fun x => f11 ) (fun _ => ())
def f11_ctx : Ctx := Cx tys [(4, f4_spec), (7, f7_spec), (9, f9_spec), (25, f25_spec), (26, f26_spec), (27, f27_spec), (28, f28_spec), (29, f29_spec)] [] [] false 179 [] []
theorem f11_cok : CtxOk Tryz.prog f11_ctx := ctxOk_mk tys_ok rfl ⟨f4_is, f7_is, f9_is, f25_is, f26_is, f27_is, f28_is, f29_is, trivial⟩ rfl (by kernel_rfl)
noncomputable def f11_code : Code := Tryz.f11.body.getD .skip
theorem f11_is : SpecOk Tryz.prog 11 f11_spec := fgen f11_cok mixed Tryz.func11 (by kernel_rfl) (bs := []) (by kernel_rfl) trivial fun x => by kernel_rfl

-- imageeditor/imageeditorlaw42.PatchAsks
def f3t (p0 : D30) : Prop × Bool :=
 let v5 := (f4 p0)
 let v8 := (f6 p0)
 let v9 := (f5 v5 v8)
 let v12 := (f4 v5)
 let v15 := (bif v9 then (f5 v12 p0) else false)
 let v22 := (bif v15 then (Ty.eqb .bool (f7 p0) (f8 p0)) else false)
 let v29 := (bif v22 then (Ty.eqb .bool (f7 v5) (f7 p0)) else false)
 let v36 := (bif v29 then ((f9 p0) == (f10 p0)) else false)
 let v43 := (bif v36 then ((f9 v5) == (f9 p0)) else false)
 (((f4_ok p0) ∧ ((f6_ok p0) ∧ ((f5_ok v5 v8) ∧ ((v9 = true → (f4_ok v5)) ∧ ((v9 = true → (f5_ok v12 p0)) ∧ ((v15 = true → (f7_ok p0)) ∧ ((v15 = true → (f8_ok p0)) ∧ ((v22 = true → (f7_ok v5)) ∧ ((v22 = true → (f7_ok p0)) ∧ ((v29 = true → (f9_ok p0)) ∧ ((v29 = true → (f10_ok p0)) ∧ ((v36 = true → (f9_ok v5)) ∧ ((v36 = true → (f9_ok p0)) ∧ (v43 = true → f11_ok)))))))))))))), (bif v43 then f11 else false))
def f3_ok (p0 : D30) : Prop := (f3t p0).1
def f3 (p0 : D30) : Bool := (f3t p0).2
instance (p0 : D30) : Decidable (f3_ok p0) := by
 unfold f3_ok f3t
 try dsimp only
 infer_instance
def f3_spec : Am.Spec := fnSpec [(0, (.val T30))] vB [] (fun x => f3_ok x.1) (fun x => f3 x.1) (fun _ => ())
def f3_ctx : Ctx := Cx tys [(4, f4_spec), (5, f5_spec), (6, f6_spec), (7, f7_spec), (8, f8_spec), (9, f9_spec), (10, f10_spec), (11, f11_spec)] [] [] false 47 [] []
theorem f3_cok : CtxOk Tryz.prog f3_ctx := ctxOk_mk tys_ok rfl ⟨f4_is, f5_is, f6_is, f7_is, f8_is, f9_is, f10_is, f11_is, trivial⟩ rfl (by kernel_rfl)
theorem f3_is : SpecOk Tryz.prog 3 f3_spec := fgen f3_cok mixed Tryz.func3 (by kernel_rfl) (bs := []) (by kernel_rfl) trivial fun x => by kernel_rfl


end Go.Proofs.YtcjaalnbodmdgaaGreatDoor.Am
