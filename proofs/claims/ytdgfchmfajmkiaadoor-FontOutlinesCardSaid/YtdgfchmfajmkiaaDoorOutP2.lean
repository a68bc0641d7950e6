/- Printed by program, part 2. No condition. -/
import Derived.Test.YtdgfchmfajmkiaaDoorOutL
set_option linter.unusedVariables false
set_option synthInstance.maxSize 4000
set_option synthInstance.maxHeartbeats 400000
namespace Go.Proofs.YtdgfchmfajmkiaaDoor.Am
open Go Go.Am Go.Proofs
def f25t (p0 : Int) (p1 : Int) (p2 : Int) : Prop × Bool :=
 (True, (bif (decide (p0 ≥ p1)) then (decide (p0 ≤ p2)) else false))
def f25_ok (p0 : Int) (p1 : Int) (p2 : Int) : Prop := (f25t p0 p1 p2).1
def f25 (p0 : Int) (p1 : Int) (p2 : Int) : Bool := (f25t p0 p1 p2).2
instance (p0 : Int) (p1 : Int) (p2 : Int) : Decidable (f25_ok p0 p1 p2) := by
 unfold f25_ok f25t
 try dsimp only
 infer_instance
def f25_spec : Am.Spec := fnSpec [(0, vI), (1, vI), (2, vI)] vB [] (fun x => f25_ok x.1 x.2.1 x.2.2.1) (fun x => f25 x.1 x.2.1 x.2.2.1) (fun _ => ())
def f25_ctx : Ctx := Cx tys [] [] [] false 15 [] []
theorem f25_cok : CtxOk Tryd.prog f25_ctx := ctxOk_mk tys_ok rfl trivial rfl (by kernel_rfl)
theorem f25_is : SpecOk Tryd.prog 25 f25_spec := fgen f25_cok mixed Tryd.func25 (by kernel_rfl) (bs := []) (by kernel_rfl) trivial fun x => by kernel_rfl
def f51t (p0 : D50) : Prop × Bool :=
 (True, (bif (bif (bif (decide (p0.1 < (-16777216))) then true else (decide (p0.1 > 16777216))) then true else (decide (p0.2.1 < (-16777216)))) then true else (decide (p0.2.1 > 16777216))))
def f51_ok (p0 : D50) : Prop := (f51t p0).1
def f51 (p0 : D50) : Bool := (f51t p0).2
instance (p0 : D50) : Decidable (f51_ok p0) := by
 unfold f51_ok f51t
 try dsimp only
 infer_instance
def f51_spec : Am.Spec := fnSpec [(0, (.val T50))] vB [] (fun x => f51_ok x.1) (fun x => f51 x.1) (fun _ => ())
def f51_ctx : Ctx := Cx tys [] [] [] false 21 [] []
theorem f51_cok : CtxOk Tryd.prog f51_ctx := ctxOk_mk tys_ok rfl trivial rfl (by kernel_rfl)
theorem f51_is : SpecOk Tryd.prog 51 f51_spec := fgen f51_cok mixed Tryd.func51 (by kernel_rfl) (bs := []) (by kernel_rfl) trivial fun x => by kernel_rfl
def f52t (p0 : Int) : Prop × Int :=
 let v5 := (p0 == 3)
 let v7 := (p0 == 4)
 (True, (bif (bif v5 then true else (bif v7 then true else (p0 == 5))) then (bif v5 then (2 : Int) else (bif v7 then (3 : Int) else (0 : Int))) else (1 : Int)))
def f52_ok (p0 : Int) : Prop := (f52t p0).1
def f52 (p0 : Int) : Int := (f52t p0).2
instance (p0 : Int) : Decidable (f52_ok p0) := by
 unfold f52_ok f52t
 try dsimp only
 infer_instance
def f52_spec : Am.Spec := fnSpec [(0, vI)] vI [] (fun x => f52_ok x.1) (fun x => f52 x.1) (fun _ => ())
def f52_ctx : Ctx := Cx tys [] [] [] false 10 [] []
theorem f52_cok : CtxOk Tryd.prog f52_ctx := ctxOk_mk tys_ok rfl trivial rfl (by kernel_rfl)
theorem f52_is : SpecOk Tryd.prog 52 f52_spec := fgen f52_cok mixed Tryd.func52 (by kernel_rfl) (bs := []) (by kernel_rfl) trivial fun x => by kernel_rfl
abbrev f30_L9_Y : Type := ((List D74) × Int × D74 × (List D74) × Int × Int × (List D50) × Unit)
abbrev f30_L9_X : Type := (Int × Unit)
def f30_L9t (y : f30_L9_Y) (x : f30_L9_X) : Prop × Bool × f30_L9_X × Bool × Bool :=
 let a4 := y.2.2.1
 let a27 := x.1
 let v28 := (decide (a27 < 3))
 let v30 := (nth y.2.2.2.2.2.2.1 a27 Z50)
 let v32 := (f51 v30)
 let v44 := (bif v32 then true else (bif (decide (a27 ≥ (f52 a4.1))) then (!(Ty.eqb T50 v30 ((0 : Int), (0 : Int), ()))) else false))
 ((v28 = true → (InB a27 3 ∧ ((f51_ok v30) ∧ (((!v32) = true → (f52_ok a4.1)) ∧ ((!v44) = true → InR (a27 + 1)))))), (v28 && (!v44)), ((a27 + 1), ()), (v28 && v44), (!v28))
def f30_L9_ok (y : f30_L9_Y) (x : f30_L9_X) : Prop := (f30_L9t y x).1
def f30_L9_g (y : f30_L9_Y) (x : f30_L9_X) : Bool := (f30_L9t y x).2.1
def f30_L9_next (y : f30_L9_Y) (x : f30_L9_X) : f30_L9_X := (f30_L9t y x).2.2.1
def f30_L9_e1 (y : f30_L9_Y) (x : f30_L9_X) : Bool := (f30_L9t y x).2.2.2.1
def f30_L9_e4 (y : f30_L9_Y) (x : f30_L9_X) : Bool := (f30_L9t y x).2.2.2.2
instance (y : f30_L9_Y) (x : f30_L9_X) : Decidable (f30_L9_ok y x) := by
 unfold f30_L9_ok f30_L9t
 try dsimp only
 infer_instance
def f30_L9_x1_0 (y : f30_L9_Y) (x : f30_L9_X) : Int :=
 (2 : Int)
def f30_L9_l4 : List (Nat × Sh) := [(0, (.val (.sl T74))), (3, vI), (4, (.box T74 (.val T74))), (10, (.val (.sl T74))), (11, vI), (12, vI)]
def f30_L9_spec : St → Option Out := loopS [(0, (.val (.sl T74))), (3, vI), (4, (.box T74 (.val T74))), (10, (.val (.sl T74))), (11, vI), (12, vI), (26, (.val (.arr 3 T50)))] [(27, vI)] f30_L9_g f30_L9_next f30_L9_ok fun y x => [ex 1 (some (f30_L9_e1 y x)) [(2, vI)] ((f30_L9_x1_0 y x), ()), ex 4 (some (f30_L9_e4 y x)) f30_L9_l4 (y.1, y.2.1, y.2.2.1, y.2.2.2.1, y.2.2.2.2.1, y.2.2.2.2.2.1, ())]
abbrev f30_L4_Y : Type := ((List D74) × (List D74) × Int × Unit)
abbrev f30_L4_X : Type := (Int × Unit)
def f30_L4t (y : f30_L4_Y) (x : f30_L4_X) : Prop × Bool × f30_L4_X × Bool × Bool :=
 let a0 := y.1
 let a10 := y.2.1
 let a11 := y.2.2.1
 let a12 := x.1
 let v13 := (decide (a12 < a11))
 let v15 := (nth a10 a12 Z74)
 let v24 := (bif (decide (v15.1 < 1)) then true else (decide (v15.1 > 5)))
 let y9 := (a0, a12, v15, a10, a11, a12, v15.2.1, ())
 let x9 := ((0 : Int), ())
 let e9 := (loopEnd (f30_L9_g y9) (f30_L9_next y9) x9)
 let q9_4 := (f30_L9_e4 y9 e9)
 let v48 := (v15.1 != 1)
 let v51 := (a12 == 0)
 let v55 := (a12 - 1)
 let v61 := (bif v48 then (bif v51 then true else ((nth a0 v55 Z74).1 == 5)) else false)
 let c_5 := ((!v24) && (q9_4 && (!v61)))
 ((v13 = true → (InB a12 (len a10) ∧ (((!v24) = true → ((Am.Ends (f30_L9_g y9) (f30_L9_next y9) (f30_L9_ok y9) x9) ∧ (q9_4 = true → (((v48 && (!v51)) = true → InR (a12 - 1)) ∧ ((v48 && (!v51)) = true → InB v55 (len a0)))))) ∧ (c_5 = true → InR (a12 + 1))))), (v13 && c_5), ((a12 + 1), ()), (v13 && (v24 || ((!v24) && ((f30_L9_e1 y9 e9) || (q9_4 && v61))))), (!v13))
def f30_L4_ok (y : f30_L4_Y) (x : f30_L4_X) : Prop := (f30_L4t y x).1
def f30_L4_g (y : f30_L4_Y) (x : f30_L4_X) : Bool := (f30_L4t y x).2.1
def f30_L4_next (y : f30_L4_Y) (x : f30_L4_X) : f30_L4_X := (f30_L4t y x).2.2.1
def f30_L4_e1 (y : f30_L4_Y) (x : f30_L4_X) : Bool := (f30_L4t y x).2.2.2.1
def f30_L4_e2 (y : f30_L4_Y) (x : f30_L4_X) : Bool := (f30_L4t y x).2.2.2.2
instance (y : f30_L4_Y) (x : f30_L4_X) : Decidable (f30_L4_ok y x) := by
 unfold f30_L4_ok f30_L4t
 try dsimp only
 infer_instance
def f30_L4_x1_0 (y : f30_L4_Y) (x : f30_L4_X) : Int :=
 let a10 := y.2.1
 let a12 := x.1
 let v15 := (nth a10 a12 Z74)
 let y9 := (y.1, a12, v15, a10, y.2.2.1, a12, v15.2.1, ())
 let e9 := (loopEnd (f30_L9_g y9) (f30_L9_next y9) ((0 : Int), ()))
 (bif (bif (decide (v15.1 < 1)) then true else (decide (v15.1 > 5))) then (8 : Int) else (bif (f30_L9_e1 y9 e9) then (f30_L9_x1_0 y9 e9) else (24 : Int)))
def f30_L4_spec : St → Option Out := loopS [(0, (.val (.sl T74))), (10, (.val (.sl T74))), (11, vI)] [(12, vI)] f30_L4_g f30_L4_next f30_L4_ok fun y x => [ex 1 (some (f30_L4_e1 y x)) [(2, vI)] ((f30_L4_x1_0 y x), ()), ex 2 (some (f30_L4_e2 y x)) [] ()]
def f30t (p0 : (List D74)) : Prop × Int :=
 let v9 := (decide ((len p0) > 128))
 let y4 := (p0, p0, (len p0), ())
 let x4 := ((0 : Int), ())
 let e4 := (loopEnd (f30_L4_g y4) (f30_L4_next y4) x4)
 (((!v9) = true → (Am.Ends (f30_L4_g y4) (f30_L4_next y4) (f30_L4_ok y4) x4)), (bif v9 then (3 : Int) else (bif (f30_L4_e1 y4 e4) then (f30_L4_x1_0 y4 e4) else (0 : Int))))
def f30_ok (p0 : (List D74)) : Prop := (f30t p0).1
def f30 (p0 : (List D74)) : Int := (f30t p0).2
instance (p0 : (List D74)) : Decidable (f30_ok p0) := by
 unfold f30_ok f30t
 try dsimp only
 infer_instance
def f30_spec : Am.Spec := fnSpec [(0, (.val (.sl T74)))] vI [] (fun x => f30_ok x.1) (fun x => f30 x.1) (fun _ => ())
def f30_ctx : Ctx := Cx tys [(51, f51_spec), (52, f52_spec)] [(9, f30_L9_spec), (4, f30_L4_spec)] [] false 63 [] []
theorem f30_cok : CtxOk Tryd.prog f30_ctx := ctxOk_mk tys_ok rfl ⟨f51_is, f52_is, trivial⟩ rfl (by kernel_rfl)
noncomputable def f30_code : Code := Tryd.f30.body.getD .skip
noncomputable def f30_L4 : Code := nthLoop f30_code 0
noncomputable def f30_L9 : Code := nthLoop f30_L4 0
theorem f30_L9_is : LoopSnd Tryd.prog f30_ctx f30_L9 := lgen f30_cok mixed (sp := f30_L9_spec) rfl [[(2, vI)], f30_L9_l4] (bs := []) (by kernel_rfl) trivial (by kernel_rfl) (by kernel_rfl) fun y x => by kernel_rfl
theorem f30_L4_is : LoopSnd Tryd.prog f30_ctx f30_L4 := lgen f30_cok mixed (sp := f30_L4_spec) rfl [[(2, vI)], []] (bs := [f30_L9]) (by kernel_rfl) ⟨f30_L9_is, trivial⟩ (by kernel_rfl) (by kernel_rfl) fun y x => by kernel_rfl
theorem f30_is : SpecOk Tryd.prog 30 f30_spec := fgen f30_cok mixed Tryd.func30 (by kernel_rfl) (bs := [f30_L4]) (by kernel_rfl) ⟨f30_L4_is, trivial⟩ fun x => by kernel_rfl
abbrev f47_L10_Y : Type := ((List D74) × Int × Int × (List D50) × Unit)
abbrev f47_L10_X : Type := (Int × Unit)
def f47_L10t (y : f47_L10_Y) (x : f47_L10_X) : Prop × Bool × f47_L10_X × Bool × Bool :=
 let a27 := x.1
 let v28 := (decide (a27 < 3))
 let v29 := (nth y.2.2.2.1 a27 Z50)
 let v33 := (!(f25 v29.1 (-65536 : Int) (65536 : Int)))
 let v39 := (bif v33 then true else (!(f25 v29.2.1 (-65536 : Int) (65536 : Int))))
 ((v28 = true → (InB a27 3 ∧ ((f25_ok v29.1 (-65536 : Int) (65536 : Int)) ∧ (((!v33) = true → (f25_ok v29.2.1 (-65536 : Int) (65536 : Int))) ∧ ((!v39) = true → InR (a27 + 1)))))), (v28 && (!v39)), ((a27 + 1), ()), (v28 && v39), (!v28))
def f47_L10_ok (y : f47_L10_Y) (x : f47_L10_X) : Prop := (f47_L10t y x).1
def f47_L10_g (y : f47_L10_Y) (x : f47_L10_X) : Bool := (f47_L10t y x).2.1
def f47_L10_next (y : f47_L10_Y) (x : f47_L10_X) : f47_L10_X := (f47_L10t y x).2.2.1
def f47_L10_e1 (y : f47_L10_Y) (x : f47_L10_X) : Bool := (f47_L10t y x).2.2.2.1
def f47_L10_e4 (y : f47_L10_Y) (x : f47_L10_X) : Bool := (f47_L10t y x).2.2.2.2
instance (y : f47_L10_Y) (x : f47_L10_X) : Decidable (f47_L10_ok y x) := by
 unfold f47_L10_ok f47_L10t
 try dsimp only
 infer_instance
def f47_L10_x1_0 (y : f47_L10_Y) (x : f47_L10_X) : Int :=
 (2 : Int)
def f47_L10_l4 : List (Nat × Sh) := [(19, (.val (.sl T74))), (20, vI), (21, vI)]
def f47_L10_spec : St → Option Out := loopS [(19, (.val (.sl T74))), (20, vI), (21, vI), (26, (.val (.arr 3 T50)))] [(27, vI)] f47_L10_g f47_L10_next f47_L10_ok fun y x => [ex 1 (some (f47_L10_e1 y x)) [(2, vI)] ((f47_L10_x1_0 y x), ()), ex 4 (some (f47_L10_e4 y x)) f47_L10_l4 (y.1, y.2.1, y.2.2.1, ())]
abbrev f47_L7_Y : Type := ((List D74) × Int × Unit)
abbrev f47_L7_X : Type := (Int × Unit)
def f47_L7t (y : f47_L7_Y) (x : f47_L7_X) : Prop × Bool × f47_L7_X × Bool × Bool :=
 let a19 := y.1
 let a20 := y.2.1
 let a21 := x.1
 let v22 := (decide (a21 < a20))
 let y10 := (a19, a20, a21, (nth a19 a21 Z74).2.1, ())
 let x10 := ((0 : Int), ())
 let e10 := (loopEnd (f47_L10_g y10) (f47_L10_next y10) x10)
 let q10_4 := (f47_L10_e4 y10 e10)
 ((v22 = true → (InB a21 (len a19) ∧ ((Am.Ends (f47_L10_g y10) (f47_L10_next y10) (f47_L10_ok y10) x10) ∧ (q10_4 = true → InR (a21 + 1))))), (v22 && q10_4), ((a21 + 1), ()), (v22 && (f47_L10_e1 y10 e10)), (!v22))
def f47_L7_ok (y : f47_L7_Y) (x : f47_L7_X) : Prop := (f47_L7t y x).1
def f47_L7_g (y : f47_L7_Y) (x : f47_L7_X) : Bool := (f47_L7t y x).2.1
def f47_L7_next (y : f47_L7_Y) (x : f47_L7_X) : f47_L7_X := (f47_L7t y x).2.2.1
def f47_L7_e1 (y : f47_L7_Y) (x : f47_L7_X) : Bool := (f47_L7t y x).2.2.2.1
def f47_L7_e2 (y : f47_L7_Y) (x : f47_L7_X) : Bool := (f47_L7t y x).2.2.2.2
instance (y : f47_L7_Y) (x : f47_L7_X) : Decidable (f47_L7_ok y x) := by
 unfold f47_L7_ok f47_L7t
 try dsimp only
 infer_instance
def f47_L7_x1_0 (y : f47_L7_Y) (x : f47_L7_X) : Int :=
 let a19 := y.1
 let a21 := x.1
 let y10 := (a19, y.2.1, a21, (nth a19 a21 Z74).2.1, ())
 (f47_L10_x1_0 y10 (loopEnd (f47_L10_g y10) (f47_L10_next y10) ((0 : Int), ())))
def f47_L7_spec : St → Option Out := loopS [(19, (.val (.sl T74))), (20, vI)] [(21, vI)] f47_L7_g f47_L7_next f47_L7_ok fun y x => [ex 1 (some (f47_L7_e1 y x)) [(2, vI)] ((f47_L7_x1_0 y x), ()), ex 2 (some (f47_L7_e2 y x)) [] ()]
def f47t (p0 : D47) : Prop × Int :=
 let v11 := (!(f25 p0.2.1 (0 : Int) (65536 : Int)))
 let v14 := (f30 p0.2.2.1)
 let v16 := (v14 != 0)
 let y7 := (p0.2.2.1, (len p0.2.2.1), ())
 let x7 := ((0 : Int), ())
 let e7 := (loopEnd (f47_L7_g y7) (f47_L7_next y7) x7)
 (((f25_ok p0.2.1 (0 : Int) (65536 : Int)) ∧ ((!v11) = true → ((f30_ok p0.2.2.1) ∧ ((!v16) = true → (Am.Ends (f47_L7_g y7) (f47_L7_next y7) (f47_L7_ok y7) x7))))), (bif v11 then (2 : Int) else (bif v16 then v14 else (bif (f47_L7_e1 y7 e7) then (f47_L7_x1_0 y7 e7) else (0 : Int)))))
def f47_ok (p0 : D47) : Prop := (f47t p0).1
def f47 (p0 : D47) : Int := (f47t p0).2
instance (p0 : D47) : Decidable (f47_ok p0) := by
 unfold f47_ok f47t
 try dsimp only
 infer_instance
def f47_spec : Am.Spec := fnSpec [(0, (.val T47))] vI [] (fun x => f47_ok x.1) (fun x => f47 x.1) (fun _ => ())
def f47_ctx : Ctx := Cx tys [(25, f25_spec), (30, f30_spec)] [(10, f47_L10_spec), (7, f47_L7_spec)] [] false 42 [] []
theorem f47_cok : CtxOk Tryd.prog f47_ctx := ctxOk_mk tys_ok rfl ⟨f25_is, f30_is, trivial⟩ rfl (by kernel_rfl)
noncomputable def f47_code : Code := Tryd.f47.body.getD .skip
noncomputable def f47_L7 : Code := nthLoop f47_code 0
noncomputable def f47_L10 : Code := nthLoop f47_L7 0
theorem f47_L10_is : LoopSnd Tryd.prog f47_ctx f47_L10 := lgen f47_cok mixed (sp := f47_L10_spec) rfl [[(2, vI)], f47_L10_l4] (bs := []) (by kernel_rfl) trivial (by kernel_rfl) (by kernel_rfl) fun y x => by kernel_rfl
theorem f47_L7_is : LoopSnd Tryd.prog f47_ctx f47_L7 := lgen f47_cok mixed (sp := f47_L7_spec) rfl [[(2, vI)], []] (bs := [f47_L10]) (by kernel_rfl) ⟨f47_L10_is, trivial⟩ (by kernel_rfl) (by kernel_rfl) fun y x => by kernel_rfl
theorem f47_is : SpecOk Tryd.prog 47 f47_spec := fgen f47_cok mixed Tryd.func47 (by kernel_rfl) (bs := [f47_L7]) (by kernel_rfl) ⟨f47_L7_is, trivial⟩ fun x => by kernel_rfl
def f48t (p0 : D87) (p1 : D87) : Prop × Bool :=
 (True, (bif (decide (p0.1 > p1.1)) then true else (bif (p0.1 == p1.1) then (decide (p0.2.1 > p1.2.1)) else false)))
def f48_ok (p0 : D87) (p1 : D87) : Prop := (f48t p0 p1).1
def f48 (p0 : D87) (p1 : D87) : Bool := (f48t p0 p1).2
instance (p0 : D87) (p1 : D87) : Decidable (f48_ok p0 p1) := by
 unfold f48_ok f48t
 try dsimp only
 infer_instance
def f48_spec : Am.Spec := fnSpec [(0, (.val T87)), (1, (.val T87))] vB [] (fun x => f48_ok x.1 x.2.1) (fun x => f48 x.1 x.2.1) (fun _ => ())
def f48_ctx : Ctx := Cx tys [] [] [] false 24 [] []
theorem f48_cok : CtxOk Tryd.prog f48_ctx := ctxOk_mk tys_ok rfl trivial rfl (by kernel_rfl)
theorem f48_is : SpecOk Tryd.prog 48 f48_spec := fgen f48_cok mixed Tryd.func48 (by kernel_rfl) (bs := []) (by kernel_rfl) trivial fun x => by kernel_rfl
abbrev f24_L6_Y : Type := (D24 × (List D47) × Int × Unit)
abbrev f24_L6_X : Type := (Int × Unit)
def f24_L6t (y : f24_L6_Y) (x : f24_L6_X) : Prop × Bool × f24_L6_X × Bool × Bool :=
 let a1 := y.1
 let a35 := y.2.1
 let a37 := x.1
 let v38 := (decide (a37 < y.2.2.1))
 let v40 := (nth a35 a37 Z47)
 let v43 := (decide (a37 > 0))
 let v50 := (a37 - 1)
 let v55 := (bif v43 then (decide (v40.1 ≤ (nth a1.2.2.2.1 v50 Z47).1)) else false)
 let v59 := ((f47 v40) != 0)
 let c_2 := ((!v55) && (!v59))
 ((v38 = true → (InB a37 (len a35) ∧ ((v43 = true → InR (a37 - 1)) ∧ ((v43 = true → InB v50 (len a1.2.2.2.1)) ∧ (((!v55) = true → (f47_ok v40)) ∧ (c_2 = true → InR (a37 + 1))))))), (v38 && c_2), ((a37 + 1), ()), (v38 && (v55 || ((!v55) && v59))), (!v38))
def f24_L6_ok (y : f24_L6_Y) (x : f24_L6_X) : Prop := (f24_L6t y x).1
def f24_L6_g (y : f24_L6_Y) (x : f24_L6_X) : Bool := (f24_L6t y x).2.1
def f24_L6_next (y : f24_L6_Y) (x : f24_L6_X) : f24_L6_X := (f24_L6t y x).2.2.1
def f24_L6_e1 (y : f24_L6_Y) (x : f24_L6_X) : Bool := (f24_L6t y x).2.2.2.1
def f24_L6_e2 (y : f24_L6_Y) (x : f24_L6_X) : Bool := (f24_L6t y x).2.2.2.2
instance (y : f24_L6_Y) (x : f24_L6_X) : Decidable (f24_L6_ok y x) := by
 unfold f24_L6_ok f24_L6t
 try dsimp only
 infer_instance
def f24_L6_x1_0 (y : f24_L6_Y) (x : f24_L6_X) : Int :=
 let a37 := x.1
 let v40 := (nth y.2.1 a37 Z47)
 (bif (bif (decide (a37 > 0)) then (decide (v40.1 ≤ (nth y.1.2.2.2.1 (a37 - 1) Z47).1)) else false) then (24 : Int) else (f47 v40))
def f24_L6_spec : St → Option Out := loopS [(1, (.box T24 (.val T24))), (35, (.val (.sl T47))), (36, vI)] [(37, vI)] f24_L6_g f24_L6_next f24_L6_ok fun y x => [ex 1 (some (f24_L6_e1 y x)) [(2, vI)] ((f24_L6_x1_0 y x), ()), ex 2 (some (f24_L6_e2 y x)) [(1, (.box T24 (.val T24)))] (y.1, ())]
abbrev f24_L15_Y : Type := (D24 × (List D87) × Int × Unit)
abbrev f24_L15_X : Type := (Int × Unit)
def f24_L15t (y : f24_L15_Y) (x : f24_L15_X) : Prop × Bool × f24_L15_X × Bool × Bool :=
 let a1 := y.1
 let a63 := y.2.1
 let a65 := x.1
 let v66 := (decide (a65 < y.2.2.1))
 let v68 := (nth a63 a65 Z87)
 let v71 := (decide (a65 > 0))
 let v77 := (a65 - 1)
 let v78 := (nth a1.2.2.2.2.1 v77 Z87)
 let v82 := (bif v71 then (!(f48 v68 v78)) else false)
 let v86 := (!(f25 v68.2.2.1 (-65536 : Int) (65536 : Int)))
 let c_2 := ((!v82) && (!v86))
 ((v66 = true → (InB a65 (len a63) ∧ ((v71 = true → InR (a65 - 1)) ∧ ((v71 = true → InB v77 (len a1.2.2.2.2.1)) ∧ ((v71 = true → (f48_ok v68 v78)) ∧ (((!v82) = true → (f25_ok v68.2.2.1 (-65536 : Int) (65536 : Int))) ∧ (c_2 = true → InR (a65 + 1)))))))), (v66 && c_2), ((a65 + 1), ()), (v66 && (v82 || ((!v82) && v86))), (!v66))
def f24_L15_ok (y : f24_L15_Y) (x : f24_L15_X) : Prop := (f24_L15t y x).1
def f24_L15_g (y : f24_L15_Y) (x : f24_L15_X) : Bool := (f24_L15t y x).2.1
def f24_L15_next (y : f24_L15_Y) (x : f24_L15_X) : f24_L15_X := (f24_L15t y x).2.2.1
def f24_L15_e1 (y : f24_L15_Y) (x : f24_L15_X) : Bool := (f24_L15t y x).2.2.2.1
def f24_L15_e4 (y : f24_L15_Y) (x : f24_L15_X) : Bool := (f24_L15t y x).2.2.2.2
instance (y : f24_L15_Y) (x : f24_L15_X) : Decidable (f24_L15_ok y x) := by
 unfold f24_L15_ok f24_L15t
 try dsimp only
 infer_instance
def f24_L15_x1_0 (y : f24_L15_Y) (x : f24_L15_X) : Int :=
 let a65 := x.1
 (bif (bif (decide (a65 > 0)) then (!(f48 (nth y.2.1 a65 Z87) (nth y.1.2.2.2.2.1 (a65 - 1) Z87))) else false) then (24 : Int) else (2 : Int))
def f24_L15_spec : St → Option Out := loopS [(1, (.box T24 (.val T24))), (63, (.val (.sl T87))), (64, vI)] [(65, vI)] f24_L15_g f24_L15_next f24_L15_ok fun y x => [ex 1 (some (f24_L15_e1 y x)) [(2, vI)] ((f24_L15_x1_0 y x), ()), ex 4 (some (f24_L15_e4 y x)) [] ()]
def f24t (p0 : D24) : Prop × Int :=
 let v11 := (!(f25 p0.1 (1 : Int) (65536 : Int)))
 let v17 := (bif v11 then true else (!(f25 p0.2.1 (0 : Int) (65536 : Int))))
 let v23 := (bif v17 then true else (!(f25 p0.2.2.1 (0 : Int) (65536 : Int))))
 let v33 := (bif (decide ((len p0.2.2.2.1) > 256)) then true else (decide ((len p0.2.2.2.2.1) > 256)))
 let y6 := (p0, p0.2.2.2.1, (len p0.2.2.2.1), ())
 let x6 := ((0 : Int), ())
 let e6 := (loopEnd (f24_L6_g y6) (f24_L6_next y6) x6)
 let y15 := (p0, p0.2.2.2.2.1, (len p0.2.2.2.2.1), ())
 let x15 := ((0 : Int), ())
 let e15 := (loopEnd (f24_L15_g y15) (f24_L15_next y15) x15)
 (((f25_ok p0.1 (1 : Int) (65536 : Int)) ∧ (((!v11) = true → (f25_ok p0.2.1 (0 : Int) (65536 : Int))) ∧ (((!v17) = true → (f25_ok p0.2.2.1 (0 : Int) (65536 : Int))) ∧ ((!v23) = true → ((!v33) = true → ((Am.Ends (f24_L6_g y6) (f24_L6_next y6) (f24_L6_ok y6) x6) ∧ ((f24_L6_e2 y6 e6) = true → (Am.Ends (f24_L15_g y15) (f24_L15_next y15) (f24_L15_ok y15) x15)))))))), (bif v23 then (2 : Int) else (bif v33 then (3 : Int) else (bif (f24_L6_e1 y6 e6) then (f24_L6_x1_0 y6 e6) else (bif (f24_L15_e1 y15 e15) then (f24_L15_x1_0 y15 e15) else (0 : Int))))))
def f24_ok (p0 : D24) : Prop := (f24t p0).1
def f24 (p0 : D24) : Int := (f24t p0).2
instance (p0 : D24) : Decidable (f24_ok p0) := by
 unfold f24_ok f24t
 try dsimp only
 infer_instance
def f24_spec : Am.Spec := fnSpec [(0, (.val T24))] vI [] (fun x => f24_ok x.1) (fun x => f24 x.1) (fun _ => ())
def f24_ctx : Ctx := Cx tys [(25, f25_spec), (47, f47_spec), (48, f48_spec)] [(6, f24_L6_spec), (15, f24_L15_spec)] [] false 88 [] []
theorem f24_cok : CtxOk Tryd.prog f24_ctx := ctxOk_mk tys_ok rfl ⟨f25_is, f47_is, f48_is, trivial⟩ rfl (by kernel_rfl)
noncomputable def f24_code : Code := Tryd.f24.body.getD .skip
noncomputable def f24_L6 : Code := nthLoop f24_code 0
theorem f24_L6_is : LoopSnd Tryd.prog f24_ctx f24_L6 := lgen f24_cok mixed (sp := f24_L6_spec) rfl [[(2, vI)], [(1, (.box T24 (.val T24)))]] (bs := []) (by kernel_rfl) trivial (by kernel_rfl) (by kernel_rfl) fun y x => by kernel_rfl
noncomputable def f24_L15 : Code := nthLoop f24_code 1
theorem f24_L15_is : LoopSnd Tryd.prog f24_ctx f24_L15 := lgen f24_cok mixed (sp := f24_L15_spec) rfl [[(2, vI)], []] (bs := []) (by kernel_rfl) trivial (by kernel_rfl) (by kernel_rfl) fun y x => by kernel_rfl
theorem f24_is : SpecOk Tryd.prog 24 f24_spec := fgen f24_cok mixed Tryd.func24 (by kernel_rfl) (bs := [f24_L6, f24_L15]) (by kernel_rfl) ⟨f24_L6_is, f24_L15_is, trivial⟩ fun x => by kernel_rfl
abbrev f8_L5_Y : Type := ((List UInt8) × Int × Int × Int × Unit)
abbrev f8_L5_X : Type := (Int × Unit)
def f8_L5t (y : f8_L5_Y) (x : f8_L5_X) : Prop × Bool × f8_L5_X × Bool × Bool :=
 let a1 := y.1
 let a18 := x.1
 let v19 := (decide (a18 < y.2.2.2.1))
 let v24 := (decide ((byteAt a1 a18) < 32))
 let v30 := (bif v24 then true else (decide ((byteAt a1 a18) > 126)))
 let v36 := (bif v30 then ((byteAt a1 a18) != 10) else false)
 ((v19 = true → (InB a18 (len a1) ∧ (((!v24) = true → InB a18 (len a1)) ∧ ((v30 = true → InB a18 (len a1)) ∧ ((!v36) = true → InR (a18 + 1)))))), (v19 && (!v36)), ((a18 + 1), ()), (v19 && v36), (!v19))
def f8_L5_ok (y : f8_L5_Y) (x : f8_L5_X) : Prop := (f8_L5t y x).1
def f8_L5_g (y : f8_L5_Y) (x : f8_L5_X) : Bool := (f8_L5t y x).2.1
def f8_L5_next (y : f8_L5_Y) (x : f8_L5_X) : f8_L5_X := (f8_L5t y x).2.2.1
def f8_L5_e1 (y : f8_L5_Y) (x : f8_L5_X) : Bool := (f8_L5t y x).2.2.2.1
def f8_L5_e2 (y : f8_L5_Y) (x : f8_L5_X) : Bool := (f8_L5t y x).2.2.2.2
instance (y : f8_L5_Y) (x : f8_L5_X) : Decidable (f8_L5_ok y x) := by
 unfold f8_L5_ok f8_L5t
 try dsimp only
 infer_instance
def f8_L5_x1_0 (y : f8_L5_Y) (x : f8_L5_X) : Int :=
 (4 : Int)
def f8_L5_spec : St → Option Out := loopS [(1, vS), (2, vI), (3, vI), (17, vI)] [(18, vI)] f8_L5_g f8_L5_next f8_L5_ok fun y x => [ex 1 (some (f8_L5_e1 y x)) [(8, vI)] ((f8_L5_x1_0 y x), ()), ex 2 (some (f8_L5_e2 y x)) [(1, vS), (2, vI), (3, vI)] (y.1, y.2.1, y.2.2.1, ())]
def f8t (p0 : D24) (p1 : (List UInt8)) (p2 : Int) (p3 : Int) : Prop × Int :=
 let v12 := (f24 p0)
 let v14 := (v12 != 0)
 let y5 := (p1, p2, p3, (len p1), ())
 let x5 := ((0 : Int), ())
 let e5 := (loopEnd (f8_L5_g y5) (f8_L5_next y5) x5)
 let v40 := (decide ((len p1) > 128))
 let v43 := (!(f25 p2 (1 : Int) (1048576 : Int)))
 let m8_3 := (bif v14 then v12 else (bif (f8_L5_e1 y5 e5) then (f8_L5_x1_0 y5 e5) else (bif v40 then (3 : Int) else (bif (bif v43 then true else (!(f25 p3 (0 : Int) (1048576 : Int)))) then (2 : Int) else (0 : Int)))))
 (((f24_ok p0) ∧ ((!v14) = true → ((Am.Ends (f8_L5_g y5) (f8_L5_next y5) (f8_L5_ok y5) x5) ∧ ((f8_L5_e2 y5 e5) = true → ((!v40) = true → ((f25_ok p2 (1 : Int) (1048576 : Int)) ∧ ((!v43) = true → (f25_ok p3 (0 : Int) (1048576 : Int))))))))), m8_3)
def f8_ok (p0 : D24) (p1 : (List UInt8)) (p2 : Int) (p3 : Int) : Prop := (f8t p0 p1 p2 p3).1
def f8 (p0 : D24) (p1 : (List UInt8)) (p2 : Int) (p3 : Int) : Int := (f8t p0 p1 p2 p3).2
instance (p0 : D24) (p1 : (List UInt8)) (p2 : Int) (p3 : Int) : Decidable (f8_ok p0 p1 p2 p3) := by
 unfold f8_ok f8t
 try dsimp only
 infer_instance
def f8_spec : Am.Spec := fnSpec [(0, (.val T24)), (1, vS), (2, vI), (3, vI)] vI [] (fun x => f8_ok x.1 x.2.1 x.2.2.1 x.2.2.2.1) (fun x => f8 x.1 x.2.1 x.2.2.1 x.2.2.2.1) (fun _ => ())
def f8_ctx : Ctx := Cx tys [(24, f24_spec), (25, f25_spec)] [(5, f8_L5_spec)] [] false 49 [] []
theorem f8_cok : CtxOk Tryd.prog f8_ctx := ctxOk_mk tys_ok rfl ⟨f24_is, f25_is, trivial⟩ rfl (by kernel_rfl)
noncomputable def f8_code : Code := Tryd.f8.body.getD .skip
noncomputable def f8_L5 : Code := nthLoop f8_code 0
theorem f8_L5_is : LoopSnd Tryd.prog f8_ctx f8_L5 := lgen f8_cok mixed (sp := f8_L5_spec) rfl [[(8, vI)], [(1, vS), (2, vI), (3, vI)]] (bs := []) (by kernel_rfl) trivial (by kernel_rfl) (by kernel_rfl) fun y x => by kernel_rfl
theorem f8_is : SpecOk Tryd.prog 8 f8_spec := fgen f8_cok mixed Tryd.func8 (by kernel_rfl) (bs := [f8_L5]) (by kernel_rfl) ⟨f8_L5_is, trivial⟩ fun x => by kernel_rfl
abbrev f9_L4_Y : Type := (D24 × Unit × (D24 × (List Int) × Unit) × (List D47) × Int × Unit)
abbrev f9_L4_X : Type := (Int × Int × Unit)
def f9_L4t (y : f9_L4_Y) (x : f9_L4_X) : Prop × Bool × f9_L4_X :=
 let a14 := y.2.2.2.1
 let a16 := x.2.1
 let v17 := (decide (a16 < y.2.2.2.2.1))
 ((v17 = true → (InB a16 (len a14) ∧ InR (a16 + 1))), v17, ((bif ((nth a14 a16 Z47).1 == 63) then a16 else x.1), (a16 + 1), ()))
def f9_L4_ok (y : f9_L4_Y) (x : f9_L4_X) : Prop := (f9_L4t y x).1
def f9_L4_g (y : f9_L4_Y) (x : f9_L4_X) : Bool := (f9_L4t y x).2.1
def f9_L4_next (y : f9_L4_Y) (x : f9_L4_X) : f9_L4_X := (f9_L4t y x).2.2
instance (y : f9_L4_Y) (x : f9_L4_X) : Decidable (f9_L4_ok y x) := by
 unfold f9_L4_ok f9_L4t
 try dsimp only
 infer_instance
def f9_L4_x2_0 (y : f9_L4_Y) (x : f9_L4_X) : Int :=
 x.1
def f9_L4_l2 : List (Nat × Sh) := [(1, (.box T24 (.val T24))), (3, (.ref 12 T65)), (4, vI), (12, (.box T65 (.agg (.cons T24 (.cons (.arr 256 (.int .i64)) .nl)) (.cons (.val T24) (.cons (.val (.arr 256 (.int .i64))) .nl)))))]
def f9_L4_spec : St → Option Out := loopS [(1, (.box T24 (.val T24))), (3, (.ref 12 T65)), (12, (.box T65 (.agg (.cons T24 (.cons (.arr 256 (.int .i64)) .nl)) (.cons (.val T24) (.cons (.val (.arr 256 (.int .i64))) .nl))))), (14, (.val (.sl T47))), (15, vI)] [(4, vI), (16, vI)] f9_L4_g f9_L4_next f9_L4_ok fun y x => [ex 2 none f9_L4_l2 (y.1, y.2.1, (f9_L4_x2_0 y x), y.2.2.1, ())]
abbrev f9_L10_Y : Type := (D24 × Unit × Int × Unit)
abbrev f9_L10_X : Type := ((D24 × (List Int) × Unit) × Int × Unit)
def f9_L10t (y : f9_L10_Y) (x : f9_L10_X) : Prop × Bool × f9_L10_X :=
 let a12 := x.1
 let a26 := x.2.1
 let v27 := (decide (a26 < 256))
 ((v27 = true → (InB a26 256 ∧ InR (a26 + 1))), v27, ((a12.1, (List.set a12.2.1 (Int.toNat a26) y.2.2.1), ()), (a26 + 1), ()))
def f9_L10_ok (y : f9_L10_Y) (x : f9_L10_X) : Prop := (f9_L10t y x).1
def f9_L10_g (y : f9_L10_Y) (x : f9_L10_X) : Bool := (f9_L10t y x).2.1
def f9_L10_next (y : f9_L10_Y) (x : f9_L10_X) : f9_L10_X := (f9_L10t y x).2.2
instance (y : f9_L10_Y) (x : f9_L10_X) : Decidable (f9_L10_ok y x) := by
 unfold f9_L10_ok f9_L10t
 try dsimp only
 infer_instance
def f9_L10_x4_0 (y : f9_L10_Y) (x : f9_L10_X) : (D24 × (List Int) × Unit) :=
 let a12 := x.1
 (a12.1, a12.2.1, ())
def f9_L10_l4 : List (Nat × Sh) := [(1, (.box T24 (.val T24))), (3, (.ref 12 T65)), (12, (.box T65 (.agg (.cons T24 (.cons (.arr 256 (.int .i64)) .nl)) (.cons (.val T24) (.cons (.val (.arr 256 (.int .i64))) .nl)))))]
def f9_L10_spec : St → Option Out := loopS [(1, (.box T24 (.val T24))), (3, (.ref 12 T65)), (4, vI)] [(12, (.box T65 (.agg (.cons T24 (.cons (.arr 256 (.int .i64)) .nl)) (.cons (.val T24) (.cons (.val (.arr 256 (.int .i64))) .nl))))), (26, vI)] f9_L10_g f9_L10_next f9_L10_ok fun y x => [ex 4 none f9_L10_l4 (y.1, y.2.1, (f9_L10_x4_0 y x), ())]
abbrev f9_L15_Y : Type := (Unit × (List D47) × Int × Unit)
abbrev f9_L15_X : Type := ((D24 × (List Int) × Unit) × Int × Unit)
def f9_L15t (y : f9_L15_Y) (x : f9_L15_X) : Prop × Bool × f9_L15_X :=
 let a37 := y.2.1
 let a12 := x.1
 let a39 := x.2.1
 let v40 := (decide (a39 < y.2.2.1))
 let v42 := (nth a37 a39 Z47)
 ((v40 = true → (InB a39 (len a37) ∧ (InB v42.1 256 ∧ InR (a39 + 1)))), v40, ((a12.1, (List.set a12.2.1 (Int.toNat v42.1) a39), ()), (a39 + 1), ()))
def f9_L15_ok (y : f9_L15_Y) (x : f9_L15_X) : Prop := (f9_L15t y x).1
def f9_L15_g (y : f9_L15_Y) (x : f9_L15_X) : Bool := (f9_L15t y x).2.1
def f9_L15_next (y : f9_L15_Y) (x : f9_L15_X) : f9_L15_X := (f9_L15t y x).2.2
instance (y : f9_L15_Y) (x : f9_L15_X) : Decidable (f9_L15_ok y x) := by
 unfold f9_L15_ok f9_L15t
 try dsimp only
 infer_instance
def f9_L15_x6_0 (y : f9_L15_Y) (x : f9_L15_X) : (D24 × (List Int) × Unit) :=
 let a12 := x.1
 (a12.1, a12.2.1, ())
def f9_L15_l6 : List (Nat × Sh) := [(3, (.ref 12 T65)), (12, (.box T65 (.agg (.cons T24 (.cons (.arr 256 (.int .i64)) .nl)) (.cons (.val T24) (.cons (.val (.arr 256 (.int .i64))) .nl)))))]
def f9_L15_spec : St → Option Out := loopS [(3, (.ref 12 T65)), (37, (.val (.sl T47))), (38, vI)] [(12, (.box T65 (.agg (.cons T24 (.cons (.arr 256 (.int .i64)) .nl)) (.cons (.val T24) (.cons (.val (.arr 256 (.int .i64))) .nl))))), (39, vI)] f9_L15_g f9_L15_next f9_L15_ok fun y x => [ex 6 none f9_L15_l6 (y.1, (f9_L15_x6_0 y x), ())]
def f9t (p0 : D24) : Prop × D65 :=
 let y4 := (p0, (), (p0, (List.replicate 256 (0 : Int)), ()), p0.2.2.2.1, (len p0.2.2.2.1), ())
 let x4 := ((-1 : Int), (0 : Int), ())
 let y10 := (p0, (), (f9_L4_x2_0 y4 (loopEnd (f9_L4_g y4) (f9_L4_next y4) x4)), ())
 let x10 := ((p0, (List.replicate 256 (0 : Int)), ()), (0 : Int), ())
 let r10_4_0 := (f9_L10_x4_0 y10 (loopEnd (f9_L10_g y10) (f9_L10_next y10) x10))
 let y15 := ((), p0.2.2.2.1, (len p0.2.2.2.1), ())
 let x15 := ((r10_4_0.1, r10_4_0.2.1, ()), (0 : Int), ())
 let r15_6_0 := (f9_L15_x6_0 y15 (loopEnd (f9_L15_g y15) (f9_L15_next y15) x15))
 (((Am.Ends (f9_L4_g y4) (f9_L4_next y4) (f9_L4_ok y4) x4) ∧ ((Am.Ends (f9_L10_g y10) (f9_L10_next y10) (f9_L10_ok y10) x10) ∧ (Am.Ends (f9_L15_g y15) (f9_L15_next y15) (f9_L15_ok y15) x15))), (r15_6_0.1, r15_6_0.2.1, ()))
def f9_ok (p0 : D24) : Prop := (f9t p0).1
def f9 (p0 : D24) : D65 := (f9t p0).2
instance (p0 : D24) : Decidable (f9_ok p0) := by
 unfold f9_ok f9t
 try dsimp only
 infer_instance
def f9_spec : Am.Spec := fnSpec [(0, (.val T24))] (.val (.ptr T65)) [] (fun x => f9_ok x.1) (fun x => f9 x.1) (fun _ => ())
def f9_ctx : Ctx := Cx tys [] [(4, f9_L4_spec), (10, f9_L10_spec), (15, f9_L15_spec)] [(39, [(3, 12, 0, 0)])] false 53 [] []
theorem f9_cok : CtxOk Tryd.prog f9_ctx := ctxOk_mk tys_ok rfl trivial rfl (by kernel_rfl)
noncomputable def f9_code : Code := Tryd.f9.body.getD .skip
noncomputable def f9_L4 : Code := nthLoop f9_code 0
theorem f9_L4_is : LoopSnd Tryd.prog f9_ctx f9_L4 := lgen f9_cok mixed (sp := f9_L4_spec) rfl [f9_L4_l2] (bs := []) (by kernel_rfl) trivial (by kernel_rfl) (by kernel_rfl) fun y x => by kernel_rfl
noncomputable def f9_L10 : Code := nthLoop f9_code 1
theorem f9_L10_is : LoopSnd Tryd.prog f9_ctx f9_L10 := lgen f9_cok mixed (sp := f9_L10_spec) rfl [f9_L10_l4] (bs := []) (by kernel_rfl) trivial (by kernel_rfl) (by kernel_rfl) fun y x => by kernel_rfl
noncomputable def f9_L15 : Code := nthLoop f9_code 2
theorem f9_L15_is : LoopSnd Tryd.prog f9_ctx f9_L15 := lgen f9_cok mixed (sp := f9_L15_spec) rfl [f9_L15_l6] (bs := []) (by kernel_rfl) trivial (by kernel_rfl) (by kernel_rfl) fun y x => by kernel_rfl
theorem f9_is : SpecOk Tryd.prog 9 f9_spec := fgen f9_cok mixed Tryd.func9 (by kernel_rfl) (bs := [f9_L4, f9_L10, f9_L15]) (by kernel_rfl) ⟨f9_L4_is, f9_L10_is, f9_L15_is, trivial⟩ fun x => by kernel_rfl
def f53_v2t (p0 : D50) (p1 : (List D50)) : Prop × (Unit) × ((List D50) × Unit) :=
 let v6 := (len p1)
 let v7 := (v6 - 1)
 let v10 := (!(Ty.eqb T50 p0 (nth p1 v7 Z50)))
 let v13 := ([p0] : List D50)
 ((InR (v6 - 1) ∧ (InB v7 (len p1) ∧ (v10 = true → ((List.length p1 + List.length v13 : Nat) : Int) ≤ 4294967296))), (), ((bif v10 then (p1 ++ v13) else p1), ()))
def f53_v2_ok (p0 : D50) (p1 : (List D50)) : Prop := (f53_v2t p0 p1).1
def f53_v2 (p0 : D50) (p1 : (List D50)) : (Unit) := (f53_v2t p0 p1).2.1
def f53_v2_o (p0 : D50) (p1 : (List D50)) : ((List D50) × Unit) := (f53_v2t p0 p1).2.2
instance (p0 : D50) (p1 : (List D50)) : Decidable (f53_v2_ok p0 p1) := by
 unfold f53_v2_ok f53_v2t
 try dsimp only
 infer_instance
def f53_v2_spec : Am.Spec := fnSpec [(0, (.val T50)), (1, (.box (.sl T50) (.own T50 400100 false)))] (.tup .nl) [(1, (.box (.sl T50) (.own T50 400100 false)))] (fun x => f53_v2_ok x.1 x.2.1) (fun x => f53_v2 x.1 x.2.1) (fun x => f53_v2_o x.1 x.2.1)
def f53_v2_ctx : Ctx := Cx tys [] [] [(5, [(4, 0, 14, 400100)])] false 15 [1] []
theorem f53_v2_cok : CtxOk Tryd.prog f53_v2_ctx := ctxOk_mk tys_ok rfl trivial rfl (by kernel_rfl)
theorem f53_v2_is : SpecOk Tryd.prog 53 f53_v2_spec := fgen f53_v2_cok mixed Tryd.func53 (by kernel_rfl) (bs := []) (by kernel_rfl) trivial fun x => by kernel_rfl
abbrev f31_v1_L8_Y : Type := (D74 × D50 × (Unit × Unit) × Unit)
abbrev f31_v1_L8_X : Type := ((List D50) × Int × Unit)
def f31_v1_L8t (y : f31_v1_L8_Y) (x : f31_v1_L8_X) : Prop × Bool × f31_v1_L8_X :=
 let a3 := y.1
 let a5 := y.2.1
 let a2 := x.1
 let a7 := x.2.1
 let v37 := (decide (a7 ≤ 8))
 let v41 := (8 - a7)
 let v44 := (v41 * v41)
 let v46 := (2 * a7)
 let v48 := (v46 * v41)
 let v51 := (a7 * a7)
 let v56 := (v44 * a5.1)
 let v61 := (nth a3.2.1 (0 : Int) Z50).1
 let v62 := (v48 * v61)
 let v63 := (v56 + v62)
 let v68 := (nth a3.2.1 (1 : Int) Z50).1
 let v69 := (v51 * v68)
 let v70 := (v63 + v69)
 let v75 := (v44 * a5.2.1)
 let v80 := (nth a3.2.1 (0 : Int) Z50).2.1
 let v81 := (v48 * v80)
 let v82 := (v75 + v81)
 let v87 := (nth a3.2.1 (1 : Int) Z50).2.1
 let v88 := (v51 * v87)
 let v89 := (v82 + v88)
 let s := ((f13 v70 (64 : Int)), (f13 v89 (64 : Int)), ())
 ((v37 = true → (InR (8 - a7) ∧ (InR (v41 * v41) ∧ (InR (2 * a7) ∧ (InR (v46 * v41) ∧ (InR (a7 * a7) ∧ (InR (v44 * a5.1) ∧ (InB (0 : Int) 3 ∧ (InR (v48 * v61) ∧ (InR (v56 + v62) ∧ (InB (1 : Int) 3 ∧ (InR (v51 * v68) ∧ (InR (v63 + v69) ∧ ((f13_ok v70 (64 : Int)) ∧ (InR (v44 * a5.2.1) ∧ (InB (0 : Int) 3 ∧ (InR (v48 * v80) ∧ (InR (v75 + v81) ∧ (InB (1 : Int) 3 ∧ (InR (v51 * v87) ∧ (InR (v82 + v88) ∧ ((f13_ok v89 (64 : Int)) ∧ ((f53_v2_ok s a2) ∧ InR (a7 + 1)))))))))))))))))))))))), v37, ((f53_v2_o s a2).1, (a7 + 1), ()))
def f31_v1_L8_ok (y : f31_v1_L8_Y) (x : f31_v1_L8_X) : Prop := (f31_v1_L8t y x).1
def f31_v1_L8_g (y : f31_v1_L8_Y) (x : f31_v1_L8_X) : Bool := (f31_v1_L8t y x).2.1
def f31_v1_L8_next (y : f31_v1_L8_Y) (x : f31_v1_L8_X) : f31_v1_L8_X := (f31_v1_L8t y x).2.2
instance (y : f31_v1_L8_Y) (x : f31_v1_L8_X) : Decidable (f31_v1_L8_ok y x) := by
 unfold f31_v1_L8_ok f31_v1_L8t
 try dsimp only
 infer_instance
def f31_v1_L8_x3_0 (y : f31_v1_L8_Y) (x : f31_v1_L8_X) : (List D50) :=
 x.1
def f31_v1_L8_l3 : List (Nat × Sh) := [(2, (.box (.sl T50) (.own T50 400200 false)))]
def f31_v1_L8_spec : St → Option Out := loopS [(3, (.box T74 (.val T74))), (5, (.box T50 (.val T50))), (6, (.fn 53 (.cons (.ref 2 (.sl T50)) .nl)))] [(2, (.box (.sl T50) (.own T50 400200 false))), (7, vI)] f31_v1_L8_g f31_v1_L8_next f31_v1_L8_ok fun y x => [ex 3 none f31_v1_L8_l3 ((f31_v1_L8_x3_0 y x), ())]
abbrev f31_v1_L15_Y : Type := (D74 × D50 × (Unit × Unit) × Unit)
abbrev f31_v1_L15_X : Type := ((List D50) × Int × Unit)
def f31_v1_L15t (y : f31_v1_L15_Y) (x : f31_v1_L15_X) : Prop × Bool × f31_v1_L15_X :=
 let a3 := y.1
 let a5 := y.2.1
 let a2 := x.1
 let a12 := x.2.1
 let v96 := (decide (a12 ≤ 16))
 let v100 := (16 - a12)
 let v103 := (v100 * v100)
 let v105 := (v103 * v100)
 let v107 := (3 * a12)
 let v109 := (v107 * v100)
 let v111 := (v109 * v100)
 let v113 := (3 * a12)
 let v115 := (v113 * a12)
 let v117 := (v115 * v100)
 let v120 := (a12 * a12)
 let v122 := (v120 * a12)
 let v127 := (v105 * a5.1)
 let v132 := (nth a3.2.1 (0 : Int) Z50).1
 let v133 := (v111 * v132)
 let v134 := (v127 + v133)
 let v139 := (nth a3.2.1 (1 : Int) Z50).1
 let v140 := (v117 * v139)
 let v141 := (v134 + v140)
 let v146 := (nth a3.2.1 (2 : Int) Z50).1
 let v147 := (v122 * v146)
 let v148 := (v141 + v147)
 let v153 := (v105 * a5.2.1)
 let v158 := (nth a3.2.1 (0 : Int) Z50).2.1
 let v159 := (v111 * v158)
 let v160 := (v153 + v159)
 let v165 := (nth a3.2.1 (1 : Int) Z50).2.1
 let v166 := (v117 * v165)
 let v167 := (v160 + v166)
 let v172 := (nth a3.2.1 (2 : Int) Z50).2.1
 let v173 := (v122 * v172)
 let v174 := (v167 + v173)
 let s := ((f13 v148 (4096 : Int)), (f13 v174 (4096 : Int)), ())
 ((v96 = true → (InR (16 - a12) ∧ (InR (v100 * v100) ∧ (InR (v103 * v100) ∧ (InR (3 * a12) ∧ (InR (v107 * v100) ∧ (InR (v109 * v100) ∧ (InR (3 * a12) ∧ (InR (v113 * a12) ∧ (InR (v115 * v100) ∧ (InR (a12 * a12) ∧ (InR (v120 * a12) ∧ (InR (v105 * a5.1) ∧ (InB (0 : Int) 3 ∧ (InR (v111 * v132) ∧ (InR (v127 + v133) ∧ (InB (1 : Int) 3 ∧ (InR (v117 * v139) ∧ (InR (v134 + v140) ∧ (InB (2 : Int) 3 ∧ (InR (v122 * v146) ∧ (InR (v141 + v147) ∧ ((f13_ok v148 (4096 : Int)) ∧ (InR (v105 * a5.2.1) ∧ (InB (0 : Int) 3 ∧ (InR (v111 * v158) ∧ (InR (v153 + v159) ∧ (InB (1 : Int) 3 ∧ (InR (v117 * v165) ∧ (InR (v160 + v166) ∧ (InB (2 : Int) 3 ∧ (InR (v122 * v172) ∧ (InR (v167 + v173) ∧ ((f13_ok v174 (4096 : Int)) ∧ ((f53_v2_ok s a2) ∧ InR (a12 + 1)))))))))))))))))))))))))))))))))))), v96, ((f53_v2_o s a2).1, (a12 + 1), ()))
def f31_v1_L15_ok (y : f31_v1_L15_Y) (x : f31_v1_L15_X) : Prop := (f31_v1_L15t y x).1
def f31_v1_L15_g (y : f31_v1_L15_Y) (x : f31_v1_L15_X) : Bool := (f31_v1_L15t y x).2.1
def f31_v1_L15_next (y : f31_v1_L15_Y) (x : f31_v1_L15_X) : f31_v1_L15_X := (f31_v1_L15t y x).2.2
instance (y : f31_v1_L15_Y) (x : f31_v1_L15_X) : Decidable (f31_v1_L15_ok y x) := by
 unfold f31_v1_L15_ok f31_v1_L15t
 try dsimp only
 infer_instance
def f31_v1_L15_x5_0 (y : f31_v1_L15_Y) (x : f31_v1_L15_X) : (List D50) :=
 x.1
def f31_v1_L15_l5 : List (Nat × Sh) := [(2, (.box (.sl T50) (.own T50 400200 false)))]
def f31_v1_L15_spec : St → Option Out := loopS [(3, (.box T74 (.val T74))), (5, (.box T50 (.val T50))), (6, (.fn 53 (.cons (.ref 2 (.sl T50)) .nl)))] [(2, (.box (.sl T50) (.own T50 400200 false))), (12, vI)] f31_v1_L15_g f31_v1_L15_next f31_v1_L15_ok fun y x => [ex 5 none f31_v1_L15_l5 ((f31_v1_L15_x5_0 y x), ())]
def f31_v1t (p0 : (List D50)) (p1 : D74) : Prop × (List D50) :=
 let v20 := (len p0)
 let v21 := (v20 - 1)
 let v22 := (nth p0 v21 Z50)
 let v28 := (p1.1 == 2)
 let v32 := (nth p1.2.1 (0 : Int) Z50)
 let v35 := (p1.1 == 3)
 let y8 := (p1, v22, ((), ()), ())
 let x8 := (p0, (1 : Int), ())
 let v94 := (p1.1 == 4)
 let y15 := (p1, v22, ((), ()), ())
 let x15 := (p0, (1 : Int), ())
 let m2_2 := (bif v28 then (f53_v2_o v32 p0).1 else (bif v35 then (f31_v1_L8_x3_0 y8 (loopEnd (f31_v1_L8_g y8) (f31_v1_L8_next y8) x8)) else (bif v94 then (f31_v1_L15_x5_0 y15 (loopEnd (f31_v1_L15_g y15) (f31_v1_L15_next y15) x15)) else p0)))
 ((InR (v20 - 1) ∧ (InB v21 (len p0) ∧ ((v28 = true → (InB (0 : Int) 3 ∧ (f53_v2_ok v32 p0))) ∧ (v28 = false → ((v35 = true → (Am.Ends (f31_v1_L8_g y8) (f31_v1_L8_next y8) (f31_v1_L8_ok y8) x8)) ∧ (v35 = false → (v94 = true → (Am.Ends (f31_v1_L15_g y15) (f31_v1_L15_next y15) (f31_v1_L15_ok y15) x15)))))))), m2_2)
def f31_v1_ok (p0 : (List D50)) (p1 : D74) : Prop := (f31_v1t p0 p1).1
def f31_v1 (p0 : (List D50)) (p1 : D74) : (List D50) := (f31_v1t p0 p1).2
instance (p0 : (List D50)) (p1 : D74) : Decidable (f31_v1_ok p0 p1) := by
 unfold f31_v1_ok f31_v1t
 try dsimp only
 infer_instance
def f31_v1_spec : Am.Spec := fnSpec [(0, (.own T50 400000 false)), (1, (.val T74))] (.own T50 0 false) [] (fun x => f31_v1_ok x.1 x.2.1) (fun x => f31_v1 x.1 x.2.1) (fun _ => ())
def f31_v1_ctx : Ctx := { Cx tys [(13, f13_spec), (53, f53_v2_spec)] [(8, f31_v1_L8_spec), (15, f31_v1_L15_spec)] [(1, [(4, 0, 400000, 400200)]), (41, [(4, 0, 400200, 0)])] false 179 [] [] with wants := [(53, [])] }
theorem f31_v1_cok : CtxOk Tryd.prog f31_v1_ctx := ctxOk_mk tys_ok rfl ⟨f13_is, f53_v2_is, trivial⟩ rfl (by kernel_rfl)
noncomputable def f31_v1_code : Code := Tryd.f31.body.getD .skip
noncomputable def f31_v1_L8 : Code := nthLoop f31_v1_code 0
theorem f31_v1_L8_is : LoopSnd Tryd.prog f31_v1_ctx f31_v1_L8 := lgen f31_v1_cok mixed (sp := f31_v1_L8_spec) rfl [f31_v1_L8_l3] (bs := []) (by kernel_rfl) trivial (by kernel_rfl) (by kernel_rfl) fun y x => by kernel_rfl
noncomputable def f31_v1_L15 : Code := nthLoop f31_v1_code 1
theorem f31_v1_L15_is : LoopSnd Tryd.prog f31_v1_ctx f31_v1_L15 := lgen f31_v1_cok mixed (sp := f31_v1_L15_spec) rfl [f31_v1_L15_l5] (bs := []) (by kernel_rfl) trivial (by kernel_rfl) (by kernel_rfl) fun y x => by kernel_rfl
theorem f31_v1_is : SpecOk Tryd.prog 31 f31_v1_spec := fgen f31_v1_cok mixed Tryd.func31 (by kernel_rfl) (bs := [f31_v1_L8, f31_v1_L15]) (by kernel_rfl) ⟨f31_v1_L8_is, f31_v1_L15_is, trivial⟩ fun x => by kernel_rfl
abbrev f12_L7_Y : Type := ((List D74) × (List D74) × Int × Unit)
abbrev f12_L7_X : Type := ((List (List D50)) × (List D50) × Int × Unit)
def f12_L7t (y : f12_L7_Y) (x : f12_L7_X) : Prop × Bool × f12_L7_X :=
 let a0 := y.1
 let a14 := y.2.1
 let a5 := x.1
 let a6 := x.2.1
 let a16 := x.2.2.1
 let v17 := (decide (a16 < y.2.2.1))
 let v19 := (nth a14 a16 Z74)
 let v23 := (v19.1 == 1)
 let m6 := (bif v23 then ([(nth v19.2.1 (0 : Int) Z50)] : List D50) else (f31_v1 a6 v19))
 let v33 := (len a0)
 let v35 := (a16 == (v33 - 1))
 let v39 := (a16 + 1)
 let v44 := (bif v35 then true else ((nth a0 v39 Z74).1 == 1))
 let v47 := ([m6] : List (List D50))
 ((v17 = true → (InB a16 (len a14) ∧ ((v23 = true → InB (0 : Int) 3) ∧ ((v23 = false → (f31_v1_ok a6 v19)) ∧ (InR (v33 - 1) ∧ (((!v35) = true → InR (a16 + 1)) ∧ (((!v35) = true → InB v39 (len a0)) ∧ ((v44 = true → ((List.length a5 + List.length v47 : Nat) : Int) ≤ 4294967296) ∧ InR (a16 + 1))))))))), v17, ((bif v44 then (a5 ++ v47) else a5), m6, (a16 + 1), ()))
def f12_L7_ok (y : f12_L7_Y) (x : f12_L7_X) : Prop := (f12_L7t y x).1
def f12_L7_g (y : f12_L7_Y) (x : f12_L7_X) : Bool := (f12_L7t y x).2.1
def f12_L7_next (y : f12_L7_Y) (x : f12_L7_X) : f12_L7_X := (f12_L7t y x).2.2
instance (y : f12_L7_Y) (x : f12_L7_X) : Decidable (f12_L7_ok y x) := by
 unfold f12_L7_ok f12_L7t
 try dsimp only
 infer_instance
def f12_L7_x2_0 (y : f12_L7_Y) (x : f12_L7_X) : (List (List D50)) :=
 x.1
def f12_L7_l2 : List (Nat × Sh) := [(5, (.own (.sl T50) 1005 false))]
def f12_L7_spec : St → Option Out := loopS [(0, (.val (.sl T74))), (14, (.val (.sl T74))), (15, vI)] [(5, (.own (.sl T50) 1005 false)), (6, (.own T50 1006 false)), (16, vI)] f12_L7_g f12_L7_next f12_L7_ok fun y x => [ex 2 none f12_L7_l2 ((f12_L7_x2_0 y x), ())]
def f12t (p0 : (List D74)) : Prop × ((List (List D50)) × Int × Unit) :=
 let v10 := (f30 p0)
 let v12 := (v10 != 0)
 let y7 := (p0, p0, (len p0), ())
 let x7 := (([] : List (List D50)), ([] : List D50), (0 : Int), ())
 (((f30_ok p0) ∧ ((!v12) = true → (Am.Ends (f12_L7_g y7) (f12_L7_next y7) (f12_L7_ok y7) x7))), ((bif v12 then [] else (f12_L7_x2_0 y7 (loopEnd (f12_L7_g y7) (f12_L7_next y7) x7))), (bif v12 then v10 else (0 : Int)), ()))
def f12_ok (p0 : (List D74)) : Prop := (f12t p0).1
def f12 (p0 : (List D74)) : ((List (List D50)) × Int × Unit) := (f12t p0).2
instance (p0 : (List D74)) : Decidable (f12_ok p0) := by
 unfold f12_ok f12t
 try dsimp only
 infer_instance
def f12_spec : Am.Spec := fnSpec [(0, (.val (.sl T74)))] (.tup (.cons (.own (.sl T50) 0 false) (.cons vI .nl))) [] (fun x => f12_ok x.1) (fun x => f12 x.1) (fun _ => ())
def f12_ctx : Ctx := { Cx tys [(30, f30_spec), (31, f31_v1_spec)] [(7, f12_L7_spec)] [(21, [(4, 0, 27, 1006)]), (23, [(4, 0, 30, 1006)]), (27, [(4, 0, 48, 1005)]), (31, [(4, 0, 1005, 0)])] false 51 [] [] with wants := [(31, [0])] }
theorem f12_cok : CtxOk Tryd.prog f12_ctx := ctxOk_mk tys_ok rfl ⟨f30_is, f31_v1_is, trivial⟩ rfl (by kernel_rfl)
noncomputable def f12_code : Code := Tryd.f12.body.getD .skip
noncomputable def f12_L7 : Code := nthLoop f12_code 0
theorem f12_L7_is : LoopSnd Tryd.prog f12_ctx f12_L7 := lgen f12_cok mixed (sp := f12_L7_spec) rfl [f12_L7_l2] (bs := []) (by kernel_rfl) trivial (by kernel_rfl) (by kernel_rfl) fun y x => by kernel_rfl
theorem f12_is : SpecOk Tryd.prog 12 f12_spec := fgen f12_cok mixed Tryd.func12 (by kernel_rfl) (bs := [f12_L7]) (by kernel_rfl) ⟨f12_L7_is, trivial⟩ fun x => by kernel_rfl
abbrev f4_L25_Y : Type := (Int × D24 × D65 × (List (List D50)) × Int × Int × D50 × (List (List UInt8)) × Int × Int × (List D50) × Int × Int × (List (List D50)) × Int × Int × (List D50) × Int × Unit)
abbrev f4_L25_X : Type := ((List D50) × Int × Unit)
def f4_L25t (y : f4_L25_Y) (x : f4_L25_X) : Prop × Bool × f4_L25_X :=
 let a2 := y.1
 let a4 := y.2.1
 let a14 := y.2.2.2.2.2.1
 let a19 := y.2.2.2.2.2.2.1
 let a89 := y.2.2.2.2.2.2.2.2.2.2.2.2.2.2.2.2.1
 let a24 := x.1
 let a91 := x.2.1
 let v92 := (decide (a91 < y.2.2.2.2.2.2.2.2.2.2.2.2.2.2.2.2.2.1))
 let v94 := (nth a89 a91 Z50)
 let v102 := (a19.2.1 + v94.1)
 let v104 := (v102 * a2)
 let v113 := (a14 * a4.2.2.1)
 let v114 := (a4.2.1 + v113)
 let v117 := (v114 - v94.2.1)
 let v119 := (v117 * a2)
 ((v92 = true → (InB a91 (len a89) ∧ (InR (a19.2.1 + v94.1) ∧ (InR (v102 * a2) ∧ ((f13_ok v104 a4.1) ∧ (InR (a14 * a4.2.2.1) ∧ (InR (a4.2.1 + v113) ∧ (InR (v114 - v94.2.1) ∧ (InR (v117 * a2) ∧ ((f13_ok v119 a4.1) ∧ (InB a91 (len a24) ∧ (a91 < len a24 ∧ InR (a91 + 1))))))))))))), v92, ((List.set a24 (Int.toNat a91) ((f13 v104 a4.1), (f13 v119 a4.1), ())), (a91 + 1), ()))
def f4_L25_ok (y : f4_L25_Y) (x : f4_L25_X) : Prop := (f4_L25t y x).1
def f4_L25_g (y : f4_L25_Y) (x : f4_L25_X) : Bool := (f4_L25t y x).2.1
def f4_L25_next (y : f4_L25_Y) (x : f4_L25_X) : f4_L25_X := (f4_L25t y x).2.2
instance (y : f4_L25_Y) (x : f4_L25_X) : Decidable (f4_L25_ok y x) := by
 unfold f4_L25_ok f4_L25t
 try dsimp only
 infer_instance
def f4_L25_x8_0 (y : f4_L25_Y) (x : f4_L25_X) : (List D50) :=
 x.1
def f4_L25_l8 : List (Nat × Sh) := [(2, vI), (4, (.box T24 (.val T24))), (11, (.val (.ptr T65))), (12, (.own (.sl T50) 1012 false)), (13, vI), (14, vI), (19, (.box T50 (.val T50))), (24, (.own T50 1024 true)), (41, (.val (.sl .str))), (42, vI), (43, vI), (54, (.own T50 1016 false)), (55, vI), (56, vI), (74, (.own (.sl T50) 1020 false)), (75, vI), (76, vI)]
def f4_L25_spec : St → Option Out := loopS [(2, vI), (4, (.box T24 (.val T24))), (11, (.val (.ptr T65))), (12, (.own (.sl T50) 1012 false)), (13, vI), (14, vI), (19, (.box T50 (.val T50))), (41, (.val (.sl .str))), (42, vI), (43, vI), (54, (.own T50 1016 false)), (55, vI), (56, vI), (74, (.own (.sl T50) 1020 false)), (75, vI), (76, vI), (89, (.val (.sl T50))), (90, vI)] [(24, (.own T50 1024 true)), (91, vI)] f4_L25_g f4_L25_next f4_L25_ok fun y x => [ex 8 none f4_L25_l8 (y.1, y.2.1, y.2.2.1, y.2.2.2.1, y.2.2.2.2.1, y.2.2.2.2.2.1, y.2.2.2.2.2.2.1, (f4_L25_x8_0 y x), y.2.2.2.2.2.2.2.1, y.2.2.2.2.2.2.2.2.1, y.2.2.2.2.2.2.2.2.2.1, y.2.2.2.2.2.2.2.2.2.2.1, y.2.2.2.2.2.2.2.2.2.2.2.1, y.2.2.2.2.2.2.2.2.2.2.2.2.1, y.2.2.2.2.2.2.2.2.2.2.2.2.2.1, y.2.2.2.2.2.2.2.2.2.2.2.2.2.2.1, y.2.2.2.2.2.2.2.2.2.2.2.2.2.2.2.1, ())]
abbrev f4_L18_Y : Type := (Int × D24 × D65 × Int × D50 × (List (List UInt8)) × Int × Int × (List D50) × Int × Int × (List (List D50)) × Int × Unit)
abbrev f4_L18_X : Type := ((List (List D50)) × Int × Int × Unit)
def f4_L18t (y : f4_L18_Y) (x : f4_L18_X) : Prop × Bool × f4_L18_X × Bool × Bool :=
 let a74 := y.2.2.2.2.2.2.2.2.2.2.2.1
 let a75 := y.2.2.2.2.2.2.2.2.2.2.2.2.1
 let a12 := x.1
 let a13 := x.2.1
 let a76 := x.2.2.1
 let v77 := (decide (a76 < a75))
 let v78 := (nth a74 a76 ([] : List D50))
 let v82 := (len v78)
 let v83 := (a13 + v82)
 let v85 := (decide (v83 > 4096))
 let v87 := (len v78)
 let y25 := (y.1, y.2.1, y.2.2.1, a12, v83, y.2.2.2.1, y.2.2.2.2.1, y.2.2.2.2.2.1, y.2.2.2.2.2.2.1, y.2.2.2.2.2.2.2.1, y.2.2.2.2.2.2.2.2.1, y.2.2.2.2.2.2.2.2.2.1, y.2.2.2.2.2.2.2.2.2.2.1, a74, a75, a76, v78, (len v78), ())
 let x25 := ((List.replicate (Int.toNat v87) Z50), (0 : Int), ())
 let v128 := ([(f4_L25_x8_0 y25 (loopEnd (f4_L25_g y25) (f4_L25_next y25) x25))] : List (List D50))
 ((v77 = true → (InB a76 (len a74) ∧ (InR (a13 + v82) ∧ (((!v85) = true → ((0 ≤ v87 ∧ v87 ≤ v87 ∧ v87 ≤ 4294967296) ∧ ((Am.Ends (f4_L25_g y25) (f4_L25_next y25) (f4_L25_ok y25) x25) ∧ ((List.length a12 + List.length v128 : Nat) : Int) ≤ 4294967296))) ∧ ((!v85) = true → InR (a76 + 1)))))), (v77 && (!v85)), ((a12 ++ v128), v83, (a76 + 1), ()), (v77 && v85), (!v77))
def f4_L18_ok (y : f4_L18_Y) (x : f4_L18_X) : Prop := (f4_L18t y x).1
def f4_L18_g (y : f4_L18_Y) (x : f4_L18_X) : Bool := (f4_L18t y x).2.1
def f4_L18_next (y : f4_L18_Y) (x : f4_L18_X) : f4_L18_X := (f4_L18t y x).2.2.1
def f4_L18_e1 (y : f4_L18_Y) (x : f4_L18_X) : Bool := (f4_L18t y x).2.2.2.1
def f4_L18_e6 (y : f4_L18_Y) (x : f4_L18_X) : Bool := (f4_L18t y x).2.2.2.2
instance (y : f4_L18_Y) (x : f4_L18_X) : Decidable (f4_L18_ok y x) := by
 unfold f4_L18_ok f4_L18t
 try dsimp only
 infer_instance
def f4_L18_x1_0 (y : f4_L18_Y) (x : f4_L18_X) : (List (List D50)) :=
 ([] : List (List D50))
def f4_L18_x1_1 (y : f4_L18_Y) (x : f4_L18_X) : Int :=
 (3 : Int)
def f4_L18_l1 : List (Nat × Sh) := [(8, (.own (.sl T50) 0 false)), (9, vI)]
def f4_L18_x6_0 (y : f4_L18_Y) (x : f4_L18_X) : (List (List D50)) :=
 x.1
def f4_L18_x6_1 (y : f4_L18_Y) (x : f4_L18_X) : Int :=
 x.2.1
def f4_L18_l6 : List (Nat × Sh) := [(2, vI), (4, (.box T24 (.val T24))), (11, (.val (.ptr T65))), (12, (.own (.sl T50) 1012 false)), (13, vI), (14, vI), (41, (.val (.sl .str))), (42, vI), (43, vI), (54, (.own T50 1016 false)), (55, vI), (56, vI)]
def f4_L18_spec : St → Option Out := loopS [(2, vI), (4, (.box T24 (.val T24))), (11, (.val (.ptr T65))), (14, vI), (19, (.box T50 (.val T50))), (41, (.val (.sl .str))), (42, vI), (43, vI), (54, (.own T50 1016 false)), (55, vI), (56, vI), (74, (.own (.sl T50) 1020 false)), (75, vI)] [(12, (.own (.sl T50) 1012 false)), (13, vI), (76, vI)] f4_L18_g f4_L18_next f4_L18_ok fun y x => [ex 1 (some (f4_L18_e1 y x)) f4_L18_l1 ((f4_L18_x1_0 y x), (f4_L18_x1_1 y x), ()), ex 6 (some (f4_L18_e6 y x)) f4_L18_l6 (y.1, y.2.1, y.2.2.1, (f4_L18_x6_0 y x), (f4_L18_x6_1 y x), y.2.2.2.1, y.2.2.2.2.2.1, y.2.2.2.2.2.2.1, y.2.2.2.2.2.2.2.1, y.2.2.2.2.2.2.2.2.1, y.2.2.2.2.2.2.2.2.2.1, y.2.2.2.2.2.2.2.2.2.2.1, ())]
abbrev f4_L12_Y : Type := (Int × D24 × D65 × Int × (List (List UInt8)) × Int × Int × (List D50) × Int × Unit)
abbrev f4_L12_X : Type := ((List (List D50)) × Int × Int × Unit)
def f4_L12t (y : f4_L12_Y) (x : f4_L12_X) : Prop × Bool × f4_L12_X × Bool × Bool :=
 let a4 := y.2.1
 let a54 := y.2.2.2.2.2.2.2.1
 let a55 := y.2.2.2.2.2.2.2.2.1
 let a56 := x.2.2.1
 let v57 := (decide (a56 < a55))
 let v58 := (nth a54 a56 Z50)
 let v65 := (nth a4.2.2.2.1 v58.1 Z47)
 let v68 := (f12 v65.2.2.1)
 let v72 := (v68.2.1 != 0)
 let y18 := (y.1, a4, y.2.2.1, y.2.2.2.1, v58, y.2.2.2.2.1, y.2.2.2.2.2.1, y.2.2.2.2.2.2.1, a54, a55, a56, v68.1, (len v68.1), ())
 let x18 := (x.1, x.2.1, (0 : Int), ())
 let e18 := (loopEnd (f4_L18_g y18) (f4_L18_next y18) x18)
 let c := ((!v72) && (f4_L18_e6 y18 e18))
 ((v57 = true → (InB a56 (len a54) ∧ (InB v58.1 (len a4.2.2.2.1) ∧ ((f12_ok v65.2.2.1) ∧ (((!v72) = true → (Am.Ends (f4_L18_g y18) (f4_L18_next y18) (f4_L18_ok y18) x18)) ∧ (c = true → InR (a56 + 1))))))), (v57 && c), ((f4_L18_x6_0 y18 e18), (f4_L18_x6_1 y18 e18), (a56 + 1), ()), (v57 && (v72 || ((!v72) && (f4_L18_e1 y18 e18)))), (!v57))
def f4_L12_ok (y : f4_L12_Y) (x : f4_L12_X) : Prop := (f4_L12t y x).1
def f4_L12_g (y : f4_L12_Y) (x : f4_L12_X) : Bool := (f4_L12t y x).2.1
def f4_L12_next (y : f4_L12_Y) (x : f4_L12_X) : f4_L12_X := (f4_L12t y x).2.2.1
def f4_L12_e1 (y : f4_L12_Y) (x : f4_L12_X) : Bool := (f4_L12t y x).2.2.2.1
def f4_L12_e4 (y : f4_L12_Y) (x : f4_L12_X) : Bool := (f4_L12t y x).2.2.2.2
instance (y : f4_L12_Y) (x : f4_L12_X) : Decidable (f4_L12_ok y x) := by
 unfold f4_L12_ok f4_L12t
 try dsimp only
 infer_instance
def f4_L12_x1_0 (y : f4_L12_Y) (x : f4_L12_X) : (List (List D50)) :=
 let a4 := y.2.1
 let a54 := y.2.2.2.2.2.2.2.1
 let a56 := x.2.2.1
 let v58 := (nth a54 a56 Z50)
 let v68 := (f12 (nth a4.2.2.2.1 v58.1 Z47).2.2.1)
 let y18 := (y.1, a4, y.2.2.1, y.2.2.2.1, v58, y.2.2.2.2.1, y.2.2.2.2.2.1, y.2.2.2.2.2.2.1, a54, y.2.2.2.2.2.2.2.2.1, a56, v68.1, (len v68.1), ())
 (bif (v68.2.1 != 0) then [] else (f4_L18_x1_0 y18 (loopEnd (f4_L18_g y18) (f4_L18_next y18) (x.1, x.2.1, (0 : Int), ()))))
def f4_L12_x1_1 (y : f4_L12_Y) (x : f4_L12_X) : Int :=
 let a4 := y.2.1
 let a54 := y.2.2.2.2.2.2.2.1
 let a56 := x.2.2.1
 let v58 := (nth a54 a56 Z50)
 let v68 := (f12 (nth a4.2.2.2.1 v58.1 Z47).2.2.1)
 let y18 := (y.1, a4, y.2.2.1, y.2.2.2.1, v58, y.2.2.2.2.1, y.2.2.2.2.2.1, y.2.2.2.2.2.2.1, a54, y.2.2.2.2.2.2.2.2.1, a56, v68.1, (len v68.1), ())
 (bif (v68.2.1 != 0) then v68.2.1 else (f4_L18_x1_1 y18 (loopEnd (f4_L18_g y18) (f4_L18_next y18) (x.1, x.2.1, (0 : Int), ()))))
def f4_L12_l1 : List (Nat × Sh) := [(8, (.own (.sl T50) 0 false)), (9, vI)]
def f4_L12_x4_0 (y : f4_L12_Y) (x : f4_L12_X) : (List (List D50)) :=
 x.1
def f4_L12_x4_1 (y : f4_L12_Y) (x : f4_L12_X) : Int :=
 x.2.1
def f4_L12_l4 : List (Nat × Sh) := [(2, vI), (4, (.box T24 (.val T24))), (11, (.val (.ptr T65))), (12, (.own (.sl T50) 1012 false)), (13, vI), (41, (.val (.sl .str))), (42, vI), (43, vI)]
def f4_L12_spec : St → Option Out := loopS [(2, vI), (4, (.box T24 (.val T24))), (11, (.val (.ptr T65))), (14, vI), (41, (.val (.sl .str))), (42, vI), (43, vI), (54, (.own T50 1016 false)), (55, vI)] [(12, (.own (.sl T50) 1012 false)), (13, vI), (56, vI)] f4_L12_g f4_L12_next f4_L12_ok fun y x => [ex 1 (some (f4_L12_e1 y x)) f4_L12_l1 ((f4_L12_x1_0 y x), (f4_L12_x1_1 y x), ()), ex 4 (some (f4_L12_e4 y x)) f4_L12_l4 (y.1, y.2.1, y.2.2.1, (f4_L12_x4_0 y x), (f4_L12_x4_1 y x), y.2.2.2.2.1, y.2.2.2.2.2.1, y.2.2.2.2.2.2.1, ())]
abbrev f4_L8_Y : Type := (Int × D24 × D65 × (List (List UInt8)) × Int × Unit)
abbrev f4_L8_X : Type := ((List (List D50)) × Int × Int × Unit)
def f4_L8t (y : f4_L8_Y) (x : f4_L8_X) : Prop × Bool × f4_L8_X × Bool × Bool :=
 let a11 := y.2.2.1
 let a41 := y.2.2.2.1
 let a42 := y.2.2.2.2.1
 let a43 := x.2.2.1
 let v44 := (decide (a43 < a42))
 let v46 := (nth a41 a43 ([] : List UInt8))
 let v51 := (f11 a11 v46)
 let y12 := (y.1, y.2.1, a11, a43, a41, a42, a43, v51.1, (len v51.1), ())
 let x12 := (x.1, x.2.1, (0 : Int), ())
 let e12 := (loopEnd (f4_L12_g y12) (f4_L12_next y12) x12)
 let q12_4 := (f4_L12_e4 y12 e12)
 ((v44 = true → (InB a43 (len a41) ∧ ((f11_ok a11 v46) ∧ ((Am.Ends (f4_L12_g y12) (f4_L12_next y12) (f4_L12_ok y12) x12) ∧ (q12_4 = true → InR (a43 + 1)))))), (v44 && q12_4), ((f4_L12_x4_0 y12 e12), (f4_L12_x4_1 y12 e12), (a43 + 1), ()), (v44 && (f4_L12_e1 y12 e12)), (!v44))
def f4_L8_ok (y : f4_L8_Y) (x : f4_L8_X) : Prop := (f4_L8t y x).1
def f4_L8_g (y : f4_L8_Y) (x : f4_L8_X) : Bool := (f4_L8t y x).2.1
def f4_L8_next (y : f4_L8_Y) (x : f4_L8_X) : f4_L8_X := (f4_L8t y x).2.2.1
def f4_L8_e1 (y : f4_L8_Y) (x : f4_L8_X) : Bool := (f4_L8t y x).2.2.2.1
def f4_L8_e2 (y : f4_L8_Y) (x : f4_L8_X) : Bool := (f4_L8t y x).2.2.2.2
instance (y : f4_L8_Y) (x : f4_L8_X) : Decidable (f4_L8_ok y x) := by
 unfold f4_L8_ok f4_L8t
 try dsimp only
 infer_instance
def f4_L8_x1_0 (y : f4_L8_Y) (x : f4_L8_X) : (List (List D50)) :=
 let a11 := y.2.2.1
 let a41 := y.2.2.2.1
 let a43 := x.2.2.1
 let v51 := (f11 a11 (nth a41 a43 ([] : List UInt8)))
 let y12 := (y.1, y.2.1, a11, a43, a41, y.2.2.2.2.1, a43, v51.1, (len v51.1), ())
 (f4_L12_x1_0 y12 (loopEnd (f4_L12_g y12) (f4_L12_next y12) (x.1, x.2.1, (0 : Int), ())))
def f4_L8_x1_1 (y : f4_L8_Y) (x : f4_L8_X) : Int :=
 let a11 := y.2.2.1
 let a41 := y.2.2.2.1
 let a43 := x.2.2.1
 let v51 := (f11 a11 (nth a41 a43 ([] : List UInt8)))
 let y12 := (y.1, y.2.1, a11, a43, a41, y.2.2.2.2.1, a43, v51.1, (len v51.1), ())
 (f4_L12_x1_1 y12 (loopEnd (f4_L12_g y12) (f4_L12_next y12) (x.1, x.2.1, (0 : Int), ())))
def f4_L8_l1 : List (Nat × Sh) := [(8, (.own (.sl T50) 0 false)), (9, vI)]
def f4_L8_x2_0 (y : f4_L8_Y) (x : f4_L8_X) : (List (List D50)) :=
 x.1
def f4_L8_l2 : List (Nat × Sh) := [(12, (.own (.sl T50) 1012 false))]
def f4_L8_spec : St → Option Out := loopS [(2, vI), (4, (.box T24 (.val T24))), (11, (.val (.ptr T65))), (41, (.val (.sl .str))), (42, vI)] [(12, (.own (.sl T50) 1012 false)), (13, vI), (43, vI)] f4_L8_g f4_L8_next f4_L8_ok fun y x => [ex 1 (some (f4_L8_e1 y x)) f4_L8_l1 ((f4_L8_x1_0 y x), (f4_L8_x1_1 y x), ()), ex 2 (some (f4_L8_e2 y x)) f4_L8_l2 ((f4_L8_x2_0 y x), ())]
def f4t (p0 : D24) (p1 : (List UInt8)) (p2 : Int) (p3 : Int) : Prop × ((List (List D50)) × Int × Unit) :=
 let v31 := (f8 p0 p1 p2 p3)
 let v33 := (v31 != 0)
 let v36 := (f9 p0)
 let v41 := (f10 v36 p1 p2 p3)
 let y8 := (p2, p0, v36, v41, (len v41), ())
 let x8 := (([] : List (List D50)), (0 : Int), (0 : Int), ())
 let e8 := (loopEnd (f4_L8_g y8) (f4_L8_next y8) x8)
 let q8_1 := (f4_L8_e1 y8 e8)
 (((f8_ok p0 p1 p2 p3) ∧ ((!v33) = true → ((f9_ok p0) ∧ ((f10_ok v36 p1 p2 p3) ∧ (Am.Ends (f4_L8_g y8) (f4_L8_next y8) (f4_L8_ok y8) x8))))), ((bif v33 then [] else (bif q8_1 then (f4_L8_x1_0 y8 e8) else (f4_L8_x2_0 y8 e8))), (bif v33 then v31 else (bif q8_1 then (f4_L8_x1_1 y8 e8) else (0 : Int))), ()))
def f4_ok (p0 : D24) (p1 : (List UInt8)) (p2 : Int) (p3 : Int) : Prop := (f4t p0 p1 p2 p3).1
def f4 (p0 : D24) (p1 : (List UInt8)) (p2 : Int) (p3 : Int) : ((List (List D50)) × Int × Unit) := (f4t p0 p1 p2 p3).2
instance (p0 : D24) (p1 : (List UInt8)) (p2 : Int) (p3 : Int) : Decidable (f4_ok p0 p1 p2 p3) := by
 unfold f4_ok f4t
 try dsimp only
 infer_instance
def f4_spec : Am.Spec := fnSpec [(0, (.val T24)), (1, vS), (2, vI), (3, vI)] (.tup (.cons (.own (.sl T50) 0 false) (.cons vI .nl))) [] (fun x => f4_ok x.1 x.2.1 x.2.2.1 x.2.2.2.1) (fun x => f4 x.1 x.2.1 x.2.2.1 x.2.2.2.1) (fun _ => ())
def f4_ctx : Ctx := Cx tys [(8, f8_spec), (9, f9_spec), (10, f10_spec), (11, f11_spec), (12, f12_spec), (13, f13_spec)] [(25, f4_L25_spec), (18, f4_L18_spec), (12, f4_L12_spec), (8, f4_L8_spec)] [(21, [(4, 0, 51, 1016)]), (29, [(4, 0, 68, 1020)]), (47, [(4, 0, 88, 1024)]), (58, [(1, 24, 0, 0)]), (59, [(4, 0, 129, 1012)]), (67, [(4, 0, 1012, 0)])] false 134 [] [88]
theorem f4_cok : CtxOk Tryd.prog f4_ctx := ctxOk_mk tys_ok rfl ⟨f8_is, f9_is, f10_is, f11_is, f12_is, f13_is, trivial⟩ rfl (by kernel_rfl)
noncomputable def f4_code : Code := Tryd.f4.body.getD .skip
noncomputable def f4_L8 : Code := nthLoop f4_code 0
noncomputable def f4_L12 : Code := nthLoop f4_L8 0
noncomputable def f4_L18 : Code := nthLoop f4_L12 0
noncomputable def f4_L25 : Code := nthLoop f4_L18 0
theorem f4_L25_is : LoopSnd Tryd.prog f4_ctx f4_L25 := lgen f4_cok mixed (sp := f4_L25_spec) rfl [f4_L25_l8] (bs := []) (by kernel_rfl) trivial (by kernel_rfl) (by kernel_rfl) fun y x => by kernel_rfl
theorem f4_L18_is : LoopSnd Tryd.prog f4_ctx f4_L18 := lgen f4_cok mixed (sp := f4_L18_spec) rfl [f4_L18_l1, f4_L18_l6] (bs := [f4_L25]) (by kernel_rfl) ⟨f4_L25_is, trivial⟩ (by kernel_rfl) (by kernel_rfl) fun y x => by kernel_rfl
theorem f4_L12_is : LoopSnd Tryd.prog f4_ctx f4_L12 := lgen f4_cok mixed (sp := f4_L12_spec) rfl [f4_L12_l1, f4_L12_l4] (bs := [f4_L18]) (by kernel_rfl) ⟨f4_L18_is, trivial⟩ (by kernel_rfl) (by kernel_rfl) fun y x => by kernel_rfl
theorem f4_L8_is : LoopSnd Tryd.prog f4_ctx f4_L8 := lgen f4_cok mixed (sp := f4_L8_spec) rfl [f4_L8_l1, f4_L8_l2] (bs := [f4_L12]) (by kernel_rfl) ⟨f4_L12_is, trivial⟩ (by kernel_rfl) (by kernel_rfl) fun y x => by kernel_rfl
theorem f4_is : SpecOk Tryd.prog 4 f4_spec := fgen f4_cok mixed Tryd.func4 (by kernel_rfl) (bs := [f4_L8]) (by kernel_rfl) ⟨f4_L8_is, trivial⟩ fun x => by kernel_rfl
def f40t (p0 : Int) : Prop × Int :=
 let v5 := (p0 == 1)
 let m4 := (bif v5 then v5 else (p0 == 2))
 let v8 := (p0 == 3)
 let v10 := (p0 == 4)
 let m2_3 := (bif (bif m4 then true else (bif v8 then true else (bif v10 then true else (p0 == 5)))) then (bif m4 then (1 : Int) else (bif v8 then (2 : Int) else (bif v10 then (3 : Int) else (0 : Int)))) else (-1 : Int))
 (True, m2_3)
def f40_ok (p0 : Int) : Prop := (f40t p0).1
def f40 (p0 : Int) : Int := (f40t p0).2
instance (p0 : Int) : Decidable (f40_ok p0) := by
 unfold f40_ok f40t
 try dsimp only
 infer_instance
def f40_spec : Am.Spec := fnSpec [(0, vI)] vI [] (fun x => f40_ok x.1) (fun x => f40 x.1) (fun _ => ())
def f40_ctx : Ctx := Cx tys [] [] [] false 13 [] []
theorem f40_cok : CtxOk Tryd.prog f40_ctx := ctxOk_mk tys_ok rfl trivial rfl (by kernel_rfl)
theorem f40_is : SpecOk Tryd.prog 40 f40_spec := fgen f40_cok mixed Tryd.func40 (by kernel_rfl) (bs := []) (by kernel_rfl) trivial fun x => by kernel_rfl
def f69t (p0 : D50) : Prop × Bool :=
 (True, (bif (bif (bif (decide (p0.1 ≥ (-16777216))) then (decide (p0.1 ≤ 16777216)) else false) then (decide (p0.2.1 ≥ (-16777216))) else false) then (decide (p0.2.1 ≤ 16777216)) else false))
def f69_ok (p0 : D50) : Prop := (f69t p0).1
def f69 (p0 : D50) : Bool := (f69t p0).2
instance (p0 : D50) : Decidable (f69_ok p0) := by
 unfold f69_ok f69t
 try dsimp only
 infer_instance
def f69_spec : Am.Spec := fnSpec [(0, (.val T50))] vB [] (fun x => f69_ok x.1) (fun x => f69 x.1) (fun _ => ())
def f69_ctx : Ctx := Cx tys [] [] [] false 21 [] []
theorem f69_cok : CtxOk Tryd.prog f69_ctx := ctxOk_mk tys_ok rfl trivial rfl (by kernel_rfl)
theorem f69_is : SpecOk Tryd.prog 69 f69_spec := fgen f69_cok mixed Tryd.func69 (by kernel_rfl) (bs := []) (by kernel_rfl) trivial fun x => by kernel_rfl
abbrev f56_L2_Y : Type := (D74 × Unit)
abbrev f56_L2_X : Type := (Int × Unit)
def f56_L2t (y : f56_L2_Y) (x : f56_L2_X) : Prop × Bool × f56_L2_X × Bool × Bool :=
 let a1 := y.1
 let a3 := x.1
 let v5 := (decide (a3 < 3))
 let v12 := (decide (a3 < (f40 a1.1)))
 let v17 := (nth a1.2.1 a3 Z50)
 let v20 := (bif v12 then (!(f69 v17)) else false)
 let v26 := (decide (a3 ≥ (f40 a1.1)))
 let v35 := (bif v20 then true else (bif v26 then (!(Ty.eqb T50 (nth a1.2.1 a3 Z50) ((0 : Int), (0 : Int), ()))) else false))
 ((v5 = true → ((f40_ok a1.1) ∧ ((v12 = true → InB a3 3) ∧ ((v12 = true → (f69_ok v17)) ∧ (((!v20) = true → (f40_ok a1.1)) ∧ ((((!v20) && v26) = true → InB a3 3) ∧ ((!v35) = true → InR (a3 + 1)))))))), (v5 && (!v35)), ((a3 + 1), ()), (v5 && v35), (!v5))
def f56_L2_ok (y : f56_L2_Y) (x : f56_L2_X) : Prop := (f56_L2t y x).1
def f56_L2_g (y : f56_L2_Y) (x : f56_L2_X) : Bool := (f56_L2t y x).2.1
def f56_L2_next (y : f56_L2_Y) (x : f56_L2_X) : f56_L2_X := (f56_L2t y x).2.2.1
def f56_L2_e1 (y : f56_L2_Y) (x : f56_L2_X) : Bool := (f56_L2t y x).2.2.2.1
def f56_L2_e2 (y : f56_L2_Y) (x : f56_L2_X) : Bool := (f56_L2t y x).2.2.2.2
instance (y : f56_L2_Y) (x : f56_L2_X) : Decidable (f56_L2_ok y x) := by
 unfold f56_L2_ok f56_L2t
 try dsimp only
 infer_instance
def f56_L2_x1_0 (y : f56_L2_Y) (x : f56_L2_X) : Bool :=
 false
def f56_L2_spec : St → Option Out := loopS [(1, (.box T74 (.val T74)))] [(3, vI)] f56_L2_g f56_L2_next f56_L2_ok fun y x => [ex 1 (some (f56_L2_e1 y x)) [(2, vB)] ((f56_L2_x1_0 y x), ()), ex 2 (some (f56_L2_e2 y x)) [] ()]
def f56t (p0 : D74) : Prop × Bool :=
 let y2 := (p0, ())
 let x2 := ((0 : Int), ())
 let e2 := (loopEnd (f56_L2_g y2) (f56_L2_next y2) x2)
 ((Am.Ends (f56_L2_g y2) (f56_L2_next y2) (f56_L2_ok y2) x2), (bif (f56_L2_e1 y2 e2) then (f56_L2_x1_0 y2 e2) else true))
def f56_ok (p0 : D74) : Prop := (f56t p0).1
def f56 (p0 : D74) : Bool := (f56t p0).2
instance (p0 : D74) : Decidable (f56_ok p0) := by
 unfold f56_ok f56t
 try dsimp only
 infer_instance
def f56_spec : Am.Spec := fnSpec [(0, (.val T74))] vB [] (fun x => f56_ok x.1) (fun x => f56 x.1) (fun _ => ())
def f56_ctx : Ctx := Cx tys [(40, f40_spec), (69, f69_spec)] [(2, f56_L2_spec)] [] false 36 [] []
theorem f56_cok : CtxOk Tryd.prog f56_ctx := ctxOk_mk tys_ok rfl ⟨f40_is, f69_is, trivial⟩ rfl (by kernel_rfl)
noncomputable def f56_code : Code := Tryd.f56.body.getD .skip
noncomputable def f56_L2 : Code := nthLoop f56_code 0
theorem f56_L2_is : LoopSnd Tryd.prog f56_ctx f56_L2 := lgen f56_cok mixed (sp := f56_L2_spec) rfl [[(2, vB)], []] (bs := []) (by kernel_rfl) trivial (by kernel_rfl) (by kernel_rfl) fun y x => by kernel_rfl
theorem f56_is : SpecOk Tryd.prog 56 f56_spec := fgen f56_cok mixed Tryd.func56 (by kernel_rfl) (bs := [f56_L2]) (by kernel_rfl) ⟨f56_L2_is, trivial⟩ fun x => by kernel_rfl
abbrev f38_L4_Y : Type := ((List D74) × Unit)
abbrev f38_L4_X : Type := (Int × Unit)
def f38_L4t (y : f38_L4_Y) (x : f38_L4_X) : Prop × Bool × f38_L4_X × Bool × Bool :=
 let a0 := y.1
 let a3 := x.1
 let v10 := (decide (a3 < (len a0)))
 let v15 := (nth a0 a3 Z74)
 let v19 := (decide ((f40 v15.1) < 0))
 let v22 := (nth a0 a3 Z74)
 let v25 := (!(f56 v22))
 let v31 := ((nth a0 a3 Z74).1 != 1)
 let v34 := (a3 == 0)
 let v38 := (a3 - 1)
 let v44 := (bif v31 then (bif v34 then true else ((nth a0 v38 Z74).1 == 5)) else false)
 let c_5 := ((!v19) && ((!v25) && (!v44)))
 ((v10 = true → (InB a3 (len a0) ∧ ((f40_ok v15.1) ∧ (((!v19) = true → (InB a3 (len a0) ∧ ((f56_ok v22) ∧ ((!v25) = true → (InB a3 (len a0) ∧ (((v31 && (!v34)) = true → InR (a3 - 1)) ∧ ((v31 && (!v34)) = true → InB v38 (len a0)))))))) ∧ (c_5 = true → InR (a3 + 1)))))), (v10 && c_5), ((a3 + 1), ()), (v10 && (v19 || ((!v19) && (v25 || ((!v25) && v44))))), (!v10))
def f38_L4_ok (y : f38_L4_Y) (x : f38_L4_X) : Prop := (f38_L4t y x).1
def f38_L4_g (y : f38_L4_Y) (x : f38_L4_X) : Bool := (f38_L4t y x).2.1
def f38_L4_next (y : f38_L4_Y) (x : f38_L4_X) : f38_L4_X := (f38_L4t y x).2.2.1
def f38_L4_e1 (y : f38_L4_Y) (x : f38_L4_X) : Bool := (f38_L4t y x).2.2.2.1
def f38_L4_e2 (y : f38_L4_Y) (x : f38_L4_X) : Bool := (f38_L4t y x).2.2.2.2
instance (y : f38_L4_Y) (x : f38_L4_X) : Decidable (f38_L4_ok y x) := by
 unfold f38_L4_ok f38_L4t
 try dsimp only
 infer_instance
def f38_L4_x1_0 (y : f38_L4_Y) (x : f38_L4_X) : Int :=
 let a0 := y.1
 let a3 := x.1
 (bif (decide ((f40 (nth a0 a3 Z74).1) < 0)) then (8 : Int) else (bif (!(f56 (nth a0 a3 Z74))) then (2 : Int) else (24 : Int)))
def f38_L4_spec : St → Option Out := loopS [(0, (.val (.sl T74)))] [(3, vI)] f38_L4_g f38_L4_next f38_L4_ok fun y x => [ex 1 (some (f38_L4_e1 y x)) [(2, vI)] ((f38_L4_x1_0 y x), ()), ex 2 (some (f38_L4_e2 y x)) [] ()]
def f38t (p0 : (List D74)) : Prop × Int :=
 let v6 := (decide ((len p0) > 128))
 let y4 := (p0, ())
 let x4 := ((0 : Int), ())
 let e4 := (loopEnd (f38_L4_g y4) (f38_L4_next y4) x4)
 (((!v6) = true → (Am.Ends (f38_L4_g y4) (f38_L4_next y4) (f38_L4_ok y4) x4)), (bif v6 then (3 : Int) else (bif (f38_L4_e1 y4 e4) then (f38_L4_x1_0 y4 e4) else (0 : Int))))
def f38_ok (p0 : (List D74)) : Prop := (f38t p0).1
def f38 (p0 : (List D74)) : Int := (f38t p0).2
instance (p0 : (List D74)) : Decidable (f38_ok p0) := by
 unfold f38_ok f38t
 try dsimp only
 infer_instance
def f38_spec : Am.Spec := fnSpec [(0, (.val (.sl T74)))] vI [] (fun x => f38_ok x.1) (fun x => f38 x.1) (fun _ => ())
def f38_ctx : Ctx := Cx tys [(40, f40_spec), (56, f56_spec)] [(4, f38_L4_spec)] [] false 45 [] []
theorem f38_cok : CtxOk Tryd.prog f38_ctx := ctxOk_mk tys_ok rfl ⟨f40_is, f56_is, trivial⟩ rfl (by kernel_rfl)
noncomputable def f38_code : Code := Tryd.f38.body.getD .skip
noncomputable def f38_L4 : Code := nthLoop f38_code 0
theorem f38_L4_is : LoopSnd Tryd.prog f38_ctx f38_L4 := lgen f38_cok mixed (sp := f38_L4_spec) rfl [[(2, vI)], []] (bs := []) (by kernel_rfl) trivial (by kernel_rfl) (by kernel_rfl) fun y x => by kernel_rfl
theorem f38_is : SpecOk Tryd.prog 38 f38_spec := fgen f38_cok mixed Tryd.func38 (by kernel_rfl) (bs := [f38_L4]) (by kernel_rfl) ⟨f38_L4_is, trivial⟩ fun x => by kernel_rfl
abbrev f54_L5_Y : Type := ((List D74) × Int × Unit)
abbrev f54_L5_X : Type := (Int × Unit)
def f54_L5t (y : f54_L5_Y) (x : f54_L5_X) : Prop × Bool × f54_L5_X × Bool × Bool :=
 let a0 := y.1
 let a3 := y.2.1
 let a4 := x.1
 let v15 := (nth a0 a3 Z74)
 let v19 := (decide (a4 < (f40 v15.1)))
 let v27 := (nth (nth a0 a3 Z74).2.1 a4 Z50)
 let v40 := (decide ((imax (imax (imax v27.1 (Int.sub 0 v27.1)) v27.2.1) (Int.sub 0 v27.2.1)) > 65536))
 ((InB a3 (len a0) ∧ ((f40_ok v15.1) ∧ (v19 = true → (InB a3 (len a0) ∧ (InB a4 3 ∧ (InR (Int.sub 0 v27.1) ∧ (InR (Int.sub 0 v27.2.1) ∧ ((!v40) = true → InR (a4 + 1))))))))), (v19 && (!v40)), ((a4 + 1), ()), (v19 && v40), (!v19))
def f54_L5_ok (y : f54_L5_Y) (x : f54_L5_X) : Prop := (f54_L5t y x).1
def f54_L5_g (y : f54_L5_Y) (x : f54_L5_X) : Bool := (f54_L5t y x).2.1
def f54_L5_next (y : f54_L5_Y) (x : f54_L5_X) : f54_L5_X := (f54_L5t y x).2.2.1
def f54_L5_e1 (y : f54_L5_Y) (x : f54_L5_X) : Bool := (f54_L5t y x).2.2.2.1
def f54_L5_e4 (y : f54_L5_Y) (x : f54_L5_X) : Bool := (f54_L5t y x).2.2.2.2
instance (y : f54_L5_Y) (x : f54_L5_X) : Decidable (f54_L5_ok y x) := by
 unfold f54_L5_ok f54_L5t
 try dsimp only
 infer_instance
def f54_L5_x1_0 (y : f54_L5_Y) (x : f54_L5_X) : Bool :=
 false
def f54_L5_l4 : List (Nat × Sh) := [(0, (.val (.sl T74))), (3, vI)]
def f54_L5_spec : St → Option Out := loopS [(0, (.val (.sl T74))), (3, vI)] [(4, vI)] f54_L5_g f54_L5_next f54_L5_ok fun y x => [ex 1 (some (f54_L5_e1 y x)) [(2, vB)] ((f54_L5_x1_0 y x), ()), ex 4 (some (f54_L5_e4 y x)) f54_L5_l4 (y.1, y.2.1, ())]
abbrev f54_L2_Y : Type := ((List D74) × Unit)
abbrev f54_L2_X : Type := (Int × Unit)
def f54_L2t (y : f54_L2_Y) (x : f54_L2_X) : Prop × Bool × f54_L2_X × Bool × Bool :=
 let a0 := y.1
 let a3 := x.1
 let v9 := (decide (a3 < (len a0)))
 let y5 := (a0, a3, ())
 let x5 := ((0 : Int), ())
 let e5 := (loopEnd (f54_L5_g y5) (f54_L5_next y5) x5)
 let q5_4 := (f54_L5_e4 y5 e5)
 ((v9 = true → ((Am.Ends (f54_L5_g y5) (f54_L5_next y5) (f54_L5_ok y5) x5) ∧ (q5_4 = true → InR (a3 + 1)))), (v9 && q5_4), ((a3 + 1), ()), (v9 && (f54_L5_e1 y5 e5)), (!v9))
def f54_L2_ok (y : f54_L2_Y) (x : f54_L2_X) : Prop := (f54_L2t y x).1
def f54_L2_g (y : f54_L2_Y) (x : f54_L2_X) : Bool := (f54_L2t y x).2.1
def f54_L2_next (y : f54_L2_Y) (x : f54_L2_X) : f54_L2_X := (f54_L2t y x).2.2.1
def f54_L2_e1 (y : f54_L2_Y) (x : f54_L2_X) : Bool := (f54_L2t y x).2.2.2.1
def f54_L2_e2 (y : f54_L2_Y) (x : f54_L2_X) : Bool := (f54_L2t y x).2.2.2.2
instance (y : f54_L2_Y) (x : f54_L2_X) : Decidable (f54_L2_ok y x) := by
 unfold f54_L2_ok f54_L2t
 try dsimp only
 infer_instance
def f54_L2_x1_0 (y : f54_L2_Y) (x : f54_L2_X) : Bool :=
 let y5 := (y.1, x.1, ())
 (f54_L5_x1_0 y5 (loopEnd (f54_L5_g y5) (f54_L5_next y5) ((0 : Int), ())))
def f54_L2_spec : St → Option Out := loopS [(0, (.val (.sl T74)))] [(3, vI)] f54_L2_g f54_L2_next f54_L2_ok fun y x => [ex 1 (some (f54_L2_e1 y x)) [(2, vB)] ((f54_L2_x1_0 y x), ()), ex 2 (some (f54_L2_e2 y x)) [] ()]
def f54t (p0 : (List D74)) : Prop × Bool :=
 let y2 := (p0, ())
 let x2 := ((0 : Int), ())
 let e2 := (loopEnd (f54_L2_g y2) (f54_L2_next y2) x2)
 ((Am.Ends (f54_L2_g y2) (f54_L2_next y2) (f54_L2_ok y2) x2), (bif (f54_L2_e1 y2 e2) then (f54_L2_x1_0 y2 e2) else true))
def f54_ok (p0 : (List D74)) : Prop := (f54t p0).1
def f54 (p0 : (List D74)) : Bool := (f54t p0).2
instance (p0 : (List D74)) : Decidable (f54_ok p0) := by
 unfold f54_ok f54t
 try dsimp only
 infer_instance
def f54_spec : Am.Spec := fnSpec [(0, (.val (.sl T74)))] vB [] (fun x => f54_ok x.1) (fun x => f54 x.1) (fun _ => ())
def f54_ctx : Ctx := Cx tys [(40, f40_spec)] [(5, f54_L5_spec), (2, f54_L2_spec)] [] false 41 [] []
theorem f54_cok : CtxOk Tryd.prog f54_ctx := ctxOk_mk tys_ok rfl ⟨f40_is, trivial⟩ rfl (by kernel_rfl)
noncomputable def f54_code : Code := Tryd.f54.body.getD .skip
noncomputable def f54_L2 : Code := nthLoop f54_code 0
noncomputable def f54_L5 : Code := nthLoop f54_L2 0
theorem f54_L5_is : LoopSnd Tryd.prog f54_ctx f54_L5 := lgen f54_cok mixed (sp := f54_L5_spec) rfl [[(2, vB)], f54_L5_l4] (bs := []) (by kernel_rfl) trivial (by kernel_rfl) (by kernel_rfl) fun y x => by kernel_rfl
theorem f54_L2_is : LoopSnd Tryd.prog f54_ctx f54_L2 := lgen f54_cok mixed (sp := f54_L2_spec) rfl [[(2, vB)], []] (bs := [f54_L5]) (by kernel_rfl) ⟨f54_L5_is, trivial⟩ (by kernel_rfl) (by kernel_rfl) fun y x => by kernel_rfl
theorem f54_is : SpecOk Tryd.prog 54 f54_spec := fgen f54_cok mixed Tryd.func54 (by kernel_rfl) (bs := [f54_L2]) (by kernel_rfl) ⟨f54_L2_is, trivial⟩ fun x => by kernel_rfl
abbrev f33_L6_Y : Type := (D24 × Unit)
abbrev f33_L6_X : Type := (Int × Unit)
def f33_L6t (y : f33_L6_Y) (x : f33_L6_X) : Prop × Bool × f33_L6_X × Bool × Bool :=
 let a1 := y.1
 let a3 := x.1
 let v51 := (decide (a3 < (len a1.2.2.2.1)))
 let v57 := (nth a1.2.2.2.1 a3 Z47)
 let v60 := (decide (a3 > 0))
 let v67 := (a3 - 1)
 let v72 := (bif v60 then (decide (v57.1 ≤ (nth a1.2.2.2.1 v67 Z47).1)) else false)
 let v80 := (bif (decide (v57.2.1 < 0)) then true else (decide (v57.2.1 > 65536)))
 let v85 := ((f38 v57.2.2.1) != 0)
 let v90 := (!(f54 v57.2.2.1))
 let c_8 := ((!v72) && ((!v80) && ((!v85) && (!v90))))
 ((v51 = true → (InB a3 (len a1.2.2.2.1) ∧ ((v60 = true → InR (a3 - 1)) ∧ ((v60 = true → InB v67 (len a1.2.2.2.1)) ∧ (((!v72) = true → ((!v80) = true → ((f38_ok v57.2.2.1) ∧ ((!v85) = true → (f54_ok v57.2.2.1))))) ∧ (c_8 = true → InR (a3 + 1))))))), (v51 && c_8), ((a3 + 1), ()), (v51 && (v72 || ((!v72) && (v80 || ((!v80) && (v85 || ((!v85) && v90))))))), (!v51))
def f33_L6_ok (y : f33_L6_Y) (x : f33_L6_X) : Prop := (f33_L6t y x).1
def f33_L6_g (y : f33_L6_Y) (x : f33_L6_X) : Bool := (f33_L6t y x).2.1
def f33_L6_next (y : f33_L6_Y) (x : f33_L6_X) : f33_L6_X := (f33_L6t y x).2.2.1
def f33_L6_e1 (y : f33_L6_Y) (x : f33_L6_X) : Bool := (f33_L6t y x).2.2.2.1
def f33_L6_e2 (y : f33_L6_Y) (x : f33_L6_X) : Bool := (f33_L6t y x).2.2.2.2
instance (y : f33_L6_Y) (x : f33_L6_X) : Decidable (f33_L6_ok y x) := by
 unfold f33_L6_ok f33_L6t
 try dsimp only
 infer_instance
def f33_L6_x1_0 (y : f33_L6_Y) (x : f33_L6_X) : Int :=
 let a1 := y.1
 let a3 := x.1
 let v57 := (nth a1.2.2.2.1 a3 Z47)
 let v83 := (f38 v57.2.2.1)
 let m2_2 := (bif (bif (decide (a3 > 0)) then (decide (v57.1 ≤ (nth a1.2.2.2.1 (a3 - 1) Z47).1)) else false) then (24 : Int) else (bif (bif (decide (v57.2.1 < 0)) then true else (decide (v57.2.1 > 65536))) then (2 : Int) else (bif (v83 != 0) then v83 else (2 : Int))))
 m2_2
def f33_L6_spec : St → Option Out := loopS [(1, (.box T24 (.val T24)))] [(3, vI)] f33_L6_g f33_L6_next f33_L6_ok fun y x => [ex 1 (some (f33_L6_e1 y x)) [(2, vI)] ((f33_L6_x1_0 y x), ()), ex 2 (some (f33_L6_e2 y x)) [(1, (.box T24 (.val T24)))] (y.1, ())]
abbrev f33_L19_Y : Type := (D24 × Unit)
abbrev f33_L19_X : Type := (Int × Unit)
def f33_L19t (y : f33_L19_Y) (x : f33_L19_X) : Prop × Bool × f33_L19_X × Bool × Bool :=
 let a1 := y.1
 let a6 := x.1
 let v95 := (decide (a6 < (len a1.2.2.2.2.1)))
 let v101 := (nth a1.2.2.2.2.1 a6 Z87)
 let v104 := (decide (a6 > 0))
 let v108 := (a6 - 1)
 let v109 := (nth a1.2.2.2.2.1 v108 Z87)
 let v129 := (bif (decide (v101.1 < v109.1)) then true else (bif (v101.1 == v109.1) then (decide (v101.2.1 ≤ v109.2.1)) else false))
 let c_1 := (bif v104 then (!v129) else true)
 let v137 := (bif (decide (v101.2.2.1 < (-65536))) then true else (decide (v101.2.2.1 > 65536)))
 let c_4 := (c_1 && (!v137))
 ((v95 = true → (InB a6 (len a1.2.2.2.2.1) ∧ ((v104 = true → (InR (a6 - 1) ∧ InB v108 (len a1.2.2.2.2.1))) ∧ (c_4 = true → InR (a6 + 1))))), (v95 && c_4), ((a6 + 1), ()), (v95 && ((v129 && v104) || (c_1 && v137))), (!v95))
def f33_L19_ok (y : f33_L19_Y) (x : f33_L19_X) : Prop := (f33_L19t y x).1
def f33_L19_g (y : f33_L19_Y) (x : f33_L19_X) : Bool := (f33_L19t y x).2.1
def f33_L19_next (y : f33_L19_Y) (x : f33_L19_X) : f33_L19_X := (f33_L19t y x).2.2.1
def f33_L19_e1 (y : f33_L19_Y) (x : f33_L19_X) : Bool := (f33_L19t y x).2.2.2.1
def f33_L19_e4 (y : f33_L19_Y) (x : f33_L19_X) : Bool := (f33_L19t y x).2.2.2.2
instance (y : f33_L19_Y) (x : f33_L19_X) : Decidable (f33_L19_ok y x) := by
 unfold f33_L19_ok f33_L19t
 try dsimp only
 infer_instance
def f33_L19_x1_0 (y : f33_L19_Y) (x : f33_L19_X) : Int :=
 let a1 := y.1
 let a6 := x.1
 let v101 := (nth a1.2.2.2.2.1 a6 Z87)
 let v109 := (nth a1.2.2.2.2.1 (a6 - 1) Z87)
 (bif ((bif (decide (v101.1 < v109.1)) then true else (bif (v101.1 == v109.1) then (decide (v101.2.1 ≤ v109.2.1)) else false)) && (decide (a6 > 0))) then (24 : Int) else (2 : Int))
def f33_L19_spec : St → Option Out := loopS [(1, (.box T24 (.val T24)))] [(6, vI)] f33_L19_g f33_L19_next f33_L19_ok fun y x => [ex 1 (some (f33_L19_e1 y x)) [(2, vI)] ((f33_L19_x1_0 y x), ()), ex 4 (some (f33_L19_e4 y x)) [] ()]
def f33t (p0 : D24) : Prop × Int :=
 let v36 := (bif (bif (bif (bif (bif (decide (p0.1 < 1)) then true else (decide (p0.1 > 65536))) then true else (decide (p0.2.1 < 0))) then true else (decide (p0.2.1 > 65536))) then true else (decide (p0.2.2.1 < 0))) then true else (decide (p0.2.2.1 > 65536)))
 let v46 := (bif (decide ((len p0.2.2.2.1) > 256)) then true else (decide ((len p0.2.2.2.2.1) > 256)))
 let y6 := (p0, ())
 let x6 := ((0 : Int), ())
 let e6 := (loopEnd (f33_L6_g y6) (f33_L6_next y6) x6)
 let y19 := (p0, ())
 let x19 := ((0 : Int), ())
 let e19 := (loopEnd (f33_L19_g y19) (f33_L19_next y19) x19)
 (((!v36) = true → ((!v46) = true → ((Am.Ends (f33_L6_g y6) (f33_L6_next y6) (f33_L6_ok y6) x6) ∧ ((f33_L6_e2 y6 e6) = true → (Am.Ends (f33_L19_g y19) (f33_L19_next y19) (f33_L19_ok y19) x19))))), (bif v36 then (2 : Int) else (bif v46 then (3 : Int) else (bif (f33_L6_e1 y6 e6) then (f33_L6_x1_0 y6 e6) else (bif (f33_L19_e1 y19 e19) then (f33_L19_x1_0 y19 e19) else (0 : Int))))))
def f33_ok (p0 : D24) : Prop := (f33t p0).1
def f33 (p0 : D24) : Int := (f33t p0).2
instance (p0 : D24) : Decidable (f33_ok p0) := by
 unfold f33_ok f33t
 try dsimp only
 infer_instance
def f33_spec : Am.Spec := fnSpec [(0, (.val T24))] vI [] (fun x => f33_ok x.1) (fun x => f33 x.1) (fun _ => ())
def f33_ctx : Ctx := Cx tys [(38, f38_spec), (54, f54_spec)] [(6, f33_L6_spec), (19, f33_L19_spec)] [] false 138 [] []
theorem f33_cok : CtxOk Tryd.prog f33_ctx := ctxOk_mk tys_ok rfl ⟨f38_is, f54_is, trivial⟩ rfl (by kernel_rfl)
noncomputable def f33_code : Code := Tryd.f33.body.getD .skip
noncomputable def f33_L6 : Code := nthLoop f33_code 0
theorem f33_L6_is : LoopSnd Tryd.prog f33_ctx f33_L6 := lgen f33_cok mixed (sp := f33_L6_spec) rfl [[(2, vI)], [(1, (.box T24 (.val T24)))]] (bs := []) (by kernel_rfl) trivial (by kernel_rfl) (by kernel_rfl) fun y x => by kernel_rfl
noncomputable def f33_L19 : Code := nthLoop f33_code 1
theorem f33_L19_is : LoopSnd Tryd.prog f33_ctx f33_L19 := lgen f33_cok mixed (sp := f33_L19_spec) rfl [[(2, vI)], []] (bs := []) (by kernel_rfl) trivial (by kernel_rfl) (by kernel_rfl) fun y x => by kernel_rfl
theorem f33_is : SpecOk Tryd.prog 33 f33_spec := fgen f33_cok mixed Tryd.func33 (by kernel_rfl) (bs := [f33_L6, f33_L19]) (by kernel_rfl) ⟨f33_L6_is, f33_L19_is, trivial⟩ fun x => by kernel_rfl
abbrev f34_L4_Y : Type := ((List UInt8) × Int × Unit)
abbrev f34_L4_X : Type := ((List (List UInt8)) × Int × Int × Unit)
def f34_L4t (y : f34_L4_Y) (x : f34_L4_X) : Prop × Bool × f34_L4_X :=
 let a0 := y.1
 let a5 := x.1
 let a6 := x.2.1
 let a7 := x.2.2.1
 let v12 := (decide (a7 ≤ (len a0)))
 let v18 := (a7 == (len a0))
 let v25 := (bif v18 then true else ((byteAt a0 a7) == y.2.1))
 let v31 := ([(List.drop (Int.toNat a6) (List.take (Int.toNat a7) a0))] : List (List UInt8))
 ((v12 = true → (((!v18) = true → InB a7 (len a0)) ∧ ((v25 = true → ((0 ≤ a6 ∧ a6 ≤ a7 ∧ a7 ≤ len a0) ∧ (((List.length a5 + List.length v31 : Nat) : Int) ≤ 4294967296 ∧ InR (a7 + 1)))) ∧ InR (a7 + 1)))), v12, ((bif v25 then (a5 ++ v31) else a5), (bif v25 then (a7 + 1) else a6), (a7 + 1), ()))
def f34_L4_ok (y : f34_L4_Y) (x : f34_L4_X) : Prop := (f34_L4t y x).1
def f34_L4_g (y : f34_L4_Y) (x : f34_L4_X) : Bool := (f34_L4t y x).2.1
def f34_L4_next (y : f34_L4_Y) (x : f34_L4_X) : f34_L4_X := (f34_L4t y x).2.2
instance (y : f34_L4_Y) (x : f34_L4_X) : Decidable (f34_L4_ok y x) := by
 unfold f34_L4_ok f34_L4t
 try dsimp only
 infer_instance
def f34_L4_x2_0 (y : f34_L4_Y) (x : f34_L4_X) : (List (List UInt8)) :=
 x.1
def f34_L4_spec : St → Option Out := loopS [(0, vS), (1, (.val (.int .u8)))] [(5, (.own .str 1005 false)), (6, vI), (7, vI)] f34_L4_g f34_L4_next f34_L4_ok fun y x => [ex 2 none [(5, (.own .str 1005 false))] ((f34_L4_x2_0 y x), ())]
def f34t (p0 : (List UInt8)) (p1 : Int) : Prop × (List (List UInt8)) :=
 let y4 := (p0, p1, ())
 let x4 := (([] : List (List UInt8)), (0 : Int), (0 : Int), ())
 ((Am.Ends (f34_L4_g y4) (f34_L4_next y4) (f34_L4_ok y4) x4), (f34_L4_x2_0 y4 (loopEnd (f34_L4_g y4) (f34_L4_next y4) x4)))
def f34_ok (p0 : (List UInt8)) (p1 : Int) : Prop := (f34t p0 p1).1
def f34 (p0 : (List UInt8)) (p1 : Int) : (List (List UInt8)) := (f34t p0 p1).2
instance (p0 : (List UInt8)) (p1 : Int) : Decidable (f34_ok p0 p1) := by
 unfold f34_ok f34t
 try dsimp only
 infer_instance
def f34_spec : Am.Spec := fnSpec [(0, vS), (1, (.val (.int .u8)))] (.own .str 0 false) [] (fun x => f34_ok x.1 x.2.1) (fun x => f34 x.1 x.2.1) (fun _ => ())
def f34_ctx : Ctx := Cx tys [] [(4, f34_L4_spec)] [(3, [(4, 0, 8, 1005)]), (15, [(4, 0, 32, 1005)]), (19, [(4, 0, 1005, 0)])] false 36 [] []
theorem f34_cok : CtxOk Tryd.prog f34_ctx := ctxOk_mk tys_ok rfl trivial rfl (by kernel_rfl)
noncomputable def f34_code : Code := Tryd.f34.body.getD .skip
noncomputable def f34_L4 : Code := nthLoop f34_code 0
theorem f34_L4_is : LoopSnd Tryd.prog f34_ctx f34_L4 := lgen f34_cok mixed (sp := f34_L4_spec) rfl [[(5, (.own .str 1005 false))]] (bs := []) (by kernel_rfl) trivial (by kernel_rfl) (by kernel_rfl) fun y x => by kernel_rfl
theorem f34_is : SpecOk Tryd.prog 34 f34_spec := fgen f34_cok mixed Tryd.func34 (by kernel_rfl) (bs := [f34_L4]) (by kernel_rfl) ⟨f34_L4_is, trivial⟩ fun x => by kernel_rfl
abbrev f36_L3_Y : Type := (Int × D24 × Unit)
abbrev f36_L3_X : Type := (Int × Int × Unit)
def f36_L3t (y : f36_L3_Y) (x : f36_L3_X) : Prop × Bool × f36_L3_X × Bool × Bool :=
 let a2 := y.2.1
 let a6 := x.2.1
 let v11 := (decide (a6 < (len a2.2.2.2.1)))
 let v21 := ((nth a2.2.2.2.1 a6 Z47).1 == y.1)
 ((v11 = true → (InB a6 (len a2.2.2.2.1) ∧ (((!v21) = true → InB a6 (len a2.2.2.2.1)) ∧ ((!v21) = true → InR (a6 + 1))))), (v11 && (!v21)), ((bif ((nth a2.2.2.2.1 a6 Z47).1 == 63) then a6 else x.1), (a6 + 1), ()), (v11 && v21), (!v11))
def f36_L3_ok (y : f36_L3_Y) (x : f36_L3_X) : Prop := (f36_L3t y x).1
def f36_L3_g (y : f36_L3_Y) (x : f36_L3_X) : Bool := (f36_L3t y x).2.1
def f36_L3_next (y : f36_L3_Y) (x : f36_L3_X) : f36_L3_X := (f36_L3t y x).2.2.1
def f36_L3_e1 (y : f36_L3_Y) (x : f36_L3_X) : Bool := (f36_L3t y x).2.2.2.1
def f36_L3_e2 (y : f36_L3_Y) (x : f36_L3_X) : Bool := (f36_L3t y x).2.2.2.2
instance (y : f36_L3_Y) (x : f36_L3_X) : Decidable (f36_L3_ok y x) := by
 unfold f36_L3_ok f36_L3t
 try dsimp only
 infer_instance
def f36_L3_x1_0 (y : f36_L3_Y) (x : f36_L3_X) : Int :=
 x.2.1
def f36_L3_x2_0 (y : f36_L3_Y) (x : f36_L3_X) : Int :=
 x.1
def f36_L3_spec : St → Option Out := loopS [(1, (.val (.int .u8))), (2, (.box T24 (.val T24)))] [(5, vI), (6, vI)] f36_L3_g f36_L3_next f36_L3_ok fun y x => [ex 1 (some (f36_L3_e1 y x)) [(4, vI)] ((f36_L3_x1_0 y x), ()), ex 2 (some (f36_L3_e2 y x)) [(5, vI)] ((f36_L3_x2_0 y x), ())]
def f36t (p0 : D24) (p1 : Int) : Prop × Int :=
 let y3 := (p1, p0, ())
 let x3 := ((-1 : Int), (0 : Int), ())
 let e3 := (loopEnd (f36_L3_g y3) (f36_L3_next y3) x3)
 ((Am.Ends (f36_L3_g y3) (f36_L3_next y3) (f36_L3_ok y3) x3), (bif (f36_L3_e1 y3 e3) then (f36_L3_x1_0 y3 e3) else (f36_L3_x2_0 y3 e3)))
def f36_ok (p0 : D24) (p1 : Int) : Prop := (f36t p0 p1).1
def f36 (p0 : D24) (p1 : Int) : Int := (f36t p0 p1).2
instance (p0 : D24) (p1 : Int) : Decidable (f36_ok p0 p1) := by
 unfold f36_ok f36t
 try dsimp only
 infer_instance
def f36_spec : Am.Spec := fnSpec [(0, (.val T24)), (1, (.val (.int .u8)))] vI [] (fun x => f36_ok x.1 x.2.1) (fun x => f36 x.1 x.2.1) (fun _ => ())
def f36_ctx : Ctx := Cx tys [] [(3, f36_L3_spec)] [] false 32 [] []
theorem f36_cok : CtxOk Tryd.prog f36_ctx := ctxOk_mk tys_ok rfl trivial rfl (by kernel_rfl)
noncomputable def f36_code : Code := Tryd.f36.body.getD .skip
noncomputable def f36_L3 : Code := nthLoop f36_code 0
theorem f36_L3_is : LoopSnd Tryd.prog f36_ctx f36_L3 := lgen f36_cok mixed (sp := f36_L3_spec) rfl [[(4, vI)], [(5, vI)]] (bs := []) (by kernel_rfl) trivial (by kernel_rfl) (by kernel_rfl) fun y x => by kernel_rfl
theorem f36_is : SpecOk Tryd.prog 36 f36_spec := fgen f36_cok mixed Tryd.func36 (by kernel_rfl) (bs := [f36_L3]) (by kernel_rfl) ⟨f36_L3_is, trivial⟩ fun x => by kernel_rfl
abbrev f15_L3_Y : Type := ((List UInt8) × D24 × Unit)
abbrev f15_L3_X : Type := ((List Int) × Int × Unit)
def f15_L3t (y : f15_L3_Y) (x : f15_L3_X) : Prop × Bool × f15_L3_X :=
 let a1 := y.1
 let a2 := y.2.1
 let a5 := x.1
 let a6 := x.2.1
 let v16 := (bif (decide (a6 < (len a1))) then (decide (a6 < 128)) else false)
 let v22 := (byteAt a1 a6)
 let v23 := (f36 a2 v22)
 let v25 := (decide (v23 ≥ 0))
 let v28 := ([v23] : List Int)
 ((v16 = true → (InB a6 (len a1) ∧ ((f36_ok a2 v22) ∧ ((v25 = true → ((List.length a5 + List.length v28 : Nat) : Int) ≤ 4294967296) ∧ InR (a6 + 1))))), v16, ((bif v25 then (a5 ++ v28) else a5), (a6 + 1), ()))
def f15_L3_ok (y : f15_L3_Y) (x : f15_L3_X) : Prop := (f15_L3t y x).1
def f15_L3_g (y : f15_L3_Y) (x : f15_L3_X) : Bool := (f15_L3t y x).2.1
def f15_L3_next (y : f15_L3_Y) (x : f15_L3_X) : f15_L3_X := (f15_L3t y x).2.2
instance (y : f15_L3_Y) (x : f15_L3_X) : Decidable (f15_L3_ok y x) := by
 unfold f15_L3_ok f15_L3t
 try dsimp only
 infer_instance
def f15_L3_x2_0 (y : f15_L3_Y) (x : f15_L3_X) : (List Int) :=
 x.1
def f15_L3_l2 : List (Nat × Sh) := [(5, (.own (.int .i64) 1005 false))]
def f15_L3_spec : St → Option Out := loopS [(1, vS), (2, (.box T24 (.val T24)))] [(5, (.own (.int .i64) 1005 false)), (6, vI)] f15_L3_g f15_L3_next f15_L3_ok fun y x => [ex 2 none f15_L3_l2 ((f15_L3_x2_0 y x), ())]
def f15t (p0 : D24) (p1 : (List UInt8)) : Prop × (List Int) :=
 let y3 := (p1, p0, ())
 let x3 := (([] : List Int), (0 : Int), ())
 ((Am.Ends (f15_L3_g y3) (f15_L3_next y3) (f15_L3_ok y3) x3), (f15_L3_x2_0 y3 (loopEnd (f15_L3_g y3) (f15_L3_next y3) x3)))
def f15_ok (p0 : D24) (p1 : (List UInt8)) : Prop := (f15t p0 p1).1
def f15 (p0 : D24) (p1 : (List UInt8)) : (List Int) := (f15t p0 p1).2
instance (p0 : D24) (p1 : (List UInt8)) : Decidable (f15_ok p0 p1) := by
 unfold f15_ok f15t
 try dsimp only
 infer_instance
def f15_spec : Am.Spec := fnSpec [(0, (.val T24)), (1, vS)] (.own (.int .i64) 0 false) [] (fun x => f15_ok x.1 x.2.1) (fun x => f15 x.1 x.2.1) (fun _ => ())
def f15_ctx : Ctx := Cx tys [(36, f36_spec)] [(3, f15_L3_spec)] [(3, [(4, 0, 8, 1005)]), (15, [(4, 0, 29, 1005)]), (17, [(4, 0, 1005, 0)])] false 31 [] []
theorem f15_cok : CtxOk Tryd.prog f15_ctx := ctxOk_mk tys_ok rfl ⟨f36_is, trivial⟩ rfl (by kernel_rfl)
noncomputable def f15_code : Code := Tryd.f15.body.getD .skip
noncomputable def f15_L3 : Code := nthLoop f15_code 0
theorem f15_L3_is : LoopSnd Tryd.prog f15_ctx f15_L3 := lgen f15_cok mixed (sp := f15_L3_spec) rfl [f15_L3_l2] (bs := []) (by kernel_rfl) trivial (by kernel_rfl) (by kernel_rfl) fun y x => by kernel_rfl
theorem f15_is : SpecOk Tryd.prog 15 f15_spec := fgen f15_cok mixed Tryd.func15 (by kernel_rfl) (bs := [f15_L3]) (by kernel_rfl) ⟨f15_L3_is, trivial⟩ fun x => by kernel_rfl
abbrev f37_L2_Y : Type := (Int × Int × D24 × Unit)
abbrev f37_L2_X : Type := (Int × Unit)
def f37_L2t (y : f37_L2_Y) (x : f37_L2_X) : Prop × Bool × f37_L2_X × Bool × Bool :=
 let a3 := y.2.2.1
 let a7 := x.1
 let v12 := (decide (a7 < (len a3.2.2.2.2.1)))
 let v22 := ((nth a3.2.2.2.2.1 a7 Z87).1 == y.1)
 let v32 := (bif v22 then ((nth a3.2.2.2.2.1 a7 Z87).2.1 == y.2.1) else false)
 ((v12 = true → (InB a7 (len a3.2.2.2.2.1) ∧ ((v22 = true → InB a7 (len a3.2.2.2.2.1)) ∧ ((v32 = true → InB a7 (len a3.2.2.2.2.1)) ∧ ((!v32) = true → InR (a7 + 1)))))), (v12 && (!v32)), ((a7 + 1), ()), (v12 && v32), (!v12))
def f37_L2_ok (y : f37_L2_Y) (x : f37_L2_X) : Prop := (f37_L2t y x).1
def f37_L2_g (y : f37_L2_Y) (x : f37_L2_X) : Bool := (f37_L2t y x).2.1
def f37_L2_next (y : f37_L2_Y) (x : f37_L2_X) : f37_L2_X := (f37_L2t y x).2.2.1
def f37_L2_e1 (y : f37_L2_Y) (x : f37_L2_X) : Bool := (f37_L2t y x).2.2.2.1
def f37_L2_e2 (y : f37_L2_Y) (x : f37_L2_X) : Bool := (f37_L2t y x).2.2.2.2
instance (y : f37_L2_Y) (x : f37_L2_X) : Decidable (f37_L2_ok y x) := by
 unfold f37_L2_ok f37_L2t
 try dsimp only
 infer_instance
def f37_L2_x1_0 (y : f37_L2_Y) (x : f37_L2_X) : Int :=
 (nth y.2.2.1.2.2.2.2.1 x.1 Z87).2.2.1
def f37_L2_spec : St → Option Out := loopS [(1, (.val (.int .u8))), (2, (.val (.int .u8))), (3, (.box T24 (.val T24)))] [(7, vI)] f37_L2_g f37_L2_next f37_L2_ok fun y x => [ex 1 (some (f37_L2_e1 y x)) [(6, vI)] ((f37_L2_x1_0 y x), ()), ex 2 (some (f37_L2_e2 y x)) [] ()]
def f37t (p0 : D24) (p1 : Int) (p2 : Int) : Prop × Int :=
 let y2 := (p1, p2, p0, ())
 let x2 := ((0 : Int), ())
 let e2 := (loopEnd (f37_L2_g y2) (f37_L2_next y2) x2)
 ((Am.Ends (f37_L2_g y2) (f37_L2_next y2) (f37_L2_ok y2) x2), (bif (f37_L2_e1 y2 e2) then (f37_L2_x1_0 y2 e2) else (0 : Int)))
def f37_ok (p0 : D24) (p1 : Int) (p2 : Int) : Prop := (f37t p0 p1 p2).1
def f37 (p0 : D24) (p1 : Int) (p2 : Int) : Int := (f37t p0 p1 p2).2
instance (p0 : D24) (p1 : Int) (p2 : Int) : Decidable (f37_ok p0 p1 p2) := by
 unfold f37_ok f37t
 try dsimp only
 infer_instance
def f37_spec : Am.Spec := fnSpec [(0, (.val T24)), (1, (.val (.int .u8))), (2, (.val (.int .u8)))] vI [] (fun x => f37_ok x.1 x.2.1 x.2.2.1) (fun x => f37 x.1 x.2.1 x.2.2.1) (fun _ => ())
def f37_ctx : Ctx := Cx tys [] [(2, f37_L2_spec)] [] false 39 [] []
theorem f37_cok : CtxOk Tryd.prog f37_ctx := ctxOk_mk tys_ok rfl trivial rfl (by kernel_rfl)
noncomputable def f37_code : Code := Tryd.f37.body.getD .skip
noncomputable def f37_L2 : Code := nthLoop f37_code 0
theorem f37_L2_is : LoopSnd Tryd.prog f37_ctx f37_L2 := lgen f37_cok mixed (sp := f37_L2_spec) rfl [[(6, vI)], []] (bs := []) (by kernel_rfl) trivial (by kernel_rfl) (by kernel_rfl) fun y x => by kernel_rfl
theorem f37_is : SpecOk Tryd.prog 37 f37_spec := fgen f37_cok mixed Tryd.func37 (by kernel_rfl) (bs := [f37_L2]) (by kernel_rfl) ⟨f37_L2_is, trivial⟩ fun x => by kernel_rfl
abbrev f16_L4_Y : Type := ((List Int) × D24 × Unit)
abbrev f16_L4_X : Type := ((List Int) × Int × Int × Unit)
def f16_L4t (y : f16_L4_Y) (x : f16_L4_X) : Prop × Bool × f16_L4_X :=
 let a1 := y.1
 let a2 := y.2.1
 let a5 := x.1
 let a6 := x.2.1
 let a7 := x.2.2.1
 let v12 := (decide (a7 < (len a1)))
 let v16 := (decide (a7 > 0))
 let v23 := (a7 - 1)
 let v24 := (nth a1 v23 (0 : Int))
 let v26 := (nth a2.2.2.2.1 v24 Z47)
 let v33 := (nth a1 a7 (0 : Int))
 let v35 := (nth a2.2.2.2.1 v33 Z47)
 let v38 := (f37 a2 v26.1 v35.1)
 let m6 := (bif v16 then (a6 + v38) else a6)
 let v42 := ([m6] : List Int)
 let v49 := (nth a1 a7 (0 : Int))
 let v51 := (nth a2.2.2.2.1 v49 Z47)
 ((v12 = true → ((v16 = true → (InR (a7 - 1) ∧ (InB v23 (len a1) ∧ (InB v24 (len a2.2.2.2.1) ∧ (InB a7 (len a1) ∧ (InB v33 (len a2.2.2.2.1) ∧ ((f37_ok a2 v26.1 v35.1) ∧ InR (a6 + v38)))))))) ∧ (((List.length a5 + List.length v42 : Nat) : Int) ≤ 4294967296 ∧ (InB a7 (len a1) ∧ (InB v49 (len a2.2.2.2.1) ∧ (InR (m6 + v51.2.1) ∧ InR (a7 + 1))))))), v12, ((a5 ++ v42), (m6 + v51.2.1), (a7 + 1), ()))
def f16_L4_ok (y : f16_L4_Y) (x : f16_L4_X) : Prop := (f16_L4t y x).1
def f16_L4_g (y : f16_L4_Y) (x : f16_L4_X) : Bool := (f16_L4t y x).2.1
def f16_L4_next (y : f16_L4_Y) (x : f16_L4_X) : f16_L4_X := (f16_L4t y x).2.2
instance (y : f16_L4_Y) (x : f16_L4_X) : Decidable (f16_L4_ok y x) := by
 unfold f16_L4_ok f16_L4t
 try dsimp only
 infer_instance
def f16_L4_x2_0 (y : f16_L4_Y) (x : f16_L4_X) : (List Int) :=
 x.1
def f16_L4_x2_1 (y : f16_L4_Y) (x : f16_L4_X) : Int :=
 x.2.1
def f16_L4_l2 : List (Nat × Sh) := [(5, (.own (.int .i64) 1005 false)), (6, vI)]
def f16_L4_spec : St → Option Out := loopS [(1, (.val (.sl (.int .i64)))), (2, (.box T24 (.val T24)))] [(5, (.own (.int .i64) 1005 false)), (6, vI), (7, vI)] f16_L4_g f16_L4_next f16_L4_ok fun y x => [ex 2 none f16_L4_l2 ((f16_L4_x2_0 y x), (f16_L4_x2_1 y x), ())]
def f16t (p0 : D24) (p1 : (List Int)) : Prop × (List Int) :=
 let y4 := (p1, p0, ())
 let x4 := (([] : List Int), (0 : Int), (0 : Int), ())
 let e4 := (loopEnd (f16_L4_g y4) (f16_L4_next y4) x4)
 let r4_2_0 := (f16_L4_x2_0 y4 e4)
 let v57 := ([(f16_L4_x2_1 y4 e4)] : List Int)
 (((Am.Ends (f16_L4_g y4) (f16_L4_next y4) (f16_L4_ok y4) x4) ∧ ((List.length r4_2_0 + List.length v57 : Nat) : Int) ≤ 4294967296), (r4_2_0 ++ v57))
def f16_ok (p0 : D24) (p1 : (List Int)) : Prop := (f16t p0 p1).1
def f16 (p0 : D24) (p1 : (List Int)) : (List Int) := (f16t p0 p1).2
instance (p0 : D24) (p1 : (List Int)) : Decidable (f16_ok p0 p1) := by
 unfold f16_ok f16t
 try dsimp only
 infer_instance
def f16_spec : Am.Spec := fnSpec [(0, (.val T24)), (1, (.val (.sl (.int .i64))))] (.own (.int .i64) 0 false) [] (fun x => f16_ok x.1 x.2.1) (fun x => f16 x.1 x.2.1) (fun _ => ())
def f16_ctx : Ctx := Cx tys [(37, f37_spec)] [(4, f16_L4_spec)] [(3, [(4, 0, 8, 1005)]), (17, [(4, 0, 43, 1005)]), (21, [(4, 0, 58, 0)])] false 59 [] []
theorem f16_cok : CtxOk Tryd.prog f16_ctx := ctxOk_mk tys_ok rfl ⟨f37_is, trivial⟩ rfl (by kernel_rfl)
noncomputable def f16_code : Code := Tryd.f16.body.getD .skip
noncomputable def f16_L4 : Code := nthLoop f16_code 0
theorem f16_L4_is : LoopSnd Tryd.prog f16_ctx f16_L4 := lgen f16_cok mixed (sp := f16_L4_spec) rfl [f16_L4_l2] (bs := []) (by kernel_rfl) trivial (by kernel_rfl) (by kernel_rfl) fun y x => by kernel_rfl
theorem f16_is : SpecOk Tryd.prog 16 f16_spec := fgen f16_cok mixed Tryd.func16 (by kernel_rfl) (bs := [f16_L4]) (by kernel_rfl) ⟨f16_L4_is, trivial⟩ fun x => by kernel_rfl
def f41t (p0 : Int) (p1 : Int) : Prop × Int :=
 let v8 := (p1 == 0)
 let v14 := (bif (p0 == (-9223372036854775808)) then (p1 == (-1)) else false)
 let v17 := (Int.tdiv p0 p1)
 let v20 := (Int.tmod p0 p1)
 let v29 := (bif (v20 != 0) then (!(Ty.eqb .bool (decide (v20 < 0)) (decide (p1 < 0)))) else false)
 (((!v8) = true → ((!v14) = true → (p1 ≠ 0 ∧ (InR (Int.tdiv p0 p1) ∧ (p1 ≠ 0 ∧ (v29 = true → InR (v17 - 1))))))), (bif v8 then (0 : Int) else (bif v14 then (9223372036854775807 : Int) else (bif v29 then (v17 - 1) else v17))))
def f41_ok (p0 : Int) (p1 : Int) : Prop := (f41t p0 p1).1
def f41 (p0 : Int) (p1 : Int) : Int := (f41t p0 p1).2
instance (p0 : Int) (p1 : Int) : Decidable (f41_ok p0 p1) := by
 unfold f41_ok f41t
 try dsimp only
 infer_instance
def f41_spec : Am.Spec := fnSpec [(0, vI), (1, vI)] vI [] (fun x => f41_ok x.1 x.2.1) (fun x => f41 x.1 x.2.1) (fun _ => ())
def f41_ctx : Ctx := Cx tys [] [] [] false 33 [] []
theorem f41_cok : CtxOk Tryd.prog f41_ctx := ctxOk_mk tys_ok rfl trivial rfl (by kernel_rfl)
theorem f41_is : SpecOk Tryd.prog 41 f41_spec := fgen f41_cok mixed Tryd.func41 (by kernel_rfl) (bs := []) (by kernel_rfl) trivial fun x => by kernel_rfl
def f42t (p0 : Int) : Prop × Int :=
 (True, (bif (decide (p0 < 0)) then (IntKind.wrap .u64 (0 - (IntKind.wrap .u64 p0))) else (IntKind.wrap .u64 p0)))
def f42_ok (p0 : Int) : Prop := (f42t p0).1
def f42 (p0 : Int) : Int := (f42t p0).2
instance (p0 : Int) : Decidable (f42_ok p0) := by
 unfold f42_ok f42t
 try dsimp only
 infer_instance
def f42_spec : Am.Spec := fnSpec [(0, vI)] (.val (.int .u64)) [] (fun x => f42_ok x.1) (fun x => f42 x.1) (fun _ => ())
def f42_ctx : Ctx := Cx tys [] [] [] false 10 [] []
theorem f42_cok : CtxOk Tryd.prog f42_ctx := ctxOk_mk tys_ok rfl trivial rfl (by kernel_rfl)
theorem f42_is : SpecOk Tryd.prog 42 f42_spec := fgen f42_cok mixed Tryd.func42 (by kernel_rfl) (bs := []) (by kernel_rfl) trivial fun x => by kernel_rfl
def f18t (p0 : Int) (p1 : Int) : Prop × Int :=
 let v8 := (p1 == 0)
 let v11 := (f41 p0 p1)
 let v17 := (bif (p0 == (-9223372036854775808)) then (p1 == (-1)) else false)
 let v22 := (p1 * v11)
 let v23 := (p0 - v22)
 let v24 := (f42 v23)
 let v30 := (decide (v24 ≥ (IntKind.wrap .u64 ((f42 p1) - v24))))
 (((!v8) = true → ((f41_ok p0 p1) ∧ ((!v17) = true → (InR (p1 * v11) ∧ (InR (p0 - v22) ∧ ((f42_ok v23) ∧ ((f42_ok p1) ∧ (v30 = true → InR (v11 + 1))))))))), (bif v8 then (0 : Int) else (bif v17 then v11 else (bif v30 then (v11 + 1) else v11))))
def f18_ok (p0 : Int) (p1 : Int) : Prop := (f18t p0 p1).1
def f18 (p0 : Int) (p1 : Int) : Int := (f18t p0 p1).2
instance (p0 : Int) (p1 : Int) : Decidable (f18_ok p0 p1) := by
 unfold f18_ok f18t
 try dsimp only
 infer_instance
def f18_spec : Am.Spec := fnSpec [(0, vI), (1, vI)] vI [] (fun x => f18_ok x.1 x.2.1) (fun x => f18 x.1 x.2.1) (fun _ => ())
def f18_ctx : Ctx := Cx tys [(41, f41_spec), (42, f42_spec)] [] [] false 34 [] []
theorem f18_cok : CtxOk Tryd.prog f18_ctx := ctxOk_mk tys_ok rfl ⟨f41_is, f42_is, trivial⟩ rfl (by kernel_rfl)
theorem f18_is : SpecOk Tryd.prog 18 f18_spec := fgen f18_cok mixed Tryd.func18 (by kernel_rfl) (bs := []) (by kernel_rfl) trivial fun x => by kernel_rfl
def f55t (p0 : Int) (p1 : Int) (p2 : Int) : Prop × Int :=
 (True, (imin p2 (imax p0 p1)))
def f55_ok (p0 : Int) (p1 : Int) (p2 : Int) : Prop := (f55t p0 p1 p2).1
def f55 (p0 : Int) (p1 : Int) (p2 : Int) : Int := (f55t p0 p1 p2).2
instance (p0 : Int) (p1 : Int) (p2 : Int) : Decidable (f55_ok p0 p1 p2) := by
 unfold f55_ok f55t
 try dsimp only
 infer_instance
def f55_spec : Am.Spec := fnSpec [(0, vI), (1, vI), (2, vI)] vI [] (fun x => f55_ok x.1 x.2.1 x.2.2.1) (fun x => f55 x.1 x.2.1 x.2.2.1) (fun _ => ())
def f55_ctx : Ctx := Cx tys [] [] [] false 12 [] []
theorem f55_cok : CtxOk Tryd.prog f55_ctx := ctxOk_mk tys_ok rfl trivial rfl (by kernel_rfl)
theorem f55_is : SpecOk Tryd.prog 55 f55_spec := fgen f55_cok mixed Tryd.func55 (by kernel_rfl) (bs := []) (by kernel_rfl) trivial fun x => by kernel_rfl
def f35t (p0 : D24) (p1 : (List UInt8)) (p2 : Int) : Prop × Int :=
 let v10 := ((f33 p0) != 0)
 let v14 := (f15 p0 p1)
 let v15 := (f16 p0 v14)
 let v18 := (len v15)
 let v19 := (v18 - 1)
 let v20 := (nth v15 v19 (0 : Int))
 let v23 := (f55 p2 (1 : Int) (1048576 : Int))
 let v24 := (v20 * v23)
 (((f33_ok p0) ∧ ((!v10) = true → ((f15_ok p0 p1) ∧ ((f16_ok p0 v14) ∧ (InR (v18 - 1) ∧ (InB v19 (len v15) ∧ ((f55_ok p2 (1 : Int) (1048576 : Int)) ∧ (InR (v20 * v23) ∧ (f18_ok v24 p0.1))))))))), (bif v10 then (0 : Int) else (f18 v24 p0.1)))
def f35_ok (p0 : D24) (p1 : (List UInt8)) (p2 : Int) : Prop := (f35t p0 p1 p2).1
def f35 (p0 : D24) (p1 : (List UInt8)) (p2 : Int) : Int := (f35t p0 p1 p2).2
instance (p0 : D24) (p1 : (List UInt8)) (p2 : Int) : Decidable (f35_ok p0 p1 p2) := by
 unfold f35_ok f35t
 try dsimp only
 infer_instance
def f35_spec : Am.Spec := fnSpec [(0, (.val T24)), (1, vS), (2, vI)] vI [] (fun x => f35_ok x.1 x.2.1 x.2.2.1) (fun x => f35 x.1 x.2.1 x.2.2.1) (fun _ => ())
def f35_ctx : Ctx := Cx tys [(15, f15_spec), (16, f16_spec), (18, f18_spec), (33, f33_spec), (55, f55_spec)] [] [(7, [(4, 0, 15, 1007)])] false 28 [] []
theorem f35_cok : CtxOk Tryd.prog f35_ctx := ctxOk_mk tys_ok rfl ⟨f15_is, f16_is, f18_is, f33_is, f55_is, trivial⟩ rfl (by kernel_rfl)
theorem f35_is : SpecOk Tryd.prog 35 f35_spec := fgen f35_cok mixed Tryd.func35 (by kernel_rfl) (bs := []) (by kernel_rfl) trivial fun x => by kernel_rfl
abbrev f14_L5_Y : Type := ((List UInt8) × Int × Int × D24 × Unit)
abbrev f14_L5_X : Type := (Int × Unit)
def f14_L5t (y : f14_L5_Y) (x : f14_L5_X) : Prop × Bool × f14_L5_X × Bool × Bool :=
 let a1 := y.1
 let a11 := x.1
 let v27 := (decide (a11 < (len a1)))
 let v33 := ((byteAt a1 a11) != 10)
 let v38 := (decide ((byteAt a1 a11) < 32))
 let v45 := (bif v33 then (bif v38 then true else (decide ((byteAt a1 a11) > 126))) else false)
 ((v27 = true → (InB a11 (len a1) ∧ ((v33 = true → InB a11 (len a1)) ∧ (((v33 && (!v38)) = true → InB a11 (len a1)) ∧ ((!v45) = true → InR (a11 + 1)))))), (v27 && (!v45)), ((a11 + 1), ()), (v27 && v45), (!v27))
def f14_L5_ok (y : f14_L5_Y) (x : f14_L5_X) : Prop := (f14_L5t y x).1
def f14_L5_g (y : f14_L5_Y) (x : f14_L5_X) : Bool := (f14_L5t y x).2.1
def f14_L5_next (y : f14_L5_Y) (x : f14_L5_X) : f14_L5_X := (f14_L5t y x).2.2.1
def f14_L5_e1 (y : f14_L5_Y) (x : f14_L5_X) : Bool := (f14_L5t y x).2.2.2.1
def f14_L5_e2 (y : f14_L5_Y) (x : f14_L5_X) : Bool := (f14_L5t y x).2.2.2.2
instance (y : f14_L5_Y) (x : f14_L5_X) : Decidable (f14_L5_ok y x) := by
 unfold f14_L5_ok f14_L5t
 try dsimp only
 infer_instance
def f14_L5_x1_0 (y : f14_L5_Y) (x : f14_L5_X) : (List (List UInt8)) :=
 ([] : List (List UInt8))
def f14_L5_x1_1 (y : f14_L5_Y) (x : f14_L5_X) : Int :=
 (4 : Int)
def f14_L5_l1 : List (Nat × Sh) := [(8, (.own .str 0 false)), (9, vI)]
def f14_L5_l2 : List (Nat × Sh) := [(1, vS), (2, vI), (3, vI), (4, (.box T24 (.val T24)))]
def f14_L5_spec : St → Option Out := loopS [(1, vS), (2, vI), (3, vI), (4, (.box T24 (.val T24)))] [(11, vI)] f14_L5_g f14_L5_next f14_L5_ok fun y x => [ex 1 (some (f14_L5_e1 y x)) f14_L5_l1 ((f14_L5_x1_0 y x), (f14_L5_x1_1 y x), ()), ex 2 (some (f14_L5_e2 y x)) f14_L5_l2 (y.1, y.2.1, y.2.2.1, y.2.2.2.1, ())]
abbrev f14_L21_Y : Type := (Int × Int × D24 × (List (List UInt8)) × Int × (List (List UInt8)) × Unit)
abbrev f14_L21_X : Type := ((List (List UInt8)) × (List UInt8) × Int × Unit)
def f14_L21t (y : f14_L21_Y) (x : f14_L21_X) : Prop × Bool × f14_L21_X :=
 let a2 := y.1
 let a3 := y.2.1
 let a4 := y.2.2.1
 let a15 := y.2.2.2.2.2.1
 let a12 := x.1
 let a16 := x.2.1
 let a17 := x.2.2.1
 let v83 := (decide (a17 < (len a15)))
 let v87 := (a16 ++ ([32] : List UInt8))
 let v90 := (nth a15 a17 ([] : List UInt8))
 let v92 := (v87 ++ v90)
 let v94 := (a3 == 0)
 let v102 := (bif v94 then true else (decide ((f35 a4 v92 a2) ≤ a3)))
 let v106 := ([a16] : List (List UInt8))
 ((v83 = true → (((List.length a16 + List.length ([32] : List UInt8) : Nat) : Int) ≤ 9223372036854775807 ∧ (InB a17 (len a15) ∧ (((List.length v87 + List.length v90 : Nat) : Int) ≤ 9223372036854775807 ∧ (((!v94) = true → (f35_ok a4 v92 a2)) ∧ ((v102 = false → (((List.length a12 + List.length v106 : Nat) : Int) ≤ 4294967296 ∧ InB a17 (len a15))) ∧ InR (a17 + 1))))))), v83, ((bif v102 then a12 else (a12 ++ v106)), (bif v102 then v92 else (nth a15 a17 ([] : List UInt8))), (a17 + 1), ()))
def f14_L21_ok (y : f14_L21_Y) (x : f14_L21_X) : Prop := (f14_L21t y x).1
def f14_L21_g (y : f14_L21_Y) (x : f14_L21_X) : Bool := (f14_L21t y x).2.1
def f14_L21_next (y : f14_L21_Y) (x : f14_L21_X) : f14_L21_X := (f14_L21t y x).2.2
instance (y : f14_L21_Y) (x : f14_L21_X) : Decidable (f14_L21_ok y x) := by
 unfold f14_L21_ok f14_L21t
 try dsimp only
 infer_instance
def f14_L21_x6_0 (y : f14_L21_Y) (x : f14_L21_X) : (List (List UInt8)) :=
 x.1
def f14_L21_x6_1 (y : f14_L21_Y) (x : f14_L21_X) : (List UInt8) :=
 x.2.1
def f14_L21_l6 : List (Nat × Sh) := [(2, vI), (3, vI), (4, (.box T24 (.val T24))), (12, (.own .str 1012 false)), (13, (.own .str 1013 false)), (14, vI), (16, vS)]
def f14_L21_spec : St → Option Out := loopS [(2, vI), (3, vI), (4, (.box T24 (.val T24))), (13, (.own .str 1013 false)), (14, vI), (15, (.own .str 1015 false))] [(12, (.own .str 1012 false)), (16, vS), (17, vI)] f14_L21_g f14_L21_next f14_L21_ok fun y x => [ex 6 none f14_L21_l6 (y.1, y.2.1, y.2.2.1, (f14_L21_x6_0 y x), y.2.2.2.1, y.2.2.2.2.1, (f14_L21_x6_1 y x), ())]
abbrev f14_L16_Y : Type := (Int × Int × D24 × (List (List UInt8)) × Unit)
abbrev f14_L16_X : Type := ((List (List UInt8)) × Int × Unit)
def f14_L16t (y : f14_L16_Y) (x : f14_L16_X) : Prop × Bool × f14_L16_X :=
 let a13 := y.2.2.2.1
 let a14 := x.2.1
 let v69 := (decide (a14 < (len a13)))
 let v74 := (nth a13 a14 ([] : List UInt8))
 let v76 := (f34 v74 (32 : Int))
 let y21 := (y.1, y.2.1, y.2.2.1, a13, a14, v76, ())
 let x21 := (x.1, (nth v76 (0 : Int) ([] : List UInt8)), (1 : Int), ())
 let e21 := (loopEnd (f14_L21_g y21) (f14_L21_next y21) x21)
 let r21_6_0 := (f14_L21_x6_0 y21 e21)
 let v114 := ([(f14_L21_x6_1 y21 e21)] : List (List UInt8))
 ((v69 = true → (InB a14 (len a13) ∧ ((f34_ok v74 (32 : Int)) ∧ (InB (0 : Int) (len v76) ∧ ((Am.Ends (f14_L21_g y21) (f14_L21_next y21) (f14_L21_ok y21) x21) ∧ (((List.length r21_6_0 + List.length v114 : Nat) : Int) ≤ 4294967296 ∧ InR (a14 + 1))))))), v69, ((r21_6_0 ++ v114), (a14 + 1), ()))
def f14_L16_ok (y : f14_L16_Y) (x : f14_L16_X) : Prop := (f14_L16t y x).1
def f14_L16_g (y : f14_L16_Y) (x : f14_L16_X) : Bool := (f14_L16t y x).2.1
def f14_L16_next (y : f14_L16_Y) (x : f14_L16_X) : f14_L16_X := (f14_L16t y x).2.2
instance (y : f14_L16_Y) (x : f14_L16_X) : Decidable (f14_L16_ok y x) := by
 unfold f14_L16_ok f14_L16t
 try dsimp only
 infer_instance
def f14_L16_x4_0 (y : f14_L16_Y) (x : f14_L16_X) : (List (List UInt8)) :=
 x.1
def f14_L16_spec : St → Option Out := loopS [(2, vI), (3, vI), (4, (.box T24 (.val T24))), (13, (.own .str 1013 false))] [(12, (.own .str 1012 false)), (14, vI)] f14_L16_g f14_L16_next f14_L16_ok fun y x => [ex 4 none [(12, (.own .str 1012 false))] ((f14_L16_x4_0 y x), ())]
def f14t (p0 : D24) (p1 : (List UInt8)) (p2 : Int) (p3 : Int) : Prop × ((List (List UInt8)) × Int × Unit) :=
 let v20 := (f33 p0)
 let v22 := (v20 != 0)
 let y5 := (p1, p2, p3, p0, ())
 let x5 := ((0 : Int), ())
 let e5 := (loopEnd (f14_L5_g y5) (f14_L5_next y5) x5)
 let q5_1 := (f14_L5_e1 y5 e5)
 let v48 := (decide ((len p1) > 128))
 let v62 := (bif (bif (bif (decide (p2 < 1)) then true else (decide (p2 > 1048576))) then true else (decide (p3 < 0))) then true else (decide (p3 > 1048576)))
 let y16 := (p2, p3, p0, (f34 p1 (10 : Int)), ())
 let x16 := (([] : List (List UInt8)), (0 : Int), ())
 (((f33_ok p0) ∧ ((!v22) = true → ((Am.Ends (f14_L5_g y5) (f14_L5_next y5) (f14_L5_ok y5) x5) ∧ ((f14_L5_e2 y5 e5) = true → ((!v48) = true → ((!v62) = true → ((f34_ok p1 (10 : Int)) ∧ (Am.Ends (f14_L16_g y16) (f14_L16_next y16) (f14_L16_ok y16) x16)))))))), ((bif v22 then [] else (bif q5_1 then (f14_L5_x1_0 y5 e5) else (bif v48 then [] else (bif v62 then [] else (f14_L16_x4_0 y16 (loopEnd (f14_L16_g y16) (f14_L16_next y16) x16)))))), (bif v22 then v20 else (bif q5_1 then (f14_L5_x1_1 y5 e5) else (bif v48 then (3 : Int) else (bif v62 then (2 : Int) else (0 : Int))))), ()))
def f14_ok (p0 : D24) (p1 : (List UInt8)) (p2 : Int) (p3 : Int) : Prop := (f14t p0 p1 p2 p3).1
def f14 (p0 : D24) (p1 : (List UInt8)) (p2 : Int) (p3 : Int) : ((List (List UInt8)) × Int × Unit) := (f14t p0 p1 p2 p3).2
instance (p0 : D24) (p1 : (List UInt8)) (p2 : Int) (p3 : Int) : Decidable (f14_ok p0 p1 p2 p3) := by
 unfold f14_ok f14t
 try dsimp only
 infer_instance
def f14_spec : Am.Spec := fnSpec [(0, (.val T24)), (1, vS), (2, vI), (3, vI)] (.tup (.cons (.own .str 0 false) (.cons vI .nl))) [] (fun x => f14_ok x.1 x.2.1 x.2.2.1 x.2.2.2.1) (fun x => f14 x.1 x.2.1 x.2.2.1 x.2.2.2.1) (fun _ => ())
def f14_ctx : Ctx := Cx tys [(33, f33_spec), (34, f34_spec), (35, f35_spec)] [(5, f14_L5_spec), (21, f14_L21_spec), (16, f14_L16_spec)] [(27, [(4, 0, 63, 1012)]), (29, [(4, 0, 65, 1013)]), (37, [(4, 0, 76, 1015)]), (53, [(4, 0, 107, 1012)]), (57, [(4, 0, 115, 1012)]), (59, [(4, 0, 1012, 0)])] false 117 [] []
theorem f14_cok : CtxOk Tryd.prog f14_ctx := ctxOk_mk tys_ok rfl ⟨f33_is, f34_is, f35_is, trivial⟩ rfl (by kernel_rfl)
noncomputable def f14_code : Code := Tryd.f14.body.getD .skip
noncomputable def f14_L5 : Code := nthLoop f14_code 0
theorem f14_L5_is : LoopSnd Tryd.prog f14_ctx f14_L5 := lgen f14_cok mixed (sp := f14_L5_spec) rfl [f14_L5_l1, f14_L5_l2] (bs := []) (by kernel_rfl) trivial (by kernel_rfl) (by kernel_rfl) fun y x => by kernel_rfl
noncomputable def f14_L16 : Code := nthLoop f14_code 1
noncomputable def f14_L21 : Code := nthLoop f14_L16 0
theorem f14_L21_is : LoopSnd Tryd.prog f14_ctx f14_L21 := lgen f14_cok mixed (sp := f14_L21_spec) rfl [f14_L21_l6] (bs := []) (by kernel_rfl) trivial (by kernel_rfl) (by kernel_rfl) fun y x => by kernel_rfl
theorem f14_L16_is : LoopSnd Tryd.prog f14_ctx f14_L16 := lgen f14_cok mixed (sp := f14_L16_spec) rfl [[(12, (.own .str 1012 false))]] (bs := [f14_L21]) (by kernel_rfl) ⟨f14_L21_is, trivial⟩ (by kernel_rfl) (by kernel_rfl) fun y x => by kernel_rfl
theorem f14_is : SpecOk Tryd.prog 14 f14_spec := fgen f14_cok mixed Tryd.func14 (by kernel_rfl) (bs := [f14_L5, f14_L16]) (by kernel_rfl) ⟨f14_L5_is, f14_L16_is, trivial⟩ fun x => by kernel_rfl
def f58t (p0 : Int) (p1 : Int) (p2 : Int) (p3 : Int) : Prop × Int :=
 let v10 := (8 - p3)
 let v12 := (8 - p3)
 let v13 := (v10 * v12)
 let v15 := (v13 * p0)
 let v17 := (2 * p3)
 let v19 := (8 - p3)
 let v20 := (v17 * v19)
 let v22 := (v20 * p1)
 let v23 := (v15 + v22)
 let v26 := (p3 * p3)
 let v28 := (v26 * p2)
 let v29 := (v23 + v28)
 ((InR (8 - p3) ∧ (InR (8 - p3) ∧ (InR (v10 * v12) ∧ (InR (v13 * p0) ∧ (InR (2 * p3) ∧ (InR (8 - p3) ∧ (InR (v17 * v19) ∧ (InR (v20 * p1) ∧ (InR (v15 + v22) ∧ (InR (p3 * p3) ∧ (InR (v26 * p2) ∧ (InR (v23 + v28) ∧ (f18_ok v29 (64 : Int)))))))))))))), (f18 v29 (64 : Int)))
def f58_ok (p0 : Int) (p1 : Int) (p2 : Int) (p3 : Int) : Prop := (f58t p0 p1 p2 p3).1
def f58 (p0 : Int) (p1 : Int) (p2 : Int) (p3 : Int) : Int := (f58t p0 p1 p2 p3).2
instance (p0 : Int) (p1 : Int) (p2 : Int) (p3 : Int) : Decidable (f58_ok p0 p1 p2 p3) := by
 unfold f58_ok f58t
 try dsimp only
 infer_instance
def f58_spec : Am.Spec := fnSpec [(0, vI), (1, vI), (2, vI), (3, vI)] vI [] (fun x => f58_ok x.1 x.2.1 x.2.2.1 x.2.2.2.1) (fun x => f58 x.1 x.2.1 x.2.2.1 x.2.2.2.1) (fun _ => ())
def f58_ctx : Ctx := Cx tys [(18, f18_spec)] [] [] false 31 [] []
theorem f58_cok : CtxOk Tryd.prog f58_ctx := ctxOk_mk tys_ok rfl ⟨f18_is, trivial⟩ rfl (by kernel_rfl)
theorem f58_is : SpecOk Tryd.prog 58 f58_spec := fgen f58_cok mixed Tryd.func58 (by kernel_rfl) (bs := []) (by kernel_rfl) trivial fun x => by kernel_rfl
def f59t (p0 : Int) (p1 : Int) (p2 : Int) (p3 : Int) (p4 : Int) : Prop × Int :=
 let v13 := (16 - p4)
 let v16 := (v13 * v13)
 let v18 := (v16 * v13)
 let v20 := (v18 * p0)
 let v22 := (3 * p4)
 let v24 := (v22 * v13)
 let v26 := (v24 * v13)
 let v28 := (v26 * p1)
 let v29 := (v20 + v28)
 let v31 := (3 * p4)
 let v33 := (v31 * p4)
 let v35 := (v33 * v13)
 let v37 := (v35 * p2)
 let v38 := (v29 + v37)
 let v41 := (p4 * p4)
 let v43 := (v41 * p4)
 let v45 := (v43 * p3)
 let v46 := (v38 + v45)
 ((InR (16 - p4) ∧ (InR (v13 * v13) ∧ (InR (v16 * v13) ∧ (InR (v18 * p0) ∧ (InR (3 * p4) ∧ (InR (v22 * v13) ∧ (InR (v24 * v13) ∧ (InR (v26 * p1) ∧ (InR (v20 + v28) ∧ (InR (3 * p4) ∧ (InR (v31 * p4) ∧ (InR (v33 * v13) ∧ (InR (v35 * p2) ∧ (InR (v29 + v37) ∧ (InR (p4 * p4) ∧ (InR (v41 * p4) ∧ (InR (v43 * p3) ∧ (InR (v38 + v45) ∧ (f18_ok v46 (4096 : Int)))))))))))))))))))), (f18 v46 (4096 : Int)))
def f59_ok (p0 : Int) (p1 : Int) (p2 : Int) (p3 : Int) (p4 : Int) : Prop := (f59t p0 p1 p2 p3 p4).1
def f59 (p0 : Int) (p1 : Int) (p2 : Int) (p3 : Int) (p4 : Int) : Int := (f59t p0 p1 p2 p3 p4).2
instance (p0 : Int) (p1 : Int) (p2 : Int) (p3 : Int) (p4 : Int) : Decidable (f59_ok p0 p1 p2 p3 p4) := by
 unfold f59_ok f59t
 try dsimp only
 infer_instance
def f59_spec : Am.Spec := fnSpec [(0, vI), (1, vI), (2, vI), (3, vI), (4, vI)] vI [] (fun x => f59_ok x.1 x.2.1 x.2.2.1 x.2.2.2.1 x.2.2.2.2.1) (fun x => f59 x.1 x.2.1 x.2.2.1 x.2.2.2.1 x.2.2.2.2.1) (fun _ => ())
def f59_ctx : Ctx := Cx tys [(18, f18_spec)] [] [] false 48 [] []
theorem f59_cok : CtxOk Tryd.prog f59_ctx := ctxOk_mk tys_ok rfl ⟨f18_is, trivial⟩ rfl (by kernel_rfl)
theorem f59_is : SpecOk Tryd.prog 59 f59_spec := fgen f59_cok mixed Tryd.func59 (by kernel_rfl) (bs := []) (by kernel_rfl) trivial fun x => by kernel_rfl
def f57_v1t (p0 : (List D50)) (p1 : D50) : Prop × (List D50) :=
 let v7 := (decide ((len p0) > 0))
 let v11 := (len p0)
 let v12 := (v11 - 1)
 let v17 := (bif v7 then (Ty.eqb T50 (nth p0 v12 Z50) p1) else false)
 let v21 := ([p1] : List D50)
 (((v7 = true → InR (v11 - 1)) ∧ ((v7 = true → InB v12 (len p0)) ∧ ((v7 = true → v12 < len p0) ∧ ((!v17) = true → ((List.length p0 + List.length v21 : Nat) : Int) ≤ 4294967296)))), (bif v17 then p0 else (p0 ++ v21)))
def f57_v1_ok (p0 : (List D50)) (p1 : D50) : Prop := (f57_v1t p0 p1).1
def f57_v1 (p0 : (List D50)) (p1 : D50) : (List D50) := (f57_v1t p0 p1).2
instance (p0 : (List D50)) (p1 : D50) : Decidable (f57_v1_ok p0 p1) := by
 unfold f57_v1_ok f57_v1t
 try dsimp only
 infer_instance
def f57_v1_spec : Am.Spec := fnSpec [(0, (.own T50 400000 true)), (1, (.val T50))] (.own T50 0 true) [] (fun x => f57_v1_ok x.1 x.2.1) (fun x => f57_v1 x.1 x.2.1) (fun _ => ())
def f57_v1_ctx : Ctx := Cx tys [] [] [(5, [(4, 0, 400000, 0)]), (7, [(4, 0, 22, 0)])] false 23 [] [22]
theorem f57_v1_cok : CtxOk Tryd.prog f57_v1_ctx := ctxOk_mk tys_ok rfl trivial rfl (by kernel_rfl)
theorem f57_v1_is : SpecOk Tryd.prog 57 f57_v1_spec := fgen f57_v1_cok mixed Tryd.func57 (by kernel_rfl) (bs := []) (by kernel_rfl) trivial fun x => by kernel_rfl
abbrev f39_v1_L7_Y : Type := (D50 × D74 × Unit)
abbrev f39_v1_L7_X : Type := ((List D50) × Int × Unit)
def f39_v1_L7t (y : f39_v1_L7_Y) (x : f39_v1_L7_X) : Prop × Bool × f39_v1_L7_X :=
 let a4 := y.1
 let a5 := y.2.1
 let a0 := x.1
 let a7 := x.2.1
 let v22 := (decide (a7 ≤ 8))
 let v31 := (nth a5.2.1 (0 : Int) Z50).1
 let v35 := (nth a5.2.1 (1 : Int) Z50).1
 let v43 := (nth a5.2.1 (0 : Int) Z50).2.1
 let v47 := (nth a5.2.1 (1 : Int) Z50).2.1
 let s := ((f58 a4.1 v31 v35 a7), (f58 a4.2.1 v43 v47 a7), ())
 ((v22 = true → (InB (0 : Int) 3 ∧ (InB (1 : Int) 3 ∧ ((f58_ok a4.1 v31 v35 a7) ∧ (InB (0 : Int) 3 ∧ (InB (1 : Int) 3 ∧ ((f58_ok a4.2.1 v43 v47 a7) ∧ ((f57_v1_ok a0 s) ∧ InR (a7 + 1))))))))), v22, ((f57_v1 a0 s), (a7 + 1), ()))
def f39_v1_L7_ok (y : f39_v1_L7_Y) (x : f39_v1_L7_X) : Prop := (f39_v1_L7t y x).1
def f39_v1_L7_g (y : f39_v1_L7_Y) (x : f39_v1_L7_X) : Bool := (f39_v1_L7t y x).2.1
def f39_v1_L7_next (y : f39_v1_L7_Y) (x : f39_v1_L7_X) : f39_v1_L7_X := (f39_v1_L7t y x).2.2
instance (y : f39_v1_L7_Y) (x : f39_v1_L7_X) : Decidable (f39_v1_L7_ok y x) := by
 unfold f39_v1_L7_ok f39_v1_L7t
 try dsimp only
 infer_instance
def f39_v1_L7_x3_0 (y : f39_v1_L7_Y) (x : f39_v1_L7_X) : (List D50) :=
 x.1
def f39_v1_L7_spec : St → Option Out := loopS [(4, (.box T50 (.val T50))), (5, (.box T74 (.val T74)))] [(0, (.own T50 400000 true)), (7, vI)] f39_v1_L7_g f39_v1_L7_next f39_v1_L7_ok fun y x => [ex 3 none [(0, (.own T50 400000 true))] ((f39_v1_L7_x3_0 y x), ())]
abbrev f39_v1_L12_Y : Type := (D50 × D74 × Unit)
abbrev f39_v1_L12_X : Type := ((List D50) × Int × Unit)
def f39_v1_L12t (y : f39_v1_L12_Y) (x : f39_v1_L12_X) : Prop × Bool × f39_v1_L12_X :=
 let a4 := y.1
 let a5 := y.2.1
 let a0 := x.1
 let a8 := x.2.1
 let v55 := (decide (a8 ≤ 16))
 let v64 := (nth a5.2.1 (0 : Int) Z50).1
 let v68 := (nth a5.2.1 (1 : Int) Z50).1
 let v72 := (nth a5.2.1 (2 : Int) Z50).1
 let v80 := (nth a5.2.1 (0 : Int) Z50).2.1
 let v84 := (nth a5.2.1 (1 : Int) Z50).2.1
 let v88 := (nth a5.2.1 (2 : Int) Z50).2.1
 let s := ((f59 a4.1 v64 v68 v72 a8), (f59 a4.2.1 v80 v84 v88 a8), ())
 ((v55 = true → (InB (0 : Int) 3 ∧ (InB (1 : Int) 3 ∧ (InB (2 : Int) 3 ∧ ((f59_ok a4.1 v64 v68 v72 a8) ∧ (InB (0 : Int) 3 ∧ (InB (1 : Int) 3 ∧ (InB (2 : Int) 3 ∧ ((f59_ok a4.2.1 v80 v84 v88 a8) ∧ ((f57_v1_ok a0 s) ∧ InR (a8 + 1))))))))))), v55, ((f57_v1 a0 s), (a8 + 1), ()))
def f39_v1_L12_ok (y : f39_v1_L12_Y) (x : f39_v1_L12_X) : Prop := (f39_v1_L12t y x).1
def f39_v1_L12_g (y : f39_v1_L12_Y) (x : f39_v1_L12_X) : Bool := (f39_v1_L12t y x).2.1
def f39_v1_L12_next (y : f39_v1_L12_Y) (x : f39_v1_L12_X) : f39_v1_L12_X := (f39_v1_L12t y x).2.2
instance (y : f39_v1_L12_Y) (x : f39_v1_L12_X) : Decidable (f39_v1_L12_ok y x) := by
 unfold f39_v1_L12_ok f39_v1_L12t
 try dsimp only
 infer_instance
def f39_v1_L12_x5_0 (y : f39_v1_L12_Y) (x : f39_v1_L12_X) : (List D50) :=
 x.1
def f39_v1_L12_spec : St → Option Out := loopS [(4, (.box T50 (.val T50))), (5, (.box T74 (.val T74)))] [(0, (.own T50 400000 true)), (8, vI)] f39_v1_L12_g f39_v1_L12_next f39_v1_L12_ok fun y x => [ex 5 none [(0, (.own T50 400000 true))] ((f39_v1_L12_x5_0 y x), ())]
def f39_v1t (p0 : (List D50)) (p1 : D50) (p2 : D74) : Prop × (List D50) :=
 let v12 := (p2.1 == 1)
 let m11 := (bif v12 then v12 else (p2.1 == 2))
 let v17 := (nth p2.2.1 (0 : Int) Z50)
 let v20 := (p2.1 == 3)
 let y7 := (p1, p2, ())
 let x7 := (p0, (1 : Int), ())
 let v53 := (p2.1 == 4)
 let y12 := (p1, p2, ())
 let x12 := (p0, (1 : Int), ())
 let m0_2 := (bif m11 then (f57_v1 p0 v17) else (bif v20 then (f39_v1_L7_x3_0 y7 (loopEnd (f39_v1_L7_g y7) (f39_v1_L7_next y7) x7)) else (bif v53 then (f39_v1_L12_x5_0 y12 (loopEnd (f39_v1_L12_g y12) (f39_v1_L12_next y12) x12)) else p0)))
 (((m11 = true → (InB (0 : Int) 3 ∧ (f57_v1_ok p0 v17))) ∧ (m11 = false → ((v20 = true → (Am.Ends (f39_v1_L7_g y7) (f39_v1_L7_next y7) (f39_v1_L7_ok y7) x7)) ∧ (v20 = false → (v53 = true → (Am.Ends (f39_v1_L12_g y12) (f39_v1_L12_next y12) (f39_v1_L12_ok y12) x12)))))), m0_2)
def f39_v1_ok (p0 : (List D50)) (p1 : D50) (p2 : D74) : Prop := (f39_v1t p0 p1 p2).1
def f39_v1 (p0 : (List D50)) (p1 : D50) (p2 : D74) : (List D50) := (f39_v1t p0 p1 p2).2
instance (p0 : (List D50)) (p1 : D50) (p2 : D74) : Decidable (f39_v1_ok p0 p1 p2) := by
 unfold f39_v1_ok f39_v1t
 try dsimp only
 infer_instance
def f39_v1_spec : Am.Spec := fnSpec [(0, (.own T50 400000 true)), (1, (.val T50)), (2, (.val T74))] (.own T50 0 true) [] (fun x => f39_v1_ok x.1 x.2.1 x.2.2.1) (fun x => f39_v1 x.1 x.2.1 x.2.2.1) (fun _ => ())
def f39_v1_ctx : Ctx := { Cx tys [(57, f57_v1_spec), (58, f58_spec), (59, f59_spec)] [(7, f39_v1_L7_spec), (12, f39_v1_L12_spec)] [(9, [(4, 0, 18, 400000)]), (19, [(4, 0, 51, 400000)]), (29, [(4, 0, 92, 400000)]), (31, [(4, 0, 400000, 0)])] false 94 [] [] with wants := [(57, [0])] }
theorem f39_v1_cok : CtxOk Tryd.prog f39_v1_ctx := ctxOk_mk tys_ok rfl ⟨f57_v1_is, f58_is, f59_is, trivial⟩ rfl (by kernel_rfl)
noncomputable def f39_v1_code : Code := Tryd.f39.body.getD .skip
noncomputable def f39_v1_L7 : Code := nthLoop f39_v1_code 0
theorem f39_v1_L7_is : LoopSnd Tryd.prog f39_v1_ctx f39_v1_L7 := lgen f39_v1_cok mixed (sp := f39_v1_L7_spec) rfl [[(0, (.own T50 400000 true))]] (bs := []) (by kernel_rfl) trivial (by kernel_rfl) (by kernel_rfl) fun y x => by kernel_rfl
noncomputable def f39_v1_L12 : Code := nthLoop f39_v1_code 1
theorem f39_v1_L12_is : LoopSnd Tryd.prog f39_v1_ctx f39_v1_L12 := lgen f39_v1_cok mixed (sp := f39_v1_L12_spec) rfl [[(0, (.own T50 400000 true))]] (bs := []) (by kernel_rfl) trivial (by kernel_rfl) (by kernel_rfl) fun y x => by kernel_rfl
theorem f39_v1_is : SpecOk Tryd.prog 39 f39_v1_spec := fgen f39_v1_cok mixed Tryd.func39 (by kernel_rfl) (bs := [f39_v1_L7, f39_v1_L12]) (by kernel_rfl) ⟨f39_v1_L7_is, f39_v1_L12_is, trivial⟩ fun x => by kernel_rfl
abbrev f17_L7_Y : Type := ((List D74) × Unit)
abbrev f17_L7_X : Type := (((List (List D50)) × Nat) × D50 × Int × Unit)
def f17_L7t (y : f17_L7_Y) (x : f17_L7_X) : Prop × Bool × f17_L7_X :=
 let a0 := y.1
 let a5 := x.1
 let a6 := x.2.1
 let a7 := x.2.2.1
 let v19 := (decide (a7 < (len a0)))
 let v27 := ((nth a0 a7 Z74).1 == 1)
 let m5 := (bif v27 then (a5.1 ++ [[]]) else a5.1)
 let m5_1 := (bif v27 then (List.length a5.1) else a5.2)
 let v33 := (len m5)
 let v34 := (v33 - 1)
 let v37 := (len m5)
 let v38 := (v37 - 1)
 let v40 := (List.getD m5 m5_1 [])
 let v44 := (nth a0 a7 Z74)
 let v50 := (nth a0 a7 Z74)
 let v53 := (f40 v50.1)
 let v55 := (decide (v53 > 0))
 let v59 := (v53 - 1)
 ((v19 = true → (InB a7 (len a0) ∧ ((v27 = true → ((List.length a5.1 + 1 : Nat) : Int) ≤ 4294967296) ∧ (InR (v33 - 1) ∧ (InR (v37 - 1) ∧ (InB v38 (len m5) ∧ ((Int.toNat v38 = m5_1 ∧ v38 < len m5) ∧ (InB a7 (len a0) ∧ ((f39_v1_ok v40 a6 v44) ∧ (InB v34 (len m5) ∧ ((Int.toNat v34 = m5_1 ∧ v34 < len m5) ∧ ((Int.toNat v34 = m5_1 ∧ v34 < len m5) ∧ (InB a7 (len a0) ∧ ((f40_ok v50.1) ∧ ((v55 = true → (InR (v53 - 1) ∧ (InB a7 (len a0) ∧ InB v59 3))) ∧ InR (a7 + 1)))))))))))))))), v19, (((List.set m5 (Int.toNat v34) (f39_v1 v40 a6 v44)), (Int.toNat v34)), (bif v55 then (nth (nth a0 a7 Z74).2.1 v59 Z50) else a6), (a7 + 1), ()))
def f17_L7_ok (y : f17_L7_Y) (x : f17_L7_X) : Prop := (f17_L7t y x).1
def f17_L7_g (y : f17_L7_Y) (x : f17_L7_X) : Bool := (f17_L7t y x).2.1
def f17_L7_next (y : f17_L7_Y) (x : f17_L7_X) : f17_L7_X := (f17_L7t y x).2.2
instance (y : f17_L7_Y) (x : f17_L7_X) : Decidable (f17_L7_ok y x) := by
 unfold f17_L7_ok f17_L7t
 try dsimp only
 infer_instance
def f17_L7_x2_0 (y : f17_L7_Y) (x : f17_L7_X) : ((List (List D50)) × Nat) :=
 let a5 := x.1
 (a5.1, a5.2)
def f17_L7_l2 : List (Nat × Sh) := [(5, (.ownh T50 1005 9000005 true))]
def f17_L7_spec : St → Option Out := loopS [(0, (.val (.sl T74)))] [(5, (.ownh T50 1005 9000005 true)), (6, (.box T50 (.val T50))), (7, vI)] f17_L7_g f17_L7_next f17_L7_ok fun y x => [ex 2 none f17_L7_l2 ((f17_L7_x2_0 y x), ())]
def f17t (p0 : (List D74)) : Prop × ((List (List D50)) × Int × Unit) :=
 let v10 := (f38 p0)
 let v12 := (v10 != 0)
 let y7 := (p0, ())
 let x7 := ((([] : List (List D50)), (List.length ([] : List (List D50)))), ((0 : Int), (0 : Int), ()), (0 : Int), ())
 (((f38_ok p0) ∧ ((!v12) = true → (Am.Ends (f17_L7_g y7) (f17_L7_next y7) (f17_L7_ok y7) x7))), ((bif v12 then [] else (f17_L7_x2_0 y7 (loopEnd (f17_L7_g y7) (f17_L7_next y7) x7)).1), (bif v12 then v10 else (0 : Int)), ()))
def f17_ok (p0 : (List D74)) : Prop := (f17t p0).1
def f17 (p0 : (List D74)) : ((List (List D50)) × Int × Unit) := (f17t p0).2
instance (p0 : (List D74)) : Decidable (f17_ok p0) := by
 unfold f17_ok f17t
 try dsimp only
 infer_instance
def f17_spec : Am.Spec := fnSpec [(0, (.val (.sl T74)))] (.tup (.cons (.val (.sl (.sl T50))) (.cons vI .nl))) [] (fun x => f17_ok x.1) (fun x => f17 x.1) (fun _ => ())
def f17_ctx : Ctx := { Cx tys [(38, f38_spec), (39, f39_v1_spec), (40, f40_spec)] [(7, f17_L7_spec)] [(9, [(4, 0, 14, 1005)]), (20, [(1, 5, 0, 0)]), (21, [(4, 0, 30, 1005), (4, 0, 100029, 9000005)]), (23, [(4, 0, 46, 9000005)]), (31, [(1, 2, 0, 0), (1, 2, 0, 0), (4, 0, 1005, 0)])] false 65 [] [5, 14, 29, 30] with wants := [(39, [0])] }
theorem f17_cok : CtxOk Tryd.prog f17_ctx := ctxOk_mk tys_ok rfl ⟨f38_is, f39_v1_is, f40_is, trivial⟩ rfl (by kernel_rfl)
noncomputable def f17_code : Code := Tryd.f17.body.getD .skip
noncomputable def f17_L7 : Code := nthLoop f17_code 0
theorem f17_L7_is : LoopSnd Tryd.prog f17_ctx f17_L7 := lgen f17_cok mixed (sp := f17_L7_spec) rfl [f17_L7_l2] (bs := []) (by kernel_rfl) trivial (by kernel_rfl) (by kernel_rfl) fun y x => by kernel_rfl
theorem f17_is : SpecOk Tryd.prog 17 f17_spec := fgen f17_cok mixed Tryd.func17 (by kernel_rfl) (bs := [f17_L7]) (by kernel_rfl) ⟨f17_L7_is, trivial⟩ fun x => by kernel_rfl
abbrev f19_L3_Y : Type := ((List (List D50)) × Unit)
abbrev f19_L3_X : Type := (Int × Int × Unit)
def f19_L3t (y : f19_L3_Y) (x : f19_L3_X) : Prop × Bool × f19_L3_X :=
 let a0 := y.1
 let a3 := x.1
 let a4 := x.2.1
 let v8 := (decide (a4 < (len a0)))
 let v16 := (len (nth a0 a4 ([] : List D50)))
 ((v8 = true → (InB a4 (len a0) ∧ (InR (a3 + v16) ∧ InR (a4 + 1)))), v8, ((a3 + v16), (a4 + 1), ()))
def f19_L3_ok (y : f19_L3_Y) (x : f19_L3_X) : Prop := (f19_L3t y x).1
def f19_L3_g (y : f19_L3_Y) (x : f19_L3_X) : Bool := (f19_L3t y x).2.1
def f19_L3_next (y : f19_L3_Y) (x : f19_L3_X) : f19_L3_X := (f19_L3t y x).2.2
instance (y : f19_L3_Y) (x : f19_L3_X) : Decidable (f19_L3_ok y x) := by
 unfold f19_L3_ok f19_L3t
 try dsimp only
 infer_instance
def f19_L3_x2_0 (y : f19_L3_Y) (x : f19_L3_X) : Int :=
 x.1
def f19_L3_spec : St → Option Out := loopS [(0, (.val (.sl (.sl T50))))] [(3, vI), (4, vI)] f19_L3_g f19_L3_next f19_L3_ok fun y x => [ex 2 none [(3, vI)] ((f19_L3_x2_0 y x), ())]
def f19t (p0 : (List (List D50))) : Prop × Int :=
 let y3 := (p0, ())
 let x3 := ((0 : Int), (0 : Int), ())
 ((Am.Ends (f19_L3_g y3) (f19_L3_next y3) (f19_L3_ok y3) x3), (f19_L3_x2_0 y3 (loopEnd (f19_L3_g y3) (f19_L3_next y3) x3)))
def f19_ok (p0 : (List (List D50))) : Prop := (f19t p0).1
def f19 (p0 : (List (List D50))) : Int := (f19t p0).2
instance (p0 : (List (List D50))) : Decidable (f19_ok p0) := by
 unfold f19_ok f19t
 try dsimp only
 infer_instance
def f19_spec : Am.Spec := fnSpec [(0, (.val (.sl (.sl T50))))] vI [] (fun x => f19_ok x.1) (fun x => f19 x.1) (fun _ => ())
def f19_ctx : Ctx := Cx tys [] [(3, f19_L3_spec)] [] false 19 [] []
theorem f19_cok : CtxOk Tryd.prog f19_ctx := ctxOk_mk tys_ok rfl trivial rfl (by kernel_rfl)
noncomputable def f19_code : Code := Tryd.f19.body.getD .skip
noncomputable def f19_L3 : Code := nthLoop f19_code 0
theorem f19_L3_is : LoopSnd Tryd.prog f19_ctx f19_L3 := lgen f19_cok mixed (sp := f19_L3_spec) rfl [[(3, vI)]] (bs := []) (by kernel_rfl) trivial (by kernel_rfl) (by kernel_rfl) fun y x => by kernel_rfl
theorem f19_is : SpecOk Tryd.prog 19 f19_spec := fgen f19_cok mixed Tryd.func19 (by kernel_rfl) (bs := [f19_L3]) (by kernel_rfl) ⟨f19_L3_is, trivial⟩ fun x => by kernel_rfl
abbrev f5_L19_Y : Type := (Int × D24 × (List (List UInt8)) × (List (List D50)) × Int × (List Int) × (List Int) × Int × (List (List D50)) × Int × Unit)
abbrev f5_L19_X : Type := ((List D50) × Int × Unit)
def f5_L19t (y : f5_L19_Y) (x : f5_L19_X) : Prop × Bool × f5_L19_X :=
 let a2 := y.1
 let a4 := y.2.1
 let a13 := y.2.2.2.2.1
 let a15 := y.2.2.2.2.2.2.1
 let a16 := y.2.2.2.2.2.2.2.1
 let a17 := y.2.2.2.2.2.2.2.2.1
 let a19 := y.2.2.2.2.2.2.2.2.2.1
 let a20 := x.1
 let a21 := x.2.1
 let v82 := (decide (a21 < (len (nth a17 a19 ([] : List D50)))))
 let v87 := (nth a17 a19 ([] : List D50))
 let v90 := (nth v87 a21 Z50)
 let v95 := (nth a15 a16 (0 : Int))
 let v99 := (v95 + v90.1)
 let v101 := (v99 * a2)
 let v110 := (a13 * a4.2.2.1)
 let v111 := (a4.2.1 + v110)
 let v114 := (v111 - v90.2.1)
 let v116 := (v114 * a2)
 let v121 := ([((f18 v101 a4.1), (f18 v116 a4.1), ())] : List D50)
 ((InB a19 (len a17) ∧ (v82 = true → (InB a19 (len a17) ∧ (InB a21 (len v87) ∧ (InB a16 (len a15) ∧ (InR (v95 + v90.1) ∧ (InR (v99 * a2) ∧ ((f18_ok v101 a4.1) ∧ (InR (a13 * a4.2.2.1) ∧ (InR (a4.2.1 + v110) ∧ (InR (v111 - v90.2.1) ∧ (InR (v114 * a2) ∧ ((f18_ok v116 a4.1) ∧ (((List.length a20 + List.length v121 : Nat) : Int) ≤ 4294967296 ∧ InR (a21 + 1))))))))))))))), v82, ((a20 ++ v121), (a21 + 1), ()))
def f5_L19_ok (y : f5_L19_Y) (x : f5_L19_X) : Prop := (f5_L19t y x).1
def f5_L19_g (y : f5_L19_Y) (x : f5_L19_X) : Bool := (f5_L19t y x).2.1
def f5_L19_next (y : f5_L19_Y) (x : f5_L19_X) : f5_L19_X := (f5_L19t y x).2.2
instance (y : f5_L19_Y) (x : f5_L19_X) : Decidable (f5_L19_ok y x) := by
 unfold f5_L19_ok f5_L19t
 try dsimp only
 infer_instance
def f5_L19_x8_0 (y : f5_L19_Y) (x : f5_L19_X) : (List D50) :=
 x.1
def f5_L19_l8 : List (Nat × Sh) := [(2, vI), (4, (.box T24 (.val T24))), (10, (.own .str 1010 false)), (12, (.own (.sl T50) 1012 false)), (13, vI), (14, (.own (.int .i64) 1014 false)), (15, (.own (.int .i64) 1015 false)), (16, vI), (17, (.val (.sl (.sl T50)))), (19, vI), (20, (.own T50 1020 false))]
def f5_L19_spec : St → Option Out := loopS [(2, vI), (4, (.box T24 (.val T24))), (10, (.own .str 1010 false)), (12, (.own (.sl T50) 1012 false)), (13, vI), (14, (.own (.int .i64) 1014 false)), (15, (.own (.int .i64) 1015 false)), (16, vI), (17, (.val (.sl (.sl T50)))), (19, vI)] [(20, (.own T50 1020 false)), (21, vI)] f5_L19_g f5_L19_next f5_L19_ok fun y x => [ex 8 none f5_L19_l8 (y.1, y.2.1, y.2.2.1, y.2.2.2.1, y.2.2.2.2.1, y.2.2.2.2.2.1, y.2.2.2.2.2.2.1, y.2.2.2.2.2.2.2.1, y.2.2.2.2.2.2.2.2.1, y.2.2.2.2.2.2.2.2.2.1, (f5_L19_x8_0 y x), ())]
abbrev f5_L15_Y : Type := (Int × D24 × (List (List UInt8)) × Int × (List Int) × (List Int) × Int × (List (List D50)) × Unit)
abbrev f5_L15_X : Type := ((List (List D50)) × Int × Unit)
def f5_L15t (y : f5_L15_Y) (x : f5_L15_X) : Prop × Bool × f5_L15_X :=
 let a17 := y.2.2.2.2.2.2.2.1
 let a12 := x.1
 let a19 := x.2.1
 let v72 := (decide (a19 < (len a17)))
 let y19 := (y.1, y.2.1, y.2.2.1, a12, y.2.2.2.1, y.2.2.2.2.1, y.2.2.2.2.2.1, y.2.2.2.2.2.2.1, a17, a19, ())
 let x19 := (([] : List D50), (0 : Int), ())
 let v125 := ([(f5_L19_x8_0 y19 (loopEnd (f5_L19_g y19) (f5_L19_next y19) x19))] : List (List D50))
 ((v72 = true → ((Am.Ends (f5_L19_g y19) (f5_L19_next y19) (f5_L19_ok y19) x19) ∧ (((List.length a12 + List.length v125 : Nat) : Int) ≤ 4294967296 ∧ InR (a19 + 1)))), v72, ((a12 ++ v125), (a19 + 1), ()))
def f5_L15_ok (y : f5_L15_Y) (x : f5_L15_X) : Prop := (f5_L15t y x).1
def f5_L15_g (y : f5_L15_Y) (x : f5_L15_X) : Bool := (f5_L15t y x).2.1
def f5_L15_next (y : f5_L15_Y) (x : f5_L15_X) : f5_L15_X := (f5_L15t y x).2.2
instance (y : f5_L15_Y) (x : f5_L15_X) : Decidable (f5_L15_ok y x) := by
 unfold f5_L15_ok f5_L15t
 try dsimp only
 infer_instance
def f5_L15_x6_0 (y : f5_L15_Y) (x : f5_L15_X) : (List (List D50)) :=
 x.1
def f5_L15_l6 : List (Nat × Sh) := [(2, vI), (4, (.box T24 (.val T24))), (10, (.own .str 1010 false)), (12, (.own (.sl T50) 1012 false)), (13, vI), (14, (.own (.int .i64) 1014 false)), (15, (.own (.int .i64) 1015 false)), (16, vI)]
def f5_L15_spec : St → Option Out := loopS [(2, vI), (4, (.box T24 (.val T24))), (10, (.own .str 1010 false)), (13, vI), (14, (.own (.int .i64) 1014 false)), (15, (.own (.int .i64) 1015 false)), (16, vI), (17, (.val (.sl (.sl T50))))] [(12, (.own (.sl T50) 1012 false)), (19, vI)] f5_L15_g f5_L15_next f5_L15_ok fun y x => [ex 6 none f5_L15_l6 (y.1, y.2.1, y.2.2.1, (f5_L15_x6_0 y x), y.2.2.2.1, y.2.2.2.2.1, y.2.2.2.2.2.1, y.2.2.2.2.2.2.1, ())]
abbrev f5_L11_Y : Type := (Int × D24 × (List (List UInt8)) × Int × (List Int) × (List Int) × Unit)
abbrev f5_L11_X : Type := ((List (List D50)) × Int × Unit)
def f5_L11t (y : f5_L11_Y) (x : f5_L11_X) : Prop × Bool × f5_L11_X :=
 let a4 := y.2.1
 let a14 := y.2.2.2.2.1
 let a16 := x.2.1
 let v53 := (decide (a16 < (len a14)))
 let v61 := (nth a14 a16 (0 : Int))
 let v63 := (nth a4.2.2.2.1 v61 Z47)
 let y15 := (y.1, a4, y.2.2.1, y.2.2.2.1, a14, y.2.2.2.2.2.1, a16, (f17 v63.2.2.1).1, ())
 let x15 := (x.1, (0 : Int), ())
 ((v53 = true → (InB a16 (len a14) ∧ (InB v61 (len a4.2.2.2.1) ∧ ((f17_ok v63.2.2.1) ∧ ((Am.Ends (f5_L15_g y15) (f5_L15_next y15) (f5_L15_ok y15) x15) ∧ InR (a16 + 1)))))), v53, ((f5_L15_x6_0 y15 (loopEnd (f5_L15_g y15) (f5_L15_next y15) x15)), (a16 + 1), ()))
def f5_L11_ok (y : f5_L11_Y) (x : f5_L11_X) : Prop := (f5_L11t y x).1
def f5_L11_g (y : f5_L11_Y) (x : f5_L11_X) : Bool := (f5_L11t y x).2.1
def f5_L11_next (y : f5_L11_Y) (x : f5_L11_X) : f5_L11_X := (f5_L11t y x).2.2
instance (y : f5_L11_Y) (x : f5_L11_X) : Decidable (f5_L11_ok y x) := by
 unfold f5_L11_ok f5_L11t
 try dsimp only
 infer_instance
def f5_L11_x4_0 (y : f5_L11_Y) (x : f5_L11_X) : (List (List D50)) :=
 x.1
def f5_L11_l4 : List (Nat × Sh) := [(2, vI), (4, (.box T24 (.val T24))), (10, (.own .str 1010 false)), (12, (.own (.sl T50) 1012 false)), (13, vI)]
def f5_L11_spec : St → Option Out := loopS [(2, vI), (4, (.box T24 (.val T24))), (10, (.own .str 1010 false)), (13, vI), (14, (.own (.int .i64) 1014 false)), (15, (.own (.int .i64) 1015 false))] [(12, (.own (.sl T50) 1012 false)), (16, vI)] f5_L11_g f5_L11_next f5_L11_ok fun y x => [ex 4 none f5_L11_l4 (y.1, y.2.1, y.2.2.1, (f5_L11_x4_0 y x), y.2.2.2.1, ())]
abbrev f5_L6_Y : Type := (Int × D24 × (List (List UInt8)) × Unit)
abbrev f5_L6_X : Type := ((List (List D50)) × Int × Unit)
def f5_L6t (y : f5_L6_Y) (x : f5_L6_X) : Prop × Bool × f5_L6_X :=
 let a4 := y.2.1
 let a10 := y.2.2.1
 let a13 := x.2.1
 let v38 := (decide (a13 < (len a10)))
 let v44 := (nth a10 a13 ([] : List UInt8))
 let v46 := (f15 a4 v44)
 let y11 := (y.1, a4, a10, a13, v46, (f16 a4 v46), ())
 let x11 := (x.1, (0 : Int), ())
 ((v38 = true → (InB a13 (len a10) ∧ ((f15_ok a4 v44) ∧ ((f16_ok a4 v46) ∧ ((Am.Ends (f5_L11_g y11) (f5_L11_next y11) (f5_L11_ok y11) x11) ∧ InR (a13 + 1)))))), v38, ((f5_L11_x4_0 y11 (loopEnd (f5_L11_g y11) (f5_L11_next y11) x11)), (a13 + 1), ()))
def f5_L6_ok (y : f5_L6_Y) (x : f5_L6_X) : Prop := (f5_L6t y x).1
def f5_L6_g (y : f5_L6_Y) (x : f5_L6_X) : Bool := (f5_L6t y x).2.1
def f5_L6_next (y : f5_L6_Y) (x : f5_L6_X) : f5_L6_X := (f5_L6t y x).2.2
instance (y : f5_L6_Y) (x : f5_L6_X) : Decidable (f5_L6_ok y x) := by
 unfold f5_L6_ok f5_L6t
 try dsimp only
 infer_instance
def f5_L6_x2_0 (y : f5_L6_Y) (x : f5_L6_X) : (List (List D50)) :=
 x.1
def f5_L6_l2 : List (Nat × Sh) := [(12, (.own (.sl T50) 1012 false))]
def f5_L6_spec : St → Option Out := loopS [(2, vI), (4, (.box T24 (.val T24))), (10, (.own .str 1010 false))] [(12, (.own (.sl T50) 1012 false)), (13, vI)] f5_L6_g f5_L6_next f5_L6_ok fun y x => [ex 2 none f5_L6_l2 ((f5_L6_x2_0 y x), ())]
def f5t (p0 : D24) (p1 : (List UInt8)) (p2 : Int) (p3 : Int) : Prop × ((List (List D50)) × Int × Unit) :=
 let v28 := (f14 p0 p1 p2 p3)
 let v32 := (v28.2.1 != 0)
 let y6 := (p2, p0, v28.1, ())
 let x6 := (([] : List (List D50)), (0 : Int), ())
 let r6_2_0 := (f5_L6_x2_0 y6 (loopEnd (f5_L6_g y6) (f5_L6_next y6) x6))
 let v129 := (decide ((f19 r6_2_0) > 4096))
 (((f14_ok p0 p1 p2 p3) ∧ ((!v32) = true → ((Am.Ends (f5_L6_g y6) (f5_L6_next y6) (f5_L6_ok y6) x6) ∧ (f19_ok r6_2_0)))), ((bif v32 then [] else (bif v129 then [] else r6_2_0)), (bif v32 then v28.2.1 else (bif v129 then (3 : Int) else (0 : Int))), ()))
def f5_ok (p0 : D24) (p1 : (List UInt8)) (p2 : Int) (p3 : Int) : Prop := (f5t p0 p1 p2 p3).1
def f5 (p0 : D24) (p1 : (List UInt8)) (p2 : Int) (p3 : Int) : ((List (List D50)) × Int × Unit) := (f5t p0 p1 p2 p3).2
instance (p0 : D24) (p1 : (List UInt8)) (p2 : Int) (p3 : Int) : Decidable (f5_ok p0 p1 p2 p3) := by
 unfold f5_ok f5t
 try dsimp only
 infer_instance
def f5_spec : Am.Spec := fnSpec [(0, (.val T24)), (1, vS), (2, vI), (3, vI)] (.tup (.cons (.own (.sl T50) 0 false) (.cons vI .nl))) [] (fun x => f5_ok x.1 x.2.1 x.2.2.1 x.2.2.2.1) (fun x => f5 x.1 x.2.1 x.2.2.1 x.2.2.2.1) (fun _ => ())
def f5_ctx : Ctx := Cx tys [(14, f14_spec), (15, f15_spec), (16, f16_spec), (17, f17_spec), (18, f18_spec), (19, f19_spec)] [(19, f5_L19_spec), (15, f5_L15_spec), (11, f5_L11_spec), (6, f5_L6_spec)] [(3, [(4, 0, 28, 1010)]), (9, [(4, 0, 34, 1012)]), (17, [(4, 0, 46, 1014)]), (19, [(4, 0, 49, 1015)]), (35, [(4, 0, 75, 1020)]), (45, [(4, 0, 122, 1020)]), (47, [(4, 0, 126, 1012)]), (53, [(4, 0, 1012, 0)])] false 131 [] []
theorem f5_cok : CtxOk Tryd.prog f5_ctx := ctxOk_mk tys_ok rfl ⟨f14_is, f15_is, f16_is, f17_is, f18_is, f19_is, trivial⟩ rfl (by kernel_rfl)
noncomputable def f5_code : Code := Tryd.f5.body.getD .skip
noncomputable def f5_L6 : Code := nthLoop f5_code 0
noncomputable def f5_L11 : Code := nthLoop f5_L6 0
noncomputable def f5_L15 : Code := nthLoop f5_L11 0
noncomputable def f5_L19 : Code := nthLoop f5_L15 0
theorem f5_L19_is : LoopSnd Tryd.prog f5_ctx f5_L19 := lgen f5_cok mixed (sp := f5_L19_spec) rfl [f5_L19_l8] (bs := []) (by kernel_rfl) trivial (by kernel_rfl) (by kernel_rfl) fun y x => by kernel_rfl
theorem f5_L15_is : LoopSnd Tryd.prog f5_ctx f5_L15 := lgen f5_cok mixed (sp := f5_L15_spec) rfl [f5_L15_l6] (bs := [f5_L19]) (by kernel_rfl) ⟨f5_L19_is, trivial⟩ (by kernel_rfl) (by kernel_rfl) fun y x => by kernel_rfl
theorem f5_L11_is : LoopSnd Tryd.prog f5_ctx f5_L11 := lgen f5_cok mixed (sp := f5_L11_spec) rfl [f5_L11_l4] (bs := [f5_L15]) (by kernel_rfl) ⟨f5_L15_is, trivial⟩ (by kernel_rfl) (by kernel_rfl) fun y x => by kernel_rfl
theorem f5_L6_is : LoopSnd Tryd.prog f5_ctx f5_L6 := lgen f5_cok mixed (sp := f5_L6_spec) rfl [f5_L6_l2] (bs := [f5_L11]) (by kernel_rfl) ⟨f5_L11_is, trivial⟩ (by kernel_rfl) (by kernel_rfl) fun y x => by kernel_rfl
theorem f5_is : SpecOk Tryd.prog 5 f5_spec := fgen f5_cok mixed Tryd.func5 (by kernel_rfl) (bs := [f5_L6]) (by kernel_rfl) ⟨f5_L6_is, trivial⟩ fun x => by kernel_rfl
abbrev f6_L9_Y : Type := ((List (List D50)) × (List (List D50)) × Int × Unit)
abbrev f6_L9_X : Type := (Int × Unit)
def f6_L9t (y : f6_L9_Y) (x : f6_L9_X) : Prop × Bool × f6_L9_X × Bool × Bool :=
 let a0 := y.1
 let a1 := y.2.1
 let a5 := y.2.2.1
 let a6 := x.1
 let v35 := (decide (a6 < (len (nth a0 a5 ([] : List D50)))))
 let v40 := (nth a0 a5 ([] : List D50))
 let v47 := (nth a1 a5 ([] : List D50))
 let v52 := (!(Ty.eqb T50 (nth v40 a6 Z50) (nth v47 a6 Z50)))
 ((InB a5 (len a0) ∧ (v35 = true → (InB a5 (len a0) ∧ (InB a6 (len v40) ∧ (InB a5 (len a1) ∧ (InB a6 (len v47) ∧ ((!v52) = true → InR (a6 + 1)))))))), (v35 && (!v52)), ((a6 + 1), ()), (v35 && v52), (!v35))
def f6_L9_ok (y : f6_L9_Y) (x : f6_L9_X) : Prop := (f6_L9t y x).1
def f6_L9_g (y : f6_L9_Y) (x : f6_L9_X) : Bool := (f6_L9t y x).2.1
def f6_L9_next (y : f6_L9_Y) (x : f6_L9_X) : f6_L9_X := (f6_L9t y x).2.2.1
def f6_L9_e1 (y : f6_L9_Y) (x : f6_L9_X) : Bool := (f6_L9t y x).2.2.2.1
def f6_L9_e4 (y : f6_L9_Y) (x : f6_L9_X) : Bool := (f6_L9t y x).2.2.2.2
instance (y : f6_L9_Y) (x : f6_L9_X) : Decidable (f6_L9_ok y x) := by
 unfold f6_L9_ok f6_L9t
 try dsimp only
 infer_instance
def f6_L9_x1_0 (y : f6_L9_Y) (x : f6_L9_X) : Bool :=
 false
def f6_L9_l4 : List (Nat × Sh) := [(0, (.val (.sl (.sl T50)))), (1, (.val (.sl (.sl T50)))), (5, vI)]
def f6_L9_spec : St → Option Out := loopS [(0, (.val (.sl (.sl T50)))), (1, (.val (.sl (.sl T50)))), (5, vI)] [(6, vI)] f6_L9_g f6_L9_next f6_L9_ok fun y x => [ex 1 (some (f6_L9_e1 y x)) [(4, vB)] ((f6_L9_x1_0 y x), ()), ex 4 (some (f6_L9_e4 y x)) f6_L9_l4 (y.1, y.2.1, y.2.2.1, ())]
abbrev f6_L4_Y : Type := ((List (List D50)) × (List (List D50)) × Unit)
abbrev f6_L4_X : Type := (Int × Unit)
def f6_L4t (y : f6_L4_Y) (x : f6_L4_X) : Prop × Bool × f6_L4_X × Bool × Bool :=
 let a0 := y.1
 let a1 := y.2.1
 let a5 := x.1
 let v15 := (decide (a5 < (len a0)))
 let v28 := ((len (nth a0 a5 ([] : List D50))) != (len (nth a1 a5 ([] : List D50))))
 let y9 := (a0, a1, a5, ())
 let x9 := ((0 : Int), ())
 let e9 := (loopEnd (f6_L9_g y9) (f6_L9_next y9) x9)
 let c := ((!v28) && (f6_L9_e4 y9 e9))
 ((v15 = true → (InB a5 (len a0) ∧ (InB a5 (len a1) ∧ (((!v28) = true → (Am.Ends (f6_L9_g y9) (f6_L9_next y9) (f6_L9_ok y9) x9)) ∧ (c = true → InR (a5 + 1)))))), (v15 && c), ((a5 + 1), ()), (v15 && (v28 || ((!v28) && (f6_L9_e1 y9 e9)))), (!v15))
def f6_L4_ok (y : f6_L4_Y) (x : f6_L4_X) : Prop := (f6_L4t y x).1
def f6_L4_g (y : f6_L4_Y) (x : f6_L4_X) : Bool := (f6_L4t y x).2.1
def f6_L4_next (y : f6_L4_Y) (x : f6_L4_X) : f6_L4_X := (f6_L4t y x).2.2.1
def f6_L4_e1 (y : f6_L4_Y) (x : f6_L4_X) : Bool := (f6_L4t y x).2.2.2.1
def f6_L4_e2 (y : f6_L4_Y) (x : f6_L4_X) : Bool := (f6_L4t y x).2.2.2.2
instance (y : f6_L4_Y) (x : f6_L4_X) : Decidable (f6_L4_ok y x) := by
 unfold f6_L4_ok f6_L4t
 try dsimp only
 infer_instance
def f6_L4_x1_0 (y : f6_L4_Y) (x : f6_L4_X) : Bool :=
 let a0 := y.1
 let a1 := y.2.1
 let a5 := x.1
 let y9 := (a0, a1, a5, ())
 (bif ((len (nth a0 a5 ([] : List D50))) != (len (nth a1 a5 ([] : List D50)))) then false else (f6_L9_x1_0 y9 (loopEnd (f6_L9_g y9) (f6_L9_next y9) ((0 : Int), ()))))
def f6_L4_spec : St → Option Out := loopS [(0, (.val (.sl (.sl T50)))), (1, (.val (.sl (.sl T50))))] [(5, vI)] f6_L4_g f6_L4_next f6_L4_ok fun y x => [ex 1 (some (f6_L4_e1 y x)) [(4, vB)] ((f6_L4_x1_0 y x), ()), ex 2 (some (f6_L4_e2 y x)) [] ()]
def f6t (p0 : (List (List D50))) (p1 : (List (List D50))) : Prop × Bool :=
 let v11 := ((len p0) != (len p1))
 let y4 := (p0, p1, ())
 let x4 := ((0 : Int), ())
 let e4 := (loopEnd (f6_L4_g y4) (f6_L4_next y4) x4)
 (((!v11) = true → (Am.Ends (f6_L4_g y4) (f6_L4_next y4) (f6_L4_ok y4) x4)), (bif v11 then false else (bif (f6_L4_e1 y4 e4) then (f6_L4_x1_0 y4 e4) else true)))
def f6_ok (p0 : (List (List D50))) (p1 : (List (List D50))) : Prop := (f6t p0 p1).1
def f6 (p0 : (List (List D50))) (p1 : (List (List D50))) : Bool := (f6t p0 p1).2
instance (p0 : (List (List D50))) (p1 : (List (List D50))) : Decidable (f6_ok p0 p1) := by
 unfold f6_ok f6t
 try dsimp only
 infer_instance
def f6_spec : Am.Spec := fnSpec [(0, (.val (.sl (.sl T50)))), (1, (.val (.sl (.sl T50))))] vB [] (fun x => f6_ok x.1 x.2.1) (fun x => f6 x.1 x.2.1) (fun _ => ())
def f6_ctx : Ctx := Cx tys [] [(9, f6_L9_spec), (4, f6_L4_spec)] [] false 53 [] []
theorem f6_cok : CtxOk Tryd.prog f6_ctx := ctxOk_mk tys_ok rfl trivial rfl (by kernel_rfl)
noncomputable def f6_code : Code := Tryd.f6.body.getD .skip
noncomputable def f6_L4 : Code := nthLoop f6_code 0
noncomputable def f6_L9 : Code := nthLoop f6_L4 0
theorem f6_L9_is : LoopSnd Tryd.prog f6_ctx f6_L9 := lgen f6_cok mixed (sp := f6_L9_spec) rfl [[(4, vB)], f6_L9_l4] (bs := []) (by kernel_rfl) trivial (by kernel_rfl) (by kernel_rfl) fun y x => by kernel_rfl
theorem f6_L4_is : LoopSnd Tryd.prog f6_ctx f6_L4 := lgen f6_cok mixed (sp := f6_L4_spec) rfl [[(4, vB)], []] (bs := [f6_L9]) (by kernel_rfl) ⟨f6_L9_is, trivial⟩ (by kernel_rfl) (by kernel_rfl) fun y x => by kernel_rfl
theorem f6_is : SpecOk Tryd.prog 6 f6_spec := fgen f6_cok mixed Tryd.func6 (by kernel_rfl) (bs := [f6_L4]) (by kernel_rfl) ⟨f6_L4_is, trivial⟩ fun x => by kernel_rfl
def f43 (p0 : List UInt8) : List (List UInt8) := Lib.fields p0
def f43_ok (p0 : List UInt8) : Prop := (List.length p0 : Int) ≤ 4294967280 ∧ (p0.all fun b => decide (b.toNat < 128)) = true
instance (p0 : List UInt8) : Decidable (f43_ok p0) := by
  unfold f43_ok
  infer_instance
def f43_ps : List (Nat × Sh) := [(0, (.val .str))]
def f43_rs : Sh := (.val (.sl .str))
def f43_os : List (Nat × Sh) := []
def f43_spec : Am.Spec := fnSpec f43_ps f43_rs f43_os (fun x => f43_ok x.1) (fun x => f43 x.1) (fun _ => ())
theorem tab0 : G0 = Lib.asciiSpaceTab := by kernel_rfl
theorem f43_is : SpecOk Tryd.prog 43 f43_spec := spec_strs (F := f43) (e := 9) (ok := f43_ok) ⟨_, Tryd.func43, by kernel_rfl, by decide⟩ fun s w χ hok hg =>
  Any.strings_Fields_core Tryd.lays157 (by kernel_rfl) s w (by have h1 := hok.1; rw [Array.length_toList] at h1; have h2 : s.data.size = s.size := rfl; omega)
    (fun j b hj => by have := List.all_eq_true.1 hok.2 b (List.mem_of_getElem? hj); simpa using this)
    (fun c hc => by
      have h1 := glob_row hg (g := 0) (n := 256) (k := .u8) (l := G0) (List.mem_cons_self ..) c hc
      rw [tab0, Lib.asciiSpaceTab_at c hc] at h1
      exact h1)
def f44t (p0 : (List UInt8)) (p1 : Int) : Prop × Int :=
 ((f62_ok p0 p1), (f62 p0 p1))
def f44_ok (p0 : (List UInt8)) (p1 : Int) : Prop := (f44t p0 p1).1
def f44 (p0 : (List UInt8)) (p1 : Int) : Int := (f44t p0 p1).2
instance (p0 : (List UInt8)) (p1 : Int) : Decidable (f44_ok p0 p1) := by
 unfold f44_ok f44t
 try dsimp only
 infer_instance
def f44_spec : Am.Spec := fnSpec [(0, vS), (1, (.val (.int .u8)))] vI [] (fun x => f44_ok x.1 x.2.1) (fun x => f44 x.1 x.2.1) (fun _ => ())
def f44_ctx : Ctx := Cx tys [(62, f62_spec)] [] [] false 8 [] []
theorem f44_cok : CtxOk Tryd.prog f44_ctx := ctxOk_mk tys_ok rfl ⟨f62_is, trivial⟩ rfl (by kernel_rfl)
theorem f44_is : SpecOk Tryd.prog 44 f44_spec := fgen f44_cok mixed Tryd.func44 (by kernel_rfl) (bs := []) (by kernel_rfl) trivial fun x => by kernel_rfl
def f63t (p0 : Int) (p1 : Int) (p2 : Int) (p3 : Int) : Prop × (List D74) :=
 let v30 := ([((1 : Int), ([(p0, p1, ()), Z50, Z50] : List D50), ()), ((2 : Int), ([(p2, p1, ()), Z50, Z50] : List D50), ()), ((2 : Int), ([(p2, p3, ()), Z50, Z50] : List D50), ()), ((2 : Int), ([(p0, p3, ()), Z50, Z50] : List D50), ()), ((5 : Int), (List.replicate 3 Z50), ())] : List D74)
 (True, v30)
def f63_ok (p0 : Int) (p1 : Int) (p2 : Int) (p3 : Int) : Prop := (f63t p0 p1 p2 p3).1
def f63 (p0 : Int) (p1 : Int) (p2 : Int) (p3 : Int) : (List D74) := (f63t p0 p1 p2 p3).2
instance (p0 : Int) (p1 : Int) (p2 : Int) (p3 : Int) : Decidable (f63_ok p0 p1 p2 p3) := by
 unfold f63_ok f63t
 try dsimp only
 infer_instance
def f63_spec : Am.Spec := fnSpec [(0, vI), (1, vI), (2, vI), (3, vI)] (.own T74 0 false) [] (fun x => f63_ok x.1 x.2.1 x.2.2.1 x.2.2.2.1) (fun x => f63 x.1 x.2.1 x.2.2.1 x.2.2.2.1) (fun _ => ())
def f63_ctx : Ctx := Cx tys [] [] [(3, [(4, 0, 30, 0)])] false 31 [] []
theorem f63_cok : CtxOk Tryd.prog f63_ctx := ctxOk_mk tys_ok rfl trivial rfl (by kernel_rfl)
theorem f63_is : SpecOk Tryd.prog 63 f63_spec := fgen f63_cok mixed Tryd.func63 (by kernel_rfl) (bs := []) (by kernel_rfl) trivial fun x => by kernel_rfl
abbrev f45_L7_Y : Type := (Int × Int × (List D74) × Int × Unit)
abbrev f45_L7_X : Type := (Int × Unit)
def f45_L7t (y : f45_L7_Y) (x : f45_L7_X) : Prop × Bool × f45_L7_X :=
 let a7 := x.1
 let v20 := (decide ((a7 + 1) < 7))
 let v24 := (a7 + 1)
 let v28 := (bif v20 then ((iand .i64 (ishr y.2.1 v24 64) (1 : Int)) == 1) else false)
 ((InR (a7 + 1) ∧ ((v20 = true → InR (a7 + 1)) ∧ ((v20 = true → 0 ≤ v24) ∧ (v28 = true → InR (a7 + 1))))), v28, ((a7 + 1), ()))
def f45_L7_ok (y : f45_L7_Y) (x : f45_L7_X) : Prop := (f45_L7t y x).1
def f45_L7_g (y : f45_L7_Y) (x : f45_L7_X) : Bool := (f45_L7t y x).2.1
def f45_L7_next (y : f45_L7_Y) (x : f45_L7_X) : f45_L7_X := (f45_L7t y x).2.2
instance (y : f45_L7_Y) (x : f45_L7_X) : Decidable (f45_L7_ok y x) := by
 unfold f45_L7_ok f45_L7t
 try dsimp only
 infer_instance
def f45_L7_x4_0 (y : f45_L7_Y) (x : f45_L7_X) : Int :=
 x.1
def f45_L7_l4 : List (Nat × Sh) := [(0, vI), (1, vI), (5, (.own T74 1005 false)), (6, vI), (7, vI)]
def f45_L7_spec : St → Option Out := loopS [(0, vI), (1, vI), (5, (.own T74 1005 false)), (6, vI)] [(7, vI)] f45_L7_g f45_L7_next f45_L7_ok fun y x => [ex 4 none f45_L7_l4 (y.1, y.2.1, y.2.2.1, y.2.2.2.1, (f45_L7_x4_0 y x), ())]
abbrev f45_L3_Y : Type := (Unit)
abbrev f45_L3_X : Type := (Int × Int × (List D74) × Int × Unit)
def f45_L3t (y : f45_L3_Y) (x : f45_L3_X) : Prop × Bool × f45_L3_X :=
 let a0 := x.1
 let a1 := x.2.1
 let a5 := x.2.2.1
 let a6 := x.2.2.2.1
 let v9 := (decide (a6 < 7))
 let v16 := ((iand .i64 (ishr a1 a6 64) (1 : Int)) == 0)
 let y7 := (a0, a1, a5, a6, ())
 let x7 := (a6, ())
 let r7_4_0 := (f45_L7_x4_0 y7 (loopEnd (f45_L7_g y7) (f45_L7_next y7) x7))
 let v33 := (100 * a0)
 let v35 := (100 * a6)
 let v36 := (700 - v35)
 let v38 := (100 * a0)
 let v39 := (v38 + 100)
 let v41 := (100 * r7_4_0)
 let v42 := (600 - v41)
 let v43 := (f63 v33 v36 v39 v42)
 let c := (v16 || (!v16))
 let m6 := (bif v16 then a6 else r7_4_0)
 ((v9 = true → (0 ≤ a6 ∧ (((!v16) = true → ((Am.Ends (f45_L7_g y7) (f45_L7_next y7) (f45_L7_ok y7) x7) ∧ (InR (100 * a0) ∧ (InR (100 * a6) ∧ (InR (700 - v35) ∧ (InR (100 * a0) ∧ (InR (v38 + 100) ∧ (InR (100 * r7_4_0) ∧ (InR (600 - v41) ∧ ((f63_ok v33 v36 v39 v42) ∧ ((List.length a5 + List.length v43 : Nat) : Int) ≤ 4294967296)))))))))) ∧ (c = true → InR (m6 + 1))))), (v9 && c), ((bif v16 then a0 else a0), (bif v16 then a1 else a1), (bif v16 then a5 else (a5 ++ v43)), (m6 + 1), ()))
def f45_L3_ok (y : f45_L3_Y) (x : f45_L3_X) : Prop := (f45_L3t y x).1
def f45_L3_g (y : f45_L3_Y) (x : f45_L3_X) : Bool := (f45_L3t y x).2.1
def f45_L3_next (y : f45_L3_Y) (x : f45_L3_X) : f45_L3_X := (f45_L3t y x).2.2
instance (y : f45_L3_Y) (x : f45_L3_X) : Decidable (f45_L3_ok y x) := by
 unfold f45_L3_ok f45_L3t
 try dsimp only
 infer_instance
def f45_L3_x2_0 (y : f45_L3_Y) (x : f45_L3_X) : (List D74) :=
 x.2.2.1
def f45_L3_spec : St → Option Out := loopS [] [(0, vI), (1, vI), (5, (.own T74 1005 false)), (6, vI)] f45_L3_g f45_L3_next f45_L3_ok fun y x => [ex 2 none [(5, (.own T74 1005 false))] ((f45_L3_x2_0 y x), ())]
def f45t (p0 : Int) (p1 : Int) : Prop × (List D74) :=
 let x3 := (p0, p1, ([] : List D74), (0 : Int), ())
 ((Am.Ends (f45_L3_g ()) (f45_L3_next ()) (f45_L3_ok ()) x3), (f45_L3_x2_0 () (loopEnd (f45_L3_g ()) (f45_L3_next ()) x3)))
def f45_ok (p0 : Int) (p1 : Int) : Prop := (f45t p0 p1).1
def f45 (p0 : Int) (p1 : Int) : (List D74) := (f45t p0 p1).2
instance (p0 : Int) (p1 : Int) : Decidable (f45_ok p0 p1) := by
 unfold f45_ok f45t
 try dsimp only
 infer_instance
def f45_spec : Am.Spec := fnSpec [(0, vI), (1, vI)] (.own T74 0 false) [] (fun x => f45_ok x.1 x.2.1) (fun x => f45 x.1 x.2.1) (fun _ => ())
def f45_ctx : Ctx := Cx tys [(63, f63_spec)] [(7, f45_L7_spec), (3, f45_L3_spec)] [(19, [(4, 0, 44, 1005)]), (23, [(4, 0, 1005, 0)])] false 47 [] []
theorem f45_cok : CtxOk Tryd.prog f45_ctx := ctxOk_mk tys_ok rfl ⟨f63_is, trivial⟩ rfl (by kernel_rfl)
noncomputable def f45_code : Code := Tryd.f45.body.getD .skip
noncomputable def f45_L3 : Code := nthLoop f45_code 0
noncomputable def f45_L7 : Code := nthLoop f45_L3 0
theorem f45_L7_is : LoopSnd Tryd.prog f45_ctx f45_L7 := lgen f45_cok mixed (sp := f45_L7_spec) rfl [f45_L7_l4] (bs := []) (by kernel_rfl) trivial (by kernel_rfl) (by kernel_rfl) fun y x => by kernel_rfl
theorem f45_L3_is : LoopSnd Tryd.prog f45_ctx f45_L3 := lgen f45_cok mixed (sp := f45_L3_spec) rfl [[(5, (.own T74 1005 false))]] (bs := [f45_L7]) (by kernel_rfl) ⟨f45_L7_is, trivial⟩ (by kernel_rfl) (by kernel_rfl) fun y x => by kernel_rfl
theorem f45_is : SpecOk Tryd.prog 45 f45_spec := fgen f45_cok mixed Tryd.func45 (by kernel_rfl) (bs := [f45_L3]) (by kernel_rfl) ⟨f45_L3_is, trivial⟩ fun x => by kernel_rfl
abbrev f20_L7_Y : Type := ((List UInt8) × (List (List UInt8)) × Int × Int × Int × Unit)
abbrev f20_L7_X : Type := ((Int × Int × Int × (List D47) × (List D87) × Unit) × (Int × Int × Int × (List D47) × (List D87) × Unit) × (Int × Int × (List D74) × Unit) × Int × Unit)
def f20_L7t (y : f20_L7_Y) (x : f20_L7_X) : Prop × Bool × f20_L7_X :=
 let a3 := y.1
 let a0 := x.1
 let a1 := x.2.1
 let a4 := x.2.2.1
 let a22 := x.2.2.2.1
 let v23 := (decide (a22 < y.2.2.2.2.1))
 let v27 := (2 * a22)
 let v28 := (byteAt a3 v27)
 let v29 := (f44 ([48, 49, 50, 51, 52, 53, 54, 55, 56, 57, 97, 98, 99, 100, 101, 102] : List UInt8) v28)
 let v30 := (16 * v29)
 let v33 := (2 * a22)
 let v34 := (v33 + 1)
 let v35 := (byteAt a3 v34)
 let v36 := (f44 ([48, 49, 50, 51, 52, 53, 54, 55, 56, 57, 97, 98, 99, 100, 101, 102] : List UInt8) v35)
 let v37 := (v30 + v36)
 let v42 := (f45 a22 v37)
 ((v23 = true → (InR (2 * a22) ∧ (InB v27 (len a3) ∧ ((f44_ok ([48, 49, 50, 51, 52, 53, 54, 55, 56, 57, 97, 98, 99, 100, 101, 102] : List UInt8) v28) ∧ (InR (16 * v29) ∧ (InR (2 * a22) ∧ (InR (v33 + 1) ∧ (InB v34 (len a3) ∧ ((f44_ok ([48, 49, 50, 51, 52, 53, 54, 55, 56, 57, 97, 98, 99, 100, 101, 102] : List UInt8) v35) ∧ (InR (v30 + v36) ∧ ((f45_ok a22 v37) ∧ (((List.length a4.2.2.1 + List.length v42 : Nat) : Int) ≤ 4294967296 ∧ InR (a22 + 1))))))))))))), v23, ((a0.1, a0.2.1, a0.2.2.1, a0.2.2.2.1, a0.2.2.2.2.1, ()), (a1.1, a1.2.1, a1.2.2.1, a1.2.2.2.1, a1.2.2.2.2.1, ()), (a4.1, a4.2.1, (a4.2.2.1 ++ v42), ()), (a22 + 1), ()))
def f20_L7_ok (y : f20_L7_Y) (x : f20_L7_X) : Prop := (f20_L7t y x).1
def f20_L7_g (y : f20_L7_Y) (x : f20_L7_X) : Bool := (f20_L7t y x).2.1
def f20_L7_next (y : f20_L7_Y) (x : f20_L7_X) : f20_L7_X := (f20_L7t y x).2.2
instance (y : f20_L7_Y) (x : f20_L7_X) : Decidable (f20_L7_ok y x) := by
 unfold f20_L7_ok f20_L7t
 try dsimp only
 infer_instance
def f20_L7_x4_0 (y : f20_L7_Y) (x : f20_L7_X) : (Int × Int × Int × (List D47) × (List D87) × Unit) :=
 let a0 := x.1
 (a0.1, a0.2.1, a0.2.2.1, a0.2.2.2.1, a0.2.2.2.2.1, ())
def f20_L7_x4_1 (y : f20_L7_Y) (x : f20_L7_X) : (Int × Int × Int × (List D47) × (List D87) × Unit) :=
 let a1 := x.2.1
 (a1.1, a1.2.1, a1.2.2.1, a1.2.2.2.1, a1.2.2.2.2.1, ())
def f20_L7_x4_2 (y : f20_L7_Y) (x : f20_L7_X) : (Int × Int × (List D74) × Unit) :=
 let a4 := x.2.2.1
 (a4.1, a4.2.1, a4.2.2.1, ())
def f20_L7_l4 : List (Nat × Sh) := [(0, (.box T24 (.agg (.cons (.int .i64) (.cons (.int .i64) (.cons (.int .i64) (.cons (.sl T47) (.cons (.sl T87) .nl))))) (.cons vI (.cons vI (.cons vI (.cons (.own T47 400000 false) (.cons (.own T87 400001 false) .nl)))))))), (1, (.box T24 (.agg (.cons (.int .i64) (.cons (.int .i64) (.cons (.int .i64) (.cons (.sl T47) (.cons (.sl T87) .nl))))) (.cons vI (.cons vI (.cons vI (.cons (.own T47 400100 false) (.cons (.own T87 400101 false) .nl)))))))), (4, (.box T47 (.agg (.cons (.int .u8) (.cons (.int .i64) (.cons (.sl T74) .nl))) (.cons (.val (.int .u8)) (.cons vI (.cons (.own T74 400400 false) .nl)))))), (8, (.val (.sl .str))), (9, vI), (10, vI)]
def f20_L7_spec : St → Option Out := loopS [(3, vS), (8, (.val (.sl .str))), (9, vI), (10, vI), (21, vI)] [(0, (.box T24 (.agg (.cons (.int .i64) (.cons (.int .i64) (.cons (.int .i64) (.cons (.sl T47) (.cons (.sl T87) .nl))))) (.cons vI (.cons vI (.cons vI (.cons (.own T47 400000 false) (.cons (.own T87 400001 false) .nl)))))))), (1, (.box T24 (.agg (.cons (.int .i64) (.cons (.int .i64) (.cons (.int .i64) (.cons (.sl T47) (.cons (.sl T87) .nl))))) (.cons vI (.cons vI (.cons vI (.cons (.own T47 400100 false) (.cons (.own T87 400101 false) .nl)))))))), (4, (.box T47 (.agg (.cons (.int .u8) (.cons (.int .i64) (.cons (.sl T74) .nl))) (.cons (.val (.int .u8)) (.cons vI (.cons (.own T74 400400 false) .nl)))))), (22, vI)] f20_L7_g f20_L7_next f20_L7_ok fun y x => [ex 4 none f20_L7_l4 ((f20_L7_x4_0 y x), (f20_L7_x4_1 y x), (f20_L7_x4_2 y x), y.2.1, y.2.2.1, y.2.2.2.1, ())]
abbrev f20_L3_Y : Type := ((List (List UInt8)) × Int × Unit)
abbrev f20_L3_X : Type := ((Int × Int × Int × (List D47) × (List D87) × Unit) × (Int × Int × Int × (List D47) × (List D87) × Unit) × Int × Unit)
def f20_L3t (y : f20_L3_Y) (x : f20_L3_X) : Prop × Bool × f20_L3_X :=
 let a8 := y.1
 let a9 := y.2.1
 let a0 := x.1
 let a1 := x.2.1
 let a10 := x.2.2.1
 let v11 := (decide (a10 < a9))
 let v13 := (nth a8 a10 ([] : List UInt8))
 let v20 := (len v13)
 let y7 := (v13, a8, a9, a10, (Int.tdiv v20 (2 : Int)), ())
 let x7 := ((a0.1, a0.2.1, a0.2.2.1, a0.2.2.2.1, a0.2.2.2.2.1, ()), (a1.1, a1.2.1, a1.2.2.1, a1.2.2.2.1, a1.2.2.2.2.1, ()), ((IntKind.wrap .u8 (32 + a10)), (600 : Int), ([] : List D74), ()), (0 : Int), ())
 let e7 := (loopEnd (f20_L7_g y7) (f20_L7_next y7) x7)
 let r7_4_0 := (f20_L7_x4_0 y7 e7)
 let r7_4_1 := (f20_L7_x4_1 y7 e7)
 let r7_4_2 := (f20_L7_x4_2 y7 e7)
 let v49 := ([(r7_4_2.1, r7_4_2.2.1, r7_4_2.2.2.1, ())] : List D47)
 ((v11 = true → (InB a10 (len a8) ∧ (InR (32 + a10) ∧ (InR (Int.tdiv v20 (2 : Int)) ∧ ((Am.Ends (f20_L7_g y7) (f20_L7_next y7) (f20_L7_ok y7) x7) ∧ (((List.length r7_4_1.2.2.2.1 + List.length v49 : Nat) : Int) ≤ 4294967296 ∧ InR (a10 + 1))))))), v11, ((r7_4_0.1, r7_4_0.2.1, r7_4_0.2.2.1, r7_4_0.2.2.2.1, r7_4_0.2.2.2.2.1, ()), (r7_4_1.1, r7_4_1.2.1, r7_4_1.2.2.1, (r7_4_1.2.2.2.1 ++ v49), r7_4_1.2.2.2.2.1, ()), (a10 + 1), ()))
def f20_L3_ok (y : f20_L3_Y) (x : f20_L3_X) : Prop := (f20_L3t y x).1
def f20_L3_g (y : f20_L3_Y) (x : f20_L3_X) : Bool := (f20_L3t y x).2.1
def f20_L3_next (y : f20_L3_Y) (x : f20_L3_X) : f20_L3_X := (f20_L3t y x).2.2
instance (y : f20_L3_Y) (x : f20_L3_X) : Decidable (f20_L3_ok y x) := by
 unfold f20_L3_ok f20_L3t
 try dsimp only
 infer_instance
def f20_L3_x2_0 (y : f20_L3_Y) (x : f20_L3_X) : (Int × Int × Int × (List D47) × (List D87) × Unit) :=
 let a0 := x.1
 (a0.1, a0.2.1, a0.2.2.1, a0.2.2.2.1, a0.2.2.2.2.1, ())
def f20_L3_x2_1 (y : f20_L3_Y) (x : f20_L3_X) : (Int × Int × Int × (List D47) × (List D87) × Unit) :=
 let a1 := x.2.1
 (a1.1, a1.2.1, a1.2.2.1, a1.2.2.2.1, a1.2.2.2.2.1, ())
def f20_L3_l2 : List (Nat × Sh) := [(0, (.box T24 (.agg (.cons (.int .i64) (.cons (.int .i64) (.cons (.int .i64) (.cons (.sl T47) (.cons (.sl T87) .nl))))) (.cons vI (.cons vI (.cons vI (.cons (.own T47 400000 false) (.cons (.own T87 400001 false) .nl)))))))), (1, (.box T24 (.agg (.cons (.int .i64) (.cons (.int .i64) (.cons (.int .i64) (.cons (.sl T47) (.cons (.sl T87) .nl))))) (.cons vI (.cons vI (.cons vI (.cons (.own T47 400100 false) (.cons (.own T87 400101 false) .nl))))))))]
def f20_L3_spec : St → Option Out := loopS [(8, (.val (.sl .str))), (9, vI)] [(0, (.box T24 (.agg (.cons (.int .i64) (.cons (.int .i64) (.cons (.int .i64) (.cons (.sl T47) (.cons (.sl T87) .nl))))) (.cons vI (.cons vI (.cons vI (.cons (.own T47 400000 false) (.cons (.own T87 400001 false) .nl)))))))), (1, (.box T24 (.agg (.cons (.int .i64) (.cons (.int .i64) (.cons (.int .i64) (.cons (.sl T47) (.cons (.sl T87) .nl))))) (.cons vI (.cons vI (.cons vI (.cons (.own T47 400100 false) (.cons (.own T87 400101 false) .nl)))))))), (10, vI)] f20_L3_g f20_L3_next f20_L3_ok fun y x => [ex 2 none f20_L3_l2 ((f20_L3_x2_0 y x), (f20_L3_x2_1 y x), ())]
def f20t  : Prop × D24 :=
 let v8 := (f43 lit0)
 let y3 := (v8, (len v8), ())
 let x3 := (((0 : Int), (0 : Int), (0 : Int), ([] : List D47), ([] : List D87), ()), ((1000 : Int), (800 : Int), (1200 : Int), ([] : List D47), ([] : List D87), ()), (0 : Int), ())
 let r3_2_1 := (f20_L3_x2_1 y3 (loopEnd (f20_L3_g y3) (f20_L3_next y3) x3))
 let s_6 := (r3_2_1.1, r3_2_1.2.1, r3_2_1.2.2.1, r3_2_1.2.2.2.1, ([((65 : Int), (86 : Int), (-100 : Int), ()), ((76 : Int), (84 : Int), (-100 : Int), ()), ((84 : Int), (97 : Int), (-100 : Int), ()), ((86 : Int), (65 : Int), (-100 : Int), ())] : List D87), ())
 (((f43_ok lit0) ∧ (Am.Ends (f20_L3_g y3) (f20_L3_next y3) (f20_L3_ok y3) x3)), s_6)
def f20_ok  : Prop := (f20t).1
def f20  : D24 := (f20t).2
instance  : Decidable (f20_ok) := by
 unfold f20_ok f20t
 try dsimp only
 infer_instance
def f20_spec : Am.Spec := fnSpec [] (.val T24) [] (fun x => f20_ok ) (fun x => f20 ) (fun _ => ())
def f20_ctx : Ctx := Cx tys [(43, f43_spec), (44, f44_spec), (45, f45_spec)] [(7, f20_L7_spec), (3, f20_L3_spec)] [(21, [(4, 0, 43, 400400)]), (25, [(4, 0, 50, 400100)]), (29, [(4, 0, 57, 400101)]), (31, [(4, 0, 400100, 400000), (4, 0, 400101, 400001)])] false 60 [] []
theorem f20_cok : CtxOk Tryd.prog f20_ctx := ctxOk_mk tys_ok rfl ⟨f43_is, f44_is, f45_is, trivial⟩ rfl (by kernel_rfl)
noncomputable def f20_code : Code := Tryd.f20.body.getD .skip
noncomputable def f20_L3 : Code := nthLoop f20_code 0
noncomputable def f20_L7 : Code := nthLoop f20_L3 0
theorem f20_L7_is : LoopSnd Tryd.prog f20_ctx f20_L7 := lgen f20_cok mixed (sp := f20_L7_spec) rfl [f20_L7_l4] (bs := []) (by kernel_rfl) trivial (by kernel_rfl) (by kernel_rfl) fun y x => by kernel_rfl
theorem f20_L3_is : LoopSnd Tryd.prog f20_ctx f20_L3 := lgen f20_cok mixed (sp := f20_L3_spec) rfl [f20_L3_l2] (bs := [f20_L7]) (by kernel_rfl) ⟨f20_L7_is, trivial⟩ (by kernel_rfl) (by kernel_rfl) fun y x => by kernel_rfl
theorem f20_is : SpecOk Tryd.prog 20 f20_spec := fgen f20_cok mixed Tryd.func20 (by kernel_rfl) (bs := [f20_L3]) (by kernel_rfl) ⟨f20_L3_is, trivial⟩ fun x => by kernel_rfl
def f21t (p0 : D24) (p1 : (List UInt8)) (p2 : Int) (p3 : Int) : Prop × ((List (List UInt8)) × Int × Unit) :=
 let v15 := (f8 p0 p1 p2 p3)
 let v17 := (v15 != 0)
 let v20 := (f9 p0)
 (((f8_ok p0 p1 p2 p3) ∧ ((!v17) = true → ((f9_ok p0) ∧ (f10_ok v20 p1 p2 p3)))), ((bif v17 then [] else (f10 v20 p1 p2 p3)), (bif v17 then v15 else (0 : Int)), ()))
def f21_ok (p0 : D24) (p1 : (List UInt8)) (p2 : Int) (p3 : Int) : Prop := (f21t p0 p1 p2 p3).1
def f21 (p0 : D24) (p1 : (List UInt8)) (p2 : Int) (p3 : Int) : ((List (List UInt8)) × Int × Unit) := (f21t p0 p1 p2 p3).2
instance (p0 : D24) (p1 : (List UInt8)) (p2 : Int) (p3 : Int) : Decidable (f21_ok p0 p1 p2 p3) := by
 unfold f21_ok f21t
 try dsimp only
 infer_instance
def f21_spec : Am.Spec := fnSpec [(0, (.val T24)), (1, vS), (2, vI), (3, vI)] (.tup (.cons (.val (.sl .str)) (.cons vI .nl))) [] (fun x => f21_ok x.1 x.2.1 x.2.2.1 x.2.2.2.1) (fun x => f21 x.1 x.2.1 x.2.2.1 x.2.2.2.1) (fun _ => ())
def f21_ctx : Ctx := Cx tys [(8, f8_spec), (9, f9_spec), (10, f10_spec)] [] [] false 25 [] []
theorem f21_cok : CtxOk Tryd.prog f21_ctx := ctxOk_mk tys_ok rfl ⟨f8_is, f9_is, f10_is, trivial⟩ rfl (by kernel_rfl)
theorem f21_is : SpecOk Tryd.prog 21 f21_spec := fgen f21_cok mixed Tryd.func21 (by kernel_rfl) (bs := []) (by kernel_rfl) trivial fun x => by kernel_rfl
abbrev f22_L4_Y : Type := ((List (List UInt8)) × (List (List UInt8)) × Unit)
abbrev f22_L4_X : Type := (Int × Unit)
def f22_L4t (y : f22_L4_Y) (x : f22_L4_X) : Prop × Bool × f22_L4_X × Bool × Bool :=
 let a0 := y.1
 let a1 := y.2.1
 let a5 := x.1
 let v14 := (decide (a5 < (len a0)))
 let v25 := (!((nth a0 a5 ([] : List UInt8)) == (nth a1 a5 ([] : List UInt8))))
 ((v14 = true → (InB a5 (len a0) ∧ (InB a5 (len a1) ∧ ((!v25) = true → InR (a5 + 1))))), (v14 && (!v25)), ((a5 + 1), ()), (v14 && v25), (!v14))
def f22_L4_ok (y : f22_L4_Y) (x : f22_L4_X) : Prop := (f22_L4t y x).1
def f22_L4_g (y : f22_L4_Y) (x : f22_L4_X) : Bool := (f22_L4t y x).2.1
def f22_L4_next (y : f22_L4_Y) (x : f22_L4_X) : f22_L4_X := (f22_L4t y x).2.2.1
def f22_L4_e1 (y : f22_L4_Y) (x : f22_L4_X) : Bool := (f22_L4t y x).2.2.2.1
def f22_L4_e2 (y : f22_L4_Y) (x : f22_L4_X) : Bool := (f22_L4t y x).2.2.2.2
instance (y : f22_L4_Y) (x : f22_L4_X) : Decidable (f22_L4_ok y x) := by
 unfold f22_L4_ok f22_L4t
 try dsimp only
 infer_instance
def f22_L4_x1_0 (y : f22_L4_Y) (x : f22_L4_X) : Bool :=
 false
def f22_L4_spec : St → Option Out := loopS [(0, (.val (.sl .str))), (1, (.val (.sl .str)))] [(5, vI)] f22_L4_g f22_L4_next f22_L4_ok fun y x => [ex 1 (some (f22_L4_e1 y x)) [(4, vB)] ((f22_L4_x1_0 y x), ()), ex 2 (some (f22_L4_e2 y x)) [] ()]
def f22t (p0 : (List (List UInt8))) (p1 : (List (List UInt8))) : Prop × Bool :=
 let v10 := ((len p0) != (len p1))
 let y4 := (p0, p1, ())
 let x4 := ((0 : Int), ())
 let e4 := (loopEnd (f22_L4_g y4) (f22_L4_next y4) x4)
 (((!v10) = true → (Am.Ends (f22_L4_g y4) (f22_L4_next y4) (f22_L4_ok y4) x4)), (bif v10 then false else (bif (f22_L4_e1 y4 e4) then (f22_L4_x1_0 y4 e4) else true)))
def f22_ok (p0 : (List (List UInt8))) (p1 : (List (List UInt8))) : Prop := (f22t p0 p1).1
def f22 (p0 : (List (List UInt8))) (p1 : (List (List UInt8))) : Bool := (f22t p0 p1).2
instance (p0 : (List (List UInt8))) (p1 : (List (List UInt8))) : Decidable (f22_ok p0 p1) := by
 unfold f22_ok f22t
 try dsimp only
 infer_instance
def f22_spec : Am.Spec := fnSpec [(0, (.val (.sl .str))), (1, (.val (.sl .str)))] vB [] (fun x => f22_ok x.1 x.2.1) (fun x => f22 x.1 x.2.1) (fun _ => ())
def f22_ctx : Ctx := Cx tys [] [(4, f22_L4_spec)] [] false 26 [] []
theorem f22_cok : CtxOk Tryd.prog f22_ctx := ctxOk_mk tys_ok rfl trivial rfl (by kernel_rfl)
noncomputable def f22_code : Code := Tryd.f22.body.getD .skip
noncomputable def f22_L4 : Code := nthLoop f22_code 0
theorem f22_L4_is : LoopSnd Tryd.prog f22_ctx f22_L4 := lgen f22_cok mixed (sp := f22_L4_spec) rfl [[(4, vB)], []] (bs := []) (by kernel_rfl) trivial (by kernel_rfl) (by kernel_rfl) fun y x => by kernel_rfl
theorem f22_is : SpecOk Tryd.prog 22 f22_spec := fgen f22_cok mixed Tryd.func22 (by kernel_rfl) (bs := [f22_L4]) (by kernel_rfl) ⟨f22_L4_is, trivial⟩ fun x => by kernel_rfl
def f46t (p0 : Int) (p1 : Int) (p2 : Int) : Prop × Int :=
 (True, (imin p2 (imax p0 p1)))
def f46_ok (p0 : Int) (p1 : Int) (p2 : Int) : Prop := (f46t p0 p1 p2).1
def f46 (p0 : Int) (p1 : Int) (p2 : Int) : Int := (f46t p0 p1 p2).2
instance (p0 : Int) (p1 : Int) (p2 : Int) : Decidable (f46_ok p0 p1 p2) := by
 unfold f46_ok f46t
 try dsimp only
 infer_instance
def f46_spec : Am.Spec := fnSpec [(0, vI), (1, vI), (2, vI)] vI [] (fun x => f46_ok x.1 x.2.1 x.2.2.1) (fun x => f46 x.1 x.2.1 x.2.2.1) (fun _ => ())
def f46_ctx : Ctx := Cx tys [] [] [] false 12 [] []
theorem f46_cok : CtxOk Tryd.prog f46_ctx := ctxOk_mk tys_ok rfl trivial rfl (by kernel_rfl)
theorem f46_is : SpecOk Tryd.prog 46 f46_spec := fgen f46_cok mixed Tryd.func46 (by kernel_rfl) (bs := []) (by kernel_rfl) trivial fun x => by kernel_rfl
def f23t (p0 : D24) (p1 : (List UInt8)) (p2 : Int) : Prop × Int :=
 let v9 := ((f24 p0) != 0)
 let v12 := (decide ((len p1) > 128))
 let m1 := (bif v12 then (List.take (Int.toNat (128 : Int)) p1) else p1)
 let v16 := (f9 p0)
 let v19 := (f46 p2 (1 : Int) (1048576 : Int))
 (((f24_ok p0) ∧ ((!v9) = true → ((v12 = true → (0 ≤ (128 : Int) ∧ (128 : Int) ≤ len p1)) ∧ ((f9_ok p0) ∧ ((f46_ok p2 (1 : Int) (1048576 : Int)) ∧ (f28_ok v16 m1 v19)))))), (bif v9 then (0 : Int) else (f28 v16 m1 v19)))
def f23_ok (p0 : D24) (p1 : (List UInt8)) (p2 : Int) : Prop := (f23t p0 p1 p2).1
def f23 (p0 : D24) (p1 : (List UInt8)) (p2 : Int) : Int := (f23t p0 p1 p2).2
instance (p0 : D24) (p1 : (List UInt8)) (p2 : Int) : Decidable (f23_ok p0 p1 p2) := by
 unfold f23_ok f23t
 try dsimp only
 infer_instance
def f23_spec : Am.Spec := fnSpec [(0, (.val T24)), (1, vS), (2, vI)] vI [] (fun x => f23_ok x.1 x.2.1 x.2.2.1) (fun x => f23 x.1 x.2.1 x.2.2.1) (fun _ => ())
def f23_ctx : Ctx := Cx tys [(9, f9_spec), (24, f24_spec), (28, f28_spec), (46, f46_spec)] [] [] false 21 [] []
theorem f23_cok : CtxOk Tryd.prog f23_ctx := ctxOk_mk tys_ok rfl ⟨f9_is, f24_is, f28_is, f46_is, trivial⟩ rfl (by kernel_rfl)
theorem f23_is : SpecOk Tryd.prog 23 f23_spec := fgen f23_cok mixed Tryd.func23 (by kernel_rfl) (bs := []) (by kernel_rfl) trivial fun x => by kernel_rfl
def f7kt (k20 : D24)  : Prop × Bool :=
 let v9 := (f21 k20 ([97, 97, 32, 98, 98, 32, 99, 99] : List UInt8) (10 : Int) (30 : Int))
 let v14 := (f4 k20 ([45] : List UInt8) (1000 : Int) (0 : Int))
 let v18 := (v9.2.1 != 0)
 let v21 := ([([97, 97, 32, 98, 98] : List UInt8), ([99, 99] : List UInt8)] : List (List UInt8))
 let v33 := (bif (bif (bif v18 then true else (!(f22 v9.1 v21))) then true else (v14.2.1 != 0)) then true else ((len v14.1) != 5))
 let v40 := (bif v33 then true else ((len (nth v14.1 (0 : Int) ([] : List D50))) != 4))
 let v42 := (nth v14.1 (0 : Int) ([] : List D50))
 let v47 := (Ty.eqb T50 (nth v42 (0 : Int) Z50) ((0 : Int), (400 : Int), ()))
 let v50 := (nth v14.1 (0 : Int) ([] : List D50))
 let v56 := (bif v47 then (Ty.eqb T50 (nth v50 (2 : Int) Z50) ((100 : Int), (500 : Int), ())) else false)
 let v61 := (bif v56 then ((f23 k20 ([65, 86] : List UInt8) (160 : Int)) == 176) else false)
 ((f20_ok ∧ ((f21_ok k20 ([97, 97, 32, 98, 98, 32, 99, 99] : List UInt8) (10 : Int) (30 : Int)) ∧ ((f4_ok k20 ([45] : List UInt8) (1000 : Int) (0 : Int)) ∧ (((!v18) = true → (f22_ok v9.1 v21)) ∧ (((!v33) = true → InB (0 : Int) (len v14.1)) ∧ ((!v40) = true → (InB (0 : Int) (len v14.1) ∧ (InB (0 : Int) (len v42) ∧ ((v47 = true → InB (0 : Int) (len v14.1)) ∧ ((v47 = true → InB (2 : Int) (len v50)) ∧ ((v56 = true → (f23_ok k20 ([65, 86] : List UInt8) (160 : Int))) ∧ ((v61 = true → (f23_ok k20 ([200] : List UInt8) (160 : Int))) ∧ (v61 = true → (f23_ok k20 ([63] : List UInt8) (160 : Int))))))))))))))), (bif v40 then false else (bif v61 then ((f23 k20 ([200] : List UInt8) (160 : Int)) == (f23 k20 ([63] : List UInt8) (160 : Int))) else false)))
def f7k_ok (k20 : D24) : Prop := (f7kt k20).1
def f7k (k20 : D24) : Bool := (f7kt k20).2
def f7 : Bool := f7k f20
def f7_ok : Prop := f7k_ok f20
instance (k20 : D24) : Decidable (f7k_ok k20) := by
  unfold f7k_ok f7kt
  try dsimp only
  infer_instance
instance : Decidable f7_ok := by
  unfold f7_ok
  infer_instance
def f7_spec : Am.Spec := fnSpec [] vB [] (fun x => f7_ok ) (fun x => f7 ) (fun _ => ())
def f7_ctx (k20 : D24) : Ctx := Cx tys [(4, f4_spec), (20, fnSpec [] (.val T24) [] (fun _ => f20_ok) (fun _ => k20) (fun _ => ())), (21, f21_spec), (22, f22_spec), (23, f23_spec)] [] [(7, [(4, 0, 14, 1004)])] false 69 [] []
theorem f7_cok : CtxOk Tryd.prog (f7_ctx f20) := ctxOk_mk tys_ok rfl ⟨f4_is, f20_is, f21_is, f22_is, f23_is, trivial⟩ rfl (by kernel_rfl)
noncomputable def f7_code : Code := Tryd.f7.body.getD .skip
theorem f7_sum : ∀ (k20 : D24) x, sumFn (f7_ctx k20) f7_code Tryd.f7.results.toList [] vB [] x = some (f7k_ok k20, f7k k20, ()) := fun k20 x => by kernel_rfl
theorem f7_is : SpecOk Tryd.prog 7 f7_spec := func_gen f7_cok mixed Tryd.func7 (by kernel_rfl) (by decide) rfl (bs := []) (by kernel_rfl) trivial (by kernel_rfl) (by kernel_rfl) rfl (f7_sum f20)
def f3t (p0 : D26) : Prop × Bool :=
 let v16 := (f4 p0.1 p0.2.1 p0.2.2.1 p0.2.2.2.1)
 let v28 := (f5 p0.1 p0.2.1 p0.2.2.1 p0.2.2.2.1)
 let v33 := (v16.2.1 == v28.2.1)
 let v38 := (bif v33 then (f6 v16.1 v28.1) else false)
 (((f4_ok p0.1 p0.2.1 p0.2.2.1 p0.2.2.2.1) ∧ ((f5_ok p0.1 p0.2.1 p0.2.2.1 p0.2.2.2.1) ∧ ((v33 = true → (f6_ok v16.1 v28.1)) ∧ (v38 = true → f7_ok)))), (bif v38 then f7 else false))
def f3_ok (p0 : D26) : Prop := (f3t p0).1
def f3 (p0 : D26) : Bool := (f3t p0).2
instance (p0 : D26) : Decidable (f3_ok p0) := by
 unfold f3_ok f3t
 try dsimp only
 infer_instance
def f3_spec : Am.Spec := fnSpec [(0, (.val T26))] vB [] (fun x => f3_ok x.1) (fun x => f3 x.1) (fun _ => ())
def f3_ctx : Ctx := Cx tys [(4, f4_spec), (5, f5_spec), (6, f6_spec), (7, f7_spec)] [] [(3, [(4, 0, 16, 1003)]), (5, [(4, 0, 28, 1005)])] false 42 [] []
theorem f3_cok : CtxOk Tryd.prog f3_ctx := ctxOk_mk tys_ok rfl ⟨f4_is, f5_is, f6_is, f7_is, trivial⟩ rfl (by kernel_rfl)
theorem f3_is : SpecOk Tryd.prog 3 f3_spec := fgen f3_cok mixed Tryd.func3 (by kernel_rfl) (bs := []) (by kernel_rfl) trivial fun x => by kernel_rfl
end Go.Proofs.YtdgfchmfajmkiaaDoor.Am
