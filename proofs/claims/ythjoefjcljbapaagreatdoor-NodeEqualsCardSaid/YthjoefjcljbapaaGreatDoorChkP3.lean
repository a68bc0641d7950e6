/- Printed by program, part 3. No condition. -/
import Derived.Test.YthjoefjcljbapaaGreatDoorChkP2
set_option linter.unusedVariables false
set_option synthInstance.maxSize 4000
set_option synthInstance.maxHeartbeats 400000
namespace Go.Proofs.YthjoefjcljbapaaGreatDoor.Am
open Go Go.Am Go.Proofs

-- imageeditor/filter.Check
abbrev f60_L7_Y : Type := ((List D55) × (List Int) × Int × Unit)
abbrev f60_L7_X : Type := (Int × Unit)
def f60_L7t (y : f60_L7_Y) (x : f60_L7_X) : Prop × Bool × f60_L7_X × Bool × Bool :=
 let a5 := y.1 
 let a21 := y.2.1 
 let a23 := x.1 
 let v24 := (decide (a23 < y.2.2.1))
 let v26 := (nth a21 a23 (0 : Int))
 let v34 := (decide (v26 < (nth a5 a23 Z55).1))
 let v43 := (bif v34 then true else (decide (v26 > (nth a5 a23 Z55).2.1)))
 ((v24 = true → (InB a23 (len a21) ∧ (InB a23 (len a5) ∧ (((!v34) = true → InB a23 (len a5)) ∧ ((!v43) = true → InR (a23 + 1)))))), (v24 && (!v43)), ((a23 + 1), ()), (v24 && v43), (!v24))
def f60_L7_ok (y : f60_L7_Y) (x : f60_L7_X) : Prop := (f60_L7t y x).1
def f60_L7_g (y : f60_L7_Y) (x : f60_L7_X) : Bool := (f60_L7t y x).2.1
def f60_L7_next (y : f60_L7_Y) (x : f60_L7_X) : f60_L7_X := (f60_L7t y x).2.2.1
def f60_L7_e1 (y : f60_L7_Y) (x : f60_L7_X) : Bool := (f60_L7t y x).2.2.2.1
def f60_L7_e2 (y : f60_L7_Y) (x : f60_L7_X) : Bool := (f60_L7t y x).2.2.2.2
instance (y : f60_L7_Y) (x : f60_L7_X) : Decidable (f60_L7_ok y x) := by
 unfold f60_L7_ok f60_L7t
 try dsimp only
 infer_instance
def f60_L7_x1_0 (y : f60_L7_Y) (x : f60_L7_X) : Int :=
 (2 : Int)
def f60_L7_spec : St → Option Out := loopS [(5, (.own T55 1005 false)), (21, (.val (.sl (.int .i64)))), (22, vI)] [(23, vI)] f60_L7_g f60_L7_next f60_L7_ok fun y x => [ex 1 (some (f60_L7_e1 y x)) [(4, vI)] ((f60_L7_x1_0 y x), ()), ex 2 (some (f60_L7_e2 y x)) [] ()]
def f60t (p0 : Int) (p1 : (List Int)) : Prop × Int :=
 let v13 := (bif (decide (p0 < 1)) then true else (decide (p0 > 10)))
 let v15 := (f88 p0)
 let v20 := ((len p1) != (len v15))
 let y7 := (v15, p1, (len p1), ())
 let x7 := ((0 : Int), ())
 let e7 := (loopEnd (f60_L7_g y7) (f60_L7_next y7) x7)
 (((!v13) = true → ((f88_ok p0) ∧ ((!v20) = true → (Am.Ends (f60_L7_g y7) (f60_L7_next y7) (f60_L7_ok y7) x7)))), (bif v13 then (8 : Int) else (bif v20 then (1 : Int) else (bif (f60_L7_e1 y7 e7) then (f60_L7_x1_0 y7 e7) else (0 : Int)))))
def f60_ok (p0 : Int) (p1 : (List Int)) : Prop := (f60t p0 p1).1
def f60 (p0 : Int) (p1 : (List Int)) : Int := (f60t p0 p1).2
instance (p0 : Int) (p1 : (List Int)) : Decidable (f60_ok p0 p1) := by
 unfold f60_ok f60t
 try dsimp only
 infer_instance
def f60_spec : Am.Spec := fnSpec [(0, vI), (1, (.val (.sl (.int .i64))))] vI [] (fun x => f60_ok x.1 x.2.1) (fun x => f60 x.1 x.2.1) (fun _ => ())
def f60_ctx : Ctx := Cx tys [(88, f88_spec)] [(7, f60_L7_spec)] [(7, [(4, 0, 15, 1005)])] false 45 [] []
theorem f60_cok : CtxOk Tryz.prog f60_ctx := ctxOk_mk tys_ok rfl ⟨f88_is, trivial⟩ rfl (by kernel_rfl)
noncomputable def f60_code : Code := Tryz.f60.body.getD .skip
noncomputable def f60_L7 : Code := nthLoop f60_code 0
theorem f60_L7_is : LoopSnd Tryz.prog f60_ctx f60_L7 := lgen f60_cok mixed (sp := f60_L7_spec) rfl [[(4, vI)], []] (bs := []) (by kernel_rfl) trivial (by kernel_rfl) (by kernel_rfl) fun y x => by kernel_rfl
theorem f60_is : SpecOk Tryz.prog 60 f60_spec := fgen f60_cok mixed Tryz.func60 (by kernel_rfl) (bs := [f60_L7]) (by kernel_rfl) ⟨f60_L7_is, trivial⟩ fun x => by kernel_rfl

-- imageeditor/warp.Check
abbrev f61_L6_Y : Type := ((List D55) × Int × Unit)
abbrev f61_L6_X : Type := (Int × Unit)
def f61_L6t (y : f61_L6_Y) (x : f61_L6_X) : Prop × Bool × f61_L6_X × Bool × Bool :=
 let a43 := y.1 
 let a45 := x.1 
 let v46 := (decide (a45 < y.2.1))
 let v47 := (nth a43 a45 Z55)
 let v66 := (bif (bif (bif (decide (v47.1 < (-1048576))) then true else (decide (v47.1 > 1048576))) then true else (decide (v47.2.1 < (-1048576)))) then true else (decide (v47.2.1 > 1048576)))
 ((v46 = true → (InB a45 (len a43) ∧ ((!v66) = true → InR (a45 + 1)))), (v46 && (!v66)), ((a45 + 1), ()), (v46 && v66), (!v46))
def f61_L6_ok (y : f61_L6_Y) (x : f61_L6_X) : Prop := (f61_L6t y x).1
def f61_L6_g (y : f61_L6_Y) (x : f61_L6_X) : Bool := (f61_L6t y x).2.1
def f61_L6_next (y : f61_L6_Y) (x : f61_L6_X) : f61_L6_X := (f61_L6t y x).2.2.1
def f61_L6_e1 (y : f61_L6_Y) (x : f61_L6_X) : Bool := (f61_L6t y x).2.2.2.1
def f61_L6_e2 (y : f61_L6_Y) (x : f61_L6_X) : Bool := (f61_L6t y x).2.2.2.2
instance (y : f61_L6_Y) (x : f61_L6_X) : Decidable (f61_L6_ok y x) := by
 unfold f61_L6_ok f61_L6t
 try dsimp only
 infer_instance
def f61_L6_x1_0 (y : f61_L6_Y) (x : f61_L6_X) : Int :=
 (2 : Int)
def f61_L6_spec : St → Option Out := loopS [(43, (.val (.sl T55))), (44, vI)] [(45, vI)] f61_L6_g f61_L6_next f61_L6_ok fun y x => [ex 1 (some (f61_L6_e1 y x)) [(2, vI)] ((f61_L6_x1_0 y x), ()), ex 2 (some (f61_L6_e2 y x)) [] ()]
def f61t (p0 : D35) : Prop × Int :=
 let v22 := (bif (bif (bif (decide (p0.1 < 2)) then true else (decide (p0.1 > 8))) then true else (decide (p0.2.1 < 2))) then true else (decide (p0.2.1 > 8)))
 let v30 := (bif (decide (p0.2.2.1 < 1)) then true else (decide (p0.2.2.1 > 256)))
 let v41 := (bif v30 then true else ((len p0.2.2.2.1) != (p0.1 * p0.2.1)))
 let y6 := (p0.2.2.2.1, (len p0.2.2.2.1), ())
 let x6 := ((0 : Int), ())
 let e6 := (loopEnd (f61_L6_g y6) (f61_L6_next y6) x6)
 (((!v22) = true → (((!v30) = true → InR (p0.1 * p0.2.1)) ∧ ((!v41) = true → (Am.Ends (f61_L6_g y6) (f61_L6_next y6) (f61_L6_ok y6) x6)))), (bif v22 then (15 : Int) else (bif v41 then (15 : Int) else (bif (f61_L6_e1 y6 e6) then (f61_L6_x1_0 y6 e6) else (0 : Int)))))
def f61_ok (p0 : D35) : Prop := (f61t p0).1
def f61 (p0 : D35) : Int := (f61t p0).2
instance (p0 : D35) : Decidable (f61_ok p0) := by
 unfold f61_ok f61t
 try dsimp only
 infer_instance
def f61_spec : Am.Spec := fnSpec [(0, (.val T35))] vI [] (fun x => f61_ok x.1) (fun x => f61 x.1) (fun _ => ())
def f61_ctx : Ctx := Cx tys [] [(6, f61_L6_spec)] [] false 68 [] []
theorem f61_cok : CtxOk Tryz.prog f61_ctx := ctxOk_mk tys_ok rfl trivial rfl (by kernel_rfl)
noncomputable def f61_code : Code := Tryz.f61.body.getD .skip
noncomputable def f61_L6 : Code := nthLoop f61_code 0
theorem f61_L6_is : LoopSnd Tryz.prog f61_ctx f61_L6 := lgen f61_cok mixed (sp := f61_L6_spec) rfl [[(2, vI)], []] (bs := []) (by kernel_rfl) trivial (by kernel_rfl) (by kernel_rfl) fun y x => by kernel_rfl
theorem f61_is : SpecOk Tryz.prog 61 f61_spec := fgen f61_cok mixed Tryz.func61 (by kernel_rfl) (bs := [f61_L6]) (by kernel_rfl) ⟨f61_L6_is, trivial⟩ fun x => by kernel_rfl

-- imageeditor/node.checkContent
def f27t (p0 : D37) : Prop × Int :=
 let v6 := (p0.2.1 == 2)
 let v11 := (p0.2.1 == 3)
 let v16 := (p0.2.1 == 4)
 let v27 := (p0.2.1 == 5)
 let v31 := (p0.2.1 == 6)
 let v35 := (p0.2.1 == 7)
 let v44 := (p0.2.1 == 8)
 let v51 := (p0.2.1 == 9)
 let m50 := (bif v51 then v51 else (p0.2.1 == 10))
 let v62 := (p0.2.1 == 11)
 let c_2 := (bif v44 then true else (bif m50 then (bif (decide (p0.2.2.2.2.2.2.2.2.2.2.2.2.2.2.2.2.2.2.2.2.2.2.2.2.2.2.1 < 1)) then true else (decide (p0.2.2.2.2.2.2.2.2.2.2.2.2.2.2.2.2.2.2.2.2.2.2.2.2.2.2.1 > 1073741824))) else v62))
 let m2_2 := (bif v35 then (f59 p0.2.2.2.2.2.2.2.2.2.2.2.2.2.2.1 p0.2.2.2.2.2.2.2.2.2.2.2.2.2.2.2.1 p0.2.2.2.2.2.2.2.2.2.2.2.2.2.2.2.2.2.1) else (bif v44 then (f60 p0.2.2.2.2.2.2.2.2.2.2.2.2.2.2.1 p0.2.2.2.2.2.2.2.2.2.2.2.2.2.2.2.1) else (bif m50 then (2 : Int) else (f61 p0.2.2.2.2.2.2.2.2.2.2.2.2.2.2.2.2.2.2.2.2.2.2.2.2.2.2.2.1))))
 let m2_5 := (bif v16 then (f56 p0.2.2.2.2.2.2.2.2.2.2.2.2.2.2.1 p0.2.2.2.2.2.2.2.2.2.2.2.2.2.2.2.1 p0.2.2.2.2.2.2.2.2.2.2.2.2.2.2.2.2.1 p0.2.2.2.2.2.2.2.2.2.2.2.2.2.2.2.2.2.1) else (bif v27 then (f57 p0) else (bif v31 then (f58 p0) else m2_2)))
 let m2_8 := (bif (bif v6 then true else (bif v11 then true else (bif v16 then true else (bif v27 then true else (bif v31 then true else (bif v35 then true else c_2)))))) then (bif v6 then (f54 p0.2.2.2.2.2.2.2.2.2.2.2.2.1) else (bif v11 then (f55 p0.2.2.2.2.2.2.2.2.2.2.2.2.2.1) else m2_5)) else (0 : Int))
 (((v6 = true → (f54_ok p0.2.2.2.2.2.2.2.2.2.2.2.2.1)) ∧ (v6 = false → ((v11 = true → (f55_ok p0.2.2.2.2.2.2.2.2.2.2.2.2.2.1)) ∧ (v11 = false → ((v16 = true → (f56_ok p0.2.2.2.2.2.2.2.2.2.2.2.2.2.2.1 p0.2.2.2.2.2.2.2.2.2.2.2.2.2.2.2.1 p0.2.2.2.2.2.2.2.2.2.2.2.2.2.2.2.2.1 p0.2.2.2.2.2.2.2.2.2.2.2.2.2.2.2.2.2.1)) ∧ (v16 = false → ((v27 = true → (f57_ok p0)) ∧ (v27 = false → ((v31 = true → (f58_ok p0)) ∧ (v31 = false → ((v35 = true → (f59_ok p0.2.2.2.2.2.2.2.2.2.2.2.2.2.2.1 p0.2.2.2.2.2.2.2.2.2.2.2.2.2.2.2.1 p0.2.2.2.2.2.2.2.2.2.2.2.2.2.2.2.2.2.1)) ∧ (v35 = false → ((v44 = true → (f60_ok p0.2.2.2.2.2.2.2.2.2.2.2.2.2.2.1 p0.2.2.2.2.2.2.2.2.2.2.2.2.2.2.2.1)) ∧ (v44 = false → (m50 = false → (v62 = true → (f61_ok p0.2.2.2.2.2.2.2.2.2.2.2.2.2.2.2.2.2.2.2.2.2.2.2.2.2.2.2.1))))))))))))))))), m2_8)
def f27_ok (p0 : D37) : Prop := (f27t p0).1
def f27 (p0 : D37) : Int := (f27t p0).2
instance (p0 : D37) : Decidable (f27_ok p0) := by
 unfold f27_ok f27t
 try dsimp only
 infer_instance
def f27_spec : Am.Spec := fnSpec [(0, (.val T37))] vI [] (fun x => f27_ok x.1) (fun x => f27 x.1) (fun _ => ())
def f27_ctx : Ctx := Cx tys [(54, f54_spec), (55, f55_spec), (56, f56_spec), (57, f57_spec), (58, f58_spec), (59, f59_spec), (60, f60_spec), (61, f61_spec)] [] [] false 66 [] []
theorem f27_cok : CtxOk Tryz.prog f27_ctx := ctxOk_mk tys_ok rfl ⟨f54_is, f55_is, f56_is, f57_is, f58_is, f59_is, f60_is, f61_is, trivial⟩ rfl (by kernel_rfl)
theorem f27_is : SpecOk Tryz.prog 27 f27_spec := fgen f27_cok mixed Tryz.func27 (by kernel_rfl) (bs := []) (by kernel_rfl) trivial fun x => by kernel_rfl

-- imageeditor/node.bare
def f28t (p0 : D37) : Prop × Bool :=
 let v17 := (bif (bif (!(Ty.eqb T25 p0.2.2.2.2.2.2.2.2.2.2.1 ((0 : Int), (0 : Int), (0 : Int), (0 : Int), (0 : Int), (0 : Int), ()))) then true else (p0.2.2.2.2.2.2.2.2.2.2.2.1 != 0)) then true else (!(Ty.eqb T30 p0.2.2.2.2.2.2.2.2.2.2.2.2.2.1 ((0 : Int), (0 : Int), (0 : Int), (0 : Int), ()))))
 let v54 := (bif (bif (bif (p0.2.2.2.2.2.2.2.2.2.2.2.2.2.2.1 != 0) then true else ((len p0.2.2.2.2.2.2.2.2.2.2.2.2.2.2.2.1) != 0)) then true else (p0.2.2.2.2.2.2.2.2.2.2.2.2.2.2.2.2.1 != 0)) then true else ((len p0.2.2.2.2.2.2.2.2.2.2.2.2.2.2.2.2.2.1) != 0))
 let v73 := (bif (bif (bif ((len p0.2.2.2.2.2.2.2.2.2.2.2.2.2.2.2.2.2.2.1) != 0) then true else (p0.2.2.2.2.2.2.2.2.2.2.2.2.2.2.2.2.2.2.2.1 != 0)) then true else (p0.2.2.2.2.2.2.2.2.2.2.2.2.2.2.2.2.2.2.2.2.1 != 0)) then true else (p0.2.2.2.2.2.2.2.2.2.2.2.2.2.2.2.2.2.2.2.2.2.1 != 0))
 let v91 := (bif (bif (!(p0.2.2.2.2.2.2.2.2.2.2.2.2.2.2.2.2.2.2.2.2.2.2.2.1 == ([] : List UInt8))) then true else (p0.2.2.2.2.2.2.2.2.2.2.2.2.2.2.2.2.2.2.2.2.2.2.2.2.1 != 0)) then true else (p0.2.2.2.2.2.2.2.2.2.2.2.2.2.2.2.2.2.2.2.2.2.2.2.2.2.1 != 0))
 let v112 := (bif (bif (p0.2.2.2.2.2.2.2.2.2.2.2.2.2.2.2.2.2.2.2.2.2.2.2.2.2.2.2.1.1 == 0) then (p0.2.2.2.2.2.2.2.2.2.2.2.2.2.2.2.2.2.2.2.2.2.2.2.2.2.2.2.1.2.1 == 0) else false) then (p0.2.2.2.2.2.2.2.2.2.2.2.2.2.2.2.2.2.2.2.2.2.2.2.2.2.2.2.1.2.2.1 == 0) else false)
 let m2 := (bif (bif v91 then true else (p0.2.2.2.2.2.2.2.2.2.2.2.2.2.2.2.2.2.2.2.2.2.2.2.2.2.2.1 != 0)) then false else (bif v112 then ((len p0.2.2.2.2.2.2.2.2.2.2.2.2.2.2.2.2.2.2.2.2.2.2.2.2.2.2.2.1.2.2.2.1) == 0) else false))
 let m2_3 := (bif (bif (bif (p0.2.2.2.2.2.2.2.2.2.2.2.2.1.1 != 0) then true else (p0.2.2.2.2.2.2.2.2.2.2.2.2.1.2.1 != 0)) then true else ((len p0.2.2.2.2.2.2.2.2.2.2.2.2.1.2.2.1) != 0)) then false else (bif v54 then false else (bif (bif v73 then true else (p0.2.2.2.2.2.2.2.2.2.2.2.2.2.2.2.2.2.2.2.2.2.2.1 != 0)) then false else m2)))
 (True, (bif v17 then false else m2_3))
def f28_ok (p0 : D37) : Prop := (f28t p0).1
def f28 (p0 : D37) : Bool := (f28t p0).2
instance (p0 : D37) : Decidable (f28_ok p0) := by
 unfold f28_ok f28t
 try dsimp only
 infer_instance
def f28_spec : Am.Spec := fnSpec [(0, (.val T37))] vB [] (fun x => f28_ok x.1) (fun x => f28 x.1) (fun _ => ())
def f28_ctx : Ctx := Cx tys [] [] [] false 120 [] []
theorem f28_cok : CtxOk Tryz.prog f28_ctx := ctxOk_mk tys_ok rfl trivial rfl (by kernel_rfl)
theorem f28_is : SpecOk Tryz.prog 28 f28_spec := fgen f28_cok mixed Tryz.func28 (by kernel_rfl) (bs := []) (by kernel_rfl) trivial fun x => by kernel_rfl

-- imageeditor/node.rest
def f29t (p0 : D37) : Prop × D37 :=
 let s_1 := (p0.1, p0.2.1, p0.2.2.1, p0.2.2.2.1, p0.2.2.2.2.1, p0.2.2.2.2.2.1, p0.2.2.2.2.2.2.1, p0.2.2.2.2.2.2.2.1, p0.2.2.2.2.2.2.2.2.1, p0.2.2.2.2.2.2.2.2.2.1, ((0 : Int), (0 : Int), (0 : Int), (0 : Int), (0 : Int), (0 : Int), ()), p0.2.2.2.2.2.2.2.2.2.2.2.1, p0.2.2.2.2.2.2.2.2.2.2.2.2.1, p0.2.2.2.2.2.2.2.2.2.2.2.2.2.1, p0.2.2.2.2.2.2.2.2.2.2.2.2.2.2.1, p0.2.2.2.2.2.2.2.2.2.2.2.2.2.2.2.1, p0.2.2.2.2.2.2.2.2.2.2.2.2.2.2.2.2.1, p0.2.2.2.2.2.2.2.2.2.2.2.2.2.2.2.2.2.1, p0.2.2.2.2.2.2.2.2.2.2.2.2.2.2.2.2.2.2.1, p0.2.2.2.2.2.2.2.2.2.2.2.2.2.2.2.2.2.2.2.1, p0.2.2.2.2.2.2.2.2.2.2.2.2.2.2.2.2.2.2.2.2.1, p0.2.2.2.2.2.2.2.2.2.2.2.2.2.2.2.2.2.2.2.2.2.1, p0.2.2.2.2.2.2.2.2.2.2.2.2.2.2.2.2.2.2.2.2.2.2.1, p0.2.2.2.2.2.2.2.2.2.2.2.2.2.2.2.2.2.2.2.2.2.2.2.1, p0.2.2.2.2.2.2.2.2.2.2.2.2.2.2.2.2.2.2.2.2.2.2.2.2.1, p0.2.2.2.2.2.2.2.2.2.2.2.2.2.2.2.2.2.2.2.2.2.2.2.2.2.1, p0.2.2.2.2.2.2.2.2.2.2.2.2.2.2.2.2.2.2.2.2.2.2.2.2.2.2.1, p0.2.2.2.2.2.2.2.2.2.2.2.2.2.2.2.2.2.2.2.2.2.2.2.2.2.2.2.1, ())
 let m1 := (bif (f15 p0.2.1) then s_1 else p0)
 let s_2 := (m1.1, m1.2.1, m1.2.2.1, m1.2.2.2.1, m1.2.2.2.2.1, m1.2.2.2.2.2.1, m1.2.2.2.2.2.2.1, m1.2.2.2.2.2.2.2.1, m1.2.2.2.2.2.2.2.2.1, m1.2.2.2.2.2.2.2.2.2.1, m1.2.2.2.2.2.2.2.2.2.2.1, (0 : Int), m1.2.2.2.2.2.2.2.2.2.2.2.2.1, m1.2.2.2.2.2.2.2.2.2.2.2.2.2.1, m1.2.2.2.2.2.2.2.2.2.2.2.2.2.2.1, m1.2.2.2.2.2.2.2.2.2.2.2.2.2.2.2.1, m1.2.2.2.2.2.2.2.2.2.2.2.2.2.2.2.2.1, m1.2.2.2.2.2.2.2.2.2.2.2.2.2.2.2.2.2.1, m1.2.2.2.2.2.2.2.2.2.2.2.2.2.2.2.2.2.2.1, m1.2.2.2.2.2.2.2.2.2.2.2.2.2.2.2.2.2.2.2.1, m1.2.2.2.2.2.2.2.2.2.2.2.2.2.2.2.2.2.2.2.2.1, m1.2.2.2.2.2.2.2.2.2.2.2.2.2.2.2.2.2.2.2.2.2.1, m1.2.2.2.2.2.2.2.2.2.2.2.2.2.2.2.2.2.2.2.2.2.2.1, m1.2.2.2.2.2.2.2.2.2.2.2.2.2.2.2.2.2.2.2.2.2.2.2.1, m1.2.2.2.2.2.2.2.2.2.2.2.2.2.2.2.2.2.2.2.2.2.2.2.2.1, m1.2.2.2.2.2.2.2.2.2.2.2.2.2.2.2.2.2.2.2.2.2.2.2.2.2.1, m1.2.2.2.2.2.2.2.2.2.2.2.2.2.2.2.2.2.2.2.2.2.2.2.2.2.2.1, m1.2.2.2.2.2.2.2.2.2.2.2.2.2.2.2.2.2.2.2.2.2.2.2.2.2.2.2.1, ())
 let m1_1 := (bif (f17 m1.2.1) then s_2 else m1)
 let s_4 := (m1_1.1, m1_1.2.1, m1_1.2.2.1, m1_1.2.2.2.1, m1_1.2.2.2.2.1, m1_1.2.2.2.2.2.1, m1_1.2.2.2.2.2.2.1, m1_1.2.2.2.2.2.2.2.1, m1_1.2.2.2.2.2.2.2.2.1, m1_1.2.2.2.2.2.2.2.2.2.1, m1_1.2.2.2.2.2.2.2.2.2.2.1, m1_1.2.2.2.2.2.2.2.2.2.2.2.1, ((0 : Int), (0 : Int), ([] : List D30), ()), m1_1.2.2.2.2.2.2.2.2.2.2.2.2.2.1, m1_1.2.2.2.2.2.2.2.2.2.2.2.2.2.2.1, m1_1.2.2.2.2.2.2.2.2.2.2.2.2.2.2.2.1, m1_1.2.2.2.2.2.2.2.2.2.2.2.2.2.2.2.2.1, m1_1.2.2.2.2.2.2.2.2.2.2.2.2.2.2.2.2.2.1, m1_1.2.2.2.2.2.2.2.2.2.2.2.2.2.2.2.2.2.2.1, m1_1.2.2.2.2.2.2.2.2.2.2.2.2.2.2.2.2.2.2.2.1, m1_1.2.2.2.2.2.2.2.2.2.2.2.2.2.2.2.2.2.2.2.2.1, m1_1.2.2.2.2.2.2.2.2.2.2.2.2.2.2.2.2.2.2.2.2.2.1, m1_1.2.2.2.2.2.2.2.2.2.2.2.2.2.2.2.2.2.2.2.2.2.2.1, m1_1.2.2.2.2.2.2.2.2.2.2.2.2.2.2.2.2.2.2.2.2.2.2.2.1, m1_1.2.2.2.2.2.2.2.2.2.2.2.2.2.2.2.2.2.2.2.2.2.2.2.2.1, m1_1.2.2.2.2.2.2.2.2.2.2.2.2.2.2.2.2.2.2.2.2.2.2.2.2.2.1, m1_1.2.2.2.2.2.2.2.2.2.2.2.2.2.2.2.2.2.2.2.2.2.2.2.2.2.2.1, m1_1.2.2.2.2.2.2.2.2.2.2.2.2.2.2.2.2.2.2.2.2.2.2.2.2.2.2.2.1, ())
 let s_6 := (m1_1.1, m1_1.2.1, m1_1.2.2.1, m1_1.2.2.2.1, m1_1.2.2.2.2.1, m1_1.2.2.2.2.2.1, m1_1.2.2.2.2.2.2.1, m1_1.2.2.2.2.2.2.2.1, m1_1.2.2.2.2.2.2.2.2.1, m1_1.2.2.2.2.2.2.2.2.2.1, m1_1.2.2.2.2.2.2.2.2.2.2.1, m1_1.2.2.2.2.2.2.2.2.2.2.2.1, m1_1.2.2.2.2.2.2.2.2.2.2.2.2.1, ((0 : Int), (0 : Int), (0 : Int), (0 : Int), ()), m1_1.2.2.2.2.2.2.2.2.2.2.2.2.2.2.1, m1_1.2.2.2.2.2.2.2.2.2.2.2.2.2.2.2.1, m1_1.2.2.2.2.2.2.2.2.2.2.2.2.2.2.2.2.1, m1_1.2.2.2.2.2.2.2.2.2.2.2.2.2.2.2.2.2.1, m1_1.2.2.2.2.2.2.2.2.2.2.2.2.2.2.2.2.2.2.1, m1_1.2.2.2.2.2.2.2.2.2.2.2.2.2.2.2.2.2.2.2.1, m1_1.2.2.2.2.2.2.2.2.2.2.2.2.2.2.2.2.2.2.2.2.1, m1_1.2.2.2.2.2.2.2.2.2.2.2.2.2.2.2.2.2.2.2.2.2.1, m1_1.2.2.2.2.2.2.2.2.2.2.2.2.2.2.2.2.2.2.2.2.2.2.1, m1_1.2.2.2.2.2.2.2.2.2.2.2.2.2.2.2.2.2.2.2.2.2.2.2.1, m1_1.2.2.2.2.2.2.2.2.2.2.2.2.2.2.2.2.2.2.2.2.2.2.2.2.1, m1_1.2.2.2.2.2.2.2.2.2.2.2.2.2.2.2.2.2.2.2.2.2.2.2.2.2.1, m1_1.2.2.2.2.2.2.2.2.2.2.2.2.2.2.2.2.2.2.2.2.2.2.2.2.2.2.1, m1_1.2.2.2.2.2.2.2.2.2.2.2.2.2.2.2.2.2.2.2.2.2.2.2.2.2.2.2.1, ())
 let s_10 := (m1_1.1, m1_1.2.1, m1_1.2.2.1, m1_1.2.2.2.1, m1_1.2.2.2.2.1, m1_1.2.2.2.2.2.1, m1_1.2.2.2.2.2.2.1, m1_1.2.2.2.2.2.2.2.1, m1_1.2.2.2.2.2.2.2.2.1, m1_1.2.2.2.2.2.2.2.2.2.1, m1_1.2.2.2.2.2.2.2.2.2.2.1, m1_1.2.2.2.2.2.2.2.2.2.2.2.1, m1_1.2.2.2.2.2.2.2.2.2.2.2.2.1, m1_1.2.2.2.2.2.2.2.2.2.2.2.2.2.1, (0 : Int), ([] : List Int), (0 : Int), ([] : List D53), m1_1.2.2.2.2.2.2.2.2.2.2.2.2.2.2.2.2.2.2.1, m1_1.2.2.2.2.2.2.2.2.2.2.2.2.2.2.2.2.2.2.2.1, m1_1.2.2.2.2.2.2.2.2.2.2.2.2.2.2.2.2.2.2.2.2.1, m1_1.2.2.2.2.2.2.2.2.2.2.2.2.2.2.2.2.2.2.2.2.2.1, m1_1.2.2.2.2.2.2.2.2.2.2.2.2.2.2.2.2.2.2.2.2.2.2.1, m1_1.2.2.2.2.2.2.2.2.2.2.2.2.2.2.2.2.2.2.2.2.2.2.2.1, m1_1.2.2.2.2.2.2.2.2.2.2.2.2.2.2.2.2.2.2.2.2.2.2.2.2.1, m1_1.2.2.2.2.2.2.2.2.2.2.2.2.2.2.2.2.2.2.2.2.2.2.2.2.2.1, m1_1.2.2.2.2.2.2.2.2.2.2.2.2.2.2.2.2.2.2.2.2.2.2.2.2.2.2.1, m1_1.2.2.2.2.2.2.2.2.2.2.2.2.2.2.2.2.2.2.2.2.2.2.2.2.2.2.2.1, ())
 let s_17 := (m1_1.1, m1_1.2.1, m1_1.2.2.1, m1_1.2.2.2.1, m1_1.2.2.2.2.1, m1_1.2.2.2.2.2.1, m1_1.2.2.2.2.2.2.1, m1_1.2.2.2.2.2.2.2.1, m1_1.2.2.2.2.2.2.2.2.1, m1_1.2.2.2.2.2.2.2.2.2.1, m1_1.2.2.2.2.2.2.2.2.2.2.1, m1_1.2.2.2.2.2.2.2.2.2.2.2.1, m1_1.2.2.2.2.2.2.2.2.2.2.2.2.1, ((0 : Int), (0 : Int), (0 : Int), (0 : Int), ()), m1_1.2.2.2.2.2.2.2.2.2.2.2.2.2.2.1, m1_1.2.2.2.2.2.2.2.2.2.2.2.2.2.2.2.1, m1_1.2.2.2.2.2.2.2.2.2.2.2.2.2.2.2.2.1, m1_1.2.2.2.2.2.2.2.2.2.2.2.2.2.2.2.2.2.1, ([] : List D58), (0 : Int), (0 : Int), (0 : Int), (0 : Int), m1_1.2.2.2.2.2.2.2.2.2.2.2.2.2.2.2.2.2.2.2.2.2.2.2.1, m1_1.2.2.2.2.2.2.2.2.2.2.2.2.2.2.2.2.2.2.2.2.2.2.2.2.1, m1_1.2.2.2.2.2.2.2.2.2.2.2.2.2.2.2.2.2.2.2.2.2.2.2.2.2.1, m1_1.2.2.2.2.2.2.2.2.2.2.2.2.2.2.2.2.2.2.2.2.2.2.2.2.2.2.1, m1_1.2.2.2.2.2.2.2.2.2.2.2.2.2.2.2.2.2.2.2.2.2.2.2.2.2.2.2.1, ())
 let s_22 := (m1_1.1, m1_1.2.1, m1_1.2.2.1, m1_1.2.2.2.1, m1_1.2.2.2.2.1, m1_1.2.2.2.2.2.1, m1_1.2.2.2.2.2.2.1, m1_1.2.2.2.2.2.2.2.1, m1_1.2.2.2.2.2.2.2.2.1, m1_1.2.2.2.2.2.2.2.2.2.1, m1_1.2.2.2.2.2.2.2.2.2.2.1, m1_1.2.2.2.2.2.2.2.2.2.2.2.1, m1_1.2.2.2.2.2.2.2.2.2.2.2.2.1, ((0 : Int), (0 : Int), (0 : Int), (0 : Int), ()), m1_1.2.2.2.2.2.2.2.2.2.2.2.2.2.2.1, m1_1.2.2.2.2.2.2.2.2.2.2.2.2.2.2.2.1, m1_1.2.2.2.2.2.2.2.2.2.2.2.2.2.2.2.2.1, m1_1.2.2.2.2.2.2.2.2.2.2.2.2.2.2.2.2.2.1, m1_1.2.2.2.2.2.2.2.2.2.2.2.2.2.2.2.2.2.2.1, m1_1.2.2.2.2.2.2.2.2.2.2.2.2.2.2.2.2.2.2.2.1, m1_1.2.2.2.2.2.2.2.2.2.2.2.2.2.2.2.2.2.2.2.2.1, m1_1.2.2.2.2.2.2.2.2.2.2.2.2.2.2.2.2.2.2.2.2.2.1, m1_1.2.2.2.2.2.2.2.2.2.2.2.2.2.2.2.2.2.2.2.2.2.2.1, ([] : List UInt8), (0 : Int), (0 : Int), m1_1.2.2.2.2.2.2.2.2.2.2.2.2.2.2.2.2.2.2.2.2.2.2.2.2.2.2.1, m1_1.2.2.2.2.2.2.2.2.2.2.2.2.2.2.2.2.2.2.2.2.2.2.2.2.2.2.2.1, ())
 let s_25 := (m1_1.1, m1_1.2.1, m1_1.2.2.1, m1_1.2.2.2.1, m1_1.2.2.2.2.1, m1_1.2.2.2.2.2.1, m1_1.2.2.2.2.2.2.1, m1_1.2.2.2.2.2.2.2.1, m1_1.2.2.2.2.2.2.2.2.1, m1_1.2.2.2.2.2.2.2.2.2.1, m1_1.2.2.2.2.2.2.2.2.2.2.1, m1_1.2.2.2.2.2.2.2.2.2.2.2.1, m1_1.2.2.2.2.2.2.2.2.2.2.2.2.1, m1_1.2.2.2.2.2.2.2.2.2.2.2.2.2.1, (0 : Int), ([] : List Int), m1_1.2.2.2.2.2.2.2.2.2.2.2.2.2.2.2.2.1, ([] : List D53), m1_1.2.2.2.2.2.2.2.2.2.2.2.2.2.2.2.2.2.2.1, m1_1.2.2.2.2.2.2.2.2.2.2.2.2.2.2.2.2.2.2.2.1, m1_1.2.2.2.2.2.2.2.2.2.2.2.2.2.2.2.2.2.2.2.2.1, m1_1.2.2.2.2.2.2.2.2.2.2.2.2.2.2.2.2.2.2.2.2.2.1, m1_1.2.2.2.2.2.2.2.2.2.2.2.2.2.2.2.2.2.2.2.2.2.2.1, m1_1.2.2.2.2.2.2.2.2.2.2.2.2.2.2.2.2.2.2.2.2.2.2.2.1, m1_1.2.2.2.2.2.2.2.2.2.2.2.2.2.2.2.2.2.2.2.2.2.2.2.2.1, m1_1.2.2.2.2.2.2.2.2.2.2.2.2.2.2.2.2.2.2.2.2.2.2.2.2.2.1, m1_1.2.2.2.2.2.2.2.2.2.2.2.2.2.2.2.2.2.2.2.2.2.2.2.2.2.2.1, m1_1.2.2.2.2.2.2.2.2.2.2.2.2.2.2.2.2.2.2.2.2.2.2.2.2.2.2.2.1, ())
 let s_27 := (m1_1.1, m1_1.2.1, m1_1.2.2.1, m1_1.2.2.2.1, m1_1.2.2.2.2.1, m1_1.2.2.2.2.2.1, m1_1.2.2.2.2.2.2.1, m1_1.2.2.2.2.2.2.2.1, m1_1.2.2.2.2.2.2.2.2.1, m1_1.2.2.2.2.2.2.2.2.2.1, m1_1.2.2.2.2.2.2.2.2.2.2.1, m1_1.2.2.2.2.2.2.2.2.2.2.2.1, m1_1.2.2.2.2.2.2.2.2.2.2.2.2.1, m1_1.2.2.2.2.2.2.2.2.2.2.2.2.2.1, (0 : Int), ([] : List Int), m1_1.2.2.2.2.2.2.2.2.2.2.2.2.2.2.2.2.1, m1_1.2.2.2.2.2.2.2.2.2.2.2.2.2.2.2.2.2.1, m1_1.2.2.2.2.2.2.2.2.2.2.2.2.2.2.2.2.2.2.1, m1_1.2.2.2.2.2.2.2.2.2.2.2.2.2.2.2.2.2.2.2.1, m1_1.2.2.2.2.2.2.2.2.2.2.2.2.2.2.2.2.2.2.2.2.1, m1_1.2.2.2.2.2.2.2.2.2.2.2.2.2.2.2.2.2.2.2.2.2.1, m1_1.2.2.2.2.2.2.2.2.2.2.2.2.2.2.2.2.2.2.2.2.2.2.1, m1_1.2.2.2.2.2.2.2.2.2.2.2.2.2.2.2.2.2.2.2.2.2.2.2.1, m1_1.2.2.2.2.2.2.2.2.2.2.2.2.2.2.2.2.2.2.2.2.2.2.2.2.1, m1_1.2.2.2.2.2.2.2.2.2.2.2.2.2.2.2.2.2.2.2.2.2.2.2.2.2.1, m1_1.2.2.2.2.2.2.2.2.2.2.2.2.2.2.2.2.2.2.2.2.2.2.2.2.2.2.1, m1_1.2.2.2.2.2.2.2.2.2.2.2.2.2.2.2.2.2.2.2.2.2.2.2.2.2.2.2.1, ())
 let v54 := (m1_1.2.1 == 9)
 let s_28 := (m1_1.1, m1_1.2.1, m1_1.2.2.1, m1_1.2.2.2.1, m1_1.2.2.2.2.1, m1_1.2.2.2.2.2.1, m1_1.2.2.2.2.2.2.1, m1_1.2.2.2.2.2.2.2.1, m1_1.2.2.2.2.2.2.2.2.1, m1_1.2.2.2.2.2.2.2.2.2.1, m1_1.2.2.2.2.2.2.2.2.2.2.1, m1_1.2.2.2.2.2.2.2.2.2.2.2.1, m1_1.2.2.2.2.2.2.2.2.2.2.2.2.1, m1_1.2.2.2.2.2.2.2.2.2.2.2.2.2.1, m1_1.2.2.2.2.2.2.2.2.2.2.2.2.2.2.1, m1_1.2.2.2.2.2.2.2.2.2.2.2.2.2.2.2.1, m1_1.2.2.2.2.2.2.2.2.2.2.2.2.2.2.2.2.1, m1_1.2.2.2.2.2.2.2.2.2.2.2.2.2.2.2.2.2.1, m1_1.2.2.2.2.2.2.2.2.2.2.2.2.2.2.2.2.2.2.1, m1_1.2.2.2.2.2.2.2.2.2.2.2.2.2.2.2.2.2.2.2.1, m1_1.2.2.2.2.2.2.2.2.2.2.2.2.2.2.2.2.2.2.2.2.1, m1_1.2.2.2.2.2.2.2.2.2.2.2.2.2.2.2.2.2.2.2.2.2.1, m1_1.2.2.2.2.2.2.2.2.2.2.2.2.2.2.2.2.2.2.2.2.2.2.1, m1_1.2.2.2.2.2.2.2.2.2.2.2.2.2.2.2.2.2.2.2.2.2.2.2.1, m1_1.2.2.2.2.2.2.2.2.2.2.2.2.2.2.2.2.2.2.2.2.2.2.2.2.1, m1_1.2.2.2.2.2.2.2.2.2.2.2.2.2.2.2.2.2.2.2.2.2.2.2.2.2.1, (0 : Int), m1_1.2.2.2.2.2.2.2.2.2.2.2.2.2.2.2.2.2.2.2.2.2.2.2.2.2.2.2.1, ())
 let s_30 := (m1_1.1, m1_1.2.1, m1_1.2.2.1, m1_1.2.2.2.1, m1_1.2.2.2.2.1, m1_1.2.2.2.2.2.1, m1_1.2.2.2.2.2.2.1, m1_1.2.2.2.2.2.2.2.1, m1_1.2.2.2.2.2.2.2.2.1, m1_1.2.2.2.2.2.2.2.2.2.1, m1_1.2.2.2.2.2.2.2.2.2.2.1, m1_1.2.2.2.2.2.2.2.2.2.2.2.1, m1_1.2.2.2.2.2.2.2.2.2.2.2.2.1, m1_1.2.2.2.2.2.2.2.2.2.2.2.2.2.1, m1_1.2.2.2.2.2.2.2.2.2.2.2.2.2.2.1, m1_1.2.2.2.2.2.2.2.2.2.2.2.2.2.2.2.1, m1_1.2.2.2.2.2.2.2.2.2.2.2.2.2.2.2.2.1, m1_1.2.2.2.2.2.2.2.2.2.2.2.2.2.2.2.2.2.1, m1_1.2.2.2.2.2.2.2.2.2.2.2.2.2.2.2.2.2.2.1, m1_1.2.2.2.2.2.2.2.2.2.2.2.2.2.2.2.2.2.2.2.1, m1_1.2.2.2.2.2.2.2.2.2.2.2.2.2.2.2.2.2.2.2.2.1, m1_1.2.2.2.2.2.2.2.2.2.2.2.2.2.2.2.2.2.2.2.2.2.1, m1_1.2.2.2.2.2.2.2.2.2.2.2.2.2.2.2.2.2.2.2.2.2.2.1, m1_1.2.2.2.2.2.2.2.2.2.2.2.2.2.2.2.2.2.2.2.2.2.2.2.1, m1_1.2.2.2.2.2.2.2.2.2.2.2.2.2.2.2.2.2.2.2.2.2.2.2.2.1, m1_1.2.2.2.2.2.2.2.2.2.2.2.2.2.2.2.2.2.2.2.2.2.2.2.2.2.1, m1_1.2.2.2.2.2.2.2.2.2.2.2.2.2.2.2.2.2.2.2.2.2.2.2.2.2.2.1, ((0 : Int), (0 : Int), (0 : Int), ([] : List D55), ()), ())
 let m1_6 := (bif (m1_1.2.1 == 6) then s_22 else (bif (m1_1.2.1 == 7) then s_25 else (bif (m1_1.2.1 == 8) then s_27 else (bif (bif v54 then v54 else (m1_1.2.1 == 10)) then s_28 else (bif (m1_1.2.1 == 11) then s_30 else m1_1)))))
 (((f15_ok p0.2.1) ∧ (f17_ok m1.2.1)), (bif (m1_1.2.1 == 2) then s_4 else (bif (m1_1.2.1 == 3) then s_6 else (bif (m1_1.2.1 == 4) then s_10 else (bif (m1_1.2.1 == 5) then s_17 else m1_6)))))
def f29_ok (p0 : D37) : Prop := (f29t p0).1
def f29 (p0 : D37) : D37 := (f29t p0).2
instance (p0 : D37) : Decidable (f29_ok p0) := by
 unfold f29_ok f29t
 try dsimp only
 infer_instance
def f29_spec : Am.Spec := fnSpec [(0, (.val T37))] (.val T37) [] (fun x => f29_ok x.1) (fun x => f29 x.1) (fun _ => ())
def f29_ctx : Ctx := Cx tys [(15, f15_spec), (17, f17_spec)] [] [] false 62 [] []
theorem f29_cok : CtxOk Tryz.prog f29_ctx := ctxOk_mk tys_ok rfl ⟨f15_is, f17_is, trivial⟩ rfl (by kernel_rfl)
theorem f29_is : SpecOk Tryz.prog 29 f29_spec := fgen f29_cok mixed Tryz.func29 (by kernel_rfl) (bs := []) (by kernel_rfl) trivial fun x => by kernel_rfl

-- imageeditor/node.Check
def f11t (p0 : D37) (p1 : Int) (p2 : Int) : Prop × Int :=
 let v15 := (f23 p0 p1 p2)
 let v17 := (v15 != 0)
 let v21 := (f15 p0.2.1)
 let v24 := (f24 p0.2.2.2.2.2.2.2.2.2.2.1)
 let v26 := (v24 != 0)
 let v31 := (f25 p0.2.2.2.2.2.2.2.2.2.2.1)
 let v35 := (v31.2.1 != 0)
 let v39 := (f17 p0.2.1)
 let v45 := (bif v39 then (!(f26 p0.2.2.2.2.2.2.2.2.2.2.2.1)) else false)
 let v47 := (f27 p0)
 let v49 := (v47 != 0)
 let v52 := (f29 p0)
 let m6_5 := (bif v17 then v15 else (bif ((v26 || ((!v26) && v35)) && v21) then (bif v26 then v24 else v31.2.1) else (bif v45 then (8 : Int) else (bif v49 then v47 else (bif (!(f28 v52)) then (1 : Int) else (0 : Int))))))
 (((f23_ok p0 p1 p2) ∧ ((!v17) = true → ((f15_ok p0.2.1) ∧ ((v21 = true → ((f24_ok p0.2.2.2.2.2.2.2.2.2.2.1) ∧ ((!v26) = true → (f25_ok p0.2.2.2.2.2.2.2.2.2.2.1)))) ∧ ((bif v21 then ((!v26) && (!v35)) else true) = true → ((f17_ok p0.2.1) ∧ ((v39 = true → (f26_ok p0.2.2.2.2.2.2.2.2.2.2.2.1)) ∧ ((!v45) = true → ((f27_ok p0) ∧ ((!v49) = true → ((f29_ok p0) ∧ (f28_ok v52)))))))))))), m6_5)
def f11_ok (p0 : D37) (p1 : Int) (p2 : Int) : Prop := (f11t p0 p1 p2).1
def f11 (p0 : D37) (p1 : Int) (p2 : Int) : Int := (f11t p0 p1 p2).2
instance (p0 : D37) (p1 : Int) (p2 : Int) : Decidable (f11_ok p0 p1 p2) := by
 unfold f11_ok f11t
 try dsimp only
 infer_instance
def f11_spec : Am.Spec := fnSpec [(0, (.val T37)), (1, vI), (2, vI)] vI [] (fun x => f11_ok x.1 x.2.1 x.2.2.1) (fun x => f11 x.1 x.2.1 x.2.2.1) (fun _ => ())
def f11_ctx : Ctx := Cx tys [(15, f15_spec), (17, f17_spec), (23, f23_spec), (24, f24_spec), (25, f25_spec), (26, f26_spec), (27, f27_spec), (28, f28_spec), (29, f29_spec)] [] [] false 55 [] []
theorem f11_cok : CtxOk Tryz.prog f11_ctx := ctxOk_mk tys_ok rfl ⟨f15_is, f17_is, f23_is, f24_is, f25_is, f26_is, f27_is, f28_is, f29_is, trivial⟩ rfl (by kernel_rfl)
theorem f11_is : SpecOk Tryz.prog 11 f11_spec := fgen f11_cok mixed Tryz.func11 (by kernel_rfl) (bs := []) (by kernel_rfl) trivial fun x => by kernel_rfl

-- imageeditor/affine.Same
def f16t  : Prop × D25 :=
 (True, ((65536 : Int), (0 : Int), (0 : Int), (65536 : Int), (0 : Int), (0 : Int), ()))
def f16_ok  : Prop := (f16t).1
def f16  : D25 := (f16t).2
instance  : Decidable (f16_ok) := by
 unfold f16_ok f16t
 try dsimp only
 infer_instance
def f16_spec : Am.Spec := fnSpec [] (.val T25) [] (fun x => f16_ok ) (fun x => f16 ) (fun _ => ())
def f16_ctx : Ctx := Cx tys [] [] [] false 2 [] []
theorem f16_cok : CtxOk Tryz.prog f16_ctx := ctxOk_mk tys_ok rfl trivial rfl (by kernel_rfl)
theorem f16_is : SpecOk Tryz.prog 16 f16_spec := fgen f16_cok mixed Tryz.func16 (by kernel_rfl) (bs := []) (by kernel_rfl) trivial fun x => by kernel_rfl

-- imageeditor/node.New
def f6t (p0 : Int) : Prop × (D37 × Int × Unit) :=
 let v9 := (f9 p0)
 let v11 := (v9 == ([] : List UInt8))
 let s := ((0 : Int), (0 : Int), (0 : Int), (65535 : Int), ())
 let v18 := (f15 p0)
 let m6 := (bif v18 then (0 : Int) else (0 : Int))
 let m6_1 := (bif v18 then p0 else p0)
 let m6_2 := (bif v18 then (0 : Int) else (0 : Int))
 let m6_3 := (bif v18 then v9 else v9)
 let m6_4 := (bif v18 then false else false)
 let m6_5 := (bif v18 then false else false)
 let m6_6 := (bif v18 then false else false)
 let m6_7 := (bif v18 then (65535 : Int) else (65535 : Int))
 let m6_8 := (bif v18 then (0 : Int) else (0 : Int))
 let m6_9 := (bif v18 then (0 : Int) else (0 : Int))
 let m6_10 := (bif v18 then (0 : Int) else (0 : Int))
 let m6_11 := (bif v18 then f16 else Z25)
 let m6_13 := (bif v18 then (0 : Int) else (0 : Int))
 let m6_14 := (bif v18 then (0 : Int) else (0 : Int))
 let m6_15 := (bif v18 then Z30 else Z30)
 let m6_16 := (bif v18 then (0 : Int) else (0 : Int))
 let m6_17 := (bif v18 then (0 : Int) else (0 : Int))
 let m6_18 := (bif v18 then (0 : Int) else (0 : Int))
 let m6_19 := (bif v18 then (0 : Int) else (0 : Int))
 let m6_20 := (bif v18 then (0 : Int) else (0 : Int))
 let m6_21 := (bif v18 then (0 : Int) else (0 : Int))
 let m6_22 := (bif v18 then ([] : List UInt8) else ([] : List UInt8))
 let m6_23 := (bif v18 then (0 : Int) else (0 : Int))
 let m6_24 := (bif v18 then (0 : Int) else (0 : Int))
 let m6_25 := (bif v18 then (0 : Int) else (0 : Int))
 let m6_26 := (bif v18 then (0 : Int) else (0 : Int))
 let m6_27 := (bif v18 then (0 : Int) else (0 : Int))
 let m6_28 := (bif v18 then (0 : Int) else (0 : Int))
 let v22 := (f17 p0)
 let m6_29 := (bif v22 then m6 else m6)
 let m6_30 := (bif v22 then m6_1 else m6_1)
 let m6_31 := (bif v22 then m6_2 else m6_2)
 let m6_32 := (bif v22 then m6_3 else m6_3)
 let m6_33 := (bif v22 then m6_4 else m6_4)
 let m6_34 := (bif v22 then m6_5 else m6_5)
 let m6_35 := (bif v22 then m6_6 else m6_6)
 let m6_36 := (bif v22 then m6_7 else m6_7)
 let m6_37 := (bif v22 then m6_8 else m6_8)
 let m6_38 := (bif v22 then m6_9 else m6_9)
 let m6_39 := (bif v22 then m6_10 else m6_10)
 let m6_40 := (bif v22 then m6_11 else m6_11)
 let m6_41 := (bif v22 then (1 : Int) else (bif v18 then (0 : Int) else (0 : Int)))
 let m6_42 := (bif v22 then m6_13 else m6_13)
 let m6_43 := (bif v22 then m6_14 else m6_14)
 let m6_44 := (bif v22 then m6_15 else m6_15)
 let m6_45 := (bif v22 then m6_16 else m6_16)
 let m6_46 := (bif v22 then m6_17 else m6_17)
 let m6_47 := (bif v22 then m6_18 else m6_18)
 let m6_48 := (bif v22 then m6_19 else m6_19)
 let m6_49 := (bif v22 then m6_20 else m6_20)
 let m6_50 := (bif v22 then m6_21 else m6_21)
 let m6_51 := (bif v22 then m6_22 else m6_22)
 let m6_52 := (bif v22 then m6_23 else m6_23)
 let m6_53 := (bif v22 then m6_24 else m6_24)
 let m6_54 := (bif v22 then m6_25 else m6_25)
 let m6_55 := (bif v22 then m6_26 else m6_26)
 let m6_56 := (bif v22 then m6_27 else m6_27)
 let m6_57 := (bif v22 then m6_28 else m6_28)
 let v26 := (p0 == 3)
 let v30 := (p0 == 4)
 let v42 := (p0 == 5)
 let v53 := ([((1 : Int), (List.replicate 3 Z55), ()), ((2 : Int), ([((256 : Int), (0 : Int), ()), Z55, Z55] : List D55), ()), ((2 : Int), ([((256 : Int), (256 : Int), ()), Z55, Z55] : List D55), ()), ((5 : Int), (List.replicate 3 Z55), ())] : List D58)
 let v56 := (p0 == 6)
 let v62 := (p0 == 7)
 let v65 := (p0 == 8)
 let v70 := (p0 == 9)
 let m69 := (bif v70 then v70 else (p0 == 10))
 let v74 := (p0 == 11)
 let m6_268 := (bif v30 then m6_51 else (bif v42 then m6_51 else (bif v56 then ([116, 101, 120, 116] : List UInt8) else (bif v62 then m6_51 else (bif v65 then m6_51 else (bif m69 then m6_51 else (bif v74 then m6_51 else m6_51)))))))
 let m6_275 := (bif v30 then [] else (bif v42 then [] else (bif v56 then [] else (bif v62 then [] else (bif v65 then [] else (bif m69 then [] else (bif v74 then (List.replicate (Int.toNat (4 : Int)) Z55) else [])))))))
 let m6_276 := (bif v26 then m6_29 else (bif v30 then m6_29 else (bif v42 then m6_29 else (bif v56 then m6_29 else (bif v62 then m6_29 else (bif v65 then m6_29 else (bif m69 then m6_29 else (bif v74 then m6_29 else m6_29))))))))
 let m6_277 := (bif v26 then m6_30 else (bif v30 then m6_30 else (bif v42 then m6_30 else (bif v56 then m6_30 else (bif v62 then m6_30 else (bif v65 then m6_30 else (bif m69 then m6_30 else (bif v74 then m6_30 else m6_30))))))))
 let m6_278 := (bif v26 then m6_31 else (bif v30 then m6_31 else (bif v42 then m6_31 else (bif v56 then m6_31 else (bif v62 then m6_31 else (bif v65 then m6_31 else (bif m69 then m6_31 else (bif v74 then m6_31 else m6_31))))))))
 let m6_279 := (bif v26 then m6_32 else (bif v30 then m6_32 else (bif v42 then m6_32 else (bif v56 then m6_32 else (bif v62 then m6_32 else (bif v65 then m6_32 else (bif m69 then m6_32 else (bif v74 then m6_32 else m6_32))))))))
 let m6_280 := (bif v26 then m6_33 else (bif v30 then m6_33 else (bif v42 then m6_33 else (bif v56 then m6_33 else (bif v62 then m6_33 else (bif v65 then m6_33 else (bif m69 then m6_33 else (bif v74 then m6_33 else m6_33))))))))
 let m6_281 := (bif v26 then m6_34 else (bif v30 then m6_34 else (bif v42 then m6_34 else (bif v56 then m6_34 else (bif v62 then m6_34 else (bif v65 then m6_34 else (bif m69 then m6_34 else (bif v74 then m6_34 else m6_34))))))))
 let m6_282 := (bif v26 then m6_35 else (bif v30 then m6_35 else (bif v42 then m6_35 else (bif v56 then m6_35 else (bif v62 then m6_35 else (bif v65 then m6_35 else (bif m69 then m6_35 else (bif v74 then m6_35 else m6_35))))))))
 let m6_283 := (bif v26 then m6_36 else (bif v30 then m6_36 else (bif v42 then m6_36 else (bif v56 then m6_36 else (bif v62 then m6_36 else (bif v65 then m6_36 else (bif m69 then m6_36 else (bif v74 then m6_36 else m6_36))))))))
 let m6_284 := (bif v26 then m6_37 else (bif v30 then m6_37 else (bif v42 then m6_37 else (bif v56 then m6_37 else (bif v62 then m6_37 else (bif v65 then m6_37 else (bif m69 then m6_37 else (bif v74 then m6_37 else m6_37))))))))
 let m6_285 := (bif v26 then m6_38 else (bif v30 then m6_38 else (bif v42 then m6_38 else (bif v56 then m6_38 else (bif v62 then m6_38 else (bif v65 then m6_38 else (bif m69 then m6_38 else (bif v74 then m6_38 else m6_38))))))))
 let m6_286 := (bif v26 then m6_39 else (bif v30 then m6_39 else (bif v42 then m6_39 else (bif v56 then m6_39 else (bif v62 then m6_39 else (bif v65 then m6_39 else (bif m69 then m6_39 else (bif v74 then m6_39 else m6_39))))))))
 let m6_287 := (bif v26 then m6_40 else (bif v30 then m6_40 else (bif v42 then m6_40 else (bif v56 then m6_40 else (bif v62 then m6_40 else (bif v65 then m6_40 else (bif m69 then m6_40 else (bif v74 then m6_40 else m6_40))))))))
 let m6_288 := (bif v26 then m6_41 else (bif v30 then m6_41 else (bif v42 then m6_41 else (bif v56 then m6_41 else (bif v62 then m6_41 else (bif v65 then m6_41 else (bif m69 then m6_41 else (bif v74 then m6_41 else m6_41))))))))
 let m6_289 := (bif v26 then m6_42 else (bif v30 then m6_42 else (bif v42 then m6_42 else (bif v56 then m6_42 else (bif v62 then m6_42 else (bif v65 then m6_42 else (bif m69 then m6_42 else (bif v74 then m6_42 else m6_42))))))))
 let m6_290 := (bif v26 then m6_43 else (bif v30 then m6_43 else (bif v42 then m6_43 else (bif v56 then m6_43 else (bif v62 then m6_43 else (bif v65 then m6_43 else (bif m69 then m6_43 else (bif v74 then m6_43 else m6_43))))))))
 let m6_291 := (bif v26 then s else (bif v30 then m6_44 else (bif v42 then s else (bif v56 then s else (bif v62 then m6_44 else (bif v65 then m6_44 else (bif m69 then m6_44 else (bif v74 then m6_44 else m6_44))))))))
 let m6_292 := (bif v26 then m6_45 else (bif v30 then (1 : Int) else (bif v42 then m6_45 else (bif v56 then m6_45 else (bif v62 then (1 : Int) else (bif v65 then (1 : Int) else (bif m69 then m6_45 else (bif v74 then m6_45 else m6_45))))))))
 let m6_293 := (bif v26 then [] else (bif v30 then ([(0 : Int), (0 : Int), (256 : Int), (0 : Int)] : List Int) else (bif v42 then [] else (bif v56 then [] else (bif v62 then [] else (bif v65 then ([(1 : Int)] : List Int) else []))))))
 let m6_294 := (bif v26 then m6_46 else (bif v30 then m6_46 else (bif v42 then m6_46 else (bif v56 then m6_46 else (bif v62 then m6_46 else (bif v65 then m6_46 else (bif m69 then m6_46 else (bif v74 then m6_46 else m6_46))))))))
 let m6_297 := (bif v26 then m6_47 else (bif v30 then m6_47 else (bif v42 then m6_47 else (bif v56 then m6_47 else (bif v62 then m6_47 else (bif v65 then m6_47 else (bif m69 then m6_47 else (bif v74 then m6_47 else m6_47))))))))
 let m6_298 := (bif v26 then m6_48 else (bif v30 then m6_48 else (bif v42 then m6_48 else (bif v56 then m6_48 else (bif v62 then m6_48 else (bif v65 then m6_48 else (bif m69 then m6_48 else (bif v74 then m6_48 else m6_48))))))))
 let m6_299 := (bif v26 then m6_49 else (bif v30 then m6_49 else (bif v42 then m6_49 else (bif v56 then m6_49 else (bif v62 then m6_49 else (bif v65 then m6_49 else (bif m69 then m6_49 else (bif v74 then m6_49 else m6_49))))))))
 let m6_300 := (bif v26 then m6_50 else (bif v30 then m6_50 else (bif v42 then m6_50 else (bif v56 then m6_50 else (bif v62 then m6_50 else (bif v65 then m6_50 else (bif m69 then m6_50 else (bif v74 then m6_50 else m6_50))))))))
 let m6_302 := (bif v26 then m6_52 else (bif v30 then m6_52 else (bif v42 then m6_52 else (bif v56 then (256 : Int) else (bif v62 then m6_52 else (bif v65 then m6_52 else (bif m69 then m6_52 else (bif v74 then m6_52 else m6_52))))))))
 let m6_303 := (bif v26 then m6_53 else (bif v30 then m6_53 else (bif v42 then m6_53 else (bif v56 then m6_53 else (bif v62 then m6_53 else (bif v65 then m6_53 else (bif m69 then m6_53 else (bif v74 then m6_53 else m6_53))))))))
 let m6_304 := (bif v26 then m6_54 else (bif v30 then m6_54 else (bif v42 then m6_54 else (bif v56 then m6_54 else (bif v62 then m6_54 else (bif v65 then m6_54 else (bif m69 then (1 : Int) else (bif v74 then m6_54 else m6_54))))))))
 let m6_305 := (bif v26 then m6_55 else (bif v30 then m6_55 else (bif v42 then m6_55 else (bif v56 then m6_55 else (bif v62 then m6_55 else (bif v65 then m6_55 else (bif m69 then m6_55 else (bif v74 then (2 : Int) else m6_55))))))))
 let m6_306 := (bif v26 then m6_56 else (bif v30 then m6_56 else (bif v42 then m6_56 else (bif v56 then m6_56 else (bif v62 then m6_56 else (bif v65 then m6_56 else (bif m69 then m6_56 else (bif v74 then (2 : Int) else m6_56))))))))
 let m6_307 := (bif v26 then m6_57 else (bif v30 then m6_57 else (bif v42 then m6_57 else (bif v56 then m6_57 else (bif v62 then m6_57 else (bif v65 then m6_57 else (bif m69 then m6_57 else (bif v74 then (16 : Int) else m6_57))))))))
 let s_13 := ((bif v11 then (0 : Int) else m6_276), (bif v11 then (0 : Int) else m6_277), (bif v11 then (0 : Int) else m6_278), (bif v11 then ([] : List UInt8) else m6_279), (bif v11 then false else m6_280), (bif v11 then false else m6_281), (bif v11 then false else m6_282), (bif v11 then (0 : Int) else m6_283), (bif v11 then (0 : Int) else m6_284), ((bif v11 then (0 : Int) else m6_285), (bif v11 then (0 : Int) else m6_286), ([] : List Int), ()), (bif v11 then Z25 else m6_287), (bif v11 then (0 : Int) else m6_288), ((bif v11 then (0 : Int) else m6_289), (bif v11 then (0 : Int) else m6_290), ([] : List D30), ()), (bif v11 then Z30 else m6_291), (bif v11 then (0 : Int) else m6_292), (bif v11 then [] else m6_293), (bif v11 then (0 : Int) else m6_294), (bif v11 then [] else (bif v26 then [] else (bif v30 then ([((0 : Int), s, ()), ((65535 : Int), ((65535 : Int), (65535 : Int), (65535 : Int), (65535 : Int), ()), ())] : List D53) else []))), (bif v11 then [] else (bif v26 then [] else (bif v30 then [] else (bif v42 then v53 else [])))), (bif v11 then (0 : Int) else m6_297), (bif v11 then (0 : Int) else m6_298), (bif v11 then (0 : Int) else m6_299), (bif v11 then (0 : Int) else m6_300), (bif v11 then ([] : List UInt8) else (bif v26 then m6_51 else m6_268)), (bif v11 then (0 : Int) else m6_302), (bif v11 then (0 : Int) else m6_303), (bif v11 then (0 : Int) else m6_304), ((bif v11 then (0 : Int) else m6_305), (bif v11 then (0 : Int) else m6_306), (bif v11 then (0 : Int) else m6_307), (bif v11 then [] else (bif v26 then [] else m6_275)), ()), ())
 (((f9_ok p0) ∧ ((!v11) = true → ((f15_ok p0) ∧ ((v18 = true → f16_ok) ∧ ((f17_ok p0) ∧ (v26 = false → (v30 = false → (v42 = false → (v56 = false → (v62 = false → (v65 = false → (m69 = false → (v74 = true → (0 ≤ (4 : Int) ∧ (4 : Int) ≤ (4 : Int) ∧ (4 : Int) ≤ 4294967296)))))))))))))), (s_13, (bif v11 then (8 : Int) else (0 : Int)), ()))
def f6_ok (p0 : Int) : Prop := (f6t p0).1
def f6 (p0 : Int) : (D37 × Int × Unit) := (f6t p0).2
instance (p0 : Int) : Decidable (f6_ok p0) := by
 unfold f6_ok f6t
 try dsimp only
 infer_instance
def f6_spec : Am.Spec := fnSpec [(0, vI)] (.tup (.cons (.val T37) (.cons vI .nl))) [] (fun x => f6_ok x.1) (fun x => f6 x.1) (fun _ => ())
def f6_ctx : Ctx := Cx tys [(9, f9_spec), (15, f15_spec), (16, f16_spec), (17, f17_spec)] [] [(33, [(4, 0, 33, 400602)]), (35, [(4, 0, 39, 400603)]), (41, [(4, 0, 53, 400604)]), (59, [(4, 0, 67, 400602)]), (69, [(4, 0, 75, 400605)]), (71, [(4, 0, 400602, 400202), (4, 0, 400603, 400203), (4, 0, 400604, 400204), (4, 0, 400605, 400205)])] false 79 [] []
theorem f6_cok : CtxOk Tryz.prog f6_ctx := ctxOk_mk tys_ok rfl ⟨f9_is, f15_is, f16_is, f17_is, trivial⟩ rfl (by kernel_rfl)
theorem f6_is : SpecOk Tryz.prog 6 f6_spec := fgen f6_cok mixed Tryz.func6 (by kernel_rfl) (bs := []) (by kernel_rfl) trivial fun x => by kernel_rfl

-- imageeditor/filter.abs
def f89t (p0 : Int) : Prop × Int :=
 (InR (Int.sub 0 p0), (imax p0 (Int.sub 0 p0)))
def f89_ok (p0 : Int) : Prop := (f89t p0).1
def f89 (p0 : Int) : Int := (f89t p0).2
instance (p0 : Int) : Decidable (f89_ok p0) := by
 unfold f89_ok f89t
 try dsimp only
 infer_instance
def f89_spec : Am.Spec := fnSpec [(0, vI)] vI [] (fun x => f89_ok x.1) (fun x => f89 x.1) (fun _ => ())
def f89_ctx : Ctx := Cx tys [] [] [] false 7 [] []
theorem f89_cok : CtxOk Tryz.prog f89_ctx := ctxOk_mk tys_ok rfl trivial rfl (by kernel_rfl)
theorem f89_is : SpecOk Tryz.prog 89 f89_spec := fgen f89_cok mixed Tryz.func89 (by kernel_rfl) (bs := []) (by kernel_rfl) trivial fun x => by kernel_rfl

-- imageeditor/filter.Reach
def f62t (p0 : Int) (p1 : (List Int)) : Prop × Int :=
 let v8 := ((f60 p0 p1) != 0)
 let v11 := (p0 == 5)
 let m10 := (bif v11 then v11 else (p0 == 6))
 let v14 := (p0 == 9)
 let v16 := (nth p1 (0 : Int) (0 : Int))
 let v20 := (nth p1 (1 : Int) (0 : Int))
 let v25 := (p0 == 10)
 let v27 := (nth p1 (0 : Int) (0 : Int))
 let m4_3 := (bif v8 then (0 : Int) else (bif (bif m10 then true else (bif v14 then true else v25)) then (bif m10 then (1 : Int) else (bif v14 then (imax (f89 v16) (f89 v20)) else (v27 - 1))) else (nth p1 (0 : Int) (0 : Int))))
 (((f60_ok p0 p1) ∧ ((!v8) = true → ((m10 = false → ((v14 = true → (InB (0 : Int) (len p1) ∧ ((f89_ok v16) ∧ (InB (1 : Int) (len p1) ∧ (f89_ok v20))))) ∧ (v14 = false → (v25 = true → (InB (0 : Int) (len p1) ∧ InR (v27 - 1)))))) ∧ ((((!v25) && (!v14)) && (!m10)) = true → InB (0 : Int) (len p1))))), m4_3)
def f62_ok (p0 : Int) (p1 : (List Int)) : Prop := (f62t p0 p1).1
def f62 (p0 : Int) (p1 : (List Int)) : Int := (f62t p0 p1).2
instance (p0 : Int) (p1 : (List Int)) : Decidable (f62_ok p0 p1) := by
 unfold f62_ok f62t
 try dsimp only
 infer_instance
def f62_spec : Am.Spec := fnSpec [(0, vI), (1, (.val (.sl (.int .i64))))] vI [] (fun x => f62_ok x.1 x.2.1) (fun x => f62 x.1 x.2.1) (fun _ => ())
def f62_ctx : Ctx := Cx tys [(60, f60_spec), (89, f89_spec)] [] [] false 33 [] []
theorem f62_cok : CtxOk Tryz.prog f62_ctx := ctxOk_mk tys_ok rfl ⟨f60_is, f89_is, trivial⟩ rfl (by kernel_rfl)
theorem f62_is : SpecOk Tryz.prog 62 f62_spec := fgen f62_cok mixed Tryz.func62 (by kernel_rfl) (bs := []) (by kernel_rfl) trivial fun x => by kernel_rfl

-- imageeditor/warp.Reach
abbrev f63_L5_Y : Type := ((List D55) × Int × Unit)
abbrev f63_L5_X : Type := (Int × Int × Unit)
def f63_L5t (y : f63_L5_Y) (x : f63_L5_X) : Prop × Bool × f63_L5_X :=
 let a10 := y.1 
 let a12 := x.2.1 
 let v13 := (decide (a12 < y.2.1))
 let v14 := (nth a10 a12 Z55)
 ((v13 = true → (InB a12 (len a10) ∧ (InR (Int.sub 0 v14.1) ∧ (InR (Int.sub 0 v14.2.1) ∧ InR (a12 + 1))))), v13, ((imax (imax (imax (imax x.1 v14.1) (Int.sub 0 v14.1)) v14.2.1) (Int.sub 0 v14.2.1)), (a12 + 1), ()))
def f63_L5_ok (y : f63_L5_Y) (x : f63_L5_X) : Prop := (f63_L5t y x).1
def f63_L5_g (y : f63_L5_Y) (x : f63_L5_X) : Bool := (f63_L5t y x).2.1
def f63_L5_next (y : f63_L5_Y) (x : f63_L5_X) : f63_L5_X := (f63_L5t y x).2.2
instance (y : f63_L5_Y) (x : f63_L5_X) : Decidable (f63_L5_ok y x) := by
 unfold f63_L5_ok f63_L5t
 try dsimp only
 infer_instance
def f63_L5_x2_0 (y : f63_L5_Y) (x : f63_L5_X) : Int :=
 x.1
def f63_L5_spec : St → Option Out := loopS [(10, (.val (.sl T55))), (11, vI)] [(3, vI), (12, vI)] f63_L5_g f63_L5_next f63_L5_ok fun y x => [ex 2 none [(3, vI)] ((f63_L5_x2_0 y x), ())]
def f63t (p0 : D35) : Prop × Int :=
 let v8 := ((f61 p0) != 0)
 let y5 := (p0.2.2.2.1, (len p0.2.2.2.1), ())
 let x5 := ((0 : Int), (0 : Int), ())
 let r5_2_0 := (f63_L5_x2_0 y5 (loopEnd (f63_L5_g y5) (f63_L5_next y5) x5))
 let v30 := (r5_2_0 + 65536)
 let v31 := (v30 - 1)
 (((f61_ok p0) ∧ ((!v8) = true → ((Am.Ends (f63_L5_g y5) (f63_L5_next y5) (f63_L5_ok y5) x5) ∧ (InR (r5_2_0 + 65536) ∧ (InR (v30 - 1) ∧ InR (Int.tdiv v31 (65536 : Int))))))), (bif v8 then (0 : Int) else (Int.tdiv v31 (65536 : Int))))
def f63_ok (p0 : D35) : Prop := (f63t p0).1
def f63 (p0 : D35) : Int := (f63t p0).2
instance (p0 : D35) : Decidable (f63_ok p0) := by
 unfold f63_ok f63t
 try dsimp only
 infer_instance
def f63_spec : Am.Spec := fnSpec [(0, (.val T35))] vI [] (fun x => f63_ok x.1) (fun x => f63 x.1) (fun _ => ())
def f63_ctx : Ctx := Cx tys [(61, f61_spec)] [(5, f63_L5_spec)] [] false 33 [] []
theorem f63_cok : CtxOk Tryz.prog f63_ctx := ctxOk_mk tys_ok rfl ⟨f61_is, trivial⟩ rfl (by kernel_rfl)
noncomputable def f63_code : Code := Tryz.f63.body.getD .skip
noncomputable def f63_L5 : Code := nthLoop f63_code 0
theorem f63_L5_is : LoopSnd Tryz.prog f63_ctx f63_L5 := lgen f63_cok mixed (sp := f63_L5_spec) rfl [[(3, vI)]] (bs := []) (by kernel_rfl) trivial (by kernel_rfl) (by kernel_rfl) fun y x => by kernel_rfl
theorem f63_is : SpecOk Tryz.prog 63 f63_spec := fgen f63_cok mixed Tryz.func63 (by kernel_rfl) (bs := [f63_L5]) (by kernel_rfl) ⟨f63_L5_is, trivial⟩ fun x => by kernel_rfl

-- imageeditor/kernel.Support
def f64t (p0 : Int) : Prop × Int :=
 let v5 := (p0 == 2)
 let m4 := (bif v5 then v5 else (p0 == 4))
 let v8 := (p0 == 0)
 let v9 := (p0 == 1)
 (True, (bif (bif m4 then true else (bif v8 then v8 else (bif v9 then v9 else (p0 == 3)))) then (bif m4 then (2 : Int) else (1 : Int)) else (0 : Int)))
def f64_ok (p0 : Int) : Prop := (f64t p0).1
def f64 (p0 : Int) : Int := (f64t p0).2
instance (p0 : Int) : Decidable (f64_ok p0) := by
 unfold f64_ok f64t
 try dsimp only
 infer_instance
def f64_spec : Am.Spec := fnSpec [(0, vI)] vI [] (fun x => f64_ok x.1) (fun x => f64 x.1) (fun _ => ())
def f64_ctx : Ctx := Cx tys [] [] [] false 11 [] []
theorem f64_cok : CtxOk Tryz.prog f64_ctx := ctxOk_mk tys_ok rfl trivial rfl (by kernel_rfl)
theorem f64_is : SpecOk Tryz.prog 64 f64_spec := fgen f64_cok mixed Tryz.func64 (by kernel_rfl) (bs := []) (by kernel_rfl) trivial fun x => by kernel_rfl

-- imageeditor/node.Reach
def f30t (p0 : D37) : Prop × Int :=
 let v6 := (p0.2.1 == 8)
 let v13 := (p0.2.1 == 11)
 let v16 := (f63 p0.2.2.2.2.2.2.2.2.2.2.2.2.2.2.2.2.2.2.2.2.2.2.2.2.2.2.2.1)
 let v19 := (f64 p0.2.2.2.2.2.2.2.2.2.2.2.1)
 let v20 := (v16 + v19)
 (((v6 = true → (f62_ok p0.2.2.2.2.2.2.2.2.2.2.2.2.2.2.1 p0.2.2.2.2.2.2.2.2.2.2.2.2.2.2.2.1)) ∧ (v6 = false → (v13 = true → ((f63_ok p0.2.2.2.2.2.2.2.2.2.2.2.2.2.2.2.2.2.2.2.2.2.2.2.2.2.2.2.1) ∧ ((f64_ok p0.2.2.2.2.2.2.2.2.2.2.2.1) ∧ (InR (v16 + v19) ∧ InR (v20 + 1))))))), (bif (bif v6 then true else v13) then (bif v6 then (f62 p0.2.2.2.2.2.2.2.2.2.2.2.2.2.2.1 p0.2.2.2.2.2.2.2.2.2.2.2.2.2.2.2.1) else (v20 + 1)) else (0 : Int)))
def f30_ok (p0 : D37) : Prop := (f30t p0).1
def f30 (p0 : D37) : Int := (f30t p0).2
instance (p0 : D37) : Decidable (f30_ok p0) := by
 unfold f30_ok f30t
 try dsimp only
 infer_instance
def f30_spec : Am.Spec := fnSpec [(0, (.val T37))] vI [] (fun x => f30_ok x.1) (fun x => f30 x.1) (fun _ => ())
def f30_ctx : Ctx := Cx tys [(62, f62_spec), (63, f63_spec), (64, f64_spec)] [] [] false 22 [] []
theorem f30_cok : CtxOk Tryz.prog f30_ctx := ctxOk_mk tys_ok rfl ⟨f62_is, f63_is, f64_is, trivial⟩ rfl (by kernel_rfl)
theorem f30_is : SpecOk Tryz.prog 30 f30_spec := fgen f30_cok mixed Tryz.func30 (by kernel_rfl) (bs := []) (by kernel_rfl) trivial fun x => by kernel_rfl

-- imageeditor/imageeditorlaw31.example
def f12t  : Prop × Bool :=
 let v8 := (f6 (3 : Int))
 let v12 := (f6 (8 : Int))
 let v20 := (bif (v8.2.1 != 0) then true else (v12.2.1 != 0))
 let v25 := (bif v20 then true else ((f11 v8.1 (8 : Int) (8 : Int)) != 0))
 let v30 := (bif v25 then true else ((f30 v12.1) != 1))
 let v35 := (bif v30 then true else (!(f31 v12.1)))
 let v39 := (bif v35 then true else (f31 v8.1))
 let s := (v8.1.1, v8.1.2.1, v8.1.2.2.1, v8.1.2.2.2.1, v8.1.2.2.2.2.1, v8.1.2.2.2.2.2.1, v8.1.2.2.2.2.2.2.1, (65536 : Int), v8.1.2.2.2.2.2.2.2.2.1, v8.1.2.2.2.2.2.2.2.2.2.1, v8.1.2.2.2.2.2.2.2.2.2.2.1, v8.1.2.2.2.2.2.2.2.2.2.2.2.1, v8.1.2.2.2.2.2.2.2.2.2.2.2.2.1, v8.1.2.2.2.2.2.2.2.2.2.2.2.2.2.1, v8.1.2.2.2.2.2.2.2.2.2.2.2.2.2.2.1, v8.1.2.2.2.2.2.2.2.2.2.2.2.2.2.2.2.1, v8.1.2.2.2.2.2.2.2.2.2.2.2.2.2.2.2.2.1, v8.1.2.2.2.2.2.2.2.2.2.2.2.2.2.2.2.2.2.1, v8.1.2.2.2.2.2.2.2.2.2.2.2.2.2.2.2.2.2.2.1, v8.1.2.2.2.2.2.2.2.2.2.2.2.2.2.2.2.2.2.2.2.1, v8.1.2.2.2.2.2.2.2.2.2.2.2.2.2.2.2.2.2.2.2.2.1, v8.1.2.2.2.2.2.2.2.2.2.2.2.2.2.2.2.2.2.2.2.2.2.1, v8.1.2.2.2.2.2.2.2.2.2.2.2.2.2.2.2.2.2.2.2.2.2.2.1, v8.1.2.2.2.2.2.2.2.2.2.2.2.2.2.2.2.2.2.2.2.2.2.2.2.1, v8.1.2.2.2.2.2.2.2.2.2.2.2.2.2.2.2.2.2.2.2.2.2.2.2.2.1, v8.1.2.2.2.2.2.2.2.2.2.2.2.2.2.2.2.2.2.2.2.2.2.2.2.2.2.1, v8.1.2.2.2.2.2.2.2.2.2.2.2.2.2.2.2.2.2.2.2.2.2.2.2.2.2.2.1, v8.1.2.2.2.2.2.2.2.2.2.2.2.2.2.2.2.2.2.2.2.2.2.2.2.2.2.2.2.1, ())
 let s_1 := (v12.1.1, v12.1.2.1, v12.1.2.2.1, v12.1.2.2.2.1, v12.1.2.2.2.2.1, v12.1.2.2.2.2.2.1, v12.1.2.2.2.2.2.2.1, v12.1.2.2.2.2.2.2.2.1, (1 : Int), v12.1.2.2.2.2.2.2.2.2.2.1, v12.1.2.2.2.2.2.2.2.2.2.2.1, v12.1.2.2.2.2.2.2.2.2.2.2.2.1, v12.1.2.2.2.2.2.2.2.2.2.2.2.2.1, v12.1.2.2.2.2.2.2.2.2.2.2.2.2.2.1, v12.1.2.2.2.2.2.2.2.2.2.2.2.2.2.2.1, v12.1.2.2.2.2.2.2.2.2.2.2.2.2.2.2.2.1, v12.1.2.2.2.2.2.2.2.2.2.2.2.2.2.2.2.2.1, v12.1.2.2.2.2.2.2.2.2.2.2.2.2.2.2.2.2.2.1, v12.1.2.2.2.2.2.2.2.2.2.2.2.2.2.2.2.2.2.2.1, v12.1.2.2.2.2.2.2.2.2.2.2.2.2.2.2.2.2.2.2.2.1, v12.1.2.2.2.2.2.2.2.2.2.2.2.2.2.2.2.2.2.2.2.2.1, v12.1.2.2.2.2.2.2.2.2.2.2.2.2.2.2.2.2.2.2.2.2.2.1, v12.1.2.2.2.2.2.2.2.2.2.2.2.2.2.2.2.2.2.2.2.2.2.2.1, v12.1.2.2.2.2.2.2.2.2.2.2.2.2.2.2.2.2.2.2.2.2.2.2.2.1, v12.1.2.2.2.2.2.2.2.2.2.2.2.2.2.2.2.2.2.2.2.2.2.2.2.2.1, v12.1.2.2.2.2.2.2.2.2.2.2.2.2.2.2.2.2.2.2.2.2.2.2.2.2.2.1, v12.1.2.2.2.2.2.2.2.2.2.2.2.2.2.2.2.2.2.2.2.2.2.2.2.2.2.2.1, v12.1.2.2.2.2.2.2.2.2.2.2.2.2.2.2.2.2.2.2.2.2.2.2.2.2.2.2.2.1, ())
 let v44 := (f6 (11 : Int))
 let v48 := (v44.2.1 == 0)
 let v53 := (bif v48 then ((f11 s (8 : Int) (8 : Int)) == 2) else false)
 let v58 := (bif v53 then ((f11 s_1 (8 : Int) (8 : Int)) == 8) else false)
 let s_5 := ((0 : Int), (2 : Int), (0 : Int), ([105] : List UInt8), false, false, false, (0 : Int), (0 : Int), ((0 : Int), (0 : Int), ([] : List Int), ()), Z25, (0 : Int), ((0 : Int), (0 : Int), ([] : List D30), ()), Z30, (0 : Int), ([] : List Int), (0 : Int), ([] : List D53), ([] : List D58), (0 : Int), (0 : Int), (0 : Int), (0 : Int), ([] : List UInt8), (0 : Int), (0 : Int), (0 : Int), ((0 : Int), (0 : Int), (0 : Int), ([] : List D55), ()), ())
 let v63 := (bif v58 then ((f11 s_5 (8 : Int) (8 : Int)) == 17) else false)
 let v68 := (bif v63 then ((f30 v44.1) == 2) else false)
 (((f6_ok (3 : Int)) ∧ ((f6_ok (8 : Int)) ∧ (((!v20) = true → (f11_ok v8.1 (8 : Int) (8 : Int))) ∧ (((!v25) = true → (f30_ok v12.1)) ∧ (((!v30) = true → (f31_ok v12.1)) ∧ (((!v35) = true → (f31_ok v8.1)) ∧ ((!v39) = true → ((f6_ok (11 : Int)) ∧ ((v48 = true → (f11_ok s (8 : Int) (8 : Int))) ∧ ((v53 = true → (f11_ok s_1 (8 : Int) (8 : Int))) ∧ ((v58 = true → (f11_ok s_5 (8 : Int) (8 : Int))) ∧ ((v63 = true → (f30_ok v44.1)) ∧ (v68 = true → (f9_ok (11 : Int))))))))))))))), (bif v39 then false else (bif v68 then ((f9 (11 : Int)) == ([119, 97, 114, 112] : List UInt8)) else false)))
def f12_ok  : Prop := (f12t).1
def f12  : Bool := (f12t).2
instance  : Decidable (f12_ok) := by
 unfold f12_ok f12t
 try dsimp only
 infer_instance
def f12_spec : Am.Spec := fnSpec [] vB [] (fun x => f12_ok ) (fun x => f12 ) (fun _ => ())
def f12_ctx : Ctx := Cx tys [(6, f6_spec), (9, f9_spec), (11, f11_spec), (30, f30_spec), (31, f31_spec)] [] [] false 73 [] []
theorem f12_cok : CtxOk Tryz.prog f12_ctx := ctxOk_mk tys_ok rfl ⟨f6_is, f9_is, f11_is, f30_is, f31_is, trivial⟩ rfl (by kernel_rfl)
noncomputable def f12_code : Code := Tryz.f12.body.getD .skip
theorem f12_is : SpecOk Tryz.prog 12 f12_spec := fgen f12_cok mixed Tryz.func12 (by kernel_rfl) (bs := []) (by kernel_rfl) trivial fun x => by kernel_rfl

-- slices.Equal[[]int,int]
abbrev f37_L4_Y : Type := ((List Int) × (List Int) × Int × Unit)
abbrev f37_L4_X : Type := (Int × Unit)
def f37_L4t (y : f37_L4_Y) (x : f37_L4_X) : Prop × Bool × f37_L4_X × Bool × Bool :=
 let a0 := y.1 
 let a1 := y.2.1 
 let a13 := x.1 
 let v14 := (decide (a13 < y.2.2.1))
 let v24 := ((nth a0 a13 (0 : Int)) != (nth a1 a13 (0 : Int)))
 ((v14 = true → (InB a13 (len a0) ∧ (InB a13 (len a1) ∧ ((!v24) = true → InR (a13 + 1))))), (v14 && (!v24)), ((a13 + 1), ()), (v14 && v24), (!v14))
def f37_L4_ok (y : f37_L4_Y) (x : f37_L4_X) : Prop := (f37_L4t y x).1
def f37_L4_g (y : f37_L4_Y) (x : f37_L4_X) : Bool := (f37_L4t y x).2.1
def f37_L4_next (y : f37_L4_Y) (x : f37_L4_X) : f37_L4_X := (f37_L4t y x).2.2.1
def f37_L4_e1 (y : f37_L4_Y) (x : f37_L4_X) : Bool := (f37_L4t y x).2.2.2.1
def f37_L4_e2 (y : f37_L4_Y) (x : f37_L4_X) : Bool := (f37_L4t y x).2.2.2.2
instance (y : f37_L4_Y) (x : f37_L4_X) : Decidable (f37_L4_ok y x) := by
 unfold f37_L4_ok f37_L4t
 try dsimp only
 infer_instance
def f37_L4_x1_0 (y : f37_L4_Y) (x : f37_L4_X) : Bool :=
 false
def f37_L4_spec : St → Option Out := loopS [(0, (.val (.sl (.int .i64)))), (1, (.val (.sl (.int .i64)))), (12, vI)] [(13, vI)] f37_L4_g f37_L4_next f37_L4_ok fun y x => [ex 1 (some (f37_L4_e1 y x)) [(4, vB)] ((f37_L4_x1_0 y x), ()), ex 2 (some (f37_L4_e2 y x)) [] ()]
def f37t (p0 : (List Int)) (p1 : (List Int)) : Prop × Bool :=
 let v10 := ((len p0) != (len p1))
 let y4 := (p0, p1, (len p0), ())
 let x4 := ((0 : Int), ())
 let e4 := (loopEnd (f37_L4_g y4) (f37_L4_next y4) x4)
 (((!v10) = true → (Am.Ends (f37_L4_g y4) (f37_L4_next y4) (f37_L4_ok y4) x4)), (bif v10 then false else (bif (f37_L4_e1 y4 e4) then (f37_L4_x1_0 y4 e4) else true)))
def f37_ok (p0 : (List Int)) (p1 : (List Int)) : Prop := (f37t p0 p1).1
def f37 (p0 : (List Int)) (p1 : (List Int)) : Bool := (f37t p0 p1).2
instance (p0 : (List Int)) (p1 : (List Int)) : Decidable (f37_ok p0 p1) := by
 unfold f37_ok f37t
 try dsimp only
 infer_instance
def f37_spec : Am.Spec := fnSpec [(0, (.val (.sl (.int .i64)))), (1, (.val (.sl (.int .i64))))] vB [] (fun x => f37_ok x.1 x.2.1) (fun x => f37 x.1 x.2.1) (fun _ => ())
def f37_ctx : Ctx := Cx tys [] [(4, f37_L4_spec)] [] false 26 [] []
theorem f37_cok : CtxOk Tryz.prog f37_ctx := ctxOk_mk tys_ok rfl trivial rfl (by kernel_rfl)
noncomputable def f37_code : Code := Tryz.f37.body.getD .skip
noncomputable def f37_L4 : Code := nthLoop f37_code 0
theorem f37_L4_is : LoopSnd Tryz.prog f37_ctx f37_L4 := lgen f37_cok mixed (sp := f37_L4_spec) rfl [[(4, vB)], []] (bs := []) (by kernel_rfl) trivial (by kernel_rfl) (by kernel_rfl) fun y x => by kernel_rfl
theorem f37_is : SpecOk Tryz.prog 37 f37_spec := fgen f37_cok mixed Tryz.func37 (by kernel_rfl) (bs := [f37_L4]) (by kernel_rfl) ⟨f37_L4_is, trivial⟩ fun x => by kernel_rfl

-- slices.Equal[[]imageeditor/api.Pixel,imageeditor/api.Pixel]
abbrev f90_L4_Y : Type := ((List D30) × (List D30) × Int × Unit)
abbrev f90_L4_X : Type := (Int × Unit)
def f90_L4t (y : f90_L4_Y) (x : f90_L4_X) : Prop × Bool × f90_L4_X × Bool × Bool :=
 let a0 := y.1 
 let a1 := y.2.1 
 let a13 := x.1 
 let v14 := (decide (a13 < y.2.2.1))
 let v24 := (!(Ty.eqb T30 (nth a0 a13 Z30) (nth a1 a13 Z30)))
 ((v14 = true → (InB a13 (len a0) ∧ (InB a13 (len a1) ∧ ((!v24) = true → InR (a13 + 1))))), (v14 && (!v24)), ((a13 + 1), ()), (v14 && v24), (!v14))
def f90_L4_ok (y : f90_L4_Y) (x : f90_L4_X) : Prop := (f90_L4t y x).1
def f90_L4_g (y : f90_L4_Y) (x : f90_L4_X) : Bool := (f90_L4t y x).2.1
def f90_L4_next (y : f90_L4_Y) (x : f90_L4_X) : f90_L4_X := (f90_L4t y x).2.2.1
def f90_L4_e1 (y : f90_L4_Y) (x : f90_L4_X) : Bool := (f90_L4t y x).2.2.2.1
def f90_L4_e2 (y : f90_L4_Y) (x : f90_L4_X) : Bool := (f90_L4t y x).2.2.2.2
instance (y : f90_L4_Y) (x : f90_L4_X) : Decidable (f90_L4_ok y x) := by
 unfold f90_L4_ok f90_L4t
 try dsimp only
 infer_instance
def f90_L4_x1_0 (y : f90_L4_Y) (x : f90_L4_X) : Bool :=
 false
def f90_L4_spec : St → Option Out := loopS [(0, (.val (.sl T30))), (1, (.val (.sl T30))), (12, vI)] [(13, vI)] f90_L4_g f90_L4_next f90_L4_ok fun y x => [ex 1 (some (f90_L4_e1 y x)) [(4, vB)] ((f90_L4_x1_0 y x), ()), ex 2 (some (f90_L4_e2 y x)) [] ()]
def f90t (p0 : (List D30)) (p1 : (List D30)) : Prop × Bool :=
 let v10 := ((len p0) != (len p1))
 let y4 := (p0, p1, (len p0), ())
 let x4 := ((0 : Int), ())
 let e4 := (loopEnd (f90_L4_g y4) (f90_L4_next y4) x4)
 (((!v10) = true → (Am.Ends (f90_L4_g y4) (f90_L4_next y4) (f90_L4_ok y4) x4)), (bif v10 then false else (bif (f90_L4_e1 y4 e4) then (f90_L4_x1_0 y4 e4) else true)))
def f90_ok (p0 : (List D30)) (p1 : (List D30)) : Prop := (f90t p0 p1).1
def f90 (p0 : (List D30)) (p1 : (List D30)) : Bool := (f90t p0 p1).2
instance (p0 : (List D30)) (p1 : (List D30)) : Decidable (f90_ok p0 p1) := by
 unfold f90_ok f90t
 try dsimp only
 infer_instance
def f90_spec : Am.Spec := fnSpec [(0, (.val (.sl T30))), (1, (.val (.sl T30)))] vB [] (fun x => f90_ok x.1 x.2.1) (fun x => f90 x.1 x.2.1) (fun _ => ())
def f90_ctx : Ctx := Cx tys [] [(4, f90_L4_spec)] [] false 26 [] []
theorem f90_cok : CtxOk Tryz.prog f90_ctx := ctxOk_mk tys_ok rfl trivial rfl (by kernel_rfl)
noncomputable def f90_code : Code := Tryz.f90.body.getD .skip
noncomputable def f90_L4 : Code := nthLoop f90_code 0
theorem f90_L4_is : LoopSnd Tryz.prog f90_ctx f90_L4 := lgen f90_cok mixed (sp := f90_L4_spec) rfl [[(4, vB)], []] (bs := []) (by kernel_rfl) trivial (by kernel_rfl) (by kernel_rfl) fun y x => by kernel_rfl
theorem f90_is : SpecOk Tryz.prog 90 f90_spec := fgen f90_cok mixed Tryz.func90 (by kernel_rfl) (bs := [f90_L4]) (by kernel_rfl) ⟨f90_L4_is, trivial⟩ fun x => by kernel_rfl

-- imageeditor/raster.Same
def f65t (p0 : D28) (p1 : D28) : Prop × Bool :=
 let v16 := (bif (p0.1 == p1.1) then (p0.2.1 == p1.2.1) else false)
 ((v16 = true → (f90_ok p0.2.2.1 p1.2.2.1)), (bif v16 then (f90 p0.2.2.1 p1.2.2.1) else false))
def f65_ok (p0 : D28) (p1 : D28) : Prop := (f65t p0 p1).1
def f65 (p0 : D28) (p1 : D28) : Bool := (f65t p0 p1).2
instance (p0 : D28) (p1 : D28) : Decidable (f65_ok p0 p1) := by
 unfold f65_ok f65t
 try dsimp only
 infer_instance
def f65_spec : Am.Spec := fnSpec [(0, (.val T28)), (1, (.val T28))] vB [] (fun x => f65_ok x.1 x.2.1) (fun x => f65 x.1 x.2.1) (fun _ => ())
def f65_ctx : Ctx := Cx tys [(90, f90_spec)] [] [] false 24 [] []
theorem f65_cok : CtxOk Tryz.prog f65_ctx := ctxOk_mk tys_ok rfl ⟨f90_is, trivial⟩ rfl (by kernel_rfl)
theorem f65_is : SpecOk Tryz.prog 65 f65_spec := fgen f65_cok mixed Tryz.func65 (by kernel_rfl) (bs := []) (by kernel_rfl) trivial fun x => by kernel_rfl

-- slices.Equal[[]imageeditor/api.Stop,imageeditor/api.Stop]
abbrev f66_L4_Y : Type := ((List D53) × (List D53) × Int × Unit)
abbrev f66_L4_X : Type := (Int × Unit)
def f66_L4t (y : f66_L4_Y) (x : f66_L4_X) : Prop × Bool × f66_L4_X × Bool × Bool :=
 let a0 := y.1 
 let a1 := y.2.1 
 let a13 := x.1 
 let v14 := (decide (a13 < y.2.2.1))
 let v24 := (!(Ty.eqb T53 (nth a0 a13 Z53) (nth a1 a13 Z53)))
 ((v14 = true → (InB a13 (len a0) ∧ (InB a13 (len a1) ∧ ((!v24) = true → InR (a13 + 1))))), (v14 && (!v24)), ((a13 + 1), ()), (v14 && v24), (!v14))
def f66_L4_ok (y : f66_L4_Y) (x : f66_L4_X) : Prop := (f66_L4t y x).1
def f66_L4_g (y : f66_L4_Y) (x : f66_L4_X) : Bool := (f66_L4t y x).2.1
def f66_L4_next (y : f66_L4_Y) (x : f66_L4_X) : f66_L4_X := (f66_L4t y x).2.2.1
def f66_L4_e1 (y : f66_L4_Y) (x : f66_L4_X) : Bool := (f66_L4t y x).2.2.2.1
def f66_L4_e2 (y : f66_L4_Y) (x : f66_L4_X) : Bool := (f66_L4t y x).2.2.2.2
instance (y : f66_L4_Y) (x : f66_L4_X) : Decidable (f66_L4_ok y x) := by
 unfold f66_L4_ok f66_L4t
 try dsimp only
 infer_instance
def f66_L4_x1_0 (y : f66_L4_Y) (x : f66_L4_X) : Bool :=
 false
def f66_L4_spec : St → Option Out := loopS [(0, (.val (.sl T53))), (1, (.val (.sl T53))), (12, vI)] [(13, vI)] f66_L4_g f66_L4_next f66_L4_ok fun y x => [ex 1 (some (f66_L4_e1 y x)) [(4, vB)] ((f66_L4_x1_0 y x), ()), ex 2 (some (f66_L4_e2 y x)) [] ()]
def f66t (p0 : (List D53)) (p1 : (List D53)) : Prop × Bool :=
 let v10 := ((len p0) != (len p1))
 let y4 := (p0, p1, (len p0), ())
 let x4 := ((0 : Int), ())
 let e4 := (loopEnd (f66_L4_g y4) (f66_L4_next y4) x4)
 (((!v10) = true → (Am.Ends (f66_L4_g y4) (f66_L4_next y4) (f66_L4_ok y4) x4)), (bif v10 then false else (bif (f66_L4_e1 y4 e4) then (f66_L4_x1_0 y4 e4) else true)))
def f66_ok (p0 : (List D53)) (p1 : (List D53)) : Prop := (f66t p0 p1).1
def f66 (p0 : (List D53)) (p1 : (List D53)) : Bool := (f66t p0 p1).2
instance (p0 : (List D53)) (p1 : (List D53)) : Decidable (f66_ok p0 p1) := by
 unfold f66_ok f66t
 try dsimp only
 infer_instance
def f66_spec : Am.Spec := fnSpec [(0, (.val (.sl T53))), (1, (.val (.sl T53)))] vB [] (fun x => f66_ok x.1 x.2.1) (fun x => f66 x.1 x.2.1) (fun _ => ())
def f66_ctx : Ctx := Cx tys [] [(4, f66_L4_spec)] [] false 26 [] []
theorem f66_cok : CtxOk Tryz.prog f66_ctx := ctxOk_mk tys_ok rfl trivial rfl (by kernel_rfl)
noncomputable def f66_code : Code := Tryz.f66.body.getD .skip
noncomputable def f66_L4 : Code := nthLoop f66_code 0
theorem f66_L4_is : LoopSnd Tryz.prog f66_ctx f66_L4 := lgen f66_cok mixed (sp := f66_L4_spec) rfl [[(4, vB)], []] (bs := []) (by kernel_rfl) trivial (by kernel_rfl) (by kernel_rfl) fun y x => by kernel_rfl
theorem f66_is : SpecOk Tryz.prog 66 f66_spec := fgen f66_cok mixed Tryz.func66 (by kernel_rfl) (bs := [f66_L4]) (by kernel_rfl) ⟨f66_L4_is, trivial⟩ fun x => by kernel_rfl

-- slices.Equal[[]imageeditor/api.Seg,imageeditor/api.Seg]
abbrev f67_L4_Y : Type := ((List D58) × (List D58) × Int × Unit)
abbrev f67_L4_X : Type := (Int × Unit)
def f67_L4t (y : f67_L4_Y) (x : f67_L4_X) : Prop × Bool × f67_L4_X × Bool × Bool :=
 let a0 := y.1 
 let a1 := y.2.1 
 let a13 := x.1 
 let v14 := (decide (a13 < y.2.2.1))
 let v24 := (!(Ty.eqb T58 (nth a0 a13 Z58) (nth a1 a13 Z58)))
 ((v14 = true → (InB a13 (len a0) ∧ (InB a13 (len a1) ∧ ((!v24) = true → InR (a13 + 1))))), (v14 && (!v24)), ((a13 + 1), ()), (v14 && v24), (!v14))
def f67_L4_ok (y : f67_L4_Y) (x : f67_L4_X) : Prop := (f67_L4t y x).1
def f67_L4_g (y : f67_L4_Y) (x : f67_L4_X) : Bool := (f67_L4t y x).2.1
def f67_L4_next (y : f67_L4_Y) (x : f67_L4_X) : f67_L4_X := (f67_L4t y x).2.2.1
def f67_L4_e1 (y : f67_L4_Y) (x : f67_L4_X) : Bool := (f67_L4t y x).2.2.2.1
def f67_L4_e2 (y : f67_L4_Y) (x : f67_L4_X) : Bool := (f67_L4t y x).2.2.2.2
instance (y : f67_L4_Y) (x : f67_L4_X) : Decidable (f67_L4_ok y x) := by
 unfold f67_L4_ok f67_L4t
 try dsimp only
 infer_instance
def f67_L4_x1_0 (y : f67_L4_Y) (x : f67_L4_X) : Bool :=
 false
def f67_L4_spec : St → Option Out := loopS [(0, (.val (.sl T58))), (1, (.val (.sl T58))), (12, vI)] [(13, vI)] f67_L4_g f67_L4_next f67_L4_ok fun y x => [ex 1 (some (f67_L4_e1 y x)) [(4, vB)] ((f67_L4_x1_0 y x), ()), ex 2 (some (f67_L4_e2 y x)) [] ()]
def f67t (p0 : (List D58)) (p1 : (List D58)) : Prop × Bool :=
 let v10 := ((len p0) != (len p1))
 let y4 := (p0, p1, (len p0), ())
 let x4 := ((0 : Int), ())
 let e4 := (loopEnd (f67_L4_g y4) (f67_L4_next y4) x4)
 (((!v10) = true → (Am.Ends (f67_L4_g y4) (f67_L4_next y4) (f67_L4_ok y4) x4)), (bif v10 then false else (bif (f67_L4_e1 y4 e4) then (f67_L4_x1_0 y4 e4) else true)))
def f67_ok (p0 : (List D58)) (p1 : (List D58)) : Prop := (f67t p0 p1).1
def f67 (p0 : (List D58)) (p1 : (List D58)) : Bool := (f67t p0 p1).2
instance (p0 : (List D58)) (p1 : (List D58)) : Decidable (f67_ok p0 p1) := by
 unfold f67_ok f67t
 try dsimp only
 infer_instance
def f67_spec : Am.Spec := fnSpec [(0, (.val (.sl T58))), (1, (.val (.sl T58)))] vB [] (fun x => f67_ok x.1 x.2.1) (fun x => f67 x.1 x.2.1) (fun _ => ())
def f67_ctx : Ctx := Cx tys [] [(4, f67_L4_spec)] [] false 26 [] []
theorem f67_cok : CtxOk Tryz.prog f67_ctx := ctxOk_mk tys_ok rfl trivial rfl (by kernel_rfl)
noncomputable def f67_code : Code := Tryz.f67.body.getD .skip
noncomputable def f67_L4 : Code := nthLoop f67_code 0
theorem f67_L4_is : LoopSnd Tryz.prog f67_ctx f67_L4 := lgen f67_cok mixed (sp := f67_L4_spec) rfl [[(4, vB)], []] (bs := []) (by kernel_rfl) trivial (by kernel_rfl) (by kernel_rfl) fun y x => by kernel_rfl
theorem f67_is : SpecOk Tryz.prog 67 f67_spec := fgen f67_cok mixed Tryz.func67 (by kernel_rfl) (bs := [f67_L4]) (by kernel_rfl) ⟨f67_L4_is, trivial⟩ fun x => by kernel_rfl

-- slices.Equal[[]imageeditor/api.Point,imageeditor/api.Point]
abbrev f68_L4_Y : Type := ((List D55) × (List D55) × Int × Unit)
abbrev f68_L4_X : Type := (Int × Unit)
def f68_L4t (y : f68_L4_Y) (x : f68_L4_X) : Prop × Bool × f68_L4_X × Bool × Bool :=
 let a0 := y.1 
 let a1 := y.2.1 
 let a13 := x.1 
 let v14 := (decide (a13 < y.2.2.1))
 let v24 := (!(Ty.eqb T55 (nth a0 a13 Z55) (nth a1 a13 Z55)))
 ((v14 = true → (InB a13 (len a0) ∧ (InB a13 (len a1) ∧ ((!v24) = true → InR (a13 + 1))))), (v14 && (!v24)), ((a13 + 1), ()), (v14 && v24), (!v14))
def f68_L4_ok (y : f68_L4_Y) (x : f68_L4_X) : Prop := (f68_L4t y x).1
def f68_L4_g (y : f68_L4_Y) (x : f68_L4_X) : Bool := (f68_L4t y x).2.1
def f68_L4_next (y : f68_L4_Y) (x : f68_L4_X) : f68_L4_X := (f68_L4t y x).2.2.1
def f68_L4_e1 (y : f68_L4_Y) (x : f68_L4_X) : Bool := (f68_L4t y x).2.2.2.1
def f68_L4_e2 (y : f68_L4_Y) (x : f68_L4_X) : Bool := (f68_L4t y x).2.2.2.2
instance (y : f68_L4_Y) (x : f68_L4_X) : Decidable (f68_L4_ok y x) := by
 unfold f68_L4_ok f68_L4t
 try dsimp only
 infer_instance
def f68_L4_x1_0 (y : f68_L4_Y) (x : f68_L4_X) : Bool :=
 false
def f68_L4_spec : St → Option Out := loopS [(0, (.val (.sl T55))), (1, (.val (.sl T55))), (12, vI)] [(13, vI)] f68_L4_g f68_L4_next f68_L4_ok fun y x => [ex 1 (some (f68_L4_e1 y x)) [(4, vB)] ((f68_L4_x1_0 y x), ()), ex 2 (some (f68_L4_e2 y x)) [] ()]
def f68t (p0 : (List D55)) (p1 : (List D55)) : Prop × Bool :=
 let v10 := ((len p0) != (len p1))
 let y4 := (p0, p1, (len p0), ())
 let x4 := ((0 : Int), ())
 let e4 := (loopEnd (f68_L4_g y4) (f68_L4_next y4) x4)
 (((!v10) = true → (Am.Ends (f68_L4_g y4) (f68_L4_next y4) (f68_L4_ok y4) x4)), (bif v10 then false else (bif (f68_L4_e1 y4 e4) then (f68_L4_x1_0 y4 e4) else true)))
def f68_ok (p0 : (List D55)) (p1 : (List D55)) : Prop := (f68t p0 p1).1
def f68 (p0 : (List D55)) (p1 : (List D55)) : Bool := (f68t p0 p1).2
instance (p0 : (List D55)) (p1 : (List D55)) : Decidable (f68_ok p0 p1) := by
 unfold f68_ok f68t
 try dsimp only
 infer_instance
def f68_spec : Am.Spec := fnSpec [(0, (.val (.sl T55))), (1, (.val (.sl T55)))] vB [] (fun x => f68_ok x.1 x.2.1) (fun x => f68 x.1 x.2.1) (fun _ => ())
def f68_ctx : Ctx := Cx tys [] [(4, f68_L4_spec)] [] false 26 [] []
theorem f68_cok : CtxOk Tryz.prog f68_ctx := ctxOk_mk tys_ok rfl trivial rfl (by kernel_rfl)
noncomputable def f68_code : Code := Tryz.f68.body.getD .skip
noncomputable def f68_L4 : Code := nthLoop f68_code 0
theorem f68_L4_is : LoopSnd Tryz.prog f68_ctx f68_L4 := lgen f68_cok mixed (sp := f68_L4_spec) rfl [[(4, vB)], []] (bs := []) (by kernel_rfl) trivial (by kernel_rfl) (by kernel_rfl) fun y x => by kernel_rfl
theorem f68_is : SpecOk Tryz.prog 68 f68_spec := fgen f68_cok mixed Tryz.func68 (by kernel_rfl) (bs := [f68_L4]) (by kernel_rfl) ⟨f68_L4_is, trivial⟩ fun x => by kernel_rfl

-- imageeditor/node.sameContent
def f38t (p0 : D37) (p1 : D37) : Prop × Bool :=
 let v17 := (bif (!(f65 p0.2.2.2.2.2.2.2.2.2.2.2.2.1 p1.2.2.2.2.2.2.2.2.2.2.2.2.1)) then true else (!(Ty.eqb T30 p0.2.2.2.2.2.2.2.2.2.2.2.2.2.1 p1.2.2.2.2.2.2.2.2.2.2.2.2.2.1)))
 let v29 := (bif (p0.2.2.2.2.2.2.2.2.2.2.2.2.2.2.1 != p1.2.2.2.2.2.2.2.2.2.2.2.2.2.2.1) then true else (p0.2.2.2.2.2.2.2.2.2.2.2.2.2.2.2.2.1 != p1.2.2.2.2.2.2.2.2.2.2.2.2.2.2.2.2.1))
 let v35 := (!(f37 p0.2.2.2.2.2.2.2.2.2.2.2.2.2.2.2.1 p1.2.2.2.2.2.2.2.2.2.2.2.2.2.2.2.1))
 let v43 := (bif v35 then true else (!(f66 p0.2.2.2.2.2.2.2.2.2.2.2.2.2.2.2.2.2.1 p1.2.2.2.2.2.2.2.2.2.2.2.2.2.2.2.2.2.1)))
 let v51 := (bif v43 then true else (!(f67 p0.2.2.2.2.2.2.2.2.2.2.2.2.2.2.2.2.2.2.1 p1.2.2.2.2.2.2.2.2.2.2.2.2.2.2.2.2.2.2.1)))
 let v63 := (bif (p0.2.2.2.2.2.2.2.2.2.2.2.2.2.2.2.2.2.2.2.1 != p1.2.2.2.2.2.2.2.2.2.2.2.2.2.2.2.2.2.2.2.1) then true else (p0.2.2.2.2.2.2.2.2.2.2.2.2.2.2.2.2.2.2.2.2.1 != p1.2.2.2.2.2.2.2.2.2.2.2.2.2.2.2.2.2.2.2.2.1))
 let v77 := (bif (bif v63 then true else (p0.2.2.2.2.2.2.2.2.2.2.2.2.2.2.2.2.2.2.2.2.2.1 != p1.2.2.2.2.2.2.2.2.2.2.2.2.2.2.2.2.2.2.2.2.2.1)) then true else (p0.2.2.2.2.2.2.2.2.2.2.2.2.2.2.2.2.2.2.2.2.2.2.1 != p1.2.2.2.2.2.2.2.2.2.2.2.2.2.2.2.2.2.2.2.2.2.2.1))
 let v89 := (bif (!(p0.2.2.2.2.2.2.2.2.2.2.2.2.2.2.2.2.2.2.2.2.2.2.2.1 == p1.2.2.2.2.2.2.2.2.2.2.2.2.2.2.2.2.2.2.2.2.2.2.2.1)) then true else (p0.2.2.2.2.2.2.2.2.2.2.2.2.2.2.2.2.2.2.2.2.2.2.2.2.1 != p1.2.2.2.2.2.2.2.2.2.2.2.2.2.2.2.2.2.2.2.2.2.2.2.2.1))
 let v103 := (bif (bif v89 then true else (p0.2.2.2.2.2.2.2.2.2.2.2.2.2.2.2.2.2.2.2.2.2.2.2.2.2.1 != p1.2.2.2.2.2.2.2.2.2.2.2.2.2.2.2.2.2.2.2.2.2.2.2.2.2.1)) then true else (p0.2.2.2.2.2.2.2.2.2.2.2.2.2.2.2.2.2.2.2.2.2.2.2.2.2.2.1 != p1.2.2.2.2.2.2.2.2.2.2.2.2.2.2.2.2.2.2.2.2.2.2.2.2.2.2.1))
 let v119 := (bif (p0.2.2.2.2.2.2.2.2.2.2.2.2.2.2.2.2.2.2.2.2.2.2.2.2.2.2.2.1.1 != p1.2.2.2.2.2.2.2.2.2.2.2.2.2.2.2.2.2.2.2.2.2.2.2.2.2.2.2.1.1) then true else (p0.2.2.2.2.2.2.2.2.2.2.2.2.2.2.2.2.2.2.2.2.2.2.2.2.2.2.2.1.2.1 != p1.2.2.2.2.2.2.2.2.2.2.2.2.2.2.2.2.2.2.2.2.2.2.2.2.2.2.2.1.2.1))
 let v128 := (bif v119 then true else (p0.2.2.2.2.2.2.2.2.2.2.2.2.2.2.2.2.2.2.2.2.2.2.2.2.2.2.2.1.2.2.1 != p1.2.2.2.2.2.2.2.2.2.2.2.2.2.2.2.2.2.2.2.2.2.2.2.2.2.2.2.1.2.2.1))
 let m4_2 := (bif v77 then false else (bif v103 then false else (bif v128 then false else (f68 p0.2.2.2.2.2.2.2.2.2.2.2.2.2.2.2.2.2.2.2.2.2.2.2.2.2.2.2.1.2.2.2.1 p1.2.2.2.2.2.2.2.2.2.2.2.2.2.2.2.2.2.2.2.2.2.2.2.2.2.2.2.1.2.2.2.1))))
 (((f65_ok p0.2.2.2.2.2.2.2.2.2.2.2.2.1 p1.2.2.2.2.2.2.2.2.2.2.2.2.1) ∧ ((!v17) = true → ((!v29) = true → ((f37_ok p0.2.2.2.2.2.2.2.2.2.2.2.2.2.2.2.1 p1.2.2.2.2.2.2.2.2.2.2.2.2.2.2.2.1) ∧ (((!v35) = true → (f66_ok p0.2.2.2.2.2.2.2.2.2.2.2.2.2.2.2.2.2.1 p1.2.2.2.2.2.2.2.2.2.2.2.2.2.2.2.2.2.1)) ∧ (((!v43) = true → (f67_ok p0.2.2.2.2.2.2.2.2.2.2.2.2.2.2.2.2.2.2.1 p1.2.2.2.2.2.2.2.2.2.2.2.2.2.2.2.2.2.2.1)) ∧ ((!v51) = true → ((!v77) = true → ((!v103) = true → ((!v128) = true → (f68_ok p0.2.2.2.2.2.2.2.2.2.2.2.2.2.2.2.2.2.2.2.2.2.2.2.2.2.2.2.1.2.2.2.1 p1.2.2.2.2.2.2.2.2.2.2.2.2.2.2.2.2.2.2.2.2.2.2.2.2.2.2.2.1.2.2.2.1))))))))))), (bif v17 then false else (bif v29 then false else (bif v51 then false else m4_2))))
def f38_ok (p0 : D37) (p1 : D37) : Prop := (f38t p0 p1).1
def f38 (p0 : D37) (p1 : D37) : Bool := (f38t p0 p1).2
instance (p0 : D37) (p1 : D37) : Decidable (f38_ok p0 p1) := by
 unfold f38_ok f38t
 try dsimp only
 infer_instance
def f38_spec : Am.Spec := fnSpec [(0, (.val T37)), (1, (.val T37))] vB [] (fun x => f38_ok x.1 x.2.1) (fun x => f38 x.1 x.2.1) (fun _ => ())
def f38_ctx : Ctx := Cx tys [(37, f37_spec), (65, f65_spec), (66, f66_spec), (67, f67_spec), (68, f68_spec)] [] [] false 136 [] []
theorem f38_cok : CtxOk Tryz.prog f38_ctx := ctxOk_mk tys_ok rfl ⟨f37_is, f65_is, f66_is, f67_is, f68_is, trivial⟩ rfl (by kernel_rfl)
theorem f38_is : SpecOk Tryz.prog 38 f38_spec := fgen f38_cok mixed Tryz.func38 (by kernel_rfl) (bs := []) (by kernel_rfl) trivial fun x => by kernel_rfl

-- imageeditor/node.Same
def f14t (p0 : D37) (p1 : D37) : Prop × Bool :=
 let v30 := (bif (bif (bif (p0.1 != p1.1) then true else (p0.2.1 != p1.2.1)) then true else (p0.2.2.1 != p1.2.2.1)) then true else (!(p0.2.2.2.1 == p1.2.2.2.1)))
 let v49 := (bif (bif (!(Ty.eqb .bool p0.2.2.2.2.1 p1.2.2.2.2.1)) then true else (!(Ty.eqb .bool p0.2.2.2.2.2.1 p1.2.2.2.2.2.1))) then true else (!(Ty.eqb .bool p0.2.2.2.2.2.2.1 p1.2.2.2.2.2.2.1)))
 let v75 := (bif (bif (bif (p0.2.2.2.2.2.2.2.1 != p1.2.2.2.2.2.2.2.1) then true else (p0.2.2.2.2.2.2.2.2.1 != p1.2.2.2.2.2.2.2.2.1)) then true else (!(Ty.eqb T25 p0.2.2.2.2.2.2.2.2.2.2.1 p1.2.2.2.2.2.2.2.2.2.2.1))) then true else (p0.2.2.2.2.2.2.2.2.2.2.2.1 != p1.2.2.2.2.2.2.2.2.2.2.2.1))
 let v91 := (bif (p0.2.2.2.2.2.2.2.2.2.1.1 != p1.2.2.2.2.2.2.2.2.2.1.1) then true else (p0.2.2.2.2.2.2.2.2.2.1.2.1 != p1.2.2.2.2.2.2.2.2.2.1.2.1))
 let v101 := (bif v91 then true else (!(f37 p0.2.2.2.2.2.2.2.2.2.1.2.2.1 p1.2.2.2.2.2.2.2.2.2.1.2.2.1)))
 (((!v30) = true → ((!v49) = true → ((!v75) = true → (((!v91) = true → (f37_ok p0.2.2.2.2.2.2.2.2.2.1.2.2.1 p1.2.2.2.2.2.2.2.2.2.1.2.2.1)) ∧ ((!v101) = true → (f38_ok p0 p1)))))), (bif v30 then false else (bif v49 then false else (bif v75 then false else (bif v101 then false else (f38 p0 p1))))))
def f14_ok (p0 : D37) (p1 : D37) : Prop := (f14t p0 p1).1
def f14 (p0 : D37) (p1 : D37) : Bool := (f14t p0 p1).2
instance (p0 : D37) (p1 : D37) : Decidable (f14_ok p0 p1) := by
 unfold f14_ok f14t
 try dsimp only
 infer_instance
def f14_spec : Am.Spec := fnSpec [(0, (.val T37)), (1, (.val T37))] vB [] (fun x => f14_ok x.1 x.2.1) (fun x => f14 x.1 x.2.1) (fun _ => ())
def f14_ctx : Ctx := Cx tys [(37, f37_spec), (38, f38_spec)] [] [] false 105 [] []
theorem f14_cok : CtxOk Tryz.prog f14_ctx := ctxOk_mk tys_ok rfl ⟨f37_is, f38_is, trivial⟩ rfl (by kernel_rfl)
theorem f14_is : SpecOk Tryz.prog 14 f14_spec := fgen f14_cok mixed Tryz.func14 (by kernel_rfl) (bs := []) (by kernel_rfl) trivial fun x => by kernel_rfl

-- imageeditor/imageeditorlaw31.NodeEquals
def f5t (p0 : D47) (p1 : Int) (p2 : Int) : Prop × Bool :=
 let v12 := (!(f14 p0.1 p0.1))
 let v25 := (bif v12 then true else (!(Ty.eqb .bool (f14 p0.1 p0.2.1) (f14 p0.2.1 p0.1))))
 let v31 := (!(f14 p0.1 p0.2.1))
 let v44 := (bif v31 then true else ((f11 p0.1 p1 p2) == (f11 p0.2.1 p1 p2)))
 (((f14_ok p0.1 p0.1) ∧ (((!v12) = true → (f14_ok p0.1 p0.2.1)) ∧ (((!v12) = true → (f14_ok p0.2.1 p0.1)) ∧ ((!v25) = true → ((f14_ok p0.1 p0.2.1) ∧ (((!v31) = true → (f11_ok p0.1 p1 p2)) ∧ (((!v31) = true → (f11_ok p0.2.1 p1 p2)) ∧ (v44 = true → f12_ok)))))))), (bif v25 then false else (bif v44 then f12 else false)))
def f5_ok (p0 : D47) (p1 : Int) (p2 : Int) : Prop := (f5t p0 p1 p2).1
def f5 (p0 : D47) (p1 : Int) (p2 : Int) : Bool := (f5t p0 p1 p2).2
instance (p0 : D47) (p1 : Int) (p2 : Int) : Decidable (f5_ok p0 p1 p2) := by
 unfold f5_ok f5t
 try dsimp only
 infer_instance
def f5_spec : Am.Spec := fnSpec [(0, (.val T47)), (1, vI), (2, vI)] vB [] (fun x => f5_ok x.1 x.2.1 x.2.2.1) (fun x => f5 x.1 x.2.1 x.2.2.1) (fun _ => ())
def f5_ctx : Ctx := Cx tys [(11, f11_spec), (12, f12_spec), (14, f14_spec)] [] [] false 48 [] []
theorem f5_cok : CtxOk Tryz.prog f5_ctx := ctxOk_mk tys_ok rfl ⟨f11_is, f12_is, f14_is, trivial⟩ rfl (by kernel_rfl)
theorem f5_is : SpecOk Tryz.prog 5 f5_spec := fgen f5_cok mixed Tryz.func5 (by kernel_rfl) (bs := []) (by kernel_rfl) trivial fun x => by kernel_rfl

-- imageeditor/imageeditorref31.SameInts
abbrev f41_L4_Y : Type := ((List Int) × (List Int) × Unit)
abbrev f41_L4_X : Type := (Int × Unit)
def f41_L4t (y : f41_L4_Y) (x : f41_L4_X) : Prop × Bool × f41_L4_X × Bool × Bool :=
 let a0 := y.1 
 let a1 := y.2.1 
 let a5 := x.1 
 let v14 := (decide (a5 < (len a0)))
 let v25 := ((nth a0 a5 (0 : Int)) != (nth a1 a5 (0 : Int)))
 ((v14 = true → (InB a5 (len a0) ∧ (InB a5 (len a1) ∧ ((!v25) = true → InR (a5 + 1))))), (v14 && (!v25)), ((a5 + 1), ()), (v14 && v25), (!v14))
def f41_L4_ok (y : f41_L4_Y) (x : f41_L4_X) : Prop := (f41_L4t y x).1
def f41_L4_g (y : f41_L4_Y) (x : f41_L4_X) : Bool := (f41_L4t y x).2.1
def f41_L4_next (y : f41_L4_Y) (x : f41_L4_X) : f41_L4_X := (f41_L4t y x).2.2.1
def f41_L4_e1 (y : f41_L4_Y) (x : f41_L4_X) : Bool := (f41_L4t y x).2.2.2.1
def f41_L4_e2 (y : f41_L4_Y) (x : f41_L4_X) : Bool := (f41_L4t y x).2.2.2.2
instance (y : f41_L4_Y) (x : f41_L4_X) : Decidable (f41_L4_ok y x) := by
 unfold f41_L4_ok f41_L4t
 try dsimp only
 infer_instance
def f41_L4_x1_0 (y : f41_L4_Y) (x : f41_L4_X) : Bool :=
 false
def f41_L4_spec : St → Option Out := loopS [(0, (.val (.sl (.int .i64)))), (1, (.val (.sl (.int .i64))))] [(5, vI)] f41_L4_g f41_L4_next f41_L4_ok fun y x => [ex 1 (some (f41_L4_e1 y x)) [(4, vB)] ((f41_L4_x1_0 y x), ()), ex 2 (some (f41_L4_e2 y x)) [] ()]
def f41t (p0 : (List Int)) (p1 : (List Int)) : Prop × Bool :=
 let v10 := ((len p0) != (len p1))
 let y4 := (p0, p1, ())
 let x4 := ((0 : Int), ())
 let e4 := (loopEnd (f41_L4_g y4) (f41_L4_next y4) x4)
 (((!v10) = true → (Am.Ends (f41_L4_g y4) (f41_L4_next y4) (f41_L4_ok y4) x4)), (bif v10 then false else (bif (f41_L4_e1 y4 e4) then (f41_L4_x1_0 y4 e4) else true)))
def f41_ok (p0 : (List Int)) (p1 : (List Int)) : Prop := (f41t p0 p1).1
def f41 (p0 : (List Int)) (p1 : (List Int)) : Bool := (f41t p0 p1).2
instance (p0 : (List Int)) (p1 : (List Int)) : Decidable (f41_ok p0 p1) := by
 unfold f41_ok f41t
 try dsimp only
 infer_instance
def f41_spec : Am.Spec := fnSpec [(0, (.val (.sl (.int .i64)))), (1, (.val (.sl (.int .i64))))] vB [] (fun x => f41_ok x.1 x.2.1) (fun x => f41 x.1 x.2.1) (fun _ => ())
def f41_ctx : Ctx := Cx tys [] [(4, f41_L4_spec)] [] false 26 [] []
theorem f41_cok : CtxOk Tryz.prog f41_ctx := ctxOk_mk tys_ok rfl trivial rfl (by kernel_rfl)
noncomputable def f41_code : Code := Tryz.f41.body.getD .skip
noncomputable def f41_L4 : Code := nthLoop f41_code 0
theorem f41_L4_is : LoopSnd Tryz.prog f41_ctx f41_L4 := lgen f41_cok mixed (sp := f41_L4_spec) rfl [[(4, vB)], []] (bs := []) (by kernel_rfl) trivial (by kernel_rfl) (by kernel_rfl) fun y x => by kernel_rfl
theorem f41_is : SpecOk Tryz.prog 41 f41_spec := fgen f41_cok mixed Tryz.func41 (by kernel_rfl) (bs := [f41_L4]) (by kernel_rfl) ⟨f41_L4_is, trivial⟩ fun x => by kernel_rfl

-- imageeditor/imageeditorref31.SameMask
def f21t (p0 : D23) (p1 : D23) : Prop × Bool :=
 let v16 := (bif (p0.1 == p1.1) then (p0.2.1 == p1.2.1) else false)
 ((v16 = true → (f41_ok p0.2.2.1 p1.2.2.1)), (bif v16 then (f41 p0.2.2.1 p1.2.2.1) else false))
def f21_ok (p0 : D23) (p1 : D23) : Prop := (f21t p0 p1).1
def f21 (p0 : D23) (p1 : D23) : Bool := (f21t p0 p1).2
instance (p0 : D23) (p1 : D23) : Decidable (f21_ok p0 p1) := by
 unfold f21_ok f21t
 try dsimp only
 infer_instance
def f21_spec : Am.Spec := fnSpec [(0, (.val T23)), (1, (.val T23))] vB [] (fun x => f21_ok x.1 x.2.1) (fun x => f21 x.1 x.2.1) (fun _ => ())
def f21_ctx : Ctx := Cx tys [(41, f41_spec)] [] [] false 24 [] []
theorem f21_cok : CtxOk Tryz.prog f21_ctx := ctxOk_mk tys_ok rfl ⟨f41_is, trivial⟩ rfl (by kernel_rfl)
theorem f21_is : SpecOk Tryz.prog 21 f21_spec := fgen f21_cok mixed Tryz.func21 (by kernel_rfl) (bs := []) (by kernel_rfl) trivial fun x => by kernel_rfl

-- imageeditor/imageeditorref31.SameImage
abbrev f42_L4_Y : Type := (D28 × D28 × Unit)
abbrev f42_L4_X : Type := (Int × Unit)
def f42_L4t (y : f42_L4_Y) (x : f42_L4_X) : Prop × Bool × f42_L4_X × Bool × Bool :=
 let a2 := y.1 
 let a3 := y.2.1 
 let a5 := x.1 
 let v31 := (decide (a5 < (len a2.2.2.1)))
 let v44 := (!(Ty.eqb T30 (nth a2.2.2.1 a5 Z30) (nth a3.2.2.1 a5 Z30)))
 ((v31 = true → (InB a5 (len a2.2.2.1) ∧ (InB a5 (len a3.2.2.1) ∧ ((!v44) = true → InR (a5 + 1))))), (v31 && (!v44)), ((a5 + 1), ()), (v31 && v44), (!v31))
def f42_L4_ok (y : f42_L4_Y) (x : f42_L4_X) : Prop := (f42_L4t y x).1
def f42_L4_g (y : f42_L4_Y) (x : f42_L4_X) : Bool := (f42_L4t y x).2.1
def f42_L4_next (y : f42_L4_Y) (x : f42_L4_X) : f42_L4_X := (f42_L4t y x).2.2.1
def f42_L4_e1 (y : f42_L4_Y) (x : f42_L4_X) : Bool := (f42_L4t y x).2.2.2.1
def f42_L4_e2 (y : f42_L4_Y) (x : f42_L4_X) : Bool := (f42_L4t y x).2.2.2.2
instance (y : f42_L4_Y) (x : f42_L4_X) : Decidable (f42_L4_ok y x) := by
 unfold f42_L4_ok f42_L4t
 try dsimp only
 infer_instance
def f42_L4_x1_0 (y : f42_L4_Y) (x : f42_L4_X) : Bool :=
 false
def f42_L4_spec : St → Option Out := loopS [(2, (.box T28 (.val T28))), (3, (.box T28 (.val T28)))] [(5, vI)] f42_L4_g f42_L4_next f42_L4_ok fun y x => [ex 1 (some (f42_L4_e1 y x)) [(4, vB)] ((f42_L4_x1_0 y x), ()), ex 2 (some (f42_L4_e2 y x)) [] ()]
def f42t (p0 : D28) (p1 : D28) : Prop × Bool :=
 let v26 := (bif (bif (p0.1 != p1.1) then true else (p0.2.1 != p1.2.1)) then true else ((len p0.2.2.1) != (len p1.2.2.1)))
 let y4 := (p0, p1, ())
 let x4 := ((0 : Int), ())
 let e4 := (loopEnd (f42_L4_g y4) (f42_L4_next y4) x4)
 (((!v26) = true → (Am.Ends (f42_L4_g y4) (f42_L4_next y4) (f42_L4_ok y4) x4)), (bif v26 then false else (bif (f42_L4_e1 y4 e4) then (f42_L4_x1_0 y4 e4) else true)))
def f42_ok (p0 : D28) (p1 : D28) : Prop := (f42t p0 p1).1
def f42 (p0 : D28) (p1 : D28) : Bool := (f42t p0 p1).2
instance (p0 : D28) (p1 : D28) : Decidable (f42_ok p0 p1) := by
 unfold f42_ok f42t
 try dsimp only
 infer_instance
def f42_spec : Am.Spec := fnSpec [(0, (.val T28)), (1, (.val T28))] vB [] (fun x => f42_ok x.1 x.2.1) (fun x => f42 x.1 x.2.1) (fun _ => ())
def f42_ctx : Ctx := Cx tys [] [(4, f42_L4_spec)] [] false 45 [] []
theorem f42_cok : CtxOk Tryz.prog f42_ctx := ctxOk_mk tys_ok rfl trivial rfl (by kernel_rfl)
noncomputable def f42_code : Code := Tryz.f42.body.getD .skip
noncomputable def f42_L4 : Code := nthLoop f42_code 0
theorem f42_L4_is : LoopSnd Tryz.prog f42_ctx f42_L4 := lgen f42_cok mixed (sp := f42_L4_spec) rfl [[(4, vB)], []] (bs := []) (by kernel_rfl) trivial (by kernel_rfl) (by kernel_rfl) fun y x => by kernel_rfl
theorem f42_is : SpecOk Tryz.prog 42 f42_spec := fgen f42_cok mixed Tryz.func42 (by kernel_rfl) (bs := [f42_L4]) (by kernel_rfl) ⟨f42_L4_is, trivial⟩ fun x => by kernel_rfl

-- imageeditor/imageeditorref31.sameStops
abbrev f43_L4_Y : Type := ((List D53) × (List D53) × Unit)
abbrev f43_L4_X : Type := (Int × Unit)
def f43_L4t (y : f43_L4_Y) (x : f43_L4_X) : Prop × Bool × f43_L4_X × Bool × Bool :=
 let a0 := y.1 
 let a1 := y.2.1 
 let a5 := x.1 
 let v14 := (decide (a5 < (len a0)))
 let v25 := (!(Ty.eqb T53 (nth a0 a5 Z53) (nth a1 a5 Z53)))
 ((v14 = true → (InB a5 (len a0) ∧ (InB a5 (len a1) ∧ ((!v25) = true → InR (a5 + 1))))), (v14 && (!v25)), ((a5 + 1), ()), (v14 && v25), (!v14))
def f43_L4_ok (y : f43_L4_Y) (x : f43_L4_X) : Prop := (f43_L4t y x).1
def f43_L4_g (y : f43_L4_Y) (x : f43_L4_X) : Bool := (f43_L4t y x).2.1
def f43_L4_next (y : f43_L4_Y) (x : f43_L4_X) : f43_L4_X := (f43_L4t y x).2.2.1
def f43_L4_e1 (y : f43_L4_Y) (x : f43_L4_X) : Bool := (f43_L4t y x).2.2.2.1
def f43_L4_e2 (y : f43_L4_Y) (x : f43_L4_X) : Bool := (f43_L4t y x).2.2.2.2
instance (y : f43_L4_Y) (x : f43_L4_X) : Decidable (f43_L4_ok y x) := by
 unfold f43_L4_ok f43_L4t
 try dsimp only
 infer_instance
def f43_L4_x1_0 (y : f43_L4_Y) (x : f43_L4_X) : Bool :=
 false
def f43_L4_spec : St → Option Out := loopS [(0, (.val (.sl T53))), (1, (.val (.sl T53)))] [(5, vI)] f43_L4_g f43_L4_next f43_L4_ok fun y x => [ex 1 (some (f43_L4_e1 y x)) [(4, vB)] ((f43_L4_x1_0 y x), ()), ex 2 (some (f43_L4_e2 y x)) [] ()]
def f43t (p0 : (List D53)) (p1 : (List D53)) : Prop × Bool :=
 let v10 := ((len p0) != (len p1))
 let y4 := (p0, p1, ())
 let x4 := ((0 : Int), ())
 let e4 := (loopEnd (f43_L4_g y4) (f43_L4_next y4) x4)
 (((!v10) = true → (Am.Ends (f43_L4_g y4) (f43_L4_next y4) (f43_L4_ok y4) x4)), (bif v10 then false else (bif (f43_L4_e1 y4 e4) then (f43_L4_x1_0 y4 e4) else true)))
def f43_ok (p0 : (List D53)) (p1 : (List D53)) : Prop := (f43t p0 p1).1
def f43 (p0 : (List D53)) (p1 : (List D53)) : Bool := (f43t p0 p1).2
instance (p0 : (List D53)) (p1 : (List D53)) : Decidable (f43_ok p0 p1) := by
 unfold f43_ok f43t
 try dsimp only
 infer_instance
def f43_spec : Am.Spec := fnSpec [(0, (.val (.sl T53))), (1, (.val (.sl T53)))] vB [] (fun x => f43_ok x.1 x.2.1) (fun x => f43 x.1 x.2.1) (fun _ => ())
def f43_ctx : Ctx := Cx tys [] [(4, f43_L4_spec)] [] false 26 [] []
theorem f43_cok : CtxOk Tryz.prog f43_ctx := ctxOk_mk tys_ok rfl trivial rfl (by kernel_rfl)
noncomputable def f43_code : Code := Tryz.f43.body.getD .skip
noncomputable def f43_L4 : Code := nthLoop f43_code 0
theorem f43_L4_is : LoopSnd Tryz.prog f43_ctx f43_L4 := lgen f43_cok mixed (sp := f43_L4_spec) rfl [[(4, vB)], []] (bs := []) (by kernel_rfl) trivial (by kernel_rfl) (by kernel_rfl) fun y x => by kernel_rfl
theorem f43_is : SpecOk Tryz.prog 43 f43_spec := fgen f43_cok mixed Tryz.func43 (by kernel_rfl) (bs := [f43_L4]) (by kernel_rfl) ⟨f43_L4_is, trivial⟩ fun x => by kernel_rfl

-- imageeditor/imageeditorref31.sameSegs
abbrev f44_L4_Y : Type := ((List D58) × (List D58) × Unit)
abbrev f44_L4_X : Type := (Int × Unit)
def f44_L4t (y : f44_L4_Y) (x : f44_L4_X) : Prop × Bool × f44_L4_X × Bool × Bool :=
 let a0 := y.1 
 let a1 := y.2.1 
 let a5 := x.1 
 let v14 := (decide (a5 < (len a0)))
 let v25 := (!(Ty.eqb T58 (nth a0 a5 Z58) (nth a1 a5 Z58)))
 ((v14 = true → (InB a5 (len a0) ∧ (InB a5 (len a1) ∧ ((!v25) = true → InR (a5 + 1))))), (v14 && (!v25)), ((a5 + 1), ()), (v14 && v25), (!v14))
def f44_L4_ok (y : f44_L4_Y) (x : f44_L4_X) : Prop := (f44_L4t y x).1
def f44_L4_g (y : f44_L4_Y) (x : f44_L4_X) : Bool := (f44_L4t y x).2.1
def f44_L4_next (y : f44_L4_Y) (x : f44_L4_X) : f44_L4_X := (f44_L4t y x).2.2.1
def f44_L4_e1 (y : f44_L4_Y) (x : f44_L4_X) : Bool := (f44_L4t y x).2.2.2.1
def f44_L4_e2 (y : f44_L4_Y) (x : f44_L4_X) : Bool := (f44_L4t y x).2.2.2.2
instance (y : f44_L4_Y) (x : f44_L4_X) : Decidable (f44_L4_ok y x) := by
 unfold f44_L4_ok f44_L4t
 try dsimp only
 infer_instance
def f44_L4_x1_0 (y : f44_L4_Y) (x : f44_L4_X) : Bool :=
 false
def f44_L4_spec : St → Option Out := loopS [(0, (.val (.sl T58))), (1, (.val (.sl T58)))] [(5, vI)] f44_L4_g f44_L4_next f44_L4_ok fun y x => [ex 1 (some (f44_L4_e1 y x)) [(4, vB)] ((f44_L4_x1_0 y x), ()), ex 2 (some (f44_L4_e2 y x)) [] ()]
def f44t (p0 : (List D58)) (p1 : (List D58)) : Prop × Bool :=
 let v10 := ((len p0) != (len p1))
 let y4 := (p0, p1, ())
 let x4 := ((0 : Int), ())
 let e4 := (loopEnd (f44_L4_g y4) (f44_L4_next y4) x4)
 (((!v10) = true → (Am.Ends (f44_L4_g y4) (f44_L4_next y4) (f44_L4_ok y4) x4)), (bif v10 then false else (bif (f44_L4_e1 y4 e4) then (f44_L4_x1_0 y4 e4) else true)))
def f44_ok (p0 : (List D58)) (p1 : (List D58)) : Prop := (f44t p0 p1).1
def f44 (p0 : (List D58)) (p1 : (List D58)) : Bool := (f44t p0 p1).2
instance (p0 : (List D58)) (p1 : (List D58)) : Decidable (f44_ok p0 p1) := by
 unfold f44_ok f44t
 try dsimp only
 infer_instance
def f44_spec : Am.Spec := fnSpec [(0, (.val (.sl T58))), (1, (.val (.sl T58)))] vB [] (fun x => f44_ok x.1 x.2.1) (fun x => f44 x.1 x.2.1) (fun _ => ())
def f44_ctx : Ctx := Cx tys [] [(4, f44_L4_spec)] [] false 26 [] []
theorem f44_cok : CtxOk Tryz.prog f44_ctx := ctxOk_mk tys_ok rfl trivial rfl (by kernel_rfl)
noncomputable def f44_code : Code := Tryz.f44.body.getD .skip
noncomputable def f44_L4 : Code := nthLoop f44_code 0
theorem f44_L4_is : LoopSnd Tryz.prog f44_ctx f44_L4 := lgen f44_cok mixed (sp := f44_L4_spec) rfl [[(4, vB)], []] (bs := []) (by kernel_rfl) trivial (by kernel_rfl) (by kernel_rfl) fun y x => by kernel_rfl
theorem f44_is : SpecOk Tryz.prog 44 f44_spec := fgen f44_cok mixed Tryz.func44 (by kernel_rfl) (bs := [f44_L4]) (by kernel_rfl) ⟨f44_L4_is, trivial⟩ fun x => by kernel_rfl

-- imageeditor/imageeditorref31.sameWarp
abbrev f45_L4_Y : Type := (D35 × D35 × Unit)
abbrev f45_L4_X : Type := (Int × Unit)
def f45_L4t (y : f45_L4_Y) (x : f45_L4_X) : Prop × Bool × f45_L4_X × Bool × Bool :=
 let a2 := y.1 
 let a3 := y.2.1 
 let a5 := x.1 
 let v38 := (decide (a5 < (len a2.2.2.2.1)))
 let v51 := (!(Ty.eqb T55 (nth a2.2.2.2.1 a5 Z55) (nth a3.2.2.2.1 a5 Z55)))
 ((v38 = true → (InB a5 (len a2.2.2.2.1) ∧ (InB a5 (len a3.2.2.2.1) ∧ ((!v51) = true → InR (a5 + 1))))), (v38 && (!v51)), ((a5 + 1), ()), (v38 && v51), (!v38))
def f45_L4_ok (y : f45_L4_Y) (x : f45_L4_X) : Prop := (f45_L4t y x).1
def f45_L4_g (y : f45_L4_Y) (x : f45_L4_X) : Bool := (f45_L4t y x).2.1
def f45_L4_next (y : f45_L4_Y) (x : f45_L4_X) : f45_L4_X := (f45_L4t y x).2.2.1
def f45_L4_e1 (y : f45_L4_Y) (x : f45_L4_X) : Bool := (f45_L4t y x).2.2.2.1
def f45_L4_e2 (y : f45_L4_Y) (x : f45_L4_X) : Bool := (f45_L4t y x).2.2.2.2
instance (y : f45_L4_Y) (x : f45_L4_X) : Decidable (f45_L4_ok y x) := by
 unfold f45_L4_ok f45_L4t
 try dsimp only
 infer_instance
def f45_L4_x1_0 (y : f45_L4_Y) (x : f45_L4_X) : Bool :=
 false
def f45_L4_spec : St → Option Out := loopS [(2, (.box T35 (.val T35))), (3, (.box T35 (.val T35)))] [(5, vI)] f45_L4_g f45_L4_next f45_L4_ok fun y x => [ex 1 (some (f45_L4_e1 y x)) [(4, vB)] ((f45_L4_x1_0 y x), ()), ex 2 (some (f45_L4_e2 y x)) [] ()]
def f45t (p0 : D35) (p1 : D35) : Prop × Bool :=
 let v33 := (bif (bif (bif (p0.1 != p1.1) then true else (p0.2.1 != p1.2.1)) then true else (p0.2.2.1 != p1.2.2.1)) then true else ((len p0.2.2.2.1) != (len p1.2.2.2.1)))
 let y4 := (p0, p1, ())
 let x4 := ((0 : Int), ())
 let e4 := (loopEnd (f45_L4_g y4) (f45_L4_next y4) x4)
 (((!v33) = true → (Am.Ends (f45_L4_g y4) (f45_L4_next y4) (f45_L4_ok y4) x4)), (bif v33 then false else (bif (f45_L4_e1 y4 e4) then (f45_L4_x1_0 y4 e4) else true)))
def f45_ok (p0 : D35) (p1 : D35) : Prop := (f45t p0 p1).1
def f45 (p0 : D35) (p1 : D35) : Bool := (f45t p0 p1).2
instance (p0 : D35) (p1 : D35) : Decidable (f45_ok p0 p1) := by
 unfold f45_ok f45t
 try dsimp only
 infer_instance
def f45_spec : Am.Spec := fnSpec [(0, (.val T35)), (1, (.val T35))] vB [] (fun x => f45_ok x.1 x.2.1) (fun x => f45 x.1 x.2.1) (fun _ => ())
def f45_ctx : Ctx := Cx tys [] [(4, f45_L4_spec)] [] false 52 [] []
theorem f45_cok : CtxOk Tryz.prog f45_ctx := ctxOk_mk tys_ok rfl trivial rfl (by kernel_rfl)
noncomputable def f45_code : Code := Tryz.f45.body.getD .skip
noncomputable def f45_L4 : Code := nthLoop f45_code 0
theorem f45_L4_is : LoopSnd Tryz.prog f45_ctx f45_L4 := lgen f45_cok mixed (sp := f45_L4_spec) rfl [[(4, vB)], []] (bs := []) (by kernel_rfl) trivial (by kernel_rfl) (by kernel_rfl) fun y x => by kernel_rfl
theorem f45_is : SpecOk Tryz.prog 45 f45_spec := fgen f45_cok mixed Tryz.func45 (by kernel_rfl) (bs := [f45_L4]) (by kernel_rfl) ⟨f45_L4_is, trivial⟩ fun x => by kernel_rfl

-- imageeditor/imageeditorref31.SameContent
def f22t (p0 : D37) (p1 : D37) : Prop × Bool :=
 let v23 := (bif (bif (f42 p0.2.2.2.2.2.2.2.2.2.2.2.2.1 p1.2.2.2.2.2.2.2.2.2.2.2.2.1) then (Ty.eqb T30 p0.2.2.2.2.2.2.2.2.2.2.2.2.2.1 p1.2.2.2.2.2.2.2.2.2.2.2.2.2.1) else false) then (p0.2.2.2.2.2.2.2.2.2.2.2.2.2.2.1 == p1.2.2.2.2.2.2.2.2.2.2.2.2.2.2.1) else false)
 let v37 := (bif (bif v23 then (f41 p0.2.2.2.2.2.2.2.2.2.2.2.2.2.2.2.1 p1.2.2.2.2.2.2.2.2.2.2.2.2.2.2.2.1) else false) then (p0.2.2.2.2.2.2.2.2.2.2.2.2.2.2.2.2.1 == p1.2.2.2.2.2.2.2.2.2.2.2.2.2.2.2.2.1) else false)
 let v44 := (bif v37 then (f43 p0.2.2.2.2.2.2.2.2.2.2.2.2.2.2.2.2.2.1 p1.2.2.2.2.2.2.2.2.2.2.2.2.2.2.2.2.2.1) else false)
 let v58 := (bif (bif v44 then (f44 p0.2.2.2.2.2.2.2.2.2.2.2.2.2.2.2.2.2.2.1 p1.2.2.2.2.2.2.2.2.2.2.2.2.2.2.2.2.2.2.1) else false) then (p0.2.2.2.2.2.2.2.2.2.2.2.2.2.2.2.2.2.2.2.1 == p1.2.2.2.2.2.2.2.2.2.2.2.2.2.2.2.2.2.2.2.1) else false)
 let v72 := (bif (bif v58 then (p0.2.2.2.2.2.2.2.2.2.2.2.2.2.2.2.2.2.2.2.2.1 == p1.2.2.2.2.2.2.2.2.2.2.2.2.2.2.2.2.2.2.2.2.1) else false) then (p0.2.2.2.2.2.2.2.2.2.2.2.2.2.2.2.2.2.2.2.2.2.1 == p1.2.2.2.2.2.2.2.2.2.2.2.2.2.2.2.2.2.2.2.2.2.1) else false)
 let v86 := (bif (bif v72 then (p0.2.2.2.2.2.2.2.2.2.2.2.2.2.2.2.2.2.2.2.2.2.2.1 == p1.2.2.2.2.2.2.2.2.2.2.2.2.2.2.2.2.2.2.2.2.2.2.1) else false) then (p0.2.2.2.2.2.2.2.2.2.2.2.2.2.2.2.2.2.2.2.2.2.2.2.1 == p1.2.2.2.2.2.2.2.2.2.2.2.2.2.2.2.2.2.2.2.2.2.2.2.1) else false)
 let v100 := (bif (bif v86 then (p0.2.2.2.2.2.2.2.2.2.2.2.2.2.2.2.2.2.2.2.2.2.2.2.2.1 == p1.2.2.2.2.2.2.2.2.2.2.2.2.2.2.2.2.2.2.2.2.2.2.2.2.1) else false) then (p0.2.2.2.2.2.2.2.2.2.2.2.2.2.2.2.2.2.2.2.2.2.2.2.2.2.1 == p1.2.2.2.2.2.2.2.2.2.2.2.2.2.2.2.2.2.2.2.2.2.2.2.2.2.1) else false)
 let v107 := (bif v100 then (p0.2.2.2.2.2.2.2.2.2.2.2.2.2.2.2.2.2.2.2.2.2.2.2.2.2.2.1 == p1.2.2.2.2.2.2.2.2.2.2.2.2.2.2.2.2.2.2.2.2.2.2.2.2.2.2.1) else false)
 (((f42_ok p0.2.2.2.2.2.2.2.2.2.2.2.2.1 p1.2.2.2.2.2.2.2.2.2.2.2.2.1) ∧ ((v23 = true → (f41_ok p0.2.2.2.2.2.2.2.2.2.2.2.2.2.2.2.1 p1.2.2.2.2.2.2.2.2.2.2.2.2.2.2.2.1)) ∧ ((v37 = true → (f43_ok p0.2.2.2.2.2.2.2.2.2.2.2.2.2.2.2.2.2.1 p1.2.2.2.2.2.2.2.2.2.2.2.2.2.2.2.2.2.1)) ∧ ((v44 = true → (f44_ok p0.2.2.2.2.2.2.2.2.2.2.2.2.2.2.2.2.2.2.1 p1.2.2.2.2.2.2.2.2.2.2.2.2.2.2.2.2.2.2.1)) ∧ (v107 = true → (f45_ok p0.2.2.2.2.2.2.2.2.2.2.2.2.2.2.2.2.2.2.2.2.2.2.2.2.2.2.2.1 p1.2.2.2.2.2.2.2.2.2.2.2.2.2.2.2.2.2.2.2.2.2.2.2.2.2.2.2.1)))))), (bif v107 then (f45 p0.2.2.2.2.2.2.2.2.2.2.2.2.2.2.2.2.2.2.2.2.2.2.2.2.2.2.2.1 p1.2.2.2.2.2.2.2.2.2.2.2.2.2.2.2.2.2.2.2.2.2.2.2.2.2.2.2.1) else false))
def f22_ok (p0 : D37) (p1 : D37) : Prop := (f22t p0 p1).1
def f22 (p0 : D37) (p1 : D37) : Bool := (f22t p0 p1).2
instance (p0 : D37) (p1 : D37) : Decidable (f22_ok p0 p1) := by
 unfold f22_ok f22t
 try dsimp only
 infer_instance
def f22_spec : Am.Spec := fnSpec [(0, (.val T37)), (1, (.val T37))] vB [] (fun x => f22_ok x.1 x.2.1) (fun x => f22 x.1 x.2.1) (fun _ => ())
def f22_ctx : Ctx := Cx tys [(41, f41_spec), (42, f42_spec), (43, f43_spec), (44, f44_spec), (45, f45_spec)] [] [] false 115 [] []
theorem f22_cok : CtxOk Tryz.prog f22_ctx := ctxOk_mk tys_ok rfl ⟨f41_is, f42_is, f43_is, f44_is, f45_is, trivial⟩ rfl (by kernel_rfl)
theorem f22_is : SpecOk Tryz.prog 22 f22_spec := fgen f22_cok mixed Tryz.func22 (by kernel_rfl) (bs := []) (by kernel_rfl) trivial fun x => by kernel_rfl

-- imageeditor/imageeditorref31.Same
def f8t (p0 : D37) (p1 : D37) : Prop × Bool :=
 let v37 := (bif (bif (bif (bif (p0.1 == p1.1) then (p0.2.1 == p1.2.1) else false) then (p0.2.2.1 == p1.2.2.1) else false) then (p0.2.2.2.1 == p1.2.2.2.1) else false) then (Ty.eqb .bool p0.2.2.2.2.1 p1.2.2.2.2.1) else false)
 let v58 := (bif (bif (bif v37 then (Ty.eqb .bool p0.2.2.2.2.2.1 p1.2.2.2.2.2.1) else false) then (Ty.eqb .bool p0.2.2.2.2.2.2.1 p1.2.2.2.2.2.2.1) else false) then (p0.2.2.2.2.2.2.2.1 == p1.2.2.2.2.2.2.2.1) else false)
 let v65 := (bif v58 then (p0.2.2.2.2.2.2.2.2.1 == p1.2.2.2.2.2.2.2.2.1) else false)
 let v86 := (bif (bif (bif v65 then (f21 p0.2.2.2.2.2.2.2.2.2.1 p1.2.2.2.2.2.2.2.2.2.1) else false) then (Ty.eqb T25 p0.2.2.2.2.2.2.2.2.2.2.1 p1.2.2.2.2.2.2.2.2.2.2.1) else false) then (p0.2.2.2.2.2.2.2.2.2.2.2.1 == p1.2.2.2.2.2.2.2.2.2.2.2.1) else false)
 (((v65 = true → (f21_ok p0.2.2.2.2.2.2.2.2.2.1 p1.2.2.2.2.2.2.2.2.2.1)) ∧ (v86 = true → (f22_ok p0 p1))), (bif v86 then (f22 p0 p1) else false))
def f8_ok (p0 : D37) (p1 : D37) : Prop := (f8t p0 p1).1
def f8 (p0 : D37) (p1 : D37) : Bool := (f8t p0 p1).2
instance (p0 : D37) (p1 : D37) : Decidable (f8_ok p0 p1) := by
 unfold f8_ok f8t
 try dsimp only
 infer_instance
def f8_spec : Am.Spec := fnSpec [(0, (.val T37)), (1, (.val T37))] vB [] (fun x => f8_ok x.1 x.2.1) (fun x => f8 x.1 x.2.1) (fun _ => ())
def f8_ctx : Ctx := Cx tys [(21, f21_spec), (22, f22_spec)] [] [] false 92 [] []
theorem f8_cok : CtxOk Tryz.prog f8_ctx := ctxOk_mk tys_ok rfl ⟨f21_is, f22_is, trivial⟩ rfl (by kernel_rfl)
theorem f8_is : SpecOk Tryz.prog 8 f8_spec := fgen f8_cok mixed Tryz.func8 (by kernel_rfl) (bs := []) (by kernel_rfl) trivial fun x => by kernel_rfl


end Go.Proofs.YthjoefjcljbapaaGreatDoor.Am
