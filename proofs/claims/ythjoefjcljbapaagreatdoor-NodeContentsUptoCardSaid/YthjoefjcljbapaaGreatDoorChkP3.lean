/- Printed by program, part 3. No condition. -/
import Derived.Test.YthjoefjcljbapaaGreatDoorChkP2
set_option linter.unusedVariables false
set_option synthInstance.maxSize 4000
set_option synthInstance.maxHeartbeats 400000
namespace Go.Proofs.YthjoefjcljbapaaGreatDoor.Am
open Go Go.Am Go.Proofs
def f58t (p0 : D37) : Prop × Int :=
 let v14 := (f82 f83 p0.2.2.2.2.2.2.2.2.2.2.2.2.2.2.2.2.2.2.2.2.2.2.2.1 p0.2.2.2.2.2.2.2.2.2.2.2.2.2.2.2.2.2.2.2.2.2.2.2.2.1 p0.2.2.2.2.2.2.2.2.2.2.2.2.2.2.2.2.2.2.2.2.2.2.2.2.2.1)
 let v18 := (v14.2.1 != 0)
 let v24 := (f84 v14.1 p0.2.2.2.2.2.2.2.2.2.2.1)
 let v28 := (v24.2.1 != 0)
 let v31 := (f81 v24.1 (0 : Int))
 let v33 := (v31 != 0)
 ((f83_ok ∧ ((f82_ok f83 p0.2.2.2.2.2.2.2.2.2.2.2.2.2.2.2.2.2.2.2.2.2.2.2.1 p0.2.2.2.2.2.2.2.2.2.2.2.2.2.2.2.2.2.2.2.2.2.2.2.2.1 p0.2.2.2.2.2.2.2.2.2.2.2.2.2.2.2.2.2.2.2.2.2.2.2.2.2.1) ∧ ((!v18) = true → ((f84_ok v14.1 p0.2.2.2.2.2.2.2.2.2.2.1) ∧ ((!v28) = true → ((f81_ok v24.1 (0 : Int)) ∧ ((!v33) = true → (f55_ok p0.2.2.2.2.2.2.2.2.2.2.2.2.2.1)))))))), (bif v18 then v14.2.1 else (bif v28 then v24.2.1 else (bif v33 then v31 else (f55 p0.2.2.2.2.2.2.2.2.2.2.2.2.2.1)))))
def f58_ok (p0 : D37) : Prop := (f58t p0).1
def f58 (p0 : D37) : Int := (f58t p0).2
instance (p0 : D37) : Decidable (f58_ok p0) := by
 unfold f58_ok f58t
 try dsimp only
 infer_instance
def f58_spec : Am.Spec := fnSpec [(0, (.val T37))] vI [] (fun x => f58_ok x.1) (fun x => f58 x.1) (fun _ => ())
def f58_ctx : Ctx := Cx tys [(55, f55_spec), (81, f81_spec), (82, f82_spec), (83, f83_spec), (84, f84_spec)] [] [(3, [(4, 0, 14, 1003)])] false 38 [] []
theorem f58_cok : CtxOk Tryz.prog f58_ctx := ctxOk_mk tys_ok rfl ⟨f55_is, f81_is, f82_is, f83_is, f84_is, trivial⟩ rfl (by kernel_rfl)
theorem f58_is : SpecOk Tryz.prog 58 f58_spec := fgen f58_cok mixed Tryz.func58 (by kernel_rfl) (bs := []) (by kernel_rfl) trivial fun x => by kernel_rfl
def f85t (p0 : Int) (p1 : Int) : Prop × Bool :=
 let v7 := (p0 == 2)
 let v11 := (p0 == 3)
 let v24 := (p0 == 4)
 let m23 := (bif v24 then v24 else (p0 == 11))
 let v29 := (p0 == 5)
 let m28 := (bif v29 then v29 else (p0 == 9))
 let v34 := (p0 == 6)
 let m33 := (bif v34 then v34 else (p0 == 7))
 let m4_3 := (bif v11 then (bif (bif (decide (p1 ≥ 4)) then (decide (p1 ≤ 16)) else false) then ((Int.tmod p1 (2 : Int)) == 0) else false) else (bif m23 then (p1 == 2) else (bif m28 then (p1 == 3) else (bif m33 then (p1 == 1) else (p1 == 9)))))
 (True, (bif (bif v7 then true else (bif v11 then true else (bif m23 then true else (bif m28 then true else (bif m33 then true else (p0 == 8)))))) then (bif v7 then (p1 == 5) else m4_3) else (p1 == 0)))
def f85_ok (p0 : Int) (p1 : Int) : Prop := (f85t p0 p1).1
def f85 (p0 : Int) (p1 : Int) : Bool := (f85t p0 p1).2
instance (p0 : Int) (p1 : Int) : Decidable (f85_ok p0 p1) := by
 unfold f85_ok f85t
 try dsimp only
 infer_instance
def f85_spec : Am.Spec := fnSpec [(0, vI), (1, vI)] vB [] (fun x => f85_ok x.1 x.2.1) (fun x => f85 x.1 x.2.1) (fun _ => ())
def f85_ctx : Ctx := Cx tys [] [] [] false 44 [] []
theorem f85_cok : CtxOk Tryz.prog f85_ctx := ctxOk_mk tys_ok rfl trivial rfl (by kernel_rfl)
theorem f85_is : SpecOk Tryz.prog 85 f85_spec := fgen f85_cok mixed Tryz.func85 (by kernel_rfl) (bs := []) (by kernel_rfl) trivial fun x => by kernel_rfl
def f108t (p0 : Int) (p1 : Int) : Prop × (Int × Int × Unit) :=
 let v12 := (bif (p0 == 2) then (p1 == 2) else false)
 let v15 := (p0 == 4)
 let v21 := (bif (p0 == 5) then (decide (p1 > 0)) else false)
 let m13_1 := (bif v15 then v15 else (bif v21 then v21 else (bif (p0 == 11) then (p1 == 1) else false)))
 let v30 := (p0 == 5)
 let v33 := (p0 == 7)
 let v36 := (p0 == 8)
 let c_8 := (bif v12 then true else (bif m13_1 then true else (bif v30 then true else (bif v33 then true else (bif v36 then true else (p0 == 11))))))
 let m4_5 := (bif c_8 then (bif v12 then (1 : Int) else (bif m13_1 then (-65535 : Int) else (bif v30 then (-32768 : Int) else (bif v33 then (2 : Int) else (bif v36 then (-262140 : Int) else (-128 : Int)))))) else (0 : Int))
 let m5_5 := (bif c_8 then (bif v12 then (256 : Int) else (bif m13_1 then (65535 : Int) else (bif v30 then (32768 : Int) else (bif v33 then (256 : Int) else (bif v36 then (262140 : Int) else (128 : Int)))))) else (65535 : Int))
 (True, (m4_5, m5_5, ()))
def f108_ok (p0 : Int) (p1 : Int) : Prop := (f108t p0 p1).1
def f108 (p0 : Int) (p1 : Int) : (Int × Int × Unit) := (f108t p0 p1).2
instance (p0 : Int) (p1 : Int) : Decidable (f108_ok p0 p1) := by
 unfold f108_ok f108t
 try dsimp only
 infer_instance
def f108_spec : Am.Spec := fnSpec [(0, vI), (1, vI)] (.tup (.cons vI (.cons vI .nl))) [] (fun x => f108_ok x.1 x.2.1) (fun x => f108 x.1 x.2.1) (fun _ => ())
def f108_ctx : Ctx := Cx tys [] [] [] false 40 [] []
theorem f108_cok : CtxOk Tryz.prog f108_ctx := ctxOk_mk tys_ok rfl trivial rfl (by kernel_rfl)
theorem f108_is : SpecOk Tryz.prog 108 f108_spec := fgen f108_cok mixed Tryz.func108 (by kernel_rfl) (bs := []) (by kernel_rfl) trivial fun x => by kernel_rfl
abbrev f86_L2_Y : Type := (Int × (List Int) × (List D53) × (List Int) × Int × Unit)
abbrev f86_L2_X : Type := (Int × Unit)
def f86_L2t (y : f86_L2_Y) (x : f86_L2_X) : Prop × Bool × f86_L2_X × Bool × Bool :=
 let a0 := y.1
 let a13 := y.2.2.2.1
 let a15 := x.1
 let v16 := (decide (a15 < y.2.2.2.2.1))
 let v18 := (nth a13 a15 (0 : Int))
 let v23 := (f108 a0 a15)
 let v33 := (bif (decide (v18 < v23.1)) then true else (decide (v18 > v23.2.1)))
 ((v16 = true → (InB a15 (len a13) ∧ ((f108_ok a0 a15) ∧ ((!v33) = true → InR (a15 + 1))))), (v16 && (!v33)), ((a15 + 1), ()), (v16 && v33), (!v16))
def f86_L2_ok (y : f86_L2_Y) (x : f86_L2_X) : Prop := (f86_L2t y x).1
def f86_L2_g (y : f86_L2_Y) (x : f86_L2_X) : Bool := (f86_L2t y x).2.1
def f86_L2_next (y : f86_L2_Y) (x : f86_L2_X) : f86_L2_X := (f86_L2t y x).2.2.1
def f86_L2_e1 (y : f86_L2_Y) (x : f86_L2_X) : Bool := (f86_L2t y x).2.2.2.1
def f86_L2_e2 (y : f86_L2_Y) (x : f86_L2_X) : Bool := (f86_L2t y x).2.2.2.2
instance (y : f86_L2_Y) (x : f86_L2_X) : Decidable (f86_L2_ok y x) := by
 unfold f86_L2_ok f86_L2t
 try dsimp only
 infer_instance
def f86_L2_x1_0 (y : f86_L2_Y) (x : f86_L2_X) : Bool :=
 false
def f86_L2_l2 : List (Nat × Sh) := [(0, vI), (1, (.val (.sl (.int .i64)))), (2, (.val (.sl T53)))]
def f86_L2_spec : St → Option Out := loopS [(0, vI), (1, (.val (.sl (.int .i64)))), (2, (.val (.sl T53))), (13, (.val (.sl (.int .i64)))), (14, vI)] [(15, vI)] f86_L2_g f86_L2_next f86_L2_ok fun y x => [ex 1 (some (f86_L2_e1 y x)) [(6, vB)] ((f86_L2_x1_0 y x), ()), ex 2 (some (f86_L2_e2 y x)) f86_L2_l2 (y.1, y.2.1, y.2.2.1, ())]
abbrev f86_L11_Y : Type := ((List D53) × Int × Unit)
abbrev f86_L11_X : Type := (Int × Unit)
def f86_L11t (y : f86_L11_Y) (x : f86_L11_X) : Prop × Bool × f86_L11_X × Bool × Bool :=
 let a55 := y.1
 let a57 := x.1
 let v58 := (decide (a57 < y.2.1))
 let v59 := (nth a55 a57 Z53)
 let v68 := (bif (decide (v59.1 < 0)) then true else (decide (v59.1 > 65535)))
 let v74 := (bif v68 then true else (!(f74 v59.2.1)))
 ((v58 = true → (InB a57 (len a55) ∧ (((!v68) = true → (f74_ok v59.2.1)) ∧ ((!v74) = true → InR (a57 + 1))))), (v58 && (!v74)), ((a57 + 1), ()), (v58 && v74), (!v58))
def f86_L11_ok (y : f86_L11_Y) (x : f86_L11_X) : Prop := (f86_L11t y x).1
def f86_L11_g (y : f86_L11_Y) (x : f86_L11_X) : Bool := (f86_L11t y x).2.1
def f86_L11_next (y : f86_L11_Y) (x : f86_L11_X) : f86_L11_X := (f86_L11t y x).2.2.1
def f86_L11_e1 (y : f86_L11_Y) (x : f86_L11_X) : Bool := (f86_L11t y x).2.2.2.1
def f86_L11_e4 (y : f86_L11_Y) (x : f86_L11_X) : Bool := (f86_L11t y x).2.2.2.2
instance (y : f86_L11_Y) (x : f86_L11_X) : Decidable (f86_L11_ok y x) := by
 unfold f86_L11_ok f86_L11t
 try dsimp only
 infer_instance
def f86_L11_x1_0 (y : f86_L11_Y) (x : f86_L11_X) : Bool :=
 false
def f86_L11_spec : St → Option Out := loopS [(55, (.val (.sl T53))), (56, vI)] [(57, vI)] f86_L11_g f86_L11_next f86_L11_ok fun y x => [ex 1 (some (f86_L11_e1 y x)) [(6, vB)] ((f86_L11_x1_0 y x), ()), ex 4 (some (f86_L11_e4 y x)) [] ()]
def f86t (p0 : Int) (p1 : (List Int)) (p2 : (List D53)) : Prop × Bool :=
 let y2 := (p0, p1, p2, p1, (len p1), ())
 let x2 := ((0 : Int), ())
 let e2 := (loopEnd (f86_L2_g y2) (f86_L2_next y2) x2)
 let v36 := (p0 == 9)
 let v42 := (bif v36 then ((nth p1 (0 : Int) (0 : Int)) == 0) else false)
 let v48 := (bif v42 then ((nth p1 (1 : Int) (0 : Int)) == 0) else false)
 let v54 := (bif v48 then ((nth p1 (2 : Int) (0 : Int)) == 0) else false)
 let y11 := (p2, (len p2), ())
 let x11 := ((0 : Int), ())
 let e11 := (loopEnd (f86_L11_g y11) (f86_L11_next y11) x11)
 (((Am.Ends (f86_L2_g y2) (f86_L2_next y2) (f86_L2_ok y2) x2) ∧ ((f86_L2_e2 y2 e2) = true → ((v36 = true → InB (0 : Int) (len p1)) ∧ ((v42 = true → InB (1 : Int) (len p1)) ∧ ((v48 = true → InB (2 : Int) (len p1)) ∧ ((!v54) = true → (Am.Ends (f86_L11_g y11) (f86_L11_next y11) (f86_L11_ok y11) x11))))))), (bif (f86_L2_e1 y2 e2) then (f86_L2_x1_0 y2 e2) else (bif v54 then false else (bif (f86_L11_e1 y11 e11) then (f86_L11_x1_0 y11 e11) else true))))
def f86_ok (p0 : Int) (p1 : (List Int)) (p2 : (List D53)) : Prop := (f86t p0 p1 p2).1
def f86 (p0 : Int) (p1 : (List Int)) (p2 : (List D53)) : Bool := (f86t p0 p1 p2).2
instance (p0 : Int) (p1 : (List Int)) (p2 : (List D53)) : Decidable (f86_ok p0 p1 p2) := by
 unfold f86_ok f86t
 try dsimp only
 infer_instance
def f86_spec : Am.Spec := fnSpec [(0, vI), (1, (.val (.sl (.int .i64)))), (2, (.val (.sl T53)))] vB [] (fun x => f86_ok x.1 x.2.1 x.2.2.1) (fun x => f86 x.1 x.2.1 x.2.2.1) (fun _ => ())
def f86_ctx : Ctx := Cx tys [(74, f74_spec), (108, f108_spec)] [(2, f86_L2_spec), (11, f86_L11_spec)] [] false 76 [] []
theorem f86_cok : CtxOk Tryz.prog f86_ctx := ctxOk_mk tys_ok rfl ⟨f74_is, f108_is, trivial⟩ rfl (by kernel_rfl)
noncomputable def f86_code : Code := Tryz.f86.body.getD .skip
noncomputable def f86_L2 : Code := nthLoop f86_code 0
theorem f86_L2_is : LoopSnd Tryz.prog f86_ctx f86_L2 := lgen f86_cok mixed (sp := f86_L2_spec) rfl [[(6, vB)], f86_L2_l2] (bs := []) (by kernel_rfl) trivial (by kernel_rfl) (by kernel_rfl) fun y x => by kernel_rfl
noncomputable def f86_L11 : Code := nthLoop f86_code 1
theorem f86_L11_is : LoopSnd Tryz.prog f86_ctx f86_L11 := lgen f86_cok mixed (sp := f86_L11_spec) rfl [[(6, vB)], []] (bs := []) (by kernel_rfl) trivial (by kernel_rfl) (by kernel_rfl) fun y x => by kernel_rfl
theorem f86_is : SpecOk Tryz.prog 86 f86_spec := fgen f86_cok mixed Tryz.func86 (by kernel_rfl) (bs := [f86_L2, f86_L11]) (by kernel_rfl) ⟨f86_L2_is, f86_L11_is, trivial⟩ fun x => by kernel_rfl
abbrev f87_L5_Y : Type := ((List Int) × (List D53) × Unit)
abbrev f87_L5_X : Type := (Int × Unit)
def f87_L5t (y : f87_L5_Y) (x : f87_L5_X) : Prop × Bool × f87_L5_X × Bool × Bool :=
 let a1 := y.1
 let a7 := x.1
 let v25 := (decide (a7 < (len a1)))
 let v34 := (a7 - 2)
 let v37 := (decide ((nth a1 a7 (0 : Int)) ≤ (nth a1 v34 (0 : Int))))
 ((v25 = true → (InB a7 (len a1) ∧ (InR (a7 - 2) ∧ (InB v34 (len a1) ∧ ((!v37) = true → InR (a7 + 2)))))), (v25 && (!v37)), ((a7 + 2), ()), (v25 && v37), (!v25))
def f87_L5_ok (y : f87_L5_Y) (x : f87_L5_X) : Prop := (f87_L5t y x).1
def f87_L5_g (y : f87_L5_Y) (x : f87_L5_X) : Bool := (f87_L5t y x).2.1
def f87_L5_next (y : f87_L5_Y) (x : f87_L5_X) : f87_L5_X := (f87_L5t y x).2.2.1
def f87_L5_e1 (y : f87_L5_Y) (x : f87_L5_X) : Bool := (f87_L5t y x).2.2.2.1
def f87_L5_e2 (y : f87_L5_Y) (x : f87_L5_X) : Bool := (f87_L5t y x).2.2.2.2
instance (y : f87_L5_Y) (x : f87_L5_X) : Decidable (f87_L5_ok y x) := by
 unfold f87_L5_ok f87_L5t
 try dsimp only
 infer_instance
def f87_L5_x1_0 (y : f87_L5_Y) (x : f87_L5_X) : Bool :=
 false
def f87_L5_spec : St → Option Out := loopS [(1, (.val (.sl (.int .i64)))), (2, (.val (.sl T53)))] [(7, vI)] f87_L5_g f87_L5_next f87_L5_ok fun y x => [ex 1 (some (f87_L5_e1 y x)) [(6, vB)] ((f87_L5_x1_0 y x), ()), ex 2 (some (f87_L5_e2 y x)) [(2, (.val (.sl T53)))] (y.2.1, ())]
abbrev f87_L10_Y : Type := ((List D53) × Unit)
abbrev f87_L10_X : Type := (Int × Unit)
def f87_L10t (y : f87_L10_Y) (x : f87_L10_X) : Prop × Bool × f87_L10_X × Bool × Bool :=
 let a2 := y.1
 let a8 := x.1
 let v41 := (decide (a8 < (len a2)))
 let v51 := (a8 - 1)
 let v55 := (decide ((nth a2 a8 Z53).1 ≤ (nth a2 v51 Z53).1))
 ((v41 = true → (InB a8 (len a2) ∧ (InR (a8 - 1) ∧ (InB v51 (len a2) ∧ ((!v55) = true → InR (a8 + 1)))))), (v41 && (!v55)), ((a8 + 1), ()), (v41 && v55), (!v41))
def f87_L10_ok (y : f87_L10_Y) (x : f87_L10_X) : Prop := (f87_L10t y x).1
def f87_L10_g (y : f87_L10_Y) (x : f87_L10_X) : Bool := (f87_L10t y x).2.1
def f87_L10_next (y : f87_L10_Y) (x : f87_L10_X) : f87_L10_X := (f87_L10t y x).2.2.1
def f87_L10_e1 (y : f87_L10_Y) (x : f87_L10_X) : Bool := (f87_L10t y x).2.2.2.1
def f87_L10_e4 (y : f87_L10_Y) (x : f87_L10_X) : Bool := (f87_L10t y x).2.2.2.2
instance (y : f87_L10_Y) (x : f87_L10_X) : Decidable (f87_L10_ok y x) := by
 unfold f87_L10_ok f87_L10t
 try dsimp only
 infer_instance
def f87_L10_x1_0 (y : f87_L10_Y) (x : f87_L10_X) : Bool :=
 false
def f87_L10_spec : St → Option Out := loopS [(2, (.val (.sl T53)))] [(8, vI)] f87_L10_g f87_L10_next f87_L10_ok fun y x => [ex 1 (some (f87_L10_e1 y x)) [(6, vB)] ((f87_L10_x1_0 y x), ()), ex 4 (some (f87_L10_e4 y x)) [] ()]
def f87t (p0 : Int) (p1 : (List Int)) (p2 : (List D53)) : Prop × Bool :=
 let v10 := (p0 == 2)
 let v19 := (bif v10 then (decide ((nth p1 (1 : Int) (0 : Int)) ≤ (nth p1 (0 : Int) (0 : Int)))) else false)
 let v21 := (p0 == 3)
 let y5 := (p1, p2, ())
 let x5 := ((2 : Int), ())
 let e5 := (loopEnd (f87_L5_g y5) (f87_L5_next y5) x5)
 let y10 := ((bif v21 then p2 else p2), ())
 let x10 := ((1 : Int), ())
 let e10 := (loopEnd (f87_L10_g y10) (f87_L10_next y10) x10)
 (((v10 = true → InB (1 : Int) (len p1)) ∧ ((v10 = true → InB (0 : Int) (len p1)) ∧ ((!v19) = true → ((v21 = true → (Am.Ends (f87_L5_g y5) (f87_L5_next y5) (f87_L5_ok y5) x5)) ∧ ((bif v21 then (f87_L5_e2 y5 e5) else true) = true → (Am.Ends (f87_L10_g y10) (f87_L10_next y10) (f87_L10_ok y10) x10)))))), (bif v19 then false else (bif ((f87_L5_e1 y5 e5) && v21) then (f87_L5_x1_0 y5 e5) else (bif (f87_L10_e1 y10 e10) then (f87_L10_x1_0 y10 e10) else true))))
def f87_ok (p0 : Int) (p1 : (List Int)) (p2 : (List D53)) : Prop := (f87t p0 p1 p2).1
def f87 (p0 : Int) (p1 : (List Int)) (p2 : (List D53)) : Bool := (f87t p0 p1 p2).2
instance (p0 : Int) (p1 : (List Int)) (p2 : (List D53)) : Decidable (f87_ok p0 p1 p2) := by
 unfold f87_ok f87t
 try dsimp only
 infer_instance
def f87_spec : Am.Spec := fnSpec [(0, vI), (1, (.val (.sl (.int .i64)))), (2, (.val (.sl T53)))] vB [] (fun x => f87_ok x.1 x.2.1 x.2.2.1) (fun x => f87 x.1 x.2.1 x.2.2.1) (fun _ => ())
def f87_ctx : Ctx := Cx tys [] [(5, f87_L5_spec), (10, f87_L10_spec)] [] false 56 [] []
theorem f87_cok : CtxOk Tryz.prog f87_ctx := ctxOk_mk tys_ok rfl trivial rfl (by kernel_rfl)
noncomputable def f87_code : Code := Tryz.f87.body.getD .skip
noncomputable def f87_L5 : Code := nthLoop f87_code 0
theorem f87_L5_is : LoopSnd Tryz.prog f87_ctx f87_L5 := lgen f87_cok mixed (sp := f87_L5_spec) rfl [[(6, vB)], [(2, (.val (.sl T53)))]] (bs := []) (by kernel_rfl) trivial (by kernel_rfl) (by kernel_rfl) fun y x => by kernel_rfl
noncomputable def f87_L10 : Code := nthLoop f87_code 1
theorem f87_L10_is : LoopSnd Tryz.prog f87_ctx f87_L10 := lgen f87_cok mixed (sp := f87_L10_spec) rfl [[(6, vB)], []] (bs := []) (by kernel_rfl) trivial (by kernel_rfl) (by kernel_rfl) fun y x => by kernel_rfl
theorem f87_is : SpecOk Tryz.prog 87 f87_spec := fgen f87_cok mixed Tryz.func87 (by kernel_rfl) (bs := [f87_L5, f87_L10]) (by kernel_rfl) ⟨f87_L5_is, f87_L10_is, trivial⟩ fun x => by kernel_rfl
def f59t (p0 : Int) (p1 : (List Int)) (p2 : (List D53)) : Prop × Int :=
 let v13 := (bif (decide (p0 < 1)) then true else (decide (p0 > 11)))
 let v17 := (len p1)
 let v27 := (bif (!(f85 p0 v17)) then true else (!(Ty.eqb .bool (decide ((len p2) > 0)) (p0 == 10))))
 let v31 := (decide ((len p2) > 16))
 let v37 := (!(f86 p0 p1 p2))
 let m6_4 := (bif (bif v13 then true else (bif v27 then true else (bif v31 then true else (bif v37 then true else (!(f87 p0 p1 p2)))))) then (bif v13 then (8 : Int) else (bif v27 then (1 : Int) else (bif v31 then (3 : Int) else (bif v37 then (2 : Int) else (24 : Int))))) else (0 : Int))
 ((v13 = false → ((f85_ok p0 v17) ∧ (v27 = false → (v31 = false → ((f86_ok p0 p1 p2) ∧ (v37 = false → (f87_ok p0 p1 p2))))))), m6_4)
def f59_ok (p0 : Int) (p1 : (List Int)) (p2 : (List D53)) : Prop := (f59t p0 p1 p2).1
def f59 (p0 : Int) (p1 : (List Int)) (p2 : (List D53)) : Int := (f59t p0 p1 p2).2
instance (p0 : Int) (p1 : (List Int)) (p2 : (List D53)) : Decidable (f59_ok p0 p1 p2) := by
 unfold f59_ok f59t
 try dsimp only
 infer_instance
def f59_spec : Am.Spec := fnSpec [(0, vI), (1, (.val (.sl (.int .i64)))), (2, (.val (.sl T53)))] vI [] (fun x => f59_ok x.1 x.2.1 x.2.2.1) (fun x => f59 x.1 x.2.1 x.2.2.1) (fun _ => ())
def f59_ctx : Ctx := Cx tys [(85, f85_spec), (86, f86_spec), (87, f87_spec)] [] [] false 44 [] []
theorem f59_cok : CtxOk Tryz.prog f59_ctx := ctxOk_mk tys_ok rfl ⟨f85_is, f86_is, f87_is, trivial⟩ rfl (by kernel_rfl)
theorem f59_is : SpecOk Tryz.prog 59 f59_spec := fgen f59_cok mixed Tryz.func59 (by kernel_rfl) (bs := []) (by kernel_rfl) trivial fun x => by kernel_rfl
def f88t (p0 : Int) : Prop × (List D55) :=
 let v5 := (p0 == 1)
 let v6 := (p0 == 7)
 let m4_1 := (bif v5 then v5 else (bif v6 then v6 else (p0 == 8)))
 let v11 := (p0 == 2)
 let v15 := (p0 == 4)
 let v19 := (p0 == 3)
 let v24 := (p0 == 9)
 let m2_1 := (bif v19 then ([((0 : Int), (16 : Int), ()), ((0 : Int), (262140 : Int), ())] : List D55) else (bif v24 then ([((-16 : Int), (16 : Int), ()), ((-16 : Int), (16 : Int), ())] : List D55) else ([((1 : Int), (16 : Int), ())] : List D55)))
 let m2_5 := (bif (bif m4_1 then true else (bif v11 then true else (bif v15 then true else (bif v19 then true else (bif v24 then true else (p0 == 10)))))) then (bif m4_1 then ([((0 : Int), (16 : Int), ())] : List D55) else (bif v11 then ([((0 : Int), (7 : Int), ())] : List D55) else (bif v15 then ([((0 : Int), (4 : Int), ())] : List D55) else m2_1))) else [])
 (True, m2_5)
def f88_ok (p0 : Int) : Prop := (f88t p0).1
def f88 (p0 : Int) : (List D55) := (f88t p0).2
instance (p0 : Int) : Decidable (f88_ok p0) := by
 unfold f88_ok f88t
 try dsimp only
 infer_instance
def f88_spec : Am.Spec := fnSpec [(0, vI)] (.own T55 0 false) [] (fun x => f88_ok x.1) (fun x => f88 x.1) (fun _ => ())
def f88_ctx : Ctx := Cx tys [] [] [(11, [(4, 0, 9, 0)]), (15, [(4, 0, 13, 0)]), (19, [(4, 0, 17, 0)]), (23, [(4, 0, 22, 0)]), (27, [(4, 0, 27, 0)]), (31, [(4, 0, 31, 0)])] false 32 [] []
theorem f88_cok : CtxOk Tryz.prog f88_ctx := ctxOk_mk tys_ok rfl trivial rfl (by kernel_rfl)
theorem f88_is : SpecOk Tryz.prog 88 f88_spec := fgen f88_cok mixed Tryz.func88 (by kernel_rfl) (bs := []) (by kernel_rfl) trivial fun x => by kernel_rfl
abbrev f60_L7_Y : Type := ((List D55) × (List Int) × Int × Unit)
abbrev f60_L7_X : Type := (Int × Unit)
def f60_L7t (y : f60_L7_Y) (x : f60_L7_X) : Prop × Bool × f60_L7_X × Bool × Bool :=
 let a5 := y.1
 let a21 := y.2.1
 let a23 := x.1
 let v24 := (decide (a23 < y.2.2.1))
 let v26 := (nth a21 a23 (0 : Int))
 let v34 := (decide (v26 < (nth a5 a23 Z55).1))
 let v43 := (bif v34 then true else (decide (v26 > (nth a5 a23 Z55).2.1)))
 ((v24 = true → (InB a23 (len a21) ∧ (InB a23 (len a5) ∧ (((!v34) = true → InB a23 (len a5)) ∧ ((!v43) = true → InR (a23 + 1)))))), (v24 && (!v43)), ((a23 + 1), ()), (v24 && v43), (!v24))
def f60_L7_ok (y : f60_L7_Y) (x : f60_L7_X) : Prop := (f60_L7t y x).1
def f60_L7_g (y : f60_L7_Y) (x : f60_L7_X) : Bool := (f60_L7t y x).2.1
def f60_L7_next (y : f60_L7_Y) (x : f60_L7_X) : f60_L7_X := (f60_L7t y x).2.2.1
def f60_L7_e1 (y : f60_L7_Y) (x : f60_L7_X) : Bool := (f60_L7t y x).2.2.2.1
def f60_L7_e2 (y : f60_L7_Y) (x : f60_L7_X) : Bool := (f60_L7t y x).2.2.2.2
instance (y : f60_L7_Y) (x : f60_L7_X) : Decidable (f60_L7_ok y x) := by
 unfold f60_L7_ok f60_L7t
 try dsimp only
 infer_instance
def f60_L7_x1_0 (y : f60_L7_Y) (x : f60_L7_X) : Int :=
 (2 : Int)
def f60_L7_spec : St → Option Out := loopS [(5, (.own T55 1005 false)), (21, (.val (.sl (.int .i64)))), (22, vI)] [(23, vI)] f60_L7_g f60_L7_next f60_L7_ok fun y x => [ex 1 (some (f60_L7_e1 y x)) [(4, vI)] ((f60_L7_x1_0 y x), ()), ex 2 (some (f60_L7_e2 y x)) [] ()]
def f60t (p0 : Int) (p1 : (List Int)) : Prop × Int :=
 let v13 := (bif (decide (p0 < 1)) then true else (decide (p0 > 10)))
 let v15 := (f88 p0)
 let v20 := ((len p1) != (len v15))
 let y7 := (v15, p1, (len p1), ())
 let x7 := ((0 : Int), ())
 let e7 := (loopEnd (f60_L7_g y7) (f60_L7_next y7) x7)
 (((!v13) = true → ((f88_ok p0) ∧ ((!v20) = true → (Am.Ends (f60_L7_g y7) (f60_L7_next y7) (f60_L7_ok y7) x7)))), (bif v13 then (8 : Int) else (bif v20 then (1 : Int) else (bif (f60_L7_e1 y7 e7) then (f60_L7_x1_0 y7 e7) else (0 : Int)))))
def f60_ok (p0 : Int) (p1 : (List Int)) : Prop := (f60t p0 p1).1
def f60 (p0 : Int) (p1 : (List Int)) : Int := (f60t p0 p1).2
instance (p0 : Int) (p1 : (List Int)) : Decidable (f60_ok p0 p1) := by
 unfold f60_ok f60t
 try dsimp only
 infer_instance
def f60_spec : Am.Spec := fnSpec [(0, vI), (1, (.val (.sl (.int .i64))))] vI [] (fun x => f60_ok x.1 x.2.1) (fun x => f60 x.1 x.2.1) (fun _ => ())
def f60_ctx : Ctx := Cx tys [(88, f88_spec)] [(7, f60_L7_spec)] [(7, [(4, 0, 15, 1005)])] false 45 [] []
theorem f60_cok : CtxOk Tryz.prog f60_ctx := ctxOk_mk tys_ok rfl ⟨f88_is, trivial⟩ rfl (by kernel_rfl)
noncomputable def f60_code : Code := Tryz.f60.body.getD .skip
noncomputable def f60_L7 : Code := nthLoop f60_code 0
theorem f60_L7_is : LoopSnd Tryz.prog f60_ctx f60_L7 := lgen f60_cok mixed (sp := f60_L7_spec) rfl [[(4, vI)], []] (bs := []) (by kernel_rfl) trivial (by kernel_rfl) (by kernel_rfl) fun y x => by kernel_rfl
theorem f60_is : SpecOk Tryz.prog 60 f60_spec := fgen f60_cok mixed Tryz.func60 (by kernel_rfl) (bs := [f60_L7]) (by kernel_rfl) ⟨f60_L7_is, trivial⟩ fun x => by kernel_rfl
abbrev f61_L6_Y : Type := ((List D55) × Int × Unit)
abbrev f61_L6_X : Type := (Int × Unit)
def f61_L6t (y : f61_L6_Y) (x : f61_L6_X) : Prop × Bool × f61_L6_X × Bool × Bool :=
 let a43 := y.1
 let a45 := x.1
 let v46 := (decide (a45 < y.2.1))
 let v47 := (nth a43 a45 Z55)
 let v66 := (bif (bif (bif (decide (v47.1 < (-1048576))) then true else (decide (v47.1 > 1048576))) then true else (decide (v47.2.1 < (-1048576)))) then true else (decide (v47.2.1 > 1048576)))
 ((v46 = true → (InB a45 (len a43) ∧ ((!v66) = true → InR (a45 + 1)))), (v46 && (!v66)), ((a45 + 1), ()), (v46 && v66), (!v46))
def f61_L6_ok (y : f61_L6_Y) (x : f61_L6_X) : Prop := (f61_L6t y x).1
def f61_L6_g (y : f61_L6_Y) (x : f61_L6_X) : Bool := (f61_L6t y x).2.1
def f61_L6_next (y : f61_L6_Y) (x : f61_L6_X) : f61_L6_X := (f61_L6t y x).2.2.1
def f61_L6_e1 (y : f61_L6_Y) (x : f61_L6_X) : Bool := (f61_L6t y x).2.2.2.1
def f61_L6_e2 (y : f61_L6_Y) (x : f61_L6_X) : Bool := (f61_L6t y x).2.2.2.2
instance (y : f61_L6_Y) (x : f61_L6_X) : Decidable (f61_L6_ok y x) := by
 unfold f61_L6_ok f61_L6t
 try dsimp only
 infer_instance
def f61_L6_x1_0 (y : f61_L6_Y) (x : f61_L6_X) : Int :=
 (2 : Int)
def f61_L6_spec : St → Option Out := loopS [(43, (.val (.sl T55))), (44, vI)] [(45, vI)] f61_L6_g f61_L6_next f61_L6_ok fun y x => [ex 1 (some (f61_L6_e1 y x)) [(2, vI)] ((f61_L6_x1_0 y x), ()), ex 2 (some (f61_L6_e2 y x)) [] ()]
def f61t (p0 : D35) : Prop × Int :=
 let v22 := (bif (bif (bif (decide (p0.1 < 2)) then true else (decide (p0.1 > 8))) then true else (decide (p0.2.1 < 2))) then true else (decide (p0.2.1 > 8)))
 let v30 := (bif (decide (p0.2.2.1 < 1)) then true else (decide (p0.2.2.1 > 256)))
 let v41 := (bif v30 then true else ((len p0.2.2.2.1) != (p0.1 * p0.2.1)))
 let y6 := (p0.2.2.2.1, (len p0.2.2.2.1), ())
 let x6 := ((0 : Int), ())
 let e6 := (loopEnd (f61_L6_g y6) (f61_L6_next y6) x6)
 (((!v22) = true → (((!v30) = true → InR (p0.1 * p0.2.1)) ∧ ((!v41) = true → (Am.Ends (f61_L6_g y6) (f61_L6_next y6) (f61_L6_ok y6) x6)))), (bif v22 then (15 : Int) else (bif v41 then (15 : Int) else (bif (f61_L6_e1 y6 e6) then (f61_L6_x1_0 y6 e6) else (0 : Int)))))
def f61_ok (p0 : D35) : Prop := (f61t p0).1
def f61 (p0 : D35) : Int := (f61t p0).2
instance (p0 : D35) : Decidable (f61_ok p0) := by
 unfold f61_ok f61t
 try dsimp only
 infer_instance
def f61_spec : Am.Spec := fnSpec [(0, (.val T35))] vI [] (fun x => f61_ok x.1) (fun x => f61 x.1) (fun _ => ())
def f61_ctx : Ctx := Cx tys [] [(6, f61_L6_spec)] [] false 68 [] []
theorem f61_cok : CtxOk Tryz.prog f61_ctx := ctxOk_mk tys_ok rfl trivial rfl (by kernel_rfl)
noncomputable def f61_code : Code := Tryz.f61.body.getD .skip
noncomputable def f61_L6 : Code := nthLoop f61_code 0
theorem f61_L6_is : LoopSnd Tryz.prog f61_ctx f61_L6 := lgen f61_cok mixed (sp := f61_L6_spec) rfl [[(2, vI)], []] (bs := []) (by kernel_rfl) trivial (by kernel_rfl) (by kernel_rfl) fun y x => by kernel_rfl
theorem f61_is : SpecOk Tryz.prog 61 f61_spec := fgen f61_cok mixed Tryz.func61 (by kernel_rfl) (bs := [f61_L6]) (by kernel_rfl) ⟨f61_L6_is, trivial⟩ fun x => by kernel_rfl
def f27t (p0 : D37) : Prop × Int :=
 let v6 := (p0.2.1 == 2)
 let v11 := (p0.2.1 == 3)
 let v16 := (p0.2.1 == 4)
 let v27 := (p0.2.1 == 5)
 let v31 := (p0.2.1 == 6)
 let v35 := (p0.2.1 == 7)
 let v44 := (p0.2.1 == 8)
 let v51 := (p0.2.1 == 9)
 let m50 := (bif v51 then v51 else (p0.2.1 == 10))
 let v62 := (p0.2.1 == 11)
 let c_2 := (bif v44 then true else (bif m50 then (bif (decide (p0.2.2.2.2.2.2.2.2.2.2.2.2.2.2.2.2.2.2.2.2.2.2.2.2.2.2.1 < 1)) then true else (decide (p0.2.2.2.2.2.2.2.2.2.2.2.2.2.2.2.2.2.2.2.2.2.2.2.2.2.2.1 > 1073741824))) else v62))
 let m2_2 := (bif v35 then (f59 p0.2.2.2.2.2.2.2.2.2.2.2.2.2.2.1 p0.2.2.2.2.2.2.2.2.2.2.2.2.2.2.2.1 p0.2.2.2.2.2.2.2.2.2.2.2.2.2.2.2.2.2.1) else (bif v44 then (f60 p0.2.2.2.2.2.2.2.2.2.2.2.2.2.2.1 p0.2.2.2.2.2.2.2.2.2.2.2.2.2.2.2.1) else (bif m50 then (2 : Int) else (f61 p0.2.2.2.2.2.2.2.2.2.2.2.2.2.2.2.2.2.2.2.2.2.2.2.2.2.2.2.1))))
 let m2_5 := (bif v16 then (f56 p0.2.2.2.2.2.2.2.2.2.2.2.2.2.2.1 p0.2.2.2.2.2.2.2.2.2.2.2.2.2.2.2.1 p0.2.2.2.2.2.2.2.2.2.2.2.2.2.2.2.2.1 p0.2.2.2.2.2.2.2.2.2.2.2.2.2.2.2.2.2.1) else (bif v27 then (f57 p0) else (bif v31 then (f58 p0) else m2_2)))
 let m2_8 := (bif (bif v6 then true else (bif v11 then true else (bif v16 then true else (bif v27 then true else (bif v31 then true else (bif v35 then true else c_2)))))) then (bif v6 then (f54 p0.2.2.2.2.2.2.2.2.2.2.2.2.1) else (bif v11 then (f55 p0.2.2.2.2.2.2.2.2.2.2.2.2.2.1) else m2_5)) else (0 : Int))
 (((v6 = true → (f54_ok p0.2.2.2.2.2.2.2.2.2.2.2.2.1)) ∧ (v6 = false → ((v11 = true → (f55_ok p0.2.2.2.2.2.2.2.2.2.2.2.2.2.1)) ∧ (v11 = false → ((v16 = true → (f56_ok p0.2.2.2.2.2.2.2.2.2.2.2.2.2.2.1 p0.2.2.2.2.2.2.2.2.2.2.2.2.2.2.2.1 p0.2.2.2.2.2.2.2.2.2.2.2.2.2.2.2.2.1 p0.2.2.2.2.2.2.2.2.2.2.2.2.2.2.2.2.2.1)) ∧ (v16 = false → ((v27 = true → (f57_ok p0)) ∧ (v27 = false → ((v31 = true → (f58_ok p0)) ∧ (v31 = false → ((v35 = true → (f59_ok p0.2.2.2.2.2.2.2.2.2.2.2.2.2.2.1 p0.2.2.2.2.2.2.2.2.2.2.2.2.2.2.2.1 p0.2.2.2.2.2.2.2.2.2.2.2.2.2.2.2.2.2.1)) ∧ (v35 = false → ((v44 = true → (f60_ok p0.2.2.2.2.2.2.2.2.2.2.2.2.2.2.1 p0.2.2.2.2.2.2.2.2.2.2.2.2.2.2.2.1)) ∧ (v44 = false → (m50 = false → (v62 = true → (f61_ok p0.2.2.2.2.2.2.2.2.2.2.2.2.2.2.2.2.2.2.2.2.2.2.2.2.2.2.2.1))))))))))))))))), m2_8)
def f27_ok (p0 : D37) : Prop := (f27t p0).1
def f27 (p0 : D37) : Int := (f27t p0).2
instance (p0 : D37) : Decidable (f27_ok p0) := by
 unfold f27_ok f27t
 try dsimp only
 infer_instance
def f27_spec : Am.Spec := fnSpec [(0, (.val T37))] vI [] (fun x => f27_ok x.1) (fun x => f27 x.1) (fun _ => ())
def f27_ctx : Ctx := Cx tys [(54, f54_spec), (55, f55_spec), (56, f56_spec), (57, f57_spec), (58, f58_spec), (59, f59_spec), (60, f60_spec), (61, f61_spec)] [] [] false 66 [] []
theorem f27_cok : CtxOk Tryz.prog f27_ctx := ctxOk_mk tys_ok rfl ⟨f54_is, f55_is, f56_is, f57_is, f58_is, f59_is, f60_is, f61_is, trivial⟩ rfl (by kernel_rfl)
theorem f27_is : SpecOk Tryz.prog 27 f27_spec := fgen f27_cok mixed Tryz.func27 (by kernel_rfl) (bs := []) (by kernel_rfl) trivial fun x => by kernel_rfl
def f28t (p0 : D37) : Prop × Bool :=
 let v17 := (bif (bif (!(Ty.eqb T25 p0.2.2.2.2.2.2.2.2.2.2.1 ((0 : Int), (0 : Int), (0 : Int), (0 : Int), (0 : Int), (0 : Int), ()))) then true else (p0.2.2.2.2.2.2.2.2.2.2.2.1 != 0)) then true else (!(Ty.eqb T30 p0.2.2.2.2.2.2.2.2.2.2.2.2.2.1 ((0 : Int), (0 : Int), (0 : Int), (0 : Int), ()))))
 let v54 := (bif (bif (bif (p0.2.2.2.2.2.2.2.2.2.2.2.2.2.2.1 != 0) then true else ((len p0.2.2.2.2.2.2.2.2.2.2.2.2.2.2.2.1) != 0)) then true else (p0.2.2.2.2.2.2.2.2.2.2.2.2.2.2.2.2.1 != 0)) then true else ((len p0.2.2.2.2.2.2.2.2.2.2.2.2.2.2.2.2.2.1) != 0))
 let v73 := (bif (bif (bif ((len p0.2.2.2.2.2.2.2.2.2.2.2.2.2.2.2.2.2.2.1) != 0) then true else (p0.2.2.2.2.2.2.2.2.2.2.2.2.2.2.2.2.2.2.2.1 != 0)) then true else (p0.2.2.2.2.2.2.2.2.2.2.2.2.2.2.2.2.2.2.2.2.1 != 0)) then true else (p0.2.2.2.2.2.2.2.2.2.2.2.2.2.2.2.2.2.2.2.2.2.1 != 0))
 let v91 := (bif (bif (!(p0.2.2.2.2.2.2.2.2.2.2.2.2.2.2.2.2.2.2.2.2.2.2.2.1 == ([] : List UInt8))) then true else (p0.2.2.2.2.2.2.2.2.2.2.2.2.2.2.2.2.2.2.2.2.2.2.2.2.1 != 0)) then true else (p0.2.2.2.2.2.2.2.2.2.2.2.2.2.2.2.2.2.2.2.2.2.2.2.2.2.1 != 0))
 let v112 := (bif (bif (p0.2.2.2.2.2.2.2.2.2.2.2.2.2.2.2.2.2.2.2.2.2.2.2.2.2.2.2.1.1 == 0) then (p0.2.2.2.2.2.2.2.2.2.2.2.2.2.2.2.2.2.2.2.2.2.2.2.2.2.2.2.1.2.1 == 0) else false) then (p0.2.2.2.2.2.2.2.2.2.2.2.2.2.2.2.2.2.2.2.2.2.2.2.2.2.2.2.1.2.2.1 == 0) else false)
 let m2 := (bif (bif v91 then true else (p0.2.2.2.2.2.2.2.2.2.2.2.2.2.2.2.2.2.2.2.2.2.2.2.2.2.2.1 != 0)) then false else (bif v112 then ((len p0.2.2.2.2.2.2.2.2.2.2.2.2.2.2.2.2.2.2.2.2.2.2.2.2.2.2.2.1.2.2.2.1) == 0) else false))
 let m2_3 := (bif (bif (bif (p0.2.2.2.2.2.2.2.2.2.2.2.2.1.1 != 0) then true else (p0.2.2.2.2.2.2.2.2.2.2.2.2.1.2.1 != 0)) then true else ((len p0.2.2.2.2.2.2.2.2.2.2.2.2.1.2.2.1) != 0)) then false else (bif v54 then false else (bif (bif v73 then true else (p0.2.2.2.2.2.2.2.2.2.2.2.2.2.2.2.2.2.2.2.2.2.2.1 != 0)) then false else m2)))
 (True, (bif v17 then false else m2_3))
def f28_ok (p0 : D37) : Prop := (f28t p0).1
def f28 (p0 : D37) : Bool := (f28t p0).2
instance (p0 : D37) : Decidable (f28_ok p0) := by
 unfold f28_ok f28t
 try dsimp only
 infer_instance
def f28_spec : Am.Spec := fnSpec [(0, (.val T37))] vB [] (fun x => f28_ok x.1) (fun x => f28 x.1) (fun _ => ())
def f28_ctx : Ctx := Cx tys [] [] [] false 120 [] []
theorem f28_cok : CtxOk Tryz.prog f28_ctx := ctxOk_mk tys_ok rfl trivial rfl (by kernel_rfl)
theorem f28_is : SpecOk Tryz.prog 28 f28_spec := fgen f28_cok mixed Tryz.func28 (by kernel_rfl) (bs := []) (by kernel_rfl) trivial fun x => by kernel_rfl
def f29t (p0 : D37) : Prop × D37 :=
 let s_1 := (p0.1, p0.2.1, p0.2.2.1, p0.2.2.2.1, p0.2.2.2.2.1, p0.2.2.2.2.2.1, p0.2.2.2.2.2.2.1, p0.2.2.2.2.2.2.2.1, p0.2.2.2.2.2.2.2.2.1, p0.2.2.2.2.2.2.2.2.2.1, ((0 : Int), (0 : Int), (0 : Int), (0 : Int), (0 : Int), (0 : Int), ()), p0.2.2.2.2.2.2.2.2.2.2.2.1, p0.2.2.2.2.2.2.2.2.2.2.2.2.1, p0.2.2.2.2.2.2.2.2.2.2.2.2.2.1, p0.2.2.2.2.2.2.2.2.2.2.2.2.2.2.1, p0.2.2.2.2.2.2.2.2.2.2.2.2.2.2.2.1, p0.2.2.2.2.2.2.2.2.2.2.2.2.2.2.2.2.1, p0.2.2.2.2.2.2.2.2.2.2.2.2.2.2.2.2.2.1, p0.2.2.2.2.2.2.2.2.2.2.2.2.2.2.2.2.2.2.1, p0.2.2.2.2.2.2.2.2.2.2.2.2.2.2.2.2.2.2.2.1, p0.2.2.2.2.2.2.2.2.2.2.2.2.2.2.2.2.2.2.2.2.1, p0.2.2.2.2.2.2.2.2.2.2.2.2.2.2.2.2.2.2.2.2.2.1, p0.2.2.2.2.2.2.2.2.2.2.2.2.2.2.2.2.2.2.2.2.2.2.1, p0.2.2.2.2.2.2.2.2.2.2.2.2.2.2.2.2.2.2.2.2.2.2.2.1, p0.2.2.2.2.2.2.2.2.2.2.2.2.2.2.2.2.2.2.2.2.2.2.2.2.1, p0.2.2.2.2.2.2.2.2.2.2.2.2.2.2.2.2.2.2.2.2.2.2.2.2.2.1, p0.2.2.2.2.2.2.2.2.2.2.2.2.2.2.2.2.2.2.2.2.2.2.2.2.2.2.1, p0.2.2.2.2.2.2.2.2.2.2.2.2.2.2.2.2.2.2.2.2.2.2.2.2.2.2.2.1, ())
 let m1 := (bif (f15 p0.2.1) then s_1 else p0)
 let s_2 := (m1.1, m1.2.1, m1.2.2.1, m1.2.2.2.1, m1.2.2.2.2.1, m1.2.2.2.2.2.1, m1.2.2.2.2.2.2.1, m1.2.2.2.2.2.2.2.1, m1.2.2.2.2.2.2.2.2.1, m1.2.2.2.2.2.2.2.2.2.1, m1.2.2.2.2.2.2.2.2.2.2.1, (0 : Int), m1.2.2.2.2.2.2.2.2.2.2.2.2.1, m1.2.2.2.2.2.2.2.2.2.2.2.2.2.1, m1.2.2.2.2.2.2.2.2.2.2.2.2.2.2.1, m1.2.2.2.2.2.2.2.2.2.2.2.2.2.2.2.1, m1.2.2.2.2.2.2.2.2.2.2.2.2.2.2.2.2.1, m1.2.2.2.2.2.2.2.2.2.2.2.2.2.2.2.2.2.1, m1.2.2.2.2.2.2.2.2.2.2.2.2.2.2.2.2.2.2.1, m1.2.2.2.2.2.2.2.2.2.2.2.2.2.2.2.2.2.2.2.1, m1.2.2.2.2.2.2.2.2.2.2.2.2.2.2.2.2.2.2.2.2.1, m1.2.2.2.2.2.2.2.2.2.2.2.2.2.2.2.2.2.2.2.2.2.1, m1.2.2.2.2.2.2.2.2.2.2.2.2.2.2.2.2.2.2.2.2.2.2.1, m1.2.2.2.2.2.2.2.2.2.2.2.2.2.2.2.2.2.2.2.2.2.2.2.1, m1.2.2.2.2.2.2.2.2.2.2.2.2.2.2.2.2.2.2.2.2.2.2.2.2.1, m1.2.2.2.2.2.2.2.2.2.2.2.2.2.2.2.2.2.2.2.2.2.2.2.2.2.1, m1.2.2.2.2.2.2.2.2.2.2.2.2.2.2.2.2.2.2.2.2.2.2.2.2.2.2.1, m1.2.2.2.2.2.2.2.2.2.2.2.2.2.2.2.2.2.2.2.2.2.2.2.2.2.2.2.1, ())
 let m1_1 := (bif (f17 m1.2.1) then s_2 else m1)
 let s_4 := (m1_1.1, m1_1.2.1, m1_1.2.2.1, m1_1.2.2.2.1, m1_1.2.2.2.2.1, m1_1.2.2.2.2.2.1, m1_1.2.2.2.2.2.2.1, m1_1.2.2.2.2.2.2.2.1, m1_1.2.2.2.2.2.2.2.2.1, m1_1.2.2.2.2.2.2.2.2.2.1, m1_1.2.2.2.2.2.2.2.2.2.2.1, m1_1.2.2.2.2.2.2.2.2.2.2.2.1, ((0 : Int), (0 : Int), ([] : List D30), ()), m1_1.2.2.2.2.2.2.2.2.2.2.2.2.2.1, m1_1.2.2.2.2.2.2.2.2.2.2.2.2.2.2.1, m1_1.2.2.2.2.2.2.2.2.2.2.2.2.2.2.2.1, m1_1.2.2.2.2.2.2.2.2.2.2.2.2.2.2.2.2.1, m1_1.2.2.2.2.2.2.2.2.2.2.2.2.2.2.2.2.2.1, m1_1.2.2.2.2.2.2.2.2.2.2.2.2.2.2.2.2.2.2.1, m1_1.2.2.2.2.2.2.2.2.2.2.2.2.2.2.2.2.2.2.2.1, m1_1.2.2.2.2.2.2.2.2.2.2.2.2.2.2.2.2.2.2.2.2.1, m1_1.2.2.2.2.2.2.2.2.2.2.2.2.2.2.2.2.2.2.2.2.2.1, m1_1.2.2.2.2.2.2.2.2.2.2.2.2.2.2.2.2.2.2.2.2.2.2.1, m1_1.2.2.2.2.2.2.2.2.2.2.2.2.2.2.2.2.2.2.2.2.2.2.2.1, m1_1.2.2.2.2.2.2.2.2.2.2.2.2.2.2.2.2.2.2.2.2.2.2.2.2.1, m1_1.2.2.2.2.2.2.2.2.2.2.2.2.2.2.2.2.2.2.2.2.2.2.2.2.2.1, m1_1.2.2.2.2.2.2.2.2.2.2.2.2.2.2.2.2.2.2.2.2.2.2.2.2.2.2.1, m1_1.2.2.2.2.2.2.2.2.2.2.2.2.2.2.2.2.2.2.2.2.2.2.2.2.2.2.2.1, ())
 let s_6 := (m1_1.1, m1_1.2.1, m1_1.2.2.1, m1_1.2.2.2.1, m1_1.2.2.2.2.1, m1_1.2.2.2.2.2.1, m1_1.2.2.2.2.2.2.1, m1_1.2.2.2.2.2.2.2.1, m1_1.2.2.2.2.2.2.2.2.1, m1_1.2.2.2.2.2.2.2.2.2.1, m1_1.2.2.2.2.2.2.2.2.2.2.1, m1_1.2.2.2.2.2.2.2.2.2.2.2.1, m1_1.2.2.2.2.2.2.2.2.2.2.2.2.1, ((0 : Int), (0 : Int), (0 : Int), (0 : Int), ()), m1_1.2.2.2.2.2.2.2.2.2.2.2.2.2.2.1, m1_1.2.2.2.2.2.2.2.2.2.2.2.2.2.2.2.1, m1_1.2.2.2.2.2.2.2.2.2.2.2.2.2.2.2.2.1, m1_1.2.2.2.2.2.2.2.2.2.2.2.2.2.2.2.2.2.1, m1_1.2.2.2.2.2.2.2.2.2.2.2.2.2.2.2.2.2.2.1, m1_1.2.2.2.2.2.2.2.2.2.2.2.2.2.2.2.2.2.2.2.1, m1_1.2.2.2.2.2.2.2.2.2.2.2.2.2.2.2.2.2.2.2.2.1, m1_1.2.2.2.2.2.2.2.2.2.2.2.2.2.2.2.2.2.2.2.2.2.1, m1_1.2.2.2.2.2.2.2.2.2.2.2.2.2.2.2.2.2.2.2.2.2.2.1, m1_1.2.2.2.2.2.2.2.2.2.2.2.2.2.2.2.2.2.2.2.2.2.2.2.1, m1_1.2.2.2.2.2.2.2.2.2.2.2.2.2.2.2.2.2.2.2.2.2.2.2.2.1, m1_1.2.2.2.2.2.2.2.2.2.2.2.2.2.2.2.2.2.2.2.2.2.2.2.2.2.1, m1_1.2.2.2.2.2.2.2.2.2.2.2.2.2.2.2.2.2.2.2.2.2.2.2.2.2.2.1, m1_1.2.2.2.2.2.2.2.2.2.2.2.2.2.2.2.2.2.2.2.2.2.2.2.2.2.2.2.1, ())
 let s_10 := (m1_1.1, m1_1.2.1, m1_1.2.2.1, m1_1.2.2.2.1, m1_1.2.2.2.2.1, m1_1.2.2.2.2.2.1, m1_1.2.2.2.2.2.2.1, m1_1.2.2.2.2.2.2.2.1, m1_1.2.2.2.2.2.2.2.2.1, m1_1.2.2.2.2.2.2.2.2.2.1, m1_1.2.2.2.2.2.2.2.2.2.2.1, m1_1.2.2.2.2.2.2.2.2.2.2.2.1, m1_1.2.2.2.2.2.2.2.2.2.2.2.2.1, m1_1.2.2.2.2.2.2.2.2.2.2.2.2.2.1, (0 : Int), ([] : List Int), (0 : Int), ([] : List D53), m1_1.2.2.2.2.2.2.2.2.2.2.2.2.2.2.2.2.2.2.1, m1_1.2.2.2.2.2.2.2.2.2.2.2.2.2.2.2.2.2.2.2.1, m1_1.2.2.2.2.2.2.2.2.2.2.2.2.2.2.2.2.2.2.2.2.1, m1_1.2.2.2.2.2.2.2.2.2.2.2.2.2.2.2.2.2.2.2.2.2.1, m1_1.2.2.2.2.2.2.2.2.2.2.2.2.2.2.2.2.2.2.2.2.2.2.1, m1_1.2.2.2.2.2.2.2.2.2.2.2.2.2.2.2.2.2.2.2.2.2.2.2.1, m1_1.2.2.2.2.2.2.2.2.2.2.2.2.2.2.2.2.2.2.2.2.2.2.2.2.1, m1_1.2.2.2.2.2.2.2.2.2.2.2.2.2.2.2.2.2.2.2.2.2.2.2.2.2.1, m1_1.2.2.2.2.2.2.2.2.2.2.2.2.2.2.2.2.2.2.2.2.2.2.2.2.2.2.1, m1_1.2.2.2.2.2.2.2.2.2.2.2.2.2.2.2.2.2.2.2.2.2.2.2.2.2.2.2.1, ())
 let s_17 := (m1_1.1, m1_1.2.1, m1_1.2.2.1, m1_1.2.2.2.1, m1_1.2.2.2.2.1, m1_1.2.2.2.2.2.1, m1_1.2.2.2.2.2.2.1, m1_1.2.2.2.2.2.2.2.1, m1_1.2.2.2.2.2.2.2.2.1, m1_1.2.2.2.2.2.2.2.2.2.1, m1_1.2.2.2.2.2.2.2.2.2.2.1, m1_1.2.2.2.2.2.2.2.2.2.2.2.1, m1_1.2.2.2.2.2.2.2.2.2.2.2.2.1, ((0 : Int), (0 : Int), (0 : Int), (0 : Int), ()), m1_1.2.2.2.2.2.2.2.2.2.2.2.2.2.2.1, m1_1.2.2.2.2.2.2.2.2.2.2.2.2.2.2.2.1, m1_1.2.2.2.2.2.2.2.2.2.2.2.2.2.2.2.2.1, m1_1.2.2.2.2.2.2.2.2.2.2.2.2.2.2.2.2.2.1, ([] : List D58), (0 : Int), (0 : Int), (0 : Int), (0 : Int), m1_1.2.2.2.2.2.2.2.2.2.2.2.2.2.2.2.2.2.2.2.2.2.2.2.1, m1_1.2.2.2.2.2.2.2.2.2.2.2.2.2.2.2.2.2.2.2.2.2.2.2.2.1, m1_1.2.2.2.2.2.2.2.2.2.2.2.2.2.2.2.2.2.2.2.2.2.2.2.2.2.1, m1_1.2.2.2.2.2.2.2.2.2.2.2.2.2.2.2.2.2.2.2.2.2.2.2.2.2.2.1, m1_1.2.2.2.2.2.2.2.2.2.2.2.2.2.2.2.2.2.2.2.2.2.2.2.2.2.2.2.1, ())
 let s_22 := (m1_1.1, m1_1.2.1, m1_1.2.2.1, m1_1.2.2.2.1, m1_1.2.2.2.2.1, m1_1.2.2.2.2.2.1, m1_1.2.2.2.2.2.2.1, m1_1.2.2.2.2.2.2.2.1, m1_1.2.2.2.2.2.2.2.2.1, m1_1.2.2.2.2.2.2.2.2.2.1, m1_1.2.2.2.2.2.2.2.2.2.2.1, m1_1.2.2.2.2.2.2.2.2.2.2.2.1, m1_1.2.2.2.2.2.2.2.2.2.2.2.2.1, ((0 : Int), (0 : Int), (0 : Int), (0 : Int), ()), m1_1.2.2.2.2.2.2.2.2.2.2.2.2.2.2.1, m1_1.2.2.2.2.2.2.2.2.2.2.2.2.2.2.2.1, m1_1.2.2.2.2.2.2.2.2.2.2.2.2.2.2.2.2.1, m1_1.2.2.2.2.2.2.2.2.2.2.2.2.2.2.2.2.2.1, m1_1.2.2.2.2.2.2.2.2.2.2.2.2.2.2.2.2.2.2.1, m1_1.2.2.2.2.2.2.2.2.2.2.2.2.2.2.2.2.2.2.2.1, m1_1.2.2.2.2.2.2.2.2.2.2.2.2.2.2.2.2.2.2.2.2.1, m1_1.2.2.2.2.2.2.2.2.2.2.2.2.2.2.2.2.2.2.2.2.2.1, m1_1.2.2.2.2.2.2.2.2.2.2.2.2.2.2.2.2.2.2.2.2.2.2.1, ([] : List UInt8), (0 : Int), (0 : Int), m1_1.2.2.2.2.2.2.2.2.2.2.2.2.2.2.2.2.2.2.2.2.2.2.2.2.2.2.1, m1_1.2.2.2.2.2.2.2.2.2.2.2.2.2.2.2.2.2.2.2.2.2.2.2.2.2.2.2.1, ())
 let s_25 := (m1_1.1, m1_1.2.1, m1_1.2.2.1, m1_1.2.2.2.1, m1_1.2.2.2.2.1, m1_1.2.2.2.2.2.1, m1_1.2.2.2.2.2.2.1, m1_1.2.2.2.2.2.2.2.1, m1_1.2.2.2.2.2.2.2.2.1, m1_1.2.2.2.2.2.2.2.2.2.1, m1_1.2.2.2.2.2.2.2.2.2.2.1, m1_1.2.2.2.2.2.2.2.2.2.2.2.1, m1_1.2.2.2.2.2.2.2.2.2.2.2.2.1, m1_1.2.2.2.2.2.2.2.2.2.2.2.2.2.1, (0 : Int), ([] : List Int), m1_1.2.2.2.2.2.2.2.2.2.2.2.2.2.2.2.2.1, ([] : List D53), m1_1.2.2.2.2.2.2.2.2.2.2.2.2.2.2.2.2.2.2.1, m1_1.2.2.2.2.2.2.2.2.2.2.2.2.2.2.2.2.2.2.2.1, m1_1.2.2.2.2.2.2.2.2.2.2.2.2.2.2.2.2.2.2.2.2.1, m1_1.2.2.2.2.2.2.2.2.2.2.2.2.2.2.2.2.2.2.2.2.2.1, m1_1.2.2.2.2.2.2.2.2.2.2.2.2.2.2.2.2.2.2.2.2.2.2.1, m1_1.2.2.2.2.2.2.2.2.2.2.2.2.2.2.2.2.2.2.2.2.2.2.2.1, m1_1.2.2.2.2.2.2.2.2.2.2.2.2.2.2.2.2.2.2.2.2.2.2.2.2.1, m1_1.2.2.2.2.2.2.2.2.2.2.2.2.2.2.2.2.2.2.2.2.2.2.2.2.2.1, m1_1.2.2.2.2.2.2.2.2.2.2.2.2.2.2.2.2.2.2.2.2.2.2.2.2.2.2.1, m1_1.2.2.2.2.2.2.2.2.2.2.2.2.2.2.2.2.2.2.2.2.2.2.2.2.2.2.2.1, ())
 let s_27 := (m1_1.1, m1_1.2.1, m1_1.2.2.1, m1_1.2.2.2.1, m1_1.2.2.2.2.1, m1_1.2.2.2.2.2.1, m1_1.2.2.2.2.2.2.1, m1_1.2.2.2.2.2.2.2.1, m1_1.2.2.2.2.2.2.2.2.1, m1_1.2.2.2.2.2.2.2.2.2.1, m1_1.2.2.2.2.2.2.2.2.2.2.1, m1_1.2.2.2.2.2.2.2.2.2.2.2.1, m1_1.2.2.2.2.2.2.2.2.2.2.2.2.1, m1_1.2.2.2.2.2.2.2.2.2.2.2.2.2.1, (0 : Int), ([] : List Int), m1_1.2.2.2.2.2.2.2.2.2.2.2.2.2.2.2.2.1, m1_1.2.2.2.2.2.2.2.2.2.2.2.2.2.2.2.2.2.1, m1_1.2.2.2.2.2.2.2.2.2.2.2.2.2.2.2.2.2.2.1, m1_1.2.2.2.2.2.2.2.2.2.2.2.2.2.2.2.2.2.2.2.1, m1_1.2.2.2.2.2.2.2.2.2.2.2.2.2.2.2.2.2.2.2.2.1, m1_1.2.2.2.2.2.2.2.2.2.2.2.2.2.2.2.2.2.2.2.2.2.1, m1_1.2.2.2.2.2.2.2.2.2.2.2.2.2.2.2.2.2.2.2.2.2.2.1, m1_1.2.2.2.2.2.2.2.2.2.2.2.2.2.2.2.2.2.2.2.2.2.2.2.1, m1_1.2.2.2.2.2.2.2.2.2.2.2.2.2.2.2.2.2.2.2.2.2.2.2.2.1, m1_1.2.2.2.2.2.2.2.2.2.2.2.2.2.2.2.2.2.2.2.2.2.2.2.2.2.1, m1_1.2.2.2.2.2.2.2.2.2.2.2.2.2.2.2.2.2.2.2.2.2.2.2.2.2.2.1, m1_1.2.2.2.2.2.2.2.2.2.2.2.2.2.2.2.2.2.2.2.2.2.2.2.2.2.2.2.1, ())
 let v54 := (m1_1.2.1 == 9)
 let s_28 := (m1_1.1, m1_1.2.1, m1_1.2.2.1, m1_1.2.2.2.1, m1_1.2.2.2.2.1, m1_1.2.2.2.2.2.1, m1_1.2.2.2.2.2.2.1, m1_1.2.2.2.2.2.2.2.1, m1_1.2.2.2.2.2.2.2.2.1, m1_1.2.2.2.2.2.2.2.2.2.1, m1_1.2.2.2.2.2.2.2.2.2.2.1, m1_1.2.2.2.2.2.2.2.2.2.2.2.1, m1_1.2.2.2.2.2.2.2.2.2.2.2.2.1, m1_1.2.2.2.2.2.2.2.2.2.2.2.2.2.1, m1_1.2.2.2.2.2.2.2.2.2.2.2.2.2.2.1, m1_1.2.2.2.2.2.2.2.2.2.2.2.2.2.2.2.1, m1_1.2.2.2.2.2.2.2.2.2.2.2.2.2.2.2.2.1, m1_1.2.2.2.2.2.2.2.2.2.2.2.2.2.2.2.2.2.1, m1_1.2.2.2.2.2.2.2.2.2.2.2.2.2.2.2.2.2.2.1, m1_1.2.2.2.2.2.2.2.2.2.2.2.2.2.2.2.2.2.2.2.1, m1_1.2.2.2.2.2.2.2.2.2.2.2.2.2.2.2.2.2.2.2.2.1, m1_1.2.2.2.2.2.2.2.2.2.2.2.2.2.2.2.2.2.2.2.2.2.1, m1_1.2.2.2.2.2.2.2.2.2.2.2.2.2.2.2.2.2.2.2.2.2.2.1, m1_1.2.2.2.2.2.2.2.2.2.2.2.2.2.2.2.2.2.2.2.2.2.2.2.1, m1_1.2.2.2.2.2.2.2.2.2.2.2.2.2.2.2.2.2.2.2.2.2.2.2.2.1, m1_1.2.2.2.2.2.2.2.2.2.2.2.2.2.2.2.2.2.2.2.2.2.2.2.2.2.1, (0 : Int), m1_1.2.2.2.2.2.2.2.2.2.2.2.2.2.2.2.2.2.2.2.2.2.2.2.2.2.2.2.1, ())
 let s_30 := (m1_1.1, m1_1.2.1, m1_1.2.2.1, m1_1.2.2.2.1, m1_1.2.2.2.2.1, m1_1.2.2.2.2.2.1, m1_1.2.2.2.2.2.2.1, m1_1.2.2.2.2.2.2.2.1, m1_1.2.2.2.2.2.2.2.2.1, m1_1.2.2.2.2.2.2.2.2.2.1, m1_1.2.2.2.2.2.2.2.2.2.2.1, m1_1.2.2.2.2.2.2.2.2.2.2.2.1, m1_1.2.2.2.2.2.2.2.2.2.2.2.2.1, m1_1.2.2.2.2.2.2.2.2.2.2.2.2.2.1, m1_1.2.2.2.2.2.2.2.2.2.2.2.2.2.2.1, m1_1.2.2.2.2.2.2.2.2.2.2.2.2.2.2.2.1, m1_1.2.2.2.2.2.2.2.2.2.2.2.2.2.2.2.2.1, m1_1.2.2.2.2.2.2.2.2.2.2.2.2.2.2.2.2.2.1, m1_1.2.2.2.2.2.2.2.2.2.2.2.2.2.2.2.2.2.2.1, m1_1.2.2.2.2.2.2.2.2.2.2.2.2.2.2.2.2.2.2.2.1, m1_1.2.2.2.2.2.2.2.2.2.2.2.2.2.2.2.2.2.2.2.2.1, m1_1.2.2.2.2.2.2.2.2.2.2.2.2.2.2.2.2.2.2.2.2.2.1, m1_1.2.2.2.2.2.2.2.2.2.2.2.2.2.2.2.2.2.2.2.2.2.2.1, m1_1.2.2.2.2.2.2.2.2.2.2.2.2.2.2.2.2.2.2.2.2.2.2.2.1, m1_1.2.2.2.2.2.2.2.2.2.2.2.2.2.2.2.2.2.2.2.2.2.2.2.2.1, m1_1.2.2.2.2.2.2.2.2.2.2.2.2.2.2.2.2.2.2.2.2.2.2.2.2.2.1, m1_1.2.2.2.2.2.2.2.2.2.2.2.2.2.2.2.2.2.2.2.2.2.2.2.2.2.2.1, ((0 : Int), (0 : Int), (0 : Int), ([] : List D55), ()), ())
 let m1_6 := (bif (m1_1.2.1 == 6) then s_22 else (bif (m1_1.2.1 == 7) then s_25 else (bif (m1_1.2.1 == 8) then s_27 else (bif (bif v54 then v54 else (m1_1.2.1 == 10)) then s_28 else (bif (m1_1.2.1 == 11) then s_30 else m1_1)))))
 (((f15_ok p0.2.1) ∧ (f17_ok m1.2.1)), (bif (m1_1.2.1 == 2) then s_4 else (bif (m1_1.2.1 == 3) then s_6 else (bif (m1_1.2.1 == 4) then s_10 else (bif (m1_1.2.1 == 5) then s_17 else m1_6)))))
def f29_ok (p0 : D37) : Prop := (f29t p0).1
def f29 (p0 : D37) : D37 := (f29t p0).2
instance (p0 : D37) : Decidable (f29_ok p0) := by
 unfold f29_ok f29t
 try dsimp only
 infer_instance
def f29_spec : Am.Spec := fnSpec [(0, (.val T37))] (.val T37) [] (fun x => f29_ok x.1) (fun x => f29 x.1) (fun _ => ())
def f29_ctx : Ctx := Cx tys [(15, f15_spec), (17, f17_spec)] [] [] false 62 [] []
theorem f29_cok : CtxOk Tryz.prog f29_ctx := ctxOk_mk tys_ok rfl ⟨f15_is, f17_is, trivial⟩ rfl (by kernel_rfl)
theorem f29_is : SpecOk Tryz.prog 29 f29_spec := fgen f29_cok mixed Tryz.func29 (by kernel_rfl) (bs := []) (by kernel_rfl) trivial fun x => by kernel_rfl
def f11t (p0 : D37) (p1 : Int) (p2 : Int) : Prop × Int :=
 let v15 := (f23 p0 p1 p2)
 let v17 := (v15 != 0)
 let v21 := (f15 p0.2.1)
 let v24 := (f24 p0.2.2.2.2.2.2.2.2.2.2.1)
 let v26 := (v24 != 0)
 let v31 := (f25 p0.2.2.2.2.2.2.2.2.2.2.1)
 let v35 := (v31.2.1 != 0)
 let v39 := (f17 p0.2.1)
 let v45 := (bif v39 then (!(f26 p0.2.2.2.2.2.2.2.2.2.2.2.1)) else false)
 let v47 := (f27 p0)
 let v49 := (v47 != 0)
 let v52 := (f29 p0)
 let m6_5 := (bif v17 then v15 else (bif ((v26 || ((!v26) && v35)) && v21) then (bif v26 then v24 else v31.2.1) else (bif v45 then (8 : Int) else (bif v49 then v47 else (bif (!(f28 v52)) then (1 : Int) else (0 : Int))))))
 (((f23_ok p0 p1 p2) ∧ ((!v17) = true → ((f15_ok p0.2.1) ∧ ((v21 = true → ((f24_ok p0.2.2.2.2.2.2.2.2.2.2.1) ∧ ((!v26) = true → (f25_ok p0.2.2.2.2.2.2.2.2.2.2.1)))) ∧ ((bif v21 then ((!v26) && (!v35)) else true) = true → ((f17_ok p0.2.1) ∧ ((v39 = true → (f26_ok p0.2.2.2.2.2.2.2.2.2.2.2.1)) ∧ ((!v45) = true → ((f27_ok p0) ∧ ((!v49) = true → ((f29_ok p0) ∧ (f28_ok v52)))))))))))), m6_5)
def f11_ok (p0 : D37) (p1 : Int) (p2 : Int) : Prop := (f11t p0 p1 p2).1
def f11 (p0 : D37) (p1 : Int) (p2 : Int) : Int := (f11t p0 p1 p2).2
instance (p0 : D37) (p1 : Int) (p2 : Int) : Decidable (f11_ok p0 p1 p2) := by
 unfold f11_ok f11t
 try dsimp only
 infer_instance
def f11_spec : Am.Spec := fnSpec [(0, (.val T37)), (1, vI), (2, vI)] vI [] (fun x => f11_ok x.1 x.2.1 x.2.2.1) (fun x => f11 x.1 x.2.1 x.2.2.1) (fun _ => ())
def f11_ctx : Ctx := Cx tys [(15, f15_spec), (17, f17_spec), (23, f23_spec), (24, f24_spec), (25, f25_spec), (26, f26_spec), (27, f27_spec), (28, f28_spec), (29, f29_spec)] [] [] false 55 [] []
theorem f11_cok : CtxOk Tryz.prog f11_ctx := ctxOk_mk tys_ok rfl ⟨f15_is, f17_is, f23_is, f24_is, f25_is, f26_is, f27_is, f28_is, f29_is, trivial⟩ rfl (by kernel_rfl)
theorem f11_is : SpecOk Tryz.prog 11 f11_spec := fgen f11_cok mixed Tryz.func11 (by kernel_rfl) (bs := []) (by kernel_rfl) trivial fun x => by kernel_rfl
def f16t  : Prop × D25 :=
 (True, ((65536 : Int), (0 : Int), (0 : Int), (65536 : Int), (0 : Int), (0 : Int), ()))
def f16_ok  : Prop := (f16t).1
def f16  : D25 := (f16t).2
instance  : Decidable (f16_ok) := by
 unfold f16_ok f16t
 try dsimp only
 infer_instance
def f16_spec : Am.Spec := fnSpec [] (.val T25) [] (fun x => f16_ok ) (fun x => f16 ) (fun _ => ())
def f16_ctx : Ctx := Cx tys [] [] [] false 2 [] []
theorem f16_cok : CtxOk Tryz.prog f16_ctx := ctxOk_mk tys_ok rfl trivial rfl (by kernel_rfl)
theorem f16_is : SpecOk Tryz.prog 16 f16_spec := fgen f16_cok mixed Tryz.func16 (by kernel_rfl) (bs := []) (by kernel_rfl) trivial fun x => by kernel_rfl
def f6t (p0 : Int) : Prop × (D37 × Int × Unit) :=
 let v9 := (f9 p0)
 let v11 := (v9 == ([] : List UInt8))
 let s := ((0 : Int), (0 : Int), (0 : Int), (65535 : Int), ())
 let v18 := (f15 p0)
 let m6 := (bif v18 then (0 : Int) else (0 : Int))
 let m6_1 := (bif v18 then p0 else p0)
 let m6_2 := (bif v18 then (0 : Int) else (0 : Int))
 let m6_3 := (bif v18 then v9 else v9)
 let m6_4 := (bif v18 then false else false)
 let m6_5 := (bif v18 then false else false)
 let m6_6 := (bif v18 then false else false)
 let m6_7 := (bif v18 then (65535 : Int) else (65535 : Int))
 let m6_8 := (bif v18 then (0 : Int) else (0 : Int))
 let m6_9 := (bif v18 then (0 : Int) else (0 : Int))
 let m6_10 := (bif v18 then (0 : Int) else (0 : Int))
 let m6_11 := (bif v18 then f16 else Z25)
 let m6_13 := (bif v18 then (0 : Int) else (0 : Int))
 let m6_14 := (bif v18 then (0 : Int) else (0 : Int))
 let m6_15 := (bif v18 then Z30 else Z30)
 let m6_16 := (bif v18 then (0 : Int) else (0 : Int))
 let m6_17 := (bif v18 then (0 : Int) else (0 : Int))
 let m6_18 := (bif v18 then (0 : Int) else (0 : Int))
 let m6_19 := (bif v18 then (0 : Int) else (0 : Int))
 let m6_20 := (bif v18 then (0 : Int) else (0 : Int))
 let m6_21 := (bif v18 then (0 : Int) else (0 : Int))
 let m6_22 := (bif v18 then ([] : List UInt8) else ([] : List UInt8))
 let m6_23 := (bif v18 then (0 : Int) else (0 : Int))
 let m6_24 := (bif v18 then (0 : Int) else (0 : Int))
 let m6_25 := (bif v18 then (0 : Int) else (0 : Int))
 let m6_26 := (bif v18 then (0 : Int) else (0 : Int))
 let m6_27 := (bif v18 then (0 : Int) else (0 : Int))
 let m6_28 := (bif v18 then (0 : Int) else (0 : Int))
 let v22 := (f17 p0)
 let m6_29 := (bif v22 then m6 else m6)
 let m6_30 := (bif v22 then m6_1 else m6_1)
 let m6_31 := (bif v22 then m6_2 else m6_2)
 let m6_32 := (bif v22 then m6_3 else m6_3)
 let m6_33 := (bif v22 then m6_4 else m6_4)
 let m6_34 := (bif v22 then m6_5 else m6_5)
 let m6_35 := (bif v22 then m6_6 else m6_6)
 let m6_36 := (bif v22 then m6_7 else m6_7)
 let m6_37 := (bif v22 then m6_8 else m6_8)
 let m6_38 := (bif v22 then m6_9 else m6_9)
 let m6_39 := (bif v22 then m6_10 else m6_10)
 let m6_40 := (bif v22 then m6_11 else m6_11)
 let m6_41 := (bif v22 then (1 : Int) else (bif v18 then (0 : Int) else (0 : Int)))
 let m6_42 := (bif v22 then m6_13 else m6_13)
 let m6_43 := (bif v22 then m6_14 else m6_14)
 let m6_44 := (bif v22 then m6_15 else m6_15)
 let m6_45 := (bif v22 then m6_16 else m6_16)
 let m6_46 := (bif v22 then m6_17 else m6_17)
 let m6_47 := (bif v22 then m6_18 else m6_18)
 let m6_48 := (bif v22 then m6_19 else m6_19)
 let m6_49 := (bif v22 then m6_20 else m6_20)
 let m6_50 := (bif v22 then m6_21 else m6_21)
 let m6_51 := (bif v22 then m6_22 else m6_22)
 let m6_52 := (bif v22 then m6_23 else m6_23)
 let m6_53 := (bif v22 then m6_24 else m6_24)
 let m6_54 := (bif v22 then m6_25 else m6_25)
 let m6_55 := (bif v22 then m6_26 else m6_26)
 let m6_56 := (bif v22 then m6_27 else m6_27)
 let m6_57 := (bif v22 then m6_28 else m6_28)
 let v26 := (p0 == 3)
 let v30 := (p0 == 4)
 let v42 := (p0 == 5)
 let v53 := ([((1 : Int), (List.replicate 3 Z55), ()), ((2 : Int), ([((256 : Int), (0 : Int), ()), Z55, Z55] : List D55), ()), ((2 : Int), ([((256 : Int), (256 : Int), ()), Z55, Z55] : List D55), ()), ((5 : Int), (List.replicate 3 Z55), ())] : List D58)
 let v56 := (p0 == 6)
 let v62 := (p0 == 7)
 let v65 := (p0 == 8)
 let v70 := (p0 == 9)
 let m69 := (bif v70 then v70 else (p0 == 10))
 let v74 := (p0 == 11)
 let m6_268 := (bif v30 then m6_51 else (bif v42 then m6_51 else (bif v56 then ([116, 101, 120, 116] : List UInt8) else (bif v62 then m6_51 else (bif v65 then m6_51 else (bif m69 then m6_51 else (bif v74 then m6_51 else m6_51)))))))
 let m6_275 := (bif v30 then [] else (bif v42 then [] else (bif v56 then [] else (bif v62 then [] else (bif v65 then [] else (bif m69 then [] else (bif v74 then (List.replicate (Int.toNat (4 : Int)) Z55) else [])))))))
 let m6_276 := (bif v26 then m6_29 else (bif v30 then m6_29 else (bif v42 then m6_29 else (bif v56 then m6_29 else (bif v62 then m6_29 else (bif v65 then m6_29 else (bif m69 then m6_29 else (bif v74 then m6_29 else m6_29))))))))
 let m6_277 := (bif v26 then m6_30 else (bif v30 then m6_30 else (bif v42 then m6_30 else (bif v56 then m6_30 else (bif v62 then m6_30 else (bif v65 then m6_30 else (bif m69 then m6_30 else (bif v74 then m6_30 else m6_30))))))))
 let m6_278 := (bif v26 then m6_31 else (bif v30 then m6_31 else (bif v42 then m6_31 else (bif v56 then m6_31 else (bif v62 then m6_31 else (bif v65 then m6_31 else (bif m69 then m6_31 else (bif v74 then m6_31 else m6_31))))))))
 let m6_279 := (bif v26 then m6_32 else (bif v30 then m6_32 else (bif v42 then m6_32 else (bif v56 then m6_32 else (bif v62 then m6_32 else (bif v65 then m6_32 else (bif m69 then m6_32 else (bif v74 then m6_32 else m6_32))))))))
 let m6_280 := (bif v26 then m6_33 else (bif v30 then m6_33 else (bif v42 then m6_33 else (bif v56 then m6_33 else (bif v62 then m6_33 else (bif v65 then m6_33 else (bif m69 then m6_33 else (bif v74 then m6_33 else m6_33))))))))
 let m6_281 := (bif v26 then m6_34 else (bif v30 then m6_34 else (bif v42 then m6_34 else (bif v56 then m6_34 else (bif v62 then m6_34 else (bif v65 then m6_34 else (bif m69 then m6_34 else (bif v74 then m6_34 else m6_34))))))))
 let m6_282 := (bif v26 then m6_35 else (bif v30 then m6_35 else (bif v42 then m6_35 else (bif v56 then m6_35 else (bif v62 then m6_35 else (bif v65 then m6_35 else (bif m69 then m6_35 else (bif v74 then m6_35 else m6_35))))))))
 let m6_283 := (bif v26 then m6_36 else (bif v30 then m6_36 else (bif v42 then m6_36 else (bif v56 then m6_36 else (bif v62 then m6_36 else (bif v65 then m6_36 else (bif m69 then m6_36 else (bif v74 then m6_36 else m6_36))))))))
 let m6_284 := (bif v26 then m6_37 else (bif v30 then m6_37 else (bif v42 then m6_37 else (bif v56 then m6_37 else (bif v62 then m6_37 else (bif v65 then m6_37 else (bif m69 then m6_37 else (bif v74 then m6_37 else m6_37))))))))
 let m6_285 := (bif v26 then m6_38 else (bif v30 then m6_38 else (bif v42 then m6_38 else (bif v56 then m6_38 else (bif v62 then m6_38 else (bif v65 then m6_38 else (bif m69 then m6_38 else (bif v74 then m6_38 else m6_38))))))))
 let m6_286 := (bif v26 then m6_39 else (bif v30 then m6_39 else (bif v42 then m6_39 else (bif v56 then m6_39 else (bif v62 then m6_39 else (bif v65 then m6_39 else (bif m69 then m6_39 else (bif v74 then m6_39 else m6_39))))))))
 let m6_287 := (bif v26 then m6_40 else (bif v30 then m6_40 else (bif v42 then m6_40 else (bif v56 then m6_40 else (bif v62 then m6_40 else (bif v65 then m6_40 else (bif m69 then m6_40 else (bif v74 then m6_40 else m6_40))))))))
 let m6_288 := (bif v26 then m6_41 else (bif v30 then m6_41 else (bif v42 then m6_41 else (bif v56 then m6_41 else (bif v62 then m6_41 else (bif v65 then m6_41 else (bif m69 then m6_41 else (bif v74 then m6_41 else m6_41))))))))
 let m6_289 := (bif v26 then m6_42 else (bif v30 then m6_42 else (bif v42 then m6_42 else (bif v56 then m6_42 else (bif v62 then m6_42 else (bif v65 then m6_42 else (bif m69 then m6_42 else (bif v74 then m6_42 else m6_42))))))))
 let m6_290 := (bif v26 then m6_43 else (bif v30 then m6_43 else (bif v42 then m6_43 else (bif v56 then m6_43 else (bif v62 then m6_43 else (bif v65 then m6_43 else (bif m69 then m6_43 else (bif v74 then m6_43 else m6_43))))))))
 let m6_291 := (bif v26 then s else (bif v30 then m6_44 else (bif v42 then s else (bif v56 then s else (bif v62 then m6_44 else (bif v65 then m6_44 else (bif m69 then m6_44 else (bif v74 then m6_44 else m6_44))))))))
 let m6_292 := (bif v26 then m6_45 else (bif v30 then (1 : Int) else (bif v42 then m6_45 else (bif v56 then m6_45 else (bif v62 then (1 : Int) else (bif v65 then (1 : Int) else (bif m69 then m6_45 else (bif v74 then m6_45 else m6_45))))))))
 let m6_293 := (bif v26 then [] else (bif v30 then ([(0 : Int), (0 : Int), (256 : Int), (0 : Int)] : List Int) else (bif v42 then [] else (bif v56 then [] else (bif v62 then [] else (bif v65 then ([(1 : Int)] : List Int) else []))))))
 let m6_294 := (bif v26 then m6_46 else (bif v30 then m6_46 else (bif v42 then m6_46 else (bif v56 then m6_46 else (bif v62 then m6_46 else (bif v65 then m6_46 else (bif m69 then m6_46 else (bif v74 then m6_46 else m6_46))))))))
 let m6_297 := (bif v26 then m6_47 else (bif v30 then m6_47 else (bif v42 then m6_47 else (bif v56 then m6_47 else (bif v62 then m6_47 else (bif v65 then m6_47 else (bif m69 then m6_47 else (bif v74 then m6_47 else m6_47))))))))
 let m6_298 := (bif v26 then m6_48 else (bif v30 then m6_48 else (bif v42 then m6_48 else (bif v56 then m6_48 else (bif v62 then m6_48 else (bif v65 then m6_48 else (bif m69 then m6_48 else (bif v74 then m6_48 else m6_48))))))))
 let m6_299 := (bif v26 then m6_49 else (bif v30 then m6_49 else (bif v42 then m6_49 else (bif v56 then m6_49 else (bif v62 then m6_49 else (bif v65 then m6_49 else (bif m69 then m6_49 else (bif v74 then m6_49 else m6_49))))))))
 let m6_300 := (bif v26 then m6_50 else (bif v30 then m6_50 else (bif v42 then m6_50 else (bif v56 then m6_50 else (bif v62 then m6_50 else (bif v65 then m6_50 else (bif m69 then m6_50 else (bif v74 then m6_50 else m6_50))))))))
 let m6_302 := (bif v26 then m6_52 else (bif v30 then m6_52 else (bif v42 then m6_52 else (bif v56 then (256 : Int) else (bif v62 then m6_52 else (bif v65 then m6_52 else (bif m69 then m6_52 else (bif v74 then m6_52 else m6_52))))))))
 let m6_303 := (bif v26 then m6_53 else (bif v30 then m6_53 else (bif v42 then m6_53 else (bif v56 then m6_53 else (bif v62 then m6_53 else (bif v65 then m6_53 else (bif m69 then m6_53 else (bif v74 then m6_53 else m6_53))))))))
 let m6_304 := (bif v26 then m6_54 else (bif v30 then m6_54 else (bif v42 then m6_54 else (bif v56 then m6_54 else (bif v62 then m6_54 else (bif v65 then m6_54 else (bif m69 then (1 : Int) else (bif v74 then m6_54 else m6_54))))))))
 let m6_305 := (bif v26 then m6_55 else (bif v30 then m6_55 else (bif v42 then m6_55 else (bif v56 then m6_55 else (bif v62 then m6_55 else (bif v65 then m6_55 else (bif m69 then m6_55 else (bif v74 then (2 : Int) else m6_55))))))))
 let m6_306 := (bif v26 then m6_56 else (bif v30 then m6_56 else (bif v42 then m6_56 else (bif v56 then m6_56 else (bif v62 then m6_56 else (bif v65 then m6_56 else (bif m69 then m6_56 else (bif v74 then (2 : Int) else m6_56))))))))
 let m6_307 := (bif v26 then m6_57 else (bif v30 then m6_57 else (bif v42 then m6_57 else (bif v56 then m6_57 else (bif v62 then m6_57 else (bif v65 then m6_57 else (bif m69 then m6_57 else (bif v74 then (16 : Int) else m6_57))))))))
 let s_13 := ((bif v11 then (0 : Int) else m6_276), (bif v11 then (0 : Int) else m6_277), (bif v11 then (0 : Int) else m6_278), (bif v11 then ([] : List UInt8) else m6_279), (bif v11 then false else m6_280), (bif v11 then false else m6_281), (bif v11 then false else m6_282), (bif v11 then (0 : Int) else m6_283), (bif v11 then (0 : Int) else m6_284), ((bif v11 then (0 : Int) else m6_285), (bif v11 then (0 : Int) else m6_286), ([] : List Int), ()), (bif v11 then Z25 else m6_287), (bif v11 then (0 : Int) else m6_288), ((bif v11 then (0 : Int) else m6_289), (bif v11 then (0 : Int) else m6_290), ([] : List D30), ()), (bif v11 then Z30 else m6_291), (bif v11 then (0 : Int) else m6_292), (bif v11 then [] else m6_293), (bif v11 then (0 : Int) else m6_294), (bif v11 then [] else (bif v26 then [] else (bif v30 then ([((0 : Int), s, ()), ((65535 : Int), ((65535 : Int), (65535 : Int), (65535 : Int), (65535 : Int), ()), ())] : List D53) else []))), (bif v11 then [] else (bif v26 then [] else (bif v30 then [] else (bif v42 then v53 else [])))), (bif v11 then (0 : Int) else m6_297), (bif v11 then (0 : Int) else m6_298), (bif v11 then (0 : Int) else m6_299), (bif v11 then (0 : Int) else m6_300), (bif v11 then ([] : List UInt8) else (bif v26 then m6_51 else m6_268)), (bif v11 then (0 : Int) else m6_302), (bif v11 then (0 : Int) else m6_303), (bif v11 then (0 : Int) else m6_304), ((bif v11 then (0 : Int) else m6_305), (bif v11 then (0 : Int) else m6_306), (bif v11 then (0 : Int) else m6_307), (bif v11 then [] else (bif v26 then [] else m6_275)), ()), ())
 (((f9_ok p0) ∧ ((!v11) = true → ((f15_ok p0) ∧ ((v18 = true → f16_ok) ∧ ((f17_ok p0) ∧ (v26 = false → (v30 = false → (v42 = false → (v56 = false → (v62 = false → (v65 = false → (m69 = false → (v74 = true → (0 ≤ (4 : Int) ∧ (4 : Int) ≤ (4 : Int) ∧ (4 : Int) ≤ 4294967296)))))))))))))), (s_13, (bif v11 then (8 : Int) else (0 : Int)), ()))
def f6_ok (p0 : Int) : Prop := (f6t p0).1
def f6 (p0 : Int) : (D37 × Int × Unit) := (f6t p0).2
instance (p0 : Int) : Decidable (f6_ok p0) := by
 unfold f6_ok f6t
 try dsimp only
 infer_instance
def f6_spec : Am.Spec := fnSpec [(0, vI)] (.tup (.cons (.val T37) (.cons vI .nl))) [] (fun x => f6_ok x.1) (fun x => f6 x.1) (fun _ => ())
def f6_ctx : Ctx := Cx tys [(9, f9_spec), (15, f15_spec), (16, f16_spec), (17, f17_spec)] [] [(33, [(4, 0, 33, 400602)]), (35, [(4, 0, 39, 400603)]), (41, [(4, 0, 53, 400604)]), (59, [(4, 0, 67, 400602)]), (69, [(4, 0, 75, 400605)]), (71, [(4, 0, 400602, 400202), (4, 0, 400603, 400203), (4, 0, 400604, 400204), (4, 0, 400605, 400205)])] false 79 [] []
theorem f6_cok : CtxOk Tryz.prog f6_ctx := ctxOk_mk tys_ok rfl ⟨f9_is, f15_is, f16_is, f17_is, trivial⟩ rfl (by kernel_rfl)
theorem f6_is : SpecOk Tryz.prog 6 f6_spec := fgen f6_cok mixed Tryz.func6 (by kernel_rfl) (bs := []) (by kernel_rfl) trivial fun x => by kernel_rfl
def f89t (p0 : Int) : Prop × Int :=
 (InR (Int.sub 0 p0), (imax p0 (Int.sub 0 p0)))
def f89_ok (p0 : Int) : Prop := (f89t p0).1
def f89 (p0 : Int) : Int := (f89t p0).2
instance (p0 : Int) : Decidable (f89_ok p0) := by
 unfold f89_ok f89t
 try dsimp only
 infer_instance
def f89_spec : Am.Spec := fnSpec [(0, vI)] vI [] (fun x => f89_ok x.1) (fun x => f89 x.1) (fun _ => ())
def f89_ctx : Ctx := Cx tys [] [] [] false 7 [] []
theorem f89_cok : CtxOk Tryz.prog f89_ctx := ctxOk_mk tys_ok rfl trivial rfl (by kernel_rfl)
theorem f89_is : SpecOk Tryz.prog 89 f89_spec := fgen f89_cok mixed Tryz.func89 (by kernel_rfl) (bs := []) (by kernel_rfl) trivial fun x => by kernel_rfl
def f62t (p0 : Int) (p1 : (List Int)) : Prop × Int :=
 let v8 := ((f60 p0 p1) != 0)
 let v11 := (p0 == 5)
 let m10 := (bif v11 then v11 else (p0 == 6))
 let v14 := (p0 == 9)
 let v16 := (nth p1 (0 : Int) (0 : Int))
 let v20 := (nth p1 (1 : Int) (0 : Int))
 let v25 := (p0 == 10)
 let v27 := (nth p1 (0 : Int) (0 : Int))
 let m4_3 := (bif v8 then (0 : Int) else (bif (bif m10 then true else (bif v14 then true else v25)) then (bif m10 then (1 : Int) else (bif v14 then (imax (f89 v16) (f89 v20)) else (v27 - 1))) else (nth p1 (0 : Int) (0 : Int))))
 (((f60_ok p0 p1) ∧ ((!v8) = true → ((m10 = false → ((v14 = true → (InB (0 : Int) (len p1) ∧ ((f89_ok v16) ∧ (InB (1 : Int) (len p1) ∧ (f89_ok v20))))) ∧ (v14 = false → (v25 = true → (InB (0 : Int) (len p1) ∧ InR (v27 - 1)))))) ∧ ((((!v25) && (!v14)) && (!m10)) = true → InB (0 : Int) (len p1))))), m4_3)
def f62_ok (p0 : Int) (p1 : (List Int)) : Prop := (f62t p0 p1).1
def f62 (p0 : Int) (p1 : (List Int)) : Int := (f62t p0 p1).2
instance (p0 : Int) (p1 : (List Int)) : Decidable (f62_ok p0 p1) := by
 unfold f62_ok f62t
 try dsimp only
 infer_instance
def f62_spec : Am.Spec := fnSpec [(0, vI), (1, (.val (.sl (.int .i64))))] vI [] (fun x => f62_ok x.1 x.2.1) (fun x => f62 x.1 x.2.1) (fun _ => ())
def f62_ctx : Ctx := Cx tys [(60, f60_spec), (89, f89_spec)] [] [] false 33 [] []
theorem f62_cok : CtxOk Tryz.prog f62_ctx := ctxOk_mk tys_ok rfl ⟨f60_is, f89_is, trivial⟩ rfl (by kernel_rfl)
theorem f62_is : SpecOk Tryz.prog 62 f62_spec := fgen f62_cok mixed Tryz.func62 (by kernel_rfl) (bs := []) (by kernel_rfl) trivial fun x => by kernel_rfl
abbrev f63_L5_Y : Type := ((List D55) × Int × Unit)
abbrev f63_L5_X : Type := (Int × Int × Unit)
def f63_L5t (y : f63_L5_Y) (x : f63_L5_X) : Prop × Bool × f63_L5_X :=
 let a10 := y.1
 let a12 := x.2.1
 let v13 := (decide (a12 < y.2.1))
 let v14 := (nth a10 a12 Z55)
 ((v13 = true → (InB a12 (len a10) ∧ (InR (Int.sub 0 v14.1) ∧ (InR (Int.sub 0 v14.2.1) ∧ InR (a12 + 1))))), v13, ((imax (imax (imax (imax x.1 v14.1) (Int.sub 0 v14.1)) v14.2.1) (Int.sub 0 v14.2.1)), (a12 + 1), ()))
def f63_L5_ok (y : f63_L5_Y) (x : f63_L5_X) : Prop := (f63_L5t y x).1
def f63_L5_g (y : f63_L5_Y) (x : f63_L5_X) : Bool := (f63_L5t y x).2.1
def f63_L5_next (y : f63_L5_Y) (x : f63_L5_X) : f63_L5_X := (f63_L5t y x).2.2
instance (y : f63_L5_Y) (x : f63_L5_X) : Decidable (f63_L5_ok y x) := by
 unfold f63_L5_ok f63_L5t
 try dsimp only
 infer_instance
def f63_L5_x2_0 (y : f63_L5_Y) (x : f63_L5_X) : Int :=
 x.1
def f63_L5_spec : St → Option Out := loopS [(10, (.val (.sl T55))), (11, vI)] [(3, vI), (12, vI)] f63_L5_g f63_L5_next f63_L5_ok fun y x => [ex 2 none [(3, vI)] ((f63_L5_x2_0 y x), ())]
def f63t (p0 : D35) : Prop × Int :=
 let v8 := ((f61 p0) != 0)
 let y5 := (p0.2.2.2.1, (len p0.2.2.2.1), ())
 let x5 := ((0 : Int), (0 : Int), ())
 let r5_2_0 := (f63_L5_x2_0 y5 (loopEnd (f63_L5_g y5) (f63_L5_next y5) x5))
 let v30 := (r5_2_0 + 65536)
 let v31 := (v30 - 1)
 (((f61_ok p0) ∧ ((!v8) = true → ((Am.Ends (f63_L5_g y5) (f63_L5_next y5) (f63_L5_ok y5) x5) ∧ (InR (r5_2_0 + 65536) ∧ (InR (v30 - 1) ∧ InR (Int.tdiv v31 (65536 : Int))))))), (bif v8 then (0 : Int) else (Int.tdiv v31 (65536 : Int))))
def f63_ok (p0 : D35) : Prop := (f63t p0).1
def f63 (p0 : D35) : Int := (f63t p0).2
instance (p0 : D35) : Decidable (f63_ok p0) := by
 unfold f63_ok f63t
 try dsimp only
 infer_instance
def f63_spec : Am.Spec := fnSpec [(0, (.val T35))] vI [] (fun x => f63_ok x.1) (fun x => f63 x.1) (fun _ => ())
def f63_ctx : Ctx := Cx tys [(61, f61_spec)] [(5, f63_L5_spec)] [] false 33 [] []
theorem f63_cok : CtxOk Tryz.prog f63_ctx := ctxOk_mk tys_ok rfl ⟨f61_is, trivial⟩ rfl (by kernel_rfl)
noncomputable def f63_code : Code := Tryz.f63.body.getD .skip
noncomputable def f63_L5 : Code := nthLoop f63_code 0
theorem f63_L5_is : LoopSnd Tryz.prog f63_ctx f63_L5 := lgen f63_cok mixed (sp := f63_L5_spec) rfl [[(3, vI)]] (bs := []) (by kernel_rfl) trivial (by kernel_rfl) (by kernel_rfl) fun y x => by kernel_rfl
theorem f63_is : SpecOk Tryz.prog 63 f63_spec := fgen f63_cok mixed Tryz.func63 (by kernel_rfl) (bs := [f63_L5]) (by kernel_rfl) ⟨f63_L5_is, trivial⟩ fun x => by kernel_rfl
def f64t (p0 : Int) : Prop × Int :=
 let v5 := (p0 == 2)
 let m4 := (bif v5 then v5 else (p0 == 4))
 let v8 := (p0 == 0)
 let v9 := (p0 == 1)
 (True, (bif (bif m4 then true else (bif v8 then v8 else (bif v9 then v9 else (p0 == 3)))) then (bif m4 then (2 : Int) else (1 : Int)) else (0 : Int)))
def f64_ok (p0 : Int) : Prop := (f64t p0).1
def f64 (p0 : Int) : Int := (f64t p0).2
instance (p0 : Int) : Decidable (f64_ok p0) := by
 unfold f64_ok f64t
 try dsimp only
 infer_instance
def f64_spec : Am.Spec := fnSpec [(0, vI)] vI [] (fun x => f64_ok x.1) (fun x => f64 x.1) (fun _ => ())
def f64_ctx : Ctx := Cx tys [] [] [] false 11 [] []
theorem f64_cok : CtxOk Tryz.prog f64_ctx := ctxOk_mk tys_ok rfl trivial rfl (by kernel_rfl)
theorem f64_is : SpecOk Tryz.prog 64 f64_spec := fgen f64_cok mixed Tryz.func64 (by kernel_rfl) (bs := []) (by kernel_rfl) trivial fun x => by kernel_rfl
def f30t (p0 : D37) : Prop × Int :=
 let v6 := (p0.2.1 == 8)
 let v13 := (p0.2.1 == 11)
 let v16 := (f63 p0.2.2.2.2.2.2.2.2.2.2.2.2.2.2.2.2.2.2.2.2.2.2.2.2.2.2.2.1)
 let v19 := (f64 p0.2.2.2.2.2.2.2.2.2.2.2.1)
 let v20 := (v16 + v19)
 (((v6 = true → (f62_ok p0.2.2.2.2.2.2.2.2.2.2.2.2.2.2.1 p0.2.2.2.2.2.2.2.2.2.2.2.2.2.2.2.1)) ∧ (v6 = false → (v13 = true → ((f63_ok p0.2.2.2.2.2.2.2.2.2.2.2.2.2.2.2.2.2.2.2.2.2.2.2.2.2.2.2.1) ∧ ((f64_ok p0.2.2.2.2.2.2.2.2.2.2.2.1) ∧ (InR (v16 + v19) ∧ InR (v20 + 1))))))), (bif (bif v6 then true else v13) then (bif v6 then (f62 p0.2.2.2.2.2.2.2.2.2.2.2.2.2.2.1 p0.2.2.2.2.2.2.2.2.2.2.2.2.2.2.2.1) else (v20 + 1)) else (0 : Int)))
def f30_ok (p0 : D37) : Prop := (f30t p0).1
def f30 (p0 : D37) : Int := (f30t p0).2
instance (p0 : D37) : Decidable (f30_ok p0) := by
 unfold f30_ok f30t
 try dsimp only
 infer_instance
def f30_spec : Am.Spec := fnSpec [(0, (.val T37))] vI [] (fun x => f30_ok x.1) (fun x => f30 x.1) (fun _ => ())
def f30_ctx : Ctx := Cx tys [(62, f62_spec), (63, f63_spec), (64, f64_spec)] [] [] false 22 [] []
theorem f30_cok : CtxOk Tryz.prog f30_ctx := ctxOk_mk tys_ok rfl ⟨f62_is, f63_is, f64_is, trivial⟩ rfl (by kernel_rfl)
theorem f30_is : SpecOk Tryz.prog 30 f30_spec := fgen f30_cok mixed Tryz.func30 (by kernel_rfl) (bs := []) (by kernel_rfl) trivial fun x => by kernel_rfl
def f12t  : Prop × Bool :=
 let v8 := (f6 (3 : Int))
 let v12 := (f6 (8 : Int))
 let v20 := (bif (v8.2.1 != 0) then true else (v12.2.1 != 0))
 let v25 := (bif v20 then true else ((f11 v8.1 (8 : Int) (8 : Int)) != 0))
 let v30 := (bif v25 then true else ((f30 v12.1) != 1))
 let v35 := (bif v30 then true else (!(f31 v12.1)))
 let v39 := (bif v35 then true else (f31 v8.1))
 let s := (v8.1.1, v8.1.2.1, v8.1.2.2.1, v8.1.2.2.2.1, v8.1.2.2.2.2.1, v8.1.2.2.2.2.2.1, v8.1.2.2.2.2.2.2.1, (65536 : Int), v8.1.2.2.2.2.2.2.2.2.1, v8.1.2.2.2.2.2.2.2.2.2.1, v8.1.2.2.2.2.2.2.2.2.2.2.1, v8.1.2.2.2.2.2.2.2.2.2.2.2.1, v8.1.2.2.2.2.2.2.2.2.2.2.2.2.1, v8.1.2.2.2.2.2.2.2.2.2.2.2.2.2.1, v8.1.2.2.2.2.2.2.2.2.2.2.2.2.2.2.1, v8.1.2.2.2.2.2.2.2.2.2.2.2.2.2.2.2.1, v8.1.2.2.2.2.2.2.2.2.2.2.2.2.2.2.2.2.1, v8.1.2.2.2.2.2.2.2.2.2.2.2.2.2.2.2.2.2.1, v8.1.2.2.2.2.2.2.2.2.2.2.2.2.2.2.2.2.2.2.1, v8.1.2.2.2.2.2.2.2.2.2.2.2.2.2.2.2.2.2.2.2.1, v8.1.2.2.2.2.2.2.2.2.2.2.2.2.2.2.2.2.2.2.2.2.1, v8.1.2.2.2.2.2.2.2.2.2.2.2.2.2.2.2.2.2.2.2.2.2.1, v8.1.2.2.2.2.2.2.2.2.2.2.2.2.2.2.2.2.2.2.2.2.2.2.1, v8.1.2.2.2.2.2.2.2.2.2.2.2.2.2.2.2.2.2.2.2.2.2.2.2.1, v8.1.2.2.2.2.2.2.2.2.2.2.2.2.2.2.2.2.2.2.2.2.2.2.2.2.1, v8.1.2.2.2.2.2.2.2.2.2.2.2.2.2.2.2.2.2.2.2.2.2.2.2.2.2.1, v8.1.2.2.2.2.2.2.2.2.2.2.2.2.2.2.2.2.2.2.2.2.2.2.2.2.2.2.1, v8.1.2.2.2.2.2.2.2.2.2.2.2.2.2.2.2.2.2.2.2.2.2.2.2.2.2.2.2.1, ())
 let s_1 := (v12.1.1, v12.1.2.1, v12.1.2.2.1, v12.1.2.2.2.1, v12.1.2.2.2.2.1, v12.1.2.2.2.2.2.1, v12.1.2.2.2.2.2.2.1, v12.1.2.2.2.2.2.2.2.1, (1 : Int), v12.1.2.2.2.2.2.2.2.2.2.1, v12.1.2.2.2.2.2.2.2.2.2.2.1, v12.1.2.2.2.2.2.2.2.2.2.2.2.1, v12.1.2.2.2.2.2.2.2.2.2.2.2.2.1, v12.1.2.2.2.2.2.2.2.2.2.2.2.2.2.1, v12.1.2.2.2.2.2.2.2.2.2.2.2.2.2.2.1, v12.1.2.2.2.2.2.2.2.2.2.2.2.2.2.2.2.1, v12.1.2.2.2.2.2.2.2.2.2.2.2.2.2.2.2.2.1, v12.1.2.2.2.2.2.2.2.2.2.2.2.2.2.2.2.2.2.1, v12.1.2.2.2.2.2.2.2.2.2.2.2.2.2.2.2.2.2.2.1, v12.1.2.2.2.2.2.2.2.2.2.2.2.2.2.2.2.2.2.2.2.1, v12.1.2.2.2.2.2.2.2.2.2.2.2.2.2.2.2.2.2.2.2.2.1, v12.1.2.2.2.2.2.2.2.2.2.2.2.2.2.2.2.2.2.2.2.2.2.1, v12.1.2.2.2.2.2.2.2.2.2.2.2.2.2.2.2.2.2.2.2.2.2.2.1, v12.1.2.2.2.2.2.2.2.2.2.2.2.2.2.2.2.2.2.2.2.2.2.2.2.1, v12.1.2.2.2.2.2.2.2.2.2.2.2.2.2.2.2.2.2.2.2.2.2.2.2.2.1, v12.1.2.2.2.2.2.2.2.2.2.2.2.2.2.2.2.2.2.2.2.2.2.2.2.2.2.1, v12.1.2.2.2.2.2.2.2.2.2.2.2.2.2.2.2.2.2.2.2.2.2.2.2.2.2.2.1, v12.1.2.2.2.2.2.2.2.2.2.2.2.2.2.2.2.2.2.2.2.2.2.2.2.2.2.2.2.1, ())
 let v44 := (f6 (11 : Int))
 let v48 := (v44.2.1 == 0)
 let v53 := (bif v48 then ((f11 s (8 : Int) (8 : Int)) == 2) else false)
 let v58 := (bif v53 then ((f11 s_1 (8 : Int) (8 : Int)) == 8) else false)
 let s_5 := ((0 : Int), (2 : Int), (0 : Int), ([105] : List UInt8), false, false, false, (0 : Int), (0 : Int), ((0 : Int), (0 : Int), ([] : List Int), ()), Z25, (0 : Int), ((0 : Int), (0 : Int), ([] : List D30), ()), Z30, (0 : Int), ([] : List Int), (0 : Int), ([] : List D53), ([] : List D58), (0 : Int), (0 : Int), (0 : Int), (0 : Int), ([] : List UInt8), (0 : Int), (0 : Int), (0 : Int), ((0 : Int), (0 : Int), (0 : Int), ([] : List D55), ()), ())
 let v63 := (bif v58 then ((f11 s_5 (8 : Int) (8 : Int)) == 17) else false)
 let v68 := (bif v63 then ((f30 v44.1) == 2) else false)
 (((f6_ok (3 : Int)) ∧ ((f6_ok (8 : Int)) ∧ (((!v20) = true → (f11_ok v8.1 (8 : Int) (8 : Int))) ∧ (((!v25) = true → (f30_ok v12.1)) ∧ (((!v30) = true → (f31_ok v12.1)) ∧ (((!v35) = true → (f31_ok v8.1)) ∧ ((!v39) = true → ((f6_ok (11 : Int)) ∧ ((v48 = true → (f11_ok s (8 : Int) (8 : Int))) ∧ ((v53 = true → (f11_ok s_1 (8 : Int) (8 : Int))) ∧ ((v58 = true → (f11_ok s_5 (8 : Int) (8 : Int))) ∧ ((v63 = true → (f30_ok v44.1)) ∧ (v68 = true → (f9_ok (11 : Int))))))))))))))), (bif v39 then false else (bif v68 then ((f9 (11 : Int)) == ([119, 97, 114, 112] : List UInt8)) else false)))
def f12_ok  : Prop := (f12t).1
def f12  : Bool := (f12t).2
instance  : Decidable (f12_ok) := by
 unfold f12_ok f12t
 try dsimp only
 infer_instance
def f12_spec : Am.Spec := fnSpec [] vB [] (fun x => f12_ok ) (fun x => f12 ) (fun _ => ())
def f12_ctx : Ctx := Cx tys [(6, f6_spec), (9, f9_spec), (11, f11_spec), (30, f30_spec), (31, f31_spec)] [] [] false 73 [] []
theorem f12_cok : CtxOk Tryz.prog f12_ctx := ctxOk_mk tys_ok rfl ⟨f6_is, f9_is, f11_is, f30_is, f31_is, trivial⟩ rfl (by kernel_rfl)
noncomputable def f12_code : Code := Tryz.f12.body.getD .skip
theorem f12_is : SpecOk Tryz.prog 12 f12_spec := fgen f12_cok mixed Tryz.func12 (by kernel_rfl) (bs := []) (by kernel_rfl) trivial fun x => by kernel_rfl
def f32at (p0 : Unit) : Prop × (List Int) :=
 (((!true) = true → ((List.length ([] : List Int) + List.length ([] : List Int) : Nat) : Int) ≤ 4294967296), (bif true then [] else (([] : List Int) ++ ([] : List Int))))
def f32a_ok (p0 : Unit) : Prop := (f32at p0).1
def f32a (p0 : Unit) : (List Int) := (f32at p0).2
instance (p0 : Unit) : Decidable (f32a_ok p0) := by
 unfold f32a_ok f32at
 try dsimp only
 infer_instance
def f32a_spec : Am.Spec := fnSpec [(0, (.nn true))] (.own (.int .i64) 0 false) [] (fun x => f32a_ok x.1) (fun x => f32a x.1) (fun _ => ())
def f32a_ctx : Ctx := Cx tys [] [] [(7, [(4, 0, 7, 0)])] false 8 [] []
theorem f32a_cok : CtxOk Tryz.prog f32a_ctx := ctxOk_mk tys_ok rfl trivial rfl (by kernel_rfl)
theorem f32a_is : SpecOk Tryz.prog 32 f32a_spec := fgen f32a_cok mixed Tryz.func32 (by kernel_rfl) (bs := []) (by kernel_rfl) trivial fun x => by kernel_rfl
def f32bt (p0 : Unit) : Prop × (List Int) :=
 (((!false) = true → ((List.length ([] : List Int) + List.length ([] : List Int) : Nat) : Int) ≤ 4294967296), (bif false then [] else (([] : List Int) ++ ([] : List Int))))
def f32b_ok (p0 : Unit) : Prop := (f32bt p0).1
def f32b (p0 : Unit) : (List Int) := (f32bt p0).2
instance (p0 : Unit) : Decidable (f32b_ok p0) := by
 unfold f32b_ok f32bt
 try dsimp only
 infer_instance
def f32b_spec : Am.Spec := fnSpec [(0, (.nn false))] (.own (.int .i64) 0 false) [] (fun x => f32b_ok x.1) (fun x => f32b x.1) (fun _ => ())
def f32b_ctx : Ctx := Cx tys [] [] [(7, [(4, 0, 7, 0)])] false 8 [] []
theorem f32b_cok : CtxOk Tryz.prog f32b_ctx := ctxOk_mk tys_ok rfl trivial rfl (by kernel_rfl)
theorem f32b_is : SpecOk Tryz.prog 32 f32b_spec := fgen f32b_cok mixed Tryz.func32 (by kernel_rfl) (bs := []) (by kernel_rfl) trivial fun x => by kernel_rfl
def f32ct (p0 : (List Int)) : Prop × (List Int) :=
 ((0 < List.length p0 ∧ ((!false) = true → ((List.length ([] : List Int) + List.length p0 : Nat) : Int) ≤ 4294967296)), (bif false then [] else (([] : List Int) ++ p0)))
def f32c_ok (p0 : (List Int)) : Prop := (f32ct p0).1
def f32c (p0 : (List Int)) : (List Int) := (f32ct p0).2
instance (p0 : (List Int)) : Decidable (f32c_ok p0) := by
 unfold f32c_ok f32ct
 try dsimp only
 infer_instance
def f32c_spec : Am.Spec := fnSpec [(0, (.val (.sl (.int .i64))))] (.own (.int .i64) 0 false) [] (fun x => f32c_ok x.1) (fun x => f32c x.1) (fun _ => ())
def f32c_ctx : Ctx := Cx tys [] [] [(7, [(4, 0, 7, 0)])] false 8 [] []
theorem f32c_cok : CtxOk Tryz.prog f32c_ctx := ctxOk_mk tys_ok rfl trivial rfl (by kernel_rfl)
theorem f32c_is : SpecOk Tryz.prog 32 f32c_spec := fgen f32c_cok mixed Tryz.func32 (by kernel_rfl) (bs := []) (by kernel_rfl) trivial fun x => by kernel_rfl
def f32 (p0 : (List Int)) : (List Int) := p0
def f32_ok (p0 : (List Int)) : Prop := (List.length p0 : Int) ≤ 4294967296
instance (p0 : (List Int)) : Decidable (f32_ok p0) := by
  unfold f32_ok
  infer_instance
def f32_ps : List (Nat × Sh) := [(0, (.val (.sl (.int .i64))))]
def f32_rs : Sh := (.own (.int .i64) 0 false)
def f32_os : List (Nat × Sh) := []
def f32_spec : Am.Spec := fnSpec f32_ps f32_rs f32_os (fun x => f32_ok x.1) (fun x => f32 x.1) (fun _ => ())
theorem f32_is : SpecOk Tryz.prog 32 f32_spec := nil_cases (rs := f32_rs) (F := f32) (ok := f32_ok) f32a_is f32b_is f32c_is (of_decide_eq_true (by kernel_rfl)) (of_decide_eq_true (by kernel_rfl)) (fun l h hp => ⟨hp, fun _ => by simpa [f32_ok] using h⟩) rfl rfl (fun _ => rfl)
def f33at (p0 : Unit) : Prop × (List D30) :=
 (((!true) = true → ((List.length ([] : List D30) + List.length ([] : List D30) : Nat) : Int) ≤ 4294967296), (bif true then [] else (([] : List D30) ++ ([] : List D30))))
def f33a_ok (p0 : Unit) : Prop := (f33at p0).1
def f33a (p0 : Unit) : (List D30) := (f33at p0).2
instance (p0 : Unit) : Decidable (f33a_ok p0) := by
 unfold f33a_ok f33at
 try dsimp only
 infer_instance
def f33a_spec : Am.Spec := fnSpec [(0, (.nn true))] (.own T30 0 false) [] (fun x => f33a_ok x.1) (fun x => f33a x.1) (fun _ => ())
def f33a_ctx : Ctx := Cx tys [] [] [(7, [(4, 0, 7, 0)])] false 8 [] []
theorem f33a_cok : CtxOk Tryz.prog f33a_ctx := ctxOk_mk tys_ok rfl trivial rfl (by kernel_rfl)
theorem f33a_is : SpecOk Tryz.prog 33 f33a_spec := fgen f33a_cok mixed Tryz.func33 (by kernel_rfl) (bs := []) (by kernel_rfl) trivial fun x => by kernel_rfl
def f33bt (p0 : Unit) : Prop × (List D30) :=
 (((!false) = true → ((List.length ([] : List D30) + List.length ([] : List D30) : Nat) : Int) ≤ 4294967296), (bif false then [] else (([] : List D30) ++ ([] : List D30))))
def f33b_ok (p0 : Unit) : Prop := (f33bt p0).1
def f33b (p0 : Unit) : (List D30) := (f33bt p0).2
instance (p0 : Unit) : Decidable (f33b_ok p0) := by
 unfold f33b_ok f33bt
 try dsimp only
 infer_instance
def f33b_spec : Am.Spec := fnSpec [(0, (.nn false))] (.own T30 0 false) [] (fun x => f33b_ok x.1) (fun x => f33b x.1) (fun _ => ())
def f33b_ctx : Ctx := Cx tys [] [] [(7, [(4, 0, 7, 0)])] false 8 [] []
theorem f33b_cok : CtxOk Tryz.prog f33b_ctx := ctxOk_mk tys_ok rfl trivial rfl (by kernel_rfl)
theorem f33b_is : SpecOk Tryz.prog 33 f33b_spec := fgen f33b_cok mixed Tryz.func33 (by kernel_rfl) (bs := []) (by kernel_rfl) trivial fun x => by kernel_rfl
def f33ct (p0 : (List D30)) : Prop × (List D30) :=
 ((0 < List.length p0 ∧ ((!false) = true → ((List.length ([] : List D30) + List.length p0 : Nat) : Int) ≤ 4294967296)), (bif false then [] else (([] : List D30) ++ p0)))
def f33c_ok (p0 : (List D30)) : Prop := (f33ct p0).1
def f33c (p0 : (List D30)) : (List D30) := (f33ct p0).2
instance (p0 : (List D30)) : Decidable (f33c_ok p0) := by
 unfold f33c_ok f33ct
 try dsimp only
 infer_instance
def f33c_spec : Am.Spec := fnSpec [(0, (.val (.sl T30)))] (.own T30 0 false) [] (fun x => f33c_ok x.1) (fun x => f33c x.1) (fun _ => ())
def f33c_ctx : Ctx := Cx tys [] [] [(7, [(4, 0, 7, 0)])] false 8 [] []
theorem f33c_cok : CtxOk Tryz.prog f33c_ctx := ctxOk_mk tys_ok rfl trivial rfl (by kernel_rfl)
theorem f33c_is : SpecOk Tryz.prog 33 f33c_spec := fgen f33c_cok mixed Tryz.func33 (by kernel_rfl) (bs := []) (by kernel_rfl) trivial fun x => by kernel_rfl
def f33 (p0 : (List D30)) : (List D30) := p0
def f33_ok (p0 : (List D30)) : Prop := (List.length p0 : Int) ≤ 4294967296
instance (p0 : (List D30)) : Decidable (f33_ok p0) := by
  unfold f33_ok
  infer_instance
def f33_ps : List (Nat × Sh) := [(0, (.val (.sl T30)))]
def f33_rs : Sh := (.own T30 0 false)
def f33_os : List (Nat × Sh) := []
def f33_spec : Am.Spec := fnSpec f33_ps f33_rs f33_os (fun x => f33_ok x.1) (fun x => f33 x.1) (fun _ => ())
theorem f33_is : SpecOk Tryz.prog 33 f33_spec := nil_cases (rs := f33_rs) (F := f33) (ok := f33_ok) f33a_is f33b_is f33c_is (of_decide_eq_true (by kernel_rfl)) (of_decide_eq_true (by kernel_rfl)) (fun l h hp => ⟨hp, fun _ => by simpa [f33_ok] using h⟩) rfl rfl (fun _ => rfl)
def f34at (p0 : Unit) : Prop × (List D53) :=
 (((!true) = true → ((List.length ([] : List D53) + List.length ([] : List D53) : Nat) : Int) ≤ 4294967296), (bif true then [] else (([] : List D53) ++ ([] : List D53))))
def f34a_ok (p0 : Unit) : Prop := (f34at p0).1
def f34a (p0 : Unit) : (List D53) := (f34at p0).2
instance (p0 : Unit) : Decidable (f34a_ok p0) := by
 unfold f34a_ok f34at
 try dsimp only
 infer_instance
def f34a_spec : Am.Spec := fnSpec [(0, (.nn true))] (.own T53 0 false) [] (fun x => f34a_ok x.1) (fun x => f34a x.1) (fun _ => ())
def f34a_ctx : Ctx := Cx tys [] [] [(7, [(4, 0, 7, 0)])] false 8 [] []
theorem f34a_cok : CtxOk Tryz.prog f34a_ctx := ctxOk_mk tys_ok rfl trivial rfl (by kernel_rfl)
theorem f34a_is : SpecOk Tryz.prog 34 f34a_spec := fgen f34a_cok mixed Tryz.func34 (by kernel_rfl) (bs := []) (by kernel_rfl) trivial fun x => by kernel_rfl
def f34bt (p0 : Unit) : Prop × (List D53) :=
 (((!false) = true → ((List.length ([] : List D53) + List.length ([] : List D53) : Nat) : Int) ≤ 4294967296), (bif false then [] else (([] : List D53) ++ ([] : List D53))))
def f34b_ok (p0 : Unit) : Prop := (f34bt p0).1
def f34b (p0 : Unit) : (List D53) := (f34bt p0).2
instance (p0 : Unit) : Decidable (f34b_ok p0) := by
 unfold f34b_ok f34bt
 try dsimp only
 infer_instance
def f34b_spec : Am.Spec := fnSpec [(0, (.nn false))] (.own T53 0 false) [] (fun x => f34b_ok x.1) (fun x => f34b x.1) (fun _ => ())
def f34b_ctx : Ctx := Cx tys [] [] [(7, [(4, 0, 7, 0)])] false 8 [] []
theorem f34b_cok : CtxOk Tryz.prog f34b_ctx := ctxOk_mk tys_ok rfl trivial rfl (by kernel_rfl)
theorem f34b_is : SpecOk Tryz.prog 34 f34b_spec := fgen f34b_cok mixed Tryz.func34 (by kernel_rfl) (bs := []) (by kernel_rfl) trivial fun x => by kernel_rfl
def f34ct (p0 : (List D53)) : Prop × (List D53) :=
 ((0 < List.length p0 ∧ ((!false) = true → ((List.length ([] : List D53) + List.length p0 : Nat) : Int) ≤ 4294967296)), (bif false then [] else (([] : List D53) ++ p0)))
def f34c_ok (p0 : (List D53)) : Prop := (f34ct p0).1
def f34c (p0 : (List D53)) : (List D53) := (f34ct p0).2
instance (p0 : (List D53)) : Decidable (f34c_ok p0) := by
 unfold f34c_ok f34ct
 try dsimp only
 infer_instance
def f34c_spec : Am.Spec := fnSpec [(0, (.val (.sl T53)))] (.own T53 0 false) [] (fun x => f34c_ok x.1) (fun x => f34c x.1) (fun _ => ())
def f34c_ctx : Ctx := Cx tys [] [] [(7, [(4, 0, 7, 0)])] false 8 [] []
theorem f34c_cok : CtxOk Tryz.prog f34c_ctx := ctxOk_mk tys_ok rfl trivial rfl (by kernel_rfl)
theorem f34c_is : SpecOk Tryz.prog 34 f34c_spec := fgen f34c_cok mixed Tryz.func34 (by kernel_rfl) (bs := []) (by kernel_rfl) trivial fun x => by kernel_rfl
def f34 (p0 : (List D53)) : (List D53) := p0
def f34_ok (p0 : (List D53)) : Prop := (List.length p0 : Int) ≤ 4294967296
instance (p0 : (List D53)) : Decidable (f34_ok p0) := by
  unfold f34_ok
  infer_instance
def f34_ps : List (Nat × Sh) := [(0, (.val (.sl T53)))]
def f34_rs : Sh := (.own T53 0 false)
def f34_os : List (Nat × Sh) := []
def f34_spec : Am.Spec := fnSpec f34_ps f34_rs f34_os (fun x => f34_ok x.1) (fun x => f34 x.1) (fun _ => ())
theorem f34_is : SpecOk Tryz.prog 34 f34_spec := nil_cases (rs := f34_rs) (F := f34) (ok := f34_ok) f34a_is f34b_is f34c_is (of_decide_eq_true (by kernel_rfl)) (of_decide_eq_true (by kernel_rfl)) (fun l h hp => ⟨hp, fun _ => by simpa [f34_ok] using h⟩) rfl rfl (fun _ => rfl)
def f35at (p0 : Unit) : Prop × (List D58) :=
 (((!true) = true → ((List.length ([] : List D58) + List.length ([] : List D58) : Nat) : Int) ≤ 4294967296), (bif true then [] else (([] : List D58) ++ ([] : List D58))))
def f35a_ok (p0 : Unit) : Prop := (f35at p0).1
def f35a (p0 : Unit) : (List D58) := (f35at p0).2
instance (p0 : Unit) : Decidable (f35a_ok p0) := by
 unfold f35a_ok f35at
 try dsimp only
 infer_instance
def f35a_spec : Am.Spec := fnSpec [(0, (.nn true))] (.own T58 0 false) [] (fun x => f35a_ok x.1) (fun x => f35a x.1) (fun _ => ())
def f35a_ctx : Ctx := Cx tys [] [] [(7, [(4, 0, 7, 0)])] false 8 [] []
theorem f35a_cok : CtxOk Tryz.prog f35a_ctx := ctxOk_mk tys_ok rfl trivial rfl (by kernel_rfl)
theorem f35a_is : SpecOk Tryz.prog 35 f35a_spec := fgen f35a_cok mixed Tryz.func35 (by kernel_rfl) (bs := []) (by kernel_rfl) trivial fun x => by kernel_rfl
def f35bt (p0 : Unit) : Prop × (List D58) :=
 (((!false) = true → ((List.length ([] : List D58) + List.length ([] : List D58) : Nat) : Int) ≤ 4294967296), (bif false then [] else (([] : List D58) ++ ([] : List D58))))
def f35b_ok (p0 : Unit) : Prop := (f35bt p0).1
def f35b (p0 : Unit) : (List D58) := (f35bt p0).2
instance (p0 : Unit) : Decidable (f35b_ok p0) := by
 unfold f35b_ok f35bt
 try dsimp only
 infer_instance
def f35b_spec : Am.Spec := fnSpec [(0, (.nn false))] (.own T58 0 false) [] (fun x => f35b_ok x.1) (fun x => f35b x.1) (fun _ => ())
def f35b_ctx : Ctx := Cx tys [] [] [(7, [(4, 0, 7, 0)])] false 8 [] []
theorem f35b_cok : CtxOk Tryz.prog f35b_ctx := ctxOk_mk tys_ok rfl trivial rfl (by kernel_rfl)
theorem f35b_is : SpecOk Tryz.prog 35 f35b_spec := fgen f35b_cok mixed Tryz.func35 (by kernel_rfl) (bs := []) (by kernel_rfl) trivial fun x => by kernel_rfl
def f35ct (p0 : (List D58)) : Prop × (List D58) :=
 ((0 < List.length p0 ∧ ((!false) = true → ((List.length ([] : List D58) + List.length p0 : Nat) : Int) ≤ 4294967296)), (bif false then [] else (([] : List D58) ++ p0)))
def f35c_ok (p0 : (List D58)) : Prop := (f35ct p0).1
def f35c (p0 : (List D58)) : (List D58) := (f35ct p0).2
instance (p0 : (List D58)) : Decidable (f35c_ok p0) := by
 unfold f35c_ok f35ct
 try dsimp only
 infer_instance
def f35c_spec : Am.Spec := fnSpec [(0, (.val (.sl T58)))] (.own T58 0 false) [] (fun x => f35c_ok x.1) (fun x => f35c x.1) (fun _ => ())
def f35c_ctx : Ctx := Cx tys [] [] [(7, [(4, 0, 7, 0)])] false 8 [] []
theorem f35c_cok : CtxOk Tryz.prog f35c_ctx := ctxOk_mk tys_ok rfl trivial rfl (by kernel_rfl)
theorem f35c_is : SpecOk Tryz.prog 35 f35c_spec := fgen f35c_cok mixed Tryz.func35 (by kernel_rfl) (bs := []) (by kernel_rfl) trivial fun x => by kernel_rfl
def f35 (p0 : (List D58)) : (List D58) := p0
def f35_ok (p0 : (List D58)) : Prop := (List.length p0 : Int) ≤ 4294967296
instance (p0 : (List D58)) : Decidable (f35_ok p0) := by
  unfold f35_ok
  infer_instance
def f35_ps : List (Nat × Sh) := [(0, (.val (.sl T58)))]
def f35_rs : Sh := (.own T58 0 false)
def f35_os : List (Nat × Sh) := []
def f35_spec : Am.Spec := fnSpec f35_ps f35_rs f35_os (fun x => f35_ok x.1) (fun x => f35 x.1) (fun _ => ())
theorem f35_is : SpecOk Tryz.prog 35 f35_spec := nil_cases (rs := f35_rs) (F := f35) (ok := f35_ok) f35a_is f35b_is f35c_is (of_decide_eq_true (by kernel_rfl)) (of_decide_eq_true (by kernel_rfl)) (fun l h hp => ⟨hp, fun _ => by simpa [f35_ok] using h⟩) rfl rfl (fun _ => rfl)
def f36at (p0 : Unit) : Prop × (List D55) :=
 (((!true) = true → ((List.length ([] : List D55) + List.length ([] : List D55) : Nat) : Int) ≤ 4294967296), (bif true then [] else (([] : List D55) ++ ([] : List D55))))
def f36a_ok (p0 : Unit) : Prop := (f36at p0).1
def f36a (p0 : Unit) : (List D55) := (f36at p0).2
instance (p0 : Unit) : Decidable (f36a_ok p0) := by
 unfold f36a_ok f36at
 try dsimp only
 infer_instance
def f36a_spec : Am.Spec := fnSpec [(0, (.nn true))] (.own T55 0 false) [] (fun x => f36a_ok x.1) (fun x => f36a x.1) (fun _ => ())
def f36a_ctx : Ctx := Cx tys [] [] [(7, [(4, 0, 7, 0)])] false 8 [] []
theorem f36a_cok : CtxOk Tryz.prog f36a_ctx := ctxOk_mk tys_ok rfl trivial rfl (by kernel_rfl)
theorem f36a_is : SpecOk Tryz.prog 36 f36a_spec := fgen f36a_cok mixed Tryz.func36 (by kernel_rfl) (bs := []) (by kernel_rfl) trivial fun x => by kernel_rfl
def f36bt (p0 : Unit) : Prop × (List D55) :=
 (((!false) = true → ((List.length ([] : List D55) + List.length ([] : List D55) : Nat) : Int) ≤ 4294967296), (bif false then [] else (([] : List D55) ++ ([] : List D55))))
def f36b_ok (p0 : Unit) : Prop := (f36bt p0).1
def f36b (p0 : Unit) : (List D55) := (f36bt p0).2
instance (p0 : Unit) : Decidable (f36b_ok p0) := by
 unfold f36b_ok f36bt
 try dsimp only
 infer_instance
def f36b_spec : Am.Spec := fnSpec [(0, (.nn false))] (.own T55 0 false) [] (fun x => f36b_ok x.1) (fun x => f36b x.1) (fun _ => ())
def f36b_ctx : Ctx := Cx tys [] [] [(7, [(4, 0, 7, 0)])] false 8 [] []
theorem f36b_cok : CtxOk Tryz.prog f36b_ctx := ctxOk_mk tys_ok rfl trivial rfl (by kernel_rfl)
theorem f36b_is : SpecOk Tryz.prog 36 f36b_spec := fgen f36b_cok mixed Tryz.func36 (by kernel_rfl) (bs := []) (by kernel_rfl) trivial fun x => by kernel_rfl
def f36ct (p0 : (List D55)) : Prop × (List D55) :=
 ((0 < List.length p0 ∧ ((!false) = true → ((List.length ([] : List D55) + List.length p0 : Nat) : Int) ≤ 4294967296)), (bif false then [] else (([] : List D55) ++ p0)))
def f36c_ok (p0 : (List D55)) : Prop := (f36ct p0).1
def f36c (p0 : (List D55)) : (List D55) := (f36ct p0).2
instance (p0 : (List D55)) : Decidable (f36c_ok p0) := by
 unfold f36c_ok f36ct
 try dsimp only
 infer_instance
def f36c_spec : Am.Spec := fnSpec [(0, (.val (.sl T55)))] (.own T55 0 false) [] (fun x => f36c_ok x.1) (fun x => f36c x.1) (fun _ => ())
def f36c_ctx : Ctx := Cx tys [] [] [(7, [(4, 0, 7, 0)])] false 8 [] []
theorem f36c_cok : CtxOk Tryz.prog f36c_ctx := ctxOk_mk tys_ok rfl trivial rfl (by kernel_rfl)
theorem f36c_is : SpecOk Tryz.prog 36 f36c_spec := fgen f36c_cok mixed Tryz.func36 (by kernel_rfl) (bs := []) (by kernel_rfl) trivial fun x => by kernel_rfl
def f36 (p0 : (List D55)) : (List D55) := p0
def f36_ok (p0 : (List D55)) : Prop := (List.length p0 : Int) ≤ 4294967296
instance (p0 : (List D55)) : Decidable (f36_ok p0) := by
  unfold f36_ok
  infer_instance
def f36_ps : List (Nat × Sh) := [(0, (.val (.sl T55)))]
def f36_rs : Sh := (.own T55 0 false)
def f36_os : List (Nat × Sh) := []
def f36_spec : Am.Spec := fnSpec f36_ps f36_rs f36_os (fun x => f36_ok x.1) (fun x => f36 x.1) (fun _ => ())
theorem f36_is : SpecOk Tryz.prog 36 f36_spec := nil_cases (rs := f36_rs) (F := f36) (ok := f36_ok) f36a_is f36b_is f36c_is (of_decide_eq_true (by kernel_rfl)) (of_decide_eq_true (by kernel_rfl)) (fun l h hp => ⟨hp, fun _ => by simpa [f36_ok] using h⟩) rfl rfl (fun _ => rfl)
def f13t (p0 : D37) (p1 : D37) : Prop × (D37 × Int × Unit) :=
 let v10 := (p0.2.1 != p1.2.1)
 let s_20 := (p1.2.2.2.2.2.2.2.2.2.2.2.2.2.2.2.2.2.2.2.2.2.2.2.2.2.2.2.1.1, p1.2.2.2.2.2.2.2.2.2.2.2.2.2.2.2.2.2.2.2.2.2.2.2.2.2.2.2.1.2.1, p1.2.2.2.2.2.2.2.2.2.2.2.2.2.2.2.2.2.2.2.2.2.2.2.2.2.2.2.1.2.2.1, (f36 p1.2.2.2.2.2.2.2.2.2.2.2.2.2.2.2.2.2.2.2.2.2.2.2.2.2.2.2.1.2.2.2.1), ())
 let s_21 := (p0.1, p0.2.1, p0.2.2.1, p0.2.2.2.1, p0.2.2.2.2.1, p0.2.2.2.2.2.1, p0.2.2.2.2.2.2.1, p0.2.2.2.2.2.2.2.1, p0.2.2.2.2.2.2.2.2.1, (p0.2.2.2.2.2.2.2.2.2.1.1, p0.2.2.2.2.2.2.2.2.2.1.2.1, (f32 p0.2.2.2.2.2.2.2.2.2.1.2.2.1), ()), p0.2.2.2.2.2.2.2.2.2.2.1, p0.2.2.2.2.2.2.2.2.2.2.2.1, (p1.2.2.2.2.2.2.2.2.2.2.2.2.1.1, p1.2.2.2.2.2.2.2.2.2.2.2.2.1.2.1, (f33 p1.2.2.2.2.2.2.2.2.2.2.2.2.1.2.2.1), ()), p1.2.2.2.2.2.2.2.2.2.2.2.2.2.1, p1.2.2.2.2.2.2.2.2.2.2.2.2.2.2.1, (f32 p1.2.2.2.2.2.2.2.2.2.2.2.2.2.2.2.1), p1.2.2.2.2.2.2.2.2.2.2.2.2.2.2.2.2.1, (f34 p1.2.2.2.2.2.2.2.2.2.2.2.2.2.2.2.2.2.1), (f35 p1.2.2.2.2.2.2.2.2.2.2.2.2.2.2.2.2.2.2.1), p1.2.2.2.2.2.2.2.2.2.2.2.2.2.2.2.2.2.2.2.1, p1.2.2.2.2.2.2.2.2.2.2.2.2.2.2.2.2.2.2.2.2.1, p1.2.2.2.2.2.2.2.2.2.2.2.2.2.2.2.2.2.2.2.2.2.1, p1.2.2.2.2.2.2.2.2.2.2.2.2.2.2.2.2.2.2.2.2.2.2.1, p1.2.2.2.2.2.2.2.2.2.2.2.2.2.2.2.2.2.2.2.2.2.2.2.1, p1.2.2.2.2.2.2.2.2.2.2.2.2.2.2.2.2.2.2.2.2.2.2.2.2.1, p1.2.2.2.2.2.2.2.2.2.2.2.2.2.2.2.2.2.2.2.2.2.2.2.2.2.1, p1.2.2.2.2.2.2.2.2.2.2.2.2.2.2.2.2.2.2.2.2.2.2.2.2.2.2.1, s_20, ())
 let s_25 := ((0 : Int), (0 : Int), (0 : Int), ([] : List UInt8), false, false, false, (0 : Int), (0 : Int), ((0 : Int), (0 : Int), ([] : List Int), ()), Z25, (0 : Int), ((0 : Int), (0 : Int), ([] : List D30), ()), Z30, (0 : Int), ([] : List Int), (0 : Int), ([] : List D53), ([] : List D58), (0 : Int), (0 : Int), (0 : Int), (0 : Int), ([] : List UInt8), (0 : Int), (0 : Int), (0 : Int), ((0 : Int), (0 : Int), (0 : Int), ([] : List D55), ()), ())
 (((!v10) = true → ((f32_ok p0.2.2.2.2.2.2.2.2.2.1.2.2.1) ∧ ((f33_ok p1.2.2.2.2.2.2.2.2.2.2.2.2.1.2.2.1) ∧ ((f32_ok p1.2.2.2.2.2.2.2.2.2.2.2.2.2.2.2.1) ∧ ((f34_ok p1.2.2.2.2.2.2.2.2.2.2.2.2.2.2.2.2.2.1) ∧ ((f35_ok p1.2.2.2.2.2.2.2.2.2.2.2.2.2.2.2.2.2.2.1) ∧ (f36_ok p1.2.2.2.2.2.2.2.2.2.2.2.2.2.2.2.2.2.2.2.2.2.2.2.2.2.2.2.1.2.2.2.1))))))), ((bif v10 then s_25 else s_21), (bif v10 then (8 : Int) else (0 : Int)), ()))
def f13_ok (p0 : D37) (p1 : D37) : Prop := (f13t p0 p1).1
def f13 (p0 : D37) (p1 : D37) : (D37 × Int × Unit) := (f13t p0 p1).2
instance (p0 : D37) (p1 : D37) : Decidable (f13_ok p0 p1) := by
 unfold f13_ok f13t
 try dsimp only
 infer_instance
def f13_spec : Am.Spec := fnSpec [(0, (.val T37)), (1, (.val T37))] (.tup (.cons (.val T37) (.cons vI .nl))) [] (fun x => f13_ok x.1 x.2.1) (fun x => f13 x.1 x.2.1) (fun _ => ())
def f13_ctx : Ctx := Cx tys [(32, f32_spec), (33, f33_spec), (34, f34_spec), (35, f35_spec), (36, f36_spec)] [] [] false 82 [] []
theorem f13_cok : CtxOk Tryz.prog f13_ctx := ctxOk_mk tys_ok rfl ⟨f32_is, f33_is, f34_is, f35_is, f36_is, trivial⟩ rfl (by kernel_rfl)
theorem f13_is : SpecOk Tryz.prog 13 f13_spec := fgen f13_cok mixed Tryz.func13 (by kernel_rfl) (bs := []) (by kernel_rfl) trivial fun x => by kernel_rfl
def f4t (p0 : D47) (p1 : Int) (p2 : Int) : Prop × Bool :=
 let v17 := (f13 p0.1 p0.1)
 let v21 := (v17.2.1 != 0)
 let v28 := (bif v21 then true else (!(f8 v17.1 p0.1)))
 let v34 := (f13 p0.1 p0.2.1)
 let v38 := (v34.2.1 != 0)
 let v45 := (p0.1.2.1 != p0.2.1.2.1)
 let s_1 := (p0.2.1.1, p0.2.1.2.1, p0.2.1.2.2.1, p0.2.1.2.2.2.1, p0.2.1.2.2.2.2.1, p0.2.1.2.2.2.2.2.1, p0.2.1.2.2.2.2.2.2.1, p0.2.1.2.2.2.2.2.2.2.1, p0.2.1.2.2.2.2.2.2.2.2.1, p0.2.1.2.2.2.2.2.2.2.2.2.1, p0.1.2.2.2.2.2.2.2.2.2.2.1, p0.1.2.2.2.2.2.2.2.2.2.2.2.1, p0.2.1.2.2.2.2.2.2.2.2.2.2.2.2.1, p0.2.1.2.2.2.2.2.2.2.2.2.2.2.2.2.1, p0.2.1.2.2.2.2.2.2.2.2.2.2.2.2.2.2.1, p0.2.1.2.2.2.2.2.2.2.2.2.2.2.2.2.2.2.1, p0.2.1.2.2.2.2.2.2.2.2.2.2.2.2.2.2.2.2.1, p0.2.1.2.2.2.2.2.2.2.2.2.2.2.2.2.2.2.2.2.1, p0.2.1.2.2.2.2.2.2.2.2.2.2.2.2.2.2.2.2.2.2.1, p0.2.1.2.2.2.2.2.2.2.2.2.2.2.2.2.2.2.2.2.2.2.1, p0.2.1.2.2.2.2.2.2.2.2.2.2.2.2.2.2.2.2.2.2.2.2.1, p0.2.1.2.2.2.2.2.2.2.2.2.2.2.2.2.2.2.2.2.2.2.2.2.1, p0.2.1.2.2.2.2.2.2.2.2.2.2.2.2.2.2.2.2.2.2.2.2.2.2.1, p0.2.1.2.2.2.2.2.2.2.2.2.2.2.2.2.2.2.2.2.2.2.2.2.2.2.1, p0.2.1.2.2.2.2.2.2.2.2.2.2.2.2.2.2.2.2.2.2.2.2.2.2.2.2.1, p0.2.1.2.2.2.2.2.2.2.2.2.2.2.2.2.2.2.2.2.2.2.2.2.2.2.2.2.1, p0.2.1.2.2.2.2.2.2.2.2.2.2.2.2.2.2.2.2.2.2.2.2.2.2.2.2.2.2.1, p0.2.1.2.2.2.2.2.2.2.2.2.2.2.2.2.2.2.2.2.2.2.2.2.2.2.2.2.2.2.1, ())
 let s_10 := (p0.2.1.1, v34.1.2.1, p0.2.1.2.2.1, p0.2.1.2.2.2.1, p0.2.1.2.2.2.2.1, p0.2.1.2.2.2.2.2.1, p0.2.1.2.2.2.2.2.2.1, p0.2.1.2.2.2.2.2.2.2.1, p0.2.1.2.2.2.2.2.2.2.2.1, p0.2.1.2.2.2.2.2.2.2.2.2.1, v34.1.2.2.2.2.2.2.2.2.2.2.1, v34.1.2.2.2.2.2.2.2.2.2.2.2.1, v34.1.2.2.2.2.2.2.2.2.2.2.2.2.1, v34.1.2.2.2.2.2.2.2.2.2.2.2.2.2.1, v34.1.2.2.2.2.2.2.2.2.2.2.2.2.2.2.1, v34.1.2.2.2.2.2.2.2.2.2.2.2.2.2.2.2.1, v34.1.2.2.2.2.2.2.2.2.2.2.2.2.2.2.2.2.1, v34.1.2.2.2.2.2.2.2.2.2.2.2.2.2.2.2.2.2.1, v34.1.2.2.2.2.2.2.2.2.2.2.2.2.2.2.2.2.2.2.1, v34.1.2.2.2.2.2.2.2.2.2.2.2.2.2.2.2.2.2.2.2.1, v34.1.2.2.2.2.2.2.2.2.2.2.2.2.2.2.2.2.2.2.2.2.1, v34.1.2.2.2.2.2.2.2.2.2.2.2.2.2.2.2.2.2.2.2.2.2.1, v34.1.2.2.2.2.2.2.2.2.2.2.2.2.2.2.2.2.2.2.2.2.2.2.1, v34.1.2.2.2.2.2.2.2.2.2.2.2.2.2.2.2.2.2.2.2.2.2.2.2.1, v34.1.2.2.2.2.2.2.2.2.2.2.2.2.2.2.2.2.2.2.2.2.2.2.2.2.1, v34.1.2.2.2.2.2.2.2.2.2.2.2.2.2.2.2.2.2.2.2.2.2.2.2.2.2.1, v34.1.2.2.2.2.2.2.2.2.2.2.2.2.2.2.2.2.2.2.2.2.2.2.2.2.2.2.1, v34.1.2.2.2.2.2.2.2.2.2.2.2.2.2.2.2.2.2.2.2.2.2.2.2.2.2.2.2.1, ())
 let v122 := (bif (bif (bif (bif (!(f8 s_1 s_10)) then true else (v34.1.1 != p0.1.1)) then true else (!(v34.1.2.2.2.1 == p0.1.2.2.2.1))) then true else (v34.1.2.2.2.2.2.2.2.1 != p0.1.2.2.2.2.2.2.2.1)) then true else (!(Ty.eqb T25 v34.1.2.2.2.2.2.2.2.2.2.2.1 p0.1.2.2.2.2.2.2.2.2.2.2.1)))
 let v129 := (Ty.eqb T25 p0.1.2.2.2.2.2.2.2.2.2.2.1 p0.2.1.2.2.2.2.2.2.2.2.2.2.1)
 let v137 := (bif v129 then ((f11 p0.1 p1 p2) == 0) else false)
 let v145 := (bif v137 then ((f11 p0.2.1 p1 p2) == 0) else false)
 let v152 := (bif v145 then ((f11 v34.1 p1 p2) != 0) else false)
 (((f13_ok p0.1 p0.1) ∧ (((!v21) = true → (f8_ok v17.1 p0.1)) ∧ ((!v28) = true → ((f13_ok p0.1 p0.2.1) ∧ ((v38 = true → (v45 = true → f12_ok)) ∧ ((!v38) = true → ((f8_ok s_1 s_10) ∧ ((!v122) = true → ((v129 = true → (f11_ok p0.1 p1 p2)) ∧ ((v137 = true → (f11_ok p0.2.1 p1 p2)) ∧ ((v145 = true → (f11_ok v34.1 p1 p2)) ∧ ((!v152) = true → f12_ok)))))))))))), (bif v28 then false else (bif v38 then (bif v45 then f12 else false) else (bif v122 then false else (bif v152 then false else f12)))))
def f4_ok (p0 : D47) (p1 : Int) (p2 : Int) : Prop := (f4t p0 p1 p2).1
def f4 (p0 : D47) (p1 : Int) (p2 : Int) : Bool := (f4t p0 p1 p2).2
instance (p0 : D47) (p1 : Int) (p2 : Int) : Decidable (f4_ok p0 p1 p2) := by
 unfold f4_ok f4t
 try dsimp only
 infer_instance
def f4_spec : Am.Spec := fnSpec [(0, (.val T47)), (1, vI), (2, vI)] vB [] (fun x => f4_ok x.1 x.2.1 x.2.2.1) (fun x => f4 x.1 x.2.1 x.2.2.1) (fun _ => ())
def f4_ctx : Ctx := Cx tys [(8, f8_spec), (11, f11_spec), (12, f12_spec), (13, f13_spec)] [] [] false 154 [] []
theorem f4_cok : CtxOk Tryz.prog f4_ctx := ctxOk_mk tys_ok rfl ⟨f8_is, f11_is, f12_is, f13_is, trivial⟩ rfl (by kernel_rfl)
theorem f4_is : SpecOk Tryz.prog 4 f4_spec := fgen f4_cok mixed Tryz.func4 (by kernel_rfl) (bs := []) (by kernel_rfl) trivial fun x => by kernel_rfl
abbrev f37_L4_Y : Type := ((List Int) × (List Int) × Int × Unit)
abbrev f37_L4_X : Type := (Int × Unit)
def f37_L4t (y : f37_L4_Y) (x : f37_L4_X) : Prop × Bool × f37_L4_X × Bool × Bool :=
 let a0 := y.1
 let a1 := y.2.1
 let a13 := x.1
 let v14 := (decide (a13 < y.2.2.1))
 let v24 := ((nth a0 a13 (0 : Int)) != (nth a1 a13 (0 : Int)))
 ((v14 = true → (InB a13 (len a0) ∧ (InB a13 (len a1) ∧ ((!v24) = true → InR (a13 + 1))))), (v14 && (!v24)), ((a13 + 1), ()), (v14 && v24), (!v14))
def f37_L4_ok (y : f37_L4_Y) (x : f37_L4_X) : Prop := (f37_L4t y x).1
def f37_L4_g (y : f37_L4_Y) (x : f37_L4_X) : Bool := (f37_L4t y x).2.1
def f37_L4_next (y : f37_L4_Y) (x : f37_L4_X) : f37_L4_X := (f37_L4t y x).2.2.1
def f37_L4_e1 (y : f37_L4_Y) (x : f37_L4_X) : Bool := (f37_L4t y x).2.2.2.1
def f37_L4_e2 (y : f37_L4_Y) (x : f37_L4_X) : Bool := (f37_L4t y x).2.2.2.2
instance (y : f37_L4_Y) (x : f37_L4_X) : Decidable (f37_L4_ok y x) := by
 unfold f37_L4_ok f37_L4t
 try dsimp only
 infer_instance
def f37_L4_x1_0 (y : f37_L4_Y) (x : f37_L4_X) : Bool :=
 false
def f37_L4_spec : St → Option Out := loopS [(0, (.val (.sl (.int .i64)))), (1, (.val (.sl (.int .i64)))), (12, vI)] [(13, vI)] f37_L4_g f37_L4_next f37_L4_ok fun y x => [ex 1 (some (f37_L4_e1 y x)) [(4, vB)] ((f37_L4_x1_0 y x), ()), ex 2 (some (f37_L4_e2 y x)) [] ()]
def f37t (p0 : (List Int)) (p1 : (List Int)) : Prop × Bool :=
 let v10 := ((len p0) != (len p1))
 let y4 := (p0, p1, (len p0), ())
 let x4 := ((0 : Int), ())
 let e4 := (loopEnd (f37_L4_g y4) (f37_L4_next y4) x4)
 (((!v10) = true → (Am.Ends (f37_L4_g y4) (f37_L4_next y4) (f37_L4_ok y4) x4)), (bif v10 then false else (bif (f37_L4_e1 y4 e4) then (f37_L4_x1_0 y4 e4) else true)))
def f37_ok (p0 : (List Int)) (p1 : (List Int)) : Prop := (f37t p0 p1).1
def f37 (p0 : (List Int)) (p1 : (List Int)) : Bool := (f37t p0 p1).2
instance (p0 : (List Int)) (p1 : (List Int)) : Decidable (f37_ok p0 p1) := by
 unfold f37_ok f37t
 try dsimp only
 infer_instance
def f37_spec : Am.Spec := fnSpec [(0, (.val (.sl (.int .i64)))), (1, (.val (.sl (.int .i64))))] vB [] (fun x => f37_ok x.1 x.2.1) (fun x => f37 x.1 x.2.1) (fun _ => ())
def f37_ctx : Ctx := Cx tys [] [(4, f37_L4_spec)] [] false 26 [] []
theorem f37_cok : CtxOk Tryz.prog f37_ctx := ctxOk_mk tys_ok rfl trivial rfl (by kernel_rfl)
noncomputable def f37_code : Code := Tryz.f37.body.getD .skip
noncomputable def f37_L4 : Code := nthLoop f37_code 0
theorem f37_L4_is : LoopSnd Tryz.prog f37_ctx f37_L4 := lgen f37_cok mixed (sp := f37_L4_spec) rfl [[(4, vB)], []] (bs := []) (by kernel_rfl) trivial (by kernel_rfl) (by kernel_rfl) fun y x => by kernel_rfl
theorem f37_is : SpecOk Tryz.prog 37 f37_spec := fgen f37_cok mixed Tryz.func37 (by kernel_rfl) (bs := [f37_L4]) (by kernel_rfl) ⟨f37_L4_is, trivial⟩ fun x => by kernel_rfl
abbrev f90_L4_Y : Type := ((List D30) × (List D30) × Int × Unit)
abbrev f90_L4_X : Type := (Int × Unit)
def f90_L4t (y : f90_L4_Y) (x : f90_L4_X) : Prop × Bool × f90_L4_X × Bool × Bool :=
 let a0 := y.1
 let a1 := y.2.1
 let a13 := x.1
 let v14 := (decide (a13 < y.2.2.1))
 let v24 := (!(Ty.eqb T30 (nth a0 a13 Z30) (nth a1 a13 Z30)))
 ((v14 = true → (InB a13 (len a0) ∧ (InB a13 (len a1) ∧ ((!v24) = true → InR (a13 + 1))))), (v14 && (!v24)), ((a13 + 1), ()), (v14 && v24), (!v14))
def f90_L4_ok (y : f90_L4_Y) (x : f90_L4_X) : Prop := (f90_L4t y x).1
def f90_L4_g (y : f90_L4_Y) (x : f90_L4_X) : Bool := (f90_L4t y x).2.1
def f90_L4_next (y : f90_L4_Y) (x : f90_L4_X) : f90_L4_X := (f90_L4t y x).2.2.1
def f90_L4_e1 (y : f90_L4_Y) (x : f90_L4_X) : Bool := (f90_L4t y x).2.2.2.1
def f90_L4_e2 (y : f90_L4_Y) (x : f90_L4_X) : Bool := (f90_L4t y x).2.2.2.2
instance (y : f90_L4_Y) (x : f90_L4_X) : Decidable (f90_L4_ok y x) := by
 unfold f90_L4_ok f90_L4t
 try dsimp only
 infer_instance
def f90_L4_x1_0 (y : f90_L4_Y) (x : f90_L4_X) : Bool :=
 false
def f90_L4_spec : St → Option Out := loopS [(0, (.val (.sl T30))), (1, (.val (.sl T30))), (12, vI)] [(13, vI)] f90_L4_g f90_L4_next f90_L4_ok fun y x => [ex 1 (some (f90_L4_e1 y x)) [(4, vB)] ((f90_L4_x1_0 y x), ()), ex 2 (some (f90_L4_e2 y x)) [] ()]
def f90t (p0 : (List D30)) (p1 : (List D30)) : Prop × Bool :=
 let v10 := ((len p0) != (len p1))
 let y4 := (p0, p1, (len p0), ())
 let x4 := ((0 : Int), ())
 let e4 := (loopEnd (f90_L4_g y4) (f90_L4_next y4) x4)
 (((!v10) = true → (Am.Ends (f90_L4_g y4) (f90_L4_next y4) (f90_L4_ok y4) x4)), (bif v10 then false else (bif (f90_L4_e1 y4 e4) then (f90_L4_x1_0 y4 e4) else true)))
def f90_ok (p0 : (List D30)) (p1 : (List D30)) : Prop := (f90t p0 p1).1
def f90 (p0 : (List D30)) (p1 : (List D30)) : Bool := (f90t p0 p1).2
instance (p0 : (List D30)) (p1 : (List D30)) : Decidable (f90_ok p0 p1) := by
 unfold f90_ok f90t
 try dsimp only
 infer_instance
def f90_spec : Am.Spec := fnSpec [(0, (.val (.sl T30))), (1, (.val (.sl T30)))] vB [] (fun x => f90_ok x.1 x.2.1) (fun x => f90 x.1 x.2.1) (fun _ => ())
def f90_ctx : Ctx := Cx tys [] [(4, f90_L4_spec)] [] false 26 [] []
theorem f90_cok : CtxOk Tryz.prog f90_ctx := ctxOk_mk tys_ok rfl trivial rfl (by kernel_rfl)
noncomputable def f90_code : Code := Tryz.f90.body.getD .skip
noncomputable def f90_L4 : Code := nthLoop f90_code 0
theorem f90_L4_is : LoopSnd Tryz.prog f90_ctx f90_L4 := lgen f90_cok mixed (sp := f90_L4_spec) rfl [[(4, vB)], []] (bs := []) (by kernel_rfl) trivial (by kernel_rfl) (by kernel_rfl) fun y x => by kernel_rfl
theorem f90_is : SpecOk Tryz.prog 90 f90_spec := fgen f90_cok mixed Tryz.func90 (by kernel_rfl) (bs := [f90_L4]) (by kernel_rfl) ⟨f90_L4_is, trivial⟩ fun x => by kernel_rfl
def f65t (p0 : D28) (p1 : D28) : Prop × Bool :=
 let v16 := (bif (p0.1 == p1.1) then (p0.2.1 == p1.2.1) else false)
 ((v16 = true → (f90_ok p0.2.2.1 p1.2.2.1)), (bif v16 then (f90 p0.2.2.1 p1.2.2.1) else false))
def f65_ok (p0 : D28) (p1 : D28) : Prop := (f65t p0 p1).1
def f65 (p0 : D28) (p1 : D28) : Bool := (f65t p0 p1).2
instance (p0 : D28) (p1 : D28) : Decidable (f65_ok p0 p1) := by
 unfold f65_ok f65t
 try dsimp only
 infer_instance
def f65_spec : Am.Spec := fnSpec [(0, (.val T28)), (1, (.val T28))] vB [] (fun x => f65_ok x.1 x.2.1) (fun x => f65 x.1 x.2.1) (fun _ => ())
def f65_ctx : Ctx := Cx tys [(90, f90_spec)] [] [] false 24 [] []
theorem f65_cok : CtxOk Tryz.prog f65_ctx := ctxOk_mk tys_ok rfl ⟨f90_is, trivial⟩ rfl (by kernel_rfl)
theorem f65_is : SpecOk Tryz.prog 65 f65_spec := fgen f65_cok mixed Tryz.func65 (by kernel_rfl) (bs := []) (by kernel_rfl) trivial fun x => by kernel_rfl
abbrev f66_L4_Y : Type := ((List D53) × (List D53) × Int × Unit)
abbrev f66_L4_X : Type := (Int × Unit)
def f66_L4t (y : f66_L4_Y) (x : f66_L4_X) : Prop × Bool × f66_L4_X × Bool × Bool :=
 let a0 := y.1
 let a1 := y.2.1
 let a13 := x.1
 let v14 := (decide (a13 < y.2.2.1))
 let v24 := (!(Ty.eqb T53 (nth a0 a13 Z53) (nth a1 a13 Z53)))
 ((v14 = true → (InB a13 (len a0) ∧ (InB a13 (len a1) ∧ ((!v24) = true → InR (a13 + 1))))), (v14 && (!v24)), ((a13 + 1), ()), (v14 && v24), (!v14))
def f66_L4_ok (y : f66_L4_Y) (x : f66_L4_X) : Prop := (f66_L4t y x).1
def f66_L4_g (y : f66_L4_Y) (x : f66_L4_X) : Bool := (f66_L4t y x).2.1
def f66_L4_next (y : f66_L4_Y) (x : f66_L4_X) : f66_L4_X := (f66_L4t y x).2.2.1
def f66_L4_e1 (y : f66_L4_Y) (x : f66_L4_X) : Bool := (f66_L4t y x).2.2.2.1
def f66_L4_e2 (y : f66_L4_Y) (x : f66_L4_X) : Bool := (f66_L4t y x).2.2.2.2
instance (y : f66_L4_Y) (x : f66_L4_X) : Decidable (f66_L4_ok y x) := by
 unfold f66_L4_ok f66_L4t
 try dsimp only
 infer_instance
def f66_L4_x1_0 (y : f66_L4_Y) (x : f66_L4_X) : Bool :=
 false
def f66_L4_spec : St → Option Out := loopS [(0, (.val (.sl T53))), (1, (.val (.sl T53))), (12, vI)] [(13, vI)] f66_L4_g f66_L4_next f66_L4_ok fun y x => [ex 1 (some (f66_L4_e1 y x)) [(4, vB)] ((f66_L4_x1_0 y x), ()), ex 2 (some (f66_L4_e2 y x)) [] ()]
def f66t (p0 : (List D53)) (p1 : (List D53)) : Prop × Bool :=
 let v10 := ((len p0) != (len p1))
 let y4 := (p0, p1, (len p0), ())
 let x4 := ((0 : Int), ())
 let e4 := (loopEnd (f66_L4_g y4) (f66_L4_next y4) x4)
 (((!v10) = true → (Am.Ends (f66_L4_g y4) (f66_L4_next y4) (f66_L4_ok y4) x4)), (bif v10 then false else (bif (f66_L4_e1 y4 e4) then (f66_L4_x1_0 y4 e4) else true)))
def f66_ok (p0 : (List D53)) (p1 : (List D53)) : Prop := (f66t p0 p1).1
def f66 (p0 : (List D53)) (p1 : (List D53)) : Bool := (f66t p0 p1).2
instance (p0 : (List D53)) (p1 : (List D53)) : Decidable (f66_ok p0 p1) := by
 unfold f66_ok f66t
 try dsimp only
 infer_instance
def f66_spec : Am.Spec := fnSpec [(0, (.val (.sl T53))), (1, (.val (.sl T53)))] vB [] (fun x => f66_ok x.1 x.2.1) (fun x => f66 x.1 x.2.1) (fun _ => ())
def f66_ctx : Ctx := Cx tys [] [(4, f66_L4_spec)] [] false 26 [] []
theorem f66_cok : CtxOk Tryz.prog f66_ctx := ctxOk_mk tys_ok rfl trivial rfl (by kernel_rfl)
noncomputable def f66_code : Code := Tryz.f66.body.getD .skip
noncomputable def f66_L4 : Code := nthLoop f66_code 0
theorem f66_L4_is : LoopSnd Tryz.prog f66_ctx f66_L4 := lgen f66_cok mixed (sp := f66_L4_spec) rfl [[(4, vB)], []] (bs := []) (by kernel_rfl) trivial (by kernel_rfl) (by kernel_rfl) fun y x => by kernel_rfl
theorem f66_is : SpecOk Tryz.prog 66 f66_spec := fgen f66_cok mixed Tryz.func66 (by kernel_rfl) (bs := [f66_L4]) (by kernel_rfl) ⟨f66_L4_is, trivial⟩ fun x => by kernel_rfl
abbrev f67_L4_Y : Type := ((List D58) × (List D58) × Int × Unit)
abbrev f67_L4_X : Type := (Int × Unit)
def f67_L4t (y : f67_L4_Y) (x : f67_L4_X) : Prop × Bool × f67_L4_X × Bool × Bool :=
 let a0 := y.1
 let a1 := y.2.1
 let a13 := x.1
 let v14 := (decide (a13 < y.2.2.1))
 let v24 := (!(Ty.eqb T58 (nth a0 a13 Z58) (nth a1 a13 Z58)))
 ((v14 = true → (InB a13 (len a0) ∧ (InB a13 (len a1) ∧ ((!v24) = true → InR (a13 + 1))))), (v14 && (!v24)), ((a13 + 1), ()), (v14 && v24), (!v14))
def f67_L4_ok (y : f67_L4_Y) (x : f67_L4_X) : Prop := (f67_L4t y x).1
def f67_L4_g (y : f67_L4_Y) (x : f67_L4_X) : Bool := (f67_L4t y x).2.1
def f67_L4_next (y : f67_L4_Y) (x : f67_L4_X) : f67_L4_X := (f67_L4t y x).2.2.1
def f67_L4_e1 (y : f67_L4_Y) (x : f67_L4_X) : Bool := (f67_L4t y x).2.2.2.1
def f67_L4_e2 (y : f67_L4_Y) (x : f67_L4_X) : Bool := (f67_L4t y x).2.2.2.2
instance (y : f67_L4_Y) (x : f67_L4_X) : Decidable (f67_L4_ok y x) := by
 unfold f67_L4_ok f67_L4t
 try dsimp only
 infer_instance
def f67_L4_x1_0 (y : f67_L4_Y) (x : f67_L4_X) : Bool :=
 false
def f67_L4_spec : St → Option Out := loopS [(0, (.val (.sl T58))), (1, (.val (.sl T58))), (12, vI)] [(13, vI)] f67_L4_g f67_L4_next f67_L4_ok fun y x => [ex 1 (some (f67_L4_e1 y x)) [(4, vB)] ((f67_L4_x1_0 y x), ()), ex 2 (some (f67_L4_e2 y x)) [] ()]
def f67t (p0 : (List D58)) (p1 : (List D58)) : Prop × Bool :=
 let v10 := ((len p0) != (len p1))
 let y4 := (p0, p1, (len p0), ())
 let x4 := ((0 : Int), ())
 let e4 := (loopEnd (f67_L4_g y4) (f67_L4_next y4) x4)
 (((!v10) = true → (Am.Ends (f67_L4_g y4) (f67_L4_next y4) (f67_L4_ok y4) x4)), (bif v10 then false else (bif (f67_L4_e1 y4 e4) then (f67_L4_x1_0 y4 e4) else true)))
def f67_ok (p0 : (List D58)) (p1 : (List D58)) : Prop := (f67t p0 p1).1
def f67 (p0 : (List D58)) (p1 : (List D58)) : Bool := (f67t p0 p1).2
instance (p0 : (List D58)) (p1 : (List D58)) : Decidable (f67_ok p0 p1) := by
 unfold f67_ok f67t
 try dsimp only
 infer_instance
def f67_spec : Am.Spec := fnSpec [(0, (.val (.sl T58))), (1, (.val (.sl T58)))] vB [] (fun x => f67_ok x.1 x.2.1) (fun x => f67 x.1 x.2.1) (fun _ => ())
def f67_ctx : Ctx := Cx tys [] [(4, f67_L4_spec)] [] false 26 [] []
theorem f67_cok : CtxOk Tryz.prog f67_ctx := ctxOk_mk tys_ok rfl trivial rfl (by kernel_rfl)
noncomputable def f67_code : Code := Tryz.f67.body.getD .skip
noncomputable def f67_L4 : Code := nthLoop f67_code 0
theorem f67_L4_is : LoopSnd Tryz.prog f67_ctx f67_L4 := lgen f67_cok mixed (sp := f67_L4_spec) rfl [[(4, vB)], []] (bs := []) (by kernel_rfl) trivial (by kernel_rfl) (by kernel_rfl) fun y x => by kernel_rfl
theorem f67_is : SpecOk Tryz.prog 67 f67_spec := fgen f67_cok mixed Tryz.func67 (by kernel_rfl) (bs := [f67_L4]) (by kernel_rfl) ⟨f67_L4_is, trivial⟩ fun x => by kernel_rfl
abbrev f68_L4_Y : Type := ((List D55) × (List D55) × Int × Unit)
abbrev f68_L4_X : Type := (Int × Unit)
def f68_L4t (y : f68_L4_Y) (x : f68_L4_X) : Prop × Bool × f68_L4_X × Bool × Bool :=
 let a0 := y.1
 let a1 := y.2.1
 let a13 := x.1
 let v14 := (decide (a13 < y.2.2.1))
 let v24 := (!(Ty.eqb T55 (nth a0 a13 Z55) (nth a1 a13 Z55)))
 ((v14 = true → (InB a13 (len a0) ∧ (InB a13 (len a1) ∧ ((!v24) = true → InR (a13 + 1))))), (v14 && (!v24)), ((a13 + 1), ()), (v14 && v24), (!v14))
def f68_L4_ok (y : f68_L4_Y) (x : f68_L4_X) : Prop := (f68_L4t y x).1
def f68_L4_g (y : f68_L4_Y) (x : f68_L4_X) : Bool := (f68_L4t y x).2.1
def f68_L4_next (y : f68_L4_Y) (x : f68_L4_X) : f68_L4_X := (f68_L4t y x).2.2.1
def f68_L4_e1 (y : f68_L4_Y) (x : f68_L4_X) : Bool := (f68_L4t y x).2.2.2.1
def f68_L4_e2 (y : f68_L4_Y) (x : f68_L4_X) : Bool := (f68_L4t y x).2.2.2.2
instance (y : f68_L4_Y) (x : f68_L4_X) : Decidable (f68_L4_ok y x) := by
 unfold f68_L4_ok f68_L4t
 try dsimp only
 infer_instance
def f68_L4_x1_0 (y : f68_L4_Y) (x : f68_L4_X) : Bool :=
 false
def f68_L4_spec : St → Option Out := loopS [(0, (.val (.sl T55))), (1, (.val (.sl T55))), (12, vI)] [(13, vI)] f68_L4_g f68_L4_next f68_L4_ok fun y x => [ex 1 (some (f68_L4_e1 y x)) [(4, vB)] ((f68_L4_x1_0 y x), ()), ex 2 (some (f68_L4_e2 y x)) [] ()]
def f68t (p0 : (List D55)) (p1 : (List D55)) : Prop × Bool :=
 let v10 := ((len p0) != (len p1))
 let y4 := (p0, p1, (len p0), ())
 let x4 := ((0 : Int), ())
 let e4 := (loopEnd (f68_L4_g y4) (f68_L4_next y4) x4)
 (((!v10) = true → (Am.Ends (f68_L4_g y4) (f68_L4_next y4) (f68_L4_ok y4) x4)), (bif v10 then false else (bif (f68_L4_e1 y4 e4) then (f68_L4_x1_0 y4 e4) else true)))
def f68_ok (p0 : (List D55)) (p1 : (List D55)) : Prop := (f68t p0 p1).1
def f68 (p0 : (List D55)) (p1 : (List D55)) : Bool := (f68t p0 p1).2
instance (p0 : (List D55)) (p1 : (List D55)) : Decidable (f68_ok p0 p1) := by
 unfold f68_ok f68t
 try dsimp only
 infer_instance
def f68_spec : Am.Spec := fnSpec [(0, (.val (.sl T55))), (1, (.val (.sl T55)))] vB [] (fun x => f68_ok x.1 x.2.1) (fun x => f68 x.1 x.2.1) (fun _ => ())
def f68_ctx : Ctx := Cx tys [] [(4, f68_L4_spec)] [] false 26 [] []
theorem f68_cok : CtxOk Tryz.prog f68_ctx := ctxOk_mk tys_ok rfl trivial rfl (by kernel_rfl)
noncomputable def f68_code : Code := Tryz.f68.body.getD .skip
noncomputable def f68_L4 : Code := nthLoop f68_code 0
theorem f68_L4_is : LoopSnd Tryz.prog f68_ctx f68_L4 := lgen f68_cok mixed (sp := f68_L4_spec) rfl [[(4, vB)], []] (bs := []) (by kernel_rfl) trivial (by kernel_rfl) (by kernel_rfl) fun y x => by kernel_rfl
theorem f68_is : SpecOk Tryz.prog 68 f68_spec := fgen f68_cok mixed Tryz.func68 (by kernel_rfl) (bs := [f68_L4]) (by kernel_rfl) ⟨f68_L4_is, trivial⟩ fun x => by kernel_rfl
def f38t (p0 : D37) (p1 : D37) : Prop × Bool :=
 let v17 := (bif (!(f65 p0.2.2.2.2.2.2.2.2.2.2.2.2.1 p1.2.2.2.2.2.2.2.2.2.2.2.2.1)) then true else (!(Ty.eqb T30 p0.2.2.2.2.2.2.2.2.2.2.2.2.2.1 p1.2.2.2.2.2.2.2.2.2.2.2.2.2.1)))
 let v29 := (bif (p0.2.2.2.2.2.2.2.2.2.2.2.2.2.2.1 != p1.2.2.2.2.2.2.2.2.2.2.2.2.2.2.1) then true else (p0.2.2.2.2.2.2.2.2.2.2.2.2.2.2.2.2.1 != p1.2.2.2.2.2.2.2.2.2.2.2.2.2.2.2.2.1))
 let v35 := (!(f37 p0.2.2.2.2.2.2.2.2.2.2.2.2.2.2.2.1 p1.2.2.2.2.2.2.2.2.2.2.2.2.2.2.2.1))
 let v43 := (bif v35 then true else (!(f66 p0.2.2.2.2.2.2.2.2.2.2.2.2.2.2.2.2.2.1 p1.2.2.2.2.2.2.2.2.2.2.2.2.2.2.2.2.2.1)))
 let v51 := (bif v43 then true else (!(f67 p0.2.2.2.2.2.2.2.2.2.2.2.2.2.2.2.2.2.2.1 p1.2.2.2.2.2.2.2.2.2.2.2.2.2.2.2.2.2.2.1)))
 let v63 := (bif (p0.2.2.2.2.2.2.2.2.2.2.2.2.2.2.2.2.2.2.2.1 != p1.2.2.2.2.2.2.2.2.2.2.2.2.2.2.2.2.2.2.2.1) then true else (p0.2.2.2.2.2.2.2.2.2.2.2.2.2.2.2.2.2.2.2.2.1 != p1.2.2.2.2.2.2.2.2.2.2.2.2.2.2.2.2.2.2.2.2.1))
 let v77 := (bif (bif v63 then true else (p0.2.2.2.2.2.2.2.2.2.2.2.2.2.2.2.2.2.2.2.2.2.1 != p1.2.2.2.2.2.2.2.2.2.2.2.2.2.2.2.2.2.2.2.2.2.1)) then true else (p0.2.2.2.2.2.2.2.2.2.2.2.2.2.2.2.2.2.2.2.2.2.2.1 != p1.2.2.2.2.2.2.2.2.2.2.2.2.2.2.2.2.2.2.2.2.2.2.1))
 let v89 := (bif (!(p0.2.2.2.2.2.2.2.2.2.2.2.2.2.2.2.2.2.2.2.2.2.2.2.1 == p1.2.2.2.2.2.2.2.2.2.2.2.2.2.2.2.2.2.2.2.2.2.2.2.1)) then true else (p0.2.2.2.2.2.2.2.2.2.2.2.2.2.2.2.2.2.2.2.2.2.2.2.2.1 != p1.2.2.2.2.2.2.2.2.2.2.2.2.2.2.2.2.2.2.2.2.2.2.2.2.1))
 let v103 := (bif (bif v89 then true else (p0.2.2.2.2.2.2.2.2.2.2.2.2.2.2.2.2.2.2.2.2.2.2.2.2.2.1 != p1.2.2.2.2.2.2.2.2.2.2.2.2.2.2.2.2.2.2.2.2.2.2.2.2.2.1)) then true else (p0.2.2.2.2.2.2.2.2.2.2.2.2.2.2.2.2.2.2.2.2.2.2.2.2.2.2.1 != p1.2.2.2.2.2.2.2.2.2.2.2.2.2.2.2.2.2.2.2.2.2.2.2.2.2.2.1))
 let v119 := (bif (p0.2.2.2.2.2.2.2.2.2.2.2.2.2.2.2.2.2.2.2.2.2.2.2.2.2.2.2.1.1 != p1.2.2.2.2.2.2.2.2.2.2.2.2.2.2.2.2.2.2.2.2.2.2.2.2.2.2.2.1.1) then true else (p0.2.2.2.2.2.2.2.2.2.2.2.2.2.2.2.2.2.2.2.2.2.2.2.2.2.2.2.1.2.1 != p1.2.2.2.2.2.2.2.2.2.2.2.2.2.2.2.2.2.2.2.2.2.2.2.2.2.2.2.1.2.1))
 let v128 := (bif v119 then true else (p0.2.2.2.2.2.2.2.2.2.2.2.2.2.2.2.2.2.2.2.2.2.2.2.2.2.2.2.1.2.2.1 != p1.2.2.2.2.2.2.2.2.2.2.2.2.2.2.2.2.2.2.2.2.2.2.2.2.2.2.2.1.2.2.1))
 let m4_2 := (bif v77 then false else (bif v103 then false else (bif v128 then false else (f68 p0.2.2.2.2.2.2.2.2.2.2.2.2.2.2.2.2.2.2.2.2.2.2.2.2.2.2.2.1.2.2.2.1 p1.2.2.2.2.2.2.2.2.2.2.2.2.2.2.2.2.2.2.2.2.2.2.2.2.2.2.2.1.2.2.2.1))))
 (((f65_ok p0.2.2.2.2.2.2.2.2.2.2.2.2.1 p1.2.2.2.2.2.2.2.2.2.2.2.2.1) ∧ ((!v17) = true → ((!v29) = true → ((f37_ok p0.2.2.2.2.2.2.2.2.2.2.2.2.2.2.2.1 p1.2.2.2.2.2.2.2.2.2.2.2.2.2.2.2.1) ∧ (((!v35) = true → (f66_ok p0.2.2.2.2.2.2.2.2.2.2.2.2.2.2.2.2.2.1 p1.2.2.2.2.2.2.2.2.2.2.2.2.2.2.2.2.2.1)) ∧ (((!v43) = true → (f67_ok p0.2.2.2.2.2.2.2.2.2.2.2.2.2.2.2.2.2.2.1 p1.2.2.2.2.2.2.2.2.2.2.2.2.2.2.2.2.2.2.1)) ∧ ((!v51) = true → ((!v77) = true → ((!v103) = true → ((!v128) = true → (f68_ok p0.2.2.2.2.2.2.2.2.2.2.2.2.2.2.2.2.2.2.2.2.2.2.2.2.2.2.2.1.2.2.2.1 p1.2.2.2.2.2.2.2.2.2.2.2.2.2.2.2.2.2.2.2.2.2.2.2.2.2.2.2.1.2.2.2.1))))))))))), (bif v17 then false else (bif v29 then false else (bif v51 then false else m4_2))))
def f38_ok (p0 : D37) (p1 : D37) : Prop := (f38t p0 p1).1
def f38 (p0 : D37) (p1 : D37) : Bool := (f38t p0 p1).2
instance (p0 : D37) (p1 : D37) : Decidable (f38_ok p0 p1) := by
 unfold f38_ok f38t
 try dsimp only
 infer_instance
def f38_spec : Am.Spec := fnSpec [(0, (.val T37)), (1, (.val T37))] vB [] (fun x => f38_ok x.1 x.2.1) (fun x => f38 x.1 x.2.1) (fun _ => ())
def f38_ctx : Ctx := Cx tys [(37, f37_spec), (65, f65_spec), (66, f66_spec), (67, f67_spec), (68, f68_spec)] [] [] false 136 [] []
theorem f38_cok : CtxOk Tryz.prog f38_ctx := ctxOk_mk tys_ok rfl ⟨f37_is, f65_is, f66_is, f67_is, f68_is, trivial⟩ rfl (by kernel_rfl)
theorem f38_is : SpecOk Tryz.prog 38 f38_spec := fgen f38_cok mixed Tryz.func38 (by kernel_rfl) (bs := []) (by kernel_rfl) trivial fun x => by kernel_rfl
def f14t (p0 : D37) (p1 : D37) : Prop × Bool :=
 let v30 := (bif (bif (bif (p0.1 != p1.1) then true else (p0.2.1 != p1.2.1)) then true else (p0.2.2.1 != p1.2.2.1)) then true else (!(p0.2.2.2.1 == p1.2.2.2.1)))
 let v49 := (bif (bif (!(Ty.eqb .bool p0.2.2.2.2.1 p1.2.2.2.2.1)) then true else (!(Ty.eqb .bool p0.2.2.2.2.2.1 p1.2.2.2.2.2.1))) then true else (!(Ty.eqb .bool p0.2.2.2.2.2.2.1 p1.2.2.2.2.2.2.1)))
 let v75 := (bif (bif (bif (p0.2.2.2.2.2.2.2.1 != p1.2.2.2.2.2.2.2.1) then true else (p0.2.2.2.2.2.2.2.2.1 != p1.2.2.2.2.2.2.2.2.1)) then true else (!(Ty.eqb T25 p0.2.2.2.2.2.2.2.2.2.2.1 p1.2.2.2.2.2.2.2.2.2.2.1))) then true else (p0.2.2.2.2.2.2.2.2.2.2.2.1 != p1.2.2.2.2.2.2.2.2.2.2.2.1))
 let v91 := (bif (p0.2.2.2.2.2.2.2.2.2.1.1 != p1.2.2.2.2.2.2.2.2.2.1.1) then true else (p0.2.2.2.2.2.2.2.2.2.1.2.1 != p1.2.2.2.2.2.2.2.2.2.1.2.1))
 let v101 := (bif v91 then true else (!(f37 p0.2.2.2.2.2.2.2.2.2.1.2.2.1 p1.2.2.2.2.2.2.2.2.2.1.2.2.1)))
 (((!v30) = true → ((!v49) = true → ((!v75) = true → (((!v91) = true → (f37_ok p0.2.2.2.2.2.2.2.2.2.1.2.2.1 p1.2.2.2.2.2.2.2.2.2.1.2.2.1)) ∧ ((!v101) = true → (f38_ok p0 p1)))))), (bif v30 then false else (bif v49 then false else (bif v75 then false else (bif v101 then false else (f38 p0 p1))))))
def f14_ok (p0 : D37) (p1 : D37) : Prop := (f14t p0 p1).1
def f14 (p0 : D37) (p1 : D37) : Bool := (f14t p0 p1).2
instance (p0 : D37) (p1 : D37) : Decidable (f14_ok p0 p1) := by
 unfold f14_ok f14t
 try dsimp only
 infer_instance
def f14_spec : Am.Spec := fnSpec [(0, (.val T37)), (1, (.val T37))] vB [] (fun x => f14_ok x.1 x.2.1) (fun x => f14 x.1 x.2.1) (fun _ => ())
def f14_ctx : Ctx := Cx tys [(37, f37_spec), (38, f38_spec)] [] [] false 105 [] []
theorem f14_cok : CtxOk Tryz.prog f14_ctx := ctxOk_mk tys_ok rfl ⟨f37_is, f38_is, trivial⟩ rfl (by kernel_rfl)
theorem f14_is : SpecOk Tryz.prog 14 f14_spec := fgen f14_cok mixed Tryz.func14 (by kernel_rfl) (bs := []) (by kernel_rfl) trivial fun x => by kernel_rfl
end Go.Proofs.YthjoefjcljbapaaGreatDoor.Am
