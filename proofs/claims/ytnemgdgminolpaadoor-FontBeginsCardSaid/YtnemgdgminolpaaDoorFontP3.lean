/- Printed by program: 8. No condition. -/
import Derived.Test.YtnemgdgminolpaaDoorFontP2
set_option linter.unusedVariables false
set_option synthInstance.maxSize 4000
set_option synthInstance.maxHeartbeats 400000
namespace Go.Proofs.YtnemgdgminolpaaDoor.Am
open Go Go.Am Go.Proofs
def f22_L9_g (y : ((List (List D48)) × (List (List D48)) × Int × Unit)) (x : (Int × Unit)) : Bool :=
  let a0 := y.1
  let a1 := y.2.1
  let a5 := y.2.2.1
  let a6 := x.1
  let v32 := (nth a0 a5 ([] : List D48))
  let v34 := (len v32)
  let v35 := (decide (a6 < v34))
  let v40 := (nth a0 a5 ([] : List D48))
  let v43 := (nth v40 a6 Z48)
  let v47 := (nth a1 a5 ([] : List D48))
  let v50 := (nth v47 a6 Z48)
  let v52 := (!(Ty.eqb T48 v43 v50))
  let c := (v35 && (!v52))
  c
def f22_L9_next (y : ((List (List D48)) × (List (List D48)) × Int × Unit)) (x : (Int × Unit)) : (Int × Unit) :=
  let a6 := x.1
  let v37 := (a6 + (1 : Int))
  (v37, ())
def f22_L9_ok (y : ((List (List D48)) × (List (List D48)) × Int × Unit)) (x : (Int × Unit)) : Prop :=
  let a0 := y.1
  let a1 := y.2.1
  let a5 := y.2.2.1
  let a6 := x.1
  let v32 := (nth a0 a5 ([] : List D48))
  let v34 := (len v32)
  let v35 := (decide (a6 < v34))
  let v40 := (nth a0 a5 ([] : List D48))
  let v43 := (nth v40 a6 Z48)
  let v47 := (nth a1 a5 ([] : List D48))
  let v50 := (nth v47 a6 Z48)
  let v52 := (!(Ty.eqb T48 v43 v50))
  (InB a5 (len a0) ∧ (v35 = true → (InB a5 (len a0) ∧ (InB a6 (len v40) ∧ (InB a5 (len a1) ∧ (InB a6 (len v47) ∧ ((!v52) = true → InR (a6 + (1 : Int)))))))))
instance (y : ((List (List D48)) × (List (List D48)) × Int × Unit)) (x : (Int × Unit)) : Decidable (f22_L9_ok y x) := by
  unfold f22_L9_ok
  try dsimp only
  infer_instance
def f22_L9_x1 (y : ((List (List D48)) × (List (List D48)) × Int × Unit)) (x : (Int × Unit)) : (Bool × Unit) :=
  (false, ())
def f22_L9_x1_0 (y : ((List (List D48)) × (List (List D48)) × Int × Unit)) (x : (Int × Unit)) : Bool := (f22_L9_x1 y x).1
def f22_L9_e1 (y : ((List (List D48)) × (List (List D48)) × Int × Unit)) (x : (Int × Unit)) : Bool :=
  let a0 := y.1
  let a1 := y.2.1
  let a5 := y.2.2.1
  let a6 := x.1
  let v32 := (nth a0 a5 ([] : List D48))
  let v34 := (len v32)
  let v35 := (decide (a6 < v34))
  let v40 := (nth a0 a5 ([] : List D48))
  let v43 := (nth v40 a6 Z48)
  let v47 := (nth a1 a5 ([] : List D48))
  let v50 := (nth v47 a6 Z48)
  let v52 := (!(Ty.eqb T48 v43 v50))
  let c_1 := (v35 && v52)
  c_1
def f22_L9_x4 (y : ((List (List D48)) × (List (List D48)) × Int × Unit)) (x : (Int × Unit)) : (Unit) :=
  ()
def f22_L9_e4 (y : ((List (List D48)) × (List (List D48)) × Int × Unit)) (x : (Int × Unit)) : Bool :=
  let a0 := y.1
  let a5 := y.2.2.1
  let a6 := x.1
  let v32 := (nth a0 a5 ([] : List D48))
  let v34 := (len v32)
  let v35 := (decide (a6 < v34))
  (!v35)
def f22_L9_ly : List (Nat × Sh) := [(0, (.val (.sl (.sl T48)))), (1, (.val (.sl (.sl T48)))), (5, (.val (.int .i64)))]
def f22_L9_lx : List (Nat × Sh) := [(6, (.val (.int .i64)))]
def f22_L9_les : List (List (Nat × Sh)) := [[(4, (.val .bool))], [(0, (.val (.sl (.sl T48)))), (1, (.val (.sl (.sl T48)))), (5, (.val (.int .i64)))]]
def f22_L9_es (y : denL f22_L9_ly) (x : denL f22_L9_lx) : List Comp := [⟨1, some (f22_L9_e1 y x), mkSt [(4, (.val .bool))] ((f22_L9_x1_0 y x), ()) ++ cutSt⟩, ⟨4, some (f22_L9_e4 y x), mkSt [(0, (.val (.sl (.sl T48)))), (1, (.val (.sl (.sl T48)))), (5, (.val (.int .i64)))] (y.1, y.2.1, y.2.2.1, ()) ++ cutSt⟩]
def f22_L9_spec : St → Option Out := loopS f22_L9_ly f22_L9_lx f22_L9_g f22_L9_next f22_L9_ok f22_L9_es
def f22_L4_g (y : ((List (List D48)) × (List (List D48)) × Unit)) (x : (Int × Unit)) : Bool :=
  let a0 := y.1
  let a1 := y.2.1
  let a5 := x.1
  let v14 := (len a0)
  let v15 := (decide (a5 < v14))
  let v20 := (nth a0 a5 ([] : List D48))
  let v22 := (len v20)
  let v25 := (nth a1 a5 ([] : List D48))
  let v27 := (len v25)
  let v28 := (v22 != v27)
  let y9 := (a0, a1, a5, ())
  let x9 := ((0 : Int), ())
  let e9 := (loopEnd (f22_L9_g y9) (f22_L9_next y9) x9)
  let q9_4 := (f22_L9_e4 y9 e9)
  let c := ((!v28) && q9_4)
  let c_3 := (v15 && c)
  c_3
def f22_L4_next (y : ((List (List D48)) × (List (List D48)) × Unit)) (x : (Int × Unit)) : (Int × Unit) :=
  let a5 := x.1
  let v17 := (a5 + (1 : Int))
  (v17, ())
def f22_L4_ok (y : ((List (List D48)) × (List (List D48)) × Unit)) (x : (Int × Unit)) : Prop :=
  let a0 := y.1
  let a1 := y.2.1
  let a5 := x.1
  let v14 := (len a0)
  let v15 := (decide (a5 < v14))
  let v20 := (nth a0 a5 ([] : List D48))
  let v22 := (len v20)
  let v25 := (nth a1 a5 ([] : List D48))
  let v27 := (len v25)
  let v28 := (v22 != v27)
  let y9 := (a0, a1, a5, ())
  let x9 := ((0 : Int), ())
  let e9 := (loopEnd (f22_L9_g y9) (f22_L9_next y9) x9)
  let q9_4 := (f22_L9_e4 y9 e9)
  let c := ((!v28) && q9_4)
  (v15 = true → (InB a5 (len a0) ∧ (InB a5 (len a1) ∧ (((!v28) = true → (Am.Ends (f22_L9_g y9) (f22_L9_next y9) (f22_L9_ok y9) x9)) ∧ (c = true → InR (a5 + (1 : Int)))))))
instance (y : ((List (List D48)) × (List (List D48)) × Unit)) (x : (Int × Unit)) : Decidable (f22_L4_ok y x) := by
  unfold f22_L4_ok
  try dsimp only
  infer_instance
def f22_L4_x1 (y : ((List (List D48)) × (List (List D48)) × Unit)) (x : (Int × Unit)) : (Bool × Unit) :=
  let a0 := y.1
  let a1 := y.2.1
  let a5 := x.1
  let v20 := (nth a0 a5 ([] : List D48))
  let v22 := (len v20)
  let v25 := (nth a1 a5 ([] : List D48))
  let v27 := (len v25)
  let v28 := (v22 != v27)
  let y9 := (a0, a1, a5, ())
  let x9 := ((0 : Int), ())
  let e9 := (loopEnd (f22_L9_g y9) (f22_L9_next y9) x9)
  let r9_1_0 := (f22_L9_x1_0 y9 e9)
  let m4 := (bif v28 then false else r9_1_0)
  (m4, ())
def f22_L4_x1_0 (y : ((List (List D48)) × (List (List D48)) × Unit)) (x : (Int × Unit)) : Bool := (f22_L4_x1 y x).1
def f22_L4_e1 (y : ((List (List D48)) × (List (List D48)) × Unit)) (x : (Int × Unit)) : Bool :=
  let a0 := y.1
  let a1 := y.2.1
  let a5 := x.1
  let v14 := (len a0)
  let v15 := (decide (a5 < v14))
  let v20 := (nth a0 a5 ([] : List D48))
  let v22 := (len v20)
  let v25 := (nth a1 a5 ([] : List D48))
  let v27 := (len v25)
  let v28 := (v22 != v27)
  let y9 := (a0, a1, a5, ())
  let x9 := ((0 : Int), ())
  let e9 := (loopEnd (f22_L9_g y9) (f22_L9_next y9) x9)
  let q9_1 := (f22_L9_e1 y9 e9)
  let c_1 := ((!v28) && q9_1)
  let c_2 := (v28 || c_1)
  let c_4 := (v15 && c_2)
  c_4
def f22_L4_x2 (y : ((List (List D48)) × (List (List D48)) × Unit)) (x : (Int × Unit)) : (Unit) :=
  ()
def f22_L4_e2 (y : ((List (List D48)) × (List (List D48)) × Unit)) (x : (Int × Unit)) : Bool :=
  let a0 := y.1
  let a5 := x.1
  let v14 := (len a0)
  let v15 := (decide (a5 < v14))
  (!v15)
def f22_L4_ly : List (Nat × Sh) := [(0, (.val (.sl (.sl T48)))), (1, (.val (.sl (.sl T48))))]
def f22_L4_lx : List (Nat × Sh) := [(5, (.val (.int .i64)))]
def f22_L4_les : List (List (Nat × Sh)) := [[(4, (.val .bool))], []]
def f22_L4_es (y : denL f22_L4_ly) (x : denL f22_L4_lx) : List Comp := [⟨1, some (f22_L4_e1 y x), mkSt [(4, (.val .bool))] ((f22_L4_x1_0 y x), ()) ++ cutSt⟩, ⟨2, some (f22_L4_e2 y x), mkSt [] () ++ cutSt⟩]
def f22_L4_spec : St → Option Out := loopS f22_L4_ly f22_L4_lx f22_L4_g f22_L4_next f22_L4_ok f22_L4_es
def f22 (p0 : (List (List D48))) (p1 : (List (List D48))) : Bool :=
  let v8 := (len p0)
  let v10 := (len p1)
  let v11 := (v8 != v10)
  let y4 := (p0, p1, ())
  let x4 := ((0 : Int), ())
  let e4 := (loopEnd (f22_L4_g y4) (f22_L4_next y4) x4)
  let r4_1_0 := (f22_L4_x1_0 y4 e4)
  let q4_1 := (f22_L4_e1 y4 e4)
  let m4 := (bif q4_1 then r4_1_0 else true)
  let m4_1 := (bif v11 then false else m4)
  m4_1
def f22_ok (p0 : (List (List D48))) (p1 : (List (List D48))) : Prop :=
  let v8 := (len p0)
  let v10 := (len p1)
  let v11 := (v8 != v10)
  let y4 := (p0, p1, ())
  let x4 := ((0 : Int), ())
  ((!v11) = true → (Am.Ends (f22_L4_g y4) (f22_L4_next y4) (f22_L4_ok y4) x4))
instance (p0 : (List (List D48))) (p1 : (List (List D48))) : Decidable (f22_ok p0 p1) := by
  unfold f22_ok
  try dsimp only
  infer_instance
def f22_ps : List (Nat × Sh) := [(0, (.val (.sl (.sl T48)))), (1, (.val (.sl (.sl T48))))]
def f22_rs : Sh := (.val .bool)
def f22_os : List (Nat × Sh) := []
def f22_spec : Am.Spec := fnSpec f22_ps f22_rs f22_os (fun x => f22_ok x.1 x.2.1) (fun x => f22 x.1 x.2.1) (fun _ => ())
def f22_ctx : Ctx := { tys := tys, fns := [], loops := [(9, f22_L9_spec), (4, f22_L4_spec)], gh := [], wrap := false, n := 53, keep := [], wr := [] }
theorem f22_cok : CtxOk Tryd.prog f22_ctx := ctxOk_mk tys_ok trivial rfl (by kernel_rfl)
noncomputable def f22_code : Code := Tryd.f22.body.getD .skip
noncomputable def f22_L4 : Code := nthLoop f22_code 0
noncomputable def f22_L9 : Code := nthLoop f22_L4 0
theorem f22_L9_sum : ∀ y x, sumLoop f22_ctx f22_L9 f22_L9_ly f22_L9_lx f22_L9_les y x = some (f22_L9_ok y x, f22_L9_g y x, y, f22_L9_next y x, f22_L9_es y x) := fun y x => by kernel_rfl
theorem f22_L9_is : LoopSnd Tryd.prog f22_ctx f22_L9 := loop_gen f22_cok mixed (bs := []) (by kernel_rfl) trivial (by kernel_rfl) (by kernel_rfl) f22_L9_sum
theorem f22_L4_sum : ∀ y x, sumLoop f22_ctx f22_L4 f22_L4_ly f22_L4_lx f22_L4_les y x = some (f22_L4_ok y x, f22_L4_g y x, y, f22_L4_next y x, f22_L4_es y x) := fun y x => by kernel_rfl
theorem f22_L4_is : LoopSnd Tryd.prog f22_ctx f22_L4 := loop_gen f22_cok mixed (bs := [f22_L9]) (by kernel_rfl) ⟨f22_L9_is, trivial⟩ (by kernel_rfl) (by kernel_rfl) f22_L4_sum
theorem f22_sum : ∀ x, sumFn f22_ctx f22_code Tryd.f22.results.toList f22_ps f22_rs f22_os x = some (f22_ok x.1 x.2.1, f22 x.1 x.2.1, ()) := fun x => by kernel_rfl
theorem f22_is : SpecOk Tryd.prog 22 f22_spec := func_gen f22_cok mixed Tryd.func22 (by kernel_rfl) (by decide) rfl (bs := [f22_L4]) (by kernel_rfl) ⟨f22_L4_is, trivial⟩ (by kernel_rfl) (by kernel_rfl) rfl f22_sum
def f8_L5_g (y : (D31 × (List (List D48)) × Unit)) (x : (Int × Unit)) : Bool :=
  let a1 := y.1
  let a5 := x.1
  let v23 := (len a1.2.1)
  let v24 := (decide (a5 < v23))
  let v29 := (byteAt a1.2.1 a5)
  let v30 := (v29 != (10 : Int))
  let v31 := (bif v24 then v30 else false)
  v31
def f8_L5_next (y : (D31 × (List (List D48)) × Unit)) (x : (Int × Unit)) : (Int × Unit) :=
  let a5 := x.1
  let v33 := (a5 + (1 : Int))
  (v33, ())
def f8_L5_ok (y : (D31 × (List (List D48)) × Unit)) (x : (Int × Unit)) : Prop :=
  let a1 := y.1
  let a5 := x.1
  let v23 := (len a1.2.1)
  let v24 := (decide (a5 < v23))
  let v29 := (byteAt a1.2.1 a5)
  let v30 := (v29 != (10 : Int))
  let v31 := (bif v24 then v30 else false)
  ((v24 = true → InB a5 (len a1.2.1)) ∧ (v31 = true → InR (a5 + (1 : Int))))
instance (y : (D31 × (List (List D48)) × Unit)) (x : (Int × Unit)) : Decidable (f8_L5_ok y x) := by
  unfold f8_L5_ok
  try dsimp only
  infer_instance
def f8_L5_x2 (y : (D31 × (List (List D48)) × Unit)) (x : (Int × Unit)) : (Int × Unit) :=
  let a5 := x.1
  (a5, ())
def f8_L5_x2_0 (y : (D31 × (List (List D48)) × Unit)) (x : (Int × Unit)) : Int := (f8_L5_x2 y x).1
def f8_L5_ly : List (Nat × Sh) := [(1, (.box T31 (.val T31))), (3, (.own (.sl T48) 1003 false))]
def f8_L5_lx : List (Nat × Sh) := [(5, (.val (.int .i64)))]
def f8_L5_les : List (List (Nat × Sh)) := [[(1, (.box T31 (.val T31))), (3, (.own (.sl T48) 1003 false)), (5, (.val (.int .i64)))]]
def f8_L5_es (y : denL f8_L5_ly) (x : denL f8_L5_lx) : List Comp := [⟨2, none, mkSt [(1, (.box T31 (.val T31))), (3, (.own (.sl T48) 1003 false)), (5, (.val (.int .i64)))] (y.1, y.2.1, (f8_L5_x2_0 y x), ()) ++ cutSt⟩]
def f8_L5_spec : St → Option Out := loopS f8_L5_ly f8_L5_lx f8_L5_g f8_L5_next f8_L5_ok f8_L5_es
def f8 (p0 : D31) : Bool :=
  let v14 := (f20 p0.1 p0.2.1 p0.2.2.1 (0 : Int))
  let v18 := (v14.2.1 != (0 : Int))
  let y5 := (p0, v14.1, ())
  let x5 := ((0 : Int), ())
  let e5 := (loopEnd (f8_L5_g y5) (f8_L5_next y5) x5)
  let r5_2_0 := (f8_L5_x2_0 y5 e5)
  let v40 := (List.take (Int.toNat r5_2_0) p0.2.1)
  let v43 := (f20 p0.1 v40 p0.2.2.1 (0 : Int))
  let v47 := (v43.2.1 == (0 : Int))
  let v50 := (len v43.1)
  let v52 := (len v14.1)
  let v53 := (decide (v50 ≤ v52))
  let v54 := (bif v47 then v53 else false)
  let v58 := (len v43.1)
  let v59 := (List.take (Int.toNat v58) v14.1)
  let v61 := (f22 v59 v43.1)
  let v62 := (bif v54 then v61 else false)
  let v65 := (bif v62 then f13 else false)
  let m2 := (bif v18 then f13 else v65)
  m2
def f8_ok (p0 : D31) : Prop :=
  let v14 := (f20 p0.1 p0.2.1 p0.2.2.1 (0 : Int))
  let v18 := (v14.2.1 != (0 : Int))
  let y5 := (p0, v14.1, ())
  let x5 := ((0 : Int), ())
  let e5 := (loopEnd (f8_L5_g y5) (f8_L5_next y5) x5)
  let r5_2_0 := (f8_L5_x2_0 y5 e5)
  let v40 := (List.take (Int.toNat r5_2_0) p0.2.1)
  let v43 := (f20 p0.1 v40 p0.2.2.1 (0 : Int))
  let v47 := (v43.2.1 == (0 : Int))
  let v50 := (len v43.1)
  let v52 := (len v14.1)
  let v53 := (decide (v50 ≤ v52))
  let v54 := (bif v47 then v53 else false)
  let v58 := (len v43.1)
  let v59 := (List.take (Int.toNat v58) v14.1)
  let v61 := (f22 v59 v43.1)
  let v62 := (bif v54 then v61 else false)
  ((f20_ok p0.1 p0.2.1 p0.2.2.1 (0 : Int)) ∧ ((v18 = true → f13_ok) ∧ ((!v18) = true → ((Am.Ends (f8_L5_g y5) (f8_L5_next y5) (f8_L5_ok y5) x5) ∧ ((0 ≤ r5_2_0 ∧ r5_2_0 ≤ len p0.2.1) ∧ ((f20_ok p0.1 v40 p0.2.2.1 (0 : Int)) ∧ ((v54 = true → (0 ≤ v58 ∧ v58 ≤ len v14.1)) ∧ ((v54 = true → (f22_ok v59 v43.1)) ∧ (v62 = true → f13_ok)))))))))
instance (p0 : D31) : Decidable (f8_ok p0) := by
  unfold f8_ok
  try dsimp only
  infer_instance
def f8_ps : List (Nat × Sh) := [(0, (.val T31))]
def f8_rs : Sh := (.val .bool)
def f8_os : List (Nat × Sh) := []
def f8_spec : Am.Spec := fnSpec f8_ps f8_rs f8_os (fun x => f8_ok x.1) (fun x => f8 x.1) (fun _ => ())
def f8_ctx : Ctx := { tys := tys, fns := [(13, f13_spec), (20, f20_spec), (22, f22_spec)], loops := [(5, f8_L5_spec)], gh := [(3, [(4, 0, 14, 1003)]), (15, [(4, 0, 43, 1006)])], wrap := false, n := 66, keep := [], wr := [] }
theorem f8_cok : CtxOk Tryd.prog f8_ctx := ctxOk_mk tys_ok ⟨f13_is, f20_is, f22_is, trivial⟩ rfl (by kernel_rfl)
noncomputable def f8_code : Code := Tryd.f8.body.getD .skip
noncomputable def f8_L5 : Code := nthLoop f8_code 0
theorem f8_L5_sum : ∀ y x, sumLoop f8_ctx f8_L5 f8_L5_ly f8_L5_lx f8_L5_les y x = some (f8_L5_ok y x, f8_L5_g y x, y, f8_L5_next y x, f8_L5_es y x) := fun y x => by kernel_rfl
theorem f8_L5_is : LoopSnd Tryd.prog f8_ctx f8_L5 := loop_gen f8_cok mixed (bs := []) (by kernel_rfl) trivial (by kernel_rfl) (by kernel_rfl) f8_L5_sum
theorem f8_sum : ∀ x, sumFn f8_ctx f8_code Tryd.f8.results.toList f8_ps f8_rs f8_os x = some (f8_ok x.1, f8 x.1, ()) := fun x => by kernel_rfl
theorem f8_is : SpecOk Tryd.prog 8 f8_spec := func_gen f8_cok mixed Tryd.func8 (by kernel_rfl) (by decide) rfl (bs := [f8_L5]) (by kernel_rfl) ⟨f8_L5_is, trivial⟩ (by kernel_rfl) (by kernel_rfl) rfl f8_sum
end Go.Proofs.YtnemgdgminolpaaDoor.Am
