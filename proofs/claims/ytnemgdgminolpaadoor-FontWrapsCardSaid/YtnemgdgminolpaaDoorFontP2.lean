/- Printed by program, part 2. No condition. -/
import Derived.Test.YtnemgdgminolpaaDoorFontL
set_option linter.unusedVariables false
set_option synthInstance.maxSize 4000
set_option synthInstance.maxHeartbeats 400000
namespace Go.Proofs.YtnemgdgminolpaaDoor.Am
open Go Go.Am Go.Proofs
def f17 (p0 : D25) (p1 : (List UInt8)) (p2 : Int) (p3 : Int) : ((List (List UInt8)) × Int × Unit) :=
  let v15 := (f39 p0 p1 p2 p3)
  let v17 := (v15 != (0 : Int))
  let v20 := (f32 p0)
  let v24 := (f40 v20 p1 p2 p3)
  let m8 := (bif v17 then [] else v24)
  let m9 := (bif v17 then v15 else (0 : Int))
  (m8, m9, ())
def f17_ok (p0 : D25) (p1 : (List UInt8)) (p2 : Int) (p3 : Int) : Prop :=
  let v15 := (f39 p0 p1 p2 p3)
  let v17 := (v15 != (0 : Int))
  let v20 := (f32 p0)
  ((f39_ok p0 p1 p2 p3) ∧ ((!v17) = true → ((f32_ok p0) ∧ (f40_ok v20 p1 p2 p3))))
instance (p0 : D25) (p1 : (List UInt8)) (p2 : Int) (p3 : Int) : Decidable (f17_ok p0 p1 p2 p3) := by
  unfold f17_ok
  try dsimp only
  infer_instance
def f17_ps : List (Nat × Sh) := [(0, (.val T25)), (1, (.val .str)), (2, (.val (.int .i64))), (3, (.val (.int .i64)))]
def f17_rs : Sh := (.tup (.cons (.val (.sl .str)) (.cons (.val (.int .i64)) .nl)))
def f17_os : List (Nat × Sh) := []
def f17_spec : Am.Spec := fnSpec f17_ps f17_rs f17_os (fun x => f17_ok x.1 x.2.1 x.2.2.1 x.2.2.2.1) (fun x => f17 x.1 x.2.1 x.2.2.1 x.2.2.2.1) (fun _ => ())
def f17_ctx : Ctx := { tys := tys, fns := [(32, f32_spec), (39, f39_spec), (40, f40_spec)], loops := [], gh := [], wrap := false, n := 25, keep := [], wr := [] }
theorem f17_cok : CtxOk Tryd.prog f17_ctx := ctxOk_mk tys_ok ⟨f32_is, f39_is, f40_is, trivial⟩ rfl (by kernel_rfl)
noncomputable def f17_code : Code := Tryd.f17.body.getD .skip
theorem f17_sum : ∀ x, sumFn f17_ctx f17_code Tryd.f17.results.toList f17_ps f17_rs f17_os x = some (f17_ok x.1 x.2.1 x.2.2.1 x.2.2.2.1, f17 x.1 x.2.1 x.2.2.1 x.2.2.2.1, ()) := fun x => by kernel_rfl
theorem f17_is : SpecOk Tryd.prog 17 f17_spec := func_gen f17_cok mixed Tryd.func17 (by kernel_rfl) (by decide) rfl (bs := []) (by kernel_rfl) trivial (by kernel_rfl) (by kernel_rfl) rfl f17_sum
def f19_L4_g (y : ((List (List UInt8)) × (List (List UInt8)) × Unit)) (x : (Int × Unit)) : Bool :=
  let a0 := y.1
  let a1 := y.2.1
  let a5 := x.1
  let v13 := (len a0)
  let v14 := (decide (a5 < v13))
  let v19 := (nth a0 a5 ([] : List UInt8))
  let v23 := (nth a1 a5 ([] : List UInt8))
  let v25 := (!(v19 == v23))
  let c := (v14 && (!v25))
  c
def f19_L4_next (y : ((List (List UInt8)) × (List (List UInt8)) × Unit)) (x : (Int × Unit)) : (Int × Unit) :=
  let a5 := x.1
  let v16 := (a5 + (1 : Int))
  (v16, ())
def f19_L4_ok (y : ((List (List UInt8)) × (List (List UInt8)) × Unit)) (x : (Int × Unit)) : Prop :=
  let a0 := y.1
  let a1 := y.2.1
  let a5 := x.1
  let v13 := (len a0)
  let v14 := (decide (a5 < v13))
  let v19 := (nth a0 a5 ([] : List UInt8))
  let v23 := (nth a1 a5 ([] : List UInt8))
  let v25 := (!(v19 == v23))
  (v14 = true → (InB a5 (len a0) ∧ (InB a5 (len a1) ∧ ((!v25) = true → InR (a5 + (1 : Int))))))
instance (y : ((List (List UInt8)) × (List (List UInt8)) × Unit)) (x : (Int × Unit)) : Decidable (f19_L4_ok y x) := by
  unfold f19_L4_ok
  try dsimp only
  infer_instance
def f19_L4_x1 (y : ((List (List UInt8)) × (List (List UInt8)) × Unit)) (x : (Int × Unit)) : (Bool × Unit) :=
  (false, ())
def f19_L4_x1_0 (y : ((List (List UInt8)) × (List (List UInt8)) × Unit)) (x : (Int × Unit)) : Bool := (f19_L4_x1 y x).1
def f19_L4_e1 (y : ((List (List UInt8)) × (List (List UInt8)) × Unit)) (x : (Int × Unit)) : Bool :=
  let a0 := y.1
  let a1 := y.2.1
  let a5 := x.1
  let v13 := (len a0)
  let v14 := (decide (a5 < v13))
  let v19 := (nth a0 a5 ([] : List UInt8))
  let v23 := (nth a1 a5 ([] : List UInt8))
  let v25 := (!(v19 == v23))
  let c_1 := (v14 && v25)
  c_1
def f19_L4_x2 (y : ((List (List UInt8)) × (List (List UInt8)) × Unit)) (x : (Int × Unit)) : (Unit) :=
  ()
def f19_L4_e2 (y : ((List (List UInt8)) × (List (List UInt8)) × Unit)) (x : (Int × Unit)) : Bool :=
  let a0 := y.1
  let a5 := x.1
  let v13 := (len a0)
  let v14 := (decide (a5 < v13))
  (!v14)
def f19_L4_ly : List (Nat × Sh) := [(0, (.val (.sl .str))), (1, (.val (.sl .str)))]
def f19_L4_lx : List (Nat × Sh) := [(5, (.val (.int .i64)))]
def f19_L4_les : List (List (Nat × Sh)) := [[(4, (.val .bool))], []]
def f19_L4_es (y : denL f19_L4_ly) (x : denL f19_L4_lx) : List Comp := [⟨1, some (f19_L4_e1 y x), mkSt [(4, (.val .bool))] ((f19_L4_x1_0 y x), ()) ++ cutSt⟩, ⟨2, some (f19_L4_e2 y x), mkSt [] () ++ cutSt⟩]
def f19_L4_spec : St → Option Out := loopS f19_L4_ly f19_L4_lx f19_L4_g f19_L4_next f19_L4_ok f19_L4_es
def f19 (p0 : (List (List UInt8))) (p1 : (List (List UInt8))) : Bool :=
  let v7 := (len p0)
  let v9 := (len p1)
  let v10 := (v7 != v9)
  let y4 := (p0, p1, ())
  let x4 := ((0 : Int), ())
  let e4 := (loopEnd (f19_L4_g y4) (f19_L4_next y4) x4)
  let r4_1_0 := (f19_L4_x1_0 y4 e4)
  let q4_1 := (f19_L4_e1 y4 e4)
  let m4 := (bif q4_1 then r4_1_0 else true)
  let m4_1 := (bif v10 then false else m4)
  m4_1
def f19_ok (p0 : (List (List UInt8))) (p1 : (List (List UInt8))) : Prop :=
  let v7 := (len p0)
  let v9 := (len p1)
  let v10 := (v7 != v9)
  let y4 := (p0, p1, ())
  let x4 := ((0 : Int), ())
  ((!v10) = true → (Am.Ends (f19_L4_g y4) (f19_L4_next y4) (f19_L4_ok y4) x4))
instance (p0 : (List (List UInt8))) (p1 : (List (List UInt8))) : Decidable (f19_ok p0 p1) := by
  unfold f19_ok
  try dsimp only
  infer_instance
def f19_ps : List (Nat × Sh) := [(0, (.val (.sl .str))), (1, (.val (.sl .str)))]
def f19_rs : Sh := (.val .bool)
def f19_os : List (Nat × Sh) := []
def f19_spec : Am.Spec := fnSpec f19_ps f19_rs f19_os (fun x => f19_ok x.1 x.2.1) (fun x => f19 x.1 x.2.1) (fun _ => ())
def f19_ctx : Ctx := { tys := tys, fns := [], loops := [(4, f19_L4_spec)], gh := [], wrap := false, n := 26, keep := [], wr := [] }
theorem f19_cok : CtxOk Tryd.prog f19_ctx := ctxOk_mk tys_ok trivial rfl (by kernel_rfl)
noncomputable def f19_code : Code := Tryd.f19.body.getD .skip
noncomputable def f19_L4 : Code := nthLoop f19_code 0
theorem f19_L4_sum : ∀ y x, sumLoop f19_ctx f19_L4 f19_L4_ly f19_L4_lx f19_L4_les y x = some (f19_L4_ok y x, f19_L4_g y x, y, f19_L4_next y x, f19_L4_es y x) := fun y x => by kernel_rfl
theorem f19_L4_is : LoopSnd Tryd.prog f19_ctx f19_L4 := loop_gen f19_cok mixed (bs := []) (by kernel_rfl) trivial (by kernel_rfl) (by kernel_rfl) f19_L4_sum
theorem f19_sum : ∀ x, sumFn f19_ctx f19_code Tryd.f19.results.toList f19_ps f19_rs f19_os x = some (f19_ok x.1 x.2.1, f19 x.1 x.2.1, ()) := fun x => by kernel_rfl
theorem f19_is : SpecOk Tryd.prog 19 f19_spec := func_gen f19_cok mixed Tryd.func19 (by kernel_rfl) (by decide) rfl (bs := [f19_L4]) (by kernel_rfl) ⟨f19_L4_is, trivial⟩ (by kernel_rfl) (by kernel_rfl) rfl f19_sum
def f74_v2 (p0 : D48) (p1 : (List D48)) : (Unit) :=
  ()
def f74_v2_ok (p0 : D48) (p1 : (List D48)) : Prop :=
  let v6 := (len p1)
  let v7 := (v6 - (1 : Int))
  let v8 := (nth p1 v7 Z48)
  let v10 := (!(Ty.eqb T48 p0 v8))
  let v13 := ([p0] : List D48)
  (InR (v6 - (1 : Int)) ∧ (InB v7 (len p1) ∧ (v10 = true → ((List.length p1 + List.length v13 : Nat) : Int) ≤ 4294967296)))
instance (p0 : D48) (p1 : (List D48)) : Decidable (f74_v2_ok p0 p1) := by
  unfold f74_v2_ok
  try dsimp only
  infer_instance
def f74_v2_o (p0 : D48) (p1 : (List D48)) : ((List D48) × Unit) :=
  let v6 := (len p1)
  let v7 := (v6 - (1 : Int))
  let v8 := (nth p1 v7 Z48)
  let v10 := (!(Ty.eqb T48 p0 v8))
  let v13 := ([p0] : List D48)
  let v14 := (p1 ++ v13)
  let m1 := (bif v10 then v14 else p1)
  (m1, ())
def f74_v2_ps : List (Nat × Sh) := [(0, (.val T48)), (1, (.box (.sl T48) (.own T48 400100 false)))]
def f74_v2_rs : Sh := (.tup .nl)
def f74_v2_os : List (Nat × Sh) := [(1, (.box (.sl T48) (.own T48 400100 false)))]
def f74_v2_spec : Am.Spec := fnSpec f74_v2_ps f74_v2_rs f74_v2_os (fun x => f74_v2_ok x.1 x.2.1) (fun x => f74_v2 x.1 x.2.1) (fun x => f74_v2_o x.1 x.2.1)
def f74_v2_ctx : Ctx := { tys := tys, fns := [], loops := [], gh := [(5, [(4, 0, 14, 400100)])], wrap := false, n := 15, keep := [1], wr := [] }
theorem f74_v2_cok : CtxOk Tryd.prog f74_v2_ctx := ctxOk_mk tys_ok trivial rfl (by kernel_rfl)
noncomputable def f74_v2_code : Code := Tryd.f74.body.getD .skip
theorem f74_v2_sum : ∀ x, sumFn f74_v2_ctx f74_v2_code Tryd.f74.results.toList f74_v2_ps f74_v2_rs f74_v2_os x = some (f74_v2_ok x.1 x.2.1, f74_v2 x.1 x.2.1, f74_v2_o x.1 x.2.1) := fun x => by kernel_rfl
theorem f74_v2_is : SpecOk Tryd.prog 74 f74_v2_spec := func_gen f74_v2_cok mixed Tryd.func74 (by kernel_rfl) (by decide) rfl (bs := []) (by kernel_rfl) trivial (by kernel_rfl) (by kernel_rfl) rfl f74_v2_sum
def f64_v1_L8_g (y : (D51 × D48 × (Unit × Unit) × Unit)) (x : ((List D48) × Int × Unit)) : Bool :=
  let a7 := x.2.1
  let v37 := (decide (a7 ≤ (8 : Int)))
  v37
def f64_v1_L8_next (y : (D51 × D48 × (Unit × Unit) × Unit)) (x : ((List D48) × Int × Unit)) : ((List D48) × Int × Unit) :=
  let a3 := y.1
  let a5 := y.2.1
  let a2 := x.1
  let a7 := x.2.1
  let v41 := ((8 : Int) - a7)
  let v44 := (v41 * v41)
  let v46 := ((2 : Int) * a7)
  let v48 := (v46 * v41)
  let v51 := (a7 * a7)
  let v56 := (v44 * a5.1)
  let v61 := (nth a3.2.1 (0 : Int) Z48).1
  let v62 := (v48 * v61)
  let v63 := (v56 + v62)
  let v68 := (nth a3.2.1 (1 : Int) Z48).1
  let v69 := (v51 * v68)
  let v70 := (v63 + v69)
  let v71 := (f44 v70 (64 : Int))
  let v75 := (v44 * a5.2.1)
  let v80 := (nth a3.2.1 (0 : Int) Z48).2.1
  let v81 := (v48 * v80)
  let v82 := (v75 + v81)
  let v87 := (nth a3.2.1 (1 : Int) Z48).2.1
  let v88 := (v51 * v87)
  let v89 := (v82 + v88)
  let v90 := (f44 v89 (64 : Int))
  let s := (v71, v90, ())
  let v92o := (f74_v2_o s a2)
  let v39 := (a7 + (1 : Int))
  (v92o.1, v39, ())
def f64_v1_L8_ok (y : (D51 × D48 × (Unit × Unit) × Unit)) (x : ((List D48) × Int × Unit)) : Prop :=
  let a3 := y.1
  let a5 := y.2.1
  let a2 := x.1
  let a7 := x.2.1
  let v37 := (decide (a7 ≤ (8 : Int)))
  let v41 := ((8 : Int) - a7)
  let v44 := (v41 * v41)
  let v46 := ((2 : Int) * a7)
  let v48 := (v46 * v41)
  let v51 := (a7 * a7)
  let v56 := (v44 * a5.1)
  let v61 := (nth a3.2.1 (0 : Int) Z48).1
  let v62 := (v48 * v61)
  let v63 := (v56 + v62)
  let v68 := (nth a3.2.1 (1 : Int) Z48).1
  let v69 := (v51 * v68)
  let v70 := (v63 + v69)
  let v71 := (f44 v70 (64 : Int))
  let v75 := (v44 * a5.2.1)
  let v80 := (nth a3.2.1 (0 : Int) Z48).2.1
  let v81 := (v48 * v80)
  let v82 := (v75 + v81)
  let v87 := (nth a3.2.1 (1 : Int) Z48).2.1
  let v88 := (v51 * v87)
  let v89 := (v82 + v88)
  let v90 := (f44 v89 (64 : Int))
  let s := (v71, v90, ())
  (v37 = true → (InR ((8 : Int) - a7) ∧ (InR (v41 * v41) ∧ (InR ((2 : Int) * a7) ∧ (InR (v46 * v41) ∧ (InR (a7 * a7) ∧ (InR (v44 * a5.1) ∧ (InB (0 : Int) 3 ∧ (InR (v48 * v61) ∧ (InR (v56 + v62) ∧ (InB (1 : Int) 3 ∧ (InR (v51 * v68) ∧ (InR (v63 + v69) ∧ ((f44_ok v70 (64 : Int)) ∧ (InR (v44 * a5.2.1) ∧ (InB (0 : Int) 3 ∧ (InR (v48 * v80) ∧ (InR (v75 + v81) ∧ (InB (1 : Int) 3 ∧ (InR (v51 * v87) ∧ (InR (v82 + v88) ∧ ((f44_ok v89 (64 : Int)) ∧ ((f74_v2_ok s a2) ∧ InR (a7 + (1 : Int)))))))))))))))))))))))))
instance (y : (D51 × D48 × (Unit × Unit) × Unit)) (x : ((List D48) × Int × Unit)) : Decidable (f64_v1_L8_ok y x) := by
  unfold f64_v1_L8_ok
  try dsimp only
  infer_instance
def f64_v1_L8_x3 (y : (D51 × D48 × (Unit × Unit) × Unit)) (x : ((List D48) × Int × Unit)) : ((List D48) × Unit) :=
  let a2 := x.1
  (a2, ())
def f64_v1_L8_x3_0 (y : (D51 × D48 × (Unit × Unit) × Unit)) (x : ((List D48) × Int × Unit)) : (List D48) := (f64_v1_L8_x3 y x).1
def f64_v1_L8_ly : List (Nat × Sh) := [(3, (.box T51 (.val T51))), (5, (.box T48 (.val T48))), (6, (.fn 74 (.cons (.ref 2 (.sl T48)) .nl)))]
def f64_v1_L8_lx : List (Nat × Sh) := [(2, (.box (.sl T48) (.own T48 400200 false))), (7, (.val (.int .i64)))]
def f64_v1_L8_les : List (List (Nat × Sh)) := [[(2, (.box (.sl T48) (.own T48 400200 false)))]]
def f64_v1_L8_es (y : denL f64_v1_L8_ly) (x : denL f64_v1_L8_lx) : List Comp := [⟨3, none, mkSt [(2, (.box (.sl T48) (.own T48 400200 false)))] ((f64_v1_L8_x3_0 y x), ()) ++ cutSt⟩]
def f64_v1_L8_spec : St → Option Out := loopS f64_v1_L8_ly f64_v1_L8_lx f64_v1_L8_g f64_v1_L8_next f64_v1_L8_ok f64_v1_L8_es
def f64_v1_L15_g (y : (D51 × D48 × (Unit × Unit) × Unit)) (x : ((List D48) × Int × Unit)) : Bool :=
  let a12 := x.2.1
  let v96 := (decide (a12 ≤ (16 : Int)))
  v96
def f64_v1_L15_next (y : (D51 × D48 × (Unit × Unit) × Unit)) (x : ((List D48) × Int × Unit)) : ((List D48) × Int × Unit) :=
  let a3 := y.1
  let a5 := y.2.1
  let a2 := x.1
  let a12 := x.2.1
  let v100 := ((16 : Int) - a12)
  let v103 := (v100 * v100)
  let v105 := (v103 * v100)
  let v107 := ((3 : Int) * a12)
  let v109 := (v107 * v100)
  let v111 := (v109 * v100)
  let v113 := ((3 : Int) * a12)
  let v115 := (v113 * a12)
  let v117 := (v115 * v100)
  let v120 := (a12 * a12)
  let v122 := (v120 * a12)
  let v127 := (v105 * a5.1)
  let v132 := (nth a3.2.1 (0 : Int) Z48).1
  let v133 := (v111 * v132)
  let v134 := (v127 + v133)
  let v139 := (nth a3.2.1 (1 : Int) Z48).1
  let v140 := (v117 * v139)
  let v141 := (v134 + v140)
  let v146 := (nth a3.2.1 (2 : Int) Z48).1
  let v147 := (v122 * v146)
  let v148 := (v141 + v147)
  let v149 := (f44 v148 (4096 : Int))
  let v153 := (v105 * a5.2.1)
  let v158 := (nth a3.2.1 (0 : Int) Z48).2.1
  let v159 := (v111 * v158)
  let v160 := (v153 + v159)
  let v165 := (nth a3.2.1 (1 : Int) Z48).2.1
  let v166 := (v117 * v165)
  let v167 := (v160 + v166)
  let v172 := (nth a3.2.1 (2 : Int) Z48).2.1
  let v173 := (v122 * v172)
  let v174 := (v167 + v173)
  let v175 := (f44 v174 (4096 : Int))
  let s := (v149, v175, ())
  let v177o := (f74_v2_o s a2)
  let v98 := (a12 + (1 : Int))
  (v177o.1, v98, ())
def f64_v1_L15_ok (y : (D51 × D48 × (Unit × Unit) × Unit)) (x : ((List D48) × Int × Unit)) : Prop :=
  let a3 := y.1
  let a5 := y.2.1
  let a2 := x.1
  let a12 := x.2.1
  let v96 := (decide (a12 ≤ (16 : Int)))
  let v100 := ((16 : Int) - a12)
  let v103 := (v100 * v100)
  let v105 := (v103 * v100)
  let v107 := ((3 : Int) * a12)
  let v109 := (v107 * v100)
  let v111 := (v109 * v100)
  let v113 := ((3 : Int) * a12)
  let v115 := (v113 * a12)
  let v117 := (v115 * v100)
  let v120 := (a12 * a12)
  let v122 := (v120 * a12)
  let v127 := (v105 * a5.1)
  let v132 := (nth a3.2.1 (0 : Int) Z48).1
  let v133 := (v111 * v132)
  let v134 := (v127 + v133)
  let v139 := (nth a3.2.1 (1 : Int) Z48).1
  let v140 := (v117 * v139)
  let v141 := (v134 + v140)
  let v146 := (nth a3.2.1 (2 : Int) Z48).1
  let v147 := (v122 * v146)
  let v148 := (v141 + v147)
  let v149 := (f44 v148 (4096 : Int))
  let v153 := (v105 * a5.2.1)
  let v158 := (nth a3.2.1 (0 : Int) Z48).2.1
  let v159 := (v111 * v158)
  let v160 := (v153 + v159)
  let v165 := (nth a3.2.1 (1 : Int) Z48).2.1
  let v166 := (v117 * v165)
  let v167 := (v160 + v166)
  let v172 := (nth a3.2.1 (2 : Int) Z48).2.1
  let v173 := (v122 * v172)
  let v174 := (v167 + v173)
  let v175 := (f44 v174 (4096 : Int))
  let s := (v149, v175, ())
  (v96 = true → (InR ((16 : Int) - a12) ∧ (InR (v100 * v100) ∧ (InR (v103 * v100) ∧ (InR ((3 : Int) * a12) ∧ (InR (v107 * v100) ∧ (InR (v109 * v100) ∧ (InR ((3 : Int) * a12) ∧ (InR (v113 * a12) ∧ (InR (v115 * v100) ∧ (InR (a12 * a12) ∧ (InR (v120 * a12) ∧ (InR (v105 * a5.1) ∧ (InB (0 : Int) 3 ∧ (InR (v111 * v132) ∧ (InR (v127 + v133) ∧ (InB (1 : Int) 3 ∧ (InR (v117 * v139) ∧ (InR (v134 + v140) ∧ (InB (2 : Int) 3 ∧ (InR (v122 * v146) ∧ (InR (v141 + v147) ∧ ((f44_ok v148 (4096 : Int)) ∧ (InR (v105 * a5.2.1) ∧ (InB (0 : Int) 3 ∧ (InR (v111 * v158) ∧ (InR (v153 + v159) ∧ (InB (1 : Int) 3 ∧ (InR (v117 * v165) ∧ (InR (v160 + v166) ∧ (InB (2 : Int) 3 ∧ (InR (v122 * v172) ∧ (InR (v167 + v173) ∧ ((f44_ok v174 (4096 : Int)) ∧ ((f74_v2_ok s a2) ∧ InR (a12 + (1 : Int)))))))))))))))))))))))))))))))))))))
instance (y : (D51 × D48 × (Unit × Unit) × Unit)) (x : ((List D48) × Int × Unit)) : Decidable (f64_v1_L15_ok y x) := by
  unfold f64_v1_L15_ok
  try dsimp only
  infer_instance
def f64_v1_L15_x5 (y : (D51 × D48 × (Unit × Unit) × Unit)) (x : ((List D48) × Int × Unit)) : ((List D48) × Unit) :=
  let a2 := x.1
  (a2, ())
def f64_v1_L15_x5_0 (y : (D51 × D48 × (Unit × Unit) × Unit)) (x : ((List D48) × Int × Unit)) : (List D48) := (f64_v1_L15_x5 y x).1
def f64_v1_L15_ly : List (Nat × Sh) := [(3, (.box T51 (.val T51))), (5, (.box T48 (.val T48))), (6, (.fn 74 (.cons (.ref 2 (.sl T48)) .nl)))]
def f64_v1_L15_lx : List (Nat × Sh) := [(2, (.box (.sl T48) (.own T48 400200 false))), (12, (.val (.int .i64)))]
def f64_v1_L15_les : List (List (Nat × Sh)) := [[(2, (.box (.sl T48) (.own T48 400200 false)))]]
def f64_v1_L15_es (y : denL f64_v1_L15_ly) (x : denL f64_v1_L15_lx) : List Comp := [⟨5, none, mkSt [(2, (.box (.sl T48) (.own T48 400200 false)))] ((f64_v1_L15_x5_0 y x), ()) ++ cutSt⟩]
def f64_v1_L15_spec : St → Option Out := loopS f64_v1_L15_ly f64_v1_L15_lx f64_v1_L15_g f64_v1_L15_next f64_v1_L15_ok f64_v1_L15_es
def f64_v1 (p0 : (List D48)) (p1 : D51) : (List D48) :=
  let v20 := (len p0)
  let v21 := (v20 - (1 : Int))
  let v22 := (nth p0 v21 Z48)
  let v28 := (p1.1 == (2 : Int))
  let v32 := (nth p1.2.1 (0 : Int) Z48)
  let v33o := (f74_v2_o v32 p0)
  let v35 := (p1.1 == (3 : Int))
  let s := ((), ())
  let y8 := (p1, v22, s, ())
  let x8 := (p0, (1 : Int), ())
  let e8 := (loopEnd (f64_v1_L8_g y8) (f64_v1_L8_next y8) x8)
  let r8_3_0 := (f64_v1_L8_x3_0 y8 e8)
  let v94 := (p1.1 == (4 : Int))
  let s_1 := ((), ())
  let y15 := (p1, v22, s_1, ())
  let x15 := (p0, (1 : Int), ())
  let e15 := (loopEnd (f64_v1_L15_g y15) (f64_v1_L15_next y15) x15)
  let r15_5_0 := (f64_v1_L15_x5_0 y15 e15)
  let m2 := (bif v94 then r15_5_0 else p0)
  let m2_1 := (bif v35 then r8_3_0 else m2)
  let m2_2 := (bif v28 then v33o.1 else m2_1)
  m2_2
def f64_v1_ok (p0 : (List D48)) (p1 : D51) : Prop :=
  let v20 := (len p0)
  let v21 := (v20 - (1 : Int))
  let v22 := (nth p0 v21 Z48)
  let v28 := (p1.1 == (2 : Int))
  let v32 := (nth p1.2.1 (0 : Int) Z48)
  let v35 := (p1.1 == (3 : Int))
  let s := ((), ())
  let y8 := (p1, v22, s, ())
  let x8 := (p0, (1 : Int), ())
  let v94 := (p1.1 == (4 : Int))
  let s_1 := ((), ())
  let y15 := (p1, v22, s_1, ())
  let x15 := (p0, (1 : Int), ())
  (InR (v20 - (1 : Int)) ∧ (InB v21 (len p0) ∧ ((v28 = true → (InB (0 : Int) 3 ∧ (f74_v2_ok v32 p0))) ∧ (v28 = false → ((v35 = true → (Am.Ends (f64_v1_L8_g y8) (f64_v1_L8_next y8) (f64_v1_L8_ok y8) x8)) ∧ (v35 = false → (v94 = true → (Am.Ends (f64_v1_L15_g y15) (f64_v1_L15_next y15) (f64_v1_L15_ok y15) x15))))))))
instance (p0 : (List D48)) (p1 : D51) : Decidable (f64_v1_ok p0 p1) := by
  unfold f64_v1_ok
  try dsimp only
  infer_instance
def f64_v1_ps : List (Nat × Sh) := [(0, (.own T48 400000 false)), (1, (.val T51))]
def f64_v1_rs : Sh := (.own T48 0 false)
def f64_v1_os : List (Nat × Sh) := []
def f64_v1_spec : Am.Spec := fnSpec f64_v1_ps f64_v1_rs f64_v1_os (fun x => f64_v1_ok x.1 x.2.1) (fun x => f64_v1 x.1 x.2.1) (fun _ => ())
def f64_v1_ctx : Ctx := { tys := tys, fns := [(44, f44_spec), (74, f74_v2_spec)], loops := [(8, f64_v1_L8_spec), (15, f64_v1_L15_spec)], gh := [(1, [(4, 0, 400000, 400200)]), (41, [(4, 0, 400200, 0)])], wrap := false, n := 179, keep := [], wr := [], wants := [(74, [])] }
theorem f64_v1_cok : CtxOk Tryd.prog f64_v1_ctx := ctxOk_mk tys_ok ⟨f44_is, f74_v2_is, trivial⟩ rfl (by kernel_rfl)
noncomputable def f64_v1_code : Code := Tryd.f64.body.getD .skip
noncomputable def f64_v1_L8 : Code := nthLoop f64_v1_code 0
theorem f64_v1_L8_sum : ∀ y x, sumLoop f64_v1_ctx f64_v1_L8 f64_v1_L8_ly f64_v1_L8_lx f64_v1_L8_les y x = some (f64_v1_L8_ok y x, f64_v1_L8_g y x, y, f64_v1_L8_next y x, f64_v1_L8_es y x) := fun y x => by kernel_rfl
theorem f64_v1_L8_is : LoopSnd Tryd.prog f64_v1_ctx f64_v1_L8 := loop_gen f64_v1_cok mixed (bs := []) (by kernel_rfl) trivial (by kernel_rfl) (by kernel_rfl) f64_v1_L8_sum
noncomputable def f64_v1_L15 : Code := nthLoop f64_v1_code 1
theorem f64_v1_L15_sum : ∀ y x, sumLoop f64_v1_ctx f64_v1_L15 f64_v1_L15_ly f64_v1_L15_lx f64_v1_L15_les y x = some (f64_v1_L15_ok y x, f64_v1_L15_g y x, y, f64_v1_L15_next y x, f64_v1_L15_es y x) := fun y x => by kernel_rfl
theorem f64_v1_L15_is : LoopSnd Tryd.prog f64_v1_ctx f64_v1_L15 := loop_gen f64_v1_cok mixed (bs := []) (by kernel_rfl) trivial (by kernel_rfl) (by kernel_rfl) f64_v1_L15_sum
theorem f64_v1_sum : ∀ x, sumFn f64_v1_ctx f64_v1_code Tryd.f64.results.toList f64_v1_ps f64_v1_rs f64_v1_os x = some (f64_v1_ok x.1 x.2.1, f64_v1 x.1 x.2.1, ()) := fun x => by kernel_rfl
theorem f64_v1_is : SpecOk Tryd.prog 64 f64_v1_spec := func_gen f64_v1_cok mixed Tryd.func64 (by kernel_rfl) (by decide) rfl (bs := [f64_v1_L8, f64_v1_L15]) (by kernel_rfl) ⟨f64_v1_L8_is, f64_v1_L15_is, trivial⟩ (by kernel_rfl) (by kernel_rfl) rfl f64_v1_sum
def f43_L7_g (y : ((List D51) × (List D51) × Int × Unit)) (x : ((List (List D48)) × (List D48) × Int × Unit)) : Bool :=
  let a15 := y.2.2.1
  let a16 := x.2.2.1
  let v17 := (decide (a16 < a15))
  v17
def f43_L7_next (y : ((List D51) × (List D51) × Int × Unit)) (x : ((List (List D48)) × (List D48) × Int × Unit)) : ((List (List D48)) × (List D48) × Int × Unit) :=
  let a0 := y.1
  let a14 := y.2.1
  let a5 := x.1
  let a6 := x.2.1
  let a16 := x.2.2.1
  let v19 := (nth a14 a16 Z51)
  let v23 := (v19.1 == (1 : Int))
  let v26 := (nth v19.2.1 (0 : Int) Z48)
  let v27 := ([v26] : List D48)
  let v30 := (f64_v1 a6 v19)
  let m6 := (bif v23 then v27 else v30)
  let v33 := (len a0)
  let v34 := (v33 - (1 : Int))
  let v35 := (a16 == v34)
  let v39 := (a16 + (1 : Int))
  let v40 := (nth a0 v39 Z51)
  let v43 := (v40.1 == (1 : Int))
  let v44 := (bif v35 then true else v43)
  let v47 := ([m6] : List (List D48))
  let v48 := (a5 ++ v47)
  let m5 := (bif v44 then v48 else a5)
  let v49 := (a16 + (1 : Int))
  (m5, m6, v49, ())
def f43_L7_ok (y : ((List D51) × (List D51) × Int × Unit)) (x : ((List (List D48)) × (List D48) × Int × Unit)) : Prop :=
  let a0 := y.1
  let a14 := y.2.1
  let a15 := y.2.2.1
  let a5 := x.1
  let a6 := x.2.1
  let a16 := x.2.2.1
  let v17 := (decide (a16 < a15))
  let v19 := (nth a14 a16 Z51)
  let v23 := (v19.1 == (1 : Int))
  let v26 := (nth v19.2.1 (0 : Int) Z48)
  let v27 := ([v26] : List D48)
  let v30 := (f64_v1 a6 v19)
  let m6 := (bif v23 then v27 else v30)
  let v33 := (len a0)
  let v34 := (v33 - (1 : Int))
  let v35 := (a16 == v34)
  let g36_2 := (!v35)
  let v39 := (a16 + (1 : Int))
  let g36_3 := (!v35)
  let v40 := (nth a0 v39 Z51)
  let v43 := (v40.1 == (1 : Int))
  let v44 := (bif v35 then true else v43)
  let v47 := ([m6] : List (List D48))
  (v17 = true → (InB a16 (len a14) ∧ ((v23 = true → InB (0 : Int) 3) ∧ ((v23 = false → (f64_v1_ok a6 v19)) ∧ (InR (v33 - (1 : Int)) ∧ ((g36_2 = true → InR (a16 + (1 : Int))) ∧ ((g36_3 = true → InB v39 (len a0)) ∧ ((v44 = true → ((List.length a5 + List.length v47 : Nat) : Int) ≤ 4294967296) ∧ InR (a16 + (1 : Int))))))))))
instance (y : ((List D51) × (List D51) × Int × Unit)) (x : ((List (List D48)) × (List D48) × Int × Unit)) : Decidable (f43_L7_ok y x) := by
  unfold f43_L7_ok
  try dsimp only
  infer_instance
def f43_L7_x2 (y : ((List D51) × (List D51) × Int × Unit)) (x : ((List (List D48)) × (List D48) × Int × Unit)) : ((List (List D48)) × Unit) :=
  let a5 := x.1
  (a5, ())
def f43_L7_x2_0 (y : ((List D51) × (List D51) × Int × Unit)) (x : ((List (List D48)) × (List D48) × Int × Unit)) : (List (List D48)) := (f43_L7_x2 y x).1
def f43_L7_ly : List (Nat × Sh) := [(0, (.val (.sl T51))), (14, (.val (.sl T51))), (15, (.val (.int .i64)))]
def f43_L7_lx : List (Nat × Sh) := [(5, (.own (.sl T48) 1005 false)), (6, (.own T48 1006 false)), (16, (.val (.int .i64)))]
def f43_L7_les : List (List (Nat × Sh)) := [[(5, (.own (.sl T48) 1005 false))]]
def f43_L7_es (y : denL f43_L7_ly) (x : denL f43_L7_lx) : List Comp := [⟨2, none, mkSt [(5, (.own (.sl T48) 1005 false))] ((f43_L7_x2_0 y x), ()) ++ cutSt⟩]
def f43_L7_spec : St → Option Out := loopS f43_L7_ly f43_L7_lx f43_L7_g f43_L7_next f43_L7_ok f43_L7_es
def f43 (p0 : (List D51)) : ((List (List D48)) × Int × Unit) :=
  let v10 := (f54 p0)
  let v12 := (v10 != (0 : Int))
  let v15 := (len p0)
  let y7 := (p0, p0, v15, ())
  let x7 := (([] : List (List D48)), ([] : List D48), (0 : Int), ())
  let e7 := (loopEnd (f43_L7_g y7) (f43_L7_next y7) x7)
  let r7_2_0 := (f43_L7_x2_0 y7 e7)
  let m2 := (bif v12 then [] else r7_2_0)
  let m3 := (bif v12 then v10 else (0 : Int))
  (m2, m3, ())
def f43_ok (p0 : (List D51)) : Prop :=
  let v10 := (f54 p0)
  let v12 := (v10 != (0 : Int))
  let v15 := (len p0)
  let y7 := (p0, p0, v15, ())
  let x7 := (([] : List (List D48)), ([] : List D48), (0 : Int), ())
  ((f54_ok p0) ∧ ((!v12) = true → (Am.Ends (f43_L7_g y7) (f43_L7_next y7) (f43_L7_ok y7) x7)))
instance (p0 : (List D51)) : Decidable (f43_ok p0) := by
  unfold f43_ok
  try dsimp only
  infer_instance
def f43_ps : List (Nat × Sh) := [(0, (.val (.sl T51)))]
def f43_rs : Sh := (.tup (.cons (.own (.sl T48) 0 false) (.cons (.val (.int .i64)) .nl)))
def f43_os : List (Nat × Sh) := []
def f43_spec : Am.Spec := fnSpec f43_ps f43_rs f43_os (fun x => f43_ok x.1) (fun x => f43 x.1) (fun _ => ())
def f43_ctx : Ctx := { tys := tys, fns := [(54, f54_spec), (64, f64_v1_spec)], loops := [(7, f43_L7_spec)], gh := [(21, [(4, 0, 27, 1006)]), (23, [(4, 0, 30, 1006)]), (27, [(4, 0, 48, 1005)]), (31, [(4, 0, 1005, 0)])], wrap := false, n := 51, keep := [], wr := [], wants := [(64, [0])] }
theorem f43_cok : CtxOk Tryd.prog f43_ctx := ctxOk_mk tys_ok ⟨f54_is, f64_v1_is, trivial⟩ rfl (by kernel_rfl)
noncomputable def f43_code : Code := Tryd.f43.body.getD .skip
noncomputable def f43_L7 : Code := nthLoop f43_code 0
theorem f43_L7_sum : ∀ y x, sumLoop f43_ctx f43_L7 f43_L7_ly f43_L7_lx f43_L7_les y x = some (f43_L7_ok y x, f43_L7_g y x, y, f43_L7_next y x, f43_L7_es y x) := fun y x => by kernel_rfl
theorem f43_L7_is : LoopSnd Tryd.prog f43_ctx f43_L7 := loop_gen f43_cok mixed (bs := []) (by kernel_rfl) trivial (by kernel_rfl) (by kernel_rfl) f43_L7_sum
theorem f43_sum : ∀ x, sumFn f43_ctx f43_code Tryd.f43.results.toList f43_ps f43_rs f43_os x = some (f43_ok x.1, f43 x.1, ()) := fun x => by kernel_rfl
theorem f43_is : SpecOk Tryd.prog 43 f43_spec := func_gen f43_cok mixed Tryd.func43 (by kernel_rfl) (by decide) rfl (bs := [f43_L7]) (by kernel_rfl) ⟨f43_L7_is, trivial⟩ (by kernel_rfl) (by kernel_rfl) rfl f43_sum
def f20_L25_g (y : (Int × D25 × D91 × (List (List D48)) × Int × Int × D48 × (List (List UInt8)) × Int × Int × (List D48) × Int × Int × (List (List D48)) × Int × Int × (List D48) × Int × Unit)) (x : ((List D48) × Int × Unit)) : Bool :=
  let a90 := y.2.2.2.2.2.2.2.2.2.2.2.2.2.2.2.2.2.1
  let a91 := x.2.1
  let v92 := (decide (a91 < a90))
  v92
def f20_L25_next (y : (Int × D25 × D91 × (List (List D48)) × Int × Int × D48 × (List (List UInt8)) × Int × Int × (List D48) × Int × Int × (List (List D48)) × Int × Int × (List D48) × Int × Unit)) (x : ((List D48) × Int × Unit)) : ((List D48) × Int × Unit) :=
  let a2 := y.1
  let a4 := y.2.1
  let a14 := y.2.2.2.2.2.1
  let a19 := y.2.2.2.2.2.2.1
  let a89 := y.2.2.2.2.2.2.2.2.2.2.2.2.2.2.2.2.1
  let a24 := x.1
  let a91 := x.2.1
  let v94 := (nth a89 a91 Z48)
  let v102 := (a19.2.1 + v94.1)
  let v104 := (v102 * a2)
  let v107 := (f44 v104 a4.1)
  let v113 := (a14 * a4.2.2.1)
  let v114 := (a4.2.1 + v113)
  let v117 := (v114 - v94.2.1)
  let v119 := (v117 * a2)
  let v122 := (f44 v119 a4.1)
  let s := (v107, v122, ())
  let l1024 := (List.set a24 (Int.toNat a91) s)
  let v125 := (a91 + (1 : Int))
  (l1024, v125, ())
def f20_L25_ok (y : (Int × D25 × D91 × (List (List D48)) × Int × Int × D48 × (List (List UInt8)) × Int × Int × (List D48) × Int × Int × (List (List D48)) × Int × Int × (List D48) × Int × Unit)) (x : ((List D48) × Int × Unit)) : Prop :=
  let a2 := y.1
  let a4 := y.2.1
  let a14 := y.2.2.2.2.2.1
  let a19 := y.2.2.2.2.2.2.1
  let a89 := y.2.2.2.2.2.2.2.2.2.2.2.2.2.2.2.2.1
  let a90 := y.2.2.2.2.2.2.2.2.2.2.2.2.2.2.2.2.2.1
  let a24 := x.1
  let a91 := x.2.1
  let v92 := (decide (a91 < a90))
  let v94 := (nth a89 a91 Z48)
  let v102 := (a19.2.1 + v94.1)
  let v104 := (v102 * a2)
  let v113 := (a14 * a4.2.2.1)
  let v114 := (a4.2.1 + v113)
  let v117 := (v114 - v94.2.1)
  let v119 := (v117 * a2)
  (v92 = true → (InB a91 (len a89) ∧ (InR (a19.2.1 + v94.1) ∧ (InR (v102 * a2) ∧ ((f44_ok v104 a4.1) ∧ (InR (a14 * a4.2.2.1) ∧ (InR (a4.2.1 + v113) ∧ (InR (v114 - v94.2.1) ∧ (InR (v117 * a2) ∧ ((f44_ok v119 a4.1) ∧ (InB a91 (len a24) ∧ (a91 < len a24 ∧ InR (a91 + (1 : Int))))))))))))))
instance (y : (Int × D25 × D91 × (List (List D48)) × Int × Int × D48 × (List (List UInt8)) × Int × Int × (List D48) × Int × Int × (List (List D48)) × Int × Int × (List D48) × Int × Unit)) (x : ((List D48) × Int × Unit)) : Decidable (f20_L25_ok y x) := by
  unfold f20_L25_ok
  try dsimp only
  infer_instance
def f20_L25_x8 (y : (Int × D25 × D91 × (List (List D48)) × Int × Int × D48 × (List (List UInt8)) × Int × Int × (List D48) × Int × Int × (List (List D48)) × Int × Int × (List D48) × Int × Unit)) (x : ((List D48) × Int × Unit)) : ((List D48) × Unit) :=
  let a24 := x.1
  (a24, ())
def f20_L25_x8_0 (y : (Int × D25 × D91 × (List (List D48)) × Int × Int × D48 × (List (List UInt8)) × Int × Int × (List D48) × Int × Int × (List (List D48)) × Int × Int × (List D48) × Int × Unit)) (x : ((List D48) × Int × Unit)) : (List D48) := (f20_L25_x8 y x).1
def f20_L25_ly : List (Nat × Sh) := [(2, (.val (.int .i64))), (4, (.box T25 (.val T25))), (11, (.val (.ptr T91))), (12, (.own (.sl T48) 1012 false)), (13, (.val (.int .i64))), (14, (.val (.int .i64))), (19, (.box T48 (.val T48))), (41, (.val (.sl .str))), (42, (.val (.int .i64))), (43, (.val (.int .i64))), (54, (.own T48 1016 false)), (55, (.val (.int .i64))), (56, (.val (.int .i64))), (74, (.own (.sl T48) 1020 false)), (75, (.val (.int .i64))), (76, (.val (.int .i64))), (89, (.val (.sl T48))), (90, (.val (.int .i64)))]
def f20_L25_lx : List (Nat × Sh) := [(24, (.own T48 1024 true)), (91, (.val (.int .i64)))]
def f20_L25_les : List (List (Nat × Sh)) := [[(2, (.val (.int .i64))), (4, (.box T25 (.val T25))), (11, (.val (.ptr T91))), (12, (.own (.sl T48) 1012 false)), (13, (.val (.int .i64))), (14, (.val (.int .i64))), (19, (.box T48 (.val T48))), (24, (.own T48 1024 true)), (41, (.val (.sl .str))), (42, (.val (.int .i64))), (43, (.val (.int .i64))), (54, (.own T48 1016 false)), (55, (.val (.int .i64))), (56, (.val (.int .i64))), (74, (.own (.sl T48) 1020 false)), (75, (.val (.int .i64))), (76, (.val (.int .i64)))]]
def f20_L25_es (y : denL f20_L25_ly) (x : denL f20_L25_lx) : List Comp := [⟨8, none, mkSt [(2, (.val (.int .i64))), (4, (.box T25 (.val T25))), (11, (.val (.ptr T91))), (12, (.own (.sl T48) 1012 false)), (13, (.val (.int .i64))), (14, (.val (.int .i64))), (19, (.box T48 (.val T48))), (24, (.own T48 1024 true)), (41, (.val (.sl .str))), (42, (.val (.int .i64))), (43, (.val (.int .i64))), (54, (.own T48 1016 false)), (55, (.val (.int .i64))), (56, (.val (.int .i64))), (74, (.own (.sl T48) 1020 false)), (75, (.val (.int .i64))), (76, (.val (.int .i64)))] (y.1, y.2.1, y.2.2.1, y.2.2.2.1, y.2.2.2.2.1, y.2.2.2.2.2.1, y.2.2.2.2.2.2.1, (f20_L25_x8_0 y x), y.2.2.2.2.2.2.2.1, y.2.2.2.2.2.2.2.2.1, y.2.2.2.2.2.2.2.2.2.1, y.2.2.2.2.2.2.2.2.2.2.1, y.2.2.2.2.2.2.2.2.2.2.2.1, y.2.2.2.2.2.2.2.2.2.2.2.2.1, y.2.2.2.2.2.2.2.2.2.2.2.2.2.1, y.2.2.2.2.2.2.2.2.2.2.2.2.2.2.1, y.2.2.2.2.2.2.2.2.2.2.2.2.2.2.2.1, ()) ++ cutSt⟩]
def f20_L25_spec : St → Option Out := loopS f20_L25_ly f20_L25_lx f20_L25_g f20_L25_next f20_L25_ok f20_L25_es
def f20_L18_g (y : (Int × D25 × D91 × Int × D48 × (List (List UInt8)) × Int × Int × (List D48) × Int × Int × (List (List D48)) × Int × Unit)) (x : ((List (List D48)) × Int × Int × Unit)) : Bool :=
  let a74 := y.2.2.2.2.2.2.2.2.2.2.2.1
  let a75 := y.2.2.2.2.2.2.2.2.2.2.2.2.1
  let a13 := x.2.1
  let a76 := x.2.2.1
  let v77 := (decide (a76 < a75))
  let v78 := (nth a74 a76 ([] : List D48))
  let v82 := (len v78)
  let v83 := (a13 + v82)
  let v85 := (decide (v83 > (4096 : Int)))
  let c := (v77 && (!v85))
  c
def f20_L18_next (y : (Int × D25 × D91 × Int × D48 × (List (List UInt8)) × Int × Int × (List D48) × Int × Int × (List (List D48)) × Int × Unit)) (x : ((List (List D48)) × Int × Int × Unit)) : ((List (List D48)) × Int × Int × Unit) :=
  let a2 := y.1
  let a4 := y.2.1
  let a11 := y.2.2.1
  let a14 := y.2.2.2.1
  let a19 := y.2.2.2.2.1
  let a41 := y.2.2.2.2.2.1
  let a42 := y.2.2.2.2.2.2.1
  let a43 := y.2.2.2.2.2.2.2.1
  let a54 := y.2.2.2.2.2.2.2.2.1
  let a55 := y.2.2.2.2.2.2.2.2.2.1
  let a56 := y.2.2.2.2.2.2.2.2.2.2.1
  let a74 := y.2.2.2.2.2.2.2.2.2.2.2.1
  let a75 := y.2.2.2.2.2.2.2.2.2.2.2.2.1
  let a12 := x.1
  let a13 := x.2.1
  let a76 := x.2.2.1
  let v78 := (nth a74 a76 ([] : List D48))
  let v82 := (len v78)
  let v83 := (a13 + v82)
  let v87 := (len v78)
  let v88 := (List.replicate (Int.toNat v87) Z48)
  let v90 := (len v78)
  let y25 := (a2, a4, a11, a12, v83, a14, a19, a41, a42, a43, a54, a55, a56, a74, a75, a76, v78, v90, ())
  let x25 := (v88, (0 : Int), ())
  let e25 := (loopEnd (f20_L25_g y25) (f20_L25_next y25) x25)
  let r25_8_0 := (f20_L25_x8_0 y25 e25)
  let v128 := ([r25_8_0] : List (List D48))
  let v129 := (a12 ++ v128)
  let v130 := (a76 + (1 : Int))
  (v129, v83, v130, ())
def f20_L18_ok (y : (Int × D25 × D91 × Int × D48 × (List (List UInt8)) × Int × Int × (List D48) × Int × Int × (List (List D48)) × Int × Unit)) (x : ((List (List D48)) × Int × Int × Unit)) : Prop :=
  let a2 := y.1
  let a4 := y.2.1
  let a11 := y.2.2.1
  let a14 := y.2.2.2.1
  let a19 := y.2.2.2.2.1
  let a41 := y.2.2.2.2.2.1
  let a42 := y.2.2.2.2.2.2.1
  let a43 := y.2.2.2.2.2.2.2.1
  let a54 := y.2.2.2.2.2.2.2.2.1
  let a55 := y.2.2.2.2.2.2.2.2.2.1
  let a56 := y.2.2.2.2.2.2.2.2.2.2.1
  let a74 := y.2.2.2.2.2.2.2.2.2.2.2.1
  let a75 := y.2.2.2.2.2.2.2.2.2.2.2.2.1
  let a12 := x.1
  let a13 := x.2.1
  let a76 := x.2.2.1
  let v77 := (decide (a76 < a75))
  let v78 := (nth a74 a76 ([] : List D48))
  let v82 := (len v78)
  let v83 := (a13 + v82)
  let v85 := (decide (v83 > (4096 : Int)))
  let v87 := (len v78)
  let v88 := (List.replicate (Int.toNat v87) Z48)
  let v90 := (len v78)
  let y25 := (a2, a4, a11, a12, v83, a14, a19, a41, a42, a43, a54, a55, a56, a74, a75, a76, v78, v90, ())
  let x25 := (v88, (0 : Int), ())
  let e25 := (loopEnd (f20_L25_g y25) (f20_L25_next y25) x25)
  let r25_8_0 := (f20_L25_x8_0 y25 e25)
  let v128 := ([r25_8_0] : List (List D48))
  (v77 = true → (InB a76 (len a74) ∧ (InR (a13 + v82) ∧ (((!v85) = true → ((0 ≤ v87 ∧ v87 ≤ v87 ∧ v87 ≤ 4294967296) ∧ ((Am.Ends (f20_L25_g y25) (f20_L25_next y25) (f20_L25_ok y25) x25) ∧ ((List.length a12 + List.length v128 : Nat) : Int) ≤ 4294967296))) ∧ ((!v85) = true → InR (a76 + (1 : Int)))))))
instance (y : (Int × D25 × D91 × Int × D48 × (List (List UInt8)) × Int × Int × (List D48) × Int × Int × (List (List D48)) × Int × Unit)) (x : ((List (List D48)) × Int × Int × Unit)) : Decidable (f20_L18_ok y x) := by
  unfold f20_L18_ok
  try dsimp only
  infer_instance
def f20_L18_x1 (y : (Int × D25 × D91 × Int × D48 × (List (List UInt8)) × Int × Int × (List D48) × Int × Int × (List (List D48)) × Int × Unit)) (x : ((List (List D48)) × Int × Int × Unit)) : ((List (List D48)) × Int × Unit) :=
  (([] : List (List D48)), (3 : Int), ())
def f20_L18_x1_0 (y : (Int × D25 × D91 × Int × D48 × (List (List UInt8)) × Int × Int × (List D48) × Int × Int × (List (List D48)) × Int × Unit)) (x : ((List (List D48)) × Int × Int × Unit)) : (List (List D48)) := (f20_L18_x1 y x).1
def f20_L18_x1_1 (y : (Int × D25 × D91 × Int × D48 × (List (List UInt8)) × Int × Int × (List D48) × Int × Int × (List (List D48)) × Int × Unit)) (x : ((List (List D48)) × Int × Int × Unit)) : Int := (f20_L18_x1 y x).2.1
def f20_L18_e1 (y : (Int × D25 × D91 × Int × D48 × (List (List UInt8)) × Int × Int × (List D48) × Int × Int × (List (List D48)) × Int × Unit)) (x : ((List (List D48)) × Int × Int × Unit)) : Bool :=
  let a74 := y.2.2.2.2.2.2.2.2.2.2.2.1
  let a75 := y.2.2.2.2.2.2.2.2.2.2.2.2.1
  let a13 := x.2.1
  let a76 := x.2.2.1
  let v77 := (decide (a76 < a75))
  let v78 := (nth a74 a76 ([] : List D48))
  let v82 := (len v78)
  let v83 := (a13 + v82)
  let v85 := (decide (v83 > (4096 : Int)))
  let c_1 := (v77 && v85)
  c_1
def f20_L18_x6 (y : (Int × D25 × D91 × Int × D48 × (List (List UInt8)) × Int × Int × (List D48) × Int × Int × (List (List D48)) × Int × Unit)) (x : ((List (List D48)) × Int × Int × Unit)) : ((List (List D48)) × Int × Unit) :=
  let a12 := x.1
  let a13 := x.2.1
  (a12, a13, ())
def f20_L18_x6_0 (y : (Int × D25 × D91 × Int × D48 × (List (List UInt8)) × Int × Int × (List D48) × Int × Int × (List (List D48)) × Int × Unit)) (x : ((List (List D48)) × Int × Int × Unit)) : (List (List D48)) := (f20_L18_x6 y x).1
def f20_L18_x6_1 (y : (Int × D25 × D91 × Int × D48 × (List (List UInt8)) × Int × Int × (List D48) × Int × Int × (List (List D48)) × Int × Unit)) (x : ((List (List D48)) × Int × Int × Unit)) : Int := (f20_L18_x6 y x).2.1
def f20_L18_e6 (y : (Int × D25 × D91 × Int × D48 × (List (List UInt8)) × Int × Int × (List D48) × Int × Int × (List (List D48)) × Int × Unit)) (x : ((List (List D48)) × Int × Int × Unit)) : Bool :=
  let a75 := y.2.2.2.2.2.2.2.2.2.2.2.2.1
  let a76 := x.2.2.1
  let v77 := (decide (a76 < a75))
  (!v77)
def f20_L18_ly : List (Nat × Sh) := [(2, (.val (.int .i64))), (4, (.box T25 (.val T25))), (11, (.val (.ptr T91))), (14, (.val (.int .i64))), (19, (.box T48 (.val T48))), (41, (.val (.sl .str))), (42, (.val (.int .i64))), (43, (.val (.int .i64))), (54, (.own T48 1016 false)), (55, (.val (.int .i64))), (56, (.val (.int .i64))), (74, (.own (.sl T48) 1020 false)), (75, (.val (.int .i64)))]
def f20_L18_lx : List (Nat × Sh) := [(12, (.own (.sl T48) 1012 false)), (13, (.val (.int .i64))), (76, (.val (.int .i64)))]
def f20_L18_les : List (List (Nat × Sh)) := [[(8, (.own (.sl T48) 0 false)), (9, (.val (.int .i64)))], [(2, (.val (.int .i64))), (4, (.box T25 (.val T25))), (11, (.val (.ptr T91))), (12, (.own (.sl T48) 1012 false)), (13, (.val (.int .i64))), (14, (.val (.int .i64))), (41, (.val (.sl .str))), (42, (.val (.int .i64))), (43, (.val (.int .i64))), (54, (.own T48 1016 false)), (55, (.val (.int .i64))), (56, (.val (.int .i64)))]]
def f20_L18_es (y : denL f20_L18_ly) (x : denL f20_L18_lx) : List Comp := [⟨1, some (f20_L18_e1 y x), mkSt [(8, (.own (.sl T48) 0 false)), (9, (.val (.int .i64)))] ((f20_L18_x1_0 y x), (f20_L18_x1_1 y x), ()) ++ cutSt⟩, ⟨6, some (f20_L18_e6 y x), mkSt [(2, (.val (.int .i64))), (4, (.box T25 (.val T25))), (11, (.val (.ptr T91))), (12, (.own (.sl T48) 1012 false)), (13, (.val (.int .i64))), (14, (.val (.int .i64))), (41, (.val (.sl .str))), (42, (.val (.int .i64))), (43, (.val (.int .i64))), (54, (.own T48 1016 false)), (55, (.val (.int .i64))), (56, (.val (.int .i64)))] (y.1, y.2.1, y.2.2.1, (f20_L18_x6_0 y x), (f20_L18_x6_1 y x), y.2.2.2.1, y.2.2.2.2.2.1, y.2.2.2.2.2.2.1, y.2.2.2.2.2.2.2.1, y.2.2.2.2.2.2.2.2.1, y.2.2.2.2.2.2.2.2.2.1, y.2.2.2.2.2.2.2.2.2.2.1, ()) ++ cutSt⟩]
def f20_L18_spec : St → Option Out := loopS f20_L18_ly f20_L18_lx f20_L18_g f20_L18_next f20_L18_ok f20_L18_es
def f20_L12_g (y : (Int × D25 × D91 × Int × (List (List UInt8)) × Int × Int × (List D48) × Int × Unit)) (x : ((List (List D48)) × Int × Int × Unit)) : Bool :=
  let a2 := y.1
  let a4 := y.2.1
  let a11 := y.2.2.1
  let a14 := y.2.2.2.1
  let a41 := y.2.2.2.2.1
  let a42 := y.2.2.2.2.2.1
  let a43 := y.2.2.2.2.2.2.1
  let a54 := y.2.2.2.2.2.2.2.1
  let a55 := y.2.2.2.2.2.2.2.2.1
  let a12 := x.1
  let a13 := x.2.1
  let a56 := x.2.2.1
  let v57 := (decide (a56 < a55))
  let v58 := (nth a54 a56 Z48)
  let v65 := (nth a4.2.2.2.1 v58.1 Z46)
  let v68 := (f43 v65.2.2.1)
  let v72 := (v68.2.1 != (0 : Int))
  let v75 := (len v68.1)
  let y18 := (a2, a4, a11, a14, v58, a41, a42, a43, a54, a55, a56, v68.1, v75, ())
  let x18 := (a12, a13, (0 : Int), ())
  let e18 := (loopEnd (f20_L18_g y18) (f20_L18_next y18) x18)
  let q18_6 := (f20_L18_e6 y18 e18)
  let c := ((!v72) && q18_6)
  let c_3 := (v57 && c)
  c_3
def f20_L12_next (y : (Int × D25 × D91 × Int × (List (List UInt8)) × Int × Int × (List D48) × Int × Unit)) (x : ((List (List D48)) × Int × Int × Unit)) : ((List (List D48)) × Int × Int × Unit) :=
  let a2 := y.1
  let a4 := y.2.1
  let a11 := y.2.2.1
  let a14 := y.2.2.2.1
  let a41 := y.2.2.2.2.1
  let a42 := y.2.2.2.2.2.1
  let a43 := y.2.2.2.2.2.2.1
  let a54 := y.2.2.2.2.2.2.2.1
  let a55 := y.2.2.2.2.2.2.2.2.1
  let a12 := x.1
  let a13 := x.2.1
  let a56 := x.2.2.1
  let v58 := (nth a54 a56 Z48)
  let v65 := (nth a4.2.2.2.1 v58.1 Z46)
  let v68 := (f43 v65.2.2.1)
  let v75 := (len v68.1)
  let y18 := (a2, a4, a11, a14, v58, a41, a42, a43, a54, a55, a56, v68.1, v75, ())
  let x18 := (a12, a13, (0 : Int), ())
  let e18 := (loopEnd (f20_L18_g y18) (f20_L18_next y18) x18)
  let r18_6_0 := (f20_L18_x6_0 y18 e18)
  let r18_6_1 := (f20_L18_x6_1 y18 e18)
  let v131 := (a56 + (1 : Int))
  (r18_6_0, r18_6_1, v131, ())
def f20_L12_ok (y : (Int × D25 × D91 × Int × (List (List UInt8)) × Int × Int × (List D48) × Int × Unit)) (x : ((List (List D48)) × Int × Int × Unit)) : Prop :=
  let a2 := y.1
  let a4 := y.2.1
  let a11 := y.2.2.1
  let a14 := y.2.2.2.1
  let a41 := y.2.2.2.2.1
  let a42 := y.2.2.2.2.2.1
  let a43 := y.2.2.2.2.2.2.1
  let a54 := y.2.2.2.2.2.2.2.1
  let a55 := y.2.2.2.2.2.2.2.2.1
  let a12 := x.1
  let a13 := x.2.1
  let a56 := x.2.2.1
  let v57 := (decide (a56 < a55))
  let v58 := (nth a54 a56 Z48)
  let v65 := (nth a4.2.2.2.1 v58.1 Z46)
  let v68 := (f43 v65.2.2.1)
  let v72 := (v68.2.1 != (0 : Int))
  let v75 := (len v68.1)
  let y18 := (a2, a4, a11, a14, v58, a41, a42, a43, a54, a55, a56, v68.1, v75, ())
  let x18 := (a12, a13, (0 : Int), ())
  let e18 := (loopEnd (f20_L18_g y18) (f20_L18_next y18) x18)
  let q18_6 := (f20_L18_e6 y18 e18)
  let c := ((!v72) && q18_6)
  (v57 = true → (InB a56 (len a54) ∧ (InB v58.1 (len a4.2.2.2.1) ∧ ((f43_ok v65.2.2.1) ∧ (((!v72) = true → (Am.Ends (f20_L18_g y18) (f20_L18_next y18) (f20_L18_ok y18) x18)) ∧ (c = true → InR (a56 + (1 : Int))))))))
instance (y : (Int × D25 × D91 × Int × (List (List UInt8)) × Int × Int × (List D48) × Int × Unit)) (x : ((List (List D48)) × Int × Int × Unit)) : Decidable (f20_L12_ok y x) := by
  unfold f20_L12_ok
  try dsimp only
  infer_instance
def f20_L12_x1 (y : (Int × D25 × D91 × Int × (List (List UInt8)) × Int × Int × (List D48) × Int × Unit)) (x : ((List (List D48)) × Int × Int × Unit)) : ((List (List D48)) × Int × Unit) :=
  let a2 := y.1
  let a4 := y.2.1
  let a11 := y.2.2.1
  let a14 := y.2.2.2.1
  let a41 := y.2.2.2.2.1
  let a42 := y.2.2.2.2.2.1
  let a43 := y.2.2.2.2.2.2.1
  let a54 := y.2.2.2.2.2.2.2.1
  let a55 := y.2.2.2.2.2.2.2.2.1
  let a12 := x.1
  let a13 := x.2.1
  let a56 := x.2.2.1
  let v58 := (nth a54 a56 Z48)
  let v65 := (nth a4.2.2.2.1 v58.1 Z46)
  let v68 := (f43 v65.2.2.1)
  let v72 := (v68.2.1 != (0 : Int))
  let v75 := (len v68.1)
  let y18 := (a2, a4, a11, a14, v58, a41, a42, a43, a54, a55, a56, v68.1, v75, ())
  let x18 := (a12, a13, (0 : Int), ())
  let e18 := (loopEnd (f20_L18_g y18) (f20_L18_next y18) x18)
  let r18_1_0 := (f20_L18_x1_0 y18 e18)
  let r18_1_1 := (f20_L18_x1_1 y18 e18)
  let m8 := (bif v72 then [] else r18_1_0)
  let m9 := (bif v72 then v68.2.1 else r18_1_1)
  (m8, m9, ())
def f20_L12_x1_0 (y : (Int × D25 × D91 × Int × (List (List UInt8)) × Int × Int × (List D48) × Int × Unit)) (x : ((List (List D48)) × Int × Int × Unit)) : (List (List D48)) := (f20_L12_x1 y x).1
def f20_L12_x1_1 (y : (Int × D25 × D91 × Int × (List (List UInt8)) × Int × Int × (List D48) × Int × Unit)) (x : ((List (List D48)) × Int × Int × Unit)) : Int := (f20_L12_x1 y x).2.1
def f20_L12_e1 (y : (Int × D25 × D91 × Int × (List (List UInt8)) × Int × Int × (List D48) × Int × Unit)) (x : ((List (List D48)) × Int × Int × Unit)) : Bool :=
  let a2 := y.1
  let a4 := y.2.1
  let a11 := y.2.2.1
  let a14 := y.2.2.2.1
  let a41 := y.2.2.2.2.1
  let a42 := y.2.2.2.2.2.1
  let a43 := y.2.2.2.2.2.2.1
  let a54 := y.2.2.2.2.2.2.2.1
  let a55 := y.2.2.2.2.2.2.2.2.1
  let a12 := x.1
  let a13 := x.2.1
  let a56 := x.2.2.1
  let v57 := (decide (a56 < a55))
  let v58 := (nth a54 a56 Z48)
  let v65 := (nth a4.2.2.2.1 v58.1 Z46)
  let v68 := (f43 v65.2.2.1)
  let v72 := (v68.2.1 != (0 : Int))
  let v75 := (len v68.1)
  let y18 := (a2, a4, a11, a14, v58, a41, a42, a43, a54, a55, a56, v68.1, v75, ())
  let x18 := (a12, a13, (0 : Int), ())
  let e18 := (loopEnd (f20_L18_g y18) (f20_L18_next y18) x18)
  let q18_1 := (f20_L18_e1 y18 e18)
  let c_1 := ((!v72) && q18_1)
  let c_2 := (v72 || c_1)
  let c_4 := (v57 && c_2)
  c_4
def f20_L12_x4 (y : (Int × D25 × D91 × Int × (List (List UInt8)) × Int × Int × (List D48) × Int × Unit)) (x : ((List (List D48)) × Int × Int × Unit)) : ((List (List D48)) × Int × Unit) :=
  let a12 := x.1
  let a13 := x.2.1
  (a12, a13, ())
def f20_L12_x4_0 (y : (Int × D25 × D91 × Int × (List (List UInt8)) × Int × Int × (List D48) × Int × Unit)) (x : ((List (List D48)) × Int × Int × Unit)) : (List (List D48)) := (f20_L12_x4 y x).1
def f20_L12_x4_1 (y : (Int × D25 × D91 × Int × (List (List UInt8)) × Int × Int × (List D48) × Int × Unit)) (x : ((List (List D48)) × Int × Int × Unit)) : Int := (f20_L12_x4 y x).2.1
def f20_L12_e4 (y : (Int × D25 × D91 × Int × (List (List UInt8)) × Int × Int × (List D48) × Int × Unit)) (x : ((List (List D48)) × Int × Int × Unit)) : Bool :=
  let a55 := y.2.2.2.2.2.2.2.2.1
  let a56 := x.2.2.1
  let v57 := (decide (a56 < a55))
  (!v57)
def f20_L12_ly : List (Nat × Sh) := [(2, (.val (.int .i64))), (4, (.box T25 (.val T25))), (11, (.val (.ptr T91))), (14, (.val (.int .i64))), (41, (.val (.sl .str))), (42, (.val (.int .i64))), (43, (.val (.int .i64))), (54, (.own T48 1016 false)), (55, (.val (.int .i64)))]
def f20_L12_lx : List (Nat × Sh) := [(12, (.own (.sl T48) 1012 false)), (13, (.val (.int .i64))), (56, (.val (.int .i64)))]
def f20_L12_les : List (List (Nat × Sh)) := [[(8, (.own (.sl T48) 0 false)), (9, (.val (.int .i64)))], [(2, (.val (.int .i64))), (4, (.box T25 (.val T25))), (11, (.val (.ptr T91))), (12, (.own (.sl T48) 1012 false)), (13, (.val (.int .i64))), (41, (.val (.sl .str))), (42, (.val (.int .i64))), (43, (.val (.int .i64)))]]
def f20_L12_es (y : denL f20_L12_ly) (x : denL f20_L12_lx) : List Comp := [⟨1, some (f20_L12_e1 y x), mkSt [(8, (.own (.sl T48) 0 false)), (9, (.val (.int .i64)))] ((f20_L12_x1_0 y x), (f20_L12_x1_1 y x), ()) ++ cutSt⟩, ⟨4, some (f20_L12_e4 y x), mkSt [(2, (.val (.int .i64))), (4, (.box T25 (.val T25))), (11, (.val (.ptr T91))), (12, (.own (.sl T48) 1012 false)), (13, (.val (.int .i64))), (41, (.val (.sl .str))), (42, (.val (.int .i64))), (43, (.val (.int .i64)))] (y.1, y.2.1, y.2.2.1, (f20_L12_x4_0 y x), (f20_L12_x4_1 y x), y.2.2.2.2.1, y.2.2.2.2.2.1, y.2.2.2.2.2.2.1, ()) ++ cutSt⟩]
def f20_L12_spec : St → Option Out := loopS f20_L12_ly f20_L12_lx f20_L12_g f20_L12_next f20_L12_ok f20_L12_es
def f20_L8_g (y : (Int × D25 × D91 × (List (List UInt8)) × Int × Unit)) (x : ((List (List D48)) × Int × Int × Unit)) : Bool :=
  let a2 := y.1
  let a4 := y.2.1
  let a11 := y.2.2.1
  let a41 := y.2.2.2.1
  let a42 := y.2.2.2.2.1
  let a12 := x.1
  let a13 := x.2.1
  let a43 := x.2.2.1
  let v44 := (decide (a43 < a42))
  let v46 := (nth a41 a43 ([] : List UInt8))
  let v51 := (f42 a11 v46)
  let v55 := (len v51.1)
  let y12 := (a2, a4, a11, a43, a41, a42, a43, v51.1, v55, ())
  let x12 := (a12, a13, (0 : Int), ())
  let e12 := (loopEnd (f20_L12_g y12) (f20_L12_next y12) x12)
  let q12_4 := (f20_L12_e4 y12 e12)
  let c := (v44 && q12_4)
  c
def f20_L8_next (y : (Int × D25 × D91 × (List (List UInt8)) × Int × Unit)) (x : ((List (List D48)) × Int × Int × Unit)) : ((List (List D48)) × Int × Int × Unit) :=
  let a2 := y.1
  let a4 := y.2.1
  let a11 := y.2.2.1
  let a41 := y.2.2.2.1
  let a42 := y.2.2.2.2.1
  let a12 := x.1
  let a13 := x.2.1
  let a43 := x.2.2.1
  let v46 := (nth a41 a43 ([] : List UInt8))
  let v51 := (f42 a11 v46)
  let v55 := (len v51.1)
  let y12 := (a2, a4, a11, a43, a41, a42, a43, v51.1, v55, ())
  let x12 := (a12, a13, (0 : Int), ())
  let e12 := (loopEnd (f20_L12_g y12) (f20_L12_next y12) x12)
  let r12_4_0 := (f20_L12_x4_0 y12 e12)
  let r12_4_1 := (f20_L12_x4_1 y12 e12)
  let v132 := (a43 + (1 : Int))
  (r12_4_0, r12_4_1, v132, ())
def f20_L8_ok (y : (Int × D25 × D91 × (List (List UInt8)) × Int × Unit)) (x : ((List (List D48)) × Int × Int × Unit)) : Prop :=
  let a2 := y.1
  let a4 := y.2.1
  let a11 := y.2.2.1
  let a41 := y.2.2.2.1
  let a42 := y.2.2.2.2.1
  let a12 := x.1
  let a13 := x.2.1
  let a43 := x.2.2.1
  let v44 := (decide (a43 < a42))
  let v46 := (nth a41 a43 ([] : List UInt8))
  let v51 := (f42 a11 v46)
  let v55 := (len v51.1)
  let y12 := (a2, a4, a11, a43, a41, a42, a43, v51.1, v55, ())
  let x12 := (a12, a13, (0 : Int), ())
  let e12 := (loopEnd (f20_L12_g y12) (f20_L12_next y12) x12)
  let q12_4 := (f20_L12_e4 y12 e12)
  (v44 = true → (InB a43 (len a41) ∧ ((f42_ok a11 v46) ∧ ((Am.Ends (f20_L12_g y12) (f20_L12_next y12) (f20_L12_ok y12) x12) ∧ (q12_4 = true → InR (a43 + (1 : Int)))))))
instance (y : (Int × D25 × D91 × (List (List UInt8)) × Int × Unit)) (x : ((List (List D48)) × Int × Int × Unit)) : Decidable (f20_L8_ok y x) := by
  unfold f20_L8_ok
  try dsimp only
  infer_instance
def f20_L8_x1 (y : (Int × D25 × D91 × (List (List UInt8)) × Int × Unit)) (x : ((List (List D48)) × Int × Int × Unit)) : ((List (List D48)) × Int × Unit) :=
  let a2 := y.1
  let a4 := y.2.1
  let a11 := y.2.2.1
  let a41 := y.2.2.2.1
  let a42 := y.2.2.2.2.1
  let a12 := x.1
  let a13 := x.2.1
  let a43 := x.2.2.1
  let v46 := (nth a41 a43 ([] : List UInt8))
  let v51 := (f42 a11 v46)
  let v55 := (len v51.1)
  let y12 := (a2, a4, a11, a43, a41, a42, a43, v51.1, v55, ())
  let x12 := (a12, a13, (0 : Int), ())
  let e12 := (loopEnd (f20_L12_g y12) (f20_L12_next y12) x12)
  let r12_1_0 := (f20_L12_x1_0 y12 e12)
  let r12_1_1 := (f20_L12_x1_1 y12 e12)
  (r12_1_0, r12_1_1, ())
def f20_L8_x1_0 (y : (Int × D25 × D91 × (List (List UInt8)) × Int × Unit)) (x : ((List (List D48)) × Int × Int × Unit)) : (List (List D48)) := (f20_L8_x1 y x).1
def f20_L8_x1_1 (y : (Int × D25 × D91 × (List (List UInt8)) × Int × Unit)) (x : ((List (List D48)) × Int × Int × Unit)) : Int := (f20_L8_x1 y x).2.1
def f20_L8_e1 (y : (Int × D25 × D91 × (List (List UInt8)) × Int × Unit)) (x : ((List (List D48)) × Int × Int × Unit)) : Bool :=
  let a2 := y.1
  let a4 := y.2.1
  let a11 := y.2.2.1
  let a41 := y.2.2.2.1
  let a42 := y.2.2.2.2.1
  let a12 := x.1
  let a13 := x.2.1
  let a43 := x.2.2.1
  let v44 := (decide (a43 < a42))
  let v46 := (nth a41 a43 ([] : List UInt8))
  let v51 := (f42 a11 v46)
  let v55 := (len v51.1)
  let y12 := (a2, a4, a11, a43, a41, a42, a43, v51.1, v55, ())
  let x12 := (a12, a13, (0 : Int), ())
  let e12 := (loopEnd (f20_L12_g y12) (f20_L12_next y12) x12)
  let q12_1 := (f20_L12_e1 y12 e12)
  let c_1 := (v44 && q12_1)
  c_1
def f20_L8_x2 (y : (Int × D25 × D91 × (List (List UInt8)) × Int × Unit)) (x : ((List (List D48)) × Int × Int × Unit)) : ((List (List D48)) × Unit) :=
  let a12 := x.1
  (a12, ())
def f20_L8_x2_0 (y : (Int × D25 × D91 × (List (List UInt8)) × Int × Unit)) (x : ((List (List D48)) × Int × Int × Unit)) : (List (List D48)) := (f20_L8_x2 y x).1
def f20_L8_e2 (y : (Int × D25 × D91 × (List (List UInt8)) × Int × Unit)) (x : ((List (List D48)) × Int × Int × Unit)) : Bool :=
  let a42 := y.2.2.2.2.1
  let a43 := x.2.2.1
  let v44 := (decide (a43 < a42))
  (!v44)
def f20_L8_ly : List (Nat × Sh) := [(2, (.val (.int .i64))), (4, (.box T25 (.val T25))), (11, (.val (.ptr T91))), (41, (.val (.sl .str))), (42, (.val (.int .i64)))]
def f20_L8_lx : List (Nat × Sh) := [(12, (.own (.sl T48) 1012 false)), (13, (.val (.int .i64))), (43, (.val (.int .i64)))]
def f20_L8_les : List (List (Nat × Sh)) := [[(8, (.own (.sl T48) 0 false)), (9, (.val (.int .i64)))], [(12, (.own (.sl T48) 1012 false))]]
def f20_L8_es (y : denL f20_L8_ly) (x : denL f20_L8_lx) : List Comp := [⟨1, some (f20_L8_e1 y x), mkSt [(8, (.own (.sl T48) 0 false)), (9, (.val (.int .i64)))] ((f20_L8_x1_0 y x), (f20_L8_x1_1 y x), ()) ++ cutSt⟩, ⟨2, some (f20_L8_e2 y x), mkSt [(12, (.own (.sl T48) 1012 false))] ((f20_L8_x2_0 y x), ()) ++ cutSt⟩]
def f20_L8_spec : St → Option Out := loopS f20_L8_ly f20_L8_lx f20_L8_g f20_L8_next f20_L8_ok f20_L8_es
def f20 (p0 : D25) (p1 : (List UInt8)) (p2 : Int) (p3 : Int) : ((List (List D48)) × Int × Unit) :=
  let v31 := (f39 p0 p1 p2 p3)
  let v33 := (v31 != (0 : Int))
  let v36 := (f32 p0)
  let v41 := (f40 v36 p1 p2 p3)
  let v42 := (len v41)
  let y8 := (p2, p0, v36, v41, v42, ())
  let x8 := (([] : List (List D48)), (0 : Int), (0 : Int), ())
  let e8 := (loopEnd (f20_L8_g y8) (f20_L8_next y8) x8)
  let r8_1_0 := (f20_L8_x1_0 y8 e8)
  let r8_1_1 := (f20_L8_x1_1 y8 e8)
  let q8_1 := (f20_L8_e1 y8 e8)
  let r8_2_0 := (f20_L8_x2_0 y8 e8)
  let m8 := (bif q8_1 then r8_1_0 else r8_2_0)
  let m9 := (bif q8_1 then r8_1_1 else (0 : Int))
  let m8_1 := (bif v33 then [] else m8)
  let m9_1 := (bif v33 then v31 else m9)
  (m8_1, m9_1, ())
def f20_ok (p0 : D25) (p1 : (List UInt8)) (p2 : Int) (p3 : Int) : Prop :=
  let v31 := (f39 p0 p1 p2 p3)
  let v33 := (v31 != (0 : Int))
  let v36 := (f32 p0)
  let v41 := (f40 v36 p1 p2 p3)
  let v42 := (len v41)
  let y8 := (p2, p0, v36, v41, v42, ())
  let x8 := (([] : List (List D48)), (0 : Int), (0 : Int), ())
  ((f39_ok p0 p1 p2 p3) ∧ ((!v33) = true → ((f32_ok p0) ∧ ((f40_ok v36 p1 p2 p3) ∧ (Am.Ends (f20_L8_g y8) (f20_L8_next y8) (f20_L8_ok y8) x8)))))
instance (p0 : D25) (p1 : (List UInt8)) (p2 : Int) (p3 : Int) : Decidable (f20_ok p0 p1 p2 p3) := by
  unfold f20_ok
  try dsimp only
  infer_instance
def f20_ps : List (Nat × Sh) := [(0, (.val T25)), (1, (.val .str)), (2, (.val (.int .i64))), (3, (.val (.int .i64)))]
def f20_rs : Sh := (.tup (.cons (.own (.sl T48) 0 false) (.cons (.val (.int .i64)) .nl)))
def f20_os : List (Nat × Sh) := []
def f20_spec : Am.Spec := fnSpec f20_ps f20_rs f20_os (fun x => f20_ok x.1 x.2.1 x.2.2.1 x.2.2.2.1) (fun x => f20 x.1 x.2.1 x.2.2.1 x.2.2.2.1) (fun _ => ())
def f20_ctx : Ctx := { tys := tys, fns := [(32, f32_spec), (39, f39_spec), (40, f40_spec), (42, f42_spec), (43, f43_spec), (44, f44_spec)], loops := [(25, f20_L25_spec), (18, f20_L18_spec), (12, f20_L12_spec), (8, f20_L8_spec)], gh := [(21, [(4, 0, 51, 1016)]), (29, [(4, 0, 68, 1020)]), (47, [(4, 0, 88, 1024)]), (58, [(1, 24, 0, 0)]), (59, [(4, 0, 129, 1012)]), (67, [(4, 0, 1012, 0)])], wrap := false, n := 134, keep := [], wr := [88] }
theorem f20_cok : CtxOk Tryd.prog f20_ctx := ctxOk_mk tys_ok ⟨f32_is, f39_is, f40_is, f42_is, f43_is, f44_is, trivial⟩ rfl (by kernel_rfl)
noncomputable def f20_code : Code := Tryd.f20.body.getD .skip
noncomputable def f20_L8 : Code := nthLoop f20_code 0
noncomputable def f20_L12 : Code := nthLoop f20_L8 0
noncomputable def f20_L18 : Code := nthLoop f20_L12 0
noncomputable def f20_L25 : Code := nthLoop f20_L18 0
theorem f20_L25_sum : ∀ y x, sumLoop f20_ctx f20_L25 f20_L25_ly f20_L25_lx f20_L25_les y x = some (f20_L25_ok y x, f20_L25_g y x, y, f20_L25_next y x, f20_L25_es y x) := fun y x => by kernel_rfl
theorem f20_L25_is : LoopSnd Tryd.prog f20_ctx f20_L25 := loop_gen f20_cok mixed (bs := []) (by kernel_rfl) trivial (by kernel_rfl) (by kernel_rfl) f20_L25_sum
theorem f20_L18_sum : ∀ y x, sumLoop f20_ctx f20_L18 f20_L18_ly f20_L18_lx f20_L18_les y x = some (f20_L18_ok y x, f20_L18_g y x, y, f20_L18_next y x, f20_L18_es y x) := fun y x => by kernel_rfl
theorem f20_L18_is : LoopSnd Tryd.prog f20_ctx f20_L18 := loop_gen f20_cok mixed (bs := [f20_L25]) (by kernel_rfl) ⟨f20_L25_is, trivial⟩ (by kernel_rfl) (by kernel_rfl) f20_L18_sum
theorem f20_L12_sum : ∀ y x, sumLoop f20_ctx f20_L12 f20_L12_ly f20_L12_lx f20_L12_les y x = some (f20_L12_ok y x, f20_L12_g y x, y, f20_L12_next y x, f20_L12_es y x) := fun y x => by kernel_rfl
theorem f20_L12_is : LoopSnd Tryd.prog f20_ctx f20_L12 := loop_gen f20_cok mixed (bs := [f20_L18]) (by kernel_rfl) ⟨f20_L18_is, trivial⟩ (by kernel_rfl) (by kernel_rfl) f20_L12_sum
theorem f20_L8_sum : ∀ y x, sumLoop f20_ctx f20_L8 f20_L8_ly f20_L8_lx f20_L8_les y x = some (f20_L8_ok y x, f20_L8_g y x, y, f20_L8_next y x, f20_L8_es y x) := fun y x => by kernel_rfl
theorem f20_L8_is : LoopSnd Tryd.prog f20_ctx f20_L8 := loop_gen f20_cok mixed (bs := [f20_L12]) (by kernel_rfl) ⟨f20_L12_is, trivial⟩ (by kernel_rfl) (by kernel_rfl) f20_L8_sum
theorem f20_sum : ∀ x, sumFn f20_ctx f20_code Tryd.f20.results.toList f20_ps f20_rs f20_os x = some (f20_ok x.1 x.2.1 x.2.2.1 x.2.2.2.1, f20 x.1 x.2.1 x.2.2.1 x.2.2.2.1, ()) := fun x => by kernel_rfl
theorem f20_is : SpecOk Tryd.prog 20 f20_spec := func_gen f20_cok mixed Tryd.func20 (by kernel_rfl) (by decide) rfl (bs := [f20_L8]) (by kernel_rfl) ⟨f20_L8_is, trivial⟩ (by kernel_rfl) (by kernel_rfl) rfl f20_sum
def f13k (k10 : D25)  : Bool :=
  let v9 := (f17 k10 ([97, 97, 32, 98, 98, 32, 99, 99] : List UInt8) (10 : Int) (30 : Int))
  let v14 := (f20 k10 ([45] : List UInt8) (1000 : Int) (0 : Int))
  let v18 := (v9.2.1 != (0 : Int))
  let v21 := ([([97, 97, 32, 98, 98] : List UInt8), ([99, 99] : List UInt8)] : List (List UInt8))
  let v22 := (f19 v9.1 v21)
  let v23 := (!v22)
  let v24 := (bif v18 then true else v23)
  let v27 := (v14.2.1 != (0 : Int))
  let v28 := (bif v24 then true else v27)
  let v31 := (len v14.1)
  let v32 := (v31 != (5 : Int))
  let v33 := (bif v28 then true else v32)
  let v36 := (nth v14.1 (0 : Int) ([] : List D48))
  let v38 := (len v36)
  let v39 := (v38 != (4 : Int))
  let v40 := (bif v33 then true else v39)
  let v42 := (nth v14.1 (0 : Int) ([] : List D48))
  let v44 := (nth v42 (0 : Int) Z48)
  let s := ((0 : Int), (400 : Int), ())
  let v47 := (Ty.eqb T48 v44 s)
  let v50 := (nth v14.1 (0 : Int) ([] : List D48))
  let v52 := (nth v50 (2 : Int) Z48)
  let s_1 := ((100 : Int), (500 : Int), ())
  let v55 := (Ty.eqb T48 v52 s_1)
  let v56 := (bif v47 then v55 else false)
  let v59 := (f15 k10 ([65, 86] : List UInt8) (160 : Int))
  let v60 := (v59 == (176 : Int))
  let v61 := (bif v56 then v60 else false)
  let v64 := (f15 k10 ([200] : List UInt8) (160 : Int))
  let v66 := (f15 k10 ([63] : List UInt8) (160 : Int))
  let v67 := (v64 == v66)
  let v68 := (bif v61 then v67 else false)
  let m0 := (bif v40 then false else v68)
  m0
def f13 : Bool := f13k f10
def f13k_ok (k10 : D25)  : Prop :=
  let v9 := (f17 k10 ([97, 97, 32, 98, 98, 32, 99, 99] : List UInt8) (10 : Int) (30 : Int))
  let v14 := (f20 k10 ([45] : List UInt8) (1000 : Int) (0 : Int))
  let v18 := (v9.2.1 != (0 : Int))
  let v21 := ([([97, 97, 32, 98, 98] : List UInt8), ([99, 99] : List UInt8)] : List (List UInt8))
  let g19_2 := (!v18)
  let v22 := (f19 v9.1 v21)
  let v23 := (!v22)
  let v24 := (bif v18 then true else v23)
  let v27 := (v14.2.1 != (0 : Int))
  let v28 := (bif v24 then true else v27)
  let v31 := (len v14.1)
  let v32 := (v31 != (5 : Int))
  let v33 := (bif v28 then true else v32)
  let g34_1 := (!v33)
  let v36 := (nth v14.1 (0 : Int) ([] : List D48))
  let v38 := (len v36)
  let v39 := (v38 != (4 : Int))
  let v40 := (bif v33 then true else v39)
  let v42 := (nth v14.1 (0 : Int) ([] : List D48))
  let v44 := (nth v42 (0 : Int) Z48)
  let s := ((0 : Int), (400 : Int), ())
  let v47 := (Ty.eqb T48 v44 s)
  let v50 := (nth v14.1 (0 : Int) ([] : List D48))
  let v52 := (nth v50 (2 : Int) Z48)
  let s_1 := ((100 : Int), (500 : Int), ())
  let v55 := (Ty.eqb T48 v52 s_1)
  let v56 := (bif v47 then v55 else false)
  let v59 := (f15 k10 ([65, 86] : List UInt8) (160 : Int))
  let v60 := (v59 == (176 : Int))
  let v61 := (bif v56 then v60 else false)
  (f10_ok ∧ ((f17_ok k10 ([97, 97, 32, 98, 98, 32, 99, 99] : List UInt8) (10 : Int) (30 : Int)) ∧ ((f20_ok k10 ([45] : List UInt8) (1000 : Int) (0 : Int)) ∧ ((g19_2 = true → (f19_ok v9.1 v21)) ∧ ((g34_1 = true → InB (0 : Int) (len v14.1)) ∧ ((!v40) = true → (InB (0 : Int) (len v14.1) ∧ (InB (0 : Int) (len v42) ∧ ((v47 = true → InB (0 : Int) (len v14.1)) ∧ ((v47 = true → InB (2 : Int) (len v50)) ∧ ((v56 = true → (f15_ok k10 ([65, 86] : List UInt8) (160 : Int))) ∧ ((v61 = true → (f15_ok k10 ([200] : List UInt8) (160 : Int))) ∧ (v61 = true → (f15_ok k10 ([63] : List UInt8) (160 : Int)))))))))))))))
def f13_ok : Prop := f13k_ok f10
instance (k10 : D25) : Decidable (f13k_ok k10) := by
  unfold f13k_ok
  try dsimp only
  infer_instance
instance : Decidable f13_ok := by
  unfold f13_ok
  infer_instance
def f13_ps : List (Nat × Sh) := []
def f13_rs : Sh := (.val .bool)
def f13_os : List (Nat × Sh) := []
def f13_spec : Am.Spec := fnSpec f13_ps f13_rs f13_os (fun x => f13_ok ) (fun x => f13 ) (fun _ => ())
def f13_ctx (k10 : D25) : Ctx := { tys := tys, fns := [(10, fnSpec f10_ps f10_rs f10_os (fun _ => f10_ok) (fun _ => k10) (fun _ => ())), (15, f15_spec), (17, f17_spec), (19, f19_spec), (20, f20_spec)], loops := [], gh := [(7, [(4, 0, 14, 1004)])], wrap := false, n := 69, keep := [], wr := [] }
theorem f13_cok : CtxOk Tryd.prog (f13_ctx f10) := ctxOk_mk tys_ok ⟨f10_is, f15_is, f17_is, f19_is, f20_is, trivial⟩ rfl (by kernel_rfl)
noncomputable def f13_code : Code := Tryd.f13.body.getD .skip
theorem f13_sum : ∀ (k10 : D25) x, sumFn (f13_ctx k10) f13_code Tryd.f13.results.toList f13_ps f13_rs f13_os x = some (f13k_ok k10, f13k k10, ()) := fun k10 x => by kernel_rfl
theorem f13_is : SpecOk Tryd.prog 13 f13_spec := func_gen f13_cok mixed Tryd.func13 (by kernel_rfl) (by decide) rfl (bs := []) (by kernel_rfl) trivial (by kernel_rfl) (by kernel_rfl) rfl (f13_sum f10)
def f3k (k10 : D25) (k11 : D25) (k13 : Bool)  : Bool :=
  let v3 := (f9 k10 k11)
  let v6 := (f12 k10)
  let v7 := (v6 == (0 : Int))
  let v8 := (bif v3 then v7 else false)
  let v11 := (bif v8 then k13 else false)
  v11
def f3 : Bool := f3k f10 f11 f13
def f3k_ok (k10 : D25) (k11 : D25) (k13 : Bool)  : Prop :=
  let v3 := (f9 k10 k11)
  let v6 := (f12 k10)
  let v7 := (v6 == (0 : Int))
  let v8 := (bif v3 then v7 else false)
  (f10_ok ∧ (f11_ok ∧ ((f9_ok k10 k11) ∧ ((v3 = true → f10_ok) ∧ ((v3 = true → (f12_ok k10)) ∧ (v8 = true → f13_ok))))))
def f3_ok : Prop := f3k_ok f10 f11 f13
instance (k10 : D25) (k11 : D25) (k13 : Bool) : Decidable (f3k_ok k10 k11 k13) := by
  unfold f3k_ok
  try dsimp only
  infer_instance
instance : Decidable f3_ok := by
  unfold f3_ok
  infer_instance
def f3_ps : List (Nat × Sh) := []
def f3_rs : Sh := (.val .bool)
def f3_os : List (Nat × Sh) := []
def f3_spec : Am.Spec := fnSpec f3_ps f3_rs f3_os (fun x => f3_ok ) (fun x => f3 ) (fun _ => ())
def f3_ctx (k10 : D25) (k11 : D25) (k13 : Bool) : Ctx := { tys := tys, fns := [(9, f9_spec), (10, fnSpec f10_ps f10_rs f10_os (fun _ => f10_ok) (fun _ => k10) (fun _ => ())), (11, fnSpec f11_ps f11_rs f11_os (fun _ => f11_ok) (fun _ => k11) (fun _ => ())), (12, f12_spec), (13, fnSpec f13_ps f13_rs f13_os (fun _ => f13_ok) (fun _ => k13) (fun _ => ()))], loops := [], gh := [], wrap := false, n := 12, keep := [], wr := [] }
theorem f3_cok : CtxOk Tryd.prog (f3_ctx f10 f11 f13) := ctxOk_mk tys_ok ⟨f9_is, f10_is, f11_is, f12_is, f13_is, trivial⟩ rfl (by kernel_rfl)
noncomputable def f3_code : Code := Tryd.f3.body.getD .skip
theorem f3_sum : ∀ (k10 : D25) (k11 : D25) (k13 : Bool) x, sumFn (f3_ctx k10 k11 k13) f3_code Tryd.f3.results.toList f3_ps f3_rs f3_os x = some (f3k_ok k10 k11 k13, f3k k10 k11 k13, ()) := fun k10 k11 k13 x => by kernel_rfl
theorem f3_is : SpecOk Tryd.prog 3 f3_spec := func_gen f3_cok mixed Tryd.func3 (by kernel_rfl) (by decide) rfl (bs := []) (by kernel_rfl) trivial (by kernel_rfl) (by kernel_rfl) rfl (f3_sum f10 f11 f13)
def f55 (p0 : Int) : Int :=
  let v5 := (p0 == (1 : Int))
  let v6 := (p0 == (2 : Int))
  let m4 := (bif v5 then v5 else v6)
  let v8 := (p0 == (3 : Int))
  let v10 := (p0 == (4 : Int))
  let v12 := (p0 == (5 : Int))
  let c := (bif v10 then true else v12)
  let m2 := (bif v10 then (3 : Int) else (0 : Int))
  let c_2 := (bif v8 then true else c)
  let m2_1 := (bif v8 then (2 : Int) else m2)
  let c_4 := (bif m4 then true else c_2)
  let m2_2 := (bif m4 then (1 : Int) else m2_1)
  let m2_3 := (bif c_4 then m2_2 else (-1 : Int))
  m2_3
def f55_ok (p0 : Int) : Prop :=
  True
instance (p0 : Int) : Decidable (f55_ok p0) := by
  unfold f55_ok
  try dsimp only
  infer_instance
def f55_ps : List (Nat × Sh) := [(0, (.val (.int .i64)))]
def f55_rs : Sh := (.val (.int .i64))
def f55_os : List (Nat × Sh) := []
def f55_spec : Am.Spec := fnSpec f55_ps f55_rs f55_os (fun x => f55_ok x.1) (fun x => f55 x.1) (fun _ => ())
def f55_ctx : Ctx := { tys := tys, fns := [], loops := [], gh := [], wrap := false, n := 13, keep := [], wr := [] }
theorem f55_cok : CtxOk Tryd.prog f55_ctx := ctxOk_mk tys_ok trivial rfl (by kernel_rfl)
noncomputable def f55_code : Code := Tryd.f55.body.getD .skip
theorem f55_sum : ∀ x, sumFn f55_ctx f55_code Tryd.f55.results.toList f55_ps f55_rs f55_os x = some (f55_ok x.1, f55 x.1, ()) := fun x => by kernel_rfl
theorem f55_is : SpecOk Tryd.prog 55 f55_spec := func_gen f55_cok mixed Tryd.func55 (by kernel_rfl) (by decide) rfl (bs := []) (by kernel_rfl) trivial (by kernel_rfl) (by kernel_rfl) rfl f55_sum
def f71 (p0 : D48) : Bool :=
  let v5 := (decide (p0.1 ≥ (-16777216 : Int)))
  let v9 := (decide (p0.1 ≤ (16777216 : Int)))
  let v10 := (bif v5 then v9 else false)
  let v14 := (decide (p0.2.1 ≥ (-16777216 : Int)))
  let v15 := (bif v10 then v14 else false)
  let v19 := (decide (p0.2.1 ≤ (16777216 : Int)))
  let v20 := (bif v15 then v19 else false)
  v20
def f71_ok (p0 : D48) : Prop :=
  True
instance (p0 : D48) : Decidable (f71_ok p0) := by
  unfold f71_ok
  try dsimp only
  infer_instance
def f71_ps : List (Nat × Sh) := [(0, (.val T48))]
def f71_rs : Sh := (.val .bool)
def f71_os : List (Nat × Sh) := []
def f71_spec : Am.Spec := fnSpec f71_ps f71_rs f71_os (fun x => f71_ok x.1) (fun x => f71 x.1) (fun _ => ())
def f71_ctx : Ctx := { tys := tys, fns := [], loops := [], gh := [], wrap := false, n := 21, keep := [], wr := [] }
theorem f71_cok : CtxOk Tryd.prog f71_ctx := ctxOk_mk tys_ok trivial rfl (by kernel_rfl)
noncomputable def f71_code : Code := Tryd.f71.body.getD .skip
theorem f71_sum : ∀ x, sumFn f71_ctx f71_code Tryd.f71.results.toList f71_ps f71_rs f71_os x = some (f71_ok x.1, f71 x.1, ()) := fun x => by kernel_rfl
theorem f71_is : SpecOk Tryd.prog 71 f71_spec := func_gen f71_cok mixed Tryd.func71 (by kernel_rfl) (by decide) rfl (bs := []) (by kernel_rfl) trivial (by kernel_rfl) (by kernel_rfl) rfl f71_sum
def f56_L2_g (y : (D51 × Unit)) (x : (Int × Unit)) : Bool :=
  let a1 := y.1
  let a3 := x.1
  let v5 := (decide (a3 < (3 : Int)))
  let v11 := (f55 a1.1)
  let v12 := (decide (a3 < v11))
  let v17 := (nth a1.2.1 a3 Z48)
  let v18 := (f71 v17)
  let v19 := (!v18)
  let v20 := (bif v12 then v19 else false)
  let v25 := (f55 a1.1)
  let v26 := (decide (a3 ≥ v25))
  let v31 := (nth a1.2.1 a3 Z48)
  let s := ((0 : Int), (0 : Int), ())
  let v33 := (!(Ty.eqb T48 v31 s))
  let v34 := (bif v26 then v33 else false)
  let v35 := (bif v20 then true else v34)
  let c := (v5 && (!v35))
  c
def f56_L2_next (y : (D51 × Unit)) (x : (Int × Unit)) : (Int × Unit) :=
  let a3 := x.1
  let v7 := (a3 + (1 : Int))
  (v7, ())
def f56_L2_ok (y : (D51 × Unit)) (x : (Int × Unit)) : Prop :=
  let a1 := y.1
  let a3 := x.1
  let v5 := (decide (a3 < (3 : Int)))
  let v11 := (f55 a1.1)
  let v12 := (decide (a3 < v11))
  let v17 := (nth a1.2.1 a3 Z48)
  let v18 := (f71 v17)
  let v19 := (!v18)
  let v20 := (bif v12 then v19 else false)
  let g21_3 := (!v20)
  let v25 := (f55 a1.1)
  let v26 := (decide (a3 ≥ v25))
  let g21_5 := (!v20)
  let g27_2 := (g21_5 && v26)
  let v31 := (nth a1.2.1 a3 Z48)
  let s := ((0 : Int), (0 : Int), ())
  let v33 := (!(Ty.eqb T48 v31 s))
  let v34 := (bif v26 then v33 else false)
  let v35 := (bif v20 then true else v34)
  (v5 = true → ((f55_ok a1.1) ∧ ((v12 = true → InB a3 3) ∧ ((v12 = true → (f71_ok v17)) ∧ ((g21_3 = true → (f55_ok a1.1)) ∧ ((g27_2 = true → InB a3 3) ∧ ((!v35) = true → InR (a3 + (1 : Int)))))))))
instance (y : (D51 × Unit)) (x : (Int × Unit)) : Decidable (f56_L2_ok y x) := by
  unfold f56_L2_ok
  try dsimp only
  infer_instance
def f56_L2_x1 (y : (D51 × Unit)) (x : (Int × Unit)) : (Bool × Unit) :=
  (false, ())
def f56_L2_x1_0 (y : (D51 × Unit)) (x : (Int × Unit)) : Bool := (f56_L2_x1 y x).1
def f56_L2_e1 (y : (D51 × Unit)) (x : (Int × Unit)) : Bool :=
  let a1 := y.1
  let a3 := x.1
  let v5 := (decide (a3 < (3 : Int)))
  let v11 := (f55 a1.1)
  let v12 := (decide (a3 < v11))
  let v17 := (nth a1.2.1 a3 Z48)
  let v18 := (f71 v17)
  let v19 := (!v18)
  let v20 := (bif v12 then v19 else false)
  let v25 := (f55 a1.1)
  let v26 := (decide (a3 ≥ v25))
  let v31 := (nth a1.2.1 a3 Z48)
  let s := ((0 : Int), (0 : Int), ())
  let v33 := (!(Ty.eqb T48 v31 s))
  let v34 := (bif v26 then v33 else false)
  let v35 := (bif v20 then true else v34)
  let c_1 := (v5 && v35)
  c_1
def f56_L2_x2 (y : (D51 × Unit)) (x : (Int × Unit)) : (Unit) :=
  ()
def f56_L2_e2 (y : (D51 × Unit)) (x : (Int × Unit)) : Bool :=
  let a3 := x.1
  let v5 := (decide (a3 < (3 : Int)))
  (!v5)
def f56_L2_ly : List (Nat × Sh) := [(1, (.box T51 (.val T51)))]
def f56_L2_lx : List (Nat × Sh) := [(3, (.val (.int .i64)))]
def f56_L2_les : List (List (Nat × Sh)) := [[(2, (.val .bool))], []]
def f56_L2_es (y : denL f56_L2_ly) (x : denL f56_L2_lx) : List Comp := [⟨1, some (f56_L2_e1 y x), mkSt [(2, (.val .bool))] ((f56_L2_x1_0 y x), ()) ++ cutSt⟩, ⟨2, some (f56_L2_e2 y x), mkSt [] () ++ cutSt⟩]
def f56_L2_spec : St → Option Out := loopS f56_L2_ly f56_L2_lx f56_L2_g f56_L2_next f56_L2_ok f56_L2_es
def f56 (p0 : D51) : Bool :=
  let y2 := (p0, ())
  let x2 := ((0 : Int), ())
  let e2 := (loopEnd (f56_L2_g y2) (f56_L2_next y2) x2)
  let r2_1_0 := (f56_L2_x1_0 y2 e2)
  let q2_1 := (f56_L2_e1 y2 e2)
  let m2 := (bif q2_1 then r2_1_0 else true)
  m2
def f56_ok (p0 : D51) : Prop :=
  let y2 := (p0, ())
  let x2 := ((0 : Int), ())
  (Am.Ends (f56_L2_g y2) (f56_L2_next y2) (f56_L2_ok y2) x2)
instance (p0 : D51) : Decidable (f56_ok p0) := by
  unfold f56_ok
  try dsimp only
  infer_instance
def f56_ps : List (Nat × Sh) := [(0, (.val T51))]
def f56_rs : Sh := (.val .bool)
def f56_os : List (Nat × Sh) := []
def f56_spec : Am.Spec := fnSpec f56_ps f56_rs f56_os (fun x => f56_ok x.1) (fun x => f56 x.1) (fun _ => ())
def f56_ctx : Ctx := { tys := tys, fns := [(55, f55_spec), (71, f71_spec)], loops := [(2, f56_L2_spec)], gh := [], wrap := false, n := 36, keep := [], wr := [] }
theorem f56_cok : CtxOk Tryd.prog f56_ctx := ctxOk_mk tys_ok ⟨f55_is, f71_is, trivial⟩ rfl (by kernel_rfl)
noncomputable def f56_code : Code := Tryd.f56.body.getD .skip
noncomputable def f56_L2 : Code := nthLoop f56_code 0
theorem f56_L2_sum : ∀ y x, sumLoop f56_ctx f56_L2 f56_L2_ly f56_L2_lx f56_L2_les y x = some (f56_L2_ok y x, f56_L2_g y x, y, f56_L2_next y x, f56_L2_es y x) := fun y x => by kernel_rfl
theorem f56_L2_is : LoopSnd Tryd.prog f56_ctx f56_L2 := loop_gen f56_cok mixed (bs := []) (by kernel_rfl) trivial (by kernel_rfl) (by kernel_rfl) f56_L2_sum
theorem f56_sum : ∀ x, sumFn f56_ctx f56_code Tryd.f56.results.toList f56_ps f56_rs f56_os x = some (f56_ok x.1, f56 x.1, ()) := fun x => by kernel_rfl
theorem f56_is : SpecOk Tryd.prog 56 f56_spec := func_gen f56_cok mixed Tryd.func56 (by kernel_rfl) (by decide) rfl (bs := [f56_L2]) (by kernel_rfl) ⟨f56_L2_is, trivial⟩ (by kernel_rfl) (by kernel_rfl) rfl f56_sum
def f30_L4_g (y : ((List D51) × Unit)) (x : (Int × Unit)) : Bool :=
  let a0 := y.1
  let a3 := x.1
  let v9 := (len a0)
  let v10 := (decide (a3 < v9))
  let v15 := (nth a0 a3 Z51)
  let v18 := (f55 v15.1)
  let v19 := (decide (v18 < (0 : Int)))
  let v22 := (nth a0 a3 Z51)
  let v24 := (f56 v22)
  let v25 := (!v24)
  let v28 := (nth a0 a3 Z51)
  let v31 := (v28.1 != (1 : Int))
  let v34 := (a3 == (0 : Int))
  let v38 := (a3 - (1 : Int))
  let v39 := (nth a0 v38 Z51)
  let v42 := (v39.1 == (5 : Int))
  let v43 := (bif v34 then true else v42)
  let v44 := (bif v31 then v43 else false)
  let c_2 := ((!v25) && (!v44))
  let c_5 := ((!v19) && c_2)
  let c_6 := (v10 && c_5)
  c_6
def f30_L4_next (y : ((List D51) × Unit)) (x : (Int × Unit)) : (Int × Unit) :=
  let a3 := x.1
  let v12 := (a3 + (1 : Int))
  (v12, ())
def f30_L4_ok (y : ((List D51) × Unit)) (x : (Int × Unit)) : Prop :=
  let a0 := y.1
  let a3 := x.1
  let v9 := (len a0)
  let v10 := (decide (a3 < v9))
  let v15 := (nth a0 a3 Z51)
  let v18 := (f55 v15.1)
  let v19 := (decide (v18 < (0 : Int)))
  let v22 := (nth a0 a3 Z51)
  let v24 := (f56 v22)
  let v25 := (!v24)
  let v28 := (nth a0 a3 Z51)
  let v31 := (v28.1 != (1 : Int))
  let v34 := (a3 == (0 : Int))
  let g35_2 := (v31 && (!v34))
  let v38 := (a3 - (1 : Int))
  let g35_3 := (v31 && (!v34))
  let v39 := (nth a0 v38 Z51)
  let v42 := (v39.1 == (5 : Int))
  let v43 := (bif v34 then true else v42)
  let v44 := (bif v31 then v43 else false)
  let c_2 := ((!v25) && (!v44))
  let c_5 := ((!v19) && c_2)
  (v10 = true → (InB a3 (len a0) ∧ ((f55_ok v15.1) ∧ (((!v19) = true → (InB a3 (len a0) ∧ ((f56_ok v22) ∧ ((!v25) = true → (InB a3 (len a0) ∧ ((g35_2 = true → InR (a3 - (1 : Int))) ∧ (g35_3 = true → InB v38 (len a0)))))))) ∧ (c_5 = true → InR (a3 + (1 : Int)))))))
instance (y : ((List D51) × Unit)) (x : (Int × Unit)) : Decidable (f30_L4_ok y x) := by
  unfold f30_L4_ok
  try dsimp only
  infer_instance
def f30_L4_x1 (y : ((List D51) × Unit)) (x : (Int × Unit)) : (Int × Unit) :=
  let a0 := y.1
  let a3 := x.1
  let v15 := (nth a0 a3 Z51)
  let v18 := (f55 v15.1)
  let v19 := (decide (v18 < (0 : Int)))
  let v22 := (nth a0 a3 Z51)
  let v24 := (f56 v22)
  let v25 := (!v24)
  let m2 := (bif v25 then (2 : Int) else (24 : Int))
  let m2_1 := (bif v19 then (8 : Int) else m2)
  (m2_1, ())
def f30_L4_x1_0 (y : ((List D51) × Unit)) (x : (Int × Unit)) : Int := (f30_L4_x1 y x).1
def f30_L4_e1 (y : ((List D51) × Unit)) (x : (Int × Unit)) : Bool :=
  let a0 := y.1
  let a3 := x.1
  let v9 := (len a0)
  let v10 := (decide (a3 < v9))
  let v15 := (nth a0 a3 Z51)
  let v18 := (f55 v15.1)
  let v19 := (decide (v18 < (0 : Int)))
  let v22 := (nth a0 a3 Z51)
  let v24 := (f56 v22)
  let v25 := (!v24)
  let v28 := (nth a0 a3 Z51)
  let v31 := (v28.1 != (1 : Int))
  let v34 := (a3 == (0 : Int))
  let v38 := (a3 - (1 : Int))
  let v39 := (nth a0 v38 Z51)
  let v42 := (v39.1 == (5 : Int))
  let v43 := (bif v34 then true else v42)
  let v44 := (bif v31 then v43 else false)
  let c := ((!v25) && v44)
  let c_1 := (v25 || c)
  let c_3 := ((!v19) && c_1)
  let c_4 := (v19 || c_3)
  let c_7 := (v10 && c_4)
  c_7
def f30_L4_x2 (y : ((List D51) × Unit)) (x : (Int × Unit)) : (Unit) :=
  ()
def f30_L4_e2 (y : ((List D51) × Unit)) (x : (Int × Unit)) : Bool :=
  let a0 := y.1
  let a3 := x.1
  let v9 := (len a0)
  let v10 := (decide (a3 < v9))
  (!v10)
def f30_L4_ly : List (Nat × Sh) := [(0, (.val (.sl T51)))]
def f30_L4_lx : List (Nat × Sh) := [(3, (.val (.int .i64)))]
def f30_L4_les : List (List (Nat × Sh)) := [[(2, (.val (.int .i64)))], []]
def f30_L4_es (y : denL f30_L4_ly) (x : denL f30_L4_lx) : List Comp := [⟨1, some (f30_L4_e1 y x), mkSt [(2, (.val (.int .i64)))] ((f30_L4_x1_0 y x), ()) ++ cutSt⟩, ⟨2, some (f30_L4_e2 y x), mkSt [] () ++ cutSt⟩]
def f30_L4_spec : St → Option Out := loopS f30_L4_ly f30_L4_lx f30_L4_g f30_L4_next f30_L4_ok f30_L4_es
def f30 (p0 : (List D51)) : Int :=
  let v5 := (len p0)
  let v6 := (decide (v5 > (128 : Int)))
  let y4 := (p0, ())
  let x4 := ((0 : Int), ())
  let e4 := (loopEnd (f30_L4_g y4) (f30_L4_next y4) x4)
  let r4_1_0 := (f30_L4_x1_0 y4 e4)
  let q4_1 := (f30_L4_e1 y4 e4)
  let m2 := (bif q4_1 then r4_1_0 else (0 : Int))
  let m2_1 := (bif v6 then (3 : Int) else m2)
  m2_1
def f30_ok (p0 : (List D51)) : Prop :=
  let v5 := (len p0)
  let v6 := (decide (v5 > (128 : Int)))
  let y4 := (p0, ())
  let x4 := ((0 : Int), ())
  ((!v6) = true → (Am.Ends (f30_L4_g y4) (f30_L4_next y4) (f30_L4_ok y4) x4))
instance (p0 : (List D51)) : Decidable (f30_ok p0) := by
  unfold f30_ok
  try dsimp only
  infer_instance
def f30_ps : List (Nat × Sh) := [(0, (.val (.sl T51)))]
def f30_rs : Sh := (.val (.int .i64))
def f30_os : List (Nat × Sh) := []
def f30_spec : Am.Spec := fnSpec f30_ps f30_rs f30_os (fun x => f30_ok x.1) (fun x => f30 x.1) (fun _ => ())
def f30_ctx : Ctx := { tys := tys, fns := [(55, f55_spec), (56, f56_spec)], loops := [(4, f30_L4_spec)], gh := [], wrap := false, n := 45, keep := [], wr := [] }
theorem f30_cok : CtxOk Tryd.prog f30_ctx := ctxOk_mk tys_ok ⟨f55_is, f56_is, trivial⟩ rfl (by kernel_rfl)
noncomputable def f30_code : Code := Tryd.f30.body.getD .skip
noncomputable def f30_L4 : Code := nthLoop f30_code 0
theorem f30_L4_sum : ∀ y x, sumLoop f30_ctx f30_L4 f30_L4_ly f30_L4_lx f30_L4_les y x = some (f30_L4_ok y x, f30_L4_g y x, y, f30_L4_next y x, f30_L4_es y x) := fun y x => by kernel_rfl
theorem f30_L4_is : LoopSnd Tryd.prog f30_ctx f30_L4 := loop_gen f30_cok mixed (bs := []) (by kernel_rfl) trivial (by kernel_rfl) (by kernel_rfl) f30_L4_sum
theorem f30_sum : ∀ x, sumFn f30_ctx f30_code Tryd.f30.results.toList f30_ps f30_rs f30_os x = some (f30_ok x.1, f30 x.1, ()) := fun x => by kernel_rfl
theorem f30_is : SpecOk Tryd.prog 30 f30_spec := func_gen f30_cok mixed Tryd.func30 (by kernel_rfl) (by decide) rfl (bs := [f30_L4]) (by kernel_rfl) ⟨f30_L4_is, trivial⟩ (by kernel_rfl) (by kernel_rfl) rfl f30_sum
def f31_L5_g (y : ((List D51) × Int × Unit)) (x : (Int × Unit)) : Bool :=
  let a0 := y.1
  let a3 := y.2.1
  let a4 := x.1
  let v15 := (nth a0 a3 Z51)
  let v18 := (f55 v15.1)
  let v19 := (decide (a4 < v18))
  let v25 := (nth a0 a3 Z51)
  let v27 := (nth v25.2.1 a4 Z48)
  let v33 := (Int.sub 0 v27.1)
  let v38 := (Int.sub 0 v27.2.1)
  let v39 := (imax (imax (imax v27.1 v33) v27.2.1) v38)
  let v40 := (decide (v39 > (65536 : Int)))
  let c := (v19 && (!v40))
  c
def f31_L5_next (y : ((List D51) × Int × Unit)) (x : (Int × Unit)) : (Int × Unit) :=
  let a4 := x.1
  let v21 := (a4 + (1 : Int))
  (v21, ())
def f31_L5_ok (y : ((List D51) × Int × Unit)) (x : (Int × Unit)) : Prop :=
  let a0 := y.1
  let a3 := y.2.1
  let a4 := x.1
  let v15 := (nth a0 a3 Z51)
  let v18 := (f55 v15.1)
  let v19 := (decide (a4 < v18))
  let v25 := (nth a0 a3 Z51)
  let v27 := (nth v25.2.1 a4 Z48)
  let v33 := (Int.sub 0 v27.1)
  let v38 := (Int.sub 0 v27.2.1)
  let v39 := (imax (imax (imax v27.1 v33) v27.2.1) v38)
  let v40 := (decide (v39 > (65536 : Int)))
  (InB a3 (len a0) ∧ ((f55_ok v15.1) ∧ (v19 = true → (InB a3 (len a0) ∧ (InB a4 3 ∧ (InR (Int.sub 0 v27.1) ∧ (InR (Int.sub 0 v27.2.1) ∧ ((!v40) = true → InR (a4 + (1 : Int))))))))))
instance (y : ((List D51) × Int × Unit)) (x : (Int × Unit)) : Decidable (f31_L5_ok y x) := by
  unfold f31_L5_ok
  try dsimp only
  infer_instance
def f31_L5_x1 (y : ((List D51) × Int × Unit)) (x : (Int × Unit)) : (Bool × Unit) :=
  (false, ())
def f31_L5_x1_0 (y : ((List D51) × Int × Unit)) (x : (Int × Unit)) : Bool := (f31_L5_x1 y x).1
def f31_L5_e1 (y : ((List D51) × Int × Unit)) (x : (Int × Unit)) : Bool :=
  let a0 := y.1
  let a3 := y.2.1
  let a4 := x.1
  let v15 := (nth a0 a3 Z51)
  let v18 := (f55 v15.1)
  let v19 := (decide (a4 < v18))
  let v25 := (nth a0 a3 Z51)
  let v27 := (nth v25.2.1 a4 Z48)
  let v33 := (Int.sub 0 v27.1)
  let v38 := (Int.sub 0 v27.2.1)
  let v39 := (imax (imax (imax v27.1 v33) v27.2.1) v38)
  let v40 := (decide (v39 > (65536 : Int)))
  let c_1 := (v19 && v40)
  c_1
def f31_L5_x4 (y : ((List D51) × Int × Unit)) (x : (Int × Unit)) : (Unit) :=
  ()
def f31_L5_e4 (y : ((List D51) × Int × Unit)) (x : (Int × Unit)) : Bool :=
  let a0 := y.1
  let a3 := y.2.1
  let a4 := x.1
  let v15 := (nth a0 a3 Z51)
  let v18 := (f55 v15.1)
  let v19 := (decide (a4 < v18))
  (!v19)
def f31_L5_ly : List (Nat × Sh) := [(0, (.val (.sl T51))), (3, (.val (.int .i64)))]
def f31_L5_lx : List (Nat × Sh) := [(4, (.val (.int .i64)))]
def f31_L5_les : List (List (Nat × Sh)) := [[(2, (.val .bool))], [(0, (.val (.sl T51))), (3, (.val (.int .i64)))]]
def f31_L5_es (y : denL f31_L5_ly) (x : denL f31_L5_lx) : List Comp := [⟨1, some (f31_L5_e1 y x), mkSt [(2, (.val .bool))] ((f31_L5_x1_0 y x), ()) ++ cutSt⟩, ⟨4, some (f31_L5_e4 y x), mkSt [(0, (.val (.sl T51))), (3, (.val (.int .i64)))] (y.1, y.2.1, ()) ++ cutSt⟩]
def f31_L5_spec : St → Option Out := loopS f31_L5_ly f31_L5_lx f31_L5_g f31_L5_next f31_L5_ok f31_L5_es
def f31_L2_g (y : ((List D51) × Unit)) (x : (Int × Unit)) : Bool :=
  let a0 := y.1
  let a3 := x.1
  let v8 := (len a0)
  let v9 := (decide (a3 < v8))
  let y5 := (a0, a3, ())
  let x5 := ((0 : Int), ())
  let e5 := (loopEnd (f31_L5_g y5) (f31_L5_next y5) x5)
  let q5_4 := (f31_L5_e4 y5 e5)
  let c := (v9 && q5_4)
  c
def f31_L2_next (y : ((List D51) × Unit)) (x : (Int × Unit)) : (Int × Unit) :=
  let a3 := x.1
  let v11 := (a3 + (1 : Int))
  (v11, ())
def f31_L2_ok (y : ((List D51) × Unit)) (x : (Int × Unit)) : Prop :=
  let a0 := y.1
  let a3 := x.1
  let v8 := (len a0)
  let v9 := (decide (a3 < v8))
  let y5 := (a0, a3, ())
  let x5 := ((0 : Int), ())
  let e5 := (loopEnd (f31_L5_g y5) (f31_L5_next y5) x5)
  let q5_4 := (f31_L5_e4 y5 e5)
  (v9 = true → ((Am.Ends (f31_L5_g y5) (f31_L5_next y5) (f31_L5_ok y5) x5) ∧ (q5_4 = true → InR (a3 + (1 : Int)))))
instance (y : ((List D51) × Unit)) (x : (Int × Unit)) : Decidable (f31_L2_ok y x) := by
  unfold f31_L2_ok
  try dsimp only
  infer_instance
def f31_L2_x1 (y : ((List D51) × Unit)) (x : (Int × Unit)) : (Bool × Unit) :=
  let a0 := y.1
  let a3 := x.1
  let y5 := (a0, a3, ())
  let x5 := ((0 : Int), ())
  let e5 := (loopEnd (f31_L5_g y5) (f31_L5_next y5) x5)
  let r5_1_0 := (f31_L5_x1_0 y5 e5)
  (r5_1_0, ())
def f31_L2_x1_0 (y : ((List D51) × Unit)) (x : (Int × Unit)) : Bool := (f31_L2_x1 y x).1
def f31_L2_e1 (y : ((List D51) × Unit)) (x : (Int × Unit)) : Bool :=
  let a0 := y.1
  let a3 := x.1
  let v8 := (len a0)
  let v9 := (decide (a3 < v8))
  let y5 := (a0, a3, ())
  let x5 := ((0 : Int), ())
  let e5 := (loopEnd (f31_L5_g y5) (f31_L5_next y5) x5)
  let q5_1 := (f31_L5_e1 y5 e5)
  let c_1 := (v9 && q5_1)
  c_1
def f31_L2_x2 (y : ((List D51) × Unit)) (x : (Int × Unit)) : (Unit) :=
  ()
def f31_L2_e2 (y : ((List D51) × Unit)) (x : (Int × Unit)) : Bool :=
  let a0 := y.1
  let a3 := x.1
  let v8 := (len a0)
  let v9 := (decide (a3 < v8))
  (!v9)
def f31_L2_ly : List (Nat × Sh) := [(0, (.val (.sl T51)))]
def f31_L2_lx : List (Nat × Sh) := [(3, (.val (.int .i64)))]
def f31_L2_les : List (List (Nat × Sh)) := [[(2, (.val .bool))], []]
def f31_L2_es (y : denL f31_L2_ly) (x : denL f31_L2_lx) : List Comp := [⟨1, some (f31_L2_e1 y x), mkSt [(2, (.val .bool))] ((f31_L2_x1_0 y x), ()) ++ cutSt⟩, ⟨2, some (f31_L2_e2 y x), mkSt [] () ++ cutSt⟩]
def f31_L2_spec : St → Option Out := loopS f31_L2_ly f31_L2_lx f31_L2_g f31_L2_next f31_L2_ok f31_L2_es
def f31 (p0 : (List D51)) : Bool :=
  let y2 := (p0, ())
  let x2 := ((0 : Int), ())
  let e2 := (loopEnd (f31_L2_g y2) (f31_L2_next y2) x2)
  let r2_1_0 := (f31_L2_x1_0 y2 e2)
  let q2_1 := (f31_L2_e1 y2 e2)
  let m2 := (bif q2_1 then r2_1_0 else true)
  m2
def f31_ok (p0 : (List D51)) : Prop :=
  let y2 := (p0, ())
  let x2 := ((0 : Int), ())
  (Am.Ends (f31_L2_g y2) (f31_L2_next y2) (f31_L2_ok y2) x2)
instance (p0 : (List D51)) : Decidable (f31_ok p0) := by
  unfold f31_ok
  try dsimp only
  infer_instance
def f31_ps : List (Nat × Sh) := [(0, (.val (.sl T51)))]
def f31_rs : Sh := (.val .bool)
def f31_os : List (Nat × Sh) := []
def f31_spec : Am.Spec := fnSpec f31_ps f31_rs f31_os (fun x => f31_ok x.1) (fun x => f31 x.1) (fun _ => ())
def f31_ctx : Ctx := { tys := tys, fns := [(55, f55_spec)], loops := [(5, f31_L5_spec), (2, f31_L2_spec)], gh := [], wrap := false, n := 41, keep := [], wr := [] }
theorem f31_cok : CtxOk Tryd.prog f31_ctx := ctxOk_mk tys_ok ⟨f55_is, trivial⟩ rfl (by kernel_rfl)
noncomputable def f31_code : Code := Tryd.f31.body.getD .skip
noncomputable def f31_L2 : Code := nthLoop f31_code 0
noncomputable def f31_L5 : Code := nthLoop f31_L2 0
theorem f31_L5_sum : ∀ y x, sumLoop f31_ctx f31_L5 f31_L5_ly f31_L5_lx f31_L5_les y x = some (f31_L5_ok y x, f31_L5_g y x, y, f31_L5_next y x, f31_L5_es y x) := fun y x => by kernel_rfl
theorem f31_L5_is : LoopSnd Tryd.prog f31_ctx f31_L5 := loop_gen f31_cok mixed (bs := []) (by kernel_rfl) trivial (by kernel_rfl) (by kernel_rfl) f31_L5_sum
theorem f31_L2_sum : ∀ y x, sumLoop f31_ctx f31_L2 f31_L2_ly f31_L2_lx f31_L2_les y x = some (f31_L2_ok y x, f31_L2_g y x, y, f31_L2_next y x, f31_L2_es y x) := fun y x => by kernel_rfl
theorem f31_L2_is : LoopSnd Tryd.prog f31_ctx f31_L2 := loop_gen f31_cok mixed (bs := [f31_L5]) (by kernel_rfl) ⟨f31_L5_is, trivial⟩ (by kernel_rfl) (by kernel_rfl) f31_L2_sum
theorem f31_sum : ∀ x, sumFn f31_ctx f31_code Tryd.f31.results.toList f31_ps f31_rs f31_os x = some (f31_ok x.1, f31 x.1, ()) := fun x => by kernel_rfl
theorem f31_is : SpecOk Tryd.prog 31 f31_spec := func_gen f31_cok mixed Tryd.func31 (by kernel_rfl) (by decide) rfl (bs := [f31_L2]) (by kernel_rfl) ⟨f31_L2_is, trivial⟩ (by kernel_rfl) (by kernel_rfl) rfl f31_sum
def f14_L6_g (y : (D25 × Unit)) (x : (Int × Unit)) : Bool :=
  let a1 := y.1
  let a3 := x.1
  let v50 := (len a1.2.2.2.1)
  let v51 := (decide (a3 < v50))
  let v57 := (nth a1.2.2.2.1 a3 Z46)
  let v60 := (decide (a3 > (0 : Int)))
  let v67 := (a3 - (1 : Int))
  let v68 := (nth a1.2.2.2.1 v67 Z46)
  let v71 := (decide (v57.1 ≤ v68.1))
  let v72 := (bif v60 then v71 else false)
  let v75 := (decide (v57.2.1 < (0 : Int)))
  let v79 := (decide (v57.2.1 > (65536 : Int)))
  let v80 := (bif v75 then true else v79)
  let v83 := (f30 v57.2.2.1)
  let v85 := (v83 != (0 : Int))
  let v89 := (f31 v57.2.2.1)
  let v90 := (!v89)
  let c_2 := ((!v85) && (!v90))
  let c_5 := ((!v80) && c_2)
  let c_8 := ((!v72) && c_5)
  let c_9 := (v51 && c_8)
  c_9
def f14_L6_next (y : (D25 × Unit)) (x : (Int × Unit)) : (Int × Unit) :=
  let a3 := x.1
  let v53 := (a3 + (1 : Int))
  (v53, ())
def f14_L6_ok (y : (D25 × Unit)) (x : (Int × Unit)) : Prop :=
  let a1 := y.1
  let a3 := x.1
  let v50 := (len a1.2.2.2.1)
  let v51 := (decide (a3 < v50))
  let v57 := (nth a1.2.2.2.1 a3 Z46)
  let v60 := (decide (a3 > (0 : Int)))
  let v67 := (a3 - (1 : Int))
  let v68 := (nth a1.2.2.2.1 v67 Z46)
  let v71 := (decide (v57.1 ≤ v68.1))
  let v72 := (bif v60 then v71 else false)
  let v75 := (decide (v57.2.1 < (0 : Int)))
  let v79 := (decide (v57.2.1 > (65536 : Int)))
  let v80 := (bif v75 then true else v79)
  let v83 := (f30 v57.2.2.1)
  let v85 := (v83 != (0 : Int))
  let v89 := (f31 v57.2.2.1)
  let v90 := (!v89)
  let c_2 := ((!v85) && (!v90))
  let c_5 := ((!v80) && c_2)
  let c_8 := ((!v72) && c_5)
  (v51 = true → (InB a3 (len a1.2.2.2.1) ∧ ((v60 = true → InR (a3 - (1 : Int))) ∧ ((v60 = true → InB v67 (len a1.2.2.2.1)) ∧ (((!v72) = true → ((!v80) = true → ((f30_ok v57.2.2.1) ∧ ((!v85) = true → (f31_ok v57.2.2.1))))) ∧ (c_8 = true → InR (a3 + (1 : Int))))))))
instance (y : (D25 × Unit)) (x : (Int × Unit)) : Decidable (f14_L6_ok y x) := by
  unfold f14_L6_ok
  try dsimp only
  infer_instance
def f14_L6_x1 (y : (D25 × Unit)) (x : (Int × Unit)) : (Int × Unit) :=
  let a1 := y.1
  let a3 := x.1
  let v57 := (nth a1.2.2.2.1 a3 Z46)
  let v60 := (decide (a3 > (0 : Int)))
  let v67 := (a3 - (1 : Int))
  let v68 := (nth a1.2.2.2.1 v67 Z46)
  let v71 := (decide (v57.1 ≤ v68.1))
  let v72 := (bif v60 then v71 else false)
  let v75 := (decide (v57.2.1 < (0 : Int)))
  let v79 := (decide (v57.2.1 > (65536 : Int)))
  let v80 := (bif v75 then true else v79)
  let v83 := (f30 v57.2.2.1)
  let v85 := (v83 != (0 : Int))
  let m2 := (bif v85 then v83 else (2 : Int))
  let m2_1 := (bif v80 then (2 : Int) else m2)
  let m2_2 := (bif v72 then (24 : Int) else m2_1)
  (m2_2, ())
def f14_L6_x1_0 (y : (D25 × Unit)) (x : (Int × Unit)) : Int := (f14_L6_x1 y x).1
def f14_L6_e1 (y : (D25 × Unit)) (x : (Int × Unit)) : Bool :=
  let a1 := y.1
  let a3 := x.1
  let v50 := (len a1.2.2.2.1)
  let v51 := (decide (a3 < v50))
  let v57 := (nth a1.2.2.2.1 a3 Z46)
  let v60 := (decide (a3 > (0 : Int)))
  let v67 := (a3 - (1 : Int))
  let v68 := (nth a1.2.2.2.1 v67 Z46)
  let v71 := (decide (v57.1 ≤ v68.1))
  let v72 := (bif v60 then v71 else false)
  let v75 := (decide (v57.2.1 < (0 : Int)))
  let v79 := (decide (v57.2.1 > (65536 : Int)))
  let v80 := (bif v75 then true else v79)
  let v83 := (f30 v57.2.2.1)
  let v85 := (v83 != (0 : Int))
  let v89 := (f31 v57.2.2.1)
  let v90 := (!v89)
  let c := ((!v85) && v90)
  let c_1 := (v85 || c)
  let c_3 := ((!v80) && c_1)
  let c_4 := (v80 || c_3)
  let c_6 := ((!v72) && c_4)
  let c_7 := (v72 || c_6)
  let c_10 := (v51 && c_7)
  c_10
def f14_L6_x2 (y : (D25 × Unit)) (x : (Int × Unit)) : (Unit) :=
  ()
def f14_L6_e2 (y : (D25 × Unit)) (x : (Int × Unit)) : Bool :=
  let a1 := y.1
  let a3 := x.1
  let v50 := (len a1.2.2.2.1)
  let v51 := (decide (a3 < v50))
  (!v51)
def f14_L6_ly : List (Nat × Sh) := [(1, (.box T25 (.val T25)))]
def f14_L6_lx : List (Nat × Sh) := [(3, (.val (.int .i64)))]
def f14_L6_les : List (List (Nat × Sh)) := [[(2, (.val (.int .i64)))], [(1, (.box T25 (.val T25)))]]
def f14_L6_es (y : denL f14_L6_ly) (x : denL f14_L6_lx) : List Comp := [⟨1, some (f14_L6_e1 y x), mkSt [(2, (.val (.int .i64)))] ((f14_L6_x1_0 y x), ()) ++ cutSt⟩, ⟨2, some (f14_L6_e2 y x), mkSt [(1, (.box T25 (.val T25)))] (y.1, ()) ++ cutSt⟩]
def f14_L6_spec : St → Option Out := loopS f14_L6_ly f14_L6_lx f14_L6_g f14_L6_next f14_L6_ok f14_L6_es
def f14_L19_g (y : (D25 × Unit)) (x : (Int × Unit)) : Bool :=
  let a1 := y.1
  let a6 := x.1
  let v94 := (len a1.2.2.2.2.1)
  let v95 := (decide (a6 < v94))
  let v101 := (nth a1.2.2.2.2.1 a6 Z43)
  let v104 := (decide (a6 > (0 : Int)))
  let v108 := (a6 - (1 : Int))
  let v109 := (nth a1.2.2.2.2.1 v108 Z43)
  let v115 := (decide (v101.1 < v109.1))
  let v121 := (v101.1 == v109.1)
  let v127 := (decide (v101.2.1 ≤ v109.2.1))
  let v128 := (bif v121 then v127 else false)
  let v129 := (bif v115 then true else v128)
  let c_1 := (bif v104 then (!v129) else true)
  let v132 := (decide (v101.2.2.1 < (-65536 : Int)))
  let v136 := (decide (v101.2.2.1 > (65536 : Int)))
  let v137 := (bif v132 then true else v136)
  let c_4 := (c_1 && (!v137))
  let c_5 := (v95 && c_4)
  c_5
def f14_L19_next (y : (D25 × Unit)) (x : (Int × Unit)) : (Int × Unit) :=
  let a6 := x.1
  let v97 := (a6 + (1 : Int))
  (v97, ())
def f14_L19_ok (y : (D25 × Unit)) (x : (Int × Unit)) : Prop :=
  let a1 := y.1
  let a6 := x.1
  let v94 := (len a1.2.2.2.2.1)
  let v95 := (decide (a6 < v94))
  let v101 := (nth a1.2.2.2.2.1 a6 Z43)
  let v104 := (decide (a6 > (0 : Int)))
  let v108 := (a6 - (1 : Int))
  let v109 := (nth a1.2.2.2.2.1 v108 Z43)
  let v115 := (decide (v101.1 < v109.1))
  let v121 := (v101.1 == v109.1)
  let v127 := (decide (v101.2.1 ≤ v109.2.1))
  let v128 := (bif v121 then v127 else false)
  let v129 := (bif v115 then true else v128)
  let c_1 := (bif v104 then (!v129) else true)
  let v132 := (decide (v101.2.2.1 < (-65536 : Int)))
  let v136 := (decide (v101.2.2.1 > (65536 : Int)))
  let v137 := (bif v132 then true else v136)
  let c_4 := (c_1 && (!v137))
  (v95 = true → (InB a6 (len a1.2.2.2.2.1) ∧ ((v104 = true → (InR (a6 - (1 : Int)) ∧ InB v108 (len a1.2.2.2.2.1))) ∧ (c_4 = true → InR (a6 + (1 : Int))))))
instance (y : (D25 × Unit)) (x : (Int × Unit)) : Decidable (f14_L19_ok y x) := by
  unfold f14_L19_ok
  try dsimp only
  infer_instance
def f14_L19_x1 (y : (D25 × Unit)) (x : (Int × Unit)) : (Int × Unit) :=
  let a1 := y.1
  let a6 := x.1
  let v101 := (nth a1.2.2.2.2.1 a6 Z43)
  let v104 := (decide (a6 > (0 : Int)))
  let v108 := (a6 - (1 : Int))
  let v109 := (nth a1.2.2.2.2.1 v108 Z43)
  let v115 := (decide (v101.1 < v109.1))
  let v121 := (v101.1 == v109.1)
  let v127 := (decide (v101.2.1 ≤ v109.2.1))
  let v128 := (bif v121 then v127 else false)
  let v129 := (bif v115 then true else v128)
  let c := (v129 && v104)
  let m2 := (bif c then (24 : Int) else (2 : Int))
  (m2, ())
def f14_L19_x1_0 (y : (D25 × Unit)) (x : (Int × Unit)) : Int := (f14_L19_x1 y x).1
def f14_L19_e1 (y : (D25 × Unit)) (x : (Int × Unit)) : Bool :=
  let a1 := y.1
  let a6 := x.1
  let v94 := (len a1.2.2.2.2.1)
  let v95 := (decide (a6 < v94))
  let v101 := (nth a1.2.2.2.2.1 a6 Z43)
  let v104 := (decide (a6 > (0 : Int)))
  let v108 := (a6 - (1 : Int))
  let v109 := (nth a1.2.2.2.2.1 v108 Z43)
  let v115 := (decide (v101.1 < v109.1))
  let v121 := (v101.1 == v109.1)
  let v127 := (decide (v101.2.1 ≤ v109.2.1))
  let v128 := (bif v121 then v127 else false)
  let v129 := (bif v115 then true else v128)
  let c := (v129 && v104)
  let c_1 := (bif v104 then (!v129) else true)
  let v132 := (decide (v101.2.2.1 < (-65536 : Int)))
  let v136 := (decide (v101.2.2.1 > (65536 : Int)))
  let v137 := (bif v132 then true else v136)
  let c_2 := (c_1 && v137)
  let c_3 := (c || c_2)
  let c_6 := (v95 && c_3)
  c_6
def f14_L19_x4 (y : (D25 × Unit)) (x : (Int × Unit)) : (Unit) :=
  ()
def f14_L19_e4 (y : (D25 × Unit)) (x : (Int × Unit)) : Bool :=
  let a1 := y.1
  let a6 := x.1
  let v94 := (len a1.2.2.2.2.1)
  let v95 := (decide (a6 < v94))
  (!v95)
def f14_L19_ly : List (Nat × Sh) := [(1, (.box T25 (.val T25)))]
def f14_L19_lx : List (Nat × Sh) := [(6, (.val (.int .i64)))]
def f14_L19_les : List (List (Nat × Sh)) := [[(2, (.val (.int .i64)))], []]
def f14_L19_es (y : denL f14_L19_ly) (x : denL f14_L19_lx) : List Comp := [⟨1, some (f14_L19_e1 y x), mkSt [(2, (.val (.int .i64)))] ((f14_L19_x1_0 y x), ()) ++ cutSt⟩, ⟨4, some (f14_L19_e4 y x), mkSt [] () ++ cutSt⟩]
def f14_L19_spec : St → Option Out := loopS f14_L19_ly f14_L19_lx f14_L19_g f14_L19_next f14_L19_ok f14_L19_es
def f14 (p0 : D25) : Int :=
  let v11 := (decide (p0.1 < (1 : Int)))
  let v15 := (decide (p0.1 > (65536 : Int)))
  let v16 := (bif v11 then true else v15)
  let v20 := (decide (p0.2.1 < (0 : Int)))
  let v21 := (bif v16 then true else v20)
  let v25 := (decide (p0.2.1 > (65536 : Int)))
  let v26 := (bif v21 then true else v25)
  let v30 := (decide (p0.2.2.1 < (0 : Int)))
  let v31 := (bif v26 then true else v30)
  let v35 := (decide (p0.2.2.1 > (65536 : Int)))
  let v36 := (bif v31 then true else v35)
  let v39 := (len p0.2.2.2.1)
  let v40 := (decide (v39 > (256 : Int)))
  let v44 := (len p0.2.2.2.2.1)
  let v45 := (decide (v44 > (256 : Int)))
  let v46 := (bif v40 then true else v45)
  let y6 := (p0, ())
  let x6 := ((0 : Int), ())
  let e6 := (loopEnd (f14_L6_g y6) (f14_L6_next y6) x6)
  let r6_1_0 := (f14_L6_x1_0 y6 e6)
  let q6_1 := (f14_L6_e1 y6 e6)
  let y19 := (p0, ())
  let x19 := ((0 : Int), ())
  let e19 := (loopEnd (f14_L19_g y19) (f14_L19_next y19) x19)
  let r19_1_0 := (f14_L19_x1_0 y19 e19)
  let q19_1 := (f14_L19_e1 y19 e19)
  let m2 := (bif q19_1 then r19_1_0 else (0 : Int))
  let m2_1 := (bif q6_1 then r6_1_0 else m2)
  let m2_2 := (bif v46 then (3 : Int) else m2_1)
  let m2_3 := (bif v36 then (2 : Int) else m2_2)
  m2_3
def f14_ok (p0 : D25) : Prop :=
  let v11 := (decide (p0.1 < (1 : Int)))
  let v15 := (decide (p0.1 > (65536 : Int)))
  let v16 := (bif v11 then true else v15)
  let v20 := (decide (p0.2.1 < (0 : Int)))
  let v21 := (bif v16 then true else v20)
  let v25 := (decide (p0.2.1 > (65536 : Int)))
  let v26 := (bif v21 then true else v25)
  let v30 := (decide (p0.2.2.1 < (0 : Int)))
  let v31 := (bif v26 then true else v30)
  let v35 := (decide (p0.2.2.1 > (65536 : Int)))
  let v36 := (bif v31 then true else v35)
  let v39 := (len p0.2.2.2.1)
  let v40 := (decide (v39 > (256 : Int)))
  let v44 := (len p0.2.2.2.2.1)
  let v45 := (decide (v44 > (256 : Int)))
  let v46 := (bif v40 then true else v45)
  let y6 := (p0, ())
  let x6 := ((0 : Int), ())
  let e6 := (loopEnd (f14_L6_g y6) (f14_L6_next y6) x6)
  let q6_2 := (f14_L6_e2 y6 e6)
  let y19 := (p0, ())
  let x19 := ((0 : Int), ())
  ((!v36) = true → ((!v46) = true → ((Am.Ends (f14_L6_g y6) (f14_L6_next y6) (f14_L6_ok y6) x6) ∧ (q6_2 = true → (Am.Ends (f14_L19_g y19) (f14_L19_next y19) (f14_L19_ok y19) x19)))))
instance (p0 : D25) : Decidable (f14_ok p0) := by
  unfold f14_ok
  try dsimp only
  infer_instance
def f14_ps : List (Nat × Sh) := [(0, (.val T25))]
def f14_rs : Sh := (.val (.int .i64))
def f14_os : List (Nat × Sh) := []
def f14_spec : Am.Spec := fnSpec f14_ps f14_rs f14_os (fun x => f14_ok x.1) (fun x => f14 x.1) (fun _ => ())
def f14_ctx : Ctx := { tys := tys, fns := [(30, f30_spec), (31, f31_spec)], loops := [(6, f14_L6_spec), (19, f14_L19_spec)], gh := [], wrap := false, n := 138, keep := [], wr := [] }
theorem f14_cok : CtxOk Tryd.prog f14_ctx := ctxOk_mk tys_ok ⟨f30_is, f31_is, trivial⟩ rfl (by kernel_rfl)
noncomputable def f14_code : Code := Tryd.f14.body.getD .skip
noncomputable def f14_L6 : Code := nthLoop f14_code 0
theorem f14_L6_sum : ∀ y x, sumLoop f14_ctx f14_L6 f14_L6_ly f14_L6_lx f14_L6_les y x = some (f14_L6_ok y x, f14_L6_g y x, y, f14_L6_next y x, f14_L6_es y x) := fun y x => by kernel_rfl
theorem f14_L6_is : LoopSnd Tryd.prog f14_ctx f14_L6 := loop_gen f14_cok mixed (bs := []) (by kernel_rfl) trivial (by kernel_rfl) (by kernel_rfl) f14_L6_sum
noncomputable def f14_L19 : Code := nthLoop f14_code 1
theorem f14_L19_sum : ∀ y x, sumLoop f14_ctx f14_L19 f14_L19_ly f14_L19_lx f14_L19_les y x = some (f14_L19_ok y x, f14_L19_g y x, y, f14_L19_next y x, f14_L19_es y x) := fun y x => by kernel_rfl
theorem f14_L19_is : LoopSnd Tryd.prog f14_ctx f14_L19 := loop_gen f14_cok mixed (bs := []) (by kernel_rfl) trivial (by kernel_rfl) (by kernel_rfl) f14_L19_sum
theorem f14_sum : ∀ x, sumFn f14_ctx f14_code Tryd.f14.results.toList f14_ps f14_rs f14_os x = some (f14_ok x.1, f14 x.1, ()) := fun x => by kernel_rfl
theorem f14_is : SpecOk Tryd.prog 14 f14_spec := func_gen f14_cok mixed Tryd.func14 (by kernel_rfl) (by decide) rfl (bs := [f14_L6, f14_L19]) (by kernel_rfl) ⟨f14_L6_is, f14_L19_is, trivial⟩ (by kernel_rfl) (by kernel_rfl) rfl f14_sum
def f57_L2_g (y : (Int × Int × D25 × Unit)) (x : (Int × Unit)) : Bool :=
  let a1 := y.1
  let a2 := y.2.1
  let a3 := y.2.2.1
  let a7 := x.1
  let v11 := (len a3.2.2.2.2.1)
  let v12 := (decide (a7 < v11))
  let v18 := (nth a3.2.2.2.2.1 a7 Z43)
  let v22 := (v18.1 == a1)
  let v27 := (nth a3.2.2.2.2.1 a7 Z43)
  let v31 := (v27.2.1 == a2)
  let v32 := (bif v22 then v31 else false)
  let c := (v12 && (!v32))
  c
def f57_L2_next (y : (Int × Int × D25 × Unit)) (x : (Int × Unit)) : (Int × Unit) :=
  let a7 := x.1
  let v14 := (a7 + (1 : Int))
  (v14, ())
def f57_L2_ok (y : (Int × Int × D25 × Unit)) (x : (Int × Unit)) : Prop :=
  let a1 := y.1
  let a2 := y.2.1
  let a3 := y.2.2.1
  let a7 := x.1
  let v11 := (len a3.2.2.2.2.1)
  let v12 := (decide (a7 < v11))
  let v18 := (nth a3.2.2.2.2.1 a7 Z43)
  let v22 := (v18.1 == a1)
  let v27 := (nth a3.2.2.2.2.1 a7 Z43)
  let v31 := (v27.2.1 == a2)
  let v32 := (bif v22 then v31 else false)
  (v12 = true → (InB a7 (len a3.2.2.2.2.1) ∧ ((v22 = true → InB a7 (len a3.2.2.2.2.1)) ∧ ((v32 = true → InB a7 (len a3.2.2.2.2.1)) ∧ ((!v32) = true → InR (a7 + (1 : Int)))))))
instance (y : (Int × Int × D25 × Unit)) (x : (Int × Unit)) : Decidable (f57_L2_ok y x) := by
  unfold f57_L2_ok
  try dsimp only
  infer_instance
def f57_L2_x1 (y : (Int × Int × D25 × Unit)) (x : (Int × Unit)) : (Int × Unit) :=
  let a3 := y.2.2.1
  let a7 := x.1
  let v36 := (nth a3.2.2.2.2.1 a7 Z43)
  (v36.2.2.1, ())
def f57_L2_x1_0 (y : (Int × Int × D25 × Unit)) (x : (Int × Unit)) : Int := (f57_L2_x1 y x).1
def f57_L2_e1 (y : (Int × Int × D25 × Unit)) (x : (Int × Unit)) : Bool :=
  let a1 := y.1
  let a2 := y.2.1
  let a3 := y.2.2.1
  let a7 := x.1
  let v11 := (len a3.2.2.2.2.1)
  let v12 := (decide (a7 < v11))
  let v18 := (nth a3.2.2.2.2.1 a7 Z43)
  let v22 := (v18.1 == a1)
  let v27 := (nth a3.2.2.2.2.1 a7 Z43)
  let v31 := (v27.2.1 == a2)
  let v32 := (bif v22 then v31 else false)
  let c_1 := (v12 && v32)
  c_1
def f57_L2_x2 (y : (Int × Int × D25 × Unit)) (x : (Int × Unit)) : (Unit) :=
  ()
def f57_L2_e2 (y : (Int × Int × D25 × Unit)) (x : (Int × Unit)) : Bool :=
  let a3 := y.2.2.1
  let a7 := x.1
  let v11 := (len a3.2.2.2.2.1)
  let v12 := (decide (a7 < v11))
  (!v12)
def f57_L2_ly : List (Nat × Sh) := [(1, (.val (.int .u8))), (2, (.val (.int .u8))), (3, (.box T25 (.val T25)))]
def f57_L2_lx : List (Nat × Sh) := [(7, (.val (.int .i64)))]
def f57_L2_les : List (List (Nat × Sh)) := [[(6, (.val (.int .i64)))], []]
def f57_L2_es (y : denL f57_L2_ly) (x : denL f57_L2_lx) : List Comp := [⟨1, some (f57_L2_e1 y x), mkSt [(6, (.val (.int .i64)))] ((f57_L2_x1_0 y x), ()) ++ cutSt⟩, ⟨2, some (f57_L2_e2 y x), mkSt [] () ++ cutSt⟩]
def f57_L2_spec : St → Option Out := loopS f57_L2_ly f57_L2_lx f57_L2_g f57_L2_next f57_L2_ok f57_L2_es
def f57 (p0 : D25) (p1 : Int) (p2 : Int) : Int :=
  let y2 := (p1, p2, p0, ())
  let x2 := ((0 : Int), ())
  let e2 := (loopEnd (f57_L2_g y2) (f57_L2_next y2) x2)
  let r2_1_0 := (f57_L2_x1_0 y2 e2)
  let q2_1 := (f57_L2_e1 y2 e2)
  let m6 := (bif q2_1 then r2_1_0 else (0 : Int))
  m6
def f57_ok (p0 : D25) (p1 : Int) (p2 : Int) : Prop :=
  let y2 := (p1, p2, p0, ())
  let x2 := ((0 : Int), ())
  (Am.Ends (f57_L2_g y2) (f57_L2_next y2) (f57_L2_ok y2) x2)
instance (p0 : D25) (p1 : Int) (p2 : Int) : Decidable (f57_ok p0 p1 p2) := by
  unfold f57_ok
  try dsimp only
  infer_instance
def f57_ps : List (Nat × Sh) := [(0, (.val T25)), (1, (.val (.int .u8))), (2, (.val (.int .u8)))]
def f57_rs : Sh := (.val (.int .i64))
def f57_os : List (Nat × Sh) := []
def f57_spec : Am.Spec := fnSpec f57_ps f57_rs f57_os (fun x => f57_ok x.1 x.2.1 x.2.2.1) (fun x => f57 x.1 x.2.1 x.2.2.1) (fun _ => ())
def f57_ctx : Ctx := { tys := tys, fns := [], loops := [(2, f57_L2_spec)], gh := [], wrap := false, n := 39, keep := [], wr := [] }
theorem f57_cok : CtxOk Tryd.prog f57_ctx := ctxOk_mk tys_ok trivial rfl (by kernel_rfl)
noncomputable def f57_code : Code := Tryd.f57.body.getD .skip
noncomputable def f57_L2 : Code := nthLoop f57_code 0
theorem f57_L2_sum : ∀ y x, sumLoop f57_ctx f57_L2 f57_L2_ly f57_L2_lx f57_L2_les y x = some (f57_L2_ok y x, f57_L2_g y x, y, f57_L2_next y x, f57_L2_es y x) := fun y x => by kernel_rfl
theorem f57_L2_is : LoopSnd Tryd.prog f57_ctx f57_L2 := loop_gen f57_cok mixed (bs := []) (by kernel_rfl) trivial (by kernel_rfl) (by kernel_rfl) f57_L2_sum
theorem f57_sum : ∀ x, sumFn f57_ctx f57_code Tryd.f57.results.toList f57_ps f57_rs f57_os x = some (f57_ok x.1 x.2.1 x.2.2.1, f57 x.1 x.2.1 x.2.2.1, ()) := fun x => by kernel_rfl
theorem f57_is : SpecOk Tryd.prog 57 f57_spec := func_gen f57_cok mixed Tryd.func57 (by kernel_rfl) (by decide) rfl (bs := [f57_L2]) (by kernel_rfl) ⟨f57_L2_is, trivial⟩ (by kernel_rfl) (by kernel_rfl) rfl f57_sum
def f35_L4_g (y : ((List Int) × D25 × Unit)) (x : ((List Int) × Int × Int × Unit)) : Bool :=
  let a1 := y.1
  let a7 := x.2.2.1
  let v11 := (len a1)
  let v12 := (decide (a7 < v11))
  v12
def f35_L4_next (y : ((List Int) × D25 × Unit)) (x : ((List Int) × Int × Int × Unit)) : ((List Int) × Int × Int × Unit) :=
  let a1 := y.1
  let a2 := y.2.1
  let a5 := x.1
  let a6 := x.2.1
  let a7 := x.2.2.1
  let v16 := (decide (a7 > (0 : Int)))
  let v23 := (a7 - (1 : Int))
  let v24 := (nth a1 v23 (0 : Int))
  let v26 := (nth a2.2.2.2.1 v24 Z46)
  let v33 := (nth a1 a7 (0 : Int))
  let v35 := (nth a2.2.2.2.1 v33 Z46)
  let v38 := (f57 a2 v26.1 v35.1)
  let v39 := (a6 + v38)
  let m6 := (bif v16 then v39 else a6)
  let v42 := ([m6] : List Int)
  let v43 := (a5 ++ v42)
  let v49 := (nth a1 a7 (0 : Int))
  let v51 := (nth a2.2.2.2.1 v49 Z46)
  let v54 := (m6 + v51.2.1)
  let v14 := (a7 + (1 : Int))
  (v43, v54, v14, ())
def f35_L4_ok (y : ((List Int) × D25 × Unit)) (x : ((List Int) × Int × Int × Unit)) : Prop :=
  let a1 := y.1
  let a2 := y.2.1
  let a5 := x.1
  let a6 := x.2.1
  let a7 := x.2.2.1
  let v11 := (len a1)
  let v12 := (decide (a7 < v11))
  let v16 := (decide (a7 > (0 : Int)))
  let v23 := (a7 - (1 : Int))
  let v24 := (nth a1 v23 (0 : Int))
  let v26 := (nth a2.2.2.2.1 v24 Z46)
  let v33 := (nth a1 a7 (0 : Int))
  let v35 := (nth a2.2.2.2.1 v33 Z46)
  let v38 := (f57 a2 v26.1 v35.1)
  let v39 := (a6 + v38)
  let m6 := (bif v16 then v39 else a6)
  let v42 := ([m6] : List Int)
  let v49 := (nth a1 a7 (0 : Int))
  let v51 := (nth a2.2.2.2.1 v49 Z46)
  (v12 = true → ((v16 = true → (InR (a7 - (1 : Int)) ∧ (InB v23 (len a1) ∧ (InB v24 (len a2.2.2.2.1) ∧ (InB a7 (len a1) ∧ (InB v33 (len a2.2.2.2.1) ∧ ((f57_ok a2 v26.1 v35.1) ∧ InR (a6 + v38)))))))) ∧ (((List.length a5 + List.length v42 : Nat) : Int) ≤ 4294967296 ∧ (InB a7 (len a1) ∧ (InB v49 (len a2.2.2.2.1) ∧ (InR (m6 + v51.2.1) ∧ InR (a7 + (1 : Int))))))))
instance (y : ((List Int) × D25 × Unit)) (x : ((List Int) × Int × Int × Unit)) : Decidable (f35_L4_ok y x) := by
  unfold f35_L4_ok
  try dsimp only
  infer_instance
def f35_L4_x2 (y : ((List Int) × D25 × Unit)) (x : ((List Int) × Int × Int × Unit)) : ((List Int) × Int × Unit) :=
  let a5 := x.1
  let a6 := x.2.1
  (a5, a6, ())
def f35_L4_x2_0 (y : ((List Int) × D25 × Unit)) (x : ((List Int) × Int × Int × Unit)) : (List Int) := (f35_L4_x2 y x).1
def f35_L4_x2_1 (y : ((List Int) × D25 × Unit)) (x : ((List Int) × Int × Int × Unit)) : Int := (f35_L4_x2 y x).2.1
def f35_L4_ly : List (Nat × Sh) := [(1, (.val (.sl (.int .i64)))), (2, (.box T25 (.val T25)))]
def f35_L4_lx : List (Nat × Sh) := [(5, (.own (.int .i64) 1005 false)), (6, (.val (.int .i64))), (7, (.val (.int .i64)))]
def f35_L4_les : List (List (Nat × Sh)) := [[(5, (.own (.int .i64) 1005 false)), (6, (.val (.int .i64)))]]
def f35_L4_es (y : denL f35_L4_ly) (x : denL f35_L4_lx) : List Comp := [⟨2, none, mkSt [(5, (.own (.int .i64) 1005 false)), (6, (.val (.int .i64)))] ((f35_L4_x2_0 y x), (f35_L4_x2_1 y x), ()) ++ cutSt⟩]
def f35_L4_spec : St → Option Out := loopS f35_L4_ly f35_L4_lx f35_L4_g f35_L4_next f35_L4_ok f35_L4_es
def f35 (p0 : D25) (p1 : (List Int)) : (List Int) :=
  let y4 := (p1, p0, ())
  let x4 := (([] : List Int), (0 : Int), (0 : Int), ())
  let e4 := (loopEnd (f35_L4_g y4) (f35_L4_next y4) x4)
  let r4_2_0 := (f35_L4_x2_0 y4 e4)
  let r4_2_1 := (f35_L4_x2_1 y4 e4)
  let v57 := ([r4_2_1] : List Int)
  let v58 := (r4_2_0 ++ v57)
  v58
def f35_ok (p0 : D25) (p1 : (List Int)) : Prop :=
  let y4 := (p1, p0, ())
  let x4 := (([] : List Int), (0 : Int), (0 : Int), ())
  let e4 := (loopEnd (f35_L4_g y4) (f35_L4_next y4) x4)
  let r4_2_0 := (f35_L4_x2_0 y4 e4)
  let r4_2_1 := (f35_L4_x2_1 y4 e4)
  let v57 := ([r4_2_1] : List Int)
  ((Am.Ends (f35_L4_g y4) (f35_L4_next y4) (f35_L4_ok y4) x4) ∧ ((List.length r4_2_0 + List.length v57 : Nat) : Int) ≤ 4294967296)
instance (p0 : D25) (p1 : (List Int)) : Decidable (f35_ok p0 p1) := by
  unfold f35_ok
  try dsimp only
  infer_instance
def f35_ps : List (Nat × Sh) := [(0, (.val T25)), (1, (.val (.sl (.int .i64))))]
def f35_rs : Sh := (.own (.int .i64) 0 false)
def f35_os : List (Nat × Sh) := []
def f35_spec : Am.Spec := fnSpec f35_ps f35_rs f35_os (fun x => f35_ok x.1 x.2.1) (fun x => f35 x.1 x.2.1) (fun _ => ())
def f35_ctx : Ctx := { tys := tys, fns := [(57, f57_spec)], loops := [(4, f35_L4_spec)], gh := [(3, [(4, 0, 8, 1005)]), (17, [(4, 0, 43, 1005)]), (21, [(4, 0, 58, 0)])], wrap := false, n := 59, keep := [], wr := [] }
theorem f35_cok : CtxOk Tryd.prog f35_ctx := ctxOk_mk tys_ok ⟨f57_is, trivial⟩ rfl (by kernel_rfl)
noncomputable def f35_code : Code := Tryd.f35.body.getD .skip
noncomputable def f35_L4 : Code := nthLoop f35_code 0
theorem f35_L4_sum : ∀ y x, sumLoop f35_ctx f35_L4 f35_L4_ly f35_L4_lx f35_L4_les y x = some (f35_L4_ok y x, f35_L4_g y x, y, f35_L4_next y x, f35_L4_es y x) := fun y x => by kernel_rfl
theorem f35_L4_is : LoopSnd Tryd.prog f35_ctx f35_L4 := loop_gen f35_cok mixed (bs := []) (by kernel_rfl) trivial (by kernel_rfl) (by kernel_rfl) f35_L4_sum
theorem f35_sum : ∀ x, sumFn f35_ctx f35_code Tryd.f35.results.toList f35_ps f35_rs f35_os x = some (f35_ok x.1 x.2.1, f35 x.1 x.2.1, ()) := fun x => by kernel_rfl
theorem f35_is : SpecOk Tryd.prog 35 f35_spec := func_gen f35_cok mixed Tryd.func35 (by kernel_rfl) (by decide) rfl (bs := [f35_L4]) (by kernel_rfl) ⟨f35_L4_is, trivial⟩ (by kernel_rfl) (by kernel_rfl) rfl f35_sum
def f58_L3_g (y : (Int × D25 × Unit)) (x : (Int × Int × Unit)) : Bool :=
  let a1 := y.1
  let a2 := y.2.1
  let a6 := x.2.1
  let v10 := (len a2.2.2.2.1)
  let v11 := (decide (a6 < v10))
  let v17 := (nth a2.2.2.2.1 a6 Z46)
  let v21 := (v17.1 == a1)
  let c := (v11 && (!v21))
  c
def f58_L3_next (y : (Int × D25 × Unit)) (x : (Int × Int × Unit)) : (Int × Int × Unit) :=
  let a2 := y.2.1
  let a5 := x.1
  let a6 := x.2.1
  let v26 := (nth a2.2.2.2.1 a6 Z46)
  let v29 := (v26.1 == (63 : Int))
  let m5 := (bif v29 then a6 else a5)
  let v13 := (a6 + (1 : Int))
  (m5, v13, ())
def f58_L3_ok (y : (Int × D25 × Unit)) (x : (Int × Int × Unit)) : Prop :=
  let a1 := y.1
  let a2 := y.2.1
  let a6 := x.2.1
  let v10 := (len a2.2.2.2.1)
  let v11 := (decide (a6 < v10))
  let v17 := (nth a2.2.2.2.1 a6 Z46)
  let v21 := (v17.1 == a1)
  (v11 = true → (InB a6 (len a2.2.2.2.1) ∧ (((!v21) = true → InB a6 (len a2.2.2.2.1)) ∧ ((!v21) = true → InR (a6 + (1 : Int))))))
instance (y : (Int × D25 × Unit)) (x : (Int × Int × Unit)) : Decidable (f58_L3_ok y x) := by
  unfold f58_L3_ok
  try dsimp only
  infer_instance
def f58_L3_x1 (y : (Int × D25 × Unit)) (x : (Int × Int × Unit)) : (Int × Unit) :=
  let a6 := x.2.1
  (a6, ())
def f58_L3_x1_0 (y : (Int × D25 × Unit)) (x : (Int × Int × Unit)) : Int := (f58_L3_x1 y x).1
def f58_L3_e1 (y : (Int × D25 × Unit)) (x : (Int × Int × Unit)) : Bool :=
  let a1 := y.1
  let a2 := y.2.1
  let a6 := x.2.1
  let v10 := (len a2.2.2.2.1)
  let v11 := (decide (a6 < v10))
  let v17 := (nth a2.2.2.2.1 a6 Z46)
  let v21 := (v17.1 == a1)
  let c_1 := (v11 && v21)
  c_1
def f58_L3_x2 (y : (Int × D25 × Unit)) (x : (Int × Int × Unit)) : (Int × Unit) :=
  let a5 := x.1
  (a5, ())
def f58_L3_x2_0 (y : (Int × D25 × Unit)) (x : (Int × Int × Unit)) : Int := (f58_L3_x2 y x).1
def f58_L3_e2 (y : (Int × D25 × Unit)) (x : (Int × Int × Unit)) : Bool :=
  let a2 := y.2.1
  let a6 := x.2.1
  let v10 := (len a2.2.2.2.1)
  let v11 := (decide (a6 < v10))
  (!v11)
def f58_L3_ly : List (Nat × Sh) := [(1, (.val (.int .u8))), (2, (.box T25 (.val T25)))]
def f58_L3_lx : List (Nat × Sh) := [(5, (.val (.int .i64))), (6, (.val (.int .i64)))]
def f58_L3_les : List (List (Nat × Sh)) := [[(4, (.val (.int .i64)))], [(5, (.val (.int .i64)))]]
def f58_L3_es (y : denL f58_L3_ly) (x : denL f58_L3_lx) : List Comp := [⟨1, some (f58_L3_e1 y x), mkSt [(4, (.val (.int .i64)))] ((f58_L3_x1_0 y x), ()) ++ cutSt⟩, ⟨2, some (f58_L3_e2 y x), mkSt [(5, (.val (.int .i64)))] ((f58_L3_x2_0 y x), ()) ++ cutSt⟩]
def f58_L3_spec : St → Option Out := loopS f58_L3_ly f58_L3_lx f58_L3_g f58_L3_next f58_L3_ok f58_L3_es
def f58 (p0 : D25) (p1 : Int) : Int :=
  let y3 := (p1, p0, ())
  let x3 := ((-1 : Int), (0 : Int), ())
  let e3 := (loopEnd (f58_L3_g y3) (f58_L3_next y3) x3)
  let r3_1_0 := (f58_L3_x1_0 y3 e3)
  let q3_1 := (f58_L3_e1 y3 e3)
  let r3_2_0 := (f58_L3_x2_0 y3 e3)
  let m4 := (bif q3_1 then r3_1_0 else r3_2_0)
  m4
def f58_ok (p0 : D25) (p1 : Int) : Prop :=
  let y3 := (p1, p0, ())
  let x3 := ((-1 : Int), (0 : Int), ())
  (Am.Ends (f58_L3_g y3) (f58_L3_next y3) (f58_L3_ok y3) x3)
instance (p0 : D25) (p1 : Int) : Decidable (f58_ok p0 p1) := by
  unfold f58_ok
  try dsimp only
  infer_instance
def f58_ps : List (Nat × Sh) := [(0, (.val T25)), (1, (.val (.int .u8)))]
def f58_rs : Sh := (.val (.int .i64))
def f58_os : List (Nat × Sh) := []
def f58_spec : Am.Spec := fnSpec f58_ps f58_rs f58_os (fun x => f58_ok x.1 x.2.1) (fun x => f58 x.1 x.2.1) (fun _ => ())
def f58_ctx : Ctx := { tys := tys, fns := [], loops := [(3, f58_L3_spec)], gh := [], wrap := false, n := 32, keep := [], wr := [] }
theorem f58_cok : CtxOk Tryd.prog f58_ctx := ctxOk_mk tys_ok trivial rfl (by kernel_rfl)
noncomputable def f58_code : Code := Tryd.f58.body.getD .skip
noncomputable def f58_L3 : Code := nthLoop f58_code 0
theorem f58_L3_sum : ∀ y x, sumLoop f58_ctx f58_L3 f58_L3_ly f58_L3_lx f58_L3_les y x = some (f58_L3_ok y x, f58_L3_g y x, y, f58_L3_next y x, f58_L3_es y x) := fun y x => by kernel_rfl
theorem f58_L3_is : LoopSnd Tryd.prog f58_ctx f58_L3 := loop_gen f58_cok mixed (bs := []) (by kernel_rfl) trivial (by kernel_rfl) (by kernel_rfl) f58_L3_sum
theorem f58_sum : ∀ x, sumFn f58_ctx f58_code Tryd.f58.results.toList f58_ps f58_rs f58_os x = some (f58_ok x.1 x.2.1, f58 x.1 x.2.1, ()) := fun x => by kernel_rfl
theorem f58_is : SpecOk Tryd.prog 58 f58_spec := func_gen f58_cok mixed Tryd.func58 (by kernel_rfl) (by decide) rfl (bs := [f58_L3]) (by kernel_rfl) ⟨f58_L3_is, trivial⟩ (by kernel_rfl) (by kernel_rfl) rfl f58_sum
def f36_L3_g (y : ((List UInt8) × D25 × Unit)) (x : ((List Int) × Int × Unit)) : Bool :=
  let a1 := y.1
  let a6 := x.2.1
  let v11 := (len a1)
  let v12 := (decide (a6 < v11))
  let v15 := (decide (a6 < (128 : Int)))
  let v16 := (bif v12 then v15 else false)
  v16
def f36_L3_next (y : ((List UInt8) × D25 × Unit)) (x : ((List Int) × Int × Unit)) : ((List Int) × Int × Unit) :=
  let a1 := y.1
  let a2 := y.2.1
  let a5 := x.1
  let a6 := x.2.1
  let v22 := (byteAt a1 a6)
  let v23 := (f58 a2 v22)
  let v25 := (decide (v23 ≥ (0 : Int)))
  let v28 := ([v23] : List Int)
  let v29 := (a5 ++ v28)
  let m5 := (bif v25 then v29 else a5)
  let v18 := (a6 + (1 : Int))
  (m5, v18, ())
def f36_L3_ok (y : ((List UInt8) × D25 × Unit)) (x : ((List Int) × Int × Unit)) : Prop :=
  let a1 := y.1
  let a2 := y.2.1
  let a5 := x.1
  let a6 := x.2.1
  let v11 := (len a1)
  let v12 := (decide (a6 < v11))
  let v15 := (decide (a6 < (128 : Int)))
  let v16 := (bif v12 then v15 else false)
  let v22 := (byteAt a1 a6)
  let v23 := (f58 a2 v22)
  let v25 := (decide (v23 ≥ (0 : Int)))
  let v28 := ([v23] : List Int)
  (v16 = true → (InB a6 (len a1) ∧ ((f58_ok a2 v22) ∧ ((v25 = true → ((List.length a5 + List.length v28 : Nat) : Int) ≤ 4294967296) ∧ InR (a6 + (1 : Int))))))
instance (y : ((List UInt8) × D25 × Unit)) (x : ((List Int) × Int × Unit)) : Decidable (f36_L3_ok y x) := by
  unfold f36_L3_ok
  try dsimp only
  infer_instance
def f36_L3_x2 (y : ((List UInt8) × D25 × Unit)) (x : ((List Int) × Int × Unit)) : ((List Int) × Unit) :=
  let a5 := x.1
  (a5, ())
def f36_L3_x2_0 (y : ((List UInt8) × D25 × Unit)) (x : ((List Int) × Int × Unit)) : (List Int) := (f36_L3_x2 y x).1
def f36_L3_ly : List (Nat × Sh) := [(1, (.val .str)), (2, (.box T25 (.val T25)))]
def f36_L3_lx : List (Nat × Sh) := [(5, (.own (.int .i64) 1005 false)), (6, (.val (.int .i64)))]
def f36_L3_les : List (List (Nat × Sh)) := [[(5, (.own (.int .i64) 1005 false))]]
def f36_L3_es (y : denL f36_L3_ly) (x : denL f36_L3_lx) : List Comp := [⟨2, none, mkSt [(5, (.own (.int .i64) 1005 false))] ((f36_L3_x2_0 y x), ()) ++ cutSt⟩]
def f36_L3_spec : St → Option Out := loopS f36_L3_ly f36_L3_lx f36_L3_g f36_L3_next f36_L3_ok f36_L3_es
def f36 (p0 : D25) (p1 : (List UInt8)) : (List Int) :=
  let y3 := (p1, p0, ())
  let x3 := (([] : List Int), (0 : Int), ())
  let e3 := (loopEnd (f36_L3_g y3) (f36_L3_next y3) x3)
  let r3_2_0 := (f36_L3_x2_0 y3 e3)
  r3_2_0
def f36_ok (p0 : D25) (p1 : (List UInt8)) : Prop :=
  let y3 := (p1, p0, ())
  let x3 := (([] : List Int), (0 : Int), ())
  (Am.Ends (f36_L3_g y3) (f36_L3_next y3) (f36_L3_ok y3) x3)
instance (p0 : D25) (p1 : (List UInt8)) : Decidable (f36_ok p0 p1) := by
  unfold f36_ok
  try dsimp only
  infer_instance
def f36_ps : List (Nat × Sh) := [(0, (.val T25)), (1, (.val .str))]
def f36_rs : Sh := (.own (.int .i64) 0 false)
def f36_os : List (Nat × Sh) := []
def f36_spec : Am.Spec := fnSpec f36_ps f36_rs f36_os (fun x => f36_ok x.1 x.2.1) (fun x => f36 x.1 x.2.1) (fun _ => ())
def f36_ctx : Ctx := { tys := tys, fns := [(58, f58_spec)], loops := [(3, f36_L3_spec)], gh := [(3, [(4, 0, 8, 1005)]), (15, [(4, 0, 29, 1005)]), (17, [(4, 0, 1005, 0)])], wrap := false, n := 31, keep := [], wr := [] }
theorem f36_cok : CtxOk Tryd.prog f36_ctx := ctxOk_mk tys_ok ⟨f58_is, trivial⟩ rfl (by kernel_rfl)
noncomputable def f36_code : Code := Tryd.f36.body.getD .skip
noncomputable def f36_L3 : Code := nthLoop f36_code 0
theorem f36_L3_sum : ∀ y x, sumLoop f36_ctx f36_L3 f36_L3_ly f36_L3_lx f36_L3_les y x = some (f36_L3_ok y x, f36_L3_g y x, y, f36_L3_next y x, f36_L3_es y x) := fun y x => by kernel_rfl
theorem f36_L3_is : LoopSnd Tryd.prog f36_ctx f36_L3 := loop_gen f36_cok mixed (bs := []) (by kernel_rfl) trivial (by kernel_rfl) (by kernel_rfl) f36_L3_sum
theorem f36_sum : ∀ x, sumFn f36_ctx f36_code Tryd.f36.results.toList f36_ps f36_rs f36_os x = some (f36_ok x.1 x.2.1, f36 x.1 x.2.1, ()) := fun x => by kernel_rfl
theorem f36_is : SpecOk Tryd.prog 36 f36_spec := func_gen f36_cok mixed Tryd.func36 (by kernel_rfl) (by decide) rfl (bs := [f36_L3]) (by kernel_rfl) ⟨f36_L3_is, trivial⟩ (by kernel_rfl) (by kernel_rfl) rfl f36_sum
def f59 (p0 : Int) (p1 : Int) : Int :=
  let v8 := (p1 == (0 : Int))
  let v10 := (p0 == (-9223372036854775808 : Int))
  let v13 := (p1 == (-1 : Int))
  let v14 := (bif v10 then v13 else false)
  let v17 := (Int.tdiv p0 p1)
  let v20 := (Int.tmod p0 p1)
  let v22 := (v20 != (0 : Int))
  let v25 := (decide (v20 < (0 : Int)))
  let v27 := (decide (p1 < (0 : Int)))
  let v28 := (!(Ty.eqb .bool v25 v27))
  let v29 := (bif v22 then v28 else false)
  let v31 := (v17 - (1 : Int))
  let m4 := (bif v29 then v31 else v17)
  let m4_1 := (bif v14 then (9223372036854775807 : Int) else m4)
  let m4_2 := (bif v8 then (0 : Int) else m4_1)
  m4_2
def f59_ok (p0 : Int) (p1 : Int) : Prop :=
  let v8 := (p1 == (0 : Int))
  let v10 := (p0 == (-9223372036854775808 : Int))
  let v13 := (p1 == (-1 : Int))
  let v14 := (bif v10 then v13 else false)
  let v17 := (Int.tdiv p0 p1)
  let v20 := (Int.tmod p0 p1)
  let v22 := (v20 != (0 : Int))
  let v25 := (decide (v20 < (0 : Int)))
  let v27 := (decide (p1 < (0 : Int)))
  let v28 := (!(Ty.eqb .bool v25 v27))
  let v29 := (bif v22 then v28 else false)
  ((!v8) = true → ((!v14) = true → (p1 ≠ 0 ∧ (InR (Int.tdiv p0 p1) ∧ (p1 ≠ 0 ∧ (v29 = true → InR (v17 - (1 : Int))))))))
instance (p0 : Int) (p1 : Int) : Decidable (f59_ok p0 p1) := by
  unfold f59_ok
  try dsimp only
  infer_instance
def f59_ps : List (Nat × Sh) := [(0, (.val (.int .i64))), (1, (.val (.int .i64)))]
def f59_rs : Sh := (.val (.int .i64))
def f59_os : List (Nat × Sh) := []
def f59_spec : Am.Spec := fnSpec f59_ps f59_rs f59_os (fun x => f59_ok x.1 x.2.1) (fun x => f59 x.1 x.2.1) (fun _ => ())
def f59_ctx : Ctx := { tys := tys, fns := [], loops := [], gh := [], wrap := false, n := 33, keep := [], wr := [] }
theorem f59_cok : CtxOk Tryd.prog f59_ctx := ctxOk_mk tys_ok trivial rfl (by kernel_rfl)
noncomputable def f59_code : Code := Tryd.f59.body.getD .skip
theorem f59_sum : ∀ x, sumFn f59_ctx f59_code Tryd.f59.results.toList f59_ps f59_rs f59_os x = some (f59_ok x.1 x.2.1, f59 x.1 x.2.1, ()) := fun x => by kernel_rfl
theorem f59_is : SpecOk Tryd.prog 59 f59_spec := func_gen f59_cok mixed Tryd.func59 (by kernel_rfl) (by decide) rfl (bs := []) (by kernel_rfl) trivial (by kernel_rfl) (by kernel_rfl) rfl f59_sum
def f60 (p0 : Int) : Int :=
  let v4 := (decide (p0 < (0 : Int)))
  let v6 := (IntKind.wrap .u64 p0)
  let v7 := (IntKind.wrap .u64 ((0 : Int) - v6))
  let v9 := (IntKind.wrap .u64 p0)
  let m2 := (bif v4 then v7 else v9)
  m2
def f60_ok (p0 : Int) : Prop :=
  True
instance (p0 : Int) : Decidable (f60_ok p0) := by
  unfold f60_ok
  try dsimp only
  infer_instance
def f60_ps : List (Nat × Sh) := [(0, (.val (.int .i64)))]
def f60_rs : Sh := (.val (.int .u64))
def f60_os : List (Nat × Sh) := []
def f60_spec : Am.Spec := fnSpec f60_ps f60_rs f60_os (fun x => f60_ok x.1) (fun x => f60 x.1) (fun _ => ())
def f60_ctx : Ctx := { tys := tys, fns := [], loops := [], gh := [], wrap := false, n := 10, keep := [], wr := [] }
theorem f60_cok : CtxOk Tryd.prog f60_ctx := ctxOk_mk tys_ok trivial rfl (by kernel_rfl)
noncomputable def f60_code : Code := Tryd.f60.body.getD .skip
theorem f60_sum : ∀ x, sumFn f60_ctx f60_code Tryd.f60.results.toList f60_ps f60_rs f60_os x = some (f60_ok x.1, f60 x.1, ()) := fun x => by kernel_rfl
theorem f60_is : SpecOk Tryd.prog 60 f60_spec := func_gen f60_cok mixed Tryd.func60 (by kernel_rfl) (by decide) rfl (bs := []) (by kernel_rfl) trivial (by kernel_rfl) (by kernel_rfl) rfl f60_sum
def f37 (p0 : Int) (p1 : Int) : Int :=
  let v8 := (p1 == (0 : Int))
  let v11 := (f59 p0 p1)
  let v13 := (p0 == (-9223372036854775808 : Int))
  let v16 := (p1 == (-1 : Int))
  let v17 := (bif v13 then v16 else false)
  let v22 := (p1 * v11)
  let v23 := (p0 - v22)
  let v24 := (f60 v23)
  let v27 := (f60 p1)
  let v29 := (IntKind.wrap .u64 (v27 - v24))
  let v30 := (decide (v24 ≥ v29))
  let v32 := (v11 + (1 : Int))
  let m4 := (bif v30 then v32 else v11)
  let m4_1 := (bif v17 then v11 else m4)
  let m4_2 := (bif v8 then (0 : Int) else m4_1)
  m4_2
def f37_ok (p0 : Int) (p1 : Int) : Prop :=
  let v8 := (p1 == (0 : Int))
  let v11 := (f59 p0 p1)
  let v13 := (p0 == (-9223372036854775808 : Int))
  let v16 := (p1 == (-1 : Int))
  let v17 := (bif v13 then v16 else false)
  let v22 := (p1 * v11)
  let v23 := (p0 - v22)
  let v24 := (f60 v23)
  let v27 := (f60 p1)
  let v29 := (IntKind.wrap .u64 (v27 - v24))
  let v30 := (decide (v24 ≥ v29))
  ((!v8) = true → ((f59_ok p0 p1) ∧ ((!v17) = true → (InR (p1 * v11) ∧ (InR (p0 - v22) ∧ ((f60_ok v23) ∧ ((f60_ok p1) ∧ (v30 = true → InR (v11 + (1 : Int))))))))))
instance (p0 : Int) (p1 : Int) : Decidable (f37_ok p0 p1) := by
  unfold f37_ok
  try dsimp only
  infer_instance
def f37_ps : List (Nat × Sh) := [(0, (.val (.int .i64))), (1, (.val (.int .i64)))]
def f37_rs : Sh := (.val (.int .i64))
def f37_os : List (Nat × Sh) := []
def f37_spec : Am.Spec := fnSpec f37_ps f37_rs f37_os (fun x => f37_ok x.1 x.2.1) (fun x => f37 x.1 x.2.1) (fun _ => ())
def f37_ctx : Ctx := { tys := tys, fns := [(59, f59_spec), (60, f60_spec)], loops := [], gh := [], wrap := false, n := 34, keep := [], wr := [] }
theorem f37_cok : CtxOk Tryd.prog f37_ctx := ctxOk_mk tys_ok ⟨f59_is, f60_is, trivial⟩ rfl (by kernel_rfl)
noncomputable def f37_code : Code := Tryd.f37.body.getD .skip
theorem f37_sum : ∀ x, sumFn f37_ctx f37_code Tryd.f37.results.toList f37_ps f37_rs f37_os x = some (f37_ok x.1 x.2.1, f37 x.1 x.2.1, ()) := fun x => by kernel_rfl
theorem f37_is : SpecOk Tryd.prog 37 f37_spec := func_gen f37_cok mixed Tryd.func37 (by kernel_rfl) (by decide) rfl (bs := []) (by kernel_rfl) trivial (by kernel_rfl) (by kernel_rfl) rfl f37_sum
def f38 (p0 : Int) (p1 : Int) (p2 : Int) : Int :=
  let v10 := (imax p0 p1)
  let v11 := (imin p2 v10)
  v11
def f38_ok (p0 : Int) (p1 : Int) (p2 : Int) : Prop :=
  True
instance (p0 : Int) (p1 : Int) (p2 : Int) : Decidable (f38_ok p0 p1 p2) := by
  unfold f38_ok
  try dsimp only
  infer_instance
def f38_ps : List (Nat × Sh) := [(0, (.val (.int .i64))), (1, (.val (.int .i64))), (2, (.val (.int .i64)))]
def f38_rs : Sh := (.val (.int .i64))
def f38_os : List (Nat × Sh) := []
def f38_spec : Am.Spec := fnSpec f38_ps f38_rs f38_os (fun x => f38_ok x.1 x.2.1 x.2.2.1) (fun x => f38 x.1 x.2.1 x.2.2.1) (fun _ => ())
def f38_ctx : Ctx := { tys := tys, fns := [], loops := [], gh := [], wrap := false, n := 12, keep := [], wr := [] }
theorem f38_cok : CtxOk Tryd.prog f38_ctx := ctxOk_mk tys_ok trivial rfl (by kernel_rfl)
noncomputable def f38_code : Code := Tryd.f38.body.getD .skip
theorem f38_sum : ∀ x, sumFn f38_ctx f38_code Tryd.f38.results.toList f38_ps f38_rs f38_os x = some (f38_ok x.1 x.2.1 x.2.2.1, f38 x.1 x.2.1 x.2.2.1, ()) := fun x => by kernel_rfl
theorem f38_is : SpecOk Tryd.prog 38 f38_spec := func_gen f38_cok mixed Tryd.func38 (by kernel_rfl) (by decide) rfl (bs := []) (by kernel_rfl) trivial (by kernel_rfl) (by kernel_rfl) rfl f38_sum
def f16 (p0 : D25) (p1 : (List UInt8)) (p2 : Int) : Int :=
  let v9 := (f14 p0)
  let v10 := (v9 != (0 : Int))
  let v14 := (f36 p0 p1)
  let v15 := (f35 p0 v14)
  let v18 := (len v15)
  let v19 := (v18 - (1 : Int))
  let v20 := (nth v15 v19 (0 : Int))
  let v23 := (f38 p2 (1 : Int) (1048576 : Int))
  let v24 := (v20 * v23)
  let v27 := (f37 v24 p0.1)
  let m6 := (bif v10 then (0 : Int) else v27)
  m6
def f16_ok (p0 : D25) (p1 : (List UInt8)) (p2 : Int) : Prop :=
  let v9 := (f14 p0)
  let v10 := (v9 != (0 : Int))
  let v14 := (f36 p0 p1)
  let v15 := (f35 p0 v14)
  let v18 := (len v15)
  let v19 := (v18 - (1 : Int))
  let v20 := (nth v15 v19 (0 : Int))
  let v23 := (f38 p2 (1 : Int) (1048576 : Int))
  let v24 := (v20 * v23)
  ((f14_ok p0) ∧ ((!v10) = true → ((f36_ok p0 p1) ∧ ((f35_ok p0 v14) ∧ (InR (v18 - (1 : Int)) ∧ (InB v19 (len v15) ∧ ((f38_ok p2 (1 : Int) (1048576 : Int)) ∧ (InR (v20 * v23) ∧ (f37_ok v24 p0.1)))))))))
instance (p0 : D25) (p1 : (List UInt8)) (p2 : Int) : Decidable (f16_ok p0 p1 p2) := by
  unfold f16_ok
  try dsimp only
  infer_instance
def f16_ps : List (Nat × Sh) := [(0, (.val T25)), (1, (.val .str)), (2, (.val (.int .i64)))]
def f16_rs : Sh := (.val (.int .i64))
def f16_os : List (Nat × Sh) := []
def f16_spec : Am.Spec := fnSpec f16_ps f16_rs f16_os (fun x => f16_ok x.1 x.2.1 x.2.2.1) (fun x => f16 x.1 x.2.1 x.2.2.1) (fun _ => ())
def f16_ctx : Ctx := { tys := tys, fns := [(14, f14_spec), (35, f35_spec), (36, f36_spec), (37, f37_spec), (38, f38_spec)], loops := [], gh := [(7, [(4, 0, 15, 1007)])], wrap := false, n := 28, keep := [], wr := [] }
theorem f16_cok : CtxOk Tryd.prog f16_ctx := ctxOk_mk tys_ok ⟨f14_is, f35_is, f36_is, f37_is, f38_is, trivial⟩ rfl (by kernel_rfl)
noncomputable def f16_code : Code := Tryd.f16.body.getD .skip
theorem f16_sum : ∀ x, sumFn f16_ctx f16_code Tryd.f16.results.toList f16_ps f16_rs f16_os x = some (f16_ok x.1 x.2.1 x.2.2.1, f16 x.1 x.2.1 x.2.2.1, ()) := fun x => by kernel_rfl
theorem f16_is : SpecOk Tryd.prog 16 f16_spec := func_gen f16_cok mixed Tryd.func16 (by kernel_rfl) (by decide) rfl (bs := []) (by kernel_rfl) trivial (by kernel_rfl) (by kernel_rfl) rfl f16_sum
def f4 (p0 : D31) : Bool :=
  let v5 := (f12 p0.1)
  let v8 := (f14 p0.1)
  let v9 := (v5 == v8)
  let v17 := (f15 p0.1 p0.2.1 p0.2.2.1)
  let v24 := (f16 p0.1 p0.2.1 p0.2.2.1)
  let v25 := (v17 == v24)
  let v26 := (bif v9 then v25 else false)
  let v29 := (bif v26 then f13 else false)
  v29
def f4_ok (p0 : D31) : Prop :=
  let v5 := (f12 p0.1)
  let v8 := (f14 p0.1)
  let v9 := (v5 == v8)
  let v17 := (f15 p0.1 p0.2.1 p0.2.2.1)
  let v24 := (f16 p0.1 p0.2.1 p0.2.2.1)
  let v25 := (v17 == v24)
  let v26 := (bif v9 then v25 else false)
  ((f12_ok p0.1) ∧ ((f14_ok p0.1) ∧ ((v9 = true → (f15_ok p0.1 p0.2.1 p0.2.2.1)) ∧ ((v9 = true → (f16_ok p0.1 p0.2.1 p0.2.2.1)) ∧ (v26 = true → f13_ok)))))
instance (p0 : D31) : Decidable (f4_ok p0) := by
  unfold f4_ok
  try dsimp only
  infer_instance
def f4_ps : List (Nat × Sh) := [(0, (.val T31))]
def f4_rs : Sh := (.val .bool)
def f4_os : List (Nat × Sh) := []
def f4_spec : Am.Spec := fnSpec f4_ps f4_rs f4_os (fun x => f4_ok x.1) (fun x => f4 x.1) (fun _ => ())
def f4_ctx : Ctx := { tys := tys, fns := [(12, f12_spec), (13, f13_spec), (14, f14_spec), (15, f15_spec), (16, f16_spec)], loops := [], gh := [], wrap := false, n := 30, keep := [], wr := [] }
theorem f4_cok : CtxOk Tryd.prog f4_ctx := ctxOk_mk tys_ok ⟨f12_is, f13_is, f14_is, f15_is, f16_is, trivial⟩ rfl (by kernel_rfl)
noncomputable def f4_code : Code := Tryd.f4.body.getD .skip
theorem f4_sum : ∀ x, sumFn f4_ctx f4_code Tryd.f4.results.toList f4_ps f4_rs f4_os x = some (f4_ok x.1, f4 x.1, ()) := fun x => by kernel_rfl
theorem f4_is : SpecOk Tryd.prog 4 f4_spec := func_gen f4_cok mixed Tryd.func4 (by kernel_rfl) (by decide) rfl (bs := []) (by kernel_rfl) trivial (by kernel_rfl) (by kernel_rfl) rfl f4_sum
def f41_L4_g (y : ((List UInt8) × Int × Unit)) (x : ((List (List UInt8)) × Int × Int × Unit)) : Bool :=
  let a0 := y.1
  let a7 := x.2.2.1
  let v11 := (len a0)
  let v12 := (decide (a7 ≤ v11))
  v12
def f41_L4_next (y : ((List UInt8) × Int × Unit)) (x : ((List (List UInt8)) × Int × Int × Unit)) : ((List (List UInt8)) × Int × Int × Unit) :=
  let a0 := y.1
  let a1 := y.2.1
  let a5 := x.1
  let a6 := x.2.1
  let a7 := x.2.2.1
  let v17 := (len a0)
  let v18 := (a7 == v17)
  let v22 := (byteAt a0 a7)
  let v24 := (v22 == a1)
  let v25 := (bif v18 then true else v24)
  let v30 := (List.drop (Int.toNat a6) (List.take (Int.toNat a7) a0))
  let v31 := ([v30] : List (List UInt8))
  let v32 := (a5 ++ v31)
  let v34 := (a7 + (1 : Int))
  let m5 := (bif v25 then v32 else a5)
  let m6 := (bif v25 then v34 else a6)
  let v14 := (a7 + (1 : Int))
  (m5, m6, v14, ())
def f41_L4_ok (y : ((List UInt8) × Int × Unit)) (x : ((List (List UInt8)) × Int × Int × Unit)) : Prop :=
  let a0 := y.1
  let a1 := y.2.1
  let a5 := x.1
  let a6 := x.2.1
  let a7 := x.2.2.1
  let v11 := (len a0)
  let v12 := (decide (a7 ≤ v11))
  let v17 := (len a0)
  let v18 := (a7 == v17)
  let g19_2 := (!v18)
  let v22 := (byteAt a0 a7)
  let v24 := (v22 == a1)
  let v25 := (bif v18 then true else v24)
  let v30 := (List.drop (Int.toNat a6) (List.take (Int.toNat a7) a0))
  let v31 := ([v30] : List (List UInt8))
  (v12 = true → ((g19_2 = true → InB a7 (len a0)) ∧ ((v25 = true → ((0 ≤ a6 ∧ a6 ≤ a7 ∧ a7 ≤ len a0) ∧ (((List.length a5 + List.length v31 : Nat) : Int) ≤ 4294967296 ∧ InR (a7 + (1 : Int))))) ∧ InR (a7 + (1 : Int)))))
instance (y : ((List UInt8) × Int × Unit)) (x : ((List (List UInt8)) × Int × Int × Unit)) : Decidable (f41_L4_ok y x) := by
  unfold f41_L4_ok
  try dsimp only
  infer_instance
def f41_L4_x2 (y : ((List UInt8) × Int × Unit)) (x : ((List (List UInt8)) × Int × Int × Unit)) : ((List (List UInt8)) × Unit) :=
  let a5 := x.1
  (a5, ())
def f41_L4_x2_0 (y : ((List UInt8) × Int × Unit)) (x : ((List (List UInt8)) × Int × Int × Unit)) : (List (List UInt8)) := (f41_L4_x2 y x).1
def f41_L4_ly : List (Nat × Sh) := [(0, (.val .str)), (1, (.val (.int .u8)))]
def f41_L4_lx : List (Nat × Sh) := [(5, (.own .str 1005 false)), (6, (.val (.int .i64))), (7, (.val (.int .i64)))]
def f41_L4_les : List (List (Nat × Sh)) := [[(5, (.own .str 1005 false))]]
def f41_L4_es (y : denL f41_L4_ly) (x : denL f41_L4_lx) : List Comp := [⟨2, none, mkSt [(5, (.own .str 1005 false))] ((f41_L4_x2_0 y x), ()) ++ cutSt⟩]
def f41_L4_spec : St → Option Out := loopS f41_L4_ly f41_L4_lx f41_L4_g f41_L4_next f41_L4_ok f41_L4_es
def f41 (p0 : (List UInt8)) (p1 : Int) : (List (List UInt8)) :=
  let y4 := (p0, p1, ())
  let x4 := (([] : List (List UInt8)), (0 : Int), (0 : Int), ())
  let e4 := (loopEnd (f41_L4_g y4) (f41_L4_next y4) x4)
  let r4_2_0 := (f41_L4_x2_0 y4 e4)
  r4_2_0
def f41_ok (p0 : (List UInt8)) (p1 : Int) : Prop :=
  let y4 := (p0, p1, ())
  let x4 := (([] : List (List UInt8)), (0 : Int), (0 : Int), ())
  (Am.Ends (f41_L4_g y4) (f41_L4_next y4) (f41_L4_ok y4) x4)
instance (p0 : (List UInt8)) (p1 : Int) : Decidable (f41_ok p0 p1) := by
  unfold f41_ok
  try dsimp only
  infer_instance
def f41_ps : List (Nat × Sh) := [(0, (.val .str)), (1, (.val (.int .u8)))]
def f41_rs : Sh := (.own .str 0 false)
def f41_os : List (Nat × Sh) := []
def f41_spec : Am.Spec := fnSpec f41_ps f41_rs f41_os (fun x => f41_ok x.1 x.2.1) (fun x => f41 x.1 x.2.1) (fun _ => ())
def f41_ctx : Ctx := { tys := tys, fns := [], loops := [(4, f41_L4_spec)], gh := [(3, [(4, 0, 8, 1005)]), (15, [(4, 0, 32, 1005)]), (19, [(4, 0, 1005, 0)])], wrap := false, n := 36, keep := [], wr := [] }
theorem f41_cok : CtxOk Tryd.prog f41_ctx := ctxOk_mk tys_ok trivial rfl (by kernel_rfl)
noncomputable def f41_code : Code := Tryd.f41.body.getD .skip
noncomputable def f41_L4 : Code := nthLoop f41_code 0
theorem f41_L4_sum : ∀ y x, sumLoop f41_ctx f41_L4 f41_L4_ly f41_L4_lx f41_L4_les y x = some (f41_L4_ok y x, f41_L4_g y x, y, f41_L4_next y x, f41_L4_es y x) := fun y x => by kernel_rfl
theorem f41_L4_is : LoopSnd Tryd.prog f41_ctx f41_L4 := loop_gen f41_cok mixed (bs := []) (by kernel_rfl) trivial (by kernel_rfl) (by kernel_rfl) f41_L4_sum
theorem f41_sum : ∀ x, sumFn f41_ctx f41_code Tryd.f41.results.toList f41_ps f41_rs f41_os x = some (f41_ok x.1 x.2.1, f41 x.1 x.2.1, ()) := fun x => by kernel_rfl
theorem f41_is : SpecOk Tryd.prog 41 f41_spec := func_gen f41_cok mixed Tryd.func41 (by kernel_rfl) (by decide) rfl (bs := [f41_L4]) (by kernel_rfl) ⟨f41_L4_is, trivial⟩ (by kernel_rfl) (by kernel_rfl) rfl f41_sum
def f18_L5_g (y : ((List UInt8) × Int × Int × D25 × Unit)) (x : (Int × Unit)) : Bool :=
  let a1 := y.1
  let a11 := x.1
  let v26 := (len a1)
  let v27 := (decide (a11 < v26))
  let v32 := (byteAt a1 a11)
  let v33 := (v32 != (10 : Int))
  let v37 := (byteAt a1 a11)
  let v38 := (decide (v37 < (32 : Int)))
  let v42 := (byteAt a1 a11)
  let v43 := (decide (v42 > (126 : Int)))
  let v44 := (bif v38 then true else v43)
  let v45 := (bif v33 then v44 else false)
  let c := (v27 && (!v45))
  c
def f18_L5_next (y : ((List UInt8) × Int × Int × D25 × Unit)) (x : (Int × Unit)) : (Int × Unit) :=
  let a11 := x.1
  let v29 := (a11 + (1 : Int))
  (v29, ())
def f18_L5_ok (y : ((List UInt8) × Int × Int × D25 × Unit)) (x : (Int × Unit)) : Prop :=
  let a1 := y.1
  let a11 := x.1
  let v26 := (len a1)
  let v27 := (decide (a11 < v26))
  let v32 := (byteAt a1 a11)
  let v33 := (v32 != (10 : Int))
  let v37 := (byteAt a1 a11)
  let v38 := (decide (v37 < (32 : Int)))
  let g39_2 := (v33 && (!v38))
  let v42 := (byteAt a1 a11)
  let v43 := (decide (v42 > (126 : Int)))
  let v44 := (bif v38 then true else v43)
  let v45 := (bif v33 then v44 else false)
  (v27 = true → (InB a11 (len a1) ∧ ((v33 = true → InB a11 (len a1)) ∧ ((g39_2 = true → InB a11 (len a1)) ∧ ((!v45) = true → InR (a11 + (1 : Int)))))))
instance (y : ((List UInt8) × Int × Int × D25 × Unit)) (x : (Int × Unit)) : Decidable (f18_L5_ok y x) := by
  unfold f18_L5_ok
  try dsimp only
  infer_instance
def f18_L5_x1 (y : ((List UInt8) × Int × Int × D25 × Unit)) (x : (Int × Unit)) : ((List (List UInt8)) × Int × Unit) :=
  (([] : List (List UInt8)), (4 : Int), ())
def f18_L5_x1_0 (y : ((List UInt8) × Int × Int × D25 × Unit)) (x : (Int × Unit)) : (List (List UInt8)) := (f18_L5_x1 y x).1
def f18_L5_x1_1 (y : ((List UInt8) × Int × Int × D25 × Unit)) (x : (Int × Unit)) : Int := (f18_L5_x1 y x).2.1
def f18_L5_e1 (y : ((List UInt8) × Int × Int × D25 × Unit)) (x : (Int × Unit)) : Bool :=
  let a1 := y.1
  let a11 := x.1
  let v26 := (len a1)
  let v27 := (decide (a11 < v26))
  let v32 := (byteAt a1 a11)
  let v33 := (v32 != (10 : Int))
  let v37 := (byteAt a1 a11)
  let v38 := (decide (v37 < (32 : Int)))
  let v42 := (byteAt a1 a11)
  let v43 := (decide (v42 > (126 : Int)))
  let v44 := (bif v38 then true else v43)
  let v45 := (bif v33 then v44 else false)
  let c_1 := (v27 && v45)
  c_1
def f18_L5_x2 (y : ((List UInt8) × Int × Int × D25 × Unit)) (x : (Int × Unit)) : (Unit) :=
  ()
def f18_L5_e2 (y : ((List UInt8) × Int × Int × D25 × Unit)) (x : (Int × Unit)) : Bool :=
  let a1 := y.1
  let a11 := x.1
  let v26 := (len a1)
  let v27 := (decide (a11 < v26))
  (!v27)
def f18_L5_ly : List (Nat × Sh) := [(1, (.val .str)), (2, (.val (.int .i64))), (3, (.val (.int .i64))), (4, (.box T25 (.val T25)))]
def f18_L5_lx : List (Nat × Sh) := [(11, (.val (.int .i64)))]
def f18_L5_les : List (List (Nat × Sh)) := [[(8, (.own .str 0 false)), (9, (.val (.int .i64)))], [(1, (.val .str)), (2, (.val (.int .i64))), (3, (.val (.int .i64))), (4, (.box T25 (.val T25)))]]
def f18_L5_es (y : denL f18_L5_ly) (x : denL f18_L5_lx) : List Comp := [⟨1, some (f18_L5_e1 y x), mkSt [(8, (.own .str 0 false)), (9, (.val (.int .i64)))] ((f18_L5_x1_0 y x), (f18_L5_x1_1 y x), ()) ++ cutSt⟩, ⟨2, some (f18_L5_e2 y x), mkSt [(1, (.val .str)), (2, (.val (.int .i64))), (3, (.val (.int .i64))), (4, (.box T25 (.val T25)))] (y.1, y.2.1, y.2.2.1, y.2.2.2.1, ()) ++ cutSt⟩]
def f18_L5_spec : St → Option Out := loopS f18_L5_ly f18_L5_lx f18_L5_g f18_L5_next f18_L5_ok f18_L5_es
def f18_L21_g (y : (Int × Int × D25 × (List (List UInt8)) × Int × (List (List UInt8)) × Unit)) (x : ((List (List UInt8)) × (List UInt8) × Int × Unit)) : Bool :=
  let a15 := y.2.2.2.2.2.1
  let a17 := x.2.2.1
  let v82 := (len a15)
  let v83 := (decide (a17 < v82))
  v83
def f18_L21_next (y : (Int × Int × D25 × (List (List UInt8)) × Int × (List (List UInt8)) × Unit)) (x : ((List (List UInt8)) × (List UInt8) × Int × Unit)) : ((List (List UInt8)) × (List UInt8) × Int × Unit) :=
  let a2 := y.1
  let a3 := y.2.1
  let a4 := y.2.2.1
  let a15 := y.2.2.2.2.2.1
  let a12 := x.1
  let a16 := x.2.1
  let a17 := x.2.2.1
  let v87 := (a16 ++ ([32] : List UInt8))
  let v90 := (nth a15 a17 ([] : List UInt8))
  let v92 := (v87 ++ v90)
  let v94 := (a3 == (0 : Int))
  let v99 := (f16 a4 v92 a2)
  let v101 := (decide (v99 ≤ a3))
  let v102 := (bif v94 then true else v101)
  let v106 := ([a16] : List (List UInt8))
  let v107 := (a12 ++ v106)
  let v110 := (nth a15 a17 ([] : List UInt8))
  let m12 := (bif v102 then a12 else v107)
  let m16 := (bif v102 then v92 else v110)
  let v85 := (a17 + (1 : Int))
  (m12, m16, v85, ())
def f18_L21_ok (y : (Int × Int × D25 × (List (List UInt8)) × Int × (List (List UInt8)) × Unit)) (x : ((List (List UInt8)) × (List UInt8) × Int × Unit)) : Prop :=
  let a2 := y.1
  let a3 := y.2.1
  let a4 := y.2.2.1
  let a15 := y.2.2.2.2.2.1
  let a12 := x.1
  let a16 := x.2.1
  let a17 := x.2.2.1
  let v82 := (len a15)
  let v83 := (decide (a17 < v82))
  let v87 := (a16 ++ ([32] : List UInt8))
  let v90 := (nth a15 a17 ([] : List UInt8))
  let v92 := (v87 ++ v90)
  let v94 := (a3 == (0 : Int))
  let g95_3 := (!v94)
  let v99 := (f16 a4 v92 a2)
  let v101 := (decide (v99 ≤ a3))
  let v102 := (bif v94 then true else v101)
  let v106 := ([a16] : List (List UInt8))
  (v83 = true → (((List.length a16 + List.length ([32] : List UInt8) : Nat) : Int) ≤ 9223372036854775807 ∧ (InB a17 (len a15) ∧ (((List.length v87 + List.length v90 : Nat) : Int) ≤ 9223372036854775807 ∧ ((g95_3 = true → (f16_ok a4 v92 a2)) ∧ ((v102 = false → (((List.length a12 + List.length v106 : Nat) : Int) ≤ 4294967296 ∧ InB a17 (len a15))) ∧ InR (a17 + (1 : Int))))))))
instance (y : (Int × Int × D25 × (List (List UInt8)) × Int × (List (List UInt8)) × Unit)) (x : ((List (List UInt8)) × (List UInt8) × Int × Unit)) : Decidable (f18_L21_ok y x) := by
  unfold f18_L21_ok
  try dsimp only
  infer_instance
def f18_L21_x6 (y : (Int × Int × D25 × (List (List UInt8)) × Int × (List (List UInt8)) × Unit)) (x : ((List (List UInt8)) × (List UInt8) × Int × Unit)) : ((List (List UInt8)) × (List UInt8) × Unit) :=
  let a12 := x.1
  let a16 := x.2.1
  (a12, a16, ())
def f18_L21_x6_0 (y : (Int × Int × D25 × (List (List UInt8)) × Int × (List (List UInt8)) × Unit)) (x : ((List (List UInt8)) × (List UInt8) × Int × Unit)) : (List (List UInt8)) := (f18_L21_x6 y x).1
def f18_L21_x6_1 (y : (Int × Int × D25 × (List (List UInt8)) × Int × (List (List UInt8)) × Unit)) (x : ((List (List UInt8)) × (List UInt8) × Int × Unit)) : (List UInt8) := (f18_L21_x6 y x).2.1
def f18_L21_ly : List (Nat × Sh) := [(2, (.val (.int .i64))), (3, (.val (.int .i64))), (4, (.box T25 (.val T25))), (13, (.own .str 1013 false)), (14, (.val (.int .i64))), (15, (.own .str 1015 false))]
def f18_L21_lx : List (Nat × Sh) := [(12, (.own .str 1012 false)), (16, (.val .str)), (17, (.val (.int .i64)))]
def f18_L21_les : List (List (Nat × Sh)) := [[(2, (.val (.int .i64))), (3, (.val (.int .i64))), (4, (.box T25 (.val T25))), (12, (.own .str 1012 false)), (13, (.own .str 1013 false)), (14, (.val (.int .i64))), (16, (.val .str))]]
def f18_L21_es (y : denL f18_L21_ly) (x : denL f18_L21_lx) : List Comp := [⟨6, none, mkSt [(2, (.val (.int .i64))), (3, (.val (.int .i64))), (4, (.box T25 (.val T25))), (12, (.own .str 1012 false)), (13, (.own .str 1013 false)), (14, (.val (.int .i64))), (16, (.val .str))] (y.1, y.2.1, y.2.2.1, (f18_L21_x6_0 y x), y.2.2.2.1, y.2.2.2.2.1, (f18_L21_x6_1 y x), ()) ++ cutSt⟩]
def f18_L21_spec : St → Option Out := loopS f18_L21_ly f18_L21_lx f18_L21_g f18_L21_next f18_L21_ok f18_L21_es
def f18_L16_g (y : (Int × Int × D25 × (List (List UInt8)) × Unit)) (x : ((List (List UInt8)) × Int × Unit)) : Bool :=
  let a13 := y.2.2.2.1
  let a14 := x.2.1
  let v68 := (len a13)
  let v69 := (decide (a14 < v68))
  v69
def f18_L16_next (y : (Int × Int × D25 × (List (List UInt8)) × Unit)) (x : ((List (List UInt8)) × Int × Unit)) : ((List (List UInt8)) × Int × Unit) :=
  let a2 := y.1
  let a3 := y.2.1
  let a4 := y.2.2.1
  let a13 := y.2.2.2.1
  let a12 := x.1
  let a14 := x.2.1
  let v74 := (nth a13 a14 ([] : List UInt8))
  let v76 := (f41 v74 (32 : Int))
  let v78 := (nth v76 (0 : Int) ([] : List UInt8))
  let y21 := (a2, a3, a4, a13, a14, v76, ())
  let x21 := (a12, v78, (1 : Int), ())
  let e21 := (loopEnd (f18_L21_g y21) (f18_L21_next y21) x21)
  let r21_6_0 := (f18_L21_x6_0 y21 e21)
  let r21_6_1 := (f18_L21_x6_1 y21 e21)
  let v114 := ([r21_6_1] : List (List UInt8))
  let v115 := (r21_6_0 ++ v114)
  let v71 := (a14 + (1 : Int))
  (v115, v71, ())
def f18_L16_ok (y : (Int × Int × D25 × (List (List UInt8)) × Unit)) (x : ((List (List UInt8)) × Int × Unit)) : Prop :=
  let a2 := y.1
  let a3 := y.2.1
  let a4 := y.2.2.1
  let a13 := y.2.2.2.1
  let a12 := x.1
  let a14 := x.2.1
  let v68 := (len a13)
  let v69 := (decide (a14 < v68))
  let v74 := (nth a13 a14 ([] : List UInt8))
  let v76 := (f41 v74 (32 : Int))
  let v78 := (nth v76 (0 : Int) ([] : List UInt8))
  let y21 := (a2, a3, a4, a13, a14, v76, ())
  let x21 := (a12, v78, (1 : Int), ())
  let e21 := (loopEnd (f18_L21_g y21) (f18_L21_next y21) x21)
  let r21_6_0 := (f18_L21_x6_0 y21 e21)
  let r21_6_1 := (f18_L21_x6_1 y21 e21)
  let v114 := ([r21_6_1] : List (List UInt8))
  (v69 = true → (InB a14 (len a13) ∧ ((f41_ok v74 (32 : Int)) ∧ (InB (0 : Int) (len v76) ∧ ((Am.Ends (f18_L21_g y21) (f18_L21_next y21) (f18_L21_ok y21) x21) ∧ (((List.length r21_6_0 + List.length v114 : Nat) : Int) ≤ 4294967296 ∧ InR (a14 + (1 : Int))))))))
instance (y : (Int × Int × D25 × (List (List UInt8)) × Unit)) (x : ((List (List UInt8)) × Int × Unit)) : Decidable (f18_L16_ok y x) := by
  unfold f18_L16_ok
  try dsimp only
  infer_instance
def f18_L16_x4 (y : (Int × Int × D25 × (List (List UInt8)) × Unit)) (x : ((List (List UInt8)) × Int × Unit)) : ((List (List UInt8)) × Unit) :=
  let a12 := x.1
  (a12, ())
def f18_L16_x4_0 (y : (Int × Int × D25 × (List (List UInt8)) × Unit)) (x : ((List (List UInt8)) × Int × Unit)) : (List (List UInt8)) := (f18_L16_x4 y x).1
def f18_L16_ly : List (Nat × Sh) := [(2, (.val (.int .i64))), (3, (.val (.int .i64))), (4, (.box T25 (.val T25))), (13, (.own .str 1013 false))]
def f18_L16_lx : List (Nat × Sh) := [(12, (.own .str 1012 false)), (14, (.val (.int .i64)))]
def f18_L16_les : List (List (Nat × Sh)) := [[(12, (.own .str 1012 false))]]
def f18_L16_es (y : denL f18_L16_ly) (x : denL f18_L16_lx) : List Comp := [⟨4, none, mkSt [(12, (.own .str 1012 false))] ((f18_L16_x4_0 y x), ()) ++ cutSt⟩]
def f18_L16_spec : St → Option Out := loopS f18_L16_ly f18_L16_lx f18_L16_g f18_L16_next f18_L16_ok f18_L16_es
def f18 (p0 : D25) (p1 : (List UInt8)) (p2 : Int) (p3 : Int) : ((List (List UInt8)) × Int × Unit) :=
  let v20 := (f14 p0)
  let v22 := (v20 != (0 : Int))
  let y5 := (p1, p2, p3, p0, ())
  let x5 := ((0 : Int), ())
  let e5 := (loopEnd (f18_L5_g y5) (f18_L5_next y5) x5)
  let r5_1_0 := (f18_L5_x1_0 y5 e5)
  let r5_1_1 := (f18_L5_x1_1 y5 e5)
  let q5_1 := (f18_L5_e1 y5 e5)
  let v47 := (len p1)
  let v48 := (decide (v47 > (128 : Int)))
  let v50 := (decide (p2 < (1 : Int)))
  let v53 := (decide (p2 > (1048576 : Int)))
  let v54 := (bif v50 then true else v53)
  let v57 := (decide (p3 < (0 : Int)))
  let v58 := (bif v54 then true else v57)
  let v61 := (decide (p3 > (1048576 : Int)))
  let v62 := (bif v58 then true else v61)
  let v65 := (f41 p1 (10 : Int))
  let y16 := (p2, p3, p0, v65, ())
  let x16 := (([] : List (List UInt8)), (0 : Int), ())
  let e16 := (loopEnd (f18_L16_g y16) (f18_L16_next y16) x16)
  let r16_4_0 := (f18_L16_x4_0 y16 e16)
  let m8 := (bif v62 then [] else r16_4_0)
  let m9 := (bif v62 then (2 : Int) else (0 : Int))
  let m8_1 := (bif v48 then [] else m8)
  let m9_1 := (bif v48 then (3 : Int) else m9)
  let m8_2 := (bif q5_1 then r5_1_0 else m8_1)
  let m9_2 := (bif q5_1 then r5_1_1 else m9_1)
  let m8_3 := (bif v22 then [] else m8_2)
  let m9_3 := (bif v22 then v20 else m9_2)
  (m8_3, m9_3, ())
def f18_ok (p0 : D25) (p1 : (List UInt8)) (p2 : Int) (p3 : Int) : Prop :=
  let v20 := (f14 p0)
  let v22 := (v20 != (0 : Int))
  let y5 := (p1, p2, p3, p0, ())
  let x5 := ((0 : Int), ())
  let e5 := (loopEnd (f18_L5_g y5) (f18_L5_next y5) x5)
  let q5_2 := (f18_L5_e2 y5 e5)
  let v47 := (len p1)
  let v48 := (decide (v47 > (128 : Int)))
  let v50 := (decide (p2 < (1 : Int)))
  let v53 := (decide (p2 > (1048576 : Int)))
  let v54 := (bif v50 then true else v53)
  let v57 := (decide (p3 < (0 : Int)))
  let v58 := (bif v54 then true else v57)
  let v61 := (decide (p3 > (1048576 : Int)))
  let v62 := (bif v58 then true else v61)
  let v65 := (f41 p1 (10 : Int))
  let y16 := (p2, p3, p0, v65, ())
  let x16 := (([] : List (List UInt8)), (0 : Int), ())
  ((f14_ok p0) ∧ ((!v22) = true → ((Am.Ends (f18_L5_g y5) (f18_L5_next y5) (f18_L5_ok y5) x5) ∧ (q5_2 = true → ((!v48) = true → ((!v62) = true → ((f41_ok p1 (10 : Int)) ∧ (Am.Ends (f18_L16_g y16) (f18_L16_next y16) (f18_L16_ok y16) x16))))))))
instance (p0 : D25) (p1 : (List UInt8)) (p2 : Int) (p3 : Int) : Decidable (f18_ok p0 p1 p2 p3) := by
  unfold f18_ok
  try dsimp only
  infer_instance
def f18_ps : List (Nat × Sh) := [(0, (.val T25)), (1, (.val .str)), (2, (.val (.int .i64))), (3, (.val (.int .i64)))]
def f18_rs : Sh := (.tup (.cons (.own .str 0 false) (.cons (.val (.int .i64)) .nl)))
def f18_os : List (Nat × Sh) := []
def f18_spec : Am.Spec := fnSpec f18_ps f18_rs f18_os (fun x => f18_ok x.1 x.2.1 x.2.2.1 x.2.2.2.1) (fun x => f18 x.1 x.2.1 x.2.2.1 x.2.2.2.1) (fun _ => ())
def f18_ctx : Ctx := { tys := tys, fns := [(14, f14_spec), (16, f16_spec), (41, f41_spec)], loops := [(5, f18_L5_spec), (21, f18_L21_spec), (16, f18_L16_spec)], gh := [(27, [(4, 0, 63, 1012)]), (29, [(4, 0, 65, 1013)]), (37, [(4, 0, 76, 1015)]), (53, [(4, 0, 107, 1012)]), (57, [(4, 0, 115, 1012)]), (59, [(4, 0, 1012, 0)])], wrap := false, n := 117, keep := [], wr := [] }
theorem f18_cok : CtxOk Tryd.prog f18_ctx := ctxOk_mk tys_ok ⟨f14_is, f16_is, f41_is, trivial⟩ rfl (by kernel_rfl)
noncomputable def f18_code : Code := Tryd.f18.body.getD .skip
noncomputable def f18_L5 : Code := nthLoop f18_code 0
theorem f18_L5_sum : ∀ y x, sumLoop f18_ctx f18_L5 f18_L5_ly f18_L5_lx f18_L5_les y x = some (f18_L5_ok y x, f18_L5_g y x, y, f18_L5_next y x, f18_L5_es y x) := fun y x => by kernel_rfl
theorem f18_L5_is : LoopSnd Tryd.prog f18_ctx f18_L5 := loop_gen f18_cok mixed (bs := []) (by kernel_rfl) trivial (by kernel_rfl) (by kernel_rfl) f18_L5_sum
noncomputable def f18_L16 : Code := nthLoop f18_code 1
noncomputable def f18_L21 : Code := nthLoop f18_L16 0
theorem f18_L21_sum : ∀ y x, sumLoop f18_ctx f18_L21 f18_L21_ly f18_L21_lx f18_L21_les y x = some (f18_L21_ok y x, f18_L21_g y x, y, f18_L21_next y x, f18_L21_es y x) := fun y x => by kernel_rfl
theorem f18_L21_is : LoopSnd Tryd.prog f18_ctx f18_L21 := loop_gen f18_cok mixed (bs := []) (by kernel_rfl) trivial (by kernel_rfl) (by kernel_rfl) f18_L21_sum
theorem f18_L16_sum : ∀ y x, sumLoop f18_ctx f18_L16 f18_L16_ly f18_L16_lx f18_L16_les y x = some (f18_L16_ok y x, f18_L16_g y x, y, f18_L16_next y x, f18_L16_es y x) := fun y x => by kernel_rfl
theorem f18_L16_is : LoopSnd Tryd.prog f18_ctx f18_L16 := loop_gen f18_cok mixed (bs := [f18_L21]) (by kernel_rfl) ⟨f18_L21_is, trivial⟩ (by kernel_rfl) (by kernel_rfl) f18_L16_sum
theorem f18_sum : ∀ x, sumFn f18_ctx f18_code Tryd.f18.results.toList f18_ps f18_rs f18_os x = some (f18_ok x.1 x.2.1 x.2.2.1 x.2.2.2.1, f18 x.1 x.2.1 x.2.2.1 x.2.2.2.1, ()) := fun x => by kernel_rfl
theorem f18_is : SpecOk Tryd.prog 18 f18_spec := func_gen f18_cok mixed Tryd.func18 (by kernel_rfl) (by decide) rfl (bs := [f18_L5, f18_L16]) (by kernel_rfl) ⟨f18_L5_is, f18_L16_is, trivial⟩ (by kernel_rfl) (by kernel_rfl) rfl f18_sum
def f5 (p0 : D31) : Bool :=
  let v16 := (f17 p0.1 p0.2.1 p0.2.2.1 p0.2.2.2.1)
  let v28 := (f18 p0.1 p0.2.1 p0.2.2.1 p0.2.2.2.1)
  let v33 := (v16.2.1 == v28.2.1)
  let v37 := (f19 v16.1 v28.1)
  let v38 := (bif v33 then v37 else false)
  let v41 := (bif v38 then f13 else false)
  v41
def f5_ok (p0 : D31) : Prop :=
  let v16 := (f17 p0.1 p0.2.1 p0.2.2.1 p0.2.2.2.1)
  let v28 := (f18 p0.1 p0.2.1 p0.2.2.1 p0.2.2.2.1)
  let v33 := (v16.2.1 == v28.2.1)
  let v37 := (f19 v16.1 v28.1)
  let v38 := (bif v33 then v37 else false)
  ((f17_ok p0.1 p0.2.1 p0.2.2.1 p0.2.2.2.1) ∧ ((f18_ok p0.1 p0.2.1 p0.2.2.1 p0.2.2.2.1) ∧ ((v33 = true → (f19_ok v16.1 v28.1)) ∧ (v38 = true → f13_ok))))
instance (p0 : D31) : Decidable (f5_ok p0) := by
  unfold f5_ok
  try dsimp only
  infer_instance
def f5_ps : List (Nat × Sh) := [(0, (.val T31))]
def f5_rs : Sh := (.val .bool)
def f5_os : List (Nat × Sh) := []
def f5_spec : Am.Spec := fnSpec f5_ps f5_rs f5_os (fun x => f5_ok x.1) (fun x => f5 x.1) (fun _ => ())
def f5_ctx : Ctx := { tys := tys, fns := [(13, f13_spec), (17, f17_spec), (18, f18_spec), (19, f19_spec)], loops := [], gh := [(5, [(4, 0, 28, 1005)])], wrap := false, n := 42, keep := [], wr := [] }
theorem f5_cok : CtxOk Tryd.prog f5_ctx := ctxOk_mk tys_ok ⟨f13_is, f17_is, f18_is, f19_is, trivial⟩ rfl (by kernel_rfl)
noncomputable def f5_code : Code := Tryd.f5.body.getD .skip
theorem f5_sum : ∀ x, sumFn f5_ctx f5_code Tryd.f5.results.toList f5_ps f5_rs f5_os x = some (f5_ok x.1, f5 x.1, ()) := fun x => by kernel_rfl
theorem f5_is : SpecOk Tryd.prog 5 f5_spec := func_gen f5_cok mixed Tryd.func5 (by kernel_rfl) (by decide) rfl (bs := []) (by kernel_rfl) trivial (by kernel_rfl) (by kernel_rfl) rfl f5_sum
def f7_L18_g (y : (D31 × (List (List UInt8)) × Int × Int × Int × Unit)) (x : (Bool × Int × Unit)) : Bool :=
  let a3 := y.2.1
  let a6 := y.2.2.2.1
  let a7 := y.2.2.2.2.1
  let a9 := x.2.1
  let v93 := (decide (a9 < a7))
  let v98 := (nth a3 a6 ([] : List UInt8))
  let v101 := (byteAt v98 a9)
  let v102 := (v101 == (10 : Int))
  let c := (v93 && (!v102))
  c
def f7_L18_next (y : (D31 × (List (List UInt8)) × Int × Int × Int × Unit)) (x : (Bool × Int × Unit)) : (Bool × Int × Unit) :=
  let a3 := y.2.1
  let a6 := y.2.2.2.1
  let a8 := x.1
  let a9 := x.2.1
  let v107 := (nth a3 a6 ([] : List UInt8))
  let v110 := (byteAt v107 a9)
  let v111 := (v110 == (32 : Int))
  let v112 := (bif a8 then true else v111)
  let v95 := (a9 + (1 : Int))
  (v112, v95, ())
def f7_L18_ok (y : (D31 × (List (List UInt8)) × Int × Int × Int × Unit)) (x : (Bool × Int × Unit)) : Prop :=
  let a3 := y.2.1
  let a6 := y.2.2.2.1
  let a7 := y.2.2.2.2.1
  let a8 := x.1
  let a9 := x.2.1
  let v93 := (decide (a9 < a7))
  let v98 := (nth a3 a6 ([] : List UInt8))
  let v101 := (byteAt v98 a9)
  let v102 := (v101 == (10 : Int))
  let g104_2 := (!a8)
  let v107 := (nth a3 a6 ([] : List UInt8))
  let g104_5 := (!a8)
  (v93 = true → (InB a6 (len a3) ∧ (InB a9 (len v98) ∧ (((!v102) = true → ((g104_2 = true → InB a6 (len a3)) ∧ (g104_5 = true → InB a9 (len v107)))) ∧ ((!v102) = true → InR (a9 + (1 : Int)))))))
instance (y : (D31 × (List (List UInt8)) × Int × Int × Int × Unit)) (x : (Bool × Int × Unit)) : Decidable (f7_L18_ok y x) := by
  unfold f7_L18_ok
  try dsimp only
  infer_instance
def f7_L18_x1 (y : (D31 × (List (List UInt8)) × Int × Int × Int × Unit)) (x : (Bool × Int × Unit)) : (Bool × Unit) :=
  (false, ())
def f7_L18_x1_0 (y : (D31 × (List (List UInt8)) × Int × Int × Int × Unit)) (x : (Bool × Int × Unit)) : Bool := (f7_L18_x1 y x).1
def f7_L18_e1 (y : (D31 × (List (List UInt8)) × Int × Int × Int × Unit)) (x : (Bool × Int × Unit)) : Bool :=
  let a3 := y.2.1
  let a6 := y.2.2.2.1
  let a7 := y.2.2.2.2.1
  let a9 := x.2.1
  let v93 := (decide (a9 < a7))
  let v98 := (nth a3 a6 ([] : List UInt8))
  let v101 := (byteAt v98 a9)
  let v102 := (v101 == (10 : Int))
  let c_1 := (v93 && v102)
  c_1
def f7_L18_x4 (y : (D31 × (List (List UInt8)) × Int × Int × Int × Unit)) (x : (Bool × Int × Unit)) : (Bool × Unit) :=
  let a8 := x.1
  (a8, ())
def f7_L18_x4_0 (y : (D31 × (List (List UInt8)) × Int × Int × Int × Unit)) (x : (Bool × Int × Unit)) : Bool := (f7_L18_x4 y x).1
def f7_L18_e4 (y : (D31 × (List (List UInt8)) × Int × Int × Int × Unit)) (x : (Bool × Int × Unit)) : Bool :=
  let a7 := y.2.2.2.2.1
  let a9 := x.2.1
  let v93 := (decide (a9 < a7))
  (!v93)
def f7_L18_ly : List (Nat × Sh) := [(1, (.box T31 (.val T31))), (3, (.val (.sl .str))), (5, (.val (.int .i64))), (6, (.val (.int .i64))), (7, (.val (.int .i64)))]
def f7_L18_lx : List (Nat × Sh) := [(8, (.val .bool)), (9, (.val (.int .i64)))]
def f7_L18_les : List (List (Nat × Sh)) := [[(2, (.val .bool))], [(1, (.box T31 (.val T31))), (3, (.val (.sl .str))), (5, (.val (.int .i64))), (6, (.val (.int .i64))), (8, (.val .bool))]]
def f7_L18_es (y : denL f7_L18_ly) (x : denL f7_L18_lx) : List Comp := [⟨1, some (f7_L18_e1 y x), mkSt [(2, (.val .bool))] ((f7_L18_x1_0 y x), ()) ++ cutSt⟩, ⟨4, some (f7_L18_e4 y x), mkSt [(1, (.box T31 (.val T31))), (3, (.val (.sl .str))), (5, (.val (.int .i64))), (6, (.val (.int .i64))), (8, (.val .bool))] (y.1, y.2.1, y.2.2.1, y.2.2.2.1, (f7_L18_x4_0 y x), ()) ++ cutSt⟩]
def f7_L18_spec : St → Option Out := loopS f7_L18_ly f7_L18_lx f7_L18_g f7_L18_next f7_L18_ok f7_L18_es
def f7_L6_g (y : (D31 × (List (List UInt8)) × Unit)) (x : (Int × Int × Unit)) : Bool :=
  let a1 := y.1
  let a3 := y.2.1
  let a5 := x.1
  let a6 := x.2.1
  let v27 := (len a3)
  let v28 := (decide (a6 < v27))
  let v33 := (nth a3 a6 ([] : List UInt8))
  let v35 := (len v33)
  let v39 := (len a1.2.1)
  let v41 := (v39 - a5)
  let v42 := (decide (v35 > v41))
  let v46 := (nth a3 a6 ([] : List UInt8))
  let v53 := (a5 + v35)
  let v54 := (List.drop (Int.toNat a5) (List.take (Int.toNat v53) a1.2.1))
  let v55 := (!(v46 == v54))
  let v56 := (bif v42 then true else v55)
  let v59 := (a5 + v35)
  let v61 := (a6 + (1 : Int))
  let v63 := (len a3)
  let v64 := (decide (v61 < v63))
  let v68 := (len a1.2.1)
  let v69 := (decide (v59 ≥ v68))
  let v74 := (byteAt a1.2.1 v59)
  let v75 := (v74 != (10 : Int))
  let v80 := (byteAt a1.2.1 v59)
  let v81 := (v80 != (32 : Int))
  let v85 := (a1.2.2.2.1 == (0 : Int))
  let v86 := (bif v81 then true else v85)
  let v87 := (bif v75 then v86 else false)
  let v88 := (bif v69 then true else v87)
  let v90 := (v59 + (1 : Int))
  let c := (bif v64 then (!v88) else true)
  let m5 := (bif v64 then v90 else v59)
  let y18 := (a1, a3, m5, a6, v35, ())
  let x18 := (false, (0 : Int), ())
  let e18 := (loopEnd (f7_L18_g y18) (f7_L18_next y18) x18)
  let r18_4_0 := (f7_L18_x4_0 y18 e18)
  let q18_4 := (f7_L18_e4 y18 e18)
  let v117 := (decide (a1.2.2.2.1 > (0 : Int)))
  let v118 := (bif r18_4_0 then v117 else false)
  let v124 := (nth a3 a6 ([] : List UInt8))
  let v128 := (f15 a1.1 v124 a1.2.2.1)
  let v131 := (decide (v128 > a1.2.2.2.1))
  let v132 := (bif v118 then v131 else false)
  let c_4 := (q18_4 && (!v132))
  let c_7 := (c && c_4)
  let c_10 := ((!v56) && c_7)
  let c_11 := (v28 && c_10)
  c_11
def f7_L6_next (y : (D31 × (List (List UInt8)) × Unit)) (x : (Int × Int × Unit)) : (Int × Int × Unit) :=
  let a3 := y.2.1
  let a5 := x.1
  let a6 := x.2.1
  let v33 := (nth a3 a6 ([] : List UInt8))
  let v35 := (len v33)
  let v59 := (a5 + v35)
  let v61 := (a6 + (1 : Int))
  let v63 := (len a3)
  let v64 := (decide (v61 < v63))
  let v90 := (v59 + (1 : Int))
  let m5 := (bif v64 then v90 else v59)
  let v30 := (a6 + (1 : Int))
  (m5, v30, ())
def f7_L6_ok (y : (D31 × (List (List UInt8)) × Unit)) (x : (Int × Int × Unit)) : Prop :=
  let a1 := y.1
  let a3 := y.2.1
  let a5 := x.1
  let a6 := x.2.1
  let v27 := (len a3)
  let v28 := (decide (a6 < v27))
  let v33 := (nth a3 a6 ([] : List UInt8))
  let v35 := (len v33)
  let v39 := (len a1.2.1)
  let v41 := (v39 - a5)
  let v42 := (decide (v35 > v41))
  let g43_2 := (!v42)
  let v46 := (nth a3 a6 ([] : List UInt8))
  let g43_9 := (!v42)
  let v53 := (a5 + v35)
  let g43_10 := (!v42)
  let v54 := (List.drop (Int.toNat a5) (List.take (Int.toNat v53) a1.2.1))
  let v55 := (!(v46 == v54))
  let v56 := (bif v42 then true else v55)
  let v59 := (a5 + v35)
  let v61 := (a6 + (1 : Int))
  let v63 := (len a3)
  let v64 := (decide (v61 < v63))
  let v68 := (len a1.2.1)
  let v69 := (decide (v59 ≥ v68))
  let g70_3 := (!v69)
  let v74 := (byteAt a1.2.1 v59)
  let v75 := (v74 != (10 : Int))
  let g70_5 := (!v69)
  let g76_3 := (g70_5 && v75)
  let v80 := (byteAt a1.2.1 v59)
  let v81 := (v80 != (32 : Int))
  let v85 := (a1.2.2.2.1 == (0 : Int))
  let v86 := (bif v81 then true else v85)
  let v87 := (bif v75 then v86 else false)
  let v88 := (bif v69 then true else v87)
  let v90 := (v59 + (1 : Int))
  let c := (bif v64 then (!v88) else true)
  let m5 := (bif v64 then v90 else v59)
  let y18 := (a1, a3, m5, a6, v35, ())
  let x18 := (false, (0 : Int), ())
  let e18 := (loopEnd (f7_L18_g y18) (f7_L18_next y18) x18)
  let r18_4_0 := (f7_L18_x4_0 y18 e18)
  let q18_4 := (f7_L18_e4 y18 e18)
  let v117 := (decide (a1.2.2.2.1 > (0 : Int)))
  let v118 := (bif r18_4_0 then v117 else false)
  let v124 := (nth a3 a6 ([] : List UInt8))
  let v128 := (f15 a1.1 v124 a1.2.2.1)
  let v131 := (decide (v128 > a1.2.2.2.1))
  let v132 := (bif v118 then v131 else false)
  let c_4 := (q18_4 && (!v132))
  let c_7 := (c && c_4)
  let c_10 := ((!v56) && c_7)
  (v28 = true → (InB a6 (len a3) ∧ (InR (v39 - a5) ∧ ((g43_2 = true → InB a6 (len a3)) ∧ ((g43_9 = true → InR (a5 + v35)) ∧ ((g43_10 = true → (0 ≤ a5 ∧ a5 ≤ v53 ∧ v53 ≤ len a1.2.1)) ∧ (((!v56) = true → (InR (a5 + v35) ∧ (InR (a6 + (1 : Int)) ∧ ((v64 = true → ((g70_3 = true → InB v59 (len a1.2.1)) ∧ ((g76_3 = true → InB v59 (len a1.2.1)) ∧ ((!v88) = true → InR (v59 + (1 : Int)))))) ∧ (c = true → ((Am.Ends (f7_L18_g y18) (f7_L18_next y18) (f7_L18_ok y18) x18) ∧ (q18_4 = true → ((v118 = true → InB a6 (len a3)) ∧ (v118 = true → (f15_ok a1.1 v124 a1.2.2.1)))))))))) ∧ (c_10 = true → InR (a6 + (1 : Int))))))))))
instance (y : (D31 × (List (List UInt8)) × Unit)) (x : (Int × Int × Unit)) : Decidable (f7_L6_ok y x) := by
  unfold f7_L6_ok
  try dsimp only
  infer_instance
def f7_L6_x1 (y : (D31 × (List (List UInt8)) × Unit)) (x : (Int × Int × Unit)) : (Bool × Unit) :=
  let a1 := y.1
  let a3 := y.2.1
  let a5 := x.1
  let a6 := x.2.1
  let v33 := (nth a3 a6 ([] : List UInt8))
  let v35 := (len v33)
  let v39 := (len a1.2.1)
  let v41 := (v39 - a5)
  let v42 := (decide (v35 > v41))
  let v46 := (nth a3 a6 ([] : List UInt8))
  let v53 := (a5 + v35)
  let v54 := (List.drop (Int.toNat a5) (List.take (Int.toNat v53) a1.2.1))
  let v55 := (!(v46 == v54))
  let v56 := (bif v42 then true else v55)
  let v59 := (a5 + v35)
  let v61 := (a6 + (1 : Int))
  let v63 := (len a3)
  let v64 := (decide (v61 < v63))
  let v68 := (len a1.2.1)
  let v69 := (decide (v59 ≥ v68))
  let v74 := (byteAt a1.2.1 v59)
  let v75 := (v74 != (10 : Int))
  let v80 := (byteAt a1.2.1 v59)
  let v81 := (v80 != (32 : Int))
  let v85 := (a1.2.2.2.1 == (0 : Int))
  let v86 := (bif v81 then true else v85)
  let v87 := (bif v75 then v86 else false)
  let v88 := (bif v69 then true else v87)
  let v90 := (v59 + (1 : Int))
  let m5 := (bif v64 then v90 else v59)
  let c_1 := (v88 && v64)
  let y18 := (a1, a3, m5, a6, v35, ())
  let x18 := (false, (0 : Int), ())
  let e18 := (loopEnd (f7_L18_g y18) (f7_L18_next y18) x18)
  let r18_1_0 := (f7_L18_x1_0 y18 e18)
  let q18_1 := (f7_L18_e1 y18 e18)
  let m2 := (bif q18_1 then r18_1_0 else false)
  let m2_1 := (bif c_1 then false else m2)
  let m2_2 := (bif v56 then false else m2_1)
  (m2_2, ())
def f7_L6_x1_0 (y : (D31 × (List (List UInt8)) × Unit)) (x : (Int × Int × Unit)) : Bool := (f7_L6_x1 y x).1
def f7_L6_e1 (y : (D31 × (List (List UInt8)) × Unit)) (x : (Int × Int × Unit)) : Bool :=
  let a1 := y.1
  let a3 := y.2.1
  let a5 := x.1
  let a6 := x.2.1
  let v27 := (len a3)
  let v28 := (decide (a6 < v27))
  let v33 := (nth a3 a6 ([] : List UInt8))
  let v35 := (len v33)
  let v39 := (len a1.2.1)
  let v41 := (v39 - a5)
  let v42 := (decide (v35 > v41))
  let v46 := (nth a3 a6 ([] : List UInt8))
  let v53 := (a5 + v35)
  let v54 := (List.drop (Int.toNat a5) (List.take (Int.toNat v53) a1.2.1))
  let v55 := (!(v46 == v54))
  let v56 := (bif v42 then true else v55)
  let v59 := (a5 + v35)
  let v61 := (a6 + (1 : Int))
  let v63 := (len a3)
  let v64 := (decide (v61 < v63))
  let v68 := (len a1.2.1)
  let v69 := (decide (v59 ≥ v68))
  let v74 := (byteAt a1.2.1 v59)
  let v75 := (v74 != (10 : Int))
  let v80 := (byteAt a1.2.1 v59)
  let v81 := (v80 != (32 : Int))
  let v85 := (a1.2.2.2.1 == (0 : Int))
  let v86 := (bif v81 then true else v85)
  let v87 := (bif v75 then v86 else false)
  let v88 := (bif v69 then true else v87)
  let v90 := (v59 + (1 : Int))
  let c := (bif v64 then (!v88) else true)
  let m5 := (bif v64 then v90 else v59)
  let c_1 := (v88 && v64)
  let y18 := (a1, a3, m5, a6, v35, ())
  let x18 := (false, (0 : Int), ())
  let e18 := (loopEnd (f7_L18_g y18) (f7_L18_next y18) x18)
  let q18_1 := (f7_L18_e1 y18 e18)
  let r18_4_0 := (f7_L18_x4_0 y18 e18)
  let q18_4 := (f7_L18_e4 y18 e18)
  let v117 := (decide (a1.2.2.2.1 > (0 : Int)))
  let v118 := (bif r18_4_0 then v117 else false)
  let v124 := (nth a3 a6 ([] : List UInt8))
  let v128 := (f15 a1.1 v124 a1.2.2.1)
  let v131 := (decide (v128 > a1.2.2.2.1))
  let v132 := (bif v118 then v131 else false)
  let c_2 := (q18_4 && v132)
  let c_3 := (q18_1 || c_2)
  let c_5 := (c && c_3)
  let c_6 := (c_1 || c_5)
  let c_8 := ((!v56) && c_6)
  let c_9 := (v56 || c_8)
  let c_12 := (v28 && c_9)
  c_12
def f7_L6_x2 (y : (D31 × (List (List UInt8)) × Unit)) (x : (Int × Int × Unit)) : (Int × Unit) :=
  let a5 := x.1
  (a5, ())
def f7_L6_x2_0 (y : (D31 × (List (List UInt8)) × Unit)) (x : (Int × Int × Unit)) : Int := (f7_L6_x2 y x).1
def f7_L6_e2 (y : (D31 × (List (List UInt8)) × Unit)) (x : (Int × Int × Unit)) : Bool :=
  let a3 := y.2.1
  let a6 := x.2.1
  let v27 := (len a3)
  let v28 := (decide (a6 < v27))
  (!v28)
def f7_L6_ly : List (Nat × Sh) := [(1, (.box T31 (.val T31))), (3, (.val (.sl .str)))]
def f7_L6_lx : List (Nat × Sh) := [(5, (.val (.int .i64))), (6, (.val (.int .i64)))]
def f7_L6_les : List (List (Nat × Sh)) := [[(2, (.val .bool))], [(1, (.box T31 (.val T31))), (3, (.val (.sl .str))), (5, (.val (.int .i64)))]]
def f7_L6_es (y : denL f7_L6_ly) (x : denL f7_L6_lx) : List Comp := [⟨1, some (f7_L6_e1 y x), mkSt [(2, (.val .bool))] ((f7_L6_x1_0 y x), ()) ++ cutSt⟩, ⟨2, some (f7_L6_e2 y x), mkSt [(1, (.box T31 (.val T31))), (3, (.val (.sl .str))), (5, (.val (.int .i64)))] (y.1, y.2.1, (f7_L6_x2_0 y x), ()) ++ cutSt⟩]
def f7_L6_spec : St → Option Out := loopS f7_L6_ly f7_L6_lx f7_L6_g f7_L6_next f7_L6_ok f7_L6_es
def f7 (p0 : D31) : Bool :=
  let v19 := (f17 p0.1 p0.2.1 p0.2.2.1 p0.2.2.2.1)
  let v23 := (v19.2.1 != (0 : Int))
  let y6 := (p0, v19.1, ())
  let x6 := ((0 : Int), (0 : Int), ())
  let e6 := (loopEnd (f7_L6_g y6) (f7_L6_next y6) x6)
  let r6_1_0 := (f7_L6_x1_0 y6 e6)
  let q6_1 := (f7_L6_e1 y6 e6)
  let r6_2_0 := (f7_L6_x2_0 y6 e6)
  let v134 := (len v19.1)
  let v135 := (decide (v134 > (0 : Int)))
  let v140 := (len p0.2.1)
  let v141 := (r6_2_0 == v140)
  let v142 := (bif v135 then v141 else false)
  let v145 := (bif v142 then f13 else false)
  let m2 := (bif q6_1 then r6_1_0 else v145)
  let m2_1 := (bif v23 then f13 else m2)
  m2_1
def f7_ok (p0 : D31) : Prop :=
  let v19 := (f17 p0.1 p0.2.1 p0.2.2.1 p0.2.2.2.1)
  let v23 := (v19.2.1 != (0 : Int))
  let y6 := (p0, v19.1, ())
  let x6 := ((0 : Int), (0 : Int), ())
  let e6 := (loopEnd (f7_L6_g y6) (f7_L6_next y6) x6)
  let r6_2_0 := (f7_L6_x2_0 y6 e6)
  let q6_2 := (f7_L6_e2 y6 e6)
  let v134 := (len v19.1)
  let v135 := (decide (v134 > (0 : Int)))
  let v140 := (len p0.2.1)
  let v141 := (r6_2_0 == v140)
  let v142 := (bif v135 then v141 else false)
  ((f17_ok p0.1 p0.2.1 p0.2.2.1 p0.2.2.2.1) ∧ ((v23 = true → f13_ok) ∧ ((!v23) = true → ((Am.Ends (f7_L6_g y6) (f7_L6_next y6) (f7_L6_ok y6) x6) ∧ (q6_2 = true → (v142 = true → f13_ok))))))
instance (p0 : D31) : Decidable (f7_ok p0) := by
  unfold f7_ok
  try dsimp only
  infer_instance
def f7_ps : List (Nat × Sh) := [(0, (.val T31))]
def f7_rs : Sh := (.val .bool)
def f7_os : List (Nat × Sh) := []
def f7_spec : Am.Spec := fnSpec f7_ps f7_rs f7_os (fun x => f7_ok x.1) (fun x => f7 x.1) (fun _ => ())
def f7_ctx : Ctx := { tys := tys, fns := [(13, f13_spec), (15, f15_spec), (17, f17_spec)], loops := [(18, f7_L18_spec), (6, f7_L6_spec)], gh := [], wrap := false, n := 146, keep := [], wr := [] }
theorem f7_cok : CtxOk Tryd.prog f7_ctx := ctxOk_mk tys_ok ⟨f13_is, f15_is, f17_is, trivial⟩ rfl (by kernel_rfl)
noncomputable def f7_code : Code := Tryd.f7.body.getD .skip
noncomputable def f7_L6 : Code := nthLoop f7_code 0
noncomputable def f7_L18 : Code := nthLoop f7_L6 0
theorem f7_L18_sum : ∀ y x, sumLoop f7_ctx f7_L18 f7_L18_ly f7_L18_lx f7_L18_les y x = some (f7_L18_ok y x, f7_L18_g y x, y, f7_L18_next y x, f7_L18_es y x) := fun y x => by kernel_rfl
theorem f7_L18_is : LoopSnd Tryd.prog f7_ctx f7_L18 := loop_gen f7_cok mixed (bs := []) (by kernel_rfl) trivial (by kernel_rfl) (by kernel_rfl) f7_L18_sum
theorem f7_L6_sum : ∀ y x, sumLoop f7_ctx f7_L6 f7_L6_ly f7_L6_lx f7_L6_les y x = some (f7_L6_ok y x, f7_L6_g y x, y, f7_L6_next y x, f7_L6_es y x) := fun y x => by kernel_rfl
theorem f7_L6_is : LoopSnd Tryd.prog f7_ctx f7_L6 := loop_gen f7_cok mixed (bs := [f7_L18]) (by kernel_rfl) ⟨f7_L18_is, trivial⟩ (by kernel_rfl) (by kernel_rfl) f7_L6_sum
theorem f7_sum : ∀ x, sumFn f7_ctx f7_code Tryd.f7.results.toList f7_ps f7_rs f7_os x = some (f7_ok x.1, f7 x.1, ()) := fun x => by kernel_rfl
theorem f7_is : SpecOk Tryd.prog 7 f7_spec := func_gen f7_cok mixed Tryd.func7 (by kernel_rfl) (by decide) rfl (bs := [f7_L6]) (by kernel_rfl) ⟨f7_L6_is, trivial⟩ (by kernel_rfl) (by kernel_rfl) rfl f7_sum
end Go.Proofs.YtnemgdgminolpaaDoor.Am
