/- Printed by program, part 2. No condition. -/
import Derived.Test.YtleannhgpeiooaaGreatDoorNode
set_option linter.unusedVariables false
set_option synthInstance.maxSize 4000
set_option synthInstance.maxHeartbeats 400000
namespace Go.Proofs.YtleannhgpeiooaaGreatDoor.Am
open Go Go.Am

-- imageeditor/imageeditorref31.sameSegs
def f64_L4_g (y : ((List D62) × (List D62) × Unit)) (x : (Int × Unit)) : Bool :=
  let a0 := y.1 
  let a1 := y.2.1 
  let a5 := x.1 
  let v13 := (len a0)
  let v14 := (decide (a5 < v13))
  let v19 := (nth a0 a5 Z62)
  let v23 := (nth a1 a5 Z62)
  let v25 := (!(Ty.eqb T62 v19 v23))
  let c := (v14 && (!v25))
  c

def f64_L4_next (y : ((List D62) × (List D62) × Unit)) (x : (Int × Unit)) : (Int × Unit) :=
  let a5 := x.1 
  let v16 := (a5 + (1 : Int))
  (v16, ())

def f64_L4_ok (y : ((List D62) × (List D62) × Unit)) (x : (Int × Unit)) : Prop :=
  let a0 := y.1 
  let a1 := y.2.1 
  let a5 := x.1 
  let v13 := (len a0)
  let v14 := (decide (a5 < v13))
  let v19 := (nth a0 a5 Z62)
  let v23 := (nth a1 a5 Z62)
  let v25 := (!(Ty.eqb T62 v19 v23))
  (v14 = true → (InB a5 (len a0) ∧ (InB a5 (len a1) ∧ ((!v25) = true → InR (a5 + (1 : Int))))))

instance (y : ((List D62) × (List D62) × Unit)) (x : (Int × Unit)) : Decidable (f64_L4_ok y x) := by
  unfold f64_L4_ok
  try dsimp only
  infer_instance

def f64_L4_x1 (y : ((List D62) × (List D62) × Unit)) (x : (Int × Unit)) : (Bool × Unit) :=
  (false, ())

def f64_L4_e1 (y : ((List D62) × (List D62) × Unit)) (x : (Int × Unit)) : Bool :=
  let a0 := y.1 
  let a1 := y.2.1 
  let a5 := x.1 
  let v13 := (len a0)
  let v14 := (decide (a5 < v13))
  let v19 := (nth a0 a5 Z62)
  let v23 := (nth a1 a5 Z62)
  let v25 := (!(Ty.eqb T62 v19 v23))
  let c_1 := (v14 && v25)
  c_1

def f64_L4_x2 (y : ((List D62) × (List D62) × Unit)) (x : (Int × Unit)) : (Unit) :=
  ()

def f64_L4_e2 (y : ((List D62) × (List D62) × Unit)) (x : (Int × Unit)) : Bool :=
  let a0 := y.1 
  let a5 := x.1 
  let v13 := (len a0)
  let v14 := (decide (a5 < v13))
  (!v14)

def f64_L4_ly : List (Nat × Sh) := [(0, (.val (.sl T62))), (1, (.val (.sl T62)))]
def f64_L4_lx : List (Nat × Sh) := [(5, (.val (.int .i64)))]
def f64_L4_les : List (List (Nat × Sh)) := [[(4, (.val .bool))], []]

def f64_L4_es (y : denL f64_L4_ly) (x : denL f64_L4_lx) : List Comp := [⟨1, some (f64_L4_e1 y x), mkSt [(4, (.val .bool))] ((f64_L4_x1 y x).1, ()) ++ cutSt⟩, ⟨2, some (f64_L4_e2 y x), mkSt [] () ++ cutSt⟩]

def f64_L4_spec : St → Option Out := loopS f64_L4_ly f64_L4_lx f64_L4_g f64_L4_next f64_L4_ok f64_L4_es

def f64 (p0 : (List D62)) (p1 : (List D62)) : Bool :=
  let v7 := (len p0)
  let v9 := (len p1)
  let v10 := (v7 != v9)
  let y4 := (p0, p1, ())
  let x4 := ((0 : Int), ())
  let e4 := (loopEnd (f64_L4_g y4) (f64_L4_next y4) x4)
  let r4_1 := (f64_L4_x1 y4 e4)
  let q4_1 := (f64_L4_e1 y4 e4)
  let m4 := (bif q4_1 then r4_1.1 else true)
  let m4_1 := (bif v10 then false else m4)
  m4_1

def f64_ok (p0 : (List D62)) (p1 : (List D62)) : Prop :=
  let v7 := (len p0)
  let v9 := (len p1)
  let v10 := (v7 != v9)
  let y4 := (p0, p1, ())
  let x4 := ((0 : Int), ())
  ((!v10) = true → (Am.Ends (f64_L4_g y4) (f64_L4_next y4) (f64_L4_ok y4) x4))

instance (p0 : (List D62)) (p1 : (List D62)) : Decidable (f64_ok p0 p1) := by
  unfold f64_ok
  try dsimp only
  infer_instance

def f64_ps : List (Nat × Sh) := [(0, (.val (.sl T62))), (1, (.val (.sl T62)))]
def f64_rs : Sh := (.val .bool)
def f64_os : List (Nat × Sh) := []

def f64_spec : Am.Spec := fnSpec f64_ps f64_rs f64_os (fun x => f64_ok x.1 x.2.1) (fun x => f64 x.1 x.2.1) (fun _ => ())

def f64_ctx : Ctx := { tys := tys, fns := [], loops := [(4, f64_L4_spec)], gh := [], wrap := false, n := 26, keep := [], wr := [] }

theorem f64_cok : CtxOk Tryz.prog f64_ctx := ctxOk_mk tys_ok trivial rfl (by kernel_rfl)

noncomputable def f64_code : Code := Tryz.f64.body.getD .skip

noncomputable def f64_L4 : Code := nthLoop f64_code 0

theorem f64_L4_sum : ∀ y x, sumLoop f64_ctx f64_L4 f64_L4_ly f64_L4_lx f64_L4_les y x = some (f64_L4_ok y x, f64_L4_g y x, y, f64_L4_next y x, f64_L4_es y x) := fun y x => by kernel_rfl

theorem f64_L4_is : LoopSnd Tryz.prog f64_ctx f64_L4 := loop_gen f64_cok mixed (bs := []) (by kernel_rfl) trivial (by kernel_rfl) (by kernel_rfl) f64_L4_sum

theorem f64_sum : ∀ x, sumFn f64_ctx f64_code Tryz.f64.results.toList f64_ps f64_rs f64_os x = some (f64_ok x.1 x.2.1, f64 x.1 x.2.1, ()) := fun x => by kernel_rfl

theorem f64_is : SpecOk Tryz.prog 64 f64_spec := func_gen f64_cok mixed Tryz.func64 (by kernel_rfl) (by decide) rfl (bs := [f64_L4]) (by kernel_rfl) ⟨f64_L4_is, trivial⟩ (by kernel_rfl) (by kernel_rfl) rfl f64_sum

-- imageeditor/imageeditorref31.sameWarp
def f65_L4_g (y : (D35 × D35 × Unit)) (x : (Int × Unit)) : Bool :=
  let a2 := y.1 
  let a3 := y.2.1 
  let a5 := x.1 
  let v37 := (len a2.2.2.2.1)
  let v38 := (decide (a5 < v37))
  let v44 := (nth a2.2.2.2.1 a5 Z59)
  let v49 := (nth a3.2.2.2.1 a5 Z59)
  let v51 := (!(Ty.eqb T59 v44 v49))
  let c := (v38 && (!v51))
  c

def f65_L4_next (y : (D35 × D35 × Unit)) (x : (Int × Unit)) : (Int × Unit) :=
  let a5 := x.1 
  let v40 := (a5 + (1 : Int))
  (v40, ())

def f65_L4_ok (y : (D35 × D35 × Unit)) (x : (Int × Unit)) : Prop :=
  let a2 := y.1 
  let a3 := y.2.1 
  let a5 := x.1 
  let v37 := (len a2.2.2.2.1)
  let v38 := (decide (a5 < v37))
  let v44 := (nth a2.2.2.2.1 a5 Z59)
  let v49 := (nth a3.2.2.2.1 a5 Z59)
  let v51 := (!(Ty.eqb T59 v44 v49))
  (v38 = true → (InB a5 (len a2.2.2.2.1) ∧ (InB a5 (len a3.2.2.2.1) ∧ ((!v51) = true → InR (a5 + (1 : Int))))))

instance (y : (D35 × D35 × Unit)) (x : (Int × Unit)) : Decidable (f65_L4_ok y x) := by
  unfold f65_L4_ok
  try dsimp only
  infer_instance

def f65_L4_x1 (y : (D35 × D35 × Unit)) (x : (Int × Unit)) : (Bool × Unit) :=
  (false, ())

def f65_L4_e1 (y : (D35 × D35 × Unit)) (x : (Int × Unit)) : Bool :=
  let a2 := y.1 
  let a3 := y.2.1 
  let a5 := x.1 
  let v37 := (len a2.2.2.2.1)
  let v38 := (decide (a5 < v37))
  let v44 := (nth a2.2.2.2.1 a5 Z59)
  let v49 := (nth a3.2.2.2.1 a5 Z59)
  let v51 := (!(Ty.eqb T59 v44 v49))
  let c_1 := (v38 && v51)
  c_1

def f65_L4_x2 (y : (D35 × D35 × Unit)) (x : (Int × Unit)) : (Unit) :=
  ()

def f65_L4_e2 (y : (D35 × D35 × Unit)) (x : (Int × Unit)) : Bool :=
  let a2 := y.1 
  let a5 := x.1 
  let v37 := (len a2.2.2.2.1)
  let v38 := (decide (a5 < v37))
  (!v38)

def f65_L4_ly : List (Nat × Sh) := [(2, (.box T35 (.val T35))), (3, (.box T35 (.val T35)))]
def f65_L4_lx : List (Nat × Sh) := [(5, (.val (.int .i64)))]
def f65_L4_les : List (List (Nat × Sh)) := [[(4, (.val .bool))], []]

def f65_L4_es (y : denL f65_L4_ly) (x : denL f65_L4_lx) : List Comp := [⟨1, some (f65_L4_e1 y x), mkSt [(4, (.val .bool))] ((f65_L4_x1 y x).1, ()) ++ cutSt⟩, ⟨2, some (f65_L4_e2 y x), mkSt [] () ++ cutSt⟩]

def f65_L4_spec : St → Option Out := loopS f65_L4_ly f65_L4_lx f65_L4_g f65_L4_next f65_L4_ok f65_L4_es

def f65 (p0 : D35) (p1 : D35) : Bool :=
  let v10 := (p0.1 != p1.1)
  let v16 := (p0.2.1 != p1.2.1)
  let v17 := (bif v10 then true else v16)
  let v23 := (p0.2.2.1 != p1.2.2.1)
  let v24 := (bif v17 then true else v23)
  let v28 := (len p0.2.2.2.1)
  let v31 := (len p1.2.2.2.1)
  let v32 := (v28 != v31)
  let v33 := (bif v24 then true else v32)
  let y4 := (p0, p1, ())
  let x4 := ((0 : Int), ())
  let e4 := (loopEnd (f65_L4_g y4) (f65_L4_next y4) x4)
  let r4_1 := (f65_L4_x1 y4 e4)
  let q4_1 := (f65_L4_e1 y4 e4)
  let m4 := (bif q4_1 then r4_1.1 else true)
  let m4_1 := (bif v33 then false else m4)
  m4_1

def f65_ok (p0 : D35) (p1 : D35) : Prop :=
  let v10 := (p0.1 != p1.1)
  let v16 := (p0.2.1 != p1.2.1)
  let v17 := (bif v10 then true else v16)
  let v23 := (p0.2.2.1 != p1.2.2.1)
  let v24 := (bif v17 then true else v23)
  let v28 := (len p0.2.2.2.1)
  let v31 := (len p1.2.2.2.1)
  let v32 := (v28 != v31)
  let v33 := (bif v24 then true else v32)
  let y4 := (p0, p1, ())
  let x4 := ((0 : Int), ())
  ((!v33) = true → (Am.Ends (f65_L4_g y4) (f65_L4_next y4) (f65_L4_ok y4) x4))

instance (p0 : D35) (p1 : D35) : Decidable (f65_ok p0 p1) := by
  unfold f65_ok
  try dsimp only
  infer_instance

def f65_ps : List (Nat × Sh) := [(0, (.val T35)), (1, (.val T35))]
def f65_rs : Sh := (.val .bool)
def f65_os : List (Nat × Sh) := []

def f65_spec : Am.Spec := fnSpec f65_ps f65_rs f65_os (fun x => f65_ok x.1 x.2.1) (fun x => f65 x.1 x.2.1) (fun _ => ())

def f65_ctx : Ctx := { tys := tys, fns := [], loops := [(4, f65_L4_spec)], gh := [], wrap := false, n := 52, keep := [], wr := [] }

theorem f65_cok : CtxOk Tryz.prog f65_ctx := ctxOk_mk tys_ok trivial rfl (by kernel_rfl)

noncomputable def f65_code : Code := Tryz.f65.body.getD .skip

noncomputable def f65_L4 : Code := nthLoop f65_code 0

theorem f65_L4_sum : ∀ y x, sumLoop f65_ctx f65_L4 f65_L4_ly f65_L4_lx f65_L4_les y x = some (f65_L4_ok y x, f65_L4_g y x, y, f65_L4_next y x, f65_L4_es y x) := fun y x => by kernel_rfl

theorem f65_L4_is : LoopSnd Tryz.prog f65_ctx f65_L4 := loop_gen f65_cok mixed (bs := []) (by kernel_rfl) trivial (by kernel_rfl) (by kernel_rfl) f65_L4_sum

theorem f65_sum : ∀ x, sumFn f65_ctx f65_code Tryz.f65.results.toList f65_ps f65_rs f65_os x = some (f65_ok x.1 x.2.1, f65 x.1 x.2.1, ()) := fun x => by kernel_rfl

theorem f65_is : SpecOk Tryz.prog 65 f65_spec := func_gen f65_cok mixed Tryz.func65 (by kernel_rfl) (by decide) rfl (bs := [f65_L4]) (by kernel_rfl) ⟨f65_L4_is, trivial⟩ (by kernel_rfl) (by kernel_rfl) rfl f65_sum

-- imageeditor/imageeditorref31.SameContent
def f32 (p0 : D37) (p1 : D37) : Bool :=
  let v9 := (f62 p0.2.2.2.2.2.2.2.2.2.2.2.2.1 p1.2.2.2.2.2.2.2.2.2.2.2.2.1)
  let v15 := (Ty.eqb T30 p0.2.2.2.2.2.2.2.2.2.2.2.2.2.1 p1.2.2.2.2.2.2.2.2.2.2.2.2.2.1)
  let v16 := (bif v9 then v15 else false)
  let v22 := (p0.2.2.2.2.2.2.2.2.2.2.2.2.2.2.1 == p1.2.2.2.2.2.2.2.2.2.2.2.2.2.2.1)
  let v23 := (bif v16 then v22 else false)
  let v29 := (f61 p0.2.2.2.2.2.2.2.2.2.2.2.2.2.2.2.1 p1.2.2.2.2.2.2.2.2.2.2.2.2.2.2.2.1)
  let v30 := (bif v23 then v29 else false)
  let v36 := (p0.2.2.2.2.2.2.2.2.2.2.2.2.2.2.2.2.1 == p1.2.2.2.2.2.2.2.2.2.2.2.2.2.2.2.2.1)
  let v37 := (bif v30 then v36 else false)
  let v43 := (f63 p0.2.2.2.2.2.2.2.2.2.2.2.2.2.2.2.2.2.1 p1.2.2.2.2.2.2.2.2.2.2.2.2.2.2.2.2.2.1)
  let v44 := (bif v37 then v43 else false)
  let v50 := (f64 p0.2.2.2.2.2.2.2.2.2.2.2.2.2.2.2.2.2.2.1 p1.2.2.2.2.2.2.2.2.2.2.2.2.2.2.2.2.2.2.1)
  let v51 := (bif v44 then v50 else false)
  let v57 := (p0.2.2.2.2.2.2.2.2.2.2.2.2.2.2.2.2.2.2.2.1 == p1.2.2.2.2.2.2.2.2.2.2.2.2.2.2.2.2.2.2.2.1)
  let v58 := (bif v51 then v57 else false)
  let v64 := (p0.2.2.2.2.2.2.2.2.2.2.2.2.2.2.2.2.2.2.2.2.1 == p1.2.2.2.2.2.2.2.2.2.2.2.2.2.2.2.2.2.2.2.2.1)
  let v65 := (bif v58 then v64 else false)
  let v71 := (p0.2.2.2.2.2.2.2.2.2.2.2.2.2.2.2.2.2.2.2.2.2.1 == p1.2.2.2.2.2.2.2.2.2.2.2.2.2.2.2.2.2.2.2.2.2.1)
  let v72 := (bif v65 then v71 else false)
  let v78 := (p0.2.2.2.2.2.2.2.2.2.2.2.2.2.2.2.2.2.2.2.2.2.2.1 == p1.2.2.2.2.2.2.2.2.2.2.2.2.2.2.2.2.2.2.2.2.2.2.1)
  let v79 := (bif v72 then v78 else false)
  let v85 := (p0.2.2.2.2.2.2.2.2.2.2.2.2.2.2.2.2.2.2.2.2.2.2.2.1 == p1.2.2.2.2.2.2.2.2.2.2.2.2.2.2.2.2.2.2.2.2.2.2.2.1)
  let v86 := (bif v79 then v85 else false)
  let v92 := (p0.2.2.2.2.2.2.2.2.2.2.2.2.2.2.2.2.2.2.2.2.2.2.2.2.1 == p1.2.2.2.2.2.2.2.2.2.2.2.2.2.2.2.2.2.2.2.2.2.2.2.2.1)
  let v93 := (bif v86 then v92 else false)
  let v99 := (p0.2.2.2.2.2.2.2.2.2.2.2.2.2.2.2.2.2.2.2.2.2.2.2.2.2.1 == p1.2.2.2.2.2.2.2.2.2.2.2.2.2.2.2.2.2.2.2.2.2.2.2.2.2.1)
  let v100 := (bif v93 then v99 else false)
  let v106 := (p0.2.2.2.2.2.2.2.2.2.2.2.2.2.2.2.2.2.2.2.2.2.2.2.2.2.2.1 == p1.2.2.2.2.2.2.2.2.2.2.2.2.2.2.2.2.2.2.2.2.2.2.2.2.2.2.1)
  let v107 := (bif v100 then v106 else false)
  let v113 := (f65 p0.2.2.2.2.2.2.2.2.2.2.2.2.2.2.2.2.2.2.2.2.2.2.2.2.2.2.2.1 p1.2.2.2.2.2.2.2.2.2.2.2.2.2.2.2.2.2.2.2.2.2.2.2.2.2.2.2.1)
  let v114 := (bif v107 then v113 else false)
  v114

def f32_ok (p0 : D37) (p1 : D37) : Prop :=
  let v9 := (f62 p0.2.2.2.2.2.2.2.2.2.2.2.2.1 p1.2.2.2.2.2.2.2.2.2.2.2.2.1)
  let v15 := (Ty.eqb T30 p0.2.2.2.2.2.2.2.2.2.2.2.2.2.1 p1.2.2.2.2.2.2.2.2.2.2.2.2.2.1)
  let v16 := (bif v9 then v15 else false)
  let v22 := (p0.2.2.2.2.2.2.2.2.2.2.2.2.2.2.1 == p1.2.2.2.2.2.2.2.2.2.2.2.2.2.2.1)
  let v23 := (bif v16 then v22 else false)
  let v29 := (f61 p0.2.2.2.2.2.2.2.2.2.2.2.2.2.2.2.1 p1.2.2.2.2.2.2.2.2.2.2.2.2.2.2.2.1)
  let v30 := (bif v23 then v29 else false)
  let v36 := (p0.2.2.2.2.2.2.2.2.2.2.2.2.2.2.2.2.1 == p1.2.2.2.2.2.2.2.2.2.2.2.2.2.2.2.2.1)
  let v37 := (bif v30 then v36 else false)
  let v43 := (f63 p0.2.2.2.2.2.2.2.2.2.2.2.2.2.2.2.2.2.1 p1.2.2.2.2.2.2.2.2.2.2.2.2.2.2.2.2.2.1)
  let v44 := (bif v37 then v43 else false)
  let v50 := (f64 p0.2.2.2.2.2.2.2.2.2.2.2.2.2.2.2.2.2.2.1 p1.2.2.2.2.2.2.2.2.2.2.2.2.2.2.2.2.2.2.1)
  let v51 := (bif v44 then v50 else false)
  let v57 := (p0.2.2.2.2.2.2.2.2.2.2.2.2.2.2.2.2.2.2.2.1 == p1.2.2.2.2.2.2.2.2.2.2.2.2.2.2.2.2.2.2.2.1)
  let v58 := (bif v51 then v57 else false)
  let v64 := (p0.2.2.2.2.2.2.2.2.2.2.2.2.2.2.2.2.2.2.2.2.1 == p1.2.2.2.2.2.2.2.2.2.2.2.2.2.2.2.2.2.2.2.2.1)
  let v65 := (bif v58 then v64 else false)
  let v71 := (p0.2.2.2.2.2.2.2.2.2.2.2.2.2.2.2.2.2.2.2.2.2.1 == p1.2.2.2.2.2.2.2.2.2.2.2.2.2.2.2.2.2.2.2.2.2.1)
  let v72 := (bif v65 then v71 else false)
  let v78 := (p0.2.2.2.2.2.2.2.2.2.2.2.2.2.2.2.2.2.2.2.2.2.2.1 == p1.2.2.2.2.2.2.2.2.2.2.2.2.2.2.2.2.2.2.2.2.2.2.1)
  let v79 := (bif v72 then v78 else false)
  let v85 := (p0.2.2.2.2.2.2.2.2.2.2.2.2.2.2.2.2.2.2.2.2.2.2.2.1 == p1.2.2.2.2.2.2.2.2.2.2.2.2.2.2.2.2.2.2.2.2.2.2.2.1)
  let v86 := (bif v79 then v85 else false)
  let v92 := (p0.2.2.2.2.2.2.2.2.2.2.2.2.2.2.2.2.2.2.2.2.2.2.2.2.1 == p1.2.2.2.2.2.2.2.2.2.2.2.2.2.2.2.2.2.2.2.2.2.2.2.2.1)
  let v93 := (bif v86 then v92 else false)
  let v99 := (p0.2.2.2.2.2.2.2.2.2.2.2.2.2.2.2.2.2.2.2.2.2.2.2.2.2.1 == p1.2.2.2.2.2.2.2.2.2.2.2.2.2.2.2.2.2.2.2.2.2.2.2.2.2.1)
  let v100 := (bif v93 then v99 else false)
  let v106 := (p0.2.2.2.2.2.2.2.2.2.2.2.2.2.2.2.2.2.2.2.2.2.2.2.2.2.2.1 == p1.2.2.2.2.2.2.2.2.2.2.2.2.2.2.2.2.2.2.2.2.2.2.2.2.2.2.1)
  let v107 := (bif v100 then v106 else false)
  ((f62_ok p0.2.2.2.2.2.2.2.2.2.2.2.2.1 p1.2.2.2.2.2.2.2.2.2.2.2.2.1) ∧ ((v23 = true → (f61_ok p0.2.2.2.2.2.2.2.2.2.2.2.2.2.2.2.1 p1.2.2.2.2.2.2.2.2.2.2.2.2.2.2.2.1)) ∧ ((v37 = true → (f63_ok p0.2.2.2.2.2.2.2.2.2.2.2.2.2.2.2.2.2.1 p1.2.2.2.2.2.2.2.2.2.2.2.2.2.2.2.2.2.1)) ∧ ((v44 = true → (f64_ok p0.2.2.2.2.2.2.2.2.2.2.2.2.2.2.2.2.2.2.1 p1.2.2.2.2.2.2.2.2.2.2.2.2.2.2.2.2.2.2.1)) ∧ (v107 = true → (f65_ok p0.2.2.2.2.2.2.2.2.2.2.2.2.2.2.2.2.2.2.2.2.2.2.2.2.2.2.2.1 p1.2.2.2.2.2.2.2.2.2.2.2.2.2.2.2.2.2.2.2.2.2.2.2.2.2.2.2.1))))))

instance (p0 : D37) (p1 : D37) : Decidable (f32_ok p0 p1) := by
  unfold f32_ok
  try dsimp only
  infer_instance

def f32_ps : List (Nat × Sh) := [(0, (.val T37)), (1, (.val T37))]
def f32_rs : Sh := (.val .bool)
def f32_os : List (Nat × Sh) := []

def f32_spec : Am.Spec := fnSpec f32_ps f32_rs f32_os (fun x => f32_ok x.1 x.2.1) (fun x => f32 x.1 x.2.1) (fun _ => ())

def f32_ctx : Ctx := { tys := tys, fns := [(61, f61_spec), (62, f62_spec), (63, f63_spec), (64, f64_spec), (65, f65_spec)], loops := [], gh := [], wrap := false, n := 115, keep := [], wr := [] }

theorem f32_cok : CtxOk Tryz.prog f32_ctx := ctxOk_mk tys_ok ⟨f61_is, f62_is, f63_is, f64_is, f65_is, trivial⟩ rfl (by kernel_rfl)

noncomputable def f32_code : Code := Tryz.f32.body.getD .skip

theorem f32_sum : ∀ x, sumFn f32_ctx f32_code Tryz.f32.results.toList f32_ps f32_rs f32_os x = some (f32_ok x.1 x.2.1, f32 x.1 x.2.1, ()) := fun x => by kernel_rfl

theorem f32_is : SpecOk Tryz.prog 32 f32_spec := func_gen f32_cok mixed Tryz.func32 (by kernel_rfl) (by decide) rfl (bs := []) (by kernel_rfl) trivial (by kernel_rfl) (by kernel_rfl) rfl f32_sum

-- imageeditor/imageeditorref31.Same
def f12 (p0 : D37) (p1 : D37) : Bool :=
  let v9 := (p0.1 == p1.1)
  let v15 := (p0.2.1 == p1.2.1)
  let v16 := (bif v9 then v15 else false)
  let v22 := (p0.2.2.1 == p1.2.2.1)
  let v23 := (bif v16 then v22 else false)
  let v29 := (p0.2.2.2.1 == p1.2.2.2.1)
  let v30 := (bif v23 then v29 else false)
  let v36 := (Ty.eqb .bool p0.2.2.2.2.1 p1.2.2.2.2.1)
  let v37 := (bif v30 then v36 else false)
  let v43 := (Ty.eqb .bool p0.2.2.2.2.2.1 p1.2.2.2.2.2.1)
  let v44 := (bif v37 then v43 else false)
  let v50 := (Ty.eqb .bool p0.2.2.2.2.2.2.1 p1.2.2.2.2.2.2.1)
  let v51 := (bif v44 then v50 else false)
  let v57 := (p0.2.2.2.2.2.2.2.1 == p1.2.2.2.2.2.2.2.1)
  let v58 := (bif v51 then v57 else false)
  let v64 := (p0.2.2.2.2.2.2.2.2.1 == p1.2.2.2.2.2.2.2.2.1)
  let v65 := (bif v58 then v64 else false)
  let v71 := (f31 p0.2.2.2.2.2.2.2.2.2.1 p1.2.2.2.2.2.2.2.2.2.1)
  let v72 := (bif v65 then v71 else false)
  let v78 := (Ty.eqb T25 p0.2.2.2.2.2.2.2.2.2.2.1 p1.2.2.2.2.2.2.2.2.2.2.1)
  let v79 := (bif v72 then v78 else false)
  let v85 := (p0.2.2.2.2.2.2.2.2.2.2.2.1 == p1.2.2.2.2.2.2.2.2.2.2.2.1)
  let v86 := (bif v79 then v85 else false)
  let v90 := (f32 p0 p1)
  let v91 := (bif v86 then v90 else false)
  v91

def f12_ok (p0 : D37) (p1 : D37) : Prop :=
  let v9 := (p0.1 == p1.1)
  let v15 := (p0.2.1 == p1.2.1)
  let v16 := (bif v9 then v15 else false)
  let v22 := (p0.2.2.1 == p1.2.2.1)
  let v23 := (bif v16 then v22 else false)
  let v29 := (p0.2.2.2.1 == p1.2.2.2.1)
  let v30 := (bif v23 then v29 else false)
  let v36 := (Ty.eqb .bool p0.2.2.2.2.1 p1.2.2.2.2.1)
  let v37 := (bif v30 then v36 else false)
  let v43 := (Ty.eqb .bool p0.2.2.2.2.2.1 p1.2.2.2.2.2.1)
  let v44 := (bif v37 then v43 else false)
  let v50 := (Ty.eqb .bool p0.2.2.2.2.2.2.1 p1.2.2.2.2.2.2.1)
  let v51 := (bif v44 then v50 else false)
  let v57 := (p0.2.2.2.2.2.2.2.1 == p1.2.2.2.2.2.2.2.1)
  let v58 := (bif v51 then v57 else false)
  let v64 := (p0.2.2.2.2.2.2.2.2.1 == p1.2.2.2.2.2.2.2.2.1)
  let v65 := (bif v58 then v64 else false)
  let v71 := (f31 p0.2.2.2.2.2.2.2.2.2.1 p1.2.2.2.2.2.2.2.2.2.1)
  let v72 := (bif v65 then v71 else false)
  let v78 := (Ty.eqb T25 p0.2.2.2.2.2.2.2.2.2.2.1 p1.2.2.2.2.2.2.2.2.2.2.1)
  let v79 := (bif v72 then v78 else false)
  let v85 := (p0.2.2.2.2.2.2.2.2.2.2.2.1 == p1.2.2.2.2.2.2.2.2.2.2.2.1)
  let v86 := (bif v79 then v85 else false)
  ((v65 = true → (f31_ok p0.2.2.2.2.2.2.2.2.2.1 p1.2.2.2.2.2.2.2.2.2.1)) ∧ (v86 = true → (f32_ok p0 p1)))

instance (p0 : D37) (p1 : D37) : Decidable (f12_ok p0 p1) := by
  unfold f12_ok
  try dsimp only
  infer_instance

def f12_ps : List (Nat × Sh) := [(0, (.val T37)), (1, (.val T37))]
def f12_rs : Sh := (.val .bool)
def f12_os : List (Nat × Sh) := []

def f12_spec : Am.Spec := fnSpec f12_ps f12_rs f12_os (fun x => f12_ok x.1 x.2.1) (fun x => f12 x.1 x.2.1) (fun _ => ())

def f12_ctx : Ctx := { tys := tys, fns := [(31, f31_spec), (32, f32_spec)], loops := [], gh := [], wrap := false, n := 92, keep := [], wr := [] }

theorem f12_cok : CtxOk Tryz.prog f12_ctx := ctxOk_mk tys_ok ⟨f31_is, f32_is, trivial⟩ rfl (by kernel_rfl)

noncomputable def f12_code : Code := Tryz.f12.body.getD .skip

theorem f12_sum : ∀ x, sumFn f12_ctx f12_code Tryz.f12.results.toList f12_ps f12_rs f12_os x = some (f12_ok x.1 x.2.1, f12 x.1 x.2.1, ()) := fun x => by kernel_rfl

theorem f12_is : SpecOk Tryz.prog 12 f12_spec := func_gen f12_cok mixed Tryz.func12 (by kernel_rfl) (by decide) rfl (bs := []) (by kernel_rfl) trivial (by kernel_rfl) (by kernel_rfl) rfl f12_sum

-- slices.Clone[[]int,int]
def f53a (p0 : Unit) : (List Int) :=
  let v7 := (([] : List Int) ++ ([] : List Int))
  let m2 := (bif true then [] else v7)
  m2

def f53a_ok (p0 : Unit) : Prop :=
  ((!true) = true → ((List.length ([] : List Int) + List.length ([] : List Int) : Nat) : Int) ≤ 4294967296)

instance (p0 : Unit) : Decidable (f53a_ok p0) := by
  unfold f53a_ok
  try dsimp only
  infer_instance

def f53a_ps : List (Nat × Sh) := [(0, (.nn true))]
def f53a_rs : Sh := (.own (.int .i64) 0 false)
def f53a_os : List (Nat × Sh) := []

def f53a_spec : Am.Spec := fnSpec f53a_ps f53a_rs f53a_os (fun x => f53a_ok x.1) (fun x => f53a x.1) (fun _ => ())

def f53a_ctx : Ctx := { tys := tys, fns := [], loops := [], gh := [(7, [(4, 0, 7, 0)])], wrap := false, n := 8, keep := [], wr := [] }

theorem f53a_cok : CtxOk Tryz.prog f53a_ctx := ctxOk_mk tys_ok trivial rfl (by kernel_rfl)

noncomputable def f53a_code : Code := Tryz.f53.body.getD .skip

theorem f53a_sum : ∀ x, sumFn f53a_ctx f53a_code Tryz.f53.results.toList f53a_ps f53a_rs f53a_os x = some (f53a_ok x.1, f53a x.1, ()) := fun x => by kernel_rfl

theorem f53a_is : SpecOk Tryz.prog 53 f53a_spec := func_gen f53a_cok mixed Tryz.func53 (by kernel_rfl) (by decide) rfl (bs := []) (by kernel_rfl) trivial (by kernel_rfl) (by kernel_rfl) rfl f53a_sum

-- slices.Clone[[]int,int]
def f53b (p0 : Unit) : (List Int) :=
  let v7 := (([] : List Int) ++ ([] : List Int))
  let m2 := (bif false then [] else v7)
  m2

def f53b_ok (p0 : Unit) : Prop :=
  ((!false) = true → ((List.length ([] : List Int) + List.length ([] : List Int) : Nat) : Int) ≤ 4294967296)

instance (p0 : Unit) : Decidable (f53b_ok p0) := by
  unfold f53b_ok
  try dsimp only
  infer_instance

def f53b_ps : List (Nat × Sh) := [(0, (.nn false))]
def f53b_rs : Sh := (.own (.int .i64) 0 false)
def f53b_os : List (Nat × Sh) := []

def f53b_spec : Am.Spec := fnSpec f53b_ps f53b_rs f53b_os (fun x => f53b_ok x.1) (fun x => f53b x.1) (fun _ => ())

def f53b_ctx : Ctx := { tys := tys, fns := [], loops := [], gh := [(7, [(4, 0, 7, 0)])], wrap := false, n := 8, keep := [], wr := [] }

theorem f53b_cok : CtxOk Tryz.prog f53b_ctx := ctxOk_mk tys_ok trivial rfl (by kernel_rfl)

noncomputable def f53b_code : Code := Tryz.f53.body.getD .skip

theorem f53b_sum : ∀ x, sumFn f53b_ctx f53b_code Tryz.f53.results.toList f53b_ps f53b_rs f53b_os x = some (f53b_ok x.1, f53b x.1, ()) := fun x => by kernel_rfl

theorem f53b_is : SpecOk Tryz.prog 53 f53b_spec := func_gen f53b_cok mixed Tryz.func53 (by kernel_rfl) (by decide) rfl (bs := []) (by kernel_rfl) trivial (by kernel_rfl) (by kernel_rfl) rfl f53b_sum

-- slices.Clone[[]int,int]
def f53c (p0 : (List Int)) : (List Int) :=
  let v7 := (([] : List Int) ++ p0)
  let m2 := (bif false then [] else v7)
  m2

def f53c_ok (p0 : (List Int)) : Prop :=
  (0 < List.length p0 ∧ ((!false) = true → ((List.length ([] : List Int) + List.length p0 : Nat) : Int) ≤ 4294967296))

instance (p0 : (List Int)) : Decidable (f53c_ok p0) := by
  unfold f53c_ok
  try dsimp only
  infer_instance

def f53c_ps : List (Nat × Sh) := [(0, (.val (.sl (.int .i64))))]
def f53c_rs : Sh := (.own (.int .i64) 0 false)
def f53c_os : List (Nat × Sh) := []

def f53c_spec : Am.Spec := fnSpec f53c_ps f53c_rs f53c_os (fun x => f53c_ok x.1) (fun x => f53c x.1) (fun _ => ())

def f53c_ctx : Ctx := { tys := tys, fns := [], loops := [], gh := [(7, [(4, 0, 7, 0)])], wrap := false, n := 8, keep := [], wr := [] }

theorem f53c_cok : CtxOk Tryz.prog f53c_ctx := ctxOk_mk tys_ok trivial rfl (by kernel_rfl)

noncomputable def f53c_code : Code := Tryz.f53.body.getD .skip

theorem f53c_sum : ∀ x, sumFn f53c_ctx f53c_code Tryz.f53.results.toList f53c_ps f53c_rs f53c_os x = some (f53c_ok x.1, f53c x.1, ()) := fun x => by kernel_rfl

theorem f53c_is : SpecOk Tryz.prog 53 f53c_spec := func_gen f53c_cok mixed Tryz.func53 (by kernel_rfl) (by decide) rfl (bs := []) (by kernel_rfl) trivial (by kernel_rfl) (by kernel_rfl) rfl f53c_sum

def f53 (p0 : (List Int)) : (List Int) := p0
def f53_ok (p0 : (List Int)) : Prop := (List.length p0 : Int) ≤ 4294967296
instance (p0 : (List Int)) : Decidable (f53_ok p0) := by
  unfold f53_ok
  infer_instance
def f53_ps : List (Nat × Sh) := [(0, (.val (.sl (.int .i64))))]
def f53_rs : Sh := (.own (.int .i64) 0 false)
def f53_os : List (Nat × Sh) := []
def f53_spec : Am.Spec := fnSpec f53_ps f53_rs f53_os (fun x => f53_ok x.1) (fun x => f53 x.1) (fun _ => ())
theorem f53_is : SpecOk Tryz.prog 53 f53_spec := nil_cases (rs := f53_rs) (F := f53) (ok := f53_ok) f53a_is f53b_is f53c_is (of_decide_eq_true (by kernel_rfl)) (of_decide_eq_true (by kernel_rfl)) (fun l h hp => ⟨hp, fun _ => by simpa [f53_ok] using h⟩) rfl rfl (fun _ => rfl)

-- slices.Clone[[]imageeditor/api.Pixel,imageeditor/api.Pixel]
def f54a (p0 : Unit) : (List D30) :=
  let v7 := (([] : List D30) ++ ([] : List D30))
  let m2 := (bif true then [] else v7)
  m2

def f54a_ok (p0 : Unit) : Prop :=
  ((!true) = true → ((List.length ([] : List D30) + List.length ([] : List D30) : Nat) : Int) ≤ 4294967296)

instance (p0 : Unit) : Decidable (f54a_ok p0) := by
  unfold f54a_ok
  try dsimp only
  infer_instance

def f54a_ps : List (Nat × Sh) := [(0, (.nn true))]
def f54a_rs : Sh := (.own T30 0 false)
def f54a_os : List (Nat × Sh) := []

def f54a_spec : Am.Spec := fnSpec f54a_ps f54a_rs f54a_os (fun x => f54a_ok x.1) (fun x => f54a x.1) (fun _ => ())

def f54a_ctx : Ctx := { tys := tys, fns := [], loops := [], gh := [(7, [(4, 0, 7, 0)])], wrap := false, n := 8, keep := [], wr := [] }

theorem f54a_cok : CtxOk Tryz.prog f54a_ctx := ctxOk_mk tys_ok trivial rfl (by kernel_rfl)

noncomputable def f54a_code : Code := Tryz.f54.body.getD .skip

theorem f54a_sum : ∀ x, sumFn f54a_ctx f54a_code Tryz.f54.results.toList f54a_ps f54a_rs f54a_os x = some (f54a_ok x.1, f54a x.1, ()) := fun x => by kernel_rfl

theorem f54a_is : SpecOk Tryz.prog 54 f54a_spec := func_gen f54a_cok mixed Tryz.func54 (by kernel_rfl) (by decide) rfl (bs := []) (by kernel_rfl) trivial (by kernel_rfl) (by kernel_rfl) rfl f54a_sum

-- slices.Clone[[]imageeditor/api.Pixel,imageeditor/api.Pixel]
def f54b (p0 : Unit) : (List D30) :=
  let v7 := (([] : List D30) ++ ([] : List D30))
  let m2 := (bif false then [] else v7)
  m2

def f54b_ok (p0 : Unit) : Prop :=
  ((!false) = true → ((List.length ([] : List D30) + List.length ([] : List D30) : Nat) : Int) ≤ 4294967296)

instance (p0 : Unit) : Decidable (f54b_ok p0) := by
  unfold f54b_ok
  try dsimp only
  infer_instance

def f54b_ps : List (Nat × Sh) := [(0, (.nn false))]
def f54b_rs : Sh := (.own T30 0 false)
def f54b_os : List (Nat × Sh) := []

def f54b_spec : Am.Spec := fnSpec f54b_ps f54b_rs f54b_os (fun x => f54b_ok x.1) (fun x => f54b x.1) (fun _ => ())

def f54b_ctx : Ctx := { tys := tys, fns := [], loops := [], gh := [(7, [(4, 0, 7, 0)])], wrap := false, n := 8, keep := [], wr := [] }

theorem f54b_cok : CtxOk Tryz.prog f54b_ctx := ctxOk_mk tys_ok trivial rfl (by kernel_rfl)

noncomputable def f54b_code : Code := Tryz.f54.body.getD .skip

theorem f54b_sum : ∀ x, sumFn f54b_ctx f54b_code Tryz.f54.results.toList f54b_ps f54b_rs f54b_os x = some (f54b_ok x.1, f54b x.1, ()) := fun x => by kernel_rfl

theorem f54b_is : SpecOk Tryz.prog 54 f54b_spec := func_gen f54b_cok mixed Tryz.func54 (by kernel_rfl) (by decide) rfl (bs := []) (by kernel_rfl) trivial (by kernel_rfl) (by kernel_rfl) rfl f54b_sum

-- slices.Clone[[]imageeditor/api.Pixel,imageeditor/api.Pixel]
def f54c (p0 : (List D30)) : (List D30) :=
  let v7 := (([] : List D30) ++ p0)
  let m2 := (bif false then [] else v7)
  m2

def f54c_ok (p0 : (List D30)) : Prop :=
  (0 < List.length p0 ∧ ((!false) = true → ((List.length ([] : List D30) + List.length p0 : Nat) : Int) ≤ 4294967296))

instance (p0 : (List D30)) : Decidable (f54c_ok p0) := by
  unfold f54c_ok
  try dsimp only
  infer_instance

def f54c_ps : List (Nat × Sh) := [(0, (.val (.sl T30)))]
def f54c_rs : Sh := (.own T30 0 false)
def f54c_os : List (Nat × Sh) := []

def f54c_spec : Am.Spec := fnSpec f54c_ps f54c_rs f54c_os (fun x => f54c_ok x.1) (fun x => f54c x.1) (fun _ => ())

def f54c_ctx : Ctx := { tys := tys, fns := [], loops := [], gh := [(7, [(4, 0, 7, 0)])], wrap := false, n := 8, keep := [], wr := [] }

theorem f54c_cok : CtxOk Tryz.prog f54c_ctx := ctxOk_mk tys_ok trivial rfl (by kernel_rfl)

noncomputable def f54c_code : Code := Tryz.f54.body.getD .skip

theorem f54c_sum : ∀ x, sumFn f54c_ctx f54c_code Tryz.f54.results.toList f54c_ps f54c_rs f54c_os x = some (f54c_ok x.1, f54c x.1, ()) := fun x => by kernel_rfl

theorem f54c_is : SpecOk Tryz.prog 54 f54c_spec := func_gen f54c_cok mixed Tryz.func54 (by kernel_rfl) (by decide) rfl (bs := []) (by kernel_rfl) trivial (by kernel_rfl) (by kernel_rfl) rfl f54c_sum

def f54 (p0 : (List D30)) : (List D30) := p0
def f54_ok (p0 : (List D30)) : Prop := (List.length p0 : Int) ≤ 4294967296
instance (p0 : (List D30)) : Decidable (f54_ok p0) := by
  unfold f54_ok
  infer_instance
def f54_ps : List (Nat × Sh) := [(0, (.val (.sl T30)))]
def f54_rs : Sh := (.own T30 0 false)
def f54_os : List (Nat × Sh) := []
def f54_spec : Am.Spec := fnSpec f54_ps f54_rs f54_os (fun x => f54_ok x.1) (fun x => f54 x.1) (fun _ => ())
theorem f54_is : SpecOk Tryz.prog 54 f54_spec := nil_cases (rs := f54_rs) (F := f54) (ok := f54_ok) f54a_is f54b_is f54c_is (of_decide_eq_true (by kernel_rfl)) (of_decide_eq_true (by kernel_rfl)) (fun l h hp => ⟨hp, fun _ => by simpa [f54_ok] using h⟩) rfl rfl (fun _ => rfl)

-- slices.Clone[[]imageeditor/api.Stop,imageeditor/api.Stop]
def f55a (p0 : Unit) : (List D57) :=
  let v7 := (([] : List D57) ++ ([] : List D57))
  let m2 := (bif true then [] else v7)
  m2

def f55a_ok (p0 : Unit) : Prop :=
  ((!true) = true → ((List.length ([] : List D57) + List.length ([] : List D57) : Nat) : Int) ≤ 4294967296)

instance (p0 : Unit) : Decidable (f55a_ok p0) := by
  unfold f55a_ok
  try dsimp only
  infer_instance

def f55a_ps : List (Nat × Sh) := [(0, (.nn true))]
def f55a_rs : Sh := (.own T57 0 false)
def f55a_os : List (Nat × Sh) := []

def f55a_spec : Am.Spec := fnSpec f55a_ps f55a_rs f55a_os (fun x => f55a_ok x.1) (fun x => f55a x.1) (fun _ => ())

def f55a_ctx : Ctx := { tys := tys, fns := [], loops := [], gh := [(7, [(4, 0, 7, 0)])], wrap := false, n := 8, keep := [], wr := [] }

theorem f55a_cok : CtxOk Tryz.prog f55a_ctx := ctxOk_mk tys_ok trivial rfl (by kernel_rfl)

noncomputable def f55a_code : Code := Tryz.f55.body.getD .skip

theorem f55a_sum : ∀ x, sumFn f55a_ctx f55a_code Tryz.f55.results.toList f55a_ps f55a_rs f55a_os x = some (f55a_ok x.1, f55a x.1, ()) := fun x => by kernel_rfl

theorem f55a_is : SpecOk Tryz.prog 55 f55a_spec := func_gen f55a_cok mixed Tryz.func55 (by kernel_rfl) (by decide) rfl (bs := []) (by kernel_rfl) trivial (by kernel_rfl) (by kernel_rfl) rfl f55a_sum

-- slices.Clone[[]imageeditor/api.Stop,imageeditor/api.Stop]
def f55b (p0 : Unit) : (List D57) :=
  let v7 := (([] : List D57) ++ ([] : List D57))
  let m2 := (bif false then [] else v7)
  m2

def f55b_ok (p0 : Unit) : Prop :=
  ((!false) = true → ((List.length ([] : List D57) + List.length ([] : List D57) : Nat) : Int) ≤ 4294967296)

instance (p0 : Unit) : Decidable (f55b_ok p0) := by
  unfold f55b_ok
  try dsimp only
  infer_instance

def f55b_ps : List (Nat × Sh) := [(0, (.nn false))]
def f55b_rs : Sh := (.own T57 0 false)
def f55b_os : List (Nat × Sh) := []

def f55b_spec : Am.Spec := fnSpec f55b_ps f55b_rs f55b_os (fun x => f55b_ok x.1) (fun x => f55b x.1) (fun _ => ())

def f55b_ctx : Ctx := { tys := tys, fns := [], loops := [], gh := [(7, [(4, 0, 7, 0)])], wrap := false, n := 8, keep := [], wr := [] }

theorem f55b_cok : CtxOk Tryz.prog f55b_ctx := ctxOk_mk tys_ok trivial rfl (by kernel_rfl)

noncomputable def f55b_code : Code := Tryz.f55.body.getD .skip

theorem f55b_sum : ∀ x, sumFn f55b_ctx f55b_code Tryz.f55.results.toList f55b_ps f55b_rs f55b_os x = some (f55b_ok x.1, f55b x.1, ()) := fun x => by kernel_rfl

theorem f55b_is : SpecOk Tryz.prog 55 f55b_spec := func_gen f55b_cok mixed Tryz.func55 (by kernel_rfl) (by decide) rfl (bs := []) (by kernel_rfl) trivial (by kernel_rfl) (by kernel_rfl) rfl f55b_sum

-- slices.Clone[[]imageeditor/api.Stop,imageeditor/api.Stop]
def f55c (p0 : (List D57)) : (List D57) :=
  let v7 := (([] : List D57) ++ p0)
  let m2 := (bif false then [] else v7)
  m2

def f55c_ok (p0 : (List D57)) : Prop :=
  (0 < List.length p0 ∧ ((!false) = true → ((List.length ([] : List D57) + List.length p0 : Nat) : Int) ≤ 4294967296))

instance (p0 : (List D57)) : Decidable (f55c_ok p0) := by
  unfold f55c_ok
  try dsimp only
  infer_instance

def f55c_ps : List (Nat × Sh) := [(0, (.val (.sl T57)))]
def f55c_rs : Sh := (.own T57 0 false)
def f55c_os : List (Nat × Sh) := []

def f55c_spec : Am.Spec := fnSpec f55c_ps f55c_rs f55c_os (fun x => f55c_ok x.1) (fun x => f55c x.1) (fun _ => ())

def f55c_ctx : Ctx := { tys := tys, fns := [], loops := [], gh := [(7, [(4, 0, 7, 0)])], wrap := false, n := 8, keep := [], wr := [] }

theorem f55c_cok : CtxOk Tryz.prog f55c_ctx := ctxOk_mk tys_ok trivial rfl (by kernel_rfl)

noncomputable def f55c_code : Code := Tryz.f55.body.getD .skip

theorem f55c_sum : ∀ x, sumFn f55c_ctx f55c_code Tryz.f55.results.toList f55c_ps f55c_rs f55c_os x = some (f55c_ok x.1, f55c x.1, ()) := fun x => by kernel_rfl

theorem f55c_is : SpecOk Tryz.prog 55 f55c_spec := func_gen f55c_cok mixed Tryz.func55 (by kernel_rfl) (by decide) rfl (bs := []) (by kernel_rfl) trivial (by kernel_rfl) (by kernel_rfl) rfl f55c_sum

def f55 (p0 : (List D57)) : (List D57) := p0
def f55_ok (p0 : (List D57)) : Prop := (List.length p0 : Int) ≤ 4294967296
instance (p0 : (List D57)) : Decidable (f55_ok p0) := by
  unfold f55_ok
  infer_instance
def f55_ps : List (Nat × Sh) := [(0, (.val (.sl T57)))]
def f55_rs : Sh := (.own T57 0 false)
def f55_os : List (Nat × Sh) := []
def f55_spec : Am.Spec := fnSpec f55_ps f55_rs f55_os (fun x => f55_ok x.1) (fun x => f55 x.1) (fun _ => ())
theorem f55_is : SpecOk Tryz.prog 55 f55_spec := nil_cases (rs := f55_rs) (F := f55) (ok := f55_ok) f55a_is f55b_is f55c_is (of_decide_eq_true (by kernel_rfl)) (of_decide_eq_true (by kernel_rfl)) (fun l h hp => ⟨hp, fun _ => by simpa [f55_ok] using h⟩) rfl rfl (fun _ => rfl)

-- slices.Clone[[]imageeditor/api.Seg,imageeditor/api.Seg]
def f56a (p0 : Unit) : (List D62) :=
  let v7 := (([] : List D62) ++ ([] : List D62))
  let m2 := (bif true then [] else v7)
  m2

def f56a_ok (p0 : Unit) : Prop :=
  ((!true) = true → ((List.length ([] : List D62) + List.length ([] : List D62) : Nat) : Int) ≤ 4294967296)

instance (p0 : Unit) : Decidable (f56a_ok p0) := by
  unfold f56a_ok
  try dsimp only
  infer_instance

def f56a_ps : List (Nat × Sh) := [(0, (.nn true))]
def f56a_rs : Sh := (.own T62 0 false)
def f56a_os : List (Nat × Sh) := []

def f56a_spec : Am.Spec := fnSpec f56a_ps f56a_rs f56a_os (fun x => f56a_ok x.1) (fun x => f56a x.1) (fun _ => ())

def f56a_ctx : Ctx := { tys := tys, fns := [], loops := [], gh := [(7, [(4, 0, 7, 0)])], wrap := false, n := 8, keep := [], wr := [] }

theorem f56a_cok : CtxOk Tryz.prog f56a_ctx := ctxOk_mk tys_ok trivial rfl (by kernel_rfl)

noncomputable def f56a_code : Code := Tryz.f56.body.getD .skip

theorem f56a_sum : ∀ x, sumFn f56a_ctx f56a_code Tryz.f56.results.toList f56a_ps f56a_rs f56a_os x = some (f56a_ok x.1, f56a x.1, ()) := fun x => by kernel_rfl

theorem f56a_is : SpecOk Tryz.prog 56 f56a_spec := func_gen f56a_cok mixed Tryz.func56 (by kernel_rfl) (by decide) rfl (bs := []) (by kernel_rfl) trivial (by kernel_rfl) (by kernel_rfl) rfl f56a_sum

-- slices.Clone[[]imageeditor/api.Seg,imageeditor/api.Seg]
def f56b (p0 : Unit) : (List D62) :=
  let v7 := (([] : List D62) ++ ([] : List D62))
  let m2 := (bif false then [] else v7)
  m2

def f56b_ok (p0 : Unit) : Prop :=
  ((!false) = true → ((List.length ([] : List D62) + List.length ([] : List D62) : Nat) : Int) ≤ 4294967296)

instance (p0 : Unit) : Decidable (f56b_ok p0) := by
  unfold f56b_ok
  try dsimp only
  infer_instance

def f56b_ps : List (Nat × Sh) := [(0, (.nn false))]
def f56b_rs : Sh := (.own T62 0 false)
def f56b_os : List (Nat × Sh) := []

def f56b_spec : Am.Spec := fnSpec f56b_ps f56b_rs f56b_os (fun x => f56b_ok x.1) (fun x => f56b x.1) (fun _ => ())

def f56b_ctx : Ctx := { tys := tys, fns := [], loops := [], gh := [(7, [(4, 0, 7, 0)])], wrap := false, n := 8, keep := [], wr := [] }

theorem f56b_cok : CtxOk Tryz.prog f56b_ctx := ctxOk_mk tys_ok trivial rfl (by kernel_rfl)

noncomputable def f56b_code : Code := Tryz.f56.body.getD .skip

theorem f56b_sum : ∀ x, sumFn f56b_ctx f56b_code Tryz.f56.results.toList f56b_ps f56b_rs f56b_os x = some (f56b_ok x.1, f56b x.1, ()) := fun x => by kernel_rfl

theorem f56b_is : SpecOk Tryz.prog 56 f56b_spec := func_gen f56b_cok mixed Tryz.func56 (by kernel_rfl) (by decide) rfl (bs := []) (by kernel_rfl) trivial (by kernel_rfl) (by kernel_rfl) rfl f56b_sum

-- slices.Clone[[]imageeditor/api.Seg,imageeditor/api.Seg]
def f56c (p0 : (List D62)) : (List D62) :=
  let v7 := (([] : List D62) ++ p0)
  let m2 := (bif false then [] else v7)
  m2

def f56c_ok (p0 : (List D62)) : Prop :=
  (0 < List.length p0 ∧ ((!false) = true → ((List.length ([] : List D62) + List.length p0 : Nat) : Int) ≤ 4294967296))

instance (p0 : (List D62)) : Decidable (f56c_ok p0) := by
  unfold f56c_ok
  try dsimp only
  infer_instance

def f56c_ps : List (Nat × Sh) := [(0, (.val (.sl T62)))]
def f56c_rs : Sh := (.own T62 0 false)
def f56c_os : List (Nat × Sh) := []

def f56c_spec : Am.Spec := fnSpec f56c_ps f56c_rs f56c_os (fun x => f56c_ok x.1) (fun x => f56c x.1) (fun _ => ())

def f56c_ctx : Ctx := { tys := tys, fns := [], loops := [], gh := [(7, [(4, 0, 7, 0)])], wrap := false, n := 8, keep := [], wr := [] }

theorem f56c_cok : CtxOk Tryz.prog f56c_ctx := ctxOk_mk tys_ok trivial rfl (by kernel_rfl)

noncomputable def f56c_code : Code := Tryz.f56.body.getD .skip

theorem f56c_sum : ∀ x, sumFn f56c_ctx f56c_code Tryz.f56.results.toList f56c_ps f56c_rs f56c_os x = some (f56c_ok x.1, f56c x.1, ()) := fun x => by kernel_rfl

theorem f56c_is : SpecOk Tryz.prog 56 f56c_spec := func_gen f56c_cok mixed Tryz.func56 (by kernel_rfl) (by decide) rfl (bs := []) (by kernel_rfl) trivial (by kernel_rfl) (by kernel_rfl) rfl f56c_sum

def f56 (p0 : (List D62)) : (List D62) := p0
def f56_ok (p0 : (List D62)) : Prop := (List.length p0 : Int) ≤ 4294967296
instance (p0 : (List D62)) : Decidable (f56_ok p0) := by
  unfold f56_ok
  infer_instance
def f56_ps : List (Nat × Sh) := [(0, (.val (.sl T62)))]
def f56_rs : Sh := (.own T62 0 false)
def f56_os : List (Nat × Sh) := []
def f56_spec : Am.Spec := fnSpec f56_ps f56_rs f56_os (fun x => f56_ok x.1) (fun x => f56 x.1) (fun _ => ())
theorem f56_is : SpecOk Tryz.prog 56 f56_spec := nil_cases (rs := f56_rs) (F := f56) (ok := f56_ok) f56a_is f56b_is f56c_is (of_decide_eq_true (by kernel_rfl)) (of_decide_eq_true (by kernel_rfl)) (fun l h hp => ⟨hp, fun _ => by simpa [f56_ok] using h⟩) rfl rfl (fun _ => rfl)

-- slices.Clone[[]imageeditor/api.Point,imageeditor/api.Point]
def f57a (p0 : Unit) : (List D59) :=
  let v7 := (([] : List D59) ++ ([] : List D59))
  let m2 := (bif true then [] else v7)
  m2

def f57a_ok (p0 : Unit) : Prop :=
  ((!true) = true → ((List.length ([] : List D59) + List.length ([] : List D59) : Nat) : Int) ≤ 4294967296)

instance (p0 : Unit) : Decidable (f57a_ok p0) := by
  unfold f57a_ok
  try dsimp only
  infer_instance

def f57a_ps : List (Nat × Sh) := [(0, (.nn true))]
def f57a_rs : Sh := (.own T59 0 false)
def f57a_os : List (Nat × Sh) := []

def f57a_spec : Am.Spec := fnSpec f57a_ps f57a_rs f57a_os (fun x => f57a_ok x.1) (fun x => f57a x.1) (fun _ => ())

def f57a_ctx : Ctx := { tys := tys, fns := [], loops := [], gh := [(7, [(4, 0, 7, 0)])], wrap := false, n := 8, keep := [], wr := [] }

theorem f57a_cok : CtxOk Tryz.prog f57a_ctx := ctxOk_mk tys_ok trivial rfl (by kernel_rfl)

noncomputable def f57a_code : Code := Tryz.f57.body.getD .skip

theorem f57a_sum : ∀ x, sumFn f57a_ctx f57a_code Tryz.f57.results.toList f57a_ps f57a_rs f57a_os x = some (f57a_ok x.1, f57a x.1, ()) := fun x => by kernel_rfl

theorem f57a_is : SpecOk Tryz.prog 57 f57a_spec := func_gen f57a_cok mixed Tryz.func57 (by kernel_rfl) (by decide) rfl (bs := []) (by kernel_rfl) trivial (by kernel_rfl) (by kernel_rfl) rfl f57a_sum

-- slices.Clone[[]imageeditor/api.Point,imageeditor/api.Point]
def f57b (p0 : Unit) : (List D59) :=
  let v7 := (([] : List D59) ++ ([] : List D59))
  let m2 := (bif false then [] else v7)
  m2

def f57b_ok (p0 : Unit) : Prop :=
  ((!false) = true → ((List.length ([] : List D59) + List.length ([] : List D59) : Nat) : Int) ≤ 4294967296)

instance (p0 : Unit) : Decidable (f57b_ok p0) := by
  unfold f57b_ok
  try dsimp only
  infer_instance

def f57b_ps : List (Nat × Sh) := [(0, (.nn false))]
def f57b_rs : Sh := (.own T59 0 false)
def f57b_os : List (Nat × Sh) := []

def f57b_spec : Am.Spec := fnSpec f57b_ps f57b_rs f57b_os (fun x => f57b_ok x.1) (fun x => f57b x.1) (fun _ => ())

def f57b_ctx : Ctx := { tys := tys, fns := [], loops := [], gh := [(7, [(4, 0, 7, 0)])], wrap := false, n := 8, keep := [], wr := [] }

theorem f57b_cok : CtxOk Tryz.prog f57b_ctx := ctxOk_mk tys_ok trivial rfl (by kernel_rfl)

noncomputable def f57b_code : Code := Tryz.f57.body.getD .skip

theorem f57b_sum : ∀ x, sumFn f57b_ctx f57b_code Tryz.f57.results.toList f57b_ps f57b_rs f57b_os x = some (f57b_ok x.1, f57b x.1, ()) := fun x => by kernel_rfl

theorem f57b_is : SpecOk Tryz.prog 57 f57b_spec := func_gen f57b_cok mixed Tryz.func57 (by kernel_rfl) (by decide) rfl (bs := []) (by kernel_rfl) trivial (by kernel_rfl) (by kernel_rfl) rfl f57b_sum

-- slices.Clone[[]imageeditor/api.Point,imageeditor/api.Point]
def f57c (p0 : (List D59)) : (List D59) :=
  let v7 := (([] : List D59) ++ p0)
  let m2 := (bif false then [] else v7)
  m2

def f57c_ok (p0 : (List D59)) : Prop :=
  (0 < List.length p0 ∧ ((!false) = true → ((List.length ([] : List D59) + List.length p0 : Nat) : Int) ≤ 4294967296))

instance (p0 : (List D59)) : Decidable (f57c_ok p0) := by
  unfold f57c_ok
  try dsimp only
  infer_instance

def f57c_ps : List (Nat × Sh) := [(0, (.val (.sl T59)))]
def f57c_rs : Sh := (.own T59 0 false)
def f57c_os : List (Nat × Sh) := []

def f57c_spec : Am.Spec := fnSpec f57c_ps f57c_rs f57c_os (fun x => f57c_ok x.1) (fun x => f57c x.1) (fun _ => ())

def f57c_ctx : Ctx := { tys := tys, fns := [], loops := [], gh := [(7, [(4, 0, 7, 0)])], wrap := false, n := 8, keep := [], wr := [] }

theorem f57c_cok : CtxOk Tryz.prog f57c_ctx := ctxOk_mk tys_ok trivial rfl (by kernel_rfl)

noncomputable def f57c_code : Code := Tryz.f57.body.getD .skip

theorem f57c_sum : ∀ x, sumFn f57c_ctx f57c_code Tryz.f57.results.toList f57c_ps f57c_rs f57c_os x = some (f57c_ok x.1, f57c x.1, ()) := fun x => by kernel_rfl

theorem f57c_is : SpecOk Tryz.prog 57 f57c_spec := func_gen f57c_cok mixed Tryz.func57 (by kernel_rfl) (by decide) rfl (bs := []) (by kernel_rfl) trivial (by kernel_rfl) (by kernel_rfl) rfl f57c_sum

def f57 (p0 : (List D59)) : (List D59) := p0
def f57_ok (p0 : (List D59)) : Prop := (List.length p0 : Int) ≤ 4294967296
instance (p0 : (List D59)) : Decidable (f57_ok p0) := by
  unfold f57_ok
  infer_instance
def f57_ps : List (Nat × Sh) := [(0, (.val (.sl T59)))]
def f57_rs : Sh := (.own T59 0 false)
def f57_os : List (Nat × Sh) := []
def f57_spec : Am.Spec := fnSpec f57_ps f57_rs f57_os (fun x => f57_ok x.1) (fun x => f57 x.1) (fun _ => ())
theorem f57_is : SpecOk Tryz.prog 57 f57_spec := nil_cases (rs := f57_rs) (F := f57) (ok := f57_ok) f57a_is f57b_is f57c_is (of_decide_eq_true (by kernel_rfl)) (of_decide_eq_true (by kernel_rfl)) (fun l h hp => ⟨hp, fun _ => by simpa [f57_ok] using h⟩) rfl rfl (fun _ => rfl)

-- imageeditor/node.With
def f22 (p0 : D37) (p1 : D37) : (D37 × Int × Unit) :=
  let v10 := (p0.2.1 != p1.2.1)
  let v15 := (f53 p0.2.2.2.2.2.2.2.2.2.1.2.2.1)
  let s := (p0.2.2.2.2.2.2.2.2.2.1.1, p0.2.2.2.2.2.2.2.2.2.1.2.1, v15, ())
  let v24 := (f54 p1.2.2.2.2.2.2.2.2.2.2.2.2.1.2.2.1)
  let s_3 := (p1.2.2.2.2.2.2.2.2.2.2.2.2.1.1, p1.2.2.2.2.2.2.2.2.2.2.2.2.1.2.1, v24, ())
  let v35 := (f53 p1.2.2.2.2.2.2.2.2.2.2.2.2.2.2.2.1)
  let v42 := (f55 p1.2.2.2.2.2.2.2.2.2.2.2.2.2.2.2.2.2.1)
  let v46 := (f56 p1.2.2.2.2.2.2.2.2.2.2.2.2.2.2.2.2.2.2.1)
  let v78 := (f57 p1.2.2.2.2.2.2.2.2.2.2.2.2.2.2.2.2.2.2.2.2.2.2.2.2.2.2.2.1.2.2.2.1)
  let s_20 := (p1.2.2.2.2.2.2.2.2.2.2.2.2.2.2.2.2.2.2.2.2.2.2.2.2.2.2.2.1.1, p1.2.2.2.2.2.2.2.2.2.2.2.2.2.2.2.2.2.2.2.2.2.2.2.2.2.2.2.1.2.1, p1.2.2.2.2.2.2.2.2.2.2.2.2.2.2.2.2.2.2.2.2.2.2.2.2.2.2.2.1.2.2.1, v78, ())
  let s_21 := (p0.1, p0.2.1, p0.2.2.1, p0.2.2.2.1, p0.2.2.2.2.1, p0.2.2.2.2.2.1, p0.2.2.2.2.2.2.1, p0.2.2.2.2.2.2.2.1, p0.2.2.2.2.2.2.2.2.1, s, p0.2.2.2.2.2.2.2.2.2.2.1, p0.2.2.2.2.2.2.2.2.2.2.2.1, s_3, p1.2.2.2.2.2.2.2.2.2.2.2.2.2.1, p1.2.2.2.2.2.2.2.2.2.2.2.2.2.2.1, v35, p1.2.2.2.2.2.2.2.2.2.2.2.2.2.2.2.2.1, v42, v46, p1.2.2.2.2.2.2.2.2.2.2.2.2.2.2.2.2.2.2.2.1, p1.2.2.2.2.2.2.2.2.2.2.2.2.2.2.2.2.2.2.2.2.1, p1.2.2.2.2.2.2.2.2.2.2.2.2.2.2.2.2.2.2.2.2.2.1, p1.2.2.2.2.2.2.2.2.2.2.2.2.2.2.2.2.2.2.2.2.2.2.1, p1.2.2.2.2.2.2.2.2.2.2.2.2.2.2.2.2.2.2.2.2.2.2.2.1, p1.2.2.2.2.2.2.2.2.2.2.2.2.2.2.2.2.2.2.2.2.2.2.2.2.1, p1.2.2.2.2.2.2.2.2.2.2.2.2.2.2.2.2.2.2.2.2.2.2.2.2.2.1, p1.2.2.2.2.2.2.2.2.2.2.2.2.2.2.2.2.2.2.2.2.2.2.2.2.2.2.1, s_20, ())
  let s_22 := ((0 : Int), (0 : Int), ([] : List Int), ())
  let s_23 := ((0 : Int), (0 : Int), ([] : List D30), ())
  let s_24 := ((0 : Int), (0 : Int), (0 : Int), ([] : List D59), ())
  let s_25 := ((0 : Int), (0 : Int), (0 : Int), ([] : List UInt8), false, false, false, (0 : Int), (0 : Int), s_22, Z25, (0 : Int), s_23, Z30, (0 : Int), ([] : List Int), (0 : Int), ([] : List D57), ([] : List D62), (0 : Int), (0 : Int), (0 : Int), (0 : Int), ([] : List UInt8), (0 : Int), (0 : Int), (0 : Int), s_24, ())
  let m4 := (bif v10 then s_25 else s_21)
  let m5 := (bif v10 then (8 : Int) else (0 : Int))
  (m4, m5, ())

def f22_ok (p0 : D37) (p1 : D37) : Prop :=
  let v10 := (p0.2.1 != p1.2.1)
  ((!v10) = true → ((f53_ok p0.2.2.2.2.2.2.2.2.2.1.2.2.1) ∧ ((f54_ok p1.2.2.2.2.2.2.2.2.2.2.2.2.1.2.2.1) ∧ ((f53_ok p1.2.2.2.2.2.2.2.2.2.2.2.2.2.2.2.1) ∧ ((f55_ok p1.2.2.2.2.2.2.2.2.2.2.2.2.2.2.2.2.2.1) ∧ ((f56_ok p1.2.2.2.2.2.2.2.2.2.2.2.2.2.2.2.2.2.2.1) ∧ (f57_ok p1.2.2.2.2.2.2.2.2.2.2.2.2.2.2.2.2.2.2.2.2.2.2.2.2.2.2.2.1.2.2.2.1)))))))

instance (p0 : D37) (p1 : D37) : Decidable (f22_ok p0 p1) := by
  unfold f22_ok
  try dsimp only
  infer_instance

def f22_ps : List (Nat × Sh) := [(0, (.val T37)), (1, (.val T37))]
def f22_rs : Sh := (.tup (.cons (.val T37) (.cons (.val (.int .i64)) .nl)))
def f22_os : List (Nat × Sh) := []

def f22_spec : Am.Spec := fnSpec f22_ps f22_rs f22_os (fun x => f22_ok x.1 x.2.1) (fun x => f22 x.1 x.2.1) (fun _ => ())

def f22_ctx : Ctx := { tys := tys, fns := [(53, f53_spec), (54, f54_spec), (55, f55_spec), (56, f56_spec), (57, f57_spec)], loops := [], gh := [], wrap := false, n := 82, keep := [], wr := [] }

theorem f22_cok : CtxOk Tryz.prog f22_ctx := ctxOk_mk tys_ok ⟨f53_is, f54_is, f55_is, f56_is, f57_is, trivial⟩ rfl (by kernel_rfl)

noncomputable def f22_code : Code := Tryz.f22.body.getD .skip

theorem f22_sum : ∀ x, sumFn f22_ctx f22_code Tryz.f22.results.toList f22_ps f22_rs f22_os x = some (f22_ok x.1 x.2.1, f22 x.1 x.2.1, ()) := fun x => by kernel_rfl

theorem f22_is : SpecOk Tryz.prog 22 f22_spec := func_gen f22_cok mixed Tryz.func22 (by kernel_rfl) (by decide) rfl (bs := []) (by kernel_rfl) trivial (by kernel_rfl) (by kernel_rfl) rfl f22_sum

-- imageeditor/imageeditorref31.With
def f23 (p0 : D37) (p1 : D37) : (D37 × Int × Unit) :=
  let v11 := (p0.2.1 != p1.2.1)
  let s_10 := (p0.1, p1.2.1, p0.2.2.1, p0.2.2.2.1, p0.2.2.2.2.1, p0.2.2.2.2.2.1, p0.2.2.2.2.2.2.1, p0.2.2.2.2.2.2.2.1, p0.2.2.2.2.2.2.2.2.1, p0.2.2.2.2.2.2.2.2.2.1, p0.2.2.2.2.2.2.2.2.2.2.1, p0.2.2.2.2.2.2.2.2.2.2.2.1, p1.2.2.2.2.2.2.2.2.2.2.2.2.1, p1.2.2.2.2.2.2.2.2.2.2.2.2.2.1, p1.2.2.2.2.2.2.2.2.2.2.2.2.2.2.1, p1.2.2.2.2.2.2.2.2.2.2.2.2.2.2.2.1, p1.2.2.2.2.2.2.2.2.2.2.2.2.2.2.2.2.1, p1.2.2.2.2.2.2.2.2.2.2.2.2.2.2.2.2.2.1, p1.2.2.2.2.2.2.2.2.2.2.2.2.2.2.2.2.2.2.1, p1.2.2.2.2.2.2.2.2.2.2.2.2.2.2.2.2.2.2.2.1, p1.2.2.2.2.2.2.2.2.2.2.2.2.2.2.2.2.2.2.2.2.1, p1.2.2.2.2.2.2.2.2.2.2.2.2.2.2.2.2.2.2.2.2.2.1, p1.2.2.2.2.2.2.2.2.2.2.2.2.2.2.2.2.2.2.2.2.2.2.1, p1.2.2.2.2.2.2.2.2.2.2.2.2.2.2.2.2.2.2.2.2.2.2.2.1, p1.2.2.2.2.2.2.2.2.2.2.2.2.2.2.2.2.2.2.2.2.2.2.2.2.1, p1.2.2.2.2.2.2.2.2.2.2.2.2.2.2.2.2.2.2.2.2.2.2.2.2.2.1, p1.2.2.2.2.2.2.2.2.2.2.2.2.2.2.2.2.2.2.2.2.2.2.2.2.2.2.1, p1.2.2.2.2.2.2.2.2.2.2.2.2.2.2.2.2.2.2.2.2.2.2.2.2.2.2.2.1, ())
  let s_11 := ((0 : Int), (0 : Int), ([] : List Int), ())
  let s_12 := ((0 : Int), (0 : Int), ([] : List D30), ())
  let s_13 := ((0 : Int), (0 : Int), (0 : Int), ([] : List D59), ())
  let s_14 := ((0 : Int), (0 : Int), (0 : Int), ([] : List UInt8), false, false, false, (0 : Int), (0 : Int), s_11, Z25, (0 : Int), s_12, Z30, (0 : Int), ([] : List Int), (0 : Int), ([] : List D57), ([] : List D62), (0 : Int), (0 : Int), (0 : Int), (0 : Int), ([] : List UInt8), (0 : Int), (0 : Int), (0 : Int), s_13, ())
  let m4 := (bif v11 then s_14 else s_10)
  let m5 := (bif v11 then (8 : Int) else (0 : Int))
  (m4, m5, ())

def f23_ok (p0 : D37) (p1 : D37) : Prop :=
  True

instance (p0 : D37) (p1 : D37) : Decidable (f23_ok p0 p1) := by
  unfold f23_ok
  try dsimp only
  infer_instance

def f23_ps : List (Nat × Sh) := [(0, (.val T37)), (1, (.val T37))]
def f23_rs : Sh := (.tup (.cons (.val T37) (.cons (.val (.int .i64)) .nl)))
def f23_os : List (Nat × Sh) := []

def f23_spec : Am.Spec := fnSpec f23_ps f23_rs f23_os (fun x => f23_ok x.1 x.2.1) (fun x => f23 x.1 x.2.1) (fun _ => ())

def f23_ctx : Ctx := { tys := tys, fns := [], loops := [], gh := [], wrap := false, n := 48, keep := [], wr := [] }

theorem f23_cok : CtxOk Tryz.prog f23_ctx := ctxOk_mk tys_ok trivial rfl (by kernel_rfl)

noncomputable def f23_code : Code := Tryz.f23.body.getD .skip

theorem f23_sum : ∀ x, sumFn f23_ctx f23_code Tryz.f23.results.toList f23_ps f23_rs f23_os x = some (f23_ok x.1 x.2.1, f23 x.1 x.2.1, ()) := fun x => by kernel_rfl

theorem f23_is : SpecOk Tryz.prog 23 f23_spec := func_gen f23_cok mixed Tryz.func23 (by kernel_rfl) (by decide) rfl (bs := []) (by kernel_rfl) trivial (by kernel_rfl) (by kernel_rfl) rfl f23_sum

-- imageeditor/imageeditorlaw31.NodeWiths
def f6 (p0 : D50) : Bool :=
  let v12 := (f22 p0.1 p0.2.1)
  let v20 := (f23 p0.1 p0.2.1)
  let v25 := (v12.2.1 == v20.2.1)
  let v29 := (f12 v12.1 v20.1)
  let v30 := (bif v25 then v29 else false)
  let v33 := (bif v30 then f16 else false)
  v33

def f6_ok (p0 : D50) : Prop :=
  let v12 := (f22 p0.1 p0.2.1)
  let v20 := (f23 p0.1 p0.2.1)
  let v25 := (v12.2.1 == v20.2.1)
  let v29 := (f12 v12.1 v20.1)
  let v30 := (bif v25 then v29 else false)
  ((f22_ok p0.1 p0.2.1) ∧ ((f23_ok p0.1 p0.2.1) ∧ ((v25 = true → (f12_ok v12.1 v20.1)) ∧ (v30 = true → f16_ok))))

instance (p0 : D50) : Decidable (f6_ok p0) := by
  unfold f6_ok
  try dsimp only
  infer_instance

def f6_ps : List (Nat × Sh) := [(0, (.val T50))]
def f6_rs : Sh := (.val .bool)
def f6_os : List (Nat × Sh) := []

def f6_spec : Am.Spec := fnSpec f6_ps f6_rs f6_os (fun x => f6_ok x.1) (fun x => f6 x.1) (fun _ => ())

def f6_ctx : Ctx := { tys := tys, fns := [(12, f12_spec), (16, f16_spec), (22, f22_spec), (23, f23_spec)], loops := [], gh := [], wrap := false, n := 34, keep := [], wr := [] }

theorem f6_cok : CtxOk Tryz.prog f6_ctx := ctxOk_mk tys_ok ⟨f12_is, f16_is, f22_is, f23_is, trivial⟩ rfl (by kernel_rfl)

noncomputable def f6_code : Code := Tryz.f6.body.getD .skip

theorem f6_sum : ∀ x, sumFn f6_ctx f6_code Tryz.f6.results.toList f6_ps f6_rs f6_os x = some (f6_ok x.1, f6 x.1, ()) := fun x => by kernel_rfl

theorem f6_is : SpecOk Tryz.prog 6 f6_spec := func_gen f6_cok mixed Tryz.func6 (by kernel_rfl) (by decide) rfl (bs := []) (by kernel_rfl) trivial (by kernel_rfl) (by kernel_rfl) rfl f6_sum

-- slices.Equal[[]int,int]
def f58_L4_g (y : ((List Int) × (List Int) × Int × Unit)) (x : (Int × Unit)) : Bool :=
  let a0 := y.1 
  let a1 := y.2.1 
  let a12 := y.2.2.1 
  let a13 := x.1 
  let v14 := (decide (a13 < a12))
  let v18 := (nth a0 a13 (0 : Int))
  let v22 := (nth a1 a13 (0 : Int))
  let v24 := (v18 != v22)
  let c := (v14 && (!v24))
  c

def f58_L4_next (y : ((List Int) × (List Int) × Int × Unit)) (x : (Int × Unit)) : (Int × Unit) :=
  let a13 := x.1 
  let v25 := (a13 + (1 : Int))
  (v25, ())

def f58_L4_ok (y : ((List Int) × (List Int) × Int × Unit)) (x : (Int × Unit)) : Prop :=
  let a0 := y.1 
  let a1 := y.2.1 
  let a12 := y.2.2.1 
  let a13 := x.1 
  let v14 := (decide (a13 < a12))
  let v18 := (nth a0 a13 (0 : Int))
  let v22 := (nth a1 a13 (0 : Int))
  let v24 := (v18 != v22)
  (v14 = true → (InB a13 (len a0) ∧ (InB a13 (len a1) ∧ ((!v24) = true → InR (a13 + (1 : Int))))))

instance (y : ((List Int) × (List Int) × Int × Unit)) (x : (Int × Unit)) : Decidable (f58_L4_ok y x) := by
  unfold f58_L4_ok
  try dsimp only
  infer_instance

def f58_L4_x1 (y : ((List Int) × (List Int) × Int × Unit)) (x : (Int × Unit)) : (Bool × Unit) :=
  (false, ())

def f58_L4_e1 (y : ((List Int) × (List Int) × Int × Unit)) (x : (Int × Unit)) : Bool :=
  let a0 := y.1 
  let a1 := y.2.1 
  let a12 := y.2.2.1 
  let a13 := x.1 
  let v14 := (decide (a13 < a12))
  let v18 := (nth a0 a13 (0 : Int))
  let v22 := (nth a1 a13 (0 : Int))
  let v24 := (v18 != v22)
  let c_1 := (v14 && v24)
  c_1

def f58_L4_x2 (y : ((List Int) × (List Int) × Int × Unit)) (x : (Int × Unit)) : (Unit) :=
  ()

def f58_L4_e2 (y : ((List Int) × (List Int) × Int × Unit)) (x : (Int × Unit)) : Bool :=
  let a12 := y.2.2.1 
  let a13 := x.1 
  let v14 := (decide (a13 < a12))
  (!v14)

def f58_L4_ly : List (Nat × Sh) := [(0, (.val (.sl (.int .i64)))), (1, (.val (.sl (.int .i64)))), (12, (.val (.int .i64)))]
def f58_L4_lx : List (Nat × Sh) := [(13, (.val (.int .i64)))]
def f58_L4_les : List (List (Nat × Sh)) := [[(4, (.val .bool))], []]

def f58_L4_es (y : denL f58_L4_ly) (x : denL f58_L4_lx) : List Comp := [⟨1, some (f58_L4_e1 y x), mkSt [(4, (.val .bool))] ((f58_L4_x1 y x).1, ()) ++ cutSt⟩, ⟨2, some (f58_L4_e2 y x), mkSt [] () ++ cutSt⟩]

def f58_L4_spec : St → Option Out := loopS f58_L4_ly f58_L4_lx f58_L4_g f58_L4_next f58_L4_ok f58_L4_es

def f58 (p0 : (List Int)) (p1 : (List Int)) : Bool :=
  let v7 := (len p0)
  let v9 := (len p1)
  let v10 := (v7 != v9)
  let v12 := (len p0)
  let y4 := (p0, p1, v12, ())
  let x4 := ((0 : Int), ())
  let e4 := (loopEnd (f58_L4_g y4) (f58_L4_next y4) x4)
  let r4_1 := (f58_L4_x1 y4 e4)
  let q4_1 := (f58_L4_e1 y4 e4)
  let m4 := (bif q4_1 then r4_1.1 else true)
  let m4_1 := (bif v10 then false else m4)
  m4_1

def f58_ok (p0 : (List Int)) (p1 : (List Int)) : Prop :=
  let v7 := (len p0)
  let v9 := (len p1)
  let v10 := (v7 != v9)
  let v12 := (len p0)
  let y4 := (p0, p1, v12, ())
  let x4 := ((0 : Int), ())
  ((!v10) = true → (Am.Ends (f58_L4_g y4) (f58_L4_next y4) (f58_L4_ok y4) x4))

instance (p0 : (List Int)) (p1 : (List Int)) : Decidable (f58_ok p0 p1) := by
  unfold f58_ok
  try dsimp only
  infer_instance

def f58_ps : List (Nat × Sh) := [(0, (.val (.sl (.int .i64)))), (1, (.val (.sl (.int .i64))))]
def f58_rs : Sh := (.val .bool)
def f58_os : List (Nat × Sh) := []

def f58_spec : Am.Spec := fnSpec f58_ps f58_rs f58_os (fun x => f58_ok x.1 x.2.1) (fun x => f58 x.1 x.2.1) (fun _ => ())

def f58_ctx : Ctx := { tys := tys, fns := [], loops := [(4, f58_L4_spec)], gh := [], wrap := false, n := 26, keep := [], wr := [] }

theorem f58_cok : CtxOk Tryz.prog f58_ctx := ctxOk_mk tys_ok trivial rfl (by kernel_rfl)

noncomputable def f58_code : Code := Tryz.f58.body.getD .skip

noncomputable def f58_L4 : Code := nthLoop f58_code 0

theorem f58_L4_sum : ∀ y x, sumLoop f58_ctx f58_L4 f58_L4_ly f58_L4_lx f58_L4_les y x = some (f58_L4_ok y x, f58_L4_g y x, y, f58_L4_next y x, f58_L4_es y x) := fun y x => by kernel_rfl

theorem f58_L4_is : LoopSnd Tryz.prog f58_ctx f58_L4 := loop_gen f58_cok mixed (bs := []) (by kernel_rfl) trivial (by kernel_rfl) (by kernel_rfl) f58_L4_sum

theorem f58_sum : ∀ x, sumFn f58_ctx f58_code Tryz.f58.results.toList f58_ps f58_rs f58_os x = some (f58_ok x.1 x.2.1, f58 x.1 x.2.1, ()) := fun x => by kernel_rfl

theorem f58_is : SpecOk Tryz.prog 58 f58_spec := func_gen f58_cok mixed Tryz.func58 (by kernel_rfl) (by decide) rfl (bs := [f58_L4]) (by kernel_rfl) ⟨f58_L4_is, trivial⟩ (by kernel_rfl) (by kernel_rfl) rfl f58_sum

-- slices.Equal[[]imageeditor/api.Pixel,imageeditor/api.Pixel]
def f142_L4_g (y : ((List D30) × (List D30) × Int × Unit)) (x : (Int × Unit)) : Bool :=
  let a0 := y.1 
  let a1 := y.2.1 
  let a12 := y.2.2.1 
  let a13 := x.1 
  let v14 := (decide (a13 < a12))
  let v18 := (nth a0 a13 Z30)
  let v22 := (nth a1 a13 Z30)
  let v24 := (!(Ty.eqb T30 v18 v22))
  let c := (v14 && (!v24))
  c

def f142_L4_next (y : ((List D30) × (List D30) × Int × Unit)) (x : (Int × Unit)) : (Int × Unit) :=
  let a13 := x.1 
  let v25 := (a13 + (1 : Int))
  (v25, ())

def f142_L4_ok (y : ((List D30) × (List D30) × Int × Unit)) (x : (Int × Unit)) : Prop :=
  let a0 := y.1 
  let a1 := y.2.1 
  let a12 := y.2.2.1 
  let a13 := x.1 
  let v14 := (decide (a13 < a12))
  let v18 := (nth a0 a13 Z30)
  let v22 := (nth a1 a13 Z30)
  let v24 := (!(Ty.eqb T30 v18 v22))
  (v14 = true → (InB a13 (len a0) ∧ (InB a13 (len a1) ∧ ((!v24) = true → InR (a13 + (1 : Int))))))

instance (y : ((List D30) × (List D30) × Int × Unit)) (x : (Int × Unit)) : Decidable (f142_L4_ok y x) := by
  unfold f142_L4_ok
  try dsimp only
  infer_instance

def f142_L4_x1 (y : ((List D30) × (List D30) × Int × Unit)) (x : (Int × Unit)) : (Bool × Unit) :=
  (false, ())

def f142_L4_e1 (y : ((List D30) × (List D30) × Int × Unit)) (x : (Int × Unit)) : Bool :=
  let a0 := y.1 
  let a1 := y.2.1 
  let a12 := y.2.2.1 
  let a13 := x.1 
  let v14 := (decide (a13 < a12))
  let v18 := (nth a0 a13 Z30)
  let v22 := (nth a1 a13 Z30)
  let v24 := (!(Ty.eqb T30 v18 v22))
  let c_1 := (v14 && v24)
  c_1

def f142_L4_x2 (y : ((List D30) × (List D30) × Int × Unit)) (x : (Int × Unit)) : (Unit) :=
  ()

def f142_L4_e2 (y : ((List D30) × (List D30) × Int × Unit)) (x : (Int × Unit)) : Bool :=
  let a12 := y.2.2.1 
  let a13 := x.1 
  let v14 := (decide (a13 < a12))
  (!v14)

def f142_L4_ly : List (Nat × Sh) := [(0, (.val (.sl T30))), (1, (.val (.sl T30))), (12, (.val (.int .i64)))]
def f142_L4_lx : List (Nat × Sh) := [(13, (.val (.int .i64)))]
def f142_L4_les : List (List (Nat × Sh)) := [[(4, (.val .bool))], []]

def f142_L4_es (y : denL f142_L4_ly) (x : denL f142_L4_lx) : List Comp := [⟨1, some (f142_L4_e1 y x), mkSt [(4, (.val .bool))] ((f142_L4_x1 y x).1, ()) ++ cutSt⟩, ⟨2, some (f142_L4_e2 y x), mkSt [] () ++ cutSt⟩]

def f142_L4_spec : St → Option Out := loopS f142_L4_ly f142_L4_lx f142_L4_g f142_L4_next f142_L4_ok f142_L4_es

def f142 (p0 : (List D30)) (p1 : (List D30)) : Bool :=
  let v7 := (len p0)
  let v9 := (len p1)
  let v10 := (v7 != v9)
  let v12 := (len p0)
  let y4 := (p0, p1, v12, ())
  let x4 := ((0 : Int), ())
  let e4 := (loopEnd (f142_L4_g y4) (f142_L4_next y4) x4)
  let r4_1 := (f142_L4_x1 y4 e4)
  let q4_1 := (f142_L4_e1 y4 e4)
  let m4 := (bif q4_1 then r4_1.1 else true)
  let m4_1 := (bif v10 then false else m4)
  m4_1

def f142_ok (p0 : (List D30)) (p1 : (List D30)) : Prop :=
  let v7 := (len p0)
  let v9 := (len p1)
  let v10 := (v7 != v9)
  let v12 := (len p0)
  let y4 := (p0, p1, v12, ())
  let x4 := ((0 : Int), ())
  ((!v10) = true → (Am.Ends (f142_L4_g y4) (f142_L4_next y4) (f142_L4_ok y4) x4))

instance (p0 : (List D30)) (p1 : (List D30)) : Decidable (f142_ok p0 p1) := by
  unfold f142_ok
  try dsimp only
  infer_instance

def f142_ps : List (Nat × Sh) := [(0, (.val (.sl T30))), (1, (.val (.sl T30)))]
def f142_rs : Sh := (.val .bool)
def f142_os : List (Nat × Sh) := []

def f142_spec : Am.Spec := fnSpec f142_ps f142_rs f142_os (fun x => f142_ok x.1 x.2.1) (fun x => f142 x.1 x.2.1) (fun _ => ())

def f142_ctx : Ctx := { tys := tys, fns := [], loops := [(4, f142_L4_spec)], gh := [], wrap := false, n := 26, keep := [], wr := [] }

theorem f142_cok : CtxOk Tryz.prog f142_ctx := ctxOk_mk tys_ok trivial rfl (by kernel_rfl)

noncomputable def f142_code : Code := Tryz.f142.body.getD .skip

noncomputable def f142_L4 : Code := nthLoop f142_code 0

theorem f142_L4_sum : ∀ y x, sumLoop f142_ctx f142_L4 f142_L4_ly f142_L4_lx f142_L4_les y x = some (f142_L4_ok y x, f142_L4_g y x, y, f142_L4_next y x, f142_L4_es y x) := fun y x => by kernel_rfl

theorem f142_L4_is : LoopSnd Tryz.prog f142_ctx f142_L4 := loop_gen f142_cok mixed (bs := []) (by kernel_rfl) trivial (by kernel_rfl) (by kernel_rfl) f142_L4_sum

theorem f142_sum : ∀ x, sumFn f142_ctx f142_code Tryz.f142.results.toList f142_ps f142_rs f142_os x = some (f142_ok x.1 x.2.1, f142 x.1 x.2.1, ()) := fun x => by kernel_rfl

theorem f142_is : SpecOk Tryz.prog 142 f142_spec := func_gen f142_cok mixed Tryz.func142 (by kernel_rfl) (by decide) rfl (bs := [f142_L4]) (by kernel_rfl) ⟨f142_L4_is, trivial⟩ (by kernel_rfl) (by kernel_rfl) rfl f142_sum

-- imageeditor/raster.Same
def f99 (p0 : D28) (p1 : D28) : Bool :=
  let v9 := (p0.1 == p1.1)
  let v15 := (p0.2.1 == p1.2.1)
  let v16 := (bif v9 then v15 else false)
  let v22 := (f142 p0.2.2.1 p1.2.2.1)
  let v23 := (bif v16 then v22 else false)
  v23

def f99_ok (p0 : D28) (p1 : D28) : Prop :=
  let v9 := (p0.1 == p1.1)
  let v15 := (p0.2.1 == p1.2.1)
  let v16 := (bif v9 then v15 else false)
  (v16 = true → (f142_ok p0.2.2.1 p1.2.2.1))

instance (p0 : D28) (p1 : D28) : Decidable (f99_ok p0 p1) := by
  unfold f99_ok
  try dsimp only
  infer_instance

def f99_ps : List (Nat × Sh) := [(0, (.val T28)), (1, (.val T28))]
def f99_rs : Sh := (.val .bool)
def f99_os : List (Nat × Sh) := []

def f99_spec : Am.Spec := fnSpec f99_ps f99_rs f99_os (fun x => f99_ok x.1 x.2.1) (fun x => f99 x.1 x.2.1) (fun _ => ())

def f99_ctx : Ctx := { tys := tys, fns := [(142, f142_spec)], loops := [], gh := [], wrap := false, n := 24, keep := [], wr := [] }

theorem f99_cok : CtxOk Tryz.prog f99_ctx := ctxOk_mk tys_ok ⟨f142_is, trivial⟩ rfl (by kernel_rfl)

noncomputable def f99_code : Code := Tryz.f99.body.getD .skip

theorem f99_sum : ∀ x, sumFn f99_ctx f99_code Tryz.f99.results.toList f99_ps f99_rs f99_os x = some (f99_ok x.1 x.2.1, f99 x.1 x.2.1, ()) := fun x => by kernel_rfl

theorem f99_is : SpecOk Tryz.prog 99 f99_spec := func_gen f99_cok mixed Tryz.func99 (by kernel_rfl) (by decide) rfl (bs := []) (by kernel_rfl) trivial (by kernel_rfl) (by kernel_rfl) rfl f99_sum

-- slices.Equal[[]imageeditor/api.Stop,imageeditor/api.Stop]
def f100_L4_g (y : ((List D57) × (List D57) × Int × Unit)) (x : (Int × Unit)) : Bool :=
  let a0 := y.1 
  let a1 := y.2.1 
  let a12 := y.2.2.1 
  let a13 := x.1 
  let v14 := (decide (a13 < a12))
  let v18 := (nth a0 a13 Z57)
  let v22 := (nth a1 a13 Z57)
  let v24 := (!(Ty.eqb T57 v18 v22))
  let c := (v14 && (!v24))
  c

def f100_L4_next (y : ((List D57) × (List D57) × Int × Unit)) (x : (Int × Unit)) : (Int × Unit) :=
  let a13 := x.1 
  let v25 := (a13 + (1 : Int))
  (v25, ())

def f100_L4_ok (y : ((List D57) × (List D57) × Int × Unit)) (x : (Int × Unit)) : Prop :=
  let a0 := y.1 
  let a1 := y.2.1 
  let a12 := y.2.2.1 
  let a13 := x.1 
  let v14 := (decide (a13 < a12))
  let v18 := (nth a0 a13 Z57)
  let v22 := (nth a1 a13 Z57)
  let v24 := (!(Ty.eqb T57 v18 v22))
  (v14 = true → (InB a13 (len a0) ∧ (InB a13 (len a1) ∧ ((!v24) = true → InR (a13 + (1 : Int))))))

instance (y : ((List D57) × (List D57) × Int × Unit)) (x : (Int × Unit)) : Decidable (f100_L4_ok y x) := by
  unfold f100_L4_ok
  try dsimp only
  infer_instance

def f100_L4_x1 (y : ((List D57) × (List D57) × Int × Unit)) (x : (Int × Unit)) : (Bool × Unit) :=
  (false, ())

def f100_L4_e1 (y : ((List D57) × (List D57) × Int × Unit)) (x : (Int × Unit)) : Bool :=
  let a0 := y.1 
  let a1 := y.2.1 
  let a12 := y.2.2.1 
  let a13 := x.1 
  let v14 := (decide (a13 < a12))
  let v18 := (nth a0 a13 Z57)
  let v22 := (nth a1 a13 Z57)
  let v24 := (!(Ty.eqb T57 v18 v22))
  let c_1 := (v14 && v24)
  c_1

def f100_L4_x2 (y : ((List D57) × (List D57) × Int × Unit)) (x : (Int × Unit)) : (Unit) :=
  ()

def f100_L4_e2 (y : ((List D57) × (List D57) × Int × Unit)) (x : (Int × Unit)) : Bool :=
  let a12 := y.2.2.1 
  let a13 := x.1 
  let v14 := (decide (a13 < a12))
  (!v14)

def f100_L4_ly : List (Nat × Sh) := [(0, (.val (.sl T57))), (1, (.val (.sl T57))), (12, (.val (.int .i64)))]
def f100_L4_lx : List (Nat × Sh) := [(13, (.val (.int .i64)))]
def f100_L4_les : List (List (Nat × Sh)) := [[(4, (.val .bool))], []]

def f100_L4_es (y : denL f100_L4_ly) (x : denL f100_L4_lx) : List Comp := [⟨1, some (f100_L4_e1 y x), mkSt [(4, (.val .bool))] ((f100_L4_x1 y x).1, ()) ++ cutSt⟩, ⟨2, some (f100_L4_e2 y x), mkSt [] () ++ cutSt⟩]

def f100_L4_spec : St → Option Out := loopS f100_L4_ly f100_L4_lx f100_L4_g f100_L4_next f100_L4_ok f100_L4_es

def f100 (p0 : (List D57)) (p1 : (List D57)) : Bool :=
  let v7 := (len p0)
  let v9 := (len p1)
  let v10 := (v7 != v9)
  let v12 := (len p0)
  let y4 := (p0, p1, v12, ())
  let x4 := ((0 : Int), ())
  let e4 := (loopEnd (f100_L4_g y4) (f100_L4_next y4) x4)
  let r4_1 := (f100_L4_x1 y4 e4)
  let q4_1 := (f100_L4_e1 y4 e4)
  let m4 := (bif q4_1 then r4_1.1 else true)
  let m4_1 := (bif v10 then false else m4)
  m4_1

def f100_ok (p0 : (List D57)) (p1 : (List D57)) : Prop :=
  let v7 := (len p0)
  let v9 := (len p1)
  let v10 := (v7 != v9)
  let v12 := (len p0)
  let y4 := (p0, p1, v12, ())
  let x4 := ((0 : Int), ())
  ((!v10) = true → (Am.Ends (f100_L4_g y4) (f100_L4_next y4) (f100_L4_ok y4) x4))

instance (p0 : (List D57)) (p1 : (List D57)) : Decidable (f100_ok p0 p1) := by
  unfold f100_ok
  try dsimp only
  infer_instance

def f100_ps : List (Nat × Sh) := [(0, (.val (.sl T57))), (1, (.val (.sl T57)))]
def f100_rs : Sh := (.val .bool)
def f100_os : List (Nat × Sh) := []

def f100_spec : Am.Spec := fnSpec f100_ps f100_rs f100_os (fun x => f100_ok x.1 x.2.1) (fun x => f100 x.1 x.2.1) (fun _ => ())

def f100_ctx : Ctx := { tys := tys, fns := [], loops := [(4, f100_L4_spec)], gh := [], wrap := false, n := 26, keep := [], wr := [] }

theorem f100_cok : CtxOk Tryz.prog f100_ctx := ctxOk_mk tys_ok trivial rfl (by kernel_rfl)

noncomputable def f100_code : Code := Tryz.f100.body.getD .skip

noncomputable def f100_L4 : Code := nthLoop f100_code 0

theorem f100_L4_sum : ∀ y x, sumLoop f100_ctx f100_L4 f100_L4_ly f100_L4_lx f100_L4_les y x = some (f100_L4_ok y x, f100_L4_g y x, y, f100_L4_next y x, f100_L4_es y x) := fun y x => by kernel_rfl

theorem f100_L4_is : LoopSnd Tryz.prog f100_ctx f100_L4 := loop_gen f100_cok mixed (bs := []) (by kernel_rfl) trivial (by kernel_rfl) (by kernel_rfl) f100_L4_sum

theorem f100_sum : ∀ x, sumFn f100_ctx f100_code Tryz.f100.results.toList f100_ps f100_rs f100_os x = some (f100_ok x.1 x.2.1, f100 x.1 x.2.1, ()) := fun x => by kernel_rfl

theorem f100_is : SpecOk Tryz.prog 100 f100_spec := func_gen f100_cok mixed Tryz.func100 (by kernel_rfl) (by decide) rfl (bs := [f100_L4]) (by kernel_rfl) ⟨f100_L4_is, trivial⟩ (by kernel_rfl) (by kernel_rfl) rfl f100_sum

-- slices.Equal[[]imageeditor/api.Seg,imageeditor/api.Seg]
def f101_L4_g (y : ((List D62) × (List D62) × Int × Unit)) (x : (Int × Unit)) : Bool :=
  let a0 := y.1 
  let a1 := y.2.1 
  let a12 := y.2.2.1 
  let a13 := x.1 
  let v14 := (decide (a13 < a12))
  let v18 := (nth a0 a13 Z62)
  let v22 := (nth a1 a13 Z62)
  let v24 := (!(Ty.eqb T62 v18 v22))
  let c := (v14 && (!v24))
  c

def f101_L4_next (y : ((List D62) × (List D62) × Int × Unit)) (x : (Int × Unit)) : (Int × Unit) :=
  let a13 := x.1 
  let v25 := (a13 + (1 : Int))
  (v25, ())

def f101_L4_ok (y : ((List D62) × (List D62) × Int × Unit)) (x : (Int × Unit)) : Prop :=
  let a0 := y.1 
  let a1 := y.2.1 
  let a12 := y.2.2.1 
  let a13 := x.1 
  let v14 := (decide (a13 < a12))
  let v18 := (nth a0 a13 Z62)
  let v22 := (nth a1 a13 Z62)
  let v24 := (!(Ty.eqb T62 v18 v22))
  (v14 = true → (InB a13 (len a0) ∧ (InB a13 (len a1) ∧ ((!v24) = true → InR (a13 + (1 : Int))))))

instance (y : ((List D62) × (List D62) × Int × Unit)) (x : (Int × Unit)) : Decidable (f101_L4_ok y x) := by
  unfold f101_L4_ok
  try dsimp only
  infer_instance

def f101_L4_x1 (y : ((List D62) × (List D62) × Int × Unit)) (x : (Int × Unit)) : (Bool × Unit) :=
  (false, ())

def f101_L4_e1 (y : ((List D62) × (List D62) × Int × Unit)) (x : (Int × Unit)) : Bool :=
  let a0 := y.1 
  let a1 := y.2.1 
  let a12 := y.2.2.1 
  let a13 := x.1 
  let v14 := (decide (a13 < a12))
  let v18 := (nth a0 a13 Z62)
  let v22 := (nth a1 a13 Z62)
  let v24 := (!(Ty.eqb T62 v18 v22))
  let c_1 := (v14 && v24)
  c_1

def f101_L4_x2 (y : ((List D62) × (List D62) × Int × Unit)) (x : (Int × Unit)) : (Unit) :=
  ()

def f101_L4_e2 (y : ((List D62) × (List D62) × Int × Unit)) (x : (Int × Unit)) : Bool :=
  let a12 := y.2.2.1 
  let a13 := x.1 
  let v14 := (decide (a13 < a12))
  (!v14)

def f101_L4_ly : List (Nat × Sh) := [(0, (.val (.sl T62))), (1, (.val (.sl T62))), (12, (.val (.int .i64)))]
def f101_L4_lx : List (Nat × Sh) := [(13, (.val (.int .i64)))]
def f101_L4_les : List (List (Nat × Sh)) := [[(4, (.val .bool))], []]

def f101_L4_es (y : denL f101_L4_ly) (x : denL f101_L4_lx) : List Comp := [⟨1, some (f101_L4_e1 y x), mkSt [(4, (.val .bool))] ((f101_L4_x1 y x).1, ()) ++ cutSt⟩, ⟨2, some (f101_L4_e2 y x), mkSt [] () ++ cutSt⟩]

def f101_L4_spec : St → Option Out := loopS f101_L4_ly f101_L4_lx f101_L4_g f101_L4_next f101_L4_ok f101_L4_es

def f101 (p0 : (List D62)) (p1 : (List D62)) : Bool :=
  let v7 := (len p0)
  let v9 := (len p1)
  let v10 := (v7 != v9)
  let v12 := (len p0)
  let y4 := (p0, p1, v12, ())
  let x4 := ((0 : Int), ())
  let e4 := (loopEnd (f101_L4_g y4) (f101_L4_next y4) x4)
  let r4_1 := (f101_L4_x1 y4 e4)
  let q4_1 := (f101_L4_e1 y4 e4)
  let m4 := (bif q4_1 then r4_1.1 else true)
  let m4_1 := (bif v10 then false else m4)
  m4_1

def f101_ok (p0 : (List D62)) (p1 : (List D62)) : Prop :=
  let v7 := (len p0)
  let v9 := (len p1)
  let v10 := (v7 != v9)
  let v12 := (len p0)
  let y4 := (p0, p1, v12, ())
  let x4 := ((0 : Int), ())
  ((!v10) = true → (Am.Ends (f101_L4_g y4) (f101_L4_next y4) (f101_L4_ok y4) x4))

instance (p0 : (List D62)) (p1 : (List D62)) : Decidable (f101_ok p0 p1) := by
  unfold f101_ok
  try dsimp only
  infer_instance

def f101_ps : List (Nat × Sh) := [(0, (.val (.sl T62))), (1, (.val (.sl T62)))]
def f101_rs : Sh := (.val .bool)
def f101_os : List (Nat × Sh) := []

def f101_spec : Am.Spec := fnSpec f101_ps f101_rs f101_os (fun x => f101_ok x.1 x.2.1) (fun x => f101 x.1 x.2.1) (fun _ => ())

def f101_ctx : Ctx := { tys := tys, fns := [], loops := [(4, f101_L4_spec)], gh := [], wrap := false, n := 26, keep := [], wr := [] }

theorem f101_cok : CtxOk Tryz.prog f101_ctx := ctxOk_mk tys_ok trivial rfl (by kernel_rfl)

noncomputable def f101_code : Code := Tryz.f101.body.getD .skip

noncomputable def f101_L4 : Code := nthLoop f101_code 0

theorem f101_L4_sum : ∀ y x, sumLoop f101_ctx f101_L4 f101_L4_ly f101_L4_lx f101_L4_les y x = some (f101_L4_ok y x, f101_L4_g y x, y, f101_L4_next y x, f101_L4_es y x) := fun y x => by kernel_rfl

theorem f101_L4_is : LoopSnd Tryz.prog f101_ctx f101_L4 := loop_gen f101_cok mixed (bs := []) (by kernel_rfl) trivial (by kernel_rfl) (by kernel_rfl) f101_L4_sum

theorem f101_sum : ∀ x, sumFn f101_ctx f101_code Tryz.f101.results.toList f101_ps f101_rs f101_os x = some (f101_ok x.1 x.2.1, f101 x.1 x.2.1, ()) := fun x => by kernel_rfl

theorem f101_is : SpecOk Tryz.prog 101 f101_spec := func_gen f101_cok mixed Tryz.func101 (by kernel_rfl) (by decide) rfl (bs := [f101_L4]) (by kernel_rfl) ⟨f101_L4_is, trivial⟩ (by kernel_rfl) (by kernel_rfl) rfl f101_sum

-- slices.Equal[[]imageeditor/api.Point,imageeditor/api.Point]
def f102_L4_g (y : ((List D59) × (List D59) × Int × Unit)) (x : (Int × Unit)) : Bool :=
  let a0 := y.1 
  let a1 := y.2.1 
  let a12 := y.2.2.1 
  let a13 := x.1 
  let v14 := (decide (a13 < a12))
  let v18 := (nth a0 a13 Z59)
  let v22 := (nth a1 a13 Z59)
  let v24 := (!(Ty.eqb T59 v18 v22))
  let c := (v14 && (!v24))
  c

def f102_L4_next (y : ((List D59) × (List D59) × Int × Unit)) (x : (Int × Unit)) : (Int × Unit) :=
  let a13 := x.1 
  let v25 := (a13 + (1 : Int))
  (v25, ())

def f102_L4_ok (y : ((List D59) × (List D59) × Int × Unit)) (x : (Int × Unit)) : Prop :=
  let a0 := y.1 
  let a1 := y.2.1 
  let a12 := y.2.2.1 
  let a13 := x.1 
  let v14 := (decide (a13 < a12))
  let v18 := (nth a0 a13 Z59)
  let v22 := (nth a1 a13 Z59)
  let v24 := (!(Ty.eqb T59 v18 v22))
  (v14 = true → (InB a13 (len a0) ∧ (InB a13 (len a1) ∧ ((!v24) = true → InR (a13 + (1 : Int))))))

instance (y : ((List D59) × (List D59) × Int × Unit)) (x : (Int × Unit)) : Decidable (f102_L4_ok y x) := by
  unfold f102_L4_ok
  try dsimp only
  infer_instance

def f102_L4_x1 (y : ((List D59) × (List D59) × Int × Unit)) (x : (Int × Unit)) : (Bool × Unit) :=
  (false, ())

def f102_L4_e1 (y : ((List D59) × (List D59) × Int × Unit)) (x : (Int × Unit)) : Bool :=
  let a0 := y.1 
  let a1 := y.2.1 
  let a12 := y.2.2.1 
  let a13 := x.1 
  let v14 := (decide (a13 < a12))
  let v18 := (nth a0 a13 Z59)
  let v22 := (nth a1 a13 Z59)
  let v24 := (!(Ty.eqb T59 v18 v22))
  let c_1 := (v14 && v24)
  c_1

def f102_L4_x2 (y : ((List D59) × (List D59) × Int × Unit)) (x : (Int × Unit)) : (Unit) :=
  ()

def f102_L4_e2 (y : ((List D59) × (List D59) × Int × Unit)) (x : (Int × Unit)) : Bool :=
  let a12 := y.2.2.1 
  let a13 := x.1 
  let v14 := (decide (a13 < a12))
  (!v14)

def f102_L4_ly : List (Nat × Sh) := [(0, (.val (.sl T59))), (1, (.val (.sl T59))), (12, (.val (.int .i64)))]
def f102_L4_lx : List (Nat × Sh) := [(13, (.val (.int .i64)))]
def f102_L4_les : List (List (Nat × Sh)) := [[(4, (.val .bool))], []]

def f102_L4_es (y : denL f102_L4_ly) (x : denL f102_L4_lx) : List Comp := [⟨1, some (f102_L4_e1 y x), mkSt [(4, (.val .bool))] ((f102_L4_x1 y x).1, ()) ++ cutSt⟩, ⟨2, some (f102_L4_e2 y x), mkSt [] () ++ cutSt⟩]

def f102_L4_spec : St → Option Out := loopS f102_L4_ly f102_L4_lx f102_L4_g f102_L4_next f102_L4_ok f102_L4_es

def f102 (p0 : (List D59)) (p1 : (List D59)) : Bool :=
  let v7 := (len p0)
  let v9 := (len p1)
  let v10 := (v7 != v9)
  let v12 := (len p0)
  let y4 := (p0, p1, v12, ())
  let x4 := ((0 : Int), ())
  let e4 := (loopEnd (f102_L4_g y4) (f102_L4_next y4) x4)
  let r4_1 := (f102_L4_x1 y4 e4)
  let q4_1 := (f102_L4_e1 y4 e4)
  let m4 := (bif q4_1 then r4_1.1 else true)
  let m4_1 := (bif v10 then false else m4)
  m4_1

def f102_ok (p0 : (List D59)) (p1 : (List D59)) : Prop :=
  let v7 := (len p0)
  let v9 := (len p1)
  let v10 := (v7 != v9)
  let v12 := (len p0)
  let y4 := (p0, p1, v12, ())
  let x4 := ((0 : Int), ())
  ((!v10) = true → (Am.Ends (f102_L4_g y4) (f102_L4_next y4) (f102_L4_ok y4) x4))

instance (p0 : (List D59)) (p1 : (List D59)) : Decidable (f102_ok p0 p1) := by
  unfold f102_ok
  try dsimp only
  infer_instance

def f102_ps : List (Nat × Sh) := [(0, (.val (.sl T59))), (1, (.val (.sl T59)))]
def f102_rs : Sh := (.val .bool)
def f102_os : List (Nat × Sh) := []

def f102_spec : Am.Spec := fnSpec f102_ps f102_rs f102_os (fun x => f102_ok x.1 x.2.1) (fun x => f102 x.1 x.2.1) (fun _ => ())

def f102_ctx : Ctx := { tys := tys, fns := [], loops := [(4, f102_L4_spec)], gh := [], wrap := false, n := 26, keep := [], wr := [] }

theorem f102_cok : CtxOk Tryz.prog f102_ctx := ctxOk_mk tys_ok trivial rfl (by kernel_rfl)

noncomputable def f102_code : Code := Tryz.f102.body.getD .skip

noncomputable def f102_L4 : Code := nthLoop f102_code 0

theorem f102_L4_sum : ∀ y x, sumLoop f102_ctx f102_L4 f102_L4_ly f102_L4_lx f102_L4_les y x = some (f102_L4_ok y x, f102_L4_g y x, y, f102_L4_next y x, f102_L4_es y x) := fun y x => by kernel_rfl

theorem f102_L4_is : LoopSnd Tryz.prog f102_ctx f102_L4 := loop_gen f102_cok mixed (bs := []) (by kernel_rfl) trivial (by kernel_rfl) (by kernel_rfl) f102_L4_sum

theorem f102_sum : ∀ x, sumFn f102_ctx f102_code Tryz.f102.results.toList f102_ps f102_rs f102_os x = some (f102_ok x.1 x.2.1, f102 x.1 x.2.1, ()) := fun x => by kernel_rfl

theorem f102_is : SpecOk Tryz.prog 102 f102_spec := func_gen f102_cok mixed Tryz.func102 (by kernel_rfl) (by decide) rfl (bs := [f102_L4]) (by kernel_rfl) ⟨f102_L4_is, trivial⟩ (by kernel_rfl) (by kernel_rfl) rfl f102_sum

-- imageeditor/node.sameContent
def f59 (p0 : D37) (p1 : D37) : Bool :=
  let v9 := (f99 p0.2.2.2.2.2.2.2.2.2.2.2.2.1 p1.2.2.2.2.2.2.2.2.2.2.2.2.1)
  let v10 := (!v9)
  let v16 := (!(Ty.eqb T30 p0.2.2.2.2.2.2.2.2.2.2.2.2.2.1 p1.2.2.2.2.2.2.2.2.2.2.2.2.2.1))
  let v17 := (bif v10 then true else v16)
  let v22 := (p0.2.2.2.2.2.2.2.2.2.2.2.2.2.2.1 != p1.2.2.2.2.2.2.2.2.2.2.2.2.2.2.1)
  let v28 := (p0.2.2.2.2.2.2.2.2.2.2.2.2.2.2.2.2.1 != p1.2.2.2.2.2.2.2.2.2.2.2.2.2.2.2.2.1)
  let v29 := (bif v22 then true else v28)
  let v34 := (f58 p0.2.2.2.2.2.2.2.2.2.2.2.2.2.2.2.1 p1.2.2.2.2.2.2.2.2.2.2.2.2.2.2.2.1)
  let v35 := (!v34)
  let v41 := (f100 p0.2.2.2.2.2.2.2.2.2.2.2.2.2.2.2.2.2.1 p1.2.2.2.2.2.2.2.2.2.2.2.2.2.2.2.2.2.1)
  let v42 := (!v41)
  let v43 := (bif v35 then true else v42)
  let v49 := (f101 p0.2.2.2.2.2.2.2.2.2.2.2.2.2.2.2.2.2.2.1 p1.2.2.2.2.2.2.2.2.2.2.2.2.2.2.2.2.2.2.1)
  let v50 := (!v49)
  let v51 := (bif v43 then true else v50)
  let v56 := (p0.2.2.2.2.2.2.2.2.2.2.2.2.2.2.2.2.2.2.2.1 != p1.2.2.2.2.2.2.2.2.2.2.2.2.2.2.2.2.2.2.2.1)
  let v62 := (p0.2.2.2.2.2.2.2.2.2.2.2.2.2.2.2.2.2.2.2.2.1 != p1.2.2.2.2.2.2.2.2.2.2.2.2.2.2.2.2.2.2.2.2.1)
  let v63 := (bif v56 then true else v62)
  let v69 := (p0.2.2.2.2.2.2.2.2.2.2.2.2.2.2.2.2.2.2.2.2.2.1 != p1.2.2.2.2.2.2.2.2.2.2.2.2.2.2.2.2.2.2.2.2.2.1)
  let v70 := (bif v63 then true else v69)
  let v76 := (p0.2.2.2.2.2.2.2.2.2.2.2.2.2.2.2.2.2.2.2.2.2.2.1 != p1.2.2.2.2.2.2.2.2.2.2.2.2.2.2.2.2.2.2.2.2.2.2.1)
  let v77 := (bif v70 then true else v76)
  let v82 := (!(p0.2.2.2.2.2.2.2.2.2.2.2.2.2.2.2.2.2.2.2.2.2.2.2.1 == p1.2.2.2.2.2.2.2.2.2.2.2.2.2.2.2.2.2.2.2.2.2.2.2.1))
  let v88 := (p0.2.2.2.2.2.2.2.2.2.2.2.2.2.2.2.2.2.2.2.2.2.2.2.2.1 != p1.2.2.2.2.2.2.2.2.2.2.2.2.2.2.2.2.2.2.2.2.2.2.2.2.1)
  let v89 := (bif v82 then true else v88)
  let v95 := (p0.2.2.2.2.2.2.2.2.2.2.2.2.2.2.2.2.2.2.2.2.2.2.2.2.2.1 != p1.2.2.2.2.2.2.2.2.2.2.2.2.2.2.2.2.2.2.2.2.2.2.2.2.2.1)
  let v96 := (bif v89 then true else v95)
  let v102 := (p0.2.2.2.2.2.2.2.2.2.2.2.2.2.2.2.2.2.2.2.2.2.2.2.2.2.2.1 != p1.2.2.2.2.2.2.2.2.2.2.2.2.2.2.2.2.2.2.2.2.2.2.2.2.2.2.1)
  let v103 := (bif v96 then true else v102)
  let v110 := (p0.2.2.2.2.2.2.2.2.2.2.2.2.2.2.2.2.2.2.2.2.2.2.2.2.2.2.2.1.1 != p1.2.2.2.2.2.2.2.2.2.2.2.2.2.2.2.2.2.2.2.2.2.2.2.2.2.2.2.1.1)
  let v118 := (p0.2.2.2.2.2.2.2.2.2.2.2.2.2.2.2.2.2.2.2.2.2.2.2.2.2.2.2.1.2.1 != p1.2.2.2.2.2.2.2.2.2.2.2.2.2.2.2.2.2.2.2.2.2.2.2.2.2.2.2.1.2.1)
  let v119 := (bif v110 then true else v118)
  let v127 := (p0.2.2.2.2.2.2.2.2.2.2.2.2.2.2.2.2.2.2.2.2.2.2.2.2.2.2.2.1.2.2.1 != p1.2.2.2.2.2.2.2.2.2.2.2.2.2.2.2.2.2.2.2.2.2.2.2.2.2.2.2.1.2.2.1)
  let v128 := (bif v119 then true else v127)
  let v135 := (f102 p0.2.2.2.2.2.2.2.2.2.2.2.2.2.2.2.2.2.2.2.2.2.2.2.2.2.2.2.1.2.2.2.1 p1.2.2.2.2.2.2.2.2.2.2.2.2.2.2.2.2.2.2.2.2.2.2.2.2.2.2.2.1.2.2.2.1)
  let m4 := (bif v128 then false else v135)
  let m4_1 := (bif v103 then false else m4)
  let m4_2 := (bif v77 then false else m4_1)
  let m4_3 := (bif v51 then false else m4_2)
  let m4_4 := (bif v29 then false else m4_3)
  let m4_5 := (bif v17 then false else m4_4)
  m4_5

def f59_ok (p0 : D37) (p1 : D37) : Prop :=
  let v9 := (f99 p0.2.2.2.2.2.2.2.2.2.2.2.2.1 p1.2.2.2.2.2.2.2.2.2.2.2.2.1)
  let v10 := (!v9)
  let v16 := (!(Ty.eqb T30 p0.2.2.2.2.2.2.2.2.2.2.2.2.2.1 p1.2.2.2.2.2.2.2.2.2.2.2.2.2.1))
  let v17 := (bif v10 then true else v16)
  let v22 := (p0.2.2.2.2.2.2.2.2.2.2.2.2.2.2.1 != p1.2.2.2.2.2.2.2.2.2.2.2.2.2.2.1)
  let v28 := (p0.2.2.2.2.2.2.2.2.2.2.2.2.2.2.2.2.1 != p1.2.2.2.2.2.2.2.2.2.2.2.2.2.2.2.2.1)
  let v29 := (bif v22 then true else v28)
  let v34 := (f58 p0.2.2.2.2.2.2.2.2.2.2.2.2.2.2.2.1 p1.2.2.2.2.2.2.2.2.2.2.2.2.2.2.2.1)
  let v35 := (!v34)
  let g36_4 := (!v35)
  let v41 := (f100 p0.2.2.2.2.2.2.2.2.2.2.2.2.2.2.2.2.2.1 p1.2.2.2.2.2.2.2.2.2.2.2.2.2.2.2.2.2.1)
  let v42 := (!v41)
  let v43 := (bif v35 then true else v42)
  let g44_4 := (!v43)
  let v49 := (f101 p0.2.2.2.2.2.2.2.2.2.2.2.2.2.2.2.2.2.2.1 p1.2.2.2.2.2.2.2.2.2.2.2.2.2.2.2.2.2.2.1)
  let v50 := (!v49)
  let v51 := (bif v43 then true else v50)
  let v56 := (p0.2.2.2.2.2.2.2.2.2.2.2.2.2.2.2.2.2.2.2.1 != p1.2.2.2.2.2.2.2.2.2.2.2.2.2.2.2.2.2.2.2.1)
  let v62 := (p0.2.2.2.2.2.2.2.2.2.2.2.2.2.2.2.2.2.2.2.2.1 != p1.2.2.2.2.2.2.2.2.2.2.2.2.2.2.2.2.2.2.2.2.1)
  let v63 := (bif v56 then true else v62)
  let v69 := (p0.2.2.2.2.2.2.2.2.2.2.2.2.2.2.2.2.2.2.2.2.2.1 != p1.2.2.2.2.2.2.2.2.2.2.2.2.2.2.2.2.2.2.2.2.2.1)
  let v70 := (bif v63 then true else v69)
  let v76 := (p0.2.2.2.2.2.2.2.2.2.2.2.2.2.2.2.2.2.2.2.2.2.2.1 != p1.2.2.2.2.2.2.2.2.2.2.2.2.2.2.2.2.2.2.2.2.2.2.1)
  let v77 := (bif v70 then true else v76)
  let v82 := (!(p0.2.2.2.2.2.2.2.2.2.2.2.2.2.2.2.2.2.2.2.2.2.2.2.1 == p1.2.2.2.2.2.2.2.2.2.2.2.2.2.2.2.2.2.2.2.2.2.2.2.1))
  let v88 := (p0.2.2.2.2.2.2.2.2.2.2.2.2.2.2.2.2.2.2.2.2.2.2.2.2.1 != p1.2.2.2.2.2.2.2.2.2.2.2.2.2.2.2.2.2.2.2.2.2.2.2.2.1)
  let v89 := (bif v82 then true else v88)
  let v95 := (p0.2.2.2.2.2.2.2.2.2.2.2.2.2.2.2.2.2.2.2.2.2.2.2.2.2.1 != p1.2.2.2.2.2.2.2.2.2.2.2.2.2.2.2.2.2.2.2.2.2.2.2.2.2.1)
  let v96 := (bif v89 then true else v95)
  let v102 := (p0.2.2.2.2.2.2.2.2.2.2.2.2.2.2.2.2.2.2.2.2.2.2.2.2.2.2.1 != p1.2.2.2.2.2.2.2.2.2.2.2.2.2.2.2.2.2.2.2.2.2.2.2.2.2.2.1)
  let v103 := (bif v96 then true else v102)
  let v110 := (p0.2.2.2.2.2.2.2.2.2.2.2.2.2.2.2.2.2.2.2.2.2.2.2.2.2.2.2.1.1 != p1.2.2.2.2.2.2.2.2.2.2.2.2.2.2.2.2.2.2.2.2.2.2.2.2.2.2.2.1.1)
  let v118 := (p0.2.2.2.2.2.2.2.2.2.2.2.2.2.2.2.2.2.2.2.2.2.2.2.2.2.2.2.1.2.1 != p1.2.2.2.2.2.2.2.2.2.2.2.2.2.2.2.2.2.2.2.2.2.2.2.2.2.2.2.1.2.1)
  let v119 := (bif v110 then true else v118)
  let v127 := (p0.2.2.2.2.2.2.2.2.2.2.2.2.2.2.2.2.2.2.2.2.2.2.2.2.2.2.2.1.2.2.1 != p1.2.2.2.2.2.2.2.2.2.2.2.2.2.2.2.2.2.2.2.2.2.2.2.2.2.2.2.1.2.2.1)
  let v128 := (bif v119 then true else v127)
  ((f99_ok p0.2.2.2.2.2.2.2.2.2.2.2.2.1 p1.2.2.2.2.2.2.2.2.2.2.2.2.1) ∧ ((!v17) = true → ((!v29) = true → ((f58_ok p0.2.2.2.2.2.2.2.2.2.2.2.2.2.2.2.1 p1.2.2.2.2.2.2.2.2.2.2.2.2.2.2.2.1) ∧ ((g36_4 = true → (f100_ok p0.2.2.2.2.2.2.2.2.2.2.2.2.2.2.2.2.2.1 p1.2.2.2.2.2.2.2.2.2.2.2.2.2.2.2.2.2.1)) ∧ ((g44_4 = true → (f101_ok p0.2.2.2.2.2.2.2.2.2.2.2.2.2.2.2.2.2.2.1 p1.2.2.2.2.2.2.2.2.2.2.2.2.2.2.2.2.2.2.1)) ∧ ((!v51) = true → ((!v77) = true → ((!v103) = true → ((!v128) = true → (f102_ok p0.2.2.2.2.2.2.2.2.2.2.2.2.2.2.2.2.2.2.2.2.2.2.2.2.2.2.2.1.2.2.2.1 p1.2.2.2.2.2.2.2.2.2.2.2.2.2.2.2.2.2.2.2.2.2.2.2.2.2.2.2.1.2.2.2.1)))))))))))

instance (p0 : D37) (p1 : D37) : Decidable (f59_ok p0 p1) := by
  unfold f59_ok
  try dsimp only
  infer_instance

def f59_ps : List (Nat × Sh) := [(0, (.val T37)), (1, (.val T37))]
def f59_rs : Sh := (.val .bool)
def f59_os : List (Nat × Sh) := []

def f59_spec : Am.Spec := fnSpec f59_ps f59_rs f59_os (fun x => f59_ok x.1 x.2.1) (fun x => f59 x.1 x.2.1) (fun _ => ())

def f59_ctx : Ctx := { tys := tys, fns := [(58, f58_spec), (99, f99_spec), (100, f100_spec), (101, f101_spec), (102, f102_spec)], loops := [], gh := [], wrap := false, n := 136, keep := [], wr := [] }

theorem f59_cok : CtxOk Tryz.prog f59_ctx := ctxOk_mk tys_ok ⟨f58_is, f99_is, f100_is, f101_is, f102_is, trivial⟩ rfl (by kernel_rfl)

noncomputable def f59_code : Code := Tryz.f59.body.getD .skip

theorem f59_sum : ∀ x, sumFn f59_ctx f59_code Tryz.f59.results.toList f59_ps f59_rs f59_os x = some (f59_ok x.1 x.2.1, f59 x.1 x.2.1, ()) := fun x => by kernel_rfl

theorem f59_is : SpecOk Tryz.prog 59 f59_spec := func_gen f59_cok mixed Tryz.func59 (by kernel_rfl) (by decide) rfl (bs := []) (by kernel_rfl) trivial (by kernel_rfl) (by kernel_rfl) rfl f59_sum

-- imageeditor/node.Same
def f24 (p0 : D37) (p1 : D37) : Bool :=
  let v9 := (p0.1 != p1.1)
  let v15 := (p0.2.1 != p1.2.1)
  let v16 := (bif v9 then true else v15)
  let v22 := (p0.2.2.1 != p1.2.2.1)
  let v23 := (bif v16 then true else v22)
  let v29 := (!(p0.2.2.2.1 == p1.2.2.2.1))
  let v30 := (bif v23 then true else v29)
  let v35 := (!(Ty.eqb .bool p0.2.2.2.2.1 p1.2.2.2.2.1))
  let v41 := (!(Ty.eqb .bool p0.2.2.2.2.2.1 p1.2.2.2.2.2.1))
  let v42 := (bif v35 then true else v41)
  let v48 := (!(Ty.eqb .bool p0.2.2.2.2.2.2.1 p1.2.2.2.2.2.2.1))
  let v49 := (bif v42 then true else v48)
  let v54 := (p0.2.2.2.2.2.2.2.1 != p1.2.2.2.2.2.2.2.1)
  let v60 := (p0.2.2.2.2.2.2.2.2.1 != p1.2.2.2.2.2.2.2.2.1)
  let v61 := (bif v54 then true else v60)
  let v67 := (!(Ty.eqb T25 p0.2.2.2.2.2.2.2.2.2.2.1 p1.2.2.2.2.2.2.2.2.2.2.1))
  let v68 := (bif v61 then true else v67)
  let v74 := (p0.2.2.2.2.2.2.2.2.2.2.2.1 != p1.2.2.2.2.2.2.2.2.2.2.2.1)
  let v75 := (bif v68 then true else v74)
  let v82 := (p0.2.2.2.2.2.2.2.2.2.1.1 != p1.2.2.2.2.2.2.2.2.2.1.1)
  let v90 := (p0.2.2.2.2.2.2.2.2.2.1.2.1 != p1.2.2.2.2.2.2.2.2.2.1.2.1)
  let v91 := (bif v82 then true else v90)
  let v99 := (f58 p0.2.2.2.2.2.2.2.2.2.1.2.2.1 p1.2.2.2.2.2.2.2.2.2.1.2.2.1)
  let v100 := (!v99)
  let v101 := (bif v91 then true else v100)
  let v104 := (f59 p0 p1)
  let m4 := (bif v101 then false else v104)
  let m4_1 := (bif v75 then false else m4)
  let m4_2 := (bif v49 then false else m4_1)
  let m4_3 := (bif v30 then false else m4_2)
  m4_3

def f24_ok (p0 : D37) (p1 : D37) : Prop :=
  let v9 := (p0.1 != p1.1)
  let v15 := (p0.2.1 != p1.2.1)
  let v16 := (bif v9 then true else v15)
  let v22 := (p0.2.2.1 != p1.2.2.1)
  let v23 := (bif v16 then true else v22)
  let v29 := (!(p0.2.2.2.1 == p1.2.2.2.1))
  let v30 := (bif v23 then true else v29)
  let v35 := (!(Ty.eqb .bool p0.2.2.2.2.1 p1.2.2.2.2.1))
  let v41 := (!(Ty.eqb .bool p0.2.2.2.2.2.1 p1.2.2.2.2.2.1))
  let v42 := (bif v35 then true else v41)
  let v48 := (!(Ty.eqb .bool p0.2.2.2.2.2.2.1 p1.2.2.2.2.2.2.1))
  let v49 := (bif v42 then true else v48)
  let v54 := (p0.2.2.2.2.2.2.2.1 != p1.2.2.2.2.2.2.2.1)
  let v60 := (p0.2.2.2.2.2.2.2.2.1 != p1.2.2.2.2.2.2.2.2.1)
  let v61 := (bif v54 then true else v60)
  let v67 := (!(Ty.eqb T25 p0.2.2.2.2.2.2.2.2.2.2.1 p1.2.2.2.2.2.2.2.2.2.2.1))
  let v68 := (bif v61 then true else v67)
  let v74 := (p0.2.2.2.2.2.2.2.2.2.2.2.1 != p1.2.2.2.2.2.2.2.2.2.2.2.1)
  let v75 := (bif v68 then true else v74)
  let v82 := (p0.2.2.2.2.2.2.2.2.2.1.1 != p1.2.2.2.2.2.2.2.2.2.1.1)
  let v90 := (p0.2.2.2.2.2.2.2.2.2.1.2.1 != p1.2.2.2.2.2.2.2.2.2.1.2.1)
  let v91 := (bif v82 then true else v90)
  let g92_6 := (!v91)
  let v99 := (f58 p0.2.2.2.2.2.2.2.2.2.1.2.2.1 p1.2.2.2.2.2.2.2.2.2.1.2.2.1)
  let v100 := (!v99)
  let v101 := (bif v91 then true else v100)
  ((!v30) = true → ((!v49) = true → ((!v75) = true → ((g92_6 = true → (f58_ok p0.2.2.2.2.2.2.2.2.2.1.2.2.1 p1.2.2.2.2.2.2.2.2.2.1.2.2.1)) ∧ ((!v101) = true → (f59_ok p0 p1))))))

instance (p0 : D37) (p1 : D37) : Decidable (f24_ok p0 p1) := by
  unfold f24_ok
  try dsimp only
  infer_instance

def f24_ps : List (Nat × Sh) := [(0, (.val T37)), (1, (.val T37))]
def f24_rs : Sh := (.val .bool)
def f24_os : List (Nat × Sh) := []

def f24_spec : Am.Spec := fnSpec f24_ps f24_rs f24_os (fun x => f24_ok x.1 x.2.1) (fun x => f24 x.1 x.2.1) (fun _ => ())

def f24_ctx : Ctx := { tys := tys, fns := [(58, f58_spec), (59, f59_spec)], loops := [], gh := [], wrap := false, n := 105, keep := [], wr := [] }

theorem f24_cok : CtxOk Tryz.prog f24_ctx := ctxOk_mk tys_ok ⟨f58_is, f59_is, trivial⟩ rfl (by kernel_rfl)

noncomputable def f24_code : Code := Tryz.f24.body.getD .skip

theorem f24_sum : ∀ x, sumFn f24_ctx f24_code Tryz.f24.results.toList f24_ps f24_rs f24_os x = some (f24_ok x.1 x.2.1, f24 x.1 x.2.1, ()) := fun x => by kernel_rfl

theorem f24_is : SpecOk Tryz.prog 24 f24_spec := func_gen f24_cok mixed Tryz.func24 (by kernel_rfl) (by decide) rfl (bs := []) (by kernel_rfl) trivial (by kernel_rfl) (by kernel_rfl) rfl f24_sum

-- imageeditor/imageeditorlaw31.NodeSames
def f8 (p0 : D50) : Bool :=
  let v7 := (f24 p0.1 p0.2.1)
  let v12 := (f12 p0.1 p0.2.1)
  let v13 := (Ty.eqb .bool v7 v12)
  let v16 := (bif v13 then f16 else false)
  v16

def f8_ok (p0 : D50) : Prop :=
  let v7 := (f24 p0.1 p0.2.1)
  let v12 := (f12 p0.1 p0.2.1)
  let v13 := (Ty.eqb .bool v7 v12)
  ((f24_ok p0.1 p0.2.1) ∧ ((f12_ok p0.1 p0.2.1) ∧ (v13 = true → f16_ok)))

instance (p0 : D50) : Decidable (f8_ok p0) := by
  unfold f8_ok
  try dsimp only
  infer_instance

def f8_ps : List (Nat × Sh) := [(0, (.val T50))]
def f8_rs : Sh := (.val .bool)
def f8_os : List (Nat × Sh) := []

def f8_spec : Am.Spec := fnSpec f8_ps f8_rs f8_os (fun x => f8_ok x.1) (fun x => f8 x.1) (fun _ => ())

def f8_ctx : Ctx := { tys := tys, fns := [(12, f12_spec), (16, f16_spec), (24, f24_spec)], loops := [], gh := [], wrap := false, n := 17, keep := [], wr := [] }

theorem f8_cok : CtxOk Tryz.prog f8_ctx := ctxOk_mk tys_ok ⟨f12_is, f16_is, f24_is, trivial⟩ rfl (by kernel_rfl)

noncomputable def f8_code : Code := Tryz.f8.body.getD .skip

theorem f8_sum : ∀ x, sumFn f8_ctx f8_code Tryz.f8.results.toList f8_ps f8_rs f8_os x = some (f8_ok x.1, f8 x.1, ()) := fun x => by kernel_rfl

theorem f8_is : SpecOk Tryz.prog 8 f8_spec := func_gen f8_cok mixed Tryz.func8 (by kernel_rfl) (by decide) rfl (bs := []) (by kernel_rfl) trivial (by kernel_rfl) (by kernel_rfl) rfl f8_sum


end Go.Proofs.YtleannhgpeiooaaGreatDoor.Am
