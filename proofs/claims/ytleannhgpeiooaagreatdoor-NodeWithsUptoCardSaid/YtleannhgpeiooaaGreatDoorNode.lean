/- Printed by program: the functions that the statements reach, as plain functions, and their contracts. No condition. -/
import Derived.Test.YtleannhgpeiooaaGreatDoorMach4
import Derived.Test.YtleannhgpeiooaaGreatDoorProg
set_option linter.unusedVariables false
set_option synthInstance.maxSize 4000
set_option synthInstance.maxHeartbeats 400000
namespace Go.Proofs.YtleannhgpeiooaaGreatDoor.Am
open Go Go.Am
abbrev T23 : Ty := .st (.cons (.int .i64) (.cons (.int .i64) (.cons (.sl (.int .i64)) .nl)))
abbrev D23 : Type := Int × Int × (List Int) × Unit
abbrev Z23 : D23 := ((0 : Int), (0 : Int), ([] : List Int), ())

abbrev T25 : Ty := .st (.cons (.int .i64) (.cons (.int .i64) (.cons (.int .i64) (.cons (.int .i64) (.cons (.int .i64) (.cons (.int .i64) .nl))))))
abbrev D25 : Type := Int × Int × Int × Int × Int × Int × Unit
abbrev Z25 : D25 := ((0 : Int), (0 : Int), (0 : Int), (0 : Int), (0 : Int), (0 : Int), ())

abbrev T30 : Ty := .st (.cons (.int .i64) (.cons (.int .i64) (.cons (.int .i64) (.cons (.int .i64) .nl))))
abbrev D30 : Type := Int × Int × Int × Int × Unit
abbrev Z30 : D30 := ((0 : Int), (0 : Int), (0 : Int), (0 : Int), ())

abbrev T28 : Ty := .st (.cons (.int .i64) (.cons (.int .i64) (.cons (.sl T30) .nl)))
abbrev D28 : Type := Int × Int × (List D30) × Unit
abbrev Z28 : D28 := ((0 : Int), (0 : Int), ([] : List D30), ())

abbrev T57 : Ty := .st (.cons (.int .i64) (.cons T30 .nl))
abbrev D57 : Type := Int × D30 × Unit
abbrev Z57 : D57 := ((0 : Int), Z30, ())

abbrev T59 : Ty := .st (.cons (.int .i64) (.cons (.int .i64) .nl))
abbrev D59 : Type := Int × Int × Unit
abbrev Z59 : D59 := ((0 : Int), (0 : Int), ())

abbrev T62 : Ty := .st (.cons (.int .i64) (.cons (.arr 3 T59) .nl))
abbrev D62 : Type := Int × (List D59) × Unit
abbrev Z62 : D62 := ((0 : Int), (List.replicate 3 Z59), ())

abbrev T35 : Ty := .st (.cons (.int .i64) (.cons (.int .i64) (.cons (.int .i64) (.cons (.sl T59) .nl))))
abbrev D35 : Type := Int × Int × Int × (List D59) × Unit
abbrev Z35 : D35 := ((0 : Int), (0 : Int), (0 : Int), ([] : List D59), ())

abbrev T37 : Ty := .st (.cons (.int .i64) (.cons (.int .i64) (.cons (.int .i64) (.cons .str (.cons .bool (.cons .bool (.cons .bool (.cons (.int .i64) (.cons (.int .i64) (.cons T23 (.cons T25 (.cons (.int .i64) (.cons T28 (.cons T30 (.cons (.int .i64) (.cons (.sl (.int .i64)) (.cons (.int .i64) (.cons (.sl T57) (.cons (.sl T62) (.cons (.int .i64) (.cons (.int .i64) (.cons (.int .i64) (.cons (.int .i64) (.cons .str (.cons (.int .i64) (.cons (.int .i64) (.cons (.int .i64) (.cons T35 .nl))))))))))))))))))))))))))))
abbrev D37 : Type := Int × Int × Int × (List UInt8) × Bool × Bool × Bool × Int × Int × D23 × D25 × Int × D28 × D30 × Int × (List Int) × Int × (List D57) × (List D62) × Int × Int × Int × Int × (List UInt8) × Int × Int × Int × D35 × Unit
abbrev Z37 : D37 := ((0 : Int), (0 : Int), (0 : Int), ([] : List UInt8), false, false, false, (0 : Int), (0 : Int), Z23, Z25, (0 : Int), Z28, Z30, (0 : Int), ([] : List Int), (0 : Int), ([] : List D57), ([] : List D62), (0 : Int), (0 : Int), (0 : Int), (0 : Int), ([] : List UInt8), (0 : Int), (0 : Int), (0 : Int), Z35, ())

abbrev T50 : Ty := .st (.cons T37 (.cons T37 .nl))
abbrev D50 : Type := D37 × D37 × Unit
abbrev Z50 : D50 := (Z37, Z37, ())

abbrev T151 : Ty := .st (.cons (.int .u8) (.cons (.int .i64) (.cons (.sl T62) .nl)))
abbrev D151 : Type := Int × Int × (List D62) × Unit
abbrev Z151 : D151 := ((0 : Int), (0 : Int), ([] : List D62), ())

abbrev T156 : Ty := .st (.cons (.int .u8) (.cons (.int .u8) (.cons (.int .i64) .nl)))
abbrev D156 : Type := Int × Int × Int × Unit
abbrev Z156 : D156 := ((0 : Int), (0 : Int), (0 : Int), ())

abbrev T115 : Ty := .st (.cons (.int .i64) (.cons (.int .i64) (.cons (.int .i64) (.cons (.sl T151) (.cons (.sl T156) .nl)))))
abbrev D115 : Type := Int × Int × Int × (List D151) × (List D156) × Unit
abbrev Z115 : D115 := ((0 : Int), (0 : Int), (0 : Int), ([] : List D151), ([] : List D156), ())

abbrev T139 : Ty := .st (.cons (.int .i64) (.cons (.int .i64) (.cons (.int .i64) (.cons (.sl (.sl T59)) (.cons (.int .i64) .nl)))))
abbrev D139 : Type := Int × Int × Int × (List (List D59)) × Int × Unit
abbrev Z139 : D139 := ((0 : Int), (0 : Int), (0 : Int), ([] : List (List D59)), (0 : Int), ())

abbrev T177 : Ty := .st (.cons T115 (.cons (.arr 256 (.int .i64)) .nl))
abbrev D177 : Type := D115 × (List Int) × Unit
abbrev Z177 : D177 := (Z115, (List.replicate 256 (0 : Int)), ())

abbrev T170 : Ty := .st (.cons T59 (.cons T59 (.cons T59 (.cons T59 (.cons T59 .nl)))))
abbrev D170 : Type := D59 × D59 × D59 × D59 × D59 × Unit
abbrev Z170 : D170 := (Z59, Z59, Z59, Z59, Z59, ())

abbrev T229 : Ty := .st (.cons (.int .u16) (.cons (.int .u16) (.cons (.int .u16) .nl)))
abbrev D229 : Type := Int × Int × Int × Unit
abbrev Z229 : D229 := ((0 : Int), (0 : Int), (0 : Int), ())

abbrev T232 : Ty := .st (.cons (.int .u32) (.cons (.int .u32) (.cons (.int .u32) .nl)))
abbrev D232 : Type := Int × Int × Int × Unit
abbrev Z232 : D232 := ((0 : Int), (0 : Int), (0 : Int), ())

abbrev T226 : Ty := .st (.cons (.sl T229) (.cons (.sl T232) (.cons (.int .i64) .nl)))
abbrev D226 : Type := (List D229) × (List D232) × Int × Unit
abbrev Z226 : D226 := (([] : List D229), ([] : List D232), (0 : Int), ())

abbrev T7 : Ty := .st (.cons (.int .i64) (.cons (.int .i64) (.cons .bool (.cons (.int .u8) .nl))))
abbrev D7 : Type := Int × Int × Bool × Int × Unit
abbrev Z7 : D7 := ((0 : Int), (0 : Int), false, (0 : Int), ())

abbrev T13 : Ty := .st (.cons .str (.cons (.int .u64) .nl))
abbrev D13 : Type := (List UInt8) × Int × Unit
abbrev Z13 : D13 := (([] : List UInt8), (0 : Int), ())

abbrev T239 : Ty := .st (.cons (.int .u8) (.cons (.int .u8) .nl))
abbrev D239 : Type := Int × Int × Unit
abbrev Z239 : D239 := ((0 : Int), (0 : Int), ())

instance : GlobTab := ⟨⟨[]⟩⟩
theorem glob_of (W : World) {L : Prop} (_ : L) : GlobOk (fun b _ => if b < W.heap.size then 0 else 2) W := fun _ _ _ h => (List.not_mem_nil h).elim

def tys : List (Nat × Ty) := [(3, (.int .i64)), (4, .bool), (5, (.int .u8)), (9, .str), (22, (.sl (.int .i64))), (24, T23), (26, T25), (27, (.sl T30)), (29, T28), (31, T30), (32, (.sl T57)), (33, (.sl T62)), (34, (.sl T59)), (36, T35), (38, T37), (39, (.int .i64)), (51, T50), (58, T57), (60, T59), (61, (.arr 3 T59)), (63, T62), (104, (.sl (.sl T59))), (107, (.sl .bool)), (116, T115), (120, (.sl T59)), (123, T59)]
theorem tys_ok : tysOk Tryz.prog tys = true := by kernel_rfl
theorem mixed : Tryz.prog.follows .mixedOrders = true := by kernel_rfl

-- imageeditor/node.Name
def f13 (p0 : Int) : (List UInt8) :=
  let v5 := (p0 == (1 : Int))
  let v2 := ([103, 114, 111, 117, 112] : List UInt8)
  let v7 := (p0 == (2 : Int))
  let v2_1 := ([105, 109, 97, 103, 101] : List UInt8)
  let v9 := (p0 == (3 : Int))
  let v2_2 := ([102, 105, 108, 108] : List UInt8)
  let v11 := (p0 == (4 : Int))
  let v2_3 := ([103, 114, 97, 100, 105, 101, 110, 116] : List UInt8)
  let v13 := (p0 == (5 : Int))
  let v2_4 := ([112, 97, 116, 104] : List UInt8)
  let v15 := (p0 == (6 : Int))
  let v2_5 := ([116, 101, 120, 116] : List UInt8)
  let v17 := (p0 == (7 : Int))
  let v2_6 := ([97, 100, 106, 117, 115, 116] : List UInt8)
  let v19 := (p0 == (8 : Int))
  let v2_7 := ([102, 105, 108, 116, 101, 114] : List UInt8)
  let v21 := (p0 == (9 : Int))
  let v2_8 := ([108, 105, 110, 107] : List UInt8)
  let v23 := (p0 == (10 : Int))
  let v2_9 := ([99, 108, 111, 110, 101] : List UInt8)
  let v25 := (p0 == (11 : Int))
  let v2_10 := ([119, 97, 114, 112] : List UInt8)
  let c := (bif v23 then true else v25)
  let m2 := (bif v23 then v2_9 else v2_10)
  let c_2 := (bif v21 then true else c)
  let m2_1 := (bif v21 then v2_8 else m2)
  let c_4 := (bif v19 then true else c_2)
  let m2_2 := (bif v19 then v2_7 else m2_1)
  let c_6 := (bif v17 then true else c_4)
  let m2_3 := (bif v17 then v2_6 else m2_2)
  let c_8 := (bif v15 then true else c_6)
  let m2_4 := (bif v15 then v2_5 else m2_3)
  let c_10 := (bif v13 then true else c_8)
  let m2_5 := (bif v13 then v2_4 else m2_4)
  let c_12 := (bif v11 then true else c_10)
  let m2_6 := (bif v11 then v2_3 else m2_5)
  let c_14 := (bif v9 then true else c_12)
  let m2_7 := (bif v9 then v2_2 else m2_6)
  let c_16 := (bif v7 then true else c_14)
  let m2_8 := (bif v7 then v2_1 else m2_7)
  let c_18 := (bif v5 then true else c_16)
  let m2_9 := (bif v5 then v2 else m2_8)
  let m2_10 := (bif c_18 then m2_9 else ([] : List UInt8))
  m2_10

def f13_ok (p0 : Int) : Prop :=
  True

instance (p0 : Int) : Decidable (f13_ok p0) := by
  unfold f13_ok
  try dsimp only
  infer_instance

def f13_ps : List (Nat × Sh) := [(0, (.val (.int .i64)))]
def f13_rs : Sh := (.val .str)
def f13_os : List (Nat × Sh) := []

def f13_spec : Am.Spec := fnSpec f13_ps f13_rs f13_os (fun x => f13_ok x.1) (fun x => f13 x.1) (fun _ => ())

def f13_ctx : Ctx := { tys := tys, fns := [], loops := [], gh := [], wrap := false, n := 26, keep := [], wr := [] }

theorem f13_cok : CtxOk Tryz.prog f13_ctx := ctxOk_mk tys_ok trivial rfl (by kernel_rfl)

noncomputable def f13_code : Code := Tryz.f13.body.getD .skip

theorem f13_sum : ∀ x, sumFn f13_ctx f13_code Tryz.f13.results.toList f13_ps f13_rs f13_os x = some (f13_ok x.1, f13 x.1, ()) := fun x => by kernel_rfl

theorem f13_is : SpecOk Tryz.prog 13 f13_spec := func_gen f13_cok mixed Tryz.func13 (by kernel_rfl) (by decide) rfl (bs := []) (by kernel_rfl) trivial (by kernel_rfl) (by kernel_rfl) rfl f13_sum

-- imageeditor/node.placed
def f25 (p0 : Int) : Bool :=
  let v5 := (p0 == (2 : Int))
  let v6 := (p0 == (5 : Int))
  let v7 := (p0 == (6 : Int))
  let v8 := (p0 == (9 : Int))
  let v9 := (p0 == (10 : Int))
  let m4 := (bif v8 then v8 else v9)
  let m4_1 := (bif v7 then v7 else m4)
  let m4_2 := (bif v6 then v6 else m4_1)
  let m4_3 := (bif v5 then v5 else m4_2)
  let m2 := (bif m4_3 then true else false)
  m2

def f25_ok (p0 : Int) : Prop :=
  True

instance (p0 : Int) : Decidable (f25_ok p0) := by
  unfold f25_ok
  try dsimp only
  infer_instance

def f25_ps : List (Nat × Sh) := [(0, (.val (.int .i64)))]
def f25_rs : Sh := (.val .bool)
def f25_os : List (Nat × Sh) := []

def f25_spec : Am.Spec := fnSpec f25_ps f25_rs f25_os (fun x => f25_ok x.1) (fun x => f25 x.1) (fun _ => ())

def f25_ctx : Ctx := { tys := tys, fns := [], loops := [], gh := [], wrap := false, n := 10, keep := [], wr := [] }

theorem f25_cok : CtxOk Tryz.prog f25_ctx := ctxOk_mk tys_ok trivial rfl (by kernel_rfl)

noncomputable def f25_code : Code := Tryz.f25.body.getD .skip

theorem f25_sum : ∀ x, sumFn f25_ctx f25_code Tryz.f25.results.toList f25_ps f25_rs f25_os x = some (f25_ok x.1, f25 x.1, ()) := fun x => by kernel_rfl

theorem f25_is : SpecOk Tryz.prog 25 f25_spec := func_gen f25_cok mixed Tryz.func25 (by kernel_rfl) (by decide) rfl (bs := []) (by kernel_rfl) trivial (by kernel_rfl) (by kernel_rfl) rfl f25_sum

-- imageeditor/affine.Same
def f26  : D25 :=
  let s := ((65536 : Int), (0 : Int), (0 : Int), (65536 : Int), (0 : Int), (0 : Int), ())
  s

def f26_ok  : Prop :=
  True

instance  : Decidable (f26_ok ) := by
  unfold f26_ok
  try dsimp only
  infer_instance

def f26_ps : List (Nat × Sh) := []
def f26_rs : Sh := (.val T25)
def f26_os : List (Nat × Sh) := []

def f26_spec : Am.Spec := fnSpec f26_ps f26_rs f26_os (fun x => f26_ok ) (fun x => f26 ) (fun _ => ())

def f26_ctx : Ctx := { tys := tys, fns := [], loops := [], gh := [], wrap := false, n := 2, keep := [], wr := [] }

theorem f26_cok : CtxOk Tryz.prog f26_ctx := ctxOk_mk tys_ok trivial rfl (by kernel_rfl)

noncomputable def f26_code : Code := Tryz.f26.body.getD .skip

theorem f26_sum : ∀ x, sumFn f26_ctx f26_code Tryz.f26.results.toList f26_ps f26_rs f26_os x = some (f26_ok , f26 , ()) := fun x => by kernel_rfl

theorem f26_is : SpecOk Tryz.prog 26 f26_spec := func_gen f26_cok mixed Tryz.func26 (by kernel_rfl) (by decide) rfl (bs := []) (by kernel_rfl) trivial (by kernel_rfl) (by kernel_rfl) rfl f26_sum

-- imageeditor/node.resampled
def f27 (p0 : Int) : Bool :=
  let v5 := (p0 == (2 : Int))
  let v6 := (p0 == (9 : Int))
  let v7 := (p0 == (10 : Int))
  let v8 := (p0 == (11 : Int))
  let m4 := (bif v7 then v7 else v8)
  let m4_1 := (bif v6 then v6 else m4)
  let m4_2 := (bif v5 then v5 else m4_1)
  let m2 := (bif m4_2 then true else false)
  m2

def f27_ok (p0 : Int) : Prop :=
  True

instance (p0 : Int) : Decidable (f27_ok p0) := by
  unfold f27_ok
  try dsimp only
  infer_instance

def f27_ps : List (Nat × Sh) := [(0, (.val (.int .i64)))]
def f27_rs : Sh := (.val .bool)
def f27_os : List (Nat × Sh) := []

def f27_spec : Am.Spec := fnSpec f27_ps f27_rs f27_os (fun x => f27_ok x.1) (fun x => f27 x.1) (fun _ => ())

def f27_ctx : Ctx := { tys := tys, fns := [], loops := [], gh := [], wrap := false, n := 9, keep := [], wr := [] }

theorem f27_cok : CtxOk Tryz.prog f27_ctx := ctxOk_mk tys_ok trivial rfl (by kernel_rfl)

noncomputable def f27_code : Code := Tryz.f27.body.getD .skip

theorem f27_sum : ∀ x, sumFn f27_ctx f27_code Tryz.f27.results.toList f27_ps f27_rs f27_os x = some (f27_ok x.1, f27 x.1, ()) := fun x => by kernel_rfl

theorem f27_is : SpecOk Tryz.prog 27 f27_spec := func_gen f27_cok mixed Tryz.func27 (by kernel_rfl) (by decide) rfl (bs := []) (by kernel_rfl) trivial (by kernel_rfl) (by kernel_rfl) rfl f27_sum

-- imageeditor/node.New
def f10 (p0 : Int) : (D37 × Int × Unit) :=
  let v9 := (f13 p0)
  let v11 := (v9 == ([] : List UInt8))
  let s := ((0 : Int), (0 : Int), (0 : Int), (65535 : Int), ())
  let v18 := (f25 p0)
  let m6 := (bif v18 then (0 : Int) else (0 : Int))
  let m6_1 := (bif v18 then p0 else p0)
  let m6_2 := (bif v18 then (0 : Int) else (0 : Int))
  let m6_3 := (bif v18 then v9 else v9)
  let m6_4 := (bif v18 then false else false)
  let m6_5 := (bif v18 then false else false)
  let m6_6 := (bif v18 then false else false)
  let m6_7 := (bif v18 then (65535 : Int) else (65535 : Int))
  let m6_8 := (bif v18 then (0 : Int) else (0 : Int))
  let m6_9 := (bif v18 then (0 : Int) else (0 : Int))
  let m6_10 := (bif v18 then (0 : Int) else (0 : Int))
  let m6_11 := (bif v18 then f26 else Z25)
  let m6_12 := (bif v18 then (0 : Int) else (0 : Int))
  let m6_13 := (bif v18 then (0 : Int) else (0 : Int))
  let m6_14 := (bif v18 then (0 : Int) else (0 : Int))
  let m6_15 := (bif v18 then Z30 else Z30)
  let m6_16 := (bif v18 then (0 : Int) else (0 : Int))
  let m6_17 := (bif v18 then (0 : Int) else (0 : Int))
  let m6_18 := (bif v18 then (0 : Int) else (0 : Int))
  let m6_19 := (bif v18 then (0 : Int) else (0 : Int))
  let m6_20 := (bif v18 then (0 : Int) else (0 : Int))
  let m6_21 := (bif v18 then (0 : Int) else (0 : Int))
  let m6_22 := (bif v18 then ([] : List UInt8) else ([] : List UInt8))
  let m6_23 := (bif v18 then (0 : Int) else (0 : Int))
  let m6_24 := (bif v18 then (0 : Int) else (0 : Int))
  let m6_25 := (bif v18 then (0 : Int) else (0 : Int))
  let m6_26 := (bif v18 then (0 : Int) else (0 : Int))
  let m6_27 := (bif v18 then (0 : Int) else (0 : Int))
  let m6_28 := (bif v18 then (0 : Int) else (0 : Int))
  let v22 := (f27 p0)
  let m6_29 := (bif v22 then m6 else m6)
  let m6_30 := (bif v22 then m6_1 else m6_1)
  let m6_31 := (bif v22 then m6_2 else m6_2)
  let m6_32 := (bif v22 then m6_3 else m6_3)
  let m6_33 := (bif v22 then m6_4 else m6_4)
  let m6_34 := (bif v22 then m6_5 else m6_5)
  let m6_35 := (bif v22 then m6_6 else m6_6)
  let m6_36 := (bif v22 then m6_7 else m6_7)
  let m6_37 := (bif v22 then m6_8 else m6_8)
  let m6_38 := (bif v22 then m6_9 else m6_9)
  let m6_39 := (bif v22 then m6_10 else m6_10)
  let m6_40 := (bif v22 then m6_11 else m6_11)
  let m6_41 := (bif v22 then (1 : Int) else m6_12)
  let m6_42 := (bif v22 then m6_13 else m6_13)
  let m6_43 := (bif v22 then m6_14 else m6_14)
  let m6_44 := (bif v22 then m6_15 else m6_15)
  let m6_45 := (bif v22 then m6_16 else m6_16)
  let m6_46 := (bif v22 then m6_17 else m6_17)
  let m6_47 := (bif v22 then m6_18 else m6_18)
  let m6_48 := (bif v22 then m6_19 else m6_19)
  let m6_49 := (bif v22 then m6_20 else m6_20)
  let m6_50 := (bif v22 then m6_21 else m6_21)
  let m6_51 := (bif v22 then m6_22 else m6_22)
  let m6_52 := (bif v22 then m6_23 else m6_23)
  let m6_53 := (bif v22 then m6_24 else m6_24)
  let m6_54 := (bif v22 then m6_25 else m6_25)
  let m6_55 := (bif v22 then m6_26 else m6_26)
  let m6_56 := (bif v22 then m6_27 else m6_27)
  let m6_57 := (bif v22 then m6_28 else m6_28)
  let v26 := (p0 == (3 : Int))
  let v30 := (p0 == (4 : Int))
  let s_1 := ((65535 : Int), (65535 : Int), (65535 : Int), (65535 : Int), ())
  let v33 := ([(0 : Int), (0 : Int), (256 : Int), (0 : Int)] : List Int)
  let s_2 := ((0 : Int), s, ())
  let s_3 := ((65535 : Int), s_1, ())
  let v39 := ([s_2, s_3] : List D57)
  let v42 := (p0 == (5 : Int))
  let s_4 := ((1 : Int), (List.replicate 3 Z59), ())
  let s_5 := ((256 : Int), (0 : Int), ())
  let v47 := ([s_5, Z59, Z59] : List D59)
  let s_6 := ((2 : Int), v47, ())
  let s_7 := ((256 : Int), (256 : Int), ())
  let v50 := ([s_7, Z59, Z59] : List D59)
  let s_8 := ((2 : Int), v50, ())
  let s_9 := ((5 : Int), (List.replicate 3 Z59), ())
  let v53 := ([s_4, s_6, s_8, s_9] : List D62)
  let v56 := (p0 == (6 : Int))
  let v62 := (p0 == (7 : Int))
  let v65 := (p0 == (8 : Int))
  let v67 := ([(1 : Int)] : List Int)
  let v70 := (p0 == (9 : Int))
  let v71 := (p0 == (10 : Int))
  let m69 := (bif v70 then v70 else v71)
  let v74 := (p0 == (11 : Int))
  let v75 := (List.replicate (Int.toNat (4 : Int)) Z59)
  let m6_58 := (bif v74 then m6_29 else m6_29)
  let m6_59 := (bif v74 then m6_30 else m6_30)
  let m6_60 := (bif v74 then m6_31 else m6_31)
  let m6_61 := (bif v74 then m6_32 else m6_32)
  let m6_62 := (bif v74 then m6_33 else m6_33)
  let m6_63 := (bif v74 then m6_34 else m6_34)
  let m6_64 := (bif v74 then m6_35 else m6_35)
  let m6_65 := (bif v74 then m6_36 else m6_36)
  let m6_66 := (bif v74 then m6_37 else m6_37)
  let m6_67 := (bif v74 then m6_38 else m6_38)
  let m6_68 := (bif v74 then m6_39 else m6_39)
  let m6_69 := (bif v74 then m6_40 else m6_40)
  let m6_70 := (bif v74 then m6_41 else m6_41)
  let m6_71 := (bif v74 then m6_42 else m6_42)
  let m6_72 := (bif v74 then m6_43 else m6_43)
  let m6_73 := (bif v74 then m6_44 else m6_44)
  let m6_74 := (bif v74 then m6_45 else m6_45)
  let m6_75 := (bif v74 then m6_46 else m6_46)
  let m6_76 := (bif v74 then m6_47 else m6_47)
  let m6_77 := (bif v74 then m6_48 else m6_48)
  let m6_78 := (bif v74 then m6_49 else m6_49)
  let m6_79 := (bif v74 then m6_50 else m6_50)
  let m6_80 := (bif v74 then m6_51 else m6_51)
  let m6_81 := (bif v74 then m6_52 else m6_52)
  let m6_82 := (bif v74 then m6_53 else m6_53)
  let m6_83 := (bif v74 then m6_54 else m6_54)
  let m6_84 := (bif v74 then (2 : Int) else m6_55)
  let m6_85 := (bif v74 then (2 : Int) else m6_56)
  let m6_86 := (bif v74 then (16 : Int) else m6_57)
  let m6_87 := (bif v74 then v75 else [])
  let m6_88 := (bif m69 then m6_29 else m6_58)
  let m6_89 := (bif m69 then m6_30 else m6_59)
  let m6_90 := (bif m69 then m6_31 else m6_60)
  let m6_91 := (bif m69 then m6_32 else m6_61)
  let m6_92 := (bif m69 then m6_33 else m6_62)
  let m6_93 := (bif m69 then m6_34 else m6_63)
  let m6_94 := (bif m69 then m6_35 else m6_64)
  let m6_95 := (bif m69 then m6_36 else m6_65)
  let m6_96 := (bif m69 then m6_37 else m6_66)
  let m6_97 := (bif m69 then m6_38 else m6_67)
  let m6_98 := (bif m69 then m6_39 else m6_68)
  let m6_99 := (bif m69 then m6_40 else m6_69)
  let m6_100 := (bif m69 then m6_41 else m6_70)
  let m6_101 := (bif m69 then m6_42 else m6_71)
  let m6_102 := (bif m69 then m6_43 else m6_72)
  let m6_103 := (bif m69 then m6_44 else m6_73)
  let m6_104 := (bif m69 then m6_45 else m6_74)
  let m6_105 := (bif m69 then m6_46 else m6_75)
  let m6_106 := (bif m69 then m6_47 else m6_76)
  let m6_107 := (bif m69 then m6_48 else m6_77)
  let m6_108 := (bif m69 then m6_49 else m6_78)
  let m6_109 := (bif m69 then m6_50 else m6_79)
  let m6_110 := (bif m69 then m6_51 else m6_80)
  let m6_111 := (bif m69 then m6_52 else m6_81)
  let m6_112 := (bif m69 then m6_53 else m6_82)
  let m6_113 := (bif m69 then (1 : Int) else m6_83)
  let m6_114 := (bif m69 then m6_55 else m6_84)
  let m6_115 := (bif m69 then m6_56 else m6_85)
  let m6_116 := (bif m69 then m6_57 else m6_86)
  let m6_117 := (bif m69 then [] else m6_87)
  let m6_118 := (bif v65 then m6_29 else m6_88)
  let m6_119 := (bif v65 then m6_30 else m6_89)
  let m6_120 := (bif v65 then m6_31 else m6_90)
  let m6_121 := (bif v65 then m6_32 else m6_91)
  let m6_122 := (bif v65 then m6_33 else m6_92)
  let m6_123 := (bif v65 then m6_34 else m6_93)
  let m6_124 := (bif v65 then m6_35 else m6_94)
  let m6_125 := (bif v65 then m6_36 else m6_95)
  let m6_126 := (bif v65 then m6_37 else m6_96)
  let m6_127 := (bif v65 then m6_38 else m6_97)
  let m6_128 := (bif v65 then m6_39 else m6_98)
  let m6_129 := (bif v65 then m6_40 else m6_99)
  let m6_130 := (bif v65 then m6_41 else m6_100)
  let m6_131 := (bif v65 then m6_42 else m6_101)
  let m6_132 := (bif v65 then m6_43 else m6_102)
  let m6_133 := (bif v65 then m6_44 else m6_103)
  let m6_134 := (bif v65 then (1 : Int) else m6_104)
  let m6_135 := (bif v65 then v67 else [])
  let m6_136 := (bif v65 then m6_46 else m6_105)
  let m6_137 := (bif v65 then m6_47 else m6_106)
  let m6_138 := (bif v65 then m6_48 else m6_107)
  let m6_139 := (bif v65 then m6_49 else m6_108)
  let m6_140 := (bif v65 then m6_50 else m6_109)
  let m6_141 := (bif v65 then m6_51 else m6_110)
  let m6_142 := (bif v65 then m6_52 else m6_111)
  let m6_143 := (bif v65 then m6_53 else m6_112)
  let m6_144 := (bif v65 then m6_54 else m6_113)
  let m6_145 := (bif v65 then m6_55 else m6_114)
  let m6_146 := (bif v65 then m6_56 else m6_115)
  let m6_147 := (bif v65 then m6_57 else m6_116)
  let m6_148 := (bif v65 then [] else m6_117)
  let m6_149 := (bif v62 then m6_29 else m6_118)
  let m6_150 := (bif v62 then m6_30 else m6_119)
  let m6_151 := (bif v62 then m6_31 else m6_120)
  let m6_152 := (bif v62 then m6_32 else m6_121)
  let m6_153 := (bif v62 then m6_33 else m6_122)
  let m6_154 := (bif v62 then m6_34 else m6_123)
  let m6_155 := (bif v62 then m6_35 else m6_124)
  let m6_156 := (bif v62 then m6_36 else m6_125)
  let m6_157 := (bif v62 then m6_37 else m6_126)
  let m6_158 := (bif v62 then m6_38 else m6_127)
  let m6_159 := (bif v62 then m6_39 else m6_128)
  let m6_160 := (bif v62 then m6_40 else m6_129)
  let m6_161 := (bif v62 then m6_41 else m6_130)
  let m6_162 := (bif v62 then m6_42 else m6_131)
  let m6_163 := (bif v62 then m6_43 else m6_132)
  let m6_164 := (bif v62 then m6_44 else m6_133)
  let m6_165 := (bif v62 then (1 : Int) else m6_134)
  let m6_166 := (bif v62 then [] else m6_135)
  let m6_167 := (bif v62 then m6_46 else m6_136)
  let m6_168 := (bif v62 then m6_47 else m6_137)
  let m6_169 := (bif v62 then m6_48 else m6_138)
  let m6_170 := (bif v62 then m6_49 else m6_139)
  let m6_171 := (bif v62 then m6_50 else m6_140)
  let m6_172 := (bif v62 then m6_51 else m6_141)
  let m6_173 := (bif v62 then m6_52 else m6_142)
  let m6_174 := (bif v62 then m6_53 else m6_143)
  let m6_175 := (bif v62 then m6_54 else m6_144)
  let m6_176 := (bif v62 then m6_55 else m6_145)
  let m6_177 := (bif v62 then m6_56 else m6_146)
  let m6_178 := (bif v62 then m6_57 else m6_147)
  let m6_179 := (bif v62 then [] else m6_148)
  let m6_180 := (bif v56 then m6_29 else m6_149)
  let m6_181 := (bif v56 then m6_30 else m6_150)
  let m6_182 := (bif v56 then m6_31 else m6_151)
  let m6_183 := (bif v56 then m6_32 else m6_152)
  let m6_184 := (bif v56 then m6_33 else m6_153)
  let m6_185 := (bif v56 then m6_34 else m6_154)
  let m6_186 := (bif v56 then m6_35 else m6_155)
  let m6_187 := (bif v56 then m6_36 else m6_156)
  let m6_188 := (bif v56 then m6_37 else m6_157)
  let m6_189 := (bif v56 then m6_38 else m6_158)
  let m6_190 := (bif v56 then m6_39 else m6_159)
  let m6_191 := (bif v56 then m6_40 else m6_160)
  let m6_192 := (bif v56 then m6_41 else m6_161)
  let m6_193 := (bif v56 then m6_42 else m6_162)
  let m6_194 := (bif v56 then m6_43 else m6_163)
  let m6_195 := (bif v56 then s else m6_164)
  let m6_196 := (bif v56 then m6_45 else m6_165)
  let m6_197 := (bif v56 then [] else m6_166)
  let m6_198 := (bif v56 then m6_46 else m6_167)
  let m6_199 := (bif v56 then m6_47 else m6_168)
  let m6_200 := (bif v56 then m6_48 else m6_169)
  let m6_201 := (bif v56 then m6_49 else m6_170)
  let m6_202 := (bif v56 then m6_50 else m6_171)
  let m6_203 := (bif v56 then ([116, 101, 120, 116] : List UInt8) else m6_172)
  let m6_204 := (bif v56 then (256 : Int) else m6_173)
  let m6_205 := (bif v56 then m6_53 else m6_174)
  let m6_206 := (bif v56 then m6_54 else m6_175)
  let m6_207 := (bif v56 then m6_55 else m6_176)
  let m6_208 := (bif v56 then m6_56 else m6_177)
  let m6_209 := (bif v56 then m6_57 else m6_178)
  let m6_210 := (bif v56 then [] else m6_179)
  let m6_211 := (bif v42 then m6_29 else m6_180)
  let m6_212 := (bif v42 then m6_30 else m6_181)
  let m6_213 := (bif v42 then m6_31 else m6_182)
  let m6_214 := (bif v42 then m6_32 else m6_183)
  let m6_215 := (bif v42 then m6_33 else m6_184)
  let m6_216 := (bif v42 then m6_34 else m6_185)
  let m6_217 := (bif v42 then m6_35 else m6_186)
  let m6_218 := (bif v42 then m6_36 else m6_187)
  let m6_219 := (bif v42 then m6_37 else m6_188)
  let m6_220 := (bif v42 then m6_38 else m6_189)
  let m6_221 := (bif v42 then m6_39 else m6_190)
  let m6_222 := (bif v42 then m6_40 else m6_191)
  let m6_223 := (bif v42 then m6_41 else m6_192)
  let m6_224 := (bif v42 then m6_42 else m6_193)
  let m6_225 := (bif v42 then m6_43 else m6_194)
  let m6_226 := (bif v42 then s else m6_195)
  let m6_227 := (bif v42 then m6_45 else m6_196)
  let m6_228 := (bif v42 then [] else m6_197)
  let m6_229 := (bif v42 then m6_46 else m6_198)
  let m6_230 := (bif v42 then v53 else [])
  let m6_231 := (bif v42 then m6_47 else m6_199)
  let m6_232 := (bif v42 then m6_48 else m6_200)
  let m6_233 := (bif v42 then m6_49 else m6_201)
  let m6_234 := (bif v42 then m6_50 else m6_202)
  let m6_235 := (bif v42 then m6_51 else m6_203)
  let m6_236 := (bif v42 then m6_52 else m6_204)
  let m6_237 := (bif v42 then m6_53 else m6_205)
  let m6_238 := (bif v42 then m6_54 else m6_206)
  let m6_239 := (bif v42 then m6_55 else m6_207)
  let m6_240 := (bif v42 then m6_56 else m6_208)
  let m6_241 := (bif v42 then m6_57 else m6_209)
  let m6_242 := (bif v42 then [] else m6_210)
  let m6_243 := (bif v30 then m6_29 else m6_211)
  let m6_244 := (bif v30 then m6_30 else m6_212)
  let m6_245 := (bif v30 then m6_31 else m6_213)
  let m6_246 := (bif v30 then m6_32 else m6_214)
  let m6_247 := (bif v30 then m6_33 else m6_215)
  let m6_248 := (bif v30 then m6_34 else m6_216)
  let m6_249 := (bif v30 then m6_35 else m6_217)
  let m6_250 := (bif v30 then m6_36 else m6_218)
  let m6_251 := (bif v30 then m6_37 else m6_219)
  let m6_252 := (bif v30 then m6_38 else m6_220)
  let m6_253 := (bif v30 then m6_39 else m6_221)
  let m6_254 := (bif v30 then m6_40 else m6_222)
  let m6_255 := (bif v30 then m6_41 else m6_223)
  let m6_256 := (bif v30 then m6_42 else m6_224)
  let m6_257 := (bif v30 then m6_43 else m6_225)
  let m6_258 := (bif v30 then m6_44 else m6_226)
  let m6_259 := (bif v30 then (1 : Int) else m6_227)
  let m6_260 := (bif v30 then v33 else m6_228)
  let m6_261 := (bif v30 then m6_46 else m6_229)
  let m6_262 := (bif v30 then v39 else [])
  let m6_263 := (bif v30 then [] else m6_230)
  let m6_264 := (bif v30 then m6_47 else m6_231)
  let m6_265 := (bif v30 then m6_48 else m6_232)
  let m6_266 := (bif v30 then m6_49 else m6_233)
  let m6_267 := (bif v30 then m6_50 else m6_234)
  let m6_268 := (bif v30 then m6_51 else m6_235)
  let m6_269 := (bif v30 then m6_52 else m6_236)
  let m6_270 := (bif v30 then m6_53 else m6_237)
  let m6_271 := (bif v30 then m6_54 else m6_238)
  let m6_272 := (bif v30 then m6_55 else m6_239)
  let m6_273 := (bif v30 then m6_56 else m6_240)
  let m6_274 := (bif v30 then m6_57 else m6_241)
  let m6_275 := (bif v30 then [] else m6_242)
  let m6_276 := (bif v26 then m6_29 else m6_243)
  let m6_277 := (bif v26 then m6_30 else m6_244)
  let m6_278 := (bif v26 then m6_31 else m6_245)
  let m6_279 := (bif v26 then m6_32 else m6_246)
  let m6_280 := (bif v26 then m6_33 else m6_247)
  let m6_281 := (bif v26 then m6_34 else m6_248)
  let m6_282 := (bif v26 then m6_35 else m6_249)
  let m6_283 := (bif v26 then m6_36 else m6_250)
  let m6_284 := (bif v26 then m6_37 else m6_251)
  let m6_285 := (bif v26 then m6_38 else m6_252)
  let m6_286 := (bif v26 then m6_39 else m6_253)
  let m6_287 := (bif v26 then m6_40 else m6_254)
  let m6_288 := (bif v26 then m6_41 else m6_255)
  let m6_289 := (bif v26 then m6_42 else m6_256)
  let m6_290 := (bif v26 then m6_43 else m6_257)
  let m6_291 := (bif v26 then s else m6_258)
  let m6_292 := (bif v26 then m6_45 else m6_259)
  let m6_293 := (bif v26 then [] else m6_260)
  let m6_294 := (bif v26 then m6_46 else m6_261)
  let m6_295 := (bif v26 then [] else m6_262)
  let m6_296 := (bif v26 then [] else m6_263)
  let m6_297 := (bif v26 then m6_47 else m6_264)
  let m6_298 := (bif v26 then m6_48 else m6_265)
  let m6_299 := (bif v26 then m6_49 else m6_266)
  let m6_300 := (bif v26 then m6_50 else m6_267)
  let m6_301 := (bif v26 then m6_51 else m6_268)
  let m6_302 := (bif v26 then m6_52 else m6_269)
  let m6_303 := (bif v26 then m6_53 else m6_270)
  let m6_304 := (bif v26 then m6_54 else m6_271)
  let m6_305 := (bif v26 then m6_55 else m6_272)
  let m6_306 := (bif v26 then m6_56 else m6_273)
  let m6_307 := (bif v26 then m6_57 else m6_274)
  let m6_308 := (bif v26 then [] else m6_275)
  let m2 := (bif v11 then (0 : Int) else m6_276)
  let m2_1 := (bif v11 then (0 : Int) else m6_277)
  let m2_2 := (bif v11 then (0 : Int) else m6_278)
  let m2_3 := (bif v11 then ([] : List UInt8) else m6_279)
  let m2_4 := (bif v11 then false else m6_280)
  let m2_5 := (bif v11 then false else m6_281)
  let m2_6 := (bif v11 then false else m6_282)
  let m2_7 := (bif v11 then (0 : Int) else m6_283)
  let m2_8 := (bif v11 then (0 : Int) else m6_284)
  let m2_9 := (bif v11 then (0 : Int) else m6_285)
  let m2_10 := (bif v11 then (0 : Int) else m6_286)
  let m2_11 := (bif v11 then Z25 else m6_287)
  let m2_12 := (bif v11 then (0 : Int) else m6_288)
  let m2_13 := (bif v11 then (0 : Int) else m6_289)
  let m2_14 := (bif v11 then (0 : Int) else m6_290)
  let m2_15 := (bif v11 then Z30 else m6_291)
  let m2_16 := (bif v11 then (0 : Int) else m6_292)
  let m2_17 := (bif v11 then [] else m6_293)
  let m2_18 := (bif v11 then (0 : Int) else m6_294)
  let m2_19 := (bif v11 then [] else m6_295)
  let m2_20 := (bif v11 then [] else m6_296)
  let m2_21 := (bif v11 then (0 : Int) else m6_297)
  let m2_22 := (bif v11 then (0 : Int) else m6_298)
  let m2_23 := (bif v11 then (0 : Int) else m6_299)
  let m2_24 := (bif v11 then (0 : Int) else m6_300)
  let m2_25 := (bif v11 then ([] : List UInt8) else m6_301)
  let m2_26 := (bif v11 then (0 : Int) else m6_302)
  let m2_27 := (bif v11 then (0 : Int) else m6_303)
  let m2_28 := (bif v11 then (0 : Int) else m6_304)
  let m2_29 := (bif v11 then (0 : Int) else m6_305)
  let m2_30 := (bif v11 then (0 : Int) else m6_306)
  let m2_31 := (bif v11 then (0 : Int) else m6_307)
  let m2_32 := (bif v11 then [] else m6_308)
  let m3 := (bif v11 then (8 : Int) else (0 : Int))
  let s_10 := (m2_9, m2_10, ([] : List Int), ())
  let s_11 := (m2_13, m2_14, ([] : List D30), ())
  let s_12 := (m2_29, m2_30, m2_31, m2_32, ())
  let s_13 := (m2, m2_1, m2_2, m2_3, m2_4, m2_5, m2_6, m2_7, m2_8, s_10, m2_11, m2_12, s_11, m2_15, m2_16, m2_17, m2_18, m2_19, m2_20, m2_21, m2_22, m2_23, m2_24, m2_25, m2_26, m2_27, m2_28, s_12, ())
  (s_13, m3, ())

def f10_ok (p0 : Int) : Prop :=
  let v9 := (f13 p0)
  let v11 := (v9 == ([] : List UInt8))
  let v18 := (f25 p0)
  let v26 := (p0 == (3 : Int))
  let v30 := (p0 == (4 : Int))
  let v42 := (p0 == (5 : Int))
  let v56 := (p0 == (6 : Int))
  let v62 := (p0 == (7 : Int))
  let v65 := (p0 == (8 : Int))
  let v70 := (p0 == (9 : Int))
  let v71 := (p0 == (10 : Int))
  let m69 := (bif v70 then v70 else v71)
  let v74 := (p0 == (11 : Int))
  ((f13_ok p0) ∧ ((!v11) = true → ((f25_ok p0) ∧ ((v18 = true → f26_ok) ∧ ((f27_ok p0) ∧ (v26 = false → (v30 = false → (v42 = false → (v56 = false → (v62 = false → (v65 = false → (m69 = false → (v74 = true → (0 ≤ (4 : Int) ∧ (4 : Int) ≤ (4 : Int) ∧ (4 : Int) ≤ 4294967296))))))))))))))

instance (p0 : Int) : Decidable (f10_ok p0) := by
  unfold f10_ok
  try dsimp only
  infer_instance

def f10_ps : List (Nat × Sh) := [(0, (.val (.int .i64)))]
def f10_rs : Sh := (.tup (.cons (.val T37) (.cons (.val (.int .i64)) .nl)))
def f10_os : List (Nat × Sh) := []

def f10_spec : Am.Spec := fnSpec f10_ps f10_rs f10_os (fun x => f10_ok x.1) (fun x => f10 x.1) (fun _ => ())

def f10_ctx : Ctx := { tys := tys, fns := [(13, f13_spec), (25, f25_spec), (26, f26_spec), (27, f27_spec)], loops := [], gh := [(33, [(4, 0, 33, 400602)]), (35, [(4, 0, 39, 400603)]), (41, [(4, 0, 53, 400604)]), (59, [(4, 0, 67, 400602)]), (69, [(4, 0, 75, 400605)]), (71, [(4, 0, 400602, 400202), (4, 0, 400603, 400203), (4, 0, 400604, 400204), (4, 0, 400605, 400205)])], wrap := false, n := 79, keep := [], wr := [] }

theorem f10_cok : CtxOk Tryz.prog f10_ctx := ctxOk_mk tys_ok ⟨f13_is, f25_is, f26_is, f27_is, trivial⟩ rfl (by kernel_rfl)

noncomputable def f10_code : Code := Tryz.f10.body.getD .skip

theorem f10_sum : ∀ x, sumFn f10_ctx f10_code Tryz.f10.results.toList f10_ps f10_rs f10_os x = some (f10_ok x.1, f10 x.1, ()) := fun x => by kernel_rfl

theorem f10_is : SpecOk Tryz.prog 10 f10_spec := func_gen f10_cok mixed Tryz.func10 (by kernel_rfl) (by decide) rfl (bs := []) (by kernel_rfl) trivial (by kernel_rfl) (by kernel_rfl) rfl f10_sum

-- imageeditor/node.Reads
def f18 (p0 : D37) : Bool :=
  let v5 := (p0.2.1 == (7 : Int))
  let v9 := (p0.2.1 == (8 : Int))
  let v10 := (bif v5 then true else v9)
  let v14 := (p0.2.1 == (11 : Int))
  let v15 := (bif v10 then true else v14)
  v15

def f18_ok (p0 : D37) : Prop :=
  True

instance (p0 : D37) : Decidable (f18_ok p0) := by
  unfold f18_ok
  try dsimp only
  infer_instance

def f18_ps : List (Nat × Sh) := [(0, (.val T37))]
def f18_rs : Sh := (.val .bool)
def f18_os : List (Nat × Sh) := []

def f18_spec : Am.Spec := fnSpec f18_ps f18_rs f18_os (fun x => f18_ok x.1) (fun x => f18 x.1) (fun _ => ())

def f18_ctx : Ctx := { tys := tys, fns := [], loops := [], gh := [], wrap := false, n := 16, keep := [], wr := [] }

theorem f18_cok : CtxOk Tryz.prog f18_ctx := ctxOk_mk tys_ok trivial rfl (by kernel_rfl)

noncomputable def f18_code : Code := Tryz.f18.body.getD .skip

theorem f18_sum : ∀ x, sumFn f18_ctx f18_code Tryz.f18.results.toList f18_ps f18_rs f18_os x = some (f18_ok x.1, f18 x.1, ()) := fun x => by kernel_rfl

theorem f18_is : SpecOk Tryz.prog 18 f18_spec := func_gen f18_cok mixed Tryz.func18 (by kernel_rfl) (by decide) rfl (bs := []) (by kernel_rfl) trivial (by kernel_rfl) (by kernel_rfl) rfl f18_sum

-- imageeditor/node.isName
def f66_L4_g (y : ((List UInt8) × Int × Unit)) (x : (Int × Unit)) : Bool :=
  let a0 := y.1 
  let a13 := y.2.1 
  let a14 := x.1 
  let v15 := (decide (a14 < a13))
  let v19 := (byteAt a0 a14)
  let v20 := (decide (v19 < (33 : Int)))
  let v24 := (byteAt a0 a14)
  let v25 := (decide (v24 > (126 : Int)))
  let v26 := (bif v20 then true else v25)
  let c := (v15 && (!v26))
  c

def f66_L4_next (y : ((List UInt8) × Int × Unit)) (x : (Int × Unit)) : (Int × Unit) :=
  let a14 := x.1 
  let v27 := (a14 + (1 : Int))
  (v27, ())

def f66_L4_ok (y : ((List UInt8) × Int × Unit)) (x : (Int × Unit)) : Prop :=
  let a0 := y.1 
  let a13 := y.2.1 
  let a14 := x.1 
  let v15 := (decide (a14 < a13))
  let v19 := (byteAt a0 a14)
  let v20 := (decide (v19 < (33 : Int)))
  let g21_2 := (!v20)
  let v24 := (byteAt a0 a14)
  let v25 := (decide (v24 > (126 : Int)))
  let v26 := (bif v20 then true else v25)
  (v15 = true → (InB a14 (len a0) ∧ ((g21_2 = true → InB a14 (len a0)) ∧ ((!v26) = true → InR (a14 + (1 : Int))))))

instance (y : ((List UInt8) × Int × Unit)) (x : (Int × Unit)) : Decidable (f66_L4_ok y x) := by
  unfold f66_L4_ok
  try dsimp only
  infer_instance

def f66_L4_x1 (y : ((List UInt8) × Int × Unit)) (x : (Int × Unit)) : (Bool × Unit) :=
  (false, ())

def f66_L4_e1 (y : ((List UInt8) × Int × Unit)) (x : (Int × Unit)) : Bool :=
  let a0 := y.1 
  let a13 := y.2.1 
  let a14 := x.1 
  let v15 := (decide (a14 < a13))
  let v19 := (byteAt a0 a14)
  let v20 := (decide (v19 < (33 : Int)))
  let v24 := (byteAt a0 a14)
  let v25 := (decide (v24 > (126 : Int)))
  let v26 := (bif v20 then true else v25)
  let c_1 := (v15 && v26)
  c_1

def f66_L4_x2 (y : ((List UInt8) × Int × Unit)) (x : (Int × Unit)) : (Unit) :=
  ()

def f66_L4_e2 (y : ((List UInt8) × Int × Unit)) (x : (Int × Unit)) : Bool :=
  let a13 := y.2.1 
  let a14 := x.1 
  let v15 := (decide (a14 < a13))
  (!v15)

def f66_L4_ly : List (Nat × Sh) := [(0, (.val .str)), (13, (.val (.int .i64)))]
def f66_L4_lx : List (Nat × Sh) := [(14, (.val (.int .i64)))]
def f66_L4_les : List (List (Nat × Sh)) := [[(2, (.val .bool))], []]

def f66_L4_es (y : denL f66_L4_ly) (x : denL f66_L4_lx) : List Comp := [⟨1, some (f66_L4_e1 y x), mkSt [(2, (.val .bool))] ((f66_L4_x1 y x).1, ()) ++ cutSt⟩, ⟨2, some (f66_L4_e2 y x), mkSt [] () ++ cutSt⟩]

def f66_L4_spec : St → Option Out := loopS f66_L4_ly f66_L4_lx f66_L4_g f66_L4_next f66_L4_ok f66_L4_es

def f66 (p0 : (List UInt8)) : Bool :=
  let v5 := (len p0)
  let v6 := (decide (v5 < (1 : Int)))
  let v9 := (len p0)
  let v10 := (decide (v9 > (32 : Int)))
  let v11 := (bif v6 then true else v10)
  let v13 := (len p0)
  let y4 := (p0, v13, ())
  let x4 := ((0 : Int), ())
  let e4 := (loopEnd (f66_L4_g y4) (f66_L4_next y4) x4)
  let r4_1 := (f66_L4_x1 y4 e4)
  let q4_1 := (f66_L4_e1 y4 e4)
  let m2 := (bif q4_1 then r4_1.1 else true)
  let m2_1 := (bif v11 then false else m2)
  m2_1

def f66_ok (p0 : (List UInt8)) : Prop :=
  let v5 := (len p0)
  let v6 := (decide (v5 < (1 : Int)))
  let v9 := (len p0)
  let v10 := (decide (v9 > (32 : Int)))
  let v11 := (bif v6 then true else v10)
  let v13 := (len p0)
  let y4 := (p0, v13, ())
  let x4 := ((0 : Int), ())
  ((!v11) = true → (Am.Ends (f66_L4_g y4) (f66_L4_next y4) (f66_L4_ok y4) x4))

instance (p0 : (List UInt8)) : Decidable (f66_ok p0) := by
  unfold f66_ok
  try dsimp only
  infer_instance

def f66_ps : List (Nat × Sh) := [(0, (.val .str))]
def f66_rs : Sh := (.val .bool)
def f66_os : List (Nat × Sh) := []

def f66_spec : Am.Spec := fnSpec f66_ps f66_rs f66_os (fun x => f66_ok x.1) (fun x => f66 x.1) (fun _ => ())

def f66_ctx : Ctx := { tys := tys, fns := [], loops := [(4, f66_L4_spec)], gh := [], wrap := false, n := 28, keep := [], wr := [] }

theorem f66_cok : CtxOk Tryz.prog f66_ctx := ctxOk_mk tys_ok trivial rfl (by kernel_rfl)

noncomputable def f66_code : Code := Tryz.f66.body.getD .skip

noncomputable def f66_L4 : Code := nthLoop f66_code 0

theorem f66_L4_sum : ∀ y x, sumLoop f66_ctx f66_L4 f66_L4_ly f66_L4_lx f66_L4_les y x = some (f66_L4_ok y x, f66_L4_g y x, y, f66_L4_next y x, f66_L4_es y x) := fun y x => by kernel_rfl

theorem f66_L4_is : LoopSnd Tryz.prog f66_ctx f66_L4 := loop_gen f66_cok mixed (bs := []) (by kernel_rfl) trivial (by kernel_rfl) (by kernel_rfl) f66_L4_sum

theorem f66_sum : ∀ x, sumFn f66_ctx f66_code Tryz.f66.results.toList f66_ps f66_rs f66_os x = some (f66_ok x.1, f66 x.1, ()) := fun x => by kernel_rfl

theorem f66_is : SpecOk Tryz.prog 66 f66_spec := func_gen f66_cok mixed Tryz.func66 (by kernel_rfl) (by decide) rfl (bs := [f66_L4]) (by kernel_rfl) ⟨f66_L4_is, trivial⟩ (by kernel_rfl) (by kernel_rfl) rfl f66_sum

-- imageeditor/node.isId
def f67 (p0 : Int) : Bool :=
  let v4 := (decide (p0 ≥ (0 : Int)))
  let v7 := (decide (p0 ≤ (1073741824 : Int)))
  let v8 := (bif v4 then v7 else false)
  v8

def f67_ok (p0 : Int) : Prop :=
  True

instance (p0 : Int) : Decidable (f67_ok p0) := by
  unfold f67_ok
  try dsimp only
  infer_instance

def f67_ps : List (Nat × Sh) := [(0, (.val (.int .i64)))]
def f67_rs : Sh := (.val .bool)
def f67_os : List (Nat × Sh) := []

def f67_spec : Am.Spec := fnSpec f67_ps f67_rs f67_os (fun x => f67_ok x.1) (fun x => f67 x.1) (fun _ => ())

def f67_ctx : Ctx := { tys := tys, fns := [], loops := [], gh := [], wrap := false, n := 9, keep := [], wr := [] }

theorem f67_cok : CtxOk Tryz.prog f67_ctx := ctxOk_mk tys_ok trivial rfl (by kernel_rfl)

noncomputable def f67_code : Code := Tryz.f67.body.getD .skip

theorem f67_sum : ∀ x, sumFn f67_ctx f67_code Tryz.f67.results.toList f67_ps f67_rs f67_os x = some (f67_ok x.1, f67 x.1, ()) := fun x => by kernel_rfl

theorem f67_is : SpecOk Tryz.prog 67 f67_spec := func_gen f67_cok mixed Tryz.func67 (by kernel_rfl) (by decide) rfl (bs := []) (by kernel_rfl) trivial (by kernel_rfl) (by kernel_rfl) rfl f67_sum

-- imageeditor/node.isUnit
def f68 (p0 : Int) : Bool :=
  let v4 := (decide (p0 ≥ (0 : Int)))
  let v7 := (decide (p0 ≤ (65535 : Int)))
  let v8 := (bif v4 then v7 else false)
  v8

def f68_ok (p0 : Int) : Prop :=
  True

instance (p0 : Int) : Decidable (f68_ok p0) := by
  unfold f68_ok
  try dsimp only
  infer_instance

def f68_ps : List (Nat × Sh) := [(0, (.val (.int .i64)))]
def f68_rs : Sh := (.val .bool)
def f68_os : List (Nat × Sh) := []

def f68_spec : Am.Spec := fnSpec f68_ps f68_rs f68_os (fun x => f68_ok x.1) (fun x => f68 x.1) (fun _ => ())

def f68_ctx : Ctx := { tys := tys, fns := [], loops := [], gh := [], wrap := false, n := 9, keep := [], wr := [] }

theorem f68_cok : CtxOk Tryz.prog f68_ctx := ctxOk_mk tys_ok trivial rfl (by kernel_rfl)

noncomputable def f68_code : Code := Tryz.f68.body.getD .skip

theorem f68_sum : ∀ x, sumFn f68_ctx f68_code Tryz.f68.results.toList f68_ps f68_rs f68_os x = some (f68_ok x.1, f68 x.1, ()) := fun x => by kernel_rfl

theorem f68_is : SpecOk Tryz.prog 68 f68_spec := func_gen f68_cok mixed Tryz.func68 (by kernel_rfl) (by decide) rfl (bs := []) (by kernel_rfl) trivial (by kernel_rfl) (by kernel_rfl) rfl f68_sum

-- imageeditor/blend.Valid
def f69 (p0 : Int) : Bool :=
  let v4 := (decide (p0 ≥ (0 : Int)))
  let v7 := (decide (p0 < (18 : Int)))
  let v8 := (bif v4 then v7 else false)
  v8

def f69_ok (p0 : Int) : Prop :=
  True

instance (p0 : Int) : Decidable (f69_ok p0) := by
  unfold f69_ok
  try dsimp only
  infer_instance

def f69_ps : List (Nat × Sh) := [(0, (.val (.int .i64)))]
def f69_rs : Sh := (.val .bool)
def f69_os : List (Nat × Sh) := []

def f69_spec : Am.Spec := fnSpec f69_ps f69_rs f69_os (fun x => f69_ok x.1) (fun x => f69 x.1) (fun _ => ())

def f69_ctx : Ctx := { tys := tys, fns := [], loops := [], gh := [], wrap := false, n := 9, keep := [], wr := [] }

theorem f69_cok : CtxOk Tryz.prog f69_ctx := ctxOk_mk tys_ok trivial rfl (by kernel_rfl)

noncomputable def f69_code : Code := Tryz.f69.body.getD .skip

theorem f69_sum : ∀ x, sumFn f69_ctx f69_code Tryz.f69.results.toList f69_ps f69_rs f69_os x = some (f69_ok x.1, f69 x.1, ()) := fun x => by kernel_rfl

theorem f69_is : SpecOk Tryz.prog 69 f69_spec := func_gen f69_cok mixed Tryz.func69 (by kernel_rfl) (by decide) rfl (bs := []) (by kernel_rfl) trivial (by kernel_rfl) (by kernel_rfl) rfl f69_sum

-- imageeditor/mask.unit
def f103 (p0 : Int) : Bool :=
  let v4 := (decide (p0 ≥ (0 : Int)))
  let v7 := (decide (p0 ≤ (65535 : Int)))
  let v8 := (bif v4 then v7 else false)
  v8

def f103_ok (p0 : Int) : Prop :=
  True

instance (p0 : Int) : Decidable (f103_ok p0) := by
  unfold f103_ok
  try dsimp only
  infer_instance

def f103_ps : List (Nat × Sh) := [(0, (.val (.int .i64)))]
def f103_rs : Sh := (.val .bool)
def f103_os : List (Nat × Sh) := []

def f103_spec : Am.Spec := fnSpec f103_ps f103_rs f103_os (fun x => f103_ok x.1) (fun x => f103 x.1) (fun _ => ())

def f103_ctx : Ctx := { tys := tys, fns := [], loops := [], gh := [], wrap := false, n := 9, keep := [], wr := [] }

theorem f103_cok : CtxOk Tryz.prog f103_ctx := ctxOk_mk tys_ok trivial rfl (by kernel_rfl)

noncomputable def f103_code : Code := Tryz.f103.body.getD .skip

theorem f103_sum : ∀ x, sumFn f103_ctx f103_code Tryz.f103.results.toList f103_ps f103_rs f103_os x = some (f103_ok x.1, f103 x.1, ()) := fun x => by kernel_rfl

theorem f103_is : SpecOk Tryz.prog 103 f103_spec := func_gen f103_cok mixed Tryz.func103 (by kernel_rfl) (by decide) rfl (bs := []) (by kernel_rfl) trivial (by kernel_rfl) (by kernel_rfl) rfl f103_sum

-- imageeditor/mask.Check
def f70_L6_g (y : ((List Int) × Int × Unit)) (x : (Int × Unit)) : Bool :=
  let a42 := y.1 
  let a43 := y.2.1 
  let a44 := x.1 
  let v45 := (decide (a44 < a43))
  let v46 := (nth a42 a44 (0 : Int))
  let v49 := (f103 v46)
  let v50 := (!v49)
  let c := (v45 && (!v50))
  c

def f70_L6_next (y : ((List Int) × Int × Unit)) (x : (Int × Unit)) : (Int × Unit) :=
  let a44 := x.1 
  let v51 := (a44 + (1 : Int))
  (v51, ())

def f70_L6_ok (y : ((List Int) × Int × Unit)) (x : (Int × Unit)) : Prop :=
  let a42 := y.1 
  let a43 := y.2.1 
  let a44 := x.1 
  let v45 := (decide (a44 < a43))
  let v46 := (nth a42 a44 (0 : Int))
  let v49 := (f103 v46)
  let v50 := (!v49)
  (v45 = true → (InB a44 (len a42) ∧ ((f103_ok v46) ∧ ((!v50) = true → InR (a44 + (1 : Int))))))

instance (y : ((List Int) × Int × Unit)) (x : (Int × Unit)) : Decidable (f70_L6_ok y x) := by
  unfold f70_L6_ok
  try dsimp only
  infer_instance

def f70_L6_x1 (y : ((List Int) × Int × Unit)) (x : (Int × Unit)) : (Int × Unit) :=
  ((2 : Int), ())

def f70_L6_e1 (y : ((List Int) × Int × Unit)) (x : (Int × Unit)) : Bool :=
  let a42 := y.1 
  let a43 := y.2.1 
  let a44 := x.1 
  let v45 := (decide (a44 < a43))
  let v46 := (nth a42 a44 (0 : Int))
  let v49 := (f103 v46)
  let v50 := (!v49)
  let c_1 := (v45 && v50)
  c_1

def f70_L6_x2 (y : ((List Int) × Int × Unit)) (x : (Int × Unit)) : (Unit) :=
  ()

def f70_L6_e2 (y : ((List Int) × Int × Unit)) (x : (Int × Unit)) : Bool :=
  let a43 := y.2.1 
  let a44 := x.1 
  let v45 := (decide (a44 < a43))
  (!v45)

def f70_L6_ly : List (Nat × Sh) := [(42, (.val (.sl (.int .i64)))), (43, (.val (.int .i64)))]
def f70_L6_lx : List (Nat × Sh) := [(44, (.val (.int .i64)))]
def f70_L6_les : List (List (Nat × Sh)) := [[(2, (.val (.int .i64)))], []]

def f70_L6_es (y : denL f70_L6_ly) (x : denL f70_L6_lx) : List Comp := [⟨1, some (f70_L6_e1 y x), mkSt [(2, (.val (.int .i64)))] ((f70_L6_x1 y x).1, ()) ++ cutSt⟩, ⟨2, some (f70_L6_e2 y x), mkSt [] () ++ cutSt⟩]

def f70_L6_spec : St → Option Out := loopS f70_L6_ly f70_L6_lx f70_L6_g f70_L6_next f70_L6_ok f70_L6_es

def f70 (p0 : D23) : Int :=
  let v7 := (decide (p0.1 < (0 : Int)))
  let v11 := (decide (p0.1 > (256 : Int)))
  let v12 := (bif v7 then true else v11)
  let v16 := (decide (p0.2.1 < (0 : Int)))
  let v17 := (bif v12 then true else v16)
  let v21 := (decide (p0.2.1 > (256 : Int)))
  let v22 := (bif v17 then true else v21)
  let v25 := (p0.1 == (0 : Int))
  let v28 := (p0.2.1 == (0 : Int))
  let v29 := (!(Ty.eqb .bool v25 v28))
  let v33 := (len p0.2.2.1)
  let v38 := (p0.1 * p0.2.1)
  let v39 := (v33 != v38)
  let v40 := (bif v29 then true else v39)
  let v43 := (len p0.2.2.1)
  let y6 := (p0.2.2.1, v43, ())
  let x6 := ((0 : Int), ())
  let e6 := (loopEnd (f70_L6_g y6) (f70_L6_next y6) x6)
  let r6_1 := (f70_L6_x1 y6 e6)
  let q6_1 := (f70_L6_e1 y6 e6)
  let m2 := (bif q6_1 then r6_1.1 else (0 : Int))
  let m2_1 := (bif v40 then (15 : Int) else m2)
  let m2_2 := (bif v22 then (15 : Int) else m2_1)
  m2_2

def f70_ok (p0 : D23) : Prop :=
  let v7 := (decide (p0.1 < (0 : Int)))
  let v11 := (decide (p0.1 > (256 : Int)))
  let v12 := (bif v7 then true else v11)
  let v16 := (decide (p0.2.1 < (0 : Int)))
  let v17 := (bif v12 then true else v16)
  let v21 := (decide (p0.2.1 > (256 : Int)))
  let v22 := (bif v17 then true else v21)
  let v25 := (p0.1 == (0 : Int))
  let v28 := (p0.2.1 == (0 : Int))
  let v29 := (!(Ty.eqb .bool v25 v28))
  let v33 := (len p0.2.2.1)
  let g30_7 := (!v29)
  let v38 := (p0.1 * p0.2.1)
  let v39 := (v33 != v38)
  let v40 := (bif v29 then true else v39)
  let v43 := (len p0.2.2.1)
  let y6 := (p0.2.2.1, v43, ())
  let x6 := ((0 : Int), ())
  ((!v22) = true → ((g30_7 = true → InR (p0.1 * p0.2.1)) ∧ ((!v40) = true → (Am.Ends (f70_L6_g y6) (f70_L6_next y6) (f70_L6_ok y6) x6))))

instance (p0 : D23) : Decidable (f70_ok p0) := by
  unfold f70_ok
  try dsimp only
  infer_instance

def f70_ps : List (Nat × Sh) := [(0, (.val T23))]
def f70_rs : Sh := (.val (.int .i64))
def f70_os : List (Nat × Sh) := []

def f70_spec : Am.Spec := fnSpec f70_ps f70_rs f70_os (fun x => f70_ok x.1) (fun x => f70 x.1) (fun _ => ())

def f70_ctx : Ctx := { tys := tys, fns := [(103, f103_spec)], loops := [(6, f70_L6_spec)], gh := [], wrap := false, n := 52, keep := [], wr := [] }

theorem f70_cok : CtxOk Tryz.prog f70_ctx := ctxOk_mk tys_ok ⟨f103_is, trivial⟩ rfl (by kernel_rfl)

noncomputable def f70_code : Code := Tryz.f70.body.getD .skip

noncomputable def f70_L6 : Code := nthLoop f70_code 0

theorem f70_L6_sum : ∀ y x, sumLoop f70_ctx f70_L6 f70_L6_ly f70_L6_lx f70_L6_les y x = some (f70_L6_ok y x, f70_L6_g y x, y, f70_L6_next y x, f70_L6_es y x) := fun y x => by kernel_rfl

theorem f70_L6_is : LoopSnd Tryz.prog f70_ctx f70_L6 := loop_gen f70_cok mixed (bs := []) (by kernel_rfl) trivial (by kernel_rfl) (by kernel_rfl) f70_L6_sum

theorem f70_sum : ∀ x, sumFn f70_ctx f70_code Tryz.f70.results.toList f70_ps f70_rs f70_os x = some (f70_ok x.1, f70 x.1, ()) := fun x => by kernel_rfl

theorem f70_is : SpecOk Tryz.prog 70 f70_spec := func_gen f70_cok mixed Tryz.func70 (by kernel_rfl) (by decide) rfl (bs := [f70_L6]) (by kernel_rfl) ⟨f70_L6_is, trivial⟩ (by kernel_rfl) (by kernel_rfl) rfl f70_sum

-- imageeditor/node.checkCommon
def f33 (p0 : D37) (p1 : Int) (p2 : Int) : Int :=
  let v9 := (decide (p1 < (1 : Int)))
  let v12 := (decide (p1 > (256 : Int)))
  let v13 := (bif v9 then true else v12)
  let v16 := (decide (p2 < (1 : Int)))
  let v17 := (bif v13 then true else v16)
  let v20 := (decide (p2 > (256 : Int)))
  let v21 := (bif v17 then true else v20)
  let v24 := (f13 p0.2.1)
  let v25 := (v24 == ([] : List UInt8))
  let v28 := (f66 p0.2.2.2.1)
  let v29 := (!v28)
  let v32 := (f67 p0.1)
  let v33 := (!v32)
  let v37 := (f67 p0.2.2.1)
  let v38 := (!v37)
  let v39 := (bif v33 then true else v38)
  let v43 := (f68 p0.2.2.2.2.2.2.2.1)
  let v44 := (!v43)
  let v45 := (bif v39 then true else v44)
  let v48 := (f69 p0.2.2.2.2.2.2.2.2.1)
  let v49 := (!v48)
  let v52 := (f18 p0)
  let v56 := (p0.2.2.2.2.2.2.2.2.1 != (0 : Int))
  let v57 := (bif v52 then v56 else false)
  let v58 := (bif v49 then true else v57)
  let v61 := (f70 p0.2.2.2.2.2.2.2.2.2.1)
  let v63 := (v61 != (0 : Int))
  let v68 := (p0.2.2.2.2.2.2.2.2.2.1.1 != (0 : Int))
  let v74 := (p0.2.2.2.2.2.2.2.2.2.1.1 != p1)
  let v80 := (p0.2.2.2.2.2.2.2.2.2.1.2.1 != p2)
  let v81 := (bif v74 then true else v80)
  let v82 := (bif v68 then v81 else false)
  let m6 := (bif v82 then (15 : Int) else (0 : Int))
  let m6_1 := (bif v63 then v61 else m6)
  let m6_2 := (bif v58 then (8 : Int) else m6_1)
  let m6_3 := (bif v45 then (2 : Int) else m6_2)
  let m6_4 := (bif v29 then (13 : Int) else m6_3)
  let m6_5 := (bif v25 then (8 : Int) else m6_4)
  let m6_6 := (bif v21 then (15 : Int) else m6_5)
  m6_6

def f33_ok (p0 : D37) (p1 : Int) (p2 : Int) : Prop :=
  let v9 := (decide (p1 < (1 : Int)))
  let v12 := (decide (p1 > (256 : Int)))
  let v13 := (bif v9 then true else v12)
  let v16 := (decide (p2 < (1 : Int)))
  let v17 := (bif v13 then true else v16)
  let v20 := (decide (p2 > (256 : Int)))
  let v21 := (bif v17 then true else v20)
  let v24 := (f13 p0.2.1)
  let v25 := (v24 == ([] : List UInt8))
  let v28 := (f66 p0.2.2.2.1)
  let v29 := (!v28)
  let v32 := (f67 p0.1)
  let v33 := (!v32)
  let g34_2 := (!v33)
  let v37 := (f67 p0.2.2.1)
  let v38 := (!v37)
  let v39 := (bif v33 then true else v38)
  let g40_2 := (!v39)
  let v43 := (f68 p0.2.2.2.2.2.2.2.1)
  let v44 := (!v43)
  let v45 := (bif v39 then true else v44)
  let v48 := (f69 p0.2.2.2.2.2.2.2.2.1)
  let v49 := (!v48)
  let g50_1 := (!v49)
  let v52 := (f18 p0)
  let v56 := (p0.2.2.2.2.2.2.2.2.1 != (0 : Int))
  let v57 := (bif v52 then v56 else false)
  let v58 := (bif v49 then true else v57)
  ((!v21) = true → ((f13_ok p0.2.1) ∧ ((!v25) = true → ((f66_ok p0.2.2.2.1) ∧ ((!v29) = true → ((f67_ok p0.1) ∧ ((g34_2 = true → (f67_ok p0.2.2.1)) ∧ ((g40_2 = true → (f68_ok p0.2.2.2.2.2.2.2.1)) ∧ ((!v45) = true → ((f69_ok p0.2.2.2.2.2.2.2.2.1) ∧ ((g50_1 = true → (f18_ok p0)) ∧ ((!v58) = true → (f70_ok p0.2.2.2.2.2.2.2.2.2.1)))))))))))))

instance (p0 : D37) (p1 : Int) (p2 : Int) : Decidable (f33_ok p0 p1 p2) := by
  unfold f33_ok
  try dsimp only
  infer_instance

def f33_ps : List (Nat × Sh) := [(0, (.val T37)), (1, (.val (.int .i64))), (2, (.val (.int .i64)))]
def f33_rs : Sh := (.val (.int .i64))
def f33_os : List (Nat × Sh) := []

def f33_spec : Am.Spec := fnSpec f33_ps f33_rs f33_os (fun x => f33_ok x.1 x.2.1 x.2.2.1) (fun x => f33 x.1 x.2.1 x.2.2.1) (fun _ => ())

def f33_ctx : Ctx := { tys := tys, fns := [(13, f13_spec), (18, f18_spec), (66, f66_spec), (67, f67_spec), (68, f68_spec), (69, f69_spec), (70, f70_spec)], loops := [], gh := [], wrap := false, n := 83, keep := [], wr := [] }

theorem f33_cok : CtxOk Tryz.prog f33_ctx := ctxOk_mk tys_ok ⟨f13_is, f18_is, f66_is, f67_is, f68_is, f69_is, f70_is, trivial⟩ rfl (by kernel_rfl)

noncomputable def f33_code : Code := Tryz.f33.body.getD .skip

theorem f33_sum : ∀ x, sumFn f33_ctx f33_code Tryz.f33.results.toList f33_ps f33_rs f33_os x = some (f33_ok x.1 x.2.1 x.2.2.1, f33 x.1 x.2.1 x.2.2.1, ()) := fun x => by kernel_rfl

theorem f33_is : SpecOk Tryz.prog 33 f33_spec := func_gen f33_cok mixed Tryz.func33 (by kernel_rfl) (by decide) rfl (bs := []) (by kernel_rfl) trivial (by kernel_rfl) (by kernel_rfl) rfl f33_sum

-- imageeditor/num.Clamp
def f143 (p0 : Int) (p1 : Int) (p2 : Int) : Int :=
  let v10 := (imax p0 p1)
  let v11 := (imin p2 v10)
  v11

def f143_ok (p0 : Int) (p1 : Int) (p2 : Int) : Prop :=
  True

instance (p0 : Int) (p1 : Int) (p2 : Int) : Decidable (f143_ok p0 p1 p2) := by
  unfold f143_ok
  try dsimp only
  infer_instance

def f143_ps : List (Nat × Sh) := [(0, (.val (.int .i64))), (1, (.val (.int .i64))), (2, (.val (.int .i64)))]
def f143_rs : Sh := (.val (.int .i64))
def f143_os : List (Nat × Sh) := []

def f143_spec : Am.Spec := fnSpec f143_ps f143_rs f143_os (fun x => f143_ok x.1 x.2.1 x.2.2.1) (fun x => f143 x.1 x.2.1 x.2.2.1) (fun _ => ())

def f143_ctx : Ctx := { tys := tys, fns := [], loops := [], gh := [], wrap := false, n := 12, keep := [], wr := [] }

theorem f143_cok : CtxOk Tryz.prog f143_ctx := ctxOk_mk tys_ok trivial rfl (by kernel_rfl)

noncomputable def f143_code : Code := Tryz.f143.body.getD .skip

theorem f143_sum : ∀ x, sumFn f143_ctx f143_code Tryz.f143.results.toList f143_ps f143_rs f143_os x = some (f143_ok x.1 x.2.1 x.2.2.1, f143 x.1 x.2.1 x.2.2.1, ()) := fun x => by kernel_rfl

theorem f143_is : SpecOk Tryz.prog 143 f143_spec := func_gen f143_cok mixed Tryz.func143 (by kernel_rfl) (by decide) rfl (bs := []) (by kernel_rfl) trivial (by kernel_rfl) (by kernel_rfl) rfl f143_sum

-- imageeditor/affine.factor
def f104 (p0 : Int) : Int :=
  let v4 := (f143 p0 (-16777216 : Int) (16777216 : Int))
  v4

def f104_ok (p0 : Int) : Prop :=
  (f143_ok p0 (-16777216 : Int) (16777216 : Int))

instance (p0 : Int) : Decidable (f104_ok p0) := by
  unfold f104_ok
  try dsimp only
  infer_instance

def f104_ps : List (Nat × Sh) := [(0, (.val (.int .i64)))]
def f104_rs : Sh := (.val (.int .i64))
def f104_os : List (Nat × Sh) := []

def f104_spec : Am.Spec := fnSpec f104_ps f104_rs f104_os (fun x => f104_ok x.1) (fun x => f104 x.1) (fun _ => ())

def f104_ctx : Ctx := { tys := tys, fns := [(143, f143_spec)], loops := [], gh := [], wrap := false, n := 5, keep := [], wr := [] }

theorem f104_cok : CtxOk Tryz.prog f104_ctx := ctxOk_mk tys_ok ⟨f143_is, trivial⟩ rfl (by kernel_rfl)

noncomputable def f104_code : Code := Tryz.f104.body.getD .skip

theorem f104_sum : ∀ x, sumFn f104_ctx f104_code Tryz.f104.results.toList f104_ps f104_rs f104_os x = some (f104_ok x.1, f104 x.1, ()) := fun x => by kernel_rfl

theorem f104_is : SpecOk Tryz.prog 104 f104_spec := func_gen f104_cok mixed Tryz.func104 (by kernel_rfl) (by decide) rfl (bs := []) (by kernel_rfl) trivial (by kernel_rfl) (by kernel_rfl) rfl f104_sum

-- imageeditor/affine.place
def f105 (p0 : Int) : Int :=
  let v4 := (f143 p0 (-1099511627776 : Int) (1099511627776 : Int))
  v4

def f105_ok (p0 : Int) : Prop :=
  (f143_ok p0 (-1099511627776 : Int) (1099511627776 : Int))

instance (p0 : Int) : Decidable (f105_ok p0) := by
  unfold f105_ok
  try dsimp only
  infer_instance

def f105_ps : List (Nat × Sh) := [(0, (.val (.int .i64)))]
def f105_rs : Sh := (.val (.int .i64))
def f105_os : List (Nat × Sh) := []

def f105_spec : Am.Spec := fnSpec f105_ps f105_rs f105_os (fun x => f105_ok x.1) (fun x => f105 x.1) (fun _ => ())

def f105_ctx : Ctx := { tys := tys, fns := [(143, f143_spec)], loops := [], gh := [], wrap := false, n := 5, keep := [], wr := [] }

theorem f105_cok : CtxOk Tryz.prog f105_ctx := ctxOk_mk tys_ok ⟨f143_is, trivial⟩ rfl (by kernel_rfl)

noncomputable def f105_code : Code := Tryz.f105.body.getD .skip

theorem f105_sum : ∀ x, sumFn f105_ctx f105_code Tryz.f105.results.toList f105_ps f105_rs f105_os x = some (f105_ok x.1, f105 x.1, ()) := fun x => by kernel_rfl

theorem f105_is : SpecOk Tryz.prog 105 f105_spec := func_gen f105_cok mixed Tryz.func105 (by kernel_rfl) (by decide) rfl (bs := []) (by kernel_rfl) trivial (by kernel_rfl) (by kernel_rfl) rfl f105_sum

-- imageeditor/affine.limited
def f71 (p0 : D25) : D25 :=
  let v5 := (f104 p0.1)
  let v8 := (f104 p0.2.1)
  let v11 := (f104 p0.2.2.1)
  let v14 := (f104 p0.2.2.2.1)
  let v17 := (f105 p0.2.2.2.2.1)
  let v20 := (f105 p0.2.2.2.2.2.1)
  let s := (v5, v8, v11, v14, v17, v20, ())
  s

def f71_ok (p0 : D25) : Prop :=
  ((f104_ok p0.1) ∧ ((f104_ok p0.2.1) ∧ ((f104_ok p0.2.2.1) ∧ ((f104_ok p0.2.2.2.1) ∧ ((f105_ok p0.2.2.2.2.1) ∧ (f105_ok p0.2.2.2.2.2.1))))))

instance (p0 : D25) : Decidable (f71_ok p0) := by
  unfold f71_ok
  try dsimp only
  infer_instance

def f71_ps : List (Nat × Sh) := [(0, (.val T25))]
def f71_rs : Sh := (.val T25)
def f71_os : List (Nat × Sh) := []

def f71_spec : Am.Spec := fnSpec f71_ps f71_rs f71_os (fun x => f71_ok x.1) (fun x => f71 x.1) (fun _ => ())

def f71_ctx : Ctx := { tys := tys, fns := [(104, f104_spec), (105, f105_spec)], loops := [], gh := [], wrap := false, n := 22, keep := [], wr := [] }

theorem f71_cok : CtxOk Tryz.prog f71_ctx := ctxOk_mk tys_ok ⟨f104_is, f105_is, trivial⟩ rfl (by kernel_rfl)

noncomputable def f71_code : Code := Tryz.f71.body.getD .skip

theorem f71_sum : ∀ x, sumFn f71_ctx f71_code Tryz.f71.results.toList f71_ps f71_rs f71_os x = some (f71_ok x.1, f71 x.1, ()) := fun x => by kernel_rfl

theorem f71_is : SpecOk Tryz.prog 71 f71_spec := func_gen f71_cok mixed Tryz.func71 (by kernel_rfl) (by decide) rfl (bs := []) (by kernel_rfl) trivial (by kernel_rfl) (by kernel_rfl) rfl f71_sum

-- imageeditor/affine.Check
def f34 (p0 : D25) : Int :=
  let v5 := (f71 p0)
  let v6 := (!(Ty.eqb T25 p0 v5))
  let m2 := (bif v6 then (2 : Int) else (0 : Int))
  m2

def f34_ok (p0 : D25) : Prop :=
  (f71_ok p0)

instance (p0 : D25) : Decidable (f34_ok p0) := by
  unfold f34_ok
  try dsimp only
  infer_instance

def f34_ps : List (Nat × Sh) := [(0, (.val T25))]
def f34_rs : Sh := (.val (.int .i64))
def f34_os : List (Nat × Sh) := []

def f34_spec : Am.Spec := fnSpec f34_ps f34_rs f34_os (fun x => f34_ok x.1) (fun x => f34 x.1) (fun _ => ())

def f34_ctx : Ctx := { tys := tys, fns := [(71, f71_spec)], loops := [], gh := [], wrap := false, n := 7, keep := [], wr := [] }

theorem f34_cok : CtxOk Tryz.prog f34_ctx := ctxOk_mk tys_ok ⟨f71_is, trivial⟩ rfl (by kernel_rfl)

noncomputable def f34_code : Code := Tryz.f34.body.getD .skip

theorem f34_sum : ∀ x, sumFn f34_ctx f34_code Tryz.f34.results.toList f34_ps f34_rs f34_os x = some (f34_ok x.1, f34 x.1, ()) := fun x => by kernel_rfl

theorem f34_is : SpecOk Tryz.prog 34 f34_spec := func_gen f34_cok mixed Tryz.func34 (by kernel_rfl) (by decide) rfl (bs := []) (by kernel_rfl) trivial (by kernel_rfl) (by kernel_rfl) rfl f34_sum

-- imageeditor/num.Floor
def f106 (p0 : Int) (p1 : Int) : Int :=
  let v7 := (p1 == (0 : Int))
  let v9 := (p0 == (-9223372036854775808 : Int))
  let v12 := (p1 == (-1 : Int))
  let v13 := (bif v9 then v12 else false)
  let v16 := (Int.tdiv p0 p1)
  let v19 := (Int.tmod p0 p1)
  let v20 := (v19 != (0 : Int))
  let v23 := (decide (p0 < (0 : Int)))
  let v25 := (decide (p1 < (0 : Int)))
  let v26 := (!(Ty.eqb .bool v23 v25))
  let v27 := (bif v20 then v26 else false)
  let v29 := (v16 - (1 : Int))
  let m5 := (bif v27 then v29 else v16)
  let m4 := (bif v13 then (9223372036854775807 : Int) else m5)
  let m4_1 := (bif v7 then (0 : Int) else m4)
  m4_1

def f106_ok (p0 : Int) (p1 : Int) : Prop :=
  let v7 := (p1 == (0 : Int))
  let v9 := (p0 == (-9223372036854775808 : Int))
  let v12 := (p1 == (-1 : Int))
  let v13 := (bif v9 then v12 else false)
  let v16 := (Int.tdiv p0 p1)
  let v19 := (Int.tmod p0 p1)
  let v20 := (v19 != (0 : Int))
  let v23 := (decide (p0 < (0 : Int)))
  let v25 := (decide (p1 < (0 : Int)))
  let v26 := (!(Ty.eqb .bool v23 v25))
  let v27 := (bif v20 then v26 else false)
  ((!v7) = true → ((!v13) = true → (p1 ≠ 0 ∧ (InR (Int.tdiv p0 p1) ∧ (p1 ≠ 0 ∧ (v27 = true → InR (v16 - (1 : Int))))))))

instance (p0 : Int) (p1 : Int) : Decidable (f106_ok p0 p1) := by
  unfold f106_ok
  try dsimp only
  infer_instance

def f106_ps : List (Nat × Sh) := [(0, (.val (.int .i64))), (1, (.val (.int .i64)))]
def f106_rs : Sh := (.val (.int .i64))
def f106_os : List (Nat × Sh) := []

def f106_spec : Am.Spec := fnSpec f106_ps f106_rs f106_os (fun x => f106_ok x.1 x.2.1) (fun x => f106 x.1 x.2.1) (fun _ => ())

def f106_ctx : Ctx := { tys := tys, fns := [], loops := [], gh := [], wrap := false, n := 31, keep := [], wr := [] }

theorem f106_cok : CtxOk Tryz.prog f106_ctx := ctxOk_mk tys_ok trivial rfl (by kernel_rfl)

noncomputable def f106_code : Code := Tryz.f106.body.getD .skip

theorem f106_sum : ∀ x, sumFn f106_ctx f106_code Tryz.f106.results.toList f106_ps f106_rs f106_os x = some (f106_ok x.1 x.2.1, f106 x.1 x.2.1, ()) := fun x => by kernel_rfl

theorem f106_is : SpecOk Tryz.prog 106 f106_spec := func_gen f106_cok mixed Tryz.func106 (by kernel_rfl) (by decide) rfl (bs := []) (by kernel_rfl) trivial (by kernel_rfl) (by kernel_rfl) rfl f106_sum

-- imageeditor/num.Div
def f72 (p0 : Int) (p1 : Int) : Int :=
  let v8 := (p1 == (0 : Int))
  let v10 := (p0 == (-9223372036854775808 : Int))
  let v13 := (p1 == (-1 : Int))
  let v14 := (bif v10 then v13 else false)
  let v17 := (f106 p0 p1)
  let v21 := (p1 * v17)
  let v22 := (p0 - v21)
  let v24 := (decide (p1 > (0 : Int)))
  let v29 := (p1 - v22)
  let v30 := (decide (v22 ≥ v29))
  let v31 := (bif v24 then v30 else false)
  let v34 := (decide (p1 < (0 : Int)))
  let v39 := (p1 - v22)
  let v40 := (decide (v22 ≤ v39))
  let v41 := (bif v34 then v40 else false)
  let v42 := (bif v31 then true else v41)
  let v44 := (v17 + (1 : Int))
  let m5 := (bif v42 then v44 else v17)
  let m4 := (bif v14 then (9223372036854775807 : Int) else m5)
  let m4_1 := (bif v8 then (0 : Int) else m4)
  m4_1

def f72_ok (p0 : Int) (p1 : Int) : Prop :=
  let v8 := (p1 == (0 : Int))
  let v10 := (p0 == (-9223372036854775808 : Int))
  let v13 := (p1 == (-1 : Int))
  let v14 := (bif v10 then v13 else false)
  let v17 := (f106 p0 p1)
  let v21 := (p1 * v17)
  let v22 := (p0 - v21)
  let v24 := (decide (p1 > (0 : Int)))
  let v29 := (p1 - v22)
  let v30 := (decide (v22 ≥ v29))
  let v31 := (bif v24 then v30 else false)
  let v34 := (decide (p1 < (0 : Int)))
  let g32_2 := (!v31)
  let g35_3 := (g32_2 && v34)
  let v39 := (p1 - v22)
  let v40 := (decide (v22 ≤ v39))
  let v41 := (bif v34 then v40 else false)
  let v42 := (bif v31 then true else v41)
  ((!v8) = true → ((!v14) = true → ((f106_ok p0 p1) ∧ (InR (p1 * v17) ∧ (InR (p0 - v21) ∧ ((v24 = true → InR (p1 - v22)) ∧ ((g35_3 = true → InR (p1 - v22)) ∧ (v42 = true → InR (v17 + (1 : Int))))))))))

instance (p0 : Int) (p1 : Int) : Decidable (f72_ok p0 p1) := by
  unfold f72_ok
  try dsimp only
  infer_instance

def f72_ps : List (Nat × Sh) := [(0, (.val (.int .i64))), (1, (.val (.int .i64)))]
def f72_rs : Sh := (.val (.int .i64))
def f72_os : List (Nat × Sh) := []

def f72_spec : Am.Spec := fnSpec f72_ps f72_rs f72_os (fun x => f72_ok x.1 x.2.1) (fun x => f72 x.1 x.2.1) (fun _ => ())

def f72_ctx : Ctx := { tys := tys, fns := [(106, f106_spec)], loops := [], gh := [], wrap := false, n := 46, keep := [], wr := [] }

theorem f72_cok : CtxOk Tryz.prog f72_ctx := ctxOk_mk tys_ok ⟨f106_is, trivial⟩ rfl (by kernel_rfl)

noncomputable def f72_code : Code := Tryz.f72.body.getD .skip

theorem f72_sum : ∀ x, sumFn f72_ctx f72_code Tryz.f72.results.toList f72_ps f72_rs f72_os x = some (f72_ok x.1 x.2.1, f72 x.1 x.2.1, ()) := fun x => by kernel_rfl

theorem f72_is : SpecOk Tryz.prog 72 f72_spec := func_gen f72_cok mixed Tryz.func72 (by kernel_rfl) (by decide) rfl (bs := []) (by kernel_rfl) trivial (by kernel_rfl) (by kernel_rfl) rfl f72_sum

-- imageeditor/affine.dot
def f73 (p0 : Int) (p1 : Int) (p2 : Int) (p3 : Int) : Int :=
  let v12 := (f106 p1 (65536 : Int))
  let v14 := (f106 p3 (65536 : Int))
  let v17 := (p0 * v12)
  let v20 := (p2 * v14)
  let v21 := (v17 + v20)
  let v25 := (v12 * (65536 : Int))
  let v26 := (p1 - v25)
  let v27 := (p0 * v26)
  let v31 := (v14 * (65536 : Int))
  let v32 := (p3 - v31)
  let v33 := (p2 * v32)
  let v34 := (v27 + v33)
  let v35 := (f72 v34 (65536 : Int))
  let v36 := (v21 + v35)
  v36

def f73_ok (p0 : Int) (p1 : Int) (p2 : Int) (p3 : Int) : Prop :=
  let v12 := (f106 p1 (65536 : Int))
  let v14 := (f106 p3 (65536 : Int))
  let v17 := (p0 * v12)
  let v20 := (p2 * v14)
  let v21 := (v17 + v20)
  let v25 := (v12 * (65536 : Int))
  let v26 := (p1 - v25)
  let v27 := (p0 * v26)
  let v31 := (v14 * (65536 : Int))
  let v32 := (p3 - v31)
  let v33 := (p2 * v32)
  let v34 := (v27 + v33)
  let v35 := (f72 v34 (65536 : Int))
  ((f106_ok p1 (65536 : Int)) ∧ ((f106_ok p3 (65536 : Int)) ∧ (InR (p0 * v12) ∧ (InR (p2 * v14) ∧ (InR (v17 + v20) ∧ (InR (v12 * (65536 : Int)) ∧ (InR (p1 - v25) ∧ (InR (p0 * v26) ∧ (InR (v14 * (65536 : Int)) ∧ (InR (p3 - v31) ∧ (InR (p2 * v32) ∧ (InR (v27 + v33) ∧ ((f72_ok v34 (65536 : Int)) ∧ InR (v21 + v35))))))))))))))

instance (p0 : Int) (p1 : Int) (p2 : Int) (p3 : Int) : Decidable (f73_ok p0 p1 p2 p3) := by
  unfold f73_ok
  try dsimp only
  infer_instance

def f73_ps : List (Nat × Sh) := [(0, (.val (.int .i64))), (1, (.val (.int .i64))), (2, (.val (.int .i64))), (3, (.val (.int .i64)))]
def f73_rs : Sh := (.val (.int .i64))
def f73_os : List (Nat × Sh) := []

def f73_spec : Am.Spec := fnSpec f73_ps f73_rs f73_os (fun x => f73_ok x.1 x.2.1 x.2.2.1 x.2.2.2.1) (fun x => f73 x.1 x.2.1 x.2.2.1 x.2.2.2.1) (fun _ => ())

def f73_ctx : Ctx := { tys := tys, fns := [(72, f72_spec), (106, f106_spec)], loops := [], gh := [], wrap := false, n := 37, keep := [], wr := [] }

theorem f73_cok : CtxOk Tryz.prog f73_ctx := ctxOk_mk tys_ok ⟨f72_is, f106_is, trivial⟩ rfl (by kernel_rfl)

noncomputable def f73_code : Code := Tryz.f73.body.getD .skip

theorem f73_sum : ∀ x, sumFn f73_ctx f73_code Tryz.f73.results.toList f73_ps f73_rs f73_os x = some (f73_ok x.1 x.2.1 x.2.2.1 x.2.2.2.1, f73 x.1 x.2.1 x.2.2.1 x.2.2.2.1, ()) := fun x => by kernel_rfl

theorem f73_is : SpecOk Tryz.prog 73 f73_spec := func_gen f73_cok mixed Tryz.func73 (by kernel_rfl) (by decide) rfl (bs := []) (by kernel_rfl) trivial (by kernel_rfl) (by kernel_rfl) rfl f73_sum

-- imageeditor/affine.Inverse
def f35 (p0 : D25) : (D25 × Int × Unit) :=
  let v8 := (f34 p0)
  let v10 := (v8 != (0 : Int))
  let s := ((0 : Int), (0 : Int), (0 : Int), (0 : Int), (0 : Int), (0 : Int), ())
  let v17 := (p0.1 * p0.2.2.2.1)
  let v22 := (p0.2.1 * p0.2.2.1)
  let v23 := (v17 - v22)
  let v25 := (v23 == (0 : Int))
  let s_1 := ((0 : Int), (0 : Int), (0 : Int), (0 : Int), (0 : Int), (0 : Int), ())
  let v29 := (p0.2.2.2.1 * (4294967296 : Int))
  let v31 := (f72 v29 v23)
  let v34 := (Int.sub 0 p0.2.1)
  let v35 := (v34 * (4294967296 : Int))
  let v37 := (f72 v35 v23)
  let v40 := (Int.sub 0 p0.2.2.1)
  let v41 := (v40 * (4294967296 : Int))
  let v43 := (f72 v41 v23)
  let v46 := (p0.1 * (4294967296 : Int))
  let v48 := (f72 v46 v23)
  let s_2 := (v31, v37, v43, v48, (0 : Int), (0 : Int), ())
  let v51 := (f34 s_2)
  let v52 := (v51 != (0 : Int))
  let s_3 := ((0 : Int), (0 : Int), (0 : Int), (0 : Int), (0 : Int), (0 : Int), ())
  let v56 := (Int.sub 0 v31)
  let v61 := (Int.sub 0 v43)
  let v64 := (f73 v56 p0.2.2.2.2.1 v61 p0.2.2.2.2.2.1)
  let v68 := (Int.sub 0 v37)
  let v73 := (Int.sub 0 v48)
  let v76 := (f73 v68 p0.2.2.2.2.1 v73 p0.2.2.2.2.2.1)
  let s_5 := (v31, v37, v43, v48, v64, v76, ())
  let v79 := (f34 s_5)
  let v80 := (v79 != (0 : Int))
  let s_6 := ((0 : Int), (0 : Int), (0 : Int), (0 : Int), (0 : Int), (0 : Int), ())
  let m2 := (bif v80 then s_6 else s_5)
  let m3 := (bif v80 then (17 : Int) else (0 : Int))
  let m2_1 := (bif v52 then s_3 else m2)
  let m3_1 := (bif v52 then (17 : Int) else m3)
  let m2_2 := (bif v25 then s_1 else m2_1)
  let m3_2 := (bif v25 then (17 : Int) else m3_1)
  let m2_3 := (bif v10 then s else m2_2)
  let m3_3 := (bif v10 then v8 else m3_2)
  (m2_3, m3_3, ())

def f35_ok (p0 : D25) : Prop :=
  let v8 := (f34 p0)
  let v10 := (v8 != (0 : Int))
  let v17 := (p0.1 * p0.2.2.2.1)
  let v22 := (p0.2.1 * p0.2.2.1)
  let v23 := (v17 - v22)
  let v25 := (v23 == (0 : Int))
  let v29 := (p0.2.2.2.1 * (4294967296 : Int))
  let v31 := (f72 v29 v23)
  let v34 := (Int.sub 0 p0.2.1)
  let v35 := (v34 * (4294967296 : Int))
  let v37 := (f72 v35 v23)
  let v40 := (Int.sub 0 p0.2.2.1)
  let v41 := (v40 * (4294967296 : Int))
  let v43 := (f72 v41 v23)
  let v46 := (p0.1 * (4294967296 : Int))
  let v48 := (f72 v46 v23)
  let s_2 := (v31, v37, v43, v48, (0 : Int), (0 : Int), ())
  let v51 := (f34 s_2)
  let v52 := (v51 != (0 : Int))
  let v56 := (Int.sub 0 v31)
  let v61 := (Int.sub 0 v43)
  let v64 := (f73 v56 p0.2.2.2.2.1 v61 p0.2.2.2.2.2.1)
  let v68 := (Int.sub 0 v37)
  let v73 := (Int.sub 0 v48)
  let v76 := (f73 v68 p0.2.2.2.2.1 v73 p0.2.2.2.2.2.1)
  let s_5 := (v31, v37, v43, v48, v64, v76, ())
  ((f34_ok p0) ∧ ((!v10) = true → (InR (p0.1 * p0.2.2.2.1) ∧ (InR (p0.2.1 * p0.2.2.1) ∧ (InR (v17 - v22) ∧ ((!v25) = true → (InR (p0.2.2.2.1 * (4294967296 : Int)) ∧ ((f72_ok v29 v23) ∧ (InR (Int.sub 0 p0.2.1) ∧ (InR (v34 * (4294967296 : Int)) ∧ ((f72_ok v35 v23) ∧ (InR (Int.sub 0 p0.2.2.1) ∧ (InR (v40 * (4294967296 : Int)) ∧ ((f72_ok v41 v23) ∧ (InR (p0.1 * (4294967296 : Int)) ∧ ((f72_ok v46 v23) ∧ ((f34_ok s_2) ∧ ((!v52) = true → (InR (Int.sub 0 v31) ∧ (InR (Int.sub 0 v43) ∧ ((f73_ok v56 p0.2.2.2.2.1 v61 p0.2.2.2.2.2.1) ∧ (InR (Int.sub 0 v37) ∧ (InR (Int.sub 0 v48) ∧ ((f73_ok v68 p0.2.2.2.2.1 v73 p0.2.2.2.2.2.1) ∧ (f34_ok s_5)))))))))))))))))))))))))

instance (p0 : D25) : Decidable (f35_ok p0) := by
  unfold f35_ok
  try dsimp only
  infer_instance

def f35_ps : List (Nat × Sh) := [(0, (.val T25))]
def f35_rs : Sh := (.tup (.cons (.val T25) (.cons (.val (.int .i64)) .nl)))
def f35_os : List (Nat × Sh) := []

def f35_spec : Am.Spec := fnSpec f35_ps f35_rs f35_os (fun x => f35_ok x.1) (fun x => f35 x.1) (fun _ => ())

def f35_ctx : Ctx := { tys := tys, fns := [(34, f34_spec), (72, f72_spec), (73, f73_spec)], loops := [], gh := [], wrap := false, n := 83, keep := [], wr := [] }

theorem f35_cok : CtxOk Tryz.prog f35_ctx := ctxOk_mk tys_ok ⟨f34_is, f72_is, f73_is, trivial⟩ rfl (by kernel_rfl)

noncomputable def f35_code : Code := Tryz.f35.body.getD .skip

theorem f35_sum : ∀ x, sumFn f35_ctx f35_code Tryz.f35.results.toList f35_ps f35_rs f35_os x = some (f35_ok x.1, f35 x.1, ()) := fun x => by kernel_rfl

theorem f35_is : SpecOk Tryz.prog 35 f35_spec := func_gen f35_cok mixed Tryz.func35 (by kernel_rfl) (by decide) rfl (bs := []) (by kernel_rfl) trivial (by kernel_rfl) (by kernel_rfl) rfl f35_sum

-- imageeditor/kernel.Valid
def f36 (p0 : Int) : Bool :=
  let v4 := (decide (p0 ≥ (0 : Int)))
  let v7 := (decide (p0 ≤ (4 : Int)))
  let v8 := (bif v4 then v7 else false)
  v8

def f36_ok (p0 : Int) : Prop :=
  True

instance (p0 : Int) : Decidable (f36_ok p0) := by
  unfold f36_ok
  try dsimp only
  infer_instance

def f36_ps : List (Nat × Sh) := [(0, (.val (.int .i64)))]
def f36_rs : Sh := (.val .bool)
def f36_os : List (Nat × Sh) := []

def f36_spec : Am.Spec := fnSpec f36_ps f36_rs f36_os (fun x => f36_ok x.1) (fun x => f36 x.1) (fun _ => ())

def f36_ctx : Ctx := { tys := tys, fns := [], loops := [], gh := [], wrap := false, n := 9, keep := [], wr := [] }

theorem f36_cok : CtxOk Tryz.prog f36_ctx := ctxOk_mk tys_ok trivial rfl (by kernel_rfl)

noncomputable def f36_code : Code := Tryz.f36.body.getD .skip

theorem f36_sum : ∀ x, sumFn f36_ctx f36_code Tryz.f36.results.toList f36_ps f36_rs f36_os x = some (f36_ok x.1, f36 x.1, ()) := fun x => by kernel_rfl

theorem f36_is : SpecOk Tryz.prog 36 f36_spec := func_gen f36_cok mixed Tryz.func36 (by kernel_rfl) (by decide) rfl (bs := []) (by kernel_rfl) trivial (by kernel_rfl) (by kernel_rfl) rfl f36_sum

-- imageeditor/raster.sized
def f107 (p0 : Int) (p1 : Int) : Bool :=
  let v6 := (decide (p0 ≥ (0 : Int)))
  let v9 := (decide (p0 ≤ (256 : Int)))
  let v10 := (bif v6 then v9 else false)
  let v13 := (decide (p1 ≥ (0 : Int)))
  let v14 := (bif v10 then v13 else false)
  let v17 := (decide (p1 ≤ (256 : Int)))
  let v18 := (bif v14 then v17 else false)
  let v21 := (p0 == (0 : Int))
  let v23 := (p1 == (0 : Int))
  let v24 := (Ty.eqb .bool v21 v23)
  let v25 := (bif v18 then v24 else false)
  v25

def f107_ok (p0 : Int) (p1 : Int) : Prop :=
  True

instance (p0 : Int) (p1 : Int) : Decidable (f107_ok p0 p1) := by
  unfold f107_ok
  try dsimp only
  infer_instance

def f107_ps : List (Nat × Sh) := [(0, (.val (.int .i64))), (1, (.val (.int .i64)))]
def f107_rs : Sh := (.val .bool)
def f107_os : List (Nat × Sh) := []

def f107_spec : Am.Spec := fnSpec f107_ps f107_rs f107_os (fun x => f107_ok x.1 x.2.1) (fun x => f107 x.1 x.2.1) (fun _ => ())

def f107_ctx : Ctx := { tys := tys, fns := [], loops := [], gh := [], wrap := false, n := 26, keep := [], wr := [] }

theorem f107_cok : CtxOk Tryz.prog f107_ctx := ctxOk_mk tys_ok trivial rfl (by kernel_rfl)

noncomputable def f107_code : Code := Tryz.f107.body.getD .skip

theorem f107_sum : ∀ x, sumFn f107_ctx f107_code Tryz.f107.results.toList f107_ps f107_rs f107_os x = some (f107_ok x.1 x.2.1, f107 x.1 x.2.1, ()) := fun x => by kernel_rfl

theorem f107_is : SpecOk Tryz.prog 107 f107_spec := func_gen f107_cok mixed Tryz.func107 (by kernel_rfl) (by decide) rfl (bs := []) (by kernel_rfl) trivial (by kernel_rfl) (by kernel_rfl) rfl f107_sum

-- imageeditor/pixel.unit
def f177 (p0 : Int) : Int :=
  let v4 := (f143 p0 (0 : Int) (65535 : Int))
  v4

def f177_ok (p0 : Int) : Prop :=
  (f143_ok p0 (0 : Int) (65535 : Int))

instance (p0 : Int) : Decidable (f177_ok p0) := by
  unfold f177_ok
  try dsimp only
  infer_instance

def f177_ps : List (Nat × Sh) := [(0, (.val (.int .i64)))]
def f177_rs : Sh := (.val (.int .i64))
def f177_os : List (Nat × Sh) := []

def f177_spec : Am.Spec := fnSpec f177_ps f177_rs f177_os (fun x => f177_ok x.1) (fun x => f177 x.1) (fun _ => ())

def f177_ctx : Ctx := { tys := tys, fns := [(143, f143_spec)], loops := [], gh := [], wrap := false, n := 5, keep := [], wr := [] }

theorem f177_cok : CtxOk Tryz.prog f177_ctx := ctxOk_mk tys_ok ⟨f143_is, trivial⟩ rfl (by kernel_rfl)

noncomputable def f177_code : Code := Tryz.f177.body.getD .skip

theorem f177_sum : ∀ x, sumFn f177_ctx f177_code Tryz.f177.results.toList f177_ps f177_rs f177_os x = some (f177_ok x.1, f177 x.1, ()) := fun x => by kernel_rfl

theorem f177_is : SpecOk Tryz.prog 177 f177_spec := func_gen f177_cok mixed Tryz.func177 (by kernel_rfl) (by decide) rfl (bs := []) (by kernel_rfl) trivial (by kernel_rfl) (by kernel_rfl) rfl f177_sum

-- imageeditor/pixel.Limit
def f144 (p0 : D30) : D30 :=
  let v5 := (f177 p0.1)
  let v8 := (f177 p0.2.1)
  let v11 := (f177 p0.2.2.1)
  let v14 := (f177 p0.2.2.2.1)
  let s := (v5, v8, v11, v14, ())
  s

def f144_ok (p0 : D30) : Prop :=
  ((f177_ok p0.1) ∧ ((f177_ok p0.2.1) ∧ ((f177_ok p0.2.2.1) ∧ (f177_ok p0.2.2.2.1))))

instance (p0 : D30) : Decidable (f144_ok p0) := by
  unfold f144_ok
  try dsimp only
  infer_instance

def f144_ps : List (Nat × Sh) := [(0, (.val T30))]
def f144_rs : Sh := (.val T30)
def f144_os : List (Nat × Sh) := []

def f144_spec : Am.Spec := fnSpec f144_ps f144_rs f144_os (fun x => f144_ok x.1) (fun x => f144 x.1) (fun _ => ())

def f144_ctx : Ctx := { tys := tys, fns := [(177, f177_spec)], loops := [], gh := [], wrap := false, n := 16, keep := [], wr := [] }

theorem f144_cok : CtxOk Tryz.prog f144_ctx := ctxOk_mk tys_ok ⟨f177_is, trivial⟩ rfl (by kernel_rfl)

noncomputable def f144_code : Code := Tryz.f144.body.getD .skip

theorem f144_sum : ∀ x, sumFn f144_ctx f144_code Tryz.f144.results.toList f144_ps f144_rs f144_os x = some (f144_ok x.1, f144 x.1, ()) := fun x => by kernel_rfl

theorem f144_is : SpecOk Tryz.prog 144 f144_spec := func_gen f144_cok mixed Tryz.func144 (by kernel_rfl) (by decide) rfl (bs := []) (by kernel_rfl) trivial (by kernel_rfl) (by kernel_rfl) rfl f144_sum

-- imageeditor/pixel.Valid
def f108 (p0 : D30) : Bool :=
  let v5 := (f144 p0)
  let v6 := (Ty.eqb T30 p0 v5)
  v6

def f108_ok (p0 : D30) : Prop :=
  (f144_ok p0)

instance (p0 : D30) : Decidable (f108_ok p0) := by
  unfold f108_ok
  try dsimp only
  infer_instance

def f108_ps : List (Nat × Sh) := [(0, (.val T30))]
def f108_rs : Sh := (.val .bool)
def f108_os : List (Nat × Sh) := []

def f108_spec : Am.Spec := fnSpec f108_ps f108_rs f108_os (fun x => f108_ok x.1) (fun x => f108 x.1) (fun _ => ())

def f108_ctx : Ctx := { tys := tys, fns := [(144, f144_spec)], loops := [], gh := [], wrap := false, n := 7, keep := [], wr := [] }

theorem f108_cok : CtxOk Tryz.prog f108_ctx := ctxOk_mk tys_ok ⟨f144_is, trivial⟩ rfl (by kernel_rfl)

noncomputable def f108_code : Code := Tryz.f108.body.getD .skip

theorem f108_sum : ∀ x, sumFn f108_ctx f108_code Tryz.f108.results.toList f108_ps f108_rs f108_os x = some (f108_ok x.1, f108 x.1, ()) := fun x => by kernel_rfl

theorem f108_is : SpecOk Tryz.prog 108 f108_spec := func_gen f108_cok mixed Tryz.func108 (by kernel_rfl) (by decide) rfl (bs := []) (by kernel_rfl) trivial (by kernel_rfl) (by kernel_rfl) rfl f108_sum

-- imageeditor/raster.Check
def f74_L4_g (y : ((List D30) × Int × Unit)) (x : (Int × Unit)) : Bool :=
  let a23 := y.1 
  let a24 := y.2.1 
  let a25 := x.1 
  let v26 := (decide (a25 < a24))
  let v27 := (nth a23 a25 Z30)
  let v30 := (f108 v27)
  let v31 := (!v30)
  let c := (v26 && (!v31))
  c

def f74_L4_next (y : ((List D30) × Int × Unit)) (x : (Int × Unit)) : (Int × Unit) :=
  let a25 := x.1 
  let v32 := (a25 + (1 : Int))
  (v32, ())

def f74_L4_ok (y : ((List D30) × Int × Unit)) (x : (Int × Unit)) : Prop :=
  let a23 := y.1 
  let a24 := y.2.1 
  let a25 := x.1 
  let v26 := (decide (a25 < a24))
  let v27 := (nth a23 a25 Z30)
  let v30 := (f108 v27)
  let v31 := (!v30)
  (v26 = true → (InB a25 (len a23) ∧ ((f108_ok v27) ∧ ((!v31) = true → InR (a25 + (1 : Int))))))

instance (y : ((List D30) × Int × Unit)) (x : (Int × Unit)) : Decidable (f74_L4_ok y x) := by
  unfold f74_L4_ok
  try dsimp only
  infer_instance

def f74_L4_x1 (y : ((List D30) × Int × Unit)) (x : (Int × Unit)) : (Int × Unit) :=
  ((2 : Int), ())

def f74_L4_e1 (y : ((List D30) × Int × Unit)) (x : (Int × Unit)) : Bool :=
  let a23 := y.1 
  let a24 := y.2.1 
  let a25 := x.1 
  let v26 := (decide (a25 < a24))
  let v27 := (nth a23 a25 Z30)
  let v30 := (f108 v27)
  let v31 := (!v30)
  let c_1 := (v26 && v31)
  c_1

def f74_L4_x2 (y : ((List D30) × Int × Unit)) (x : (Int × Unit)) : (Unit) :=
  ()

def f74_L4_e2 (y : ((List D30) × Int × Unit)) (x : (Int × Unit)) : Bool :=
  let a24 := y.2.1 
  let a25 := x.1 
  let v26 := (decide (a25 < a24))
  (!v26)

def f74_L4_ly : List (Nat × Sh) := [(23, (.val (.sl T30))), (24, (.val (.int .i64)))]
def f74_L4_lx : List (Nat × Sh) := [(25, (.val (.int .i64)))]
def f74_L4_les : List (List (Nat × Sh)) := [[(2, (.val (.int .i64)))], []]

def f74_L4_es (y : denL f74_L4_ly) (x : denL f74_L4_lx) : List Comp := [⟨1, some (f74_L4_e1 y x), mkSt [(2, (.val (.int .i64)))] ((f74_L4_x1 y x).1, ()) ++ cutSt⟩, ⟨2, some (f74_L4_e2 y x), mkSt [] () ++ cutSt⟩]

def f74_L4_spec : St → Option Out := loopS f74_L4_ly f74_L4_lx f74_L4_g f74_L4_next f74_L4_ok f74_L4_es

def f74 (p0 : D28) : Int :=
  let v9 := (f107 p0.1 p0.2.1)
  let v10 := (!v9)
  let v14 := (len p0.2.2.1)
  let v19 := (p0.1 * p0.2.1)
  let v20 := (v14 != v19)
  let v21 := (bif v10 then true else v20)
  let v24 := (len p0.2.2.1)
  let y4 := (p0.2.2.1, v24, ())
  let x4 := ((0 : Int), ())
  let e4 := (loopEnd (f74_L4_g y4) (f74_L4_next y4) x4)
  let r4_1 := (f74_L4_x1 y4 e4)
  let q4_1 := (f74_L4_e1 y4 e4)
  let m2 := (bif q4_1 then r4_1.1 else (0 : Int))
  let m2_1 := (bif v21 then (15 : Int) else m2)
  m2_1

def f74_ok (p0 : D28) : Prop :=
  let v9 := (f107 p0.1 p0.2.1)
  let v10 := (!v9)
  let v14 := (len p0.2.2.1)
  let g11_7 := (!v10)
  let v19 := (p0.1 * p0.2.1)
  let v20 := (v14 != v19)
  let v21 := (bif v10 then true else v20)
  let v24 := (len p0.2.2.1)
  let y4 := (p0.2.2.1, v24, ())
  let x4 := ((0 : Int), ())
  ((f107_ok p0.1 p0.2.1) ∧ ((g11_7 = true → InR (p0.1 * p0.2.1)) ∧ ((!v21) = true → (Am.Ends (f74_L4_g y4) (f74_L4_next y4) (f74_L4_ok y4) x4))))

instance (p0 : D28) : Decidable (f74_ok p0) := by
  unfold f74_ok
  try dsimp only
  infer_instance

def f74_ps : List (Nat × Sh) := [(0, (.val T28))]
def f74_rs : Sh := (.val (.int .i64))
def f74_os : List (Nat × Sh) := []

def f74_spec : Am.Spec := fnSpec f74_ps f74_rs f74_os (fun x => f74_ok x.1) (fun x => f74 x.1) (fun _ => ())

def f74_ctx : Ctx := { tys := tys, fns := [(107, f107_spec), (108, f108_spec)], loops := [(4, f74_L4_spec)], gh := [], wrap := false, n := 33, keep := [], wr := [] }

theorem f74_cok : CtxOk Tryz.prog f74_ctx := ctxOk_mk tys_ok ⟨f107_is, f108_is, trivial⟩ rfl (by kernel_rfl)

noncomputable def f74_code : Code := Tryz.f74.body.getD .skip

noncomputable def f74_L4 : Code := nthLoop f74_code 0

theorem f74_L4_sum : ∀ y x, sumLoop f74_ctx f74_L4 f74_L4_ly f74_L4_lx f74_L4_les y x = some (f74_L4_ok y x, f74_L4_g y x, y, f74_L4_next y x, f74_L4_es y x) := fun y x => by kernel_rfl

theorem f74_L4_is : LoopSnd Tryz.prog f74_ctx f74_L4 := loop_gen f74_cok mixed (bs := []) (by kernel_rfl) trivial (by kernel_rfl) (by kernel_rfl) f74_L4_sum

theorem f74_sum : ∀ x, sumFn f74_ctx f74_code Tryz.f74.results.toList f74_ps f74_rs f74_os x = some (f74_ok x.1, f74 x.1, ()) := fun x => by kernel_rfl

theorem f74_is : SpecOk Tryz.prog 74 f74_spec := func_gen f74_cok mixed Tryz.func74 (by kernel_rfl) (by decide) rfl (bs := [f74_L4]) (by kernel_rfl) ⟨f74_L4_is, trivial⟩ (by kernel_rfl) (by kernel_rfl) rfl f74_sum

-- imageeditor/node.checkColor
def f75 (p0 : D30) : Int :=
  let v4 := (f108 p0)
  let v5 := (!v4)
  let m2 := (bif v5 then (2 : Int) else (0 : Int))
  m2

def f75_ok (p0 : D30) : Prop :=
  (f108_ok p0)

instance (p0 : D30) : Decidable (f75_ok p0) := by
  unfold f75_ok
  try dsimp only
  infer_instance

def f75_ps : List (Nat × Sh) := [(0, (.val T30))]
def f75_rs : Sh := (.val (.int .i64))
def f75_os : List (Nat × Sh) := []

def f75_spec : Am.Spec := fnSpec f75_ps f75_rs f75_os (fun x => f75_ok x.1) (fun x => f75 x.1) (fun _ => ())

def f75_ctx : Ctx := { tys := tys, fns := [(108, f108_spec)], loops := [], gh := [], wrap := false, n := 6, keep := [], wr := [] }

theorem f75_cok : CtxOk Tryz.prog f75_ctx := ctxOk_mk tys_ok ⟨f108_is, trivial⟩ rfl (by kernel_rfl)

noncomputable def f75_code : Code := Tryz.f75.body.getD .skip

theorem f75_sum : ∀ x, sumFn f75_ctx f75_code Tryz.f75.results.toList f75_ps f75_rs f75_os x = some (f75_ok x.1, f75 x.1, ()) := fun x => by kernel_rfl

theorem f75_is : SpecOk Tryz.prog 75 f75_spec := func_gen f75_cok mixed Tryz.func75 (by kernel_rfl) (by decide) rfl (bs := []) (by kernel_rfl) trivial (by kernel_rfl) (by kernel_rfl) rfl f75_sum

-- imageeditor/gradient.counted
def f145 (p0 : Int) (p1 : Int) : Bool :=
  let v6 := (p0 == (1 : Int))
  let v8 := (p1 == (4 : Int))
  let v10 := (p1 == (3 : Int))
  let m4 := (bif v6 then v8 else v10)
  m4

def f145_ok (p0 : Int) (p1 : Int) : Prop :=
  True

instance (p0 : Int) (p1 : Int) : Decidable (f145_ok p0 p1) := by
  unfold f145_ok
  try dsimp only
  infer_instance

def f145_ps : List (Nat × Sh) := [(0, (.val (.int .i64))), (1, (.val (.int .i64)))]
def f145_rs : Sh := (.val .bool)
def f145_os : List (Nat × Sh) := []

def f145_spec : Am.Spec := fnSpec f145_ps f145_rs f145_os (fun x => f145_ok x.1 x.2.1) (fun x => f145 x.1 x.2.1) (fun _ => ())

def f145_ctx : Ctx := { tys := tys, fns := [], loops := [], gh := [], wrap := false, n := 11, keep := [], wr := [] }

theorem f145_cok : CtxOk Tryz.prog f145_ctx := ctxOk_mk tys_ok trivial rfl (by kernel_rfl)

noncomputable def f145_code : Code := Tryz.f145.body.getD .skip

theorem f145_sum : ∀ x, sumFn f145_ctx f145_code Tryz.f145.results.toList f145_ps f145_rs f145_os x = some (f145_ok x.1 x.2.1, f145 x.1 x.2.1, ()) := fun x => by kernel_rfl

theorem f145_is : SpecOk Tryz.prog 145 f145_spec := func_gen f145_cok mixed Tryz.func145 (by kernel_rfl) (by decide) rfl (bs := []) (by kernel_rfl) trivial (by kernel_rfl) (by kernel_rfl) rfl f145_sum

-- imageeditor/gradient.checkParams
def f109_L8_g (y : (Int × (List Int) × (List Int) × Int × Unit)) (x : (Int × Unit)) : Bool :=
  let a36 := y.2.2.1 
  let a37 := y.2.2.2.1 
  let a38 := x.1 
  let v39 := (decide (a38 < a37))
  let v40 := (nth a36 a38 (0 : Int))
  let v43 := (decide (v40 < (-1048576 : Int)))
  let v46 := (decide (v40 > (1048576 : Int)))
  let v47 := (bif v43 then true else v46)
  let c := (v39 && (!v47))
  c

def f109_L8_next (y : (Int × (List Int) × (List Int) × Int × Unit)) (x : (Int × Unit)) : (Int × Unit) :=
  let a38 := x.1 
  let v48 := (a38 + (1 : Int))
  (v48, ())

def f109_L8_ok (y : (Int × (List Int) × (List Int) × Int × Unit)) (x : (Int × Unit)) : Prop :=
  let a36 := y.2.2.1 
  let a37 := y.2.2.2.1 
  let a38 := x.1 
  let v39 := (decide (a38 < a37))
  let v40 := (nth a36 a38 (0 : Int))
  let v43 := (decide (v40 < (-1048576 : Int)))
  let v46 := (decide (v40 > (1048576 : Int)))
  let v47 := (bif v43 then true else v46)
  (v39 = true → (InB a38 (len a36) ∧ ((!v47) = true → InR (a38 + (1 : Int)))))

instance (y : (Int × (List Int) × (List Int) × Int × Unit)) (x : (Int × Unit)) : Decidable (f109_L8_ok y x) := by
  unfold f109_L8_ok
  try dsimp only
  infer_instance

def f109_L8_x1 (y : (Int × (List Int) × (List Int) × Int × Unit)) (x : (Int × Unit)) : (Int × Unit) :=
  ((2 : Int), ())

def f109_L8_e1 (y : (Int × (List Int) × (List Int) × Int × Unit)) (x : (Int × Unit)) : Bool :=
  let a36 := y.2.2.1 
  let a37 := y.2.2.2.1 
  let a38 := x.1 
  let v39 := (decide (a38 < a37))
  let v40 := (nth a36 a38 (0 : Int))
  let v43 := (decide (v40 < (-1048576 : Int)))
  let v46 := (decide (v40 > (1048576 : Int)))
  let v47 := (bif v43 then true else v46)
  let c_1 := (v39 && v47)
  c_1

def f109_L8_x2 (y : (Int × (List Int) × (List Int) × Int × Unit)) (x : (Int × Unit)) : (Unit) :=
  ()

def f109_L8_e2 (y : (Int × (List Int) × (List Int) × Int × Unit)) (x : (Int × Unit)) : Bool :=
  let a37 := y.2.2.2.1 
  let a38 := x.1 
  let v39 := (decide (a38 < a37))
  (!v39)

def f109_L8_ly : List (Nat × Sh) := [(0, (.val (.int .i64))), (1, (.val (.sl (.int .i64)))), (36, (.val (.sl (.int .i64)))), (37, (.val (.int .i64)))]
def f109_L8_lx : List (Nat × Sh) := [(38, (.val (.int .i64)))]
def f109_L8_les : List (List (Nat × Sh)) := [[(8, (.val (.int .i64)))], [(0, (.val (.int .i64))), (1, (.val (.sl (.int .i64))))]]

def f109_L8_es (y : denL f109_L8_ly) (x : denL f109_L8_lx) : List Comp := [⟨1, some (f109_L8_e1 y x), mkSt [(8, (.val (.int .i64)))] ((f109_L8_x1 y x).1, ()) ++ cutSt⟩, ⟨2, some (f109_L8_e2 y x), mkSt [(0, (.val (.int .i64))), (1, (.val (.sl (.int .i64))))] (y.1, y.2.1, ()) ++ cutSt⟩]

def f109_L8_spec : St → Option Out := loopS f109_L8_ly f109_L8_lx f109_L8_g f109_L8_next f109_L8_ok f109_L8_es

def f109 (p0 : Int) (p1 : (List Int)) (p2 : Int) (p3 : Int) : Int :=
  let v12 := (decide (p0 < (1 : Int)))
  let v15 := (decide (p0 > (4 : Int)))
  let v16 := (bif v12 then true else v15)
  let v19 := (decide (p2 < (0 : Int)))
  let v20 := (bif v16 then true else v19)
  let v23 := (decide (p2 > (2 : Int)))
  let v24 := (bif v20 then true else v23)
  let v27 := (len p1)
  let v28 := (f145 p0 v27)
  let v29 := (!v28)
  let v32 := (p3 == (0 : Int))
  let v33 := (bif v29 then true else v32)
  let v35 := (decide (p3 > (16 : Int)))
  let v37 := (len p1)
  let y8 := (p0, p1, p1, v37, ())
  let x8 := ((0 : Int), ())
  let e8 := (loopEnd (f109_L8_g y8) (f109_L8_next y8) x8)
  let r8_1 := (f109_L8_x1 y8 e8)
  let q8_1 := (f109_L8_e1 y8 e8)
  let v50 := (p0 == (2 : Int))
  let v53 := (p0 == (4 : Int))
  let v54 := (bif v50 then true else v53)
  let v57 := (nth p1 (2 : Int) (0 : Int))
  let v59 := (decide (v57 < (0 : Int)))
  let v60 := (bif v54 then v59 else false)
  let m8 := (bif v60 then (2 : Int) else (0 : Int))
  let m8_1 := (bif q8_1 then r8_1.1 else m8)
  let m8_2 := (bif v35 then (3 : Int) else m8_1)
  let m8_3 := (bif v33 then (1 : Int) else m8_2)
  let m8_4 := (bif v24 then (8 : Int) else m8_3)
  m8_4

def f109_ok (p0 : Int) (p1 : (List Int)) (p2 : Int) (p3 : Int) : Prop :=
  let v12 := (decide (p0 < (1 : Int)))
  let v15 := (decide (p0 > (4 : Int)))
  let v16 := (bif v12 then true else v15)
  let v19 := (decide (p2 < (0 : Int)))
  let v20 := (bif v16 then true else v19)
  let v23 := (decide (p2 > (2 : Int)))
  let v24 := (bif v20 then true else v23)
  let v27 := (len p1)
  let v28 := (f145 p0 v27)
  let v29 := (!v28)
  let v32 := (p3 == (0 : Int))
  let v33 := (bif v29 then true else v32)
  let v35 := (decide (p3 > (16 : Int)))
  let v37 := (len p1)
  let y8 := (p0, p1, p1, v37, ())
  let x8 := ((0 : Int), ())
  let e8 := (loopEnd (f109_L8_g y8) (f109_L8_next y8) x8)
  let q8_2 := (f109_L8_e2 y8 e8)
  let v50 := (p0 == (2 : Int))
  let v53 := (p0 == (4 : Int))
  let v54 := (bif v50 then true else v53)
  ((!v24) = true → ((f145_ok p0 v27) ∧ ((!v33) = true → ((!v35) = true → ((Am.Ends (f109_L8_g y8) (f109_L8_next y8) (f109_L8_ok y8) x8) ∧ (q8_2 = true → (v54 = true → InB (2 : Int) (len p1))))))))

instance (p0 : Int) (p1 : (List Int)) (p2 : Int) (p3 : Int) : Decidable (f109_ok p0 p1 p2 p3) := by
  unfold f109_ok
  try dsimp only
  infer_instance

def f109_ps : List (Nat × Sh) := [(0, (.val (.int .i64))), (1, (.val (.sl (.int .i64)))), (2, (.val (.int .i64))), (3, (.val (.int .i64)))]
def f109_rs : Sh := (.val (.int .i64))
def f109_os : List (Nat × Sh) := []

def f109_spec : Am.Spec := fnSpec f109_ps f109_rs f109_os (fun x => f109_ok x.1 x.2.1 x.2.2.1 x.2.2.2.1) (fun x => f109 x.1 x.2.1 x.2.2.1 x.2.2.2.1) (fun _ => ())

def f109_ctx : Ctx := { tys := tys, fns := [(145, f145_spec)], loops := [(8, f109_L8_spec)], gh := [], wrap := false, n := 61, keep := [], wr := [] }

theorem f109_cok : CtxOk Tryz.prog f109_ctx := ctxOk_mk tys_ok ⟨f145_is, trivial⟩ rfl (by kernel_rfl)

noncomputable def f109_code : Code := Tryz.f109.body.getD .skip

noncomputable def f109_L8 : Code := nthLoop f109_code 0

theorem f109_L8_sum : ∀ y x, sumLoop f109_ctx f109_L8 f109_L8_ly f109_L8_lx f109_L8_les y x = some (f109_L8_ok y x, f109_L8_g y x, y, f109_L8_next y x, f109_L8_es y x) := fun y x => by kernel_rfl

theorem f109_L8_is : LoopSnd Tryz.prog f109_ctx f109_L8 := loop_gen f109_cok mixed (bs := []) (by kernel_rfl) trivial (by kernel_rfl) (by kernel_rfl) f109_L8_sum

theorem f109_sum : ∀ x, sumFn f109_ctx f109_code Tryz.f109.results.toList f109_ps f109_rs f109_os x = some (f109_ok x.1 x.2.1 x.2.2.1 x.2.2.2.1, f109 x.1 x.2.1 x.2.2.1 x.2.2.2.1, ()) := fun x => by kernel_rfl

theorem f109_is : SpecOk Tryz.prog 109 f109_spec := func_gen f109_cok mixed Tryz.func109 (by kernel_rfl) (by decide) rfl (bs := [f109_L8]) (by kernel_rfl) ⟨f109_L8_is, trivial⟩ (by kernel_rfl) (by kernel_rfl) rfl f109_sum

-- imageeditor/gradient.checkStops
def f110_L2_g (y : ((List D57) × (List D57) × Int × Unit)) (x : (Int × Unit)) : Bool :=
  let a0 := y.1 
  let a5 := y.2.1 
  let a6 := y.2.2.1 
  let a7 := x.1 
  let v8 := (decide (a7 < a6))
  let v10 := (nth a5 a7 Z57)
  let v14 := (decide (v10.1 < (0 : Int)))
  let v18 := (decide (v10.1 > (65535 : Int)))
  let v19 := (bif v14 then true else v18)
  let v23 := (f108 v10.2.1)
  let v24 := (!v23)
  let v25 := (bif v19 then true else v24)
  let v27 := (decide (a7 > (0 : Int)))
  let v33 := (a7 - (1 : Int))
  let v34 := (nth a0 v33 Z57)
  let v37 := (decide (v10.1 ≤ v34.1))
  let v38 := (bif v27 then v37 else false)
  let c_2 := ((!v25) && (!v38))
  let c_3 := (v8 && c_2)
  c_3

def f110_L2_next (y : ((List D57) × (List D57) × Int × Unit)) (x : (Int × Unit)) : (Int × Unit) :=
  let a7 := x.1 
  let v39 := (a7 + (1 : Int))
  (v39, ())

def f110_L2_ok (y : ((List D57) × (List D57) × Int × Unit)) (x : (Int × Unit)) : Prop :=
  let a0 := y.1 
  let a5 := y.2.1 
  let a6 := y.2.2.1 
  let a7 := x.1 
  let v8 := (decide (a7 < a6))
  let v10 := (nth a5 a7 Z57)
  let v14 := (decide (v10.1 < (0 : Int)))
  let v18 := (decide (v10.1 > (65535 : Int)))
  let v19 := (bif v14 then true else v18)
  let g20_2 := (!v19)
  let v23 := (f108 v10.2.1)
  let v24 := (!v23)
  let v25 := (bif v19 then true else v24)
  let v27 := (decide (a7 > (0 : Int)))
  let v33 := (a7 - (1 : Int))
  let v34 := (nth a0 v33 Z57)
  let v37 := (decide (v10.1 ≤ v34.1))
  let v38 := (bif v27 then v37 else false)
  let c_2 := ((!v25) && (!v38))
  (v8 = true → (InB a7 (len a5) ∧ ((g20_2 = true → (f108_ok v10.2.1)) ∧ (((!v25) = true → ((v27 = true → InR (a7 - (1 : Int))) ∧ (v27 = true → InB v33 (len a0)))) ∧ (c_2 = true → InR (a7 + (1 : Int)))))))

instance (y : ((List D57) × (List D57) × Int × Unit)) (x : (Int × Unit)) : Decidable (f110_L2_ok y x) := by
  unfold f110_L2_ok
  try dsimp only
  infer_instance

def f110_L2_x1 (y : ((List D57) × (List D57) × Int × Unit)) (x : (Int × Unit)) : (Int × Unit) :=
  let a5 := y.2.1 
  let a7 := x.1 
  let v10 := (nth a5 a7 Z57)
  let v14 := (decide (v10.1 < (0 : Int)))
  let v18 := (decide (v10.1 > (65535 : Int)))
  let v19 := (bif v14 then true else v18)
  let v23 := (f108 v10.2.1)
  let v24 := (!v23)
  let v25 := (bif v19 then true else v24)
  let m2 := (bif v25 then (2 : Int) else (24 : Int))
  (m2, ())

def f110_L2_e1 (y : ((List D57) × (List D57) × Int × Unit)) (x : (Int × Unit)) : Bool :=
  let a0 := y.1 
  let a5 := y.2.1 
  let a6 := y.2.2.1 
  let a7 := x.1 
  let v8 := (decide (a7 < a6))
  let v10 := (nth a5 a7 Z57)
  let v14 := (decide (v10.1 < (0 : Int)))
  let v18 := (decide (v10.1 > (65535 : Int)))
  let v19 := (bif v14 then true else v18)
  let v23 := (f108 v10.2.1)
  let v24 := (!v23)
  let v25 := (bif v19 then true else v24)
  let v27 := (decide (a7 > (0 : Int)))
  let v33 := (a7 - (1 : Int))
  let v34 := (nth a0 v33 Z57)
  let v37 := (decide (v10.1 ≤ v34.1))
  let v38 := (bif v27 then v37 else false)
  let c := ((!v25) && v38)
  let c_1 := (v25 || c)
  let c_4 := (v8 && c_1)
  c_4

def f110_L2_x2 (y : ((List D57) × (List D57) × Int × Unit)) (x : (Int × Unit)) : (Unit) :=
  ()

def f110_L2_e2 (y : ((List D57) × (List D57) × Int × Unit)) (x : (Int × Unit)) : Bool :=
  let a6 := y.2.2.1 
  let a7 := x.1 
  let v8 := (decide (a7 < a6))
  (!v8)

def f110_L2_ly : List (Nat × Sh) := [(0, (.val (.sl T57))), (5, (.val (.sl T57))), (6, (.val (.int .i64)))]
def f110_L2_lx : List (Nat × Sh) := [(7, (.val (.int .i64)))]
def f110_L2_les : List (List (Nat × Sh)) := [[(2, (.val (.int .i64)))], []]

def f110_L2_es (y : denL f110_L2_ly) (x : denL f110_L2_lx) : List Comp := [⟨1, some (f110_L2_e1 y x), mkSt [(2, (.val (.int .i64)))] ((f110_L2_x1 y x).1, ()) ++ cutSt⟩, ⟨2, some (f110_L2_e2 y x), mkSt [] () ++ cutSt⟩]

def f110_L2_spec : St → Option Out := loopS f110_L2_ly f110_L2_lx f110_L2_g f110_L2_next f110_L2_ok f110_L2_es

def f110 (p0 : (List D57)) : Int :=
  let v6 := (len p0)
  let y2 := (p0, p0, v6, ())
  let x2 := ((0 : Int), ())
  let e2 := (loopEnd (f110_L2_g y2) (f110_L2_next y2) x2)
  let r2_1 := (f110_L2_x1 y2 e2)
  let q2_1 := (f110_L2_e1 y2 e2)
  let m2 := (bif q2_1 then r2_1.1 else (0 : Int))
  m2

def f110_ok (p0 : (List D57)) : Prop :=
  let v6 := (len p0)
  let y2 := (p0, p0, v6, ())
  let x2 := ((0 : Int), ())
  (Am.Ends (f110_L2_g y2) (f110_L2_next y2) (f110_L2_ok y2) x2)

instance (p0 : (List D57)) : Decidable (f110_ok p0) := by
  unfold f110_ok
  try dsimp only
  infer_instance

def f110_ps : List (Nat × Sh) := [(0, (.val (.sl T57)))]
def f110_rs : Sh := (.val (.int .i64))
def f110_os : List (Nat × Sh) := []

def f110_spec : Am.Spec := fnSpec f110_ps f110_rs f110_os (fun x => f110_ok x.1) (fun x => f110 x.1) (fun _ => ())

def f110_ctx : Ctx := { tys := tys, fns := [(108, f108_spec)], loops := [(2, f110_L2_spec)], gh := [], wrap := false, n := 40, keep := [], wr := [] }

theorem f110_cok : CtxOk Tryz.prog f110_ctx := ctxOk_mk tys_ok ⟨f108_is, trivial⟩ rfl (by kernel_rfl)

noncomputable def f110_code : Code := Tryz.f110.body.getD .skip

noncomputable def f110_L2 : Code := nthLoop f110_code 0

theorem f110_L2_sum : ∀ y x, sumLoop f110_ctx f110_L2 f110_L2_ly f110_L2_lx f110_L2_les y x = some (f110_L2_ok y x, f110_L2_g y x, y, f110_L2_next y x, f110_L2_es y x) := fun y x => by kernel_rfl

theorem f110_L2_is : LoopSnd Tryz.prog f110_ctx f110_L2 := loop_gen f110_cok mixed (bs := []) (by kernel_rfl) trivial (by kernel_rfl) (by kernel_rfl) f110_L2_sum

theorem f110_sum : ∀ x, sumFn f110_ctx f110_code Tryz.f110.results.toList f110_ps f110_rs f110_os x = some (f110_ok x.1, f110 x.1, ()) := fun x => by kernel_rfl

theorem f110_is : SpecOk Tryz.prog 110 f110_spec := func_gen f110_cok mixed Tryz.func110 (by kernel_rfl) (by decide) rfl (bs := [f110_L2]) (by kernel_rfl) ⟨f110_L2_is, trivial⟩ (by kernel_rfl) (by kernel_rfl) rfl f110_sum

-- imageeditor/gradient.Check
def f76 (p0 : Int) (p1 : (List Int)) (p2 : Int) (p3 : (List D57)) : Int :=
  let v14 := (len p3)
  let v15 := (f109 p0 p1 p2 v14)
  let v17 := (v15 != (0 : Int))
  let v20 := (f110 p3)
  let m8 := (bif v17 then v15 else v20)
  m8

def f76_ok (p0 : Int) (p1 : (List Int)) (p2 : Int) (p3 : (List D57)) : Prop :=
  let v14 := (len p3)
  let v15 := (f109 p0 p1 p2 v14)
  let v17 := (v15 != (0 : Int))
  ((f109_ok p0 p1 p2 v14) ∧ ((!v17) = true → (f110_ok p3)))

instance (p0 : Int) (p1 : (List Int)) (p2 : Int) (p3 : (List D57)) : Decidable (f76_ok p0 p1 p2 p3) := by
  unfold f76_ok
  try dsimp only
  infer_instance

def f76_ps : List (Nat × Sh) := [(0, (.val (.int .i64))), (1, (.val (.sl (.int .i64)))), (2, (.val (.int .i64))), (3, (.val (.sl T57)))]
def f76_rs : Sh := (.val (.int .i64))
def f76_os : List (Nat × Sh) := []

def f76_spec : Am.Spec := fnSpec f76_ps f76_rs f76_os (fun x => f76_ok x.1 x.2.1 x.2.2.1 x.2.2.2.1) (fun x => f76 x.1 x.2.1 x.2.2.1 x.2.2.2.1) (fun _ => ())

def f76_ctx : Ctx := { tys := tys, fns := [(109, f109_spec), (110, f110_spec)], loops := [], gh := [], wrap := false, n := 21, keep := [], wr := [] }

theorem f76_cok : CtxOk Tryz.prog f76_ctx := ctxOk_mk tys_ok ⟨f109_is, f110_is, trivial⟩ rfl (by kernel_rfl)

noncomputable def f76_code : Code := Tryz.f76.body.getD .skip

theorem f76_sum : ∀ x, sumFn f76_ctx f76_code Tryz.f76.results.toList f76_ps f76_rs f76_os x = some (f76_ok x.1 x.2.1 x.2.2.1 x.2.2.2.1, f76 x.1 x.2.1 x.2.2.1 x.2.2.2.1, ()) := fun x => by kernel_rfl

theorem f76_is : SpecOk Tryz.prog 76 f76_spec := func_gen f76_cok mixed Tryz.func76 (by kernel_rfl) (by decide) rfl (bs := []) (by kernel_rfl) trivial (by kernel_rfl) (by kernel_rfl) rfl f76_sum

-- never called: imageeditor/node.checkPath
def f77 (_p0 : D37) : Int := (0 : Int)
def f77_ok (_p0 : D37) : Prop := False
instance (_p0 : D37) : Decidable (f77_ok _p0) := by
  unfold f77_ok
  infer_instance
def f77_ps : List (Nat × Sh) := [(0, (.val T37))]
def f77_rs : Sh := (.val (.int .i64))
def f77_os : List (Nat × Sh) := []
def f77_spec : Am.Spec := fnSpec f77_ps f77_rs f77_os (fun x => f77_ok x.1) (fun x => f77 x.1) (fun _ => ())
theorem f77_is : SpecOk Tryz.prog 77 f77_spec := func_never Tryz.func77 (by kernel_rfl) (by decide)

-- never called: imageeditor/node.checkText
def f78 (_p0 : D37) : Int := (0 : Int)
def f78_ok (_p0 : D37) : Prop := False
instance (_p0 : D37) : Decidable (f78_ok _p0) := by
  unfold f78_ok
  infer_instance
def f78_ps : List (Nat × Sh) := [(0, (.val T37))]
def f78_rs : Sh := (.val (.int .i64))
def f78_os : List (Nat × Sh) := []
def f78_spec : Am.Spec := fnSpec f78_ps f78_rs f78_os (fun x => f78_ok x.1) (fun x => f78 x.1) (fun _ => ())
theorem f78_is : SpecOk Tryz.prog 78 f78_spec := func_never Tryz.func78 (by kernel_rfl) (by decide)

-- imageeditor/adjust.counted
def f119 (p0 : Int) (p1 : Int) : Bool :=
  let v7 := (p0 == (2 : Int))
  let v9 := (p1 == (5 : Int))
  let v11 := (p0 == (3 : Int))
  let v13 := (decide (p1 ≥ (4 : Int)))
  let v16 := (decide (p1 ≤ (16 : Int)))
  let v17 := (bif v13 then v16 else false)
  let v20 := (Int.tmod p1 (2 : Int))
  let v21 := (v20 == (0 : Int))
  let v22 := (bif v17 then v21 else false)
  let v24 := (p0 == (4 : Int))
  let v25 := (p0 == (11 : Int))
  let m23 := (bif v24 then v24 else v25)
  let v27 := (p1 == (2 : Int))
  let v29 := (p0 == (5 : Int))
  let v30 := (p0 == (9 : Int))
  let m28 := (bif v29 then v29 else v30)
  let v32 := (p1 == (3 : Int))
  let v34 := (p0 == (6 : Int))
  let v35 := (p0 == (7 : Int))
  let m33 := (bif v34 then v34 else v35)
  let v37 := (p1 == (1 : Int))
  let v39 := (p0 == (8 : Int))
  let v41 := (p1 == (9 : Int))
  let c := (bif m33 then true else v39)
  let m4 := (bif m33 then v37 else v41)
  let c_2 := (bif m28 then true else c)
  let m4_1 := (bif m28 then v32 else m4)
  let c_4 := (bif m23 then true else c_2)
  let m4_2 := (bif m23 then v27 else m4_1)
  let c_6 := (bif v11 then true else c_4)
  let m4_3 := (bif v11 then v22 else m4_2)
  let c_8 := (bif v7 then true else c_6)
  let m4_4 := (bif v7 then v9 else m4_3)
  let v43 := (p1 == (0 : Int))
  let m4_5 := (bif c_8 then m4_4 else v43)
  m4_5

def f119_ok (p0 : Int) (p1 : Int) : Prop :=
  True

instance (p0 : Int) (p1 : Int) : Decidable (f119_ok p0 p1) := by
  unfold f119_ok
  try dsimp only
  infer_instance

def f119_ps : List (Nat × Sh) := [(0, (.val (.int .i64))), (1, (.val (.int .i64)))]
def f119_rs : Sh := (.val .bool)
def f119_os : List (Nat × Sh) := []

def f119_spec : Am.Spec := fnSpec f119_ps f119_rs f119_os (fun x => f119_ok x.1 x.2.1) (fun x => f119 x.1 x.2.1) (fun _ => ())

def f119_ctx : Ctx := { tys := tys, fns := [], loops := [], gh := [], wrap := false, n := 44, keep := [], wr := [] }

theorem f119_cok : CtxOk Tryz.prog f119_ctx := ctxOk_mk tys_ok trivial rfl (by kernel_rfl)

noncomputable def f119_code : Code := Tryz.f119.body.getD .skip

theorem f119_sum : ∀ x, sumFn f119_ctx f119_code Tryz.f119.results.toList f119_ps f119_rs f119_os x = some (f119_ok x.1 x.2.1, f119 x.1 x.2.1, ()) := fun x => by kernel_rfl

theorem f119_is : SpecOk Tryz.prog 119 f119_spec := func_gen f119_cok mixed Tryz.func119 (by kernel_rfl) (by decide) rfl (bs := []) (by kernel_rfl) trivial (by kernel_rfl) (by kernel_rfl) rfl f119_sum

-- imageeditor/adjust.span
def f160 (p0 : Int) (p1 : Int) : (Int × Int × Unit) :=
  let v8 := (p0 == (2 : Int))
  let v11 := (p1 == (2 : Int))
  let v12 := (bif v8 then v11 else false)
  let v15 := (p0 == (4 : Int))
  let v17 := (p0 == (5 : Int))
  let v20 := (decide (p1 > (0 : Int)))
  let v21 := (bif v17 then v20 else false)
  let v23 := (p0 == (11 : Int))
  let v26 := (p1 == (1 : Int))
  let v27 := (bif v23 then v26 else false)
  let m13 := (bif v21 then v21 else v27)
  let m13_1 := (bif v15 then v15 else m13)
  let v30 := (p0 == (5 : Int))
  let v33 := (p0 == (7 : Int))
  let v36 := (p0 == (8 : Int))
  let v39 := (p0 == (11 : Int))
  let c := (bif v36 then true else v39)
  let m4 := (bif v36 then (-262140 : Int) else (-128 : Int))
  let m5 := (bif v36 then (262140 : Int) else (128 : Int))
  let c_2 := (bif v33 then true else c)
  let m4_1 := (bif v33 then (2 : Int) else m4)
  let m5_1 := (bif v33 then (256 : Int) else m5)
  let c_4 := (bif v30 then true else c_2)
  let m4_2 := (bif v30 then (-32768 : Int) else m4_1)
  let m5_2 := (bif v30 then (32768 : Int) else m5_1)
  let c_6 := (bif m13_1 then true else c_4)
  let m4_3 := (bif m13_1 then (-65535 : Int) else m4_2)
  let m5_3 := (bif m13_1 then (65535 : Int) else m5_2)
  let c_8 := (bif v12 then true else c_6)
  let m4_4 := (bif v12 then (1 : Int) else m4_3)
  let m5_4 := (bif v12 then (256 : Int) else m5_3)
  let m4_5 := (bif c_8 then m4_4 else (0 : Int))
  let m5_5 := (bif c_8 then m5_4 else (65535 : Int))
  (m4_5, m5_5, ())

def f160_ok (p0 : Int) (p1 : Int) : Prop :=
  True

instance (p0 : Int) (p1 : Int) : Decidable (f160_ok p0 p1) := by
  unfold f160_ok
  try dsimp only
  infer_instance

def f160_ps : List (Nat × Sh) := [(0, (.val (.int .i64))), (1, (.val (.int .i64)))]
def f160_rs : Sh := (.tup (.cons (.val (.int .i64)) (.cons (.val (.int .i64)) .nl)))
def f160_os : List (Nat × Sh) := []

def f160_spec : Am.Spec := fnSpec f160_ps f160_rs f160_os (fun x => f160_ok x.1 x.2.1) (fun x => f160 x.1 x.2.1) (fun _ => ())

def f160_ctx : Ctx := { tys := tys, fns := [], loops := [], gh := [], wrap := false, n := 40, keep := [], wr := [] }

theorem f160_cok : CtxOk Tryz.prog f160_ctx := ctxOk_mk tys_ok trivial rfl (by kernel_rfl)

noncomputable def f160_code : Code := Tryz.f160.body.getD .skip

theorem f160_sum : ∀ x, sumFn f160_ctx f160_code Tryz.f160.results.toList f160_ps f160_rs f160_os x = some (f160_ok x.1 x.2.1, f160 x.1 x.2.1, ()) := fun x => by kernel_rfl

theorem f160_is : SpecOk Tryz.prog 160 f160_spec := func_gen f160_cok mixed Tryz.func160 (by kernel_rfl) (by decide) rfl (bs := []) (by kernel_rfl) trivial (by kernel_rfl) (by kernel_rfl) rfl f160_sum

-- imageeditor/adjust.ranged
def f120_L2_g (y : (Int × (List Int) × (List D57) × (List Int) × Int × Unit)) (x : (Int × Unit)) : Bool :=
  let a0 := y.1 
  let a13 := y.2.2.2.1 
  let a14 := y.2.2.2.2.1 
  let a15 := x.1 
  let v16 := (decide (a15 < a14))
  let v18 := (nth a13 a15 (0 : Int))
  let v23 := (f160 a0 a15)
  let v28 := (decide (v18 < v23.1))
  let v32 := (decide (v18 > v23.2.1))
  let v33 := (bif v28 then true else v32)
  let c := (v16 && (!v33))
  c

def f120_L2_next (y : (Int × (List Int) × (List D57) × (List Int) × Int × Unit)) (x : (Int × Unit)) : (Int × Unit) :=
  let a15 := x.1 
  let v34 := (a15 + (1 : Int))
  (v34, ())

def f120_L2_ok (y : (Int × (List Int) × (List D57) × (List Int) × Int × Unit)) (x : (Int × Unit)) : Prop :=
  let a0 := y.1 
  let a13 := y.2.2.2.1 
  let a14 := y.2.2.2.2.1 
  let a15 := x.1 
  let v16 := (decide (a15 < a14))
  let v18 := (nth a13 a15 (0 : Int))
  let v23 := (f160 a0 a15)
  let v28 := (decide (v18 < v23.1))
  let v32 := (decide (v18 > v23.2.1))
  let v33 := (bif v28 then true else v32)
  (v16 = true → (InB a15 (len a13) ∧ ((f160_ok a0 a15) ∧ ((!v33) = true → InR (a15 + (1 : Int))))))

instance (y : (Int × (List Int) × (List D57) × (List Int) × Int × Unit)) (x : (Int × Unit)) : Decidable (f120_L2_ok y x) := by
  unfold f120_L2_ok
  try dsimp only
  infer_instance

def f120_L2_x1 (y : (Int × (List Int) × (List D57) × (List Int) × Int × Unit)) (x : (Int × Unit)) : (Bool × Unit) :=
  (false, ())

def f120_L2_e1 (y : (Int × (List Int) × (List D57) × (List Int) × Int × Unit)) (x : (Int × Unit)) : Bool :=
  let a0 := y.1 
  let a13 := y.2.2.2.1 
  let a14 := y.2.2.2.2.1 
  let a15 := x.1 
  let v16 := (decide (a15 < a14))
  let v18 := (nth a13 a15 (0 : Int))
  let v23 := (f160 a0 a15)
  let v28 := (decide (v18 < v23.1))
  let v32 := (decide (v18 > v23.2.1))
  let v33 := (bif v28 then true else v32)
  let c_1 := (v16 && v33)
  c_1

def f120_L2_x2 (y : (Int × (List Int) × (List D57) × (List Int) × Int × Unit)) (x : (Int × Unit)) : (Unit) :=
  ()

def f120_L2_e2 (y : (Int × (List Int) × (List D57) × (List Int) × Int × Unit)) (x : (Int × Unit)) : Bool :=
  let a14 := y.2.2.2.2.1 
  let a15 := x.1 
  let v16 := (decide (a15 < a14))
  (!v16)

def f120_L2_ly : List (Nat × Sh) := [(0, (.val (.int .i64))), (1, (.val (.sl (.int .i64)))), (2, (.val (.sl T57))), (13, (.val (.sl (.int .i64)))), (14, (.val (.int .i64)))]
def f120_L2_lx : List (Nat × Sh) := [(15, (.val (.int .i64)))]
def f120_L2_les : List (List (Nat × Sh)) := [[(6, (.val .bool))], [(0, (.val (.int .i64))), (1, (.val (.sl (.int .i64)))), (2, (.val (.sl T57)))]]

def f120_L2_es (y : denL f120_L2_ly) (x : denL f120_L2_lx) : List Comp := [⟨1, some (f120_L2_e1 y x), mkSt [(6, (.val .bool))] ((f120_L2_x1 y x).1, ()) ++ cutSt⟩, ⟨2, some (f120_L2_e2 y x), mkSt [(0, (.val (.int .i64))), (1, (.val (.sl (.int .i64)))), (2, (.val (.sl T57)))] (y.1, y.2.1, y.2.2.1, ()) ++ cutSt⟩]

def f120_L2_spec : St → Option Out := loopS f120_L2_ly f120_L2_lx f120_L2_g f120_L2_next f120_L2_ok f120_L2_es

def f120_L11_g (y : ((List D57) × Int × Unit)) (x : (Int × Unit)) : Bool :=
  let a55 := y.1 
  let a56 := y.2.1 
  let a57 := x.1 
  let v58 := (decide (a57 < a56))
  let v59 := (nth a55 a57 Z57)
  let v63 := (decide (v59.1 < (0 : Int)))
  let v67 := (decide (v59.1 > (65535 : Int)))
  let v68 := (bif v63 then true else v67)
  let v72 := (f108 v59.2.1)
  let v73 := (!v72)
  let v74 := (bif v68 then true else v73)
  let c := (v58 && (!v74))
  c

def f120_L11_next (y : ((List D57) × Int × Unit)) (x : (Int × Unit)) : (Int × Unit) :=
  let a57 := x.1 
  let v75 := (a57 + (1 : Int))
  (v75, ())

def f120_L11_ok (y : ((List D57) × Int × Unit)) (x : (Int × Unit)) : Prop :=
  let a55 := y.1 
  let a56 := y.2.1 
  let a57 := x.1 
  let v58 := (decide (a57 < a56))
  let v59 := (nth a55 a57 Z57)
  let v63 := (decide (v59.1 < (0 : Int)))
  let v67 := (decide (v59.1 > (65535 : Int)))
  let v68 := (bif v63 then true else v67)
  let g69_2 := (!v68)
  let v72 := (f108 v59.2.1)
  let v73 := (!v72)
  let v74 := (bif v68 then true else v73)
  (v58 = true → (InB a57 (len a55) ∧ ((g69_2 = true → (f108_ok v59.2.1)) ∧ ((!v74) = true → InR (a57 + (1 : Int))))))

instance (y : ((List D57) × Int × Unit)) (x : (Int × Unit)) : Decidable (f120_L11_ok y x) := by
  unfold f120_L11_ok
  try dsimp only
  infer_instance

def f120_L11_x1 (y : ((List D57) × Int × Unit)) (x : (Int × Unit)) : (Bool × Unit) :=
  (false, ())

def f120_L11_e1 (y : ((List D57) × Int × Unit)) (x : (Int × Unit)) : Bool :=
  let a55 := y.1 
  let a56 := y.2.1 
  let a57 := x.1 
  let v58 := (decide (a57 < a56))
  let v59 := (nth a55 a57 Z57)
  let v63 := (decide (v59.1 < (0 : Int)))
  let v67 := (decide (v59.1 > (65535 : Int)))
  let v68 := (bif v63 then true else v67)
  let v72 := (f108 v59.2.1)
  let v73 := (!v72)
  let v74 := (bif v68 then true else v73)
  let c_1 := (v58 && v74)
  c_1

def f120_L11_x4 (y : ((List D57) × Int × Unit)) (x : (Int × Unit)) : (Unit) :=
  ()

def f120_L11_e4 (y : ((List D57) × Int × Unit)) (x : (Int × Unit)) : Bool :=
  let a56 := y.2.1 
  let a57 := x.1 
  let v58 := (decide (a57 < a56))
  (!v58)

def f120_L11_ly : List (Nat × Sh) := [(55, (.val (.sl T57))), (56, (.val (.int .i64)))]
def f120_L11_lx : List (Nat × Sh) := [(57, (.val (.int .i64)))]
def f120_L11_les : List (List (Nat × Sh)) := [[(6, (.val .bool))], []]

def f120_L11_es (y : denL f120_L11_ly) (x : denL f120_L11_lx) : List Comp := [⟨1, some (f120_L11_e1 y x), mkSt [(6, (.val .bool))] ((f120_L11_x1 y x).1, ()) ++ cutSt⟩, ⟨4, some (f120_L11_e4 y x), mkSt [] () ++ cutSt⟩]

def f120_L11_spec : St → Option Out := loopS f120_L11_ly f120_L11_lx f120_L11_g f120_L11_next f120_L11_ok f120_L11_es

def f120 (p0 : Int) (p1 : (List Int)) (p2 : (List D57)) : Bool :=
  let v14 := (len p1)
  let y2 := (p0, p1, p2, p1, v14, ())
  let x2 := ((0 : Int), ())
  let e2 := (loopEnd (f120_L2_g y2) (f120_L2_next y2) x2)
  let r2_1 := (f120_L2_x1 y2 e2)
  let q2_1 := (f120_L2_e1 y2 e2)
  let v36 := (p0 == (9 : Int))
  let v39 := (nth p1 (0 : Int) (0 : Int))
  let v41 := (v39 == (0 : Int))
  let v42 := (bif v36 then v41 else false)
  let v45 := (nth p1 (1 : Int) (0 : Int))
  let v47 := (v45 == (0 : Int))
  let v48 := (bif v42 then v47 else false)
  let v51 := (nth p1 (2 : Int) (0 : Int))
  let v53 := (v51 == (0 : Int))
  let v54 := (bif v48 then v53 else false)
  let v56 := (len p2)
  let y11 := (p2, v56, ())
  let x11 := ((0 : Int), ())
  let e11 := (loopEnd (f120_L11_g y11) (f120_L11_next y11) x11)
  let r11_1 := (f120_L11_x1 y11 e11)
  let q11_1 := (f120_L11_e1 y11 e11)
  let m6 := (bif q11_1 then r11_1.1 else true)
  let m6_1 := (bif v54 then false else m6)
  let m6_2 := (bif q2_1 then r2_1.1 else m6_1)
  m6_2

def f120_ok (p0 : Int) (p1 : (List Int)) (p2 : (List D57)) : Prop :=
  let v14 := (len p1)
  let y2 := (p0, p1, p2, p1, v14, ())
  let x2 := ((0 : Int), ())
  let e2 := (loopEnd (f120_L2_g y2) (f120_L2_next y2) x2)
  let q2_2 := (f120_L2_e2 y2 e2)
  let v36 := (p0 == (9 : Int))
  let v39 := (nth p1 (0 : Int) (0 : Int))
  let v41 := (v39 == (0 : Int))
  let v42 := (bif v36 then v41 else false)
  let v45 := (nth p1 (1 : Int) (0 : Int))
  let v47 := (v45 == (0 : Int))
  let v48 := (bif v42 then v47 else false)
  let v51 := (nth p1 (2 : Int) (0 : Int))
  let v53 := (v51 == (0 : Int))
  let v54 := (bif v48 then v53 else false)
  let v56 := (len p2)
  let y11 := (p2, v56, ())
  let x11 := ((0 : Int), ())
  ((Am.Ends (f120_L2_g y2) (f120_L2_next y2) (f120_L2_ok y2) x2) ∧ (q2_2 = true → ((v36 = true → InB (0 : Int) (len p1)) ∧ ((v42 = true → InB (1 : Int) (len p1)) ∧ ((v48 = true → InB (2 : Int) (len p1)) ∧ ((!v54) = true → (Am.Ends (f120_L11_g y11) (f120_L11_next y11) (f120_L11_ok y11) x11)))))))

instance (p0 : Int) (p1 : (List Int)) (p2 : (List D57)) : Decidable (f120_ok p0 p1 p2) := by
  unfold f120_ok
  try dsimp only
  infer_instance

def f120_ps : List (Nat × Sh) := [(0, (.val (.int .i64))), (1, (.val (.sl (.int .i64)))), (2, (.val (.sl T57)))]
def f120_rs : Sh := (.val .bool)
def f120_os : List (Nat × Sh) := []

def f120_spec : Am.Spec := fnSpec f120_ps f120_rs f120_os (fun x => f120_ok x.1 x.2.1 x.2.2.1) (fun x => f120 x.1 x.2.1 x.2.2.1) (fun _ => ())

def f120_ctx : Ctx := { tys := tys, fns := [(108, f108_spec), (160, f160_spec)], loops := [(2, f120_L2_spec), (11, f120_L11_spec)], gh := [], wrap := false, n := 76, keep := [], wr := [] }

theorem f120_cok : CtxOk Tryz.prog f120_ctx := ctxOk_mk tys_ok ⟨f108_is, f160_is, trivial⟩ rfl (by kernel_rfl)

noncomputable def f120_code : Code := Tryz.f120.body.getD .skip

noncomputable def f120_L2 : Code := nthLoop f120_code 0

theorem f120_L2_sum : ∀ y x, sumLoop f120_ctx f120_L2 f120_L2_ly f120_L2_lx f120_L2_les y x = some (f120_L2_ok y x, f120_L2_g y x, y, f120_L2_next y x, f120_L2_es y x) := fun y x => by kernel_rfl

theorem f120_L2_is : LoopSnd Tryz.prog f120_ctx f120_L2 := loop_gen f120_cok mixed (bs := []) (by kernel_rfl) trivial (by kernel_rfl) (by kernel_rfl) f120_L2_sum

noncomputable def f120_L11 : Code := nthLoop f120_code 1

theorem f120_L11_sum : ∀ y x, sumLoop f120_ctx f120_L11 f120_L11_ly f120_L11_lx f120_L11_les y x = some (f120_L11_ok y x, f120_L11_g y x, y, f120_L11_next y x, f120_L11_es y x) := fun y x => by kernel_rfl

theorem f120_L11_is : LoopSnd Tryz.prog f120_ctx f120_L11 := loop_gen f120_cok mixed (bs := []) (by kernel_rfl) trivial (by kernel_rfl) (by kernel_rfl) f120_L11_sum

theorem f120_sum : ∀ x, sumFn f120_ctx f120_code Tryz.f120.results.toList f120_ps f120_rs f120_os x = some (f120_ok x.1 x.2.1 x.2.2.1, f120 x.1 x.2.1 x.2.2.1, ()) := fun x => by kernel_rfl

theorem f120_is : SpecOk Tryz.prog 120 f120_spec := func_gen f120_cok mixed Tryz.func120 (by kernel_rfl) (by decide) rfl (bs := [f120_L2, f120_L11]) (by kernel_rfl) ⟨f120_L2_is, f120_L11_is, trivial⟩ (by kernel_rfl) (by kernel_rfl) rfl f120_sum

-- imageeditor/adjust.ordered
def f121_L5_g (y : ((List Int) × (List D57) × Unit)) (x : (Int × Unit)) : Bool :=
  let a1 := y.1 
  let a7 := x.1 
  let v24 := (len a1)
  let v25 := (decide (a7 < v24))
  let v30 := (nth a1 a7 (0 : Int))
  let v34 := (a7 - (2 : Int))
  let v35 := (nth a1 v34 (0 : Int))
  let v37 := (decide (v30 ≤ v35))
  let c := (v25 && (!v37))
  c

def f121_L5_next (y : ((List Int) × (List D57) × Unit)) (x : (Int × Unit)) : (Int × Unit) :=
  let a7 := x.1 
  let v27 := (a7 + (2 : Int))
  (v27, ())

def f121_L5_ok (y : ((List Int) × (List D57) × Unit)) (x : (Int × Unit)) : Prop :=
  let a1 := y.1 
  let a7 := x.1 
  let v24 := (len a1)
  let v25 := (decide (a7 < v24))
  let v30 := (nth a1 a7 (0 : Int))
  let v34 := (a7 - (2 : Int))
  let v35 := (nth a1 v34 (0 : Int))
  let v37 := (decide (v30 ≤ v35))
  (v25 = true → (InB a7 (len a1) ∧ (InR (a7 - (2 : Int)) ∧ (InB v34 (len a1) ∧ ((!v37) = true → InR (a7 + (2 : Int)))))))

instance (y : ((List Int) × (List D57) × Unit)) (x : (Int × Unit)) : Decidable (f121_L5_ok y x) := by
  unfold f121_L5_ok
  try dsimp only
  infer_instance

def f121_L5_x1 (y : ((List Int) × (List D57) × Unit)) (x : (Int × Unit)) : (Bool × Unit) :=
  (false, ())

def f121_L5_e1 (y : ((List Int) × (List D57) × Unit)) (x : (Int × Unit)) : Bool :=
  let a1 := y.1 
  let a7 := x.1 
  let v24 := (len a1)
  let v25 := (decide (a7 < v24))
  let v30 := (nth a1 a7 (0 : Int))
  let v34 := (a7 - (2 : Int))
  let v35 := (nth a1 v34 (0 : Int))
  let v37 := (decide (v30 ≤ v35))
  let c_1 := (v25 && v37)
  c_1

def f121_L5_x2 (y : ((List Int) × (List D57) × Unit)) (x : (Int × Unit)) : (Unit) :=
  ()

def f121_L5_e2 (y : ((List Int) × (List D57) × Unit)) (x : (Int × Unit)) : Bool :=
  let a1 := y.1 
  let a7 := x.1 
  let v24 := (len a1)
  let v25 := (decide (a7 < v24))
  (!v25)

def f121_L5_ly : List (Nat × Sh) := [(1, (.val (.sl (.int .i64)))), (2, (.val (.sl T57)))]
def f121_L5_lx : List (Nat × Sh) := [(7, (.val (.int .i64)))]
def f121_L5_les : List (List (Nat × Sh)) := [[(6, (.val .bool))], [(2, (.val (.sl T57)))]]

def f121_L5_es (y : denL f121_L5_ly) (x : denL f121_L5_lx) : List Comp := [⟨1, some (f121_L5_e1 y x), mkSt [(6, (.val .bool))] ((f121_L5_x1 y x).1, ()) ++ cutSt⟩, ⟨2, some (f121_L5_e2 y x), mkSt [(2, (.val (.sl T57)))] (y.2.1, ()) ++ cutSt⟩]

def f121_L5_spec : St → Option Out := loopS f121_L5_ly f121_L5_lx f121_L5_g f121_L5_next f121_L5_ok f121_L5_es

def f121_L10_g (y : ((List D57) × Unit)) (x : (Int × Unit)) : Bool :=
  let a2 := y.1 
  let a8 := x.1 
  let v40 := (len a2)
  let v41 := (decide (a8 < v40))
  let v46 := (nth a2 a8 Z57)
  let v51 := (a8 - (1 : Int))
  let v52 := (nth a2 v51 Z57)
  let v55 := (decide (v46.1 ≤ v52.1))
  let c := (v41 && (!v55))
  c

def f121_L10_next (y : ((List D57) × Unit)) (x : (Int × Unit)) : (Int × Unit) :=
  let a8 := x.1 
  let v43 := (a8 + (1 : Int))
  (v43, ())

def f121_L10_ok (y : ((List D57) × Unit)) (x : (Int × Unit)) : Prop :=
  let a2 := y.1 
  let a8 := x.1 
  let v40 := (len a2)
  let v41 := (decide (a8 < v40))
  let v46 := (nth a2 a8 Z57)
  let v51 := (a8 - (1 : Int))
  let v52 := (nth a2 v51 Z57)
  let v55 := (decide (v46.1 ≤ v52.1))
  (v41 = true → (InB a8 (len a2) ∧ (InR (a8 - (1 : Int)) ∧ (InB v51 (len a2) ∧ ((!v55) = true → InR (a8 + (1 : Int)))))))

instance (y : ((List D57) × Unit)) (x : (Int × Unit)) : Decidable (f121_L10_ok y x) := by
  unfold f121_L10_ok
  try dsimp only
  infer_instance

def f121_L10_x1 (y : ((List D57) × Unit)) (x : (Int × Unit)) : (Bool × Unit) :=
  (false, ())

def f121_L10_e1 (y : ((List D57) × Unit)) (x : (Int × Unit)) : Bool :=
  let a2 := y.1 
  let a8 := x.1 
  let v40 := (len a2)
  let v41 := (decide (a8 < v40))
  let v46 := (nth a2 a8 Z57)
  let v51 := (a8 - (1 : Int))
  let v52 := (nth a2 v51 Z57)
  let v55 := (decide (v46.1 ≤ v52.1))
  let c_1 := (v41 && v55)
  c_1

def f121_L10_x4 (y : ((List D57) × Unit)) (x : (Int × Unit)) : (Unit) :=
  ()

def f121_L10_e4 (y : ((List D57) × Unit)) (x : (Int × Unit)) : Bool :=
  let a2 := y.1 
  let a8 := x.1 
  let v40 := (len a2)
  let v41 := (decide (a8 < v40))
  (!v41)

def f121_L10_ly : List (Nat × Sh) := [(2, (.val (.sl T57)))]
def f121_L10_lx : List (Nat × Sh) := [(8, (.val (.int .i64)))]
def f121_L10_les : List (List (Nat × Sh)) := [[(6, (.val .bool))], []]

def f121_L10_es (y : denL f121_L10_ly) (x : denL f121_L10_lx) : List Comp := [⟨1, some (f121_L10_e1 y x), mkSt [(6, (.val .bool))] ((f121_L10_x1 y x).1, ()) ++ cutSt⟩, ⟨4, some (f121_L10_e4 y x), mkSt [] () ++ cutSt⟩]

def f121_L10_spec : St → Option Out := loopS f121_L10_ly f121_L10_lx f121_L10_g f121_L10_next f121_L10_ok f121_L10_es

def f121 (p0 : Int) (p1 : (List Int)) (p2 : (List D57)) : Bool :=
  let v10 := (p0 == (2 : Int))
  let v13 := (nth p1 (1 : Int) (0 : Int))
  let v16 := (nth p1 (0 : Int) (0 : Int))
  let v18 := (decide (v13 ≤ v16))
  let v19 := (bif v10 then v18 else false)
  let v21 := (p0 == (3 : Int))
  let y5 := (p1, p2, ())
  let x5 := ((2 : Int), ())
  let e5 := (loopEnd (f121_L5_g y5) (f121_L5_next y5) x5)
  let r5_1 := (f121_L5_x1 y5 e5)
  let q5_1 := (f121_L5_e1 y5 e5)
  let m2 := (bif v21 then p2 else p2)
  let c_1 := (q5_1 && v21)
  let y10 := (m2, ())
  let x10 := ((1 : Int), ())
  let e10 := (loopEnd (f121_L10_g y10) (f121_L10_next y10) x10)
  let r10_1 := (f121_L10_x1 y10 e10)
  let q10_1 := (f121_L10_e1 y10 e10)
  let m6 := (bif q10_1 then r10_1.1 else true)
  let m6_1 := (bif c_1 then r5_1.1 else m6)
  let m6_2 := (bif v19 then false else m6_1)
  m6_2

def f121_ok (p0 : Int) (p1 : (List Int)) (p2 : (List D57)) : Prop :=
  let v10 := (p0 == (2 : Int))
  let v13 := (nth p1 (1 : Int) (0 : Int))
  let v16 := (nth p1 (0 : Int) (0 : Int))
  let v18 := (decide (v13 ≤ v16))
  let v19 := (bif v10 then v18 else false)
  let v21 := (p0 == (3 : Int))
  let y5 := (p1, p2, ())
  let x5 := ((2 : Int), ())
  let e5 := (loopEnd (f121_L5_g y5) (f121_L5_next y5) x5)
  let q5_2 := (f121_L5_e2 y5 e5)
  let c := (bif v21 then q5_2 else true)
  let m2 := (bif v21 then p2 else p2)
  let y10 := (m2, ())
  let x10 := ((1 : Int), ())
  ((v10 = true → InB (1 : Int) (len p1)) ∧ ((v10 = true → InB (0 : Int) (len p1)) ∧ ((!v19) = true → ((v21 = true → (Am.Ends (f121_L5_g y5) (f121_L5_next y5) (f121_L5_ok y5) x5)) ∧ (c = true → (Am.Ends (f121_L10_g y10) (f121_L10_next y10) (f121_L10_ok y10) x10))))))

instance (p0 : Int) (p1 : (List Int)) (p2 : (List D57)) : Decidable (f121_ok p0 p1 p2) := by
  unfold f121_ok
  try dsimp only
  infer_instance

def f121_ps : List (Nat × Sh) := [(0, (.val (.int .i64))), (1, (.val (.sl (.int .i64)))), (2, (.val (.sl T57)))]
def f121_rs : Sh := (.val .bool)
def f121_os : List (Nat × Sh) := []

def f121_spec : Am.Spec := fnSpec f121_ps f121_rs f121_os (fun x => f121_ok x.1 x.2.1 x.2.2.1) (fun x => f121 x.1 x.2.1 x.2.2.1) (fun _ => ())

def f121_ctx : Ctx := { tys := tys, fns := [], loops := [(5, f121_L5_spec), (10, f121_L10_spec)], gh := [], wrap := false, n := 56, keep := [], wr := [] }

theorem f121_cok : CtxOk Tryz.prog f121_ctx := ctxOk_mk tys_ok trivial rfl (by kernel_rfl)

noncomputable def f121_code : Code := Tryz.f121.body.getD .skip

noncomputable def f121_L5 : Code := nthLoop f121_code 0

theorem f121_L5_sum : ∀ y x, sumLoop f121_ctx f121_L5 f121_L5_ly f121_L5_lx f121_L5_les y x = some (f121_L5_ok y x, f121_L5_g y x, y, f121_L5_next y x, f121_L5_es y x) := fun y x => by kernel_rfl

theorem f121_L5_is : LoopSnd Tryz.prog f121_ctx f121_L5 := loop_gen f121_cok mixed (bs := []) (by kernel_rfl) trivial (by kernel_rfl) (by kernel_rfl) f121_L5_sum

noncomputable def f121_L10 : Code := nthLoop f121_code 1

theorem f121_L10_sum : ∀ y x, sumLoop f121_ctx f121_L10 f121_L10_ly f121_L10_lx f121_L10_les y x = some (f121_L10_ok y x, f121_L10_g y x, y, f121_L10_next y x, f121_L10_es y x) := fun y x => by kernel_rfl

theorem f121_L10_is : LoopSnd Tryz.prog f121_ctx f121_L10 := loop_gen f121_cok mixed (bs := []) (by kernel_rfl) trivial (by kernel_rfl) (by kernel_rfl) f121_L10_sum

theorem f121_sum : ∀ x, sumFn f121_ctx f121_code Tryz.f121.results.toList f121_ps f121_rs f121_os x = some (f121_ok x.1 x.2.1 x.2.2.1, f121 x.1 x.2.1 x.2.2.1, ()) := fun x => by kernel_rfl

theorem f121_is : SpecOk Tryz.prog 121 f121_spec := func_gen f121_cok mixed Tryz.func121 (by kernel_rfl) (by decide) rfl (bs := [f121_L5, f121_L10]) (by kernel_rfl) ⟨f121_L5_is, f121_L10_is, trivial⟩ (by kernel_rfl) (by kernel_rfl) rfl f121_sum

-- imageeditor/adjust.Check
def f79 (p0 : Int) (p1 : (List Int)) (p2 : (List D57)) : Int :=
  let v9 := (decide (p0 < (1 : Int)))
  let v12 := (decide (p0 > (11 : Int)))
  let v13 := (bif v9 then true else v12)
  let v17 := (len p1)
  let v18 := (f119 p0 v17)
  let v19 := (!v18)
  let v22 := (len p2)
  let v23 := (decide (v22 > (0 : Int)))
  let v25 := (p0 == (10 : Int))
  let v26 := (!(Ty.eqb .bool v23 v25))
  let v27 := (bif v19 then true else v26)
  let v30 := (len p2)
  let v31 := (decide (v30 > (16 : Int)))
  let v36 := (f120 p0 p1 p2)
  let v37 := (!v36)
  let v42 := (f121 p0 p1 p2)
  let v43 := (!v42)
  let c := (bif v37 then true else v43)
  let m6 := (bif v37 then (2 : Int) else (24 : Int))
  let c_2 := (bif v31 then true else c)
  let m6_1 := (bif v31 then (3 : Int) else m6)
  let c_4 := (bif v27 then true else c_2)
  let m6_2 := (bif v27 then (1 : Int) else m6_1)
  let c_6 := (bif v13 then true else c_4)
  let m6_3 := (bif v13 then (8 : Int) else m6_2)
  let m6_4 := (bif c_6 then m6_3 else (0 : Int))
  m6_4

def f79_ok (p0 : Int) (p1 : (List Int)) (p2 : (List D57)) : Prop :=
  let v9 := (decide (p0 < (1 : Int)))
  let v12 := (decide (p0 > (11 : Int)))
  let v13 := (bif v9 then true else v12)
  let v17 := (len p1)
  let v18 := (f119 p0 v17)
  let v19 := (!v18)
  let v22 := (len p2)
  let v23 := (decide (v22 > (0 : Int)))
  let v25 := (p0 == (10 : Int))
  let v26 := (!(Ty.eqb .bool v23 v25))
  let v27 := (bif v19 then true else v26)
  let v30 := (len p2)
  let v31 := (decide (v30 > (16 : Int)))
  let v36 := (f120 p0 p1 p2)
  let v37 := (!v36)
  (v13 = false → ((f119_ok p0 v17) ∧ (v27 = false → (v31 = false → ((f120_ok p0 p1 p2) ∧ (v37 = false → (f121_ok p0 p1 p2)))))))

instance (p0 : Int) (p1 : (List Int)) (p2 : (List D57)) : Decidable (f79_ok p0 p1 p2) := by
  unfold f79_ok
  try dsimp only
  infer_instance

def f79_ps : List (Nat × Sh) := [(0, (.val (.int .i64))), (1, (.val (.sl (.int .i64)))), (2, (.val (.sl T57)))]
def f79_rs : Sh := (.val (.int .i64))
def f79_os : List (Nat × Sh) := []

def f79_spec : Am.Spec := fnSpec f79_ps f79_rs f79_os (fun x => f79_ok x.1 x.2.1 x.2.2.1) (fun x => f79 x.1 x.2.1 x.2.2.1) (fun _ => ())

def f79_ctx : Ctx := { tys := tys, fns := [(119, f119_spec), (120, f120_spec), (121, f121_spec)], loops := [], gh := [], wrap := false, n := 44, keep := [], wr := [] }

theorem f79_cok : CtxOk Tryz.prog f79_ctx := ctxOk_mk tys_ok ⟨f119_is, f120_is, f121_is, trivial⟩ rfl (by kernel_rfl)

noncomputable def f79_code : Code := Tryz.f79.body.getD .skip

theorem f79_sum : ∀ x, sumFn f79_ctx f79_code Tryz.f79.results.toList f79_ps f79_rs f79_os x = some (f79_ok x.1 x.2.1 x.2.2.1, f79 x.1 x.2.1 x.2.2.1, ()) := fun x => by kernel_rfl

theorem f79_is : SpecOk Tryz.prog 79 f79_spec := func_gen f79_cok mixed Tryz.func79 (by kernel_rfl) (by decide) rfl (bs := []) (by kernel_rfl) trivial (by kernel_rfl) (by kernel_rfl) rfl f79_sum

-- imageeditor/filter.spans
def f122 (p0 : Int) : (List D59) :=
  let v5 := (p0 == (1 : Int))
  let v6 := (p0 == (7 : Int))
  let v7 := (p0 == (8 : Int))
  let m4 := (bif v6 then v6 else v7)
  let m4_1 := (bif v5 then v5 else m4)
  let s := ((0 : Int), (16 : Int), ())
  let v9 := ([s] : List D59)
  let v11 := (p0 == (2 : Int))
  let s_1 := ((0 : Int), (7 : Int), ())
  let v13 := ([s_1] : List D59)
  let v15 := (p0 == (4 : Int))
  let s_2 := ((0 : Int), (4 : Int), ())
  let v17 := ([s_2] : List D59)
  let v19 := (p0 == (3 : Int))
  let s_3 := ((0 : Int), (16 : Int), ())
  let s_4 := ((0 : Int), (262140 : Int), ())
  let v22 := ([s_3, s_4] : List D59)
  let v24 := (p0 == (9 : Int))
  let s_5 := ((-16 : Int), (16 : Int), ())
  let s_6 := ((-16 : Int), (16 : Int), ())
  let v27 := ([s_5, s_6] : List D59)
  let v29 := (p0 == (10 : Int))
  let s_7 := ((1 : Int), (16 : Int), ())
  let v31 := ([s_7] : List D59)
  let c := (bif v24 then true else v29)
  let m2 := (bif v24 then v27 else v31)
  let c_2 := (bif v19 then true else c)
  let m2_1 := (bif v19 then v22 else m2)
  let c_4 := (bif v15 then true else c_2)
  let m2_2 := (bif v15 then v17 else m2_1)
  let c_6 := (bif v11 then true else c_4)
  let m2_3 := (bif v11 then v13 else m2_2)
  let c_8 := (bif m4_1 then true else c_6)
  let m2_4 := (bif m4_1 then v9 else m2_3)
  let m2_5 := (bif c_8 then m2_4 else [])
  m2_5

def f122_ok (p0 : Int) : Prop :=
  True

instance (p0 : Int) : Decidable (f122_ok p0) := by
  unfold f122_ok
  try dsimp only
  infer_instance

def f122_ps : List (Nat × Sh) := [(0, (.val (.int .i64)))]
def f122_rs : Sh := (.own T59 0 false)
def f122_os : List (Nat × Sh) := []

def f122_spec : Am.Spec := fnSpec f122_ps f122_rs f122_os (fun x => f122_ok x.1) (fun x => f122 x.1) (fun _ => ())

def f122_ctx : Ctx := { tys := tys, fns := [], loops := [], gh := [(11, [(4, 0, 9, 0)]), (15, [(4, 0, 13, 0)]), (19, [(4, 0, 17, 0)]), (23, [(4, 0, 22, 0)]), (27, [(4, 0, 27, 0)]), (31, [(4, 0, 31, 0)])], wrap := false, n := 32, keep := [], wr := [] }

theorem f122_cok : CtxOk Tryz.prog f122_ctx := ctxOk_mk tys_ok trivial rfl (by kernel_rfl)

noncomputable def f122_code : Code := Tryz.f122.body.getD .skip

theorem f122_sum : ∀ x, sumFn f122_ctx f122_code Tryz.f122.results.toList f122_ps f122_rs f122_os x = some (f122_ok x.1, f122 x.1, ()) := fun x => by kernel_rfl

theorem f122_is : SpecOk Tryz.prog 122 f122_spec := func_gen f122_cok mixed Tryz.func122 (by kernel_rfl) (by decide) rfl (bs := []) (by kernel_rfl) trivial (by kernel_rfl) (by kernel_rfl) rfl f122_sum

-- imageeditor/filter.Check
def f80_L7_g (y : ((List D59) × (List Int) × Int × Unit)) (x : (Int × Unit)) : Bool :=
  let a5 := y.1 
  let a21 := y.2.1 
  let a22 := y.2.2.1 
  let a23 := x.1 
  let v24 := (decide (a23 < a22))
  let v26 := (nth a21 a23 (0 : Int))
  let v31 := (nth a5 a23 Z59)
  let v34 := (decide (v26 < v31.1))
  let v39 := (nth a5 a23 Z59)
  let v42 := (decide (v26 > v39.2.1))
  let v43 := (bif v34 then true else v42)
  let c := (v24 && (!v43))
  c

def f80_L7_next (y : ((List D59) × (List Int) × Int × Unit)) (x : (Int × Unit)) : (Int × Unit) :=
  let a23 := x.1 
  let v44 := (a23 + (1 : Int))
  (v44, ())

def f80_L7_ok (y : ((List D59) × (List Int) × Int × Unit)) (x : (Int × Unit)) : Prop :=
  let a5 := y.1 
  let a21 := y.2.1 
  let a22 := y.2.2.1 
  let a23 := x.1 
  let v24 := (decide (a23 < a22))
  let v26 := (nth a21 a23 (0 : Int))
  let v31 := (nth a5 a23 Z59)
  let v34 := (decide (v26 < v31.1))
  let g35_3 := (!v34)
  let v39 := (nth a5 a23 Z59)
  let v42 := (decide (v26 > v39.2.1))
  let v43 := (bif v34 then true else v42)
  (v24 = true → (InB a23 (len a21) ∧ (InB a23 (len a5) ∧ ((g35_3 = true → InB a23 (len a5)) ∧ ((!v43) = true → InR (a23 + (1 : Int)))))))

instance (y : ((List D59) × (List Int) × Int × Unit)) (x : (Int × Unit)) : Decidable (f80_L7_ok y x) := by
  unfold f80_L7_ok
  try dsimp only
  infer_instance

def f80_L7_x1 (y : ((List D59) × (List Int) × Int × Unit)) (x : (Int × Unit)) : (Int × Unit) :=
  ((2 : Int), ())

def f80_L7_e1 (y : ((List D59) × (List Int) × Int × Unit)) (x : (Int × Unit)) : Bool :=
  let a5 := y.1 
  let a21 := y.2.1 
  let a22 := y.2.2.1 
  let a23 := x.1 
  let v24 := (decide (a23 < a22))
  let v26 := (nth a21 a23 (0 : Int))
  let v31 := (nth a5 a23 Z59)
  let v34 := (decide (v26 < v31.1))
  let v39 := (nth a5 a23 Z59)
  let v42 := (decide (v26 > v39.2.1))
  let v43 := (bif v34 then true else v42)
  let c_1 := (v24 && v43)
  c_1

def f80_L7_x2 (y : ((List D59) × (List Int) × Int × Unit)) (x : (Int × Unit)) : (Unit) :=
  ()

def f80_L7_e2 (y : ((List D59) × (List Int) × Int × Unit)) (x : (Int × Unit)) : Bool :=
  let a22 := y.2.2.1 
  let a23 := x.1 
  let v24 := (decide (a23 < a22))
  (!v24)

def f80_L7_ly : List (Nat × Sh) := [(5, (.own T59 1005 false)), (21, (.val (.sl (.int .i64)))), (22, (.val (.int .i64)))]
def f80_L7_lx : List (Nat × Sh) := [(23, (.val (.int .i64)))]
def f80_L7_les : List (List (Nat × Sh)) := [[(4, (.val (.int .i64)))], []]

def f80_L7_es (y : denL f80_L7_ly) (x : denL f80_L7_lx) : List Comp := [⟨1, some (f80_L7_e1 y x), mkSt [(4, (.val (.int .i64)))] ((f80_L7_x1 y x).1, ()) ++ cutSt⟩, ⟨2, some (f80_L7_e2 y x), mkSt [] () ++ cutSt⟩]

def f80_L7_spec : St → Option Out := loopS f80_L7_ly f80_L7_lx f80_L7_g f80_L7_next f80_L7_ok f80_L7_es

def f80 (p0 : Int) (p1 : (List Int)) : Int :=
  let v9 := (decide (p0 < (1 : Int)))
  let v12 := (decide (p0 > (10 : Int)))
  let v13 := (bif v9 then true else v12)
  let v15 := (f122 p0)
  let v17 := (len p1)
  let v19 := (len v15)
  let v20 := (v17 != v19)
  let v22 := (len p1)
  let y7 := (v15, p1, v22, ())
  let x7 := ((0 : Int), ())
  let e7 := (loopEnd (f80_L7_g y7) (f80_L7_next y7) x7)
  let r7_1 := (f80_L7_x1 y7 e7)
  let q7_1 := (f80_L7_e1 y7 e7)
  let m4 := (bif q7_1 then r7_1.1 else (0 : Int))
  let m4_1 := (bif v20 then (1 : Int) else m4)
  let m4_2 := (bif v13 then (8 : Int) else m4_1)
  m4_2

def f80_ok (p0 : Int) (p1 : (List Int)) : Prop :=
  let v9 := (decide (p0 < (1 : Int)))
  let v12 := (decide (p0 > (10 : Int)))
  let v13 := (bif v9 then true else v12)
  let v15 := (f122 p0)
  let v17 := (len p1)
  let v19 := (len v15)
  let v20 := (v17 != v19)
  let v22 := (len p1)
  let y7 := (v15, p1, v22, ())
  let x7 := ((0 : Int), ())
  ((!v13) = true → ((f122_ok p0) ∧ ((!v20) = true → (Am.Ends (f80_L7_g y7) (f80_L7_next y7) (f80_L7_ok y7) x7))))

instance (p0 : Int) (p1 : (List Int)) : Decidable (f80_ok p0 p1) := by
  unfold f80_ok
  try dsimp only
  infer_instance

def f80_ps : List (Nat × Sh) := [(0, (.val (.int .i64))), (1, (.val (.sl (.int .i64))))]
def f80_rs : Sh := (.val (.int .i64))
def f80_os : List (Nat × Sh) := []

def f80_spec : Am.Spec := fnSpec f80_ps f80_rs f80_os (fun x => f80_ok x.1 x.2.1) (fun x => f80 x.1 x.2.1) (fun _ => ())

def f80_ctx : Ctx := { tys := tys, fns := [(122, f122_spec)], loops := [(7, f80_L7_spec)], gh := [(7, [(4, 0, 15, 1005)])], wrap := false, n := 45, keep := [], wr := [] }

theorem f80_cok : CtxOk Tryz.prog f80_ctx := ctxOk_mk tys_ok ⟨f122_is, trivial⟩ rfl (by kernel_rfl)

noncomputable def f80_code : Code := Tryz.f80.body.getD .skip

noncomputable def f80_L7 : Code := nthLoop f80_code 0

theorem f80_L7_sum : ∀ y x, sumLoop f80_ctx f80_L7 f80_L7_ly f80_L7_lx f80_L7_les y x = some (f80_L7_ok y x, f80_L7_g y x, y, f80_L7_next y x, f80_L7_es y x) := fun y x => by kernel_rfl

theorem f80_L7_is : LoopSnd Tryz.prog f80_ctx f80_L7 := loop_gen f80_cok mixed (bs := []) (by kernel_rfl) trivial (by kernel_rfl) (by kernel_rfl) f80_L7_sum

theorem f80_sum : ∀ x, sumFn f80_ctx f80_code Tryz.f80.results.toList f80_ps f80_rs f80_os x = some (f80_ok x.1 x.2.1, f80 x.1 x.2.1, ()) := fun x => by kernel_rfl

theorem f80_is : SpecOk Tryz.prog 80 f80_spec := func_gen f80_cok mixed Tryz.func80 (by kernel_rfl) (by decide) rfl (bs := [f80_L7]) (by kernel_rfl) ⟨f80_L7_is, trivial⟩ (by kernel_rfl) (by kernel_rfl) rfl f80_sum

-- imageeditor/warp.Check
def f81_L6_g (y : ((List D59) × Int × Unit)) (x : (Int × Unit)) : Bool :=
  let a43 := y.1 
  let a44 := y.2.1 
  let a45 := x.1 
  let v46 := (decide (a45 < a44))
  let v47 := (nth a43 a45 Z59)
  let v51 := (decide (v47.1 < (-1048576 : Int)))
  let v55 := (decide (v47.1 > (1048576 : Int)))
  let v56 := (bif v51 then true else v55)
  let v60 := (decide (v47.2.1 < (-1048576 : Int)))
  let v61 := (bif v56 then true else v60)
  let v65 := (decide (v47.2.1 > (1048576 : Int)))
  let v66 := (bif v61 then true else v65)
  let c := (v46 && (!v66))
  c

def f81_L6_next (y : ((List D59) × Int × Unit)) (x : (Int × Unit)) : (Int × Unit) :=
  let a45 := x.1 
  let v67 := (a45 + (1 : Int))
  (v67, ())

def f81_L6_ok (y : ((List D59) × Int × Unit)) (x : (Int × Unit)) : Prop :=
  let a43 := y.1 
  let a44 := y.2.1 
  let a45 := x.1 
  let v46 := (decide (a45 < a44))
  let v47 := (nth a43 a45 Z59)
  let v51 := (decide (v47.1 < (-1048576 : Int)))
  let v55 := (decide (v47.1 > (1048576 : Int)))
  let v56 := (bif v51 then true else v55)
  let v60 := (decide (v47.2.1 < (-1048576 : Int)))
  let v61 := (bif v56 then true else v60)
  let v65 := (decide (v47.2.1 > (1048576 : Int)))
  let v66 := (bif v61 then true else v65)
  (v46 = true → (InB a45 (len a43) ∧ ((!v66) = true → InR (a45 + (1 : Int)))))

instance (y : ((List D59) × Int × Unit)) (x : (Int × Unit)) : Decidable (f81_L6_ok y x) := by
  unfold f81_L6_ok
  try dsimp only
  infer_instance

def f81_L6_x1 (y : ((List D59) × Int × Unit)) (x : (Int × Unit)) : (Int × Unit) :=
  ((2 : Int), ())

def f81_L6_e1 (y : ((List D59) × Int × Unit)) (x : (Int × Unit)) : Bool :=
  let a43 := y.1 
  let a44 := y.2.1 
  let a45 := x.1 
  let v46 := (decide (a45 < a44))
  let v47 := (nth a43 a45 Z59)
  let v51 := (decide (v47.1 < (-1048576 : Int)))
  let v55 := (decide (v47.1 > (1048576 : Int)))
  let v56 := (bif v51 then true else v55)
  let v60 := (decide (v47.2.1 < (-1048576 : Int)))
  let v61 := (bif v56 then true else v60)
  let v65 := (decide (v47.2.1 > (1048576 : Int)))
  let v66 := (bif v61 then true else v65)
  let c_1 := (v46 && v66)
  c_1

def f81_L6_x2 (y : ((List D59) × Int × Unit)) (x : (Int × Unit)) : (Unit) :=
  ()

def f81_L6_e2 (y : ((List D59) × Int × Unit)) (x : (Int × Unit)) : Bool :=
  let a44 := y.2.1 
  let a45 := x.1 
  let v46 := (decide (a45 < a44))
  (!v46)

def f81_L6_ly : List (Nat × Sh) := [(43, (.val (.sl T59))), (44, (.val (.int .i64)))]
def f81_L6_lx : List (Nat × Sh) := [(45, (.val (.int .i64)))]
def f81_L6_les : List (List (Nat × Sh)) := [[(2, (.val (.int .i64)))], []]

def f81_L6_es (y : denL f81_L6_ly) (x : denL f81_L6_lx) : List Comp := [⟨1, some (f81_L6_e1 y x), mkSt [(2, (.val (.int .i64)))] ((f81_L6_x1 y x).1, ()) ++ cutSt⟩, ⟨2, some (f81_L6_e2 y x), mkSt [] () ++ cutSt⟩]

def f81_L6_spec : St → Option Out := loopS f81_L6_ly f81_L6_lx f81_L6_g f81_L6_next f81_L6_ok f81_L6_es

def f81 (p0 : D35) : Int :=
  let v7 := (decide (p0.1 < (2 : Int)))
  let v11 := (decide (p0.1 > (8 : Int)))
  let v12 := (bif v7 then true else v11)
  let v16 := (decide (p0.2.1 < (2 : Int)))
  let v17 := (bif v12 then true else v16)
  let v21 := (decide (p0.2.1 > (8 : Int)))
  let v22 := (bif v17 then true else v21)
  let v25 := (decide (p0.2.2.1 < (1 : Int)))
  let v29 := (decide (p0.2.2.1 > (256 : Int)))
  let v30 := (bif v25 then true else v29)
  let v34 := (len p0.2.2.2.1)
  let v39 := (p0.1 * p0.2.1)
  let v40 := (v34 != v39)
  let v41 := (bif v30 then true else v40)
  let v44 := (len p0.2.2.2.1)
  let y6 := (p0.2.2.2.1, v44, ())
  let x6 := ((0 : Int), ())
  let e6 := (loopEnd (f81_L6_g y6) (f81_L6_next y6) x6)
  let r6_1 := (f81_L6_x1 y6 e6)
  let q6_1 := (f81_L6_e1 y6 e6)
  let m2 := (bif q6_1 then r6_1.1 else (0 : Int))
  let m2_1 := (bif v41 then (15 : Int) else m2)
  let m2_2 := (bif v22 then (15 : Int) else m2_1)
  m2_2

def f81_ok (p0 : D35) : Prop :=
  let v7 := (decide (p0.1 < (2 : Int)))
  let v11 := (decide (p0.1 > (8 : Int)))
  let v12 := (bif v7 then true else v11)
  let v16 := (decide (p0.2.1 < (2 : Int)))
  let v17 := (bif v12 then true else v16)
  let v21 := (decide (p0.2.1 > (8 : Int)))
  let v22 := (bif v17 then true else v21)
  let v25 := (decide (p0.2.2.1 < (1 : Int)))
  let v29 := (decide (p0.2.2.1 > (256 : Int)))
  let v30 := (bif v25 then true else v29)
  let v34 := (len p0.2.2.2.1)
  let g31_7 := (!v30)
  let v39 := (p0.1 * p0.2.1)
  let v40 := (v34 != v39)
  let v41 := (bif v30 then true else v40)
  let v44 := (len p0.2.2.2.1)
  let y6 := (p0.2.2.2.1, v44, ())
  let x6 := ((0 : Int), ())
  ((!v22) = true → ((g31_7 = true → InR (p0.1 * p0.2.1)) ∧ ((!v41) = true → (Am.Ends (f81_L6_g y6) (f81_L6_next y6) (f81_L6_ok y6) x6))))

instance (p0 : D35) : Decidable (f81_ok p0) := by
  unfold f81_ok
  try dsimp only
  infer_instance

def f81_ps : List (Nat × Sh) := [(0, (.val T35))]
def f81_rs : Sh := (.val (.int .i64))
def f81_os : List (Nat × Sh) := []

def f81_spec : Am.Spec := fnSpec f81_ps f81_rs f81_os (fun x => f81_ok x.1) (fun x => f81 x.1) (fun _ => ())

def f81_ctx : Ctx := { tys := tys, fns := [], loops := [(6, f81_L6_spec)], gh := [], wrap := false, n := 68, keep := [], wr := [] }

theorem f81_cok : CtxOk Tryz.prog f81_ctx := ctxOk_mk tys_ok trivial rfl (by kernel_rfl)

noncomputable def f81_code : Code := Tryz.f81.body.getD .skip

noncomputable def f81_L6 : Code := nthLoop f81_code 0

theorem f81_L6_sum : ∀ y x, sumLoop f81_ctx f81_L6 f81_L6_ly f81_L6_lx f81_L6_les y x = some (f81_L6_ok y x, f81_L6_g y x, y, f81_L6_next y x, f81_L6_es y x) := fun y x => by kernel_rfl

theorem f81_L6_is : LoopSnd Tryz.prog f81_ctx f81_L6 := loop_gen f81_cok mixed (bs := []) (by kernel_rfl) trivial (by kernel_rfl) (by kernel_rfl) f81_L6_sum

theorem f81_sum : ∀ x, sumFn f81_ctx f81_code Tryz.f81.results.toList f81_ps f81_rs f81_os x = some (f81_ok x.1, f81 x.1, ()) := fun x => by kernel_rfl

theorem f81_is : SpecOk Tryz.prog 81 f81_spec := func_gen f81_cok mixed Tryz.func81 (by kernel_rfl) (by decide) rfl (bs := [f81_L6]) (by kernel_rfl) ⟨f81_L6_is, trivial⟩ (by kernel_rfl) (by kernel_rfl) rfl f81_sum

-- imageeditor/node.checkContent
def f37 (p0 : D37) : Int :=
  let v6 := (p0.2.1 == (2 : Int))
  let v9 := (f74 p0.2.2.2.2.2.2.2.2.2.2.2.2.1)
  let v11 := (p0.2.1 == (3 : Int))
  let v14 := (f75 p0.2.2.2.2.2.2.2.2.2.2.2.2.2.1)
  let v16 := (p0.2.1 == (4 : Int))
  let v25 := (f76 p0.2.2.2.2.2.2.2.2.2.2.2.2.2.2.1 p0.2.2.2.2.2.2.2.2.2.2.2.2.2.2.2.1 p0.2.2.2.2.2.2.2.2.2.2.2.2.2.2.2.2.1 p0.2.2.2.2.2.2.2.2.2.2.2.2.2.2.2.2.2.1)
  let v27 := (p0.2.1 == (5 : Int))
  let v29 := (f77 p0)
  let v31 := (p0.2.1 == (6 : Int))
  let v33 := (f78 p0)
  let v35 := (p0.2.1 == (7 : Int))
  let v42 := (f79 p0.2.2.2.2.2.2.2.2.2.2.2.2.2.2.1 p0.2.2.2.2.2.2.2.2.2.2.2.2.2.2.2.1 p0.2.2.2.2.2.2.2.2.2.2.2.2.2.2.2.2.2.1)
  let v44 := (p0.2.1 == (8 : Int))
  let v49 := (f80 p0.2.2.2.2.2.2.2.2.2.2.2.2.2.2.1 p0.2.2.2.2.2.2.2.2.2.2.2.2.2.2.2.1)
  let v51 := (p0.2.1 == (9 : Int))
  let v52 := (p0.2.1 == (10 : Int))
  let m50 := (bif v51 then v51 else v52)
  let v55 := (decide (p0.2.2.2.2.2.2.2.2.2.2.2.2.2.2.2.2.2.2.2.2.2.2.2.2.2.2.1 < (1 : Int)))
  let v59 := (decide (p0.2.2.2.2.2.2.2.2.2.2.2.2.2.2.2.2.2.2.2.2.2.2.2.2.2.2.1 > (1073741824 : Int)))
  let v60 := (bif v55 then true else v59)
  let v62 := (p0.2.1 == (11 : Int))
  let v65 := (f81 p0.2.2.2.2.2.2.2.2.2.2.2.2.2.2.2.2.2.2.2.2.2.2.2.2.2.2.2.1)
  let c := (bif m50 then v60 else v62)
  let m2 := (bif m50 then (2 : Int) else v65)
  let c_2 := (bif v44 then true else c)
  let m2_1 := (bif v44 then v49 else m2)
  let c_4 := (bif v35 then true else c_2)
  let m2_2 := (bif v35 then v42 else m2_1)
  let c_6 := (bif v31 then true else c_4)
  let m2_3 := (bif v31 then v33 else m2_2)
  let c_8 := (bif v27 then true else c_6)
  let m2_4 := (bif v27 then v29 else m2_3)
  let c_10 := (bif v16 then true else c_8)
  let m2_5 := (bif v16 then v25 else m2_4)
  let c_12 := (bif v11 then true else c_10)
  let m2_6 := (bif v11 then v14 else m2_5)
  let c_14 := (bif v6 then true else c_12)
  let m2_7 := (bif v6 then v9 else m2_6)
  let m2_8 := (bif c_14 then m2_7 else (0 : Int))
  m2_8

def f37_ok (p0 : D37) : Prop :=
  let v6 := (p0.2.1 == (2 : Int))
  let v11 := (p0.2.1 == (3 : Int))
  let v16 := (p0.2.1 == (4 : Int))
  let v27 := (p0.2.1 == (5 : Int))
  let v31 := (p0.2.1 == (6 : Int))
  let v35 := (p0.2.1 == (7 : Int))
  let v44 := (p0.2.1 == (8 : Int))
  let v51 := (p0.2.1 == (9 : Int))
  let v52 := (p0.2.1 == (10 : Int))
  let m50 := (bif v51 then v51 else v52)
  let v62 := (p0.2.1 == (11 : Int))
  ((v6 = true → (f74_ok p0.2.2.2.2.2.2.2.2.2.2.2.2.1)) ∧ (v6 = false → ((v11 = true → (f75_ok p0.2.2.2.2.2.2.2.2.2.2.2.2.2.1)) ∧ (v11 = false → ((v16 = true → (f76_ok p0.2.2.2.2.2.2.2.2.2.2.2.2.2.2.1 p0.2.2.2.2.2.2.2.2.2.2.2.2.2.2.2.1 p0.2.2.2.2.2.2.2.2.2.2.2.2.2.2.2.2.1 p0.2.2.2.2.2.2.2.2.2.2.2.2.2.2.2.2.2.1)) ∧ (v16 = false → ((v27 = true → (f77_ok p0)) ∧ (v27 = false → ((v31 = true → (f78_ok p0)) ∧ (v31 = false → ((v35 = true → (f79_ok p0.2.2.2.2.2.2.2.2.2.2.2.2.2.2.1 p0.2.2.2.2.2.2.2.2.2.2.2.2.2.2.2.1 p0.2.2.2.2.2.2.2.2.2.2.2.2.2.2.2.2.2.1)) ∧ (v35 = false → ((v44 = true → (f80_ok p0.2.2.2.2.2.2.2.2.2.2.2.2.2.2.1 p0.2.2.2.2.2.2.2.2.2.2.2.2.2.2.2.1)) ∧ (v44 = false → (m50 = false → (v62 = true → (f81_ok p0.2.2.2.2.2.2.2.2.2.2.2.2.2.2.2.2.2.2.2.2.2.2.2.2.2.2.2.1)))))))))))))))))

instance (p0 : D37) : Decidable (f37_ok p0) := by
  unfold f37_ok
  try dsimp only
  infer_instance

def f37_ps : List (Nat × Sh) := [(0, (.val T37))]
def f37_rs : Sh := (.val (.int .i64))
def f37_os : List (Nat × Sh) := []

def f37_spec : Am.Spec := fnSpec f37_ps f37_rs f37_os (fun x => f37_ok x.1) (fun x => f37 x.1) (fun _ => ())

def f37_ctx : Ctx := { tys := tys, fns := [(74, f74_spec), (75, f75_spec), (76, f76_spec), (77, f77_spec), (78, f78_spec), (79, f79_spec), (80, f80_spec), (81, f81_spec)], loops := [], gh := [], wrap := false, n := 66, keep := [], wr := [] }

theorem f37_cok : CtxOk Tryz.prog f37_ctx := ctxOk_mk tys_ok ⟨f74_is, f75_is, f76_is, f77_is, f78_is, f79_is, f80_is, f81_is, trivial⟩ rfl (by kernel_rfl)

noncomputable def f37_code : Code := Tryz.f37.body.getD .skip

theorem f37_sum : ∀ x, sumFn f37_ctx f37_code Tryz.f37.results.toList f37_ps f37_rs f37_os x = some (f37_ok x.1, f37 x.1, ()) := fun x => by kernel_rfl

theorem f37_is : SpecOk Tryz.prog 37 f37_spec := func_gen f37_cok mixed Tryz.func37 (by kernel_rfl) (by decide) rfl (bs := []) (by kernel_rfl) trivial (by kernel_rfl) (by kernel_rfl) rfl f37_sum

-- imageeditor/node.bare
def f38 (p0 : D37) : Bool :=
  let s := ((0 : Int), (0 : Int), (0 : Int), (0 : Int), (0 : Int), (0 : Int), ())
  let v6 := (!(Ty.eqb T25 p0.2.2.2.2.2.2.2.2.2.2.1 s))
  let v10 := (p0.2.2.2.2.2.2.2.2.2.2.2.1 != (0 : Int))
  let v11 := (bif v6 then true else v10)
  let s_1 := ((0 : Int), (0 : Int), (0 : Int), (0 : Int), ())
  let v16 := (!(Ty.eqb T30 p0.2.2.2.2.2.2.2.2.2.2.2.2.2.1 s_1))
  let v17 := (bif v11 then true else v16)
  let v21 := (p0.2.2.2.2.2.2.2.2.2.2.2.2.1.1 != (0 : Int))
  let v26 := (p0.2.2.2.2.2.2.2.2.2.2.2.2.1.2.1 != (0 : Int))
  let v27 := (bif v21 then true else v26)
  let v32 := (len p0.2.2.2.2.2.2.2.2.2.2.2.2.1.2.2.1)
  let v33 := (v32 != (0 : Int))
  let v34 := (bif v27 then true else v33)
  let v37 := (p0.2.2.2.2.2.2.2.2.2.2.2.2.2.2.1 != (0 : Int))
  let v41 := (len p0.2.2.2.2.2.2.2.2.2.2.2.2.2.2.2.1)
  let v42 := (v41 != (0 : Int))
  let v43 := (bif v37 then true else v42)
  let v47 := (p0.2.2.2.2.2.2.2.2.2.2.2.2.2.2.2.2.1 != (0 : Int))
  let v48 := (bif v43 then true else v47)
  let v52 := (len p0.2.2.2.2.2.2.2.2.2.2.2.2.2.2.2.2.2.1)
  let v53 := (v52 != (0 : Int))
  let v54 := (bif v48 then true else v53)
  let v57 := (len p0.2.2.2.2.2.2.2.2.2.2.2.2.2.2.2.2.2.2.1)
  let v58 := (v57 != (0 : Int))
  let v62 := (p0.2.2.2.2.2.2.2.2.2.2.2.2.2.2.2.2.2.2.2.1 != (0 : Int))
  let v63 := (bif v58 then true else v62)
  let v67 := (p0.2.2.2.2.2.2.2.2.2.2.2.2.2.2.2.2.2.2.2.2.1 != (0 : Int))
  let v68 := (bif v63 then true else v67)
  let v72 := (p0.2.2.2.2.2.2.2.2.2.2.2.2.2.2.2.2.2.2.2.2.2.1 != (0 : Int))
  let v73 := (bif v68 then true else v72)
  let v77 := (p0.2.2.2.2.2.2.2.2.2.2.2.2.2.2.2.2.2.2.2.2.2.2.1 != (0 : Int))
  let v78 := (bif v73 then true else v77)
  let v81 := (!(p0.2.2.2.2.2.2.2.2.2.2.2.2.2.2.2.2.2.2.2.2.2.2.2.1 == ([] : List UInt8)))
  let v85 := (p0.2.2.2.2.2.2.2.2.2.2.2.2.2.2.2.2.2.2.2.2.2.2.2.2.1 != (0 : Int))
  let v86 := (bif v81 then true else v85)
  let v90 := (p0.2.2.2.2.2.2.2.2.2.2.2.2.2.2.2.2.2.2.2.2.2.2.2.2.2.1 != (0 : Int))
  let v91 := (bif v86 then true else v90)
  let v95 := (p0.2.2.2.2.2.2.2.2.2.2.2.2.2.2.2.2.2.2.2.2.2.2.2.2.2.2.1 != (0 : Int))
  let v96 := (bif v91 then true else v95)
  let v100 := (p0.2.2.2.2.2.2.2.2.2.2.2.2.2.2.2.2.2.2.2.2.2.2.2.2.2.2.2.1.1 == (0 : Int))
  let v105 := (p0.2.2.2.2.2.2.2.2.2.2.2.2.2.2.2.2.2.2.2.2.2.2.2.2.2.2.2.1.2.1 == (0 : Int))
  let v106 := (bif v100 then v105 else false)
  let v111 := (p0.2.2.2.2.2.2.2.2.2.2.2.2.2.2.2.2.2.2.2.2.2.2.2.2.2.2.2.1.2.2.1 == (0 : Int))
  let v112 := (bif v106 then v111 else false)
  let v117 := (len p0.2.2.2.2.2.2.2.2.2.2.2.2.2.2.2.2.2.2.2.2.2.2.2.2.2.2.2.1.2.2.2.1)
  let v118 := (v117 == (0 : Int))
  let v119 := (bif v112 then v118 else false)
  let m2 := (bif v96 then false else v119)
  let m2_1 := (bif v78 then false else m2)
  let m2_2 := (bif v54 then false else m2_1)
  let m2_3 := (bif v34 then false else m2_2)
  let m2_4 := (bif v17 then false else m2_3)
  m2_4

def f38_ok (p0 : D37) : Prop :=
  True

instance (p0 : D37) : Decidable (f38_ok p0) := by
  unfold f38_ok
  try dsimp only
  infer_instance

def f38_ps : List (Nat × Sh) := [(0, (.val T37))]
def f38_rs : Sh := (.val .bool)
def f38_os : List (Nat × Sh) := []

def f38_spec : Am.Spec := fnSpec f38_ps f38_rs f38_os (fun x => f38_ok x.1) (fun x => f38 x.1) (fun _ => ())

def f38_ctx : Ctx := { tys := tys, fns := [], loops := [], gh := [], wrap := false, n := 120, keep := [], wr := [] }

theorem f38_cok : CtxOk Tryz.prog f38_ctx := ctxOk_mk tys_ok trivial rfl (by kernel_rfl)

noncomputable def f38_code : Code := Tryz.f38.body.getD .skip

theorem f38_sum : ∀ x, sumFn f38_ctx f38_code Tryz.f38.results.toList f38_ps f38_rs f38_os x = some (f38_ok x.1, f38 x.1, ()) := fun x => by kernel_rfl

theorem f38_is : SpecOk Tryz.prog 38 f38_spec := func_gen f38_cok mixed Tryz.func38 (by kernel_rfl) (by decide) rfl (bs := []) (by kernel_rfl) trivial (by kernel_rfl) (by kernel_rfl) rfl f38_sum

-- imageeditor/node.rest
def f39 (p0 : D37) : D37 :=
  let v5 := (f25 p0.2.1)
  let s := ((0 : Int), (0 : Int), (0 : Int), (0 : Int), (0 : Int), (0 : Int), ())
  let s_1 := (p0.1, p0.2.1, p0.2.2.1, p0.2.2.2.1, p0.2.2.2.2.1, p0.2.2.2.2.2.1, p0.2.2.2.2.2.2.1, p0.2.2.2.2.2.2.2.1, p0.2.2.2.2.2.2.2.2.1, p0.2.2.2.2.2.2.2.2.2.1, s, p0.2.2.2.2.2.2.2.2.2.2.2.1, p0.2.2.2.2.2.2.2.2.2.2.2.2.1, p0.2.2.2.2.2.2.2.2.2.2.2.2.2.1, p0.2.2.2.2.2.2.2.2.2.2.2.2.2.2.1, p0.2.2.2.2.2.2.2.2.2.2.2.2.2.2.2.1, p0.2.2.2.2.2.2.2.2.2.2.2.2.2.2.2.2.1, p0.2.2.2.2.2.2.2.2.2.2.2.2.2.2.2.2.2.1, p0.2.2.2.2.2.2.2.2.2.2.2.2.2.2.2.2.2.2.1, p0.2.2.2.2.2.2.2.2.2.2.2.2.2.2.2.2.2.2.2.1, p0.2.2.2.2.2.2.2.2.2.2.2.2.2.2.2.2.2.2.2.2.1, p0.2.2.2.2.2.2.2.2.2.2.2.2.2.2.2.2.2.2.2.2.2.1, p0.2.2.2.2.2.2.2.2.2.2.2.2.2.2.2.2.2.2.2.2.2.2.1, p0.2.2.2.2.2.2.2.2.2.2.2.2.2.2.2.2.2.2.2.2.2.2.2.1, p0.2.2.2.2.2.2.2.2.2.2.2.2.2.2.2.2.2.2.2.2.2.2.2.2.1, p0.2.2.2.2.2.2.2.2.2.2.2.2.2.2.2.2.2.2.2.2.2.2.2.2.2.1, p0.2.2.2.2.2.2.2.2.2.2.2.2.2.2.2.2.2.2.2.2.2.2.2.2.2.2.1, p0.2.2.2.2.2.2.2.2.2.2.2.2.2.2.2.2.2.2.2.2.2.2.2.2.2.2.2.1, ())
  let m1 := (bif v5 then s_1 else p0)
  let v10 := (f27 m1.2.1)
  let s_2 := (m1.1, m1.2.1, m1.2.2.1, m1.2.2.2.1, m1.2.2.2.2.1, m1.2.2.2.2.2.1, m1.2.2.2.2.2.2.1, m1.2.2.2.2.2.2.2.1, m1.2.2.2.2.2.2.2.2.1, m1.2.2.2.2.2.2.2.2.2.1, m1.2.2.2.2.2.2.2.2.2.2.1, (0 : Int), m1.2.2.2.2.2.2.2.2.2.2.2.2.1, m1.2.2.2.2.2.2.2.2.2.2.2.2.2.1, m1.2.2.2.2.2.2.2.2.2.2.2.2.2.2.1, m1.2.2.2.2.2.2.2.2.2.2.2.2.2.2.2.1, m1.2.2.2.2.2.2.2.2.2.2.2.2.2.2.2.2.1, m1.2.2.2.2.2.2.2.2.2.2.2.2.2.2.2.2.2.1, m1.2.2.2.2.2.2.2.2.2.2.2.2.2.2.2.2.2.2.1, m1.2.2.2.2.2.2.2.2.2.2.2.2.2.2.2.2.2.2.2.1, m1.2.2.2.2.2.2.2.2.2.2.2.2.2.2.2.2.2.2.2.2.1, m1.2.2.2.2.2.2.2.2.2.2.2.2.2.2.2.2.2.2.2.2.2.1, m1.2.2.2.2.2.2.2.2.2.2.2.2.2.2.2.2.2.2.2.2.2.2.1, m1.2.2.2.2.2.2.2.2.2.2.2.2.2.2.2.2.2.2.2.2.2.2.2.1, m1.2.2.2.2.2.2.2.2.2.2.2.2.2.2.2.2.2.2.2.2.2.2.2.2.1, m1.2.2.2.2.2.2.2.2.2.2.2.2.2.2.2.2.2.2.2.2.2.2.2.2.2.1, m1.2.2.2.2.2.2.2.2.2.2.2.2.2.2.2.2.2.2.2.2.2.2.2.2.2.2.1, m1.2.2.2.2.2.2.2.2.2.2.2.2.2.2.2.2.2.2.2.2.2.2.2.2.2.2.2.1, ())
  let m1_1 := (bif v10 then s_2 else m1)
  let v15 := (m1_1.2.1 == (2 : Int))
  let s_3 := ((0 : Int), (0 : Int), ([] : List D30), ())
  let s_4 := (m1_1.1, m1_1.2.1, m1_1.2.2.1, m1_1.2.2.2.1, m1_1.2.2.2.2.1, m1_1.2.2.2.2.2.1, m1_1.2.2.2.2.2.2.1, m1_1.2.2.2.2.2.2.2.1, m1_1.2.2.2.2.2.2.2.2.1, m1_1.2.2.2.2.2.2.2.2.2.1, m1_1.2.2.2.2.2.2.2.2.2.2.1, m1_1.2.2.2.2.2.2.2.2.2.2.2.1, s_3, m1_1.2.2.2.2.2.2.2.2.2.2.2.2.2.1, m1_1.2.2.2.2.2.2.2.2.2.2.2.2.2.2.1, m1_1.2.2.2.2.2.2.2.2.2.2.2.2.2.2.2.1, m1_1.2.2.2.2.2.2.2.2.2.2.2.2.2.2.2.2.1, m1_1.2.2.2.2.2.2.2.2.2.2.2.2.2.2.2.2.2.1, m1_1.2.2.2.2.2.2.2.2.2.2.2.2.2.2.2.2.2.2.1, m1_1.2.2.2.2.2.2.2.2.2.2.2.2.2.2.2.2.2.2.2.1, m1_1.2.2.2.2.2.2.2.2.2.2.2.2.2.2.2.2.2.2.2.2.1, m1_1.2.2.2.2.2.2.2.2.2.2.2.2.2.2.2.2.2.2.2.2.2.1, m1_1.2.2.2.2.2.2.2.2.2.2.2.2.2.2.2.2.2.2.2.2.2.2.1, m1_1.2.2.2.2.2.2.2.2.2.2.2.2.2.2.2.2.2.2.2.2.2.2.2.1, m1_1.2.2.2.2.2.2.2.2.2.2.2.2.2.2.2.2.2.2.2.2.2.2.2.2.1, m1_1.2.2.2.2.2.2.2.2.2.2.2.2.2.2.2.2.2.2.2.2.2.2.2.2.2.1, m1_1.2.2.2.2.2.2.2.2.2.2.2.2.2.2.2.2.2.2.2.2.2.2.2.2.2.2.1, m1_1.2.2.2.2.2.2.2.2.2.2.2.2.2.2.2.2.2.2.2.2.2.2.2.2.2.2.2.1, ())
  let v19 := (m1_1.2.1 == (3 : Int))
  let s_5 := ((0 : Int), (0 : Int), (0 : Int), (0 : Int), ())
  let s_6 := (m1_1.1, m1_1.2.1, m1_1.2.2.1, m1_1.2.2.2.1, m1_1.2.2.2.2.1, m1_1.2.2.2.2.2.1, m1_1.2.2.2.2.2.2.1, m1_1.2.2.2.2.2.2.2.1, m1_1.2.2.2.2.2.2.2.2.1, m1_1.2.2.2.2.2.2.2.2.2.1, m1_1.2.2.2.2.2.2.2.2.2.2.1, m1_1.2.2.2.2.2.2.2.2.2.2.2.1, m1_1.2.2.2.2.2.2.2.2.2.2.2.2.1, s_5, m1_1.2.2.2.2.2.2.2.2.2.2.2.2.2.2.1, m1_1.2.2.2.2.2.2.2.2.2.2.2.2.2.2.2.1, m1_1.2.2.2.2.2.2.2.2.2.2.2.2.2.2.2.2.1, m1_1.2.2.2.2.2.2.2.2.2.2.2.2.2.2.2.2.2.1, m1_1.2.2.2.2.2.2.2.2.2.2.2.2.2.2.2.2.2.2.1, m1_1.2.2.2.2.2.2.2.2.2.2.2.2.2.2.2.2.2.2.2.1, m1_1.2.2.2.2.2.2.2.2.2.2.2.2.2.2.2.2.2.2.2.2.1, m1_1.2.2.2.2.2.2.2.2.2.2.2.2.2.2.2.2.2.2.2.2.2.1, m1_1.2.2.2.2.2.2.2.2.2.2.2.2.2.2.2.2.2.2.2.2.2.2.1, m1_1.2.2.2.2.2.2.2.2.2.2.2.2.2.2.2.2.2.2.2.2.2.2.2.1, m1_1.2.2.2.2.2.2.2.2.2.2.2.2.2.2.2.2.2.2.2.2.2.2.2.2.1, m1_1.2.2.2.2.2.2.2.2.2.2.2.2.2.2.2.2.2.2.2.2.2.2.2.2.2.1, m1_1.2.2.2.2.2.2.2.2.2.2.2.2.2.2.2.2.2.2.2.2.2.2.2.2.2.2.1, m1_1.2.2.2.2.2.2.2.2.2.2.2.2.2.2.2.2.2.2.2.2.2.2.2.2.2.2.2.1, ())
  let v23 := (m1_1.2.1 == (4 : Int))
  let s_10 := (m1_1.1, m1_1.2.1, m1_1.2.2.1, m1_1.2.2.2.1, m1_1.2.2.2.2.1, m1_1.2.2.2.2.2.1, m1_1.2.2.2.2.2.2.1, m1_1.2.2.2.2.2.2.2.1, m1_1.2.2.2.2.2.2.2.2.1, m1_1.2.2.2.2.2.2.2.2.2.1, m1_1.2.2.2.2.2.2.2.2.2.2.1, m1_1.2.2.2.2.2.2.2.2.2.2.2.1, m1_1.2.2.2.2.2.2.2.2.2.2.2.2.1, m1_1.2.2.2.2.2.2.2.2.2.2.2.2.2.1, (0 : Int), ([] : List Int), (0 : Int), ([] : List D57), m1_1.2.2.2.2.2.2.2.2.2.2.2.2.2.2.2.2.2.2.1, m1_1.2.2.2.2.2.2.2.2.2.2.2.2.2.2.2.2.2.2.2.1, m1_1.2.2.2.2.2.2.2.2.2.2.2.2.2.2.2.2.2.2.2.2.1, m1_1.2.2.2.2.2.2.2.2.2.2.2.2.2.2.2.2.2.2.2.2.2.1, m1_1.2.2.2.2.2.2.2.2.2.2.2.2.2.2.2.2.2.2.2.2.2.2.1, m1_1.2.2.2.2.2.2.2.2.2.2.2.2.2.2.2.2.2.2.2.2.2.2.2.1, m1_1.2.2.2.2.2.2.2.2.2.2.2.2.2.2.2.2.2.2.2.2.2.2.2.2.1, m1_1.2.2.2.2.2.2.2.2.2.2.2.2.2.2.2.2.2.2.2.2.2.2.2.2.2.1, m1_1.2.2.2.2.2.2.2.2.2.2.2.2.2.2.2.2.2.2.2.2.2.2.2.2.2.2.1, m1_1.2.2.2.2.2.2.2.2.2.2.2.2.2.2.2.2.2.2.2.2.2.2.2.2.2.2.2.1, ())
  let v29 := (m1_1.2.1 == (5 : Int))
  let s_16 := ((0 : Int), (0 : Int), (0 : Int), (0 : Int), ())
  let s_17 := (m1_1.1, m1_1.2.1, m1_1.2.2.1, m1_1.2.2.2.1, m1_1.2.2.2.2.1, m1_1.2.2.2.2.2.1, m1_1.2.2.2.2.2.2.1, m1_1.2.2.2.2.2.2.2.1, m1_1.2.2.2.2.2.2.2.2.1, m1_1.2.2.2.2.2.2.2.2.2.1, m1_1.2.2.2.2.2.2.2.2.2.2.1, m1_1.2.2.2.2.2.2.2.2.2.2.2.1, m1_1.2.2.2.2.2.2.2.2.2.2.2.2.1, s_16, m1_1.2.2.2.2.2.2.2.2.2.2.2.2.2.2.1, m1_1.2.2.2.2.2.2.2.2.2.2.2.2.2.2.2.1, m1_1.2.2.2.2.2.2.2.2.2.2.2.2.2.2.2.2.1, m1_1.2.2.2.2.2.2.2.2.2.2.2.2.2.2.2.2.2.1, ([] : List D62), (0 : Int), (0 : Int), (0 : Int), (0 : Int), m1_1.2.2.2.2.2.2.2.2.2.2.2.2.2.2.2.2.2.2.2.2.2.2.2.1, m1_1.2.2.2.2.2.2.2.2.2.2.2.2.2.2.2.2.2.2.2.2.2.2.2.2.1, m1_1.2.2.2.2.2.2.2.2.2.2.2.2.2.2.2.2.2.2.2.2.2.2.2.2.2.1, m1_1.2.2.2.2.2.2.2.2.2.2.2.2.2.2.2.2.2.2.2.2.2.2.2.2.2.2.1, m1_1.2.2.2.2.2.2.2.2.2.2.2.2.2.2.2.2.2.2.2.2.2.2.2.2.2.2.2.1, ())
  let v38 := (m1_1.2.1 == (6 : Int))
  let s_21 := ((0 : Int), (0 : Int), (0 : Int), (0 : Int), ())
  let s_22 := (m1_1.1, m1_1.2.1, m1_1.2.2.1, m1_1.2.2.2.1, m1_1.2.2.2.2.1, m1_1.2.2.2.2.2.1, m1_1.2.2.2.2.2.2.1, m1_1.2.2.2.2.2.2.2.1, m1_1.2.2.2.2.2.2.2.2.1, m1_1.2.2.2.2.2.2.2.2.2.1, m1_1.2.2.2.2.2.2.2.2.2.2.1, m1_1.2.2.2.2.2.2.2.2.2.2.2.1, m1_1.2.2.2.2.2.2.2.2.2.2.2.2.1, s_21, m1_1.2.2.2.2.2.2.2.2.2.2.2.2.2.2.1, m1_1.2.2.2.2.2.2.2.2.2.2.2.2.2.2.2.1, m1_1.2.2.2.2.2.2.2.2.2.2.2.2.2.2.2.2.1, m1_1.2.2.2.2.2.2.2.2.2.2.2.2.2.2.2.2.2.1, m1_1.2.2.2.2.2.2.2.2.2.2.2.2.2.2.2.2.2.2.1, m1_1.2.2.2.2.2.2.2.2.2.2.2.2.2.2.2.2.2.2.2.1, m1_1.2.2.2.2.2.2.2.2.2.2.2.2.2.2.2.2.2.2.2.2.1, m1_1.2.2.2.2.2.2.2.2.2.2.2.2.2.2.2.2.2.2.2.2.2.1, m1_1.2.2.2.2.2.2.2.2.2.2.2.2.2.2.2.2.2.2.2.2.2.2.1, ([] : List UInt8), (0 : Int), (0 : Int), m1_1.2.2.2.2.2.2.2.2.2.2.2.2.2.2.2.2.2.2.2.2.2.2.2.2.2.2.1, m1_1.2.2.2.2.2.2.2.2.2.2.2.2.2.2.2.2.2.2.2.2.2.2.2.2.2.2.2.1, ())
  let v45 := (m1_1.2.1 == (7 : Int))
  let s_25 := (m1_1.1, m1_1.2.1, m1_1.2.2.1, m1_1.2.2.2.1, m1_1.2.2.2.2.1, m1_1.2.2.2.2.2.1, m1_1.2.2.2.2.2.2.1, m1_1.2.2.2.2.2.2.2.1, m1_1.2.2.2.2.2.2.2.2.1, m1_1.2.2.2.2.2.2.2.2.2.1, m1_1.2.2.2.2.2.2.2.2.2.2.1, m1_1.2.2.2.2.2.2.2.2.2.2.2.1, m1_1.2.2.2.2.2.2.2.2.2.2.2.2.1, m1_1.2.2.2.2.2.2.2.2.2.2.2.2.2.1, (0 : Int), ([] : List Int), m1_1.2.2.2.2.2.2.2.2.2.2.2.2.2.2.2.2.1, ([] : List D57), m1_1.2.2.2.2.2.2.2.2.2.2.2.2.2.2.2.2.2.2.1, m1_1.2.2.2.2.2.2.2.2.2.2.2.2.2.2.2.2.2.2.2.1, m1_1.2.2.2.2.2.2.2.2.2.2.2.2.2.2.2.2.2.2.2.2.1, m1_1.2.2.2.2.2.2.2.2.2.2.2.2.2.2.2.2.2.2.2.2.2.1, m1_1.2.2.2.2.2.2.2.2.2.2.2.2.2.2.2.2.2.2.2.2.2.2.1, m1_1.2.2.2.2.2.2.2.2.2.2.2.2.2.2.2.2.2.2.2.2.2.2.2.1, m1_1.2.2.2.2.2.2.2.2.2.2.2.2.2.2.2.2.2.2.2.2.2.2.2.2.1, m1_1.2.2.2.2.2.2.2.2.2.2.2.2.2.2.2.2.2.2.2.2.2.2.2.2.2.1, m1_1.2.2.2.2.2.2.2.2.2.2.2.2.2.2.2.2.2.2.2.2.2.2.2.2.2.2.1, m1_1.2.2.2.2.2.2.2.2.2.2.2.2.2.2.2.2.2.2.2.2.2.2.2.2.2.2.2.1, ())
  let v50 := (m1_1.2.1 == (8 : Int))
  let s_27 := (m1_1.1, m1_1.2.1, m1_1.2.2.1, m1_1.2.2.2.1, m1_1.2.2.2.2.1, m1_1.2.2.2.2.2.1, m1_1.2.2.2.2.2.2.1, m1_1.2.2.2.2.2.2.2.1, m1_1.2.2.2.2.2.2.2.2.1, m1_1.2.2.2.2.2.2.2.2.2.1, m1_1.2.2.2.2.2.2.2.2.2.2.1, m1_1.2.2.2.2.2.2.2.2.2.2.2.1, m1_1.2.2.2.2.2.2.2.2.2.2.2.2.1, m1_1.2.2.2.2.2.2.2.2.2.2.2.2.2.1, (0 : Int), ([] : List Int), m1_1.2.2.2.2.2.2.2.2.2.2.2.2.2.2.2.2.1, m1_1.2.2.2.2.2.2.2.2.2.2.2.2.2.2.2.2.2.1, m1_1.2.2.2.2.2.2.2.2.2.2.2.2.2.2.2.2.2.2.1, m1_1.2.2.2.2.2.2.2.2.2.2.2.2.2.2.2.2.2.2.2.1, m1_1.2.2.2.2.2.2.2.2.2.2.2.2.2.2.2.2.2.2.2.2.1, m1_1.2.2.2.2.2.2.2.2.2.2.2.2.2.2.2.2.2.2.2.2.2.1, m1_1.2.2.2.2.2.2.2.2.2.2.2.2.2.2.2.2.2.2.2.2.2.2.1, m1_1.2.2.2.2.2.2.2.2.2.2.2.2.2.2.2.2.2.2.2.2.2.2.2.1, m1_1.2.2.2.2.2.2.2.2.2.2.2.2.2.2.2.2.2.2.2.2.2.2.2.2.1, m1_1.2.2.2.2.2.2.2.2.2.2.2.2.2.2.2.2.2.2.2.2.2.2.2.2.2.1, m1_1.2.2.2.2.2.2.2.2.2.2.2.2.2.2.2.2.2.2.2.2.2.2.2.2.2.2.1, m1_1.2.2.2.2.2.2.2.2.2.2.2.2.2.2.2.2.2.2.2.2.2.2.2.2.2.2.2.1, ())
  let v54 := (m1_1.2.1 == (9 : Int))
  let v55 := (m1_1.2.1 == (10 : Int))
  let m53 := (bif v54 then v54 else v55)
  let s_28 := (m1_1.1, m1_1.2.1, m1_1.2.2.1, m1_1.2.2.2.1, m1_1.2.2.2.2.1, m1_1.2.2.2.2.2.1, m1_1.2.2.2.2.2.2.1, m1_1.2.2.2.2.2.2.2.1, m1_1.2.2.2.2.2.2.2.2.1, m1_1.2.2.2.2.2.2.2.2.2.1, m1_1.2.2.2.2.2.2.2.2.2.2.1, m1_1.2.2.2.2.2.2.2.2.2.2.2.1, m1_1.2.2.2.2.2.2.2.2.2.2.2.2.1, m1_1.2.2.2.2.2.2.2.2.2.2.2.2.2.1, m1_1.2.2.2.2.2.2.2.2.2.2.2.2.2.2.1, m1_1.2.2.2.2.2.2.2.2.2.2.2.2.2.2.2.1, m1_1.2.2.2.2.2.2.2.2.2.2.2.2.2.2.2.2.1, m1_1.2.2.2.2.2.2.2.2.2.2.2.2.2.2.2.2.2.1, m1_1.2.2.2.2.2.2.2.2.2.2.2.2.2.2.2.2.2.2.1, m1_1.2.2.2.2.2.2.2.2.2.2.2.2.2.2.2.2.2.2.2.1, m1_1.2.2.2.2.2.2.2.2.2.2.2.2.2.2.2.2.2.2.2.2.1, m1_1.2.2.2.2.2.2.2.2.2.2.2.2.2.2.2.2.2.2.2.2.2.1, m1_1.2.2.2.2.2.2.2.2.2.2.2.2.2.2.2.2.2.2.2.2.2.2.1, m1_1.2.2.2.2.2.2.2.2.2.2.2.2.2.2.2.2.2.2.2.2.2.2.2.1, m1_1.2.2.2.2.2.2.2.2.2.2.2.2.2.2.2.2.2.2.2.2.2.2.2.2.1, m1_1.2.2.2.2.2.2.2.2.2.2.2.2.2.2.2.2.2.2.2.2.2.2.2.2.2.1, (0 : Int), m1_1.2.2.2.2.2.2.2.2.2.2.2.2.2.2.2.2.2.2.2.2.2.2.2.2.2.2.2.1, ())
  let v58 := (m1_1.2.1 == (11 : Int))
  let s_29 := ((0 : Int), (0 : Int), (0 : Int), ([] : List D59), ())
  let s_30 := (m1_1.1, m1_1.2.1, m1_1.2.2.1, m1_1.2.2.2.1, m1_1.2.2.2.2.1, m1_1.2.2.2.2.2.1, m1_1.2.2.2.2.2.2.1, m1_1.2.2.2.2.2.2.2.1, m1_1.2.2.2.2.2.2.2.2.1, m1_1.2.2.2.2.2.2.2.2.2.1, m1_1.2.2.2.2.2.2.2.2.2.2.1, m1_1.2.2.2.2.2.2.2.2.2.2.2.1, m1_1.2.2.2.2.2.2.2.2.2.2.2.2.1, m1_1.2.2.2.2.2.2.2.2.2.2.2.2.2.1, m1_1.2.2.2.2.2.2.2.2.2.2.2.2.2.2.1, m1_1.2.2.2.2.2.2.2.2.2.2.2.2.2.2.2.1, m1_1.2.2.2.2.2.2.2.2.2.2.2.2.2.2.2.2.1, m1_1.2.2.2.2.2.2.2.2.2.2.2.2.2.2.2.2.2.1, m1_1.2.2.2.2.2.2.2.2.2.2.2.2.2.2.2.2.2.2.1, m1_1.2.2.2.2.2.2.2.2.2.2.2.2.2.2.2.2.2.2.2.1, m1_1.2.2.2.2.2.2.2.2.2.2.2.2.2.2.2.2.2.2.2.2.1, m1_1.2.2.2.2.2.2.2.2.2.2.2.2.2.2.2.2.2.2.2.2.2.1, m1_1.2.2.2.2.2.2.2.2.2.2.2.2.2.2.2.2.2.2.2.2.2.2.1, m1_1.2.2.2.2.2.2.2.2.2.2.2.2.2.2.2.2.2.2.2.2.2.2.2.1, m1_1.2.2.2.2.2.2.2.2.2.2.2.2.2.2.2.2.2.2.2.2.2.2.2.2.1, m1_1.2.2.2.2.2.2.2.2.2.2.2.2.2.2.2.2.2.2.2.2.2.2.2.2.2.1, m1_1.2.2.2.2.2.2.2.2.2.2.2.2.2.2.2.2.2.2.2.2.2.2.2.2.2.2.1, s_29, ())
  let m1_2 := (bif v58 then s_30 else m1_1)
  let m1_3 := (bif m53 then s_28 else m1_2)
  let m1_4 := (bif v50 then s_27 else m1_3)
  let m1_5 := (bif v45 then s_25 else m1_4)
  let m1_6 := (bif v38 then s_22 else m1_5)
  let m1_7 := (bif v29 then s_17 else m1_6)
  let m1_8 := (bif v23 then s_10 else m1_7)
  let m1_9 := (bif v19 then s_6 else m1_8)
  let m1_10 := (bif v15 then s_4 else m1_9)
  m1_10

def f39_ok (p0 : D37) : Prop :=
  let v5 := (f25 p0.2.1)
  let s := ((0 : Int), (0 : Int), (0 : Int), (0 : Int), (0 : Int), (0 : Int), ())
  let s_1 := (p0.1, p0.2.1, p0.2.2.1, p0.2.2.2.1, p0.2.2.2.2.1, p0.2.2.2.2.2.1, p0.2.2.2.2.2.2.1, p0.2.2.2.2.2.2.2.1, p0.2.2.2.2.2.2.2.2.1, p0.2.2.2.2.2.2.2.2.2.1, s, p0.2.2.2.2.2.2.2.2.2.2.2.1, p0.2.2.2.2.2.2.2.2.2.2.2.2.1, p0.2.2.2.2.2.2.2.2.2.2.2.2.2.1, p0.2.2.2.2.2.2.2.2.2.2.2.2.2.2.1, p0.2.2.2.2.2.2.2.2.2.2.2.2.2.2.2.1, p0.2.2.2.2.2.2.2.2.2.2.2.2.2.2.2.2.1, p0.2.2.2.2.2.2.2.2.2.2.2.2.2.2.2.2.2.1, p0.2.2.2.2.2.2.2.2.2.2.2.2.2.2.2.2.2.2.1, p0.2.2.2.2.2.2.2.2.2.2.2.2.2.2.2.2.2.2.2.1, p0.2.2.2.2.2.2.2.2.2.2.2.2.2.2.2.2.2.2.2.2.1, p0.2.2.2.2.2.2.2.2.2.2.2.2.2.2.2.2.2.2.2.2.2.1, p0.2.2.2.2.2.2.2.2.2.2.2.2.2.2.2.2.2.2.2.2.2.2.1, p0.2.2.2.2.2.2.2.2.2.2.2.2.2.2.2.2.2.2.2.2.2.2.2.1, p0.2.2.2.2.2.2.2.2.2.2.2.2.2.2.2.2.2.2.2.2.2.2.2.2.1, p0.2.2.2.2.2.2.2.2.2.2.2.2.2.2.2.2.2.2.2.2.2.2.2.2.2.1, p0.2.2.2.2.2.2.2.2.2.2.2.2.2.2.2.2.2.2.2.2.2.2.2.2.2.2.1, p0.2.2.2.2.2.2.2.2.2.2.2.2.2.2.2.2.2.2.2.2.2.2.2.2.2.2.2.1, ())
  let m1 := (bif v5 then s_1 else p0)
  ((f25_ok p0.2.1) ∧ (f27_ok m1.2.1))

instance (p0 : D37) : Decidable (f39_ok p0) := by
  unfold f39_ok
  try dsimp only
  infer_instance

def f39_ps : List (Nat × Sh) := [(0, (.val T37))]
def f39_rs : Sh := (.val T37)
def f39_os : List (Nat × Sh) := []

def f39_spec : Am.Spec := fnSpec f39_ps f39_rs f39_os (fun x => f39_ok x.1) (fun x => f39 x.1) (fun _ => ())

def f39_ctx : Ctx := { tys := tys, fns := [(25, f25_spec), (27, f27_spec)], loops := [], gh := [], wrap := false, n := 62, keep := [], wr := [] }

theorem f39_cok : CtxOk Tryz.prog f39_ctx := ctxOk_mk tys_ok ⟨f25_is, f27_is, trivial⟩ rfl (by kernel_rfl)

noncomputable def f39_code : Code := Tryz.f39.body.getD .skip

theorem f39_sum : ∀ x, sumFn f39_ctx f39_code Tryz.f39.results.toList f39_ps f39_rs f39_os x = some (f39_ok x.1, f39 x.1, ()) := fun x => by kernel_rfl

theorem f39_is : SpecOk Tryz.prog 39 f39_spec := func_gen f39_cok mixed Tryz.func39 (by kernel_rfl) (by decide) rfl (bs := []) (by kernel_rfl) trivial (by kernel_rfl) (by kernel_rfl) rfl f39_sum

-- imageeditor/node.Check
def f15 (p0 : D37) (p1 : Int) (p2 : Int) : Int :=
  let v15 := (f33 p0 p1 p2)
  let v17 := (v15 != (0 : Int))
  let v21 := (f25 p0.2.1)
  let v24 := (f34 p0.2.2.2.2.2.2.2.2.2.2.1)
  let v26 := (v24 != (0 : Int))
  let v31 := (f35 p0.2.2.2.2.2.2.2.2.2.2.1)
  let v35 := (v31.2.1 != (0 : Int))
  let c := ((!v26) && v35)
  let c_1 := (v26 || c)
  let m6 := (bif v26 then v24 else v31.2.1)
  let c_3 := (c_1 && v21)
  let v39 := (f27 p0.2.1)
  let v43 := (f36 p0.2.2.2.2.2.2.2.2.2.2.2.1)
  let v44 := (!v43)
  let v45 := (bif v39 then v44 else false)
  let v47 := (f37 p0)
  let v49 := (v47 != (0 : Int))
  let v52 := (f39 p0)
  let v53 := (f38 v52)
  let v54 := (!v53)
  let m6_1 := (bif v54 then (1 : Int) else (0 : Int))
  let m6_2 := (bif v49 then v47 else m6_1)
  let m6_3 := (bif v45 then (8 : Int) else m6_2)
  let m6_4 := (bif c_3 then m6 else m6_3)
  let m6_5 := (bif v17 then v15 else m6_4)
  m6_5

def f15_ok (p0 : D37) (p1 : Int) (p2 : Int) : Prop :=
  let v15 := (f33 p0 p1 p2)
  let v17 := (v15 != (0 : Int))
  let v21 := (f25 p0.2.1)
  let v24 := (f34 p0.2.2.2.2.2.2.2.2.2.2.1)
  let v26 := (v24 != (0 : Int))
  let v31 := (f35 p0.2.2.2.2.2.2.2.2.2.2.1)
  let v35 := (v31.2.1 != (0 : Int))
  let c_2 := ((!v26) && (!v35))
  let c_4 := (bif v21 then c_2 else true)
  let v39 := (f27 p0.2.1)
  let v43 := (f36 p0.2.2.2.2.2.2.2.2.2.2.2.1)
  let v44 := (!v43)
  let v45 := (bif v39 then v44 else false)
  let v47 := (f37 p0)
  let v49 := (v47 != (0 : Int))
  let v52 := (f39 p0)
  ((f33_ok p0 p1 p2) ∧ ((!v17) = true → ((f25_ok p0.2.1) ∧ ((v21 = true → ((f34_ok p0.2.2.2.2.2.2.2.2.2.2.1) ∧ ((!v26) = true → (f35_ok p0.2.2.2.2.2.2.2.2.2.2.1)))) ∧ (c_4 = true → ((f27_ok p0.2.1) ∧ ((v39 = true → (f36_ok p0.2.2.2.2.2.2.2.2.2.2.2.1)) ∧ ((!v45) = true → ((f37_ok p0) ∧ ((!v49) = true → ((f39_ok p0) ∧ (f38_ok v52))))))))))))

instance (p0 : D37) (p1 : Int) (p2 : Int) : Decidable (f15_ok p0 p1 p2) := by
  unfold f15_ok
  try dsimp only
  infer_instance

def f15_ps : List (Nat × Sh) := [(0, (.val T37)), (1, (.val (.int .i64))), (2, (.val (.int .i64)))]
def f15_rs : Sh := (.val (.int .i64))
def f15_os : List (Nat × Sh) := []

def f15_spec : Am.Spec := fnSpec f15_ps f15_rs f15_os (fun x => f15_ok x.1 x.2.1 x.2.2.1) (fun x => f15 x.1 x.2.1 x.2.2.1) (fun _ => ())

def f15_ctx : Ctx := { tys := tys, fns := [(25, f25_spec), (27, f27_spec), (33, f33_spec), (34, f34_spec), (35, f35_spec), (36, f36_spec), (37, f37_spec), (38, f38_spec), (39, f39_spec)], loops := [], gh := [], wrap := false, n := 55, keep := [], wr := [] }

theorem f15_cok : CtxOk Tryz.prog f15_ctx := ctxOk_mk tys_ok ⟨f25_is, f27_is, f33_is, f34_is, f35_is, f36_is, f37_is, f38_is, f39_is, trivial⟩ rfl (by kernel_rfl)

noncomputable def f15_code : Code := Tryz.f15.body.getD .skip

theorem f15_sum : ∀ x, sumFn f15_ctx f15_code Tryz.f15.results.toList f15_ps f15_rs f15_os x = some (f15_ok x.1 x.2.1 x.2.2.1, f15 x.1 x.2.1 x.2.2.1, ()) := fun x => by kernel_rfl

theorem f15_is : SpecOk Tryz.prog 15 f15_spec := func_gen f15_cok mixed Tryz.func15 (by kernel_rfl) (by decide) rfl (bs := []) (by kernel_rfl) trivial (by kernel_rfl) (by kernel_rfl) rfl f15_sum

-- imageeditor/filter.abs
def f97 (p0 : Int) : Int :=
  let v5 := (Int.sub 0 p0)
  let v6 := (imax p0 v5)
  v6

def f97_ok (p0 : Int) : Prop :=
  InR (Int.sub 0 p0)

instance (p0 : Int) : Decidable (f97_ok p0) := by
  unfold f97_ok
  try dsimp only
  infer_instance

def f97_ps : List (Nat × Sh) := [(0, (.val (.int .i64)))]
def f97_rs : Sh := (.val (.int .i64))
def f97_os : List (Nat × Sh) := []

def f97_spec : Am.Spec := fnSpec f97_ps f97_rs f97_os (fun x => f97_ok x.1) (fun x => f97 x.1) (fun _ => ())

def f97_ctx : Ctx := { tys := tys, fns := [], loops := [], gh := [], wrap := false, n := 7, keep := [], wr := [] }

theorem f97_cok : CtxOk Tryz.prog f97_ctx := ctxOk_mk tys_ok trivial rfl (by kernel_rfl)

noncomputable def f97_code : Code := Tryz.f97.body.getD .skip

theorem f97_sum : ∀ x, sumFn f97_ctx f97_code Tryz.f97.results.toList f97_ps f97_rs f97_os x = some (f97_ok x.1, f97 x.1, ()) := fun x => by kernel_rfl

theorem f97_is : SpecOk Tryz.prog 97 f97_spec := func_gen f97_cok mixed Tryz.func97 (by kernel_rfl) (by decide) rfl (bs := []) (by kernel_rfl) trivial (by kernel_rfl) (by kernel_rfl) rfl f97_sum

-- imageeditor/filter.Reach
def f47 (p0 : Int) (p1 : (List Int)) : Int :=
  let v7 := (f80 p0 p1)
  let v8 := (v7 != (0 : Int))
  let v11 := (p0 == (5 : Int))
  let v12 := (p0 == (6 : Int))
  let m10 := (bif v11 then v11 else v12)
  let v14 := (p0 == (9 : Int))
  let v16 := (nth p1 (0 : Int) (0 : Int))
  let v18 := (f97 v16)
  let v20 := (nth p1 (1 : Int) (0 : Int))
  let v22 := (f97 v20)
  let v23 := (imax v18 v22)
  let v25 := (p0 == (10 : Int))
  let v27 := (nth p1 (0 : Int) (0 : Int))
  let v29 := (v27 - (1 : Int))
  let c := (bif v14 then true else v25)
  let m4 := (bif v14 then v23 else v29)
  let c_2 := (bif m10 then true else c)
  let m4_1 := (bif m10 then (1 : Int) else m4)
  let v31 := (nth p1 (0 : Int) (0 : Int))
  let m4_2 := (bif c_2 then m4_1 else v31)
  let m4_3 := (bif v8 then (0 : Int) else m4_2)
  m4_3

def f47_ok (p0 : Int) (p1 : (List Int)) : Prop :=
  let v7 := (f80 p0 p1)
  let v8 := (v7 != (0 : Int))
  let v11 := (p0 == (5 : Int))
  let v12 := (p0 == (6 : Int))
  let m10 := (bif v11 then v11 else v12)
  let v14 := (p0 == (9 : Int))
  let v16 := (nth p1 (0 : Int) (0 : Int))
  let v20 := (nth p1 (1 : Int) (0 : Int))
  let v25 := (p0 == (10 : Int))
  let v27 := (nth p1 (0 : Int) (0 : Int))
  let c_1 := ((!v25) && (!v14))
  let c_3 := (c_1 && (!m10))
  ((f80_ok p0 p1) ∧ ((!v8) = true → ((m10 = false → ((v14 = true → (InB (0 : Int) (len p1) ∧ ((f97_ok v16) ∧ (InB (1 : Int) (len p1) ∧ (f97_ok v20))))) ∧ (v14 = false → (v25 = true → (InB (0 : Int) (len p1) ∧ InR (v27 - (1 : Int))))))) ∧ (c_3 = true → InB (0 : Int) (len p1)))))

instance (p0 : Int) (p1 : (List Int)) : Decidable (f47_ok p0 p1) := by
  unfold f47_ok
  try dsimp only
  infer_instance

def f47_ps : List (Nat × Sh) := [(0, (.val (.int .i64))), (1, (.val (.sl (.int .i64))))]
def f47_rs : Sh := (.val (.int .i64))
def f47_os : List (Nat × Sh) := []

def f47_spec : Am.Spec := fnSpec f47_ps f47_rs f47_os (fun x => f47_ok x.1 x.2.1) (fun x => f47 x.1 x.2.1) (fun _ => ())

def f47_ctx : Ctx := { tys := tys, fns := [(80, f80_spec), (97, f97_spec)], loops := [], gh := [], wrap := false, n := 33, keep := [], wr := [] }

theorem f47_cok : CtxOk Tryz.prog f47_ctx := ctxOk_mk tys_ok ⟨f80_is, f97_is, trivial⟩ rfl (by kernel_rfl)

noncomputable def f47_code : Code := Tryz.f47.body.getD .skip

theorem f47_sum : ∀ x, sumFn f47_ctx f47_code Tryz.f47.results.toList f47_ps f47_rs f47_os x = some (f47_ok x.1 x.2.1, f47 x.1 x.2.1, ()) := fun x => by kernel_rfl

theorem f47_is : SpecOk Tryz.prog 47 f47_spec := func_gen f47_cok mixed Tryz.func47 (by kernel_rfl) (by decide) rfl (bs := []) (by kernel_rfl) trivial (by kernel_rfl) (by kernel_rfl) rfl f47_sum

-- imageeditor/warp.Reach
def f48_L5_g (y : ((List D59) × Int × Unit)) (x : (Int × Int × Unit)) : Bool :=
  let a11 := y.2.1 
  let a12 := x.2.1 
  let v13 := (decide (a12 < a11))
  v13

def f48_L5_next (y : ((List D59) × Int × Unit)) (x : (Int × Int × Unit)) : (Int × Int × Unit) :=
  let a10 := y.1 
  let a3 := x.1 
  let a12 := x.2.1 
  let v14 := (nth a10 a12 Z59)
  let v21 := (Int.sub 0 v14.1)
  let v26 := (Int.sub 0 v14.2.1)
  let v27 := (imax (imax (imax (imax a3 v14.1) v21) v14.2.1) v26)
  let v28 := (a12 + (1 : Int))
  (v27, v28, ())

def f48_L5_ok (y : ((List D59) × Int × Unit)) (x : (Int × Int × Unit)) : Prop :=
  let a10 := y.1 
  let a11 := y.2.1 
  let a12 := x.2.1 
  let v13 := (decide (a12 < a11))
  let v14 := (nth a10 a12 Z59)
  (v13 = true → (InB a12 (len a10) ∧ (InR (Int.sub 0 v14.1) ∧ (InR (Int.sub 0 v14.2.1) ∧ InR (a12 + (1 : Int))))))

instance (y : ((List D59) × Int × Unit)) (x : (Int × Int × Unit)) : Decidable (f48_L5_ok y x) := by
  unfold f48_L5_ok
  try dsimp only
  infer_instance

def f48_L5_x2 (y : ((List D59) × Int × Unit)) (x : (Int × Int × Unit)) : (Int × Unit) :=
  let a3 := x.1 
  (a3, ())

def f48_L5_ly : List (Nat × Sh) := [(10, (.val (.sl T59))), (11, (.val (.int .i64)))]
def f48_L5_lx : List (Nat × Sh) := [(3, (.val (.int .i64))), (12, (.val (.int .i64)))]
def f48_L5_les : List (List (Nat × Sh)) := [[(3, (.val (.int .i64)))]]

def f48_L5_es (y : denL f48_L5_ly) (x : denL f48_L5_lx) : List Comp := [⟨2, none, mkSt [(3, (.val (.int .i64)))] ((f48_L5_x2 y x).1, ()) ++ cutSt⟩]

def f48_L5_spec : St → Option Out := loopS f48_L5_ly f48_L5_lx f48_L5_g f48_L5_next f48_L5_ok f48_L5_es

def f48 (p0 : D35) : Int :=
  let v7 := (f81 p0)
  let v8 := (v7 != (0 : Int))
  let v11 := (len p0.2.2.2.1)
  let y5 := (p0.2.2.2.1, v11, ())
  let x5 := ((0 : Int), (0 : Int), ())
  let e5 := (loopEnd (f48_L5_g y5) (f48_L5_next y5) x5)
  let r5_2 := (f48_L5_x2 y5 e5)
  let v30 := (r5_2.1 + (65536 : Int))
  let v31 := (v30 - (1 : Int))
  let v32 := (Int.tdiv v31 (65536 : Int))
  let m2 := (bif v8 then (0 : Int) else v32)
  m2

def f48_ok (p0 : D35) : Prop :=
  let v7 := (f81 p0)
  let v8 := (v7 != (0 : Int))
  let v11 := (len p0.2.2.2.1)
  let y5 := (p0.2.2.2.1, v11, ())
  let x5 := ((0 : Int), (0 : Int), ())
  let e5 := (loopEnd (f48_L5_g y5) (f48_L5_next y5) x5)
  let r5_2 := (f48_L5_x2 y5 e5)
  let v30 := (r5_2.1 + (65536 : Int))
  let v31 := (v30 - (1 : Int))
  ((f81_ok p0) ∧ ((!v8) = true → ((Am.Ends (f48_L5_g y5) (f48_L5_next y5) (f48_L5_ok y5) x5) ∧ (InR (r5_2.1 + (65536 : Int)) ∧ (InR (v30 - (1 : Int)) ∧ InR (Int.tdiv v31 (65536 : Int)))))))

instance (p0 : D35) : Decidable (f48_ok p0) := by
  unfold f48_ok
  try dsimp only
  infer_instance

def f48_ps : List (Nat × Sh) := [(0, (.val T35))]
def f48_rs : Sh := (.val (.int .i64))
def f48_os : List (Nat × Sh) := []

def f48_spec : Am.Spec := fnSpec f48_ps f48_rs f48_os (fun x => f48_ok x.1) (fun x => f48 x.1) (fun _ => ())

def f48_ctx : Ctx := { tys := tys, fns := [(81, f81_spec)], loops := [(5, f48_L5_spec)], gh := [], wrap := false, n := 33, keep := [], wr := [] }

theorem f48_cok : CtxOk Tryz.prog f48_ctx := ctxOk_mk tys_ok ⟨f81_is, trivial⟩ rfl (by kernel_rfl)

noncomputable def f48_code : Code := Tryz.f48.body.getD .skip

noncomputable def f48_L5 : Code := nthLoop f48_code 0

theorem f48_L5_sum : ∀ y x, sumLoop f48_ctx f48_L5 f48_L5_ly f48_L5_lx f48_L5_les y x = some (f48_L5_ok y x, f48_L5_g y x, y, f48_L5_next y x, f48_L5_es y x) := fun y x => by kernel_rfl

theorem f48_L5_is : LoopSnd Tryz.prog f48_ctx f48_L5 := loop_gen f48_cok mixed (bs := []) (by kernel_rfl) trivial (by kernel_rfl) (by kernel_rfl) f48_L5_sum

theorem f48_sum : ∀ x, sumFn f48_ctx f48_code Tryz.f48.results.toList f48_ps f48_rs f48_os x = some (f48_ok x.1, f48 x.1, ()) := fun x => by kernel_rfl

theorem f48_is : SpecOk Tryz.prog 48 f48_spec := func_gen f48_cok mixed Tryz.func48 (by kernel_rfl) (by decide) rfl (bs := [f48_L5]) (by kernel_rfl) ⟨f48_L5_is, trivial⟩ (by kernel_rfl) (by kernel_rfl) rfl f48_sum

-- imageeditor/kernel.Support
def f49 (p0 : Int) : Int :=
  let v5 := (p0 == (2 : Int))
  let v6 := (p0 == (4 : Int))
  let m4 := (bif v5 then v5 else v6)
  let v8 := (p0 == (0 : Int))
  let v9 := (p0 == (1 : Int))
  let v10 := (p0 == (3 : Int))
  let m7 := (bif v9 then v9 else v10)
  let m7_1 := (bif v8 then v8 else m7)
  let c := (bif m4 then true else m7_1)
  let m2 := (bif m4 then (2 : Int) else (1 : Int))
  let m2_1 := (bif c then m2 else (0 : Int))
  m2_1

def f49_ok (p0 : Int) : Prop :=
  True

instance (p0 : Int) : Decidable (f49_ok p0) := by
  unfold f49_ok
  try dsimp only
  infer_instance

def f49_ps : List (Nat × Sh) := [(0, (.val (.int .i64)))]
def f49_rs : Sh := (.val (.int .i64))
def f49_os : List (Nat × Sh) := []

def f49_spec : Am.Spec := fnSpec f49_ps f49_rs f49_os (fun x => f49_ok x.1) (fun x => f49 x.1) (fun _ => ())

def f49_ctx : Ctx := { tys := tys, fns := [], loops := [], gh := [], wrap := false, n := 11, keep := [], wr := [] }

theorem f49_cok : CtxOk Tryz.prog f49_ctx := ctxOk_mk tys_ok trivial rfl (by kernel_rfl)

noncomputable def f49_code : Code := Tryz.f49.body.getD .skip

theorem f49_sum : ∀ x, sumFn f49_ctx f49_code Tryz.f49.results.toList f49_ps f49_rs f49_os x = some (f49_ok x.1, f49 x.1, ()) := fun x => by kernel_rfl

theorem f49_is : SpecOk Tryz.prog 49 f49_spec := func_gen f49_cok mixed Tryz.func49 (by kernel_rfl) (by decide) rfl (bs := []) (by kernel_rfl) trivial (by kernel_rfl) (by kernel_rfl) rfl f49_sum

-- imageeditor/node.Reach
def f20 (p0 : D37) : Int :=
  let v6 := (p0.2.1 == (8 : Int))
  let v11 := (f47 p0.2.2.2.2.2.2.2.2.2.2.2.2.2.2.1 p0.2.2.2.2.2.2.2.2.2.2.2.2.2.2.2.1)
  let v13 := (p0.2.1 == (11 : Int))
  let v16 := (f48 p0.2.2.2.2.2.2.2.2.2.2.2.2.2.2.2.2.2.2.2.2.2.2.2.2.2.2.2.1)
  let v19 := (f49 p0.2.2.2.2.2.2.2.2.2.2.2.1)
  let v20 := (v16 + v19)
  let v21 := (v20 + (1 : Int))
  let c := (bif v6 then true else v13)
  let m2 := (bif v6 then v11 else v21)
  let m2_1 := (bif c then m2 else (0 : Int))
  m2_1

def f20_ok (p0 : D37) : Prop :=
  let v6 := (p0.2.1 == (8 : Int))
  let v13 := (p0.2.1 == (11 : Int))
  let v16 := (f48 p0.2.2.2.2.2.2.2.2.2.2.2.2.2.2.2.2.2.2.2.2.2.2.2.2.2.2.2.1)
  let v19 := (f49 p0.2.2.2.2.2.2.2.2.2.2.2.1)
  let v20 := (v16 + v19)
  ((v6 = true → (f47_ok p0.2.2.2.2.2.2.2.2.2.2.2.2.2.2.1 p0.2.2.2.2.2.2.2.2.2.2.2.2.2.2.2.1)) ∧ (v6 = false → (v13 = true → ((f48_ok p0.2.2.2.2.2.2.2.2.2.2.2.2.2.2.2.2.2.2.2.2.2.2.2.2.2.2.2.1) ∧ ((f49_ok p0.2.2.2.2.2.2.2.2.2.2.2.1) ∧ (InR (v16 + v19) ∧ InR (v20 + (1 : Int))))))))

instance (p0 : D37) : Decidable (f20_ok p0) := by
  unfold f20_ok
  try dsimp only
  infer_instance

def f20_ps : List (Nat × Sh) := [(0, (.val T37))]
def f20_rs : Sh := (.val (.int .i64))
def f20_os : List (Nat × Sh) := []

def f20_spec : Am.Spec := fnSpec f20_ps f20_rs f20_os (fun x => f20_ok x.1) (fun x => f20 x.1) (fun _ => ())

def f20_ctx : Ctx := { tys := tys, fns := [(47, f47_spec), (48, f48_spec), (49, f49_spec)], loops := [], gh := [], wrap := false, n := 22, keep := [], wr := [] }

theorem f20_cok : CtxOk Tryz.prog f20_ctx := ctxOk_mk tys_ok ⟨f47_is, f48_is, f49_is, trivial⟩ rfl (by kernel_rfl)

noncomputable def f20_code : Code := Tryz.f20.body.getD .skip

theorem f20_sum : ∀ x, sumFn f20_ctx f20_code Tryz.f20.results.toList f20_ps f20_rs f20_os x = some (f20_ok x.1, f20 x.1, ()) := fun x => by kernel_rfl

theorem f20_is : SpecOk Tryz.prog 20 f20_spec := func_gen f20_cok mixed Tryz.func20 (by kernel_rfl) (by decide) rfl (bs := []) (by kernel_rfl) trivial (by kernel_rfl) (by kernel_rfl) rfl f20_sum

-- imageeditor/imageeditorlaw31.example
def f16  : Bool :=
  let v8 := (f10 (3 : Int))
  let v12 := (f10 (8 : Int))
  let v16 := (v8.2.1 != (0 : Int))
  let v19 := (v12.2.1 != (0 : Int))
  let v20 := (bif v16 then true else v19)
  let v23 := (f15 v8.1 (8 : Int) (8 : Int))
  let v24 := (v23 != (0 : Int))
  let v25 := (bif v20 then true else v24)
  let v28 := (f20 v12.1)
  let v29 := (v28 != (1 : Int))
  let v30 := (bif v25 then true else v29)
  let v33 := (f18 v12.1)
  let v34 := (!v33)
  let v35 := (bif v30 then true else v34)
  let v38 := (f18 v8.1)
  let v39 := (bif v35 then true else v38)
  let s := (v8.1.1, v8.1.2.1, v8.1.2.2.1, v8.1.2.2.2.1, v8.1.2.2.2.2.1, v8.1.2.2.2.2.2.1, v8.1.2.2.2.2.2.2.1, (65536 : Int), v8.1.2.2.2.2.2.2.2.2.1, v8.1.2.2.2.2.2.2.2.2.2.1, v8.1.2.2.2.2.2.2.2.2.2.2.1, v8.1.2.2.2.2.2.2.2.2.2.2.2.1, v8.1.2.2.2.2.2.2.2.2.2.2.2.2.1, v8.1.2.2.2.2.2.2.2.2.2.2.2.2.2.1, v8.1.2.2.2.2.2.2.2.2.2.2.2.2.2.2.1, v8.1.2.2.2.2.2.2.2.2.2.2.2.2.2.2.2.1, v8.1.2.2.2.2.2.2.2.2.2.2.2.2.2.2.2.2.1, v8.1.2.2.2.2.2.2.2.2.2.2.2.2.2.2.2.2.2.1, v8.1.2.2.2.2.2.2.2.2.2.2.2.2.2.2.2.2.2.2.1, v8.1.2.2.2.2.2.2.2.2.2.2.2.2.2.2.2.2.2.2.2.1, v8.1.2.2.2.2.2.2.2.2.2.2.2.2.2.2.2.2.2.2.2.2.1, v8.1.2.2.2.2.2.2.2.2.2.2.2.2.2.2.2.2.2.2.2.2.2.1, v8.1.2.2.2.2.2.2.2.2.2.2.2.2.2.2.2.2.2.2.2.2.2.2.1, v8.1.2.2.2.2.2.2.2.2.2.2.2.2.2.2.2.2.2.2.2.2.2.2.2.1, v8.1.2.2.2.2.2.2.2.2.2.2.2.2.2.2.2.2.2.2.2.2.2.2.2.2.1, v8.1.2.2.2.2.2.2.2.2.2.2.2.2.2.2.2.2.2.2.2.2.2.2.2.2.2.1, v8.1.2.2.2.2.2.2.2.2.2.2.2.2.2.2.2.2.2.2.2.2.2.2.2.2.2.2.1, v8.1.2.2.2.2.2.2.2.2.2.2.2.2.2.2.2.2.2.2.2.2.2.2.2.2.2.2.2.1, ())
  let s_1 := (v12.1.1, v12.1.2.1, v12.1.2.2.1, v12.1.2.2.2.1, v12.1.2.2.2.2.1, v12.1.2.2.2.2.2.1, v12.1.2.2.2.2.2.2.1, v12.1.2.2.2.2.2.2.2.1, (1 : Int), v12.1.2.2.2.2.2.2.2.2.2.1, v12.1.2.2.2.2.2.2.2.2.2.2.1, v12.1.2.2.2.2.2.2.2.2.2.2.2.1, v12.1.2.2.2.2.2.2.2.2.2.2.2.2.1, v12.1.2.2.2.2.2.2.2.2.2.2.2.2.2.1, v12.1.2.2.2.2.2.2.2.2.2.2.2.2.2.2.1, v12.1.2.2.2.2.2.2.2.2.2.2.2.2.2.2.2.1, v12.1.2.2.2.2.2.2.2.2.2.2.2.2.2.2.2.2.1, v12.1.2.2.2.2.2.2.2.2.2.2.2.2.2.2.2.2.2.1, v12.1.2.2.2.2.2.2.2.2.2.2.2.2.2.2.2.2.2.2.1, v12.1.2.2.2.2.2.2.2.2.2.2.2.2.2.2.2.2.2.2.2.1, v12.1.2.2.2.2.2.2.2.2.2.2.2.2.2.2.2.2.2.2.2.2.1, v12.1.2.2.2.2.2.2.2.2.2.2.2.2.2.2.2.2.2.2.2.2.2.1, v12.1.2.2.2.2.2.2.2.2.2.2.2.2.2.2.2.2.2.2.2.2.2.2.1, v12.1.2.2.2.2.2.2.2.2.2.2.2.2.2.2.2.2.2.2.2.2.2.2.2.1, v12.1.2.2.2.2.2.2.2.2.2.2.2.2.2.2.2.2.2.2.2.2.2.2.2.2.1, v12.1.2.2.2.2.2.2.2.2.2.2.2.2.2.2.2.2.2.2.2.2.2.2.2.2.2.1, v12.1.2.2.2.2.2.2.2.2.2.2.2.2.2.2.2.2.2.2.2.2.2.2.2.2.2.2.1, v12.1.2.2.2.2.2.2.2.2.2.2.2.2.2.2.2.2.2.2.2.2.2.2.2.2.2.2.2.1, ())
  let v44 := (f10 (11 : Int))
  let v48 := (v44.2.1 == (0 : Int))
  let v51 := (f15 s (8 : Int) (8 : Int))
  let v52 := (v51 == (2 : Int))
  let v53 := (bif v48 then v52 else false)
  let v56 := (f15 s_1 (8 : Int) (8 : Int))
  let v57 := (v56 == (8 : Int))
  let v58 := (bif v53 then v57 else false)
  let s_2 := ((0 : Int), (0 : Int), ([] : List Int), ())
  let s_3 := ((0 : Int), (0 : Int), ([] : List D30), ())
  let s_4 := ((0 : Int), (0 : Int), (0 : Int), ([] : List D59), ())
  let s_5 := ((0 : Int), (2 : Int), (0 : Int), ([105] : List UInt8), false, false, false, (0 : Int), (0 : Int), s_2, Z25, (0 : Int), s_3, Z30, (0 : Int), ([] : List Int), (0 : Int), ([] : List D57), ([] : List D62), (0 : Int), (0 : Int), (0 : Int), (0 : Int), ([] : List UInt8), (0 : Int), (0 : Int), (0 : Int), s_4, ())
  let v61 := (f15 s_5 (8 : Int) (8 : Int))
  let v62 := (v61 == (17 : Int))
  let v63 := (bif v58 then v62 else false)
  let v66 := (f20 v44.1)
  let v67 := (v66 == (2 : Int))
  let v68 := (bif v63 then v67 else false)
  let v70 := (f13 (11 : Int))
  let v71 := (v70 == ([119, 97, 114, 112] : List UInt8))
  let v72 := (bif v68 then v71 else false)
  let m0 := (bif v39 then false else v72)
  m0

def f16_ok  : Prop :=
  let v8 := (f10 (3 : Int))
  let v12 := (f10 (8 : Int))
  let v16 := (v8.2.1 != (0 : Int))
  let v19 := (v12.2.1 != (0 : Int))
  let v20 := (bif v16 then true else v19)
  let g21_1 := (!v20)
  let v23 := (f15 v8.1 (8 : Int) (8 : Int))
  let v24 := (v23 != (0 : Int))
  let v25 := (bif v20 then true else v24)
  let g26_1 := (!v25)
  let v28 := (f20 v12.1)
  let v29 := (v28 != (1 : Int))
  let v30 := (bif v25 then true else v29)
  let g31_1 := (!v30)
  let v33 := (f18 v12.1)
  let v34 := (!v33)
  let v35 := (bif v30 then true else v34)
  let g36_1 := (!v35)
  let v38 := (f18 v8.1)
  let v39 := (bif v35 then true else v38)
  let s := (v8.1.1, v8.1.2.1, v8.1.2.2.1, v8.1.2.2.2.1, v8.1.2.2.2.2.1, v8.1.2.2.2.2.2.1, v8.1.2.2.2.2.2.2.1, (65536 : Int), v8.1.2.2.2.2.2.2.2.2.1, v8.1.2.2.2.2.2.2.2.2.2.1, v8.1.2.2.2.2.2.2.2.2.2.2.1, v8.1.2.2.2.2.2.2.2.2.2.2.2.1, v8.1.2.2.2.2.2.2.2.2.2.2.2.2.1, v8.1.2.2.2.2.2.2.2.2.2.2.2.2.2.1, v8.1.2.2.2.2.2.2.2.2.2.2.2.2.2.2.1, v8.1.2.2.2.2.2.2.2.2.2.2.2.2.2.2.2.1, v8.1.2.2.2.2.2.2.2.2.2.2.2.2.2.2.2.2.1, v8.1.2.2.2.2.2.2.2.2.2.2.2.2.2.2.2.2.2.1, v8.1.2.2.2.2.2.2.2.2.2.2.2.2.2.2.2.2.2.2.1, v8.1.2.2.2.2.2.2.2.2.2.2.2.2.2.2.2.2.2.2.2.1, v8.1.2.2.2.2.2.2.2.2.2.2.2.2.2.2.2.2.2.2.2.2.1, v8.1.2.2.2.2.2.2.2.2.2.2.2.2.2.2.2.2.2.2.2.2.2.1, v8.1.2.2.2.2.2.2.2.2.2.2.2.2.2.2.2.2.2.2.2.2.2.2.1, v8.1.2.2.2.2.2.2.2.2.2.2.2.2.2.2.2.2.2.2.2.2.2.2.2.1, v8.1.2.2.2.2.2.2.2.2.2.2.2.2.2.2.2.2.2.2.2.2.2.2.2.2.1, v8.1.2.2.2.2.2.2.2.2.2.2.2.2.2.2.2.2.2.2.2.2.2.2.2.2.2.1, v8.1.2.2.2.2.2.2.2.2.2.2.2.2.2.2.2.2.2.2.2.2.2.2.2.2.2.2.1, v8.1.2.2.2.2.2.2.2.2.2.2.2.2.2.2.2.2.2.2.2.2.2.2.2.2.2.2.2.1, ())
  let s_1 := (v12.1.1, v12.1.2.1, v12.1.2.2.1, v12.1.2.2.2.1, v12.1.2.2.2.2.1, v12.1.2.2.2.2.2.1, v12.1.2.2.2.2.2.2.1, v12.1.2.2.2.2.2.2.2.1, (1 : Int), v12.1.2.2.2.2.2.2.2.2.2.1, v12.1.2.2.2.2.2.2.2.2.2.2.1, v12.1.2.2.2.2.2.2.2.2.2.2.2.1, v12.1.2.2.2.2.2.2.2.2.2.2.2.2.1, v12.1.2.2.2.2.2.2.2.2.2.2.2.2.2.1, v12.1.2.2.2.2.2.2.2.2.2.2.2.2.2.2.1, v12.1.2.2.2.2.2.2.2.2.2.2.2.2.2.2.2.1, v12.1.2.2.2.2.2.2.2.2.2.2.2.2.2.2.2.2.1, v12.1.2.2.2.2.2.2.2.2.2.2.2.2.2.2.2.2.2.1, v12.1.2.2.2.2.2.2.2.2.2.2.2.2.2.2.2.2.2.2.1, v12.1.2.2.2.2.2.2.2.2.2.2.2.2.2.2.2.2.2.2.2.1, v12.1.2.2.2.2.2.2.2.2.2.2.2.2.2.2.2.2.2.2.2.2.1, v12.1.2.2.2.2.2.2.2.2.2.2.2.2.2.2.2.2.2.2.2.2.2.1, v12.1.2.2.2.2.2.2.2.2.2.2.2.2.2.2.2.2.2.2.2.2.2.2.1, v12.1.2.2.2.2.2.2.2.2.2.2.2.2.2.2.2.2.2.2.2.2.2.2.2.1, v12.1.2.2.2.2.2.2.2.2.2.2.2.2.2.2.2.2.2.2.2.2.2.2.2.2.1, v12.1.2.2.2.2.2.2.2.2.2.2.2.2.2.2.2.2.2.2.2.2.2.2.2.2.2.1, v12.1.2.2.2.2.2.2.2.2.2.2.2.2.2.2.2.2.2.2.2.2.2.2.2.2.2.2.1, v12.1.2.2.2.2.2.2.2.2.2.2.2.2.2.2.2.2.2.2.2.2.2.2.2.2.2.2.2.1, ())
  let v44 := (f10 (11 : Int))
  let v48 := (v44.2.1 == (0 : Int))
  let v51 := (f15 s (8 : Int) (8 : Int))
  let v52 := (v51 == (2 : Int))
  let v53 := (bif v48 then v52 else false)
  let v56 := (f15 s_1 (8 : Int) (8 : Int))
  let v57 := (v56 == (8 : Int))
  let v58 := (bif v53 then v57 else false)
  let s_2 := ((0 : Int), (0 : Int), ([] : List Int), ())
  let s_3 := ((0 : Int), (0 : Int), ([] : List D30), ())
  let s_4 := ((0 : Int), (0 : Int), (0 : Int), ([] : List D59), ())
  let s_5 := ((0 : Int), (2 : Int), (0 : Int), ([105] : List UInt8), false, false, false, (0 : Int), (0 : Int), s_2, Z25, (0 : Int), s_3, Z30, (0 : Int), ([] : List Int), (0 : Int), ([] : List D57), ([] : List D62), (0 : Int), (0 : Int), (0 : Int), (0 : Int), ([] : List UInt8), (0 : Int), (0 : Int), (0 : Int), s_4, ())
  let v61 := (f15 s_5 (8 : Int) (8 : Int))
  let v62 := (v61 == (17 : Int))
  let v63 := (bif v58 then v62 else false)
  let v66 := (f20 v44.1)
  let v67 := (v66 == (2 : Int))
  let v68 := (bif v63 then v67 else false)
  ((f10_ok (3 : Int)) ∧ ((f10_ok (8 : Int)) ∧ ((g21_1 = true → (f15_ok v8.1 (8 : Int) (8 : Int))) ∧ ((g26_1 = true → (f20_ok v12.1)) ∧ ((g31_1 = true → (f18_ok v12.1)) ∧ ((g36_1 = true → (f18_ok v8.1)) ∧ ((!v39) = true → ((f10_ok (11 : Int)) ∧ ((v48 = true → (f15_ok s (8 : Int) (8 : Int))) ∧ ((v53 = true → (f15_ok s_1 (8 : Int) (8 : Int))) ∧ ((v58 = true → (f15_ok s_5 (8 : Int) (8 : Int))) ∧ ((v63 = true → (f20_ok v44.1)) ∧ (v68 = true → (f13_ok (11 : Int)))))))))))))))

instance  : Decidable (f16_ok ) := by
  unfold f16_ok
  try dsimp only
  infer_instance

def f16_ps : List (Nat × Sh) := []
def f16_rs : Sh := (.val .bool)
def f16_os : List (Nat × Sh) := []

def f16_spec : Am.Spec := fnSpec f16_ps f16_rs f16_os (fun x => f16_ok ) (fun x => f16 ) (fun _ => ())

def f16_ctx : Ctx := { tys := tys, fns := [(10, f10_spec), (13, f13_spec), (15, f15_spec), (18, f18_spec), (20, f20_spec)], loops := [], gh := [], wrap := false, n := 73, keep := [], wr := [] }

theorem f16_cok : CtxOk Tryz.prog f16_ctx := ctxOk_mk tys_ok ⟨f10_is, f13_is, f15_is, f18_is, f20_is, trivial⟩ rfl (by kernel_rfl)

noncomputable def f16_code : Code := Tryz.f16.body.getD .skip

theorem f16_sum : ∀ x, sumFn f16_ctx f16_code Tryz.f16.results.toList f16_ps f16_rs f16_os x = some (f16_ok , f16 , ()) := fun x => by kernel_rfl

theorem f16_is : SpecOk Tryz.prog 16 f16_spec := func_gen f16_cok mixed Tryz.func16 (by kernel_rfl) (by decide) rfl (bs := []) (by kernel_rfl) trivial (by kernel_rfl) (by kernel_rfl) rfl f16_sum

-- imageeditor/imageeditorref31.Reads
def f19 (p0 : D37) : Bool :=
  let v5 := (p0.2.1 == (7 : Int))
  let v9 := (p0.2.1 == (8 : Int))
  let v10 := (bif v5 then true else v9)
  let v14 := (p0.2.1 == (11 : Int))
  let v15 := (bif v10 then true else v14)
  v15

def f19_ok (p0 : D37) : Prop :=
  True

instance (p0 : D37) : Decidable (f19_ok p0) := by
  unfold f19_ok
  try dsimp only
  infer_instance

def f19_ps : List (Nat × Sh) := [(0, (.val T37))]
def f19_rs : Sh := (.val .bool)
def f19_os : List (Nat × Sh) := []

def f19_spec : Am.Spec := fnSpec f19_ps f19_rs f19_os (fun x => f19_ok x.1) (fun x => f19 x.1) (fun _ => ())

def f19_ctx : Ctx := { tys := tys, fns := [], loops := [], gh := [], wrap := false, n := 16, keep := [], wr := [] }

theorem f19_cok : CtxOk Tryz.prog f19_ctx := ctxOk_mk tys_ok trivial rfl (by kernel_rfl)

noncomputable def f19_code : Code := Tryz.f19.body.getD .skip

theorem f19_sum : ∀ x, sumFn f19_ctx f19_code Tryz.f19.results.toList f19_ps f19_rs f19_os x = some (f19_ok x.1, f19 x.1, ()) := fun x => by kernel_rfl

theorem f19_is : SpecOk Tryz.prog 19 f19_spec := func_gen f19_cok mixed Tryz.func19 (by kernel_rfl) (by decide) rfl (bs := []) (by kernel_rfl) trivial (by kernel_rfl) (by kernel_rfl) rfl f19_sum

-- imageeditor/imageeditorref16.within
def f140 (p0 : Int) (p1 : Int) (p2 : Int) : Bool :=
  let v9 := (decide (p0 ≥ p1))
  let v13 := (decide (p0 ≤ p2))
  let v14 := (bif v9 then v13 else false)
  v14

def f140_ok (p0 : Int) (p1 : Int) (p2 : Int) : Prop :=
  True

instance (p0 : Int) (p1 : Int) (p2 : Int) : Decidable (f140_ok p0 p1 p2) := by
  unfold f140_ok
  try dsimp only
  infer_instance

def f140_ps : List (Nat × Sh) := [(0, (.val (.int .i64))), (1, (.val (.int .i64))), (2, (.val (.int .i64)))]
def f140_rs : Sh := (.val .bool)
def f140_os : List (Nat × Sh) := []

def f140_spec : Am.Spec := fnSpec f140_ps f140_rs f140_os (fun x => f140_ok x.1 x.2.1 x.2.2.1) (fun x => f140 x.1 x.2.1 x.2.2.1) (fun _ => ())

def f140_ctx : Ctx := { tys := tys, fns := [], loops := [], gh := [], wrap := false, n := 15, keep := [], wr := [] }

theorem f140_cok : CtxOk Tryz.prog f140_ctx := ctxOk_mk tys_ok trivial rfl (by kernel_rfl)

noncomputable def f140_code : Code := Tryz.f140.body.getD .skip

theorem f140_sum : ∀ x, sumFn f140_ctx f140_code Tryz.f140.results.toList f140_ps f140_rs f140_os x = some (f140_ok x.1 x.2.1 x.2.2.1, f140 x.1 x.2.1 x.2.2.1, ()) := fun x => by kernel_rfl

theorem f140_is : SpecOk Tryz.prog 140 f140_spec := func_gen f140_cok mixed Tryz.func140 (by kernel_rfl) (by decide) rfl (bs := []) (by kernel_rfl) trivial (by kernel_rfl) (by kernel_rfl) rfl f140_sum

-- imageeditor/imageeditorref16.count
def f141 (p0 : Int) : Int :=
  let v5 := (p0 == (5 : Int))
  let v6 := (p0 == (6 : Int))
  let m4 := (bif v5 then v5 else v6)
  let v8 := (p0 == (3 : Int))
  let v9 := (p0 == (9 : Int))
  let m7 := (bif v8 then v8 else v9)
  let c := (bif m4 then true else m7)
  let m2 := (bif m4 then (0 : Int) else (2 : Int))
  let m2_1 := (bif c then m2 else (1 : Int))
  m2_1

def f141_ok (p0 : Int) : Prop :=
  True

instance (p0 : Int) : Decidable (f141_ok p0) := by
  unfold f141_ok
  try dsimp only
  infer_instance

def f141_ps : List (Nat × Sh) := [(0, (.val (.int .i64)))]
def f141_rs : Sh := (.val (.int .i64))
def f141_os : List (Nat × Sh) := []

def f141_spec : Am.Spec := fnSpec f141_ps f141_rs f141_os (fun x => f141_ok x.1) (fun x => f141 x.1) (fun _ => ())

def f141_ctx : Ctx := { tys := tys, fns := [], loops := [], gh := [], wrap := false, n := 10, keep := [], wr := [] }

theorem f141_cok : CtxOk Tryz.prog f141_ctx := ctxOk_mk tys_ok trivial rfl (by kernel_rfl)

noncomputable def f141_code : Code := Tryz.f141.body.getD .skip

theorem f141_sum : ∀ x, sumFn f141_ctx f141_code Tryz.f141.results.toList f141_ps f141_rs f141_os x = some (f141_ok x.1, f141 x.1, ()) := fun x => by kernel_rfl

theorem f141_is : SpecOk Tryz.prog 141 f141_spec := func_gen f141_cok mixed Tryz.func141 (by kernel_rfl) (by decide) rfl (bs := []) (by kernel_rfl) trivial (by kernel_rfl) (by kernel_rfl) rfl f141_sum

-- imageeditor/imageeditorref16.Check
def f95 (p0 : Int) (p1 : (List Int)) : Int :=
  let v7 := (f140 p0 (1 : Int) (10 : Int))
  let v8 := (!v7)
  let v10 := (len p1)
  let v12 := (f141 p0)
  let v13 := (v10 != v12)
  let v16 := (p0 == (1 : Int))
  let v17 := (p0 == (7 : Int))
  let v18 := (p0 == (8 : Int))
  let m15 := (bif v17 then v17 else v18)
  let m15_1 := (bif v16 then v16 else m15)
  let v20 := (nth p1 (0 : Int) (0 : Int))
  let v22 := (f140 v20 (0 : Int) (16 : Int))
  let v24 := (p0 == (2 : Int))
  let v26 := (nth p1 (0 : Int) (0 : Int))
  let v28 := (f140 v26 (0 : Int) (7 : Int))
  let v30 := (p0 == (4 : Int))
  let v32 := (nth p1 (0 : Int) (0 : Int))
  let v34 := (f140 v32 (0 : Int) (4 : Int))
  let v36 := (p0 == (3 : Int))
  let v38 := (nth p1 (0 : Int) (0 : Int))
  let v40 := (f140 v38 (0 : Int) (16 : Int))
  let v43 := (nth p1 (1 : Int) (0 : Int))
  let v45 := (f140 v43 (0 : Int) (262140 : Int))
  let v46 := (bif v40 then v45 else false)
  let v48 := (p0 == (9 : Int))
  let v50 := (nth p1 (0 : Int) (0 : Int))
  let v52 := (f140 v50 (-16 : Int) (16 : Int))
  let v55 := (nth p1 (1 : Int) (0 : Int))
  let v57 := (f140 v55 (-16 : Int) (16 : Int))
  let v58 := (bif v52 then v57 else false)
  let v60 := (p0 == (10 : Int))
  let v62 := (nth p1 (0 : Int) (0 : Int))
  let v64 := (f140 v62 (1 : Int) (16 : Int))
  let m5 := (bif v60 then v64 else true)
  let m5_1 := (bif v48 then v58 else m5)
  let m5_2 := (bif v36 then v46 else m5_1)
  let m5_3 := (bif v30 then v34 else m5_2)
  let m5_4 := (bif v24 then v28 else m5_3)
  let m5_5 := (bif m15_1 then v22 else m5_4)
  let v66 := (!m5_5)
  let m4 := (bif v66 then (2 : Int) else (0 : Int))
  let m4_1 := (bif v13 then (1 : Int) else m4)
  let m4_2 := (bif v8 then (8 : Int) else m4_1)
  m4_2

def f95_ok (p0 : Int) (p1 : (List Int)) : Prop :=
  let v7 := (f140 p0 (1 : Int) (10 : Int))
  let v8 := (!v7)
  let v10 := (len p1)
  let v12 := (f141 p0)
  let v13 := (v10 != v12)
  let v16 := (p0 == (1 : Int))
  let v17 := (p0 == (7 : Int))
  let v18 := (p0 == (8 : Int))
  let m15 := (bif v17 then v17 else v18)
  let m15_1 := (bif v16 then v16 else m15)
  let v20 := (nth p1 (0 : Int) (0 : Int))
  let v24 := (p0 == (2 : Int))
  let v26 := (nth p1 (0 : Int) (0 : Int))
  let v30 := (p0 == (4 : Int))
  let v32 := (nth p1 (0 : Int) (0 : Int))
  let v36 := (p0 == (3 : Int))
  let v38 := (nth p1 (0 : Int) (0 : Int))
  let v40 := (f140 v38 (0 : Int) (16 : Int))
  let v43 := (nth p1 (1 : Int) (0 : Int))
  let v48 := (p0 == (9 : Int))
  let v50 := (nth p1 (0 : Int) (0 : Int))
  let v52 := (f140 v50 (-16 : Int) (16 : Int))
  let v55 := (nth p1 (1 : Int) (0 : Int))
  let v60 := (p0 == (10 : Int))
  let v62 := (nth p1 (0 : Int) (0 : Int))
  ((f140_ok p0 (1 : Int) (10 : Int)) ∧ ((!v8) = true → ((f141_ok p0) ∧ ((!v13) = true → ((m15_1 = true → (InB (0 : Int) (len p1) ∧ (f140_ok v20 (0 : Int) (16 : Int)))) ∧ (m15_1 = false → ((v24 = true → (InB (0 : Int) (len p1) ∧ (f140_ok v26 (0 : Int) (7 : Int)))) ∧ (v24 = false → ((v30 = true → (InB (0 : Int) (len p1) ∧ (f140_ok v32 (0 : Int) (4 : Int)))) ∧ (v30 = false → ((v36 = true → (InB (0 : Int) (len p1) ∧ ((f140_ok v38 (0 : Int) (16 : Int)) ∧ ((v40 = true → InB (1 : Int) (len p1)) ∧ (v40 = true → (f140_ok v43 (0 : Int) (262140 : Int))))))) ∧ (v36 = false → ((v48 = true → (InB (0 : Int) (len p1) ∧ ((f140_ok v50 (-16 : Int) (16 : Int)) ∧ ((v52 = true → InB (1 : Int) (len p1)) ∧ (v52 = true → (f140_ok v55 (-16 : Int) (16 : Int))))))) ∧ (v48 = false → (v60 = true → (InB (0 : Int) (len p1) ∧ (f140_ok v62 (1 : Int) (16 : Int))))))))))))))))))

instance (p0 : Int) (p1 : (List Int)) : Decidable (f95_ok p0 p1) := by
  unfold f95_ok
  try dsimp only
  infer_instance

def f95_ps : List (Nat × Sh) := [(0, (.val (.int .i64))), (1, (.val (.sl (.int .i64))))]
def f95_rs : Sh := (.val (.int .i64))
def f95_os : List (Nat × Sh) := []

def f95_spec : Am.Spec := fnSpec f95_ps f95_rs f95_os (fun x => f95_ok x.1 x.2.1) (fun x => f95 x.1 x.2.1) (fun _ => ())

def f95_ctx : Ctx := { tys := tys, fns := [(140, f140_spec), (141, f141_spec)], loops := [], gh := [], wrap := false, n := 67, keep := [], wr := [] }

theorem f95_cok : CtxOk Tryz.prog f95_ctx := ctxOk_mk tys_ok ⟨f140_is, f141_is, trivial⟩ rfl (by kernel_rfl)

noncomputable def f95_code : Code := Tryz.f95.body.getD .skip

theorem f95_sum : ∀ x, sumFn f95_ctx f95_code Tryz.f95.results.toList f95_ps f95_rs f95_os x = some (f95_ok x.1 x.2.1, f95 x.1 x.2.1, ()) := fun x => by kernel_rfl

theorem f95_is : SpecOk Tryz.prog 95 f95_spec := func_gen f95_cok mixed Tryz.func95 (by kernel_rfl) (by decide) rfl (bs := []) (by kernel_rfl) trivial (by kernel_rfl) (by kernel_rfl) rfl f95_sum

-- imageeditor/imageeditorref16.Reach
def f50 (p0 : Int) (p1 : (List Int)) : Int :=
  let v7 := (f95 p0 p1)
  let v8 := (v7 != (0 : Int))
  let v11 := (p0 == (5 : Int))
  let v12 := (p0 == (6 : Int))
  let m10 := (bif v11 then v11 else v12)
  let v14 := (p0 == (9 : Int))
  let v16 := (nth p1 (0 : Int) (0 : Int))
  let v19 := (nth p1 (0 : Int) (0 : Int))
  let v21 := (Int.sub 0 v19)
  let v23 := (nth p1 (1 : Int) (0 : Int))
  let v26 := (nth p1 (1 : Int) (0 : Int))
  let v28 := (Int.sub 0 v26)
  let v29 := (imax (imax (imax v16 v21) v23) v28)
  let v31 := (p0 == (10 : Int))
  let v33 := (nth p1 (0 : Int) (0 : Int))
  let v35 := (v33 - (1 : Int))
  let c := (bif v14 then true else v31)
  let m4 := (bif v14 then v29 else v35)
  let c_2 := (bif m10 then true else c)
  let m4_1 := (bif m10 then (1 : Int) else m4)
  let v37 := (nth p1 (0 : Int) (0 : Int))
  let m4_2 := (bif c_2 then m4_1 else v37)
  let m4_3 := (bif v8 then (0 : Int) else m4_2)
  m4_3

def f50_ok (p0 : Int) (p1 : (List Int)) : Prop :=
  let v7 := (f95 p0 p1)
  let v8 := (v7 != (0 : Int))
  let v11 := (p0 == (5 : Int))
  let v12 := (p0 == (6 : Int))
  let m10 := (bif v11 then v11 else v12)
  let v14 := (p0 == (9 : Int))
  let v19 := (nth p1 (0 : Int) (0 : Int))
  let v26 := (nth p1 (1 : Int) (0 : Int))
  let v31 := (p0 == (10 : Int))
  let v33 := (nth p1 (0 : Int) (0 : Int))
  let c_1 := ((!v31) && (!v14))
  let c_3 := (c_1 && (!m10))
  ((f95_ok p0 p1) ∧ ((!v8) = true → ((m10 = false → ((v14 = true → (InB (0 : Int) (len p1) ∧ (InB (0 : Int) (len p1) ∧ (InR (Int.sub 0 v19) ∧ (InB (1 : Int) (len p1) ∧ (InB (1 : Int) (len p1) ∧ InR (Int.sub 0 v26))))))) ∧ (v14 = false → (v31 = true → (InB (0 : Int) (len p1) ∧ InR (v33 - (1 : Int))))))) ∧ (c_3 = true → InB (0 : Int) (len p1)))))

instance (p0 : Int) (p1 : (List Int)) : Decidable (f50_ok p0 p1) := by
  unfold f50_ok
  try dsimp only
  infer_instance

def f50_ps : List (Nat × Sh) := [(0, (.val (.int .i64))), (1, (.val (.sl (.int .i64))))]
def f50_rs : Sh := (.val (.int .i64))
def f50_os : List (Nat × Sh) := []

def f50_spec : Am.Spec := fnSpec f50_ps f50_rs f50_os (fun x => f50_ok x.1 x.2.1) (fun x => f50 x.1 x.2.1) (fun _ => ())

def f50_ctx : Ctx := { tys := tys, fns := [(95, f95_spec)], loops := [], gh := [], wrap := false, n := 39, keep := [], wr := [] }

theorem f50_cok : CtxOk Tryz.prog f50_ctx := ctxOk_mk tys_ok ⟨f95_is, trivial⟩ rfl (by kernel_rfl)

noncomputable def f50_code : Code := Tryz.f50.body.getD .skip

theorem f50_sum : ∀ x, sumFn f50_ctx f50_code Tryz.f50.results.toList f50_ps f50_rs f50_os x = some (f50_ok x.1 x.2.1, f50 x.1 x.2.1, ()) := fun x => by kernel_rfl

theorem f50_is : SpecOk Tryz.prog 50 f50_spec := func_gen f50_cok mixed Tryz.func50 (by kernel_rfl) (by decide) rfl (bs := []) (by kernel_rfl) trivial (by kernel_rfl) (by kernel_rfl) rfl f50_sum

-- imageeditor/imageeditorref15.Check
def f96_L4_g (y : (D35 × Int × Unit)) (x : (Int × Unit)) : Bool :=
  let a1 := y.1 
  let a45 := y.2.1 
  let a46 := x.1 
  let v47 := (decide (a46 < a45))
  let v52 := (nth a1.2.2.2.1 a46 Z59)
  let v55 := (decide (v52.1 < (-1048576 : Int)))
  let v60 := (nth a1.2.2.2.1 a46 Z59)
  let v63 := (decide (v60.1 > (1048576 : Int)))
  let v64 := (bif v55 then true else v63)
  let v69 := (nth a1.2.2.2.1 a46 Z59)
  let v72 := (decide (v69.2.1 < (-1048576 : Int)))
  let v73 := (bif v64 then true else v72)
  let v78 := (nth a1.2.2.2.1 a46 Z59)
  let v81 := (decide (v78.2.1 > (1048576 : Int)))
  let v82 := (bif v73 then true else v81)
  let c := (v47 && (!v82))
  c

def f96_L4_next (y : (D35 × Int × Unit)) (x : (Int × Unit)) : (Int × Unit) :=
  let a46 := x.1 
  let v83 := (a46 + (1 : Int))
  (v83, ())

def f96_L4_ok (y : (D35 × Int × Unit)) (x : (Int × Unit)) : Prop :=
  let a1 := y.1 
  let a45 := y.2.1 
  let a46 := x.1 
  let v47 := (decide (a46 < a45))
  let v52 := (nth a1.2.2.2.1 a46 Z59)
  let v55 := (decide (v52.1 < (-1048576 : Int)))
  let g56_3 := (!v55)
  let v60 := (nth a1.2.2.2.1 a46 Z59)
  let v63 := (decide (v60.1 > (1048576 : Int)))
  let v64 := (bif v55 then true else v63)
  let g65_3 := (!v64)
  let v69 := (nth a1.2.2.2.1 a46 Z59)
  let v72 := (decide (v69.2.1 < (-1048576 : Int)))
  let v73 := (bif v64 then true else v72)
  let g74_3 := (!v73)
  let v78 := (nth a1.2.2.2.1 a46 Z59)
  let v81 := (decide (v78.2.1 > (1048576 : Int)))
  let v82 := (bif v73 then true else v81)
  (v47 = true → (InB a46 (len a1.2.2.2.1) ∧ ((g56_3 = true → InB a46 (len a1.2.2.2.1)) ∧ ((g65_3 = true → InB a46 (len a1.2.2.2.1)) ∧ ((g74_3 = true → InB a46 (len a1.2.2.2.1)) ∧ ((!v82) = true → InR (a46 + (1 : Int))))))))

instance (y : (D35 × Int × Unit)) (x : (Int × Unit)) : Decidable (f96_L4_ok y x) := by
  unfold f96_L4_ok
  try dsimp only
  infer_instance

def f96_L4_x1 (y : (D35 × Int × Unit)) (x : (Int × Unit)) : (Int × Unit) :=
  ((2 : Int), ())

def f96_L4_e1 (y : (D35 × Int × Unit)) (x : (Int × Unit)) : Bool :=
  let a1 := y.1 
  let a45 := y.2.1 
  let a46 := x.1 
  let v47 := (decide (a46 < a45))
  let v52 := (nth a1.2.2.2.1 a46 Z59)
  let v55 := (decide (v52.1 < (-1048576 : Int)))
  let v60 := (nth a1.2.2.2.1 a46 Z59)
  let v63 := (decide (v60.1 > (1048576 : Int)))
  let v64 := (bif v55 then true else v63)
  let v69 := (nth a1.2.2.2.1 a46 Z59)
  let v72 := (decide (v69.2.1 < (-1048576 : Int)))
  let v73 := (bif v64 then true else v72)
  let v78 := (nth a1.2.2.2.1 a46 Z59)
  let v81 := (decide (v78.2.1 > (1048576 : Int)))
  let v82 := (bif v73 then true else v81)
  let c_1 := (v47 && v82)
  c_1

def f96_L4_x2 (y : (D35 × Int × Unit)) (x : (Int × Unit)) : (Unit) :=
  ()

def f96_L4_e2 (y : (D35 × Int × Unit)) (x : (Int × Unit)) : Bool :=
  let a45 := y.2.1 
  let a46 := x.1 
  let v47 := (decide (a46 < a45))
  (!v47)

def f96_L4_ly : List (Nat × Sh) := [(1, (.box T35 (.val T35))), (45, (.val (.int .i64)))]
def f96_L4_lx : List (Nat × Sh) := [(46, (.val (.int .i64)))]
def f96_L4_les : List (List (Nat × Sh)) := [[(2, (.val (.int .i64)))], []]

def f96_L4_es (y : denL f96_L4_ly) (x : denL f96_L4_lx) : List Comp := [⟨1, some (f96_L4_e1 y x), mkSt [(2, (.val (.int .i64)))] ((f96_L4_x1 y x).1, ()) ++ cutSt⟩, ⟨2, some (f96_L4_e2 y x), mkSt [] () ++ cutSt⟩]

def f96_L4_spec : St → Option Out := loopS f96_L4_ly f96_L4_lx f96_L4_g f96_L4_next f96_L4_ok f96_L4_es

def f96 (p0 : D35) : Int :=
  let v6 := (decide (p0.1 < (2 : Int)))
  let v10 := (decide (p0.1 > (8 : Int)))
  let v11 := (bif v6 then true else v10)
  let v15 := (decide (p0.2.1 < (2 : Int)))
  let v16 := (bif v11 then true else v15)
  let v20 := (decide (p0.2.1 > (8 : Int)))
  let v21 := (bif v16 then true else v20)
  let v25 := (decide (p0.2.2.1 < (1 : Int)))
  let v26 := (bif v21 then true else v25)
  let v30 := (decide (p0.2.2.1 > (256 : Int)))
  let v31 := (bif v26 then true else v30)
  let v35 := (len p0.2.2.2.1)
  let v40 := (p0.1 * p0.2.1)
  let v41 := (v35 != v40)
  let v42 := (bif v31 then true else v41)
  let v45 := (len p0.2.2.2.1)
  let y4 := (p0, v45, ())
  let x4 := ((0 : Int), ())
  let e4 := (loopEnd (f96_L4_g y4) (f96_L4_next y4) x4)
  let r4_1 := (f96_L4_x1 y4 e4)
  let q4_1 := (f96_L4_e1 y4 e4)
  let m2 := (bif q4_1 then r4_1.1 else (0 : Int))
  let m2_1 := (bif v42 then (15 : Int) else m2)
  m2_1

def f96_ok (p0 : D35) : Prop :=
  let v6 := (decide (p0.1 < (2 : Int)))
  let v10 := (decide (p0.1 > (8 : Int)))
  let v11 := (bif v6 then true else v10)
  let v15 := (decide (p0.2.1 < (2 : Int)))
  let v16 := (bif v11 then true else v15)
  let v20 := (decide (p0.2.1 > (8 : Int)))
  let v21 := (bif v16 then true else v20)
  let v25 := (decide (p0.2.2.1 < (1 : Int)))
  let v26 := (bif v21 then true else v25)
  let v30 := (decide (p0.2.2.1 > (256 : Int)))
  let v31 := (bif v26 then true else v30)
  let v35 := (len p0.2.2.2.1)
  let g32_7 := (!v31)
  let v40 := (p0.1 * p0.2.1)
  let v41 := (v35 != v40)
  let v42 := (bif v31 then true else v41)
  let v45 := (len p0.2.2.2.1)
  let y4 := (p0, v45, ())
  let x4 := ((0 : Int), ())
  ((g32_7 = true → InR (p0.1 * p0.2.1)) ∧ ((!v42) = true → (Am.Ends (f96_L4_g y4) (f96_L4_next y4) (f96_L4_ok y4) x4)))

instance (p0 : D35) : Decidable (f96_ok p0) := by
  unfold f96_ok
  try dsimp only
  infer_instance

def f96_ps : List (Nat × Sh) := [(0, (.val T35))]
def f96_rs : Sh := (.val (.int .i64))
def f96_os : List (Nat × Sh) := []

def f96_spec : Am.Spec := fnSpec f96_ps f96_rs f96_os (fun x => f96_ok x.1) (fun x => f96 x.1) (fun _ => ())

def f96_ctx : Ctx := { tys := tys, fns := [], loops := [(4, f96_L4_spec)], gh := [], wrap := false, n := 84, keep := [], wr := [] }

theorem f96_cok : CtxOk Tryz.prog f96_ctx := ctxOk_mk tys_ok trivial rfl (by kernel_rfl)

noncomputable def f96_code : Code := Tryz.f96.body.getD .skip

noncomputable def f96_L4 : Code := nthLoop f96_code 0

theorem f96_L4_sum : ∀ y x, sumLoop f96_ctx f96_L4 f96_L4_ly f96_L4_lx f96_L4_les y x = some (f96_L4_ok y x, f96_L4_g y x, y, f96_L4_next y x, f96_L4_es y x) := fun y x => by kernel_rfl

theorem f96_L4_is : LoopSnd Tryz.prog f96_ctx f96_L4 := loop_gen f96_cok mixed (bs := []) (by kernel_rfl) trivial (by kernel_rfl) (by kernel_rfl) f96_L4_sum

theorem f96_sum : ∀ x, sumFn f96_ctx f96_code Tryz.f96.results.toList f96_ps f96_rs f96_os x = some (f96_ok x.1, f96 x.1, ()) := fun x => by kernel_rfl

theorem f96_is : SpecOk Tryz.prog 96 f96_spec := func_gen f96_cok mixed Tryz.func96 (by kernel_rfl) (by decide) rfl (bs := [f96_L4]) (by kernel_rfl) ⟨f96_L4_is, trivial⟩ (by kernel_rfl) (by kernel_rfl) rfl f96_sum

-- imageeditor/imageeditorref01.Floor
def f98 (p0 : Int) (p1 : Int) : Int :=
  let v8 := (p1 == (0 : Int))
  let v10 := (p0 == (-9223372036854775808 : Int))
  let v13 := (p1 == (-1 : Int))
  let v14 := (bif v10 then v13 else false)
  let v17 := (Int.tdiv p0 p1)
  let v20 := (Int.tmod p0 p1)
  let v22 := (v20 != (0 : Int))
  let v25 := (decide (v20 < (0 : Int)))
  let v27 := (decide (p1 < (0 : Int)))
  let v28 := (!(Ty.eqb .bool v25 v27))
  let v29 := (bif v22 then v28 else false)
  let v31 := (v17 - (1 : Int))
  let m4 := (bif v29 then v31 else v17)
  let m4_1 := (bif v14 then (9223372036854775807 : Int) else m4)
  let m4_2 := (bif v8 then (0 : Int) else m4_1)
  m4_2

def f98_ok (p0 : Int) (p1 : Int) : Prop :=
  let v8 := (p1 == (0 : Int))
  let v10 := (p0 == (-9223372036854775808 : Int))
  let v13 := (p1 == (-1 : Int))
  let v14 := (bif v10 then v13 else false)
  let v17 := (Int.tdiv p0 p1)
  let v20 := (Int.tmod p0 p1)
  let v22 := (v20 != (0 : Int))
  let v25 := (decide (v20 < (0 : Int)))
  let v27 := (decide (p1 < (0 : Int)))
  let v28 := (!(Ty.eqb .bool v25 v27))
  let v29 := (bif v22 then v28 else false)
  ((!v8) = true → ((!v14) = true → (p1 ≠ 0 ∧ (InR (Int.tdiv p0 p1) ∧ (p1 ≠ 0 ∧ (v29 = true → InR (v17 - (1 : Int))))))))

instance (p0 : Int) (p1 : Int) : Decidable (f98_ok p0 p1) := by
  unfold f98_ok
  try dsimp only
  infer_instance

def f98_ps : List (Nat × Sh) := [(0, (.val (.int .i64))), (1, (.val (.int .i64)))]
def f98_rs : Sh := (.val (.int .i64))
def f98_os : List (Nat × Sh) := []

def f98_spec : Am.Spec := fnSpec f98_ps f98_rs f98_os (fun x => f98_ok x.1 x.2.1) (fun x => f98 x.1 x.2.1) (fun _ => ())

def f98_ctx : Ctx := { tys := tys, fns := [], loops := [], gh := [], wrap := false, n := 33, keep := [], wr := [] }

theorem f98_cok : CtxOk Tryz.prog f98_ctx := ctxOk_mk tys_ok trivial rfl (by kernel_rfl)

noncomputable def f98_code : Code := Tryz.f98.body.getD .skip

theorem f98_sum : ∀ x, sumFn f98_ctx f98_code Tryz.f98.results.toList f98_ps f98_rs f98_os x = some (f98_ok x.1 x.2.1, f98 x.1 x.2.1, ()) := fun x => by kernel_rfl

theorem f98_is : SpecOk Tryz.prog 98 f98_spec := func_gen f98_cok mixed Tryz.func98 (by kernel_rfl) (by decide) rfl (bs := []) (by kernel_rfl) trivial (by kernel_rfl) (by kernel_rfl) rfl f98_sum

-- imageeditor/imageeditorref15.Reach
def f51_L9_g (y : (D35 × (List Int) × Int × Int × Int × Unit)) (x : (Int × Int × Unit)) : Bool :=
  let a44 := y.2.2.2.2.1 
  let a45 := x.2.1 
  let v46 := (decide (a45 < a44))
  v46

def f51_L9_next (y : (D35 × (List Int) × Int × Int × Int × Unit)) (x : (Int × Int × Unit)) : (Int × Int × Unit) :=
  let a5 := y.2.1 
  let a3 := x.1 
  let a45 := x.2.1 
  let v50 := (nth a5 a45 (0 : Int))
  let v53 := (decide (v50 > a3))
  let v56 := (nth a5 a45 (0 : Int))
  let m3 := (bif v53 then v56 else a3)
  let v58 := (a45 + (1 : Int))
  (m3, v58, ())

def f51_L9_ok (y : (D35 × (List Int) × Int × Int × Int × Unit)) (x : (Int × Int × Unit)) : Prop :=
  let a5 := y.2.1 
  let a44 := y.2.2.2.2.1 
  let a3 := x.1 
  let a45 := x.2.1 
  let v46 := (decide (a45 < a44))
  let v50 := (nth a5 a45 (0 : Int))
  let v53 := (decide (v50 > a3))
  (v46 = true → (InB a45 (len a5) ∧ ((v53 = true → InB a45 (len a5)) ∧ InR (a45 + (1 : Int)))))

instance (y : (D35 × (List Int) × Int × Int × Int × Unit)) (x : (Int × Int × Unit)) : Decidable (f51_L9_ok y x) := by
  unfold f51_L9_ok
  try dsimp only
  infer_instance

def f51_L9_x4 (y : (D35 × (List Int) × Int × Int × Int × Unit)) (x : (Int × Int × Unit)) : (Int × Unit) :=
  let a3 := x.1 
  (a3, ())

def f51_L9_ly : List (Nat × Sh) := [(1, (.box T35 (.val T35))), (5, (.own (.int .i64) 1005 false)), (12, (.val (.int .i64))), (13, (.val (.int .i64))), (44, (.val (.int .i64)))]
def f51_L9_lx : List (Nat × Sh) := [(3, (.val (.int .i64))), (45, (.val (.int .i64)))]
def f51_L9_les : List (List (Nat × Sh)) := [[(1, (.box T35 (.val T35))), (3, (.val (.int .i64))), (12, (.val (.int .i64))), (13, (.val (.int .i64)))]]

def f51_L9_es (y : denL f51_L9_ly) (x : denL f51_L9_lx) : List Comp := [⟨4, none, mkSt [(1, (.box T35 (.val T35))), (3, (.val (.int .i64))), (12, (.val (.int .i64))), (13, (.val (.int .i64)))] (y.1, (f51_L9_x4 y x).1, y.2.2.1, y.2.2.2.1, ()) ++ cutSt⟩]

def f51_L9_spec : St → Option Out := loopS f51_L9_ly f51_L9_lx f51_L9_g f51_L9_next f51_L9_ok f51_L9_es

def f51_L5_g (y : (D35 × Int × Unit)) (x : (Int × Int × Unit)) : Bool :=
  let a12 := y.2.1 
  let a13 := x.2.1 
  let v14 := (decide (a13 < a12))
  v14

def f51_L5_next (y : (D35 × Int × Unit)) (x : (Int × Int × Unit)) : (Int × Int × Unit) :=
  let a1 := y.1 
  let a12 := y.2.1 
  let a3 := x.1 
  let a13 := x.2.1 
  let v19 := (nth a1.2.2.2.1 a13 Z59)
  let v25 := (nth a1.2.2.2.1 a13 Z59)
  let v28 := (Int.sub 0 v25.1)
  let v32 := (nth a1.2.2.2.1 a13 Z59)
  let v38 := (nth a1.2.2.2.1 a13 Z59)
  let v41 := (Int.sub 0 v38.2.1)
  let v42 := ([v19.1, v28, v32.2.1, v41] : List Int)
  let v44 := (len v42)
  let y9 := (a1, v42, a12, a13, v44, ())
  let x9 := (a3, (0 : Int), ())
  let e9 := (loopEnd (f51_L9_g y9) (f51_L9_next y9) x9)
  let r9_4 := (f51_L9_x4 y9 e9)
  let v59 := (a13 + (1 : Int))
  (r9_4.1, v59, ())

def f51_L5_ok (y : (D35 × Int × Unit)) (x : (Int × Int × Unit)) : Prop :=
  let a1 := y.1 
  let a12 := y.2.1 
  let a3 := x.1 
  let a13 := x.2.1 
  let v14 := (decide (a13 < a12))
  let v19 := (nth a1.2.2.2.1 a13 Z59)
  let v25 := (nth a1.2.2.2.1 a13 Z59)
  let v28 := (Int.sub 0 v25.1)
  let v32 := (nth a1.2.2.2.1 a13 Z59)
  let v38 := (nth a1.2.2.2.1 a13 Z59)
  let v41 := (Int.sub 0 v38.2.1)
  let v42 := ([v19.1, v28, v32.2.1, v41] : List Int)
  let v44 := (len v42)
  let y9 := (a1, v42, a12, a13, v44, ())
  let x9 := (a3, (0 : Int), ())
  (v14 = true → (InB a13 (len a1.2.2.2.1) ∧ (InB a13 (len a1.2.2.2.1) ∧ (InR (Int.sub 0 v25.1) ∧ (InB a13 (len a1.2.2.2.1) ∧ (InB a13 (len a1.2.2.2.1) ∧ (InR (Int.sub 0 v38.2.1) ∧ ((Am.Ends (f51_L9_g y9) (f51_L9_next y9) (f51_L9_ok y9) x9) ∧ InR (a13 + (1 : Int))))))))))

instance (y : (D35 × Int × Unit)) (x : (Int × Int × Unit)) : Decidable (f51_L5_ok y x) := by
  unfold f51_L5_ok
  try dsimp only
  infer_instance

def f51_L5_x2 (y : (D35 × Int × Unit)) (x : (Int × Int × Unit)) : (Int × Unit) :=
  let a3 := x.1 
  (a3, ())

def f51_L5_ly : List (Nat × Sh) := [(1, (.box T35 (.val T35))), (12, (.val (.int .i64)))]
def f51_L5_lx : List (Nat × Sh) := [(3, (.val (.int .i64))), (13, (.val (.int .i64)))]
def f51_L5_les : List (List (Nat × Sh)) := [[(3, (.val (.int .i64)))]]

def f51_L5_es (y : denL f51_L5_ly) (x : denL f51_L5_lx) : List Comp := [⟨2, none, mkSt [(3, (.val (.int .i64)))] ((f51_L5_x2 y x).1, ()) ++ cutSt⟩]

def f51_L5_spec : St → Option Out := loopS f51_L5_ly f51_L5_lx f51_L5_g f51_L5_next f51_L5_ok f51_L5_es

def f51 (p0 : D35) : Int :=
  let v8 := (f96 p0)
  let v9 := (v8 != (0 : Int))
  let v12 := (len p0.2.2.2.1)
  let y5 := (p0, v12, ())
  let x5 := ((0 : Int), (0 : Int), ())
  let e5 := (loopEnd (f51_L5_g y5) (f51_L5_next y5) x5)
  let r5_2 := (f51_L5_x2 y5 e5)
  let v61 := (Int.sub 0 r5_2.1)
  let v62 := (f98 v61 (65536 : Int))
  let v63 := (Int.sub 0 v62)
  let m2 := (bif v9 then (0 : Int) else v63)
  m2

def f51_ok (p0 : D35) : Prop :=
  let v8 := (f96 p0)
  let v9 := (v8 != (0 : Int))
  let v12 := (len p0.2.2.2.1)
  let y5 := (p0, v12, ())
  let x5 := ((0 : Int), (0 : Int), ())
  let e5 := (loopEnd (f51_L5_g y5) (f51_L5_next y5) x5)
  let r5_2 := (f51_L5_x2 y5 e5)
  let v61 := (Int.sub 0 r5_2.1)
  let v62 := (f98 v61 (65536 : Int))
  ((f96_ok p0) ∧ ((!v9) = true → ((Am.Ends (f51_L5_g y5) (f51_L5_next y5) (f51_L5_ok y5) x5) ∧ (InR (Int.sub 0 r5_2.1) ∧ ((f98_ok v61 (65536 : Int)) ∧ InR (Int.sub 0 v62))))))

instance (p0 : D35) : Decidable (f51_ok p0) := by
  unfold f51_ok
  try dsimp only
  infer_instance

def f51_ps : List (Nat × Sh) := [(0, (.val T35))]
def f51_rs : Sh := (.val (.int .i64))
def f51_os : List (Nat × Sh) := []

def f51_spec : Am.Spec := fnSpec f51_ps f51_rs f51_os (fun x => f51_ok x.1) (fun x => f51 x.1) (fun _ => ())

def f51_ctx : Ctx := { tys := tys, fns := [(96, f96_spec), (98, f98_spec)], loops := [(9, f51_L9_spec), (5, f51_L5_spec)], gh := [(15, [(4, 0, 42, 1005)])], wrap := false, n := 64, keep := [], wr := [] }

theorem f51_cok : CtxOk Tryz.prog f51_ctx := ctxOk_mk tys_ok ⟨f96_is, f98_is, trivial⟩ rfl (by kernel_rfl)

noncomputable def f51_code : Code := Tryz.f51.body.getD .skip

noncomputable def f51_L5 : Code := nthLoop f51_code 0

noncomputable def f51_L9 : Code := nthLoop f51_L5 0

theorem f51_L9_sum : ∀ y x, sumLoop f51_ctx f51_L9 f51_L9_ly f51_L9_lx f51_L9_les y x = some (f51_L9_ok y x, f51_L9_g y x, y, f51_L9_next y x, f51_L9_es y x) := fun y x => by kernel_rfl

theorem f51_L9_is : LoopSnd Tryz.prog f51_ctx f51_L9 := loop_gen f51_cok mixed (bs := []) (by kernel_rfl) trivial (by kernel_rfl) (by kernel_rfl) f51_L9_sum

theorem f51_L5_sum : ∀ y x, sumLoop f51_ctx f51_L5 f51_L5_ly f51_L5_lx f51_L5_les y x = some (f51_L5_ok y x, f51_L5_g y x, y, f51_L5_next y x, f51_L5_es y x) := fun y x => by kernel_rfl

theorem f51_L5_is : LoopSnd Tryz.prog f51_ctx f51_L5 := loop_gen f51_cok mixed (bs := [f51_L9]) (by kernel_rfl) ⟨f51_L9_is, trivial⟩ (by kernel_rfl) (by kernel_rfl) f51_L5_sum

theorem f51_sum : ∀ x, sumFn f51_ctx f51_code Tryz.f51.results.toList f51_ps f51_rs f51_os x = some (f51_ok x.1, f51 x.1, ()) := fun x => by kernel_rfl

theorem f51_is : SpecOk Tryz.prog 51 f51_spec := func_gen f51_cok mixed Tryz.func51 (by kernel_rfl) (by decide) rfl (bs := [f51_L5]) (by kernel_rfl) ⟨f51_L5_is, trivial⟩ (by kernel_rfl) (by kernel_rfl) rfl f51_sum

-- imageeditor/imageeditorref13.Valid
def f44 (p0 : Int) : Bool :=
  let v4 := (decide (p0 ≥ (0 : Int)))
  let v7 := (decide (p0 ≤ (4 : Int)))
  let v8 := (bif v4 then v7 else false)
  v8

def f44_ok (p0 : Int) : Prop :=
  True

instance (p0 : Int) : Decidable (f44_ok p0) := by
  unfold f44_ok
  try dsimp only
  infer_instance

def f44_ps : List (Nat × Sh) := [(0, (.val (.int .i64)))]
def f44_rs : Sh := (.val .bool)
def f44_os : List (Nat × Sh) := []

def f44_spec : Am.Spec := fnSpec f44_ps f44_rs f44_os (fun x => f44_ok x.1) (fun x => f44 x.1) (fun _ => ())

def f44_ctx : Ctx := { tys := tys, fns := [], loops := [], gh := [], wrap := false, n := 9, keep := [], wr := [] }

theorem f44_cok : CtxOk Tryz.prog f44_ctx := ctxOk_mk tys_ok trivial rfl (by kernel_rfl)

noncomputable def f44_code : Code := Tryz.f44.body.getD .skip

theorem f44_sum : ∀ x, sumFn f44_ctx f44_code Tryz.f44.results.toList f44_ps f44_rs f44_os x = some (f44_ok x.1, f44 x.1, ()) := fun x => by kernel_rfl

theorem f44_is : SpecOk Tryz.prog 44 f44_spec := func_gen f44_cok mixed Tryz.func44 (by kernel_rfl) (by decide) rfl (bs := []) (by kernel_rfl) trivial (by kernel_rfl) (by kernel_rfl) rfl f44_sum

-- imageeditor/imageeditorref13.Support
def f52 (p0 : Int) : Int :=
  let v4 := (p0 == (2 : Int))
  let v7 := (p0 == (4 : Int))
  let v8 := (bif v4 then true else v7)
  let v10 := (f44 p0)
  let m2 := (bif v10 then (1 : Int) else (0 : Int))
  let m2_1 := (bif v8 then (2 : Int) else m2)
  m2_1

def f52_ok (p0 : Int) : Prop :=
  let v4 := (p0 == (2 : Int))
  let v7 := (p0 == (4 : Int))
  let v8 := (bif v4 then true else v7)
  ((!v8) = true → (f44_ok p0))

instance (p0 : Int) : Decidable (f52_ok p0) := by
  unfold f52_ok
  try dsimp only
  infer_instance

def f52_ps : List (Nat × Sh) := [(0, (.val (.int .i64)))]
def f52_rs : Sh := (.val (.int .i64))
def f52_os : List (Nat × Sh) := []

def f52_spec : Am.Spec := fnSpec f52_ps f52_rs f52_os (fun x => f52_ok x.1) (fun x => f52 x.1) (fun _ => ())

def f52_ctx : Ctx := { tys := tys, fns := [(44, f44_spec)], loops := [], gh := [], wrap := false, n := 11, keep := [], wr := [] }

theorem f52_cok : CtxOk Tryz.prog f52_ctx := ctxOk_mk tys_ok ⟨f44_is, trivial⟩ rfl (by kernel_rfl)

noncomputable def f52_code : Code := Tryz.f52.body.getD .skip

theorem f52_sum : ∀ x, sumFn f52_ctx f52_code Tryz.f52.results.toList f52_ps f52_rs f52_os x = some (f52_ok x.1, f52 x.1, ()) := fun x => by kernel_rfl

theorem f52_is : SpecOk Tryz.prog 52 f52_spec := func_gen f52_cok mixed Tryz.func52 (by kernel_rfl) (by decide) rfl (bs := []) (by kernel_rfl) trivial (by kernel_rfl) (by kernel_rfl) rfl f52_sum

-- imageeditor/imageeditorref31.Reach
def f21 (p0 : D37) : Int :=
  let v5 := (p0.2.1 == (8 : Int))
  let v10 := (f50 p0.2.2.2.2.2.2.2.2.2.2.2.2.2.2.1 p0.2.2.2.2.2.2.2.2.2.2.2.2.2.2.2.1)
  let v13 := (p0.2.1 == (11 : Int))
  let v16 := (f51 p0.2.2.2.2.2.2.2.2.2.2.2.2.2.2.2.2.2.2.2.2.2.2.2.2.2.2.2.1)
  let v19 := (f52 p0.2.2.2.2.2.2.2.2.2.2.2.1)
  let v20 := (v16 + v19)
  let v21 := (v20 + (1 : Int))
  let m2 := (bif v13 then v21 else (0 : Int))
  let m2_1 := (bif v5 then v10 else m2)
  m2_1

def f21_ok (p0 : D37) : Prop :=
  let v5 := (p0.2.1 == (8 : Int))
  let v13 := (p0.2.1 == (11 : Int))
  let v16 := (f51 p0.2.2.2.2.2.2.2.2.2.2.2.2.2.2.2.2.2.2.2.2.2.2.2.2.2.2.2.1)
  let v19 := (f52 p0.2.2.2.2.2.2.2.2.2.2.2.1)
  let v20 := (v16 + v19)
  ((v5 = true → (f50_ok p0.2.2.2.2.2.2.2.2.2.2.2.2.2.2.1 p0.2.2.2.2.2.2.2.2.2.2.2.2.2.2.2.1)) ∧ ((!v5) = true → (v13 = true → ((f51_ok p0.2.2.2.2.2.2.2.2.2.2.2.2.2.2.2.2.2.2.2.2.2.2.2.2.2.2.2.1) ∧ ((f52_ok p0.2.2.2.2.2.2.2.2.2.2.2.1) ∧ (InR (v16 + v19) ∧ InR (v20 + (1 : Int))))))))

instance (p0 : D37) : Decidable (f21_ok p0) := by
  unfold f21_ok
  try dsimp only
  infer_instance

def f21_ps : List (Nat × Sh) := [(0, (.val T37))]
def f21_rs : Sh := (.val (.int .i64))
def f21_os : List (Nat × Sh) := []

def f21_spec : Am.Spec := fnSpec f21_ps f21_rs f21_os (fun x => f21_ok x.1) (fun x => f21 x.1) (fun _ => ())

def f21_ctx : Ctx := { tys := tys, fns := [(50, f50_spec), (51, f51_spec), (52, f52_spec)], loops := [], gh := [], wrap := false, n := 22, keep := [], wr := [] }

theorem f21_cok : CtxOk Tryz.prog f21_ctx := ctxOk_mk tys_ok ⟨f50_is, f51_is, f52_is, trivial⟩ rfl (by kernel_rfl)

noncomputable def f21_code : Code := Tryz.f21.body.getD .skip

theorem f21_sum : ∀ x, sumFn f21_ctx f21_code Tryz.f21.results.toList f21_ps f21_rs f21_os x = some (f21_ok x.1, f21 x.1, ()) := fun x => by kernel_rfl

theorem f21_is : SpecOk Tryz.prog 21 f21_spec := func_gen f21_cok mixed Tryz.func21 (by kernel_rfl) (by decide) rfl (bs := []) (by kernel_rfl) trivial (by kernel_rfl) (by kernel_rfl) rfl f21_sum

-- imageeditor/imageeditorlaw31.NodeReads
def f5 (p0 : D37) : Bool :=
  let v4 := (f18 p0)
  let v6 := (f19 p0)
  let v7 := (Ty.eqb .bool v4 v6)
  let v10 := (f20 p0)
  let v12 := (f21 p0)
  let v13 := (v10 == v12)
  let v14 := (bif v7 then v13 else false)
  let v17 := (bif v14 then f16 else false)
  v17

def f5_ok (p0 : D37) : Prop :=
  let v4 := (f18 p0)
  let v6 := (f19 p0)
  let v7 := (Ty.eqb .bool v4 v6)
  let v10 := (f20 p0)
  let v12 := (f21 p0)
  let v13 := (v10 == v12)
  let v14 := (bif v7 then v13 else false)
  ((f18_ok p0) ∧ ((f19_ok p0) ∧ ((v7 = true → (f20_ok p0)) ∧ ((v7 = true → (f21_ok p0)) ∧ (v14 = true → f16_ok)))))

instance (p0 : D37) : Decidable (f5_ok p0) := by
  unfold f5_ok
  try dsimp only
  infer_instance

def f5_ps : List (Nat × Sh) := [(0, (.val T37))]
def f5_rs : Sh := (.val .bool)
def f5_os : List (Nat × Sh) := []

def f5_spec : Am.Spec := fnSpec f5_ps f5_rs f5_os (fun x => f5_ok x.1) (fun x => f5 x.1) (fun _ => ())

def f5_ctx : Ctx := { tys := tys, fns := [(16, f16_spec), (18, f18_spec), (19, f19_spec), (20, f20_spec), (21, f21_spec)], loops := [], gh := [], wrap := false, n := 18, keep := [], wr := [] }

theorem f5_cok : CtxOk Tryz.prog f5_ctx := ctxOk_mk tys_ok ⟨f16_is, f18_is, f19_is, f20_is, f21_is, trivial⟩ rfl (by kernel_rfl)

noncomputable def f5_code : Code := Tryz.f5.body.getD .skip

theorem f5_sum : ∀ x, sumFn f5_ctx f5_code Tryz.f5.results.toList f5_ps f5_rs f5_os x = some (f5_ok x.1, f5 x.1, ()) := fun x => by kernel_rfl

theorem f5_is : SpecOk Tryz.prog 5 f5_spec := func_gen f5_cok mixed Tryz.func5 (by kernel_rfl) (by decide) rfl (bs := []) (by kernel_rfl) trivial (by kernel_rfl) (by kernel_rfl) rfl f5_sum

-- imageeditor/imageeditorref31.SameInts
def f61_L4_g (y : ((List Int) × (List Int) × Unit)) (x : (Int × Unit)) : Bool :=
  let a0 := y.1 
  let a1 := y.2.1 
  let a5 := x.1 
  let v13 := (len a0)
  let v14 := (decide (a5 < v13))
  let v19 := (nth a0 a5 (0 : Int))
  let v23 := (nth a1 a5 (0 : Int))
  let v25 := (v19 != v23)
  let c := (v14 && (!v25))
  c

def f61_L4_next (y : ((List Int) × (List Int) × Unit)) (x : (Int × Unit)) : (Int × Unit) :=
  let a5 := x.1 
  let v16 := (a5 + (1 : Int))
  (v16, ())

def f61_L4_ok (y : ((List Int) × (List Int) × Unit)) (x : (Int × Unit)) : Prop :=
  let a0 := y.1 
  let a1 := y.2.1 
  let a5 := x.1 
  let v13 := (len a0)
  let v14 := (decide (a5 < v13))
  let v19 := (nth a0 a5 (0 : Int))
  let v23 := (nth a1 a5 (0 : Int))
  let v25 := (v19 != v23)
  (v14 = true → (InB a5 (len a0) ∧ (InB a5 (len a1) ∧ ((!v25) = true → InR (a5 + (1 : Int))))))

instance (y : ((List Int) × (List Int) × Unit)) (x : (Int × Unit)) : Decidable (f61_L4_ok y x) := by
  unfold f61_L4_ok
  try dsimp only
  infer_instance

def f61_L4_x1 (y : ((List Int) × (List Int) × Unit)) (x : (Int × Unit)) : (Bool × Unit) :=
  (false, ())

def f61_L4_e1 (y : ((List Int) × (List Int) × Unit)) (x : (Int × Unit)) : Bool :=
  let a0 := y.1 
  let a1 := y.2.1 
  let a5 := x.1 
  let v13 := (len a0)
  let v14 := (decide (a5 < v13))
  let v19 := (nth a0 a5 (0 : Int))
  let v23 := (nth a1 a5 (0 : Int))
  let v25 := (v19 != v23)
  let c_1 := (v14 && v25)
  c_1

def f61_L4_x2 (y : ((List Int) × (List Int) × Unit)) (x : (Int × Unit)) : (Unit) :=
  ()

def f61_L4_e2 (y : ((List Int) × (List Int) × Unit)) (x : (Int × Unit)) : Bool :=
  let a0 := y.1 
  let a5 := x.1 
  let v13 := (len a0)
  let v14 := (decide (a5 < v13))
  (!v14)

def f61_L4_ly : List (Nat × Sh) := [(0, (.val (.sl (.int .i64)))), (1, (.val (.sl (.int .i64))))]
def f61_L4_lx : List (Nat × Sh) := [(5, (.val (.int .i64)))]
def f61_L4_les : List (List (Nat × Sh)) := [[(4, (.val .bool))], []]

def f61_L4_es (y : denL f61_L4_ly) (x : denL f61_L4_lx) : List Comp := [⟨1, some (f61_L4_e1 y x), mkSt [(4, (.val .bool))] ((f61_L4_x1 y x).1, ()) ++ cutSt⟩, ⟨2, some (f61_L4_e2 y x), mkSt [] () ++ cutSt⟩]

def f61_L4_spec : St → Option Out := loopS f61_L4_ly f61_L4_lx f61_L4_g f61_L4_next f61_L4_ok f61_L4_es

def f61 (p0 : (List Int)) (p1 : (List Int)) : Bool :=
  let v7 := (len p0)
  let v9 := (len p1)
  let v10 := (v7 != v9)
  let y4 := (p0, p1, ())
  let x4 := ((0 : Int), ())
  let e4 := (loopEnd (f61_L4_g y4) (f61_L4_next y4) x4)
  let r4_1 := (f61_L4_x1 y4 e4)
  let q4_1 := (f61_L4_e1 y4 e4)
  let m4 := (bif q4_1 then r4_1.1 else true)
  let m4_1 := (bif v10 then false else m4)
  m4_1

def f61_ok (p0 : (List Int)) (p1 : (List Int)) : Prop :=
  let v7 := (len p0)
  let v9 := (len p1)
  let v10 := (v7 != v9)
  let y4 := (p0, p1, ())
  let x4 := ((0 : Int), ())
  ((!v10) = true → (Am.Ends (f61_L4_g y4) (f61_L4_next y4) (f61_L4_ok y4) x4))

instance (p0 : (List Int)) (p1 : (List Int)) : Decidable (f61_ok p0 p1) := by
  unfold f61_ok
  try dsimp only
  infer_instance

def f61_ps : List (Nat × Sh) := [(0, (.val (.sl (.int .i64)))), (1, (.val (.sl (.int .i64))))]
def f61_rs : Sh := (.val .bool)
def f61_os : List (Nat × Sh) := []

def f61_spec : Am.Spec := fnSpec f61_ps f61_rs f61_os (fun x => f61_ok x.1 x.2.1) (fun x => f61 x.1 x.2.1) (fun _ => ())

def f61_ctx : Ctx := { tys := tys, fns := [], loops := [(4, f61_L4_spec)], gh := [], wrap := false, n := 26, keep := [], wr := [] }

theorem f61_cok : CtxOk Tryz.prog f61_ctx := ctxOk_mk tys_ok trivial rfl (by kernel_rfl)

noncomputable def f61_code : Code := Tryz.f61.body.getD .skip

noncomputable def f61_L4 : Code := nthLoop f61_code 0

theorem f61_L4_sum : ∀ y x, sumLoop f61_ctx f61_L4 f61_L4_ly f61_L4_lx f61_L4_les y x = some (f61_L4_ok y x, f61_L4_g y x, y, f61_L4_next y x, f61_L4_es y x) := fun y x => by kernel_rfl

theorem f61_L4_is : LoopSnd Tryz.prog f61_ctx f61_L4 := loop_gen f61_cok mixed (bs := []) (by kernel_rfl) trivial (by kernel_rfl) (by kernel_rfl) f61_L4_sum

theorem f61_sum : ∀ x, sumFn f61_ctx f61_code Tryz.f61.results.toList f61_ps f61_rs f61_os x = some (f61_ok x.1 x.2.1, f61 x.1 x.2.1, ()) := fun x => by kernel_rfl

theorem f61_is : SpecOk Tryz.prog 61 f61_spec := func_gen f61_cok mixed Tryz.func61 (by kernel_rfl) (by decide) rfl (bs := [f61_L4]) (by kernel_rfl) ⟨f61_L4_is, trivial⟩ (by kernel_rfl) (by kernel_rfl) rfl f61_sum

-- imageeditor/imageeditorref31.SameMask
def f31 (p0 : D23) (p1 : D23) : Bool :=
  let v9 := (p0.1 == p1.1)
  let v15 := (p0.2.1 == p1.2.1)
  let v16 := (bif v9 then v15 else false)
  let v22 := (f61 p0.2.2.1 p1.2.2.1)
  let v23 := (bif v16 then v22 else false)
  v23

def f31_ok (p0 : D23) (p1 : D23) : Prop :=
  let v9 := (p0.1 == p1.1)
  let v15 := (p0.2.1 == p1.2.1)
  let v16 := (bif v9 then v15 else false)
  (v16 = true → (f61_ok p0.2.2.1 p1.2.2.1))

instance (p0 : D23) (p1 : D23) : Decidable (f31_ok p0 p1) := by
  unfold f31_ok
  try dsimp only
  infer_instance

def f31_ps : List (Nat × Sh) := [(0, (.val T23)), (1, (.val T23))]
def f31_rs : Sh := (.val .bool)
def f31_os : List (Nat × Sh) := []

def f31_spec : Am.Spec := fnSpec f31_ps f31_rs f31_os (fun x => f31_ok x.1 x.2.1) (fun x => f31 x.1 x.2.1) (fun _ => ())

def f31_ctx : Ctx := { tys := tys, fns := [(61, f61_spec)], loops := [], gh := [], wrap := false, n := 24, keep := [], wr := [] }

theorem f31_cok : CtxOk Tryz.prog f31_ctx := ctxOk_mk tys_ok ⟨f61_is, trivial⟩ rfl (by kernel_rfl)

noncomputable def f31_code : Code := Tryz.f31.body.getD .skip

theorem f31_sum : ∀ x, sumFn f31_ctx f31_code Tryz.f31.results.toList f31_ps f31_rs f31_os x = some (f31_ok x.1 x.2.1, f31 x.1 x.2.1, ()) := fun x => by kernel_rfl

theorem f31_is : SpecOk Tryz.prog 31 f31_spec := func_gen f31_cok mixed Tryz.func31 (by kernel_rfl) (by decide) rfl (bs := []) (by kernel_rfl) trivial (by kernel_rfl) (by kernel_rfl) rfl f31_sum

-- imageeditor/imageeditorref31.SameImage
def f62_L4_g (y : (D28 × D28 × Unit)) (x : (Int × Unit)) : Bool :=
  let a2 := y.1 
  let a3 := y.2.1 
  let a5 := x.1 
  let v30 := (len a2.2.2.1)
  let v31 := (decide (a5 < v30))
  let v37 := (nth a2.2.2.1 a5 Z30)
  let v42 := (nth a3.2.2.1 a5 Z30)
  let v44 := (!(Ty.eqb T30 v37 v42))
  let c := (v31 && (!v44))
  c

def f62_L4_next (y : (D28 × D28 × Unit)) (x : (Int × Unit)) : (Int × Unit) :=
  let a5 := x.1 
  let v33 := (a5 + (1 : Int))
  (v33, ())

def f62_L4_ok (y : (D28 × D28 × Unit)) (x : (Int × Unit)) : Prop :=
  let a2 := y.1 
  let a3 := y.2.1 
  let a5 := x.1 
  let v30 := (len a2.2.2.1)
  let v31 := (decide (a5 < v30))
  let v37 := (nth a2.2.2.1 a5 Z30)
  let v42 := (nth a3.2.2.1 a5 Z30)
  let v44 := (!(Ty.eqb T30 v37 v42))
  (v31 = true → (InB a5 (len a2.2.2.1) ∧ (InB a5 (len a3.2.2.1) ∧ ((!v44) = true → InR (a5 + (1 : Int))))))

instance (y : (D28 × D28 × Unit)) (x : (Int × Unit)) : Decidable (f62_L4_ok y x) := by
  unfold f62_L4_ok
  try dsimp only
  infer_instance

def f62_L4_x1 (y : (D28 × D28 × Unit)) (x : (Int × Unit)) : (Bool × Unit) :=
  (false, ())

def f62_L4_e1 (y : (D28 × D28 × Unit)) (x : (Int × Unit)) : Bool :=
  let a2 := y.1 
  let a3 := y.2.1 
  let a5 := x.1 
  let v30 := (len a2.2.2.1)
  let v31 := (decide (a5 < v30))
  let v37 := (nth a2.2.2.1 a5 Z30)
  let v42 := (nth a3.2.2.1 a5 Z30)
  let v44 := (!(Ty.eqb T30 v37 v42))
  let c_1 := (v31 && v44)
  c_1

def f62_L4_x2 (y : (D28 × D28 × Unit)) (x : (Int × Unit)) : (Unit) :=
  ()

def f62_L4_e2 (y : (D28 × D28 × Unit)) (x : (Int × Unit)) : Bool :=
  let a2 := y.1 
  let a5 := x.1 
  let v30 := (len a2.2.2.1)
  let v31 := (decide (a5 < v30))
  (!v31)

def f62_L4_ly : List (Nat × Sh) := [(2, (.box T28 (.val T28))), (3, (.box T28 (.val T28)))]
def f62_L4_lx : List (Nat × Sh) := [(5, (.val (.int .i64)))]
def f62_L4_les : List (List (Nat × Sh)) := [[(4, (.val .bool))], []]

def f62_L4_es (y : denL f62_L4_ly) (x : denL f62_L4_lx) : List Comp := [⟨1, some (f62_L4_e1 y x), mkSt [(4, (.val .bool))] ((f62_L4_x1 y x).1, ()) ++ cutSt⟩, ⟨2, some (f62_L4_e2 y x), mkSt [] () ++ cutSt⟩]

def f62_L4_spec : St → Option Out := loopS f62_L4_ly f62_L4_lx f62_L4_g f62_L4_next f62_L4_ok f62_L4_es

def f62 (p0 : D28) (p1 : D28) : Bool :=
  let v10 := (p0.1 != p1.1)
  let v16 := (p0.2.1 != p1.2.1)
  let v17 := (bif v10 then true else v16)
  let v21 := (len p0.2.2.1)
  let v24 := (len p1.2.2.1)
  let v25 := (v21 != v24)
  let v26 := (bif v17 then true else v25)
  let y4 := (p0, p1, ())
  let x4 := ((0 : Int), ())
  let e4 := (loopEnd (f62_L4_g y4) (f62_L4_next y4) x4)
  let r4_1 := (f62_L4_x1 y4 e4)
  let q4_1 := (f62_L4_e1 y4 e4)
  let m4 := (bif q4_1 then r4_1.1 else true)
  let m4_1 := (bif v26 then false else m4)
  m4_1

def f62_ok (p0 : D28) (p1 : D28) : Prop :=
  let v10 := (p0.1 != p1.1)
  let v16 := (p0.2.1 != p1.2.1)
  let v17 := (bif v10 then true else v16)
  let v21 := (len p0.2.2.1)
  let v24 := (len p1.2.2.1)
  let v25 := (v21 != v24)
  let v26 := (bif v17 then true else v25)
  let y4 := (p0, p1, ())
  let x4 := ((0 : Int), ())
  ((!v26) = true → (Am.Ends (f62_L4_g y4) (f62_L4_next y4) (f62_L4_ok y4) x4))

instance (p0 : D28) (p1 : D28) : Decidable (f62_ok p0 p1) := by
  unfold f62_ok
  try dsimp only
  infer_instance

def f62_ps : List (Nat × Sh) := [(0, (.val T28)), (1, (.val T28))]
def f62_rs : Sh := (.val .bool)
def f62_os : List (Nat × Sh) := []

def f62_spec : Am.Spec := fnSpec f62_ps f62_rs f62_os (fun x => f62_ok x.1 x.2.1) (fun x => f62 x.1 x.2.1) (fun _ => ())

def f62_ctx : Ctx := { tys := tys, fns := [], loops := [(4, f62_L4_spec)], gh := [], wrap := false, n := 45, keep := [], wr := [] }

theorem f62_cok : CtxOk Tryz.prog f62_ctx := ctxOk_mk tys_ok trivial rfl (by kernel_rfl)

noncomputable def f62_code : Code := Tryz.f62.body.getD .skip

noncomputable def f62_L4 : Code := nthLoop f62_code 0

theorem f62_L4_sum : ∀ y x, sumLoop f62_ctx f62_L4 f62_L4_ly f62_L4_lx f62_L4_les y x = some (f62_L4_ok y x, f62_L4_g y x, y, f62_L4_next y x, f62_L4_es y x) := fun y x => by kernel_rfl

theorem f62_L4_is : LoopSnd Tryz.prog f62_ctx f62_L4 := loop_gen f62_cok mixed (bs := []) (by kernel_rfl) trivial (by kernel_rfl) (by kernel_rfl) f62_L4_sum

theorem f62_sum : ∀ x, sumFn f62_ctx f62_code Tryz.f62.results.toList f62_ps f62_rs f62_os x = some (f62_ok x.1 x.2.1, f62 x.1 x.2.1, ()) := fun x => by kernel_rfl

theorem f62_is : SpecOk Tryz.prog 62 f62_spec := func_gen f62_cok mixed Tryz.func62 (by kernel_rfl) (by decide) rfl (bs := [f62_L4]) (by kernel_rfl) ⟨f62_L4_is, trivial⟩ (by kernel_rfl) (by kernel_rfl) rfl f62_sum

-- imageeditor/imageeditorref31.sameStops
def f63_L4_g (y : ((List D57) × (List D57) × Unit)) (x : (Int × Unit)) : Bool :=
  let a0 := y.1 
  let a1 := y.2.1 
  let a5 := x.1 
  let v13 := (len a0)
  let v14 := (decide (a5 < v13))
  let v19 := (nth a0 a5 Z57)
  let v23 := (nth a1 a5 Z57)
  let v25 := (!(Ty.eqb T57 v19 v23))
  let c := (v14 && (!v25))
  c

def f63_L4_next (y : ((List D57) × (List D57) × Unit)) (x : (Int × Unit)) : (Int × Unit) :=
  let a5 := x.1 
  let v16 := (a5 + (1 : Int))
  (v16, ())

def f63_L4_ok (y : ((List D57) × (List D57) × Unit)) (x : (Int × Unit)) : Prop :=
  let a0 := y.1 
  let a1 := y.2.1 
  let a5 := x.1 
  let v13 := (len a0)
  let v14 := (decide (a5 < v13))
  let v19 := (nth a0 a5 Z57)
  let v23 := (nth a1 a5 Z57)
  let v25 := (!(Ty.eqb T57 v19 v23))
  (v14 = true → (InB a5 (len a0) ∧ (InB a5 (len a1) ∧ ((!v25) = true → InR (a5 + (1 : Int))))))

instance (y : ((List D57) × (List D57) × Unit)) (x : (Int × Unit)) : Decidable (f63_L4_ok y x) := by
  unfold f63_L4_ok
  try dsimp only
  infer_instance

def f63_L4_x1 (y : ((List D57) × (List D57) × Unit)) (x : (Int × Unit)) : (Bool × Unit) :=
  (false, ())

def f63_L4_e1 (y : ((List D57) × (List D57) × Unit)) (x : (Int × Unit)) : Bool :=
  let a0 := y.1 
  let a1 := y.2.1 
  let a5 := x.1 
  let v13 := (len a0)
  let v14 := (decide (a5 < v13))
  let v19 := (nth a0 a5 Z57)
  let v23 := (nth a1 a5 Z57)
  let v25 := (!(Ty.eqb T57 v19 v23))
  let c_1 := (v14 && v25)
  c_1

def f63_L4_x2 (y : ((List D57) × (List D57) × Unit)) (x : (Int × Unit)) : (Unit) :=
  ()

def f63_L4_e2 (y : ((List D57) × (List D57) × Unit)) (x : (Int × Unit)) : Bool :=
  let a0 := y.1 
  let a5 := x.1 
  let v13 := (len a0)
  let v14 := (decide (a5 < v13))
  (!v14)

def f63_L4_ly : List (Nat × Sh) := [(0, (.val (.sl T57))), (1, (.val (.sl T57)))]
def f63_L4_lx : List (Nat × Sh) := [(5, (.val (.int .i64)))]
def f63_L4_les : List (List (Nat × Sh)) := [[(4, (.val .bool))], []]

def f63_L4_es (y : denL f63_L4_ly) (x : denL f63_L4_lx) : List Comp := [⟨1, some (f63_L4_e1 y x), mkSt [(4, (.val .bool))] ((f63_L4_x1 y x).1, ()) ++ cutSt⟩, ⟨2, some (f63_L4_e2 y x), mkSt [] () ++ cutSt⟩]

def f63_L4_spec : St → Option Out := loopS f63_L4_ly f63_L4_lx f63_L4_g f63_L4_next f63_L4_ok f63_L4_es

def f63 (p0 : (List D57)) (p1 : (List D57)) : Bool :=
  let v7 := (len p0)
  let v9 := (len p1)
  let v10 := (v7 != v9)
  let y4 := (p0, p1, ())
  let x4 := ((0 : Int), ())
  let e4 := (loopEnd (f63_L4_g y4) (f63_L4_next y4) x4)
  let r4_1 := (f63_L4_x1 y4 e4)
  let q4_1 := (f63_L4_e1 y4 e4)
  let m4 := (bif q4_1 then r4_1.1 else true)
  let m4_1 := (bif v10 then false else m4)
  m4_1

def f63_ok (p0 : (List D57)) (p1 : (List D57)) : Prop :=
  let v7 := (len p0)
  let v9 := (len p1)
  let v10 := (v7 != v9)
  let y4 := (p0, p1, ())
  let x4 := ((0 : Int), ())
  ((!v10) = true → (Am.Ends (f63_L4_g y4) (f63_L4_next y4) (f63_L4_ok y4) x4))

instance (p0 : (List D57)) (p1 : (List D57)) : Decidable (f63_ok p0 p1) := by
  unfold f63_ok
  try dsimp only
  infer_instance

def f63_ps : List (Nat × Sh) := [(0, (.val (.sl T57))), (1, (.val (.sl T57)))]
def f63_rs : Sh := (.val .bool)
def f63_os : List (Nat × Sh) := []

def f63_spec : Am.Spec := fnSpec f63_ps f63_rs f63_os (fun x => f63_ok x.1 x.2.1) (fun x => f63 x.1 x.2.1) (fun _ => ())

def f63_ctx : Ctx := { tys := tys, fns := [], loops := [(4, f63_L4_spec)], gh := [], wrap := false, n := 26, keep := [], wr := [] }

theorem f63_cok : CtxOk Tryz.prog f63_ctx := ctxOk_mk tys_ok trivial rfl (by kernel_rfl)

noncomputable def f63_code : Code := Tryz.f63.body.getD .skip

noncomputable def f63_L4 : Code := nthLoop f63_code 0

theorem f63_L4_sum : ∀ y x, sumLoop f63_ctx f63_L4 f63_L4_ly f63_L4_lx f63_L4_les y x = some (f63_L4_ok y x, f63_L4_g y x, y, f63_L4_next y x, f63_L4_es y x) := fun y x => by kernel_rfl

theorem f63_L4_is : LoopSnd Tryz.prog f63_ctx f63_L4 := loop_gen f63_cok mixed (bs := []) (by kernel_rfl) trivial (by kernel_rfl) (by kernel_rfl) f63_L4_sum

theorem f63_sum : ∀ x, sumFn f63_ctx f63_code Tryz.f63.results.toList f63_ps f63_rs f63_os x = some (f63_ok x.1 x.2.1, f63 x.1 x.2.1, ()) := fun x => by kernel_rfl

theorem f63_is : SpecOk Tryz.prog 63 f63_spec := func_gen f63_cok mixed Tryz.func63 (by kernel_rfl) (by decide) rfl (bs := [f63_L4]) (by kernel_rfl) ⟨f63_L4_is, trivial⟩ (by kernel_rfl) (by kernel_rfl) rfl f63_sum


end Go.Proofs.YtleannhgpeiooaaGreatDoor.Am
