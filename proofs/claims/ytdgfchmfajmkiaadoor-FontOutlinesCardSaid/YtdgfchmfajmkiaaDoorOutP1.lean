/- Printed by program: the functions that the statements reach, as plain functions, and their contracts. No condition. -/
import Derived.Test.YtdgfchmfajmkiaaDoorMach4
import Derived.Test.YtdgfchmfajmkiaaDoorOutI
import Derived.Test.YtdgfchmfajmkiaaDoorProg
set_option linter.unusedVariables false
set_option synthInstance.maxSize 4000
set_option synthInstance.maxHeartbeats 400000
namespace Go.Proofs.YtdgfchmfajmkiaaDoor.Am
open Go Go.Am Go.Proofs
abbrev T50 : Ty := .st (.cons (.int .i64) (.cons (.int .i64) .nl))
abbrev D50 : Type := Int × Int × Unit
abbrev Z50 : D50 := ((0 : Int), (0 : Int), ())
abbrev T74 : Ty := .st (.cons (.int .i64) (.cons (.arr 3 T50) .nl))
abbrev D74 : Type := Int × (List D50) × Unit
abbrev Z74 : D74 := ((0 : Int), (List.replicate 3 Z50), ())
abbrev T47 : Ty := .st (.cons (.int .u8) (.cons (.int .i64) (.cons (.sl T74) .nl)))
abbrev D47 : Type := Int × Int × (List D74) × Unit
abbrev Z47 : D47 := ((0 : Int), (0 : Int), ([] : List D74), ())
abbrev T87 : Ty := .st (.cons (.int .u8) (.cons (.int .u8) (.cons (.int .i64) .nl)))
abbrev D87 : Type := Int × Int × Int × Unit
abbrev Z87 : D87 := ((0 : Int), (0 : Int), (0 : Int), ())
abbrev T24 : Ty := .st (.cons (.int .i64) (.cons (.int .i64) (.cons (.int .i64) (.cons (.sl T47) (.cons (.sl T87) .nl)))))
abbrev D24 : Type := Int × Int × Int × (List D47) × (List D87) × Unit
abbrev T26 : Ty := .st (.cons T24 (.cons .str (.cons (.int .i64) (.cons (.int .i64) .nl))))
abbrev D26 : Type := D24 × (List UInt8) × Int × Int × Unit
abbrev T65 : Ty := .st (.cons T24 (.cons (.arr 256 (.int .i64)) .nl))
abbrev D65 : Type := D24 × (List Int) × Unit
abbrev T122 : Ty := .st (.cons (.int .u16) (.cons (.int .u16) (.cons (.int .u16) .nl)))
abbrev T125 : Ty := .st (.cons (.int .u32) (.cons (.int .u32) (.cons (.int .u32) .nl)))
abbrev T119 : Ty := .st (.cons (.sl T122) (.cons (.sl T125) (.cons (.int .i64) .nl)))
def G0 : (List Int) := [0, 0, 0, 0, 0, 0, 0, 0, 0, 1, 1, 1, 1, 1, 0, 0, 0, 0, 0, 0, 0, 0, 0, 0, 0, 0, 0, 0, 0, 0, 0, 0, 1, 0, 0, 0, 0, 0, 0, 0, 0, 0, 0, 0, 0, 0, 0, 0, 0, 0, 0, 0, 0, 0, 0, 0, 0, 0, 0, 0, 0, 0, 0, 0, 0, 0, 0, 0, 0, 0, 0, 0, 0, 0, 0, 0, 0, 0, 0, 0, 0, 0, 0, 0, 0, 0, 0, 0, 0, 0, 0, 0, 0, 0, 0, 0, 0, 0, 0, 0, 0, 0, 0, 0, 0, 0, 0, 0, 0, 0, 0, 0, 0, 0, 0, 0, 0, 0, 0, 0, 0, 0, 0, 0, 0, 0, 0, 0, 0, 0, 0, 0, 0, 0, 0, 0, 0, 0, 0, 0, 0, 0, 0, 0, 0, 0, 0, 0, 0, 0, 0, 0, 0, 0, 0, 0, 0, 0, 0, 0, 0, 0, 0, 0, 0, 0, 0, 0, 0, 0, 0, 0, 0, 0, 0, 0, 0, 0, 0, 0, 0, 0, 0, 0, 0, 0, 0, 0, 0, 0, 0, 0, 0, 0, 0, 0, 0, 0, 0, 0, 0, 0, 0, 0, 0, 0, 0, 0, 0, 0, 0, 0, 0, 0, 0, 0, 0, 0, 0, 0, 0, 0, 0, 0, 0, 0, 0, 0, 0, 0, 0, 0, 0, 0, 0, 0, 0, 0, 0, 0, 0, 0, 0, 0, 0, 0, 0, 0, 0, 0, 0, 0, 0, 0, 0, 0]
instance : GlobTab := ⟨⟨[(0, ⟨(.arr 256 (.int .u8)), G0⟩)]⟩⟩
set_option maxRecDepth 20000 in
def lit0 : List UInt8 := [48, 48, 48, 48, 48, 48, 48, 48, 48, 48, 32, 48, 48, 48, 48, 53, 102, 48, 48, 48, 48, 32, 48, 48, 48, 55, 48, 48, 48, 55, 48, 48, 32, 49, 52, 55, 102, 49, 52, 55, 102, 49, 52, 32, 50, 52, 50, 97, 55, 102, 50, 97, 49, 50, 32, 50, 51, 49, 51, 48, 56, 54, 52, 54, 50, 32, 51, 54, 52, 57, 53, 54, 50, 48, 53, 48, 32, 48, 48, 48, 53, 48, 51, 48, 48, 48, 48, 32, 48, 48, 49, 99, 50, 50, 52, 49, 48, 48, 32, 48, 48, 52, 49, 50, 50, 49, 99, 48, 48, 32, 49, 52, 48, 56, 51, 101, 48, 56, 49, 52, 32, 48, 56, 48, 56, 51, 101, 48, 56, 48, 56, 32, 48, 48, 53, 48, 51, 48, 48, 48, 48, 48, 32, 48, 56, 48, 56, 48, 56, 48, 56, 48, 56, 32, 48, 48, 54, 48, 54, 48, 48, 48, 48, 48, 32, 50, 48, 49, 48, 48, 56, 48, 52, 48, 50, 32, 51, 101, 53, 49, 52, 57, 52, 53, 51, 101, 32, 48, 48, 52, 50, 55, 102, 52, 48, 48, 48, 32, 52, 50, 54, 49, 53, 49, 52, 57, 52, 54, 32, 50, 49, 52, 49, 52, 53, 52, 98, 51, 49, 32, 49, 56, 49, 52, 49, 50, 55, 102, 49, 48, 32, 50, 55, 52, 53, 52, 53, 52, 53, 51, 57, 32, 51, 99, 52, 97, 52, 57, 52, 57, 51, 48, 32, 48, 49, 55, 49, 48, 57, 48, 53, 48, 51, 32, 51, 54, 52, 57, 52, 57, 52, 57, 51, 54, 32, 48, 54, 52, 57, 52, 57, 50, 57, 49, 101, 32, 48, 48, 51, 54, 51, 54, 48, 48, 48, 48, 32, 48, 48, 53, 54, 51, 54, 48, 48, 48, 48, 32, 48, 56, 49, 52, 50, 50, 52, 49, 48, 48, 32, 49, 52, 49, 52, 49, 52, 49, 52, 49, 52, 32, 48, 48, 52, 49, 50, 50, 49, 52, 48, 56, 32, 48, 50, 48, 49, 53, 49, 48, 57, 48, 54, 32, 51, 50, 52, 57, 55, 57, 52, 49, 51, 101, 32, 55, 101, 49, 49, 49, 49, 49, 49, 55, 101, 32, 55, 102, 52, 57, 52, 57, 52, 57, 51, 54, 32, 51, 101, 52, 49, 52, 49, 52, 49, 50, 50, 32, 55, 102, 52, 49, 52, 49, 50, 50, 49, 99, 32, 55, 102, 52, 57, 52, 57, 52, 57, 52, 49, 32, 55, 102, 48, 57, 48, 57, 48, 57, 48, 49, 32, 51, 101, 52, 49, 52, 57, 52, 57, 55, 97, 32, 55, 102, 48, 56, 48, 56, 48, 56, 55, 102, 32, 48, 48, 52, 49, 55, 102, 52, 49, 48, 48, 32, 50, 48, 52, 48, 52, 49, 51, 102, 48, 49, 32, 55, 102, 48, 56, 49, 52, 50, 50, 52, 49, 32, 55, 102, 52, 48, 52, 48, 52, 48, 52, 48, 32, 55, 102, 48, 50, 48, 99, 48, 50, 55, 102, 32, 55, 102, 48, 52, 48, 56, 49, 48, 55, 102, 32, 51, 101, 52, 49, 52, 49, 52, 49, 51, 101, 32, 55, 102, 48, 57, 48, 57, 48, 57, 48, 54, 32, 51, 101, 52, 49, 53, 49, 50, 49, 53, 101, 32, 55, 102, 48, 57, 49, 57, 50, 57, 52, 54, 32, 52, 54, 52, 57, 52, 57, 52, 57, 51, 49, 32, 48, 49, 48, 49, 55, 102, 48, 49, 48, 49, 32, 51, 102, 52, 48, 52, 48, 52, 48, 51, 102, 32, 49, 102, 50, 48, 52, 48, 50, 48, 49, 102, 32, 51, 102, 52, 48, 51, 56, 52, 48, 51, 102, 32, 54, 51, 49, 52, 48, 56, 49, 52, 54, 51, 32, 48, 55, 48, 56, 55, 48, 48, 56, 48, 55, 32, 54, 49, 53, 49, 52, 57, 52, 53, 52, 51, 32, 48, 48, 55, 102, 52, 49, 52, 49, 48, 48, 32, 48, 50, 48, 52, 48, 56, 49, 48, 50, 48, 32, 48, 48, 52, 49, 52, 49, 55, 102, 48, 48, 32, 48, 52, 48, 50, 48, 49, 48, 50, 48, 52, 32, 52, 48, 52, 48, 52, 48, 52, 48, 52, 48, 32, 48, 48, 48, 49, 48, 50, 48, 52, 48, 48, 32, 50, 48, 53, 52, 53, 52, 53, 52, 55, 56, 32, 55, 102, 52, 56, 52, 52, 52, 52, 51, 56, 32, 51, 56, 52, 52, 52, 52, 52, 52, 50, 48, 32, 51, 56, 52, 52, 52, 52, 52, 56, 55, 102, 32, 51, 56, 53, 52, 53, 52, 53, 52, 49, 56, 32, 48, 56, 55, 101, 48, 57, 48, 49, 48, 50, 32, 48, 99, 53, 50, 53, 50, 53, 50, 51, 101, 32, 55, 102, 48, 56, 48, 52, 48, 52, 55, 56, 32, 48, 48, 52, 52, 55, 100, 52, 48, 48, 48, 32, 50, 48, 52, 48, 52, 52, 51, 100, 48, 48, 32, 55, 102, 49, 48, 50, 56, 52, 52, 48, 48, 32, 48, 48, 52, 49, 55, 102, 52, 48, 48, 48, 32, 55, 99, 48, 52, 49, 56, 48, 52, 55, 56, 32, 55, 99, 48, 56, 48, 52, 48, 52, 55, 56, 32, 51, 56, 52, 52, 52, 52, 52, 52, 51, 56, 32, 55, 99, 49, 52, 49, 52, 49, 52, 48, 56, 32, 48, 56, 49, 52, 49, 52, 49, 56, 55, 99, 32, 55, 99, 48, 56, 48, 52, 48, 52, 48, 56, 32, 52, 56, 53, 52, 53, 52, 53, 52, 50, 48, 32, 48, 52, 51, 102, 52, 52, 52, 48, 50, 48, 32, 51, 99, 52, 48, 52, 48, 50, 48, 55, 99, 32, 49, 99, 50, 48, 52, 48, 50, 48, 49, 99, 32, 51, 99, 52, 48, 51, 48, 52, 48, 51, 99, 32, 52, 52, 50, 56, 49, 48, 50, 56, 52, 52, 32, 48, 99, 53, 48, 53, 48, 53, 48, 51, 99, 32, 52, 52, 54, 52, 53, 52, 52, 99, 52, 52, 32, 48, 48, 48, 56, 51, 54, 52, 49, 48, 48, 32, 48, 48, 48, 48, 55, 102, 48, 48, 48, 48, 32, 48, 48, 52, 49, 51, 54, 48, 56, 48, 48, 32, 49, 48, 48, 56, 48, 56, 49, 48, 48, 56]
theorem x71_ok : ExtOk Tryd.prog 71 extIndexByte := indexByte_ok Tryd.func71 (by kernel_rfl) (by kernel_rfl) (by kernel_rfl) (by kernel_rfl)
def tys : List (Nat × Ty) := [(3, (.int .i64)), (4, .bool), (5, (.int .u8)), (9, .str), (21, (.int .i32)), (22, (.sl T47)), (23, (.sl T87)), (25, T24), (27, T26), (28, (.sl (.sl T50))), (29, (.int .i64)), (36, (.ptr T65)), (38, (.sl .str)), (40, (.sl T50)), (44, T50), (46, (.sl T74)), (48, T47), (49, (.sl T50)), (51, T50), (55, (.sl (.int .i64))), (64, (.arr 256 (.int .i64))), (66, T65), (73, (.arr 3 T50)), (75, T74), (82, (.int .u64)), (88, T87), (101, (.arr 256 (.int .u8))), (110, (.sl T50)), (112, T50), (113, (.int .u32)), (115, (.ptr T119))]
theorem tys_ok : tysOk Tryd.prog tys = true := by kernel_rfl
theorem mixed : Tryd.prog.follows .mixedOrders = true := by kernel_rfl
def f62t (p0 : (List UInt8)) (p1 : Int) : Prop × Int :=
 (True, (Lib.indexByte p0 (Int.toNat p1).toUInt8))
def f62_ok (p0 : (List UInt8)) (p1 : Int) : Prop := (f62t p0 p1).1
def f62 (p0 : (List UInt8)) (p1 : Int) : Int := (f62t p0 p1).2
instance (p0 : (List UInt8)) (p1 : Int) : Decidable (f62_ok p0 p1) := by
 unfold f62_ok f62t
 try dsimp only
 infer_instance
def f62_spec : Am.Spec := fnSpec [(0, vS), (1, (.val (.int .u8)))] vI [] (fun x => f62_ok x.1 x.2.1) (fun x => f62 x.1 x.2.1) (fun _ => ())
def f62_ctx : Ctx := { Cx tys [] [] [] false 8 [] [] with exts := [(71, extIndexByte)] }
theorem f62_cok : CtxOk Tryd.prog f62_ctx := ctxOk_mkE tys_ok rfl trivial ⟨x71_ok, trivial⟩ (by kernel_rfl)
theorem f62_is : SpecOk Tryd.prog 62 f62_spec := fgen f62_cok mixed Tryd.func62 (by kernel_rfl) (bs := []) (by kernel_rfl) trivial fun x => by kernel_rfl
def f66 (p0 p1 : List UInt8) : Int := Lib.indexByte p0 (p1.headD 0)
def f66_ok (_p0 p1 : List UInt8) : Prop := List.length p1 = 1
instance (p0 p1 : List UInt8) : Decidable (f66_ok p0 p1) := by
  unfold f66_ok
  infer_instance
def f66_ps : List (Nat × Sh) := [(0, (.val .str)), (1, (.val .str))]
def f66_rs : Sh := (.val (.int .i64))
def f66_os : List (Nat × Sh) := []
def f66_spec : Am.Spec := fnSpec f66_ps f66_rs f66_os (fun x => f66_ok x.1 x.2.1) (fun x => f66 x.1 x.2.1) (fun _ => ())
theorem f66_is : SpecOk Tryd.prog 66 f66_spec := spec_byte (F := f66) ⟨_, Tryd.func66, by kernel_rfl, by decide⟩ (fun s c w => Tryd.strings_Index_one s c w)
def f67 (_p0 : (List UInt8)) (_p1 : Int) : (List (List UInt8)) := ([] : List (List UInt8))
def f67_ok (_p0 : (List UInt8)) (_p1 : Int) : Prop := False
instance (_p0 : (List UInt8)) (_p1 : Int) : Decidable (f67_ok _p0 _p1) := by
  unfold f67_ok
  infer_instance
def f67_ps : List (Nat × Sh) := [(0, vS), (1, vI)]
def f67_rs : Sh := (.val (.sl .str))
def f67_os : List (Nat × Sh) := []
def f67_spec : Am.Spec := fnSpec f67_ps f67_rs f67_os (fun x => f67_ok x.1 x.2.1) (fun x => f67 x.1 x.2.1) (fun _ => ())
theorem f67_is : SpecOk Tryd.prog 67 f67_spec := func_never Tryd.func67 (by kernel_rfl) (by decide)
def f68 (p0 p1 : List UInt8) : Int := ((Lib.countByte p0 (p1.headD 0) : Nat) : Int)
def f68_ok (_p0 p1 : List UInt8) : Prop := List.length p1 = 1
instance (p0 p1 : List UInt8) : Decidable (f68_ok p0 p1) := by
  unfold f68_ok
  infer_instance
def f68_ps : List (Nat × Sh) := [(0, (.val .str)), (1, (.val .str))]
def f68_rs : Sh := (.val (.int .i64))
def f68_os : List (Nat × Sh) := []
def f68_spec : Am.Spec := fnSpec f68_ps f68_rs f68_os (fun x => f68_ok x.1 x.2.1) (fun x => f68 x.1 x.2.1) (fun _ => ())
theorem f68_is : SpecOk Tryd.prog 68 f68_spec := spec_byte (F := f68) ⟨_, Tryd.func68, by kernel_rfl, by decide⟩ (fun s c w => Tryd.strings_Count_one s c w)
abbrev f50_L11_Y : Type := ((List UInt8) × Int × Int × Unit)
abbrev f50_L11_X : Type := ((List UInt8) × (List (List UInt8)) × Int × Unit)
def f50_L11t (y : f50_L11_Y) (x : f50_L11_X) : Prop × Bool × f50_L11_X :=
 let a1 := y.1
 let a2 := y.2.1
 let a0 := x.1
 let a9 := x.2.1
 let a10 := x.2.2.1
 let v36 := (decide (a10 < y.2.2.1))
 let v39 := (f66 a0 a1)
 let v41 := (decide (v39 < 0))
 let v47 := (v39 + a2)
 let v53 := (len a1)
 let v54 := (v39 + v53)
 ((v36 = true → ((f66_ok a0 a1) ∧ ((!v41) = true → (InR (v39 + a2) ∧ ((0 ≤ v47 ∧ v47 ≤ len a0) ∧ (InB a10 (len a9) ∧ (a10 < len a9 ∧ (InR (v39 + v53) ∧ ((0 ≤ v54 ∧ v54 ≤ len a0) ∧ InR (a10 + 1)))))))))), (v36 && (!v41)), ((List.drop (Int.toNat v54) a0), (List.set a9 (Int.toNat a10) (List.take (Int.toNat v47) a0)), (a10 + 1), ()))
def f50_L11_ok (y : f50_L11_Y) (x : f50_L11_X) : Prop := (f50_L11t y x).1
def f50_L11_g (y : f50_L11_Y) (x : f50_L11_X) : Bool := (f50_L11t y x).2.1
def f50_L11_next (y : f50_L11_Y) (x : f50_L11_X) : f50_L11_X := (f50_L11t y x).2.2
instance (y : f50_L11_Y) (x : f50_L11_X) : Decidable (f50_L11_ok y x) := by
 unfold f50_L11_ok f50_L11t
 try dsimp only
 infer_instance
def f50_L11_x2_0 (y : f50_L11_Y) (x : f50_L11_X) : (List UInt8) :=
 x.1
def f50_L11_x2_1 (y : f50_L11_Y) (x : f50_L11_X) : (List (List UInt8)) :=
 x.2.1
def f50_L11_x2_2 (y : f50_L11_Y) (x : f50_L11_X) : Int :=
 x.2.2.1
def f50_L11_l2 : List (Nat × Sh) := [(0, vS), (9, (.own .str 1009 true)), (10, vI)]
def f50_L11_spec : St → Option Out := loopS [(1, vS), (2, vI), (3, vI)] [(0, vS), (9, (.own .str 1009 true)), (10, vI)] f50_L11_g f50_L11_next f50_L11_ok fun y x => [ex 2 none f50_L11_l2 ((f50_L11_x2_0 y x), (f50_L11_x2_1 y x), (f50_L11_x2_2 y x), ())]
def f50t (p0 : (List UInt8)) (p1 : (List UInt8)) (p2 : Int) (p3 : Int) : Prop × (List (List UInt8)) :=
 let v13 := (p3 == 0)
 let v15 := (p1 == ([] : List UInt8))
 let v20 := (decide (p3 < 0))
 let v23 := (f68 p0 p1)
 let v27 := (len p0)
 let v29 := (imin (bif v20 then (v23 + 1) else p3) (v27 + 1))
 let y11 := (p1, p2, (v29 - 1), ())
 let x11 := (p0, (List.replicate (Int.toNat v29) ([] : List UInt8)), (0 : Int), ())
 let e11 := (loopEnd (f50_L11_g y11) (f50_L11_next y11) x11)
 let r11_2_1 := (f50_L11_x2_1 y11 e11)
 let r11_2_2 := (f50_L11_x2_2 y11 e11)
 let l1009 := (List.set r11_2_1 (Int.toNat r11_2_2) (f50_L11_x2_0 y11 e11))
 let v64 := (r11_2_2 + 1)
 (((!v13) = true → ((v15 = true → (f67_ok p0 p3)) ∧ ((!v15) = true → ((v20 = true → ((f68_ok p0 p1) ∧ InR (v23 + 1))) ∧ (InR (v27 + 1) ∧ ((0 ≤ v29 ∧ v29 ≤ v29 ∧ v29 ≤ 4294967296) ∧ (InR (v29 - 1) ∧ ((Am.Ends (f50_L11_g y11) (f50_L11_next y11) (f50_L11_ok y11) x11) ∧ (InB r11_2_2 (len r11_2_1) ∧ (r11_2_2 < len r11_2_1 ∧ (InR (r11_2_2 + 1) ∧ (0 ≤ v64 ∧ v64 ≤ len l1009)))))))))))), (bif v13 then [] else (bif v15 then (f67 p0 p3) else (List.take (Int.toNat v64) l1009))))
def f50_ok (p0 : (List UInt8)) (p1 : (List UInt8)) (p2 : Int) (p3 : Int) : Prop := (f50t p0 p1 p2 p3).1
def f50 (p0 : (List UInt8)) (p1 : (List UInt8)) (p2 : Int) (p3 : Int) : (List (List UInt8)) := (f50t p0 p1 p2 p3).2
instance (p0 : (List UInt8)) (p1 : (List UInt8)) (p2 : Int) (p3 : Int) : Decidable (f50_ok p0 p1 p2 p3) := by
 unfold f50_ok f50t
 try dsimp only
 infer_instance
def f50_spec : Am.Spec := fnSpec [(0, vS), (1, vS), (2, vI), (3, vI)] (.val (.sl .str)) [] (fun x => f50_ok x.1 x.2.1 x.2.2.1 x.2.2.2.1) (fun x => f50 x.1 x.2.1 x.2.2.1 x.2.2.2.1) (fun _ => ())
def f50_ctx : Ctx := Cx tys [(66, f66_spec), (67, f67_spec), (68, f68_spec)] [(11, f50_L11_spec)] [(17, [(4, 0, 31, 1009)]), (36, [(1, 9, 0, 0)])] false 66 [] [31]
theorem f50_cok : CtxOk Tryd.prog f50_ctx := ctxOk_mk tys_ok rfl ⟨f66_is, f67_is, f68_is, trivial⟩ rfl (by kernel_rfl)
noncomputable def f50_code : Code := Tryd.f50.body.getD .skip
noncomputable def f50_L11 : Code := nthLoop f50_code 0
theorem f50_L11_is : LoopSnd Tryd.prog f50_ctx f50_L11 := lgen f50_cok mixed (sp := f50_L11_spec) rfl [f50_L11_l2] (bs := []) (by kernel_rfl) trivial (by kernel_rfl) (by kernel_rfl) fun y x => by kernel_rfl
theorem f50_is : SpecOk Tryd.prog 50 f50_spec := fgen f50_cok mixed Tryd.func50 (by kernel_rfl) (bs := [f50_L11]) (by kernel_rfl) ⟨f50_L11_is, trivial⟩ fun x => by kernel_rfl
def f27t (p0 : (List UInt8)) (p1 : (List UInt8)) : Prop × (List (List UInt8)) :=
 ((f50_ok p0 p1 (0 : Int) (-1 : Int)), (f50 p0 p1 (0 : Int) (-1 : Int)))
def f27_ok (p0 : (List UInt8)) (p1 : (List UInt8)) : Prop := (f27t p0 p1).1
def f27 (p0 : (List UInt8)) (p1 : (List UInt8)) : (List (List UInt8)) := (f27t p0 p1).2
instance (p0 : (List UInt8)) (p1 : (List UInt8)) : Decidable (f27_ok p0 p1) := by
 unfold f27_ok f27t
 try dsimp only
 infer_instance
def f27_spec : Am.Spec := fnSpec [(0, vS), (1, vS)] (.val (.sl .str)) [] (fun x => f27_ok x.1 x.2.1) (fun x => f27 x.1 x.2.1) (fun _ => ())
def f27_ctx : Ctx := Cx tys [(50, f50_spec)] [] [] false 8 [] []
theorem f27_cok : CtxOk Tryd.prog f27_ctx := ctxOk_mk tys_ok rfl ⟨f50_is, trivial⟩ rfl (by kernel_rfl)
theorem f27_is : SpecOk Tryd.prog 27 f27_spec := fgen f27_cok mixed Tryd.func27 (by kernel_rfl) (bs := []) (by kernel_rfl) trivial fun x => by kernel_rfl
abbrev f29_L3_Y : Type := (Int × Int × (List D87) × Int × Unit)
abbrev f29_L3_X : Type := (Int × Unit)
def f29_L3t (y : f29_L3_Y) (x : f29_L3_X) : Prop × Bool × f29_L3_X × Bool × Bool :=
 let a33 := y.2.2.1
 let a35 := x.1
 let v36 := (decide (a35 < y.2.2.2.1))
 let v37 := (nth a33 a35 Z87)
 let v48 := (bif (v37.1 == y.1) then (v37.2.1 == y.2.1) else false)
 ((v36 = true → (InB a35 (len a33) ∧ ((!v48) = true → InR (a35 + 1)))), (v36 && (!v48)), ((a35 + 1), ()), (v36 && v48), (!v36))
def f29_L3_ok (y : f29_L3_Y) (x : f29_L3_X) : Prop := (f29_L3t y x).1
def f29_L3_g (y : f29_L3_Y) (x : f29_L3_X) : Bool := (f29_L3t y x).2.1
def f29_L3_next (y : f29_L3_Y) (x : f29_L3_X) : f29_L3_X := (f29_L3t y x).2.2.1
def f29_L3_e1 (y : f29_L3_Y) (x : f29_L3_X) : Bool := (f29_L3t y x).2.2.2.1
def f29_L3_e2 (y : f29_L3_Y) (x : f29_L3_X) : Bool := (f29_L3t y x).2.2.2.2
instance (y : f29_L3_Y) (x : f29_L3_X) : Decidable (f29_L3_ok y x) := by
 unfold f29_L3_ok f29_L3t
 try dsimp only
 infer_instance
def f29_L3_x1_0 (y : f29_L3_Y) (x : f29_L3_X) : Int :=
 (nth y.2.2.1 x.1 Z87).2.2.1
def f29_L3_spec : St → Option Out := loopS [(7, (.val (.int .u8))), (8, (.val (.int .u8))), (33, (.val (.sl T87))), (34, vI)] [(35, vI)] f29_L3_g f29_L3_next f29_L3_ok fun y x => [ex 1 (some (f29_L3_e1 y x)) [(6, vI)] ((f29_L3_x1_0 y x), ()), ex 2 (some (f29_L3_e2 y x)) [] ()]
def f29t (p0 : D65) (p1 : Int) (p2 : Int) : Prop × Int :=
 let y3 := ((nth p0.1.2.2.2.1 p1 Z47).1, (nth p0.1.2.2.2.1 p2 Z47).1, p0.1.2.2.2.2.1, (len p0.1.2.2.2.2.1), ())
 let x3 := ((0 : Int), ())
 let e3 := (loopEnd (f29_L3_g y3) (f29_L3_next y3) x3)
 ((InB p1 (len p0.1.2.2.2.1) ∧ (InB p2 (len p0.1.2.2.2.1) ∧ (Am.Ends (f29_L3_g y3) (f29_L3_next y3) (f29_L3_ok y3) x3))), (bif (f29_L3_e1 y3 e3) then (f29_L3_x1_0 y3 e3) else (0 : Int)))
def f29_ok (p0 : D65) (p1 : Int) (p2 : Int) : Prop := (f29t p0 p1 p2).1
def f29 (p0 : D65) (p1 : Int) (p2 : Int) : Int := (f29t p0 p1 p2).2
instance (p0 : D65) (p1 : Int) (p2 : Int) : Decidable (f29_ok p0 p1 p2) := by
 unfold f29_ok f29t
 try dsimp only
 infer_instance
def f29_spec : Am.Spec := fnSpec [(0, (.val (.ptr T65))), (1, vI), (2, vI)] vI [] (fun x => f29_ok x.1 x.2.1 x.2.2.1) (fun x => f29 x.1 x.2.1 x.2.2.1) (fun _ => ())
def f29_ctx : Ctx := Cx tys [] [(3, f29_L3_spec)] [] false 52 [] []
theorem f29_cok : CtxOk Tryd.prog f29_ctx := ctxOk_mk tys_ok rfl trivial rfl (by kernel_rfl)
noncomputable def f29_code : Code := Tryd.f29.body.getD .skip
noncomputable def f29_L3 : Code := nthLoop f29_code 0
theorem f29_L3_is : LoopSnd Tryd.prog f29_ctx f29_L3 := lgen f29_cok mixed (sp := f29_L3_spec) rfl [[(6, vI)], []] (bs := []) (by kernel_rfl) trivial (by kernel_rfl) (by kernel_rfl) fun y x => by kernel_rfl
theorem f29_is : SpecOk Tryd.prog 29 f29_spec := fgen f29_cok mixed Tryd.func29 (by kernel_rfl) (bs := [f29_L3]) (by kernel_rfl) ⟨f29_L3_is, trivial⟩ fun x => by kernel_rfl
abbrev f11_L4_Y : Type := (D65 × (List UInt8) × Int × Unit)
abbrev f11_L4_X : Type := ((List D50) × Int × Int × Unit)
def f11_L4t (y : f11_L4_Y) (x : f11_L4_X) : Prop × Bool × f11_L4_X :=
 let a0 := y.1
 let a1 := y.2.1
 let a6 := x.1
 let a7 := x.2.1
 let a12 := x.2.2.1
 let v13 := (decide (a12 < y.2.2.1))
 let v18 := (byteAt a1 a12)
 let v21 := (nth a0.2.1 v18 (0 : Int))
 let v24 := (decide (v21 < 0))
 let v27 := (decide ((len a6) > 0))
 let v32 := (len a6)
 let v33 := (v32 - 1)
 let v34 := (nth a6 v33 Z50)
 let v38 := (f29 a0 v34.1 v21)
 let m7 := (bif v27 then (a7 + v38) else a7)
 let v44 := ([(v21, m7, ())] : List D50)
 let v53 := (nth a0.1.2.2.2.1 v21 Z47)
 let c := (v24 || (!v24))
 ((v13 = true → (InB a12 (len a1) ∧ (InB v18 256 ∧ (((!v24) = true → ((v27 = true → (InR (v32 - 1) ∧ (InB v33 (len a6) ∧ ((f29_ok a0 v34.1 v21) ∧ InR (a7 + v38))))) ∧ (((List.length a6 + List.length v44 : Nat) : Int) ≤ 4294967296 ∧ (InB v21 (len a0.1.2.2.2.1) ∧ InR (m7 + v53.2.1))))) ∧ (c = true → InR (a12 + 1)))))), (v13 && c), ((bif v24 then a6 else (a6 ++ v44)), (bif v24 then a7 else (m7 + v53.2.1)), (a12 + 1), ()))
def f11_L4_ok (y : f11_L4_Y) (x : f11_L4_X) : Prop := (f11_L4t y x).1
def f11_L4_g (y : f11_L4_Y) (x : f11_L4_X) : Bool := (f11_L4t y x).2.1
def f11_L4_next (y : f11_L4_Y) (x : f11_L4_X) : f11_L4_X := (f11_L4t y x).2.2
instance (y : f11_L4_Y) (x : f11_L4_X) : Decidable (f11_L4_ok y x) := by
 unfold f11_L4_ok f11_L4t
 try dsimp only
 infer_instance
def f11_L4_x2_0 (y : f11_L4_Y) (x : f11_L4_X) : (List D50) :=
 x.1
def f11_L4_x2_1 (y : f11_L4_Y) (x : f11_L4_X) : Int :=
 x.2.1
def f11_L4_l2 : List (Nat × Sh) := [(6, (.own T50 1006 false)), (7, vI)]
def f11_L4_spec : St → Option Out := loopS [(0, (.val (.ptr T65))), (1, vS), (11, vI)] [(6, (.own T50 1006 false)), (7, vI), (12, vI)] f11_L4_g f11_L4_next f11_L4_ok fun y x => [ex 2 none f11_L4_l2 ((f11_L4_x2_0 y x), (f11_L4_x2_1 y x), ())]
def f11t (p0 : D65) (p1 : (List UInt8)) : Prop × ((List D50) × Int × Unit) :=
 let y4 := (p0, p1, (len p1), ())
 let x4 := (([] : List D50), (0 : Int), (0 : Int), ())
 let e4 := (loopEnd (f11_L4_g y4) (f11_L4_next y4) x4)
 ((Am.Ends (f11_L4_g y4) (f11_L4_next y4) (f11_L4_ok y4) x4), ((f11_L4_x2_0 y4 e4), (f11_L4_x2_1 y4 e4), ()))
def f11_ok (p0 : D65) (p1 : (List UInt8)) : Prop := (f11t p0 p1).1
def f11 (p0 : D65) (p1 : (List UInt8)) : ((List D50) × Int × Unit) := (f11t p0 p1).2
instance (p0 : D65) (p1 : (List UInt8)) : Decidable (f11_ok p0 p1) := by
 unfold f11_ok f11t
 try dsimp only
 infer_instance
def f11_spec : Am.Spec := fnSpec [(0, (.val (.ptr T65))), (1, vS)] (.tup (.cons (.own T50 0 false) (.cons vI .nl))) [] (fun x => f11_ok x.1 x.2.1) (fun x => f11 x.1 x.2.1) (fun _ => ())
def f11_ctx : Ctx := Cx tys [(29, f29_spec)] [(4, f11_L4_spec)] [(21, [(4, 0, 45, 1006)]), (27, [(4, 0, 1006, 0)])] false 60 [] []
theorem f11_cok : CtxOk Tryd.prog f11_ctx := ctxOk_mk tys_ok rfl ⟨f29_is, trivial⟩ rfl (by kernel_rfl)
noncomputable def f11_code : Code := Tryd.f11.body.getD .skip
noncomputable def f11_L4 : Code := nthLoop f11_code 0
theorem f11_L4_is : LoopSnd Tryd.prog f11_ctx f11_L4 := lgen f11_cok mixed (sp := f11_L4_spec) rfl [f11_L4_l2] (bs := []) (by kernel_rfl) trivial (by kernel_rfl) (by kernel_rfl) fun y x => by kernel_rfl
theorem f11_is : SpecOk Tryd.prog 11 f11_spec := fgen f11_cok mixed Tryd.func11 (by kernel_rfl) (bs := [f11_L4]) (by kernel_rfl) ⟨f11_L4_is, trivial⟩ fun x => by kernel_rfl
def f32t (p0 : Int) (p1 : Int) : Prop × Int :=
 let v7 := (p1 == 0)
 let v13 := (bif (p0 == (-9223372036854775808)) then (p1 == (-1)) else false)
 let v16 := (Int.tdiv p0 p1)
 let v27 := (bif ((Int.tmod p0 p1) != 0) then (!(Ty.eqb .bool (decide (p0 < 0)) (decide (p1 < 0)))) else false)
 (((!v7) = true → ((!v13) = true → (p1 ≠ 0 ∧ (InR (Int.tdiv p0 p1) ∧ (p1 ≠ 0 ∧ (v27 = true → InR (v16 - 1))))))), (bif v7 then (0 : Int) else (bif v13 then (9223372036854775807 : Int) else (bif v27 then (v16 - 1) else v16))))
def f32_ok (p0 : Int) (p1 : Int) : Prop := (f32t p0 p1).1
def f32 (p0 : Int) (p1 : Int) : Int := (f32t p0 p1).2
instance (p0 : Int) (p1 : Int) : Decidable (f32_ok p0 p1) := by
 unfold f32_ok f32t
 try dsimp only
 infer_instance
def f32_spec : Am.Spec := fnSpec [(0, vI), (1, vI)] vI [] (fun x => f32_ok x.1 x.2.1) (fun x => f32 x.1 x.2.1) (fun _ => ())
def f32_ctx : Ctx := Cx tys [] [] [] false 31 [] []
theorem f32_cok : CtxOk Tryd.prog f32_ctx := ctxOk_mk tys_ok rfl trivial rfl (by kernel_rfl)
theorem f32_is : SpecOk Tryd.prog 32 f32_spec := fgen f32_cok mixed Tryd.func32 (by kernel_rfl) (bs := []) (by kernel_rfl) trivial fun x => by kernel_rfl
def f13t (p0 : Int) (p1 : Int) : Prop × Int :=
 let v8 := (p1 == 0)
 let v14 := (bif (p0 == (-9223372036854775808)) then (p1 == (-1)) else false)
 let v17 := (f32 p0 p1)
 let v21 := (p1 * v17)
 let v22 := (p0 - v21)
 let v24 := (decide (p1 > 0))
 let v31 := (bif v24 then (decide (v22 ≥ (p1 - v22))) else false)
 let v34 := (decide (p1 < 0))
 let v42 := (bif v31 then true else (bif v34 then (decide (v22 ≤ (p1 - v22))) else false))
 (((!v8) = true → ((!v14) = true → ((f32_ok p0 p1) ∧ (InR (p1 * v17) ∧ (InR (p0 - v21) ∧ ((v24 = true → InR (p1 - v22)) ∧ ((((!v31) && v34) = true → InR (p1 - v22)) ∧ (v42 = true → InR (v17 + 1))))))))), (bif v8 then (0 : Int) else (bif v14 then (9223372036854775807 : Int) else (bif v42 then (v17 + 1) else v17))))
def f13_ok (p0 : Int) (p1 : Int) : Prop := (f13t p0 p1).1
def f13 (p0 : Int) (p1 : Int) : Int := (f13t p0 p1).2
instance (p0 : Int) (p1 : Int) : Decidable (f13_ok p0 p1) := by
 unfold f13_ok f13t
 try dsimp only
 infer_instance
def f13_spec : Am.Spec := fnSpec [(0, vI), (1, vI)] vI [] (fun x => f13_ok x.1 x.2.1) (fun x => f13 x.1 x.2.1) (fun _ => ())
def f13_ctx : Ctx := Cx tys [(32, f32_spec)] [] [] false 46 [] []
theorem f13_cok : CtxOk Tryd.prog f13_ctx := ctxOk_mk tys_ok rfl ⟨f32_is, trivial⟩ rfl (by kernel_rfl)
theorem f13_is : SpecOk Tryd.prog 13 f13_spec := fgen f13_cok mixed Tryd.func13 (by kernel_rfl) (bs := []) (by kernel_rfl) trivial fun x => by kernel_rfl
def f28t (p0 : D65) (p1 : (List UInt8)) (p2 : Int) : Prop × Int :=
 let v12 := (f11 p0 p1)
 let v17 := (p2 * v12.2.1)
 (((f11_ok p0 p1) ∧ (InR (p2 * v12.2.1) ∧ (f13_ok v17 p0.1.1))), (f13 v17 p0.1.1))
def f28_ok (p0 : D65) (p1 : (List UInt8)) (p2 : Int) : Prop := (f28t p0 p1 p2).1
def f28 (p0 : D65) (p1 : (List UInt8)) (p2 : Int) : Int := (f28t p0 p1 p2).2
instance (p0 : D65) (p1 : (List UInt8)) (p2 : Int) : Decidable (f28_ok p0 p1 p2) := by
 unfold f28_ok f28t
 try dsimp only
 infer_instance
def f28_spec : Am.Spec := fnSpec [(0, (.val (.ptr T65))), (1, vS), (2, vI)] vI [] (fun x => f28_ok x.1 x.2.1 x.2.2.1) (fun x => f28 x.1 x.2.1 x.2.2.1) (fun _ => ())
def f28_ctx : Ctx := Cx tys [(11, f11_spec), (13, f13_spec)] [] [(3, [(4, 0, 12, 1007)])] false 24 [] []
theorem f28_cok : CtxOk Tryd.prog f28_ctx := ctxOk_mk tys_ok rfl ⟨f11_is, f13_is, trivial⟩ rfl (by kernel_rfl)
theorem f28_is : SpecOk Tryd.prog 28 f28_spec := fgen f28_cok mixed Tryd.func28 (by kernel_rfl) (bs := []) (by kernel_rfl) trivial fun x => by kernel_rfl
abbrev f10r_L7_Y : Type := (D65 × Int × Int × (List (List UInt8)) × Int × Unit)
abbrev f10r_L7_X : Type := ((List (List UInt8)) × (List UInt8) × Int × Unit)
def f10r_L7t (y : f10r_L7_Y) (x : f10r_L7_X) : Prop × Bool × f10r_L7_X :=
 let a4 := y.1
 let a6 := y.2.1
 let a7 := y.2.2.1
 let a25 := y.2.2.2.1
 let a9 := x.1
 let a12 := x.2.1
 let a27 := x.2.2.1
 let v28 := (decide (a27 < y.2.2.2.2.1))
 let v29 := (nth a25 a27 ([] : List UInt8))
 let v32 := (a12 ++ ([32] : List UInt8))
 let v34 := (v32 ++ v29)
 let v36 := (a7 == 0)
 let v44 := (bif v36 then true else (decide ((f28 a4 v34 a6) ≤ a7)))
 let v48 := ([a12] : List (List UInt8))
 ((v28 = true → (InB a27 (len a25) ∧ (((List.length a12 + List.length ([32] : List UInt8) : Nat) : Int) ≤ 9223372036854775807 ∧ (((List.length v32 + List.length v29 : Nat) : Int) ≤ 9223372036854775807 ∧ (((!v36) = true → (f28_ok a4 v34 a6)) ∧ ((v44 = false → ((List.length a9 + List.length v48 : Nat) : Int) ≤ 4294967296) ∧ InR (a27 + 1))))))), v28, ((bif v44 then a9 else (a9 ++ v48)), (bif v44 then v34 else v29), (a27 + 1), ()))
def f10r_L7_ok (y : f10r_L7_Y) (x : f10r_L7_X) : Prop := (f10r_L7t y x).1
def f10r_L7_g (y : f10r_L7_Y) (x : f10r_L7_X) : Bool := (f10r_L7t y x).2.1
def f10r_L7_next (y : f10r_L7_Y) (x : f10r_L7_X) : f10r_L7_X := (f10r_L7t y x).2.2
instance (y : f10r_L7_Y) (x : f10r_L7_X) : Decidable (f10r_L7_ok y x) := by
 unfold f10r_L7_ok f10r_L7t
 try dsimp only
 infer_instance
def f10r_L7_x4_0 (y : f10r_L7_Y) (x : f10r_L7_X) : (List (List UInt8)) :=
 x.1
def f10r_L7_x4_1 (y : f10r_L7_Y) (x : f10r_L7_X) : (List UInt8) :=
 x.2.1
def f10r_L7_l4 : List (Nat × Sh) := [(4, (.box (.ptr T65) (.val (.ptr T65)))), (6, (.box (.int .i64) vI)), (7, (.box (.int .i64) vI)), (9, (.box (.sl .str) (.own .str 400900 false))), (12, vS)]
def f10r_L7_spec : St → Option Out := loopS [(4, (.box (.ptr T65) (.val (.ptr T65)))), (6, (.box (.int .i64) vI)), (7, (.box (.int .i64) vI)), (25, (.val (.sl .str))), (26, vI)] [(9, (.box (.sl .str) (.own .str 400900 false))), (12, vS), (27, vI)] f10r_L7_g f10r_L7_next f10r_L7_ok fun y x => [ex 4 none f10r_L7_l4 (y.1, y.2.1, y.2.2.1, (f10r_L7_x4_0 y x), (f10r_L7_x4_1 y x), ())]
def f10rt (p0 : D65) (p1 : Int) (p2 : Int) (p3 : (List (List UInt8))) (p4 : (List UInt8)) : Prop × (Unit) × (D65 × Int × Int × (List (List UInt8)) × Unit) :=
 let v20 := (f27 p4 ([32] : List UInt8))
 let v25 := (List.drop (Int.toNat (1 : Int)) v20)
 let y7 := (p0, p1, p2, v25, (len v25), ())
 let x7 := (p3, (nth v20 (0 : Int) ([] : List UInt8)), (0 : Int), ())
 let e7 := (loopEnd (f10r_L7_g y7) (f10r_L7_next y7) x7)
 let r7_4_0 := (f10r_L7_x4_0 y7 e7)
 let v54 := ([(f10r_L7_x4_1 y7 e7)] : List (List UInt8))
 (((f27_ok p4 ([32] : List UInt8)) ∧ (InB (0 : Int) (len v20) ∧ ((0 ≤ (1 : Int) ∧ (1 : Int) ≤ len v20) ∧ ((Am.Ends (f10r_L7_g y7) (f10r_L7_next y7) (f10r_L7_ok y7) x7) ∧ ((List.length r7_4_0 + List.length v54 : Nat) : Int) ≤ 4294967296)))), (), (p0, p1, p2, (r7_4_0 ++ v54), ()))
def f10r_ok (p0 : D65) (p1 : Int) (p2 : Int) (p3 : (List (List UInt8))) (p4 : (List UInt8)) : Prop := (f10rt p0 p1 p2 p3 p4).1
def f10r_o (p0 : D65) (p1 : Int) (p2 : Int) (p3 : (List (List UInt8))) (p4 : (List UInt8)) : (D65 × Int × Int × (List (List UInt8)) × Unit) := (f10rt p0 p1 p2 p3 p4).2.2
instance (p0 : D65) (p1 : Int) (p2 : Int) (p3 : (List (List UInt8))) (p4 : (List UInt8)) : Decidable (f10r_ok p0 p1 p2 p3 p4) := by
 unfold f10r_ok f10rt
 try dsimp only
 infer_instance
def f10r_ps : List (Nat × Sh) := [(4, (.box (.ptr T65) (.val (.ptr T65)))), (6, (.box (.int .i64) vI)), (7, (.box (.int .i64) vI)), (9, (.box (.sl .str) (.own .str 400900 false))), (10, vS)]
def f10r_rs : Sh := (.tup .nl)
def f10r_os : List (Nat × Sh) := [(4, (.box (.ptr T65) (.val (.ptr T65)))), (6, (.box (.int .i64) vI)), (7, (.box (.int .i64) vI)), (9, (.box (.sl .str) (.own .str 400900 false)))]
def f10r_ctx : Ctx := Cx tys [(27, f27_spec), (28, f28_spec)] [(7, f10r_L7_spec)] [(25, [(4, 0, 49, 400900)]), (31, [(4, 0, 55, 400900)])] false 57 [4, 6, 7, 9] []
theorem f10r_cok : CtxOk Tryd.prog f10r_ctx := ctxOk_mk tys_ok rfl ⟨f27_is, f28_is, trivial⟩ rfl (by kernel_rfl)
noncomputable def f10r_code : Code := (rfBody (Tryd.f10.body.getD .skip)).getD .skip
noncomputable def f10r_L7 : Code := nthLoop f10r_code 0
theorem f10r_L7_is : LoopSnd Tryd.prog f10r_ctx f10r_L7 := lgen f10r_cok mixed (sp := f10r_L7_spec) rfl [f10r_L7_l4] (bs := []) (by kernel_rfl) trivial (by kernel_rfl) (by kernel_rfl) fun y x => by kernel_rfl
theorem f10r_on : ∀ x, onlyOn f10r_ctx f10r_code (startSt f10r_ps x) = true := fun x => by kernel_rfl
theorem f10r_sum : ∀ x, sumFn f10r_ctx f10r_code [] f10r_ps f10r_rs f10r_os x = some (f10r_ok x.1 x.2.1 x.2.2.1 x.2.2.2.1 x.2.2.2.2.1, (), f10r_o x.1 x.2.1 x.2.2.1 x.2.2.2.1 x.2.2.2.2.1) := fun x => by kernel_rfl
theorem f10r_is : PieceOk Tryd.prog f10r_ctx f10r_code f10r_ps f10r_os (fun x => f10r_ok x.1 x.2.1 x.2.2.1 x.2.2.2.1 x.2.2.2.2.1) (fun x => f10r_o x.1 x.2.1 x.2.2.1 x.2.2.2.1 x.2.2.2.2.1) := piece_gen (rs := f10r_rs) (F := fun _ => ()) f10r_cok mixed (bs := [f10r_L7]) (by kernel_rfl) ⟨f10r_L7_is, trivial⟩ (by kernel_rfl) f10r_on f10r_sum
end Go.Proofs.YtdgfchmfajmkiaaDoor.Am
