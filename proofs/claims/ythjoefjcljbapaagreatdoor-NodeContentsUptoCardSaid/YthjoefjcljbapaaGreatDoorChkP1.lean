/- Printed by program: the functions that the statements reach, as plain functions, and their contracts. No condition. -/
import Derived.Test.YthjoefjcljbapaaGreatDoorMach4
import Derived.Test.YthjoefjcljbapaaGreatDoorChkI
import Derived.Test.YthjoefjcljbapaaGreatDoorChkH
import Derived.Test.YthjoefjcljbapaaGreatDoorProg
set_option linter.unusedVariables false
set_option synthInstance.maxSize 4000
set_option synthInstance.maxHeartbeats 400000
namespace Go.Proofs.YthjoefjcljbapaaGreatDoor.Am
open Go Go.Am Go.Proofs
abbrev T23 : Ty := .st (.cons (.int .i64) (.cons (.int .i64) (.cons (.sl (.int .i64)) .nl)))
abbrev D23 : Type := Int × Int × (List Int) × Unit
abbrev Z23 : D23 := ((0 : Int), (0 : Int), ([] : List Int), ())
abbrev T25 : Ty := .st (.cons (.int .i64) (.cons (.int .i64) (.cons (.int .i64) (.cons (.int .i64) (.cons (.int .i64) (.cons (.int .i64) .nl))))))
abbrev D25 : Type := Int × Int × Int × Int × Int × Int × Unit
abbrev Z25 : D25 := ((0 : Int), (0 : Int), (0 : Int), (0 : Int), (0 : Int), (0 : Int), ())
abbrev T30 : Ty := .st (.cons (.int .i64) (.cons (.int .i64) (.cons (.int .i64) (.cons (.int .i64) .nl))))
abbrev D30 : Type := Int × Int × Int × Int × Unit
abbrev Z30 : D30 := ((0 : Int), (0 : Int), (0 : Int), (0 : Int), ())
abbrev T28 : Ty := .st (.cons (.int .i64) (.cons (.int .i64) (.cons (.sl T30) .nl)))
abbrev D28 : Type := Int × Int × (List D30) × Unit
abbrev Z28 : D28 := ((0 : Int), (0 : Int), ([] : List D30), ())
abbrev T53 : Ty := .st (.cons (.int .i64) (.cons T30 .nl))
abbrev D53 : Type := Int × D30 × Unit
abbrev Z53 : D53 := ((0 : Int), Z30, ())
abbrev T55 : Ty := .st (.cons (.int .i64) (.cons (.int .i64) .nl))
abbrev D55 : Type := Int × Int × Unit
abbrev Z55 : D55 := ((0 : Int), (0 : Int), ())
abbrev T58 : Ty := .st (.cons (.int .i64) (.cons (.arr 3 T55) .nl))
abbrev D58 : Type := Int × (List D55) × Unit
abbrev Z58 : D58 := ((0 : Int), (List.replicate 3 Z55), ())
abbrev T35 : Ty := .st (.cons (.int .i64) (.cons (.int .i64) (.cons (.int .i64) (.cons (.sl T55) .nl))))
abbrev D35 : Type := Int × Int × Int × (List D55) × Unit
abbrev Z35 : D35 := ((0 : Int), (0 : Int), (0 : Int), ([] : List D55), ())
abbrev T37 : Ty := .st (.cons (.int .i64) (.cons (.int .i64) (.cons (.int .i64) (.cons .str (.cons .bool (.cons .bool (.cons .bool (.cons (.int .i64) (.cons (.int .i64) (.cons T23 (.cons T25 (.cons (.int .i64) (.cons T28 (.cons T30 (.cons (.int .i64) (.cons (.sl (.int .i64)) (.cons (.int .i64) (.cons (.sl T53) (.cons (.sl T58) (.cons (.int .i64) (.cons (.int .i64) (.cons (.int .i64) (.cons (.int .i64) (.cons .str (.cons (.int .i64) (.cons (.int .i64) (.cons (.int .i64) (.cons T35 .nl))))))))))))))))))))))))))))
abbrev D37 : Type := Int × Int × Int × (List UInt8) × Bool × Bool × Bool × Int × Int × D23 × D25 × Int × D28 × D30 × Int × (List Int) × Int × (List D53) × (List D58) × Int × Int × Int × Int × (List UInt8) × Int × Int × Int × D35 × Unit
abbrev Z37 : D37 := ((0 : Int), (0 : Int), (0 : Int), ([] : List UInt8), false, false, false, (0 : Int), (0 : Int), Z23, Z25, (0 : Int), Z28, Z30, (0 : Int), ([] : List Int), (0 : Int), ([] : List D53), ([] : List D58), (0 : Int), (0 : Int), (0 : Int), (0 : Int), ([] : List UInt8), (0 : Int), (0 : Int), (0 : Int), Z35, ())
abbrev T47 : Ty := .st (.cons T37 (.cons T37 .nl))
abbrev D47 : Type := D37 × D37 × Unit
abbrev Z47 : D47 := (Z37, Z37, ())
abbrev T143 : Ty := .st (.cons (.int .u8) (.cons (.int .i64) (.cons (.sl T58) .nl)))
abbrev D143 : Type := Int × Int × (List D58) × Unit
abbrev Z143 : D143 := ((0 : Int), (0 : Int), ([] : List D58), ())
abbrev T148 : Ty := .st (.cons (.int .u8) (.cons (.int .u8) (.cons (.int .i64) .nl)))
abbrev D148 : Type := Int × Int × Int × Unit
abbrev Z148 : D148 := ((0 : Int), (0 : Int), (0 : Int), ())
abbrev T113 : Ty := .st (.cons (.int .i64) (.cons (.int .i64) (.cons (.int .i64) (.cons (.sl T143) (.cons (.sl T148) .nl)))))
abbrev D113 : Type := Int × Int × Int × (List D143) × (List D148) × Unit
abbrev Z113 : D113 := ((0 : Int), (0 : Int), (0 : Int), ([] : List D143), ([] : List D148), ())
abbrev T131 : Ty := .st (.cons (.int .i64) (.cons (.int .i64) (.cons (.int .i64) (.cons (.sl (.sl T55)) (.cons (.int .i64) .nl)))))
abbrev D131 : Type := Int × Int × Int × (List (List D55)) × Int × Unit
abbrev Z131 : D131 := ((0 : Int), (0 : Int), (0 : Int), ([] : List (List D55)), (0 : Int), ())
abbrev T163 : Ty := .st (.cons T113 (.cons (.arr 256 (.int .i64)) .nl))
abbrev D163 : Type := D113 × (List Int) × Unit
abbrev Z163 : D163 := (Z113, (List.replicate 256 (0 : Int)), ())
abbrev T156 : Ty := .st (.cons T55 (.cons T55 (.cons T55 (.cons T55 (.cons T55 .nl)))))
abbrev D156 : Type := D55 × D55 × D55 × D55 × D55 × Unit
abbrev Z156 : D156 := (Z55, Z55, Z55, Z55, Z55, ())
abbrev T204 : Ty := .st (.cons (.int .u16) (.cons (.int .u16) (.cons (.int .u16) .nl)))
abbrev D204 : Type := Int × Int × Int × Unit
abbrev Z204 : D204 := ((0 : Int), (0 : Int), (0 : Int), ())
abbrev T207 : Ty := .st (.cons (.int .u32) (.cons (.int .u32) (.cons (.int .u32) .nl)))
abbrev D207 : Type := Int × Int × Int × Unit
abbrev Z207 : D207 := ((0 : Int), (0 : Int), (0 : Int), ())
abbrev T201 : Ty := .st (.cons (.sl T204) (.cons (.sl T207) (.cons (.int .i64) .nl)))
abbrev D201 : Type := (List D204) × (List D207) × Int × Unit
abbrev Z201 : D201 := (([] : List D204), ([] : List D207), (0 : Int), ())
abbrev T7 : Ty := .st (.cons (.int .i64) (.cons (.int .i64) (.cons .bool (.cons (.int .u8) .nl))))
abbrev D7 : Type := Int × Int × Bool × Int × Unit
abbrev Z7 : D7 := ((0 : Int), (0 : Int), false, (0 : Int), ())
abbrev T13 : Ty := .st (.cons .str (.cons (.int .u64) .nl))
abbrev D13 : Type := (List UInt8) × Int × Unit
abbrev Z13 : D13 := (([] : List UInt8), (0 : Int), ())
abbrev T213 : Ty := .st (.cons (.int .u8) (.cons (.int .u8) .nl))
abbrev D213 : Type := Int × Int × Unit
abbrev Z213 : D213 := ((0 : Int), (0 : Int), ())
def G0 : (List Int) := [0, 0, 0, 0, 0, 0, 0, 0, 0, 1, 1, 1, 1, 1, 0, 0, 0, 0, 0, 0, 0, 0, 0, 0, 0, 0, 0, 0, 0, 0, 0, 0, 1, 0, 0, 0, 0, 0, 0, 0, 0, 0, 0, 0, 0, 0, 0, 0, 0, 0, 0, 0, 0, 0, 0, 0, 0, 0, 0, 0, 0, 0, 0, 0, 0, 0, 0, 0, 0, 0, 0, 0, 0, 0, 0, 0, 0, 0, 0, 0, 0, 0, 0, 0, 0, 0, 0, 0, 0, 0, 0, 0, 0, 0, 0, 0, 0, 0, 0, 0, 0, 0, 0, 0, 0, 0, 0, 0, 0, 0, 0, 0, 0, 0, 0, 0, 0, 0, 0, 0, 0, 0, 0, 0, 0, 0, 0, 0, 0, 0, 0, 0, 0, 0, 0, 0, 0, 0, 0, 0, 0, 0, 0, 0, 0, 0, 0, 0, 0, 0, 0, 0, 0, 0, 0, 0, 0, 0, 0, 0, 0, 0, 0, 0, 0, 0, 0, 0, 0, 0, 0, 0, 0, 0, 0, 0, 0, 0, 0, 0, 0, 0, 0, 0, 0, 0, 0, 0, 0, 0, 0, 0, 0, 0, 0, 0, 0, 0, 0, 0, 0, 0, 0, 0, 0, 0, 0, 0, 0, 0, 0, 0, 0, 0, 0, 0, 0, 0, 0, 0, 0, 0, 0, 0, 0, 0, 0, 0, 0, 0, 0, 0, 0, 0, 0, 0, 0, 0, 0, 0, 0, 0, 0, 0, 0, 0, 0, 0, 0, 0, 0, 0, 0, 0, 0, 0]
def G5 : (List Int) := [0, 1608, 3216, 4821, 6424, 8022, 9616, 11204, 12785, 14359, 15924, 17479, 19024, 20557, 22078, 23586, 25080, 26558, 28020, 29466, 30893, 32303, 33692, 35062, 36410, 37736, 39040, 40320, 41576, 42806, 44011, 45190, 46341, 47464, 48559, 49624, 50660, 51665, 52639, 53581, 54491, 55368, 56212, 57022, 57798, 58538, 59244, 59914, 60547, 61145, 61705, 62228, 62714, 63162, 63572, 63944, 64277, 64571, 64827, 65043, 65220, 65358, 65457, 65516, 65536]
instance : GlobTab := ⟨⟨[(0, ⟨(.arr 256 (.int .u8)), G0⟩), (5, ⟨(.arr 65 (.int .i64)), G5⟩)]⟩⟩
set_option maxRecDepth 20000 in
def lit0 : List UInt8 := [48, 48, 48, 48, 48, 48, 48, 48, 48, 48, 32, 48, 48, 48, 48, 53, 102, 48, 48, 48, 48, 32, 48, 48, 48, 55, 48, 48, 48, 55, 48, 48, 32, 49, 52, 55, 102, 49, 52, 55, 102, 49, 52, 32, 50, 52, 50, 97, 55, 102, 50, 97, 49, 50, 32, 50, 51, 49, 51, 48, 56, 54, 52, 54, 50, 32, 51, 54, 52, 57, 53, 54, 50, 48, 53, 48, 32, 48, 48, 48, 53, 48, 51, 48, 48, 48, 48, 32, 48, 48, 49, 99, 50, 50, 52, 49, 48, 48, 32, 48, 48, 52, 49, 50, 50, 49, 99, 48, 48, 32, 49, 52, 48, 56, 51, 101, 48, 56, 49, 52, 32, 48, 56, 48, 56, 51, 101, 48, 56, 48, 56, 32, 48, 48, 53, 48, 51, 48, 48, 48, 48, 48, 32, 48, 56, 48, 56, 48, 56, 48, 56, 48, 56, 32, 48, 48, 54, 48, 54, 48, 48, 48, 48, 48, 32, 50, 48, 49, 48, 48, 56, 48, 52, 48, 50, 32, 51, 101, 53, 49, 52, 57, 52, 53, 51, 101, 32, 48, 48, 52, 50, 55, 102, 52, 48, 48, 48, 32, 52, 50, 54, 49, 53, 49, 52, 57, 52, 54, 32, 50, 49, 52, 49, 52, 53, 52, 98, 51, 49, 32, 49, 56, 49, 52, 49, 50, 55, 102, 49, 48, 32, 50, 55, 52, 53, 52, 53, 52, 53, 51, 57, 32, 51, 99, 52, 97, 52, 57, 52, 57, 51, 48, 32, 48, 49, 55, 49, 48, 57, 48, 53, 48, 51, 32, 51, 54, 52, 57, 52, 57, 52, 57, 51, 54, 32, 48, 54, 52, 57, 52, 57, 50, 57, 49, 101, 32, 48, 48, 51, 54, 51, 54, 48, 48, 48, 48, 32, 48, 48, 53, 54, 51, 54, 48, 48, 48, 48, 32, 48, 56, 49, 52, 50, 50, 52, 49, 48, 48, 32, 49, 52, 49, 52, 49, 52, 49, 52, 49, 52, 32, 48, 48, 52, 49, 50, 50, 49, 52, 48, 56, 32, 48, 50, 48, 49, 53, 49, 48, 57, 48, 54, 32, 51, 50, 52, 57, 55, 57, 52, 49, 51, 101, 32, 55, 101, 49, 49, 49, 49, 49, 49, 55, 101, 32, 55, 102, 52, 57, 52, 57, 52, 57, 51, 54, 32, 51, 101, 52, 49, 52, 49, 52, 49, 50, 50, 32, 55, 102, 52, 49, 52, 49, 50, 50, 49, 99, 32, 55, 102, 52, 57, 52, 57, 52, 57, 52, 49, 32, 55, 102, 48, 57, 48, 57, 48, 57, 48, 49, 32, 51, 101, 52, 49, 52, 57, 52, 57, 55, 97, 32, 55, 102, 48, 56, 48, 56, 48, 56, 55, 102, 32, 48, 48, 52, 49, 55, 102, 52, 49, 48, 48, 32, 50, 48, 52, 48, 52, 49, 51, 102, 48, 49, 32, 55, 102, 48, 56, 49, 52, 50, 50, 52, 49, 32, 55, 102, 52, 48, 52, 48, 52, 48, 52, 48, 32, 55, 102, 48, 50, 48, 99, 48, 50, 55, 102, 32, 55, 102, 48, 52, 48, 56, 49, 48, 55, 102, 32, 51, 101, 52, 49, 52, 49, 52, 49, 51, 101, 32, 55, 102, 48, 57, 48, 57, 48, 57, 48, 54, 32, 51, 101, 52, 49, 53, 49, 50, 49, 53, 101, 32, 55, 102, 48, 57, 49, 57, 50, 57, 52, 54, 32, 52, 54, 52, 57, 52, 57, 52, 57, 51, 49, 32, 48, 49, 48, 49, 55, 102, 48, 49, 48, 49, 32, 51, 102, 52, 48, 52, 48, 52, 48, 51, 102, 32, 49, 102, 50, 48, 52, 48, 50, 48, 49, 102, 32, 51, 102, 52, 48, 51, 56, 52, 48, 51, 102, 32, 54, 51, 49, 52, 48, 56, 49, 52, 54, 51, 32, 48, 55, 48, 56, 55, 48, 48, 56, 48, 55, 32, 54, 49, 53, 49, 52, 57, 52, 53, 52, 51, 32, 48, 48, 55, 102, 52, 49, 52, 49, 48, 48, 32, 48, 50, 48, 52, 48, 56, 49, 48, 50, 48, 32, 48, 48, 52, 49, 52, 49, 55, 102, 48, 48, 32, 48, 52, 48, 50, 48, 49, 48, 50, 48, 52, 32, 52, 48, 52, 48, 52, 48, 52, 48, 52, 48, 32, 48, 48, 48, 49, 48, 50, 48, 52, 48, 48, 32, 50, 48, 53, 52, 53, 52, 53, 52, 55, 56, 32, 55, 102, 52, 56, 52, 52, 52, 52, 51, 56, 32, 51, 56, 52, 52, 52, 52, 52, 52, 50, 48, 32, 51, 56, 52, 52, 52, 52, 52, 56, 55, 102, 32, 51, 56, 53, 52, 53, 52, 53, 52, 49, 56, 32, 48, 56, 55, 101, 48, 57, 48, 49, 48, 50, 32, 48, 99, 53, 50, 53, 50, 53, 50, 51, 101, 32, 55, 102, 48, 56, 48, 52, 48, 52, 55, 56, 32, 48, 48, 52, 52, 55, 100, 52, 48, 48, 48, 32, 50, 48, 52, 48, 52, 52, 51, 100, 48, 48, 32, 55, 102, 49, 48, 50, 56, 52, 52, 48, 48, 32, 48, 48, 52, 49, 55, 102, 52, 48, 48, 48, 32, 55, 99, 48, 52, 49, 56, 48, 52, 55, 56, 32, 55, 99, 48, 56, 48, 52, 48, 52, 55, 56, 32, 51, 56, 52, 52, 52, 52, 52, 52, 51, 56, 32, 55, 99, 49, 52, 49, 52, 49, 52, 48, 56, 32, 48, 56, 49, 52, 49, 52, 49, 56, 55, 99, 32, 55, 99, 48, 56, 48, 52, 48, 52, 48, 56, 32, 52, 56, 53, 52, 53, 52, 53, 52, 50, 48, 32, 48, 52, 51, 102, 52, 52, 52, 48, 50, 48, 32, 51, 99, 52, 48, 52, 48, 50, 48, 55, 99, 32, 49, 99, 50, 48, 52, 48, 50, 48, 49, 99, 32, 51, 99, 52, 48, 51, 48, 52, 48, 51, 99, 32, 52, 52, 50, 56, 49, 48, 50, 56, 52, 52, 32, 48, 99, 53, 48, 53, 48, 53, 48, 51, 99, 32, 52, 52, 54, 52, 53, 52, 52, 99, 52, 52, 32, 48, 48, 48, 56, 51, 54, 52, 49, 48, 48, 32, 48, 48, 48, 48, 55, 102, 48, 48, 48, 48, 32, 48, 48, 52, 49, 51, 54, 48, 56, 48, 48, 32, 49, 48, 48, 56, 48, 56, 49, 48, 48, 56]
theorem x140_ok : ExtOk Tryz.prog 140 extIndexByte := indexByte_ok Tryz.func140 (by kernel_rfl) (by kernel_rfl) (by kernel_rfl) (by kernel_rfl)
theorem x144_ok : ExtOk Tryz.prog 144 extAdd64 := add64_ok Tryz.func144 (by kernel_rfl) (by kernel_rfl) (by kernel_rfl) (by kernel_rfl)
def tys : List (Nat × Ty) := [(3, (.int .i64)), (4, .bool), (5, (.int .u8)), (9, .str), (21, (.int .i32)), (22, (.sl (.int .i64))), (24, T23), (26, T25), (27, (.sl T30)), (29, T28), (31, T30), (32, (.sl T53)), (33, (.sl T58)), (34, (.sl T55)), (36, T35), (38, T37), (39, (.int .i64)), (48, T47), (54, T53), (56, T55), (57, (.arr 3 T55)), (59, T58), (63, (.sl .str)), (102, (.sl (.sl T55))), (105, (.sl .bool)), (111, (.sl T143)), (112, (.sl T148)), (114, T113), (118, (.sl T55)), (121, T55), (130, (.ptr T131)), (132, T131), (135, (.ptr T163)), (138, (.sl T55)), (142, T55), (144, T143), (149, T148), (154, (.sl T156)), (157, T156), (162, (.arr 256 (.int .i64))), (164, T163), (170, (.arr 256 (.int .u8))), (182, (.sl T55)), (184, T55), (185, (.int .u32)), (187, (.ptr T201)), (189, (.int .u64)), (216, (.arr 65 (.int .i64)))]
theorem tys_ok : tysOk Tryz.prog tys = true := by kernel_rfl
theorem mixed : Tryz.prog.follows .mixedOrders = true := by kernel_rfl
def f128t (p0 : (List UInt8)) (p1 : Int) : Prop × Int :=
 (True, (Lib.indexByte p0 (Int.toNat p1).toUInt8))
def f128_ok (p0 : (List UInt8)) (p1 : Int) : Prop := (f128t p0 p1).1
def f128 (p0 : (List UInt8)) (p1 : Int) : Int := (f128t p0 p1).2
instance (p0 : (List UInt8)) (p1 : Int) : Decidable (f128_ok p0 p1) := by
 unfold f128_ok f128t
 try dsimp only
 infer_instance
def f128_spec : Am.Spec := fnSpec [(0, vS), (1, (.val (.int .u8)))] vI [] (fun x => f128_ok x.1 x.2.1) (fun x => f128 x.1 x.2.1) (fun _ => ())
def f128_ctx : Ctx := { Cx tys [] [] [] false 8 [] [] with exts := [(140, extIndexByte)] }
theorem f128_cok : CtxOk Tryz.prog f128_ctx := ctxOk_mkE tys_ok rfl trivial ⟨x140_ok, trivial⟩ (by kernel_rfl)
theorem f128_is : SpecOk Tryz.prog 128 f128_spec := fgen f128_cok mixed Tryz.func128 (by kernel_rfl) (bs := []) (by kernel_rfl) trivial fun x => by kernel_rfl
def f147 (p0 p1 : List UInt8) : Int := Lib.indexByte p0 (p1.headD 0)
def f147_ok (_p0 p1 : List UInt8) : Prop := List.length p1 = 1
instance (p0 p1 : List UInt8) : Decidable (f147_ok p0 p1) := by
  unfold f147_ok
  infer_instance
def f147_ps : List (Nat × Sh) := [(0, (.val .str)), (1, (.val .str))]
def f147_rs : Sh := (.val (.int .i64))
def f147_os : List (Nat × Sh) := []
def f147_spec : Am.Spec := fnSpec f147_ps f147_rs f147_os (fun x => f147_ok x.1 x.2.1) (fun x => f147 x.1 x.2.1) (fun _ => ())
theorem f147_is : SpecOk Tryz.prog 147 f147_spec := spec_byte (F := f147) ⟨_, Tryz.func147, by kernel_rfl, by decide⟩ (fun s c w => Tryz.strings_Index_one s c w)
def f148 (_p0 : (List UInt8)) (_p1 : Int) : (List (List UInt8)) := ([] : List (List UInt8))
def f148_ok (_p0 : (List UInt8)) (_p1 : Int) : Prop := False
instance (_p0 : (List UInt8)) (_p1 : Int) : Decidable (f148_ok _p0 _p1) := by
  unfold f148_ok
  infer_instance
def f148_ps : List (Nat × Sh) := [(0, vS), (1, vI)]
def f148_rs : Sh := (.val (.sl .str))
def f148_os : List (Nat × Sh) := []
def f148_spec : Am.Spec := fnSpec f148_ps f148_rs f148_os (fun x => f148_ok x.1 x.2.1) (fun x => f148 x.1 x.2.1) (fun _ => ())
theorem f148_is : SpecOk Tryz.prog 148 f148_spec := func_never Tryz.func148 (by kernel_rfl) (by decide)
def f149 (p0 p1 : List UInt8) : Int := ((Lib.countByte p0 (p1.headD 0) : Nat) : Int)
def f149_ok (_p0 p1 : List UInt8) : Prop := List.length p1 = 1
instance (p0 p1 : List UInt8) : Decidable (f149_ok p0 p1) := by
  unfold f149_ok
  infer_instance
def f149_ps : List (Nat × Sh) := [(0, (.val .str)), (1, (.val .str))]
def f149_rs : Sh := (.val (.int .i64))
def f149_os : List (Nat × Sh) := []
def f149_spec : Am.Spec := fnSpec f149_ps f149_rs f149_os (fun x => f149_ok x.1 x.2.1) (fun x => f149 x.1 x.2.1) (fun _ => ())
theorem f149_is : SpecOk Tryz.prog 149 f149_spec := spec_byte (F := f149) ⟨_, Tryz.func149, by kernel_rfl, by decide⟩ (fun s c w => Tryz.strings_Count_one s c w)
abbrev f138_L11_Y : Type := ((List UInt8) × Int × Int × Unit)
abbrev f138_L11_X : Type := ((List UInt8) × (List (List UInt8)) × Int × Unit)
def f138_L11t (y : f138_L11_Y) (x : f138_L11_X) : Prop × Bool × f138_L11_X :=
 let a1 := y.1
 let a2 := y.2.1
 let a0 := x.1
 let a9 := x.2.1
 let a10 := x.2.2.1
 let v36 := (decide (a10 < y.2.2.1))
 let v39 := (f147 a0 a1)
 let v41 := (decide (v39 < 0))
 let v47 := (v39 + a2)
 let v53 := (len a1)
 let v54 := (v39 + v53)
 ((v36 = true → ((f147_ok a0 a1) ∧ ((!v41) = true → (InR (v39 + a2) ∧ ((0 ≤ v47 ∧ v47 ≤ len a0) ∧ (InB a10 (len a9) ∧ (a10 < len a9 ∧ (InR (v39 + v53) ∧ ((0 ≤ v54 ∧ v54 ≤ len a0) ∧ InR (a10 + 1)))))))))), (v36 && (!v41)), ((List.drop (Int.toNat v54) a0), (List.set a9 (Int.toNat a10) (List.take (Int.toNat v47) a0)), (a10 + 1), ()))
def f138_L11_ok (y : f138_L11_Y) (x : f138_L11_X) : Prop := (f138_L11t y x).1
def f138_L11_g (y : f138_L11_Y) (x : f138_L11_X) : Bool := (f138_L11t y x).2.1
def f138_L11_next (y : f138_L11_Y) (x : f138_L11_X) : f138_L11_X := (f138_L11t y x).2.2
instance (y : f138_L11_Y) (x : f138_L11_X) : Decidable (f138_L11_ok y x) := by
 unfold f138_L11_ok f138_L11t
 try dsimp only
 infer_instance
def f138_L11_x2_0 (y : f138_L11_Y) (x : f138_L11_X) : (List UInt8) :=
 x.1
def f138_L11_x2_1 (y : f138_L11_Y) (x : f138_L11_X) : (List (List UInt8)) :=
 x.2.1
def f138_L11_x2_2 (y : f138_L11_Y) (x : f138_L11_X) : Int :=
 x.2.2.1
def f138_L11_l2 : List (Nat × Sh) := [(0, vS), (9, (.own .str 1009 true)), (10, vI)]
def f138_L11_spec : St → Option Out := loopS [(1, vS), (2, vI), (3, vI)] [(0, vS), (9, (.own .str 1009 true)), (10, vI)] f138_L11_g f138_L11_next f138_L11_ok fun y x => [ex 2 none f138_L11_l2 ((f138_L11_x2_0 y x), (f138_L11_x2_1 y x), (f138_L11_x2_2 y x), ())]
def f138t (p0 : (List UInt8)) (p1 : (List UInt8)) (p2 : Int) (p3 : Int) : Prop × (List (List UInt8)) :=
 let v13 := (p3 == 0)
 let v15 := (p1 == ([] : List UInt8))
 let v20 := (decide (p3 < 0))
 let v23 := (f149 p0 p1)
 let v27 := (len p0)
 let v29 := (imin (bif v20 then (v23 + 1) else p3) (v27 + 1))
 let y11 := (p1, p2, (v29 - 1), ())
 let x11 := (p0, (List.replicate (Int.toNat v29) ([] : List UInt8)), (0 : Int), ())
 let e11 := (loopEnd (f138_L11_g y11) (f138_L11_next y11) x11)
 let r11_2_1 := (f138_L11_x2_1 y11 e11)
 let r11_2_2 := (f138_L11_x2_2 y11 e11)
 let l1009 := (List.set r11_2_1 (Int.toNat r11_2_2) (f138_L11_x2_0 y11 e11))
 let v64 := (r11_2_2 + 1)
 (((!v13) = true → ((v15 = true → (f148_ok p0 p3)) ∧ ((!v15) = true → ((v20 = true → ((f149_ok p0 p1) ∧ InR (v23 + 1))) ∧ (InR (v27 + 1) ∧ ((0 ≤ v29 ∧ v29 ≤ v29 ∧ v29 ≤ 4294967296) ∧ (InR (v29 - 1) ∧ ((Am.Ends (f138_L11_g y11) (f138_L11_next y11) (f138_L11_ok y11) x11) ∧ (InB r11_2_2 (len r11_2_1) ∧ (r11_2_2 < len r11_2_1 ∧ (InR (r11_2_2 + 1) ∧ (0 ≤ v64 ∧ v64 ≤ len l1009)))))))))))), (bif v13 then [] else (bif v15 then (f148 p0 p3) else (List.take (Int.toNat v64) l1009))))
def f138_ok (p0 : (List UInt8)) (p1 : (List UInt8)) (p2 : Int) (p3 : Int) : Prop := (f138t p0 p1 p2 p3).1
def f138 (p0 : (List UInt8)) (p1 : (List UInt8)) (p2 : Int) (p3 : Int) : (List (List UInt8)) := (f138t p0 p1 p2 p3).2
instance (p0 : (List UInt8)) (p1 : (List UInt8)) (p2 : Int) (p3 : Int) : Decidable (f138_ok p0 p1 p2 p3) := by
 unfold f138_ok f138t
 try dsimp only
 infer_instance
def f138_spec : Am.Spec := fnSpec [(0, vS), (1, vS), (2, vI), (3, vI)] (.val (.sl .str)) [] (fun x => f138_ok x.1 x.2.1 x.2.2.1 x.2.2.2.1) (fun x => f138 x.1 x.2.1 x.2.2.1 x.2.2.2.1) (fun _ => ())
def f138_ctx : Ctx := Cx tys [(147, f147_spec), (148, f148_spec), (149, f149_spec)] [(11, f138_L11_spec)] [(17, [(4, 0, 31, 1009)]), (36, [(1, 9, 0, 0)])] false 66 [] [31]
theorem f138_cok : CtxOk Tryz.prog f138_ctx := ctxOk_mk tys_ok rfl ⟨f147_is, f148_is, f149_is, trivial⟩ rfl (by kernel_rfl)
noncomputable def f138_code : Code := Tryz.f138.body.getD .skip
noncomputable def f138_L11 : Code := nthLoop f138_code 0
theorem f138_L11_is : LoopSnd Tryz.prog f138_ctx f138_L11 := lgen f138_cok mixed (sp := f138_L11_spec) rfl [f138_L11_l2] (bs := []) (by kernel_rfl) trivial (by kernel_rfl) (by kernel_rfl) fun y x => by kernel_rfl
theorem f138_is : SpecOk Tryz.prog 138 f138_spec := fgen f138_cok mixed Tryz.func138 (by kernel_rfl) (bs := [f138_L11]) (by kernel_rfl) ⟨f138_L11_is, trivial⟩ fun x => by kernel_rfl
def f123t (p0 : (List UInt8)) (p1 : (List UInt8)) : Prop × (List (List UInt8)) :=
 ((f138_ok p0 p1 (0 : Int) (-1 : Int)), (f138 p0 p1 (0 : Int) (-1 : Int)))
def f123_ok (p0 : (List UInt8)) (p1 : (List UInt8)) : Prop := (f123t p0 p1).1
def f123 (p0 : (List UInt8)) (p1 : (List UInt8)) : (List (List UInt8)) := (f123t p0 p1).2
instance (p0 : (List UInt8)) (p1 : (List UInt8)) : Decidable (f123_ok p0 p1) := by
 unfold f123_ok f123t
 try dsimp only
 infer_instance
def f123_spec : Am.Spec := fnSpec [(0, vS), (1, vS)] (.val (.sl .str)) [] (fun x => f123_ok x.1 x.2.1) (fun x => f123 x.1 x.2.1) (fun _ => ())
def f123_ctx : Ctx := Cx tys [(138, f138_spec)] [] [] false 8 [] []
theorem f123_cok : CtxOk Tryz.prog f123_ctx := ctxOk_mk tys_ok rfl ⟨f138_is, trivial⟩ rfl (by kernel_rfl)
theorem f123_is : SpecOk Tryz.prog 123 f123_spec := fgen f123_cok mixed Tryz.func123 (by kernel_rfl) (bs := []) (by kernel_rfl) trivial fun x => by kernel_rfl
def f72t (p0 : Int) (p1 : Int) : Prop × Int :=
 let v7 := (p1 == 0)
 let v13 := (bif (p0 == (-9223372036854775808)) then (p1 == (-1)) else false)
 let v16 := (IntKind.wrap .i64 (Int.tdiv p0 p1))
 let m4_1 := (bif v7 then (0 : Int) else (bif v13 then (9223372036854775807 : Int) else (bif (bif ((Int.tmod p0 p1) != 0) then (!(Ty.eqb .bool (decide (p0 < 0)) (decide (p1 < 0)))) else false) then (IntKind.wrap .i64 (v16 - 1)) else v16)))
 (((!v7) = true → ((!v13) = true → (p1 ≠ 0 ∧ p1 ≠ 0))), m4_1)
def f72_ok (p0 : Int) (p1 : Int) : Prop := (f72t p0 p1).1
def f72 (p0 : Int) (p1 : Int) : Int := (f72t p0 p1).2
instance (p0 : Int) (p1 : Int) : Decidable (f72_ok p0 p1) := by
 unfold f72_ok f72t
 try dsimp only
 infer_instance
def f72_spec : Am.Spec := fnSpec [(0, vI), (1, vI)] vI [] (fun x => f72_ok x.1 x.2.1) (fun x => f72 x.1 x.2.1) (fun _ => ())
def f72_ctx : Ctx := Cx tys [] [] [] true 31 [] []
theorem f72_cok : CtxOk Tryz.prog f72_ctx := ctxOk_mk tys_ok rfl trivial rfl (by kernel_rfl)
theorem f72_is : SpecOk Tryz.prog 72 f72_spec := fgen f72_cok mixed Tryz.func72 (by kernel_rfl) (bs := []) (by kernel_rfl) trivial fun x => by kernel_rfl
def f52t (p0 : Int) (p1 : Int) : Prop × Int :=
 let v8 := (p1 == 0)
 let v14 := (bif (p0 == (-9223372036854775808)) then (p1 == (-1)) else false)
 let v17 := (f72 p0 p1)
 let v22 := (IntKind.wrap .i64 (p0 - (IntKind.wrap .i64 (p1 * v17))))
 let m5 := (bif (bif (bif (decide (p1 > 0)) then (decide (v22 ≥ (IntKind.wrap .i64 (p1 - v22)))) else false) then true else (bif (decide (p1 < 0)) then (decide (v22 ≤ (IntKind.wrap .i64 (p1 - v22)))) else false)) then (IntKind.wrap .i64 (v17 + 1)) else v17)
 (((!v8) = true → ((!v14) = true → (f72_ok p0 p1))), (bif v8 then (0 : Int) else (bif v14 then (9223372036854775807 : Int) else m5)))
def f52_ok (p0 : Int) (p1 : Int) : Prop := (f52t p0 p1).1
def f52 (p0 : Int) (p1 : Int) : Int := (f52t p0 p1).2
instance (p0 : Int) (p1 : Int) : Decidable (f52_ok p0 p1) := by
 unfold f52_ok f52t
 try dsimp only
 infer_instance
def f52_spec : Am.Spec := fnSpec [(0, vI), (1, vI)] vI [] (fun x => f52_ok x.1 x.2.1) (fun x => f52 x.1 x.2.1) (fun _ => ())
def f52_ctx : Ctx := Cx tys [(72, f72_spec)] [] [] true 46 [] []
theorem f52_cok : CtxOk Tryz.prog f52_ctx := ctxOk_mk tys_ok rfl ⟨f72_is, trivial⟩ rfl (by kernel_rfl)
theorem f52_is : SpecOk Tryz.prog 52 f52_spec := fgen f52_cok mixed Tryz.func52 (by kernel_rfl) (bs := []) (by kernel_rfl) trivial fun x => by kernel_rfl
abbrev f125_L3_Y : Type := (Int × Int × (List D148) × Int × Unit)
abbrev f125_L3_X : Type := (Int × Unit)
def f125_L3t (y : f125_L3_Y) (x : f125_L3_X) : Prop × Bool × f125_L3_X × Bool × Bool :=
 let a33 := y.2.2.1
 let a35 := x.1
 let v36 := (decide (a35 < y.2.2.2.1))
 let v37 := (nth a33 a35 Z148)
 let v48 := (bif (v37.1 == y.1) then (v37.2.1 == y.2.1) else false)
 ((v36 = true → InB a35 (len a33)), (v36 && (!v48)), ((IntKind.wrap .i64 (a35 + 1)), ()), (v36 && v48), (!v36))
def f125_L3_ok (y : f125_L3_Y) (x : f125_L3_X) : Prop := (f125_L3t y x).1
def f125_L3_g (y : f125_L3_Y) (x : f125_L3_X) : Bool := (f125_L3t y x).2.1
def f125_L3_next (y : f125_L3_Y) (x : f125_L3_X) : f125_L3_X := (f125_L3t y x).2.2.1
def f125_L3_e1 (y : f125_L3_Y) (x : f125_L3_X) : Bool := (f125_L3t y x).2.2.2.1
def f125_L3_e2 (y : f125_L3_Y) (x : f125_L3_X) : Bool := (f125_L3t y x).2.2.2.2
instance (y : f125_L3_Y) (x : f125_L3_X) : Decidable (f125_L3_ok y x) := by
 unfold f125_L3_ok f125_L3t
 try dsimp only
 infer_instance
def f125_L3_x1_0 (y : f125_L3_Y) (x : f125_L3_X) : Int :=
 (nth y.2.2.1 x.1 Z148).2.2.1
def f125_L3_spec : St → Option Out := loopS [(7, (.val (.int .u8))), (8, (.val (.int .u8))), (33, (.val (.sl T148))), (34, vI)] [(35, vI)] f125_L3_g f125_L3_next f125_L3_ok fun y x => [ex 1 (some (f125_L3_e1 y x)) [(6, vI)] ((f125_L3_x1_0 y x), ()), ex 2 (some (f125_L3_e2 y x)) [] ()]
def f125t (p0 : D163) (p1 : Int) (p2 : Int) : Prop × Int :=
 let y3 := ((nth p0.1.2.2.2.1 p1 Z143).1, (nth p0.1.2.2.2.1 p2 Z143).1, p0.1.2.2.2.2.1, (len p0.1.2.2.2.2.1), ())
 let x3 := ((0 : Int), ())
 let e3 := (loopEnd (f125_L3_g y3) (f125_L3_next y3) x3)
 ((InB p1 (len p0.1.2.2.2.1) ∧ (InB p2 (len p0.1.2.2.2.1) ∧ (Am.Ends (f125_L3_g y3) (f125_L3_next y3) (f125_L3_ok y3) x3))), (bif (f125_L3_e1 y3 e3) then (f125_L3_x1_0 y3 e3) else (0 : Int)))
def f125_ok (p0 : D163) (p1 : Int) (p2 : Int) : Prop := (f125t p0 p1 p2).1
def f125 (p0 : D163) (p1 : Int) (p2 : Int) : Int := (f125t p0 p1 p2).2
instance (p0 : D163) (p1 : Int) (p2 : Int) : Decidable (f125_ok p0 p1 p2) := by
 unfold f125_ok f125t
 try dsimp only
 infer_instance
def f125_spec : Am.Spec := fnSpec [(0, (.val (.ptr T163))), (1, vI), (2, vI)] vI [] (fun x => f125_ok x.1 x.2.1 x.2.2.1) (fun x => f125 x.1 x.2.1 x.2.2.1) (fun _ => ())
def f125_ctx : Ctx := Cx tys [] [(3, f125_L3_spec)] [] true 52 [] []
theorem f125_cok : CtxOk Tryz.prog f125_ctx := ctxOk_mk tys_ok rfl trivial rfl (by kernel_rfl)
noncomputable def f125_code : Code := Tryz.f125.body.getD .skip
noncomputable def f125_L3 : Code := nthLoop f125_code 0
theorem f125_L3_is : LoopSnd Tryz.prog f125_ctx f125_L3 := lgen f125_cok mixed (sp := f125_L3_spec) rfl [[(6, vI)], []] (bs := []) (by kernel_rfl) trivial (by kernel_rfl) (by kernel_rfl) fun y x => by kernel_rfl
theorem f125_is : SpecOk Tryz.prog 125 f125_spec := fgen f125_cok mixed Tryz.func125 (by kernel_rfl) (bs := [f125_L3]) (by kernel_rfl) ⟨f125_L3_is, trivial⟩ fun x => by kernel_rfl
abbrev f104_L4_Y : Type := (D163 × (List UInt8) × Int × Unit)
abbrev f104_L4_X : Type := ((List D55) × Int × Int × Unit)
def f104_L4t (y : f104_L4_Y) (x : f104_L4_X) : Prop × Bool × f104_L4_X :=
 let a0 := y.1
 let a1 := y.2.1
 let a6 := x.1
 let a7 := x.2.1
 let a12 := x.2.2.1
 let v13 := (decide (a12 < y.2.2.1))
 let v18 := (byteAt a1 a12)
 let v21 := (nth a0.2.1 v18 (0 : Int))
 let v24 := (decide (v21 < 0))
 let v27 := (decide ((len a6) > 0))
 let v33 := (IntKind.wrap .i64 ((len a6) - 1))
 let v34 := (nth a6 v33 Z55)
 let m7 := (bif v27 then (IntKind.wrap .i64 (a7 + (f125 a0 v34.1 v21))) else a7)
 let v44 := ([(v21, m7, ())] : List D55)
 ((v13 = true → (InB a12 (len a1) ∧ (InB v18 256 ∧ ((!v24) = true → ((v27 = true → (InB v33 (len a6) ∧ (f125_ok a0 v34.1 v21))) ∧ (((List.length a6 + List.length v44 : Nat) : Int) ≤ 4294967296 ∧ InB v21 (len a0.1.2.2.2.1))))))), (v13 && (v24 || (!v24))), ((bif v24 then a6 else (a6 ++ v44)), (bif v24 then a7 else (IntKind.wrap .i64 (m7 + (nth a0.1.2.2.2.1 v21 Z143).2.1))), (IntKind.wrap .i64 (a12 + 1)), ()))
def f104_L4_ok (y : f104_L4_Y) (x : f104_L4_X) : Prop := (f104_L4t y x).1
def f104_L4_g (y : f104_L4_Y) (x : f104_L4_X) : Bool := (f104_L4t y x).2.1
def f104_L4_next (y : f104_L4_Y) (x : f104_L4_X) : f104_L4_X := (f104_L4t y x).2.2
instance (y : f104_L4_Y) (x : f104_L4_X) : Decidable (f104_L4_ok y x) := by
 unfold f104_L4_ok f104_L4t
 try dsimp only
 infer_instance
def f104_L4_x2_0 (y : f104_L4_Y) (x : f104_L4_X) : (List D55) :=
 x.1
def f104_L4_x2_1 (y : f104_L4_Y) (x : f104_L4_X) : Int :=
 x.2.1
def f104_L4_l2 : List (Nat × Sh) := [(6, (.own T55 1006 false)), (7, vI)]
def f104_L4_spec : St → Option Out := loopS [(0, (.val (.ptr T163))), (1, vS), (11, vI)] [(6, (.own T55 1006 false)), (7, vI), (12, vI)] f104_L4_g f104_L4_next f104_L4_ok fun y x => [ex 2 none f104_L4_l2 ((f104_L4_x2_0 y x), (f104_L4_x2_1 y x), ())]
def f104t (p0 : D163) (p1 : (List UInt8)) : Prop × ((List D55) × Int × Unit) :=
 let y4 := (p0, p1, (len p1), ())
 let x4 := (([] : List D55), (0 : Int), (0 : Int), ())
 let e4 := (loopEnd (f104_L4_g y4) (f104_L4_next y4) x4)
 ((Am.Ends (f104_L4_g y4) (f104_L4_next y4) (f104_L4_ok y4) x4), ((f104_L4_x2_0 y4 e4), (f104_L4_x2_1 y4 e4), ()))
def f104_ok (p0 : D163) (p1 : (List UInt8)) : Prop := (f104t p0 p1).1
def f104 (p0 : D163) (p1 : (List UInt8)) : ((List D55) × Int × Unit) := (f104t p0 p1).2
instance (p0 : D163) (p1 : (List UInt8)) : Decidable (f104_ok p0 p1) := by
 unfold f104_ok f104t
 try dsimp only
 infer_instance
def f104_spec : Am.Spec := fnSpec [(0, (.val (.ptr T163))), (1, vS)] (.tup (.cons (.own T55 0 false) (.cons vI .nl))) [] (fun x => f104_ok x.1 x.2.1) (fun x => f104 x.1 x.2.1) (fun _ => ())
def f104_ctx : Ctx := Cx tys [(125, f125_spec)] [(4, f104_L4_spec)] [(21, [(4, 0, 45, 1006)]), (27, [(4, 0, 1006, 0)])] true 60 [] []
theorem f104_cok : CtxOk Tryz.prog f104_ctx := ctxOk_mk tys_ok rfl ⟨f125_is, trivial⟩ rfl (by kernel_rfl)
noncomputable def f104_code : Code := Tryz.f104.body.getD .skip
noncomputable def f104_L4 : Code := nthLoop f104_code 0
theorem f104_L4_is : LoopSnd Tryz.prog f104_ctx f104_L4 := lgen f104_cok mixed (sp := f104_L4_spec) rfl [f104_L4_l2] (bs := []) (by kernel_rfl) trivial (by kernel_rfl) (by kernel_rfl) fun y x => by kernel_rfl
theorem f104_is : SpecOk Tryz.prog 104 f104_spec := fgen f104_cok mixed Tryz.func104 (by kernel_rfl) (bs := [f104_L4]) (by kernel_rfl) ⟨f104_L4_is, trivial⟩ fun x => by kernel_rfl
def f124t (p0 : D163) (p1 : (List UInt8)) (p2 : Int) : Prop × Int :=
 let v17 := (IntKind.wrap .i64 (p2 * (f104 p0 p1).2.1))
 (((f104_ok p0 p1) ∧ (f52_ok v17 p0.1.1)), (f52 v17 p0.1.1))
def f124_ok (p0 : D163) (p1 : (List UInt8)) (p2 : Int) : Prop := (f124t p0 p1 p2).1
def f124 (p0 : D163) (p1 : (List UInt8)) (p2 : Int) : Int := (f124t p0 p1 p2).2
instance (p0 : D163) (p1 : (List UInt8)) (p2 : Int) : Decidable (f124_ok p0 p1 p2) := by
 unfold f124_ok f124t
 try dsimp only
 infer_instance
def f124_spec : Am.Spec := fnSpec [(0, (.val (.ptr T163))), (1, vS), (2, vI)] vI [] (fun x => f124_ok x.1 x.2.1 x.2.2.1) (fun x => f124 x.1 x.2.1 x.2.2.1) (fun _ => ())
def f124_ctx : Ctx := Cx tys [(52, f52_spec), (104, f104_spec)] [] [(3, [(4, 0, 12, 1007)])] true 24 [] []
theorem f124_cok : CtxOk Tryz.prog f124_ctx := ctxOk_mk tys_ok rfl ⟨f52_is, f104_is, trivial⟩ rfl (by kernel_rfl)
theorem f124_is : SpecOk Tryz.prog 124 f124_spec := fgen f124_cok mixed Tryz.func124 (by kernel_rfl) (bs := []) (by kernel_rfl) trivial fun x => by kernel_rfl
abbrev f103r_L7_Y : Type := (D163 × Int × Int × (List (List UInt8)) × Int × Unit)
abbrev f103r_L7_X : Type := ((List (List UInt8)) × (List UInt8) × Int × Unit)
def f103r_L7t (y : f103r_L7_Y) (x : f103r_L7_X) : Prop × Bool × f103r_L7_X :=
 let a4 := y.1
 let a6 := y.2.1
 let a7 := y.2.2.1
 let a25 := y.2.2.2.1
 let a9 := x.1
 let a12 := x.2.1
 let a27 := x.2.2.1
 let v28 := (decide (a27 < y.2.2.2.2.1))
 let v29 := (nth a25 a27 ([] : List UInt8))
 let v32 := (a12 ++ ([32] : List UInt8))
 let v34 := (v32 ++ v29)
 let v36 := (a7 == 0)
 let v44 := (bif v36 then true else (decide ((f124 a4 v34 a6) ≤ a7)))
 let v48 := ([a12] : List (List UInt8))
 ((v28 = true → (InB a27 (len a25) ∧ (((List.length a12 + List.length ([32] : List UInt8) : Nat) : Int) ≤ 9223372036854775807 ∧ (((List.length v32 + List.length v29 : Nat) : Int) ≤ 9223372036854775807 ∧ (((!v36) = true → (f124_ok a4 v34 a6)) ∧ ((v44 = false → ((List.length a9 + List.length v48 : Nat) : Int) ≤ 4294967296) ∧ InR (a27 + 1))))))), v28, ((bif v44 then a9 else (a9 ++ v48)), (bif v44 then v34 else v29), (a27 + 1), ()))
def f103r_L7_ok (y : f103r_L7_Y) (x : f103r_L7_X) : Prop := (f103r_L7t y x).1
def f103r_L7_g (y : f103r_L7_Y) (x : f103r_L7_X) : Bool := (f103r_L7t y x).2.1
def f103r_L7_next (y : f103r_L7_Y) (x : f103r_L7_X) : f103r_L7_X := (f103r_L7t y x).2.2
instance (y : f103r_L7_Y) (x : f103r_L7_X) : Decidable (f103r_L7_ok y x) := by
 unfold f103r_L7_ok f103r_L7t
 try dsimp only
 infer_instance
def f103r_L7_x4_0 (y : f103r_L7_Y) (x : f103r_L7_X) : (List (List UInt8)) :=
 x.1
def f103r_L7_x4_1 (y : f103r_L7_Y) (x : f103r_L7_X) : (List UInt8) :=
 x.2.1
def f103r_L7_l4 : List (Nat × Sh) := [(4, (.box (.ptr T163) (.val (.ptr T163)))), (6, (.box (.int .i64) vI)), (7, (.box (.int .i64) vI)), (9, (.box (.sl .str) (.own .str 400900 false))), (12, vS)]
def f103r_L7_spec : St → Option Out := loopS [(4, (.box (.ptr T163) (.val (.ptr T163)))), (6, (.box (.int .i64) vI)), (7, (.box (.int .i64) vI)), (25, (.val (.sl .str))), (26, vI)] [(9, (.box (.sl .str) (.own .str 400900 false))), (12, vS), (27, vI)] f103r_L7_g f103r_L7_next f103r_L7_ok fun y x => [ex 4 none f103r_L7_l4 (y.1, y.2.1, y.2.2.1, (f103r_L7_x4_0 y x), (f103r_L7_x4_1 y x), ())]
def f103rt (p0 : D163) (p1 : Int) (p2 : Int) (p3 : (List (List UInt8))) (p4 : (List UInt8)) : Prop × (Unit) × (D163 × Int × Int × (List (List UInt8)) × Unit) :=
 let v20 := (f123 p4 ([32] : List UInt8))
 let v25 := (List.drop (Int.toNat (1 : Int)) v20)
 let y7 := (p0, p1, p2, v25, (len v25), ())
 let x7 := (p3, (nth v20 (0 : Int) ([] : List UInt8)), (0 : Int), ())
 let e7 := (loopEnd (f103r_L7_g y7) (f103r_L7_next y7) x7)
 let r7_4_0 := (f103r_L7_x4_0 y7 e7)
 let v54 := ([(f103r_L7_x4_1 y7 e7)] : List (List UInt8))
 (((f123_ok p4 ([32] : List UInt8)) ∧ (InB (0 : Int) (len v20) ∧ ((0 ≤ (1 : Int) ∧ (1 : Int) ≤ len v20) ∧ ((Am.Ends (f103r_L7_g y7) (f103r_L7_next y7) (f103r_L7_ok y7) x7) ∧ ((List.length r7_4_0 + List.length v54 : Nat) : Int) ≤ 4294967296)))), (), (p0, p1, p2, (r7_4_0 ++ v54), ()))
def f103r_ok (p0 : D163) (p1 : Int) (p2 : Int) (p3 : (List (List UInt8))) (p4 : (List UInt8)) : Prop := (f103rt p0 p1 p2 p3 p4).1
def f103r (p0 : D163) (p1 : Int) (p2 : Int) (p3 : (List (List UInt8))) (p4 : (List UInt8)) : (Unit) := (f103rt p0 p1 p2 p3 p4).2.1
def f103r_o (p0 : D163) (p1 : Int) (p2 : Int) (p3 : (List (List UInt8))) (p4 : (List UInt8)) : (D163 × Int × Int × (List (List UInt8)) × Unit) := (f103rt p0 p1 p2 p3 p4).2.2
instance (p0 : D163) (p1 : Int) (p2 : Int) (p3 : (List (List UInt8))) (p4 : (List UInt8)) : Decidable (f103r_ok p0 p1 p2 p3 p4) := by
 unfold f103r_ok f103rt
 try dsimp only
 infer_instance
def f103r_ps : List (Nat × Sh) := [(4, (.box (.ptr T163) (.val (.ptr T163)))), (6, (.box (.int .i64) vI)), (7, (.box (.int .i64) vI)), (9, (.box (.sl .str) (.own .str 400900 false))), (10, vS)]
def f103r_rs : Sh := (.tup .nl)
def f103r_os : List (Nat × Sh) := [(4, (.box (.ptr T163) (.val (.ptr T163)))), (6, (.box (.int .i64) vI)), (7, (.box (.int .i64) vI)), (9, (.box (.sl .str) (.own .str 400900 false)))]
def f103r_ctx : Ctx := Cx tys [(123, f123_spec), (124, f124_spec)] [(7, f103r_L7_spec)] [(25, [(4, 0, 49, 400900)]), (31, [(4, 0, 55, 400900)])] false 57 [4, 6, 7, 9] []
theorem f103r_cok : CtxOk Tryz.prog f103r_ctx := ctxOk_mk tys_ok rfl ⟨f123_is, f124_is, trivial⟩ rfl (by kernel_rfl)
noncomputable def f103r_code : Code := (rfBody (Tryz.f103.body.getD .skip)).getD .skip
noncomputable def f103r_L7 : Code := nthLoop f103r_code 0
theorem f103r_L7_is : LoopSnd Tryz.prog f103r_ctx f103r_L7 := lgen f103r_cok mixed (sp := f103r_L7_spec) rfl [f103r_L7_l4] (bs := []) (by kernel_rfl) trivial (by kernel_rfl) (by kernel_rfl) fun y x => by kernel_rfl
theorem f103r_on : ∀ x, onlyOn f103r_ctx f103r_code (startSt f103r_ps x) = true := fun x => by kernel_rfl
theorem f103r_sum : ∀ x, sumFn f103r_ctx f103r_code [] f103r_ps f103r_rs f103r_os x = some (f103r_ok x.1 x.2.1 x.2.2.1 x.2.2.2.1 x.2.2.2.2.1, (), f103r_o x.1 x.2.1 x.2.2.1 x.2.2.2.1 x.2.2.2.2.1) := fun x => by kernel_rfl
theorem f103r_is : PieceOk Tryz.prog f103r_ctx f103r_code f103r_ps f103r_os (fun x => f103r_ok x.1 x.2.1 x.2.2.1 x.2.2.2.1 x.2.2.2.2.1) (fun x => f103r_o x.1 x.2.1 x.2.2.1 x.2.2.2.1 x.2.2.2.2.1) := piece_gen (rs := f103r_rs) (F := fun _ => ()) f103r_cok mixed (bs := [f103r_L7]) (by kernel_rfl) ⟨f103r_L7_is, trivial⟩ (by kernel_rfl) f103r_on f103r_sum
end Go.Proofs.YthjoefjcljbapaaGreatDoor.Am
