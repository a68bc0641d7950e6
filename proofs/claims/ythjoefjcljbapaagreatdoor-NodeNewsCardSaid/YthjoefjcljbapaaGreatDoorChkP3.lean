/- Printed by program, part 3. No condition. -/
import Derived.Test.YthjoefjcljbapaaGreatDoorChkP2
set_option linter.unusedVariables false
set_option synthInstance.maxSize 4000
set_option synthInstance.maxHeartbeats 400000
namespace Go.Proofs.YthjoefjcljbapaaGreatDoor.Am
open Go Go.Am Go.Proofs

-- imageeditor/font.Outline
abbrev f82_L25_Y : Type := (Int × D113 × D163 × (List (List D55)) × Int × Int × D55 × (List (List UInt8)) × Int × Int × (List D55) × Int × Int × (List (List D55)) × Int × Int × (List D55) × Int × Unit)
abbrev f82_L25_X : Type := ((List D55) × Int × Unit)
def f82_L25t (y : f82_L25_Y) (x : f82_L25_X) : Prop × Bool × f82_L25_X :=
 let a2 := y.1 
 let a4 := y.2.1 
 let a89 := y.2.2.2.2.2.2.2.2.2.2.2.2.2.2.2.2.1 
 let a24 := x.1 
 let a91 := x.2.1 
 let v92 := (decide (a91 < y.2.2.2.2.2.2.2.2.2.2.2.2.2.2.2.2.2.1))
 let v94 := (nth a89 a91 Z55)
 let v104 := (IntKind.wrap .i64 ((IntKind.wrap .i64 (y.2.2.2.2.2.2.1.2.1 + v94.1)) * a2))
 let v119 := (IntKind.wrap .i64 ((IntKind.wrap .i64 ((IntKind.wrap .i64 (a4.2.1 + (IntKind.wrap .i64 (y.2.2.2.2.2.1 * a4.2.2.1)))) - v94.2.1)) * a2))
 ((v92 = true → (InB a91 (len a89) ∧ ((f52_ok v104 a4.1) ∧ ((f52_ok v119 a4.1) ∧ (InB a91 (len a24) ∧ a91 < len a24))))), v92, ((List.set a24 (Int.toNat a91) ((f52 v104 a4.1), (f52 v119 a4.1), ())), (IntKind.wrap .i64 (a91 + 1)), ()))
def f82_L25_ok (y : f82_L25_Y) (x : f82_L25_X) : Prop := (f82_L25t y x).1
def f82_L25_g (y : f82_L25_Y) (x : f82_L25_X) : Bool := (f82_L25t y x).2.1
def f82_L25_next (y : f82_L25_Y) (x : f82_L25_X) : f82_L25_X := (f82_L25t y x).2.2
instance (y : f82_L25_Y) (x : f82_L25_X) : Decidable (f82_L25_ok y x) := by
 unfold f82_L25_ok f82_L25t
 try dsimp only
 infer_instance
def f82_L25_x8_0 (y : f82_L25_Y) (x : f82_L25_X) : (List D55) :=
 x.1
def f82_L25_l8 : List (Nat × Sh) := [(2, vI), (4, (.box T113 (.val T113))), (11, (.val (.ptr T163))), (12, (.own (.sl T55) 1012 false)), (13, vI), (14, vI), (19, (.box T55 (.val T55))), (24, (.own T55 1024 true)), (41, (.val (.sl .str))), (42, vI), (43, vI), (54, (.own T55 1016 false)), (55, vI), (56, vI), (74, (.own (.sl T55) 1020 false)), (75, vI), (76, vI)]
def f82_L25_spec : St → Option Out := loopS [(2, vI), (4, (.box T113 (.val T113))), (11, (.val (.ptr T163))), (12, (.own (.sl T55) 1012 false)), (13, vI), (14, vI), (19, (.box T55 (.val T55))), (41, (.val (.sl .str))), (42, vI), (43, vI), (54, (.own T55 1016 false)), (55, vI), (56, vI), (74, (.own (.sl T55) 1020 false)), (75, vI), (76, vI), (89, (.val (.sl T55))), (90, vI)] [(24, (.own T55 1024 true)), (91, vI)] f82_L25_g f82_L25_next f82_L25_ok fun y x => [ex 8 none f82_L25_l8 (y.1, y.2.1, y.2.2.1, y.2.2.2.1, y.2.2.2.2.1, y.2.2.2.2.2.1, y.2.2.2.2.2.2.1, (f82_L25_x8_0 y x), y.2.2.2.2.2.2.2.1, y.2.2.2.2.2.2.2.2.1, y.2.2.2.2.2.2.2.2.2.1, y.2.2.2.2.2.2.2.2.2.2.1, y.2.2.2.2.2.2.2.2.2.2.2.1, y.2.2.2.2.2.2.2.2.2.2.2.2.1, y.2.2.2.2.2.2.2.2.2.2.2.2.2.1, y.2.2.2.2.2.2.2.2.2.2.2.2.2.2.1, y.2.2.2.2.2.2.2.2.2.2.2.2.2.2.2.1, ())]
abbrev f82_L18_Y : Type := (Int × D113 × D163 × Int × D55 × (List (List UInt8)) × Int × Int × (List D55) × Int × Int × (List (List D55)) × Int × Unit)
abbrev f82_L18_X : Type := ((List (List D55)) × Int × Int × Unit)
def f82_L18t (y : f82_L18_Y) (x : f82_L18_X) : Prop × Bool × f82_L18_X × Bool × Bool :=
 let a74 := y.2.2.2.2.2.2.2.2.2.2.2.1 
 let a75 := y.2.2.2.2.2.2.2.2.2.2.2.2.1 
 let a12 := x.1 
 let a76 := x.2.2.1 
 let v77 := (decide (a76 < a75))
 let v78 := (nth a74 a76 ([] : List D55))
 let v83 := (IntKind.wrap .i64 (x.2.1 + (len v78)))
 let v85 := (decide (v83 > 4096))
 let v87 := (len v78)
 let y25 := (y.1, y.2.1, y.2.2.1, a12, v83, y.2.2.2.1, y.2.2.2.2.1, y.2.2.2.2.2.1, y.2.2.2.2.2.2.1, y.2.2.2.2.2.2.2.1, y.2.2.2.2.2.2.2.2.1, y.2.2.2.2.2.2.2.2.2.1, y.2.2.2.2.2.2.2.2.2.2.1, a74, a75, a76, v78, (len v78), ())
 let x25 := ((List.replicate (Int.toNat v87) Z55), (0 : Int), ())
 let v128 := ([(f82_L25_x8_0 y25 (loopEnd (f82_L25_g y25) (f82_L25_next y25) x25))] : List (List D55))
 ((v77 = true → (InB a76 (len a74) ∧ ((!v85) = true → ((0 ≤ v87 ∧ v87 ≤ v87 ∧ v87 ≤ 4294967296) ∧ ((Am.Ends (f82_L25_g y25) (f82_L25_next y25) (f82_L25_ok y25) x25) ∧ ((List.length a12 + List.length v128 : Nat) : Int) ≤ 4294967296))))), (v77 && (!v85)), ((a12 ++ v128), v83, (IntKind.wrap .i64 (a76 + 1)), ()), (v77 && v85), (!v77))
def f82_L18_ok (y : f82_L18_Y) (x : f82_L18_X) : Prop := (f82_L18t y x).1
def f82_L18_g (y : f82_L18_Y) (x : f82_L18_X) : Bool := (f82_L18t y x).2.1
def f82_L18_next (y : f82_L18_Y) (x : f82_L18_X) : f82_L18_X := (f82_L18t y x).2.2.1
def f82_L18_e1 (y : f82_L18_Y) (x : f82_L18_X) : Bool := (f82_L18t y x).2.2.2.1
def f82_L18_e6 (y : f82_L18_Y) (x : f82_L18_X) : Bool := (f82_L18t y x).2.2.2.2
instance (y : f82_L18_Y) (x : f82_L18_X) : Decidable (f82_L18_ok y x) := by
 unfold f82_L18_ok f82_L18t
 try dsimp only
 infer_instance
def f82_L18_x1_0 (y : f82_L18_Y) (x : f82_L18_X) : (List (List D55)) :=
 ([] : List (List D55))
def f82_L18_x1_1 (y : f82_L18_Y) (x : f82_L18_X) : Int :=
 (3 : Int)
def f82_L18_l1 : List (Nat × Sh) := [(8, (.own (.sl T55) 0 false)), (9, vI)]
def f82_L18_x6_0 (y : f82_L18_Y) (x : f82_L18_X) : (List (List D55)) :=
 x.1
def f82_L18_x6_1 (y : f82_L18_Y) (x : f82_L18_X) : Int :=
 x.2.1
def f82_L18_l6 : List (Nat × Sh) := [(2, vI), (4, (.box T113 (.val T113))), (11, (.val (.ptr T163))), (12, (.own (.sl T55) 1012 false)), (13, vI), (14, vI), (41, (.val (.sl .str))), (42, vI), (43, vI), (54, (.own T55 1016 false)), (55, vI), (56, vI)]
def f82_L18_spec : St → Option Out := loopS [(2, vI), (4, (.box T113 (.val T113))), (11, (.val (.ptr T163))), (14, vI), (19, (.box T55 (.val T55))), (41, (.val (.sl .str))), (42, vI), (43, vI), (54, (.own T55 1016 false)), (55, vI), (56, vI), (74, (.own (.sl T55) 1020 false)), (75, vI)] [(12, (.own (.sl T55) 1012 false)), (13, vI), (76, vI)] f82_L18_g f82_L18_next f82_L18_ok fun y x => [ex 1 (some (f82_L18_e1 y x)) f82_L18_l1 ((f82_L18_x1_0 y x), (f82_L18_x1_1 y x), ()), ex 6 (some (f82_L18_e6 y x)) f82_L18_l6 (y.1, y.2.1, y.2.2.1, (f82_L18_x6_0 y x), (f82_L18_x6_1 y x), y.2.2.2.1, y.2.2.2.2.2.1, y.2.2.2.2.2.2.1, y.2.2.2.2.2.2.2.1, y.2.2.2.2.2.2.2.2.1, y.2.2.2.2.2.2.2.2.2.1, y.2.2.2.2.2.2.2.2.2.2.1, ())]
abbrev f82_L12_Y : Type := (Int × D113 × D163 × Int × (List (List UInt8)) × Int × Int × (List D55) × Int × Unit)
abbrev f82_L12_X : Type := ((List (List D55)) × Int × Int × Unit)
def f82_L12t (y : f82_L12_Y) (x : f82_L12_X) : Prop × Bool × f82_L12_X × Bool × Bool :=
 let a4 := y.2.1 
 let a54 := y.2.2.2.2.2.2.2.1 
 let a55 := y.2.2.2.2.2.2.2.2.1 
 let a56 := x.2.2.1 
 let v57 := (decide (a56 < a55))
 let v58 := (nth a54 a56 Z55)
 let v65 := (nth a4.2.2.2.1 v58.1 Z143)
 let v68 := (f78 v65.2.2.1)
 let v72 := (v68.2.1 != 0)
 let y18 := (y.1, a4, y.2.2.1, y.2.2.2.1, v58, y.2.2.2.2.1, y.2.2.2.2.2.1, y.2.2.2.2.2.2.1, a54, a55, a56, v68.1, (len v68.1), ())
 let x18 := (x.1, x.2.1, (0 : Int), ())
 let e18 := (loopEnd (f82_L18_g y18) (f82_L18_next y18) x18)
 ((v57 = true → (InB a56 (len a54) ∧ (InB v58.1 (len a4.2.2.2.1) ∧ ((f78_ok v65.2.2.1) ∧ ((!v72) = true → (Am.Ends (f82_L18_g y18) (f82_L18_next y18) (f82_L18_ok y18) x18)))))), (v57 && ((!v72) && (f82_L18_e6 y18 e18))), ((f82_L18_x6_0 y18 e18), (f82_L18_x6_1 y18 e18), (IntKind.wrap .i64 (a56 + 1)), ()), (v57 && (v72 || ((!v72) && (f82_L18_e1 y18 e18)))), (!v57))
def f82_L12_ok (y : f82_L12_Y) (x : f82_L12_X) : Prop := (f82_L12t y x).1
def f82_L12_g (y : f82_L12_Y) (x : f82_L12_X) : Bool := (f82_L12t y x).2.1
def f82_L12_next (y : f82_L12_Y) (x : f82_L12_X) : f82_L12_X := (f82_L12t y x).2.2.1
def f82_L12_e1 (y : f82_L12_Y) (x : f82_L12_X) : Bool := (f82_L12t y x).2.2.2.1
def f82_L12_e4 (y : f82_L12_Y) (x : f82_L12_X) : Bool := (f82_L12t y x).2.2.2.2
instance (y : f82_L12_Y) (x : f82_L12_X) : Decidable (f82_L12_ok y x) := by
 unfold f82_L12_ok f82_L12t
 try dsimp only
 infer_instance
def f82_L12_x1_0 (y : f82_L12_Y) (x : f82_L12_X) : (List (List D55)) :=
 let a4 := y.2.1 
 let a54 := y.2.2.2.2.2.2.2.1 
 let a56 := x.2.2.1 
 let v58 := (nth a54 a56 Z55)
 let v68 := (f78 (nth a4.2.2.2.1 v58.1 Z143).2.2.1)
 let y18 := (y.1, a4, y.2.2.1, y.2.2.2.1, v58, y.2.2.2.2.1, y.2.2.2.2.2.1, y.2.2.2.2.2.2.1, a54, y.2.2.2.2.2.2.2.2.1, a56, v68.1, (len v68.1), ())
 (bif (v68.2.1 != 0) then [] else (f82_L18_x1_0 y18 (loopEnd (f82_L18_g y18) (f82_L18_next y18) (x.1, x.2.1, (0 : Int), ()))))
def f82_L12_x1_1 (y : f82_L12_Y) (x : f82_L12_X) : Int :=
 let a4 := y.2.1 
 let a54 := y.2.2.2.2.2.2.2.1 
 let a56 := x.2.2.1 
 let v58 := (nth a54 a56 Z55)
 let v68 := (f78 (nth a4.2.2.2.1 v58.1 Z143).2.2.1)
 let y18 := (y.1, a4, y.2.2.1, y.2.2.2.1, v58, y.2.2.2.2.1, y.2.2.2.2.2.1, y.2.2.2.2.2.2.1, a54, y.2.2.2.2.2.2.2.2.1, a56, v68.1, (len v68.1), ())
 (bif (v68.2.1 != 0) then v68.2.1 else (f82_L18_x1_1 y18 (loopEnd (f82_L18_g y18) (f82_L18_next y18) (x.1, x.2.1, (0 : Int), ()))))
def f82_L12_l1 : List (Nat × Sh) := [(8, (.own (.sl T55) 0 false)), (9, vI)]
def f82_L12_x4_0 (y : f82_L12_Y) (x : f82_L12_X) : (List (List D55)) :=
 x.1
def f82_L12_x4_1 (y : f82_L12_Y) (x : f82_L12_X) : Int :=
 x.2.1
def f82_L12_l4 : List (Nat × Sh) := [(2, vI), (4, (.box T113 (.val T113))), (11, (.val (.ptr T163))), (12, (.own (.sl T55) 1012 false)), (13, vI), (41, (.val (.sl .str))), (42, vI), (43, vI)]
def f82_L12_spec : St → Option Out := loopS [(2, vI), (4, (.box T113 (.val T113))), (11, (.val (.ptr T163))), (14, vI), (41, (.val (.sl .str))), (42, vI), (43, vI), (54, (.own T55 1016 false)), (55, vI)] [(12, (.own (.sl T55) 1012 false)), (13, vI), (56, vI)] f82_L12_g f82_L12_next f82_L12_ok fun y x => [ex 1 (some (f82_L12_e1 y x)) f82_L12_l1 ((f82_L12_x1_0 y x), (f82_L12_x1_1 y x), ()), ex 4 (some (f82_L12_e4 y x)) f82_L12_l4 (y.1, y.2.1, y.2.2.1, (f82_L12_x4_0 y x), (f82_L12_x4_1 y x), y.2.2.2.2.1, y.2.2.2.2.2.1, y.2.2.2.2.2.2.1, ())]
abbrev f82_L8_Y : Type := (Int × D113 × D163 × (List (List UInt8)) × Int × Unit)
abbrev f82_L8_X : Type := ((List (List D55)) × Int × Int × Unit)
def f82_L8t (y : f82_L8_Y) (x : f82_L8_X) : Prop × Bool × f82_L8_X × Bool × Bool :=
 let a11 := y.2.2.1 
 let a41 := y.2.2.2.1 
 let a42 := y.2.2.2.2.1 
 let a43 := x.2.2.1 
 let v44 := (decide (a43 < a42))
 let v46 := (nth a41 a43 ([] : List UInt8))
 let v51 := (f104 a11 v46)
 let y12 := (y.1, y.2.1, a11, a43, a41, a42, a43, v51.1, (len v51.1), ())
 let x12 := (x.1, x.2.1, (0 : Int), ())
 let e12 := (loopEnd (f82_L12_g y12) (f82_L12_next y12) x12)
 ((v44 = true → (InB a43 (len a41) ∧ ((f104_ok a11 v46) ∧ (Am.Ends (f82_L12_g y12) (f82_L12_next y12) (f82_L12_ok y12) x12)))), (v44 && (f82_L12_e4 y12 e12)), ((f82_L12_x4_0 y12 e12), (f82_L12_x4_1 y12 e12), (IntKind.wrap .i64 (a43 + 1)), ()), (v44 && (f82_L12_e1 y12 e12)), (!v44))
def f82_L8_ok (y : f82_L8_Y) (x : f82_L8_X) : Prop := (f82_L8t y x).1
def f82_L8_g (y : f82_L8_Y) (x : f82_L8_X) : Bool := (f82_L8t y x).2.1
def f82_L8_next (y : f82_L8_Y) (x : f82_L8_X) : f82_L8_X := (f82_L8t y x).2.2.1
def f82_L8_e1 (y : f82_L8_Y) (x : f82_L8_X) : Bool := (f82_L8t y x).2.2.2.1
def f82_L8_e2 (y : f82_L8_Y) (x : f82_L8_X) : Bool := (f82_L8t y x).2.2.2.2
instance (y : f82_L8_Y) (x : f82_L8_X) : Decidable (f82_L8_ok y x) := by
 unfold f82_L8_ok f82_L8t
 try dsimp only
 infer_instance
def f82_L8_x1_0 (y : f82_L8_Y) (x : f82_L8_X) : (List (List D55)) :=
 let a11 := y.2.2.1 
 let a41 := y.2.2.2.1 
 let a43 := x.2.2.1 
 let v51 := (f104 a11 (nth a41 a43 ([] : List UInt8)))
 let y12 := (y.1, y.2.1, a11, a43, a41, y.2.2.2.2.1, a43, v51.1, (len v51.1), ())
 (f82_L12_x1_0 y12 (loopEnd (f82_L12_g y12) (f82_L12_next y12) (x.1, x.2.1, (0 : Int), ())))
def f82_L8_x1_1 (y : f82_L8_Y) (x : f82_L8_X) : Int :=
 let a11 := y.2.2.1 
 let a41 := y.2.2.2.1 
 let a43 := x.2.2.1 
 let v51 := (f104 a11 (nth a41 a43 ([] : List UInt8)))
 let y12 := (y.1, y.2.1, a11, a43, a41, y.2.2.2.2.1, a43, v51.1, (len v51.1), ())
 (f82_L12_x1_1 y12 (loopEnd (f82_L12_g y12) (f82_L12_next y12) (x.1, x.2.1, (0 : Int), ())))
def f82_L8_l1 : List (Nat × Sh) := [(8, (.own (.sl T55) 0 false)), (9, vI)]
def f82_L8_x2_0 (y : f82_L8_Y) (x : f82_L8_X) : (List (List D55)) :=
 x.1
def f82_L8_l2 : List (Nat × Sh) := [(12, (.own (.sl T55) 1012 false))]
def f82_L8_spec : St → Option Out := loopS [(2, vI), (4, (.box T113 (.val T113))), (11, (.val (.ptr T163))), (41, (.val (.sl .str))), (42, vI)] [(12, (.own (.sl T55) 1012 false)), (13, vI), (43, vI)] f82_L8_g f82_L8_next f82_L8_ok fun y x => [ex 1 (some (f82_L8_e1 y x)) f82_L8_l1 ((f82_L8_x1_0 y x), (f82_L8_x1_1 y x), ()), ex 2 (some (f82_L8_e2 y x)) f82_L8_l2 ((f82_L8_x2_0 y x), ())]
def f82t (p0 : D113) (p1 : (List UInt8)) (p2 : Int) (p3 : Int) : Prop × ((List (List D55)) × Int × Unit) :=
 let v31 := (f101 p0 p1 p2 p3)
 let v33 := (v31 != 0)
 let v36 := (f102 p0)
 let v41 := (f103 v36 p1 p2 p3)
 let y8 := (p2, p0, v36, v41, (len v41), ())
 let x8 := (([] : List (List D55)), (0 : Int), (0 : Int), ())
 let e8 := (loopEnd (f82_L8_g y8) (f82_L8_next y8) x8)
 let q8_1 := (f82_L8_e1 y8 e8)
 (((f101_ok p0 p1 p2 p3) ∧ ((!v33) = true → ((f102_ok p0) ∧ ((f103_ok v36 p1 p2 p3) ∧ (Am.Ends (f82_L8_g y8) (f82_L8_next y8) (f82_L8_ok y8) x8))))), ((bif v33 then [] else (bif q8_1 then (f82_L8_x1_0 y8 e8) else (f82_L8_x2_0 y8 e8))), (bif v33 then v31 else (bif q8_1 then (f82_L8_x1_1 y8 e8) else (0 : Int))), ()))
def f82_ok (p0 : D113) (p1 : (List UInt8)) (p2 : Int) (p3 : Int) : Prop := (f82t p0 p1 p2 p3).1
def f82 (p0 : D113) (p1 : (List UInt8)) (p2 : Int) (p3 : Int) : ((List (List D55)) × Int × Unit) := (f82t p0 p1 p2 p3).2
instance (p0 : D113) (p1 : (List UInt8)) (p2 : Int) (p3 : Int) : Decidable (f82_ok p0 p1 p2 p3) := by
 unfold f82_ok f82t
 try dsimp only
 infer_instance
def f82_spec : Am.Spec := fnSpec [(0, (.val T113)), (1, vS), (2, vI), (3, vI)] (.tup (.cons (.own (.sl T55) 0 false) (.cons vI .nl))) [] (fun x => f82_ok x.1 x.2.1 x.2.2.1 x.2.2.2.1) (fun x => f82 x.1 x.2.1 x.2.2.1 x.2.2.2.1) (fun _ => ())
def f82_ctx : Ctx := Cx tys [(52, f52_spec), (78, f78_spec), (101, f101_spec), (102, f102_spec), (103, f103_spec), (104, f104_spec)] [(25, f82_L25_spec), (18, f82_L18_spec), (12, f82_L12_spec), (8, f82_L8_spec)] [(21, [(4, 0, 51, 1016)]), (29, [(4, 0, 68, 1020)]), (47, [(4, 0, 88, 1024)]), (58, [(1, 24, 0, 0)]), (59, [(4, 0, 129, 1012)]), (67, [(4, 0, 1012, 0)])] true 134 [] [88]
theorem f82_cok : CtxOk Tryz.prog f82_ctx := ctxOk_mk tys_ok rfl ⟨f52_is, f78_is, f101_is, f102_is, f103_is, f104_is, trivial⟩ rfl (by kernel_rfl)
noncomputable def f82_code : Code := Tryz.f82.body.getD .skip
noncomputable def f82_L8 : Code := nthLoop f82_code 0
noncomputable def f82_L12 : Code := nthLoop f82_L8 0
noncomputable def f82_L18 : Code := nthLoop f82_L12 0
noncomputable def f82_L25 : Code := nthLoop f82_L18 0
theorem f82_L25_is : LoopSnd Tryz.prog f82_ctx f82_L25 := lgen f82_cok mixed (sp := f82_L25_spec) rfl [f82_L25_l8] (bs := []) (by kernel_rfl) trivial (by kernel_rfl) (by kernel_rfl) fun y x => by kernel_rfl
theorem f82_L18_is : LoopSnd Tryz.prog f82_ctx f82_L18 := lgen f82_cok mixed (sp := f82_L18_spec) rfl [f82_L18_l1, f82_L18_l6] (bs := [f82_L25]) (by kernel_rfl) ⟨f82_L25_is, trivial⟩ (by kernel_rfl) (by kernel_rfl) fun y x => by kernel_rfl
theorem f82_L12_is : LoopSnd Tryz.prog f82_ctx f82_L12 := lgen f82_cok mixed (sp := f82_L12_spec) rfl [f82_L12_l1, f82_L12_l4] (bs := [f82_L18]) (by kernel_rfl) ⟨f82_L18_is, trivial⟩ (by kernel_rfl) (by kernel_rfl) fun y x => by kernel_rfl
theorem f82_L8_is : LoopSnd Tryz.prog f82_ctx f82_L8 := lgen f82_cok mixed (sp := f82_L8_spec) rfl [f82_L8_l1, f82_L8_l2] (bs := [f82_L12]) (by kernel_rfl) ⟨f82_L12_is, trivial⟩ (by kernel_rfl) (by kernel_rfl) fun y x => by kernel_rfl
theorem f82_is : SpecOk Tryz.prog 82 f82_spec := fgen f82_cok mixed Tryz.func82 (by kernel_rfl) (bs := [f82_L8]) (by kernel_rfl) ⟨f82_L8_is, trivial⟩ fun x => by kernel_rfl

def f105 (p0 : List UInt8) : List (List UInt8) := Lib.fields p0
def f105_ok (p0 : List UInt8) : Prop := (List.length p0 : Int) ≤ 4294967280 ∧ (p0.all fun b => decide (b.toNat < 128)) = true
instance (p0 : List UInt8) : Decidable (f105_ok p0) := by
  unfold f105_ok
  infer_instance
def f105_ps : List (Nat × Sh) := [(0, (.val .str))]
def f105_rs : Sh := (.val (.sl .str))
def f105_os : List (Nat × Sh) := []
def f105_spec : Am.Spec := fnSpec f105_ps f105_rs f105_os (fun x => f105_ok x.1) (fun x => f105 x.1) (fun _ => ())
theorem tab0 : G0 = Lib.asciiSpaceTab := by kernel_rfl
theorem f105_is : SpecOk Tryz.prog 105 f105_spec := spec_strs (F := f105) (e := 9) (ok := f105_ok) ⟨_, Tryz.func105, by kernel_rfl, by decide⟩ fun s w χ hok hg =>
  Any.strings_Fields_core Tryz.lays157 (by kernel_rfl) s w (by have h1 := hok.1; rw [Array.length_toList] at h1; have h2 : s.data.size = s.size := rfl; omega)
    (fun j b hj => by have := List.all_eq_true.1 hok.2 b (List.mem_of_getElem? hj); simpa using this)
    (fun c hc => by
      have h1 := glob_row hg (g := 0) (n := 256) (k := .u8) (l := G0) (List.mem_cons_self ..) c hc
      rw [tab0, Lib.asciiSpaceTab_at c hc] at h1
      exact h1)

-- strings.IndexByte
def f106t (p0 : (List UInt8)) (p1 : Int) : Prop × Int :=
 ((f128_ok p0 p1), (f128 p0 p1))
def f106_ok (p0 : (List UInt8)) (p1 : Int) : Prop := (f106t p0 p1).1
def f106 (p0 : (List UInt8)) (p1 : Int) : Int := (f106t p0 p1).2
instance (p0 : (List UInt8)) (p1 : Int) : Decidable (f106_ok p0 p1) := by
 unfold f106_ok f106t
 try dsimp only
 infer_instance
def f106_spec : Am.Spec := fnSpec [(0, vS), (1, (.val (.int .u8)))] vI [] (fun x => f106_ok x.1 x.2.1) (fun x => f106 x.1 x.2.1) (fun _ => ())
def f106_ctx : Ctx := Cx tys [(128, f128_spec)] [] [] false 8 [] []
theorem f106_cok : CtxOk Tryz.prog f106_ctx := ctxOk_mk tys_ok rfl ⟨f128_is, trivial⟩ rfl (by kernel_rfl)
theorem f106_is : SpecOk Tryz.prog 106 f106_spec := fgen f106_cok mixed Tryz.func106 (by kernel_rfl) (bs := []) (by kernel_rfl) trivial fun x => by kernel_rfl

-- imageeditor/font.rectangle
def f129t (p0 : Int) (p1 : Int) (p2 : Int) (p3 : Int) : Prop × (List D58) :=
 let v30 := ([((1 : Int), ([(p0, p1, ()), Z55, Z55] : List D55), ()), ((2 : Int), ([(p2, p1, ()), Z55, Z55] : List D55), ()), ((2 : Int), ([(p2, p3, ()), Z55, Z55] : List D55), ()), ((2 : Int), ([(p0, p3, ()), Z55, Z55] : List D55), ()), ((5 : Int), (List.replicate 3 Z55), ())] : List D58)
 (True, v30)
def f129_ok (p0 : Int) (p1 : Int) (p2 : Int) (p3 : Int) : Prop := (f129t p0 p1 p2 p3).1
def f129 (p0 : Int) (p1 : Int) (p2 : Int) (p3 : Int) : (List D58) := (f129t p0 p1 p2 p3).2
instance (p0 : Int) (p1 : Int) (p2 : Int) (p3 : Int) : Decidable (f129_ok p0 p1 p2 p3) := by
 unfold f129_ok f129t
 try dsimp only
 infer_instance
def f129_spec : Am.Spec := fnSpec [(0, vI), (1, vI), (2, vI), (3, vI)] (.own T58 0 false) [] (fun x => f129_ok x.1 x.2.1 x.2.2.1 x.2.2.2.1) (fun x => f129 x.1 x.2.1 x.2.2.1 x.2.2.2.1) (fun _ => ())
def f129_ctx : Ctx := Cx tys [] [] [(3, [(4, 0, 30, 0)])] false 31 [] []
theorem f129_cok : CtxOk Tryz.prog f129_ctx := ctxOk_mk tys_ok rfl trivial rfl (by kernel_rfl)
theorem f129_is : SpecOk Tryz.prog 129 f129_spec := fgen f129_cok mixed Tryz.func129 (by kernel_rfl) (bs := []) (by kernel_rfl) trivial fun x => by kernel_rfl

-- imageeditor/font.column
abbrev f107_L7_Y : Type := (Int × Int × (List D58) × Int × Unit)
abbrev f107_L7_X : Type := (Int × Unit)
def f107_L7t (y : f107_L7_Y) (x : f107_L7_X) : Prop × Bool × f107_L7_X :=
 let a7 := x.1 
 let v20 := (decide ((a7 + 1) < 7))
 let v24 := (a7 + 1)
 let v28 := (bif v20 then ((iand .i64 (ishr y.2.1 v24 64) (1 : Int)) == 1) else false)
 ((InR (a7 + 1) ∧ ((v20 = true → InR (a7 + 1)) ∧ ((v20 = true → 0 ≤ v24) ∧ (v28 = true → InR (a7 + 1))))), v28, ((a7 + 1), ()))
def f107_L7_ok (y : f107_L7_Y) (x : f107_L7_X) : Prop := (f107_L7t y x).1
def f107_L7_g (y : f107_L7_Y) (x : f107_L7_X) : Bool := (f107_L7t y x).2.1
def f107_L7_next (y : f107_L7_Y) (x : f107_L7_X) : f107_L7_X := (f107_L7t y x).2.2
instance (y : f107_L7_Y) (x : f107_L7_X) : Decidable (f107_L7_ok y x) := by
 unfold f107_L7_ok f107_L7t
 try dsimp only
 infer_instance
def f107_L7_x4_0 (y : f107_L7_Y) (x : f107_L7_X) : Int :=
 x.1
def f107_L7_l4 : List (Nat × Sh) := [(0, vI), (1, vI), (5, (.own T58 1005 false)), (6, vI), (7, vI)]
def f107_L7_spec : St → Option Out := loopS [(0, vI), (1, vI), (5, (.own T58 1005 false)), (6, vI)] [(7, vI)] f107_L7_g f107_L7_next f107_L7_ok fun y x => [ex 4 none f107_L7_l4 (y.1, y.2.1, y.2.2.1, y.2.2.2.1, (f107_L7_x4_0 y x), ())]
abbrev f107_L3_Y : Type := (Unit)
abbrev f107_L3_X : Type := (Int × Int × (List D58) × Int × Unit)
def f107_L3t (y : f107_L3_Y) (x : f107_L3_X) : Prop × Bool × f107_L3_X :=
 let a0 := x.1 
 let a1 := x.2.1 
 let a5 := x.2.2.1 
 let a6 := x.2.2.2.1 
 let v9 := (decide (a6 < 7))
 let v16 := ((iand .i64 (ishr a1 a6 64) (1 : Int)) == 0)
 let y7 := (a0, a1, a5, a6, ())
 let x7 := (a6, ())
 let r7_4_0 := (f107_L7_x4_0 y7 (loopEnd (f107_L7_g y7) (f107_L7_next y7) x7))
 let v33 := (100 * a0)
 let v35 := (100 * a6)
 let v36 := (700 - v35)
 let v38 := (100 * a0)
 let v39 := (v38 + 100)
 let v41 := (100 * r7_4_0)
 let v42 := (600 - v41)
 let v43 := (f129 v33 v36 v39 v42)
 let c := (v16 || (!v16))
 let m6 := (bif v16 then a6 else r7_4_0)
 ((v9 = true → (0 ≤ a6 ∧ (((!v16) = true → ((Am.Ends (f107_L7_g y7) (f107_L7_next y7) (f107_L7_ok y7) x7) ∧ (InR (100 * a0) ∧ (InR (100 * a6) ∧ (InR (700 - v35) ∧ (InR (100 * a0) ∧ (InR (v38 + 100) ∧ (InR (100 * r7_4_0) ∧ (InR (600 - v41) ∧ ((f129_ok v33 v36 v39 v42) ∧ ((List.length a5 + List.length v43 : Nat) : Int) ≤ 4294967296)))))))))) ∧ (c = true → InR (m6 + 1))))), (v9 && c), ((bif v16 then a0 else a0), (bif v16 then a1 else a1), (bif v16 then a5 else (a5 ++ v43)), (m6 + 1), ()))
def f107_L3_ok (y : f107_L3_Y) (x : f107_L3_X) : Prop := (f107_L3t y x).1
def f107_L3_g (y : f107_L3_Y) (x : f107_L3_X) : Bool := (f107_L3t y x).2.1
def f107_L3_next (y : f107_L3_Y) (x : f107_L3_X) : f107_L3_X := (f107_L3t y x).2.2
instance (y : f107_L3_Y) (x : f107_L3_X) : Decidable (f107_L3_ok y x) := by
 unfold f107_L3_ok f107_L3t
 try dsimp only
 infer_instance
def f107_L3_x2_0 (y : f107_L3_Y) (x : f107_L3_X) : (List D58) :=
 x.2.2.1
def f107_L3_spec : St → Option Out := loopS [] [(0, vI), (1, vI), (5, (.own T58 1005 false)), (6, vI)] f107_L3_g f107_L3_next f107_L3_ok fun y x => [ex 2 none [(5, (.own T58 1005 false))] ((f107_L3_x2_0 y x), ())]
def f107t (p0 : Int) (p1 : Int) : Prop × (List D58) :=
 let x3 := (p0, p1, ([] : List D58), (0 : Int), ())
 ((Am.Ends (f107_L3_g ()) (f107_L3_next ()) (f107_L3_ok ()) x3), (f107_L3_x2_0 () (loopEnd (f107_L3_g ()) (f107_L3_next ()) x3)))
def f107_ok (p0 : Int) (p1 : Int) : Prop := (f107t p0 p1).1
def f107 (p0 : Int) (p1 : Int) : (List D58) := (f107t p0 p1).2
instance (p0 : Int) (p1 : Int) : Decidable (f107_ok p0 p1) := by
 unfold f107_ok f107t
 try dsimp only
 infer_instance
def f107_spec : Am.Spec := fnSpec [(0, vI), (1, vI)] (.own T58 0 false) [] (fun x => f107_ok x.1 x.2.1) (fun x => f107 x.1 x.2.1) (fun _ => ())
def f107_ctx : Ctx := Cx tys [(129, f129_spec)] [(7, f107_L7_spec), (3, f107_L3_spec)] [(19, [(4, 0, 44, 1005)]), (23, [(4, 0, 1005, 0)])] false 47 [] []
theorem f107_cok : CtxOk Tryz.prog f107_ctx := ctxOk_mk tys_ok rfl ⟨f129_is, trivial⟩ rfl (by kernel_rfl)
noncomputable def f107_code : Code := Tryz.f107.body.getD .skip
noncomputable def f107_L3 : Code := nthLoop f107_code 0
noncomputable def f107_L7 : Code := nthLoop f107_L3 0
theorem f107_L7_is : LoopSnd Tryz.prog f107_ctx f107_L7 := lgen f107_cok mixed (sp := f107_L7_spec) rfl [f107_L7_l4] (bs := []) (by kernel_rfl) trivial (by kernel_rfl) (by kernel_rfl) fun y x => by kernel_rfl
theorem f107_L3_is : LoopSnd Tryz.prog f107_ctx f107_L3 := lgen f107_cok mixed (sp := f107_L3_spec) rfl [[(5, (.own T58 1005 false))]] (bs := [f107_L7]) (by kernel_rfl) ⟨f107_L7_is, trivial⟩ (by kernel_rfl) (by kernel_rfl) fun y x => by kernel_rfl
theorem f107_is : SpecOk Tryz.prog 107 f107_spec := fgen f107_cok mixed Tryz.func107 (by kernel_rfl) (bs := [f107_L3]) (by kernel_rfl) ⟨f107_L3_is, trivial⟩ fun x => by kernel_rfl

-- imageeditor/font.Standard
abbrev f83_L7_Y : Type := ((List UInt8) × (List (List UInt8)) × Int × Int × Int × Unit)
abbrev f83_L7_X : Type := ((Int × Int × Int × (List D143) × (List D148) × Unit) × (Int × Int × Int × (List D143) × (List D148) × Unit) × (Int × Int × (List D58) × Unit) × Int × Unit)
def f83_L7t (y : f83_L7_Y) (x : f83_L7_X) : Prop × Bool × f83_L7_X :=
 let a3 := y.1 
 let a0 := x.1 
 let a1 := x.2.1 
 let a4 := x.2.2.1 
 let a22 := x.2.2.2.1 
 let v23 := (decide (a22 < y.2.2.2.2.1))
 let v27 := (2 * a22)
 let v28 := (byteAt a3 v27)
 let v29 := (f106 ([48, 49, 50, 51, 52, 53, 54, 55, 56, 57, 97, 98, 99, 100, 101, 102] : List UInt8) v28)
 let v30 := (16 * v29)
 let v33 := (2 * a22)
 let v34 := (v33 + 1)
 let v35 := (byteAt a3 v34)
 let v36 := (f106 ([48, 49, 50, 51, 52, 53, 54, 55, 56, 57, 97, 98, 99, 100, 101, 102] : List UInt8) v35)
 let v37 := (v30 + v36)
 let v42 := (f107 a22 v37)
 ((v23 = true → (InR (2 * a22) ∧ (InB v27 (len a3) ∧ ((f106_ok ([48, 49, 50, 51, 52, 53, 54, 55, 56, 57, 97, 98, 99, 100, 101, 102] : List UInt8) v28) ∧ (InR (16 * v29) ∧ (InR (2 * a22) ∧ (InR (v33 + 1) ∧ (InB v34 (len a3) ∧ ((f106_ok ([48, 49, 50, 51, 52, 53, 54, 55, 56, 57, 97, 98, 99, 100, 101, 102] : List UInt8) v35) ∧ (InR (v30 + v36) ∧ ((f107_ok a22 v37) ∧ (((List.length a4.2.2.1 + List.length v42 : Nat) : Int) ≤ 4294967296 ∧ InR (a22 + 1))))))))))))), v23, ((a0.1, a0.2.1, a0.2.2.1, a0.2.2.2.1, a0.2.2.2.2.1, ()), (a1.1, a1.2.1, a1.2.2.1, a1.2.2.2.1, a1.2.2.2.2.1, ()), (a4.1, a4.2.1, (a4.2.2.1 ++ v42), ()), (a22 + 1), ()))
def f83_L7_ok (y : f83_L7_Y) (x : f83_L7_X) : Prop := (f83_L7t y x).1
def f83_L7_g (y : f83_L7_Y) (x : f83_L7_X) : Bool := (f83_L7t y x).2.1
def f83_L7_next (y : f83_L7_Y) (x : f83_L7_X) : f83_L7_X := (f83_L7t y x).2.2
instance (y : f83_L7_Y) (x : f83_L7_X) : Decidable (f83_L7_ok y x) := by
 unfold f83_L7_ok f83_L7t
 try dsimp only
 infer_instance
def f83_L7_x4_0 (y : f83_L7_Y) (x : f83_L7_X) : (Int × Int × Int × (List D143) × (List D148) × Unit) :=
 let a0 := x.1 
 (a0.1, a0.2.1, a0.2.2.1, a0.2.2.2.1, a0.2.2.2.2.1, ())
def f83_L7_x4_1 (y : f83_L7_Y) (x : f83_L7_X) : (Int × Int × Int × (List D143) × (List D148) × Unit) :=
 let a1 := x.2.1 
 (a1.1, a1.2.1, a1.2.2.1, a1.2.2.2.1, a1.2.2.2.2.1, ())
def f83_L7_x4_2 (y : f83_L7_Y) (x : f83_L7_X) : (Int × Int × (List D58) × Unit) :=
 let a4 := x.2.2.1 
 (a4.1, a4.2.1, a4.2.2.1, ())
def f83_L7_l4 : List (Nat × Sh) := [(0, (.box T113 (.agg (.cons (.int .i64) (.cons (.int .i64) (.cons (.int .i64) (.cons (.sl T143) (.cons (.sl T148) .nl))))) (.cons vI (.cons vI (.cons vI (.cons (.own T143 400000 false) (.cons (.own T148 400001 false) .nl)))))))), (1, (.box T113 (.agg (.cons (.int .i64) (.cons (.int .i64) (.cons (.int .i64) (.cons (.sl T143) (.cons (.sl T148) .nl))))) (.cons vI (.cons vI (.cons vI (.cons (.own T143 400100 false) (.cons (.own T148 400101 false) .nl)))))))), (4, (.box T143 (.agg (.cons (.int .u8) (.cons (.int .i64) (.cons (.sl T58) .nl))) (.cons (.val (.int .u8)) (.cons vI (.cons (.own T58 400400 false) .nl)))))), (8, (.val (.sl .str))), (9, vI), (10, vI)]
def f83_L7_spec : St → Option Out := loopS [(3, vS), (8, (.val (.sl .str))), (9, vI), (10, vI), (21, vI)] [(0, (.box T113 (.agg (.cons (.int .i64) (.cons (.int .i64) (.cons (.int .i64) (.cons (.sl T143) (.cons (.sl T148) .nl))))) (.cons vI (.cons vI (.cons vI (.cons (.own T143 400000 false) (.cons (.own T148 400001 false) .nl)))))))), (1, (.box T113 (.agg (.cons (.int .i64) (.cons (.int .i64) (.cons (.int .i64) (.cons (.sl T143) (.cons (.sl T148) .nl))))) (.cons vI (.cons vI (.cons vI (.cons (.own T143 400100 false) (.cons (.own T148 400101 false) .nl)))))))), (4, (.box T143 (.agg (.cons (.int .u8) (.cons (.int .i64) (.cons (.sl T58) .nl))) (.cons (.val (.int .u8)) (.cons vI (.cons (.own T58 400400 false) .nl)))))), (22, vI)] f83_L7_g f83_L7_next f83_L7_ok fun y x => [ex 4 none f83_L7_l4 ((f83_L7_x4_0 y x), (f83_L7_x4_1 y x), (f83_L7_x4_2 y x), y.2.1, y.2.2.1, y.2.2.2.1, ())]
abbrev f83_L3_Y : Type := ((List (List UInt8)) × Int × Unit)
abbrev f83_L3_X : Type := ((Int × Int × Int × (List D143) × (List D148) × Unit) × (Int × Int × Int × (List D143) × (List D148) × Unit) × Int × Unit)
def f83_L3t (y : f83_L3_Y) (x : f83_L3_X) : Prop × Bool × f83_L3_X :=
 let a8 := y.1 
 let a9 := y.2.1 
 let a0 := x.1 
 let a1 := x.2.1 
 let a10 := x.2.2.1 
 let v11 := (decide (a10 < a9))
 let v13 := (nth a8 a10 ([] : List UInt8))
 let v20 := (len v13)
 let y7 := (v13, a8, a9, a10, (Int.tdiv v20 (2 : Int)), ())
 let x7 := ((a0.1, a0.2.1, a0.2.2.1, a0.2.2.2.1, a0.2.2.2.2.1, ()), (a1.1, a1.2.1, a1.2.2.1, a1.2.2.2.1, a1.2.2.2.2.1, ()), ((IntKind.wrap .u8 (32 + a10)), (600 : Int), ([] : List D58), ()), (0 : Int), ())
 let e7 := (loopEnd (f83_L7_g y7) (f83_L7_next y7) x7)
 let r7_4_0 := (f83_L7_x4_0 y7 e7)
 let r7_4_1 := (f83_L7_x4_1 y7 e7)
 let r7_4_2 := (f83_L7_x4_2 y7 e7)
 let v49 := ([(r7_4_2.1, r7_4_2.2.1, r7_4_2.2.2.1, ())] : List D143)
 ((v11 = true → (InB a10 (len a8) ∧ (InR (32 + a10) ∧ (InR (Int.tdiv v20 (2 : Int)) ∧ ((Am.Ends (f83_L7_g y7) (f83_L7_next y7) (f83_L7_ok y7) x7) ∧ (((List.length r7_4_1.2.2.2.1 + List.length v49 : Nat) : Int) ≤ 4294967296 ∧ InR (a10 + 1))))))), v11, ((r7_4_0.1, r7_4_0.2.1, r7_4_0.2.2.1, r7_4_0.2.2.2.1, r7_4_0.2.2.2.2.1, ()), (r7_4_1.1, r7_4_1.2.1, r7_4_1.2.2.1, (r7_4_1.2.2.2.1 ++ v49), r7_4_1.2.2.2.2.1, ()), (a10 + 1), ()))
def f83_L3_ok (y : f83_L3_Y) (x : f83_L3_X) : Prop := (f83_L3t y x).1
def f83_L3_g (y : f83_L3_Y) (x : f83_L3_X) : Bool := (f83_L3t y x).2.1
def f83_L3_next (y : f83_L3_Y) (x : f83_L3_X) : f83_L3_X := (f83_L3t y x).2.2
instance (y : f83_L3_Y) (x : f83_L3_X) : Decidable (f83_L3_ok y x) := by
 unfold f83_L3_ok f83_L3t
 try dsimp only
 infer_instance
def f83_L3_x2_0 (y : f83_L3_Y) (x : f83_L3_X) : (Int × Int × Int × (List D143) × (List D148) × Unit) :=
 let a0 := x.1 
 (a0.1, a0.2.1, a0.2.2.1, a0.2.2.2.1, a0.2.2.2.2.1, ())
def f83_L3_x2_1 (y : f83_L3_Y) (x : f83_L3_X) : (Int × Int × Int × (List D143) × (List D148) × Unit) :=
 let a1 := x.2.1 
 (a1.1, a1.2.1, a1.2.2.1, a1.2.2.2.1, a1.2.2.2.2.1, ())
def f83_L3_l2 : List (Nat × Sh) := [(0, (.box T113 (.agg (.cons (.int .i64) (.cons (.int .i64) (.cons (.int .i64) (.cons (.sl T143) (.cons (.sl T148) .nl))))) (.cons vI (.cons vI (.cons vI (.cons (.own T143 400000 false) (.cons (.own T148 400001 false) .nl)))))))), (1, (.box T113 (.agg (.cons (.int .i64) (.cons (.int .i64) (.cons (.int .i64) (.cons (.sl T143) (.cons (.sl T148) .nl))))) (.cons vI (.cons vI (.cons vI (.cons (.own T143 400100 false) (.cons (.own T148 400101 false) .nl))))))))]
def f83_L3_spec : St → Option Out := loopS [(8, (.val (.sl .str))), (9, vI)] [(0, (.box T113 (.agg (.cons (.int .i64) (.cons (.int .i64) (.cons (.int .i64) (.cons (.sl T143) (.cons (.sl T148) .nl))))) (.cons vI (.cons vI (.cons vI (.cons (.own T143 400000 false) (.cons (.own T148 400001 false) .nl)))))))), (1, (.box T113 (.agg (.cons (.int .i64) (.cons (.int .i64) (.cons (.int .i64) (.cons (.sl T143) (.cons (.sl T148) .nl))))) (.cons vI (.cons vI (.cons vI (.cons (.own T143 400100 false) (.cons (.own T148 400101 false) .nl)))))))), (10, vI)] f83_L3_g f83_L3_next f83_L3_ok fun y x => [ex 2 none f83_L3_l2 ((f83_L3_x2_0 y x), (f83_L3_x2_1 y x), ())]
def f83t  : Prop × D113 :=
 let v8 := (f105 lit0)
 let y3 := (v8, (len v8), ())
 let x3 := (((0 : Int), (0 : Int), (0 : Int), ([] : List D143), ([] : List D148), ()), ((1000 : Int), (800 : Int), (1200 : Int), ([] : List D143), ([] : List D148), ()), (0 : Int), ())
 let r3_2_1 := (f83_L3_x2_1 y3 (loopEnd (f83_L3_g y3) (f83_L3_next y3) x3))
 let s_6 := (r3_2_1.1, r3_2_1.2.1, r3_2_1.2.2.1, r3_2_1.2.2.2.1, ([((65 : Int), (86 : Int), (-100 : Int), ()), ((76 : Int), (84 : Int), (-100 : Int), ()), ((84 : Int), (97 : Int), (-100 : Int), ()), ((86 : Int), (65 : Int), (-100 : Int), ())] : List D148), ())
 (((f105_ok lit0) ∧ (Am.Ends (f83_L3_g y3) (f83_L3_next y3) (f83_L3_ok y3) x3)), s_6)
def f83_ok  : Prop := (f83t).1
def f83  : D113 := (f83t).2
instance  : Decidable (f83_ok) := by
 unfold f83_ok f83t
 try dsimp only
 infer_instance
def f83_spec : Am.Spec := fnSpec [] (.val T113) [] (fun x => f83_ok ) (fun x => f83 ) (fun _ => ())
def f83_ctx : Ctx := Cx tys [(105, f105_spec), (106, f106_spec), (107, f107_spec)] [(7, f83_L7_spec), (3, f83_L3_spec)] [(21, [(4, 0, 43, 400400)]), (25, [(4, 0, 50, 400100)]), (29, [(4, 0, 57, 400101)]), (31, [(4, 0, 400100, 400000), (4, 0, 400101, 400001)])] false 60 [] []
theorem f83_cok : CtxOk Tryz.prog f83_ctx := ctxOk_mk tys_ok rfl ⟨f105_is, f106_is, f107_is, trivial⟩ rfl (by kernel_rfl)
noncomputable def f83_code : Code := Tryz.f83.body.getD .skip
noncomputable def f83_L3 : Code := nthLoop f83_code 0
noncomputable def f83_L7 : Code := nthLoop f83_L3 0
theorem f83_L7_is : LoopSnd Tryz.prog f83_ctx f83_L7 := lgen f83_cok mixed (sp := f83_L7_spec) rfl [f83_L7_l4] (bs := []) (by kernel_rfl) trivial (by kernel_rfl) (by kernel_rfl) fun y x => by kernel_rfl
theorem f83_L3_is : LoopSnd Tryz.prog f83_ctx f83_L3 := lgen f83_cok mixed (sp := f83_L3_spec) rfl [f83_L3_l2] (bs := [f83_L7]) (by kernel_rfl) ⟨f83_L7_is, trivial⟩ (by kernel_rfl) (by kernel_rfl) fun y x => by kernel_rfl
theorem f83_is : SpecOk Tryz.prog 83 f83_spec := fgen f83_cok mixed Tryz.func83 (by kernel_rfl) (bs := [f83_L3]) (by kernel_rfl) ⟨f83_L3_is, trivial⟩ fun x => by kernel_rfl

-- imageeditor/path.Shift
abbrev f84_L6_Y : Type := ((List (List D55)) × D25 × (List (List D55)) × Int × Unit)
abbrev f84_L6_X : Type := (Int × Int × Unit)
def f84_L6t (y : f84_L6_Y) (x : f84_L6_X) : Prop × Bool × f84_L6_X × Bool × Bool :=
 let a21 := y.2.2.1 
 let a7 := x.1 
 let a23 := x.2.1 
 let v24 := (decide (a23 < y.2.2.2.1))
 let v29 := (len (nth a21 a23 ([] : List D55)))
 let v30 := (a7 + v29)
 let v32 := (decide (v30 > 4096))
 ((v24 = true → (InB a23 (len a21) ∧ (InR (a7 + v29) ∧ ((!v32) = true → InR (a23 + 1))))), (v24 && (!v32)), (v30, (a23 + 1), ()), (v24 && v32), (!v24))
def f84_L6_ok (y : f84_L6_Y) (x : f84_L6_X) : Prop := (f84_L6t y x).1
def f84_L6_g (y : f84_L6_Y) (x : f84_L6_X) : Bool := (f84_L6t y x).2.1
def f84_L6_next (y : f84_L6_Y) (x : f84_L6_X) : f84_L6_X := (f84_L6t y x).2.2.1
def f84_L6_e1 (y : f84_L6_Y) (x : f84_L6_X) : Bool := (f84_L6t y x).2.2.2.1
def f84_L6_e2 (y : f84_L6_Y) (x : f84_L6_X) : Bool := (f84_L6t y x).2.2.2.2
instance (y : f84_L6_Y) (x : f84_L6_X) : Decidable (f84_L6_ok y x) := by
 unfold f84_L6_ok f84_L6t
 try dsimp only
 infer_instance
def f84_L6_x1_0 (y : f84_L6_Y) (x : f84_L6_X) : (List (List D55)) :=
 ([] : List (List D55))
def f84_L6_x1_1 (y : f84_L6_Y) (x : f84_L6_X) : Int :=
 (3 : Int)
def f84_L6_l1 : List (Nat × Sh) := [(4, (.own (.sl T55) 0 false)), (5, vI)]
def f84_L6_l2 : List (Nat × Sh) := [(0, (.val (.sl (.sl T55)))), (3, (.box T25 (.val T25)))]
def f84_L6_spec : St → Option Out := loopS [(0, (.val (.sl (.sl T55)))), (3, (.box T25 (.val T25))), (21, (.val (.sl (.sl T55)))), (22, vI)] [(7, vI), (23, vI)] f84_L6_g f84_L6_next f84_L6_ok fun y x => [ex 1 (some (f84_L6_e1 y x)) f84_L6_l1 ((f84_L6_x1_0 y x), (f84_L6_x1_1 y x), ()), ex 2 (some (f84_L6_e2 y x)) f84_L6_l2 (y.1, y.2.1, ())]
abbrev f84_L18_Y : Type := (D25 × Int × (List (List D55)) × Int × Int × (List D55) × Int × Unit)
abbrev f84_L18_X : Type := (((List (List D55)) × Nat) × Int × Unit)
def f84_L18t (y : f84_L18_Y) (x : f84_L18_X) : Prop × Bool × f84_L18_X × Bool × Bool :=
 let a3 := y.1 
 let a11 := y.2.1 
 let a50 := y.2.2.2.2.2.1 
 let a10 := x.1 
 let a52 := x.2.1 
 let v53 := (decide (a52 < y.2.2.2.2.2.2.1))
 let v55 := (nth a50 a52 Z55)
 let v58 := (f97 v55)
 let v61 := (f96 a3 v55)
 let v63 := (f97 v61)
 let v67 := (List.getD a10.1 a10.2 [])
 let c := ((!v58) && (!v63))
 ((v53 = true → (InB a52 (len a50) ∧ ((f97_ok v55) ∧ (((!v58) = true → ((f96_ok a3 v55) ∧ ((f97_ok v61) ∧ ((!v63) = true → (InB a11 (len a10.1) ∧ ((Int.toNat a11 = a10.2 ∧ a11 < len a10.1) ∧ (InB a52 (len v67) ∧ a52 < len v67))))))) ∧ (c = true → InR (a52 + 1)))))), (v53 && c), (((List.set a10.1 a10.2 (List.set (List.getD a10.1 a10.2 []) (Int.toNat a52) v61)), a10.2), (a52 + 1), ()), (v53 && (v58 || ((!v58) && v63))), (!v53))
def f84_L18_ok (y : f84_L18_Y) (x : f84_L18_X) : Prop := (f84_L18t y x).1
def f84_L18_g (y : f84_L18_Y) (x : f84_L18_X) : Bool := (f84_L18t y x).2.1
def f84_L18_next (y : f84_L18_Y) (x : f84_L18_X) : f84_L18_X := (f84_L18t y x).2.2.1
def f84_L18_e1 (y : f84_L18_Y) (x : f84_L18_X) : Bool := (f84_L18t y x).2.2.2.1
def f84_L18_e6 (y : f84_L18_Y) (x : f84_L18_X) : Bool := (f84_L18t y x).2.2.2.2
instance (y : f84_L18_Y) (x : f84_L18_X) : Decidable (f84_L18_ok y x) := by
 unfold f84_L18_ok f84_L18t
 try dsimp only
 infer_instance
def f84_L18_x1_0 (y : f84_L18_Y) (x : f84_L18_X) : (List (List D55)) :=
 ([] : List (List D55))
def f84_L18_x1_1 (y : f84_L18_Y) (x : f84_L18_X) : Int :=
 (bif (f97 (nth y.2.2.2.2.2.1 x.2.1 Z55)) then (2 : Int) else (2 : Int))
def f84_L18_l1 : List (Nat × Sh) := [(4, (.own (.sl T55) 0 false)), (5, vI)]
def f84_L18_x6_0 (y : f84_L18_Y) (x : f84_L18_X) : ((List (List D55)) × Nat) :=
 let a10 := x.1 
 (a10.1, a10.2)
def f84_L18_l6 : List (Nat × Sh) := [(3, (.box T25 (.val T25))), (10, (.ownh T55 1010 48 true)), (37, (.val (.sl (.sl T55)))), (38, vI), (39, vI)]
def f84_L18_spec : St → Option Out := loopS [(3, (.box T25 (.val T25))), (11, vI), (37, (.val (.sl (.sl T55)))), (38, vI), (39, vI), (50, (.val (.sl T55))), (51, vI)] [(10, (.ownh T55 1010 48 true)), (52, vI)] f84_L18_g f84_L18_next f84_L18_ok fun y x => [ex 1 (some (f84_L18_e1 y x)) f84_L18_l1 ((f84_L18_x1_0 y x), (f84_L18_x1_1 y x), ()), ex 6 (some (f84_L18_e6 y x)) f84_L18_l6 (y.1, (f84_L18_x6_0 y x), y.2.2.1, y.2.2.2.1, y.2.2.2.2.1, ())]
abbrev f84_L14_Y : Type := (D25 × (List (List D55)) × Int × Unit)
abbrev f84_L14_X : Type := ((List (List D55)) × Int × Unit)
def f84_L14t (y : f84_L14_Y) (x : f84_L14_X) : Prop × Bool × f84_L14_X × Bool × Bool :=
 let a37 := y.2.1 
 let a38 := y.2.2.1 
 let a10 := x.1 
 let a39 := x.2.1 
 let v40 := (decide (a39 < a38))
 let v42 := (nth a37 a39 ([] : List D55))
 let v47 := (len v42)
 let y18 := (y.1, a39, a37, a38, a39, v42, (len v42), ())
 let x18 := (((List.set a10 (Int.toNat a39) (List.replicate (Int.toNat v47) Z55)), (Int.toNat a39)), (0 : Int), ())
 let e18 := (loopEnd (f84_L18_g y18) (f84_L18_next y18) x18)
 let q18_6 := (f84_L18_e6 y18 e18)
 ((v40 = true → (InB a39 (len a37) ∧ ((0 ≤ v47 ∧ v47 ≤ v47 ∧ v47 ≤ 4294967296) ∧ (InB a39 (len a10) ∧ (a39 < len a10 ∧ ((Am.Ends (f84_L18_g y18) (f84_L18_next y18) (f84_L18_ok y18) x18) ∧ (q18_6 = true → InR (a39 + 1)))))))), (v40 && q18_6), ((f84_L18_x6_0 y18 e18).1, (a39 + 1), ()), (v40 && (f84_L18_e1 y18 e18)), (!v40))
def f84_L14_ok (y : f84_L14_Y) (x : f84_L14_X) : Prop := (f84_L14t y x).1
def f84_L14_g (y : f84_L14_Y) (x : f84_L14_X) : Bool := (f84_L14t y x).2.1
def f84_L14_next (y : f84_L14_Y) (x : f84_L14_X) : f84_L14_X := (f84_L14t y x).2.2.1
def f84_L14_e1 (y : f84_L14_Y) (x : f84_L14_X) : Bool := (f84_L14t y x).2.2.2.1
def f84_L14_e4 (y : f84_L14_Y) (x : f84_L14_X) : Bool := (f84_L14t y x).2.2.2.2
instance (y : f84_L14_Y) (x : f84_L14_X) : Decidable (f84_L14_ok y x) := by
 unfold f84_L14_ok f84_L14t
 try dsimp only
 infer_instance
def f84_L14_x1_0 (y : f84_L14_Y) (x : f84_L14_X) : (List (List D55)) :=
 let a37 := y.2.1 
 let a39 := x.2.1 
 let v42 := (nth a37 a39 ([] : List D55))
 let y18 := (y.1, a39, a37, y.2.2.1, a39, v42, (len v42), ())
 (f84_L18_x1_0 y18 (loopEnd (f84_L18_g y18) (f84_L18_next y18) (((List.set x.1 (Int.toNat a39) (List.replicate (Int.toNat (len v42)) Z55)), (Int.toNat a39)), (0 : Int), ())))
def f84_L14_x1_1 (y : f84_L14_Y) (x : f84_L14_X) : Int :=
 let a37 := y.2.1 
 let a39 := x.2.1 
 let v42 := (nth a37 a39 ([] : List D55))
 let y18 := (y.1, a39, a37, y.2.2.1, a39, v42, (len v42), ())
 (f84_L18_x1_1 y18 (loopEnd (f84_L18_g y18) (f84_L18_next y18) (((List.set x.1 (Int.toNat a39) (List.replicate (Int.toNat (len v42)) Z55)), (Int.toNat a39)), (0 : Int), ())))
def f84_L14_l1 : List (Nat × Sh) := [(4, (.own (.sl T55) 0 false)), (5, vI)]
def f84_L14_x4_0 (y : f84_L14_Y) (x : f84_L14_X) : (List (List D55)) :=
 x.1
def f84_L14_l4 : List (Nat × Sh) := [(10, (.own (.sl T55) 1010 true))]
def f84_L14_spec : St → Option Out := loopS [(3, (.box T25 (.val T25))), (37, (.val (.sl (.sl T55)))), (38, vI)] [(10, (.own (.sl T55) 1010 true)), (39, vI)] f84_L14_g f84_L14_next f84_L14_ok fun y x => [ex 1 (some (f84_L14_e1 y x)) f84_L14_l1 ((f84_L14_x1_0 y x), (f84_L14_x1_1 y x), ()), ex 4 (some (f84_L14_e4 y x)) f84_L14_l4 ((f84_L14_x4_0 y x), ())]
def f84t (p0 : (List (List D55))) (p1 : D25) : Prop × ((List (List D55)) × Int × Unit) :=
 let v17 := (f24 p1)
 let v19 := (v17 != 0)
 let y6 := (p0, p1, p0, (len p0), ())
 let x6 := ((0 : Int), (0 : Int), ())
 let e6 := (loopEnd (f84_L6_g y6) (f84_L6_next y6) x6)
 let q6_1 := (f84_L6_e1 y6 e6)
 let v35 := (len p0)
 let y14 := (p1, p0, (len p0), ())
 let x14 := ((List.replicate (Int.toNat v35) ([] : List D55)), (0 : Int), ())
 let e14 := (loopEnd (f84_L14_g y14) (f84_L14_next y14) x14)
 let q14_1 := (f84_L14_e1 y14 e14)
 (((f24_ok p1) ∧ ((!v19) = true → ((Am.Ends (f84_L6_g y6) (f84_L6_next y6) (f84_L6_ok y6) x6) ∧ ((f84_L6_e2 y6 e6) = true → ((0 ≤ v35 ∧ v35 ≤ v35 ∧ v35 ≤ 4294967296) ∧ (Am.Ends (f84_L14_g y14) (f84_L14_next y14) (f84_L14_ok y14) x14)))))), ((bif v19 then [] else (bif q6_1 then (f84_L6_x1_0 y6 e6) else (bif q14_1 then (f84_L14_x1_0 y14 e14) else (f84_L14_x4_0 y14 e14)))), (bif v19 then v17 else (bif q6_1 then (f84_L6_x1_1 y6 e6) else (bif q14_1 then (f84_L14_x1_1 y14 e14) else (0 : Int)))), ()))
def f84_ok (p0 : (List (List D55))) (p1 : D25) : Prop := (f84t p0 p1).1
def f84 (p0 : (List (List D55))) (p1 : D25) : ((List (List D55)) × Int × Unit) := (f84t p0 p1).2
instance (p0 : (List (List D55))) (p1 : D25) : Decidable (f84_ok p0 p1) := by
 unfold f84_ok f84t
 try dsimp only
 infer_instance
def f84_spec : Am.Spec := fnSpec [(0, (.val (.sl (.sl T55)))), (1, (.val T25))] (.tup (.cons (.val (.sl (.sl T55))) (.cons vI .nl))) [] (fun x => f84_ok x.1 x.2.1) (fun x => f84 x.1 x.2.1) (fun _ => ())
def f84_ctx : Ctx := Cx tys [(24, f24_spec), (96, f96_spec), (97, f97_spec)] [(6, f84_L6_spec), (18, f84_L18_spec), (14, f84_L14_spec)] [(25, [(4, 0, 36, 1010)]), (54, [(1, 10, 0, 0)]), (57, [(1, 4, 0, 0), (4, 0, 1010, 0)])] false 74 [] [36, 48]
theorem f84_cok : CtxOk Tryz.prog f84_ctx := ctxOk_mk tys_ok rfl ⟨f24_is, f96_is, f97_is, trivial⟩ rfl (by kernel_rfl)
noncomputable def f84_code : Code := Tryz.f84.body.getD .skip
noncomputable def f84_L6 : Code := nthLoop f84_code 0
theorem f84_L6_is : LoopSnd Tryz.prog f84_ctx f84_L6 := lgen f84_cok mixed (sp := f84_L6_spec) rfl [f84_L6_l1, f84_L6_l2] (bs := []) (by kernel_rfl) trivial (by kernel_rfl) (by kernel_rfl) fun y x => by kernel_rfl
noncomputable def f84_L14 : Code := nthLoop f84_code 1
noncomputable def f84_L18 : Code := nthLoop f84_L14 0
theorem f84_L18_is : LoopSnd Tryz.prog f84_ctx f84_L18 := lgen f84_cok mixed (sp := f84_L18_spec) rfl [f84_L18_l1, f84_L18_l6] (bs := []) (by kernel_rfl) trivial (by kernel_rfl) (by kernel_rfl) fun y x => by kernel_rfl
theorem f84_L14_is : LoopSnd Tryz.prog f84_ctx f84_L14 := lgen f84_cok mixed (sp := f84_L14_spec) rfl [f84_L14_l1, f84_L14_l4] (bs := [f84_L18]) (by kernel_rfl) ⟨f84_L18_is, trivial⟩ (by kernel_rfl) (by kernel_rfl) fun y x => by kernel_rfl
theorem f84_is : SpecOk Tryz.prog 84 f84_spec := fgen f84_cok mixed Tryz.func84 (by kernel_rfl) (bs := [f84_L6, f84_L14]) (by kernel_rfl) ⟨f84_L6_is, f84_L14_is, trivial⟩ fun x => by kernel_rfl

-- imageeditor/node.checkText
def f58t (p0 : D37) : Prop × Int :=
 let v14 := (f82 f83 p0.2.2.2.2.2.2.2.2.2.2.2.2.2.2.2.2.2.2.2.2.2.2.2.1 p0.2.2.2.2.2.2.2.2.2.2.2.2.2.2.2.2.2.2.2.2.2.2.2.2.1 p0.2.2.2.2.2.2.2.2.2.2.2.2.2.2.2.2.2.2.2.2.2.2.2.2.2.1)
 let v18 := (v14.2.1 != 0)
 let v24 := (f84 v14.1 p0.2.2.2.2.2.2.2.2.2.2.1)
 let v28 := (v24.2.1 != 0)
 let v31 := (f81 v24.1 (0 : Int))
 let v33 := (v31 != 0)
 ((f83_ok ∧ ((f82_ok f83 p0.2.2.2.2.2.2.2.2.2.2.2.2.2.2.2.2.2.2.2.2.2.2.2.1 p0.2.2.2.2.2.2.2.2.2.2.2.2.2.2.2.2.2.2.2.2.2.2.2.2.1 p0.2.2.2.2.2.2.2.2.2.2.2.2.2.2.2.2.2.2.2.2.2.2.2.2.2.1) ∧ ((!v18) = true → ((f84_ok v14.1 p0.2.2.2.2.2.2.2.2.2.2.1) ∧ ((!v28) = true → ((f81_ok v24.1 (0 : Int)) ∧ ((!v33) = true → (f55_ok p0.2.2.2.2.2.2.2.2.2.2.2.2.2.1)))))))), (bif v18 then v14.2.1 else (bif v28 then v24.2.1 else (bif v33 then v31 else (f55 p0.2.2.2.2.2.2.2.2.2.2.2.2.2.1)))))
def f58_ok (p0 : D37) : Prop := (f58t p0).1
def f58 (p0 : D37) : Int := (f58t p0).2
instance (p0 : D37) : Decidable (f58_ok p0) := by
 unfold f58_ok f58t
 try dsimp only
 infer_instance
def f58_spec : Am.Spec := fnSpec [(0, (.val T37))] vI [] (fun x => f58_ok x.1) (fun x => f58 x.1) (fun _ => ())
def f58_ctx : Ctx := Cx tys [(55, f55_spec), (81, f81_spec), (82, f82_spec), (83, f83_spec), (84, f84_spec)] [] [(3, [(4, 0, 14, 1003)])] false 38 [] []
theorem f58_cok : CtxOk Tryz.prog f58_ctx := ctxOk_mk tys_ok rfl ⟨f55_is, f81_is, f82_is, f83_is, f84_is, trivial⟩ rfl (by kernel_rfl)
theorem f58_is : SpecOk Tryz.prog 58 f58_spec := fgen f58_cok mixed Tryz.func58 (by kernel_rfl) (bs := []) (by kernel_rfl) trivial fun x => by kernel_rfl

-- imageeditor/adjust.counted
def f85t (p0 : Int) (p1 : Int) : Prop × Bool :=
 let v7 := (p0 == 2)
 let v11 := (p0 == 3)
 let v24 := (p0 == 4)
 let m23 := (bif v24 then v24 else (p0 == 11))
 let v29 := (p0 == 5)
 let m28 := (bif v29 then v29 else (p0 == 9))
 let v34 := (p0 == 6)
 let m33 := (bif v34 then v34 else (p0 == 7))
 let m4_3 := (bif v11 then (bif (bif (decide (p1 ≥ 4)) then (decide (p1 ≤ 16)) else false) then ((Int.tmod p1 (2 : Int)) == 0) else false) else (bif m23 then (p1 == 2) else (bif m28 then (p1 == 3) else (bif m33 then (p1 == 1) else (p1 == 9)))))
 (True, (bif (bif v7 then true else (bif v11 then true else (bif m23 then true else (bif m28 then true else (bif m33 then true else (p0 == 8)))))) then (bif v7 then (p1 == 5) else m4_3) else (p1 == 0)))
def f85_ok (p0 : Int) (p1 : Int) : Prop := (f85t p0 p1).1
def f85 (p0 : Int) (p1 : Int) : Bool := (f85t p0 p1).2
instance (p0 : Int) (p1 : Int) : Decidable (f85_ok p0 p1) := by
 unfold f85_ok f85t
 try dsimp only
 infer_instance
def f85_spec : Am.Spec := fnSpec [(0, vI), (1, vI)] vB [] (fun x => f85_ok x.1 x.2.1) (fun x => f85 x.1 x.2.1) (fun _ => ())
def f85_ctx : Ctx := Cx tys [] [] [] false 44 [] []
theorem f85_cok : CtxOk Tryz.prog f85_ctx := ctxOk_mk tys_ok rfl trivial rfl (by kernel_rfl)
theorem f85_is : SpecOk Tryz.prog 85 f85_spec := fgen f85_cok mixed Tryz.func85 (by kernel_rfl) (bs := []) (by kernel_rfl) trivial fun x => by kernel_rfl

-- imageeditor/adjust.span
def f108t (p0 : Int) (p1 : Int) : Prop × (Int × Int × Unit) :=
 let v12 := (bif (p0 == 2) then (p1 == 2) else false)
 let v15 := (p0 == 4)
 let v21 := (bif (p0 == 5) then (decide (p1 > 0)) else false)
 let m13_1 := (bif v15 then v15 else (bif v21 then v21 else (bif (p0 == 11) then (p1 == 1) else false)))
 let v30 := (p0 == 5)
 let v33 := (p0 == 7)
 let v36 := (p0 == 8)
 let c_8 := (bif v12 then true else (bif m13_1 then true else (bif v30 then true else (bif v33 then true else (bif v36 then true else (p0 == 11))))))
 let m4_5 := (bif c_8 then (bif v12 then (1 : Int) else (bif m13_1 then (-65535 : Int) else (bif v30 then (-32768 : Int) else (bif v33 then (2 : Int) else (bif v36 then (-262140 : Int) else (-128 : Int)))))) else (0 : Int))
 let m5_5 := (bif c_8 then (bif v12 then (256 : Int) else (bif m13_1 then (65535 : Int) else (bif v30 then (32768 : Int) else (bif v33 then (256 : Int) else (bif v36 then (262140 : Int) else (128 : Int)))))) else (65535 : Int))
 (True, (m4_5, m5_5, ()))
def f108_ok (p0 : Int) (p1 : Int) : Prop := (f108t p0 p1).1
def f108 (p0 : Int) (p1 : Int) : (Int × Int × Unit) := (f108t p0 p1).2
instance (p0 : Int) (p1 : Int) : Decidable (f108_ok p0 p1) := by
 unfold f108_ok f108t
 try dsimp only
 infer_instance
def f108_spec : Am.Spec := fnSpec [(0, vI), (1, vI)] (.tup (.cons vI (.cons vI .nl))) [] (fun x => f108_ok x.1 x.2.1) (fun x => f108 x.1 x.2.1) (fun _ => ())
def f108_ctx : Ctx := Cx tys [] [] [] false 40 [] []
theorem f108_cok : CtxOk Tryz.prog f108_ctx := ctxOk_mk tys_ok rfl trivial rfl (by kernel_rfl)
theorem f108_is : SpecOk Tryz.prog 108 f108_spec := fgen f108_cok mixed Tryz.func108 (by kernel_rfl) (bs := []) (by kernel_rfl) trivial fun x => by kernel_rfl

-- imageeditor/adjust.ranged
abbrev f86_L2_Y : Type := (Int × (List Int) × (List D53) × (List Int) × Int × Unit)
abbrev f86_L2_X : Type := (Int × Unit)
def f86_L2t (y : f86_L2_Y) (x : f86_L2_X) : Prop × Bool × f86_L2_X × Bool × Bool :=
 let a0 := y.1 
 let a13 := y.2.2.2.1 
 let a15 := x.1 
 let v16 := (decide (a15 < y.2.2.2.2.1))
 let v18 := (nth a13 a15 (0 : Int))
 let v23 := (f108 a0 a15)
 let v33 := (bif (decide (v18 < v23.1)) then true else (decide (v18 > v23.2.1)))
 ((v16 = true → (InB a15 (len a13) ∧ ((f108_ok a0 a15) ∧ ((!v33) = true → InR (a15 + 1))))), (v16 && (!v33)), ((a15 + 1), ()), (v16 && v33), (!v16))
def f86_L2_ok (y : f86_L2_Y) (x : f86_L2_X) : Prop := (f86_L2t y x).1
def f86_L2_g (y : f86_L2_Y) (x : f86_L2_X) : Bool := (f86_L2t y x).2.1
def f86_L2_next (y : f86_L2_Y) (x : f86_L2_X) : f86_L2_X := (f86_L2t y x).2.2.1
def f86_L2_e1 (y : f86_L2_Y) (x : f86_L2_X) : Bool := (f86_L2t y x).2.2.2.1
def f86_L2_e2 (y : f86_L2_Y) (x : f86_L2_X) : Bool := (f86_L2t y x).2.2.2.2
instance (y : f86_L2_Y) (x : f86_L2_X) : Decidable (f86_L2_ok y x) := by
 unfold f86_L2_ok f86_L2t
 try dsimp only
 infer_instance
def f86_L2_x1_0 (y : f86_L2_Y) (x : f86_L2_X) : Bool :=
 false
def f86_L2_l2 : List (Nat × Sh) := [(0, vI), (1, (.val (.sl (.int .i64)))), (2, (.val (.sl T53)))]
def f86_L2_spec : St → Option Out := loopS [(0, vI), (1, (.val (.sl (.int .i64)))), (2, (.val (.sl T53))), (13, (.val (.sl (.int .i64)))), (14, vI)] [(15, vI)] f86_L2_g f86_L2_next f86_L2_ok fun y x => [ex 1 (some (f86_L2_e1 y x)) [(6, vB)] ((f86_L2_x1_0 y x), ()), ex 2 (some (f86_L2_e2 y x)) f86_L2_l2 (y.1, y.2.1, y.2.2.1, ())]
abbrev f86_L11_Y : Type := ((List D53) × Int × Unit)
abbrev f86_L11_X : Type := (Int × Unit)
def f86_L11t (y : f86_L11_Y) (x : f86_L11_X) : Prop × Bool × f86_L11_X × Bool × Bool :=
 let a55 := y.1 
 let a57 := x.1 
 let v58 := (decide (a57 < y.2.1))
 let v59 := (nth a55 a57 Z53)
 let v68 := (bif (decide (v59.1 < 0)) then true else (decide (v59.1 > 65535)))
 let v74 := (bif v68 then true else (!(f74 v59.2.1)))
 ((v58 = true → (InB a57 (len a55) ∧ (((!v68) = true → (f74_ok v59.2.1)) ∧ ((!v74) = true → InR (a57 + 1))))), (v58 && (!v74)), ((a57 + 1), ()), (v58 && v74), (!v58))
def f86_L11_ok (y : f86_L11_Y) (x : f86_L11_X) : Prop := (f86_L11t y x).1
def f86_L11_g (y : f86_L11_Y) (x : f86_L11_X) : Bool := (f86_L11t y x).2.1
def f86_L11_next (y : f86_L11_Y) (x : f86_L11_X) : f86_L11_X := (f86_L11t y x).2.2.1
def f86_L11_e1 (y : f86_L11_Y) (x : f86_L11_X) : Bool := (f86_L11t y x).2.2.2.1
def f86_L11_e4 (y : f86_L11_Y) (x : f86_L11_X) : Bool := (f86_L11t y x).2.2.2.2
instance (y : f86_L11_Y) (x : f86_L11_X) : Decidable (f86_L11_ok y x) := by
 unfold f86_L11_ok f86_L11t
 try dsimp only
 infer_instance
def f86_L11_x1_0 (y : f86_L11_Y) (x : f86_L11_X) : Bool :=
 false
def f86_L11_spec : St → Option Out := loopS [(55, (.val (.sl T53))), (56, vI)] [(57, vI)] f86_L11_g f86_L11_next f86_L11_ok fun y x => [ex 1 (some (f86_L11_e1 y x)) [(6, vB)] ((f86_L11_x1_0 y x), ()), ex 4 (some (f86_L11_e4 y x)) [] ()]
def f86t (p0 : Int) (p1 : (List Int)) (p2 : (List D53)) : Prop × Bool :=
 let y2 := (p0, p1, p2, p1, (len p1), ())
 let x2 := ((0 : Int), ())
 let e2 := (loopEnd (f86_L2_g y2) (f86_L2_next y2) x2)
 let v36 := (p0 == 9)
 let v42 := (bif v36 then ((nth p1 (0 : Int) (0 : Int)) == 0) else false)
 let v48 := (bif v42 then ((nth p1 (1 : Int) (0 : Int)) == 0) else false)
 let v54 := (bif v48 then ((nth p1 (2 : Int) (0 : Int)) == 0) else false)
 let y11 := (p2, (len p2), ())
 let x11 := ((0 : Int), ())
 let e11 := (loopEnd (f86_L11_g y11) (f86_L11_next y11) x11)
 (((Am.Ends (f86_L2_g y2) (f86_L2_next y2) (f86_L2_ok y2) x2) ∧ ((f86_L2_e2 y2 e2) = true → ((v36 = true → InB (0 : Int) (len p1)) ∧ ((v42 = true → InB (1 : Int) (len p1)) ∧ ((v48 = true → InB (2 : Int) (len p1)) ∧ ((!v54) = true → (Am.Ends (f86_L11_g y11) (f86_L11_next y11) (f86_L11_ok y11) x11))))))), (bif (f86_L2_e1 y2 e2) then (f86_L2_x1_0 y2 e2) else (bif v54 then false else (bif (f86_L11_e1 y11 e11) then (f86_L11_x1_0 y11 e11) else true))))
def f86_ok (p0 : Int) (p1 : (List Int)) (p2 : (List D53)) : Prop := (f86t p0 p1 p2).1
def f86 (p0 : Int) (p1 : (List Int)) (p2 : (List D53)) : Bool := (f86t p0 p1 p2).2
instance (p0 : Int) (p1 : (List Int)) (p2 : (List D53)) : Decidable (f86_ok p0 p1 p2) := by
 unfold f86_ok f86t
 try dsimp only
 infer_instance
def f86_spec : Am.Spec := fnSpec [(0, vI), (1, (.val (.sl (.int .i64)))), (2, (.val (.sl T53)))] vB [] (fun x => f86_ok x.1 x.2.1 x.2.2.1) (fun x => f86 x.1 x.2.1 x.2.2.1) (fun _ => ())
def f86_ctx : Ctx := Cx tys [(74, f74_spec), (108, f108_spec)] [(2, f86_L2_spec), (11, f86_L11_spec)] [] false 76 [] []
theorem f86_cok : CtxOk Tryz.prog f86_ctx := ctxOk_mk tys_ok rfl ⟨f74_is, f108_is, trivial⟩ rfl (by kernel_rfl)
noncomputable def f86_code : Code := Tryz.f86.body.getD .skip
noncomputable def f86_L2 : Code := nthLoop f86_code 0
theorem f86_L2_is : LoopSnd Tryz.prog f86_ctx f86_L2 := lgen f86_cok mixed (sp := f86_L2_spec) rfl [[(6, vB)], f86_L2_l2] (bs := []) (by kernel_rfl) trivial (by kernel_rfl) (by kernel_rfl) fun y x => by kernel_rfl
noncomputable def f86_L11 : Code := nthLoop f86_code 1
theorem f86_L11_is : LoopSnd Tryz.prog f86_ctx f86_L11 := lgen f86_cok mixed (sp := f86_L11_spec) rfl [[(6, vB)], []] (bs := []) (by kernel_rfl) trivial (by kernel_rfl) (by kernel_rfl) fun y x => by kernel_rfl
theorem f86_is : SpecOk Tryz.prog 86 f86_spec := fgen f86_cok mixed Tryz.func86 (by kernel_rfl) (bs := [f86_L2, f86_L11]) (by kernel_rfl) ⟨f86_L2_is, f86_L11_is, trivial⟩ fun x => by kernel_rfl

-- imageeditor/adjust.ordered
abbrev f87_L5_Y : Type := ((List Int) × (List D53) × Unit)
abbrev f87_L5_X : Type := (Int × Unit)
def f87_L5t (y : f87_L5_Y) (x : f87_L5_X) : Prop × Bool × f87_L5_X × Bool × Bool :=
 let a1 := y.1 
 let a7 := x.1 
 let v25 := (decide (a7 < (len a1)))
 let v34 := (a7 - 2)
 let v37 := (decide ((nth a1 a7 (0 : Int)) ≤ (nth a1 v34 (0 : Int))))
 ((v25 = true → (InB a7 (len a1) ∧ (InR (a7 - 2) ∧ (InB v34 (len a1) ∧ ((!v37) = true → InR (a7 + 2)))))), (v25 && (!v37)), ((a7 + 2), ()), (v25 && v37), (!v25))
def f87_L5_ok (y : f87_L5_Y) (x : f87_L5_X) : Prop := (f87_L5t y x).1
def f87_L5_g (y : f87_L5_Y) (x : f87_L5_X) : Bool := (f87_L5t y x).2.1
def f87_L5_next (y : f87_L5_Y) (x : f87_L5_X) : f87_L5_X := (f87_L5t y x).2.2.1
def f87_L5_e1 (y : f87_L5_Y) (x : f87_L5_X) : Bool := (f87_L5t y x).2.2.2.1
def f87_L5_e2 (y : f87_L5_Y) (x : f87_L5_X) : Bool := (f87_L5t y x).2.2.2.2
instance (y : f87_L5_Y) (x : f87_L5_X) : Decidable (f87_L5_ok y x) := by
 unfold f87_L5_ok f87_L5t
 try dsimp only
 infer_instance
def f87_L5_x1_0 (y : f87_L5_Y) (x : f87_L5_X) : Bool :=
 false
def f87_L5_spec : St → Option Out := loopS [(1, (.val (.sl (.int .i64)))), (2, (.val (.sl T53)))] [(7, vI)] f87_L5_g f87_L5_next f87_L5_ok fun y x => [ex 1 (some (f87_L5_e1 y x)) [(6, vB)] ((f87_L5_x1_0 y x), ()), ex 2 (some (f87_L5_e2 y x)) [(2, (.val (.sl T53)))] (y.2.1, ())]
abbrev f87_L10_Y : Type := ((List D53) × Unit)
abbrev f87_L10_X : Type := (Int × Unit)
def f87_L10t (y : f87_L10_Y) (x : f87_L10_X) : Prop × Bool × f87_L10_X × Bool × Bool :=
 let a2 := y.1 
 let a8 := x.1 
 let v41 := (decide (a8 < (len a2)))
 let v51 := (a8 - 1)
 let v55 := (decide ((nth a2 a8 Z53).1 ≤ (nth a2 v51 Z53).1))
 ((v41 = true → (InB a8 (len a2) ∧ (InR (a8 - 1) ∧ (InB v51 (len a2) ∧ ((!v55) = true → InR (a8 + 1)))))), (v41 && (!v55)), ((a8 + 1), ()), (v41 && v55), (!v41))
def f87_L10_ok (y : f87_L10_Y) (x : f87_L10_X) : Prop := (f87_L10t y x).1
def f87_L10_g (y : f87_L10_Y) (x : f87_L10_X) : Bool := (f87_L10t y x).2.1
def f87_L10_next (y : f87_L10_Y) (x : f87_L10_X) : f87_L10_X := (f87_L10t y x).2.2.1
def f87_L10_e1 (y : f87_L10_Y) (x : f87_L10_X) : Bool := (f87_L10t y x).2.2.2.1
def f87_L10_e4 (y : f87_L10_Y) (x : f87_L10_X) : Bool := (f87_L10t y x).2.2.2.2
instance (y : f87_L10_Y) (x : f87_L10_X) : Decidable (f87_L10_ok y x) := by
 unfold f87_L10_ok f87_L10t
 try dsimp only
 infer_instance
def f87_L10_x1_0 (y : f87_L10_Y) (x : f87_L10_X) : Bool :=
 false
def f87_L10_spec : St → Option Out := loopS [(2, (.val (.sl T53)))] [(8, vI)] f87_L10_g f87_L10_next f87_L10_ok fun y x => [ex 1 (some (f87_L10_e1 y x)) [(6, vB)] ((f87_L10_x1_0 y x), ()), ex 4 (some (f87_L10_e4 y x)) [] ()]
def f87t (p0 : Int) (p1 : (List Int)) (p2 : (List D53)) : Prop × Bool :=
 let v10 := (p0 == 2)
 let v19 := (bif v10 then (decide ((nth p1 (1 : Int) (0 : Int)) ≤ (nth p1 (0 : Int) (0 : Int)))) else false)
 let v21 := (p0 == 3)
 let y5 := (p1, p2, ())
 let x5 := ((2 : Int), ())
 let e5 := (loopEnd (f87_L5_g y5) (f87_L5_next y5) x5)
 let y10 := ((bif v21 then p2 else p2), ())
 let x10 := ((1 : Int), ())
 let e10 := (loopEnd (f87_L10_g y10) (f87_L10_next y10) x10)
 (((v10 = true → InB (1 : Int) (len p1)) ∧ ((v10 = true → InB (0 : Int) (len p1)) ∧ ((!v19) = true → ((v21 = true → (Am.Ends (f87_L5_g y5) (f87_L5_next y5) (f87_L5_ok y5) x5)) ∧ ((bif v21 then (f87_L5_e2 y5 e5) else true) = true → (Am.Ends (f87_L10_g y10) (f87_L10_next y10) (f87_L10_ok y10) x10)))))), (bif v19 then false else (bif ((f87_L5_e1 y5 e5) && v21) then (f87_L5_x1_0 y5 e5) else (bif (f87_L10_e1 y10 e10) then (f87_L10_x1_0 y10 e10) else true))))
def f87_ok (p0 : Int) (p1 : (List Int)) (p2 : (List D53)) : Prop := (f87t p0 p1 p2).1
def f87 (p0 : Int) (p1 : (List Int)) (p2 : (List D53)) : Bool := (f87t p0 p1 p2).2
instance (p0 : Int) (p1 : (List Int)) (p2 : (List D53)) : Decidable (f87_ok p0 p1 p2) := by
 unfold f87_ok f87t
 try dsimp only
 infer_instance
def f87_spec : Am.Spec := fnSpec [(0, vI), (1, (.val (.sl (.int .i64)))), (2, (.val (.sl T53)))] vB [] (fun x => f87_ok x.1 x.2.1 x.2.2.1) (fun x => f87 x.1 x.2.1 x.2.2.1) (fun _ => ())
def f87_ctx : Ctx := Cx tys [] [(5, f87_L5_spec), (10, f87_L10_spec)] [] false 56 [] []
theorem f87_cok : CtxOk Tryz.prog f87_ctx := ctxOk_mk tys_ok rfl trivial rfl (by kernel_rfl)
noncomputable def f87_code : Code := Tryz.f87.body.getD .skip
noncomputable def f87_L5 : Code := nthLoop f87_code 0
theorem f87_L5_is : LoopSnd Tryz.prog f87_ctx f87_L5 := lgen f87_cok mixed (sp := f87_L5_spec) rfl [[(6, vB)], [(2, (.val (.sl T53)))]] (bs := []) (by kernel_rfl) trivial (by kernel_rfl) (by kernel_rfl) fun y x => by kernel_rfl
noncomputable def f87_L10 : Code := nthLoop f87_code 1
theorem f87_L10_is : LoopSnd Tryz.prog f87_ctx f87_L10 := lgen f87_cok mixed (sp := f87_L10_spec) rfl [[(6, vB)], []] (bs := []) (by kernel_rfl) trivial (by kernel_rfl) (by kernel_rfl) fun y x => by kernel_rfl
theorem f87_is : SpecOk Tryz.prog 87 f87_spec := fgen f87_cok mixed Tryz.func87 (by kernel_rfl) (bs := [f87_L5, f87_L10]) (by kernel_rfl) ⟨f87_L5_is, f87_L10_is, trivial⟩ fun x => by kernel_rfl

-- imageeditor/adjust.Check
def f59t (p0 : Int) (p1 : (List Int)) (p2 : (List D53)) : Prop × Int :=
 let v13 := (bif (decide (p0 < 1)) then true else (decide (p0 > 11)))
 let v17 := (len p1)
 let v27 := (bif (!(f85 p0 v17)) then true else (!(Ty.eqb .bool (decide ((len p2) > 0)) (p0 == 10))))
 let v31 := (decide ((len p2) > 16))
 let v37 := (!(f86 p0 p1 p2))
 let m6_4 := (bif (bif v13 then true else (bif v27 then true else (bif v31 then true else (bif v37 then true else (!(f87 p0 p1 p2)))))) then (bif v13 then (8 : Int) else (bif v27 then (1 : Int) else (bif v31 then (3 : Int) else (bif v37 then (2 : Int) else (24 : Int))))) else (0 : Int))
 ((v13 = false → ((f85_ok p0 v17) ∧ (v27 = false → (v31 = false → ((f86_ok p0 p1 p2) ∧ (v37 = false → (f87_ok p0 p1 p2))))))), m6_4)
def f59_ok (p0 : Int) (p1 : (List Int)) (p2 : (List D53)) : Prop := (f59t p0 p1 p2).1
def f59 (p0 : Int) (p1 : (List Int)) (p2 : (List D53)) : Int := (f59t p0 p1 p2).2
instance (p0 : Int) (p1 : (List Int)) (p2 : (List D53)) : Decidable (f59_ok p0 p1 p2) := by
 unfold f59_ok f59t
 try dsimp only
 infer_instance
def f59_spec : Am.Spec := fnSpec [(0, vI), (1, (.val (.sl (.int .i64)))), (2, (.val (.sl T53)))] vI [] (fun x => f59_ok x.1 x.2.1 x.2.2.1) (fun x => f59 x.1 x.2.1 x.2.2.1) (fun _ => ())
def f59_ctx : Ctx := Cx tys [(85, f85_spec), (86, f86_spec), (87, f87_spec)] [] [] false 44 [] []
theorem f59_cok : CtxOk Tryz.prog f59_ctx := ctxOk_mk tys_ok rfl ⟨f85_is, f86_is, f87_is, trivial⟩ rfl (by kernel_rfl)
theorem f59_is : SpecOk Tryz.prog 59 f59_spec := fgen f59_cok mixed Tryz.func59 (by kernel_rfl) (bs := []) (by kernel_rfl) trivial fun x => by kernel_rfl

-- imageeditor/filter.spans
def f88t (p0 : Int) : Prop × (List D55) :=
 let v5 := (p0 == 1)
 let v6 := (p0 == 7)
 let m4_1 := (bif v5 then v5 else (bif v6 then v6 else (p0 == 8)))
 let v11 := (p0 == 2)
 let v15 := (p0 == 4)
 let v19 := (p0 == 3)
 let v24 := (p0 == 9)
 let m2_1 := (bif v19 then ([((0 : Int), (16 : Int), ()), ((0 : Int), (262140 : Int), ())] : List D55) else (bif v24 then ([((-16 : Int), (16 : Int), ()), ((-16 : Int), (16 : Int), ())] : List D55) else ([((1 : Int), (16 : Int), ())] : List D55)))
 let m2_5 := (bif (bif m4_1 then true else (bif v11 then true else (bif v15 then true else (bif v19 then true else (bif v24 then true else (p0 == 10)))))) then (bif m4_1 then ([((0 : Int), (16 : Int), ())] : List D55) else (bif v11 then ([((0 : Int), (7 : Int), ())] : List D55) else (bif v15 then ([((0 : Int), (4 : Int), ())] : List D55) else m2_1))) else [])
 (True, m2_5)
def f88_ok (p0 : Int) : Prop := (f88t p0).1
def f88 (p0 : Int) : (List D55) := (f88t p0).2
instance (p0 : Int) : Decidable (f88_ok p0) := by
 unfold f88_ok f88t
 try dsimp only
 infer_instance
def f88_spec : Am.Spec := fnSpec [(0, vI)] (.own T55 0 false) [] (fun x => f88_ok x.1) (fun x => f88 x.1) (fun _ => ())
def f88_ctx : Ctx := Cx tys [] [] [(11, [(4, 0, 9, 0)]), (15, [(4, 0, 13, 0)]), (19, [(4, 0, 17, 0)]), (23, [(4, 0, 22, 0)]), (27, [(4, 0, 27, 0)]), (31, [(4, 0, 31, 0)])] false 32 [] []
theorem f88_cok : CtxOk Tryz.prog f88_ctx := ctxOk_mk tys_ok rfl trivial rfl (by kernel_rfl)
theorem f88_is : SpecOk Tryz.prog 88 f88_spec := fgen f88_cok mixed Tryz.func88 (by kernel_rfl) (bs := []) (by kernel_rfl) trivial fun x => by kernel_rfl

-- imageeditor/filter.Check
abbrev f60_L7_Y : Type := ((List D55) × (List Int) × Int × Unit)
abbrev f60_L7_X : Type := (Int × Unit)
def f60_L7t (y : f60_L7_Y) (x : f60_L7_X) : Prop × Bool × f60_L7_X × Bool × Bool :=
 let a5 := y.1 
 let a21 := y.2.1 
 let a23 := x.1 
 let v24 := (decide (a23 < y.2.2.1))
 let v26 := (nth a21 a23 (0 : Int))
 let v34 := (decide (v26 < (nth a5 a23 Z55).1))
 let v43 := (bif v34 then true else (decide (v26 > (nth a5 a23 Z55).2.1)))
 ((v24 = true → (InB a23 (len a21) ∧ (InB a23 (len a5) ∧ (((!v34) = true → InB a23 (len a5)) ∧ ((!v43) = true → InR (a23 + 1)))))), (v24 && (!v43)), ((a23 + 1), ()), (v24 && v43), (!v24))
def f60_L7_ok (y : f60_L7_Y) (x : f60_L7_X) : Prop := (f60_L7t y x).1
def f60_L7_g (y : f60_L7_Y) (x : f60_L7_X) : Bool := (f60_L7t y x).2.1
def f60_L7_next (y : f60_L7_Y) (x : f60_L7_X) : f60_L7_X := (f60_L7t y x).2.2.1
def f60_L7_e1 (y : f60_L7_Y) (x : f60_L7_X) : Bool := (f60_L7t y x).2.2.2.1
def f60_L7_e2 (y : f60_L7_Y) (x : f60_L7_X) : Bool := (f60_L7t y x).2.2.2.2
instance (y : f60_L7_Y) (x : f60_L7_X) : Decidable (f60_L7_ok y x) := by
 unfold f60_L7_ok f60_L7t
 try dsimp only
 infer_instance
def f60_L7_x1_0 (y : f60_L7_Y) (x : f60_L7_X) : Int :=
 (2 : Int)
def f60_L7_spec : St → Option Out := loopS [(5, (.own T55 1005 false)), (21, (.val (.sl (.int .i64)))), (22, vI)] [(23, vI)] f60_L7_g f60_L7_next f60_L7_ok fun y x => [ex 1 (some (f60_L7_e1 y x)) [(4, vI)] ((f60_L7_x1_0 y x), ()), ex 2 (some (f60_L7_e2 y x)) [] ()]
def f60t (p0 : Int) (p1 : (List Int)) : Prop × Int :=
 let v13 := (bif (decide (p0 < 1)) then true else (decide (p0 > 10)))
 let v15 := (f88 p0)
 let v20 := ((len p1) != (len v15))
 let y7 := (v15, p1, (len p1), ())
 let x7 := ((0 : Int), ())
 let e7 := (loopEnd (f60_L7_g y7) (f60_L7_next y7) x7)
 (((!v13) = true → ((f88_ok p0) ∧ ((!v20) = true → (Am.Ends (f60_L7_g y7) (f60_L7_next y7) (f60_L7_ok y7) x7)))), (bif v13 then (8 : Int) else (bif v20 then (1 : Int) else (bif (f60_L7_e1 y7 e7) then (f60_L7_x1_0 y7 e7) else (0 : Int)))))
def f60_ok (p0 : Int) (p1 : (List Int)) : Prop := (f60t p0 p1).1
def f60 (p0 : Int) (p1 : (List Int)) : Int := (f60t p0 p1).2
instance (p0 : Int) (p1 : (List Int)) : Decidable (f60_ok p0 p1) := by
 unfold f60_ok f60t
 try dsimp only
 infer_instance
def f60_spec : Am.Spec := fnSpec [(0, vI), (1, (.val (.sl (.int .i64))))] vI [] (fun x => f60_ok x.1 x.2.1) (fun x => f60 x.1 x.2.1) (fun _ => ())
def f60_ctx : Ctx := Cx tys [(88, f88_spec)] [(7, f60_L7_spec)] [(7, [(4, 0, 15, 1005)])] false 45 [] []
theorem f60_cok : CtxOk Tryz.prog f60_ctx := ctxOk_mk tys_ok rfl ⟨f88_is, trivial⟩ rfl (by kernel_rfl)
noncomputable def f60_code : Code := Tryz.f60.body.getD .skip
noncomputable def f60_L7 : Code := nthLoop f60_code 0
theorem f60_L7_is : LoopSnd Tryz.prog f60_ctx f60_L7 := lgen f60_cok mixed (sp := f60_L7_spec) rfl [[(4, vI)], []] (bs := []) (by kernel_rfl) trivial (by kernel_rfl) (by kernel_rfl) fun y x => by kernel_rfl
theorem f60_is : SpecOk Tryz.prog 60 f60_spec := fgen f60_cok mixed Tryz.func60 (by kernel_rfl) (bs := [f60_L7]) (by kernel_rfl) ⟨f60_L7_is, trivial⟩ fun x => by kernel_rfl

-- imageeditor/warp.Check
abbrev f61_L6_Y : Type := ((List D55) × Int × Unit)
abbrev f61_L6_X : Type := (Int × Unit)
def f61_L6t (y : f61_L6_Y) (x : f61_L6_X) : Prop × Bool × f61_L6_X × Bool × Bool :=
 let a43 := y.1 
 let a45 := x.1 
 let v46 := (decide (a45 < y.2.1))
 let v47 := (nth a43 a45 Z55)
 let v66 := (bif (bif (bif (decide (v47.1 < (-1048576))) then true else (decide (v47.1 > 1048576))) then true else (decide (v47.2.1 < (-1048576)))) then true else (decide (v47.2.1 > 1048576)))
 ((v46 = true → (InB a45 (len a43) ∧ ((!v66) = true → InR (a45 + 1)))), (v46 && (!v66)), ((a45 + 1), ()), (v46 && v66), (!v46))
def f61_L6_ok (y : f61_L6_Y) (x : f61_L6_X) : Prop := (f61_L6t y x).1
def f61_L6_g (y : f61_L6_Y) (x : f61_L6_X) : Bool := (f61_L6t y x).2.1
def f61_L6_next (y : f61_L6_Y) (x : f61_L6_X) : f61_L6_X := (f61_L6t y x).2.2.1
def f61_L6_e1 (y : f61_L6_Y) (x : f61_L6_X) : Bool := (f61_L6t y x).2.2.2.1
def f61_L6_e2 (y : f61_L6_Y) (x : f61_L6_X) : Bool := (f61_L6t y x).2.2.2.2
instance (y : f61_L6_Y) (x : f61_L6_X) : Decidable (f61_L6_ok y x) := by
 unfold f61_L6_ok f61_L6t
 try dsimp only
 infer_instance
def f61_L6_x1_0 (y : f61_L6_Y) (x : f61_L6_X) : Int :=
 (2 : Int)
def f61_L6_spec : St → Option Out := loopS [(43, (.val (.sl T55))), (44, vI)] [(45, vI)] f61_L6_g f61_L6_next f61_L6_ok fun y x => [ex 1 (some (f61_L6_e1 y x)) [(2, vI)] ((f61_L6_x1_0 y x), ()), ex 2 (some (f61_L6_e2 y x)) [] ()]
def f61t (p0 : D35) : Prop × Int :=
 let v22 := (bif (bif (bif (decide (p0.1 < 2)) then true else (decide (p0.1 > 8))) then true else (decide (p0.2.1 < 2))) then true else (decide (p0.2.1 > 8)))
 let v30 := (bif (decide (p0.2.2.1 < 1)) then true else (decide (p0.2.2.1 > 256)))
 let v41 := (bif v30 then true else ((len p0.2.2.2.1) != (p0.1 * p0.2.1)))
 let y6 := (p0.2.2.2.1, (len p0.2.2.2.1), ())
 let x6 := ((0 : Int), ())
 let e6 := (loopEnd (f61_L6_g y6) (f61_L6_next y6) x6)
 (((!v22) = true → (((!v30) = true → InR (p0.1 * p0.2.1)) ∧ ((!v41) = true → (Am.Ends (f61_L6_g y6) (f61_L6_next y6) (f61_L6_ok y6) x6)))), (bif v22 then (15 : Int) else (bif v41 then (15 : Int) else (bif (f61_L6_e1 y6 e6) then (f61_L6_x1_0 y6 e6) else (0 : Int)))))
def f61_ok (p0 : D35) : Prop := (f61t p0).1
def f61 (p0 : D35) : Int := (f61t p0).2
instance (p0 : D35) : Decidable (f61_ok p0) := by
 unfold f61_ok f61t
 try dsimp only
 infer_instance
def f61_spec : Am.Spec := fnSpec [(0, (.val T35))] vI [] (fun x => f61_ok x.1) (fun x => f61 x.1) (fun _ => ())
def f61_ctx : Ctx := Cx tys [] [(6, f61_L6_spec)] [] false 68 [] []
theorem f61_cok : CtxOk Tryz.prog f61_ctx := ctxOk_mk tys_ok rfl trivial rfl (by kernel_rfl)
noncomputable def f61_code : Code := Tryz.f61.body.getD .skip
noncomputable def f61_L6 : Code := nthLoop f61_code 0
theorem f61_L6_is : LoopSnd Tryz.prog f61_ctx f61_L6 := lgen f61_cok mixed (sp := f61_L6_spec) rfl [[(2, vI)], []] (bs := []) (by kernel_rfl) trivial (by kernel_rfl) (by kernel_rfl) fun y x => by kernel_rfl
theorem f61_is : SpecOk Tryz.prog 61 f61_spec := fgen f61_cok mixed Tryz.func61 (by kernel_rfl) (bs := [f61_L6]) (by kernel_rfl) ⟨f61_L6_is, trivial⟩ fun x => by kernel_rfl

-- imageeditor/node.checkContent
def f27t (p0 : D37) : Prop × Int :=
 let v6 := (p0.2.1 == 2)
 let v11 := (p0.2.1 == 3)
 let v16 := (p0.2.1 == 4)
 let v27 := (p0.2.1 == 5)
 let v31 := (p0.2.1 == 6)
 let v35 := (p0.2.1 == 7)
 let v44 := (p0.2.1 == 8)
 let v51 := (p0.2.1 == 9)
 let m50 := (bif v51 then v51 else (p0.2.1 == 10))
 let v62 := (p0.2.1 == 11)
 let c_2 := (bif v44 then true else (bif m50 then (bif (decide (p0.2.2.2.2.2.2.2.2.2.2.2.2.2.2.2.2.2.2.2.2.2.2.2.2.2.2.1 < 1)) then true else (decide (p0.2.2.2.2.2.2.2.2.2.2.2.2.2.2.2.2.2.2.2.2.2.2.2.2.2.2.1 > 1073741824))) else v62))
 let m2_2 := (bif v35 then (f59 p0.2.2.2.2.2.2.2.2.2.2.2.2.2.2.1 p0.2.2.2.2.2.2.2.2.2.2.2.2.2.2.2.1 p0.2.2.2.2.2.2.2.2.2.2.2.2.2.2.2.2.2.1) else (bif v44 then (f60 p0.2.2.2.2.2.2.2.2.2.2.2.2.2.2.1 p0.2.2.2.2.2.2.2.2.2.2.2.2.2.2.2.1) else (bif m50 then (2 : Int) else (f61 p0.2.2.2.2.2.2.2.2.2.2.2.2.2.2.2.2.2.2.2.2.2.2.2.2.2.2.2.1))))
 let m2_5 := (bif v16 then (f56 p0.2.2.2.2.2.2.2.2.2.2.2.2.2.2.1 p0.2.2.2.2.2.2.2.2.2.2.2.2.2.2.2.1 p0.2.2.2.2.2.2.2.2.2.2.2.2.2.2.2.2.1 p0.2.2.2.2.2.2.2.2.2.2.2.2.2.2.2.2.2.1) else (bif v27 then (f57 p0) else (bif v31 then (f58 p0) else m2_2)))
 let m2_8 := (bif (bif v6 then true else (bif v11 then true else (bif v16 then true else (bif v27 then true else (bif v31 then true else (bif v35 then true else c_2)))))) then (bif v6 then (f54 p0.2.2.2.2.2.2.2.2.2.2.2.2.1) else (bif v11 then (f55 p0.2.2.2.2.2.2.2.2.2.2.2.2.2.1) else m2_5)) else (0 : Int))
 (((v6 = true → (f54_ok p0.2.2.2.2.2.2.2.2.2.2.2.2.1)) ∧ (v6 = false → ((v11 = true → (f55_ok p0.2.2.2.2.2.2.2.2.2.2.2.2.2.1)) ∧ (v11 = false → ((v16 = true → (f56_ok p0.2.2.2.2.2.2.2.2.2.2.2.2.2.2.1 p0.2.2.2.2.2.2.2.2.2.2.2.2.2.2.2.1 p0.2.2.2.2.2.2.2.2.2.2.2.2.2.2.2.2.1 p0.2.2.2.2.2.2.2.2.2.2.2.2.2.2.2.2.2.1)) ∧ (v16 = false → ((v27 = true → (f57_ok p0)) ∧ (v27 = false → ((v31 = true → (f58_ok p0)) ∧ (v31 = false → ((v35 = true → (f59_ok p0.2.2.2.2.2.2.2.2.2.2.2.2.2.2.1 p0.2.2.2.2.2.2.2.2.2.2.2.2.2.2.2.1 p0.2.2.2.2.2.2.2.2.2.2.2.2.2.2.2.2.2.1)) ∧ (v35 = false → ((v44 = true → (f60_ok p0.2.2.2.2.2.2.2.2.2.2.2.2.2.2.1 p0.2.2.2.2.2.2.2.2.2.2.2.2.2.2.2.1)) ∧ (v44 = false → (m50 = false → (v62 = true → (f61_ok p0.2.2.2.2.2.2.2.2.2.2.2.2.2.2.2.2.2.2.2.2.2.2.2.2.2.2.2.1))))))))))))))))), m2_8)
def f27_ok (p0 : D37) : Prop := (f27t p0).1
def f27 (p0 : D37) : Int := (f27t p0).2
instance (p0 : D37) : Decidable (f27_ok p0) := by
 unfold f27_ok f27t
 try dsimp only
 infer_instance
def f27_spec : Am.Spec := fnSpec [(0, (.val T37))] vI [] (fun x => f27_ok x.1) (fun x => f27 x.1) (fun _ => ())
def f27_ctx : Ctx := Cx tys [(54, f54_spec), (55, f55_spec), (56, f56_spec), (57, f57_spec), (58, f58_spec), (59, f59_spec), (60, f60_spec), (61, f61_spec)] [] [] false 66 [] []
theorem f27_cok : CtxOk Tryz.prog f27_ctx := ctxOk_mk tys_ok rfl ⟨f54_is, f55_is, f56_is, f57_is, f58_is, f59_is, f60_is, f61_is, trivial⟩ rfl (by kernel_rfl)
theorem f27_is : SpecOk Tryz.prog 27 f27_spec := fgen f27_cok mixed Tryz.func27 (by kernel_rfl) (bs := []) (by kernel_rfl) trivial fun x => by kernel_rfl

-- imageeditor/node.bare
def f28t (p0 : D37) : Prop × Bool :=
 let v17 := (bif (bif (!(Ty.eqb T25 p0.2.2.2.2.2.2.2.2.2.2.1 ((0 : Int), (0 : Int), (0 : Int), (0 : Int), (0 : Int), (0 : Int), ()))) then true else (p0.2.2.2.2.2.2.2.2.2.2.2.1 != 0)) then true else (!(Ty.eqb T30 p0.2.2.2.2.2.2.2.2.2.2.2.2.2.1 ((0 : Int), (0 : Int), (0 : Int), (0 : Int), ()))))
 let v54 := (bif (bif (bif (p0.2.2.2.2.2.2.2.2.2.2.2.2.2.2.1 != 0) then true else ((len p0.2.2.2.2.2.2.2.2.2.2.2.2.2.2.2.1) != 0)) then true else (p0.2.2.2.2.2.2.2.2.2.2.2.2.2.2.2.2.1 != 0)) then true else ((len p0.2.2.2.2.2.2.2.2.2.2.2.2.2.2.2.2.2.1) != 0))
 let v73 := (bif (bif (bif ((len p0.2.2.2.2.2.2.2.2.2.2.2.2.2.2.2.2.2.2.1) != 0) then true else (p0.2.2.2.2.2.2.2.2.2.2.2.2.2.2.2.2.2.2.2.1 != 0)) then true else (p0.2.2.2.2.2.2.2.2.2.2.2.2.2.2.2.2.2.2.2.2.1 != 0)) then true else (p0.2.2.2.2.2.2.2.2.2.2.2.2.2.2.2.2.2.2.2.2.2.1 != 0))
 let v91 := (bif (bif (!(p0.2.2.2.2.2.2.2.2.2.2.2.2.2.2.2.2.2.2.2.2.2.2.2.1 == ([] : List UInt8))) then true else (p0.2.2.2.2.2.2.2.2.2.2.2.2.2.2.2.2.2.2.2.2.2.2.2.2.1 != 0)) then true else (p0.2.2.2.2.2.2.2.2.2.2.2.2.2.2.2.2.2.2.2.2.2.2.2.2.2.1 != 0))
 let v112 := (bif (bif (p0.2.2.2.2.2.2.2.2.2.2.2.2.2.2.2.2.2.2.2.2.2.2.2.2.2.2.2.1.1 == 0) then (p0.2.2.2.2.2.2.2.2.2.2.2.2.2.2.2.2.2.2.2.2.2.2.2.2.2.2.2.1.2.1 == 0) else false) then (p0.2.2.2.2.2.2.2.2.2.2.2.2.2.2.2.2.2.2.2.2.2.2.2.2.2.2.2.1.2.2.1 == 0) else false)
 let m2 := (bif (bif v91 then true else (p0.2.2.2.2.2.2.2.2.2.2.2.2.2.2.2.2.2.2.2.2.2.2.2.2.2.2.1 != 0)) then false else (bif v112 then ((len p0.2.2.2.2.2.2.2.2.2.2.2.2.2.2.2.2.2.2.2.2.2.2.2.2.2.2.2.1.2.2.2.1) == 0) else false))
 let m2_3 := (bif (bif (bif (p0.2.2.2.2.2.2.2.2.2.2.2.2.1.1 != 0) then true else (p0.2.2.2.2.2.2.2.2.2.2.2.2.1.2.1 != 0)) then true else ((len p0.2.2.2.2.2.2.2.2.2.2.2.2.1.2.2.1) != 0)) then false else (bif v54 then false else (bif (bif v73 then true else (p0.2.2.2.2.2.2.2.2.2.2.2.2.2.2.2.2.2.2.2.2.2.2.1 != 0)) then false else m2)))
 (True, (bif v17 then false else m2_3))
def f28_ok (p0 : D37) : Prop := (f28t p0).1
def f28 (p0 : D37) : Bool := (f28t p0).2
instance (p0 : D37) : Decidable (f28_ok p0) := by
 unfold f28_ok f28t
 try dsimp only
 infer_instance
def f28_spec : Am.Spec := fnSpec [(0, (.val T37))] vB [] (fun x => f28_ok x.1) (fun x => f28 x.1) (fun _ => ())
def f28_ctx : Ctx := Cx tys [] [] [] false 120 [] []
theorem f28_cok : CtxOk Tryz.prog f28_ctx := ctxOk_mk tys_ok rfl trivial rfl (by kernel_rfl)
theorem f28_is : SpecOk Tryz.prog 28 f28_spec := fgen f28_cok mixed Tryz.func28 (by kernel_rfl) (bs := []) (by kernel_rfl) trivial fun x => by kernel_rfl

-- imageeditor/node.rest
def f29t (p0 : D37) : Prop × D37 :=
 let s_1 := (p0.1, p0.2.1, p0.2.2.1, p0.2.2.2.1, p0.2.2.2.2.1, p0.2.2.2.2.2.1, p0.2.2.2.2.2.2.1, p0.2.2.2.2.2.2.2.1, p0.2.2.2.2.2.2.2.2.1, p0.2.2.2.2.2.2.2.2.2.1, ((0 : Int), (0 : Int), (0 : Int), (0 : Int), (0 : Int), (0 : Int), ()), p0.2.2.2.2.2.2.2.2.2.2.2.1, p0.2.2.2.2.2.2.2.2.2.2.2.2.1, p0.2.2.2.2.2.2.2.2.2.2.2.2.2.1, p0.2.2.2.2.2.2.2.2.2.2.2.2.2.2.1, p0.2.2.2.2.2.2.2.2.2.2.2.2.2.2.2.1, p0.2.2.2.2.2.2.2.2.2.2.2.2.2.2.2.2.1, p0.2.2.2.2.2.2.2.2.2.2.2.2.2.2.2.2.2.1, p0.2.2.2.2.2.2.2.2.2.2.2.2.2.2.2.2.2.2.1, p0.2.2.2.2.2.2.2.2.2.2.2.2.2.2.2.2.2.2.2.1, p0.2.2.2.2.2.2.2.2.2.2.2.2.2.2.2.2.2.2.2.2.1, p0.2.2.2.2.2.2.2.2.2.2.2.2.2.2.2.2.2.2.2.2.2.1, p0.2.2.2.2.2.2.2.2.2.2.2.2.2.2.2.2.2.2.2.2.2.2.1, p0.2.2.2.2.2.2.2.2.2.2.2.2.2.2.2.2.2.2.2.2.2.2.2.1, p0.2.2.2.2.2.2.2.2.2.2.2.2.2.2.2.2.2.2.2.2.2.2.2.2.1, p0.2.2.2.2.2.2.2.2.2.2.2.2.2.2.2.2.2.2.2.2.2.2.2.2.2.1, p0.2.2.2.2.2.2.2.2.2.2.2.2.2.2.2.2.2.2.2.2.2.2.2.2.2.2.1, p0.2.2.2.2.2.2.2.2.2.2.2.2.2.2.2.2.2.2.2.2.2.2.2.2.2.2.2.1, ())
 let m1 := (bif (f15 p0.2.1) then s_1 else p0)
 let s_2 := (m1.1, m1.2.1, m1.2.2.1, m1.2.2.2.1, m1.2.2.2.2.1, m1.2.2.2.2.2.1, m1.2.2.2.2.2.2.1, m1.2.2.2.2.2.2.2.1, m1.2.2.2.2.2.2.2.2.1, m1.2.2.2.2.2.2.2.2.2.1, m1.2.2.2.2.2.2.2.2.2.2.1, (0 : Int), m1.2.2.2.2.2.2.2.2.2.2.2.2.1, m1.2.2.2.2.2.2.2.2.2.2.2.2.2.1, m1.2.2.2.2.2.2.2.2.2.2.2.2.2.2.1, m1.2.2.2.2.2.2.2.2.2.2.2.2.2.2.2.1, m1.2.2.2.2.2.2.2.2.2.2.2.2.2.2.2.2.1, m1.2.2.2.2.2.2.2.2.2.2.2.2.2.2.2.2.2.1, m1.2.2.2.2.2.2.2.2.2.2.2.2.2.2.2.2.2.2.1, m1.2.2.2.2.2.2.2.2.2.2.2.2.2.2.2.2.2.2.2.1, m1.2.2.2.2.2.2.2.2.2.2.2.2.2.2.2.2.2.2.2.2.1, m1.2.2.2.2.2.2.2.2.2.2.2.2.2.2.2.2.2.2.2.2.2.1, m1.2.2.2.2.2.2.2.2.2.2.2.2.2.2.2.2.2.2.2.2.2.2.1, m1.2.2.2.2.2.2.2.2.2.2.2.2.2.2.2.2.2.2.2.2.2.2.2.1, m1.2.2.2.2.2.2.2.2.2.2.2.2.2.2.2.2.2.2.2.2.2.2.2.2.1, m1.2.2.2.2.2.2.2.2.2.2.2.2.2.2.2.2.2.2.2.2.2.2.2.2.2.1, m1.2.2.2.2.2.2.2.2.2.2.2.2.2.2.2.2.2.2.2.2.2.2.2.2.2.2.1, m1.2.2.2.2.2.2.2.2.2.2.2.2.2.2.2.2.2.2.2.2.2.2.2.2.2.2.2.1, ())
 let m1_1 := (bif (f17 m1.2.1) then s_2 else m1)
 let s_4 := (m1_1.1, m1_1.2.1, m1_1.2.2.1, m1_1.2.2.2.1, m1_1.2.2.2.2.1, m1_1.2.2.2.2.2.1, m1_1.2.2.2.2.2.2.1, m1_1.2.2.2.2.2.2.2.1, m1_1.2.2.2.2.2.2.2.2.1, m1_1.2.2.2.2.2.2.2.2.2.1, m1_1.2.2.2.2.2.2.2.2.2.2.1, m1_1.2.2.2.2.2.2.2.2.2.2.2.1, ((0 : Int), (0 : Int), ([] : List D30), ()), m1_1.2.2.2.2.2.2.2.2.2.2.2.2.2.1, m1_1.2.2.2.2.2.2.2.2.2.2.2.2.2.2.1, m1_1.2.2.2.2.2.2.2.2.2.2.2.2.2.2.2.1, m1_1.2.2.2.2.2.2.2.2.2.2.2.2.2.2.2.2.1, m1_1.2.2.2.2.2.2.2.2.2.2.2.2.2.2.2.2.2.1, m1_1.2.2.2.2.2.2.2.2.2.2.2.2.2.2.2.2.2.2.1, m1_1.2.2.2.2.2.2.2.2.2.2.2.2.2.2.2.2.2.2.2.1, m1_1.2.2.2.2.2.2.2.2.2.2.2.2.2.2.2.2.2.2.2.2.1, m1_1.2.2.2.2.2.2.2.2.2.2.2.2.2.2.2.2.2.2.2.2.2.1, m1_1.2.2.2.2.2.2.2.2.2.2.2.2.2.2.2.2.2.2.2.2.2.2.1, m1_1.2.2.2.2.2.2.2.2.2.2.2.2.2.2.2.2.2.2.2.2.2.2.2.1, m1_1.2.2.2.2.2.2.2.2.2.2.2.2.2.2.2.2.2.2.2.2.2.2.2.2.1, m1_1.2.2.2.2.2.2.2.2.2.2.2.2.2.2.2.2.2.2.2.2.2.2.2.2.2.1, m1_1.2.2.2.2.2.2.2.2.2.2.2.2.2.2.2.2.2.2.2.2.2.2.2.2.2.2.1, m1_1.2.2.2.2.2.2.2.2.2.2.2.2.2.2.2.2.2.2.2.2.2.2.2.2.2.2.2.1, ())
 let s_6 := (m1_1.1, m1_1.2.1, m1_1.2.2.1, m1_1.2.2.2.1, m1_1.2.2.2.2.1, m1_1.2.2.2.2.2.1, m1_1.2.2.2.2.2.2.1, m1_1.2.2.2.2.2.2.2.1, m1_1.2.2.2.2.2.2.2.2.1, m1_1.2.2.2.2.2.2.2.2.2.1, m1_1.2.2.2.2.2.2.2.2.2.2.1, m1_1.2.2.2.2.2.2.2.2.2.2.2.1, m1_1.2.2.2.2.2.2.2.2.2.2.2.2.1, ((0 : Int), (0 : Int), (0 : Int), (0 : Int), ()), m1_1.2.2.2.2.2.2.2.2.2.2.2.2.2.2.1, m1_1.2.2.2.2.2.2.2.2.2.2.2.2.2.2.2.1, m1_1.2.2.2.2.2.2.2.2.2.2.2.2.2.2.2.2.1, m1_1.2.2.2.2.2.2.2.2.2.2.2.2.2.2.2.2.2.1, m1_1.2.2.2.2.2.2.2.2.2.2.2.2.2.2.2.2.2.2.1, m1_1.2.2.2.2.2.2.2.2.2.2.2.2.2.2.2.2.2.2.2.1, m1_1.2.2.2.2.2.2.2.2.2.2.2.2.2.2.2.2.2.2.2.2.1, m1_1.2.2.2.2.2.2.2.2.2.2.2.2.2.2.2.2.2.2.2.2.2.1, m1_1.2.2.2.2.2.2.2.2.2.2.2.2.2.2.2.2.2.2.2.2.2.2.1, m1_1.2.2.2.2.2.2.2.2.2.2.2.2.2.2.2.2.2.2.2.2.2.2.2.1, m1_1.2.2.2.2.2.2.2.2.2.2.2.2.2.2.2.2.2.2.2.2.2.2.2.2.1, m1_1.2.2.2.2.2.2.2.2.2.2.2.2.2.2.2.2.2.2.2.2.2.2.2.2.2.1, m1_1.2.2.2.2.2.2.2.2.2.2.2.2.2.2.2.2.2.2.2.2.2.2.2.2.2.2.1, m1_1.2.2.2.2.2.2.2.2.2.2.2.2.2.2.2.2.2.2.2.2.2.2.2.2.2.2.2.1, ())
 let s_10 := (m1_1.1, m1_1.2.1, m1_1.2.2.1, m1_1.2.2.2.1, m1_1.2.2.2.2.1, m1_1.2.2.2.2.2.1, m1_1.2.2.2.2.2.2.1, m1_1.2.2.2.2.2.2.2.1, m1_1.2.2.2.2.2.2.2.2.1, m1_1.2.2.2.2.2.2.2.2.2.1, m1_1.2.2.2.2.2.2.2.2.2.2.1, m1_1.2.2.2.2.2.2.2.2.2.2.2.1, m1_1.2.2.2.2.2.2.2.2.2.2.2.2.1, m1_1.2.2.2.2.2.2.2.2.2.2.2.2.2.1, (0 : Int), ([] : List Int), (0 : Int), ([] : List D53), m1_1.2.2.2.2.2.2.2.2.2.2.2.2.2.2.2.2.2.2.1, m1_1.2.2.2.2.2.2.2.2.2.2.2.2.2.2.2.2.2.2.2.1, m1_1.2.2.2.2.2.2.2.2.2.2.2.2.2.2.2.2.2.2.2.2.1, m1_1.2.2.2.2.2.2.2.2.2.2.2.2.2.2.2.2.2.2.2.2.2.1, m1_1.2.2.2.2.2.2.2.2.2.2.2.2.2.2.2.2.2.2.2.2.2.2.1, m1_1.2.2.2.2.2.2.2.2.2.2.2.2.2.2.2.2.2.2.2.2.2.2.2.1, m1_1.2.2.2.2.2.2.2.2.2.2.2.2.2.2.2.2.2.2.2.2.2.2.2.2.1, m1_1.2.2.2.2.2.2.2.2.2.2.2.2.2.2.2.2.2.2.2.2.2.2.2.2.2.1, m1_1.2.2.2.2.2.2.2.2.2.2.2.2.2.2.2.2.2.2.2.2.2.2.2.2.2.2.1, m1_1.2.2.2.2.2.2.2.2.2.2.2.2.2.2.2.2.2.2.2.2.2.2.2.2.2.2.2.1, ())
 let s_17 := (m1_1.1, m1_1.2.1, m1_1.2.2.1, m1_1.2.2.2.1, m1_1.2.2.2.2.1, m1_1.2.2.2.2.2.1, m1_1.2.2.2.2.2.2.1, m1_1.2.2.2.2.2.2.2.1, m1_1.2.2.2.2.2.2.2.2.1, m1_1.2.2.2.2.2.2.2.2.2.1, m1_1.2.2.2.2.2.2.2.2.2.2.1, m1_1.2.2.2.2.2.2.2.2.2.2.2.1, m1_1.2.2.2.2.2.2.2.2.2.2.2.2.1, ((0 : Int), (0 : Int), (0 : Int), (0 : Int), ()), m1_1.2.2.2.2.2.2.2.2.2.2.2.2.2.2.1, m1_1.2.2.2.2.2.2.2.2.2.2.2.2.2.2.2.1, m1_1.2.2.2.2.2.2.2.2.2.2.2.2.2.2.2.2.1, m1_1.2.2.2.2.2.2.2.2.2.2.2.2.2.2.2.2.2.1, ([] : List D58), (0 : Int), (0 : Int), (0 : Int), (0 : Int), m1_1.2.2.2.2.2.2.2.2.2.2.2.2.2.2.2.2.2.2.2.2.2.2.2.1, m1_1.2.2.2.2.2.2.2.2.2.2.2.2.2.2.2.2.2.2.2.2.2.2.2.2.1, m1_1.2.2.2.2.2.2.2.2.2.2.2.2.2.2.2.2.2.2.2.2.2.2.2.2.2.1, m1_1.2.2.2.2.2.2.2.2.2.2.2.2.2.2.2.2.2.2.2.2.2.2.2.2.2.2.1, m1_1.2.2.2.2.2.2.2.2.2.2.2.2.2.2.2.2.2.2.2.2.2.2.2.2.2.2.2.1, ())
 let s_22 := (m1_1.1, m1_1.2.1, m1_1.2.2.1, m1_1.2.2.2.1, m1_1.2.2.2.2.1, m1_1.2.2.2.2.2.1, m1_1.2.2.2.2.2.2.1, m1_1.2.2.2.2.2.2.2.1, m1_1.2.2.2.2.2.2.2.2.1, m1_1.2.2.2.2.2.2.2.2.2.1, m1_1.2.2.2.2.2.2.2.2.2.2.1, m1_1.2.2.2.2.2.2.2.2.2.2.2.1, m1_1.2.2.2.2.2.2.2.2.2.2.2.2.1, ((0 : Int), (0 : Int), (0 : Int), (0 : Int), ()), m1_1.2.2.2.2.2.2.2.2.2.2.2.2.2.2.1, m1_1.2.2.2.2.2.2.2.2.2.2.2.2.2.2.2.1, m1_1.2.2.2.2.2.2.2.2.2.2.2.2.2.2.2.2.1, m1_1.2.2.2.2.2.2.2.2.2.2.2.2.2.2.2.2.2.1, m1_1.2.2.2.2.2.2.2.2.2.2.2.2.2.2.2.2.2.2.1, m1_1.2.2.2.2.2.2.2.2.2.2.2.2.2.2.2.2.2.2.2.1, m1_1.2.2.2.2.2.2.2.2.2.2.2.2.2.2.2.2.2.2.2.2.1, m1_1.2.2.2.2.2.2.2.2.2.2.2.2.2.2.2.2.2.2.2.2.2.1, m1_1.2.2.2.2.2.2.2.2.2.2.2.2.2.2.2.2.2.2.2.2.2.2.1, ([] : List UInt8), (0 : Int), (0 : Int), m1_1.2.2.2.2.2.2.2.2.2.2.2.2.2.2.2.2.2.2.2.2.2.2.2.2.2.2.1, m1_1.2.2.2.2.2.2.2.2.2.2.2.2.2.2.2.2.2.2.2.2.2.2.2.2.2.2.2.1, ())
 let s_25 := (m1_1.1, m1_1.2.1, m1_1.2.2.1, m1_1.2.2.2.1, m1_1.2.2.2.2.1, m1_1.2.2.2.2.2.1, m1_1.2.2.2.2.2.2.1, m1_1.2.2.2.2.2.2.2.1, m1_1.2.2.2.2.2.2.2.2.1, m1_1.2.2.2.2.2.2.2.2.2.1, m1_1.2.2.2.2.2.2.2.2.2.2.1, m1_1.2.2.2.2.2.2.2.2.2.2.2.1, m1_1.2.2.2.2.2.2.2.2.2.2.2.2.1, m1_1.2.2.2.2.2.2.2.2.2.2.2.2.2.1, (0 : Int), ([] : List Int), m1_1.2.2.2.2.2.2.2.2.2.2.2.2.2.2.2.2.1, ([] : List D53), m1_1.2.2.2.2.2.2.2.2.2.2.2.2.2.2.2.2.2.2.1, m1_1.2.2.2.2.2.2.2.2.2.2.2.2.2.2.2.2.2.2.2.1, m1_1.2.2.2.2.2.2.2.2.2.2.2.2.2.2.2.2.2.2.2.2.1, m1_1.2.2.2.2.2.2.2.2.2.2.2.2.2.2.2.2.2.2.2.2.2.1, m1_1.2.2.2.2.2.2.2.2.2.2.2.2.2.2.2.2.2.2.2.2.2.2.1, m1_1.2.2.2.2.2.2.2.2.2.2.2.2.2.2.2.2.2.2.2.2.2.2.2.1, m1_1.2.2.2.2.2.2.2.2.2.2.2.2.2.2.2.2.2.2.2.2.2.2.2.2.1, m1_1.2.2.2.2.2.2.2.2.2.2.2.2.2.2.2.2.2.2.2.2.2.2.2.2.2.1, m1_1.2.2.2.2.2.2.2.2.2.2.2.2.2.2.2.2.2.2.2.2.2.2.2.2.2.2.1, m1_1.2.2.2.2.2.2.2.2.2.2.2.2.2.2.2.2.2.2.2.2.2.2.2.2.2.2.2.1, ())
 let s_27 := (m1_1.1, m1_1.2.1, m1_1.2.2.1, m1_1.2.2.2.1, m1_1.2.2.2.2.1, m1_1.2.2.2.2.2.1, m1_1.2.2.2.2.2.2.1, m1_1.2.2.2.2.2.2.2.1, m1_1.2.2.2.2.2.2.2.2.1, m1_1.2.2.2.2.2.2.2.2.2.1, m1_1.2.2.2.2.2.2.2.2.2.2.1, m1_1.2.2.2.2.2.2.2.2.2.2.2.1, m1_1.2.2.2.2.2.2.2.2.2.2.2.2.1, m1_1.2.2.2.2.2.2.2.2.2.2.2.2.2.1, (0 : Int), ([] : List Int), m1_1.2.2.2.2.2.2.2.2.2.2.2.2.2.2.2.2.1, m1_1.2.2.2.2.2.2.2.2.2.2.2.2.2.2.2.2.2.1, m1_1.2.2.2.2.2.2.2.2.2.2.2.2.2.2.2.2.2.2.1, m1_1.2.2.2.2.2.2.2.2.2.2.2.2.2.2.2.2.2.2.2.1, m1_1.2.2.2.2.2.2.2.2.2.2.2.2.2.2.2.2.2.2.2.2.1, m1_1.2.2.2.2.2.2.2.2.2.2.2.2.2.2.2.2.2.2.2.2.2.1, m1_1.2.2.2.2.2.2.2.2.2.2.2.2.2.2.2.2.2.2.2.2.2.2.1, m1_1.2.2.2.2.2.2.2.2.2.2.2.2.2.2.2.2.2.2.2.2.2.2.2.1, m1_1.2.2.2.2.2.2.2.2.2.2.2.2.2.2.2.2.2.2.2.2.2.2.2.2.1, m1_1.2.2.2.2.2.2.2.2.2.2.2.2.2.2.2.2.2.2.2.2.2.2.2.2.2.1, m1_1.2.2.2.2.2.2.2.2.2.2.2.2.2.2.2.2.2.2.2.2.2.2.2.2.2.2.1, m1_1.2.2.2.2.2.2.2.2.2.2.2.2.2.2.2.2.2.2.2.2.2.2.2.2.2.2.2.1, ())
 let v54 := (m1_1.2.1 == 9)
 let s_28 := (m1_1.1, m1_1.2.1, m1_1.2.2.1, m1_1.2.2.2.1, m1_1.2.2.2.2.1, m1_1.2.2.2.2.2.1, m1_1.2.2.2.2.2.2.1, m1_1.2.2.2.2.2.2.2.1, m1_1.2.2.2.2.2.2.2.2.1, m1_1.2.2.2.2.2.2.2.2.2.1, m1_1.2.2.2.2.2.2.2.2.2.2.1, m1_1.2.2.2.2.2.2.2.2.2.2.2.1, m1_1.2.2.2.2.2.2.2.2.2.2.2.2.1, m1_1.2.2.2.2.2.2.2.2.2.2.2.2.2.1, m1_1.2.2.2.2.2.2.2.2.2.2.2.2.2.2.1, m1_1.2.2.2.2.2.2.2.2.2.2.2.2.2.2.2.1, m1_1.2.2.2.2.2.2.2.2.2.2.2.2.2.2.2.2.1, m1_1.2.2.2.2.2.2.2.2.2.2.2.2.2.2.2.2.2.1, m1_1.2.2.2.2.2.2.2.2.2.2.2.2.2.2.2.2.2.2.1, m1_1.2.2.2.2.2.2.2.2.2.2.2.2.2.2.2.2.2.2.2.1, m1_1.2.2.2.2.2.2.2.2.2.2.2.2.2.2.2.2.2.2.2.2.1, m1_1.2.2.2.2.2.2.2.2.2.2.2.2.2.2.2.2.2.2.2.2.2.1, m1_1.2.2.2.2.2.2.2.2.2.2.2.2.2.2.2.2.2.2.2.2.2.2.1, m1_1.2.2.2.2.2.2.2.2.2.2.2.2.2.2.2.2.2.2.2.2.2.2.2.1, m1_1.2.2.2.2.2.2.2.2.2.2.2.2.2.2.2.2.2.2.2.2.2.2.2.2.1, m1_1.2.2.2.2.2.2.2.2.2.2.2.2.2.2.2.2.2.2.2.2.2.2.2.2.2.1, (0 : Int), m1_1.2.2.2.2.2.2.2.2.2.2.2.2.2.2.2.2.2.2.2.2.2.2.2.2.2.2.2.1, ())
 let s_30 := (m1_1.1, m1_1.2.1, m1_1.2.2.1, m1_1.2.2.2.1, m1_1.2.2.2.2.1, m1_1.2.2.2.2.2.1, m1_1.2.2.2.2.2.2.1, m1_1.2.2.2.2.2.2.2.1, m1_1.2.2.2.2.2.2.2.2.1, m1_1.2.2.2.2.2.2.2.2.2.1, m1_1.2.2.2.2.2.2.2.2.2.2.1, m1_1.2.2.2.2.2.2.2.2.2.2.2.1, m1_1.2.2.2.2.2.2.2.2.2.2.2.2.1, m1_1.2.2.2.2.2.2.2.2.2.2.2.2.2.1, m1_1.2.2.2.2.2.2.2.2.2.2.2.2.2.2.1, m1_1.2.2.2.2.2.2.2.2.2.2.2.2.2.2.2.1, m1_1.2.2.2.2.2.2.2.2.2.2.2.2.2.2.2.2.1, m1_1.2.2.2.2.2.2.2.2.2.2.2.2.2.2.2.2.2.1, m1_1.2.2.2.2.2.2.2.2.2.2.2.2.2.2.2.2.2.2.1, m1_1.2.2.2.2.2.2.2.2.2.2.2.2.2.2.2.2.2.2.2.1, m1_1.2.2.2.2.2.2.2.2.2.2.2.2.2.2.2.2.2.2.2.2.1, m1_1.2.2.2.2.2.2.2.2.2.2.2.2.2.2.2.2.2.2.2.2.2.1, m1_1.2.2.2.2.2.2.2.2.2.2.2.2.2.2.2.2.2.2.2.2.2.2.1, m1_1.2.2.2.2.2.2.2.2.2.2.2.2.2.2.2.2.2.2.2.2.2.2.2.1, m1_1.2.2.2.2.2.2.2.2.2.2.2.2.2.2.2.2.2.2.2.2.2.2.2.2.1, m1_1.2.2.2.2.2.2.2.2.2.2.2.2.2.2.2.2.2.2.2.2.2.2.2.2.2.1, m1_1.2.2.2.2.2.2.2.2.2.2.2.2.2.2.2.2.2.2.2.2.2.2.2.2.2.2.1, ((0 : Int), (0 : Int), (0 : Int), ([] : List D55), ()), ())
 let m1_6 := (bif (m1_1.2.1 == 6) then s_22 else (bif (m1_1.2.1 == 7) then s_25 else (bif (m1_1.2.1 == 8) then s_27 else (bif (bif v54 then v54 else (m1_1.2.1 == 10)) then s_28 else (bif (m1_1.2.1 == 11) then s_30 else m1_1)))))
 (((f15_ok p0.2.1) ∧ (f17_ok m1.2.1)), (bif (m1_1.2.1 == 2) then s_4 else (bif (m1_1.2.1 == 3) then s_6 else (bif (m1_1.2.1 == 4) then s_10 else (bif (m1_1.2.1 == 5) then s_17 else m1_6)))))
def f29_ok (p0 : D37) : Prop := (f29t p0).1
def f29 (p0 : D37) : D37 := (f29t p0).2
instance (p0 : D37) : Decidable (f29_ok p0) := by
 unfold f29_ok f29t
 try dsimp only
 infer_instance
def f29_spec : Am.Spec := fnSpec [(0, (.val T37))] (.val T37) [] (fun x => f29_ok x.1) (fun x => f29 x.1) (fun _ => ())
def f29_ctx : Ctx := Cx tys [(15, f15_spec), (17, f17_spec)] [] [] false 62 [] []
theorem f29_cok : CtxOk Tryz.prog f29_ctx := ctxOk_mk tys_ok rfl ⟨f15_is, f17_is, trivial⟩ rfl (by kernel_rfl)
theorem f29_is : SpecOk Tryz.prog 29 f29_spec := fgen f29_cok mixed Tryz.func29 (by kernel_rfl) (bs := []) (by kernel_rfl) trivial fun x => by kernel_rfl

-- imageeditor/node.Check
def f11t (p0 : D37) (p1 : Int) (p2 : Int) : Prop × Int :=
 let v15 := (f23 p0 p1 p2)
 let v17 := (v15 != 0)
 let v21 := (f15 p0.2.1)
 let v24 := (f24 p0.2.2.2.2.2.2.2.2.2.2.1)
 let v26 := (v24 != 0)
 let v31 := (f25 p0.2.2.2.2.2.2.2.2.2.2.1)
 let v35 := (v31.2.1 != 0)
 let v39 := (f17 p0.2.1)
 let v45 := (bif v39 then (!(f26 p0.2.2.2.2.2.2.2.2.2.2.2.1)) else false)
 let v47 := (f27 p0)
 let v49 := (v47 != 0)
 let v52 := (f29 p0)
 let m6_5 := (bif v17 then v15 else (bif ((v26 || ((!v26) && v35)) && v21) then (bif v26 then v24 else v31.2.1) else (bif v45 then (8 : Int) else (bif v49 then v47 else (bif (!(f28 v52)) then (1 : Int) else (0 : Int))))))
 (((f23_ok p0 p1 p2) ∧ ((!v17) = true → ((f15_ok p0.2.1) ∧ ((v21 = true → ((f24_ok p0.2.2.2.2.2.2.2.2.2.2.1) ∧ ((!v26) = true → (f25_ok p0.2.2.2.2.2.2.2.2.2.2.1)))) ∧ ((bif v21 then ((!v26) && (!v35)) else true) = true → ((f17_ok p0.2.1) ∧ ((v39 = true → (f26_ok p0.2.2.2.2.2.2.2.2.2.2.2.1)) ∧ ((!v45) = true → ((f27_ok p0) ∧ ((!v49) = true → ((f29_ok p0) ∧ (f28_ok v52)))))))))))), m6_5)
def f11_ok (p0 : D37) (p1 : Int) (p2 : Int) : Prop := (f11t p0 p1 p2).1
def f11 (p0 : D37) (p1 : Int) (p2 : Int) : Int := (f11t p0 p1 p2).2
instance (p0 : D37) (p1 : Int) (p2 : Int) : Decidable (f11_ok p0 p1 p2) := by
 unfold f11_ok f11t
 try dsimp only
 infer_instance
def f11_spec : Am.Spec := fnSpec [(0, (.val T37)), (1, vI), (2, vI)] vI [] (fun x => f11_ok x.1 x.2.1 x.2.2.1) (fun x => f11 x.1 x.2.1 x.2.2.1) (fun _ => ())
def f11_ctx : Ctx := Cx tys [(15, f15_spec), (17, f17_spec), (23, f23_spec), (24, f24_spec), (25, f25_spec), (26, f26_spec), (27, f27_spec), (28, f28_spec), (29, f29_spec)] [] [] false 55 [] []
theorem f11_cok : CtxOk Tryz.prog f11_ctx := ctxOk_mk tys_ok rfl ⟨f15_is, f17_is, f23_is, f24_is, f25_is, f26_is, f27_is, f28_is, f29_is, trivial⟩ rfl (by kernel_rfl)
theorem f11_is : SpecOk Tryz.prog 11 f11_spec := fgen f11_cok mixed Tryz.func11 (by kernel_rfl) (bs := []) (by kernel_rfl) trivial fun x => by kernel_rfl

-- imageeditor/filter.abs
def f89t (p0 : Int) : Prop × Int :=
 (InR (Int.sub 0 p0), (imax p0 (Int.sub 0 p0)))
def f89_ok (p0 : Int) : Prop := (f89t p0).1
def f89 (p0 : Int) : Int := (f89t p0).2
instance (p0 : Int) : Decidable (f89_ok p0) := by
 unfold f89_ok f89t
 try dsimp only
 infer_instance
def f89_spec : Am.Spec := fnSpec [(0, vI)] vI [] (fun x => f89_ok x.1) (fun x => f89 x.1) (fun _ => ())
def f89_ctx : Ctx := Cx tys [] [] [] false 7 [] []
theorem f89_cok : CtxOk Tryz.prog f89_ctx := ctxOk_mk tys_ok rfl trivial rfl (by kernel_rfl)
theorem f89_is : SpecOk Tryz.prog 89 f89_spec := fgen f89_cok mixed Tryz.func89 (by kernel_rfl) (bs := []) (by kernel_rfl) trivial fun x => by kernel_rfl

-- imageeditor/filter.Reach
def f62t (p0 : Int) (p1 : (List Int)) : Prop × Int :=
 let v8 := ((f60 p0 p1) != 0)
 let v11 := (p0 == 5)
 let m10 := (bif v11 then v11 else (p0 == 6))
 let v14 := (p0 == 9)
 let v16 := (nth p1 (0 : Int) (0 : Int))
 let v20 := (nth p1 (1 : Int) (0 : Int))
 let v25 := (p0 == 10)
 let v27 := (nth p1 (0 : Int) (0 : Int))
 let m4_3 := (bif v8 then (0 : Int) else (bif (bif m10 then true else (bif v14 then true else v25)) then (bif m10 then (1 : Int) else (bif v14 then (imax (f89 v16) (f89 v20)) else (v27 - 1))) else (nth p1 (0 : Int) (0 : Int))))
 (((f60_ok p0 p1) ∧ ((!v8) = true → ((m10 = false → ((v14 = true → (InB (0 : Int) (len p1) ∧ ((f89_ok v16) ∧ (InB (1 : Int) (len p1) ∧ (f89_ok v20))))) ∧ (v14 = false → (v25 = true → (InB (0 : Int) (len p1) ∧ InR (v27 - 1)))))) ∧ ((((!v25) && (!v14)) && (!m10)) = true → InB (0 : Int) (len p1))))), m4_3)
def f62_ok (p0 : Int) (p1 : (List Int)) : Prop := (f62t p0 p1).1
def f62 (p0 : Int) (p1 : (List Int)) : Int := (f62t p0 p1).2
instance (p0 : Int) (p1 : (List Int)) : Decidable (f62_ok p0 p1) := by
 unfold f62_ok f62t
 try dsimp only
 infer_instance
def f62_spec : Am.Spec := fnSpec [(0, vI), (1, (.val (.sl (.int .i64))))] vI [] (fun x => f62_ok x.1 x.2.1) (fun x => f62 x.1 x.2.1) (fun _ => ())
def f62_ctx : Ctx := Cx tys [(60, f60_spec), (89, f89_spec)] [] [] false 33 [] []
theorem f62_cok : CtxOk Tryz.prog f62_ctx := ctxOk_mk tys_ok rfl ⟨f60_is, f89_is, trivial⟩ rfl (by kernel_rfl)
theorem f62_is : SpecOk Tryz.prog 62 f62_spec := fgen f62_cok mixed Tryz.func62 (by kernel_rfl) (bs := []) (by kernel_rfl) trivial fun x => by kernel_rfl

-- imageeditor/warp.Reach
abbrev f63_L5_Y : Type := ((List D55) × Int × Unit)
abbrev f63_L5_X : Type := (Int × Int × Unit)
def f63_L5t (y : f63_L5_Y) (x : f63_L5_X) : Prop × Bool × f63_L5_X :=
 let a10 := y.1 
 let a12 := x.2.1 
 let v13 := (decide (a12 < y.2.1))
 let v14 := (nth a10 a12 Z55)
 ((v13 = true → (InB a12 (len a10) ∧ (InR (Int.sub 0 v14.1) ∧ (InR (Int.sub 0 v14.2.1) ∧ InR (a12 + 1))))), v13, ((imax (imax (imax (imax x.1 v14.1) (Int.sub 0 v14.1)) v14.2.1) (Int.sub 0 v14.2.1)), (a12 + 1), ()))
def f63_L5_ok (y : f63_L5_Y) (x : f63_L5_X) : Prop := (f63_L5t y x).1
def f63_L5_g (y : f63_L5_Y) (x : f63_L5_X) : Bool := (f63_L5t y x).2.1
def f63_L5_next (y : f63_L5_Y) (x : f63_L5_X) : f63_L5_X := (f63_L5t y x).2.2
instance (y : f63_L5_Y) (x : f63_L5_X) : Decidable (f63_L5_ok y x) := by
 unfold f63_L5_ok f63_L5t
 try dsimp only
 infer_instance
def f63_L5_x2_0 (y : f63_L5_Y) (x : f63_L5_X) : Int :=
 x.1
def f63_L5_spec : St → Option Out := loopS [(10, (.val (.sl T55))), (11, vI)] [(3, vI), (12, vI)] f63_L5_g f63_L5_next f63_L5_ok fun y x => [ex 2 none [(3, vI)] ((f63_L5_x2_0 y x), ())]
def f63t (p0 : D35) : Prop × Int :=
 let v8 := ((f61 p0) != 0)
 let y5 := (p0.2.2.2.1, (len p0.2.2.2.1), ())
 let x5 := ((0 : Int), (0 : Int), ())
 let r5_2_0 := (f63_L5_x2_0 y5 (loopEnd (f63_L5_g y5) (f63_L5_next y5) x5))
 let v30 := (r5_2_0 + 65536)
 let v31 := (v30 - 1)
 (((f61_ok p0) ∧ ((!v8) = true → ((Am.Ends (f63_L5_g y5) (f63_L5_next y5) (f63_L5_ok y5) x5) ∧ (InR (r5_2_0 + 65536) ∧ (InR (v30 - 1) ∧ InR (Int.tdiv v31 (65536 : Int))))))), (bif v8 then (0 : Int) else (Int.tdiv v31 (65536 : Int))))
def f63_ok (p0 : D35) : Prop := (f63t p0).1
def f63 (p0 : D35) : Int := (f63t p0).2
instance (p0 : D35) : Decidable (f63_ok p0) := by
 unfold f63_ok f63t
 try dsimp only
 infer_instance
def f63_spec : Am.Spec := fnSpec [(0, (.val T35))] vI [] (fun x => f63_ok x.1) (fun x => f63 x.1) (fun _ => ())
def f63_ctx : Ctx := Cx tys [(61, f61_spec)] [(5, f63_L5_spec)] [] false 33 [] []
theorem f63_cok : CtxOk Tryz.prog f63_ctx := ctxOk_mk tys_ok rfl ⟨f61_is, trivial⟩ rfl (by kernel_rfl)
noncomputable def f63_code : Code := Tryz.f63.body.getD .skip
noncomputable def f63_L5 : Code := nthLoop f63_code 0
theorem f63_L5_is : LoopSnd Tryz.prog f63_ctx f63_L5 := lgen f63_cok mixed (sp := f63_L5_spec) rfl [[(3, vI)]] (bs := []) (by kernel_rfl) trivial (by kernel_rfl) (by kernel_rfl) fun y x => by kernel_rfl
theorem f63_is : SpecOk Tryz.prog 63 f63_spec := fgen f63_cok mixed Tryz.func63 (by kernel_rfl) (bs := [f63_L5]) (by kernel_rfl) ⟨f63_L5_is, trivial⟩ fun x => by kernel_rfl

-- imageeditor/kernel.Support
def f64t (p0 : Int) : Prop × Int :=
 let v5 := (p0 == 2)
 let m4 := (bif v5 then v5 else (p0 == 4))
 let v8 := (p0 == 0)
 let v9 := (p0 == 1)
 (True, (bif (bif m4 then true else (bif v8 then v8 else (bif v9 then v9 else (p0 == 3)))) then (bif m4 then (2 : Int) else (1 : Int)) else (0 : Int)))
def f64_ok (p0 : Int) : Prop := (f64t p0).1
def f64 (p0 : Int) : Int := (f64t p0).2
instance (p0 : Int) : Decidable (f64_ok p0) := by
 unfold f64_ok f64t
 try dsimp only
 infer_instance
def f64_spec : Am.Spec := fnSpec [(0, vI)] vI [] (fun x => f64_ok x.1) (fun x => f64 x.1) (fun _ => ())
def f64_ctx : Ctx := Cx tys [] [] [] false 11 [] []
theorem f64_cok : CtxOk Tryz.prog f64_ctx := ctxOk_mk tys_ok rfl trivial rfl (by kernel_rfl)
theorem f64_is : SpecOk Tryz.prog 64 f64_spec := fgen f64_cok mixed Tryz.func64 (by kernel_rfl) (bs := []) (by kernel_rfl) trivial fun x => by kernel_rfl

-- imageeditor/node.Reach
def f30t (p0 : D37) : Prop × Int :=
 let v6 := (p0.2.1 == 8)
 let v13 := (p0.2.1 == 11)
 let v16 := (f63 p0.2.2.2.2.2.2.2.2.2.2.2.2.2.2.2.2.2.2.2.2.2.2.2.2.2.2.2.1)
 let v19 := (f64 p0.2.2.2.2.2.2.2.2.2.2.2.1)
 let v20 := (v16 + v19)
 (((v6 = true → (f62_ok p0.2.2.2.2.2.2.2.2.2.2.2.2.2.2.1 p0.2.2.2.2.2.2.2.2.2.2.2.2.2.2.2.1)) ∧ (v6 = false → (v13 = true → ((f63_ok p0.2.2.2.2.2.2.2.2.2.2.2.2.2.2.2.2.2.2.2.2.2.2.2.2.2.2.2.1) ∧ ((f64_ok p0.2.2.2.2.2.2.2.2.2.2.2.1) ∧ (InR (v16 + v19) ∧ InR (v20 + 1))))))), (bif (bif v6 then true else v13) then (bif v6 then (f62 p0.2.2.2.2.2.2.2.2.2.2.2.2.2.2.1 p0.2.2.2.2.2.2.2.2.2.2.2.2.2.2.2.1) else (v20 + 1)) else (0 : Int)))
def f30_ok (p0 : D37) : Prop := (f30t p0).1
def f30 (p0 : D37) : Int := (f30t p0).2
instance (p0 : D37) : Decidable (f30_ok p0) := by
 unfold f30_ok f30t
 try dsimp only
 infer_instance
def f30_spec : Am.Spec := fnSpec [(0, (.val T37))] vI [] (fun x => f30_ok x.1) (fun x => f30 x.1) (fun _ => ())
def f30_ctx : Ctx := Cx tys [(62, f62_spec), (63, f63_spec), (64, f64_spec)] [] [] false 22 [] []
theorem f30_cok : CtxOk Tryz.prog f30_ctx := ctxOk_mk tys_ok rfl ⟨f62_is, f63_is, f64_is, trivial⟩ rfl (by kernel_rfl)
theorem f30_is : SpecOk Tryz.prog 30 f30_spec := fgen f30_cok mixed Tryz.func30 (by kernel_rfl) (bs := []) (by kernel_rfl) trivial fun x => by kernel_rfl

-- imageeditor/imageeditorlaw31.example
def f12t  : Prop × Bool :=
 let v8 := (f6 (3 : Int))
 let v12 := (f6 (8 : Int))
 let v20 := (bif (v8.2.1 != 0) then true else (v12.2.1 != 0))
 let v25 := (bif v20 then true else ((f11 v8.1 (8 : Int) (8 : Int)) != 0))
 let v30 := (bif v25 then true else ((f30 v12.1) != 1))
 let v35 := (bif v30 then true else (!(f31 v12.1)))
 let v39 := (bif v35 then true else (f31 v8.1))
 let s := (v8.1.1, v8.1.2.1, v8.1.2.2.1, v8.1.2.2.2.1, v8.1.2.2.2.2.1, v8.1.2.2.2.2.2.1, v8.1.2.2.2.2.2.2.1, (65536 : Int), v8.1.2.2.2.2.2.2.2.2.1, v8.1.2.2.2.2.2.2.2.2.2.1, v8.1.2.2.2.2.2.2.2.2.2.2.1, v8.1.2.2.2.2.2.2.2.2.2.2.2.1, v8.1.2.2.2.2.2.2.2.2.2.2.2.2.1, v8.1.2.2.2.2.2.2.2.2.2.2.2.2.2.1, v8.1.2.2.2.2.2.2.2.2.2.2.2.2.2.2.1, v8.1.2.2.2.2.2.2.2.2.2.2.2.2.2.2.2.1, v8.1.2.2.2.2.2.2.2.2.2.2.2.2.2.2.2.2.1, v8.1.2.2.2.2.2.2.2.2.2.2.2.2.2.2.2.2.2.1, v8.1.2.2.2.2.2.2.2.2.2.2.2.2.2.2.2.2.2.2.1, v8.1.2.2.2.2.2.2.2.2.2.2.2.2.2.2.2.2.2.2.2.1, v8.1.2.2.2.2.2.2.2.2.2.2.2.2.2.2.2.2.2.2.2.2.1, v8.1.2.2.2.2.2.2.2.2.2.2.2.2.2.2.2.2.2.2.2.2.2.1, v8.1.2.2.2.2.2.2.2.2.2.2.2.2.2.2.2.2.2.2.2.2.2.2.1, v8.1.2.2.2.2.2.2.2.2.2.2.2.2.2.2.2.2.2.2.2.2.2.2.2.1, v8.1.2.2.2.2.2.2.2.2.2.2.2.2.2.2.2.2.2.2.2.2.2.2.2.2.1, v8.1.2.2.2.2.2.2.2.2.2.2.2.2.2.2.2.2.2.2.2.2.2.2.2.2.2.1, v8.1.2.2.2.2.2.2.2.2.2.2.2.2.2.2.2.2.2.2.2.2.2.2.2.2.2.2.1, v8.1.2.2.2.2.2.2.2.2.2.2.2.2.2.2.2.2.2.2.2.2.2.2.2.2.2.2.2.1, ())
 let s_1 := (v12.1.1, v12.1.2.1, v12.1.2.2.1, v12.1.2.2.2.1, v12.1.2.2.2.2.1, v12.1.2.2.2.2.2.1, v12.1.2.2.2.2.2.2.1, v12.1.2.2.2.2.2.2.2.1, (1 : Int), v12.1.2.2.2.2.2.2.2.2.2.1, v12.1.2.2.2.2.2.2.2.2.2.2.1, v12.1.2.2.2.2.2.2.2.2.2.2.2.1, v12.1.2.2.2.2.2.2.2.2.2.2.2.2.1, v12.1.2.2.2.2.2.2.2.2.2.2.2.2.2.1, v12.1.2.2.2.2.2.2.2.2.2.2.2.2.2.2.1, v12.1.2.2.2.2.2.2.2.2.2.2.2.2.2.2.2.1, v12.1.2.2.2.2.2.2.2.2.2.2.2.2.2.2.2.2.1, v12.1.2.2.2.2.2.2.2.2.2.2.2.2.2.2.2.2.2.1, v12.1.2.2.2.2.2.2.2.2.2.2.2.2.2.2.2.2.2.2.1, v12.1.2.2.2.2.2.2.2.2.2.2.2.2.2.2.2.2.2.2.2.1, v12.1.2.2.2.2.2.2.2.2.2.2.2.2.2.2.2.2.2.2.2.2.1, v12.1.2.2.2.2.2.2.2.2.2.2.2.2.2.2.2.2.2.2.2.2.2.1, v12.1.2.2.2.2.2.2.2.2.2.2.2.2.2.2.2.2.2.2.2.2.2.2.1, v12.1.2.2.2.2.2.2.2.2.2.2.2.2.2.2.2.2.2.2.2.2.2.2.2.1, v12.1.2.2.2.2.2.2.2.2.2.2.2.2.2.2.2.2.2.2.2.2.2.2.2.2.1, v12.1.2.2.2.2.2.2.2.2.2.2.2.2.2.2.2.2.2.2.2.2.2.2.2.2.2.1, v12.1.2.2.2.2.2.2.2.2.2.2.2.2.2.2.2.2.2.2.2.2.2.2.2.2.2.2.1, v12.1.2.2.2.2.2.2.2.2.2.2.2.2.2.2.2.2.2.2.2.2.2.2.2.2.2.2.2.1, ())
 let v44 := (f6 (11 : Int))
 let v48 := (v44.2.1 == 0)
 let v53 := (bif v48 then ((f11 s (8 : Int) (8 : Int)) == 2) else false)
 let v58 := (bif v53 then ((f11 s_1 (8 : Int) (8 : Int)) == 8) else false)
 let s_5 := ((0 : Int), (2 : Int), (0 : Int), ([105] : List UInt8), false, false, false, (0 : Int), (0 : Int), ((0 : Int), (0 : Int), ([] : List Int), ()), Z25, (0 : Int), ((0 : Int), (0 : Int), ([] : List D30), ()), Z30, (0 : Int), ([] : List Int), (0 : Int), ([] : List D53), ([] : List D58), (0 : Int), (0 : Int), (0 : Int), (0 : Int), ([] : List UInt8), (0 : Int), (0 : Int), (0 : Int), ((0 : Int), (0 : Int), (0 : Int), ([] : List D55), ()), ())
 let v63 := (bif v58 then ((f11 s_5 (8 : Int) (8 : Int)) == 17) else false)
 let v68 := (bif v63 then ((f30 v44.1) == 2) else false)
 (((f6_ok (3 : Int)) ∧ ((f6_ok (8 : Int)) ∧ (((!v20) = true → (f11_ok v8.1 (8 : Int) (8 : Int))) ∧ (((!v25) = true → (f30_ok v12.1)) ∧ (((!v30) = true → (f31_ok v12.1)) ∧ (((!v35) = true → (f31_ok v8.1)) ∧ ((!v39) = true → ((f6_ok (11 : Int)) ∧ ((v48 = true → (f11_ok s (8 : Int) (8 : Int))) ∧ ((v53 = true → (f11_ok s_1 (8 : Int) (8 : Int))) ∧ ((v58 = true → (f11_ok s_5 (8 : Int) (8 : Int))) ∧ ((v63 = true → (f30_ok v44.1)) ∧ (v68 = true → (f9_ok (11 : Int))))))))))))))), (bif v39 then false else (bif v68 then ((f9 (11 : Int)) == ([119, 97, 114, 112] : List UInt8)) else false)))
def f12_ok  : Prop := (f12t).1
def f12  : Bool := (f12t).2
instance  : Decidable (f12_ok) := by
 unfold f12_ok f12t
 try dsimp only
 infer_instance
def f12_spec : Am.Spec := fnSpec [] vB [] (fun x => f12_ok ) (fun x => f12 ) (fun _ => ())
def f12_ctx : Ctx := Cx tys [(6, f6_spec), (9, f9_spec), (11, f11_spec), (30, f30_spec), (31, f31_spec)] [] [] false 73 [] []
theorem f12_cok : CtxOk Tryz.prog f12_ctx := ctxOk_mk tys_ok rfl ⟨f6_is, f9_is, f11_is, f30_is, f31_is, trivial⟩ rfl (by kernel_rfl)
noncomputable def f12_code : Code := Tryz.f12.body.getD .skip
theorem f12_is : SpecOk Tryz.prog 12 f12_spec := fgen f12_cok mixed Tryz.func12 (by kernel_rfl) (bs := []) (by kernel_rfl) trivial fun x => by kernel_rfl

-- imageeditor/imageeditorlaw31.NodeNews
def f3t (p0 : Int) (p1 : Int) (p2 : Int) : Prop × Bool :=
 let v13 := (f6 p0)
 let v18 := (f7 p0)
 let v23 := (v13.2.1 != v18.2.1)
 let v29 := (bif v23 then true else (!(f8 v13.1 v18.1)))
 let v36 := (bif v29 then true else (!((f9 p0) == (f10 p0))))
 let v54 := (bif (bif (bif (bif (v13.2.1 == 0) then (decide (p1 ≥ 1)) else false) then (decide (p1 ≤ 256)) else false) then (decide (p2 ≥ 1)) else false) then (decide (p2 ≤ 256)) else false)
 let v61 := (bif v54 then ((f11 v13.1 p1 p2) != 0) else false)
 (((f6_ok p0) ∧ ((f7_ok p0) ∧ (((!v23) = true → (f8_ok v13.1 v18.1)) ∧ (((!v29) = true → (f9_ok p0)) ∧ (((!v29) = true → (f10_ok p0)) ∧ ((!v36) = true → ((v54 = true → (f11_ok v13.1 p1 p2)) ∧ ((!v61) = true → f12_ok)))))))), (bif v36 then false else (bif v61 then false else f12)))
def f3_ok (p0 : Int) (p1 : Int) (p2 : Int) : Prop := (f3t p0 p1 p2).1
def f3 (p0 : Int) (p1 : Int) (p2 : Int) : Bool := (f3t p0 p1 p2).2
instance (p0 : Int) (p1 : Int) (p2 : Int) : Decidable (f3_ok p0 p1 p2) := by
 unfold f3_ok f3t
 try dsimp only
 infer_instance
def f3_spec : Am.Spec := fnSpec [(0, vI), (1, vI), (2, vI)] vB [] (fun x => f3_ok x.1 x.2.1 x.2.2.1) (fun x => f3 x.1 x.2.1 x.2.2.1) (fun _ => ())
def f3_ctx : Ctx := Cx tys [(6, f6_spec), (7, f7_spec), (8, f8_spec), (9, f9_spec), (10, f10_spec), (11, f11_spec), (12, f12_spec)] [] [] false 63 [] []
theorem f3_cok : CtxOk Tryz.prog f3_ctx := ctxOk_mk tys_ok rfl ⟨f6_is, f7_is, f8_is, f9_is, f10_is, f11_is, f12_is, trivial⟩ rfl (by kernel_rfl)
theorem f3_is : SpecOk Tryz.prog 3 f3_spec := fgen f3_cok mixed Tryz.func3 (by kernel_rfl) (bs := []) (by kernel_rfl) trivial fun x => by kernel_rfl

-- slices.Equal[[]int,int]
abbrev f37_L4_Y : Type := ((List Int) × (List Int) × Int × Unit)
abbrev f37_L4_X : Type := (Int × Unit)
def f37_L4t (y : f37_L4_Y) (x : f37_L4_X) : Prop × Bool × f37_L4_X × Bool × Bool :=
 let a0 := y.1 
 let a1 := y.2.1 
 let a13 := x.1 
 let v14 := (decide (a13 < y.2.2.1))
 let v24 := ((nth a0 a13 (0 : Int)) != (nth a1 a13 (0 : Int)))
 ((v14 = true → (InB a13 (len a0) ∧ (InB a13 (len a1) ∧ ((!v24) = true → InR (a13 + 1))))), (v14 && (!v24)), ((a13 + 1), ()), (v14 && v24), (!v14))
def f37_L4_ok (y : f37_L4_Y) (x : f37_L4_X) : Prop := (f37_L4t y x).1
def f37_L4_g (y : f37_L4_Y) (x : f37_L4_X) : Bool := (f37_L4t y x).2.1
def f37_L4_next (y : f37_L4_Y) (x : f37_L4_X) : f37_L4_X := (f37_L4t y x).2.2.1
def f37_L4_e1 (y : f37_L4_Y) (x : f37_L4_X) : Bool := (f37_L4t y x).2.2.2.1
def f37_L4_e2 (y : f37_L4_Y) (x : f37_L4_X) : Bool := (f37_L4t y x).2.2.2.2
instance (y : f37_L4_Y) (x : f37_L4_X) : Decidable (f37_L4_ok y x) := by
 unfold f37_L4_ok f37_L4t
 try dsimp only
 infer_instance
def f37_L4_x1_0 (y : f37_L4_Y) (x : f37_L4_X) : Bool :=
 false
def f37_L4_spec : St → Option Out := loopS [(0, (.val (.sl (.int .i64)))), (1, (.val (.sl (.int .i64)))), (12, vI)] [(13, vI)] f37_L4_g f37_L4_next f37_L4_ok fun y x => [ex 1 (some (f37_L4_e1 y x)) [(4, vB)] ((f37_L4_x1_0 y x), ()), ex 2 (some (f37_L4_e2 y x)) [] ()]
def f37t (p0 : (List Int)) (p1 : (List Int)) : Prop × Bool :=
 let v10 := ((len p0) != (len p1))
 let y4 := (p0, p1, (len p0), ())
 let x4 := ((0 : Int), ())
 let e4 := (loopEnd (f37_L4_g y4) (f37_L4_next y4) x4)
 (((!v10) = true → (Am.Ends (f37_L4_g y4) (f37_L4_next y4) (f37_L4_ok y4) x4)), (bif v10 then false else (bif (f37_L4_e1 y4 e4) then (f37_L4_x1_0 y4 e4) else true)))
def f37_ok (p0 : (List Int)) (p1 : (List Int)) : Prop := (f37t p0 p1).1
def f37 (p0 : (List Int)) (p1 : (List Int)) : Bool := (f37t p0 p1).2
instance (p0 : (List Int)) (p1 : (List Int)) : Decidable (f37_ok p0 p1) := by
 unfold f37_ok f37t
 try dsimp only
 infer_instance
def f37_spec : Am.Spec := fnSpec [(0, (.val (.sl (.int .i64)))), (1, (.val (.sl (.int .i64))))] vB [] (fun x => f37_ok x.1 x.2.1) (fun x => f37 x.1 x.2.1) (fun _ => ())
def f37_ctx : Ctx := Cx tys [] [(4, f37_L4_spec)] [] false 26 [] []
theorem f37_cok : CtxOk Tryz.prog f37_ctx := ctxOk_mk tys_ok rfl trivial rfl (by kernel_rfl)
noncomputable def f37_code : Code := Tryz.f37.body.getD .skip
noncomputable def f37_L4 : Code := nthLoop f37_code 0
theorem f37_L4_is : LoopSnd Tryz.prog f37_ctx f37_L4 := lgen f37_cok mixed (sp := f37_L4_spec) rfl [[(4, vB)], []] (bs := []) (by kernel_rfl) trivial (by kernel_rfl) (by kernel_rfl) fun y x => by kernel_rfl
theorem f37_is : SpecOk Tryz.prog 37 f37_spec := fgen f37_cok mixed Tryz.func37 (by kernel_rfl) (bs := [f37_L4]) (by kernel_rfl) ⟨f37_L4_is, trivial⟩ fun x => by kernel_rfl

-- slices.Equal[[]imageeditor/api.Pixel,imageeditor/api.Pixel]
abbrev f90_L4_Y : Type := ((List D30) × (List D30) × Int × Unit)
abbrev f90_L4_X : Type := (Int × Unit)
def f90_L4t (y : f90_L4_Y) (x : f90_L4_X) : Prop × Bool × f90_L4_X × Bool × Bool :=
 let a0 := y.1 
 let a1 := y.2.1 
 let a13 := x.1 
 let v14 := (decide (a13 < y.2.2.1))
 let v24 := (!(Ty.eqb T30 (nth a0 a13 Z30) (nth a1 a13 Z30)))
 ((v14 = true → (InB a13 (len a0) ∧ (InB a13 (len a1) ∧ ((!v24) = true → InR (a13 + 1))))), (v14 && (!v24)), ((a13 + 1), ()), (v14 && v24), (!v14))
def f90_L4_ok (y : f90_L4_Y) (x : f90_L4_X) : Prop := (f90_L4t y x).1
def f90_L4_g (y : f90_L4_Y) (x : f90_L4_X) : Bool := (f90_L4t y x).2.1
def f90_L4_next (y : f90_L4_Y) (x : f90_L4_X) : f90_L4_X := (f90_L4t y x).2.2.1
def f90_L4_e1 (y : f90_L4_Y) (x : f90_L4_X) : Bool := (f90_L4t y x).2.2.2.1
def f90_L4_e2 (y : f90_L4_Y) (x : f90_L4_X) : Bool := (f90_L4t y x).2.2.2.2
instance (y : f90_L4_Y) (x : f90_L4_X) : Decidable (f90_L4_ok y x) := by
 unfold f90_L4_ok f90_L4t
 try dsimp only
 infer_instance
def f90_L4_x1_0 (y : f90_L4_Y) (x : f90_L4_X) : Bool :=
 false
def f90_L4_spec : St → Option Out := loopS [(0, (.val (.sl T30))), (1, (.val (.sl T30))), (12, vI)] [(13, vI)] f90_L4_g f90_L4_next f90_L4_ok fun y x => [ex 1 (some (f90_L4_e1 y x)) [(4, vB)] ((f90_L4_x1_0 y x), ()), ex 2 (some (f90_L4_e2 y x)) [] ()]
def f90t (p0 : (List D30)) (p1 : (List D30)) : Prop × Bool :=
 let v10 := ((len p0) != (len p1))
 let y4 := (p0, p1, (len p0), ())
 let x4 := ((0 : Int), ())
 let e4 := (loopEnd (f90_L4_g y4) (f90_L4_next y4) x4)
 (((!v10) = true → (Am.Ends (f90_L4_g y4) (f90_L4_next y4) (f90_L4_ok y4) x4)), (bif v10 then false else (bif (f90_L4_e1 y4 e4) then (f90_L4_x1_0 y4 e4) else true)))
def f90_ok (p0 : (List D30)) (p1 : (List D30)) : Prop := (f90t p0 p1).1
def f90 (p0 : (List D30)) (p1 : (List D30)) : Bool := (f90t p0 p1).2
instance (p0 : (List D30)) (p1 : (List D30)) : Decidable (f90_ok p0 p1) := by
 unfold f90_ok f90t
 try dsimp only
 infer_instance
def f90_spec : Am.Spec := fnSpec [(0, (.val (.sl T30))), (1, (.val (.sl T30)))] vB [] (fun x => f90_ok x.1 x.2.1) (fun x => f90 x.1 x.2.1) (fun _ => ())
def f90_ctx : Ctx := Cx tys [] [(4, f90_L4_spec)] [] false 26 [] []
theorem f90_cok : CtxOk Tryz.prog f90_ctx := ctxOk_mk tys_ok rfl trivial rfl (by kernel_rfl)
noncomputable def f90_code : Code := Tryz.f90.body.getD .skip
noncomputable def f90_L4 : Code := nthLoop f90_code 0
theorem f90_L4_is : LoopSnd Tryz.prog f90_ctx f90_L4 := lgen f90_cok mixed (sp := f90_L4_spec) rfl [[(4, vB)], []] (bs := []) (by kernel_rfl) trivial (by kernel_rfl) (by kernel_rfl) fun y x => by kernel_rfl
theorem f90_is : SpecOk Tryz.prog 90 f90_spec := fgen f90_cok mixed Tryz.func90 (by kernel_rfl) (bs := [f90_L4]) (by kernel_rfl) ⟨f90_L4_is, trivial⟩ fun x => by kernel_rfl

-- imageeditor/raster.Same
def f65t (p0 : D28) (p1 : D28) : Prop × Bool :=
 let v16 := (bif (p0.1 == p1.1) then (p0.2.1 == p1.2.1) else false)
 ((v16 = true → (f90_ok p0.2.2.1 p1.2.2.1)), (bif v16 then (f90 p0.2.2.1 p1.2.2.1) else false))
def f65_ok (p0 : D28) (p1 : D28) : Prop := (f65t p0 p1).1
def f65 (p0 : D28) (p1 : D28) : Bool := (f65t p0 p1).2
instance (p0 : D28) (p1 : D28) : Decidable (f65_ok p0 p1) := by
 unfold f65_ok f65t
 try dsimp only
 infer_instance
def f65_spec : Am.Spec := fnSpec [(0, (.val T28)), (1, (.val T28))] vB [] (fun x => f65_ok x.1 x.2.1) (fun x => f65 x.1 x.2.1) (fun _ => ())
def f65_ctx : Ctx := Cx tys [(90, f90_spec)] [] [] false 24 [] []
theorem f65_cok : CtxOk Tryz.prog f65_ctx := ctxOk_mk tys_ok rfl ⟨f90_is, trivial⟩ rfl (by kernel_rfl)
theorem f65_is : SpecOk Tryz.prog 65 f65_spec := fgen f65_cok mixed Tryz.func65 (by kernel_rfl) (bs := []) (by kernel_rfl) trivial fun x => by kernel_rfl

-- slices.Equal[[]imageeditor/api.Stop,imageeditor/api.Stop]
abbrev f66_L4_Y : Type := ((List D53) × (List D53) × Int × Unit)
abbrev f66_L4_X : Type := (Int × Unit)
def f66_L4t (y : f66_L4_Y) (x : f66_L4_X) : Prop × Bool × f66_L4_X × Bool × Bool :=
 let a0 := y.1 
 let a1 := y.2.1 
 let a13 := x.1 
 let v14 := (decide (a13 < y.2.2.1))
 let v24 := (!(Ty.eqb T53 (nth a0 a13 Z53) (nth a1 a13 Z53)))
 ((v14 = true → (InB a13 (len a0) ∧ (InB a13 (len a1) ∧ ((!v24) = true → InR (a13 + 1))))), (v14 && (!v24)), ((a13 + 1), ()), (v14 && v24), (!v14))
def f66_L4_ok (y : f66_L4_Y) (x : f66_L4_X) : Prop := (f66_L4t y x).1
def f66_L4_g (y : f66_L4_Y) (x : f66_L4_X) : Bool := (f66_L4t y x).2.1
def f66_L4_next (y : f66_L4_Y) (x : f66_L4_X) : f66_L4_X := (f66_L4t y x).2.2.1
def f66_L4_e1 (y : f66_L4_Y) (x : f66_L4_X) : Bool := (f66_L4t y x).2.2.2.1
def f66_L4_e2 (y : f66_L4_Y) (x : f66_L4_X) : Bool := (f66_L4t y x).2.2.2.2
instance (y : f66_L4_Y) (x : f66_L4_X) : Decidable (f66_L4_ok y x) := by
 unfold f66_L4_ok f66_L4t
 try dsimp only
 infer_instance
def f66_L4_x1_0 (y : f66_L4_Y) (x : f66_L4_X) : Bool :=
 false
def f66_L4_spec : St → Option Out := loopS [(0, (.val (.sl T53))), (1, (.val (.sl T53))), (12, vI)] [(13, vI)] f66_L4_g f66_L4_next f66_L4_ok fun y x => [ex 1 (some (f66_L4_e1 y x)) [(4, vB)] ((f66_L4_x1_0 y x), ()), ex 2 (some (f66_L4_e2 y x)) [] ()]
def f66t (p0 : (List D53)) (p1 : (List D53)) : Prop × Bool :=
 let v10 := ((len p0) != (len p1))
 let y4 := (p0, p1, (len p0), ())
 let x4 := ((0 : Int), ())
 let e4 := (loopEnd (f66_L4_g y4) (f66_L4_next y4) x4)
 (((!v10) = true → (Am.Ends (f66_L4_g y4) (f66_L4_next y4) (f66_L4_ok y4) x4)), (bif v10 then false else (bif (f66_L4_e1 y4 e4) then (f66_L4_x1_0 y4 e4) else true)))
def f66_ok (p0 : (List D53)) (p1 : (List D53)) : Prop := (f66t p0 p1).1
def f66 (p0 : (List D53)) (p1 : (List D53)) : Bool := (f66t p0 p1).2
instance (p0 : (List D53)) (p1 : (List D53)) : Decidable (f66_ok p0 p1) := by
 unfold f66_ok f66t
 try dsimp only
 infer_instance
def f66_spec : Am.Spec := fnSpec [(0, (.val (.sl T53))), (1, (.val (.sl T53)))] vB [] (fun x => f66_ok x.1 x.2.1) (fun x => f66 x.1 x.2.1) (fun _ => ())
def f66_ctx : Ctx := Cx tys [] [(4, f66_L4_spec)] [] false 26 [] []
theorem f66_cok : CtxOk Tryz.prog f66_ctx := ctxOk_mk tys_ok rfl trivial rfl (by kernel_rfl)
noncomputable def f66_code : Code := Tryz.f66.body.getD .skip
noncomputable def f66_L4 : Code := nthLoop f66_code 0
theorem f66_L4_is : LoopSnd Tryz.prog f66_ctx f66_L4 := lgen f66_cok mixed (sp := f66_L4_spec) rfl [[(4, vB)], []] (bs := []) (by kernel_rfl) trivial (by kernel_rfl) (by kernel_rfl) fun y x => by kernel_rfl
theorem f66_is : SpecOk Tryz.prog 66 f66_spec := fgen f66_cok mixed Tryz.func66 (by kernel_rfl) (bs := [f66_L4]) (by kernel_rfl) ⟨f66_L4_is, trivial⟩ fun x => by kernel_rfl

-- slices.Equal[[]imageeditor/api.Seg,imageeditor/api.Seg]
abbrev f67_L4_Y : Type := ((List D58) × (List D58) × Int × Unit)
abbrev f67_L4_X : Type := (Int × Unit)
def f67_L4t (y : f67_L4_Y) (x : f67_L4_X) : Prop × Bool × f67_L4_X × Bool × Bool :=
 let a0 := y.1 
 let a1 := y.2.1 
 let a13 := x.1 
 let v14 := (decide (a13 < y.2.2.1))
 let v24 := (!(Ty.eqb T58 (nth a0 a13 Z58) (nth a1 a13 Z58)))
 ((v14 = true → (InB a13 (len a0) ∧ (InB a13 (len a1) ∧ ((!v24) = true → InR (a13 + 1))))), (v14 && (!v24)), ((a13 + 1), ()), (v14 && v24), (!v14))
def f67_L4_ok (y : f67_L4_Y) (x : f67_L4_X) : Prop := (f67_L4t y x).1
def f67_L4_g (y : f67_L4_Y) (x : f67_L4_X) : Bool := (f67_L4t y x).2.1
def f67_L4_next (y : f67_L4_Y) (x : f67_L4_X) : f67_L4_X := (f67_L4t y x).2.2.1
def f67_L4_e1 (y : f67_L4_Y) (x : f67_L4_X) : Bool := (f67_L4t y x).2.2.2.1
def f67_L4_e2 (y : f67_L4_Y) (x : f67_L4_X) : Bool := (f67_L4t y x).2.2.2.2
instance (y : f67_L4_Y) (x : f67_L4_X) : Decidable (f67_L4_ok y x) := by
 unfold f67_L4_ok f67_L4t
 try dsimp only
 infer_instance
def f67_L4_x1_0 (y : f67_L4_Y) (x : f67_L4_X) : Bool :=
 false
def f67_L4_spec : St → Option Out := loopS [(0, (.val (.sl T58))), (1, (.val (.sl T58))), (12, vI)] [(13, vI)] f67_L4_g f67_L4_next f67_L4_ok fun y x => [ex 1 (some (f67_L4_e1 y x)) [(4, vB)] ((f67_L4_x1_0 y x), ()), ex 2 (some (f67_L4_e2 y x)) [] ()]
def f67t (p0 : (List D58)) (p1 : (List D58)) : Prop × Bool :=
 let v10 := ((len p0) != (len p1))
 let y4 := (p0, p1, (len p0), ())
 let x4 := ((0 : Int), ())
 let e4 := (loopEnd (f67_L4_g y4) (f67_L4_next y4) x4)
 (((!v10) = true → (Am.Ends (f67_L4_g y4) (f67_L4_next y4) (f67_L4_ok y4) x4)), (bif v10 then false else (bif (f67_L4_e1 y4 e4) then (f67_L4_x1_0 y4 e4) else true)))
def f67_ok (p0 : (List D58)) (p1 : (List D58)) : Prop := (f67t p0 p1).1
def f67 (p0 : (List D58)) (p1 : (List D58)) : Bool := (f67t p0 p1).2
instance (p0 : (List D58)) (p1 : (List D58)) : Decidable (f67_ok p0 p1) := by
 unfold f67_ok f67t
 try dsimp only
 infer_instance
def f67_spec : Am.Spec := fnSpec [(0, (.val (.sl T58))), (1, (.val (.sl T58)))] vB [] (fun x => f67_ok x.1 x.2.1) (fun x => f67 x.1 x.2.1) (fun _ => ())
def f67_ctx : Ctx := Cx tys [] [(4, f67_L4_spec)] [] false 26 [] []
theorem f67_cok : CtxOk Tryz.prog f67_ctx := ctxOk_mk tys_ok rfl trivial rfl (by kernel_rfl)
noncomputable def f67_code : Code := Tryz.f67.body.getD .skip
noncomputable def f67_L4 : Code := nthLoop f67_code 0
theorem f67_L4_is : LoopSnd Tryz.prog f67_ctx f67_L4 := lgen f67_cok mixed (sp := f67_L4_spec) rfl [[(4, vB)], []] (bs := []) (by kernel_rfl) trivial (by kernel_rfl) (by kernel_rfl) fun y x => by kernel_rfl
theorem f67_is : SpecOk Tryz.prog 67 f67_spec := fgen f67_cok mixed Tryz.func67 (by kernel_rfl) (bs := [f67_L4]) (by kernel_rfl) ⟨f67_L4_is, trivial⟩ fun x => by kernel_rfl

-- slices.Equal[[]imageeditor/api.Point,imageeditor/api.Point]
abbrev f68_L4_Y : Type := ((List D55) × (List D55) × Int × Unit)
abbrev f68_L4_X : Type := (Int × Unit)
def f68_L4t (y : f68_L4_Y) (x : f68_L4_X) : Prop × Bool × f68_L4_X × Bool × Bool :=
 let a0 := y.1 
 let a1 := y.2.1 
 let a13 := x.1 
 let v14 := (decide (a13 < y.2.2.1))
 let v24 := (!(Ty.eqb T55 (nth a0 a13 Z55) (nth a1 a13 Z55)))
 ((v14 = true → (InB a13 (len a0) ∧ (InB a13 (len a1) ∧ ((!v24) = true → InR (a13 + 1))))), (v14 && (!v24)), ((a13 + 1), ()), (v14 && v24), (!v14))
def f68_L4_ok (y : f68_L4_Y) (x : f68_L4_X) : Prop := (f68_L4t y x).1
def f68_L4_g (y : f68_L4_Y) (x : f68_L4_X) : Bool := (f68_L4t y x).2.1
def f68_L4_next (y : f68_L4_Y) (x : f68_L4_X) : f68_L4_X := (f68_L4t y x).2.2.1
def f68_L4_e1 (y : f68_L4_Y) (x : f68_L4_X) : Bool := (f68_L4t y x).2.2.2.1
def f68_L4_e2 (y : f68_L4_Y) (x : f68_L4_X) : Bool := (f68_L4t y x).2.2.2.2
instance (y : f68_L4_Y) (x : f68_L4_X) : Decidable (f68_L4_ok y x) := by
 unfold f68_L4_ok f68_L4t
 try dsimp only
 infer_instance
def f68_L4_x1_0 (y : f68_L4_Y) (x : f68_L4_X) : Bool :=
 false
def f68_L4_spec : St → Option Out := loopS [(0, (.val (.sl T55))), (1, (.val (.sl T55))), (12, vI)] [(13, vI)] f68_L4_g f68_L4_next f68_L4_ok fun y x => [ex 1 (some (f68_L4_e1 y x)) [(4, vB)] ((f68_L4_x1_0 y x), ()), ex 2 (some (f68_L4_e2 y x)) [] ()]
def f68t (p0 : (List D55)) (p1 : (List D55)) : Prop × Bool :=
 let v10 := ((len p0) != (len p1))
 let y4 := (p0, p1, (len p0), ())
 let x4 := ((0 : Int), ())
 let e4 := (loopEnd (f68_L4_g y4) (f68_L4_next y4) x4)
 (((!v10) = true → (Am.Ends (f68_L4_g y4) (f68_L4_next y4) (f68_L4_ok y4) x4)), (bif v10 then false else (bif (f68_L4_e1 y4 e4) then (f68_L4_x1_0 y4 e4) else true)))
def f68_ok (p0 : (List D55)) (p1 : (List D55)) : Prop := (f68t p0 p1).1
def f68 (p0 : (List D55)) (p1 : (List D55)) : Bool := (f68t p0 p1).2
instance (p0 : (List D55)) (p1 : (List D55)) : Decidable (f68_ok p0 p1) := by
 unfold f68_ok f68t
 try dsimp only
 infer_instance
def f68_spec : Am.Spec := fnSpec [(0, (.val (.sl T55))), (1, (.val (.sl T55)))] vB [] (fun x => f68_ok x.1 x.2.1) (fun x => f68 x.1 x.2.1) (fun _ => ())
def f68_ctx : Ctx := Cx tys [] [(4, f68_L4_spec)] [] false 26 [] []
theorem f68_cok : CtxOk Tryz.prog f68_ctx := ctxOk_mk tys_ok rfl trivial rfl (by kernel_rfl)
noncomputable def f68_code : Code := Tryz.f68.body.getD .skip
noncomputable def f68_L4 : Code := nthLoop f68_code 0
theorem f68_L4_is : LoopSnd Tryz.prog f68_ctx f68_L4 := lgen f68_cok mixed (sp := f68_L4_spec) rfl [[(4, vB)], []] (bs := []) (by kernel_rfl) trivial (by kernel_rfl) (by kernel_rfl) fun y x => by kernel_rfl
theorem f68_is : SpecOk Tryz.prog 68 f68_spec := fgen f68_cok mixed Tryz.func68 (by kernel_rfl) (bs := [f68_L4]) (by kernel_rfl) ⟨f68_L4_is, trivial⟩ fun x => by kernel_rfl

-- imageeditor/node.sameContent
def f38t (p0 : D37) (p1 : D37) : Prop × Bool :=
 let v17 := (bif (!(f65 p0.2.2.2.2.2.2.2.2.2.2.2.2.1 p1.2.2.2.2.2.2.2.2.2.2.2.2.1)) then true else (!(Ty.eqb T30 p0.2.2.2.2.2.2.2.2.2.2.2.2.2.1 p1.2.2.2.2.2.2.2.2.2.2.2.2.2.1)))
 let v29 := (bif (p0.2.2.2.2.2.2.2.2.2.2.2.2.2.2.1 != p1.2.2.2.2.2.2.2.2.2.2.2.2.2.2.1) then true else (p0.2.2.2.2.2.2.2.2.2.2.2.2.2.2.2.2.1 != p1.2.2.2.2.2.2.2.2.2.2.2.2.2.2.2.2.1))
 let v35 := (!(f37 p0.2.2.2.2.2.2.2.2.2.2.2.2.2.2.2.1 p1.2.2.2.2.2.2.2.2.2.2.2.2.2.2.2.1))
 let v43 := (bif v35 then true else (!(f66 p0.2.2.2.2.2.2.2.2.2.2.2.2.2.2.2.2.2.1 p1.2.2.2.2.2.2.2.2.2.2.2.2.2.2.2.2.2.1)))
 let v51 := (bif v43 then true else (!(f67 p0.2.2.2.2.2.2.2.2.2.2.2.2.2.2.2.2.2.2.1 p1.2.2.2.2.2.2.2.2.2.2.2.2.2.2.2.2.2.2.1)))
 let v63 := (bif (p0.2.2.2.2.2.2.2.2.2.2.2.2.2.2.2.2.2.2.2.1 != p1.2.2.2.2.2.2.2.2.2.2.2.2.2.2.2.2.2.2.2.1) then true else (p0.2.2.2.2.2.2.2.2.2.2.2.2.2.2.2.2.2.2.2.2.1 != p1.2.2.2.2.2.2.2.2.2.2.2.2.2.2.2.2.2.2.2.2.1))
 let v77 := (bif (bif v63 then true else (p0.2.2.2.2.2.2.2.2.2.2.2.2.2.2.2.2.2.2.2.2.2.1 != p1.2.2.2.2.2.2.2.2.2.2.2.2.2.2.2.2.2.2.2.2.2.1)) then true else (p0.2.2.2.2.2.2.2.2.2.2.2.2.2.2.2.2.2.2.2.2.2.2.1 != p1.2.2.2.2.2.2.2.2.2.2.2.2.2.2.2.2.2.2.2.2.2.2.1))
 let v89 := (bif (!(p0.2.2.2.2.2.2.2.2.2.2.2.2.2.2.2.2.2.2.2.2.2.2.2.1 == p1.2.2.2.2.2.2.2.2.2.2.2.2.2.2.2.2.2.2.2.2.2.2.2.1)) then true else (p0.2.2.2.2.2.2.2.2.2.2.2.2.2.2.2.2.2.2.2.2.2.2.2.2.1 != p1.2.2.2.2.2.2.2.2.2.2.2.2.2.2.2.2.2.2.2.2.2.2.2.2.1))
 let v103 := (bif (bif v89 then true else (p0.2.2.2.2.2.2.2.2.2.2.2.2.2.2.2.2.2.2.2.2.2.2.2.2.2.1 != p1.2.2.2.2.2.2.2.2.2.2.2.2.2.2.2.2.2.2.2.2.2.2.2.2.2.1)) then true else (p0.2.2.2.2.2.2.2.2.2.2.2.2.2.2.2.2.2.2.2.2.2.2.2.2.2.2.1 != p1.2.2.2.2.2.2.2.2.2.2.2.2.2.2.2.2.2.2.2.2.2.2.2.2.2.2.1))
 let v119 := (bif (p0.2.2.2.2.2.2.2.2.2.2.2.2.2.2.2.2.2.2.2.2.2.2.2.2.2.2.2.1.1 != p1.2.2.2.2.2.2.2.2.2.2.2.2.2.2.2.2.2.2.2.2.2.2.2.2.2.2.2.1.1) then true else (p0.2.2.2.2.2.2.2.2.2.2.2.2.2.2.2.2.2.2.2.2.2.2.2.2.2.2.2.1.2.1 != p1.2.2.2.2.2.2.2.2.2.2.2.2.2.2.2.2.2.2.2.2.2.2.2.2.2.2.2.1.2.1))
 let v128 := (bif v119 then true else (p0.2.2.2.2.2.2.2.2.2.2.2.2.2.2.2.2.2.2.2.2.2.2.2.2.2.2.2.1.2.2.1 != p1.2.2.2.2.2.2.2.2.2.2.2.2.2.2.2.2.2.2.2.2.2.2.2.2.2.2.2.1.2.2.1))
 let m4_2 := (bif v77 then false else (bif v103 then false else (bif v128 then false else (f68 p0.2.2.2.2.2.2.2.2.2.2.2.2.2.2.2.2.2.2.2.2.2.2.2.2.2.2.2.1.2.2.2.1 p1.2.2.2.2.2.2.2.2.2.2.2.2.2.2.2.2.2.2.2.2.2.2.2.2.2.2.2.1.2.2.2.1))))
 (((f65_ok p0.2.2.2.2.2.2.2.2.2.2.2.2.1 p1.2.2.2.2.2.2.2.2.2.2.2.2.1) ∧ ((!v17) = true → ((!v29) = true → ((f37_ok p0.2.2.2.2.2.2.2.2.2.2.2.2.2.2.2.1 p1.2.2.2.2.2.2.2.2.2.2.2.2.2.2.2.1) ∧ (((!v35) = true → (f66_ok p0.2.2.2.2.2.2.2.2.2.2.2.2.2.2.2.2.2.1 p1.2.2.2.2.2.2.2.2.2.2.2.2.2.2.2.2.2.1)) ∧ (((!v43) = true → (f67_ok p0.2.2.2.2.2.2.2.2.2.2.2.2.2.2.2.2.2.2.1 p1.2.2.2.2.2.2.2.2.2.2.2.2.2.2.2.2.2.2.1)) ∧ ((!v51) = true → ((!v77) = true → ((!v103) = true → ((!v128) = true → (f68_ok p0.2.2.2.2.2.2.2.2.2.2.2.2.2.2.2.2.2.2.2.2.2.2.2.2.2.2.2.1.2.2.2.1 p1.2.2.2.2.2.2.2.2.2.2.2.2.2.2.2.2.2.2.2.2.2.2.2.2.2.2.2.1.2.2.2.1))))))))))), (bif v17 then false else (bif v29 then false else (bif v51 then false else m4_2))))
def f38_ok (p0 : D37) (p1 : D37) : Prop := (f38t p0 p1).1
def f38 (p0 : D37) (p1 : D37) : Bool := (f38t p0 p1).2
instance (p0 : D37) (p1 : D37) : Decidable (f38_ok p0 p1) := by
 unfold f38_ok f38t
 try dsimp only
 infer_instance
def f38_spec : Am.Spec := fnSpec [(0, (.val T37)), (1, (.val T37))] vB [] (fun x => f38_ok x.1 x.2.1) (fun x => f38 x.1 x.2.1) (fun _ => ())
def f38_ctx : Ctx := Cx tys [(37, f37_spec), (65, f65_spec), (66, f66_spec), (67, f67_spec), (68, f68_spec)] [] [] false 136 [] []
theorem f38_cok : CtxOk Tryz.prog f38_ctx := ctxOk_mk tys_ok rfl ⟨f37_is, f65_is, f66_is, f67_is, f68_is, trivial⟩ rfl (by kernel_rfl)
theorem f38_is : SpecOk Tryz.prog 38 f38_spec := fgen f38_cok mixed Tryz.func38 (by kernel_rfl) (bs := []) (by kernel_rfl) trivial fun x => by kernel_rfl

-- imageeditor/node.Same
def f14t (p0 : D37) (p1 : D37) : Prop × Bool :=
 let v30 := (bif (bif (bif (p0.1 != p1.1) then true else (p0.2.1 != p1.2.1)) then true else (p0.2.2.1 != p1.2.2.1)) then true else (!(p0.2.2.2.1 == p1.2.2.2.1)))
 let v49 := (bif (bif (!(Ty.eqb .bool p0.2.2.2.2.1 p1.2.2.2.2.1)) then true else (!(Ty.eqb .bool p0.2.2.2.2.2.1 p1.2.2.2.2.2.1))) then true else (!(Ty.eqb .bool p0.2.2.2.2.2.2.1 p1.2.2.2.2.2.2.1)))
 let v75 := (bif (bif (bif (p0.2.2.2.2.2.2.2.1 != p1.2.2.2.2.2.2.2.1) then true else (p0.2.2.2.2.2.2.2.2.1 != p1.2.2.2.2.2.2.2.2.1)) then true else (!(Ty.eqb T25 p0.2.2.2.2.2.2.2.2.2.2.1 p1.2.2.2.2.2.2.2.2.2.2.1))) then true else (p0.2.2.2.2.2.2.2.2.2.2.2.1 != p1.2.2.2.2.2.2.2.2.2.2.2.1))
 let v91 := (bif (p0.2.2.2.2.2.2.2.2.2.1.1 != p1.2.2.2.2.2.2.2.2.2.1.1) then true else (p0.2.2.2.2.2.2.2.2.2.1.2.1 != p1.2.2.2.2.2.2.2.2.2.1.2.1))
 let v101 := (bif v91 then true else (!(f37 p0.2.2.2.2.2.2.2.2.2.1.2.2.1 p1.2.2.2.2.2.2.2.2.2.1.2.2.1)))
 (((!v30) = true → ((!v49) = true → ((!v75) = true → (((!v91) = true → (f37_ok p0.2.2.2.2.2.2.2.2.2.1.2.2.1 p1.2.2.2.2.2.2.2.2.2.1.2.2.1)) ∧ ((!v101) = true → (f38_ok p0 p1)))))), (bif v30 then false else (bif v49 then false else (bif v75 then false else (bif v101 then false else (f38 p0 p1))))))
def f14_ok (p0 : D37) (p1 : D37) : Prop := (f14t p0 p1).1
def f14 (p0 : D37) (p1 : D37) : Bool := (f14t p0 p1).2
instance (p0 : D37) (p1 : D37) : Decidable (f14_ok p0 p1) := by
 unfold f14_ok f14t
 try dsimp only
 infer_instance
def f14_spec : Am.Spec := fnSpec [(0, (.val T37)), (1, (.val T37))] vB [] (fun x => f14_ok x.1 x.2.1) (fun x => f14 x.1 x.2.1) (fun _ => ())
def f14_ctx : Ctx := Cx tys [(37, f37_spec), (38, f38_spec)] [] [] false 105 [] []
theorem f14_cok : CtxOk Tryz.prog f14_ctx := ctxOk_mk tys_ok rfl ⟨f37_is, f38_is, trivial⟩ rfl (by kernel_rfl)
theorem f14_is : SpecOk Tryz.prog 14 f14_spec := fgen f14_cok mixed Tryz.func14 (by kernel_rfl) (bs := []) (by kernel_rfl) trivial fun x => by kernel_rfl


end Go.Proofs.YthjoefjcljbapaaGreatDoor.Am
