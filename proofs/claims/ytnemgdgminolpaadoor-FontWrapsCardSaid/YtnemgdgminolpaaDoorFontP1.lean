/- Printed by program: the functions that the statements reach, as plain functions, and their contracts. No condition. -/
import Derived.Test.YtnemgdgminolpaaDoorMach4
import Derived.Test.YtnemgdgminolpaaDoorFontI
import Derived.Test.YtnemgdgminolpaaDoorProg
set_option linter.unusedVariables false
set_option synthInstance.maxSize 4000
set_option synthInstance.maxHeartbeats 400000
namespace Go.Proofs.YtnemgdgminolpaaDoor.Am
open Go Go.Am Go.Proofs
abbrev T48 : Ty := .st (.cons (.int .i64) (.cons (.int .i64) .nl))
abbrev D48 : Type := Int × Int × Unit
abbrev Z48 : D48 := ((0 : Int), (0 : Int), ())
abbrev T51 : Ty := .st (.cons (.int .i64) (.cons (.arr 3 T48) .nl))
abbrev D51 : Type := Int × (List D48) × Unit
abbrev Z51 : D51 := ((0 : Int), (List.replicate 3 Z48), ())
abbrev T46 : Ty := .st (.cons (.int .u8) (.cons (.int .i64) (.cons (.sl T51) .nl)))
abbrev D46 : Type := Int × Int × (List D51) × Unit
abbrev Z46 : D46 := ((0 : Int), (0 : Int), ([] : List D51), ())
abbrev T43 : Ty := .st (.cons (.int .u8) (.cons (.int .u8) (.cons (.int .i64) .nl)))
abbrev D43 : Type := Int × Int × Int × Unit
abbrev Z43 : D43 := ((0 : Int), (0 : Int), (0 : Int), ())
abbrev T25 : Ty := .st (.cons (.int .i64) (.cons (.int .i64) (.cons (.int .i64) (.cons (.sl T46) (.cons (.sl T43) .nl)))))
abbrev D25 : Type := Int × Int × Int × (List D46) × (List D43) × Unit
abbrev Z25 : D25 := ((0 : Int), (0 : Int), (0 : Int), ([] : List D46), ([] : List D43), ())
abbrev T31 : Ty := .st (.cons T25 (.cons .str (.cons (.int .i64) (.cons (.int .i64) .nl))))
abbrev D31 : Type := D25 × (List UInt8) × Int × Int × Unit
abbrev Z31 : D31 := (Z25, ([] : List UInt8), (0 : Int), (0 : Int), ())
abbrev T91 : Ty := .st (.cons T25 (.cons (.arr 256 (.int .i64)) .nl))
abbrev D91 : Type := D25 × (List Int) × Unit
abbrev Z91 : D91 := (Z25, (List.replicate 256 (0 : Int)), ())
abbrev T121 : Ty := .st (.cons (.int .u16) (.cons (.int .u16) (.cons (.int .u16) .nl)))
abbrev D121 : Type := Int × Int × Int × Unit
abbrev Z121 : D121 := ((0 : Int), (0 : Int), (0 : Int), ())
abbrev T124 : Ty := .st (.cons (.int .u32) (.cons (.int .u32) (.cons (.int .u32) .nl)))
abbrev D124 : Type := Int × Int × Int × Unit
abbrev Z124 : D124 := ((0 : Int), (0 : Int), (0 : Int), ())
abbrev T118 : Ty := .st (.cons (.sl T121) (.cons (.sl T124) (.cons (.int .i64) .nl)))
abbrev D118 : Type := (List D121) × (List D124) × Int × Unit
abbrev Z118 : D118 := (([] : List D121), ([] : List D124), (0 : Int), ())
abbrev T7 : Ty := .st (.cons (.int .i64) (.cons (.int .i64) (.cons .bool (.cons (.int .u8) .nl))))
abbrev D7 : Type := Int × Int × Bool × Int × Unit
abbrev Z7 : D7 := ((0 : Int), (0 : Int), false, (0 : Int), ())
abbrev T13 : Ty := .st (.cons .str (.cons (.int .u64) .nl))
abbrev D13 : Type := (List UInt8) × Int × Unit
abbrev Z13 : D13 := (([] : List UInt8), (0 : Int), ())
abbrev T136 : Ty := .st (.cons (.int .u8) (.cons (.int .u8) .nl))
abbrev D136 : Type := Int × Int × Unit
abbrev Z136 : D136 := ((0 : Int), (0 : Int), ())
def G0 : (List Int) := [0, 0, 0, 0, 0, 0, 0, 0, 0, 1, 1, 1, 1, 1, 0, 0, 0, 0, 0, 0, 0, 0, 0, 0, 0, 0, 0, 0, 0, 0, 0, 0, 1, 0, 0, 0, 0, 0, 0, 0, 0, 0, 0, 0, 0, 0, 0, 0, 0, 0, 0, 0, 0, 0, 0, 0, 0, 0, 0, 0, 0, 0, 0, 0, 0, 0, 0, 0, 0, 0, 0, 0, 0, 0, 0, 0, 0, 0, 0, 0, 0, 0, 0, 0, 0, 0, 0, 0, 0, 0, 0, 0, 0, 0, 0, 0, 0, 0, 0, 0, 0, 0, 0, 0, 0, 0, 0, 0, 0, 0, 0, 0, 0, 0, 0, 0, 0, 0, 0, 0, 0, 0, 0, 0, 0, 0, 0, 0, 0, 0, 0, 0, 0, 0, 0, 0, 0, 0, 0, 0, 0, 0, 0, 0, 0, 0, 0, 0, 0, 0, 0, 0, 0, 0, 0, 0, 0, 0, 0, 0, 0, 0, 0, 0, 0, 0, 0, 0, 0, 0, 0, 0, 0, 0, 0, 0, 0, 0, 0, 0, 0, 0, 0, 0, 0, 0, 0, 0, 0, 0, 0, 0, 0, 0, 0, 0, 0, 0, 0, 0, 0, 0, 0, 0, 0, 0, 0, 0, 0, 0, 0, 0, 0, 0, 0, 0, 0, 0, 0, 0, 0, 0, 0, 0, 0, 0, 0, 0, 0, 0, 0, 0, 0, 0, 0, 0, 0, 0, 0, 0, 0, 0, 0, 0, 0, 0, 0, 0, 0, 0, 0, 0, 0, 0, 0, 0]
instance : GlobTab := ⟨⟨[(0, ⟨(.arr 256 (.int .u8)), G0⟩)]⟩⟩
set_option maxRecDepth 20000 in
def lit0 : List UInt8 := [48, 48, 48, 48, 48, 48, 48, 48, 48, 48, 32, 48, 48, 48, 48, 53, 102, 48, 48, 48, 48, 32, 48, 48, 48, 55, 48, 48, 48, 55, 48, 48, 32, 49, 52, 55, 102, 49, 52, 55, 102, 49, 52, 32, 50, 52, 50, 97, 55, 102, 50, 97, 49, 50, 32, 50, 51, 49, 51, 48, 56, 54, 52, 54, 50, 32, 51, 54, 52, 57, 53, 54, 50, 48, 53, 48, 32, 48, 48, 48, 53, 48, 51, 48, 48, 48, 48, 32, 48, 48, 49, 99, 50, 50, 52, 49, 48, 48, 32, 48, 48, 52, 49, 50, 50, 49, 99, 48, 48, 32, 49, 52, 48, 56, 51, 101, 48, 56, 49, 52, 32, 48, 56, 48, 56, 51, 101, 48, 56, 48, 56, 32, 48, 48, 53, 48, 51, 48, 48, 48, 48, 48, 32, 48, 56, 48, 56, 48, 56, 48, 56, 48, 56, 32, 48, 48, 54, 48, 54, 48, 48, 48, 48, 48, 32, 50, 48, 49, 48, 48, 56, 48, 52, 48, 50, 32, 51, 101, 53, 49, 52, 57, 52, 53, 51, 101, 32, 48, 48, 52, 50, 55, 102, 52, 48, 48, 48, 32, 52, 50, 54, 49, 53, 49, 52, 57, 52, 54, 32, 50, 49, 52, 49, 52, 53, 52, 98, 51, 49, 32, 49, 56, 49, 52, 49, 50, 55, 102, 49, 48, 32, 50, 55, 52, 53, 52, 53, 52, 53, 51, 57, 32, 51, 99, 52, 97, 52, 57, 52, 57, 51, 48, 32, 48, 49, 55, 49, 48, 57, 48, 53, 48, 51, 32, 51, 54, 52, 57, 52, 57, 52, 57, 51, 54, 32, 48, 54, 52, 57, 52, 57, 50, 57, 49, 101, 32, 48, 48, 51, 54, 51, 54, 48, 48, 48, 48, 32, 48, 48, 53, 54, 51, 54, 48, 48, 48, 48, 32, 48, 56, 49, 52, 50, 50, 52, 49, 48, 48, 32, 49, 52, 49, 52, 49, 52, 49, 52, 49, 52, 32, 48, 48, 52, 49, 50, 50, 49, 52, 48, 56, 32, 48, 50, 48, 49, 53, 49, 48, 57, 48, 54, 32, 51, 50, 52, 57, 55, 57, 52, 49, 51, 101, 32, 55, 101, 49, 49, 49, 49, 49, 49, 55, 101, 32, 55, 102, 52, 57, 52, 57, 52, 57, 51, 54, 32, 51, 101, 52, 49, 52, 49, 52, 49, 50, 50, 32, 55, 102, 52, 49, 52, 49, 50, 50, 49, 99, 32, 55, 102, 52, 57, 52, 57, 52, 57, 52, 49, 32, 55, 102, 48, 57, 48, 57, 48, 57, 48, 49, 32, 51, 101, 52, 49, 52, 57, 52, 57, 55, 97, 32, 55, 102, 48, 56, 48, 56, 48, 56, 55, 102, 32, 48, 48, 52, 49, 55, 102, 52, 49, 48, 48, 32, 50, 48, 52, 48, 52, 49, 51, 102, 48, 49, 32, 55, 102, 48, 56, 49, 52, 50, 50, 52, 49, 32, 55, 102, 52, 48, 52, 48, 52, 48, 52, 48, 32, 55, 102, 48, 50, 48, 99, 48, 50, 55, 102, 32, 55, 102, 48, 52, 48, 56, 49, 48, 55, 102, 32, 51, 101, 52, 49, 52, 49, 52, 49, 51, 101, 32, 55, 102, 48, 57, 48, 57, 48, 57, 48, 54, 32, 51, 101, 52, 49, 53, 49, 50, 49, 53, 101, 32, 55, 102, 48, 57, 49, 57, 50, 57, 52, 54, 32, 52, 54, 52, 57, 52, 57, 52, 57, 51, 49, 32, 48, 49, 48, 49, 55, 102, 48, 49, 48, 49, 32, 51, 102, 52, 48, 52, 48, 52, 48, 51, 102, 32, 49, 102, 50, 48, 52, 48, 50, 48, 49, 102, 32, 51, 102, 52, 48, 51, 56, 52, 48, 51, 102, 32, 54, 51, 49, 52, 48, 56, 49, 52, 54, 51, 32, 48, 55, 48, 56, 55, 48, 48, 56, 48, 55, 32, 54, 49, 53, 49, 52, 57, 52, 53, 52, 51, 32, 48, 48, 55, 102, 52, 49, 52, 49, 48, 48, 32, 48, 50, 48, 52, 48, 56, 49, 48, 50, 48, 32, 48, 48, 52, 49, 52, 49, 55, 102, 48, 48, 32, 48, 52, 48, 50, 48, 49, 48, 50, 48, 52, 32, 52, 48, 52, 48, 52, 48, 52, 48, 52, 48, 32, 48, 48, 48, 49, 48, 50, 48, 52, 48, 48, 32, 50, 48, 53, 52, 53, 52, 53, 52, 55, 56, 32, 55, 102, 52, 56, 52, 52, 52, 52, 51, 56, 32, 51, 56, 52, 52, 52, 52, 52, 52, 50, 48, 32, 51, 56, 52, 52, 52, 52, 52, 56, 55, 102, 32, 51, 56, 53, 52, 53, 52, 53, 52, 49, 56, 32, 48, 56, 55, 101, 48, 57, 48, 49, 48, 50, 32, 48, 99, 53, 50, 53, 50, 53, 50, 51, 101, 32, 55, 102, 48, 56, 48, 52, 48, 52, 55, 56, 32, 48, 48, 52, 52, 55, 100, 52, 48, 48, 48, 32, 50, 48, 52, 48, 52, 52, 51, 100, 48, 48, 32, 55, 102, 49, 48, 50, 56, 52, 52, 48, 48, 32, 48, 48, 52, 49, 55, 102, 52, 48, 48, 48, 32, 55, 99, 48, 52, 49, 56, 48, 52, 55, 56, 32, 55, 99, 48, 56, 48, 52, 48, 52, 55, 56, 32, 51, 56, 52, 52, 52, 52, 52, 52, 51, 56, 32, 55, 99, 49, 52, 49, 52, 49, 52, 48, 56, 32, 48, 56, 49, 52, 49, 52, 49, 56, 55, 99, 32, 55, 99, 48, 56, 48, 52, 48, 52, 48, 56, 32, 52, 56, 53, 52, 53, 52, 53, 52, 50, 48, 32, 48, 52, 51, 102, 52, 52, 52, 48, 50, 48, 32, 51, 99, 52, 48, 52, 48, 50, 48, 55, 99, 32, 49, 99, 50, 48, 52, 48, 50, 48, 49, 99, 32, 51, 99, 52, 48, 51, 48, 52, 48, 51, 99, 32, 52, 52, 50, 56, 49, 48, 50, 56, 52, 52, 32, 48, 99, 53, 48, 53, 48, 53, 48, 51, 99, 32, 52, 52, 54, 52, 53, 52, 52, 99, 52, 52, 32, 48, 48, 48, 56, 51, 54, 52, 49, 48, 48, 32, 48, 48, 48, 48, 55, 102, 48, 48, 48, 48, 32, 48, 48, 52, 49, 51, 54, 48, 56, 48, 48, 32, 49, 48, 48, 56, 48, 56, 49, 48, 48, 56]
set_option maxRecDepth 20000 in
def lit1 : List UInt8 := [48, 48, 48, 48, 48, 48, 48, 48, 48, 48, 48, 48, 48, 48, 53, 102, 48, 48, 48, 48, 48, 48, 48, 55, 48, 48, 48, 55, 48, 48, 49, 52, 55, 102, 49, 52, 55, 102, 49, 52, 50, 52, 50, 97, 55, 102, 50, 97, 49, 50, 50, 51, 49, 51, 48, 56, 54, 52, 54, 50, 51, 54, 52, 57, 53, 54, 50, 48, 53, 48, 48, 48, 48, 53, 48, 51, 48, 48, 48, 48, 48, 48, 49, 99, 50, 50, 52, 49, 48, 48, 48, 48, 52, 49, 50, 50, 49, 99, 48, 48, 49, 52, 48, 56, 51, 101, 48, 56, 49, 52, 48, 56, 48, 56, 51, 101, 48, 56, 48, 56, 48, 48, 53, 48, 51, 48, 48, 48, 48, 48, 48, 56, 48, 56, 48, 56, 48, 56, 48, 56, 48, 48, 54, 48, 54, 48, 48, 48, 48, 48, 50, 48, 49, 48, 48, 56, 48, 52, 48, 50, 51, 101, 53, 49, 52, 57, 52, 53, 51, 101, 48, 48, 52, 50, 55, 102, 52, 48, 48, 48, 52, 50, 54, 49, 53, 49, 52, 57, 52, 54, 50, 49, 52, 49, 52, 53, 52, 98, 51, 49, 49, 56, 49, 52, 49, 50, 55, 102, 49, 48, 50, 55, 52, 53, 52, 53, 52, 53, 51, 57, 51, 99, 52, 97, 52, 57, 52, 57, 51, 48, 48, 49, 55, 49, 48, 57, 48, 53, 48, 51, 51, 54, 52, 57, 52, 57, 52, 57, 51, 54, 48, 54, 52, 57, 52, 57, 50, 57, 49, 101, 48, 48, 51, 54, 51, 54, 48, 48, 48, 48, 48, 48, 53, 54, 51, 54, 48, 48, 48, 48, 48, 56, 49, 52, 50, 50, 52, 49, 48, 48, 49, 52, 49, 52, 49, 52, 49, 52, 49, 52, 48, 48, 52, 49, 50, 50, 49, 52, 48, 56, 48, 50, 48, 49, 53, 49, 48, 57, 48, 54, 51, 50, 52, 57, 55, 57, 52, 49, 51, 101, 55, 101, 49, 49, 49, 49, 49, 49, 55, 101, 55, 102, 52, 57, 52, 57, 52, 57, 51, 54, 51, 101, 52, 49, 52, 49, 52, 49, 50, 50, 55, 102, 52, 49, 52, 49, 50, 50, 49, 99, 55, 102, 52, 57, 52, 57, 52, 57, 52, 49, 55, 102, 48, 57, 48, 57, 48, 57, 48, 49, 51, 101, 52, 49, 52, 57, 52, 57, 55, 97, 55, 102, 48, 56, 48, 56, 48, 56, 55, 102, 48, 48, 52, 49, 55, 102, 52, 49, 48, 48, 50, 48, 52, 48, 52, 49, 51, 102, 48, 49, 55, 102, 48, 56, 49, 52, 50, 50, 52, 49, 55, 102, 52, 48, 52, 48, 52, 48, 52, 48, 55, 102, 48, 50, 48, 99, 48, 50, 55, 102, 55, 102, 48, 52, 48, 56, 49, 48, 55, 102, 51, 101, 52, 49, 52, 49, 52, 49, 51, 101, 55, 102, 48, 57, 48, 57, 48, 57, 48, 54, 51, 101, 52, 49, 53, 49, 50, 49, 53, 101, 55, 102, 48, 57, 49, 57, 50, 57, 52, 54, 52, 54, 52, 57, 52, 57, 52, 57, 51, 49, 48, 49, 48, 49, 55, 102, 48, 49, 48, 49, 51, 102, 52, 48, 52, 48, 52, 48, 51, 102, 49, 102, 50, 48, 52, 48, 50, 48, 49, 102, 51, 102, 52, 48, 51, 56, 52, 48, 51, 102, 54, 51, 49, 52, 48, 56, 49, 52, 54, 51, 48, 55, 48, 56, 55, 48, 48, 56, 48, 55, 54, 49, 53, 49, 52, 57, 52, 53, 52, 51, 48, 48, 55, 102, 52, 49, 52, 49, 48, 48, 48, 50, 48, 52, 48, 56, 49, 48, 50, 48, 48, 48, 52, 49, 52, 49, 55, 102, 48, 48, 48, 52, 48, 50, 48, 49, 48, 50, 48, 52, 52, 48, 52, 48, 52, 48, 52, 48, 52, 48, 48, 48, 48, 49, 48, 50, 48, 52, 48, 48, 50, 48, 53, 52, 53, 52, 53, 52, 55, 56, 55, 102, 52, 56, 52, 52, 52, 52, 51, 56, 51, 56, 52, 52, 52, 52, 52, 52, 50, 48, 51, 56, 52, 52, 52, 52, 52, 56, 55, 102, 51, 56, 53, 52, 53, 52, 53, 52, 49, 56, 48, 56, 55, 101, 48, 57, 48, 49, 48, 50, 48, 99, 53, 50, 53, 50, 53, 50, 51, 101, 55, 102, 48, 56, 48, 52, 48, 52, 55, 56, 48, 48, 52, 52, 55, 100, 52, 48, 48, 48, 50, 48, 52, 48, 52, 52, 51, 100, 48, 48, 55, 102, 49, 48, 50, 56, 52, 52, 48, 48, 48, 48, 52, 49, 55, 102, 52, 48, 48, 48, 55, 99, 48, 52, 49, 56, 48, 52, 55, 56, 55, 99, 48, 56, 48, 52, 48, 52, 55, 56, 51, 56, 52, 52, 52, 52, 52, 52, 51, 56, 55, 99, 49, 52, 49, 52, 49, 52, 48, 56, 48, 56, 49, 52, 49, 52, 49, 56, 55, 99, 55, 99, 48, 56, 48, 52, 48, 52, 48, 56, 52, 56, 53, 52, 53, 52, 53, 52, 50, 48, 48, 52, 51, 102, 52, 52, 52, 48, 50, 48, 51, 99, 52, 48, 52, 48, 50, 48, 55, 99, 49, 99, 50, 48, 52, 48, 50, 48, 49, 99, 51, 99, 52, 48, 51, 48, 52, 48, 51, 99, 52, 52, 50, 56, 49, 48, 50, 56, 52, 52, 48, 99, 53, 48, 53, 48, 53, 48, 51, 99, 52, 52, 54, 52, 53, 52, 52, 99, 52, 52, 48, 48, 48, 56, 51, 54, 52, 49, 48, 48, 48, 48, 48, 48, 55, 102, 48, 48, 48, 48, 48, 48, 52, 49, 51, 54, 48, 56, 48, 48, 49, 48, 48, 56, 48, 56, 49, 48, 48, 56]
theorem x68_ok : ExtOk Tryd.prog 68 extIndexByte := indexByte_ok Tryd.func68 (by kernel_rfl) (by kernel_rfl) (by kernel_rfl) (by kernel_rfl)
def tys : List (Nat × Ty) := [(3, (.int .i64)), (4, .bool), (5, (.int .u8)), (9, .str), (21, (.int .i32)), (23, (.sl T46)), (24, (.sl T43)), (26, T25), (28, (.int .i64)), (32, T31), (35, (.sl .str)), (39, (.sl (.sl T48))), (44, T43), (45, (.sl T51)), (47, T46), (49, T48), (50, (.arr 3 T48)), (52, T51), (60, (.sl T48)), (63, (.ptr T91)), (67, (.sl (.int .i64))), (74, (.sl T48)), (78, T48), (81, (.arr 256 (.int .u8))), (90, (.arr 256 (.int .i64))), (92, T91), (95, (.int .u64)), (103, (.sl T48)), (105, T48), (106, (.int .u32)), (108, (.ptr T118))]
theorem tys_ok : tysOk Tryd.prog tys = true := by kernel_rfl
theorem mixed : Tryd.prog.follows .mixedOrders = true := by kernel_rfl
def f9_L4_g (y : (D25 × D25 × Unit)) (x : (Int × Unit)) : Bool :=
  let a2 := y.1
  let a3 := y.2.1
  let a5 := x.1
  let v50 := (len a2.2.2.2.2.1)
  let v51 := (decide (a5 < v50))
  let v57 := (nth a2.2.2.2.2.1 a5 Z43)
  let v62 := (nth a3.2.2.2.2.1 a5 Z43)
  let v64 := (!(Ty.eqb T43 v57 v62))
  let c := (v51 && (!v64))
  c
def f9_L4_next (y : (D25 × D25 × Unit)) (x : (Int × Unit)) : (Int × Unit) :=
  let a5 := x.1
  let v53 := (a5 + (1 : Int))
  (v53, ())
def f9_L4_ok (y : (D25 × D25 × Unit)) (x : (Int × Unit)) : Prop :=
  let a2 := y.1
  let a3 := y.2.1
  let a5 := x.1
  let v50 := (len a2.2.2.2.2.1)
  let v51 := (decide (a5 < v50))
  let v57 := (nth a2.2.2.2.2.1 a5 Z43)
  let v62 := (nth a3.2.2.2.2.1 a5 Z43)
  let v64 := (!(Ty.eqb T43 v57 v62))
  (v51 = true → (InB a5 (len a2.2.2.2.2.1) ∧ (InB a5 (len a3.2.2.2.2.1) ∧ ((!v64) = true → InR (a5 + (1 : Int))))))
instance (y : (D25 × D25 × Unit)) (x : (Int × Unit)) : Decidable (f9_L4_ok y x) := by
  unfold f9_L4_ok
  try dsimp only
  infer_instance
def f9_L4_x1 (y : (D25 × D25 × Unit)) (x : (Int × Unit)) : (Bool × Unit) :=
  (false, ())
def f9_L4_x1_0 (y : (D25 × D25 × Unit)) (x : (Int × Unit)) : Bool := (f9_L4_x1 y x).1
def f9_L4_e1 (y : (D25 × D25 × Unit)) (x : (Int × Unit)) : Bool :=
  let a2 := y.1
  let a3 := y.2.1
  let a5 := x.1
  let v50 := (len a2.2.2.2.2.1)
  let v51 := (decide (a5 < v50))
  let v57 := (nth a2.2.2.2.2.1 a5 Z43)
  let v62 := (nth a3.2.2.2.2.1 a5 Z43)
  let v64 := (!(Ty.eqb T43 v57 v62))
  let c_1 := (v51 && v64)
  c_1
def f9_L4_x2 (y : (D25 × D25 × Unit)) (x : (Int × Unit)) : (Unit) :=
  ()
def f9_L4_e2 (y : (D25 × D25 × Unit)) (x : (Int × Unit)) : Bool :=
  let a2 := y.1
  let a5 := x.1
  let v50 := (len a2.2.2.2.2.1)
  let v51 := (decide (a5 < v50))
  (!v51)
def f9_L4_ly : List (Nat × Sh) := [(2, (.box T25 (.val T25))), (3, (.box T25 (.val T25)))]
def f9_L4_lx : List (Nat × Sh) := [(5, (.val (.int .i64)))]
def f9_L4_les : List (List (Nat × Sh)) := [[(4, (.val .bool))], [(2, (.box T25 (.val T25))), (3, (.box T25 (.val T25)))]]
def f9_L4_es (y : denL f9_L4_ly) (x : denL f9_L4_lx) : List Comp := [⟨1, some (f9_L4_e1 y x), mkSt [(4, (.val .bool))] ((f9_L4_x1_0 y x), ()) ++ cutSt⟩, ⟨2, some (f9_L4_e2 y x), mkSt [(2, (.box T25 (.val T25))), (3, (.box T25 (.val T25)))] (y.1, y.2.1, ()) ++ cutSt⟩]
def f9_L4_spec : St → Option Out := loopS f9_L4_ly f9_L4_lx f9_L4_g f9_L4_next f9_L4_ok f9_L4_es
def f9_L15_g (y : (D25 × D25 × Int × D46 × D46 × Unit)) (x : (Int × Unit)) : Bool :=
  let a7 := y.2.2.2.1
  let a8 := y.2.2.2.2.1
  let a9 := x.1
  let v106 := (len a7.2.2.1)
  let v107 := (decide (a9 < v106))
  let v113 := (nth a7.2.2.1 a9 Z51)
  let v118 := (nth a8.2.2.1 a9 Z51)
  let v120 := (!(Ty.eqb T51 v113 v118))
  let c := (v107 && (!v120))
  c
def f9_L15_next (y : (D25 × D25 × Int × D46 × D46 × Unit)) (x : (Int × Unit)) : (Int × Unit) :=
  let a9 := x.1
  let v109 := (a9 + (1 : Int))
  (v109, ())
def f9_L15_ok (y : (D25 × D25 × Int × D46 × D46 × Unit)) (x : (Int × Unit)) : Prop :=
  let a7 := y.2.2.2.1
  let a8 := y.2.2.2.2.1
  let a9 := x.1
  let v106 := (len a7.2.2.1)
  let v107 := (decide (a9 < v106))
  let v113 := (nth a7.2.2.1 a9 Z51)
  let v118 := (nth a8.2.2.1 a9 Z51)
  let v120 := (!(Ty.eqb T51 v113 v118))
  (v107 = true → (InB a9 (len a7.2.2.1) ∧ (InB a9 (len a8.2.2.1) ∧ ((!v120) = true → InR (a9 + (1 : Int))))))
instance (y : (D25 × D25 × Int × D46 × D46 × Unit)) (x : (Int × Unit)) : Decidable (f9_L15_ok y x) := by
  unfold f9_L15_ok
  try dsimp only
  infer_instance
def f9_L15_x1 (y : (D25 × D25 × Int × D46 × D46 × Unit)) (x : (Int × Unit)) : (Bool × Unit) :=
  (false, ())
def f9_L15_x1_0 (y : (D25 × D25 × Int × D46 × D46 × Unit)) (x : (Int × Unit)) : Bool := (f9_L15_x1 y x).1
def f9_L15_e1 (y : (D25 × D25 × Int × D46 × D46 × Unit)) (x : (Int × Unit)) : Bool :=
  let a7 := y.2.2.2.1
  let a8 := y.2.2.2.2.1
  let a9 := x.1
  let v106 := (len a7.2.2.1)
  let v107 := (decide (a9 < v106))
  let v113 := (nth a7.2.2.1 a9 Z51)
  let v118 := (nth a8.2.2.1 a9 Z51)
  let v120 := (!(Ty.eqb T51 v113 v118))
  let c_1 := (v107 && v120)
  c_1
def f9_L15_x6 (y : (D25 × D25 × Int × D46 × D46 × Unit)) (x : (Int × Unit)) : (Unit) :=
  ()
def f9_L15_e6 (y : (D25 × D25 × Int × D46 × D46 × Unit)) (x : (Int × Unit)) : Bool :=
  let a7 := y.2.2.2.1
  let a9 := x.1
  let v106 := (len a7.2.2.1)
  let v107 := (decide (a9 < v106))
  (!v107)
def f9_L15_ly : List (Nat × Sh) := [(2, (.box T25 (.val T25))), (3, (.box T25 (.val T25))), (6, (.val (.int .i64))), (7, (.box T46 (.val T46))), (8, (.box T46 (.val T46)))]
def f9_L15_lx : List (Nat × Sh) := [(9, (.val (.int .i64)))]
def f9_L15_les : List (List (Nat × Sh)) := [[(4, (.val .bool))], [(2, (.box T25 (.val T25))), (3, (.box T25 (.val T25))), (6, (.val (.int .i64)))]]
def f9_L15_es (y : denL f9_L15_ly) (x : denL f9_L15_lx) : List Comp := [⟨1, some (f9_L15_e1 y x), mkSt [(4, (.val .bool))] ((f9_L15_x1_0 y x), ()) ++ cutSt⟩, ⟨6, some (f9_L15_e6 y x), mkSt [(2, (.box T25 (.val T25))), (3, (.box T25 (.val T25))), (6, (.val (.int .i64)))] (y.1, y.2.1, y.2.2.1, ()) ++ cutSt⟩]
def f9_L15_spec : St → Option Out := loopS f9_L15_ly f9_L15_lx f9_L15_g f9_L15_next f9_L15_ok f9_L15_es
def f9_L9_g (y : (D25 × D25 × Unit)) (x : (Int × Unit)) : Bool :=
  let a2 := y.1
  let a3 := y.2.1
  let a6 := x.1
  let v68 := (len a2.2.2.2.1)
  let v69 := (decide (a6 < v68))
  let v75 := (nth a2.2.2.2.1 a6 Z46)
  let v80 := (nth a3.2.2.2.1 a6 Z46)
  let v86 := (v75.1 != v80.1)
  let v92 := (v75.2.1 != v80.2.1)
  let v93 := (bif v86 then true else v92)
  let v97 := (len v75.2.2.1)
  let v100 := (len v80.2.2.1)
  let v101 := (v97 != v100)
  let v102 := (bif v93 then true else v101)
  let y15 := (a2, a3, a6, v75, v80, ())
  let x15 := ((0 : Int), ())
  let e15 := (loopEnd (f9_L15_g y15) (f9_L15_next y15) x15)
  let q15_6 := (f9_L15_e6 y15 e15)
  let c := ((!v102) && q15_6)
  let c_3 := (v69 && c)
  c_3
def f9_L9_next (y : (D25 × D25 × Unit)) (x : (Int × Unit)) : (Int × Unit) :=
  let a6 := x.1
  let v71 := (a6 + (1 : Int))
  (v71, ())
def f9_L9_ok (y : (D25 × D25 × Unit)) (x : (Int × Unit)) : Prop :=
  let a2 := y.1
  let a3 := y.2.1
  let a6 := x.1
  let v68 := (len a2.2.2.2.1)
  let v69 := (decide (a6 < v68))
  let v75 := (nth a2.2.2.2.1 a6 Z46)
  let v80 := (nth a3.2.2.2.1 a6 Z46)
  let v86 := (v75.1 != v80.1)
  let v92 := (v75.2.1 != v80.2.1)
  let v93 := (bif v86 then true else v92)
  let v97 := (len v75.2.2.1)
  let v100 := (len v80.2.2.1)
  let v101 := (v97 != v100)
  let v102 := (bif v93 then true else v101)
  let y15 := (a2, a3, a6, v75, v80, ())
  let x15 := ((0 : Int), ())
  let e15 := (loopEnd (f9_L15_g y15) (f9_L15_next y15) x15)
  let q15_6 := (f9_L15_e6 y15 e15)
  let c := ((!v102) && q15_6)
  (v69 = true → (InB a6 (len a2.2.2.2.1) ∧ (InB a6 (len a3.2.2.2.1) ∧ (((!v102) = true → (Am.Ends (f9_L15_g y15) (f9_L15_next y15) (f9_L15_ok y15) x15)) ∧ (c = true → InR (a6 + (1 : Int)))))))
instance (y : (D25 × D25 × Unit)) (x : (Int × Unit)) : Decidable (f9_L9_ok y x) := by
  unfold f9_L9_ok
  try dsimp only
  infer_instance
def f9_L9_x1 (y : (D25 × D25 × Unit)) (x : (Int × Unit)) : (Bool × Unit) :=
  let a2 := y.1
  let a3 := y.2.1
  let a6 := x.1
  let v75 := (nth a2.2.2.2.1 a6 Z46)
  let v80 := (nth a3.2.2.2.1 a6 Z46)
  let v86 := (v75.1 != v80.1)
  let v92 := (v75.2.1 != v80.2.1)
  let v93 := (bif v86 then true else v92)
  let v97 := (len v75.2.2.1)
  let v100 := (len v80.2.2.1)
  let v101 := (v97 != v100)
  let v102 := (bif v93 then true else v101)
  let y15 := (a2, a3, a6, v75, v80, ())
  let x15 := ((0 : Int), ())
  let e15 := (loopEnd (f9_L15_g y15) (f9_L15_next y15) x15)
  let r15_1_0 := (f9_L15_x1_0 y15 e15)
  let m4 := (bif v102 then false else r15_1_0)
  (m4, ())
def f9_L9_x1_0 (y : (D25 × D25 × Unit)) (x : (Int × Unit)) : Bool := (f9_L9_x1 y x).1
def f9_L9_e1 (y : (D25 × D25 × Unit)) (x : (Int × Unit)) : Bool :=
  let a2 := y.1
  let a3 := y.2.1
  let a6 := x.1
  let v68 := (len a2.2.2.2.1)
  let v69 := (decide (a6 < v68))
  let v75 := (nth a2.2.2.2.1 a6 Z46)
  let v80 := (nth a3.2.2.2.1 a6 Z46)
  let v86 := (v75.1 != v80.1)
  let v92 := (v75.2.1 != v80.2.1)
  let v93 := (bif v86 then true else v92)
  let v97 := (len v75.2.2.1)
  let v100 := (len v80.2.2.1)
  let v101 := (v97 != v100)
  let v102 := (bif v93 then true else v101)
  let y15 := (a2, a3, a6, v75, v80, ())
  let x15 := ((0 : Int), ())
  let e15 := (loopEnd (f9_L15_g y15) (f9_L15_next y15) x15)
  let q15_1 := (f9_L15_e1 y15 e15)
  let c_1 := ((!v102) && q15_1)
  let c_2 := (v102 || c_1)
  let c_4 := (v69 && c_2)
  c_4
def f9_L9_x4 (y : (D25 × D25 × Unit)) (x : (Int × Unit)) : (Unit) :=
  ()
def f9_L9_e4 (y : (D25 × D25 × Unit)) (x : (Int × Unit)) : Bool :=
  let a2 := y.1
  let a6 := x.1
  let v68 := (len a2.2.2.2.1)
  let v69 := (decide (a6 < v68))
  (!v69)
def f9_L9_ly : List (Nat × Sh) := [(2, (.box T25 (.val T25))), (3, (.box T25 (.val T25)))]
def f9_L9_lx : List (Nat × Sh) := [(6, (.val (.int .i64)))]
def f9_L9_les : List (List (Nat × Sh)) := [[(4, (.val .bool))], []]
def f9_L9_es (y : denL f9_L9_ly) (x : denL f9_L9_lx) : List Comp := [⟨1, some (f9_L9_e1 y x), mkSt [(4, (.val .bool))] ((f9_L9_x1_0 y x), ()) ++ cutSt⟩, ⟨4, some (f9_L9_e4 y x), mkSt [] () ++ cutSt⟩]
def f9_L9_spec : St → Option Out := loopS f9_L9_ly f9_L9_lx f9_L9_g f9_L9_next f9_L9_ok f9_L9_es
def f9 (p0 : D25) (p1 : D25) : Bool :=
  let v14 := (p0.1 != p1.1)
  let v20 := (p0.2.1 != p1.2.1)
  let v21 := (bif v14 then true else v20)
  let v27 := (p0.2.2.1 != p1.2.2.1)
  let v28 := (bif v21 then true else v27)
  let v32 := (len p0.2.2.2.1)
  let v35 := (len p1.2.2.2.1)
  let v36 := (v32 != v35)
  let v37 := (bif v28 then true else v36)
  let v41 := (len p0.2.2.2.2.1)
  let v44 := (len p1.2.2.2.2.1)
  let v45 := (v41 != v44)
  let v46 := (bif v37 then true else v45)
  let y4 := (p0, p1, ())
  let x4 := ((0 : Int), ())
  let e4 := (loopEnd (f9_L4_g y4) (f9_L4_next y4) x4)
  let r4_1_0 := (f9_L4_x1_0 y4 e4)
  let q4_1 := (f9_L4_e1 y4 e4)
  let y9 := (p0, p1, ())
  let x9 := ((0 : Int), ())
  let e9 := (loopEnd (f9_L9_g y9) (f9_L9_next y9) x9)
  let r9_1_0 := (f9_L9_x1_0 y9 e9)
  let q9_1 := (f9_L9_e1 y9 e9)
  let m4 := (bif q9_1 then r9_1_0 else true)
  let m4_1 := (bif q4_1 then r4_1_0 else m4)
  let m4_2 := (bif v46 then false else m4_1)
  m4_2
def f9_ok (p0 : D25) (p1 : D25) : Prop :=
  let v14 := (p0.1 != p1.1)
  let v20 := (p0.2.1 != p1.2.1)
  let v21 := (bif v14 then true else v20)
  let v27 := (p0.2.2.1 != p1.2.2.1)
  let v28 := (bif v21 then true else v27)
  let v32 := (len p0.2.2.2.1)
  let v35 := (len p1.2.2.2.1)
  let v36 := (v32 != v35)
  let v37 := (bif v28 then true else v36)
  let v41 := (len p0.2.2.2.2.1)
  let v44 := (len p1.2.2.2.2.1)
  let v45 := (v41 != v44)
  let v46 := (bif v37 then true else v45)
  let y4 := (p0, p1, ())
  let x4 := ((0 : Int), ())
  let e4 := (loopEnd (f9_L4_g y4) (f9_L4_next y4) x4)
  let q4_2 := (f9_L4_e2 y4 e4)
  let y9 := (p0, p1, ())
  let x9 := ((0 : Int), ())
  ((!v46) = true → ((Am.Ends (f9_L4_g y4) (f9_L4_next y4) (f9_L4_ok y4) x4) ∧ (q4_2 = true → (Am.Ends (f9_L9_g y9) (f9_L9_next y9) (f9_L9_ok y9) x9))))
instance (p0 : D25) (p1 : D25) : Decidable (f9_ok p0 p1) := by
  unfold f9_ok
  try dsimp only
  infer_instance
def f9_ps : List (Nat × Sh) := [(0, (.val T25)), (1, (.val T25))]
def f9_rs : Sh := (.val .bool)
def f9_os : List (Nat × Sh) := []
def f9_spec : Am.Spec := fnSpec f9_ps f9_rs f9_os (fun x => f9_ok x.1 x.2.1) (fun x => f9 x.1 x.2.1) (fun _ => ())
def f9_ctx : Ctx := { tys := tys, fns := [], loops := [(4, f9_L4_spec), (15, f9_L15_spec), (9, f9_L9_spec)], gh := [], wrap := false, n := 121, keep := [], wr := [] }
theorem f9_cok : CtxOk Tryd.prog f9_ctx := ctxOk_mk tys_ok trivial rfl (by kernel_rfl)
noncomputable def f9_code : Code := Tryd.f9.body.getD .skip
noncomputable def f9_L4 : Code := nthLoop f9_code 0
theorem f9_L4_sum : ∀ y x, sumLoop f9_ctx f9_L4 f9_L4_ly f9_L4_lx f9_L4_les y x = some (f9_L4_ok y x, f9_L4_g y x, y, f9_L4_next y x, f9_L4_es y x) := fun y x => by kernel_rfl
theorem f9_L4_is : LoopSnd Tryd.prog f9_ctx f9_L4 := loop_gen f9_cok mixed (bs := []) (by kernel_rfl) trivial (by kernel_rfl) (by kernel_rfl) f9_L4_sum
noncomputable def f9_L9 : Code := nthLoop f9_code 1
noncomputable def f9_L15 : Code := nthLoop f9_L9 0
theorem f9_L15_sum : ∀ y x, sumLoop f9_ctx f9_L15 f9_L15_ly f9_L15_lx f9_L15_les y x = some (f9_L15_ok y x, f9_L15_g y x, y, f9_L15_next y x, f9_L15_es y x) := fun y x => by kernel_rfl
theorem f9_L15_is : LoopSnd Tryd.prog f9_ctx f9_L15 := loop_gen f9_cok mixed (bs := []) (by kernel_rfl) trivial (by kernel_rfl) (by kernel_rfl) f9_L15_sum
theorem f9_L9_sum : ∀ y x, sumLoop f9_ctx f9_L9 f9_L9_ly f9_L9_lx f9_L9_les y x = some (f9_L9_ok y x, f9_L9_g y x, y, f9_L9_next y x, f9_L9_es y x) := fun y x => by kernel_rfl
theorem f9_L9_is : LoopSnd Tryd.prog f9_ctx f9_L9 := loop_gen f9_cok mixed (bs := [f9_L15]) (by kernel_rfl) ⟨f9_L15_is, trivial⟩ (by kernel_rfl) (by kernel_rfl) f9_L9_sum
theorem f9_sum : ∀ x, sumFn f9_ctx f9_code Tryd.f9.results.toList f9_ps f9_rs f9_os x = some (f9_ok x.1 x.2.1, f9 x.1 x.2.1, ()) := fun x => by kernel_rfl
theorem f9_is : SpecOk Tryd.prog 9 f9_spec := func_gen f9_cok mixed Tryd.func9 (by kernel_rfl) (by decide) rfl (bs := [f9_L4, f9_L9]) (by kernel_rfl) ⟨f9_L4_is, f9_L9_is, trivial⟩ (by kernel_rfl) (by kernel_rfl) rfl f9_sum
def f47 (_p0 : (List UInt8)) (_p1 : Unit) : (List (List UInt8)) := ([] : List (List UInt8))
def f47_ok (_p0 : (List UInt8)) (_p1 : Unit) : Prop := False
instance (_p0 : (List UInt8)) (_p1 : Unit) : Decidable (f47_ok _p0 _p1) := by
  unfold f47_ok
  infer_instance
def f47_ps : List (Nat × Sh) := [(0, (.val .str)), (1, .any)]
def f47_rs : Sh := (.val (.sl .str))
def f47_os : List (Nat × Sh) := []
def f47_spec : Am.Spec := fnSpec f47_ps f47_rs f47_os (fun x => f47_ok x.1 x.2.1) (fun x => f47 x.1 x.2.1) (fun _ => ())
theorem f47_is : SpecOk Tryd.prog 47 f47_spec := func_never Tryd.func47 (by kernel_rfl) (by decide)
def f48 (_p0 : Int) : Bool := false
def f48_ok (_p0 : Int) : Prop := False
instance (_p0 : Int) : Decidable (f48_ok _p0) := by
  unfold f48_ok
  infer_instance
def f48_ps : List (Nat × Sh) := [(0, (.val (.int .i32)))]
def f48_rs : Sh := (.val .bool)
def f48_os : List (Nat × Sh) := []
def f48_spec : Am.Spec := fnSpec f48_ps f48_rs f48_os (fun x => f48_ok x.1) (fun x => f48 x.1) (fun _ => ())
theorem f48_is : SpecOk Tryd.prog 48 f48_spec := func_never Tryd.func48 (by kernel_rfl) (by decide)
def f23 (p0 : List UInt8) : List (List UInt8) := Lib.fields p0
def f23_ok (p0 : List UInt8) : Prop := (List.length p0 : Int) ≤ 4294967280 ∧ (p0.all fun b => decide (b.toNat < 128)) = true
instance (p0 : List UInt8) : Decidable (f23_ok p0) := by
  unfold f23_ok
  infer_instance
def f23_ps : List (Nat × Sh) := [(0, (.val .str))]
def f23_rs : Sh := (.val (.sl .str))
def f23_os : List (Nat × Sh) := []
def f23_spec : Am.Spec := fnSpec f23_ps f23_rs f23_os (fun x => f23_ok x.1) (fun x => f23 x.1) (fun _ => ())
theorem tab0 : G0 = Lib.asciiSpaceTab := by kernel_rfl
theorem f23_is : SpecOk Tryd.prog 23 f23_spec := spec_strs (F := f23) (e := 9) (ok := f23_ok) ⟨_, Tryd.func23, by kernel_rfl, by decide⟩ fun s w χ hok hg =>
  Any.strings_Fields_core Tryd.lays157 (by kernel_rfl) s w (by have h1 := hok.1; rw [Array.length_toList] at h1; have h2 : s.data.size = s.size := rfl; omega)
    (fun j b hj => by have := List.all_eq_true.1 hok.2 b (List.mem_of_getElem? hj); simpa using this)
    (fun c hc => by
      have h1 := glob_row hg (g := 0) (n := 256) (k := .u8) (l := G0) (List.mem_cons_self ..) c hc
      rw [tab0, Lib.asciiSpaceTab_at c hc] at h1
      exact h1)
def f49 (p0 : (List UInt8)) (p1 : Int) : Int :=
  let v7 := (Lib.indexByte p0 (Int.toNat p1).toUInt8)
  v7
def f49_ok (p0 : (List UInt8)) (p1 : Int) : Prop :=
  True
instance (p0 : (List UInt8)) (p1 : Int) : Decidable (f49_ok p0 p1) := by
  unfold f49_ok
  try dsimp only
  infer_instance
def f49_ps : List (Nat × Sh) := [(0, (.val .str)), (1, (.val (.int .u8)))]
def f49_rs : Sh := (.val (.int .i64))
def f49_os : List (Nat × Sh) := []
def f49_spec : Am.Spec := fnSpec f49_ps f49_rs f49_os (fun x => f49_ok x.1 x.2.1) (fun x => f49 x.1 x.2.1) (fun _ => ())
def f49_ctx : Ctx := { tys := tys, fns := [], loops := [], gh := [], wrap := false, n := 8, keep := [], wr := [], exts := [(68, extIndexByte)] }
theorem f49_cok : CtxOk Tryd.prog f49_ctx := ctxOk_mkE tys_ok trivial ⟨x68_ok, trivial⟩ (by kernel_rfl)
noncomputable def f49_code : Code := Tryd.f49.body.getD .skip
theorem f49_sum : ∀ x, sumFn f49_ctx f49_code Tryd.f49.results.toList f49_ps f49_rs f49_os x = some (f49_ok x.1 x.2.1, f49 x.1 x.2.1, ()) := fun x => by kernel_rfl
theorem f49_is : SpecOk Tryd.prog 49 f49_spec := func_gen f49_cok mixed Tryd.func49 (by kernel_rfl) (by decide) rfl (bs := []) (by kernel_rfl) trivial (by kernel_rfl) (by kernel_rfl) rfl f49_sum
def f24 (p0 : (List UInt8)) (p1 : Int) : Int :=
  let v7 := (f49 p0 p1)
  v7
def f24_ok (p0 : (List UInt8)) (p1 : Int) : Prop :=
  (f49_ok p0 p1)
instance (p0 : (List UInt8)) (p1 : Int) : Decidable (f24_ok p0 p1) := by
  unfold f24_ok
  try dsimp only
  infer_instance
def f24_ps : List (Nat × Sh) := [(0, (.val .str)), (1, (.val (.int .u8)))]
def f24_rs : Sh := (.val (.int .i64))
def f24_os : List (Nat × Sh) := []
def f24_spec : Am.Spec := fnSpec f24_ps f24_rs f24_os (fun x => f24_ok x.1 x.2.1) (fun x => f24 x.1 x.2.1) (fun _ => ())
def f24_ctx : Ctx := { tys := tys, fns := [(49, f49_spec)], loops := [], gh := [], wrap := false, n := 8, keep := [], wr := [] }
theorem f24_cok : CtxOk Tryd.prog f24_ctx := ctxOk_mk tys_ok ⟨f49_is, trivial⟩ rfl (by kernel_rfl)
noncomputable def f24_code : Code := Tryd.f24.body.getD .skip
theorem f24_sum : ∀ x, sumFn f24_ctx f24_code Tryd.f24.results.toList f24_ps f24_rs f24_os x = some (f24_ok x.1 x.2.1, f24 x.1 x.2.1, ()) := fun x => by kernel_rfl
theorem f24_is : SpecOk Tryd.prog 24 f24_spec := func_gen f24_cok mixed Tryd.func24 (by kernel_rfl) (by decide) rfl (bs := []) (by kernel_rfl) trivial (by kernel_rfl) (by kernel_rfl) rfl f24_sum
def f50 (p0 : Int) (p1 : Int) (p2 : Int) (p3 : Int) : (List D51) :=
  let s := (p0, p1, ())
  let v12 := ([s, Z48, Z48] : List D48)
  let s_1 := ((1 : Int), v12, ())
  let s_2 := (p2, p1, ())
  let v17 := ([s_2, Z48, Z48] : List D48)
  let s_3 := ((2 : Int), v17, ())
  let s_4 := (p2, p3, ())
  let v22 := ([s_4, Z48, Z48] : List D48)
  let s_5 := ((2 : Int), v22, ())
  let s_6 := (p0, p3, ())
  let v27 := ([s_6, Z48, Z48] : List D48)
  let s_7 := ((2 : Int), v27, ())
  let s_8 := ((5 : Int), (List.replicate 3 Z48), ())
  let v30 := ([s_1, s_3, s_5, s_7, s_8] : List D51)
  v30
def f50_ok (p0 : Int) (p1 : Int) (p2 : Int) (p3 : Int) : Prop :=
  True
instance (p0 : Int) (p1 : Int) (p2 : Int) (p3 : Int) : Decidable (f50_ok p0 p1 p2 p3) := by
  unfold f50_ok
  try dsimp only
  infer_instance
def f50_ps : List (Nat × Sh) := [(0, (.val (.int .i64))), (1, (.val (.int .i64))), (2, (.val (.int .i64))), (3, (.val (.int .i64)))]
def f50_rs : Sh := (.own T51 0 false)
def f50_os : List (Nat × Sh) := []
def f50_spec : Am.Spec := fnSpec f50_ps f50_rs f50_os (fun x => f50_ok x.1 x.2.1 x.2.2.1 x.2.2.2.1) (fun x => f50 x.1 x.2.1 x.2.2.1 x.2.2.2.1) (fun _ => ())
def f50_ctx : Ctx := { tys := tys, fns := [], loops := [], gh := [(3, [(4, 0, 30, 0)])], wrap := false, n := 31, keep := [], wr := [] }
theorem f50_cok : CtxOk Tryd.prog f50_ctx := ctxOk_mk tys_ok trivial rfl (by kernel_rfl)
noncomputable def f50_code : Code := Tryd.f50.body.getD .skip
theorem f50_sum : ∀ x, sumFn f50_ctx f50_code Tryd.f50.results.toList f50_ps f50_rs f50_os x = some (f50_ok x.1 x.2.1 x.2.2.1 x.2.2.2.1, f50 x.1 x.2.1 x.2.2.1 x.2.2.2.1, ()) := fun x => by kernel_rfl
theorem f50_is : SpecOk Tryd.prog 50 f50_spec := func_gen f50_cok mixed Tryd.func50 (by kernel_rfl) (by decide) rfl (bs := []) (by kernel_rfl) trivial (by kernel_rfl) (by kernel_rfl) rfl f50_sum
def f25_L7_g (y : (Int × Int × (List D51) × Int × Unit)) (x : (Int × Unit)) : Bool :=
  let a1 := y.2.1
  let a7 := x.1
  let v19 := (a7 + (1 : Int))
  let v20 := (decide (v19 < (7 : Int)))
  let v24 := (a7 + (1 : Int))
  let v25 := (ishr a1 v24 64)
  let v26 := (iand .i64 v25 (1 : Int))
  let v27 := (v26 == (1 : Int))
  let v28 := (bif v20 then v27 else false)
  v28
def f25_L7_next (y : (Int × Int × (List D51) × Int × Unit)) (x : (Int × Unit)) : (Int × Unit) :=
  let a7 := x.1
  let v30 := (a7 + (1 : Int))
  (v30, ())
def f25_L7_ok (y : (Int × Int × (List D51) × Int × Unit)) (x : (Int × Unit)) : Prop :=
  let a1 := y.2.1
  let a7 := x.1
  let v19 := (a7 + (1 : Int))
  let v20 := (decide (v19 < (7 : Int)))
  let v24 := (a7 + (1 : Int))
  let v25 := (ishr a1 v24 64)
  let v26 := (iand .i64 v25 (1 : Int))
  let v27 := (v26 == (1 : Int))
  let v28 := (bif v20 then v27 else false)
  (InR (a7 + (1 : Int)) ∧ ((v20 = true → InR (a7 + (1 : Int))) ∧ ((v20 = true → 0 ≤ v24) ∧ (v28 = true → InR (a7 + (1 : Int))))))
instance (y : (Int × Int × (List D51) × Int × Unit)) (x : (Int × Unit)) : Decidable (f25_L7_ok y x) := by
  unfold f25_L7_ok
  try dsimp only
  infer_instance
def f25_L7_x4 (y : (Int × Int × (List D51) × Int × Unit)) (x : (Int × Unit)) : (Int × Unit) :=
  let a7 := x.1
  (a7, ())
def f25_L7_x4_0 (y : (Int × Int × (List D51) × Int × Unit)) (x : (Int × Unit)) : Int := (f25_L7_x4 y x).1
def f25_L7_ly : List (Nat × Sh) := [(0, (.val (.int .i64))), (1, (.val (.int .i64))), (5, (.own T51 1005 false)), (6, (.val (.int .i64)))]
def f25_L7_lx : List (Nat × Sh) := [(7, (.val (.int .i64)))]
def f25_L7_les : List (List (Nat × Sh)) := [[(0, (.val (.int .i64))), (1, (.val (.int .i64))), (5, (.own T51 1005 false)), (6, (.val (.int .i64))), (7, (.val (.int .i64)))]]
def f25_L7_es (y : denL f25_L7_ly) (x : denL f25_L7_lx) : List Comp := [⟨4, none, mkSt [(0, (.val (.int .i64))), (1, (.val (.int .i64))), (5, (.own T51 1005 false)), (6, (.val (.int .i64))), (7, (.val (.int .i64)))] (y.1, y.2.1, y.2.2.1, y.2.2.2.1, (f25_L7_x4_0 y x), ()) ++ cutSt⟩]
def f25_L7_spec : St → Option Out := loopS f25_L7_ly f25_L7_lx f25_L7_g f25_L7_next f25_L7_ok f25_L7_es
def f25_L3_g (y : (Unit)) (x : (Int × Int × (List D51) × Int × Unit)) : Bool :=
  let a1 := x.2.1
  let a6 := x.2.2.2.1
  let v9 := (decide (a6 < (7 : Int)))
  let v14 := (ishr a1 a6 64)
  let v15 := (iand .i64 v14 (1 : Int))
  let v16 := (v15 == (0 : Int))
  let c := (v16 || (!v16))
  let c_1 := (v9 && c)
  c_1
def f25_L3_next (y : (Unit)) (x : (Int × Int × (List D51) × Int × Unit)) : (Int × Int × (List D51) × Int × Unit) :=
  let a0 := x.1
  let a1 := x.2.1
  let a5 := x.2.2.1
  let a6 := x.2.2.2.1
  let v14 := (ishr a1 a6 64)
  let v15 := (iand .i64 v14 (1 : Int))
  let v16 := (v15 == (0 : Int))
  let y7 := (a0, a1, a5, a6, ())
  let x7 := (a6, ())
  let e7 := (loopEnd (f25_L7_g y7) (f25_L7_next y7) x7)
  let r7_4_0 := (f25_L7_x4_0 y7 e7)
  let v33 := ((100 : Int) * a0)
  let v35 := ((100 : Int) * a6)
  let v36 := ((700 : Int) - v35)
  let v38 := ((100 : Int) * a0)
  let v39 := (v38 + (100 : Int))
  let v41 := ((100 : Int) * r7_4_0)
  let v42 := ((600 : Int) - v41)
  let v43 := (f50 v33 v36 v39 v42)
  let v44 := (a5 ++ v43)
  let m0 := (bif v16 then a0 else a0)
  let m1 := (bif v16 then a1 else a1)
  let m5 := (bif v16 then a5 else v44)
  let m6 := (bif v16 then a6 else r7_4_0)
  let v11 := (m6 + (1 : Int))
  (m0, m1, m5, v11, ())
def f25_L3_ok (y : (Unit)) (x : (Int × Int × (List D51) × Int × Unit)) : Prop :=
  let a0 := x.1
  let a1 := x.2.1
  let a5 := x.2.2.1
  let a6 := x.2.2.2.1
  let v9 := (decide (a6 < (7 : Int)))
  let v14 := (ishr a1 a6 64)
  let v15 := (iand .i64 v14 (1 : Int))
  let v16 := (v15 == (0 : Int))
  let y7 := (a0, a1, a5, a6, ())
  let x7 := (a6, ())
  let e7 := (loopEnd (f25_L7_g y7) (f25_L7_next y7) x7)
  let r7_4_0 := (f25_L7_x4_0 y7 e7)
  let v33 := ((100 : Int) * a0)
  let v35 := ((100 : Int) * a6)
  let v36 := ((700 : Int) - v35)
  let v38 := ((100 : Int) * a0)
  let v39 := (v38 + (100 : Int))
  let v41 := ((100 : Int) * r7_4_0)
  let v42 := ((600 : Int) - v41)
  let v43 := (f50 v33 v36 v39 v42)
  let c := (v16 || (!v16))
  let m6 := (bif v16 then a6 else r7_4_0)
  (v9 = true → (0 ≤ a6 ∧ (((!v16) = true → ((Am.Ends (f25_L7_g y7) (f25_L7_next y7) (f25_L7_ok y7) x7) ∧ (InR ((100 : Int) * a0) ∧ (InR ((100 : Int) * a6) ∧ (InR ((700 : Int) - v35) ∧ (InR ((100 : Int) * a0) ∧ (InR (v38 + (100 : Int)) ∧ (InR ((100 : Int) * r7_4_0) ∧ (InR ((600 : Int) - v41) ∧ ((f50_ok v33 v36 v39 v42) ∧ ((List.length a5 + List.length v43 : Nat) : Int) ≤ 4294967296)))))))))) ∧ (c = true → InR (m6 + (1 : Int))))))
instance (y : (Unit)) (x : (Int × Int × (List D51) × Int × Unit)) : Decidable (f25_L3_ok y x) := by
  unfold f25_L3_ok
  try dsimp only
  infer_instance
def f25_L3_x2 (y : (Unit)) (x : (Int × Int × (List D51) × Int × Unit)) : ((List D51) × Unit) :=
  let a5 := x.2.2.1
  (a5, ())
def f25_L3_x2_0 (y : (Unit)) (x : (Int × Int × (List D51) × Int × Unit)) : (List D51) := (f25_L3_x2 y x).1
def f25_L3_ly : List (Nat × Sh) := []
def f25_L3_lx : List (Nat × Sh) := [(0, (.val (.int .i64))), (1, (.val (.int .i64))), (5, (.own T51 1005 false)), (6, (.val (.int .i64)))]
def f25_L3_les : List (List (Nat × Sh)) := [[(5, (.own T51 1005 false))]]
def f25_L3_es (y : denL f25_L3_ly) (x : denL f25_L3_lx) : List Comp := [⟨2, none, mkSt [(5, (.own T51 1005 false))] ((f25_L3_x2_0 y x), ()) ++ cutSt⟩]
def f25_L3_spec : St → Option Out := loopS f25_L3_ly f25_L3_lx f25_L3_g f25_L3_next f25_L3_ok f25_L3_es
def f25 (p0 : Int) (p1 : Int) : (List D51) :=
  let x3 := (p0, p1, ([] : List D51), (0 : Int), ())
  let e3 := (loopEnd (f25_L3_g ()) (f25_L3_next ()) x3)
  let r3_2_0 := (f25_L3_x2_0 () e3)
  r3_2_0
def f25_ok (p0 : Int) (p1 : Int) : Prop :=
  let x3 := (p0, p1, ([] : List D51), (0 : Int), ())
  (Am.Ends (f25_L3_g ()) (f25_L3_next ()) (f25_L3_ok ()) x3)
instance (p0 : Int) (p1 : Int) : Decidable (f25_ok p0 p1) := by
  unfold f25_ok
  try dsimp only
  infer_instance
def f25_ps : List (Nat × Sh) := [(0, (.val (.int .i64))), (1, (.val (.int .i64)))]
def f25_rs : Sh := (.own T51 0 false)
def f25_os : List (Nat × Sh) := []
def f25_spec : Am.Spec := fnSpec f25_ps f25_rs f25_os (fun x => f25_ok x.1 x.2.1) (fun x => f25 x.1 x.2.1) (fun _ => ())
def f25_ctx : Ctx := { tys := tys, fns := [(50, f50_spec)], loops := [(7, f25_L7_spec), (3, f25_L3_spec)], gh := [(19, [(4, 0, 44, 1005)]), (23, [(4, 0, 1005, 0)])], wrap := false, n := 47, keep := [], wr := [] }
theorem f25_cok : CtxOk Tryd.prog f25_ctx := ctxOk_mk tys_ok ⟨f50_is, trivial⟩ rfl (by kernel_rfl)
noncomputable def f25_code : Code := Tryd.f25.body.getD .skip
noncomputable def f25_L3 : Code := nthLoop f25_code 0
noncomputable def f25_L7 : Code := nthLoop f25_L3 0
theorem f25_L7_sum : ∀ y x, sumLoop f25_ctx f25_L7 f25_L7_ly f25_L7_lx f25_L7_les y x = some (f25_L7_ok y x, f25_L7_g y x, y, f25_L7_next y x, f25_L7_es y x) := fun y x => by kernel_rfl
theorem f25_L7_is : LoopSnd Tryd.prog f25_ctx f25_L7 := loop_gen f25_cok mixed (bs := []) (by kernel_rfl) trivial (by kernel_rfl) (by kernel_rfl) f25_L7_sum
theorem f25_L3_sum : ∀ y x, sumLoop f25_ctx f25_L3 f25_L3_ly f25_L3_lx f25_L3_les y x = some (f25_L3_ok y x, f25_L3_g y x, y, f25_L3_next y x, f25_L3_es y x) := fun y x => by kernel_rfl
theorem f25_L3_is : LoopSnd Tryd.prog f25_ctx f25_L3 := loop_gen f25_cok mixed (bs := [f25_L7]) (by kernel_rfl) ⟨f25_L7_is, trivial⟩ (by kernel_rfl) (by kernel_rfl) f25_L3_sum
theorem f25_sum : ∀ x, sumFn f25_ctx f25_code Tryd.f25.results.toList f25_ps f25_rs f25_os x = some (f25_ok x.1 x.2.1, f25 x.1 x.2.1, ()) := fun x => by kernel_rfl
theorem f25_is : SpecOk Tryd.prog 25 f25_spec := func_gen f25_cok mixed Tryd.func25 (by kernel_rfl) (by decide) rfl (bs := [f25_L3]) (by kernel_rfl) ⟨f25_L3_is, trivial⟩ (by kernel_rfl) (by kernel_rfl) rfl f25_sum
def f10_L7_g (y : ((List UInt8) × (List (List UInt8)) × Int × Int × Int × Unit)) (x : ((Int × Int × Int × (List D46) × (List D43) × Unit) × (Int × Int × Int × (List D46) × (List D43) × Unit) × (Int × Int × (List D51) × Unit) × Int × Unit)) : Bool :=
  let a21 := y.2.2.2.2.1
  let a22 := x.2.2.2.1
  let v23 := (decide (a22 < a21))
  v23
def f10_L7_next (y : ((List UInt8) × (List (List UInt8)) × Int × Int × Int × Unit)) (x : ((Int × Int × Int × (List D46) × (List D43) × Unit) × (Int × Int × Int × (List D46) × (List D43) × Unit) × (Int × Int × (List D51) × Unit) × Int × Unit)) : ((Int × Int × Int × (List D46) × (List D43) × Unit) × (Int × Int × Int × (List D46) × (List D43) × Unit) × (Int × Int × (List D51) × Unit) × Int × Unit) :=
  let a3 := y.1
  let a0 := x.1
  let a1 := x.2.1
  let a4 := x.2.2.1
  let a22 := x.2.2.2.1
  let v27 := ((2 : Int) * a22)
  let v28 := (byteAt a3 v27)
  let v29 := (f24 ([48, 49, 50, 51, 52, 53, 54, 55, 56, 57, 97, 98, 99, 100, 101, 102] : List UInt8) v28)
  let v30 := ((16 : Int) * v29)
  let v33 := ((2 : Int) * a22)
  let v34 := (v33 + (1 : Int))
  let v35 := (byteAt a3 v34)
  let v36 := (f24 ([48, 49, 50, 51, 52, 53, 54, 55, 56, 57, 97, 98, 99, 100, 101, 102] : List UInt8) v35)
  let v37 := (v30 + v36)
  let v42 := (f25 a22 v37)
  let v43 := (a4.2.2.1 ++ v42)
  let v45 := (a22 + (1 : Int))
  let s := (a0.1, a0.2.1, a0.2.2.1, a0.2.2.2.1, a0.2.2.2.2.1, ())
  let s_1 := (a1.1, a1.2.1, a1.2.2.1, a1.2.2.2.1, a1.2.2.2.2.1, ())
  let s_2 := (a4.1, a4.2.1, v43, ())
  (s, s_1, s_2, v45, ())
def f10_L7_ok (y : ((List UInt8) × (List (List UInt8)) × Int × Int × Int × Unit)) (x : ((Int × Int × Int × (List D46) × (List D43) × Unit) × (Int × Int × Int × (List D46) × (List D43) × Unit) × (Int × Int × (List D51) × Unit) × Int × Unit)) : Prop :=
  let a3 := y.1
  let a21 := y.2.2.2.2.1
  let a4 := x.2.2.1
  let a22 := x.2.2.2.1
  let v23 := (decide (a22 < a21))
  let v27 := ((2 : Int) * a22)
  let v28 := (byteAt a3 v27)
  let v29 := (f24 ([48, 49, 50, 51, 52, 53, 54, 55, 56, 57, 97, 98, 99, 100, 101, 102] : List UInt8) v28)
  let v30 := ((16 : Int) * v29)
  let v33 := ((2 : Int) * a22)
  let v34 := (v33 + (1 : Int))
  let v35 := (byteAt a3 v34)
  let v36 := (f24 ([48, 49, 50, 51, 52, 53, 54, 55, 56, 57, 97, 98, 99, 100, 101, 102] : List UInt8) v35)
  let v37 := (v30 + v36)
  let v42 := (f25 a22 v37)
  (v23 = true → (InR ((2 : Int) * a22) ∧ (InB v27 (len a3) ∧ ((f24_ok ([48, 49, 50, 51, 52, 53, 54, 55, 56, 57, 97, 98, 99, 100, 101, 102] : List UInt8) v28) ∧ (InR ((16 : Int) * v29) ∧ (InR ((2 : Int) * a22) ∧ (InR (v33 + (1 : Int)) ∧ (InB v34 (len a3) ∧ ((f24_ok ([48, 49, 50, 51, 52, 53, 54, 55, 56, 57, 97, 98, 99, 100, 101, 102] : List UInt8) v35) ∧ (InR (v30 + v36) ∧ ((f25_ok a22 v37) ∧ (((List.length a4.2.2.1 + List.length v42 : Nat) : Int) ≤ 4294967296 ∧ InR (a22 + (1 : Int))))))))))))))
instance (y : ((List UInt8) × (List (List UInt8)) × Int × Int × Int × Unit)) (x : ((Int × Int × Int × (List D46) × (List D43) × Unit) × (Int × Int × Int × (List D46) × (List D43) × Unit) × (Int × Int × (List D51) × Unit) × Int × Unit)) : Decidable (f10_L7_ok y x) := by
  unfold f10_L7_ok
  try dsimp only
  infer_instance
def f10_L7_x4 (y : ((List UInt8) × (List (List UInt8)) × Int × Int × Int × Unit)) (x : ((Int × Int × Int × (List D46) × (List D43) × Unit) × (Int × Int × Int × (List D46) × (List D43) × Unit) × (Int × Int × (List D51) × Unit) × Int × Unit)) : ((Int × Int × Int × (List D46) × (List D43) × Unit) × (Int × Int × Int × (List D46) × (List D43) × Unit) × (Int × Int × (List D51) × Unit) × Unit) :=
  let a0 := x.1
  let a1 := x.2.1
  let a4 := x.2.2.1
  let s_3 := (a0.1, a0.2.1, a0.2.2.1, a0.2.2.2.1, a0.2.2.2.2.1, ())
  let s_4 := (a1.1, a1.2.1, a1.2.2.1, a1.2.2.2.1, a1.2.2.2.2.1, ())
  let s_5 := (a4.1, a4.2.1, a4.2.2.1, ())
  (s_3, s_4, s_5, ())
def f10_L7_x4_0 (y : ((List UInt8) × (List (List UInt8)) × Int × Int × Int × Unit)) (x : ((Int × Int × Int × (List D46) × (List D43) × Unit) × (Int × Int × Int × (List D46) × (List D43) × Unit) × (Int × Int × (List D51) × Unit) × Int × Unit)) : (Int × Int × Int × (List D46) × (List D43) × Unit) := (f10_L7_x4 y x).1
def f10_L7_x4_1 (y : ((List UInt8) × (List (List UInt8)) × Int × Int × Int × Unit)) (x : ((Int × Int × Int × (List D46) × (List D43) × Unit) × (Int × Int × Int × (List D46) × (List D43) × Unit) × (Int × Int × (List D51) × Unit) × Int × Unit)) : (Int × Int × Int × (List D46) × (List D43) × Unit) := (f10_L7_x4 y x).2.1
def f10_L7_x4_2 (y : ((List UInt8) × (List (List UInt8)) × Int × Int × Int × Unit)) (x : ((Int × Int × Int × (List D46) × (List D43) × Unit) × (Int × Int × Int × (List D46) × (List D43) × Unit) × (Int × Int × (List D51) × Unit) × Int × Unit)) : (Int × Int × (List D51) × Unit) := (f10_L7_x4 y x).2.2.1
def f10_L7_ly : List (Nat × Sh) := [(3, (.val .str)), (8, (.val (.sl .str))), (9, (.val (.int .i64))), (10, (.val (.int .i64))), (21, (.val (.int .i64)))]
def f10_L7_lx : List (Nat × Sh) := [(0, (.box T25 (.agg (.cons (.int .i64) (.cons (.int .i64) (.cons (.int .i64) (.cons (.sl T46) (.cons (.sl T43) .nl))))) (.cons (.val (.int .i64)) (.cons (.val (.int .i64)) (.cons (.val (.int .i64)) (.cons (.own T46 400000 false) (.cons (.own T43 400001 false) .nl)))))))), (1, (.box T25 (.agg (.cons (.int .i64) (.cons (.int .i64) (.cons (.int .i64) (.cons (.sl T46) (.cons (.sl T43) .nl))))) (.cons (.val (.int .i64)) (.cons (.val (.int .i64)) (.cons (.val (.int .i64)) (.cons (.own T46 400100 false) (.cons (.own T43 400101 false) .nl)))))))), (4, (.box T46 (.agg (.cons (.int .u8) (.cons (.int .i64) (.cons (.sl T51) .nl))) (.cons (.val (.int .u8)) (.cons (.val (.int .i64)) (.cons (.own T51 400400 false) .nl)))))), (22, (.val (.int .i64)))]
def f10_L7_les : List (List (Nat × Sh)) := [[(0, (.box T25 (.agg (.cons (.int .i64) (.cons (.int .i64) (.cons (.int .i64) (.cons (.sl T46) (.cons (.sl T43) .nl))))) (.cons (.val (.int .i64)) (.cons (.val (.int .i64)) (.cons (.val (.int .i64)) (.cons (.own T46 400000 false) (.cons (.own T43 400001 false) .nl)))))))), (1, (.box T25 (.agg (.cons (.int .i64) (.cons (.int .i64) (.cons (.int .i64) (.cons (.sl T46) (.cons (.sl T43) .nl))))) (.cons (.val (.int .i64)) (.cons (.val (.int .i64)) (.cons (.val (.int .i64)) (.cons (.own T46 400100 false) (.cons (.own T43 400101 false) .nl)))))))), (4, (.box T46 (.agg (.cons (.int .u8) (.cons (.int .i64) (.cons (.sl T51) .nl))) (.cons (.val (.int .u8)) (.cons (.val (.int .i64)) (.cons (.own T51 400400 false) .nl)))))), (8, (.val (.sl .str))), (9, (.val (.int .i64))), (10, (.val (.int .i64)))]]
def f10_L7_es (y : denL f10_L7_ly) (x : denL f10_L7_lx) : List Comp := [⟨4, none, mkSt [(0, (.box T25 (.agg (.cons (.int .i64) (.cons (.int .i64) (.cons (.int .i64) (.cons (.sl T46) (.cons (.sl T43) .nl))))) (.cons (.val (.int .i64)) (.cons (.val (.int .i64)) (.cons (.val (.int .i64)) (.cons (.own T46 400000 false) (.cons (.own T43 400001 false) .nl)))))))), (1, (.box T25 (.agg (.cons (.int .i64) (.cons (.int .i64) (.cons (.int .i64) (.cons (.sl T46) (.cons (.sl T43) .nl))))) (.cons (.val (.int .i64)) (.cons (.val (.int .i64)) (.cons (.val (.int .i64)) (.cons (.own T46 400100 false) (.cons (.own T43 400101 false) .nl)))))))), (4, (.box T46 (.agg (.cons (.int .u8) (.cons (.int .i64) (.cons (.sl T51) .nl))) (.cons (.val (.int .u8)) (.cons (.val (.int .i64)) (.cons (.own T51 400400 false) .nl)))))), (8, (.val (.sl .str))), (9, (.val (.int .i64))), (10, (.val (.int .i64)))] ((f10_L7_x4_0 y x), (f10_L7_x4_1 y x), (f10_L7_x4_2 y x), y.2.1, y.2.2.1, y.2.2.2.1, ()) ++ cutSt⟩]
def f10_L7_spec : St → Option Out := loopS f10_L7_ly f10_L7_lx f10_L7_g f10_L7_next f10_L7_ok f10_L7_es
def f10_L3_g (y : ((List (List UInt8)) × Int × Unit)) (x : ((Int × Int × Int × (List D46) × (List D43) × Unit) × (Int × Int × Int × (List D46) × (List D43) × Unit) × Int × Unit)) : Bool :=
  let a9 := y.2.1
  let a10 := x.2.2.1
  let v11 := (decide (a10 < a9))
  v11
def f10_L3_next (y : ((List (List UInt8)) × Int × Unit)) (x : ((Int × Int × Int × (List D46) × (List D43) × Unit) × (Int × Int × Int × (List D46) × (List D43) × Unit) × Int × Unit)) : ((Int × Int × Int × (List D46) × (List D43) × Unit) × (Int × Int × Int × (List D46) × (List D43) × Unit) × Int × Unit) :=
  let a8 := y.1
  let a9 := y.2.1
  let a0 := x.1
  let a1 := x.2.1
  let a10 := x.2.2.1
  let v13 := (nth a8 a10 ([] : List UInt8))
  let v16 := ((32 : Int) + a10)
  let v17 := (IntKind.wrap .u8 v16)
  let v20 := (len v13)
  let v21 := (Int.tdiv v20 (2 : Int))
  let s := (a0.1, a0.2.1, a0.2.2.1, a0.2.2.2.1, a0.2.2.2.2.1, ())
  let s_1 := (a1.1, a1.2.1, a1.2.2.1, a1.2.2.2.1, a1.2.2.2.2.1, ())
  let s_2 := (v17, (600 : Int), ([] : List D51), ())
  let y7 := (v13, a8, a9, a10, v21, ())
  let x7 := (s, s_1, s_2, (0 : Int), ())
  let e7 := (loopEnd (f10_L7_g y7) (f10_L7_next y7) x7)
  let r7_4_0 := (f10_L7_x4_0 y7 e7)
  let r7_4_1 := (f10_L7_x4_1 y7 e7)
  let r7_4_2 := (f10_L7_x4_2 y7 e7)
  let s_3 := (r7_4_2.1, r7_4_2.2.1, r7_4_2.2.2.1, ())
  let v49 := ([s_3] : List D46)
  let v50 := (r7_4_1.2.2.2.1 ++ v49)
  let v52 := (a10 + (1 : Int))
  let s_4 := (r7_4_0.1, r7_4_0.2.1, r7_4_0.2.2.1, r7_4_0.2.2.2.1, r7_4_0.2.2.2.2.1, ())
  let s_5 := (r7_4_1.1, r7_4_1.2.1, r7_4_1.2.2.1, v50, r7_4_1.2.2.2.2.1, ())
  (s_4, s_5, v52, ())
def f10_L3_ok (y : ((List (List UInt8)) × Int × Unit)) (x : ((Int × Int × Int × (List D46) × (List D43) × Unit) × (Int × Int × Int × (List D46) × (List D43) × Unit) × Int × Unit)) : Prop :=
  let a8 := y.1
  let a9 := y.2.1
  let a0 := x.1
  let a1 := x.2.1
  let a10 := x.2.2.1
  let v11 := (decide (a10 < a9))
  let v13 := (nth a8 a10 ([] : List UInt8))
  let v16 := ((32 : Int) + a10)
  let v17 := (IntKind.wrap .u8 v16)
  let v20 := (len v13)
  let v21 := (Int.tdiv v20 (2 : Int))
  let s := (a0.1, a0.2.1, a0.2.2.1, a0.2.2.2.1, a0.2.2.2.2.1, ())
  let s_1 := (a1.1, a1.2.1, a1.2.2.1, a1.2.2.2.1, a1.2.2.2.2.1, ())
  let s_2 := (v17, (600 : Int), ([] : List D51), ())
  let y7 := (v13, a8, a9, a10, v21, ())
  let x7 := (s, s_1, s_2, (0 : Int), ())
  let e7 := (loopEnd (f10_L7_g y7) (f10_L7_next y7) x7)
  let r7_4_1 := (f10_L7_x4_1 y7 e7)
  let r7_4_2 := (f10_L7_x4_2 y7 e7)
  let s_3 := (r7_4_2.1, r7_4_2.2.1, r7_4_2.2.2.1, ())
  let v49 := ([s_3] : List D46)
  (v11 = true → (InB a10 (len a8) ∧ (InR ((32 : Int) + a10) ∧ (InR (Int.tdiv v20 (2 : Int)) ∧ ((Am.Ends (f10_L7_g y7) (f10_L7_next y7) (f10_L7_ok y7) x7) ∧ (((List.length r7_4_1.2.2.2.1 + List.length v49 : Nat) : Int) ≤ 4294967296 ∧ InR (a10 + (1 : Int))))))))
instance (y : ((List (List UInt8)) × Int × Unit)) (x : ((Int × Int × Int × (List D46) × (List D43) × Unit) × (Int × Int × Int × (List D46) × (List D43) × Unit) × Int × Unit)) : Decidable (f10_L3_ok y x) := by
  unfold f10_L3_ok
  try dsimp only
  infer_instance
def f10_L3_x2 (y : ((List (List UInt8)) × Int × Unit)) (x : ((Int × Int × Int × (List D46) × (List D43) × Unit) × (Int × Int × Int × (List D46) × (List D43) × Unit) × Int × Unit)) : ((Int × Int × Int × (List D46) × (List D43) × Unit) × (Int × Int × Int × (List D46) × (List D43) × Unit) × Unit) :=
  let a0 := x.1
  let a1 := x.2.1
  let s_6 := (a0.1, a0.2.1, a0.2.2.1, a0.2.2.2.1, a0.2.2.2.2.1, ())
  let s_7 := (a1.1, a1.2.1, a1.2.2.1, a1.2.2.2.1, a1.2.2.2.2.1, ())
  (s_6, s_7, ())
def f10_L3_x2_0 (y : ((List (List UInt8)) × Int × Unit)) (x : ((Int × Int × Int × (List D46) × (List D43) × Unit) × (Int × Int × Int × (List D46) × (List D43) × Unit) × Int × Unit)) : (Int × Int × Int × (List D46) × (List D43) × Unit) := (f10_L3_x2 y x).1
def f10_L3_x2_1 (y : ((List (List UInt8)) × Int × Unit)) (x : ((Int × Int × Int × (List D46) × (List D43) × Unit) × (Int × Int × Int × (List D46) × (List D43) × Unit) × Int × Unit)) : (Int × Int × Int × (List D46) × (List D43) × Unit) := (f10_L3_x2 y x).2.1
def f10_L3_ly : List (Nat × Sh) := [(8, (.val (.sl .str))), (9, (.val (.int .i64)))]
def f10_L3_lx : List (Nat × Sh) := [(0, (.box T25 (.agg (.cons (.int .i64) (.cons (.int .i64) (.cons (.int .i64) (.cons (.sl T46) (.cons (.sl T43) .nl))))) (.cons (.val (.int .i64)) (.cons (.val (.int .i64)) (.cons (.val (.int .i64)) (.cons (.own T46 400000 false) (.cons (.own T43 400001 false) .nl)))))))), (1, (.box T25 (.agg (.cons (.int .i64) (.cons (.int .i64) (.cons (.int .i64) (.cons (.sl T46) (.cons (.sl T43) .nl))))) (.cons (.val (.int .i64)) (.cons (.val (.int .i64)) (.cons (.val (.int .i64)) (.cons (.own T46 400100 false) (.cons (.own T43 400101 false) .nl)))))))), (10, (.val (.int .i64)))]
def f10_L3_les : List (List (Nat × Sh)) := [[(0, (.box T25 (.agg (.cons (.int .i64) (.cons (.int .i64) (.cons (.int .i64) (.cons (.sl T46) (.cons (.sl T43) .nl))))) (.cons (.val (.int .i64)) (.cons (.val (.int .i64)) (.cons (.val (.int .i64)) (.cons (.own T46 400000 false) (.cons (.own T43 400001 false) .nl)))))))), (1, (.box T25 (.agg (.cons (.int .i64) (.cons (.int .i64) (.cons (.int .i64) (.cons (.sl T46) (.cons (.sl T43) .nl))))) (.cons (.val (.int .i64)) (.cons (.val (.int .i64)) (.cons (.val (.int .i64)) (.cons (.own T46 400100 false) (.cons (.own T43 400101 false) .nl))))))))]]
def f10_L3_es (y : denL f10_L3_ly) (x : denL f10_L3_lx) : List Comp := [⟨2, none, mkSt [(0, (.box T25 (.agg (.cons (.int .i64) (.cons (.int .i64) (.cons (.int .i64) (.cons (.sl T46) (.cons (.sl T43) .nl))))) (.cons (.val (.int .i64)) (.cons (.val (.int .i64)) (.cons (.val (.int .i64)) (.cons (.own T46 400000 false) (.cons (.own T43 400001 false) .nl)))))))), (1, (.box T25 (.agg (.cons (.int .i64) (.cons (.int .i64) (.cons (.int .i64) (.cons (.sl T46) (.cons (.sl T43) .nl))))) (.cons (.val (.int .i64)) (.cons (.val (.int .i64)) (.cons (.val (.int .i64)) (.cons (.own T46 400100 false) (.cons (.own T43 400101 false) .nl))))))))] ((f10_L3_x2_0 y x), (f10_L3_x2_1 y x), ()) ++ cutSt⟩]
def f10_L3_spec : St → Option Out := loopS f10_L3_ly f10_L3_lx f10_L3_g f10_L3_next f10_L3_ok f10_L3_es
def f10  : D25 :=
  let v8 := (f23 lit0)
  let v9 := (len v8)
  let s := ((0 : Int), (0 : Int), (0 : Int), ([] : List D46), ([] : List D43), ())
  let s_1 := ((1000 : Int), (800 : Int), (1200 : Int), ([] : List D46), ([] : List D43), ())
  let y3 := (v8, v9, ())
  let x3 := (s, s_1, (0 : Int), ())
  let e3 := (loopEnd (f10_L3_g y3) (f10_L3_next y3) x3)
  let r3_2_1 := (f10_L3_x2_1 y3 e3)
  let s_2 := ((65 : Int), (86 : Int), (-100 : Int), ())
  let s_3 := ((76 : Int), (84 : Int), (-100 : Int), ())
  let s_4 := ((84 : Int), (97 : Int), (-100 : Int), ())
  let s_5 := ((86 : Int), (65 : Int), (-100 : Int), ())
  let v57 := ([s_2, s_3, s_4, s_5] : List D43)
  let s_6 := (r3_2_1.1, r3_2_1.2.1, r3_2_1.2.2.1, r3_2_1.2.2.2.1, v57, ())
  s_6
def f10_ok  : Prop :=
  let v8 := (f23 lit0)
  let v9 := (len v8)
  let s := ((0 : Int), (0 : Int), (0 : Int), ([] : List D46), ([] : List D43), ())
  let s_1 := ((1000 : Int), (800 : Int), (1200 : Int), ([] : List D46), ([] : List D43), ())
  let y3 := (v8, v9, ())
  let x3 := (s, s_1, (0 : Int), ())
  ((f23_ok lit0) ∧ (Am.Ends (f10_L3_g y3) (f10_L3_next y3) (f10_L3_ok y3) x3))
instance  : Decidable (f10_ok ) := by
  unfold f10_ok
  try dsimp only
  infer_instance
def f10_ps : List (Nat × Sh) := []
def f10_rs : Sh := (.val T25)
def f10_os : List (Nat × Sh) := []
def f10_spec : Am.Spec := fnSpec f10_ps f10_rs f10_os (fun x => f10_ok ) (fun x => f10 ) (fun _ => ())
def f10_ctx : Ctx := { tys := tys, fns := [(23, f23_spec), (24, f24_spec), (25, f25_spec)], loops := [(7, f10_L7_spec), (3, f10_L3_spec)], gh := [(21, [(4, 0, 43, 400400)]), (25, [(4, 0, 50, 400100)]), (29, [(4, 0, 57, 400101)]), (31, [(4, 0, 400100, 400000), (4, 0, 400101, 400001)])], wrap := false, n := 60, keep := [], wr := [] }
theorem f10_cok : CtxOk Tryd.prog f10_ctx := ctxOk_mk tys_ok ⟨f23_is, f24_is, f25_is, trivial⟩ rfl (by kernel_rfl)
noncomputable def f10_code : Code := Tryd.f10.body.getD .skip
noncomputable def f10_L3 : Code := nthLoop f10_code 0
noncomputable def f10_L7 : Code := nthLoop f10_L3 0
theorem f10_L7_sum : ∀ y x, sumLoop f10_ctx f10_L7 f10_L7_ly f10_L7_lx f10_L7_les y x = some (f10_L7_ok y x, f10_L7_g y x, y, f10_L7_next y x, f10_L7_es y x) := fun y x => by kernel_rfl
theorem f10_L7_is : LoopSnd Tryd.prog f10_ctx f10_L7 := loop_gen f10_cok mixed (bs := []) (by kernel_rfl) trivial (by kernel_rfl) (by kernel_rfl) f10_L7_sum
theorem f10_L3_sum : ∀ y x, sumLoop f10_ctx f10_L3 f10_L3_ly f10_L3_lx f10_L3_les y x = some (f10_L3_ok y x, f10_L3_g y x, y, f10_L3_next y x, f10_L3_es y x) := fun y x => by kernel_rfl
theorem f10_L3_is : LoopSnd Tryd.prog f10_ctx f10_L3 := loop_gen f10_cok mixed (bs := [f10_L7]) (by kernel_rfl) ⟨f10_L7_is, trivial⟩ (by kernel_rfl) (by kernel_rfl) f10_L3_sum
theorem f10_sum : ∀ x, sumFn f10_ctx f10_code Tryd.f10.results.toList f10_ps f10_rs f10_os x = some (f10_ok , f10 , ()) := fun x => by kernel_rfl
theorem f10_is : SpecOk Tryd.prog 10 f10_spec := func_gen f10_cok mixed Tryd.func10 (by kernel_rfl) (by decide) rfl (bs := [f10_L3]) (by kernel_rfl) ⟨f10_L3_is, trivial⟩ (by kernel_rfl) (by kernel_rfl) rfl f10_sum
def f51  : (List UInt8) :=
  lit1
def f51_ok  : Prop :=
  True
instance  : Decidable (f51_ok ) := by
  unfold f51_ok
  try dsimp only
  infer_instance
def f51_ps : List (Nat × Sh) := []
def f51_rs : Sh := (.val .str)
def f51_os : List (Nat × Sh) := []
def f51_spec : Am.Spec := fnSpec f51_ps f51_rs f51_os (fun x => f51_ok ) (fun x => f51 ) (fun _ => ())
def f51_ctx : Ctx := { tys := tys, fns := [], loops := [], gh := [], wrap := false, n := 1, keep := [], wr := [] }
theorem f51_cok : CtxOk Tryd.prog f51_ctx := ctxOk_mk tys_ok trivial rfl (by kernel_rfl)
noncomputable def f51_code : Code := Tryd.f51.body.getD .skip
theorem f51_sum : ∀ x, sumFn f51_ctx f51_code Tryd.f51.results.toList f51_ps f51_rs f51_os x = some (f51_ok , f51 , ()) := fun x => by kernel_rfl
theorem f51_is : SpecOk Tryd.prog 51 f51_spec := func_gen f51_cok mixed Tryd.func51 (by kernel_rfl) (by decide) rfl (bs := []) (by kernel_rfl) trivial (by kernel_rfl) (by kernel_rfl) rfl f51_sum
def f52 (p0 : Int) : Int :=
  let v4 := (decide (p0 ≤ (57 : Int)))
  let v6 := (IntKind.wrap .u8 (p0 - (48 : Int)))
  let v7 := (IntKind.wrap .i64 v6)
  let v9 := (IntKind.wrap .u8 (p0 - (97 : Int)))
  let v10 := (IntKind.wrap .i64 v9)
  let v11 := (v10 + (10 : Int))
  let m2 := (bif v4 then v7 else v11)
  m2
def f52_ok (p0 : Int) : Prop :=
  let v4 := (decide (p0 ≤ (57 : Int)))
  let v9 := (IntKind.wrap .u8 (p0 - (97 : Int)))
  let v10 := (IntKind.wrap .i64 v9)
  ((!v4) = true → InR (v10 + (10 : Int)))
instance (p0 : Int) : Decidable (f52_ok p0) := by
  unfold f52_ok
  try dsimp only
  infer_instance
def f52_ps : List (Nat × Sh) := [(0, (.val (.int .u8)))]
def f52_rs : Sh := (.val (.int .i64))
def f52_os : List (Nat × Sh) := []
def f52_spec : Am.Spec := fnSpec f52_ps f52_rs f52_os (fun x => f52_ok x.1) (fun x => f52 x.1) (fun _ => ())
def f52_ctx : Ctx := { tys := tys, fns := [], loops := [], gh := [], wrap := false, n := 12, keep := [], wr := [] }
theorem f52_cok : CtxOk Tryd.prog f52_ctx := ctxOk_mk tys_ok trivial rfl (by kernel_rfl)
noncomputable def f52_code : Code := Tryd.f52.body.getD .skip
theorem f52_sum : ∀ x, sumFn f52_ctx f52_code Tryd.f52.results.toList f52_ps f52_rs f52_os x = some (f52_ok x.1, f52 x.1, ()) := fun x => by kernel_rfl
theorem f52_is : SpecOk Tryd.prog 52 f52_spec := func_gen f52_cok mixed Tryd.func52 (by kernel_rfl) (by decide) rfl (bs := []) (by kernel_rfl) trivial (by kernel_rfl) (by kernel_rfl) rfl f52_sum
def f53 (p0 : Int) (p1 : Int) (p2 : Int) : D51 :=
  let s := (p1, p2, ())
  let v11 := ([s, Z48, Z48] : List D48)
  let s_1 := (p0, v11, ())
  s_1
def f53_ok (p0 : Int) (p1 : Int) (p2 : Int) : Prop :=
  True
instance (p0 : Int) (p1 : Int) (p2 : Int) : Decidable (f53_ok p0 p1 p2) := by
  unfold f53_ok
  try dsimp only
  infer_instance
def f53_ps : List (Nat × Sh) := [(0, (.val (.int .i64))), (1, (.val (.int .i64))), (2, (.val (.int .i64)))]
def f53_rs : Sh := (.val T51)
def f53_os : List (Nat × Sh) := []
def f53_spec : Am.Spec := fnSpec f53_ps f53_rs f53_os (fun x => f53_ok x.1 x.2.1 x.2.2.1) (fun x => f53 x.1 x.2.1 x.2.2.1) (fun _ => ())
def f53_ctx : Ctx := { tys := tys, fns := [], loops := [], gh := [], wrap := false, n := 13, keep := [], wr := [] }
theorem f53_cok : CtxOk Tryd.prog f53_ctx := ctxOk_mk tys_ok trivial rfl (by kernel_rfl)
noncomputable def f53_code : Code := Tryd.f53.body.getD .skip
theorem f53_sum : ∀ x, sumFn f53_ctx f53_code Tryd.f53.results.toList f53_ps f53_rs f53_os x = some (f53_ok x.1 x.2.1 x.2.2.1, f53 x.1 x.2.1 x.2.2.1, ()) := fun x => by kernel_rfl
theorem f53_is : SpecOk Tryd.prog 53 f53_spec := func_gen f53_cok mixed Tryd.func53 (by kernel_rfl) (by decide) rfl (bs := []) (by kernel_rfl) trivial (by kernel_rfl) (by kernel_rfl) rfl f53_sum
def f26_L12_g (y : (Int × (List UInt8) × (List D51) × Int × Int × Int × Unit)) (x : (Int × Unit)) : Bool :=
  let a6 := y.2.2.2.2.1
  let a8 := x.1
  let v58 := (a8 + (1 : Int))
  let v59 := (ishr a6 v58 64)
  let v60 := (iand .i64 v59 (1 : Int))
  let v61 := (v60 == (1 : Int))
  v61
def f26_L12_next (y : (Int × (List UInt8) × (List D51) × Int × Int × Int × Unit)) (x : (Int × Unit)) : (Int × Unit) :=
  let a8 := x.1
  let v63 := (a8 + (1 : Int))
  (v63, ())
def f26_L12_ok (y : (Int × (List UInt8) × (List D51) × Int × Int × Int × Unit)) (x : (Int × Unit)) : Prop :=
  let a6 := y.2.2.2.2.1
  let a8 := x.1
  let v58 := (a8 + (1 : Int))
  let v59 := (ishr a6 v58 64)
  let v60 := (iand .i64 v59 (1 : Int))
  let v61 := (v60 == (1 : Int))
  (InR (a8 + (1 : Int)) ∧ (0 ≤ v58 ∧ (v61 = true → InR (a8 + (1 : Int)))))
instance (y : (Int × (List UInt8) × (List D51) × Int × Int × Int × Unit)) (x : (Int × Unit)) : Decidable (f26_L12_ok y x) := by
  unfold f26_L12_ok
  try dsimp only
  infer_instance
def f26_L12_x6 (y : (Int × (List UInt8) × (List D51) × Int × Int × Int × Unit)) (x : (Int × Unit)) : (Int × Unit) :=
  let a8 := x.1
  (a8, ())
def f26_L12_x6_0 (y : (Int × (List UInt8) × (List D51) × Int × Int × Int × Unit)) (x : (Int × Unit)) : Int := (f26_L12_x6 y x).1
def f26_L12_ly : List (Nat × Sh) := [(0, (.val (.int .i64))), (3, (.val .str)), (4, (.own T51 1004 false)), (5, (.val (.int .i64))), (6, (.val (.int .i64))), (7, (.val (.int .i64)))]
def f26_L12_lx : List (Nat × Sh) := [(8, (.val (.int .i64)))]
def f26_L12_les : List (List (Nat × Sh)) := [[(0, (.val (.int .i64))), (3, (.val .str)), (4, (.own T51 1004 false)), (5, (.val (.int .i64))), (6, (.val (.int .i64))), (7, (.val (.int .i64))), (8, (.val (.int .i64)))]]
def f26_L12_es (y : denL f26_L12_ly) (x : denL f26_L12_lx) : List Comp := [⟨6, none, mkSt [(0, (.val (.int .i64))), (3, (.val .str)), (4, (.own T51 1004 false)), (5, (.val (.int .i64))), (6, (.val (.int .i64))), (7, (.val (.int .i64))), (8, (.val (.int .i64)))] (y.1, y.2.1, y.2.2.1, y.2.2.2.1, y.2.2.2.2.1, y.2.2.2.2.2.1, (f26_L12_x6_0 y x), ()) ++ cutSt⟩]
def f26_L12_spec : St → Option Out := loopS f26_L12_ly f26_L12_lx f26_L12_g f26_L12_next f26_L12_ok f26_L12_es
def f26_L8_g (y : (Unit)) (x : (Int × (List UInt8) × (List D51) × Int × Int × Int × Unit)) : Bool :=
  let a6 := x.2.2.2.2.1
  let a7 := x.2.2.2.2.2.1
  let v35 := (decide (a7 < (7 : Int)))
  let v40 := (ishr a6 a7 64)
  let v41 := (iand .i64 v40 (1 : Int))
  let v42 := (v41 == (0 : Int))
  let v45 := (decide (a7 > (0 : Int)))
  let v49 := (a7 - (1 : Int))
  let v50 := (ishr a6 v49 64)
  let v51 := (iand .i64 v50 (1 : Int))
  let v52 := (v51 == (1 : Int))
  let v53 := (bif v45 then v52 else false)
  let v54 := (bif v42 then true else v53)
  let c := (v54 || (!v54))
  let c_1 := (v35 && c)
  c_1
def f26_L8_next (y : (Unit)) (x : (Int × (List UInt8) × (List D51) × Int × Int × Int × Unit)) : (Int × (List UInt8) × (List D51) × Int × Int × Int × Unit) :=
  let a0 := x.1
  let a3 := x.2.1
  let a4 := x.2.2.1
  let a5 := x.2.2.2.1
  let a6 := x.2.2.2.2.1
  let a7 := x.2.2.2.2.2.1
  let v40 := (ishr a6 a7 64)
  let v41 := (iand .i64 v40 (1 : Int))
  let v42 := (v41 == (0 : Int))
  let v45 := (decide (a7 > (0 : Int)))
  let v49 := (a7 - (1 : Int))
  let v50 := (ishr a6 v49 64)
  let v51 := (iand .i64 v50 (1 : Int))
  let v52 := (v51 == (1 : Int))
  let v53 := (bif v45 then v52 else false)
  let v54 := (bif v42 then true else v53)
  let y12 := (a0, a3, a4, a5, a6, a7, ())
  let x12 := (a7, ())
  let e12 := (loopEnd (f26_L12_g y12) (f26_L12_next y12) x12)
  let r12_6_0 := (f26_L12_x6_0 y12 e12)
  let v66 := ((100 : Int) * a5)
  let v68 := ((100 : Int) * a7)
  let v69 := ((700 : Int) - v68)
  let v70 := (f53 (1 : Int) v66 v69)
  let v72 := ((100 : Int) * a5)
  let v73 := (v72 + (100 : Int))
  let v75 := ((100 : Int) * a7)
  let v76 := ((700 : Int) - v75)
  let v77 := (f53 (2 : Int) v73 v76)
  let v79 := ((100 : Int) * a5)
  let v80 := (v79 + (100 : Int))
  let v82 := ((100 : Int) * r12_6_0)
  let v83 := ((600 : Int) - v82)
  let v84 := (f53 (2 : Int) v80 v83)
  let v86 := ((100 : Int) * a5)
  let v88 := ((100 : Int) * r12_6_0)
  let v89 := ((600 : Int) - v88)
  let v90 := (f53 (2 : Int) v86 v89)
  let s := ((5 : Int), (List.replicate 3 Z48), ())
  let v92 := ([v70, v77, v84, v90, s] : List D51)
  let v93 := (a4 ++ v92)
  let m0 := (bif v54 then a0 else a0)
  let m3 := (bif v54 then a3 else a3)
  let m4 := (bif v54 then a4 else v93)
  let m5 := (bif v54 then a5 else a5)
  let m6 := (bif v54 then a6 else a6)
  let m7 := (bif v54 then a7 else a7)
  let v37 := (m7 + (1 : Int))
  (m0, m3, m4, m5, m6, v37, ())
def f26_L8_ok (y : (Unit)) (x : (Int × (List UInt8) × (List D51) × Int × Int × Int × Unit)) : Prop :=
  let a0 := x.1
  let a3 := x.2.1
  let a4 := x.2.2.1
  let a5 := x.2.2.2.1
  let a6 := x.2.2.2.2.1
  let a7 := x.2.2.2.2.2.1
  let v35 := (decide (a7 < (7 : Int)))
  let v40 := (ishr a6 a7 64)
  let v41 := (iand .i64 v40 (1 : Int))
  let v42 := (v41 == (0 : Int))
  let v45 := (decide (a7 > (0 : Int)))
  let g43_2 := (!v42)
  let g46_2 := (g43_2 && v45)
  let v49 := (a7 - (1 : Int))
  let g46_3 := (g43_2 && v45)
  let v50 := (ishr a6 v49 64)
  let v51 := (iand .i64 v50 (1 : Int))
  let v52 := (v51 == (1 : Int))
  let v53 := (bif v45 then v52 else false)
  let v54 := (bif v42 then true else v53)
  let y12 := (a0, a3, a4, a5, a6, a7, ())
  let x12 := (a7, ())
  let e12 := (loopEnd (f26_L12_g y12) (f26_L12_next y12) x12)
  let r12_6_0 := (f26_L12_x6_0 y12 e12)
  let v66 := ((100 : Int) * a5)
  let v68 := ((100 : Int) * a7)
  let v69 := ((700 : Int) - v68)
  let v70 := (f53 (1 : Int) v66 v69)
  let v72 := ((100 : Int) * a5)
  let v73 := (v72 + (100 : Int))
  let v75 := ((100 : Int) * a7)
  let v76 := ((700 : Int) - v75)
  let v77 := (f53 (2 : Int) v73 v76)
  let v79 := ((100 : Int) * a5)
  let v80 := (v79 + (100 : Int))
  let v82 := ((100 : Int) * r12_6_0)
  let v83 := ((600 : Int) - v82)
  let v84 := (f53 (2 : Int) v80 v83)
  let v86 := ((100 : Int) * a5)
  let v88 := ((100 : Int) * r12_6_0)
  let v89 := ((600 : Int) - v88)
  let v90 := (f53 (2 : Int) v86 v89)
  let s := ((5 : Int), (List.replicate 3 Z48), ())
  let v92 := ([v70, v77, v84, v90, s] : List D51)
  let c := (v54 || (!v54))
  let m7 := (bif v54 then a7 else a7)
  (v35 = true → (0 ≤ a7 ∧ ((g46_2 = true → InR (a7 - (1 : Int))) ∧ ((g46_3 = true → 0 ≤ v49) ∧ (((!v54) = true → ((Am.Ends (f26_L12_g y12) (f26_L12_next y12) (f26_L12_ok y12) x12) ∧ (InR ((100 : Int) * a5) ∧ (InR ((100 : Int) * a7) ∧ (InR ((700 : Int) - v68) ∧ ((f53_ok (1 : Int) v66 v69) ∧ (InR ((100 : Int) * a5) ∧ (InR (v72 + (100 : Int)) ∧ (InR ((100 : Int) * a7) ∧ (InR ((700 : Int) - v75) ∧ ((f53_ok (2 : Int) v73 v76) ∧ (InR ((100 : Int) * a5) ∧ (InR (v79 + (100 : Int)) ∧ (InR ((100 : Int) * r12_6_0) ∧ (InR ((600 : Int) - v82) ∧ ((f53_ok (2 : Int) v80 v83) ∧ (InR ((100 : Int) * a5) ∧ (InR ((100 : Int) * r12_6_0) ∧ (InR ((600 : Int) - v88) ∧ ((f53_ok (2 : Int) v86 v89) ∧ ((List.length a4 + List.length v92 : Nat) : Int) ≤ 4294967296)))))))))))))))))))) ∧ (c = true → InR (m7 + (1 : Int))))))))
instance (y : (Unit)) (x : (Int × (List UInt8) × (List D51) × Int × Int × Int × Unit)) : Decidable (f26_L8_ok y x) := by
  unfold f26_L8_ok
  try dsimp only
  infer_instance
def f26_L8_x4 (y : (Unit)) (x : (Int × (List UInt8) × (List D51) × Int × Int × Int × Unit)) : (Int × (List UInt8) × (List D51) × Int × Unit) :=
  let a0 := x.1
  let a3 := x.2.1
  let a4 := x.2.2.1
  let a5 := x.2.2.2.1
  (a0, a3, a4, a5, ())
def f26_L8_x4_0 (y : (Unit)) (x : (Int × (List UInt8) × (List D51) × Int × Int × Int × Unit)) : Int := (f26_L8_x4 y x).1
def f26_L8_x4_1 (y : (Unit)) (x : (Int × (List UInt8) × (List D51) × Int × Int × Int × Unit)) : (List UInt8) := (f26_L8_x4 y x).2.1
def f26_L8_x4_2 (y : (Unit)) (x : (Int × (List UInt8) × (List D51) × Int × Int × Int × Unit)) : (List D51) := (f26_L8_x4 y x).2.2.1
def f26_L8_x4_3 (y : (Unit)) (x : (Int × (List UInt8) × (List D51) × Int × Int × Int × Unit)) : Int := (f26_L8_x4 y x).2.2.2.1
def f26_L8_ly : List (Nat × Sh) := []
def f26_L8_lx : List (Nat × Sh) := [(0, (.val (.int .i64))), (3, (.val .str)), (4, (.own T51 1004 false)), (5, (.val (.int .i64))), (6, (.val (.int .i64))), (7, (.val (.int .i64)))]
def f26_L8_les : List (List (Nat × Sh)) := [[(0, (.val (.int .i64))), (3, (.val .str)), (4, (.own T51 1004 false)), (5, (.val (.int .i64)))]]
def f26_L8_es (y : denL f26_L8_ly) (x : denL f26_L8_lx) : List Comp := [⟨4, none, mkSt [(0, (.val (.int .i64))), (3, (.val .str)), (4, (.own T51 1004 false)), (5, (.val (.int .i64)))] ((f26_L8_x4_0 y x), (f26_L8_x4_1 y x), (f26_L8_x4_2 y x), (f26_L8_x4_3 y x), ()) ++ cutSt⟩]
def f26_L8_spec : St → Option Out := loopS f26_L8_ly f26_L8_lx f26_L8_g f26_L8_next f26_L8_ok f26_L8_es
def f26_L4_g (y : (Unit)) (x : (Int × (List UInt8) × (List D51) × Int × Unit)) : Bool :=
  let a5 := x.2.2.2.1
  let v12 := (decide (a5 < (5 : Int)))
  v12
def f26_L4_next (y : (Unit)) (x : (Int × (List UInt8) × (List D51) × Int × Unit)) : (Int × (List UInt8) × (List D51) × Int × Unit) :=
  let a0 := x.1
  let a3 := x.2.1
  let a4 := x.2.2.1
  let a5 := x.2.2.2.1
  let v17 := ((10 : Int) * a0)
  let v19 := ((2 : Int) * a5)
  let v20 := (v17 + v19)
  let v21 := (byteAt a3 v20)
  let v22 := (f52 v21)
  let v23 := ((16 : Int) * v22)
  let v26 := ((10 : Int) * a0)
  let v28 := ((2 : Int) * a5)
  let v29 := (v26 + v28)
  let v30 := (v29 + (1 : Int))
  let v31 := (byteAt a3 v30)
  let v32 := (f52 v31)
  let v33 := (v23 + v32)
  let x8 := (a0, a3, a4, a5, v33, (0 : Int), ())
  let e8 := (loopEnd (f26_L8_g ()) (f26_L8_next ()) x8)
  let r8_4_0 := (f26_L8_x4_0 () e8)
  let r8_4_1 := (f26_L8_x4_1 () e8)
  let r8_4_2 := (f26_L8_x4_2 () e8)
  let r8_4_3 := (f26_L8_x4_3 () e8)
  let v14 := (r8_4_3 + (1 : Int))
  (r8_4_0, r8_4_1, r8_4_2, v14, ())
def f26_L4_ok (y : (Unit)) (x : (Int × (List UInt8) × (List D51) × Int × Unit)) : Prop :=
  let a0 := x.1
  let a3 := x.2.1
  let a4 := x.2.2.1
  let a5 := x.2.2.2.1
  let v12 := (decide (a5 < (5 : Int)))
  let v17 := ((10 : Int) * a0)
  let v19 := ((2 : Int) * a5)
  let v20 := (v17 + v19)
  let v21 := (byteAt a3 v20)
  let v22 := (f52 v21)
  let v23 := ((16 : Int) * v22)
  let v26 := ((10 : Int) * a0)
  let v28 := ((2 : Int) * a5)
  let v29 := (v26 + v28)
  let v30 := (v29 + (1 : Int))
  let v31 := (byteAt a3 v30)
  let v32 := (f52 v31)
  let v33 := (v23 + v32)
  let x8 := (a0, a3, a4, a5, v33, (0 : Int), ())
  let e8 := (loopEnd (f26_L8_g ()) (f26_L8_next ()) x8)
  let r8_4_3 := (f26_L8_x4_3 () e8)
  (v12 = true → (InR ((10 : Int) * a0) ∧ (InR ((2 : Int) * a5) ∧ (InR (v17 + v19) ∧ (InB v20 (len a3) ∧ ((f52_ok v21) ∧ (InR ((16 : Int) * v22) ∧ (InR ((10 : Int) * a0) ∧ (InR ((2 : Int) * a5) ∧ (InR (v26 + v28) ∧ (InR (v29 + (1 : Int)) ∧ (InB v30 (len a3) ∧ ((f52_ok v31) ∧ (InR (v23 + v32) ∧ ((Am.Ends (f26_L8_g ()) (f26_L8_next ()) (f26_L8_ok ()) x8) ∧ InR (r8_4_3 + (1 : Int)))))))))))))))))
instance (y : (Unit)) (x : (Int × (List UInt8) × (List D51) × Int × Unit)) : Decidable (f26_L4_ok y x) := by
  unfold f26_L4_ok
  try dsimp only
  infer_instance
def f26_L4_x2 (y : (Unit)) (x : (Int × (List UInt8) × (List D51) × Int × Unit)) : ((List D51) × Unit) :=
  let a4 := x.2.2.1
  (a4, ())
def f26_L4_x2_0 (y : (Unit)) (x : (Int × (List UInt8) × (List D51) × Int × Unit)) : (List D51) := (f26_L4_x2 y x).1
def f26_L4_ly : List (Nat × Sh) := []
def f26_L4_lx : List (Nat × Sh) := [(0, (.val (.int .i64))), (3, (.val .str)), (4, (.own T51 1004 false)), (5, (.val (.int .i64)))]
def f26_L4_les : List (List (Nat × Sh)) := [[(4, (.own T51 1004 false))]]
def f26_L4_es (y : denL f26_L4_ly) (x : denL f26_L4_lx) : List Comp := [⟨2, none, mkSt [(4, (.own T51 1004 false))] ((f26_L4_x2_0 y x), ()) ++ cutSt⟩]
def f26_L4_spec : St → Option Out := loopS f26_L4_ly f26_L4_lx f26_L4_g f26_L4_next f26_L4_ok f26_L4_es
def f26 (p0 : Int) : (List D51) :=
  let x4 := (p0, f51, ([] : List D51), (0 : Int), ())
  let e4 := (loopEnd (f26_L4_g ()) (f26_L4_next ()) x4)
  let r4_2_0 := (f26_L4_x2_0 () e4)
  r4_2_0
def f26_ok (p0 : Int) : Prop :=
  let x4 := (p0, f51, ([] : List D51), (0 : Int), ())
  (f51_ok ∧ (Am.Ends (f26_L4_g ()) (f26_L4_next ()) (f26_L4_ok ()) x4))
instance (p0 : Int) : Decidable (f26_ok p0) := by
  unfold f26_ok
  try dsimp only
  infer_instance
def f26_ps : List (Nat × Sh) := [(0, (.val (.int .i64)))]
def f26_rs : Sh := (.own T51 0 false)
def f26_os : List (Nat × Sh) := []
def f26_spec : Am.Spec := fnSpec f26_ps f26_rs f26_os (fun x => f26_ok x.1) (fun x => f26 x.1) (fun _ => ())
def f26_ctx : Ctx := { tys := tys, fns := [(51, f51_spec), (52, f52_spec), (53, f53_spec)], loops := [(12, f26_L12_spec), (8, f26_L8_spec), (4, f26_L4_spec)], gh := [(5, [(4, 0, 10, 1004)]), (29, [(4, 0, 93, 1004)]), (31, [(4, 0, 1004, 0)])], wrap := false, n := 95, keep := [], wr := [] }
theorem f26_cok : CtxOk Tryd.prog f26_ctx := ctxOk_mk tys_ok ⟨f51_is, f52_is, f53_is, trivial⟩ rfl (by kernel_rfl)
noncomputable def f26_code : Code := Tryd.f26.body.getD .skip
noncomputable def f26_L4 : Code := nthLoop f26_code 0
noncomputable def f26_L8 : Code := nthLoop f26_L4 0
noncomputable def f26_L12 : Code := nthLoop f26_L8 0
theorem f26_L12_sum : ∀ y x, sumLoop f26_ctx f26_L12 f26_L12_ly f26_L12_lx f26_L12_les y x = some (f26_L12_ok y x, f26_L12_g y x, y, f26_L12_next y x, f26_L12_es y x) := fun y x => by kernel_rfl
theorem f26_L12_is : LoopSnd Tryd.prog f26_ctx f26_L12 := loop_gen f26_cok mixed (bs := []) (by kernel_rfl) trivial (by kernel_rfl) (by kernel_rfl) f26_L12_sum
theorem f26_L8_sum : ∀ y x, sumLoop f26_ctx f26_L8 f26_L8_ly f26_L8_lx f26_L8_les y x = some (f26_L8_ok y x, f26_L8_g y x, y, f26_L8_next y x, f26_L8_es y x) := fun y x => by kernel_rfl
theorem f26_L8_is : LoopSnd Tryd.prog f26_ctx f26_L8 := loop_gen f26_cok mixed (bs := [f26_L12]) (by kernel_rfl) ⟨f26_L12_is, trivial⟩ (by kernel_rfl) (by kernel_rfl) f26_L8_sum
theorem f26_L4_sum : ∀ y x, sumLoop f26_ctx f26_L4 f26_L4_ly f26_L4_lx f26_L4_les y x = some (f26_L4_ok y x, f26_L4_g y x, y, f26_L4_next y x, f26_L4_es y x) := fun y x => by kernel_rfl
theorem f26_L4_is : LoopSnd Tryd.prog f26_ctx f26_L4 := loop_gen f26_cok mixed (bs := [f26_L8]) (by kernel_rfl) ⟨f26_L8_is, trivial⟩ (by kernel_rfl) (by kernel_rfl) f26_L4_sum
theorem f26_sum : ∀ x, sumFn f26_ctx f26_code Tryd.f26.results.toList f26_ps f26_rs f26_os x = some (f26_ok x.1, f26 x.1, ()) := fun x => by kernel_rfl
theorem f26_is : SpecOk Tryd.prog 26 f26_spec := func_gen f26_cok mixed Tryd.func26 (by kernel_rfl) (by decide) rfl (bs := [f26_L4]) (by kernel_rfl) ⟨f26_L4_is, trivial⟩ (by kernel_rfl) (by kernel_rfl) rfl f26_sum
def f11_L3_g (y : (Unit)) (x : ((Int × Int × Int × (List D46) × (List D43) × Unit) × (Int × Int × Int × (List D46) × (List D43) × Unit) × Int × Unit)) : Bool :=
  let a2 := x.2.2.1
  let v10 := (decide (a2 < (95 : Int)))
  v10
def f11_L3_next (y : (Unit)) (x : ((Int × Int × Int × (List D46) × (List D43) × Unit) × (Int × Int × Int × (List D46) × (List D43) × Unit) × Int × Unit)) : ((Int × Int × Int × (List D46) × (List D43) × Unit) × (Int × Int × Int × (List D46) × (List D43) × Unit) × Int × Unit) :=
  let a0 := x.1
  let a1 := x.2.1
  let a2 := x.2.2.1
  let v16 := ((32 : Int) + a2)
  let v17 := (IntKind.wrap .u8 v16)
  let v19 := (f26 a2)
  let s := (v17, (600 : Int), v19, ())
  let v21 := ([s] : List D46)
  let v22 := (a1.2.2.2.1 ++ v21)
  let v12 := (a2 + (1 : Int))
  let s_1 := (a0.1, a0.2.1, a0.2.2.1, a0.2.2.2.1, a0.2.2.2.2.1, ())
  let s_2 := (a1.1, a1.2.1, a1.2.2.1, v22, a1.2.2.2.2.1, ())
  (s_1, s_2, v12, ())
def f11_L3_ok (y : (Unit)) (x : ((Int × Int × Int × (List D46) × (List D43) × Unit) × (Int × Int × Int × (List D46) × (List D43) × Unit) × Int × Unit)) : Prop :=
  let a1 := x.2.1
  let a2 := x.2.2.1
  let v10 := (decide (a2 < (95 : Int)))
  let v16 := ((32 : Int) + a2)
  let v17 := (IntKind.wrap .u8 v16)
  let v19 := (f26 a2)
  let s := (v17, (600 : Int), v19, ())
  let v21 := ([s] : List D46)
  (v10 = true → (InR ((32 : Int) + a2) ∧ ((f26_ok a2) ∧ (((List.length a1.2.2.2.1 + List.length v21 : Nat) : Int) ≤ 4294967296 ∧ InR (a2 + (1 : Int))))))
instance (y : (Unit)) (x : ((Int × Int × Int × (List D46) × (List D43) × Unit) × (Int × Int × Int × (List D46) × (List D43) × Unit) × Int × Unit)) : Decidable (f11_L3_ok y x) := by
  unfold f11_L3_ok
  try dsimp only
  infer_instance
def f11_L3_x2 (y : (Unit)) (x : ((Int × Int × Int × (List D46) × (List D43) × Unit) × (Int × Int × Int × (List D46) × (List D43) × Unit) × Int × Unit)) : ((Int × Int × Int × (List D46) × (List D43) × Unit) × (Int × Int × Int × (List D46) × (List D43) × Unit) × Unit) :=
  let a0 := x.1
  let a1 := x.2.1
  let s_3 := (a0.1, a0.2.1, a0.2.2.1, a0.2.2.2.1, a0.2.2.2.2.1, ())
  let s_4 := (a1.1, a1.2.1, a1.2.2.1, a1.2.2.2.1, a1.2.2.2.2.1, ())
  (s_3, s_4, ())
def f11_L3_x2_0 (y : (Unit)) (x : ((Int × Int × Int × (List D46) × (List D43) × Unit) × (Int × Int × Int × (List D46) × (List D43) × Unit) × Int × Unit)) : (Int × Int × Int × (List D46) × (List D43) × Unit) := (f11_L3_x2 y x).1
def f11_L3_x2_1 (y : (Unit)) (x : ((Int × Int × Int × (List D46) × (List D43) × Unit) × (Int × Int × Int × (List D46) × (List D43) × Unit) × Int × Unit)) : (Int × Int × Int × (List D46) × (List D43) × Unit) := (f11_L3_x2 y x).2.1
def f11_L3_ly : List (Nat × Sh) := []
def f11_L3_lx : List (Nat × Sh) := [(0, (.box T25 (.agg (.cons (.int .i64) (.cons (.int .i64) (.cons (.int .i64) (.cons (.sl T46) (.cons (.sl T43) .nl))))) (.cons (.val (.int .i64)) (.cons (.val (.int .i64)) (.cons (.val (.int .i64)) (.cons (.own T46 400000 false) (.cons (.own T43 400001 false) .nl)))))))), (1, (.box T25 (.agg (.cons (.int .i64) (.cons (.int .i64) (.cons (.int .i64) (.cons (.sl T46) (.cons (.sl T43) .nl))))) (.cons (.val (.int .i64)) (.cons (.val (.int .i64)) (.cons (.val (.int .i64)) (.cons (.own T46 400100 false) (.cons (.own T43 400101 false) .nl)))))))), (2, (.val (.int .i64)))]
def f11_L3_les : List (List (Nat × Sh)) := [[(0, (.box T25 (.agg (.cons (.int .i64) (.cons (.int .i64) (.cons (.int .i64) (.cons (.sl T46) (.cons (.sl T43) .nl))))) (.cons (.val (.int .i64)) (.cons (.val (.int .i64)) (.cons (.val (.int .i64)) (.cons (.own T46 400000 false) (.cons (.own T43 400001 false) .nl)))))))), (1, (.box T25 (.agg (.cons (.int .i64) (.cons (.int .i64) (.cons (.int .i64) (.cons (.sl T46) (.cons (.sl T43) .nl))))) (.cons (.val (.int .i64)) (.cons (.val (.int .i64)) (.cons (.val (.int .i64)) (.cons (.own T46 400100 false) (.cons (.own T43 400101 false) .nl))))))))]]
def f11_L3_es (y : denL f11_L3_ly) (x : denL f11_L3_lx) : List Comp := [⟨2, none, mkSt [(0, (.box T25 (.agg (.cons (.int .i64) (.cons (.int .i64) (.cons (.int .i64) (.cons (.sl T46) (.cons (.sl T43) .nl))))) (.cons (.val (.int .i64)) (.cons (.val (.int .i64)) (.cons (.val (.int .i64)) (.cons (.own T46 400000 false) (.cons (.own T43 400001 false) .nl)))))))), (1, (.box T25 (.agg (.cons (.int .i64) (.cons (.int .i64) (.cons (.int .i64) (.cons (.sl T46) (.cons (.sl T43) .nl))))) (.cons (.val (.int .i64)) (.cons (.val (.int .i64)) (.cons (.val (.int .i64)) (.cons (.own T46 400100 false) (.cons (.own T43 400101 false) .nl))))))))] ((f11_L3_x2_0 y x), (f11_L3_x2_1 y x), ()) ++ cutSt⟩]
def f11_L3_spec : St → Option Out := loopS f11_L3_ly f11_L3_lx f11_L3_g f11_L3_next f11_L3_ok f11_L3_es
def f11  : D25 :=
  let s := ((65 : Int), (86 : Int), (-100 : Int), ())
  let s_1 := ((76 : Int), (84 : Int), (-100 : Int), ())
  let s_2 := ((84 : Int), (97 : Int), (-100 : Int), ())
  let s_3 := ((86 : Int), (65 : Int), (-100 : Int), ())
  let v7 := ([s, s_1, s_2, s_3] : List D43)
  let s_4 := ((0 : Int), (0 : Int), (0 : Int), ([] : List D46), ([] : List D43), ())
  let s_5 := ((1000 : Int), (800 : Int), (1200 : Int), ([] : List D46), v7, ())
  let x3 := (s_4, s_5, (0 : Int), ())
  let e3 := (loopEnd (f11_L3_g ()) (f11_L3_next ()) x3)
  let r3_2_1 := (f11_L3_x2_1 () e3)
  let s_6 := (r3_2_1.1, r3_2_1.2.1, r3_2_1.2.2.1, r3_2_1.2.2.2.1, r3_2_1.2.2.2.2.1, ())
  s_6
def f11_ok  : Prop :=
  let s := ((65 : Int), (86 : Int), (-100 : Int), ())
  let s_1 := ((76 : Int), (84 : Int), (-100 : Int), ())
  let s_2 := ((84 : Int), (97 : Int), (-100 : Int), ())
  let s_3 := ((86 : Int), (65 : Int), (-100 : Int), ())
  let v7 := ([s, s_1, s_2, s_3] : List D43)
  let s_4 := ((0 : Int), (0 : Int), (0 : Int), ([] : List D46), ([] : List D43), ())
  let s_5 := ((1000 : Int), (800 : Int), (1200 : Int), ([] : List D46), v7, ())
  let x3 := (s_4, s_5, (0 : Int), ())
  (Am.Ends (f11_L3_g ()) (f11_L3_next ()) (f11_L3_ok ()) x3)
instance  : Decidable (f11_ok ) := by
  unfold f11_ok
  try dsimp only
  infer_instance
def f11_ps : List (Nat × Sh) := []
def f11_rs : Sh := (.val T25)
def f11_os : List (Nat × Sh) := []
def f11_spec : Am.Spec := fnSpec f11_ps f11_rs f11_os (fun x => f11_ok ) (fun x => f11 ) (fun _ => ())
def f11_ctx : Ctx := { tys := tys, fns := [(26, f26_spec)], loops := [(3, f11_L3_spec)], gh := [(3, [(4, 0, 7, 400101)]), (11, [(4, 0, 22, 400100)]), (13, [(4, 0, 400100, 400000), (4, 0, 400101, 400001)])], wrap := false, n := 25, keep := [], wr := [] }
theorem f11_cok : CtxOk Tryd.prog f11_ctx := ctxOk_mk tys_ok ⟨f26_is, trivial⟩ rfl (by kernel_rfl)
noncomputable def f11_code : Code := Tryd.f11.body.getD .skip
noncomputable def f11_L3 : Code := nthLoop f11_code 0
theorem f11_L3_sum : ∀ y x, sumLoop f11_ctx f11_L3 f11_L3_ly f11_L3_lx f11_L3_les y x = some (f11_L3_ok y x, f11_L3_g y x, y, f11_L3_next y x, f11_L3_es y x) := fun y x => by kernel_rfl
theorem f11_L3_is : LoopSnd Tryd.prog f11_ctx f11_L3 := loop_gen f11_cok mixed (bs := []) (by kernel_rfl) trivial (by kernel_rfl) (by kernel_rfl) f11_L3_sum
theorem f11_sum : ∀ x, sumFn f11_ctx f11_code Tryd.f11.results.toList f11_ps f11_rs f11_os x = some (f11_ok , f11 , ()) := fun x => by kernel_rfl
theorem f11_is : SpecOk Tryd.prog 11 f11_spec := func_gen f11_cok mixed Tryd.func11 (by kernel_rfl) (by decide) rfl (bs := [f11_L3]) (by kernel_rfl) ⟨f11_L3_is, trivial⟩ (by kernel_rfl) (by kernel_rfl) rfl f11_sum
def f27 (p0 : Int) (p1 : Int) (p2 : Int) : Bool :=
  let v9 := (decide (p0 ≥ p1))
  let v13 := (decide (p0 ≤ p2))
  let v14 := (bif v9 then v13 else false)
  v14
def f27_ok (p0 : Int) (p1 : Int) (p2 : Int) : Prop :=
  True
instance (p0 : Int) (p1 : Int) (p2 : Int) : Decidable (f27_ok p0 p1 p2) := by
  unfold f27_ok
  try dsimp only
  infer_instance
def f27_ps : List (Nat × Sh) := [(0, (.val (.int .i64))), (1, (.val (.int .i64))), (2, (.val (.int .i64)))]
def f27_rs : Sh := (.val .bool)
def f27_os : List (Nat × Sh) := []
def f27_spec : Am.Spec := fnSpec f27_ps f27_rs f27_os (fun x => f27_ok x.1 x.2.1 x.2.2.1) (fun x => f27 x.1 x.2.1 x.2.2.1) (fun _ => ())
def f27_ctx : Ctx := { tys := tys, fns := [], loops := [], gh := [], wrap := false, n := 15, keep := [], wr := [] }
theorem f27_cok : CtxOk Tryd.prog f27_ctx := ctxOk_mk tys_ok trivial rfl (by kernel_rfl)
noncomputable def f27_code : Code := Tryd.f27.body.getD .skip
theorem f27_sum : ∀ x, sumFn f27_ctx f27_code Tryd.f27.results.toList f27_ps f27_rs f27_os x = some (f27_ok x.1 x.2.1 x.2.2.1, f27 x.1 x.2.1 x.2.2.1, ()) := fun x => by kernel_rfl
theorem f27_is : SpecOk Tryd.prog 27 f27_spec := func_gen f27_cok mixed Tryd.func27 (by kernel_rfl) (by decide) rfl (bs := []) (by kernel_rfl) trivial (by kernel_rfl) (by kernel_rfl) rfl f27_sum
def f69 (p0 : D48) : Bool :=
  let v5 := (decide (p0.1 < (-16777216 : Int)))
  let v9 := (decide (p0.1 > (16777216 : Int)))
  let v10 := (bif v5 then true else v9)
  let v14 := (decide (p0.2.1 < (-16777216 : Int)))
  let v15 := (bif v10 then true else v14)
  let v19 := (decide (p0.2.1 > (16777216 : Int)))
  let v20 := (bif v15 then true else v19)
  v20
def f69_ok (p0 : D48) : Prop :=
  True
instance (p0 : D48) : Decidable (f69_ok p0) := by
  unfold f69_ok
  try dsimp only
  infer_instance
def f69_ps : List (Nat × Sh) := [(0, (.val T48))]
def f69_rs : Sh := (.val .bool)
def f69_os : List (Nat × Sh) := []
def f69_spec : Am.Spec := fnSpec f69_ps f69_rs f69_os (fun x => f69_ok x.1) (fun x => f69 x.1) (fun _ => ())
def f69_ctx : Ctx := { tys := tys, fns := [], loops := [], gh := [], wrap := false, n := 21, keep := [], wr := [] }
theorem f69_cok : CtxOk Tryd.prog f69_ctx := ctxOk_mk tys_ok trivial rfl (by kernel_rfl)
noncomputable def f69_code : Code := Tryd.f69.body.getD .skip
theorem f69_sum : ∀ x, sumFn f69_ctx f69_code Tryd.f69.results.toList f69_ps f69_rs f69_os x = some (f69_ok x.1, f69 x.1, ()) := fun x => by kernel_rfl
theorem f69_is : SpecOk Tryd.prog 69 f69_spec := func_gen f69_cok mixed Tryd.func69 (by kernel_rfl) (by decide) rfl (bs := []) (by kernel_rfl) trivial (by kernel_rfl) (by kernel_rfl) rfl f69_sum
def f70 (p0 : Int) : Int :=
  let v5 := (p0 == (3 : Int))
  let v7 := (p0 == (4 : Int))
  let v9 := (p0 == (5 : Int))
  let c := (bif v7 then true else v9)
  let m2 := (bif v7 then (3 : Int) else (0 : Int))
  let c_2 := (bif v5 then true else c)
  let m2_1 := (bif v5 then (2 : Int) else m2)
  let m2_2 := (bif c_2 then m2_1 else (1 : Int))
  m2_2
def f70_ok (p0 : Int) : Prop :=
  True
instance (p0 : Int) : Decidable (f70_ok p0) := by
  unfold f70_ok
  try dsimp only
  infer_instance
def f70_ps : List (Nat × Sh) := [(0, (.val (.int .i64)))]
def f70_rs : Sh := (.val (.int .i64))
def f70_os : List (Nat × Sh) := []
def f70_spec : Am.Spec := fnSpec f70_ps f70_rs f70_os (fun x => f70_ok x.1) (fun x => f70 x.1) (fun _ => ())
def f70_ctx : Ctx := { tys := tys, fns := [], loops := [], gh := [], wrap := false, n := 10, keep := [], wr := [] }
theorem f70_cok : CtxOk Tryd.prog f70_ctx := ctxOk_mk tys_ok trivial rfl (by kernel_rfl)
noncomputable def f70_code : Code := Tryd.f70.body.getD .skip
theorem f70_sum : ∀ x, sumFn f70_ctx f70_code Tryd.f70.results.toList f70_ps f70_rs f70_os x = some (f70_ok x.1, f70 x.1, ()) := fun x => by kernel_rfl
theorem f70_is : SpecOk Tryd.prog 70 f70_spec := func_gen f70_cok mixed Tryd.func70 (by kernel_rfl) (by decide) rfl (bs := []) (by kernel_rfl) trivial (by kernel_rfl) (by kernel_rfl) rfl f70_sum
def f54_L9_g (y : ((List D51) × Int × D51 × (List D51) × Int × Int × (List D48) × Unit)) (x : (Int × Unit)) : Bool :=
  let a4 := y.2.2.1
  let a26 := y.2.2.2.2.2.2.1
  let a27 := x.1
  let v28 := (decide (a27 < (3 : Int)))
  let v30 := (nth a26 a27 Z48)
  let v32 := (f69 v30)
  let v37 := (f70 a4.1)
  let v38 := (decide (a27 ≥ v37))
  let s := ((0 : Int), (0 : Int), ())
  let v42 := (!(Ty.eqb T48 v30 s))
  let v43 := (bif v38 then v42 else false)
  let v44 := (bif v32 then true else v43)
  let c := (v28 && (!v44))
  c
def f54_L9_next (y : ((List D51) × Int × D51 × (List D51) × Int × Int × (List D48) × Unit)) (x : (Int × Unit)) : (Int × Unit) :=
  let a27 := x.1
  let v45 := (a27 + (1 : Int))
  (v45, ())
def f54_L9_ok (y : ((List D51) × Int × D51 × (List D51) × Int × Int × (List D48) × Unit)) (x : (Int × Unit)) : Prop :=
  let a4 := y.2.2.1
  let a26 := y.2.2.2.2.2.2.1
  let a27 := x.1
  let v28 := (decide (a27 < (3 : Int)))
  let v30 := (nth a26 a27 Z48)
  let v32 := (f69 v30)
  let g33_3 := (!v32)
  let v37 := (f70 a4.1)
  let v38 := (decide (a27 ≥ v37))
  let s := ((0 : Int), (0 : Int), ())
  let v42 := (!(Ty.eqb T48 v30 s))
  let v43 := (bif v38 then v42 else false)
  let v44 := (bif v32 then true else v43)
  (v28 = true → (InB a27 3 ∧ ((f69_ok v30) ∧ ((g33_3 = true → (f70_ok a4.1)) ∧ ((!v44) = true → InR (a27 + (1 : Int)))))))
instance (y : ((List D51) × Int × D51 × (List D51) × Int × Int × (List D48) × Unit)) (x : (Int × Unit)) : Decidable (f54_L9_ok y x) := by
  unfold f54_L9_ok
  try dsimp only
  infer_instance
def f54_L9_x1 (y : ((List D51) × Int × D51 × (List D51) × Int × Int × (List D48) × Unit)) (x : (Int × Unit)) : (Int × Unit) :=
  ((2 : Int), ())
def f54_L9_x1_0 (y : ((List D51) × Int × D51 × (List D51) × Int × Int × (List D48) × Unit)) (x : (Int × Unit)) : Int := (f54_L9_x1 y x).1
def f54_L9_e1 (y : ((List D51) × Int × D51 × (List D51) × Int × Int × (List D48) × Unit)) (x : (Int × Unit)) : Bool :=
  let a4 := y.2.2.1
  let a26 := y.2.2.2.2.2.2.1
  let a27 := x.1
  let v28 := (decide (a27 < (3 : Int)))
  let v30 := (nth a26 a27 Z48)
  let v32 := (f69 v30)
  let v37 := (f70 a4.1)
  let v38 := (decide (a27 ≥ v37))
  let s := ((0 : Int), (0 : Int), ())
  let v42 := (!(Ty.eqb T48 v30 s))
  let v43 := (bif v38 then v42 else false)
  let v44 := (bif v32 then true else v43)
  let c_1 := (v28 && v44)
  c_1
def f54_L9_x4 (y : ((List D51) × Int × D51 × (List D51) × Int × Int × (List D48) × Unit)) (x : (Int × Unit)) : (Unit) :=
  ()
def f54_L9_e4 (y : ((List D51) × Int × D51 × (List D51) × Int × Int × (List D48) × Unit)) (x : (Int × Unit)) : Bool :=
  let a27 := x.1
  let v28 := (decide (a27 < (3 : Int)))
  (!v28)
def f54_L9_ly : List (Nat × Sh) := [(0, (.val (.sl T51))), (3, (.val (.int .i64))), (4, (.box T51 (.val T51))), (10, (.val (.sl T51))), (11, (.val (.int .i64))), (12, (.val (.int .i64))), (26, (.val (.arr 3 T48)))]
def f54_L9_lx : List (Nat × Sh) := [(27, (.val (.int .i64)))]
def f54_L9_les : List (List (Nat × Sh)) := [[(2, (.val (.int .i64)))], [(0, (.val (.sl T51))), (3, (.val (.int .i64))), (4, (.box T51 (.val T51))), (10, (.val (.sl T51))), (11, (.val (.int .i64))), (12, (.val (.int .i64)))]]
def f54_L9_es (y : denL f54_L9_ly) (x : denL f54_L9_lx) : List Comp := [⟨1, some (f54_L9_e1 y x), mkSt [(2, (.val (.int .i64)))] ((f54_L9_x1_0 y x), ()) ++ cutSt⟩, ⟨4, some (f54_L9_e4 y x), mkSt [(0, (.val (.sl T51))), (3, (.val (.int .i64))), (4, (.box T51 (.val T51))), (10, (.val (.sl T51))), (11, (.val (.int .i64))), (12, (.val (.int .i64)))] (y.1, y.2.1, y.2.2.1, y.2.2.2.1, y.2.2.2.2.1, y.2.2.2.2.2.1, ()) ++ cutSt⟩]
def f54_L9_spec : St → Option Out := loopS f54_L9_ly f54_L9_lx f54_L9_g f54_L9_next f54_L9_ok f54_L9_es
def f54_L4_g (y : ((List D51) × (List D51) × Int × Unit)) (x : (Int × Unit)) : Bool :=
  let a0 := y.1
  let a10 := y.2.1
  let a11 := y.2.2.1
  let a12 := x.1
  let v13 := (decide (a12 < a11))
  let v15 := (nth a10 a12 Z51)
  let v19 := (decide (v15.1 < (1 : Int)))
  let v23 := (decide (v15.1 > (5 : Int)))
  let v24 := (bif v19 then true else v23)
  let y9 := (a0, a12, v15, a10, a11, a12, v15.2.1, ())
  let x9 := ((0 : Int), ())
  let e9 := (loopEnd (f54_L9_g y9) (f54_L9_next y9) x9)
  let q9_4 := (f54_L9_e4 y9 e9)
  let v48 := (v15.1 != (1 : Int))
  let v51 := (a12 == (0 : Int))
  let v55 := (a12 - (1 : Int))
  let v56 := (nth a0 v55 Z51)
  let v59 := (v56.1 == (5 : Int))
  let v60 := (bif v51 then true else v59)
  let v61 := (bif v48 then v60 else false)
  let c_2 := (q9_4 && (!v61))
  let c_5 := ((!v24) && c_2)
  let c_6 := (v13 && c_5)
  c_6
def f54_L4_next (y : ((List D51) × (List D51) × Int × Unit)) (x : (Int × Unit)) : (Int × Unit) :=
  let a12 := x.1
  let v62 := (a12 + (1 : Int))
  (v62, ())
def f54_L4_ok (y : ((List D51) × (List D51) × Int × Unit)) (x : (Int × Unit)) : Prop :=
  let a0 := y.1
  let a10 := y.2.1
  let a11 := y.2.2.1
  let a12 := x.1
  let v13 := (decide (a12 < a11))
  let v15 := (nth a10 a12 Z51)
  let v19 := (decide (v15.1 < (1 : Int)))
  let v23 := (decide (v15.1 > (5 : Int)))
  let v24 := (bif v19 then true else v23)
  let y9 := (a0, a12, v15, a10, a11, a12, v15.2.1, ())
  let x9 := ((0 : Int), ())
  let e9 := (loopEnd (f54_L9_g y9) (f54_L9_next y9) x9)
  let q9_4 := (f54_L9_e4 y9 e9)
  let v48 := (v15.1 != (1 : Int))
  let v51 := (a12 == (0 : Int))
  let g52_2 := (v48 && (!v51))
  let v55 := (a12 - (1 : Int))
  let g52_3 := (v48 && (!v51))
  let v56 := (nth a0 v55 Z51)
  let v59 := (v56.1 == (5 : Int))
  let v60 := (bif v51 then true else v59)
  let v61 := (bif v48 then v60 else false)
  let c_2 := (q9_4 && (!v61))
  let c_5 := ((!v24) && c_2)
  (v13 = true → (InB a12 (len a10) ∧ (((!v24) = true → ((Am.Ends (f54_L9_g y9) (f54_L9_next y9) (f54_L9_ok y9) x9) ∧ (q9_4 = true → ((g52_2 = true → InR (a12 - (1 : Int))) ∧ (g52_3 = true → InB v55 (len a0)))))) ∧ (c_5 = true → InR (a12 + (1 : Int))))))
instance (y : ((List D51) × (List D51) × Int × Unit)) (x : (Int × Unit)) : Decidable (f54_L4_ok y x) := by
  unfold f54_L4_ok
  try dsimp only
  infer_instance
def f54_L4_x1 (y : ((List D51) × (List D51) × Int × Unit)) (x : (Int × Unit)) : (Int × Unit) :=
  let a0 := y.1
  let a10 := y.2.1
  let a11 := y.2.2.1
  let a12 := x.1
  let v15 := (nth a10 a12 Z51)
  let v19 := (decide (v15.1 < (1 : Int)))
  let v23 := (decide (v15.1 > (5 : Int)))
  let v24 := (bif v19 then true else v23)
  let y9 := (a0, a12, v15, a10, a11, a12, v15.2.1, ())
  let x9 := ((0 : Int), ())
  let e9 := (loopEnd (f54_L9_g y9) (f54_L9_next y9) x9)
  let r9_1_0 := (f54_L9_x1_0 y9 e9)
  let q9_1 := (f54_L9_e1 y9 e9)
  let m2 := (bif q9_1 then r9_1_0 else (24 : Int))
  let m2_1 := (bif v24 then (8 : Int) else m2)
  (m2_1, ())
def f54_L4_x1_0 (y : ((List D51) × (List D51) × Int × Unit)) (x : (Int × Unit)) : Int := (f54_L4_x1 y x).1
def f54_L4_e1 (y : ((List D51) × (List D51) × Int × Unit)) (x : (Int × Unit)) : Bool :=
  let a0 := y.1
  let a10 := y.2.1
  let a11 := y.2.2.1
  let a12 := x.1
  let v13 := (decide (a12 < a11))
  let v15 := (nth a10 a12 Z51)
  let v19 := (decide (v15.1 < (1 : Int)))
  let v23 := (decide (v15.1 > (5 : Int)))
  let v24 := (bif v19 then true else v23)
  let y9 := (a0, a12, v15, a10, a11, a12, v15.2.1, ())
  let x9 := ((0 : Int), ())
  let e9 := (loopEnd (f54_L9_g y9) (f54_L9_next y9) x9)
  let q9_1 := (f54_L9_e1 y9 e9)
  let q9_4 := (f54_L9_e4 y9 e9)
  let v48 := (v15.1 != (1 : Int))
  let v51 := (a12 == (0 : Int))
  let v55 := (a12 - (1 : Int))
  let v56 := (nth a0 v55 Z51)
  let v59 := (v56.1 == (5 : Int))
  let v60 := (bif v51 then true else v59)
  let v61 := (bif v48 then v60 else false)
  let c := (q9_4 && v61)
  let c_1 := (q9_1 || c)
  let c_3 := ((!v24) && c_1)
  let c_4 := (v24 || c_3)
  let c_7 := (v13 && c_4)
  c_7
def f54_L4_x2 (y : ((List D51) × (List D51) × Int × Unit)) (x : (Int × Unit)) : (Unit) :=
  ()
def f54_L4_e2 (y : ((List D51) × (List D51) × Int × Unit)) (x : (Int × Unit)) : Bool :=
  let a11 := y.2.2.1
  let a12 := x.1
  let v13 := (decide (a12 < a11))
  (!v13)
def f54_L4_ly : List (Nat × Sh) := [(0, (.val (.sl T51))), (10, (.val (.sl T51))), (11, (.val (.int .i64)))]
def f54_L4_lx : List (Nat × Sh) := [(12, (.val (.int .i64)))]
def f54_L4_les : List (List (Nat × Sh)) := [[(2, (.val (.int .i64)))], []]
def f54_L4_es (y : denL f54_L4_ly) (x : denL f54_L4_lx) : List Comp := [⟨1, some (f54_L4_e1 y x), mkSt [(2, (.val (.int .i64)))] ((f54_L4_x1_0 y x), ()) ++ cutSt⟩, ⟨2, some (f54_L4_e2 y x), mkSt [] () ++ cutSt⟩]
def f54_L4_spec : St → Option Out := loopS f54_L4_ly f54_L4_lx f54_L4_g f54_L4_next f54_L4_ok f54_L4_es
def f54 (p0 : (List D51)) : Int :=
  let v8 := (len p0)
  let v9 := (decide (v8 > (128 : Int)))
  let v11 := (len p0)
  let y4 := (p0, p0, v11, ())
  let x4 := ((0 : Int), ())
  let e4 := (loopEnd (f54_L4_g y4) (f54_L4_next y4) x4)
  let r4_1_0 := (f54_L4_x1_0 y4 e4)
  let q4_1 := (f54_L4_e1 y4 e4)
  let m2 := (bif q4_1 then r4_1_0 else (0 : Int))
  let m2_1 := (bif v9 then (3 : Int) else m2)
  m2_1
def f54_ok (p0 : (List D51)) : Prop :=
  let v8 := (len p0)
  let v9 := (decide (v8 > (128 : Int)))
  let v11 := (len p0)
  let y4 := (p0, p0, v11, ())
  let x4 := ((0 : Int), ())
  ((!v9) = true → (Am.Ends (f54_L4_g y4) (f54_L4_next y4) (f54_L4_ok y4) x4))
instance (p0 : (List D51)) : Decidable (f54_ok p0) := by
  unfold f54_ok
  try dsimp only
  infer_instance
def f54_ps : List (Nat × Sh) := [(0, (.val (.sl T51)))]
def f54_rs : Sh := (.val (.int .i64))
def f54_os : List (Nat × Sh) := []
def f54_spec : Am.Spec := fnSpec f54_ps f54_rs f54_os (fun x => f54_ok x.1) (fun x => f54 x.1) (fun _ => ())
def f54_ctx : Ctx := { tys := tys, fns := [(69, f69_spec), (70, f70_spec)], loops := [(9, f54_L9_spec), (4, f54_L4_spec)], gh := [], wrap := false, n := 63, keep := [], wr := [] }
theorem f54_cok : CtxOk Tryd.prog f54_ctx := ctxOk_mk tys_ok ⟨f69_is, f70_is, trivial⟩ rfl (by kernel_rfl)
noncomputable def f54_code : Code := Tryd.f54.body.getD .skip
noncomputable def f54_L4 : Code := nthLoop f54_code 0
noncomputable def f54_L9 : Code := nthLoop f54_L4 0
theorem f54_L9_sum : ∀ y x, sumLoop f54_ctx f54_L9 f54_L9_ly f54_L9_lx f54_L9_les y x = some (f54_L9_ok y x, f54_L9_g y x, y, f54_L9_next y x, f54_L9_es y x) := fun y x => by kernel_rfl
theorem f54_L9_is : LoopSnd Tryd.prog f54_ctx f54_L9 := loop_gen f54_cok mixed (bs := []) (by kernel_rfl) trivial (by kernel_rfl) (by kernel_rfl) f54_L9_sum
theorem f54_L4_sum : ∀ y x, sumLoop f54_ctx f54_L4 f54_L4_ly f54_L4_lx f54_L4_les y x = some (f54_L4_ok y x, f54_L4_g y x, y, f54_L4_next y x, f54_L4_es y x) := fun y x => by kernel_rfl
theorem f54_L4_is : LoopSnd Tryd.prog f54_ctx f54_L4 := loop_gen f54_cok mixed (bs := [f54_L9]) (by kernel_rfl) ⟨f54_L9_is, trivial⟩ (by kernel_rfl) (by kernel_rfl) f54_L4_sum
theorem f54_sum : ∀ x, sumFn f54_ctx f54_code Tryd.f54.results.toList f54_ps f54_rs f54_os x = some (f54_ok x.1, f54 x.1, ()) := fun x => by kernel_rfl
theorem f54_is : SpecOk Tryd.prog 54 f54_spec := func_gen f54_cok mixed Tryd.func54 (by kernel_rfl) (by decide) rfl (bs := [f54_L4]) (by kernel_rfl) ⟨f54_L4_is, trivial⟩ (by kernel_rfl) (by kernel_rfl) rfl f54_sum
def f28_L10_g (y : ((List D51) × Int × Int × (List D48) × Unit)) (x : (Int × Unit)) : Bool :=
  let a26 := y.2.2.2.1
  let a27 := x.1
  let v28 := (decide (a27 < (3 : Int)))
  let v29 := (nth a26 a27 Z48)
  let v32 := (f27 v29.1 (-65536 : Int) (65536 : Int))
  let v33 := (!v32)
  let v37 := (f27 v29.2.1 (-65536 : Int) (65536 : Int))
  let v38 := (!v37)
  let v39 := (bif v33 then true else v38)
  let c := (v28 && (!v39))
  c
def f28_L10_next (y : ((List D51) × Int × Int × (List D48) × Unit)) (x : (Int × Unit)) : (Int × Unit) :=
  let a27 := x.1
  let v40 := (a27 + (1 : Int))
  (v40, ())
def f28_L10_ok (y : ((List D51) × Int × Int × (List D48) × Unit)) (x : (Int × Unit)) : Prop :=
  let a26 := y.2.2.2.1
  let a27 := x.1
  let v28 := (decide (a27 < (3 : Int)))
  let v29 := (nth a26 a27 Z48)
  let v32 := (f27 v29.1 (-65536 : Int) (65536 : Int))
  let v33 := (!v32)
  let g34_2 := (!v33)
  let v37 := (f27 v29.2.1 (-65536 : Int) (65536 : Int))
  let v38 := (!v37)
  let v39 := (bif v33 then true else v38)
  (v28 = true → (InB a27 3 ∧ ((f27_ok v29.1 (-65536 : Int) (65536 : Int)) ∧ ((g34_2 = true → (f27_ok v29.2.1 (-65536 : Int) (65536 : Int))) ∧ ((!v39) = true → InR (a27 + (1 : Int)))))))
instance (y : ((List D51) × Int × Int × (List D48) × Unit)) (x : (Int × Unit)) : Decidable (f28_L10_ok y x) := by
  unfold f28_L10_ok
  try dsimp only
  infer_instance
def f28_L10_x1 (y : ((List D51) × Int × Int × (List D48) × Unit)) (x : (Int × Unit)) : (Int × Unit) :=
  ((2 : Int), ())
def f28_L10_x1_0 (y : ((List D51) × Int × Int × (List D48) × Unit)) (x : (Int × Unit)) : Int := (f28_L10_x1 y x).1
def f28_L10_e1 (y : ((List D51) × Int × Int × (List D48) × Unit)) (x : (Int × Unit)) : Bool :=
  let a26 := y.2.2.2.1
  let a27 := x.1
  let v28 := (decide (a27 < (3 : Int)))
  let v29 := (nth a26 a27 Z48)
  let v32 := (f27 v29.1 (-65536 : Int) (65536 : Int))
  let v33 := (!v32)
  let v37 := (f27 v29.2.1 (-65536 : Int) (65536 : Int))
  let v38 := (!v37)
  let v39 := (bif v33 then true else v38)
  let c_1 := (v28 && v39)
  c_1
def f28_L10_x4 (y : ((List D51) × Int × Int × (List D48) × Unit)) (x : (Int × Unit)) : (Unit) :=
  ()
def f28_L10_e4 (y : ((List D51) × Int × Int × (List D48) × Unit)) (x : (Int × Unit)) : Bool :=
  let a27 := x.1
  let v28 := (decide (a27 < (3 : Int)))
  (!v28)
def f28_L10_ly : List (Nat × Sh) := [(19, (.val (.sl T51))), (20, (.val (.int .i64))), (21, (.val (.int .i64))), (26, (.val (.arr 3 T48)))]
def f28_L10_lx : List (Nat × Sh) := [(27, (.val (.int .i64)))]
def f28_L10_les : List (List (Nat × Sh)) := [[(2, (.val (.int .i64)))], [(19, (.val (.sl T51))), (20, (.val (.int .i64))), (21, (.val (.int .i64)))]]
def f28_L10_es (y : denL f28_L10_ly) (x : denL f28_L10_lx) : List Comp := [⟨1, some (f28_L10_e1 y x), mkSt [(2, (.val (.int .i64)))] ((f28_L10_x1_0 y x), ()) ++ cutSt⟩, ⟨4, some (f28_L10_e4 y x), mkSt [(19, (.val (.sl T51))), (20, (.val (.int .i64))), (21, (.val (.int .i64)))] (y.1, y.2.1, y.2.2.1, ()) ++ cutSt⟩]
def f28_L10_spec : St → Option Out := loopS f28_L10_ly f28_L10_lx f28_L10_g f28_L10_next f28_L10_ok f28_L10_es
def f28_L7_g (y : ((List D51) × Int × Unit)) (x : (Int × Unit)) : Bool :=
  let a19 := y.1
  let a20 := y.2.1
  let a21 := x.1
  let v22 := (decide (a21 < a20))
  let v23 := (nth a19 a21 Z51)
  let y10 := (a19, a20, a21, v23.2.1, ())
  let x10 := ((0 : Int), ())
  let e10 := (loopEnd (f28_L10_g y10) (f28_L10_next y10) x10)
  let q10_4 := (f28_L10_e4 y10 e10)
  let c := (v22 && q10_4)
  c
def f28_L7_next (y : ((List D51) × Int × Unit)) (x : (Int × Unit)) : (Int × Unit) :=
  let a21 := x.1
  let v41 := (a21 + (1 : Int))
  (v41, ())
def f28_L7_ok (y : ((List D51) × Int × Unit)) (x : (Int × Unit)) : Prop :=
  let a19 := y.1
  let a20 := y.2.1
  let a21 := x.1
  let v22 := (decide (a21 < a20))
  let v23 := (nth a19 a21 Z51)
  let y10 := (a19, a20, a21, v23.2.1, ())
  let x10 := ((0 : Int), ())
  let e10 := (loopEnd (f28_L10_g y10) (f28_L10_next y10) x10)
  let q10_4 := (f28_L10_e4 y10 e10)
  (v22 = true → (InB a21 (len a19) ∧ ((Am.Ends (f28_L10_g y10) (f28_L10_next y10) (f28_L10_ok y10) x10) ∧ (q10_4 = true → InR (a21 + (1 : Int))))))
instance (y : ((List D51) × Int × Unit)) (x : (Int × Unit)) : Decidable (f28_L7_ok y x) := by
  unfold f28_L7_ok
  try dsimp only
  infer_instance
def f28_L7_x1 (y : ((List D51) × Int × Unit)) (x : (Int × Unit)) : (Int × Unit) :=
  let a19 := y.1
  let a20 := y.2.1
  let a21 := x.1
  let v23 := (nth a19 a21 Z51)
  let y10 := (a19, a20, a21, v23.2.1, ())
  let x10 := ((0 : Int), ())
  let e10 := (loopEnd (f28_L10_g y10) (f28_L10_next y10) x10)
  let r10_1_0 := (f28_L10_x1_0 y10 e10)
  (r10_1_0, ())
def f28_L7_x1_0 (y : ((List D51) × Int × Unit)) (x : (Int × Unit)) : Int := (f28_L7_x1 y x).1
def f28_L7_e1 (y : ((List D51) × Int × Unit)) (x : (Int × Unit)) : Bool :=
  let a19 := y.1
  let a20 := y.2.1
  let a21 := x.1
  let v22 := (decide (a21 < a20))
  let v23 := (nth a19 a21 Z51)
  let y10 := (a19, a20, a21, v23.2.1, ())
  let x10 := ((0 : Int), ())
  let e10 := (loopEnd (f28_L10_g y10) (f28_L10_next y10) x10)
  let q10_1 := (f28_L10_e1 y10 e10)
  let c_1 := (v22 && q10_1)
  c_1
def f28_L7_x2 (y : ((List D51) × Int × Unit)) (x : (Int × Unit)) : (Unit) :=
  ()
def f28_L7_e2 (y : ((List D51) × Int × Unit)) (x : (Int × Unit)) : Bool :=
  let a20 := y.2.1
  let a21 := x.1
  let v22 := (decide (a21 < a20))
  (!v22)
def f28_L7_ly : List (Nat × Sh) := [(19, (.val (.sl T51))), (20, (.val (.int .i64)))]
def f28_L7_lx : List (Nat × Sh) := [(21, (.val (.int .i64)))]
def f28_L7_les : List (List (Nat × Sh)) := [[(2, (.val (.int .i64)))], []]
def f28_L7_es (y : denL f28_L7_ly) (x : denL f28_L7_lx) : List Comp := [⟨1, some (f28_L7_e1 y x), mkSt [(2, (.val (.int .i64)))] ((f28_L7_x1_0 y x), ()) ++ cutSt⟩, ⟨2, some (f28_L7_e2 y x), mkSt [] () ++ cutSt⟩]
def f28_L7_spec : St → Option Out := loopS f28_L7_ly f28_L7_lx f28_L7_g f28_L7_next f28_L7_ok f28_L7_es
def f28 (p0 : D46) : Int :=
  let v10 := (f27 p0.2.1 (0 : Int) (65536 : Int))
  let v11 := (!v10)
  let v14 := (f54 p0.2.2.1)
  let v16 := (v14 != (0 : Int))
  let v20 := (len p0.2.2.1)
  let y7 := (p0.2.2.1, v20, ())
  let x7 := ((0 : Int), ())
  let e7 := (loopEnd (f28_L7_g y7) (f28_L7_next y7) x7)
  let r7_1_0 := (f28_L7_x1_0 y7 e7)
  let q7_1 := (f28_L7_e1 y7 e7)
  let m2 := (bif q7_1 then r7_1_0 else (0 : Int))
  let m2_1 := (bif v16 then v14 else m2)
  let m2_2 := (bif v11 then (2 : Int) else m2_1)
  m2_2
def f28_ok (p0 : D46) : Prop :=
  let v10 := (f27 p0.2.1 (0 : Int) (65536 : Int))
  let v11 := (!v10)
  let v14 := (f54 p0.2.2.1)
  let v16 := (v14 != (0 : Int))
  let v20 := (len p0.2.2.1)
  let y7 := (p0.2.2.1, v20, ())
  let x7 := ((0 : Int), ())
  ((f27_ok p0.2.1 (0 : Int) (65536 : Int)) ∧ ((!v11) = true → ((f54_ok p0.2.2.1) ∧ ((!v16) = true → (Am.Ends (f28_L7_g y7) (f28_L7_next y7) (f28_L7_ok y7) x7)))))
instance (p0 : D46) : Decidable (f28_ok p0) := by
  unfold f28_ok
  try dsimp only
  infer_instance
def f28_ps : List (Nat × Sh) := [(0, (.val T46))]
def f28_rs : Sh := (.val (.int .i64))
def f28_os : List (Nat × Sh) := []
def f28_spec : Am.Spec := fnSpec f28_ps f28_rs f28_os (fun x => f28_ok x.1) (fun x => f28 x.1) (fun _ => ())
def f28_ctx : Ctx := { tys := tys, fns := [(27, f27_spec), (54, f54_spec)], loops := [(10, f28_L10_spec), (7, f28_L7_spec)], gh := [], wrap := false, n := 42, keep := [], wr := [] }
theorem f28_cok : CtxOk Tryd.prog f28_ctx := ctxOk_mk tys_ok ⟨f27_is, f54_is, trivial⟩ rfl (by kernel_rfl)
noncomputable def f28_code : Code := Tryd.f28.body.getD .skip
noncomputable def f28_L7 : Code := nthLoop f28_code 0
noncomputable def f28_L10 : Code := nthLoop f28_L7 0
theorem f28_L10_sum : ∀ y x, sumLoop f28_ctx f28_L10 f28_L10_ly f28_L10_lx f28_L10_les y x = some (f28_L10_ok y x, f28_L10_g y x, y, f28_L10_next y x, f28_L10_es y x) := fun y x => by kernel_rfl
theorem f28_L10_is : LoopSnd Tryd.prog f28_ctx f28_L10 := loop_gen f28_cok mixed (bs := []) (by kernel_rfl) trivial (by kernel_rfl) (by kernel_rfl) f28_L10_sum
theorem f28_L7_sum : ∀ y x, sumLoop f28_ctx f28_L7 f28_L7_ly f28_L7_lx f28_L7_les y x = some (f28_L7_ok y x, f28_L7_g y x, y, f28_L7_next y x, f28_L7_es y x) := fun y x => by kernel_rfl
theorem f28_L7_is : LoopSnd Tryd.prog f28_ctx f28_L7 := loop_gen f28_cok mixed (bs := [f28_L10]) (by kernel_rfl) ⟨f28_L10_is, trivial⟩ (by kernel_rfl) (by kernel_rfl) f28_L7_sum
theorem f28_sum : ∀ x, sumFn f28_ctx f28_code Tryd.f28.results.toList f28_ps f28_rs f28_os x = some (f28_ok x.1, f28 x.1, ()) := fun x => by kernel_rfl
theorem f28_is : SpecOk Tryd.prog 28 f28_spec := func_gen f28_cok mixed Tryd.func28 (by kernel_rfl) (by decide) rfl (bs := [f28_L7]) (by kernel_rfl) ⟨f28_L7_is, trivial⟩ (by kernel_rfl) (by kernel_rfl) rfl f28_sum
def f29 (p0 : D43) (p1 : D43) : Bool :=
  let v9 := (decide (p0.1 > p1.1))
  let v15 := (p0.1 == p1.1)
  let v21 := (decide (p0.2.1 > p1.2.1))
  let v22 := (bif v15 then v21 else false)
  let v23 := (bif v9 then true else v22)
  v23
def f29_ok (p0 : D43) (p1 : D43) : Prop :=
  True
instance (p0 : D43) (p1 : D43) : Decidable (f29_ok p0 p1) := by
  unfold f29_ok
  try dsimp only
  infer_instance
def f29_ps : List (Nat × Sh) := [(0, (.val T43)), (1, (.val T43))]
def f29_rs : Sh := (.val .bool)
def f29_os : List (Nat × Sh) := []
def f29_spec : Am.Spec := fnSpec f29_ps f29_rs f29_os (fun x => f29_ok x.1 x.2.1) (fun x => f29 x.1 x.2.1) (fun _ => ())
def f29_ctx : Ctx := { tys := tys, fns := [], loops := [], gh := [], wrap := false, n := 24, keep := [], wr := [] }
theorem f29_cok : CtxOk Tryd.prog f29_ctx := ctxOk_mk tys_ok trivial rfl (by kernel_rfl)
noncomputable def f29_code : Code := Tryd.f29.body.getD .skip
theorem f29_sum : ∀ x, sumFn f29_ctx f29_code Tryd.f29.results.toList f29_ps f29_rs f29_os x = some (f29_ok x.1 x.2.1, f29 x.1 x.2.1, ()) := fun x => by kernel_rfl
theorem f29_is : SpecOk Tryd.prog 29 f29_spec := func_gen f29_cok mixed Tryd.func29 (by kernel_rfl) (by decide) rfl (bs := []) (by kernel_rfl) trivial (by kernel_rfl) (by kernel_rfl) rfl f29_sum
def f12_L6_g (y : (D25 × (List D46) × Int × Unit)) (x : (Int × Unit)) : Bool :=
  let a1 := y.1
  let a35 := y.2.1
  let a36 := y.2.2.1
  let a37 := x.1
  let v38 := (decide (a37 < a36))
  let v40 := (nth a35 a37 Z46)
  let v43 := (decide (a37 > (0 : Int)))
  let v50 := (a37 - (1 : Int))
  let v51 := (nth a1.2.2.2.1 v50 Z46)
  let v54 := (decide (v40.1 ≤ v51.1))
  let v55 := (bif v43 then v54 else false)
  let v57 := (f28 v40)
  let v59 := (v57 != (0 : Int))
  let c_2 := ((!v55) && (!v59))
  let c_3 := (v38 && c_2)
  c_3
def f12_L6_next (y : (D25 × (List D46) × Int × Unit)) (x : (Int × Unit)) : (Int × Unit) :=
  let a37 := x.1
  let v61 := (a37 + (1 : Int))
  (v61, ())
def f12_L6_ok (y : (D25 × (List D46) × Int × Unit)) (x : (Int × Unit)) : Prop :=
  let a1 := y.1
  let a35 := y.2.1
  let a36 := y.2.2.1
  let a37 := x.1
  let v38 := (decide (a37 < a36))
  let v40 := (nth a35 a37 Z46)
  let v43 := (decide (a37 > (0 : Int)))
  let v50 := (a37 - (1 : Int))
  let v51 := (nth a1.2.2.2.1 v50 Z46)
  let v54 := (decide (v40.1 ≤ v51.1))
  let v55 := (bif v43 then v54 else false)
  let v57 := (f28 v40)
  let v59 := (v57 != (0 : Int))
  let c_2 := ((!v55) && (!v59))
  (v38 = true → (InB a37 (len a35) ∧ ((v43 = true → InR (a37 - (1 : Int))) ∧ ((v43 = true → InB v50 (len a1.2.2.2.1)) ∧ (((!v55) = true → (f28_ok v40)) ∧ (c_2 = true → InR (a37 + (1 : Int))))))))
instance (y : (D25 × (List D46) × Int × Unit)) (x : (Int × Unit)) : Decidable (f12_L6_ok y x) := by
  unfold f12_L6_ok
  try dsimp only
  infer_instance
def f12_L6_x1 (y : (D25 × (List D46) × Int × Unit)) (x : (Int × Unit)) : (Int × Unit) :=
  let a1 := y.1
  let a35 := y.2.1
  let a37 := x.1
  let v40 := (nth a35 a37 Z46)
  let v43 := (decide (a37 > (0 : Int)))
  let v50 := (a37 - (1 : Int))
  let v51 := (nth a1.2.2.2.1 v50 Z46)
  let v54 := (decide (v40.1 ≤ v51.1))
  let v55 := (bif v43 then v54 else false)
  let v57 := (f28 v40)
  let m2 := (bif v55 then (24 : Int) else v57)
  (m2, ())
def f12_L6_x1_0 (y : (D25 × (List D46) × Int × Unit)) (x : (Int × Unit)) : Int := (f12_L6_x1 y x).1
def f12_L6_e1 (y : (D25 × (List D46) × Int × Unit)) (x : (Int × Unit)) : Bool :=
  let a1 := y.1
  let a35 := y.2.1
  let a36 := y.2.2.1
  let a37 := x.1
  let v38 := (decide (a37 < a36))
  let v40 := (nth a35 a37 Z46)
  let v43 := (decide (a37 > (0 : Int)))
  let v50 := (a37 - (1 : Int))
  let v51 := (nth a1.2.2.2.1 v50 Z46)
  let v54 := (decide (v40.1 ≤ v51.1))
  let v55 := (bif v43 then v54 else false)
  let v57 := (f28 v40)
  let v59 := (v57 != (0 : Int))
  let c := ((!v55) && v59)
  let c_1 := (v55 || c)
  let c_4 := (v38 && c_1)
  c_4
def f12_L6_x2 (y : (D25 × (List D46) × Int × Unit)) (x : (Int × Unit)) : (Unit) :=
  ()
def f12_L6_e2 (y : (D25 × (List D46) × Int × Unit)) (x : (Int × Unit)) : Bool :=
  let a36 := y.2.2.1
  let a37 := x.1
  let v38 := (decide (a37 < a36))
  (!v38)
def f12_L6_ly : List (Nat × Sh) := [(1, (.box T25 (.val T25))), (35, (.val (.sl T46))), (36, (.val (.int .i64)))]
def f12_L6_lx : List (Nat × Sh) := [(37, (.val (.int .i64)))]
def f12_L6_les : List (List (Nat × Sh)) := [[(2, (.val (.int .i64)))], [(1, (.box T25 (.val T25)))]]
def f12_L6_es (y : denL f12_L6_ly) (x : denL f12_L6_lx) : List Comp := [⟨1, some (f12_L6_e1 y x), mkSt [(2, (.val (.int .i64)))] ((f12_L6_x1_0 y x), ()) ++ cutSt⟩, ⟨2, some (f12_L6_e2 y x), mkSt [(1, (.box T25 (.val T25)))] (y.1, ()) ++ cutSt⟩]
def f12_L6_spec : St → Option Out := loopS f12_L6_ly f12_L6_lx f12_L6_g f12_L6_next f12_L6_ok f12_L6_es
def f12_L15_g (y : (D25 × (List D43) × Int × Unit)) (x : (Int × Unit)) : Bool :=
  let a1 := y.1
  let a63 := y.2.1
  let a64 := y.2.2.1
  let a65 := x.1
  let v66 := (decide (a65 < a64))
  let v68 := (nth a63 a65 Z43)
  let v71 := (decide (a65 > (0 : Int)))
  let v77 := (a65 - (1 : Int))
  let v78 := (nth a1.2.2.2.2.1 v77 Z43)
  let v80 := (f29 v68 v78)
  let v81 := (!v80)
  let v82 := (bif v71 then v81 else false)
  let v85 := (f27 v68.2.2.1 (-65536 : Int) (65536 : Int))
  let v86 := (!v85)
  let c_2 := ((!v82) && (!v86))
  let c_3 := (v66 && c_2)
  c_3
def f12_L15_next (y : (D25 × (List D43) × Int × Unit)) (x : (Int × Unit)) : (Int × Unit) :=
  let a65 := x.1
  let v87 := (a65 + (1 : Int))
  (v87, ())
def f12_L15_ok (y : (D25 × (List D43) × Int × Unit)) (x : (Int × Unit)) : Prop :=
  let a1 := y.1
  let a63 := y.2.1
  let a64 := y.2.2.1
  let a65 := x.1
  let v66 := (decide (a65 < a64))
  let v68 := (nth a63 a65 Z43)
  let v71 := (decide (a65 > (0 : Int)))
  let v77 := (a65 - (1 : Int))
  let v78 := (nth a1.2.2.2.2.1 v77 Z43)
  let v80 := (f29 v68 v78)
  let v81 := (!v80)
  let v82 := (bif v71 then v81 else false)
  let v85 := (f27 v68.2.2.1 (-65536 : Int) (65536 : Int))
  let v86 := (!v85)
  let c_2 := ((!v82) && (!v86))
  (v66 = true → (InB a65 (len a63) ∧ ((v71 = true → InR (a65 - (1 : Int))) ∧ ((v71 = true → InB v77 (len a1.2.2.2.2.1)) ∧ ((v71 = true → (f29_ok v68 v78)) ∧ (((!v82) = true → (f27_ok v68.2.2.1 (-65536 : Int) (65536 : Int))) ∧ (c_2 = true → InR (a65 + (1 : Int)))))))))
instance (y : (D25 × (List D43) × Int × Unit)) (x : (Int × Unit)) : Decidable (f12_L15_ok y x) := by
  unfold f12_L15_ok
  try dsimp only
  infer_instance
def f12_L15_x1 (y : (D25 × (List D43) × Int × Unit)) (x : (Int × Unit)) : (Int × Unit) :=
  let a1 := y.1
  let a63 := y.2.1
  let a65 := x.1
  let v68 := (nth a63 a65 Z43)
  let v71 := (decide (a65 > (0 : Int)))
  let v77 := (a65 - (1 : Int))
  let v78 := (nth a1.2.2.2.2.1 v77 Z43)
  let v80 := (f29 v68 v78)
  let v81 := (!v80)
  let v82 := (bif v71 then v81 else false)
  let m2 := (bif v82 then (24 : Int) else (2 : Int))
  (m2, ())
def f12_L15_x1_0 (y : (D25 × (List D43) × Int × Unit)) (x : (Int × Unit)) : Int := (f12_L15_x1 y x).1
def f12_L15_e1 (y : (D25 × (List D43) × Int × Unit)) (x : (Int × Unit)) : Bool :=
  let a1 := y.1
  let a63 := y.2.1
  let a64 := y.2.2.1
  let a65 := x.1
  let v66 := (decide (a65 < a64))
  let v68 := (nth a63 a65 Z43)
  let v71 := (decide (a65 > (0 : Int)))
  let v77 := (a65 - (1 : Int))
  let v78 := (nth a1.2.2.2.2.1 v77 Z43)
  let v80 := (f29 v68 v78)
  let v81 := (!v80)
  let v82 := (bif v71 then v81 else false)
  let v85 := (f27 v68.2.2.1 (-65536 : Int) (65536 : Int))
  let v86 := (!v85)
  let c := ((!v82) && v86)
  let c_1 := (v82 || c)
  let c_4 := (v66 && c_1)
  c_4
def f12_L15_x4 (y : (D25 × (List D43) × Int × Unit)) (x : (Int × Unit)) : (Unit) :=
  ()
def f12_L15_e4 (y : (D25 × (List D43) × Int × Unit)) (x : (Int × Unit)) : Bool :=
  let a64 := y.2.2.1
  let a65 := x.1
  let v66 := (decide (a65 < a64))
  (!v66)
def f12_L15_ly : List (Nat × Sh) := [(1, (.box T25 (.val T25))), (63, (.val (.sl T43))), (64, (.val (.int .i64)))]
def f12_L15_lx : List (Nat × Sh) := [(65, (.val (.int .i64)))]
def f12_L15_les : List (List (Nat × Sh)) := [[(2, (.val (.int .i64)))], []]
def f12_L15_es (y : denL f12_L15_ly) (x : denL f12_L15_lx) : List Comp := [⟨1, some (f12_L15_e1 y x), mkSt [(2, (.val (.int .i64)))] ((f12_L15_x1_0 y x), ()) ++ cutSt⟩, ⟨4, some (f12_L15_e4 y x), mkSt [] () ++ cutSt⟩]
def f12_L15_spec : St → Option Out := loopS f12_L15_ly f12_L15_lx f12_L15_g f12_L15_next f12_L15_ok f12_L15_es
def f12 (p0 : D25) : Int :=
  let v10 := (f27 p0.1 (1 : Int) (65536 : Int))
  let v11 := (!v10)
  let v15 := (f27 p0.2.1 (0 : Int) (65536 : Int))
  let v16 := (!v15)
  let v17 := (bif v11 then true else v16)
  let v21 := (f27 p0.2.2.1 (0 : Int) (65536 : Int))
  let v22 := (!v21)
  let v23 := (bif v17 then true else v22)
  let v26 := (len p0.2.2.2.1)
  let v27 := (decide (v26 > (256 : Int)))
  let v31 := (len p0.2.2.2.2.1)
  let v32 := (decide (v31 > (256 : Int)))
  let v33 := (bif v27 then true else v32)
  let v36 := (len p0.2.2.2.1)
  let y6 := (p0, p0.2.2.2.1, v36, ())
  let x6 := ((0 : Int), ())
  let e6 := (loopEnd (f12_L6_g y6) (f12_L6_next y6) x6)
  let r6_1_0 := (f12_L6_x1_0 y6 e6)
  let q6_1 := (f12_L6_e1 y6 e6)
  let v64 := (len p0.2.2.2.2.1)
  let y15 := (p0, p0.2.2.2.2.1, v64, ())
  let x15 := ((0 : Int), ())
  let e15 := (loopEnd (f12_L15_g y15) (f12_L15_next y15) x15)
  let r15_1_0 := (f12_L15_x1_0 y15 e15)
  let q15_1 := (f12_L15_e1 y15 e15)
  let m2 := (bif q15_1 then r15_1_0 else (0 : Int))
  let m2_1 := (bif q6_1 then r6_1_0 else m2)
  let m2_2 := (bif v33 then (3 : Int) else m2_1)
  let m2_3 := (bif v23 then (2 : Int) else m2_2)
  m2_3
def f12_ok (p0 : D25) : Prop :=
  let v10 := (f27 p0.1 (1 : Int) (65536 : Int))
  let v11 := (!v10)
  let g12_2 := (!v11)
  let v15 := (f27 p0.2.1 (0 : Int) (65536 : Int))
  let v16 := (!v15)
  let v17 := (bif v11 then true else v16)
  let g18_2 := (!v17)
  let v21 := (f27 p0.2.2.1 (0 : Int) (65536 : Int))
  let v22 := (!v21)
  let v23 := (bif v17 then true else v22)
  let v26 := (len p0.2.2.2.1)
  let v27 := (decide (v26 > (256 : Int)))
  let v31 := (len p0.2.2.2.2.1)
  let v32 := (decide (v31 > (256 : Int)))
  let v33 := (bif v27 then true else v32)
  let v36 := (len p0.2.2.2.1)
  let y6 := (p0, p0.2.2.2.1, v36, ())
  let x6 := ((0 : Int), ())
  let e6 := (loopEnd (f12_L6_g y6) (f12_L6_next y6) x6)
  let q6_2 := (f12_L6_e2 y6 e6)
  let v64 := (len p0.2.2.2.2.1)
  let y15 := (p0, p0.2.2.2.2.1, v64, ())
  let x15 := ((0 : Int), ())
  ((f27_ok p0.1 (1 : Int) (65536 : Int)) ∧ ((g12_2 = true → (f27_ok p0.2.1 (0 : Int) (65536 : Int))) ∧ ((g18_2 = true → (f27_ok p0.2.2.1 (0 : Int) (65536 : Int))) ∧ ((!v23) = true → ((!v33) = true → ((Am.Ends (f12_L6_g y6) (f12_L6_next y6) (f12_L6_ok y6) x6) ∧ (q6_2 = true → (Am.Ends (f12_L15_g y15) (f12_L15_next y15) (f12_L15_ok y15) x15))))))))
instance (p0 : D25) : Decidable (f12_ok p0) := by
  unfold f12_ok
  try dsimp only
  infer_instance
def f12_ps : List (Nat × Sh) := [(0, (.val T25))]
def f12_rs : Sh := (.val (.int .i64))
def f12_os : List (Nat × Sh) := []
def f12_spec : Am.Spec := fnSpec f12_ps f12_rs f12_os (fun x => f12_ok x.1) (fun x => f12 x.1) (fun _ => ())
def f12_ctx : Ctx := { tys := tys, fns := [(27, f27_spec), (28, f28_spec), (29, f29_spec)], loops := [(6, f12_L6_spec), (15, f12_L15_spec)], gh := [], wrap := false, n := 88, keep := [], wr := [] }
theorem f12_cok : CtxOk Tryd.prog f12_ctx := ctxOk_mk tys_ok ⟨f27_is, f28_is, f29_is, trivial⟩ rfl (by kernel_rfl)
noncomputable def f12_code : Code := Tryd.f12.body.getD .skip
noncomputable def f12_L6 : Code := nthLoop f12_code 0
theorem f12_L6_sum : ∀ y x, sumLoop f12_ctx f12_L6 f12_L6_ly f12_L6_lx f12_L6_les y x = some (f12_L6_ok y x, f12_L6_g y x, y, f12_L6_next y x, f12_L6_es y x) := fun y x => by kernel_rfl
theorem f12_L6_is : LoopSnd Tryd.prog f12_ctx f12_L6 := loop_gen f12_cok mixed (bs := []) (by kernel_rfl) trivial (by kernel_rfl) (by kernel_rfl) f12_L6_sum
noncomputable def f12_L15 : Code := nthLoop f12_code 1
theorem f12_L15_sum : ∀ y x, sumLoop f12_ctx f12_L15 f12_L15_ly f12_L15_lx f12_L15_les y x = some (f12_L15_ok y x, f12_L15_g y x, y, f12_L15_next y x, f12_L15_es y x) := fun y x => by kernel_rfl
theorem f12_L15_is : LoopSnd Tryd.prog f12_ctx f12_L15 := loop_gen f12_cok mixed (bs := []) (by kernel_rfl) trivial (by kernel_rfl) (by kernel_rfl) f12_L15_sum
theorem f12_sum : ∀ x, sumFn f12_ctx f12_code Tryd.f12.results.toList f12_ps f12_rs f12_os x = some (f12_ok x.1, f12 x.1, ()) := fun x => by kernel_rfl
theorem f12_is : SpecOk Tryd.prog 12 f12_spec := func_gen f12_cok mixed Tryd.func12 (by kernel_rfl) (by decide) rfl (bs := [f12_L6, f12_L15]) (by kernel_rfl) ⟨f12_L6_is, f12_L15_is, trivial⟩ (by kernel_rfl) (by kernel_rfl) rfl f12_sum
def f32_L4_g (y : (D25 × Unit × (D25 × (List Int) × Unit) × (List D46) × Int × Unit)) (x : (Int × Int × Unit)) : Bool :=
  let a15 := y.2.2.2.2.1
  let a16 := x.2.1
  let v17 := (decide (a16 < a15))
  v17
def f32_L4_next (y : (D25 × Unit × (D25 × (List Int) × Unit) × (List D46) × Int × Unit)) (x : (Int × Int × Unit)) : (Int × Int × Unit) :=
  let a14 := y.2.2.2.1
  let a4 := x.1
  let a16 := x.2.1
  let v19 := (nth a14 a16 Z46)
  let v23 := (v19.1 == (63 : Int))
  let m4 := (bif v23 then a16 else a4)
  let v25 := (a16 + (1 : Int))
  (m4, v25, ())
def f32_L4_ok (y : (D25 × Unit × (D25 × (List Int) × Unit) × (List D46) × Int × Unit)) (x : (Int × Int × Unit)) : Prop :=
  let a14 := y.2.2.2.1
  let a15 := y.2.2.2.2.1
  let a16 := x.2.1
  let v17 := (decide (a16 < a15))
  (v17 = true → (InB a16 (len a14) ∧ InR (a16 + (1 : Int))))
instance (y : (D25 × Unit × (D25 × (List Int) × Unit) × (List D46) × Int × Unit)) (x : (Int × Int × Unit)) : Decidable (f32_L4_ok y x) := by
  unfold f32_L4_ok
  try dsimp only
  infer_instance
def f32_L4_x2 (y : (D25 × Unit × (D25 × (List Int) × Unit) × (List D46) × Int × Unit)) (x : (Int × Int × Unit)) : (Int × Unit) :=
  let a4 := x.1
  (a4, ())
def f32_L4_x2_0 (y : (D25 × Unit × (D25 × (List Int) × Unit) × (List D46) × Int × Unit)) (x : (Int × Int × Unit)) : Int := (f32_L4_x2 y x).1
def f32_L4_ly : List (Nat × Sh) := [(1, (.box T25 (.val T25))), (3, (.ref 12 T91)), (12, (.box T91 (.agg (.cons T25 (.cons (.arr 256 (.int .i64)) .nl)) (.cons (.val T25) (.cons (.val (.arr 256 (.int .i64))) .nl))))), (14, (.val (.sl T46))), (15, (.val (.int .i64)))]
def f32_L4_lx : List (Nat × Sh) := [(4, (.val (.int .i64))), (16, (.val (.int .i64)))]
def f32_L4_les : List (List (Nat × Sh)) := [[(1, (.box T25 (.val T25))), (3, (.ref 12 T91)), (4, (.val (.int .i64))), (12, (.box T91 (.agg (.cons T25 (.cons (.arr 256 (.int .i64)) .nl)) (.cons (.val T25) (.cons (.val (.arr 256 (.int .i64))) .nl)))))]]
def f32_L4_es (y : denL f32_L4_ly) (x : denL f32_L4_lx) : List Comp := [⟨2, none, mkSt [(1, (.box T25 (.val T25))), (3, (.ref 12 T91)), (4, (.val (.int .i64))), (12, (.box T91 (.agg (.cons T25 (.cons (.arr 256 (.int .i64)) .nl)) (.cons (.val T25) (.cons (.val (.arr 256 (.int .i64))) .nl)))))] (y.1, y.2.1, (f32_L4_x2_0 y x), y.2.2.1, ()) ++ cutSt⟩]
def f32_L4_spec : St → Option Out := loopS f32_L4_ly f32_L4_lx f32_L4_g f32_L4_next f32_L4_ok f32_L4_es
def f32_L10_g (y : (D25 × Unit × Int × Unit)) (x : ((D25 × (List Int) × Unit) × Int × Unit)) : Bool :=
  let a26 := x.2.1
  let v27 := (decide (a26 < (256 : Int)))
  v27
def f32_L10_next (y : (D25 × Unit × Int × Unit)) (x : ((D25 × (List Int) × Unit) × Int × Unit)) : ((D25 × (List Int) × Unit) × Int × Unit) :=
  let a4 := y.2.2.1
  let a12 := x.1
  let a26 := x.2.1
  let s := (List.set a12.2.1 (Int.toNat a26) a4)
  let v35 := (a26 + (1 : Int))
  let s_1 := (a12.1, s, ())
  (s_1, v35, ())
def f32_L10_ok (y : (D25 × Unit × Int × Unit)) (x : ((D25 × (List Int) × Unit) × Int × Unit)) : Prop :=
  let a26 := x.2.1
  let v27 := (decide (a26 < (256 : Int)))
  (v27 = true → (InB a26 256 ∧ InR (a26 + (1 : Int))))
instance (y : (D25 × Unit × Int × Unit)) (x : ((D25 × (List Int) × Unit) × Int × Unit)) : Decidable (f32_L10_ok y x) := by
  unfold f32_L10_ok
  try dsimp only
  infer_instance
def f32_L10_x4 (y : (D25 × Unit × Int × Unit)) (x : ((D25 × (List Int) × Unit) × Int × Unit)) : ((D25 × (List Int) × Unit) × Unit) :=
  let a12 := x.1
  let s_2 := (a12.1, a12.2.1, ())
  (s_2, ())
def f32_L10_x4_0 (y : (D25 × Unit × Int × Unit)) (x : ((D25 × (List Int) × Unit) × Int × Unit)) : (D25 × (List Int) × Unit) := (f32_L10_x4 y x).1
def f32_L10_ly : List (Nat × Sh) := [(1, (.box T25 (.val T25))), (3, (.ref 12 T91)), (4, (.val (.int .i64)))]
def f32_L10_lx : List (Nat × Sh) := [(12, (.box T91 (.agg (.cons T25 (.cons (.arr 256 (.int .i64)) .nl)) (.cons (.val T25) (.cons (.val (.arr 256 (.int .i64))) .nl))))), (26, (.val (.int .i64)))]
def f32_L10_les : List (List (Nat × Sh)) := [[(1, (.box T25 (.val T25))), (3, (.ref 12 T91)), (12, (.box T91 (.agg (.cons T25 (.cons (.arr 256 (.int .i64)) .nl)) (.cons (.val T25) (.cons (.val (.arr 256 (.int .i64))) .nl)))))]]
def f32_L10_es (y : denL f32_L10_ly) (x : denL f32_L10_lx) : List Comp := [⟨4, none, mkSt [(1, (.box T25 (.val T25))), (3, (.ref 12 T91)), (12, (.box T91 (.agg (.cons T25 (.cons (.arr 256 (.int .i64)) .nl)) (.cons (.val T25) (.cons (.val (.arr 256 (.int .i64))) .nl)))))] (y.1, y.2.1, (f32_L10_x4_0 y x), ()) ++ cutSt⟩]
def f32_L10_spec : St → Option Out := loopS f32_L10_ly f32_L10_lx f32_L10_g f32_L10_next f32_L10_ok f32_L10_es
def f32_L15_g (y : (Unit × (List D46) × Int × Unit)) (x : ((D25 × (List Int) × Unit) × Int × Unit)) : Bool :=
  let a38 := y.2.2.1
  let a39 := x.2.1
  let v40 := (decide (a39 < a38))
  v40
def f32_L15_next (y : (Unit × (List D46) × Int × Unit)) (x : ((D25 × (List Int) × Unit) × Int × Unit)) : ((D25 × (List Int) × Unit) × Int × Unit) :=
  let a37 := y.2.1
  let a12 := x.1
  let a39 := x.2.1
  let v42 := (nth a37 a39 Z46)
  let s := (List.set a12.2.1 (Int.toNat v42.1) a39)
  let v51 := (a39 + (1 : Int))
  let s_1 := (a12.1, s, ())
  (s_1, v51, ())
def f32_L15_ok (y : (Unit × (List D46) × Int × Unit)) (x : ((D25 × (List Int) × Unit) × Int × Unit)) : Prop :=
  let a37 := y.2.1
  let a38 := y.2.2.1
  let a39 := x.2.1
  let v40 := (decide (a39 < a38))
  let v42 := (nth a37 a39 Z46)
  (v40 = true → (InB a39 (len a37) ∧ (InB v42.1 256 ∧ InR (a39 + (1 : Int)))))
instance (y : (Unit × (List D46) × Int × Unit)) (x : ((D25 × (List Int) × Unit) × Int × Unit)) : Decidable (f32_L15_ok y x) := by
  unfold f32_L15_ok
  try dsimp only
  infer_instance
def f32_L15_x6 (y : (Unit × (List D46) × Int × Unit)) (x : ((D25 × (List Int) × Unit) × Int × Unit)) : ((D25 × (List Int) × Unit) × Unit) :=
  let a12 := x.1
  let s_2 := (a12.1, a12.2.1, ())
  (s_2, ())
def f32_L15_x6_0 (y : (Unit × (List D46) × Int × Unit)) (x : ((D25 × (List Int) × Unit) × Int × Unit)) : (D25 × (List Int) × Unit) := (f32_L15_x6 y x).1
def f32_L15_ly : List (Nat × Sh) := [(3, (.ref 12 T91)), (37, (.val (.sl T46))), (38, (.val (.int .i64)))]
def f32_L15_lx : List (Nat × Sh) := [(12, (.box T91 (.agg (.cons T25 (.cons (.arr 256 (.int .i64)) .nl)) (.cons (.val T25) (.cons (.val (.arr 256 (.int .i64))) .nl))))), (39, (.val (.int .i64)))]
def f32_L15_les : List (List (Nat × Sh)) := [[(3, (.ref 12 T91)), (12, (.box T91 (.agg (.cons T25 (.cons (.arr 256 (.int .i64)) .nl)) (.cons (.val T25) (.cons (.val (.arr 256 (.int .i64))) .nl)))))]]
def f32_L15_es (y : denL f32_L15_ly) (x : denL f32_L15_lx) : List Comp := [⟨6, none, mkSt [(3, (.ref 12 T91)), (12, (.box T91 (.agg (.cons T25 (.cons (.arr 256 (.int .i64)) .nl)) (.cons (.val T25) (.cons (.val (.arr 256 (.int .i64))) .nl)))))] (y.1, (f32_L15_x6_0 y x), ()) ++ cutSt⟩]
def f32_L15_spec : St → Option Out := loopS f32_L15_ly f32_L15_lx f32_L15_g f32_L15_next f32_L15_ok f32_L15_es
def f32 (p0 : D25) : D91 :=
  let v15 := (len p0.2.2.2.1)
  let s := (p0, (List.replicate 256 (0 : Int)), ())
  let y4 := (p0, (), s, p0.2.2.2.1, v15, ())
  let x4 := ((-1 : Int), (0 : Int), ())
  let e4 := (loopEnd (f32_L4_g y4) (f32_L4_next y4) x4)
  let r4_2_0 := (f32_L4_x2_0 y4 e4)
  let s_1 := (p0, (List.replicate 256 (0 : Int)), ())
  let y10 := (p0, (), r4_2_0, ())
  let x10 := (s_1, (0 : Int), ())
  let e10 := (loopEnd (f32_L10_g y10) (f32_L10_next y10) x10)
  let r10_4_0 := (f32_L10_x4_0 y10 e10)
  let v38 := (len p0.2.2.2.1)
  let s_2 := (r10_4_0.1, r10_4_0.2.1, ())
  let y15 := ((), p0.2.2.2.1, v38, ())
  let x15 := (s_2, (0 : Int), ())
  let e15 := (loopEnd (f32_L15_g y15) (f32_L15_next y15) x15)
  let r15_6_0 := (f32_L15_x6_0 y15 e15)
  let s_3 := (r15_6_0.1, r15_6_0.2.1, ())
  s_3
def f32_ok (p0 : D25) : Prop :=
  let v15 := (len p0.2.2.2.1)
  let s := (p0, (List.replicate 256 (0 : Int)), ())
  let y4 := (p0, (), s, p0.2.2.2.1, v15, ())
  let x4 := ((-1 : Int), (0 : Int), ())
  let e4 := (loopEnd (f32_L4_g y4) (f32_L4_next y4) x4)
  let r4_2_0 := (f32_L4_x2_0 y4 e4)
  let s_1 := (p0, (List.replicate 256 (0 : Int)), ())
  let y10 := (p0, (), r4_2_0, ())
  let x10 := (s_1, (0 : Int), ())
  let e10 := (loopEnd (f32_L10_g y10) (f32_L10_next y10) x10)
  let r10_4_0 := (f32_L10_x4_0 y10 e10)
  let v38 := (len p0.2.2.2.1)
  let s_2 := (r10_4_0.1, r10_4_0.2.1, ())
  let y15 := ((), p0.2.2.2.1, v38, ())
  let x15 := (s_2, (0 : Int), ())
  ((Am.Ends (f32_L4_g y4) (f32_L4_next y4) (f32_L4_ok y4) x4) ∧ ((Am.Ends (f32_L10_g y10) (f32_L10_next y10) (f32_L10_ok y10) x10) ∧ (Am.Ends (f32_L15_g y15) (f32_L15_next y15) (f32_L15_ok y15) x15)))
instance (p0 : D25) : Decidable (f32_ok p0) := by
  unfold f32_ok
  try dsimp only
  infer_instance
def f32_ps : List (Nat × Sh) := [(0, (.val T25))]
def f32_rs : Sh := (.val (.ptr T91))
def f32_os : List (Nat × Sh) := []
def f32_spec : Am.Spec := fnSpec f32_ps f32_rs f32_os (fun x => f32_ok x.1) (fun x => f32 x.1) (fun _ => ())
def f32_ctx : Ctx := { tys := tys, fns := [], loops := [(4, f32_L4_spec), (10, f32_L10_spec), (15, f32_L15_spec)], gh := [(39, [(3, 12, 0, 0)])], wrap := false, n := 53, keep := [], wr := [] }
theorem f32_cok : CtxOk Tryd.prog f32_ctx := ctxOk_mk tys_ok trivial rfl (by kernel_rfl)
noncomputable def f32_code : Code := Tryd.f32.body.getD .skip
noncomputable def f32_L4 : Code := nthLoop f32_code 0
theorem f32_L4_sum : ∀ y x, sumLoop f32_ctx f32_L4 f32_L4_ly f32_L4_lx f32_L4_les y x = some (f32_L4_ok y x, f32_L4_g y x, y, f32_L4_next y x, f32_L4_es y x) := fun y x => by kernel_rfl
theorem f32_L4_is : LoopSnd Tryd.prog f32_ctx f32_L4 := loop_gen f32_cok mixed (bs := []) (by kernel_rfl) trivial (by kernel_rfl) (by kernel_rfl) f32_L4_sum
noncomputable def f32_L10 : Code := nthLoop f32_code 1
theorem f32_L10_sum : ∀ y x, sumLoop f32_ctx f32_L10 f32_L10_ly f32_L10_lx f32_L10_les y x = some (f32_L10_ok y x, f32_L10_g y x, y, f32_L10_next y x, f32_L10_es y x) := fun y x => by kernel_rfl
theorem f32_L10_is : LoopSnd Tryd.prog f32_ctx f32_L10 := loop_gen f32_cok mixed (bs := []) (by kernel_rfl) trivial (by kernel_rfl) (by kernel_rfl) f32_L10_sum
noncomputable def f32_L15 : Code := nthLoop f32_code 2
theorem f32_L15_sum : ∀ y x, sumLoop f32_ctx f32_L15 f32_L15_ly f32_L15_lx f32_L15_les y x = some (f32_L15_ok y x, f32_L15_g y x, y, f32_L15_next y x, f32_L15_es y x) := fun y x => by kernel_rfl
theorem f32_L15_is : LoopSnd Tryd.prog f32_ctx f32_L15 := loop_gen f32_cok mixed (bs := []) (by kernel_rfl) trivial (by kernel_rfl) (by kernel_rfl) f32_L15_sum
theorem f32_sum : ∀ x, sumFn f32_ctx f32_code Tryd.f32.results.toList f32_ps f32_rs f32_os x = some (f32_ok x.1, f32 x.1, ()) := fun x => by kernel_rfl
theorem f32_is : SpecOk Tryd.prog 32 f32_spec := func_gen f32_cok mixed Tryd.func32 (by kernel_rfl) (by decide) rfl (bs := [f32_L4, f32_L10, f32_L15]) (by kernel_rfl) ⟨f32_L4_is, f32_L10_is, f32_L15_is, trivial⟩ (by kernel_rfl) (by kernel_rfl) rfl f32_sum
def f63_L3_g (y : (Int × Int × (List D43) × Int × Unit)) (x : (Int × Unit)) : Bool :=
  let a7 := y.1
  let a8 := y.2.1
  let a33 := y.2.2.1
  let a34 := y.2.2.2.1
  let a35 := x.1
  let v36 := (decide (a35 < a34))
  let v37 := (nth a33 a35 Z43)
  let v42 := (v37.1 == a7)
  let v47 := (v37.2.1 == a8)
  let v48 := (bif v42 then v47 else false)
  let c := (v36 && (!v48))
  c
def f63_L3_next (y : (Int × Int × (List D43) × Int × Unit)) (x : (Int × Unit)) : (Int × Unit) :=
  let a35 := x.1
  let v51 := (a35 + (1 : Int))
  (v51, ())
def f63_L3_ok (y : (Int × Int × (List D43) × Int × Unit)) (x : (Int × Unit)) : Prop :=
  let a7 := y.1
  let a8 := y.2.1
  let a33 := y.2.2.1
  let a34 := y.2.2.2.1
  let a35 := x.1
  let v36 := (decide (a35 < a34))
  let v37 := (nth a33 a35 Z43)
  let v42 := (v37.1 == a7)
  let v47 := (v37.2.1 == a8)
  let v48 := (bif v42 then v47 else false)
  (v36 = true → (InB a35 (len a33) ∧ ((!v48) = true → InR (a35 + (1 : Int)))))
instance (y : (Int × Int × (List D43) × Int × Unit)) (x : (Int × Unit)) : Decidable (f63_L3_ok y x) := by
  unfold f63_L3_ok
  try dsimp only
  infer_instance
def f63_L3_x1 (y : (Int × Int × (List D43) × Int × Unit)) (x : (Int × Unit)) : (Int × Unit) :=
  let a33 := y.2.2.1
  let a35 := x.1
  let v37 := (nth a33 a35 Z43)
  (v37.2.2.1, ())
def f63_L3_x1_0 (y : (Int × Int × (List D43) × Int × Unit)) (x : (Int × Unit)) : Int := (f63_L3_x1 y x).1
def f63_L3_e1 (y : (Int × Int × (List D43) × Int × Unit)) (x : (Int × Unit)) : Bool :=
  let a7 := y.1
  let a8 := y.2.1
  let a33 := y.2.2.1
  let a34 := y.2.2.2.1
  let a35 := x.1
  let v36 := (decide (a35 < a34))
  let v37 := (nth a33 a35 Z43)
  let v42 := (v37.1 == a7)
  let v47 := (v37.2.1 == a8)
  let v48 := (bif v42 then v47 else false)
  let c_1 := (v36 && v48)
  c_1
def f63_L3_x2 (y : (Int × Int × (List D43) × Int × Unit)) (x : (Int × Unit)) : (Unit) :=
  ()
def f63_L3_e2 (y : (Int × Int × (List D43) × Int × Unit)) (x : (Int × Unit)) : Bool :=
  let a34 := y.2.2.2.1
  let a35 := x.1
  let v36 := (decide (a35 < a34))
  (!v36)
def f63_L3_ly : List (Nat × Sh) := [(7, (.val (.int .u8))), (8, (.val (.int .u8))), (33, (.val (.sl T43))), (34, (.val (.int .i64)))]
def f63_L3_lx : List (Nat × Sh) := [(35, (.val (.int .i64)))]
def f63_L3_les : List (List (Nat × Sh)) := [[(6, (.val (.int .i64)))], []]
def f63_L3_es (y : denL f63_L3_ly) (x : denL f63_L3_lx) : List Comp := [⟨1, some (f63_L3_e1 y x), mkSt [(6, (.val (.int .i64)))] ((f63_L3_x1_0 y x), ()) ++ cutSt⟩, ⟨2, some (f63_L3_e2 y x), mkSt [] () ++ cutSt⟩]
def f63_L3_spec : St → Option Out := loopS f63_L3_ly f63_L3_lx f63_L3_g f63_L3_next f63_L3_ok f63_L3_es
def f63 (p0 : D91) (p1 : Int) (p2 : Int) : Int :=
  let v17 := (nth p0.1.2.2.2.1 p1 Z46)
  let v26 := (nth p0.1.2.2.2.1 p2 Z46)
  let v34 := (len p0.1.2.2.2.2.1)
  let y3 := (v17.1, v26.1, p0.1.2.2.2.2.1, v34, ())
  let x3 := ((0 : Int), ())
  let e3 := (loopEnd (f63_L3_g y3) (f63_L3_next y3) x3)
  let r3_1_0 := (f63_L3_x1_0 y3 e3)
  let q3_1 := (f63_L3_e1 y3 e3)
  let m6 := (bif q3_1 then r3_1_0 else (0 : Int))
  m6
def f63_ok (p0 : D91) (p1 : Int) (p2 : Int) : Prop :=
  let v17 := (nth p0.1.2.2.2.1 p1 Z46)
  let v26 := (nth p0.1.2.2.2.1 p2 Z46)
  let v34 := (len p0.1.2.2.2.2.1)
  let y3 := (v17.1, v26.1, p0.1.2.2.2.2.1, v34, ())
  let x3 := ((0 : Int), ())
  (InB p1 (len p0.1.2.2.2.1) ∧ (InB p2 (len p0.1.2.2.2.1) ∧ (Am.Ends (f63_L3_g y3) (f63_L3_next y3) (f63_L3_ok y3) x3)))
instance (p0 : D91) (p1 : Int) (p2 : Int) : Decidable (f63_ok p0 p1 p2) := by
  unfold f63_ok
  try dsimp only
  infer_instance
def f63_ps : List (Nat × Sh) := [(0, (.val (.ptr T91))), (1, (.val (.int .i64))), (2, (.val (.int .i64)))]
def f63_rs : Sh := (.val (.int .i64))
def f63_os : List (Nat × Sh) := []
def f63_spec : Am.Spec := fnSpec f63_ps f63_rs f63_os (fun x => f63_ok x.1 x.2.1 x.2.2.1) (fun x => f63 x.1 x.2.1 x.2.2.1) (fun _ => ())
def f63_ctx : Ctx := { tys := tys, fns := [], loops := [(3, f63_L3_spec)], gh := [], wrap := false, n := 52, keep := [], wr := [] }
theorem f63_cok : CtxOk Tryd.prog f63_ctx := ctxOk_mk tys_ok trivial rfl (by kernel_rfl)
noncomputable def f63_code : Code := Tryd.f63.body.getD .skip
noncomputable def f63_L3 : Code := nthLoop f63_code 0
theorem f63_L3_sum : ∀ y x, sumLoop f63_ctx f63_L3 f63_L3_ly f63_L3_lx f63_L3_les y x = some (f63_L3_ok y x, f63_L3_g y x, y, f63_L3_next y x, f63_L3_es y x) := fun y x => by kernel_rfl
theorem f63_L3_is : LoopSnd Tryd.prog f63_ctx f63_L3 := loop_gen f63_cok mixed (bs := []) (by kernel_rfl) trivial (by kernel_rfl) (by kernel_rfl) f63_L3_sum
theorem f63_sum : ∀ x, sumFn f63_ctx f63_code Tryd.f63.results.toList f63_ps f63_rs f63_os x = some (f63_ok x.1 x.2.1 x.2.2.1, f63 x.1 x.2.1 x.2.2.1, ()) := fun x => by kernel_rfl
theorem f63_is : SpecOk Tryd.prog 63 f63_spec := func_gen f63_cok mixed Tryd.func63 (by kernel_rfl) (by decide) rfl (bs := [f63_L3]) (by kernel_rfl) ⟨f63_L3_is, trivial⟩ (by kernel_rfl) (by kernel_rfl) rfl f63_sum
def f42_L4_g (y : (D91 × (List UInt8) × Int × Unit)) (x : ((List D48) × Int × Int × Unit)) : Bool :=
  let a0 := y.1
  let a1 := y.2.1
  let a11 := y.2.2.1
  let a12 := x.2.2.1
  let v13 := (decide (a12 < a11))
  let v18 := (byteAt a1 a12)
  let v21 := (nth a0.2.1 v18 (0 : Int))
  let v24 := (decide (v21 < (0 : Int)))
  let c := (v24 || (!v24))
  let c_1 := (v13 && c)
  c_1
def f42_L4_next (y : (D91 × (List UInt8) × Int × Unit)) (x : ((List D48) × Int × Int × Unit)) : ((List D48) × Int × Int × Unit) :=
  let a0 := y.1
  let a1 := y.2.1
  let a6 := x.1
  let a7 := x.2.1
  let a12 := x.2.2.1
  let v18 := (byteAt a1 a12)
  let v21 := (nth a0.2.1 v18 (0 : Int))
  let v24 := (decide (v21 < (0 : Int)))
  let v26 := (len a6)
  let v27 := (decide (v26 > (0 : Int)))
  let v32 := (len a6)
  let v33 := (v32 - (1 : Int))
  let v34 := (nth a6 v33 Z48)
  let v38 := (f63 a0 v34.1 v21)
  let v39 := (a7 + v38)
  let m7 := (bif v27 then v39 else a7)
  let s := (v21, m7, ())
  let v44 := ([s] : List D48)
  let v45 := (a6 ++ v44)
  let v53 := (nth a0.1.2.2.2.1 v21 Z46)
  let v56 := (m7 + v53.2.1)
  let m6 := (bif v24 then a6 else v45)
  let m7_1 := (bif v24 then a7 else v56)
  let v57 := (a12 + (1 : Int))
  (m6, m7_1, v57, ())
def f42_L4_ok (y : (D91 × (List UInt8) × Int × Unit)) (x : ((List D48) × Int × Int × Unit)) : Prop :=
  let a0 := y.1
  let a1 := y.2.1
  let a11 := y.2.2.1
  let a6 := x.1
  let a7 := x.2.1
  let a12 := x.2.2.1
  let v13 := (decide (a12 < a11))
  let v18 := (byteAt a1 a12)
  let v21 := (nth a0.2.1 v18 (0 : Int))
  let v24 := (decide (v21 < (0 : Int)))
  let v26 := (len a6)
  let v27 := (decide (v26 > (0 : Int)))
  let v32 := (len a6)
  let v33 := (v32 - (1 : Int))
  let v34 := (nth a6 v33 Z48)
  let v38 := (f63 a0 v34.1 v21)
  let v39 := (a7 + v38)
  let m7 := (bif v27 then v39 else a7)
  let s := (v21, m7, ())
  let v44 := ([s] : List D48)
  let v53 := (nth a0.1.2.2.2.1 v21 Z46)
  let c := (v24 || (!v24))
  (v13 = true → (InB a12 (len a1) ∧ (InB v18 256 ∧ (((!v24) = true → ((v27 = true → (InR (v32 - (1 : Int)) ∧ (InB v33 (len a6) ∧ ((f63_ok a0 v34.1 v21) ∧ InR (a7 + v38))))) ∧ (((List.length a6 + List.length v44 : Nat) : Int) ≤ 4294967296 ∧ (InB v21 (len a0.1.2.2.2.1) ∧ InR (m7 + v53.2.1))))) ∧ (c = true → InR (a12 + (1 : Int)))))))
instance (y : (D91 × (List UInt8) × Int × Unit)) (x : ((List D48) × Int × Int × Unit)) : Decidable (f42_L4_ok y x) := by
  unfold f42_L4_ok
  try dsimp only
  infer_instance
def f42_L4_x2 (y : (D91 × (List UInt8) × Int × Unit)) (x : ((List D48) × Int × Int × Unit)) : ((List D48) × Int × Unit) :=
  let a6 := x.1
  let a7 := x.2.1
  (a6, a7, ())
def f42_L4_x2_0 (y : (D91 × (List UInt8) × Int × Unit)) (x : ((List D48) × Int × Int × Unit)) : (List D48) := (f42_L4_x2 y x).1
def f42_L4_x2_1 (y : (D91 × (List UInt8) × Int × Unit)) (x : ((List D48) × Int × Int × Unit)) : Int := (f42_L4_x2 y x).2.1
def f42_L4_ly : List (Nat × Sh) := [(0, (.val (.ptr T91))), (1, (.val .str)), (11, (.val (.int .i64)))]
def f42_L4_lx : List (Nat × Sh) := [(6, (.own T48 1006 false)), (7, (.val (.int .i64))), (12, (.val (.int .i64)))]
def f42_L4_les : List (List (Nat × Sh)) := [[(6, (.own T48 1006 false)), (7, (.val (.int .i64)))]]
def f42_L4_es (y : denL f42_L4_ly) (x : denL f42_L4_lx) : List Comp := [⟨2, none, mkSt [(6, (.own T48 1006 false)), (7, (.val (.int .i64)))] ((f42_L4_x2_0 y x), (f42_L4_x2_1 y x), ()) ++ cutSt⟩]
def f42_L4_spec : St → Option Out := loopS f42_L4_ly f42_L4_lx f42_L4_g f42_L4_next f42_L4_ok f42_L4_es
def f42 (p0 : D91) (p1 : (List UInt8)) : ((List D48) × Int × Unit) :=
  let v11 := (len p1)
  let y4 := (p0, p1, v11, ())
  let x4 := (([] : List D48), (0 : Int), (0 : Int), ())
  let e4 := (loopEnd (f42_L4_g y4) (f42_L4_next y4) x4)
  let r4_2_0 := (f42_L4_x2_0 y4 e4)
  let r4_2_1 := (f42_L4_x2_1 y4 e4)
  (r4_2_0, r4_2_1, ())
def f42_ok (p0 : D91) (p1 : (List UInt8)) : Prop :=
  let v11 := (len p1)
  let y4 := (p0, p1, v11, ())
  let x4 := (([] : List D48), (0 : Int), (0 : Int), ())
  (Am.Ends (f42_L4_g y4) (f42_L4_next y4) (f42_L4_ok y4) x4)
instance (p0 : D91) (p1 : (List UInt8)) : Decidable (f42_ok p0 p1) := by
  unfold f42_ok
  try dsimp only
  infer_instance
def f42_ps : List (Nat × Sh) := [(0, (.val (.ptr T91))), (1, (.val .str))]
def f42_rs : Sh := (.tup (.cons (.own T48 0 false) (.cons (.val (.int .i64)) .nl)))
def f42_os : List (Nat × Sh) := []
def f42_spec : Am.Spec := fnSpec f42_ps f42_rs f42_os (fun x => f42_ok x.1 x.2.1) (fun x => f42 x.1 x.2.1) (fun _ => ())
def f42_ctx : Ctx := { tys := tys, fns := [(63, f63_spec)], loops := [(4, f42_L4_spec)], gh := [(21, [(4, 0, 45, 1006)]), (27, [(4, 0, 1006, 0)])], wrap := false, n := 60, keep := [], wr := [] }
theorem f42_cok : CtxOk Tryd.prog f42_ctx := ctxOk_mk tys_ok ⟨f63_is, trivial⟩ rfl (by kernel_rfl)
noncomputable def f42_code : Code := Tryd.f42.body.getD .skip
noncomputable def f42_L4 : Code := nthLoop f42_code 0
theorem f42_L4_sum : ∀ y x, sumLoop f42_ctx f42_L4 f42_L4_ly f42_L4_lx f42_L4_les y x = some (f42_L4_ok y x, f42_L4_g y x, y, f42_L4_next y x, f42_L4_es y x) := fun y x => by kernel_rfl
theorem f42_L4_is : LoopSnd Tryd.prog f42_ctx f42_L4 := loop_gen f42_cok mixed (bs := []) (by kernel_rfl) trivial (by kernel_rfl) (by kernel_rfl) f42_L4_sum
theorem f42_sum : ∀ x, sumFn f42_ctx f42_code Tryd.f42.results.toList f42_ps f42_rs f42_os x = some (f42_ok x.1 x.2.1, f42 x.1 x.2.1, ()) := fun x => by kernel_rfl
theorem f42_is : SpecOk Tryd.prog 42 f42_spec := func_gen f42_cok mixed Tryd.func42 (by kernel_rfl) (by decide) rfl (bs := [f42_L4]) (by kernel_rfl) ⟨f42_L4_is, trivial⟩ (by kernel_rfl) (by kernel_rfl) rfl f42_sum
def f65 (p0 : Int) (p1 : Int) : Int :=
  let v7 := (p1 == (0 : Int))
  let v9 := (p0 == (-9223372036854775808 : Int))
  let v12 := (p1 == (-1 : Int))
  let v13 := (bif v9 then v12 else false)
  let v16 := (Int.tdiv p0 p1)
  let v19 := (Int.tmod p0 p1)
  let v20 := (v19 != (0 : Int))
  let v23 := (decide (p0 < (0 : Int)))
  let v25 := (decide (p1 < (0 : Int)))
  let v26 := (!(Ty.eqb .bool v23 v25))
  let v27 := (bif v20 then v26 else false)
  let v29 := (v16 - (1 : Int))
  let m5 := (bif v27 then v29 else v16)
  let m4 := (bif v13 then (9223372036854775807 : Int) else m5)
  let m4_1 := (bif v7 then (0 : Int) else m4)
  m4_1
def f65_ok (p0 : Int) (p1 : Int) : Prop :=
  let v7 := (p1 == (0 : Int))
  let v9 := (p0 == (-9223372036854775808 : Int))
  let v12 := (p1 == (-1 : Int))
  let v13 := (bif v9 then v12 else false)
  let v16 := (Int.tdiv p0 p1)
  let v19 := (Int.tmod p0 p1)
  let v20 := (v19 != (0 : Int))
  let v23 := (decide (p0 < (0 : Int)))
  let v25 := (decide (p1 < (0 : Int)))
  let v26 := (!(Ty.eqb .bool v23 v25))
  let v27 := (bif v20 then v26 else false)
  ((!v7) = true → ((!v13) = true → (p1 ≠ 0 ∧ (InR (Int.tdiv p0 p1) ∧ (p1 ≠ 0 ∧ (v27 = true → InR (v16 - (1 : Int))))))))
instance (p0 : Int) (p1 : Int) : Decidable (f65_ok p0 p1) := by
  unfold f65_ok
  try dsimp only
  infer_instance
def f65_ps : List (Nat × Sh) := [(0, (.val (.int .i64))), (1, (.val (.int .i64)))]
def f65_rs : Sh := (.val (.int .i64))
def f65_os : List (Nat × Sh) := []
def f65_spec : Am.Spec := fnSpec f65_ps f65_rs f65_os (fun x => f65_ok x.1 x.2.1) (fun x => f65 x.1 x.2.1) (fun _ => ())
def f65_ctx : Ctx := { tys := tys, fns := [], loops := [], gh := [], wrap := false, n := 31, keep := [], wr := [] }
theorem f65_cok : CtxOk Tryd.prog f65_ctx := ctxOk_mk tys_ok trivial rfl (by kernel_rfl)
noncomputable def f65_code : Code := Tryd.f65.body.getD .skip
theorem f65_sum : ∀ x, sumFn f65_ctx f65_code Tryd.f65.results.toList f65_ps f65_rs f65_os x = some (f65_ok x.1 x.2.1, f65 x.1 x.2.1, ()) := fun x => by kernel_rfl
theorem f65_is : SpecOk Tryd.prog 65 f65_spec := func_gen f65_cok mixed Tryd.func65 (by kernel_rfl) (by decide) rfl (bs := []) (by kernel_rfl) trivial (by kernel_rfl) (by kernel_rfl) rfl f65_sum
def f44 (p0 : Int) (p1 : Int) : Int :=
  let v8 := (p1 == (0 : Int))
  let v10 := (p0 == (-9223372036854775808 : Int))
  let v13 := (p1 == (-1 : Int))
  let v14 := (bif v10 then v13 else false)
  let v17 := (f65 p0 p1)
  let v21 := (p1 * v17)
  let v22 := (p0 - v21)
  let v24 := (decide (p1 > (0 : Int)))
  let v29 := (p1 - v22)
  let v30 := (decide (v22 ≥ v29))
  let v31 := (bif v24 then v30 else false)
  let v34 := (decide (p1 < (0 : Int)))
  let v39 := (p1 - v22)
  let v40 := (decide (v22 ≤ v39))
  let v41 := (bif v34 then v40 else false)
  let v42 := (bif v31 then true else v41)
  let v44 := (v17 + (1 : Int))
  let m5 := (bif v42 then v44 else v17)
  let m4 := (bif v14 then (9223372036854775807 : Int) else m5)
  let m4_1 := (bif v8 then (0 : Int) else m4)
  m4_1
def f44_ok (p0 : Int) (p1 : Int) : Prop :=
  let v8 := (p1 == (0 : Int))
  let v10 := (p0 == (-9223372036854775808 : Int))
  let v13 := (p1 == (-1 : Int))
  let v14 := (bif v10 then v13 else false)
  let v17 := (f65 p0 p1)
  let v21 := (p1 * v17)
  let v22 := (p0 - v21)
  let v24 := (decide (p1 > (0 : Int)))
  let v29 := (p1 - v22)
  let v30 := (decide (v22 ≥ v29))
  let v31 := (bif v24 then v30 else false)
  let v34 := (decide (p1 < (0 : Int)))
  let g32_2 := (!v31)
  let g35_3 := (g32_2 && v34)
  let v39 := (p1 - v22)
  let v40 := (decide (v22 ≤ v39))
  let v41 := (bif v34 then v40 else false)
  let v42 := (bif v31 then true else v41)
  ((!v8) = true → ((!v14) = true → ((f65_ok p0 p1) ∧ (InR (p1 * v17) ∧ (InR (p0 - v21) ∧ ((v24 = true → InR (p1 - v22)) ∧ ((g35_3 = true → InR (p1 - v22)) ∧ (v42 = true → InR (v17 + (1 : Int))))))))))
instance (p0 : Int) (p1 : Int) : Decidable (f44_ok p0 p1) := by
  unfold f44_ok
  try dsimp only
  infer_instance
def f44_ps : List (Nat × Sh) := [(0, (.val (.int .i64))), (1, (.val (.int .i64)))]
def f44_rs : Sh := (.val (.int .i64))
def f44_os : List (Nat × Sh) := []
def f44_spec : Am.Spec := fnSpec f44_ps f44_rs f44_os (fun x => f44_ok x.1 x.2.1) (fun x => f44 x.1 x.2.1) (fun _ => ())
def f44_ctx : Ctx := { tys := tys, fns := [(65, f65_spec)], loops := [], gh := [], wrap := false, n := 46, keep := [], wr := [] }
theorem f44_cok : CtxOk Tryd.prog f44_ctx := ctxOk_mk tys_ok ⟨f65_is, trivial⟩ rfl (by kernel_rfl)
noncomputable def f44_code : Code := Tryd.f44.body.getD .skip
theorem f44_sum : ∀ x, sumFn f44_ctx f44_code Tryd.f44.results.toList f44_ps f44_rs f44_os x = some (f44_ok x.1 x.2.1, f44 x.1 x.2.1, ()) := fun x => by kernel_rfl
theorem f44_is : SpecOk Tryd.prog 44 f44_spec := func_gen f44_cok mixed Tryd.func44 (by kernel_rfl) (by decide) rfl (bs := []) (by kernel_rfl) trivial (by kernel_rfl) (by kernel_rfl) rfl f44_sum
def f33 (p0 : D91) (p1 : (List UInt8)) (p2 : Int) : Int :=
  let v12 := (f42 p0 p1)
  let v17 := (p2 * v12.2.1)
  let v23 := (f44 v17 p0.1.1)
  v23
def f33_ok (p0 : D91) (p1 : (List UInt8)) (p2 : Int) : Prop :=
  let v12 := (f42 p0 p1)
  let v17 := (p2 * v12.2.1)
  ((f42_ok p0 p1) ∧ (InR (p2 * v12.2.1) ∧ (f44_ok v17 p0.1.1)))
instance (p0 : D91) (p1 : (List UInt8)) (p2 : Int) : Decidable (f33_ok p0 p1 p2) := by
  unfold f33_ok
  try dsimp only
  infer_instance
def f33_ps : List (Nat × Sh) := [(0, (.val (.ptr T91))), (1, (.val .str)), (2, (.val (.int .i64)))]
def f33_rs : Sh := (.val (.int .i64))
def f33_os : List (Nat × Sh) := []
def f33_spec : Am.Spec := fnSpec f33_ps f33_rs f33_os (fun x => f33_ok x.1 x.2.1 x.2.2.1) (fun x => f33 x.1 x.2.1 x.2.2.1) (fun _ => ())
def f33_ctx : Ctx := { tys := tys, fns := [(42, f42_spec), (44, f44_spec)], loops := [], gh := [(3, [(4, 0, 12, 1007)])], wrap := false, n := 24, keep := [], wr := [] }
theorem f33_cok : CtxOk Tryd.prog f33_ctx := ctxOk_mk tys_ok ⟨f42_is, f44_is, trivial⟩ rfl (by kernel_rfl)
noncomputable def f33_code : Code := Tryd.f33.body.getD .skip
theorem f33_sum : ∀ x, sumFn f33_ctx f33_code Tryd.f33.results.toList f33_ps f33_rs f33_os x = some (f33_ok x.1 x.2.1 x.2.2.1, f33 x.1 x.2.1 x.2.2.1, ()) := fun x => by kernel_rfl
theorem f33_is : SpecOk Tryd.prog 33 f33_spec := func_gen f33_cok mixed Tryd.func33 (by kernel_rfl) (by decide) rfl (bs := []) (by kernel_rfl) trivial (by kernel_rfl) (by kernel_rfl) rfl f33_sum
def f34 (p0 : Int) (p1 : Int) (p2 : Int) : Int :=
  let v10 := (imax p0 p1)
  let v11 := (imin p2 v10)
  v11
def f34_ok (p0 : Int) (p1 : Int) (p2 : Int) : Prop :=
  True
instance (p0 : Int) (p1 : Int) (p2 : Int) : Decidable (f34_ok p0 p1 p2) := by
  unfold f34_ok
  try dsimp only
  infer_instance
def f34_ps : List (Nat × Sh) := [(0, (.val (.int .i64))), (1, (.val (.int .i64))), (2, (.val (.int .i64)))]
def f34_rs : Sh := (.val (.int .i64))
def f34_os : List (Nat × Sh) := []
def f34_spec : Am.Spec := fnSpec f34_ps f34_rs f34_os (fun x => f34_ok x.1 x.2.1 x.2.2.1) (fun x => f34 x.1 x.2.1 x.2.2.1) (fun _ => ())
def f34_ctx : Ctx := { tys := tys, fns := [], loops := [], gh := [], wrap := false, n := 12, keep := [], wr := [] }
theorem f34_cok : CtxOk Tryd.prog f34_ctx := ctxOk_mk tys_ok trivial rfl (by kernel_rfl)
noncomputable def f34_code : Code := Tryd.f34.body.getD .skip
theorem f34_sum : ∀ x, sumFn f34_ctx f34_code Tryd.f34.results.toList f34_ps f34_rs f34_os x = some (f34_ok x.1 x.2.1 x.2.2.1, f34 x.1 x.2.1 x.2.2.1, ()) := fun x => by kernel_rfl
theorem f34_is : SpecOk Tryd.prog 34 f34_spec := func_gen f34_cok mixed Tryd.func34 (by kernel_rfl) (by decide) rfl (bs := []) (by kernel_rfl) trivial (by kernel_rfl) (by kernel_rfl) rfl f34_sum
def f15 (p0 : D25) (p1 : (List UInt8)) (p2 : Int) : Int :=
  let v8 := (f12 p0)
  let v9 := (v8 != (0 : Int))
  let v11 := (len p1)
  let v12 := (decide (v11 > (128 : Int)))
  let v14 := (List.take (Int.toNat (128 : Int)) p1)
  let m1 := (bif v12 then v14 else p1)
  let v16 := (f32 p0)
  let v19 := (f34 p2 (1 : Int) (1048576 : Int))
  let v20 := (f33 v16 m1 v19)
  let m6 := (bif v9 then (0 : Int) else v20)
  m6
def f15_ok (p0 : D25) (p1 : (List UInt8)) (p2 : Int) : Prop :=
  let v8 := (f12 p0)
  let v9 := (v8 != (0 : Int))
  let v11 := (len p1)
  let v12 := (decide (v11 > (128 : Int)))
  let v14 := (List.take (Int.toNat (128 : Int)) p1)
  let m1 := (bif v12 then v14 else p1)
  let v16 := (f32 p0)
  let v19 := (f34 p2 (1 : Int) (1048576 : Int))
  ((f12_ok p0) ∧ ((!v9) = true → ((v12 = true → (0 ≤ (128 : Int) ∧ (128 : Int) ≤ len p1)) ∧ ((f32_ok p0) ∧ ((f34_ok p2 (1 : Int) (1048576 : Int)) ∧ (f33_ok v16 m1 v19))))))
instance (p0 : D25) (p1 : (List UInt8)) (p2 : Int) : Decidable (f15_ok p0 p1 p2) := by
  unfold f15_ok
  try dsimp only
  infer_instance
def f15_ps : List (Nat × Sh) := [(0, (.val T25)), (1, (.val .str)), (2, (.val (.int .i64)))]
def f15_rs : Sh := (.val (.int .i64))
def f15_os : List (Nat × Sh) := []
def f15_spec : Am.Spec := fnSpec f15_ps f15_rs f15_os (fun x => f15_ok x.1 x.2.1 x.2.2.1) (fun x => f15 x.1 x.2.1 x.2.2.1) (fun _ => ())
def f15_ctx : Ctx := { tys := tys, fns := [(12, f12_spec), (32, f32_spec), (33, f33_spec), (34, f34_spec)], loops := [], gh := [], wrap := false, n := 21, keep := [], wr := [] }
theorem f15_cok : CtxOk Tryd.prog f15_ctx := ctxOk_mk tys_ok ⟨f12_is, f32_is, f33_is, f34_is, trivial⟩ rfl (by kernel_rfl)
noncomputable def f15_code : Code := Tryd.f15.body.getD .skip
theorem f15_sum : ∀ x, sumFn f15_ctx f15_code Tryd.f15.results.toList f15_ps f15_rs f15_os x = some (f15_ok x.1 x.2.1 x.2.2.1, f15 x.1 x.2.1 x.2.2.1, ()) := fun x => by kernel_rfl
theorem f15_is : SpecOk Tryd.prog 15 f15_spec := func_gen f15_cok mixed Tryd.func15 (by kernel_rfl) (by decide) rfl (bs := []) (by kernel_rfl) trivial (by kernel_rfl) (by kernel_rfl) rfl f15_sum
def f39_L5_g (y : ((List UInt8) × Int × Int × Int × Unit)) (x : (Int × Unit)) : Bool :=
  let a1 := y.1
  let a17 := y.2.2.2.1
  let a18 := x.1
  let v19 := (decide (a18 < a17))
  let v23 := (byteAt a1 a18)
  let v24 := (decide (v23 < (32 : Int)))
  let v28 := (byteAt a1 a18)
  let v29 := (decide (v28 > (126 : Int)))
  let v30 := (bif v24 then true else v29)
  let v34 := (byteAt a1 a18)
  let v35 := (v34 != (10 : Int))
  let v36 := (bif v30 then v35 else false)
  let c := (v19 && (!v36))
  c
def f39_L5_next (y : ((List UInt8) × Int × Int × Int × Unit)) (x : (Int × Unit)) : (Int × Unit) :=
  let a18 := x.1
  let v37 := (a18 + (1 : Int))
  (v37, ())
def f39_L5_ok (y : ((List UInt8) × Int × Int × Int × Unit)) (x : (Int × Unit)) : Prop :=
  let a1 := y.1
  let a17 := y.2.2.2.1
  let a18 := x.1
  let v19 := (decide (a18 < a17))
  let v23 := (byteAt a1 a18)
  let v24 := (decide (v23 < (32 : Int)))
  let g25_2 := (!v24)
  let v28 := (byteAt a1 a18)
  let v29 := (decide (v28 > (126 : Int)))
  let v30 := (bif v24 then true else v29)
  let v34 := (byteAt a1 a18)
  let v35 := (v34 != (10 : Int))
  let v36 := (bif v30 then v35 else false)
  (v19 = true → (InB a18 (len a1) ∧ ((g25_2 = true → InB a18 (len a1)) ∧ ((v30 = true → InB a18 (len a1)) ∧ ((!v36) = true → InR (a18 + (1 : Int)))))))
instance (y : ((List UInt8) × Int × Int × Int × Unit)) (x : (Int × Unit)) : Decidable (f39_L5_ok y x) := by
  unfold f39_L5_ok
  try dsimp only
  infer_instance
def f39_L5_x1 (y : ((List UInt8) × Int × Int × Int × Unit)) (x : (Int × Unit)) : (Int × Unit) :=
  ((4 : Int), ())
def f39_L5_x1_0 (y : ((List UInt8) × Int × Int × Int × Unit)) (x : (Int × Unit)) : Int := (f39_L5_x1 y x).1
def f39_L5_e1 (y : ((List UInt8) × Int × Int × Int × Unit)) (x : (Int × Unit)) : Bool :=
  let a1 := y.1
  let a17 := y.2.2.2.1
  let a18 := x.1
  let v19 := (decide (a18 < a17))
  let v23 := (byteAt a1 a18)
  let v24 := (decide (v23 < (32 : Int)))
  let v28 := (byteAt a1 a18)
  let v29 := (decide (v28 > (126 : Int)))
  let v30 := (bif v24 then true else v29)
  let v34 := (byteAt a1 a18)
  let v35 := (v34 != (10 : Int))
  let v36 := (bif v30 then v35 else false)
  let c_1 := (v19 && v36)
  c_1
def f39_L5_x2 (y : ((List UInt8) × Int × Int × Int × Unit)) (x : (Int × Unit)) : (Unit) :=
  ()
def f39_L5_e2 (y : ((List UInt8) × Int × Int × Int × Unit)) (x : (Int × Unit)) : Bool :=
  let a17 := y.2.2.2.1
  let a18 := x.1
  let v19 := (decide (a18 < a17))
  (!v19)
def f39_L5_ly : List (Nat × Sh) := [(1, (.val .str)), (2, (.val (.int .i64))), (3, (.val (.int .i64))), (17, (.val (.int .i64)))]
def f39_L5_lx : List (Nat × Sh) := [(18, (.val (.int .i64)))]
def f39_L5_les : List (List (Nat × Sh)) := [[(8, (.val (.int .i64)))], [(1, (.val .str)), (2, (.val (.int .i64))), (3, (.val (.int .i64)))]]
def f39_L5_es (y : denL f39_L5_ly) (x : denL f39_L5_lx) : List Comp := [⟨1, some (f39_L5_e1 y x), mkSt [(8, (.val (.int .i64)))] ((f39_L5_x1_0 y x), ()) ++ cutSt⟩, ⟨2, some (f39_L5_e2 y x), mkSt [(1, (.val .str)), (2, (.val (.int .i64))), (3, (.val (.int .i64)))] (y.1, y.2.1, y.2.2.1, ()) ++ cutSt⟩]
def f39_L5_spec : St → Option Out := loopS f39_L5_ly f39_L5_lx f39_L5_g f39_L5_next f39_L5_ok f39_L5_es
def f39 (p0 : D25) (p1 : (List UInt8)) (p2 : Int) (p3 : Int) : Int :=
  let v12 := (f12 p0)
  let v14 := (v12 != (0 : Int))
  let v17 := (len p1)
  let y5 := (p1, p2, p3, v17, ())
  let x5 := ((0 : Int), ())
  let e5 := (loopEnd (f39_L5_g y5) (f39_L5_next y5) x5)
  let r5_1_0 := (f39_L5_x1_0 y5 e5)
  let q5_1 := (f39_L5_e1 y5 e5)
  let v39 := (len p1)
  let v40 := (decide (v39 > (128 : Int)))
  let v42 := (f27 p2 (1 : Int) (1048576 : Int))
  let v43 := (!v42)
  let v46 := (f27 p3 (0 : Int) (1048576 : Int))
  let v47 := (!v46)
  let v48 := (bif v43 then true else v47)
  let m8 := (bif v48 then (2 : Int) else (0 : Int))
  let m8_1 := (bif v40 then (3 : Int) else m8)
  let m8_2 := (bif q5_1 then r5_1_0 else m8_1)
  let m8_3 := (bif v14 then v12 else m8_2)
  m8_3
def f39_ok (p0 : D25) (p1 : (List UInt8)) (p2 : Int) (p3 : Int) : Prop :=
  let v12 := (f12 p0)
  let v14 := (v12 != (0 : Int))
  let v17 := (len p1)
  let y5 := (p1, p2, p3, v17, ())
  let x5 := ((0 : Int), ())
  let e5 := (loopEnd (f39_L5_g y5) (f39_L5_next y5) x5)
  let q5_2 := (f39_L5_e2 y5 e5)
  let v39 := (len p1)
  let v40 := (decide (v39 > (128 : Int)))
  let v42 := (f27 p2 (1 : Int) (1048576 : Int))
  let v43 := (!v42)
  let g44_1 := (!v43)
  ((f12_ok p0) ∧ ((!v14) = true → ((Am.Ends (f39_L5_g y5) (f39_L5_next y5) (f39_L5_ok y5) x5) ∧ (q5_2 = true → ((!v40) = true → ((f27_ok p2 (1 : Int) (1048576 : Int)) ∧ (g44_1 = true → (f27_ok p3 (0 : Int) (1048576 : Int)))))))))
instance (p0 : D25) (p1 : (List UInt8)) (p2 : Int) (p3 : Int) : Decidable (f39_ok p0 p1 p2 p3) := by
  unfold f39_ok
  try dsimp only
  infer_instance
def f39_ps : List (Nat × Sh) := [(0, (.val T25)), (1, (.val .str)), (2, (.val (.int .i64))), (3, (.val (.int .i64)))]
def f39_rs : Sh := (.val (.int .i64))
def f39_os : List (Nat × Sh) := []
def f39_spec : Am.Spec := fnSpec f39_ps f39_rs f39_os (fun x => f39_ok x.1 x.2.1 x.2.2.1 x.2.2.2.1) (fun x => f39 x.1 x.2.1 x.2.2.1 x.2.2.2.1) (fun _ => ())
def f39_ctx : Ctx := { tys := tys, fns := [(12, f12_spec), (27, f27_spec)], loops := [(5, f39_L5_spec)], gh := [], wrap := false, n := 49, keep := [], wr := [] }
theorem f39_cok : CtxOk Tryd.prog f39_ctx := ctxOk_mk tys_ok ⟨f12_is, f27_is, trivial⟩ rfl (by kernel_rfl)
noncomputable def f39_code : Code := Tryd.f39.body.getD .skip
noncomputable def f39_L5 : Code := nthLoop f39_code 0
theorem f39_L5_sum : ∀ y x, sumLoop f39_ctx f39_L5 f39_L5_ly f39_L5_lx f39_L5_les y x = some (f39_L5_ok y x, f39_L5_g y x, y, f39_L5_next y x, f39_L5_es y x) := fun y x => by kernel_rfl
theorem f39_L5_is : LoopSnd Tryd.prog f39_ctx f39_L5 := loop_gen f39_cok mixed (bs := []) (by kernel_rfl) trivial (by kernel_rfl) (by kernel_rfl) f39_L5_sum
theorem f39_sum : ∀ x, sumFn f39_ctx f39_code Tryd.f39.results.toList f39_ps f39_rs f39_os x = some (f39_ok x.1 x.2.1 x.2.2.1 x.2.2.2.1, f39 x.1 x.2.1 x.2.2.1 x.2.2.2.1, ()) := fun x => by kernel_rfl
theorem f39_is : SpecOk Tryd.prog 39 f39_spec := func_gen f39_cok mixed Tryd.func39 (by kernel_rfl) (by decide) rfl (bs := [f39_L5]) (by kernel_rfl) ⟨f39_L5_is, trivial⟩ (by kernel_rfl) (by kernel_rfl) rfl f39_sum
def f90 (p0 : Int) : Int :=
  let v4 := (p0 + (16 : Int))
  let v5 := (Int.tdiv v4 (8 : Int))
  v5
def f90_ok (p0 : Int) : Prop :=
  let v4 := (p0 + (16 : Int))
  (InR (p0 + (16 : Int)) ∧ InR (Int.tdiv v4 (8 : Int)))
instance (p0 : Int) : Decidable (f90_ok p0) := by
  unfold f90_ok
  try dsimp only
  infer_instance
def f90_ps : List (Nat × Sh) := [(0, (.val (.int .i64)))]
def f90_rs : Sh := (.val (.int .i64))
def f90_os : List (Nat × Sh) := []
def f90_spec : Am.Spec := fnSpec f90_ps f90_rs f90_os (fun x => f90_ok x.1) (fun x => f90 x.1) (fun _ => ())
def f90_ctx : Ctx := { tys := tys, fns := [], loops := [], gh := [], wrap := false, n := 6, keep := [], wr := [] }
theorem f90_cok : CtxOk Tryd.prog f90_ctx := ctxOk_mk tys_ok trivial rfl (by kernel_rfl)
noncomputable def f90_code : Code := Tryd.f90.body.getD .skip
theorem f90_sum : ∀ x, sumFn f90_ctx f90_code Tryd.f90.results.toList f90_ps f90_rs f90_os x = some (f90_ok x.1, f90 x.1, ()) := fun x => by kernel_rfl
theorem f90_is : SpecOk Tryd.prog 90 f90_spec := func_gen f90_cok mixed Tryd.func90 (by kernel_rfl) (by decide) rfl (bs := []) (by kernel_rfl) trivial (by kernel_rfl) (by kernel_rfl) rfl f90_sum
def f91 (_p0 : (List UInt8)) (_p1 : (List UInt8)) : Int := (0 : Int)
def f91_ok (_p0 : (List UInt8)) (_p1 : (List UInt8)) : Prop := False
instance (_p0 : (List UInt8)) (_p1 : (List UInt8)) : Decidable (f91_ok _p0 _p1) := by
  unfold f91_ok
  infer_instance
def f91_ps : List (Nat × Sh) := [(0, (.val .str)), (1, (.val .str))]
def f91_rs : Sh := (.val (.int .i64))
def f91_os : List (Nat × Sh) := []
def f91_spec : Am.Spec := fnSpec f91_ps f91_rs f91_os (fun x => f91_ok x.1 x.2.1) (fun x => f91 x.1 x.2.1) (fun _ => ())
theorem f91_is : SpecOk Tryd.prog 91 f91_spec := func_never Tryd.func91 (by kernel_rfl) (by decide)
def f82 (p0 p1 : List UInt8) : Int := Lib.indexByte p0 (p1.headD 0)
def f82_ok (_p0 p1 : List UInt8) : Prop := List.length p1 = 1
instance (p0 p1 : List UInt8) : Decidable (f82_ok p0 p1) := by
  unfold f82_ok
  infer_instance
def f82_ps : List (Nat × Sh) := [(0, (.val .str)), (1, (.val .str))]
def f82_rs : Sh := (.val (.int .i64))
def f82_os : List (Nat × Sh) := []
def f82_spec : Am.Spec := fnSpec f82_ps f82_rs f82_os (fun x => f82_ok x.1 x.2.1) (fun x => f82 x.1 x.2.1) (fun _ => ())
theorem f82_is : SpecOk Tryd.prog 82 f82_spec := spec_byte (F := f82) ⟨_, Tryd.func82, by kernel_rfl, by decide⟩ (fun s c w => Tryd.strings_Index_one s c w)
def f83 (_p0 : (List UInt8)) (_p1 : Int) : (List (List UInt8)) := ([] : List (List UInt8))
def f83_ok (_p0 : (List UInt8)) (_p1 : Int) : Prop := False
instance (_p0 : (List UInt8)) (_p1 : Int) : Decidable (f83_ok _p0 _p1) := by
  unfold f83_ok
  infer_instance
def f83_ps : List (Nat × Sh) := [(0, (.val .str)), (1, (.val (.int .i64)))]
def f83_rs : Sh := (.val (.sl .str))
def f83_os : List (Nat × Sh) := []
def f83_spec : Am.Spec := fnSpec f83_ps f83_rs f83_os (fun x => f83_ok x.1 x.2.1) (fun x => f83 x.1 x.2.1) (fun _ => ())
theorem f83_is : SpecOk Tryd.prog 83 f83_spec := func_never Tryd.func83 (by kernel_rfl) (by decide)
def f87 (_p0 : (List UInt8)) : Int := (0 : Int)
def f87_ok (_p0 : (List UInt8)) : Prop := False
instance (_p0 : (List UInt8)) : Decidable (f87_ok _p0) := by
  unfold f87_ok
  infer_instance
def f87_ps : List (Nat × Sh) := [(0, (.val .str))]
def f87_rs : Sh := (.val (.int .i64))
def f87_os : List (Nat × Sh) := []
def f87_spec : Am.Spec := fnSpec f87_ps f87_rs f87_os (fun x => f87_ok x.1) (fun x => f87 x.1) (fun _ => ())
theorem f87_is : SpecOk Tryd.prog 87 f87_spec := func_never Tryd.func87 (by kernel_rfl) (by decide)
def f84 (p0 p1 : List UInt8) : Int := ((Lib.countByte p0 (p1.headD 0) : Nat) : Int)
def f84_ok (_p0 p1 : List UInt8) : Prop := List.length p1 = 1
instance (p0 p1 : List UInt8) : Decidable (f84_ok p0 p1) := by
  unfold f84_ok
  infer_instance
def f84_ps : List (Nat × Sh) := [(0, (.val .str)), (1, (.val .str))]
def f84_rs : Sh := (.val (.int .i64))
def f84_os : List (Nat × Sh) := []
def f84_spec : Am.Spec := fnSpec f84_ps f84_rs f84_os (fun x => f84_ok x.1 x.2.1) (fun x => f84 x.1 x.2.1) (fun _ => ())
theorem f84_is : SpecOk Tryd.prog 84 f84_spec := spec_byte (F := f84) ⟨_, Tryd.func84, by kernel_rfl, by decide⟩ (fun s c w => Tryd.strings_Count_one s c w)
def f73_L11_g (y : ((List UInt8) × Int × Int × Unit)) (x : ((List UInt8) × (List (List UInt8)) × Int × Unit)) : Bool :=
  let a1 := y.1
  let a3 := y.2.2.1
  let a0 := x.1
  let a10 := x.2.2.1
  let v36 := (decide (a10 < a3))
  let v39 := (f82 a0 a1)
  let v41 := (decide (v39 < (0 : Int)))
  let c := (v36 && (!v41))
  c
def f73_L11_next (y : ((List UInt8) × Int × Int × Unit)) (x : ((List UInt8) × (List (List UInt8)) × Int × Unit)) : ((List UInt8) × (List (List UInt8)) × Int × Unit) :=
  let a1 := y.1
  let a2 := y.2.1
  let a0 := x.1
  let a9 := x.2.1
  let a10 := x.2.2.1
  let v39 := (f82 a0 a1)
  let v47 := (v39 + a2)
  let v48 := (List.take (Int.toNat v47) a0)
  let l1009 := (List.set a9 (Int.toNat a10) v48)
  let v53 := (len a1)
  let v54 := (v39 + v53)
  let v55 := (List.drop (Int.toNat v54) a0)
  let v57 := (a10 + (1 : Int))
  (v55, l1009, v57, ())
def f73_L11_ok (y : ((List UInt8) × Int × Int × Unit)) (x : ((List UInt8) × (List (List UInt8)) × Int × Unit)) : Prop :=
  let a1 := y.1
  let a2 := y.2.1
  let a3 := y.2.2.1
  let a0 := x.1
  let a9 := x.2.1
  let a10 := x.2.2.1
  let v36 := (decide (a10 < a3))
  let v39 := (f82 a0 a1)
  let v41 := (decide (v39 < (0 : Int)))
  let v47 := (v39 + a2)
  let v53 := (len a1)
  let v54 := (v39 + v53)
  (v36 = true → ((f82_ok a0 a1) ∧ ((!v41) = true → (InR (v39 + a2) ∧ ((0 ≤ v47 ∧ v47 ≤ len a0) ∧ (InB a10 (len a9) ∧ (a10 < len a9 ∧ (InR (v39 + v53) ∧ ((0 ≤ v54 ∧ v54 ≤ len a0) ∧ InR (a10 + (1 : Int)))))))))))
instance (y : ((List UInt8) × Int × Int × Unit)) (x : ((List UInt8) × (List (List UInt8)) × Int × Unit)) : Decidable (f73_L11_ok y x) := by
  unfold f73_L11_ok
  try dsimp only
  infer_instance
def f73_L11_x2 (y : ((List UInt8) × Int × Int × Unit)) (x : ((List UInt8) × (List (List UInt8)) × Int × Unit)) : ((List UInt8) × (List (List UInt8)) × Int × Unit) :=
  let a0 := x.1
  let a9 := x.2.1
  let a10 := x.2.2.1
  (a0, a9, a10, ())
def f73_L11_x2_0 (y : ((List UInt8) × Int × Int × Unit)) (x : ((List UInt8) × (List (List UInt8)) × Int × Unit)) : (List UInt8) := (f73_L11_x2 y x).1
def f73_L11_x2_1 (y : ((List UInt8) × Int × Int × Unit)) (x : ((List UInt8) × (List (List UInt8)) × Int × Unit)) : (List (List UInt8)) := (f73_L11_x2 y x).2.1
def f73_L11_x2_2 (y : ((List UInt8) × Int × Int × Unit)) (x : ((List UInt8) × (List (List UInt8)) × Int × Unit)) : Int := (f73_L11_x2 y x).2.2.1
def f73_L11_ly : List (Nat × Sh) := [(1, (.val .str)), (2, (.val (.int .i64))), (3, (.val (.int .i64)))]
def f73_L11_lx : List (Nat × Sh) := [(0, (.val .str)), (9, (.own .str 1009 true)), (10, (.val (.int .i64)))]
def f73_L11_les : List (List (Nat × Sh)) := [[(0, (.val .str)), (9, (.own .str 1009 true)), (10, (.val (.int .i64)))]]
def f73_L11_es (y : denL f73_L11_ly) (x : denL f73_L11_lx) : List Comp := [⟨2, none, mkSt [(0, (.val .str)), (9, (.own .str 1009 true)), (10, (.val (.int .i64)))] ((f73_L11_x2_0 y x), (f73_L11_x2_1 y x), (f73_L11_x2_2 y x), ()) ++ cutSt⟩]
def f73_L11_spec : St → Option Out := loopS f73_L11_ly f73_L11_lx f73_L11_g f73_L11_next f73_L11_ok f73_L11_es
def f73 (p0 : (List UInt8)) (p1 : (List UInt8)) (p2 : Int) (p3 : Int) : (List (List UInt8)) :=
  let v13 := (p3 == (0 : Int))
  let v15 := (p1 == ([] : List UInt8))
  let v18 := (f83 p0 p3)
  let v20 := (decide (p3 < (0 : Int)))
  let v23 := (f84 p0 p1)
  let v24 := (v23 + (1 : Int))
  let m3 := (bif v20 then v24 else p3)
  let v27 := (len p0)
  let v28 := (v27 + (1 : Int))
  let v29 := (imin m3 v28)
  let v31 := (List.replicate (Int.toNat v29) ([] : List UInt8))
  let v33 := (v29 - (1 : Int))
  let y11 := (p1, p2, v33, ())
  let x11 := (p0, v31, (0 : Int), ())
  let e11 := (loopEnd (f73_L11_g y11) (f73_L11_next y11) x11)
  let r11_2_0 := (f73_L11_x2_0 y11 e11)
  let r11_2_1 := (f73_L11_x2_1 y11 e11)
  let r11_2_2 := (f73_L11_x2_2 y11 e11)
  let l1009 := (List.set r11_2_1 (Int.toNat r11_2_2) r11_2_0)
  let v64 := (r11_2_2 + (1 : Int))
  let v65 := (List.take (Int.toNat v64) l1009)
  let m8 := (bif v15 then v18 else v65)
  let m8_1 := (bif v13 then [] else m8)
  m8_1
def f73_ok (p0 : (List UInt8)) (p1 : (List UInt8)) (p2 : Int) (p3 : Int) : Prop :=
  let v13 := (p3 == (0 : Int))
  let v15 := (p1 == ([] : List UInt8))
  let v20 := (decide (p3 < (0 : Int)))
  let v23 := (f84 p0 p1)
  let v24 := (v23 + (1 : Int))
  let m3 := (bif v20 then v24 else p3)
  let v27 := (len p0)
  let v28 := (v27 + (1 : Int))
  let v29 := (imin m3 v28)
  let v31 := (List.replicate (Int.toNat v29) ([] : List UInt8))
  let v33 := (v29 - (1 : Int))
  let y11 := (p1, p2, v33, ())
  let x11 := (p0, v31, (0 : Int), ())
  let e11 := (loopEnd (f73_L11_g y11) (f73_L11_next y11) x11)
  let r11_2_0 := (f73_L11_x2_0 y11 e11)
  let r11_2_1 := (f73_L11_x2_1 y11 e11)
  let r11_2_2 := (f73_L11_x2_2 y11 e11)
  let l1009 := (List.set r11_2_1 (Int.toNat r11_2_2) r11_2_0)
  let v64 := (r11_2_2 + (1 : Int))
  ((!v13) = true → ((v15 = true → (f83_ok p0 p3)) ∧ ((!v15) = true → ((v20 = true → ((f84_ok p0 p1) ∧ InR (v23 + (1 : Int)))) ∧ (InR (v27 + (1 : Int)) ∧ ((0 ≤ v29 ∧ v29 ≤ v29 ∧ v29 ≤ 4294967296) ∧ (InR (v29 - (1 : Int)) ∧ ((Am.Ends (f73_L11_g y11) (f73_L11_next y11) (f73_L11_ok y11) x11) ∧ (InB r11_2_2 (len r11_2_1) ∧ (r11_2_2 < len r11_2_1 ∧ (InR (r11_2_2 + (1 : Int)) ∧ (0 ≤ v64 ∧ v64 ≤ len l1009))))))))))))
instance (p0 : (List UInt8)) (p1 : (List UInt8)) (p2 : Int) (p3 : Int) : Decidable (f73_ok p0 p1 p2 p3) := by
  unfold f73_ok
  try dsimp only
  infer_instance
def f73_ps : List (Nat × Sh) := [(0, (.val .str)), (1, (.val .str)), (2, (.val (.int .i64))), (3, (.val (.int .i64)))]
def f73_rs : Sh := (.val (.sl .str))
def f73_os : List (Nat × Sh) := []
def f73_spec : Am.Spec := fnSpec f73_ps f73_rs f73_os (fun x => f73_ok x.1 x.2.1 x.2.2.1 x.2.2.2.1) (fun x => f73 x.1 x.2.1 x.2.2.1 x.2.2.2.1) (fun _ => ())
def f73_ctx : Ctx := { tys := tys, fns := [(82, f82_spec), (83, f83_spec), (84, f84_spec)], loops := [(11, f73_L11_spec)], gh := [(17, [(4, 0, 31, 1009)]), (36, [(1, 9, 0, 0)])], wrap := false, n := 66, keep := [], wr := [31] }
theorem f73_cok : CtxOk Tryd.prog f73_ctx := ctxOk_mk tys_ok ⟨f82_is, f83_is, f84_is, trivial⟩ rfl (by kernel_rfl)
noncomputable def f73_code : Code := Tryd.f73.body.getD .skip
noncomputable def f73_L11 : Code := nthLoop f73_code 0
theorem f73_L11_sum : ∀ y x, sumLoop f73_ctx f73_L11 f73_L11_ly f73_L11_lx f73_L11_les y x = some (f73_L11_ok y x, f73_L11_g y x, y, f73_L11_next y x, f73_L11_es y x) := fun y x => by kernel_rfl
theorem f73_L11_is : LoopSnd Tryd.prog f73_ctx f73_L11 := loop_gen f73_cok mixed (bs := []) (by kernel_rfl) trivial (by kernel_rfl) (by kernel_rfl) f73_L11_sum
theorem f73_sum : ∀ x, sumFn f73_ctx f73_code Tryd.f73.results.toList f73_ps f73_rs f73_os x = some (f73_ok x.1 x.2.1 x.2.2.1 x.2.2.2.1, f73 x.1 x.2.1 x.2.2.1 x.2.2.2.1, ()) := fun x => by kernel_rfl
theorem f73_is : SpecOk Tryd.prog 73 f73_spec := func_gen f73_cok mixed Tryd.func73 (by kernel_rfl) (by decide) rfl (bs := [f73_L11]) (by kernel_rfl) ⟨f73_L11_is, trivial⟩ (by kernel_rfl) (by kernel_rfl) rfl f73_sum
def f62 (p0 : (List UInt8)) (p1 : (List UInt8)) : (List (List UInt8)) :=
  let v7 := (f73 p0 p1 (0 : Int) (-1 : Int))
  v7
def f62_ok (p0 : (List UInt8)) (p1 : (List UInt8)) : Prop :=
  (f73_ok p0 p1 (0 : Int) (-1 : Int))
instance (p0 : (List UInt8)) (p1 : (List UInt8)) : Decidable (f62_ok p0 p1) := by
  unfold f62_ok
  try dsimp only
  infer_instance
def f62_ps : List (Nat × Sh) := [(0, (.val .str)), (1, (.val .str))]
def f62_rs : Sh := (.val (.sl .str))
def f62_os : List (Nat × Sh) := []
def f62_spec : Am.Spec := fnSpec f62_ps f62_rs f62_os (fun x => f62_ok x.1 x.2.1) (fun x => f62 x.1 x.2.1) (fun _ => ())
def f62_ctx : Ctx := { tys := tys, fns := [(73, f73_spec)], loops := [], gh := [], wrap := false, n := 8, keep := [], wr := [] }
theorem f62_cok : CtxOk Tryd.prog f62_ctx := ctxOk_mk tys_ok ⟨f73_is, trivial⟩ rfl (by kernel_rfl)
noncomputable def f62_code : Code := Tryd.f62.body.getD .skip
theorem f62_sum : ∀ x, sumFn f62_ctx f62_code Tryd.f62.results.toList f62_ps f62_rs f62_os x = some (f62_ok x.1 x.2.1, f62 x.1 x.2.1, ()) := fun x => by kernel_rfl
theorem f62_is : SpecOk Tryd.prog 62 f62_spec := func_gen f62_cok mixed Tryd.func62 (by kernel_rfl) (by decide) rfl (bs := []) (by kernel_rfl) trivial (by kernel_rfl) (by kernel_rfl) rfl f62_sum
def f40r_L7_g (y : (D91 × Int × Int × (List (List UInt8)) × Int × Unit)) (x : ((List (List UInt8)) × (List UInt8) × Int × Unit)) : Bool :=
  let a26 := y.2.2.2.2.1
  let a27 := x.2.2.1
  let v28 := (decide (a27 < a26))
  v28
def f40r_L7_next (y : (D91 × Int × Int × (List (List UInt8)) × Int × Unit)) (x : ((List (List UInt8)) × (List UInt8) × Int × Unit)) : ((List (List UInt8)) × (List UInt8) × Int × Unit) :=
  let a4 := y.1
  let a6 := y.2.1
  let a7 := y.2.2.1
  let a25 := y.2.2.2.1
  let a9 := x.1
  let a12 := x.2.1
  let a27 := x.2.2.1
  let v29 := (nth a25 a27 ([] : List UInt8))
  let v32 := (a12 ++ ([32] : List UInt8))
  let v34 := (v32 ++ v29)
  let v36 := (a7 == (0 : Int))
  let v41 := (f33 a4 v34 a6)
  let v43 := (decide (v41 ≤ a7))
  let v44 := (bif v36 then true else v43)
  let v48 := ([a12] : List (List UInt8))
  let v49 := (a9 ++ v48)
  let m9 := (bif v44 then a9 else v49)
  let m12 := (bif v44 then v34 else v29)
  let v51 := (a27 + (1 : Int))
  (m9, m12, v51, ())
def f40r_L7_ok (y : (D91 × Int × Int × (List (List UInt8)) × Int × Unit)) (x : ((List (List UInt8)) × (List UInt8) × Int × Unit)) : Prop :=
  let a4 := y.1
  let a6 := y.2.1
  let a7 := y.2.2.1
  let a25 := y.2.2.2.1
  let a26 := y.2.2.2.2.1
  let a9 := x.1
  let a12 := x.2.1
  let a27 := x.2.2.1
  let v28 := (decide (a27 < a26))
  let v29 := (nth a25 a27 ([] : List UInt8))
  let v32 := (a12 ++ ([32] : List UInt8))
  let v34 := (v32 ++ v29)
  let v36 := (a7 == (0 : Int))
  let g37_3 := (!v36)
  let v41 := (f33 a4 v34 a6)
  let v43 := (decide (v41 ≤ a7))
  let v44 := (bif v36 then true else v43)
  let v48 := ([a12] : List (List UInt8))
  (v28 = true → (InB a27 (len a25) ∧ (((List.length a12 + List.length ([32] : List UInt8) : Nat) : Int) ≤ 9223372036854775807 ∧ (((List.length v32 + List.length v29 : Nat) : Int) ≤ 9223372036854775807 ∧ ((g37_3 = true → (f33_ok a4 v34 a6)) ∧ ((v44 = false → ((List.length a9 + List.length v48 : Nat) : Int) ≤ 4294967296) ∧ InR (a27 + (1 : Int))))))))
instance (y : (D91 × Int × Int × (List (List UInt8)) × Int × Unit)) (x : ((List (List UInt8)) × (List UInt8) × Int × Unit)) : Decidable (f40r_L7_ok y x) := by
  unfold f40r_L7_ok
  try dsimp only
  infer_instance
def f40r_L7_x4 (y : (D91 × Int × Int × (List (List UInt8)) × Int × Unit)) (x : ((List (List UInt8)) × (List UInt8) × Int × Unit)) : ((List (List UInt8)) × (List UInt8) × Unit) :=
  let a9 := x.1
  let a12 := x.2.1
  (a9, a12, ())
def f40r_L7_x4_0 (y : (D91 × Int × Int × (List (List UInt8)) × Int × Unit)) (x : ((List (List UInt8)) × (List UInt8) × Int × Unit)) : (List (List UInt8)) := (f40r_L7_x4 y x).1
def f40r_L7_x4_1 (y : (D91 × Int × Int × (List (List UInt8)) × Int × Unit)) (x : ((List (List UInt8)) × (List UInt8) × Int × Unit)) : (List UInt8) := (f40r_L7_x4 y x).2.1
def f40r_L7_ly : List (Nat × Sh) := [(4, (.box (.ptr T91) (.val (.ptr T91)))), (6, (.box (.int .i64) (.val (.int .i64)))), (7, (.box (.int .i64) (.val (.int .i64)))), (25, (.val (.sl .str))), (26, (.val (.int .i64)))]
def f40r_L7_lx : List (Nat × Sh) := [(9, (.box (.sl .str) (.own .str 400900 false))), (12, (.val .str)), (27, (.val (.int .i64)))]
def f40r_L7_les : List (List (Nat × Sh)) := [[(4, (.box (.ptr T91) (.val (.ptr T91)))), (6, (.box (.int .i64) (.val (.int .i64)))), (7, (.box (.int .i64) (.val (.int .i64)))), (9, (.box (.sl .str) (.own .str 400900 false))), (12, (.val .str))]]
def f40r_L7_es (y : denL f40r_L7_ly) (x : denL f40r_L7_lx) : List Comp := [⟨4, none, mkSt [(4, (.box (.ptr T91) (.val (.ptr T91)))), (6, (.box (.int .i64) (.val (.int .i64)))), (7, (.box (.int .i64) (.val (.int .i64)))), (9, (.box (.sl .str) (.own .str 400900 false))), (12, (.val .str))] (y.1, y.2.1, y.2.2.1, (f40r_L7_x4_0 y x), (f40r_L7_x4_1 y x), ()) ++ cutSt⟩]
def f40r_L7_spec : St → Option Out := loopS f40r_L7_ly f40r_L7_lx f40r_L7_g f40r_L7_next f40r_L7_ok f40r_L7_es
def f40r (p0 : D91) (p1 : Int) (p2 : Int) (p3 : (List (List UInt8))) (p4 : (List UInt8)) : (Unit) :=
  ()
def f40r_ok (p0 : D91) (p1 : Int) (p2 : Int) (p3 : (List (List UInt8))) (p4 : (List UInt8)) : Prop :=
  let v20 := (f62 p4 ([32] : List UInt8))
  let v22 := (nth v20 (0 : Int) ([] : List UInt8))
  let v25 := (List.drop (Int.toNat (1 : Int)) v20)
  let v26 := (len v25)
  let y7 := (p0, p1, p2, v25, v26, ())
  let x7 := (p3, v22, (0 : Int), ())
  let e7 := (loopEnd (f40r_L7_g y7) (f40r_L7_next y7) x7)
  let r7_4_0 := (f40r_L7_x4_0 y7 e7)
  let r7_4_1 := (f40r_L7_x4_1 y7 e7)
  let v54 := ([r7_4_1] : List (List UInt8))
  ((f62_ok p4 ([32] : List UInt8)) ∧ (InB (0 : Int) (len v20) ∧ ((0 ≤ (1 : Int) ∧ (1 : Int) ≤ len v20) ∧ ((Am.Ends (f40r_L7_g y7) (f40r_L7_next y7) (f40r_L7_ok y7) x7) ∧ ((List.length r7_4_0 + List.length v54 : Nat) : Int) ≤ 4294967296))))
instance (p0 : D91) (p1 : Int) (p2 : Int) (p3 : (List (List UInt8))) (p4 : (List UInt8)) : Decidable (f40r_ok p0 p1 p2 p3 p4) := by
  unfold f40r_ok
  try dsimp only
  infer_instance
def f40r_o (p0 : D91) (p1 : Int) (p2 : Int) (p3 : (List (List UInt8))) (p4 : (List UInt8)) : (D91 × Int × Int × (List (List UInt8)) × Unit) :=
  let v20 := (f62 p4 ([32] : List UInt8))
  let v22 := (nth v20 (0 : Int) ([] : List UInt8))
  let v25 := (List.drop (Int.toNat (1 : Int)) v20)
  let v26 := (len v25)
  let y7 := (p0, p1, p2, v25, v26, ())
  let x7 := (p3, v22, (0 : Int), ())
  let e7 := (loopEnd (f40r_L7_g y7) (f40r_L7_next y7) x7)
  let r7_4_0 := (f40r_L7_x4_0 y7 e7)
  let r7_4_1 := (f40r_L7_x4_1 y7 e7)
  let v54 := ([r7_4_1] : List (List UInt8))
  let v55 := (r7_4_0 ++ v54)
  (p0, p1, p2, v55, ())
def f40r_ps : List (Nat × Sh) := [(4, (.box (.ptr T91) (.val (.ptr T91)))), (6, (.box (.int .i64) (.val (.int .i64)))), (7, (.box (.int .i64) (.val (.int .i64)))), (9, (.box (.sl .str) (.own .str 400900 false))), (10, (.val .str))]
def f40r_rs : Sh := (.tup .nl)
def f40r_os : List (Nat × Sh) := [(4, (.box (.ptr T91) (.val (.ptr T91)))), (6, (.box (.int .i64) (.val (.int .i64)))), (7, (.box (.int .i64) (.val (.int .i64)))), (9, (.box (.sl .str) (.own .str 400900 false)))]
def f40r_ctx : Ctx := { tys := tys, fns := [(33, f33_spec), (62, f62_spec)], loops := [(7, f40r_L7_spec)], gh := [(25, [(4, 0, 49, 400900)]), (31, [(4, 0, 55, 400900)])], wrap := false, n := 57, keep := [4, 6, 7, 9], wr := [] }
theorem f40r_cok : CtxOk Tryd.prog f40r_ctx := ctxOk_mk tys_ok ⟨f33_is, f62_is, trivial⟩ rfl (by kernel_rfl)
noncomputable def f40r_code : Code := (rfBody (Tryd.f40.body.getD .skip)).getD .skip
noncomputable def f40r_L7 : Code := nthLoop f40r_code 0
theorem f40r_L7_sum : ∀ y x, sumLoop f40r_ctx f40r_L7 f40r_L7_ly f40r_L7_lx f40r_L7_les y x = some (f40r_L7_ok y x, f40r_L7_g y x, y, f40r_L7_next y x, f40r_L7_es y x) := fun y x => by kernel_rfl
theorem f40r_L7_is : LoopSnd Tryd.prog f40r_ctx f40r_L7 := loop_gen f40r_cok mixed (bs := []) (by kernel_rfl) trivial (by kernel_rfl) (by kernel_rfl) f40r_L7_sum
theorem f40r_on : ∀ x, onlyOn f40r_ctx f40r_code (startSt f40r_ps x) = true := fun x => by kernel_rfl
theorem f40r_sum : ∀ x, sumFn f40r_ctx f40r_code [] f40r_ps f40r_rs f40r_os x = some (f40r_ok x.1 x.2.1 x.2.2.1 x.2.2.2.1 x.2.2.2.2.1, (), f40r_o x.1 x.2.1 x.2.2.1 x.2.2.2.1 x.2.2.2.2.1) := fun x => by kernel_rfl
theorem f40r_is : PieceOk Tryd.prog f40r_ctx f40r_code f40r_ps f40r_os (fun x => f40r_ok x.1 x.2.1 x.2.2.1 x.2.2.2.1 x.2.2.2.2.1) (fun x => f40r_o x.1 x.2.1 x.2.2.1 x.2.2.2.1 x.2.2.2.2.1) := piece_gen (rs := f40r_rs) (F := fun _ => ()) f40r_cok mixed (bs := [f40r_L7]) (by kernel_rfl) ⟨f40r_L7_is, trivial⟩ (by kernel_rfl) f40r_on f40r_sum
end Go.Proofs.YtnemgdgminolpaaDoor.Am
