/- Printed by program: the functions that the statements reach, as plain functions, and their contracts. No condition. -/
import Derived.Test.YtigpekbhmpfcoaaGreatDoorMach4
import Derived.Test.YtigpekbhmpfcoaaGreatDoorRetI
import Derived.Test.YtigpekbhmpfcoaaGreatDoorRetH
import Derived.Test.YtigpekbhmpfcoaaGreatDoorProg
set_option linter.unusedVariables false
set_option synthInstance.maxSize 4000
set_option synthInstance.maxHeartbeats 400000
namespace Go.Proofs.YtigpekbhmpfcoaaGreatDoor.Am
open Go Go.Am Go.Proofs
abbrev T24:Ty:=.st (.cons (.int .i64) (.cons (.int .i64) (.cons (.sl (.int .i64)) .nl)))
abbrev D24:Type:=Int × Int × (List Int) × Unit
abbrev Z24:D24:=((0:Int),(0:Int),([]:List Int),())
abbrev T45:Ty:=.st (.cons (.int .i64) (.cons (.int .i64) (.cons (.int .i64) (.cons (.int .i64) (.cons (.int .i64) (.cons (.int .i64) .nl))))))
abbrev D45:Type:=Int × Int × Int × Int × Int × Int × Unit
abbrev Z45:D45:=((0:Int),(0:Int),(0:Int),(0:Int),(0:Int),(0:Int),())
abbrev T50:Ty:=.st (.cons (.int .i64) (.cons (.int .i64) (.cons (.int .i64) (.cons (.int .i64) .nl))))
abbrev D50:Type:=Int × Int × Int × Int × Unit
abbrev Z50:D50:=((0:Int),(0:Int),(0:Int),(0:Int),())
abbrev T48:Ty:=.st (.cons (.int .i64) (.cons (.int .i64) (.cons (.sl T50) .nl)))
abbrev D48:Type:=Int × Int × (List D50) × Unit
abbrev Z48:D48:=((0:Int),(0:Int),([]:List D50),())
abbrev T91:Ty:=.st (.cons (.int .i64) (.cons T50 .nl))
abbrev D91:Type:=Int × D50 × Unit
abbrev Z91:D91:=((0:Int),Z50,())
abbrev T94:Ty:=.st (.cons (.int .i64) (.cons (.int .i64) .nl))
abbrev D94:Type:=Int × Int × Unit
abbrev Z94:D94:=((0:Int),(0:Int),())
abbrev T97:Ty:=.st (.cons (.int .i64) (.cons (.arr 3 T94) .nl))
abbrev D97:Type:=Int × (List D94) × Unit
abbrev Z97:D97:=((0:Int),(List.replicate 3 Z94),())
abbrev T55:Ty:=.st (.cons (.int .i64) (.cons (.int .i64) (.cons (.int .i64) (.cons (.sl T94) .nl))))
abbrev D55:Type:=Int × Int × Int × (List D94) × Unit
abbrev Z55:D55:=((0:Int),(0:Int),(0:Int),([]:List D94),())
abbrev T57:Ty:=.st (.cons (.int .i64) (.cons (.int .i64) (.cons (.int .i64) (.cons .str (.cons .bool (.cons .bool (.cons .bool (.cons (.int .i64) (.cons (.int .i64) (.cons T24 (.cons T45 (.cons (.int .i64) (.cons T48 (.cons T50 (.cons (.int .i64) (.cons (.sl (.int .i64)) (.cons (.int .i64) (.cons (.sl T91) (.cons (.sl T97) (.cons (.int .i64) (.cons (.int .i64) (.cons (.int .i64) (.cons (.int .i64) (.cons .str (.cons (.int .i64) (.cons (.int .i64) (.cons (.int .i64) (.cons T55 .nl))))))))))))))))))))))))))))
abbrev D57:Type:=Int × Int × Int × (List UInt8) × Bool × Bool × Bool × Int × Int × D24 × D45 × Int × D48 × D50 × Int × (List Int) × Int × (List D91) × (List D97) × Int × Int × Int × Int × (List UInt8) × Int × Int × Int × D55 × Unit
abbrev Z57:D57:=((0:Int),(0:Int),(0:Int),([]:List UInt8),false,false,false,(0:Int),(0:Int),Z24,Z45,(0:Int),Z48,Z50,(0:Int),([]:List Int),(0:Int),([]:List D91),([]:List D97),(0:Int),(0:Int),(0:Int),(0:Int),([]:List UInt8),(0:Int),(0:Int),(0:Int),Z55,())
abbrev T66:Ty:=.st (.cons .str (.cons .str .nl))
abbrev D66:Type:=(List UInt8) × (List UInt8) × Unit
abbrev Z66:D66:=(([]:List UInt8),([]:List UInt8),())
abbrev T74:Ty:=.st (.cons (.int .i64) (.cons .str (.cons (.int .i64) (.cons (.int .i64) (.cons T48 .nl)))))
abbrev D74:Type:=Int × (List UInt8) × Int × Int × D48 × Unit
abbrev Z74:D74:=((0:Int),([]:List UInt8),(0:Int),(0:Int),Z48,())
abbrev T28:Ty:=.st (.cons (.int .i64) (.cons (.int .i64) (.cons (.int .i64) (.cons (.sl T57) (.cons (.int .i64) (.cons T24 (.cons (.sl T66) (.cons (.sl T74) .nl))))))))
abbrev D28:Type:=Int × Int × Int × (List D57) × Int × D24 × (List D66) × (List D74) × Unit
abbrev Z28:D28:=((0:Int),(0:Int),(0:Int),([]:List D57),(0:Int),Z24,([]:List D66),([]:List D74),())
abbrev T32:Ty:=.st (.cons T50 (.cons T50 (.cons (.int .i64) (.cons (.sl T57) (.cons (.sl T57) (.cons T24 (.cons T24 (.cons (.sl T66) (.cons (.sl T66) (.cons (.sl T74) (.cons (.sl T74) .nl)))))))))))
abbrev D32:Type:=D50 × D50 × Int × (List D57) × (List D57) × D24 × D24 × (List D66) × (List D66) × (List D74) × (List D74) × Unit
abbrev T184:Ty:=.st (.cons (.int .u8) (.cons (.int .i64) (.cons (.sl T97) .nl)))
abbrev D184:Type:=Int × Int × (List D97) × Unit
abbrev Z184:D184:=((0:Int),(0:Int),([]:List D97),())
abbrev T189:Ty:=.st (.cons (.int .u8) (.cons (.int .u8) (.cons (.int .i64) .nl)))
abbrev D189:Type:=Int × Int × Int × Unit
abbrev Z189:D189:=((0:Int),(0:Int),(0:Int),())
abbrev T155:Ty:=.st (.cons (.int .i64) (.cons (.int .i64) (.cons (.int .i64) (.cons (.sl T184) (.cons (.sl T189) .nl)))))
abbrev D155:Type:=Int × Int × Int × (List D184) × (List D189) × Unit
abbrev T171:Ty:=.st (.cons (.int .i64) (.cons (.int .i64) (.cons (.int .i64) (.cons (.sl (.sl T94)) (.cons (.int .i64) .nl)))))
abbrev T205:Ty:=.st (.cons T155 (.cons (.arr 256 (.int .i64)) .nl))
abbrev D205:Type:=D155 × (List Int) × Unit
abbrev T197:Ty:=.st (.cons T94 (.cons T94 (.cons T94 (.cons T94 (.cons T94 .nl)))))
abbrev D197:Type:=D94 × D94 × D94 × D94 × D94 × Unit
abbrev Z197:D197:=(Z94,Z94,Z94,Z94,Z94,())
abbrev T246:Ty:=.st (.cons (.int .u16) (.cons (.int .u16) (.cons (.int .u16) .nl)))
abbrev T249:Ty:=.st (.cons (.int .u32) (.cons (.int .u32) (.cons (.int .u32) .nl)))
abbrev T243:Ty:=.st (.cons (.sl T246) (.cons (.sl T249) (.cons (.int .i64) .nl)))
def G0:(List Int):=[0,0,0,0,0,0,0,0,0,1,1,1,1,1,0,0,0,0,0,0,0,0,0,0,0,0,0,0,0,0,0,0,1,0,0,0,0,0,0,0,0,0,0,0,0,0,0,0,0,0,0,0,0,0,0,0,0,0,0,0,0,0,0,0,0,0,0,0,0,0,0,0,0,0,0,0,0,0,0,0,0,0,0,0,0,0,0,0,0,0,0,0,0,0,0,0,0,0,0,0,0,0,0,0,0,0,0,0,0,0,0,0,0,0,0,0,0,0,0,0,0,0,0,0,0,0,0,0,0,0,0,0,0,0,0,0,0,0,0,0,0,0,0,0,0,0,0,0,0,0,0,0,0,0,0,0,0,0,0,0,0,0,0,0,0,0,0,0,0,0,0,0,0,0,0,0,0,0,0,0,0,0,0,0,0,0,0,0,0,0,0,0,0,0,0,0,0,0,0,0,0,0,0,0,0,0,0,0,0,0,0,0,0,0,0,0,0,0,0,0,0,0,0,0,0,0,0,0,0,0,0,0,0,0,0,0,0,0,0,0,0,0,0,0,0,0,0,0,0,0,0,0,0,0,0,0]
def G5:(List Int):=[0,1608,3216,4821,6424,8022,9616,11204,12785,14359,15924,17479,19024,20557,22078,23586,25080,26558,28020,29466,30893,32303,33692,35062,36410,37736,39040,40320,41576,42806,44011,45190,46341,47464,48559,49624,50660,51665,52639,53581,54491,55368,56212,57022,57798,58538,59244,59914,60547,61145,61705,62228,62714,63162,63572,63944,64277,64571,64827,65043,65220,65358,65457,65516,65536]
instance:GlobTab:=⟨⟨[(0,⟨(.arr 256 (.int .u8)),G0⟩),(5,⟨(.arr 65 (.int .i64)),G5⟩)]⟩⟩
set_option maxRecDepth 20000 in
def lit0:List UInt8:=[48,48,48,48,48,48,48,48,48,48,32,48,48,48,48,53,102,48,48,48,48,32,48,48,48,55,48,48,48,55,48,48,32,49,52,55,102,49,52,55,102,49,52,32,50,52,50,97,55,102,50,97,49,50,32,50,51,49,51,48,56,54,52,54,50,32,51,54,52,57,53,54,50,48,53,48,32,48,48,48,53,48,51,48,48,48,48,32,48,48,49,99,50,50,52,49,48,48,32,48,48,52,49,50,50,49,99,48,48,32,49,52,48,56,51,101,48,56,49,52,32,48,56,48,56,51,101,48,56,48,56,32,48,48,53,48,51,48,48,48,48,48,32,48,56,48,56,48,56,48,56,48,56,32,48,48,54,48,54,48,48,48,48,48,32,50,48,49,48,48,56,48,52,48,50,32,51,101,53,49,52,57,52,53,51,101,32,48,48,52,50,55,102,52,48,48,48,32,52,50,54,49,53,49,52,57,52,54,32,50,49,52,49,52,53,52,98,51,49,32,49,56,49,52,49,50,55,102,49,48,32,50,55,52,53,52,53,52,53,51,57,32,51,99,52,97,52,57,52,57,51,48,32,48,49,55,49,48,57,48,53,48,51,32,51,54,52,57,52,57,52,57,51,54,32,48,54,52,57,52,57,50,57,49,101,32,48,48,51,54,51,54,48,48,48,48,32,48,48,53,54,51,54,48,48,48,48,32,48,56,49,52,50,50,52,49,48,48,32,49,52,49,52,49,52,49,52,49,52,32,48,48,52,49,50,50,49,52,48,56,32,48,50,48,49,53,49,48,57,48,54,32,51,50,52,57,55,57,52,49,51,101,32,55,101,49,49,49,49,49,49,55,101,32,55,102,52,57,52,57,52,57,51,54,32,51,101,52,49,52,49,52,49,50,50,32,55,102,52,49,52,49,50,50,49,99,32,55,102,52,57,52,57,52,57,52,49,32,55,102,48,57,48,57,48,57,48,49,32,51,101,52,49,52,57,52,57,55,97,32,55,102,48,56,48,56,48,56,55,102,32,48,48,52,49,55,102,52,49,48,48,32,50,48,52,48,52,49,51,102,48,49,32,55,102,48,56,49,52,50,50,52,49,32,55,102,52,48,52,48,52,48,52,48,32,55,102,48,50,48,99,48,50,55,102,32,55,102,48,52,48,56,49,48,55,102,32,51,101,52,49,52,49,52,49,51,101,32,55,102,48,57,48,57,48,57,48,54,32,51,101,52,49,53,49,50,49,53,101,32,55,102,48,57,49,57,50,57,52,54,32,52,54,52,57,52,57,52,57,51,49,32,48,49,48,49,55,102,48,49,48,49,32,51,102,52,48,52,48,52,48,51,102,32,49,102,50,48,52,48,50,48,49,102,32,51,102,52,48,51,56,52,48,51,102,32,54,51,49,52,48,56,49,52,54,51,32,48,55,48,56,55,48,48,56,48,55,32,54,49,53,49,52,57,52,53,52,51,32,48,48,55,102,52,49,52,49,48,48,32,48,50,48,52,48,56,49,48,50,48,32,48,48,52,49,52,49,55,102,48,48,32,48,52,48,50,48,49,48,50,48,52,32,52,48,52,48,52,48,52,48,52,48,32,48,48,48,49,48,50,48,52,48,48,32,50,48,53,52,53,52,53,52,55,56,32,55,102,52,56,52,52,52,52,51,56,32,51,56,52,52,52,52,52,52,50,48,32,51,56,52,52,52,52,52,56,55,102,32,51,56,53,52,53,52,53,52,49,56,32,48,56,55,101,48,57,48,49,48,50,32,48,99,53,50,53,50,53,50,51,101,32,55,102,48,56,48,52,48,52,55,56,32,48,48,52,52,55,100,52,48,48,48,32,50,48,52,48,52,52,51,100,48,48,32,55,102,49,48,50,56,52,52,48,48,32,48,48,52,49,55,102,52,48,48,48,32,55,99,48,52,49,56,48,52,55,56,32,55,99,48,56,48,52,48,52,55,56,32,51,56,52,52,52,52,52,52,51,56,32,55,99,49,52,49,52,49,52,48,56,32,48,56,49,52,49,52,49,56,55,99,32,55,99,48,56,48,52,48,52,48,56,32,52,56,53,52,53,52,53,52,50,48,32,48,52,51,102,52,52,52,48,50,48,32,51,99,52,48,52,48,50,48,55,99,32,49,99,50,48,52,48,50,48,49,99,32,51,99,52,48,51,48,52,48,51,99,32,52,52,50,56,49,48,50,56,52,52,32,48,99,53,48,53,48,53,48,51,99,32,52,52,54,52,53,52,52,99,52,52,32,48,48,48,56,51,54,52,49,48,48,32,48,48,48,48,55,102,48,48,48,48,32,48,48,52,49,51,54,48,56,48,48,32,49,48,48,56,48,56,49,48,48,56]
theorem x173_ok:xF7 Tryz.prog 173 zY9:=xQ1 Tryz.func173 (by kernel_rfl) (by kernel_rfl) (by kernel_rfl) (by kernel_rfl)
theorem x177_ok:xF7 Tryz.prog 177 yX2:=xV7 Tryz.func177 (by kernel_rfl) (by kernel_rfl) (by kernel_rfl) (by kernel_rfl)
def tys:List (Nat × Ty):=[(3,(.int .i64)),(4,.bool),(5,(.int .u8)),(9,.str),(21,(.int .i32)),(22,(.sl T57)),(23,(.sl (.int .i64))),(25,T24),(26,(.sl T66)),(27,(.sl T74)),(29,T28),(31,T50),(33,T32),(34,(.int .i64)),(46,T45),(47,(.sl T50)),(49,T48),(51,T50),(52,(.sl T91)),(53,(.sl T97)),(54,(.sl T94)),(56,T55),(58,T57),(67,T66),(75,T74),(88,(.sl (.sl T57))),(92,T91),(95,T94),(96,(.arr 3 T94)),(98,T97),(111,(.sl .bool)),(145,(.sl (.sl T94))),(153,(.sl T184)),(154,(.sl T189)),(156,T155),(160,(.sl T94)),(163,T94),(170,(.ptr T171)),(172,T171),(175,(.ptr T205)),(177,(.sl .str)),(179,(.sl T94)),(183,T94),(185,T184),(190,T189),(195,(.sl T197)),(198,T197),(204,(.arr 256 (.int .i64))),(206,T205),(212,(.arr 256 (.int .u8))),(224,(.sl T94)),(226,T94),(227,(.int .u32)),(229,(.ptr T243)),(231,(.int .u64)),(258,(.arr 65 (.int .i64)))]
theorem tys_ok:zL5 Tryz.prog tys = true:=by kernel_rfl
def maps:List (Nat × (Ty × Ty)):=[(101,((.int .i64),(.int .i64)))]
def fts:List Nat:=[112]
theorem mixed:Tryz.prog.follows .mixedOrders = true:=by kernel_rfl
def pX6 (p0:(List UInt8)) (p1:Int):Prop × Int :=
 (True,(Lib.indexByte p0 (Int.toNat p1).toUInt8))
def sC5 (p0:(List UInt8)) (p1:Int):Prop:=(pX6 p0 p1).1
def f161 (p0:(List UInt8)) (p1:Int):Int:=(pX6 p0 p1).2
instance (p0:(List UInt8)) (p1:Int):Decidable (sC5 p0 p1):=by
 unfold sC5 pX6
 try dsimp only
 infer_instance
def sK8:Am.Spec:=fnSpec [(0,vS),(1,(.val (.int .u8)))] vI [] (fun x=>sC5 x.1 x.2.1) (fun x=>f161 x.1 x.2.1) (fun _=>())
def qY4:Ctx:={ Cx tys [] [] [] false 8 [] [] with exts:=[(173,zY9)] }
theorem qY5:CtxOk Tryz.prog qY4:=xU2 tys_ok rfl trivial ⟨x173_ok,trivial⟩ (by kernel_rfl)
theorem pX7:SpecOk Tryz.prog 161 sK8:=xX4 qY5 mixed Tryz.func161 (by kernel_rfl) (bs:=[]) (by kernel_rfl) trivial fun x=>by kernel_rfl
def f180 (p0 p1:List UInt8):Int:=Lib.indexByte p0 (p1.headD 0)
def sC6 (_p0 p1:List UInt8):Prop:=List.length p1 = 1
instance (p0 p1:List UInt8):Decidable (sC6 p0 p1):=by
  unfold sC6
  infer_instance
def pX8:List (Nat × Sh):=[(0,(.val .str)),(1,(.val .str))]
def pX9:Sh:=(.val (.int .i64))
def pY:List (Nat × Sh):=[]
def sK9:Am.Spec:=fnSpec pX8 pX9 pY (fun x=>sC6 x.1 x.2.1) (fun x=>f180 x.1 x.2.1) (fun _=>())
theorem pY0:SpecOk Tryz.prog 180 sK9:=xU8 (F:=f180) ⟨_,Tryz.func180,by kernel_rfl,by decide⟩ (fun s c w=>Tryz.strings_Index_one s c w)
def f181 (_p0:(List UInt8)) (_p1:Int):(List (List UInt8)):=([]:List (List UInt8))
def sC7 (_p0:(List UInt8)) (_p1:Int):Prop:=False
instance (_p0:(List UInt8)) (_p1:Int):Decidable (sC7 _p0 _p1):=by
  unfold sC7
  infer_instance
def pY1:List (Nat × Sh):=[(0,vS),(1,vI)]
def pY2:Sh:=(.val (.sl .str))
def pY3:List (Nat × Sh):=[]
def sL:Am.Spec:=fnSpec pY1 pY2 pY3 (fun x=>sC7 x.1 x.2.1) (fun x=>f181 x.1 x.2.1) (fun _=>())
theorem pY4:SpecOk Tryz.prog 181 sL:=xS9 Tryz.func181 (by kernel_rfl) (by decide)
def f182 (p0 p1:List UInt8):Int:=((Lib.countByte p0 (p1.headD 0):Nat):Int)
def sC8 (_p0 p1:List UInt8):Prop:=List.length p1 = 1
instance (p0 p1:List UInt8):Decidable (sC8 p0 p1):=by
  unfold sC8
  infer_instance
def pY5:List (Nat × Sh):=[(0,(.val .str)),(1,(.val .str))]
def pY6:Sh:=(.val (.int .i64))
def pY7:List (Nat × Sh):=[]
def sL0:Am.Spec:=fnSpec pY5 pY6 pY7 (fun x=>sC8 x.1 x.2.1) (fun x=>f182 x.1 x.2.1) (fun _=>())
theorem pY8:SpecOk Tryz.prog 182 sL0:=xU8 (F:=f182) ⟨_,Tryz.func182,by kernel_rfl,by decide⟩ (fun s c w=>Tryz.strings_Count_one s c w)
abbrev wL8:Type:=((List UInt8) × Int × Int × Unit)
abbrev wF:Type:=((List UInt8) × (List (List UInt8)) × Int × Unit)
def wY6 (y:wL8) (x:wF):Prop × Bool × wF :=
 let a1:=y.1
 let a2:=y.2.1
 let a0:=x.1
 let a9:=x.2.1
 let a10:=x.2.2.1
 let v36:=(decide (a10 < y.2.2.1))
 let v39:=(f180 a0 a1)
 let v41:=(decide (v39 < 0))
 let v47:=(v39 + a2)
 let v53:=(len a1)
 let v54:=(v39 + v53)
 ((v36 = true → ((sC6 a0 a1) ∧ ((!v41) = true → (InR (v39 + a2) ∧ ((0 ≤ v47 ∧ v47 ≤ len a0) ∧ (InB a10 (len a9) ∧ (a10 < len a9 ∧ (InR (v39 + v53) ∧ ((0 ≤ v54 ∧ v54 ≤ len a0) ∧ InR (a10 + 1)))))))))),(v36 && (!v41)),((List.drop (Int.toNat v54) a0),(List.set a9 (Int.toNat a10) (List.take (Int.toNat v47) a0)),(a10 + 1),()))
def wY7 (y:wL8) (x:wF):Prop:=(wY6 y x).1
def wD (y:wL8) (x:wF):Bool:=(wY6 y x).2.1
def xZ4 (y:wL8) (x:wF):wF:=(wY6 y x).2.2
instance (y:wL8) (x:wF):Decidable (wY7 y x):=by
 unfold wY7 wY6
 try dsimp only
 infer_instance
def wV1 (y:wL8) (x:wF):(List UInt8) :=
 x.1
def wV2 (y:wL8) (x:wF):(List (List UInt8)) :=
 x.2.1
def wV3 (y:wL8) (x:wF):Int :=
 x.2.2.1
def tE3:List (Nat × Sh):=[(0,vS),(9,(.own .str 1009 true)),(10,vI)]
def uD2:St → Option Out:=xO8 [(1,vS),(2,vI),(3,vI)] [(0,vS),(9,(.own .str 1009 true)),(10,vI)] wD xZ4 wY7 fun y x=>[ex 2 none tE3 ((wV1 y x),(wV2 y x),(wV3 y x),())]
def qB2 (p0:(List UInt8)) (p1:(List UInt8)) (p2:Int) (p3:Int):Prop × (List (List UInt8)) :=
 let v13:=(p3 == 0)
 let v15:=(p1 == ([]:List UInt8))
 let v20:=(decide (p3 < 0))
 let v23:=(f182 p0 p1)
 let v27:=(len p0)
 let v29:=(xW2 (bif v20 then (v23 + 1) else p3) (v27 + 1))
 let y11:=(p1,p2,(v29 - 1),())
 let x11:=(p0,(List.replicate (Int.toNat v29) ([]:List UInt8)),(0:Int),())
 let e11:=(zB9 (wD y11) (xZ4 y11) x11)
 let r11_2_1:=(wV2 y11 e11)
 let r11_2_2:=(wV3 y11 e11)
 let l1009:=(List.set r11_2_1 (Int.toNat r11_2_2) (wV1 y11 e11))
 let v64:=(r11_2_2 + 1)
 (((!v13) = true → ((v15 = true → (sC7 p0 p3)) ∧ ((!v15) = true → ((v20 = true → ((sC8 p0 p1) ∧ InR (v23 + 1))) ∧ (InR (v27 + 1) ∧ ((0 ≤ v29 ∧ v29 ≤ v29 ∧ v29 ≤ 4294967296) ∧ (InR (v29 - 1) ∧ ((Am.Ends (wD y11) (xZ4 y11) (wY7 y11) x11) ∧ (InB r11_2_2 (len r11_2_1) ∧ (r11_2_2 < len r11_2_1 ∧ (InR (r11_2_2 + 1) ∧ (0 ≤ v64 ∧ v64 ≤ len l1009)))))))))))),(bif v13 then [] else (bif v15 then (f181 p0 p3) else (List.take (Int.toNat v64) l1009))))
def tE4 (p0:(List UInt8)) (p1:(List UInt8)) (p2:Int) (p3:Int):Prop:=(qB2 p0 p1 p2 p3).1
def f171 (p0:(List UInt8)) (p1:(List UInt8)) (p2:Int) (p3:Int):(List (List UInt8)):=(qB2 p0 p1 p2 p3).2
instance (p0:(List UInt8)) (p1:(List UInt8)) (p2:Int) (p3:Int):Decidable (tE4 p0 p1 p2 p3):=by
 unfold tE4 qB2
 try dsimp only
 infer_instance
def sL1:Am.Spec:=fnSpec [(0,vS),(1,vS),(2,vI),(3,vI)] (.val (.sl .str)) [] (fun x=>tE4 x.1 x.2.1 x.2.2.1 x.2.2.2.1) (fun x=>f171 x.1 x.2.1 x.2.2.1 x.2.2.2.1) (fun _=>())
def rI6:Ctx:=Cx tys [(180,sK9),(181,sL),(182,sL0)] [(11,uD2)] [(17,[(4,0,31,1009)]),(36,[(1,9,0,0)])] false 66 [] [31]
theorem rI7:CtxOk Tryz.prog rI6:=xV6 tys_ok rfl ⟨pY0,pY4,pY8,trivial⟩ rfl (by kernel_rfl)
noncomputable def qB3:Code:=Tryz.f171.body.getD .skip
noncomputable def rI8:Code:=xW5 qB3 0
theorem sY9:yU1 Tryz.prog rI6 rI8:=xX3 rI7 mixed (sp:=uD2) rfl [tE3] (bs:=[]) (by kernel_rfl) trivial (by kernel_rfl) (by kernel_rfl) fun y x=>by kernel_rfl
theorem pY9:SpecOk Tryz.prog 171 sL1:=xX4 rI7 mixed Tryz.func171 (by kernel_rfl) (bs:=[rI8]) (by kernel_rfl) ⟨sY9,trivial⟩ fun x=>by kernel_rfl
def qB4 (p0:(List UInt8)) (p1:(List UInt8)):Prop × (List (List UInt8)) :=
 ((tE4 p0 p1 (0:Int) (-1:Int)),(f171 p0 p1 (0:Int) (-1:Int)))
def uA1 (p0:(List UInt8)) (p1:(List UInt8)):Prop:=(qB4 p0 p1).1
def f156 (p0:(List UInt8)) (p1:(List UInt8)):(List (List UInt8)):=(qB4 p0 p1).2
instance (p0:(List UInt8)) (p1:(List UInt8)):Decidable (uA1 p0 p1):=by
 unfold uA1 qB4
 try dsimp only
 infer_instance
def sL2:Am.Spec:=fnSpec [(0,vS),(1,vS)] (.val (.sl .str)) [] (fun x=>uA1 x.1 x.2.1) (fun x=>f156 x.1 x.2.1) (fun _=>())
def qY6:Ctx:=Cx tys [(171,sL1)] [] [] false 8 [] []
theorem qY7:CtxOk Tryz.prog qY6:=xV6 tys_ok rfl ⟨pY9,trivial⟩ rfl (by kernel_rfl)
theorem pZ:SpecOk Tryz.prog 156 sL2:=xX4 qY7 mixed Tryz.func156 (by kernel_rfl) (bs:=[]) (by kernel_rfl) trivial fun x=>by kernel_rfl
def pZ0 (p0:Int) (p1:Int):Prop × Int :=
 let v7:=(p1 == 0)
 let v13:=(bif (p0 == (-9223372036854775808)) then (p1 == (-1)) else false)
 let v16:=(IntKind.wrap .i64 (Int.tdiv p0 p1))
 let m4_1:=(bif v7 then (0:Int) else (bif v13 then (9223372036854775807:Int) else (bif (bif ((Int.tmod p0 p1) != 0) then (!(Ty.eqb .bool (decide (p0 < 0)) (decide (p1 < 0)))) else false) then (IntKind.wrap .i64 (v16 - 1)) else v16)))
 (((!v7) = true → ((!v13) = true → (p1 ≠ 0 ∧ p1 ≠ 0))),m4_1)
def uA2 (p0:Int) (p1:Int):Prop:=(pZ0 p0 p1).1
def f110 (p0:Int) (p1:Int):Int:=(pZ0 p0 p1).2
instance (p0:Int) (p1:Int):Decidable (uA2 p0 p1):=by
 unfold uA2 pZ0
 try dsimp only
 infer_instance
def tE5:Am.Spec:=fnSpec [(0,vI),(1,vI)] vI [] (fun x=>uA2 x.1 x.2.1) (fun x=>f110 x.1 x.2.1) (fun _=>())
def qY8:Ctx:=Cx tys [] [] [] true 31 [] []
theorem qY9:CtxOk Tryz.prog qY8:=xV6 tys_ok rfl trivial rfl (by kernel_rfl)
theorem qB5:SpecOk Tryz.prog 110 tE5:=xX4 qY9 mixed Tryz.func110 (by kernel_rfl) (bs:=[]) (by kernel_rfl) trivial fun x=>by kernel_rfl
def f97t (p0:Int) (p1:Int):Prop × Int :=
 let v8:=(p1 == 0)
 let v14:=(bif (p0 == (-9223372036854775808)) then (p1 == (-1)) else false)
 let v17:=(f110 p0 p1)
 let v22:=(IntKind.wrap .i64 (p0 - (IntKind.wrap .i64 (p1 * v17))))
 let m5:=(bif (bif (bif (decide (p1 > 0)) then (decide (v22 ≥ (IntKind.wrap .i64 (p1 - v22)))) else false) then true else (bif (decide (p1 < 0)) then (decide (v22 ≤ (IntKind.wrap .i64 (p1 - v22)))) else false)) then (IntKind.wrap .i64 (v17 + 1)) else v17)
 (((!v8) = true → ((!v14) = true → (uA2 p0 p1))),(bif v8 then (0:Int) else (bif v14 then (9223372036854775807:Int) else m5)))
def wC9 (p0:Int) (p1:Int):Prop:=(f97t p0 p1).1
def f97 (p0:Int) (p1:Int):Int:=(f97t p0 p1).2
instance (p0:Int) (p1:Int):Decidable (wC9 p0 p1):=by
 unfold wC9 f97t
 try dsimp only
 infer_instance
def wL1:Am.Spec:=fnSpec [(0,vI),(1,vI)] vI [] (fun x=>wC9 x.1 x.2.1) (fun x=>f97 x.1 x.2.1) (fun _=>())
def pZ1:Ctx:=Cx tys [(110,tE5)] [] [] true 46 [] []
theorem pZ2:CtxOk Tryz.prog pZ1:=xV6 tys_ok rfl ⟨qB5,trivial⟩ rfl (by kernel_rfl)
theorem vN8:SpecOk Tryz.prog 97 wL1:=xX4 pZ2 mixed Tryz.func97 (by kernel_rfl) (bs:=[]) (by kernel_rfl) trivial fun x=>by kernel_rfl
abbrev wS0:Type:=(Int × Int × (List D189) × Int × Unit)
abbrev wJ:Type:=(Int × Unit)
def vT7 (y:wS0) (x:wJ):Prop × Bool × wJ × Bool × Bool :=
 let a33:=y.2.2.1
 let a35:=x.1
 let v36:=(decide (a35 < y.2.2.2.1))
 let v37:=(nth a33 a35 Z189)
 let v48:=(bif (v37.1 == y.1) then (v37.2.1 == y.2.1) else false)
 ((v36 = true → InB a35 (len a33)),(v36 && (!v48)),((IntKind.wrap .i64 (a35 + 1)),()),(v36 && v48),(!v36))
def vG0 (y:wS0) (x:wJ):Prop:=(vT7 y x).1
def uD3 (y:wS0) (x:wJ):Bool:=(vT7 y x).2.1
def vB3 (y:wS0) (x:wJ):wJ:=(vT7 y x).2.2.1
def tV3 (y:wS0) (x:wJ):Bool:=(vT7 y x).2.2.2.1
def rV2 (y:wS0) (x:wJ):Bool:=(vT7 y x).2.2.2.2
instance (y:wS0) (x:wJ):Decidable (vG0 y x):=by
 unfold vG0 vT7
 try dsimp only
 infer_instance
def uT1 (y:wS0) (x:wJ):Int :=
 (nth y.2.2.1 x.1 Z189).2.2.1
def uT2:St → Option Out:=xO8 [(7,(.val (.int .u8))),(8,(.val (.int .u8))),(33,(.val (.sl T189))),(34,vI)] [(35,vI)] uD3 vB3 vG0 fun y x=>[ex 1 (some (tV3 y x)) [(6,vI)] ((uT1 y x),()),ex 2 (some (rV2 y x)) [] ()]
def pZ3 (p0:D205) (p1:Int) (p2:Int):Prop × Int :=
 let y3:=((nth p0.1.2.2.2.1 p1 Z184).1,(nth p0.1.2.2.2.1 p2 Z184).1,p0.1.2.2.2.2.1,(len p0.1.2.2.2.2.1),())
 let x3:=((0:Int),())
 let e3:=(zB9 (uD3 y3) (vB3 y3) x3)
 ((InB p1 (len p0.1.2.2.2.1) ∧ (InB p2 (len p0.1.2.2.2.1) ∧ (Am.Ends (uD3 y3) (vB3 y3) (vG0 y3) x3))),(bif (tV3 y3 e3) then (uT1 y3 e3) else (0:Int)))
def tE6 (p0:D205) (p1:Int) (p2:Int):Prop:=(pZ3 p0 p1 p2).1
def f158 (p0:D205) (p1:Int) (p2:Int):Int:=(pZ3 p0 p1 p2).2
instance (p0:D205) (p1:Int) (p2:Int):Decidable (tE6 p0 p1 p2):=by
 unfold tE6 pZ3
 try dsimp only
 infer_instance
def sL3:Am.Spec:=fnSpec [(0,(.val (.ptr T205))),(1,vI),(2,vI)] vI [] (fun x=>tE6 x.1 x.2.1 x.2.2.1) (fun x=>f158 x.1 x.2.1 x.2.2.1) (fun _=>())
def rI9:Ctx:=Cx tys [] [(3,uT2)] [] true 52 [] []
theorem rJ:CtxOk Tryz.prog rI9:=xV6 tys_ok rfl trivial rfl (by kernel_rfl)
noncomputable def qB6:Code:=Tryz.f158.body.getD .skip
noncomputable def qB7:Code:=xW5 qB6 0
theorem rV3:yU1 Tryz.prog rI9 qB7:=xX3 rJ mixed (sp:=uT2) rfl [[(6,vI)],[]] (bs:=[]) (by kernel_rfl) trivial (by kernel_rfl) (by kernel_rfl) fun y x=>by kernel_rfl
theorem pZ4:SpecOk Tryz.prog 158 sL3:=xX4 rJ mixed Tryz.func158 (by kernel_rfl) (bs:=[qB7]) (by kernel_rfl) ⟨rV3,trivial⟩ fun x=>by kernel_rfl
abbrev wY8:Type:=(D205 × (List UInt8) × Int × Unit)
abbrev wJ0:Type:=((List D94) × Int × Int × Unit)
def tB (y:wY8) (x:wJ0):Prop × Bool × wJ0 :=
 let a0:=y.1
 let a1:=y.2.1
 let a6:=x.1
 let a7:=x.2.1
 let a12:=x.2.2.1
 let v13:=(decide (a12 < y.2.2.1))
 let v18:=(xW8 a1 a12)
 let v21:=(nth a0.2.1 v18 (0:Int))
 let v24:=(decide (v21 < 0))
 let v27:=(decide ((len a6) > 0))
 let v33:=(IntKind.wrap .i64 ((len a6) - 1))
 let v34:=(nth a6 v33 Z94)
 let m7:=(bif v27 then (IntKind.wrap .i64 (a7 + (f158 a0 v34.1 v21))) else a7)
 let v44:=([(v21,m7,())]:List D94)
 ((v13 = true → (InB a12 (len a1) ∧ (InB v18 256 ∧ ((!v24) = true → ((v27 = true → (InB v33 (len a6) ∧ (tE6 a0 v34.1 v21))) ∧ (((List.length a6 + List.length v44:Nat):Int) ≤ 4294967296 ∧ InB v21 (len a0.1.2.2.2.1))))))),(v13 && (v24 || (!v24))),((bif v24 then a6 else (a6 ++ v44)),(bif v24 then a7 else (IntKind.wrap .i64 (m7 + (nth a0.1.2.2.2.1 v21 Z184).2.1))),(IntKind.wrap .i64 (a12 + 1)),()))
def wW7 (y:wY8) (x:wJ0):Prop:=(tB y x).1
def vG1 (y:wY8) (x:wJ0):Bool:=(tB y x).2.1
def wL9 (y:wY8) (x:wJ0):wJ0:=(tB y x).2.2
instance (y:wY8) (x:wJ0):Decidable (wW7 y x):=by
 unfold wW7 tB
 try dsimp only
 infer_instance
def uT3 (y:wY8) (x:wJ0):(List D94) :=
 x.1
def uT4 (y:wY8) (x:wJ0):Int :=
 x.2.1
def tV4:List (Nat × Sh):=[(6,(.own T94 1006 false)),(7,vI)]
def uT5:St → Option Out:=xO8 [(0,(.val (.ptr T205))),(1,vS),(11,vI)] [(6,(.own T94 1006 false)),(7,vI),(12,vI)] vG1 wL9 wW7 fun y x=>[ex 2 none tV4 ((uT3 y x),(uT4 y x),())]
def pZ5 (p0:D205) (p1:(List UInt8)):Prop × ((List D94) × Int × Unit) :=
 let y4:=(p0,p1,(len p1),())
 let x4:=(([]:List D94),(0:Int),(0:Int),())
 let e4:=(zB9 (vG1 y4) (wL9 y4) x4)
 ((Am.Ends (vG1 y4) (wL9 y4) (wW7 y4) x4),((uT3 y4 e4),(uT4 y4 e4),()))
def vN9 (p0:D205) (p1:(List UInt8)):Prop:=(pZ5 p0 p1).1
def f138 (p0:D205) (p1:(List UInt8)):((List D94) × Int × Unit):=(pZ5 p0 p1).2
instance (p0:D205) (p1:(List UInt8)):Decidable (vN9 p0 p1):=by
 unfold vN9 pZ5
 try dsimp only
 infer_instance
def tE7:Am.Spec:=fnSpec [(0,(.val (.ptr T205))),(1,vS)] (.tup (.cons (.own T94 0 false) (.cons vI .nl))) [] (fun x=>vN9 x.1 x.2.1) (fun x=>f138 x.1 x.2.1) (fun _=>())
def rJ0:Ctx:=Cx tys [(158,sL3)] [(4,uT5)] [(21,[(4,0,45,1006)]),(27,[(4,0,1006,0)])] true 60 [] []
theorem rJ1:CtxOk Tryz.prog rJ0:=xV6 tys_ok rfl ⟨pZ4,trivial⟩ rfl (by kernel_rfl)
noncomputable def qB8:Code:=Tryz.f138.body.getD .skip
noncomputable def qB9:Code:=xW5 qB8 0
theorem rV4:yU1 Tryz.prog rJ0 qB9:=xX3 rJ1 mixed (sp:=uT5) rfl [tV4] (bs:=[]) (by kernel_rfl) trivial (by kernel_rfl) (by kernel_rfl) fun y x=>by kernel_rfl
theorem qC:SpecOk Tryz.prog 138 tE7:=xX4 rJ1 mixed Tryz.func138 (by kernel_rfl) (bs:=[qB9]) (by kernel_rfl) ⟨rV4,trivial⟩ fun x=>by kernel_rfl
def pZ6 (p0:D205) (p1:(List UInt8)) (p2:Int):Prop × Int :=
 let v17:=(IntKind.wrap .i64 (p2 * (f138 p0 p1).2.1))
 (((vN9 p0 p1) ∧ (wC9 v17 p0.1.1)),(f97 v17 p0.1.1))
def tE8 (p0:D205) (p1:(List UInt8)) (p2:Int):Prop:=(pZ6 p0 p1 p2).1
def f157 (p0:D205) (p1:(List UInt8)) (p2:Int):Int:=(pZ6 p0 p1 p2).2
instance (p0:D205) (p1:(List UInt8)) (p2:Int):Decidable (tE8 p0 p1 p2):=by
 unfold tE8 pZ6
 try dsimp only
 infer_instance
def sL4:Am.Spec:=fnSpec [(0,(.val (.ptr T205))),(1,vS),(2,vI)] vI [] (fun x=>tE8 x.1 x.2.1 x.2.2.1) (fun x=>f157 x.1 x.2.1 x.2.2.1) (fun _=>())
def qZ:Ctx:=Cx tys [(97,wL1),(138,tE7)] [] [(3,[(4,0,12,1007)])] true 24 [] []
theorem qZ0:CtxOk Tryz.prog qZ:=xV6 tys_ok rfl ⟨vN8,qC,trivial⟩ rfl (by kernel_rfl)
theorem pZ7:SpecOk Tryz.prog 157 sL4:=xX4 qZ0 mixed Tryz.func157 (by kernel_rfl) (bs:=[]) (by kernel_rfl) trivial fun x=>by kernel_rfl
abbrev wO0:Type:=(D205 × Int × Int × (List (List UInt8)) × Int × Unit)
abbrev wF0:Type:=((List (List UInt8)) × (List UInt8) × Int × Unit)
def uD4 (y:wO0) (x:wF0):Prop × Bool × wF0 :=
 let a4:=y.1
 let a6:=y.2.1
 let a7:=y.2.2.1
 let a25:=y.2.2.2.1
 let a9:=x.1
 let a12:=x.2.1
 let a27:=x.2.2.1
 let v28:=(decide (a27 < y.2.2.2.2.1))
 let v29:=(nth a25 a27 ([]:List UInt8))
 let v32:=(a12 ++ ([32]:List UInt8))
 let v34:=(v32 ++ v29)
 let v36:=(a7 == 0)
 let v44:=(bif v36 then true else (decide ((f157 a4 v34 a6) ≤ a7)))
 let v48:=([a12]:List (List UInt8))
 ((v28 = true → (InB a27 (len a25) ∧ (((List.length a12 + List.length ([32]:List UInt8):Nat):Int) ≤ 9223372036854775807 ∧ (((List.length v32 + List.length v29:Nat):Int) ≤ 9223372036854775807 ∧ (((!v36) = true → (tE8 a4 v34 a6)) ∧ ((v44 = false → ((List.length a9 + List.length v48:Nat):Int) ≤ 4294967296) ∧ InR (a27 + 1))))))),v28,((bif v44 then a9 else (a9 ++ v48)),(bif v44 then v34 else v29),(a27 + 1),()))
def wO1 (y:wO0) (x:wF0):Prop:=(uD4 y x).1
def wO2 (y:wO0) (x:wF0):Bool:=(uD4 y x).2.1
def wE0 (y:wO0) (x:wF0):wF0:=(uD4 y x).2.2
instance (y:wO0) (x:wF0):Decidable (wO1 y x):=by
 unfold wO1 uD4
 try dsimp only
 infer_instance
def vK2 (y:wO0) (x:wF0):(List (List UInt8)) :=
 x.1
def vK3 (y:wO0) (x:wF0):(List UInt8) :=
 x.2.1
def tE9:List (Nat × Sh):=[(4,(.box (.ptr T205) (.val (.ptr T205)))),(6,(.box (.int .i64) vI)),(7,(.box (.int .i64) vI)),(9,(.box (.sl .str) (.own .str 400900 false))),(12,vS)]
def uD5:St → Option Out:=xO8 [(4,(.box (.ptr T205) (.val (.ptr T205)))),(6,(.box (.int .i64) vI)),(7,(.box (.int .i64) vI)),(25,(.val (.sl .str))),(26,vI)] [(9,(.box (.sl .str) (.own .str 400900 false))),(12,vS),(27,vI)] wO2 wE0 wO1 fun y x=>[ex 4 none tE9 (y.1,y.2.1,y.2.2.1,(vK2 y x),(vK3 y x),())]
def rJ2 (p0:D205) (p1:Int) (p2:Int) (p3:(List (List UInt8))) (p4:(List UInt8)):Prop × (Unit) × (D205 × Int × Int × (List (List UInt8)) × Unit) :=
 let v20:=(f156 p4 ([32]:List UInt8))
 let v25:=(List.drop (Int.toNat (1:Int)) v20)
 let y7:=(p0,p1,p2,v25,(len v25),())
 let x7:=(p3,(nth v20 (0:Int) ([]:List UInt8)),(0:Int),())
 let e7:=(zB9 (wO2 y7) (wE0 y7) x7)
 let r7_4_0:=(vK2 y7 e7)
 let v54:=([(vK3 y7 e7)]:List (List UInt8))
 (((uA1 p4 ([32]:List UInt8)) ∧ (InB (0:Int) (len v20) ∧ ((0 ≤ (1:Int) ∧ (1:Int) ≤ len v20) ∧ ((Am.Ends (wO2 y7) (wE0 y7) (wO1 y7) x7) ∧ ((List.length r7_4_0 + List.length v54:Nat):Int) ≤ 4294967296)))),(),(p0,p1,p2,(r7_4_0 ++ v54),()))
def wV4 (p0:D205) (p1:Int) (p2:Int) (p3:(List (List UInt8))) (p4:(List UInt8)):Prop:=(rJ2 p0 p1 p2 p3 p4).1
def vK4 (p0:D205) (p1:Int) (p2:Int) (p3:(List (List UInt8))) (p4:(List UInt8)):(D205 × Int × Int × (List (List UInt8)) × Unit):=(rJ2 p0 p1 p2 p3 p4).2.2
instance (p0:D205) (p1:Int) (p2:Int) (p3:(List (List UInt8))) (p4:(List UInt8)):Decidable (wV4 p0 p1 p2 p3 p4):=by
 unfold wV4 rJ2
 try dsimp only
 infer_instance
def vT8:List (Nat × Sh):=[(4,(.box (.ptr T205) (.val (.ptr T205)))),(6,(.box (.int .i64) vI)),(7,(.box (.int .i64) vI)),(9,(.box (.sl .str) (.own .str 400900 false))),(10,vS)]
def rJ3:Sh:=(.tup .nl)
def vK5:List (Nat × Sh):=[(4,(.box (.ptr T205) (.val (.ptr T205)))),(6,(.box (.int .i64) vI)),(7,(.box (.int .i64) vI)),(9,(.box (.sl .str) (.own .str 400900 false)))]
def vO:Ctx:=Cx tys [(156,sL2),(157,sL4)] [(7,uD5)] [(25,[(4,0,49,400900)]),(31,[(4,0,55,400900)])] false 57 [4,6,7,9] []
theorem sL5:CtxOk Tryz.prog vO:=xV6 tys_ok rfl ⟨pZ,pZ7,trivial⟩ rfl (by kernel_rfl)
noncomputable def wI1:Code:=(xK7 (Tryz.f137.body.getD .skip)).getD .skip
noncomputable def rJ4:Code:=xW5 wI1 0
theorem sZ:yU1 Tryz.prog vO rJ4:=xX3 sL5 mixed (sp:=uD5) rfl [tE9] (bs:=[]) (by kernel_rfl) trivial (by kernel_rfl) (by kernel_rfl) fun y x=>by kernel_rfl
theorem qZ1:∀ x,xQ2 vO wI1 (zC1 vT8 x) = true:=fun x=>by kernel_rfl
theorem qC0:∀ x,xC1 vO wI1 [] vT8 rJ3 vK5 x = some (wV4 x.1 x.2.1 x.2.2.1 x.2.2.2.1 x.2.2.2.2.1,(),vK4 x.1 x.2.1 x.2.2.1 x.2.2.2.1 x.2.2.2.2.1):=fun x=>by kernel_rfl
theorem qZ2:xS1 Tryz.prog vO wI1 vT8 vK5 (fun x=>wV4 x.1 x.2.1 x.2.2.1 x.2.2.2.1 x.2.2.2.2.1) (fun x=>vK4 x.1 x.2.1 x.2.2.1 x.2.2.2.1 x.2.2.2.2.1):=xV (rs:=rJ3) (F:=fun _=>()) sL5 mixed (bs:=[rJ4]) (by kernel_rfl) ⟨sZ,trivial⟩ (by kernel_rfl) qZ1 qC0
end Go.Proofs.YtigpekbhmpfcoaaGreatDoor.Am
