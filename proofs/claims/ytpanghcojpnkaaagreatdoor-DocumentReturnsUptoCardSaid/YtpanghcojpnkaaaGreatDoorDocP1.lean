/- Printed by program: the functions that the statements reach, as plain functions, and their contracts. No condition. -/
import Derived.Test.YtpanghcojpnkaaaGreatDoorMach4
import Derived.Test.YtpanghcojpnkaaaGreatDoorDocI
import Derived.Test.YtpanghcojpnkaaaGreatDoorDocH
import Derived.Test.YtpanghcojpnkaaaGreatDoorProg
set_option linter.unusedVariables false
set_option synthInstance.maxSize 4000
set_option synthInstance.maxHeartbeats 400000
namespace Go.Proofs.YtpanghcojpnkaaaGreatDoor.Am
open Go Go.Am Go.Proofs
abbrev T24:Ty:=.st (.cons (.int .i64) (.cons (.int .i64) (.cons (.sl (.int .i64)) .nl)))
abbrev D24:Type:=Int×Int×(List Int)×Unit
abbrev Z24:D24:=((0:Int),(0:Int),([]:List Int),())
abbrev T37:Ty:=.st (.cons (.int .i64) (.cons (.int .i64) (.cons (.int .i64) (.cons (.int .i64) (.cons (.int .i64) (.cons (.int .i64) .nl))))))
abbrev D37:Type:=Int×Int×Int×Int×Int×Int×Unit
abbrev Z37:D37:=((0:Int),(0:Int),(0:Int),(0:Int),(0:Int),(0:Int),())
abbrev T42:Ty:=.st (.cons (.int .i64) (.cons (.int .i64) (.cons (.int .i64) (.cons (.int .i64) .nl))))
abbrev D42:Type:=Int×Int×Int×Int×Unit
abbrev Z42:D42:=((0:Int),(0:Int),(0:Int),(0:Int),())
abbrev T40:Ty:=.st (.cons (.int .i64) (.cons (.int .i64) (.cons (.sl T42) .nl)))
abbrev D40:Type:=Int×Int×(List D42)×Unit
abbrev Z40:D40:=((0:Int),(0:Int),([]:List D42),())
abbrev T122:Ty:=.st (.cons (.int .i64) (.cons T42 .nl))
abbrev D122:Type:=Int×D42×Unit
abbrev Z122:D122:=((0:Int),Z42,())
abbrev T125:Ty:=.st (.cons (.int .i64) (.cons (.int .i64) .nl))
abbrev D125:Type:=Int×Int×Unit
abbrev Z125:D125:=((0:Int),(0:Int),())
abbrev T128:Ty:=.st (.cons (.int .i64) (.cons (.arr 3 T125) .nl))
abbrev D128:Type:=Int×(List D125)×Unit
abbrev Z128:D128:=((0:Int),(List.replicate 3 Z125),())
abbrev T47:Ty:=.st (.cons (.int .i64) (.cons (.int .i64) (.cons (.int .i64) (.cons (.sl T125) .nl))))
abbrev D47:Type:=Int×Int×Int×(List D125)×Unit
abbrev Z47:D47:=((0:Int),(0:Int),(0:Int),([]:List D125),())
abbrev T49:Ty:=.st (.cons (.int .i64) (.cons (.int .i64) (.cons (.int .i64) (.cons .str (.cons .bool (.cons .bool (.cons .bool (.cons (.int .i64) (.cons (.int .i64) (.cons T24 (.cons T37 (.cons (.int .i64) (.cons T40 (.cons T42 (.cons (.int .i64) (.cons (.sl (.int .i64)) (.cons (.int .i64) (.cons (.sl T122) (.cons (.sl T128) (.cons (.int .i64) (.cons (.int .i64) (.cons (.int .i64) (.cons (.int .i64) (.cons .str (.cons (.int .i64) (.cons (.int .i64) (.cons (.int .i64) (.cons T47 .nl))))))))))))))))))))))))))))
abbrev D49:Type:=Int×Int×Int×(List UInt8)×Bool×Bool×Bool×Int×Int×D24×D37×Int×D40×D42×Int×(List Int)×Int×(List D122)×(List D128)×Int×Int×Int×Int×(List UInt8)×Int×Int×Int×D47×Unit
abbrev Z49:D49:=((0:Int),(0:Int),(0:Int),([]:List UInt8),false,false,false,(0:Int),(0:Int),Z24,Z37,(0:Int),Z40,Z42,(0:Int),([]:List Int),(0:Int),([]:List D122),([]:List D128),(0:Int),(0:Int),(0:Int),(0:Int),([]:List UInt8),(0:Int),(0:Int),(0:Int),Z47,())
abbrev T87:Ty:=.st (.cons .str (.cons .str .nl))
abbrev D87:Type:=(List UInt8)×(List UInt8)×Unit
abbrev Z87:D87:=(([]:List UInt8),([]:List UInt8),())
abbrev T90:Ty:=.st (.cons (.int .i64) (.cons .str (.cons (.int .i64) (.cons (.int .i64) (.cons T40 .nl)))))
abbrev D90:Type:=Int×(List UInt8)×Int×Int×D40×Unit
abbrev Z90:D90:=((0:Int),([]:List UInt8),(0:Int),(0:Int),Z40,())
abbrev T28:Ty:=.st (.cons (.int .i64) (.cons (.int .i64) (.cons (.int .i64) (.cons (.sl T49) (.cons (.int .i64) (.cons T24 (.cons (.sl T87) (.cons (.sl T90) .nl))))))))
abbrev D28:Type:=Int×Int×Int×(List D49)×Int×D24×(List D87)×(List D90)×Unit
abbrev Z28:D28:=((0:Int),(0:Int),(0:Int),([]:List D49),(0:Int),Z24,([]:List D87),([]:List D90),())
abbrev T54:Ty:=.st (.cons (.int .i64) (.cons (.int .i64) (.cons (.int .i64) .nl)))
abbrev D54:Type:=Int×Int×Int×Unit
abbrev T192:Ty:=.st (.cons (.int .u8) (.cons (.int .i64) (.cons (.sl T128) .nl)))
abbrev D192:Type:=Int×Int×(List D128)×Unit
abbrev Z192:D192:=((0:Int),(0:Int),([]:List D128),())
abbrev T197:Ty:=.st (.cons (.int .u8) (.cons (.int .u8) (.cons (.int .i64) .nl)))
abbrev D197:Type:=Int×Int×Int×Unit
abbrev Z197:D197:=((0:Int),(0:Int),(0:Int),())
abbrev T163:Ty:=.st (.cons (.int .i64) (.cons (.int .i64) (.cons (.int .i64) (.cons (.sl T192) (.cons (.sl T197) .nl)))))
abbrev D163:Type:=Int×Int×Int×(List D192)×(List D197)×Unit
abbrev T179:Ty:=.st (.cons (.int .i64) (.cons (.int .i64) (.cons (.int .i64) (.cons (.sl (.sl T125)) (.cons (.int .i64) .nl)))))
abbrev T213:Ty:=.st (.cons T163 (.cons (.arr 256 (.int .i64)) .nl))
abbrev D213:Type:=D163×(List Int)×Unit
abbrev T205:Ty:=.st (.cons T125 (.cons T125 (.cons T125 (.cons T125 (.cons T125 .nl)))))
abbrev D205:Type:=D125×D125×D125×D125×D125×Unit
abbrev Z205:D205:=(Z125,Z125,Z125,Z125,Z125,())
abbrev T254:Ty:=.st (.cons (.int .u16) (.cons (.int .u16) (.cons (.int .u16) .nl)))
abbrev T257:Ty:=.st (.cons (.int .u32) (.cons (.int .u32) (.cons (.int .u32) .nl)))
abbrev T251:Ty:=.st (.cons (.sl T254) (.cons (.sl T257) (.cons (.int .i64) .nl)))
def G0:List Int:=[0,0,0,0,0,0,0,0,0,1,1,1,1,1,0,0,0,0,0,0,0,0,0,0,0,0,0,0,0,0,0,0,1,0,0,0,0,0,0,0,0,0,0,0,0,0,0,0,0,0,0,0,0,0,0,0,0,0,0,0,0,0,0,0,0,0,0,0,0,0,0,0,0,0,0,0,0,0,0,0,0,0,0,0,0,0,0,0,0,0,0,0,0,0,0,0,0,0,0,0,0,0,0,0,0,0,0,0,0,0,0,0,0,0,0,0,0,0,0,0,0,0,0,0,0,0,0,0,0,0,0,0,0,0,0,0,0,0,0,0,0,0,0,0,0,0,0,0,0,0,0,0,0,0,0,0,0,0,0,0,0,0,0,0,0,0,0,0,0,0,0,0,0,0,0,0,0,0,0,0,0,0,0,0,0,0,0,0,0,0,0,0,0,0,0,0,0,0,0,0,0,0,0,0,0,0,0,0,0,0,0,0,0,0,0,0,0,0,0,0,0,0,0,0,0,0,0,0,0,0,0,0,0,0,0,0,0,0,0,0,0,0,0,0,0,0,0,0,0,0,0,0,0,0,0,0]
def G5:List Int:=[0,1608,3216,4821,6424,8022,9616,11204,12785,14359,15924,17479,19024,20557,22078,23586,25080,26558,28020,29466,30893,32303,33692,35062,36410,37736,39040,40320,41576,42806,44011,45190,46341,47464,48559,49624,50660,51665,52639,53581,54491,55368,56212,57022,57798,58538,59244,59914,60547,61145,61705,62228,62714,63162,63572,63944,64277,64571,64827,65043,65220,65358,65457,65516,65536]
instance:GlobTab:=⟨⟨[(0,⟨(.arr 256 (.int .u8)),G0⟩),(5,⟨(.arr 65 (.int .i64)),G5⟩)]⟩⟩
set_option maxRecDepth 20000 in
def lit0:List UInt8:=[48,48,48,48,48,48,48,48,48,48,32,48,48,48,48,53,102,48,48,48,48,32,48,48,48,55,48,48,48,55,48,48,32,49,52,55,102,49,52,55,102,49,52,32,50,52,50,97,55,102,50,97,49,50,32,50,51,49,51,48,56,54,52,54,50,32,51,54,52,57,53,54,50,48,53,48,32,48,48,48,53,48,51,48,48,48,48,32,48,48,49,99,50,50,52,49,48,48,32,48,48,52,49,50,50,49,99,48,48,32,49,52,48,56,51,101,48,56,49,52,32,48,56,48,56,51,101,48,56,48,56,32,48,48,53,48,51,48,48,48,48,48,32,48,56,48,56,48,56,48,56,48,56,32,48,48,54,48,54,48,48,48,48,48,32,50,48,49,48,48,56,48,52,48,50,32,51,101,53,49,52,57,52,53,51,101,32,48,48,52,50,55,102,52,48,48,48,32,52,50,54,49,53,49,52,57,52,54,32,50,49,52,49,52,53,52,98,51,49,32,49,56,49,52,49,50,55,102,49,48,32,50,55,52,53,52,53,52,53,51,57,32,51,99,52,97,52,57,52,57,51,48,32,48,49,55,49,48,57,48,53,48,51,32,51,54,52,57,52,57,52,57,51,54,32,48,54,52,57,52,57,50,57,49,101,32,48,48,51,54,51,54,48,48,48,48,32,48,48,53,54,51,54,48,48,48,48,32,48,56,49,52,50,50,52,49,48,48,32,49,52,49,52,49,52,49,52,49,52,32,48,48,52,49,50,50,49,52,48,56,32,48,50,48,49,53,49,48,57,48,54,32,51,50,52,57,55,57,52,49,51,101,32,55,101,49,49,49,49,49,49,55,101,32,55,102,52,57,52,57,52,57,51,54,32,51,101,52,49,52,49,52,49,50,50,32,55,102,52,49,52,49,50,50,49,99,32,55,102,52,57,52,57,52,57,52,49,32,55,102,48,57,48,57,48,57,48,49,32,51,101,52,49,52,57,52,57,55,97,32,55,102,48,56,48,56,48,56,55,102,32,48,48,52,49,55,102,52,49,48,48,32,50,48,52,48,52,49,51,102,48,49,32,55,102,48,56,49,52,50,50,52,49,32,55,102,52,48,52,48,52,48,52,48,32,55,102,48,50,48,99,48,50,55,102,32,55,102,48,52,48,56,49,48,55,102,32,51,101,52,49,52,49,52,49,51,101,32,55,102,48,57,48,57,48,57,48,54,32,51,101,52,49,53,49,50,49,53,101,32,55,102,48,57,49,57,50,57,52,54,32,52,54,52,57,52,57,52,57,51,49,32,48,49,48,49,55,102,48,49,48,49,32,51,102,52,48,52,48,52,48,51,102,32,49,102,50,48,52,48,50,48,49,102,32,51,102,52,48,51,56,52,48,51,102,32,54,51,49,52,48,56,49,52,54,51,32,48,55,48,56,55,48,48,56,48,55,32,54,49,53,49,52,57,52,53,52,51,32,48,48,55,102,52,49,52,49,48,48,32,48,50,48,52,48,56,49,48,50,48,32,48,48,52,49,52,49,55,102,48,48,32,48,52,48,50,48,49,48,50,48,52,32,52,48,52,48,52,48,52,48,52,48,32,48,48,48,49,48,50,48,52,48,48,32,50,48,53,52,53,52,53,52,55,56,32,55,102,52,56,52,52,52,52,51,56,32,51,56,52,52,52,52,52,52,50,48,32,51,56,52,52,52,52,52,56,55,102,32,51,56,53,52,53,52,53,52,49,56,32,48,56,55,101,48,57,48,49,48,50,32,48,99,53,50,53,50,53,50,51,101,32,55,102,48,56,48,52,48,52,55,56,32,48,48,52,52,55,100,52,48,48,48,32,50,48,52,48,52,52,51,100,48,48,32,55,102,49,48,50,56,52,52,48,48,32,48,48,52,49,55,102,52,48,48,48,32,55,99,48,52,49,56,48,52,55,56,32,55,99,48,56,48,52,48,52,55,56,32,51,56,52,52,52,52,52,52,51,56,32,55,99,49,52,49,52,49,52,48,56,32,48,56,49,52,49,52,49,56,55,99,32,55,99,48,56,48,52,48,52,48,56,32,52,56,53,52,53,52,53,52,50,48,32,48,52,51,102,52,52,52,48,50,48,32,51,99,52,48,52,48,50,48,55,99,32,49,99,50,48,52,48,50,48,49,99,32,51,99,52,48,51,48,52,48,51,99,32,52,52,50,56,49,48,50,56,52,52,32,48,99,53,48,53,48,53,48,51,99,32,52,52,54,52,53,52,52,99,52,52,32,48,48,48,56,51,54,52,49,48,48,32,48,48,48,48,55,102,48,48,48,48,32,48,48,52,49,51,54,48,56,48,48,32,49,48,48,56,48,56,49,48,48,56]
theorem pZ5:xG2 Tryz.prog 185 zZ0:=xQ8 Tryz.func185 (by kernel_rfl) (by kernel_rfl) (by kernel_rfl) (by kernel_rfl)
theorem pZ6:xG2 Tryz.prog 189 yX6:=xW5 Tryz.func189 (by kernel_rfl) (by kernel_rfl) (by kernel_rfl) (by kernel_rfl)
def tys:List (Nat×Ty):=[(3,(.int .i64)),(4,.bool),(5,(.int .u8)),(9,.str),(21,(.int .i32)),(22,(.sl T49)),(23,(.sl (.int .i64))),(25,T24),(26,(.sl T87)),(27,(.sl T90)),(29,T28),(31,(.int .i64)),(38,T37),(39,(.sl T42)),(41,T40),(43,T42),(44,(.sl T122)),(45,(.sl T128)),(46,(.sl T125)),(48,T47),(50,T49),(55,T54),(88,T87),(91,T90),(102,(.sl .bool)),(123,T122),(126,T125),(127,(.arr 3 T125)),(129,T128),(153,(.sl (.sl T125))),(161,(.sl T192)),(162,(.sl T197)),(164,T163),(168,(.sl T125)),(171,T125),(178,(.ptr T179)),(180,T179),(183,(.ptr T213)),(185,(.sl .str)),(187,(.sl T125)),(191,T125),(193,T192),(198,T197),(203,(.sl T205)),(206,T205),(212,(.arr 256 (.int .i64))),(214,T213),(220,(.arr 256 (.int .u8))),(232,(.sl T125)),(234,T125),(235,(.int .u32)),(237,(.ptr T251)),(239,(.int .u64)),(266,(.arr 65 (.int .i64)))]
theorem xY7:zL4 Tryz.prog tys=true:=by kernel_rfl
def maps:List (Nat×(Ty×Ty)):=[(72,((.int .i64),.bool)),(82,((.int .i64),(.int .i64)))]
def fts:List Nat:=[103]
theorem mixed:Tryz.prog.follows .mixedOrders=true:=by kernel_rfl
def pZ7 (p0:List UInt8)(p1:Int):Prop×Int:=
 (True,(Lib.indexByte p0 (Int.toNat p1).toUInt8))
def sB7 (p0:List UInt8)(p1:Int):Prop:=(pZ7 p0 p1).1
def f173 (p0:List UInt8)(p1:Int):Int:=(pZ7 p0 p1).2
instance (p0:List UInt8)(p1:Int):Decidable (sB7 p0 p1):=by
 unfold sB7 pZ7
 try dsimp only
 infer_instance
def sK:Am.Spec:=fnSpec [(0,vS),(1,(.val (.int .u8)))] vI [] (fun x=>sB7 x.1 x.2.1) (fun x=>f173 x.1 x.2.1) (fun _=>())
def qY9:Ctx:={ Cx tys [] [] [] false 8 [] [] with exts:=[(185,zZ0)] }
theorem qZ:CtxOk Tryz.prog qY9:=xV0 xY7 rfl trivial ⟨pZ5,trivial⟩ (by kernel_rfl)
theorem pZ8:SpecOk Tryz.prog 173 sK:=xY3 qZ mixed Tryz.func173 (by kernel_rfl) (bs:=[]) (by kernel_rfl) trivial fun x=>by kernel_rfl
def f192 (p0 p1:List UInt8):Int:=Lib.indexByte p0 (p1.headD 0)
def sB8 (_p0 p1:List UInt8):Prop:=List.length p1=1
instance (p0 p1:List UInt8):Decidable (sB8 p0 p1):=by
  unfold sB8
  infer_instance
def pZ9:List (Nat×Sh):=[(0,(.val .str)),(1,(.val .str))]
def oA:Sh:=(.val (.int .i64))
def oA0:List (Nat×Sh):=[]
def sK0:Am.Spec:=fnSpec pZ9 oA oA0 (fun x=>sB8 x.1 x.2.1) (fun x=>f192 x.1 x.2.1) (fun _=>())
theorem oA1:SpecOk Tryz.prog 192 sK0:=xV7 (F:=f192) ⟨_,Tryz.func192,by kernel_rfl,by decide⟩ (fun s c w=>Tryz.strings_Index_one s c w)
def f193 (_p0:List UInt8)(_p1:Int):(List (List UInt8)):=([]:List (List UInt8))
def sB9 (_p0:List UInt8)(_p1:Int):Prop:=False
instance (_p0:List UInt8)(_p1:Int):Decidable (sB9 _p0 _p1):=by
  unfold sB9
  infer_instance
def oA2:List (Nat×Sh):=[(0,vS),(1,vI)]
def oA3:Sh:=(.val (.sl .str))
def oA4:List (Nat×Sh):=[]
def sK1:Am.Spec:=fnSpec oA2 oA3 oA4 (fun x=>sB9 x.1 x.2.1) (fun x=>f193 x.1 x.2.1) (fun _=>())
theorem oA5:SpecOk Tryz.prog 193 sK1:=xT7 Tryz.func193 (by kernel_rfl) (by decide)
def f194 (p0 p1:List UInt8):Int:=((Lib.countByte p0 (p1.headD 0):Nat):Int)
def sC (_p0 p1:List UInt8):Prop:=List.length p1=1
instance (p0 p1:List UInt8):Decidable (sC p0 p1):=by
  unfold sC
  infer_instance
def oA6:List (Nat×Sh):=[(0,(.val .str)),(1,(.val .str))]
def oA7:Sh:=(.val (.int .i64))
def oA8:List (Nat×Sh):=[]
def sK2:Am.Spec:=fnSpec oA6 oA7 oA8 (fun x=>sC x.1 x.2.1) (fun x=>f194 x.1 x.2.1) (fun _=>())
theorem oA9:SpecOk Tryz.prog 194 sK2:=xV7 (F:=f194) ⟨_,Tryz.func194,by kernel_rfl,by decide⟩ (fun s c w=>Tryz.strings_Count_one s c w)
abbrev wM5:Type:=((List UInt8)×Int×Int×Unit)
abbrev wF4:Type:=((List UInt8)×(List (List UInt8))×Int×Unit)
def wY4 (y:wM5)(x:wF4):Prop×Bool×wF4:=
 let a1:=y.1
 let a2:=y.2.1
 let a0:=x.1
 let a9:=x.2.1
 let a10:=x.2.2.1
 let v36:=(decide (a10<y.2.2.1))
 let v39:=(f192 a0 a1)
 let v41:=(decide (v39<0))
 let v47:=(v39+a2)
 let v53:=(len a1)
 let v54:=(v39+v53)
 ((v36=true→((sB8 a0 a1)∧((!v41)=true→(InR (v39+a2)∧((0≤v47∧v47≤len a0)∧(InB a10 (len a9)∧(a10<len a9∧(InR (v39+v53)∧((0≤v54∧v54≤len a0)∧InR (a10+1)))))))))),(v36&&(!v41)),((List.drop (Int.toNat v54) a0),(List.set a9 (Int.toNat a10) (List.take (Int.toNat v47) a0)),(a10+1),()))
def wY5 (y:wM5)(x:wF4):Prop:=(wY4 y x).1
def wD7 (y:wM5)(x:wF4):Bool:=(wY4 y x).2.1
def wA3 (y:wM5)(x:wF4):wF4:=(wY4 y x).2.2
instance (y:wM5)(x:wF4):Decidable (wY5 y x):=by
 unfold wY5 wY4
 try dsimp only
 infer_instance
def wV (y:wM5)(x:wF4):(List UInt8):=
 x.1
def wV0 (y:wM5)(x:wF4):(List (List UInt8)):=
 x.2.1
def wV1 (y:wM5)(x:wF4):Int:=
 x.2.2.1
def tC4:List (Nat×Sh):=[(0,vS),(9,(.own .str 1009 true)),(10,vI)]
def uD1:St→Option Out:=xP5 [(1,vS),(2,vI),(3,vI)] [(0,vS),(9,(.own .str 1009 true)),(10,vI)] wD7 wA3 wY5 fun y x=>[ex 2 none tC4 ((wV y x),(wV0 y x),(wV1 y x),())]
def qB8 (p0:List UInt8)(p1:List UInt8)(p2:Int)(p3:Int):Prop×(List (List UInt8)):=
 let v13:=(p3==0)
 let v15:=(p1==([]:List UInt8))
 let v20:=(decide (p3<0))
 let v23:=(f194 p0 p1)
 let v27:=(len p0)
 let v29:=(xX0 (bif v20 then (v23+1) else p3) (v27+1))
 let y11:=(p1,p2,(v29-1),())
 let x11:=(p0,(List.replicate (Int.toNat v29) ([]:List UInt8)),(0:Int),())
 let e11:=(zC1 (wD7 y11) (wA3 y11) x11)
 let r11_2_1:=(wV0 y11 e11)
 let r11_2_2:=(wV1 y11 e11)
 let l1009:=(List.set r11_2_1 (Int.toNat r11_2_2) (wV y11 e11))
 let v64:=(r11_2_2+1)
 (((!v13)=true→((v15=true→(sB9 p0 p3))∧((!v15)=true→((v20=true→((sC p0 p1)∧InR (v23+1)))∧(InR (v27+1)∧((0≤v29∧v29≤v29∧v29≤4294967296)∧(InR (v29-1)∧((Am.Ends (wD7 y11) (wA3 y11) (wY5 y11) x11)∧(InB r11_2_2 (len r11_2_1)∧(r11_2_2<len r11_2_1∧(InR (r11_2_2+1)∧(0≤v64∧v64≤len l1009)))))))))))),(bif v13 then [] else (bif v15 then (f193 p0 p3) else (List.take (Int.toNat v64) l1009))))
def tC5 (p0:List UInt8)(p1:List UInt8)(p2:Int)(p3:Int):Prop:=(qB8 p0 p1 p2 p3).1
def f183 (p0:List UInt8)(p1:List UInt8)(p2:Int)(p3:Int):(List (List UInt8)):=(qB8 p0 p1 p2 p3).2
instance (p0:List UInt8)(p1:List UInt8)(p2:Int)(p3:Int):Decidable (tC5 p0 p1 p2 p3):=by
 unfold tC5 qB8
 try dsimp only
 infer_instance
def sK3:Am.Spec:=fnSpec [(0,vS),(1,vS),(2,vI),(3,vI)] (.val (.sl .str)) [] (fun x=>tC5 x.1 x.2.1 x.2.2.1 x.2.2.2.1) (fun x=>f183 x.1 x.2.1 x.2.2.1 x.2.2.2.1) (fun _=>())
def rI4:Ctx:=Cx tys [(192,sK0),(193,sK1),(194,sK2)] [(11,uD1)] [(17,[(4,0,31,1009)]),(36,[(1,9,0,0)])] false 66 [] [31]
theorem rI5:CtxOk Tryz.prog rI4:=xW4 xY7 rfl ⟨oA1,oA5,oA9,trivial⟩ rfl (by kernel_rfl)
noncomputable def qB9:Code:=Tryz.f183.body.getD .skip
noncomputable def rI6:Code:=xX3 qB9 0
theorem sX8:yU9 Tryz.prog rI4 rI6:=xY2 rI5 mixed (sp:=uD1) rfl [tC4] (bs:=[]) (by kernel_rfl) trivial (by kernel_rfl) (by kernel_rfl) fun y x=>by kernel_rfl
theorem oB:SpecOk Tryz.prog 183 sK3:=xY3 rI5 mixed Tryz.func183 (by kernel_rfl) (bs:=[rI6]) (by kernel_rfl) ⟨sX8,trivial⟩ fun x=>by kernel_rfl
def qC (p0:List UInt8)(p1:List UInt8):Prop×(List (List UInt8)):=
 ((tC5 p0 p1 (0:Int) (-1:Int)),(f183 p0 p1 (0:Int) (-1:Int)))
def uA0 (p0:List UInt8)(p1:List UInt8):Prop:=(qC p0 p1).1
def f168 (p0:List UInt8)(p1:List UInt8):(List (List UInt8)):=(qC p0 p1).2
instance (p0:List UInt8)(p1:List UInt8):Decidable (uA0 p0 p1):=by
 unfold uA0 qC
 try dsimp only
 infer_instance
def sK4:Am.Spec:=fnSpec [(0,vS),(1,vS)] (.val (.sl .str)) [] (fun x=>uA0 x.1 x.2.1) (fun x=>f168 x.1 x.2.1) (fun _=>())
def qZ0:Ctx:=Cx tys [(183,sK3)] [] [] false 8 [] []
theorem qZ1:CtxOk Tryz.prog qZ0:=xW4 xY7 rfl ⟨oB,trivial⟩ rfl (by kernel_rfl)
theorem oB0:SpecOk Tryz.prog 168 sK4:=xY3 qZ1 mixed Tryz.func168 (by kernel_rfl) (bs:=[]) (by kernel_rfl) trivial fun x=>by kernel_rfl
def oB1 (p0:Int)(p1:Int):Prop×Int:=
 let v7:=(p1==0)
 let v13:=(bif (p0==(-9223372036854775808)) then (p1==(-1)) else false)
 let v16:=(IntKind.wrap .i64 (Int.tdiv p0 p1))
 let m4_1:=(bif v7 then (0:Int) else (bif v13 then (9223372036854775807:Int) else (bif (bif ((Int.tmod p0 p1)!=0) then (!(Ty.eqb .bool (decide (p0<0)) (decide (p1<0)))) else false) then (IntKind.wrap .i64 (v16-1)) else v16)))
 (((!v7)=true→((!v13)=true→(p1≠0∧p1≠0))),m4_1)
def uA1 (p0:Int)(p1:Int):Prop:=(oB1 p0 p1).1
def f122 (p0:Int)(p1:Int):Int:=(oB1 p0 p1).2
instance (p0:Int)(p1:Int):Decidable (uA1 p0 p1):=by
 unfold uA1 oB1
 try dsimp only
 infer_instance
def tC6:Am.Spec:=fnSpec [(0,vI),(1,vI)] vI [] (fun x=>uA1 x.1 x.2.1) (fun x=>f122 x.1 x.2.1) (fun _=>())
def qZ2:Ctx:=Cx tys [] [] [] true 31 [] []
theorem qZ3:CtxOk Tryz.prog qZ2:=xW4 xY7 rfl trivial rfl (by kernel_rfl)
theorem qC0:SpecOk Tryz.prog 122 tC6:=xY3 qZ3 mixed Tryz.func122 (by kernel_rfl) (bs:=[]) (by kernel_rfl) trivial fun x=>by kernel_rfl
def oB2 (p0:Int)(p1:Int):Prop×Int:=
 let v8:=(p1==0)
 let v14:=(bif (p0==(-9223372036854775808)) then (p1==(-1)) else false)
 let v17:=(f122 p0 p1)
 let v22:=(IntKind.wrap .i64 (p0-(IntKind.wrap .i64 (p1*v17))))
 let m5:=(bif (bif (bif (decide (p1>0)) then (decide (v22≥(IntKind.wrap .i64 (p1-v22)))) else false) then true else (bif (decide (p1<0)) then (decide (v22≤(IntKind.wrap .i64 (p1-v22)))) else false)) then (IntKind.wrap .i64 (v17+1)) else v17)
 (((!v8)=true→((!v14)=true→(uA1 p0 p1))),(bif v8 then (0:Int) else (bif v14 then (9223372036854775807:Int) else m5)))
def wA9 (p0:Int)(p1:Int):Prop:=(oB2 p0 p1).1
def f108 (p0:Int)(p1:Int):Int:=(oB2 p0 p1).2
instance (p0:Int)(p1:Int):Decidable (wA9 p0 p1):=by
 unfold wA9 oB2
 try dsimp only
 infer_instance
def wF3:Am.Spec:=fnSpec [(0,vI),(1,vI)] vI [] (fun x=>wA9 x.1 x.2.1) (fun x=>f108 x.1 x.2.1) (fun _=>())
def qZ4:Ctx:=Cx tys [(122,tC6)] [] [] true 46 [] []
theorem qZ5:CtxOk Tryz.prog qZ4:=xW4 xY7 rfl ⟨qC0,trivial⟩ rfl (by kernel_rfl)
theorem wY6:SpecOk Tryz.prog 108 wF3:=xY3 qZ5 mixed Tryz.func108 (by kernel_rfl) (bs:=[]) (by kernel_rfl) trivial fun x=>by kernel_rfl
abbrev wR6:Type:=(Int×Int×(List D197)×Int×Unit)
abbrev wJ8:Type:=(Int×Unit)
def vT0 (y:wR6)(x:wJ8):Prop×Bool×wJ8×Bool×Bool:=
 let a33:=y.2.2.1
 let a35:=x.1
 let v36:=(decide (a35<y.2.2.2.1))
 let v37:=(nth a33 a35 Z197)
 let v48:=(bif (v37.1==y.1) then (v37.2.1==y.2.1) else false)
 ((v36=true→InB a35 (len a33)),(v36&&(!v48)),((IntKind.wrap .i64 (a35+1)),()),(v36&&v48),(!v36))
def vE8 (y:wR6)(x:wJ8):Prop:=(vT0 y x).1
def uD2 (y:wR6)(x:wJ8):Bool:=(vT0 y x).2.1
def vB1 (y:wR6)(x:wJ8):wJ8:=(vT0 y x).2.2.1
def tU2 (y:wR6)(x:wJ8):Bool:=(vT0 y x).2.2.2.1
def rV6 (y:wR6)(x:wJ8):Bool:=(vT0 y x).2.2.2.2
instance (y:wR6)(x:wJ8):Decidable (vE8 y x):=by
 unfold vE8 vT0
 try dsimp only
 infer_instance
def uR (y:wR6)(x:wJ8):Int:=
 (nth y.2.2.1 x.1 Z197).2.2.1
def uR0:St→Option Out:=xP5 [(7,(.val (.int .u8))),(8,(.val (.int .u8))),(33,(.val (.sl T197))),(34,vI)] [(35,vI)] uD2 vB1 vE8 fun y x=>[ex 1 (some (tU2 y x)) [(6,vI)] ((uR y x),()),ex 2 (some (rV6 y x)) [] ()]
def oB3 (p0:D213)(p1:Int)(p2:Int):Prop×Int:=
 let y3:=((nth p0.1.2.2.2.1 p1 Z192).1,(nth p0.1.2.2.2.1 p2 Z192).1,p0.1.2.2.2.2.1,(len p0.1.2.2.2.2.1),())
 let x3:=((0:Int),())
 let e3:=(zC1 (uD2 y3) (vB1 y3) x3)
 ((InB p1 (len p0.1.2.2.2.1)∧(InB p2 (len p0.1.2.2.2.1)∧(Am.Ends (uD2 y3) (vB1 y3) (vE8 y3) x3))),(bif (tU2 y3 e3) then (uR y3 e3) else (0:Int)))
def tC7 (p0:D213)(p1:Int)(p2:Int):Prop:=(oB3 p0 p1 p2).1
def f170 (p0:D213)(p1:Int)(p2:Int):Int:=(oB3 p0 p1 p2).2
instance (p0:D213)(p1:Int)(p2:Int):Decidable (tC7 p0 p1 p2):=by
 unfold tC7 oB3
 try dsimp only
 infer_instance
def sK5:Am.Spec:=fnSpec [(0,(.val (.ptr T213))),(1,vI),(2,vI)] vI [] (fun x=>tC7 x.1 x.2.1 x.2.2.1) (fun x=>f170 x.1 x.2.1 x.2.2.1) (fun _=>())
def rI7:Ctx:=Cx tys [] [(3,uR0)] [] true 52 [] []
theorem rI8:CtxOk Tryz.prog rI7:=xW4 xY7 rfl trivial rfl (by kernel_rfl)
noncomputable def qC1:Code:=Tryz.f170.body.getD .skip
noncomputable def qC2:Code:=xX3 qC1 0
theorem rV7:yU9 Tryz.prog rI7 qC2:=xY2 rI8 mixed (sp:=uR0) rfl [[(6,vI)],[]] (bs:=[]) (by kernel_rfl) trivial (by kernel_rfl) (by kernel_rfl) fun y x=>by kernel_rfl
theorem oB4:SpecOk Tryz.prog 170 sK5:=xY3 rI8 mixed Tryz.func170 (by kernel_rfl) (bs:=[qC2]) (by kernel_rfl) ⟨rV7,trivial⟩ fun x=>by kernel_rfl
abbrev wY7:Type:=(D213×(List UInt8)×Int×Unit)
abbrev wJ9:Type:=((List D125)×Int×Int×Unit)
def uZ1 (y:wY7)(x:wJ9):Prop×Bool×wJ9:=
 let a0:=y.1
 let a1:=y.2.1
 let a6:=x.1
 let a7:=x.2.1
 let a12:=x.2.2.1
 let v13:=(decide (a12<y.2.2.1))
 let v18:=(xX6 a1 a12)
 let v21:=(nth a0.2.1 v18 (0:Int))
 let v24:=(decide (v21<0))
 let v27:=(decide ((len a6)>0))
 let v33:=(IntKind.wrap .i64 ((len a6)-1))
 let v34:=(nth a6 v33 Z125)
 let m7:=(bif v27 then (IntKind.wrap .i64 (a7+(f170 a0 v34.1 v21))) else a7)
 let v44:=([(v21,m7,())]:List D125)
 ((v13=true→(InB a12 (len a1)∧(InB v18 256∧((!v24)=true→((v27=true→(InB v33 (len a6)∧(tC7 a0 v34.1 v21)))∧(((List.length a6+List.length v44:Nat):Int)≤4294967296∧InB v21 (len a0.1.2.2.2.1))))))),(v13&&(v24||(!v24))),((bif v24 then a6 else (a6++v44)),(bif v24 then a7 else (IntKind.wrap .i64 (m7+(nth a0.1.2.2.2.1 v21 Z192).2.1))),(IntKind.wrap .i64 (a12+1)),()))
def wW5 (y:wY7)(x:wJ9):Prop:=(uZ1 y x).1
def vE9 (y:wY7)(x:wJ9):Bool:=(uZ1 y x).2.1
def wM6 (y:wY7)(x:wJ9):wJ9:=(uZ1 y x).2.2
instance (y:wY7)(x:wJ9):Decidable (wW5 y x):=by
 unfold wW5 uZ1
 try dsimp only
 infer_instance
def uR1 (y:wY7)(x:wJ9):(List D125):=
 x.1
def uR2 (y:wY7)(x:wJ9):Int:=
 x.2.1
def tU3:List (Nat×Sh):=[(6,(.own T125 1006 false)),(7,vI)]
def uR3:St→Option Out:=xP5 [(0,(.val (.ptr T213))),(1,vS),(11,vI)] [(6,(.own T125 1006 false)),(7,vI),(12,vI)] vE9 wM6 wW5 fun y x=>[ex 2 none tU3 ((uR1 y x),(uR2 y x),())]
def oB5 (p0:D213)(p1:List UInt8):Prop×((List D125)×Int×Unit):=
 let y4:=(p0,p1,(len p1),())
 let x4:=(([]:List D125),(0:Int),(0:Int),())
 let e4:=(zC1 (vE9 y4) (wM6 y4) x4)
 ((Am.Ends (vE9 y4) (wM6 y4) (wW5 y4) x4),((uR1 y4 e4),(uR2 y4 e4),()))
def vM8 (p0:D213)(p1:List UInt8):Prop:=(oB5 p0 p1).1
def f150 (p0:D213)(p1:List UInt8):((List D125)×Int×Unit):=(oB5 p0 p1).2
instance (p0:D213)(p1:List UInt8):Decidable (vM8 p0 p1):=by
 unfold vM8 oB5
 try dsimp only
 infer_instance
def tC8:Am.Spec:=fnSpec [(0,(.val (.ptr T213))),(1,vS)] (.tup (.cons (.own T125 0 false) (.cons vI .nl))) [] (fun x=>vM8 x.1 x.2.1) (fun x=>f150 x.1 x.2.1) (fun _=>())
def rI9:Ctx:=Cx tys [(170,sK5)] [(4,uR3)] [(21,[(4,0,45,1006)]),(27,[(4,0,1006,0)])] true 60 [] []
theorem rJ:CtxOk Tryz.prog rI9:=xW4 xY7 rfl ⟨oB4,trivial⟩ rfl (by kernel_rfl)
noncomputable def qC3:Code:=Tryz.f150.body.getD .skip
noncomputable def qC4:Code:=xX3 qC3 0
theorem rV8:yU9 Tryz.prog rI9 qC4:=xY2 rJ mixed (sp:=uR3) rfl [tU3] (bs:=[]) (by kernel_rfl) trivial (by kernel_rfl) (by kernel_rfl) fun y x=>by kernel_rfl
theorem qC5:SpecOk Tryz.prog 150 tC8:=xY3 rJ mixed Tryz.func150 (by kernel_rfl) (bs:=[qC4]) (by kernel_rfl) ⟨rV8,trivial⟩ fun x=>by kernel_rfl
def oB6 (p0:D213)(p1:List UInt8)(p2:Int):Prop×Int:=
 let v17:=(IntKind.wrap .i64 (p2*(f150 p0 p1).2.1))
 (((vM8 p0 p1)∧(wA9 v17 p0.1.1)),(f108 v17 p0.1.1))
def tC9 (p0:D213)(p1:List UInt8)(p2:Int):Prop:=(oB6 p0 p1 p2).1
def f169 (p0:D213)(p1:List UInt8)(p2:Int):Int:=(oB6 p0 p1 p2).2
instance (p0:D213)(p1:List UInt8)(p2:Int):Decidable (tC9 p0 p1 p2):=by
 unfold tC9 oB6
 try dsimp only
 infer_instance
def sK6:Am.Spec:=fnSpec [(0,(.val (.ptr T213))),(1,vS),(2,vI)] vI [] (fun x=>tC9 x.1 x.2.1 x.2.2.1) (fun x=>f169 x.1 x.2.1 x.2.2.1) (fun _=>())
def qZ6:Ctx:=Cx tys [(108,wF3),(150,tC8)] [] [(3,[(4,0,12,1007)])] true 24 [] []
theorem qZ7:CtxOk Tryz.prog qZ6:=xW4 xY7 rfl ⟨wY6,qC5,trivial⟩ rfl (by kernel_rfl)
theorem oB7:SpecOk Tryz.prog 169 sK6:=xY3 qZ7 mixed Tryz.func169 (by kernel_rfl) (bs:=[]) (by kernel_rfl) trivial fun x=>by kernel_rfl
abbrev wO6:Type:=(D213×Int×Int×(List (List UInt8))×Int×Unit)
abbrev wF5:Type:=((List (List UInt8))×(List UInt8)×Int×Unit)
def uD3 (y:wO6)(x:wF5):Prop×Bool×wF5:=
 let a4:=y.1
 let a6:=y.2.1
 let a7:=y.2.2.1
 let a25:=y.2.2.2.1
 let a9:=x.1
 let a12:=x.2.1
 let a27:=x.2.2.1
 let v28:=(decide (a27<y.2.2.2.2.1))
 let v29:=(nth a25 a27 ([]:List UInt8))
 let v32:=(a12++([32]:List UInt8))
 let v34:=(v32++v29)
 let v36:=(a7==0)
 let v44:=(bif v36 then true else (decide ((f169 a4 v34 a6)≤a7)))
 let v48:=([a12]:List (List UInt8))
 ((v28=true→(InB a27 (len a25)∧(((List.length a12+List.length ([32]:List UInt8):Nat):Int)≤9223372036854775807∧(((List.length v32+List.length v29:Nat):Int)≤9223372036854775807∧(((!v36)=true→(tC9 a4 v34 a6))∧((v44=false→((List.length a9+List.length v48:Nat):Int)≤4294967296)∧InR (a27+1))))))),v28,((bif v44 then a9 else (a9++v48)),(bif v44 then v34 else v29),(a27+1),()))
def wO7 (y:wO6)(x:wF5):Prop:=(uD3 y x).1
def wO8 (y:wO6)(x:wF5):Bool:=(uD3 y x).2.1
def wF (y:wO6)(x:wF5):wF5:=(uD3 y x).2.2
instance (y:wO6)(x:wF5):Decidable (wO7 y x):=by
 unfold wO7 uD3
 try dsimp only
 infer_instance
def vJ0 (y:wO6)(x:wF5):(List (List UInt8)):=
 x.1
def vJ1 (y:wO6)(x:wF5):(List UInt8):=
 x.2.1
def tD:List (Nat×Sh):=[(4,(.box (.ptr T213) (.val (.ptr T213)))),(6,(.box (.int .i64) vI)),(7,(.box (.int .i64) vI)),(9,(.box (.sl .str) (.own .str 400900 false))),(12,vS)]
def uD4:St→Option Out:=xP5 [(4,(.box (.ptr T213) (.val (.ptr T213)))),(6,(.box (.int .i64) vI)),(7,(.box (.int .i64) vI)),(25,(.val (.sl .str))),(26,vI)] [(9,(.box (.sl .str) (.own .str 400900 false))),(12,vS),(27,vI)] wO8 wF wO7 fun y x=>[ex 4 none tD (y.1,y.2.1,y.2.2.1,(vJ0 y x),(vJ1 y x),())]
def rJ0 (p0:D213)(p1:Int)(p2:Int)(p3:(List (List UInt8)))(p4:List UInt8):Prop×(Unit)×(D213×Int×Int×(List (List UInt8))×Unit):=
 let v20:=(f168 p4 ([32]:List UInt8))
 let v25:=(List.drop (Int.toNat (1:Int)) v20)
 let y7:=(p0,p1,p2,v25,(len v25),())
 let x7:=(p3,(nth v20 (0:Int) ([]:List UInt8)),(0:Int),())
 let e7:=(zC1 (wO8 y7) (wF y7) x7)
 let r7_4_0:=(vJ0 y7 e7)
 let v54:=([(vJ1 y7 e7)]:List (List UInt8))
 (((uA0 p4 ([32]:List UInt8))∧(InB (0:Int) (len v20)∧((0≤(1:Int)∧(1:Int)≤len v20)∧((Am.Ends (wO8 y7) (wF y7) (wO7 y7) x7)∧((List.length r7_4_0+List.length v54:Nat):Int)≤4294967296)))),(),(p0,p1,p2,(r7_4_0++v54),()))
def wV2 (p0:D213)(p1:Int)(p2:Int)(p3:(List (List UInt8)))(p4:List UInt8):Prop:=(rJ0 p0 p1 p2 p3 p4).1
def vJ2 (p0:D213)(p1:Int)(p2:Int)(p3:(List (List UInt8)))(p4:List UInt8):(D213×Int×Int×(List (List UInt8))×Unit):=(rJ0 p0 p1 p2 p3 p4).2.2
instance (p0:D213)(p1:Int)(p2:Int)(p3:(List (List UInt8)))(p4:List UInt8):Decidable (wV2 p0 p1 p2 p3 p4):=by
 unfold wV2 rJ0
 try dsimp only
 infer_instance
def vT1:List (Nat×Sh):=[(4,(.box (.ptr T213) (.val (.ptr T213)))),(6,(.box (.int .i64) vI)),(7,(.box (.int .i64) vI)),(9,(.box (.sl .str) (.own .str 400900 false))),(10,vS)]
def rJ1:Sh:=(.tup .nl)
def vJ3:List (Nat×Sh):=[(4,(.box (.ptr T213) (.val (.ptr T213)))),(6,(.box (.int .i64) vI)),(7,(.box (.int .i64) vI)),(9,(.box (.sl .str) (.own .str 400900 false)))]
def vM9:Ctx:=Cx tys [(168,sK4),(169,sK6)] [(7,uD4)] [(25,[(4,0,49,400900)]),(31,[(4,0,55,400900)])] false 57 [4,6,7,9] []
theorem sK7:CtxOk Tryz.prog vM9:=xW4 xY7 rfl ⟨oB0,oB7,trivial⟩ rfl (by kernel_rfl)
noncomputable def wI8:Code:=(xL5 (Tryz.f149.body.getD .skip)).getD .skip
noncomputable def rJ2:Code:=xX3 wI8 0
theorem sX9:yU9 Tryz.prog vM9 rJ2:=xY2 sK7 mixed (sp:=uD4) rfl [tD] (bs:=[]) (by kernel_rfl) trivial (by kernel_rfl) (by kernel_rfl) fun y x=>by kernel_rfl
theorem qZ8:∀ x,xQ9 vM9 wI8 (zC3 vT1 x)=true:=fun x=>by kernel_rfl
theorem qC6:∀ x,xC5 vM9 wI8 [] vT1 rJ1 vJ3 x=some (wV2 x.1 x.2.1 x.2.2.1 x.2.2.2.1 x.2.2.2.2.1,(),vJ2 x.1 x.2.1 x.2.2.1 x.2.2.2.1 x.2.2.2.2.1):=fun x=>by kernel_rfl
theorem qZ9:xS9 Tryz.prog vM9 wI8 vT1 vJ3 (fun x=>wV2 x.1 x.2.1 x.2.2.1 x.2.2.2.1 x.2.2.2.2.1) (fun x=>vJ2 x.1 x.2.1 x.2.2.1 x.2.2.2.1 x.2.2.2.2.1):=xV9 (rs:=rJ1) (F:=fun _=>()) sK7 mixed (bs:=[rJ2]) (by kernel_rfl) ⟨sX9,trivial⟩ (by kernel_rfl) qZ8 qC6
end Go.Proofs.YtpanghcojpnkaaaGreatDoor.Am
