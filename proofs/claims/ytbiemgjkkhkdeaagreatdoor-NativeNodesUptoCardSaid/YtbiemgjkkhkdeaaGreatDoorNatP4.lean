/- Printed by program, part 4. No condition. -/
import Derived.Test.YtbiemgjkkhkdeaaGreatDoorNatP3
set_option linter.unusedVariables false
set_option synthInstance.maxSize 4000
set_option synthInstance.maxHeartbeats 400000
namespace Go.Proofs.YtbiemgjkkhkdeaaGreatDoor.Am
open Go Go.Am Go.Proofs
abbrev vN1:Type:=(Int×Unit)
abbrev vB0:Type:=(D71×(List Int)×Int×Unit)
def vK3 (y:vN1)(x:vB0):Prop×Bool×vB0:=
 let a0:=x.1
 let a6:=x.2.1
 let a7:=x.2.2.1
 let v14:=(decide (a7<y.1))
 let g0:=(bif v14 then (vK6 a0).1 else a0)
 let v18:=(bif v14 then (vU7 a0) else false)
 let v24:=([(wU0 g0)]:List Int)
 (((v14=true→(vH2 a0))∧(v18=true→((wT5 g0)∧((List.length a6+List.length v24:Nat):Int)≤4294967296))),v18,((wT9 g0).1,(a6++v24),(IntKind.wrap .i64 (a7+1)),()))
def vB9 y x:=(vK3 y x).1
def wW2 y x:=(vK3 y x).2.1
def wX y x:=(vK3 y x).2.2
instance (y x):Decidable (vB9 y x):=by unfold vB9 vK3;dsimp only;infer_instance
def vV6 (y:vN1)(x:vB0):D71:=
 let a0:=x.1
 (bif (decide (x.2.2.1<y.1)) then (vK6 a0).1 else a0)
def uI6 (y:vN1)(x:vB0):(List Int):=
 x.2.1
def uR7:List (Nat×Sh):=[(0,(.box T71 (.val T71))),(6,(.own (.int .i64) 1006 false))]
def tM5:=li [(5,vI)] [(0,(.box T71 (.val T71))),(6,(.own (.int .i64) 1006 false)),(7,vI)] wW2 wX vB9 (fun y x=>[ex 2 none uR7 ((vV6 y x),(uI6 y x),())]) [uR7]
def uE1 (p0:D71)(p1:Int):Prop×(List Int)×(D71×Unit):=
 let y4:=((wU7 p0 p1),())
 let x4:=((wT7 p0 p1).1,([]:List Int),(0:Int),())
 let e4:=(zC5 (wW2 y4) (wX y4) x4)
 let r4_2_0:=(vV6 y4 e4)
 let v27o:=(vK6 r4_2_0)
 let v28:=(!(vU7 r4_2_0))
 (((wV1 p0 p1)∧((xQ5 (wW2 y4) (wX y4) (vB9 y4) x4)∧(vH2 r4_2_0))),(bif v28 then [] else (uI6 y4 e4)),((bif v28 then v27o.1 else v27o.1),()))
def vP7 p0 p1:=(uE1 p0 p1).1
def uR8 p0 p1:=(uE1 p0 p1).2.1
def uG3 p0 p1:=(uE1 p0 p1).2.2
instance (p0 p1):Decidable (vP7 p0 p1):=by unfold vP7 uE1;dsimp only;infer_instance
theorem sB5:SK 72 (fnSpec [(0,(.box T71 (.val T71))),(1,vI)] (.own (.int .i64) 0 false) [(0,(.box T71 (.val T71)))] (fun x=>vP7 x.1 x.2.1) (fun x=>uR8 x.1 x.2.1) (fun x=>uG3 x.1 x.2.1)):=fx (fun c=>{ c with wants:=[(86,[])] }) Tryz.func72 30 [kb vP5,kb vX3,kb vV8] [(4,tM5)] [(5,[(4,0,11,1006)]),(13,[(4,0,25,1006)]),(19,[(4,0,1006,0)])] true [0]
abbrev vN2:Type:=(Int×Unit)
abbrev vG2:Type:=(D71×(List D111)×Int×Unit)
def uG4 (y:vN2)(x:vG2):Prop×Bool×vG2:=
 let a0:=x.1
 let a3:=x.2.1
 let a5:=x.2.2.1
 let v12:=(decide (a5<y.1))
 let v16o:=(wT9 a0)
 let v22:=([((wU0 a0),(uN2 v16o.1),())]:List D111)
 ((v12=true→((wT5 a0)∧((vL1 v16o.1)∧(((List.length a3+List.length v22:Nat):Int)≤4294967296∧InR (a5+1))))),v12,((vV3 v16o.1).1,(a3++v22),(a5+1),()))
def vP8 y x:=(uG4 y x).1
def vJ2 y x:=(uG4 y x).2.1
def wY2 y x:=(uG4 y x).2.2
instance (y x):Decidable (vP8 y x):=by unfold vP8 uG4;dsimp only;infer_instance
def uI7 (y:vN2)(x:vG2):D71:=
 x.1
def uI8 (y:vN2)(x:vG2):(List D111):=
 x.2.1
def uR9:List (Nat×Sh):=[(0,(.box T71 (.val T71))),(3,(.own T111 1003 false))]
def tM6:=li [(4,vI)] [(0,(.box T71 (.val T71))),(3,(.own T111 1003 false)),(5,vI)] vJ2 wY2 vP8 (fun y x=>[ex 2 none uR9 ((uI7 y x),(uI8 y x),())]) [uR9]
def uZ1 (p0:D71):Prop×(List D111)×(D71×Unit):=
 let y4:=((wU7 p0 (16:Int)),())
 let x4:=((wT7 p0 (16:Int)).1,([]:List D111),(0:Int),())
 let e4:=(zC5 (vJ2 y4) (wY2 y4) x4)
 (((wV1 p0 (16:Int))∧(xQ5 (vJ2 y4) (wY2 y4) (vP8 y4) x4)),(uI8 y4 e4),((uI7 y4 e4),()))
def vI2 p0:=(uZ1 p0).1
def uB p0:=(uZ1 p0).2.1
def vQ9 p0:=(uZ1 p0).2.2
instance (p0):Decidable (vI2 p0):=by unfold vI2 uZ1;dsimp only;infer_instance
theorem sB6:SK 73 (fnSpec [(0,(.box T71 (.val T71)))] (.own T111 0 false) [(0,(.box T71 (.val T71)))] (fun x=>vI2 x.1) (fun x=>uB x.1) (fun x=>vQ9 x.1)):=fb Tryz.func73 25 [kb vP5,kb vX3,kb tM4] [(4,tM6)] [(3,[(4,0,7,1003)]),(15,[(4,0,23,1003)]),(17,[(4,0,1003,0)])] false [0]
def uZ2 (p0:D71):Prop×D106×(D71×Unit):=
 let v6o:=(wT9 p0)
 (((wT5 p0)∧(wT5 v6o.1)),((wU0 p0),(wU0 v6o.1),()),((wT9 v6o.1).1,()))
def vX4 p0:=(uZ2 p0).1
def tC0 p0:=(uZ2 p0).2.1
def vZ9 p0:=(uZ2 p0).2.2
instance (p0):Decidable (vX4 p0):=by unfold vX4 uZ2;dsimp only;infer_instance
theorem tM7:SK 75 (fnSpec [(0,(.box T71 (.val T71)))] (.val T106) [(0,(.box T71 (.val T71)))] (fun x=>vX4 x.1) (fun x=>tC0 x.1) (fun x=>vZ9 x.1)):=fb Tryz.func75 12 [kb vX3] [] [] false [0]
abbrev vN3:Type:=((List D114)×Int×Int×Unit)
abbrev vG3:Type:=(D71×D114×Int×Unit)
def uG5 (y:vN3)(x:vG3):Prop×Bool×vG3:=
 let a0:=x.1
 let a6:=x.2.1
 let a7:=x.2.2.1
 let v20:=(decide (a7<3))
 ((v20=true→((vX4 a0)∧(InB a7 3∧InR (a7+1)))),v20,((vZ9 a0).1,(a6.1,(List.set a6.2.1 (Int.toNat a7) (tC0 a0)),()),(a7+1),()))
def vK4 y x:=(uG5 y x).1
def vG4 y x:=(uG5 y x).2.1
def wX0 y x:=(uG5 y x).2.2
instance (y x):Decidable (vK4 y x):=by unfold vK4 uG5;dsimp only;infer_instance
def uI9 (y:vN3)(x:vG3):D71:=
 x.1
def uJ (y:vN3)(x:vG3):D114:=
 x.2.1
def uS:List (Nat×Sh):=[(0,(.box T71 (.val T71))),(3,(.own T114 1003 false)),(4,vI),(5,vI),(6,(.box T114 (.val T114)))]
def tM8:=li [(3,(.own T114 1003 false)),(4,vI),(5,vI)] [(0,(.box T71 (.val T71))),(6,(.box T114 (.val T114))),(7,vI)] vG4 wX0 vK4 (fun y x=>[ex 4 none uS ((uI9 y x),y.1,y.2.1,y.2.2.1,(uJ y x),())]) [uS]
abbrev vN4:Type:=(Int×Unit)
abbrev vG5:Type:=(D71×(List D114)×Int×Unit)
def uG6 (y:vN4)(x:vG5):Prop×Bool×vG5:=
 let a4:=y.1
 let a0:=x.1
 let a3:=x.2.1
 let a5:=x.2.2.1
 let v13:=(decide (a5<a4))
 let y8:=(a3,a4,a5,())
 let x8:=((wT9 a0).1,((wU0 a0),(List.replicate 3 Z106),()),(0:Int),())
 let e8:=(zC5 (vG4 y8) (wX0 y8) x8)
 let v30:=([(uJ y8 e8)]:List D114)
 ((v13=true→((wT5 a0)∧((xQ5 (vG4 y8) (wX0 y8) (vK4 y8) x8)∧(((List.length a3+List.length v30:Nat):Int)≤4294967296∧InR (a5+1))))),v13,((uI9 y8 e8),(a3++v30),(a5+1),()))
def vP9 y x:=(uG6 y x).1
def vJ3 y x:=(uG6 y x).2.1
def wY3 y x:=(uG6 y x).2.2
instance (y x):Decidable (vP9 y x):=by unfold vP9 uG6;dsimp only;infer_instance
def uJ0 (y:vN4)(x:vG5):D71:=
 x.1
def uJ1 (y:vN4)(x:vG5):(List D114):=
 x.2.1
def uS0:List (Nat×Sh):=[(0,(.box T71 (.val T71))),(3,(.own T114 1003 false))]
def tM9:=li [(4,vI)] [(0,(.box T71 (.val T71))),(3,(.own T114 1003 false)),(5,vI)] vJ3 wY3 vP9 (fun y x=>[ex 2 none uS0 ((uJ0 y x),(uJ1 y x),())]) [uS0]
def uZ3 (p0:D71):Prop×(List D114)×(D71×Unit):=
 let y4:=((wU7 p0 (128:Int)),())
 let x4:=((wT7 p0 (128:Int)).1,([]:List D114),(0:Int),())
 let e4:=(zC5 (vJ3 y4) (wY3 y4) x4)
 (((wV1 p0 (128:Int))∧(xQ5 (vJ3 y4) (wY3 y4) (vP9 y4) x4)),(uJ1 y4 e4),((uJ0 y4 e4),()))
def vI3 p0:=(uZ3 p0).1
def uB0 p0:=(uZ3 p0).2.1
def uG7 p0:=(uZ3 p0).2.2
instance (p0):Decidable (vI3 p0):=by unfold vI3 uZ3;dsimp only;infer_instance
theorem sB7:SK 74 (fnSpec [(0,(.box T71 (.val T71)))] (.own T114 0 false) [(0,(.box T71 (.val T71)))] (fun x=>vI3 x.1) (fun x=>uB0 x.1) (fun x=>uG7 x.1)):=fb Tryz.func74 33 [kb vP5,kb vX3,kb tM7] [(4,tM9),(8,tM8)] [(3,[(4,0,8,1003)]),(23,[(4,0,31,1003)]),(25,[(4,0,1003,0)])] false [0]
abbrev vG6:Type:=(Int×Unit)
abbrev wY4:Type:=(D71×(Int×Int×Int×(List UInt8)×Bool×Bool×Bool×Int×Int×(Int×Int×(List Int)×Unit)×D43×Int×(Int×Int×(List D45)×Unit)×D45×Int×(List Int)×Int×(List D111)×(List D114)×Int×Int×Int×Int×(List UInt8)×Int×Int×Int×(Int×Int×Int×(List D106)×Unit)×Unit)×(Int×Int×Int×(List UInt8)×Bool×Bool×Bool×Int×Int×D26×D43×Int×D23×D45×Int×(List Int)×Int×(List D111)×(List D114)×Int×Int×Int×Int×(List UInt8)×Int×Int×Int×(Int×Int×Int×(List D106)×Unit)×Unit)×Int×Unit)
def uK (y:vG6)(x:wY4):Prop×Bool×wY4:=
 let a0:=x.1
 let a2:=x.2.1
 let a3:=x.2.2.1
 let a5:=x.2.2.2.1
 let v125:=(decide (a5<y.1))
 let v133:=([(tC0 a0)]:List D106)
 let s_2:=(a2.2.2.2.2.2.2.2.2.2.2.2.2.2.2.2.2.2.2.2.2.2.2.2.2.2.2.2.1.1,a2.2.2.2.2.2.2.2.2.2.2.2.2.2.2.2.2.2.2.2.2.2.2.2.2.2.2.2.1.2.1,a2.2.2.2.2.2.2.2.2.2.2.2.2.2.2.2.2.2.2.2.2.2.2.2.2.2.2.2.1.2.2.1,a2.2.2.2.2.2.2.2.2.2.2.2.2.2.2.2.2.2.2.2.2.2.2.2.2.2.2.2.1.2.2.2.1,())
 let s_3:=(a2.1,a2.2.1,a2.2.2.1,a2.2.2.2.1,a2.2.2.2.2.1,a2.2.2.2.2.2.1,a2.2.2.2.2.2.2.1,a2.2.2.2.2.2.2.2.1,a2.2.2.2.2.2.2.2.2.1,(a2.2.2.2.2.2.2.2.2.2.1.1,a2.2.2.2.2.2.2.2.2.2.1.2.1,a2.2.2.2.2.2.2.2.2.2.1.2.2.1,()),a2.2.2.2.2.2.2.2.2.2.2.1,a2.2.2.2.2.2.2.2.2.2.2.2.1,(a2.2.2.2.2.2.2.2.2.2.2.2.2.1.1,a2.2.2.2.2.2.2.2.2.2.2.2.2.1.2.1,a2.2.2.2.2.2.2.2.2.2.2.2.2.1.2.2.1,()),a2.2.2.2.2.2.2.2.2.2.2.2.2.2.1,a2.2.2.2.2.2.2.2.2.2.2.2.2.2.2.1,a2.2.2.2.2.2.2.2.2.2.2.2.2.2.2.2.1,a2.2.2.2.2.2.2.2.2.2.2.2.2.2.2.2.2.1,a2.2.2.2.2.2.2.2.2.2.2.2.2.2.2.2.2.2.1,a2.2.2.2.2.2.2.2.2.2.2.2.2.2.2.2.2.2.2.1,a2.2.2.2.2.2.2.2.2.2.2.2.2.2.2.2.2.2.2.2.1,a2.2.2.2.2.2.2.2.2.2.2.2.2.2.2.2.2.2.2.2.2.1,a2.2.2.2.2.2.2.2.2.2.2.2.2.2.2.2.2.2.2.2.2.2.1,a2.2.2.2.2.2.2.2.2.2.2.2.2.2.2.2.2.2.2.2.2.2.2.1,a2.2.2.2.2.2.2.2.2.2.2.2.2.2.2.2.2.2.2.2.2.2.2.2.1,a2.2.2.2.2.2.2.2.2.2.2.2.2.2.2.2.2.2.2.2.2.2.2.2.2.1,a2.2.2.2.2.2.2.2.2.2.2.2.2.2.2.2.2.2.2.2.2.2.2.2.2.2.1,a2.2.2.2.2.2.2.2.2.2.2.2.2.2.2.2.2.2.2.2.2.2.2.2.2.2.2.1,s_2,())
 let s_4:=(a3.2.2.2.2.2.2.2.2.2.2.2.2.2.2.2.2.2.2.2.2.2.2.2.2.2.2.2.1.1,a3.2.2.2.2.2.2.2.2.2.2.2.2.2.2.2.2.2.2.2.2.2.2.2.2.2.2.2.1.2.1,a3.2.2.2.2.2.2.2.2.2.2.2.2.2.2.2.2.2.2.2.2.2.2.2.2.2.2.2.1.2.2.1,(a3.2.2.2.2.2.2.2.2.2.2.2.2.2.2.2.2.2.2.2.2.2.2.2.2.2.2.2.1.2.2.2.1++v133),())
 let s_5:=(a3.1,a3.2.1,a3.2.2.1,a3.2.2.2.1,a3.2.2.2.2.1,a3.2.2.2.2.2.1,a3.2.2.2.2.2.2.1,a3.2.2.2.2.2.2.2.1,a3.2.2.2.2.2.2.2.2.1,a3.2.2.2.2.2.2.2.2.2.1,a3.2.2.2.2.2.2.2.2.2.2.1,a3.2.2.2.2.2.2.2.2.2.2.2.1,a3.2.2.2.2.2.2.2.2.2.2.2.2.1,a3.2.2.2.2.2.2.2.2.2.2.2.2.2.1,a3.2.2.2.2.2.2.2.2.2.2.2.2.2.2.1,a3.2.2.2.2.2.2.2.2.2.2.2.2.2.2.2.1,a3.2.2.2.2.2.2.2.2.2.2.2.2.2.2.2.2.1,a3.2.2.2.2.2.2.2.2.2.2.2.2.2.2.2.2.2.1,a3.2.2.2.2.2.2.2.2.2.2.2.2.2.2.2.2.2.2.1,a3.2.2.2.2.2.2.2.2.2.2.2.2.2.2.2.2.2.2.2.1,a3.2.2.2.2.2.2.2.2.2.2.2.2.2.2.2.2.2.2.2.2.1,a3.2.2.2.2.2.2.2.2.2.2.2.2.2.2.2.2.2.2.2.2.2.1,a3.2.2.2.2.2.2.2.2.2.2.2.2.2.2.2.2.2.2.2.2.2.2.1,a3.2.2.2.2.2.2.2.2.2.2.2.2.2.2.2.2.2.2.2.2.2.2.2.1,a3.2.2.2.2.2.2.2.2.2.2.2.2.2.2.2.2.2.2.2.2.2.2.2.2.1,a3.2.2.2.2.2.2.2.2.2.2.2.2.2.2.2.2.2.2.2.2.2.2.2.2.2.1,a3.2.2.2.2.2.2.2.2.2.2.2.2.2.2.2.2.2.2.2.2.2.2.2.2.2.2.1,s_4,())
 ((v125=true→((vX4 a0)∧(((List.length a3.2.2.2.2.2.2.2.2.2.2.2.2.2.2.2.2.2.2.2.2.2.2.2.2.2.2.2.1.2.2.2.1+List.length v133:Nat):Int)≤4294967296∧InR (a5+1)))),v125,((vZ9 a0).1,s_3,s_5,(a5+1),()))
def vL2 y x:=(uK y x).1
def vG7 y x:=(uK y x).2.1
def wX3 y x:=(uK y x).2.2
def uE2 (y:vG6)(x:wY4):D71:=
 x.1
def uZ4 (y:vG6)(x:wY4):(Int×Int×Int×(List UInt8)×Bool×Bool×Bool×Int×Int×(Int×Int×(List Int)×Unit)×D43×Int×(Int×Int×(List D45)×Unit)×D45×Int×(List Int)×Int×(List D111)×(List D114)×Int×Int×Int×Int×(List UInt8)×Int×Int×Int×(Int×Int×Int×(List D106)×Unit)×Unit):=
 let a2:=x.2.1
 let s_8:=(a2.2.2.2.2.2.2.2.2.2.2.2.2.2.2.2.2.2.2.2.2.2.2.2.2.2.2.2.1.1,a2.2.2.2.2.2.2.2.2.2.2.2.2.2.2.2.2.2.2.2.2.2.2.2.2.2.2.2.1.2.1,a2.2.2.2.2.2.2.2.2.2.2.2.2.2.2.2.2.2.2.2.2.2.2.2.2.2.2.2.1.2.2.1,a2.2.2.2.2.2.2.2.2.2.2.2.2.2.2.2.2.2.2.2.2.2.2.2.2.2.2.2.1.2.2.2.1,())
 let s_9:=(a2.1,a2.2.1,a2.2.2.1,a2.2.2.2.1,a2.2.2.2.2.1,a2.2.2.2.2.2.1,a2.2.2.2.2.2.2.1,a2.2.2.2.2.2.2.2.1,a2.2.2.2.2.2.2.2.2.1,(a2.2.2.2.2.2.2.2.2.2.1.1,a2.2.2.2.2.2.2.2.2.2.1.2.1,a2.2.2.2.2.2.2.2.2.2.1.2.2.1,()),a2.2.2.2.2.2.2.2.2.2.2.1,a2.2.2.2.2.2.2.2.2.2.2.2.1,(a2.2.2.2.2.2.2.2.2.2.2.2.2.1.1,a2.2.2.2.2.2.2.2.2.2.2.2.2.1.2.1,a2.2.2.2.2.2.2.2.2.2.2.2.2.1.2.2.1,()),a2.2.2.2.2.2.2.2.2.2.2.2.2.2.1,a2.2.2.2.2.2.2.2.2.2.2.2.2.2.2.1,a2.2.2.2.2.2.2.2.2.2.2.2.2.2.2.2.1,a2.2.2.2.2.2.2.2.2.2.2.2.2.2.2.2.2.1,a2.2.2.2.2.2.2.2.2.2.2.2.2.2.2.2.2.2.1,a2.2.2.2.2.2.2.2.2.2.2.2.2.2.2.2.2.2.2.1,a2.2.2.2.2.2.2.2.2.2.2.2.2.2.2.2.2.2.2.2.1,a2.2.2.2.2.2.2.2.2.2.2.2.2.2.2.2.2.2.2.2.2.1,a2.2.2.2.2.2.2.2.2.2.2.2.2.2.2.2.2.2.2.2.2.2.1,a2.2.2.2.2.2.2.2.2.2.2.2.2.2.2.2.2.2.2.2.2.2.2.1,a2.2.2.2.2.2.2.2.2.2.2.2.2.2.2.2.2.2.2.2.2.2.2.2.1,a2.2.2.2.2.2.2.2.2.2.2.2.2.2.2.2.2.2.2.2.2.2.2.2.2.1,a2.2.2.2.2.2.2.2.2.2.2.2.2.2.2.2.2.2.2.2.2.2.2.2.2.2.1,a2.2.2.2.2.2.2.2.2.2.2.2.2.2.2.2.2.2.2.2.2.2.2.2.2.2.2.1,s_8,())
 s_9
def uE3 (y:vG6)(x:wY4):(Int×Int×Int×(List UInt8)×Bool×Bool×Bool×Int×Int×D26×D43×Int×D23×D45×Int×(List Int)×Int×(List D111)×(List D114)×Int×Int×Int×Int×(List UInt8)×Int×Int×Int×(Int×Int×Int×(List D106)×Unit)×Unit):=
 let a3:=x.2.2.1
 let s_10:=(a3.2.2.2.2.2.2.2.2.2.2.2.2.2.2.2.2.2.2.2.2.2.2.2.2.2.2.2.1.1,a3.2.2.2.2.2.2.2.2.2.2.2.2.2.2.2.2.2.2.2.2.2.2.2.2.2.2.2.1.2.1,a3.2.2.2.2.2.2.2.2.2.2.2.2.2.2.2.2.2.2.2.2.2.2.2.2.2.2.2.1.2.2.1,a3.2.2.2.2.2.2.2.2.2.2.2.2.2.2.2.2.2.2.2.2.2.2.2.2.2.2.2.1.2.2.2.1,())
 let s_11:=(a3.1,a3.2.1,a3.2.2.1,a3.2.2.2.1,a3.2.2.2.2.1,a3.2.2.2.2.2.1,a3.2.2.2.2.2.2.1,a3.2.2.2.2.2.2.2.1,a3.2.2.2.2.2.2.2.2.1,a3.2.2.2.2.2.2.2.2.2.1,a3.2.2.2.2.2.2.2.2.2.2.1,a3.2.2.2.2.2.2.2.2.2.2.2.1,a3.2.2.2.2.2.2.2.2.2.2.2.2.1,a3.2.2.2.2.2.2.2.2.2.2.2.2.2.1,a3.2.2.2.2.2.2.2.2.2.2.2.2.2.2.1,a3.2.2.2.2.2.2.2.2.2.2.2.2.2.2.2.1,a3.2.2.2.2.2.2.2.2.2.2.2.2.2.2.2.2.1,a3.2.2.2.2.2.2.2.2.2.2.2.2.2.2.2.2.2.1,a3.2.2.2.2.2.2.2.2.2.2.2.2.2.2.2.2.2.2.1,a3.2.2.2.2.2.2.2.2.2.2.2.2.2.2.2.2.2.2.2.1,a3.2.2.2.2.2.2.2.2.2.2.2.2.2.2.2.2.2.2.2.2.1,a3.2.2.2.2.2.2.2.2.2.2.2.2.2.2.2.2.2.2.2.2.2.1,a3.2.2.2.2.2.2.2.2.2.2.2.2.2.2.2.2.2.2.2.2.2.2.1,a3.2.2.2.2.2.2.2.2.2.2.2.2.2.2.2.2.2.2.2.2.2.2.2.1,a3.2.2.2.2.2.2.2.2.2.2.2.2.2.2.2.2.2.2.2.2.2.2.2.2.1,a3.2.2.2.2.2.2.2.2.2.2.2.2.2.2.2.2.2.2.2.2.2.2.2.2.2.1,a3.2.2.2.2.2.2.2.2.2.2.2.2.2.2.2.2.2.2.2.2.2.2.2.2.2.2.1,s_10,())
 s_11
def uN3:List (Nat×Sh):=[(0,(.box T71 (.val T71))),(2,(.box T52 (.agg (.cons (.int .i64) (.cons (.int .i64) (.cons (.int .i64) (.cons .str (.cons .bool (.cons .bool (.cons .bool (.cons (.int .i64) (.cons (.int .i64) (.cons T26 (.cons T43 (.cons (.int .i64) (.cons T23 (.cons T45 (.cons (.int .i64) (.cons (.sl (.int .i64)) (.cons (.int .i64) (.cons (.sl T111) (.cons (.sl T114) (.cons (.int .i64) (.cons (.int .i64) (.cons (.int .i64) (.cons (.int .i64) (.cons .str (.cons (.int .i64) (.cons (.int .i64) (.cons (.int .i64) (.cons T50 .nl)))))))))))))))))))))))))))) (.cons vI (.cons vI (.cons vI (.cons vS (.cons vB (.cons vB (.cons vB (.cons vI (.cons vI (.cons (.agg (.cons (.int .i64) (.cons (.int .i64) (.cons (.sl (.int .i64)) .nl))) (.cons vI (.cons vI (.cons (.own (.int .i64) 400200 false) .nl)))) (.cons (.val T43) (.cons vI (.cons (.agg (.cons (.int .i64) (.cons (.int .i64) (.cons (.sl T45) .nl))) (.cons vI (.cons vI (.cons (.own T45 400201 false) .nl)))) (.cons (.val T45) (.cons vI (.cons (.own (.int .i64) 400202 false) (.cons vI (.cons (.own T111 400203 false) (.cons (.own T114 400204 false) (.cons vI (.cons vI (.cons vI (.cons vI (.cons vS (.cons vI (.cons vI (.cons vI (.cons (.agg (.cons (.int .i64) (.cons (.int .i64) (.cons (.int .i64) (.cons (.sl T106) .nl)))) (.cons vI (.cons vI (.cons vI (.cons (.own T106 400205 false) .nl))))) .nl))))))))))))))))))))))))))))))),(3,(.box T52 (.agg (.cons (.int .i64) (.cons (.int .i64) (.cons (.int .i64) (.cons .str (.cons .bool (.cons .bool (.cons .bool (.cons (.int .i64) (.cons (.int .i64) (.cons T26 (.cons T43 (.cons (.int .i64) (.cons T23 (.cons T45 (.cons (.int .i64) (.cons (.sl (.int .i64)) (.cons (.int .i64) (.cons (.sl T111) (.cons (.sl T114) (.cons (.int .i64) (.cons (.int .i64) (.cons (.int .i64) (.cons (.int .i64) (.cons .str (.cons (.int .i64) (.cons (.int .i64) (.cons (.int .i64) (.cons T50 .nl)))))))))))))))))))))))))))) (.cons vI (.cons vI (.cons vI (.cons vS (.cons vB (.cons vB (.cons vB (.cons vI (.cons vI (.cons (.val T26) (.cons (.val T43) (.cons vI (.cons (.val T23) (.cons (.val T45) (.cons vI (.cons (.own (.int .i64) 400302 false) (.cons vI (.cons (.own T111 400303 false) (.cons (.own T114 400304 false) (.cons vI (.cons vI (.cons vI (.cons vI (.cons vS (.cons vI (.cons vI (.cons vI (.cons (.agg (.cons (.int .i64) (.cons (.int .i64) (.cons (.int .i64) (.cons (.sl T106) .nl)))) (.cons vI (.cons vI (.cons vI (.cons (.own T106 400305 false) .nl))))) .nl)))))))))))))))))))))))))))))))]
def tF9:=li [(4,vI)] [(0,(.box T71 (.val T71))),(2,(.box T52 (.agg (.cons (.int .i64) (.cons (.int .i64) (.cons (.int .i64) (.cons .str (.cons .bool (.cons .bool (.cons .bool (.cons (.int .i64) (.cons (.int .i64) (.cons T26 (.cons T43 (.cons (.int .i64) (.cons T23 (.cons T45 (.cons (.int .i64) (.cons (.sl (.int .i64)) (.cons (.int .i64) (.cons (.sl T111) (.cons (.sl T114) (.cons (.int .i64) (.cons (.int .i64) (.cons (.int .i64) (.cons (.int .i64) (.cons .str (.cons (.int .i64) (.cons (.int .i64) (.cons (.int .i64) (.cons T50 .nl)))))))))))))))))))))))))))) (.cons vI (.cons vI (.cons vI (.cons vS (.cons vB (.cons vB (.cons vB (.cons vI (.cons vI (.cons (.agg (.cons (.int .i64) (.cons (.int .i64) (.cons (.sl (.int .i64)) .nl))) (.cons vI (.cons vI (.cons (.own (.int .i64) 400200 false) .nl)))) (.cons (.val T43) (.cons vI (.cons (.agg (.cons (.int .i64) (.cons (.int .i64) (.cons (.sl T45) .nl))) (.cons vI (.cons vI (.cons (.own T45 400201 false) .nl)))) (.cons (.val T45) (.cons vI (.cons (.own (.int .i64) 400202 false) (.cons vI (.cons (.own T111 400203 false) (.cons (.own T114 400204 false) (.cons vI (.cons vI (.cons vI (.cons vI (.cons vS (.cons vI (.cons vI (.cons vI (.cons (.agg (.cons (.int .i64) (.cons (.int .i64) (.cons (.int .i64) (.cons (.sl T106) .nl)))) (.cons vI (.cons vI (.cons vI (.cons (.own T106 400205 false) .nl))))) .nl))))))))))))))))))))))))))))))),(3,(.box T52 (.agg (.cons (.int .i64) (.cons (.int .i64) (.cons (.int .i64) (.cons .str (.cons .bool (.cons .bool (.cons .bool (.cons (.int .i64) (.cons (.int .i64) (.cons T26 (.cons T43 (.cons (.int .i64) (.cons T23 (.cons T45 (.cons (.int .i64) (.cons (.sl (.int .i64)) (.cons (.int .i64) (.cons (.sl T111) (.cons (.sl T114) (.cons (.int .i64) (.cons (.int .i64) (.cons (.int .i64) (.cons (.int .i64) (.cons .str (.cons (.int .i64) (.cons (.int .i64) (.cons (.int .i64) (.cons T50 .nl)))))))))))))))))))))))))))) (.cons vI (.cons vI (.cons vI (.cons vS (.cons vB (.cons vB (.cons vB (.cons vI (.cons vI (.cons (.val T26) (.cons (.val T43) (.cons vI (.cons (.val T23) (.cons (.val T45) (.cons vI (.cons (.own (.int .i64) 400302 false) (.cons vI (.cons (.own T111 400303 false) (.cons (.own T114 400304 false) (.cons vI (.cons vI (.cons vI (.cons vI (.cons vS (.cons vI (.cons vI (.cons vI (.cons (.agg (.cons (.int .i64) (.cons (.int .i64) (.cons (.int .i64) (.cons (.sl T106) .nl)))) (.cons vI (.cons vI (.cons vI (.cons (.own T106 400305 false) .nl))))) .nl))))))))))))))))))))))))))))))),(5,vI)] vG7 wX3 vL2 (fun y x=>[ex 2 none uN3 ((uE2 y x),(uZ4 y x),(uE3 y x),())]) [uN3]
def tP2 (p0:D71):Prop×D52×(D71×Unit):=
 let v8o:=(wT9 p0)
 let v11o:=(wT9 v8o.1)
 let v14o:=(wT9 v11o.1)
 let v17o:=(vZ8 v14o.1 (256:Int))
 let v20o:=(vV2 v17o.1)
 let v23o:=(vV2 v20o.1)
 let v26o:=(vV2 v23o.1)
 let v29o:=(wT9 v26o.1)
 let v32o:=(wT9 v29o.1)
 let v35o:=(uN1 v32o.1)
 let v38o:=(wT9 v35o.1)
 let v42o:=(wT9 v38o.1)
 let v46o:=(wT9 v42o.1)
 let v50o:=(wT9 v46o.1)
 let v54o:=(wT9 v50o.1)
 let v58o:=(wT9 v54o.1)
 let v62o:=(wT9 v58o.1)
 let v65o:=(uN0 v62o.1)
 let v68o:=(vV3 v65o.1)
 let v71o:=(wT9 v68o.1)
 let v74o:=(uG3 v71o.1 (16:Int))
 let v77o:=(wT9 v74o.1)
 let v80o:=(vQ9 v77o.1)
 let v83o:=(uG7 v80o.1)
 let v86o:=(wT9 v83o.1)
 let v89o:=(wT9 v86o.1)
 let v92o:=(wT9 v89o.1)
 let v95o:=(wT9 v92o.1)
 let v98o:=(vZ8 v95o.1 (256:Int))
 let v101o:=(wT9 v98o.1)
 let v104o:=(wT9 v101o.1)
 let v107o:=(wT9 v104o.1)
 let v110o:=(wT9 v107o.1)
 let v114o:=(wT9 v110o.1)
 let v118o:=(wT9 v114o.1)
 let s_9:=((0:Int),(0:Int),(0:Int),([]:List UInt8),false,false,false,(0:Int),(0:Int),((0:Int),(0:Int),([]:List Int),()),Z43,(0:Int),((0:Int),(0:Int),([]:List D45),()),Z45,(0:Int),([]:List Int),(0:Int),([]:List D111),([]:List D114),(0:Int),(0:Int),(0:Int),(0:Int),([]:List UInt8),(0:Int),(0:Int),(0:Int),((0:Int),(0:Int),(0:Int),([]:List D106),()),())
 let s_11:=((wU0 p0),(wU0 v8o.1),(wU0 v11o.1),(uE0 v14o.1 (256:Int)),(vV1 v17o.1),(vV1 v20o.1),(vV1 v23o.1),(wU0 v26o.1),(wU0 v29o.1),(uY9 v32o.1),((wU0 v35o.1),(wU0 v38o.1),(wU0 v42o.1),(wU0 v46o.1),(wU0 v50o.1),(wU0 v54o.1),()),(wU0 v58o.1),(uY8 v62o.1),(uN2 v65o.1),(wU0 v68o.1),(uR8 v71o.1 (16:Int)),(wU0 v74o.1),(uB v77o.1),(uB0 v80o.1),(wU0 v83o.1),(wU0 v86o.1),(wU0 v89o.1),(wU0 v92o.1),(uE0 v95o.1 (256:Int)),(wU0 v98o.1),(wU0 v101o.1),(wU0 v104o.1),((wU0 v107o.1),(wU0 v110o.1),(wU0 v114o.1),([]:List D106),()),())
 let y39:=((wU7 v118o.1 (64:Int)),())
 let x39:=((wT7 v118o.1 (64:Int)).1,s_9,s_11,(0:Int),())
 let e39:=(zC5 (vG7 y39) (wX3 y39) x39)
 let r39_2_0:=(uE2 y39 e39)
 let r39_2_2:=(uE3 y39 e39)
 let v138o:=(vI4 r39_2_0)
 let v139:=((wZ1 r39_2_0)!=0)
 let s_14:=((bif v139 then (0:Int) else r39_2_2.2.2.2.2.2.2.2.2.2.2.2.2.2.2.2.2.2.2.2.2.2.2.2.2.2.2.2.1.1),(bif v139 then (0:Int) else r39_2_2.2.2.2.2.2.2.2.2.2.2.2.2.2.2.2.2.2.2.2.2.2.2.2.2.2.2.2.1.2.1),(bif v139 then (0:Int) else r39_2_2.2.2.2.2.2.2.2.2.2.2.2.2.2.2.2.2.2.2.2.2.2.2.2.2.2.2.2.1.2.2.1),(bif v139 then [] else r39_2_2.2.2.2.2.2.2.2.2.2.2.2.2.2.2.2.2.2.2.2.2.2.2.2.2.2.2.2.1.2.2.2.1),())
 let s_15:=((bif v139 then (0:Int) else r39_2_2.1),(bif v139 then (0:Int) else r39_2_2.2.1),(bif v139 then (0:Int) else r39_2_2.2.2.1),(bif v139 then ([]:List UInt8) else r39_2_2.2.2.2.1),(bif v139 then false else r39_2_2.2.2.2.2.1),(bif v139 then false else r39_2_2.2.2.2.2.2.1),(bif v139 then false else r39_2_2.2.2.2.2.2.2.1),(bif v139 then (0:Int) else r39_2_2.2.2.2.2.2.2.2.1),(bif v139 then (0:Int) else r39_2_2.2.2.2.2.2.2.2.2.1),(bif v139 then ((0:Int),(0:Int),([]:List Int),()) else r39_2_2.2.2.2.2.2.2.2.2.2.1),(bif v139 then Z43 else r39_2_2.2.2.2.2.2.2.2.2.2.2.1),(bif v139 then (0:Int) else r39_2_2.2.2.2.2.2.2.2.2.2.2.2.1),(bif v139 then ((0:Int),(0:Int),([]:List D45),()) else r39_2_2.2.2.2.2.2.2.2.2.2.2.2.2.1),(bif v139 then Z45 else r39_2_2.2.2.2.2.2.2.2.2.2.2.2.2.2.1),(bif v139 then (0:Int) else r39_2_2.2.2.2.2.2.2.2.2.2.2.2.2.2.2.1),(bif v139 then [] else r39_2_2.2.2.2.2.2.2.2.2.2.2.2.2.2.2.2.1),(bif v139 then (0:Int) else r39_2_2.2.2.2.2.2.2.2.2.2.2.2.2.2.2.2.2.1),(bif v139 then [] else r39_2_2.2.2.2.2.2.2.2.2.2.2.2.2.2.2.2.2.2.1),(bif v139 then [] else r39_2_2.2.2.2.2.2.2.2.2.2.2.2.2.2.2.2.2.2.2.1),(bif v139 then (0:Int) else r39_2_2.2.2.2.2.2.2.2.2.2.2.2.2.2.2.2.2.2.2.2.1),(bif v139 then (0:Int) else r39_2_2.2.2.2.2.2.2.2.2.2.2.2.2.2.2.2.2.2.2.2.2.1),(bif v139 then (0:Int) else r39_2_2.2.2.2.2.2.2.2.2.2.2.2.2.2.2.2.2.2.2.2.2.2.1),(bif v139 then (0:Int) else r39_2_2.2.2.2.2.2.2.2.2.2.2.2.2.2.2.2.2.2.2.2.2.2.2.1),(bif v139 then ([]:List UInt8) else r39_2_2.2.2.2.2.2.2.2.2.2.2.2.2.2.2.2.2.2.2.2.2.2.2.2.1),(bif v139 then (0:Int) else r39_2_2.2.2.2.2.2.2.2.2.2.2.2.2.2.2.2.2.2.2.2.2.2.2.2.2.1),(bif v139 then (0:Int) else r39_2_2.2.2.2.2.2.2.2.2.2.2.2.2.2.2.2.2.2.2.2.2.2.2.2.2.2.1),(bif v139 then (0:Int) else r39_2_2.2.2.2.2.2.2.2.2.2.2.2.2.2.2.2.2.2.2.2.2.2.2.2.2.2.2.1),s_14,())
 (((wT5 p0)∧((wT5 v8o.1)∧((wT5 v11o.1)∧((vB4 v14o.1 (256:Int))∧((wX5 v17o.1)∧((wX5 v20o.1)∧((wX5 v23o.1)∧((wT5 v26o.1)∧((wT5 v29o.1)∧((vG1 v32o.1)∧((wT5 v35o.1)∧((wT5 v38o.1)∧((wT5 v42o.1)∧((wT5 v46o.1)∧((wT5 v50o.1)∧((wT5 v54o.1)∧((wT5 v58o.1)∧((vG0 v62o.1)∧((vL1 v65o.1)∧((wT5 v68o.1)∧((vP7 v71o.1 (16:Int))∧((wT5 v74o.1)∧((vI2 v77o.1)∧((vI3 v80o.1)∧((wT5 v83o.1)∧((wT5 v86o.1)∧((wT5 v89o.1)∧((wT5 v92o.1)∧((vB4 v95o.1 (256:Int))∧((wT5 v98o.1)∧((wT5 v101o.1)∧((wT5 v104o.1)∧((wT5 v107o.1)∧((wT5 v110o.1)∧((wT5 v114o.1)∧((wV1 v118o.1 (64:Int))∧((xQ5 (vG7 y39) (wX3 y39) (vL2 y39) x39)∧(vE0 r39_2_0)))))))))))))))))))))))))))))))))))))),s_15,((bif v139 then v138o.1 else v138o.1),()))
def vX5 p0:=(tP2 p0).1
def tC1 p0:=(tP2 p0).2.1
def uG8 p0:=(tP2 p0).2.2
def tP3:Am.Spec:=fnSpec [(0,(.box T71 (.val T71)))] (.val T52) [(0,(.box T71 (.val T71)))] (fun x=>vX5 x.1) (fun x=>tC1 x.1) (fun x=>uG8 x.1)
theorem sB8:SK 23 (fnSpec [(0,(.box T71 (.val T71)))] (.val T52) [(0,(.box T71 (.val T71)))] (fun x=>vX5 x.1) (fun x=>tC1 x.1) (fun x=>uG8 x.1)):=ft [(0,[0,2]),(1,[0,2,3]),(2,[0,2,3]),(3,[0,2,3]),(4,[0,2,3]),(5,[0,2,3]),(6,[0,2,3]),(7,[0,2,3]),(8,[0,2,3]),(9,[0,2,3]),(10,[0,2,3]),(11,[0,2,3]),(12,[0,2,3]),(13,[0,2,3]),(14,[0,2,3]),(15,[0,2,3]),(16,[0,2,3]),(17,[0,2,3]),(18,[0,2,3]),(19,[0,2,3]),(20,[0,2,3]),(21,[0,2,3]),(22,[0,2,3]),(23,[0,2,3]),(24,[0,2,3]),(25,[0,2,3]),(26,[0,2,3]),(27,[0,2,3]),(28,[0,2,3]),(29,[0,2,3]),(30,[0,2,3]),(31,[0,2,3]),(32,[0,2,3]),(33,[0,2,3]),(34,[0,2,3]),(35,[0,2,3]),(36,[0,2,3]),(37,[0,2,3,4]),(38,[0,2,3,4,5]),(39,[0,2,3,4,5,125]),(40,[0,2,3,4,5]),(41,[0,2,3,4,5]),(42,[0,2,3,139]),(43,[0,2]),(44,[0,2])] 38 (fun c=>c) Tryz.func23 142 [kb sB1,kb sB2,kb uB1,kb vP5,kb vX3,kb sB3,kb sB4,kb tM4,kb sB5,kb sB6,kb sB7,kb tM7] [(39,tF9)] [(45,[(4,0,74,400302)]),(49,[(4,0,80,400303)]),(51,[(4,0,83,400304)]),(83,[(4,0,134,400305)]),(89,[(4,0,400302,400202),(4,0,400303,400203),(4,0,400304,400204),(4,0,400305,400205)])] false [0]
abbrev uA:Type:=((List Int)×(List Int)×Unit)
abbrev vR0:Type:=(Int×Unit)
def uP2 (y:uA)(x:vR0):Prop×Bool×vR0×Bool×Bool:=
 let a0:=y.1
 let a1:=y.2.1
 let a5:=x.1
 let v14:=(decide (a5<(len a0)))
 let v25:=((nth a0 a5 (0:Int))!=(nth a1 a5 (0:Int)))
 ((v14=true→(InB a5 (len a0)∧(InB a5 (len a1)∧((!v25)=true→InR (a5+1))))),(v14&&(!v25)),((a5+1),()),(v14&&v25),(!v14))
def vX6 y x:=(uP2 y x).1
def uG9 y x:=(uP2 y x).2.1
def vU4 y x:=(uP2 y x).2.2.1
def uN4 y x:=(uP2 y x).2.2.2.1
def sB9 y x:=(uP2 y x).2.2.2.2
instance (y x):Decidable (vX6 y x):=by unfold vX6 uP2;dsimp only;infer_instance
def uZ5 (y:uA)(x:vR0):Bool:=
 false
def sC:=li [(0,(.val (.sl (.int .i64)))),(1,(.val (.sl (.int .i64))))] [(5,vI)] uG9 vU4 vX6 (fun y x=>[ex 1 (some (uN4 y x)) [(4,vB)] ((uZ5 y x),()),ex 2 (some (sB9 y x)) [] ()]) [[(4,vB)],[]]
def f43t (p0:List Int)(p1:List Int):Prop×Bool:=
 let v10:=((len p0)!=(len p1))
 let y4:=(p0,p1,())
 let x4:=((0:Int),())
 let e4:=(zC5 (uG9 y4) (vU4 y4) x4)
 (((!v10)=true→(xQ5 (uG9 y4) (vU4 y4) (vX6 y4) x4)),(bif v10 then false else (bif (uN4 y4 e4) then (uZ5 y4 e4) else true)))
def uZ6 p0 p1:=(f43t p0 p1).1
def f43 p0 p1:=(f43t p0 p1).2
instance (p0 p1):Decidable (uZ6 p0 p1):=by unfold uZ6 f43t;dsimp only;infer_instance
theorem sK2:SK 43 (sp2 (.val (.sl (.int .i64))) (.val (.sl (.int .i64))) vB uZ6 f43):=fb Tryz.func43 26 [] [(4,sC)]
def f17t (p0:D26)(p1:D26):Prop×Bool:=
 let v16:=(bif (p0.1==p1.1) then (p0.2.1==p1.2.1) else false)
 ((v16=true→(uZ6 p0.2.2.1 p1.2.2.1)),(bif v16 then (f43 p0.2.2.1 p1.2.2.1) else false))
def tN p0 p1:=(f17t p0 p1).1
def f17 p0 p1:=(f17t p0 p1).2
instance (p0 p1):Decidable (tN p0 p1):=by unfold tN f17t;dsimp only;infer_instance
theorem sT2:SK 17 (sp2 (.val T26) (.val T26) vB tN f17):=fb Tryz.func17 24 [kb sK2]
abbrev uA0:Type:=(D23×D23×Unit)
abbrev vR1:Type:=(Int×Unit)
def uP3 (y:uA0)(x:vR1):Prop×Bool×vR1×Bool×Bool:=
 let a2:=y.1
 let a3:=y.2.1
 let a5:=x.1
 let v31:=(decide (a5<(len a2.2.2.1)))
 let v44:=(!(Ty.eqb T45 (nth a2.2.2.1 a5 Z45) (nth a3.2.2.1 a5 Z45)))
 ((v31=true→(InB a5 (len a2.2.2.1)∧(InB a5 (len a3.2.2.1)∧((!v44)=true→InR (a5+1))))),(v31&&(!v44)),((a5+1),()),(v31&&v44),(!v31))
def uE4 y x:=(uP3 y x).1
def uH y x:=(uP3 y x).2.1
def vU5 y x:=(uP3 y x).2.2.1
def uZ7 y x:=(uP3 y x).2.2.2.1
def sC0 y x:=(uP3 y x).2.2.2.2
instance (y x):Decidable (uE4 y x):=by unfold uE4 uP3;dsimp only;infer_instance
def uZ8 (y:uA0)(x:vR1):Bool:=
 false
def sC1:=li [(2,(.box T23 (.val T23))),(3,(.box T23 (.val T23)))] [(5,vI)] uH vU5 uE4 (fun y x=>[ex 1 (some (uZ7 y x)) [(4,vB)] ((uZ8 y x),()),ex 2 (some (sC0 y x)) [] ()]) [[(4,vB)],[]]
def f16t (p0:D23)(p1:D23):Prop×Bool:=
 let v26:=(bif (bif (p0.1 !=p1.1) then true else (p0.2.1 !=p1.2.1)) then true else ((len p0.2.2.1)!=(len p1.2.2.1)))
 let y4:=(p0,p1,())
 let x4:=((0:Int),())
 let e4:=(zC5 (uH y4) (vU5 y4) x4)
 (((!v26)=true→(xQ5 (uH y4) (vU5 y4) (uE4 y4) x4)),(bif v26 then false else (bif (uZ7 y4 e4) then (uZ8 y4 e4) else true)))
def tN0 p0 p1:=(f16t p0 p1).1
def f16 p0 p1:=(f16t p0 p1).2
instance (p0 p1):Decidable (tN0 p0 p1):=by unfold tN0 f16t;dsimp only;infer_instance
theorem sT3:SK 16 (sp2 (.val T23) (.val T23) vB tN0 f16):=fb Tryz.func16 45 [] [(4,sC1)]
abbrev uA1:Type:=((List D111)×(List D111)×Unit)
abbrev vR2:Type:=(Int×Unit)
def uP4 (y:uA1)(x:vR2):Prop×Bool×vR2×Bool×Bool:=
 let a0:=y.1
 let a1:=y.2.1
 let a5:=x.1
 let v14:=(decide (a5<(len a0)))
 let v25:=(!(Ty.eqb T111 (nth a0 a5 Z111) (nth a1 a5 Z111)))
 ((v14=true→(InB a5 (len a0)∧(InB a5 (len a1)∧((!v25)=true→InR (a5+1))))),(v14&&(!v25)),((a5+1),()),(v14&&v25),(!v14))
def uE5 y x:=(uP4 y x).1
def uT4 y x:=(uP4 y x).2.1
def uA2 y x:=(uP4 y x).2.2.1
def uZ9 y x:=(uP4 y x).2.2.2.1
def sC2 y x:=(uP4 y x).2.2.2.2
instance (y x):Decidable (uE5 y x):=by unfold uE5 uP4;dsimp only;infer_instance
def tA (y:uA1)(x:vR2):Bool:=
 false
def sC3:=li [(0,(.val (.sl T111))),(1,(.val (.sl T111)))] [(5,vI)] uT4 uA2 uE5 (fun y x=>[ex 1 (some (uZ9 y x)) [(4,vB)] ((tA y x),()),ex 2 (some (sC2 y x)) [] ()]) [[(4,vB)],[]]
def f97t (p0:List D111)(p1:List D111):Prop×Bool:=
 let v10:=((len p0)!=(len p1))
 let y4:=(p0,p1,())
 let x4:=((0:Int),())
 let e4:=(zC5 (uT4 y4) (uA2 y4) x4)
 (((!v10)=true→(xQ5 (uT4 y4) (uA2 y4) (uE5 y4) x4)),(bif v10 then false else (bif (uZ9 y4 e4) then (tA y4 e4) else true)))
def tN1 p0 p1:=(f97t p0 p1).1
def f97 p0 p1:=(f97t p0 p1).2
instance (p0 p1):Decidable (tN1 p0 p1):=by unfold tN1 f97t;dsimp only;infer_instance
theorem sT4:SK 97 (sp2 (.val (.sl T111)) (.val (.sl T111)) vB tN1 f97):=fb Tryz.func97 26 [] [(4,sC3)]
abbrev uA3:Type:=((List D114)×(List D114)×Unit)
abbrev vR3:Type:=(Int×Unit)
def uP5 (y:uA3)(x:vR3):Prop×Bool×vR3×Bool×Bool:=
 let a0:=y.1
 let a1:=y.2.1
 let a5:=x.1
 let v14:=(decide (a5<(len a0)))
 let v25:=(!(Ty.eqb T114 (nth a0 a5 Z114) (nth a1 a5 Z114)))
 ((v14=true→(InB a5 (len a0)∧(InB a5 (len a1)∧((!v25)=true→InR (a5+1))))),(v14&&(!v25)),((a5+1),()),(v14&&v25),(!v14))
def uE6 y x:=(uP5 y x).1
def uT5 y x:=(uP5 y x).2.1
def uA4 y x:=(uP5 y x).2.2.1
def tA0 y x:=(uP5 y x).2.2.2.1
def sC4 y x:=(uP5 y x).2.2.2.2
instance (y x):Decidable (uE6 y x):=by unfold uE6 uP5;dsimp only;infer_instance
def tA1 (y:uA3)(x:vR3):Bool:=
 false
def sC5:=li [(0,(.val (.sl T114))),(1,(.val (.sl T114)))] [(5,vI)] uT5 uA4 uE6 (fun y x=>[ex 1 (some (tA0 y x)) [(4,vB)] ((tA1 y x),()),ex 2 (some (sC4 y x)) [] ()]) [[(4,vB)],[]]
def f98t (p0:List D114)(p1:List D114):Prop×Bool:=
 let v10:=((len p0)!=(len p1))
 let y4:=(p0,p1,())
 let x4:=((0:Int),())
 let e4:=(zC5 (uT5 y4) (uA4 y4) x4)
 (((!v10)=true→(xQ5 (uT5 y4) (uA4 y4) (uE6 y4) x4)),(bif v10 then false else (bif (tA0 y4 e4) then (tA1 y4 e4) else true)))
def tN2 p0 p1:=(f98t p0 p1).1
def f98 p0 p1:=(f98t p0 p1).2
instance (p0 p1):Decidable (tN2 p0 p1):=by unfold tN2 f98t;dsimp only;infer_instance
theorem sT5:SK 98 (sp2 (.val (.sl T114)) (.val (.sl T114)) vB tN2 f98):=fb Tryz.func98 26 [] [(4,sC5)]
abbrev uA5:Type:=(D50×D50×Unit)
abbrev vR4:Type:=(Int×Unit)
def uP6 (y:uA5)(x:vR4):Prop×Bool×vR4×Bool×Bool:=
 let a2:=y.1
 let a3:=y.2.1
 let a5:=x.1
 let v38:=(decide (a5<(len a2.2.2.2.1)))
 let v51:=(!(Ty.eqb T106 (nth a2.2.2.2.1 a5 Z106) (nth a3.2.2.2.1 a5 Z106)))
 ((v38=true→(InB a5 (len a2.2.2.2.1)∧(InB a5 (len a3.2.2.2.1)∧((!v51)=true→InR (a5+1))))),(v38&&(!v51)),((a5+1),()),(v38&&v51),(!v38))
def uE7 y x:=(uP6 y x).1
def uT6 y x:=(uP6 y x).2.1
def uA6 y x:=(uP6 y x).2.2.1
def tA2 y x:=(uP6 y x).2.2.2.1
def sC6 y x:=(uP6 y x).2.2.2.2
instance (y x):Decidable (uE7 y x):=by unfold uE7 uP6;dsimp only;infer_instance
def tA3 (y:uA5)(x:vR4):Bool:=
 false
def sC7:=li [(2,(.box T50 (.val T50))),(3,(.box T50 (.val T50)))] [(5,vI)] uT6 uA6 uE7 (fun y x=>[ex 1 (some (tA2 y x)) [(4,vB)] ((tA3 y x),()),ex 2 (some (sC6 y x)) [] ()]) [[(4,vB)],[]]
def f99t (p0:D50)(p1:D50):Prop×Bool:=
 let v33:=(bif (bif (bif (p0.1 !=p1.1) then true else (p0.2.1 !=p1.2.1)) then true else (p0.2.2.1 !=p1.2.2.1)) then true else ((len p0.2.2.2.1)!=(len p1.2.2.2.1)))
 let y4:=(p0,p1,())
 let x4:=((0:Int),())
 let e4:=(zC5 (uT6 y4) (uA6 y4) x4)
 (((!v33)=true→(xQ5 (uT6 y4) (uA6 y4) (uE7 y4) x4)),(bif v33 then false else (bif (tA2 y4 e4) then (tA3 y4 e4) else true)))
def tN3 p0 p1:=(f99t p0 p1).1
def f99 p0 p1:=(f99t p0 p1).2
instance (p0 p1):Decidable (tN3 p0 p1):=by unfold tN3 f99t;dsimp only;infer_instance
theorem sT6:SK 99 (sp2 (.val T50) (.val T50) vB tN3 f99):=fb Tryz.func99 52 [] [(4,sC7)]
def f76t (p0:D52)(p1:D52):Prop×Bool:=
 let v23:=(bif (bif (f16 p0.2.2.2.2.2.2.2.2.2.2.2.2.1 p1.2.2.2.2.2.2.2.2.2.2.2.2.1) then (Ty.eqb T45 p0.2.2.2.2.2.2.2.2.2.2.2.2.2.1 p1.2.2.2.2.2.2.2.2.2.2.2.2.2.1) else false) then (p0.2.2.2.2.2.2.2.2.2.2.2.2.2.2.1==p1.2.2.2.2.2.2.2.2.2.2.2.2.2.2.1) else false)
 let v37:=(bif (bif v23 then (f43 p0.2.2.2.2.2.2.2.2.2.2.2.2.2.2.2.1 p1.2.2.2.2.2.2.2.2.2.2.2.2.2.2.2.1) else false) then (p0.2.2.2.2.2.2.2.2.2.2.2.2.2.2.2.2.1==p1.2.2.2.2.2.2.2.2.2.2.2.2.2.2.2.2.1) else false)
 let v44:=(bif v37 then (f97 p0.2.2.2.2.2.2.2.2.2.2.2.2.2.2.2.2.2.1 p1.2.2.2.2.2.2.2.2.2.2.2.2.2.2.2.2.2.1) else false)
 let v58:=(bif (bif v44 then (f98 p0.2.2.2.2.2.2.2.2.2.2.2.2.2.2.2.2.2.2.1 p1.2.2.2.2.2.2.2.2.2.2.2.2.2.2.2.2.2.2.1) else false) then (p0.2.2.2.2.2.2.2.2.2.2.2.2.2.2.2.2.2.2.2.1==p1.2.2.2.2.2.2.2.2.2.2.2.2.2.2.2.2.2.2.2.1) else false)
 let v72:=(bif (bif v58 then (p0.2.2.2.2.2.2.2.2.2.2.2.2.2.2.2.2.2.2.2.2.1==p1.2.2.2.2.2.2.2.2.2.2.2.2.2.2.2.2.2.2.2.2.1) else false) then (p0.2.2.2.2.2.2.2.2.2.2.2.2.2.2.2.2.2.2.2.2.2.1==p1.2.2.2.2.2.2.2.2.2.2.2.2.2.2.2.2.2.2.2.2.2.1) else false)
 let v86:=(bif (bif v72 then (p0.2.2.2.2.2.2.2.2.2.2.2.2.2.2.2.2.2.2.2.2.2.2.1==p1.2.2.2.2.2.2.2.2.2.2.2.2.2.2.2.2.2.2.2.2.2.2.1) else false) then (p0.2.2.2.2.2.2.2.2.2.2.2.2.2.2.2.2.2.2.2.2.2.2.2.1==p1.2.2.2.2.2.2.2.2.2.2.2.2.2.2.2.2.2.2.2.2.2.2.2.1) else false)
 let v100:=(bif (bif v86 then (p0.2.2.2.2.2.2.2.2.2.2.2.2.2.2.2.2.2.2.2.2.2.2.2.2.1==p1.2.2.2.2.2.2.2.2.2.2.2.2.2.2.2.2.2.2.2.2.2.2.2.2.1) else false) then (p0.2.2.2.2.2.2.2.2.2.2.2.2.2.2.2.2.2.2.2.2.2.2.2.2.2.1==p1.2.2.2.2.2.2.2.2.2.2.2.2.2.2.2.2.2.2.2.2.2.2.2.2.2.1) else false)
 let v107:=(bif v100 then (p0.2.2.2.2.2.2.2.2.2.2.2.2.2.2.2.2.2.2.2.2.2.2.2.2.2.2.1==p1.2.2.2.2.2.2.2.2.2.2.2.2.2.2.2.2.2.2.2.2.2.2.2.2.2.2.1) else false)
 (((tN0 p0.2.2.2.2.2.2.2.2.2.2.2.2.1 p1.2.2.2.2.2.2.2.2.2.2.2.2.1)∧((v23=true→(uZ6 p0.2.2.2.2.2.2.2.2.2.2.2.2.2.2.2.1 p1.2.2.2.2.2.2.2.2.2.2.2.2.2.2.2.1))∧((v37=true→(tN1 p0.2.2.2.2.2.2.2.2.2.2.2.2.2.2.2.2.2.1 p1.2.2.2.2.2.2.2.2.2.2.2.2.2.2.2.2.2.1))∧((v44=true→(tN2 p0.2.2.2.2.2.2.2.2.2.2.2.2.2.2.2.2.2.2.1 p1.2.2.2.2.2.2.2.2.2.2.2.2.2.2.2.2.2.2.1))∧(v107=true→(tN3 p0.2.2.2.2.2.2.2.2.2.2.2.2.2.2.2.2.2.2.2.2.2.2.2.2.2.2.2.1 p1.2.2.2.2.2.2.2.2.2.2.2.2.2.2.2.2.2.2.2.2.2.2.2.2.2.2.2.1)))))),(bif v107 then (f99 p0.2.2.2.2.2.2.2.2.2.2.2.2.2.2.2.2.2.2.2.2.2.2.2.2.2.2.2.1 p1.2.2.2.2.2.2.2.2.2.2.2.2.2.2.2.2.2.2.2.2.2.2.2.2.2.2.2.1) else false))
def tN4 p0 p1:=(f76t p0 p1).1
def f76 p0 p1:=(f76t p0 p1).2
instance (p0 p1):Decidable (tN4 p0 p1):=by unfold tN4 f76t;dsimp only;infer_instance
theorem sT7:SK 76 (sp2 (.val T52) (.val T52) vB tN4 f76):=fb Tryz.func76 115 [kb sT3,kb sK2,kb sT4,kb sT5,kb sT6]
def f24t (p0:D52)(p1:D52):Prop×Bool:=
 let v37:=(bif (bif (bif (bif (p0.1==p1.1) then (p0.2.1==p1.2.1) else false) then (p0.2.2.1==p1.2.2.1) else false) then (p0.2.2.2.1==p1.2.2.2.1) else false) then (Ty.eqb .bool p0.2.2.2.2.1 p1.2.2.2.2.1) else false)
 let v58:=(bif (bif (bif v37 then (Ty.eqb .bool p0.2.2.2.2.2.1 p1.2.2.2.2.2.1) else false) then (Ty.eqb .bool p0.2.2.2.2.2.2.1 p1.2.2.2.2.2.2.1) else false) then (p0.2.2.2.2.2.2.2.1==p1.2.2.2.2.2.2.2.1) else false)
 let v65:=(bif v58 then (p0.2.2.2.2.2.2.2.2.1==p1.2.2.2.2.2.2.2.2.1) else false)
 let v86:=(bif (bif (bif v65 then (f17 p0.2.2.2.2.2.2.2.2.2.1 p1.2.2.2.2.2.2.2.2.2.1) else false) then (Ty.eqb T43 p0.2.2.2.2.2.2.2.2.2.2.1 p1.2.2.2.2.2.2.2.2.2.2.1) else false) then (p0.2.2.2.2.2.2.2.2.2.2.2.1==p1.2.2.2.2.2.2.2.2.2.2.2.1) else false)
 (((v65=true→(tN p0.2.2.2.2.2.2.2.2.2.1 p1.2.2.2.2.2.2.2.2.2.1))∧(v86=true→(tN4 p0 p1))),(bif v86 then (f76 p0 p1) else false))
def tC2 p0 p1:=(f24t p0 p1).1
def f24 p0 p1:=(f24t p0 p1).2
instance (p0 p1):Decidable (tC2 p0 p1):=by unfold tC2 f24t;dsimp only;infer_instance
def sH3:=sp2 (.val T52) (.val T52) vB tC2 f24
theorem sT8:SK 24 (sp2 (.val T52) (.val T52) vB tC2 f24):=fb Tryz.func24 92 [kb sT2,kb sT7]
def f4t (p0:D52)(p1:List UInt8):Prop×Bool:=
 let v13:=(!((f20 p0)==(f21 p0)))
 let v15o:=(sG p1)
 let v17o:=(sG1 p1)
 let v19:=(uY4 v15o.1)
 let v19o:=(uG1 v15o.1)
 let v21:=(tC1 v17o.1)
 let v21o:=(uG8 v17o.1)
 let v24:=(f24 v19 v21)
 let v29:=(bif v24 then (tH2 v19o.1 v21o.1) else false)
 (((uQ7 p0)∧((uQ9 p0)∧((!v13)=true→((tH p1)∧((tH0 p1)∧((vX2 v15o.1)∧((vX5 v17o.1)∧((tC2 v19 v21)∧((v24=true→(vS5 v19o.1 v21o.1))∧(v29=true→tY6)))))))))),(bif v13 then false else (bif v29 then f19 else false)))
def f4_ok p0 p1:=(f4t p0 p1).1
def f4 p0 p1:=(f4t p0 p1).2
def sN7:=sp2 (.val T52) vS vB f4_ok f4
def sT9:Ctx:={ Cx tys [(10,sG0),(11,sG2),(18,tO3),(19,sG9),(20,sH),(21,sH2),(22,tP1),(23,tP3),(24,sH3)] [] [(7,[(6,900064,0,910005),(6,900072,0,910006)])] false 33 [] [] with wants:=[(10,[]),(11,[]),(18,[]),(22,[]),(23,[])] }
theorem f4_is:SK 4 sN7:=fq (c:=sT9) Tryz.func4 ⟨tW3,sP8,tW9,sQ8,sR3,sS0,sB0,sB8,sT8,trivial⟩
end Go.Proofs.YtbiemgjkkhkdeaaGreatDoor.Am
