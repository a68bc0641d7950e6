/- Printed by program, part 4. No condition. -/
import Derived.Test.YtmbjipigimohbaaGreatDoorDckP3
set_option linter.unusedVariables false
set_option synthInstance.maxSize 4000
set_option synthInstance.maxHeartbeats 400000
namespace Go.Proofs.YtmbjipigimohbaaGreatDoor.Am
open Go Go.Am Go.Proofs
def f59t (p0:D45):Prop×(List Int):=
 (True,([p0.1,p0.2.1,p0.2.2.1,p0.2.2.2.1]:List Int))
def rA2 p0:=(f59t p0).1
def f59 p0:=(f59t p0).2
instance (p0):Decidable (rA2 p0):=by unfold rA2 f59t;dsimp only;infer_instance
theorem pO1:SK 59 (sp1 (.val T45) (.own (.int .i64) 0 false) rA2 f59):=fb Tryz.func59 12 [] [] [(3,[(4,0,11,0)])]
abbrev uA3:Type:=((List D45)×(Unit)×(List UInt8)×Int×Unit)
abbrev vK0:Type:=(Int×Unit)
def tA1 (y:uA3)(x:vK0):Prop×Bool×vK0:=
 let a2:=y.1
 let a10:=y.2.2.2.1
 let a11:=x.1
 let v29:=(decide (a11<(len a2)))
 let v40:=(bif v29 then (Ty.eqb T45 (nth a2 a11 Z45) (nth a2 a10 Z45)) else false)
 (((v29=true→InB a11 (len a2))∧((v29=true→InB a10 (len a2))∧(v40=true→InR (a11+1)))),v40,((a11+1),()))
def vR7 y x:=(tA1 y x).1
def wW8 y x:=(tA1 y x).2.1
def wV7 y x:=(tA1 y x).2.2
instance (y x):Decidable (vR7 y x):=by unfold vR7 tA1;dsimp only;infer_instance
def tB7 (y:uA3)(x:vK0):Int:=
 x.1
def tT5:List (Nat×Sh):=[(2,(.val (.sl T45))),(3,(.fn 59 .nl)),(9,(.bld 89 5 9)),(10,vI),(11,vI)]
def rA3:=li [(2,(.val (.sl T45))),(3,(.fn 59 .nl)),(9,(.bld 89 5 9)),(10,vI)] [(11,vI)] wW8 wV7 vR7 (fun y x=>[ex 4 none tT5 (y.1,y.2.1,y.2.2.1,y.2.2.2.1,(tB7 y x),())]) [tT5]
abbrev vR8:Type:=((List D45)×(Unit)×Int×(List Int)×Int×Unit)
abbrev vF9:Type:=((List UInt8)×Int×Unit)
def uM0 (y:vR8)(x:vF9):Prop×Bool×vF9:=
 let a54:=y.2.2.2.1
 let a9:=x.1
 let a56:=x.2.1
 let v57:=(decide (a56<y.2.2.2.2.1))
 let v58:=(nth a54 a56 (0:Int))
 let v61:=(f38 v58)
 ((v57=true→(InB a56 (len a54)∧((vD3 v58)∧(((List.length a9+List.length v61:Nat):Int)≤4294967296∧InR (a56+1))))),v57,((a9++v61),(a56+1),()))
def vD y x:=(uM0 y x).1
def vG y x:=(uM0 y x).2.1
def wZ6 y x:=(uM0 y x).2.2
instance (y x):Decidable (vD y x):=by unfold vD uM0;dsimp only;infer_instance
def uT5 (y:vR8)(x:vF9):(List UInt8):=
 x.1
def tK:List (Nat×Sh):=[(2,(.val (.sl T45))),(3,(.fn 59 .nl)),(9,(.bld 89 5 9)),(11,vI)]
def sS7:=li [(2,(.val (.sl T45))),(3,(.fn 59 .nl)),(11,vI),(54,(.own (.int .i64) 54 false)),(55,vI)] [(9,(.bld 89 5 9)),(56,vI)] vG wZ6 vD (fun y x=>[ex 6 none tK (y.1,y.2.1,(uT5 y x),y.2.2.1,())]) [tK]
abbrev uA4:Type:=((List D45)×(Unit)×Unit)
abbrev vK1:Type:=((List UInt8)×Int×Unit)
def tA2 (y:uA4)(x:vK1):Prop×Bool×vK1:=
 let a2:=y.1
 let a9:=x.1
 let a10:=x.2.1
 let v23:=(decide (a10<(len a2)))
 let y7:=(a2,(),a9,a10,())
 let x7:=((a10+1),())
 let r7_4_0:=(tB7 y7 (zC4 (wW8 y7) (wV7 y7) x7))
 let v45:=(r7_4_0-a10)
 let v46:=(v45-1)
 let v47:=(f38 v46)
 let v52:=(nth a2 a10 Z45)
 let v54:=(f59 v52)
 let y11:=(a2,(),r7_4_0,v54,(len v54),())
 let x11:=((a9++v47),(0:Int),())
 ((v23=true→(InR (a10+1)∧((xQ5 (wW8 y7) (wV7 y7) (vR7 y7) x7)∧(InR (r7_4_0-a10)∧(InR (v45-1)∧((vD3 v46)∧(((List.length a9+List.length v47:Nat):Int)≤4294967296∧(InB a10 (len a2)∧((rA2 v52)∧(xQ5 (vG y11) (wZ6 y11) (vD y11) x11)))))))))),v23,((uT5 y11 (zC4 (vG y11) (wZ6 y11) x11)),r7_4_0,()))
def vG0 y x:=(tA2 y x).1
def vB1 y x:=(tA2 y x).2.1
def vB2 y x:=(tA2 y x).2.2
instance (y x):Decidable (vG0 y x):=by unfold vG0 tA2;dsimp only;infer_instance
def tB8 (y:uA4)(x:vK1):(List UInt8):=
 x.1
def rA4:=li [(2,(.val (.sl T45))),(3,(.fn 59 .nl))] [(9,(.bld 89 5 9)),(10,vI)] vB1 vB2 vG0 (fun y x=>[ex 2 none [(9,(.bld 89 5 9))] ((tB8 y x),())]) [[(9,(.bld 89 5 9))]]
def rG4 (p0:Int)(p1:Int)(p2:List D45)(p3:(Unit)):Prop×(List UInt8):=
 let v15:=(f38 p0)
 let b9:=(([]:List UInt8)++v15)
 let v18:=(f38 p1)
 let y5:=(p2,(),())
 let x5:=((b9++v18),(0:Int),())
 (((vD3 p0)∧(((List.length ([]:List UInt8)+List.length v15:Nat):Int)≤4294967296∧((vD3 p1)∧(((List.length b9+List.length v18:Nat):Int)≤4294967296∧(xQ5 (vB1 y5) (vB2 y5) (vG0 y5) x5))))),(tB8 y5 (zC4 (vB1 y5) (vB2 y5) x5)))
def uT6 p0 p1 p2 p3:=(rG4 p0 p1 p2 p3).1
def qA3 p0 p1 p2 p3:=(rG4 p0 p1 p2 p3).2
instance (p0 p1 p2 p3):Decidable (uT6 p0 p1 p2 p3):=by unfold uT6 rG4;dsimp only;infer_instance
theorem qA4:SK 58 (sp4 vI vI (.val (.sl T45)) (.fn 59 .nl) vS uT6 qA3):=fy (fun c=>{ c with blds:=[(89,5,32,39)] }) Tryz.func58 66 [kb sO5,kb pO1] [(5,rA4),(7,rA3),(11,sS7)]
def f22t (p0:D43):Prop×(List UInt8):=
 let m1:=(bif ((f57 p0)!=0) then ((0:Int),(0:Int),([]:List D45),()) else p0)
 (((tQ2 p0)∧(uT6 m1.1 m1.2.1 m1.2.2.1 ())),(qA3 m1.1 m1.2.1 m1.2.2.1 ()))
def tB9 p0:=(f22t p0).1
def f22 p0:=(f22t p0).2
instance (p0):Decidable (tB9 p0):=by unfold tB9 f22t;dsimp only;infer_instance
theorem qA5:SK 22 (sp1 (.val T43) vS tB9 f22):=fb Tryz.func22 14 [kb rV5,kb qA4]
def f73t (p0:Int):Prop×Int:=
 (True,(bif (decide (p0<0)) then (wV .u64 (IntKind.wrap .u64 (wV0 (IntKind.wrap .u64 p0) (1:Int) 64))) else (IntKind.wrap .u64 (wV0 (IntKind.wrap .u64 p0) (1:Int) 64))))
def rA5 p0:=(f73t p0).1
def f73 p0:=(f73t p0).2
instance (p0):Decidable (rA5 p0):=by unfold rA5 f73t;dsimp only;infer_instance
theorem qR7:SK 73 (sp1 vI (.val (.int .u64)) rA5 f73):=fb Tryz.func73 12 [] [] [] true
def f70t (p0:Int):Prop×(List UInt8):=
 let v4:=(f73 p0)
 (((rA5 p0)∧(tJ7 v4)),(f71 v4))
def rA6 p0:=(f70t p0).1
def f70 p0:=(f70t p0).2
instance (p0):Decidable (rA6 p0):=by unfold rA6 f70t;dsimp only;infer_instance
theorem pO2:SK 70 (sp1 vI vS rA6 f70):=fb Tryz.func70 6 [kb rZ5,kb qR7]
abbrev tK0:Type:=((List Int)×Int×Unit)
abbrev uM1:Type:=((List UInt8)×Int×Unit)
def sS8 (y:tK0)(x:uM1):Prop×Bool×uM1:=
 let a6:=y.1
 let a3:=x.1
 let a8:=x.2.1
 let v9:=(decide (a8<y.2.1))
 let v10:=(nth a6 a8 (0:Int))
 let v13:=(f70 v10)
 ((v9=true→(InB a8 (len a6)∧((rA6 v10)∧(((List.length a3+List.length v13:Nat):Int)≤4294967296∧InR (a8+1))))),v9,((a3++v13),(a8+1),()))
def uT7 y x:=(sS8 y x).1
def tW y x:=(sS8 y x).2.1
def uM2 y x:=(sS8 y x).2.2
instance (y x):Decidable (uT7 y x):=by unfold uT7 sS8;dsimp only;infer_instance
def sH9 (y:tK0)(x:uM1):(List UInt8):=
 x.1
def qA6:=li [(6,(.val (.sl (.int .i64)))),(7,vI)] [(3,(.bld 89 5 3)),(8,vI)] tW uM2 uT7 (fun y x=>[ex 2 none [(3,(.bld 89 5 3))] ((sH9 y x),())]) [[(3,(.bld 89 5 3))]]
def f33t (p0:List Int):Prop×(List UInt8):=
 let y3:=(p0,(len p0),())
 let x3:=(([]:List UInt8),(0:Int),())
 ((xQ5 (tW y3) (uM2 y3) (uT7 y3) x3),(sH9 y3 (zC4 (tW y3) (uM2 y3) x3)))
def wY2 p0:=(f33t p0).1
def f33 p0:=(f33t p0).2
instance (p0):Decidable (wY2 p0):=by unfold wY2 f33t;dsimp only;infer_instance
theorem qA7:SK 33 (sp1 (.val (.sl (.int .i64))) vS wY2 f33):=fy (fun c=>{ c with blds:=[(89,5,32,39)] }) Tryz.func33 17 [kb pO2] [(3,qA6)]
abbrev tK1:Type:=((List Bool)×Int×Unit)
abbrev uM3:Type:=((List UInt8)×Int×Unit)
def sS9 (y:tK1)(x:uM3):Prop×Bool×uM3:=
 let a7:=y.1
 let a3:=x.1
 let a9:=x.2.1
 let v10:=(decide (a9<y.2.1))
 let m6:=(bif (nth a7 a9 false) then (1:Int) else (0:Int))
 let v15:=(f38 m6)
 ((v10=true→(InB a9 (len a7)∧((vD3 m6)∧(((List.length a3+List.length v15:Nat):Int)≤4294967296∧InR (a9+1))))),v10,((a3++v15),(a9+1),()))
def uT8 y x:=(sS9 y x).1
def tW0 y x:=(sS9 y x).2.1
def uM4 y x:=(sS9 y x).2.2
instance (y x):Decidable (uT8 y x):=by unfold uT8 sS9;dsimp only;infer_instance
def sI (y:tK1)(x:uM3):(List UInt8):=
 x.1
def qA8:=li [(7,(.val (.sl .bool))),(8,vI)] [(3,(.bld 89 5 3)),(9,vI)] tW0 uM4 uT8 (fun y x=>[ex 2 none [(3,(.bld 89 5 3))] ((sI y x),())]) [[(3,(.bld 89 5 3))]]
def f35t (p0:List Bool):Prop×(List UInt8):=
 let y3:=(p0,(len p0),())
 let x3:=(([]:List UInt8),(0:Int),())
 ((xQ5 (tW0 y3) (uM4 y3) (uT8 y3) x3),(sI y3 (zC4 (tW0 y3) (uM4 y3) x3)))
def sO6 p0:=(f35t p0).1
def f35 p0:=(f35t p0).2
instance (p0):Decidable (sO6 p0):=by unfold sO6 f35t;dsimp only;infer_instance
theorem pO3:SK 35 (sp1 (.val (.sl .bool)) vS sO6 f35):=fy (fun c=>{ c with blds:=[(89,5,32,39)] }) Tryz.func35 19 [kb sO5] [(3,qA8)]
abbrev tK2:Type:=((List Int)×Int×Unit)
abbrev uM5:Type:=((List Int)×Int×Unit)
def sT (y:tK2)(x:uM5):Prop×Bool×uM5:=
 let a10:=y.1
 let a3:=x.1
 let a12:=x.2.1
 let v13:=(decide (a12<y.2.1))
 let v14:=(nth a10 a12 (0:Int))
 let v18:=(f73 v14)
 ((v13=true→(InB a12 (len a10)∧((rA5 v14)∧(vN0 a3 v18)))),v13,((uH2 a3 v18),(IntKind.wrap .i64 (a12+1)),()))
def uH4 y x:=(sT y x).1
def vU4 y x:=(sT y x).2.1
def vG1 y x:=(sT y x).2.2
instance (y x):Decidable (uH4 y x):=by unfold uH4 sT;dsimp only;infer_instance
def sI0 (y:tK2)(x:uM5):(List Int):=
 x.1
def rA7:List (Nat×Sh):=[(3,(.own (.int .u8) 1003 false))]
def qA9:=li [(10,(.val (.sl (.int .i64)))),(11,vI)] [(3,(.own (.int .u8) 1003 false)),(12,vI)] vU4 vG1 uH4 (fun y x=>[ex 2 none rA7 ((sI0 y x),())]) [rA7]
def f36t (p0:List Int):Prop×(List UInt8):=
 let v8:=(IntKind.wrap .u64 (len p0))
 let y3:=(p0,(len p0),())
 let x3:=((uH2 ([]:List Int) v8),(0:Int),())
 (((vN0 ([]:List Int) v8)∧(xQ5 (vU4 y3) (vG1 y3) (uH4 y3) x3)),(xC3 (sI0 y3 (zC4 (vU4 y3) (vG1 y3) x3))))
def rA8 p0:=(f36t p0).1
def f36 p0:=(f36t p0).2
instance (p0):Decidable (rA8 p0):=by unfold rA8 f36t;dsimp only;infer_instance
theorem pO4:SK 36 (sp1 (.val (.sl (.int .i64))) vS rA8 f36):=fx (fun c=>{ c with wants:=[(72,[0])] }) Tryz.func36 23 [kb sZ7,kb qR7] [(3,qA9)] [(3,[(4,0,9,1003)]),(11,[(4,0,19,1003)])] true
abbrev tK3:Type:=(D52×(List D127)×Int×Unit)
abbrev uM6:Type:=((List UInt8)×Int×Unit)
def sT0 (y:tK3)(x:uM6):Prop×Bool×uM6:=
 let a16:=y.2.1
 let a3:=x.1
 let a18:=x.2.1
 let v19:=(decide (a18<y.2.2.1))
 let v20:=(nth a16 a18 Z127)
 let v36:=([v20.1,v20.2.1.1,v20.2.1.2.1,v20.2.1.2.2.1,v20.2.1.2.2.2.1]:List Int)
 let v37:=(f33 v36)
 ((v19=true→(InB a18 (len a16)∧((wY2 v36)∧(((List.length a3+List.length v37:Nat):Int)≤4294967296∧InR (a18+1))))),v19,((a3++v37),(a18+1),()))
def uH5 y x:=(sT0 y x).1
def vU5 y x:=(sT0 y x).2.1
def vD0 y x:=(sT0 y x).2.2
instance (y x):Decidable (uH5 y x):=by unfold uH5 sT0;dsimp only;infer_instance
def sI1 (y:tK3)(x:uM6):(List UInt8):=
 x.1
def rA9:List (Nat×Sh):=[(1,(.box T52 (.val T52))),(3,(.bld 89 5 3))]
def qB:=li [(1,(.box T52 (.val T52))),(16,(.val (.sl T127))),(17,vI)] [(3,(.bld 89 5 3)),(18,vI)] vU5 vD0 uH5 (fun y x=>[ex 2 none rA9 (y.1,(sI1 y x),())]) [rA9]
abbrev uT9:Type:=((List D130)×Int×Int×(List D99)×Unit)
abbrev uA5:Type:=((List UInt8)×Int×Unit)
def tW1 (y:uT9)(x:uA5):Prop×Bool×uA5:=
 let a3:=x.1
 let a59:=x.2.1
 let v60:=(decide (a59<3))
 let v61:=(nth y.2.2.2.1 a59 Z99)
 let v66:=([v61.1,v61.2.1]:List Int)
 let v67:=(f33 v66)
 ((v60=true→(InB a59 3∧((wY2 v66)∧(((List.length a3+List.length v67:Nat):Int)≤4294967296∧InR (a59+1))))),v60,((a3++v67),(a59+1),()))
def vW3 y x:=(tW1 y x).1
def uA6 y x:=(tW1 y x).2.1
def vG2 y x:=(tW1 y x).2.2
instance (y x):Decidable (vW3 y x):=by unfold vW3 tW1;dsimp only;infer_instance
def tT6 (y:uT9)(x:uA5):(List UInt8):=
 x.1
def sO7:List (Nat×Sh):=[(3,(.bld 89 5 3)),(46,(.val (.sl T130))),(47,vI),(48,vI)]
def rR6:=li [(46,(.val (.sl T130))),(47,vI),(48,vI),(58,(.val (.arr 3 T99)))] [(3,(.bld 89 5 3)),(59,vI)] uA6 vG2 vW3 (fun y x=>[ex 6 none sO7 ((tT6 y x),y.1,y.2.1,y.2.2.1,())]) [sO7]
abbrev uU:Type:=((List D130)×Int×Unit)
abbrev uA7:Type:=((List UInt8)×Int×Unit)
def tW2 (y:uU)(x:uA7):Prop×Bool×uA7:=
 let a46:=y.1
 let a47:=y.2.1
 let a3:=x.1
 let a48:=x.2.1
 let v49:=(decide (a48<a47))
 let v50:=(nth a46 a48 Z130)
 let v54:=([v50.1]:List Int)
 let v55:=(f33 v54)
 let y14:=(a46,a47,a48,v50.2.1,())
 let x14:=((a3++v55),(0:Int),())
 ((v49=true→(InB a48 (len a46)∧((wY2 v54)∧(((List.length a3+List.length v55:Nat):Int)≤4294967296∧((xQ5 (uA6 y14) (vG2 y14) (vW3 y14) x14)∧InR (a48+1)))))),v49,((tT6 y14 (zC4 (uA6 y14) (vG2 y14) x14)),(a48+1),()))
def vP8 y x:=(tW2 y x).1
def vJ5 y x:=(tW2 y x).2.1
def vA4 y x:=(tW2 y x).2.2
instance (y x):Decidable (vP8 y x):=by unfold vP8 tW2;dsimp only;infer_instance
def tT7 (y:uU)(x:uA7):(List UInt8):=
 x.1
def rR7:=li [(46,(.val (.sl T130))),(47,vI)] [(3,(.bld 89 5 3)),(48,vI)] vJ5 vA4 vP8 (fun y x=>[ex 4 none [(3,(.bld 89 5 3))] ((tT7 y x),())]) [[(3,(.bld 89 5 3))]]
def f37t (p0:D52):Prop×(List UInt8):=
 let v12:=(len p0.2.2.2.2.2.2.2.2.2.2.2.2.2.2.2.2.2.1)
 let v13:=(f38 v12)
 let y4:=(p0,p0.2.2.2.2.2.2.2.2.2.2.2.2.2.2.2.2.2.1,(len p0.2.2.2.2.2.2.2.2.2.2.2.2.2.2.2.2.2.1),())
 let x4:=((([]:List UInt8)++v13),(0:Int),())
 let r4_2_0:=(sI1 y4 (zC4 (vU5 y4) (vD0 y4) x4))
 let v42:=(len p0.2.2.2.2.2.2.2.2.2.2.2.2.2.2.2.2.2.2.1)
 let v43:=(f38 v42)
 let y10:=(p0.2.2.2.2.2.2.2.2.2.2.2.2.2.2.2.2.2.2.1,(len p0.2.2.2.2.2.2.2.2.2.2.2.2.2.2.2.2.2.2.1),())
 let x10:=((r4_2_0++v43),(0:Int),())
 (((vD3 v12)∧(((List.length ([]:List UInt8)+List.length v13:Nat):Int)≤4294967296∧((xQ5 (vU5 y4) (vD0 y4) (uH5 y4) x4)∧((vD3 v42)∧(((List.length r4_2_0+List.length v43:Nat):Int)≤4294967296∧(xQ5 (vJ5 y10) (vA4 y10) (vP8 y10) x10)))))),(tT7 y10 (zC4 (vJ5 y10) (vA4 y10) x10)))
def rB p0:=(f37t p0).1
def f37 p0:=(f37t p0).2
instance (p0):Decidable (rB p0):=by unfold rB f37t;dsimp only;infer_instance
theorem pO5:SK 37 (sp1 (.val T52) vS rB f37):=fy (fun c=>{ c with blds:=[(89,5,32,39)] }) Tryz.func37 72 [kb qA7,kb sO5] [(4,qB),(10,rR7),(14,rR6)]
abbrev uU0:Type:=((List D99)×Int×Unit)
abbrev uA8:Type:=((List UInt8)×Int×Unit)
def tW3 (y:uU0)(x:uA8):Prop×Bool×uA8:=
 let a136:=y.1
 let a3:=x.1
 let a138:=x.2.1
 let v139:=(decide (a138<y.2.1))
 let v140:=(nth a136 a138 Z99)
 let v146:=([v140.1,v140.2.1]:List Int)
 let v147:=(f33 v146)
 ((v139=true→(InB a138 (len a136)∧((wY2 v146)∧(((List.length a3+List.length v147:Nat):Int)≤4294967296∧InR (a138+1))))),v139,((a3++v147),(a138+1),()))
def uH6 y x:=(tW3 y x).1
def uU1 y x:=(tW3 y x).2.1
def vR9 y x:=(tW3 y x).2.2
instance (y x):Decidable (uH6 y x):=by unfold uH6 tW3;dsimp only;infer_instance
def uU2 (y:uU0)(x:uA8):(List UInt8):=
 x.1
def rR8:=li [(136,(.val (.sl T99))),(137,vI)] [(3,(.bld 89 5 3)),(138,vI)] uU1 vR9 uH6 (fun y x=>[ex 2 none [(3,(.bld 89 5 3))] ((uU2 y x),())]) [[(3,(.bld 89 5 3))]]
def f11t (p0:D52):Prop×(List UInt8):=
 let v12:=([p0.1,p0.2.1,p0.2.2.1]:List Int)
 let v13:=(f33 v12)
 let b3:=(([]:List UInt8)++v13)
 let v17:=(f34 p0.2.2.2.1)
 let b3_1:=(b3++v17)
 let v25:=([p0.2.2.2.2.1,p0.2.2.2.2.2.1,p0.2.2.2.2.2.2.1]:List Bool)
 let v26:=(f35 v25)
 let b3_2:=(b3_1++v26)
 let v32:=([p0.2.2.2.2.2.2.2.1,p0.2.2.2.2.2.2.2.2.1]:List Int)
 let v33:=(f33 v32)
 let b3_3:=(b3_2++v33)
 let v37:=(f12 p0.2.2.2.2.2.2.2.2.2.1)
 let b3_4:=(b3_3++v37)
 let v59:=([p0.2.2.2.2.2.2.2.2.2.2.1.1,p0.2.2.2.2.2.2.2.2.2.2.1.2.1,p0.2.2.2.2.2.2.2.2.2.2.1.2.2.1,p0.2.2.2.2.2.2.2.2.2.2.1.2.2.2.1,p0.2.2.2.2.2.2.2.2.2.2.1.2.2.2.2.1,p0.2.2.2.2.2.2.2.2.2.2.1.2.2.2.2.2.1,p0.2.2.2.2.2.2.2.2.2.2.2.1]:List Int)
 let v60:=(f33 v59)
 let b3_5:=(b3_4++v60)
 let v64:=(f22 p0.2.2.2.2.2.2.2.2.2.2.2.2.1)
 let b3_6:=(b3_5++v64)
 let v80:=([p0.2.2.2.2.2.2.2.2.2.2.2.2.2.1.1,p0.2.2.2.2.2.2.2.2.2.2.2.2.2.1.2.1,p0.2.2.2.2.2.2.2.2.2.2.2.2.2.1.2.2.1,p0.2.2.2.2.2.2.2.2.2.2.2.2.2.1.2.2.2.1,p0.2.2.2.2.2.2.2.2.2.2.2.2.2.2.1]:List Int)
 let v81:=(f33 v80)
 let b3_7:=(b3_6++v81)
 let v85:=(f36 p0.2.2.2.2.2.2.2.2.2.2.2.2.2.2.2.1)
 let b3_8:=(b3_7++v85)
 let v89:=([p0.2.2.2.2.2.2.2.2.2.2.2.2.2.2.2.2.1]:List Int)
 let v90:=(f33 v89)
 let b3_9:=(b3_8++v90)
 let v93:=(f37 p0)
 let b3_10:=(b3_9++v93)
 let v103:=([p0.2.2.2.2.2.2.2.2.2.2.2.2.2.2.2.2.2.2.2.1,p0.2.2.2.2.2.2.2.2.2.2.2.2.2.2.2.2.2.2.2.2.1,p0.2.2.2.2.2.2.2.2.2.2.2.2.2.2.2.2.2.2.2.2.2.1,p0.2.2.2.2.2.2.2.2.2.2.2.2.2.2.2.2.2.2.2.2.2.2.1]:List Int)
 let v104:=(f33 v103)
 let b3_11:=(b3_10++v104)
 let v108:=(f34 p0.2.2.2.2.2.2.2.2.2.2.2.2.2.2.2.2.2.2.2.2.2.2.2.1)
 let b3_12:=(b3_11++v108)
 let v125:=([p0.2.2.2.2.2.2.2.2.2.2.2.2.2.2.2.2.2.2.2.2.2.2.2.2.1,p0.2.2.2.2.2.2.2.2.2.2.2.2.2.2.2.2.2.2.2.2.2.2.2.2.2.1,p0.2.2.2.2.2.2.2.2.2.2.2.2.2.2.2.2.2.2.2.2.2.2.2.2.2.2.1,p0.2.2.2.2.2.2.2.2.2.2.2.2.2.2.2.2.2.2.2.2.2.2.2.2.2.2.2.1.1,p0.2.2.2.2.2.2.2.2.2.2.2.2.2.2.2.2.2.2.2.2.2.2.2.2.2.2.2.1.2.1,p0.2.2.2.2.2.2.2.2.2.2.2.2.2.2.2.2.2.2.2.2.2.2.2.2.2.2.2.1.2.2.1]:List Int)
 let v126:=(f33 v125)
 let b3_13:=(b3_12++v126)
 let v131:=(len p0.2.2.2.2.2.2.2.2.2.2.2.2.2.2.2.2.2.2.2.2.2.2.2.2.2.2.2.1.2.2.2.1)
 let v132:=(f38 v131)
 let y18:=(p0.2.2.2.2.2.2.2.2.2.2.2.2.2.2.2.2.2.2.2.2.2.2.2.2.2.2.2.1.2.2.2.1,(len p0.2.2.2.2.2.2.2.2.2.2.2.2.2.2.2.2.2.2.2.2.2.2.2.2.2.2.2.1.2.2.2.1),())
 let x18:=((b3_13++v132),(0:Int),())
 (((wY2 v12)∧(((List.length ([]:List UInt8)+List.length v13:Nat):Int)≤4294967296∧((vJ4 p0.2.2.2.1)∧(((List.length b3+List.length v17:Nat):Int)≤4294967296∧((sO6 v25)∧(((List.length b3_1+List.length v26:Nat):Int)≤4294967296∧((wY2 v32)∧(((List.length b3_2+List.length v33:Nat):Int)≤4294967296∧((sH8 p0.2.2.2.2.2.2.2.2.2.1)∧(((List.length b3_3+List.length v37:Nat):Int)≤4294967296∧((wY2 v59)∧(((List.length b3_4+List.length v60:Nat):Int)≤4294967296∧((tB9 p0.2.2.2.2.2.2.2.2.2.2.2.2.1)∧(((List.length b3_5+List.length v64:Nat):Int)≤4294967296∧((wY2 v80)∧(((List.length b3_6+List.length v81:Nat):Int)≤4294967296∧((rA8 p0.2.2.2.2.2.2.2.2.2.2.2.2.2.2.2.1)∧(((List.length b3_7+List.length v85:Nat):Int)≤4294967296∧((wY2 v89)∧(((List.length b3_8+List.length v90:Nat):Int)≤4294967296∧((rB p0)∧(((List.length b3_9+List.length v93:Nat):Int)≤4294967296∧((wY2 v103)∧(((List.length b3_10+List.length v104:Nat):Int)≤4294967296∧((vJ4 p0.2.2.2.2.2.2.2.2.2.2.2.2.2.2.2.2.2.2.2.2.2.2.2.1)∧(((List.length b3_11+List.length v108:Nat):Int)≤4294967296∧((wY2 v125)∧(((List.length b3_12+List.length v126:Nat):Int)≤4294967296∧((vD3 v131)∧(((List.length b3_13+List.length v132:Nat):Int)≤4294967296∧(xQ5 (uU1 y18) (vR9 y18) (uH6 y18) x18))))))))))))))))))))))))))))))),(uU2 y18 (zC4 (uU1 y18) (vR9 y18) x18)))
def tC p0:=(f11t p0).1
def f11 p0:=(f11t p0).2
instance (p0):Decidable (tC p0):=by unfold tC f11t;dsimp only;infer_instance
theorem pO6:SK 11 (sp1 (.val T52) vS tC f11):=fy (fun c=>{ c with blds:=[(89,5,32,39)] }) Tryz.func11 151 [kb qA2,kb qA5,kb qA7,kb rZ6,kb pO3,kb pO4,kb pO5,kb sO5] [(18,rR8)]
abbrev tK4:Type:=(D28×(List D52)×Int×Unit)
abbrev uM7:Type:=((List UInt8)×Int×Unit)
def sT1 (y:tK4)(x:uM7):Prop×Bool×uM7:=
 let a27:=y.2.1
 let a3:=x.1
 let a29:=x.2.1
 let v30:=(decide (a29<y.2.2.1))
 let v31:=(nth a27 a29 Z52)
 let v34:=(f11 v31)
 ((v30=true→(InB a29 (len a27)∧((tC v31)∧(((List.length a3+List.length v34:Nat):Int)≤4294967296∧InR (a29+1))))),v30,((a3++v34),(a29+1),()))
def uH7 y x:=(sT1 y x).1
def uM8 y x:=(sT1 y x).2.1
def vK2 y x:=(sT1 y x).2.2
instance (y x):Decidable (uH7 y x):=by unfold uH7 sT1;dsimp only;infer_instance
def sI2 (y:tK4)(x:uM7):(List UInt8):=
 x.1
def rB0:List (Nat×Sh):=[(1,(.box T28 (.val T28))),(3,(.bld 89 5 3))]
def qB0:=li [(1,(.box T28 (.val T28))),(27,(.val (.sl T52))),(28,vI)] [(3,(.bld 89 5 3)),(29,vI)] uM8 vK2 uH7 (fun y x=>[ex 2 none rB0 (y.1,(sI2 y x),())]) [rB0]
abbrev uU3:Type:=(D28×(List D80)×Int×Unit)
abbrev uA9:Type:=((List UInt8)×Int×Unit)
def tW4 (y:uU3)(x:uA9):Prop×Bool×uA9:=
 let a47:=y.2.1
 let a3:=x.1
 let a49:=x.2.1
 let v50:=(decide (a49<y.2.2.1))
 let v51:=(nth a47 a49 Z80)
 let v55:=(f34 v51.1)
 let b3:=(a3++v55)
 let v59:=(f34 v51.2.1)
 ((v50=true→(InB a49 (len a47)∧((vJ4 v51.1)∧(((List.length a3+List.length v55:Nat):Int)≤4294967296∧((vJ4 v51.2.1)∧(((List.length b3+List.length v59:Nat):Int)≤4294967296∧InR (a49+1))))))),v50,((b3++v59),(a49+1),()))
def vW4 y x:=(tW4 y x).1
def uB y x:=(tW4 y x).2.1
def vG3 y x:=(tW4 y x).2.2
instance (y x):Decidable (vW4 y x):=by unfold vW4 tW4;dsimp only;infer_instance
def tT8 (y:uU3)(x:uA9):(List UInt8):=
 x.1
def sO8:List (Nat×Sh):=[(1,(.box T28 (.val T28))),(3,(.bld 89 5 3))]
def rR9:=li [(1,(.box T28 (.val T28))),(47,(.val (.sl T80))),(48,vI)] [(3,(.bld 89 5 3)),(49,vI)] uB vG3 vW4 (fun y x=>[ex 4 none sO8 (y.1,(tT8 y x),())]) [sO8]
abbrev uU4:Type:=((List D82)×Int×Unit)
abbrev uB0:Type:=((List UInt8)×Int×Unit)
def tW5 (y:uU4)(x:uB0):Prop×Bool×uB0:=
 let a68:=y.1
 let a3:=x.1
 let a70:=x.2.1
 let v71:=(decide (a70<y.2.1))
 let v72:=(nth a68 a70 Z82)
 let v76:=([v72.1]:List Int)
 let v77:=(f33 v76)
 let b3:=(a3++v77)
 let v81:=(f34 v72.2.1)
 let b3_1:=(b3++v81)
 let v87:=([v72.2.2.1,v72.2.2.2.1]:List Int)
 let v88:=(f33 v87)
 let b3_2:=(b3_1++v88)
 let v92:=(f22 v72.2.2.2.2.1)
 ((v71=true→(InB a70 (len a68)∧((wY2 v76)∧(((List.length a3+List.length v77:Nat):Int)≤4294967296∧((vJ4 v72.2.1)∧(((List.length b3+List.length v81:Nat):Int)≤4294967296∧((wY2 v87)∧(((List.length b3_1+List.length v88:Nat):Int)≤4294967296∧((tB9 v72.2.2.2.2.1)∧(((List.length b3_2+List.length v92:Nat):Int)≤4294967296∧InR (a70+1))))))))))),v71,((b3_2++v92),(a70+1),()))
def vI8 y x:=(tW5 y x).1
def vS0 y x:=(tW5 y x).2.1
def vC3 y x:=(tW5 y x).2.2
instance (y x):Decidable (vI8 y x):=by unfold vI8 tW5;dsimp only;infer_instance
def tT9 (y:uU4)(x:uB0):(List UInt8):=
 x.1
def rS:=li [(68,(.val (.sl T82))),(69,vI)] [(3,(.bld 89 5 3)),(70,vI)] vS0 vC3 vI8 (fun y x=>[ex 6 none [(3,(.bld 89 5 3))] ((tT9 y x),())]) [[(3,(.bld 89 5 3))]]
def f26t (p0:D28):Prop×(List UInt8):=
 let v18:=([p0.1,p0.2.1,p0.2.2.1,p0.2.2.2.2.1]:List Int)
 let v19:=(f33 v18)
 let b3:=(([]:List UInt8)++v19)
 let v23:=(len p0.2.2.2.1)
 let v24:=(f38 v23)
 let y5:=(p0,p0.2.2.2.1,(len p0.2.2.2.1),())
 let x5:=((b3++v24),(0:Int),())
 let r5_2_0:=(sI2 y5 (zC4 (uM8 y5) (vK2 y5) x5))
 let v39:=(f12 p0.2.2.2.2.2.1)
 let b3_2:=(r5_2_0++v39)
 let v43:=(len p0.2.2.2.2.2.2.1)
 let v44:=(f38 v43)
 let y12:=(p0,p0.2.2.2.2.2.2.1,(len p0.2.2.2.2.2.2.1),())
 let x12:=((b3_2++v44),(0:Int),())
 let r12_4_0:=(tT8 y12 (zC4 (uB y12) (vG3 y12) x12))
 let v64:=(len p0.2.2.2.2.2.2.2.1)
 let v65:=(f38 v64)
 let y19:=(p0.2.2.2.2.2.2.2.1,(len p0.2.2.2.2.2.2.2.1),())
 let x19:=((r12_4_0++v65),(0:Int),())
 (((wY2 v18)∧(((List.length ([]:List UInt8)+List.length v19:Nat):Int)≤4294967296∧((vD3 v23)∧(((List.length b3+List.length v24:Nat):Int)≤4294967296∧((xQ5 (uM8 y5) (vK2 y5) (uH7 y5) x5)∧((sH8 p0.2.2.2.2.2.1)∧(((List.length r5_2_0+List.length v39:Nat):Int)≤4294967296∧((vD3 v43)∧(((List.length b3_2+List.length v44:Nat):Int)≤4294967296∧((xQ5 (uB y12) (vG3 y12) (vW4 y12) x12)∧((vD3 v64)∧(((List.length r12_4_0+List.length v65:Nat):Int)≤4294967296∧(xQ5 (vS0 y19) (vC3 y19) (vI8 y19) x19))))))))))))),(tT9 y19 (zC4 (vS0 y19) (vC3 y19) x19)))
def tK5 p0:=(f26t p0).1
def f26 p0:=(f26t p0).2
instance (p0):Decidable (tK5 p0):=by unfold tK5 f26t;dsimp only;infer_instance
theorem pO7:SK 26 (sp1 (.val T28) vS tK5 f26):=fy (fun c=>{ c with blds:=[(89,5,32,39)] }) Tryz.func26 96 [kb pO6,kb qA2,kb qA5,kb qA7,kb rZ6,kb sO5] [(5,qB0),(12,rR9),(19,rS)]
def f6t (p0:D28):Prop×((List UInt8)×Int×Unit):=
 let v8:=(f24 p0)
 let v10:=(v8 !=0)
 let v14:=(f26 p0)
 let v15:=(f25 v14)
 let v19:=(v15.2.1 !=0)
 let v22:=(len v15.1)
 let v24:=(decide ((4+v22)>1048576))
 (((tJ6 p0)∧((!v10)=true→((tK5 p0)∧((sZ9 v14)∧((!v19)=true→(InR (4+v22)∧((!v24)=true→((List.length ([73,69,68,49]:List UInt8)+List.length v15.1:Nat):Int)≤9223372036854775807))))))),((bif v10 then ([]:List UInt8) else (bif v19 then ([]:List UInt8) else (bif v24 then ([]:List UInt8) else (([73,69,68,49]:List UInt8)++v15.1)))),(bif v10 then v8 else (bif v19 then v15.2.1 else (bif v24 then (3:Int) else (0:Int)))),()))
def rG5 p0:=(f6t p0).1
def f6 p0:=(f6t p0).2
instance (p0):Decidable (rG5 p0):=by unfold rG5 f6t;dsimp only;infer_instance
def pI:=sp1 (.val T28) (.tup (.cons vS (.cons vI .nl))) rG5 f6
theorem pS9:SK 6 (sp1 (.val T28) (.tup (.cons vS (.cons vI .nl))) rG5 f6):=fb Tryz.func6 27 [kb qR4,kb pO,kb pO7]
def f10t (p0:List UInt8):Prop×Unit×(D85×Unit):=
 (True,(),((true,p0,(0:Int),(0:Int),()),()))
def rB1 p0:=(f10t p0).1
def f10 p0:=(f10t p0).2.1
def qJ1 p0:=(f10t p0).2.2
instance (p0):Decidable (rB1 p0):=by unfold rB1 f10t;dsimp only;infer_instance
theorem rI8:SK 10 (fnSpec [(0,vS)] (.ref 900000 T85) [(900000,(.box T85 (.val T85)))] (fun x=>rB1 x.1) (fun x=>f10 x.1) (fun x=>qJ1 x.1)):=fb Tryz.func10 6 [] [] [(3,[(6,5,0,900000)])] false [900000]
def sT2 (p0:D85):Prop×Int×(D85×Unit):=
 (True,(bif (bif false then true else (!p0.1)) then (14:Int) else p0.2.2.2.1),(p0,()))
def vG4 p0:=(sT2 p0).1
def uC5 p0:=(sT2 p0).2.1
def vD9 p0:=(sT2 p0).2.2
instance (p0):Decidable (vG4 p0):=by unfold vG4 sT2;dsimp only;infer_instance
theorem uH8:SK 19 (fnSpec [(0,(.box T85 (.val T85)))] vI [(0,(.box T85 (.val T85)))] (fun x=>vG4 x.1) (fun x=>uC5 x.1) (fun x=>vD9 x.1)):=fb Tryz.func19 16 [] [] [] false [0]
def sT3 (p0:D85):Prop×Bool×(D85×Unit):=
 (True,(bif (bif (!false) then p0.1 else false) then (p0.2.2.2.1==0) else false),(p0,()))
def vS1 p0:=(sT3 p0).1
def uU5 p0:=(sT3 p0).2.1
def vN1 p0:=(sT3 p0).2.2
instance (p0):Decidable (vS1 p0):=by unfold vS1 sT3;dsimp only;infer_instance
theorem uU6:SK 55 (fnSpec [(0,(.box T85 (.val T85)))] vB [(0,(.box T85 (.val T85)))] (fun x=>vS1 x.1) (fun x=>uU5 x.1) (fun x=>vN1 x.1)):=fb Tryz.func55 18 [] [] [] false [0]
def sI3 (p0:D85):Prop×Int×(D85×Unit):=
 let v4o:=(vN1 p0)
 let v5:=(!(uU5 p0))
 ((vS1 p0),(bif v5 then (0:Int) else (IntKind.wrap .i64 ((len v4o.1.2.1)-v4o.1.2.2.1))),((bif v5 then v4o.1 else v4o.1),()))
def vS2 p0:=(sI3 p0).1
def tC0 p0:=(sI3 p0).2.1
def tA3 p0:=(sI3 p0).2.2
instance (p0):Decidable (vS2 p0):=by unfold vS2 sI3;dsimp only;infer_instance
theorem tK6:SK 20 (fnSpec [(0,(.box T85 (.val T85)))] vI [(0,(.box T85 (.val T85)))] (fun x=>vS2 x.1) (fun x=>tC0 x.1) (fun x=>tA3 x.1)):=fb Tryz.func20 16 [kb uU6] [] [] true [0]
def sT4 (p0:D85):Prop×Int×(D85×Unit):=
 let v5:=(uC5 p0)
 let v5o:=(vD9 p0)
 let v7:=(v5 !=0)
 let v10o:=(tA3 v5o.1)
 let v11:=(decide ((tC0 v5o.1)>0))
 (((vG4 p0)∧((!v7)=true→(vS2 v5o.1))),(bif v7 then v5 else (bif v11 then (6:Int) else (0:Int))),((bif v7 then v5o.1 else (bif v11 then v10o.1 else v10o.1)),()))
def tK7 p0:=(sT4 p0).1
def qR8 p0:=(sT4 p0).2.1
def qJ2 p0:=(sT4 p0).2.2
instance (p0):Decidable (tK7 p0):=by unfold tK7 sT4;dsimp only;infer_instance
theorem qB1:SK 15 (fnSpec [(0,(.box T85 (.val T85)))] vI [(0,(.box T85 (.val T85)))] (fun x=>tK7 x.1) (fun x=>qR8 x.1) (fun x=>qJ2 x.1)):=fb Tryz.func15 12 [kb uH8,kb tK6] [] [] false [0]
def f97t (p0:List UInt8)(p1:List UInt8):Prop×Bool:=
 let v9:=(decide ((len p0)≥(len p1)))
 let v13:=(len p1)
 ((v9=true→(0≤v13∧v13≤len p0)),(bif v9 then ((List.take (Int.toNat v13) p0)==p1) else false))
def rI9 p0 p1:=(f97t p0 p1).1
def f97 p0 p1:=(f97t p0 p1).2
instance (p0 p1):Decidable (rI9 p0 p1):=by unfold rI9 f97t;dsimp only;infer_instance
theorem pO8:SK 97 (sp2 vS vS vB rI9 f97):=fb Tryz.func97 18
def f68t (p0:List UInt8)(p1:List UInt8):Prop×((List UInt8)×Bool×Unit):=
 let v9:=(!(f97 p0 p1))
 let v13:=(len p1)
 (((rI9 p0 p1)∧((!v9)=true→(0≤v13∧v13≤len p0))),((bif v9 then p0 else (List.drop (Int.toNat v13) p0)),(bif v9 then false else true),()))
def rJ p0 p1:=(f68t p0 p1).1
def f68 p0 p1:=(f68t p0 p1).2
instance (p0 p1):Decidable (rJ p0 p1):=by unfold rJ f68t;dsimp only;infer_instance
theorem pO9:SK 68 (sp2 vS vS (.tup (.cons vS (.cons vB .nl))) rJ f68):=fb Tryz.func68 15 [kb pO8]
def f27t (p0:List UInt8)(p1:List UInt8):Prop×((List UInt8)×Bool×Unit):=
 let v8:=(f68 p0 p1)
 ((rJ p0 p1),(v8.1,v8.2.1,()))
def sO9 p0 p1:=(f27t p0 p1).1
def f27 p0 p1:=(f27t p0 p1).2
instance (p0 p1):Decidable (sO9 p0 p1):=by unfold sO9 f27t;dsimp only;infer_instance
theorem qB2:SK 27 (sp2 vS vS (.tup (.cons vS (.cons vB .nl))) sO9 f27):=fb Tryz.func27 11 [kb pO9]
abbrev vP9:Type:=(Unit)
abbrev vG5:Type:=(D85×Int×Int×Unit)
def uH9 (y:vP9)(x:vG5):Prop×Bool×vG5:=
 let a0:=x.1
 let a4:=x.2.2.1
 let v20:=(decide (a0.2.2.1≥(len a0.2.1)))
 let v32:=(wT5 a0.2.1 a0.2.2.1)
 let v46:=(bif (bif (a4==9) then (decide (v32>1)) else false) then true else (bif (decide (a4>0)) then (v32==0) else false))
 let v62:=(IntKind.wrap .i64 (7*a4))
 (((!v20)=true→(InB a0.2.2.1 (len a0.2.1)∧((!v46)=true→0≤v62))),((!v20)&&((!v46)&&(!(decide (v32<128))))),((a0.1,a0.2.1,(IntKind.wrap .i64 (a0.2.2.1+1)),a0.2.2.2.1,()),(ior .u64 x.2.1 (IntKind.wrap .u64 (wV0 (IntKind.wrap .u64 (wU8 .u8 v32 (127:Int))) v62 64))),(IntKind.wrap .i64 (a4+1)),()))
def vK8 y x:=(uH9 y x).1
def vK3 y x:=(uH9 y x).2.1
def vD7 y x:=(uH9 y x).2.2
instance (y x):Decidable (vK8 y x):=by unfold vK8 uH9;dsimp only;infer_instance
def vQ3 (y:vP9)(x:vG5):D85:=
 let a0:=x.1
 let a4:=x.2.2.1
 let v32:=(wT5 a0.2.1 a0.2.2.1)
 let m0:=(bif (bif (bif (a4==9) then (decide (v32>1)) else false) then true else (bif (decide (a4>0)) then (v32==0) else false)) then (a0.1,a0.2.1,a0.2.2.1,(4:Int),()) else (a0.1,a0.2.1,(IntKind.wrap .i64 (a0.2.2.1+1)),a0.2.2.2.1,()))
 (bif (decide (a0.2.2.1≥(len a0.2.1))) then (a0.1,a0.2.1,a0.2.2.1,(5:Int),()) else m0)
def vQ4 (y:vP9)(x:vG5):Int:=
 let a0:=x.1
 let a4:=x.2.2.1
 let v32:=(wT5 a0.2.1 a0.2.2.1)
 let m2:=(bif (bif (bif (a4==9) then (decide (v32>1)) else false) then true else (bif (decide (a4>0)) then (v32==0) else false)) then (0:Int) else (ior .u64 x.2.1 (IntKind.wrap .u64 (wV0 (IntKind.wrap .u64 (wU8 .u8 v32 (127:Int))) (IntKind.wrap .i64 (7*a4)) 64))))
 (bif (decide (a0.2.2.1≥(len a0.2.1))) then (0:Int) else m2)
def tU:List (Nat×Sh):=[(0,(.box T85 (.val T85))),(2,(.val (.int .u64)))]
def rB2:=li [] [(0,(.box T85 (.val T85))),(3,(.val (.int .u64))),(4,vI)] vK3 vD7 vK8 (fun y x=>[ex 1 none tU ((vQ3 y x),(vQ4 y x),())]) [tU]
def sI4 (p0:D85):Prop×Int×(D85×Unit):=
 let v7o:=(vN1 p0)
 let v8:=(!(uU5 p0))
 let x6:=(v7o.1,(0:Int),(0:Int),())
 let e6:=(zC4 (vK3 ()) (vD7 ()) x6)
 (((vS1 p0)∧((!v8)=true→(xQ5 (vK3 ()) (vD7 ()) (vK8 ()) x6))),(bif v8 then (0:Int) else (vQ4 () e6)),((bif v8 then v7o.1 else (vQ3 () e6)),()))
def uI p0:=(sI4 p0).1
def rB3 p0:=(sI4 p0).2.1
def tK8 p0:=(sI4 p0).2.2
instance (p0):Decidable (uI p0):=by unfold uI sI4;dsimp only;infer_instance
theorem qB3:SK 76 (fnSpec [(0,(.box T85 (.val T85)))] (.val (.int .u64)) [(0,(.box T85 (.val T85)))] (fun x=>uI x.1) (fun x=>rB3 x.1) (fun x=>tK8 x.1)):=fb Tryz.func76 68 [kb uU6] [(6,rB2)] [] true [0]
def tP2 (p0:D85)(p1:Int):Prop×Int×(D85×Unit):=
 let v7:=(rB3 p0)
 let v7o:=(tK8 p0)
 let v9o:=(vN1 v7o.1)
 let v10:=(!(uU5 v7o.1))
 let v15:=(decide (v7>(IntKind.wrap .u64 (wS1 p1 (0:Int)))))
 (((uI p0)∧(vS1 v7o.1)),(bif v10 then (0:Int) else (bif v15 then (0:Int) else (IntKind.wrap .i64 v7))),((bif v10 then v9o.1 else (bif v15 then (v9o.1.1,v9o.1.2.1,v9o.1.2.2.1,(3:Int),()) else v9o.1)),()))
def wY7 p0 p1:=(tP2 p0 p1).1
def vS3 p0 p1:=(tP2 p0 p1).2.1
def wY9 p0 p1:=(tP2 p0 p1).2.2
instance (p0 p1):Decidable (wY7 p0 p1):=by unfold wY7 tP2;dsimp only;infer_instance
theorem uU7:SK 48 (fnSpec [(0,(.box T85 (.val T85))),(1,vI)] vI [(0,(.box T85 (.val T85)))] (fun x=>wY7 x.1 x.2.1) (fun x=>vS3 x.1 x.2.1) (fun x=>wY9 x.1 x.2.1)):=fb Tryz.func48 21 [kb uU6,kb qB3] [] [] true [0]
def tD8 (p0:D85)(p1:Int):Prop×(List UInt8)×(D85×Unit):=
 let v9:=(vS3 p0 p1)
 let v9o:=(wY9 p0 p1)
 let v11o:=(vN1 v9o.1)
 let v12:=(!(uU5 v9o.1))
 let v15o:=(tA3 v11o.1)
 let v16:=(decide (v9>(tC0 v11o.1)))
 let v33:=(IntKind.wrap .i64 (v15o.1.2.2.1+v9))
 (((wY7 p0 p1)∧((vS1 v9o.1)∧((!v12)=true→((vS2 v11o.1)∧((!v16)=true→(0≤v15o.1.2.2.1∧v15o.1.2.2.1≤v33∧v33≤len v15o.1.2.1)))))),(bif v12 then ([]:List UInt8) else (bif v16 then ([]:List UInt8) else (List.drop (Int.toNat v15o.1.2.2.1) (List.take (Int.toNat v33) v15o.1.2.1)))),((bif v12 then v11o.1 else (bif v16 then (v15o.1.1,v15o.1.2.1,v15o.1.2.2.1,(5:Int),()) else (v15o.1.1,v15o.1.2.1,(IntKind.wrap .i64 (v15o.1.2.2.1+v9)),v15o.1.2.2.2.1,()))),()))
def uU8 p0 p1:=(tD8 p0 p1).1
def sI5 p0 p1:=(tD8 p0 p1).2.1
def uC6 p0 p1:=(tD8 p0 p1).2.2
instance (p0 p1):Decidable (uU8 p0 p1):=by unfold uU8 tD8;dsimp only;infer_instance
theorem rB4:SK 44 (fnSpec [(0,(.box T85 (.val T85))),(1,vI)] vS [(0,(.box T85 (.val T85)))] (fun x=>uU8 x.1 x.2.1) (fun x=>sI5 x.1 x.2.1) (fun x=>uC6 x.1 x.2.1)):=fb Tryz.func44 44 [kb tK6,kb uU7,kb uU6] [] [] true [0]
def f28t (p0:List UInt8):Prop×((List UInt8)×Int×Int×Unit):=
 let v10o:=(qJ1 p0)
 let v12o:=(uC6 v10o.1 (1048576:Int))
 let v14:=(uC5 v12o.1)
 let v14o:=(vD9 v12o.1)
 let v16:=(v14 !=0)
 let v19o:=(tA3 v14o.1)
 let v20:=(decide ((tC0 v14o.1)<4))
 let v22:=(len p0)
 let v24:=(tC0 v19o.1)
 let v25:=(v22-v24)
 let v29:=(v25+4)
 let v33:=(List.take (Int.toNat v25) p0)
 let v35:=(!((List.drop (Int.toNat v25) (List.take (Int.toNat v29) p0))==(f67 v33)))
 (((rB1 p0)∧((uU8 v10o.1 (1048576:Int))∧((vG4 v12o.1)∧((!v16)=true→((vS2 v14o.1)∧((!v20)=true→((vS2 v19o.1)∧(InR (v22-v24)∧(InR (v25+4)∧((0≤v25∧v25≤v29∧v29≤len p0)∧((0≤v25∧v25≤len p0)∧((sH7 v33)∧((!v35)=true→InR (v25+4)))))))))))))),((bif v16 then ([]:List UInt8) else (bif v20 then ([]:List UInt8) else (bif v35 then ([]:List UInt8) else (sI5 v10o.1 (1048576:Int))))),(bif v16 then (0:Int) else (bif v20 then (0:Int) else (bif v35 then (0:Int) else (v25+4)))),(bif v16 then v14 else (bif v20 then (5:Int) else (bif v35 then (7:Int) else (0:Int)))),()))
def rB5 p0:=(f28t p0).1
def f28 p0:=(f28t p0).2
instance (p0):Decidable (rB5 p0):=by unfold rB5 f28t;dsimp only;infer_instance
theorem pP:SK 28 (sp1 vS (.tup (.cons vS (.cons vI (.cons vI .nl)))) rB5 f28):=fx (fun c=>{ c with wants:=[(10,[]),(19,[]),(20,[]),(44,[])] }) Tryz.func28 39 [kb rI8,kb uH8,kb tK6,kb rB4,kb qR6]
def sT5 (p0:D85)(p1:Int):Prop×(Unit)×(D85×Unit):=
 let v5o:=(vN1 p0)
 ((vS1 p0),(),((bif (uU5 p0) then (v5o.1.1,v5o.1.2.1,v5o.1.2.2.1,p1,()) else v5o.1),()))
def uB1 p0 p1:=(sT5 p0 p1).1
def pP0 p0 p1:=(sT5 p0 p1).2.1
def uM9 p0 p1:=(sT5 p0 p1).2.2
instance (p0 p1):Decidable (uB1 p0 p1):=by unfold uB1 sT5;dsimp only;infer_instance
theorem rB6:SK 77 (fnSpec [(0,(.box T85 (.val T85))),(1,vI)] (.tup .nl) [(0,(.box T85 (.val T85)))] (fun x=>uB1 x.1 x.2.1) (fun x=>pP0 x.1 x.2.1) (fun x=>uM9 x.1 x.2.1)):=fb Tryz.func77 10 [kb uU6] [] [] false [0]
def sI6 (p0:Unit)(p1:D85):List Prop×Int×(Unit×D85×Unit):=
 ([(wY7 p1 (65535:Int))],(vS3 p1 (65535:Int)),((),(wY9 p1 (65535:Int)).1,()))
def tK9 (p0:Unit)(p1:D85):Prop:=xI9 (sI6 p0 p1).1
def qB4 p0 p1:=(sI6 p0 p1).2.1
def sT6 p0 p1:=(sI6 p0 p1).2.2
instance (p0:Unit)(p1:D85):Decidable (tK9 p0 p1):=by
 unfold tK9 sI6;dsimp only[xI9]
 infer_instance
noncomputable def rB7:List (Fb Tryz.prog):=[kb uU7]
noncomputable def rS0:Ctx:={ Cx tys (Fb.l rB7) [] [] true 4 [0] [] with skip:=true,dead:=[999999] }
theorem rS1:CtxOk Tryz.prog rS0:=wJ3 uD9 (by kernel_rfl) (Fb.all rB7) rfl (by kernel_rfl)
@[reducible] def sI7:List (Nat×Sh):=[(0,(.ptrs true [some (990000,T85,[])])),(990000,(.box T85 (.val T85)))]
theorem qB5:SK 50 (xI sI7 vI sI7 (fun x=>tK9 x.1 x.2.1) (fun x=>qB4 x.1 x.2.1) (fun x=>sT6 x.1 x.2.1)):=wQ4 (ps:=sI7) (p:=fun x=>(sI6 x.1 x.2.1).1) (lv:=[(0,[0,990000]),(1,[0,1,990000])]) rS1 mixed Tryz.func50 (fun _ h=>h) (by kernel_rfl) (fun x=>by kernel_rfl)
abbrev vS4:Type:=(D85×(Unit×Unit)×Int×Int×Int×Int×Unit)
abbrev vG6:Type:=((List Int)×Int×Unit)
def uN (y:vS4)(x:vG6):Prop×Bool×vG6:=
 let a6:=x.1
 let a62:=x.2.1
 let v63:=(decide (a62<y.2.2.2.2.2.1))
 let v66:=([y.2.2.2.2.1]:List Int)
 ((v63=true→(((List.length a6+List.length v66:Nat):Int)≤4294967296∧InR (a62+1))),v63,((a6++v66),(a62+1),()))
def vU6 y x:=(uN y x).1
def uU9 y x:=(uN y x).2.1
def uB2 y x:=(uN y x).2.2
instance (y x):Decidable (vU6 y x):=by unfold vU6 uN;dsimp only;infer_instance
def uV (y:vS4)(x:vG6):(List Int):=
 x.1
def tL:List (Nat×Sh):=[(0,(.box T85 (.val T85))),(1,(.fn 50 (.cons (.ptrs true [some (0,T85,[])]) .nl))),(4,vI),(5,vI),(6,(.own (.int .i64) 2 false))]
def sT7:=li [(0,(.box T85 (.val T85))),(1,(.fn 50 (.cons (.ptrs true [some (0,T85,[])]) .nl))),(4,vI),(5,vI),(8,vI),(61,vI)] [(6,(.own (.int .i64) 2 false)),(62,vI)] uU9 uB2 vU6 (fun y x=>[ex 4 none tL (y.1,y.2.1,y.2.2.1,y.2.2.2.1,(uV y x),())]) [tL]
abbrev vQ:Type:=((Unit×Unit)×Int×Int×Unit)
abbrev vG7:Type:=(D85×(List Int)×Unit)
def tA4 (y:vQ)(x:vG7):Prop×Bool×vG7:=
 let a4:=y.2.1
 let a5:=y.2.2.1
 let a0:=x.1
 let a6:=x.2.1
 let v25:=(decide ((len a6)<(a4*a5)))
 let g0:=(bif v25 then (vD9 a0).1 else a0)
 let v30:=(bif v25 then ((uC5 a0)==0) else false)
 let v34:=(a4*a5)
 let v36:=(len a6)
 let v37:=(v34-v36)
 let v38:=(v37-1)
 let v39:=(vS3 g0 v38)
 let v39o:=(wY9 g0 v38)
 let v41:=(qB4 () v39o.1)
 let v41o:=(sT6 () v39o.1)
 let v44:=(decide ((len a6)>0))
 let v48:=(len a6)
 let v49:=(v48-1)
 let v54:=(bif v44 then ((nth a6 v49 (0:Int))==v41) else false)
 let m0:=(bif v54 then (uM9 v41o.2.1 (4:Int)).1 else v41o.2.1)
 let v58o:=(vD9 m0)
 let v59:=((uC5 m0)!=0)
 let y12:=(v58o.1,((),()),a4,a5,v41,(v39+1),())
 let x12:=(a6,(0:Int),())
 ((InR (a4*a5)∧((v25=true→(vG4 a0))∧(v30=true→(InR (a4*a5)∧(InR (v34-v36)∧(InR (v37-1)∧((wY7 g0 v38)∧((tK9 () v39o.1)∧((v44=true→InR (v48-1))∧((v44=true→InB v49 (len a6))∧((v54=true→(uB1 v41o.2.1 (4:Int)))∧((vG4 m0)∧((!v59)=true→(InR (v39+1)∧(xQ5 (uU9 y12) (uB2 y12) (vU6 y12) x12))))))))))))))),(v30&&(!v59)),(v58o.1,(uV y12 (zC4 (uU9 y12) (uB2 y12) x12)),()))
def uC7 y x:=(tA4 y x).1
def tD9 y x:=(tA4 y x).2.1
def uD7 y x:=(tA4 y x).2.2
instance (y x):Decidable (uC7 y x):=by unfold uC7 tA4;dsimp only;infer_instance
def tC1 (y:vQ)(x:vG7):D85:=
 let a4:=y.2.1
 let a5:=y.2.2.1
 let a0:=x.1
 let a6:=x.2.1
 let v25:=(decide ((len a6)<(a4*a5)))
 let g0:=(bif v25 then (vD9 a0).1 else a0)
 let v39o:=(wY9 g0 (((a4*a5)-(len a6))-1))
 let v41o:=(sT6 () v39o.1)
 let m0_1:=(bif (!(bif v25 then ((uC5 a0)==0) else false)) then g0 else (vD9 (bif (bif (decide ((len a6)>0)) then ((nth a6 ((len a6)-1) (0:Int))==(qB4 () v39o.1)) else false) then (uM9 v41o.2.1 (4:Int)).1 else v41o.2.1)).1)
 m0_1
def tC2 (y:vQ)(x:vG7):(List Int):=
 x.2.1
def tU0:List (Nat×Sh):=[(0,(.box T85 (.val T85))),(4,vI),(5,vI),(6,(.own (.int .i64) 2 false))]
def rB8:=li [(1,(.fn 50 (.cons (.ptrs true [some (0,T85,[])]) .nl))),(4,vI),(5,vI)] [(0,(.box T85 (.val T85))),(6,(.own (.int .i64) 2 false))] tD9 uD7 uC7 (fun y x=>[ex 2 none tU0 ((tC1 y x),y.2.1,y.2.2.1,(tC2 y x),())]) [tU0]
def sT8 (p0:D85)(p1:(Unit×Unit)):Prop×(Int×Int×(List Int)×Unit)×(D85×Unit):=
 let v10:=(vS3 p0 (256:Int))
 let v10o:=(wY9 p0 (256:Int))
 let v12:=(vS3 v10o.1 (256:Int))
 let v12o:=(wY9 v10o.1 (256:Int))
 let v17:=(!(Ty.eqb .bool (v10==0) (v12==0)))
 let y5:=(((),()),v10,v12,())
 let x5:=((bif v17 then (uM9 v12o.1 (4:Int)).1 else v12o.1),([]:List Int),())
 let e5:=(zC4 (tD9 y5) (uD7 y5) x5)
 let r5_2_0:=(tC1 y5 e5)
 let v70o:=(vD9 r5_2_0)
 let v71:=((uC5 r5_2_0)!=0)
 (((wY7 p0 (256:Int))∧((wY7 v10o.1 (256:Int))∧((v17=true→(uB1 v12o.1 (4:Int)))∧((xQ5 (tD9 y5) (uD7 y5) (uC7 y5) x5)∧(vG4 r5_2_0))))),((bif v71 then (0:Int) else v10),(bif v71 then (0:Int) else v12),(bif v71 then [] else (tC2 y5 e5)),()),((bif v71 then v70o.1 else v70o.1),()))
def tL0 p0 p1:=(sT8 p0 p1).1
def qR9 p0 p1:=(sT8 p0 p1).2.1
def rJ0 p0 p1:=(sT8 p0 p1).2.2
instance (p0 p1):Decidable (tL0 p0 p1):=by unfold tL0 sT8;dsimp only;infer_instance
theorem qB6:SK 49 (fnSpec [(0,(.box T85 (.val T85))),(1,(.fn 50 (.cons (.ptrs true [some (0,T85,[])]) .nl)))] (.tup (.cons vI (.cons vI (.cons (.own (.int .i64) 2 false) .nl)))) [(0,(.box T85 (.val T85)))] (fun x=>tL0 x.1 x.2.1) (fun x=>qR9 x.1 x.2.1) (fun x=>rJ0 x.1 x.2.1)):=fx (fun c=>{ c with wants:=[(19,[]),(50,[])] }) Tryz.func49 75 [kb uH8,kb uU7,kb qB5,kb rB6] [(5,rB8),(12,sT7)] [(27,[(4,0,67,2)])] false [0]
def sT9 (p0:D85):Prop×D24×(D85×Unit):=
 let s:=((),())
 let v9:=(qR9 p0 s)
 ((tL0 p0 s),(v9.1,v9.2.1,v9.2.2.1,()),((rJ0 p0 s).1,()))
def sI8 p0:=(sT9 p0).1
def pP1 p0:=(sT9 p0).2.1
def qJ3 p0:=(sT9 p0).2.2
instance (p0):Decidable (sI8 p0):=by unfold sI8 sT9;dsimp only;infer_instance
theorem qB7:SK 14 (fnSpec [(0,(.box T85 (.val T85)))] (.val T24) [(0,(.box T85 (.val T85)))] (fun x=>sI8 x.1) (fun x=>pP1 x.1) (fun x=>qJ3 x.1)):=fx (fun c=>{ c with wants:=[(49,[])] }) Tryz.func14 17 [kb qB6] [] [(3,[(4,0,200009,1005)]),(5,[(4,0,1005,400200)])] false [0]
def sI9 (p0:Unit)(p1:D85):List Prop×D45×(Unit×D85×Unit):=
 let v17o:=(wY9 p1 (65535:Int))
 let v17o_1:=(wY9 v17o.1 (65535:Int))
 let v17o_2:=(wY9 v17o_1.1 (65535:Int))
 ([InB (0:Int) 4,(wY7 p1 (65535:Int)),InB (1:Int) 4,(wY7 v17o.1 (65535:Int)),InB (2:Int) 4,(wY7 v17o_1.1 (65535:Int)),InB (3:Int) 4,(wY7 v17o_2.1 (65535:Int))],((vS3 p1 (65535:Int)),(vS3 v17o.1 (65535:Int)),(vS3 v17o_1.1 (65535:Int)),(vS3 v17o_2.1 (65535:Int)),()),((),(wY9 v17o_2.1 (65535:Int)).1,()))
def tL1 (p0:Unit)(p1:D85):Prop:=xI9 (sI9 p0 p1).1
def qB8 p0 p1:=(sI9 p0 p1).2.1
def sU p0 p1:=(sI9 p0 p1).2.2
instance (p0:Unit)(p1:D85):Decidable (tL1 p0 p1):=by
 unfold tL1 sI9;dsimp only[xI9]
 infer_instance
noncomputable def rB9:List (Fb Tryz.prog):=[kb uU7]
noncomputable def rS2:Ctx:={ Cx tys (Fb.l rB9) [] [] true 21 [0] [] with skip:=true,dead:=[999999] }
theorem rS3:CtxOk Tryz.prog rS2:=wJ3 uD9 (by kernel_rfl) (Fb.all rB9) rfl (by kernel_rfl)
@[reducible] def sJ:List (Nat×Sh):=[(0,(.ptrs true [some (990000,T85,[])])),(990000,(.box T85 (.val T85)))]
theorem qB9:SK 54 (xI sJ (.val T45) sJ (fun x=>tL1 x.1 x.2.1) (fun x=>qB8 x.1 x.2.1) (fun x=>sU x.1 x.2.1)):=wQ4 (ps:=sJ) (p:=fun x=>(sI9 x.1 x.2.1).1) (lv:=[(0,[0,1,990000]),(1,[0,1,2,990000]),(2,[0,1,2,9,10,11,990000]),(3,[0,1,2,9,10,11,12,990000]),(4,[0,1,2,4,9,10,11,990000]),(5,[0,1,2,9,10,11,990000]),(6,[0,1,2,9,10,11,990000]),(7,[0,1,990000])]) rS3 mixed Tryz.func54 (fun _ h=>h) (by kernel_rfl) (fun x=>by kernel_rfl)
abbrev vS5:Type:=(D85×(Unit×Unit)×Int×Int×D45×Int×Unit)
abbrev vG8:Type:=((List D45)×Int×Unit)
def uN0 (y:vS5)(x:vG8):Prop×Bool×vG8:=
 let a6:=x.1
 let a62:=x.2.1
 let v63:=(decide (a62<y.2.2.2.2.2.1))
 let v66:=([y.2.2.2.2.1]:List D45)
 ((v63=true→(((List.length a6+List.length v66:Nat):Int)≤4294967296∧InR (a62+1))),v63,((a6++v66),(a62+1),()))
def vU7 y x:=(uN0 y x).1
def uV0 y x:=(uN0 y x).2.1
def uB3 y x:=(uN0 y x).2.2
instance (y x):Decidable (vU7 y x):=by unfold vU7 uN0;dsimp only;infer_instance
def uV1 (y:vS5)(x:vG8):(List D45):=
 x.1
def tL2:List (Nat×Sh):=[(0,(.box T85 (.val T85))),(1,(.fn 54 (.cons (.ptrs true [some (0,T85,[])]) .nl))),(4,vI),(5,vI),(6,(.own T45 2 false))]
def sU0:=li [(0,(.box T85 (.val T85))),(1,(.fn 54 (.cons (.ptrs true [some (0,T85,[])]) .nl))),(4,vI),(5,vI),(8,(.box T45 (.val T45))),(61,vI)] [(6,(.own T45 2 false)),(62,vI)] uV0 uB3 vU7 (fun y x=>[ex 4 none tL2 (y.1,y.2.1,y.2.2.1,y.2.2.2.1,(uV1 y x),())]) [tL2]
abbrev vQ0:Type:=((Unit×Unit)×Int×Int×Unit)
abbrev vG9:Type:=(D85×(List D45)×Unit)
def tA5 (y:vQ0)(x:vG9):Prop×Bool×vG9:=
 let a4:=y.2.1
 let a5:=y.2.2.1
 let a0:=x.1
 let a6:=x.2.1
 let v25:=(decide ((len a6)<(a4*a5)))
 let g0:=(bif v25 then (vD9 a0).1 else a0)
 let v30:=(bif v25 then ((uC5 a0)==0) else false)
 let v34:=(a4*a5)
 let v36:=(len a6)
 let v37:=(v34-v36)
 let v38:=(v37-1)
 let v39:=(vS3 g0 v38)
 let v39o:=(wY9 g0 v38)
 let v41:=(qB8 () v39o.1)
 let v41o:=(sU () v39o.1)
 let v44:=(decide ((len a6)>0))
 let v48:=(len a6)
 let v49:=(v48-1)
 let v54:=(bif v44 then (Ty.eqb T45 (nth a6 v49 Z45) v41) else false)
 let m0:=(bif v54 then (uM9 v41o.2.1 (4:Int)).1 else v41o.2.1)
 let v58o:=(vD9 m0)
 let v59:=((uC5 m0)!=0)
 let y12:=(v58o.1,((),()),a4,a5,v41,(v39+1),())
 let x12:=(a6,(0:Int),())
 ((InR (a4*a5)∧((v25=true→(vG4 a0))∧(v30=true→(InR (a4*a5)∧(InR (v34-v36)∧(InR (v37-1)∧((wY7 g0 v38)∧((tL1 () v39o.1)∧((v44=true→InR (v48-1))∧((v44=true→InB v49 (len a6))∧((v54=true→(uB1 v41o.2.1 (4:Int)))∧((vG4 m0)∧((!v59)=true→(InR (v39+1)∧(xQ5 (uV0 y12) (uB3 y12) (vU7 y12) x12))))))))))))))),(v30&&(!v59)),(v58o.1,(uV1 y12 (zC4 (uV0 y12) (uB3 y12) x12)),()))
def uC8 y x:=(tA5 y x).1
def tE y x:=(tA5 y x).2.1
def uD8 y x:=(tA5 y x).2.2
instance (y x):Decidable (uC8 y x):=by unfold uC8 tA5;dsimp only;infer_instance
def tC3 (y:vQ0)(x:vG9):D85:=
 let a4:=y.2.1
 let a5:=y.2.2.1
 let a0:=x.1
 let a6:=x.2.1
 let v25:=(decide ((len a6)<(a4*a5)))
 let g0:=(bif v25 then (vD9 a0).1 else a0)
 let v39o:=(wY9 g0 (((a4*a5)-(len a6))-1))
 let v41o:=(sU () v39o.1)
 let m0_1:=(bif (!(bif v25 then ((uC5 a0)==0) else false)) then g0 else (vD9 (bif (bif (decide ((len a6)>0)) then (Ty.eqb T45 (nth a6 ((len a6)-1) Z45) (qB8 () v39o.1)) else false) then (uM9 v41o.2.1 (4:Int)).1 else v41o.2.1)).1)
 m0_1
def tC4 (y:vQ0)(x:vG9):(List D45):=
 x.2.1
def tU1:List (Nat×Sh):=[(0,(.box T85 (.val T85))),(4,vI),(5,vI),(6,(.own T45 2 false))]
def rC:=li [(1,(.fn 54 (.cons (.ptrs true [some (0,T85,[])]) .nl))),(4,vI),(5,vI)] [(0,(.box T85 (.val T85))),(6,(.own T45 2 false))] tE uD8 uC8 (fun y x=>[ex 2 none tU1 ((tC3 y x),y.2.1,y.2.2.1,(tC4 y x),())]) [tU1]
def sU1 (p0:D85)(p1:(Unit×Unit)):Prop×(Int×Int×(List D45)×Unit)×(D85×Unit):=
 let v10:=(vS3 p0 (256:Int))
 let v10o:=(wY9 p0 (256:Int))
 let v12:=(vS3 v10o.1 (256:Int))
 let v12o:=(wY9 v10o.1 (256:Int))
 let v17:=(!(Ty.eqb .bool (v10==0) (v12==0)))
 let y5:=(((),()),v10,v12,())
 let x5:=((bif v17 then (uM9 v12o.1 (4:Int)).1 else v12o.1),([]:List D45),())
 let e5:=(zC4 (tE y5) (uD8 y5) x5)
 let r5_2_0:=(tC3 y5 e5)
 let v70o:=(vD9 r5_2_0)
 let v71:=((uC5 r5_2_0)!=0)
 (((wY7 p0 (256:Int))∧((wY7 v10o.1 (256:Int))∧((v17=true→(uB1 v12o.1 (4:Int)))∧((xQ5 (tE y5) (uD8 y5) (uC8 y5) x5)∧(vG4 r5_2_0))))),((bif v71 then (0:Int) else v10),(bif v71 then (0:Int) else v12),(bif v71 then [] else (tC4 y5 e5)),()),((bif v71 then v70o.1 else v70o.1),()))
def tL3 p0 p1:=(sU1 p0 p1).1
def qS p0 p1:=(sU1 p0 p1).2.1
def rJ1 p0 p1:=(sU1 p0 p1).2.2
instance (p0 p1):Decidable (tL3 p0 p1):=by unfold tL3 sU1;dsimp only;infer_instance
theorem qC:SK 53 (fnSpec [(0,(.box T85 (.val T85))),(1,(.fn 54 (.cons (.ptrs true [some (0,T85,[])]) .nl)))] (.tup (.cons vI (.cons vI (.cons (.own T45 2 false) .nl)))) [(0,(.box T85 (.val T85)))] (fun x=>tL3 x.1 x.2.1) (fun x=>qS x.1 x.2.1) (fun x=>rJ1 x.1 x.2.1)):=fx (fun c=>{ c with wants:=[(19,[]),(54,[])] }) Tryz.func53 75 [kb uH8,kb uU7,kb qB9,kb rB6] [(5,rC),(12,sU0)] [(27,[(4,0,67,2)])] false [0]
def sU2 (p0:D85):Prop×D43×(D85×Unit):=
 let s:=((),())
 let v9:=(qS p0 s)
 ((tL3 p0 s),(v9.1,v9.2.1,v9.2.2.1,()),((rJ1 p0 s).1,()))
def sJ0 p0:=(sU2 p0).1
def pP2 p0:=(sU2 p0).2.1
def qJ4 p0:=(sU2 p0).2.2
instance (p0):Decidable (sJ0 p0):=by unfold sJ0 sU2;dsimp only;infer_instance
theorem qC0:SK 18 (fnSpec [(0,(.box T85 (.val T85)))] (.val T43) [(0,(.box T85 (.val T85)))] (fun x=>sJ0 x.1) (fun x=>pP2 x.1) (fun x=>qJ4 x.1)):=fx (fun c=>{ c with wants:=[(53,[])] }) Tryz.func18 17 [kb qC] [] [(3,[(4,0,200009,1005)]),(5,[(4,0,1005,400200)])] false [0]
def f29 (p0:D85):D28:=Ty.dflt T28
def qC1 (p0:D85):Prop:=False
instance (p0:D85):Decidable (qC1 p0):=isFalse fun h=>h
def pP3 (p0:D85):D85×Unit:=(p0,())
def qJ5:Am.Spec:=fnSpec [(0,(.box T85 (.val T85)))] (.val T28) [(0,(.box T85 (.val T85)))] (fun x=>qC1 x.1) (fun x=>f29 x.1) (fun x=>pP3 x.1)
theorem pP4:SpecOk Tryz.prog 29 qJ5:=wO3 Tryz.func29 (by kernel_rfl) (by decide)
def f8t (p0:List UInt8):Prop×(D28×Int×Unit):=
 let v15:=(decide ((len p0)>1048576))
 let v19:=(f27 p0 ([73,69,68,49]:List UInt8))
 let v23:=(!v19.2.1)
 let v27:=(f28 v19.1)
 let v32:=(v27.2.2.1 !=0)
 let v38:=(decide (v27.2.1<(len v19.1)))
 let v41o:=(qJ1 v27.1)
 let v43:=(f29 v41o.1)
 let v43o:=(pP3 v41o.1)
 let v45:=(qR8 v43o.1)
 let v47:=(v45 !=0)
 let v51:=(f24 v43)
 let v53:=(v51 !=0)
 let m2_1:=(bif v47 then ((0:Int),(0:Int),(0:Int),([]:List D52),(0:Int),((0:Int),(0:Int),([]:List Int),()),([]:List D80),([]:List D82),()) else (bif v53 then ((0:Int),(0:Int),(0:Int),([]:List D52),(0:Int),((0:Int),(0:Int),([]:List Int),()),([]:List D80),([]:List D82),()) else v43))
 let m2_3:=(bif v32 then ((0:Int),(0:Int),(0:Int),([]:List D52),(0:Int),((0:Int),(0:Int),([]:List Int),()),([]:List D80),([]:List D82),()) else (bif v38 then ((0:Int),(0:Int),(0:Int),([]:List D52),(0:Int),((0:Int),(0:Int),([]:List Int),()),([]:List D80),([]:List D82),()) else m2_1))
 let m2_5:=(bif v15 then ((0:Int),(0:Int),(0:Int),([]:List D52),(0:Int),((0:Int),(0:Int),([]:List Int),()),([]:List D80),([]:List D82),()) else (bif v23 then ((0:Int),(0:Int),(0:Int),([]:List D52),(0:Int),((0:Int),(0:Int),([]:List Int),()),([]:List D80),([]:List D82),()) else m2_3))
 (((!v15)=true→((sO9 p0 ([73,69,68,49]:List UInt8))∧((!v23)=true→((rB5 v19.1)∧((!v32)=true→((!v38)=true→((rB1 v27.1)∧((qC1 v41o.1)∧((tK7 v43o.1)∧((!v47)=true→(tJ6 v43))))))))))),(m2_5,(bif v15 then (3:Int) else (bif v23 then (4:Int) else (bif v32 then v27.2.2.1 else (bif v38 then (6:Int) else (bif v47 then v45 else (bif v53 then v51 else (0:Int))))))),()))
def sJ1 p0:=(f8t p0).1
def f8 p0:=(f8t p0).2
instance (p0):Decidable (sJ1 p0):=by unfold sJ1 f8t;dsimp only;infer_instance
def pI0:=sp1 vS (.tup (.cons (.val T28) (.cons vI .nl))) sJ1 f8
theorem pT:SK 8 (sp1 vS (.tup (.cons (.val T28) (.cons vI .nl))) sJ1 f8):=fx (fun c=>{ c with wants:=[(10,[]),(15,[]),(29,[])] }) Tryz.func8 57 [kb rI8,kb qB1,kb qR4,kb qB2,kb pP,kb pP4]
noncomputable def kd {n:Nat}{ps:List (Nat×Sh)}{rs:Sh}{os:List (Nat×Sh)}{ok:zB3 ps→Prop}[DecidablePred ok]{F:zB3 ps→rs.den}{o:zB3 ps→zW4 os}(h:SpecOk Tryz.prog n (fnSpec ps rs os ok F o)):Fb Tryz.prog:=⟨n,wC0 ps rs os ok F o,wT7 h⟩
noncomputable def qC2:List (Fb Tryz.prog):=[kd rI8,kd rB4,kd uH8,kd tK6]
noncomputable def qJ6:Ctx:={ Cx tys (Fb.l qC2) [] [] true 39 [] [] with skip:=true,dead:=[999999],closed:=true }
theorem qJ7:CtxOk Tryz.prog qJ6:=wJ3 uD9 (by kernel_rfl) (Fb.all qC2) rfl (by kernel_rfl)
theorem pI1:SK 28 (fnSpec [(0,vS)] (.tup (.cons vS (.cons vI (.cons vI .nl)))) [] (fun x=>x=([],())) (fun _=>([],0,5,())) (fun _=>())):=wR6 (lv:=[(0,[0]),(1,[0,5]),(2,[0,5,6]),(3,[0,5,6,7]),(4,[0,5,6,7,16]),(5,[2,3,4]),(6,[0,5,6,20]),(7,[2,3,4]),(8,[0,6,8]),(9,[6,8,35]),(10,[2,3,4]),(11,[2,3,4])]) (ps:=[(0,vS)]) (rs:=(.tup (.cons vS (.cons vI (.cons vI .nl))))) (os:=[]) (v:=([],0,5,())) (z:=()) (p:=[]) qJ7 mixed Tryz.func28 ([],()) trivial (by kernel_rfl) (by kernel_rfl)
noncomputable def qS0:List (Fb Tryz.prog):=[kd qB2]
noncomputable def pI2:Ctx:={ Cx tys (Fb.l qS0) [] [] true 57 [] [] with skip:=true,dead:=[999999],closed:=true }
theorem pI3:CtxOk Tryz.prog pI2:=wJ3 uD9 (by kernel_rfl) (Fb.all qS0) rfl (by kernel_rfl)
theorem pP5:SK 8 (fnSpec [(0,vS)] (.tup (.cons (.val T28) (.cons vI .nl))) [] (fun x=>x=([73,69,68,50],())) (fun _=>((Ty.dflt T28),4,())) (fun _=>())):=wR6 (lv:=[(0,[0,2]),(1,[0,2,15]),(2,[2,3]),(3,[2,4,5]),(4,[2,4,23]),(5,[2,3]),(6,[2,4,6,7,8]),(7,[2,4,6,7,8,32]),(8,[2,3]),(9,[2,6,38]),(10,[2,3]),(11,[2,9]),(12,[2,9,10]),(13,[2,10,11]),(14,[2,10,11,47]),(15,[2,3]),(16,[2,10,12]),(17,[2,10,12,53]),(18,[2,3]),(19,[2,3])]) (ps:=[(0,vS)]) (rs:=(.tup (.cons (.val T28) (.cons vI .nl)))) (os:=[]) (v:=((Ty.dflt T28),4,())) (z:=()) (p:=[]) pI3 mixed Tryz.func8 ([73,69,68,50],()) trivial (by kernel_rfl) (by kernel_rfl)
noncomputable def qS1:List (Fb Tryz.prog):=[kd qB2,kd pI1]
noncomputable def pI4:Ctx:={ Cx tys (Fb.l qS1) [] [] true 57 [] [] with skip:=true,dead:=[999999],closed:=true }
theorem pI5:CtxOk Tryz.prog pI4:=wJ3 uD9 (by kernel_rfl) (Fb.all qS1) rfl (by kernel_rfl)
theorem pP6:SK 8 (fnSpec [(0,vS)] (.tup (.cons (.val T28) (.cons vI .nl))) [] (fun x=>x=([73,69,68,49],())) (fun _=>((Ty.dflt T28),5,())) (fun _=>())):=wR6 (lv:=[(0,[0,2]),(1,[0,2,15]),(2,[2,3]),(3,[2,4,5]),(4,[2,4,23]),(5,[2,3]),(6,[2,4,6,7,8]),(7,[2,4,6,7,8,32]),(8,[2,3]),(9,[2,6,38]),(10,[2,3]),(11,[2,9]),(12,[2,9,10]),(13,[2,10,11]),(14,[2,10,11,47]),(15,[2,3]),(16,[2,10,12]),(17,[2,10,12,53]),(18,[2,3]),(19,[2,3])]) (ps:=[(0,vS)]) (rs:=(.tup (.cons (.val T28) (.cons vI .nl)))) (os:=[]) (v:=((Ty.dflt T28),5,())) (z:=()) (p:=[]) pI5 mixed Tryz.func8 ([73,69,68,49],()) trivial (by kernel_rfl) (by kernel_rfl)
def pI6:Am.Spec:=fnSpec [] vB [] (fun _=>True) (fun _=>true) (fun _=>())
def qJ8:Prop:=True
instance:Decidable qJ8:=isTrue trivial
def f7:Bool:=true
noncomputable def pP7:List (Fb Tryz.prog):=[kd qA5,kd qA2,kd rI8,kd qC0,kd qB7,kd uH8,kd pP5,kd pP6]
noncomputable def pP8:Ctx:={ Cx tys (Fb.l pP7) [] [] true 62 [] [] with skip:=true,dead:=[999999],closed:=true }
theorem pP9:CtxOk Tryz.prog pP8:=wJ3 uD9 (by kernel_rfl) (Fb.all pP7) rfl (by kernel_rfl)
theorem pT0:SK 7 (fnSpec [] vB [] (fun _=>qJ8) (fun _=>f7) (fun _=>())):=wQ1 (lv:=[(0,[]),(1,[1]),(2,[2]),(3,[2,3,4]),(4,[2,3,4]),(5,[2,3,4]),(6,[2,37]),(7,[0]),(8,[2,6]),(9,[2,6,8]),(10,[0])]) (rs:=vB) (p:=[]) (v:=true) pP9 mixed Tryz.func7 (by kernel_rfl) (by kernel_rfl) trivial
def f5t (p0:D28)(p1:D68)(p2:List UInt8):Prop×Bool:=
 let v19:=(f6 p0)
 let v23:=(v19.2.1 !=0)
 let v27:=(decide ((len v19.1)<4))
 let v32:=(IntKind.wrap .u64 (len v19.1))
 let v34:=(IntKind.wrap .i64 (Int.tmod p1.1 v32))
 let v40:=((wT5 v19.1 v34)!=p1.2.1)
 let v44:=(List.take (Int.toNat v34) v19.1)
 let v48:=(xC3 ([p1.2.1]:List Int))
 let v49:=(v44++v48)
 let v52:=(v34+1)
 let v53:=(List.drop (Int.toNat v52) v19.1)
 let v54:=(v49++v53)
 let v59:=((f8 v54).2.1==0)
 let v63:=(List.take (Int.toNat v34) v19.1)
 let v68:=((f8 v63).2.1==0)
 let v71:=(decide ((len p2)>0))
 let v73:=(len v19.1)
 let v75:=(len p2)
 let v81:=(v19.1++p2)
 let v87:=((f8 v81).2.1 !=(bif (decide ((v73+v75)>1048576)) then (3:Int) else (6:Int)))
 (((rG5 p0)∧((v23=true→qJ8)∧((!v23)=true→((!v27)=true→(v32≠0∧(InB v34 (len v19.1)∧((v40=true→((0≤v34∧v34≤len v19.1)∧(((List.length v44+List.length v48:Nat):Int)≤9223372036854775807∧(InR (v34+1)∧((0≤v52∧v52≤len v19.1)∧(((List.length v49+List.length v53:Nat):Int)≤9223372036854775807∧(sJ1 v54)))))))∧((bif v40 then (!v59) else true)=true→((0≤v34∧v34≤len v19.1)∧((sJ1 v63)∧((!v68)=true→((v71=true→(InR (v73+v75)∧(((List.length v19.1+List.length p2:Nat):Int)≤9223372036854775807∧(sJ1 v81))))∧((bif v71 then (!v87) else true)=true→qJ8))))))))))))),(bif v23 then f7 else (bif v27 then false else (bif (v59&&v40) then false else (bif v68 then false else (bif (v87&&v71) then false else f7))))))
def f5_ok p0 p1 p2:=(f5t p0 p1 p2).1
def f5 p0 p1 p2:=(f5t p0 p1 p2).2
instance (p0 p1 p2):Decidable (f5_ok p0 p1 p2):=by unfold f5_ok f5t;dsimp only;infer_instance
def pI7:=sp3 (.val T28) (.val T68) vS vB f5_ok f5
def pQ:=Cy [(6,pI),(7,pI6),(8,pI0)] [] [] 89
theorem f5_is:SK 5 pI7:=fq (c:=pQ) Tryz.func5 ⟨pS9,pT0,pT,trivial⟩
end Go.Proofs.YtmbjipigimohbaaGreatDoor.Am
