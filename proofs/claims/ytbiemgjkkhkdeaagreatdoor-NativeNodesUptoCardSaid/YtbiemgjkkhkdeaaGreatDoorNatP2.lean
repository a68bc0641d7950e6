/- Printed by program, part 2. No condition. -/
import Derived.Test.YtbiemgjkkhkdeaaGreatDoorNatP1
set_option linter.unusedVariables false
set_option synthInstance.maxSize 4000
set_option synthInstance.maxHeartbeats 400000
namespace Go.Proofs.YtbiemgjkkhkdeaaGreatDoor.Am
open Go Go.Am Go.Proofs
abbrev uL3:Type:=(D52×(List D111)×Int×Unit)
abbrev vZ:Type:=((List UInt8)×Int×Unit)
def tE6 (y:uL3)(x:vZ):Prop×Bool×vZ:=
 let a16:=y.2.1
 let a3:=x.1
 let a18:=x.2.1
 let v19:=(decide (a18<y.2.2.1))
 let v20:=(nth a16 a18 Z111)
 let v36:=([v20.1,v20.2.1.1,v20.2.1.2.1,v20.2.1.2.2.1,v20.2.1.2.2.2.1]:List Int)
 let v37:=(f51 v36)
 ((v19=true→(InB a18 (len a16)∧((vD0 v36)∧(((List.length a3+List.length v37:Nat):Int)≤4294967296∧InR (a18+1))))),v19,((a3++v37),(a18+1),()))
def vW6 y x:=(tE6 y x).1
def vQ5 y x:=(tE6 y x).2.1
def vC2 y x:=(tE6 y x).2.2
instance (y x):Decidable (vW6 y x):=by unfold vW6 tE6;dsimp only;infer_instance
def uV7 (y:uL3)(x:vZ):(List UInt8):=
 x.1
def tJ7:List (Nat×Sh):=[(1,(.box T52 (.val T52))),(3,(.bld 97 5 3))]
def tZ:=li [(1,(.box T52 (.val T52))),(16,(.val (.sl T111))),(17,vI)] [(3,(.bld 97 5 3)),(18,vI)] vQ5 vC2 vW6 (fun y x=>[ex 2 none tJ7 (y.1,(uV7 y x),())]) [tJ7]
abbrev uC2:Type:=((List D114)×Int×Int×(List D106)×Unit)
abbrev vT2:Type:=((List UInt8)×Int×Unit)
def uS8 (y:uC2)(x:vT2):Prop×Bool×vT2:=
 let a3:=x.1
 let a59:=x.2.1
 let v60:=(decide (a59<3))
 let v61:=(nth y.2.2.2.1 a59 Z106)
 let v66:=([v61.1,v61.2.1]:List Int)
 let v67:=(f51 v66)
 ((v60=true→(InB a59 3∧((vD0 v66)∧(((List.length a3+List.length v67:Nat):Int)≤4294967296∧InR (a59+1))))),v60,((a3++v67),(a59+1),()))
def vR7 y x:=(uS8 y x).1
def vT3 y x:=(uS8 y x).2.1
def vF3 y x:=(uS8 y x).2.2
instance (y x):Decidable (vR7 y x):=by unfold vR7 uS8;dsimp only;infer_instance
def uQ5 (y:uC2)(x:vT2):(List UInt8):=
 x.1
def tB3:List (Nat×Sh):=[(3,(.bld 97 5 3)),(46,(.val (.sl T114))),(47,vI),(48,vI)]
def tT3:=li [(46,(.val (.sl T114))),(47,vI),(48,vI),(58,(.val (.arr 3 T106)))] [(3,(.bld 97 5 3)),(59,vI)] vT3 vF3 vR7 (fun y x=>[ex 6 none tB3 ((uQ5 y x),y.1,y.2.1,y.2.2.1,())]) [tB3]
abbrev uC3:Type:=((List D114)×Int×Unit)
abbrev vT4:Type:=((List UInt8)×Int×Unit)
def uS9 (y:uC3)(x:vT4):Prop×Bool×vT4:=
 let a46:=y.1
 let a47:=y.2.1
 let a3:=x.1
 let a48:=x.2.1
 let v49:=(decide (a48<a47))
 let v50:=(nth a46 a48 Z114)
 let v54:=([v50.1]:List Int)
 let v55:=(f51 v54)
 let y14:=(a46,a47,a48,v50.2.1,())
 let x14:=((a3++v55),(0:Int),())
 ((v49=true→(InB a48 (len a46)∧((vD0 v54)∧(((List.length a3+List.length v55:Nat):Int)≤4294967296∧((xQ5 (vT3 y14) (vF3 y14) (vR7 y14) x14)∧InR (a48+1)))))),v49,((uQ5 y14 (zC5 (vT3 y14) (vF3 y14) x14)),(a48+1),()))
def vM2 y x:=(uS9 y x).1
def vH3 y x:=(uS9 y x).2.1
def wZ4 y x:=(uS9 y x).2.2
instance (y x):Decidable (vM2 y x):=by unfold vM2 uS9;dsimp only;infer_instance
def uQ6 (y:uC3)(x:vT4):(List UInt8):=
 x.1
def tT4:=li [(46,(.val (.sl T114))),(47,vI)] [(3,(.bld 97 5 3)),(48,vI)] vH3 wZ4 vM2 (fun y x=>[ex 4 none [(3,(.bld 97 5 3))] ((uQ6 y x),())]) [[(3,(.bld 97 5 3))]]
def f55t (p0:D52):Prop×(List UInt8):=
 let v12:=(len p0.2.2.2.2.2.2.2.2.2.2.2.2.2.2.2.2.2.1)
 let v13:=(f56 v12)
 let y4:=(p0,p0.2.2.2.2.2.2.2.2.2.2.2.2.2.2.2.2.2.1,(len p0.2.2.2.2.2.2.2.2.2.2.2.2.2.2.2.2.2.1),())
 let x4:=((([]:List UInt8)++v13),(0:Int),())
 let r4_2_0:=(uV7 y4 (zC5 (vQ5 y4) (vC2 y4) x4))
 let v42:=(len p0.2.2.2.2.2.2.2.2.2.2.2.2.2.2.2.2.2.2.1)
 let v43:=(f56 v42)
 let y10:=(p0.2.2.2.2.2.2.2.2.2.2.2.2.2.2.2.2.2.2.1,(len p0.2.2.2.2.2.2.2.2.2.2.2.2.2.2.2.2.2.2.1),())
 let x10:=((r4_2_0++v43),(0:Int),())
 (((vL6 v12)∧(((List.length ([]:List UInt8)+List.length v13:Nat):Int)≤4294967296∧((xQ5 (vQ5 y4) (vC2 y4) (vW6 y4) x4)∧((vL6 v42)∧(((List.length r4_2_0+List.length v43:Nat):Int)≤4294967296∧(xQ5 (vH3 y10) (wZ4 y10) (vM2 y10) x10)))))),(uQ6 y10 (zC5 (vH3 y10) (wZ4 y10) x10)))
def tJ8 p0:=(f55t p0).1
def f55 p0:=(f55t p0).2
instance (p0):Decidable (tJ8 p0):=by unfold tJ8 f55t;dsimp only;infer_instance
theorem sR2:SK 55 (sp1 (.val T52) vS tJ8 f55):=fy (fun c=>{ c with blds:=[(97,5,50,57)] }) Tryz.func55 72 [kb sK1,kb tH8] [(4,tZ),(10,tT4),(14,tT3)]
abbrev uC4:Type:=((List D106)×Int×Unit)
abbrev vT5:Type:=((List UInt8)×Int×Unit)
def uT (y:uC4)(x:vT5):Prop×Bool×vT5:=
 let a136:=y.1
 let a3:=x.1
 let a138:=x.2.1
 let v139:=(decide (a138<y.2.1))
 let v140:=(nth a136 a138 Z106)
 let v146:=([v140.1,v140.2.1]:List Int)
 let v147:=(f51 v146)
 ((v139=true→(InB a138 (len a136)∧((vD0 v146)∧(((List.length a3+List.length v147:Nat):Int)≤4294967296∧InR (a138+1))))),v139,((a3++v147),(a138+1),()))
def vW7 y x:=(uT y x).1
def uC5 y x:=(uT y x).2.1
def vP1 y x:=(uT y x).2.2
instance (y x):Decidable (vW7 y x):=by unfold vW7 uT;dsimp only;infer_instance
def uC6 (y:uC4)(x:vT5):(List UInt8):=
 x.1
def tT5:=li [(136,(.val (.sl T106))),(137,vI)] [(3,(.bld 97 5 3)),(138,vI)] uC5 vP1 vW7 (fun y x=>[ex 2 none [(3,(.bld 97 5 3))] ((uC6 y x),())]) [[(3,(.bld 97 5 3))]]
def f20t (p0:D52):Prop×(List UInt8):=
 let v12:=([p0.1,p0.2.1,p0.2.2.1]:List Int)
 let v13:=(f51 v12)
 let b3:=(([]:List UInt8)++v13)
 let v17:=(f52 p0.2.2.2.1)
 let b3_1:=(b3++v17)
 let v25:=([p0.2.2.2.2.1,p0.2.2.2.2.2.1,p0.2.2.2.2.2.2.1]:List Bool)
 let v26:=(f53 v25)
 let b3_2:=(b3_1++v26)
 let v32:=([p0.2.2.2.2.2.2.2.1,p0.2.2.2.2.2.2.2.2.1]:List Int)
 let v33:=(f51 v32)
 let b3_3:=(b3_2++v33)
 let v37:=(f8 p0.2.2.2.2.2.2.2.2.2.1)
 let b3_4:=(b3_3++v37)
 let v59:=([p0.2.2.2.2.2.2.2.2.2.2.1.1,p0.2.2.2.2.2.2.2.2.2.2.1.2.1,p0.2.2.2.2.2.2.2.2.2.2.1.2.2.1,p0.2.2.2.2.2.2.2.2.2.2.1.2.2.2.1,p0.2.2.2.2.2.2.2.2.2.2.1.2.2.2.2.1,p0.2.2.2.2.2.2.2.2.2.2.1.2.2.2.2.2.1,p0.2.2.2.2.2.2.2.2.2.2.2.1]:List Int)
 let v60:=(f51 v59)
 let b3_5:=(b3_4++v60)
 let v64:=(f6 p0.2.2.2.2.2.2.2.2.2.2.2.2.1)
 let b3_6:=(b3_5++v64)
 let v80:=([p0.2.2.2.2.2.2.2.2.2.2.2.2.2.1.1,p0.2.2.2.2.2.2.2.2.2.2.2.2.2.1.2.1,p0.2.2.2.2.2.2.2.2.2.2.2.2.2.1.2.2.1,p0.2.2.2.2.2.2.2.2.2.2.2.2.2.1.2.2.2.1,p0.2.2.2.2.2.2.2.2.2.2.2.2.2.2.1]:List Int)
 let v81:=(f51 v80)
 let b3_7:=(b3_6++v81)
 let v85:=(f54 p0.2.2.2.2.2.2.2.2.2.2.2.2.2.2.2.1)
 let b3_8:=(b3_7++v85)
 let v89:=([p0.2.2.2.2.2.2.2.2.2.2.2.2.2.2.2.2.1]:List Int)
 let v90:=(f51 v89)
 let b3_9:=(b3_8++v90)
 let v93:=(f55 p0)
 let b3_10:=(b3_9++v93)
 let v103:=([p0.2.2.2.2.2.2.2.2.2.2.2.2.2.2.2.2.2.2.2.1,p0.2.2.2.2.2.2.2.2.2.2.2.2.2.2.2.2.2.2.2.2.1,p0.2.2.2.2.2.2.2.2.2.2.2.2.2.2.2.2.2.2.2.2.2.1,p0.2.2.2.2.2.2.2.2.2.2.2.2.2.2.2.2.2.2.2.2.2.2.1]:List Int)
 let v104:=(f51 v103)
 let b3_11:=(b3_10++v104)
 let v108:=(f52 p0.2.2.2.2.2.2.2.2.2.2.2.2.2.2.2.2.2.2.2.2.2.2.2.1)
 let b3_12:=(b3_11++v108)
 let v125:=([p0.2.2.2.2.2.2.2.2.2.2.2.2.2.2.2.2.2.2.2.2.2.2.2.2.1,p0.2.2.2.2.2.2.2.2.2.2.2.2.2.2.2.2.2.2.2.2.2.2.2.2.2.1,p0.2.2.2.2.2.2.2.2.2.2.2.2.2.2.2.2.2.2.2.2.2.2.2.2.2.2.1,p0.2.2.2.2.2.2.2.2.2.2.2.2.2.2.2.2.2.2.2.2.2.2.2.2.2.2.2.1.1,p0.2.2.2.2.2.2.2.2.2.2.2.2.2.2.2.2.2.2.2.2.2.2.2.2.2.2.2.1.2.1,p0.2.2.2.2.2.2.2.2.2.2.2.2.2.2.2.2.2.2.2.2.2.2.2.2.2.2.2.1.2.2.1]:List Int)
 let v126:=(f51 v125)
 let b3_13:=(b3_12++v126)
 let v131:=(len p0.2.2.2.2.2.2.2.2.2.2.2.2.2.2.2.2.2.2.2.2.2.2.2.2.2.2.2.1.2.2.2.1)
 let v132:=(f56 v131)
 let y18:=(p0.2.2.2.2.2.2.2.2.2.2.2.2.2.2.2.2.2.2.2.2.2.2.2.2.2.2.2.1.2.2.2.1,(len p0.2.2.2.2.2.2.2.2.2.2.2.2.2.2.2.2.2.2.2.2.2.2.2.2.2.2.2.1.2.2.2.1),())
 let x18:=((b3_13++v132),(0:Int),())
 (((vD0 v12)∧(((List.length ([]:List UInt8)+List.length v13:Nat):Int)≤4294967296∧((tB1 p0.2.2.2.1)∧(((List.length b3+List.length v17:Nat):Int)≤4294967296∧((tB2 v25)∧(((List.length b3_1+List.length v26:Nat):Int)≤4294967296∧((vD0 v32)∧(((List.length b3_2+List.length v33:Nat):Int)≤4294967296∧((tX7 p0.2.2.2.2.2.2.2.2.2.1)∧(((List.length b3_3+List.length v37:Nat):Int)≤4294967296∧((vD0 v59)∧(((List.length b3_4+List.length v60:Nat):Int)≤4294967296∧((tX3 p0.2.2.2.2.2.2.2.2.2.2.2.2.1)∧(((List.length b3_5+List.length v64:Nat):Int)≤4294967296∧((vD0 v80)∧(((List.length b3_6+List.length v81:Nat):Int)≤4294967296∧((tJ6 p0.2.2.2.2.2.2.2.2.2.2.2.2.2.2.2.1)∧(((List.length b3_7+List.length v85:Nat):Int)≤4294967296∧((vD0 v89)∧(((List.length b3_8+List.length v90:Nat):Int)≤4294967296∧((tJ8 p0)∧(((List.length b3_9+List.length v93:Nat):Int)≤4294967296∧((vD0 v103)∧(((List.length b3_10+List.length v104:Nat):Int)≤4294967296∧((tB1 p0.2.2.2.2.2.2.2.2.2.2.2.2.2.2.2.2.2.2.2.2.2.2.2.1)∧(((List.length b3_11+List.length v108:Nat):Int)≤4294967296∧((vD0 v125)∧(((List.length b3_12+List.length v126:Nat):Int)≤4294967296∧((vL6 v131)∧(((List.length b3_13+List.length v132:Nat):Int)≤4294967296∧(xQ5 (uC5 y18) (vP1 y18) (vW7 y18) x18))))))))))))))))))))))))))))))),(uC6 y18 (zC5 (uC5 y18) (vP1 y18) x18)))
def uQ7 p0:=(f20t p0).1
def f20 p0:=(f20t p0).2
instance (p0):Decidable (uQ7 p0):=by unfold uQ7 f20t;dsimp only;infer_instance
def sH:=sp1 (.val T52) vS uQ7 f20
theorem sR3:SK 20 (sp1 (.val T52) vS uQ7 f20):=fy (fun c=>{ c with blds:=[(97,5,50,57)] }) Tryz.func20 151 [kb sQ2,kb sQ6,kb sK1,kb sR,kb sR0,kb sR1,kb sR2,kb tH8] [(18,tT5)]
def sN (p0:Int)(p1:Int)(p2:Int):Prop×Int:=
 (True,(wQ2 p2 (wQ1 p0 p1)))
def tE7 p0 p1 p2:=(sN p0 p1 p2).1
def f128 p0 p1 p2:=(sN p0 p1 p2).2
instance (p0 p1 p2):Decidable (tE7 p0 p1 p2):=by unfold tE7 sN;dsimp only;infer_instance
theorem sN0:SK 128 (sp3 vI vI vI vI tE7 f128):=fb Tryz.func128 12
def sN1 (p0:Int):Prop×Int:=
 ((tE7 p0 (0:Int) (65535:Int)),(f128 p0 (0:Int) (65535:Int)))
def uJ6 p0:=(sN1 p0).1
def f113 p0:=(sN1 p0).2
instance (p0):Decidable (uJ6 p0):=by unfold uJ6 sN1;dsimp only;infer_instance
theorem sN2:SK 113 (sp1 vI vI uJ6 f113):=fb Tryz.func113 5 [kb sN0]
def sN3 (p0:D45):Prop×D45:=
 (((uJ6 p0.1)∧((uJ6 p0.2.1)∧((uJ6 p0.2.2.1)∧(uJ6 p0.2.2.2.1)))),((f113 p0.1),(f113 p0.2.1),(f113 p0.2.2.1),(f113 p0.2.2.2.1),()))
def tE8 p0:=(sN3 p0).1
def f101 p0:=(sN3 p0).2
instance (p0):Decidable (tE8 p0):=by unfold tE8 sN3;dsimp only;infer_instance
theorem sN4:SK 101 (sp1 (.val T45) (.val T45) tE8 f101):=fb Tryz.func101 16 [kb sN2]
def f79t (p0:D45):Prop×Bool:=
 ((tE8 p0),(Ty.eqb T45 (f101 p0) p0))
def tJ9 p0:=(f79t p0).1
def f79 p0:=(f79t p0).2
instance (p0):Decidable (tJ9 p0):=by unfold tJ9 f79t;dsimp only;infer_instance
theorem sR4:SK 79 (sp1 (.val T45) vB tJ9 f79):=fb Tryz.func79 7 [kb sN4]
abbrev vZ0:Type:=(D23×Unit)
abbrev vQ6:Type:=(Int×Unit)
def uO5 (y:vZ0)(x:vQ6):Prop×Bool×vQ6×Bool×Bool:=
 let a1:=y.1
 let a3:=x.1
 let v44:=(decide (a3<(len a1.2.2.1)))
 let v50:=(nth a1.2.2.1 a3 Z45)
 let v53:=(!(f79 v50))
 ((v44=true→(InB a3 (len a1.2.2.1)∧((tJ9 v50)∧((!v53)=true→InR (a3+1))))),(v44&&(!v53)),((a3+1),()),(v44&&v53),(!v44))
def vW8 y x:=(uO5 y x).1
def uL4 y x:=(uO5 y x).2.1
def vT6 y x:=(uO5 y x).2.2.1
def tK y x:=(uO5 y x).2.2.2.1
def tZ0 y x:=(uO5 y x).2.2.2.2
instance (y x):Decidable (vW8 y x):=by unfold vW8 uO5;dsimp only;infer_instance
def uV8 (y:vZ0)(x:vQ6):Int:=
 (2:Int)
def tZ1:=li [(1,(.box T23 (.val T23)))] [(3,vI)] uL4 vT6 vW8 (fun y x=>[ex 1 (some (tK y x)) [(2,vI)] ((uV8 y x),()),ex 2 (some (tZ0 y x)) [] ()]) [[(2,vI)],[]]
def f28t (p0:D23):Prop×Int:=
 let v21:=(bif (bif (bif (decide (p0.1<0)) then true else (decide (p0.1>256))) then true else (decide (p0.2.1<0))) then true else (decide (p0.2.1>256)))
 let v28:=(!(Ty.eqb .bool (p0.1==0) (p0.2.1==0)))
 let v39:=(bif v28 then true else ((len p0.2.2.1)!=(p0.1*p0.2.1)))
 let y6:=(p0,())
 let x6:=((0:Int),())
 let e6:=(zC5 (uL4 y6) (vT6 y6) x6)
 (((!v21)=true→(((!v28)=true→InR (p0.1*p0.2.1))∧((!v39)=true→(xQ5 (uL4 y6) (vT6 y6) (vW8 y6) x6)))),(bif v21 then (15:Int) else (bif v39 then (15:Int) else (bif (tK y6 e6) then (uV8 y6 e6) else (0:Int)))))
def tK0 p0:=(f28t p0).1
def f28 p0:=(f28t p0).2
instance (p0):Decidable (tK0 p0):=by unfold tK0 f28t;dsimp only;infer_instance
theorem sR5:SK 28 (sp1 (.val T23) vI tK0 f28):=fb Tryz.func28 54 [kb sR4] [(6,tZ1)]
abbrev uF6:Type:=(Unit)
abbrev vU8:Type:=(Int×(List UInt8)×Unit)
def tE9 (y:uF6)(x:vU8):Prop×Bool×vU8:=
 let a0:=x.1
 let a3:=x.2.1
 let v5:=(decide (a0≥128))
 let v12:=(xC8 ([(IntKind.wrap .u8 (ior .u64 (wS9 .u64 a0 (127:Int)) (128:Int)))]:List Int))
 ((v5=true→((List.length a3+List.length v12:Nat):Int)≤9223372036854775807),v5,((wT1 a0 (7:Int) 64),(a3++v12),()))
def uC7 y x:=(tE9 y x).1
def vN8 y x:=(tE9 y x).2.1
def vF4 y x:=(tE9 y x).2.2
instance (y x):Decidable (uC7 y x):=by unfold uC7 tE9;dsimp only;infer_instance
def uV9 (y:uF6)(x:vU8):Int:=
 x.1
def uW (y:uF6)(x:vU8):(List UInt8):=
 x.2.1
def tK1:List (Nat×Sh):=[(0,(.val (.int .u64))),(3,vS)]
def tZ2:=li [] [(0,(.val (.int .u64))),(3,vS)] vN8 vF4 uC7 (fun y x=>[ex 2 none tK1 ((uV9 y x),(uW y x),())]) [tK1]
def f80t (p0:Int):Prop×(List UInt8):=
 let x2:=(p0,([]:List UInt8),())
 let e2:=(zC5 (vN8 ()) (vF4 ()) x2)
 let r2_2_1:=(uW () e2)
 let v20:=(xC8 ([(IntKind.wrap .u8 (uV9 () e2))]:List Int))
 (((xQ5 (vN8 ()) (vF4 ()) (uC7 ()) x2)∧((List.length r2_2_1+List.length v20:Nat):Int)≤9223372036854775807),(r2_2_1++v20))
def vW9 p0:=(f80t p0).1
def f80 p0:=(f80t p0).2
instance (p0):Decidable (vW9 p0):=by unfold vW9 f80t;dsimp only;infer_instance
theorem tR2:SK 80 (sp1 (.val (.int .u64)) vS vW9 f80):=fb Tryz.func80 22 [] [(2,tZ2)] [] true
def f29t (p0:Int):Prop×(List UInt8):=
 let v4:=(IntKind.wrap .u64 p0)
 ((vW9 v4),(f80 v4))
def vD7 p0:=(f29t p0).1
def f29 p0:=(f29t p0).2
instance (p0):Decidable (vD7 p0):=by unfold vD7 f29t;dsimp only;infer_instance
theorem tR3:SK 29 (sp1 vI vS vD7 f29):=fb Tryz.func29 6 [kb tR2]
abbrev uW0:Type:=(D23×Unit)
abbrev uJ7:Type:=((List UInt8)×Int×Int×Unit)
def tR4 (y:uW0)(x:uJ7):Prop×Bool×uJ7:=
 let a1:=y.1
 let a3:=x.1
 let a4:=x.2.1
 let a5:=x.2.2.1
 let v22:=(decide (a5<(len a1.2.2.1)))
 let v28:=(nth a1.2.2.1 a5 Z45)
 let v35:=((a5+1)==(len a1.2.2.1))
 let v40:=(a5+1)
 let v45:=(bif v35 then true else (!(Ty.eqb T45 (nth a1.2.2.1 v40 Z45) v28)))
 let v49:=(a5-a4)
 let v50:=(f29 v49)
 let v51:=(a3++v50)
 let v54:=(f29 v28.1)
 let v55:=(v51++v54)
 let v58:=(f29 v28.2.1)
 let v59:=(v55++v58)
 let v62:=(f29 v28.2.2.1)
 let v63:=(v59++v62)
 let v66:=(f29 v28.2.2.2.1)
 ((v22=true→(InB a5 (len a1.2.2.1)∧(InR (a5+1)∧(((!v35)=true→InR (a5+1))∧(((!v35)=true→InB v40 (len a1.2.2.1))∧((v45=true→(InR (a5-a4)∧((vD7 v49)∧(((List.length a3+List.length v50:Nat):Int)≤9223372036854775807∧((vD7 v28.1)∧(((List.length v51+List.length v54:Nat):Int)≤9223372036854775807∧((vD7 v28.2.1)∧(((List.length v55+List.length v58:Nat):Int)≤9223372036854775807∧((vD7 v28.2.2.1)∧(((List.length v59+List.length v62:Nat):Int)≤9223372036854775807∧((vD7 v28.2.2.2.1)∧(((List.length v63+List.length v66:Nat):Int)≤9223372036854775807∧InR (a5+1)))))))))))))∧InR (a5+1))))))),v22,((bif v45 then (v63++v66) else a3),(bif v45 then (a5+1) else a4),(a5+1),()))
def vU9 y x:=(tR4 y x).1
def uC8 y x:=(tR4 y x).2.1
def vJ5 y x:=(tR4 y x).2.2
instance (y x):Decidable (vU9 y x):=by unfold vU9 tR4;dsimp only;infer_instance
def tB4 (y:uW0)(x:uJ7):(List UInt8):=
 x.1
def sH0:=li [(1,(.box T23 (.val T23)))] [(3,vS),(4,vI),(5,vI)] uC8 vJ5 vU9 (fun y x=>[ex 2 none [(3,vS)] ((tB4 y x),())]) [[(3,vS)]]
def f7t (p0:D23):Prop×(List UInt8):=
 let m1:=(bif ((f28 p0)!=0) then ((0:Int),(0:Int),([]:List D45),()) else p0)
 let v13:=(f29 m1.1)
 let v16:=(f29 m1.2.1)
 let y6:=(m1,())
 let x6:=((v13++v16),(0:Int),(0:Int),())
 (((tK0 p0)∧((vD7 m1.1)∧((vD7 m1.2.1)∧(((List.length v13+List.length v16:Nat):Int)≤9223372036854775807∧(xQ5 (uC8 y6) (vJ5 y6) (vU9 y6) x6))))),(tB4 y6 (zC5 (uC8 y6) (vJ5 y6) x6)))
def tZ3 p0:=(f7t p0).1
def f7 p0:=(f7t p0).2
instance (p0):Decidable (tZ3 p0):=by unfold tZ3 f7t;dsimp only;infer_instance
theorem sV4:SK 7 (sp1 (.val T23) vS tZ3 f7):=fb Tryz.func7 71 [kb sR5,kb tR3] [(6,sH0)]
abbrev vZ1:Type:=(D26×Unit)
abbrev vQ7:Type:=(Int×Unit)
def uO6 (y:vZ1)(x:vQ7):Prop×Bool×vQ7×Bool×Bool:=
 let a1:=y.1
 let a3:=x.1
 let v44:=(decide (a3<(len a1.2.2.1)))
 let v52:=(decide ((nth a1.2.2.1 a3 (0:Int))<0))
 let v60:=(bif v52 then true else (decide ((nth a1.2.2.1 a3 (0:Int))>65535)))
 ((v44=true→(InB a3 (len a1.2.2.1)∧(((!v52)=true→InB a3 (len a1.2.2.1))∧((!v60)=true→InR (a3+1))))),(v44&&(!v60)),((a3+1),()),(v44&&v60),(!v44))
def vX y x:=(uO6 y x).1
def uF7 y x:=(uO6 y x).2.1
def vM3 y x:=(uO6 y x).2.2.1
def tK2 y x:=(uO6 y x).2.2.2.1
def tZ4 y x:=(uO6 y x).2.2.2.2
instance (y x):Decidable (vX y x):=by unfold vX uO6;dsimp only;infer_instance
def uW1 (y:vZ1)(x:vQ7):Int:=
 (2:Int)
def tZ5:=li [(1,(.box T26 (.val T26)))] [(3,vI)] uF7 vM3 vX (fun y x=>[ex 1 (some (tK2 y x)) [(2,vI)] ((uW1 y x),()),ex 2 (some (tZ4 y x)) [] ()]) [[(2,vI)],[]]
def f33t (p0:D26):Prop×Int:=
 let v21:=(bif (bif (bif (decide (p0.1<0)) then true else (decide (p0.1>256))) then true else (decide (p0.2.1<0))) then true else (decide (p0.2.1>256)))
 let v28:=(!(Ty.eqb .bool (p0.1==0) (p0.2.1==0)))
 let v39:=(bif v28 then true else ((len p0.2.2.1)!=(p0.1*p0.2.1)))
 let y6:=(p0,())
 let x6:=((0:Int),())
 let e6:=(zC5 (uF7 y6) (vM3 y6) x6)
 (((!v21)=true→(((!v28)=true→InR (p0.1*p0.2.1))∧((!v39)=true→(xQ5 (uF7 y6) (vM3 y6) (vX y6) x6)))),(bif v21 then (15:Int) else (bif v39 then (15:Int) else (bif (tK2 y6 e6) then (uW1 y6 e6) else (0:Int)))))
def tK3 p0:=(f33t p0).1
def f33 p0:=(f33t p0).2
instance (p0):Decidable (tK3 p0):=by unfold tK3 f33t;dsimp only;infer_instance
theorem sR6:SK 33 (sp1 (.val T26) vI tK3 f33):=fb Tryz.func33 61 [] [(6,tZ5)]
abbrev uW2:Type:=(D26×Unit)
abbrev uJ8:Type:=((List UInt8)×Int×Int×Unit)
def tR5 (y:uW2)(x:uJ8):Prop×Bool×uJ8:=
 let a1:=y.1
 let a3:=x.1
 let a4:=x.2.1
 let a5:=x.2.2.1
 let v21:=(decide (a5<(len a1.2.2.1)))
 let v29:=((a5+1)==(len a1.2.2.1))
 let v34:=(a5+1)
 let v43:=(bif v29 then true else ((nth a1.2.2.1 v34 (0:Int))!=(nth a1.2.2.1 a5 (0:Int))))
 let v47:=(a5-a4)
 let v48:=(f29 v47)
 let v49:=(a3++v48)
 let v53:=(nth a1.2.2.1 a5 (0:Int))
 let v55:=(f29 v53)
 ((v21=true→(InR (a5+1)∧(((!v29)=true→InR (a5+1))∧(((!v29)=true→InB v34 (len a1.2.2.1))∧(((!v29)=true→InB a5 (len a1.2.2.1))∧((v43=true→(InR (a5-a4)∧((vD7 v47)∧(((List.length a3+List.length v48:Nat):Int)≤9223372036854775807∧(InB a5 (len a1.2.2.1)∧((vD7 v53)∧(((List.length v49+List.length v55:Nat):Int)≤9223372036854775807∧InR (a5+1))))))))∧InR (a5+1))))))),v21,((bif v43 then (v49++v55) else a3),(bif v43 then (a5+1) else a4),(a5+1),()))
def vV y x:=(tR5 y x).1
def uC9 y x:=(tR5 y x).2.1
def vJ6 y x:=(tR5 y x).2.2
instance (y x):Decidable (vV y x):=by unfold vV tR5;dsimp only;infer_instance
def tB5 (y:uW2)(x:uJ8):(List UInt8):=
 x.1
def sH1:=li [(1,(.box T26 (.val T26)))] [(3,vS),(4,vI),(5,vI)] uC9 vJ6 vV (fun y x=>[ex 2 none [(3,vS)] ((tB5 y x),())]) [[(3,vS)]]
def f9t (p0:D26):Prop×(List UInt8):=
 let m1:=(bif ((f33 p0)!=0) then ((0:Int),(0:Int),([]:List Int),()) else p0)
 let v12:=(f29 m1.1)
 let v15:=(f29 m1.2.1)
 let y6:=(m1,())
 let x6:=((v12++v15),(0:Int),(0:Int),())
 (((tK3 p0)∧((vD7 m1.1)∧((vD7 m1.2.1)∧(((List.length v12+List.length v15:Nat):Int)≤9223372036854775807∧(xQ5 (uC9 y6) (vJ6 y6) (vV y6) x6))))),(tB5 y6 (zC5 (uC9 y6) (vJ6 y6) x6)))
def tZ6 p0:=(f9t p0).1
def f9 p0:=(f9t p0).2
instance (p0):Decidable (tZ6 p0):=by unfold tZ6 f9t;dsimp only;infer_instance
theorem sV5:SK 9 (sp1 (.val T26) vS tZ6 f9):=fb Tryz.func9 60 [kb tR3,kb sR6] [(6,sH1)]
def f58t (p0:Int):Prop×(List UInt8):=
 let v4:=(decide (p0≥0))
 let v7:=(IntKind.wrap .u64 ((IntKind.wrap .u64 p0)*2))
 let v14:=(IntKind.wrap .u64 ((IntKind.wrap .u64 ((IntKind.wrap .u64 (IntKind.wrap .i64 (Int.sub 0 (IntKind.wrap .i64 (p0+1)))))*2))+1))
 (((v4=true→(vW9 v7))∧((!v4)=true→(vW9 v14))),(bif v4 then (f80 v7) else (f80 v14)))
def wW4 p0:=(f58t p0).1
def f58 p0:=(f58t p0).2
instance (p0):Decidable (wW4 p0):=by unfold wW4 f58t;dsimp only;infer_instance
theorem tZ7:SK 58 (sp1 vI vS wW4 f58):=fb Tryz.func58 16 [kb tR2] [] [] true
def f59t (p0:List UInt8):Prop×(List UInt8):=
 let v5:=(IntKind.wrap .u64 (len p0))
 let v6:=(f80 v5)
 (((vW9 v5)∧((List.length v6+List.length p0:Nat):Int)≤9223372036854775807),(v6++p0))
def tB6 p0:=(f59t p0).1
def f59 p0:=(f59t p0).2
instance (p0):Decidable (tB6 p0):=by unfold tB6 f59t;dsimp only;infer_instance
theorem sR7:SK 59 (sp1 vS vS tB6 f59):=fb Tryz.func59 9 [kb tR2]
def f60t (p0:Bool):Prop×(List UInt8):=
 (((p0=true→(vD7 (1:Int)))∧((!p0)=true→(vD7 (0:Int)))),(bif p0 then (f29 (1:Int)) else (f29 (0:Int))))
def uW3 p0:=(f60t p0).1
def f60 p0:=(f60t p0).2
instance (p0):Decidable (uW3 p0):=by unfold uW3 f60t;dsimp only;infer_instance
theorem sR8:SK 60 (sp1 vB vS uW3 f60):=fb Tryz.func60 6 [kb tR3]
def f61t (p0:D45):Prop×(List UInt8):=
 let v5:=(f58 p0.1)
 let v8:=(f58 p0.2.1)
 let v9:=(v5++v8)
 let v12:=(f58 p0.2.2.1)
 let v13:=(v9++v12)
 let v16:=(f58 p0.2.2.2.1)
 (((wW4 p0.1)∧((wW4 p0.2.1)∧(((List.length v5+List.length v8:Nat):Int)≤9223372036854775807∧((wW4 p0.2.2.1)∧(((List.length v9+List.length v12:Nat):Int)≤9223372036854775807∧((wW4 p0.2.2.2.1)∧((List.length v13+List.length v16:Nat):Int)≤9223372036854775807)))))),(v13++v16))
def uW4 p0:=(f61t p0).1
def f61 p0:=(f61t p0).2
instance (p0):Decidable (uW4 p0):=by unfold uW4 f61t;dsimp only;infer_instance
theorem sR9:SK 61 (sp1 (.val T45) vS uW4 f61):=fb Tryz.func61 18 [kb tZ7]
abbrev uL5:Type:=((List Int)×Unit)
abbrev vZ2:Type:=((List UInt8)×Int×Unit)
def tF (y:uL5)(x:vZ2):Prop×Bool×vZ2:=
 let a0:=y.1
 let a3:=x.1
 let a4:=x.2.1
 let v12:=(decide (a4<(len a0)))
 let v18:=(nth a0 a4 (0:Int))
 let v20:=(f58 v18)
 ((v12=true→(InB a4 (len a0)∧((wW4 v18)∧((List.length a3+List.length v20:Nat):Int)≤9223372036854775807))),v12,((a3++v20),(IntKind.wrap .i64 (a4+1)),()))
def vX0 y x:=(tF y x).1
def uF8 y x:=(tF y x).2.1
def vM4 y x:=(tF y x).2.2
instance (y x):Decidable (vX0 y x):=by unfold vX0 tF;dsimp only;infer_instance
def uW5 (y:uL5)(x:vZ2):(List UInt8):=
 x.1
def tZ8:=li [(0,(.val (.sl (.int .i64))))] [(3,vS),(4,vI)] uF8 vM4 vX0 (fun y x=>[ex 2 none [(3,vS)] ((uW5 y x),())]) [[(3,vS)]]
def f62t (p0:List Int):Prop×(List UInt8):=
 let v7:=(IntKind.wrap .u64 (len p0))
 let y3:=(p0,())
 let x3:=((f80 v7),(0:Int),())
 (((vW9 v7)∧(xQ5 (uF8 y3) (vM4 y3) (vX0 y3) x3)),(uW5 y3 (zC5 (uF8 y3) (vM4 y3) x3)))
def tK4 p0:=(f62t p0).1
def f62 p0:=(f62t p0).2
instance (p0):Decidable (tK4 p0):=by unfold tK4 f62t;dsimp only;infer_instance
theorem sS:SK 62 (sp1 (.val (.sl (.int .i64))) vS tK4 f62):=fb Tryz.func62 23 [kb tZ7,kb tR2] [(3,tZ8)] [] true
abbrev uL6:Type:=(D52×Unit)
abbrev vZ3:Type:=((List UInt8)×Int×Unit)
def tF0 (y:uL6)(x:vZ3):Prop×Bool×vZ3:=
 let a1:=y.1
 let a3:=x.1
 let a4:=x.2.1
 let v114:=(decide (a4<(len a1.2.2.2.2.2.2.2.2.2.2.2.2.2.2.2.2.2.1)))
 let v121:=(nth a1.2.2.2.2.2.2.2.2.2.2.2.2.2.2.2.2.2.1 a4 Z111)
 let v124:=(f58 v121.1)
 let v125:=(a3++v124)
 let v129:=(nth a1.2.2.2.2.2.2.2.2.2.2.2.2.2.2.2.2.2.1 a4 Z111)
 let v132:=(f61 v129.2.1)
 ((v114=true→(InB a4 (len a1.2.2.2.2.2.2.2.2.2.2.2.2.2.2.2.2.2.1)∧((wW4 v121.1)∧(((List.length a3+List.length v124:Nat):Int)≤9223372036854775807∧(InB a4 (len a1.2.2.2.2.2.2.2.2.2.2.2.2.2.2.2.2.2.1)∧((uW4 v129.2.1)∧(((List.length v125+List.length v132:Nat):Int)≤9223372036854775807∧InR (a4+1)))))))),v114,((v125++v132),(a4+1),()))
def uD y x:=(tF0 y x).1
def uL7 y x:=(tF0 y x).2.1
def vT7 y x:=(tF0 y x).2.2
instance (y x):Decidable (uD y x):=by unfold uD tF0;dsimp only;infer_instance
def vZ4 (y:uL6)(x:vZ3):(List UInt8):=
 x.1
def tK5:List (Nat×Sh):=[(1,(.box T52 (.val T52))),(3,vS)]
def tZ9:=li [(1,(.box T52 (.val T52)))] [(3,vS),(4,vI)] uL7 vT7 uD (fun y x=>[ex 2 none tK5 (y.1,(vZ4 y x),())]) [tK5]
abbrev uD0:Type:=(D52×Int×Unit)
abbrev vT8:Type:=((List UInt8)×Int×Unit)
def uT0 (y:uD0)(x:vT8):Prop×Bool×vT8:=
 let a1:=y.1
 let a5:=y.2.1
 let a3:=x.1
 let a6:=x.2.1
 let v157:=(decide (a6<3))
 let v167:=(nth (nth a1.2.2.2.2.2.2.2.2.2.2.2.2.2.2.2.2.2.2.1 a5 Z114).2.1 a6 Z106)
 let v170:=(f58 v167.1)
 let v171:=(a3++v170)
 let v178:=(nth (nth a1.2.2.2.2.2.2.2.2.2.2.2.2.2.2.2.2.2.2.1 a5 Z114).2.1 a6 Z106)
 let v181:=(f58 v178.2.1)
 ((v157=true→(InB a5 (len a1.2.2.2.2.2.2.2.2.2.2.2.2.2.2.2.2.2.2.1)∧(InB a6 3∧((wW4 v167.1)∧(((List.length a3+List.length v170:Nat):Int)≤9223372036854775807∧(InB a5 (len a1.2.2.2.2.2.2.2.2.2.2.2.2.2.2.2.2.2.2.1)∧(InB a6 3∧((wW4 v178.2.1)∧(((List.length v171+List.length v181:Nat):Int)≤9223372036854775807∧InR (a6+1)))))))))),v157,((v171++v181),(a6+1),()))
def vR8 y x:=(uT0 y x).1
def vT9 y x:=(uT0 y x).2.1
def vF5 y x:=(uT0 y x).2.2
instance (y x):Decidable (vR8 y x):=by unfold vR8 uT0;dsimp only;infer_instance
def uQ8 (y:uD0)(x:vT8):(List UInt8):=
 x.1
def tB7:List (Nat×Sh):=[(1,(.box T52 (.val T52))),(3,vS),(5,vI)]
def tT6:=li [(1,(.box T52 (.val T52))),(5,vI)] [(3,vS),(6,vI)] vT9 vF5 vR8 (fun y x=>[ex 6 none tB7 (y.1,(uQ8 y x),y.2.1,())]) [tB7]
abbrev uD1:Type:=(D52×Unit)
abbrev vU:Type:=((List UInt8)×Int×Unit)
def uT1 (y:uD1)(x:vU):Prop×Bool×vU:=
 let a1:=y.1
 let a3:=x.1
 let a5:=x.2.1
 let v144:=(decide (a5<(len a1.2.2.2.2.2.2.2.2.2.2.2.2.2.2.2.2.2.2.1)))
 let v151:=(nth a1.2.2.2.2.2.2.2.2.2.2.2.2.2.2.2.2.2.2.1 a5 Z114)
 let v154:=(f58 v151.1)
 let y16:=(a1,a5,())
 let x16:=((a3++v154),(0:Int),())
 ((v144=true→(InB a5 (len a1.2.2.2.2.2.2.2.2.2.2.2.2.2.2.2.2.2.2.1)∧((wW4 v151.1)∧(((List.length a3+List.length v154:Nat):Int)≤9223372036854775807∧((xQ5 (vT9 y16) (vF5 y16) (vR8 y16) x16)∧InR (a5+1)))))),v144,((uQ8 y16 (zC5 (vT9 y16) (vF5 y16) x16)),(a5+1),()))
def vR9 y x:=(uT1 y x).1
def vP2 y x:=(uT1 y x).2.1
def vF6 y x:=(uT1 y x).2.2
instance (y x):Decidable (vR9 y x):=by unfold vR9 uT1;dsimp only;infer_instance
def vV0 (y:uD1)(x:vU):(List UInt8):=
 x.1
def tB8:List (Nat×Sh):=[(1,(.box T52 (.val T52))),(3,vS)]
def tT7:=li [(1,(.box T52 (.val T52)))] [(3,vS),(5,vI)] vP2 vF6 vR9 (fun y x=>[ex 4 none tB8 (y.1,(vV0 y x),())]) [tB8]
abbrev uD2:Type:=(D52×Unit)
abbrev vU0:Type:=((List UInt8)×Int×Unit)
def uT2 (y:uD2)(x:vU0):Prop×Bool×vU0:=
 let a1:=y.1
 let a3:=x.1
 let a7:=x.2.1
 let v243:=(decide (a7<(len a1.2.2.2.2.2.2.2.2.2.2.2.2.2.2.2.2.2.2.2.2.2.2.2.2.2.2.2.1.2.2.2.1)))
 let v251:=(nth a1.2.2.2.2.2.2.2.2.2.2.2.2.2.2.2.2.2.2.2.2.2.2.2.2.2.2.2.1.2.2.2.1 a7 Z106)
 let v254:=(f58 v251.1)
 let v255:=(a3++v254)
 let v260:=(nth a1.2.2.2.2.2.2.2.2.2.2.2.2.2.2.2.2.2.2.2.2.2.2.2.2.2.2.2.1.2.2.2.1 a7 Z106)
 let v263:=(f58 v260.2.1)
 ((v243=true→(InB a7 (len a1.2.2.2.2.2.2.2.2.2.2.2.2.2.2.2.2.2.2.2.2.2.2.2.2.2.2.2.1.2.2.2.1)∧((wW4 v251.1)∧(((List.length a3+List.length v254:Nat):Int)≤9223372036854775807∧(InB a7 (len a1.2.2.2.2.2.2.2.2.2.2.2.2.2.2.2.2.2.2.2.2.2.2.2.2.2.2.2.1.2.2.2.1)∧((wW4 v260.2.1)∧(((List.length v255+List.length v263:Nat):Int)≤9223372036854775807∧InR (a7+1)))))))),v243,((v255++v263),(a7+1),()))
def vX1 y x:=(uT2 y x).1
def uD3 y x:=(uT2 y x).2.1
def vP3 y x:=(uT2 y x).2.2
instance (y x):Decidable (vX1 y x):=by unfold vX1 uT2;dsimp only;infer_instance
def uD4 (y:uD2)(x:vU0):(List UInt8):=
 x.1
def tT8:=li [(1,(.box T52 (.val T52)))] [(3,vS),(7,vI)] uD3 vP3 vX1 (fun y x=>[ex 8 none [(3,vS)] ((uD4 y x),())]) [[(3,vS)]]
def f21t (p0:D52):Prop×(List UInt8):=
 let v10:=(f58 p0.1)
 let v13:=(f58 p0.2.1)
 let v14:=(v10++v13)
 let v17:=(f58 p0.2.2.1)
 let v18:=(v14++v17)
 let v21:=(f59 p0.2.2.2.1)
 let v22:=(v18++v21)
 let v25:=(f60 p0.2.2.2.2.1)
 let v26:=(v22++v25)
 let v29:=(f60 p0.2.2.2.2.2.1)
 let v30:=(v26++v29)
 let v33:=(f60 p0.2.2.2.2.2.2.1)
 let v34:=(v30++v33)
 let v38:=(f58 p0.2.2.2.2.2.2.2.1)
 let v39:=(v34++v38)
 let v42:=(f58 p0.2.2.2.2.2.2.2.2.1)
 let v43:=(v39++v42)
 let v46:=(f9 p0.2.2.2.2.2.2.2.2.2.1)
 let v47:=(v43++v46)
 let v52:=(f58 p0.2.2.2.2.2.2.2.2.2.2.1.1)
 let v53:=(v47++v52)
 let v57:=(f58 p0.2.2.2.2.2.2.2.2.2.2.1.2.1)
 let v58:=(v53++v57)
 let v62:=(f58 p0.2.2.2.2.2.2.2.2.2.2.1.2.2.1)
 let v63:=(v58++v62)
 let v67:=(f58 p0.2.2.2.2.2.2.2.2.2.2.1.2.2.2.1)
 let v68:=(v63++v67)
 let v72:=(f58 p0.2.2.2.2.2.2.2.2.2.2.1.2.2.2.2.1)
 let v73:=(v68++v72)
 let v77:=(f58 p0.2.2.2.2.2.2.2.2.2.2.1.2.2.2.2.2.1)
 let v78:=(v73++v77)
 let v82:=(f58 p0.2.2.2.2.2.2.2.2.2.2.2.1)
 let v83:=(v78++v82)
 let v86:=(f7 p0.2.2.2.2.2.2.2.2.2.2.2.2.1)
 let v87:=(v83++v86)
 let v90:=(f61 p0.2.2.2.2.2.2.2.2.2.2.2.2.2.1)
 let v91:=(v87++v90)
 let v94:=(f58 p0.2.2.2.2.2.2.2.2.2.2.2.2.2.2.1)
 let v95:=(v91++v94)
 let v98:=(f62 p0.2.2.2.2.2.2.2.2.2.2.2.2.2.2.2.1)
 let v99:=(v95++v98)
 let v102:=(f58 p0.2.2.2.2.2.2.2.2.2.2.2.2.2.2.2.2.1)
 let v103:=(v99++v102)
 let v107:=(len p0.2.2.2.2.2.2.2.2.2.2.2.2.2.2.2.2.2.1)
 let v108:=(f29 v107)
 let y7:=(p0,())
 let x7:=((v103++v108),(0:Int),())
 let r7_2_0:=(vZ4 y7 (zC5 (uL7 y7) (vT7 y7) x7))
 let v137:=(len p0.2.2.2.2.2.2.2.2.2.2.2.2.2.2.2.2.2.2.1)
 let v138:=(f29 v137)
 let y12:=(p0,())
 let x12:=((r7_2_0++v138),(0:Int),())
 let r12_4_0:=(vV0 y12 (zC5 (vP2 y12) (vF6 y12) x12))
 let v186:=(f58 p0.2.2.2.2.2.2.2.2.2.2.2.2.2.2.2.2.2.2.2.1)
 let v187:=(r12_4_0++v186)
 let v190:=(f58 p0.2.2.2.2.2.2.2.2.2.2.2.2.2.2.2.2.2.2.2.2.1)
 let v191:=(v187++v190)
 let v194:=(f58 p0.2.2.2.2.2.2.2.2.2.2.2.2.2.2.2.2.2.2.2.2.2.1)
 let v195:=(v191++v194)
 let v198:=(f58 p0.2.2.2.2.2.2.2.2.2.2.2.2.2.2.2.2.2.2.2.2.2.2.1)
 let v199:=(v195++v198)
 let v202:=(f59 p0.2.2.2.2.2.2.2.2.2.2.2.2.2.2.2.2.2.2.2.2.2.2.2.1)
 let v203:=(v199++v202)
 let v206:=(f58 p0.2.2.2.2.2.2.2.2.2.2.2.2.2.2.2.2.2.2.2.2.2.2.2.2.1)
 let v207:=(v203++v206)
 let v210:=(f58 p0.2.2.2.2.2.2.2.2.2.2.2.2.2.2.2.2.2.2.2.2.2.2.2.2.2.1)
 let v211:=(v207++v210)
 let v214:=(f58 p0.2.2.2.2.2.2.2.2.2.2.2.2.2.2.2.2.2.2.2.2.2.2.2.2.2.2.1)
 let v215:=(v211++v214)
 let v220:=(f58 p0.2.2.2.2.2.2.2.2.2.2.2.2.2.2.2.2.2.2.2.2.2.2.2.2.2.2.2.1.1)
 let v221:=(v215++v220)
 let v225:=(f58 p0.2.2.2.2.2.2.2.2.2.2.2.2.2.2.2.2.2.2.2.2.2.2.2.2.2.2.2.1.2.1)
 let v226:=(v221++v225)
 let v230:=(f58 p0.2.2.2.2.2.2.2.2.2.2.2.2.2.2.2.2.2.2.2.2.2.2.2.2.2.2.2.1.2.2.1)
 let v231:=(v226++v230)
 let v235:=(len p0.2.2.2.2.2.2.2.2.2.2.2.2.2.2.2.2.2.2.2.2.2.2.2.2.2.2.2.1.2.2.2.1)
 let v236:=(f29 v235)
 let y22:=(p0,())
 let x22:=((v231++v236),(0:Int),())
 (((wW4 p0.1)∧((wW4 p0.2.1)∧(((List.length v10+List.length v13:Nat):Int)≤9223372036854775807∧((wW4 p0.2.2.1)∧(((List.length v14+List.length v17:Nat):Int)≤9223372036854775807∧((tB6 p0.2.2.2.1)∧(((List.length v18+List.length v21:Nat):Int)≤9223372036854775807∧((uW3 p0.2.2.2.2.1)∧(((List.length v22+List.length v25:Nat):Int)≤9223372036854775807∧((uW3 p0.2.2.2.2.2.1)∧(((List.length v26+List.length v29:Nat):Int)≤9223372036854775807∧((uW3 p0.2.2.2.2.2.2.1)∧(((List.length v30+List.length v33:Nat):Int)≤9223372036854775807∧((wW4 p0.2.2.2.2.2.2.2.1)∧(((List.length v34+List.length v38:Nat):Int)≤9223372036854775807∧((wW4 p0.2.2.2.2.2.2.2.2.1)∧(((List.length v39+List.length v42:Nat):Int)≤9223372036854775807∧((tZ6 p0.2.2.2.2.2.2.2.2.2.1)∧(((List.length v43+List.length v46:Nat):Int)≤9223372036854775807∧((wW4 p0.2.2.2.2.2.2.2.2.2.2.1.1)∧(((List.length v47+List.length v52:Nat):Int)≤9223372036854775807∧((wW4 p0.2.2.2.2.2.2.2.2.2.2.1.2.1)∧(((List.length v53+List.length v57:Nat):Int)≤9223372036854775807∧((wW4 p0.2.2.2.2.2.2.2.2.2.2.1.2.2.1)∧(((List.length v58+List.length v62:Nat):Int)≤9223372036854775807∧((wW4 p0.2.2.2.2.2.2.2.2.2.2.1.2.2.2.1)∧(((List.length v63+List.length v67:Nat):Int)≤9223372036854775807∧((wW4 p0.2.2.2.2.2.2.2.2.2.2.1.2.2.2.2.1)∧(((List.length v68+List.length v72:Nat):Int)≤9223372036854775807∧((wW4 p0.2.2.2.2.2.2.2.2.2.2.1.2.2.2.2.2.1)∧(((List.length v73+List.length v77:Nat):Int)≤9223372036854775807∧((wW4 p0.2.2.2.2.2.2.2.2.2.2.2.1)∧(((List.length v78+List.length v82:Nat):Int)≤9223372036854775807∧((tZ3 p0.2.2.2.2.2.2.2.2.2.2.2.2.1)∧(((List.length v83+List.length v86:Nat):Int)≤9223372036854775807∧((uW4 p0.2.2.2.2.2.2.2.2.2.2.2.2.2.1)∧(((List.length v87+List.length v90:Nat):Int)≤9223372036854775807∧((wW4 p0.2.2.2.2.2.2.2.2.2.2.2.2.2.2.1)∧(((List.length v91+List.length v94:Nat):Int)≤9223372036854775807∧((tK4 p0.2.2.2.2.2.2.2.2.2.2.2.2.2.2.2.1)∧(((List.length v95+List.length v98:Nat):Int)≤9223372036854775807∧((wW4 p0.2.2.2.2.2.2.2.2.2.2.2.2.2.2.2.2.1)∧(((List.length v99+List.length v102:Nat):Int)≤9223372036854775807∧((vD7 v107)∧(((List.length v103+List.length v108:Nat):Int)≤9223372036854775807∧((xQ5 (uL7 y7) (vT7 y7) (uD y7) x7)∧((vD7 v137)∧(((List.length r7_2_0+List.length v138:Nat):Int)≤9223372036854775807∧((xQ5 (vP2 y12) (vF6 y12) (vR9 y12) x12)∧((wW4 p0.2.2.2.2.2.2.2.2.2.2.2.2.2.2.2.2.2.2.2.1)∧(((List.length r12_4_0+List.length v186:Nat):Int)≤9223372036854775807∧((wW4 p0.2.2.2.2.2.2.2.2.2.2.2.2.2.2.2.2.2.2.2.2.1)∧(((List.length v187+List.length v190:Nat):Int)≤9223372036854775807∧((wW4 p0.2.2.2.2.2.2.2.2.2.2.2.2.2.2.2.2.2.2.2.2.2.1)∧(((List.length v191+List.length v194:Nat):Int)≤9223372036854775807∧((wW4 p0.2.2.2.2.2.2.2.2.2.2.2.2.2.2.2.2.2.2.2.2.2.2.1)∧(((List.length v195+List.length v198:Nat):Int)≤9223372036854775807∧((tB6 p0.2.2.2.2.2.2.2.2.2.2.2.2.2.2.2.2.2.2.2.2.2.2.2.1)∧(((List.length v199+List.length v202:Nat):Int)≤9223372036854775807∧((wW4 p0.2.2.2.2.2.2.2.2.2.2.2.2.2.2.2.2.2.2.2.2.2.2.2.2.1)∧(((List.length v203+List.length v206:Nat):Int)≤9223372036854775807∧((wW4 p0.2.2.2.2.2.2.2.2.2.2.2.2.2.2.2.2.2.2.2.2.2.2.2.2.2.1)∧(((List.length v207+List.length v210:Nat):Int)≤9223372036854775807∧((wW4 p0.2.2.2.2.2.2.2.2.2.2.2.2.2.2.2.2.2.2.2.2.2.2.2.2.2.2.1)∧(((List.length v211+List.length v214:Nat):Int)≤9223372036854775807∧((wW4 p0.2.2.2.2.2.2.2.2.2.2.2.2.2.2.2.2.2.2.2.2.2.2.2.2.2.2.2.1.1)∧(((List.length v215+List.length v220:Nat):Int)≤9223372036854775807∧((wW4 p0.2.2.2.2.2.2.2.2.2.2.2.2.2.2.2.2.2.2.2.2.2.2.2.2.2.2.2.1.2.1)∧(((List.length v221+List.length v225:Nat):Int)≤9223372036854775807∧((wW4 p0.2.2.2.2.2.2.2.2.2.2.2.2.2.2.2.2.2.2.2.2.2.2.2.2.2.2.2.1.2.2.1)∧(((List.length v226+List.length v230:Nat):Int)≤9223372036854775807∧((vD7 v235)∧(((List.length v231+List.length v236:Nat):Int)≤9223372036854775807∧(xQ5 (uD3 y22) (vP3 y22) (vX1 y22) x22)))))))))))))))))))))))))))))))))))))))))))))))))))))))))))))))))))))))))),(uD4 y22 (zC5 (uD3 y22) (vP3 y22) x22)))
def uQ9 p0:=(f21t p0).1
def f21 p0:=(f21t p0).2
instance (p0):Decidable (uQ9 p0):=by unfold uQ9 f21t;dsimp only;infer_instance
def sH2:=sp1 (.val T52) vS uQ9 f21
theorem sS0:SK 21 (sp1 (.val T52) vS uQ9 f21):=fb Tryz.func21 266 [kb sV4,kb sV5,kb tR3,kb tZ7,kb sR7,kb sR8,kb sR9,kb sS] [(7,tZ9),(12,tT7),(16,tT6),(22,tT8)]
def tF1 (p0:D60):Prop×Int×(D60×Unit):=
 let v5:=(wV2 p0)
 ((wW3 p0),(bif ((Int.tmod v5 (2:Int))==1) then (wT .i64 (IntKind.wrap .i64 (wT1 v5 (1:Int) 64))) else (IntKind.wrap .i64 (wT1 v5 (1:Int) 64))),((vC p0).1,()))
def wT2 p0:=(tF1 p0).1
def wT4 p0:=(tF1 p0).2.1
def wU1 p0:=(tF1 p0).2.2
instance (p0):Decidable (wT2 p0):=by unfold wT2 tF1;dsimp only;infer_instance
theorem vD1:SK 96 (fnSpec [(0,(.box T60 (.val T60)))] vI [(0,(.box T60 (.val T60)))] (fun x=>wT2 x.1) (fun x=>wT4 x.1) (fun x=>wU1 x.1)):=fb Tryz.func96 16 [kb uU] [] [] true [0]
abbrev vA7:Type:=(Int×Unit)
abbrev wW9:Type:=(D60×(List Int)×Int×Unit)
def wZ2 (y:vA7)(x:wW9):Prop×Bool×wW9×Bool×Bool:=
 let a0:=x.1
 let a6:=x.2.1
 let a12:=x.2.2.1
 let v13:=(decide (a12<y.1))
 let v15o:=(wU1 a0)
 let v18:=(!(uK1 v15o.1))
 let v21:=([(wT4 a0)]:List Int)
 ((v13=true→((wT2 a0)∧((vK5 v15o.1)∧((!v18)=true→((List.length a6+List.length v21:Nat):Int)≤4294967296)))),(v13&&(!v18)),((vN5 v15o.1).1,(a6++v21),(IntKind.wrap .i64 (a12+1)),()),(v13&&v18),(!v13))
def vF7 y x:=(wZ2 y x).1
def wX4 y x:=(wZ2 y x).2.1
def wX8 y x:=(wZ2 y x).2.2.1
def wX9 y x:=(wZ2 y x).2.2.2.1
def tK6 y x:=(wZ2 y x).2.2.2.2
instance (y x):Decidable (vF7 y x):=by unfold vF7 wZ2;dsimp only;infer_instance
def uH8 (y:vA7)(x:wW9):D60:=
 (vN5 (wU1 x.1).1).1
def uH9 (y:vA7)(x:wW9):(List Int):=
 ([]:List Int)
def uR:List (Nat×Sh):=[(0,(.box T60 (.val T60))),(4,(.own (.int .i64) 0 false))]
def uI (y:vA7)(x:wW9):D60:=
 x.1
def uI0 (y:vA7)(x:wW9):(List Int):=
 x.2.1
def uR0:List (Nat×Sh):=[(0,(.box T60 (.val T60))),(6,(.own (.int .i64) 1006 false))]
def tK7:=li [(11,vI)] [(0,(.box T60 (.val T60))),(6,(.own (.int .i64) 1006 false)),(12,vI)] wX4 wX8 vF7 (fun y x=>[ex 1 (some (wX9 y x)) uR ((uH8 y x),(uH9 y x),()),ex 2 (some (tK6 y x)) uR0 ((uI y x),(uI0 y x),())]) [uR,uR0]
def vV5 (p0:D60)(p1:Int):Prop×(List Int)×(D60×Unit):=
 let y4:=((wT6 p0 p1),())
 let x4:=((wT3 p0 p1).1,([]:List Int),(0:Int),())
 let e4:=(zC5 (wX4 y4) (wX8 y4) x4)
 let q4_1:=(wX9 y4 e4)
 (((wV p0 p1)∧(xQ5 (wX4 y4) (wX8 y4) (vF7 y4) x4)),(bif q4_1 then (uH9 y4 e4) else (uI0 y4 e4)),((bif q4_1 then (uH8 y4 e4) else (uI y4 e4)),()))
def vD2 p0 p1:=(vV5 p0 p1).1
def vQ1 p0 p1:=(vV5 p0 p1).2.1
def vC3 p0 p1:=(vV5 p0 p1).2.2
instance (p0 p1):Decidable (vD2 p0 p1):=by unfold vD2 vV5;dsimp only;infer_instance
theorem sA:SK 66 (fnSpec [(0,(.box T60 (.val T60))),(1,vI)] (.own (.int .i64) 0 false) [(0,(.box T60 (.val T60)))] (fun x=>vD2 x.1 x.2.1) (fun x=>vQ1 x.1 x.2.1) (fun x=>vC3 x.1 x.2.1)):=fb Tryz.func66 25 [kb vO0,kb vV7,kb vD1] [(4,tK7)] [(17,[(4,0,22,1006)]),(21,[(4,0,1006,0)])] true [0]
def uW6 (p0:D60)(p1:Unit)(p2:(Int×Int×Int×(List UInt8)×Bool×Bool×Bool×Int×Int×(Int×Int×(List Int)×Unit)×D43×Int×(Int×Int×(List D45)×Unit)×D45×Int×(List Int)×Int×(List D111)×(List D114)×Int×Int×Int×Int×(List UInt8)×Int×Int×Int×(Int×Int×Int×(List D106)×Unit)×Unit)):List Prop×(Unit)×(D60×Unit×(Int×Int×Int×(List UInt8)×Bool×Bool×Bool×Int×Int×(Int×Int×(List Int)×Unit)×D43×Int×(Int×Int×(List D45)×Unit)×D45×Int×(List Int)×Int×(List D111)×(List D114)×Int×Int×Int×Int×(List UInt8)×Int×Int×Int×(Int×Int×Int×(List D106)×Unit)×Unit)×Unit):=
 let v14o:=(wU1 p0)
 let v14o_1:=(wU1 v14o.1)
 let s_2:=(p2.2.2.2.2.2.2.2.2.2.2.2.2.2.2.2.2.2.2.2.2.2.2.2.2.2.2.2.1.1,p2.2.2.2.2.2.2.2.2.2.2.2.2.2.2.2.2.2.2.2.2.2.2.2.2.2.2.2.1.2.1,p2.2.2.2.2.2.2.2.2.2.2.2.2.2.2.2.2.2.2.2.2.2.2.2.2.2.2.2.1.2.2.1,p2.2.2.2.2.2.2.2.2.2.2.2.2.2.2.2.2.2.2.2.2.2.2.2.2.2.2.2.1.2.2.2.1,())
 let s_3:=((wT4 p0),(wT4 v14o.1),(wT4 v14o_1.1),p2.2.2.2.1,p2.2.2.2.2.1,p2.2.2.2.2.2.1,p2.2.2.2.2.2.2.1,p2.2.2.2.2.2.2.2.1,p2.2.2.2.2.2.2.2.2.1,(p2.2.2.2.2.2.2.2.2.2.1.1,p2.2.2.2.2.2.2.2.2.2.1.2.1,p2.2.2.2.2.2.2.2.2.2.1.2.2.1,()),p2.2.2.2.2.2.2.2.2.2.2.1,p2.2.2.2.2.2.2.2.2.2.2.2.1,(p2.2.2.2.2.2.2.2.2.2.2.2.2.1.1,p2.2.2.2.2.2.2.2.2.2.2.2.2.1.2.1,p2.2.2.2.2.2.2.2.2.2.2.2.2.1.2.2.1,()),p2.2.2.2.2.2.2.2.2.2.2.2.2.2.1,p2.2.2.2.2.2.2.2.2.2.2.2.2.2.2.1,p2.2.2.2.2.2.2.2.2.2.2.2.2.2.2.2.1,p2.2.2.2.2.2.2.2.2.2.2.2.2.2.2.2.2.1,p2.2.2.2.2.2.2.2.2.2.2.2.2.2.2.2.2.2.1,p2.2.2.2.2.2.2.2.2.2.2.2.2.2.2.2.2.2.2.1,p2.2.2.2.2.2.2.2.2.2.2.2.2.2.2.2.2.2.2.2.1,p2.2.2.2.2.2.2.2.2.2.2.2.2.2.2.2.2.2.2.2.2.1,p2.2.2.2.2.2.2.2.2.2.2.2.2.2.2.2.2.2.2.2.2.2.1,p2.2.2.2.2.2.2.2.2.2.2.2.2.2.2.2.2.2.2.2.2.2.2.1,p2.2.2.2.2.2.2.2.2.2.2.2.2.2.2.2.2.2.2.2.2.2.2.2.1,p2.2.2.2.2.2.2.2.2.2.2.2.2.2.2.2.2.2.2.2.2.2.2.2.2.1,p2.2.2.2.2.2.2.2.2.2.2.2.2.2.2.2.2.2.2.2.2.2.2.2.2.2.1,p2.2.2.2.2.2.2.2.2.2.2.2.2.2.2.2.2.2.2.2.2.2.2.2.2.2.2.1,s_2,())
 ([InB (0:Int) 3,(wT2 p0),InB (1:Int) 3,(wT2 v14o.1),InB (2:Int) 3,(wT2 v14o_1.1)],(),((wU1 v14o_1.1).1,(),s_3,()))
def vH4 (p0:D60)(p1:Unit)(p2:(Int×Int×Int×(List UInt8)×Bool×Bool×Bool×Int×Int×(Int×Int×(List Int)×Unit)×D43×Int×(Int×Int×(List D45)×Unit)×D45×Int×(List Int)×Int×(List D111)×(List D114)×Int×Int×Int×Int×(List UInt8)×Int×Int×Int×(Int×Int×Int×(List D106)×Unit)×Unit)):Prop:=yW6 (uW6 p0 p1 p2).1
def sS1 p0 p1 p2:=(uW6 p0 p1 p2).2.1
def uT3 p0 p1 p2:=(uW6 p0 p1 p2).2.2
instance (p0:D60)(p1:Unit)(p2:(Int×Int×Int×(List UInt8)×Bool×Bool×Bool×Int×Int×(Int×Int×(List Int)×Unit)×D43×Int×(Int×Int×(List D45)×Unit)×D45×Int×(List Int)×Int×(List D111)×(List D114)×Int×Int×Int×Int×(List UInt8)×Int×Int×Int×(Int×Int×Int×(List D106)×Unit)×Unit)):Decidable (vH4 p0 p1 p2):=by
 unfold vH4 uW6;dsimp only[yW6]
 infer_instance
noncomputable def tK8:List (Fb Tryz.prog):=[kb vD1]
noncomputable def tT9:Ctx:={ Cx tys (Fb.l tK8) [] [] true 17 [0,1] [] with skip:=true,dead:=[999999] }
theorem tU:CtxOk Tryz.prog tT9:=wI7 vD8 (by kernel_rfl) (Fb.all tK8) rfl (by kernel_rfl)
@[reducible] def uW7:List (Nat×Sh):=[(0,(.box T60 (.val T60))),(1,(.ptrs false [some (990001,T52,[.inl 0]),some (990001,T52,[.inl 1]),some (990001,T52,[.inl 2])])),(990001,(.box T52 (.agg (.cons (.int .i64) (.cons (.int .i64) (.cons (.int .i64) (.cons .str (.cons .bool (.cons .bool (.cons .bool (.cons (.int .i64) (.cons (.int .i64) (.cons T26 (.cons T43 (.cons (.int .i64) (.cons T23 (.cons T45 (.cons (.int .i64) (.cons (.sl (.int .i64)) (.cons (.int .i64) (.cons (.sl T111) (.cons (.sl T114) (.cons (.int .i64) (.cons (.int .i64) (.cons (.int .i64) (.cons (.int .i64) (.cons .str (.cons (.int .i64) (.cons (.int .i64) (.cons (.int .i64) (.cons T50 .nl)))))))))))))))))))))))))))) (.cons vI (.cons vI (.cons vI (.cons vS (.cons vB (.cons vB (.cons vB (.cons vI (.cons vI (.cons (.agg (.cons (.int .i64) (.cons (.int .i64) (.cons (.sl (.int .i64)) .nl))) (.cons vI (.cons vI (.cons (.own (.int .i64) 400100 false) .nl)))) (.cons (.val T43) (.cons vI (.cons (.agg (.cons (.int .i64) (.cons (.int .i64) (.cons (.sl T45) .nl))) (.cons vI (.cons vI (.cons (.own T45 400101 false) .nl)))) (.cons (.val T45) (.cons vI (.cons (.own (.int .i64) 400102 false) (.cons vI (.cons (.own T111 400103 false) (.cons (.own T114 400104 false) (.cons vI (.cons vI (.cons vI (.cons vI (.cons vS (.cons vI (.cons vI (.cons vI (.cons (.agg (.cons (.int .i64) (.cons (.int .i64) (.cons (.int .i64) (.cons (.sl T106) .nl)))) (.cons vI (.cons vI (.cons vI (.cons (.own T106 400105 false) .nl))))) .nl)))))))))))))))))))))))))))))))]
theorem sA0:SK 63 (xI1 uW7 (.tup .nl) uW7 (fun x=>vH4 x.1 x.2.1 x.2.2.1) (fun x=>sS1 x.1 x.2.1 x.2.2.1) (fun x=>uT3 x.1 x.2.1 x.2.2.1)):=wP (ps:=uW7) (p:=fun x=>(uW6 x.1 x.2.1 x.2.2.1).1) (lv:=[(0,[0,1,6,7,8,990001]),(1,[0,1,6,7,8,9,990001]),(2,[0,1,5,6,7,8,990001]),(3,[0,1,6,7,8,990001]),(4,[0,1,6,7,8,990001])]) tU mixed Tryz.func63 (fun _ h=>h) (by kernel_rfl) (fun x=>by kernel_rfl)
def uW8 (p0:D60)(p1:Unit)(p2:(Int×Int×Int×(List UInt8)×Bool×Bool×Bool×Int×Int×(Int×Int×(List Int)×Unit)×D43×Int×(Int×Int×(List D45)×Unit)×D45×Int×(List Int)×Int×(List D111)×(List D114)×Int×Int×Int×Int×(List UInt8)×Int×Int×Int×(Int×Int×Int×(List D106)×Unit)×Unit)):List Prop×(Unit)×(D60×Unit×(Int×Int×Int×(List UInt8)×Bool×Bool×Bool×Int×Int×(Int×Int×(List Int)×Unit)×D43×Int×(Int×Int×(List D45)×Unit)×D45×Int×(List Int)×Int×(List D111)×(List D114)×Int×Int×Int×Int×(List UInt8)×Int×Int×Int×(Int×Int×Int×(List D106)×Unit)×Unit)×Unit):=
 let v14:=(wV2 p0)
 let v14o:=(vC p0)
 let v16:=(decide (v14>1))
 let m0:=(bif v16 then (wW8 v14o.1 (4:Int)).1 else v14o.1)
 let v14_1:=(wV2 m0)
 let v14o_1:=(vC m0)
 let v16_1:=(decide (v14_1>1))
 let m0_1:=(bif v16_1 then (wW8 v14o_1.1 (4:Int)).1 else v14o_1.1)
 let v14_2:=(wV2 m0_1)
 let v14o_2:=(vC m0_1)
 let v16_2:=(decide (v14_2>1))
 let s_2:=(p2.2.2.2.2.2.2.2.2.2.2.2.2.2.2.2.2.2.2.2.2.2.2.2.2.2.2.2.1.1,p2.2.2.2.2.2.2.2.2.2.2.2.2.2.2.2.2.2.2.2.2.2.2.2.2.2.2.2.1.2.1,p2.2.2.2.2.2.2.2.2.2.2.2.2.2.2.2.2.2.2.2.2.2.2.2.2.2.2.2.1.2.2.1,p2.2.2.2.2.2.2.2.2.2.2.2.2.2.2.2.2.2.2.2.2.2.2.2.2.2.2.2.1.2.2.2.1,())
 let s_3:=(p2.1,p2.2.1,p2.2.2.1,p2.2.2.2.1,(v14==1),(v14_1==1),(v14_2==1),p2.2.2.2.2.2.2.2.1,p2.2.2.2.2.2.2.2.2.1,(p2.2.2.2.2.2.2.2.2.2.1.1,p2.2.2.2.2.2.2.2.2.2.1.2.1,p2.2.2.2.2.2.2.2.2.2.1.2.2.1,()),p2.2.2.2.2.2.2.2.2.2.2.1,p2.2.2.2.2.2.2.2.2.2.2.2.1,(p2.2.2.2.2.2.2.2.2.2.2.2.2.1.1,p2.2.2.2.2.2.2.2.2.2.2.2.2.1.2.1,p2.2.2.2.2.2.2.2.2.2.2.2.2.1.2.2.1,()),p2.2.2.2.2.2.2.2.2.2.2.2.2.2.1,p2.2.2.2.2.2.2.2.2.2.2.2.2.2.2.1,p2.2.2.2.2.2.2.2.2.2.2.2.2.2.2.2.1,p2.2.2.2.2.2.2.2.2.2.2.2.2.2.2.2.2.1,p2.2.2.2.2.2.2.2.2.2.2.2.2.2.2.2.2.2.1,p2.2.2.2.2.2.2.2.2.2.2.2.2.2.2.2.2.2.2.1,p2.2.2.2.2.2.2.2.2.2.2.2.2.2.2.2.2.2.2.2.1,p2.2.2.2.2.2.2.2.2.2.2.2.2.2.2.2.2.2.2.2.2.1,p2.2.2.2.2.2.2.2.2.2.2.2.2.2.2.2.2.2.2.2.2.2.1,p2.2.2.2.2.2.2.2.2.2.2.2.2.2.2.2.2.2.2.2.2.2.2.1,p2.2.2.2.2.2.2.2.2.2.2.2.2.2.2.2.2.2.2.2.2.2.2.2.1,p2.2.2.2.2.2.2.2.2.2.2.2.2.2.2.2.2.2.2.2.2.2.2.2.2.1,p2.2.2.2.2.2.2.2.2.2.2.2.2.2.2.2.2.2.2.2.2.2.2.2.2.2.1,p2.2.2.2.2.2.2.2.2.2.2.2.2.2.2.2.2.2.2.2.2.2.2.2.2.2.2.1,s_2,())
 ([InB (0:Int) 3,(wW3 p0),(v16=true→(vE8 v14o.1 (4:Int))),InB (1:Int) 3,(wW3 m0),(v16_1=true→(vE8 v14o_1.1 (4:Int))),InB (2:Int) 3,(wW3 m0_1),(v16_2=true→(vE8 v14o_2.1 (4:Int)))],(),((bif v16_2 then (wW8 v14o_2.1 (4:Int)).1 else v14o_2.1),(),s_3,()))
def vH5 (p0:D60)(p1:Unit)(p2:(Int×Int×Int×(List UInt8)×Bool×Bool×Bool×Int×Int×(Int×Int×(List Int)×Unit)×D43×Int×(Int×Int×(List D45)×Unit)×D45×Int×(List Int)×Int×(List D111)×(List D114)×Int×Int×Int×Int×(List UInt8)×Int×Int×Int×(Int×Int×Int×(List D106)×Unit)×Unit)):Prop:=yW6 (uW8 p0 p1 p2).1
def sS2 p0 p1 p2:=(uW8 p0 p1 p2).2.1
def uL8 p0 p1 p2:=(uW8 p0 p1 p2).2.2
instance (p0:D60)(p1:Unit)(p2:(Int×Int×Int×(List UInt8)×Bool×Bool×Bool×Int×Int×(Int×Int×(List Int)×Unit)×D43×Int×(Int×Int×(List D45)×Unit)×D45×Int×(List Int)×Int×(List D111)×(List D114)×Int×Int×Int×Int×(List UInt8)×Int×Int×Int×(Int×Int×Int×(List D106)×Unit)×Unit)):Decidable (vH5 p0 p1 p2):=by
 unfold vH5 uW8;dsimp only[yW6]
 infer_instance
noncomputable def tK9:List (Fb Tryz.prog):=[kb uU6,kb uU]
noncomputable def tU0:Ctx:={ Cx tys (Fb.l tK9) [] [] true 24 [0,1] [] with skip:=true,dead:=[999999] }
theorem tU1:CtxOk Tryz.prog tU0:=wI7 vD8 (by kernel_rfl) (Fb.all tK9) rfl (by kernel_rfl)
@[reducible] def uW9:List (Nat×Sh):=[(0,(.box T60 (.val T60))),(1,(.ptrs false [some (990001,T52,[.inl 4]),some (990001,T52,[.inl 5]),some (990001,T52,[.inl 6])])),(990001,(.box T52 (.agg (.cons (.int .i64) (.cons (.int .i64) (.cons (.int .i64) (.cons .str (.cons .bool (.cons .bool (.cons .bool (.cons (.int .i64) (.cons (.int .i64) (.cons T26 (.cons T43 (.cons (.int .i64) (.cons T23 (.cons T45 (.cons (.int .i64) (.cons (.sl (.int .i64)) (.cons (.int .i64) (.cons (.sl T111) (.cons (.sl T114) (.cons (.int .i64) (.cons (.int .i64) (.cons (.int .i64) (.cons (.int .i64) (.cons .str (.cons (.int .i64) (.cons (.int .i64) (.cons (.int .i64) (.cons T50 .nl)))))))))))))))))))))))))))) (.cons vI (.cons vI (.cons vI (.cons vS (.cons vB (.cons vB (.cons vB (.cons vI (.cons vI (.cons (.agg (.cons (.int .i64) (.cons (.int .i64) (.cons (.sl (.int .i64)) .nl))) (.cons vI (.cons vI (.cons (.own (.int .i64) 400100 false) .nl)))) (.cons (.val T43) (.cons vI (.cons (.agg (.cons (.int .i64) (.cons (.int .i64) (.cons (.sl T45) .nl))) (.cons vI (.cons vI (.cons (.own T45 400101 false) .nl)))) (.cons (.val T45) (.cons vI (.cons (.own (.int .i64) 400102 false) (.cons vI (.cons (.own T111 400103 false) (.cons (.own T114 400104 false) (.cons vI (.cons vI (.cons vI (.cons vI (.cons vS (.cons vI (.cons vI (.cons vI (.cons (.agg (.cons (.int .i64) (.cons (.int .i64) (.cons (.int .i64) (.cons (.sl T106) .nl)))) (.cons vI (.cons vI (.cons vI (.cons (.own T106 400105 false) .nl))))) .nl)))))))))))))))))))))))))))))))]
theorem sA1:SK 65 (xI1 uW9 (.tup .nl) uW9 (fun x=>vH5 x.1 x.2.1 x.2.2.1) (fun x=>sS2 x.1 x.2.1 x.2.2.1) (fun x=>uL8 x.1 x.2.1 x.2.2.1)):=wP (ps:=uW9) (p:=fun x=>(uW8 x.1 x.2.1 x.2.2.1).1) (lv:=[(0,[0,1,7,8,9,990001]),(1,[0,1,7,8,9,10,990001]),(2,[0,1,5,7,8,9,990001]),(3,[0,1,5,6,7,8,9,990001]),(4,[0,1,5,6,7,8,9,16,990001]),(5,[0,1,5,6,7,8,9,990001]),(6,[0,1,7,8,9,990001]),(7,[0,1,7,8,9,990001])]) tU1 mixed Tryz.func65 (fun _ h=>h) (by kernel_rfl) (fun x=>by kernel_rfl)
def uX (p0:D60)(p1:Unit)(p2:(Int×Int×Int×(List UInt8)×Bool×Bool×Bool×Int×Int×(Int×Int×(List Int)×Unit)×D43×Int×(Int×Int×(List D45)×Unit)×D45×Int×(List Int)×Int×(List D111)×(List D114)×Int×Int×Int×Int×(List UInt8)×Int×Int×Int×(Int×Int×Int×(List D106)×Unit)×Unit)):List Prop×(Unit)×(D60×Unit×(Int×Int×Int×(List UInt8)×Bool×Bool×Bool×Int×Int×(Int×Int×(List Int)×Unit)×D43×Int×(Int×Int×(List D45)×Unit)×D45×Int×(List Int)×Int×(List D111)×(List D114)×Int×Int×Int×Int×(List UInt8)×Int×Int×Int×(Int×Int×Int×(List D106)×Unit)×Unit)×Unit):=
 let v14o:=(wU1 p0)
 let s_2:=(p2.2.2.2.2.2.2.2.2.2.2.2.2.2.2.2.2.2.2.2.2.2.2.2.2.2.2.2.1.1,p2.2.2.2.2.2.2.2.2.2.2.2.2.2.2.2.2.2.2.2.2.2.2.2.2.2.2.2.1.2.1,p2.2.2.2.2.2.2.2.2.2.2.2.2.2.2.2.2.2.2.2.2.2.2.2.2.2.2.2.1.2.2.1,p2.2.2.2.2.2.2.2.2.2.2.2.2.2.2.2.2.2.2.2.2.2.2.2.2.2.2.2.1.2.2.2.1,())
 let s_3:=(p2.1,p2.2.1,p2.2.2.1,p2.2.2.2.1,p2.2.2.2.2.1,p2.2.2.2.2.2.1,p2.2.2.2.2.2.2.1,(wT4 p0),(wT4 v14o.1),(p2.2.2.2.2.2.2.2.2.2.1.1,p2.2.2.2.2.2.2.2.2.2.1.2.1,p2.2.2.2.2.2.2.2.2.2.1.2.2.1,()),p2.2.2.2.2.2.2.2.2.2.2.1,p2.2.2.2.2.2.2.2.2.2.2.2.1,(p2.2.2.2.2.2.2.2.2.2.2.2.2.1.1,p2.2.2.2.2.2.2.2.2.2.2.2.2.1.2.1,p2.2.2.2.2.2.2.2.2.2.2.2.2.1.2.2.1,()),p2.2.2.2.2.2.2.2.2.2.2.2.2.2.1,p2.2.2.2.2.2.2.2.2.2.2.2.2.2.2.1,p2.2.2.2.2.2.2.2.2.2.2.2.2.2.2.2.1,p2.2.2.2.2.2.2.2.2.2.2.2.2.2.2.2.2.1,p2.2.2.2.2.2.2.2.2.2.2.2.2.2.2.2.2.2.1,p2.2.2.2.2.2.2.2.2.2.2.2.2.2.2.2.2.2.2.1,p2.2.2.2.2.2.2.2.2.2.2.2.2.2.2.2.2.2.2.2.1,p2.2.2.2.2.2.2.2.2.2.2.2.2.2.2.2.2.2.2.2.2.1,p2.2.2.2.2.2.2.2.2.2.2.2.2.2.2.2.2.2.2.2.2.2.1,p2.2.2.2.2.2.2.2.2.2.2.2.2.2.2.2.2.2.2.2.2.2.2.1,p2.2.2.2.2.2.2.2.2.2.2.2.2.2.2.2.2.2.2.2.2.2.2.2.1,p2.2.2.2.2.2.2.2.2.2.2.2.2.2.2.2.2.2.2.2.2.2.2.2.2.1,p2.2.2.2.2.2.2.2.2.2.2.2.2.2.2.2.2.2.2.2.2.2.2.2.2.2.1,p2.2.2.2.2.2.2.2.2.2.2.2.2.2.2.2.2.2.2.2.2.2.2.2.2.2.2.1,s_2,())
 ([InB (0:Int) 2,(wT2 p0),InB (1:Int) 2,(wT2 v14o.1)],(),((wU1 v14o.1).1,(),s_3,()))
def vH6 (p0:D60)(p1:Unit)(p2:(Int×Int×Int×(List UInt8)×Bool×Bool×Bool×Int×Int×(Int×Int×(List Int)×Unit)×D43×Int×(Int×Int×(List D45)×Unit)×D45×Int×(List Int)×Int×(List D111)×(List D114)×Int×Int×Int×Int×(List UInt8)×Int×Int×Int×(Int×Int×Int×(List D106)×Unit)×Unit)):Prop:=yW6 (uX p0 p1 p2).1
def sS3 p0 p1 p2:=(uX p0 p1 p2).2.1
def uL9 p0 p1 p2:=(uX p0 p1 p2).2.2
instance (p0:D60)(p1:Unit)(p2:(Int×Int×Int×(List UInt8)×Bool×Bool×Bool×Int×Int×(Int×Int×(List Int)×Unit)×D43×Int×(Int×Int×(List D45)×Unit)×D45×Int×(List Int)×Int×(List D111)×(List D114)×Int×Int×Int×Int×(List UInt8)×Int×Int×Int×(Int×Int×Int×(List D106)×Unit)×Unit)):Decidable (vH6 p0 p1 p2):=by
 unfold vH6 uX;dsimp only[yW6]
 infer_instance
noncomputable def tL:List (Fb Tryz.prog):=[kb vD1]
noncomputable def tU2:Ctx:={ Cx tys (Fb.l tL) [] [] true 17 [0,1] [] with skip:=true,dead:=[999999] }
theorem tU3:CtxOk Tryz.prog tU2:=wI7 vD8 (by kernel_rfl) (Fb.all tL) rfl (by kernel_rfl)
@[reducible] def uX0:List (Nat×Sh):=[(0,(.box T60 (.val T60))),(1,(.ptrs false [some (990001,T52,[.inl 7]),some (990001,T52,[.inl 8])])),(990001,(.box T52 (.agg (.cons (.int .i64) (.cons (.int .i64) (.cons (.int .i64) (.cons .str (.cons .bool (.cons .bool (.cons .bool (.cons (.int .i64) (.cons (.int .i64) (.cons T26 (.cons T43 (.cons (.int .i64) (.cons T23 (.cons T45 (.cons (.int .i64) (.cons (.sl (.int .i64)) (.cons (.int .i64) (.cons (.sl T111) (.cons (.sl T114) (.cons (.int .i64) (.cons (.int .i64) (.cons (.int .i64) (.cons (.int .i64) (.cons .str (.cons (.int .i64) (.cons (.int .i64) (.cons (.int .i64) (.cons T50 .nl)))))))))))))))))))))))))))) (.cons vI (.cons vI (.cons vI (.cons vS (.cons vB (.cons vB (.cons vB (.cons vI (.cons vI (.cons (.agg (.cons (.int .i64) (.cons (.int .i64) (.cons (.sl (.int .i64)) .nl))) (.cons vI (.cons vI (.cons (.own (.int .i64) 400100 false) .nl)))) (.cons (.val T43) (.cons vI (.cons (.agg (.cons (.int .i64) (.cons (.int .i64) (.cons (.sl T45) .nl))) (.cons vI (.cons vI (.cons (.own T45 400101 false) .nl)))) (.cons (.val T45) (.cons vI (.cons (.own (.int .i64) 400102 false) (.cons vI (.cons (.own T111 400103 false) (.cons (.own T114 400104 false) (.cons vI (.cons vI (.cons vI (.cons vI (.cons vS (.cons vI (.cons vI (.cons vI (.cons (.agg (.cons (.int .i64) (.cons (.int .i64) (.cons (.int .i64) (.cons (.sl T106) .nl)))) (.cons vI (.cons vI (.cons vI (.cons (.own T106 400105 false) .nl))))) .nl)))))))))))))))))))))))))))))))]
theorem sA2:SK 63 (xI1 uX0 (.tup .nl) uX0 (fun x=>vH6 x.1 x.2.1 x.2.2.1) (fun x=>sS3 x.1 x.2.1 x.2.2.1) (fun x=>uL9 x.1 x.2.1 x.2.2.1)):=wP (ps:=uX0) (p:=fun x=>(uX x.1 x.2.1 x.2.2.1).1) (lv:=[(0,[0,1,6,7,8,990001]),(1,[0,1,6,7,8,9,990001]),(2,[0,1,5,6,7,8,990001]),(3,[0,1,6,7,8,990001]),(4,[0,1,6,7,8,990001])]) tU3 mixed Tryz.func63 (fun _ h=>h) (by kernel_rfl) (fun x=>by kernel_rfl)
def uX1 (p0:D60)(p1:Unit)(p2:(Int×Int×Int×(List UInt8)×Bool×Bool×Bool×Int×Int×D26×D43×Int×(Int×Int×(List D45)×Unit)×D45×Int×(List Int)×Int×(List D111)×(List D114)×Int×Int×Int×Int×(List UInt8)×Int×Int×Int×(Int×Int×Int×(List D106)×Unit)×Unit)):List Prop×(Unit)×(D60×Unit×(Int×Int×Int×(List UInt8)×Bool×Bool×Bool×Int×Int×D26×D43×Int×(Int×Int×(List D45)×Unit)×D45×Int×(List Int)×Int×(List D111)×(List D114)×Int×Int×Int×Int×(List UInt8)×Int×Int×Int×(Int×Int×Int×(List D106)×Unit)×Unit)×Unit):=
 let v14o:=(wU1 p0)
 let v14o_1:=(wU1 v14o.1)
 let v14o_2:=(wU1 v14o_1.1)
 let v14o_3:=(wU1 v14o_2.1)
 let v14o_4:=(wU1 v14o_3.1)
 let v14o_5:=(wU1 v14o_4.1)
 let s_7:=(p2.2.2.2.2.2.2.2.2.2.2.2.2.2.2.2.2.2.2.2.2.2.2.2.2.2.2.2.1.1,p2.2.2.2.2.2.2.2.2.2.2.2.2.2.2.2.2.2.2.2.2.2.2.2.2.2.2.2.1.2.1,p2.2.2.2.2.2.2.2.2.2.2.2.2.2.2.2.2.2.2.2.2.2.2.2.2.2.2.2.1.2.2.1,p2.2.2.2.2.2.2.2.2.2.2.2.2.2.2.2.2.2.2.2.2.2.2.2.2.2.2.2.1.2.2.2.1,())
 let s_8:=(p2.1,p2.2.1,p2.2.2.1,p2.2.2.2.1,p2.2.2.2.2.1,p2.2.2.2.2.2.1,p2.2.2.2.2.2.2.1,p2.2.2.2.2.2.2.2.1,p2.2.2.2.2.2.2.2.2.1,p2.2.2.2.2.2.2.2.2.2.1,((wT4 p0),(wT4 v14o.1),(wT4 v14o_1.1),(wT4 v14o_2.1),(wT4 v14o_3.1),(wT4 v14o_4.1),()),(wT4 v14o_5.1),(p2.2.2.2.2.2.2.2.2.2.2.2.2.1.1,p2.2.2.2.2.2.2.2.2.2.2.2.2.1.2.1,p2.2.2.2.2.2.2.2.2.2.2.2.2.1.2.2.1,()),p2.2.2.2.2.2.2.2.2.2.2.2.2.2.1,p2.2.2.2.2.2.2.2.2.2.2.2.2.2.2.1,p2.2.2.2.2.2.2.2.2.2.2.2.2.2.2.2.1,p2.2.2.2.2.2.2.2.2.2.2.2.2.2.2.2.2.1,p2.2.2.2.2.2.2.2.2.2.2.2.2.2.2.2.2.2.1,p2.2.2.2.2.2.2.2.2.2.2.2.2.2.2.2.2.2.2.1,p2.2.2.2.2.2.2.2.2.2.2.2.2.2.2.2.2.2.2.2.1,p2.2.2.2.2.2.2.2.2.2.2.2.2.2.2.2.2.2.2.2.2.1,p2.2.2.2.2.2.2.2.2.2.2.2.2.2.2.2.2.2.2.2.2.2.1,p2.2.2.2.2.2.2.2.2.2.2.2.2.2.2.2.2.2.2.2.2.2.2.1,p2.2.2.2.2.2.2.2.2.2.2.2.2.2.2.2.2.2.2.2.2.2.2.2.1,p2.2.2.2.2.2.2.2.2.2.2.2.2.2.2.2.2.2.2.2.2.2.2.2.2.1,p2.2.2.2.2.2.2.2.2.2.2.2.2.2.2.2.2.2.2.2.2.2.2.2.2.2.1,p2.2.2.2.2.2.2.2.2.2.2.2.2.2.2.2.2.2.2.2.2.2.2.2.2.2.2.1,s_7,())
 ([InB (0:Int) 7,(wT2 p0),InB (1:Int) 7,(wT2 v14o.1),InB (2:Int) 7,(wT2 v14o_1.1),InB (3:Int) 7,(wT2 v14o_2.1),InB (4:Int) 7,(wT2 v14o_3.1),InB (5:Int) 7,(wT2 v14o_4.1),InB (6:Int) 7,(wT2 v14o_5.1)],(),((wU1 v14o_5.1).1,(),s_8,()))
def vH7 (p0:D60)(p1:Unit)(p2:(Int×Int×Int×(List UInt8)×Bool×Bool×Bool×Int×Int×D26×D43×Int×(Int×Int×(List D45)×Unit)×D45×Int×(List Int)×Int×(List D111)×(List D114)×Int×Int×Int×Int×(List UInt8)×Int×Int×Int×(Int×Int×Int×(List D106)×Unit)×Unit)):Prop:=yW6 (uX1 p0 p1 p2).1
def sS4 p0 p1 p2:=(uX1 p0 p1 p2).2.1
def uM p0 p1 p2:=(uX1 p0 p1 p2).2.2
instance (p0:D60)(p1:Unit)(p2:(Int×Int×Int×(List UInt8)×Bool×Bool×Bool×Int×Int×D26×D43×Int×(Int×Int×(List D45)×Unit)×D45×Int×(List Int)×Int×(List D111)×(List D114)×Int×Int×Int×Int×(List UInt8)×Int×Int×Int×(Int×Int×Int×(List D106)×Unit)×Unit)):Decidable (vH7 p0 p1 p2):=by
 unfold vH7 uX1;dsimp only[yW6]
 infer_instance
noncomputable def tL0:List (Fb Tryz.prog):=[kb vD1]
noncomputable def tU4:Ctx:={ Cx tys (Fb.l tL0) [] [] true 17 [0,1] [] with skip:=true,dead:=[999999] }
theorem tU5:CtxOk Tryz.prog tU4:=wI7 vD8 (by kernel_rfl) (Fb.all tL0) rfl (by kernel_rfl)
@[reducible] def uX2:List (Nat×Sh):=[(0,(.box T60 (.val T60))),(1,(.ptrs false [some (990001,T52,[.inl 10,.inl 0]),some (990001,T52,[.inl 10,.inl 1]),some (990001,T52,[.inl 10,.inl 2]),some (990001,T52,[.inl 10,.inl 3]),some (990001,T52,[.inl 10,.inl 4]),some (990001,T52,[.inl 10,.inl 5]),some (990001,T52,[.inl 11])])),(990001,(.box T52 (.agg (.cons (.int .i64) (.cons (.int .i64) (.cons (.int .i64) (.cons .str (.cons .bool (.cons .bool (.cons .bool (.cons (.int .i64) (.cons (.int .i64) (.cons T26 (.cons T43 (.cons (.int .i64) (.cons T23 (.cons T45 (.cons (.int .i64) (.cons (.sl (.int .i64)) (.cons (.int .i64) (.cons (.sl T111) (.cons (.sl T114) (.cons (.int .i64) (.cons (.int .i64) (.cons (.int .i64) (.cons (.int .i64) (.cons .str (.cons (.int .i64) (.cons (.int .i64) (.cons (.int .i64) (.cons T50 .nl)))))))))))))))))))))))))))) (.cons vI (.cons vI (.cons vI (.cons vS (.cons vB (.cons vB (.cons vB (.cons vI (.cons vI (.cons (.val T26) (.cons (.val T43) (.cons vI (.cons (.agg (.cons (.int .i64) (.cons (.int .i64) (.cons (.sl T45) .nl))) (.cons vI (.cons vI (.cons (.own T45 400101 false) .nl)))) (.cons (.val T45) (.cons vI (.cons (.own (.int .i64) 400102 false) (.cons vI (.cons (.own T111 400103 false) (.cons (.own T114 400104 false) (.cons vI (.cons vI (.cons vI (.cons vI (.cons vS (.cons vI (.cons vI (.cons vI (.cons (.agg (.cons (.int .i64) (.cons (.int .i64) (.cons (.int .i64) (.cons (.sl T106) .nl)))) (.cons vI (.cons vI (.cons vI (.cons (.own T106 400105 false) .nl))))) .nl)))))))))))))))))))))))))))))))]
theorem sA3:SK 63 (xI1 uX2 (.tup .nl) uX2 (fun x=>vH7 x.1 x.2.1 x.2.2.1) (fun x=>sS4 x.1 x.2.1 x.2.2.1) (fun x=>uM x.1 x.2.1 x.2.2.1)):=wP (ps:=uX2) (p:=fun x=>(uX1 x.1 x.2.1 x.2.2.1).1) (lv:=[(0,[0,1,6,7,8,990001]),(1,[0,1,6,7,8,9,990001]),(2,[0,1,5,6,7,8,990001]),(3,[0,1,6,7,8,990001]),(4,[0,1,6,7,8,990001])]) tU5 mixed Tryz.func63 (fun _ h=>h) (by kernel_rfl) (fun x=>by kernel_rfl)
def uX3 (p0:D60)(p1:Unit)(p2:(Int×Int×Int×(List UInt8)×Bool×Bool×Bool×Int×Int×D26×D43×Int×D23×D45×Int×(List Int)×Int×(List D111)×(List D114)×Int×Int×Int×Int×(List UInt8)×Int×Int×Int×(Int×Int×Int×(List D106)×Unit)×Unit)):List Prop×(Unit)×(D60×Unit×(Int×Int×Int×(List UInt8)×Bool×Bool×Bool×Int×Int×D26×D43×Int×D23×D45×Int×(List Int)×Int×(List D111)×(List D114)×Int×Int×Int×Int×(List UInt8)×Int×Int×Int×(Int×Int×Int×(List D106)×Unit)×Unit)×Unit):=
 let v14o:=(wU1 p0)
 let v14o_1:=(wU1 v14o.1)
 let v14o_2:=(wU1 v14o_1.1)
 let v14o_3:=(wU1 v14o_2.1)
 let s_4:=(p2.2.2.2.2.2.2.2.2.2.2.2.2.2.2.2.2.2.2.2.2.2.2.2.2.2.2.2.1.1,p2.2.2.2.2.2.2.2.2.2.2.2.2.2.2.2.2.2.2.2.2.2.2.2.2.2.2.2.1.2.1,p2.2.2.2.2.2.2.2.2.2.2.2.2.2.2.2.2.2.2.2.2.2.2.2.2.2.2.2.1.2.2.1,p2.2.2.2.2.2.2.2.2.2.2.2.2.2.2.2.2.2.2.2.2.2.2.2.2.2.2.2.1.2.2.2.1,())
 let s_5:=(p2.1,p2.2.1,p2.2.2.1,p2.2.2.2.1,p2.2.2.2.2.1,p2.2.2.2.2.2.1,p2.2.2.2.2.2.2.1,p2.2.2.2.2.2.2.2.1,p2.2.2.2.2.2.2.2.2.1,p2.2.2.2.2.2.2.2.2.2.1,p2.2.2.2.2.2.2.2.2.2.2.1,p2.2.2.2.2.2.2.2.2.2.2.2.1,p2.2.2.2.2.2.2.2.2.2.2.2.2.1,((wT4 p0),(wT4 v14o.1),(wT4 v14o_1.1),(wT4 v14o_2.1),()),(wT4 v14o_3.1),p2.2.2.2.2.2.2.2.2.2.2.2.2.2.2.2.1,p2.2.2.2.2.2.2.2.2.2.2.2.2.2.2.2.2.1,p2.2.2.2.2.2.2.2.2.2.2.2.2.2.2.2.2.2.1,p2.2.2.2.2.2.2.2.2.2.2.2.2.2.2.2.2.2.2.1,p2.2.2.2.2.2.2.2.2.2.2.2.2.2.2.2.2.2.2.2.1,p2.2.2.2.2.2.2.2.2.2.2.2.2.2.2.2.2.2.2.2.2.1,p2.2.2.2.2.2.2.2.2.2.2.2.2.2.2.2.2.2.2.2.2.2.1,p2.2.2.2.2.2.2.2.2.2.2.2.2.2.2.2.2.2.2.2.2.2.2.1,p2.2.2.2.2.2.2.2.2.2.2.2.2.2.2.2.2.2.2.2.2.2.2.2.1,p2.2.2.2.2.2.2.2.2.2.2.2.2.2.2.2.2.2.2.2.2.2.2.2.2.1,p2.2.2.2.2.2.2.2.2.2.2.2.2.2.2.2.2.2.2.2.2.2.2.2.2.2.1,p2.2.2.2.2.2.2.2.2.2.2.2.2.2.2.2.2.2.2.2.2.2.2.2.2.2.2.1,s_4,())
 ([InB (0:Int) 5,(wT2 p0),InB (1:Int) 5,(wT2 v14o.1),InB (2:Int) 5,(wT2 v14o_1.1),InB (3:Int) 5,(wT2 v14o_2.1),InB (4:Int) 5,(wT2 v14o_3.1)],(),((wU1 v14o_3.1).1,(),s_5,()))
def vH8 (p0:D60)(p1:Unit)(p2:(Int×Int×Int×(List UInt8)×Bool×Bool×Bool×Int×Int×D26×D43×Int×D23×D45×Int×(List Int)×Int×(List D111)×(List D114)×Int×Int×Int×Int×(List UInt8)×Int×Int×Int×(Int×Int×Int×(List D106)×Unit)×Unit)):Prop:=yW6 (uX3 p0 p1 p2).1
def sS5 p0 p1 p2:=(uX3 p0 p1 p2).2.1
def uM0 p0 p1 p2:=(uX3 p0 p1 p2).2.2
instance (p0:D60)(p1:Unit)(p2:(Int×Int×Int×(List UInt8)×Bool×Bool×Bool×Int×Int×D26×D43×Int×D23×D45×Int×(List Int)×Int×(List D111)×(List D114)×Int×Int×Int×Int×(List UInt8)×Int×Int×Int×(Int×Int×Int×(List D106)×Unit)×Unit)):Decidable (vH8 p0 p1 p2):=by
 unfold vH8 uX3;dsimp only[yW6]
 infer_instance
noncomputable def tL1:List (Fb Tryz.prog):=[kb vD1]
noncomputable def tU6:Ctx:={ Cx tys (Fb.l tL1) [] [] true 17 [0,1] [] with skip:=true,dead:=[999999] }
theorem tU7:CtxOk Tryz.prog tU6:=wI7 vD8 (by kernel_rfl) (Fb.all tL1) rfl (by kernel_rfl)
@[reducible] def uX4:List (Nat×Sh):=[(0,(.box T60 (.val T60))),(1,(.ptrs false [some (990001,T52,[.inl 13,.inl 0]),some (990001,T52,[.inl 13,.inl 1]),some (990001,T52,[.inl 13,.inl 2]),some (990001,T52,[.inl 13,.inl 3]),some (990001,T52,[.inl 14])])),(990001,(.box T52 (.agg (.cons (.int .i64) (.cons (.int .i64) (.cons (.int .i64) (.cons .str (.cons .bool (.cons .bool (.cons .bool (.cons (.int .i64) (.cons (.int .i64) (.cons T26 (.cons T43 (.cons (.int .i64) (.cons T23 (.cons T45 (.cons (.int .i64) (.cons (.sl (.int .i64)) (.cons (.int .i64) (.cons (.sl T111) (.cons (.sl T114) (.cons (.int .i64) (.cons (.int .i64) (.cons (.int .i64) (.cons (.int .i64) (.cons .str (.cons (.int .i64) (.cons (.int .i64) (.cons (.int .i64) (.cons T50 .nl)))))))))))))))))))))))))))) (.cons vI (.cons vI (.cons vI (.cons vS (.cons vB (.cons vB (.cons vB (.cons vI (.cons vI (.cons (.val T26) (.cons (.val T43) (.cons vI (.cons (.val T23) (.cons (.val T45) (.cons vI (.cons (.own (.int .i64) 400102 false) (.cons vI (.cons (.own T111 400103 false) (.cons (.own T114 400104 false) (.cons vI (.cons vI (.cons vI (.cons vI (.cons vS (.cons vI (.cons vI (.cons vI (.cons (.agg (.cons (.int .i64) (.cons (.int .i64) (.cons (.int .i64) (.cons (.sl T106) .nl)))) (.cons vI (.cons vI (.cons vI (.cons (.own T106 400105 false) .nl))))) .nl)))))))))))))))))))))))))))))))]
theorem sA4:SK 63 (xI1 uX4 (.tup .nl) uX4 (fun x=>vH8 x.1 x.2.1 x.2.2.1) (fun x=>sS5 x.1 x.2.1 x.2.2.1) (fun x=>uM0 x.1 x.2.1 x.2.2.1)):=wP (ps:=uX4) (p:=fun x=>(uX3 x.1 x.2.1 x.2.2.1).1) (lv:=[(0,[0,1,6,7,8,990001]),(1,[0,1,6,7,8,9,990001]),(2,[0,1,5,6,7,8,990001]),(3,[0,1,6,7,8,990001]),(4,[0,1,6,7,8,990001])]) tU7 mixed Tryz.func63 (fun _ h=>h) (by kernel_rfl) (fun x=>by kernel_rfl)
def uX5 (p0:D60)(p1:Unit)(p2:(Int×Int×Int×(List UInt8)×Bool×Bool×Bool×Int×Int×D26×D43×Int×D23×D45×Int×(List Int)×Int×(List D111)×(List D114)×Int×Int×Int×Int×(List UInt8)×Int×Int×Int×(Int×Int×Int×(List D106)×Unit)×Unit)):List Prop×(Unit)×(D60×Unit×(Int×Int×Int×(List UInt8)×Bool×Bool×Bool×Int×Int×D26×D43×Int×D23×D45×Int×(List Int)×Int×(List D111)×(List D114)×Int×Int×Int×Int×(List UInt8)×Int×Int×Int×(Int×Int×Int×(List D106)×Unit)×Unit)×Unit):=
 let s:=(p2.2.2.2.2.2.2.2.2.2.2.2.2.2.2.2.2.2.2.2.2.2.2.2.2.2.2.2.1.1,p2.2.2.2.2.2.2.2.2.2.2.2.2.2.2.2.2.2.2.2.2.2.2.2.2.2.2.2.1.2.1,p2.2.2.2.2.2.2.2.2.2.2.2.2.2.2.2.2.2.2.2.2.2.2.2.2.2.2.2.1.2.2.1,p2.2.2.2.2.2.2.2.2.2.2.2.2.2.2.2.2.2.2.2.2.2.2.2.2.2.2.2.1.2.2.2.1,())
 let s_1:=(p2.1,p2.2.1,p2.2.2.1,p2.2.2.2.1,p2.2.2.2.2.1,p2.2.2.2.2.2.1,p2.2.2.2.2.2.2.1,p2.2.2.2.2.2.2.2.1,p2.2.2.2.2.2.2.2.2.1,p2.2.2.2.2.2.2.2.2.2.1,p2.2.2.2.2.2.2.2.2.2.2.1,p2.2.2.2.2.2.2.2.2.2.2.2.1,p2.2.2.2.2.2.2.2.2.2.2.2.2.1,p2.2.2.2.2.2.2.2.2.2.2.2.2.2.1,p2.2.2.2.2.2.2.2.2.2.2.2.2.2.2.1,p2.2.2.2.2.2.2.2.2.2.2.2.2.2.2.2.1,(wT4 p0),p2.2.2.2.2.2.2.2.2.2.2.2.2.2.2.2.2.2.1,p2.2.2.2.2.2.2.2.2.2.2.2.2.2.2.2.2.2.2.1,p2.2.2.2.2.2.2.2.2.2.2.2.2.2.2.2.2.2.2.2.1,p2.2.2.2.2.2.2.2.2.2.2.2.2.2.2.2.2.2.2.2.2.1,p2.2.2.2.2.2.2.2.2.2.2.2.2.2.2.2.2.2.2.2.2.2.1,p2.2.2.2.2.2.2.2.2.2.2.2.2.2.2.2.2.2.2.2.2.2.2.1,p2.2.2.2.2.2.2.2.2.2.2.2.2.2.2.2.2.2.2.2.2.2.2.2.1,p2.2.2.2.2.2.2.2.2.2.2.2.2.2.2.2.2.2.2.2.2.2.2.2.2.1,p2.2.2.2.2.2.2.2.2.2.2.2.2.2.2.2.2.2.2.2.2.2.2.2.2.2.1,p2.2.2.2.2.2.2.2.2.2.2.2.2.2.2.2.2.2.2.2.2.2.2.2.2.2.2.1,s,())
 ([InB (0:Int) 1,(wT2 p0)],(),((wU1 p0).1,(),s_1,()))
def vH9 (p0:D60)(p1:Unit)(p2:(Int×Int×Int×(List UInt8)×Bool×Bool×Bool×Int×Int×D26×D43×Int×D23×D45×Int×(List Int)×Int×(List D111)×(List D114)×Int×Int×Int×Int×(List UInt8)×Int×Int×Int×(Int×Int×Int×(List D106)×Unit)×Unit)):Prop:=yW6 (uX5 p0 p1 p2).1
def sS6 p0 p1 p2:=(uX5 p0 p1 p2).2.1
def uM1 p0 p1 p2:=(uX5 p0 p1 p2).2.2
instance (p0:D60)(p1:Unit)(p2:(Int×Int×Int×(List UInt8)×Bool×Bool×Bool×Int×Int×D26×D43×Int×D23×D45×Int×(List Int)×Int×(List D111)×(List D114)×Int×Int×Int×Int×(List UInt8)×Int×Int×Int×(Int×Int×Int×(List D106)×Unit)×Unit)):Decidable (vH9 p0 p1 p2):=by
 unfold vH9 uX5;dsimp only[yW6]
 infer_instance
noncomputable def tL2:List (Fb Tryz.prog):=[kb vD1]
noncomputable def tU8:Ctx:={ Cx tys (Fb.l tL2) [] [] true 17 [0,1] [] with skip:=true,dead:=[999999] }
theorem tU9:CtxOk Tryz.prog tU8:=wI7 vD8 (by kernel_rfl) (Fb.all tL2) rfl (by kernel_rfl)
@[reducible] def uX6:List (Nat×Sh):=[(0,(.box T60 (.val T60))),(1,(.ptrs false [some (990001,T52,[.inl 16])])),(990001,(.box T52 (.agg (.cons (.int .i64) (.cons (.int .i64) (.cons (.int .i64) (.cons .str (.cons .bool (.cons .bool (.cons .bool (.cons (.int .i64) (.cons (.int .i64) (.cons T26 (.cons T43 (.cons (.int .i64) (.cons T23 (.cons T45 (.cons (.int .i64) (.cons (.sl (.int .i64)) (.cons (.int .i64) (.cons (.sl T111) (.cons (.sl T114) (.cons (.int .i64) (.cons (.int .i64) (.cons (.int .i64) (.cons (.int .i64) (.cons .str (.cons (.int .i64) (.cons (.int .i64) (.cons (.int .i64) (.cons T50 .nl)))))))))))))))))))))))))))) (.cons vI (.cons vI (.cons vI (.cons vS (.cons vB (.cons vB (.cons vB (.cons vI (.cons vI (.cons (.val T26) (.cons (.val T43) (.cons vI (.cons (.val T23) (.cons (.val T45) (.cons vI (.cons (.own (.int .i64) 400102 false) (.cons vI (.cons (.own T111 400103 false) (.cons (.own T114 400104 false) (.cons vI (.cons vI (.cons vI (.cons vI (.cons vS (.cons vI (.cons vI (.cons vI (.cons (.agg (.cons (.int .i64) (.cons (.int .i64) (.cons (.int .i64) (.cons (.sl T106) .nl)))) (.cons vI (.cons vI (.cons vI (.cons (.own T106 400105 false) .nl))))) .nl)))))))))))))))))))))))))))))))]
theorem sA5:SK 63 (xI1 uX6 (.tup .nl) uX6 (fun x=>vH9 x.1 x.2.1 x.2.2.1) (fun x=>sS6 x.1 x.2.1 x.2.2.1) (fun x=>uM1 x.1 x.2.1 x.2.2.1)):=wP (ps:=uX6) (p:=fun x=>(uX5 x.1 x.2.1 x.2.2.1).1) (lv:=[(0,[0,1,6,7,8,990001]),(1,[0,1,6,7,8,9,990001]),(2,[0,1,5,6,7,8,990001]),(3,[0,1,6,7,8,990001]),(4,[0,1,6,7,8,990001])]) tU9 mixed Tryz.func63 (fun _ h=>h) (by kernel_rfl) (fun x=>by kernel_rfl)
def uX7 (p0:D60)(p1:Unit)(p2:D111):List Prop×(Unit)×(D60×Unit×D111×Unit):=
 let v14o:=(wU1 p0)
 let v14o_1:=(wU1 v14o.1)
 let v14o_2:=(wU1 v14o_1.1)
 let v14o_3:=(wU1 v14o_2.1)
 ([InB (0:Int) 5,(wT2 p0),InB (1:Int) 5,(wT2 v14o.1),InB (2:Int) 5,(wT2 v14o_1.1),InB (3:Int) 5,(wT2 v14o_2.1),InB (4:Int) 5,(wT2 v14o_3.1)],(),((wU1 v14o_3.1).1,(),((wT4 p0),((wT4 v14o.1),(wT4 v14o_1.1),(wT4 v14o_2.1),(wT4 v14o_3.1),()),()),()))
def uM2 (p0:D60)(p1:Unit)(p2:D111):Prop:=yW6 (uX7 p0 p1 p2).1
def sS7 p0 p1 p2:=(uX7 p0 p1 p2).2.1
def tR6 p0 p1 p2:=(uX7 p0 p1 p2).2.2
instance (p0:D60)(p1:Unit)(p2:D111):Decidable (uM2 p0 p1 p2):=by
 unfold uM2 uX7;dsimp only[yW6]
 infer_instance
noncomputable def tL3:List (Fb Tryz.prog):=[kb vD1]
noncomputable def tV:Ctx:={ Cx tys (Fb.l tL3) [] [] true 17 [0,1] [] with skip:=true,dead:=[999999] }
theorem tV0:CtxOk Tryz.prog tV:=wI7 vD8 (by kernel_rfl) (Fb.all tL3) rfl (by kernel_rfl)
@[reducible] def uX8:List (Nat×Sh):=[(0,(.box T60 (.val T60))),(1,(.ptrs false [some (990001,T111,[.inl 0]),some (990001,T111,[.inl 1,.inl 0]),some (990001,T111,[.inl 1,.inl 1]),some (990001,T111,[.inl 1,.inl 2]),some (990001,T111,[.inl 1,.inl 3])])),(990001,(.box T111 (.val T111)))]
theorem sA6:SK 63 (xI1 uX8 (.tup .nl) uX8 (fun x=>uM2 x.1 x.2.1 x.2.2.1) (fun x=>sS7 x.1 x.2.1 x.2.2.1) (fun x=>tR6 x.1 x.2.1 x.2.2.1)):=wP (ps:=uX8) (p:=fun x=>(uX7 x.1 x.2.1 x.2.2.1).1) (lv:=[(0,[0,1,6,7,8,990001]),(1,[0,1,6,7,8,9,990001]),(2,[0,1,5,6,7,8,990001]),(3,[0,1,6,7,8,990001]),(4,[0,1,6,7,8,990001])]) tV0 mixed Tryz.func63 (fun _ h=>h) (by kernel_rfl) (fun x=>by kernel_rfl)
def uX9 (p0:D60)(p1:Unit)(p2:D114):List Prop×(Unit)×(D60×Unit×D114×Unit):=
 ([InB (0:Int) 1,(wT2 p0)],(),((wU1 p0).1,(),((wT4 p0),p2.2.1,()),()))
def uM3 (p0:D60)(p1:Unit)(p2:D114):Prop:=yW6 (uX9 p0 p1 p2).1
def sS8 p0 p1 p2:=(uX9 p0 p1 p2).2.1
def tR7 p0 p1 p2:=(uX9 p0 p1 p2).2.2
instance (p0:D60)(p1:Unit)(p2:D114):Decidable (uM3 p0 p1 p2):=by
 unfold uM3 uX9;dsimp only[yW6]
 infer_instance
noncomputable def tL4:List (Fb Tryz.prog):=[kb vD1]
noncomputable def tV1:Ctx:={ Cx tys (Fb.l tL4) [] [] true 17 [0,1] [] with skip:=true,dead:=[999999] }
theorem tV2:CtxOk Tryz.prog tV1:=wI7 vD8 (by kernel_rfl) (Fb.all tL4) rfl (by kernel_rfl)
@[reducible] def uY:List (Nat×Sh):=[(0,(.box T60 (.val T60))),(1,(.ptrs false [some (990001,T114,[.inl 0])])),(990001,(.box T114 (.val T114)))]
theorem sA7:SK 63 (xI1 uY (.tup .nl) uY (fun x=>uM3 x.1 x.2.1 x.2.2.1) (fun x=>sS8 x.1 x.2.1 x.2.2.1) (fun x=>tR7 x.1 x.2.1 x.2.2.1)):=wP (ps:=uY) (p:=fun x=>(uX9 x.1 x.2.1 x.2.2.1).1) (lv:=[(0,[0,1,6,7,8,990001]),(1,[0,1,6,7,8,9,990001]),(2,[0,1,5,6,7,8,990001]),(3,[0,1,6,7,8,990001]),(4,[0,1,6,7,8,990001])]) tV2 mixed Tryz.func63 (fun _ h=>h) (by kernel_rfl) (fun x=>by kernel_rfl)
def uY0 (p0:D60)(p1:(Int×Int×Unit))(p2:D114):List Prop×(Unit)×(D60×(Int×Int×Unit)×D114×Unit):=
 let v14o:=(wU1 p0)
 let s_1:=(List.set p2.2.1 (Int.toNat p1.1) ((wT4 p0),(nth p2.2.1 p1.1 Z106).2.1,()))
 ([InB (0:Int) 2,(wT2 p0),InB (1:Int) 2,(wT2 v14o.1)],(),((wU1 v14o.1).1,(p1.1,p1.2.1,()),(p2.1,(List.set s_1 (Int.toNat p1.2.1) ((nth s_1 p1.2.1 Z106).1,(wT4 v14o.1),())),()),()))
def uM4 (p0:D60)(p1:(Int×Int×Unit))(p2:D114):Prop:=yW6 (uY0 p0 p1 p2).1
def sS9 p0 p1 p2:=(uY0 p0 p1 p2).2.1
def tR8 p0 p1 p2:=(uY0 p0 p1 p2).2.2
instance (p0:D60)(p1:(Int×Int×Unit))(p2:D114):Decidable (uM4 p0 p1 p2):=by
 unfold uM4 uY0;dsimp only[yW6]
 infer_instance
noncomputable def tL5:List (Fb Tryz.prog):=[kb vD1]
noncomputable def tV3:Ctx:={ Cx tys (Fb.l tL5) [] [] true 17 [0,1] [] with skip:=true,dead:=[999999] }
theorem tV4:CtxOk Tryz.prog tV3:=wI7 vD8 (by kernel_rfl) (Fb.all tL5) rfl (by kernel_rfl)
@[reducible] def uY1:List (Nat×Sh):=[(0,(.box T60 (.val T60))),(1,(.ptrs false [some (990001,T114,[.inl 1,.inr 0,.inl 0]),some (990001,T114,[.inl 1,.inr 0,.inl 1])])),(990001,(.box T114 (.val T114)))]
theorem sA8:SK 63 (xI1 uY1 (.tup .nl) uY1 (fun x=>uM4 x.1 x.2.1 x.2.2.1) (fun x=>sS9 x.1 x.2.1 x.2.2.1) (fun x=>tR8 x.1 x.2.1 x.2.2.1)):=wP (ps:=uY1) (p:=fun x=>(uY0 x.1 x.2.1 x.2.2.1).1) (lv:=[(0,[0,1,6,7,8,990001]),(1,[0,1,6,7,8,9,990001]),(2,[0,1,5,6,7,8,990001]),(3,[0,1,6,7,8,990001]),(4,[0,1,6,7,8,990001])]) tV4 mixed Tryz.func63 (fun _ h=>h) (by kernel_rfl) (fun x=>by kernel_rfl)
end Go.Proofs.YtbiemgjkkhkdeaaGreatDoor.Am
