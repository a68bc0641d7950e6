/- Printed by program, part 2. No condition. -/
import Derived.Test.YtbiemgjkkhkdeaaGreatDoorNatP1
set_option linter.unusedVariables false
set_option synthInstance.maxSize 4000
set_option synthInstance.maxHeartbeats 400000
namespace Go.Proofs.YtbiemgjkkhkdeaaGreatDoor.Am
open Go Go.Am Go.Proofs
abbrev vT9:Type:=(D52×Unit)
abbrev vK2:Type:=((List UInt8)×Int×Unit)
def uL (y:vT9)(x:vK2):Prop×Bool×vK2:=
 let a1:=y.1
 let a3:=x.1
 let a4:=x.2.1
 let v114:=(decide (a4<(len a1.2.2.2.2.2.2.2.2.2.2.2.2.2.2.2.2.2.1)))
 let v121:=(nth a1.2.2.2.2.2.2.2.2.2.2.2.2.2.2.2.2.2.1 a4 Z111)
 let v124:=(f58 v121.1)
 let v125:=(a3++v124)
 let v129:=(nth a1.2.2.2.2.2.2.2.2.2.2.2.2.2.2.2.2.2.1 a4 Z111)
 let v132:=(f61 v129.2.1)
 ((v114=true→(InB a4 (len a1.2.2.2.2.2.2.2.2.2.2.2.2.2.2.2.2.2.1)∧((wV v121.1)∧(((List.length a3+List.length v124:Nat):Int)≤9223372036854775807∧(InB a4 (len a1.2.2.2.2.2.2.2.2.2.2.2.2.2.2.2.2.2.1)∧((uB2 v129.2.1)∧(((List.length v125+List.length v132:Nat):Int)≤9223372036854775807∧InR (a4+1)))))))),v114,((v125++v132),(a4+1),()))
def vM4 y x:=(uL y x).1
def vU y x:=(uL y x).2.1
def vF0 y x:=(uL y x).2.2
instance (y x):Decidable (vM4 y x):=by unfold vM4 uL;dsimp only;infer_instance
def vK3 (y:vT9)(x:vK2):(List UInt8):=
 x.1
def uQ4:List (Nat×Sh):=[(1,(.box T52 (.val T52))),(3,vS)]
def tE7:=li [(1,(.box T52 (.val T52)))] [(3,vS),(4,vI)] vU vF0 vM4 (fun y x=>[ex 2 none uQ4 (y.1,(vK3 y x),())]) [uQ4]
abbrev vM5:Type:=(D52×Int×Unit)
abbrev vF1:Type:=((List UInt8)×Int×Unit)
def vZ2 (y:vM5)(x:vF1):Prop×Bool×vF1:=
 let a1:=y.1
 let a5:=y.2.1
 let a3:=x.1
 let a6:=x.2.1
 let v157:=(decide (a6<3))
 let v167:=(nth (nth a1.2.2.2.2.2.2.2.2.2.2.2.2.2.2.2.2.2.2.1 a5 Z114).2.1 a6 Z106)
 let v170:=(f58 v167.1)
 let v171:=(a3++v170)
 let v178:=(nth (nth a1.2.2.2.2.2.2.2.2.2.2.2.2.2.2.2.2.2.2.1 a5 Z114).2.1 a6 Z106)
 let v181:=(f58 v178.2.1)
 ((v157=true→(InB a5 (len a1.2.2.2.2.2.2.2.2.2.2.2.2.2.2.2.2.2.2.1)∧(InB a6 3∧((wV v167.1)∧(((List.length a3+List.length v170:Nat):Int)≤9223372036854775807∧(InB a5 (len a1.2.2.2.2.2.2.2.2.2.2.2.2.2.2.2.2.2.2.1)∧(InB a6 3∧((wV v178.2.1)∧(((List.length v171+List.length v181:Nat):Int)≤9223372036854775807∧InR (a6+1)))))))))),v157,((v171++v181),(a6+1),()))
def vD8 y x:=(vZ2 y x).1
def vF2 y x:=(vZ2 y x).2.1
def wX8 y x:=(vZ2 y x).2.2
instance (y x):Decidable (vD8 y x):=by unfold vD8 vZ2;dsimp only;infer_instance
def vX8 (y:vM5)(x:vF1):(List UInt8):=
 x.1
def uG8:List (Nat×Sh):=[(1,(.box T52 (.val T52))),(3,vS),(5,vI)]
def uZ2:=li [(1,(.box T52 (.val T52))),(5,vI)] [(3,vS),(6,vI)] vF2 wX8 vD8 (fun y x=>[ex 6 none uG8 (y.1,(vX8 y x),y.2.1,())]) [uG8]
abbrev vM6:Type:=(D52×Unit)
abbrev vF3:Type:=((List UInt8)×Int×Unit)
def vZ3 (y:vM6)(x:vF3):Prop×Bool×vF3:=
 let a1:=y.1
 let a3:=x.1
 let a5:=x.2.1
 let v144:=(decide (a5<(len a1.2.2.2.2.2.2.2.2.2.2.2.2.2.2.2.2.2.2.1)))
 let v151:=(nth a1.2.2.2.2.2.2.2.2.2.2.2.2.2.2.2.2.2.2.1 a5 Z114)
 let v154:=(f58 v151.1)
 let y16:=(a1,a5,())
 let x16:=((a3++v154),(0:Int),())
 ((v144=true→(InB a5 (len a1.2.2.2.2.2.2.2.2.2.2.2.2.2.2.2.2.2.2.1)∧((wV v151.1)∧(((List.length a3+List.length v154:Nat):Int)≤9223372036854775807∧((xQ6 (vF2 y16) (wX8 y16) (vD8 y16) x16)∧InR (a5+1)))))),v144,((vX8 y16 (zC5 (vF2 y16) (wX8 y16) x16)),(a5+1),()))
def vD9 y x:=(vZ3 y x).1
def vB9 y x:=(vZ3 y x).2.1
def wX9 y x:=(vZ3 y x).2.2
instance (y x):Decidable (vD9 y x):=by unfold vD9 vZ3;dsimp only;infer_instance
def vG2 (y:vM6)(x:vF3):(List UInt8):=
 x.1
def uG9:List (Nat×Sh):=[(1,(.box T52 (.val T52))),(3,vS)]
def uZ3:=li [(1,(.box T52 (.val T52)))] [(3,vS),(5,vI)] vB9 wX9 vD9 (fun y x=>[ex 4 none uG9 (y.1,(vG2 y x),())]) [uG9]
abbrev vM7:Type:=(D52×Unit)
abbrev vF4:Type:=((List UInt8)×Int×Unit)
def vZ4 (y:vM7)(x:vF4):Prop×Bool×vF4:=
 let a1:=y.1
 let a3:=x.1
 let a7:=x.2.1
 let v243:=(decide (a7<(len a1.2.2.2.2.2.2.2.2.2.2.2.2.2.2.2.2.2.2.2.2.2.2.2.2.2.2.2.1.2.2.2.1)))
 let v251:=(nth a1.2.2.2.2.2.2.2.2.2.2.2.2.2.2.2.2.2.2.2.2.2.2.2.2.2.2.2.1.2.2.2.1 a7 Z106)
 let v254:=(f58 v251.1)
 let v255:=(a3++v254)
 let v260:=(nth a1.2.2.2.2.2.2.2.2.2.2.2.2.2.2.2.2.2.2.2.2.2.2.2.2.2.2.2.1.2.2.2.1 a7 Z106)
 let v263:=(f58 v260.2.1)
 ((v243=true→(InB a7 (len a1.2.2.2.2.2.2.2.2.2.2.2.2.2.2.2.2.2.2.2.2.2.2.2.2.2.2.2.1.2.2.2.1)∧((wV v251.1)∧(((List.length a3+List.length v254:Nat):Int)≤9223372036854775807∧(InB a7 (len a1.2.2.2.2.2.2.2.2.2.2.2.2.2.2.2.2.2.2.2.2.2.2.2.2.2.2.2.1.2.2.2.1)∧((wV v260.2.1)∧(((List.length v255+List.length v263:Nat):Int)≤9223372036854775807∧InR (a7+1)))))))),v243,((v255++v263),(a7+1),()))
def vI8 y x:=(vZ4 y x).1
def vM8 y x:=(vZ4 y x).2.1
def vC y x:=(vZ4 y x).2.2
instance (y x):Decidable (vI8 y x):=by unfold vI8 vZ4;dsimp only;infer_instance
def vM9 (y:vM7)(x:vF4):(List UInt8):=
 x.1
def uZ4:=li [(1,(.box T52 (.val T52)))] [(3,vS),(7,vI)] vM8 vC vI8 (fun y x=>[ex 8 none [(3,vS)] ((vM9 y x),())]) [[(3,vS)]]
def f21t (p0:D52):Prop×(List UInt8):=
 let v10:=(f58 p0.1)
 let v13:=(f58 p0.2.1)
 let v14:=(v10++v13)
 let v17:=(f58 p0.2.2.1)
 let v18:=(v14++v17)
 let v21:=(f59 p0.2.2.2.1)
 let v22:=(v18++v21)
 let v25:=(f60 p0.2.2.2.2.1)
 let v26:=(v22++v25)
 let v29:=(f60 p0.2.2.2.2.2.1)
 let v30:=(v26++v29)
 let v33:=(f60 p0.2.2.2.2.2.2.1)
 let v34:=(v30++v33)
 let v38:=(f58 p0.2.2.2.2.2.2.2.1)
 let v39:=(v34++v38)
 let v42:=(f58 p0.2.2.2.2.2.2.2.2.1)
 let v43:=(v39++v42)
 let v46:=(f9 p0.2.2.2.2.2.2.2.2.2.1)
 let v47:=(v43++v46)
 let v52:=(f58 p0.2.2.2.2.2.2.2.2.2.2.1.1)
 let v53:=(v47++v52)
 let v57:=(f58 p0.2.2.2.2.2.2.2.2.2.2.1.2.1)
 let v58:=(v53++v57)
 let v62:=(f58 p0.2.2.2.2.2.2.2.2.2.2.1.2.2.1)
 let v63:=(v58++v62)
 let v67:=(f58 p0.2.2.2.2.2.2.2.2.2.2.1.2.2.2.1)
 let v68:=(v63++v67)
 let v72:=(f58 p0.2.2.2.2.2.2.2.2.2.2.1.2.2.2.2.1)
 let v73:=(v68++v72)
 let v77:=(f58 p0.2.2.2.2.2.2.2.2.2.2.1.2.2.2.2.2.1)
 let v78:=(v73++v77)
 let v82:=(f58 p0.2.2.2.2.2.2.2.2.2.2.2.1)
 let v83:=(v78++v82)
 let v86:=(f7 p0.2.2.2.2.2.2.2.2.2.2.2.2.1)
 let v87:=(v83++v86)
 let v90:=(f61 p0.2.2.2.2.2.2.2.2.2.2.2.2.2.1)
 let v91:=(v87++v90)
 let v94:=(f58 p0.2.2.2.2.2.2.2.2.2.2.2.2.2.2.1)
 let v95:=(v91++v94)
 let v98:=(f62 p0.2.2.2.2.2.2.2.2.2.2.2.2.2.2.2.1)
 let v99:=(v95++v98)
 let v102:=(f58 p0.2.2.2.2.2.2.2.2.2.2.2.2.2.2.2.2.1)
 let v103:=(v99++v102)
 let v107:=(len p0.2.2.2.2.2.2.2.2.2.2.2.2.2.2.2.2.2.1)
 let v108:=(f29 v107)
 let y7:=(p0,())
 let x7:=((v103++v108),(0:Int),())
 let r7_2_0:=(vK3 y7 (zC5 (vU y7) (vF0 y7) x7))
 let v137:=(len p0.2.2.2.2.2.2.2.2.2.2.2.2.2.2.2.2.2.2.1)
 let v138:=(f29 v137)
 let y12:=(p0,())
 let x12:=((r7_2_0++v138),(0:Int),())
 let r12_4_0:=(vG2 y12 (zC5 (vB9 y12) (wX9 y12) x12))
 let v186:=(f58 p0.2.2.2.2.2.2.2.2.2.2.2.2.2.2.2.2.2.2.2.1)
 let v187:=(r12_4_0++v186)
 let v190:=(f58 p0.2.2.2.2.2.2.2.2.2.2.2.2.2.2.2.2.2.2.2.2.1)
 let v191:=(v187++v190)
 let v194:=(f58 p0.2.2.2.2.2.2.2.2.2.2.2.2.2.2.2.2.2.2.2.2.2.1)
 let v195:=(v191++v194)
 let v198:=(f58 p0.2.2.2.2.2.2.2.2.2.2.2.2.2.2.2.2.2.2.2.2.2.2.1)
 let v199:=(v195++v198)
 let v202:=(f59 p0.2.2.2.2.2.2.2.2.2.2.2.2.2.2.2.2.2.2.2.2.2.2.2.1)
 let v203:=(v199++v202)
 let v206:=(f58 p0.2.2.2.2.2.2.2.2.2.2.2.2.2.2.2.2.2.2.2.2.2.2.2.2.1)
 let v207:=(v203++v206)
 let v210:=(f58 p0.2.2.2.2.2.2.2.2.2.2.2.2.2.2.2.2.2.2.2.2.2.2.2.2.2.1)
 let v211:=(v207++v210)
 let v214:=(f58 p0.2.2.2.2.2.2.2.2.2.2.2.2.2.2.2.2.2.2.2.2.2.2.2.2.2.2.1)
 let v215:=(v211++v214)
 let v220:=(f58 p0.2.2.2.2.2.2.2.2.2.2.2.2.2.2.2.2.2.2.2.2.2.2.2.2.2.2.2.1.1)
 let v221:=(v215++v220)
 let v225:=(f58 p0.2.2.2.2.2.2.2.2.2.2.2.2.2.2.2.2.2.2.2.2.2.2.2.2.2.2.2.1.2.1)
 let v226:=(v221++v225)
 let v230:=(f58 p0.2.2.2.2.2.2.2.2.2.2.2.2.2.2.2.2.2.2.2.2.2.2.2.2.2.2.2.1.2.2.1)
 let v231:=(v226++v230)
 let v235:=(len p0.2.2.2.2.2.2.2.2.2.2.2.2.2.2.2.2.2.2.2.2.2.2.2.2.2.2.2.1.2.2.2.1)
 let v236:=(f29 v235)
 let y22:=(p0,())
 let x22:=((v231++v236),(0:Int),())
 (((wV p0.1)∧((wV p0.2.1)∧(((List.length v10+List.length v13:Nat):Int)≤9223372036854775807∧((wV p0.2.2.1)∧(((List.length v14+List.length v17:Nat):Int)≤9223372036854775807∧((uG7 p0.2.2.2.1)∧(((List.length v18+List.length v21:Nat):Int)≤9223372036854775807∧((uB1 p0.2.2.2.2.1)∧(((List.length v22+List.length v25:Nat):Int)≤9223372036854775807∧((uB1 p0.2.2.2.2.2.1)∧(((List.length v26+List.length v29:Nat):Int)≤9223372036854775807∧((uB1 p0.2.2.2.2.2.2.1)∧(((List.length v30+List.length v33:Nat):Int)≤9223372036854775807∧((wV p0.2.2.2.2.2.2.2.1)∧(((List.length v34+List.length v38:Nat):Int)≤9223372036854775807∧((wV p0.2.2.2.2.2.2.2.2.1)∧(((List.length v39+List.length v42:Nat):Int)≤9223372036854775807∧((tE4 p0.2.2.2.2.2.2.2.2.2.1)∧(((List.length v43+List.length v46:Nat):Int)≤9223372036854775807∧((wV p0.2.2.2.2.2.2.2.2.2.2.1.1)∧(((List.length v47+List.length v52:Nat):Int)≤9223372036854775807∧((wV p0.2.2.2.2.2.2.2.2.2.2.1.2.1)∧(((List.length v53+List.length v57:Nat):Int)≤9223372036854775807∧((wV p0.2.2.2.2.2.2.2.2.2.2.1.2.2.1)∧(((List.length v58+List.length v62:Nat):Int)≤9223372036854775807∧((wV p0.2.2.2.2.2.2.2.2.2.2.1.2.2.2.1)∧(((List.length v63+List.length v67:Nat):Int)≤9223372036854775807∧((wV p0.2.2.2.2.2.2.2.2.2.2.1.2.2.2.2.1)∧(((List.length v68+List.length v72:Nat):Int)≤9223372036854775807∧((wV p0.2.2.2.2.2.2.2.2.2.2.1.2.2.2.2.2.1)∧(((List.length v73+List.length v77:Nat):Int)≤9223372036854775807∧((wV p0.2.2.2.2.2.2.2.2.2.2.2.1)∧(((List.length v78+List.length v82:Nat):Int)≤9223372036854775807∧((tE1 p0.2.2.2.2.2.2.2.2.2.2.2.2.1)∧(((List.length v83+List.length v86:Nat):Int)≤9223372036854775807∧((uB2 p0.2.2.2.2.2.2.2.2.2.2.2.2.2.1)∧(((List.length v87+List.length v90:Nat):Int)≤9223372036854775807∧((wV p0.2.2.2.2.2.2.2.2.2.2.2.2.2.2.1)∧(((List.length v91+List.length v94:Nat):Int)≤9223372036854775807∧((uQ3 p0.2.2.2.2.2.2.2.2.2.2.2.2.2.2.2.1)∧(((List.length v95+List.length v98:Nat):Int)≤9223372036854775807∧((wV p0.2.2.2.2.2.2.2.2.2.2.2.2.2.2.2.2.1)∧(((List.length v99+List.length v102:Nat):Int)≤9223372036854775807∧((wW7 v107)∧(((List.length v103+List.length v108:Nat):Int)≤9223372036854775807∧((xQ6 (vU y7) (vF0 y7) (vM4 y7) x7)∧((wW7 v137)∧(((List.length r7_2_0+List.length v138:Nat):Int)≤9223372036854775807∧((xQ6 (vB9 y12) (wX9 y12) (vD9 y12) x12)∧((wV p0.2.2.2.2.2.2.2.2.2.2.2.2.2.2.2.2.2.2.2.1)∧(((List.length r12_4_0+List.length v186:Nat):Int)≤9223372036854775807∧((wV p0.2.2.2.2.2.2.2.2.2.2.2.2.2.2.2.2.2.2.2.2.1)∧(((List.length v187+List.length v190:Nat):Int)≤9223372036854775807∧((wV p0.2.2.2.2.2.2.2.2.2.2.2.2.2.2.2.2.2.2.2.2.2.1)∧(((List.length v191+List.length v194:Nat):Int)≤9223372036854775807∧((wV p0.2.2.2.2.2.2.2.2.2.2.2.2.2.2.2.2.2.2.2.2.2.2.1)∧(((List.length v195+List.length v198:Nat):Int)≤9223372036854775807∧((uG7 p0.2.2.2.2.2.2.2.2.2.2.2.2.2.2.2.2.2.2.2.2.2.2.2.1)∧(((List.length v199+List.length v202:Nat):Int)≤9223372036854775807∧((wV p0.2.2.2.2.2.2.2.2.2.2.2.2.2.2.2.2.2.2.2.2.2.2.2.2.1)∧(((List.length v203+List.length v206:Nat):Int)≤9223372036854775807∧((wV p0.2.2.2.2.2.2.2.2.2.2.2.2.2.2.2.2.2.2.2.2.2.2.2.2.2.1)∧(((List.length v207+List.length v210:Nat):Int)≤9223372036854775807∧((wV p0.2.2.2.2.2.2.2.2.2.2.2.2.2.2.2.2.2.2.2.2.2.2.2.2.2.2.1)∧(((List.length v211+List.length v214:Nat):Int)≤9223372036854775807∧((wV p0.2.2.2.2.2.2.2.2.2.2.2.2.2.2.2.2.2.2.2.2.2.2.2.2.2.2.2.1.1)∧(((List.length v215+List.length v220:Nat):Int)≤9223372036854775807∧((wV p0.2.2.2.2.2.2.2.2.2.2.2.2.2.2.2.2.2.2.2.2.2.2.2.2.2.2.2.1.2.1)∧(((List.length v221+List.length v225:Nat):Int)≤9223372036854775807∧((wV p0.2.2.2.2.2.2.2.2.2.2.2.2.2.2.2.2.2.2.2.2.2.2.2.2.2.2.2.1.2.2.1)∧(((List.length v226+List.length v230:Nat):Int)≤9223372036854775807∧((wW7 v235)∧(((List.length v231+List.length v236:Nat):Int)≤9223372036854775807∧(xQ6 (vM8 y22) (vC y22) (vI8 y22) x22)))))))))))))))))))))))))))))))))))))))))))))))))))))))))))))))))))))))))),(vM9 y22 (zC5 (vM8 y22) (vC y22) x22)))
def vX9 p0:=(f21t p0).1
def f21 p0:=(f21t p0).2
instance (p0):Decidable (vX9 p0):=by unfold vX9 f21t;dsimp only;infer_instance
theorem sA1:SK 21 (sp1 (.val T52) vS vX9 f21):=fb Tryz.func21 266 [kb sC7,kb sC8,kb uW3,kb tE5,kb tZ8,kb tZ9,kb sA,kb sA0] [(7,tE7),(12,uZ3),(16,uZ2),(22,uZ4)]
def uL0 (p0:D60):Prop×Int×(D60×Unit):=
 (True,(bif (bif false then true else (!p0.1)) then (14:Int) else p0.2.2.2.1),(p0,()))
def wZ8 p0:=(uL0 p0).1
def vU0 p0:=(uL0 p0).2.1
def wZ9 p0:=(uL0 p0).2.2
instance (p0):Decidable (wZ8 p0):=by unfold wZ8 uL0;dsimp only;infer_instance
theorem vN:SK 44 (fnSpec [(0,(.box T60 (.val T60)))] vI [(0,(.box T60 (.val T60)))] (fun x=>wZ8 x.1) (fun x=>vU0 x.1) (fun x=>wZ9 x.1)):=fb Tryz.func44 16 [] [] [] false [0]
def uL1 (p0:D60)(p1:Int):Prop×(Unit)×(D60×Unit):=
 let v5o:=(vF8 p0)
 ((wZ6 p0),(),((bif (vZ8 p0) then (v5o.1.1,v5o.1.2.1,v5o.1.2.2.1,p1,()) else v5o.1),()))
def wY9 p0 p1:=(uL1 p0 p1).1
def sA2 p0 p1:=(uL1 p0 p1).2.1
def vB0 p0 p1:=(uL1 p0 p1).2.2
instance (p0 p1):Decidable (wY9 p0 p1):=by unfold wY9 uL1;dsimp only;infer_instance
theorem uB4:SK 82 (fnSpec [(0,(.box T60 (.val T60))),(1,vI)] (.tup .nl) [(0,(.box T60 (.val T60)))] (fun x=>wY9 x.1 x.2.1) (fun x=>sA2 x.1 x.2.1) (fun x=>vB0 x.1 x.2.1)):=fb Tryz.func82 10 [kb vH5] [] [] false [0]
def uB5 (p0:Unit)(p1:D60):List Prop×D45×(Unit×D60×Unit):=
 let v17o:=(wV5 p1 (65535:Int))
 let v17o_1:=(wV5 v17o.1 (65535:Int))
 let v17o_2:=(wV5 v17o_1.1 (65535:Int))
 ([InB (0:Int) 4,(wV1 p1 (65535:Int)),InB (1:Int) 4,(wV1 v17o.1 (65535:Int)),InB (2:Int) 4,(wV1 v17o_1.1 (65535:Int)),InB (3:Int) 4,(wV1 v17o_2.1 (65535:Int))],((vC2 p1 (65535:Int)),(vC2 v17o.1 (65535:Int)),(vC2 v17o_1.1 (65535:Int)),(vC2 v17o_2.1 (65535:Int)),()),((),(wV5 v17o_2.1 (65535:Int)).1,()))
def vU1 (p0:Unit)(p1:D60):Prop:=yW (uB5 p0 p1).1
def tE8 p0 p1:=(uB5 p0 p1).2.1
def uL2 p0 p1:=(uB5 p0 p1).2.2
instance (p0:Unit)(p1:D60):Decidable (vU1 p0 p1):=by
 unfold vU1 uB5;dsimp only[yW]
 infer_instance
noncomputable def uQ5:List (Fb Tryz.prog):=[kb vB2]
noncomputable def uZ5:Ctx:={ Cx tys (Fb.l uQ5) [] [] true 21 [0] [] with skip:=true,dead:=[999999] }
theorem uZ6:CtxOk Tryz.prog uZ5:=wI7 wU5 (by kernel_rfl) (Fb.all uQ5) rfl (by kernel_rfl)
@[reducible] def uB6:List (Nat×Sh):=[(0,(.ptrs true [some (990000,T60,[])])),(990000,(.box T60 (.val T60)))]
theorem tE9:SK 35 (xI2 uB6 (.val T45) uB6 (fun x=>vU1 x.1 x.2.1) (fun x=>tE8 x.1 x.2.1) (fun x=>uL2 x.1 x.2.1)):=wP3 (ps:=uB6) (p:=fun x=>(uB5 x.1 x.2.1).1) (lv:=[(0,[0,1,990000]),(1,[0,1,2,990000]),(2,[0,1,2,9,10,11,990000]),(3,[0,1,2,9,10,11,12,990000]),(4,[0,1,2,4,9,10,11,990000]),(5,[0,1,2,9,10,11,990000]),(6,[0,1,2,9,10,11,990000]),(7,[0,1,990000])]) uZ6 mixed Tryz.func35 (fun _ h=>h) (by kernel_rfl) (fun x=>by kernel_rfl)
abbrev vC0:Type:=(D60×(Unit×Unit)×Int×Int×D45×Int×Unit)
abbrev wY:Type:=((List D45)×Int×Unit)
def vK4 (y:vC0)(x:wY):Prop×Bool×wY:=
 let a6:=x.1
 let a62:=x.2.1
 let v63:=(decide (a62<y.2.2.2.2.2.1))
 let v66:=([y.2.2.2.2.1]:List D45)
 ((v63=true→(((List.length a6+List.length v66:Nat):Int)≤4294967296∧InR (a62+1))),v63,((a6++v66),(a62+1),()))
def vC9 y x:=(vK4 y x).1
def vN0 y x:=(vK4 y x).2.1
def vF5 y x:=(vK4 y x).2.2
instance (y x):Decidable (vC9 y x):=by unfold vC9 vK4;dsimp only;infer_instance
def vN1 (y:vC0)(x:wY):(List D45):=
 x.1
def vU2:List (Nat×Sh):=[(0,(.box T60 (.val T60))),(1,(.fn 35 (.cons (.ptrs true [some (0,T60,[])]) .nl))),(4,vI),(5,vI),(6,(.own T45 2 false))]
def uL3:=li [(0,(.box T60 (.val T60))),(1,(.fn 35 (.cons (.ptrs true [some (0,T60,[])]) .nl))),(4,vI),(5,vI),(8,(.box T45 (.val T45))),(61,vI)] [(6,(.own T45 2 false)),(62,vI)] vN0 vF5 vC9 (fun y x=>[ex 4 none vU2 (y.1,y.2.1,y.2.2.1,y.2.2.2.1,(vN1 y x),())]) [vU2]
abbrev vA5:Type:=((Unit×Unit)×Int×Int×Unit)
abbrev wY0:Type:=(D60×(List D45)×Unit)
def vO8 (y:vA5)(x:wY0):Prop×Bool×wY0:=
 let a4:=y.2.1
 let a5:=y.2.2.1
 let a0:=x.1
 let a6:=x.2.1
 let v25:=(decide ((len a6)<(a4*a5)))
 let g0:=(bif v25 then (wZ9 a0).1 else a0)
 let v30:=(bif v25 then ((vU0 a0)==0) else false)
 let v34:=(a4*a5)
 let v36:=(len a6)
 let v37:=(v34-v36)
 let v38:=(v37-1)
 let v39:=(vC2 g0 v38)
 let v39o:=(wV5 g0 v38)
 let v41:=(tE8 () v39o.1)
 let v41o:=(uL2 () v39o.1)
 let v44:=(decide ((len a6)>0))
 let v48:=(len a6)
 let v49:=(v48-1)
 let v54:=(bif v44 then (Ty.eqb T45 (nth a6 v49 Z45) v41) else false)
 let m0:=(bif v54 then (vB0 v41o.2.1 (4:Int)).1 else v41o.2.1)
 let v58o:=(wZ9 m0)
 let v59:=((vU0 m0)!=0)
 let y12:=(v58o.1,((),()),a4,a5,v41,(v39+1),())
 let x12:=(a6,(0:Int),())
 ((InR (a4*a5)∧((v25=true→(wZ8 a0))∧(v30=true→(InR (a4*a5)∧(InR (v34-v36)∧(InR (v37-1)∧((wV1 g0 v38)∧((vU1 () v39o.1)∧((v44=true→InR (v48-1))∧((v44=true→InB v49 (len a6))∧((v54=true→(wY9 v41o.2.1 (4:Int)))∧((wZ8 m0)∧((!v59)=true→(InR (v39+1)∧(xQ6 (vN0 y12) (vF5 y12) (vC9 y12) x12))))))))))))))),(v30&&(!v59)),(v58o.1,(vN1 y12 (zC5 (vN0 y12) (vF5 y12) x12)),()))
def vG3 y x:=(vO8 y x).1
def vR6 y x:=(vO8 y x).2.1
def vH0 y x:=(vO8 y x).2.2
instance (y x):Decidable (vG3 y x):=by unfold vG3 vO8;dsimp only;infer_instance
def vQ (y:vA5)(x:wY0):D60:=
 let a4:=y.2.1
 let a5:=y.2.2.1
 let a0:=x.1
 let a6:=x.2.1
 let v25:=(decide ((len a6)<(a4*a5)))
 let g0:=(bif v25 then (wZ9 a0).1 else a0)
 let v39o:=(wV5 g0 (((a4*a5)-(len a6))-1))
 let v41o:=(uL2 () v39o.1)
 let m0_1:=(bif (!(bif v25 then ((vU0 a0)==0) else false)) then g0 else (wZ9 (bif (bif (decide ((len a6)>0)) then (Ty.eqb T45 (nth a6 ((len a6)-1) Z45) (tE8 () v39o.1)) else false) then (vB0 v41o.2.1 (4:Int)).1 else v41o.2.1)).1)
 m0_1
def vQ0 (y:vA5)(x:wY0):(List D45):=
 x.2.1
def vY:List (Nat×Sh):=[(0,(.box T60 (.val T60))),(4,vI),(5,vI),(6,(.own T45 2 false))]
def uQ6:=li [(1,(.fn 35 (.cons (.ptrs true [some (0,T60,[])]) .nl))),(4,vI),(5,vI)] [(0,(.box T60 (.val T60))),(6,(.own T45 2 false))] vR6 vH0 vG3 (fun y x=>[ex 2 none vY ((vQ y x),y.2.1,y.2.2.1,(vQ0 y x),())]) [vY]
def uL4 (p0:D60)(p1:(Unit×Unit)):Prop×(Int×Int×(List D45)×Unit)×(D60×Unit):=
 let v10:=(vC2 p0 (256:Int))
 let v10o:=(wV5 p0 (256:Int))
 let v12:=(vC2 v10o.1 (256:Int))
 let v12o:=(wV5 v10o.1 (256:Int))
 let v17:=(!(Ty.eqb .bool (v10==0) (v12==0)))
 let y5:=(((),()),v10,v12,())
 let x5:=((bif v17 then (vB0 v12o.1 (4:Int)).1 else v12o.1),([]:List D45),())
 let e5:=(zC5 (vR6 y5) (vH0 y5) x5)
 let r5_2_0:=(vQ y5 e5)
 let v70o:=(wZ9 r5_2_0)
 let v71:=((vU0 r5_2_0)!=0)
 (((wV1 p0 (256:Int))∧((wV1 v10o.1 (256:Int))∧((v17=true→(wY9 v12o.1 (4:Int)))∧((xQ6 (vR6 y5) (vH0 y5) (vG3 y5) x5)∧(wZ8 r5_2_0))))),((bif v71 then (0:Int) else v10),(bif v71 then (0:Int) else v12),(bif v71 then [] else (vQ0 y5 e5)),()),((bif v71 then v70o.1 else v70o.1),()))
def vU3 p0 p1:=(uL4 p0 p1).1
def tR8 p0 p1:=(uL4 p0 p1).2.1
def uW6 p0 p1:=(uL4 p0 p1).2.2
instance (p0 p1):Decidable (vU3 p0 p1):=by unfold vU3 uL4;dsimp only;infer_instance
theorem tF:SK 34 (fnSpec [(0,(.box T60 (.val T60))),(1,(.fn 35 (.cons (.ptrs true [some (0,T60,[])]) .nl)))] (.tup (.cons vI (.cons vI (.cons (.own T45 2 false) .nl)))) [(0,(.box T60 (.val T60)))] (fun x=>vU3 x.1 x.2.1) (fun x=>tR8 x.1 x.2.1) (fun x=>uW6 x.1 x.2.1)):=fx (fun c=>{ c with wants:=[(35,[]),(44,[])] }) Tryz.func34 75 [kb tE9,kb vB2,kb vN,kb uB4] [(5,uQ6),(12,uL3)] [(27,[(4,0,67,2)])] false [0]
def uL5 (p0:D60):Prop×D23×(D60×Unit):=
 let s:=((),())
 let v9:=(tR8 p0 s)
 ((vU3 p0 s),(v9.1,v9.2.1,v9.2.2.1,()),((uW6 p0 s).1,()))
def uB7 p0:=(uL5 p0).1
def sA3 p0:=(uL5 p0).2.1
def tL7 p0:=(uL5 p0).2.2
instance (p0):Decidable (uB7 p0):=by unfold uB7 uL5;dsimp only;infer_instance
theorem uB8:SK 12 (fnSpec [(0,(.box T60 (.val T60)))] (.val T23) [(0,(.box T60 (.val T60)))] (fun x=>uB7 x.1) (fun x=>sA3 x.1) (fun x=>tL7 x.1)):=fx (fun c=>{ c with wants:=[(34,[])] }) Tryz.func12 17 [kb tF] [] [(3,[(4,0,200009,1005)]),(5,[(4,0,1005,400200)])] false [0]
def uB9 (p0:Unit)(p1:D60):List Prop×Int×(Unit×D60×Unit):=
 ([(wV1 p1 (65535:Int))],(vC2 p1 (65535:Int)),((),(wV5 p1 (65535:Int)).1,()))
def vU4 (p0:Unit)(p1:D60):Prop:=yW (uB9 p0 p1).1
def tF0 p0 p1:=(uB9 p0 p1).2.1
def uL6 p0 p1:=(uB9 p0 p1).2.2
instance (p0:Unit)(p1:D60):Decidable (vU4 p0 p1):=by
 unfold vU4 uB9;dsimp only[yW]
 infer_instance
noncomputable def uQ7:List (Fb Tryz.prog):=[kb vB2]
noncomputable def uZ7:Ctx:={ Cx tys (Fb.l uQ7) [] [] true 4 [0] [] with skip:=true,dead:=[999999] }
theorem uZ8:CtxOk Tryz.prog uZ7:=wI7 wU5 (by kernel_rfl) (Fb.all uQ7) rfl (by kernel_rfl)
@[reducible] def uC:List (Nat×Sh):=[(0,(.ptrs true [some (990000,T60,[])])),(990000,(.box T60 (.val T60)))]
theorem tF1:SK 42 (xI2 uC vI uC (fun x=>vU4 x.1 x.2.1) (fun x=>tF0 x.1 x.2.1) (fun x=>uL6 x.1 x.2.1)):=wP3 (ps:=uC) (p:=fun x=>(uB9 x.1 x.2.1).1) (lv:=[(0,[0,990000]),(1,[0,1,990000])]) uZ8 mixed Tryz.func42 (fun _ h=>h) (by kernel_rfl) (fun x=>by kernel_rfl)
abbrev vC1:Type:=(D60×(Unit×Unit)×Int×Int×Int×Int×Unit)
abbrev wY1:Type:=((List Int)×Int×Unit)
def vK5 (y:vC1)(x:wY1):Prop×Bool×wY1:=
 let a6:=x.1
 let a62:=x.2.1
 let v63:=(decide (a62<y.2.2.2.2.2.1))
 let v66:=([y.2.2.2.2.1]:List Int)
 ((v63=true→(((List.length a6+List.length v66:Nat):Int)≤4294967296∧InR (a62+1))),v63,((a6++v66),(a62+1),()))
def vD y x:=(vK5 y x).1
def vN2 y x:=(vK5 y x).2.1
def vF6 y x:=(vK5 y x).2.2
instance (y x):Decidable (vD y x):=by unfold vD vK5;dsimp only;infer_instance
def vN3 (y:vC1)(x:wY1):(List Int):=
 x.1
def vU5:List (Nat×Sh):=[(0,(.box T60 (.val T60))),(1,(.fn 42 (.cons (.ptrs true [some (0,T60,[])]) .nl))),(4,vI),(5,vI),(6,(.own (.int .i64) 2 false))]
def uL7:=li [(0,(.box T60 (.val T60))),(1,(.fn 42 (.cons (.ptrs true [some (0,T60,[])]) .nl))),(4,vI),(5,vI),(8,vI),(61,vI)] [(6,(.own (.int .i64) 2 false)),(62,vI)] vN2 vF6 vD (fun y x=>[ex 4 none vU5 (y.1,y.2.1,y.2.2.1,y.2.2.2.1,(vN3 y x),())]) [vU5]
abbrev vA6:Type:=((Unit×Unit)×Int×Int×Unit)
abbrev wY2:Type:=(D60×(List Int)×Unit)
def vO9 (y:vA6)(x:wY2):Prop×Bool×wY2:=
 let a4:=y.2.1
 let a5:=y.2.2.1
 let a0:=x.1
 let a6:=x.2.1
 let v25:=(decide ((len a6)<(a4*a5)))
 let g0:=(bif v25 then (wZ9 a0).1 else a0)
 let v30:=(bif v25 then ((vU0 a0)==0) else false)
 let v34:=(a4*a5)
 let v36:=(len a6)
 let v37:=(v34-v36)
 let v38:=(v37-1)
 let v39:=(vC2 g0 v38)
 let v39o:=(wV5 g0 v38)
 let v41:=(tF0 () v39o.1)
 let v41o:=(uL6 () v39o.1)
 let v44:=(decide ((len a6)>0))
 let v48:=(len a6)
 let v49:=(v48-1)
 let v54:=(bif v44 then ((nth a6 v49 (0:Int))==v41) else false)
 let m0:=(bif v54 then (vB0 v41o.2.1 (4:Int)).1 else v41o.2.1)
 let v58o:=(wZ9 m0)
 let v59:=((vU0 m0)!=0)
 let y12:=(v58o.1,((),()),a4,a5,v41,(v39+1),())
 let x12:=(a6,(0:Int),())
 ((InR (a4*a5)∧((v25=true→(wZ8 a0))∧(v30=true→(InR (a4*a5)∧(InR (v34-v36)∧(InR (v37-1)∧((wV1 g0 v38)∧((vU4 () v39o.1)∧((v44=true→InR (v48-1))∧((v44=true→InB v49 (len a6))∧((v54=true→(wY9 v41o.2.1 (4:Int)))∧((wZ8 m0)∧((!v59)=true→(InR (v39+1)∧(xQ6 (vN2 y12) (vF6 y12) (vD y12) x12))))))))))))))),(v30&&(!v59)),(v58o.1,(vN3 y12 (zC5 (vN2 y12) (vF6 y12) x12)),()))
def vG4 y x:=(vO9 y x).1
def vR7 y x:=(vO9 y x).2.1
def vH1 y x:=(vO9 y x).2.2
instance (y x):Decidable (vG4 y x):=by unfold vG4 vO9;dsimp only;infer_instance
def vQ1 (y:vA6)(x:wY2):D60:=
 let a4:=y.2.1
 let a5:=y.2.2.1
 let a0:=x.1
 let a6:=x.2.1
 let v25:=(decide ((len a6)<(a4*a5)))
 let g0:=(bif v25 then (wZ9 a0).1 else a0)
 let v39o:=(wV5 g0 (((a4*a5)-(len a6))-1))
 let v41o:=(uL6 () v39o.1)
 let m0_1:=(bif (!(bif v25 then ((vU0 a0)==0) else false)) then g0 else (wZ9 (bif (bif (decide ((len a6)>0)) then ((nth a6 ((len a6)-1) (0:Int))==(tF0 () v39o.1)) else false) then (vB0 v41o.2.1 (4:Int)).1 else v41o.2.1)).1)
 m0_1
def vQ2 (y:vA6)(x:wY2):(List Int):=
 x.2.1
def vY0:List (Nat×Sh):=[(0,(.box T60 (.val T60))),(4,vI),(5,vI),(6,(.own (.int .i64) 2 false))]
def uQ8:=li [(1,(.fn 42 (.cons (.ptrs true [some (0,T60,[])]) .nl))),(4,vI),(5,vI)] [(0,(.box T60 (.val T60))),(6,(.own (.int .i64) 2 false))] vR7 vH1 vG4 (fun y x=>[ex 2 none vY0 ((vQ1 y x),y.2.1,y.2.2.1,(vQ2 y x),())]) [vY0]
def uL8 (p0:D60)(p1:(Unit×Unit)):Prop×(Int×Int×(List Int)×Unit)×(D60×Unit):=
 let v10:=(vC2 p0 (256:Int))
 let v10o:=(wV5 p0 (256:Int))
 let v12:=(vC2 v10o.1 (256:Int))
 let v12o:=(wV5 v10o.1 (256:Int))
 let v17:=(!(Ty.eqb .bool (v10==0) (v12==0)))
 let y5:=(((),()),v10,v12,())
 let x5:=((bif v17 then (vB0 v12o.1 (4:Int)).1 else v12o.1),([]:List Int),())
 let e5:=(zC5 (vR7 y5) (vH1 y5) x5)
 let r5_2_0:=(vQ1 y5 e5)
 let v70o:=(wZ9 r5_2_0)
 let v71:=((vU0 r5_2_0)!=0)
 (((wV1 p0 (256:Int))∧((wV1 v10o.1 (256:Int))∧((v17=true→(wY9 v12o.1 (4:Int)))∧((xQ6 (vR7 y5) (vH1 y5) (vG4 y5) x5)∧(wZ8 r5_2_0))))),((bif v71 then (0:Int) else v10),(bif v71 then (0:Int) else v12),(bif v71 then [] else (vQ2 y5 e5)),()),((bif v71 then v70o.1 else v70o.1),()))
def vU6 p0 p1:=(uL8 p0 p1).1
def tR9 p0 p1:=(uL8 p0 p1).2.1
def uW7 p0 p1:=(uL8 p0 p1).2.2
instance (p0 p1):Decidable (vU6 p0 p1):=by unfold vU6 uL8;dsimp only;infer_instance
theorem tF2:SK 41 (fnSpec [(0,(.box T60 (.val T60))),(1,(.fn 42 (.cons (.ptrs true [some (0,T60,[])]) .nl)))] (.tup (.cons vI (.cons vI (.cons (.own (.int .i64) 2 false) .nl)))) [(0,(.box T60 (.val T60)))] (fun x=>vU6 x.1 x.2.1) (fun x=>tR9 x.1 x.2.1) (fun x=>uW7 x.1 x.2.1)):=fx (fun c=>{ c with wants:=[(42,[]),(44,[])] }) Tryz.func41 75 [kb vB2,kb tF1,kb vN,kb uB4] [(5,uQ8),(12,uL7)] [(27,[(4,0,67,2)])] false [0]
def uL9 (p0:D60):Prop×D26×(D60×Unit):=
 let s:=((),())
 let v9:=(tR9 p0 s)
 ((vU6 p0 s),(v9.1,v9.2.1,v9.2.2.1,()),((uW7 p0 s).1,()))
def uC0 p0:=(uL9 p0).1
def sA4 p0:=(uL9 p0).2.1
def tL8 p0:=(uL9 p0).2.2
instance (p0):Decidable (uC0 p0):=by unfold uC0 uL9;dsimp only;infer_instance
theorem uC1:SK 14 (fnSpec [(0,(.box T60 (.val T60)))] (.val T26) [(0,(.box T60 (.val T60)))] (fun x=>uC0 x.1) (fun x=>sA4 x.1) (fun x=>tL8 x.1)):=fx (fun c=>{ c with wants:=[(41,[])] }) Tryz.func14 17 [kb tF2] [] [(3,[(4,0,200009,1005)]),(5,[(4,0,1005,400200)])] false [0]
def uM (p0:D60):Prop×Int×(D60×Unit):=
 let v5:=(uG1 p0)
 ((vB1 p0),(bif ((Int.tmod v5 (2:Int))==1) then (wT3 .i64 (IntKind.wrap .i64 (wT5 v5 (1:Int) 64))) else (IntKind.wrap .i64 (wT5 v5 (1:Int) 64))),((vO p0).1,()))
def wT8 p0:=(uM p0).1
def wV0 p0:=(uM p0).2.1
def wU0 p0:=(uM p0).2.2
instance (p0):Decidable (wT8 p0):=by unfold wT8 uM;dsimp only;infer_instance
theorem wY3:SK 96 (fnSpec [(0,(.box T60 (.val T60)))] vI [(0,(.box T60 (.val T60)))] (fun x=>wT8 x.1) (fun x=>wV0 x.1) (fun x=>wU0 x.1)):=fb Tryz.func96 16 [kb vZ9] [] [] true [0]
abbrev wW0:Type:=(Int×Unit)
abbrev wV2:Type:=(D60×(List Int)×Int×Unit)
def vE (y:wW0)(x:wV2):Prop×Bool×wV2×Bool×Bool:=
 let a0:=x.1
 let a6:=x.2.1
 let a12:=x.2.2.1
 let v13:=(decide (a12<y.1))
 let v15o:=(wU0 a0)
 let v18:=(!(vZ8 v15o.1))
 let v21:=([(wV0 a0)]:List Int)
 ((v13=true→((wT8 a0)∧((wZ6 v15o.1)∧((!v18)=true→((List.length a6+List.length v21:Nat):Int)≤4294967296)))),(v13&&(!v18)),((vF8 v15o.1).1,(a6++v21),(IntKind.wrap .i64 (a12+1)),()),(v13&&v18),(!v13))
def vG5 y x:=(vE y x).1
def vR8 y x:=(vE y x).2.1
def vH2 y x:=(vE y x).2.2.1
def vY1 y x:=(vE y x).2.2.2.1
def uQ9 y x:=(vE y x).2.2.2.2
instance (y x):Decidable (vG5 y x):=by unfold vG5 vE;dsimp only;infer_instance
def vQ3 (y:wW0)(x:wV2):D60:=
 (vF8 (wU0 x.1).1).1
def vQ4 (y:wW0)(x:wV2):(List Int):=
 ([]:List Int)
def vY2:List (Nat×Sh):=[(0,(.box T60 (.val T60))),(4,(.own (.int .i64) 0 false))]
def vQ5 (y:wW0)(x:wV2):D60:=
 x.1
def vQ6 (y:wW0)(x:wV2):(List Int):=
 x.2.1
def vY3:List (Nat×Sh):=[(0,(.box T60 (.val T60))),(6,(.own (.int .i64) 1006 false))]
def uR:=li [(11,vI)] [(0,(.box T60 (.val T60))),(6,(.own (.int .i64) 1006 false)),(12,vI)] vR8 vH2 vG5 (fun y x=>[ex 1 (some (vY1 y x)) vY2 ((vQ3 y x),(vQ4 y x),()),ex 2 (some (uQ9 y x)) vY3 ((vQ5 y x),(vQ6 y x),())]) [vY2,vY3]
def uM0 (p0:D60)(p1:Int):Prop×(List Int)×(D60×Unit):=
 let y4:=((vC2 p0 p1),())
 let x4:=((wV5 p0 p1).1,([]:List Int),(0:Int),())
 let e4:=(zC5 (vR8 y4) (vH2 y4) x4)
 let q4_1:=(vY1 y4 e4)
 (((wV1 p0 p1)∧(xQ6 (vR8 y4) (vH2 y4) (vG5 y4) x4)),(bif q4_1 then (vQ4 y4 e4) else (vQ6 y4 e4)),((bif q4_1 then (vQ3 y4 e4) else (vQ5 y4 e4)),()))
def uC2 p0 p1:=(uM0 p0 p1).1
def sA5 p0 p1:=(uM0 p0 p1).2.1
def tL9 p0 p1:=(uM0 p0 p1).2.2
instance (p0 p1):Decidable (uC2 p0 p1):=by unfold uC2 uM0;dsimp only;infer_instance
theorem tF3:SK 66 (fnSpec [(0,(.box T60 (.val T60))),(1,vI)] (.own (.int .i64) 0 false) [(0,(.box T60 (.val T60)))] (fun x=>uC2 x.1 x.2.1) (fun x=>sA5 x.1 x.2.1) (fun x=>tL9 x.1 x.2.1)):=fb Tryz.func66 25 [kb vB2,kb vH5,kb wY3] [(4,uR)] [(17,[(4,0,22,1006)]),(21,[(4,0,1006,0)])] true [0]
def uC3 (p0:D60)(p1:Unit)(p2:(Int×Int×Int×(List UInt8)×Bool×Bool×Bool×Int×Int×(Int×Int×(List Int)×Unit)×D43×Int×(Int×Int×(List D45)×Unit)×D45×Int×(List Int)×Int×(List D111)×(List D114)×Int×Int×Int×Int×(List UInt8)×Int×Int×Int×(Int×Int×Int×(List D106)×Unit)×Unit)):List Prop×(Unit)×(D60×Unit×(Int×Int×Int×(List UInt8)×Bool×Bool×Bool×Int×Int×(Int×Int×(List Int)×Unit)×D43×Int×(Int×Int×(List D45)×Unit)×D45×Int×(List Int)×Int×(List D111)×(List D114)×Int×Int×Int×Int×(List UInt8)×Int×Int×Int×(Int×Int×Int×(List D106)×Unit)×Unit)×Unit):=
 let v14o:=(wU0 p0)
 let v14o_1:=(wU0 v14o.1)
 let s_2:=(p2.2.2.2.2.2.2.2.2.2.2.2.2.2.2.2.2.2.2.2.2.2.2.2.2.2.2.2.1.1,p2.2.2.2.2.2.2.2.2.2.2.2.2.2.2.2.2.2.2.2.2.2.2.2.2.2.2.2.1.2.1,p2.2.2.2.2.2.2.2.2.2.2.2.2.2.2.2.2.2.2.2.2.2.2.2.2.2.2.2.1.2.2.1,p2.2.2.2.2.2.2.2.2.2.2.2.2.2.2.2.2.2.2.2.2.2.2.2.2.2.2.2.1.2.2.2.1,())
 let s_3:=((wV0 p0),(wV0 v14o.1),(wV0 v14o_1.1),p2.2.2.2.1,p2.2.2.2.2.1,p2.2.2.2.2.2.1,p2.2.2.2.2.2.2.1,p2.2.2.2.2.2.2.2.1,p2.2.2.2.2.2.2.2.2.1,(p2.2.2.2.2.2.2.2.2.2.1.1,p2.2.2.2.2.2.2.2.2.2.1.2.1,p2.2.2.2.2.2.2.2.2.2.1.2.2.1,()),p2.2.2.2.2.2.2.2.2.2.2.1,p2.2.2.2.2.2.2.2.2.2.2.2.1,(p2.2.2.2.2.2.2.2.2.2.2.2.2.1.1,p2.2.2.2.2.2.2.2.2.2.2.2.2.1.2.1,p2.2.2.2.2.2.2.2.2.2.2.2.2.1.2.2.1,()),p2.2.2.2.2.2.2.2.2.2.2.2.2.2.1,p2.2.2.2.2.2.2.2.2.2.2.2.2.2.2.1,p2.2.2.2.2.2.2.2.2.2.2.2.2.2.2.2.1,p2.2.2.2.2.2.2.2.2.2.2.2.2.2.2.2.2.1,p2.2.2.2.2.2.2.2.2.2.2.2.2.2.2.2.2.2.1,p2.2.2.2.2.2.2.2.2.2.2.2.2.2.2.2.2.2.2.1,p2.2.2.2.2.2.2.2.2.2.2.2.2.2.2.2.2.2.2.2.1,p2.2.2.2.2.2.2.2.2.2.2.2.2.2.2.2.2.2.2.2.2.1,p2.2.2.2.2.2.2.2.2.2.2.2.2.2.2.2.2.2.2.2.2.2.1,p2.2.2.2.2.2.2.2.2.2.2.2.2.2.2.2.2.2.2.2.2.2.2.1,p2.2.2.2.2.2.2.2.2.2.2.2.2.2.2.2.2.2.2.2.2.2.2.2.1,p2.2.2.2.2.2.2.2.2.2.2.2.2.2.2.2.2.2.2.2.2.2.2.2.2.1,p2.2.2.2.2.2.2.2.2.2.2.2.2.2.2.2.2.2.2.2.2.2.2.2.2.2.1,p2.2.2.2.2.2.2.2.2.2.2.2.2.2.2.2.2.2.2.2.2.2.2.2.2.2.2.1,s_2,())
 ([InB (0:Int) 3,(wT8 p0),InB (1:Int) 3,(wT8 v14o.1),InB (2:Int) 3,(wT8 v14o_1.1)],(),((wU0 v14o_1.1).1,(),s_3,()))
def uC4 (p0:D60)(p1:Unit)(p2:(Int×Int×Int×(List UInt8)×Bool×Bool×Bool×Int×Int×(Int×Int×(List Int)×Unit)×D43×Int×(Int×Int×(List D45)×Unit)×D45×Int×(List Int)×Int×(List D111)×(List D114)×Int×Int×Int×Int×(List UInt8)×Int×Int×Int×(Int×Int×Int×(List D106)×Unit)×Unit)):Prop:=yW (uC3 p0 p1 p2).1
def sA6 p0 p1 p2:=(uC3 p0 p1 p2).2.1
def tM p0 p1 p2:=(uC3 p0 p1 p2).2.2
instance (p0:D60)(p1:Unit)(p2:(Int×Int×Int×(List UInt8)×Bool×Bool×Bool×Int×Int×(Int×Int×(List Int)×Unit)×D43×Int×(Int×Int×(List D45)×Unit)×D45×Int×(List Int)×Int×(List D111)×(List D114)×Int×Int×Int×Int×(List UInt8)×Int×Int×Int×(Int×Int×Int×(List D106)×Unit)×Unit)):Decidable (uC4 p0 p1 p2):=by
 unfold uC4 uC3;dsimp only[yW]
 infer_instance
noncomputable def uR0:List (Fb Tryz.prog):=[kb wY3]
noncomputable def uZ9:Ctx:={ Cx tys (Fb.l uR0) [] [] true 17 [0,1] [] with skip:=true,dead:=[999999] }
theorem tA:CtxOk Tryz.prog uZ9:=wI7 wU5 (by kernel_rfl) (Fb.all uR0) rfl (by kernel_rfl)
@[reducible] def uC5:List (Nat×Sh):=[(0,(.box T60 (.val T60))),(1,(.ptrs false [some (990001,T52,[.inl 0]),some (990001,T52,[.inl 1]),some (990001,T52,[.inl 2])])),(990001,(.box T52 (.agg (.cons (.int .i64) (.cons (.int .i64) (.cons (.int .i64) (.cons .str (.cons .bool (.cons .bool (.cons .bool (.cons (.int .i64) (.cons (.int .i64) (.cons T26 (.cons T43 (.cons (.int .i64) (.cons T23 (.cons T45 (.cons (.int .i64) (.cons (.sl (.int .i64)) (.cons (.int .i64) (.cons (.sl T111) (.cons (.sl T114) (.cons (.int .i64) (.cons (.int .i64) (.cons (.int .i64) (.cons (.int .i64) (.cons .str (.cons (.int .i64) (.cons (.int .i64) (.cons (.int .i64) (.cons T50 .nl)))))))))))))))))))))))))))) (.cons vI (.cons vI (.cons vI (.cons vS (.cons vB (.cons vB (.cons vB (.cons vI (.cons vI (.cons (.agg (.cons (.int .i64) (.cons (.int .i64) (.cons (.sl (.int .i64)) .nl))) (.cons vI (.cons vI (.cons (.own (.int .i64) 400100 false) .nl)))) (.cons (.val T43) (.cons vI (.cons (.agg (.cons (.int .i64) (.cons (.int .i64) (.cons (.sl T45) .nl))) (.cons vI (.cons vI (.cons (.own T45 400101 false) .nl)))) (.cons (.val T45) (.cons vI (.cons (.own (.int .i64) 400102 false) (.cons vI (.cons (.own T111 400103 false) (.cons (.own T114 400104 false) (.cons vI (.cons vI (.cons vI (.cons vI (.cons vS (.cons vI (.cons vI (.cons vI (.cons (.agg (.cons (.int .i64) (.cons (.int .i64) (.cons (.int .i64) (.cons (.sl T106) .nl)))) (.cons vI (.cons vI (.cons vI (.cons (.own T106 400105 false) .nl))))) .nl)))))))))))))))))))))))))))))))]
theorem tF4:SK 63 (xI2 uC5 (.tup .nl) uC5 (fun x=>uC4 x.1 x.2.1 x.2.2.1) (fun x=>sA6 x.1 x.2.1 x.2.2.1) (fun x=>tM x.1 x.2.1 x.2.2.1)):=wP3 (ps:=uC5) (p:=fun x=>(uC3 x.1 x.2.1 x.2.2.1).1) (lv:=[(0,[0,1,6,7,8,990001]),(1,[0,1,6,7,8,9,990001]),(2,[0,1,5,6,7,8,990001]),(3,[0,1,6,7,8,990001]),(4,[0,1,6,7,8,990001])]) tA mixed Tryz.func63 (fun _ h=>h) (by kernel_rfl) (fun x=>by kernel_rfl)
def uC6 (p0:D60)(p1:Unit)(p2:(Int×Int×Int×(List UInt8)×Bool×Bool×Bool×Int×Int×(Int×Int×(List Int)×Unit)×D43×Int×(Int×Int×(List D45)×Unit)×D45×Int×(List Int)×Int×(List D111)×(List D114)×Int×Int×Int×Int×(List UInt8)×Int×Int×Int×(Int×Int×Int×(List D106)×Unit)×Unit)):List Prop×(Unit)×(D60×Unit×(Int×Int×Int×(List UInt8)×Bool×Bool×Bool×Int×Int×(Int×Int×(List Int)×Unit)×D43×Int×(Int×Int×(List D45)×Unit)×D45×Int×(List Int)×Int×(List D111)×(List D114)×Int×Int×Int×Int×(List UInt8)×Int×Int×Int×(Int×Int×Int×(List D106)×Unit)×Unit)×Unit):=
 let v14:=(uG1 p0)
 let v14o:=(vO p0)
 let v16:=(decide (v14>1))
 let m0:=(bif v16 then (vB0 v14o.1 (4:Int)).1 else v14o.1)
 let v14_1:=(uG1 m0)
 let v14o_1:=(vO m0)
 let v16_1:=(decide (v14_1>1))
 let m0_1:=(bif v16_1 then (vB0 v14o_1.1 (4:Int)).1 else v14o_1.1)
 let v14_2:=(uG1 m0_1)
 let v14o_2:=(vO m0_1)
 let v16_2:=(decide (v14_2>1))
 let s_2:=(p2.2.2.2.2.2.2.2.2.2.2.2.2.2.2.2.2.2.2.2.2.2.2.2.2.2.2.2.1.1,p2.2.2.2.2.2.2.2.2.2.2.2.2.2.2.2.2.2.2.2.2.2.2.2.2.2.2.2.1.2.1,p2.2.2.2.2.2.2.2.2.2.2.2.2.2.2.2.2.2.2.2.2.2.2.2.2.2.2.2.1.2.2.1,p2.2.2.2.2.2.2.2.2.2.2.2.2.2.2.2.2.2.2.2.2.2.2.2.2.2.2.2.1.2.2.2.1,())
 let s_3:=(p2.1,p2.2.1,p2.2.2.1,p2.2.2.2.1,(v14==1),(v14_1==1),(v14_2==1),p2.2.2.2.2.2.2.2.1,p2.2.2.2.2.2.2.2.2.1,(p2.2.2.2.2.2.2.2.2.2.1.1,p2.2.2.2.2.2.2.2.2.2.1.2.1,p2.2.2.2.2.2.2.2.2.2.1.2.2.1,()),p2.2.2.2.2.2.2.2.2.2.2.1,p2.2.2.2.2.2.2.2.2.2.2.2.1,(p2.2.2.2.2.2.2.2.2.2.2.2.2.1.1,p2.2.2.2.2.2.2.2.2.2.2.2.2.1.2.1,p2.2.2.2.2.2.2.2.2.2.2.2.2.1.2.2.1,()),p2.2.2.2.2.2.2.2.2.2.2.2.2.2.1,p2.2.2.2.2.2.2.2.2.2.2.2.2.2.2.1,p2.2.2.2.2.2.2.2.2.2.2.2.2.2.2.2.1,p2.2.2.2.2.2.2.2.2.2.2.2.2.2.2.2.2.1,p2.2.2.2.2.2.2.2.2.2.2.2.2.2.2.2.2.2.1,p2.2.2.2.2.2.2.2.2.2.2.2.2.2.2.2.2.2.2.1,p2.2.2.2.2.2.2.2.2.2.2.2.2.2.2.2.2.2.2.2.1,p2.2.2.2.2.2.2.2.2.2.2.2.2.2.2.2.2.2.2.2.2.1,p2.2.2.2.2.2.2.2.2.2.2.2.2.2.2.2.2.2.2.2.2.2.1,p2.2.2.2.2.2.2.2.2.2.2.2.2.2.2.2.2.2.2.2.2.2.2.1,p2.2.2.2.2.2.2.2.2.2.2.2.2.2.2.2.2.2.2.2.2.2.2.2.1,p2.2.2.2.2.2.2.2.2.2.2.2.2.2.2.2.2.2.2.2.2.2.2.2.2.1,p2.2.2.2.2.2.2.2.2.2.2.2.2.2.2.2.2.2.2.2.2.2.2.2.2.2.1,p2.2.2.2.2.2.2.2.2.2.2.2.2.2.2.2.2.2.2.2.2.2.2.2.2.2.2.1,s_2,())
 ([InB (0:Int) 3,(vB1 p0),(v16=true→(wY9 v14o.1 (4:Int))),InB (1:Int) 3,(vB1 m0),(v16_1=true→(wY9 v14o_1.1 (4:Int))),InB (2:Int) 3,(vB1 m0_1),(v16_2=true→(wY9 v14o_2.1 (4:Int)))],(),((bif v16_2 then (vB0 v14o_2.1 (4:Int)).1 else v14o_2.1),(),s_3,()))
def uC7 (p0:D60)(p1:Unit)(p2:(Int×Int×Int×(List UInt8)×Bool×Bool×Bool×Int×Int×(Int×Int×(List Int)×Unit)×D43×Int×(Int×Int×(List D45)×Unit)×D45×Int×(List Int)×Int×(List D111)×(List D114)×Int×Int×Int×Int×(List UInt8)×Int×Int×Int×(Int×Int×Int×(List D106)×Unit)×Unit)):Prop:=yW (uC6 p0 p1 p2).1
def sA7 p0 p1 p2:=(uC6 p0 p1 p2).2.1
def tM0 p0 p1 p2:=(uC6 p0 p1 p2).2.2
instance (p0:D60)(p1:Unit)(p2:(Int×Int×Int×(List UInt8)×Bool×Bool×Bool×Int×Int×(Int×Int×(List Int)×Unit)×D43×Int×(Int×Int×(List D45)×Unit)×D45×Int×(List Int)×Int×(List D111)×(List D114)×Int×Int×Int×Int×(List UInt8)×Int×Int×Int×(Int×Int×Int×(List D106)×Unit)×Unit)):Decidable (uC7 p0 p1 p2):=by
 unfold uC7 uC6;dsimp only[yW]
 infer_instance
noncomputable def uR1:List (Fb Tryz.prog):=[kb uB4,kb vZ9]
noncomputable def tA0:Ctx:={ Cx tys (Fb.l uR1) [] [] true 24 [0,1] [] with skip:=true,dead:=[999999] }
theorem tA1:CtxOk Tryz.prog tA0:=wI7 wU5 (by kernel_rfl) (Fb.all uR1) rfl (by kernel_rfl)
@[reducible] def uC8:List (Nat×Sh):=[(0,(.box T60 (.val T60))),(1,(.ptrs false [some (990001,T52,[.inl 4]),some (990001,T52,[.inl 5]),some (990001,T52,[.inl 6])])),(990001,(.box T52 (.agg (.cons (.int .i64) (.cons (.int .i64) (.cons (.int .i64) (.cons .str (.cons .bool (.cons .bool (.cons .bool (.cons (.int .i64) (.cons (.int .i64) (.cons T26 (.cons T43 (.cons (.int .i64) (.cons T23 (.cons T45 (.cons (.int .i64) (.cons (.sl (.int .i64)) (.cons (.int .i64) (.cons (.sl T111) (.cons (.sl T114) (.cons (.int .i64) (.cons (.int .i64) (.cons (.int .i64) (.cons (.int .i64) (.cons .str (.cons (.int .i64) (.cons (.int .i64) (.cons (.int .i64) (.cons T50 .nl)))))))))))))))))))))))))))) (.cons vI (.cons vI (.cons vI (.cons vS (.cons vB (.cons vB (.cons vB (.cons vI (.cons vI (.cons (.agg (.cons (.int .i64) (.cons (.int .i64) (.cons (.sl (.int .i64)) .nl))) (.cons vI (.cons vI (.cons (.own (.int .i64) 400100 false) .nl)))) (.cons (.val T43) (.cons vI (.cons (.agg (.cons (.int .i64) (.cons (.int .i64) (.cons (.sl T45) .nl))) (.cons vI (.cons vI (.cons (.own T45 400101 false) .nl)))) (.cons (.val T45) (.cons vI (.cons (.own (.int .i64) 400102 false) (.cons vI (.cons (.own T111 400103 false) (.cons (.own T114 400104 false) (.cons vI (.cons vI (.cons vI (.cons vI (.cons vS (.cons vI (.cons vI (.cons vI (.cons (.agg (.cons (.int .i64) (.cons (.int .i64) (.cons (.int .i64) (.cons (.sl T106) .nl)))) (.cons vI (.cons vI (.cons vI (.cons (.own T106 400105 false) .nl))))) .nl)))))))))))))))))))))))))))))))]
theorem tF5:SK 65 (xI2 uC8 (.tup .nl) uC8 (fun x=>uC7 x.1 x.2.1 x.2.2.1) (fun x=>sA7 x.1 x.2.1 x.2.2.1) (fun x=>tM0 x.1 x.2.1 x.2.2.1)):=wP3 (ps:=uC8) (p:=fun x=>(uC6 x.1 x.2.1 x.2.2.1).1) (lv:=[(0,[0,1,7,8,9,990001]),(1,[0,1,7,8,9,10,990001]),(2,[0,1,5,7,8,9,990001]),(3,[0,1,5,6,7,8,9,990001]),(4,[0,1,5,6,7,8,9,16,990001]),(5,[0,1,5,6,7,8,9,990001]),(6,[0,1,7,8,9,990001]),(7,[0,1,7,8,9,990001])]) tA1 mixed Tryz.func65 (fun _ h=>h) (by kernel_rfl) (fun x=>by kernel_rfl)
def uC9 (p0:D60)(p1:Unit)(p2:(Int×Int×Int×(List UInt8)×Bool×Bool×Bool×Int×Int×(Int×Int×(List Int)×Unit)×D43×Int×(Int×Int×(List D45)×Unit)×D45×Int×(List Int)×Int×(List D111)×(List D114)×Int×Int×Int×Int×(List UInt8)×Int×Int×Int×(Int×Int×Int×(List D106)×Unit)×Unit)):List Prop×(Unit)×(D60×Unit×(Int×Int×Int×(List UInt8)×Bool×Bool×Bool×Int×Int×(Int×Int×(List Int)×Unit)×D43×Int×(Int×Int×(List D45)×Unit)×D45×Int×(List Int)×Int×(List D111)×(List D114)×Int×Int×Int×Int×(List UInt8)×Int×Int×Int×(Int×Int×Int×(List D106)×Unit)×Unit)×Unit):=
 let v14o:=(wU0 p0)
 let s_2:=(p2.2.2.2.2.2.2.2.2.2.2.2.2.2.2.2.2.2.2.2.2.2.2.2.2.2.2.2.1.1,p2.2.2.2.2.2.2.2.2.2.2.2.2.2.2.2.2.2.2.2.2.2.2.2.2.2.2.2.1.2.1,p2.2.2.2.2.2.2.2.2.2.2.2.2.2.2.2.2.2.2.2.2.2.2.2.2.2.2.2.1.2.2.1,p2.2.2.2.2.2.2.2.2.2.2.2.2.2.2.2.2.2.2.2.2.2.2.2.2.2.2.2.1.2.2.2.1,())
 let s_3:=(p2.1,p2.2.1,p2.2.2.1,p2.2.2.2.1,p2.2.2.2.2.1,p2.2.2.2.2.2.1,p2.2.2.2.2.2.2.1,(wV0 p0),(wV0 v14o.1),(p2.2.2.2.2.2.2.2.2.2.1.1,p2.2.2.2.2.2.2.2.2.2.1.2.1,p2.2.2.2.2.2.2.2.2.2.1.2.2.1,()),p2.2.2.2.2.2.2.2.2.2.2.1,p2.2.2.2.2.2.2.2.2.2.2.2.1,(p2.2.2.2.2.2.2.2.2.2.2.2.2.1.1,p2.2.2.2.2.2.2.2.2.2.2.2.2.1.2.1,p2.2.2.2.2.2.2.2.2.2.2.2.2.1.2.2.1,()),p2.2.2.2.2.2.2.2.2.2.2.2.2.2.1,p2.2.2.2.2.2.2.2.2.2.2.2.2.2.2.1,p2.2.2.2.2.2.2.2.2.2.2.2.2.2.2.2.1,p2.2.2.2.2.2.2.2.2.2.2.2.2.2.2.2.2.1,p2.2.2.2.2.2.2.2.2.2.2.2.2.2.2.2.2.2.1,p2.2.2.2.2.2.2.2.2.2.2.2.2.2.2.2.2.2.2.1,p2.2.2.2.2.2.2.2.2.2.2.2.2.2.2.2.2.2.2.2.1,p2.2.2.2.2.2.2.2.2.2.2.2.2.2.2.2.2.2.2.2.2.1,p2.2.2.2.2.2.2.2.2.2.2.2.2.2.2.2.2.2.2.2.2.2.1,p2.2.2.2.2.2.2.2.2.2.2.2.2.2.2.2.2.2.2.2.2.2.2.1,p2.2.2.2.2.2.2.2.2.2.2.2.2.2.2.2.2.2.2.2.2.2.2.2.1,p2.2.2.2.2.2.2.2.2.2.2.2.2.2.2.2.2.2.2.2.2.2.2.2.2.1,p2.2.2.2.2.2.2.2.2.2.2.2.2.2.2.2.2.2.2.2.2.2.2.2.2.2.1,p2.2.2.2.2.2.2.2.2.2.2.2.2.2.2.2.2.2.2.2.2.2.2.2.2.2.2.1,s_2,())
 ([InB (0:Int) 2,(wT8 p0),InB (1:Int) 2,(wT8 v14o.1)],(),((wU0 v14o.1).1,(),s_3,()))
def uD (p0:D60)(p1:Unit)(p2:(Int×Int×Int×(List UInt8)×Bool×Bool×Bool×Int×Int×(Int×Int×(List Int)×Unit)×D43×Int×(Int×Int×(List D45)×Unit)×D45×Int×(List Int)×Int×(List D111)×(List D114)×Int×Int×Int×Int×(List UInt8)×Int×Int×Int×(Int×Int×Int×(List D106)×Unit)×Unit)):Prop:=yW (uC9 p0 p1 p2).1
def sA8 p0 p1 p2:=(uC9 p0 p1 p2).2.1
def tM1 p0 p1 p2:=(uC9 p0 p1 p2).2.2
instance (p0:D60)(p1:Unit)(p2:(Int×Int×Int×(List UInt8)×Bool×Bool×Bool×Int×Int×(Int×Int×(List Int)×Unit)×D43×Int×(Int×Int×(List D45)×Unit)×D45×Int×(List Int)×Int×(List D111)×(List D114)×Int×Int×Int×Int×(List UInt8)×Int×Int×Int×(Int×Int×Int×(List D106)×Unit)×Unit)):Decidable (uD p0 p1 p2):=by
 unfold uD uC9;dsimp only[yW]
 infer_instance
noncomputable def uR2:List (Fb Tryz.prog):=[kb wY3]
noncomputable def tA2:Ctx:={ Cx tys (Fb.l uR2) [] [] true 17 [0,1] [] with skip:=true,dead:=[999999] }
theorem tA3:CtxOk Tryz.prog tA2:=wI7 wU5 (by kernel_rfl) (Fb.all uR2) rfl (by kernel_rfl)
@[reducible] def uD0:List (Nat×Sh):=[(0,(.box T60 (.val T60))),(1,(.ptrs false [some (990001,T52,[.inl 7]),some (990001,T52,[.inl 8])])),(990001,(.box T52 (.agg (.cons (.int .i64) (.cons (.int .i64) (.cons (.int .i64) (.cons .str (.cons .bool (.cons .bool (.cons .bool (.cons (.int .i64) (.cons (.int .i64) (.cons T26 (.cons T43 (.cons (.int .i64) (.cons T23 (.cons T45 (.cons (.int .i64) (.cons (.sl (.int .i64)) (.cons (.int .i64) (.cons (.sl T111) (.cons (.sl T114) (.cons (.int .i64) (.cons (.int .i64) (.cons (.int .i64) (.cons (.int .i64) (.cons .str (.cons (.int .i64) (.cons (.int .i64) (.cons (.int .i64) (.cons T50 .nl)))))))))))))))))))))))))))) (.cons vI (.cons vI (.cons vI (.cons vS (.cons vB (.cons vB (.cons vB (.cons vI (.cons vI (.cons (.agg (.cons (.int .i64) (.cons (.int .i64) (.cons (.sl (.int .i64)) .nl))) (.cons vI (.cons vI (.cons (.own (.int .i64) 400100 false) .nl)))) (.cons (.val T43) (.cons vI (.cons (.agg (.cons (.int .i64) (.cons (.int .i64) (.cons (.sl T45) .nl))) (.cons vI (.cons vI (.cons (.own T45 400101 false) .nl)))) (.cons (.val T45) (.cons vI (.cons (.own (.int .i64) 400102 false) (.cons vI (.cons (.own T111 400103 false) (.cons (.own T114 400104 false) (.cons vI (.cons vI (.cons vI (.cons vI (.cons vS (.cons vI (.cons vI (.cons vI (.cons (.agg (.cons (.int .i64) (.cons (.int .i64) (.cons (.int .i64) (.cons (.sl T106) .nl)))) (.cons vI (.cons vI (.cons vI (.cons (.own T106 400105 false) .nl))))) .nl)))))))))))))))))))))))))))))))]
theorem tF6:SK 63 (xI2 uD0 (.tup .nl) uD0 (fun x=>uD x.1 x.2.1 x.2.2.1) (fun x=>sA8 x.1 x.2.1 x.2.2.1) (fun x=>tM1 x.1 x.2.1 x.2.2.1)):=wP3 (ps:=uD0) (p:=fun x=>(uC9 x.1 x.2.1 x.2.2.1).1) (lv:=[(0,[0,1,6,7,8,990001]),(1,[0,1,6,7,8,9,990001]),(2,[0,1,5,6,7,8,990001]),(3,[0,1,6,7,8,990001]),(4,[0,1,6,7,8,990001])]) tA3 mixed Tryz.func63 (fun _ h=>h) (by kernel_rfl) (fun x=>by kernel_rfl)
def uD1 (p0:D60)(p1:Unit)(p2:(Int×Int×Int×(List UInt8)×Bool×Bool×Bool×Int×Int×D26×D43×Int×(Int×Int×(List D45)×Unit)×D45×Int×(List Int)×Int×(List D111)×(List D114)×Int×Int×Int×Int×(List UInt8)×Int×Int×Int×(Int×Int×Int×(List D106)×Unit)×Unit)):List Prop×(Unit)×(D60×Unit×(Int×Int×Int×(List UInt8)×Bool×Bool×Bool×Int×Int×D26×D43×Int×(Int×Int×(List D45)×Unit)×D45×Int×(List Int)×Int×(List D111)×(List D114)×Int×Int×Int×Int×(List UInt8)×Int×Int×Int×(Int×Int×Int×(List D106)×Unit)×Unit)×Unit):=
 let v14o:=(wU0 p0)
 let v14o_1:=(wU0 v14o.1)
 let v14o_2:=(wU0 v14o_1.1)
 let v14o_3:=(wU0 v14o_2.1)
 let v14o_4:=(wU0 v14o_3.1)
 let v14o_5:=(wU0 v14o_4.1)
 let s_7:=(p2.2.2.2.2.2.2.2.2.2.2.2.2.2.2.2.2.2.2.2.2.2.2.2.2.2.2.2.1.1,p2.2.2.2.2.2.2.2.2.2.2.2.2.2.2.2.2.2.2.2.2.2.2.2.2.2.2.2.1.2.1,p2.2.2.2.2.2.2.2.2.2.2.2.2.2.2.2.2.2.2.2.2.2.2.2.2.2.2.2.1.2.2.1,p2.2.2.2.2.2.2.2.2.2.2.2.2.2.2.2.2.2.2.2.2.2.2.2.2.2.2.2.1.2.2.2.1,())
 let s_8:=(p2.1,p2.2.1,p2.2.2.1,p2.2.2.2.1,p2.2.2.2.2.1,p2.2.2.2.2.2.1,p2.2.2.2.2.2.2.1,p2.2.2.2.2.2.2.2.1,p2.2.2.2.2.2.2.2.2.1,p2.2.2.2.2.2.2.2.2.2.1,((wV0 p0),(wV0 v14o.1),(wV0 v14o_1.1),(wV0 v14o_2.1),(wV0 v14o_3.1),(wV0 v14o_4.1),()),(wV0 v14o_5.1),(p2.2.2.2.2.2.2.2.2.2.2.2.2.1.1,p2.2.2.2.2.2.2.2.2.2.2.2.2.1.2.1,p2.2.2.2.2.2.2.2.2.2.2.2.2.1.2.2.1,()),p2.2.2.2.2.2.2.2.2.2.2.2.2.2.1,p2.2.2.2.2.2.2.2.2.2.2.2.2.2.2.1,p2.2.2.2.2.2.2.2.2.2.2.2.2.2.2.2.1,p2.2.2.2.2.2.2.2.2.2.2.2.2.2.2.2.2.1,p2.2.2.2.2.2.2.2.2.2.2.2.2.2.2.2.2.2.1,p2.2.2.2.2.2.2.2.2.2.2.2.2.2.2.2.2.2.2.1,p2.2.2.2.2.2.2.2.2.2.2.2.2.2.2.2.2.2.2.2.1,p2.2.2.2.2.2.2.2.2.2.2.2.2.2.2.2.2.2.2.2.2.1,p2.2.2.2.2.2.2.2.2.2.2.2.2.2.2.2.2.2.2.2.2.2.1,p2.2.2.2.2.2.2.2.2.2.2.2.2.2.2.2.2.2.2.2.2.2.2.1,p2.2.2.2.2.2.2.2.2.2.2.2.2.2.2.2.2.2.2.2.2.2.2.2.1,p2.2.2.2.2.2.2.2.2.2.2.2.2.2.2.2.2.2.2.2.2.2.2.2.2.1,p2.2.2.2.2.2.2.2.2.2.2.2.2.2.2.2.2.2.2.2.2.2.2.2.2.2.1,p2.2.2.2.2.2.2.2.2.2.2.2.2.2.2.2.2.2.2.2.2.2.2.2.2.2.2.1,s_7,())
 ([InB (0:Int) 7,(wT8 p0),InB (1:Int) 7,(wT8 v14o.1),InB (2:Int) 7,(wT8 v14o_1.1),InB (3:Int) 7,(wT8 v14o_2.1),InB (4:Int) 7,(wT8 v14o_3.1),InB (5:Int) 7,(wT8 v14o_4.1),InB (6:Int) 7,(wT8 v14o_5.1)],(),((wU0 v14o_5.1).1,(),s_8,()))
def uD2 (p0:D60)(p1:Unit)(p2:(Int×Int×Int×(List UInt8)×Bool×Bool×Bool×Int×Int×D26×D43×Int×(Int×Int×(List D45)×Unit)×D45×Int×(List Int)×Int×(List D111)×(List D114)×Int×Int×Int×Int×(List UInt8)×Int×Int×Int×(Int×Int×Int×(List D106)×Unit)×Unit)):Prop:=yW (uD1 p0 p1 p2).1
def sA9 p0 p1 p2:=(uD1 p0 p1 p2).2.1
def tM2 p0 p1 p2:=(uD1 p0 p1 p2).2.2
instance (p0:D60)(p1:Unit)(p2:(Int×Int×Int×(List UInt8)×Bool×Bool×Bool×Int×Int×D26×D43×Int×(Int×Int×(List D45)×Unit)×D45×Int×(List Int)×Int×(List D111)×(List D114)×Int×Int×Int×Int×(List UInt8)×Int×Int×Int×(Int×Int×Int×(List D106)×Unit)×Unit)):Decidable (uD2 p0 p1 p2):=by
 unfold uD2 uD1;dsimp only[yW]
 infer_instance
noncomputable def uR3:List (Fb Tryz.prog):=[kb wY3]
noncomputable def tA4:Ctx:={ Cx tys (Fb.l uR3) [] [] true 17 [0,1] [] with skip:=true,dead:=[999999] }
theorem tA5:CtxOk Tryz.prog tA4:=wI7 wU5 (by kernel_rfl) (Fb.all uR3) rfl (by kernel_rfl)
@[reducible] def uD3:List (Nat×Sh):=[(0,(.box T60 (.val T60))),(1,(.ptrs false [some (990001,T52,[.inl 10,.inl 0]),some (990001,T52,[.inl 10,.inl 1]),some (990001,T52,[.inl 10,.inl 2]),some (990001,T52,[.inl 10,.inl 3]),some (990001,T52,[.inl 10,.inl 4]),some (990001,T52,[.inl 10,.inl 5]),some (990001,T52,[.inl 11])])),(990001,(.box T52 (.agg (.cons (.int .i64) (.cons (.int .i64) (.cons (.int .i64) (.cons .str (.cons .bool (.cons .bool (.cons .bool (.cons (.int .i64) (.cons (.int .i64) (.cons T26 (.cons T43 (.cons (.int .i64) (.cons T23 (.cons T45 (.cons (.int .i64) (.cons (.sl (.int .i64)) (.cons (.int .i64) (.cons (.sl T111) (.cons (.sl T114) (.cons (.int .i64) (.cons (.int .i64) (.cons (.int .i64) (.cons (.int .i64) (.cons .str (.cons (.int .i64) (.cons (.int .i64) (.cons (.int .i64) (.cons T50 .nl)))))))))))))))))))))))))))) (.cons vI (.cons vI (.cons vI (.cons vS (.cons vB (.cons vB (.cons vB (.cons vI (.cons vI (.cons (.val T26) (.cons (.val T43) (.cons vI (.cons (.agg (.cons (.int .i64) (.cons (.int .i64) (.cons (.sl T45) .nl))) (.cons vI (.cons vI (.cons (.own T45 400101 false) .nl)))) (.cons (.val T45) (.cons vI (.cons (.own (.int .i64) 400102 false) (.cons vI (.cons (.own T111 400103 false) (.cons (.own T114 400104 false) (.cons vI (.cons vI (.cons vI (.cons vI (.cons vS (.cons vI (.cons vI (.cons vI (.cons (.agg (.cons (.int .i64) (.cons (.int .i64) (.cons (.int .i64) (.cons (.sl T106) .nl)))) (.cons vI (.cons vI (.cons vI (.cons (.own T106 400105 false) .nl))))) .nl)))))))))))))))))))))))))))))))]
theorem tF7:SK 63 (xI2 uD3 (.tup .nl) uD3 (fun x=>uD2 x.1 x.2.1 x.2.2.1) (fun x=>sA9 x.1 x.2.1 x.2.2.1) (fun x=>tM2 x.1 x.2.1 x.2.2.1)):=wP3 (ps:=uD3) (p:=fun x=>(uD1 x.1 x.2.1 x.2.2.1).1) (lv:=[(0,[0,1,6,7,8,990001]),(1,[0,1,6,7,8,9,990001]),(2,[0,1,5,6,7,8,990001]),(3,[0,1,6,7,8,990001]),(4,[0,1,6,7,8,990001])]) tA5 mixed Tryz.func63 (fun _ h=>h) (by kernel_rfl) (fun x=>by kernel_rfl)
def uD4 (p0:D60)(p1:Unit)(p2:(Int×Int×Int×(List UInt8)×Bool×Bool×Bool×Int×Int×D26×D43×Int×D23×D45×Int×(List Int)×Int×(List D111)×(List D114)×Int×Int×Int×Int×(List UInt8)×Int×Int×Int×(Int×Int×Int×(List D106)×Unit)×Unit)):List Prop×(Unit)×(D60×Unit×(Int×Int×Int×(List UInt8)×Bool×Bool×Bool×Int×Int×D26×D43×Int×D23×D45×Int×(List Int)×Int×(List D111)×(List D114)×Int×Int×Int×Int×(List UInt8)×Int×Int×Int×(Int×Int×Int×(List D106)×Unit)×Unit)×Unit):=
 let v14o:=(wU0 p0)
 let v14o_1:=(wU0 v14o.1)
 let v14o_2:=(wU0 v14o_1.1)
 let v14o_3:=(wU0 v14o_2.1)
 let s_4:=(p2.2.2.2.2.2.2.2.2.2.2.2.2.2.2.2.2.2.2.2.2.2.2.2.2.2.2.2.1.1,p2.2.2.2.2.2.2.2.2.2.2.2.2.2.2.2.2.2.2.2.2.2.2.2.2.2.2.2.1.2.1,p2.2.2.2.2.2.2.2.2.2.2.2.2.2.2.2.2.2.2.2.2.2.2.2.2.2.2.2.1.2.2.1,p2.2.2.2.2.2.2.2.2.2.2.2.2.2.2.2.2.2.2.2.2.2.2.2.2.2.2.2.1.2.2.2.1,())
 let s_5:=(p2.1,p2.2.1,p2.2.2.1,p2.2.2.2.1,p2.2.2.2.2.1,p2.2.2.2.2.2.1,p2.2.2.2.2.2.2.1,p2.2.2.2.2.2.2.2.1,p2.2.2.2.2.2.2.2.2.1,p2.2.2.2.2.2.2.2.2.2.1,p2.2.2.2.2.2.2.2.2.2.2.1,p2.2.2.2.2.2.2.2.2.2.2.2.1,p2.2.2.2.2.2.2.2.2.2.2.2.2.1,((wV0 p0),(wV0 v14o.1),(wV0 v14o_1.1),(wV0 v14o_2.1),()),(wV0 v14o_3.1),p2.2.2.2.2.2.2.2.2.2.2.2.2.2.2.2.1,p2.2.2.2.2.2.2.2.2.2.2.2.2.2.2.2.2.1,p2.2.2.2.2.2.2.2.2.2.2.2.2.2.2.2.2.2.1,p2.2.2.2.2.2.2.2.2.2.2.2.2.2.2.2.2.2.2.1,p2.2.2.2.2.2.2.2.2.2.2.2.2.2.2.2.2.2.2.2.1,p2.2.2.2.2.2.2.2.2.2.2.2.2.2.2.2.2.2.2.2.2.1,p2.2.2.2.2.2.2.2.2.2.2.2.2.2.2.2.2.2.2.2.2.2.1,p2.2.2.2.2.2.2.2.2.2.2.2.2.2.2.2.2.2.2.2.2.2.2.1,p2.2.2.2.2.2.2.2.2.2.2.2.2.2.2.2.2.2.2.2.2.2.2.2.1,p2.2.2.2.2.2.2.2.2.2.2.2.2.2.2.2.2.2.2.2.2.2.2.2.2.1,p2.2.2.2.2.2.2.2.2.2.2.2.2.2.2.2.2.2.2.2.2.2.2.2.2.2.1,p2.2.2.2.2.2.2.2.2.2.2.2.2.2.2.2.2.2.2.2.2.2.2.2.2.2.2.1,s_4,())
 ([InB (0:Int) 5,(wT8 p0),InB (1:Int) 5,(wT8 v14o.1),InB (2:Int) 5,(wT8 v14o_1.1),InB (3:Int) 5,(wT8 v14o_2.1),InB (4:Int) 5,(wT8 v14o_3.1)],(),((wU0 v14o_3.1).1,(),s_5,()))
def uD5 (p0:D60)(p1:Unit)(p2:(Int×Int×Int×(List UInt8)×Bool×Bool×Bool×Int×Int×D26×D43×Int×D23×D45×Int×(List Int)×Int×(List D111)×(List D114)×Int×Int×Int×Int×(List UInt8)×Int×Int×Int×(Int×Int×Int×(List D106)×Unit)×Unit)):Prop:=yW (uD4 p0 p1 p2).1
def sB p0 p1 p2:=(uD4 p0 p1 p2).2.1
def tM3 p0 p1 p2:=(uD4 p0 p1 p2).2.2
instance (p0:D60)(p1:Unit)(p2:(Int×Int×Int×(List UInt8)×Bool×Bool×Bool×Int×Int×D26×D43×Int×D23×D45×Int×(List Int)×Int×(List D111)×(List D114)×Int×Int×Int×Int×(List UInt8)×Int×Int×Int×(Int×Int×Int×(List D106)×Unit)×Unit)):Decidable (uD5 p0 p1 p2):=by
 unfold uD5 uD4;dsimp only[yW]
 infer_instance
noncomputable def uR4:List (Fb Tryz.prog):=[kb wY3]
noncomputable def tA6:Ctx:={ Cx tys (Fb.l uR4) [] [] true 17 [0,1] [] with skip:=true,dead:=[999999] }
theorem tA7:CtxOk Tryz.prog tA6:=wI7 wU5 (by kernel_rfl) (Fb.all uR4) rfl (by kernel_rfl)
@[reducible] def uD6:List (Nat×Sh):=[(0,(.box T60 (.val T60))),(1,(.ptrs false [some (990001,T52,[.inl 13,.inl 0]),some (990001,T52,[.inl 13,.inl 1]),some (990001,T52,[.inl 13,.inl 2]),some (990001,T52,[.inl 13,.inl 3]),some (990001,T52,[.inl 14])])),(990001,(.box T52 (.agg (.cons (.int .i64) (.cons (.int .i64) (.cons (.int .i64) (.cons .str (.cons .bool (.cons .bool (.cons .bool (.cons (.int .i64) (.cons (.int .i64) (.cons T26 (.cons T43 (.cons (.int .i64) (.cons T23 (.cons T45 (.cons (.int .i64) (.cons (.sl (.int .i64)) (.cons (.int .i64) (.cons (.sl T111) (.cons (.sl T114) (.cons (.int .i64) (.cons (.int .i64) (.cons (.int .i64) (.cons (.int .i64) (.cons .str (.cons (.int .i64) (.cons (.int .i64) (.cons (.int .i64) (.cons T50 .nl)))))))))))))))))))))))))))) (.cons vI (.cons vI (.cons vI (.cons vS (.cons vB (.cons vB (.cons vB (.cons vI (.cons vI (.cons (.val T26) (.cons (.val T43) (.cons vI (.cons (.val T23) (.cons (.val T45) (.cons vI (.cons (.own (.int .i64) 400102 false) (.cons vI (.cons (.own T111 400103 false) (.cons (.own T114 400104 false) (.cons vI (.cons vI (.cons vI (.cons vI (.cons vS (.cons vI (.cons vI (.cons vI (.cons (.agg (.cons (.int .i64) (.cons (.int .i64) (.cons (.int .i64) (.cons (.sl T106) .nl)))) (.cons vI (.cons vI (.cons vI (.cons (.own T106 400105 false) .nl))))) .nl)))))))))))))))))))))))))))))))]
theorem tF8:SK 63 (xI2 uD6 (.tup .nl) uD6 (fun x=>uD5 x.1 x.2.1 x.2.2.1) (fun x=>sB x.1 x.2.1 x.2.2.1) (fun x=>tM3 x.1 x.2.1 x.2.2.1)):=wP3 (ps:=uD6) (p:=fun x=>(uD4 x.1 x.2.1 x.2.2.1).1) (lv:=[(0,[0,1,6,7,8,990001]),(1,[0,1,6,7,8,9,990001]),(2,[0,1,5,6,7,8,990001]),(3,[0,1,6,7,8,990001]),(4,[0,1,6,7,8,990001])]) tA7 mixed Tryz.func63 (fun _ h=>h) (by kernel_rfl) (fun x=>by kernel_rfl)
def uD7 (p0:D60)(p1:Unit)(p2:(Int×Int×Int×(List UInt8)×Bool×Bool×Bool×Int×Int×D26×D43×Int×D23×D45×Int×(List Int)×Int×(List D111)×(List D114)×Int×Int×Int×Int×(List UInt8)×Int×Int×Int×(Int×Int×Int×(List D106)×Unit)×Unit)):List Prop×(Unit)×(D60×Unit×(Int×Int×Int×(List UInt8)×Bool×Bool×Bool×Int×Int×D26×D43×Int×D23×D45×Int×(List Int)×Int×(List D111)×(List D114)×Int×Int×Int×Int×(List UInt8)×Int×Int×Int×(Int×Int×Int×(List D106)×Unit)×Unit)×Unit):=
 let s:=(p2.2.2.2.2.2.2.2.2.2.2.2.2.2.2.2.2.2.2.2.2.2.2.2.2.2.2.2.1.1,p2.2.2.2.2.2.2.2.2.2.2.2.2.2.2.2.2.2.2.2.2.2.2.2.2.2.2.2.1.2.1,p2.2.2.2.2.2.2.2.2.2.2.2.2.2.2.2.2.2.2.2.2.2.2.2.2.2.2.2.1.2.2.1,p2.2.2.2.2.2.2.2.2.2.2.2.2.2.2.2.2.2.2.2.2.2.2.2.2.2.2.2.1.2.2.2.1,())
 let s_1:=(p2.1,p2.2.1,p2.2.2.1,p2.2.2.2.1,p2.2.2.2.2.1,p2.2.2.2.2.2.1,p2.2.2.2.2.2.2.1,p2.2.2.2.2.2.2.2.1,p2.2.2.2.2.2.2.2.2.1,p2.2.2.2.2.2.2.2.2.2.1,p2.2.2.2.2.2.2.2.2.2.2.1,p2.2.2.2.2.2.2.2.2.2.2.2.1,p2.2.2.2.2.2.2.2.2.2.2.2.2.1,p2.2.2.2.2.2.2.2.2.2.2.2.2.2.1,p2.2.2.2.2.2.2.2.2.2.2.2.2.2.2.1,p2.2.2.2.2.2.2.2.2.2.2.2.2.2.2.2.1,(wV0 p0),p2.2.2.2.2.2.2.2.2.2.2.2.2.2.2.2.2.2.1,p2.2.2.2.2.2.2.2.2.2.2.2.2.2.2.2.2.2.2.1,p2.2.2.2.2.2.2.2.2.2.2.2.2.2.2.2.2.2.2.2.1,p2.2.2.2.2.2.2.2.2.2.2.2.2.2.2.2.2.2.2.2.2.1,p2.2.2.2.2.2.2.2.2.2.2.2.2.2.2.2.2.2.2.2.2.2.1,p2.2.2.2.2.2.2.2.2.2.2.2.2.2.2.2.2.2.2.2.2.2.2.1,p2.2.2.2.2.2.2.2.2.2.2.2.2.2.2.2.2.2.2.2.2.2.2.2.1,p2.2.2.2.2.2.2.2.2.2.2.2.2.2.2.2.2.2.2.2.2.2.2.2.2.1,p2.2.2.2.2.2.2.2.2.2.2.2.2.2.2.2.2.2.2.2.2.2.2.2.2.2.1,p2.2.2.2.2.2.2.2.2.2.2.2.2.2.2.2.2.2.2.2.2.2.2.2.2.2.2.1,s,())
 ([InB (0:Int) 1,(wT8 p0)],(),((wU0 p0).1,(),s_1,()))
def uD8 (p0:D60)(p1:Unit)(p2:(Int×Int×Int×(List UInt8)×Bool×Bool×Bool×Int×Int×D26×D43×Int×D23×D45×Int×(List Int)×Int×(List D111)×(List D114)×Int×Int×Int×Int×(List UInt8)×Int×Int×Int×(Int×Int×Int×(List D106)×Unit)×Unit)):Prop:=yW (uD7 p0 p1 p2).1
def sB0 p0 p1 p2:=(uD7 p0 p1 p2).2.1
def tM4 p0 p1 p2:=(uD7 p0 p1 p2).2.2
instance (p0:D60)(p1:Unit)(p2:(Int×Int×Int×(List UInt8)×Bool×Bool×Bool×Int×Int×D26×D43×Int×D23×D45×Int×(List Int)×Int×(List D111)×(List D114)×Int×Int×Int×Int×(List UInt8)×Int×Int×Int×(Int×Int×Int×(List D106)×Unit)×Unit)):Decidable (uD8 p0 p1 p2):=by
 unfold uD8 uD7;dsimp only[yW]
 infer_instance
noncomputable def uR5:List (Fb Tryz.prog):=[kb wY3]
noncomputable def tA8:Ctx:={ Cx tys (Fb.l uR5) [] [] true 17 [0,1] [] with skip:=true,dead:=[999999] }
theorem tA9:CtxOk Tryz.prog tA8:=wI7 wU5 (by kernel_rfl) (Fb.all uR5) rfl (by kernel_rfl)
@[reducible] def uD9:List (Nat×Sh):=[(0,(.box T60 (.val T60))),(1,(.ptrs false [some (990001,T52,[.inl 16])])),(990001,(.box T52 (.agg (.cons (.int .i64) (.cons (.int .i64) (.cons (.int .i64) (.cons .str (.cons .bool (.cons .bool (.cons .bool (.cons (.int .i64) (.cons (.int .i64) (.cons T26 (.cons T43 (.cons (.int .i64) (.cons T23 (.cons T45 (.cons (.int .i64) (.cons (.sl (.int .i64)) (.cons (.int .i64) (.cons (.sl T111) (.cons (.sl T114) (.cons (.int .i64) (.cons (.int .i64) (.cons (.int .i64) (.cons (.int .i64) (.cons .str (.cons (.int .i64) (.cons (.int .i64) (.cons (.int .i64) (.cons T50 .nl)))))))))))))))))))))))))))) (.cons vI (.cons vI (.cons vI (.cons vS (.cons vB (.cons vB (.cons vB (.cons vI (.cons vI (.cons (.val T26) (.cons (.val T43) (.cons vI (.cons (.val T23) (.cons (.val T45) (.cons vI (.cons (.own (.int .i64) 400102 false) (.cons vI (.cons (.own T111 400103 false) (.cons (.own T114 400104 false) (.cons vI (.cons vI (.cons vI (.cons vI (.cons vS (.cons vI (.cons vI (.cons vI (.cons (.agg (.cons (.int .i64) (.cons (.int .i64) (.cons (.int .i64) (.cons (.sl T106) .nl)))) (.cons vI (.cons vI (.cons vI (.cons (.own T106 400105 false) .nl))))) .nl)))))))))))))))))))))))))))))))]
theorem tF9:SK 63 (xI2 uD9 (.tup .nl) uD9 (fun x=>uD8 x.1 x.2.1 x.2.2.1) (fun x=>sB0 x.1 x.2.1 x.2.2.1) (fun x=>tM4 x.1 x.2.1 x.2.2.1)):=wP3 (ps:=uD9) (p:=fun x=>(uD7 x.1 x.2.1 x.2.2.1).1) (lv:=[(0,[0,1,6,7,8,990001]),(1,[0,1,6,7,8,9,990001]),(2,[0,1,5,6,7,8,990001]),(3,[0,1,6,7,8,990001]),(4,[0,1,6,7,8,990001])]) tA9 mixed Tryz.func63 (fun _ h=>h) (by kernel_rfl) (fun x=>by kernel_rfl)
def uE (p0:D60)(p1:Unit)(p2:D111):List Prop×(Unit)×(D60×Unit×D111×Unit):=
 let v14o:=(wU0 p0)
 let v14o_1:=(wU0 v14o.1)
 let v14o_2:=(wU0 v14o_1.1)
 let v14o_3:=(wU0 v14o_2.1)
 ([InB (0:Int) 5,(wT8 p0),InB (1:Int) 5,(wT8 v14o.1),InB (2:Int) 5,(wT8 v14o_1.1),InB (3:Int) 5,(wT8 v14o_2.1),InB (4:Int) 5,(wT8 v14o_3.1)],(),((wU0 v14o_3.1).1,(),((wV0 p0),((wV0 v14o.1),(wV0 v14o_1.1),(wV0 v14o_2.1),(wV0 v14o_3.1),()),()),()))
def vU7 (p0:D60)(p1:Unit)(p2:D111):Prop:=yW (uE p0 p1 p2).1
def sB1 p0 p1 p2:=(uE p0 p1 p2).2.1
def uW8 p0 p1 p2:=(uE p0 p1 p2).2.2
instance (p0:D60)(p1:Unit)(p2:D111):Decidable (vU7 p0 p1 p2):=by
 unfold vU7 uE;dsimp only[yW]
 infer_instance
noncomputable def uR6:List (Fb Tryz.prog):=[kb wY3]
noncomputable def tB:Ctx:={ Cx tys (Fb.l uR6) [] [] true 17 [0,1] [] with skip:=true,dead:=[999999] }
theorem tB0:CtxOk Tryz.prog tB:=wI7 wU5 (by kernel_rfl) (Fb.all uR6) rfl (by kernel_rfl)
@[reducible] def uE0:List (Nat×Sh):=[(0,(.box T60 (.val T60))),(1,(.ptrs false [some (990001,T111,[.inl 0]),some (990001,T111,[.inl 1,.inl 0]),some (990001,T111,[.inl 1,.inl 1]),some (990001,T111,[.inl 1,.inl 2]),some (990001,T111,[.inl 1,.inl 3])])),(990001,(.box T111 (.val T111)))]
theorem tG:SK 63 (xI2 uE0 (.tup .nl) uE0 (fun x=>vU7 x.1 x.2.1 x.2.2.1) (fun x=>sB1 x.1 x.2.1 x.2.2.1) (fun x=>uW8 x.1 x.2.1 x.2.2.1)):=wP3 (ps:=uE0) (p:=fun x=>(uE x.1 x.2.1 x.2.2.1).1) (lv:=[(0,[0,1,6,7,8,990001]),(1,[0,1,6,7,8,9,990001]),(2,[0,1,5,6,7,8,990001]),(3,[0,1,6,7,8,990001]),(4,[0,1,6,7,8,990001])]) tB0 mixed Tryz.func63 (fun _ h=>h) (by kernel_rfl) (fun x=>by kernel_rfl)
def uE1 (p0:D60)(p1:Unit)(p2:D114):List Prop×(Unit)×(D60×Unit×D114×Unit):=
 ([InB (0:Int) 1,(wT8 p0)],(),((wU0 p0).1,(),((wV0 p0),p2.2.1,()),()))
def vU8 (p0:D60)(p1:Unit)(p2:D114):Prop:=yW (uE1 p0 p1 p2).1
def sB2 p0 p1 p2:=(uE1 p0 p1 p2).2.1
def uW9 p0 p1 p2:=(uE1 p0 p1 p2).2.2
instance (p0:D60)(p1:Unit)(p2:D114):Decidable (vU8 p0 p1 p2):=by
 unfold vU8 uE1;dsimp only[yW]
 infer_instance
noncomputable def uR7:List (Fb Tryz.prog):=[kb wY3]
noncomputable def tB1:Ctx:={ Cx tys (Fb.l uR7) [] [] true 17 [0,1] [] with skip:=true,dead:=[999999] }
theorem tB2:CtxOk Tryz.prog tB1:=wI7 wU5 (by kernel_rfl) (Fb.all uR7) rfl (by kernel_rfl)
@[reducible] def uE2:List (Nat×Sh):=[(0,(.box T60 (.val T60))),(1,(.ptrs false [some (990001,T114,[.inl 0])])),(990001,(.box T114 (.val T114)))]
theorem tG0:SK 63 (xI2 uE2 (.tup .nl) uE2 (fun x=>vU8 x.1 x.2.1 x.2.2.1) (fun x=>sB2 x.1 x.2.1 x.2.2.1) (fun x=>uW9 x.1 x.2.1 x.2.2.1)):=wP3 (ps:=uE2) (p:=fun x=>(uE1 x.1 x.2.1 x.2.2.1).1) (lv:=[(0,[0,1,6,7,8,990001]),(1,[0,1,6,7,8,9,990001]),(2,[0,1,5,6,7,8,990001]),(3,[0,1,6,7,8,990001]),(4,[0,1,6,7,8,990001])]) tB2 mixed Tryz.func63 (fun _ h=>h) (by kernel_rfl) (fun x=>by kernel_rfl)
def uE3 (p0:D60)(p1:(Int×Int×Unit))(p2:D114):List Prop×(Unit)×(D60×(Int×Int×Unit)×D114×Unit):=
 let v14o:=(wU0 p0)
 let s_1:=(List.set p2.2.1 (Int.toNat p1.1) ((wV0 p0),(nth p2.2.1 p1.1 Z106).2.1,()))
 ([InB (0:Int) 2,(wT8 p0),InB (1:Int) 2,(wT8 v14o.1)],(),((wU0 v14o.1).1,(p1.1,p1.2.1,()),(p2.1,(List.set s_1 (Int.toNat p1.2.1) ((nth s_1 p1.2.1 Z106).1,(wV0 v14o.1),())),()),()))
def vU9 (p0:D60)(p1:(Int×Int×Unit))(p2:D114):Prop:=yW (uE3 p0 p1 p2).1
def sB3 p0 p1 p2:=(uE3 p0 p1 p2).2.1
def uX p0 p1 p2:=(uE3 p0 p1 p2).2.2
instance (p0:D60)(p1:(Int×Int×Unit))(p2:D114):Decidable (vU9 p0 p1 p2):=by
 unfold vU9 uE3;dsimp only[yW]
 infer_instance
noncomputable def uR8:List (Fb Tryz.prog):=[kb wY3]
noncomputable def tB3:Ctx:={ Cx tys (Fb.l uR8) [] [] true 17 [0,1] [] with skip:=true,dead:=[999999] }
theorem tB4:CtxOk Tryz.prog tB3:=wI7 wU5 (by kernel_rfl) (Fb.all uR8) rfl (by kernel_rfl)
@[reducible] def uE4:List (Nat×Sh):=[(0,(.box T60 (.val T60))),(1,(.ptrs false [some (990001,T114,[.inl 1,.inr 0,.inl 0]),some (990001,T114,[.inl 1,.inr 0,.inl 1])])),(990001,(.box T114 (.val T114)))]
theorem tG1:SK 63 (xI2 uE4 (.tup .nl) uE4 (fun x=>vU9 x.1 x.2.1 x.2.2.1) (fun x=>sB3 x.1 x.2.1 x.2.2.1) (fun x=>uX x.1 x.2.1 x.2.2.1)):=wP3 (ps:=uE4) (p:=fun x=>(uE3 x.1 x.2.1 x.2.2.1).1) (lv:=[(0,[0,1,6,7,8,990001]),(1,[0,1,6,7,8,9,990001]),(2,[0,1,5,6,7,8,990001]),(3,[0,1,6,7,8,990001]),(4,[0,1,6,7,8,990001])]) tB4 mixed Tryz.func63 (fun _ h=>h) (by kernel_rfl) (fun x=>by kernel_rfl)
end Go.Proofs.YtbiemgjkkhkdeaaGreatDoor.Am
