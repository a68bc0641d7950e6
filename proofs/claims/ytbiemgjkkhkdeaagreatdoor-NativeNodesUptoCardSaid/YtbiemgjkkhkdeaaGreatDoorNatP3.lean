/- Printed by program, part 3. No condition. -/
import Derived.Test.YtbiemgjkkhkdeaaGreatDoorNatP2
set_option linter.unusedVariables false
set_option synthInstance.maxSize 4000
set_option synthInstance.maxHeartbeats 400000
namespace Go.Proofs.YtbiemgjkkhkdeaaGreatDoor.Am
open Go Go.Am Go.Proofs
abbrev vM5:Type:=(Int×Unit)
abbrev vC4:Type:=(D60×(Int×Int×Int×(List UInt8)×Bool×Bool×Bool×Int×Int×D26×D43×Int×D23×D45×Int×(List Int)×Int×(List D111)×(List D114)×Int×Int×Int×Int×(List UInt8)×Int×Int×Int×(Int×Int×Int×(List D106)×Unit)×Unit)×Int×Unit)
def uF9 (y:vM5)(x:vC4):Prop×Bool×vC4:=
 let a0:=x.1
 let a1:=x.2.1
 let a9:=x.2.2.1
 let v10:=(decide (a9<y.1))
 let v22o:=(tR6 a0 () Z111)
 let v29:=([v22o.2.2.1]:List D111)
 let s:=(a1.2.2.2.2.2.2.2.2.2.2.2.2.2.2.2.2.2.2.2.2.2.2.2.2.2.2.2.1.1,a1.2.2.2.2.2.2.2.2.2.2.2.2.2.2.2.2.2.2.2.2.2.2.2.2.2.2.2.1.2.1,a1.2.2.2.2.2.2.2.2.2.2.2.2.2.2.2.2.2.2.2.2.2.2.2.2.2.2.2.1.2.2.1,a1.2.2.2.2.2.2.2.2.2.2.2.2.2.2.2.2.2.2.2.2.2.2.2.2.2.2.2.1.2.2.2.1,())
 let s_1:=(a1.1,a1.2.1,a1.2.2.1,a1.2.2.2.1,a1.2.2.2.2.1,a1.2.2.2.2.2.1,a1.2.2.2.2.2.2.1,a1.2.2.2.2.2.2.2.1,a1.2.2.2.2.2.2.2.2.1,a1.2.2.2.2.2.2.2.2.2.1,a1.2.2.2.2.2.2.2.2.2.2.1,a1.2.2.2.2.2.2.2.2.2.2.2.1,a1.2.2.2.2.2.2.2.2.2.2.2.2.1,a1.2.2.2.2.2.2.2.2.2.2.2.2.2.1,a1.2.2.2.2.2.2.2.2.2.2.2.2.2.2.1,a1.2.2.2.2.2.2.2.2.2.2.2.2.2.2.2.1,a1.2.2.2.2.2.2.2.2.2.2.2.2.2.2.2.2.1,(a1.2.2.2.2.2.2.2.2.2.2.2.2.2.2.2.2.2.1++v29),a1.2.2.2.2.2.2.2.2.2.2.2.2.2.2.2.2.2.2.1,a1.2.2.2.2.2.2.2.2.2.2.2.2.2.2.2.2.2.2.2.1,a1.2.2.2.2.2.2.2.2.2.2.2.2.2.2.2.2.2.2.2.2.1,a1.2.2.2.2.2.2.2.2.2.2.2.2.2.2.2.2.2.2.2.2.2.1,a1.2.2.2.2.2.2.2.2.2.2.2.2.2.2.2.2.2.2.2.2.2.2.1,a1.2.2.2.2.2.2.2.2.2.2.2.2.2.2.2.2.2.2.2.2.2.2.2.1,a1.2.2.2.2.2.2.2.2.2.2.2.2.2.2.2.2.2.2.2.2.2.2.2.2.1,a1.2.2.2.2.2.2.2.2.2.2.2.2.2.2.2.2.2.2.2.2.2.2.2.2.2.1,a1.2.2.2.2.2.2.2.2.2.2.2.2.2.2.2.2.2.2.2.2.2.2.2.2.2.2.1,s,())
 ((v10=true→((uM2 a0 () Z111)∧((List.length a1.2.2.2.2.2.2.2.2.2.2.2.2.2.2.2.2.2.1+List.length v29:Nat):Int)≤4294967296)),v10,(v22o.1,s_1,(IntKind.wrap .i64 (a9+1)),()))
def vJ7 y x:=(uF9 y x).1
def vM6 y x:=(uF9 y x).2.1
def vA8 y x:=(uF9 y x).2.2
instance (y x):Decidable (vJ7 y x):=by unfold vJ7 uF9;dsimp only;infer_instance
def uI1 (y:vM5)(x:vC4):D60:=
 x.1
def uI2 (y:vM5)(x:vC4):(Int×Int×Int×(List UInt8)×Bool×Bool×Bool×Int×Int×D26×D43×Int×D23×D45×Int×(List Int)×Int×(List D111)×(List D114)×Int×Int×Int×Int×(List UInt8)×Int×Int×Int×(Int×Int×Int×(List D106)×Unit)×Unit):=
 let a1:=x.2.1
 let s_2:=(a1.2.2.2.2.2.2.2.2.2.2.2.2.2.2.2.2.2.2.2.2.2.2.2.2.2.2.2.1.1,a1.2.2.2.2.2.2.2.2.2.2.2.2.2.2.2.2.2.2.2.2.2.2.2.2.2.2.2.1.2.1,a1.2.2.2.2.2.2.2.2.2.2.2.2.2.2.2.2.2.2.2.2.2.2.2.2.2.2.2.1.2.2.1,a1.2.2.2.2.2.2.2.2.2.2.2.2.2.2.2.2.2.2.2.2.2.2.2.2.2.2.2.1.2.2.2.1,())
 let s_3:=(a1.1,a1.2.1,a1.2.2.1,a1.2.2.2.1,a1.2.2.2.2.1,a1.2.2.2.2.2.1,a1.2.2.2.2.2.2.1,a1.2.2.2.2.2.2.2.1,a1.2.2.2.2.2.2.2.2.1,a1.2.2.2.2.2.2.2.2.2.1,a1.2.2.2.2.2.2.2.2.2.2.1,a1.2.2.2.2.2.2.2.2.2.2.2.1,a1.2.2.2.2.2.2.2.2.2.2.2.2.1,a1.2.2.2.2.2.2.2.2.2.2.2.2.2.1,a1.2.2.2.2.2.2.2.2.2.2.2.2.2.2.1,a1.2.2.2.2.2.2.2.2.2.2.2.2.2.2.2.1,a1.2.2.2.2.2.2.2.2.2.2.2.2.2.2.2.2.1,a1.2.2.2.2.2.2.2.2.2.2.2.2.2.2.2.2.2.1,a1.2.2.2.2.2.2.2.2.2.2.2.2.2.2.2.2.2.2.1,a1.2.2.2.2.2.2.2.2.2.2.2.2.2.2.2.2.2.2.2.1,a1.2.2.2.2.2.2.2.2.2.2.2.2.2.2.2.2.2.2.2.2.1,a1.2.2.2.2.2.2.2.2.2.2.2.2.2.2.2.2.2.2.2.2.2.1,a1.2.2.2.2.2.2.2.2.2.2.2.2.2.2.2.2.2.2.2.2.2.2.1,a1.2.2.2.2.2.2.2.2.2.2.2.2.2.2.2.2.2.2.2.2.2.2.2.1,a1.2.2.2.2.2.2.2.2.2.2.2.2.2.2.2.2.2.2.2.2.2.2.2.2.1,a1.2.2.2.2.2.2.2.2.2.2.2.2.2.2.2.2.2.2.2.2.2.2.2.2.2.1,a1.2.2.2.2.2.2.2.2.2.2.2.2.2.2.2.2.2.2.2.2.2.2.2.2.2.2.1,s_2,())
 s_3
def uR1:List (Nat×Sh):=[(0,(.box T60 (.val T60))),(1,(.box T52 (.agg (.cons (.int .i64) (.cons (.int .i64) (.cons (.int .i64) (.cons .str (.cons .bool (.cons .bool (.cons .bool (.cons (.int .i64) (.cons (.int .i64) (.cons T26 (.cons T43 (.cons (.int .i64) (.cons T23 (.cons T45 (.cons (.int .i64) (.cons (.sl (.int .i64)) (.cons (.int .i64) (.cons (.sl T111) (.cons (.sl T114) (.cons (.int .i64) (.cons (.int .i64) (.cons (.int .i64) (.cons (.int .i64) (.cons .str (.cons (.int .i64) (.cons (.int .i64) (.cons (.int .i64) (.cons T50 .nl)))))))))))))))))))))))))))) (.cons vI (.cons vI (.cons vI (.cons vS (.cons vB (.cons vB (.cons vB (.cons vI (.cons vI (.cons (.val T26) (.cons (.val T43) (.cons vI (.cons (.val T23) (.cons (.val T45) (.cons vI (.cons (.own (.int .i64) 400102 false) (.cons vI (.cons (.own T111 400103 false) (.cons (.own T114 400104 false) (.cons vI (.cons vI (.cons vI (.cons vI (.cons vS (.cons vI (.cons vI (.cons vI (.cons (.agg (.cons (.int .i64) (.cons (.int .i64) (.cons (.int .i64) (.cons (.sl T106) .nl)))) (.cons vI (.cons vI (.cons vI (.cons (.own T106 400105 false) .nl))))) .nl)))))))))))))))))))))))))))))))]
def tL6:=li [(8,vI)] [(0,(.box T60 (.val T60))),(1,(.box T52 (.agg (.cons (.int .i64) (.cons (.int .i64) (.cons (.int .i64) (.cons .str (.cons .bool (.cons .bool (.cons .bool (.cons (.int .i64) (.cons (.int .i64) (.cons T26 (.cons T43 (.cons (.int .i64) (.cons T23 (.cons T45 (.cons (.int .i64) (.cons (.sl (.int .i64)) (.cons (.int .i64) (.cons (.sl T111) (.cons (.sl T114) (.cons (.int .i64) (.cons (.int .i64) (.cons (.int .i64) (.cons (.int .i64) (.cons .str (.cons (.int .i64) (.cons (.int .i64) (.cons (.int .i64) (.cons T50 .nl)))))))))))))))))))))))))))) (.cons vI (.cons vI (.cons vI (.cons vS (.cons vB (.cons vB (.cons vB (.cons vI (.cons vI (.cons (.val T26) (.cons (.val T43) (.cons vI (.cons (.val T23) (.cons (.val T45) (.cons vI (.cons (.own (.int .i64) 400102 false) (.cons vI (.cons (.own T111 400103 false) (.cons (.own T114 400104 false) (.cons vI (.cons vI (.cons vI (.cons vI (.cons vS (.cons vI (.cons vI (.cons vI (.cons (.agg (.cons (.int .i64) (.cons (.int .i64) (.cons (.int .i64) (.cons (.sl T106) .nl)))) (.cons vI (.cons vI (.cons vI (.cons (.own T106 400105 false) .nl))))) .nl))))))))))))))))))))))))))))))),(9,vI)] vM6 vA8 vJ7 (fun y x=>[ex 2 none uR1 ((uI1 y x),(uI2 y x),())]) [uR1]
abbrev vJ8:Type:=((Int×Int×Int×(List UInt8)×Bool×Bool×Bool×Int×Int×D26×D43×Int×D23×D45×Int×(List Int)×Int×(List D111)×(List D114)×Int×Int×Int×Int×(List UInt8)×Int×Int×Int×(Int×Int×Int×(List D106)×Unit)×Unit)×Int×Int×Unit)
abbrev vB8:Type:=(D60×D114×Int×Unit)
def vZ5 (y:vJ8)(x:vB8):Prop×Bool×vB8:=
 let a0:=x.1
 let a5:=x.2.1
 let a42:=x.2.2.1
 let v43:=(decide (a42<3))
 let v55o:=(tR8 a0 (a42,a42,()) a5)
 ((v43=true→(InB a42 3∧(InB a42 3∧(uM4 a0 (a42,a42,()) a5)))),v43,(v55o.1,v55o.2.2.1,(IntKind.wrap .i64 (a42+1)),()))
def vL y x:=(vZ5 y x).1
def vF8 y x:=(vZ5 y x).2.1
def wX2 y x:=(vZ5 y x).2.2
instance (y x):Decidable (vL y x):=by unfold vL vZ5;dsimp only;infer_instance
def uD5 (y:vJ8)(x:vB8):D60:=
 x.1
def uD6 (y:vJ8)(x:vB8):D114:=
 x.2.1
def uM5:List (Nat×Sh):=[(0,(.box T60 (.val T60))),(1,(.box T52 (.agg (.cons (.int .i64) (.cons (.int .i64) (.cons (.int .i64) (.cons .str (.cons .bool (.cons .bool (.cons .bool (.cons (.int .i64) (.cons (.int .i64) (.cons T26 (.cons T43 (.cons (.int .i64) (.cons T23 (.cons T45 (.cons (.int .i64) (.cons (.sl (.int .i64)) (.cons (.int .i64) (.cons (.sl T111) (.cons (.sl T114) (.cons (.int .i64) (.cons (.int .i64) (.cons (.int .i64) (.cons (.int .i64) (.cons .str (.cons (.int .i64) (.cons (.int .i64) (.cons (.int .i64) (.cons T50 .nl)))))))))))))))))))))))))))) (.cons vI (.cons vI (.cons vI (.cons vS (.cons vB (.cons vB (.cons vB (.cons vI (.cons vI (.cons (.val T26) (.cons (.val T43) (.cons vI (.cons (.val T23) (.cons (.val T45) (.cons vI (.cons (.own (.int .i64) 400102 false) (.cons vI (.cons (.own T111 400103 false) (.cons (.own T114 400104 false) (.cons vI (.cons vI (.cons vI (.cons vI (.cons vS (.cons vI (.cons vI (.cons vI (.cons (.agg (.cons (.int .i64) (.cons (.int .i64) (.cons (.int .i64) (.cons (.sl T106) .nl)))) (.cons vI (.cons vI (.cons vI (.cons (.own T106 400105 false) .nl))))) .nl))))))))))))))))))))))))))))))),(5,(.box T114 (.val T114))),(35,vI),(36,vI)]
def tF2:=li [(1,(.box T52 (.agg (.cons (.int .i64) (.cons (.int .i64) (.cons (.int .i64) (.cons .str (.cons .bool (.cons .bool (.cons .bool (.cons (.int .i64) (.cons (.int .i64) (.cons T26 (.cons T43 (.cons (.int .i64) (.cons T23 (.cons T45 (.cons (.int .i64) (.cons (.sl (.int .i64)) (.cons (.int .i64) (.cons (.sl T111) (.cons (.sl T114) (.cons (.int .i64) (.cons (.int .i64) (.cons (.int .i64) (.cons (.int .i64) (.cons .str (.cons (.int .i64) (.cons (.int .i64) (.cons (.int .i64) (.cons T50 .nl)))))))))))))))))))))))))))) (.cons vI (.cons vI (.cons vI (.cons vS (.cons vB (.cons vB (.cons vB (.cons vI (.cons vI (.cons (.val T26) (.cons (.val T43) (.cons vI (.cons (.val T23) (.cons (.val T45) (.cons vI (.cons (.own (.int .i64) 400102 false) (.cons vI (.cons (.own T111 400103 false) (.cons (.own T114 400104 false) (.cons vI (.cons vI (.cons vI (.cons vI (.cons vS (.cons vI (.cons vI (.cons vI (.cons (.agg (.cons (.int .i64) (.cons (.int .i64) (.cons (.int .i64) (.cons (.sl T106) .nl)))) (.cons vI (.cons vI (.cons vI (.cons (.own T106 400105 false) .nl))))) .nl))))))))))))))))))))))))))))))),(35,vI),(36,vI)] [(0,(.box T60 (.val T60))),(5,(.box T114 (.val T114))),(42,vI)] vF8 wX2 vL (fun y x=>[ex 6 none uM5 ((uD5 y x),y.1,(uD6 y x),y.2.1,y.2.2.1,())]) [uM5]
abbrev vM7:Type:=(Int×Unit)
abbrev vC5:Type:=(D60×(Int×Int×Int×(List UInt8)×Bool×Bool×Bool×Int×Int×D26×D43×Int×D23×D45×Int×(List Int)×Int×(List D111)×(List D114)×Int×Int×Int×Int×(List UInt8)×Int×Int×Int×(Int×Int×Int×(List D106)×Unit)×Unit)×Int×Unit)
def uG (y:vM7)(x:vC5):Prop×Bool×vC5:=
 let a35:=y.1
 let a0:=x.1
 let a1:=x.2.1
 let a36:=x.2.2.1
 let v37:=(decide (a36<a35))
 let v41o:=(tR7 a0 () Z114)
 let s:=(a1.2.2.2.2.2.2.2.2.2.2.2.2.2.2.2.2.2.2.2.2.2.2.2.2.2.2.2.1.1,a1.2.2.2.2.2.2.2.2.2.2.2.2.2.2.2.2.2.2.2.2.2.2.2.2.2.2.2.1.2.1,a1.2.2.2.2.2.2.2.2.2.2.2.2.2.2.2.2.2.2.2.2.2.2.2.2.2.2.2.1.2.2.1,a1.2.2.2.2.2.2.2.2.2.2.2.2.2.2.2.2.2.2.2.2.2.2.2.2.2.2.2.1.2.2.2.1,())
 let s_1:=(a1.1,a1.2.1,a1.2.2.1,a1.2.2.2.1,a1.2.2.2.2.1,a1.2.2.2.2.2.1,a1.2.2.2.2.2.2.1,a1.2.2.2.2.2.2.2.1,a1.2.2.2.2.2.2.2.2.1,a1.2.2.2.2.2.2.2.2.2.1,a1.2.2.2.2.2.2.2.2.2.2.1,a1.2.2.2.2.2.2.2.2.2.2.2.1,a1.2.2.2.2.2.2.2.2.2.2.2.2.1,a1.2.2.2.2.2.2.2.2.2.2.2.2.2.1,a1.2.2.2.2.2.2.2.2.2.2.2.2.2.2.1,a1.2.2.2.2.2.2.2.2.2.2.2.2.2.2.2.1,a1.2.2.2.2.2.2.2.2.2.2.2.2.2.2.2.2.1,a1.2.2.2.2.2.2.2.2.2.2.2.2.2.2.2.2.2.1,a1.2.2.2.2.2.2.2.2.2.2.2.2.2.2.2.2.2.2.1,a1.2.2.2.2.2.2.2.2.2.2.2.2.2.2.2.2.2.2.2.1,a1.2.2.2.2.2.2.2.2.2.2.2.2.2.2.2.2.2.2.2.2.1,a1.2.2.2.2.2.2.2.2.2.2.2.2.2.2.2.2.2.2.2.2.2.1,a1.2.2.2.2.2.2.2.2.2.2.2.2.2.2.2.2.2.2.2.2.2.2.1,a1.2.2.2.2.2.2.2.2.2.2.2.2.2.2.2.2.2.2.2.2.2.2.2.1,a1.2.2.2.2.2.2.2.2.2.2.2.2.2.2.2.2.2.2.2.2.2.2.2.2.1,a1.2.2.2.2.2.2.2.2.2.2.2.2.2.2.2.2.2.2.2.2.2.2.2.2.2.1,a1.2.2.2.2.2.2.2.2.2.2.2.2.2.2.2.2.2.2.2.2.2.2.2.2.2.2.1,s,())
 let y11:=(s_1,a35,a36,())
 let x11:=(v41o.1,v41o.2.2.1,(0:Int),())
 let e11:=(zC5 (vF8 y11) (wX2 y11) x11)
 let v63:=([(uD6 y11 e11)]:List D114)
 let s_2:=(a1.2.2.2.2.2.2.2.2.2.2.2.2.2.2.2.2.2.2.2.2.2.2.2.2.2.2.2.1.1,a1.2.2.2.2.2.2.2.2.2.2.2.2.2.2.2.2.2.2.2.2.2.2.2.2.2.2.2.1.2.1,a1.2.2.2.2.2.2.2.2.2.2.2.2.2.2.2.2.2.2.2.2.2.2.2.2.2.2.2.1.2.2.1,a1.2.2.2.2.2.2.2.2.2.2.2.2.2.2.2.2.2.2.2.2.2.2.2.2.2.2.2.1.2.2.2.1,())
 let s_3:=(a1.1,a1.2.1,a1.2.2.1,a1.2.2.2.1,a1.2.2.2.2.1,a1.2.2.2.2.2.1,a1.2.2.2.2.2.2.1,a1.2.2.2.2.2.2.2.1,a1.2.2.2.2.2.2.2.2.1,a1.2.2.2.2.2.2.2.2.2.1,a1.2.2.2.2.2.2.2.2.2.2.1,a1.2.2.2.2.2.2.2.2.2.2.2.1,a1.2.2.2.2.2.2.2.2.2.2.2.2.1,a1.2.2.2.2.2.2.2.2.2.2.2.2.2.1,a1.2.2.2.2.2.2.2.2.2.2.2.2.2.2.1,a1.2.2.2.2.2.2.2.2.2.2.2.2.2.2.2.1,a1.2.2.2.2.2.2.2.2.2.2.2.2.2.2.2.2.1,a1.2.2.2.2.2.2.2.2.2.2.2.2.2.2.2.2.2.1,(a1.2.2.2.2.2.2.2.2.2.2.2.2.2.2.2.2.2.2.1++v63),a1.2.2.2.2.2.2.2.2.2.2.2.2.2.2.2.2.2.2.2.1,a1.2.2.2.2.2.2.2.2.2.2.2.2.2.2.2.2.2.2.2.2.1,a1.2.2.2.2.2.2.2.2.2.2.2.2.2.2.2.2.2.2.2.2.2.1,a1.2.2.2.2.2.2.2.2.2.2.2.2.2.2.2.2.2.2.2.2.2.2.1,a1.2.2.2.2.2.2.2.2.2.2.2.2.2.2.2.2.2.2.2.2.2.2.2.1,a1.2.2.2.2.2.2.2.2.2.2.2.2.2.2.2.2.2.2.2.2.2.2.2.2.1,a1.2.2.2.2.2.2.2.2.2.2.2.2.2.2.2.2.2.2.2.2.2.2.2.2.2.1,a1.2.2.2.2.2.2.2.2.2.2.2.2.2.2.2.2.2.2.2.2.2.2.2.2.2.2.1,s_2,())
 ((v37=true→((uM3 a0 () Z114)∧((xQ5 (vF8 y11) (wX2 y11) (vL y11) x11)∧((List.length a1.2.2.2.2.2.2.2.2.2.2.2.2.2.2.2.2.2.2.1+List.length v63:Nat):Int)≤4294967296))),v37,((uD5 y11 e11),s_3,(IntKind.wrap .i64 (a36+1)),()))
def vJ9 y x:=(uG y x).1
def vM8 y x:=(uG y x).2.1
def vA9 y x:=(uG y x).2.2
instance (y x):Decidable (vJ9 y x):=by unfold vJ9 uG;dsimp only;infer_instance
def uI3 (y:vM7)(x:vC5):D60:=
 x.1
def uI4 (y:vM7)(x:vC5):(Int×Int×Int×(List UInt8)×Bool×Bool×Bool×Int×Int×D26×D43×Int×D23×D45×Int×(List Int)×Int×(List D111)×(List D114)×Int×Int×Int×Int×(List UInt8)×Int×Int×Int×(Int×Int×Int×(List D106)×Unit)×Unit):=
 let a1:=x.2.1
 let s_4:=(a1.2.2.2.2.2.2.2.2.2.2.2.2.2.2.2.2.2.2.2.2.2.2.2.2.2.2.2.1.1,a1.2.2.2.2.2.2.2.2.2.2.2.2.2.2.2.2.2.2.2.2.2.2.2.2.2.2.2.1.2.1,a1.2.2.2.2.2.2.2.2.2.2.2.2.2.2.2.2.2.2.2.2.2.2.2.2.2.2.2.1.2.2.1,a1.2.2.2.2.2.2.2.2.2.2.2.2.2.2.2.2.2.2.2.2.2.2.2.2.2.2.2.1.2.2.2.1,())
 let s_5:=(a1.1,a1.2.1,a1.2.2.1,a1.2.2.2.1,a1.2.2.2.2.1,a1.2.2.2.2.2.1,a1.2.2.2.2.2.2.1,a1.2.2.2.2.2.2.2.1,a1.2.2.2.2.2.2.2.2.1,a1.2.2.2.2.2.2.2.2.2.1,a1.2.2.2.2.2.2.2.2.2.2.1,a1.2.2.2.2.2.2.2.2.2.2.2.1,a1.2.2.2.2.2.2.2.2.2.2.2.2.1,a1.2.2.2.2.2.2.2.2.2.2.2.2.2.1,a1.2.2.2.2.2.2.2.2.2.2.2.2.2.2.1,a1.2.2.2.2.2.2.2.2.2.2.2.2.2.2.2.1,a1.2.2.2.2.2.2.2.2.2.2.2.2.2.2.2.2.1,a1.2.2.2.2.2.2.2.2.2.2.2.2.2.2.2.2.2.1,a1.2.2.2.2.2.2.2.2.2.2.2.2.2.2.2.2.2.2.1,a1.2.2.2.2.2.2.2.2.2.2.2.2.2.2.2.2.2.2.2.1,a1.2.2.2.2.2.2.2.2.2.2.2.2.2.2.2.2.2.2.2.2.1,a1.2.2.2.2.2.2.2.2.2.2.2.2.2.2.2.2.2.2.2.2.2.1,a1.2.2.2.2.2.2.2.2.2.2.2.2.2.2.2.2.2.2.2.2.2.2.1,a1.2.2.2.2.2.2.2.2.2.2.2.2.2.2.2.2.2.2.2.2.2.2.2.1,a1.2.2.2.2.2.2.2.2.2.2.2.2.2.2.2.2.2.2.2.2.2.2.2.2.1,a1.2.2.2.2.2.2.2.2.2.2.2.2.2.2.2.2.2.2.2.2.2.2.2.2.2.1,a1.2.2.2.2.2.2.2.2.2.2.2.2.2.2.2.2.2.2.2.2.2.2.2.2.2.2.1,s_4,())
 s_5
def uR2:List (Nat×Sh):=[(0,(.box T60 (.val T60))),(1,(.box T52 (.agg (.cons (.int .i64) (.cons (.int .i64) (.cons (.int .i64) (.cons .str (.cons .bool (.cons .bool (.cons .bool (.cons (.int .i64) (.cons (.int .i64) (.cons T26 (.cons T43 (.cons (.int .i64) (.cons T23 (.cons T45 (.cons (.int .i64) (.cons (.sl (.int .i64)) (.cons (.int .i64) (.cons (.sl T111) (.cons (.sl T114) (.cons (.int .i64) (.cons (.int .i64) (.cons (.int .i64) (.cons (.int .i64) (.cons .str (.cons (.int .i64) (.cons (.int .i64) (.cons (.int .i64) (.cons T50 .nl)))))))))))))))))))))))))))) (.cons vI (.cons vI (.cons vI (.cons vS (.cons vB (.cons vB (.cons vB (.cons vI (.cons vI (.cons (.val T26) (.cons (.val T43) (.cons vI (.cons (.val T23) (.cons (.val T45) (.cons vI (.cons (.own (.int .i64) 400102 false) (.cons vI (.cons (.own T111 400103 false) (.cons (.own T114 400104 false) (.cons vI (.cons vI (.cons vI (.cons vI (.cons vS (.cons vI (.cons vI (.cons vI (.cons (.agg (.cons (.int .i64) (.cons (.int .i64) (.cons (.int .i64) (.cons (.sl T106) .nl)))) (.cons vI (.cons vI (.cons vI (.cons (.own T106 400105 false) .nl))))) .nl)))))))))))))))))))))))))))))))]
def tL7:=li [(35,vI)] [(0,(.box T60 (.val T60))),(1,(.box T52 (.agg (.cons (.int .i64) (.cons (.int .i64) (.cons (.int .i64) (.cons .str (.cons .bool (.cons .bool (.cons .bool (.cons (.int .i64) (.cons (.int .i64) (.cons T26 (.cons T43 (.cons (.int .i64) (.cons T23 (.cons T45 (.cons (.int .i64) (.cons (.sl (.int .i64)) (.cons (.int .i64) (.cons (.sl T111) (.cons (.sl T114) (.cons (.int .i64) (.cons (.int .i64) (.cons (.int .i64) (.cons (.int .i64) (.cons .str (.cons (.int .i64) (.cons (.int .i64) (.cons (.int .i64) (.cons T50 .nl)))))))))))))))))))))))))))) (.cons vI (.cons vI (.cons vI (.cons vS (.cons vB (.cons vB (.cons vB (.cons vI (.cons vI (.cons (.val T26) (.cons (.val T43) (.cons vI (.cons (.val T23) (.cons (.val T45) (.cons vI (.cons (.own (.int .i64) 400102 false) (.cons vI (.cons (.own T111 400103 false) (.cons (.own T114 400104 false) (.cons vI (.cons vI (.cons vI (.cons vI (.cons vS (.cons vI (.cons vI (.cons vI (.cons (.agg (.cons (.int .i64) (.cons (.int .i64) (.cons (.int .i64) (.cons (.sl T106) .nl)))) (.cons vI (.cons vI (.cons vI (.cons (.own T106 400105 false) .nl))))) .nl))))))))))))))))))))))))))))))),(36,vI)] vM8 vA9 vJ9 (fun y x=>[ex 4 none uR2 ((uI3 y x),(uI4 y x),())]) [uR2]
def tF3 (p0:D60)(p1:(Int×Int×Int×(List UInt8)×Bool×Bool×Bool×Int×Int×D26×D43×Int×D23×D45×Int×(List Int)×Int×(List D111)×(List D114)×Int×Int×Int×Int×(List UInt8)×Int×Int×Int×(Int×Int×Int×(List D106)×Unit)×Unit)):Prop×(Unit)×(D60×(Int×Int×Int×(List UInt8)×Bool×Bool×Bool×Int×Int×D26×D43×Int×D23×D45×Int×(List Int)×Int×(List D111)×(List D114)×Int×Int×Int×Int×(List UInt8)×Int×Int×Int×(Int×Int×Int×(List D106)×Unit)×Unit)×Unit):=
 let s:=(p1.2.2.2.2.2.2.2.2.2.2.2.2.2.2.2.2.2.2.2.2.2.2.2.2.2.2.2.1.1,p1.2.2.2.2.2.2.2.2.2.2.2.2.2.2.2.2.2.2.2.2.2.2.2.2.2.2.2.1.2.1,p1.2.2.2.2.2.2.2.2.2.2.2.2.2.2.2.2.2.2.2.2.2.2.2.2.2.2.2.1.2.2.1,p1.2.2.2.2.2.2.2.2.2.2.2.2.2.2.2.2.2.2.2.2.2.2.2.2.2.2.2.1.2.2.2.1,())
 let s_1:=(p1.1,p1.2.1,p1.2.2.1,p1.2.2.2.1,p1.2.2.2.2.1,p1.2.2.2.2.2.1,p1.2.2.2.2.2.2.1,p1.2.2.2.2.2.2.2.1,p1.2.2.2.2.2.2.2.2.1,p1.2.2.2.2.2.2.2.2.2.1,p1.2.2.2.2.2.2.2.2.2.2.1,p1.2.2.2.2.2.2.2.2.2.2.2.1,p1.2.2.2.2.2.2.2.2.2.2.2.2.1,p1.2.2.2.2.2.2.2.2.2.2.2.2.2.1,p1.2.2.2.2.2.2.2.2.2.2.2.2.2.2.1,p1.2.2.2.2.2.2.2.2.2.2.2.2.2.2.2.1,p1.2.2.2.2.2.2.2.2.2.2.2.2.2.2.2.2.1,p1.2.2.2.2.2.2.2.2.2.2.2.2.2.2.2.2.2.1,p1.2.2.2.2.2.2.2.2.2.2.2.2.2.2.2.2.2.2.1,p1.2.2.2.2.2.2.2.2.2.2.2.2.2.2.2.2.2.2.2.1,p1.2.2.2.2.2.2.2.2.2.2.2.2.2.2.2.2.2.2.2.2.1,p1.2.2.2.2.2.2.2.2.2.2.2.2.2.2.2.2.2.2.2.2.2.1,p1.2.2.2.2.2.2.2.2.2.2.2.2.2.2.2.2.2.2.2.2.2.2.1,p1.2.2.2.2.2.2.2.2.2.2.2.2.2.2.2.2.2.2.2.2.2.2.2.1,p1.2.2.2.2.2.2.2.2.2.2.2.2.2.2.2.2.2.2.2.2.2.2.2.2.1,p1.2.2.2.2.2.2.2.2.2.2.2.2.2.2.2.2.2.2.2.2.2.2.2.2.2.1,p1.2.2.2.2.2.2.2.2.2.2.2.2.2.2.2.2.2.2.2.2.2.2.2.2.2.2.1,s,())
 let y1:=((wT6 p0 (16:Int)),())
 let x1:=((wT3 p0 (16:Int)).1,s_1,(0:Int),())
 let e1:=(zC5 (vM6 y1) (vA8 y1) x1)
 let r1_2_0:=(uI1 y1 e1)
 let r1_2_1:=(uI2 y1 e1)
 let s_2:=(r1_2_1.2.2.2.2.2.2.2.2.2.2.2.2.2.2.2.2.2.2.2.2.2.2.2.2.2.2.2.1.1,r1_2_1.2.2.2.2.2.2.2.2.2.2.2.2.2.2.2.2.2.2.2.2.2.2.2.2.2.2.2.1.2.1,r1_2_1.2.2.2.2.2.2.2.2.2.2.2.2.2.2.2.2.2.2.2.2.2.2.2.2.2.2.2.1.2.2.1,r1_2_1.2.2.2.2.2.2.2.2.2.2.2.2.2.2.2.2.2.2.2.2.2.2.2.2.2.2.2.1.2.2.2.1,())
 let s_3:=(r1_2_1.1,r1_2_1.2.1,r1_2_1.2.2.1,r1_2_1.2.2.2.1,r1_2_1.2.2.2.2.1,r1_2_1.2.2.2.2.2.1,r1_2_1.2.2.2.2.2.2.1,r1_2_1.2.2.2.2.2.2.2.1,r1_2_1.2.2.2.2.2.2.2.2.1,r1_2_1.2.2.2.2.2.2.2.2.2.1,r1_2_1.2.2.2.2.2.2.2.2.2.2.1,r1_2_1.2.2.2.2.2.2.2.2.2.2.2.1,r1_2_1.2.2.2.2.2.2.2.2.2.2.2.2.1,r1_2_1.2.2.2.2.2.2.2.2.2.2.2.2.2.1,r1_2_1.2.2.2.2.2.2.2.2.2.2.2.2.2.2.1,r1_2_1.2.2.2.2.2.2.2.2.2.2.2.2.2.2.2.1,r1_2_1.2.2.2.2.2.2.2.2.2.2.2.2.2.2.2.2.1,r1_2_1.2.2.2.2.2.2.2.2.2.2.2.2.2.2.2.2.2.1,r1_2_1.2.2.2.2.2.2.2.2.2.2.2.2.2.2.2.2.2.2.1,r1_2_1.2.2.2.2.2.2.2.2.2.2.2.2.2.2.2.2.2.2.2.1,r1_2_1.2.2.2.2.2.2.2.2.2.2.2.2.2.2.2.2.2.2.2.2.1,r1_2_1.2.2.2.2.2.2.2.2.2.2.2.2.2.2.2.2.2.2.2.2.2.1,r1_2_1.2.2.2.2.2.2.2.2.2.2.2.2.2.2.2.2.2.2.2.2.2.2.1,r1_2_1.2.2.2.2.2.2.2.2.2.2.2.2.2.2.2.2.2.2.2.2.2.2.2.1,r1_2_1.2.2.2.2.2.2.2.2.2.2.2.2.2.2.2.2.2.2.2.2.2.2.2.2.1,r1_2_1.2.2.2.2.2.2.2.2.2.2.2.2.2.2.2.2.2.2.2.2.2.2.2.2.2.1,r1_2_1.2.2.2.2.2.2.2.2.2.2.2.2.2.2.2.2.2.2.2.2.2.2.2.2.2.2.1,s_2,())
 let y7:=((wT6 r1_2_0 (128:Int)),())
 let x7:=((wT3 r1_2_0 (128:Int)).1,s_3,(0:Int),())
 let e7:=(zC5 (vM8 y7) (vA9 y7) x7)
 let r7_4_1:=(uI4 y7 e7)
 let s_4:=(r7_4_1.2.2.2.2.2.2.2.2.2.2.2.2.2.2.2.2.2.2.2.2.2.2.2.2.2.2.2.1.1,r7_4_1.2.2.2.2.2.2.2.2.2.2.2.2.2.2.2.2.2.2.2.2.2.2.2.2.2.2.2.1.2.1,r7_4_1.2.2.2.2.2.2.2.2.2.2.2.2.2.2.2.2.2.2.2.2.2.2.2.2.2.2.2.1.2.2.1,r7_4_1.2.2.2.2.2.2.2.2.2.2.2.2.2.2.2.2.2.2.2.2.2.2.2.2.2.2.2.1.2.2.2.1,())
 let s_5:=(r7_4_1.1,r7_4_1.2.1,r7_4_1.2.2.1,r7_4_1.2.2.2.1,r7_4_1.2.2.2.2.1,r7_4_1.2.2.2.2.2.1,r7_4_1.2.2.2.2.2.2.1,r7_4_1.2.2.2.2.2.2.2.1,r7_4_1.2.2.2.2.2.2.2.2.1,r7_4_1.2.2.2.2.2.2.2.2.2.1,r7_4_1.2.2.2.2.2.2.2.2.2.2.1,r7_4_1.2.2.2.2.2.2.2.2.2.2.2.1,r7_4_1.2.2.2.2.2.2.2.2.2.2.2.2.1,r7_4_1.2.2.2.2.2.2.2.2.2.2.2.2.2.1,r7_4_1.2.2.2.2.2.2.2.2.2.2.2.2.2.2.1,r7_4_1.2.2.2.2.2.2.2.2.2.2.2.2.2.2.2.1,r7_4_1.2.2.2.2.2.2.2.2.2.2.2.2.2.2.2.2.1,r7_4_1.2.2.2.2.2.2.2.2.2.2.2.2.2.2.2.2.2.1,r7_4_1.2.2.2.2.2.2.2.2.2.2.2.2.2.2.2.2.2.2.1,r7_4_1.2.2.2.2.2.2.2.2.2.2.2.2.2.2.2.2.2.2.2.1,r7_4_1.2.2.2.2.2.2.2.2.2.2.2.2.2.2.2.2.2.2.2.2.1,r7_4_1.2.2.2.2.2.2.2.2.2.2.2.2.2.2.2.2.2.2.2.2.2.1,r7_4_1.2.2.2.2.2.2.2.2.2.2.2.2.2.2.2.2.2.2.2.2.2.2.1,r7_4_1.2.2.2.2.2.2.2.2.2.2.2.2.2.2.2.2.2.2.2.2.2.2.2.1,r7_4_1.2.2.2.2.2.2.2.2.2.2.2.2.2.2.2.2.2.2.2.2.2.2.2.2.1,r7_4_1.2.2.2.2.2.2.2.2.2.2.2.2.2.2.2.2.2.2.2.2.2.2.2.2.2.1,r7_4_1.2.2.2.2.2.2.2.2.2.2.2.2.2.2.2.2.2.2.2.2.2.2.2.2.2.2.1,s_4,())
 (((wV p0 (16:Int))∧((xQ5 (vM6 y1) (vA8 y1) (vJ7 y1) x1)∧((wV r1_2_0 (128:Int))∧(xQ5 (vM8 y7) (vA9 y7) (vJ9 y7) x7)))),(),((uI3 y7 e7),s_5,()))
def vB2 p0 p1:=(tF3 p0 p1).1
def sT p0 p1:=(tF3 p0 p1).2.1
def vI5 p0 p1:=(tF3 p0 p1).2.2
instance (p0 p1):Decidable (vB2 p0 p1):=by unfold vB2 tF3;dsimp only;infer_instance
theorem sA9:SK 67 (fnSpec [(0,(.box T60 (.val T60))),(1,(.box T52 (.agg (.cons (.int .i64) (.cons (.int .i64) (.cons (.int .i64) (.cons .str (.cons .bool (.cons .bool (.cons .bool (.cons (.int .i64) (.cons (.int .i64) (.cons T26 (.cons T43 (.cons (.int .i64) (.cons T23 (.cons T45 (.cons (.int .i64) (.cons (.sl (.int .i64)) (.cons (.int .i64) (.cons (.sl T111) (.cons (.sl T114) (.cons (.int .i64) (.cons (.int .i64) (.cons (.int .i64) (.cons (.int .i64) (.cons .str (.cons (.int .i64) (.cons (.int .i64) (.cons (.int .i64) (.cons T50 .nl)))))))))))))))))))))))))))) (.cons vI (.cons vI (.cons vI (.cons vS (.cons vB (.cons vB (.cons vB (.cons vI (.cons vI (.cons (.val T26) (.cons (.val T43) (.cons vI (.cons (.val T23) (.cons (.val T45) (.cons vI (.cons (.own (.int .i64) 400102 false) (.cons vI (.cons (.own T111 400103 false) (.cons (.own T114 400104 false) (.cons vI (.cons vI (.cons vI (.cons vI (.cons vS (.cons vI (.cons vI (.cons vI (.cons (.agg (.cons (.int .i64) (.cons (.int .i64) (.cons (.int .i64) (.cons (.sl T106) .nl)))) (.cons vI (.cons vI (.cons vI (.cons (.own T106 400105 false) .nl))))) .nl)))))))))))))))))))))))))))))))] (.tup .nl) [(0,(.box T60 (.val T60))),(1,(.box T52 (.agg (.cons (.int .i64) (.cons (.int .i64) (.cons (.int .i64) (.cons .str (.cons .bool (.cons .bool (.cons .bool (.cons (.int .i64) (.cons (.int .i64) (.cons T26 (.cons T43 (.cons (.int .i64) (.cons T23 (.cons T45 (.cons (.int .i64) (.cons (.sl (.int .i64)) (.cons (.int .i64) (.cons (.sl T111) (.cons (.sl T114) (.cons (.int .i64) (.cons (.int .i64) (.cons (.int .i64) (.cons (.int .i64) (.cons .str (.cons (.int .i64) (.cons (.int .i64) (.cons (.int .i64) (.cons T50 .nl)))))))))))))))))))))))))))) (.cons vI (.cons vI (.cons vI (.cons vS (.cons vB (.cons vB (.cons vB (.cons vI (.cons vI (.cons (.val T26) (.cons (.val T43) (.cons vI (.cons (.val T23) (.cons (.val T45) (.cons vI (.cons (.own (.int .i64) 400102 false) (.cons vI (.cons (.own T111 400103 false) (.cons (.own T114 400104 false) (.cons vI (.cons vI (.cons vI (.cons vI (.cons vS (.cons vI (.cons vI (.cons vI (.cons (.agg (.cons (.int .i64) (.cons (.int .i64) (.cons (.int .i64) (.cons (.sl T106) .nl)))) (.cons vI (.cons vI (.cons vI (.cons (.own T106 400105 false) .nl))))) .nl)))))))))))))))))))))))))))))))] (fun x=>vB2 x.1 x.2.1) (fun x=>sT x.1 x.2.1) (fun x=>vI5 x.1 x.2.1)):=fx (fun c=>{ c with wants:=[(63,[])] }) Tryz.func67 68 [kb vO0,kb sA6,kb sA7,kb sA8] [(1,tL6),(7,tL7),(11,tF2)] [(9,[(4,0,30,400103)]),(31,[(4,0,64,400104)])] true [0,1]
def uY2 (p0:D60)(p1:Unit)(p2:(Int×Int×Int×(List UInt8)×Bool×Bool×Bool×Int×Int×D26×D43×Int×D23×D45×Int×(List Int)×Int×(List D111)×(List D114)×Int×Int×Int×Int×(List UInt8)×Int×Int×Int×(Int×Int×Int×(List D106)×Unit)×Unit)):List Prop×(Unit)×(D60×Unit×(Int×Int×Int×(List UInt8)×Bool×Bool×Bool×Int×Int×D26×D43×Int×D23×D45×Int×(List Int)×Int×(List D111)×(List D114)×Int×Int×Int×Int×(List UInt8)×Int×Int×Int×(Int×Int×Int×(List D106)×Unit)×Unit)×Unit):=
 let v14o:=(wU1 p0)
 let v14o_1:=(wU1 v14o.1)
 let v14o_2:=(wU1 v14o_1.1)
 let s:=(p2.2.2.2.2.2.2.2.2.2.2.2.2.2.2.2.2.2.2.2.2.2.2.2.2.2.2.2.1.1,p2.2.2.2.2.2.2.2.2.2.2.2.2.2.2.2.2.2.2.2.2.2.2.2.2.2.2.2.1.2.1,p2.2.2.2.2.2.2.2.2.2.2.2.2.2.2.2.2.2.2.2.2.2.2.2.2.2.2.2.1.2.2.1,p2.2.2.2.2.2.2.2.2.2.2.2.2.2.2.2.2.2.2.2.2.2.2.2.2.2.2.2.1.2.2.2.1,())
 let s_1:=(p2.1,p2.2.1,p2.2.2.1,p2.2.2.2.1,p2.2.2.2.2.1,p2.2.2.2.2.2.1,p2.2.2.2.2.2.2.1,p2.2.2.2.2.2.2.2.1,p2.2.2.2.2.2.2.2.2.1,p2.2.2.2.2.2.2.2.2.2.1,p2.2.2.2.2.2.2.2.2.2.2.1,p2.2.2.2.2.2.2.2.2.2.2.2.1,p2.2.2.2.2.2.2.2.2.2.2.2.2.1,p2.2.2.2.2.2.2.2.2.2.2.2.2.2.1,p2.2.2.2.2.2.2.2.2.2.2.2.2.2.2.1,p2.2.2.2.2.2.2.2.2.2.2.2.2.2.2.2.1,p2.2.2.2.2.2.2.2.2.2.2.2.2.2.2.2.2.1,p2.2.2.2.2.2.2.2.2.2.2.2.2.2.2.2.2.2.1,p2.2.2.2.2.2.2.2.2.2.2.2.2.2.2.2.2.2.2.1,(wT4 p0),(wT4 v14o.1),(wT4 v14o_1.1),(wT4 v14o_2.1),p2.2.2.2.2.2.2.2.2.2.2.2.2.2.2.2.2.2.2.2.2.2.2.2.1,p2.2.2.2.2.2.2.2.2.2.2.2.2.2.2.2.2.2.2.2.2.2.2.2.2.1,p2.2.2.2.2.2.2.2.2.2.2.2.2.2.2.2.2.2.2.2.2.2.2.2.2.2.1,p2.2.2.2.2.2.2.2.2.2.2.2.2.2.2.2.2.2.2.2.2.2.2.2.2.2.2.1,s,())
 ([InB (0:Int) 4,(wT2 p0),InB (1:Int) 4,(wT2 v14o.1),InB (2:Int) 4,(wT2 v14o_1.1),InB (3:Int) 4,(wT2 v14o_2.1)],(),((wU1 v14o_2.1).1,(),s_1,()))
def vI0 (p0:D60)(p1:Unit)(p2:(Int×Int×Int×(List UInt8)×Bool×Bool×Bool×Int×Int×D26×D43×Int×D23×D45×Int×(List Int)×Int×(List D111)×(List D114)×Int×Int×Int×Int×(List UInt8)×Int×Int×Int×(Int×Int×Int×(List D106)×Unit)×Unit)):Prop:=yW6 (uY2 p0 p1 p2).1
def sT0 p0 p1 p2:=(uY2 p0 p1 p2).2.1
def uM6 p0 p1 p2:=(uY2 p0 p1 p2).2.2
instance (p0:D60)(p1:Unit)(p2:(Int×Int×Int×(List UInt8)×Bool×Bool×Bool×Int×Int×D26×D43×Int×D23×D45×Int×(List Int)×Int×(List D111)×(List D114)×Int×Int×Int×Int×(List UInt8)×Int×Int×Int×(Int×Int×Int×(List D106)×Unit)×Unit)):Decidable (vI0 p0 p1 p2):=by
 unfold vI0 uY2;dsimp only[yW6]
 infer_instance
noncomputable def tL8:List (Fb Tryz.prog):=[kb vD1]
noncomputable def tV5:Ctx:={ Cx tys (Fb.l tL8) [] [] true 17 [0,1] [] with skip:=true,dead:=[999999] }
theorem tV6:CtxOk Tryz.prog tV5:=wI7 vD8 (by kernel_rfl) (Fb.all tL8) rfl (by kernel_rfl)
@[reducible] def uY3:List (Nat×Sh):=[(0,(.box T60 (.val T60))),(1,(.ptrs false [some (990001,T52,[.inl 19]),some (990001,T52,[.inl 20]),some (990001,T52,[.inl 21]),some (990001,T52,[.inl 22])])),(990001,(.box T52 (.agg (.cons (.int .i64) (.cons (.int .i64) (.cons (.int .i64) (.cons .str (.cons .bool (.cons .bool (.cons .bool (.cons (.int .i64) (.cons (.int .i64) (.cons T26 (.cons T43 (.cons (.int .i64) (.cons T23 (.cons T45 (.cons (.int .i64) (.cons (.sl (.int .i64)) (.cons (.int .i64) (.cons (.sl T111) (.cons (.sl T114) (.cons (.int .i64) (.cons (.int .i64) (.cons (.int .i64) (.cons (.int .i64) (.cons .str (.cons (.int .i64) (.cons (.int .i64) (.cons (.int .i64) (.cons T50 .nl)))))))))))))))))))))))))))) (.cons vI (.cons vI (.cons vI (.cons vS (.cons vB (.cons vB (.cons vB (.cons vI (.cons vI (.cons (.val T26) (.cons (.val T43) (.cons vI (.cons (.val T23) (.cons (.val T45) (.cons vI (.cons (.own (.int .i64) 400102 false) (.cons vI (.cons (.own T111 400103 false) (.cons (.own T114 400104 false) (.cons vI (.cons vI (.cons vI (.cons vI (.cons vS (.cons vI (.cons vI (.cons vI (.cons (.agg (.cons (.int .i64) (.cons (.int .i64) (.cons (.int .i64) (.cons (.sl T106) .nl)))) (.cons vI (.cons vI (.cons vI (.cons (.own T106 400105 false) .nl))))) .nl)))))))))))))))))))))))))))))))]
theorem sB:SK 63 (xI1 uY3 (.tup .nl) uY3 (fun x=>vI0 x.1 x.2.1 x.2.2.1) (fun x=>sT0 x.1 x.2.1 x.2.2.1) (fun x=>uM6 x.1 x.2.1 x.2.2.1)):=wP (ps:=uY3) (p:=fun x=>(uY2 x.1 x.2.1 x.2.2.1).1) (lv:=[(0,[0,1,6,7,8,990001]),(1,[0,1,6,7,8,9,990001]),(2,[0,1,5,6,7,8,990001]),(3,[0,1,6,7,8,990001]),(4,[0,1,6,7,8,990001])]) tV6 mixed Tryz.func63 (fun _ h=>h) (by kernel_rfl) (fun x=>by kernel_rfl)
def uM7 (p0:D60)(p1:Unit)(p2:(Int×Int×Int×(List UInt8)×Bool×Bool×Bool×Int×Int×D26×D43×Int×D23×D45×Int×(List Int)×Int×(List D111)×(List D114)×Int×Int×Int×Int×(List UInt8)×Int×Int×Int×(Int×Int×Int×(List D106)×Unit)×Unit)):List Prop×(Unit)×(D60×Unit×(Int×Int×Int×(List UInt8)×Bool×Bool×Bool×Int×Int×D26×D43×Int×D23×D45×Int×(List Int)×Int×(List D111)×(List D114)×Int×Int×Int×Int×(List UInt8)×Int×Int×Int×(Int×Int×Int×(List D106)×Unit)×Unit)×Unit):=
 let v14o:=(wU1 p0)
 let v14o_1:=(wU1 v14o.1)
 let v14o_2:=(wU1 v14o_1.1)
 let v14o_3:=(wU1 v14o_2.1)
 let v14o_4:=(wU1 v14o_3.1)
 let s_1:=(p2.1,p2.2.1,p2.2.2.1,p2.2.2.2.1,p2.2.2.2.2.1,p2.2.2.2.2.2.1,p2.2.2.2.2.2.2.1,p2.2.2.2.2.2.2.2.1,p2.2.2.2.2.2.2.2.2.1,p2.2.2.2.2.2.2.2.2.2.1,p2.2.2.2.2.2.2.2.2.2.2.1,p2.2.2.2.2.2.2.2.2.2.2.2.1,p2.2.2.2.2.2.2.2.2.2.2.2.2.1,p2.2.2.2.2.2.2.2.2.2.2.2.2.2.1,p2.2.2.2.2.2.2.2.2.2.2.2.2.2.2.1,p2.2.2.2.2.2.2.2.2.2.2.2.2.2.2.2.1,p2.2.2.2.2.2.2.2.2.2.2.2.2.2.2.2.2.1,p2.2.2.2.2.2.2.2.2.2.2.2.2.2.2.2.2.2.1,p2.2.2.2.2.2.2.2.2.2.2.2.2.2.2.2.2.2.2.1,p2.2.2.2.2.2.2.2.2.2.2.2.2.2.2.2.2.2.2.2.1,p2.2.2.2.2.2.2.2.2.2.2.2.2.2.2.2.2.2.2.2.2.1,p2.2.2.2.2.2.2.2.2.2.2.2.2.2.2.2.2.2.2.2.2.2.1,p2.2.2.2.2.2.2.2.2.2.2.2.2.2.2.2.2.2.2.2.2.2.2.1,p2.2.2.2.2.2.2.2.2.2.2.2.2.2.2.2.2.2.2.2.2.2.2.2.1,(wT4 p0),(wT4 v14o.1),(wT4 v14o_1.1),((wT4 v14o_2.1),(wT4 v14o_3.1),(wT4 v14o_4.1),p2.2.2.2.2.2.2.2.2.2.2.2.2.2.2.2.2.2.2.2.2.2.2.2.2.2.2.2.1.2.2.2.1,()),())
 ([InB (0:Int) 6,(wT2 p0),InB (1:Int) 6,(wT2 v14o.1),InB (2:Int) 6,(wT2 v14o_1.1),InB (3:Int) 6,(wT2 v14o_2.1),InB (4:Int) 6,(wT2 v14o_3.1),InB (5:Int) 6,(wT2 v14o_4.1)],(),((wU1 v14o_4.1).1,(),s_1,()))
def vD4 (p0:D60)(p1:Unit)(p2:(Int×Int×Int×(List UInt8)×Bool×Bool×Bool×Int×Int×D26×D43×Int×D23×D45×Int×(List Int)×Int×(List D111)×(List D114)×Int×Int×Int×Int×(List UInt8)×Int×Int×Int×(Int×Int×Int×(List D106)×Unit)×Unit)):Prop:=yW6 (uM7 p0 p1 p2).1
def sN5 p0 p1 p2:=(uM7 p0 p1 p2).2.1
def uD7 p0 p1 p2:=(uM7 p0 p1 p2).2.2
instance (p0:D60)(p1:Unit)(p2:(Int×Int×Int×(List UInt8)×Bool×Bool×Bool×Int×Int×D26×D43×Int×D23×D45×Int×(List Int)×Int×(List D111)×(List D114)×Int×Int×Int×Int×(List UInt8)×Int×Int×Int×(Int×Int×Int×(List D106)×Unit)×Unit)):Decidable (vD4 p0 p1 p2):=by
 unfold vD4 uM7;dsimp only[yW6]
 infer_instance
noncomputable def tB9:List (Fb Tryz.prog):=[kb vD1]
noncomputable def tO7:Ctx:={ Cx tys (Fb.l tB9) [] [] true 17 [0,1] [] with skip:=true,dead:=[999999] }
theorem tO8:CtxOk Tryz.prog tO7:=wI7 vD8 (by kernel_rfl) (Fb.all tB9) rfl (by kernel_rfl)
@[reducible] def uO7:List (Nat×Sh):=[(0,(.box T60 (.val T60))),(1,(.ptrs false [some (990001,T52,[.inl 24]),some (990001,T52,[.inl 25]),some (990001,T52,[.inl 26]),some (990001,T52,[.inl 27,.inl 0]),some (990001,T52,[.inl 27,.inl 1]),some (990001,T52,[.inl 27,.inl 2])])),(990001,(.box T52 (.agg (.cons (.int .i64) (.cons (.int .i64) (.cons (.int .i64) (.cons .str (.cons .bool (.cons .bool (.cons .bool (.cons (.int .i64) (.cons (.int .i64) (.cons T26 (.cons T43 (.cons (.int .i64) (.cons T23 (.cons T45 (.cons (.int .i64) (.cons (.sl (.int .i64)) (.cons (.int .i64) (.cons (.sl T111) (.cons (.sl T114) (.cons (.int .i64) (.cons (.int .i64) (.cons (.int .i64) (.cons (.int .i64) (.cons .str (.cons (.int .i64) (.cons (.int .i64) (.cons (.int .i64) (.cons T50 .nl)))))))))))))))))))))))))))) (.cons vI (.cons vI (.cons vI (.cons vS (.cons vB (.cons vB (.cons vB (.cons vI (.cons vI (.cons (.val T26) (.cons (.val T43) (.cons vI (.cons (.val T23) (.cons (.val T45) (.cons vI (.cons (.own (.int .i64) 400102 false) (.cons vI (.cons (.own T111 400103 false) (.cons (.own T114 400104 false) (.cons vI (.cons vI (.cons vI (.cons vI (.cons vS (.cons vI (.cons vI (.cons vI (.cons (.agg (.cons (.int .i64) (.cons (.int .i64) (.cons (.int .i64) (.cons (.sl T106) .nl)))) (.cons vI (.cons vI (.cons vI (.cons (.own T106 400105 false) .nl))))) .nl)))))))))))))))))))))))))))))))]
theorem tV7:SK 63 (xI1 uO7 (.tup .nl) uO7 (fun x=>vD4 x.1 x.2.1 x.2.2.1) (fun x=>sN5 x.1 x.2.1 x.2.2.1) (fun x=>uD7 x.1 x.2.1 x.2.2.1)):=wP (ps:=uO7) (p:=fun x=>(uM7 x.1 x.2.1 x.2.2.1).1) (lv:=[(0,[0,1,6,7,8,990001]),(1,[0,1,6,7,8,9,990001]),(2,[0,1,5,6,7,8,990001]),(3,[0,1,6,7,8,990001]),(4,[0,1,6,7,8,990001])]) tO8 mixed Tryz.func63 (fun _ h=>h) (by kernel_rfl) (fun x=>by kernel_rfl)
def uM8 (p0:D60)(p1:Unit)(p2:D106):List Prop×(Unit)×(D60×Unit×D106×Unit):=
 let v14o:=(wU1 p0)
 ([InB (0:Int) 2,(wT2 p0),InB (1:Int) 2,(wT2 v14o.1)],(),((wU1 v14o.1).1,(),((wT4 p0),(wT4 v14o.1),()),()))
def uG0 (p0:D60)(p1:Unit)(p2:D106):Prop:=yW6 (uM8 p0 p1 p2).1
def sN6 p0 p1 p2:=(uM8 p0 p1 p2).2.1
def tL9 p0 p1 p2:=(uM8 p0 p1 p2).2.2
instance (p0:D60)(p1:Unit)(p2:D106):Decidable (uG0 p0 p1 p2):=by
 unfold uG0 uM8;dsimp only[yW6]
 infer_instance
noncomputable def tC:List (Fb Tryz.prog):=[kb vD1]
noncomputable def tO9:Ctx:={ Cx tys (Fb.l tC) [] [] true 17 [0,1] [] with skip:=true,dead:=[999999] }
theorem tP0:CtxOk Tryz.prog tO9:=wI7 vD8 (by kernel_rfl) (Fb.all tC) rfl (by kernel_rfl)
@[reducible] def uO8:List (Nat×Sh):=[(0,(.box T60 (.val T60))),(1,(.ptrs false [some (990001,T106,[.inl 0]),some (990001,T106,[.inl 1])])),(990001,(.box T106 (.val T106)))]
theorem tV8:SK 63 (xI1 uO8 (.tup .nl) uO8 (fun x=>uG0 x.1 x.2.1 x.2.2.1) (fun x=>sN6 x.1 x.2.1 x.2.2.1) (fun x=>tL9 x.1 x.2.1 x.2.2.1)):=wP (ps:=uO8) (p:=fun x=>(uM8 x.1 x.2.1 x.2.2.1).1) (lv:=[(0,[0,1,6,7,8,990001]),(1,[0,1,6,7,8,9,990001]),(2,[0,1,5,6,7,8,990001]),(3,[0,1,6,7,8,990001]),(4,[0,1,6,7,8,990001])]) tP0 mixed Tryz.func63 (fun _ h=>h) (by kernel_rfl) (fun x=>by kernel_rfl)
abbrev vK:Type:=((Int×Int×Int×(List UInt8)×Bool×Bool×Bool×Int×Int×(Int×Int×(List Int)×Unit)×D43×Int×(Int×Int×(List D45)×Unit)×D45×Int×(List Int)×Int×(List D111)×(List D114)×Int×Int×Int×Int×(List UInt8)×Int×Int×Int×(Int×Int×Int×(List D106)×Unit)×Unit)×Int×Unit)
abbrev wY:Type:=(D60×(Int×Int×Int×(List UInt8)×Bool×Bool×Bool×Int×Int×D26×D43×Int×D23×D45×Int×(List Int)×Int×(List D111)×(List D114)×Int×Int×Int×Int×(List UInt8)×Int×Int×Int×(Int×Int×Int×(List D106)×Unit)×Unit)×Int×Unit)
def uJ9 (y:vK)(x:wY):Prop×Bool×wY:=
 let a0:=x.1
 let a3:=x.2.1
 let a92:=x.2.2.1
 let v93:=(decide (a92<y.2.1))
 let v98o:=(tL9 a0 () Z106)
 let v103:=([v98o.2.2.1]:List D106)
 let s:=(a3.2.2.2.2.2.2.2.2.2.2.2.2.2.2.2.2.2.2.2.2.2.2.2.2.2.2.2.1.1,a3.2.2.2.2.2.2.2.2.2.2.2.2.2.2.2.2.2.2.2.2.2.2.2.2.2.2.2.1.2.1,a3.2.2.2.2.2.2.2.2.2.2.2.2.2.2.2.2.2.2.2.2.2.2.2.2.2.2.2.1.2.2.1,(a3.2.2.2.2.2.2.2.2.2.2.2.2.2.2.2.2.2.2.2.2.2.2.2.2.2.2.2.1.2.2.2.1++v103),())
 let s_1:=(a3.1,a3.2.1,a3.2.2.1,a3.2.2.2.1,a3.2.2.2.2.1,a3.2.2.2.2.2.1,a3.2.2.2.2.2.2.1,a3.2.2.2.2.2.2.2.1,a3.2.2.2.2.2.2.2.2.1,a3.2.2.2.2.2.2.2.2.2.1,a3.2.2.2.2.2.2.2.2.2.2.1,a3.2.2.2.2.2.2.2.2.2.2.2.1,a3.2.2.2.2.2.2.2.2.2.2.2.2.1,a3.2.2.2.2.2.2.2.2.2.2.2.2.2.1,a3.2.2.2.2.2.2.2.2.2.2.2.2.2.2.1,a3.2.2.2.2.2.2.2.2.2.2.2.2.2.2.2.1,a3.2.2.2.2.2.2.2.2.2.2.2.2.2.2.2.2.1,a3.2.2.2.2.2.2.2.2.2.2.2.2.2.2.2.2.2.1,a3.2.2.2.2.2.2.2.2.2.2.2.2.2.2.2.2.2.2.1,a3.2.2.2.2.2.2.2.2.2.2.2.2.2.2.2.2.2.2.2.1,a3.2.2.2.2.2.2.2.2.2.2.2.2.2.2.2.2.2.2.2.2.1,a3.2.2.2.2.2.2.2.2.2.2.2.2.2.2.2.2.2.2.2.2.2.1,a3.2.2.2.2.2.2.2.2.2.2.2.2.2.2.2.2.2.2.2.2.2.2.1,a3.2.2.2.2.2.2.2.2.2.2.2.2.2.2.2.2.2.2.2.2.2.2.2.1,a3.2.2.2.2.2.2.2.2.2.2.2.2.2.2.2.2.2.2.2.2.2.2.2.2.1,a3.2.2.2.2.2.2.2.2.2.2.2.2.2.2.2.2.2.2.2.2.2.2.2.2.2.1,a3.2.2.2.2.2.2.2.2.2.2.2.2.2.2.2.2.2.2.2.2.2.2.2.2.2.2.1,s,())
 ((v93=true→((uG0 a0 () Z106)∧((List.length a3.2.2.2.2.2.2.2.2.2.2.2.2.2.2.2.2.2.2.2.2.2.2.2.2.2.2.2.1.2.2.2.1+List.length v103:Nat):Int)≤4294967296)),v93,(v98o.1,s_1,(IntKind.wrap .i64 (a92+1)),()))
def wX7 y x:=(uJ9 y x).1
def wW7 y x:=(uJ9 y x).2.1
def wV0 y x:=(uJ9 y x).2.2
def vU1 (y:vK)(x:wY):D60:=
 x.1
def vU2 (y:vK)(x:wY):(Int×Int×Int×(List UInt8)×Bool×Bool×Bool×Int×Int×D26×D43×Int×D23×D45×Int×(List Int)×Int×(List D111)×(List D114)×Int×Int×Int×Int×(List UInt8)×Int×Int×Int×(Int×Int×Int×(List D106)×Unit)×Unit):=
 let a3:=x.2.1
 let s_2:=(a3.2.2.2.2.2.2.2.2.2.2.2.2.2.2.2.2.2.2.2.2.2.2.2.2.2.2.2.1.1,a3.2.2.2.2.2.2.2.2.2.2.2.2.2.2.2.2.2.2.2.2.2.2.2.2.2.2.2.1.2.1,a3.2.2.2.2.2.2.2.2.2.2.2.2.2.2.2.2.2.2.2.2.2.2.2.2.2.2.2.1.2.2.1,a3.2.2.2.2.2.2.2.2.2.2.2.2.2.2.2.2.2.2.2.2.2.2.2.2.2.2.2.1.2.2.2.1,())
 let s_3:=(a3.1,a3.2.1,a3.2.2.1,a3.2.2.2.1,a3.2.2.2.2.1,a3.2.2.2.2.2.1,a3.2.2.2.2.2.2.1,a3.2.2.2.2.2.2.2.1,a3.2.2.2.2.2.2.2.2.1,a3.2.2.2.2.2.2.2.2.2.1,a3.2.2.2.2.2.2.2.2.2.2.1,a3.2.2.2.2.2.2.2.2.2.2.2.1,a3.2.2.2.2.2.2.2.2.2.2.2.2.1,a3.2.2.2.2.2.2.2.2.2.2.2.2.2.1,a3.2.2.2.2.2.2.2.2.2.2.2.2.2.2.1,a3.2.2.2.2.2.2.2.2.2.2.2.2.2.2.2.1,a3.2.2.2.2.2.2.2.2.2.2.2.2.2.2.2.2.1,a3.2.2.2.2.2.2.2.2.2.2.2.2.2.2.2.2.2.1,a3.2.2.2.2.2.2.2.2.2.2.2.2.2.2.2.2.2.2.1,a3.2.2.2.2.2.2.2.2.2.2.2.2.2.2.2.2.2.2.2.1,a3.2.2.2.2.2.2.2.2.2.2.2.2.2.2.2.2.2.2.2.2.1,a3.2.2.2.2.2.2.2.2.2.2.2.2.2.2.2.2.2.2.2.2.2.1,a3.2.2.2.2.2.2.2.2.2.2.2.2.2.2.2.2.2.2.2.2.2.2.1,a3.2.2.2.2.2.2.2.2.2.2.2.2.2.2.2.2.2.2.2.2.2.2.2.1,a3.2.2.2.2.2.2.2.2.2.2.2.2.2.2.2.2.2.2.2.2.2.2.2.2.1,a3.2.2.2.2.2.2.2.2.2.2.2.2.2.2.2.2.2.2.2.2.2.2.2.2.2.1,a3.2.2.2.2.2.2.2.2.2.2.2.2.2.2.2.2.2.2.2.2.2.2.2.2.2.2.1,s_2,())
 s_3
def uM9:List (Nat×Sh):=[(0,(.box T60 (.val T60))),(2,(.box T52 (.agg (.cons (.int .i64) (.cons (.int .i64) (.cons (.int .i64) (.cons .str (.cons .bool (.cons .bool (.cons .bool (.cons (.int .i64) (.cons (.int .i64) (.cons T26 (.cons T43 (.cons (.int .i64) (.cons T23 (.cons T45 (.cons (.int .i64) (.cons (.sl (.int .i64)) (.cons (.int .i64) (.cons (.sl T111) (.cons (.sl T114) (.cons (.int .i64) (.cons (.int .i64) (.cons (.int .i64) (.cons (.int .i64) (.cons .str (.cons (.int .i64) (.cons (.int .i64) (.cons (.int .i64) (.cons T50 .nl)))))))))))))))))))))))))))) (.cons vI (.cons vI (.cons vI (.cons vS (.cons vB (.cons vB (.cons vB (.cons vI (.cons vI (.cons (.agg (.cons (.int .i64) (.cons (.int .i64) (.cons (.sl (.int .i64)) .nl))) (.cons vI (.cons vI (.cons (.val (.sl (.int .i64))) .nl)))) (.cons (.val T43) (.cons vI (.cons (.agg (.cons (.int .i64) (.cons (.int .i64) (.cons (.sl T45) .nl))) (.cons vI (.cons vI (.cons (.val (.sl T45)) .nl)))) (.cons (.val T45) (.cons vI (.cons (.val (.sl (.int .i64))) (.cons vI (.cons (.val (.sl T111)) (.cons (.val (.sl T114)) (.cons vI (.cons vI (.cons vI (.cons vI (.cons vS (.cons vI (.cons vI (.cons vI (.cons (.agg (.cons (.int .i64) (.cons (.int .i64) (.cons (.int .i64) (.cons (.sl T106) .nl)))) (.cons vI (.cons vI (.cons vI (.cons (.val (.sl T106)) .nl))))) .nl))))))))))))))))))))))))))))))),(3,(.box T52 (.agg (.cons (.int .i64) (.cons (.int .i64) (.cons (.int .i64) (.cons .str (.cons .bool (.cons .bool (.cons .bool (.cons (.int .i64) (.cons (.int .i64) (.cons T26 (.cons T43 (.cons (.int .i64) (.cons T23 (.cons T45 (.cons (.int .i64) (.cons (.sl (.int .i64)) (.cons (.int .i64) (.cons (.sl T111) (.cons (.sl T114) (.cons (.int .i64) (.cons (.int .i64) (.cons (.int .i64) (.cons (.int .i64) (.cons .str (.cons (.int .i64) (.cons (.int .i64) (.cons (.int .i64) (.cons T50 .nl)))))))))))))))))))))))))))) (.cons vI (.cons vI (.cons vI (.cons vS (.cons vB (.cons vB (.cons vB (.cons vI (.cons vI (.cons (.val T26) (.cons (.val T43) (.cons vI (.cons (.val T23) (.cons (.val T45) (.cons vI (.cons (.own (.int .i64) 400302 false) (.cons vI (.cons (.own T111 400303 false) (.cons (.own T114 400304 false) (.cons vI (.cons vI (.cons vI (.cons vI (.cons vS (.cons vI (.cons vI (.cons vI (.cons (.agg (.cons (.int .i64) (.cons (.int .i64) (.cons (.int .i64) (.cons (.sl T106) .nl)))) (.cons vI (.cons vI (.cons vI (.cons (.own T106 400305 false) .nl))))) .nl)))))))))))))))))))))))))))))))]
def tF4:=li [(2,(.box T52 (.agg (.cons (.int .i64) (.cons (.int .i64) (.cons (.int .i64) (.cons .str (.cons .bool (.cons .bool (.cons .bool (.cons (.int .i64) (.cons (.int .i64) (.cons T26 (.cons T43 (.cons (.int .i64) (.cons T23 (.cons T45 (.cons (.int .i64) (.cons (.sl (.int .i64)) (.cons (.int .i64) (.cons (.sl T111) (.cons (.sl T114) (.cons (.int .i64) (.cons (.int .i64) (.cons (.int .i64) (.cons (.int .i64) (.cons .str (.cons (.int .i64) (.cons (.int .i64) (.cons (.int .i64) (.cons T50 .nl)))))))))))))))))))))))))))) (.cons vI (.cons vI (.cons vI (.cons vS (.cons vB (.cons vB (.cons vB (.cons vI (.cons vI (.cons (.agg (.cons (.int .i64) (.cons (.int .i64) (.cons (.sl (.int .i64)) .nl))) (.cons vI (.cons vI (.cons (.val (.sl (.int .i64))) .nl)))) (.cons (.val T43) (.cons vI (.cons (.agg (.cons (.int .i64) (.cons (.int .i64) (.cons (.sl T45) .nl))) (.cons vI (.cons vI (.cons (.val (.sl T45)) .nl)))) (.cons (.val T45) (.cons vI (.cons (.val (.sl (.int .i64))) (.cons vI (.cons (.val (.sl T111)) (.cons (.val (.sl T114)) (.cons vI (.cons vI (.cons vI (.cons vI (.cons vS (.cons vI (.cons vI (.cons vI (.cons (.agg (.cons (.int .i64) (.cons (.int .i64) (.cons (.int .i64) (.cons (.sl T106) .nl)))) (.cons vI (.cons vI (.cons vI (.cons (.val (.sl T106)) .nl))))) .nl))))))))))))))))))))))))))))))),(91,vI)] [(0,(.box T60 (.val T60))),(3,(.box T52 (.agg (.cons (.int .i64) (.cons (.int .i64) (.cons (.int .i64) (.cons .str (.cons .bool (.cons .bool (.cons .bool (.cons (.int .i64) (.cons (.int .i64) (.cons T26 (.cons T43 (.cons (.int .i64) (.cons T23 (.cons T45 (.cons (.int .i64) (.cons (.sl (.int .i64)) (.cons (.int .i64) (.cons (.sl T111) (.cons (.sl T114) (.cons (.int .i64) (.cons (.int .i64) (.cons (.int .i64) (.cons (.int .i64) (.cons .str (.cons (.int .i64) (.cons (.int .i64) (.cons (.int .i64) (.cons T50 .nl)))))))))))))))))))))))))))) (.cons vI (.cons vI (.cons vI (.cons vS (.cons vB (.cons vB (.cons vB (.cons vI (.cons vI (.cons (.val T26) (.cons (.val T43) (.cons vI (.cons (.val T23) (.cons (.val T45) (.cons vI (.cons (.own (.int .i64) 400302 false) (.cons vI (.cons (.own T111 400303 false) (.cons (.own T114 400304 false) (.cons vI (.cons vI (.cons vI (.cons vI (.cons vS (.cons vI (.cons vI (.cons vI (.cons (.agg (.cons (.int .i64) (.cons (.int .i64) (.cons (.int .i64) (.cons (.sl T106) .nl)))) (.cons vI (.cons vI (.cons vI (.cons (.own T106 400305 false) .nl))))) .nl))))))))))))))))))))))))))))))),(92,vI)] wW7 wV0 wX7 (fun y x=>[ex 2 none uM9 ((vU1 y x),y.1,(vU2 y x),())]) [uM9]
def uO9 (p0:D60):Prop×D52×(D60×Unit):=
 let s_3:=((0:Int),(0:Int),(0:Int),([]:List UInt8),false,false,false,(0:Int),(0:Int),((0:Int),(0:Int),([]:List Int),()),Z43,(0:Int),((0:Int),(0:Int),([]:List D45),()),Z45,(0:Int),([]:List Int),(0:Int),([]:List D111),([]:List D114),(0:Int),(0:Int),(0:Int),(0:Int),([]:List UInt8),(0:Int),(0:Int),(0:Int),((0:Int),(0:Int),(0:Int),([]:List D106),()),())
 let v10o:=(uT3 p0 () s_3)
 let v12o:=(wV5 v10o.1 (256:Int))
 let s_6:=(v10o.2.2.1.2.2.2.2.2.2.2.2.2.2.2.2.2.2.2.2.2.2.2.2.2.2.2.2.2.2.2.1.1,v10o.2.2.1.2.2.2.2.2.2.2.2.2.2.2.2.2.2.2.2.2.2.2.2.2.2.2.2.2.2.2.1.2.1,v10o.2.2.1.2.2.2.2.2.2.2.2.2.2.2.2.2.2.2.2.2.2.2.2.2.2.2.2.2.2.2.1.2.2.1,v10o.2.2.1.2.2.2.2.2.2.2.2.2.2.2.2.2.2.2.2.2.2.2.2.2.2.2.2.2.2.2.1.2.2.2.1,())
 let s_7:=(v10o.2.2.1.1,v10o.2.2.1.2.1,v10o.2.2.1.2.2.1,(vH0 v10o.1 (256:Int)),v10o.2.2.1.2.2.2.2.1,v10o.2.2.1.2.2.2.2.2.1,v10o.2.2.1.2.2.2.2.2.2.1,v10o.2.2.1.2.2.2.2.2.2.2.1,v10o.2.2.1.2.2.2.2.2.2.2.2.1,(v10o.2.2.1.2.2.2.2.2.2.2.2.2.1.1,v10o.2.2.1.2.2.2.2.2.2.2.2.2.1.2.1,v10o.2.2.1.2.2.2.2.2.2.2.2.2.1.2.2.1,()),v10o.2.2.1.2.2.2.2.2.2.2.2.2.2.1,v10o.2.2.1.2.2.2.2.2.2.2.2.2.2.2.1,(v10o.2.2.1.2.2.2.2.2.2.2.2.2.2.2.2.1.1,v10o.2.2.1.2.2.2.2.2.2.2.2.2.2.2.2.1.2.1,v10o.2.2.1.2.2.2.2.2.2.2.2.2.2.2.2.1.2.2.1,()),v10o.2.2.1.2.2.2.2.2.2.2.2.2.2.2.2.2.1,v10o.2.2.1.2.2.2.2.2.2.2.2.2.2.2.2.2.2.1,v10o.2.2.1.2.2.2.2.2.2.2.2.2.2.2.2.2.2.2.1,v10o.2.2.1.2.2.2.2.2.2.2.2.2.2.2.2.2.2.2.2.1,v10o.2.2.1.2.2.2.2.2.2.2.2.2.2.2.2.2.2.2.2.2.1,v10o.2.2.1.2.2.2.2.2.2.2.2.2.2.2.2.2.2.2.2.2.2.1,v10o.2.2.1.2.2.2.2.2.2.2.2.2.2.2.2.2.2.2.2.2.2.2.1,v10o.2.2.1.2.2.2.2.2.2.2.2.2.2.2.2.2.2.2.2.2.2.2.2.1,v10o.2.2.1.2.2.2.2.2.2.2.2.2.2.2.2.2.2.2.2.2.2.2.2.2.1,v10o.2.2.1.2.2.2.2.2.2.2.2.2.2.2.2.2.2.2.2.2.2.2.2.2.2.1,v10o.2.2.1.2.2.2.2.2.2.2.2.2.2.2.2.2.2.2.2.2.2.2.2.2.2.2.1,v10o.2.2.1.2.2.2.2.2.2.2.2.2.2.2.2.2.2.2.2.2.2.2.2.2.2.2.2.1,v10o.2.2.1.2.2.2.2.2.2.2.2.2.2.2.2.2.2.2.2.2.2.2.2.2.2.2.2.2.1,v10o.2.2.1.2.2.2.2.2.2.2.2.2.2.2.2.2.2.2.2.2.2.2.2.2.2.2.2.2.2.1,s_6,())
 let v19o:=(uL8 v12o.1 () s_7)
 let s_10:=(v19o.2.2.1.2.2.2.2.2.2.2.2.2.2.2.2.2.2.2.2.2.2.2.2.2.2.2.2.2.2.2.1.1,v19o.2.2.1.2.2.2.2.2.2.2.2.2.2.2.2.2.2.2.2.2.2.2.2.2.2.2.2.2.2.2.1.2.1,v19o.2.2.1.2.2.2.2.2.2.2.2.2.2.2.2.2.2.2.2.2.2.2.2.2.2.2.2.2.2.2.1.2.2.1,v19o.2.2.1.2.2.2.2.2.2.2.2.2.2.2.2.2.2.2.2.2.2.2.2.2.2.2.2.2.2.2.1.2.2.2.1,())
 let s_11:=(v19o.2.2.1.1,v19o.2.2.1.2.1,v19o.2.2.1.2.2.1,v19o.2.2.1.2.2.2.1,v19o.2.2.1.2.2.2.2.1,v19o.2.2.1.2.2.2.2.2.1,v19o.2.2.1.2.2.2.2.2.2.1,v19o.2.2.1.2.2.2.2.2.2.2.1,v19o.2.2.1.2.2.2.2.2.2.2.2.1,(v19o.2.2.1.2.2.2.2.2.2.2.2.2.1.1,v19o.2.2.1.2.2.2.2.2.2.2.2.2.1.2.1,v19o.2.2.1.2.2.2.2.2.2.2.2.2.1.2.2.1,()),v19o.2.2.1.2.2.2.2.2.2.2.2.2.2.1,v19o.2.2.1.2.2.2.2.2.2.2.2.2.2.2.1,(v19o.2.2.1.2.2.2.2.2.2.2.2.2.2.2.2.1.1,v19o.2.2.1.2.2.2.2.2.2.2.2.2.2.2.2.1.2.1,v19o.2.2.1.2.2.2.2.2.2.2.2.2.2.2.2.1.2.2.1,()),v19o.2.2.1.2.2.2.2.2.2.2.2.2.2.2.2.2.1,v19o.2.2.1.2.2.2.2.2.2.2.2.2.2.2.2.2.2.1,v19o.2.2.1.2.2.2.2.2.2.2.2.2.2.2.2.2.2.2.1,v19o.2.2.1.2.2.2.2.2.2.2.2.2.2.2.2.2.2.2.2.1,v19o.2.2.1.2.2.2.2.2.2.2.2.2.2.2.2.2.2.2.2.2.1,v19o.2.2.1.2.2.2.2.2.2.2.2.2.2.2.2.2.2.2.2.2.2.1,v19o.2.2.1.2.2.2.2.2.2.2.2.2.2.2.2.2.2.2.2.2.2.2.1,v19o.2.2.1.2.2.2.2.2.2.2.2.2.2.2.2.2.2.2.2.2.2.2.2.1,v19o.2.2.1.2.2.2.2.2.2.2.2.2.2.2.2.2.2.2.2.2.2.2.2.2.1,v19o.2.2.1.2.2.2.2.2.2.2.2.2.2.2.2.2.2.2.2.2.2.2.2.2.2.1,v19o.2.2.1.2.2.2.2.2.2.2.2.2.2.2.2.2.2.2.2.2.2.2.2.2.2.2.1,v19o.2.2.1.2.2.2.2.2.2.2.2.2.2.2.2.2.2.2.2.2.2.2.2.2.2.2.2.1,v19o.2.2.1.2.2.2.2.2.2.2.2.2.2.2.2.2.2.2.2.2.2.2.2.2.2.2.2.2.1,v19o.2.2.1.2.2.2.2.2.2.2.2.2.2.2.2.2.2.2.2.2.2.2.2.2.2.2.2.2.2.1,s_10,())
 let v24o:=(uL9 v19o.1 () s_11)
 let v26o:=(wZ0 v24o.1)
 let s_13:=(v24o.2.2.1.2.2.2.2.2.2.2.2.2.2.2.2.2.2.2.2.2.2.2.2.2.2.2.2.2.2.2.1.1,v24o.2.2.1.2.2.2.2.2.2.2.2.2.2.2.2.2.2.2.2.2.2.2.2.2.2.2.2.2.2.2.1.2.1,v24o.2.2.1.2.2.2.2.2.2.2.2.2.2.2.2.2.2.2.2.2.2.2.2.2.2.2.2.2.2.2.1.2.2.1,v24o.2.2.1.2.2.2.2.2.2.2.2.2.2.2.2.2.2.2.2.2.2.2.2.2.2.2.2.2.2.2.1.2.2.2.1,())
 let s_14:=(v24o.2.2.1.1,v24o.2.2.1.2.1,v24o.2.2.1.2.2.1,v24o.2.2.1.2.2.2.1,v24o.2.2.1.2.2.2.2.1,v24o.2.2.1.2.2.2.2.2.1,v24o.2.2.1.2.2.2.2.2.2.1,v24o.2.2.1.2.2.2.2.2.2.2.1,v24o.2.2.1.2.2.2.2.2.2.2.2.1,(vP0 v24o.1),v24o.2.2.1.2.2.2.2.2.2.2.2.2.2.1,v24o.2.2.1.2.2.2.2.2.2.2.2.2.2.2.1,(v24o.2.2.1.2.2.2.2.2.2.2.2.2.2.2.2.1.1,v24o.2.2.1.2.2.2.2.2.2.2.2.2.2.2.2.1.2.1,v24o.2.2.1.2.2.2.2.2.2.2.2.2.2.2.2.1.2.2.1,()),v24o.2.2.1.2.2.2.2.2.2.2.2.2.2.2.2.2.1,v24o.2.2.1.2.2.2.2.2.2.2.2.2.2.2.2.2.2.1,v24o.2.2.1.2.2.2.2.2.2.2.2.2.2.2.2.2.2.2.1,v24o.2.2.1.2.2.2.2.2.2.2.2.2.2.2.2.2.2.2.2.1,v24o.2.2.1.2.2.2.2.2.2.2.2.2.2.2.2.2.2.2.2.2.1,v24o.2.2.1.2.2.2.2.2.2.2.2.2.2.2.2.2.2.2.2.2.2.1,v24o.2.2.1.2.2.2.2.2.2.2.2.2.2.2.2.2.2.2.2.2.2.2.1,v24o.2.2.1.2.2.2.2.2.2.2.2.2.2.2.2.2.2.2.2.2.2.2.2.1,v24o.2.2.1.2.2.2.2.2.2.2.2.2.2.2.2.2.2.2.2.2.2.2.2.2.1,v24o.2.2.1.2.2.2.2.2.2.2.2.2.2.2.2.2.2.2.2.2.2.2.2.2.2.1,v24o.2.2.1.2.2.2.2.2.2.2.2.2.2.2.2.2.2.2.2.2.2.2.2.2.2.2.1,v24o.2.2.1.2.2.2.2.2.2.2.2.2.2.2.2.2.2.2.2.2.2.2.2.2.2.2.2.1,v24o.2.2.1.2.2.2.2.2.2.2.2.2.2.2.2.2.2.2.2.2.2.2.2.2.2.2.2.2.1,v24o.2.2.1.2.2.2.2.2.2.2.2.2.2.2.2.2.2.2.2.2.2.2.2.2.2.2.2.2.2.1,s_13,())
 let v43o:=(uM v26o.1 () s_14)
 let v45o:=(vB1 v43o.1)
 let s_15:=(v43o.2.2.1.2.2.2.2.2.2.2.2.2.2.2.2.2.2.2.2.2.2.2.2.2.2.2.2.2.2.2.1.1,v43o.2.2.1.2.2.2.2.2.2.2.2.2.2.2.2.2.2.2.2.2.2.2.2.2.2.2.2.2.2.2.1.2.1,v43o.2.2.1.2.2.2.2.2.2.2.2.2.2.2.2.2.2.2.2.2.2.2.2.2.2.2.2.2.2.2.1.2.2.1,v43o.2.2.1.2.2.2.2.2.2.2.2.2.2.2.2.2.2.2.2.2.2.2.2.2.2.2.2.2.2.2.1.2.2.2.1,())
 let s_16:=(v43o.2.2.1.1,v43o.2.2.1.2.1,v43o.2.2.1.2.2.1,v43o.2.2.1.2.2.2.1,v43o.2.2.1.2.2.2.2.1,v43o.2.2.1.2.2.2.2.2.1,v43o.2.2.1.2.2.2.2.2.2.1,v43o.2.2.1.2.2.2.2.2.2.2.1,v43o.2.2.1.2.2.2.2.2.2.2.2.1,v43o.2.2.1.2.2.2.2.2.2.2.2.2.1,v43o.2.2.1.2.2.2.2.2.2.2.2.2.2.1,v43o.2.2.1.2.2.2.2.2.2.2.2.2.2.2.1,(vT1 v43o.1),v43o.2.2.1.2.2.2.2.2.2.2.2.2.2.2.2.2.1,v43o.2.2.1.2.2.2.2.2.2.2.2.2.2.2.2.2.2.1,v43o.2.2.1.2.2.2.2.2.2.2.2.2.2.2.2.2.2.2.1,v43o.2.2.1.2.2.2.2.2.2.2.2.2.2.2.2.2.2.2.2.1,v43o.2.2.1.2.2.2.2.2.2.2.2.2.2.2.2.2.2.2.2.2.1,v43o.2.2.1.2.2.2.2.2.2.2.2.2.2.2.2.2.2.2.2.2.2.1,v43o.2.2.1.2.2.2.2.2.2.2.2.2.2.2.2.2.2.2.2.2.2.2.1,v43o.2.2.1.2.2.2.2.2.2.2.2.2.2.2.2.2.2.2.2.2.2.2.2.1,v43o.2.2.1.2.2.2.2.2.2.2.2.2.2.2.2.2.2.2.2.2.2.2.2.2.1,v43o.2.2.1.2.2.2.2.2.2.2.2.2.2.2.2.2.2.2.2.2.2.2.2.2.2.1,v43o.2.2.1.2.2.2.2.2.2.2.2.2.2.2.2.2.2.2.2.2.2.2.2.2.2.2.1,v43o.2.2.1.2.2.2.2.2.2.2.2.2.2.2.2.2.2.2.2.2.2.2.2.2.2.2.2.1,v43o.2.2.1.2.2.2.2.2.2.2.2.2.2.2.2.2.2.2.2.2.2.2.2.2.2.2.2.2.1,v43o.2.2.1.2.2.2.2.2.2.2.2.2.2.2.2.2.2.2.2.2.2.2.2.2.2.2.2.2.2.1,s_15,())
 let v58o:=(uM0 v45o.1 () s_16)
 let v60o:=(vC3 v58o.1 (16:Int))
 let s_17:=(v58o.2.2.1.2.2.2.2.2.2.2.2.2.2.2.2.2.2.2.2.2.2.2.2.2.2.2.2.2.2.2.1.1,v58o.2.2.1.2.2.2.2.2.2.2.2.2.2.2.2.2.2.2.2.2.2.2.2.2.2.2.2.2.2.2.1.2.1,v58o.2.2.1.2.2.2.2.2.2.2.2.2.2.2.2.2.2.2.2.2.2.2.2.2.2.2.2.2.2.2.1.2.2.1,v58o.2.2.1.2.2.2.2.2.2.2.2.2.2.2.2.2.2.2.2.2.2.2.2.2.2.2.2.2.2.2.1.2.2.2.1,())
 let s_18:=(v58o.2.2.1.1,v58o.2.2.1.2.1,v58o.2.2.1.2.2.1,v58o.2.2.1.2.2.2.1,v58o.2.2.1.2.2.2.2.1,v58o.2.2.1.2.2.2.2.2.1,v58o.2.2.1.2.2.2.2.2.2.1,v58o.2.2.1.2.2.2.2.2.2.2.1,v58o.2.2.1.2.2.2.2.2.2.2.2.1,v58o.2.2.1.2.2.2.2.2.2.2.2.2.1,v58o.2.2.1.2.2.2.2.2.2.2.2.2.2.1,v58o.2.2.1.2.2.2.2.2.2.2.2.2.2.2.1,v58o.2.2.1.2.2.2.2.2.2.2.2.2.2.2.2.1,v58o.2.2.1.2.2.2.2.2.2.2.2.2.2.2.2.2.1,v58o.2.2.1.2.2.2.2.2.2.2.2.2.2.2.2.2.2.1,(vQ1 v58o.1 (16:Int)),v58o.2.2.1.2.2.2.2.2.2.2.2.2.2.2.2.2.2.2.2.1,v58o.2.2.1.2.2.2.2.2.2.2.2.2.2.2.2.2.2.2.2.2.1,v58o.2.2.1.2.2.2.2.2.2.2.2.2.2.2.2.2.2.2.2.2.2.1,v58o.2.2.1.2.2.2.2.2.2.2.2.2.2.2.2.2.2.2.2.2.2.2.1,v58o.2.2.1.2.2.2.2.2.2.2.2.2.2.2.2.2.2.2.2.2.2.2.2.1,v58o.2.2.1.2.2.2.2.2.2.2.2.2.2.2.2.2.2.2.2.2.2.2.2.2.1,v58o.2.2.1.2.2.2.2.2.2.2.2.2.2.2.2.2.2.2.2.2.2.2.2.2.2.1,v58o.2.2.1.2.2.2.2.2.2.2.2.2.2.2.2.2.2.2.2.2.2.2.2.2.2.2.1,v58o.2.2.1.2.2.2.2.2.2.2.2.2.2.2.2.2.2.2.2.2.2.2.2.2.2.2.2.1,v58o.2.2.1.2.2.2.2.2.2.2.2.2.2.2.2.2.2.2.2.2.2.2.2.2.2.2.2.2.1,v58o.2.2.1.2.2.2.2.2.2.2.2.2.2.2.2.2.2.2.2.2.2.2.2.2.2.2.2.2.2.1,s_17,())
 let v65o:=(uM1 v60o.1 () s_18)
 let s_21:=(v65o.2.2.1.2.2.2.2.2.2.2.2.2.2.2.2.2.2.2.2.2.2.2.2.2.2.2.2.2.2.2.1.1,v65o.2.2.1.2.2.2.2.2.2.2.2.2.2.2.2.2.2.2.2.2.2.2.2.2.2.2.2.2.2.2.1.2.1,v65o.2.2.1.2.2.2.2.2.2.2.2.2.2.2.2.2.2.2.2.2.2.2.2.2.2.2.2.2.2.2.1.2.2.1,v65o.2.2.1.2.2.2.2.2.2.2.2.2.2.2.2.2.2.2.2.2.2.2.2.2.2.2.2.2.2.2.1.2.2.2.1,())
 let s_22:=(v65o.2.2.1.1,v65o.2.2.1.2.1,v65o.2.2.1.2.2.1,v65o.2.2.1.2.2.2.1,v65o.2.2.1.2.2.2.2.1,v65o.2.2.1.2.2.2.2.2.1,v65o.2.2.1.2.2.2.2.2.2.1,v65o.2.2.1.2.2.2.2.2.2.2.1,v65o.2.2.1.2.2.2.2.2.2.2.2.1,v65o.2.2.1.2.2.2.2.2.2.2.2.2.1,v65o.2.2.1.2.2.2.2.2.2.2.2.2.2.1,v65o.2.2.1.2.2.2.2.2.2.2.2.2.2.2.1,v65o.2.2.1.2.2.2.2.2.2.2.2.2.2.2.2.1,v65o.2.2.1.2.2.2.2.2.2.2.2.2.2.2.2.2.1,v65o.2.2.1.2.2.2.2.2.2.2.2.2.2.2.2.2.2.1,v65o.2.2.1.2.2.2.2.2.2.2.2.2.2.2.2.2.2.2.1,v65o.2.2.1.2.2.2.2.2.2.2.2.2.2.2.2.2.2.2.2.1,v65o.2.2.1.2.2.2.2.2.2.2.2.2.2.2.2.2.2.2.2.2.1,v65o.2.2.1.2.2.2.2.2.2.2.2.2.2.2.2.2.2.2.2.2.2.1,v65o.2.2.1.2.2.2.2.2.2.2.2.2.2.2.2.2.2.2.2.2.2.2.1,v65o.2.2.1.2.2.2.2.2.2.2.2.2.2.2.2.2.2.2.2.2.2.2.2.1,v65o.2.2.1.2.2.2.2.2.2.2.2.2.2.2.2.2.2.2.2.2.2.2.2.2.1,v65o.2.2.1.2.2.2.2.2.2.2.2.2.2.2.2.2.2.2.2.2.2.2.2.2.2.1,v65o.2.2.1.2.2.2.2.2.2.2.2.2.2.2.2.2.2.2.2.2.2.2.2.2.2.2.1,v65o.2.2.1.2.2.2.2.2.2.2.2.2.2.2.2.2.2.2.2.2.2.2.2.2.2.2.2.1,v65o.2.2.1.2.2.2.2.2.2.2.2.2.2.2.2.2.2.2.2.2.2.2.2.2.2.2.2.2.1,v65o.2.2.1.2.2.2.2.2.2.2.2.2.2.2.2.2.2.2.2.2.2.2.2.2.2.2.2.2.2.1,s_21,())
 let v67o:=(vI5 v65o.1 s_22)
 let s_23:=(v67o.2.1.2.2.2.2.2.2.2.2.2.2.2.2.2.2.2.2.2.2.2.2.2.2.2.2.2.2.2.1.1,v67o.2.1.2.2.2.2.2.2.2.2.2.2.2.2.2.2.2.2.2.2.2.2.2.2.2.2.2.2.2.1.2.1,v67o.2.1.2.2.2.2.2.2.2.2.2.2.2.2.2.2.2.2.2.2.2.2.2.2.2.2.2.2.2.1.2.2.1,v67o.2.1.2.2.2.2.2.2.2.2.2.2.2.2.2.2.2.2.2.2.2.2.2.2.2.2.2.2.2.1.2.2.2.1,())
 let s_24:=(v67o.2.1.1,v67o.2.1.2.1,v67o.2.1.2.2.1,v67o.2.1.2.2.2.1,v67o.2.1.2.2.2.2.1,v67o.2.1.2.2.2.2.2.1,v67o.2.1.2.2.2.2.2.2.1,v67o.2.1.2.2.2.2.2.2.2.1,v67o.2.1.2.2.2.2.2.2.2.2.1,v67o.2.1.2.2.2.2.2.2.2.2.2.1,v67o.2.1.2.2.2.2.2.2.2.2.2.2.1,v67o.2.1.2.2.2.2.2.2.2.2.2.2.2.1,v67o.2.1.2.2.2.2.2.2.2.2.2.2.2.2.1,v67o.2.1.2.2.2.2.2.2.2.2.2.2.2.2.2.1,v67o.2.1.2.2.2.2.2.2.2.2.2.2.2.2.2.2.1,v67o.2.1.2.2.2.2.2.2.2.2.2.2.2.2.2.2.2.1,v67o.2.1.2.2.2.2.2.2.2.2.2.2.2.2.2.2.2.2.1,v67o.2.1.2.2.2.2.2.2.2.2.2.2.2.2.2.2.2.2.2.1,v67o.2.1.2.2.2.2.2.2.2.2.2.2.2.2.2.2.2.2.2.2.1,v67o.2.1.2.2.2.2.2.2.2.2.2.2.2.2.2.2.2.2.2.2.2.1,v67o.2.1.2.2.2.2.2.2.2.2.2.2.2.2.2.2.2.2.2.2.2.2.1,v67o.2.1.2.2.2.2.2.2.2.2.2.2.2.2.2.2.2.2.2.2.2.2.2.1,v67o.2.1.2.2.2.2.2.2.2.2.2.2.2.2.2.2.2.2.2.2.2.2.2.2.1,v67o.2.1.2.2.2.2.2.2.2.2.2.2.2.2.2.2.2.2.2.2.2.2.2.2.2.1,v67o.2.1.2.2.2.2.2.2.2.2.2.2.2.2.2.2.2.2.2.2.2.2.2.2.2.2.1,v67o.2.1.2.2.2.2.2.2.2.2.2.2.2.2.2.2.2.2.2.2.2.2.2.2.2.2.2.1,v67o.2.1.2.2.2.2.2.2.2.2.2.2.2.2.2.2.2.2.2.2.2.2.2.2.2.2.2.2.1,s_23,())
 let v74o:=(uM6 v67o.1 () s_24)
 let v76o:=(wV5 v74o.1 (256:Int))
 let s_25:=(v74o.2.2.1.2.2.2.2.2.2.2.2.2.2.2.2.2.2.2.2.2.2.2.2.2.2.2.2.2.2.2.1.1,v74o.2.2.1.2.2.2.2.2.2.2.2.2.2.2.2.2.2.2.2.2.2.2.2.2.2.2.2.2.2.2.1.2.1,v74o.2.2.1.2.2.2.2.2.2.2.2.2.2.2.2.2.2.2.2.2.2.2.2.2.2.2.2.2.2.2.1.2.2.1,v74o.2.2.1.2.2.2.2.2.2.2.2.2.2.2.2.2.2.2.2.2.2.2.2.2.2.2.2.2.2.2.1.2.2.2.1,())
 let s_26:=(v74o.2.2.1.1,v74o.2.2.1.2.1,v74o.2.2.1.2.2.1,v74o.2.2.1.2.2.2.1,v74o.2.2.1.2.2.2.2.1,v74o.2.2.1.2.2.2.2.2.1,v74o.2.2.1.2.2.2.2.2.2.1,v74o.2.2.1.2.2.2.2.2.2.2.1,v74o.2.2.1.2.2.2.2.2.2.2.2.1,v74o.2.2.1.2.2.2.2.2.2.2.2.2.1,v74o.2.2.1.2.2.2.2.2.2.2.2.2.2.1,v74o.2.2.1.2.2.2.2.2.2.2.2.2.2.2.1,v74o.2.2.1.2.2.2.2.2.2.2.2.2.2.2.2.1,v74o.2.2.1.2.2.2.2.2.2.2.2.2.2.2.2.2.1,v74o.2.2.1.2.2.2.2.2.2.2.2.2.2.2.2.2.2.1,v74o.2.2.1.2.2.2.2.2.2.2.2.2.2.2.2.2.2.2.1,v74o.2.2.1.2.2.2.2.2.2.2.2.2.2.2.2.2.2.2.2.1,v74o.2.2.1.2.2.2.2.2.2.2.2.2.2.2.2.2.2.2.2.2.1,v74o.2.2.1.2.2.2.2.2.2.2.2.2.2.2.2.2.2.2.2.2.2.1,v74o.2.2.1.2.2.2.2.2.2.2.2.2.2.2.2.2.2.2.2.2.2.2.1,v74o.2.2.1.2.2.2.2.2.2.2.2.2.2.2.2.2.2.2.2.2.2.2.2.1,v74o.2.2.1.2.2.2.2.2.2.2.2.2.2.2.2.2.2.2.2.2.2.2.2.2.1,v74o.2.2.1.2.2.2.2.2.2.2.2.2.2.2.2.2.2.2.2.2.2.2.2.2.2.1,(vH0 v74o.1 (256:Int)),v74o.2.2.1.2.2.2.2.2.2.2.2.2.2.2.2.2.2.2.2.2.2.2.2.2.2.2.2.1,v74o.2.2.1.2.2.2.2.2.2.2.2.2.2.2.2.2.2.2.2.2.2.2.2.2.2.2.2.2.1,v74o.2.2.1.2.2.2.2.2.2.2.2.2.2.2.2.2.2.2.2.2.2.2.2.2.2.2.2.2.2.1,s_25,())
 let v89o:=(uD7 v76o.1 () s_26)
 let s_30:=((0:Int),(0:Int),(0:Int),([]:List UInt8),false,false,false,(0:Int),(0:Int),((0:Int),(0:Int),([]:List Int),()),Z43,(0:Int),((0:Int),(0:Int),([]:List D45),()),Z45,(0:Int),([]:List Int),(0:Int),([]:List D111),([]:List D114),(0:Int),(0:Int),(0:Int),(0:Int),([]:List UInt8),(0:Int),(0:Int),(0:Int),((0:Int),(0:Int),(0:Int),([]:List D106),()),())
 let s_31:=(v89o.2.2.1.2.2.2.2.2.2.2.2.2.2.2.2.2.2.2.2.2.2.2.2.2.2.2.2.2.2.2.1.1,v89o.2.2.1.2.2.2.2.2.2.2.2.2.2.2.2.2.2.2.2.2.2.2.2.2.2.2.2.2.2.2.1.2.1,v89o.2.2.1.2.2.2.2.2.2.2.2.2.2.2.2.2.2.2.2.2.2.2.2.2.2.2.2.2.2.2.1.2.2.1,v89o.2.2.1.2.2.2.2.2.2.2.2.2.2.2.2.2.2.2.2.2.2.2.2.2.2.2.2.2.2.2.1.2.2.2.1,())
 let s_32:=(v89o.2.2.1.1,v89o.2.2.1.2.1,v89o.2.2.1.2.2.1,v89o.2.2.1.2.2.2.1,v89o.2.2.1.2.2.2.2.1,v89o.2.2.1.2.2.2.2.2.1,v89o.2.2.1.2.2.2.2.2.2.1,v89o.2.2.1.2.2.2.2.2.2.2.1,v89o.2.2.1.2.2.2.2.2.2.2.2.1,v89o.2.2.1.2.2.2.2.2.2.2.2.2.1,v89o.2.2.1.2.2.2.2.2.2.2.2.2.2.1,v89o.2.2.1.2.2.2.2.2.2.2.2.2.2.2.1,v89o.2.2.1.2.2.2.2.2.2.2.2.2.2.2.2.1,v89o.2.2.1.2.2.2.2.2.2.2.2.2.2.2.2.2.1,v89o.2.2.1.2.2.2.2.2.2.2.2.2.2.2.2.2.2.1,v89o.2.2.1.2.2.2.2.2.2.2.2.2.2.2.2.2.2.2.1,v89o.2.2.1.2.2.2.2.2.2.2.2.2.2.2.2.2.2.2.2.1,v89o.2.2.1.2.2.2.2.2.2.2.2.2.2.2.2.2.2.2.2.2.1,v89o.2.2.1.2.2.2.2.2.2.2.2.2.2.2.2.2.2.2.2.2.2.1,v89o.2.2.1.2.2.2.2.2.2.2.2.2.2.2.2.2.2.2.2.2.2.2.1,v89o.2.2.1.2.2.2.2.2.2.2.2.2.2.2.2.2.2.2.2.2.2.2.2.1,v89o.2.2.1.2.2.2.2.2.2.2.2.2.2.2.2.2.2.2.2.2.2.2.2.2.1,v89o.2.2.1.2.2.2.2.2.2.2.2.2.2.2.2.2.2.2.2.2.2.2.2.2.2.1,v89o.2.2.1.2.2.2.2.2.2.2.2.2.2.2.2.2.2.2.2.2.2.2.2.2.2.2.1,v89o.2.2.1.2.2.2.2.2.2.2.2.2.2.2.2.2.2.2.2.2.2.2.2.2.2.2.2.1,v89o.2.2.1.2.2.2.2.2.2.2.2.2.2.2.2.2.2.2.2.2.2.2.2.2.2.2.2.2.1,v89o.2.2.1.2.2.2.2.2.2.2.2.2.2.2.2.2.2.2.2.2.2.2.2.2.2.2.2.2.2.1,s_31,())
 let y17:=(s_30,(wT6 v89o.1 (64:Int)),())
 let x17:=((wT3 v89o.1 (64:Int)).1,s_32,(0:Int),())
 let e17:=(zC5 (wW7 y17) (wV0 y17) x17)
 let r17_2_0:=(vU1 y17 e17)
 let r17_2_1:=(vU2 y17 e17)
 let v109o:=(wZ3 r17_2_0)
 let v110:=((wW0 r17_2_0)!=0)
 let s_35:=((bif v110 then (0:Int) else r17_2_1.2.2.2.2.2.2.2.2.2.2.2.2.2.2.2.2.2.2.2.2.2.2.2.2.2.2.2.1.1),(bif v110 then (0:Int) else r17_2_1.2.2.2.2.2.2.2.2.2.2.2.2.2.2.2.2.2.2.2.2.2.2.2.2.2.2.2.1.2.1),(bif v110 then (0:Int) else r17_2_1.2.2.2.2.2.2.2.2.2.2.2.2.2.2.2.2.2.2.2.2.2.2.2.2.2.2.2.1.2.2.1),(bif v110 then [] else r17_2_1.2.2.2.2.2.2.2.2.2.2.2.2.2.2.2.2.2.2.2.2.2.2.2.2.2.2.2.1.2.2.2.1),())
 let s_36:=((bif v110 then (0:Int) else r17_2_1.1),(bif v110 then (0:Int) else r17_2_1.2.1),(bif v110 then (0:Int) else r17_2_1.2.2.1),(bif v110 then ([]:List UInt8) else r17_2_1.2.2.2.1),(bif v110 then false else r17_2_1.2.2.2.2.1),(bif v110 then false else r17_2_1.2.2.2.2.2.1),(bif v110 then false else r17_2_1.2.2.2.2.2.2.1),(bif v110 then (0:Int) else r17_2_1.2.2.2.2.2.2.2.1),(bif v110 then (0:Int) else r17_2_1.2.2.2.2.2.2.2.2.1),(bif v110 then ((0:Int),(0:Int),([]:List Int),()) else r17_2_1.2.2.2.2.2.2.2.2.2.1),(bif v110 then Z43 else r17_2_1.2.2.2.2.2.2.2.2.2.2.1),(bif v110 then (0:Int) else r17_2_1.2.2.2.2.2.2.2.2.2.2.2.1),(bif v110 then ((0:Int),(0:Int),([]:List D45),()) else r17_2_1.2.2.2.2.2.2.2.2.2.2.2.2.1),(bif v110 then Z45 else r17_2_1.2.2.2.2.2.2.2.2.2.2.2.2.2.1),(bif v110 then (0:Int) else r17_2_1.2.2.2.2.2.2.2.2.2.2.2.2.2.2.1),(bif v110 then [] else r17_2_1.2.2.2.2.2.2.2.2.2.2.2.2.2.2.2.1),(bif v110 then (0:Int) else r17_2_1.2.2.2.2.2.2.2.2.2.2.2.2.2.2.2.2.1),(bif v110 then [] else r17_2_1.2.2.2.2.2.2.2.2.2.2.2.2.2.2.2.2.2.1),(bif v110 then [] else r17_2_1.2.2.2.2.2.2.2.2.2.2.2.2.2.2.2.2.2.2.1),(bif v110 then (0:Int) else r17_2_1.2.2.2.2.2.2.2.2.2.2.2.2.2.2.2.2.2.2.2.1),(bif v110 then (0:Int) else r17_2_1.2.2.2.2.2.2.2.2.2.2.2.2.2.2.2.2.2.2.2.2.1),(bif v110 then (0:Int) else r17_2_1.2.2.2.2.2.2.2.2.2.2.2.2.2.2.2.2.2.2.2.2.2.1),(bif v110 then (0:Int) else r17_2_1.2.2.2.2.2.2.2.2.2.2.2.2.2.2.2.2.2.2.2.2.2.2.1),(bif v110 then ([]:List UInt8) else r17_2_1.2.2.2.2.2.2.2.2.2.2.2.2.2.2.2.2.2.2.2.2.2.2.2.1),(bif v110 then (0:Int) else r17_2_1.2.2.2.2.2.2.2.2.2.2.2.2.2.2.2.2.2.2.2.2.2.2.2.2.1),(bif v110 then (0:Int) else r17_2_1.2.2.2.2.2.2.2.2.2.2.2.2.2.2.2.2.2.2.2.2.2.2.2.2.2.1),(bif v110 then (0:Int) else r17_2_1.2.2.2.2.2.2.2.2.2.2.2.2.2.2.2.2.2.2.2.2.2.2.2.2.2.2.1),s_35,())
 (((vH4 p0 () s_3)∧((wV8 v10o.1 (256:Int))∧((vH5 v12o.1 () s_7)∧((vH6 v19o.1 () s_11)∧((vD v24o.1)∧((vH7 v26o.1 () s_14)∧((vC9 v43o.1)∧((vH8 v45o.1 () s_16)∧((vD2 v58o.1 (16:Int))∧((vH9 v60o.1 () s_18)∧((vB2 v65o.1 s_22)∧((vI0 v67o.1 () s_24)∧((wV8 v74o.1 (256:Int))∧((vD4 v76o.1 () s_26)∧((wV v89o.1 (64:Int))∧((xQ5 (wW7 y17) (wV0 y17) (wX7 y17) x17)∧(wX1 r17_2_0))))))))))))))))),s_36,((bif v110 then v109o.1 else v109o.1),()))
def vX2 p0:=(uO9 p0).1
def uY4 p0:=(uO9 p0).2.1
def uG1 p0:=(uO9 p0).2.2
def tP1:Am.Spec:=fnSpec [(0,(.box T60 (.val T60)))] (.val T52) [(0,(.box T60 (.val T60)))] (fun x=>vX2 x.1) (fun x=>uY4 x.1) (fun x=>uG1 x.1)
theorem sB0:SK 22 (fnSpec [(0,(.box T60 (.val T60)))] (.val T52) [(0,(.box T60 (.val T60)))] (fun x=>vX2 x.1) (fun x=>uY4 x.1) (fun x=>uG1 x.1)):=ft [(0,[0,2]),(1,[0,2,3]),(2,[0,2,3]),(3,[0,2,3]),(4,[0,2,3]),(5,[0,2,3]),(6,[0,2,3]),(7,[0,2,3]),(8,[0,2,3]),(9,[0,2,3]),(10,[0,2,3]),(11,[0,2,3]),(12,[0,2,3]),(13,[0,2,3]),(14,[0,2,3]),(15,[0,2,3]),(16,[0,2,3,91,92]),(17,[0,2,3,91,92,93]),(18,[0,2,3,4,91,92]),(19,[0,2,3,4,91,92]),(20,[0,2,3,91,92]),(21,[0,2,3,91,92]),(22,[0,2,3,110]),(23,[0,2]),(24,[0,2])] 16 (fun c=>{ c with wants:=[(63,[]),(65,[]),(67,[])] }) Tryz.func22 113 [kb tJ,kb tJ2,kb vO0,kb vS4,kb sA0,kb sA2,kb sA3,kb sA4,kb sA5,kb sB,kb tV7,kb tV8,kb tG9,kb sA1,kb sA,kb sA9] [(17,tF4)] [(21,[(4,0,60,400302)]),(41,[(4,0,104,400305)]),(49,[(4,0,400302,400202),(4,0,400303,400203),(4,0,400304,400204),(4,0,400305,400205)])] true [0]
def uY5 (p0:D71)(p1:Int):Prop×(Unit)×(D71×Unit):=
 let v5o:=(vK6 p0)
 ((vH2 p0),(),((bif (vU7 p0) then (v5o.1.1,v5o.1.2.1,p1,v5o.1.2.2.2.1,()) else v5o.1),()))
def vL0 p0 p1:=(uY5 p0 p1).1
def sT1 p0 p1:=(uY5 p0 p1).2.1
def vC6 p0 p1:=(uY5 p0 p1).2.2
instance (p0 p1):Decidable (vL0 p0 p1):=by unfold vL0 uY5;dsimp only;infer_instance
theorem uD8:SK 40 (fnSpec [(0,(.box T71 (.val T71))),(1,vI)] (.tup .nl) [(0,(.box T71 (.val T71)))] (fun x=>vL0 x.1 x.2.1) (fun x=>sT1 x.1 x.2.1) (fun x=>vC6 x.1 x.2.1)):=fb Tryz.func40 10 [kb vV8] [] [] false [0]
abbrev vM9:Type:=(D71×Unit)
abbrev vF9:Type:=(Int×Int×Unit)
def vS0 (y:vM9)(x:vF9):Prop×Bool×vF9:=
 let a0:=y.1
 let a4:=x.2.1
 let v22:=(decide ((IntKind.wrap .i64 (a0.2.1+a4))≥(len a0.1)))
 let v35:=(IntKind.wrap .i64 (a0.2.1+a4))
 let v36:=(wR5 a0.1 v35)
 let v50:=(bif (bif (a4==9) then (decide (v36>1)) else false) then true else (bif (decide (a4>0)) then (v36==0) else false))
 let v59:=(IntKind.wrap .i64 (7*a4))
 (((!v22)=true→(InB v35 (len a0.1)∧((!v50)=true→0≤v59))),((!v22)&&((!v50)&&(!(decide (v36<128))))),((ior .u64 x.1 (IntKind.wrap .u64 (wT0 (IntKind.wrap .u64 (wS9 .u8 v36 (127:Int))) v59 64))),(IntKind.wrap .i64 (a4+1)),()))
def vK0 y x:=(vS0 y x).1
def vN y x:=(vS0 y x).2.1
def vD5 y x:=(vS0 y x).2.2
instance (y x):Decidable (vK0 y x):=by unfold vK0 vS0;dsimp only;infer_instance
def vN9 (y:vM9)(x:vF9):D71:=
 let a0:=y.1
 let a4:=x.2.1
 let v36:=(wR5 a0.1 (IntKind.wrap .i64 (a0.2.1+a4)))
 let m0:=(bif (bif (bif (a4==9) then (decide (v36>1)) else false) then true else (bif (decide (a4>0)) then (v36==0) else false)) then (a0.1,a0.2.1,(4:Int),a0.2.2.2.1,()) else (a0.1,(IntKind.wrap .i64 ((IntKind.wrap .i64 (a0.2.1+a4))+1)),a0.2.2.1,a0.2.2.2.1,()))
 (bif (decide ((IntKind.wrap .i64 (a0.2.1+a4))≥(len a0.1))) then (a0.1,a0.2.1,(5:Int),a0.2.2.2.1,()) else m0)
def vO (y:vM9)(x:vF9):Int:=
 let a0:=y.1
 let a4:=x.2.1
 let v36:=(wR5 a0.1 (IntKind.wrap .i64 (a0.2.1+a4)))
 let m2:=(bif (bif (bif (a4==9) then (decide (v36>1)) else false) then true else (bif (decide (a4>0)) then (v36==0) else false)) then (0:Int) else (ior .u64 x.1 (IntKind.wrap .u64 (wT0 (IntKind.wrap .u64 (wS9 .u8 v36 (127:Int))) (IntKind.wrap .i64 (7*a4)) 64))))
 (bif (decide ((IntKind.wrap .i64 (a0.2.1+a4))≥(len a0.1))) then (0:Int) else m2)
def uR3:List (Nat×Sh):=[(0,(.box T71 (.val T71))),(2,(.val (.int .u64)))]
def tM:=li [(0,(.box T71 (.val T71)))] [(3,(.val (.int .u64))),(4,vI)] vN vD5 vK0 (fun y x=>[ex 1 none uR3 ((vN9 y x),(vO y x),())]) [uR3]
def uP (p0:D71):Prop×Int×(D71×Unit):=
 let v7o:=(vK6 p0)
 let v8:=(!(vU7 p0))
 let y6:=(v7o.1,())
 let x6:=((0:Int),(0:Int),())
 let e6:=(zC5 (vN y6) (vD5 y6) x6)
 (((vH2 p0)∧((!v8)=true→(xQ5 (vN y6) (vD5 y6) (vK0 y6) x6))),(bif v8 then (0:Int) else (vO y6 e6)),((bif v8 then v7o.1 else (vN9 y6 e6)),()))
def vP4 p0:=(uP p0).1
def uA9 p0:=(uP p0).2.1
def vQ8 p0:=(uP p0).2.2
instance (p0):Decidable (vP4 p0):=by unfold vP4 uP;dsimp only;infer_instance
theorem uY6:SK 85 (fnSpec [(0,(.box T71 (.val T71)))] (.val (.int .u64)) [(0,(.box T71 (.val T71)))] (fun x=>vP4 x.1) (fun x=>uA9 x.1) (fun x=>vQ8 x.1)):=fb Tryz.func85 75 [kb vV8] [(6,tM)] [] true [0]
def uY7 (p0:D71)(p1:Int):Prop×Int×(D71×Unit):=
 let v7:=(uA9 p0)
 let v7o:=(vQ8 p0)
 let v12:=(decide (v7>(IntKind.wrap .u64 (wQ1 p1 (0:Int)))))
 (((vP4 p0)∧(v12=true→(vL0 v7o.1 (3:Int)))),(bif v12 then (0:Int) else (IntKind.wrap .i64 v7)),((bif v12 then (vC6 v7o.1 (3:Int)).1 else v7o.1),()))
def wV1 p0 p1:=(uY7 p0 p1).1
def wU7 p0 p1:=(uY7 p0 p1).2.1
def wT7 p0 p1:=(uY7 p0 p1).2.2
instance (p0 p1):Decidable (wV1 p0 p1):=by unfold wV1 uY7;dsimp only;infer_instance
theorem vP5:SK 39 (fnSpec [(0,(.box T71 (.val T71))),(1,vI)] vI [(0,(.box T71 (.val T71)))] (fun x=>wV1 x.1 x.2.1) (fun x=>wU7 x.1 x.2.1) (fun x=>wT7 x.1 x.2.1)):=fb Tryz.func39 17 [kb uD8,kb uY6] [] [] true [0]
def tF5 (p0:D71):Prop×(Int×Int×Unit)×(D71×Unit):=
 let v7:=(wU7 p0 (256:Int))
 let v7o:=(wT7 p0 (256:Int))
 let v9:=(wU7 v7o.1 (256:Int))
 let v9o:=(wT7 v7o.1 (256:Int))
 let v14:=(!(Ty.eqb .bool (v7==0) (v9==0)))
 (((wV1 p0 (256:Int))∧((wV1 v7o.1 (256:Int))∧(v14=true→(vL0 v9o.1 (4:Int))))),(v7,v9,()),((bif v14 then (vC6 v9o.1 (4:Int)).1 else v9o.1),()))
def uD9 p0:=(tF5 p0).1
def vI1 p0:=(tF5 p0).2.1
def vZ6 p0:=(tF5 p0).2.2
instance (p0):Decidable (uD9 p0):=by unfold uD9 tF5;dsimp only;infer_instance
theorem tM0:SK 37 (fnSpec [(0,(.box T71 (.val T71)))] (.tup (.cons vI (.cons vI .nl))) [(0,(.box T71 (.val T71)))] (fun x=>uD9 x.1) (fun x=>vI1 x.1) (fun x=>vZ6 x.1)):=fb Tryz.func37 19 [kb vP5,kb uD8] [] [] false [0]
abbrev vP6:Type:=(D71×(Int×Int×(List D45)×Unit)×Int×Int×Int×D45×Unit)
abbrev vG:Type:=((Int×Int×(List D45)×Unit)×Int×Unit)
def vZ7 (y:vP6)(x:vG):Prop×Bool×vG:=
 let a5:=x.1
 let a8:=x.2.1
 let v73:=(decide (a8<y.2.2.2.2.1))
 let v79:=([y.2.2.2.2.2.1]:List D45)
 ((v73=true→(((List.length a5.2.2.1+List.length v79:Nat):Int)≤4294967296∧InR (a8+1))),v73,((a5.1,a5.2.1,(a5.2.2.1++v79),()),(a8+1),()))
def vG9 y x:=(vZ7 y x).1
def vK1 y x:=(vZ7 y x).2.1
def vB3 y x:=(vZ7 y x).2.2
instance (y x):Decidable (vG9 y x):=by unfold vG9 vZ7;dsimp only;infer_instance
def uE (y:vP6)(x:vG):(Int×Int×(List D45)×Unit):=
 let a5:=x.1
 (a5.1,a5.2.1,a5.2.2.1,())
def uN:List (Nat×Sh):=[(0,(.box T71 (.val T71))),(2,(.box T23 (.agg (.cons (.int .i64) (.cons (.int .i64) (.cons (.sl T45) .nl))) (.cons vI (.cons vI (.cons (.own T45 400200 false) .nl)))))),(3,vI),(4,vI),(5,(.box T23 (.agg (.cons (.int .i64) (.cons (.int .i64) (.cons (.sl T45) .nl))) (.cons vI (.cons vI (.cons (.own T45 400500 false) .nl))))))]
def tF6:=li [(0,(.box T71 (.val T71))),(2,(.box T23 (.agg (.cons (.int .i64) (.cons (.int .i64) (.cons (.sl T45) .nl))) (.cons vI (.cons vI (.cons (.own T45 400200 false) .nl)))))),(3,vI),(4,vI),(6,vI),(7,(.box T45 (.val T45)))] [(5,(.box T23 (.agg (.cons (.int .i64) (.cons (.int .i64) (.cons (.sl T45) .nl))) (.cons vI (.cons vI (.cons (.own T45 400500 false) .nl)))))),(8,vI)] vK1 vB3 vG9 (fun y x=>[ex 4 none uN (y.1,y.2.1,y.2.2.1,y.2.2.2.1,(uE y x),())]) [uN]
abbrev vJ:Type:=(Int×Int×Unit)
abbrev wY9:Type:=(D71×(Int×Int×(List D45)×Unit)×(Int×Int×(List D45)×Unit)×Unit)
def vS1 (y:vJ)(x:wY9):Prop×Bool×wY9:=
 let a3:=y.1
 let a4:=y.2.1
 let a0:=x.1
 let a2:=x.2.1
 let a5:=x.2.2.1
 let v18o:=(vI4 a0)
 let v19:=((wZ1 a0)==0)
 let v28:=(bif v19 then (decide ((len a5.2.2.1)<(a3*a4))) else false)
 let v32:=(a3*a4)
 let v35:=(len a5.2.2.1)
 let v36:=(v32-v35)
 let v37:=(v36-1)
 let v38:=(wU7 v18o.1 v37)
 let v38o:=(wT7 v18o.1 v37)
 let v42o:=(wT7 v38o.1 (65535:Int))
 let v45o:=(wT7 v42o.1 (65535:Int))
 let v48o:=(wT7 v45o.1 (65535:Int))
 let v51o:=(wT7 v48o.1 (65535:Int))
 let s_4:=((wU7 v38o.1 (65535:Int)),(wU7 v42o.1 (65535:Int)),(wU7 v45o.1 (65535:Int)),(wU7 v48o.1 (65535:Int)),())
 let v56:=(decide ((len a5.2.2.1)>0))
 let v62:=(len a5.2.2.1)
 let v63:=(v62-1)
 let v68:=(bif v56 then (Ty.eqb T45 (nth a5.2.2.1 v63 Z45) s_4) else false)
 let m0:=(bif v68 then (vC6 v51o.1 (4:Int)).1 else v51o.1)
 let y13:=(m0,(a2.1,a2.2.1,a2.2.2.1,()),a3,a4,(v38+1),s_4,())
 let x13:=((a5.1,a5.2.1,a5.2.2.1,()),(0:Int),())
 let r13_4_0:=(uE y13 (zC5 (vK1 y13) (vB3 y13) x13))
 (((vE0 a0)∧((v19=true→InR (a3*a4))∧(v28=true→(InR (a3*a4)∧(InR (v32-v35)∧(InR (v36-1)∧((wV1 v18o.1 v37)∧(InR (v38+1)∧((wV1 v38o.1 (65535:Int))∧((wV1 v42o.1 (65535:Int))∧((wV1 v45o.1 (65535:Int))∧((wV1 v48o.1 (65535:Int))∧((v56=true→InR (v62-1))∧((v56=true→InB v63 (len a5.2.2.1))∧((v68=true→(vL0 v51o.1 (4:Int)))∧(xQ5 (vK1 y13) (vB3 y13) (vG9 y13) x13)))))))))))))))),v28,(m0,(a2.1,a2.2.1,a2.2.2.1,()),(r13_4_0.1,r13_4_0.2.1,r13_4_0.2.2.1,()),()))
def wZ5 y x:=(vS1 y x).1
def vC7 y x:=(vS1 y x).2.1
def wY0 y x:=(vS1 y x).2.2
instance (y x):Decidable (wZ5 y x):=by unfold wZ5 vS1;dsimp only;infer_instance
def wW5 (y:vJ)(x:wY9):D71:=
 (vI4 x.1).1
def tA9 (y:vJ)(x:wY9):(Int×Int×(List D45)×Unit):=
 let a2:=x.2.1
 (a2.1,a2.2.1,a2.2.2.1,())
def wV9 (y:vJ)(x:wY9):(Int×Int×(List D45)×Unit):=
 let a5:=x.2.2.1
 (a5.1,a5.2.1,a5.2.2.1,())
def uR4:List (Nat×Sh):=[(0,(.box T71 (.val T71))),(2,(.box T23 (.agg (.cons (.int .i64) (.cons (.int .i64) (.cons (.sl T45) .nl))) (.cons vI (.cons vI (.cons (.own T45 400200 false) .nl)))))),(5,(.box T23 (.agg (.cons (.int .i64) (.cons (.int .i64) (.cons (.sl T45) .nl))) (.cons vI (.cons vI (.cons (.own T45 400500 false) .nl))))))]
def tM1:=li [(3,vI),(4,vI)] [(0,(.box T71 (.val T71))),(2,(.box T23 (.agg (.cons (.int .i64) (.cons (.int .i64) (.cons (.sl T45) .nl))) (.cons vI (.cons vI (.cons (.own T45 400200 false) .nl)))))),(5,(.box T23 (.agg (.cons (.int .i64) (.cons (.int .i64) (.cons (.sl T45) .nl))) (.cons vI (.cons vI (.cons (.own T45 400500 false) .nl))))))] vC7 wY0 wZ5 (fun y x=>[ex 2 none uR4 ((wW5 y x),(tA9 y x),(wV9 y x),())]) [uR4]
def uP0 (p0:D71):Prop×D23×(D71×Unit):=
 let v11:=(vI1 p0)
 let y3:=(v11.1,v11.2.1,())
 let x3:=((vZ6 p0).1,((0:Int),(0:Int),([]:List D45),()),(v11.1,v11.2.1,([]:List D45),()),())
 let e3:=(zC5 (vC7 y3) (wY0 y3) x3)
 let r3_2_0:=(wW5 y3 e3)
 let r3_2_2:=(wV9 y3 e3)
 let v83o:=(vI4 r3_2_0)
 let v84:=((wZ1 r3_2_0)!=0)
 (((uD9 p0)∧((xQ5 (vC7 y3) (wY0 y3) (wZ5 y3) x3)∧(vE0 r3_2_0))),((bif v84 then (0:Int) else r3_2_2.1),(bif v84 then (0:Int) else r3_2_2.2.1),(bif v84 then [] else r3_2_2.2.2.1),()),((bif v84 then v83o.1 else v83o.1),()))
def vG0 p0:=(uP0 p0).1
def uY8 p0:=(uP0 p0).2.1
def uN0 p0:=(uP0 p0).2.2
instance (p0):Decidable (vG0 p0):=by unfold vG0 uP0;dsimp only;infer_instance
theorem sB1:SK 13 (fnSpec [(0,(.box T71 (.val T71)))] (.val T23) [(0,(.box T71 (.val T71)))] (fun x=>vG0 x.1) (fun x=>uY8 x.1) (fun x=>uN0 x.1)):=fb Tryz.func13 87 [kb tM0,kb uB1,kb vP5,kb uD8] [(3,tM1),(13,tF6)] [(31,[(4,0,80,400500)]),(37,[(4,0,400500,400200)])] false [0]
abbrev vU3:Type:=(D71×(Int×Int×(List Int)×Unit)×Int×Int×Int×Int×Unit)
abbrev vJ0:Type:=((Int×Int×(List Int)×Unit)×Int×Unit)
def uG2 (y:vU3)(x:vJ0):Prop×Bool×vJ0:=
 let a5:=x.1
 let a8:=x.2.1
 let v62:=(decide (a8<y.2.2.2.2.1))
 let v68:=([y.2.2.2.2.2.1]:List Int)
 ((v62=true→(((List.length a5.2.2.1+List.length v68:Nat):Int)≤4294967296∧InR (a8+1))),v62,((a5.1,a5.2.1,(a5.2.2.1++v68),()),(a8+1),()))
def vK2 y x:=(uG2 y x).1
def vN0 y x:=(uG2 y x).2.1
def vD6 y x:=(uG2 y x).2.2
instance (y x):Decidable (vK2 y x):=by unfold vK2 uG2;dsimp only;infer_instance
def uI5 (y:vU3)(x:vJ0):(Int×Int×(List Int)×Unit):=
 let a5:=x.1
 (a5.1,a5.2.1,a5.2.2.1,())
def uR5:List (Nat×Sh):=[(0,(.box T71 (.val T71))),(2,(.box T26 (.agg (.cons (.int .i64) (.cons (.int .i64) (.cons (.sl (.int .i64)) .nl))) (.cons vI (.cons vI (.cons (.own (.int .i64) 400200 false) .nl)))))),(3,vI),(4,vI),(5,(.box T26 (.agg (.cons (.int .i64) (.cons (.int .i64) (.cons (.sl (.int .i64)) .nl))) (.cons vI (.cons vI (.cons (.own (.int .i64) 400500 false) .nl))))))]
def tM2:=li [(0,(.box T71 (.val T71))),(2,(.box T26 (.agg (.cons (.int .i64) (.cons (.int .i64) (.cons (.sl (.int .i64)) .nl))) (.cons vI (.cons vI (.cons (.own (.int .i64) 400200 false) .nl)))))),(3,vI),(4,vI),(6,vI),(7,vI)] [(5,(.box T26 (.agg (.cons (.int .i64) (.cons (.int .i64) (.cons (.sl (.int .i64)) .nl))) (.cons vI (.cons vI (.cons (.own (.int .i64) 400500 false) .nl)))))),(8,vI)] vN0 vD6 vK2 (fun y x=>[ex 4 none uR5 (y.1,y.2.1,y.2.2.1,y.2.2.2.1,(uI5 y x),())]) [uR5]
abbrev vJ1:Type:=(Int×Int×Unit)
abbrev wZ:Type:=(D71×(Int×Int×(List Int)×Unit)×(Int×Int×(List Int)×Unit)×Unit)
def vS2 (y:vJ1)(x:wZ):Prop×Bool×wZ:=
 let a3:=y.1
 let a4:=y.2.1
 let a0:=x.1
 let a2:=x.2.1
 let a5:=x.2.2.1
 let v18o:=(vI4 a0)
 let v19:=((wZ1 a0)==0)
 let v28:=(bif v19 then (decide ((len a5.2.2.1)<(a3*a4))) else false)
 let v32:=(a3*a4)
 let v35:=(len a5.2.2.1)
 let v36:=(v32-v35)
 let v37:=(v36-1)
 let v38:=(wU7 v18o.1 v37)
 let v38o:=(wT7 v18o.1 v37)
 let v41:=(wU7 v38o.1 (65535:Int))
 let v41o:=(wT7 v38o.1 (65535:Int))
 let v45:=(decide ((len a5.2.2.1)>0))
 let v51:=(len a5.2.2.1)
 let v52:=(v51-1)
 let v57:=(bif v45 then ((nth a5.2.2.1 v52 (0:Int))==v41) else false)
 let m0:=(bif v57 then (vC6 v41o.1 (4:Int)).1 else v41o.1)
 let y9:=(m0,(a2.1,a2.2.1,a2.2.2.1,()),a3,a4,(v38+1),v41,())
 let x9:=((a5.1,a5.2.1,a5.2.2.1,()),(0:Int),())
 let r9_4_0:=(uI5 y9 (zC5 (vN0 y9) (vD6 y9) x9))
 (((vE0 a0)∧((v19=true→InR (a3*a4))∧(v28=true→(InR (a3*a4)∧(InR (v32-v35)∧(InR (v36-1)∧((wV1 v18o.1 v37)∧(InR (v38+1)∧((wV1 v38o.1 (65535:Int))∧((v45=true→InR (v51-1))∧((v45=true→InB v52 (len a5.2.2.1))∧((v57=true→(vL0 v41o.1 (4:Int)))∧(xQ5 (vN0 y9) (vD6 y9) (vK2 y9) x9))))))))))))),v28,(m0,(a2.1,a2.2.1,a2.2.2.1,()),(r9_4_0.1,r9_4_0.2.1,r9_4_0.2.2.1,()),()))
def wZ6 y x:=(vS2 y x).1
def vC8 y x:=(vS2 y x).2.1
def wY1 y x:=(vS2 y x).2.2
instance (y x):Decidable (wZ6 y x):=by unfold wZ6 vS2;dsimp only;infer_instance
def wW6 (y:vJ1)(x:wZ):D71:=
 (vI4 x.1).1
def tB (y:vJ1)(x:wZ):(Int×Int×(List Int)×Unit):=
 let a2:=x.2.1
 (a2.1,a2.2.1,a2.2.2.1,())
def wW (y:vJ1)(x:wZ):(Int×Int×(List Int)×Unit):=
 let a5:=x.2.2.1
 (a5.1,a5.2.1,a5.2.2.1,())
def uR6:List (Nat×Sh):=[(0,(.box T71 (.val T71))),(2,(.box T26 (.agg (.cons (.int .i64) (.cons (.int .i64) (.cons (.sl (.int .i64)) .nl))) (.cons vI (.cons vI (.cons (.own (.int .i64) 400200 false) .nl)))))),(5,(.box T26 (.agg (.cons (.int .i64) (.cons (.int .i64) (.cons (.sl (.int .i64)) .nl))) (.cons vI (.cons vI (.cons (.own (.int .i64) 400500 false) .nl))))))]
def tM3:=li [(3,vI),(4,vI)] [(0,(.box T71 (.val T71))),(2,(.box T26 (.agg (.cons (.int .i64) (.cons (.int .i64) (.cons (.sl (.int .i64)) .nl))) (.cons vI (.cons vI (.cons (.own (.int .i64) 400200 false) .nl)))))),(5,(.box T26 (.agg (.cons (.int .i64) (.cons (.int .i64) (.cons (.sl (.int .i64)) .nl))) (.cons vI (.cons vI (.cons (.own (.int .i64) 400500 false) .nl))))))] vC8 wY1 wZ6 (fun y x=>[ex 2 none uR6 ((wW6 y x),(tB y x),(wW y x),())]) [uR6]
def uP1 (p0:D71):Prop×D26×(D71×Unit):=
 let v11:=(vI1 p0)
 let y3:=(v11.1,v11.2.1,())
 let x3:=((vZ6 p0).1,((0:Int),(0:Int),([]:List Int),()),(v11.1,v11.2.1,([]:List Int),()),())
 let e3:=(zC5 (vC8 y3) (wY1 y3) x3)
 let r3_2_0:=(wW6 y3 e3)
 let r3_2_2:=(wW y3 e3)
 let v72o:=(vI4 r3_2_0)
 let v73:=((wZ1 r3_2_0)!=0)
 (((uD9 p0)∧((xQ5 (vC8 y3) (wY1 y3) (wZ6 y3) x3)∧(vE0 r3_2_0))),((bif v73 then (0:Int) else r3_2_2.1),(bif v73 then (0:Int) else r3_2_2.2.1),(bif v73 then [] else r3_2_2.2.2.1),()),((bif v73 then v72o.1 else v72o.1),()))
def vG1 p0:=(uP1 p0).1
def uY9 p0:=(uP1 p0).2.1
def uN1 p0:=(uP1 p0).2.2
instance (p0):Decidable (vG1 p0):=by unfold vG1 uP1;dsimp only;infer_instance
theorem sB2:SK 15 (fnSpec [(0,(.box T71 (.val T71)))] (.val T26) [(0,(.box T71 (.val T71)))] (fun x=>vG1 x.1) (fun x=>uY9 x.1) (fun x=>uN1 x.1)):=fb Tryz.func15 76 [kb tM0,kb uB1,kb vP5,kb uD8] [(3,tM3),(9,tM2)] [(23,[(4,0,69,400500)]),(29,[(4,0,400500,400200)])] false [0]
def tF7 (p0:D71):Prop×Int×(D71×Unit):=
 let v5:=(uA9 p0)
 let m2:=(bif ((Int.tmod v5 (2:Int))==0) then (IntKind.wrap .i64 (IntKind.wrap .u64 (Int.tdiv v5 (2:Int)))) else (IntKind.wrap .i64 ((IntKind.wrap .i64 (Int.sub 0 (IntKind.wrap .i64 (IntKind.wrap .u64 (Int.tdiv v5 (2:Int))))))-1)))
 ((vP4 p0),m2,((vQ8 p0).1,()))
def wT5 p0:=(tF7 p0).1
def wU0 p0:=(tF7 p0).2.1
def wT9 p0:=(tF7 p0).2.2
instance (p0):Decidable (wT5 p0):=by unfold wT5 tF7;dsimp only;infer_instance
theorem vX3:SK 68 (fnSpec [(0,(.box T71 (.val T71)))] vI [(0,(.box T71 (.val T71)))] (fun x=>wT5 x.1) (fun x=>wU0 x.1) (fun x=>wT9 x.1)):=fb Tryz.func68 17 [kb uY6] [] [] true [0]
def uZ (p0:D71)(p1:Int):Prop×(List UInt8)×(D71×Unit):=
 let v9:=(wU7 p0 p1)
 let v9o:=(wT7 p0 p1)
 let v11o:=(vK6 v9o.1)
 let v12:=(!(vU7 v9o.1))
 let v24:=(decide (v9>(IntKind.wrap .i64 ((len v11o.1.1)-v11o.1.2.1))))
 let v41:=(IntKind.wrap .i64 (v11o.1.2.1+v9))
 (((wV1 p0 p1)∧((vH2 v9o.1)∧((!v12)=true→((!v24)=true→(0≤v11o.1.2.1∧v11o.1.2.1≤v41∧v41≤len v11o.1.1))))),(bif v12 then ([]:List UInt8) else (bif v24 then ([]:List UInt8) else (List.drop (Int.toNat v11o.1.2.1) (List.take (Int.toNat v41) v11o.1.1)))),((bif v12 then v11o.1 else (bif v24 then (v11o.1.1,v11o.1.2.1,(5:Int),v11o.1.2.2.2.1,()) else (v11o.1.1,(IntKind.wrap .i64 (v11o.1.2.1+v9)),v11o.1.2.2.1,v11o.1.2.2.2.1,()))),()))
def vB4 p0 p1:=(uZ p0 p1).1
def uE0 p0 p1:=(uZ p0 p1).2.1
def vZ8 p0 p1:=(uZ p0 p1).2.2
instance (p0 p1):Decidable (vB4 p0 p1):=by unfold vB4 uZ;dsimp only;infer_instance
theorem sB3:SK 69 (fnSpec [(0,(.box T71 (.val T71))),(1,vI)] vS [(0,(.box T71 (.val T71)))] (fun x=>vB4 x.1 x.2.1) (fun x=>uE0 x.1 x.2.1) (fun x=>vZ8 x.1 x.2.1)):=fb Tryz.func69 53 [kb vP5,kb vV8] [] [] true [0]
def tF8 (p0:D71):Prop×Bool×(D71×Unit):=
 let v5:=(uA9 p0)
 let v5o:=(vQ8 p0)
 let v7:=(decide (v5>1))
 (((vP4 p0)∧(v7=true→(vL0 v5o.1 (4:Int)))),(v5==1),((bif v7 then (vC6 v5o.1 (4:Int)).1 else v5o.1),()))
def wX5 p0:=(tF8 p0).1
def vV1 p0:=(tF8 p0).2.1
def vV2 p0:=(tF8 p0).2.2
instance (p0):Decidable (wX5 p0):=by unfold wX5 tF8;dsimp only;infer_instance
theorem sB4:SK 70 (fnSpec [(0,(.box T71 (.val T71)))] vB [(0,(.box T71 (.val T71)))] (fun x=>wX5 x.1) (fun x=>vV1 x.1) (fun x=>vV2 x.1)):=fb Tryz.func70 12 [kb uD8,kb uY6] [] [] false [0]
def uZ0 (p0:D71):Prop×D45×(D71×Unit):=
 let v6o:=(wT9 p0)
 let v9o:=(wT9 v6o.1)
 let v12o:=(wT9 v9o.1)
 (((wT5 p0)∧((wT5 v6o.1)∧((wT5 v9o.1)∧(wT5 v12o.1)))),((wU0 p0),(wU0 v6o.1),(wU0 v9o.1),(wU0 v12o.1),()),((wT9 v12o.1).1,()))
def vL1 p0:=(uZ0 p0).1
def uN2 p0:=(uZ0 p0).2.1
def vV3 p0:=(uZ0 p0).2.2
instance (p0):Decidable (vL1 p0):=by unfold vL1 uZ0;dsimp only;infer_instance
theorem tM4:SK 71 (fnSpec [(0,(.box T71 (.val T71)))] (.val T45) [(0,(.box T71 (.val T71)))] (fun x=>vL1 x.1) (fun x=>uN2 x.1) (fun x=>vV3 x.1)):=fb Tryz.func71 18 [kb vX3] [] [] false [0]
end Go.Proofs.YtbiemgjkkhkdeaaGreatDoor.Am
