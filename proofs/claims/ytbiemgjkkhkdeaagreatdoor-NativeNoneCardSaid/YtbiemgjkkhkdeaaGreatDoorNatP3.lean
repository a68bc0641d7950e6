/- Printed by program, part 3. No condition. -/
import Derived.Test.YtbiemgjkkhkdeaaGreatDoorNatP2
set_option linter.unusedVariables false
set_option synthInstance.maxSize 4000
set_option synthInstance.maxHeartbeats 400000
namespace Go.Proofs.YtbiemgjkkhkdeaaGreatDoor.Am
open Go Go.Am Go.Proofs
abbrev vA7:Type:=(Int×Unit)
abbrev wY4:Type:=(D60×(Int×Int×Int×(List UInt8)×Bool×Bool×Bool×Int×Int×D26×D43×Int×D23×D45×Int×(List Int)×Int×(List D111)×(List D114)×Int×Int×Int×Int×(List UInt8)×Int×Int×Int×(Int×Int×Int×(List D106)×Unit)×Unit)×Int×Unit)
def vP (y:vA7)(x:wY4):Prop×Bool×wY4:=
 let a0:=x.1
 let a1:=x.2.1
 let a9:=x.2.2.1
 let v10:=(decide (a9<y.1))
 let v22o:=(uW8 a0 () Z111)
 let v29:=([v22o.2.2.1]:List D111)
 let s:=(a1.2.2.2.2.2.2.2.2.2.2.2.2.2.2.2.2.2.2.2.2.2.2.2.2.2.2.2.1.1,a1.2.2.2.2.2.2.2.2.2.2.2.2.2.2.2.2.2.2.2.2.2.2.2.2.2.2.2.1.2.1,a1.2.2.2.2.2.2.2.2.2.2.2.2.2.2.2.2.2.2.2.2.2.2.2.2.2.2.2.1.2.2.1,a1.2.2.2.2.2.2.2.2.2.2.2.2.2.2.2.2.2.2.2.2.2.2.2.2.2.2.2.1.2.2.2.1,())
 let s_1:=(a1.1,a1.2.1,a1.2.2.1,a1.2.2.2.1,a1.2.2.2.2.1,a1.2.2.2.2.2.1,a1.2.2.2.2.2.2.1,a1.2.2.2.2.2.2.2.1,a1.2.2.2.2.2.2.2.2.1,a1.2.2.2.2.2.2.2.2.2.1,a1.2.2.2.2.2.2.2.2.2.2.1,a1.2.2.2.2.2.2.2.2.2.2.2.1,a1.2.2.2.2.2.2.2.2.2.2.2.2.1,a1.2.2.2.2.2.2.2.2.2.2.2.2.2.1,a1.2.2.2.2.2.2.2.2.2.2.2.2.2.2.1,a1.2.2.2.2.2.2.2.2.2.2.2.2.2.2.2.1,a1.2.2.2.2.2.2.2.2.2.2.2.2.2.2.2.2.1,(a1.2.2.2.2.2.2.2.2.2.2.2.2.2.2.2.2.2.1++v29),a1.2.2.2.2.2.2.2.2.2.2.2.2.2.2.2.2.2.2.1,a1.2.2.2.2.2.2.2.2.2.2.2.2.2.2.2.2.2.2.2.1,a1.2.2.2.2.2.2.2.2.2.2.2.2.2.2.2.2.2.2.2.2.1,a1.2.2.2.2.2.2.2.2.2.2.2.2.2.2.2.2.2.2.2.2.2.1,a1.2.2.2.2.2.2.2.2.2.2.2.2.2.2.2.2.2.2.2.2.2.2.1,a1.2.2.2.2.2.2.2.2.2.2.2.2.2.2.2.2.2.2.2.2.2.2.2.1,a1.2.2.2.2.2.2.2.2.2.2.2.2.2.2.2.2.2.2.2.2.2.2.2.2.1,a1.2.2.2.2.2.2.2.2.2.2.2.2.2.2.2.2.2.2.2.2.2.2.2.2.2.1,a1.2.2.2.2.2.2.2.2.2.2.2.2.2.2.2.2.2.2.2.2.2.2.2.2.2.2.1,s,())
 ((v10=true→((vU7 a0 () Z111)∧((List.length a1.2.2.2.2.2.2.2.2.2.2.2.2.2.2.2.2.2.1+List.length v29:Nat):Int)≤4294967296)),v10,(v22o.1,s_1,(IntKind.wrap .i64 (a9+1)),()))
def vG6 y x:=(vP y x).1
def vR9 y x:=(vP y x).2.1
def vH3 y x:=(vP y x).2.2
instance (y x):Decidable (vG6 y x):=by unfold vG6 vP;dsimp only;infer_instance
def vQ7 (y:vA7)(x:wY4):D60:=
 x.1
def vQ8 (y:vA7)(x:wY4):(Int×Int×Int×(List UInt8)×Bool×Bool×Bool×Int×Int×D26×D43×Int×D23×D45×Int×(List Int)×Int×(List D111)×(List D114)×Int×Int×Int×Int×(List UInt8)×Int×Int×Int×(Int×Int×Int×(List D106)×Unit)×Unit):=
 let a1:=x.2.1
 let s_2:=(a1.2.2.2.2.2.2.2.2.2.2.2.2.2.2.2.2.2.2.2.2.2.2.2.2.2.2.2.1.1,a1.2.2.2.2.2.2.2.2.2.2.2.2.2.2.2.2.2.2.2.2.2.2.2.2.2.2.2.1.2.1,a1.2.2.2.2.2.2.2.2.2.2.2.2.2.2.2.2.2.2.2.2.2.2.2.2.2.2.2.1.2.2.1,a1.2.2.2.2.2.2.2.2.2.2.2.2.2.2.2.2.2.2.2.2.2.2.2.2.2.2.2.1.2.2.2.1,())
 let s_3:=(a1.1,a1.2.1,a1.2.2.1,a1.2.2.2.1,a1.2.2.2.2.1,a1.2.2.2.2.2.1,a1.2.2.2.2.2.2.1,a1.2.2.2.2.2.2.2.1,a1.2.2.2.2.2.2.2.2.1,a1.2.2.2.2.2.2.2.2.2.1,a1.2.2.2.2.2.2.2.2.2.2.1,a1.2.2.2.2.2.2.2.2.2.2.2.1,a1.2.2.2.2.2.2.2.2.2.2.2.2.1,a1.2.2.2.2.2.2.2.2.2.2.2.2.2.1,a1.2.2.2.2.2.2.2.2.2.2.2.2.2.2.1,a1.2.2.2.2.2.2.2.2.2.2.2.2.2.2.2.1,a1.2.2.2.2.2.2.2.2.2.2.2.2.2.2.2.2.1,a1.2.2.2.2.2.2.2.2.2.2.2.2.2.2.2.2.2.1,a1.2.2.2.2.2.2.2.2.2.2.2.2.2.2.2.2.2.2.1,a1.2.2.2.2.2.2.2.2.2.2.2.2.2.2.2.2.2.2.2.1,a1.2.2.2.2.2.2.2.2.2.2.2.2.2.2.2.2.2.2.2.2.1,a1.2.2.2.2.2.2.2.2.2.2.2.2.2.2.2.2.2.2.2.2.2.1,a1.2.2.2.2.2.2.2.2.2.2.2.2.2.2.2.2.2.2.2.2.2.2.1,a1.2.2.2.2.2.2.2.2.2.2.2.2.2.2.2.2.2.2.2.2.2.2.2.1,a1.2.2.2.2.2.2.2.2.2.2.2.2.2.2.2.2.2.2.2.2.2.2.2.2.1,a1.2.2.2.2.2.2.2.2.2.2.2.2.2.2.2.2.2.2.2.2.2.2.2.2.2.1,a1.2.2.2.2.2.2.2.2.2.2.2.2.2.2.2.2.2.2.2.2.2.2.2.2.2.2.1,s_2,())
 s_3
def vY4:List (Nat×Sh):=[(0,(.box T60 (.val T60))),(1,(.box T52 (.agg (.cons (.int .i64) (.cons (.int .i64) (.cons (.int .i64) (.cons .str (.cons .bool (.cons .bool (.cons .bool (.cons (.int .i64) (.cons (.int .i64) (.cons T26 (.cons T43 (.cons (.int .i64) (.cons T23 (.cons T45 (.cons (.int .i64) (.cons (.sl (.int .i64)) (.cons (.int .i64) (.cons (.sl T111) (.cons (.sl T114) (.cons (.int .i64) (.cons (.int .i64) (.cons (.int .i64) (.cons (.int .i64) (.cons .str (.cons (.int .i64) (.cons (.int .i64) (.cons (.int .i64) (.cons T50 .nl)))))))))))))))))))))))))))) (.cons vI (.cons vI (.cons vI (.cons vS (.cons vB (.cons vB (.cons vB (.cons vI (.cons vI (.cons (.val T26) (.cons (.val T43) (.cons vI (.cons (.val T23) (.cons (.val T45) (.cons vI (.cons (.own (.int .i64) 400102 false) (.cons vI (.cons (.own T111 400103 false) (.cons (.own T114 400104 false) (.cons vI (.cons vI (.cons vI (.cons vI (.cons vS (.cons vI (.cons vI (.cons vI (.cons (.agg (.cons (.int .i64) (.cons (.int .i64) (.cons (.int .i64) (.cons (.sl T106) .nl)))) (.cons vI (.cons vI (.cons vI (.cons (.own T106 400105 false) .nl))))) .nl)))))))))))))))))))))))))))))))]
def uR9:=li [(8,vI)] [(0,(.box T60 (.val T60))),(1,(.box T52 (.agg (.cons (.int .i64) (.cons (.int .i64) (.cons (.int .i64) (.cons .str (.cons .bool (.cons .bool (.cons .bool (.cons (.int .i64) (.cons (.int .i64) (.cons T26 (.cons T43 (.cons (.int .i64) (.cons T23 (.cons T45 (.cons (.int .i64) (.cons (.sl (.int .i64)) (.cons (.int .i64) (.cons (.sl T111) (.cons (.sl T114) (.cons (.int .i64) (.cons (.int .i64) (.cons (.int .i64) (.cons (.int .i64) (.cons .str (.cons (.int .i64) (.cons (.int .i64) (.cons (.int .i64) (.cons T50 .nl)))))))))))))))))))))))))))) (.cons vI (.cons vI (.cons vI (.cons vS (.cons vB (.cons vB (.cons vB (.cons vI (.cons vI (.cons (.val T26) (.cons (.val T43) (.cons vI (.cons (.val T23) (.cons (.val T45) (.cons vI (.cons (.own (.int .i64) 400102 false) (.cons vI (.cons (.own T111 400103 false) (.cons (.own T114 400104 false) (.cons vI (.cons vI (.cons vI (.cons vI (.cons vS (.cons vI (.cons vI (.cons vI (.cons (.agg (.cons (.int .i64) (.cons (.int .i64) (.cons (.int .i64) (.cons (.sl T106) .nl)))) (.cons vI (.cons vI (.cons vI (.cons (.own T106 400105 false) .nl))))) .nl))))))))))))))))))))))))))))))),(9,vI)] vR9 vH3 vG6 (fun y x=>[ex 2 none vY4 ((vQ7 y x),(vQ8 y x),())]) [vY4]
abbrev wZ5:Type:=((Int×Int×Int×(List UInt8)×Bool×Bool×Bool×Int×Int×D26×D43×Int×D23×D45×Int×(List Int)×Int×(List D111)×(List D114)×Int×Int×Int×Int×(List UInt8)×Int×Int×Int×(Int×Int×Int×(List D106)×Unit)×Unit)×Int×Int×Unit)
abbrev wW2:Type:=(D60×D114×Int×Unit)
def vK6 (y:wZ5)(x:wW2):Prop×Bool×wW2:=
 let a0:=x.1
 let a5:=x.2.1
 let a42:=x.2.2.1
 let v43:=(decide (a42<3))
 let v55o:=(uX a0 (a42,a42,()) a5)
 ((v43=true→(InB a42 3∧(InB a42 3∧(vU9 a0 (a42,a42,()) a5)))),v43,(v55o.1,v55o.2.2.1,(IntKind.wrap .i64 (a42+1)),()))
def vD0 y x:=(vK6 y x).1
def vN4 y x:=(vK6 y x).2.1
def vF7 y x:=(vK6 y x).2.2
instance (y x):Decidable (vD0 y x):=by unfold vD0 vK6;dsimp only;infer_instance
def vN5 (y:wZ5)(x:wW2):D60:=
 x.1
def vN6 (y:wZ5)(x:wW2):D114:=
 x.2.1
def vV:List (Nat×Sh):=[(0,(.box T60 (.val T60))),(1,(.box T52 (.agg (.cons (.int .i64) (.cons (.int .i64) (.cons (.int .i64) (.cons .str (.cons .bool (.cons .bool (.cons .bool (.cons (.int .i64) (.cons (.int .i64) (.cons T26 (.cons T43 (.cons (.int .i64) (.cons T23 (.cons T45 (.cons (.int .i64) (.cons (.sl (.int .i64)) (.cons (.int .i64) (.cons (.sl T111) (.cons (.sl T114) (.cons (.int .i64) (.cons (.int .i64) (.cons (.int .i64) (.cons (.int .i64) (.cons .str (.cons (.int .i64) (.cons (.int .i64) (.cons (.int .i64) (.cons T50 .nl)))))))))))))))))))))))))))) (.cons vI (.cons vI (.cons vI (.cons vS (.cons vB (.cons vB (.cons vB (.cons vI (.cons vI (.cons (.val T26) (.cons (.val T43) (.cons vI (.cons (.val T23) (.cons (.val T45) (.cons vI (.cons (.own (.int .i64) 400102 false) (.cons vI (.cons (.own T111 400103 false) (.cons (.own T114 400104 false) (.cons vI (.cons vI (.cons vI (.cons vI (.cons vS (.cons vI (.cons vI (.cons vI (.cons (.agg (.cons (.int .i64) (.cons (.int .i64) (.cons (.int .i64) (.cons (.sl T106) .nl)))) (.cons vI (.cons vI (.cons vI (.cons (.own T106 400105 false) .nl))))) .nl))))))))))))))))))))))))))))))),(5,(.box T114 (.val T114))),(35,vI),(36,vI)]
def uM1:=li [(1,(.box T52 (.agg (.cons (.int .i64) (.cons (.int .i64) (.cons (.int .i64) (.cons .str (.cons .bool (.cons .bool (.cons .bool (.cons (.int .i64) (.cons (.int .i64) (.cons T26 (.cons T43 (.cons (.int .i64) (.cons T23 (.cons T45 (.cons (.int .i64) (.cons (.sl (.int .i64)) (.cons (.int .i64) (.cons (.sl T111) (.cons (.sl T114) (.cons (.int .i64) (.cons (.int .i64) (.cons (.int .i64) (.cons (.int .i64) (.cons .str (.cons (.int .i64) (.cons (.int .i64) (.cons (.int .i64) (.cons T50 .nl)))))))))))))))))))))))))))) (.cons vI (.cons vI (.cons vI (.cons vS (.cons vB (.cons vB (.cons vB (.cons vI (.cons vI (.cons (.val T26) (.cons (.val T43) (.cons vI (.cons (.val T23) (.cons (.val T45) (.cons vI (.cons (.own (.int .i64) 400102 false) (.cons vI (.cons (.own T111 400103 false) (.cons (.own T114 400104 false) (.cons vI (.cons vI (.cons vI (.cons vI (.cons vS (.cons vI (.cons vI (.cons vI (.cons (.agg (.cons (.int .i64) (.cons (.int .i64) (.cons (.int .i64) (.cons (.sl T106) .nl)))) (.cons vI (.cons vI (.cons vI (.cons (.own T106 400105 false) .nl))))) .nl))))))))))))))))))))))))))))))),(35,vI),(36,vI)] [(0,(.box T60 (.val T60))),(5,(.box T114 (.val T114))),(42,vI)] vN4 vF7 vD0 (fun y x=>[ex 6 none vV ((vN5 y x),y.1,(vN6 y x),y.2.1,y.2.2.1,())]) [vV]
abbrev vA8:Type:=(Int×Unit)
abbrev wY5:Type:=(D60×(Int×Int×Int×(List UInt8)×Bool×Bool×Bool×Int×Int×D26×D43×Int×D23×D45×Int×(List Int)×Int×(List D111)×(List D114)×Int×Int×Int×Int×(List UInt8)×Int×Int×Int×(Int×Int×Int×(List D106)×Unit)×Unit)×Int×Unit)
def vP0 (y:vA8)(x:wY5):Prop×Bool×wY5:=
 let a35:=y.1
 let a0:=x.1
 let a1:=x.2.1
 let a36:=x.2.2.1
 let v37:=(decide (a36<a35))
 let v41o:=(uW9 a0 () Z114)
 let s:=(a1.2.2.2.2.2.2.2.2.2.2.2.2.2.2.2.2.2.2.2.2.2.2.2.2.2.2.2.1.1,a1.2.2.2.2.2.2.2.2.2.2.2.2.2.2.2.2.2.2.2.2.2.2.2.2.2.2.2.1.2.1,a1.2.2.2.2.2.2.2.2.2.2.2.2.2.2.2.2.2.2.2.2.2.2.2.2.2.2.2.1.2.2.1,a1.2.2.2.2.2.2.2.2.2.2.2.2.2.2.2.2.2.2.2.2.2.2.2.2.2.2.2.1.2.2.2.1,())
 let s_1:=(a1.1,a1.2.1,a1.2.2.1,a1.2.2.2.1,a1.2.2.2.2.1,a1.2.2.2.2.2.1,a1.2.2.2.2.2.2.1,a1.2.2.2.2.2.2.2.1,a1.2.2.2.2.2.2.2.2.1,a1.2.2.2.2.2.2.2.2.2.1,a1.2.2.2.2.2.2.2.2.2.2.1,a1.2.2.2.2.2.2.2.2.2.2.2.1,a1.2.2.2.2.2.2.2.2.2.2.2.2.1,a1.2.2.2.2.2.2.2.2.2.2.2.2.2.1,a1.2.2.2.2.2.2.2.2.2.2.2.2.2.2.1,a1.2.2.2.2.2.2.2.2.2.2.2.2.2.2.2.1,a1.2.2.2.2.2.2.2.2.2.2.2.2.2.2.2.2.1,a1.2.2.2.2.2.2.2.2.2.2.2.2.2.2.2.2.2.1,a1.2.2.2.2.2.2.2.2.2.2.2.2.2.2.2.2.2.2.1,a1.2.2.2.2.2.2.2.2.2.2.2.2.2.2.2.2.2.2.2.1,a1.2.2.2.2.2.2.2.2.2.2.2.2.2.2.2.2.2.2.2.2.1,a1.2.2.2.2.2.2.2.2.2.2.2.2.2.2.2.2.2.2.2.2.2.1,a1.2.2.2.2.2.2.2.2.2.2.2.2.2.2.2.2.2.2.2.2.2.2.1,a1.2.2.2.2.2.2.2.2.2.2.2.2.2.2.2.2.2.2.2.2.2.2.2.1,a1.2.2.2.2.2.2.2.2.2.2.2.2.2.2.2.2.2.2.2.2.2.2.2.2.1,a1.2.2.2.2.2.2.2.2.2.2.2.2.2.2.2.2.2.2.2.2.2.2.2.2.2.1,a1.2.2.2.2.2.2.2.2.2.2.2.2.2.2.2.2.2.2.2.2.2.2.2.2.2.2.1,s,())
 let y11:=(s_1,a35,a36,())
 let x11:=(v41o.1,v41o.2.2.1,(0:Int),())
 let e11:=(zC5 (vN4 y11) (vF7 y11) x11)
 let v63:=([(vN6 y11 e11)]:List D114)
 let s_2:=(a1.2.2.2.2.2.2.2.2.2.2.2.2.2.2.2.2.2.2.2.2.2.2.2.2.2.2.2.1.1,a1.2.2.2.2.2.2.2.2.2.2.2.2.2.2.2.2.2.2.2.2.2.2.2.2.2.2.2.1.2.1,a1.2.2.2.2.2.2.2.2.2.2.2.2.2.2.2.2.2.2.2.2.2.2.2.2.2.2.2.1.2.2.1,a1.2.2.2.2.2.2.2.2.2.2.2.2.2.2.2.2.2.2.2.2.2.2.2.2.2.2.2.1.2.2.2.1,())
 let s_3:=(a1.1,a1.2.1,a1.2.2.1,a1.2.2.2.1,a1.2.2.2.2.1,a1.2.2.2.2.2.1,a1.2.2.2.2.2.2.1,a1.2.2.2.2.2.2.2.1,a1.2.2.2.2.2.2.2.2.1,a1.2.2.2.2.2.2.2.2.2.1,a1.2.2.2.2.2.2.2.2.2.2.1,a1.2.2.2.2.2.2.2.2.2.2.2.1,a1.2.2.2.2.2.2.2.2.2.2.2.2.1,a1.2.2.2.2.2.2.2.2.2.2.2.2.2.1,a1.2.2.2.2.2.2.2.2.2.2.2.2.2.2.1,a1.2.2.2.2.2.2.2.2.2.2.2.2.2.2.2.1,a1.2.2.2.2.2.2.2.2.2.2.2.2.2.2.2.2.1,a1.2.2.2.2.2.2.2.2.2.2.2.2.2.2.2.2.2.1,(a1.2.2.2.2.2.2.2.2.2.2.2.2.2.2.2.2.2.2.1++v63),a1.2.2.2.2.2.2.2.2.2.2.2.2.2.2.2.2.2.2.2.1,a1.2.2.2.2.2.2.2.2.2.2.2.2.2.2.2.2.2.2.2.2.1,a1.2.2.2.2.2.2.2.2.2.2.2.2.2.2.2.2.2.2.2.2.2.1,a1.2.2.2.2.2.2.2.2.2.2.2.2.2.2.2.2.2.2.2.2.2.2.1,a1.2.2.2.2.2.2.2.2.2.2.2.2.2.2.2.2.2.2.2.2.2.2.2.1,a1.2.2.2.2.2.2.2.2.2.2.2.2.2.2.2.2.2.2.2.2.2.2.2.2.1,a1.2.2.2.2.2.2.2.2.2.2.2.2.2.2.2.2.2.2.2.2.2.2.2.2.2.1,a1.2.2.2.2.2.2.2.2.2.2.2.2.2.2.2.2.2.2.2.2.2.2.2.2.2.2.1,s_2,())
 ((v37=true→((vU8 a0 () Z114)∧((xQ6 (vN4 y11) (vF7 y11) (vD0 y11) x11)∧((List.length a1.2.2.2.2.2.2.2.2.2.2.2.2.2.2.2.2.2.2.1+List.length v63:Nat):Int)≤4294967296))),v37,((vN5 y11 e11),s_3,(IntKind.wrap .i64 (a36+1)),()))
def vG7 y x:=(vP0 y x).1
def vS0 y x:=(vP0 y x).2.1
def vH4 y x:=(vP0 y x).2.2
instance (y x):Decidable (vG7 y x):=by unfold vG7 vP0;dsimp only;infer_instance
def vQ9 (y:vA8)(x:wY5):D60:=
 x.1
def vR (y:vA8)(x:wY5):(Int×Int×Int×(List UInt8)×Bool×Bool×Bool×Int×Int×D26×D43×Int×D23×D45×Int×(List Int)×Int×(List D111)×(List D114)×Int×Int×Int×Int×(List UInt8)×Int×Int×Int×(Int×Int×Int×(List D106)×Unit)×Unit):=
 let a1:=x.2.1
 let s_4:=(a1.2.2.2.2.2.2.2.2.2.2.2.2.2.2.2.2.2.2.2.2.2.2.2.2.2.2.2.1.1,a1.2.2.2.2.2.2.2.2.2.2.2.2.2.2.2.2.2.2.2.2.2.2.2.2.2.2.2.1.2.1,a1.2.2.2.2.2.2.2.2.2.2.2.2.2.2.2.2.2.2.2.2.2.2.2.2.2.2.2.1.2.2.1,a1.2.2.2.2.2.2.2.2.2.2.2.2.2.2.2.2.2.2.2.2.2.2.2.2.2.2.2.1.2.2.2.1,())
 let s_5:=(a1.1,a1.2.1,a1.2.2.1,a1.2.2.2.1,a1.2.2.2.2.1,a1.2.2.2.2.2.1,a1.2.2.2.2.2.2.1,a1.2.2.2.2.2.2.2.1,a1.2.2.2.2.2.2.2.2.1,a1.2.2.2.2.2.2.2.2.2.1,a1.2.2.2.2.2.2.2.2.2.2.1,a1.2.2.2.2.2.2.2.2.2.2.2.1,a1.2.2.2.2.2.2.2.2.2.2.2.2.1,a1.2.2.2.2.2.2.2.2.2.2.2.2.2.1,a1.2.2.2.2.2.2.2.2.2.2.2.2.2.2.1,a1.2.2.2.2.2.2.2.2.2.2.2.2.2.2.2.1,a1.2.2.2.2.2.2.2.2.2.2.2.2.2.2.2.2.1,a1.2.2.2.2.2.2.2.2.2.2.2.2.2.2.2.2.2.1,a1.2.2.2.2.2.2.2.2.2.2.2.2.2.2.2.2.2.2.1,a1.2.2.2.2.2.2.2.2.2.2.2.2.2.2.2.2.2.2.2.1,a1.2.2.2.2.2.2.2.2.2.2.2.2.2.2.2.2.2.2.2.2.1,a1.2.2.2.2.2.2.2.2.2.2.2.2.2.2.2.2.2.2.2.2.2.1,a1.2.2.2.2.2.2.2.2.2.2.2.2.2.2.2.2.2.2.2.2.2.2.1,a1.2.2.2.2.2.2.2.2.2.2.2.2.2.2.2.2.2.2.2.2.2.2.2.1,a1.2.2.2.2.2.2.2.2.2.2.2.2.2.2.2.2.2.2.2.2.2.2.2.2.1,a1.2.2.2.2.2.2.2.2.2.2.2.2.2.2.2.2.2.2.2.2.2.2.2.2.2.1,a1.2.2.2.2.2.2.2.2.2.2.2.2.2.2.2.2.2.2.2.2.2.2.2.2.2.2.1,s_4,())
 s_5
def vY5:List (Nat×Sh):=[(0,(.box T60 (.val T60))),(1,(.box T52 (.agg (.cons (.int .i64) (.cons (.int .i64) (.cons (.int .i64) (.cons .str (.cons .bool (.cons .bool (.cons .bool (.cons (.int .i64) (.cons (.int .i64) (.cons T26 (.cons T43 (.cons (.int .i64) (.cons T23 (.cons T45 (.cons (.int .i64) (.cons (.sl (.int .i64)) (.cons (.int .i64) (.cons (.sl T111) (.cons (.sl T114) (.cons (.int .i64) (.cons (.int .i64) (.cons (.int .i64) (.cons (.int .i64) (.cons .str (.cons (.int .i64) (.cons (.int .i64) (.cons (.int .i64) (.cons T50 .nl)))))))))))))))))))))))))))) (.cons vI (.cons vI (.cons vI (.cons vS (.cons vB (.cons vB (.cons vB (.cons vI (.cons vI (.cons (.val T26) (.cons (.val T43) (.cons vI (.cons (.val T23) (.cons (.val T45) (.cons vI (.cons (.own (.int .i64) 400102 false) (.cons vI (.cons (.own T111 400103 false) (.cons (.own T114 400104 false) (.cons vI (.cons vI (.cons vI (.cons vI (.cons vS (.cons vI (.cons vI (.cons vI (.cons (.agg (.cons (.int .i64) (.cons (.int .i64) (.cons (.int .i64) (.cons (.sl T106) .nl)))) (.cons vI (.cons vI (.cons vI (.cons (.own T106 400105 false) .nl))))) .nl)))))))))))))))))))))))))))))))]
def uS:=li [(35,vI)] [(0,(.box T60 (.val T60))),(1,(.box T52 (.agg (.cons (.int .i64) (.cons (.int .i64) (.cons (.int .i64) (.cons .str (.cons .bool (.cons .bool (.cons .bool (.cons (.int .i64) (.cons (.int .i64) (.cons T26 (.cons T43 (.cons (.int .i64) (.cons T23 (.cons T45 (.cons (.int .i64) (.cons (.sl (.int .i64)) (.cons (.int .i64) (.cons (.sl T111) (.cons (.sl T114) (.cons (.int .i64) (.cons (.int .i64) (.cons (.int .i64) (.cons (.int .i64) (.cons .str (.cons (.int .i64) (.cons (.int .i64) (.cons (.int .i64) (.cons T50 .nl)))))))))))))))))))))))))))) (.cons vI (.cons vI (.cons vI (.cons vS (.cons vB (.cons vB (.cons vB (.cons vI (.cons vI (.cons (.val T26) (.cons (.val T43) (.cons vI (.cons (.val T23) (.cons (.val T45) (.cons vI (.cons (.own (.int .i64) 400102 false) (.cons vI (.cons (.own T111 400103 false) (.cons (.own T114 400104 false) (.cons vI (.cons vI (.cons vI (.cons vI (.cons vS (.cons vI (.cons vI (.cons vI (.cons (.agg (.cons (.int .i64) (.cons (.int .i64) (.cons (.int .i64) (.cons (.sl T106) .nl)))) (.cons vI (.cons vI (.cons vI (.cons (.own T106 400105 false) .nl))))) .nl))))))))))))))))))))))))))))))),(36,vI)] vS0 vH4 vG7 (fun y x=>[ex 4 none vY5 ((vQ9 y x),(vR y x),())]) [vY5]
def uM2 (p0:D60)(p1:(Int×Int×Int×(List UInt8)×Bool×Bool×Bool×Int×Int×D26×D43×Int×D23×D45×Int×(List Int)×Int×(List D111)×(List D114)×Int×Int×Int×Int×(List UInt8)×Int×Int×Int×(Int×Int×Int×(List D106)×Unit)×Unit)):Prop×(Unit)×(D60×(Int×Int×Int×(List UInt8)×Bool×Bool×Bool×Int×Int×D26×D43×Int×D23×D45×Int×(List Int)×Int×(List D111)×(List D114)×Int×Int×Int×Int×(List UInt8)×Int×Int×Int×(Int×Int×Int×(List D106)×Unit)×Unit)×Unit):=
 let s:=(p1.2.2.2.2.2.2.2.2.2.2.2.2.2.2.2.2.2.2.2.2.2.2.2.2.2.2.2.1.1,p1.2.2.2.2.2.2.2.2.2.2.2.2.2.2.2.2.2.2.2.2.2.2.2.2.2.2.2.1.2.1,p1.2.2.2.2.2.2.2.2.2.2.2.2.2.2.2.2.2.2.2.2.2.2.2.2.2.2.2.1.2.2.1,p1.2.2.2.2.2.2.2.2.2.2.2.2.2.2.2.2.2.2.2.2.2.2.2.2.2.2.2.1.2.2.2.1,())
 let s_1:=(p1.1,p1.2.1,p1.2.2.1,p1.2.2.2.1,p1.2.2.2.2.1,p1.2.2.2.2.2.1,p1.2.2.2.2.2.2.1,p1.2.2.2.2.2.2.2.1,p1.2.2.2.2.2.2.2.2.1,p1.2.2.2.2.2.2.2.2.2.1,p1.2.2.2.2.2.2.2.2.2.2.1,p1.2.2.2.2.2.2.2.2.2.2.2.1,p1.2.2.2.2.2.2.2.2.2.2.2.2.1,p1.2.2.2.2.2.2.2.2.2.2.2.2.2.1,p1.2.2.2.2.2.2.2.2.2.2.2.2.2.2.1,p1.2.2.2.2.2.2.2.2.2.2.2.2.2.2.2.1,p1.2.2.2.2.2.2.2.2.2.2.2.2.2.2.2.2.1,p1.2.2.2.2.2.2.2.2.2.2.2.2.2.2.2.2.2.1,p1.2.2.2.2.2.2.2.2.2.2.2.2.2.2.2.2.2.2.1,p1.2.2.2.2.2.2.2.2.2.2.2.2.2.2.2.2.2.2.2.1,p1.2.2.2.2.2.2.2.2.2.2.2.2.2.2.2.2.2.2.2.2.1,p1.2.2.2.2.2.2.2.2.2.2.2.2.2.2.2.2.2.2.2.2.2.1,p1.2.2.2.2.2.2.2.2.2.2.2.2.2.2.2.2.2.2.2.2.2.2.1,p1.2.2.2.2.2.2.2.2.2.2.2.2.2.2.2.2.2.2.2.2.2.2.2.1,p1.2.2.2.2.2.2.2.2.2.2.2.2.2.2.2.2.2.2.2.2.2.2.2.2.1,p1.2.2.2.2.2.2.2.2.2.2.2.2.2.2.2.2.2.2.2.2.2.2.2.2.2.1,p1.2.2.2.2.2.2.2.2.2.2.2.2.2.2.2.2.2.2.2.2.2.2.2.2.2.2.1,s,())
 let y1:=((vC2 p0 (16:Int)),())
 let x1:=((wV5 p0 (16:Int)).1,s_1,(0:Int),())
 let e1:=(zC5 (vR9 y1) (vH3 y1) x1)
 let r1_2_0:=(vQ7 y1 e1)
 let r1_2_1:=(vQ8 y1 e1)
 let s_2:=(r1_2_1.2.2.2.2.2.2.2.2.2.2.2.2.2.2.2.2.2.2.2.2.2.2.2.2.2.2.2.1.1,r1_2_1.2.2.2.2.2.2.2.2.2.2.2.2.2.2.2.2.2.2.2.2.2.2.2.2.2.2.2.1.2.1,r1_2_1.2.2.2.2.2.2.2.2.2.2.2.2.2.2.2.2.2.2.2.2.2.2.2.2.2.2.2.1.2.2.1,r1_2_1.2.2.2.2.2.2.2.2.2.2.2.2.2.2.2.2.2.2.2.2.2.2.2.2.2.2.2.1.2.2.2.1,())
 let s_3:=(r1_2_1.1,r1_2_1.2.1,r1_2_1.2.2.1,r1_2_1.2.2.2.1,r1_2_1.2.2.2.2.1,r1_2_1.2.2.2.2.2.1,r1_2_1.2.2.2.2.2.2.1,r1_2_1.2.2.2.2.2.2.2.1,r1_2_1.2.2.2.2.2.2.2.2.1,r1_2_1.2.2.2.2.2.2.2.2.2.1,r1_2_1.2.2.2.2.2.2.2.2.2.2.1,r1_2_1.2.2.2.2.2.2.2.2.2.2.2.1,r1_2_1.2.2.2.2.2.2.2.2.2.2.2.2.1,r1_2_1.2.2.2.2.2.2.2.2.2.2.2.2.2.1,r1_2_1.2.2.2.2.2.2.2.2.2.2.2.2.2.2.1,r1_2_1.2.2.2.2.2.2.2.2.2.2.2.2.2.2.2.1,r1_2_1.2.2.2.2.2.2.2.2.2.2.2.2.2.2.2.2.1,r1_2_1.2.2.2.2.2.2.2.2.2.2.2.2.2.2.2.2.2.1,r1_2_1.2.2.2.2.2.2.2.2.2.2.2.2.2.2.2.2.2.2.1,r1_2_1.2.2.2.2.2.2.2.2.2.2.2.2.2.2.2.2.2.2.2.1,r1_2_1.2.2.2.2.2.2.2.2.2.2.2.2.2.2.2.2.2.2.2.2.1,r1_2_1.2.2.2.2.2.2.2.2.2.2.2.2.2.2.2.2.2.2.2.2.2.1,r1_2_1.2.2.2.2.2.2.2.2.2.2.2.2.2.2.2.2.2.2.2.2.2.2.1,r1_2_1.2.2.2.2.2.2.2.2.2.2.2.2.2.2.2.2.2.2.2.2.2.2.2.1,r1_2_1.2.2.2.2.2.2.2.2.2.2.2.2.2.2.2.2.2.2.2.2.2.2.2.2.1,r1_2_1.2.2.2.2.2.2.2.2.2.2.2.2.2.2.2.2.2.2.2.2.2.2.2.2.2.1,r1_2_1.2.2.2.2.2.2.2.2.2.2.2.2.2.2.2.2.2.2.2.2.2.2.2.2.2.2.1,s_2,())
 let y7:=((vC2 r1_2_0 (128:Int)),())
 let x7:=((wV5 r1_2_0 (128:Int)).1,s_3,(0:Int),())
 let e7:=(zC5 (vS0 y7) (vH4 y7) x7)
 let r7_4_1:=(vR y7 e7)
 let s_4:=(r7_4_1.2.2.2.2.2.2.2.2.2.2.2.2.2.2.2.2.2.2.2.2.2.2.2.2.2.2.2.1.1,r7_4_1.2.2.2.2.2.2.2.2.2.2.2.2.2.2.2.2.2.2.2.2.2.2.2.2.2.2.2.1.2.1,r7_4_1.2.2.2.2.2.2.2.2.2.2.2.2.2.2.2.2.2.2.2.2.2.2.2.2.2.2.2.1.2.2.1,r7_4_1.2.2.2.2.2.2.2.2.2.2.2.2.2.2.2.2.2.2.2.2.2.2.2.2.2.2.2.1.2.2.2.1,())
 let s_5:=(r7_4_1.1,r7_4_1.2.1,r7_4_1.2.2.1,r7_4_1.2.2.2.1,r7_4_1.2.2.2.2.1,r7_4_1.2.2.2.2.2.1,r7_4_1.2.2.2.2.2.2.1,r7_4_1.2.2.2.2.2.2.2.1,r7_4_1.2.2.2.2.2.2.2.2.1,r7_4_1.2.2.2.2.2.2.2.2.2.1,r7_4_1.2.2.2.2.2.2.2.2.2.2.1,r7_4_1.2.2.2.2.2.2.2.2.2.2.2.1,r7_4_1.2.2.2.2.2.2.2.2.2.2.2.2.1,r7_4_1.2.2.2.2.2.2.2.2.2.2.2.2.2.1,r7_4_1.2.2.2.2.2.2.2.2.2.2.2.2.2.2.1,r7_4_1.2.2.2.2.2.2.2.2.2.2.2.2.2.2.2.1,r7_4_1.2.2.2.2.2.2.2.2.2.2.2.2.2.2.2.2.1,r7_4_1.2.2.2.2.2.2.2.2.2.2.2.2.2.2.2.2.2.1,r7_4_1.2.2.2.2.2.2.2.2.2.2.2.2.2.2.2.2.2.2.1,r7_4_1.2.2.2.2.2.2.2.2.2.2.2.2.2.2.2.2.2.2.2.1,r7_4_1.2.2.2.2.2.2.2.2.2.2.2.2.2.2.2.2.2.2.2.2.1,r7_4_1.2.2.2.2.2.2.2.2.2.2.2.2.2.2.2.2.2.2.2.2.2.1,r7_4_1.2.2.2.2.2.2.2.2.2.2.2.2.2.2.2.2.2.2.2.2.2.2.1,r7_4_1.2.2.2.2.2.2.2.2.2.2.2.2.2.2.2.2.2.2.2.2.2.2.2.1,r7_4_1.2.2.2.2.2.2.2.2.2.2.2.2.2.2.2.2.2.2.2.2.2.2.2.2.1,r7_4_1.2.2.2.2.2.2.2.2.2.2.2.2.2.2.2.2.2.2.2.2.2.2.2.2.2.1,r7_4_1.2.2.2.2.2.2.2.2.2.2.2.2.2.2.2.2.2.2.2.2.2.2.2.2.2.2.1,s_4,())
 (((wV1 p0 (16:Int))∧((xQ6 (vR9 y1) (vH3 y1) (vG6 y1) x1)∧((wV1 r1_2_0 (128:Int))∧(xQ6 (vS0 y7) (vH4 y7) (vG7 y7) x7)))),(),((vQ9 y7 e7),s_5,()))
def uE5 p0 p1:=(uM2 p0 p1).1
def sB4 p0 p1:=(uM2 p0 p1).2.1
def tM5 p0 p1:=(uM2 p0 p1).2.2
instance (p0 p1):Decidable (uE5 p0 p1):=by unfold uE5 uM2;dsimp only;infer_instance
theorem tG2:SK 67 (fnSpec [(0,(.box T60 (.val T60))),(1,(.box T52 (.agg (.cons (.int .i64) (.cons (.int .i64) (.cons (.int .i64) (.cons .str (.cons .bool (.cons .bool (.cons .bool (.cons (.int .i64) (.cons (.int .i64) (.cons T26 (.cons T43 (.cons (.int .i64) (.cons T23 (.cons T45 (.cons (.int .i64) (.cons (.sl (.int .i64)) (.cons (.int .i64) (.cons (.sl T111) (.cons (.sl T114) (.cons (.int .i64) (.cons (.int .i64) (.cons (.int .i64) (.cons (.int .i64) (.cons .str (.cons (.int .i64) (.cons (.int .i64) (.cons (.int .i64) (.cons T50 .nl)))))))))))))))))))))))))))) (.cons vI (.cons vI (.cons vI (.cons vS (.cons vB (.cons vB (.cons vB (.cons vI (.cons vI (.cons (.val T26) (.cons (.val T43) (.cons vI (.cons (.val T23) (.cons (.val T45) (.cons vI (.cons (.own (.int .i64) 400102 false) (.cons vI (.cons (.own T111 400103 false) (.cons (.own T114 400104 false) (.cons vI (.cons vI (.cons vI (.cons vI (.cons vS (.cons vI (.cons vI (.cons vI (.cons (.agg (.cons (.int .i64) (.cons (.int .i64) (.cons (.int .i64) (.cons (.sl T106) .nl)))) (.cons vI (.cons vI (.cons vI (.cons (.own T106 400105 false) .nl))))) .nl)))))))))))))))))))))))))))))))] (.tup .nl) [(0,(.box T60 (.val T60))),(1,(.box T52 (.agg (.cons (.int .i64) (.cons (.int .i64) (.cons (.int .i64) (.cons .str (.cons .bool (.cons .bool (.cons .bool (.cons (.int .i64) (.cons (.int .i64) (.cons T26 (.cons T43 (.cons (.int .i64) (.cons T23 (.cons T45 (.cons (.int .i64) (.cons (.sl (.int .i64)) (.cons (.int .i64) (.cons (.sl T111) (.cons (.sl T114) (.cons (.int .i64) (.cons (.int .i64) (.cons (.int .i64) (.cons (.int .i64) (.cons .str (.cons (.int .i64) (.cons (.int .i64) (.cons (.int .i64) (.cons T50 .nl)))))))))))))))))))))))))))) (.cons vI (.cons vI (.cons vI (.cons vS (.cons vB (.cons vB (.cons vB (.cons vI (.cons vI (.cons (.val T26) (.cons (.val T43) (.cons vI (.cons (.val T23) (.cons (.val T45) (.cons vI (.cons (.own (.int .i64) 400102 false) (.cons vI (.cons (.own T111 400103 false) (.cons (.own T114 400104 false) (.cons vI (.cons vI (.cons vI (.cons vI (.cons vS (.cons vI (.cons vI (.cons vI (.cons (.agg (.cons (.int .i64) (.cons (.int .i64) (.cons (.int .i64) (.cons (.sl T106) .nl)))) (.cons vI (.cons vI (.cons vI (.cons (.own T106 400105 false) .nl))))) .nl)))))))))))))))))))))))))))))))] (fun x=>uE5 x.1 x.2.1) (fun x=>sB4 x.1 x.2.1) (fun x=>tM5 x.1 x.2.1)):=fx (fun c=>{ c with wants:=[(63,[])] }) Tryz.func67 68 [kb vB2,kb tG,kb tG0,kb tG1] [(1,uR9),(7,uS),(11,uM1)] [(9,[(4,0,30,400103)]),(31,[(4,0,64,400104)])] true [0,1]
def uE6 (p0:D60)(p1:Unit)(p2:(Int×Int×Int×(List UInt8)×Bool×Bool×Bool×Int×Int×D26×D43×Int×D23×D45×Int×(List Int)×Int×(List D111)×(List D114)×Int×Int×Int×Int×(List UInt8)×Int×Int×Int×(Int×Int×Int×(List D106)×Unit)×Unit)):List Prop×(Unit)×(D60×Unit×(Int×Int×Int×(List UInt8)×Bool×Bool×Bool×Int×Int×D26×D43×Int×D23×D45×Int×(List Int)×Int×(List D111)×(List D114)×Int×Int×Int×Int×(List UInt8)×Int×Int×Int×(Int×Int×Int×(List D106)×Unit)×Unit)×Unit):=
 let v14o:=(wU0 p0)
 let v14o_1:=(wU0 v14o.1)
 let v14o_2:=(wU0 v14o_1.1)
 let s:=(p2.2.2.2.2.2.2.2.2.2.2.2.2.2.2.2.2.2.2.2.2.2.2.2.2.2.2.2.1.1,p2.2.2.2.2.2.2.2.2.2.2.2.2.2.2.2.2.2.2.2.2.2.2.2.2.2.2.2.1.2.1,p2.2.2.2.2.2.2.2.2.2.2.2.2.2.2.2.2.2.2.2.2.2.2.2.2.2.2.2.1.2.2.1,p2.2.2.2.2.2.2.2.2.2.2.2.2.2.2.2.2.2.2.2.2.2.2.2.2.2.2.2.1.2.2.2.1,())
 let s_1:=(p2.1,p2.2.1,p2.2.2.1,p2.2.2.2.1,p2.2.2.2.2.1,p2.2.2.2.2.2.1,p2.2.2.2.2.2.2.1,p2.2.2.2.2.2.2.2.1,p2.2.2.2.2.2.2.2.2.1,p2.2.2.2.2.2.2.2.2.2.1,p2.2.2.2.2.2.2.2.2.2.2.1,p2.2.2.2.2.2.2.2.2.2.2.2.1,p2.2.2.2.2.2.2.2.2.2.2.2.2.1,p2.2.2.2.2.2.2.2.2.2.2.2.2.2.1,p2.2.2.2.2.2.2.2.2.2.2.2.2.2.2.1,p2.2.2.2.2.2.2.2.2.2.2.2.2.2.2.2.1,p2.2.2.2.2.2.2.2.2.2.2.2.2.2.2.2.2.1,p2.2.2.2.2.2.2.2.2.2.2.2.2.2.2.2.2.2.1,p2.2.2.2.2.2.2.2.2.2.2.2.2.2.2.2.2.2.2.1,(wV0 p0),(wV0 v14o.1),(wV0 v14o_1.1),(wV0 v14o_2.1),p2.2.2.2.2.2.2.2.2.2.2.2.2.2.2.2.2.2.2.2.2.2.2.2.1,p2.2.2.2.2.2.2.2.2.2.2.2.2.2.2.2.2.2.2.2.2.2.2.2.2.1,p2.2.2.2.2.2.2.2.2.2.2.2.2.2.2.2.2.2.2.2.2.2.2.2.2.2.1,p2.2.2.2.2.2.2.2.2.2.2.2.2.2.2.2.2.2.2.2.2.2.2.2.2.2.2.1,s,())
 ([InB (0:Int) 4,(wT8 p0),InB (1:Int) 4,(wT8 v14o.1),InB (2:Int) 4,(wT8 v14o_1.1),InB (3:Int) 4,(wT8 v14o_2.1)],(),((wU0 v14o_2.1).1,(),s_1,()))
def uE7 (p0:D60)(p1:Unit)(p2:(Int×Int×Int×(List UInt8)×Bool×Bool×Bool×Int×Int×D26×D43×Int×D23×D45×Int×(List Int)×Int×(List D111)×(List D114)×Int×Int×Int×Int×(List UInt8)×Int×Int×Int×(Int×Int×Int×(List D106)×Unit)×Unit)):Prop:=yW (uE6 p0 p1 p2).1
def sB5 p0 p1 p2:=(uE6 p0 p1 p2).2.1
def tM6 p0 p1 p2:=(uE6 p0 p1 p2).2.2
instance (p0:D60)(p1:Unit)(p2:(Int×Int×Int×(List UInt8)×Bool×Bool×Bool×Int×Int×D26×D43×Int×D23×D45×Int×(List Int)×Int×(List D111)×(List D114)×Int×Int×Int×Int×(List UInt8)×Int×Int×Int×(Int×Int×Int×(List D106)×Unit)×Unit)):Decidable (uE7 p0 p1 p2):=by
 unfold uE7 uE6;dsimp only[yW]
 infer_instance
noncomputable def uS0:List (Fb Tryz.prog):=[kb wY3]
noncomputable def tB5:Ctx:={ Cx tys (Fb.l uS0) [] [] true 17 [0,1] [] with skip:=true,dead:=[999999] }
theorem tB6:CtxOk Tryz.prog tB5:=wI7 wU5 (by kernel_rfl) (Fb.all uS0) rfl (by kernel_rfl)
@[reducible] def uE8:List (Nat×Sh):=[(0,(.box T60 (.val T60))),(1,(.ptrs false [some (990001,T52,[.inl 19]),some (990001,T52,[.inl 20]),some (990001,T52,[.inl 21]),some (990001,T52,[.inl 22])])),(990001,(.box T52 (.agg (.cons (.int .i64) (.cons (.int .i64) (.cons (.int .i64) (.cons .str (.cons .bool (.cons .bool (.cons .bool (.cons (.int .i64) (.cons (.int .i64) (.cons T26 (.cons T43 (.cons (.int .i64) (.cons T23 (.cons T45 (.cons (.int .i64) (.cons (.sl (.int .i64)) (.cons (.int .i64) (.cons (.sl T111) (.cons (.sl T114) (.cons (.int .i64) (.cons (.int .i64) (.cons (.int .i64) (.cons (.int .i64) (.cons .str (.cons (.int .i64) (.cons (.int .i64) (.cons (.int .i64) (.cons T50 .nl)))))))))))))))))))))))))))) (.cons vI (.cons vI (.cons vI (.cons vS (.cons vB (.cons vB (.cons vB (.cons vI (.cons vI (.cons (.val T26) (.cons (.val T43) (.cons vI (.cons (.val T23) (.cons (.val T45) (.cons vI (.cons (.own (.int .i64) 400102 false) (.cons vI (.cons (.own T111 400103 false) (.cons (.own T114 400104 false) (.cons vI (.cons vI (.cons vI (.cons vI (.cons vS (.cons vI (.cons vI (.cons vI (.cons (.agg (.cons (.int .i64) (.cons (.int .i64) (.cons (.int .i64) (.cons (.sl T106) .nl)))) (.cons vI (.cons vI (.cons vI (.cons (.own T106 400105 false) .nl))))) .nl)))))))))))))))))))))))))))))))]
theorem tG3:SK 63 (xI2 uE8 (.tup .nl) uE8 (fun x=>uE7 x.1 x.2.1 x.2.2.1) (fun x=>sB5 x.1 x.2.1 x.2.2.1) (fun x=>tM6 x.1 x.2.1 x.2.2.1)):=wP3 (ps:=uE8) (p:=fun x=>(uE6 x.1 x.2.1 x.2.2.1).1) (lv:=[(0,[0,1,6,7,8,990001]),(1,[0,1,6,7,8,9,990001]),(2,[0,1,5,6,7,8,990001]),(3,[0,1,6,7,8,990001]),(4,[0,1,6,7,8,990001])]) tB6 mixed Tryz.func63 (fun _ h=>h) (by kernel_rfl) (fun x=>by kernel_rfl)
def vV0 (p0:D60)(p1:Unit)(p2:(Int×Int×Int×(List UInt8)×Bool×Bool×Bool×Int×Int×D26×D43×Int×D23×D45×Int×(List Int)×Int×(List D111)×(List D114)×Int×Int×Int×Int×(List UInt8)×Int×Int×Int×(Int×Int×Int×(List D106)×Unit)×Unit)):List Prop×(Unit)×(D60×Unit×(Int×Int×Int×(List UInt8)×Bool×Bool×Bool×Int×Int×D26×D43×Int×D23×D45×Int×(List Int)×Int×(List D111)×(List D114)×Int×Int×Int×Int×(List UInt8)×Int×Int×Int×(Int×Int×Int×(List D106)×Unit)×Unit)×Unit):=
 let v14o:=(wU0 p0)
 let v14o_1:=(wU0 v14o.1)
 let v14o_2:=(wU0 v14o_1.1)
 let v14o_3:=(wU0 v14o_2.1)
 let v14o_4:=(wU0 v14o_3.1)
 let s_1:=(p2.1,p2.2.1,p2.2.2.1,p2.2.2.2.1,p2.2.2.2.2.1,p2.2.2.2.2.2.1,p2.2.2.2.2.2.2.1,p2.2.2.2.2.2.2.2.1,p2.2.2.2.2.2.2.2.2.1,p2.2.2.2.2.2.2.2.2.2.1,p2.2.2.2.2.2.2.2.2.2.2.1,p2.2.2.2.2.2.2.2.2.2.2.2.1,p2.2.2.2.2.2.2.2.2.2.2.2.2.1,p2.2.2.2.2.2.2.2.2.2.2.2.2.2.1,p2.2.2.2.2.2.2.2.2.2.2.2.2.2.2.1,p2.2.2.2.2.2.2.2.2.2.2.2.2.2.2.2.1,p2.2.2.2.2.2.2.2.2.2.2.2.2.2.2.2.2.1,p2.2.2.2.2.2.2.2.2.2.2.2.2.2.2.2.2.2.1,p2.2.2.2.2.2.2.2.2.2.2.2.2.2.2.2.2.2.2.1,p2.2.2.2.2.2.2.2.2.2.2.2.2.2.2.2.2.2.2.2.1,p2.2.2.2.2.2.2.2.2.2.2.2.2.2.2.2.2.2.2.2.2.1,p2.2.2.2.2.2.2.2.2.2.2.2.2.2.2.2.2.2.2.2.2.2.1,p2.2.2.2.2.2.2.2.2.2.2.2.2.2.2.2.2.2.2.2.2.2.2.1,p2.2.2.2.2.2.2.2.2.2.2.2.2.2.2.2.2.2.2.2.2.2.2.2.1,(wV0 p0),(wV0 v14o.1),(wV0 v14o_1.1),((wV0 v14o_2.1),(wV0 v14o_3.1),(wV0 v14o_4.1),p2.2.2.2.2.2.2.2.2.2.2.2.2.2.2.2.2.2.2.2.2.2.2.2.2.2.2.2.1.2.2.2.1,()),())
 ([InB (0:Int) 6,(wT8 p0),InB (1:Int) 6,(wT8 v14o.1),InB (2:Int) 6,(wT8 v14o_1.1),InB (3:Int) 6,(wT8 v14o_2.1),InB (4:Int) 6,(wT8 v14o_3.1),InB (5:Int) 6,(wT8 v14o_4.1)],(),((wU0 v14o_4.1).1,(),s_1,()))
def vW1 (p0:D60)(p1:Unit)(p2:(Int×Int×Int×(List UInt8)×Bool×Bool×Bool×Int×Int×D26×D43×Int×D23×D45×Int×(List Int)×Int×(List D111)×(List D114)×Int×Int×Int×Int×(List UInt8)×Int×Int×Int×(Int×Int×Int×(List D106)×Unit)×Unit)):Prop:=yW (vV0 p0 p1 p2).1
def tV p0 p1 p2:=(vV0 p0 p1 p2).2.1
def tG4 p0 p1 p2:=(vV0 p0 p1 p2).2.2
instance (p0:D60)(p1:Unit)(p2:(Int×Int×Int×(List UInt8)×Bool×Bool×Bool×Int×Int×D26×D43×Int×D23×D45×Int×(List Int)×Int×(List D111)×(List D114)×Int×Int×Int×Int×(List UInt8)×Int×Int×Int×(Int×Int×Int×(List D106)×Unit)×Unit)):Decidable (vW1 p0 p1 p2):=by
 unfold vW1 vV0;dsimp only[yW]
 infer_instance
noncomputable def uH:List (Fb Tryz.prog):=[kb wY3]
noncomputable def uT6:Ctx:={ Cx tys (Fb.l uH) [] [] true 17 [0,1] [] with skip:=true,dead:=[999999] }
theorem uT7:CtxOk Tryz.prog uT6:=wI7 wU5 (by kernel_rfl) (Fb.all uH) rfl (by kernel_rfl)
@[reducible] def vW2:List (Nat×Sh):=[(0,(.box T60 (.val T60))),(1,(.ptrs false [some (990001,T52,[.inl 24]),some (990001,T52,[.inl 25]),some (990001,T52,[.inl 26]),some (990001,T52,[.inl 27,.inl 0]),some (990001,T52,[.inl 27,.inl 1]),some (990001,T52,[.inl 27,.inl 2])])),(990001,(.box T52 (.agg (.cons (.int .i64) (.cons (.int .i64) (.cons (.int .i64) (.cons .str (.cons .bool (.cons .bool (.cons .bool (.cons (.int .i64) (.cons (.int .i64) (.cons T26 (.cons T43 (.cons (.int .i64) (.cons T23 (.cons T45 (.cons (.int .i64) (.cons (.sl (.int .i64)) (.cons (.int .i64) (.cons (.sl T111) (.cons (.sl T114) (.cons (.int .i64) (.cons (.int .i64) (.cons (.int .i64) (.cons (.int .i64) (.cons .str (.cons (.int .i64) (.cons (.int .i64) (.cons (.int .i64) (.cons T50 .nl)))))))))))))))))))))))))))) (.cons vI (.cons vI (.cons vI (.cons vS (.cons vB (.cons vB (.cons vB (.cons vI (.cons vI (.cons (.val T26) (.cons (.val T43) (.cons vI (.cons (.val T23) (.cons (.val T45) (.cons vI (.cons (.own (.int .i64) 400102 false) (.cons vI (.cons (.own T111 400103 false) (.cons (.own T114 400104 false) (.cons vI (.cons vI (.cons vI (.cons vI (.cons vS (.cons vI (.cons vI (.cons vI (.cons (.agg (.cons (.int .i64) (.cons (.int .i64) (.cons (.int .i64) (.cons (.sl T106) .nl)))) (.cons vI (.cons vI (.cons vI (.cons (.own T106 400105 false) .nl))))) .nl)))))))))))))))))))))))))))))))]
theorem tB7:SK 63 (xI2 vW2 (.tup .nl) vW2 (fun x=>vW1 x.1 x.2.1 x.2.2.1) (fun x=>tV x.1 x.2.1 x.2.2.1) (fun x=>tG4 x.1 x.2.1 x.2.2.1)):=wP3 (ps:=vW2) (p:=fun x=>(vV0 x.1 x.2.1 x.2.2.1).1) (lv:=[(0,[0,1,6,7,8,990001]),(1,[0,1,6,7,8,9,990001]),(2,[0,1,5,6,7,8,990001]),(3,[0,1,6,7,8,990001]),(4,[0,1,6,7,8,990001])]) uT7 mixed Tryz.func63 (fun _ h=>h) (by kernel_rfl) (fun x=>by kernel_rfl)
def uX0 (p0:D60)(p1:Unit)(p2:D106):List Prop×(Unit)×(D60×Unit×D106×Unit):=
 let v14o:=(wU0 p0)
 ([InB (0:Int) 2,(wT8 p0),InB (1:Int) 2,(wT8 v14o.1)],(),((wU0 v14o.1).1,(),((wV0 p0),(wV0 v14o.1),()),()))
def uH0 (p0:D60)(p1:Unit)(p2:D106):Prop:=yW (uX0 p0 p1 p2).1
instance (p0:D60)(p1:Unit)(p2:D106):Decidable (uH0 p0 p1 p2):=by
 unfold uH0 uX0;dsimp only[yW]
 infer_instance
abbrev vK7:Type:=(D23×D23×Unit)
abbrev vD1:Type:=(Int×Unit)
def vW3 (y:vK7)(x:vD1):Prop×Bool×vD1×Bool×Bool:=
 let a2:=y.1
 let a3:=y.2.1
 let a5:=x.1
 let v31:=(decide (a5<(len a2.2.2.1)))
 let v44:=(!(Ty.eqb T45 (nth a2.2.2.1 a5 Z45) (nth a3.2.2.1 a5 Z45)))
 ((v31=true→(InB a5 (len a2.2.2.1)∧(InB a5 (len a3.2.2.1)∧((!v44)=true→InR (a5+1))))),(v31&&(!v44)),((a5+1),()),(v31&&v44),(!v31))
def vV1 y x:=(vW3 y x).1
def uM3 y x:=(vW3 y x).2.1
def vS1 y x:=(vW3 y x).2.2.1
def uS1 y x:=(vW3 y x).2.2.2.1
def tG5 y x:=(vW3 y x).2.2.2.2
instance (y x):Decidable (vV1 y x):=by unfold vV1 vW3;dsimp only;infer_instance
def uE9 (y:vK7)(x:vD1):Bool:=
 false
def tG6:=li [(2,(.box T23 (.val T23))),(3,(.box T23 (.val T23)))] [(5,vI)] uM3 vS1 vV1 (fun y x=>[ex 1 (some (uS1 y x)) [(4,vB)] ((uE9 y x),()),ex 2 (some (tG5 y x)) [] ()]) [[(4,vB)],[]]
def f16t (p0:D23)(p1:D23):Prop×Bool:=
 let v26:=(bif (bif (p0.1 !=p1.1) then true else (p0.2.1 !=p1.2.1)) then true else ((len p0.2.2.1)!=(len p1.2.2.1)))
 let y4:=(p0,p1,())
 let x4:=((0:Int),())
 let e4:=(zC5 (uM3 y4) (vS1 y4) x4)
 (((!v26)=true→(xQ6 (uM3 y4) (vS1 y4) (vV1 y4) x4)),(bif v26 then false else (bif (uS1 y4 e4) then (uE9 y4 e4) else true)))
def uX1 p0 p1:=(f16t p0 p1).1
def f16 p0 p1:=(f16t p0 p1).2
instance (p0 p1):Decidable (uX1 p0 p1):=by unfold uX1 f16t;dsimp only;infer_instance
theorem tS:SK 16 (sp2 (.val T23) (.val T23) vB uX1 f16):=fb Tryz.func16 45 [] [(4,tG6)]
abbrev vK8:Type:=((List Int)×(List Int)×Unit)
abbrev vD2:Type:=(Int×Unit)
def vW4 (y:vK8)(x:vD2):Prop×Bool×vD2×Bool×Bool:=
 let a0:=y.1
 let a1:=y.2.1
 let a5:=x.1
 let v14:=(decide (a5<(len a0)))
 let v25:=((nth a0 a5 (0:Int))!=(nth a1 a5 (0:Int)))
 ((v14=true→(InB a5 (len a0)∧(InB a5 (len a1)∧((!v25)=true→InR (a5+1))))),(v14&&(!v25)),((a5+1),()),(v14&&v25),(!v14))
def vV2 y x:=(vW4 y x).1
def uM4 y x:=(vW4 y x).2.1
def vS2 y x:=(vW4 y x).2.2.1
def uS2 y x:=(vW4 y x).2.2.2.1
def tG7 y x:=(vW4 y x).2.2.2.2
instance (y x):Decidable (vV2 y x):=by unfold vV2 vW4;dsimp only;infer_instance
def uF (y:vK8)(x:vD2):Bool:=
 false
def tG8:=li [(0,(.val (.sl (.int .i64)))),(1,(.val (.sl (.int .i64))))] [(5,vI)] uM4 vS2 vV2 (fun y x=>[ex 1 (some (uS2 y x)) [(4,vB)] ((uF y x),()),ex 2 (some (tG7 y x)) [] ()]) [[(4,vB)],[]]
def f43t (p0:List Int)(p1:List Int):Prop×Bool:=
 let v10:=((len p0)!=(len p1))
 let y4:=(p0,p1,())
 let x4:=((0:Int),())
 let e4:=(zC5 (uM4 y4) (vS2 y4) x4)
 (((!v10)=true→(xQ6 (uM4 y4) (vS2 y4) (vV2 y4) x4)),(bif v10 then false else (bif (uS2 y4 e4) then (uF y4 e4) else true)))
def uS3 p0 p1:=(f43t p0 p1).1
def f43 p0 p1:=(f43t p0 p1).2
instance (p0 p1):Decidable (uS3 p0 p1):=by unfold uS3 f43t;dsimp only;infer_instance
theorem tS0:SK 43 (sp2 (.val (.sl (.int .i64))) (.val (.sl (.int .i64))) vB uS3 f43):=fb Tryz.func43 26 [] [(4,tG8)]
def f17t (p0:D26)(p1:D26):Prop×Bool:=
 let v16:=(bif (p0.1==p1.1) then (p0.2.1==p1.2.1) else false)
 ((v16=true→(uS3 p0.2.2.1 p1.2.2.1)),(bif v16 then (f43 p0.2.2.1 p1.2.2.1) else false))
def uX2 p0 p1:=(f17t p0 p1).1
def f17 p0 p1:=(f17t p0 p1).2
instance (p0 p1):Decidable (uX2 p0 p1):=by unfold uX2 f17t;dsimp only;infer_instance
theorem tS1:SK 17 (sp2 (.val T26) (.val T26) vB uX2 f17):=fb Tryz.func17 24 [kb tS0]
abbrev vK9:Type:=((List D111)×(List D111)×Unit)
abbrev vD3:Type:=(Int×Unit)
def vW5 (y:vK9)(x:vD3):Prop×Bool×vD3×Bool×Bool:=
 let a0:=y.1
 let a1:=y.2.1
 let a5:=x.1
 let v14:=(decide (a5<(len a0)))
 let v25:=(!(Ty.eqb T111 (nth a0 a5 Z111) (nth a1 a5 Z111)))
 ((v14=true→(InB a5 (len a0)∧(InB a5 (len a1)∧((!v25)=true→InR (a5+1))))),(v14&&(!v25)),((a5+1),()),(v14&&v25),(!v14))
def vV3 y x:=(vW5 y x).1
def uM5 y x:=(vW5 y x).2.1
def vS3 y x:=(vW5 y x).2.2.1
def uS4 y x:=(vW5 y x).2.2.2.1
def tG9 y x:=(vW5 y x).2.2.2.2
instance (y x):Decidable (vV3 y x):=by unfold vV3 vW5;dsimp only;infer_instance
def uF0 (y:vK9)(x:vD3):Bool:=
 false
def tH:=li [(0,(.val (.sl T111))),(1,(.val (.sl T111)))] [(5,vI)] uM5 vS3 vV3 (fun y x=>[ex 1 (some (uS4 y x)) [(4,vB)] ((uF0 y x),()),ex 2 (some (tG9 y x)) [] ()]) [[(4,vB)],[]]
def f97t (p0:List D111)(p1:List D111):Prop×Bool:=
 let v10:=((len p0)!=(len p1))
 let y4:=(p0,p1,())
 let x4:=((0:Int),())
 let e4:=(zC5 (uM5 y4) (vS3 y4) x4)
 (((!v10)=true→(xQ6 (uM5 y4) (vS3 y4) (vV3 y4) x4)),(bif v10 then false else (bif (uS4 y4 e4) then (uF0 y4 e4) else true)))
def uX3 p0 p1:=(f97t p0 p1).1
def f97 p0 p1:=(f97t p0 p1).2
instance (p0 p1):Decidable (uX3 p0 p1):=by unfold uX3 f97t;dsimp only;infer_instance
theorem sB6:SK 97 (sp2 (.val (.sl T111)) (.val (.sl T111)) vB uX3 f97):=fb Tryz.func97 26 [] [(4,tH)]
abbrev vL:Type:=((List D114)×(List D114)×Unit)
abbrev vD4:Type:=(Int×Unit)
def vW6 (y:vL)(x:vD4):Prop×Bool×vD4×Bool×Bool:=
 let a0:=y.1
 let a1:=y.2.1
 let a5:=x.1
 let v14:=(decide (a5<(len a0)))
 let v25:=(!(Ty.eqb T114 (nth a0 a5 Z114) (nth a1 a5 Z114)))
 ((v14=true→(InB a5 (len a0)∧(InB a5 (len a1)∧((!v25)=true→InR (a5+1))))),(v14&&(!v25)),((a5+1),()),(v14&&v25),(!v14))
def vV4 y x:=(vW6 y x).1
def uM6 y x:=(vW6 y x).2.1
def vS4 y x:=(vW6 y x).2.2.1
def uS5 y x:=(vW6 y x).2.2.2.1
def tH0 y x:=(vW6 y x).2.2.2.2
instance (y x):Decidable (vV4 y x):=by unfold vV4 vW6;dsimp only;infer_instance
def uF1 (y:vL)(x:vD4):Bool:=
 false
def tH1:=li [(0,(.val (.sl T114))),(1,(.val (.sl T114)))] [(5,vI)] uM6 vS4 vV4 (fun y x=>[ex 1 (some (uS5 y x)) [(4,vB)] ((uF1 y x),()),ex 2 (some (tH0 y x)) [] ()]) [[(4,vB)],[]]
def f98t (p0:List D114)(p1:List D114):Prop×Bool:=
 let v10:=((len p0)!=(len p1))
 let y4:=(p0,p1,())
 let x4:=((0:Int),())
 let e4:=(zC5 (uM6 y4) (vS4 y4) x4)
 (((!v10)=true→(xQ6 (uM6 y4) (vS4 y4) (vV4 y4) x4)),(bif v10 then false else (bif (uS5 y4 e4) then (uF1 y4 e4) else true)))
def uX4 p0 p1:=(f98t p0 p1).1
def f98 p0 p1:=(f98t p0 p1).2
instance (p0 p1):Decidable (uX4 p0 p1):=by unfold uX4 f98t;dsimp only;infer_instance
theorem sB7:SK 98 (sp2 (.val (.sl T114)) (.val (.sl T114)) vB uX4 f98):=fb Tryz.func98 26 [] [(4,tH1)]
abbrev vL0:Type:=(D50×D50×Unit)
abbrev vD5:Type:=(Int×Unit)
def vW7 (y:vL0)(x:vD5):Prop×Bool×vD5×Bool×Bool:=
 let a2:=y.1
 let a3:=y.2.1
 let a5:=x.1
 let v38:=(decide (a5<(len a2.2.2.2.1)))
 let v51:=(!(Ty.eqb T106 (nth a2.2.2.2.1 a5 Z106) (nth a3.2.2.2.1 a5 Z106)))
 ((v38=true→(InB a5 (len a2.2.2.2.1)∧(InB a5 (len a3.2.2.2.1)∧((!v51)=true→InR (a5+1))))),(v38&&(!v51)),((a5+1),()),(v38&&v51),(!v38))
def vV5 y x:=(vW7 y x).1
def uM7 y x:=(vW7 y x).2.1
def vS5 y x:=(vW7 y x).2.2.1
def uS6 y x:=(vW7 y x).2.2.2.1
def tH2 y x:=(vW7 y x).2.2.2.2
instance (y x):Decidable (vV5 y x):=by unfold vV5 vW7;dsimp only;infer_instance
def uF2 (y:vL0)(x:vD5):Bool:=
 false
def tH3:=li [(2,(.box T50 (.val T50))),(3,(.box T50 (.val T50)))] [(5,vI)] uM7 vS5 vV5 (fun y x=>[ex 1 (some (uS6 y x)) [(4,vB)] ((uF2 y x),()),ex 2 (some (tH2 y x)) [] ()]) [[(4,vB)],[]]
def f99t (p0:D50)(p1:D50):Prop×Bool:=
 let v33:=(bif (bif (bif (p0.1 !=p1.1) then true else (p0.2.1 !=p1.2.1)) then true else (p0.2.2.1 !=p1.2.2.1)) then true else ((len p0.2.2.2.1)!=(len p1.2.2.2.1)))
 let y4:=(p0,p1,())
 let x4:=((0:Int),())
 let e4:=(zC5 (uM7 y4) (vS5 y4) x4)
 (((!v33)=true→(xQ6 (uM7 y4) (vS5 y4) (vV5 y4) x4)),(bif v33 then false else (bif (uS6 y4 e4) then (uF2 y4 e4) else true)))
def uX5 p0 p1:=(f99t p0 p1).1
def f99 p0 p1:=(f99t p0 p1).2
instance (p0 p1):Decidable (uX5 p0 p1):=by unfold uX5 f99t;dsimp only;infer_instance
theorem sB8:SK 99 (sp2 (.val T50) (.val T50) vB uX5 f99):=fb Tryz.func99 52 [] [(4,tH3)]
def f76t (p0:D52)(p1:D52):Prop×Bool:=
 let v23:=(bif (bif (f16 p0.2.2.2.2.2.2.2.2.2.2.2.2.1 p1.2.2.2.2.2.2.2.2.2.2.2.2.1) then (Ty.eqb T45 p0.2.2.2.2.2.2.2.2.2.2.2.2.2.1 p1.2.2.2.2.2.2.2.2.2.2.2.2.2.1) else false) then (p0.2.2.2.2.2.2.2.2.2.2.2.2.2.2.1==p1.2.2.2.2.2.2.2.2.2.2.2.2.2.2.1) else false)
 let v37:=(bif (bif v23 then (f43 p0.2.2.2.2.2.2.2.2.2.2.2.2.2.2.2.1 p1.2.2.2.2.2.2.2.2.2.2.2.2.2.2.2.1) else false) then (p0.2.2.2.2.2.2.2.2.2.2.2.2.2.2.2.2.1==p1.2.2.2.2.2.2.2.2.2.2.2.2.2.2.2.2.1) else false)
 let v44:=(bif v37 then (f97 p0.2.2.2.2.2.2.2.2.2.2.2.2.2.2.2.2.2.1 p1.2.2.2.2.2.2.2.2.2.2.2.2.2.2.2.2.2.1) else false)
 let v58:=(bif (bif v44 then (f98 p0.2.2.2.2.2.2.2.2.2.2.2.2.2.2.2.2.2.2.1 p1.2.2.2.2.2.2.2.2.2.2.2.2.2.2.2.2.2.2.1) else false) then (p0.2.2.2.2.2.2.2.2.2.2.2.2.2.2.2.2.2.2.2.1==p1.2.2.2.2.2.2.2.2.2.2.2.2.2.2.2.2.2.2.2.1) else false)
 let v72:=(bif (bif v58 then (p0.2.2.2.2.2.2.2.2.2.2.2.2.2.2.2.2.2.2.2.2.1==p1.2.2.2.2.2.2.2.2.2.2.2.2.2.2.2.2.2.2.2.2.1) else false) then (p0.2.2.2.2.2.2.2.2.2.2.2.2.2.2.2.2.2.2.2.2.2.1==p1.2.2.2.2.2.2.2.2.2.2.2.2.2.2.2.2.2.2.2.2.2.1) else false)
 let v86:=(bif (bif v72 then (p0.2.2.2.2.2.2.2.2.2.2.2.2.2.2.2.2.2.2.2.2.2.2.1==p1.2.2.2.2.2.2.2.2.2.2.2.2.2.2.2.2.2.2.2.2.2.2.1) else false) then (p0.2.2.2.2.2.2.2.2.2.2.2.2.2.2.2.2.2.2.2.2.2.2.2.1==p1.2.2.2.2.2.2.2.2.2.2.2.2.2.2.2.2.2.2.2.2.2.2.2.1) else false)
 let v100:=(bif (bif v86 then (p0.2.2.2.2.2.2.2.2.2.2.2.2.2.2.2.2.2.2.2.2.2.2.2.2.1==p1.2.2.2.2.2.2.2.2.2.2.2.2.2.2.2.2.2.2.2.2.2.2.2.2.1) else false) then (p0.2.2.2.2.2.2.2.2.2.2.2.2.2.2.2.2.2.2.2.2.2.2.2.2.2.1==p1.2.2.2.2.2.2.2.2.2.2.2.2.2.2.2.2.2.2.2.2.2.2.2.2.2.1) else false)
 let v107:=(bif v100 then (p0.2.2.2.2.2.2.2.2.2.2.2.2.2.2.2.2.2.2.2.2.2.2.2.2.2.2.1==p1.2.2.2.2.2.2.2.2.2.2.2.2.2.2.2.2.2.2.2.2.2.2.2.2.2.2.1) else false)
 (((uX1 p0.2.2.2.2.2.2.2.2.2.2.2.2.1 p1.2.2.2.2.2.2.2.2.2.2.2.2.1)∧((v23=true→(uS3 p0.2.2.2.2.2.2.2.2.2.2.2.2.2.2.2.1 p1.2.2.2.2.2.2.2.2.2.2.2.2.2.2.2.1))∧((v37=true→(uX3 p0.2.2.2.2.2.2.2.2.2.2.2.2.2.2.2.2.2.1 p1.2.2.2.2.2.2.2.2.2.2.2.2.2.2.2.2.2.1))∧((v44=true→(uX4 p0.2.2.2.2.2.2.2.2.2.2.2.2.2.2.2.2.2.2.1 p1.2.2.2.2.2.2.2.2.2.2.2.2.2.2.2.2.2.2.1))∧(v107=true→(uX5 p0.2.2.2.2.2.2.2.2.2.2.2.2.2.2.2.2.2.2.2.2.2.2.2.2.2.2.2.1 p1.2.2.2.2.2.2.2.2.2.2.2.2.2.2.2.2.2.2.2.2.2.2.2.2.2.2.2.1)))))),(bif v107 then (f99 p0.2.2.2.2.2.2.2.2.2.2.2.2.2.2.2.2.2.2.2.2.2.2.2.2.2.2.2.1 p1.2.2.2.2.2.2.2.2.2.2.2.2.2.2.2.2.2.2.2.2.2.2.2.2.2.2.2.1) else false))
def uX6 p0 p1:=(f76t p0 p1).1
def f76 p0 p1:=(f76t p0 p1).2
instance (p0 p1):Decidable (uX6 p0 p1):=by unfold uX6 f76t;dsimp only;infer_instance
theorem sB9:SK 76 (sp2 (.val T52) (.val T52) vB uX6 f76):=fb Tryz.func76 115 [kb tS,kb tS0,kb sB6,kb sB7,kb sB8]
def f24t (p0:D52)(p1:D52):Prop×Bool:=
 let v37:=(bif (bif (bif (bif (p0.1==p1.1) then (p0.2.1==p1.2.1) else false) then (p0.2.2.1==p1.2.2.1) else false) then (p0.2.2.2.1==p1.2.2.2.1) else false) then (Ty.eqb .bool p0.2.2.2.2.1 p1.2.2.2.2.1) else false)
 let v58:=(bif (bif (bif v37 then (Ty.eqb .bool p0.2.2.2.2.2.1 p1.2.2.2.2.2.1) else false) then (Ty.eqb .bool p0.2.2.2.2.2.2.1 p1.2.2.2.2.2.2.1) else false) then (p0.2.2.2.2.2.2.2.1==p1.2.2.2.2.2.2.2.1) else false)
 let v65:=(bif v58 then (p0.2.2.2.2.2.2.2.2.1==p1.2.2.2.2.2.2.2.2.1) else false)
 let v86:=(bif (bif (bif v65 then (f17 p0.2.2.2.2.2.2.2.2.2.1 p1.2.2.2.2.2.2.2.2.2.1) else false) then (Ty.eqb T43 p0.2.2.2.2.2.2.2.2.2.2.1 p1.2.2.2.2.2.2.2.2.2.2.1) else false) then (p0.2.2.2.2.2.2.2.2.2.2.2.1==p1.2.2.2.2.2.2.2.2.2.2.2.1) else false)
 (((v65=true→(uX2 p0.2.2.2.2.2.2.2.2.2.1 p1.2.2.2.2.2.2.2.2.2.1))∧(v86=true→(uX6 p0 p1))),(bif v86 then (f76 p0 p1) else false))
def tH4 p0 p1:=(f24t p0 p1).1
def f24 p0 p1:=(f24t p0 p1).2
instance (p0 p1):Decidable (tH4 p0 p1):=by unfold tH4 f24t;dsimp only;infer_instance
theorem sC:SK 24 (sp2 (.val T52) (.val T52) vB tH4 f24):=fb Tryz.func24 92 [kb tS1,kb sB9]
def f10t (p0:List UInt8):Prop×Unit×(D60×Unit):=
 (True,(),((true,p0,(0:Int),(0:Int),()),()))
def tH5 p0:=(f10t p0).1
def f10 p0:=(f10t p0).2.1
def sC9 p0:=(f10t p0).2.2
instance (p0):Decidable (tH5 p0):=by unfold tH5 f10t;dsimp only;infer_instance
theorem tS2:SK 10 (fnSpec [(0,vS)] (.ref 900000 T60) [(900000,(.box T60 (.val T60)))] (fun x=>tH5 x.1) (fun x=>f10 x.1) (fun x=>sC9 x.1)):=fb Tryz.func10 6 [] [] [(3,[(6,5,0,900000)])] false [900000]
noncomputable def kd {n:Nat}{ps:List (Nat×Sh)}{rs:Sh}{os:List (Nat×Sh)}{ok:zB5 ps→Prop}[DecidablePred ok]{F:zB5 ps→rs.den}{o:zB5 ps→yC7 os}(h:SpecOk Tryz.prog n (fnSpec ps rs os ok F o)):Fb Tryz.prog:=⟨n,wC0 ps rs os ok F o,wS0 h⟩
noncomputable def tH6:List (Fb Tryz.prog):=[kd tS2,kd uN7,kd vN,kd uN6]
noncomputable def tM7:Ctx:={ Cx tys (Fb.l tH6) [] [] true 39 [] [] with skip:=true,dead:=[999999],closed:=true }
theorem tM8:CtxOk Tryz.prog tM7:=wI7 wU5 (by kernel_rfl) (Fb.all tH6) rfl (by kernel_rfl)
theorem tV0:SK 88 (fnSpec [(0,vS)] (.tup (.cons vS (.cons vI (.cons vI .nl)))) [] (fun x=>x=([],())) (fun _=>([],0,5,())) (fun _=>())):=wQ1 (lv:=[(0,[0]),(1,[0,5]),(2,[0,5,6]),(3,[0,5,6,7]),(4,[0,5,6,7,16]),(5,[2,3,4]),(6,[0,5,6,20]),(7,[2,3,4]),(8,[0,6,8]),(9,[6,8,35]),(10,[2,3,4]),(11,[2,3,4])]) (ps:=[(0,vS)]) (rs:=(.tup (.cons vS (.cons vI (.cons vI .nl))))) (os:=[]) (v:=([],0,5,())) (z:=()) (p:=[]) tM8 mixed Tryz.func88 ([],()) trivial (by kernel_rfl) (by kernel_rfl)
noncomputable def tH7:List (Fb Tryz.prog):=[kd tR4]
noncomputable def tM9:Ctx:={ Cx tys (Fb.l tH7) [] [] true 57 [] [] with skip:=true,dead:=[999999],closed:=true }
theorem tN:CtxOk Tryz.prog tM9:=wI7 wU5 (by kernel_rfl) (Fb.all tH7) rfl (by kernel_rfl)
theorem tV1:SK 49 (fnSpec [(0,vS)] (.tup (.cons (.val T90) (.cons vI .nl))) [] (fun x=>x=([73,69,68,50],())) (fun _=>((Ty.dflt T90),4,())) (fun _=>())):=wQ1 (lv:=[(0,[0,2]),(1,[0,2,15]),(2,[2,3]),(3,[2,4,5]),(4,[2,4,23]),(5,[2,3]),(6,[2,4,6,7,8]),(7,[2,4,6,7,8,32]),(8,[2,3]),(9,[2,6,38]),(10,[2,3]),(11,[2,9]),(12,[2,9,10]),(13,[2,10,11]),(14,[2,10,11,47]),(15,[2,3]),(16,[2,10,12]),(17,[2,10,12,53]),(18,[2,3]),(19,[2,3])]) (ps:=[(0,vS)]) (rs:=(.tup (.cons (.val T90) (.cons vI .nl)))) (os:=[]) (v:=((Ty.dflt T90),4,())) (z:=()) (p:=[]) tN mixed Tryz.func49 ([73,69,68,50],()) trivial (by kernel_rfl) (by kernel_rfl)
noncomputable def tH8:List (Fb Tryz.prog):=[kd tR4,kd tV0]
noncomputable def tN0:Ctx:={ Cx tys (Fb.l tH8) [] [] true 57 [] [] with skip:=true,dead:=[999999],closed:=true }
theorem tN1:CtxOk Tryz.prog tN0:=wI7 wU5 (by kernel_rfl) (Fb.all tH8) rfl (by kernel_rfl)
theorem tV2:SK 49 (fnSpec [(0,vS)] (.tup (.cons (.val T90) (.cons vI .nl))) [] (fun x=>x=([73,69,68,49],())) (fun _=>((Ty.dflt T90),5,())) (fun _=>())):=wQ1 (lv:=[(0,[0,2]),(1,[0,2,15]),(2,[2,3]),(3,[2,4,5]),(4,[2,4,23]),(5,[2,3]),(6,[2,4,6,7,8]),(7,[2,4,6,7,8,32]),(8,[2,3]),(9,[2,6,38]),(10,[2,3]),(11,[2,9]),(12,[2,9,10]),(13,[2,10,11]),(14,[2,10,11,47]),(15,[2,3]),(16,[2,10,12]),(17,[2,10,12,53]),(18,[2,3]),(19,[2,3])]) (ps:=[(0,vS)]) (rs:=(.tup (.cons (.val T90) (.cons vI .nl)))) (os:=[]) (v:=((Ty.dflt T90),5,())) (z:=()) (p:=[]) tN1 mixed Tryz.func49 ([73,69,68,49],()) trivial (by kernel_rfl) (by kernel_rfl)
def tS3:Prop:=True
instance:Decidable tS3:=isTrue trivial
def f19:Bool:=true
noncomputable def tS4:List (Fb Tryz.prog):=[kd tY5,kd tY9,kd tS2,kd uB8,kd uC1,kd vN,kd tV1,kd tV2]
noncomputable def tV3:Ctx:={ Cx tys (Fb.l tS4) [] [] true 62 [] [] with skip:=true,dead:=[999999],closed:=true }
theorem tV4:CtxOk Tryz.prog tV3:=wI7 wU5 (by kernel_rfl) (Fb.all tS4) rfl (by kernel_rfl)
theorem sC0:SK 19 (fnSpec [] vB [] (fun _=>tS3) (fun _=>f19) (fun _=>())):=wP0 (lv:=[(0,[]),(1,[1]),(2,[2]),(3,[2,3,4]),(4,[2,3,4]),(5,[2,3,4]),(6,[2,37]),(7,[0]),(8,[2,6]),(9,[2,6,8]),(10,[0])]) (rs:=vB) (p:=[]) (v:=true) tV4 mixed Tryz.func19 (by kernel_rfl) (by kernel_rfl) trivial
end Go.Proofs.YtbiemgjkkhkdeaaGreatDoor.Am
