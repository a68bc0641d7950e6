/- Printed by program, part 2. No condition. -/
import Derived.Test.YtbiemgjkkhkdeaaGreatDoorNatP1
set_option linter.unusedVariables false
set_option synthInstance.maxSize 4000
set_option synthInstance.maxHeartbeats 400000
namespace Go.Proofs.YtbiemgjkkhkdeaaGreatDoor.Am
open Go Go.Am Go.Proofs
def vU6 (p0:Unit)(p1:D60):List Prop×Int×(Unit×D60×Unit):=
 ([(wU1 p1 (65535:Int))],(wS8 p1 (65535:Int)),((),(wS7 p1 (65535:Int)).1,()))
def vK2 (p0:Unit)(p1:D60):Prop:=xI5 (vU6 p0 p1).1
def uE5 p0 p1:=(vU6 p0 p1).2.1
def vS7 p0 p1:=(vU6 p0 p1).2.2
instance (p0:Unit)(p1:D60):Decidable (vK2 p0 p1):=by
 unfold vK2 vU6;dsimp only[xI5]
 infer_instance
noncomputable def uB9:List (Fb Tryz.prog):=[kb vJ3]
noncomputable def uF9:Ctx:={ Cx tys (Fb.l uB9) [] [] true 4 [0] [] with skip:=true,dead:=[999999] }
theorem uG:CtxOk Tryz.prog uF9:=wI0 vM2 (by kernel_rfl) (Fb.all uB9) rfl (by kernel_rfl)
@[reducible] def vU7:List (Nat×Sh):=[(0,(.ptrs true [some (990000,T60,[])])),(990000,(.box T60 (.val T60)))]
theorem uI3:SK 42 (xH8 vU7 vI vU7 (fun x=>vK2 x.1 x.2.1) (fun x=>uE5 x.1 x.2.1) (fun x=>vS7 x.1 x.2.1)):=wO7 (ps:=vU7) (p:=fun x=>(vU6 x.1 x.2.1).1) (lv:=[(0,[0,990000]),(1,[0,1,990000])]) uG mixed Tryz.func42 (fun _ h=>h) (by kernel_rfl) (fun x=>by kernel_rfl)
abbrev vD8:Type:=(D60×(Unit×Unit)×Int×Int×Int×Int×Unit)
abbrev wZ:Type:=((List Int)×Int×Unit)
def vI7 (y:vD8)(x:wZ):Prop×Bool×wZ:=
 let a6:=x.1
 let a62:=x.2.1
 let v63:=(decide (a62<y.2.2.2.2.2.1))
 let v66:=([y.2.2.2.2.1]:List Int)
 ((v63=true→(((List.length a6+List.length v66:Nat):Int)≤4294967296∧InR (a62+1))),v63,((a6++v66),(a62+1),()))
def vB1 y x:=(vI7 y x).1
def vD9 y x:=(vI7 y x).2.1
def wZ0 y x:=(vI7 y x).2.2
instance (y x):Decidable (vB1 y x):=by unfold vB1 vI7;dsimp only;infer_instance
def vK3 (y:vD8)(x:wZ):(List Int):=
 x.1
def vP2:List (Nat×Sh):=[(0,(.box T60 (.val T60))),(1,(.fn 42 (.cons (.ptrs true [some (0,T60,[])]) .nl))),(4,vI),(5,vI),(6,(.own (.int .i64) 2 false))]
def vY7:=li [(0,(.box T60 (.val T60))),(1,(.fn 42 (.cons (.ptrs true [some (0,T60,[])]) .nl))),(4,vI),(5,vI),(8,vI),(61,vI)] [(6,(.own (.int .i64) 2 false)),(62,vI)] vD9 wZ0 vB1 (fun y x=>[ex 4 none vP2 (y.1,y.2.1,y.2.2.1,y.2.2.2.1,(vK3 y x),())]) [vP2]
abbrev vC0:Type:=((Unit×Unit)×Int×Int×Unit)
abbrev wW1:Type:=(D60×(List Int)×Unit)
def vC1 (y:vC0)(x:wW1):Prop×Bool×wW1:=
 let a4:=y.2.1
 let a5:=y.2.2.1
 let a0:=x.1
 let a6:=x.2.1
 let v25:=(decide ((len a6)<(a4*a5)))
 let g0:=(bif v25 then (wX0 a0).1 else a0)
 let v30:=(bif v25 then ((wU7 a0)==0) else false)
 let v34:=(a4*a5)
 let v36:=(len a6)
 let v37:=(v34-v36)
 let v38:=(v37-1)
 let v39:=(wS8 g0 v38)
 let v39o:=(wS7 g0 v38)
 let v41:=(uE5 () v39o.1)
 let v41o:=(vS7 () v39o.1)
 let v44:=(decide ((len a6)>0))
 let v48:=(len a6)
 let v49:=(v48-1)
 let v54:=(bif v44 then ((nth a6 v49 (0:Int))==v41) else false)
 let m0:=(bif v54 then (wV1 v41o.2.1 (4:Int)).1 else v41o.2.1)
 let v58o:=(wX0 m0)
 let v59:=((wU7 m0)!=0)
 let y12:=(v58o.1,((),()),a4,a5,v41,(v39+1),())
 let x12:=(a6,(0:Int),())
 ((InR (a4*a5)∧((v25=true→(wY5 a0))∧(v30=true→(InR (a4*a5)∧(InR (v34-v36)∧(InR (v37-1)∧((wU1 g0 v38)∧((vK2 () v39o.1)∧((v44=true→InR (v48-1))∧((v44=true→InB v49 (len a6))∧((v54=true→(vD3 v41o.2.1 (4:Int)))∧((wY5 m0)∧((!v59)=true→(InR (v39+1)∧(xQ1 (vD9 y12) (wZ0 y12) (vB1 y12) x12))))))))))))))),(v30&&(!v59)),(v58o.1,(vK3 y12 (zC4 (vD9 y12) (wZ0 y12) x12)),()))
def wW8 y x:=(vC1 y x).1
def wV y x:=(vC1 y x).2.1
def wW2 y x:=(vC1 y x).2.2
instance (y x):Decidable (wW8 y x):=by unfold wW8 vC1;dsimp only;infer_instance
def wT0 (y:vC0)(x:wW1):D60:=
 let a4:=y.2.1
 let a5:=y.2.2.1
 let a0:=x.1
 let a6:=x.2.1
 let v25:=(decide ((len a6)<(a4*a5)))
 let g0:=(bif v25 then (wX0 a0).1 else a0)
 let v39o:=(wS7 g0 (((a4*a5)-(len a6))-1))
 let v41o:=(vS7 () v39o.1)
 let m0_1:=(bif (!(bif v25 then ((wU7 a0)==0) else false)) then g0 else (wX0 (bif (bif (decide ((len a6)>0)) then ((nth a6 ((len a6)-1) (0:Int))==(uE5 () v39o.1)) else false) then (wV1 v41o.2.1 (4:Int)).1 else v41o.2.1)).1)
 m0_1
def wW3 (y:vC0)(x:wW1):(List Int):=
 x.2.1
def vS1:List (Nat×Sh):=[(0,(.box T60 (.val T60))),(4,vI),(5,vI),(6,(.own (.int .i64) 2 false))]
def uC:=li [(1,(.fn 42 (.cons (.ptrs true [some (0,T60,[])]) .nl))),(4,vI),(5,vI)] [(0,(.box T60 (.val T60))),(6,(.own (.int .i64) 2 false))] wV wW2 wW8 (fun y x=>[ex 2 none vS1 ((wT0 y x),y.2.1,y.2.2.1,(wW3 y x),())]) [vS1]
def vU8 (p0:D60)(p1:(Unit×Unit)):Prop×(Int×Int×(List Int)×Unit)×(D60×Unit):=
 let v10:=(wS8 p0 (256:Int))
 let v10o:=(wS7 p0 (256:Int))
 let v12:=(wS8 v10o.1 (256:Int))
 let v12o:=(wS7 v10o.1 (256:Int))
 let v17:=(!(Ty.eqb .bool (v10==0) (v12==0)))
 let y5:=(((),()),v10,v12,())
 let x5:=((bif v17 then (wV1 v12o.1 (4:Int)).1 else v12o.1),([]:List Int),())
 let e5:=(zC4 (wV y5) (wW2 y5) x5)
 let r5_2_0:=(wT0 y5 e5)
 let v70o:=(wX0 r5_2_0)
 let v71:=((wU7 r5_2_0)!=0)
 (((wU1 p0 (256:Int))∧((wU1 v10o.1 (256:Int))∧((v17=true→(vD3 v12o.1 (4:Int)))∧((xQ1 (wV y5) (wW2 y5) (wW8 y5) x5)∧(wY5 r5_2_0))))),((bif v71 then (0:Int) else v10),(bif v71 then (0:Int) else v12),(bif v71 then [] else (wW3 y5 e5)),()),((bif v71 then v70o.1 else v70o.1),()))
def vH5 p0 p1:=(vU8 p0 p1).1
def uI4 p0 p1:=(vU8 p0 p1).2.1
def vY8 p0 p1:=(vU8 p0 p1).2.2
instance (p0 p1):Decidable (vH5 p0 p1):=by unfold vH5 vU8;dsimp only;infer_instance
theorem uI5:SK 41 (fnSpec [(0,(.box T60 (.val T60))),(1,(.fn 42 (.cons (.ptrs true [some (0,T60,[])]) .nl)))] (.tup (.cons vI (.cons vI (.cons (.own (.int .i64) 2 false) .nl)))) [(0,(.box T60 (.val T60)))] (fun x=>vH5 x.1 x.2.1) (fun x=>uI4 x.1 x.2.1) (fun x=>vY8 x.1 x.2.1)):=fx (fun c=>{ c with wants:=[(42,[]),(44,[])] }) Tryz.func41 75 [kb vJ3,kb uI3,kb vH1,kb uB0] [(5,uC),(12,vY7)] [(27,[(4,0,67,2)])] false [0]
def vU9 (p0:D60):Prop×D26×(D60×Unit):=
 let s:=((),())
 let v9:=(uI4 p0 s)
 ((vH5 p0 s),(v9.1,v9.2.1,v9.2.2.1,()),((vY8 p0 s).1,()))
def vH6 p0:=(vU9 p0).1
def vW5 p0:=(vU9 p0).2.1
def vP3 p0:=(vU9 p0).2.2
instance (p0):Decidable (vH6 p0):=by unfold vH6 vU9;dsimp only;infer_instance
def uD4:Am.Spec:=fnSpec [(0,(.box T60 (.val T60)))] (.val T26) [(0,(.box T60 (.val T60)))] (fun x=>vH6 x.1) (fun x=>vW5 x.1) (fun x=>vP3 x.1)
theorem uC0:SK 14 (fnSpec [(0,(.box T60 (.val T60)))] (.val T26) [(0,(.box T60 (.val T60)))] (fun x=>vH6 x.1) (fun x=>vW5 x.1) (fun x=>vP3 x.1)):=fx (fun c=>{ c with wants:=[(41,[])] }) Tryz.func14 17 [kb uI5] [] [(3,[(4,0,200009,1005)]),(5,[(4,0,1005,400200)])] false [0]
abbrev vF9:Type:=(D71×(Int×Int×(List Int)×Unit)×Int×Int×Int×Int×Unit)
abbrev wZ9:Type:=((Int×Int×(List Int)×Unit)×Int×Unit)
def vL9 (y:vF9)(x:wZ9):Prop×Bool×wZ9:=
 let a5:=x.1
 let a8:=x.2.1
 let v62:=(decide (a8<y.2.2.2.2.1))
 let v68:=([y.2.2.2.2.2.1]:List Int)
 ((v62=true→(((List.length a5.2.2.1+List.length v68:Nat):Int)≤4294967296∧InR (a8+1))),v62,((a5.1,a5.2.1,(a5.2.2.1++v68),()),(a8+1),()))
def vA5 y x:=(vL9 y x).1
def vC2 y x:=(vL9 y x).2.1
def wX5 y x:=(vL9 y x).2.2
instance (y x):Decidable (vA5 y x):=by unfold vA5 vL9;dsimp only;infer_instance
def vN (y:vF9)(x:wZ9):(Int×Int×(List Int)×Unit):=
 let a5:=x.1
 (a5.1,a5.2.1,a5.2.2.1,())
def vS2:List (Nat×Sh):=[(0,(.box T71 (.val T71))),(2,(.box T26 (.agg (.cons (.int .i64) (.cons (.int .i64) (.cons (.sl (.int .i64)) .nl))) (.cons vI (.cons vI (.cons (.own (.int .i64) 400200 false) .nl)))))),(3,vI),(4,vI),(5,(.box T26 (.agg (.cons (.int .i64) (.cons (.int .i64) (.cons (.sl (.int .i64)) .nl))) (.cons vI (.cons vI (.cons (.own (.int .i64) 400500 false) .nl))))))]
def uC1:=li [(0,(.box T71 (.val T71))),(2,(.box T26 (.agg (.cons (.int .i64) (.cons (.int .i64) (.cons (.sl (.int .i64)) .nl))) (.cons vI (.cons vI (.cons (.own (.int .i64) 400200 false) .nl)))))),(3,vI),(4,vI),(6,vI),(7,vI)] [(5,(.box T26 (.agg (.cons (.int .i64) (.cons (.int .i64) (.cons (.sl (.int .i64)) .nl))) (.cons vI (.cons vI (.cons (.own (.int .i64) 400500 false) .nl)))))),(8,vI)] vC2 wX5 vA5 (fun y x=>[ex 4 none vS2 (y.1,y.2.1,y.2.2.1,y.2.2.2.1,(vN y x),())]) [vS2]
abbrev vA:Type:=(Int×Int×Unit)
abbrev wV0:Type:=(D71×(Int×Int×(List Int)×Unit)×(Int×Int×(List Int)×Unit)×Unit)
def vF (y:vA)(x:wV0):Prop×Bool×wV0:=
 let a3:=y.1
 let a4:=y.2.1
 let a0:=x.1
 let a2:=x.2.1
 let a5:=x.2.2.1
 let v18o:=(vA9 a0)
 let v19:=((wW7 a0)==0)
 let v28:=(bif v19 then (decide ((len a5.2.2.1)<(a3*a4))) else false)
 let v32:=(a3*a4)
 let v35:=(len a5.2.2.1)
 let v36:=(v32-v35)
 let v37:=(v36-1)
 let v38:=(wW6 v18o.1 v37)
 let v38o:=(wS9 v18o.1 v37)
 let v41:=(wW6 v38o.1 (65535:Int))
 let v41o:=(wS9 v38o.1 (65535:Int))
 let v45:=(decide ((len a5.2.2.1)>0))
 let v51:=(len a5.2.2.1)
 let v52:=(v51-1)
 let v57:=(bif v45 then ((nth a5.2.2.1 v52 (0:Int))==v41) else false)
 let m0:=(bif v57 then (wZ1 v41o.1 (4:Int)).1 else v41o.1)
 let y9:=(m0,(a2.1,a2.2.1,a2.2.2.1,()),a3,a4,(v38+1),v41,())
 let x9:=((a5.1,a5.2.1,a5.2.2.1,()),(0:Int),())
 let r9_4_0:=(vN y9 (zC4 (vC2 y9) (wX5 y9) x9))
 (((vA8 a0)∧((v19=true→InR (a3*a4))∧(v28=true→(InR (a3*a4)∧(InR (v32-v35)∧(InR (v36-1)∧((wU0 v18o.1 v37)∧(InR (v38+1)∧((wU0 v38o.1 (65535:Int))∧((v45=true→InR (v51-1))∧((v45=true→InB v52 (len a5.2.2.1))∧((v57=true→(vD6 v41o.1 (4:Int)))∧(xQ1 (vC2 y9) (wX5 y9) (vA5 y9) x9))))))))))))),v28,(m0,(a2.1,a2.2.1,a2.2.2.1,()),(r9_4_0.1,r9_4_0.2.1,r9_4_0.2.2.1,()),()))
def wV3 y x:=(vF y x).1
def wX2 y x:=(vF y x).2.1
def wU4 y x:=(vF y x).2.2
instance (y x):Decidable (wV3 y x):=by unfold wV3 vF;dsimp only;infer_instance
def wU (y:vA)(x:wV0):D71:=
 (vA9 x.1).1
def vW (y:vA)(x:wV0):(Int×Int×(List Int)×Unit):=
 let a2:=x.2.1
 (a2.1,a2.2.1,a2.2.2.1,())
def wT8 (y:vA)(x:wV0):(Int×Int×(List Int)×Unit):=
 let a5:=x.2.2.1
 (a5.1,a5.2.1,a5.2.2.1,())
def vS3:List (Nat×Sh):=[(0,(.box T71 (.val T71))),(2,(.box T26 (.agg (.cons (.int .i64) (.cons (.int .i64) (.cons (.sl (.int .i64)) .nl))) (.cons vI (.cons vI (.cons (.own (.int .i64) 400200 false) .nl)))))),(5,(.box T26 (.agg (.cons (.int .i64) (.cons (.int .i64) (.cons (.sl (.int .i64)) .nl))) (.cons vI (.cons vI (.cons (.own (.int .i64) 400500 false) .nl))))))]
def uC2:=li [(3,vI),(4,vI)] [(0,(.box T71 (.val T71))),(2,(.box T26 (.agg (.cons (.int .i64) (.cons (.int .i64) (.cons (.sl (.int .i64)) .nl))) (.cons vI (.cons vI (.cons (.own (.int .i64) 400200 false) .nl)))))),(5,(.box T26 (.agg (.cons (.int .i64) (.cons (.int .i64) (.cons (.sl (.int .i64)) .nl))) (.cons vI (.cons vI (.cons (.own (.int .i64) 400500 false) .nl))))))] wX2 wU4 wV3 (fun y x=>[ex 2 none vS3 ((wU y x),(vW y x),(wT8 y x),())]) [vS3]
def vQ8 (p0:D71):Prop×D26×(D71×Unit):=
 let v11:=(wZ3 p0)
 let y3:=(v11.1,v11.2.1,())
 let x3:=((vI5 p0).1,((0:Int),(0:Int),([]:List Int),()),(v11.1,v11.2.1,([]:List Int),()),())
 let e3:=(zC4 (wX2 y3) (wU4 y3) x3)
 let r3_2_0:=(wU y3 e3)
 let r3_2_2:=(wT8 y3 e3)
 let v72o:=(vA9 r3_2_0)
 let v73:=((wW7 r3_2_0)!=0)
 (((vK0 p0)∧((xQ1 (wX2 y3) (wU4 y3) (wV3 y3) x3)∧(vA8 r3_2_0))),((bif v73 then (0:Int) else r3_2_2.1),(bif v73 then (0:Int) else r3_2_2.2.1),(bif v73 then [] else r3_2_2.2.2.1),()),((bif v73 then v72o.1 else v72o.1),()))
def vB2 p0:=(vQ8 p0).1
def uC3 p0:=(vQ8 p0).2.1
def vP4 p0:=(vQ8 p0).2.2
instance (p0):Decidable (vB2 p0):=by unfold vB2 vQ8;dsimp only;infer_instance
def uD5:Am.Spec:=fnSpec [(0,(.box T71 (.val T71)))] (.val T26) [(0,(.box T71 (.val T71)))] (fun x=>vB2 x.1) (fun x=>uC3 x.1) (fun x=>vP4 x.1)
theorem uI6:SK 15 (fnSpec [(0,(.box T71 (.val T71)))] (.val T26) [(0,(.box T71 (.val T71)))] (fun x=>vB2 x.1) (fun x=>uC3 x.1) (fun x=>vP4 x.1)):=fb Tryz.func15 76 [kb uB6,kb vO9,kb vU5,kb vO7] [(3,uC2),(9,uC1)] [(23,[(4,0,69,400500)]),(29,[(4,0,400500,400200)])] false [0]
abbrev vI8:Type:=(D23×D23×Unit)
abbrev vE5:Type:=(Int×Unit)
def vQ9 (y:vI8)(x:vE5):Prop×Bool×vE5×Bool×Bool:=
 let a2:=y.1
 let a3:=y.2.1
 let a5:=x.1
 let v31:=(decide (a5<(len a2.2.2.1)))
 let v44:=(!(Ty.eqb T45 (nth a2.2.2.1 a5 Z45) (nth a3.2.2.1 a5 Z45)))
 ((v31=true→(InB a5 (len a2.2.2.1)∧(InB a5 (len a3.2.2.1)∧((!v44)=true→InR (a5+1))))),(v31&&(!v44)),((a5+1),()),(v31&&v44),(!v31))
def vK4 y x:=(vQ9 y x).1
def vM y x:=(vQ9 y x).2.1
def vG y x:=(vQ9 y x).2.2.1
def vV y x:=(vQ9 y x).2.2.2.1
def uI7 y x:=(vQ9 y x).2.2.2.2
instance (y x):Decidable (vK4 y x):=by unfold vK4 vQ9;dsimp only;infer_instance
def vV0 (y:vI8)(x:vE5):Bool:=
 false
def uI8:=li [(2,(.box T23 (.val T23))),(3,(.box T23 (.val T23)))] [(5,vI)] vM vG vK4 (fun y x=>[ex 1 (some (vV y x)) [(4,vB)] ((vV0 y x),()),ex 2 (some (uI7 y x)) [] ()]) [[(4,vB)],[]]
def f16t (p0:D23)(p1:D23):Prop×Bool:=
 let v26:=(bif (bif (p0.1 !=p1.1) then true else (p0.2.1 !=p1.2.1)) then true else ((len p0.2.2.1)!=(len p1.2.2.1)))
 let y4:=(p0,p1,())
 let x4:=((0:Int),())
 let e4:=(zC4 (vM y4) (vG y4) x4)
 (((!v26)=true→(xQ1 (vM y4) (vG y4) (vK4 y4) x4)),(bif v26 then false else (bif (vV y4 e4) then (vV0 y4 e4) else true)))
def vW6 p0 p1:=(f16t p0 p1).1
def f16 p0 p1:=(f16t p0 p1).2
instance (p0 p1):Decidable (vW6 p0 p1):=by unfold vW6 f16t;dsimp only;infer_instance
def uM0:=sp2 (.val T23) (.val T23) vB vW6 f16
theorem uV4:SK 16 (sp2 (.val T23) (.val T23) vB vW6 f16):=fb Tryz.func16 45 [] [(4,uI8)]
abbrev vI9:Type:=((List Int)×(List Int)×Unit)
abbrev vE6:Type:=(Int×Unit)
def vR0 (y:vI9)(x:vE6):Prop×Bool×vE6×Bool×Bool:=
 let a0:=y.1
 let a1:=y.2.1
 let a5:=x.1
 let v14:=(decide (a5<(len a0)))
 let v25:=((nth a0 a5 (0:Int))!=(nth a1 a5 (0:Int)))
 ((v14=true→(InB a5 (len a0)∧(InB a5 (len a1)∧((!v25)=true→InR (a5+1))))),(v14&&(!v25)),((a5+1),()),(v14&&v25),(!v14))
def vK5 y x:=(vR0 y x).1
def vP5 y x:=(vR0 y x).2.1
def vJ y x:=(vR0 y x).2.2.1
def vV1 y x:=(vR0 y x).2.2.2.1
def uI9 y x:=(vR0 y x).2.2.2.2
instance (y x):Decidable (vK5 y x):=by unfold vK5 vR0;dsimp only;infer_instance
def vV2 (y:vI9)(x:vE6):Bool:=
 false
def uJ:=li [(0,(.val (.sl (.int .i64)))),(1,(.val (.sl (.int .i64))))] [(5,vI)] vP5 vJ vK5 (fun y x=>[ex 1 (some (vV1 y x)) [(4,vB)] ((vV2 y x),()),ex 2 (some (uI9 y x)) [] ()]) [[(4,vB)],[]]
def f43t (p0:List Int)(p1:List Int):Prop×Bool:=
 let v10:=((len p0)!=(len p1))
 let y4:=(p0,p1,())
 let x4:=((0:Int),())
 let e4:=(zC4 (vP5 y4) (vJ y4) x4)
 (((!v10)=true→(xQ1 (vP5 y4) (vJ y4) (vK5 y4) x4)),(bif v10 then false else (bif (vV1 y4 e4) then (vV2 y4 e4) else true)))
def uC4 p0 p1:=(f43t p0 p1).1
def f43 p0 p1:=(f43t p0 p1).2
instance (p0 p1):Decidable (uC4 p0 p1):=by unfold uC4 f43t;dsimp only;infer_instance
theorem uV5:SK 43 (sp2 (.val (.sl (.int .i64))) (.val (.sl (.int .i64))) vB uC4 f43):=fb Tryz.func43 26 [] [(4,uJ)]
def f17t (p0:D26)(p1:D26):Prop×Bool:=
 let v16:=(bif (p0.1==p1.1) then (p0.2.1==p1.2.1) else false)
 ((v16=true→(uC4 p0.2.2.1 p1.2.2.1)),(bif v16 then (f43 p0.2.2.1 p1.2.2.1) else false))
def vW7 p0 p1:=(f17t p0 p1).1
def f17 p0 p1:=(f17t p0 p1).2
instance (p0 p1):Decidable (vW7 p0 p1):=by unfold vW7 f17t;dsimp only;infer_instance
def uM1:=sp2 (.val T26) (.val T26) vB vW7 f17
theorem uV6:SK 17 (sp2 (.val T26) (.val T26) vB vW7 f17):=fb Tryz.func17 24 [kb uV5]
def vV3 (p0:D71):Prop×Int×(D71×Unit):=
 let v4o:=(vO5 p0)
 let v5:=(!(vR8 p0))
 ((vF8 p0),(bif v5 then (0:Int) else (IntKind.wrap .i64 ((len v4o.1.1)-v4o.1.2.1))),((bif v5 then v4o.1 else v4o.1),()))
def vK6 p0:=(vV3 p0).1
def uC5 p0:=(vV3 p0).2.1
def vS8 p0:=(vV3 p0).2.2
instance (p0):Decidable (vK6 p0):=by unfold vK6 vV3;dsimp only;infer_instance
theorem uJ0:SK 46 (fnSpec [(0,(.box T71 (.val T71)))] vI [(0,(.box T71 (.val T71)))] (fun x=>vK6 x.1) (fun x=>uC5 x.1) (fun x=>vS8 x.1)):=fb Tryz.func46 16 [kb vO6] [] [] true [0]
def vY9 (p0:D60):Prop×Int×(D60×Unit):=
 let v5:=(wU7 p0)
 let v5o:=(wX0 p0)
 let v7:=(v5 !=0)
 let v10o:=(vL1 v5o.1)
 let v11:=(decide ((vN6 v5o.1)>0))
 (((wY5 p0)∧((!v7)=true→(vF0 v5o.1))),(bif v7 then v5 else (bif v11 then (6:Int) else (0:Int))),((bif v7 then v5o.1 else (bif v11 then v10o.1 else v10o.1)),()))
def vK7 p0:=(vY9 p0).1
def uJ1 p0:=(vY9 p0).2.1
def uE6 p0:=(vY9 p0).2.2
instance (p0):Decidable (vK7 p0):=by unfold vK7 vY9;dsimp only;infer_instance
theorem uJ2:SK 47 (fnSpec [(0,(.box T60 (.val T60)))] vI [(0,(.box T60 (.val T60)))] (fun x=>vK7 x.1) (fun x=>uJ1 x.1) (fun x=>uE6 x.1)):=fb Tryz.func47 12 [kb vH1,kb vN7] [] [] false [0]
def vZ (p0:D71):Prop×Int×(D71×Unit):=
 let v4o:=(vO5 p0)
 let v16:=(bif (vR8 p0) then (decide (v4o.1.2.1<(len v4o.1.1))) else false)
 (((vF8 p0)∧((!v16)=true→(vA8 v4o.1))),(bif v16 then (6:Int) else (wW7 v4o.1)),((bif v16 then v4o.1 else (vA9 v4o.1).1),()))
def vK8 p0:=(vZ p0).1
def uJ3 p0:=(vZ p0).2.1
def uE7 p0:=(vZ p0).2.2
instance (p0):Decidable (vK8 p0):=by unfold vK8 vZ;dsimp only;infer_instance
theorem uJ4:SK 48 (fnSpec [(0,(.box T71 (.val T71)))] vI [(0,(.box T71 (.val T71)))] (fun x=>vK8 x.1) (fun x=>uJ3 x.1) (fun x=>uE7 x.1)):=fb Tryz.func48 19 [kb vO9,kb vO6] [] [] false [0]
def vR1 (p0:D60)(p1:D71):Prop×Bool×(D60×D71×Unit):=
 let v6o:=(wX0 p0)
 let v8o:=(vA9 p1)
 let v9:=((wU7 p0)==(wW7 p1))
 let g0:=(bif v9 then (vL1 v6o.1).1 else v6o.1)
 let g1:=(bif v9 then (vS8 v8o.1).1 else v8o.1)
 let v16:=(bif v9 then ((vN6 v6o.1)==(uC5 v8o.1)) else false)
 (((wY5 p0)∧((vA8 p1)∧((v9=true→(vF0 v6o.1))∧((v9=true→(vK6 v8o.1))∧((v16=true→(vK7 g0))∧(v16=true→(vK8 g1))))))),(bif v16 then ((uJ1 g0)==(uJ3 g1)) else false),((bif v16 then (uE6 g0).1 else g0),(bif v16 then (uE7 g1).1 else g1),()))
def vE p0 p1:=(vR1 p0 p1).1
def vW8 p0 p1:=(vR1 p0 p1).2.1
def uE8 p0 p1:=(vR1 p0 p1).2.2
instance (p0 p1):Decidable (vE p0 p1):=by unfold vE vR1;dsimp only;infer_instance
def uD6:Am.Spec:=fnSpec [(0,(.box T60 (.val T60))),(1,(.box T71 (.val T71)))] vB [(0,(.box T60 (.val T60))),(1,(.box T71 (.val T71)))] (fun x=>vE x.1 x.2.1) (fun x=>vW8 x.1 x.2.1) (fun x=>uE8 x.1 x.2.1)
theorem uJ5:SK 18 (fnSpec [(0,(.box T60 (.val T60))),(1,(.box T71 (.val T71)))] vB [(0,(.box T60 (.val T60))),(1,(.box T71 (.val T71)))] (fun x=>vE x.1 x.2.1) (fun x=>vW8 x.1 x.2.1) (fun x=>uE8 x.1 x.2.1)):=fx (fun c=>{ c with wants:=[(45,[]),(46,[]),(47,[]),(48,[])] }) Tryz.func18 24 [kb vO9,kb vH1,kb vN7,kb uJ0,kb uJ2,kb uJ4] [] [] false [0,1]
noncomputable def kd {n:Nat}{ps:List (Nat×Sh)}{rs:Sh}{os:List (Nat×Sh)}{ok:zB4 ps→Prop}[DecidablePred ok]{F:zB4 ps→rs.den}{o:zB4 ps→yH2 os}(h:SpecOk Tryz.prog n (fnSpec ps rs os ok F o)):Fb Tryz.prog:=⟨n,wB5 ps rs os ok F o,wR3 h⟩
noncomputable def uJ6:List (Fb Tryz.prog):=[kd uH7,kd uG4,kd vH1,kd vN7]
noncomputable def uM2:Ctx:={ Cx tys (Fb.l uJ6) [] [] true 39 [] [] with skip:=true,dead:=[999999],closed:=true }
theorem uM3:CtxOk Tryz.prog uM2:=wI0 vM2 (by kernel_rfl) (Fb.all uJ6) rfl (by kernel_rfl)
theorem uR3:SK 88 (fnSpec [(0,vS)] (.tup (.cons vS (.cons vI (.cons vI .nl)))) [] (fun x=>x=([],())) (fun _=>([],0,5,())) (fun _=>())):=wP5 (lv:=[(0,[0]),(1,[0,5]),(2,[0,5,6]),(3,[0,5,6,7]),(4,[0,5,6,7,16]),(5,[2,3,4]),(6,[0,5,6,20]),(7,[2,3,4]),(8,[0,6,8]),(9,[6,8,35]),(10,[2,3,4]),(11,[2,3,4])]) (ps:=[(0,vS)]) (rs:=(.tup (.cons vS (.cons vI (.cons vI .nl))))) (os:=[]) (v:=([],0,5,())) (z:=()) (p:=[]) uM3 mixed Tryz.func88 ([],()) trivial (by kernel_rfl) (by kernel_rfl)
noncomputable def uJ7:List (Fb Tryz.prog):=[kd uO4]
noncomputable def uM4:Ctx:={ Cx tys (Fb.l uJ7) [] [] true 57 [] [] with skip:=true,dead:=[999999],closed:=true }
theorem uM5:CtxOk Tryz.prog uM4:=wI0 vM2 (by kernel_rfl) (Fb.all uJ7) rfl (by kernel_rfl)
theorem uR4:SK 49 (fnSpec [(0,vS)] (.tup (.cons (.val T90) (.cons vI .nl))) [] (fun x=>x=([73,69,68,50],())) (fun _=>((Ty.dflt T90),4,())) (fun _=>())):=wP5 (lv:=[(0,[0,2]),(1,[0,2,15]),(2,[2,3]),(3,[2,4,5]),(4,[2,4,23]),(5,[2,3]),(6,[2,4,6,7,8]),(7,[2,4,6,7,8,32]),(8,[2,3]),(9,[2,6,38]),(10,[2,3]),(11,[2,9]),(12,[2,9,10]),(13,[2,10,11]),(14,[2,10,11,47]),(15,[2,3]),(16,[2,10,12]),(17,[2,10,12,53]),(18,[2,3]),(19,[2,3])]) (ps:=[(0,vS)]) (rs:=(.tup (.cons (.val T90) (.cons vI .nl)))) (os:=[]) (v:=((Ty.dflt T90),4,())) (z:=()) (p:=[]) uM5 mixed Tryz.func49 ([73,69,68,50],()) trivial (by kernel_rfl) (by kernel_rfl)
noncomputable def uJ8:List (Fb Tryz.prog):=[kd uO4,kd uR3]
noncomputable def uM6:Ctx:={ Cx tys (Fb.l uJ8) [] [] true 57 [] [] with skip:=true,dead:=[999999],closed:=true }
theorem uM7:CtxOk Tryz.prog uM6:=wI0 vM2 (by kernel_rfl) (Fb.all uJ8) rfl (by kernel_rfl)
theorem uR5:SK 49 (fnSpec [(0,vS)] (.tup (.cons (.val T90) (.cons vI .nl))) [] (fun x=>x=([73,69,68,49],())) (fun _=>((Ty.dflt T90),5,())) (fun _=>())):=wP5 (lv:=[(0,[0,2]),(1,[0,2,15]),(2,[2,3]),(3,[2,4,5]),(4,[2,4,23]),(5,[2,3]),(6,[2,4,6,7,8]),(7,[2,4,6,7,8,32]),(8,[2,3]),(9,[2,6,38]),(10,[2,3]),(11,[2,9]),(12,[2,9,10]),(13,[2,10,11]),(14,[2,10,11,47]),(15,[2,3]),(16,[2,10,12]),(17,[2,10,12,53]),(18,[2,3]),(19,[2,3])]) (ps:=[(0,vS)]) (rs:=(.tup (.cons (.val T90) (.cons vI .nl)))) (os:=[]) (v:=((Ty.dflt T90),5,())) (z:=()) (p:=[]) uM7 mixed Tryz.func49 ([73,69,68,49],()) trivial (by kernel_rfl) (by kernel_rfl)
def uM8:Am.Spec:=fnSpec [] vB [] (fun _=>True) (fun _=>true) (fun _=>())
def uJ9:Prop:=True
instance:Decidable uJ9:=isTrue trivial
def f19:Bool:=true
noncomputable def uO8:List (Fb Tryz.prog):=[kd uU3,kd uV,kd uH7,kd uB3,kd uC0,kd vH1,kd uR4,kd uR5]
noncomputable def uR6:Ctx:={ Cx tys (Fb.l uO8) [] [] true 62 [] [] with skip:=true,dead:=[999999],closed:=true }
theorem uR7:CtxOk Tryz.prog uR6:=wI0 vM2 (by kernel_rfl) (Fb.all uO8) rfl (by kernel_rfl)
theorem uV7:SK 19 (fnSpec [] vB [] (fun _=>uJ9) (fun _=>f19) (fun _=>())):=wO4 (lv:=[(0,[]),(1,[1]),(2,[2]),(3,[2,3,4]),(4,[2,3,4]),(5,[2,3,4]),(6,[2,37]),(7,[0]),(8,[2,6]),(9,[2,6,8]),(10,[0])]) (rs:=vB) (p:=[]) (v:=true) uR7 mixed Tryz.func19 (by kernel_rfl) (by kernel_rfl) trivial
def f3t (p0:D23)(p1:D26)(p2:List UInt8):Prop×Bool:=
 let v19:=(!((f6 p0)==(f7 p0)))
 let v26:=(bif v19 then true else (!((f8 p1)==(f9 p1))))
 let v28o:=(uH6 p2)
 let v30o:=(uH8 p2)
 let v32o:=(uH6 p2)
 let v34o:=(uH8 p2)
 let v36:=(vW4 v28o.1)
 let v36o:=(vO4 v28o.1)
 let v38:=(uB8 v30o.1)
 let v38o:=(vP1 v30o.1)
 let v40:=(vW5 v32o.1)
 let v40o:=(vP3 v32o.1)
 let v42:=(uC3 v34o.1)
 let v42o:=(vP4 v34o.1)
 let v45:=(f16 v36 v38)
 let v50:=(bif v45 then (f17 v40 v42) else false)
 let v55:=(bif v50 then (vW8 v36o.1 v38o.1) else false)
 let v60:=(bif v55 then (vW8 v40o.1 v42o.1) else false)
 (((uF3 p0)∧((uF4 p0)∧(((!v19)=true→(uF5 p1))∧(((!v19)=true→(uF6 p1))∧((!v26)=true→((vW2 p2)∧((vW3 p2)∧((vW2 p2)∧((vW3 p2)∧((vH3 v28o.1)∧((vB0 v30o.1)∧((vH6 v32o.1)∧((vB2 v34o.1)∧((vW6 v36 v38)∧((v45=true→(vW7 v40 v42))∧((v50=true→(vE v36o.1 v38o.1))∧((v55=true→(vE v40o.1 v42o.1))∧(v60=true→uJ9)))))))))))))))))),(bif v26 then false else (bif v60 then f19 else false)))
def f3_ok p0 p1 p2:=(f3t p0 p1 p2).1
def f3 p0 p1 p2:=(f3t p0 p1 p2).2
instance (p0 p1 p2):Decidable (f3_ok p0 p1 p2):=by unfold f3_ok f3t;dsimp only;infer_instance
def uR8:=sp3 (.val T23) (.val T26) vS vB f3_ok f3
def uV8:Ctx:={ Cx tys [(6,uQ4),(7,uR0),(8,uR1),(9,uR2),(10,uL9),(11,uM),(12,uD2),(13,uD3),(14,uD4),(15,uD5),(16,uM0),(17,uM1),(18,uD6),(19,uM8)] [] [(7,[(6,900116,0,910007),(6,900124,0,910008)]),(9,[(6,900132,0,910009),(6,900140,0,910010)])] false 64 [] [] with wants:=[(10,[]),(11,[]),(12,[]),(13,[]),(14,[]),(15,[]),(18,[])] }
theorem f3_is:SK 3 uR8:=fq (c:=uV8) Tryz.func3 ⟨uU3,uW7,uV,uW8,uH7,uV1,uB3,uI2,uC0,uI6,uV4,uV6,uJ5,uV7,trivial⟩
end Go.Proofs.YtbiemgjkkhkdeaaGreatDoor.Am
