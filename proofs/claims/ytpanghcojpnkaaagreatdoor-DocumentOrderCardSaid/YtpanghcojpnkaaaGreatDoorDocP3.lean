/- Printed by program, part 3. No condition. -/
import Derived.Test.YtpanghcojpnkaaaGreatDoorDocP2
set_option linter.unusedVariables false
set_option synthInstance.maxSize 4000
set_option synthInstance.maxHeartbeats 400000
namespace Go.Proofs.YtpanghcojpnkaaaGreatDoor.Am
open Go Go.Am Go.Proofs
abbrev wR6:Type:=((List Int) × (List D122) × Unit)
abbrev wK4:Type:=(Int × Unit)
def vQ8 (y:wR6) (x:wK4):Prop × Bool × wK4 × Bool × Bool :=
 let a1:=y.1
 let a7:=x.1
 let v25:=(decide (a7 < (len a1)))
 let v34:=(a7 - 2)
 let v37:=(decide ((nth a1 a7 (0:Int)) ≤ (nth a1 v34 (0:Int))))
 ((v25 = true → (InB a7 (len a1) ∧ (InR (a7 - 2) ∧ (InB v34 (len a1) ∧ ((!v37) = true → InR (a7 + 2)))))),(v25 && (!v37)),((a7 + 2),()),(v25 && v37),(!v25))
def vQ9 (y:wR6) (x:wK4):Prop:=(vQ8 y x).1
def tC0 (y:wR6) (x:wK4):Bool:=(vQ8 y x).2.1
def vM1 (y:wR6) (x:wK4):wK4:=(vQ8 y x).2.2.1
def tN (y:wR6) (x:wK4):Bool:=(vQ8 y x).2.2.2.1
def tN0 (y:wR6) (x:wK4):Bool:=(vQ8 y x).2.2.2.2
instance (y:wR6) (x:wK4):Decidable (vQ9 y x):=by
 unfold vQ9 vQ8
 try dsimp only
 infer_instance
def uN7 (y:wR6) (x:wK4):Bool :=
 false
def uN8:St → Option Out:=xP3 [(1,(.val (.sl (.int .i64)))),(2,(.val (.sl T122)))] [(7,vI)] tC0 vM1 vQ9 fun y x=>[ex 1 (some (tN y x)) [(6,vB)] ((uN7 y x),()),ex 2 (some (tN0 y x)) [(2,(.val (.sl T122)))] (y.2.1,())]
abbrev wM5:Type:=((List D122) × Unit)
abbrev wF9:Type:=(Int × Unit)
def vD8 (y:wM5) (x:wF9):Prop × Bool × wF9 × Bool × Bool :=
 let a2:=y.1
 let a8:=x.1
 let v41:=(decide (a8 < (len a2)))
 let v51:=(a8 - 1)
 let v55:=(decide ((nth a2 a8 Z122).1 ≤ (nth a2 v51 Z122).1))
 ((v41 = true → (InB a8 (len a2) ∧ (InR (a8 - 1) ∧ (InB v51 (len a2) ∧ ((!v55) = true → InR (a8 + 1)))))),(v41 && (!v55)),((a8 + 1),()),(v41 && v55),(!v41))
def wX0 (y:wM5) (x:wF9):Prop:=(vD8 y x).1
def vR (y:wM5) (x:wF9):Bool:=(vD8 y x).2.1
def wT4 (y:wM5) (x:wF9):wF9:=(vD8 y x).2.2.1
def tC1 (y:wM5) (x:wF9):Bool:=(vD8 y x).2.2.2.1
def sN8 (y:wM5) (x:wF9):Bool:=(vD8 y x).2.2.2.2
instance (y:wM5) (x:wF9):Decidable (wX0 y x):=by
 unfold wX0 vD8
 try dsimp only
 infer_instance
def uD2 (y:wM5) (x:wF9):Bool :=
 false
def uD3:St → Option Out:=xP3 [(2,(.val (.sl T122)))] [(8,vI)] vR wT4 wX0 fun y x=>[ex 1 (some (tC1 y x)) [(6,vB)] ((uD2 y x),()),ex 4 (some (sN8 y x)) [] ()]
def pP5 (p0:Int) (p1:(List Int)) (p2:(List D122)):Prop × Bool :=
 let v10:=(p0 == 2)
 let v19:=(bif v10 then (decide ((nth p1 (1:Int) (0:Int)) ≤ (nth p1 (0:Int) (0:Int)))) else false)
 let v21:=(p0 == 3)
 let y5:=(p1,p2,())
 let x5:=((2:Int),())
 let e5:=(zC1 (tC0 y5) (vM1 y5) x5)
 let y10:=((bif v21 then p2 else p2),())
 let x10:=((1:Int),())
 let e10:=(zC1 (vR y10) (wT4 y10) x10)
 (((v10 = true → InB (1:Int) (len p1)) ∧ ((v10 = true → InB (0:Int) (len p1)) ∧ ((!v19) = true → ((v21 = true → (Am.Ends (tC0 y5) (vM1 y5) (vQ9 y5) x5)) ∧ ((bif v21 then (tN0 y5 e5) else true) = true → (Am.Ends (vR y10) (wT4 y10) (wX0 y10) x10)))))),(bif v19 then false else (bif ((tN y5 e5) && v21) then (uN7 y5 e5) else (bif (tC1 y10 e10) then (uD2 y10 e10) else true))))
def tC2 (p0:Int) (p1:(List Int)) (p2:(List D122)):Prop:=(pP5 p0 p1 p2).1
def f135 (p0:Int) (p1:(List Int)) (p2:(List D122)):Bool:=(pP5 p0 p1 p2).2
instance (p0:Int) (p1:(List Int)) (p2:(List D122)):Decidable (tC2 p0 p1 p2):=by
 unfold tC2 pP5
 try dsimp only
 infer_instance
def sE4:Am.Spec:=fnSpec [(0,vI),(1,(.val (.sl (.int .i64)))),(2,(.val (.sl T122)))] vB [] (fun x=>tC2 x.1 x.2.1 x.2.2.1) (fun x=>f135 x.1 x.2.1 x.2.2.1) (fun _=>())
def tT8:Ctx:=Cx tys [] [(5,uN8),(10,uD3)] [] false 56 [] []
theorem tT9:CtxOk Tryz.prog tT8:=xW3 tys_ok rfl trivial rfl (by kernel_rfl)
noncomputable def sE5:Code:=Tryz.f135.body.getD .skip
noncomputable def rQ8:Code:=xX2 sE5 0
theorem rI8:yU9 Tryz.prog tT8 rQ8:=xY1 tT9 mixed (sp:=uN8) rfl [[(6,vB)],[(2,(.val (.sl T122)))]] (bs:=[]) (by kernel_rfl) trivial (by kernel_rfl) (by kernel_rfl) fun y x=>by kernel_rfl
noncomputable def sX3:Code:=xX2 sE5 1
theorem sN9:yU9 Tryz.prog tT8 sX3:=xY1 tT9 mixed (sp:=uD3) rfl [[(6,vB)],[]] (bs:=[]) (by kernel_rfl) trivial (by kernel_rfl) (by kernel_rfl) fun y x=>by kernel_rfl
theorem pP6:SpecOk Tryz.prog 135 sE4:=xY2 tT9 mixed Tryz.func135 (by kernel_rfl) (bs:=[rQ8,sX3]) (by kernel_rfl) ⟨rI8,sN9,trivial⟩ fun x=>by kernel_rfl
def pP7 (p0:Int) (p1:(List Int)) (p2:(List D122)):Prop × Int :=
 let v13:=(bif (decide (p0 < 1)) then true else (decide (p0 > 11)))
 let v17:=(len p1)
 let v27:=(bif (!(f133 p0 v17)) then true else (!(Ty.eqb .bool (decide ((len p2) > 0)) (p0 == 10))))
 let v31:=(decide ((len p2) > 16))
 let v37:=(!(f134 p0 p1 p2))
 let m6_4:=(bif (bif v13 then true else (bif v27 then true else (bif v31 then true else (bif v37 then true else (!(f135 p0 p1 p2)))))) then (bif v13 then (8:Int) else (bif v27 then (1:Int) else (bif v31 then (3:Int) else (bif v37 then (2:Int) else (24:Int))))) else (0:Int))
 ((v13 = false → ((tB6 p0 v17) ∧ (v27 = false → (v31 = false → ((tC p0 p1 p2) ∧ (v37 = false → (tC2 p0 p1 p2))))))),m6_4)
def tC3 (p0:Int) (p1:(List Int)) (p2:(List D122)):Prop:=(pP7 p0 p1 p2).1
def f114 (p0:Int) (p1:(List Int)) (p2:(List D122)):Int:=(pP7 p0 p1 p2).2
instance (p0:Int) (p1:(List Int)) (p2:(List D122)):Decidable (tC3 p0 p1 p2):=by
 unfold tC3 pP7
 try dsimp only
 infer_instance
def sE6:Am.Spec:=fnSpec [(0,vI),(1,(.val (.sl (.int .i64)))),(2,(.val (.sl T122)))] vI [] (fun x=>tC3 x.1 x.2.1 x.2.2.1) (fun x=>f114 x.1 x.2.1 x.2.2.1) (fun _=>())
def qM:Ctx:=Cx tys [(133,sE0),(134,sE2),(135,sE4)] [] [] false 44 [] []
theorem qM0:CtxOk Tryz.prog qM:=xW3 tys_ok rfl ⟨pP0,pP4,pP6,trivial⟩ rfl (by kernel_rfl)
theorem pP8:SpecOk Tryz.prog 114 sE6:=xY2 qM0 mixed Tryz.func114 (by kernel_rfl) (bs:=[]) (by kernel_rfl) trivial fun x=>by kernel_rfl
def pP9 (p0:Int):Prop × (List D125) :=
 let v5:=(p0 == 1)
 let v6:=(p0 == 7)
 let m4_1:=(bif v5 then v5 else (bif v6 then v6 else (p0 == 8)))
 let v11:=(p0 == 2)
 let v15:=(p0 == 4)
 let v19:=(p0 == 3)
 let v24:=(p0 == 9)
 let m2_1:=(bif v19 then ([((0:Int),(16:Int),()),((0:Int),(262140:Int),())]:List D125) else (bif v24 then ([((-16:Int),(16:Int),()),((-16:Int),(16:Int),())]:List D125) else ([((1:Int),(16:Int),())]:List D125)))
 let m2_5:=(bif (bif m4_1 then true else (bif v11 then true else (bif v15 then true else (bif v19 then true else (bif v24 then true else (p0 == 10)))))) then (bif m4_1 then ([((0:Int),(16:Int),())]:List D125) else (bif v11 then ([((0:Int),(7:Int),())]:List D125) else (bif v15 then ([((0:Int),(4:Int),())]:List D125) else m2_1))) else [])
 (True,m2_5)
def tC4 (p0:Int):Prop:=(pP9 p0).1
def f136 (p0:Int):(List D125):=(pP9 p0).2
instance (p0:Int):Decidable (tC4 p0):=by
 unfold tC4 pP9
 try dsimp only
 infer_instance
def sE7:Am.Spec:=fnSpec [(0,vI)] (.own T125 0 false) [] (fun x=>tC4 x.1) (fun x=>f136 x.1) (fun _=>())
def qM1:Ctx:=Cx tys [] [] [(11,[(4,0,9,0)]),(15,[(4,0,13,0)]),(19,[(4,0,17,0)]),(23,[(4,0,22,0)]),(27,[(4,0,27,0)]),(31,[(4,0,31,0)])] false 32 [] []
theorem qM2:CtxOk Tryz.prog qM1:=xW3 tys_ok rfl trivial rfl (by kernel_rfl)
theorem pQ:SpecOk Tryz.prog 136 sE7:=xY2 qM2 mixed Tryz.func136 (by kernel_rfl) (bs:=[]) (by kernel_rfl) trivial fun x=>by kernel_rfl
abbrev wR7:Type:=((List D125) × (List Int) × Int × Unit)
abbrev wK5:Type:=(Int × Unit)
def vR0 (y:wR7) (x:wK5):Prop × Bool × wK5 × Bool × Bool :=
 let a5:=y.1
 let a21:=y.2.1
 let a23:=x.1
 let v24:=(decide (a23 < y.2.2.1))
 let v26:=(nth a21 a23 (0:Int))
 let v34:=(decide (v26 < (nth a5 a23 Z125).1))
 let v43:=(bif v34 then true else (decide (v26 > (nth a5 a23 Z125).2.1)))
 ((v24 = true → (InB a23 (len a21) ∧ (InB a23 (len a5) ∧ (((!v34) = true → InB a23 (len a5)) ∧ ((!v43) = true → InR (a23 + 1)))))),(v24 && (!v43)),((a23 + 1),()),(v24 && v43),(!v24))
def vR1 (y:wR7) (x:wK5):Prop:=(vR0 y x).1
def tC5 (y:wR7) (x:wK5):Bool:=(vR0 y x).2.1
def vM2 (y:wR7) (x:wK5):wK5:=(vR0 y x).2.2.1
def tN1 (y:wR7) (x:wK5):Bool:=(vR0 y x).2.2.2.1
def rI9 (y:wR7) (x:wK5):Bool:=(vR0 y x).2.2.2.2
instance (y:wR7) (x:wK5):Decidable (vR1 y x):=by
 unfold vR1 vR0
 try dsimp only
 infer_instance
def uN9 (y:wR7) (x:wK5):Int :=
 (2:Int)
def uO:St → Option Out:=xP3 [(5,(.own T125 1005 false)),(21,(.val (.sl (.int .i64)))),(22,vI)] [(23,vI)] tC5 vM2 vR1 fun y x=>[ex 1 (some (tN1 y x)) [(4,vI)] ((uN9 y x),()),ex 2 (some (rI9 y x)) [] ()]
def pQ0 (p0:Int) (p1:(List Int)):Prop × Int :=
 let v13:=(bif (decide (p0 < 1)) then true else (decide (p0 > 10)))
 let v15:=(f136 p0)
 let v20:=((len p1) != (len v15))
 let y7:=(v15,p1,(len p1),())
 let x7:=((0:Int),())
 let e7:=(zC1 (tC5 y7) (vM2 y7) x7)
 (((!v13) = true → ((tC4 p0) ∧ ((!v20) = true → (Am.Ends (tC5 y7) (vM2 y7) (vR1 y7) x7)))),(bif v13 then (8:Int) else (bif v20 then (1:Int) else (bif (tN1 y7 e7) then (uN9 y7 e7) else (0:Int)))))
def tC6 (p0:Int) (p1:(List Int)):Prop:=(pQ0 p0 p1).1
def f115 (p0:Int) (p1:(List Int)):Int:=(pQ0 p0 p1).2
instance (p0:Int) (p1:(List Int)):Decidable (tC6 p0 p1):=by
 unfold tC6 pQ0
 try dsimp only
 infer_instance
def sE8:Am.Spec:=fnSpec [(0,vI),(1,(.val (.sl (.int .i64))))] vI [] (fun x=>tC6 x.1 x.2.1) (fun x=>f115 x.1 x.2.1) (fun _=>())
def sX4:Ctx:=Cx tys [(136,sE7)] [(7,uO)] [(7,[(4,0,15,1005)])] false 45 [] []
theorem sX5:CtxOk Tryz.prog sX4:=xW3 tys_ok rfl ⟨pQ,trivial⟩ rfl (by kernel_rfl)
noncomputable def rQ9:Code:=Tryz.f115.body.getD .skip
noncomputable def rR:Code:=xX2 rQ9 0
theorem rJ:yU9 Tryz.prog sX4 rR:=xY1 sX5 mixed (sp:=uO) rfl [[(4,vI)],[]] (bs:=[]) (by kernel_rfl) trivial (by kernel_rfl) (by kernel_rfl) fun y x=>by kernel_rfl
theorem pQ1:SpecOk Tryz.prog 115 sE8:=xY2 sX5 mixed Tryz.func115 (by kernel_rfl) (bs:=[rR]) (by kernel_rfl) ⟨rJ,trivial⟩ fun x=>by kernel_rfl
abbrev wR8:Type:=((List D125) × Int × Unit)
abbrev wK6:Type:=(Int × Unit)
def vR2 (y:wR8) (x:wK6):Prop × Bool × wK6 × Bool × Bool :=
 let a43:=y.1
 let a45:=x.1
 let v46:=(decide (a45 < y.2.1))
 let v47:=(nth a43 a45 Z125)
 let v66:=(bif (bif (bif (decide (v47.1 < (-1048576))) then true else (decide (v47.1 > 1048576))) then true else (decide (v47.2.1 < (-1048576)))) then true else (decide (v47.2.1 > 1048576)))
 ((v46 = true → (InB a45 (len a43) ∧ ((!v66) = true → InR (a45 + 1)))),(v46 && (!v66)),((a45 + 1),()),(v46 && v66),(!v46))
def vR3 (y:wR8) (x:wK6):Prop:=(vR2 y x).1
def tC7 (y:wR8) (x:wK6):Bool:=(vR2 y x).2.1
def vM3 (y:wR8) (x:wK6):wK6:=(vR2 y x).2.2.1
def tN2 (y:wR8) (x:wK6):Bool:=(vR2 y x).2.2.2.1
def rJ0 (y:wR8) (x:wK6):Bool:=(vR2 y x).2.2.2.2
instance (y:wR8) (x:wK6):Decidable (vR3 y x):=by
 unfold vR3 vR2
 try dsimp only
 infer_instance
def uO0 (y:wR8) (x:wK6):Int :=
 (2:Int)
def uO1:St → Option Out:=xP3 [(43,(.val (.sl T125))),(44,vI)] [(45,vI)] tC7 vM3 vR3 fun y x=>[ex 1 (some (tN2 y x)) [(2,vI)] ((uO0 y x),()),ex 2 (some (rJ0 y x)) [] ()]
def pQ2 (p0:D47):Prop × Int :=
 let v22:=(bif (bif (bif (decide (p0.1 < 2)) then true else (decide (p0.1 > 8))) then true else (decide (p0.2.1 < 2))) then true else (decide (p0.2.1 > 8)))
 let v30:=(bif (decide (p0.2.2.1 < 1)) then true else (decide (p0.2.2.1 > 256)))
 let v41:=(bif v30 then true else ((len p0.2.2.2.1) != (p0.1 * p0.2.1)))
 let y6:=(p0.2.2.2.1,(len p0.2.2.2.1),())
 let x6:=((0:Int),())
 let e6:=(zC1 (tC7 y6) (vM3 y6) x6)
 (((!v22) = true → (((!v30) = true → InR (p0.1 * p0.2.1)) ∧ ((!v41) = true → (Am.Ends (tC7 y6) (vM3 y6) (vR3 y6) x6)))),(bif v22 then (15:Int) else (bif v41 then (15:Int) else (bif (tN2 y6 e6) then (uO0 y6 e6) else (0:Int)))))
def tC8 (p0:D47):Prop:=(pQ2 p0).1
def f116 (p0:D47):Int:=(pQ2 p0).2
instance (p0:D47):Decidable (tC8 p0):=by
 unfold tC8 pQ2
 try dsimp only
 infer_instance
def sE9:Am.Spec:=fnSpec [(0,(.val T47))] vI [] (fun x=>tC8 x.1) (fun x=>f116 x.1) (fun _=>())
def sX6:Ctx:=Cx tys [] [(6,uO1)] [] false 68 [] []
theorem sX7:CtxOk Tryz.prog sX6:=xW3 tys_ok rfl trivial rfl (by kernel_rfl)
noncomputable def rR0:Code:=Tryz.f116.body.getD .skip
noncomputable def rR1:Code:=xX2 rR0 0
theorem rJ1:yU9 Tryz.prog sX6 rR1:=xY1 sX7 mixed (sp:=uO1) rfl [[(2,vI)],[]] (bs:=[]) (by kernel_rfl) trivial (by kernel_rfl) (by kernel_rfl) fun y x=>by kernel_rfl
theorem pQ3:SpecOk Tryz.prog 116 sE9:=xY2 sX7 mixed Tryz.func116 (by kernel_rfl) (bs:=[rR1]) (by kernel_rfl) ⟨rJ1,trivial⟩ fun x=>by kernel_rfl
def f81t (p0:D49):Prop × Int :=
 let v6:=(p0.2.1 == 2)
 let v11:=(p0.2.1 == 3)
 let v16:=(p0.2.1 == 4)
 let v27:=(p0.2.1 == 5)
 let v31:=(p0.2.1 == 6)
 let v35:=(p0.2.1 == 7)
 let v44:=(p0.2.1 == 8)
 let v51:=(p0.2.1 == 9)
 let m50:=(bif v51 then v51 else (p0.2.1 == 10))
 let v62:=(p0.2.1 == 11)
 let c_2:=(bif v44 then true else (bif m50 then (bif (decide (p0.2.2.2.2.2.2.2.2.2.2.2.2.2.2.2.2.2.2.2.2.2.2.2.2.2.2.1 < 1)) then true else (decide (p0.2.2.2.2.2.2.2.2.2.2.2.2.2.2.2.2.2.2.2.2.2.2.2.2.2.2.1 > 1073741824))) else v62))
 let m2_2:=(bif v35 then (f114 p0.2.2.2.2.2.2.2.2.2.2.2.2.2.2.1 p0.2.2.2.2.2.2.2.2.2.2.2.2.2.2.2.1 p0.2.2.2.2.2.2.2.2.2.2.2.2.2.2.2.2.2.1) else (bif v44 then (f115 p0.2.2.2.2.2.2.2.2.2.2.2.2.2.2.1 p0.2.2.2.2.2.2.2.2.2.2.2.2.2.2.2.1) else (bif m50 then (2:Int) else (f116 p0.2.2.2.2.2.2.2.2.2.2.2.2.2.2.2.2.2.2.2.2.2.2.2.2.2.2.2.1))))
 let m2_5:=(bif v16 then (f111 p0.2.2.2.2.2.2.2.2.2.2.2.2.2.2.1 p0.2.2.2.2.2.2.2.2.2.2.2.2.2.2.2.1 p0.2.2.2.2.2.2.2.2.2.2.2.2.2.2.2.2.1 p0.2.2.2.2.2.2.2.2.2.2.2.2.2.2.2.2.2.1) else (bif v27 then (f112 p0) else (bif v31 then (f113 p0) else m2_2)))
 let m2_8:=(bif (bif v6 then true else (bif v11 then true else (bif v16 then true else (bif v27 then true else (bif v31 then true else (bif v35 then true else c_2)))))) then (bif v6 then (f56 p0.2.2.2.2.2.2.2.2.2.2.2.2.1) else (bif v11 then (f110 p0.2.2.2.2.2.2.2.2.2.2.2.2.2.1) else m2_5)) else (0:Int))
 (((v6 = true → (tK2 p0.2.2.2.2.2.2.2.2.2.2.2.2.1)) ∧ (v6 = false → ((v11 = true → (vU4 p0.2.2.2.2.2.2.2.2.2.2.2.2.2.1)) ∧ (v11 = false → ((v16 = true → (uV4 p0.2.2.2.2.2.2.2.2.2.2.2.2.2.2.1 p0.2.2.2.2.2.2.2.2.2.2.2.2.2.2.2.1 p0.2.2.2.2.2.2.2.2.2.2.2.2.2.2.2.2.1 p0.2.2.2.2.2.2.2.2.2.2.2.2.2.2.2.2.2.1)) ∧ (v16 = false → ((v27 = true → (uY1 p0)) ∧ (v27 = false → ((v31 = true → (uG7 p0)) ∧ (v31 = false → ((v35 = true → (tC3 p0.2.2.2.2.2.2.2.2.2.2.2.2.2.2.1 p0.2.2.2.2.2.2.2.2.2.2.2.2.2.2.2.1 p0.2.2.2.2.2.2.2.2.2.2.2.2.2.2.2.2.2.1)) ∧ (v35 = false → ((v44 = true → (tC6 p0.2.2.2.2.2.2.2.2.2.2.2.2.2.2.1 p0.2.2.2.2.2.2.2.2.2.2.2.2.2.2.2.1)) ∧ (v44 = false → (m50 = false → (v62 = true → (tC8 p0.2.2.2.2.2.2.2.2.2.2.2.2.2.2.2.2.2.2.2.2.2.2.2.2.2.2.2.1))))))))))))))))),m2_8)
def sF (p0:D49):Prop:=(f81t p0).1
def f81 (p0:D49):Int:=(f81t p0).2
instance (p0:D49):Decidable (sF p0):=by
 unfold sF f81t
 try dsimp only
 infer_instance
def sX8:Am.Spec:=fnSpec [(0,(.val T49))] vI [] (fun x=>sF x.1) (fun x=>f81 x.1) (fun _=>())
def pQ4:Ctx:=Cx tys [(56,tR1),(110,vX8),(111,sA9),(112,sC5),(113,sE),(114,sE6),(115,sE8),(116,sE9)] [] [] false 66 [] []
theorem pQ5:CtxOk Tryz.prog pQ4:=xW3 tys_ok rfl ⟨qX4,sK0,pI9,pM7,pP,pP8,pQ1,pQ3,trivial⟩ rfl (by kernel_rfl)
theorem oC0:SpecOk Tryz.prog 81 sX8:=xY2 pQ5 mixed Tryz.func81 (by kernel_rfl) (bs:=[]) (by kernel_rfl) trivial fun x=>by kernel_rfl
def f82t (p0:D49):Prop × Bool :=
 let v17:=(bif (bif (!(Ty.eqb T37 p0.2.2.2.2.2.2.2.2.2.2.1 ((0:Int),(0:Int),(0:Int),(0:Int),(0:Int),(0:Int),()))) then true else (p0.2.2.2.2.2.2.2.2.2.2.2.1 != 0)) then true else (!(Ty.eqb T42 p0.2.2.2.2.2.2.2.2.2.2.2.2.2.1 ((0:Int),(0:Int),(0:Int),(0:Int),()))))
 let v54:=(bif (bif (bif (p0.2.2.2.2.2.2.2.2.2.2.2.2.2.2.1 != 0) then true else ((len p0.2.2.2.2.2.2.2.2.2.2.2.2.2.2.2.1) != 0)) then true else (p0.2.2.2.2.2.2.2.2.2.2.2.2.2.2.2.2.1 != 0)) then true else ((len p0.2.2.2.2.2.2.2.2.2.2.2.2.2.2.2.2.2.1) != 0))
 let v73:=(bif (bif (bif ((len p0.2.2.2.2.2.2.2.2.2.2.2.2.2.2.2.2.2.2.1) != 0) then true else (p0.2.2.2.2.2.2.2.2.2.2.2.2.2.2.2.2.2.2.2.1 != 0)) then true else (p0.2.2.2.2.2.2.2.2.2.2.2.2.2.2.2.2.2.2.2.2.1 != 0)) then true else (p0.2.2.2.2.2.2.2.2.2.2.2.2.2.2.2.2.2.2.2.2.2.1 != 0))
 let v91:=(bif (bif (!(p0.2.2.2.2.2.2.2.2.2.2.2.2.2.2.2.2.2.2.2.2.2.2.2.1 == ([]:List UInt8))) then true else (p0.2.2.2.2.2.2.2.2.2.2.2.2.2.2.2.2.2.2.2.2.2.2.2.2.1 != 0)) then true else (p0.2.2.2.2.2.2.2.2.2.2.2.2.2.2.2.2.2.2.2.2.2.2.2.2.2.1 != 0))
 let v112:=(bif (bif (p0.2.2.2.2.2.2.2.2.2.2.2.2.2.2.2.2.2.2.2.2.2.2.2.2.2.2.2.1.1 == 0) then (p0.2.2.2.2.2.2.2.2.2.2.2.2.2.2.2.2.2.2.2.2.2.2.2.2.2.2.2.1.2.1 == 0) else false) then (p0.2.2.2.2.2.2.2.2.2.2.2.2.2.2.2.2.2.2.2.2.2.2.2.2.2.2.2.1.2.2.1 == 0) else false)
 let m2:=(bif (bif v91 then true else (p0.2.2.2.2.2.2.2.2.2.2.2.2.2.2.2.2.2.2.2.2.2.2.2.2.2.2.1 != 0)) then false else (bif v112 then ((len p0.2.2.2.2.2.2.2.2.2.2.2.2.2.2.2.2.2.2.2.2.2.2.2.2.2.2.2.1.2.2.2.1) == 0) else false))
 let m2_3:=(bif (bif (bif (p0.2.2.2.2.2.2.2.2.2.2.2.2.1.1 != 0) then true else (p0.2.2.2.2.2.2.2.2.2.2.2.2.1.2.1 != 0)) then true else ((len p0.2.2.2.2.2.2.2.2.2.2.2.2.1.2.2.1) != 0)) then false else (bif v54 then false else (bif (bif v73 then true else (p0.2.2.2.2.2.2.2.2.2.2.2.2.2.2.2.2.2.2.2.2.2.2.1 != 0)) then false else m2)))
 (True,(bif v17 then false else m2_3))
def sF0 (p0:D49):Prop:=(f82t p0).1
def f82 (p0:D49):Bool:=(f82t p0).2
instance (p0:D49):Decidable (sF0 p0):=by
 unfold sF0 f82t
 try dsimp only
 infer_instance
def sX9:Am.Spec:=fnSpec [(0,(.val T49))] vB [] (fun x=>sF0 x.1) (fun x=>f82 x.1) (fun _=>())
def pQ6:Ctx:=Cx tys [] [] [] false 120 [] []
theorem pQ7:CtxOk Tryz.prog pQ6:=xW3 tys_ok rfl trivial rfl (by kernel_rfl)
theorem oC1:SpecOk Tryz.prog 82 sX9:=xY2 pQ7 mixed Tryz.func82 (by kernel_rfl) (bs:=[]) (by kernel_rfl) trivial fun x=>by kernel_rfl
def f83t (p0:D49):Prop × D49 :=
 let s_1:=(p0.1,p0.2.1,p0.2.2.1,p0.2.2.2.1,p0.2.2.2.2.1,p0.2.2.2.2.2.1,p0.2.2.2.2.2.2.1,p0.2.2.2.2.2.2.2.1,p0.2.2.2.2.2.2.2.2.1,p0.2.2.2.2.2.2.2.2.2.1,((0:Int),(0:Int),(0:Int),(0:Int),(0:Int),(0:Int),()),p0.2.2.2.2.2.2.2.2.2.2.2.1,p0.2.2.2.2.2.2.2.2.2.2.2.2.1,p0.2.2.2.2.2.2.2.2.2.2.2.2.2.1,p0.2.2.2.2.2.2.2.2.2.2.2.2.2.2.1,p0.2.2.2.2.2.2.2.2.2.2.2.2.2.2.2.1,p0.2.2.2.2.2.2.2.2.2.2.2.2.2.2.2.2.1,p0.2.2.2.2.2.2.2.2.2.2.2.2.2.2.2.2.2.1,p0.2.2.2.2.2.2.2.2.2.2.2.2.2.2.2.2.2.2.1,p0.2.2.2.2.2.2.2.2.2.2.2.2.2.2.2.2.2.2.2.1,p0.2.2.2.2.2.2.2.2.2.2.2.2.2.2.2.2.2.2.2.2.1,p0.2.2.2.2.2.2.2.2.2.2.2.2.2.2.2.2.2.2.2.2.2.1,p0.2.2.2.2.2.2.2.2.2.2.2.2.2.2.2.2.2.2.2.2.2.2.1,p0.2.2.2.2.2.2.2.2.2.2.2.2.2.2.2.2.2.2.2.2.2.2.2.1,p0.2.2.2.2.2.2.2.2.2.2.2.2.2.2.2.2.2.2.2.2.2.2.2.2.1,p0.2.2.2.2.2.2.2.2.2.2.2.2.2.2.2.2.2.2.2.2.2.2.2.2.2.1,p0.2.2.2.2.2.2.2.2.2.2.2.2.2.2.2.2.2.2.2.2.2.2.2.2.2.2.1,p0.2.2.2.2.2.2.2.2.2.2.2.2.2.2.2.2.2.2.2.2.2.2.2.2.2.2.2.1,())
 let m1:=(bif (f76 p0.2.1) then s_1 else p0)
 let s_2:=(m1.1,m1.2.1,m1.2.2.1,m1.2.2.2.1,m1.2.2.2.2.1,m1.2.2.2.2.2.1,m1.2.2.2.2.2.2.1,m1.2.2.2.2.2.2.2.1,m1.2.2.2.2.2.2.2.2.1,m1.2.2.2.2.2.2.2.2.2.1,m1.2.2.2.2.2.2.2.2.2.2.1,(0:Int),m1.2.2.2.2.2.2.2.2.2.2.2.2.1,m1.2.2.2.2.2.2.2.2.2.2.2.2.2.1,m1.2.2.2.2.2.2.2.2.2.2.2.2.2.2.1,m1.2.2.2.2.2.2.2.2.2.2.2.2.2.2.2.1,m1.2.2.2.2.2.2.2.2.2.2.2.2.2.2.2.2.1,m1.2.2.2.2.2.2.2.2.2.2.2.2.2.2.2.2.2.1,m1.2.2.2.2.2.2.2.2.2.2.2.2.2.2.2.2.2.2.1,m1.2.2.2.2.2.2.2.2.2.2.2.2.2.2.2.2.2.2.2.1,m1.2.2.2.2.2.2.2.2.2.2.2.2.2.2.2.2.2.2.2.2.1,m1.2.2.2.2.2.2.2.2.2.2.2.2.2.2.2.2.2.2.2.2.2.1,m1.2.2.2.2.2.2.2.2.2.2.2.2.2.2.2.2.2.2.2.2.2.2.1,m1.2.2.2.2.2.2.2.2.2.2.2.2.2.2.2.2.2.2.2.2.2.2.2.1,m1.2.2.2.2.2.2.2.2.2.2.2.2.2.2.2.2.2.2.2.2.2.2.2.2.1,m1.2.2.2.2.2.2.2.2.2.2.2.2.2.2.2.2.2.2.2.2.2.2.2.2.2.1,m1.2.2.2.2.2.2.2.2.2.2.2.2.2.2.2.2.2.2.2.2.2.2.2.2.2.2.1,m1.2.2.2.2.2.2.2.2.2.2.2.2.2.2.2.2.2.2.2.2.2.2.2.2.2.2.2.1,())
 let m1_1:=(bif (f79 m1.2.1) then s_2 else m1)
 let s_4:=(m1_1.1,m1_1.2.1,m1_1.2.2.1,m1_1.2.2.2.1,m1_1.2.2.2.2.1,m1_1.2.2.2.2.2.1,m1_1.2.2.2.2.2.2.1,m1_1.2.2.2.2.2.2.2.1,m1_1.2.2.2.2.2.2.2.2.1,m1_1.2.2.2.2.2.2.2.2.2.1,m1_1.2.2.2.2.2.2.2.2.2.2.1,m1_1.2.2.2.2.2.2.2.2.2.2.2.1,((0:Int),(0:Int),([]:List D42),()),m1_1.2.2.2.2.2.2.2.2.2.2.2.2.2.1,m1_1.2.2.2.2.2.2.2.2.2.2.2.2.2.2.1,m1_1.2.2.2.2.2.2.2.2.2.2.2.2.2.2.2.1,m1_1.2.2.2.2.2.2.2.2.2.2.2.2.2.2.2.2.1,m1_1.2.2.2.2.2.2.2.2.2.2.2.2.2.2.2.2.2.1,m1_1.2.2.2.2.2.2.2.2.2.2.2.2.2.2.2.2.2.2.1,m1_1.2.2.2.2.2.2.2.2.2.2.2.2.2.2.2.2.2.2.2.1,m1_1.2.2.2.2.2.2.2.2.2.2.2.2.2.2.2.2.2.2.2.2.1,m1_1.2.2.2.2.2.2.2.2.2.2.2.2.2.2.2.2.2.2.2.2.2.1,m1_1.2.2.2.2.2.2.2.2.2.2.2.2.2.2.2.2.2.2.2.2.2.2.1,m1_1.2.2.2.2.2.2.2.2.2.2.2.2.2.2.2.2.2.2.2.2.2.2.2.1,m1_1.2.2.2.2.2.2.2.2.2.2.2.2.2.2.2.2.2.2.2.2.2.2.2.2.1,m1_1.2.2.2.2.2.2.2.2.2.2.2.2.2.2.2.2.2.2.2.2.2.2.2.2.2.1,m1_1.2.2.2.2.2.2.2.2.2.2.2.2.2.2.2.2.2.2.2.2.2.2.2.2.2.2.1,m1_1.2.2.2.2.2.2.2.2.2.2.2.2.2.2.2.2.2.2.2.2.2.2.2.2.2.2.2.1,())
 let s_6:=(m1_1.1,m1_1.2.1,m1_1.2.2.1,m1_1.2.2.2.1,m1_1.2.2.2.2.1,m1_1.2.2.2.2.2.1,m1_1.2.2.2.2.2.2.1,m1_1.2.2.2.2.2.2.2.1,m1_1.2.2.2.2.2.2.2.2.1,m1_1.2.2.2.2.2.2.2.2.2.1,m1_1.2.2.2.2.2.2.2.2.2.2.1,m1_1.2.2.2.2.2.2.2.2.2.2.2.1,m1_1.2.2.2.2.2.2.2.2.2.2.2.2.1,((0:Int),(0:Int),(0:Int),(0:Int),()),m1_1.2.2.2.2.2.2.2.2.2.2.2.2.2.2.1,m1_1.2.2.2.2.2.2.2.2.2.2.2.2.2.2.2.1,m1_1.2.2.2.2.2.2.2.2.2.2.2.2.2.2.2.2.1,m1_1.2.2.2.2.2.2.2.2.2.2.2.2.2.2.2.2.2.1,m1_1.2.2.2.2.2.2.2.2.2.2.2.2.2.2.2.2.2.2.1,m1_1.2.2.2.2.2.2.2.2.2.2.2.2.2.2.2.2.2.2.2.1,m1_1.2.2.2.2.2.2.2.2.2.2.2.2.2.2.2.2.2.2.2.2.1,m1_1.2.2.2.2.2.2.2.2.2.2.2.2.2.2.2.2.2.2.2.2.2.1,m1_1.2.2.2.2.2.2.2.2.2.2.2.2.2.2.2.2.2.2.2.2.2.2.1,m1_1.2.2.2.2.2.2.2.2.2.2.2.2.2.2.2.2.2.2.2.2.2.2.2.1,m1_1.2.2.2.2.2.2.2.2.2.2.2.2.2.2.2.2.2.2.2.2.2.2.2.2.1,m1_1.2.2.2.2.2.2.2.2.2.2.2.2.2.2.2.2.2.2.2.2.2.2.2.2.2.1,m1_1.2.2.2.2.2.2.2.2.2.2.2.2.2.2.2.2.2.2.2.2.2.2.2.2.2.2.1,m1_1.2.2.2.2.2.2.2.2.2.2.2.2.2.2.2.2.2.2.2.2.2.2.2.2.2.2.2.1,())
 let s_10:=(m1_1.1,m1_1.2.1,m1_1.2.2.1,m1_1.2.2.2.1,m1_1.2.2.2.2.1,m1_1.2.2.2.2.2.1,m1_1.2.2.2.2.2.2.1,m1_1.2.2.2.2.2.2.2.1,m1_1.2.2.2.2.2.2.2.2.1,m1_1.2.2.2.2.2.2.2.2.2.1,m1_1.2.2.2.2.2.2.2.2.2.2.1,m1_1.2.2.2.2.2.2.2.2.2.2.2.1,m1_1.2.2.2.2.2.2.2.2.2.2.2.2.1,m1_1.2.2.2.2.2.2.2.2.2.2.2.2.2.1,(0:Int),([]:List Int),(0:Int),([]:List D122),m1_1.2.2.2.2.2.2.2.2.2.2.2.2.2.2.2.2.2.2.1,m1_1.2.2.2.2.2.2.2.2.2.2.2.2.2.2.2.2.2.2.2.1,m1_1.2.2.2.2.2.2.2.2.2.2.2.2.2.2.2.2.2.2.2.2.1,m1_1.2.2.2.2.2.2.2.2.2.2.2.2.2.2.2.2.2.2.2.2.2.1,m1_1.2.2.2.2.2.2.2.2.2.2.2.2.2.2.2.2.2.2.2.2.2.2.1,m1_1.2.2.2.2.2.2.2.2.2.2.2.2.2.2.2.2.2.2.2.2.2.2.2.1,m1_1.2.2.2.2.2.2.2.2.2.2.2.2.2.2.2.2.2.2.2.2.2.2.2.2.1,m1_1.2.2.2.2.2.2.2.2.2.2.2.2.2.2.2.2.2.2.2.2.2.2.2.2.2.1,m1_1.2.2.2.2.2.2.2.2.2.2.2.2.2.2.2.2.2.2.2.2.2.2.2.2.2.2.1,m1_1.2.2.2.2.2.2.2.2.2.2.2.2.2.2.2.2.2.2.2.2.2.2.2.2.2.2.2.1,())
 let s_17:=(m1_1.1,m1_1.2.1,m1_1.2.2.1,m1_1.2.2.2.1,m1_1.2.2.2.2.1,m1_1.2.2.2.2.2.1,m1_1.2.2.2.2.2.2.1,m1_1.2.2.2.2.2.2.2.1,m1_1.2.2.2.2.2.2.2.2.1,m1_1.2.2.2.2.2.2.2.2.2.1,m1_1.2.2.2.2.2.2.2.2.2.2.1,m1_1.2.2.2.2.2.2.2.2.2.2.2.1,m1_1.2.2.2.2.2.2.2.2.2.2.2.2.1,((0:Int),(0:Int),(0:Int),(0:Int),()),m1_1.2.2.2.2.2.2.2.2.2.2.2.2.2.2.1,m1_1.2.2.2.2.2.2.2.2.2.2.2.2.2.2.2.1,m1_1.2.2.2.2.2.2.2.2.2.2.2.2.2.2.2.2.1,m1_1.2.2.2.2.2.2.2.2.2.2.2.2.2.2.2.2.2.1,([]:List D128),(0:Int),(0:Int),(0:Int),(0:Int),m1_1.2.2.2.2.2.2.2.2.2.2.2.2.2.2.2.2.2.2.2.2.2.2.2.1,m1_1.2.2.2.2.2.2.2.2.2.2.2.2.2.2.2.2.2.2.2.2.2.2.2.2.1,m1_1.2.2.2.2.2.2.2.2.2.2.2.2.2.2.2.2.2.2.2.2.2.2.2.2.2.1,m1_1.2.2.2.2.2.2.2.2.2.2.2.2.2.2.2.2.2.2.2.2.2.2.2.2.2.2.1,m1_1.2.2.2.2.2.2.2.2.2.2.2.2.2.2.2.2.2.2.2.2.2.2.2.2.2.2.2.1,())
 let s_22:=(m1_1.1,m1_1.2.1,m1_1.2.2.1,m1_1.2.2.2.1,m1_1.2.2.2.2.1,m1_1.2.2.2.2.2.1,m1_1.2.2.2.2.2.2.1,m1_1.2.2.2.2.2.2.2.1,m1_1.2.2.2.2.2.2.2.2.1,m1_1.2.2.2.2.2.2.2.2.2.1,m1_1.2.2.2.2.2.2.2.2.2.2.1,m1_1.2.2.2.2.2.2.2.2.2.2.2.1,m1_1.2.2.2.2.2.2.2.2.2.2.2.2.1,((0:Int),(0:Int),(0:Int),(0:Int),()),m1_1.2.2.2.2.2.2.2.2.2.2.2.2.2.2.1,m1_1.2.2.2.2.2.2.2.2.2.2.2.2.2.2.2.1,m1_1.2.2.2.2.2.2.2.2.2.2.2.2.2.2.2.2.1,m1_1.2.2.2.2.2.2.2.2.2.2.2.2.2.2.2.2.2.1,m1_1.2.2.2.2.2.2.2.2.2.2.2.2.2.2.2.2.2.2.1,m1_1.2.2.2.2.2.2.2.2.2.2.2.2.2.2.2.2.2.2.2.1,m1_1.2.2.2.2.2.2.2.2.2.2.2.2.2.2.2.2.2.2.2.2.1,m1_1.2.2.2.2.2.2.2.2.2.2.2.2.2.2.2.2.2.2.2.2.2.1,m1_1.2.2.2.2.2.2.2.2.2.2.2.2.2.2.2.2.2.2.2.2.2.2.1,([]:List UInt8),(0:Int),(0:Int),m1_1.2.2.2.2.2.2.2.2.2.2.2.2.2.2.2.2.2.2.2.2.2.2.2.2.2.2.1,m1_1.2.2.2.2.2.2.2.2.2.2.2.2.2.2.2.2.2.2.2.2.2.2.2.2.2.2.2.1,())
 let s_25:=(m1_1.1,m1_1.2.1,m1_1.2.2.1,m1_1.2.2.2.1,m1_1.2.2.2.2.1,m1_1.2.2.2.2.2.1,m1_1.2.2.2.2.2.2.1,m1_1.2.2.2.2.2.2.2.1,m1_1.2.2.2.2.2.2.2.2.1,m1_1.2.2.2.2.2.2.2.2.2.1,m1_1.2.2.2.2.2.2.2.2.2.2.1,m1_1.2.2.2.2.2.2.2.2.2.2.2.1,m1_1.2.2.2.2.2.2.2.2.2.2.2.2.1,m1_1.2.2.2.2.2.2.2.2.2.2.2.2.2.1,(0:Int),([]:List Int),m1_1.2.2.2.2.2.2.2.2.2.2.2.2.2.2.2.2.1,([]:List D122),m1_1.2.2.2.2.2.2.2.2.2.2.2.2.2.2.2.2.2.2.1,m1_1.2.2.2.2.2.2.2.2.2.2.2.2.2.2.2.2.2.2.2.1,m1_1.2.2.2.2.2.2.2.2.2.2.2.2.2.2.2.2.2.2.2.2.1,m1_1.2.2.2.2.2.2.2.2.2.2.2.2.2.2.2.2.2.2.2.2.2.1,m1_1.2.2.2.2.2.2.2.2.2.2.2.2.2.2.2.2.2.2.2.2.2.2.1,m1_1.2.2.2.2.2.2.2.2.2.2.2.2.2.2.2.2.2.2.2.2.2.2.2.1,m1_1.2.2.2.2.2.2.2.2.2.2.2.2.2.2.2.2.2.2.2.2.2.2.2.2.1,m1_1.2.2.2.2.2.2.2.2.2.2.2.2.2.2.2.2.2.2.2.2.2.2.2.2.2.1,m1_1.2.2.2.2.2.2.2.2.2.2.2.2.2.2.2.2.2.2.2.2.2.2.2.2.2.2.1,m1_1.2.2.2.2.2.2.2.2.2.2.2.2.2.2.2.2.2.2.2.2.2.2.2.2.2.2.2.1,())
 let s_27:=(m1_1.1,m1_1.2.1,m1_1.2.2.1,m1_1.2.2.2.1,m1_1.2.2.2.2.1,m1_1.2.2.2.2.2.1,m1_1.2.2.2.2.2.2.1,m1_1.2.2.2.2.2.2.2.1,m1_1.2.2.2.2.2.2.2.2.1,m1_1.2.2.2.2.2.2.2.2.2.1,m1_1.2.2.2.2.2.2.2.2.2.2.1,m1_1.2.2.2.2.2.2.2.2.2.2.2.1,m1_1.2.2.2.2.2.2.2.2.2.2.2.2.1,m1_1.2.2.2.2.2.2.2.2.2.2.2.2.2.1,(0:Int),([]:List Int),m1_1.2.2.2.2.2.2.2.2.2.2.2.2.2.2.2.2.1,m1_1.2.2.2.2.2.2.2.2.2.2.2.2.2.2.2.2.2.1,m1_1.2.2.2.2.2.2.2.2.2.2.2.2.2.2.2.2.2.2.1,m1_1.2.2.2.2.2.2.2.2.2.2.2.2.2.2.2.2.2.2.2.1,m1_1.2.2.2.2.2.2.2.2.2.2.2.2.2.2.2.2.2.2.2.2.1,m1_1.2.2.2.2.2.2.2.2.2.2.2.2.2.2.2.2.2.2.2.2.2.1,m1_1.2.2.2.2.2.2.2.2.2.2.2.2.2.2.2.2.2.2.2.2.2.2.1,m1_1.2.2.2.2.2.2.2.2.2.2.2.2.2.2.2.2.2.2.2.2.2.2.2.1,m1_1.2.2.2.2.2.2.2.2.2.2.2.2.2.2.2.2.2.2.2.2.2.2.2.2.1,m1_1.2.2.2.2.2.2.2.2.2.2.2.2.2.2.2.2.2.2.2.2.2.2.2.2.2.1,m1_1.2.2.2.2.2.2.2.2.2.2.2.2.2.2.2.2.2.2.2.2.2.2.2.2.2.2.1,m1_1.2.2.2.2.2.2.2.2.2.2.2.2.2.2.2.2.2.2.2.2.2.2.2.2.2.2.2.1,())
 let v54:=(m1_1.2.1 == 9)
 let s_28:=(m1_1.1,m1_1.2.1,m1_1.2.2.1,m1_1.2.2.2.1,m1_1.2.2.2.2.1,m1_1.2.2.2.2.2.1,m1_1.2.2.2.2.2.2.1,m1_1.2.2.2.2.2.2.2.1,m1_1.2.2.2.2.2.2.2.2.1,m1_1.2.2.2.2.2.2.2.2.2.1,m1_1.2.2.2.2.2.2.2.2.2.2.1,m1_1.2.2.2.2.2.2.2.2.2.2.2.1,m1_1.2.2.2.2.2.2.2.2.2.2.2.2.1,m1_1.2.2.2.2.2.2.2.2.2.2.2.2.2.1,m1_1.2.2.2.2.2.2.2.2.2.2.2.2.2.2.1,m1_1.2.2.2.2.2.2.2.2.2.2.2.2.2.2.2.1,m1_1.2.2.2.2.2.2.2.2.2.2.2.2.2.2.2.2.1,m1_1.2.2.2.2.2.2.2.2.2.2.2.2.2.2.2.2.2.1,m1_1.2.2.2.2.2.2.2.2.2.2.2.2.2.2.2.2.2.2.1,m1_1.2.2.2.2.2.2.2.2.2.2.2.2.2.2.2.2.2.2.2.1,m1_1.2.2.2.2.2.2.2.2.2.2.2.2.2.2.2.2.2.2.2.2.1,m1_1.2.2.2.2.2.2.2.2.2.2.2.2.2.2.2.2.2.2.2.2.2.1,m1_1.2.2.2.2.2.2.2.2.2.2.2.2.2.2.2.2.2.2.2.2.2.2.1,m1_1.2.2.2.2.2.2.2.2.2.2.2.2.2.2.2.2.2.2.2.2.2.2.2.1,m1_1.2.2.2.2.2.2.2.2.2.2.2.2.2.2.2.2.2.2.2.2.2.2.2.2.1,m1_1.2.2.2.2.2.2.2.2.2.2.2.2.2.2.2.2.2.2.2.2.2.2.2.2.2.1,(0:Int),m1_1.2.2.2.2.2.2.2.2.2.2.2.2.2.2.2.2.2.2.2.2.2.2.2.2.2.2.2.1,())
 let s_30:=(m1_1.1,m1_1.2.1,m1_1.2.2.1,m1_1.2.2.2.1,m1_1.2.2.2.2.1,m1_1.2.2.2.2.2.1,m1_1.2.2.2.2.2.2.1,m1_1.2.2.2.2.2.2.2.1,m1_1.2.2.2.2.2.2.2.2.1,m1_1.2.2.2.2.2.2.2.2.2.1,m1_1.2.2.2.2.2.2.2.2.2.2.1,m1_1.2.2.2.2.2.2.2.2.2.2.2.1,m1_1.2.2.2.2.2.2.2.2.2.2.2.2.1,m1_1.2.2.2.2.2.2.2.2.2.2.2.2.2.1,m1_1.2.2.2.2.2.2.2.2.2.2.2.2.2.2.1,m1_1.2.2.2.2.2.2.2.2.2.2.2.2.2.2.2.1,m1_1.2.2.2.2.2.2.2.2.2.2.2.2.2.2.2.2.1,m1_1.2.2.2.2.2.2.2.2.2.2.2.2.2.2.2.2.2.1,m1_1.2.2.2.2.2.2.2.2.2.2.2.2.2.2.2.2.2.2.1,m1_1.2.2.2.2.2.2.2.2.2.2.2.2.2.2.2.2.2.2.2.1,m1_1.2.2.2.2.2.2.2.2.2.2.2.2.2.2.2.2.2.2.2.2.1,m1_1.2.2.2.2.2.2.2.2.2.2.2.2.2.2.2.2.2.2.2.2.2.1,m1_1.2.2.2.2.2.2.2.2.2.2.2.2.2.2.2.2.2.2.2.2.2.2.1,m1_1.2.2.2.2.2.2.2.2.2.2.2.2.2.2.2.2.2.2.2.2.2.2.2.1,m1_1.2.2.2.2.2.2.2.2.2.2.2.2.2.2.2.2.2.2.2.2.2.2.2.2.1,m1_1.2.2.2.2.2.2.2.2.2.2.2.2.2.2.2.2.2.2.2.2.2.2.2.2.2.1,m1_1.2.2.2.2.2.2.2.2.2.2.2.2.2.2.2.2.2.2.2.2.2.2.2.2.2.2.1,((0:Int),(0:Int),(0:Int),([]:List D125),()),())
 let m1_6:=(bif (m1_1.2.1 == 6) then s_22 else (bif (m1_1.2.1 == 7) then s_25 else (bif (m1_1.2.1 == 8) then s_27 else (bif (bif v54 then v54 else (m1_1.2.1 == 10)) then s_28 else (bif (m1_1.2.1 == 11) then s_30 else m1_1)))))
 (((tK0 p0.2.1) ∧ (tK1 m1.2.1)),(bif (m1_1.2.1 == 2) then s_4 else (bif (m1_1.2.1 == 3) then s_6 else (bif (m1_1.2.1 == 4) then s_10 else (bif (m1_1.2.1 == 5) then s_17 else m1_6)))))
def sF1 (p0:D49):Prop:=(f83t p0).1
def f83 (p0:D49):D49:=(f83t p0).2
instance (p0:D49):Decidable (sF1 p0):=by
 unfold sF1 f83t
 try dsimp only
 infer_instance
def sY:Am.Spec:=fnSpec [(0,(.val T49))] (.val T49) [] (fun x=>sF1 x.1) (fun x=>f83 x.1) (fun _=>())
def pQ8:Ctx:=Cx tys [(76,tQ9),(79,tR)] [] [] false 62 [] []
theorem pQ9:CtxOk Tryz.prog pQ8:=xW3 tys_ok rfl ⟨qX1,qX2,trivial⟩ rfl (by kernel_rfl)
theorem oC2:SpecOk Tryz.prog 83 sY:=xY2 pQ9 mixed Tryz.func83 (by kernel_rfl) (bs:=[]) (by kernel_rfl) trivial fun x=>by kernel_rfl
def f52t (p0:D49) (p1:Int) (p2:Int):Prop × Int :=
 let v15:=(f75 p0 p1 p2)
 let v17:=(v15 != 0)
 let v21:=(f76 p0.2.1)
 let v24:=(f77 p0.2.2.2.2.2.2.2.2.2.2.1)
 let v26:=(v24 != 0)
 let v31:=(f78 p0.2.2.2.2.2.2.2.2.2.2.1)
 let v35:=(v31.2.1 != 0)
 let v39:=(f79 p0.2.1)
 let v45:=(bif v39 then (!(f80 p0.2.2.2.2.2.2.2.2.2.2.2.1)) else false)
 let v47:=(f81 p0)
 let v49:=(v47 != 0)
 let v52:=(f83 p0)
 let m6_5:=(bif v17 then v15 else (bif ((v26 || ((!v26) && v35)) && v21) then (bif v26 then v24 else v31.2.1) else (bif v45 then (8:Int) else (bif v49 then v47 else (bif (!(f82 v52)) then (1:Int) else (0:Int))))))
 (((tZ9 p0 p1 p2) ∧ ((!v17) = true → ((tK0 p0.2.1) ∧ ((v21 = true → ((vT1 p0.2.2.2.2.2.2.2.2.2.2.1) ∧ ((!v26) = true → (sA0 p0.2.2.2.2.2.2.2.2.2.2.1)))) ∧ ((bif v21 then ((!v26) && (!v35)) else true) = true → ((tK1 p0.2.1) ∧ ((v39 = true → (sA1 p0.2.2.2.2.2.2.2.2.2.2.2.1)) ∧ ((!v45) = true → ((sF p0) ∧ ((!v49) = true → ((sF1 p0) ∧ (sF0 v52)))))))))))),m6_5)
def sF2 (p0:D49) (p1:Int) (p2:Int):Prop:=(f52t p0 p1 p2).1
def f52 (p0:D49) (p1:Int) (p2:Int):Int:=(f52t p0 p1 p2).2
instance (p0:D49) (p1:Int) (p2:Int):Decidable (sF2 p0 p1 p2):=by
 unfold sF2 f52t
 try dsimp only
 infer_instance
def sY0:Am.Spec:=fnSpec [(0,(.val T49)),(1,vI),(2,vI)] vI [] (fun x=>sF2 x.1 x.2.1 x.2.2.1) (fun x=>f52 x.1 x.2.1 x.2.2.1) (fun _=>())
def pR:Ctx:=Cx tys [(75,sU),(76,tQ9),(77,vX5),(78,sU1),(79,tR),(80,sU2),(81,sX8),(82,sX9),(83,sY)] [] [] false 55 [] []
theorem pR0:CtxOk Tryz.prog pR:=xW3 tys_ok rfl ⟨oB7,qX1,sU0,oB8,qX2,oB9,oC0,oC1,oC2,trivial⟩ rfl (by kernel_rfl)
theorem oC3:SpecOk Tryz.prog 52 sY0:=xY2 pR0 mixed Tryz.func52 (by kernel_rfl) (bs:=[]) (by kernel_rfl) trivial fun x=>by kernel_rfl
abbrev wH4:Type:=((List (Int × Int × Unit)) × Int × D28 × Unit)
abbrev wD0:Type:=(Int × Unit)
def wO1 (y:wH4) (x:wD0):Prop × Bool × wD0 × Bool × Bool :=
 let a2:=y.2.1
 let a3:=y.2.2.1
 let a7:=x.1
 let v16:=(a7 != 0)
 let v24:=(a7 == (nth a3.2.2.2.1 a2 Z49).2.2.1)
 let v29:=(Option.getD (yI6 (.int .i64) (.int .i64) a7 y.1) (0:Int))
 ((v16 = true → (InB a2 (len a3.2.2.2.1) ∧ ((!v24) = true → InB v29 (len a3.2.2.2.1)))),(v16 && (!v24)),((nth a3.2.2.2.1 v29 Z49).2.2.1,()),(v16 && v24),(!v16))
def wR9 (y:wH4) (x:wD0):Prop:=(wO1 y x).1
def wH5 (y:wH4) (x:wD0):Bool:=(wO1 y x).2.1
def wB0 (y:wH4) (x:wD0):wD0:=(wO1 y x).2.2.1
def wS (y:wH4) (x:wD0):Bool:=(wO1 y x).2.2.2.1
def sF3 (y:wH4) (x:wD0):Bool:=(wO1 y x).2.2.2.2
instance (y:wH4) (x:wD0):Decidable (wR9 y x):=by
 unfold wR9 wO1
 try dsimp only
 infer_instance
def vT4 (y:wH4) (x:wD0):Bool :=
 true
def uO2:List (Nat × Sh):=[(1,(.own (xD1 (.int .i64) (.int .i64)) 400100 true)),(6,vB)]
def uO3:List (Nat × Sh):=[(1,(.own (xD1 (.int .i64) (.int .i64)) 400100 true))]
def vT5:St → Option Out:=xP3 [(1,(.own (xD1 (.int .i64) (.int .i64)) 400100 true)),(2,vI),(3,(.box T28 (.val T28)))] [(7,vI)] wH5 wB0 wR9 fun y x=>[ex 1 (some (wS y x)) uO2 (y.1,(vT4 y x),()),ex 2 (some (sF3 y x)) uO3 (y.1,())]
def tC9 (p0:D28) (p1:(List (Int × Int × Unit))) (p2:Int):Prop × Bool × ((List (Int × Int × Unit)) × Unit) :=
 let v11:=(p2 - 1)
 let y2:=(p1,p2,p0,())
 let x2:=((nth p0.2.2.2.1 v11 Z49).1,())
 let e2:=(zC1 (wH5 y2) (wB0 y2) x2)
 let q2_1:=(wS y2 e2)
 ((InR (p2 - 1) ∧ (InB v11 (len p0.2.2.2.1) ∧ (Am.Ends (wH5 y2) (wB0 y2) (wR9 y2) x2))),(bif q2_1 then (vT4 y2 e2) else false),((bif q2_1 then p1 else p1),()))
def vM4 (p0:D28) (p1:(List (Int × Int × Unit))) (p2:Int):Prop:=(tC9 p0 p1 p2).1
def tD (p0:D28) (p1:(List (Int × Int × Unit))) (p2:Int):Bool:=(tC9 p0 p1 p2).2.1
def wY3 (p0:D28) (p1:(List (Int × Int × Unit))) (p2:Int):((List (Int × Int × Unit)) × Unit):=(tC9 p0 p1 p2).2.2
instance (p0:D28) (p1:(List (Int × Int × Unit))) (p2:Int):Decidable (vM4 p0 p1 p2):=by
 unfold vM4 tC9
 try dsimp only
 infer_instance
def tD0:Am.Spec:=fnSpec [(0,(.val T28)),(1,(.own (xD1 (.int .i64) (.int .i64)) 400100 true)),(2,vI)] vB [(1,(.own (xD1 (.int .i64) (.int .i64)) 400100 true))] (fun x=>vM4 x.1 x.2.1 x.2.2.1) (fun x=>tD x.1 x.2.1 x.2.2.1) (fun x=>wY3 x.1 x.2.1 x.2.2.1)
def tN3:Ctx:={ Cx tys [] [(2,vT5)] [] false 33 [1] [] with maps:=maps }
theorem tN4:CtxOk Tryz.prog tN3:=xW3 tys_ok (by kernel_rfl) trivial rfl (by kernel_rfl)
noncomputable def sO:Code:=Tryz.f53.body.getD .skip
noncomputable def sF4:Code:=xX2 sO 0
theorem sF5:yU9 Tryz.prog tN3 sF4:=xY1 tN4 mixed (sp:=vT5) rfl [uO2,uO3] (bs:=[]) (by kernel_rfl) trivial (by kernel_rfl) (by kernel_rfl) fun y x=>by kernel_rfl
theorem rR2:SpecOk Tryz.prog 53 tD0:=xY2 tN4 mixed Tryz.func53 (by kernel_rfl) (bs:=[sF4]) (by kernel_rfl) ⟨sF5,trivial⟩ fun x=>by kernel_rfl
abbrev wY4:Type:=(D28 × (List D49) × Int × Unit)
abbrev wK8:Type:=((List (Int × Int × Unit)) × (List Int) × Int × Unit)
def vH2 (y:wY4) (x:wK8):Prop × Bool × wK8 × Bool × Bool :=
 let a1:=y.1
 let a18:=y.2.1
 let a3:=x.1
 let a4:=x.2.1
 let a20:=x.2.2.1
 let v21:=(decide (a20 < y.2.2.1))
 let v23:=(nth a18 a20 Z49)
 let v32:=((f52 v23 a1.1 a1.2.1) != 0)
 let v43:=(bif (decide (v23.1 < 1)) then true else (decide (v23.1 ≥ a1.2.2.2.2.1)))
 let v50:=(Option.isSome (yI6 (.int .i64) (.int .i64) v23.1 a3))
 let l1004:=(List.set a4 (Int.toNat a20) (1:Int))
 let v57:=(v23.2.2.1 != 0)
 let v63:=(Option.getD (yI6 (.int .i64) (.int .i64) v23.2.2.1 a3) (0:Int))
 let v66:=(!(Option.isSome (yI6 (.int .i64) (.int .i64) v23.2.2.1 a3)))
 let v75:=(bif v66 then true else ((nth a1.2.2.2.1 v63 Z49).2.1 != 1))
 let v80:=(!(tD a1 a3 a20))
 let v86:=(nth l1004 v63 (0:Int))
 let c_3:=(bif v57 then ((!v75) && (!v80)) else true)
 let m4:=(bif v57 then (List.set l1004 (Int.toNat a20) (v86 + 1)) else l1004)
 let v93:=(decide ((nth m4 a20 (0:Int)) > 8))
 let c_14:=((!v32) && ((!v43) && ((!v50) && (c_3 && (!v93)))))
 ((v21 = true → (InB a20 (len a18) ∧ ((sF2 v23 a1.1 a1.2.1) ∧ (((!v32) = true → ((!v43) = true → ((!v50) = true → (InB a20 (len a4) ∧ (a20 < len a4 ∧ ((v57 = true → (((!v66) = true → InB v63 (len a1.2.2.2.1)) ∧ ((!v75) = true → ((vM4 a1 a3 a20) ∧ (0 < List.length a3 ∧ (List.length a3 = List.length a3 ∧ (List.length a3 = List.length a3 ∧ (List.length a3 = List.length a3 ∧ (List.length a3 = List.length a3 ∧ ((!v80) = true → (InB v63 (len l1004) ∧ (v63 < len l1004 ∧ (InR (v86 + 1) ∧ (InB a20 (len l1004) ∧ a20 < len l1004)))))))))))))) ∧ (c_3 = true → (InB a20 (len m4) ∧ a20 < len m4)))))))) ∧ (c_14 = true → InR (a20 + 1)))))),(v21 && c_14),((xL7 (.int .i64) (.int .i64) v23.1 a20 (bif v57 then (wY3 a1 a3 a20).1 else a3)),m4,(a20 + 1),()),(v21 && (v32 || ((!v32) && (v43 || ((!v43) && (v50 || ((!v50) && (((v75 || ((!v75) && v80)) && v57) || (c_3 && v93))))))))),(!v21))
def vD9 (y:wY4) (x:wK8):Prop:=(vH2 y x).1
def wI6 (y:wY4) (x:wK8):Bool:=(vH2 y x).2.1
def xZ5 (y:wY4) (x:wK8):wK8:=(vH2 y x).2.2.1
def wX1 (y:wY4) (x:wK8):Bool:=(vH2 y x).2.2.2.1
def rR3 (y:wY4) (x:wK8):Bool:=(vH2 y x).2.2.2.2
instance (y:wY4) (x:wK8):Decidable (vD9 y x):=by
 unfold vD9 vH2
 try dsimp only
 infer_instance
def vH3 (y:wY4) (x:wK8):Int :=
 let a1:=y.1
 let a3:=x.1
 let a20:=x.2.2.1
 let v23:=(nth y.2.1 a20 Z49)
 let v30:=(f52 v23 a1.1 a1.2.1)
 let v75:=(bif (!(Option.isSome (yI6 (.int .i64) (.int .i64) v23.2.2.1 a3))) then true else ((nth a1.2.2.2.1 (Option.getD (yI6 (.int .i64) (.int .i64) v23.2.2.1 a3) (0:Int)) Z49).2.1 != 1))
 let m2_2:=(bif (Option.isSome (yI6 (.int .i64) (.int .i64) v23.1 a3)) then (10:Int) else (bif ((v75 || ((!v75) && (!(tD a1 a3 a20)))) && (v23.2.2.1 != 0)) then (bif v75 then (9:Int) else (24:Int)) else (12:Int)))
 (bif (v30 != 0) then v30 else (bif (bif (decide (v23.1 < 1)) then true else (decide (v23.1 ≥ a1.2.2.2.2.1))) then (2:Int) else m2_2))
def tD1:St → Option Out:=xP3 [(1,(.box T28 (.val T28))),(18,(.val (.sl T49))),(19,vI)] [(3,(.own (xD1 (.int .i64) (.int .i64)) 1003 true)),(4,(.own (.int .i64) 1004 true)),(20,vI)] wI6 xZ5 vD9 fun y x=>[ex 1 (some (wX1 y x)) [(2,vI)] ((vH3 y x),()),ex 2 (some (rR3 y x)) [] ()]
def f24t (p0:D28):Prop × Int :=
 let v15:=(len p0.2.2.2.1)
 let y4:=(p0,p0.2.2.2.1,(len p0.2.2.2.1),())
 let x4:=(([]:List (Int × Int × Unit)),(List.replicate (Int.toNat v15) (0:Int)),(0:Int),())
 let e4:=(zC1 (wI6 y4) (xZ5 y4) x4)
 (((0 ≤ v15 ∧ v15 ≤ v15 ∧ v15 ≤ 4294967296) ∧ (Am.Ends (wI6 y4) (xZ5 y4) (vD9 y4) x4)),(bif (wX1 y4 e4) then (vH3 y4 e4) else (0:Int)))
def sF6 (p0:D28):Prop:=(f24t p0).1
def f24 (p0:D28):Int:=(f24t p0).2
instance (p0:D28):Decidable (sF6 p0):=by
 unfold sF6 f24t
 try dsimp only
 infer_instance
def sY1:Am.Spec:=fnSpec [(0,(.val T28))] vI [] (fun x=>sF6 x.1) (fun x=>f24 x.1) (fun _=>())
def rR4:Ctx:={ Cx tys [(52,sY0),(53,tD0)] [(4,tD1)] [(3,[(4,0,12,1003)]),(5,[(4,0,16,1004)])] false 99 [] [16] with wants:=[(53,[1])],maps:=maps }
theorem rR5:CtxOk Tryz.prog rR4:=xW3 tys_ok (by kernel_rfl) ⟨oC3,rR2,trivial⟩ rfl (by kernel_rfl)
noncomputable def qM3:Code:=Tryz.f24.body.getD .skip
noncomputable def qX5:Code:=xX2 qM3 0
theorem rR6:yU9 Tryz.prog rR4 qX5:=xY1 rR5 mixed (sp:=tD1) rfl [[(2,vI)],[]] (bs:=[]) (by kernel_rfl) trivial (by kernel_rfl) (by kernel_rfl) fun y x=>by kernel_rfl
theorem oC4:SpecOk Tryz.prog 24 sY1:=xY2 rR5 mixed Tryz.func24 (by kernel_rfl) (bs:=[qX5]) (by kernel_rfl) ⟨rR6,trivial⟩ fun x=>by kernel_rfl
abbrev vH4:Type:=(D28 × D49 × (List D49) × Int × Int × Unit)
abbrev wY5:Type:=(Int × Unit)
def tD2 (y:vH4) (x:wY5):Prop × Bool × wY5 :=
 let a1:=y.1
 let a5:=x.1
 let v20:=(decide (a5 ≥ 0))
 let v30:=((nth a1.2.2.2.1 a5 Z49).2.2.1 != y.2.1.2.2.1)
 let v39:=(bif v20 then (bif v30 then true else (nth a1.2.2.2.1 a5 Z49).2.2.2.2.2.2.1) else false)
 (((v20 = true → InB a5 (len a1.2.2.2.1)) ∧ (((v20 && (!v30)) = true → InB a5 (len a1.2.2.2.1)) ∧ (v39 = true → InR (a5 - 1)))),v39,((a5 - 1),()))
def vE (y:vH4) (x:wY5):Prop:=(tD2 y x).1
def wT5 (y:vH4) (x:wY5):Bool:=(tD2 y x).2.1
def wH6 (y:vH4) (x:wY5):wY5:=(tD2 y x).2.2
instance (y:vH4) (x:wY5):Decidable (vE y x):=by
 unfold vE tD2
 try dsimp only
 infer_instance
def vV4 (y:vH4) (x:wY5):Int :=
 x.1
def sF7:List (Nat × Sh):=[(1,(.box T28 (.val T28))),(5,vI),(7,(.val (.sl T49))),(8,vI),(9,vI)]
def tD3:St → Option Out:=xP3 [(1,(.box T28 (.val T28))),(4,(.box T49 (.val T49))),(7,(.val (.sl T49))),(8,vI),(9,vI)] [(5,vI)] wT5 wH6 vE fun y x=>[ex 4 none sF7 (y.1,(vV4 y x),y.2.2.1,y.2.2.2.1,y.2.2.2.2.1,())]
abbrev wY6:Type:=(Unit)
abbrev wO7:Type:=(D28 × (List D49) × Int × Int × Unit)
def vV5 (y:wY6) (x:wO7):Prop × Bool × wO7 × Bool × Bool :=
 let a1:=x.1
 let a7:=x.2.1
 let a8:=x.2.2.1
 let a9:=x.2.2.2.1
 let v10:=(decide (a9 < a8))
 let v12:=(nth a7 a9 Z49)
 let v16:=(!v12.2.2.2.2.2.2.1)
 let y6:=(a1,v12,a7,a8,a9,())
 let x6:=((a9 - 1),())
 let r6_4_0:=(vV4 y6 (zC1 (wT5 y6) (wH6 y6) x6))
 let v43:=(decide (r6_4_0 < 0))
 let v47:=(nth a1.2.2.2.1 r6_4_0 Z49)
 let v49:=(f54 v47)
 let c_5:=(v16 || ((!v16) && ((!v43) && (!v49))))
 let m9:=(bif v16 then a9 else a9)
 ((v10 = true → (InB a9 (len a7) ∧ (((!v16) = true → (InR (a9 - 1) ∧ ((Am.Ends (wT5 y6) (wH6 y6) (vE y6) x6) ∧ ((!v43) = true → (InB r6_4_0 (len a1.2.2.2.1) ∧ (uT9 v47)))))) ∧ (c_5 = true → InR (m9 + 1))))),(v10 && c_5),((bif v16 then a1 else a1),(bif v16 then a7 else a7),(bif v16 then a8 else a8),(m9 + 1),()),(v10 && ((!v16) && (v43 || ((!v43) && v49)))),(!v10))
def vM5 (y:wY6) (x:wO7):Prop:=(vV5 y x).1
def uR1 (y:wY6) (x:wO7):Bool:=(vV5 y x).2.1
def wO2 (y:wY6) (x:wO7):wO7:=(vV5 y x).2.2.1
def sF8 (y:wY6) (x:wO7):Bool:=(vV5 y x).2.2.2.1
def rR7 (y:wY6) (x:wO7):Bool:=(vV5 y x).2.2.2.2
instance (y:wY6) (x:wO7):Decidable (vM5 y x):=by
 unfold vM5 vV5
 try dsimp only
 infer_instance
def tD4 (y:wY6) (x:wO7):Int :=
 let a7:=x.2.1
 let a9:=x.2.2.2.1
 let y6:=(x.1,(nth a7 a9 Z49),a7,x.2.2.1,a9,())
 (bif (decide ((vV4 y6 (zC1 (wT5 y6) (wH6 y6) ((a9 - 1),()))) < 0)) then (14:Int) else (8:Int))
def tD5:St → Option Out:=xP3 [] [(1,(.box T28 (.val T28))),(7,(.val (.sl T49))),(8,vI),(9,vI)] uR1 wO2 vM5 fun y x=>[ex 1 (some (sF8 y x)) [(2,vI)] ((tD4 y x),()),ex 2 (some (rR7 y x)) [] ()]
def f25t (p0:D28):Prop × Int :=
 let x2:=(p0,p0.2.2.2.1,(len p0.2.2.2.1),(0:Int),())
 let e2:=(zC1 (uR1 ()) (wO2 ()) x2)
 ((Am.Ends (uR1 ()) (wO2 ()) (vM5 ()) x2),(bif (sF8 () e2) then (tD4 () e2) else (0:Int)))
def sF9 (p0:D28):Prop:=(f25t p0).1
def f25 (p0:D28):Int:=(f25t p0).2
instance (p0:D28):Decidable (sF9 p0):=by
 unfold sF9 f25t
 try dsimp only
 infer_instance
def sY2:Am.Spec:=fnSpec [(0,(.val T28))] vI [] (fun x=>sF9 x.1) (fun x=>f25 x.1) (fun _=>())
def sO0:Ctx:=Cx tys [(54,uP8)] [(6,tD3),(2,tD5)] [] false 51 [] []
theorem sO1:CtxOk Tryz.prog sO0:=xW3 tys_ok rfl ⟨rM3,trivial⟩ rfl (by kernel_rfl)
noncomputable def qM4:Code:=Tryz.f25.body.getD .skip
noncomputable def rR8:Code:=xX2 qM4 0
noncomputable def qX6:Code:=xX2 rR8 0
theorem rR9:yU9 Tryz.prog sO0 qX6:=xY1 sO1 mixed (sp:=tD3) rfl [sF7] (bs:=[]) (by kernel_rfl) trivial (by kernel_rfl) (by kernel_rfl) fun y x=>by kernel_rfl
theorem rS:yU9 Tryz.prog sO0 rR8:=xY1 sO1 mixed (sp:=tD5) rfl [[(2,vI)],[]] (bs:=[qX6]) (by kernel_rfl) ⟨rR9,trivial⟩ (by kernel_rfl) (by kernel_rfl) fun y x=>by kernel_rfl
theorem oC5:SpecOk Tryz.prog 25 sY2:=xY2 sO1 mixed Tryz.func25 (by kernel_rfl) (bs:=[rR8]) (by kernel_rfl) ⟨rS,trivial⟩ fun x=>by kernel_rfl
abbrev wY7:Type:=((List UInt8) × Int × Unit)
abbrev wO8:Type:=(Int × Unit)
def uG9 (y:wY7) (x:wO8):Prop × Bool × wO8 × Bool × Bool :=
 let a0:=y.1
 let a14:=x.1
 let v15:=(decide (a14 < y.2.1))
 let v20:=(decide ((xX5 a0 a14) < 33))
 let v26:=(bif v20 then true else (decide ((xX5 a0 a14) > 126)))
 ((v15 = true → (InB a14 (len a0) ∧ (((!v20) = true → InB a14 (len a0)) ∧ ((!v26) = true → InR (a14 + 1))))),(v15 && (!v26)),((a14 + 1),()),(v15 && v26),(!v15))
def uD4 (y:wY7) (x:wO8):Prop:=(uG9 y x).1
def tU (y:wY7) (x:wO8):Bool:=(uG9 y x).2.1
def vV6 (y:wY7) (x:wO8):wO8:=(uG9 y x).2.2.1
def sG (y:wY7) (x:wO8):Bool:=(uG9 y x).2.2.2.1
def rS0 (y:wY7) (x:wO8):Bool:=(uG9 y x).2.2.2.2
instance (y:wY7) (x:wO8):Decidable (uD4 y x):=by
 unfold uD4 uG9
 try dsimp only
 infer_instance
def tD6 (y:wY7) (x:wO8):Bool :=
 false
def tD7:St → Option Out:=xP3 [(0,vS),(13,vI)] [(14,vI)] tU vV6 uD4 fun y x=>[ex 1 (some (sG y x)) [(2,vB)] ((tD6 y x),()),ex 2 (some (rS0 y x)) [] ()]
def f55t (p0:(List UInt8)):Prop × Bool :=
 let v11:=(bif (decide ((len p0) < 1)) then true else (decide ((len p0) > 32)))
 let y4:=(p0,(len p0),())
 let x4:=((0:Int),())
 let e4:=(zC1 (tU y4) (vV6 y4) x4)
 (((!v11) = true → (Am.Ends (tU y4) (vV6 y4) (uD4 y4) x4)),(bif v11 then false else (bif (sG y4 e4) then (tD6 y4 e4) else true)))
def sG0 (p0:(List UInt8)):Prop:=(f55t p0).1
def f55 (p0:(List UInt8)):Bool:=(f55t p0).2
instance (p0:(List UInt8)):Decidable (sG0 p0):=by
 unfold sG0 f55t
 try dsimp only
 infer_instance
def sY3:Am.Spec:=fnSpec [(0,vS)] vB [] (fun x=>sG0 x.1) (fun x=>f55 x.1) (fun _=>())
def rS1:Ctx:=Cx tys [] [(4,tD7)] [] false 28 [] []
theorem rS2:CtxOk Tryz.prog rS1:=xW3 tys_ok rfl trivial rfl (by kernel_rfl)
noncomputable def qM5:Code:=Tryz.f55.body.getD .skip
noncomputable def qX7:Code:=xX2 qM5 0
theorem rS3:yU9 Tryz.prog rS1 qX7:=xY1 rS2 mixed (sp:=tD7) rfl [[(2,vB)],[]] (bs:=[]) (by kernel_rfl) trivial (by kernel_rfl) (by kernel_rfl) fun y x=>by kernel_rfl
theorem oC6:SpecOk Tryz.prog 55 sY3:=xY2 rS2 mixed Tryz.func55 (by kernel_rfl) (bs:=[qX7]) (by kernel_rfl) ⟨rS3,trivial⟩ fun x=>by kernel_rfl
abbrev wY8:Type:=(D28 × D90 × (List D90) × Int × Int × (List D90) × Int × Unit)
abbrev wO9:Type:=(Int × Unit)
def uH (y:wY8) (x:wO9):Prop × Bool × wO9 × Bool × Bool :=
 let a4:=y.2.1
 let a53:=y.2.2.2.2.2.1
 let a55:=x.1
 let v56:=(decide (a55 < y.2.2.2.2.2.2.1))
 let v57:=(nth a53 a55 Z90)
 let v70:=(bif (v57.1 == a4.1) then true else (v57.2.1 == a4.2.1))
 ((v56 = true → (InB a55 (len a53) ∧ ((!v70) = true → InR (a55 + 1)))),(v56 && (!v70)),((a55 + 1),()),(v56 && v70),(!v56))
def uD5 (y:wY8) (x:wO9):Prop:=(uH y x).1
def uR2 (y:wY8) (x:wO9):Bool:=(uH y x).2.1
def vH5 (y:wY8) (x:wO9):wO9:=(uH y x).2.2.1
def tD8 (y:wY8) (x:wO9):Bool:=(uH y x).2.2.2.1
def sG1 (y:wY8) (x:wO9):Bool:=(uH y x).2.2.2.2
instance (y:wY8) (x:wO9):Decidable (uD5 y x):=by
 unfold uD5 uH
 try dsimp only
 infer_instance
def tD9 (y:wY8) (x:wO9):Int :=
 (10:Int)
def sG2:List (Nat × Sh):=[(1,(.box T28 (.val T28))),(4,(.box T90 (.val T90))),(9,(.val (.sl T90))),(10,vI),(11,vI)]
def tE:St → Option Out:=xP3 [(1,(.box T28 (.val T28))),(4,(.box T90 (.val T90))),(9,(.val (.sl T90))),(10,vI),(11,vI),(53,(.val (.sl T90))),(54,vI)] [(55,vI)] uR2 vH5 uD5 fun y x=>[ex 1 (some (tD8 y x)) [(2,vI)] ((tD9 y x),()),ex 4 (some (sG1 y x)) sG2 (y.1,y.2.1,y.2.2.1,y.2.2.2.1,y.2.2.2.2.1,())]
abbrev wY9:Type:=(D28 × (List D90) × Int × Unit)
abbrev wP:Type:=(Int × Unit)
def uH0 (y:wY9) (x:wP):Prop × Bool × wP × Bool × Bool :=
 let a1:=y.1
 let a9:=y.2.1
 let a10:=y.2.2.1
 let a11:=x.1
 let v12:=(decide (a11 < a10))
 let v14:=(nth a9 a11 Z90)
 let v19:=(!(f55 v14.2.1))
 let v44:=(bif (bif (bif (bif (decide (v14.1 < 1)) then true else (decide (v14.1 ≥ a1.2.2.2.2.1))) then true else (decide (v14.2.2.1 < 0))) then true else (decide (v14.2.2.1 > 2))) then true else (decide (v14.2.2.2.1 < 1)))
 let v49:=(bif v44 then true else (decide (v14.2.2.2.1 > 1073741824)))
 let v53:=(List.take (Int.toNat a11) a1.2.2.2.2.2.2.2.1)
 let y9:=(a1,v14,a9,a10,a11,v53,(len v53),())
 let x9:=((0:Int),())
 let e9:=(zC1 (uR2 y9) (vH5 y9) x9)
 let q9_4:=(sG1 y9 e9)
 let v76:=((f56 v14.2.2.2.2.1) != 0)
 let c_8:=((!v19) && ((!v49) && (q9_4 && (!v76))))
 ((v12 = true → (InB a11 (len a9) ∧ ((sG0 v14.2.1) ∧ (((!v19) = true → ((!v49) = true → ((0 ≤ a11 ∧ a11 ≤ len a1.2.2.2.2.2.2.2.1) ∧ ((Am.Ends (uR2 y9) (vH5 y9) (uD5 y9) x9) ∧ (q9_4 = true → (tK2 v14.2.2.2.2.1)))))) ∧ (c_8 = true → InR (a11 + 1)))))),(v12 && c_8),((a11 + 1),()),(v12 && (v19 || ((!v19) && (v49 || ((!v49) && ((tD8 y9 e9) || (q9_4 && v76))))))),(!v12))
def uD6 (y:wY9) (x:wP):Prop:=(uH0 y x).1
def tU0 (y:wY9) (x:wP):Bool:=(uH0 y x).2.1
def vV7 (y:wY9) (x:wP):wP:=(uH0 y x).2.2.1
def sG3 (y:wY9) (x:wP):Bool:=(uH0 y x).2.2.2.1
def rS4 (y:wY9) (x:wP):Bool:=(uH0 y x).2.2.2.2
instance (y:wY9) (x:wP):Decidable (uD6 y x):=by
 unfold uD6 uH0
 try dsimp only
 infer_instance
def tE0 (y:wY9) (x:wP):Int :=
 let a1:=y.1
 let a9:=y.2.1
 let a11:=x.1
 let v14:=(nth a9 a11 Z90)
 let v44:=(bif (bif (bif (bif (decide (v14.1 < 1)) then true else (decide (v14.1 ≥ a1.2.2.2.2.1))) then true else (decide (v14.2.2.1 < 0))) then true else (decide (v14.2.2.1 > 2))) then true else (decide (v14.2.2.2.1 < 1)))
 let v53:=(List.take (Int.toNat a11) a1.2.2.2.2.2.2.2.1)
 let y9:=(a1,v14,a9,y.2.2.1,a11,v53,(len v53),())
 let e9:=(zC1 (uR2 y9) (vH5 y9) ((0:Int),()))
 let m2_2:=(bif (!(f55 v14.2.1)) then (13:Int) else (bif (bif v44 then true else (decide (v14.2.2.2.1 > 1073741824))) then (2:Int) else (bif (tD8 y9 e9) then (tD9 y9 e9) else (f56 v14.2.2.2.2.1))))
 m2_2
def tE1:St → Option Out:=xP3 [(1,(.box T28 (.val T28))),(9,(.val (.sl T90))),(10,vI)] [(11,vI)] tU0 vV7 uD6 fun y x=>[ex 1 (some (sG3 y x)) [(2,vI)] ((tE0 y x),()),ex 2 (some (rS4 y x)) [] ()]
def f26t (p0:D28):Prop × Int :=
 let y2:=(p0,p0.2.2.2.2.2.2.2.1,(len p0.2.2.2.2.2.2.2.1),())
 let x2:=((0:Int),())
 let e2:=(zC1 (tU0 y2) (vV7 y2) x2)
 ((Am.Ends (tU0 y2) (vV7 y2) (uD6 y2) x2),(bif (sG3 y2 e2) then (tE0 y2 e2) else (0:Int)))
def sG4 (p0:D28):Prop:=(f26t p0).1
def f26 (p0:D28):Int:=(f26t p0).2
instance (p0:D28):Decidable (sG4 p0):=by
 unfold sG4 f26t
 try dsimp only
 infer_instance
def sY4:Am.Spec:=fnSpec [(0,(.val T28))] vI [] (fun x=>sG4 x.1) (fun x=>f26 x.1) (fun _=>())
def sO2:Ctx:=Cx tys [(55,sY3),(56,tR1)] [(9,tE),(2,tE1)] [] false 79 [] []
theorem sO3:CtxOk Tryz.prog sO2:=xW3 tys_ok rfl ⟨oC6,qX4,trivial⟩ rfl (by kernel_rfl)
noncomputable def qM6:Code:=Tryz.f26.body.getD .skip
noncomputable def rS5:Code:=xX2 qM6 0
noncomputable def qX8:Code:=xX2 rS5 0
theorem rS6:yU9 Tryz.prog sO2 qX8:=xY1 sO3 mixed (sp:=tE) rfl [[(2,vI)],sG2] (bs:=[]) (by kernel_rfl) trivial (by kernel_rfl) (by kernel_rfl) fun y x=>by kernel_rfl
theorem rS7:yU9 Tryz.prog sO2 rS5:=xY1 sO3 mixed (sp:=tE1) rfl [[(2,vI)],[]] (bs:=[qX8]) (by kernel_rfl) ⟨rS6,trivial⟩ (by kernel_rfl) (by kernel_rfl) fun y x=>by kernel_rfl
theorem oC7:SpecOk Tryz.prog 26 sY4:=xY2 sO3 mixed Tryz.func26 (by kernel_rfl) (bs:=[rS5]) (by kernel_rfl) ⟨rS7,trivial⟩ fun x=>by kernel_rfl
def sO4 (p0:D90) (p1:D49):Prop × Bool :=
 (True,(p0.1 == p1.2.2.2.2.2.2.2.2.2.2.2.2.2.2.2.2.2.2.2.2.2.2.2.2.2.2.1))
def uD7 (p0:D90) (p1:D49):Prop:=(sO4 p0 p1).1
def qX9 (p0:D90) (p1:D49):Bool:=(sO4 p0 p1).2
instance (p0:D90) (p1:D49):Decidable (uD7 p0 p1):=by
 unfold uD7 sO4
 try dsimp only
 infer_instance
def tE2:Am.Spec:=fnSpec [(0,(.val T90)),(1,(.val (.ptr T49)))] vB [] (fun x=>uD7 x.1 x.2.1) (fun x=>qX9 x.1 x.2.1) (fun _=>())
def rJ2:Ctx:=Cx tys [] [] [] false 9 [] []
theorem rJ3:CtxOk Tryz.prog rJ2:=xW3 tys_ok rfl trivial rfl (by kernel_rfl)
theorem rS8:SpecOk Tryz.prog 58 tE2:=xY2 rJ3 mixed Tryz.func58 (by kernel_rfl) (bs:=[]) (by kernel_rfl) trivial fun x=>by kernel_rfl
abbrev wH7:Type:=((List D90) × (D49 × Unit) × Int × Unit)
abbrev wD1:Type:=(Int × Unit)
def wV8 (y:wH7) (x:wD1):Prop × Bool × wD1 × Bool × Bool :=
 let a0:=y.1
 let a1:=y.2.1
 let a8:=x.1
 let v9:=(decide (a8 < y.2.2.1))
 let v14:=(nth a0 a8 Z90)
 let v16:=(qX9 v14 a1.1)
 ((v9 = true → (InB a8 (len a0) ∧ ((uD7 v14 a1.1) ∧ ((!v16) = true → InR (a8 + 1))))),(v9 && (!v16)),((a8 + 1),()),(v9 && v16),(!v9))
def wZ (y:wH7) (x:wD1):Prop:=(wV8 y x).1
def vV8 (y:wH7) (x:wD1):Bool:=(wV8 y x).2.1
def wZ9 (y:wH7) (x:wD1):wD1:=(wV8 y x).2.2.1
def uO4 (y:wH7) (x:wD1):Bool:=(wV8 y x).2.2.2.1
def sG5 (y:wH7) (x:wD1):Bool:=(wV8 y x).2.2.2.2
instance (y:wH7) (x:wD1):Decidable (wZ y x):=by
 unfold wZ wV8
 try dsimp only
 infer_instance
def vT6 (y:wH7) (x:wD1):Int :=
 x.1
def vT7:St → Option Out:=xP3 [(0,(.val (.sl T90))),(1,(.fn 58 (.cons (.val (.ptr T49)) .nl))),(7,vI)] [(8,vI)] vV8 wZ9 wZ fun y x=>[ex 1 (some (uO4 y x)) [(4,vI)] ((vT6 y x),()),ex 2 (some (sG5 y x)) [] ()]
def sO5 (p0:(List D90)) (p1:(D49 × Unit)):Prop × Int :=
 let y2:=(p0,(p1.1,()),(len p0),())
 let x2:=((0:Int),())
 let e2:=(zC1 (vV8 y2) (wZ9 y2) x2)
 ((Am.Ends (vV8 y2) (wZ9 y2) (wZ y2) x2),(bif (uO4 y2 e2) then (vT6 y2 e2) else (-1:Int)))
def vM6 (p0:(List D90)) (p1:(D49 × Unit)):Prop:=(sO5 p0 p1).1
def qY (p0:(List D90)) (p1:(D49 × Unit)):Int:=(sO5 p0 p1).2
instance (p0:(List D90)) (p1:(D49 × Unit)):Decidable (vM6 p0 p1):=by
 unfold vM6 sO5
 try dsimp only
 infer_instance
def tE3:Am.Spec:=fnSpec [(0,(.val (.sl T90))),(1,(.fn 58 (.cons (.val (.ptr T49)) .nl)))] vI [] (fun x=>vM6 x.1 x.2.1) (fun x=>qY x.1 x.2.1) (fun _=>())
def tN5:Ctx:=Cx tys [(58,tE2)] [(2,vT7)] [] false 19 [] []
theorem tN6:CtxOk Tryz.prog tN5:=xW3 tys_ok rfl ⟨rS8,trivial⟩ rfl (by kernel_rfl)
noncomputable def sO6:Code:=Tryz.f86.body.getD .skip
noncomputable def sG6:Code:=xX2 sO6 0
theorem sG7:yU9 Tryz.prog tN5 sG6:=xY1 tN6 mixed (sp:=vT7) rfl [[(4,vI)],[]] (bs:=[]) (by kernel_rfl) trivial (by kernel_rfl) (by kernel_rfl) fun y x=>by kernel_rfl
theorem rS9:SpecOk Tryz.prog 86 tE3:=xY2 tN6 mixed Tryz.func86 (by kernel_rfl) (bs:=[sG6]) (by kernel_rfl) ⟨sG7,trivial⟩ fun x=>by kernel_rfl
def sO7 (p0:(List D90)) (p1:(D49 × Unit)):Prop × Bool :=
 let s:=(p1.1,())
 ((vM6 p0 s),(decide ((qY p0 s) ≥ 0)))
def vM7 (p0:(List D90)) (p1:(D49 × Unit)):Prop:=(sO7 p0 p1).1
def qY0 (p0:(List D90)) (p1:(D49 × Unit)):Bool:=(sO7 p0 p1).2
instance (p0:(List D90)) (p1:(D49 × Unit)):Decidable (vM7 p0 p1):=by
 unfold vM7 sO7
 try dsimp only
 infer_instance
def tE4:Am.Spec:=fnSpec [(0,(.val (.sl T90))),(1,(.fn 58 (.cons (.val (.ptr T49)) .nl)))] vB [] (fun x=>vM7 x.1 x.2.1) (fun x=>qY0 x.1 x.2.1) (fun _=>())
def rJ4:Ctx:=Cx tys [(86,tE3)] [] [] false 9 [] []
theorem rJ5:CtxOk Tryz.prog rJ4:=xW3 tys_ok rfl ⟨rS9,trivial⟩ rfl (by kernel_rfl)
theorem rT:SpecOk Tryz.prog 57 tE4:=xY2 rJ5 mixed Tryz.func57 (by kernel_rfl) (bs:=[]) (by kernel_rfl) trivial fun x=>by kernel_rfl
abbrev wZ0:Type:=(D28 × (List D49) × Int × Unit)
abbrev wP0:Type:=(Int × Unit)
def uH1 (y:wZ0) (x:wP0):Prop × Bool × wP0 × Bool × Bool :=
 let a1:=y.1
 let a7:=y.2.1
 let a9:=x.1
 let v10:=(decide (a9 < y.2.2.1))
 let v11:=(nth a7 a9 Z49)
 let v16:=(v11.2.1 == 9)
 let s:=(v11,())
 let v21:=(!(qY0 a1.2.2.2.2.2.2.2.1 s))
 let v23:=(v11.2.1 == 10)
 let v27:=(f8 a1 v11.2.2.2.2.2.2.2.2.2.2.2.2.2.2.2.2.2.2.2.2.2.2.2.2.2.2.1)
 let v29:=(decide (v27 < 0))
 let v33:=(nth a1.2.2.2.1 v27 Z49)
 let v35:=(f54 v33)
 let c_6:=(bif v16 then (!v21) else (bif v23 then ((!v29) && (!v35)) else true))
 ((v10 = true → (InB a9 (len a7) ∧ ((v16 = true → (vM7 a1.2.2.2.2.2.2.2.1 s)) ∧ ((v16 = false → (v23 = true → ((vX2 a1 v11.2.2.2.2.2.2.2.2.2.2.2.2.2.2.2.2.2.2.2.2.2.2.2.2.2.2.1) ∧ ((!v29) = true → (InB v27 (len a1.2.2.2.1) ∧ (uT9 v33)))))) ∧ (c_6 = true → InR (a9 + 1)))))),(v10 && c_6),((a9 + 1),()),(v10 && (bif v16 then v21 else ((v29 || ((!v29) && v35)) && v23))),(!v10))
def uD8 (y:wZ0) (x:wP0):Prop:=(uH1 y x).1
def tU1 (y:wZ0) (x:wP0):Bool:=(uH1 y x).2.1
def vV9 (y:wZ0) (x:wP0):wP0:=(uH1 y x).2.2.1
def sG8 (y:wZ0) (x:wP0):Bool:=(uH1 y x).2.2.2.1
def rT0 (y:wZ0) (x:wP0):Bool:=(uH1 y x).2.2.2.2
instance (y:wZ0) (x:wP0):Decidable (uD8 y x):=by
 unfold uD8 uH1
 try dsimp only
 infer_instance
def tE5 (y:wZ0) (x:wP0):Int :=
 let v11:=(nth y.2.1 x.1 Z49)
 (bif (v11.2.1 == 9) then (9:Int) else (bif (decide ((f8 y.1 v11.2.2.2.2.2.2.2.2.2.2.2.2.2.2.2.2.2.2.2.2.2.2.2.2.2.2.1) < 0)) then (9:Int) else (8:Int)))
def tE6:St → Option Out:=xP3 [(1,(.box T28 (.val T28))),(7,(.val (.sl T49))),(8,vI)] [(9,vI)] tU1 vV9 uD8 fun y x=>[ex 1 (some (sG8 y x)) [(2,vI)] ((tE5 y x),()),ex 2 (some (rT0 y x)) [] ()]
def f27t (p0:D28):Prop × Int :=
 let y2:=(p0,p0.2.2.2.1,(len p0.2.2.2.1),())
 let x2:=((0:Int),())
 let e2:=(zC1 (tU1 y2) (vV9 y2) x2)
 ((Am.Ends (tU1 y2) (vV9 y2) (uD8 y2) x2),(bif (sG8 y2 e2) then (tE5 y2 e2) else (0:Int)))
def sG9 (p0:D28):Prop:=(f27t p0).1
def f27 (p0:D28):Int:=(f27t p0).2
instance (p0:D28):Decidable (sG9 p0):=by
 unfold sG9 f27t
 try dsimp only
 infer_instance
def sY5:Am.Spec:=fnSpec [(0,(.val T28))] vI [] (fun x=>sG9 x.1) (fun x=>f27 x.1) (fun _=>())
def rT1:Ctx:=Cx tys [(8,vF2),(54,uP8),(57,tE4)] [(2,tE6)] [(12,[(3,4,0,0)])] false 37 [] []
theorem rT2:CtxOk Tryz.prog rT1:=xW3 tys_ok rfl ⟨tZ0,rM3,rT,trivial⟩ rfl (by kernel_rfl)
noncomputable def qM7:Code:=Tryz.f27.body.getD .skip
noncomputable def qY1:Code:=xX2 qM7 0
theorem rT3:yU9 Tryz.prog rT1 qY1:=xY1 rT2 mixed (sp:=tE6) rfl [[(2,vI)],[]] (bs:=[]) (by kernel_rfl) trivial (by kernel_rfl) (by kernel_rfl) fun y x=>by kernel_rfl
theorem oC8:SpecOk Tryz.prog 27 sY5:=xY2 rT2 mixed Tryz.func27 (by kernel_rfl) (bs:=[qY1]) (by kernel_rfl) ⟨rT3,trivial⟩ fun x=>by kernel_rfl
abbrev vR4:Type:=(Int × D28 × (List D49) × Int × Unit)
abbrev wT6:Type:=((List Int) × Int × Unit)
def tU2 (y:vR4) (x:wT6):Prop × Bool × wT6 :=
 let a1:=y.1
 let a2:=y.2.1
 let a18:=y.2.2.1
 let a5:=x.1
 let a20:=x.2.1
 let v21:=(decide (a20 < y.2.2.2.1))
 let v33:=((nth a18 a20 Z49).2.2.1 == (nth a2.2.2.2.1 a1 Z49).1)
 let v36:=([a20]:List Int)
 ((v21 = true → (InB a20 (len a18) ∧ (InB a1 (len a2.2.2.2.1) ∧ ((v33 = true → ((List.length a5 + List.length v36:Nat):Int) ≤ 4294967296) ∧ InR (a20 + 1))))),v21,((bif v33 then (a5 ++ v36) else a5),(a20 + 1),()))
def vE0 (y:vR4) (x:wT6):Prop:=(tU2 y x).1
def vR5 (y:vR4) (x:wT6):Bool:=(tU2 y x).2.1
def wO3 (y:vR4) (x:wT6):wT6:=(tU2 y x).2.2
instance (y:vR4) (x:wT6):Decidable (vE0 y x):=by
 unfold vE0 tU2
 try dsimp only
 infer_instance
def vW (y:vR4) (x:wT6):(List Int) :=
 x.1
def sH:List (Nat × Sh):=[(5,(.own (.int .i64) 1005 false))]
def tE7:St → Option Out:=xP3 [(1,vI),(2,(.box T28 (.val T28))),(18,(.val (.sl T49))),(19,vI)] [(5,(.own (.int .i64) 1005 false)),(20,vI)] vR5 wO3 vE0 fun y x=>[ex 3 none sH ((vW y x),())]
def f60t (p0:D28) (p1:Int):Prop × (List Int) :=
 let v12:=(nth p0.2.2.2.1 p1 Z49)
 let v16:=(v12.2.1 == 1)
 let y5:=(p1,p0,p0.2.2.2.1,(len p0.2.2.2.1),())
 let x5:=(([]:List Int),(0:Int),())
 let v40:=(v12.2.1 == 10)
 let v45:=(nth p0.2.2.2.1 p1 Z49)
 let v48:=(f8 p0 v45.2.2.2.2.2.2.2.2.2.2.2.2.2.2.2.2.2.2.2.2.2.2.2.2.2.2.1)
 let v50:=(decide (v48 ≥ 0))
 let v53:=([v48]:List Int)
 ((InB p1 (len p0.2.2.2.1) ∧ ((v16 = true → (Am.Ends (vR5 y5) (wO3 y5) (vE0 y5) x5)) ∧ (v16 = false → (v40 = true → (InB p1 (len p0.2.2.2.1) ∧ ((vX2 p0 v45.2.2.2.2.2.2.2.2.2.2.2.2.2.2.2.2.2.2.2.2.2.2.2.2.2.2.1) ∧ (v50 = true → (List.length v53:Int) ≤ 4294967296))))))),(bif v16 then (vW y5 (zC1 (vR5 y5) (wO3 y5) x5)) else (bif v40 then (bif v50 then v53 else []) else [])))
def sH0 (p0:D28) (p1:Int):Prop:=(f60t p0 p1).1
def f60 (p0:D28) (p1:Int):(List Int):=(f60t p0 p1).2
instance (p0:D28) (p1:Int):Decidable (sH0 p0 p1):=by
 unfold sH0 f60t
 try dsimp only
 infer_instance
def sY6:Am.Spec:=fnSpec [(0,(.val T28)),(1,vI)] (.own (.int .i64) 0 false) [] (fun x=>sH0 x.1 x.2.1) (fun x=>f60 x.1 x.2.1) (fun _=>())
def rT4:Ctx:=Cx tys [(8,vF2)] [(5,tE7)] [(17,[(4,0,37,1005)]),(27,[(4,0,54,1005)]),(29,[(4,0,1005,0)])] false 56 [] []
theorem rT5:CtxOk Tryz.prog rT4:=xW3 tys_ok rfl ⟨tZ0,trivial⟩ rfl (by kernel_rfl)
noncomputable def qM8:Code:=Tryz.f60.body.getD .skip
noncomputable def qY2:Code:=xX2 qM8 0
theorem rT6:yU9 Tryz.prog rT4 qY2:=xY1 rT5 mixed (sp:=tE7) rfl [sH] (bs:=[]) (by kernel_rfl) trivial (by kernel_rfl) (by kernel_rfl) fun y x=>by kernel_rfl
theorem oC9:SpecOk Tryz.prog 60 sY6:=xY2 rT5 mixed Tryz.func60 (by kernel_rfl) (bs:=[qY2]) (by kernel_rfl) ⟨rT6,trivial⟩ fun x=>by kernel_rfl
abbrev xZ7:Type:=Int → (List Bool) → (List Bool) → D28 → Unit → Prop × Bool × ((List Bool) × (List Bool) × D28 × Unit)
def vE1 (r:xZ7):Am.Spec:=fnSpec [(0,vI),(1,(.box (.sl .bool) (.own .bool 400100 true))),(2,(.box (.sl .bool) (.own .bool 400200 true))),(3,(.box T28 (.val T28))),(4,(.fptr 59 [some (1,(.sl .bool)),some (2,(.sl .bool)),some (3,T28),none]))] vB [(1,(.box (.sl .bool) (.own .bool 400100 true))),(2,(.box (.sl .bool) (.own .bool 400200 true))),(3,(.box T28 (.val T28)))] (fun x=>(r x.1 x.2.1 x.2.2.1 x.2.2.2.1 x.2.2.2.2.1).1) (fun x=>(r x.1 x.2.1 x.2.2.1 x.2.2.2.1 x.2.2.2.2.1).2.1) (fun x=>(r x.1 x.2.1 x.2.2.1 x.2.2.2.1 x.2.2.2.2.1).2.2)
abbrev wA4:Type:=(Int × Unit × (List Int) × Int × Unit)
abbrev xZ1:Type:=((List Bool) × (List Bool) × D28 × Int × Unit)
def wV9 (r:xZ7) (y:wA4) (x:xZ1):Prop × Bool × xZ1 × Bool × Bool :=
 let a29:=y.2.2.1
 let a1:=x.1
 let a2:=x.2.1
 let a3:=x.2.2.1
 let a31:=x.2.2.2.1
 let v32:=(decide (a31 < y.2.2.2.1))
 let v33:=(nth a29 a31 (0:Int))
 let v37:=(r v33 a1 a2 a3 ()).2.1
 let v37o:=(r v33 a1 a2 a3 ()).2.2
 ((v32 = true → (InB a31 (len a29) ∧ ((r v33 a1 a2 a3 ()).1 ∧ ((!v37) = true → InR (a31 + 1))))),(v32 && (!v37)),(v37o.1,v37o.2.1,v37o.2.2.1,(a31 + 1),()),(v32 && v37),(!v32))
def wH8 (r:xZ7) (y:wA4) (x:xZ1):Prop:=((wV9 r) y x).1
def wD2 (r:xZ7) (y:wA4) (x:xZ1):Bool:=((wV9 r) y x).2.1
def wA1 (r:xZ7) (y:wA4) (x:xZ1):xZ1:=((wV9 r) y x).2.2.1
def vM8 (r:xZ7) (y:wA4) (x:xZ1):Bool:=((wV9 r) y x).2.2.2.1
def uO5 (r:xZ7) (y:wA4) (x:xZ1):Bool:=((wV9 r) y x).2.2.2.2
instance (r:xZ7) [∀ q0 q1 q2 q3 q4,Decidable (r q0 q1 q2 q3 q4).1] (y:wA4) (x:xZ1):Decidable ((wH8 r) y x):=by
 unfold wH8 wV9
 try dsimp only
 infer_instance
def vA (r:xZ7) (y:wA4) (x:xZ1):(List Bool) :=
 ((r (nth y.2.2.1 x.2.2.2.1 (0:Int)) x.1 x.2.1 x.2.2.1 ()).2.2).1
def vA0 (r:xZ7) (y:wA4) (x:xZ1):(List Bool) :=
 ((r (nth y.2.2.1 x.2.2.2.1 (0:Int)) x.1 x.2.1 x.2.2.1 ()).2.2).2.1
def vA1 (r:xZ7) (y:wA4) (x:xZ1):D28 :=
 ((r (nth y.2.2.1 x.2.2.2.1 (0:Int)) x.1 x.2.1 x.2.2.1 ()).2.2).2.2.1
def vT8 (r:xZ7) (y:wA4) (x:xZ1):Bool :=
 true
def uO6:List (Nat × Sh):=[(1,(.box (.sl .bool) (.own .bool 400100 true))),(2,(.box (.sl .bool) (.own .bool 400200 true))),(3,(.box T28 (.val T28))),(6,vB)]
def vA2 (r:xZ7) (y:wA4) (x:xZ1):(List Bool) :=
 x.1
def vA3 (r:xZ7) (y:wA4) (x:xZ1):(List Bool) :=
 x.2.1
def vA4 (r:xZ7) (y:wA4) (x:xZ1):D28 :=
 x.2.2.1
def uO7:List (Nat × Sh):=[(0,vI),(1,(.box (.sl .bool) (.own .bool 400100 true))),(2,(.box (.sl .bool) (.own .bool 400200 true))),(3,(.box T28 (.val T28)))]
def vT9 (r:xZ7):St → Option Out:=xP3 [(0,vI),(4,(.fptr 59 [some (1,(.sl .bool)),some (2,(.sl .bool)),some (3,T28),none])),(29,(.own (.int .i64) 29 false)),(30,vI)] [(1,(.box (.sl .bool) (.own .bool 400100 true))),(2,(.box (.sl .bool) (.own .bool 400200 true))),(3,(.box T28 (.val T28))),(31,vI)] (wD2 r) (wA1 r) (wH8 r) fun y x=>[ex 1 (some ((vM8 r) y x)) uO6 (((vA r) y x),((vA0 r) y x),((vA1 r) y x),((vT8 r) y x),()),ex 2 (some ((uO5 r) y x)) uO7 (y.1,((vA2 r) y x),((vA3 r) y x),((vA4 r) y x),())]
def vM9 (r:xZ7) (p0:Int) (p1:(List Bool)) (p2:(List Bool)) (p3:D28) (p4:Unit):Prop × Bool × ((List Bool) × (List Bool) × D28 × Unit) :=
 let v12:=(nth p1 p0 false)
 let v18:=(bif v12 then true else (nth p2 p0 false))
 let v29:=(f60 p3 p0)
 let y5:=(p0,(),v29,(len v29),())
 let x5:=(p1,(List.set p2 (Int.toNat p0) true),p3,(0:Int),())
 let e5:=(zC1 ((wD2 r) y5) ((wA1 r) y5) x5)
 let q5_1:=((vM8 r) y5 e5)
 let r5_2_0:=((vA2 r) y5 e5)
 ((InB p0 (len p1) ∧ (p0 < len p1 ∧ (((!v12) = true → InB p0 (len p2)) ∧ (((!v12) = true → p0 < len p2) ∧ ((v18 = true → (InB p0 (len p1) ∧ p0 < len p1)) ∧ ((!v18) = true → (InB p0 (len p2) ∧ (p0 < len p2 ∧ ((sH0 p3 p0) ∧ ((Am.Ends ((wD2 r) y5) ((wA1 r) y5) ((wH8 r) y5) x5) ∧ (((uO5 r) y5 e5) = true → (InB p0 (len r5_2_0) ∧ p0 < len r5_2_0)))))))))))),(bif v18 then (!(nth p1 p0 false)) else (bif q5_1 then ((vT8 r) y5 e5) else false)),((bif v18 then p1 else (bif q5_1 then ((vA r) y5 e5) else (List.set r5_2_0 (Int.toNat p0) true))),(bif v18 then p2 else (bif q5_1 then ((vA0 r) y5 e5) else ((vA3 r) y5 e5))),(bif v18 then p3 else (bif q5_1 then ((vA1 r) y5 e5) else ((vA4 r) y5 e5))),()))
def tN7 (r:xZ7):Ctx:={ Cx tys [(59,vE1 r),(60,sY6)] [(5,(vT9 r))] [] false 42 [1,2,3] [] with wants:=[(59,[])],fts:=fts }
theorem tN8 (r:xZ7) (hr:SpecOk Tryz.prog 59 (vE1 r)):CtxOk Tryz.prog (tN7 r):=xW3 tys_ok (by kernel_rfl) ⟨hr,oC9,trivial⟩ rfl (by kernel_rfl)
noncomputable def sO8:Code:=Tryz.f59.body.getD .skip
noncomputable def sH1:Code:=xX2 sO8 0
theorem sH2 (r:xZ7) (hr:SpecOk Tryz.prog 59 (vE1 r)):yU9 Tryz.prog (tN7 r) sH1:=xY1 (tN8 r hr) mixed (sp:=(vT9 r)) rfl [uO6,uO7] (bs:=[]) (by kernel_rfl) trivial (by kernel_rfl) (by kernel_rfl) fun y x=>by kernel_rfl
instance (r:xZ7) [∀ q0 q1 q2 q3 q4,Decidable (r q0 q1 q2 q3 q4).1] (p0:Int) (p1:(List Bool)) (p2:(List Bool)) (p3:D28) (p4:Unit):Decidable (vM9 r p0 p1 p2 p3 p4).1:=by
 unfold vM9
 try dsimp only
 infer_instance
theorem sO9 (r:xZ7) (hr:SpecOk Tryz.prog 59 (vE1 r)):SpecOk Tryz.prog 59 (vE1 (vM9 r)):=xY2 (tN8 r hr) mixed Tryz.func59 (by kernel_rfl) (bs:=[sH1]) (by kernel_rfl) ⟨sH2 r hr,trivial⟩ fun x=>by kernel_rfl
def wI7:Nat → xZ7
 | 0=>fun _ _ _ _ _=>(False,false,(([]:List Bool),([]:List Bool),Z28,()))
 | k + 1=>vM9 (wI7 k)
theorem tN9:∀ k,SpecOk Tryz.prog 59 (vE1 (wI7 k))
 | 0=>xT6 Tryz.func59 (by kernel_rfl) (by decide)
 | k + 1=>sO9 _ (tN9 k)
def uR3 (p0:Int) (p1:(List Bool)) (p2:(List Bool)) (p3:D28) (p4:Unit):Nat:=(List.length p1 + 1)
def uD9 (p0:Int) (p1:(List Bool)) (p2:(List Bool)) (p3:D28) (p4:Unit):Prop:=(wI7 (uR3 p0 p1 p2 p3 p4) p0 p1 p2 p3 p4).1
def qY3 (p0:Int) (p1:(List Bool)) (p2:(List Bool)) (p3:D28) (p4:Unit):Bool:=(wI7 (uR3 p0 p1 p2 p3 p4) p0 p1 p2 p3 p4).2.1
def tU3 (p0:Int) (p1:(List Bool)) (p2:(List Bool)) (p3:D28) (p4:Unit):((List Bool) × (List Bool) × D28 × Unit):=(wI7 (uR3 p0 p1 p2 p3 p4) p0 p1 p2 p3 p4).2.2
def tO:∀ (k:Nat) (p0:Int) (p1:(List Bool)) (p2:(List Bool)) (p3:D28) (p4:Unit),Decidable (wI7 k p0 p1 p2 p3 p4).1
 | 0,_,_,_,_,_=>isFalse id
 | k + 1,p0,p1,p2,p3,p4=>by
  have:∀ (q0:Int) (q1:(List Bool)) (q2:(List Bool)) (q3:D28) (q4:Unit),Decidable (wI7 k q0 q1 q2 q3 q4).1:=tO k
  exact inferInstanceAs (Decidable (vM9 (wI7 k) p0 p1 p2 p3 p4).1)
instance (p0:Int) (p1:(List Bool)) (p2:(List Bool)) (p3:D28) (p4:Unit):Decidable (uD9 p0 p1 p2 p3 p4):=tO _ p0 p1 p2 p3 p4
def tE8:Am.Spec:=fnSpec [(0,vI),(1,(.box (.sl .bool) (.own .bool 400100 true))),(2,(.box (.sl .bool) (.own .bool 400200 true))),(3,(.box T28 (.val T28))),(4,(.fptr 59 [some (1,(.sl .bool)),some (2,(.sl .bool)),some (3,T28),none]))] vB [(1,(.box (.sl .bool) (.own .bool 400100 true))),(2,(.box (.sl .bool) (.own .bool 400200 true))),(3,(.box T28 (.val T28)))] (fun x=>uD9 x.1 x.2.1 x.2.2.1 x.2.2.2.1 x.2.2.2.2.1) (fun x=>qY3 x.1 x.2.1 x.2.2.1 x.2.2.2.1 x.2.2.2.2.1) (fun x=>tU3 x.1 x.2.1 x.2.2.1 x.2.2.2.1 x.2.2.2.2.1)
theorem rT7:SpecOk Tryz.prog 59 tE8:=xV1 (ps:=[(0,vI),(1,(.box (.sl .bool) (.own .bool 400100 true))),(2,(.box (.sl .bool) (.own .bool 400200 true))),(3,(.box T28 (.val T28))),(4,(.fptr 59 [some (1,(.sl .bool)),some (2,(.sl .bool)),some (3,T28),none]))]) (rs:=vB) (os:=[(1,(.box (.sl .bool) (.own .bool 400100 true))),(2,(.box (.sl .bool) (.own .bool 400200 true))),(3,(.box T28 (.val T28)))]) (R:=fun k x=>wI7 k x.1 x.2.1 x.2.2.1 x.2.2.2.1 x.2.2.2.2.1) tN9 fun x=>uR3 x.1 x.2.1 x.2.2.1 x.2.2.2.1 x.2.2.2.2.1
abbrev wZ1:Type:=(Unit × Int × Unit)
abbrev wK9:Type:=(D28 × (List Bool) × (List Bool) × Int × Unit)
def uH2 (y:wZ1) (x:wK9):Prop × Bool × wK9 × Bool × Bool :=
 let a1:=x.1
 let a3:=x.2.1
 let a4:=x.2.2.1
 let a19:=x.2.2.2.1
 let v20:=(decide (a19 < y.2.1))
 let v24:=(qY3 a19 a4 a3 a1 ())
 let v24o:=(tU3 a19 a4 a3 a1 ())
 ((v20 = true → ((uD9 a19 a4 a3 a1 ()) ∧ ((!v24) = true → InR (a19 + 1)))),(v20 && (!v24)),(v24o.2.2.1,v24o.2.1,v24o.1,(a19 + 1),()),(v20 && v24),(!v20))
def vN (y:wZ1) (x:wK9):Prop:=(uH2 y x).1
def uR4 (y:wZ1) (x:wK9):Bool:=(uH2 y x).2.1
def vH6 (y:wZ1) (x:wK9):wK9:=(uH2 y x).2.2.1
def sH3 (y:wZ1) (x:wK9):Bool:=(uH2 y x).2.2.2.1
def rT8 (y:wZ1) (x:wK9):Bool:=(uH2 y x).2.2.2.2
instance (y:wZ1) (x:wK9):Decidable (vN y x):=by
 unfold vN uH2
 try dsimp only
 infer_instance
def tE9 (y:wZ1) (x:wK9):Bool :=
 true
def tF:St → Option Out:=xP3 [(5,(.fptr 59 [some (4,(.sl .bool)),some (3,(.sl .bool)),some (1,T28),none])),(18,vI)] [(1,(.box T28 (.val T28))),(3,(.box (.sl .bool) (.own .bool 400300 true))),(4,(.box (.sl .bool) (.own .bool 400400 true))),(19,vI)] uR4 vH6 vN fun y x=>[ex 1 (some (sH3 y x)) [(2,vB)] ((tE9 y x),()),ex 2 (some (rT8 y x)) [] ()]
def f28t (p0:D28):Prop × Bool :=
 let v9:=(len p0.2.2.2.1)
 let v13:=(len p0.2.2.2.1)
 let y6:=((),(len p0.2.2.2.1),())
 let x6:=(p0,(List.replicate (Int.toNat v9) false),(List.replicate (Int.toNat v13) false),(0:Int),())
 let e6:=(zC1 (uR4 y6) (vH6 y6) x6)
 (((0 ≤ v9 ∧ v9 ≤ v9 ∧ v9 ≤ 4294967296) ∧ ((0 ≤ v13 ∧ v13 ≤ v13 ∧ v13 ≤ 4294967296) ∧ (Am.Ends (uR4 y6) (vH6 y6) (vN y6) x6))),(bif (sH3 y6 e6) then (tE9 y6 e6) else false))
def sH4 (p0:D28):Prop:=(f28t p0).1
def f28 (p0:D28):Bool:=(f28t p0).2
instance (p0:D28):Decidable (sH4 p0):=by
 unfold sH4 f28t
 try dsimp only
 infer_instance
def sY7:Am.Spec:=fnSpec [(0,(.val T28))] vB [] (fun x=>sH4 x.1) (fun x=>f28 x.1) (fun _=>())
def rT9:Ctx:={ Cx tys [(59,tE8)] [(6,tF)] [(3,[(4,0,10,400300)]),(5,[(4,0,14,400400)])] false 26 [] [10,14] with wants:=[(59,[])],fts:=fts }
theorem rU:CtxOk Tryz.prog rT9:=xW3 tys_ok (by kernel_rfl) ⟨rT7,trivial⟩ rfl (by kernel_rfl)
noncomputable def qM9:Code:=Tryz.f28.body.getD .skip
noncomputable def qY4:Code:=xX2 qM9 0
theorem rU0:yU9 Tryz.prog rT9 qY4:=xY1 rU mixed (sp:=tF) rfl [[(2,vB)],[]] (bs:=[]) (by kernel_rfl) trivial (by kernel_rfl) (by kernel_rfl) fun y x=>by kernel_rfl
theorem oD:SpecOk Tryz.prog 28 sY7:=xY2 rU mixed Tryz.func28 (by kernel_rfl) (bs:=[qY4]) (by kernel_rfl) ⟨rU0,trivial⟩ fun x=>by kernel_rfl
abbrev wS0:Type:=((List UInt8) × Int × Int × Unit)
abbrev wK7:Type:=(Int × Unit)
def vR6 (y:wS0) (x:wK7):Prop × Bool × wK7 × Bool × Bool :=
 let a0:=y.1
 let a19:=x.1
 let v20:=(decide (a19 < y.2.2.1))
 let v26:=(decide ((xX5 a0 a19) < y.2.1))
 let v32:=(bif v26 then true else (decide ((xX5 a0 a19) > 126)))
 ((v20 = true → (InB a19 (len a0) ∧ (((!v26) = true → InB a19 (len a0)) ∧ ((!v32) = true → InR (a19 + 1))))),(v20 && (!v32)),((a19 + 1),()),(v20 && v32),(!v20))
def vR7 (y:wS0) (x:wK7):Prop:=(vR6 y x).1
def tF0 (y:wS0) (x:wK7):Bool:=(vR6 y x).2.1
def vN0 (y:wS0) (x:wK7):wK7:=(vR6 y x).2.2.1
def tO0 (y:wS0) (x:wK7):Bool:=(vR6 y x).2.2.2.1
def rJ6 (y:wS0) (x:wK7):Bool:=(vR6 y x).2.2.2.2
instance (y:wS0) (x:wK7):Decidable (vR7 y x):=by
 unfold vR7 vR6
 try dsimp only
 infer_instance
def uO8 (y:wS0) (x:wK7):Bool :=
 false
def uO9:St → Option Out:=xP3 [(0,vS),(2,(.val (.int .u8))),(18,vI)] [(19,vI)] tF0 vN0 vR7 fun y x=>[ex 1 (some (tO0 y x)) [(6,vB)] ((uO8 y x),()),ex 2 (some (rJ6 y x)) [] ()]
def pR1 (p0:(List UInt8)) (p1:Int) (p2:Int):Prop × Bool :=
 let v16:=(bif (decide ((len p0) < 1)) then true else (decide ((len p0) > p1)))
 let y4:=(p0,p2,(len p0),())
 let x4:=((0:Int),())
 let e4:=(zC1 (tF0 y4) (vN0 y4) x4)
 (((!v16) = true → (Am.Ends (tF0 y4) (vN0 y4) (vR7 y4) x4)),(bif v16 then false else (bif (tO0 y4 e4) then (uO8 y4 e4) else true)))
def uH3 (p0:(List UInt8)) (p1:Int) (p2:Int):Prop:=(pR1 p0 p1 p2).1
def f118 (p0:(List UInt8)) (p1:Int) (p2:Int):Bool:=(pR1 p0 p1 p2).2
instance (p0:(List UInt8)) (p1:Int) (p2:Int):Decidable (uH3 p0 p1 p2):=by
 unfold uH3 pR1
 try dsimp only
 infer_instance
def tF1:Am.Spec:=fnSpec [(0,vS),(1,vI),(2,(.val (.int .u8)))] vB [] (fun x=>uH3 x.1 x.2.1 x.2.2.1) (fun x=>f118 x.1 x.2.1 x.2.2.1) (fun _=>())
def sY8:Ctx:=Cx tys [] [(4,uO9)] [] false 34 [] []
theorem sY9:CtxOk Tryz.prog sY8:=xW3 tys_ok rfl trivial rfl (by kernel_rfl)
noncomputable def rU1:Code:=Tryz.f118.body.getD .skip
noncomputable def rU2:Code:=xX2 rU1 0
theorem rJ7:yU9 Tryz.prog sY8 rU2:=xY1 sY9 mixed (sp:=uO9) rfl [[(6,vB)],[]] (bs:=[]) (by kernel_rfl) trivial (by kernel_rfl) (by kernel_rfl) fun y x=>by kernel_rfl
theorem rU3:SpecOk Tryz.prog 118 tF1:=xY2 sY9 mixed Tryz.func118 (by kernel_rfl) (bs:=[rU2]) (by kernel_rfl) ⟨rJ7,trivial⟩ fun x=>by kernel_rfl
def f87t (p0:(List UInt8)):Prop × Bool :=
 ((uH3 p0 (32:Int) (33:Int)),(f118 p0 (32:Int) (33:Int)))
def sZ (p0:(List UInt8)):Prop:=(f87t p0).1
def f87 (p0:(List UInt8)):Bool:=(f87t p0).2
instance (p0:(List UInt8)):Decidable (sZ p0):=by
 unfold sZ f87t
 try dsimp only
 infer_instance
def sZ0:Am.Spec:=fnSpec [(0,vS)] vB [] (fun x=>sZ x.1) (fun x=>f87 x.1) (fun _=>())
def pR2:Ctx:=Cx tys [(118,tF1)] [] [] false 5 [] []
theorem pR3:CtxOk Tryz.prog pR2:=xW3 tys_ok rfl ⟨rU3,trivial⟩ rfl (by kernel_rfl)
theorem oD0:SpecOk Tryz.prog 87 sZ0:=xY2 pR3 mixed Tryz.func87 (by kernel_rfl) (bs:=[]) (by kernel_rfl) trivial fun x=>by kernel_rfl
def f88t (p0:(List UInt8)):Prop × Bool :=
 ((uH3 p0 (256:Int) (32:Int)),(f118 p0 (256:Int) (32:Int)))
def sZ1 (p0:(List UInt8)):Prop:=(f88t p0).1
def f88 (p0:(List UInt8)):Bool:=(f88t p0).2
instance (p0:(List UInt8)):Decidable (sZ1 p0):=by
 unfold sZ1 f88t
 try dsimp only
 infer_instance
def sZ2:Am.Spec:=fnSpec [(0,vS)] vB [] (fun x=>sZ1 x.1) (fun x=>f88 x.1) (fun _=>())
def pR4:Ctx:=Cx tys [(118,tF1)] [] [] false 5 [] []
theorem pR5:CtxOk Tryz.prog pR4:=xW3 tys_ok rfl ⟨rU3,trivial⟩ rfl (by kernel_rfl)
theorem oD1:SpecOk Tryz.prog 88 sZ2:=xY2 pR5 mixed Tryz.func88 (by kernel_rfl) (bs:=[]) (by kernel_rfl) trivial fun x=>by kernel_rfl
def f62t (p0:(List D87)) (p1:D87):Prop × Int :=
 let v8:=(!(f87 p1.1))
 let v12:=(!(f88 p1.2.1))
 let v15:=(decide ((len p0) > 0))
 let v21:=(len p0)
 let v22:=(v21 - 1)
 let v23:=(nth p0 v22 Z87)
 (((sZ p1.1) ∧ ((!v8) = true → ((sZ1 p1.2.1) ∧ ((!v12) = true → ((v15 = true → InR (v21 - 1)) ∧ (v15 = true → InB v22 (len p0))))))),(bif v8 then (13:Int) else (bif v12 then (4:Int) else (bif (bif v15 then (Op.bytesLess p1.1 v23.1 || p1.1 == v23.1) else false) then (24:Int) else (0:Int)))))
def sH5 (p0:(List D87)) (p1:D87):Prop:=(f62t p0 p1).1
def f62 (p0:(List D87)) (p1:D87):Int:=(f62t p0 p1).2
instance (p0:(List D87)) (p1:D87):Decidable (sH5 p0 p1):=by
 unfold sH5 f62t
 try dsimp only
 infer_instance
def sZ3:Am.Spec:=fnSpec [(0,(.val (.sl T87))),(1,(.val T87))] vI [] (fun x=>sH5 x.1 x.2.1) (fun x=>f62 x.1 x.2.1) (fun _=>())
def pR6:Ctx:=Cx tys [(87,sZ0),(88,sZ2)] [] [] false 28 [] []
theorem pR7:CtxOk Tryz.prog pR6:=xW3 tys_ok rfl ⟨oD0,oD1,trivial⟩ rfl (by kernel_rfl)
theorem oD2:SpecOk Tryz.prog 62 sZ3:=xY2 pR7 mixed Tryz.func62 (by kernel_rfl) (bs:=[]) (by kernel_rfl) trivial fun x=>by kernel_rfl
abbrev wZ2:Type:=((List D87) × (List D87) × Int × Unit)
abbrev wP1:Type:=(Int × Unit)
def uH4 (y:wZ2) (x:wP1):Prop × Bool × wP1 × Bool × Bool :=
 let a0:=y.1
 let a9:=y.2.1
 let a11:=x.1
 let v12:=(decide (a11 < y.2.2.1))
 let v14:=(nth a9 a11 Z87)
 let v18:=(List.take (Int.toNat a11) a0)
 let v22:=((f62 v18 v14) != 0)
 ((v12 = true → (InB a11 (len a9) ∧ ((0 ≤ a11 ∧ a11 ≤ len a0) ∧ ((sH5 v18 v14) ∧ ((!v22) = true → InR (a11 + 1)))))),(v12 && (!v22)),((a11 + 1),()),(v12 && v22),(!v12))
def uE (y:wZ2) (x:wP1):Prop:=(uH4 y x).1
def tU4 (y:wZ2) (x:wP1):Bool:=(uH4 y x).2.1
def vW0 (y:wZ2) (x:wP1):wP1:=(uH4 y x).2.2.1
def sH6 (y:wZ2) (x:wP1):Bool:=(uH4 y x).2.2.2.1
def rU4 (y:wZ2) (x:wP1):Bool:=(uH4 y x).2.2.2.2
instance (y:wZ2) (x:wP1):Decidable (uE y x):=by
 unfold uE uH4
 try dsimp only
 infer_instance
def tF2 (y:wZ2) (x:wP1):Int :=
 let a11:=x.1
 (f62 (List.take (Int.toNat a11) y.1) (nth y.2.1 a11 Z87))
def tF3:St → Option Out:=xP3 [(0,(.val (.sl T87))),(9,(.val (.sl T87))),(10,vI)] [(11,vI)] tU4 vW0 uE fun y x=>[ex 1 (some (sH6 y x)) [(2,vI)] ((tF2 y x),()),ex 2 (some (rU4 y x)) [] ()]
def f30t (p0:(List D87)):Prop × Int :=
 let v8:=(decide ((len p0) > 16))
 let y4:=(p0,p0,(len p0),())
 let x4:=((0:Int),())
 let e4:=(zC1 (tU4 y4) (vW0 y4) x4)
 (((!v8) = true → (Am.Ends (tU4 y4) (vW0 y4) (uE y4) x4)),(bif v8 then (3:Int) else (bif (sH6 y4 e4) then (tF2 y4 e4) else (0:Int))))
def sH7 (p0:(List D87)):Prop:=(f30t p0).1
def f30 (p0:(List D87)):Int:=(f30t p0).2
instance (p0:(List D87)):Decidable (sH7 p0):=by
 unfold sH7 f30t
 try dsimp only
 infer_instance
def sZ4:Am.Spec:=fnSpec [(0,(.val (.sl T87)))] vI [] (fun x=>sH7 x.1) (fun x=>f30 x.1) (fun _=>())
def rU5:Ctx:=Cx tys [(62,sZ3)] [(4,tF3)] [] false 25 [] []
theorem rU6:CtxOk Tryz.prog rU5:=xW3 tys_ok rfl ⟨oD2,trivial⟩ rfl (by kernel_rfl)
noncomputable def qN:Code:=Tryz.f30.body.getD .skip
noncomputable def qY5:Code:=xX2 qN 0
theorem rU7:yU9 Tryz.prog rU5 qY5:=xY1 rU6 mixed (sp:=tF3) rfl [[(2,vI)],[]] (bs:=[]) (by kernel_rfl) trivial (by kernel_rfl) (by kernel_rfl) fun y x=>by kernel_rfl
theorem oD3:SpecOk Tryz.prog 30 sZ4:=xY2 rU6 mixed Tryz.func30 (by kernel_rfl) (bs:=[qY5]) (by kernel_rfl) ⟨rU7,trivial⟩ fun x=>by kernel_rfl
def f9t (p0:D28):Prop × Int :=
 let v10:=(f23 p0)
 let v12:=(v10 != 0)
 let v23:=(bif (decide ((len p0.2.2.2.1) > 64)) then true else (decide ((len p0.2.2.2.2.2.2.2.1) > 8)))
 let v31:=(bif (decide (p0.2.2.2.2.1 < 1)) then true else (decide (p0.2.2.2.2.1 > 1073741824)))
 let v33:=(f24 p0)
 let v35:=(v33 != 0)
 let v38:=(f25 p0)
 let v40:=(v38 != 0)
 let v43:=(f26 p0)
 let v45:=(v43 != 0)
 let v48:=(f27 p0)
 let v50:=(v48 != 0)
 let v53:=(f28 p0)
 let v56:=(f29 p0.2.2.2.2.2.1)
 let v58:=(v56 != 0)
 let v79:=(bif (p0.2.2.2.2.2.1.1 != 0) then (bif (p0.2.2.2.2.2.1.1 != p0.1) then true else (p0.2.2.2.2.2.1.2.1 != p0.2.1)) else false)
 let m2_6:=(bif v35 then v33 else (bif v40 then v38 else (bif v45 then v43 else (bif v50 then v48 else (bif v53 then (11:Int) else (bif v58 then v56 else (bif v79 then (15:Int) else (f30 p0.2.2.2.2.2.2.1))))))))
 (((uT6 p0) ∧ ((!v12) = true → ((!v23) = true → ((!v31) = true → ((sF6 p0) ∧ ((!v35) = true → ((sF9 p0) ∧ ((!v40) = true → ((sG4 p0) ∧ ((!v45) = true → ((sG9 p0) ∧ ((!v50) = true → ((sH4 p0) ∧ ((!v53) = true → ((tJ9 p0.2.2.2.2.2.1) ∧ ((!v58) = true → ((!v79) = true → (sH7 p0.2.2.2.2.2.2.1)))))))))))))))))),(bif v12 then v10 else (bif v23 then (3:Int) else (bif v31 then (2:Int) else m2_6))))
def tF4 (p0:D28):Prop:=(f9t p0).1
def f9 (p0:D28):Int:=(f9t p0).2
instance (p0:D28):Decidable (tF4 p0):=by
 unfold tF4 f9t
 try dsimp only
 infer_instance
def vN1:Am.Spec:=fnSpec [(0,(.val T28))] vI [] (fun x=>tF4 x.1) (fun x=>f9 x.1) (fun _=>())
def oD4:Ctx:=Cx tys [(23,tQ6),(24,sY1),(25,sY2),(26,sY4),(27,sY5),(28,sY7),(29,tQ8),(30,sZ4)] [] [] false 83 [] []
theorem oD5:CtxOk Tryz.prog oD4:=xW3 tys_ok rfl ⟨qW9,oC4,oC5,oC7,oC8,oD,qX0,oD3,trivial⟩ rfl (by kernel_rfl)
theorem sP:SpecOk Tryz.prog 9 vN1:=xY2 oD5 mixed Tryz.func9 (by kernel_rfl) (bs:=[]) (by kernel_rfl) trivial fun x=>by kernel_rfl
abbrev wZ3:Type:=((List Int) × (List Int) × Int × Unit)
abbrev wP2:Type:=(Int × Unit)
def uH5 (y:wZ3) (x:wP2):Prop × Bool × wP2 × Bool × Bool :=
 let a0:=y.1
 let a1:=y.2.1
 let a13:=x.1
 let v14:=(decide (a13 < y.2.2.1))
 let v24:=((nth a0 a13 (0:Int)) != (nth a1 a13 (0:Int)))
 ((v14 = true → (InB a13 (len a0) ∧ (InB a13 (len a1) ∧ ((!v24) = true → InR (a13 + 1))))),(v14 && (!v24)),((a13 + 1),()),(v14 && v24),(!v14))
def uE0 (y:wZ3) (x:wP2):Prop:=(uH5 y x).1
def uE1 (y:wZ3) (x:wP2):Bool:=(uH5 y x).2.1
def wX2 (y:wZ3) (x:wP2):wP2:=(uH5 y x).2.2.1
def sH8 (y:wZ3) (x:wP2):Bool:=(uH5 y x).2.2.2.1
def rU8 (y:wZ3) (x:wP2):Bool:=(uH5 y x).2.2.2.2
instance (y:wZ3) (x:wP2):Decidable (uE0 y x):=by
 unfold uE0 uH5
 try dsimp only
 infer_instance
def tF5 (y:wZ3) (x:wP2):Bool :=
 false
def tF6:St → Option Out:=xP3 [(0,(.val (.sl (.int .i64)))),(1,(.val (.sl (.int .i64)))),(12,vI)] [(13,vI)] uE1 wX2 uE0 fun y x=>[ex 1 (some (sH8 y x)) [(4,vB)] ((tF5 y x),()),ex 2 (some (rU8 y x)) [] ()]
def f12t (p0:(List Int)) (p1:(List Int)):Prop × Bool :=
 let v10:=((len p0) != (len p1))
 let y4:=(p0,p1,(len p0),())
 let x4:=((0:Int),())
 let e4:=(zC1 (uE1 y4) (wX2 y4) x4)
 (((!v10) = true → (Am.Ends (uE1 y4) (wX2 y4) (uE0 y4) x4)),(bif v10 then false else (bif (sH8 y4 e4) then (tF5 y4 e4) else true)))
def uE2 (p0:(List Int)) (p1:(List Int)):Prop:=(f12t p0 p1).1
def f12 (p0:(List Int)) (p1:(List Int)):Bool:=(f12t p0 p1).2
instance (p0:(List Int)) (p1:(List Int)):Decidable (uE2 p0 p1):=by
 unfold uE2 f12t
 try dsimp only
 infer_instance
def tU5:Am.Spec:=fnSpec [(0,(.val (.sl (.int .i64)))),(1,(.val (.sl (.int .i64))))] vB [] (fun x=>uE2 x.1 x.2.1) (fun x=>f12 x.1 x.2.1) (fun _=>())
def rU9:Ctx:=Cx tys [] [(4,tF6)] [] false 26 [] []
theorem rV:CtxOk Tryz.prog rU9:=xW3 tys_ok rfl trivial rfl (by kernel_rfl)
noncomputable def qN0:Code:=Tryz.f12.body.getD .skip
noncomputable def qY6:Code:=xX2 qN0 0
theorem rV0:yU9 Tryz.prog rU9 qY6:=xY1 rV mixed (sp:=tF6) rfl [[(4,vB)],[]] (bs:=[]) (by kernel_rfl) trivial (by kernel_rfl) (by kernel_rfl) fun y x=>by kernel_rfl
theorem qY7:SpecOk Tryz.prog 12 tU5:=xY2 rV mixed Tryz.func12 (by kernel_rfl) (bs:=[qY6]) (by kernel_rfl) ⟨rV0,trivial⟩ fun x=>by kernel_rfl
abbrev vR8:Type:=((List D49) × Int × Unit)
abbrev wT7:Type:=((List Int) × Int × Unit)
def tU6 (y:vR8) (x:wT7):Prop × Bool × wT7 :=
 let a7:=y.1
 let a3:=x.1
 let a9:=x.2.1
 let v10:=(decide (a9 < y.2.1))
 let v16:=([(nth a7 a9 Z49).1]:List Int)
 ((v10 = true → (InB a9 (len a7) ∧ (((List.length a3 + List.length v16:Nat):Int) ≤ 4294967296 ∧ InR (a9 + 1)))),v10,((a3 ++ v16),(a9 + 1),()))
def vN2 (y:vR8) (x:wT7):Prop:=(tU6 y x).1
def vR9 (y:vR8) (x:wT7):Bool:=(tU6 y x).2.1
def wO4 (y:vR8) (x:wT7):wT7:=(tU6 y x).2.2
instance (y:vR8) (x:wT7):Decidable (vN2 y x):=by
 unfold vN2 tU6
 try dsimp only
 infer_instance
def tF7 (y:vR8) (x:wT7):(List Int) :=
 x.1
def sH9:List (Nat × Sh):=[(3,(.own (.int .i64) 1003 false))]
def tF8:St → Option Out:=xP3 [(7,(.val (.sl T49))),(8,vI)] [(3,(.own (.int .i64) 1003 false)),(9,vI)] vR9 wO4 vN2 fun y x=>[ex 2 none sH9 ((tF7 y x),())]
def f13t (p0:D28):Prop × (List Int) :=
 let y3:=(p0.2.2.2.1,(len p0.2.2.2.1),())
 let x3:=(([]:List Int),(0:Int),())
 ((Am.Ends (vR9 y3) (wO4 y3) (vN2 y3) x3),(tF7 y3 (zC1 (vR9 y3) (wO4 y3) x3)))
def uP (p0:D28):Prop:=(f13t p0).1
def f13 (p0:D28):(List Int):=(f13t p0).2
instance (p0:D28):Decidable (uP p0):=by
 unfold uP f13t
 try dsimp only
 infer_instance
def tU7:Am.Spec:=fnSpec [(0,(.val T28))] (.own (.int .i64) 0 false) [] (fun x=>uP x.1) (fun x=>f13 x.1) (fun _=>())
def rV1:Ctx:=Cx tys [] [(3,tF8)] [(11,[(4,0,17,1003)]),(15,[(4,0,1003,0)])] false 20 [] []
theorem rV2:CtxOk Tryz.prog rV1:=xW3 tys_ok rfl trivial rfl (by kernel_rfl)
noncomputable def qN1:Code:=Tryz.f13.body.getD .skip
noncomputable def qY8:Code:=xX2 qN1 0
theorem rV3:yU9 Tryz.prog rV1 qY8:=xY1 rV2 mixed (sp:=tF8) rfl [sH9] (bs:=[]) (by kernel_rfl) trivial (by kernel_rfl) (by kernel_rfl) fun y x=>by kernel_rfl
theorem qY9:SpecOk Tryz.prog 13 tU7:=xY2 rV2 mixed Tryz.func13 (by kernel_rfl) (bs:=[qY8]) (by kernel_rfl) ⟨rV3,trivial⟩ fun x=>by kernel_rfl
abbrev vS0:Type:=(Int × (List D49) × Int × Unit)
abbrev wZ4:Type:=((List Int) × Int × Unit)
def tU8 (y:vS0) (x:wZ4):Prop × Bool × wZ4 :=
 let a9:=y.2.1
 let a5:=x.1
 let a11:=x.2.1
 let v12:=(decide (a11 < y.2.2.1))
 let v13:=(nth a9 a11 Z49)
 let v18:=(v13.2.2.1 == y.1)
 let v22:=([v13.1]:List Int)
 ((v12 = true → (InB a11 (len a9) ∧ ((v18 = true → ((List.length a5 + List.length v22:Nat):Int) ≤ 4294967296) ∧ InR (a11 + 1)))),v12,((bif v18 then (a5 ++ v22) else a5),(a11 + 1),()))
def uE3 (y:vS0) (x:wZ4):Prop:=(tU8 y x).1
def tU9 (y:vS0) (x:wZ4):Bool:=(tU8 y x).2.1
def vW1 (y:vS0) (x:wZ4):wZ4:=(tU8 y x).2.2
instance (y:vS0) (x:wZ4):Decidable (uE3 y x):=by
 unfold uE3 tU8
 try dsimp only
 infer_instance
def tF9 (y:vS0) (x:wZ4):(List Int) :=
 x.1
def sI:List (Nat × Sh):=[(5,(.own (.int .i64) 1005 false))]
def tG:St → Option Out:=xP3 [(1,vI),(9,(.val (.sl T49))),(10,vI)] [(5,(.own (.int .i64) 1005 false)),(11,vI)] tU9 vW1 uE3 fun y x=>[ex 2 none sI ((tF9 y x),())]
def f20t (p0:D28) (p1:Int):Prop × (List Int) :=
 let y3:=(p1,p0.2.2.2.1,(len p0.2.2.2.1),())
 let x3:=(([]:List Int),(0:Int),())
 ((Am.Ends (tU9 y3) (vW1 y3) (uE3 y3) x3),(tF9 y3 (zC1 (tU9 y3) (vW1 y3) x3)))
def tG0 (p0:D28) (p1:Int):Prop:=(f20t p0 p1).1
def f20 (p0:D28) (p1:Int):(List Int):=(f20t p0 p1).2
instance (p0:D28) (p1:Int):Decidable (tG0 p0 p1):=by
 unfold tG0 f20t
 try dsimp only
 infer_instance
def uE4:Am.Spec:=fnSpec [(0,(.val T28)),(1,vI)] (.own (.int .i64) 0 false) [] (fun x=>tG0 x.1 x.2.1) (fun x=>f20 x.1 x.2.1) (fun _=>())
def rV4:Ctx:=Cx tys [] [(3,tG)] [(13,[(4,0,23,1005)]),(17,[(4,0,1005,0)])] false 26 [] []
theorem rV5:CtxOk Tryz.prog rV4:=xW3 tys_ok rfl trivial rfl (by kernel_rfl)
noncomputable def qN2:Code:=Tryz.f20.body.getD .skip
noncomputable def qZ:Code:=xX2 qN2 0
theorem rV6:yU9 Tryz.prog rV4 qZ:=xY1 rV5 mixed (sp:=tG) rfl [sI] (bs:=[]) (by kernel_rfl) trivial (by kernel_rfl) (by kernel_rfl) fun y x=>by kernel_rfl
theorem sZ5:SpecOk Tryz.prog 20 uE4:=xY2 rV5 mixed Tryz.func20 (by kernel_rfl) (bs:=[qZ]) (by kernel_rfl) ⟨rV6,trivial⟩ fun x=>by kernel_rfl
def f33t (p0:D28) (p1:Int):Prop × Int :=
 let v7:=(p1 == 0)
 let v10:=(f8 p0 p1)
 let v12:=(decide (v10 < 0))
 (((!v7) = true → ((vX2 p0 p1) ∧ ((!v12) = true → InB v10 (len p0.2.2.2.1)))),(bif v7 then (0:Int) else (bif v12 then (9:Int) else (bif ((nth p0.2.2.2.1 v10 Z49).2.1 != 1) then (8:Int) else (0:Int)))))
def sI0 (p0:D28) (p1:Int):Prop:=(f33t p0 p1).1
def f33 (p0:D28) (p1:Int):Int:=(f33t p0 p1).2
instance (p0:D28) (p1:Int):Decidable (sI0 p0 p1):=by
 unfold sI0 f33t
 try dsimp only
 infer_instance
def tV:Am.Spec:=fnSpec [(0,(.val T28)),(1,vI)] vI [] (fun x=>sI0 x.1 x.2.1) (fun x=>f33 x.1 x.2.1) (fun _=>())
def pR8:Ctx:=Cx tys [(8,vF2)] [] [] false 20 [] []
theorem pR9:CtxOk Tryz.prog pR8:=xW3 tys_ok rfl ⟨tZ0,trivial⟩ rfl (by kernel_rfl)
theorem qZ0:SpecOk Tryz.prog 33 tV:=xY2 pR9 mixed Tryz.func33 (by kernel_rfl) (bs:=[]) (by kernel_rfl) trivial fun x=>by kernel_rfl
def pS (p0:Unit):Prop × (List Int) :=
 (((!true) = true → ((List.length ([]:List Int) + List.length ([]:List Int):Nat):Int) ≤ 4294967296),(bif true then [] else (([]:List Int) ++ ([]:List Int))))
def sP0 (p0:Unit):Prop:=(pS p0).1
def f63a (p0:Unit):(List Int):=(pS p0).2
instance (p0:Unit):Decidable (sP0 p0):=by
 unfold sP0 pS
 try dsimp only
 infer_instance
def rV7:Am.Spec:=fnSpec [(0,(.nn true))] (.own (.int .i64) 0 false) [] (fun x=>sP0 x.1) (fun x=>f63a x.1) (fun _=>())
def qN3:Ctx:=Cx tys [] [] [(7,[(4,0,7,0)])] false 8 [] []
theorem qN4:CtxOk Tryz.prog qN3:=xW3 tys_ok rfl trivial rfl (by kernel_rfl)
theorem pS0:SpecOk Tryz.prog 63 rV7:=xY2 qN4 mixed Tryz.func63 (by kernel_rfl) (bs:=[]) (by kernel_rfl) trivial fun x=>by kernel_rfl
def pS1 (p0:Unit):Prop × (List Int) :=
 (((!false) = true → ((List.length ([]:List Int) + List.length ([]:List Int):Nat):Int) ≤ 4294967296),(bif false then [] else (([]:List Int) ++ ([]:List Int))))
def sP1 (p0:Unit):Prop:=(pS1 p0).1
def f63b (p0:Unit):(List Int):=(pS1 p0).2
instance (p0:Unit):Decidable (sP1 p0):=by
 unfold sP1 pS1
 try dsimp only
 infer_instance
def rV8:Am.Spec:=fnSpec [(0,(.nn false))] (.own (.int .i64) 0 false) [] (fun x=>sP1 x.1) (fun x=>f63b x.1) (fun _=>())
def qN5:Ctx:=Cx tys [] [] [(7,[(4,0,7,0)])] false 8 [] []
theorem qN6:CtxOk Tryz.prog qN5:=xW3 tys_ok rfl trivial rfl (by kernel_rfl)
theorem pS2:SpecOk Tryz.prog 63 rV8:=xY2 qN6 mixed Tryz.func63 (by kernel_rfl) (bs:=[]) (by kernel_rfl) trivial fun x=>by kernel_rfl
def pS3 (p0:(List Int)):Prop × (List Int) :=
 ((0 < List.length p0 ∧ ((!false) = true → ((List.length ([]:List Int) + List.length p0:Nat):Int) ≤ 4294967296)),(bif false then [] else (([]:List Int) ++ p0)))
def sP2 (p0:(List Int)):Prop:=(pS3 p0).1
def f63c (p0:(List Int)):(List Int):=(pS3 p0).2
instance (p0:(List Int)):Decidable (sP2 p0):=by
 unfold sP2 pS3
 try dsimp only
 infer_instance
def rV9:Am.Spec:=fnSpec [(0,(.val (.sl (.int .i64))))] (.own (.int .i64) 0 false) [] (fun x=>sP2 x.1) (fun x=>f63c x.1) (fun _=>())
def qN7:Ctx:=Cx tys [] [] [(7,[(4,0,7,0)])] false 8 [] []
theorem qN8:CtxOk Tryz.prog qN7:=xW3 tys_ok rfl trivial rfl (by kernel_rfl)
theorem pS4:SpecOk Tryz.prog 63 rV9:=xY2 qN8 mixed Tryz.func63 (by kernel_rfl) (bs:=[]) (by kernel_rfl) trivial fun x=>by kernel_rfl
def f63 (p0:(List Int)):(List Int):=p0
def uP0 (p0:(List Int)):Prop:=(List.length p0:Int) ≤ 4294967296
instance (p0:(List Int)):Decidable (uP0 p0):=by
  unfold uP0
  infer_instance
def oD6:List (Nat × Sh):=[(0,(.val (.sl (.int .i64))))]
def qZ1:Sh:=(.own (.int .i64) 0 false)
def oD7:List (Nat × Sh):=[]
def tV0:Am.Spec:=fnSpec oD6 qZ1 oD7 (fun x=>uP0 x.1) (fun x=>f63 x.1) (fun _=>())
theorem qZ2:SpecOk Tryz.prog 63 tV0:=xV5 (rs:=qZ1) (F:=f63) (ok:=uP0) pS0 pS2 pS4 (of_decide_eq_true (by kernel_rfl)) (of_decide_eq_true (by kernel_rfl)) (fun l h hp=>⟨hp,fun _=>by simpa [uP0] using h⟩) rfl rfl (fun _=>rfl)
def pS5 (p0:Unit):Prop × (List D42) :=
 (((!true) = true → ((List.length ([]:List D42) + List.length ([]:List D42):Nat):Int) ≤ 4294967296),(bif true then [] else (([]:List D42) ++ ([]:List D42))))
def sP3 (p0:Unit):Prop:=(pS5 p0).1
def f66a (p0:Unit):(List D42):=(pS5 p0).2
instance (p0:Unit):Decidable (sP3 p0):=by
 unfold sP3 pS5
 try dsimp only
 infer_instance
def rW:Am.Spec:=fnSpec [(0,(.nn true))] (.own T42 0 false) [] (fun x=>sP3 x.1) (fun x=>f66a x.1) (fun _=>())
def qN9:Ctx:=Cx tys [] [] [(7,[(4,0,7,0)])] false 8 [] []
theorem qO:CtxOk Tryz.prog qN9:=xW3 tys_ok rfl trivial rfl (by kernel_rfl)
theorem pS6:SpecOk Tryz.prog 66 rW:=xY2 qO mixed Tryz.func66 (by kernel_rfl) (bs:=[]) (by kernel_rfl) trivial fun x=>by kernel_rfl
def pS7 (p0:Unit):Prop × (List D42) :=
 (((!false) = true → ((List.length ([]:List D42) + List.length ([]:List D42):Nat):Int) ≤ 4294967296),(bif false then [] else (([]:List D42) ++ ([]:List D42))))
def sP4 (p0:Unit):Prop:=(pS7 p0).1
def f66b (p0:Unit):(List D42):=(pS7 p0).2
instance (p0:Unit):Decidable (sP4 p0):=by
 unfold sP4 pS7
 try dsimp only
 infer_instance
def rW0:Am.Spec:=fnSpec [(0,(.nn false))] (.own T42 0 false) [] (fun x=>sP4 x.1) (fun x=>f66b x.1) (fun _=>())
def qO0:Ctx:=Cx tys [] [] [(7,[(4,0,7,0)])] false 8 [] []
theorem qO1:CtxOk Tryz.prog qO0:=xW3 tys_ok rfl trivial rfl (by kernel_rfl)
theorem pS8:SpecOk Tryz.prog 66 rW0:=xY2 qO1 mixed Tryz.func66 (by kernel_rfl) (bs:=[]) (by kernel_rfl) trivial fun x=>by kernel_rfl
def pS9 (p0:(List D42)):Prop × (List D42) :=
 ((0 < List.length p0 ∧ ((!false) = true → ((List.length ([]:List D42) + List.length p0:Nat):Int) ≤ 4294967296)),(bif false then [] else (([]:List D42) ++ p0)))
def sP5 (p0:(List D42)):Prop:=(pS9 p0).1
def f66c (p0:(List D42)):(List D42):=(pS9 p0).2
instance (p0:(List D42)):Decidable (sP5 p0):=by
 unfold sP5 pS9
 try dsimp only
 infer_instance
def rW1:Am.Spec:=fnSpec [(0,(.val (.sl T42)))] (.own T42 0 false) [] (fun x=>sP5 x.1) (fun x=>f66c x.1) (fun _=>())
def qO2:Ctx:=Cx tys [] [] [(7,[(4,0,7,0)])] false 8 [] []
theorem qO3:CtxOk Tryz.prog qO2:=xW3 tys_ok rfl trivial rfl (by kernel_rfl)
theorem pT:SpecOk Tryz.prog 66 rW1:=xY2 qO3 mixed Tryz.func66 (by kernel_rfl) (bs:=[]) (by kernel_rfl) trivial fun x=>by kernel_rfl
def f66 (p0:(List D42)):(List D42):=p0
def tG1 (p0:(List D42)):Prop:=(List.length p0:Int) ≤ 4294967296
instance (p0:(List D42)):Decidable (tG1 p0):=by
  unfold tG1
  infer_instance
def oD8:List (Nat × Sh):=[(0,(.val (.sl T42)))]
def qZ3:Sh:=(.own T42 0 false)
def oD9:List (Nat × Sh):=[]
def tV1:Am.Spec:=fnSpec oD8 qZ3 oD9 (fun x=>tG1 x.1) (fun x=>f66 x.1) (fun _=>())
theorem qZ4:SpecOk Tryz.prog 66 tV1:=xV5 (rs:=qZ3) (F:=f66) (ok:=tG1) pS6 pS8 pT (of_decide_eq_true (by kernel_rfl)) (of_decide_eq_true (by kernel_rfl)) (fun l h hp=>⟨hp,fun _=>by simpa [tG1] using h⟩) rfl rfl (fun _=>rfl)
def pT0 (p0:Unit):Prop × (List D122) :=
 (((!true) = true → ((List.length ([]:List D122) + List.length ([]:List D122):Nat):Int) ≤ 4294967296),(bif true then [] else (([]:List D122) ++ ([]:List D122))))
def sP6 (p0:Unit):Prop:=(pT0 p0).1
def f89a (p0:Unit):(List D122):=(pT0 p0).2
instance (p0:Unit):Decidable (sP6 p0):=by
 unfold sP6 pT0
 try dsimp only
 infer_instance
def rW2:Am.Spec:=fnSpec [(0,(.nn true))] (.own T122 0 false) [] (fun x=>sP6 x.1) (fun x=>f89a x.1) (fun _=>())
def qO4:Ctx:=Cx tys [] [] [(7,[(4,0,7,0)])] false 8 [] []
theorem qO5:CtxOk Tryz.prog qO4:=xW3 tys_ok rfl trivial rfl (by kernel_rfl)
theorem pT1:SpecOk Tryz.prog 89 rW2:=xY2 qO5 mixed Tryz.func89 (by kernel_rfl) (bs:=[]) (by kernel_rfl) trivial fun x=>by kernel_rfl
def pT2 (p0:Unit):Prop × (List D122) :=
 (((!false) = true → ((List.length ([]:List D122) + List.length ([]:List D122):Nat):Int) ≤ 4294967296),(bif false then [] else (([]:List D122) ++ ([]:List D122))))
def sP7 (p0:Unit):Prop:=(pT2 p0).1
def f89b (p0:Unit):(List D122):=(pT2 p0).2
instance (p0:Unit):Decidable (sP7 p0):=by
 unfold sP7 pT2
 try dsimp only
 infer_instance
def rW3:Am.Spec:=fnSpec [(0,(.nn false))] (.own T122 0 false) [] (fun x=>sP7 x.1) (fun x=>f89b x.1) (fun _=>())
def qO6:Ctx:=Cx tys [] [] [(7,[(4,0,7,0)])] false 8 [] []
theorem qO7:CtxOk Tryz.prog qO6:=xW3 tys_ok rfl trivial rfl (by kernel_rfl)
theorem pT3:SpecOk Tryz.prog 89 rW3:=xY2 qO7 mixed Tryz.func89 (by kernel_rfl) (bs:=[]) (by kernel_rfl) trivial fun x=>by kernel_rfl
def pT4 (p0:(List D122)):Prop × (List D122) :=
 ((0 < List.length p0 ∧ ((!false) = true → ((List.length ([]:List D122) + List.length p0:Nat):Int) ≤ 4294967296)),(bif false then [] else (([]:List D122) ++ p0)))
def sP8 (p0:(List D122)):Prop:=(pT4 p0).1
def f89c (p0:(List D122)):(List D122):=(pT4 p0).2
instance (p0:(List D122)):Decidable (sP8 p0):=by
 unfold sP8 pT4
 try dsimp only
 infer_instance
def rW4:Am.Spec:=fnSpec [(0,(.val (.sl T122)))] (.own T122 0 false) [] (fun x=>sP8 x.1) (fun x=>f89c x.1) (fun _=>())
def qO8:Ctx:=Cx tys [] [] [(7,[(4,0,7,0)])] false 8 [] []
theorem qO9:CtxOk Tryz.prog qO8:=xW3 tys_ok rfl trivial rfl (by kernel_rfl)
theorem pT5:SpecOk Tryz.prog 89 rW4:=xY2 qO9 mixed Tryz.func89 (by kernel_rfl) (bs:=[]) (by kernel_rfl) trivial fun x=>by kernel_rfl
def f89 (p0:(List D122)):(List D122):=p0
def tO1 (p0:(List D122)):Prop:=(List.length p0:Int) ≤ 4294967296
instance (p0:(List D122)):Decidable (tO1 p0):=by
  unfold tO1
  infer_instance
def oE:List (Nat × Sh):=[(0,(.val (.sl T122)))]
def qZ5:Sh:=(.own T122 0 false)
def oE0:List (Nat × Sh):=[]
def sZ6:Am.Spec:=fnSpec oE qZ5 oE0 (fun x=>tO1 x.1) (fun x=>f89 x.1) (fun _=>())
theorem oE1:SpecOk Tryz.prog 89 sZ6:=xV5 (rs:=qZ5) (F:=f89) (ok:=tO1) pT1 pT3 pT5 (of_decide_eq_true (by kernel_rfl)) (of_decide_eq_true (by kernel_rfl)) (fun l h hp=>⟨hp,fun _=>by simpa [tO1] using h⟩) rfl rfl (fun _=>rfl)
def pT6 (p0:Unit):Prop × (List D128) :=
 (((!true) = true → ((List.length ([]:List D128) + List.length ([]:List D128):Nat):Int) ≤ 4294967296),(bif true then [] else (([]:List D128) ++ ([]:List D128))))
def sP9 (p0:Unit):Prop:=(pT6 p0).1
def f90a (p0:Unit):(List D128):=(pT6 p0).2
instance (p0:Unit):Decidable (sP9 p0):=by
 unfold sP9 pT6
 try dsimp only
 infer_instance
def rW5:Am.Spec:=fnSpec [(0,(.nn true))] (.own T128 0 false) [] (fun x=>sP9 x.1) (fun x=>f90a x.1) (fun _=>())
def qP:Ctx:=Cx tys [] [] [(7,[(4,0,7,0)])] false 8 [] []
theorem qP0:CtxOk Tryz.prog qP:=xW3 tys_ok rfl trivial rfl (by kernel_rfl)
theorem pT7:SpecOk Tryz.prog 90 rW5:=xY2 qP0 mixed Tryz.func90 (by kernel_rfl) (bs:=[]) (by kernel_rfl) trivial fun x=>by kernel_rfl
def pT8 (p0:Unit):Prop × (List D128) :=
 (((!false) = true → ((List.length ([]:List D128) + List.length ([]:List D128):Nat):Int) ≤ 4294967296),(bif false then [] else (([]:List D128) ++ ([]:List D128))))
def sQ (p0:Unit):Prop:=(pT8 p0).1
def f90b (p0:Unit):(List D128):=(pT8 p0).2
instance (p0:Unit):Decidable (sQ p0):=by
 unfold sQ pT8
 try dsimp only
 infer_instance
def rW6:Am.Spec:=fnSpec [(0,(.nn false))] (.own T128 0 false) [] (fun x=>sQ x.1) (fun x=>f90b x.1) (fun _=>())
def qP1:Ctx:=Cx tys [] [] [(7,[(4,0,7,0)])] false 8 [] []
theorem qP2:CtxOk Tryz.prog qP1:=xW3 tys_ok rfl trivial rfl (by kernel_rfl)
theorem pT9:SpecOk Tryz.prog 90 rW6:=xY2 qP2 mixed Tryz.func90 (by kernel_rfl) (bs:=[]) (by kernel_rfl) trivial fun x=>by kernel_rfl
def pU (p0:(List D128)):Prop × (List D128) :=
 ((0 < List.length p0 ∧ ((!false) = true → ((List.length ([]:List D128) + List.length p0:Nat):Int) ≤ 4294967296)),(bif false then [] else (([]:List D128) ++ p0)))
def sQ0 (p0:(List D128)):Prop:=(pU p0).1
def f90c (p0:(List D128)):(List D128):=(pU p0).2
instance (p0:(List D128)):Decidable (sQ0 p0):=by
 unfold sQ0 pU
 try dsimp only
 infer_instance
def rW7:Am.Spec:=fnSpec [(0,(.val (.sl T128)))] (.own T128 0 false) [] (fun x=>sQ0 x.1) (fun x=>f90c x.1) (fun _=>())
def qP3:Ctx:=Cx tys [] [] [(7,[(4,0,7,0)])] false 8 [] []
theorem qP4:CtxOk Tryz.prog qP3:=xW3 tys_ok rfl trivial rfl (by kernel_rfl)
theorem pU0:SpecOk Tryz.prog 90 rW7:=xY2 qP4 mixed Tryz.func90 (by kernel_rfl) (bs:=[]) (by kernel_rfl) trivial fun x=>by kernel_rfl
def f90 (p0:(List D128)):(List D128):=p0
def tO2 (p0:(List D128)):Prop:=(List.length p0:Int) ≤ 4294967296
instance (p0:(List D128)):Decidable (tO2 p0):=by
  unfold tO2
  infer_instance
def oE2:List (Nat × Sh):=[(0,(.val (.sl T128)))]
def qZ6:Sh:=(.own T128 0 false)
def oE3:List (Nat × Sh):=[]
def sZ7:Am.Spec:=fnSpec oE2 qZ6 oE3 (fun x=>tO2 x.1) (fun x=>f90 x.1) (fun _=>())
theorem oE4:SpecOk Tryz.prog 90 sZ7:=xV5 (rs:=qZ6) (F:=f90) (ok:=tO2) pT7 pT9 pU0 (of_decide_eq_true (by kernel_rfl)) (of_decide_eq_true (by kernel_rfl)) (fun l h hp=>⟨hp,fun _=>by simpa [tO2] using h⟩) rfl rfl (fun _=>rfl)
def pU1 (p0:Unit):Prop × (List D125) :=
 (((!true) = true → ((List.length ([]:List D125) + List.length ([]:List D125):Nat):Int) ≤ 4294967296),(bif true then [] else (([]:List D125) ++ ([]:List D125))))
def sQ1 (p0:Unit):Prop:=(pU1 p0).1
def f91a (p0:Unit):(List D125):=(pU1 p0).2
instance (p0:Unit):Decidable (sQ1 p0):=by
 unfold sQ1 pU1
 try dsimp only
 infer_instance
def rW8:Am.Spec:=fnSpec [(0,(.nn true))] (.own T125 0 false) [] (fun x=>sQ1 x.1) (fun x=>f91a x.1) (fun _=>())
def qP5:Ctx:=Cx tys [] [] [(7,[(4,0,7,0)])] false 8 [] []
theorem qP6:CtxOk Tryz.prog qP5:=xW3 tys_ok rfl trivial rfl (by kernel_rfl)
theorem pU2:SpecOk Tryz.prog 91 rW8:=xY2 qP6 mixed Tryz.func91 (by kernel_rfl) (bs:=[]) (by kernel_rfl) trivial fun x=>by kernel_rfl
def pU3 (p0:Unit):Prop × (List D125) :=
 (((!false) = true → ((List.length ([]:List D125) + List.length ([]:List D125):Nat):Int) ≤ 4294967296),(bif false then [] else (([]:List D125) ++ ([]:List D125))))
def sQ2 (p0:Unit):Prop:=(pU3 p0).1
def f91b (p0:Unit):(List D125):=(pU3 p0).2
instance (p0:Unit):Decidable (sQ2 p0):=by
 unfold sQ2 pU3
 try dsimp only
 infer_instance
def rW9:Am.Spec:=fnSpec [(0,(.nn false))] (.own T125 0 false) [] (fun x=>sQ2 x.1) (fun x=>f91b x.1) (fun _=>())
def qP7:Ctx:=Cx tys [] [] [(7,[(4,0,7,0)])] false 8 [] []
theorem qP8:CtxOk Tryz.prog qP7:=xW3 tys_ok rfl trivial rfl (by kernel_rfl)
theorem pU4:SpecOk Tryz.prog 91 rW9:=xY2 qP8 mixed Tryz.func91 (by kernel_rfl) (bs:=[]) (by kernel_rfl) trivial fun x=>by kernel_rfl
def pU5 (p0:(List D125)):Prop × (List D125) :=
 ((0 < List.length p0 ∧ ((!false) = true → ((List.length ([]:List D125) + List.length p0:Nat):Int) ≤ 4294967296)),(bif false then [] else (([]:List D125) ++ p0)))
def sQ3 (p0:(List D125)):Prop:=(pU5 p0).1
def f91c (p0:(List D125)):(List D125):=(pU5 p0).2
instance (p0:(List D125)):Decidable (sQ3 p0):=by
 unfold sQ3 pU5
 try dsimp only
 infer_instance
def rX:Am.Spec:=fnSpec [(0,(.val (.sl T125)))] (.own T125 0 false) [] (fun x=>sQ3 x.1) (fun x=>f91c x.1) (fun _=>())
def qP9:Ctx:=Cx tys [] [] [(7,[(4,0,7,0)])] false 8 [] []
theorem qQ:CtxOk Tryz.prog qP9:=xW3 tys_ok rfl trivial rfl (by kernel_rfl)
theorem pU6:SpecOk Tryz.prog 91 rX:=xY2 qQ mixed Tryz.func91 (by kernel_rfl) (bs:=[]) (by kernel_rfl) trivial fun x=>by kernel_rfl
def f91 (p0:(List D125)):(List D125):=p0
def tO3 (p0:(List D125)):Prop:=(List.length p0:Int) ≤ 4294967296
instance (p0:(List D125)):Decidable (tO3 p0):=by
  unfold tO3
  infer_instance
def oE5:List (Nat × Sh):=[(0,(.val (.sl T125)))]
def qZ7:Sh:=(.own T125 0 false)
def oE6:List (Nat × Sh):=[]
def sZ8:Am.Spec:=fnSpec oE5 qZ7 oE6 (fun x=>tO3 x.1) (fun x=>f91 x.1) (fun _=>())
theorem oE7:SpecOk Tryz.prog 91 sZ8:=xV5 (rs:=qZ7) (F:=f91) (ok:=tO3) pU2 pU4 pU6 (of_decide_eq_true (by kernel_rfl)) (of_decide_eq_true (by kernel_rfl)) (fun l h hp=>⟨hp,fun _=>by simpa [tO3] using h⟩) rfl rfl (fun _=>rfl)
def f67t (p0:D49) (p1:D49):Prop × (D49 × Int × Unit) :=
 let v10:=(p0.2.1 != p1.2.1)
 let s_20:=(p1.2.2.2.2.2.2.2.2.2.2.2.2.2.2.2.2.2.2.2.2.2.2.2.2.2.2.2.1.1,p1.2.2.2.2.2.2.2.2.2.2.2.2.2.2.2.2.2.2.2.2.2.2.2.2.2.2.2.1.2.1,p1.2.2.2.2.2.2.2.2.2.2.2.2.2.2.2.2.2.2.2.2.2.2.2.2.2.2.2.1.2.2.1,(f91 p1.2.2.2.2.2.2.2.2.2.2.2.2.2.2.2.2.2.2.2.2.2.2.2.2.2.2.2.1.2.2.2.1),())
 let s_21:=(p0.1,p0.2.1,p0.2.2.1,p0.2.2.2.1,p0.2.2.2.2.1,p0.2.2.2.2.2.1,p0.2.2.2.2.2.2.1,p0.2.2.2.2.2.2.2.1,p0.2.2.2.2.2.2.2.2.1,(p0.2.2.2.2.2.2.2.2.2.1.1,p0.2.2.2.2.2.2.2.2.2.1.2.1,(f63 p0.2.2.2.2.2.2.2.2.2.1.2.2.1),()),p0.2.2.2.2.2.2.2.2.2.2.1,p0.2.2.2.2.2.2.2.2.2.2.2.1,(p1.2.2.2.2.2.2.2.2.2.2.2.2.1.1,p1.2.2.2.2.2.2.2.2.2.2.2.2.1.2.1,(f66 p1.2.2.2.2.2.2.2.2.2.2.2.2.1.2.2.1),()),p1.2.2.2.2.2.2.2.2.2.2.2.2.2.1,p1.2.2.2.2.2.2.2.2.2.2.2.2.2.2.1,(f63 p1.2.2.2.2.2.2.2.2.2.2.2.2.2.2.2.1),p1.2.2.2.2.2.2.2.2.2.2.2.2.2.2.2.2.1,(f89 p1.2.2.2.2.2.2.2.2.2.2.2.2.2.2.2.2.2.1),(f90 p1.2.2.2.2.2.2.2.2.2.2.2.2.2.2.2.2.2.2.1),p1.2.2.2.2.2.2.2.2.2.2.2.2.2.2.2.2.2.2.2.1,p1.2.2.2.2.2.2.2.2.2.2.2.2.2.2.2.2.2.2.2.2.1,p1.2.2.2.2.2.2.2.2.2.2.2.2.2.2.2.2.2.2.2.2.2.1,p1.2.2.2.2.2.2.2.2.2.2.2.2.2.2.2.2.2.2.2.2.2.2.1,p1.2.2.2.2.2.2.2.2.2.2.2.2.2.2.2.2.2.2.2.2.2.2.2.1,p1.2.2.2.2.2.2.2.2.2.2.2.2.2.2.2.2.2.2.2.2.2.2.2.2.1,p1.2.2.2.2.2.2.2.2.2.2.2.2.2.2.2.2.2.2.2.2.2.2.2.2.2.1,p1.2.2.2.2.2.2.2.2.2.2.2.2.2.2.2.2.2.2.2.2.2.2.2.2.2.2.1,s_20,())
 let s_25:=((0:Int),(0:Int),(0:Int),([]:List UInt8),false,false,false,(0:Int),(0:Int),((0:Int),(0:Int),([]:List Int),()),Z37,(0:Int),((0:Int),(0:Int),([]:List D42),()),Z42,(0:Int),([]:List Int),(0:Int),([]:List D122),([]:List D128),(0:Int),(0:Int),(0:Int),(0:Int),([]:List UInt8),(0:Int),(0:Int),(0:Int),((0:Int),(0:Int),(0:Int),([]:List D125),()),())
 (((!v10) = true → ((uP0 p0.2.2.2.2.2.2.2.2.2.1.2.2.1) ∧ ((tG1 p1.2.2.2.2.2.2.2.2.2.2.2.2.1.2.2.1) ∧ ((uP0 p1.2.2.2.2.2.2.2.2.2.2.2.2.2.2.2.1) ∧ ((tO1 p1.2.2.2.2.2.2.2.2.2.2.2.2.2.2.2.2.2.1) ∧ ((tO2 p1.2.2.2.2.2.2.2.2.2.2.2.2.2.2.2.2.2.2.1) ∧ (tO3 p1.2.2.2.2.2.2.2.2.2.2.2.2.2.2.2.2.2.2.2.2.2.2.2.2.2.2.2.1.2.2.2.1))))))),((bif v10 then s_25 else s_21),(bif v10 then (8:Int) else (0:Int)),()))
def sZ9 (p0:D49) (p1:D49):Prop:=(f67t p0 p1).1
def f67 (p0:D49) (p1:D49):(D49 × Int × Unit):=(f67t p0 p1).2
instance (p0:D49) (p1:D49):Decidable (sZ9 p0 p1):=by
 unfold sZ9 f67t
 try dsimp only
 infer_instance
def rA:Am.Spec:=fnSpec [(0,(.val T49)),(1,(.val T49))] (.tup (.cons (.val T49) (.cons vI .nl))) [] (fun x=>sZ9 x.1 x.2.1) (fun x=>f67 x.1 x.2.1) (fun _=>())
def pU7:Ctx:=Cx tys [(63,tV0),(66,tV1),(89,sZ6),(90,sZ7),(91,sZ8)] [] [] false 82 [] []
theorem pU8:CtxOk Tryz.prog pU7:=xW3 tys_ok rfl ⟨qZ2,qZ4,oE1,oE4,oE7,trivial⟩ rfl (by kernel_rfl)
theorem oE8:SpecOk Tryz.prog 67 rA:=xY2 pU8 mixed Tryz.func67 (by kernel_rfl) (bs:=[]) (by kernel_rfl) trivial fun x=>by kernel_rfl
def f35t (p0:D49):Prop × D49 :=
 ((sZ9 p0 p0),(f67 p0 p0).1)
def tO4 (p0:D49):Prop:=(f35t p0).1
def f35 (p0:D49):D49:=(f35t p0).2
instance (p0:D49):Decidable (tO4 p0):=by
 unfold tO4 f35t
 try dsimp only
 infer_instance
def uR5:Am.Spec:=fnSpec [(0,(.val T49))] (.val T49) [] (fun x=>tO4 x.1) (fun x=>f35 x.1) (fun _=>())
def pU9:Ctx:=Cx tys [(67,rA)] [] [] false 12 [] []
theorem pV:CtxOk Tryz.prog pU9:=xW3 tys_ok rfl ⟨oE8,trivial⟩ rfl (by kernel_rfl)
theorem rX0:SpecOk Tryz.prog 35 uR5:=xY2 pV mixed Tryz.func35 (by kernel_rfl) (bs:=[]) (by kernel_rfl) trivial fun x=>by kernel_rfl
def pV0 (p0:Unit):Prop × (List D87) :=
 (((!true) = true → ((List.length ([]:List D87) + List.length ([]:List D87):Nat):Int) ≤ 4294967296),(bif true then [] else (([]:List D87) ++ ([]:List D87))))
def sQ4 (p0:Unit):Prop:=(pV0 p0).1
def f64a (p0:Unit):(List D87):=(pV0 p0).2
instance (p0:Unit):Decidable (sQ4 p0):=by
 unfold sQ4 pV0
 try dsimp only
 infer_instance
def rX1:Am.Spec:=fnSpec [(0,(.nn true))] (.own T87 0 false) [] (fun x=>sQ4 x.1) (fun x=>f64a x.1) (fun _=>())
def qQ0:Ctx:=Cx tys [] [] [(7,[(4,0,7,0)])] false 8 [] []
theorem qQ1:CtxOk Tryz.prog qQ0:=xW3 tys_ok rfl trivial rfl (by kernel_rfl)
theorem pV1:SpecOk Tryz.prog 64 rX1:=xY2 qQ1 mixed Tryz.func64 (by kernel_rfl) (bs:=[]) (by kernel_rfl) trivial fun x=>by kernel_rfl
def pV2 (p0:Unit):Prop × (List D87) :=
 (((!false) = true → ((List.length ([]:List D87) + List.length ([]:List D87):Nat):Int) ≤ 4294967296),(bif false then [] else (([]:List D87) ++ ([]:List D87))))
def sQ5 (p0:Unit):Prop:=(pV2 p0).1
def f64b (p0:Unit):(List D87):=(pV2 p0).2
instance (p0:Unit):Decidable (sQ5 p0):=by
 unfold sQ5 pV2
 try dsimp only
 infer_instance
def rX2:Am.Spec:=fnSpec [(0,(.nn false))] (.own T87 0 false) [] (fun x=>sQ5 x.1) (fun x=>f64b x.1) (fun _=>())
def qQ2:Ctx:=Cx tys [] [] [(7,[(4,0,7,0)])] false 8 [] []
theorem qQ3:CtxOk Tryz.prog qQ2:=xW3 tys_ok rfl trivial rfl (by kernel_rfl)
theorem pV3:SpecOk Tryz.prog 64 rX2:=xY2 qQ3 mixed Tryz.func64 (by kernel_rfl) (bs:=[]) (by kernel_rfl) trivial fun x=>by kernel_rfl
def pV4 (p0:(List D87)):Prop × (List D87) :=
 ((0 < List.length p0 ∧ ((!false) = true → ((List.length ([]:List D87) + List.length p0:Nat):Int) ≤ 4294967296)),(bif false then [] else (([]:List D87) ++ p0)))
def sQ6 (p0:(List D87)):Prop:=(pV4 p0).1
def f64c (p0:(List D87)):(List D87):=(pV4 p0).2
instance (p0:(List D87)):Decidable (sQ6 p0):=by
 unfold sQ6 pV4
 try dsimp only
 infer_instance
def rX3:Am.Spec:=fnSpec [(0,(.val (.sl T87)))] (.own T87 0 false) [] (fun x=>sQ6 x.1) (fun x=>f64c x.1) (fun _=>())
def qQ4:Ctx:=Cx tys [] [] [(7,[(4,0,7,0)])] false 8 [] []
theorem qQ5:CtxOk Tryz.prog qQ4:=xW3 tys_ok rfl trivial rfl (by kernel_rfl)
theorem pV5:SpecOk Tryz.prog 64 rX3:=xY2 qQ5 mixed Tryz.func64 (by kernel_rfl) (bs:=[]) (by kernel_rfl) trivial fun x=>by kernel_rfl
def f64 (p0:(List D87)):(List D87):=p0
def tO5 (p0:(List D87)):Prop:=(List.length p0:Int) ≤ 4294967296
instance (p0:(List D87)):Decidable (tO5 p0):=by
  unfold tO5
  infer_instance
def oE9:List (Nat × Sh):=[(0,(.val (.sl T87)))]
def qZ8:Sh:=(.own T87 0 false)
def oF:List (Nat × Sh):=[]
def rA0:Am.Spec:=fnSpec oE9 qZ8 oF (fun x=>tO5 x.1) (fun x=>f64 x.1) (fun _=>())
theorem oF0:SpecOk Tryz.prog 64 rA0:=xV5 (rs:=qZ8) (F:=f64) (ok:=tO5) pV1 pV3 pV5 (of_decide_eq_true (by kernel_rfl)) (of_decide_eq_true (by kernel_rfl)) (fun l h hp=>⟨hp,fun _=>by simpa [tO5] using h⟩) rfl rfl (fun _=>rfl)
def pV6 (p0:Unit):Prop × (List D90) :=
 (((!true) = true → ((List.length ([]:List D90) + List.length ([]:List D90):Nat):Int) ≤ 4294967296),(bif true then [] else (([]:List D90) ++ ([]:List D90))))
def sQ7 (p0:Unit):Prop:=(pV6 p0).1
def f65a (p0:Unit):(List D90):=(pV6 p0).2
instance (p0:Unit):Decidable (sQ7 p0):=by
 unfold sQ7 pV6
 try dsimp only
 infer_instance
def rX4:Am.Spec:=fnSpec [(0,(.nn true))] (.own T90 0 true) [] (fun x=>sQ7 x.1) (fun x=>f65a x.1) (fun _=>())
def qQ6:Ctx:=Cx tys [] [] [(7,[(4,0,7,0)])] false 8 [] [5,7]
theorem qQ7:CtxOk Tryz.prog qQ6:=xW3 tys_ok rfl trivial rfl (by kernel_rfl)
theorem pV7:SpecOk Tryz.prog 65 rX4:=xY2 qQ7 mixed Tryz.func65 (by kernel_rfl) (bs:=[]) (by kernel_rfl) trivial fun x=>by kernel_rfl
def pV8 (p0:Unit):Prop × (List D90) :=
 (((!false) = true → ((List.length ([]:List D90) + List.length ([]:List D90):Nat):Int) ≤ 4294967296),(bif false then [] else (([]:List D90) ++ ([]:List D90))))
def sQ8 (p0:Unit):Prop:=(pV8 p0).1
def f65b (p0:Unit):(List D90):=(pV8 p0).2
instance (p0:Unit):Decidable (sQ8 p0):=by
 unfold sQ8 pV8
 try dsimp only
 infer_instance
def rX5:Am.Spec:=fnSpec [(0,(.nn false))] (.own T90 0 true) [] (fun x=>sQ8 x.1) (fun x=>f65b x.1) (fun _=>())
def qQ8:Ctx:=Cx tys [] [] [(7,[(4,0,7,0)])] false 8 [] [5,7]
theorem qQ9:CtxOk Tryz.prog qQ8:=xW3 tys_ok rfl trivial rfl (by kernel_rfl)
theorem pV9:SpecOk Tryz.prog 65 rX5:=xY2 qQ9 mixed Tryz.func65 (by kernel_rfl) (bs:=[]) (by kernel_rfl) trivial fun x=>by kernel_rfl
def pW (p0:(List D90)):Prop × (List D90) :=
 ((0 < List.length p0 ∧ ((!false) = true → ((List.length ([]:List D90) + List.length p0:Nat):Int) ≤ 4294967296)),(bif false then [] else (([]:List D90) ++ p0)))
def sQ9 (p0:(List D90)):Prop:=(pW p0).1
def f65c (p0:(List D90)):(List D90):=(pW p0).2
instance (p0:(List D90)):Decidable (sQ9 p0):=by
 unfold sQ9 pW
 try dsimp only
 infer_instance
def rX6:Am.Spec:=fnSpec [(0,(.val (.sl T90)))] (.own T90 0 true) [] (fun x=>sQ9 x.1) (fun x=>f65c x.1) (fun _=>())
def qR:Ctx:=Cx tys [] [] [(7,[(4,0,7,0)])] false 8 [] [5,7]
theorem qR0:CtxOk Tryz.prog qR:=xW3 tys_ok rfl trivial rfl (by kernel_rfl)
theorem pW0:SpecOk Tryz.prog 65 rX6:=xY2 qR0 mixed Tryz.func65 (by kernel_rfl) (bs:=[]) (by kernel_rfl) trivial fun x=>by kernel_rfl
def f65 (p0:(List D90)):(List D90):=p0
def tO6 (p0:(List D90)):Prop:=(List.length p0:Int) ≤ 4294967296
instance (p0:(List D90)):Decidable (tO6 p0):=by
  unfold tO6
  infer_instance
def oF1:List (Nat × Sh):=[(0,(.val (.sl T90)))]
def qZ9:Sh:=(.own T90 0 true)
def oF2:List (Nat × Sh):=[]
def rA1:Am.Spec:=fnSpec oF1 qZ9 oF2 (fun x=>tO6 x.1) (fun x=>f65 x.1) (fun _=>())
theorem oF3:SpecOk Tryz.prog 65 rA1:=xV5 (rs:=qZ9) (F:=f65) (ok:=tO6) pV7 pV9 pW0 (of_decide_eq_true (by kernel_rfl)) (of_decide_eq_true (by kernel_rfl)) (fun l h hp=>⟨hp,fun _=>by simpa [tO6] using h⟩) rfl rfl (fun _=>rfl)
abbrev vS1:Type:=(D28 × (Int × Int × Int × (List D49) × Int × (Int × Int × (List Int) × Unit) × (List D87) × (List D90) × Unit) × (List D49) × Int × Unit)
abbrev wZ5:Type:=((Int × Int × Int × (List D49) × Int × D24 × (List D87) × (List D90) × Unit) × Int × Unit)
def tV2 (y:vS1) (x:wZ5):Prop × Bool × wZ5 :=
 let a15:=y.2.2.1
 let a3:=x.1
 let a17:=x.2.1
 let v18:=(decide (a17 < y.2.2.2.1))
 let v20:=(nth a15 a17 Z49)
 ((v18 = true → (InB a17 (len a15) ∧ ((tO4 v20) ∧ (InB a17 (len a3.2.2.2.1) ∧ (a17 < len a3.2.2.2.1 ∧ InR (a17 + 1)))))),v18,((a3.1,a3.2.1,a3.2.2.1,(List.set a3.2.2.2.1 (Int.toNat a17) (f35 v20)),a3.2.2.2.2.1,a3.2.2.2.2.2.1,a3.2.2.2.2.2.2.1,a3.2.2.2.2.2.2.2.1,()),(a17 + 1),()))
def uE5 (y:vS1) (x:wZ5):Prop:=(tV2 y x).1
def tV3 (y:vS1) (x:wZ5):Bool:=(tV2 y x).2.1
def vW2 (y:vS1) (x:wZ5):wZ5:=(tV2 y x).2.2
instance (y:vS1) (x:wZ5):Decidable (uE5 y x):=by
 unfold uE5 tV2
 try dsimp only
 infer_instance
def tG2 (y:vS1) (x:wZ5):(Int × Int × Int × (List D49) × Int × D24 × (List D87) × (List D90) × Unit) :=
 let a3:=x.1
 (a3.1,a3.2.1,a3.2.2.1,a3.2.2.2.1,a3.2.2.2.2.1,a3.2.2.2.2.2.1,a3.2.2.2.2.2.2.1,a3.2.2.2.2.2.2.2.1,())
def sI1:List (Nat × Sh):=[(1,(.box T28 (.val T28))),(2,(.box T28 (.agg (.cons (.int .i64) (.cons (.int .i64) (.cons (.int .i64) (.cons (.sl T49) (.cons (.int .i64) (.cons T24 (.cons (.sl T87) (.cons (.sl T90) .nl)))))))) (.cons vI (.cons vI (.cons vI (.cons (.val (.sl T49)) (.cons vI (.cons (.agg (.cons (.int .i64) (.cons (.int .i64) (.cons (.sl (.int .i64)) .nl))) (.cons vI (.cons vI (.cons (.val (.sl (.int .i64))) .nl)))) (.cons (.val (.sl T87)) (.cons (.val (.sl T90)) .nl))))))))))),(3,(.box T28 (.agg (.cons (.int .i64) (.cons (.int .i64) (.cons (.int .i64) (.cons (.sl T49) (.cons (.int .i64) (.cons T24 (.cons (.sl T87) (.cons (.sl T90) .nl)))))))) (.cons vI (.cons vI (.cons vI (.cons (.own T49 400300 true) (.cons vI (.cons (.val T24) (.cons (.val (.sl T87)) (.cons (.val (.sl T90)) .nl)))))))))))]
def tG3:St → Option Out:=xP3 [(1,(.box T28 (.val T28))),(2,(.box T28 (.agg (.cons (.int .i64) (.cons (.int .i64) (.cons (.int .i64) (.cons (.sl T49) (.cons (.int .i64) (.cons T24 (.cons (.sl T87) (.cons (.sl T90) .nl)))))))) (.cons vI (.cons vI (.cons vI (.cons (.val (.sl T49)) (.cons vI (.cons (.agg (.cons (.int .i64) (.cons (.int .i64) (.cons (.sl (.int .i64)) .nl))) (.cons vI (.cons vI (.cons (.val (.sl (.int .i64))) .nl)))) (.cons (.val (.sl T87)) (.cons (.val (.sl T90)) .nl))))))))))),(15,(.val (.sl T49))),(16,vI)] [(3,(.box T28 (.agg (.cons (.int .i64) (.cons (.int .i64) (.cons (.int .i64) (.cons (.sl T49) (.cons (.int .i64) (.cons T24 (.cons (.sl T87) (.cons (.sl T90) .nl)))))))) (.cons vI (.cons vI (.cons vI (.cons (.own T49 400300 true) (.cons vI (.cons (.val T24) (.cons (.val (.sl T87)) (.cons (.val (.sl T90)) .nl))))))))))),(17,vI)] tV3 vW2 uE5 fun y x=>[ex 2 none sI1 (y.1,y.2.1,(tG2 y x),())]
abbrev vE2:Type:=((Int × Int × Int × (List D49) × Int × (Int × Int × (List Int) × Unit) × (List D87) × (List D90) × Unit) × (List D90) × Int × Unit)
abbrev wS1:Type:=((Int × Int × Int × (List D49) × Int × D24 × (List D87) × (List D90) × Unit) × Int × Unit)
def uR6 (y:vE2) (x:wS1):Prop × Bool × wS1 :=
 let a44:=y.2.1
 let a3:=x.1
 let a46:=x.2.1
 let v47:=(decide (a46 < y.2.2.1))
 let v49:=(nth a44 a46 Z90)
 let s_1:=((nth a3.2.2.2.2.2.2.2.1 a46 Z90).1,(nth a3.2.2.2.2.2.2.2.1 a46 Z90).2.1,(nth a3.2.2.2.2.2.2.2.1 a46 Z90).2.2.1,(nth a3.2.2.2.2.2.2.2.1 a46 Z90).2.2.2.1,((nth a3.2.2.2.2.2.2.2.1 a46 Z90).2.2.2.2.1.1,(nth a3.2.2.2.2.2.2.2.1 a46 Z90).2.2.2.2.1.2.1,(f66 v49.2.2.2.2.1.2.2.1),()),())
 ((v47 = true → (InB a46 (len a44) ∧ ((tG1 v49.2.2.2.2.1.2.2.1) ∧ (InB a46 (len a3.2.2.2.2.2.2.2.1) ∧ (a46 < len a3.2.2.2.2.2.2.2.1 ∧ InR (a46 + 1)))))),v47,((a3.1,a3.2.1,a3.2.2.1,a3.2.2.2.1,a3.2.2.2.2.1,a3.2.2.2.2.2.1,a3.2.2.2.2.2.2.1,(List.set a3.2.2.2.2.2.2.2.1 (Int.toNat a46) s_1),()),(a46 + 1),()))
def vS2 (y:vE2) (x:wS1):Prop:=(uR6 y x).1
def tG4 (y:vE2) (x:wS1):Bool:=(uR6 y x).2.1
def vN3 (y:vE2) (x:wS1):wS1:=(uR6 y x).2.2
instance (y:vE2) (x:wS1):Decidable (vS2 y x):=by
 unfold vS2 uR6
 try dsimp only
 infer_instance
def uP1 (y:vE2) (x:wS1):(Int × Int × Int × (List D49) × Int × D24 × (List D87) × (List D90) × Unit) :=
 let a3:=x.1
 (a3.1,a3.2.1,a3.2.2.1,a3.2.2.2.1,a3.2.2.2.2.1,a3.2.2.2.2.2.1,a3.2.2.2.2.2.2.1,a3.2.2.2.2.2.2.2.1,())
def tO7:List (Nat × Sh):=[(2,(.box T28 (.agg (.cons (.int .i64) (.cons (.int .i64) (.cons (.int .i64) (.cons (.sl T49) (.cons (.int .i64) (.cons T24 (.cons (.sl T87) (.cons (.sl T90) .nl)))))))) (.cons vI (.cons vI (.cons vI (.cons (.val (.sl T49)) (.cons vI (.cons (.agg (.cons (.int .i64) (.cons (.int .i64) (.cons (.sl (.int .i64)) .nl))) (.cons vI (.cons vI (.cons (.val (.sl (.int .i64))) .nl)))) (.cons (.val (.sl T87)) (.cons (.val (.sl T90)) .nl))))))))))),(3,(.box T28 (.agg (.cons (.int .i64) (.cons (.int .i64) (.cons (.int .i64) (.cons (.sl T49) (.cons (.int .i64) (.cons T24 (.cons (.sl T87) (.cons (.sl T90) .nl)))))))) (.cons vI (.cons vI (.cons vI (.cons (.own T49 400300 true) (.cons vI (.cons (.val T24) (.cons (.own T87 400302 false) (.cons (.own T90 400303 true) .nl)))))))))))]
def uP2:St → Option Out:=xP3 [(2,(.box T28 (.agg (.cons (.int .i64) (.cons (.int .i64) (.cons (.int .i64) (.cons (.sl T49) (.cons (.int .i64) (.cons T24 (.cons (.sl T87) (.cons (.sl T90) .nl)))))))) (.cons vI (.cons vI (.cons vI (.cons (.val (.sl T49)) (.cons vI (.cons (.agg (.cons (.int .i64) (.cons (.int .i64) (.cons (.sl (.int .i64)) .nl))) (.cons vI (.cons vI (.cons (.val (.sl (.int .i64))) .nl)))) (.cons (.val (.sl T87)) (.cons (.val (.sl T90)) .nl))))))))))),(44,(.val (.sl T90))),(45,vI)] [(3,(.box T28 (.agg (.cons (.int .i64) (.cons (.int .i64) (.cons (.int .i64) (.cons (.sl T49) (.cons (.int .i64) (.cons T24 (.cons (.sl T87) (.cons (.sl T90) .nl)))))))) (.cons vI (.cons vI (.cons vI (.cons (.own T49 400300 true) (.cons vI (.cons (.val T24) (.cons (.own T87 400302 false) (.cons (.own T90 400303 true) .nl))))))))))),(46,vI)] tG4 vN3 vS2 fun y x=>[ex 4 none tO7 (y.1,(uP1 y x),())]
def f34t (p0:D28):Prop × (Int × Int × Int × (List D49) × Int × D24 × (List D87) × (List D90) × Unit) :=
 let v11:=(len p0.2.2.2.1)
 let y4:=(p0,((0:Int),(0:Int),(0:Int),([]:List D49),(0:Int),((0:Int),(0:Int),([]:List Int),()),([]:List D87),([]:List D90),()),p0.2.2.2.1,(len p0.2.2.2.1),())
 let x4:=((p0.1,p0.2.1,p0.2.2.1,(List.replicate (Int.toNat v11) Z49),p0.2.2.2.2.1,p0.2.2.2.2.2.1,p0.2.2.2.2.2.2.1,p0.2.2.2.2.2.2.2.1,()),(0:Int),())
 let r4_2_0:=(tG2 y4 (zC1 (tV3 y4) (vW2 y4) x4))
 let s_6:=(r4_2_0.1,r4_2_0.2.1,r4_2_0.2.2.1,r4_2_0.2.2.2.1,r4_2_0.2.2.2.2.1,(r4_2_0.2.2.2.2.2.1.1,r4_2_0.2.2.2.2.2.1.2.1,(f63 p0.2.2.2.2.2.1.2.2.1),()),(f64 p0.2.2.2.2.2.2.1),(f65 p0.2.2.2.2.2.2.2.1),())
 let y12:=(((0:Int),(0:Int),(0:Int),([]:List D49),(0:Int),((0:Int),(0:Int),([]:List Int),()),([]:List D87),([]:List D90),()),p0.2.2.2.2.2.2.2.1,(len p0.2.2.2.2.2.2.2.1),())
 let x12:=(s_6,(0:Int),())
 let r12_4_0:=(uP1 y12 (zC1 (tG4 y12) (vN3 y12) x12))
 (((0 ≤ v11 ∧ v11 ≤ v11 ∧ v11 ≤ 4294967296) ∧ ((Am.Ends (tV3 y4) (vW2 y4) (uE5 y4) x4) ∧ ((uP0 p0.2.2.2.2.2.1.2.2.1) ∧ ((tO5 p0.2.2.2.2.2.2.1) ∧ ((tO6 p0.2.2.2.2.2.2.2.1) ∧ (Am.Ends (tG4 y12) (vN3 y12) (vS2 y12) x12)))))),(r12_4_0.1,r12_4_0.2.1,r12_4_0.2.2.1,r12_4_0.2.2.2.1,r12_4_0.2.2.2.2.1,r12_4_0.2.2.2.2.2.1,r12_4_0.2.2.2.2.2.2.1,r12_4_0.2.2.2.2.2.2.2.1,()))
def tO8 (p0:D28):Prop:=(f34t p0).1
def f34 (p0:D28):(Int × Int × Int × (List D49) × Int × D24 × (List D87) × (List D90) × Unit):=(f34t p0).2
instance (p0:D28):Decidable (tO8 p0):=by
 unfold tO8 f34t
 try dsimp only
 infer_instance
def uR7:Am.Spec:=fnSpec [(0,(.val T28))] (.agg (.cons (.int .i64) (.cons (.int .i64) (.cons (.int .i64) (.cons (.sl T49) (.cons (.int .i64) (.cons T24 (.cons (.sl T87) (.cons (.sl T90) .nl)))))))) (.cons vI (.cons vI (.cons vI (.cons (.own T49 0 true) (.cons vI (.cons (.val T24) (.cons (.val (.sl T87)) (.cons (.own T90 3 true) .nl))))))))) [] (fun x=>tO8 x.1) (fun x=>f34 x.1) (fun _=>())
def sR:Ctx:=Cx tys [(35,uR5),(63,tV0),(64,rA0),(65,rA1),(66,tV1)] [(4,tG3),(12,uP2)] [(5,[(4,0,12,400300)]),(19,[(4,0,37,400302)]),(21,[(4,0,41,400303)]),(33,[(4,0,400300,0),(4,0,400302,2),(4,0,400303,3)])] false 63 [] [12]
theorem sR0:CtxOk Tryz.prog sR:=xW3 tys_ok rfl ⟨rX0,qZ2,oF0,oF3,qZ4,trivial⟩ rfl (by kernel_rfl)
noncomputable def rA2:Code:=Tryz.f34.body.getD .skip
noncomputable def pA0:Code:=xX2 rA2 0
theorem rX7:yU9 Tryz.prog sR pA0:=xY1 sR0 mixed (sp:=tG3) rfl [sI1] (bs:=[]) (by kernel_rfl) trivial (by kernel_rfl) (by kernel_rfl) fun y x=>by kernel_rfl
noncomputable def rX8:Code:=xX2 rA2 1
theorem rJ8:yU9 Tryz.prog sR rX8:=xY1 sR0 mixed (sp:=uP2) rfl [tO7] (bs:=[]) (by kernel_rfl) trivial (by kernel_rfl) (by kernel_rfl) fun y x=>by kernel_rfl
theorem rX9:SpecOk Tryz.prog 34 uR7:=xY2 sR0 mixed Tryz.func34 (by kernel_rfl) (bs:=[pA0,rX8]) (by kernel_rfl) ⟨rX7,rJ8,trivial⟩ fun x=>by kernel_rfl
def f36 (p0:(List D49)) (p1:Int) (p2:(List D49)):(List D49):=List.take (Int.toNat p1) p0 ++ (p2 ++ List.drop (Int.toNat p1) p0)
def tO9 (p0:(List D49)) (p1:Int) (p2:(List D49)):Prop:=0 ≤ p1 ∧ p1 ≤ (List.length p0:Int) ∧ 0 < List.length p2 ∧ ((List.length p0 + List.length p2:Nat):Int) ≤ 4294967296
instance (p0:(List D49)) (p1:Int) (p2:(List D49)):Decidable (tO9 p0 p1 p2):=by
  unfold tO9
  infer_instance
def oF4:List (Nat × Sh):=[(0,(.own T49 400000 true)),(1,(.val (.int .i64))),(2,(.own T49 400200 true))]
def oF5:Sh:=(.own T49 0 true)
def oF6:List (Nat × Sh):=[]
def uR8:Am.Spec:=fnSpec oF4 oF5 oF6 (fun x=>tO9 x.1 x.2.1 x.2.2.1) (fun x=>f36 x.1 x.2.1 x.2.2.1) (fun _=>())
theorem rY:SpecOk Tryz.prog 36 uR8:=spec_ins rfl ⟨_,Tryz.func36,by kernel_rfl,by decide⟩ ins_ok
abbrev vS3:Type:=(Int × (List D49) × Int × Unit)
abbrev wT8:Type:=((List Int) × (List (Int × Bool × Unit)) × Int × Unit)
def tV4 (y:vS3) (x:wT8):Prop × Bool × wT8 :=
 let a11:=y.2.1
 let a5:=x.1
 let a6:=x.2.1
 let a13:=x.2.2.1
 let v14:=(decide (a13 < y.2.2.1))
 let v15:=(nth a11 a13 Z49)
 let v26:=(bif (v15.2.2.1 == y.1) then true else (Option.getD (yI6 (.int .i64) .bool v15.2.2.1 a6) false))
 let v33:=([v15.1]:List Int)
 ((v14 = true → (InB a13 (len a11) ∧ ((v26 = true → ((List.length a5 + List.length v33:Nat):Int) ≤ 4294967296) ∧ InR (a13 + 1)))),v14,((bif v26 then (a5 ++ v33) else a5),(bif v26 then (xL7 (.int .i64) .bool v15.1 true a6) else a6),(a13 + 1),()))
def vN4 (y:vS3) (x:wT8):Prop:=(tV4 y x).1
def vS4 (y:vS3) (x:wT8):Bool:=(tV4 y x).2.1
def wL0 (y:vS3) (x:wT8):wT8:=(tV4 y x).2.2
instance (y:vS3) (x:wT8):Decidable (vN4 y x):=by
 unfold vN4 tV4
 try dsimp only
 infer_instance
def tG5 (y:vS3) (x:wT8):(List Int) :=
 x.1
def sI2:List (Nat × Sh):=[(5,(.own (.int .i64) 1005 false))]
def tG6:St → Option Out:=xP3 [(1,vI),(11,(.val (.sl T49))),(12,vI)] [(5,(.own (.int .i64) 1005 false)),(6,(.own (xD1 (.int .i64) .bool) 1006 true)),(13,vI)] vS4 wL0 vN4 fun y x=>[ex 2 none sI2 ((tG5 y x),())]
def f11t (p0:D28) (p1:Int):Prop × (List Int) :=
 let y4:=(p1,p0.2.2.2.1,(len p0.2.2.2.1),())
 let x4:=(([]:List Int),([]:List (Int × Bool × Unit)),(0:Int),())
 ((Am.Ends (vS4 y4) (wL0 y4) (vN4 y4) x4),(tG5 y4 (zC1 (vS4 y4) (wL0 y4) x4)))
def uE6 (p0:D28) (p1:Int):Prop:=(f11t p0 p1).1
def f11 (p0:D28) (p1:Int):(List Int):=(f11t p0 p1).2
instance (p0:D28) (p1:Int):Decidable (uE6 p0 p1):=by
 unfold uE6 f11t
 try dsimp only
 infer_instance
def uE7:Am.Spec:=fnSpec [(0,(.val T28)),(1,vI)] (.own (.int .i64) 0 false) [] (fun x=>uE6 x.1 x.2.1) (fun x=>f11 x.1 x.2.1) (fun _=>())
def rY0:Ctx:={ Cx tys [] [(4,tG6)] [(5,[(4,0,9,1006)]),(17,[(4,0,34,1005)]),(21,[(4,0,1005,0)])] false 37 [] [] with maps:=maps }
theorem rY1:CtxOk Tryz.prog rY0:=xW3 tys_ok (by kernel_rfl) trivial rfl (by kernel_rfl)
noncomputable def qR1:Code:=Tryz.f11.body.getD .skip
noncomputable def pA1:Code:=xX2 qR1 0
theorem rY2:yU9 Tryz.prog rY0 pA1:=xY1 rY1 mixed (sp:=tG6) rfl [sI2] (bs:=[]) (by kernel_rfl) trivial (by kernel_rfl) (by kernel_rfl) fun y x=>by kernel_rfl
theorem rA3:SpecOk Tryz.prog 11 uE7:=xY2 rY1 mixed Tryz.func11 (by kernel_rfl) (bs:=[pA1]) (by kernel_rfl) ⟨rY2,trivial⟩ fun x=>by kernel_rfl
def f37t (p0:D28) (p1:Int) (p2:Int):Prop × Int :=
 let v10:=(f20 p0 p1)
 let v14:=(decide (p2 < (len v10)))
 let v18:=(nth v10 p2 (0:Int))
 let v22:=(p1 == 0)
 let v28:=(f8 p0 p1)
 let v29:=(v28 + 1)
 let v33:=(len (f11 p0 p1))
 (((tG0 p0 p1) ∧ ((v14 = true → (InB p2 (len v10) ∧ (vX2 p0 v18))) ∧ ((!v14) = true → ((!v22) = true → ((vX2 p0 p1) ∧ (InR (v28 + 1) ∧ ((uE6 p0 p1) ∧ InR (v29 + v33)))))))),(bif v14 then (f8 p0 v18) else (bif v22 then (len p0.2.2.2.1) else (v29 + v33))))
def sI3 (p0:D28) (p1:Int) (p2:Int):Prop:=(f37t p0 p1 p2).1
def f37 (p0:D28) (p1:Int) (p2:Int):Int:=(f37t p0 p1 p2).2
instance (p0:D28) (p1:Int) (p2:Int):Decidable (sI3 p0 p1 p2):=by
 unfold sI3 f37t
 try dsimp only
 infer_instance
def tV5:Am.Spec:=fnSpec [(0,(.val T28)),(1,vI),(2,vI)] vI [] (fun x=>sI3 x.1 x.2.1 x.2.2.1) (fun x=>f37 x.1 x.2.1 x.2.2.1) (fun _=>())
def pW1:Ctx:=Cx tys [(8,vF2),(11,uE7),(20,uE4)] [] [(3,[(4,0,10,1007)])] false 35 [] []
theorem pW2:CtxOk Tryz.prog pW1:=xW3 tys_ok rfl ⟨tZ0,rA3,sZ5,trivial⟩ rfl (by kernel_rfl)
theorem pA2:SpecOk Tryz.prog 37 tV5:=xY2 pW2 mixed Tryz.func37 (by kernel_rfl) (bs:=[]) (by kernel_rfl) trivial fun x=>by kernel_rfl
def f38t (p0:D28):Prop × (D28 × Int × Unit) :=
 let v6:=(f9 p0)
 let v8:=(v6 != 0)
 ((tF4 p0),((bif v8 then ((0:Int),(0:Int),(0:Int),([]:List D49),(0:Int),((0:Int),(0:Int),([]:List Int),()),([]:List D87),([]:List D90),()) else p0),(bif v8 then v6 else (0:Int)),()))
def sI4 (p0:D28):Prop:=(f38t p0).1
def f38 (p0:D28):(D28 × Int × Unit):=(f38t p0).2
instance (p0:D28):Decidable (sI4 p0):=by
 unfold sI4 f38t
 try dsimp only
 infer_instance
def tV6:Am.Spec:=fnSpec [(0,(.val T28))] (.tup (.cons (.val T28) (.cons vI .nl))) [] (fun x=>sI4 x.1) (fun x=>f38 x.1) (fun _=>())
def pW3:Ctx:=Cx tys [(9,vN1)] [] [] false 12 [] []
theorem pW4:CtxOk Tryz.prog pW3:=xW3 tys_ok rfl ⟨sP,trivial⟩ rfl (by kernel_rfl)
theorem pA3:SpecOk Tryz.prog 38 tV6:=xY2 pW4 mixed Tryz.func38 (by kernel_rfl) (bs:=[]) (by kernel_rfl) trivial fun x=>by kernel_rfl
def f14t (p0:D28) (p1:D49) (p2:Int) (p3:Int):Prop × (D28 × Int × Int × Unit) :=
 let v16:=(f9 p0)
 let v18:=(v16 != 0)
 let v23:=(f33 p0 p2)
 let v25:=(v23 != 0)
 let v29:=(decide (p3 < 0))
 let v37:=(bif v29 then true else (decide (p3 > (len (f20 p0 p2)))))
 let v47:=(bif (decide ((len p0.2.2.2.1) ≥ 64)) then true else (p0.2.2.2.2.1 == 1073741824))
 let v50:=(f34 p0)
 let v52:=(f35 p1)
 let s_1:=(p0.2.2.2.2.1,v52.2.1,p2,v52.2.2.2.1,v52.2.2.2.2.1,v52.2.2.2.2.2.1,v52.2.2.2.2.2.2.1,v52.2.2.2.2.2.2.2.1,v52.2.2.2.2.2.2.2.2.1,v52.2.2.2.2.2.2.2.2.2.1,v52.2.2.2.2.2.2.2.2.2.2.1,v52.2.2.2.2.2.2.2.2.2.2.2.1,v52.2.2.2.2.2.2.2.2.2.2.2.2.1,v52.2.2.2.2.2.2.2.2.2.2.2.2.2.1,v52.2.2.2.2.2.2.2.2.2.2.2.2.2.2.1,v52.2.2.2.2.2.2.2.2.2.2.2.2.2.2.2.1,v52.2.2.2.2.2.2.2.2.2.2.2.2.2.2.2.2.1,v52.2.2.2.2.2.2.2.2.2.2.2.2.2.2.2.2.2.1,v52.2.2.2.2.2.2.2.2.2.2.2.2.2.2.2.2.2.2.1,v52.2.2.2.2.2.2.2.2.2.2.2.2.2.2.2.2.2.2.2.1,v52.2.2.2.2.2.2.2.2.2.2.2.2.2.2.2.2.2.2.2.2.1,v52.2.2.2.2.2.2.2.2.2.2.2.2.2.2.2.2.2.2.2.2.2.1,v52.2.2.2.2.2.2.2.2.2.2.2.2.2.2.2.2.2.2.2.2.2.2.1,v52.2.2.2.2.2.2.2.2.2.2.2.2.2.2.2.2.2.2.2.2.2.2.2.1,v52.2.2.2.2.2.2.2.2.2.2.2.2.2.2.2.2.2.2.2.2.2.2.2.2.1,v52.2.2.2.2.2.2.2.2.2.2.2.2.2.2.2.2.2.2.2.2.2.2.2.2.2.1,v52.2.2.2.2.2.2.2.2.2.2.2.2.2.2.2.2.2.2.2.2.2.2.2.2.2.2.1,v52.2.2.2.2.2.2.2.2.2.2.2.2.2.2.2.2.2.2.2.2.2.2.2.2.2.2.2.1,())
 let v63:=(f37 p0 p2 p3)
 let v65:=([s_1]:List D49)
 let s_2:=(v50.1,v50.2.1,v50.2.2.1,(f36 v50.2.2.2.1 v63 v65),(v50.2.2.2.2.1 + 1),v50.2.2.2.2.2.1,v50.2.2.2.2.2.2.1,v50.2.2.2.2.2.2.2.1,())
 let v74:=(f38 s_2)
 let v78:=(v74.2.1 != 0)
 let m8_1:=(bif v47 then ((0:Int),(0:Int),(0:Int),([]:List D49),(0:Int),((0:Int),(0:Int),([]:List Int),()),([]:List D87),([]:List D90),()) else (bif v78 then ((0:Int),(0:Int),(0:Int),([]:List D49),(0:Int),((0:Int),(0:Int),([]:List Int),()),([]:List D87),([]:List D90),()) else v74.1))
 let m8_3:=(bif v25 then ((0:Int),(0:Int),(0:Int),([]:List D49),(0:Int),((0:Int),(0:Int),([]:List Int),()),([]:List D87),([]:List D90),()) else (bif v37 then ((0:Int),(0:Int),(0:Int),([]:List D49),(0:Int),((0:Int),(0:Int),([]:List Int),()),([]:List D87),([]:List D90),()) else m8_1))
 (((tF4 p0) ∧ ((!v18) = true → ((sI0 p0 p2) ∧ ((!v25) = true → (((!v29) = true → (tG0 p0 p2)) ∧ ((!v37) = true → ((!v47) = true → ((tO8 p0) ∧ ((tO4 p1) ∧ ((sI3 p0 p2 p3) ∧ ((tO9 v50.2.2.2.1 v63 v65) ∧ (InR (v50.2.2.2.2.1 + 1) ∧ (sI4 s_2))))))))))))),((bif v18 then ((0:Int),(0:Int),(0:Int),([]:List D49),(0:Int),((0:Int),(0:Int),([]:List Int),()),([]:List D87),([]:List D90),()) else m8_3),(bif v18 then (0:Int) else (bif v25 then (0:Int) else (bif v37 then (0:Int) else (bif v47 then (0:Int) else (bif v78 then (0:Int) else p0.2.2.2.2.1))))),(bif v18 then v16 else (bif v25 then v23 else (bif v37 then (2:Int) else (bif v47 then (3:Int) else (bif v78 then v74.2.1 else (0:Int)))))),()))
def tG7 (p0:D28) (p1:D49) (p2:Int) (p3:Int):Prop:=(f14t p0 p1 p2 p3).1
def f14 (p0:D28) (p1:D49) (p2:Int) (p3:Int):(D28 × Int × Int × Unit):=(f14t p0 p1 p2 p3).2
instance (p0:D28) (p1:D49) (p2:Int) (p3:Int):Decidable (tG7 p0 p1 p2 p3):=by
 unfold tG7 f14t
 try dsimp only
 infer_instance
def rA4:Am.Spec:=fnSpec [(0,(.val T28)),(1,(.val T49)),(2,vI),(3,vI)] (.tup (.cons (.val T28) (.cons vI (.cons vI .nl)))) [] (fun x=>tG7 x.1 x.2.1 x.2.2.1 x.2.2.2.1) (fun x=>f14 x.1 x.2.1 x.2.2.1 x.2.2.2.1) (fun _=>())
def pW5:Ctx:={ Cx tys [(9,vN1),(20,uE4),(33,tV),(34,uR7),(35,uR5),(36,uR8),(37,tV5),(38,tV6)] [] [(23,[(4,0,50,401300),(4,0,300050,401303)]),(31,[(4,0,66,401300)]),(34,[(1,13,3,0),(1,13,7,0)])] false 84 [] [65] with wants:=[(36,[0,2])] }
theorem pW6:CtxOk Tryz.prog pW5:=xW3 tys_ok rfl ⟨sP,sZ5,qZ0,rX9,rX0,rY,pA2,pA3,trivial⟩ rfl (by kernel_rfl)
theorem oF7:SpecOk Tryz.prog 14 rA4:=xY2 pW6 mixed Tryz.func14 (by kernel_rfl) (bs:=[]) (by kernel_rfl) trivial fun x=>by kernel_rfl
def f39 (p0:(List D49)) (p1 p2:Int):(List D49):=List.take (Int.toNat p1) p0 ++ List.drop (Int.toNat p2) p0
def rA5 (p0:(List D49)) (p1 p2:Int):Prop:=0 ≤ p1 ∧ p1 < p2 ∧ p2 ≤ (List.length p0:Int)
instance (p0:(List D49)) (p1 p2:Int):Decidable (rA5 p0 p1 p2):=by
  unfold rA5
  infer_instance
def oF8:List (Nat × Sh):=[(0,(.own T49 400000 true)),(1,(.val (.int .i64))),(2,(.val (.int .i64)))]
def oF9:Sh:=(.own T49 0 true)
def oG:List (Nat × Sh):=[]
def rA6:Am.Spec:=fnSpec oF8 oF9 oG (fun x=>rA5 x.1 x.2.1 x.2.2.1) (fun x=>f39 x.1 x.2.1 x.2.2.1) (fun _=>())
theorem oG0:SpecOk Tryz.prog 39 rA6:=spec_del rfl ⟨_,Tryz.func39,by kernel_rfl,by decide⟩ del_ok
abbrev wZ6:Type:=((List Int) × Int × Int × Unit)
abbrev wP3:Type:=(Int × Unit)
def uH6 (y:wZ6) (x:wP3):Prop × Bool × wP3 × Bool × Bool :=
 let a0:=y.1
 let a8:=x.1
 let v9:=(decide (a8 < y.2.2.1))
 let v16:=(y.2.1 == (nth a0 a8 (0:Int)))
 ((v9 = true → (InB a8 (len a0) ∧ ((!v16) = true → InR (a8 + 1)))),(v9 && (!v16)),((a8 + 1),()),(v9 && v16),(!v9))
def uE8 (y:wZ6) (x:wP3):Prop:=(uH6 y x).1
def tV7 (y:wZ6) (x:wP3):Bool:=(uH6 y x).2.1
def vW3 (y:wZ6) (x:wP3):wP3:=(uH6 y x).2.2.1
def sI5 (y:wZ6) (x:wP3):Bool:=(uH6 y x).2.2.2.1
def rY3 (y:wZ6) (x:wP3):Bool:=(uH6 y x).2.2.2.2
instance (y:wZ6) (x:wP3):Decidable (uE8 y x):=by
 unfold uE8 uH6
 try dsimp only
 infer_instance
def tG8 (y:wZ6) (x:wP3):Int :=
 x.1
def tG9:St → Option Out:=xP3 [(0,(.val (.sl (.int .i64)))),(1,vI),(7,vI)] [(8,vI)] tV7 vW3 uE8 fun y x=>[ex 1 (some (sI5 y x)) [(4,vI)] ((tG8 y x),()),ex 2 (some (rY3 y x)) [] ()]
def f70t (p0:(List Int)) (p1:Int):Prop × Int :=
 let y2:=(p0,p1,(len p0),())
 let x2:=((0:Int),())
 let e2:=(zC1 (tV7 y2) (vW3 y2) x2)
 ((Am.Ends (tV7 y2) (vW3 y2) (uE8 y2) x2),(bif (sI5 y2 e2) then (tG8 y2 e2) else (-1:Int)))
def rA7 (p0:(List Int)) (p1:Int):Prop:=(f70t p0 p1).1
def f70 (p0:(List Int)) (p1:Int):Int:=(f70t p0 p1).2
instance (p0:(List Int)) (p1:Int):Decidable (rA7 p0 p1):=by
 unfold rA7 f70t
 try dsimp only
 infer_instance
def rA8:Am.Spec:=fnSpec [(0,(.val (.sl (.int .i64)))),(1,vI)] vI [] (fun x=>rA7 x.1 x.2.1) (fun x=>f70 x.1 x.2.1) (fun _=>())
def rY4:Ctx:=Cx tys [] [(2,tG9)] [] false 19 [] []
theorem rY5:CtxOk Tryz.prog rY4:=xW3 tys_ok rfl trivial rfl (by kernel_rfl)
noncomputable def qR2:Code:=Tryz.f70.body.getD .skip
noncomputable def pA4:Code:=xX2 qR2 0
theorem rY6:yU9 Tryz.prog rY4 pA4:=xY1 rY5 mixed (sp:=tG9) rfl [[(4,vI)],[]] (bs:=[]) (by kernel_rfl) trivial (by kernel_rfl) (by kernel_rfl) fun y x=>by kernel_rfl
theorem oG1:SpecOk Tryz.prog 70 rA8:=xY2 rY5 mixed Tryz.func70 (by kernel_rfl) (bs:=[pA4]) (by kernel_rfl) ⟨rY6,trivial⟩ fun x=>by kernel_rfl
def f40t (p0:(List Int)) (p1:Int):Prop × Bool :=
 ((rA7 p0 p1),(decide ((f70 p0 p1) ≥ 0)))
def rA9 (p0:(List Int)) (p1:Int):Prop:=(f40t p0 p1).1
def f40 (p0:(List Int)) (p1:Int):Bool:=(f40t p0 p1).2
instance (p0:(List Int)) (p1:Int):Decidable (rA9 p0 p1):=by
 unfold rA9 f40t
 try dsimp only
 infer_instance
def rB:Am.Spec:=fnSpec [(0,(.val (.sl (.int .i64)))),(1,vI)] vB [] (fun x=>rA9 x.1 x.2.1) (fun x=>f40 x.1 x.2.1) (fun _=>())
def pW7:Ctx:=Cx tys [(70,rA8)] [] [] false 9 [] []
theorem pW8:CtxOk Tryz.prog pW7:=xW3 tys_ok rfl ⟨oG1,trivial⟩ rfl (by kernel_rfl)
theorem oG2:SpecOk Tryz.prog 40 rB:=xY2 pW8 mixed Tryz.func40 (by kernel_rfl) (bs:=[]) (by kernel_rfl) trivial fun x=>by kernel_rfl
def f16t (p0:D28) (p1:Int) (p2:Int) (p3:Int):Prop × (D28 × Int × Unit) :=
 let v18:=(f9 p0)
 let v20:=(v18 != 0)
 let v25:=(f8 p0 p1)
 let v27:=(decide (v25 < 0))
 let v31:=(f33 p0 p2)
 let v33:=(v31 != 0)
 let v38:=(f11 p0 p1)
 let v41:=(p2 == p1)
 let v46:=(bif v41 then true else (f40 v38 p2))
 let v49:=(f34 p0)
 let v51:=(v25 + 1)
 let v53:=(len v38)
 let v54:=(v51 + v53)
 let v59:=(List.drop (Int.toNat v25) (List.take (Int.toNat v54) v49.2.2.2.1))
 let s:=((nth v59 (0:Int) Z49).1,(nth v59 (0:Int) Z49).2.1,p2,(nth v59 (0:Int) Z49).2.2.2.1,(nth v59 (0:Int) Z49).2.2.2.2.1,(nth v59 (0:Int) Z49).2.2.2.2.2.1,(nth v59 (0:Int) Z49).2.2.2.2.2.2.1,(nth v59 (0:Int) Z49).2.2.2.2.2.2.2.1,(nth v59 (0:Int) Z49).2.2.2.2.2.2.2.2.1,(nth v59 (0:Int) Z49).2.2.2.2.2.2.2.2.2.1,(nth v59 (0:Int) Z49).2.2.2.2.2.2.2.2.2.2.1,(nth v59 (0:Int) Z49).2.2.2.2.2.2.2.2.2.2.2.1,(nth v59 (0:Int) Z49).2.2.2.2.2.2.2.2.2.2.2.2.1,(nth v59 (0:Int) Z49).2.2.2.2.2.2.2.2.2.2.2.2.2.1,(nth v59 (0:Int) Z49).2.2.2.2.2.2.2.2.2.2.2.2.2.2.1,(nth v59 (0:Int) Z49).2.2.2.2.2.2.2.2.2.2.2.2.2.2.2.1,(nth v59 (0:Int) Z49).2.2.2.2.2.2.2.2.2.2.2.2.2.2.2.2.1,(nth v59 (0:Int) Z49).2.2.2.2.2.2.2.2.2.2.2.2.2.2.2.2.2.1,(nth v59 (0:Int) Z49).2.2.2.2.2.2.2.2.2.2.2.2.2.2.2.2.2.2.1,(nth v59 (0:Int) Z49).2.2.2.2.2.2.2.2.2.2.2.2.2.2.2.2.2.2.2.1,(nth v59 (0:Int) Z49).2.2.2.2.2.2.2.2.2.2.2.2.2.2.2.2.2.2.2.2.1,(nth v59 (0:Int) Z49).2.2.2.2.2.2.2.2.2.2.2.2.2.2.2.2.2.2.2.2.2.1,(nth v59 (0:Int) Z49).2.2.2.2.2.2.2.2.2.2.2.2.2.2.2.2.2.2.2.2.2.2.1,(nth v59 (0:Int) Z49).2.2.2.2.2.2.2.2.2.2.2.2.2.2.2.2.2.2.2.2.2.2.2.1,(nth v59 (0:Int) Z49).2.2.2.2.2.2.2.2.2.2.2.2.2.2.2.2.2.2.2.2.2.2.2.2.1,(nth v59 (0:Int) Z49).2.2.2.2.2.2.2.2.2.2.2.2.2.2.2.2.2.2.2.2.2.2.2.2.2.1,(nth v59 (0:Int) Z49).2.2.2.2.2.2.2.2.2.2.2.2.2.2.2.2.2.2.2.2.2.2.2.2.2.2.1,(nth v59 (0:Int) Z49).2.2.2.2.2.2.2.2.2.2.2.2.2.2.2.2.2.2.2.2.2.2.2.2.2.2.2.1,())
 let l1016:=(List.set v59 (Int.toNat (0:Int)) s)
 let v69:=(f39 v49.2.2.2.1 v25 v54)
 let v72:=(decide (p3 < 0))
 let s_1:=(v49.1,v49.2.1,v49.2.2.1,v69,v49.2.2.2.2.1,v49.2.2.2.2.2.1,v49.2.2.2.2.2.2.1,v49.2.2.2.2.2.2.2.1,())
 let v80:=(bif v72 then true else (decide (p3 > (len (f20 s_1 p2)))))
 let s_2:=(v49.1,v49.2.1,v49.2.2.1,v69,v49.2.2.2.2.1,v49.2.2.2.2.2.1,v49.2.2.2.2.2.2.1,v49.2.2.2.2.2.2.2.1,())
 let v87:=(f37 s_2 p2 p3)
 let s_3:=(v49.1,v49.2.1,v49.2.2.1,(f36 v69 v87 l1016),v49.2.2.2.2.1,v49.2.2.2.2.2.1,v49.2.2.2.2.2.2.1,v49.2.2.2.2.2.2.2.1,())
 let v92:=(f38 s_3)
 let m8_1:=(bif v46 then ((0:Int),(0:Int),(0:Int),([]:List D49),(0:Int),((0:Int),(0:Int),([]:List Int),()),([]:List D87),([]:List D90),()) else (bif v80 then ((0:Int),(0:Int),(0:Int),([]:List D49),(0:Int),((0:Int),(0:Int),([]:List Int),()),([]:List D87),([]:List D90),()) else v92.1))
 let m8_3:=(bif v27 then ((0:Int),(0:Int),(0:Int),([]:List D49),(0:Int),((0:Int),(0:Int),([]:List Int),()),([]:List D87),([]:List D90),()) else (bif v33 then ((0:Int),(0:Int),(0:Int),([]:List D49),(0:Int),((0:Int),(0:Int),([]:List Int),()),([]:List D87),([]:List D90),()) else m8_1))
 (((tF4 p0) ∧ ((!v20) = true → ((vX2 p0 p1) ∧ ((!v27) = true → ((sI0 p0 p2) ∧ ((!v33) = true → ((uE6 p0 p1) ∧ (((!v41) = true → (rA9 v38 p2)) ∧ ((!v46) = true → ((tO8 p0) ∧ (InR (v25 + 1) ∧ (InR (v51 + v53) ∧ ((0 ≤ v25 ∧ v25 ≤ v54 ∧ v54 ≤ len v49.2.2.2.1) ∧ ((0 < List.length v59 ∧ (List.length v59:Int) ≤ 4294967296) ∧ (InB (0:Int) (len v59) ∧ ((0:Int) < len v59 ∧ ((rA5 v49.2.2.2.1 v25 v54) ∧ (((!v72) = true → (tG0 s_1 p2)) ∧ ((!v80) = true → ((sI3 s_2 p2 p3) ∧ ((tO9 v69 v87 l1016) ∧ (sI4 s_3)))))))))))))))))))))),((bif v20 then ((0:Int),(0:Int),(0:Int),([]:List D49),(0:Int),((0:Int),(0:Int),([]:List Int),()),([]:List D87),([]:List D90),()) else m8_3),(bif v20 then v18 else (bif v27 then (9:Int) else (bif v33 then v31 else (bif v46 then (11:Int) else (bif v80 then (2:Int) else v92.2.1))))),()))
def sI6 (p0:D28) (p1:Int) (p2:Int) (p3:Int):Prop:=(f16t p0 p1 p2 p3).1
def f16 (p0:D28) (p1:Int) (p2:Int) (p3:Int):(D28 × Int × Unit):=(f16t p0 p1 p2 p3).2
instance (p0:D28) (p1:Int) (p2:Int) (p3:Int):Decidable (sI6 p0 p1 p2 p3):=by
 unfold sI6 f16t
 try dsimp only
 infer_instance
def rB0:Am.Spec:=fnSpec [(0,(.val T28)),(1,vI),(2,vI),(3,vI)] (.tup (.cons (.val T28) (.cons vI .nl))) [] (fun x=>sI6 x.1 x.2.1 x.2.2.1 x.2.2.2.1) (fun x=>f16 x.1 x.2.1 x.2.2.1 x.2.2.2.1) (fun _=>())
def pW9:Ctx:={ Cx tys [(8,vF2),(9,vN1),(11,uE7),(20,uE4),(33,tV),(34,uR7),(36,uR8),(37,tV5),(38,tV6),(39,rA6),(40,rB)] [] [(21,[(4,0,38,1013)]),(27,[(4,0,49,401400),(4,0,300049,401403)]),(31,[(4,0,60,1016)]),(35,[(4,0,69,401400)]),(41,[(4,0,89,401400)]),(42,[(1,14,3,0),(1,14,7,0)])] false 95 [] [] with wants:=[(36,[0,2]),(39,[0])],clones:=[(41,43)] }
theorem pX:CtxOk Tryz.prog pW9:=xV0 tys_ok rfl ⟨tZ0,sP,rA3,sZ5,qZ0,rX9,rY,pA2,pA3,oG0,oG2,trivial⟩ rfl (by kernel_rfl) rfl clone_ok
theorem oG3:SpecOk Tryz.prog 16 rB0:=xY2 pX mixed Tryz.func16 (by kernel_rfl) (bs:=[]) (by kernel_rfl) trivial fun x=>by kernel_rfl
abbrev vE3:Type:=(D28 × (Int × Int × Int × (List D49) × Int × (Int × Int × (List Int) × Unit) × (List D87) × (List D90) × Unit) × Int × Int × Int × Unit)
abbrev wS2:Type:=((List (Int × Int × Unit)) × Int × Unit)
def uR9 (y:vE3) (x:wS2):Prop × Bool × wS2 :=
 let a2:=y.1
 let a8:=y.2.2.1
 let a53:=x.2.1
 let v54:=(decide (a53 < y.2.2.2.2.1))
 let v61:=(a8 + a53)
 ((v54 = true → (InR (a8 + a53) ∧ (InB v61 (len a2.2.2.2.1) ∧ (InR (a2.2.2.2.2.1 + a53) ∧ InR (a53 + 1))))),v54,((xL7 (.int .i64) (.int .i64) (nth a2.2.2.2.1 v61 Z49).1 (a2.2.2.2.2.1 + a53) x.1),(a53 + 1),()))
def vS5 (y:vE3) (x:wS2):Prop:=(uR9 y x).1
def tH (y:vE3) (x:wS2):Bool:=(uR9 y x).2.1
def vN5 (y:vE3) (x:wS2):wS2:=(uR9 y x).2.2
instance (y:vE3) (x:wS2):Decidable (vS5 y x):=by
 unfold vS5 uR9
 try dsimp only
 infer_instance
def uP3 (y:vE3) (x:wS2):(List (Int × Int × Unit)) :=
 x.1
def tP:List (Nat × Sh):=[(2,(.box T28 (.val T28))),(4,(.box T28 (.agg (.cons (.int .i64) (.cons (.int .i64) (.cons (.int .i64) (.cons (.sl T49) (.cons (.int .i64) (.cons T24 (.cons (.sl T87) (.cons (.sl T90) .nl)))))))) (.cons vI (.cons vI (.cons vI (.cons (.val (.sl T49)) (.cons vI (.cons (.agg (.cons (.int .i64) (.cons (.int .i64) (.cons (.sl (.int .i64)) .nl))) (.cons vI (.cons vI (.cons (.val (.sl (.int .i64))) .nl)))) (.cons (.val (.sl T87)) (.cons (.val (.sl T90)) .nl))))))))))),(8,vI),(9,vI),(10,(.own (xD1 (.int .i64) (.int .i64)) 1010 true))]
def uP4:St → Option Out:=xP3 [(2,(.box T28 (.val T28))),(4,(.box T28 (.agg (.cons (.int .i64) (.cons (.int .i64) (.cons (.int .i64) (.cons (.sl T49) (.cons (.int .i64) (.cons T24 (.cons (.sl T87) (.cons (.sl T90) .nl)))))))) (.cons vI (.cons vI (.cons vI (.cons (.val (.sl T49)) (.cons vI (.cons (.agg (.cons (.int .i64) (.cons (.int .i64) (.cons (.sl (.int .i64)) .nl))) (.cons vI (.cons vI (.cons (.val (.sl (.int .i64))) .nl)))) (.cons (.val (.sl T87)) (.cons (.val (.sl T90)) .nl))))))))))),(8,vI),(9,vI),(52,vI)] [(10,(.own (xD1 (.int .i64) (.int .i64)) 1010 true)),(53,vI)] tH vN5 vS5 fun y x=>[ex 2 none tP (y.1,y.2.1,y.2.2.1,y.2.2.2.1,(uP3 y x),())]
abbrev vE4:Type:=(D28 × (Int × Int × Int × (List D49) × Int × (Int × Int × (List Int) × Unit) × (List D87) × (List D90) × Unit) × Int × Int × (List (Int × Int × Unit)) × Int × Unit)
abbrev wS3:Type:=((List D49) × Int × Unit)
def uS (y:vE4) (x:wS3):Prop × Bool × wS3 :=
 let a2:=y.1
 let a8:=y.2.2.1
 let a10:=y.2.2.2.2.1
 let a12:=x.1
 let a74:=x.2.1
 let v75:=(decide (a74 < y.2.2.2.2.2.1))
 let v81:=(a8 + a74)
 let v82:=(nth a2.2.2.2.1 v81 Z49)
 let v84:=(f35 v82)
 let v88:=(Option.getD (yI6 (.int .i64) (.int .i64) v84.1 a10) (0:Int))
 let s:=(v88,v84.2.1,v84.2.2.1,v84.2.2.2.1,v84.2.2.2.2.1,v84.2.2.2.2.2.1,v84.2.2.2.2.2.2.1,v84.2.2.2.2.2.2.2.1,v84.2.2.2.2.2.2.2.2.1,v84.2.2.2.2.2.2.2.2.2.1,v84.2.2.2.2.2.2.2.2.2.2.1,v84.2.2.2.2.2.2.2.2.2.2.2.1,v84.2.2.2.2.2.2.2.2.2.2.2.2.1,v84.2.2.2.2.2.2.2.2.2.2.2.2.2.1,v84.2.2.2.2.2.2.2.2.2.2.2.2.2.2.1,v84.2.2.2.2.2.2.2.2.2.2.2.2.2.2.2.1,v84.2.2.2.2.2.2.2.2.2.2.2.2.2.2.2.2.1,v84.2.2.2.2.2.2.2.2.2.2.2.2.2.2.2.2.2.1,v84.2.2.2.2.2.2.2.2.2.2.2.2.2.2.2.2.2.2.1,v84.2.2.2.2.2.2.2.2.2.2.2.2.2.2.2.2.2.2.2.1,v84.2.2.2.2.2.2.2.2.2.2.2.2.2.2.2.2.2.2.2.2.1,v84.2.2.2.2.2.2.2.2.2.2.2.2.2.2.2.2.2.2.2.2.2.1,v84.2.2.2.2.2.2.2.2.2.2.2.2.2.2.2.2.2.2.2.2.2.2.1,v84.2.2.2.2.2.2.2.2.2.2.2.2.2.2.2.2.2.2.2.2.2.2.2.1,v84.2.2.2.2.2.2.2.2.2.2.2.2.2.2.2.2.2.2.2.2.2.2.2.2.1,v84.2.2.2.2.2.2.2.2.2.2.2.2.2.2.2.2.2.2.2.2.2.2.2.2.2.1,v84.2.2.2.2.2.2.2.2.2.2.2.2.2.2.2.2.2.2.2.2.2.2.2.2.2.2.1,v84.2.2.2.2.2.2.2.2.2.2.2.2.2.2.2.2.2.2.2.2.2.2.2.2.2.2.2.1,())
 let s_1:=(v88,v84.2.1,(Option.getD (yI6 (.int .i64) (.int .i64) v84.2.2.1 a10) (0:Int)),v84.2.2.2.1,v84.2.2.2.2.1,v84.2.2.2.2.2.1,v84.2.2.2.2.2.2.1,v84.2.2.2.2.2.2.2.1,v84.2.2.2.2.2.2.2.2.1,v84.2.2.2.2.2.2.2.2.2.1,v84.2.2.2.2.2.2.2.2.2.2.1,v84.2.2.2.2.2.2.2.2.2.2.2.1,v84.2.2.2.2.2.2.2.2.2.2.2.2.1,v84.2.2.2.2.2.2.2.2.2.2.2.2.2.1,v84.2.2.2.2.2.2.2.2.2.2.2.2.2.2.1,v84.2.2.2.2.2.2.2.2.2.2.2.2.2.2.2.1,v84.2.2.2.2.2.2.2.2.2.2.2.2.2.2.2.2.1,v84.2.2.2.2.2.2.2.2.2.2.2.2.2.2.2.2.2.1,v84.2.2.2.2.2.2.2.2.2.2.2.2.2.2.2.2.2.2.1,v84.2.2.2.2.2.2.2.2.2.2.2.2.2.2.2.2.2.2.2.1,v84.2.2.2.2.2.2.2.2.2.2.2.2.2.2.2.2.2.2.2.2.1,v84.2.2.2.2.2.2.2.2.2.2.2.2.2.2.2.2.2.2.2.2.2.1,v84.2.2.2.2.2.2.2.2.2.2.2.2.2.2.2.2.2.2.2.2.2.2.1,v84.2.2.2.2.2.2.2.2.2.2.2.2.2.2.2.2.2.2.2.2.2.2.2.1,v84.2.2.2.2.2.2.2.2.2.2.2.2.2.2.2.2.2.2.2.2.2.2.2.2.1,v84.2.2.2.2.2.2.2.2.2.2.2.2.2.2.2.2.2.2.2.2.2.2.2.2.2.1,v84.2.2.2.2.2.2.2.2.2.2.2.2.2.2.2.2.2.2.2.2.2.2.2.2.2.2.1,v84.2.2.2.2.2.2.2.2.2.2.2.2.2.2.2.2.2.2.2.2.2.2.2.2.2.2.2.1,())
 let m14:=(bif (Option.isSome (yI6 (.int .i64) (.int .i64) v84.2.2.1 a10)) then s_1 else s)
 let s_2:=(m14.1,m14.2.1,m14.2.2.1,m14.2.2.2.1,m14.2.2.2.2.1,m14.2.2.2.2.2.1,m14.2.2.2.2.2.2.1,m14.2.2.2.2.2.2.2.1,m14.2.2.2.2.2.2.2.2.1,m14.2.2.2.2.2.2.2.2.2.1,m14.2.2.2.2.2.2.2.2.2.2.1,m14.2.2.2.2.2.2.2.2.2.2.2.1,m14.2.2.2.2.2.2.2.2.2.2.2.2.1,m14.2.2.2.2.2.2.2.2.2.2.2.2.2.1,m14.2.2.2.2.2.2.2.2.2.2.2.2.2.2.1,m14.2.2.2.2.2.2.2.2.2.2.2.2.2.2.2.1,m14.2.2.2.2.2.2.2.2.2.2.2.2.2.2.2.2.1,m14.2.2.2.2.2.2.2.2.2.2.2.2.2.2.2.2.2.1,m14.2.2.2.2.2.2.2.2.2.2.2.2.2.2.2.2.2.2.1,m14.2.2.2.2.2.2.2.2.2.2.2.2.2.2.2.2.2.2.2.1,m14.2.2.2.2.2.2.2.2.2.2.2.2.2.2.2.2.2.2.2.2.1,m14.2.2.2.2.2.2.2.2.2.2.2.2.2.2.2.2.2.2.2.2.2.1,m14.2.2.2.2.2.2.2.2.2.2.2.2.2.2.2.2.2.2.2.2.2.2.1,m14.2.2.2.2.2.2.2.2.2.2.2.2.2.2.2.2.2.2.2.2.2.2.2.1,m14.2.2.2.2.2.2.2.2.2.2.2.2.2.2.2.2.2.2.2.2.2.2.2.2.1,m14.2.2.2.2.2.2.2.2.2.2.2.2.2.2.2.2.2.2.2.2.2.2.2.2.2.1,(Option.getD (yI6 (.int .i64) (.int .i64) m14.2.2.2.2.2.2.2.2.2.2.2.2.2.2.2.2.2.2.2.2.2.2.2.2.2.2.1 a10) (0:Int)),m14.2.2.2.2.2.2.2.2.2.2.2.2.2.2.2.2.2.2.2.2.2.2.2.2.2.2.2.1,())
 let l1012:=(List.set a12 (Int.toNat a74) (bif (bif (Option.isSome (yI6 (.int .i64) (.int .i64) m14.2.2.2.2.2.2.2.2.2.2.2.2.2.2.2.2.2.2.2.2.2.2.2.2.2.2.1 a10)) then (m14.2.1 == 10) else false) then s_2 else m14))
 ((v75 = true → (InR (a8 + a74) ∧ (InB v81 (len a2.2.2.2.1) ∧ ((tO4 v82) ∧ (InB a74 (len a12) ∧ (a74 < len a12 ∧ InR (a74 + 1))))))),v75,(l1012,(a74 + 1),()))
def vS6 (y:vE4) (x:wS3):Prop:=(uS y x).1
def tH0 (y:vE4) (x:wS3):Bool:=(uS y x).2.1
def vN6 (y:vE4) (x:wS3):wS3:=(uS y x).2.2
instance (y:vE4) (x:wS3):Decidable (vS6 y x):=by
 unfold vS6 uS
 try dsimp only
 infer_instance
def uP5 (y:vE4) (x:wS3):(List D49) :=
 x.1
def tP0:List (Nat × Sh):=[(2,(.box T28 (.val T28))),(4,(.box T28 (.agg (.cons (.int .i64) (.cons (.int .i64) (.cons (.int .i64) (.cons (.sl T49) (.cons (.int .i64) (.cons T24 (.cons (.sl T87) (.cons (.sl T90) .nl)))))))) (.cons vI (.cons vI (.cons vI (.cons (.val (.sl T49)) (.cons vI (.cons (.agg (.cons (.int .i64) (.cons (.int .i64) (.cons (.sl (.int .i64)) .nl))) (.cons vI (.cons vI (.cons (.val (.sl (.int .i64))) .nl)))) (.cons (.val (.sl T87)) (.cons (.val (.sl T90)) .nl))))))))))),(8,vI),(9,vI),(12,(.own T49 1012 true))]
def uP6:St → Option Out:=xP3 [(2,(.box T28 (.val T28))),(4,(.box T28 (.agg (.cons (.int .i64) (.cons (.int .i64) (.cons (.int .i64) (.cons (.sl T49) (.cons (.int .i64) (.cons T24 (.cons (.sl T87) (.cons (.sl T90) .nl)))))))) (.cons vI (.cons vI (.cons vI (.cons (.val (.sl T49)) (.cons vI (.cons (.agg (.cons (.int .i64) (.cons (.int .i64) (.cons (.sl (.int .i64)) .nl))) (.cons vI (.cons vI (.cons (.val (.sl (.int .i64))) .nl)))) (.cons (.val (.sl T87)) (.cons (.val (.sl T90)) .nl))))))))))),(8,vI),(9,vI),(10,(.own (xD1 (.int .i64) (.int .i64)) 1010 true)),(73,vI)] [(12,(.own T49 1012 true)),(74,vI)] tH0 vN6 vS6 fun y x=>[ex 4 none tP0 (y.1,y.2.1,y.2.2.1,y.2.2.2.1,(uP5 y x),())]
def f17t (p0:D28) (p1:Int):Prop × ((Int × Int × Int × (List D49) × Int × D24 × (List D87) × (List D90) × Unit) × Int × Int × Unit) :=
 let v21:=(f9 p0)
 let v23:=(v21 != 0)
 let v28:=(f8 p0 p1)
 let v30:=(decide (v28 < 0))
 let v35:=(len (f11 p0 p1))
 let v36:=(1 + v35)
 let v39:=(len p0.2.2.2.1)
 let v42:=(decide ((v39 + v36) > 64))
 let v49:=(bif v42 then true else (decide ((p0.2.2.2.2.1 + v36) > 1073741824)))
 let y12:=(p0,((0:Int),(0:Int),(0:Int),([]:List D49),(0:Int),((0:Int),(0:Int),([]:List Int),()),([]:List D87),([]:List D90),()),v28,v36,v36,())
 let x12:=(([]:List (Int × Int × Unit)),(0:Int),())
 let v71:=(List.replicate (Int.toNat v36) Z49)
 let y18:=(p0,((0:Int),(0:Int),(0:Int),([]:List D49),(0:Int),((0:Int),(0:Int),([]:List Int),()),([]:List D87),([]:List D90),()),v28,v36,(uP3 y12 (zC1 (tH y12) (vN5 y12) x12)),(len v71),())
 let x18:=(v71,(0:Int),())
 let r18_4_0:=(uP5 y18 (zC1 (tH0 y18) (vN6 y18) x18))
 let v121:=(f34 p0)
 let v126:=(v28 + v36)
 let m4_21:=(bif v23 then ((0:Int),(0:Int),([]:List Int),()) else (bif v30 then ((0:Int),(0:Int),([]:List Int),()) else (bif v49 then ((0:Int),(0:Int),([]:List Int),()) else v121.2.2.2.2.2.1)))
 let s_7:=((bif v23 then (0:Int) else (bif v30 then (0:Int) else (bif v49 then (0:Int) else v121.1))),(bif v23 then (0:Int) else (bif v30 then (0:Int) else (bif v49 then (0:Int) else v121.2.1))),(bif v23 then (0:Int) else (bif v30 then (0:Int) else (bif v49 then (0:Int) else v121.2.2.1))),(bif v23 then [] else (bif v30 then [] else (bif v49 then [] else (f36 v121.2.2.2.1 v126 r18_4_0)))),(bif v23 then (0:Int) else (bif v30 then (0:Int) else (bif v49 then (0:Int) else (v121.2.2.2.2.1 + v36)))),m4_21,(bif v23 then [] else (bif v30 then [] else (bif v49 then [] else v121.2.2.2.2.2.2.1))),(bif v23 then [] else (bif v30 then [] else (bif v49 then [] else v121.2.2.2.2.2.2.2.1))),())
 (((tF4 p0) ∧ ((!v23) = true → ((vX2 p0 p1) ∧ ((!v30) = true → ((uE6 p0 p1) ∧ (InR (1 + v35) ∧ (InR (v39 + v36) ∧ (((!v42) = true → InR (p0.2.2.2.2.1 + v36)) ∧ ((!v49) = true → ((Am.Ends (tH y12) (vN5 y12) (vS5 y12) x12) ∧ ((0 ≤ v36 ∧ v36 ≤ v36 ∧ v36 ≤ 4294967296) ∧ ((Am.Ends (tH0 y18) (vN6 y18) (vS6 y18) x18) ∧ ((tO8 p0) ∧ (InR (v28 + v36) ∧ ((tO9 v121.2.2.2.1 v126 r18_4_0) ∧ InR (v121.2.2.2.2.1 + v36)))))))))))))))),(s_7,(bif v23 then (0:Int) else (bif v30 then (0:Int) else (bif v49 then (0:Int) else p0.2.2.2.2.1))),(bif v23 then v21 else (bif v30 then (9:Int) else (bif v49 then (3:Int) else (0:Int)))),()))
def rB1 (p0:D28) (p1:Int):Prop:=(f17t p0 p1).1
def f17 (p0:D28) (p1:Int):((Int × Int × Int × (List D49) × Int × D24 × (List D87) × (List D90) × Unit) × Int × Int × Unit):=(f17t p0 p1).2
instance (p0:D28) (p1:Int):Decidable (rB1 p0 p1):=by
 unfold rB1 f17t
 try dsimp only
 infer_instance
def rB2:Am.Spec:=fnSpec [(0,(.val T28)),(1,vI)] (.tup (.cons (.agg (.cons (.int .i64) (.cons (.int .i64) (.cons (.int .i64) (.cons (.sl T49) (.cons (.int .i64) (.cons T24 (.cons (.sl T87) (.cons (.sl T90) .nl)))))))) (.cons vI (.cons vI (.cons vI (.cons (.own T49 0 true) (.cons vI (.cons (.val T24) (.cons (.val (.sl T87)) (.cons (.own T90 3 true) .nl))))))))) (.cons vI (.cons vI .nl)))) [] (fun x=>rB1 x.1 x.2.1) (fun x=>f17 x.1 x.2.1) (fun _=>())
def sR1:Ctx:={ Cx tys [(8,vF2),(9,vN1),(11,uE7),(34,uR7),(35,uR5),(36,uR8)] [(12,uP4),(18,uP6)] [(21,[(4,0,51,1010)]),(33,[(4,0,71,1012)]),(61,[(4,0,121,401900),(4,0,300121,401903)]),(63,[(4,0,128,401900)]),(67,[(4,0,401900,0),(4,0,401903,3)])] false 138 [] [71] with wants:=[(36,[0,2])],maps:=maps }
theorem sR2:CtxOk Tryz.prog sR1:=xW3 tys_ok (by kernel_rfl) ⟨tZ0,sP,rA3,rX9,rX0,rY,trivial⟩ rfl (by kernel_rfl)
noncomputable def rB3:Code:=Tryz.f17.body.getD .skip
noncomputable def rY7:Code:=xX2 rB3 0
theorem rJ9:yU9 Tryz.prog sR1 rY7:=xY1 sR2 mixed (sp:=uP4) rfl [tP] (bs:=[]) (by kernel_rfl) trivial (by kernel_rfl) (by kernel_rfl) fun y x=>by kernel_rfl
noncomputable def rY8:Code:=xX2 rB3 1
theorem rK:yU9 Tryz.prog sR1 rY8:=xY1 sR2 mixed (sp:=uP6) rfl [tP0] (bs:=[]) (by kernel_rfl) trivial (by kernel_rfl) (by kernel_rfl) fun y x=>by kernel_rfl
theorem oG4:SpecOk Tryz.prog 17 rB2:=xY2 sR2 mixed Tryz.func17 (by kernel_rfl) (bs:=[rY7,rY8]) (by kernel_rfl) ⟨rJ9,rK,trivial⟩ fun x=>by kernel_rfl
def f31t (p0:Int) (p1:Int) (p2:Int):Prop × (D28 × Int × Unit) :=
 let s_1:=(p0,p1,p2,([]:List D49),(1:Int),((0:Int),(0:Int),([]:List Int),()),([]:List D87),([]:List D90),())
 let v15:=(f23 s_1)
 let v17:=(v15 != 0)
 let s_3:=((bif v17 then (0:Int) else p0),(bif v17 then (0:Int) else p1),(bif v17 then (0:Int) else p2),([]:List D49),(bif v17 then (0:Int) else (1:Int)),((bif v17 then (0:Int) else (0:Int)),(bif v17 then (0:Int) else (0:Int)),([]:List Int),()),([]:List D87),([]:List D90),())
 ((uT6 s_1),(s_3,(bif v17 then v15 else (0:Int)),()))
def rB4 (p0:Int) (p1:Int) (p2:Int):Prop:=(f31t p0 p1 p2).1
def f31 (p0:Int) (p1:Int) (p2:Int):(D28 × Int × Unit):=(f31t p0 p1 p2).2
instance (p0:Int) (p1:Int) (p2:Int):Decidable (rB4 p0 p1 p2):=by
 unfold rB4 f31t
 try dsimp only
 infer_instance
def rB5:Am.Spec:=fnSpec [(0,vI),(1,vI),(2,vI)] (.tup (.cons (.val T28) (.cons vI .nl))) [] (fun x=>rB4 x.1 x.2.1 x.2.2.1) (fun x=>f31 x.1 x.2.1 x.2.2.1) (fun _=>())
def pX0:Ctx:=Cx tys [(23,tQ6)] [] [] false 21 [] []
theorem pX1:CtxOk Tryz.prog pX0:=xW3 tys_ok rfl ⟨qW9,trivial⟩ rfl (by kernel_rfl)
theorem oG5:SpecOk Tryz.prog 31 rB5:=xY2 pX1 mixed Tryz.func31 (by kernel_rfl) (bs:=[]) (by kernel_rfl) trivial fun x=>by kernel_rfl
abbrev vS7:Type:=(D28 × Unit)
abbrev wZ7:Type:=(Int × Int × Unit)
def tV8 (y:vS7) (x:wZ7):Prop × Bool × wZ7 :=
 let a2:=y.1
 let a5:=x.1
 let a6:=x.2.1
 let v23:=((nth a2.2.2.2.1 a5 Z49).2.2.1 != 0)
 let v28:=(nth a2.2.2.2.1 a5 Z49)
 ((InB a5 (len a2.2.2.2.1) ∧ (v23 = true → (InB a5 (len a2.2.2.2.1) ∧ ((vX2 a2 v28.2.2.1) ∧ InR (a6 + 1))))),v23,((f8 a2 v28.2.2.1),(a6 + 1),()))
def uE9 (y:vS7) (x:wZ7):Prop:=(tV8 y x).1
def tV9 (y:vS7) (x:wZ7):Bool:=(tV8 y x).2.1
def vW4 (y:vS7) (x:wZ7):wZ7:=(tV8 y x).2.2
instance (y:vS7) (x:wZ7):Decidable (uE9 y x):=by
 unfold uE9 tV8
 try dsimp only
 infer_instance
def tH1 (y:vS7) (x:wZ7):Int :=
 x.2.1
def tH2:St → Option Out:=xP3 [(2,(.box T28 (.val T28)))] [(5,vI),(6,vI)] tV9 vW4 uE9 fun y x=>[ex 2 none [(6,vI)] ((tH1 y x),())]
def f32t (p0:D28) (p1:Int):Prop × Int :=
 let v9:=(f8 p0 p1)
 let v11:=(decide (v9 < 0))
 let v16:=(bif v11 then true else ((f9 p0) != 0))
 let y5:=(p0,())
 let x5:=(v9,(1:Int),())
 (((vX2 p0 p1) ∧ (((!v11) = true → (tF4 p0)) ∧ ((!v16) = true → (Am.Ends (tV9 y5) (vW4 y5) (uE9 y5) x5)))),(bif v16 then (0:Int) else (tH1 y5 (zC1 (tV9 y5) (vW4 y5) x5))))
def rB6 (p0:D28) (p1:Int):Prop:=(f32t p0 p1).1
def f32 (p0:D28) (p1:Int):Int:=(f32t p0 p1).2
instance (p0:D28) (p1:Int):Decidable (rB6 p0 p1):=by
 unfold rB6 f32t
 try dsimp only
 infer_instance
def rB7:Am.Spec:=fnSpec [(0,(.val T28)),(1,vI)] vI [] (fun x=>rB6 x.1 x.2.1) (fun x=>f32 x.1 x.2.1) (fun _=>())
def rY9:Ctx:=Cx tys [(8,vF2),(9,vN1)] [(5,tH2)] [] false 35 [] []
theorem rZ:CtxOk Tryz.prog rY9:=xW3 tys_ok rfl ⟨tZ0,sP,trivial⟩ rfl (by kernel_rfl)
noncomputable def qR3:Code:=Tryz.f32.body.getD .skip
noncomputable def pA5:Code:=xX2 qR3 0
theorem rZ0:yU9 Tryz.prog rY9 pA5:=xY1 rZ mixed (sp:=tH2) rfl [[(6,vI)]] (bs:=[]) (by kernel_rfl) trivial (by kernel_rfl) (by kernel_rfl) fun y x=>by kernel_rfl
theorem oG6:SpecOk Tryz.prog 32 rB7:=xY2 rZ mixed Tryz.func32 (by kernel_rfl) (bs:=[pA5]) (by kernel_rfl) ⟨rZ0,trivial⟩ fun x=>by kernel_rfl
def f10t :Prop × Bool :=
 let s:=((5:Int),(0:Int),(0:Int),(9:Int),())
 let v15:=(f31 (4:Int) (4:Int) (0:Int))
 let v34:=(bif (bif (bif (v15.2.1 != 0) then true else (v15.1.1 != 4)) then true else (v15.1.2.1 != 4)) then true else (v15.1.2.2.2.2.1 != 1))
 let s_4:=((0:Int),(1:Int),(0:Int),([103]:List UInt8),false,false,false,(65535:Int),(0:Int),((0:Int),(0:Int),([]:List Int),()),Z37,(0:Int),((0:Int),(0:Int),([]:List D42),()),Z42,(0:Int),([]:List Int),(0:Int),([]:List D122),([]:List D128),(0:Int),(0:Int),(0:Int),(0:Int),([]:List UInt8),(0:Int),(0:Int),(0:Int),((0:Int),(0:Int),(0:Int),([]:List D125),()),())
 let v38:=(f14 v15.1 s_4 (0:Int) (0:Int))
 let v47:=(bif (v38.2.2.1 != 0) then true else (v38.2.1 != 1))
 let s_8:=((0:Int),(3:Int),(0:Int),([102]:List UInt8),false,false,false,(65535:Int),(0:Int),((0:Int),(0:Int),([]:List Int),()),Z37,(0:Int),((0:Int),(0:Int),([]:List D42),()),s,(0:Int),([]:List Int),(0:Int),([]:List D122),([]:List D128),(0:Int),(0:Int),(0:Int),(0:Int),([]:List UInt8),(0:Int),(0:Int),(0:Int),((0:Int),(0:Int),(0:Int),([]:List D125),()),())
 let v51:=(f14 v38.1 s_8 (1:Int) (0:Int))
 let v60:=(bif (v51.2.2.1 != 0) then true else (v51.2.1 != 2))
 let s_12:=((0:Int),(3:Int),(0:Int),([102]:List UInt8),false,false,false,(65535:Int),(0:Int),((0:Int),(0:Int),([]:List Int),()),Z37,(0:Int),((0:Int),(0:Int),([]:List D42),()),s,(0:Int),([]:List Int),(0:Int),([]:List D122),([]:List D128),(0:Int),(0:Int),(0:Int),(0:Int),([]:List UInt8),(0:Int),(0:Int),(0:Int),((0:Int),(0:Int),(0:Int),([]:List D125),()),())
 let v64:=(f14 v51.1 s_12 (0:Int) (0:Int))
 let v73:=(bif (v64.2.2.1 != 0) then true else (v64.2.1 != 3))
 let v76:=(f13 v64.1)
 let v77:=([(3:Int),(1:Int),(2:Int)]:List Int)
 let v80:=(bif v73 then true else (!(f12 v76 v77)))
 let v83:=(f20 v64.1 (0:Int))
 let v84:=([(3:Int),(1:Int)]:List Int)
 let v87:=(bif v80 then true else (!(f12 v83 v84)))
 let v92:=(bif v87 then true else ((f32 v64.1 (2:Int)) != 2))
 let v97:=(bif v92 then true else ((f9 v64.1) != 0))
 let v100:=(f16 v64.1 (3:Int) (1:Int) (1:Int))
 let v104:=(v100.2.1 != 0)
 let v107:=(f13 v100.1)
 let v108:=([(1:Int),(2:Int),(3:Int)]:List Int)
 let v111:=(bif v104 then true else (!(f12 v107 v108)))
 let v118:=((f16 v64.1 (1:Int) (1:Int) (0:Int)).2.1 != 11)
 let s_16:=((0:Int),(3:Int),(0:Int),([102]:List UInt8),false,false,true,(65535:Int),(0:Int),((0:Int),(0:Int),([]:List Int),()),Z37,(0:Int),((0:Int),(0:Int),([]:List D42),()),s,(0:Int),([]:List Int),(0:Int),([]:List D122),([]:List D128),(0:Int),(0:Int),(0:Int),(0:Int),([]:List UInt8),(0:Int),(0:Int),(0:Int),((0:Int),(0:Int),(0:Int),([]:List D125),()),())
 let v128:=((f14 v64.1 s_16 (0:Int) (0:Int)).2.2.1 != 14)
 let v131:=(f17 v64.1 (1:Int))
 let v140:=(bif (v131.2.2.1 == 0) then (v131.2.1 == 4) else false)
 let s_17:=(v131.1.1,v131.1.2.1,v131.1.2.2.1,v131.1.2.2.2.1,v131.1.2.2.2.2.1,v131.1.2.2.2.2.2.1,v131.1.2.2.2.2.2.2.1,v131.1.2.2.2.2.2.2.2.1,())
 let v143:=(f13 s_17)
 let v144:=([(3:Int),(1:Int),(2:Int),(4:Int),(5:Int)]:List Int)
 let v151:=(bif (bif v140 then (f12 v143 v144) else false) then (v131.1.2.2.2.2.1 == 6) else false)
 let m0_4:=(bif v60 then false else (bif v97 then false else (bif v111 then false else (bif v118 then false else (bif v128 then false else (bif v151 then (((nth v131.1.2.2.2.1 (4:Int) Z49).2.2.1) == 4) else false))))))
 (((rB4 (4:Int) (4:Int) (0:Int)) ∧ ((!v34) = true → ((tG7 v15.1 s_4 (0:Int) (0:Int)) ∧ ((!v47) = true → ((tG7 v38.1 s_8 (1:Int) (0:Int)) ∧ ((!v60) = true → ((tG7 v51.1 s_12 (0:Int) (0:Int)) ∧ (((!v73) = true → (uP v64.1)) ∧ (((!v73) = true → (uE2 v76 v77)) ∧ (((!v80) = true → (tG0 v64.1 (0:Int))) ∧ (((!v80) = true → (uE2 v83 v84)) ∧ (((!v87) = true → (rB6 v64.1 (2:Int))) ∧ (((!v92) = true → (tF4 v64.1)) ∧ ((!v97) = true → ((sI6 v64.1 (3:Int) (1:Int) (1:Int)) ∧ (((!v104) = true → (uP v100.1)) ∧ (((!v104) = true → (uE2 v107 v108)) ∧ ((!v111) = true → ((sI6 v64.1 (1:Int) (1:Int) (0:Int)) ∧ ((!v118) = true → ((tG7 v64.1 s_16 (0:Int) (0:Int)) ∧ ((!v128) = true → ((rB1 v64.1 (1:Int)) ∧ ((v140 = true → (uP s_17)) ∧ ((v140 = true → (uE2 v143 v144)) ∧ ((v151 = true → InB (4:Int) (len v131.1.2.2.2.1)) ∧ (v151 = true → (4:Int) < len v131.1.2.2.2.1))))))))))))))))))))))))))),(bif v34 then false else (bif v47 then false else m0_4)))
def tP1 :Prop:=(f10t).1
def f10 :Bool:=(f10t).2
instance :Decidable (tP1):=by
 unfold tP1 f10t
 try dsimp only
 infer_instance
def rB8:Am.Spec:=fnSpec [] vB [] (fun x=>tP1 ) (fun x=>f10 ) (fun _=>())
def pX2:Ctx:=Cx tys [(9,vN1),(12,tU5),(13,tU7),(14,rA4),(16,rB0),(17,rB2),(20,uE4),(31,rB5),(32,rB7)] [] [(51,[(4,0,131,400900),(4,0,300131,400903)])] false 160 [] []
theorem pX3:CtxOk Tryz.prog pX2:=xW3 tys_ok rfl ⟨sP,qY7,qY9,oF7,oG3,oG4,sZ5,oG5,oG6,trivial⟩ rfl (by kernel_rfl)
theorem oG7:SpecOk Tryz.prog 10 rB8:=xY2 pX3 mixed Tryz.func10 (by kernel_rfl) (bs:=[]) (by kernel_rfl) trivial fun x=>by kernel_rfl
abbrev vN7:Type:=(D28 × Int × (List Int) × Int × Unit)
abbrev vA5:Type:=(Int × Unit)
def tP2 (y:vN7) (x:vA5):Prop × Bool × vA5 × Bool × Bool :=
 let a2:=y.1
 let a5:=y.2.1
 let a47:=y.2.2.1
 let a49:=x.1
 let v50:=(decide (a49 < y.2.2.2.1))
 let v57:=(a5 + 1)
 let v59:=(v57 + a49)
 let v64:=((nth a2.2.2.2.1 v59 Z49).1 != (nth a47 a49 (0:Int)))
 ((v50 = true → (InB a49 (len a47) ∧ (InR (a5 + 1) ∧ (InR (v57 + a49) ∧ (InB v59 (len a2.2.2.2.1) ∧ ((!v64) = true → InR (a49 + 1))))))),(v50 && (!v64)),((a49 + 1),()),(v50 && v64),(!v50))
def uS0 (y:vN7) (x:vA5):Prop:=(tP2 y x).1
def tH3 (y:vN7) (x:vA5):Bool:=(tP2 y x).2.1
def vE5 (y:vN7) (x:vA5):vA5:=(tP2 y x).2.2.1
def tW (y:vN7) (x:vA5):Bool:=(tP2 y x).2.2.2.1
def rB9 (y:vN7) (x:vA5):Bool:=(tP2 y x).2.2.2.2
instance (y:vN7) (x:vA5):Decidable (uS0 y x):=by
 unfold uS0 tP2
 try dsimp only
 infer_instance
def tP3 (y:vN7) (x:vA5):Bool :=
 false
def tP4:St → Option Out:=xP3 [(2,(.box T28 (.val T28))),(5,vI),(47,(.own (.int .i64) 1006 false)),(48,vI)] [(49,vI)] tH3 vE5 uS0 fun y x=>[ex 1 (some (tW y x)) [(4,vB)] ((tP3 y x),()),ex 2 (some (rB9 y x)) [] ()]
def f3t (p0:D28) (p1:Int):Prop × Bool :=
 let v11:=(f8 p0 p1)
 let v25:=(bif (bif ((f9 p0) != 0) then true else (decide (v11 < 0))) then true else (decide (v11 ≥ (len p0.2.2.2.1))))
 let v29:=(f11 p0 p1)
 let v31:=(f11 p0 (0:Int))
 let v33:=(f13 p0)
 let v35:=(!(f12 v31 v33))
 let v38:=(v11 + 1)
 let v40:=(len v29)
 let v46:=(bif v35 then true else (decide ((v38 + v40) > (len p0.2.2.2.1))))
 let y8:=(p0,v11,v29,(len v29),())
 let x8:=((0:Int),())
 let e8:=(zC1 (tH3 y8) (vE5 y8) x8)
 (((vX2 p0 p1) ∧ ((tF4 p0) ∧ ((v25 = true → tP1) ∧ ((!v25) = true → ((uE6 p0 p1) ∧ ((uE6 p0 (0:Int)) ∧ ((uP p0) ∧ ((uE2 v31 v33) ∧ (((!v35) = true → InR (v11 + 1)) ∧ (((!v35) = true → InR (v38 + v40)) ∧ ((!v46) = true → ((Am.Ends (tH3 y8) (vE5 y8) (uS0 y8) x8) ∧ ((rB9 y8 e8) = true → tP1))))))))))))),(bif v25 then f10 else (bif v46 then false else (bif (tW y8 e8) then (tP3 y8 e8) else f10))))
def f3_ok (p0:D28) (p1:Int):Prop:=(f3t p0 p1).1
def f3 (p0:D28) (p1:Int):Bool:=(f3t p0 p1).2
instance (p0:D28) (p1:Int):Decidable (f3_ok p0 p1):=by
 unfold f3_ok f3t
 try dsimp only
 infer_instance
def pX4:Am.Spec:=fnSpec [(0,(.val T28)),(1,vI)] vB [] (fun x=>f3_ok x.1 x.2.1) (fun x=>f3 x.1 x.2.1) (fun _=>())
def pA6:Ctx:=Cx tys [(8,vF2),(9,vN1),(10,rB8),(11,uE7),(12,tU5),(13,tU7)] [(8,tP4)] [(9,[(4,0,29,1006)])] false 67 [] []
theorem pA7:CtxOk Tryz.prog pA6:=xW3 tys_ok rfl ⟨tZ0,sP,oG7,rA3,qY7,qY9,trivial⟩ rfl (by kernel_rfl)
noncomputable def pX5:Code:=Tryz.f3.body.getD .skip
noncomputable def oG8:Code:=xX2 pX5 0
theorem qR4:yU9 Tryz.prog pA6 oG8:=xY1 pA7 mixed (sp:=tP4) rfl [[(4,vB)],[]] (bs:=[]) (by kernel_rfl) trivial (by kernel_rfl) (by kernel_rfl) fun y x=>by kernel_rfl
theorem f3_is:SpecOk Tryz.prog 3 pX4:=xY2 pA7 mixed Tryz.func3 (by kernel_rfl) (bs:=[oG8]) (by kernel_rfl) ⟨qR4,trivial⟩ fun x=>by kernel_rfl
abbrev vH7:Type:=((List Int) × (List Int) × Int × Unit)
abbrev wT9:Type:=(Int × Unit)
def tH4 (y:vH7) (x:wT9):Prop × Bool × wT9 × Bool × Bool :=
 let a0:=y.1
 let a1:=y.2.1
 let a13:=x.1
 let v14:=(decide (a13 < y.2.2.1))
 let v24:=((nth a0 a13 (0:Int)) != (nth a1 a13 (0:Int)))
 ((v14 = true → (InB a13 (len a0) ∧ (InB a13 (len a1) ∧ ((!v24) = true → InR (a13 + 1))))),(v14 && (!v24)),((a13 + 1),()),(v14 && v24),(!v14))
def tH5 (y:vH7) (x:wT9):Prop:=(tH4 y x).1
def rC (y:vH7) (x:wT9):Bool:=(tH4 y x).2.1
def tH6 (y:vH7) (x:wT9):wT9:=(tH4 y x).2.2.1
def rZ1 (y:vH7) (x:wT9):Bool:=(tH4 y x).2.2.2.1
instance (y:vH7) (x:wT9):Decidable (tH5 y x):=by
 unfold tH5 tH4
 try dsimp only
 infer_instance
def sR3 (y:vH7) (x:wT9):Bool :=
 false
def f44t (p0:(List Int)) (p1:(List Int)):Prop × Bool :=
 let v10:=((len p0) != (len p1))
 let y4:=(p0,p1,(len p0),())
 let x4:=((0:Int),())
 let e4:=(zC1 (rC y4) (tH6 y4) x4)
 (((!v10) = true → (Am.Ends (rC y4) (tH6 y4) (tH5 y4) x4)),(bif v10 then false else (bif (rZ1 y4 e4) then (sR3 y4 e4) else true)))
def rC0 (p0:(List Int)) (p1:(List Int)):Prop:=(f44t p0 p1).1
def f44 (p0:(List Int)) (p1:(List Int)):Bool:=(f44t p0 p1).2
instance (p0:(List Int)) (p1:(List Int)):Decidable (rC0 p0 p1):=by
 unfold rC0 f44t
 try dsimp only
 infer_instance
abbrev vH8:Type:=((List D42) × (List D42) × Int × Unit)
abbrev wU:Type:=(Int × Unit)
def tH7 (y:vH8) (x:wU):Prop × Bool × wU × Bool × Bool :=
 let a0:=y.1
 let a1:=y.2.1
 let a13:=x.1
 let v14:=(decide (a13 < y.2.2.1))
 let v24:=(!(Ty.eqb T42 (nth a0 a13 Z42) (nth a1 a13 Z42)))
 ((v14 = true → (InB a13 (len a0) ∧ (InB a13 (len a1) ∧ ((!v24) = true → InR (a13 + 1))))),(v14 && (!v24)),((a13 + 1),()),(v14 && v24),(!v14))
def tH8 (y:vH8) (x:wU):Prop:=(tH7 y x).1
def rC1 (y:vH8) (x:wU):Bool:=(tH7 y x).2.1
def tH9 (y:vH8) (x:wU):wU:=(tH7 y x).2.2.1
def rZ2 (y:vH8) (x:wU):Bool:=(tH7 y x).2.2.2.1
instance (y:vH8) (x:wU):Decidable (tH8 y x):=by
 unfold tH8 tH7
 try dsimp only
 infer_instance
def sR4 (y:vH8) (x:wU):Bool :=
 false
def f96t (p0:(List D42)) (p1:(List D42)):Prop × Bool :=
 let v10:=((len p0) != (len p1))
 let y4:=(p0,p1,(len p0),())
 let x4:=((0:Int),())
 let e4:=(zC1 (rC1 y4) (tH9 y4) x4)
 (((!v10) = true → (Am.Ends (rC1 y4) (tH9 y4) (tH8 y4) x4)),(bif v10 then false else (bif (rZ2 y4 e4) then (sR4 y4 e4) else true)))
def rZ3 (p0:(List D42)) (p1:(List D42)):Prop:=(f96t p0 p1).1
def f96 (p0:(List D42)) (p1:(List D42)):Bool:=(f96t p0 p1).2
instance (p0:(List D42)) (p1:(List D42)):Decidable (rZ3 p0 p1):=by
 unfold rZ3 f96t
 try dsimp only
 infer_instance
def f72t (p0:D40) (p1:D40):Prop × Bool :=
 let v16:=(bif (p0.1 == p1.1) then (p0.2.1 == p1.2.1) else false)
 ((v16 = true → (rZ3 p0.2.2.1 p1.2.2.1)),(bif v16 then (f96 p0.2.2.1 p1.2.2.1) else false))
def rZ4 (p0:D40) (p1:D40):Prop:=(f72t p0 p1).1
def f72 (p0:D40) (p1:D40):Bool:=(f72t p0 p1).2
instance (p0:D40) (p1:D40):Decidable (rZ4 p0 p1):=by
 unfold rZ4 f72t
 try dsimp only
 infer_instance
abbrev vH9:Type:=((List D122) × (List D122) × Int × Unit)
abbrev wU0:Type:=(Int × Unit)
def tI (y:vH9) (x:wU0):Prop × Bool × wU0 × Bool × Bool :=
 let a0:=y.1
 let a1:=y.2.1
 let a13:=x.1
 let v14:=(decide (a13 < y.2.2.1))
 let v24:=(!(Ty.eqb T122 (nth a0 a13 Z122) (nth a1 a13 Z122)))
 ((v14 = true → (InB a13 (len a0) ∧ (InB a13 (len a1) ∧ ((!v24) = true → InR (a13 + 1))))),(v14 && (!v24)),((a13 + 1),()),(v14 && v24),(!v14))
def tI0 (y:vH9) (x:wU0):Prop:=(tI y x).1
def rC2 (y:vH9) (x:wU0):Bool:=(tI y x).2.1
def tI1 (y:vH9) (x:wU0):wU0:=(tI y x).2.2.1
def rZ5 (y:vH9) (x:wU0):Bool:=(tI y x).2.2.2.1
instance (y:vH9) (x:wU0):Decidable (tI0 y x):=by
 unfold tI0 tI
 try dsimp only
 infer_instance
def sR5 (y:vH9) (x:wU0):Bool :=
 false
def f93t (p0:(List D122)) (p1:(List D122)):Prop × Bool :=
 let v10:=((len p0) != (len p1))
 let y4:=(p0,p1,(len p0),())
 let x4:=((0:Int),())
 let e4:=(zC1 (rC2 y4) (tI1 y4) x4)
 (((!v10) = true → (Am.Ends (rC2 y4) (tI1 y4) (tI0 y4) x4)),(bif v10 then false else (bif (rZ5 y4 e4) then (sR5 y4 e4) else true)))
def rZ6 (p0:(List D122)) (p1:(List D122)):Prop:=(f93t p0 p1).1
def f93 (p0:(List D122)) (p1:(List D122)):Bool:=(f93t p0 p1).2
instance (p0:(List D122)) (p1:(List D122)):Decidable (rZ6 p0 p1):=by
 unfold rZ6 f93t
 try dsimp only
 infer_instance
abbrev vI0:Type:=((List D128) × (List D128) × Int × Unit)
abbrev wU1:Type:=(Int × Unit)
def tI2 (y:vI0) (x:wU1):Prop × Bool × wU1 × Bool × Bool :=
 let a0:=y.1
 let a1:=y.2.1
 let a13:=x.1
 let v14:=(decide (a13 < y.2.2.1))
 let v24:=(!(Ty.eqb T128 (nth a0 a13 Z128) (nth a1 a13 Z128)))
 ((v14 = true → (InB a13 (len a0) ∧ (InB a13 (len a1) ∧ ((!v24) = true → InR (a13 + 1))))),(v14 && (!v24)),((a13 + 1),()),(v14 && v24),(!v14))
def tI3 (y:vI0) (x:wU1):Prop:=(tI2 y x).1
def rC3 (y:vI0) (x:wU1):Bool:=(tI2 y x).2.1
def tI4 (y:vI0) (x:wU1):wU1:=(tI2 y x).2.2.1
def rZ7 (y:vI0) (x:wU1):Bool:=(tI2 y x).2.2.2.1
instance (y:vI0) (x:wU1):Decidable (tI3 y x):=by
 unfold tI3 tI2
 try dsimp only
 infer_instance
def sR6 (y:vI0) (x:wU1):Bool :=
 false
def f94t (p0:(List D128)) (p1:(List D128)):Prop × Bool :=
 let v10:=((len p0) != (len p1))
 let y4:=(p0,p1,(len p0),())
 let x4:=((0:Int),())
 let e4:=(zC1 (rC3 y4) (tI4 y4) x4)
 (((!v10) = true → (Am.Ends (rC3 y4) (tI4 y4) (tI3 y4) x4)),(bif v10 then false else (bif (rZ7 y4 e4) then (sR6 y4 e4) else true)))
def rZ8 (p0:(List D128)) (p1:(List D128)):Prop:=(f94t p0 p1).1
def f94 (p0:(List D128)) (p1:(List D128)):Bool:=(f94t p0 p1).2
instance (p0:(List D128)) (p1:(List D128)):Decidable (rZ8 p0 p1):=by
 unfold rZ8 f94t
 try dsimp only
 infer_instance
abbrev vI1:Type:=((List D125) × (List D125) × Int × Unit)
abbrev wU2:Type:=(Int × Unit)
def tI5 (y:vI1) (x:wU2):Prop × Bool × wU2 × Bool × Bool :=
 let a0:=y.1
 let a1:=y.2.1
 let a13:=x.1
 let v14:=(decide (a13 < y.2.2.1))
 let v24:=(!(Ty.eqb T125 (nth a0 a13 Z125) (nth a1 a13 Z125)))
 ((v14 = true → (InB a13 (len a0) ∧ (InB a13 (len a1) ∧ ((!v24) = true → InR (a13 + 1))))),(v14 && (!v24)),((a13 + 1),()),(v14 && v24),(!v14))
def tI6 (y:vI1) (x:wU2):Prop:=(tI5 y x).1
def rC4 (y:vI1) (x:wU2):Bool:=(tI5 y x).2.1
def tI7 (y:vI1) (x:wU2):wU2:=(tI5 y x).2.2.1
def rZ9 (y:vI1) (x:wU2):Bool:=(tI5 y x).2.2.2.1
instance (y:vI1) (x:wU2):Decidable (tI6 y x):=by
 unfold tI6 tI5
 try dsimp only
 infer_instance
def sR7 (y:vI1) (x:wU2):Bool :=
 false
def f95t (p0:(List D125)) (p1:(List D125)):Prop × Bool :=
 let v10:=((len p0) != (len p1))
 let y4:=(p0,p1,(len p0),())
 let x4:=((0:Int),())
 let e4:=(zC1 (rC4 y4) (tI7 y4) x4)
 (((!v10) = true → (Am.Ends (rC4 y4) (tI7 y4) (tI6 y4) x4)),(bif v10 then false else (bif (rZ9 y4 e4) then (sR7 y4 e4) else true)))
def qA (p0:(List D125)) (p1:(List D125)):Prop:=(f95t p0 p1).1
def f95 (p0:(List D125)) (p1:(List D125)):Bool:=(f95t p0 p1).2
instance (p0:(List D125)) (p1:(List D125)):Decidable (qA p0 p1):=by
 unfold qA f95t
 try dsimp only
 infer_instance
def f71t (p0:D49) (p1:D49):Prop × Bool :=
 let v17:=(bif (!(f72 p0.2.2.2.2.2.2.2.2.2.2.2.2.1 p1.2.2.2.2.2.2.2.2.2.2.2.2.1)) then true else (!(Ty.eqb T42 p0.2.2.2.2.2.2.2.2.2.2.2.2.2.1 p1.2.2.2.2.2.2.2.2.2.2.2.2.2.1)))
 let v29:=(bif (p0.2.2.2.2.2.2.2.2.2.2.2.2.2.2.1 != p1.2.2.2.2.2.2.2.2.2.2.2.2.2.2.1) then true else (p0.2.2.2.2.2.2.2.2.2.2.2.2.2.2.2.2.1 != p1.2.2.2.2.2.2.2.2.2.2.2.2.2.2.2.2.1))
 let v35:=(!(f44 p0.2.2.2.2.2.2.2.2.2.2.2.2.2.2.2.1 p1.2.2.2.2.2.2.2.2.2.2.2.2.2.2.2.1))
 let v43:=(bif v35 then true else (!(f93 p0.2.2.2.2.2.2.2.2.2.2.2.2.2.2.2.2.2.1 p1.2.2.2.2.2.2.2.2.2.2.2.2.2.2.2.2.2.1)))
 let v51:=(bif v43 then true else (!(f94 p0.2.2.2.2.2.2.2.2.2.2.2.2.2.2.2.2.2.2.1 p1.2.2.2.2.2.2.2.2.2.2.2.2.2.2.2.2.2.2.1)))
 let v63:=(bif (p0.2.2.2.2.2.2.2.2.2.2.2.2.2.2.2.2.2.2.2.1 != p1.2.2.2.2.2.2.2.2.2.2.2.2.2.2.2.2.2.2.2.1) then true else (p0.2.2.2.2.2.2.2.2.2.2.2.2.2.2.2.2.2.2.2.2.1 != p1.2.2.2.2.2.2.2.2.2.2.2.2.2.2.2.2.2.2.2.2.1))
 let v77:=(bif (bif v63 then true else (p0.2.2.2.2.2.2.2.2.2.2.2.2.2.2.2.2.2.2.2.2.2.1 != p1.2.2.2.2.2.2.2.2.2.2.2.2.2.2.2.2.2.2.2.2.2.1)) then true else (p0.2.2.2.2.2.2.2.2.2.2.2.2.2.2.2.2.2.2.2.2.2.2.1 != p1.2.2.2.2.2.2.2.2.2.2.2.2.2.2.2.2.2.2.2.2.2.2.1))
 let v89:=(bif (!(p0.2.2.2.2.2.2.2.2.2.2.2.2.2.2.2.2.2.2.2.2.2.2.2.1 == p1.2.2.2.2.2.2.2.2.2.2.2.2.2.2.2.2.2.2.2.2.2.2.2.1)) then true else (p0.2.2.2.2.2.2.2.2.2.2.2.2.2.2.2.2.2.2.2.2.2.2.2.2.1 != p1.2.2.2.2.2.2.2.2.2.2.2.2.2.2.2.2.2.2.2.2.2.2.2.2.1))
 let v103:=(bif (bif v89 then true else (p0.2.2.2.2.2.2.2.2.2.2.2.2.2.2.2.2.2.2.2.2.2.2.2.2.2.1 != p1.2.2.2.2.2.2.2.2.2.2.2.2.2.2.2.2.2.2.2.2.2.2.2.2.2.1)) then true else (p0.2.2.2.2.2.2.2.2.2.2.2.2.2.2.2.2.2.2.2.2.2.2.2.2.2.2.1 != p1.2.2.2.2.2.2.2.2.2.2.2.2.2.2.2.2.2.2.2.2.2.2.2.2.2.2.1))
 let v119:=(bif (p0.2.2.2.2.2.2.2.2.2.2.2.2.2.2.2.2.2.2.2.2.2.2.2.2.2.2.2.1.1 != p1.2.2.2.2.2.2.2.2.2.2.2.2.2.2.2.2.2.2.2.2.2.2.2.2.2.2.2.1.1) then true else (p0.2.2.2.2.2.2.2.2.2.2.2.2.2.2.2.2.2.2.2.2.2.2.2.2.2.2.2.1.2.1 != p1.2.2.2.2.2.2.2.2.2.2.2.2.2.2.2.2.2.2.2.2.2.2.2.2.2.2.2.1.2.1))
 let v128:=(bif v119 then true else (p0.2.2.2.2.2.2.2.2.2.2.2.2.2.2.2.2.2.2.2.2.2.2.2.2.2.2.2.1.2.2.1 != p1.2.2.2.2.2.2.2.2.2.2.2.2.2.2.2.2.2.2.2.2.2.2.2.2.2.2.2.1.2.2.1))
 let m4_2:=(bif v77 then false else (bif v103 then false else (bif v128 then false else (f95 p0.2.2.2.2.2.2.2.2.2.2.2.2.2.2.2.2.2.2.2.2.2.2.2.2.2.2.2.1.2.2.2.1 p1.2.2.2.2.2.2.2.2.2.2.2.2.2.2.2.2.2.2.2.2.2.2.2.2.2.2.2.1.2.2.2.1))))
 (((rZ4 p0.2.2.2.2.2.2.2.2.2.2.2.2.1 p1.2.2.2.2.2.2.2.2.2.2.2.2.1) ∧ ((!v17) = true → ((!v29) = true → ((rC0 p0.2.2.2.2.2.2.2.2.2.2.2.2.2.2.2.1 p1.2.2.2.2.2.2.2.2.2.2.2.2.2.2.2.1) ∧ (((!v35) = true → (rZ6 p0.2.2.2.2.2.2.2.2.2.2.2.2.2.2.2.2.2.1 p1.2.2.2.2.2.2.2.2.2.2.2.2.2.2.2.2.2.1)) ∧ (((!v43) = true → (rZ8 p0.2.2.2.2.2.2.2.2.2.2.2.2.2.2.2.2.2.2.1 p1.2.2.2.2.2.2.2.2.2.2.2.2.2.2.2.2.2.2.1)) ∧ ((!v51) = true → ((!v77) = true → ((!v103) = true → ((!v128) = true → (qA p0.2.2.2.2.2.2.2.2.2.2.2.2.2.2.2.2.2.2.2.2.2.2.2.2.2.2.2.1.2.2.2.1 p1.2.2.2.2.2.2.2.2.2.2.2.2.2.2.2.2.2.2.2.2.2.2.2.2.2.2.2.1.2.2.2.1))))))))))),(bif v17 then false else (bif v29 then false else (bif v51 then false else m4_2))))
def qA0 (p0:D49) (p1:D49):Prop:=(f71t p0 p1).1
def f71 (p0:D49) (p1:D49):Bool:=(f71t p0 p1).2
instance (p0:D49) (p1:D49):Decidable (qA0 p0 p1):=by
 unfold qA0 f71t
 try dsimp only
 infer_instance
def f43t (p0:D49) (p1:D49):Prop × Bool :=
 let v30:=(bif (bif (bif (p0.1 != p1.1) then true else (p0.2.1 != p1.2.1)) then true else (p0.2.2.1 != p1.2.2.1)) then true else (!(p0.2.2.2.1 == p1.2.2.2.1)))
 let v49:=(bif (bif (!(Ty.eqb .bool p0.2.2.2.2.1 p1.2.2.2.2.1)) then true else (!(Ty.eqb .bool p0.2.2.2.2.2.1 p1.2.2.2.2.2.1))) then true else (!(Ty.eqb .bool p0.2.2.2.2.2.2.1 p1.2.2.2.2.2.2.1)))
 let v75:=(bif (bif (bif (p0.2.2.2.2.2.2.2.1 != p1.2.2.2.2.2.2.2.1) then true else (p0.2.2.2.2.2.2.2.2.1 != p1.2.2.2.2.2.2.2.2.1)) then true else (!(Ty.eqb T37 p0.2.2.2.2.2.2.2.2.2.2.1 p1.2.2.2.2.2.2.2.2.2.2.1))) then true else (p0.2.2.2.2.2.2.2.2.2.2.2.1 != p1.2.2.2.2.2.2.2.2.2.2.2.1))
 let v91:=(bif (p0.2.2.2.2.2.2.2.2.2.1.1 != p1.2.2.2.2.2.2.2.2.2.1.1) then true else (p0.2.2.2.2.2.2.2.2.2.1.2.1 != p1.2.2.2.2.2.2.2.2.2.1.2.1))
 let v101:=(bif v91 then true else (!(f44 p0.2.2.2.2.2.2.2.2.2.1.2.2.1 p1.2.2.2.2.2.2.2.2.2.1.2.2.1)))
 (((!v30) = true → ((!v49) = true → ((!v75) = true → (((!v91) = true → (rC0 p0.2.2.2.2.2.2.2.2.2.1.2.2.1 p1.2.2.2.2.2.2.2.2.2.1.2.2.1)) ∧ ((!v101) = true → (qA0 p0 p1)))))),(bif v30 then false else (bif v49 then false else (bif v75 then false else (bif v101 then false else (f71 p0 p1))))))
def pA8 (p0:D49) (p1:D49):Prop:=(f43t p0 p1).1
instance (p0:D49) (p1:D49):Decidable (pA8 p0 p1):=by
 unfold pA8 f43t
 try dsimp only
 infer_instance
end Go.Proofs.YtpanghcojpnkaaaGreatDoor.Am
