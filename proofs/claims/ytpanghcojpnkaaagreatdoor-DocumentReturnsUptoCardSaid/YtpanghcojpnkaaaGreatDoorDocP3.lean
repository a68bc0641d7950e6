/- Printed by program, part 3. No condition. -/
import Derived.Test.YtpanghcojpnkaaaGreatDoorDocP2
set_option linter.unusedVariables false
set_option synthInstance.maxSize 4000
set_option synthInstance.maxHeartbeats 400000
namespace Go.Proofs.YtpanghcojpnkaaaGreatDoor.Am
open Go Go.Am Go.Proofs
abbrev wT8:Type:=((List Int)×(List D122)×Unit)
abbrev wL2:Type:=(Int×Unit)
def vW (y:wT8)(x:wL2):Prop×Bool×wL2×Bool×Bool:=
 let a1:=y.1
 let a7:=x.1
 let v25:=(decide (a7<(len a1)))
 let v34:=(a7-2)
 let v37:=(decide ((nth a1 a7 (0:Int))≤(nth a1 v34 (0:Int))))
 ((v25=true→(InB a7 (len a1)∧(InR (a7-2)∧(InB v34 (len a1)∧((!v37)=true→InR (a7+2)))))),(v25&&(!v37)),((a7+2),()),(v25&&v37),(!v25))
def vW0 (y:wT8)(x:wL2):Prop:=(vW y x).1
def tL7 (y:wT8)(x:wL2):Bool:=(vW y x).2.1
def vQ5 (y:wT8)(x:wL2):wL2:=(vW y x).2.2.1
def tX7 (y:wT8)(x:wL2):Bool:=(vW y x).2.2.2.1
def tX8 (y:wT8)(x:wL2):Bool:=(vW y x).2.2.2.2
instance (y:wT8)(x:wL2):Decidable (vW0 y x):=by
 unfold vW0 vW
 try dsimp only
 infer_instance
def uW6 (y:wT8)(x:wL2):Bool:=
 false
def uW7:St→Option Out:=xP5 [(1,(.val (.sl (.int .i64)))),(2,(.val (.sl T122)))] [(7,vI)] tL7 vQ5 vW0 fun y x=>[ex 1 (some (tX7 y x)) [(6,vB)] ((uW6 y x),()),ex 2 (some (tX8 y x)) [(2,(.val (.sl T122)))] (y.2.1,())]
abbrev wN8:Type:=((List D122)×Unit)
abbrev wG3:Type:=(Int×Unit)
def vH9 (y:wN8)(x:wG3):Prop×Bool×wG3×Bool×Bool:=
 let a2:=y.1
 let a8:=x.1
 let v41:=(decide (a8<(len a2)))
 let v51:=(a8-1)
 let v55:=(decide ((nth a2 a8 Z122).1≤(nth a2 v51 Z122).1))
 ((v41=true→(InB a8 (len a2)∧(InR (a8-1)∧(InB v51 (len a2)∧((!v55)=true→InR (a8+1)))))),(v41&&(!v55)),((a8+1),()),(v41&&v55),(!v41))
def wZ5 (y:wN8)(x:wG3):Prop:=(vH9 y x).1
def vW1 (y:wN8)(x:wG3):Bool:=(vH9 y x).2.1
def wV6 (y:wN8)(x:wG3):wG3:=(vH9 y x).2.2.1
def tL8 (y:wN8)(x:wG3):Bool:=(vH9 y x).2.2.2.1
def rC3 (y:wN8)(x:wG3):Bool:=(vH9 y x).2.2.2.2
instance (y:wN8)(x:wG3):Decidable (wZ5 y x):=by
 unfold wZ5 vH9
 try dsimp only
 infer_instance
def uJ6 (y:wN8)(x:wG3):Bool:=
 false
def uJ7:St→Option Out:=xP5 [(2,(.val (.sl T122)))] [(8,vI)] vW1 wV6 wZ5 fun y x=>[ex 1 (some (tL8 y x)) [(6,vB)] ((uJ6 y x),()),ex 4 (some (rC3 y x)) [] ()]
def oN4 (p0:Int)(p1:List Int)(p2:List D122):Prop×Bool:=
 let v10:=(p0==2)
 let v19:=(bif v10 then (decide ((nth p1 (1:Int) (0:Int))≤(nth p1 (0:Int) (0:Int)))) else false)
 let v21:=(p0==3)
 let y5:=(p1,p2,())
 let x5:=((2:Int),())
 let e5:=(zC1 (tL7 y5) (vQ5 y5) x5)
 let y10:=((bif v21 then p2 else p2),())
 let x10:=((1:Int),())
 let e10:=(zC1 (vW1 y10) (wV6 y10) x10)
 (((v10=true→InB (1:Int) (len p1))∧((v10=true→InB (0:Int) (len p1))∧((!v19)=true→((v21=true→(Am.Ends (tL7 y5) (vQ5 y5) (vW0 y5) x5))∧((bif v21 then (tX8 y5 e5) else true)=true→(Am.Ends (vW1 y10) (wV6 y10) (wZ5 y10) x10)))))),(bif v19 then false else (bif ((tX7 y5 e5)&&v21) then (uW6 y5 e5) else (bif (tL8 y10 e10) then (uJ6 y10 e10) else true))))
def tL9 (p0:Int)(p1:List Int)(p2:List D122):Prop:=(oN4 p0 p1 p2).1
def f135 (p0:Int)(p1:List Int)(p2:List D122):Bool:=(oN4 p0 p1 p2).2
instance (p0:Int)(p1:List Int)(p2:List D122):Decidable (tL9 p0 p1 p2):=by
 unfold tL9 oN4
 try dsimp only
 infer_instance
def sQ6:Am.Spec:=fnSpec [(0,vI),(1,(.val (.sl (.int .i64)))),(2,(.val (.sl T122)))] vB [] (fun x=>tL9 x.1 x.2.1 x.2.2.1) (fun x=>f135 x.1 x.2.1 x.2.2.1) (fun _=>())
def sF2:Ctx:=Cx tys [] [(5,uW7),(10,uJ7)] [] false 56 [] []
theorem sF3:CtxOk Tryz.prog sF2:=xW4 xY7 rfl trivial rfl (by kernel_rfl)
noncomputable def sQ7:Code:=Tryz.f135.body.getD .skip
noncomputable def qH9:Code:=xX3 sQ7 0
theorem rZ7:yU9 Tryz.prog sF2 qH9:=xY2 sF3 mixed (sp:=uW7) rfl [[(6,vB)],[(2,(.val (.sl T122)))]] (bs:=[]) (by kernel_rfl) trivial (by kernel_rfl) (by kernel_rfl) fun y x=>by kernel_rfl
noncomputable def rN0:Code:=xX3 sQ7 1
theorem rC4:yU9 Tryz.prog sF2 rN0:=xY2 sF3 mixed (sp:=uJ7) rfl [[(6,vB)],[]] (bs:=[]) (by kernel_rfl) trivial (by kernel_rfl) (by kernel_rfl) fun y x=>by kernel_rfl
theorem oN5:SpecOk Tryz.prog 135 sQ6:=xY3 sF3 mixed Tryz.func135 (by kernel_rfl) (bs:=[qH9,rN0]) (by kernel_rfl) ⟨rZ7,rC4,trivial⟩ fun x=>by kernel_rfl
def oN6 (p0:Int)(p1:List Int)(p2:List D122):Prop×Int:=
 let v13:=(bif (decide (p0<1)) then true else (decide (p0>11)))
 let v17:=(len p1)
 let v27:=(bif (!(f133 p0 v17)) then true else (!(Ty.eqb .bool (decide ((len p2)>0)) (p0==10))))
 let v31:=(decide ((len p2)>16))
 let v37:=(!(f134 p0 p1 p2))
 let m6_4:=(bif (bif v13 then true else (bif v27 then true else (bif v31 then true else (bif v37 then true else (!(f135 p0 p1 p2)))))) then (bif v13 then (8:Int) else (bif v27 then (1:Int) else (bif v31 then (3:Int) else (bif v37 then (2:Int) else (24:Int))))) else (0:Int))
 ((v13=false→((tL2 p0 v17)∧(v27=false→(v31=false→((tL6 p0 p1 p2)∧(v37=false→(tL9 p0 p1 p2))))))),m6_4)
def tM (p0:Int)(p1:List Int)(p2:List D122):Prop:=(oN6 p0 p1 p2).1
def f114 (p0:Int)(p1:List Int)(p2:List D122):Int:=(oN6 p0 p1 p2).2
instance (p0:Int)(p1:List Int)(p2:List D122):Decidable (tM p0 p1 p2):=by
 unfold tM oN6
 try dsimp only
 infer_instance
def sQ8:Am.Spec:=fnSpec [(0,vI),(1,(.val (.sl (.int .i64)))),(2,(.val (.sl T122)))] vI [] (fun x=>tM x.1 x.2.1 x.2.2.1) (fun x=>f114 x.1 x.2.1 x.2.2.1) (fun _=>())
def pI:Ctx:=Cx tys [(133,sQ2),(134,sQ4),(135,sQ6)] [] [] false 44 [] []
theorem pI0:CtxOk Tryz.prog pI:=xW4 xY7 rfl ⟨oN,oN3,oN5,trivial⟩ rfl (by kernel_rfl)
theorem oN7:SpecOk Tryz.prog 114 sQ8:=xY3 pI0 mixed Tryz.func114 (by kernel_rfl) (bs:=[]) (by kernel_rfl) trivial fun x=>by kernel_rfl
def oN8 (p0:Int):Prop×(List D125):=
 let v5:=(p0==1)
 let v6:=(p0==7)
 let m4_1:=(bif v5 then v5 else (bif v6 then v6 else (p0==8)))
 let v11:=(p0==2)
 let v15:=(p0==4)
 let v19:=(p0==3)
 let v24:=(p0==9)
 let m2_1:=(bif v19 then ([((0:Int),(16:Int),()),((0:Int),(262140:Int),())]:List D125) else (bif v24 then ([((-16:Int),(16:Int),()),((-16:Int),(16:Int),())]:List D125) else ([((1:Int),(16:Int),())]:List D125)))
 let m2_5:=(bif (bif m4_1 then true else (bif v11 then true else (bif v15 then true else (bif v19 then true else (bif v24 then true else (p0==10)))))) then (bif m4_1 then ([((0:Int),(16:Int),())]:List D125) else (bif v11 then ([((0:Int),(7:Int),())]:List D125) else (bif v15 then ([((0:Int),(4:Int),())]:List D125) else m2_1))) else [])
 (True,m2_5)
def tM0 (p0:Int):Prop:=(oN8 p0).1
def f136 (p0:Int):List D125:=(oN8 p0).2
instance (p0:Int):Decidable (tM0 p0):=by
 unfold tM0 oN8
 try dsimp only
 infer_instance
def sQ9:Am.Spec:=fnSpec [(0,vI)] (.own T125 0 false) [] (fun x=>tM0 x.1) (fun x=>f136 x.1) (fun _=>())
def pI1:Ctx:=Cx tys [] [] [(11,[(4,0,9,0)]),(15,[(4,0,13,0)]),(19,[(4,0,17,0)]),(23,[(4,0,22,0)]),(27,[(4,0,27,0)]),(31,[(4,0,31,0)])] false 32 [] []
theorem pI2:CtxOk Tryz.prog pI1:=xW4 xY7 rfl trivial rfl (by kernel_rfl)
theorem oN9:SpecOk Tryz.prog 136 sQ9:=xY3 pI2 mixed Tryz.func136 (by kernel_rfl) (bs:=[]) (by kernel_rfl) trivial fun x=>by kernel_rfl
abbrev wT9:Type:=((List D125)×(List Int)×Int×Unit)
abbrev wL3:Type:=(Int×Unit)
def vW2 (y:wT9)(x:wL3):Prop×Bool×wL3×Bool×Bool:=
 let a5:=y.1
 let a21:=y.2.1
 let a23:=x.1
 let v24:=(decide (a23<y.2.2.1))
 let v26:=(nth a21 a23 (0:Int))
 let v34:=(decide (v26<(nth a5 a23 Z125).1))
 let v43:=(bif v34 then true else (decide (v26>(nth a5 a23 Z125).2.1)))
 ((v24=true→(InB a23 (len a21)∧(InB a23 (len a5)∧(((!v34)=true→InB a23 (len a5))∧((!v43)=true→InR (a23+1)))))),(v24&&(!v43)),((a23+1),()),(v24&&v43),(!v24))
def vW3 (y:wT9)(x:wL3):Prop:=(vW2 y x).1
def tM1 (y:wT9)(x:wL3):Bool:=(vW2 y x).2.1
def vQ6 (y:wT9)(x:wL3):wL3:=(vW2 y x).2.2.1
def tX9 (y:wT9)(x:wL3):Bool:=(vW2 y x).2.2.2.1
def rZ8 (y:wT9)(x:wL3):Bool:=(vW2 y x).2.2.2.2
instance (y:wT9)(x:wL3):Decidable (vW3 y x):=by
 unfold vW3 vW2
 try dsimp only
 infer_instance
def uW8 (y:wT9)(x:wL3):Int:=
 (2:Int)
def uW9:St→Option Out:=xP5 [(5,(.own T125 1005 false)),(21,(.val (.sl (.int .i64)))),(22,vI)] [(23,vI)] tM1 vQ6 vW3 fun y x=>[ex 1 (some (tX9 y x)) [(4,vI)] ((uW8 y x),()),ex 2 (some (rZ8 y x)) [] ()]
def oO (p0:Int)(p1:List Int):Prop×Int:=
 let v13:=(bif (decide (p0<1)) then true else (decide (p0>10)))
 let v15:=(f136 p0)
 let v20:=((len p1)!=(len v15))
 let y7:=(v15,p1,(len p1),())
 let x7:=((0:Int),())
 let e7:=(zC1 (tM1 y7) (vQ6 y7) x7)
 (((!v13)=true→((tM0 p0)∧((!v20)=true→(Am.Ends (tM1 y7) (vQ6 y7) (vW3 y7) x7)))),(bif v13 then (8:Int) else (bif v20 then (1:Int) else (bif (tX9 y7 e7) then (uW8 y7 e7) else (0:Int)))))
def tM2 (p0:Int)(p1:List Int):Prop:=(oO p0 p1).1
def f115 (p0:Int)(p1:List Int):Int:=(oO p0 p1).2
instance (p0:Int)(p1:List Int):Decidable (tM2 p0 p1):=by
 unfold tM2 oO
 try dsimp only
 infer_instance
def sR:Am.Spec:=fnSpec [(0,vI),(1,(.val (.sl (.int .i64))))] vI [] (fun x=>tM2 x.1 x.2.1) (fun x=>f115 x.1 x.2.1) (fun _=>())
def rN1:Ctx:=Cx tys [(136,sQ9)] [(7,uW9)] [(7,[(4,0,15,1005)])] false 45 [] []
theorem rN2:CtxOk Tryz.prog rN1:=xW4 xY7 rfl ⟨oN9,trivial⟩ rfl (by kernel_rfl)
noncomputable def qI:Code:=Tryz.f115.body.getD .skip
noncomputable def qI0:Code:=xX3 qI 0
theorem rZ9:yU9 Tryz.prog rN1 qI0:=xY2 rN2 mixed (sp:=uW9) rfl [[(4,vI)],[]] (bs:=[]) (by kernel_rfl) trivial (by kernel_rfl) (by kernel_rfl) fun y x=>by kernel_rfl
theorem oO0:SpecOk Tryz.prog 115 sR:=xY3 rN2 mixed Tryz.func115 (by kernel_rfl) (bs:=[qI0]) (by kernel_rfl) ⟨rZ9,trivial⟩ fun x=>by kernel_rfl
abbrev wU:Type:=((List D125)×Int×Unit)
abbrev wL4:Type:=(Int×Unit)
def vW4 (y:wU)(x:wL4):Prop×Bool×wL4×Bool×Bool:=
 let a43:=y.1
 let a45:=x.1
 let v46:=(decide (a45<y.2.1))
 let v47:=(nth a43 a45 Z125)
 let v66:=(bif (bif (bif (decide (v47.1<(-1048576))) then true else (decide (v47.1>1048576))) then true else (decide (v47.2.1<(-1048576)))) then true else (decide (v47.2.1>1048576)))
 ((v46=true→(InB a45 (len a43)∧((!v66)=true→InR (a45+1)))),(v46&&(!v66)),((a45+1),()),(v46&&v66),(!v46))
def vW5 (y:wU)(x:wL4):Prop:=(vW4 y x).1
def tM3 (y:wU)(x:wL4):Bool:=(vW4 y x).2.1
def vQ7 (y:wU)(x:wL4):wL4:=(vW4 y x).2.2.1
def tY (y:wU)(x:wL4):Bool:=(vW4 y x).2.2.2.1
def qA (y:wU)(x:wL4):Bool:=(vW4 y x).2.2.2.2
instance (y:wU)(x:wL4):Decidable (vW5 y x):=by
 unfold vW5 vW4
 try dsimp only
 infer_instance
def uX (y:wU)(x:wL4):Int:=
 (2:Int)
def uX0:St→Option Out:=xP5 [(43,(.val (.sl T125))),(44,vI)] [(45,vI)] tM3 vQ7 vW5 fun y x=>[ex 1 (some (tY y x)) [(2,vI)] ((uX y x),()),ex 2 (some (qA y x)) [] ()]
def oO1 (p0:D47):Prop×Int:=
 let v22:=(bif (bif (bif (decide (p0.1<2)) then true else (decide (p0.1>8))) then true else (decide (p0.2.1<2))) then true else (decide (p0.2.1>8)))
 let v30:=(bif (decide (p0.2.2.1<1)) then true else (decide (p0.2.2.1>256)))
 let v41:=(bif v30 then true else ((len p0.2.2.2.1)!=(p0.1*p0.2.1)))
 let y6:=(p0.2.2.2.1,(len p0.2.2.2.1),())
 let x6:=((0:Int),())
 let e6:=(zC1 (tM3 y6) (vQ7 y6) x6)
 (((!v22)=true→(((!v30)=true→InR (p0.1*p0.2.1))∧((!v41)=true→(Am.Ends (tM3 y6) (vQ7 y6) (vW5 y6) x6)))),(bif v22 then (15:Int) else (bif v41 then (15:Int) else (bif (tY y6 e6) then (uX y6 e6) else (0:Int)))))
def tM4 (p0:D47):Prop:=(oO1 p0).1
def f116 (p0:D47):Int:=(oO1 p0).2
instance (p0:D47):Decidable (tM4 p0):=by
 unfold tM4 oO1
 try dsimp only
 infer_instance
def sR0:Am.Spec:=fnSpec [(0,(.val T47))] vI [] (fun x=>tM4 x.1) (fun x=>f116 x.1) (fun _=>())
def rN3:Ctx:=Cx tys [] [(6,uX0)] [] false 68 [] []
theorem rN4:CtxOk Tryz.prog rN3:=xW4 xY7 rfl trivial rfl (by kernel_rfl)
noncomputable def qI1:Code:=Tryz.f116.body.getD .skip
noncomputable def qI2:Code:=xX3 qI1 0
theorem qA0:yU9 Tryz.prog rN3 qI2:=xY2 rN4 mixed (sp:=uX0) rfl [[(2,vI)],[]] (bs:=[]) (by kernel_rfl) trivial (by kernel_rfl) (by kernel_rfl) fun y x=>by kernel_rfl
theorem oO2:SpecOk Tryz.prog 116 sR0:=xY3 rN4 mixed Tryz.func116 (by kernel_rfl) (bs:=[qI2]) (by kernel_rfl) ⟨qA0,trivial⟩ fun x=>by kernel_rfl
def f81t (p0:D49):Prop×Int:=
 let v6:=(p0.2.1==2)
 let v11:=(p0.2.1==3)
 let v16:=(p0.2.1==4)
 let v27:=(p0.2.1==5)
 let v31:=(p0.2.1==6)
 let v35:=(p0.2.1==7)
 let v44:=(p0.2.1==8)
 let v51:=(p0.2.1==9)
 let m50:=(bif v51 then v51 else (p0.2.1==10))
 let v62:=(p0.2.1==11)
 let c_2:=(bif v44 then true else (bif m50 then (bif (decide (p0.2.2.2.2.2.2.2.2.2.2.2.2.2.2.2.2.2.2.2.2.2.2.2.2.2.2.1<1)) then true else (decide (p0.2.2.2.2.2.2.2.2.2.2.2.2.2.2.2.2.2.2.2.2.2.2.2.2.2.2.1>1073741824))) else v62))
 let m2_2:=(bif v35 then (f114 p0.2.2.2.2.2.2.2.2.2.2.2.2.2.2.1 p0.2.2.2.2.2.2.2.2.2.2.2.2.2.2.2.1 p0.2.2.2.2.2.2.2.2.2.2.2.2.2.2.2.2.2.1) else (bif v44 then (f115 p0.2.2.2.2.2.2.2.2.2.2.2.2.2.2.1 p0.2.2.2.2.2.2.2.2.2.2.2.2.2.2.2.1) else (bif m50 then (2:Int) else (f116 p0.2.2.2.2.2.2.2.2.2.2.2.2.2.2.2.2.2.2.2.2.2.2.2.2.2.2.2.1))))
 let m2_5:=(bif v16 then (f111 p0.2.2.2.2.2.2.2.2.2.2.2.2.2.2.1 p0.2.2.2.2.2.2.2.2.2.2.2.2.2.2.2.1 p0.2.2.2.2.2.2.2.2.2.2.2.2.2.2.2.2.1 p0.2.2.2.2.2.2.2.2.2.2.2.2.2.2.2.2.2.1) else (bif v27 then (f112 p0) else (bif v31 then (f113 p0) else m2_2)))
 let m2_8:=(bif (bif v6 then true else (bif v11 then true else (bif v16 then true else (bif v27 then true else (bif v31 then true else (bif v35 then true else c_2)))))) then (bif v6 then (f56 p0.2.2.2.2.2.2.2.2.2.2.2.2.1) else (bif v11 then (f110 p0.2.2.2.2.2.2.2.2.2.2.2.2.2.1) else m2_5)) else (0:Int))
 (((v6=true→(tV p0.2.2.2.2.2.2.2.2.2.2.2.2.1))∧(v6=false→((v11=true→(uA5 p0.2.2.2.2.2.2.2.2.2.2.2.2.2.1))∧(v11=false→((v16=true→(tF0 p0.2.2.2.2.2.2.2.2.2.2.2.2.2.2.1 p0.2.2.2.2.2.2.2.2.2.2.2.2.2.2.2.1 p0.2.2.2.2.2.2.2.2.2.2.2.2.2.2.2.2.1 p0.2.2.2.2.2.2.2.2.2.2.2.2.2.2.2.2.2.1))∧(v16=false→((v27=true→(tH8 p0))∧(v27=false→((v31=true→(uO2 p0))∧(v31=false→((v35=true→(tM p0.2.2.2.2.2.2.2.2.2.2.2.2.2.2.1 p0.2.2.2.2.2.2.2.2.2.2.2.2.2.2.2.1 p0.2.2.2.2.2.2.2.2.2.2.2.2.2.2.2.2.2.1))∧(v35=false→((v44=true→(tM2 p0.2.2.2.2.2.2.2.2.2.2.2.2.2.2.1 p0.2.2.2.2.2.2.2.2.2.2.2.2.2.2.2.1))∧(v44=false→(m50=false→(v62=true→(tM4 p0.2.2.2.2.2.2.2.2.2.2.2.2.2.2.2.2.2.2.2.2.2.2.2.2.2.2.2.1))))))))))))))))),m2_8)
def sR1 (p0:D49):Prop:=(f81t p0).1
def f81 (p0:D49):Int:=(f81t p0).2
instance (p0:D49):Decidable (sR1 p0):=by
 unfold sR1 f81t
 try dsimp only
 infer_instance
def rN5:Am.Spec:=fnSpec [(0,(.val T49))] vI [] (fun x=>sR1 x.1) (fun x=>f81 x.1) (fun _=>())
def oO3:Ctx:=Cx tys [(56,sC6),(110,uE1),(111,sN0),(112,sO7),(113,sQ1),(114,sQ8),(115,sR),(116,sR0)] [] [] false 66 [] []
theorem oO4:CtxOk Tryz.prog oO3:=xW4 xY7 rfl ⟨pV,sY6,oG8,oK6,oM9,oN7,oO0,oO2,trivial⟩ rfl (by kernel_rfl)
theorem nC5:SpecOk Tryz.prog 81 rN5:=xY3 oO4 mixed Tryz.func81 (by kernel_rfl) (bs:=[]) (by kernel_rfl) trivial fun x=>by kernel_rfl
def f82t (p0:D49):Prop×Bool:=
 let v17:=(bif (bif (!(Ty.eqb T37 p0.2.2.2.2.2.2.2.2.2.2.1 ((0:Int),(0:Int),(0:Int),(0:Int),(0:Int),(0:Int),()))) then true else (p0.2.2.2.2.2.2.2.2.2.2.2.1 !=0)) then true else (!(Ty.eqb T42 p0.2.2.2.2.2.2.2.2.2.2.2.2.2.1 ((0:Int),(0:Int),(0:Int),(0:Int),()))))
 let v54:=(bif (bif (bif (p0.2.2.2.2.2.2.2.2.2.2.2.2.2.2.1 !=0) then true else ((len p0.2.2.2.2.2.2.2.2.2.2.2.2.2.2.2.1)!=0)) then true else (p0.2.2.2.2.2.2.2.2.2.2.2.2.2.2.2.2.1 !=0)) then true else ((len p0.2.2.2.2.2.2.2.2.2.2.2.2.2.2.2.2.2.1)!=0))
 let v73:=(bif (bif (bif ((len p0.2.2.2.2.2.2.2.2.2.2.2.2.2.2.2.2.2.2.1)!=0) then true else (p0.2.2.2.2.2.2.2.2.2.2.2.2.2.2.2.2.2.2.2.1 !=0)) then true else (p0.2.2.2.2.2.2.2.2.2.2.2.2.2.2.2.2.2.2.2.2.1 !=0)) then true else (p0.2.2.2.2.2.2.2.2.2.2.2.2.2.2.2.2.2.2.2.2.2.1 !=0))
 let v91:=(bif (bif (!(p0.2.2.2.2.2.2.2.2.2.2.2.2.2.2.2.2.2.2.2.2.2.2.2.1==([]:List UInt8))) then true else (p0.2.2.2.2.2.2.2.2.2.2.2.2.2.2.2.2.2.2.2.2.2.2.2.2.1 !=0)) then true else (p0.2.2.2.2.2.2.2.2.2.2.2.2.2.2.2.2.2.2.2.2.2.2.2.2.2.1 !=0))
 let v112:=(bif (bif (p0.2.2.2.2.2.2.2.2.2.2.2.2.2.2.2.2.2.2.2.2.2.2.2.2.2.2.2.1.1==0) then (p0.2.2.2.2.2.2.2.2.2.2.2.2.2.2.2.2.2.2.2.2.2.2.2.2.2.2.2.1.2.1==0) else false) then (p0.2.2.2.2.2.2.2.2.2.2.2.2.2.2.2.2.2.2.2.2.2.2.2.2.2.2.2.1.2.2.1==0) else false)
 let m2:=(bif (bif v91 then true else (p0.2.2.2.2.2.2.2.2.2.2.2.2.2.2.2.2.2.2.2.2.2.2.2.2.2.2.1 !=0)) then false else (bif v112 then ((len p0.2.2.2.2.2.2.2.2.2.2.2.2.2.2.2.2.2.2.2.2.2.2.2.2.2.2.2.1.2.2.2.1)==0) else false))
 let m2_3:=(bif (bif (bif (p0.2.2.2.2.2.2.2.2.2.2.2.2.1.1 !=0) then true else (p0.2.2.2.2.2.2.2.2.2.2.2.2.1.2.1 !=0)) then true else ((len p0.2.2.2.2.2.2.2.2.2.2.2.2.1.2.2.1)!=0)) then false else (bif v54 then false else (bif (bif v73 then true else (p0.2.2.2.2.2.2.2.2.2.2.2.2.2.2.2.2.2.2.2.2.2.2.1 !=0)) then false else m2)))
 (True,(bif v17 then false else m2_3))
def sR2 (p0:D49):Prop:=(f82t p0).1
def f82 (p0:D49):Bool:=(f82t p0).2
instance (p0:D49):Decidable (sR2 p0):=by
 unfold sR2 f82t
 try dsimp only
 infer_instance
def rN6:Am.Spec:=fnSpec [(0,(.val T49))] vB [] (fun x=>sR2 x.1) (fun x=>f82 x.1) (fun _=>())
def oO5:Ctx:=Cx tys [] [] [] false 120 [] []
theorem oO6:CtxOk Tryz.prog oO5:=xW4 xY7 rfl trivial rfl (by kernel_rfl)
theorem nC6:SpecOk Tryz.prog 82 rN6:=xY3 oO6 mixed Tryz.func82 (by kernel_rfl) (bs:=[]) (by kernel_rfl) trivial fun x=>by kernel_rfl
def f83t (p0:D49):Prop×D49:=
 let s_1:=(p0.1,p0.2.1,p0.2.2.1,p0.2.2.2.1,p0.2.2.2.2.1,p0.2.2.2.2.2.1,p0.2.2.2.2.2.2.1,p0.2.2.2.2.2.2.2.1,p0.2.2.2.2.2.2.2.2.1,p0.2.2.2.2.2.2.2.2.2.1,((0:Int),(0:Int),(0:Int),(0:Int),(0:Int),(0:Int),()),p0.2.2.2.2.2.2.2.2.2.2.2.1,p0.2.2.2.2.2.2.2.2.2.2.2.2.1,p0.2.2.2.2.2.2.2.2.2.2.2.2.2.1,p0.2.2.2.2.2.2.2.2.2.2.2.2.2.2.1,p0.2.2.2.2.2.2.2.2.2.2.2.2.2.2.2.1,p0.2.2.2.2.2.2.2.2.2.2.2.2.2.2.2.2.1,p0.2.2.2.2.2.2.2.2.2.2.2.2.2.2.2.2.2.1,p0.2.2.2.2.2.2.2.2.2.2.2.2.2.2.2.2.2.2.1,p0.2.2.2.2.2.2.2.2.2.2.2.2.2.2.2.2.2.2.2.1,p0.2.2.2.2.2.2.2.2.2.2.2.2.2.2.2.2.2.2.2.2.1,p0.2.2.2.2.2.2.2.2.2.2.2.2.2.2.2.2.2.2.2.2.2.1,p0.2.2.2.2.2.2.2.2.2.2.2.2.2.2.2.2.2.2.2.2.2.2.1,p0.2.2.2.2.2.2.2.2.2.2.2.2.2.2.2.2.2.2.2.2.2.2.2.1,p0.2.2.2.2.2.2.2.2.2.2.2.2.2.2.2.2.2.2.2.2.2.2.2.2.1,p0.2.2.2.2.2.2.2.2.2.2.2.2.2.2.2.2.2.2.2.2.2.2.2.2.2.1,p0.2.2.2.2.2.2.2.2.2.2.2.2.2.2.2.2.2.2.2.2.2.2.2.2.2.2.1,p0.2.2.2.2.2.2.2.2.2.2.2.2.2.2.2.2.2.2.2.2.2.2.2.2.2.2.2.1,())
 let m1:=(bif (f76 p0.2.1) then s_1 else p0)
 let s_2:=(m1.1,m1.2.1,m1.2.2.1,m1.2.2.2.1,m1.2.2.2.2.1,m1.2.2.2.2.2.1,m1.2.2.2.2.2.2.1,m1.2.2.2.2.2.2.2.1,m1.2.2.2.2.2.2.2.2.1,m1.2.2.2.2.2.2.2.2.2.1,m1.2.2.2.2.2.2.2.2.2.2.1,(0:Int),m1.2.2.2.2.2.2.2.2.2.2.2.2.1,m1.2.2.2.2.2.2.2.2.2.2.2.2.2.1,m1.2.2.2.2.2.2.2.2.2.2.2.2.2.2.1,m1.2.2.2.2.2.2.2.2.2.2.2.2.2.2.2.1,m1.2.2.2.2.2.2.2.2.2.2.2.2.2.2.2.2.1,m1.2.2.2.2.2.2.2.2.2.2.2.2.2.2.2.2.2.1,m1.2.2.2.2.2.2.2.2.2.2.2.2.2.2.2.2.2.2.1,m1.2.2.2.2.2.2.2.2.2.2.2.2.2.2.2.2.2.2.2.1,m1.2.2.2.2.2.2.2.2.2.2.2.2.2.2.2.2.2.2.2.2.1,m1.2.2.2.2.2.2.2.2.2.2.2.2.2.2.2.2.2.2.2.2.2.1,m1.2.2.2.2.2.2.2.2.2.2.2.2.2.2.2.2.2.2.2.2.2.2.1,m1.2.2.2.2.2.2.2.2.2.2.2.2.2.2.2.2.2.2.2.2.2.2.2.1,m1.2.2.2.2.2.2.2.2.2.2.2.2.2.2.2.2.2.2.2.2.2.2.2.2.1,m1.2.2.2.2.2.2.2.2.2.2.2.2.2.2.2.2.2.2.2.2.2.2.2.2.2.1,m1.2.2.2.2.2.2.2.2.2.2.2.2.2.2.2.2.2.2.2.2.2.2.2.2.2.2.1,m1.2.2.2.2.2.2.2.2.2.2.2.2.2.2.2.2.2.2.2.2.2.2.2.2.2.2.2.1,())
 let m1_1:=(bif (f79 m1.2.1) then s_2 else m1)
 let s_4:=(m1_1.1,m1_1.2.1,m1_1.2.2.1,m1_1.2.2.2.1,m1_1.2.2.2.2.1,m1_1.2.2.2.2.2.1,m1_1.2.2.2.2.2.2.1,m1_1.2.2.2.2.2.2.2.1,m1_1.2.2.2.2.2.2.2.2.1,m1_1.2.2.2.2.2.2.2.2.2.1,m1_1.2.2.2.2.2.2.2.2.2.2.1,m1_1.2.2.2.2.2.2.2.2.2.2.2.1,((0:Int),(0:Int),([]:List D42),()),m1_1.2.2.2.2.2.2.2.2.2.2.2.2.2.1,m1_1.2.2.2.2.2.2.2.2.2.2.2.2.2.2.1,m1_1.2.2.2.2.2.2.2.2.2.2.2.2.2.2.2.1,m1_1.2.2.2.2.2.2.2.2.2.2.2.2.2.2.2.2.1,m1_1.2.2.2.2.2.2.2.2.2.2.2.2.2.2.2.2.2.1,m1_1.2.2.2.2.2.2.2.2.2.2.2.2.2.2.2.2.2.2.1,m1_1.2.2.2.2.2.2.2.2.2.2.2.2.2.2.2.2.2.2.2.1,m1_1.2.2.2.2.2.2.2.2.2.2.2.2.2.2.2.2.2.2.2.2.1,m1_1.2.2.2.2.2.2.2.2.2.2.2.2.2.2.2.2.2.2.2.2.2.1,m1_1.2.2.2.2.2.2.2.2.2.2.2.2.2.2.2.2.2.2.2.2.2.2.1,m1_1.2.2.2.2.2.2.2.2.2.2.2.2.2.2.2.2.2.2.2.2.2.2.2.1,m1_1.2.2.2.2.2.2.2.2.2.2.2.2.2.2.2.2.2.2.2.2.2.2.2.2.1,m1_1.2.2.2.2.2.2.2.2.2.2.2.2.2.2.2.2.2.2.2.2.2.2.2.2.2.1,m1_1.2.2.2.2.2.2.2.2.2.2.2.2.2.2.2.2.2.2.2.2.2.2.2.2.2.2.1,m1_1.2.2.2.2.2.2.2.2.2.2.2.2.2.2.2.2.2.2.2.2.2.2.2.2.2.2.2.1,())
 let s_6:=(m1_1.1,m1_1.2.1,m1_1.2.2.1,m1_1.2.2.2.1,m1_1.2.2.2.2.1,m1_1.2.2.2.2.2.1,m1_1.2.2.2.2.2.2.1,m1_1.2.2.2.2.2.2.2.1,m1_1.2.2.2.2.2.2.2.2.1,m1_1.2.2.2.2.2.2.2.2.2.1,m1_1.2.2.2.2.2.2.2.2.2.2.1,m1_1.2.2.2.2.2.2.2.2.2.2.2.1,m1_1.2.2.2.2.2.2.2.2.2.2.2.2.1,((0:Int),(0:Int),(0:Int),(0:Int),()),m1_1.2.2.2.2.2.2.2.2.2.2.2.2.2.2.1,m1_1.2.2.2.2.2.2.2.2.2.2.2.2.2.2.2.1,m1_1.2.2.2.2.2.2.2.2.2.2.2.2.2.2.2.2.1,m1_1.2.2.2.2.2.2.2.2.2.2.2.2.2.2.2.2.2.1,m1_1.2.2.2.2.2.2.2.2.2.2.2.2.2.2.2.2.2.2.1,m1_1.2.2.2.2.2.2.2.2.2.2.2.2.2.2.2.2.2.2.2.1,m1_1.2.2.2.2.2.2.2.2.2.2.2.2.2.2.2.2.2.2.2.2.1,m1_1.2.2.2.2.2.2.2.2.2.2.2.2.2.2.2.2.2.2.2.2.2.1,m1_1.2.2.2.2.2.2.2.2.2.2.2.2.2.2.2.2.2.2.2.2.2.2.1,m1_1.2.2.2.2.2.2.2.2.2.2.2.2.2.2.2.2.2.2.2.2.2.2.2.1,m1_1.2.2.2.2.2.2.2.2.2.2.2.2.2.2.2.2.2.2.2.2.2.2.2.2.1,m1_1.2.2.2.2.2.2.2.2.2.2.2.2.2.2.2.2.2.2.2.2.2.2.2.2.2.1,m1_1.2.2.2.2.2.2.2.2.2.2.2.2.2.2.2.2.2.2.2.2.2.2.2.2.2.2.1,m1_1.2.2.2.2.2.2.2.2.2.2.2.2.2.2.2.2.2.2.2.2.2.2.2.2.2.2.2.1,())
 let s_10:=(m1_1.1,m1_1.2.1,m1_1.2.2.1,m1_1.2.2.2.1,m1_1.2.2.2.2.1,m1_1.2.2.2.2.2.1,m1_1.2.2.2.2.2.2.1,m1_1.2.2.2.2.2.2.2.1,m1_1.2.2.2.2.2.2.2.2.1,m1_1.2.2.2.2.2.2.2.2.2.1,m1_1.2.2.2.2.2.2.2.2.2.2.1,m1_1.2.2.2.2.2.2.2.2.2.2.2.1,m1_1.2.2.2.2.2.2.2.2.2.2.2.2.1,m1_1.2.2.2.2.2.2.2.2.2.2.2.2.2.1,(0:Int),([]:List Int),(0:Int),([]:List D122),m1_1.2.2.2.2.2.2.2.2.2.2.2.2.2.2.2.2.2.2.1,m1_1.2.2.2.2.2.2.2.2.2.2.2.2.2.2.2.2.2.2.2.1,m1_1.2.2.2.2.2.2.2.2.2.2.2.2.2.2.2.2.2.2.2.2.1,m1_1.2.2.2.2.2.2.2.2.2.2.2.2.2.2.2.2.2.2.2.2.2.1,m1_1.2.2.2.2.2.2.2.2.2.2.2.2.2.2.2.2.2.2.2.2.2.2.1,m1_1.2.2.2.2.2.2.2.2.2.2.2.2.2.2.2.2.2.2.2.2.2.2.2.1,m1_1.2.2.2.2.2.2.2.2.2.2.2.2.2.2.2.2.2.2.2.2.2.2.2.2.1,m1_1.2.2.2.2.2.2.2.2.2.2.2.2.2.2.2.2.2.2.2.2.2.2.2.2.2.1,m1_1.2.2.2.2.2.2.2.2.2.2.2.2.2.2.2.2.2.2.2.2.2.2.2.2.2.2.1,m1_1.2.2.2.2.2.2.2.2.2.2.2.2.2.2.2.2.2.2.2.2.2.2.2.2.2.2.2.1,())
 let s_17:=(m1_1.1,m1_1.2.1,m1_1.2.2.1,m1_1.2.2.2.1,m1_1.2.2.2.2.1,m1_1.2.2.2.2.2.1,m1_1.2.2.2.2.2.2.1,m1_1.2.2.2.2.2.2.2.1,m1_1.2.2.2.2.2.2.2.2.1,m1_1.2.2.2.2.2.2.2.2.2.1,m1_1.2.2.2.2.2.2.2.2.2.2.1,m1_1.2.2.2.2.2.2.2.2.2.2.2.1,m1_1.2.2.2.2.2.2.2.2.2.2.2.2.1,((0:Int),(0:Int),(0:Int),(0:Int),()),m1_1.2.2.2.2.2.2.2.2.2.2.2.2.2.2.1,m1_1.2.2.2.2.2.2.2.2.2.2.2.2.2.2.2.1,m1_1.2.2.2.2.2.2.2.2.2.2.2.2.2.2.2.2.1,m1_1.2.2.2.2.2.2.2.2.2.2.2.2.2.2.2.2.2.1,([]:List D128),(0:Int),(0:Int),(0:Int),(0:Int),m1_1.2.2.2.2.2.2.2.2.2.2.2.2.2.2.2.2.2.2.2.2.2.2.2.1,m1_1.2.2.2.2.2.2.2.2.2.2.2.2.2.2.2.2.2.2.2.2.2.2.2.2.1,m1_1.2.2.2.2.2.2.2.2.2.2.2.2.2.2.2.2.2.2.2.2.2.2.2.2.2.1,m1_1.2.2.2.2.2.2.2.2.2.2.2.2.2.2.2.2.2.2.2.2.2.2.2.2.2.2.1,m1_1.2.2.2.2.2.2.2.2.2.2.2.2.2.2.2.2.2.2.2.2.2.2.2.2.2.2.2.1,())
 let s_22:=(m1_1.1,m1_1.2.1,m1_1.2.2.1,m1_1.2.2.2.1,m1_1.2.2.2.2.1,m1_1.2.2.2.2.2.1,m1_1.2.2.2.2.2.2.1,m1_1.2.2.2.2.2.2.2.1,m1_1.2.2.2.2.2.2.2.2.1,m1_1.2.2.2.2.2.2.2.2.2.1,m1_1.2.2.2.2.2.2.2.2.2.2.1,m1_1.2.2.2.2.2.2.2.2.2.2.2.1,m1_1.2.2.2.2.2.2.2.2.2.2.2.2.1,((0:Int),(0:Int),(0:Int),(0:Int),()),m1_1.2.2.2.2.2.2.2.2.2.2.2.2.2.2.1,m1_1.2.2.2.2.2.2.2.2.2.2.2.2.2.2.2.1,m1_1.2.2.2.2.2.2.2.2.2.2.2.2.2.2.2.2.1,m1_1.2.2.2.2.2.2.2.2.2.2.2.2.2.2.2.2.2.1,m1_1.2.2.2.2.2.2.2.2.2.2.2.2.2.2.2.2.2.2.1,m1_1.2.2.2.2.2.2.2.2.2.2.2.2.2.2.2.2.2.2.2.1,m1_1.2.2.2.2.2.2.2.2.2.2.2.2.2.2.2.2.2.2.2.2.1,m1_1.2.2.2.2.2.2.2.2.2.2.2.2.2.2.2.2.2.2.2.2.2.1,m1_1.2.2.2.2.2.2.2.2.2.2.2.2.2.2.2.2.2.2.2.2.2.2.1,([]:List UInt8),(0:Int),(0:Int),m1_1.2.2.2.2.2.2.2.2.2.2.2.2.2.2.2.2.2.2.2.2.2.2.2.2.2.2.1,m1_1.2.2.2.2.2.2.2.2.2.2.2.2.2.2.2.2.2.2.2.2.2.2.2.2.2.2.2.1,())
 let s_25:=(m1_1.1,m1_1.2.1,m1_1.2.2.1,m1_1.2.2.2.1,m1_1.2.2.2.2.1,m1_1.2.2.2.2.2.1,m1_1.2.2.2.2.2.2.1,m1_1.2.2.2.2.2.2.2.1,m1_1.2.2.2.2.2.2.2.2.1,m1_1.2.2.2.2.2.2.2.2.2.1,m1_1.2.2.2.2.2.2.2.2.2.2.1,m1_1.2.2.2.2.2.2.2.2.2.2.2.1,m1_1.2.2.2.2.2.2.2.2.2.2.2.2.1,m1_1.2.2.2.2.2.2.2.2.2.2.2.2.2.1,(0:Int),([]:List Int),m1_1.2.2.2.2.2.2.2.2.2.2.2.2.2.2.2.2.1,([]:List D122),m1_1.2.2.2.2.2.2.2.2.2.2.2.2.2.2.2.2.2.2.1,m1_1.2.2.2.2.2.2.2.2.2.2.2.2.2.2.2.2.2.2.2.1,m1_1.2.2.2.2.2.2.2.2.2.2.2.2.2.2.2.2.2.2.2.2.1,m1_1.2.2.2.2.2.2.2.2.2.2.2.2.2.2.2.2.2.2.2.2.2.1,m1_1.2.2.2.2.2.2.2.2.2.2.2.2.2.2.2.2.2.2.2.2.2.2.1,m1_1.2.2.2.2.2.2.2.2.2.2.2.2.2.2.2.2.2.2.2.2.2.2.2.1,m1_1.2.2.2.2.2.2.2.2.2.2.2.2.2.2.2.2.2.2.2.2.2.2.2.2.1,m1_1.2.2.2.2.2.2.2.2.2.2.2.2.2.2.2.2.2.2.2.2.2.2.2.2.2.1,m1_1.2.2.2.2.2.2.2.2.2.2.2.2.2.2.2.2.2.2.2.2.2.2.2.2.2.2.1,m1_1.2.2.2.2.2.2.2.2.2.2.2.2.2.2.2.2.2.2.2.2.2.2.2.2.2.2.2.1,())
 let s_27:=(m1_1.1,m1_1.2.1,m1_1.2.2.1,m1_1.2.2.2.1,m1_1.2.2.2.2.1,m1_1.2.2.2.2.2.1,m1_1.2.2.2.2.2.2.1,m1_1.2.2.2.2.2.2.2.1,m1_1.2.2.2.2.2.2.2.2.1,m1_1.2.2.2.2.2.2.2.2.2.1,m1_1.2.2.2.2.2.2.2.2.2.2.1,m1_1.2.2.2.2.2.2.2.2.2.2.2.1,m1_1.2.2.2.2.2.2.2.2.2.2.2.2.1,m1_1.2.2.2.2.2.2.2.2.2.2.2.2.2.1,(0:Int),([]:List Int),m1_1.2.2.2.2.2.2.2.2.2.2.2.2.2.2.2.2.1,m1_1.2.2.2.2.2.2.2.2.2.2.2.2.2.2.2.2.2.1,m1_1.2.2.2.2.2.2.2.2.2.2.2.2.2.2.2.2.2.2.1,m1_1.2.2.2.2.2.2.2.2.2.2.2.2.2.2.2.2.2.2.2.1,m1_1.2.2.2.2.2.2.2.2.2.2.2.2.2.2.2.2.2.2.2.2.1,m1_1.2.2.2.2.2.2.2.2.2.2.2.2.2.2.2.2.2.2.2.2.2.1,m1_1.2.2.2.2.2.2.2.2.2.2.2.2.2.2.2.2.2.2.2.2.2.2.1,m1_1.2.2.2.2.2.2.2.2.2.2.2.2.2.2.2.2.2.2.2.2.2.2.2.1,m1_1.2.2.2.2.2.2.2.2.2.2.2.2.2.2.2.2.2.2.2.2.2.2.2.2.1,m1_1.2.2.2.2.2.2.2.2.2.2.2.2.2.2.2.2.2.2.2.2.2.2.2.2.2.1,m1_1.2.2.2.2.2.2.2.2.2.2.2.2.2.2.2.2.2.2.2.2.2.2.2.2.2.2.1,m1_1.2.2.2.2.2.2.2.2.2.2.2.2.2.2.2.2.2.2.2.2.2.2.2.2.2.2.2.1,())
 let v54:=(m1_1.2.1==9)
 let s_28:=(m1_1.1,m1_1.2.1,m1_1.2.2.1,m1_1.2.2.2.1,m1_1.2.2.2.2.1,m1_1.2.2.2.2.2.1,m1_1.2.2.2.2.2.2.1,m1_1.2.2.2.2.2.2.2.1,m1_1.2.2.2.2.2.2.2.2.1,m1_1.2.2.2.2.2.2.2.2.2.1,m1_1.2.2.2.2.2.2.2.2.2.2.1,m1_1.2.2.2.2.2.2.2.2.2.2.2.1,m1_1.2.2.2.2.2.2.2.2.2.2.2.2.1,m1_1.2.2.2.2.2.2.2.2.2.2.2.2.2.1,m1_1.2.2.2.2.2.2.2.2.2.2.2.2.2.2.1,m1_1.2.2.2.2.2.2.2.2.2.2.2.2.2.2.2.1,m1_1.2.2.2.2.2.2.2.2.2.2.2.2.2.2.2.2.1,m1_1.2.2.2.2.2.2.2.2.2.2.2.2.2.2.2.2.2.1,m1_1.2.2.2.2.2.2.2.2.2.2.2.2.2.2.2.2.2.2.1,m1_1.2.2.2.2.2.2.2.2.2.2.2.2.2.2.2.2.2.2.2.1,m1_1.2.2.2.2.2.2.2.2.2.2.2.2.2.2.2.2.2.2.2.2.1,m1_1.2.2.2.2.2.2.2.2.2.2.2.2.2.2.2.2.2.2.2.2.2.1,m1_1.2.2.2.2.2.2.2.2.2.2.2.2.2.2.2.2.2.2.2.2.2.2.1,m1_1.2.2.2.2.2.2.2.2.2.2.2.2.2.2.2.2.2.2.2.2.2.2.2.1,m1_1.2.2.2.2.2.2.2.2.2.2.2.2.2.2.2.2.2.2.2.2.2.2.2.2.1,m1_1.2.2.2.2.2.2.2.2.2.2.2.2.2.2.2.2.2.2.2.2.2.2.2.2.2.1,(0:Int),m1_1.2.2.2.2.2.2.2.2.2.2.2.2.2.2.2.2.2.2.2.2.2.2.2.2.2.2.2.1,())
 let s_30:=(m1_1.1,m1_1.2.1,m1_1.2.2.1,m1_1.2.2.2.1,m1_1.2.2.2.2.1,m1_1.2.2.2.2.2.1,m1_1.2.2.2.2.2.2.1,m1_1.2.2.2.2.2.2.2.1,m1_1.2.2.2.2.2.2.2.2.1,m1_1.2.2.2.2.2.2.2.2.2.1,m1_1.2.2.2.2.2.2.2.2.2.2.1,m1_1.2.2.2.2.2.2.2.2.2.2.2.1,m1_1.2.2.2.2.2.2.2.2.2.2.2.2.1,m1_1.2.2.2.2.2.2.2.2.2.2.2.2.2.1,m1_1.2.2.2.2.2.2.2.2.2.2.2.2.2.2.1,m1_1.2.2.2.2.2.2.2.2.2.2.2.2.2.2.2.1,m1_1.2.2.2.2.2.2.2.2.2.2.2.2.2.2.2.2.1,m1_1.2.2.2.2.2.2.2.2.2.2.2.2.2.2.2.2.2.1,m1_1.2.2.2.2.2.2.2.2.2.2.2.2.2.2.2.2.2.2.1,m1_1.2.2.2.2.2.2.2.2.2.2.2.2.2.2.2.2.2.2.2.1,m1_1.2.2.2.2.2.2.2.2.2.2.2.2.2.2.2.2.2.2.2.2.1,m1_1.2.2.2.2.2.2.2.2.2.2.2.2.2.2.2.2.2.2.2.2.2.1,m1_1.2.2.2.2.2.2.2.2.2.2.2.2.2.2.2.2.2.2.2.2.2.2.1,m1_1.2.2.2.2.2.2.2.2.2.2.2.2.2.2.2.2.2.2.2.2.2.2.2.1,m1_1.2.2.2.2.2.2.2.2.2.2.2.2.2.2.2.2.2.2.2.2.2.2.2.2.1,m1_1.2.2.2.2.2.2.2.2.2.2.2.2.2.2.2.2.2.2.2.2.2.2.2.2.2.1,m1_1.2.2.2.2.2.2.2.2.2.2.2.2.2.2.2.2.2.2.2.2.2.2.2.2.2.2.1,((0:Int),(0:Int),(0:Int),([]:List D125),()),())
 let m1_6:=(bif (m1_1.2.1==6) then s_22 else (bif (m1_1.2.1==7) then s_25 else (bif (m1_1.2.1==8) then s_27 else (bif (bif v54 then v54 else (m1_1.2.1==10)) then s_28 else (bif (m1_1.2.1==11) then s_30 else m1_1)))))
 (((tU8 p0.2.1)∧(tU9 m1.2.1)),(bif (m1_1.2.1==2) then s_4 else (bif (m1_1.2.1==3) then s_6 else (bif (m1_1.2.1==4) then s_10 else (bif (m1_1.2.1==5) then s_17 else m1_6)))))
def sR3 (p0:D49):Prop:=(f83t p0).1
def f83 (p0:D49):D49:=(f83t p0).2
instance (p0:D49):Decidable (sR3 p0):=by
 unfold sR3 f83t
 try dsimp only
 infer_instance
def rN7:Am.Spec:=fnSpec [(0,(.val T49))] (.val T49) [] (fun x=>sR3 x.1) (fun x=>f83 x.1) (fun _=>())
def oO7:Ctx:=Cx tys [(76,sC3),(79,sC4)] [] [] false 62 [] []
theorem oO8:CtxOk Tryz.prog oO7:=xW4 xY7 rfl ⟨pU7,pU8,trivial⟩ rfl (by kernel_rfl)
theorem nC7:SpecOk Tryz.prog 83 rN7:=xY3 oO8 mixed Tryz.func83 (by kernel_rfl) (bs:=[]) (by kernel_rfl) trivial fun x=>by kernel_rfl
def f52t (p0:D49)(p1:Int)(p2:Int):Prop×Int:=
 let v15:=(f75 p0 p1 p2)
 let v17:=(v15 !=0)
 let v21:=(f76 p0.2.1)
 let v24:=(f77 p0.2.2.2.2.2.2.2.2.2.2.1)
 let v26:=(v24 !=0)
 let v31:=(f78 p0.2.2.2.2.2.2.2.2.2.2.1)
 let v35:=(v31.2.1 !=0)
 let v39:=(f79 p0.2.1)
 let v45:=(bif v39 then (!(f80 p0.2.2.2.2.2.2.2.2.2.2.2.1)) else false)
 let v47:=(f81 p0)
 let v49:=(v47 !=0)
 let v52:=(f83 p0)
 let m6_5:=(bif v17 then v15 else (bif ((v26||((!v26)&&v35))&&v21) then (bif v26 then v24 else v31.2.1) else (bif v45 then (8:Int) else (bif v49 then v47 else (bif (!(f82 v52)) then (1:Int) else (0:Int))))))
 (((sM0 p0 p1 p2)∧((!v17)=true→((tU8 p0.2.1)∧((v21=true→((vY6 p0.2.2.2.2.2.2.2.2.2.2.1)∧((!v26)=true→(sM2 p0.2.2.2.2.2.2.2.2.2.2.1))))∧((bif v21 then ((!v26)&&(!v35)) else true)=true→((tU9 p0.2.1)∧((v39=true→(sM3 p0.2.2.2.2.2.2.2.2.2.2.2.1))∧((!v45)=true→((sR1 p0)∧((!v49)=true→((sR3 p0)∧(sR2 v52)))))))))))),m6_5)
def sR4 (p0:D49)(p1:Int)(p2:Int):Prop:=(f52t p0 p1 p2).1
def f52 (p0:D49)(p1:Int)(p2:Int):Int:=(f52t p0 p1 p2).2
instance (p0:D49)(p1:Int)(p2:Int):Decidable (sR4 p0 p1 p2):=by
 unfold sR4 f52t
 try dsimp only
 infer_instance
def rN8:Am.Spec:=fnSpec [(0,(.val T49)),(1,vI),(2,vI)] vI [] (fun x=>sR4 x.1 x.2.1 x.2.2.1) (fun x=>f52 x.1 x.2.1 x.2.2.1) (fun _=>())
def oO9:Ctx:=Cx tys [(75,rJ7),(76,sC3),(77,uD9),(78,rJ9),(79,sC4),(80,rK),(81,rN5),(82,rN6),(83,rN7)] [] [] false 55 [] []
theorem oP:CtxOk Tryz.prog oO9:=xW4 xY7 rfl ⟨nC1,pU7,rJ8,nC2,pU8,nC3,nC5,nC6,nC7,trivial⟩ rfl (by kernel_rfl)
theorem nC8:SpecOk Tryz.prog 52 rN8:=xY3 oP mixed Tryz.func52 (by kernel_rfl) (bs:=[]) (by kernel_rfl) trivial fun x=>by kernel_rfl
abbrev wH9:Type:=((List (Int×Int×Unit))×Int×D28×Unit)
abbrev wD1:Type:=(Int×Unit)
def wP7 (y:wH9)(x:wD1):Prop×Bool×wD1×Bool×Bool:=
 let a2:=y.2.1
 let a3:=y.2.2.1
 let a7:=x.1
 let v16:=(a7 !=0)
 let v24:=(a7==(nth a3.2.2.2.1 a2 Z49).2.2.1)
 let v29:=(Option.getD (yI6 (.int .i64) (.int .i64) a7 y.1) (0:Int))
 ((v16=true→(InB a2 (len a3.2.2.2.1)∧((!v24)=true→InB v29 (len a3.2.2.2.1)))),(v16&&(!v24)),((nth a3.2.2.2.1 v29 Z49).2.2.1,()),(v16&&v24),(!v16))
def wU0 (y:wH9)(x:wD1):Prop:=(wP7 y x).1
def wI (y:wH9)(x:wD1):Bool:=(wP7 y x).2.1
def wB1 (y:wH9)(x:wD1):wD1:=(wP7 y x).2.2.1
def wU1 (y:wH9)(x:wD1):Bool:=(wP7 y x).2.2.2.1
def sR5 (y:wH9)(x:wD1):Bool:=(wP7 y x).2.2.2.2
instance (y:wH9)(x:wD1):Decidable (wU0 y x):=by
 unfold wU0 wP7
 try dsimp only
 infer_instance
def vY9 (y:wH9)(x:wD1):Bool:=
 true
def uX1:List (Nat×Sh):=[(1,(.own (xD1 (.int .i64) (.int .i64)) 400100 true)),(6,vB)]
def uX2:List (Nat×Sh):=[(1,(.own (xD1 (.int .i64) (.int .i64)) 400100 true))]
def vZ:St→Option Out:=xP5 [(1,(.own (xD1 (.int .i64) (.int .i64)) 400100 true)),(2,vI),(3,(.box T28 (.val T28)))] [(7,vI)] wI wB1 wU0 fun y x=>[ex 1 (some (wU1 y x)) uX1 (y.1,(vY9 y x),()),ex 2 (some (sR5 y x)) uX2 (y.1,())]
def tM5 (p0:D28)(p1:(List (Int×Int×Unit)))(p2:Int):Prop×Bool×((List (Int×Int×Unit))×Unit):=
 let v11:=(p2-1)
 let y2:=(p1,p2,p0,())
 let x2:=((nth p0.2.2.2.1 v11 Z49).1,())
 let e2:=(zC1 (wI y2) (wB1 y2) x2)
 let q2_1:=(wU1 y2 e2)
 ((InR (p2-1)∧(InB v11 (len p0.2.2.2.1)∧(Am.Ends (wI y2) (wB1 y2) (wU0 y2) x2))),(bif q2_1 then (vY9 y2 e2) else false),((bif q2_1 then p1 else p1),()))
def vQ8 (p0:D28)(p1:(List (Int×Int×Unit)))(p2:Int):Prop:=(tM5 p0 p1 p2).1
def tM6 (p0:D28)(p1:(List (Int×Int×Unit)))(p2:Int):Bool:=(tM5 p0 p1 p2).2.1
def vB9 (p0:D28)(p1:(List (Int×Int×Unit)))(p2:Int):((List (Int×Int×Unit))×Unit):=(tM5 p0 p1 p2).2.2
instance (p0:D28)(p1:(List (Int×Int×Unit)))(p2:Int):Decidable (vQ8 p0 p1 p2):=by
 unfold vQ8 tM5
 try dsimp only
 infer_instance
def tM7:Am.Spec:=fnSpec [(0,(.val T28)),(1,(.own (xD1 (.int .i64) (.int .i64)) 400100 true)),(2,vI)] vB [(1,(.own (xD1 (.int .i64) (.int .i64)) 400100 true))] (fun x=>vQ8 x.1 x.2.1 x.2.2.1) (fun x=>tM6 x.1 x.2.1 x.2.2.1) (fun x=>vB9 x.1 x.2.1 x.2.2.1)
def tY0:Ctx:={ Cx tys [] [(2,vZ)] [] false 33 [1] [] with maps:=maps }
theorem tY1:CtxOk Tryz.prog tY0:=xW4 xY7 (by kernel_rfl) trivial rfl (by kernel_rfl)
noncomputable def rC5:Code:=Tryz.f53.body.getD .skip
noncomputable def sR6:Code:=xX3 rC5 0
theorem sR7:yU9 Tryz.prog tY0 sR6:=xY2 tY1 mixed (sp:=vZ) rfl [uX1,uX2] (bs:=[]) (by kernel_rfl) trivial (by kernel_rfl) (by kernel_rfl) fun y x=>by kernel_rfl
theorem qI3:SpecOk Tryz.prog 53 tM7:=xY3 tY1 mixed Tryz.func53 (by kernel_rfl) (bs:=[sR6]) (by kernel_rfl) ⟨sR7,trivial⟩ fun x=>by kernel_rfl
abbrev vC:Type:=(D28×(List D49)×Int×Unit)
abbrev wL8:Type:=((List (Int×Int×Unit))×(List Int)×Int×Unit)
def vL5 (y:vC)(x:wL8):Prop×Bool×wL8×Bool×Bool:=
 let a1:=y.1
 let a18:=y.2.1
 let a3:=x.1
 let a4:=x.2.1
 let a20:=x.2.2.1
 let v21:=(decide (a20<y.2.2.1))
 let v23:=(nth a18 a20 Z49)
 let v32:=((f52 v23 a1.1 a1.2.1)!=0)
 let v43:=(bif (decide (v23.1<1)) then true else (decide (v23.1≥a1.2.2.2.2.1)))
 let v50:=(Option.isSome (yI6 (.int .i64) (.int .i64) v23.1 a3))
 let l1004:=(List.set a4 (Int.toNat a20) (1:Int))
 let v57:=(v23.2.2.1 !=0)
 let v63:=(Option.getD (yI6 (.int .i64) (.int .i64) v23.2.2.1 a3) (0:Int))
 let v66:=(!(Option.isSome (yI6 (.int .i64) (.int .i64) v23.2.2.1 a3)))
 let v75:=(bif v66 then true else ((nth a1.2.2.2.1 v63 Z49).2.1 !=1))
 let v80:=(!(tM6 a1 a3 a20))
 let v86:=(nth l1004 v63 (0:Int))
 let c_3:=(bif v57 then ((!v75)&&(!v80)) else true)
 let m4:=(bif v57 then (List.set l1004 (Int.toNat a20) (v86+1)) else l1004)
 let v93:=(decide ((nth m4 a20 (0:Int))>8))
 let c_14:=((!v32)&&((!v43)&&((!v50)&&(c_3&&(!v93)))))
 ((v21=true→(InB a20 (len a18)∧((sR4 v23 a1.1 a1.2.1)∧(((!v32)=true→((!v43)=true→((!v50)=true→(InB a20 (len a4)∧(a20<len a4∧((v57=true→(((!v66)=true→InB v63 (len a1.2.2.2.1))∧((!v75)=true→((vQ8 a1 a3 a20)∧(0<List.length a3∧(List.length a3=List.length a3∧(List.length a3=List.length a3∧(List.length a3=List.length a3∧(List.length a3=List.length a3∧((!v80)=true→(InB v63 (len l1004)∧(v63<len l1004∧(InR (v86+1)∧(InB a20 (len l1004)∧a20<len l1004))))))))))))))∧(c_3=true→(InB a20 (len m4)∧a20<len m4))))))))∧(c_14=true→InR (a20+1)))))),(v21&&c_14),((xL9 (.int .i64) (.int .i64) v23.1 a20 (bif v57 then (vB9 a1 a3 a20).1 else a3)),m4,(a20+1),()),(v21&&(v32||((!v32)&&(v43||((!v43)&&(v50||((!v50)&&(((v75||((!v75)&&v80))&&v57)||(c_3&&v93))))))))),(!v21))
def vI0 (y:vC)(x:wL8):Prop:=(vL5 y x).1
def wJ4 (y:vC)(x:wL8):Bool:=(vL5 y x).2.1
def xZ6 (y:vC)(x:wL8):wL8:=(vL5 y x).2.2.1
def wZ6 (y:vC)(x:wL8):Bool:=(vL5 y x).2.2.2.1
def qI4 (y:vC)(x:wL8):Bool:=(vL5 y x).2.2.2.2
instance (y:vC)(x:wL8):Decidable (vI0 y x):=by
 unfold vI0 vL5
 try dsimp only
 infer_instance
def vL6 (y:vC)(x:wL8):Int:=
 let a1:=y.1
 let a3:=x.1
 let a20:=x.2.2.1
 let v23:=(nth y.2.1 a20 Z49)
 let v30:=(f52 v23 a1.1 a1.2.1)
 let v75:=(bif (!(Option.isSome (yI6 (.int .i64) (.int .i64) v23.2.2.1 a3))) then true else ((nth a1.2.2.2.1 (Option.getD (yI6 (.int .i64) (.int .i64) v23.2.2.1 a3) (0:Int)) Z49).2.1 !=1))
 let m2_2:=(bif (Option.isSome (yI6 (.int .i64) (.int .i64) v23.1 a3)) then (10:Int) else (bif ((v75||((!v75)&&(!(tM6 a1 a3 a20))))&&(v23.2.2.1 !=0)) then (bif v75 then (9:Int) else (24:Int)) else (12:Int)))
 (bif (v30 !=0) then v30 else (bif (bif (decide (v23.1<1)) then true else (decide (v23.1≥a1.2.2.2.2.1))) then (2:Int) else m2_2))
def tM8:St→Option Out:=xP5 [(1,(.box T28 (.val T28))),(18,(.val (.sl T49))),(19,vI)] [(3,(.own (xD1 (.int .i64) (.int .i64)) 1003 true)),(4,(.own (.int .i64) 1004 true)),(20,vI)] wJ4 xZ6 vI0 fun y x=>[ex 1 (some (wZ6 y x)) [(2,vI)] ((vL6 y x),()),ex 2 (some (qI4 y x)) [] ()]
def f24t (p0:D28):Prop×Int:=
 let v15:=(len p0.2.2.2.1)
 let y4:=(p0,p0.2.2.2.1,(len p0.2.2.2.1),())
 let x4:=(([]:List (Int×Int×Unit)),(List.replicate (Int.toNat v15) (0:Int)),(0:Int),())
 let e4:=(zC1 (wJ4 y4) (xZ6 y4) x4)
 (((0≤v15∧v15≤v15∧v15≤4294967296)∧(Am.Ends (wJ4 y4) (xZ6 y4) (vI0 y4) x4)),(bif (wZ6 y4 e4) then (vL6 y4 e4) else (0:Int)))
def sR8 (p0:D28):Prop:=(f24t p0).1
def f24 (p0:D28):Int:=(f24t p0).2
instance (p0:D28):Decidable (sR8 p0):=by
 unfold sR8 f24t
 try dsimp only
 infer_instance
def rN9:Am.Spec:=fnSpec [(0,(.val T28))] vI [] (fun x=>sR8 x.1) (fun x=>f24 x.1) (fun _=>())
def qI5:Ctx:={ Cx tys [(52,rN8),(53,tM7)] [(4,tM8)] [(3,[(4,0,12,1003)]),(5,[(4,0,16,1004)])] false 99 [] [16] with wants:=[(53,[1])],maps:=maps }
theorem qI6:CtxOk Tryz.prog qI5:=xW4 xY7 (by kernel_rfl) ⟨nC8,qI3,trivial⟩ rfl (by kernel_rfl)
noncomputable def pI3:Code:=Tryz.f24.body.getD .skip
noncomputable def pV0:Code:=xX3 pI3 0
theorem qI7:yU9 Tryz.prog qI5 pV0:=xY2 qI6 mixed (sp:=tM8) rfl [[(2,vI)],[]] (bs:=[]) (by kernel_rfl) trivial (by kernel_rfl) (by kernel_rfl) fun y x=>by kernel_rfl
theorem nC9:SpecOk Tryz.prog 24 rN9:=xY3 qI6 mixed Tryz.func24 (by kernel_rfl) (bs:=[pV0]) (by kernel_rfl) ⟨qI7,trivial⟩ fun x=>by kernel_rfl
abbrev vL7:Type:=(D28×D49×(List D49)×Int×Int×Unit)
abbrev vC0:Type:=(Int×Unit)
def tM9 (y:vL7)(x:vC0):Prop×Bool×vC0:=
 let a1:=y.1
 let a5:=x.1
 let v20:=(decide (a5≥0))
 let v30:=((nth a1.2.2.2.1 a5 Z49).2.2.1 !=y.2.1.2.2.1)
 let v39:=(bif v20 then (bif v30 then true else (nth a1.2.2.2.1 a5 Z49).2.2.2.2.2.2.1) else false)
 (((v20=true→InB a5 (len a1.2.2.2.1))∧(((v20&&(!v30))=true→InB a5 (len a1.2.2.2.1))∧(v39=true→InR (a5-1)))),v39,((a5-1),()))
def vI1 (y:vL7)(x:vC0):Prop:=(tM9 y x).1
def wV7 (y:vL7)(x:vC0):Bool:=(tM9 y x).2.1
def wI0 (y:vL7)(x:vC0):vC0:=(tM9 y x).2.2
instance (y:vL7)(x:vC0):Decidable (vI1 y x):=by
 unfold vI1 tM9
 try dsimp only
 infer_instance
def uB5 (y:vL7)(x:vC0):Int:=
 x.1
def sR9:List (Nat×Sh):=[(1,(.box T28 (.val T28))),(5,vI),(7,(.val (.sl T49))),(8,vI),(9,vI)]
def tN:St→Option Out:=xP5 [(1,(.box T28 (.val T28))),(4,(.box T49 (.val T49))),(7,(.val (.sl T49))),(8,vI),(9,vI)] [(5,vI)] wV7 wI0 vI1 fun y x=>[ex 4 none sR9 (y.1,(uB5 y x),y.2.2.1,y.2.2.2.1,y.2.2.2.2.1,())]
abbrev vC1:Type:=(Unit)
abbrev wQ3:Type:=(D28×(List D49)×Int×Int×Unit)
def uB6 (y:vC1)(x:wQ3):Prop×Bool×wQ3×Bool×Bool:=
 let a1:=x.1
 let a7:=x.2.1
 let a8:=x.2.2.1
 let a9:=x.2.2.2.1
 let v10:=(decide (a9<a8))
 let v12:=(nth a7 a9 Z49)
 let v16:=(!v12.2.2.2.2.2.2.1)
 let y6:=(a1,v12,a7,a8,a9,())
 let x6:=((a9-1),())
 let r6_4_0:=(uB5 y6 (zC1 (wV7 y6) (wI0 y6) x6))
 let v43:=(decide (r6_4_0<0))
 let v47:=(nth a1.2.2.2.1 r6_4_0 Z49)
 let v49:=(f54 v47)
 let c_5:=(v16||((!v16)&&((!v43)&&(!v49))))
 let m9:=(bif v16 then a9 else a9)
 ((v10=true→(InB a9 (len a7)∧(((!v16)=true→(InR (a9-1)∧((Am.Ends (wV7 y6) (wI0 y6) (vI1 y6) x6)∧((!v43)=true→(InB r6_4_0 (len a1.2.2.2.1)∧(tD5 v47))))))∧(c_5=true→InR (m9+1))))),(v10&&c_5),((bif v16 then a1 else a1),(bif v16 then a7 else a7),(bif v16 then a8 else a8),(m9+1),()),(v10&&((!v16)&&(v43||((!v43)&&v49)))),(!v10))
def vQ9 (y:vC1)(x:wQ3):Prop:=(uB6 y x).1
def tA6 (y:vC1)(x:wQ3):Bool:=(uB6 y x).2.1
def wP8 (y:vC1)(x:wQ3):wQ3:=(uB6 y x).2.2.1
def sS (y:vC1)(x:wQ3):Bool:=(uB6 y x).2.2.2.1
def qI8 (y:vC1)(x:wQ3):Bool:=(uB6 y x).2.2.2.2
instance (y:vC1)(x:wQ3):Decidable (vQ9 y x):=by
 unfold vQ9 uB6
 try dsimp only
 infer_instance
def tN0 (y:vC1)(x:wQ3):Int:=
 let a7:=x.2.1
 let a9:=x.2.2.2.1
 let y6:=(x.1,(nth a7 a9 Z49),a7,x.2.2.1,a9,())
 (bif (decide ((uB5 y6 (zC1 (wV7 y6) (wI0 y6) ((a9-1),())))<0)) then (14:Int) else (8:Int))
def tN1:St→Option Out:=xP5 [] [(1,(.box T28 (.val T28))),(7,(.val (.sl T49))),(8,vI),(9,vI)] tA6 wP8 vQ9 fun y x=>[ex 1 (some (sS y x)) [(2,vI)] ((tN0 y x),()),ex 2 (some (qI8 y x)) [] ()]
def f25t (p0:D28):Prop×Int:=
 let x2:=(p0,p0.2.2.2.1,(len p0.2.2.2.1),(0:Int),())
 let e2:=(zC1 (tA6 ()) (wP8 ()) x2)
 ((Am.Ends (tA6 ()) (wP8 ()) (vQ9 ()) x2),(bif (sS () e2) then (tN0 () e2) else (0:Int)))
def sS0 (p0:D28):Prop:=(f25t p0).1
def f25 (p0:D28):Int:=(f25t p0).2
instance (p0:D28):Decidable (sS0 p0):=by
 unfold sS0 f25t
 try dsimp only
 infer_instance
def rO:Am.Spec:=fnSpec [(0,(.val T28))] vI [] (fun x=>sS0 x.1) (fun x=>f25 x.1) (fun _=>())
def rC6:Ctx:=Cx tys [(54,uZ2)] [(6,tN),(2,tN1)] [] false 51 [] []
theorem rC7:CtxOk Tryz.prog rC6:=xW4 xY7 rfl ⟨qD4,trivial⟩ rfl (by kernel_rfl)
noncomputable def pI4:Code:=Tryz.f25.body.getD .skip
noncomputable def qI9:Code:=xX3 pI4 0
noncomputable def pV1:Code:=xX3 qI9 0
theorem qJ:yU9 Tryz.prog rC6 pV1:=xY2 rC7 mixed (sp:=tN) rfl [sR9] (bs:=[]) (by kernel_rfl) trivial (by kernel_rfl) (by kernel_rfl) fun y x=>by kernel_rfl
theorem qJ0:yU9 Tryz.prog rC6 qI9:=xY2 rC7 mixed (sp:=tN1) rfl [[(2,vI)],[]] (bs:=[pV1]) (by kernel_rfl) ⟨qJ,trivial⟩ (by kernel_rfl) (by kernel_rfl) fun y x=>by kernel_rfl
theorem nD:SpecOk Tryz.prog 25 rO:=xY3 rC7 mixed Tryz.func25 (by kernel_rfl) (bs:=[qI9]) (by kernel_rfl) ⟨qJ0,trivial⟩ fun x=>by kernel_rfl
abbrev vC2:Type:=((List UInt8)×Int×Unit)
abbrev wQ4:Type:=(Int×Unit)
def uO4 (y:vC2)(x:wQ4):Prop×Bool×wQ4×Bool×Bool:=
 let a0:=y.1
 let a14:=x.1
 let v15:=(decide (a14<y.2.1))
 let v20:=(decide ((xX6 a0 a14)<33))
 let v26:=(bif v20 then true else (decide ((xX6 a0 a14)>126)))
 ((v15=true→(InB a14 (len a0)∧(((!v20)=true→InB a14 (len a0))∧((!v26)=true→InR (a14+1))))),(v15&&(!v26)),((a14+1),()),(v15&&v26),(!v15))
def uJ8 (y:vC2)(x:wQ4):Prop:=(uO4 y x).1
def sF4 (y:vC2)(x:wQ4):Bool:=(uO4 y x).2.1
def uB7 (y:vC2)(x:wQ4):wQ4:=(uO4 y x).2.2.1
def sS1 (y:vC2)(x:wQ4):Bool:=(uO4 y x).2.2.2.1
def qJ1 (y:vC2)(x:wQ4):Bool:=(uO4 y x).2.2.2.2
instance (y:vC2)(x:wQ4):Decidable (uJ8 y x):=by
 unfold uJ8 uO4
 try dsimp only
 infer_instance
def tN2 (y:vC2)(x:wQ4):Bool:=
 false
def tN3:St→Option Out:=xP5 [(0,vS),(13,vI)] [(14,vI)] sF4 uB7 uJ8 fun y x=>[ex 1 (some (sS1 y x)) [(2,vB)] ((tN2 y x),()),ex 2 (some (qJ1 y x)) [] ()]
def f55t (p0:List UInt8):Prop×Bool:=
 let v11:=(bif (decide ((len p0)<1)) then true else (decide ((len p0)>32)))
 let y4:=(p0,(len p0),())
 let x4:=((0:Int),())
 let e4:=(zC1 (sF4 y4) (uB7 y4) x4)
 (((!v11)=true→(Am.Ends (sF4 y4) (uB7 y4) (uJ8 y4) x4)),(bif v11 then false else (bif (sS1 y4 e4) then (tN2 y4 e4) else true)))
def sS2 (p0:List UInt8):Prop:=(f55t p0).1
def f55 (p0:List UInt8):Bool:=(f55t p0).2
instance (p0:List UInt8):Decidable (sS2 p0):=by
 unfold sS2 f55t
 try dsimp only
 infer_instance
def rO0:Am.Spec:=fnSpec [(0,vS)] vB [] (fun x=>sS2 x.1) (fun x=>f55 x.1) (fun _=>())
def qJ2:Ctx:=Cx tys [] [(4,tN3)] [] false 28 [] []
theorem qJ3:CtxOk Tryz.prog qJ2:=xW4 xY7 rfl trivial rfl (by kernel_rfl)
noncomputable def pI5:Code:=Tryz.f55.body.getD .skip
noncomputable def pV2:Code:=xX3 pI5 0
theorem qJ4:yU9 Tryz.prog qJ2 pV2:=xY2 qJ3 mixed (sp:=tN3) rfl [[(2,vB)],[]] (bs:=[]) (by kernel_rfl) trivial (by kernel_rfl) (by kernel_rfl) fun y x=>by kernel_rfl
theorem nD0:SpecOk Tryz.prog 55 rO0:=xY3 qJ3 mixed Tryz.func55 (by kernel_rfl) (bs:=[pV2]) (by kernel_rfl) ⟨qJ4,trivial⟩ fun x=>by kernel_rfl
abbrev vC3:Type:=(D28×D90×(List D90)×Int×Int×(List D90)×Int×Unit)
abbrev wQ5:Type:=(Int×Unit)
def uO5 (y:vC3)(x:wQ5):Prop×Bool×wQ5×Bool×Bool:=
 let a4:=y.2.1
 let a53:=y.2.2.2.2.2.1
 let a55:=x.1
 let v56:=(decide (a55<y.2.2.2.2.2.2.1))
 let v57:=(nth a53 a55 Z90)
 let v70:=(bif (v57.1==a4.1) then true else (v57.2.1==a4.2.1))
 ((v56=true→(InB a55 (len a53)∧((!v70)=true→InR (a55+1)))),(v56&&(!v70)),((a55+1),()),(v56&&v70),(!v56))
def uJ9 (y:vC3)(x:wQ5):Prop:=(uO5 y x).1
def tA7 (y:vC3)(x:wQ5):Bool:=(uO5 y x).2.1
def vL8 (y:vC3)(x:wQ5):wQ5:=(uO5 y x).2.2.1
def tN4 (y:vC3)(x:wQ5):Bool:=(uO5 y x).2.2.2.1
def sS3 (y:vC3)(x:wQ5):Bool:=(uO5 y x).2.2.2.2
instance (y:vC3)(x:wQ5):Decidable (uJ9 y x):=by
 unfold uJ9 uO5
 try dsimp only
 infer_instance
def tN5 (y:vC3)(x:wQ5):Int:=
 (10:Int)
def sS4:List (Nat×Sh):=[(1,(.box T28 (.val T28))),(4,(.box T90 (.val T90))),(9,(.val (.sl T90))),(10,vI),(11,vI)]
def tN6:St→Option Out:=xP5 [(1,(.box T28 (.val T28))),(4,(.box T90 (.val T90))),(9,(.val (.sl T90))),(10,vI),(11,vI),(53,(.val (.sl T90))),(54,vI)] [(55,vI)] tA7 vL8 uJ9 fun y x=>[ex 1 (some (tN4 y x)) [(2,vI)] ((tN5 y x),()),ex 4 (some (sS3 y x)) sS4 (y.1,y.2.1,y.2.2.1,y.2.2.2.1,y.2.2.2.2.1,())]
abbrev vC4:Type:=(D28×(List D90)×Int×Unit)
abbrev wQ6:Type:=(Int×Unit)
def uO6 (y:vC4)(x:wQ6):Prop×Bool×wQ6×Bool×Bool:=
 let a1:=y.1
 let a9:=y.2.1
 let a10:=y.2.2.1
 let a11:=x.1
 let v12:=(decide (a11<a10))
 let v14:=(nth a9 a11 Z90)
 let v19:=(!(f55 v14.2.1))
 let v44:=(bif (bif (bif (bif (decide (v14.1<1)) then true else (decide (v14.1≥a1.2.2.2.2.1))) then true else (decide (v14.2.2.1<0))) then true else (decide (v14.2.2.1>2))) then true else (decide (v14.2.2.2.1<1)))
 let v49:=(bif v44 then true else (decide (v14.2.2.2.1>1073741824)))
 let v53:=(List.take (Int.toNat a11) a1.2.2.2.2.2.2.2.1)
 let y9:=(a1,v14,a9,a10,a11,v53,(len v53),())
 let x9:=((0:Int),())
 let e9:=(zC1 (tA7 y9) (vL8 y9) x9)
 let q9_4:=(sS3 y9 e9)
 let v76:=((f56 v14.2.2.2.2.1)!=0)
 let c_8:=((!v19)&&((!v49)&&(q9_4&&(!v76))))
 ((v12=true→(InB a11 (len a9)∧((sS2 v14.2.1)∧(((!v19)=true→((!v49)=true→((0≤a11∧a11≤len a1.2.2.2.2.2.2.2.1)∧((Am.Ends (tA7 y9) (vL8 y9) (uJ9 y9) x9)∧(q9_4=true→(tV v14.2.2.2.2.1))))))∧(c_8=true→InR (a11+1)))))),(v12&&c_8),((a11+1),()),(v12&&(v19||((!v19)&&(v49||((!v49)&&((tN4 y9 e9)||(q9_4&&v76))))))),(!v12))
def uK (y:vC4)(x:wQ6):Prop:=(uO6 y x).1
def sF5 (y:vC4)(x:wQ6):Bool:=(uO6 y x).2.1
def uB8 (y:vC4)(x:wQ6):wQ6:=(uO6 y x).2.2.1
def sS5 (y:vC4)(x:wQ6):Bool:=(uO6 y x).2.2.2.1
def qJ5 (y:vC4)(x:wQ6):Bool:=(uO6 y x).2.2.2.2
instance (y:vC4)(x:wQ6):Decidable (uK y x):=by
 unfold uK uO6
 try dsimp only
 infer_instance
def tN7 (y:vC4)(x:wQ6):Int:=
 let a1:=y.1
 let a9:=y.2.1
 let a11:=x.1
 let v14:=(nth a9 a11 Z90)
 let v44:=(bif (bif (bif (bif (decide (v14.1<1)) then true else (decide (v14.1≥a1.2.2.2.2.1))) then true else (decide (v14.2.2.1<0))) then true else (decide (v14.2.2.1>2))) then true else (decide (v14.2.2.2.1<1)))
 let v53:=(List.take (Int.toNat a11) a1.2.2.2.2.2.2.2.1)
 let y9:=(a1,v14,a9,y.2.2.1,a11,v53,(len v53),())
 let e9:=(zC1 (tA7 y9) (vL8 y9) ((0:Int),()))
 let m2_2:=(bif (!(f55 v14.2.1)) then (13:Int) else (bif (bif v44 then true else (decide (v14.2.2.2.1>1073741824))) then (2:Int) else (bif (tN4 y9 e9) then (tN5 y9 e9) else (f56 v14.2.2.2.2.1))))
 m2_2
def tN8:St→Option Out:=xP5 [(1,(.box T28 (.val T28))),(9,(.val (.sl T90))),(10,vI)] [(11,vI)] sF5 uB8 uK fun y x=>[ex 1 (some (sS5 y x)) [(2,vI)] ((tN7 y x),()),ex 2 (some (qJ5 y x)) [] ()]
def f26t (p0:D28):Prop×Int:=
 let y2:=(p0,p0.2.2.2.2.2.2.2.1,(len p0.2.2.2.2.2.2.2.1),())
 let x2:=((0:Int),())
 let e2:=(zC1 (sF5 y2) (uB8 y2) x2)
 ((Am.Ends (sF5 y2) (uB8 y2) (uK y2) x2),(bif (sS5 y2 e2) then (tN7 y2 e2) else (0:Int)))
def sS6 (p0:D28):Prop:=(f26t p0).1
def f26 (p0:D28):Int:=(f26t p0).2
instance (p0:D28):Decidable (sS6 p0):=by
 unfold sS6 f26t
 try dsimp only
 infer_instance
def rO1:Am.Spec:=fnSpec [(0,(.val T28))] vI [] (fun x=>sS6 x.1) (fun x=>f26 x.1) (fun _=>())
def rC8:Ctx:=Cx tys [(55,rO0),(56,sC6)] [(9,tN6),(2,tN8)] [] false 79 [] []
theorem rC9:CtxOk Tryz.prog rC8:=xW4 xY7 rfl ⟨nD0,pV,trivial⟩ rfl (by kernel_rfl)
noncomputable def pI6:Code:=Tryz.f26.body.getD .skip
noncomputable def qJ6:Code:=xX3 pI6 0
noncomputable def pV3:Code:=xX3 qJ6 0
theorem qJ7:yU9 Tryz.prog rC8 pV3:=xY2 rC9 mixed (sp:=tN6) rfl [[(2,vI)],sS4] (bs:=[]) (by kernel_rfl) trivial (by kernel_rfl) (by kernel_rfl) fun y x=>by kernel_rfl
theorem qJ8:yU9 Tryz.prog rC8 qJ6:=xY2 rC9 mixed (sp:=tN8) rfl [[(2,vI)],[]] (bs:=[pV3]) (by kernel_rfl) ⟨qJ7,trivial⟩ (by kernel_rfl) (by kernel_rfl) fun y x=>by kernel_rfl
theorem nD1:SpecOk Tryz.prog 26 rO1:=xY3 rC9 mixed Tryz.func26 (by kernel_rfl) (bs:=[qJ6]) (by kernel_rfl) ⟨qJ8,trivial⟩ fun x=>by kernel_rfl
def rD (p0:D90)(p1:D49):Prop×Bool:=
 (True,(p0.1==p1.2.2.2.2.2.2.2.2.2.2.2.2.2.2.2.2.2.2.2.2.2.2.2.2.2.2.1))
def uK0 (p0:D90)(p1:D49):Prop:=(rD p0 p1).1
def pV4 (p0:D90)(p1:D49):Bool:=(rD p0 p1).2
instance (p0:D90)(p1:D49):Decidable (uK0 p0 p1):=by
 unfold uK0 rD
 try dsimp only
 infer_instance
def tN9:Am.Spec:=fnSpec [(0,(.val T90)),(1,(.val (.ptr T49)))] vB [] (fun x=>uK0 x.1 x.2.1) (fun x=>pV4 x.1 x.2.1) (fun _=>())
def qA1:Ctx:=Cx tys [] [] [] false 9 [] []
theorem qA2:CtxOk Tryz.prog qA1:=xW4 xY7 rfl trivial rfl (by kernel_rfl)
theorem qJ9:SpecOk Tryz.prog 58 tN9:=xY3 qA2 mixed Tryz.func58 (by kernel_rfl) (bs:=[]) (by kernel_rfl) trivial fun x=>by kernel_rfl
abbrev wI1:Type:=((List D90)×(D49×Unit)×Int×Unit)
abbrev wD2:Type:=(Int×Unit)
def wY (y:wI1)(x:wD2):Prop×Bool×wD2×Bool×Bool:=
 let a0:=y.1
 let a1:=y.2.1
 let a8:=x.1
 let v9:=(decide (a8<y.2.2.1))
 let v14:=(nth a0 a8 Z90)
 let v16:=(pV4 v14 a1.1)
 ((v9=true→(InB a8 (len a0)∧((uK0 v14 a1.1)∧((!v16)=true→InR (a8+1))))),(v9&&(!v16)),((a8+1),()),(v9&&v16),(!v9))
def vC5 (y:wI1)(x:wD2):Prop:=(wY y x).1
def uB9 (y:wI1)(x:wD2):Bool:=(wY y x).2.1
def vE1 (y:wI1)(x:wD2):wD2:=(wY y x).2.2.1
def uX3 (y:wI1)(x:wD2):Bool:=(wY y x).2.2.2.1
def sS7 (y:wI1)(x:wD2):Bool:=(wY y x).2.2.2.2
instance (y:wI1)(x:wD2):Decidable (vC5 y x):=by
 unfold vC5 wY
 try dsimp only
 infer_instance
def vZ0 (y:wI1)(x:wD2):Int:=
 x.1
def vZ1:St→Option Out:=xP5 [(0,(.val (.sl T90))),(1,(.fn 58 (.cons (.val (.ptr T49)) .nl))),(7,vI)] [(8,vI)] uB9 vE1 vC5 fun y x=>[ex 1 (some (uX3 y x)) [(4,vI)] ((vZ0 y x),()),ex 2 (some (sS7 y x)) [] ()]
def rD0 (p0:List D90)(p1:(D49×Unit)):Prop×Int:=
 let y2:=(p0,(p1.1,()),(len p0),())
 let x2:=((0:Int),())
 let e2:=(zC1 (uB9 y2) (vE1 y2) x2)
 ((Am.Ends (uB9 y2) (vE1 y2) (vC5 y2) x2),(bif (uX3 y2 e2) then (vZ0 y2 e2) else (-1:Int)))
def vR (p0:List D90)(p1:(D49×Unit)):Prop:=(rD0 p0 p1).1
def pV5 (p0:List D90)(p1:(D49×Unit)):Int:=(rD0 p0 p1).2
instance (p0:List D90)(p1:(D49×Unit)):Decidable (vR p0 p1):=by
 unfold vR rD0
 try dsimp only
 infer_instance
def tO:Am.Spec:=fnSpec [(0,(.val (.sl T90))),(1,(.fn 58 (.cons (.val (.ptr T49)) .nl)))] vI [] (fun x=>vR x.1 x.2.1) (fun x=>pV5 x.1 x.2.1) (fun _=>())
def tY2:Ctx:=Cx tys [(58,tN9)] [(2,vZ1)] [] false 19 [] []
theorem tY3:CtxOk Tryz.prog tY2:=xW4 xY7 rfl ⟨qJ9,trivial⟩ rfl (by kernel_rfl)
noncomputable def rD1:Code:=Tryz.f86.body.getD .skip
noncomputable def sS8:Code:=xX3 rD1 0
theorem sS9:yU9 Tryz.prog tY2 sS8:=xY2 tY3 mixed (sp:=vZ1) rfl [[(4,vI)],[]] (bs:=[]) (by kernel_rfl) trivial (by kernel_rfl) (by kernel_rfl) fun y x=>by kernel_rfl
theorem qK:SpecOk Tryz.prog 86 tO:=xY3 tY3 mixed Tryz.func86 (by kernel_rfl) (bs:=[sS8]) (by kernel_rfl) ⟨sS9,trivial⟩ fun x=>by kernel_rfl
def rD2 (p0:List D90)(p1:(D49×Unit)):Prop×Bool:=
 let s:=(p1.1,())
 ((vR p0 s),(decide ((pV5 p0 s)≥0)))
def vR0 (p0:List D90)(p1:(D49×Unit)):Prop:=(rD2 p0 p1).1
def pV6 (p0:List D90)(p1:(D49×Unit)):Bool:=(rD2 p0 p1).2
instance (p0:List D90)(p1:(D49×Unit)):Decidable (vR0 p0 p1):=by
 unfold vR0 rD2
 try dsimp only
 infer_instance
def tO0:Am.Spec:=fnSpec [(0,(.val (.sl T90))),(1,(.fn 58 (.cons (.val (.ptr T49)) .nl)))] vB [] (fun x=>vR0 x.1 x.2.1) (fun x=>pV6 x.1 x.2.1) (fun _=>())
def qA3:Ctx:=Cx tys [(86,tO)] [] [] false 9 [] []
theorem qA4:CtxOk Tryz.prog qA3:=xW4 xY7 rfl ⟨qK,trivial⟩ rfl (by kernel_rfl)
theorem qK0:SpecOk Tryz.prog 57 tO0:=xY3 qA4 mixed Tryz.func57 (by kernel_rfl) (bs:=[]) (by kernel_rfl) trivial fun x=>by kernel_rfl
abbrev vC6:Type:=(D28×(List D49)×Int×Unit)
abbrev wQ7:Type:=(Int×Unit)
def uO7 (y:vC6)(x:wQ7):Prop×Bool×wQ7×Bool×Bool:=
 let a1:=y.1
 let a7:=y.2.1
 let a9:=x.1
 let v10:=(decide (a9<y.2.2.1))
 let v11:=(nth a7 a9 Z49)
 let v16:=(v11.2.1==9)
 let s:=(v11,())
 let v21:=(!(pV6 a1.2.2.2.2.2.2.2.1 s))
 let v23:=(v11.2.1==10)
 let v27:=(f8 a1 v11.2.2.2.2.2.2.2.2.2.2.2.2.2.2.2.2.2.2.2.2.2.2.2.2.2.2.1)
 let v29:=(decide (v27<0))
 let v33:=(nth a1.2.2.2.1 v27 Z49)
 let v35:=(f54 v33)
 let c_6:=(bif v16 then (!v21) else (bif v23 then ((!v29)&&(!v35)) else true))
 ((v10=true→(InB a9 (len a7)∧((v16=true→(vR0 a1.2.2.2.2.2.2.2.1 s))∧((v16=false→(v23=true→((vY3 a1 v11.2.2.2.2.2.2.2.2.2.2.2.2.2.2.2.2.2.2.2.2.2.2.2.2.2.2.1)∧((!v29)=true→(InB v27 (len a1.2.2.2.1)∧(tD5 v33))))))∧(c_6=true→InR (a9+1)))))),(v10&&c_6),((a9+1),()),(v10&&(bif v16 then v21 else ((v29||((!v29)&&v35))&&v23))),(!v10))
def uK1 (y:vC6)(x:wQ7):Prop:=(uO7 y x).1
def sF6 (y:vC6)(x:wQ7):Bool:=(uO7 y x).2.1
def uC (y:vC6)(x:wQ7):wQ7:=(uO7 y x).2.2.1
def sT0 (y:vC6)(x:wQ7):Bool:=(uO7 y x).2.2.2.1
def qK1 (y:vC6)(x:wQ7):Bool:=(uO7 y x).2.2.2.2
instance (y:vC6)(x:wQ7):Decidable (uK1 y x):=by
 unfold uK1 uO7
 try dsimp only
 infer_instance
def tO1 (y:vC6)(x:wQ7):Int:=
 let v11:=(nth y.2.1 x.1 Z49)
 (bif (v11.2.1==9) then (9:Int) else (bif (decide ((f8 y.1 v11.2.2.2.2.2.2.2.2.2.2.2.2.2.2.2.2.2.2.2.2.2.2.2.2.2.2.1)<0)) then (9:Int) else (8:Int)))
def tO2:St→Option Out:=xP5 [(1,(.box T28 (.val T28))),(7,(.val (.sl T49))),(8,vI)] [(9,vI)] sF6 uC uK1 fun y x=>[ex 1 (some (sT0 y x)) [(2,vI)] ((tO1 y x),()),ex 2 (some (qK1 y x)) [] ()]
def f27t (p0:D28):Prop×Int:=
 let y2:=(p0,p0.2.2.2.1,(len p0.2.2.2.1),())
 let x2:=((0:Int),())
 let e2:=(zC1 (sF6 y2) (uC y2) x2)
 ((Am.Ends (sF6 y2) (uC y2) (uK1 y2) x2),(bif (sT0 y2 e2) then (tO1 y2 e2) else (0:Int)))
def sT1 (p0:D28):Prop:=(f27t p0).1
def f27 (p0:D28):Int:=(f27t p0).2
instance (p0:D28):Decidable (sT1 p0):=by
 unfold sT1 f27t
 try dsimp only
 infer_instance
def rO2:Am.Spec:=fnSpec [(0,(.val T28))] vI [] (fun x=>sT1 x.1) (fun x=>f27 x.1) (fun _=>())
def qK2:Ctx:=Cx tys [(8,vJ5),(54,uZ2),(57,tO0)] [(2,tO2)] [(12,[(3,4,0,0)])] false 37 [] []
theorem qK3:CtxOk Tryz.prog qK2:=xW4 xY7 rfl ⟨sL2,qD4,qK0,trivial⟩ rfl (by kernel_rfl)
noncomputable def pI7:Code:=Tryz.f27.body.getD .skip
noncomputable def pV7:Code:=xX3 pI7 0
theorem qK4:yU9 Tryz.prog qK2 pV7:=xY2 qK3 mixed (sp:=tO2) rfl [[(2,vI)],[]] (bs:=[]) (by kernel_rfl) trivial (by kernel_rfl) (by kernel_rfl) fun y x=>by kernel_rfl
theorem nD2:SpecOk Tryz.prog 27 rO2:=xY3 qK3 mixed Tryz.func27 (by kernel_rfl) (bs:=[pV7]) (by kernel_rfl) ⟨qK4,trivial⟩ fun x=>by kernel_rfl
abbrev vW6:Type:=(Int×D28×(List D49)×Int×Unit)
abbrev wV8:Type:=((List Int)×Int×Unit)
def sF7 (y:vW6)(x:wV8):Prop×Bool×wV8:=
 let a1:=y.1
 let a2:=y.2.1
 let a18:=y.2.2.1
 let a5:=x.1
 let a20:=x.2.1
 let v21:=(decide (a20<y.2.2.2.1))
 let v33:=((nth a18 a20 Z49).2.2.1==(nth a2.2.2.2.1 a1 Z49).1)
 let v36:=([a20]:List Int)
 ((v21=true→(InB a20 (len a18)∧(InB a1 (len a2.2.2.2.1)∧((v33=true→((List.length a5+List.length v36:Nat):Int)≤4294967296)∧InR (a20+1))))),v21,((bif v33 then (a5++v36) else a5),(a20+1),()))
def vI2 (y:vW6)(x:wV8):Prop:=(sF7 y x).1
def vW7 (y:vW6)(x:wV8):Bool:=(sF7 y x).2.1
def wP9 (y:vW6)(x:wV8):wV8:=(sF7 y x).2.2
instance (y:vW6)(x:wV8):Decidable (vI2 y x):=by
 unfold vI2 sF7
 try dsimp only
 infer_instance
def uC0 (y:vW6)(x:wV8):(List Int):=
 x.1
def sT2:List (Nat×Sh):=[(5,(.own (.int .i64) 1005 false))]
def tO3:St→Option Out:=xP5 [(1,vI),(2,(.box T28 (.val T28))),(18,(.val (.sl T49))),(19,vI)] [(5,(.own (.int .i64) 1005 false)),(20,vI)] vW7 wP9 vI2 fun y x=>[ex 3 none sT2 ((uC0 y x),())]
def f60t (p0:D28)(p1:Int):Prop×(List Int):=
 let v12:=(nth p0.2.2.2.1 p1 Z49)
 let v16:=(v12.2.1==1)
 let y5:=(p1,p0,p0.2.2.2.1,(len p0.2.2.2.1),())
 let x5:=(([]:List Int),(0:Int),())
 let v40:=(v12.2.1==10)
 let v45:=(nth p0.2.2.2.1 p1 Z49)
 let v48:=(f8 p0 v45.2.2.2.2.2.2.2.2.2.2.2.2.2.2.2.2.2.2.2.2.2.2.2.2.2.2.1)
 let v50:=(decide (v48≥0))
 let v53:=([v48]:List Int)
 ((InB p1 (len p0.2.2.2.1)∧((v16=true→(Am.Ends (vW7 y5) (wP9 y5) (vI2 y5) x5))∧(v16=false→(v40=true→(InB p1 (len p0.2.2.2.1)∧((vY3 p0 v45.2.2.2.2.2.2.2.2.2.2.2.2.2.2.2.2.2.2.2.2.2.2.2.2.2.2.1)∧(v50=true→(List.length v53:Int)≤4294967296))))))),(bif v16 then (uC0 y5 (zC1 (vW7 y5) (wP9 y5) x5)) else (bif v40 then (bif v50 then v53 else []) else [])))
def sT3 (p0:D28)(p1:Int):Prop:=(f60t p0 p1).1
def f60 (p0:D28)(p1:Int):List Int:=(f60t p0 p1).2
instance (p0:D28)(p1:Int):Decidable (sT3 p0 p1):=by
 unfold sT3 f60t
 try dsimp only
 infer_instance
def rO3:Am.Spec:=fnSpec [(0,(.val T28)),(1,vI)] (.own (.int .i64) 0 false) [] (fun x=>sT3 x.1 x.2.1) (fun x=>f60 x.1 x.2.1) (fun _=>())
def qK5:Ctx:=Cx tys [(8,vJ5)] [(5,tO3)] [(17,[(4,0,37,1005)]),(27,[(4,0,54,1005)]),(29,[(4,0,1005,0)])] false 56 [] []
theorem qK6:CtxOk Tryz.prog qK5:=xW4 xY7 rfl ⟨sL2,trivial⟩ rfl (by kernel_rfl)
noncomputable def pI8:Code:=Tryz.f60.body.getD .skip
noncomputable def pV8:Code:=xX3 pI8 0
theorem qK7:yU9 Tryz.prog qK5 pV8:=xY2 qK6 mixed (sp:=tO3) rfl [sT2] (bs:=[]) (by kernel_rfl) trivial (by kernel_rfl) (by kernel_rfl) fun y x=>by kernel_rfl
theorem nD3:SpecOk Tryz.prog 60 rO3:=xY3 qK6 mixed Tryz.func60 (by kernel_rfl) (bs:=[pV8]) (by kernel_rfl) ⟨qK7,trivial⟩ fun x=>by kernel_rfl
abbrev xZ8:Type:=Int→(List Bool)→(List Bool)→D28→Unit→Prop×Bool×((List Bool)×(List Bool)×D28×Unit)
def vI3 (r:xZ8):Am.Spec:=fnSpec [(0,vI),(1,(.box (.sl .bool) (.own .bool 400100 true))),(2,(.box (.sl .bool) (.own .bool 400200 true))),(3,(.box T28 (.val T28))),(4,(.fptr 59 [some (1,(.sl .bool)),some (2,(.sl .bool)),some (3,T28),none]))] vB [(1,(.box (.sl .bool) (.own .bool 400100 true))),(2,(.box (.sl .bool) (.own .bool 400200 true))),(3,(.box T28 (.val T28)))] (fun x=>(r x.1 x.2.1 x.2.2.1 x.2.2.2.1 x.2.2.2.2.1).1) (fun x=>(r x.1 x.2.1 x.2.2.1 x.2.2.2.1 x.2.2.2.2.1).2.1) (fun x=>(r x.1 x.2.1 x.2.2.1 x.2.2.2.1 x.2.2.2.2.1).2.2)
abbrev wA5:Type:=(Int×Unit×(List Int)×Int×Unit)
abbrev xZ1:Type:=((List Bool)×(List Bool)×D28×Int×Unit)
def wY0 (r:xZ8)(y:wA5)(x:xZ1):Prop×Bool×xZ1×Bool×Bool:=
 let a29:=y.2.2.1
 let a1:=x.1
 let a2:=x.2.1
 let a3:=x.2.2.1
 let a31:=x.2.2.2.1
 let v32:=(decide (a31<y.2.2.2.1))
 let v33:=(nth a29 a31 (0:Int))
 let v37:=(r v33 a1 a2 a3 ()).2.1
 let v37o:=(r v33 a1 a2 a3 ()).2.2
 ((v32=true→(InB a31 (len a29)∧((r v33 a1 a2 a3 ()).1∧((!v37)=true→InR (a31+1))))),(v32&&(!v37)),(v37o.1,v37o.2.1,v37o.2.2.1,(a31+1),()),(v32&&v37),(!v32))
def wI2 (r:xZ8)(y:wA5)(x:xZ1):Prop:=((wY0 r) y x).1
def wD3 (r:xZ8)(y:wA5)(x:xZ1):Bool:=((wY0 r) y x).2.1
def wA2 (r:xZ8)(y:wA5)(x:xZ1):xZ1:=((wY0 r) y x).2.2.1
def vR1 (r:xZ8)(y:wA5)(x:xZ1):Bool:=((wY0 r) y x).2.2.2.1
def uX4 (r:xZ8)(y:wA5)(x:xZ1):Bool:=((wY0 r) y x).2.2.2.2
instance (r:xZ8) [∀ q0 q1 q2 q3 q4,Decidable (r q0 q1 q2 q3 q4).1] (y:wA5)(x:xZ1):Decidable ((wI2 r) y x):=by
 unfold wI2 wY0
 try dsimp only
 infer_instance
def vE2 (r:xZ8)(y:wA5)(x:xZ1):(List Bool):=
 ((r (nth y.2.2.1 x.2.2.2.1 (0:Int)) x.1 x.2.1 x.2.2.1 ()).2.2).1
def vE3 (r:xZ8)(y:wA5)(x:xZ1):(List Bool):=
 ((r (nth y.2.2.1 x.2.2.2.1 (0:Int)) x.1 x.2.1 x.2.2.1 ()).2.2).2.1
def vE4 (r:xZ8)(y:wA5)(x:xZ1):D28:=
 ((r (nth y.2.2.1 x.2.2.2.1 (0:Int)) x.1 x.2.1 x.2.2.1 ()).2.2).2.2.1
def vZ2 (r:xZ8)(y:wA5)(x:xZ1):Bool:=
 true
def uX5:List (Nat×Sh):=[(1,(.box (.sl .bool) (.own .bool 400100 true))),(2,(.box (.sl .bool) (.own .bool 400200 true))),(3,(.box T28 (.val T28))),(6,vB)]
def vE5 (r:xZ8)(y:wA5)(x:xZ1):(List Bool):=
 x.1
def vE6 (r:xZ8)(y:wA5)(x:xZ1):(List Bool):=
 x.2.1
def vE7 (r:xZ8)(y:wA5)(x:xZ1):D28:=
 x.2.2.1
def uX6:List (Nat×Sh):=[(0,vI),(1,(.box (.sl .bool) (.own .bool 400100 true))),(2,(.box (.sl .bool) (.own .bool 400200 true))),(3,(.box T28 (.val T28)))]
def vZ3 (r:xZ8):St→Option Out:=xP5 [(0,vI),(4,(.fptr 59 [some (1,(.sl .bool)),some (2,(.sl .bool)),some (3,T28),none])),(29,(.own (.int .i64) 29 false)),(30,vI)] [(1,(.box (.sl .bool) (.own .bool 400100 true))),(2,(.box (.sl .bool) (.own .bool 400200 true))),(3,(.box T28 (.val T28))),(31,vI)] (wD3 r) (wA2 r) (wI2 r) fun y x=>[ex 1 (some ((vR1 r) y x)) uX5 (((vE2 r) y x),((vE3 r) y x),((vE4 r) y x),((vZ2 r) y x),()),ex 2 (some ((uX4 r) y x)) uX6 (y.1,((vE5 r) y x),((vE6 r) y x),((vE7 r) y x),())]
def vR2 (r:xZ8)(p0:Int)(p1:List Bool)(p2:List Bool)(p3:D28)(p4:Unit):Prop×Bool×((List Bool)×(List Bool)×D28×Unit):=
 let v12:=(nth p1 p0 false)
 let v18:=(bif v12 then true else (nth p2 p0 false))
 let v29:=(f60 p3 p0)
 let y5:=(p0,(),v29,(len v29),())
 let x5:=(p1,(List.set p2 (Int.toNat p0) true),p3,(0:Int),())
 let e5:=(zC1 ((wD3 r) y5) ((wA2 r) y5) x5)
 let q5_1:=((vR1 r) y5 e5)
 let r5_2_0:=((vE5 r) y5 e5)
 ((InB p0 (len p1)∧(p0<len p1∧(((!v12)=true→InB p0 (len p2))∧(((!v12)=true→p0<len p2)∧((v18=true→(InB p0 (len p1)∧p0<len p1))∧((!v18)=true→(InB p0 (len p2)∧(p0<len p2∧((sT3 p3 p0)∧((Am.Ends ((wD3 r) y5) ((wA2 r) y5) ((wI2 r) y5) x5)∧(((uX4 r) y5 e5)=true→(InB p0 (len r5_2_0)∧p0<len r5_2_0)))))))))))),(bif v18 then (!(nth p1 p0 false)) else (bif q5_1 then ((vZ2 r) y5 e5) else false)),((bif v18 then p1 else (bif q5_1 then ((vE2 r) y5 e5) else (List.set r5_2_0 (Int.toNat p0) true))),(bif v18 then p2 else (bif q5_1 then ((vE3 r) y5 e5) else ((vE6 r) y5 e5))),(bif v18 then p3 else (bif q5_1 then ((vE4 r) y5 e5) else ((vE7 r) y5 e5))),()))
def tY4 (r:xZ8):Ctx:={ Cx tys [(59,vI3 r),(60,rO3)] [(5,(vZ3 r))] [] false 42 [1,2,3] [] with wants:=[(59,[])],fts:=fts }
theorem tY5 (r:xZ8)(hr:SpecOk Tryz.prog 59 (vI3 r)):CtxOk Tryz.prog (tY4 r):=xW4 xY7 (by kernel_rfl) ⟨hr,nD3,trivial⟩ rfl (by kernel_rfl)
noncomputable def rD3:Code:=Tryz.f59.body.getD .skip
noncomputable def sT4:Code:=xX3 rD3 0
theorem sT5 (r:xZ8)(hr:SpecOk Tryz.prog 59 (vI3 r)):yU9 Tryz.prog (tY4 r) sT4:=xY2 (tY5 r hr) mixed (sp:=(vZ3 r)) rfl [uX5,uX6] (bs:=[]) (by kernel_rfl) trivial (by kernel_rfl) (by kernel_rfl) fun y x=>by kernel_rfl
instance (r:xZ8) [∀ q0 q1 q2 q3 q4,Decidable (r q0 q1 q2 q3 q4).1] (p0:Int)(p1:List Bool)(p2:List Bool)(p3:D28)(p4:Unit):Decidable (vR2 r p0 p1 p2 p3 p4).1:=by
 unfold vR2
 try dsimp only
 infer_instance
theorem rD4 (r:xZ8)(hr:SpecOk Tryz.prog 59 (vI3 r)):SpecOk Tryz.prog 59 (vI3 (vR2 r)):=xY3 (tY5 r hr) mixed Tryz.func59 (by kernel_rfl) (bs:=[sT4]) (by kernel_rfl) ⟨sT5 r hr,trivial⟩ fun x=>by kernel_rfl
def wJ5:Nat→xZ8
 |0=>fun _ _ _ _ _=>(False,false,(([]:List Bool),([]:List Bool),Z28,()))
 |k+1=>vR2 (wJ5 k)
theorem tY6:∀ k,SpecOk Tryz.prog 59 (vI3 (wJ5 k))
 |0=>xT7 Tryz.func59 (by kernel_rfl) (by decide)
 |k+1=>rD4 _ (tY6 k)
def tA8 (p0:Int)(p1:List Bool)(p2:List Bool)(p3:D28)(p4:Unit):Nat:=(List.length p1+1)
def uK2 (p0:Int)(p1:List Bool)(p2:List Bool)(p3:D28)(p4:Unit):Prop:=(wJ5 (tA8 p0 p1 p2 p3 p4) p0 p1 p2 p3 p4).1
def pV9 (p0:Int)(p1:List Bool)(p2:List Bool)(p3:D28)(p4:Unit):Bool:=(wJ5 (tA8 p0 p1 p2 p3 p4) p0 p1 p2 p3 p4).2.1
def sF8 (p0:Int)(p1:List Bool)(p2:List Bool)(p3:D28)(p4:Unit):((List Bool)×(List Bool)×D28×Unit):=(wJ5 (tA8 p0 p1 p2 p3 p4) p0 p1 p2 p3 p4).2.2
def tY7:∀ (k:Nat) (p0:Int) (p1:List Bool) (p2:List Bool) (p3:D28) (p4:Unit),Decidable (wJ5 k p0 p1 p2 p3 p4).1
 |0,_,_,_,_,_=>isFalse id
 |k+1,p0,p1,p2,p3,p4=>by
  have:∀ (q0:Int) (q1:List Bool) (q2:List Bool) (q3:D28) (q4:Unit),Decidable (wJ5 k q0 q1 q2 q3 q4).1:=tY7 k
  exact inferInstanceAs (Decidable (vR2 (wJ5 k) p0 p1 p2 p3 p4).1)
instance (p0:Int)(p1:List Bool)(p2:List Bool)(p3:D28)(p4:Unit):Decidable (uK2 p0 p1 p2 p3 p4):=tY7 _ p0 p1 p2 p3 p4
def tO4:Am.Spec:=fnSpec [(0,vI),(1,(.box (.sl .bool) (.own .bool 400100 true))),(2,(.box (.sl .bool) (.own .bool 400200 true))),(3,(.box T28 (.val T28))),(4,(.fptr 59 [some (1,(.sl .bool)),some (2,(.sl .bool)),some (3,T28),none]))] vB [(1,(.box (.sl .bool) (.own .bool 400100 true))),(2,(.box (.sl .bool) (.own .bool 400200 true))),(3,(.box T28 (.val T28)))] (fun x=>uK2 x.1 x.2.1 x.2.2.1 x.2.2.2.1 x.2.2.2.2.1) (fun x=>pV9 x.1 x.2.1 x.2.2.1 x.2.2.2.1 x.2.2.2.2.1) (fun x=>sF8 x.1 x.2.1 x.2.2.1 x.2.2.2.1 x.2.2.2.2.1)
theorem qK8:SpecOk Tryz.prog 59 tO4:=xV2 (ps:=[(0,vI),(1,(.box (.sl .bool) (.own .bool 400100 true))),(2,(.box (.sl .bool) (.own .bool 400200 true))),(3,(.box T28 (.val T28))),(4,(.fptr 59 [some (1,(.sl .bool)),some (2,(.sl .bool)),some (3,T28),none]))]) (rs:=vB) (os:=[(1,(.box (.sl .bool) (.own .bool 400100 true))),(2,(.box (.sl .bool) (.own .bool 400200 true))),(3,(.box T28 (.val T28)))]) (R:=fun k x=>wJ5 k x.1 x.2.1 x.2.2.1 x.2.2.2.1 x.2.2.2.2.1) tY6 fun x=>tA8 x.1 x.2.1 x.2.2.1 x.2.2.2.1 x.2.2.2.2.1
abbrev vC7:Type:=(Unit×Int×Unit)
abbrev wL9:Type:=(D28×(List Bool)×(List Bool)×Int×Unit)
def uO8 (y:vC7)(x:wL9):Prop×Bool×wL9×Bool×Bool:=
 let a1:=x.1
 let a3:=x.2.1
 let a4:=x.2.2.1
 let a19:=x.2.2.2.1
 let v20:=(decide (a19<y.2.1))
 let v24:=(pV9 a19 a4 a3 a1 ())
 let v24o:=(sF8 a19 a4 a3 a1 ())
 ((v20=true→((uK2 a19 a4 a3 a1 ())∧((!v24)=true→InR (a19+1)))),(v20&&(!v24)),(v24o.2.2.1,v24o.2.1,v24o.1,(a19+1),()),(v20&&v24),(!v20))
def vR3 (y:vC7)(x:wL9):Prop:=(uO8 y x).1
def tA9 (y:vC7)(x:wL9):Bool:=(uO8 y x).2.1
def vL9 (y:vC7)(x:wL9):wL9:=(uO8 y x).2.2.1
def sT6 (y:vC7)(x:wL9):Bool:=(uO8 y x).2.2.2.1
def qK9 (y:vC7)(x:wL9):Bool:=(uO8 y x).2.2.2.2
instance (y:vC7)(x:wL9):Decidable (vR3 y x):=by
 unfold vR3 uO8
 try dsimp only
 infer_instance
def tO5 (y:vC7)(x:wL9):Bool:=
 true
def tO6:St→Option Out:=xP5 [(5,(.fptr 59 [some (4,(.sl .bool)),some (3,(.sl .bool)),some (1,T28),none])),(18,vI)] [(1,(.box T28 (.val T28))),(3,(.box (.sl .bool) (.own .bool 400300 true))),(4,(.box (.sl .bool) (.own .bool 400400 true))),(19,vI)] tA9 vL9 vR3 fun y x=>[ex 1 (some (sT6 y x)) [(2,vB)] ((tO5 y x),()),ex 2 (some (qK9 y x)) [] ()]
def f28t (p0:D28):Prop×Bool:=
 let v9:=(len p0.2.2.2.1)
 let v13:=(len p0.2.2.2.1)
 let y6:=((),(len p0.2.2.2.1),())
 let x6:=(p0,(List.replicate (Int.toNat v9) false),(List.replicate (Int.toNat v13) false),(0:Int),())
 let e6:=(zC1 (tA9 y6) (vL9 y6) x6)
 (((0≤v9∧v9≤v9∧v9≤4294967296)∧((0≤v13∧v13≤v13∧v13≤4294967296)∧(Am.Ends (tA9 y6) (vL9 y6) (vR3 y6) x6))),(bif (sT6 y6 e6) then (tO5 y6 e6) else false))
def sT7 (p0:D28):Prop:=(f28t p0).1
def f28 (p0:D28):Bool:=(f28t p0).2
instance (p0:D28):Decidable (sT7 p0):=by
 unfold sT7 f28t
 try dsimp only
 infer_instance
def rO4:Am.Spec:=fnSpec [(0,(.val T28))] vB [] (fun x=>sT7 x.1) (fun x=>f28 x.1) (fun _=>())
def qL:Ctx:={ Cx tys [(59,tO4)] [(6,tO6)] [(3,[(4,0,10,400300)]),(5,[(4,0,14,400400)])] false 26 [] [10,14] with wants:=[(59,[])],fts:=fts }
theorem qL0:CtxOk Tryz.prog qL:=xW4 xY7 (by kernel_rfl) ⟨qK8,trivial⟩ rfl (by kernel_rfl)
noncomputable def pI9:Code:=Tryz.f28.body.getD .skip
noncomputable def pW:Code:=xX3 pI9 0
theorem qL1:yU9 Tryz.prog qL pW:=xY2 qL0 mixed (sp:=tO6) rfl [[(2,vB)],[]] (bs:=[]) (by kernel_rfl) trivial (by kernel_rfl) (by kernel_rfl) fun y x=>by kernel_rfl
theorem nD4:SpecOk Tryz.prog 28 rO4:=xY3 qL0 mixed Tryz.func28 (by kernel_rfl) (bs:=[pW]) (by kernel_rfl) ⟨qL1,trivial⟩ fun x=>by kernel_rfl
abbrev wU2:Type:=((List UInt8)×Int×Int×Unit)
abbrev wL5:Type:=(Int×Unit)
def vW8 (y:wU2)(x:wL5):Prop×Bool×wL5×Bool×Bool:=
 let a0:=y.1
 let a19:=x.1
 let v20:=(decide (a19<y.2.2.1))
 let v26:=(decide ((xX6 a0 a19)<y.2.1))
 let v32:=(bif v26 then true else (decide ((xX6 a0 a19)>126)))
 ((v20=true→(InB a19 (len a0)∧(((!v26)=true→InB a19 (len a0))∧((!v32)=true→InR (a19+1))))),(v20&&(!v32)),((a19+1),()),(v20&&v32),(!v20))
def vW9 (y:wU2)(x:wL5):Prop:=(vW8 y x).1
def tO7 (y:wU2)(x:wL5):Bool:=(vW8 y x).2.1
def vR4 (y:wU2)(x:wL5):wL5:=(vW8 y x).2.2.1
def tY8 (y:wU2)(x:wL5):Bool:=(vW8 y x).2.2.2.1
def qA5 (y:wU2)(x:wL5):Bool:=(vW8 y x).2.2.2.2
instance (y:wU2)(x:wL5):Decidable (vW9 y x):=by
 unfold vW9 vW8
 try dsimp only
 infer_instance
def uX7 (y:wU2)(x:wL5):Bool:=
 false
def uX8:St→Option Out:=xP5 [(0,vS),(2,(.val (.int .u8))),(18,vI)] [(19,vI)] tO7 vR4 vW9 fun y x=>[ex 1 (some (tY8 y x)) [(6,vB)] ((uX7 y x),()),ex 2 (some (qA5 y x)) [] ()]
def oP0 (p0:List UInt8)(p1:Int)(p2:Int):Prop×Bool:=
 let v16:=(bif (decide ((len p0)<1)) then true else (decide ((len p0)>p1)))
 let y4:=(p0,p2,(len p0),())
 let x4:=((0:Int),())
 let e4:=(zC1 (tO7 y4) (vR4 y4) x4)
 (((!v16)=true→(Am.Ends (tO7 y4) (vR4 y4) (vW9 y4) x4)),(bif v16 then false else (bif (tY8 y4 e4) then (uX7 y4 e4) else true)))
def uO9 (p0:List UInt8)(p1:Int)(p2:Int):Prop:=(oP0 p0 p1 p2).1
def f118 (p0:List UInt8)(p1:Int)(p2:Int):Bool:=(oP0 p0 p1 p2).2
instance (p0:List UInt8)(p1:Int)(p2:Int):Decidable (uO9 p0 p1 p2):=by
 unfold uO9 oP0
 try dsimp only
 infer_instance
def tO8:Am.Spec:=fnSpec [(0,vS),(1,vI),(2,(.val (.int .u8)))] vB [] (fun x=>uO9 x.1 x.2.1 x.2.2.1) (fun x=>f118 x.1 x.2.1 x.2.2.1) (fun _=>())
def rO5:Ctx:=Cx tys [] [(4,uX8)] [] false 34 [] []
theorem rO6:CtxOk Tryz.prog rO5:=xW4 xY7 rfl trivial rfl (by kernel_rfl)
noncomputable def qL2:Code:=Tryz.f118.body.getD .skip
noncomputable def qL3:Code:=xX3 qL2 0
theorem qA6:yU9 Tryz.prog rO5 qL3:=xY2 rO6 mixed (sp:=uX8) rfl [[(6,vB)],[]] (bs:=[]) (by kernel_rfl) trivial (by kernel_rfl) (by kernel_rfl) fun y x=>by kernel_rfl
theorem qL4:SpecOk Tryz.prog 118 tO8:=xY3 rO6 mixed Tryz.func118 (by kernel_rfl) (bs:=[qL3]) (by kernel_rfl) ⟨qA6,trivial⟩ fun x=>by kernel_rfl
def f87t (p0:List UInt8):Prop×Bool:=
 ((uO9 p0 (32:Int) (33:Int)),(f118 p0 (32:Int) (33:Int)))
def rO7 (p0:List UInt8):Prop:=(f87t p0).1
def f87 (p0:List UInt8):Bool:=(f87t p0).2
instance (p0:List UInt8):Decidable (rO7 p0):=by
 unfold rO7 f87t
 try dsimp only
 infer_instance
def rO8:Am.Spec:=fnSpec [(0,vS)] vB [] (fun x=>rO7 x.1) (fun x=>f87 x.1) (fun _=>())
def oP1:Ctx:=Cx tys [(118,tO8)] [] [] false 5 [] []
theorem oP2:CtxOk Tryz.prog oP1:=xW4 xY7 rfl ⟨qL4,trivial⟩ rfl (by kernel_rfl)
theorem nD5:SpecOk Tryz.prog 87 rO8:=xY3 oP2 mixed Tryz.func87 (by kernel_rfl) (bs:=[]) (by kernel_rfl) trivial fun x=>by kernel_rfl
def f88t (p0:List UInt8):Prop×Bool:=
 ((uO9 p0 (256:Int) (32:Int)),(f118 p0 (256:Int) (32:Int)))
def rO9 (p0:List UInt8):Prop:=(f88t p0).1
def f88 (p0:List UInt8):Bool:=(f88t p0).2
instance (p0:List UInt8):Decidable (rO9 p0):=by
 unfold rO9 f88t
 try dsimp only
 infer_instance
def rP:Am.Spec:=fnSpec [(0,vS)] vB [] (fun x=>rO9 x.1) (fun x=>f88 x.1) (fun _=>())
def oP3:Ctx:=Cx tys [(118,tO8)] [] [] false 5 [] []
theorem oP4:CtxOk Tryz.prog oP3:=xW4 xY7 rfl ⟨qL4,trivial⟩ rfl (by kernel_rfl)
theorem nD6:SpecOk Tryz.prog 88 rP:=xY3 oP4 mixed Tryz.func88 (by kernel_rfl) (bs:=[]) (by kernel_rfl) trivial fun x=>by kernel_rfl
def f62t (p0:List D87)(p1:D87):Prop×Int:=
 let v8:=(!(f87 p1.1))
 let v12:=(!(f88 p1.2.1))
 let v15:=(decide ((len p0)>0))
 let v21:=(len p0)
 let v22:=(v21-1)
 let v23:=(nth p0 v22 Z87)
 (((rO7 p1.1)∧((!v8)=true→((rO9 p1.2.1)∧((!v12)=true→((v15=true→InR (v21-1))∧(v15=true→InB v22 (len p0))))))),(bif v8 then (13:Int) else (bif v12 then (4:Int) else (bif (bif v15 then (Op.bytesLess p1.1 v23.1||p1.1==v23.1) else false) then (24:Int) else (0:Int)))))
def sT8 (p0:List D87)(p1:D87):Prop:=(f62t p0 p1).1
def f62 (p0:List D87)(p1:D87):Int:=(f62t p0 p1).2
instance (p0:List D87)(p1:D87):Decidable (sT8 p0 p1):=by
 unfold sT8 f62t
 try dsimp only
 infer_instance
def rP0:Am.Spec:=fnSpec [(0,(.val (.sl T87))),(1,(.val T87))] vI [] (fun x=>sT8 x.1 x.2.1) (fun x=>f62 x.1 x.2.1) (fun _=>())
def oP5:Ctx:=Cx tys [(87,rO8),(88,rP)] [] [] false 28 [] []
theorem oP6:CtxOk Tryz.prog oP5:=xW4 xY7 rfl ⟨nD5,nD6,trivial⟩ rfl (by kernel_rfl)
theorem nD7:SpecOk Tryz.prog 62 rP0:=xY3 oP6 mixed Tryz.func62 (by kernel_rfl) (bs:=[]) (by kernel_rfl) trivial fun x=>by kernel_rfl
abbrev vC8:Type:=((List D87)×(List D87)×Int×Unit)
abbrev wQ8:Type:=(Int×Unit)
def uP (y:vC8)(x:wQ8):Prop×Bool×wQ8×Bool×Bool:=
 let a0:=y.1
 let a9:=y.2.1
 let a11:=x.1
 let v12:=(decide (a11<y.2.2.1))
 let v14:=(nth a9 a11 Z87)
 let v18:=(List.take (Int.toNat a11) a0)
 let v22:=((f62 v18 v14)!=0)
 ((v12=true→(InB a11 (len a9)∧((0≤a11∧a11≤len a0)∧((sT8 v18 v14)∧((!v22)=true→InR (a11+1)))))),(v12&&(!v22)),((a11+1),()),(v12&&v22),(!v12))
def uK3 (y:vC8)(x:wQ8):Prop:=(uP y x).1
def sF9 (y:vC8)(x:wQ8):Bool:=(uP y x).2.1
def uC1 (y:vC8)(x:wQ8):wQ8:=(uP y x).2.2.1
def sT9 (y:vC8)(x:wQ8):Bool:=(uP y x).2.2.2.1
def qL5 (y:vC8)(x:wQ8):Bool:=(uP y x).2.2.2.2
instance (y:vC8)(x:wQ8):Decidable (uK3 y x):=by
 unfold uK3 uP
 try dsimp only
 infer_instance
def tO9 (y:vC8)(x:wQ8):Int:=
 let a11:=x.1
 (f62 (List.take (Int.toNat a11) y.1) (nth y.2.1 a11 Z87))
def tP:St→Option Out:=xP5 [(0,(.val (.sl T87))),(9,(.val (.sl T87))),(10,vI)] [(11,vI)] sF9 uC1 uK3 fun y x=>[ex 1 (some (sT9 y x)) [(2,vI)] ((tO9 y x),()),ex 2 (some (qL5 y x)) [] ()]
def f30t (p0:List D87):Prop×Int:=
 let v8:=(decide ((len p0)>16))
 let y4:=(p0,p0,(len p0),())
 let x4:=((0:Int),())
 let e4:=(zC1 (sF9 y4) (uC1 y4) x4)
 (((!v8)=true→(Am.Ends (sF9 y4) (uC1 y4) (uK3 y4) x4)),(bif v8 then (3:Int) else (bif (sT9 y4 e4) then (tO9 y4 e4) else (0:Int))))
def sU (p0:List D87):Prop:=(f30t p0).1
def f30 (p0:List D87):Int:=(f30t p0).2
instance (p0:List D87):Decidable (sU p0):=by
 unfold sU f30t
 try dsimp only
 infer_instance
def rP1:Am.Spec:=fnSpec [(0,(.val (.sl T87)))] vI [] (fun x=>sU x.1) (fun x=>f30 x.1) (fun _=>())
def qL6:Ctx:=Cx tys [(62,rP0)] [(4,tP)] [] false 25 [] []
theorem qL7:CtxOk Tryz.prog qL6:=xW4 xY7 rfl ⟨nD7,trivial⟩ rfl (by kernel_rfl)
noncomputable def pJ:Code:=Tryz.f30.body.getD .skip
noncomputable def pW0:Code:=xX3 pJ 0
theorem qL8:yU9 Tryz.prog qL6 pW0:=xY2 qL7 mixed (sp:=tP) rfl [[(2,vI)],[]] (bs:=[]) (by kernel_rfl) trivial (by kernel_rfl) (by kernel_rfl) fun y x=>by kernel_rfl
theorem nD8:SpecOk Tryz.prog 30 rP1:=xY3 qL7 mixed Tryz.func30 (by kernel_rfl) (bs:=[pW0]) (by kernel_rfl) ⟨qL8,trivial⟩ fun x=>by kernel_rfl
def f9t (p0:D28):Prop×Int:=
 let v10:=(f23 p0)
 let v12:=(v10 !=0)
 let v23:=(bif (decide ((len p0.2.2.2.1)>64)) then true else (decide ((len p0.2.2.2.2.2.2.2.1)>8)))
 let v31:=(bif (decide (p0.2.2.2.2.1<1)) then true else (decide (p0.2.2.2.2.1>1073741824)))
 let v33:=(f24 p0)
 let v35:=(v33 !=0)
 let v38:=(f25 p0)
 let v40:=(v38 !=0)
 let v43:=(f26 p0)
 let v45:=(v43 !=0)
 let v48:=(f27 p0)
 let v50:=(v48 !=0)
 let v53:=(f28 p0)
 let v56:=(f29 p0.2.2.2.2.2.1)
 let v58:=(v56 !=0)
 let v79:=(bif (p0.2.2.2.2.2.1.1 !=0) then (bif (p0.2.2.2.2.2.1.1 !=p0.1) then true else (p0.2.2.2.2.2.1.2.1 !=p0.2.1)) else false)
 let m2_6:=(bif v35 then v33 else (bif v40 then v38 else (bif v45 then v43 else (bif v50 then v48 else (bif v53 then (11:Int) else (bif v58 then v56 else (bif v79 then (15:Int) else (f30 p0.2.2.2.2.2.2.1))))))))
 (((tD2 p0)∧((!v12)=true→((!v23)=true→((!v31)=true→((sR8 p0)∧((!v35)=true→((sS0 p0)∧((!v40)=true→((sS6 p0)∧((!v45)=true→((sT1 p0)∧((!v50)=true→((sT7 p0)∧((!v53)=true→((tU6 p0.2.2.2.2.2.1)∧((!v58)=true→((!v79)=true→(sU p0.2.2.2.2.2.2.1)))))))))))))))))),(bif v12 then v10 else (bif v23 then (3:Int) else (bif v31 then (2:Int) else m2_6))))
def tP0 (p0:D28):Prop:=(f9t p0).1
def f9 (p0:D28):Int:=(f9t p0).2
instance (p0:D28):Decidable (tP0 p0):=by
 unfold tP0 f9t
 try dsimp only
 infer_instance
def vR5:Am.Spec:=fnSpec [(0,(.val T28))] vI [] (fun x=>tP0 x.1) (fun x=>f9 x.1) (fun _=>())
def nD9:Ctx:=Cx tys [(23,sC0),(24,rN9),(25,rO),(26,rO1),(27,rO2),(28,rO4),(29,sC2),(30,rP1)] [] [] false 83 [] []
theorem nE:CtxOk Tryz.prog nD9:=xW4 xY7 rfl ⟨pU4,nC9,nD,nD1,nD2,nD4,pU6,nD8,trivial⟩ rfl (by kernel_rfl)
theorem rD5:SpecOk Tryz.prog 9 vR5:=xY3 nE mixed Tryz.func9 (by kernel_rfl) (bs:=[]) (by kernel_rfl) trivial fun x=>by kernel_rfl
abbrev vC9:Type:=((List Int)×(List Int)×Int×Unit)
abbrev wQ9:Type:=(Int×Unit)
def uP0 (y:vC9)(x:wQ9):Prop×Bool×wQ9×Bool×Bool:=
 let a0:=y.1
 let a1:=y.2.1
 let a13:=x.1
 let v14:=(decide (a13<y.2.2.1))
 let v24:=((nth a0 a13 (0:Int))!=(nth a1 a13 (0:Int)))
 ((v14=true→(InB a13 (len a0)∧(InB a13 (len a1)∧((!v24)=true→InR (a13+1))))),(v14&&(!v24)),((a13+1),()),(v14&&v24),(!v14))
def uK4 (y:vC9)(x:wQ9):Prop:=(uP0 y x).1
def sG (y:vC9)(x:wQ9):Bool:=(uP0 y x).2.1
def uC2 (y:vC9)(x:wQ9):wQ9:=(uP0 y x).2.2.1
def sU0 (y:vC9)(x:wQ9):Bool:=(uP0 y x).2.2.2.1
def qL9 (y:vC9)(x:wQ9):Bool:=(uP0 y x).2.2.2.2
instance (y:vC9)(x:wQ9):Decidable (uK4 y x):=by
 unfold uK4 uP0
 try dsimp only
 infer_instance
def tP1 (y:vC9)(x:wQ9):Bool:=
 false
def tP2:St→Option Out:=xP5 [(0,(.val (.sl (.int .i64)))),(1,(.val (.sl (.int .i64)))),(12,vI)] [(13,vI)] sG uC2 uK4 fun y x=>[ex 1 (some (sU0 y x)) [(4,vB)] ((tP1 y x),()),ex 2 (some (qL9 y x)) [] ()]
def f12t (p0:List Int)(p1:List Int):Prop×Bool:=
 let v10:=((len p0)!=(len p1))
 let y4:=(p0,p1,(len p0),())
 let x4:=((0:Int),())
 let e4:=(zC1 (sG y4) (uC2 y4) x4)
 (((!v10)=true→(Am.Ends (sG y4) (uC2 y4) (uK4 y4) x4)),(bif v10 then false else (bif (sU0 y4 e4) then (tP1 y4 e4) else true)))
def tP3 (p0:List Int)(p1:List Int):Prop:=(f12t p0 p1).1
def f12 (p0:List Int)(p1:List Int):Bool:=(f12t p0 p1).2
instance (p0:List Int)(p1:List Int):Decidable (tP3 p0 p1):=by
 unfold tP3 f12t
 try dsimp only
 infer_instance
def rP2:Am.Spec:=fnSpec [(0,(.val (.sl (.int .i64)))),(1,(.val (.sl (.int .i64))))] vB [] (fun x=>tP3 x.1 x.2.1) (fun x=>f12 x.1 x.2.1) (fun _=>())
def qM:Ctx:=Cx tys [] [(4,tP2)] [] false 26 [] []
theorem qM0:CtxOk Tryz.prog qM:=xW4 xY7 rfl trivial rfl (by kernel_rfl)
noncomputable def pJ0:Code:=Tryz.f12.body.getD .skip
noncomputable def pW1:Code:=xX3 pJ0 0
theorem qM1:yU9 Tryz.prog qM pW1:=xY2 qM0 mixed (sp:=tP2) rfl [[(4,vB)],[]] (bs:=[]) (by kernel_rfl) trivial (by kernel_rfl) (by kernel_rfl) fun y x=>by kernel_rfl
theorem nE0:SpecOk Tryz.prog 12 rP2:=xY3 qM0 mixed Tryz.func12 (by kernel_rfl) (bs:=[pW1]) (by kernel_rfl) ⟨qM1,trivial⟩ fun x=>by kernel_rfl
abbrev vX:Type:=((List D49)×Int×Unit)
abbrev vD:Type:=((List Int)×Int×Unit)
def sG0 (y:vX)(x:vD):Prop×Bool×vD:=
 let a7:=y.1
 let a3:=x.1
 let a9:=x.2.1
 let v10:=(decide (a9<y.2.1))
 let v16:=([(nth a7 a9 Z49).1]:List Int)
 ((v10=true→(InB a9 (len a7)∧(((List.length a3+List.length v16:Nat):Int)≤4294967296∧InR (a9+1)))),v10,((a3++v16),(a9+1),()))
def uK5 (y:vX)(x:vD):Prop:=(sG0 y x).1
def sG1 (y:vX)(x:vD):Bool:=(sG0 y x).2.1
def uC3 (y:vX)(x:vD):vD:=(sG0 y x).2.2
instance (y:vX)(x:vD):Decidable (uK5 y x):=by
 unfold uK5 sG0
 try dsimp only
 infer_instance
def tP4 (y:vX)(x:vD):(List Int):=
 x.1
def sU1:List (Nat×Sh):=[(3,(.own (.int .i64) 1003 false))]
def tP5:St→Option Out:=xP5 [(7,(.val (.sl T49))),(8,vI)] [(3,(.own (.int .i64) 1003 false)),(9,vI)] sG1 uC3 uK5 fun y x=>[ex 2 none sU1 ((tP4 y x),())]
def f13t (p0:D28):Prop×(List Int):=
 let y3:=(p0.2.2.2.1,(len p0.2.2.2.1),())
 let x3:=(([]:List Int),(0:Int),())
 ((Am.Ends (sG1 y3) (uC3 y3) (uK5 y3) x3),(tP4 y3 (zC1 (sG1 y3) (uC3 y3) x3)))
def tY9 (p0:D28):Prop:=(f13t p0).1
def f13 (p0:D28):List Int:=(f13t p0).2
instance (p0:D28):Decidable (tY9 p0):=by
 unfold tY9 f13t
 try dsimp only
 infer_instance
def rP3:Am.Spec:=fnSpec [(0,(.val T28))] (.own (.int .i64) 0 false) [] (fun x=>tY9 x.1) (fun x=>f13 x.1) (fun _=>())
def qM2:Ctx:=Cx tys [] [(3,tP5)] [(11,[(4,0,17,1003)]),(15,[(4,0,1003,0)])] false 20 [] []
theorem qM3:CtxOk Tryz.prog qM2:=xW4 xY7 rfl trivial rfl (by kernel_rfl)
noncomputable def pJ1:Code:=Tryz.f13.body.getD .skip
noncomputable def pW2:Code:=xX3 pJ1 0
theorem qM4:yU9 Tryz.prog qM2 pW2:=xY2 qM3 mixed (sp:=tP5) rfl [sU1] (bs:=[]) (by kernel_rfl) trivial (by kernel_rfl) (by kernel_rfl) fun y x=>by kernel_rfl
theorem nE1:SpecOk Tryz.prog 13 rP3:=xY3 qM3 mixed Tryz.func13 (by kernel_rfl) (bs:=[pW2]) (by kernel_rfl) ⟨qM4,trivial⟩ fun x=>by kernel_rfl
abbrev vX0:Type:=(Int×(List D49)×Int×Unit)
abbrev wV9:Type:=((List Int)×Int×Unit)
def sG2 (y:vX0)(x:wV9):Prop×Bool×wV9:=
 let a9:=y.2.1
 let a5:=x.1
 let a11:=x.2.1
 let v12:=(decide (a11<y.2.2.1))
 let v13:=(nth a9 a11 Z49)
 let v18:=(v13.2.2.1==y.1)
 let v22:=([v13.1]:List Int)
 ((v12=true→(InB a11 (len a9)∧((v18=true→((List.length a5+List.length v22:Nat):Int)≤4294967296)∧InR (a11+1)))),v12,((bif v18 then (a5++v22) else a5),(a11+1),()))
def vR6 (y:vX0)(x:wV9):Prop:=(sG2 y x).1
def vX1 (y:vX0)(x:wV9):Bool:=(sG2 y x).2.1
def wM0 (y:vX0)(x:wV9):wV9:=(sG2 y x).2.2
instance (y:vX0)(x:wV9):Decidable (vR6 y x):=by
 unfold vR6 sG2
 try dsimp only
 infer_instance
def tP6 (y:vX0)(x:wV9):(List Int):=
 x.1
def sU2:List (Nat×Sh):=[(5,(.own (.int .i64) 1005 false))]
def tP7:St→Option Out:=xP5 [(1,vI),(9,(.val (.sl T49))),(10,vI)] [(5,(.own (.int .i64) 1005 false)),(11,vI)] vX1 wM0 vR6 fun y x=>[ex 2 none sU2 ((tP6 y x),())]
def f20t (p0:D28)(p1:Int):Prop×(List Int):=
 let y3:=(p1,p0.2.2.2.1,(len p0.2.2.2.1),())
 let x3:=(([]:List Int),(0:Int),())
 ((Am.Ends (vX1 y3) (wM0 y3) (vR6 y3) x3),(tP6 y3 (zC1 (vX1 y3) (wM0 y3) x3)))
def uK6 (p0:D28)(p1:Int):Prop:=(f20t p0 p1).1
def f20 (p0:D28)(p1:Int):List Int:=(f20t p0 p1).2
instance (p0:D28)(p1:Int):Decidable (uK6 p0 p1):=by
 unfold uK6 f20t
 try dsimp only
 infer_instance
def vX2:Am.Spec:=fnSpec [(0,(.val T28)),(1,vI)] (.own (.int .i64) 0 false) [] (fun x=>uK6 x.1 x.2.1) (fun x=>f20 x.1 x.2.1) (fun _=>())
def qM5:Ctx:=Cx tys [] [(3,tP7)] [(13,[(4,0,23,1005)]),(17,[(4,0,1005,0)])] false 26 [] []
theorem qM6:CtxOk Tryz.prog qM5:=xW4 xY7 rfl trivial rfl (by kernel_rfl)
noncomputable def pJ2:Code:=Tryz.f20.body.getD .skip
noncomputable def pW3:Code:=xX3 pJ2 0
theorem qM7:yU9 Tryz.prog qM5 pW3:=xY2 qM6 mixed (sp:=tP7) rfl [sU2] (bs:=[]) (by kernel_rfl) trivial (by kernel_rfl) (by kernel_rfl) fun y x=>by kernel_rfl
theorem sU3:SpecOk Tryz.prog 20 vX2:=xY3 qM6 mixed Tryz.func20 (by kernel_rfl) (bs:=[pW3]) (by kernel_rfl) ⟨qM7,trivial⟩ fun x=>by kernel_rfl
def f33t (p0:D28)(p1:Int):Prop×Int:=
 let v7:=(p1==0)
 let v10:=(f8 p0 p1)
 let v12:=(decide (v10<0))
 (((!v7)=true→((vY3 p0 p1)∧((!v12)=true→InB v10 (len p0.2.2.2.1)))),(bif v7 then (0:Int) else (bif v12 then (9:Int) else (bif ((nth p0.2.2.2.1 v10 Z49).2.1 !=1) then (8:Int) else (0:Int)))))
def tZ (p0:D28)(p1:Int):Prop:=(f33t p0 p1).1
def f33 (p0:D28)(p1:Int):Int:=(f33t p0 p1).2
instance (p0:D28)(p1:Int):Decidable (tZ p0 p1):=by
 unfold tZ f33t
 try dsimp only
 infer_instance
def sG3:Am.Spec:=fnSpec [(0,(.val T28)),(1,vI)] vI [] (fun x=>tZ x.1 x.2.1) (fun x=>f33 x.1 x.2.1) (fun _=>())
def oP7:Ctx:=Cx tys [(8,vJ5)] [] [] false 20 [] []
theorem oP8:CtxOk Tryz.prog oP7:=xW4 xY7 rfl ⟨sL2,trivial⟩ rfl (by kernel_rfl)
theorem pW4:SpecOk Tryz.prog 33 sG3:=xY3 oP8 mixed Tryz.func33 (by kernel_rfl) (bs:=[]) (by kernel_rfl) trivial fun x=>by kernel_rfl
def oP9 (p0:Unit):Prop×(List Int):=
 (((!true)=true→((List.length ([]:List Int)+List.length ([]:List Int):Nat):Int)≤4294967296),(bif true then [] else (([]:List Int)++([]:List Int))))
def rD6 (p0:Unit):Prop:=(oP9 p0).1
def f63a (p0:Unit):List Int:=(oP9 p0).2
instance (p0:Unit):Decidable (rD6 p0):=by
 unfold rD6 oP9
 try dsimp only
 infer_instance
def qM8:Am.Spec:=fnSpec [(0,(.nn true))] (.own (.int .i64) 0 false) [] (fun x=>rD6 x.1) (fun x=>f63a x.1) (fun _=>())
def pJ3:Ctx:=Cx tys [] [] [(7,[(4,0,7,0)])] false 8 [] []
theorem pJ4:CtxOk Tryz.prog pJ3:=xW4 xY7 rfl trivial rfl (by kernel_rfl)
theorem oQ:SpecOk Tryz.prog 63 qM8:=xY3 pJ4 mixed Tryz.func63 (by kernel_rfl) (bs:=[]) (by kernel_rfl) trivial fun x=>by kernel_rfl
def oQ0 (p0:Unit):Prop×(List Int):=
 (((!false)=true→((List.length ([]:List Int)+List.length ([]:List Int):Nat):Int)≤4294967296),(bif false then [] else (([]:List Int)++([]:List Int))))
def rD7 (p0:Unit):Prop:=(oQ0 p0).1
def f63b (p0:Unit):List Int:=(oQ0 p0).2
instance (p0:Unit):Decidable (rD7 p0):=by
 unfold rD7 oQ0
 try dsimp only
 infer_instance
def qM9:Am.Spec:=fnSpec [(0,(.nn false))] (.own (.int .i64) 0 false) [] (fun x=>rD7 x.1) (fun x=>f63b x.1) (fun _=>())
def pJ5:Ctx:=Cx tys [] [] [(7,[(4,0,7,0)])] false 8 [] []
theorem pJ6:CtxOk Tryz.prog pJ5:=xW4 xY7 rfl trivial rfl (by kernel_rfl)
theorem oQ1:SpecOk Tryz.prog 63 qM9:=xY3 pJ6 mixed Tryz.func63 (by kernel_rfl) (bs:=[]) (by kernel_rfl) trivial fun x=>by kernel_rfl
def oQ2 (p0:List Int):Prop×(List Int):=
 ((0<List.length p0∧((!false)=true→((List.length ([]:List Int)+List.length p0:Nat):Int)≤4294967296)),(bif false then [] else (([]:List Int)++p0)))
def rD8 (p0:List Int):Prop:=(oQ2 p0).1
def f63c (p0:List Int):List Int:=(oQ2 p0).2
instance (p0:List Int):Decidable (rD8 p0):=by
 unfold rD8 oQ2
 try dsimp only
 infer_instance
def qN:Am.Spec:=fnSpec [(0,(.val (.sl (.int .i64))))] (.own (.int .i64) 0 false) [] (fun x=>rD8 x.1) (fun x=>f63c x.1) (fun _=>())
def pJ7:Ctx:=Cx tys [] [] [(7,[(4,0,7,0)])] false 8 [] []
theorem pJ8:CtxOk Tryz.prog pJ7:=xW4 xY7 rfl trivial rfl (by kernel_rfl)
theorem oQ3:SpecOk Tryz.prog 63 qN:=xY3 pJ8 mixed Tryz.func63 (by kernel_rfl) (bs:=[]) (by kernel_rfl) trivial fun x=>by kernel_rfl
def f63 (p0:List Int):List Int:=p0
def uX9 (p0:List Int):Prop:=(List.length p0:Int)≤4294967296
instance (p0:List Int):Decidable (uX9 p0):=by
  unfold uX9
  infer_instance
def nE2:List (Nat×Sh):=[(0,(.val (.sl (.int .i64))))]
def pW5:Sh:=(.own (.int .i64) 0 false)
def nE3:List (Nat×Sh):=[]
def sG4:Am.Spec:=fnSpec nE2 pW5 nE3 (fun x=>uX9 x.1) (fun x=>f63 x.1) (fun _=>())
theorem pW6:SpecOk Tryz.prog 63 sG4:=xV6 (rs:=pW5) (F:=f63) (ok:=uX9) oQ oQ1 oQ3 (of_decide_eq_true (by kernel_rfl)) (of_decide_eq_true (by kernel_rfl)) (fun l h hp=>⟨hp,fun _=>by simpa[uX9] using h⟩) rfl rfl (fun _=>rfl)
def oQ4 (p0:Unit):Prop×(List D42):=
 (((!true)=true→((List.length ([]:List D42)+List.length ([]:List D42):Nat):Int)≤4294967296),(bif true then [] else (([]:List D42)++([]:List D42))))
def rD9 (p0:Unit):Prop:=(oQ4 p0).1
def f66a (p0:Unit):List D42:=(oQ4 p0).2
instance (p0:Unit):Decidable (rD9 p0):=by
 unfold rD9 oQ4
 try dsimp only
 infer_instance
def qN0:Am.Spec:=fnSpec [(0,(.nn true))] (.own T42 0 false) [] (fun x=>rD9 x.1) (fun x=>f66a x.1) (fun _=>())
def pJ9:Ctx:=Cx tys [] [] [(7,[(4,0,7,0)])] false 8 [] []
theorem pK:CtxOk Tryz.prog pJ9:=xW4 xY7 rfl trivial rfl (by kernel_rfl)
theorem oQ5:SpecOk Tryz.prog 66 qN0:=xY3 pK mixed Tryz.func66 (by kernel_rfl) (bs:=[]) (by kernel_rfl) trivial fun x=>by kernel_rfl
def oQ6 (p0:Unit):Prop×(List D42):=
 (((!false)=true→((List.length ([]:List D42)+List.length ([]:List D42):Nat):Int)≤4294967296),(bif false then [] else (([]:List D42)++([]:List D42))))
def rE (p0:Unit):Prop:=(oQ6 p0).1
def f66b (p0:Unit):List D42:=(oQ6 p0).2
instance (p0:Unit):Decidable (rE p0):=by
 unfold rE oQ6
 try dsimp only
 infer_instance
def qN1:Am.Spec:=fnSpec [(0,(.nn false))] (.own T42 0 false) [] (fun x=>rE x.1) (fun x=>f66b x.1) (fun _=>())
def pK0:Ctx:=Cx tys [] [] [(7,[(4,0,7,0)])] false 8 [] []
theorem pK1:CtxOk Tryz.prog pK0:=xW4 xY7 rfl trivial rfl (by kernel_rfl)
theorem oQ7:SpecOk Tryz.prog 66 qN1:=xY3 pK1 mixed Tryz.func66 (by kernel_rfl) (bs:=[]) (by kernel_rfl) trivial fun x=>by kernel_rfl
def oQ8 (p0:List D42):Prop×(List D42):=
 ((0<List.length p0∧((!false)=true→((List.length ([]:List D42)+List.length p0:Nat):Int)≤4294967296)),(bif false then [] else (([]:List D42)++p0)))
def rE0 (p0:List D42):Prop:=(oQ8 p0).1
def f66c (p0:List D42):List D42:=(oQ8 p0).2
instance (p0:List D42):Decidable (rE0 p0):=by
 unfold rE0 oQ8
 try dsimp only
 infer_instance
def qN2:Am.Spec:=fnSpec [(0,(.val (.sl T42)))] (.own T42 0 false) [] (fun x=>rE0 x.1) (fun x=>f66c x.1) (fun _=>())
def pK2:Ctx:=Cx tys [] [] [(7,[(4,0,7,0)])] false 8 [] []
theorem pK3:CtxOk Tryz.prog pK2:=xW4 xY7 rfl trivial rfl (by kernel_rfl)
theorem oQ9:SpecOk Tryz.prog 66 qN2:=xY3 pK3 mixed Tryz.func66 (by kernel_rfl) (bs:=[]) (by kernel_rfl) trivial fun x=>by kernel_rfl
def f66 (p0:List D42):List D42:=p0
def tP8 (p0:List D42):Prop:=(List.length p0:Int)≤4294967296
instance (p0:List D42):Decidable (tP8 p0):=by
  unfold tP8
  infer_instance
def nE4:List (Nat×Sh):=[(0,(.val (.sl T42)))]
def pW7:Sh:=(.own T42 0 false)
def nE5:List (Nat×Sh):=[]
def sG5:Am.Spec:=fnSpec nE4 pW7 nE5 (fun x=>tP8 x.1) (fun x=>f66 x.1) (fun _=>())
theorem pW8:SpecOk Tryz.prog 66 sG5:=xV6 (rs:=pW7) (F:=f66) (ok:=tP8) oQ5 oQ7 oQ9 (of_decide_eq_true (by kernel_rfl)) (of_decide_eq_true (by kernel_rfl)) (fun l h hp=>⟨hp,fun _=>by simpa[tP8] using h⟩) rfl rfl (fun _=>rfl)
def oR (p0:Unit):Prop×(List D122):=
 (((!true)=true→((List.length ([]:List D122)+List.length ([]:List D122):Nat):Int)≤4294967296),(bif true then [] else (([]:List D122)++([]:List D122))))
def rE1 (p0:Unit):Prop:=(oR p0).1
def f89a (p0:Unit):List D122:=(oR p0).2
instance (p0:Unit):Decidable (rE1 p0):=by
 unfold rE1 oR
 try dsimp only
 infer_instance
def qN3:Am.Spec:=fnSpec [(0,(.nn true))] (.own T122 0 false) [] (fun x=>rE1 x.1) (fun x=>f89a x.1) (fun _=>())
def pK4:Ctx:=Cx tys [] [] [(7,[(4,0,7,0)])] false 8 [] []
theorem pK5:CtxOk Tryz.prog pK4:=xW4 xY7 rfl trivial rfl (by kernel_rfl)
theorem oR0:SpecOk Tryz.prog 89 qN3:=xY3 pK5 mixed Tryz.func89 (by kernel_rfl) (bs:=[]) (by kernel_rfl) trivial fun x=>by kernel_rfl
def oR1 (p0:Unit):Prop×(List D122):=
 (((!false)=true→((List.length ([]:List D122)+List.length ([]:List D122):Nat):Int)≤4294967296),(bif false then [] else (([]:List D122)++([]:List D122))))
def rE2 (p0:Unit):Prop:=(oR1 p0).1
def f89b (p0:Unit):List D122:=(oR1 p0).2
instance (p0:Unit):Decidable (rE2 p0):=by
 unfold rE2 oR1
 try dsimp only
 infer_instance
def qN4:Am.Spec:=fnSpec [(0,(.nn false))] (.own T122 0 false) [] (fun x=>rE2 x.1) (fun x=>f89b x.1) (fun _=>())
def pK6:Ctx:=Cx tys [] [] [(7,[(4,0,7,0)])] false 8 [] []
theorem pK7:CtxOk Tryz.prog pK6:=xW4 xY7 rfl trivial rfl (by kernel_rfl)
theorem oR2:SpecOk Tryz.prog 89 qN4:=xY3 pK7 mixed Tryz.func89 (by kernel_rfl) (bs:=[]) (by kernel_rfl) trivial fun x=>by kernel_rfl
def oR3 (p0:List D122):Prop×(List D122):=
 ((0<List.length p0∧((!false)=true→((List.length ([]:List D122)+List.length p0:Nat):Int)≤4294967296)),(bif false then [] else (([]:List D122)++p0)))
def rE3 (p0:List D122):Prop:=(oR3 p0).1
def f89c (p0:List D122):List D122:=(oR3 p0).2
instance (p0:List D122):Decidable (rE3 p0):=by
 unfold rE3 oR3
 try dsimp only
 infer_instance
def qN5:Am.Spec:=fnSpec [(0,(.val (.sl T122)))] (.own T122 0 false) [] (fun x=>rE3 x.1) (fun x=>f89c x.1) (fun _=>())
def pK8:Ctx:=Cx tys [] [] [(7,[(4,0,7,0)])] false 8 [] []
theorem pK9:CtxOk Tryz.prog pK8:=xW4 xY7 rfl trivial rfl (by kernel_rfl)
theorem oR4:SpecOk Tryz.prog 89 qN5:=xY3 pK9 mixed Tryz.func89 (by kernel_rfl) (bs:=[]) (by kernel_rfl) trivial fun x=>by kernel_rfl
def f89 (p0:List D122):List D122:=p0
def tZ0 (p0:List D122):Prop:=(List.length p0:Int)≤4294967296
instance (p0:List D122):Decidable (tZ0 p0):=by
  unfold tZ0
  infer_instance
def nE6:List (Nat×Sh):=[(0,(.val (.sl T122)))]
def pW9:Sh:=(.own T122 0 false)
def nE7:List (Nat×Sh):=[]
def rP4:Am.Spec:=fnSpec nE6 pW9 nE7 (fun x=>tZ0 x.1) (fun x=>f89 x.1) (fun _=>())
theorem nE8:SpecOk Tryz.prog 89 rP4:=xV6 (rs:=pW9) (F:=f89) (ok:=tZ0) oR0 oR2 oR4 (of_decide_eq_true (by kernel_rfl)) (of_decide_eq_true (by kernel_rfl)) (fun l h hp=>⟨hp,fun _=>by simpa[tZ0] using h⟩) rfl rfl (fun _=>rfl)
def oR5 (p0:Unit):Prop×(List D128):=
 (((!true)=true→((List.length ([]:List D128)+List.length ([]:List D128):Nat):Int)≤4294967296),(bif true then [] else (([]:List D128)++([]:List D128))))
def rE4 (p0:Unit):Prop:=(oR5 p0).1
def f90a (p0:Unit):List D128:=(oR5 p0).2
instance (p0:Unit):Decidable (rE4 p0):=by
 unfold rE4 oR5
 try dsimp only
 infer_instance
def qN6:Am.Spec:=fnSpec [(0,(.nn true))] (.own T128 0 false) [] (fun x=>rE4 x.1) (fun x=>f90a x.1) (fun _=>())
def pL:Ctx:=Cx tys [] [] [(7,[(4,0,7,0)])] false 8 [] []
theorem pL0:CtxOk Tryz.prog pL:=xW4 xY7 rfl trivial rfl (by kernel_rfl)
theorem oR6:SpecOk Tryz.prog 90 qN6:=xY3 pL0 mixed Tryz.func90 (by kernel_rfl) (bs:=[]) (by kernel_rfl) trivial fun x=>by kernel_rfl
def oR7 (p0:Unit):Prop×(List D128):=
 (((!false)=true→((List.length ([]:List D128)+List.length ([]:List D128):Nat):Int)≤4294967296),(bif false then [] else (([]:List D128)++([]:List D128))))
def rE5 (p0:Unit):Prop:=(oR7 p0).1
def f90b (p0:Unit):List D128:=(oR7 p0).2
instance (p0:Unit):Decidable (rE5 p0):=by
 unfold rE5 oR7
 try dsimp only
 infer_instance
def qN7:Am.Spec:=fnSpec [(0,(.nn false))] (.own T128 0 false) [] (fun x=>rE5 x.1) (fun x=>f90b x.1) (fun _=>())
def pL1:Ctx:=Cx tys [] [] [(7,[(4,0,7,0)])] false 8 [] []
theorem pL2:CtxOk Tryz.prog pL1:=xW4 xY7 rfl trivial rfl (by kernel_rfl)
theorem oR8:SpecOk Tryz.prog 90 qN7:=xY3 pL2 mixed Tryz.func90 (by kernel_rfl) (bs:=[]) (by kernel_rfl) trivial fun x=>by kernel_rfl
def oR9 (p0:List D128):Prop×(List D128):=
 ((0<List.length p0∧((!false)=true→((List.length ([]:List D128)+List.length p0:Nat):Int)≤4294967296)),(bif false then [] else (([]:List D128)++p0)))
def rE6 (p0:List D128):Prop:=(oR9 p0).1
def f90c (p0:List D128):List D128:=(oR9 p0).2
instance (p0:List D128):Decidable (rE6 p0):=by
 unfold rE6 oR9
 try dsimp only
 infer_instance
def qN8:Am.Spec:=fnSpec [(0,(.val (.sl T128)))] (.own T128 0 false) [] (fun x=>rE6 x.1) (fun x=>f90c x.1) (fun _=>())
def pL3:Ctx:=Cx tys [] [] [(7,[(4,0,7,0)])] false 8 [] []
theorem pL4:CtxOk Tryz.prog pL3:=xW4 xY7 rfl trivial rfl (by kernel_rfl)
theorem oS:SpecOk Tryz.prog 90 qN8:=xY3 pL4 mixed Tryz.func90 (by kernel_rfl) (bs:=[]) (by kernel_rfl) trivial fun x=>by kernel_rfl
def f90 (p0:List D128):List D128:=p0
def tZ1 (p0:List D128):Prop:=(List.length p0:Int)≤4294967296
instance (p0:List D128):Decidable (tZ1 p0):=by
  unfold tZ1
  infer_instance
def nE9:List (Nat×Sh):=[(0,(.val (.sl T128)))]
def pX:Sh:=(.own T128 0 false)
def nF:List (Nat×Sh):=[]
def rP5:Am.Spec:=fnSpec nE9 pX nF (fun x=>tZ1 x.1) (fun x=>f90 x.1) (fun _=>())
theorem nF0:SpecOk Tryz.prog 90 rP5:=xV6 (rs:=pX) (F:=f90) (ok:=tZ1) oR6 oR8 oS (of_decide_eq_true (by kernel_rfl)) (of_decide_eq_true (by kernel_rfl)) (fun l h hp=>⟨hp,fun _=>by simpa[tZ1] using h⟩) rfl rfl (fun _=>rfl)
def oS0 (p0:Unit):Prop×(List D125):=
 (((!true)=true→((List.length ([]:List D125)+List.length ([]:List D125):Nat):Int)≤4294967296),(bif true then [] else (([]:List D125)++([]:List D125))))
def rE7 (p0:Unit):Prop:=(oS0 p0).1
def f91a (p0:Unit):List D125:=(oS0 p0).2
instance (p0:Unit):Decidable (rE7 p0):=by
 unfold rE7 oS0
 try dsimp only
 infer_instance
def qN9:Am.Spec:=fnSpec [(0,(.nn true))] (.own T125 0 false) [] (fun x=>rE7 x.1) (fun x=>f91a x.1) (fun _=>())
def pL5:Ctx:=Cx tys [] [] [(7,[(4,0,7,0)])] false 8 [] []
theorem pL6:CtxOk Tryz.prog pL5:=xW4 xY7 rfl trivial rfl (by kernel_rfl)
theorem oS1:SpecOk Tryz.prog 91 qN9:=xY3 pL6 mixed Tryz.func91 (by kernel_rfl) (bs:=[]) (by kernel_rfl) trivial fun x=>by kernel_rfl
def oS2 (p0:Unit):Prop×(List D125):=
 (((!false)=true→((List.length ([]:List D125)+List.length ([]:List D125):Nat):Int)≤4294967296),(bif false then [] else (([]:List D125)++([]:List D125))))
def rE8 (p0:Unit):Prop:=(oS2 p0).1
def f91b (p0:Unit):List D125:=(oS2 p0).2
instance (p0:Unit):Decidable (rE8 p0):=by
 unfold rE8 oS2
 try dsimp only
 infer_instance
def qO:Am.Spec:=fnSpec [(0,(.nn false))] (.own T125 0 false) [] (fun x=>rE8 x.1) (fun x=>f91b x.1) (fun _=>())
def pL7:Ctx:=Cx tys [] [] [(7,[(4,0,7,0)])] false 8 [] []
theorem pL8:CtxOk Tryz.prog pL7:=xW4 xY7 rfl trivial rfl (by kernel_rfl)
theorem oS3:SpecOk Tryz.prog 91 qO:=xY3 pL8 mixed Tryz.func91 (by kernel_rfl) (bs:=[]) (by kernel_rfl) trivial fun x=>by kernel_rfl
def oS4 (p0:List D125):Prop×(List D125):=
 ((0<List.length p0∧((!false)=true→((List.length ([]:List D125)+List.length p0:Nat):Int)≤4294967296)),(bif false then [] else (([]:List D125)++p0)))
def rE9 (p0:List D125):Prop:=(oS4 p0).1
def f91c (p0:List D125):List D125:=(oS4 p0).2
instance (p0:List D125):Decidable (rE9 p0):=by
 unfold rE9 oS4
 try dsimp only
 infer_instance
def qO0:Am.Spec:=fnSpec [(0,(.val (.sl T125)))] (.own T125 0 false) [] (fun x=>rE9 x.1) (fun x=>f91c x.1) (fun _=>())
def pL9:Ctx:=Cx tys [] [] [(7,[(4,0,7,0)])] false 8 [] []
theorem pM:CtxOk Tryz.prog pL9:=xW4 xY7 rfl trivial rfl (by kernel_rfl)
theorem oS5:SpecOk Tryz.prog 91 qO0:=xY3 pM mixed Tryz.func91 (by kernel_rfl) (bs:=[]) (by kernel_rfl) trivial fun x=>by kernel_rfl
def f91 (p0:List D125):List D125:=p0
def tZ2 (p0:List D125):Prop:=(List.length p0:Int)≤4294967296
instance (p0:List D125):Decidable (tZ2 p0):=by
  unfold tZ2
  infer_instance
def nF1:List (Nat×Sh):=[(0,(.val (.sl T125)))]
def pX0:Sh:=(.own T125 0 false)
def nF2:List (Nat×Sh):=[]
def rP6:Am.Spec:=fnSpec nF1 pX0 nF2 (fun x=>tZ2 x.1) (fun x=>f91 x.1) (fun _=>())
theorem nF3:SpecOk Tryz.prog 91 rP6:=xV6 (rs:=pX0) (F:=f91) (ok:=tZ2) oS1 oS3 oS5 (of_decide_eq_true (by kernel_rfl)) (of_decide_eq_true (by kernel_rfl)) (fun l h hp=>⟨hp,fun _=>by simpa[tZ2] using h⟩) rfl rfl (fun _=>rfl)
def f67t (p0:D49)(p1:D49):Prop×(D49×Int×Unit):=
 let v10:=(p0.2.1 !=p1.2.1)
 let s_20:=(p1.2.2.2.2.2.2.2.2.2.2.2.2.2.2.2.2.2.2.2.2.2.2.2.2.2.2.2.1.1,p1.2.2.2.2.2.2.2.2.2.2.2.2.2.2.2.2.2.2.2.2.2.2.2.2.2.2.2.1.2.1,p1.2.2.2.2.2.2.2.2.2.2.2.2.2.2.2.2.2.2.2.2.2.2.2.2.2.2.2.1.2.2.1,(f91 p1.2.2.2.2.2.2.2.2.2.2.2.2.2.2.2.2.2.2.2.2.2.2.2.2.2.2.2.1.2.2.2.1),())
 let s_21:=(p0.1,p0.2.1,p0.2.2.1,p0.2.2.2.1,p0.2.2.2.2.1,p0.2.2.2.2.2.1,p0.2.2.2.2.2.2.1,p0.2.2.2.2.2.2.2.1,p0.2.2.2.2.2.2.2.2.1,(p0.2.2.2.2.2.2.2.2.2.1.1,p0.2.2.2.2.2.2.2.2.2.1.2.1,(f63 p0.2.2.2.2.2.2.2.2.2.1.2.2.1),()),p0.2.2.2.2.2.2.2.2.2.2.1,p0.2.2.2.2.2.2.2.2.2.2.2.1,(p1.2.2.2.2.2.2.2.2.2.2.2.2.1.1,p1.2.2.2.2.2.2.2.2.2.2.2.2.1.2.1,(f66 p1.2.2.2.2.2.2.2.2.2.2.2.2.1.2.2.1),()),p1.2.2.2.2.2.2.2.2.2.2.2.2.2.1,p1.2.2.2.2.2.2.2.2.2.2.2.2.2.2.1,(f63 p1.2.2.2.2.2.2.2.2.2.2.2.2.2.2.2.1),p1.2.2.2.2.2.2.2.2.2.2.2.2.2.2.2.2.1,(f89 p1.2.2.2.2.2.2.2.2.2.2.2.2.2.2.2.2.2.1),(f90 p1.2.2.2.2.2.2.2.2.2.2.2.2.2.2.2.2.2.2.1),p1.2.2.2.2.2.2.2.2.2.2.2.2.2.2.2.2.2.2.2.1,p1.2.2.2.2.2.2.2.2.2.2.2.2.2.2.2.2.2.2.2.2.1,p1.2.2.2.2.2.2.2.2.2.2.2.2.2.2.2.2.2.2.2.2.2.1,p1.2.2.2.2.2.2.2.2.2.2.2.2.2.2.2.2.2.2.2.2.2.2.1,p1.2.2.2.2.2.2.2.2.2.2.2.2.2.2.2.2.2.2.2.2.2.2.2.1,p1.2.2.2.2.2.2.2.2.2.2.2.2.2.2.2.2.2.2.2.2.2.2.2.2.1,p1.2.2.2.2.2.2.2.2.2.2.2.2.2.2.2.2.2.2.2.2.2.2.2.2.2.1,p1.2.2.2.2.2.2.2.2.2.2.2.2.2.2.2.2.2.2.2.2.2.2.2.2.2.2.1,s_20,())
 let s_25:=((0:Int),(0:Int),(0:Int),([]:List UInt8),false,false,false,(0:Int),(0:Int),((0:Int),(0:Int),([]:List Int),()),Z37,(0:Int),((0:Int),(0:Int),([]:List D42),()),Z42,(0:Int),([]:List Int),(0:Int),([]:List D122),([]:List D128),(0:Int),(0:Int),(0:Int),(0:Int),([]:List UInt8),(0:Int),(0:Int),(0:Int),((0:Int),(0:Int),(0:Int),([]:List D125),()),())
 (((!v10)=true→((uX9 p0.2.2.2.2.2.2.2.2.2.1.2.2.1)∧((tP8 p1.2.2.2.2.2.2.2.2.2.2.2.2.1.2.2.1)∧((uX9 p1.2.2.2.2.2.2.2.2.2.2.2.2.2.2.2.1)∧((tZ0 p1.2.2.2.2.2.2.2.2.2.2.2.2.2.2.2.2.2.1)∧((tZ1 p1.2.2.2.2.2.2.2.2.2.2.2.2.2.2.2.2.2.2.1)∧(tZ2 p1.2.2.2.2.2.2.2.2.2.2.2.2.2.2.2.2.2.2.2.2.2.2.2.2.2.2.2.1.2.2.2.1))))))),((bif v10 then s_25 else s_21),(bif v10 then (8:Int) else (0:Int)),()))
def sU4 (p0:D49)(p1:D49):Prop:=(f67t p0 p1).1
def f67 (p0:D49)(p1:D49):(D49×Int×Unit):=(f67t p0 p1).2
instance (p0:D49)(p1:D49):Decidable (sU4 p0 p1):=by
 unfold sU4 f67t
 try dsimp only
 infer_instance
def rP7:Am.Spec:=fnSpec [(0,(.val T49)),(1,(.val T49))] (.tup (.cons (.val T49) (.cons vI .nl))) [] (fun x=>sU4 x.1 x.2.1) (fun x=>f67 x.1 x.2.1) (fun _=>())
def oS6:Ctx:=Cx tys [(63,sG4),(66,sG5),(89,rP4),(90,rP5),(91,rP6)] [] [] false 82 [] []
theorem oS7:CtxOk Tryz.prog oS6:=xW4 xY7 rfl ⟨pW6,pW8,nE8,nF0,nF3,trivial⟩ rfl (by kernel_rfl)
theorem nF4:SpecOk Tryz.prog 67 rP7:=xY3 oS7 mixed Tryz.func67 (by kernel_rfl) (bs:=[]) (by kernel_rfl) trivial fun x=>by kernel_rfl
def f35t (p0:D49):Prop×D49:=
 ((sU4 p0 p0),(f67 p0 p0).1)
def tP9 (p0:D49):Prop:=(f35t p0).1
def f35 (p0:D49):D49:=(f35t p0).2
instance (p0:D49):Decidable (tP9 p0):=by
 unfold tP9 f35t
 try dsimp only
 infer_instance
def tB:Am.Spec:=fnSpec [(0,(.val T49))] (.val T49) [] (fun x=>tP9 x.1) (fun x=>f35 x.1) (fun _=>())
def oS8:Ctx:=Cx tys [(67,rP7)] [] [] false 12 [] []
theorem oS9:CtxOk Tryz.prog oS8:=xW4 xY7 rfl ⟨nF4,trivial⟩ rfl (by kernel_rfl)
theorem qO1:SpecOk Tryz.prog 35 tB:=xY3 oS9 mixed Tryz.func35 (by kernel_rfl) (bs:=[]) (by kernel_rfl) trivial fun x=>by kernel_rfl
def oT (p0:Unit):Prop×(List D87):=
 (((!true)=true→((List.length ([]:List D87)+List.length ([]:List D87):Nat):Int)≤4294967296),(bif true then [] else (([]:List D87)++([]:List D87))))
def rF (p0:Unit):Prop:=(oT p0).1
def f64a (p0:Unit):List D87:=(oT p0).2
instance (p0:Unit):Decidable (rF p0):=by
 unfold rF oT
 try dsimp only
 infer_instance
def qO2:Am.Spec:=fnSpec [(0,(.nn true))] (.own T87 0 false) [] (fun x=>rF x.1) (fun x=>f64a x.1) (fun _=>())
def pM0:Ctx:=Cx tys [] [] [(7,[(4,0,7,0)])] false 8 [] []
theorem pM1:CtxOk Tryz.prog pM0:=xW4 xY7 rfl trivial rfl (by kernel_rfl)
theorem oT0:SpecOk Tryz.prog 64 qO2:=xY3 pM1 mixed Tryz.func64 (by kernel_rfl) (bs:=[]) (by kernel_rfl) trivial fun x=>by kernel_rfl
def oT1 (p0:Unit):Prop×(List D87):=
 (((!false)=true→((List.length ([]:List D87)+List.length ([]:List D87):Nat):Int)≤4294967296),(bif false then [] else (([]:List D87)++([]:List D87))))
def rF0 (p0:Unit):Prop:=(oT1 p0).1
def f64b (p0:Unit):List D87:=(oT1 p0).2
instance (p0:Unit):Decidable (rF0 p0):=by
 unfold rF0 oT1
 try dsimp only
 infer_instance
def qO3:Am.Spec:=fnSpec [(0,(.nn false))] (.own T87 0 false) [] (fun x=>rF0 x.1) (fun x=>f64b x.1) (fun _=>())
def pM2:Ctx:=Cx tys [] [] [(7,[(4,0,7,0)])] false 8 [] []
theorem pM3:CtxOk Tryz.prog pM2:=xW4 xY7 rfl trivial rfl (by kernel_rfl)
theorem oT2:SpecOk Tryz.prog 64 qO3:=xY3 pM3 mixed Tryz.func64 (by kernel_rfl) (bs:=[]) (by kernel_rfl) trivial fun x=>by kernel_rfl
def oT3 (p0:List D87):Prop×(List D87):=
 ((0<List.length p0∧((!false)=true→((List.length ([]:List D87)+List.length p0:Nat):Int)≤4294967296)),(bif false then [] else (([]:List D87)++p0)))
def rF1 (p0:List D87):Prop:=(oT3 p0).1
def f64c (p0:List D87):List D87:=(oT3 p0).2
instance (p0:List D87):Decidable (rF1 p0):=by
 unfold rF1 oT3
 try dsimp only
 infer_instance
def qO4:Am.Spec:=fnSpec [(0,(.val (.sl T87)))] (.own T87 0 false) [] (fun x=>rF1 x.1) (fun x=>f64c x.1) (fun _=>())
def pM4:Ctx:=Cx tys [] [] [(7,[(4,0,7,0)])] false 8 [] []
theorem pM5:CtxOk Tryz.prog pM4:=xW4 xY7 rfl trivial rfl (by kernel_rfl)
theorem oT4:SpecOk Tryz.prog 64 qO4:=xY3 pM5 mixed Tryz.func64 (by kernel_rfl) (bs:=[]) (by kernel_rfl) trivial fun x=>by kernel_rfl
def f64 (p0:List D87):List D87:=p0
def tZ3 (p0:List D87):Prop:=(List.length p0:Int)≤4294967296
instance (p0:List D87):Decidable (tZ3 p0):=by
  unfold tZ3
  infer_instance
def nF5:List (Nat×Sh):=[(0,(.val (.sl T87)))]
def pX1:Sh:=(.own T87 0 false)
def nF6:List (Nat×Sh):=[]
def rP8:Am.Spec:=fnSpec nF5 pX1 nF6 (fun x=>tZ3 x.1) (fun x=>f64 x.1) (fun _=>())
theorem nF7:SpecOk Tryz.prog 64 rP8:=xV6 (rs:=pX1) (F:=f64) (ok:=tZ3) oT0 oT2 oT4 (of_decide_eq_true (by kernel_rfl)) (of_decide_eq_true (by kernel_rfl)) (fun l h hp=>⟨hp,fun _=>by simpa[tZ3] using h⟩) rfl rfl (fun _=>rfl)
def oT5 (p0:Unit):Prop×(List D90):=
 (((!true)=true→((List.length ([]:List D90)+List.length ([]:List D90):Nat):Int)≤4294967296),(bif true then [] else (([]:List D90)++([]:List D90))))
def rF2 (p0:Unit):Prop:=(oT5 p0).1
def f65a (p0:Unit):List D90:=(oT5 p0).2
instance (p0:Unit):Decidable (rF2 p0):=by
 unfold rF2 oT5
 try dsimp only
 infer_instance
def qO5:Am.Spec:=fnSpec [(0,(.nn true))] (.own T90 0 true) [] (fun x=>rF2 x.1) (fun x=>f65a x.1) (fun _=>())
def pM6:Ctx:=Cx tys [] [] [(7,[(4,0,7,0)])] false 8 [] [5,7]
theorem pM7:CtxOk Tryz.prog pM6:=xW4 xY7 rfl trivial rfl (by kernel_rfl)
theorem oT6:SpecOk Tryz.prog 65 qO5:=xY3 pM7 mixed Tryz.func65 (by kernel_rfl) (bs:=[]) (by kernel_rfl) trivial fun x=>by kernel_rfl
def oT7 (p0:Unit):Prop×(List D90):=
 (((!false)=true→((List.length ([]:List D90)+List.length ([]:List D90):Nat):Int)≤4294967296),(bif false then [] else (([]:List D90)++([]:List D90))))
def rF3 (p0:Unit):Prop:=(oT7 p0).1
def f65b (p0:Unit):List D90:=(oT7 p0).2
instance (p0:Unit):Decidable (rF3 p0):=by
 unfold rF3 oT7
 try dsimp only
 infer_instance
def qO6:Am.Spec:=fnSpec [(0,(.nn false))] (.own T90 0 true) [] (fun x=>rF3 x.1) (fun x=>f65b x.1) (fun _=>())
def pM8:Ctx:=Cx tys [] [] [(7,[(4,0,7,0)])] false 8 [] [5,7]
theorem pM9:CtxOk Tryz.prog pM8:=xW4 xY7 rfl trivial rfl (by kernel_rfl)
theorem oT8:SpecOk Tryz.prog 65 qO6:=xY3 pM9 mixed Tryz.func65 (by kernel_rfl) (bs:=[]) (by kernel_rfl) trivial fun x=>by kernel_rfl
def oT9 (p0:List D90):Prop×(List D90):=
 ((0<List.length p0∧((!false)=true→((List.length ([]:List D90)+List.length p0:Nat):Int)≤4294967296)),(bif false then [] else (([]:List D90)++p0)))
def rF4 (p0:List D90):Prop:=(oT9 p0).1
def f65c (p0:List D90):List D90:=(oT9 p0).2
instance (p0:List D90):Decidable (rF4 p0):=by
 unfold rF4 oT9
 try dsimp only
 infer_instance
def qO7:Am.Spec:=fnSpec [(0,(.val (.sl T90)))] (.own T90 0 true) [] (fun x=>rF4 x.1) (fun x=>f65c x.1) (fun _=>())
def pN:Ctx:=Cx tys [] [] [(7,[(4,0,7,0)])] false 8 [] [5,7]
theorem pN0:CtxOk Tryz.prog pN:=xW4 xY7 rfl trivial rfl (by kernel_rfl)
theorem oU:SpecOk Tryz.prog 65 qO7:=xY3 pN0 mixed Tryz.func65 (by kernel_rfl) (bs:=[]) (by kernel_rfl) trivial fun x=>by kernel_rfl
def f65 (p0:List D90):List D90:=p0
def tZ4 (p0:List D90):Prop:=(List.length p0:Int)≤4294967296
instance (p0:List D90):Decidable (tZ4 p0):=by
  unfold tZ4
  infer_instance
def nF8:List (Nat×Sh):=[(0,(.val (.sl T90)))]
def pX2:Sh:=(.own T90 0 true)
def nF9:List (Nat×Sh):=[]
def rP9:Am.Spec:=fnSpec nF8 pX2 nF9 (fun x=>tZ4 x.1) (fun x=>f65 x.1) (fun _=>())
theorem nG:SpecOk Tryz.prog 65 rP9:=xV6 (rs:=pX2) (F:=f65) (ok:=tZ4) oT6 oT8 oU (of_decide_eq_true (by kernel_rfl)) (of_decide_eq_true (by kernel_rfl)) (fun l h hp=>⟨hp,fun _=>by simpa[tZ4] using h⟩) rfl rfl (fun _=>rfl)
abbrev vX3:Type:=(D28×(Int×Int×Int×(List D49)×Int×(Int×Int×(List Int)×Unit)×(List D87)×(List D90)×Unit)×(List D49)×Int×Unit)
abbrev wW:Type:=((Int×Int×Int×(List D49)×Int×D24×(List D87)×(List D90)×Unit)×Int×Unit)
def sG6 (y:vX3)(x:wW):Prop×Bool×wW:=
 let a15:=y.2.2.1
 let a3:=x.1
 let a17:=x.2.1
 let v18:=(decide (a17<y.2.2.2.1))
 let v20:=(nth a15 a17 Z49)
 ((v18=true→(InB a17 (len a15)∧((tP9 v20)∧(InB a17 (len a3.2.2.2.1)∧(a17<len a3.2.2.2.1∧InR (a17+1)))))),v18,((a3.1,a3.2.1,a3.2.2.1,(List.set a3.2.2.2.1 (Int.toNat a17) (f35 v20)),a3.2.2.2.2.1,a3.2.2.2.2.2.1,a3.2.2.2.2.2.2.1,a3.2.2.2.2.2.2.2.1,()),(a17+1),()))
def vR7 (y:vX3)(x:wW):Prop:=(sG6 y x).1
def wW0 (y:vX3)(x:wW):Bool:=(sG6 y x).2.1
def wD4 (y:vX3)(x:wW):wW:=(sG6 y x).2.2
instance (y:vX3)(x:wW):Decidable (vR7 y x):=by
 unfold vR7 sG6
 try dsimp only
 infer_instance
def tQ (y:vX3)(x:wW):(Int×Int×Int×(List D49)×Int×D24×(List D87)×(List D90)×Unit):=
 let a3:=x.1
 (a3.1,a3.2.1,a3.2.2.1,a3.2.2.2.1,a3.2.2.2.2.1,a3.2.2.2.2.2.1,a3.2.2.2.2.2.2.1,a3.2.2.2.2.2.2.2.1,())
def sU5:List (Nat×Sh):=[(1,(.box T28 (.val T28))),(2,(.box T28 (.agg (.cons (.int .i64) (.cons (.int .i64) (.cons (.int .i64) (.cons (.sl T49) (.cons (.int .i64) (.cons T24 (.cons (.sl T87) (.cons (.sl T90) .nl)))))))) (.cons vI (.cons vI (.cons vI (.cons (.val (.sl T49)) (.cons vI (.cons (.agg (.cons (.int .i64) (.cons (.int .i64) (.cons (.sl (.int .i64)) .nl))) (.cons vI (.cons vI (.cons (.val (.sl (.int .i64))) .nl)))) (.cons (.val (.sl T87)) (.cons (.val (.sl T90)) .nl))))))))))),(3,(.box T28 (.agg (.cons (.int .i64) (.cons (.int .i64) (.cons (.int .i64) (.cons (.sl T49) (.cons (.int .i64) (.cons T24 (.cons (.sl T87) (.cons (.sl T90) .nl)))))))) (.cons vI (.cons vI (.cons vI (.cons (.own T49 400300 true) (.cons vI (.cons (.val T24) (.cons (.val (.sl T87)) (.cons (.val (.sl T90)) .nl)))))))))))]
def tQ0:St→Option Out:=xP5 [(1,(.box T28 (.val T28))),(2,(.box T28 (.agg (.cons (.int .i64) (.cons (.int .i64) (.cons (.int .i64) (.cons (.sl T49) (.cons (.int .i64) (.cons T24 (.cons (.sl T87) (.cons (.sl T90) .nl)))))))) (.cons vI (.cons vI (.cons vI (.cons (.val (.sl T49)) (.cons vI (.cons (.agg (.cons (.int .i64) (.cons (.int .i64) (.cons (.sl (.int .i64)) .nl))) (.cons vI (.cons vI (.cons (.val (.sl (.int .i64))) .nl)))) (.cons (.val (.sl T87)) (.cons (.val (.sl T90)) .nl))))))))))),(15,(.val (.sl T49))),(16,vI)] [(3,(.box T28 (.agg (.cons (.int .i64) (.cons (.int .i64) (.cons (.int .i64) (.cons (.sl T49) (.cons (.int .i64) (.cons T24 (.cons (.sl T87) (.cons (.sl T90) .nl)))))))) (.cons vI (.cons vI (.cons vI (.cons (.own T49 400300 true) (.cons vI (.cons (.val T24) (.cons (.val (.sl T87)) (.cons (.val (.sl T90)) .nl))))))))))),(17,vI)] wW0 wD4 vR7 fun y x=>[ex 2 none sU5 (y.1,y.2.1,(tQ y x),())]
abbrev vI4:Type:=((Int×Int×Int×(List D49)×Int×(Int×Int×(List Int)×Unit)×(List D87)×(List D90)×Unit)×(List D90)×Int×Unit)
abbrev wU3:Type:=((Int×Int×Int×(List D49)×Int×D24×(List D87)×(List D90)×Unit)×Int×Unit)
def tB0 (y:vI4)(x:wU3):Prop×Bool×wU3:=
 let a44:=y.2.1
 let a3:=x.1
 let a46:=x.2.1
 let v47:=(decide (a46<y.2.2.1))
 let v49:=(nth a44 a46 Z90)
 let s_1:=((nth a3.2.2.2.2.2.2.2.1 a46 Z90).1,(nth a3.2.2.2.2.2.2.2.1 a46 Z90).2.1,(nth a3.2.2.2.2.2.2.2.1 a46 Z90).2.2.1,(nth a3.2.2.2.2.2.2.2.1 a46 Z90).2.2.2.1,((nth a3.2.2.2.2.2.2.2.1 a46 Z90).2.2.2.2.1.1,(nth a3.2.2.2.2.2.2.2.1 a46 Z90).2.2.2.2.1.2.1,(f66 v49.2.2.2.2.1.2.2.1),()),())
 ((v47=true→(InB a46 (len a44)∧((tP8 v49.2.2.2.2.1.2.2.1)∧(InB a46 (len a3.2.2.2.2.2.2.2.1)∧(a46<len a3.2.2.2.2.2.2.2.1∧InR (a46+1)))))),v47,((a3.1,a3.2.1,a3.2.2.1,a3.2.2.2.1,a3.2.2.2.2.1,a3.2.2.2.2.2.1,a3.2.2.2.2.2.2.1,(List.set a3.2.2.2.2.2.2.2.1 (Int.toNat a46) s_1),()),(a46+1),()))
def vI5 (y:vI4)(x:wU3):Prop:=(tB0 y x).1
def wZ7 (y:vI4)(x:wU3):Bool:=(tB0 y x).2.1
def wI3 (y:vI4)(x:wU3):wU3:=(tB0 y x).2.2
instance (y:vI4)(x:wU3):Decidable (vI5 y x):=by
 unfold vI5 tB0
 try dsimp only
 infer_instance
def uY (y:vI4)(x:wU3):(Int×Int×Int×(List D49)×Int×D24×(List D87)×(List D90)×Unit):=
 let a3:=x.1
 (a3.1,a3.2.1,a3.2.2.1,a3.2.2.2.1,a3.2.2.2.2.1,a3.2.2.2.2.2.1,a3.2.2.2.2.2.2.1,a3.2.2.2.2.2.2.2.1,())
def tZ5:List (Nat×Sh):=[(2,(.box T28 (.agg (.cons (.int .i64) (.cons (.int .i64) (.cons (.int .i64) (.cons (.sl T49) (.cons (.int .i64) (.cons T24 (.cons (.sl T87) (.cons (.sl T90) .nl)))))))) (.cons vI (.cons vI (.cons vI (.cons (.val (.sl T49)) (.cons vI (.cons (.agg (.cons (.int .i64) (.cons (.int .i64) (.cons (.sl (.int .i64)) .nl))) (.cons vI (.cons vI (.cons (.val (.sl (.int .i64))) .nl)))) (.cons (.val (.sl T87)) (.cons (.val (.sl T90)) .nl))))))))))),(3,(.box T28 (.agg (.cons (.int .i64) (.cons (.int .i64) (.cons (.int .i64) (.cons (.sl T49) (.cons (.int .i64) (.cons T24 (.cons (.sl T87) (.cons (.sl T90) .nl)))))))) (.cons vI (.cons vI (.cons vI (.cons (.own T49 400300 true) (.cons vI (.cons (.val T24) (.cons (.own T87 400302 false) (.cons (.own T90 400303 true) .nl)))))))))))]
def uY0:St→Option Out:=xP5 [(2,(.box T28 (.agg (.cons (.int .i64) (.cons (.int .i64) (.cons (.int .i64) (.cons (.sl T49) (.cons (.int .i64) (.cons T24 (.cons (.sl T87) (.cons (.sl T90) .nl)))))))) (.cons vI (.cons vI (.cons vI (.cons (.val (.sl T49)) (.cons vI (.cons (.agg (.cons (.int .i64) (.cons (.int .i64) (.cons (.sl (.int .i64)) .nl))) (.cons vI (.cons vI (.cons (.val (.sl (.int .i64))) .nl)))) (.cons (.val (.sl T87)) (.cons (.val (.sl T90)) .nl))))))))))),(44,(.val (.sl T90))),(45,vI)] [(3,(.box T28 (.agg (.cons (.int .i64) (.cons (.int .i64) (.cons (.int .i64) (.cons (.sl T49) (.cons (.int .i64) (.cons T24 (.cons (.sl T87) (.cons (.sl T90) .nl)))))))) (.cons vI (.cons vI (.cons vI (.cons (.own T49 400300 true) (.cons vI (.cons (.val T24) (.cons (.own T87 400302 false) (.cons (.own T90 400303 true) .nl))))))))))),(46,vI)] wZ7 wI3 vI5 fun y x=>[ex 4 none tZ5 (y.1,(uY y x),())]
def f34t (p0:D28):Prop×(Int×Int×Int×(List D49)×Int×D24×(List D87)×(List D90)×Unit):=
 let v11:=(len p0.2.2.2.1)
 let y4:=(p0,((0:Int),(0:Int),(0:Int),([]:List D49),(0:Int),((0:Int),(0:Int),([]:List Int),()),([]:List D87),([]:List D90),()),p0.2.2.2.1,(len p0.2.2.2.1),())
 let x4:=((p0.1,p0.2.1,p0.2.2.1,(List.replicate (Int.toNat v11) Z49),p0.2.2.2.2.1,p0.2.2.2.2.2.1,p0.2.2.2.2.2.2.1,p0.2.2.2.2.2.2.2.1,()),(0:Int),())
 let r4_2_0:=(tQ y4 (zC1 (wW0 y4) (wD4 y4) x4))
 let s_6:=(r4_2_0.1,r4_2_0.2.1,r4_2_0.2.2.1,r4_2_0.2.2.2.1,r4_2_0.2.2.2.2.1,(r4_2_0.2.2.2.2.2.1.1,r4_2_0.2.2.2.2.2.1.2.1,(f63 p0.2.2.2.2.2.1.2.2.1),()),(f64 p0.2.2.2.2.2.2.1),(f65 p0.2.2.2.2.2.2.2.1),())
 let y12:=(((0:Int),(0:Int),(0:Int),([]:List D49),(0:Int),((0:Int),(0:Int),([]:List Int),()),([]:List D87),([]:List D90),()),p0.2.2.2.2.2.2.2.1,(len p0.2.2.2.2.2.2.2.1),())
 let x12:=(s_6,(0:Int),())
 let r12_4_0:=(uY y12 (zC1 (wZ7 y12) (wI3 y12) x12))
 (((0≤v11∧v11≤v11∧v11≤4294967296)∧((Am.Ends (wW0 y4) (wD4 y4) (vR7 y4) x4)∧((uX9 p0.2.2.2.2.2.1.2.2.1)∧((tZ3 p0.2.2.2.2.2.2.1)∧((tZ4 p0.2.2.2.2.2.2.2.1)∧(Am.Ends (wZ7 y12) (wI3 y12) (vI5 y12) x12)))))),(r12_4_0.1,r12_4_0.2.1,r12_4_0.2.2.1,r12_4_0.2.2.2.1,r12_4_0.2.2.2.2.1,r12_4_0.2.2.2.2.2.1,r12_4_0.2.2.2.2.2.2.1,r12_4_0.2.2.2.2.2.2.2.1,()))
def uY1 (p0:D28):Prop:=(f34t p0).1
def f34 (p0:D28):(Int×Int×Int×(List D49)×Int×D24×(List D87)×(List D90)×Unit):=(f34t p0).2
instance (p0:D28):Decidable (uY1 p0):=by
 unfold uY1 f34t
 try dsimp only
 infer_instance
def tB1:Am.Spec:=fnSpec [(0,(.val T28))] (.agg (.cons (.int .i64) (.cons (.int .i64) (.cons (.int .i64) (.cons (.sl T49) (.cons (.int .i64) (.cons T24 (.cons (.sl T87) (.cons (.sl T90) .nl)))))))) (.cons vI (.cons vI (.cons vI (.cons (.own T49 0 true) (.cons vI (.cons (.val T24) (.cons (.val (.sl T87)) (.cons (.own T90 3 true) .nl))))))))) [] (fun x=>uY1 x.1) (fun x=>f34 x.1) (fun _=>())
def rF5:Ctx:=Cx tys [(35,tB),(63,sG4),(64,rP8),(65,rP9),(66,sG5)] [(4,tQ0),(12,uY0)] [(5,[(4,0,12,400300)]),(19,[(4,0,37,400302)]),(21,[(4,0,41,400303)]),(33,[(4,0,400300,0),(4,0,400302,2),(4,0,400303,3)])] false 63 [] [12]
theorem rF6:CtxOk Tryz.prog rF5:=xW4 xY7 rfl ⟨qO1,pW6,nF7,nG,pW8,trivial⟩ rfl (by kernel_rfl)
noncomputable def rQ:Code:=Tryz.f34.body.getD .skip
noncomputable def pX3:Code:=xX3 rQ 0
theorem qO8:yU9 Tryz.prog rF5 pX3:=xY2 rF6 mixed (sp:=tQ0) rfl [sU5] (bs:=[]) (by kernel_rfl) trivial (by kernel_rfl) (by kernel_rfl) fun y x=>by kernel_rfl
noncomputable def qO9:Code:=xX3 rQ 1
theorem qA7:yU9 Tryz.prog rF5 qO9:=xY2 rF6 mixed (sp:=uY0) rfl [tZ5] (bs:=[]) (by kernel_rfl) trivial (by kernel_rfl) (by kernel_rfl) fun y x=>by kernel_rfl
theorem qP:SpecOk Tryz.prog 34 tB1:=xY3 rF6 mixed Tryz.func34 (by kernel_rfl) (bs:=[pX3,qO9]) (by kernel_rfl) ⟨qO8,qA7,trivial⟩ fun x=>by kernel_rfl
def f36 (p0:List D49)(p1:Int)(p2:List D49):List D49:=List.take (Int.toNat p1) p0++(p2++List.drop (Int.toNat p1) p0)
def tZ6 (p0:List D49)(p1:Int)(p2:List D49):Prop:=0≤p1∧p1≤(List.length p0:Int)∧0<List.length p2∧((List.length p0+List.length p2:Nat):Int)≤4294967296
instance (p0:List D49)(p1:Int)(p2:List D49):Decidable (tZ6 p0 p1 p2):=by
  unfold tZ6
  infer_instance
def nG0:List (Nat×Sh):=[(0,(.own T49 400000 true)),(1,(.val (.int .i64))),(2,(.own T49 400200 true))]
def nG1:Sh:=(.own T49 0 true)
def nG2:List (Nat×Sh):=[]
def tB2:Am.Spec:=fnSpec nG0 nG1 nG2 (fun x=>tZ6 x.1 x.2.1 x.2.2.1) (fun x=>f36 x.1 x.2.1 x.2.2.1) (fun _=>())
theorem qP0:SpecOk Tryz.prog 36 tB2:=qY2 rfl ⟨_,Tryz.func36,by kernel_rfl,by decide⟩ nB6
abbrev vX4:Type:=(Int×(List D49)×Int×Unit)
abbrev wW1:Type:=((List Int)×(List (Int×Bool×Unit))×Int×Unit)
def sG7 (y:vX4)(x:wW1):Prop×Bool×wW1:=
 let a11:=y.2.1
 let a5:=x.1
 let a6:=x.2.1
 let a13:=x.2.2.1
 let v14:=(decide (a13<y.2.2.1))
 let v15:=(nth a11 a13 Z49)
 let v26:=(bif (v15.2.2.1==y.1) then true else (Option.getD (yI6 (.int .i64) .bool v15.2.2.1 a6) false))
 let v33:=([v15.1]:List Int)
 ((v14=true→(InB a13 (len a11)∧((v26=true→((List.length a5+List.length v33:Nat):Int)≤4294967296)∧InR (a13+1)))),v14,((bif v26 then (a5++v33) else a5),(bif v26 then (xL9 (.int .i64) .bool v15.1 true a6) else a6),(a13+1),()))
def vR8 (y:vX4)(x:wW1):Prop:=(sG7 y x).1
def vX5 (y:vX4)(x:wW1):Bool:=(sG7 y x).2.1
def wM1 (y:vX4)(x:wW1):wW1:=(sG7 y x).2.2
instance (y:vX4)(x:wW1):Decidable (vR8 y x):=by
 unfold vR8 sG7
 try dsimp only
 infer_instance
def tQ1 (y:vX4)(x:wW1):(List Int):=
 x.1
def sU6:List (Nat×Sh):=[(5,(.own (.int .i64) 1005 false))]
def tQ2:St→Option Out:=xP5 [(1,vI),(11,(.val (.sl T49))),(12,vI)] [(5,(.own (.int .i64) 1005 false)),(6,(.own (xD1 (.int .i64) .bool) 1006 true)),(13,vI)] vX5 wM1 vR8 fun y x=>[ex 2 none sU6 ((tQ1 y x),())]
def f11t (p0:D28)(p1:Int):Prop×(List Int):=
 let y4:=(p1,p0.2.2.2.1,(len p0.2.2.2.1),())
 let x4:=(([]:List Int),([]:List (Int×Bool×Unit)),(0:Int),())
 ((Am.Ends (vX5 y4) (wM1 y4) (vR8 y4) x4),(tQ1 y4 (zC1 (vX5 y4) (wM1 y4) x4)))
def uY2 (p0:D28)(p1:Int):Prop:=(f11t p0 p1).1
def f11 (p0:D28)(p1:Int):List Int:=(f11t p0 p1).2
instance (p0:D28)(p1:Int):Decidable (uY2 p0 p1):=by
 unfold uY2 f11t
 try dsimp only
 infer_instance
def tB3:Am.Spec:=fnSpec [(0,(.val T28)),(1,vI)] (.own (.int .i64) 0 false) [] (fun x=>uY2 x.1 x.2.1) (fun x=>f11 x.1 x.2.1) (fun _=>())
def qP1:Ctx:={ Cx tys [] [(4,tQ2)] [(5,[(4,0,9,1006)]),(17,[(4,0,34,1005)]),(21,[(4,0,1005,0)])] false 37 [] [] with maps:=maps }
theorem qP2:CtxOk Tryz.prog qP1:=xW4 xY7 (by kernel_rfl) trivial rfl (by kernel_rfl)
noncomputable def pN1:Code:=Tryz.f11.body.getD .skip
noncomputable def pX4:Code:=xX3 pN1 0
theorem qP3:yU9 Tryz.prog qP1 pX4:=xY2 qP2 mixed (sp:=tQ2) rfl [sU6] (bs:=[]) (by kernel_rfl) trivial (by kernel_rfl) (by kernel_rfl) fun y x=>by kernel_rfl
theorem qP4:SpecOk Tryz.prog 11 tB3:=xY3 qP2 mixed Tryz.func11 (by kernel_rfl) (bs:=[pX4]) (by kernel_rfl) ⟨qP3,trivial⟩ fun x=>by kernel_rfl
def f37t (p0:D28)(p1:Int)(p2:Int):Prop×Int:=
 let v10:=(f20 p0 p1)
 let v14:=(decide (p2<(len v10)))
 let v18:=(nth v10 p2 (0:Int))
 let v22:=(p1==0)
 let v28:=(f8 p0 p1)
 let v29:=(v28+1)
 let v33:=(len (f11 p0 p1))
 (((uK6 p0 p1)∧((v14=true→(InB p2 (len v10)∧(vY3 p0 v18)))∧((!v14)=true→((!v22)=true→((vY3 p0 p1)∧(InR (v28+1)∧((uY2 p0 p1)∧InR (v29+v33)))))))),(bif v14 then (f8 p0 v18) else (bif v22 then (len p0.2.2.2.1) else (v29+v33))))
def tZ7 (p0:D28)(p1:Int)(p2:Int):Prop:=(f37t p0 p1 p2).1
def f37 (p0:D28)(p1:Int)(p2:Int):Int:=(f37t p0 p1 p2).2
instance (p0:D28)(p1:Int)(p2:Int):Decidable (tZ7 p0 p1 p2):=by
 unfold tZ7 f37t
 try dsimp only
 infer_instance
def sG8:Am.Spec:=fnSpec [(0,(.val T28)),(1,vI),(2,vI)] vI [] (fun x=>tZ7 x.1 x.2.1 x.2.2.1) (fun x=>f37 x.1 x.2.1 x.2.2.1) (fun _=>())
def oU0:Ctx:=Cx tys [(8,vJ5),(11,tB3),(20,vX2)] [] [(3,[(4,0,10,1007)])] false 35 [] []
theorem oU1:CtxOk Tryz.prog oU0:=xW4 xY7 rfl ⟨sL2,qP4,sU3,trivial⟩ rfl (by kernel_rfl)
theorem pX5:SpecOk Tryz.prog 37 sG8:=xY3 oU1 mixed Tryz.func37 (by kernel_rfl) (bs:=[]) (by kernel_rfl) trivial fun x=>by kernel_rfl
def f38t (p0:D28):Prop×(D28×Int×Unit):=
 let v6:=(f9 p0)
 let v8:=(v6 !=0)
 ((tP0 p0),((bif v8 then ((0:Int),(0:Int),(0:Int),([]:List D49),(0:Int),((0:Int),(0:Int),([]:List Int),()),([]:List D87),([]:List D90),()) else p0),(bif v8 then v6 else (0:Int)),()))
def tZ8 (p0:D28):Prop:=(f38t p0).1
def f38 (p0:D28):(D28×Int×Unit):=(f38t p0).2
instance (p0:D28):Decidable (tZ8 p0):=by
 unfold tZ8 f38t
 try dsimp only
 infer_instance
def sG9:Am.Spec:=fnSpec [(0,(.val T28))] (.tup (.cons (.val T28) (.cons vI .nl))) [] (fun x=>tZ8 x.1) (fun x=>f38 x.1) (fun _=>())
def oU2:Ctx:=Cx tys [(9,vR5)] [] [] false 12 [] []
theorem oU3:CtxOk Tryz.prog oU2:=xW4 xY7 rfl ⟨rD5,trivial⟩ rfl (by kernel_rfl)
theorem pX6:SpecOk Tryz.prog 38 sG9:=xY3 oU3 mixed Tryz.func38 (by kernel_rfl) (bs:=[]) (by kernel_rfl) trivial fun x=>by kernel_rfl
def f14t (p0:D28)(p1:D49)(p2:Int)(p3:Int):Prop×(D28×Int×Int×Unit):=
 let v16:=(f9 p0)
 let v18:=(v16 !=0)
 let v23:=(f33 p0 p2)
 let v25:=(v23 !=0)
 let v29:=(decide (p3<0))
 let v37:=(bif v29 then true else (decide (p3>(len (f20 p0 p2)))))
 let v47:=(bif (decide ((len p0.2.2.2.1)≥64)) then true else (p0.2.2.2.2.1==1073741824))
 let v50:=(f34 p0)
 let v52:=(f35 p1)
 let s_1:=(p0.2.2.2.2.1,v52.2.1,p2,v52.2.2.2.1,v52.2.2.2.2.1,v52.2.2.2.2.2.1,v52.2.2.2.2.2.2.1,v52.2.2.2.2.2.2.2.1,v52.2.2.2.2.2.2.2.2.1,v52.2.2.2.2.2.2.2.2.2.1,v52.2.2.2.2.2.2.2.2.2.2.1,v52.2.2.2.2.2.2.2.2.2.2.2.1,v52.2.2.2.2.2.2.2.2.2.2.2.2.1,v52.2.2.2.2.2.2.2.2.2.2.2.2.2.1,v52.2.2.2.2.2.2.2.2.2.2.2.2.2.2.1,v52.2.2.2.2.2.2.2.2.2.2.2.2.2.2.2.1,v52.2.2.2.2.2.2.2.2.2.2.2.2.2.2.2.2.1,v52.2.2.2.2.2.2.2.2.2.2.2.2.2.2.2.2.2.1,v52.2.2.2.2.2.2.2.2.2.2.2.2.2.2.2.2.2.2.1,v52.2.2.2.2.2.2.2.2.2.2.2.2.2.2.2.2.2.2.2.1,v52.2.2.2.2.2.2.2.2.2.2.2.2.2.2.2.2.2.2.2.2.1,v52.2.2.2.2.2.2.2.2.2.2.2.2.2.2.2.2.2.2.2.2.2.1,v52.2.2.2.2.2.2.2.2.2.2.2.2.2.2.2.2.2.2.2.2.2.2.1,v52.2.2.2.2.2.2.2.2.2.2.2.2.2.2.2.2.2.2.2.2.2.2.2.1,v52.2.2.2.2.2.2.2.2.2.2.2.2.2.2.2.2.2.2.2.2.2.2.2.2.1,v52.2.2.2.2.2.2.2.2.2.2.2.2.2.2.2.2.2.2.2.2.2.2.2.2.2.1,v52.2.2.2.2.2.2.2.2.2.2.2.2.2.2.2.2.2.2.2.2.2.2.2.2.2.2.1,v52.2.2.2.2.2.2.2.2.2.2.2.2.2.2.2.2.2.2.2.2.2.2.2.2.2.2.2.1,())
 let v63:=(f37 p0 p2 p3)
 let v65:=([s_1]:List D49)
 let s_2:=(v50.1,v50.2.1,v50.2.2.1,(f36 v50.2.2.2.1 v63 v65),(v50.2.2.2.2.1+1),v50.2.2.2.2.2.1,v50.2.2.2.2.2.2.1,v50.2.2.2.2.2.2.2.1,())
 let v74:=(f38 s_2)
 let v78:=(v74.2.1 !=0)
 let m8_1:=(bif v47 then ((0:Int),(0:Int),(0:Int),([]:List D49),(0:Int),((0:Int),(0:Int),([]:List Int),()),([]:List D87),([]:List D90),()) else (bif v78 then ((0:Int),(0:Int),(0:Int),([]:List D49),(0:Int),((0:Int),(0:Int),([]:List Int),()),([]:List D87),([]:List D90),()) else v74.1))
 let m8_3:=(bif v25 then ((0:Int),(0:Int),(0:Int),([]:List D49),(0:Int),((0:Int),(0:Int),([]:List Int),()),([]:List D87),([]:List D90),()) else (bif v37 then ((0:Int),(0:Int),(0:Int),([]:List D49),(0:Int),((0:Int),(0:Int),([]:List Int),()),([]:List D87),([]:List D90),()) else m8_1))
 (((tP0 p0)∧((!v18)=true→((tZ p0 p2)∧((!v25)=true→(((!v29)=true→(uK6 p0 p2))∧((!v37)=true→((!v47)=true→((uY1 p0)∧((tP9 p1)∧((tZ7 p0 p2 p3)∧((tZ6 v50.2.2.2.1 v63 v65)∧(InR (v50.2.2.2.2.1+1)∧(tZ8 s_2))))))))))))),((bif v18 then ((0:Int),(0:Int),(0:Int),([]:List D49),(0:Int),((0:Int),(0:Int),([]:List Int),()),([]:List D87),([]:List D90),()) else m8_3),(bif v18 then (0:Int) else (bif v25 then (0:Int) else (bif v37 then (0:Int) else (bif v47 then (0:Int) else (bif v78 then (0:Int) else p0.2.2.2.2.1))))),(bif v18 then v16 else (bif v25 then v23 else (bif v37 then (2:Int) else (bif v47 then (3:Int) else (bif v78 then v74.2.1 else (0:Int)))))),()))
def tQ3 (p0:D28)(p1:D49)(p2:Int)(p3:Int):Prop:=(f14t p0 p1 p2 p3).1
def f14 (p0:D28)(p1:D49)(p2:Int)(p3:Int):(D28×Int×Int×Unit):=(f14t p0 p1 p2 p3).2
instance (p0:D28)(p1:D49)(p2:Int)(p3:Int):Decidable (tQ3 p0 p1 p2 p3):=by
 unfold tQ3 f14t
 try dsimp only
 infer_instance
def rQ0:Am.Spec:=fnSpec [(0,(.val T28)),(1,(.val T49)),(2,vI),(3,vI)] (.tup (.cons (.val T28) (.cons vI (.cons vI .nl)))) [] (fun x=>tQ3 x.1 x.2.1 x.2.2.1 x.2.2.2.1) (fun x=>f14 x.1 x.2.1 x.2.2.1 x.2.2.2.1) (fun _=>())
def oU4:Ctx:={ Cx tys [(9,vR5),(20,vX2),(33,sG3),(34,tB1),(35,tB),(36,tB2),(37,sG8),(38,sG9)] [] [(23,[(4,0,50,401300),(4,0,300050,401303)]),(31,[(4,0,66,401300)]),(34,[(1,13,3,0),(1,13,7,0)])] false 84 [] [65] with wants:=[(36,[0,2])] }
theorem oU5:CtxOk Tryz.prog oU4:=xW4 xY7 rfl ⟨rD5,sU3,pW4,qP,qO1,qP0,pX5,pX6,trivial⟩ rfl (by kernel_rfl)
theorem nG3:SpecOk Tryz.prog 14 rQ0:=xY3 oU5 mixed Tryz.func14 (by kernel_rfl) (bs:=[]) (by kernel_rfl) trivial fun x=>by kernel_rfl
def f39 (p0:List D49)(p1 p2:Int):List D49:=List.take (Int.toNat p1) p0++List.drop (Int.toNat p2) p0
def rQ1 (p0:List D49)(p1 p2:Int):Prop:=0≤p1∧p1<p2∧p2≤(List.length p0:Int)
instance (p0:List D49)(p1 p2:Int):Decidable (rQ1 p0 p1 p2):=by
  unfold rQ1
  infer_instance
def nG4:List (Nat×Sh):=[(0,(.own T49 400000 true)),(1,(.val (.int .i64))),(2,(.val (.int .i64)))]
def nG5:Sh:=(.own T49 0 true)
def nG6:List (Nat×Sh):=[]
def rQ2:Am.Spec:=fnSpec nG4 nG5 nG6 (fun x=>rQ1 x.1 x.2.1 x.2.2.1) (fun x=>f39 x.1 x.2.1 x.2.2.1) (fun _=>())
theorem nG7:SpecOk Tryz.prog 39 rQ2:=qY3 rfl ⟨_,Tryz.func39,by kernel_rfl,by decide⟩ nB5
abbrev vD0:Type:=((List Int)×Int×Int×Unit)
abbrev wR:Type:=(Int×Unit)
def uP1 (y:vD0)(x:wR):Prop×Bool×wR×Bool×Bool:=
 let a0:=y.1
 let a8:=x.1
 let v9:=(decide (a8<y.2.2.1))
 let v16:=(y.2.1==(nth a0 a8 (0:Int)))
 ((v9=true→(InB a8 (len a0)∧((!v16)=true→InR (a8+1)))),(v9&&(!v16)),((a8+1),()),(v9&&v16),(!v9))
def vR9 (y:vD0)(x:wR):Prop:=(uP1 y x).1
def vM (y:vD0)(x:wR):Bool:=(uP1 y x).2.1
def wM2 (y:vD0)(x:wR):wR:=(uP1 y x).2.2.1
def tQ4 (y:vD0)(x:wR):Bool:=(uP1 y x).2.2.2.1
def qP5 (y:vD0)(x:wR):Bool:=(uP1 y x).2.2.2.2
instance (y:vD0)(x:wR):Decidable (vR9 y x):=by
 unfold vR9 uP1
 try dsimp only
 infer_instance
def uC4 (y:vD0)(x:wR):Int:=
 x.1
def tQ5:St→Option Out:=xP5 [(0,(.val (.sl (.int .i64)))),(1,vI),(7,vI)] [(8,vI)] vM wM2 vR9 fun y x=>[ex 1 (some (tQ4 y x)) [(4,vI)] ((uC4 y x),()),ex 2 (some (qP5 y x)) [] ()]
def f70t (p0:List Int)(p1:Int):Prop×Int:=
 let y2:=(p0,p1,(len p0),())
 let x2:=((0:Int),())
 let e2:=(zC1 (vM y2) (wM2 y2) x2)
 ((Am.Ends (vM y2) (wM2 y2) (vR9 y2) x2),(bif (tQ4 y2 e2) then (uC4 y2 e2) else (-1:Int)))
def rQ3 (p0:List Int)(p1:Int):Prop:=(f70t p0 p1).1
def f70 (p0:List Int)(p1:Int):Int:=(f70t p0 p1).2
instance (p0:List Int)(p1:Int):Decidable (rQ3 p0 p1):=by
 unfold rQ3 f70t
 try dsimp only
 infer_instance
def rQ4:Am.Spec:=fnSpec [(0,(.val (.sl (.int .i64)))),(1,vI)] vI [] (fun x=>rQ3 x.1 x.2.1) (fun x=>f70 x.1 x.2.1) (fun _=>())
def qP6:Ctx:=Cx tys [] [(2,tQ5)] [] false 19 [] []
theorem qP7:CtxOk Tryz.prog qP6:=xW4 xY7 rfl trivial rfl (by kernel_rfl)
noncomputable def pN2:Code:=Tryz.f70.body.getD .skip
noncomputable def pX7:Code:=xX3 pN2 0
theorem qP8:yU9 Tryz.prog qP6 pX7:=xY2 qP7 mixed (sp:=tQ5) rfl [[(4,vI)],[]] (bs:=[]) (by kernel_rfl) trivial (by kernel_rfl) (by kernel_rfl) fun y x=>by kernel_rfl
theorem nG8:SpecOk Tryz.prog 70 rQ4:=xY3 qP7 mixed Tryz.func70 (by kernel_rfl) (bs:=[pX7]) (by kernel_rfl) ⟨qP8,trivial⟩ fun x=>by kernel_rfl
def f40t (p0:List Int)(p1:Int):Prop×Bool:=
 ((rQ3 p0 p1),(decide ((f70 p0 p1)≥0)))
def sU7 (p0:List Int)(p1:Int):Prop:=(f40t p0 p1).1
def f40 (p0:List Int)(p1:Int):Bool:=(f40t p0 p1).2
instance (p0:List Int)(p1:Int):Decidable (sU7 p0 p1):=by
 unfold sU7 f40t
 try dsimp only
 infer_instance
def rQ5:Am.Spec:=fnSpec [(0,(.val (.sl (.int .i64)))),(1,vI)] vB [] (fun x=>sU7 x.1 x.2.1) (fun x=>f40 x.1 x.2.1) (fun _=>())
def oU6:Ctx:=Cx tys [(70,rQ4)] [] [] false 9 [] []
theorem oU7:CtxOk Tryz.prog oU6:=xW4 xY7 rfl ⟨nG8,trivial⟩ rfl (by kernel_rfl)
theorem nG9:SpecOk Tryz.prog 40 rQ5:=xY3 oU7 mixed Tryz.func40 (by kernel_rfl) (bs:=[]) (by kernel_rfl) trivial fun x=>by kernel_rfl
def f16t (p0:D28)(p1:Int)(p2:Int)(p3:Int):Prop×(D28×Int×Unit):=
 let v18:=(f9 p0)
 let v20:=(v18 !=0)
 let v25:=(f8 p0 p1)
 let v27:=(decide (v25<0))
 let v31:=(f33 p0 p2)
 let v33:=(v31 !=0)
 let v38:=(f11 p0 p1)
 let v41:=(p2==p1)
 let v46:=(bif v41 then true else (f40 v38 p2))
 let v49:=(f34 p0)
 let v51:=(v25+1)
 let v53:=(len v38)
 let v54:=(v51+v53)
 let v59:=(List.drop (Int.toNat v25) (List.take (Int.toNat v54) v49.2.2.2.1))
 let s:=((nth v59 (0:Int) Z49).1,(nth v59 (0:Int) Z49).2.1,p2,(nth v59 (0:Int) Z49).2.2.2.1,(nth v59 (0:Int) Z49).2.2.2.2.1,(nth v59 (0:Int) Z49).2.2.2.2.2.1,(nth v59 (0:Int) Z49).2.2.2.2.2.2.1,(nth v59 (0:Int) Z49).2.2.2.2.2.2.2.1,(nth v59 (0:Int) Z49).2.2.2.2.2.2.2.2.1,(nth v59 (0:Int) Z49).2.2.2.2.2.2.2.2.2.1,(nth v59 (0:Int) Z49).2.2.2.2.2.2.2.2.2.2.1,(nth v59 (0:Int) Z49).2.2.2.2.2.2.2.2.2.2.2.1,(nth v59 (0:Int) Z49).2.2.2.2.2.2.2.2.2.2.2.2.1,(nth v59 (0:Int) Z49).2.2.2.2.2.2.2.2.2.2.2.2.2.1,(nth v59 (0:Int) Z49).2.2.2.2.2.2.2.2.2.2.2.2.2.2.1,(nth v59 (0:Int) Z49).2.2.2.2.2.2.2.2.2.2.2.2.2.2.2.1,(nth v59 (0:Int) Z49).2.2.2.2.2.2.2.2.2.2.2.2.2.2.2.2.1,(nth v59 (0:Int) Z49).2.2.2.2.2.2.2.2.2.2.2.2.2.2.2.2.2.1,(nth v59 (0:Int) Z49).2.2.2.2.2.2.2.2.2.2.2.2.2.2.2.2.2.2.1,(nth v59 (0:Int) Z49).2.2.2.2.2.2.2.2.2.2.2.2.2.2.2.2.2.2.2.1,(nth v59 (0:Int) Z49).2.2.2.2.2.2.2.2.2.2.2.2.2.2.2.2.2.2.2.2.1,(nth v59 (0:Int) Z49).2.2.2.2.2.2.2.2.2.2.2.2.2.2.2.2.2.2.2.2.2.1,(nth v59 (0:Int) Z49).2.2.2.2.2.2.2.2.2.2.2.2.2.2.2.2.2.2.2.2.2.2.1,(nth v59 (0:Int) Z49).2.2.2.2.2.2.2.2.2.2.2.2.2.2.2.2.2.2.2.2.2.2.2.1,(nth v59 (0:Int) Z49).2.2.2.2.2.2.2.2.2.2.2.2.2.2.2.2.2.2.2.2.2.2.2.2.1,(nth v59 (0:Int) Z49).2.2.2.2.2.2.2.2.2.2.2.2.2.2.2.2.2.2.2.2.2.2.2.2.2.1,(nth v59 (0:Int) Z49).2.2.2.2.2.2.2.2.2.2.2.2.2.2.2.2.2.2.2.2.2.2.2.2.2.2.1,(nth v59 (0:Int) Z49).2.2.2.2.2.2.2.2.2.2.2.2.2.2.2.2.2.2.2.2.2.2.2.2.2.2.2.1,())
 let l1016:=(List.set v59 (Int.toNat (0:Int)) s)
 let v69:=(f39 v49.2.2.2.1 v25 v54)
 let v72:=(decide (p3<0))
 let s_1:=(v49.1,v49.2.1,v49.2.2.1,v69,v49.2.2.2.2.1,v49.2.2.2.2.2.1,v49.2.2.2.2.2.2.1,v49.2.2.2.2.2.2.2.1,())
 let v80:=(bif v72 then true else (decide (p3>(len (f20 s_1 p2)))))
 let s_2:=(v49.1,v49.2.1,v49.2.2.1,v69,v49.2.2.2.2.1,v49.2.2.2.2.2.1,v49.2.2.2.2.2.2.1,v49.2.2.2.2.2.2.2.1,())
 let v87:=(f37 s_2 p2 p3)
 let s_3:=(v49.1,v49.2.1,v49.2.2.1,(f36 v69 v87 l1016),v49.2.2.2.2.1,v49.2.2.2.2.2.1,v49.2.2.2.2.2.2.1,v49.2.2.2.2.2.2.2.1,())
 let v92:=(f38 s_3)
 let m8_1:=(bif v46 then ((0:Int),(0:Int),(0:Int),([]:List D49),(0:Int),((0:Int),(0:Int),([]:List Int),()),([]:List D87),([]:List D90),()) else (bif v80 then ((0:Int),(0:Int),(0:Int),([]:List D49),(0:Int),((0:Int),(0:Int),([]:List Int),()),([]:List D87),([]:List D90),()) else v92.1))
 let m8_3:=(bif v27 then ((0:Int),(0:Int),(0:Int),([]:List D49),(0:Int),((0:Int),(0:Int),([]:List Int),()),([]:List D87),([]:List D90),()) else (bif v33 then ((0:Int),(0:Int),(0:Int),([]:List D49),(0:Int),((0:Int),(0:Int),([]:List Int),()),([]:List D87),([]:List D90),()) else m8_1))
 (((tP0 p0)∧((!v20)=true→((vY3 p0 p1)∧((!v27)=true→((tZ p0 p2)∧((!v33)=true→((uY2 p0 p1)∧(((!v41)=true→(sU7 v38 p2))∧((!v46)=true→((uY1 p0)∧(InR (v25+1)∧(InR (v51+v53)∧((0≤v25∧v25≤v54∧v54≤len v49.2.2.2.1)∧((0<List.length v59∧(List.length v59:Int)≤4294967296)∧(InB (0:Int) (len v59)∧((0:Int)<len v59∧((rQ1 v49.2.2.2.1 v25 v54)∧(((!v72)=true→(uK6 s_1 p2))∧((!v80)=true→((tZ7 s_2 p2 p3)∧((tZ6 v69 v87 l1016)∧(tZ8 s_3)))))))))))))))))))))),((bif v20 then ((0:Int),(0:Int),(0:Int),([]:List D49),(0:Int),((0:Int),(0:Int),([]:List Int),()),([]:List D87),([]:List D90),()) else m8_3),(bif v20 then v18 else (bif v27 then (9:Int) else (bif v33 then v31 else (bif v46 then (11:Int) else (bif v80 then (2:Int) else v92.2.1))))),()))
def vZ4 (p0:D28)(p1:Int)(p2:Int)(p3:Int):Prop:=(f16t p0 p1 p2 p3).1
def f16 (p0:D28)(p1:Int)(p2:Int)(p3:Int):(D28×Int×Unit):=(f16t p0 p1 p2 p3).2
instance (p0:D28)(p1:Int)(p2:Int)(p3:Int):Decidable (vZ4 p0 p1 p2 p3):=by
 unfold vZ4 f16t
 try dsimp only
 infer_instance
def sH:Am.Spec:=fnSpec [(0,(.val T28)),(1,vI),(2,vI),(3,vI)] (.tup (.cons (.val T28) (.cons vI .nl))) [] (fun x=>vZ4 x.1 x.2.1 x.2.2.1 x.2.2.2.1) (fun x=>f16 x.1 x.2.1 x.2.2.1 x.2.2.2.1) (fun _=>())
def oU8:Ctx:={ Cx tys [(8,vJ5),(9,vR5),(11,tB3),(20,vX2),(33,sG3),(34,tB1),(36,tB2),(37,sG8),(38,sG9),(39,rQ2),(40,rQ5)] [] [(21,[(4,0,38,1013)]),(27,[(4,0,49,401400),(4,0,300049,401403)]),(31,[(4,0,60,1016)]),(35,[(4,0,69,401400)]),(41,[(4,0,89,401400)]),(42,[(1,14,3,0),(1,14,7,0)])] false 95 [] [] with wants:=[(36,[0,2]),(39,[0])],clones:=[(41,43)] }
theorem oU9:CtxOk Tryz.prog oU8:=xV1 xY7 rfl ⟨sL2,rD5,qP4,sU3,pW4,qP,qP0,pX5,pX6,nG7,nG9,trivial⟩ rfl (by kernel_rfl) rfl qY8
theorem pX8:SpecOk Tryz.prog 16 sH:=xY3 oU9 mixed Tryz.func16 (by kernel_rfl) (bs:=[]) (by kernel_rfl) trivial fun x=>by kernel_rfl
abbrev vI6:Type:=(D28×(Int×Int×Int×(List D49)×Int×(Int×Int×(List Int)×Unit)×(List D87)×(List D90)×Unit)×Int×Int×Int×Unit)
abbrev wU4:Type:=((List (Int×Int×Unit))×Int×Unit)
def tB4 (y:vI6)(x:wU4):Prop×Bool×wU4:=
 let a2:=y.1
 let a8:=y.2.2.1
 let a53:=x.2.1
 let v54:=(decide (a53<y.2.2.2.2.1))
 let v61:=(a8+a53)
 ((v54=true→(InR (a8+a53)∧(InB v61 (len a2.2.2.2.1)∧(InR (a2.2.2.2.2.1+a53)∧InR (a53+1))))),v54,((xL9 (.int .i64) (.int .i64) (nth a2.2.2.2.1 v61 Z49).1 (a2.2.2.2.2.1+a53) x.1),(a53+1),()))
def vX6 (y:vI6)(x:wU4):Prop:=(tB4 y x).1
def tQ6 (y:vI6)(x:wU4):Bool:=(tB4 y x).2.1
def vS0 (y:vI6)(x:wU4):wU4:=(tB4 y x).2.2
instance (y:vI6)(x:wU4):Decidable (vX6 y x):=by
 unfold vX6 tB4
 try dsimp only
 infer_instance
def uY3 (y:vI6)(x:wU4):(List (Int×Int×Unit)):=
 x.1
def tZ9:List (Nat×Sh):=[(2,(.box T28 (.val T28))),(4,(.box T28 (.agg (.cons (.int .i64) (.cons (.int .i64) (.cons (.int .i64) (.cons (.sl T49) (.cons (.int .i64) (.cons T24 (.cons (.sl T87) (.cons (.sl T90) .nl)))))))) (.cons vI (.cons vI (.cons vI (.cons (.val (.sl T49)) (.cons vI (.cons (.agg (.cons (.int .i64) (.cons (.int .i64) (.cons (.sl (.int .i64)) .nl))) (.cons vI (.cons vI (.cons (.val (.sl (.int .i64))) .nl)))) (.cons (.val (.sl T87)) (.cons (.val (.sl T90)) .nl))))))))))),(8,vI),(9,vI),(10,(.own (xD1 (.int .i64) (.int .i64)) 1010 true))]
def uY4:St→Option Out:=xP5 [(2,(.box T28 (.val T28))),(4,(.box T28 (.agg (.cons (.int .i64) (.cons (.int .i64) (.cons (.int .i64) (.cons (.sl T49) (.cons (.int .i64) (.cons T24 (.cons (.sl T87) (.cons (.sl T90) .nl)))))))) (.cons vI (.cons vI (.cons vI (.cons (.val (.sl T49)) (.cons vI (.cons (.agg (.cons (.int .i64) (.cons (.int .i64) (.cons (.sl (.int .i64)) .nl))) (.cons vI (.cons vI (.cons (.val (.sl (.int .i64))) .nl)))) (.cons (.val (.sl T87)) (.cons (.val (.sl T90)) .nl))))))))))),(8,vI),(9,vI),(52,vI)] [(10,(.own (xD1 (.int .i64) (.int .i64)) 1010 true)),(53,vI)] tQ6 vS0 vX6 fun y x=>[ex 2 none tZ9 (y.1,y.2.1,y.2.2.1,y.2.2.2.1,(uY3 y x),())]
abbrev vI7:Type:=(D28×(Int×Int×Int×(List D49)×Int×(Int×Int×(List Int)×Unit)×(List D87)×(List D90)×Unit)×Int×Int×(List (Int×Int×Unit))×Int×Unit)
abbrev wU5:Type:=((List D49)×Int×Unit)
def tB5 (y:vI7)(x:wU5):Prop×Bool×wU5:=
 let a2:=y.1
 let a8:=y.2.2.1
 let a10:=y.2.2.2.2.1
 let a12:=x.1
 let a74:=x.2.1
 let v75:=(decide (a74<y.2.2.2.2.2.1))
 let v81:=(a8+a74)
 let v82:=(nth a2.2.2.2.1 v81 Z49)
 let v84:=(f35 v82)
 let v88:=(Option.getD (yI6 (.int .i64) (.int .i64) v84.1 a10) (0:Int))
 let s:=(v88,v84.2.1,v84.2.2.1,v84.2.2.2.1,v84.2.2.2.2.1,v84.2.2.2.2.2.1,v84.2.2.2.2.2.2.1,v84.2.2.2.2.2.2.2.1,v84.2.2.2.2.2.2.2.2.1,v84.2.2.2.2.2.2.2.2.2.1,v84.2.2.2.2.2.2.2.2.2.2.1,v84.2.2.2.2.2.2.2.2.2.2.2.1,v84.2.2.2.2.2.2.2.2.2.2.2.2.1,v84.2.2.2.2.2.2.2.2.2.2.2.2.2.1,v84.2.2.2.2.2.2.2.2.2.2.2.2.2.2.1,v84.2.2.2.2.2.2.2.2.2.2.2.2.2.2.2.1,v84.2.2.2.2.2.2.2.2.2.2.2.2.2.2.2.2.1,v84.2.2.2.2.2.2.2.2.2.2.2.2.2.2.2.2.2.1,v84.2.2.2.2.2.2.2.2.2.2.2.2.2.2.2.2.2.2.1,v84.2.2.2.2.2.2.2.2.2.2.2.2.2.2.2.2.2.2.2.1,v84.2.2.2.2.2.2.2.2.2.2.2.2.2.2.2.2.2.2.2.2.1,v84.2.2.2.2.2.2.2.2.2.2.2.2.2.2.2.2.2.2.2.2.2.1,v84.2.2.2.2.2.2.2.2.2.2.2.2.2.2.2.2.2.2.2.2.2.2.1,v84.2.2.2.2.2.2.2.2.2.2.2.2.2.2.2.2.2.2.2.2.2.2.2.1,v84.2.2.2.2.2.2.2.2.2.2.2.2.2.2.2.2.2.2.2.2.2.2.2.2.1,v84.2.2.2.2.2.2.2.2.2.2.2.2.2.2.2.2.2.2.2.2.2.2.2.2.2.1,v84.2.2.2.2.2.2.2.2.2.2.2.2.2.2.2.2.2.2.2.2.2.2.2.2.2.2.1,v84.2.2.2.2.2.2.2.2.2.2.2.2.2.2.2.2.2.2.2.2.2.2.2.2.2.2.2.1,())
 let s_1:=(v88,v84.2.1,(Option.getD (yI6 (.int .i64) (.int .i64) v84.2.2.1 a10) (0:Int)),v84.2.2.2.1,v84.2.2.2.2.1,v84.2.2.2.2.2.1,v84.2.2.2.2.2.2.1,v84.2.2.2.2.2.2.2.1,v84.2.2.2.2.2.2.2.2.1,v84.2.2.2.2.2.2.2.2.2.1,v84.2.2.2.2.2.2.2.2.2.2.1,v84.2.2.2.2.2.2.2.2.2.2.2.1,v84.2.2.2.2.2.2.2.2.2.2.2.2.1,v84.2.2.2.2.2.2.2.2.2.2.2.2.2.1,v84.2.2.2.2.2.2.2.2.2.2.2.2.2.2.1,v84.2.2.2.2.2.2.2.2.2.2.2.2.2.2.2.1,v84.2.2.2.2.2.2.2.2.2.2.2.2.2.2.2.2.1,v84.2.2.2.2.2.2.2.2.2.2.2.2.2.2.2.2.2.1,v84.2.2.2.2.2.2.2.2.2.2.2.2.2.2.2.2.2.2.1,v84.2.2.2.2.2.2.2.2.2.2.2.2.2.2.2.2.2.2.2.1,v84.2.2.2.2.2.2.2.2.2.2.2.2.2.2.2.2.2.2.2.2.1,v84.2.2.2.2.2.2.2.2.2.2.2.2.2.2.2.2.2.2.2.2.2.1,v84.2.2.2.2.2.2.2.2.2.2.2.2.2.2.2.2.2.2.2.2.2.2.1,v84.2.2.2.2.2.2.2.2.2.2.2.2.2.2.2.2.2.2.2.2.2.2.2.1,v84.2.2.2.2.2.2.2.2.2.2.2.2.2.2.2.2.2.2.2.2.2.2.2.2.1,v84.2.2.2.2.2.2.2.2.2.2.2.2.2.2.2.2.2.2.2.2.2.2.2.2.2.1,v84.2.2.2.2.2.2.2.2.2.2.2.2.2.2.2.2.2.2.2.2.2.2.2.2.2.2.1,v84.2.2.2.2.2.2.2.2.2.2.2.2.2.2.2.2.2.2.2.2.2.2.2.2.2.2.2.1,())
 let m14:=(bif (Option.isSome (yI6 (.int .i64) (.int .i64) v84.2.2.1 a10)) then s_1 else s)
 let s_2:=(m14.1,m14.2.1,m14.2.2.1,m14.2.2.2.1,m14.2.2.2.2.1,m14.2.2.2.2.2.1,m14.2.2.2.2.2.2.1,m14.2.2.2.2.2.2.2.1,m14.2.2.2.2.2.2.2.2.1,m14.2.2.2.2.2.2.2.2.2.1,m14.2.2.2.2.2.2.2.2.2.2.1,m14.2.2.2.2.2.2.2.2.2.2.2.1,m14.2.2.2.2.2.2.2.2.2.2.2.2.1,m14.2.2.2.2.2.2.2.2.2.2.2.2.2.1,m14.2.2.2.2.2.2.2.2.2.2.2.2.2.2.1,m14.2.2.2.2.2.2.2.2.2.2.2.2.2.2.2.1,m14.2.2.2.2.2.2.2.2.2.2.2.2.2.2.2.2.1,m14.2.2.2.2.2.2.2.2.2.2.2.2.2.2.2.2.2.1,m14.2.2.2.2.2.2.2.2.2.2.2.2.2.2.2.2.2.2.1,m14.2.2.2.2.2.2.2.2.2.2.2.2.2.2.2.2.2.2.2.1,m14.2.2.2.2.2.2.2.2.2.2.2.2.2.2.2.2.2.2.2.2.1,m14.2.2.2.2.2.2.2.2.2.2.2.2.2.2.2.2.2.2.2.2.2.1,m14.2.2.2.2.2.2.2.2.2.2.2.2.2.2.2.2.2.2.2.2.2.2.1,m14.2.2.2.2.2.2.2.2.2.2.2.2.2.2.2.2.2.2.2.2.2.2.2.1,m14.2.2.2.2.2.2.2.2.2.2.2.2.2.2.2.2.2.2.2.2.2.2.2.2.1,m14.2.2.2.2.2.2.2.2.2.2.2.2.2.2.2.2.2.2.2.2.2.2.2.2.2.1,(Option.getD (yI6 (.int .i64) (.int .i64) m14.2.2.2.2.2.2.2.2.2.2.2.2.2.2.2.2.2.2.2.2.2.2.2.2.2.2.1 a10) (0:Int)),m14.2.2.2.2.2.2.2.2.2.2.2.2.2.2.2.2.2.2.2.2.2.2.2.2.2.2.2.1,())
 let l1012:=(List.set a12 (Int.toNat a74) (bif (bif (Option.isSome (yI6 (.int .i64) (.int .i64) m14.2.2.2.2.2.2.2.2.2.2.2.2.2.2.2.2.2.2.2.2.2.2.2.2.2.2.1 a10)) then (m14.2.1==10) else false) then s_2 else m14))
 ((v75=true→(InR (a8+a74)∧(InB v81 (len a2.2.2.2.1)∧((tP9 v82)∧(InB a74 (len a12)∧(a74<len a12∧InR (a74+1))))))),v75,(l1012,(a74+1),()))
def vX7 (y:vI7)(x:wU5):Prop:=(tB5 y x).1
def tQ7 (y:vI7)(x:wU5):Bool:=(tB5 y x).2.1
def vS1 (y:vI7)(x:wU5):wU5:=(tB5 y x).2.2
instance (y:vI7)(x:wU5):Decidable (vX7 y x):=by
 unfold vX7 tB5
 try dsimp only
 infer_instance
def uY5 (y:vI7)(x:wU5):(List D49):=
 x.1
def sA:List (Nat×Sh):=[(2,(.box T28 (.val T28))),(4,(.box T28 (.agg (.cons (.int .i64) (.cons (.int .i64) (.cons (.int .i64) (.cons (.sl T49) (.cons (.int .i64) (.cons T24 (.cons (.sl T87) (.cons (.sl T90) .nl)))))))) (.cons vI (.cons vI (.cons vI (.cons (.val (.sl T49)) (.cons vI (.cons (.agg (.cons (.int .i64) (.cons (.int .i64) (.cons (.sl (.int .i64)) .nl))) (.cons vI (.cons vI (.cons (.val (.sl (.int .i64))) .nl)))) (.cons (.val (.sl T87)) (.cons (.val (.sl T90)) .nl))))))))))),(8,vI),(9,vI),(12,(.own T49 1012 true))]
def uY6:St→Option Out:=xP5 [(2,(.box T28 (.val T28))),(4,(.box T28 (.agg (.cons (.int .i64) (.cons (.int .i64) (.cons (.int .i64) (.cons (.sl T49) (.cons (.int .i64) (.cons T24 (.cons (.sl T87) (.cons (.sl T90) .nl)))))))) (.cons vI (.cons vI (.cons vI (.cons (.val (.sl T49)) (.cons vI (.cons (.agg (.cons (.int .i64) (.cons (.int .i64) (.cons (.sl (.int .i64)) .nl))) (.cons vI (.cons vI (.cons (.val (.sl (.int .i64))) .nl)))) (.cons (.val (.sl T87)) (.cons (.val (.sl T90)) .nl))))))))))),(8,vI),(9,vI),(10,(.own (xD1 (.int .i64) (.int .i64)) 1010 true)),(73,vI)] [(12,(.own T49 1012 true)),(74,vI)] tQ7 vS1 vX7 fun y x=>[ex 4 none sA (y.1,y.2.1,y.2.2.1,y.2.2.2.1,(uY5 y x),())]
def f17t (p0:D28)(p1:Int):Prop×((Int×Int×Int×(List D49)×Int×D24×(List D87)×(List D90)×Unit)×Int×Int×Unit):=
 let v21:=(f9 p0)
 let v23:=(v21 !=0)
 let v28:=(f8 p0 p1)
 let v30:=(decide (v28<0))
 let v35:=(len (f11 p0 p1))
 let v36:=(1+v35)
 let v39:=(len p0.2.2.2.1)
 let v42:=(decide ((v39+v36)>64))
 let v49:=(bif v42 then true else (decide ((p0.2.2.2.2.1+v36)>1073741824)))
 let y12:=(p0,((0:Int),(0:Int),(0:Int),([]:List D49),(0:Int),((0:Int),(0:Int),([]:List Int),()),([]:List D87),([]:List D90),()),v28,v36,v36,())
 let x12:=(([]:List (Int×Int×Unit)),(0:Int),())
 let v71:=(List.replicate (Int.toNat v36) Z49)
 let y18:=(p0,((0:Int),(0:Int),(0:Int),([]:List D49),(0:Int),((0:Int),(0:Int),([]:List Int),()),([]:List D87),([]:List D90),()),v28,v36,(uY3 y12 (zC1 (tQ6 y12) (vS0 y12) x12)),(len v71),())
 let x18:=(v71,(0:Int),())
 let r18_4_0:=(uY5 y18 (zC1 (tQ7 y18) (vS1 y18) x18))
 let v121:=(f34 p0)
 let v126:=(v28+v36)
 let m4_21:=(bif v23 then ((0:Int),(0:Int),([]:List Int),()) else (bif v30 then ((0:Int),(0:Int),([]:List Int),()) else (bif v49 then ((0:Int),(0:Int),([]:List Int),()) else v121.2.2.2.2.2.1)))
 let s_7:=((bif v23 then (0:Int) else (bif v30 then (0:Int) else (bif v49 then (0:Int) else v121.1))),(bif v23 then (0:Int) else (bif v30 then (0:Int) else (bif v49 then (0:Int) else v121.2.1))),(bif v23 then (0:Int) else (bif v30 then (0:Int) else (bif v49 then (0:Int) else v121.2.2.1))),(bif v23 then [] else (bif v30 then [] else (bif v49 then [] else (f36 v121.2.2.2.1 v126 r18_4_0)))),(bif v23 then (0:Int) else (bif v30 then (0:Int) else (bif v49 then (0:Int) else (v121.2.2.2.2.1+v36)))),m4_21,(bif v23 then [] else (bif v30 then [] else (bif v49 then [] else v121.2.2.2.2.2.2.1))),(bif v23 then [] else (bif v30 then [] else (bif v49 then [] else v121.2.2.2.2.2.2.2.1))),())
 (((tP0 p0)∧((!v23)=true→((vY3 p0 p1)∧((!v30)=true→((uY2 p0 p1)∧(InR (1+v35)∧(InR (v39+v36)∧(((!v42)=true→InR (p0.2.2.2.2.1+v36))∧((!v49)=true→((Am.Ends (tQ6 y12) (vS0 y12) (vX6 y12) x12)∧((0≤v36∧v36≤v36∧v36≤4294967296)∧((Am.Ends (tQ7 y18) (vS1 y18) (vX7 y18) x18)∧((uY1 p0)∧(InR (v28+v36)∧((tZ6 v121.2.2.2.1 v126 r18_4_0)∧InR (v121.2.2.2.2.1+v36)))))))))))))))),(s_7,(bif v23 then (0:Int) else (bif v30 then (0:Int) else (bif v49 then (0:Int) else p0.2.2.2.2.1))),(bif v23 then v21 else (bif v30 then (9:Int) else (bif v49 then (3:Int) else (0:Int)))),()))
def rQ6 (p0:D28)(p1:Int):Prop:=(f17t p0 p1).1
def f17 (p0:D28)(p1:Int):((Int×Int×Int×(List D49)×Int×D24×(List D87)×(List D90)×Unit)×Int×Int×Unit):=(f17t p0 p1).2
instance (p0:D28)(p1:Int):Decidable (rQ6 p0 p1):=by
 unfold rQ6 f17t
 try dsimp only
 infer_instance
def rQ7:Am.Spec:=fnSpec [(0,(.val T28)),(1,vI)] (.tup (.cons (.agg (.cons (.int .i64) (.cons (.int .i64) (.cons (.int .i64) (.cons (.sl T49) (.cons (.int .i64) (.cons T24 (.cons (.sl T87) (.cons (.sl T90) .nl)))))))) (.cons vI (.cons vI (.cons vI (.cons (.own T49 0 true) (.cons vI (.cons (.val T24) (.cons (.val (.sl T87)) (.cons (.own T90 3 true) .nl))))))))) (.cons vI (.cons vI .nl)))) [] (fun x=>rQ6 x.1 x.2.1) (fun x=>f17 x.1 x.2.1) (fun _=>())
def rF7:Ctx:={ Cx tys [(8,vJ5),(9,vR5),(11,tB3),(34,tB1),(35,tB),(36,tB2)] [(12,uY4),(18,uY6)] [(21,[(4,0,51,1010)]),(33,[(4,0,71,1012)]),(61,[(4,0,121,401900),(4,0,300121,401903)]),(63,[(4,0,128,401900)]),(67,[(4,0,401900,0),(4,0,401903,3)])] false 138 [] [71] with wants:=[(36,[0,2])],maps:=maps }
theorem rF8:CtxOk Tryz.prog rF7:=xW4 xY7 (by kernel_rfl) ⟨sL2,rD5,qP4,qP,qO1,qP0,trivial⟩ rfl (by kernel_rfl)
noncomputable def rQ8:Code:=Tryz.f17.body.getD .skip
noncomputable def qP9:Code:=xX3 rQ8 0
theorem qA8:yU9 Tryz.prog rF7 qP9:=xY2 rF8 mixed (sp:=uY4) rfl [tZ9] (bs:=[]) (by kernel_rfl) trivial (by kernel_rfl) (by kernel_rfl) fun y x=>by kernel_rfl
noncomputable def qQ:Code:=xX3 rQ8 1
theorem qA9:yU9 Tryz.prog rF7 qQ:=xY2 rF8 mixed (sp:=uY6) rfl [sA] (bs:=[]) (by kernel_rfl) trivial (by kernel_rfl) (by kernel_rfl) fun y x=>by kernel_rfl
theorem nH:SpecOk Tryz.prog 17 rQ7:=xY3 rF8 mixed Tryz.func17 (by kernel_rfl) (bs:=[qP9,qQ]) (by kernel_rfl) ⟨qA8,qA9,trivial⟩ fun x=>by kernel_rfl
def f31t (p0:Int)(p1:Int)(p2:Int):Prop×(D28×Int×Unit):=
 let s_1:=(p0,p1,p2,([]:List D49),(1:Int),((0:Int),(0:Int),([]:List Int),()),([]:List D87),([]:List D90),())
 let v15:=(f23 s_1)
 let v17:=(v15 !=0)
 let s_3:=((bif v17 then (0:Int) else p0),(bif v17 then (0:Int) else p1),(bif v17 then (0:Int) else p2),([]:List D49),(bif v17 then (0:Int) else (1:Int)),((bif v17 then (0:Int) else (0:Int)),(bif v17 then (0:Int) else (0:Int)),([]:List Int),()),([]:List D87),([]:List D90),())
 ((tD2 s_1),(s_3,(bif v17 then v15 else (0:Int)),()))
def rQ9 (p0:Int)(p1:Int)(p2:Int):Prop:=(f31t p0 p1 p2).1
def f31 (p0:Int)(p1:Int)(p2:Int):(D28×Int×Unit):=(f31t p0 p1 p2).2
instance (p0:Int)(p1:Int)(p2:Int):Decidable (rQ9 p0 p1 p2):=by
 unfold rQ9 f31t
 try dsimp only
 infer_instance
def rR:Am.Spec:=fnSpec [(0,vI),(1,vI),(2,vI)] (.tup (.cons (.val T28) (.cons vI .nl))) [] (fun x=>rQ9 x.1 x.2.1 x.2.2.1) (fun x=>f31 x.1 x.2.1 x.2.2.1) (fun _=>())
def oV:Ctx:=Cx tys [(23,sC0)] [] [] false 21 [] []
theorem oV0:CtxOk Tryz.prog oV:=xW4 xY7 rfl ⟨pU4,trivial⟩ rfl (by kernel_rfl)
theorem nH0:SpecOk Tryz.prog 31 rR:=xY3 oV0 mixed Tryz.func31 (by kernel_rfl) (bs:=[]) (by kernel_rfl) trivial fun x=>by kernel_rfl
abbrev vX8:Type:=(D28×Unit)
abbrev vD1:Type:=(Int×Int×Unit)
def sH0 (y:vX8)(x:vD1):Prop×Bool×vD1:=
 let a2:=y.1
 let a5:=x.1
 let a6:=x.2.1
 let v23:=((nth a2.2.2.2.1 a5 Z49).2.2.1 !=0)
 let v28:=(nth a2.2.2.2.1 a5 Z49)
 ((InB a5 (len a2.2.2.2.1)∧(v23=true→(InB a5 (len a2.2.2.2.1)∧((vY3 a2 v28.2.2.1)∧InR (a6+1))))),v23,((f8 a2 v28.2.2.1),(a6+1),()))
def uK7 (y:vX8)(x:vD1):Prop:=(sH0 y x).1
def sH1 (y:vX8)(x:vD1):Bool:=(sH0 y x).2.1
def uC5 (y:vX8)(x:vD1):vD1:=(sH0 y x).2.2
instance (y:vX8)(x:vD1):Decidable (uK7 y x):=by
 unfold uK7 sH0
 try dsimp only
 infer_instance
def tQ8 (y:vX8)(x:vD1):Int:=
 x.2.1
def tQ9:St→Option Out:=xP5 [(2,(.box T28 (.val T28)))] [(5,vI),(6,vI)] sH1 uC5 uK7 fun y x=>[ex 2 none [(6,vI)] ((tQ8 y x),())]
def f32t (p0:D28)(p1:Int):Prop×Int:=
 let v9:=(f8 p0 p1)
 let v11:=(decide (v9<0))
 let v16:=(bif v11 then true else ((f9 p0)!=0))
 let y5:=(p0,())
 let x5:=(v9,(1:Int),())
 (((vY3 p0 p1)∧(((!v11)=true→(tP0 p0))∧((!v16)=true→(Am.Ends (sH1 y5) (uC5 y5) (uK7 y5) x5)))),(bif v16 then (0:Int) else (tQ8 y5 (zC1 (sH1 y5) (uC5 y5) x5))))
def rR0 (p0:D28)(p1:Int):Prop:=(f32t p0 p1).1
def f32 (p0:D28)(p1:Int):Int:=(f32t p0 p1).2
instance (p0:D28)(p1:Int):Decidable (rR0 p0 p1):=by
 unfold rR0 f32t
 try dsimp only
 infer_instance
def rR1:Am.Spec:=fnSpec [(0,(.val T28)),(1,vI)] vI [] (fun x=>rR0 x.1 x.2.1) (fun x=>f32 x.1 x.2.1) (fun _=>())
def qQ0:Ctx:=Cx tys [(8,vJ5),(9,vR5)] [(5,tQ9)] [] false 35 [] []
theorem qQ1:CtxOk Tryz.prog qQ0:=xW4 xY7 rfl ⟨sL2,rD5,trivial⟩ rfl (by kernel_rfl)
noncomputable def pN3:Code:=Tryz.f32.body.getD .skip
noncomputable def pX9:Code:=xX3 pN3 0
theorem qQ2:yU9 Tryz.prog qQ0 pX9:=xY2 qQ1 mixed (sp:=tQ9) rfl [[(6,vI)]] (bs:=[]) (by kernel_rfl) trivial (by kernel_rfl) (by kernel_rfl) fun y x=>by kernel_rfl
theorem nH1:SpecOk Tryz.prog 32 rR1:=xY3 qQ1 mixed Tryz.func32 (by kernel_rfl) (bs:=[pX9]) (by kernel_rfl) ⟨qQ2,trivial⟩ fun x=>by kernel_rfl
def f10t :Prop×Bool:=
 let s:=((5:Int),(0:Int),(0:Int),(9:Int),())
 let v15:=(f31 (4:Int) (4:Int) (0:Int))
 let v34:=(bif (bif (bif (v15.2.1 !=0) then true else (v15.1.1 !=4)) then true else (v15.1.2.1 !=4)) then true else (v15.1.2.2.2.2.1 !=1))
 let s_4:=((0:Int),(1:Int),(0:Int),([103]:List UInt8),false,false,false,(65535:Int),(0:Int),((0:Int),(0:Int),([]:List Int),()),Z37,(0:Int),((0:Int),(0:Int),([]:List D42),()),Z42,(0:Int),([]:List Int),(0:Int),([]:List D122),([]:List D128),(0:Int),(0:Int),(0:Int),(0:Int),([]:List UInt8),(0:Int),(0:Int),(0:Int),((0:Int),(0:Int),(0:Int),([]:List D125),()),())
 let v38:=(f14 v15.1 s_4 (0:Int) (0:Int))
 let v47:=(bif (v38.2.2.1 !=0) then true else (v38.2.1 !=1))
 let s_8:=((0:Int),(3:Int),(0:Int),([102]:List UInt8),false,false,false,(65535:Int),(0:Int),((0:Int),(0:Int),([]:List Int),()),Z37,(0:Int),((0:Int),(0:Int),([]:List D42),()),s,(0:Int),([]:List Int),(0:Int),([]:List D122),([]:List D128),(0:Int),(0:Int),(0:Int),(0:Int),([]:List UInt8),(0:Int),(0:Int),(0:Int),((0:Int),(0:Int),(0:Int),([]:List D125),()),())
 let v51:=(f14 v38.1 s_8 (1:Int) (0:Int))
 let v60:=(bif (v51.2.2.1 !=0) then true else (v51.2.1 !=2))
 let s_12:=((0:Int),(3:Int),(0:Int),([102]:List UInt8),false,false,false,(65535:Int),(0:Int),((0:Int),(0:Int),([]:List Int),()),Z37,(0:Int),((0:Int),(0:Int),([]:List D42),()),s,(0:Int),([]:List Int),(0:Int),([]:List D122),([]:List D128),(0:Int),(0:Int),(0:Int),(0:Int),([]:List UInt8),(0:Int),(0:Int),(0:Int),((0:Int),(0:Int),(0:Int),([]:List D125),()),())
 let v64:=(f14 v51.1 s_12 (0:Int) (0:Int))
 let v73:=(bif (v64.2.2.1 !=0) then true else (v64.2.1 !=3))
 let v76:=(f13 v64.1)
 let v77:=([(3:Int),(1:Int),(2:Int)]:List Int)
 let v80:=(bif v73 then true else (!(f12 v76 v77)))
 let v83:=(f20 v64.1 (0:Int))
 let v84:=([(3:Int),(1:Int)]:List Int)
 let v87:=(bif v80 then true else (!(f12 v83 v84)))
 let v92:=(bif v87 then true else ((f32 v64.1 (2:Int))!=2))
 let v97:=(bif v92 then true else ((f9 v64.1)!=0))
 let v100:=(f16 v64.1 (3:Int) (1:Int) (1:Int))
 let v104:=(v100.2.1 !=0)
 let v107:=(f13 v100.1)
 let v108:=([(1:Int),(2:Int),(3:Int)]:List Int)
 let v111:=(bif v104 then true else (!(f12 v107 v108)))
 let v118:=((f16 v64.1 (1:Int) (1:Int) (0:Int)).2.1 !=11)
 let s_16:=((0:Int),(3:Int),(0:Int),([102]:List UInt8),false,false,true,(65535:Int),(0:Int),((0:Int),(0:Int),([]:List Int),()),Z37,(0:Int),((0:Int),(0:Int),([]:List D42),()),s,(0:Int),([]:List Int),(0:Int),([]:List D122),([]:List D128),(0:Int),(0:Int),(0:Int),(0:Int),([]:List UInt8),(0:Int),(0:Int),(0:Int),((0:Int),(0:Int),(0:Int),([]:List D125),()),())
 let v128:=((f14 v64.1 s_16 (0:Int) (0:Int)).2.2.1 !=14)
 let v131:=(f17 v64.1 (1:Int))
 let v140:=(bif (v131.2.2.1==0) then (v131.2.1==4) else false)
 let s_17:=(v131.1.1,v131.1.2.1,v131.1.2.2.1,v131.1.2.2.2.1,v131.1.2.2.2.2.1,v131.1.2.2.2.2.2.1,v131.1.2.2.2.2.2.2.1,v131.1.2.2.2.2.2.2.2.1,())
 let v143:=(f13 s_17)
 let v144:=([(3:Int),(1:Int),(2:Int),(4:Int),(5:Int)]:List Int)
 let v151:=(bif (bif v140 then (f12 v143 v144) else false) then (v131.1.2.2.2.2.1==6) else false)
 let m0_4:=(bif v60 then false else (bif v97 then false else (bif v111 then false else (bif v118 then false else (bif v128 then false else (bif v151 then (((nth v131.1.2.2.2.1 (4:Int) Z49).2.2.1)==4) else false))))))
 (((rQ9 (4:Int) (4:Int) (0:Int))∧((!v34)=true→((tQ3 v15.1 s_4 (0:Int) (0:Int))∧((!v47)=true→((tQ3 v38.1 s_8 (1:Int) (0:Int))∧((!v60)=true→((tQ3 v51.1 s_12 (0:Int) (0:Int))∧(((!v73)=true→(tY9 v64.1))∧(((!v73)=true→(tP3 v76 v77))∧(((!v80)=true→(uK6 v64.1 (0:Int)))∧(((!v80)=true→(tP3 v83 v84))∧(((!v87)=true→(rR0 v64.1 (2:Int)))∧(((!v92)=true→(tP0 v64.1))∧((!v97)=true→((vZ4 v64.1 (3:Int) (1:Int) (1:Int))∧(((!v104)=true→(tY9 v100.1))∧(((!v104)=true→(tP3 v107 v108))∧((!v111)=true→((vZ4 v64.1 (1:Int) (1:Int) (0:Int))∧((!v118)=true→((tQ3 v64.1 s_16 (0:Int) (0:Int))∧((!v128)=true→((rQ6 v64.1 (1:Int))∧((v140=true→(tY9 s_17))∧((v140=true→(tP3 v143 v144))∧((v151=true→InB (4:Int) (len v131.1.2.2.2.1))∧(v151=true→(4:Int)<len v131.1.2.2.2.1))))))))))))))))))))))))))),(bif v34 then false else (bif v47 then false else m0_4)))
def tR :Prop:=(f10t).1
def f10 :Bool:=(f10t).2
instance :Decidable (tR):=by
 unfold tR f10t
 try dsimp only
 infer_instance
def rR2:Am.Spec:=fnSpec [] vB [] (fun x=>tR ) (fun x=>f10 ) (fun _=>())
def oV1:Ctx:=Cx tys [(9,vR5),(12,rP2),(13,rP3),(14,rQ0),(16,sH),(17,rQ7),(20,vX2),(31,rR),(32,rR1)] [] [(51,[(4,0,131,400900),(4,0,300131,400903)])] false 160 [] []
theorem oV2:CtxOk Tryz.prog oV1:=xW4 xY7 rfl ⟨rD5,nE0,nE1,nG3,pX8,nH,sU3,nH0,nH1,trivial⟩ rfl (by kernel_rfl)
theorem nH2:SpecOk Tryz.prog 10 rR2:=xY3 oV2 mixed Tryz.func10 (by kernel_rfl) (bs:=[]) (by kernel_rfl) trivial fun x=>by kernel_rfl
abbrev vD2:Type:=((List Int)×(List Int)×Int×Unit)
abbrev wR0:Type:=(Int×Unit)
def uP2 (y:vD2)(x:wR0):Prop×Bool×wR0×Bool×Bool:=
 let a0:=y.1
 let a1:=y.2.1
 let a13:=x.1
 let v14:=(decide (a13<y.2.2.1))
 let v24:=((nth a0 a13 (0:Int))!=(nth a1 a13 (0:Int)))
 ((v14=true→(InB a13 (len a0)∧(InB a13 (len a1)∧((!v24)=true→InR (a13+1))))),(v14&&(!v24)),((a13+1),()),(v14&&v24),(!v14))
def uK8 (y:vD2)(x:wR0):Prop:=(uP2 y x).1
def uK9 (y:vD2)(x:wR0):Bool:=(uP2 y x).2.1
def wZ8 (y:vD2)(x:wR0):wR0:=(uP2 y x).2.2.1
def sU8 (y:vD2)(x:wR0):Bool:=(uP2 y x).2.2.2.1
def qQ3 (y:vD2)(x:wR0):Bool:=(uP2 y x).2.2.2.2
instance (y:vD2)(x:wR0):Decidable (uK8 y x):=by
 unfold uK8 uP2
 try dsimp only
 infer_instance
def tR0 (y:vD2)(x:wR0):Bool:=
 false
def tR1:St→Option Out:=xP5 [(0,(.val (.sl (.int .i64)))),(1,(.val (.sl (.int .i64)))),(12,vI)] [(13,vI)] uK9 wZ8 uK8 fun y x=>[ex 1 (some (sU8 y x)) [(4,vB)] ((tR0 y x),()),ex 2 (some (qQ3 y x)) [] ()]
def f44t (p0:List Int)(p1:List Int):Prop×Bool:=
 let v10:=((len p0)!=(len p1))
 let y4:=(p0,p1,(len p0),())
 let x4:=((0:Int),())
 let e4:=(zC1 (uK9 y4) (wZ8 y4) x4)
 (((!v10)=true→(Am.Ends (uK9 y4) (wZ8 y4) (uK8 y4) x4)),(bif v10 then false else (bif (sU8 y4 e4) then (tR0 y4 e4) else true)))
def tR2 (p0:List Int)(p1:List Int):Prop:=(f44t p0 p1).1
def f44 (p0:List Int)(p1:List Int):Bool:=(f44t p0 p1).2
instance (p0:List Int)(p1:List Int):Decidable (tR2 p0 p1):=by
 unfold tR2 f44t
 try dsimp only
 infer_instance
def tB6:Am.Spec:=fnSpec [(0,(.val (.sl (.int .i64)))),(1,(.val (.sl (.int .i64))))] vB [] (fun x=>tR2 x.1 x.2.1) (fun x=>f44 x.1 x.2.1) (fun _=>())
def qQ4:Ctx:=Cx tys [] [(4,tR1)] [] false 26 [] []
theorem qQ5:CtxOk Tryz.prog qQ4:=xW4 xY7 rfl trivial rfl (by kernel_rfl)
noncomputable def pN4:Code:=Tryz.f44.body.getD .skip
noncomputable def pY:Code:=xX3 pN4 0
theorem qQ6:yU9 Tryz.prog qQ4 pY:=xY2 qQ5 mixed (sp:=tR1) rfl [[(4,vB)],[]] (bs:=[]) (by kernel_rfl) trivial (by kernel_rfl) (by kernel_rfl) fun y x=>by kernel_rfl
theorem qQ7:SpecOk Tryz.prog 44 tB6:=xY3 qQ5 mixed Tryz.func44 (by kernel_rfl) (bs:=[pY]) (by kernel_rfl) ⟨qQ6,trivial⟩ fun x=>by kernel_rfl
abbrev vD3:Type:=((List D42)×(List D42)×Int×Unit)
abbrev wR1:Type:=(Int×Unit)
def uP3 (y:vD3)(x:wR1):Prop×Bool×wR1×Bool×Bool:=
 let a0:=y.1
 let a1:=y.2.1
 let a13:=x.1
 let v14:=(decide (a13<y.2.2.1))
 let v24:=(!(Ty.eqb T42 (nth a0 a13 Z42) (nth a1 a13 Z42)))
 ((v14=true→(InB a13 (len a0)∧(InB a13 (len a1)∧((!v24)=true→InR (a13+1))))),(v14&&(!v24)),((a13+1),()),(v14&&v24),(!v14))
def uL (y:vD3)(x:wR1):Prop:=(uP3 y x).1
def uL0 (y:vD3)(x:wR1):Bool:=(uP3 y x).2.1
def wZ9 (y:vD3)(x:wR1):wR1:=(uP3 y x).2.2.1
def sU9 (y:vD3)(x:wR1):Bool:=(uP3 y x).2.2.2.1
def qQ8 (y:vD3)(x:wR1):Bool:=(uP3 y x).2.2.2.2
instance (y:vD3)(x:wR1):Decidable (uL y x):=by
 unfold uL uP3
 try dsimp only
 infer_instance
def tR3 (y:vD3)(x:wR1):Bool:=
 false
def tR4:St→Option Out:=xP5 [(0,(.val (.sl T42))),(1,(.val (.sl T42))),(12,vI)] [(13,vI)] uL0 wZ9 uL fun y x=>[ex 1 (some (sU9 y x)) [(4,vB)] ((tR3 y x),()),ex 2 (some (qQ8 y x)) [] ()]
def f96t (p0:List D42)(p1:List D42):Prop×Bool:=
 let v10:=((len p0)!=(len p1))
 let y4:=(p0,p1,(len p0),())
 let x4:=((0:Int),())
 let e4:=(zC1 (uL0 y4) (wZ9 y4) x4)
 (((!v10)=true→(Am.Ends (uL0 y4) (wZ9 y4) (uL y4) x4)),(bif v10 then false else (bif (sU9 y4 e4) then (tR3 y4 e4) else true)))
def sV (p0:List D42)(p1:List D42):Prop:=(f96t p0 p1).1
def f96 (p0:List D42)(p1:List D42):Bool:=(f96t p0 p1).2
instance (p0:List D42)(p1:List D42):Decidable (sV p0 p1):=by
 unfold sV f96t
 try dsimp only
 infer_instance
def rR3:Am.Spec:=fnSpec [(0,(.val (.sl T42))),(1,(.val (.sl T42)))] vB [] (fun x=>sV x.1 x.2.1) (fun x=>f96 x.1 x.2.1) (fun _=>())
def qQ9:Ctx:=Cx tys [] [(4,tR4)] [] false 26 [] []
theorem qR:CtxOk Tryz.prog qQ9:=xW4 xY7 rfl trivial rfl (by kernel_rfl)
noncomputable def pN5:Code:=Tryz.f96.body.getD .skip
noncomputable def pY0:Code:=xX3 pN5 0
theorem qR0:yU9 Tryz.prog qQ9 pY0:=xY2 qR mixed (sp:=tR4) rfl [[(4,vB)],[]] (bs:=[]) (by kernel_rfl) trivial (by kernel_rfl) (by kernel_rfl) fun y x=>by kernel_rfl
theorem nH3:SpecOk Tryz.prog 96 rR3:=xY3 qR mixed Tryz.func96 (by kernel_rfl) (bs:=[pY0]) (by kernel_rfl) ⟨qR0,trivial⟩ fun x=>by kernel_rfl
def f72t (p0:D40)(p1:D40):Prop×Bool:=
 let v16:=(bif (p0.1==p1.1) then (p0.2.1==p1.2.1) else false)
 ((v16=true→(sV p0.2.2.1 p1.2.2.1)),(bif v16 then (f96 p0.2.2.1 p1.2.2.1) else false))
def sA0 (p0:D40)(p1:D40):Prop:=(f72t p0 p1).1
def f72 (p0:D40)(p1:D40):Bool:=(f72t p0 p1).2
instance (p0:D40)(p1:D40):Decidable (sA0 p0 p1):=by
 unfold sA0 f72t
 try dsimp only
 infer_instance
def sH2:Am.Spec:=fnSpec [(0,(.val T40)),(1,(.val T40))] vB [] (fun x=>sA0 x.1 x.2.1) (fun x=>f72 x.1 x.2.1) (fun _=>())
def oV3:Ctx:=Cx tys [(96,rR3)] [] [] false 24 [] []
theorem oV4:CtxOk Tryz.prog oV3:=xW4 xY7 rfl ⟨nH3,trivial⟩ rfl (by kernel_rfl)
theorem pY1:SpecOk Tryz.prog 72 sH2:=xY3 oV4 mixed Tryz.func72 (by kernel_rfl) (bs:=[]) (by kernel_rfl) trivial fun x=>by kernel_rfl
abbrev vD4:Type:=((List D122)×(List D122)×Int×Unit)
abbrev wR2:Type:=(Int×Unit)
def uP4 (y:vD4)(x:wR2):Prop×Bool×wR2×Bool×Bool:=
 let a0:=y.1
 let a1:=y.2.1
 let a13:=x.1
 let v14:=(decide (a13<y.2.2.1))
 let v24:=(!(Ty.eqb T122 (nth a0 a13 Z122) (nth a1 a13 Z122)))
 ((v14=true→(InB a13 (len a0)∧(InB a13 (len a1)∧((!v24)=true→InR (a13+1))))),(v14&&(!v24)),((a13+1),()),(v14&&v24),(!v14))
def uL1 (y:vD4)(x:wR2):Prop:=(uP4 y x).1
def uL2 (y:vD4)(x:wR2):Bool:=(uP4 y x).2.1
def vA (y:vD4)(x:wR2):wR2:=(uP4 y x).2.2.1
def sV0 (y:vD4)(x:wR2):Bool:=(uP4 y x).2.2.2.1
def qR1 (y:vD4)(x:wR2):Bool:=(uP4 y x).2.2.2.2
instance (y:vD4)(x:wR2):Decidable (uL1 y x):=by
 unfold uL1 uP4
 try dsimp only
 infer_instance
def tR5 (y:vD4)(x:wR2):Bool:=
 false
def tR6:St→Option Out:=xP5 [(0,(.val (.sl T122))),(1,(.val (.sl T122))),(12,vI)] [(13,vI)] uL2 vA uL1 fun y x=>[ex 1 (some (sV0 y x)) [(4,vB)] ((tR5 y x),()),ex 2 (some (qR1 y x)) [] ()]
def f93t (p0:List D122)(p1:List D122):Prop×Bool:=
 let v10:=((len p0)!=(len p1))
 let y4:=(p0,p1,(len p0),())
 let x4:=((0:Int),())
 let e4:=(zC1 (uL2 y4) (vA y4) x4)
 (((!v10)=true→(Am.Ends (uL2 y4) (vA y4) (uL1 y4) x4)),(bif v10 then false else (bif (sV0 y4 e4) then (tR5 y4 e4) else true)))
def sV1 (p0:List D122)(p1:List D122):Prop:=(f93t p0 p1).1
def f93 (p0:List D122)(p1:List D122):Bool:=(f93t p0 p1).2
instance (p0:List D122)(p1:List D122):Decidable (sV1 p0 p1):=by
 unfold sV1 f93t
 try dsimp only
 infer_instance
def rR4:Am.Spec:=fnSpec [(0,(.val (.sl T122))),(1,(.val (.sl T122)))] vB [] (fun x=>sV1 x.1 x.2.1) (fun x=>f93 x.1 x.2.1) (fun _=>())
def qR2:Ctx:=Cx tys [] [(4,tR6)] [] false 26 [] []
theorem qR3:CtxOk Tryz.prog qR2:=xW4 xY7 rfl trivial rfl (by kernel_rfl)
noncomputable def pN6:Code:=Tryz.f93.body.getD .skip
noncomputable def pY2:Code:=xX3 pN6 0
theorem qR4:yU9 Tryz.prog qR2 pY2:=xY2 qR3 mixed (sp:=tR6) rfl [[(4,vB)],[]] (bs:=[]) (by kernel_rfl) trivial (by kernel_rfl) (by kernel_rfl) fun y x=>by kernel_rfl
theorem nH4:SpecOk Tryz.prog 93 rR4:=xY3 qR3 mixed Tryz.func93 (by kernel_rfl) (bs:=[pY2]) (by kernel_rfl) ⟨qR4,trivial⟩ fun x=>by kernel_rfl
abbrev vD5:Type:=((List D128)×(List D128)×Int×Unit)
abbrev wR3:Type:=(Int×Unit)
def uP5 (y:vD5)(x:wR3):Prop×Bool×wR3×Bool×Bool:=
 let a0:=y.1
 let a1:=y.2.1
 let a13:=x.1
 let v14:=(decide (a13<y.2.2.1))
 let v24:=(!(Ty.eqb T128 (nth a0 a13 Z128) (nth a1 a13 Z128)))
 ((v14=true→(InB a13 (len a0)∧(InB a13 (len a1)∧((!v24)=true→InR (a13+1))))),(v14&&(!v24)),((a13+1),()),(v14&&v24),(!v14))
def uL3 (y:vD5)(x:wR3):Prop:=(uP5 y x).1
def uL4 (y:vD5)(x:wR3):Bool:=(uP5 y x).2.1
def vA0 (y:vD5)(x:wR3):wR3:=(uP5 y x).2.2.1
def sV2 (y:vD5)(x:wR3):Bool:=(uP5 y x).2.2.2.1
def qR5 (y:vD5)(x:wR3):Bool:=(uP5 y x).2.2.2.2
instance (y:vD5)(x:wR3):Decidable (uL3 y x):=by
 unfold uL3 uP5
 try dsimp only
 infer_instance
def tR7 (y:vD5)(x:wR3):Bool:=
 false
def tR8:St→Option Out:=xP5 [(0,(.val (.sl T128))),(1,(.val (.sl T128))),(12,vI)] [(13,vI)] uL4 vA0 uL3 fun y x=>[ex 1 (some (sV2 y x)) [(4,vB)] ((tR7 y x),()),ex 2 (some (qR5 y x)) [] ()]
def f94t (p0:List D128)(p1:List D128):Prop×Bool:=
 let v10:=((len p0)!=(len p1))
 let y4:=(p0,p1,(len p0),())
 let x4:=((0:Int),())
 let e4:=(zC1 (uL4 y4) (vA0 y4) x4)
 (((!v10)=true→(Am.Ends (uL4 y4) (vA0 y4) (uL3 y4) x4)),(bif v10 then false else (bif (sV2 y4 e4) then (tR7 y4 e4) else true)))
def sV3 (p0:List D128)(p1:List D128):Prop:=(f94t p0 p1).1
def f94 (p0:List D128)(p1:List D128):Bool:=(f94t p0 p1).2
instance (p0:List D128)(p1:List D128):Decidable (sV3 p0 p1):=by
 unfold sV3 f94t
 try dsimp only
 infer_instance
def rR5:Am.Spec:=fnSpec [(0,(.val (.sl T128))),(1,(.val (.sl T128)))] vB [] (fun x=>sV3 x.1 x.2.1) (fun x=>f94 x.1 x.2.1) (fun _=>())
def qR6:Ctx:=Cx tys [] [(4,tR8)] [] false 26 [] []
theorem qR7:CtxOk Tryz.prog qR6:=xW4 xY7 rfl trivial rfl (by kernel_rfl)
noncomputable def pN7:Code:=Tryz.f94.body.getD .skip
noncomputable def pY3:Code:=xX3 pN7 0
theorem qR8:yU9 Tryz.prog qR6 pY3:=xY2 qR7 mixed (sp:=tR8) rfl [[(4,vB)],[]] (bs:=[]) (by kernel_rfl) trivial (by kernel_rfl) (by kernel_rfl) fun y x=>by kernel_rfl
theorem nH5:SpecOk Tryz.prog 94 rR5:=xY3 qR7 mixed Tryz.func94 (by kernel_rfl) (bs:=[pY3]) (by kernel_rfl) ⟨qR8,trivial⟩ fun x=>by kernel_rfl
abbrev vD6:Type:=((List D125)×(List D125)×Int×Unit)
abbrev wR4:Type:=(Int×Unit)
def uP6 (y:vD6)(x:wR4):Prop×Bool×wR4×Bool×Bool:=
 let a0:=y.1
 let a1:=y.2.1
 let a13:=x.1
 let v14:=(decide (a13<y.2.2.1))
 let v24:=(!(Ty.eqb T125 (nth a0 a13 Z125) (nth a1 a13 Z125)))
 ((v14=true→(InB a13 (len a0)∧(InB a13 (len a1)∧((!v24)=true→InR (a13+1))))),(v14&&(!v24)),((a13+1),()),(v14&&v24),(!v14))
def uL5 (y:vD6)(x:wR4):Prop:=(uP6 y x).1
def uL6 (y:vD6)(x:wR4):Bool:=(uP6 y x).2.1
def vA1 (y:vD6)(x:wR4):wR4:=(uP6 y x).2.2.1
def sV4 (y:vD6)(x:wR4):Bool:=(uP6 y x).2.2.2.1
def qR9 (y:vD6)(x:wR4):Bool:=(uP6 y x).2.2.2.2
instance (y:vD6)(x:wR4):Decidable (uL5 y x):=by
 unfold uL5 uP6
 try dsimp only
 infer_instance
def tR9 (y:vD6)(x:wR4):Bool:=
 false
def tS:St→Option Out:=xP5 [(0,(.val (.sl T125))),(1,(.val (.sl T125))),(12,vI)] [(13,vI)] uL6 vA1 uL5 fun y x=>[ex 1 (some (sV4 y x)) [(4,vB)] ((tR9 y x),()),ex 2 (some (qR9 y x)) [] ()]
def f95t (p0:List D125)(p1:List D125):Prop×Bool:=
 let v10:=((len p0)!=(len p1))
 let y4:=(p0,p1,(len p0),())
 let x4:=((0:Int),())
 let e4:=(zC1 (uL6 y4) (vA1 y4) x4)
 (((!v10)=true→(Am.Ends (uL6 y4) (vA1 y4) (uL5 y4) x4)),(bif v10 then false else (bif (sV4 y4 e4) then (tR9 y4 e4) else true)))
def sV5 (p0:List D125)(p1:List D125):Prop:=(f95t p0 p1).1
def f95 (p0:List D125)(p1:List D125):Bool:=(f95t p0 p1).2
instance (p0:List D125)(p1:List D125):Decidable (sV5 p0 p1):=by
 unfold sV5 f95t
 try dsimp only
 infer_instance
def rR6:Am.Spec:=fnSpec [(0,(.val (.sl T125))),(1,(.val (.sl T125)))] vB [] (fun x=>sV5 x.1 x.2.1) (fun x=>f95 x.1 x.2.1) (fun _=>())
def qS:Ctx:=Cx tys [] [(4,tS)] [] false 26 [] []
theorem qS0:CtxOk Tryz.prog qS:=xW4 xY7 rfl trivial rfl (by kernel_rfl)
noncomputable def pN8:Code:=Tryz.f95.body.getD .skip
noncomputable def pY4:Code:=xX3 pN8 0
theorem qS1:yU9 Tryz.prog qS pY4:=xY2 qS0 mixed (sp:=tS) rfl [[(4,vB)],[]] (bs:=[]) (by kernel_rfl) trivial (by kernel_rfl) (by kernel_rfl) fun y x=>by kernel_rfl
theorem nH6:SpecOk Tryz.prog 95 rR6:=xY3 qS0 mixed Tryz.func95 (by kernel_rfl) (bs:=[pY4]) (by kernel_rfl) ⟨qS1,trivial⟩ fun x=>by kernel_rfl
def f71t (p0:D49)(p1:D49):Prop×Bool:=
 let v17:=(bif (!(f72 p0.2.2.2.2.2.2.2.2.2.2.2.2.1 p1.2.2.2.2.2.2.2.2.2.2.2.2.1)) then true else (!(Ty.eqb T42 p0.2.2.2.2.2.2.2.2.2.2.2.2.2.1 p1.2.2.2.2.2.2.2.2.2.2.2.2.2.1)))
 let v29:=(bif (p0.2.2.2.2.2.2.2.2.2.2.2.2.2.2.1 !=p1.2.2.2.2.2.2.2.2.2.2.2.2.2.2.1) then true else (p0.2.2.2.2.2.2.2.2.2.2.2.2.2.2.2.2.1 !=p1.2.2.2.2.2.2.2.2.2.2.2.2.2.2.2.2.1))
 let v35:=(!(f44 p0.2.2.2.2.2.2.2.2.2.2.2.2.2.2.2.1 p1.2.2.2.2.2.2.2.2.2.2.2.2.2.2.2.1))
 let v43:=(bif v35 then true else (!(f93 p0.2.2.2.2.2.2.2.2.2.2.2.2.2.2.2.2.2.1 p1.2.2.2.2.2.2.2.2.2.2.2.2.2.2.2.2.2.1)))
 let v51:=(bif v43 then true else (!(f94 p0.2.2.2.2.2.2.2.2.2.2.2.2.2.2.2.2.2.2.1 p1.2.2.2.2.2.2.2.2.2.2.2.2.2.2.2.2.2.2.1)))
 let v63:=(bif (p0.2.2.2.2.2.2.2.2.2.2.2.2.2.2.2.2.2.2.2.1 !=p1.2.2.2.2.2.2.2.2.2.2.2.2.2.2.2.2.2.2.2.1) then true else (p0.2.2.2.2.2.2.2.2.2.2.2.2.2.2.2.2.2.2.2.2.1 !=p1.2.2.2.2.2.2.2.2.2.2.2.2.2.2.2.2.2.2.2.2.1))
 let v77:=(bif (bif v63 then true else (p0.2.2.2.2.2.2.2.2.2.2.2.2.2.2.2.2.2.2.2.2.2.1 !=p1.2.2.2.2.2.2.2.2.2.2.2.2.2.2.2.2.2.2.2.2.2.1)) then true else (p0.2.2.2.2.2.2.2.2.2.2.2.2.2.2.2.2.2.2.2.2.2.2.1 !=p1.2.2.2.2.2.2.2.2.2.2.2.2.2.2.2.2.2.2.2.2.2.2.1))
 let v89:=(bif (!(p0.2.2.2.2.2.2.2.2.2.2.2.2.2.2.2.2.2.2.2.2.2.2.2.1==p1.2.2.2.2.2.2.2.2.2.2.2.2.2.2.2.2.2.2.2.2.2.2.2.1)) then true else (p0.2.2.2.2.2.2.2.2.2.2.2.2.2.2.2.2.2.2.2.2.2.2.2.2.1 !=p1.2.2.2.2.2.2.2.2.2.2.2.2.2.2.2.2.2.2.2.2.2.2.2.2.1))
 let v103:=(bif (bif v89 then true else (p0.2.2.2.2.2.2.2.2.2.2.2.2.2.2.2.2.2.2.2.2.2.2.2.2.2.1 !=p1.2.2.2.2.2.2.2.2.2.2.2.2.2.2.2.2.2.2.2.2.2.2.2.2.2.1)) then true else (p0.2.2.2.2.2.2.2.2.2.2.2.2.2.2.2.2.2.2.2.2.2.2.2.2.2.2.1 !=p1.2.2.2.2.2.2.2.2.2.2.2.2.2.2.2.2.2.2.2.2.2.2.2.2.2.2.1))
 let v119:=(bif (p0.2.2.2.2.2.2.2.2.2.2.2.2.2.2.2.2.2.2.2.2.2.2.2.2.2.2.2.1.1 !=p1.2.2.2.2.2.2.2.2.2.2.2.2.2.2.2.2.2.2.2.2.2.2.2.2.2.2.2.1.1) then true else (p0.2.2.2.2.2.2.2.2.2.2.2.2.2.2.2.2.2.2.2.2.2.2.2.2.2.2.2.1.2.1 !=p1.2.2.2.2.2.2.2.2.2.2.2.2.2.2.2.2.2.2.2.2.2.2.2.2.2.2.2.1.2.1))
 let v128:=(bif v119 then true else (p0.2.2.2.2.2.2.2.2.2.2.2.2.2.2.2.2.2.2.2.2.2.2.2.2.2.2.2.1.2.2.1 !=p1.2.2.2.2.2.2.2.2.2.2.2.2.2.2.2.2.2.2.2.2.2.2.2.2.2.2.2.1.2.2.1))
 let m4_2:=(bif v77 then false else (bif v103 then false else (bif v128 then false else (f95 p0.2.2.2.2.2.2.2.2.2.2.2.2.2.2.2.2.2.2.2.2.2.2.2.2.2.2.2.1.2.2.2.1 p1.2.2.2.2.2.2.2.2.2.2.2.2.2.2.2.2.2.2.2.2.2.2.2.2.2.2.2.1.2.2.2.1))))
 (((sA0 p0.2.2.2.2.2.2.2.2.2.2.2.2.1 p1.2.2.2.2.2.2.2.2.2.2.2.2.1)∧((!v17)=true→((!v29)=true→((tR2 p0.2.2.2.2.2.2.2.2.2.2.2.2.2.2.2.1 p1.2.2.2.2.2.2.2.2.2.2.2.2.2.2.2.1)∧(((!v35)=true→(sV1 p0.2.2.2.2.2.2.2.2.2.2.2.2.2.2.2.2.2.1 p1.2.2.2.2.2.2.2.2.2.2.2.2.2.2.2.2.2.1))∧(((!v43)=true→(sV3 p0.2.2.2.2.2.2.2.2.2.2.2.2.2.2.2.2.2.2.1 p1.2.2.2.2.2.2.2.2.2.2.2.2.2.2.2.2.2.2.1))∧((!v51)=true→((!v77)=true→((!v103)=true→((!v128)=true→(sV5 p0.2.2.2.2.2.2.2.2.2.2.2.2.2.2.2.2.2.2.2.2.2.2.2.2.2.2.2.1.2.2.2.1 p1.2.2.2.2.2.2.2.2.2.2.2.2.2.2.2.2.2.2.2.2.2.2.2.2.2.2.2.1.2.2.2.1))))))))))),(bif v17 then false else (bif v29 then false else (bif v51 then false else m4_2))))
def sV6 (p0:D49)(p1:D49):Prop:=(f71t p0 p1).1
def f71 (p0:D49)(p1:D49):Bool:=(f71t p0 p1).2
instance (p0:D49)(p1:D49):Decidable (sV6 p0 p1):=by
 unfold sV6 f71t
 try dsimp only
 infer_instance
def rR7:Am.Spec:=fnSpec [(0,(.val T49)),(1,(.val T49))] vB [] (fun x=>sV6 x.1 x.2.1) (fun x=>f71 x.1 x.2.1) (fun _=>())
def oV5:Ctx:=Cx tys [(44,tB6),(72,sH2),(93,rR4),(94,rR5),(95,rR6)] [] [] false 136 [] []
theorem oV6:CtxOk Tryz.prog oV5:=xW4 xY7 rfl ⟨qQ7,pY1,nH4,nH5,nH6,trivial⟩ rfl (by kernel_rfl)
theorem nH7:SpecOk Tryz.prog 71 rR7:=xY3 oV6 mixed Tryz.func71 (by kernel_rfl) (bs:=[]) (by kernel_rfl) trivial fun x=>by kernel_rfl
def f43t (p0:D49)(p1:D49):Prop×Bool:=
 let v30:=(bif (bif (bif (p0.1 !=p1.1) then true else (p0.2.1 !=p1.2.1)) then true else (p0.2.2.1 !=p1.2.2.1)) then true else (!(p0.2.2.2.1==p1.2.2.2.1)))
 let v49:=(bif (bif (!(Ty.eqb .bool p0.2.2.2.2.1 p1.2.2.2.2.1)) then true else (!(Ty.eqb .bool p0.2.2.2.2.2.1 p1.2.2.2.2.2.1))) then true else (!(Ty.eqb .bool p0.2.2.2.2.2.2.1 p1.2.2.2.2.2.2.1)))
 let v75:=(bif (bif (bif (p0.2.2.2.2.2.2.2.1 !=p1.2.2.2.2.2.2.2.1) then true else (p0.2.2.2.2.2.2.2.2.1 !=p1.2.2.2.2.2.2.2.2.1)) then true else (!(Ty.eqb T37 p0.2.2.2.2.2.2.2.2.2.2.1 p1.2.2.2.2.2.2.2.2.2.2.1))) then true else (p0.2.2.2.2.2.2.2.2.2.2.2.1 !=p1.2.2.2.2.2.2.2.2.2.2.2.1))
 let v91:=(bif (p0.2.2.2.2.2.2.2.2.2.1.1 !=p1.2.2.2.2.2.2.2.2.2.1.1) then true else (p0.2.2.2.2.2.2.2.2.2.1.2.1 !=p1.2.2.2.2.2.2.2.2.2.1.2.1))
 let v101:=(bif v91 then true else (!(f44 p0.2.2.2.2.2.2.2.2.2.1.2.2.1 p1.2.2.2.2.2.2.2.2.2.1.2.2.1)))
 (((!v30)=true→((!v49)=true→((!v75)=true→(((!v91)=true→(tR2 p0.2.2.2.2.2.2.2.2.2.1.2.2.1 p1.2.2.2.2.2.2.2.2.2.1.2.2.1))∧((!v101)=true→(sV6 p0 p1)))))),(bif v30 then false else (bif v49 then false else (bif v75 then false else (bif v101 then false else (f71 p0 p1))))))
def sA1 (p0:D49)(p1:D49):Prop:=(f43t p0 p1).1
def f43 (p0:D49)(p1:D49):Bool:=(f43t p0 p1).2
instance (p0:D49)(p1:D49):Decidable (sA1 p0 p1):=by
 unfold sA1 f43t
 try dsimp only
 infer_instance
def rR8:Am.Spec:=fnSpec [(0,(.val T49)),(1,(.val T49))] vB [] (fun x=>sA1 x.1 x.2.1) (fun x=>f43 x.1 x.2.1) (fun _=>())
def oV7:Ctx:=Cx tys [(44,tB6),(71,rR7)] [] [] false 105 [] []
theorem oV8:CtxOk Tryz.prog oV7:=xW4 xY7 rfl ⟨qQ7,nH7,trivial⟩ rfl (by kernel_rfl)
theorem nH8:SpecOk Tryz.prog 43 rR8:=xY3 oV8 mixed Tryz.func43 (by kernel_rfl) (bs:=[]) (by kernel_rfl) trivial fun x=>by kernel_rfl
abbrev vD7:Type:=((List D87)×(List D87)×Int×Unit)
abbrev wR5:Type:=(Int×Unit)
def uP7 (y:vD7)(x:wR5):Prop×Bool×wR5×Bool×Bool:=
 let a0:=y.1
 let a1:=y.2.1
 let a13:=x.1
 let v14:=(decide (a13<y.2.2.1))
 let v24:=(!(Ty.eqb T87 (nth a0 a13 Z87) (nth a1 a13 Z87)))
 ((v14=true→(InB a13 (len a0)∧(InB a13 (len a1)∧((!v24)=true→InR (a13+1))))),(v14&&(!v24)),((a13+1),()),(v14&&v24),(!v14))
def uL7 (y:vD7)(x:wR5):Prop:=(uP7 y x).1
def uL8 (y:vD7)(x:wR5):Bool:=(uP7 y x).2.1
def vA2 (y:vD7)(x:wR5):wR5:=(uP7 y x).2.2.1
def sV7 (y:vD7)(x:wR5):Bool:=(uP7 y x).2.2.2.1
def qS2 (y:vD7)(x:wR5):Bool:=(uP7 y x).2.2.2.2
instance (y:vD7)(x:wR5):Decidable (uL7 y x):=by
 unfold uL7 uP7
 try dsimp only
 infer_instance
def tS0 (y:vD7)(x:wR5):Bool:=
 false
def tS1:St→Option Out:=xP5 [(0,(.val (.sl T87))),(1,(.val (.sl T87))),(12,vI)] [(13,vI)] uL8 vA2 uL7 fun y x=>[ex 1 (some (sV7 y x)) [(4,vB)] ((tS0 y x),()),ex 2 (some (qS2 y x)) [] ()]
def f45t (p0:List D87)(p1:List D87):Prop×Bool:=
 let v10:=((len p0)!=(len p1))
 let y4:=(p0,p1,(len p0),())
 let x4:=((0:Int),())
 let e4:=(zC1 (uL8 y4) (vA2 y4) x4)
 (((!v10)=true→(Am.Ends (uL8 y4) (vA2 y4) (uL7 y4) x4)),(bif v10 then false else (bif (sV7 y4 e4) then (tS0 y4 e4) else true)))
def sV8 (p0:List D87)(p1:List D87):Prop:=(f45t p0 p1).1
def f45 (p0:List D87)(p1:List D87):Bool:=(f45t p0 p1).2
instance (p0:List D87)(p1:List D87):Decidable (sV8 p0 p1):=by
 unfold sV8 f45t
 try dsimp only
 infer_instance
def rR9:Am.Spec:=fnSpec [(0,(.val (.sl T87))),(1,(.val (.sl T87)))] vB [] (fun x=>sV8 x.1 x.2.1) (fun x=>f45 x.1 x.2.1) (fun _=>())
def qS3:Ctx:=Cx tys [] [(4,tS1)] [] false 26 [] []
theorem qS4:CtxOk Tryz.prog qS3:=xW4 xY7 rfl trivial rfl (by kernel_rfl)
noncomputable def pN9:Code:=Tryz.f45.body.getD .skip
noncomputable def pY5:Code:=xX3 pN9 0
theorem qS5:yU9 Tryz.prog qS3 pY5:=xY2 qS4 mixed (sp:=tS1) rfl [[(4,vB)],[]] (bs:=[]) (by kernel_rfl) trivial (by kernel_rfl) (by kernel_rfl) fun y x=>by kernel_rfl
theorem nH9:SpecOk Tryz.prog 45 rR9:=xY3 qS4 mixed Tryz.func45 (by kernel_rfl) (bs:=[pY5]) (by kernel_rfl) ⟨qS5,trivial⟩ fun x=>by kernel_rfl
def f47t (p0:D90)(p1:D90):Prop×Bool:=
 let v30:=(bif (bif (bif (p0.1 !=p1.1) then true else (!(p0.2.1==p1.2.1))) then true else (p0.2.2.1 !=p1.2.2.1)) then true else (p0.2.2.2.1 !=p1.2.2.2.1))
 (((!v30)=true→(sA0 p0.2.2.2.2.1 p1.2.2.2.2.1)),(bif v30 then false else (f72 p0.2.2.2.2.1 p1.2.2.2.2.1)))
def sV9 (p0:D90)(p1:D90):Prop:=(f47t p0 p1).1
def f47 (p0:D90)(p1:D90):Bool:=(f47t p0 p1).2
instance (p0:D90)(p1:D90):Decidable (sV9 p0 p1):=by
 unfold sV9 f47t
 try dsimp only
 infer_instance
def rS:Am.Spec:=fnSpec [(0,(.val T90)),(1,(.val T90))] vB [] (fun x=>sV9 x.1 x.2.1) (fun x=>f47 x.1 x.2.1) (fun _=>())
def oV9:Ctx:=Cx tys [(72,sH2)] [] [] false 36 [] []
theorem oW:CtxOk Tryz.prog oV9:=xW4 xY7 rfl ⟨pY1,trivial⟩ rfl (by kernel_rfl)
theorem nI:SpecOk Tryz.prog 47 rS:=xY3 oW mixed Tryz.func47 (by kernel_rfl) (bs:=[]) (by kernel_rfl) trivial fun x=>by kernel_rfl
abbrev wI4:Type:=((List D49)×(Unit)×(List D49)×Int×Unit)
abbrev wD5:Type:=(Int×Unit)
def wY1 (y:wI4)(x:wD5):Prop×Bool×wD5×Bool×Bool:=
 let a1:=y.1
 let a15:=y.2.2.1
 let a17:=x.1
 let v18:=(decide (a17<y.2.2.2.1))
 let v20:=(nth a15 a17 Z49)
 let v24:=(nth a1 a17 Z49)
 let v30:=(!(f43 v20 v24))
 ((v18=true→(InB a17 (len a15)∧(InB a17 (len a1)∧((sA1 v20 v24)∧((!v30)=true→InR (a17+1)))))),(v18&&(!v30)),((a17+1),()),(v18&&v30),(!v18))
def vD8 (y:wI4)(x:wD5):Prop:=(wY1 y x).1
def vA3 (y:wI4)(x:wD5):Bool:=(wY1 y x).2.1
def wL6 (y:wI4)(x:wD5):wD5:=(wY1 y x).2.2.1
def uY7 (y:wI4)(x:wD5):Bool:=(wY1 y x).2.2.2.1
def sW (y:wI4)(x:wD5):Bool:=(wY1 y x).2.2.2.2
instance (y:wI4)(x:wD5):Decidable (vD8 y x):=by
 unfold vD8 wY1
 try dsimp only
 infer_instance
def vZ5 (y:wI4)(x:wD5):Bool:=
 false
def vZ6:St→Option Out:=xP5 [(1,(.val (.sl T49))),(2,(.fn 43 .nl)),(15,(.val (.sl T49))),(16,vI)] [(17,vI)] vA3 wL6 vD8 fun y x=>[ex 1 (some (uY7 y x)) [(6,vB)] ((vZ5 y x),()),ex 2 (some (sW y x)) [] ()]
def rF9 (p0:List D49)(p1:List D49)(p2:(Unit)):Prop×Bool:=
 let v14:=((len p0)!=(len p1))
 let y4:=(p1,(),p0,(len p0),())
 let x4:=((0:Int),())
 let e4:=(zC1 (vA3 y4) (wL6 y4) x4)
 (((!v14)=true→(Am.Ends (vA3 y4) (wL6 y4) (vD8 y4) x4)),(bif v14 then false else (bif (uY7 y4 e4) then (vZ5 y4 e4) else true)))
def vS2 (p0:List D49)(p1:List D49)(p2:(Unit)):Prop:=(rF9 p0 p1 p2).1
def rS0 (p0:List D49)(p1:List D49)(p2:(Unit)):Bool:=(rF9 p0 p1 p2).2
instance (p0:List D49)(p1:List D49)(p2:(Unit)):Decidable (vS2 p0 p1 p2):=by
 unfold vS2 rF9
 try dsimp only
 infer_instance
def tS2:Am.Spec:=fnSpec [(0,(.val (.sl T49))),(1,(.val (.sl T49))),(2,(.fn 43 .nl))] vB [] (fun x=>vS2 x.1 x.2.1 x.2.2.1) (fun x=>rS0 x.1 x.2.1 x.2.2.1) (fun _=>())
def sA2:Ctx:=Cx tys [(43,rR8)] [(4,vZ6)] [] false 32 [] []
theorem sA3:CtxOk Tryz.prog sA2:=xW4 xY7 rfl ⟨nH8,trivial⟩ rfl (by kernel_rfl)
noncomputable def rG:Code:=Tryz.f42.body.getD .skip
noncomputable def sW0:Code:=xX3 rG 0
theorem sW1:yU9 Tryz.prog sA2 sW0:=xY2 sA3 mixed (sp:=vZ6) rfl [[(6,vB)],[]] (bs:=[]) (by kernel_rfl) trivial (by kernel_rfl) (by kernel_rfl) fun y x=>by kernel_rfl
theorem qS6:SpecOk Tryz.prog 42 tS2:=xY3 sA3 mixed Tryz.func42 (by kernel_rfl) (bs:=[sW0]) (by kernel_rfl) ⟨sW1,trivial⟩ fun x=>by kernel_rfl
abbrev wI5:Type:=((List D90)×(Unit)×(List D90)×Int×Unit)
abbrev wD6:Type:=(Int×Unit)
def wY2 (y:wI5)(x:wD6):Prop×Bool×wD6×Bool×Bool:=
 let a1:=y.1
 let a15:=y.2.2.1
 let a17:=x.1
 let v18:=(decide (a17<y.2.2.2.1))
 let v20:=(nth a15 a17 Z90)
 let v24:=(nth a1 a17 Z90)
 let v30:=(!(f47 v20 v24))
 ((v18=true→(InB a17 (len a15)∧(InB a17 (len a1)∧((sV9 v20 v24)∧((!v30)=true→InR (a17+1)))))),(v18&&(!v30)),((a17+1),()),(v18&&v30),(!v18))
def vD9 (y:wI5)(x:wD6):Prop:=(wY2 y x).1
def vA4 (y:wI5)(x:wD6):Bool:=(wY2 y x).2.1
def wL7 (y:wI5)(x:wD6):wD6:=(wY2 y x).2.2.1
def uY8 (y:wI5)(x:wD6):Bool:=(wY2 y x).2.2.2.1
def sW2 (y:wI5)(x:wD6):Bool:=(wY2 y x).2.2.2.2
instance (y:wI5)(x:wD6):Decidable (vD9 y x):=by
 unfold vD9 wY2
 try dsimp only
 infer_instance
def vZ7 (y:wI5)(x:wD6):Bool:=
 false
def vZ8:St→Option Out:=xP5 [(1,(.val (.sl T90))),(2,(.fn 47 .nl)),(15,(.val (.sl T90))),(16,vI)] [(17,vI)] vA4 wL7 vD9 fun y x=>[ex 1 (some (uY8 y x)) [(6,vB)] ((vZ7 y x),()),ex 2 (some (sW2 y x)) [] ()]
def rG0 (p0:List D90)(p1:List D90)(p2:(Unit)):Prop×Bool:=
 let v14:=((len p0)!=(len p1))
 let y4:=(p1,(),p0,(len p0),())
 let x4:=((0:Int),())
 let e4:=(zC1 (vA4 y4) (wL7 y4) x4)
 (((!v14)=true→(Am.Ends (vA4 y4) (wL7 y4) (vD9 y4) x4)),(bif v14 then false else (bif (uY8 y4 e4) then (vZ7 y4 e4) else true)))
def vS3 (p0:List D90)(p1:List D90)(p2:(Unit)):Prop:=(rG0 p0 p1 p2).1
def rS1 (p0:List D90)(p1:List D90)(p2:(Unit)):Bool:=(rG0 p0 p1 p2).2
instance (p0:List D90)(p1:List D90)(p2:(Unit)):Decidable (vS3 p0 p1 p2):=by
 unfold vS3 rG0
 try dsimp only
 infer_instance
def tS3:Am.Spec:=fnSpec [(0,(.val (.sl T90))),(1,(.val (.sl T90))),(2,(.fn 47 .nl))] vB [] (fun x=>vS3 x.1 x.2.1 x.2.2.1) (fun x=>rS1 x.1 x.2.1 x.2.2.1) (fun _=>())
def sA4:Ctx:=Cx tys [(47,rS)] [(4,vZ8)] [] false 32 [] []
theorem sA5:CtxOk Tryz.prog sA4:=xW4 xY7 rfl ⟨nI,trivial⟩ rfl (by kernel_rfl)
noncomputable def rG1:Code:=Tryz.f46.body.getD .skip
noncomputable def sW3:Code:=xX3 rG1 0
theorem sW4:yU9 Tryz.prog sA4 sW3:=xY2 sA5 mixed (sp:=vZ8) rfl [[(6,vB)],[]] (bs:=[]) (by kernel_rfl) trivial (by kernel_rfl) (by kernel_rfl) fun y x=>by kernel_rfl
theorem qS7:SpecOk Tryz.prog 46 tS3:=xY3 sA5 mixed Tryz.func46 (by kernel_rfl) (bs:=[sW3]) (by kernel_rfl) ⟨sW4,trivial⟩ fun x=>by kernel_rfl
def f18t (p0:D28)(p1:D28):Prop×Bool:=
 let v30:=(bif (bif (bif (p0.1 !=p1.1) then true else (p0.2.1 !=p1.2.1)) then true else (p0.2.2.1 !=p1.2.2.1)) then true else (p0.2.2.2.2.1 !=p1.2.2.2.2.1))
 let v36:=(!(rS0 p0.2.2.2.1 p1.2.2.2.1 ()))
 let v52:=(bif (p0.2.2.2.2.2.1.1 !=p1.2.2.2.2.2.1.1) then true else (p0.2.2.2.2.2.1.2.1 !=p1.2.2.2.2.2.1.2.1))
 let v62:=(bif v52 then true else (!(f44 p0.2.2.2.2.2.1.2.2.1 p1.2.2.2.2.2.1.2.2.1)))
 let v67:=(f45 p0.2.2.2.2.2.2.1 p1.2.2.2.2.2.2.1)
 (((!v30)=true→((vS2 p0.2.2.2.1 p1.2.2.2.1 ())∧((!v36)=true→(((!v52)=true→(tR2 p0.2.2.2.2.2.1.2.2.1 p1.2.2.2.2.2.1.2.2.1))∧((!v62)=true→((sV8 p0.2.2.2.2.2.2.1 p1.2.2.2.2.2.2.1)∧(v67=true→(vS3 p0.2.2.2.2.2.2.2.1 p1.2.2.2.2.2.2.2.1 ())))))))),(bif v30 then false else (bif v36 then false else (bif v62 then false else (bif v67 then (rS1 p0.2.2.2.2.2.2.2.1 p1.2.2.2.2.2.2.2.1 ()) else false)))))
def sA6 (p0:D28)(p1:D28):Prop:=(f18t p0 p1).1
def f18 (p0:D28)(p1:D28):Bool:=(f18t p0 p1).2
instance (p0:D28)(p1:D28):Decidable (sA6 p0 p1):=by
 unfold sA6 f18t
 try dsimp only
 infer_instance
def rS2:Am.Spec:=fnSpec [(0,(.val T28)),(1,(.val T28))] vB [] (fun x=>sA6 x.1 x.2.1) (fun x=>f18 x.1 x.2.1) (fun _=>())
def oW0:Ctx:=Cx tys [(42,tS2),(44,tB6),(45,rR9),(46,tS3)] [] [] false 75 [] []
theorem oW1:CtxOk Tryz.prog oW0:=xW4 xY7 rfl ⟨qS6,qQ7,nH9,qS7,trivial⟩ rfl (by kernel_rfl)
theorem nI0:SpecOk Tryz.prog 18 rS2:=xY3 oW1 mixed Tryz.func18 (by kernel_rfl) (bs:=[]) (by kernel_rfl) trivial fun x=>by kernel_rfl
abbrev uP8:Type:=(D28×D54×Int×(List Int)×Int×Unit)
abbrev vS4:Type:=(Int×Int×Unit)
def rS3 (y:uP8)(x:vS4):Prop×Bool×vS4:=
 let a41:=y.2.2.2.1
 let a43:=x.2.1
 let v44:=(decide (a43<y.2.2.2.2.1))
 ((v44=true→(InB a43 (len a41)∧InR (a43+1))),v44,((bif ((nth a41 a43 (0:Int))==y.2.1.1) then a43 else x.1),(a43+1),()))
def vX9 (y:uP8)(x:vS4):Prop:=(rS3 y x).1
def uC6 (y:uP8)(x:vS4):Bool:=(rS3 y x).2.1
def wQ (y:uP8)(x:vS4):vS4:=(rS3 y x).2.2
instance (y:uP8)(x:vS4):Decidable (vX9 y x):=by
 unfold vX9 rS3
 try dsimp only
 infer_instance
def uP9 (y:uP8)(x:vS4):Int:=
 x.1
def rS4:List (Nat×Sh):=[(2,(.box T28 (.val T28))),(3,(.box T54 (.val T54))),(6,vI),(7,vI)]
def sA7:St→Option Out:=xP5 [(2,(.box T28 (.val T28))),(3,(.box T54 (.val T54))),(6,vI),(41,(.own (.int .i64) 41 false)),(42,vI)] [(7,vI),(43,vI)] uC6 wQ vX9 fun y x=>[ex 2 none rS4 (y.1,y.2.1,y.2.2.1,(uP9 y x),())]
def f6t (p0:D28)(p1:D54):Prop×Bool:=
 let v17:=(f8 p0 p1.1)
 let v31:=(bif (bif ((f9 p0)!=0) then true else (decide (v17<0))) then true else (decide (v17≥(len p0.2.2.2.1))))
 let v36:=(nth p0.2.2.2.1 v17 Z49)
 let v41:=(f20 p0 v36.2.2.1)
 let y7:=(p0,p1,v36.2.2.1,v41,(len v41),())
 let x7:=((-1:Int),(0:Int),())
 let r7_2_0:=(uP9 y7 (zC1 (uC6 y7) (wQ y7) x7))
 let v60:=(f16 p0 p1.1 v36.2.2.1 r7_2_0)
 let v64:=(v60.2.1 !=0)
 let v70:=(bif v64 then true else (!(f18 v60.1 p0)))
 let v79:=(f16 p0 p1.1 p1.2.1 p1.2.2.1)
 let v83:=(v79.2.1==0)
 let v90:=(f16 v79.1 p1.1 v36.2.2.1 r7_2_0)
 let v94:=(v90.2.1 !=0)
 let v100:=(bif v94 then true else (!(f18 v90.1 p0)))
 (((vY3 p0 p1.1)∧((tP0 p0)∧((v31=true→tR)∧((!v31)=true→(InB v17 (len p0.2.2.2.1)∧((uK6 p0 v36.2.2.1)∧((Am.Ends (uC6 y7) (wQ y7) (vX9 y7) x7)∧((vZ4 p0 p1.1 v36.2.2.1 r7_2_0)∧(((!v64)=true→(sA6 v60.1 p0))∧((!v70)=true→((vZ4 p0 p1.1 p1.2.1 p1.2.2.1)∧((v83=true→((vZ4 v79.1 p1.1 v36.2.2.1 r7_2_0)∧((!v94)=true→(sA6 v90.1 p0))))∧((bif v83 then (!v100) else true)=true→tR))))))))))))),(bif v31 then f10 else (bif v70 then false else (bif (v100&&v83) then false else f10))))
def f6_ok (p0:D28)(p1:D54):Prop:=(f6t p0 p1).1
def f6 (p0:D28)(p1:D54):Bool:=(f6t p0 p1).2
instance (p0:D28)(p1:D54):Decidable (f6_ok p0 p1):=by
 unfold f6_ok f6t
 try dsimp only
 infer_instance
def oW2:Am.Spec:=fnSpec [(0,(.val T28)),(1,(.val T54))] vB [] (fun x=>f6_ok x.1 x.2.1) (fun x=>f6 x.1 x.2.1) (fun _=>())
def pY6:Ctx:=Cx tys [(8,vJ5),(9,vR5),(10,rR2),(16,sH),(18,rS2),(20,vX2)] [(7,sA7)] [] false 102 [] []
theorem pY7:CtxOk Tryz.prog pY6:=xW4 xY7 rfl ⟨sL2,rD5,nH2,pX8,nI0,sU3,trivial⟩ rfl (by kernel_rfl)
noncomputable def oW3:Code:=Tryz.f6.body.getD .skip
noncomputable def nI1:Code:=xX3 oW3 0
theorem pO:yU9 Tryz.prog pY6 nI1:=xY2 pY7 mixed (sp:=sA7) rfl [rS4] (bs:=[]) (by kernel_rfl) trivial (by kernel_rfl) (by kernel_rfl) fun y x=>by kernel_rfl
theorem f6_is:SpecOk Tryz.prog 6 oW2:=xY3 pY7 mixed Tryz.func6 (by kernel_rfl) (bs:=[nI1]) (by kernel_rfl) ⟨pO,trivial⟩ fun x=>by kernel_rfl
abbrev vM0:Type:=((List Int)×(List Int)×Unit)
abbrev wW2:Type:=(Int×Unit)
def tS4 (y:vM0)(x:wW2):Prop×Bool×wW2×Bool×Bool:=
 let a0:=y.1
 let a1:=y.2.1
 let a5:=x.1
 let v14:=(decide (a5<(len a0)))
 let v25:=((nth a0 a5 (0:Int))!=(nth a1 a5 (0:Int)))
 ((v14=true→(InB a5 (len a0)∧(InB a5 (len a1)∧((!v25)=true→InR (a5+1))))),(v14&&(!v25)),((a5+1),()),(v14&&v25),(!v14))
def tS5 (y:vM0)(x:wW2):Prop:=(tS4 y x).1
def sH3 (y:vM0)(x:wW2):Bool:=(tS4 y x).2.1
def uC7 (y:vM0)(x:wW2):wW2:=(tS4 y x).2.2.1
def qS8 (y:vM0)(x:wW2):Bool:=(tS4 y x).2.2.2.1
instance (y:vM0)(x:wW2):Decidable (tS5 y x):=by
 unfold tS5 tS4
 try dsimp only
 infer_instance
def rG2 (y:vM0)(x:wW2):Bool:=
 false
def f97t (p0:List Int)(p1:List Int):Prop×Bool:=
 let v10:=((len p0)!=(len p1))
 let y4:=(p0,p1,())
 let x4:=((0:Int),())
 let e4:=(zC1 (sH3 y4) (uC7 y4) x4)
 (((!v10)=true→(Am.Ends (sH3 y4) (uC7 y4) (tS5 y4) x4)),(bif v10 then false else (bif (qS8 y4 e4) then (rG2 y4 e4) else true)))
def rS5 (p0:List Int)(p1:List Int):Prop:=(f97t p0 p1).1
def f97 (p0:List Int)(p1:List Int):Bool:=(f97t p0 p1).2
instance (p0:List Int)(p1:List Int):Decidable (rS5 p0 p1):=by
 unfold rS5 f97t
 try dsimp only
 infer_instance
def f73t (p0:D24)(p1:D24):Prop×Bool:=
 let v16:=(bif (p0.1==p1.1) then (p0.2.1==p1.2.1) else false)
 ((v16=true→(rS5 p0.2.2.1 p1.2.2.1)),(bif v16 then (f97 p0.2.2.1 p1.2.2.1) else false))
def qS9 (p0:D24)(p1:D24):Prop:=(f73t p0 p1).1
def f73 (p0:D24)(p1:D24):Bool:=(f73t p0 p1).2
instance (p0:D24)(p1:D24):Decidable (qS9 p0 p1):=by
 unfold qS9 f73t
 try dsimp only
 infer_instance
end Go.Proofs.YtpanghcojpnkaaaGreatDoor.Am
