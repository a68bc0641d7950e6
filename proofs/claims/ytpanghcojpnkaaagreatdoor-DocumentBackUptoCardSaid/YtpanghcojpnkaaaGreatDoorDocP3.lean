/- Printed by program, part 3. No condition. -/
import Derived.Test.YtpanghcojpnkaaaGreatDoorDocP2
set_option linter.unusedVariables false
set_option synthInstance.maxSize 4000
set_option synthInstance.maxHeartbeats 400000
namespace Go.Proofs.YtpanghcojpnkaaaGreatDoor.Am
open Go Go.Am Go.Proofs
def f83t (p0:D49):Prop×D49:=
 let s_1:=(p0.1,p0.2.1,p0.2.2.1,p0.2.2.2.1,p0.2.2.2.2.1,p0.2.2.2.2.2.1,p0.2.2.2.2.2.2.1,p0.2.2.2.2.2.2.2.1,p0.2.2.2.2.2.2.2.2.1,p0.2.2.2.2.2.2.2.2.2.1,((0:Int),(0:Int),(0:Int),(0:Int),(0:Int),(0:Int),()),p0.2.2.2.2.2.2.2.2.2.2.2)
 let m1:=(bif (f76 p0.2.1) then s_1 else p0)
 let s_2:=(m1.1,m1.2.1,m1.2.2.1,m1.2.2.2.1,m1.2.2.2.2.1,m1.2.2.2.2.2.1,m1.2.2.2.2.2.2.1,m1.2.2.2.2.2.2.2.1,m1.2.2.2.2.2.2.2.2.1,m1.2.2.2.2.2.2.2.2.2.1,m1.2.2.2.2.2.2.2.2.2.2.1,(0:Int),m1.2.2.2.2.2.2.2.2.2.2.2.2)
 let m1_1:=(bif (f79 m1.2.1) then s_2 else m1)
 let s_4:=(m1_1.1,m1_1.2.1,m1_1.2.2.1,m1_1.2.2.2.1,m1_1.2.2.2.2.1,m1_1.2.2.2.2.2.1,m1_1.2.2.2.2.2.2.1,m1_1.2.2.2.2.2.2.2.1,m1_1.2.2.2.2.2.2.2.2.1,m1_1.2.2.2.2.2.2.2.2.2.1,m1_1.2.2.2.2.2.2.2.2.2.2.1,m1_1.2.2.2.2.2.2.2.2.2.2.2.1,((0:Int),(0:Int),([]:List D42),()),m1_1.2.2.2.2.2.2.2.2.2.2.2.2.2)
 let s_6:=(m1_1.1,m1_1.2.1,m1_1.2.2.1,m1_1.2.2.2.1,m1_1.2.2.2.2.1,m1_1.2.2.2.2.2.1,m1_1.2.2.2.2.2.2.1,m1_1.2.2.2.2.2.2.2.1,m1_1.2.2.2.2.2.2.2.2.1,m1_1.2.2.2.2.2.2.2.2.2.1,m1_1.2.2.2.2.2.2.2.2.2.2.1,m1_1.2.2.2.2.2.2.2.2.2.2.2.1,m1_1.2.2.2.2.2.2.2.2.2.2.2.2.1,((0:Int),(0:Int),(0:Int),(0:Int),()),m1_1.2.2.2.2.2.2.2.2.2.2.2.2.2.2)
 let s_10:=(m1_1.1,m1_1.2.1,m1_1.2.2.1,m1_1.2.2.2.1,m1_1.2.2.2.2.1,m1_1.2.2.2.2.2.1,m1_1.2.2.2.2.2.2.1,m1_1.2.2.2.2.2.2.2.1,m1_1.2.2.2.2.2.2.2.2.1,m1_1.2.2.2.2.2.2.2.2.2.1,m1_1.2.2.2.2.2.2.2.2.2.2.1,m1_1.2.2.2.2.2.2.2.2.2.2.2.1,m1_1.2.2.2.2.2.2.2.2.2.2.2.2.1,m1_1.2.2.2.2.2.2.2.2.2.2.2.2.2.1,(0:Int),([]:List Int),(0:Int),([]:List D122),m1_1.2.2.2.2.2.2.2.2.2.2.2.2.2.2.2.2.2.2)
 let s_17:=(m1_1.1,m1_1.2.1,m1_1.2.2.1,m1_1.2.2.2.1,m1_1.2.2.2.2.1,m1_1.2.2.2.2.2.1,m1_1.2.2.2.2.2.2.1,m1_1.2.2.2.2.2.2.2.1,m1_1.2.2.2.2.2.2.2.2.1,m1_1.2.2.2.2.2.2.2.2.2.1,m1_1.2.2.2.2.2.2.2.2.2.2.1,m1_1.2.2.2.2.2.2.2.2.2.2.2.1,m1_1.2.2.2.2.2.2.2.2.2.2.2.2.1,((0:Int),(0:Int),(0:Int),(0:Int),()),m1_1.2.2.2.2.2.2.2.2.2.2.2.2.2.2.1,m1_1.2.2.2.2.2.2.2.2.2.2.2.2.2.2.2.1,m1_1.2.2.2.2.2.2.2.2.2.2.2.2.2.2.2.2.1,m1_1.2.2.2.2.2.2.2.2.2.2.2.2.2.2.2.2.2.1,([]:List D128),(0:Int),(0:Int),(0:Int),(0:Int),m1_1.2.2.2.2.2.2.2.2.2.2.2.2.2.2.2.2.2.2.2.2.2.2.2)
 let s_22:=(m1_1.1,m1_1.2.1,m1_1.2.2.1,m1_1.2.2.2.1,m1_1.2.2.2.2.1,m1_1.2.2.2.2.2.1,m1_1.2.2.2.2.2.2.1,m1_1.2.2.2.2.2.2.2.1,m1_1.2.2.2.2.2.2.2.2.1,m1_1.2.2.2.2.2.2.2.2.2.1,m1_1.2.2.2.2.2.2.2.2.2.2.1,m1_1.2.2.2.2.2.2.2.2.2.2.2.1,m1_1.2.2.2.2.2.2.2.2.2.2.2.2.1,((0:Int),(0:Int),(0:Int),(0:Int),()),m1_1.2.2.2.2.2.2.2.2.2.2.2.2.2.2.1,m1_1.2.2.2.2.2.2.2.2.2.2.2.2.2.2.2.1,m1_1.2.2.2.2.2.2.2.2.2.2.2.2.2.2.2.2.1,m1_1.2.2.2.2.2.2.2.2.2.2.2.2.2.2.2.2.2.1,m1_1.2.2.2.2.2.2.2.2.2.2.2.2.2.2.2.2.2.2.1,m1_1.2.2.2.2.2.2.2.2.2.2.2.2.2.2.2.2.2.2.2.1,m1_1.2.2.2.2.2.2.2.2.2.2.2.2.2.2.2.2.2.2.2.2.1,m1_1.2.2.2.2.2.2.2.2.2.2.2.2.2.2.2.2.2.2.2.2.2.1,m1_1.2.2.2.2.2.2.2.2.2.2.2.2.2.2.2.2.2.2.2.2.2.2.1,([]:List UInt8),(0:Int),(0:Int),m1_1.2.2.2.2.2.2.2.2.2.2.2.2.2.2.2.2.2.2.2.2.2.2.2.2.2.2)
 let s_25:=(m1_1.1,m1_1.2.1,m1_1.2.2.1,m1_1.2.2.2.1,m1_1.2.2.2.2.1,m1_1.2.2.2.2.2.1,m1_1.2.2.2.2.2.2.1,m1_1.2.2.2.2.2.2.2.1,m1_1.2.2.2.2.2.2.2.2.1,m1_1.2.2.2.2.2.2.2.2.2.1,m1_1.2.2.2.2.2.2.2.2.2.2.1,m1_1.2.2.2.2.2.2.2.2.2.2.2.1,m1_1.2.2.2.2.2.2.2.2.2.2.2.2.1,m1_1.2.2.2.2.2.2.2.2.2.2.2.2.2.1,(0:Int),([]:List Int),m1_1.2.2.2.2.2.2.2.2.2.2.2.2.2.2.2.2.1,([]:List D122),m1_1.2.2.2.2.2.2.2.2.2.2.2.2.2.2.2.2.2.2)
 let s_27:=(m1_1.1,m1_1.2.1,m1_1.2.2.1,m1_1.2.2.2.1,m1_1.2.2.2.2.1,m1_1.2.2.2.2.2.1,m1_1.2.2.2.2.2.2.1,m1_1.2.2.2.2.2.2.2.1,m1_1.2.2.2.2.2.2.2.2.1,m1_1.2.2.2.2.2.2.2.2.2.1,m1_1.2.2.2.2.2.2.2.2.2.2.1,m1_1.2.2.2.2.2.2.2.2.2.2.2.1,m1_1.2.2.2.2.2.2.2.2.2.2.2.2.1,m1_1.2.2.2.2.2.2.2.2.2.2.2.2.2.1,(0:Int),([]:List Int),m1_1.2.2.2.2.2.2.2.2.2.2.2.2.2.2.2.2)
 let v54:=(m1_1.2.1==9)
 let s_28:=(m1_1.1,m1_1.2.1,m1_1.2.2.1,m1_1.2.2.2.1,m1_1.2.2.2.2.1,m1_1.2.2.2.2.2.1,m1_1.2.2.2.2.2.2.1,m1_1.2.2.2.2.2.2.2.1,m1_1.2.2.2.2.2.2.2.2.1,m1_1.2.2.2.2.2.2.2.2.2.1,m1_1.2.2.2.2.2.2.2.2.2.2.1,m1_1.2.2.2.2.2.2.2.2.2.2.2.1,m1_1.2.2.2.2.2.2.2.2.2.2.2.2.1,m1_1.2.2.2.2.2.2.2.2.2.2.2.2.2.1,m1_1.2.2.2.2.2.2.2.2.2.2.2.2.2.2.1,m1_1.2.2.2.2.2.2.2.2.2.2.2.2.2.2.2.1,m1_1.2.2.2.2.2.2.2.2.2.2.2.2.2.2.2.2.1,m1_1.2.2.2.2.2.2.2.2.2.2.2.2.2.2.2.2.2.1,m1_1.2.2.2.2.2.2.2.2.2.2.2.2.2.2.2.2.2.2.1,m1_1.2.2.2.2.2.2.2.2.2.2.2.2.2.2.2.2.2.2.2.1,m1_1.2.2.2.2.2.2.2.2.2.2.2.2.2.2.2.2.2.2.2.2.1,m1_1.2.2.2.2.2.2.2.2.2.2.2.2.2.2.2.2.2.2.2.2.2.1,m1_1.2.2.2.2.2.2.2.2.2.2.2.2.2.2.2.2.2.2.2.2.2.2.1,m1_1.2.2.2.2.2.2.2.2.2.2.2.2.2.2.2.2.2.2.2.2.2.2.2.1,m1_1.2.2.2.2.2.2.2.2.2.2.2.2.2.2.2.2.2.2.2.2.2.2.2.2.1,m1_1.2.2.2.2.2.2.2.2.2.2.2.2.2.2.2.2.2.2.2.2.2.2.2.2.2.1,(0:Int),m1_1.2.2.2.2.2.2.2.2.2.2.2.2.2.2.2.2.2.2.2.2.2.2.2.2.2.2.2.1,())
 let s_30:=(m1_1.1,m1_1.2.1,m1_1.2.2.1,m1_1.2.2.2.1,m1_1.2.2.2.2.1,m1_1.2.2.2.2.2.1,m1_1.2.2.2.2.2.2.1,m1_1.2.2.2.2.2.2.2.1,m1_1.2.2.2.2.2.2.2.2.1,m1_1.2.2.2.2.2.2.2.2.2.1,m1_1.2.2.2.2.2.2.2.2.2.2.1,m1_1.2.2.2.2.2.2.2.2.2.2.2.1,m1_1.2.2.2.2.2.2.2.2.2.2.2.2.1,m1_1.2.2.2.2.2.2.2.2.2.2.2.2.2.1,m1_1.2.2.2.2.2.2.2.2.2.2.2.2.2.2.1,m1_1.2.2.2.2.2.2.2.2.2.2.2.2.2.2.2.1,m1_1.2.2.2.2.2.2.2.2.2.2.2.2.2.2.2.2.1,m1_1.2.2.2.2.2.2.2.2.2.2.2.2.2.2.2.2.2.1,m1_1.2.2.2.2.2.2.2.2.2.2.2.2.2.2.2.2.2.2.1,m1_1.2.2.2.2.2.2.2.2.2.2.2.2.2.2.2.2.2.2.2.1,m1_1.2.2.2.2.2.2.2.2.2.2.2.2.2.2.2.2.2.2.2.2.1,m1_1.2.2.2.2.2.2.2.2.2.2.2.2.2.2.2.2.2.2.2.2.2.1,m1_1.2.2.2.2.2.2.2.2.2.2.2.2.2.2.2.2.2.2.2.2.2.2.1,m1_1.2.2.2.2.2.2.2.2.2.2.2.2.2.2.2.2.2.2.2.2.2.2.2.1,m1_1.2.2.2.2.2.2.2.2.2.2.2.2.2.2.2.2.2.2.2.2.2.2.2.2.1,m1_1.2.2.2.2.2.2.2.2.2.2.2.2.2.2.2.2.2.2.2.2.2.2.2.2.2.1,m1_1.2.2.2.2.2.2.2.2.2.2.2.2.2.2.2.2.2.2.2.2.2.2.2.2.2.2.1,((0:Int),(0:Int),(0:Int),([]:List D125),()),())
 let m1_6:=(bif (m1_1.2.1==6) then s_22 else (bif (m1_1.2.1==7) then s_25 else (bif (m1_1.2.1==8) then s_27 else (bif (bif v54 then v54 else (m1_1.2.1==10)) then s_28 else (bif (m1_1.2.1==11) then s_30 else m1_1)))))
 (((tQ p0.2.1)∧(tQ0 m1.2.1)),(bif (m1_1.2.1==2) then s_4 else (bif (m1_1.2.1==3) then s_6 else (bif (m1_1.2.1==4) then s_10 else (bif (m1_1.2.1==5) then s_17 else m1_6)))))
def sL4 p0:=(f83t p0).1
def f83 p0:=(f83t p0).2
instance (p0:D49):Decidable (sL4 p0):=by
 unfold sL4 f83t
 try dsimp only
 infer_instance
def rG0:Am.Spec:=fnSpec [(0,(.val T49))] (.val T49) [] (fun x=>sL4 x.1) (fun x=>f83 x.1) (fun _=>())
def pX2:Ctx:=Cx tys [(76,tX),(79,tX0)] [] [] false 62 [] []
theorem oJ5:SpecOk Tryz.prog 83 rG0:=fq (c:=pX2) Tryz.func83 ⟨pE7,pE8,trivial⟩
def f52t (p0:D49)(p1:Int)(p2:Int):Prop×Int:=
 let v15:=(f75 p0 p1 p2)
 let v17:=(v15 !=0)
 let v21:=(f76 p0.2.1)
 let v24:=(f77 p0.2.2.2.2.2.2.2.2.2.2.1)
 let v26:=(v24 !=0)
 let v31:=(f78 p0.2.2.2.2.2.2.2.2.2.2.1)
 let v35:=(v31.2.1 !=0)
 let v39:=(f79 p0.2.1)
 let v45:=(bif v39 then (!(f80 p0.2.2.2.2.2.2.2.2.2.2.2.1)) else false)
 let v47:=(f81 p0)
 let v49:=(v47 !=0)
 let v52:=(f83 p0)
 let m6_5:=(bif v17 then v15 else (bif ((v26||((!v26)&&v35))&&v21) then (bif v26 then v24 else v31.2.1) else (bif v45 then (8:Int) else (bif v49 then v47 else (bif (!(f82 v52)) then (1:Int) else (0:Int))))))
 (((sG1 p0 p1 p2)∧((!v17)=true→((tQ p0.2.1)∧((v21=true→((vX6 p0.2.2.2.2.2.2.2.2.2.2.1)∧((!v26)=true→(sG3 p0.2.2.2.2.2.2.2.2.2.2.1))))∧((bif v21 then ((!v26)&&(!v35)) else true)=true→((tQ0 p0.2.1)∧((v39=true→(sG4 p0.2.2.2.2.2.2.2.2.2.2.2.1))∧((!v45)=true→((sL2 p0)∧((!v49)=true→((sL4 p0)∧(sL3 v52)))))))))))),m6_5)
def sL5 p0 p1 p2:=(f52t p0 p1 p2).1
def f52 p0 p1 p2:=(f52t p0 p1 p2).2
instance (p0:D49)(p1:Int)(p2:Int):Decidable (sL5 p0 p1 p2):=by
 unfold sL5 f52t
 try dsimp only
 infer_instance
def rG1:Am.Spec:=fnSpec [(0,(.val T49)),(1,vI),(2,vI)] vI [] (fun x=>sL5 x.1 x.2.1 x.2.2.1) (fun x=>f52 x.1 x.2.1 x.2.2.1) (fun _=>())
def pX3:Ctx:=Cx tys [(75,rC0),(76,tX),(77,uB7),(78,rC2),(79,tX0),(80,rC3),(81,rF9),(82,rG),(83,rG0)] [] [] false 55 [] []
theorem oJ6:SpecOk Tryz.prog 52 rG1:=fq (c:=pX3) Tryz.func52 ⟨oJ,pE7,rC1,oJ0,pE8,oJ1,oJ3,oJ4,oJ5,trivial⟩
abbrev wI1:Type:=((List (Int×Int×Unit))×Int×D28×Unit)
abbrev wD8:Type:=(Int×Unit)
def wQ4 (y:wI1)(x:wD8):Prop×Bool×wD8×Bool×Bool:=
 let a2:=y.2.1
 let a3:=y.2.2.1
 let a7:=x.1
 let v16:=(a7 !=0)
 let v24:=(a7==(nth a3.2.2.2.1 a2 Z49).2.2.1)
 let v29:=(Option.getD (yI5 (.int .i64) (.int .i64) a7 y.1) (0:Int))
 ((v16=true→(InB a2 (len a3.2.2.2.1)∧((!v24)=true→InB v29 (len a3.2.2.2.1)))),(v16&&(!v24)),((nth a3.2.2.2.1 v29 Z49).2.2.1,()),(v16&&v24),(!v16))
def wU1 y x:=(wQ4 y x).1
def wI2 y x:=(wQ4 y x).2.1
def wB2 y x:=(wQ4 y x).2.2.1
def wU2 y x:=(wQ4 y x).2.2.2.1
def sL6 y x:=(wQ4 y x).2.2.2.2
instance (y:wI1)(x:wD8):Decidable (wU1 y x):=by
 unfold wU1 wQ4
 try dsimp only
 infer_instance
def vX9 (y:wI1)(x:wD8):Bool:=
 true
def uT6:List (Nat×Sh):=[(1,(.own (xD0 (.int .i64) (.int .i64)) 400100 true)),(6,vB)]
def uT7:List (Nat×Sh):=[(1,(.own (xD0 (.int .i64) (.int .i64)) 400100 true))]
def vY:St→Option Out:=xP4 [(1,(.own (xD0 (.int .i64) (.int .i64)) 400100 true)),(2,vI),(3,(.box T28 (.val T28)))] [(7,vI)] wI2 wB2 wU1 fun y x=>[ex 1 (some (wU2 y x)) uT6 (y.1,(vX9 y x),()),ex 2 (some (sL6 y x)) uT7 (y.1,())]
def tI0 (p0:D28)(p1:(List (Int×Int×Unit)))(p2:Int):Prop×Bool×((List (Int×Int×Unit))×Unit):=
 let v11:=(p2-1)
 let y2:=(p1,p2,p0,())
 let x2:=((nth p0.2.2.2.1 v11 Z49).1,())
 let e2:=(zC3 (wI2 y2) (wB2 y2) x2)
 let q2_1:=(wU2 y2 e2)
 ((InR (p2-1)∧(InB v11 (len p0.2.2.2.1)∧(Am.Ends (wI2 y2) (wB2 y2) (wU1 y2) x2))),(bif q2_1 then (vX9 y2 e2) else false),((bif q2_1 then p1 else p1),()))
def vR2 p0 p1 p2:=(tI0 p0 p1 p2).1
def tI1 p0 p1 p2:=(tI0 p0 p1 p2).2.1
def vC3 p0 p1 p2:=(tI0 p0 p1 p2).2.2
instance (p0:D28)(p1:(List (Int×Int×Unit)))(p2:Int):Decidable (vR2 p0 p1 p2):=by
 unfold vR2 tI0
 try dsimp only
 infer_instance
def tI2:Am.Spec:=fnSpec [(0,(.val T28)),(1,(.own (xD0 (.int .i64) (.int .i64)) 400100 true)),(2,vI)] vB [(1,(.own (xD0 (.int .i64) (.int .i64)) 400100 true))] (fun x=>vR2 x.1 x.2.1 x.2.2.1) (fun x=>tI1 x.1 x.2.1 x.2.2.1) (fun x=>vC3 x.1 x.2.1 x.2.2.1)
def tT2:Ctx:={ Cx tys [] [(2,vY)] [] false 33 [1] [] with maps:=maps }
theorem tT3:CtxOk Tryz.prog tT2:=cq trivial
noncomputable def sU5:Code:=Tryz.f53.body.getD .skip
noncomputable def sL7:Code:=xX1 sU5 0
theorem sL8:yU8 Tryz.prog tT2 sL7:=lq tT3 (sp:=vY) rfl [uT6,uT7]
theorem rZ9:SpecOk Tryz.prog 53 tI2:=fl tT3 Tryz.func53 (bs:=[sL7]) ⟨sL8,trivial⟩
abbrev vC4:Type:=(D28×(List D49)×Int×Unit)
abbrev wL9:Type:=((List (Int×Int×Unit))×(List Int)×Int×Unit)
def vL1 (y:vC4)(x:wL9):Prop×Bool×wL9×Bool×Bool:=
 let a1:=y.1
 let a18:=y.2.1
 let a3:=x.1
 let a4:=x.2.1
 let a20:=x.2.2.1
 let v21:=(decide (a20<y.2.2.1))
 let v23:=(nth a18 a20 Z49)
 let v32:=((f52 v23 a1.1 a1.2.1)!=0)
 let v43:=(bif (decide (v23.1<1)) then true else (decide (v23.1≥a1.2.2.2.2.1)))
 let v50:=(Option.isSome (yI5 (.int .i64) (.int .i64) v23.1 a3))
 let l1004:=(List.set a4 (Int.toNat a20) (1:Int))
 let v57:=(v23.2.2.1 !=0)
 let v63:=(Option.getD (yI5 (.int .i64) (.int .i64) v23.2.2.1 a3) (0:Int))
 let v66:=(!(Option.isSome (yI5 (.int .i64) (.int .i64) v23.2.2.1 a3)))
 let v75:=(bif v66 then true else ((nth a1.2.2.2.1 v63 Z49).2.1 !=1))
 let v80:=(!(tI1 a1 a3 a20))
 let v86:=(nth l1004 v63 (0:Int))
 let c_3:=(bif v57 then ((!v75)&&(!v80)) else true)
 let m4:=(bif v57 then (List.set l1004 (Int.toNat a20) (v86+1)) else l1004)
 let v93:=(decide ((nth m4 a20 (0:Int))>8))
 let c_14:=((!v32)&&((!v43)&&((!v50)&&(c_3&&(!v93)))))
 ((v21=true→(InB a20 (len a18)∧((sL5 v23 a1.1 a1.2.1)∧(((!v32)=true→((!v43)=true→((!v50)=true→(InB a20 (len a4)∧(a20<len a4∧((v57=true→(((!v66)=true→InB v63 (len a1.2.2.2.1))∧((!v75)=true→((vR2 a1 a3 a20)∧(0<List.length a3∧(List.length a3=List.length a3∧(List.length a3=List.length a3∧(List.length a3=List.length a3∧(List.length a3=List.length a3∧((!v80)=true→(InB v63 (len l1004)∧(v63<len l1004∧(InR (v86+1)∧(InB a20 (len l1004)∧a20<len l1004))))))))))))))∧(c_3=true→(InB a20 (len m4)∧a20<len m4))))))))∧(c_14=true→InR (a20+1)))))),(v21&&c_14),((xL8 (.int .i64) (.int .i64) v23.1 a20 (bif v57 then (vC3 a1 a3 a20).1 else a3)),m4,(a20+1),()),(v21&&(v32||((!v32)&&(v43||((!v43)&&(v50||((!v50)&&(((v75||((!v75)&&v80))&&v57)||(c_3&&v93))))))))),(!v21))
def vH8 y x:=(vL1 y x).1
def wJ4 y x:=(vL1 y x).2.1
def xZ4 y x:=(vL1 y x).2.2.1
def vA2 y x:=(vL1 y x).2.2.2.1
def qA y x:=(vL1 y x).2.2.2.2
instance (y:vC4)(x:wL9):Decidable (vH8 y x):=by
 unfold vH8 vL1
 try dsimp only
 infer_instance
def vL2 (y:vC4)(x:wL9):Int:=
 let a1:=y.1
 let a3:=x.1
 let a20:=x.2.2.1
 let v23:=(nth y.2.1 a20 Z49)
 let v30:=(f52 v23 a1.1 a1.2.1)
 let v75:=(bif (!(Option.isSome (yI5 (.int .i64) (.int .i64) v23.2.2.1 a3))) then true else ((nth a1.2.2.2.1 (Option.getD (yI5 (.int .i64) (.int .i64) v23.2.2.1 a3) (0:Int)) Z49).2.1 !=1))
 let m2_2:=(bif (Option.isSome (yI5 (.int .i64) (.int .i64) v23.1 a3)) then (10:Int) else (bif ((v75||((!v75)&&(!(tI1 a1 a3 a20))))&&(v23.2.2.1 !=0)) then (bif v75 then (9:Int) else (24:Int)) else (12:Int)))
 (bif (v30 !=0) then v30 else (bif (bif (decide (v23.1<1)) then true else (decide (v23.1≥a1.2.2.2.2.1))) then (2:Int) else m2_2))
def tI3:St→Option Out:=xP4 [(1,(.box T28 (.val T28))),(18,(.val (.sl T49))),(19,vI)] [(3,(.own (xD0 (.int .i64) (.int .i64)) 1003 true)),(4,(.own (.int .i64) 1004 true)),(20,vI)] wJ4 xZ4 vH8 fun y x=>[ex 1 (some (vA2 y x)) [(2,vI)] ((vL2 y x),()),ex 2 (some (qA y x)) [] ()]
def f24t (p0:D28):Prop×Int:=
 let v15:=(len p0.2.2.2.1)
 let y4:=(p0,p0.2.2.2.1,(len p0.2.2.2.1),())
 let x4:=(([]:List (Int×Int×Unit)),(List.replicate (Int.toNat v15) (0:Int)),(0:Int),())
 let e4:=(zC3 (wJ4 y4) (xZ4 y4) x4)
 (((0≤v15∧v15≤v15∧v15≤4294967296)∧(Am.Ends (wJ4 y4) (xZ4 y4) (vH8 y4) x4)),(bif (vA2 y4 e4) then (vL2 y4 e4) else (0:Int)))
def sL9 p0:=(f24t p0).1
def f24 p0:=(f24t p0).2
instance (p0:D28):Decidable (sL9 p0):=by
 unfold sL9 f24t
 try dsimp only
 infer_instance
def rG2:Am.Spec:=fnSpec [(0,(.val T28))] vI [] (fun x=>sL9 x.1) (fun x=>f24 x.1) (fun _=>())
def qA0:Ctx:={ Cx tys [(52,rG1),(53,tI2)] [(4,tI3)] [(3,[(4,0,12,1003)]),(5,[(4,0,16,1004)])] false 99 [] [16] with wants:=[(53,[1])],maps:=maps }
theorem qA1:CtxOk Tryz.prog qA0:=cq ⟨oJ6,rZ9,trivial⟩
noncomputable def qT9:Code:=Tryz.f24.body.getD .skip
noncomputable def pF0:Code:=xX1 qT9 0
theorem qA2:yU8 Tryz.prog qA0 pF0:=lq qA1 (sp:=tI3) rfl [[(2,vI)],[]]
theorem oJ7:SpecOk Tryz.prog 24 rG2:=fl qA1 Tryz.func24 (bs:=[pF0]) ⟨qA2,trivial⟩
abbrev vL3:Type:=(D28×D49×(List D49)×Int×Int×Unit)
abbrev vC5:Type:=(Int×Unit)
def tI4 (y:vL3)(x:vC5):Prop×Bool×vC5:=
 let a1:=y.1
 let a5:=x.1
 let v20:=(decide (a5≥0))
 let v30:=((nth a1.2.2.2.1 a5 Z49).2.2.1 !=y.2.1.2.2.1)
 let v39:=(bif v20 then (bif v30 then true else (nth a1.2.2.2.1 a5 Z49).2.2.2.2.2.2.1) else false)
 (((v20=true→InB a5 (len a1.2.2.2.1))∧(((v20&&(!v30))=true→InB a5 (len a1.2.2.2.1))∧(v39=true→InR (a5-1)))),v39,((a5-1),()))
def vH9 y x:=(tI4 y x).1
def wD3 y x:=(tI4 y x).2.1
def xZ5 y x:=(tI4 y x).2.2
instance (y:vL3)(x:vC5):Decidable (vH9 y x):=by
 unfold vH9 tI4
 try dsimp only
 infer_instance
def uA1 (y:vL3)(x:vC5):Int:=
 x.1
def sM:List (Nat×Sh):=[(1,(.box T28 (.val T28))),(5,vI),(7,(.val (.sl T49))),(8,vI),(9,vI)]
def tI5:St→Option Out:=xP4 [(1,(.box T28 (.val T28))),(4,(.box T49 (.val T49))),(7,(.val (.sl T49))),(8,vI),(9,vI)] [(5,vI)] wD3 xZ5 vH9 fun y x=>[ex 4 none sM (y.1,(uA1 y x),y.2.2.1,y.2.2.2.1,y.2.2.2.2.1,())]
abbrev vC6:Type:=(Unit)
abbrev wO7:Type:=(D28×(List D49)×Int×Int×Unit)
def vL4 (y:vC6)(x:wO7):Prop×Bool×wO7×Bool×Bool:=
 let a1:=x.1
 let a7:=x.2.1
 let a8:=x.2.2.1
 let a9:=x.2.2.2.1
 let v10:=(decide (a9<a8))
 let v12:=(nth a7 a9 Z49)
 let v16:=(!v12.2.2.2.2.2.2.1)
 let y6:=(a1,v12,a7,a8,a9,())
 let x6:=((a9-1),())
 let r6_4_0:=(uA1 y6 (zC3 (wD3 y6) (xZ5 y6) x6))
 let v43:=(decide (r6_4_0<0))
 let v47:=(nth a1.2.2.2.1 r6_4_0 Z49)
 let v49:=(f54 v47)
 let c_5:=(v16||((!v16)&&((!v43)&&(!v49))))
 let m9:=(bif v16 then a9 else a9)
 ((v10=true→(InB a9 (len a7)∧(((!v16)=true→(InR (a9-1)∧((Am.Ends (wD3 y6) (xZ5 y6) (vH9 y6) x6)∧((!v43)=true→(InB r6_4_0 (len a1.2.2.2.1)∧(uZ0 v47))))))∧(c_5=true→InR (m9+1))))),(v10&&c_5),((bif v16 then a1 else a1),(bif v16 then a7 else a7),(bif v16 then a8 else a8),(m9+1),()),(v10&&((!v16)&&(v43||((!v43)&&v49)))),(!v10))
def vR3 y x:=(vL4 y x).1
def wO8 y x:=(vL4 y x).2.1
def wB7 y x:=(vL4 y x).2.2.1
def vA3 y x:=(vL4 y x).2.2.2.1
def qA3 y x:=(vL4 y x).2.2.2.2
instance (y:vC6)(x:wO7):Decidable (vR3 y x):=by
 unfold vR3 vL4
 try dsimp only
 infer_instance
def vL5 (y:vC6)(x:wO7):Int:=
 let a7:=x.2.1
 let a9:=x.2.2.2.1
 let y6:=(x.1,(nth a7 a9 Z49),a7,x.2.2.1,a9,())
 (bif (decide ((uA1 y6 (zC3 (wD3 y6) (xZ5 y6) ((a9-1),())))<0)) then (14:Int) else (8:Int))
def tI6:St→Option Out:=xP4 [] [(1,(.box T28 (.val T28))),(7,(.val (.sl T49))),(8,vI),(9,vI)] wO8 wB7 vR3 fun y x=>[ex 1 (some (vA3 y x)) [(2,vI)] ((vL5 y x),()),ex 2 (some (qA3 y x)) [] ()]
def f25t (p0:D28):Prop×Int:=
 let x2:=(p0,p0.2.2.2.1,(len p0.2.2.2.1),(0:Int),())
 let e2:=(zC3 (wO8 ()) (wB7 ()) x2)
 ((Am.Ends (wO8 ()) (wB7 ()) (vR3 ()) x2),(bif (vA3 () e2) then (vL5 () e2) else (0:Int)))
def sM0 p0:=(f25t p0).1
def f25 p0:=(f25t p0).2
instance (p0:D28):Decidable (sM0 p0):=by
 unfold sM0 f25t
 try dsimp only
 infer_instance
def rG3:Am.Spec:=fnSpec [(0,(.val T28))] vI [] (fun x=>sM0 x.1) (fun x=>f25 x.1) (fun _=>())
def sU6:Ctx:=Cx tys [(54,uV4)] [(6,tI5),(2,tI6)] [] false 51 [] []
theorem sU7:CtxOk Tryz.prog sU6:=cq ⟨rV,trivial⟩
noncomputable def qU:Code:=Tryz.f25.body.getD .skip
noncomputable def qA4:Code:=xX1 qU 0
noncomputable def pF1:Code:=xX1 qA4 0
theorem qA5:yU8 Tryz.prog sU6 pF1:=lq sU7 (sp:=tI5) rfl [sM]
theorem qA6:yU8 Tryz.prog sU6 qA4:=xX9 sU7 mixed (sp:=tI6) rfl [[(2,vI)],[]] (bs:=[pF1]) (by kernel_rfl) ⟨qA5,trivial⟩ (by kernel_rfl) (by kernel_rfl) fun y x=>by kernel_rfl
theorem oJ8:SpecOk Tryz.prog 25 rG3:=fl sU7 Tryz.func25 (bs:=[qA4]) ⟨qA6,trivial⟩
abbrev vC7:Type:=((List UInt8)×Int×Unit)
abbrev wR:Type:=(Int×Unit)
def uL9 (y:vC7)(x:wR):Prop×Bool×wR×Bool×Bool:=
 let a0:=y.1
 let a14:=x.1
 let v15:=(decide (a14<y.2.1))
 let v20:=(decide ((xX4 a0 a14)<33))
 let v26:=(bif v20 then true else (decide ((xX4 a0 a14)>126)))
 ((v15=true→(InB a14 (len a0)∧(((!v20)=true→InB a14 (len a0))∧((!v26)=true→InR (a14+1))))),(v15&&(!v26)),((a14+1),()),(v15&&v26),(!v15))
def uH6 y x:=(uL9 y x).1
def sA0 y x:=(uL9 y x).2.1
def uA2 y x:=(uL9 y x).2.2.1
def sM1 y x:=(uL9 y x).2.2.2.1
def qA7 y x:=(uL9 y x).2.2.2.2
instance (y:vC7)(x:wR):Decidable (uH6 y x):=by
 unfold uH6 uL9
 try dsimp only
 infer_instance
def tI7 (y:vC7)(x:wR):Bool:=
 false
def tI8:St→Option Out:=xP4 [(0,vS),(13,vI)] [(14,vI)] sA0 uA2 uH6 fun y x=>[ex 1 (some (sM1 y x)) [(2,vB)] ((tI7 y x),()),ex 2 (some (qA7 y x)) [] ()]
def f55t (p0:List UInt8):Prop×Bool:=
 let v11:=(bif (decide ((len p0)<1)) then true else (decide ((len p0)>32)))
 let y4:=(p0,(len p0),())
 let x4:=((0:Int),())
 let e4:=(zC3 (sA0 y4) (uA2 y4) x4)
 (((!v11)=true→(Am.Ends (sA0 y4) (uA2 y4) (uH6 y4) x4)),(bif v11 then false else (bif (sM1 y4 e4) then (tI7 y4 e4) else true)))
def sM2 p0:=(f55t p0).1
def f55 p0:=(f55t p0).2
instance (p0:List UInt8):Decidable (sM2 p0):=by
 unfold sM2 f55t
 try dsimp only
 infer_instance
def rG4:Am.Spec:=fnSpec [(0,vS)] vB [] (fun x=>sM2 x.1) (fun x=>f55 x.1) (fun _=>())
def qA8:Ctx:=Cx tys [] [(4,tI8)] [] false 28 [] []
theorem qA9:CtxOk Tryz.prog qA8:=cq trivial
noncomputable def qU0:Code:=Tryz.f55.body.getD .skip
noncomputable def pF2:Code:=xX1 qU0 0
theorem qB:yU8 Tryz.prog qA8 pF2:=lq qA9 (sp:=tI8) rfl [[(2,vB)],[]]
theorem oJ9:SpecOk Tryz.prog 55 rG4:=fl qA9 Tryz.func55 (bs:=[pF2]) ⟨qB,trivial⟩
abbrev wW:Type:=(D28×D90×(List D90)×Int×Int×(List D90)×Int×Unit)
abbrev wO9:Type:=(Int×Unit)
def uM (y:wW)(x:wO9):Prop×Bool×wO9×Bool×Bool:=
 let a4:=y.2.1
 let a53:=y.2.2.2.2.2.1
 let a55:=x.1
 let v56:=(decide (a55<y.2.2.2.2.2.2.1))
 let v57:=(nth a53 a55 Z90)
 let v70:=(bif (v57.1==a4.1) then true else (v57.2.1==a4.2.1))
 ((v56=true→(InB a55 (len a53)∧((!v70)=true→InR (a55+1)))),(v56&&(!v70)),((a55+1),()),(v56&&v70),(!v56))
def uH7 y x:=(uM y x).1
def vL6 y x:=(uM y x).2.1
def wQ5 y x:=(uM y x).2.2.1
def vA4 y x:=(uM y x).2.2.2.1
def vI0 y x:=(uM y x).2.2.2.2
instance (y:wW)(x:wO9):Decidable (uH7 y x):=by
 unfold uH7 uM
 try dsimp only
 infer_instance
def tI9 (y:wW)(x:wO9):Int:=
 (10:Int)
def sM3:List (Nat×Sh):=[(1,(.box T28 (.val T28))),(4,(.box T90 (.val T90))),(9,(.val (.sl T90))),(10,vI),(11,vI)]
def tJ:St→Option Out:=xP4 [(1,(.box T28 (.val T28))),(4,(.box T90 (.val T90))),(9,(.val (.sl T90))),(10,vI),(11,vI),(53,(.val (.sl T90))),(54,vI)] [(55,vI)] vL6 wQ5 uH7 fun y x=>[ex 1 (some (vA4 y x)) [(2,vI)] ((tI9 y x),()),ex 4 (some (vI0 y x)) sM3 (y.1,y.2.1,y.2.2.1,y.2.2.2.1,y.2.2.2.2.1,())]
abbrev vC8:Type:=(D28×(List D90)×Int×Unit)
abbrev wR0:Type:=(Int×Unit)
def uM0 (y:vC8)(x:wR0):Prop×Bool×wR0×Bool×Bool:=
 let a1:=y.1
 let a9:=y.2.1
 let a10:=y.2.2.1
 let a11:=x.1
 let v12:=(decide (a11<a10))
 let v14:=(nth a9 a11 Z90)
 let v19:=(!(f55 v14.2.1))
 let v44:=(bif (bif (bif (bif (decide (v14.1<1)) then true else (decide (v14.1≥a1.2.2.2.2.1))) then true else (decide (v14.2.2.1<0))) then true else (decide (v14.2.2.1>2))) then true else (decide (v14.2.2.2.1<1)))
 let v49:=(bif v44 then true else (decide (v14.2.2.2.1>1073741824)))
 let v53:=(List.take (Int.toNat a11) a1.2.2.2.2.2.2.2.1)
 let y9:=(a1,v14,a9,a10,a11,v53,(len v53),())
 let x9:=((0:Int),())
 let e9:=(zC3 (vL6 y9) (wQ5 y9) x9)
 let q9_4:=(vI0 y9 e9)
 let v76:=((f56 v14.2.2.2.2.1)!=0)
 let c_8:=((!v19)&&((!v49)&&(q9_4&&(!v76))))
 ((v12=true→(InB a11 (len a9)∧((sM2 v14.2.1)∧(((!v19)=true→((!v49)=true→((0≤a11∧a11≤len a1.2.2.2.2.2.2.2.1)∧((Am.Ends (vL6 y9) (wQ5 y9) (uH7 y9) x9)∧(q9_4=true→(tQ1 v14.2.2.2.2.1))))))∧(c_8=true→InR (a11+1)))))),(v12&&c_8),((a11+1),()),(v12&&(v19||((!v19)&&(v49||((!v49)&&((vA4 y9 e9)||(q9_4&&v76))))))),(!v12))
def uH8 y x:=(uM0 y x).1
def vC9 y x:=(uM0 y x).2.1
def wM0 y x:=(uM0 y x).2.2.1
def vR4 y x:=(uM0 y x).2.2.2.1
def qB0 y x:=(uM0 y x).2.2.2.2
instance (y:vC8)(x:wR0):Decidable (uH8 y x):=by
 unfold uH8 uM0
 try dsimp only
 infer_instance
def vL7 (y:vC8)(x:wR0):Int:=
 let a1:=y.1
 let a9:=y.2.1
 let a11:=x.1
 let v14:=(nth a9 a11 Z90)
 let v44:=(bif (bif (bif (bif (decide (v14.1<1)) then true else (decide (v14.1≥a1.2.2.2.2.1))) then true else (decide (v14.2.2.1<0))) then true else (decide (v14.2.2.1>2))) then true else (decide (v14.2.2.2.1<1)))
 let v53:=(List.take (Int.toNat a11) a1.2.2.2.2.2.2.2.1)
 let y9:=(a1,v14,a9,y.2.2.1,a11,v53,(len v53),())
 let e9:=(zC3 (vL6 y9) (wQ5 y9) ((0:Int),()))
 let m2_2:=(bif (!(f55 v14.2.1)) then (13:Int) else (bif (bif v44 then true else (decide (v14.2.2.2.1>1073741824))) then (2:Int) else (bif (vA4 y9 e9) then (tI9 y9 e9) else (f56 v14.2.2.2.2.1))))
 m2_2
def tJ0:St→Option Out:=xP4 [(1,(.box T28 (.val T28))),(9,(.val (.sl T90))),(10,vI)] [(11,vI)] vC9 wM0 uH8 fun y x=>[ex 1 (some (vR4 y x)) [(2,vI)] ((vL7 y x),()),ex 2 (some (qB0 y x)) [] ()]
def f26t (p0:D28):Prop×Int:=
 let y2:=(p0,p0.2.2.2.2.2.2.2.1,(len p0.2.2.2.2.2.2.2.1),())
 let x2:=((0:Int),())
 let e2:=(zC3 (vC9 y2) (wM0 y2) x2)
 ((Am.Ends (vC9 y2) (wM0 y2) (uH8 y2) x2),(bif (vR4 y2 e2) then (vL7 y2 e2) else (0:Int)))
def sM4 p0:=(f26t p0).1
def f26 p0:=(f26t p0).2
instance (p0:D28):Decidable (sM4 p0):=by
 unfold sM4 f26t
 try dsimp only
 infer_instance
def rG5:Am.Spec:=fnSpec [(0,(.val T28))] vI [] (fun x=>sM4 x.1) (fun x=>f26 x.1) (fun _=>())
def sU8:Ctx:=Cx tys [(55,rG4),(56,tX2)] [(9,tJ),(2,tJ0)] [] false 79 [] []
theorem sU9:CtxOk Tryz.prog sU8:=cq ⟨oJ9,pF,trivial⟩
noncomputable def qU1:Code:=Tryz.f26.body.getD .skip
noncomputable def qB1:Code:=xX1 qU1 0
noncomputable def pF3:Code:=xX1 qB1 0
theorem qB2:yU8 Tryz.prog sU8 pF3:=lq sU9 (sp:=tJ) rfl [[(2,vI)],sM3]
theorem qB3:yU8 Tryz.prog sU8 qB1:=xX9 sU9 mixed (sp:=tJ0) rfl [[(2,vI)],[]] (bs:=[pF3]) (by kernel_rfl) ⟨qB2,trivial⟩ (by kernel_rfl) (by kernel_rfl) fun y x=>by kernel_rfl
theorem oK:SpecOk Tryz.prog 26 rG5:=fl sU9 Tryz.func26 (bs:=[qB1]) ⟨qB3,trivial⟩
def sV (p0:D49)(p1:Int):Prop×Bool:=
 (True,(p0.1==p1))
def uH9 p0 p1:=(sV p0 p1).1
def pF4 p0 p1:=(sV p0 p1).2
instance (p0:D49)(p1:Int):Decidable (uH9 p0 p1):=by
 unfold uH9 sV
 try dsimp only
 infer_instance
def tJ1:Am.Spec:=fnSpec [(0,(.val T49)),(1,(.val (.ptr (.int .i64))))] vB [] (fun x=>uH9 x.1 x.2.1) (fun x=>pF4 x.1 x.2.1) (fun _=>())
def rR8:Ctx:=Cx tys [] [] [] false 8 [] []
theorem qB4:SpecOk Tryz.prog 22 tJ1:=fq (c:=rR8) Tryz.func22 trivial
abbrev wI3:Type:=((List D49)×(Int×Unit)×Int×Unit)
abbrev wD9:Type:=(Int×Unit)
def wY7 (y:wI3)(x:wD9):Prop×Bool×wD9×Bool×Bool:=
 let a0:=y.1
 let a1:=y.2.1
 let a8:=x.1
 let v9:=(decide (a8<y.2.2.1))
 let v14:=(nth a0 a8 Z49)
 let v16:=(pF4 v14 a1.1)
 ((v9=true→(InB a8 (len a0)∧((uH9 v14 a1.1)∧((!v16)=true→InR (a8+1))))),(v9&&(!v16)),((a8+1),()),(v9&&v16),(!v9))
def wN9 y x:=(wY7 y x).1
def wA5 y x:=(wY7 y x).2.1
def xY7 y x:=(wY7 y x).2.2.1
def wO y x:=(wY7 y x).2.2.2.1
def sM5 y x:=(wY7 y x).2.2.2.2
instance (y:wI3)(x:wD9):Decidable (wN9 y x):=by
 unfold wN9 wY7
 try dsimp only
 infer_instance
def wL5 (y:wI3)(x:wD9):Int:=
 x.1
def vY0:St→Option Out:=xP4 [(0,(.val (.sl T49))),(1,(.fn 22 (.cons (.val (.ptr (.int .i64))) .nl))),(7,vI)] [(8,vI)] wA5 xY7 wN9 fun y x=>[ex 1 (some (wO y x)) [(4,vI)] ((wL5 y x),()),ex 2 (some (sM5 y x)) [] ()]
def sV0 (p0:List D49)(p1:(Int×Unit)):Prop×Int:=
 let y2:=(p0,(p1.1,()),(len p0),())
 let x2:=((0:Int),())
 let e2:=(zC3 (wA5 y2) (xY7 y2) x2)
 ((Am.Ends (wA5 y2) (xY7 y2) (wN9 y2) x2),(bif (wO y2 e2) then (wL5 y2 e2) else (-1:Int)))
def uI p0 p1:=(sV0 p0 p1).1
def pF5 p0 p1:=(sV0 p0 p1).2
instance (p0:List D49)(p1:(Int×Unit)):Decidable (uI p0 p1):=by
 unfold uI sV0
 try dsimp only
 infer_instance
def tJ2:Am.Spec:=fnSpec [(0,(.val (.sl T49))),(1,(.fn 22 (.cons (.val (.ptr (.int .i64))) .nl)))] vI [] (fun x=>uI x.1 x.2.1) (fun x=>pF5 x.1 x.2.1) (fun _=>())
def tT4:Ctx:=Cx tys [(22,tJ1)] [(2,vY0)] [] false 19 [] []
theorem tT5:CtxOk Tryz.prog tT4:=cq ⟨qB4,trivial⟩
noncomputable def sV1:Code:=Tryz.f21.body.getD .skip
noncomputable def sM6:Code:=xX1 sV1 0
theorem sM7:yU8 Tryz.prog tT4 sM6:=lq tT5 (sp:=vY0) rfl [[(4,vI)],[]]
theorem qB5:SpecOk Tryz.prog 21 tJ2:=fl tT5 Tryz.func21 (bs:=[sM6]) ⟨sM7,trivial⟩
def f8t (p0:D28)(p1:Int):Prop×Int:=
 let s:=(p1,())
 ((uI p0.2.2.2.1 s),(pF5 p0.2.2.2.1 s))
def vX5 p0 p1:=(f8t p0 p1).1
def f8 p0 p1:=(f8t p0 p1).2
instance (p0:D28)(p1:Int):Decidable (vX5 p0 p1):=by
 unfold vX5 f8t
 try dsimp only
 infer_instance
def vL8:Am.Spec:=fnSpec [(0,(.val T28)),(1,vI)] vI [] (fun x=>vX5 x.1 x.2.1) (fun x=>f8 x.1 x.2.1) (fun _=>())
def oK0:Ctx:=Cx tys [(21,tJ2)] [] [(2,[(3,3,0,0)])] false 9 [] []
theorem sM8:SpecOk Tryz.prog 8 vL8:=fq (c:=oK0) Tryz.func8 ⟨qB5,trivial⟩
def sV2 (p0:D90)(p1:D49):Prop×Bool:=
 (True,(p0.1==p1.2.2.2.2.2.2.2.2.2.2.2.2.2.2.2.2.2.2.2.2.2.2.2.2.2.2.1))
def uI0 p0 p1:=(sV2 p0 p1).1
def pF6 p0 p1:=(sV2 p0 p1).2
instance (p0:D90)(p1:D49):Decidable (uI0 p0 p1):=by
 unfold uI0 sV2
 try dsimp only
 infer_instance
def tJ3:Am.Spec:=fnSpec [(0,(.val T90)),(1,(.val (.ptr T49)))] vB [] (fun x=>uI0 x.1 x.2.1) (fun x=>pF6 x.1 x.2.1) (fun _=>())
def rR9:Ctx:=Cx tys [] [] [] false 9 [] []
theorem qB6:SpecOk Tryz.prog 58 tJ3:=fq (c:=rR9) Tryz.func58 trivial
abbrev wI4:Type:=((List D90)×(D49×Unit)×Int×Unit)
abbrev wE:Type:=(Int×Unit)
def wY8 (y:wI4)(x:wE):Prop×Bool×wE×Bool×Bool:=
 let a0:=y.1
 let a1:=y.2.1
 let a8:=x.1
 let v9:=(decide (a8<y.2.2.1))
 let v14:=(nth a0 a8 Z90)
 let v16:=(pF6 v14 a1.1)
 ((v9=true→(InB a8 (len a0)∧((uI0 v14 a1.1)∧((!v16)=true→InR (a8+1))))),(v9&&(!v16)),((a8+1),()),(v9&&v16),(!v9))
def vD y x:=(wY8 y x).1
def uA3 y x:=(wY8 y x).2.1
def vD9 y x:=(wY8 y x).2.2.1
def uT8 y x:=(wY8 y x).2.2.2.1
def sM9 y x:=(wY8 y x).2.2.2.2
instance (y:wI4)(x:wE):Decidable (vD y x):=by
 unfold vD wY8
 try dsimp only
 infer_instance
def vY1 (y:wI4)(x:wE):Int:=
 x.1
def vY2:St→Option Out:=xP4 [(0,(.val (.sl T90))),(1,(.fn 58 (.cons (.val (.ptr T49)) .nl))),(7,vI)] [(8,vI)] uA3 vD9 vD fun y x=>[ex 1 (some (uT8 y x)) [(4,vI)] ((vY1 y x),()),ex 2 (some (sM9 y x)) [] ()]
def sV3 (p0:List D90)(p1:(D49×Unit)):Prop×Int:=
 let y2:=(p0,(p1.1,()),(len p0),())
 let x2:=((0:Int),())
 let e2:=(zC3 (uA3 y2) (vD9 y2) x2)
 ((Am.Ends (uA3 y2) (vD9 y2) (vD y2) x2),(bif (uT8 y2 e2) then (vY1 y2 e2) else (-1:Int)))
def vR5 p0 p1:=(sV3 p0 p1).1
def pF7 p0 p1:=(sV3 p0 p1).2
instance (p0:List D90)(p1:(D49×Unit)):Decidable (vR5 p0 p1):=by
 unfold vR5 sV3
 try dsimp only
 infer_instance
def tJ4:Am.Spec:=fnSpec [(0,(.val (.sl T90))),(1,(.fn 58 (.cons (.val (.ptr T49)) .nl)))] vI [] (fun x=>vR5 x.1 x.2.1) (fun x=>pF7 x.1 x.2.1) (fun _=>())
def tT6:Ctx:=Cx tys [(58,tJ3)] [(2,vY2)] [] false 19 [] []
theorem tT7:CtxOk Tryz.prog tT6:=cq ⟨qB6,trivial⟩
noncomputable def sV4:Code:=Tryz.f86.body.getD .skip
noncomputable def sN:Code:=xX1 sV4 0
theorem sN0:yU8 Tryz.prog tT6 sN:=lq tT7 (sp:=vY2) rfl [[(4,vI)],[]]
theorem qB7:SpecOk Tryz.prog 86 tJ4:=fl tT7 Tryz.func86 (bs:=[sN]) ⟨sN0,trivial⟩
def sV5 (p0:List D90)(p1:(D49×Unit)):Prop×Bool:=
 let s:=(p1.1,())
 ((vR5 p0 s),(decide ((pF7 p0 s)≥0)))
def vR6 p0 p1:=(sV5 p0 p1).1
def tT8 p0 p1:=(sV5 p0 p1).2
instance (p0:List D90)(p1:(D49×Unit)):Decidable (vR6 p0 p1):=by
 unfold vR6 sV5
 try dsimp only
 infer_instance
def tJ5:Am.Spec:=fnSpec [(0,(.val (.sl T90))),(1,(.fn 58 (.cons (.val (.ptr T49)) .nl)))] vB [] (fun x=>vR6 x.1 x.2.1) (fun x=>tT8 x.1 x.2.1) (fun _=>())
def rS:Ctx:=Cx tys [(86,tJ4)] [] [] false 9 [] []
theorem qB8:SpecOk Tryz.prog 57 tJ5:=fq (c:=rS) Tryz.func57 ⟨qB7,trivial⟩
abbrev vD0:Type:=(D28×(List D49)×Int×Unit)
abbrev wR1:Type:=(Int×Unit)
def vR7 (y:vD0)(x:wR1):Prop×Bool×wR1×Bool×Bool:=
 let a1:=y.1
 let a7:=y.2.1
 let a9:=x.1
 let v10:=(decide (a9<y.2.2.1))
 let v11:=(nth a7 a9 Z49)
 let v16:=(v11.2.1==9)
 let s:=(v11,())
 let v21:=(!(tT8 a1.2.2.2.2.2.2.2.1 s))
 let v23:=(v11.2.1==10)
 let v27:=(f8 a1 v11.2.2.2.2.2.2.2.2.2.2.2.2.2.2.2.2.2.2.2.2.2.2.2.2.2.2.1)
 let v29:=(decide (v27<0))
 let v33:=(nth a1.2.2.2.1 v27 Z49)
 let v35:=(f54 v33)
 let c_6:=(bif v16 then (!v21) else (bif v23 then ((!v29)&&(!v35)) else true))
 ((v10=true→(InB a9 (len a7)∧((v16=true→(vR6 a1.2.2.2.2.2.2.2.1 s))∧((v16=false→(v23=true→((vX5 a1 v11.2.2.2.2.2.2.2.2.2.2.2.2.2.2.2.2.2.2.2.2.2.2.2.2.2.2.1)∧((!v29)=true→(InB v27 (len a1.2.2.2.1)∧(uZ0 v33))))))∧(c_6=true→InR (a9+1)))))),(v10&&c_6),((a9+1),()),(v10&&(bif v16 then v21 else ((v29||((!v29)&&v35))&&v23))),(!v10))
def uI1 y x:=(vR7 y x).1
def wR2 y x:=(vR7 y x).2.1
def wM1 y x:=(vR7 y x).2.2.1
def vA5 y x:=(vR7 y x).2.2.2.1
def qB9 y x:=(vR7 y x).2.2.2.2
instance (y:vD0)(x:wR1):Decidable (uI1 y x):=by
 unfold uI1 vR7
 try dsimp only
 infer_instance
def vL9 (y:vD0)(x:wR1):Int:=
 let v11:=(nth y.2.1 x.1 Z49)
 (bif (v11.2.1==9) then (9:Int) else (bif (decide ((f8 y.1 v11.2.2.2.2.2.2.2.2.2.2.2.2.2.2.2.2.2.2.2.2.2.2.2.2.2.2.1)<0)) then (9:Int) else (8:Int)))
def tJ6:St→Option Out:=xP4 [(1,(.box T28 (.val T28))),(7,(.val (.sl T49))),(8,vI)] [(9,vI)] wR2 wM1 uI1 fun y x=>[ex 1 (some (vA5 y x)) [(2,vI)] ((vL9 y x),()),ex 2 (some (qB9 y x)) [] ()]
def f27t (p0:D28):Prop×Int:=
 let y2:=(p0,p0.2.2.2.1,(len p0.2.2.2.1),())
 let x2:=((0:Int),())
 let e2:=(zC3 (wR2 y2) (wM1 y2) x2)
 ((Am.Ends (wR2 y2) (wM1 y2) (uI1 y2) x2),(bif (vA5 y2 e2) then (vL9 y2 e2) else (0:Int)))
def sN1 p0:=(f27t p0).1
def f27 p0:=(f27t p0).2
instance (p0:D28):Decidable (sN1 p0):=by
 unfold sN1 f27t
 try dsimp only
 infer_instance
def rG6:Am.Spec:=fnSpec [(0,(.val T28))] vI [] (fun x=>sN1 x.1) (fun x=>f27 x.1) (fun _=>())
def qC:Ctx:=Cx tys [(8,vL8),(54,uV4),(57,tJ5)] [(2,tJ6)] [(12,[(3,4,0,0)])] false 37 [] []
theorem qC0:CtxOk Tryz.prog qC:=cq ⟨sM8,rV,qB8,trivial⟩
noncomputable def qU2:Code:=Tryz.f27.body.getD .skip
noncomputable def pF8:Code:=xX1 qU2 0
theorem qC1:yU8 Tryz.prog qC pF8:=lq qC0 (sp:=tJ6) rfl [[(2,vI)],[]]
theorem oK1:SpecOk Tryz.prog 27 rG6:=fl qC0 Tryz.func27 (bs:=[pF8]) ⟨qC1,trivial⟩
abbrev vW3:Type:=(Int×D28×(List D49)×Int×Unit)
abbrev wR3:Type:=((List Int)×Int×Unit)
def sA1 (y:vW3)(x:wR3):Prop×Bool×wR3:=
 let a1:=y.1
 let a2:=y.2.1
 let a18:=y.2.2.1
 let a5:=x.1
 let a20:=x.2.1
 let v21:=(decide (a20<y.2.2.2.1))
 let v33:=((nth a18 a20 Z49).2.2.1==(nth a2.2.2.2.1 a1 Z49).1)
 let v36:=([a20]:List Int)
 ((v21=true→(InB a20 (len a18)∧(InB a1 (len a2.2.2.2.1)∧((v33=true→((List.length a5+List.length v36:Nat):Int)≤4294967296)∧InR (a20+1))))),v21,((bif v33 then (a5++v36) else a5),(a20+1),()))
def vI1 y x:=(sA1 y x).1
def wP y x:=(sA1 y x).2.1
def wC7 y x:=(sA1 y x).2.2
instance (y:vW3)(x:wR3):Decidable (vI1 y x):=by
 unfold vI1 sA1
 try dsimp only
 infer_instance
def uA4 (y:vW3)(x:wR3):(List Int):=
 x.1
def sN2:List (Nat×Sh):=[(5,(.own (.int .i64) 1005 false))]
def tJ7:St→Option Out:=xP4 [(1,vI),(2,(.box T28 (.val T28))),(18,(.val (.sl T49))),(19,vI)] [(5,(.own (.int .i64) 1005 false)),(20,vI)] wP wC7 vI1 fun y x=>[ex 3 none sN2 ((uA4 y x),())]
def f60t (p0:D28)(p1:Int):Prop×(List Int):=
 let v12:=(nth p0.2.2.2.1 p1 Z49)
 let v16:=(v12.2.1==1)
 let y5:=(p1,p0,p0.2.2.2.1,(len p0.2.2.2.1),())
 let x5:=(([]:List Int),(0:Int),())
 let v40:=(v12.2.1==10)
 let v45:=(nth p0.2.2.2.1 p1 Z49)
 let v48:=(f8 p0 v45.2.2.2.2.2.2.2.2.2.2.2.2.2.2.2.2.2.2.2.2.2.2.2.2.2.2.1)
 let v50:=(decide (v48≥0))
 let v53:=([v48]:List Int)
 ((InB p1 (len p0.2.2.2.1)∧((v16=true→(Am.Ends (wP y5) (wC7 y5) (vI1 y5) x5))∧(v16=false→(v40=true→(InB p1 (len p0.2.2.2.1)∧((vX5 p0 v45.2.2.2.2.2.2.2.2.2.2.2.2.2.2.2.2.2.2.2.2.2.2.2.2.2.2.1)∧(v50=true→(List.length v53:Int)≤4294967296))))))),(bif v16 then (uA4 y5 (zC3 (wP y5) (wC7 y5) x5)) else (bif v40 then (bif v50 then v53 else []) else [])))
def sN3 p0 p1:=(f60t p0 p1).1
def f60 p0 p1:=(f60t p0 p1).2
instance (p0:D28)(p1:Int):Decidable (sN3 p0 p1):=by
 unfold sN3 f60t
 try dsimp only
 infer_instance
def rG7:Am.Spec:=fnSpec [(0,(.val T28)),(1,vI)] (.own (.int .i64) 0 false) [] (fun x=>sN3 x.1 x.2.1) (fun x=>f60 x.1 x.2.1) (fun _=>())
def qC2:Ctx:=Cx tys [(8,vL8)] [(5,tJ7)] [(17,[(4,0,37,1005)]),(27,[(4,0,54,1005)]),(29,[(4,0,1005,0)])] false 56 [] []
theorem qC3:CtxOk Tryz.prog qC2:=cq ⟨sM8,trivial⟩
noncomputable def qU3:Code:=Tryz.f60.body.getD .skip
noncomputable def pF9:Code:=xX1 qU3 0
theorem qC4:yU8 Tryz.prog qC2 pF9:=lq qC3 (sp:=tJ7) rfl [sN2]
theorem oK2:SpecOk Tryz.prog 60 rG7:=fl qC3 Tryz.func60 (bs:=[pF9]) ⟨qC4,trivial⟩
abbrev xZ3:Type:=Int→(List Bool)→(List Bool)→D28→Unit→Prop×Bool×((List Bool)×(List Bool)×D28×Unit)
def vI2 (r:xZ3):Am.Spec:=fnSpec [(0,vI),(1,(.box (.sl .bool) (.own .bool 400100 true))),(2,(.box (.sl .bool) (.own .bool 400200 true))),(3,(.box T28 (.val T28))),(4,(.fptr 59 [some (1,(.sl .bool)),some (2,(.sl .bool)),some (3,T28),none]))] vB [(1,(.box (.sl .bool) (.own .bool 400100 true))),(2,(.box (.sl .bool) (.own .bool 400200 true))),(3,(.box T28 (.val T28)))] (fun x=>(r x.1 x.2.1 x.2.2.1 x.2.2.2.1 x.2.2.2.2.1).1) (fun x=>(r x.1 x.2.1 x.2.2.1 x.2.2.2.1 x.2.2.2.2.1).2.1) (fun x=>(r x.1 x.2.1 x.2.2.1 x.2.2.2.1 x.2.2.2.2.1).2.2)
abbrev xZ7:Type:=(Int×Unit×(List Int)×Int×Unit)
abbrev xY5:Type:=((List Bool)×(List Bool)×D28×Int×Unit)
def wY9 (r:xZ3)(y:xZ7)(x:xY5):Prop×Bool×xY5×Bool×Bool:=
 let a29:=y.2.2.1
 let a1:=x.1
 let a2:=x.2.1
 let a3:=x.2.2.1
 let a31:=x.2.2.2.1
 let v32:=(decide (a31<y.2.2.2.1))
 let v33:=(nth a29 a31 (0:Int))
 let v37:=(r v33 a1 a2 a3 ()).2.1
 let v37o:=(r v33 a1 a2 a3 ()).2.2
 ((v32=true→(InB a31 (len a29)∧((r v33 a1 a2 a3 ()).1∧((!v37)=true→InR (a31+1))))),(v32&&(!v37)),(v37o.1,v37o.2.1,v37o.2.2.1,(a31+1),()),(v32&&v37),(!v32))
def wI5 (r:xZ3)(y:xZ7)(x:xY5):Prop:=((wY9 r) y x).1
def xZ8 (r:xZ3)(y:xZ7)(x:xY5):Bool:=((wY9 r) y x).2.1
def xY8 (r:xZ3)(y:xZ7)(x:xY5):xY5:=((wY9 r) y x).2.2.1
def wC2 (r:xZ3)(y:xZ7)(x:xY5):Bool:=((wY9 r) y x).2.2.2.1
def uT9 (r:xZ3)(y:xZ7)(x:xY5):Bool:=((wY9 r) y x).2.2.2.2
instance (r:xZ3) [∀ q0 q1 q2 q3 q4,Decidable (r q0 q1 q2 q3 q4).1] (y:xZ7)(x:xY5):Decidable ((wI5 r) y x):=by
 unfold wI5 wY9
 try dsimp only
 infer_instance
def vE (r:xZ3)(y:xZ7)(x:xY5):(List Bool):=
 ((r (nth y.2.2.1 x.2.2.2.1 (0:Int)) x.1 x.2.1 x.2.2.1 ()).2.2).1
def vE0 (r:xZ3)(y:xZ7)(x:xY5):(List Bool):=
 ((r (nth y.2.2.1 x.2.2.2.1 (0:Int)) x.1 x.2.1 x.2.2.1 ()).2.2).2.1
def vE1 (r:xZ3)(y:xZ7)(x:xY5):D28:=
 ((r (nth y.2.2.1 x.2.2.2.1 (0:Int)) x.1 x.2.1 x.2.2.1 ()).2.2).2.2.1
def vY3 (r:xZ3)(y:xZ7)(x:xY5):Bool:=
 true
def uU:List (Nat×Sh):=[(1,(.box (.sl .bool) (.own .bool 400100 true))),(2,(.box (.sl .bool) (.own .bool 400200 true))),(3,(.box T28 (.val T28))),(6,vB)]
def vE2 (r:xZ3)(y:xZ7)(x:xY5):(List Bool):=
 x.1
def vE3 (r:xZ3)(y:xZ7)(x:xY5):(List Bool):=
 x.2.1
def vE4 (r:xZ3)(y:xZ7)(x:xY5):D28:=
 x.2.2.1
def uU0:List (Nat×Sh):=[(0,vI),(1,(.box (.sl .bool) (.own .bool 400100 true))),(2,(.box (.sl .bool) (.own .bool 400200 true))),(3,(.box T28 (.val T28)))]
def vY4 (r:xZ3):St→Option Out:=xP4 [(0,vI),(4,(.fptr 59 [some (1,(.sl .bool)),some (2,(.sl .bool)),some (3,T28),none])),(29,(.own (.int .i64) 29 false)),(30,vI)] [(1,(.box (.sl .bool) (.own .bool 400100 true))),(2,(.box (.sl .bool) (.own .bool 400200 true))),(3,(.box T28 (.val T28))),(31,vI)] (xZ8 r) (xY8 r) (wI5 r) fun y x=>[ex 1 (some ((wC2 r) y x)) uU (((vE r) y x),((vE0 r) y x),((vE1 r) y x),((vY3 r) y x),()),ex 2 (some ((uT9 r) y x)) uU0 (y.1,((vE2 r) y x),((vE3 r) y x),((vE4 r) y x),())]
def wE6 (r:xZ3)(p0:Int)(p1:List Bool)(p2:List Bool)(p3:D28)(p4:Unit):Prop×Bool×((List Bool)×(List Bool)×D28×Unit):=
 let v12:=(nth p1 p0 false)
 let v18:=(bif v12 then true else (nth p2 p0 false))
 let v29:=(f60 p3 p0)
 let y5:=(p0,(),v29,(len v29),())
 let x5:=(p1,(List.set p2 (Int.toNat p0) true),p3,(0:Int),())
 let e5:=(zC3 ((xZ8 r) y5) ((xY8 r) y5) x5)
 let q5_1:=((wC2 r) y5 e5)
 let r5_2_0:=((vE2 r) y5 e5)
 ((InB p0 (len p1)∧(p0<len p1∧(((!v12)=true→InB p0 (len p2))∧(((!v12)=true→p0<len p2)∧((v18=true→(InB p0 (len p1)∧p0<len p1))∧((!v18)=true→(InB p0 (len p2)∧(p0<len p2∧((sN3 p3 p0)∧((Am.Ends ((xZ8 r) y5) ((xY8 r) y5) ((wI5 r) y5) x5)∧(((uT9 r) y5 e5)=true→(InB p0 (len r5_2_0)∧p0<len r5_2_0)))))))))))),(bif v18 then (!(nth p1 p0 false)) else (bif q5_1 then ((vY3 r) y5 e5) else false)),((bif v18 then p1 else (bif q5_1 then ((vE r) y5 e5) else (List.set r5_2_0 (Int.toNat p0) true))),(bif v18 then p2 else (bif q5_1 then ((vE0 r) y5 e5) else ((vE3 r) y5 e5))),(bif v18 then p3 else (bif q5_1 then ((vE1 r) y5 e5) else ((vE4 r) y5 e5))),()))
def tT9 (r:xZ3):Ctx:={ Cx tys [(59,vI2 r),(60,rG7)] [(5,(vY4 r))] [] false 42 [1,2,3] [] with wants:=[(59,[])],fts:=fts }
theorem tU (r:xZ3)(hr:SpecOk Tryz.prog 59 (vI2 r)):CtxOk Tryz.prog (tT9 r):=cq ⟨hr,oK2,trivial⟩
noncomputable def sV6:Code:=Tryz.f59.body.getD .skip
noncomputable def sN4:Code:=xX1 sV6 0
theorem sN5 (r:xZ3)(hr:SpecOk Tryz.prog 59 (vI2 r)):yU8 Tryz.prog (tT9 r) sN4:=lq (tU r hr) (sp:=(vY4 r)) rfl [uU,uU0]
instance (r:xZ3) [∀ q0 q1 q2 q3 q4,Decidable (r q0 q1 q2 q3 q4).1] (p0:Int)(p1:List Bool)(p2:List Bool)(p3:D28)(p4:Unit):Decidable (wE6 r p0 p1 p2 p3 p4).1:=by
 unfold wE6
 try dsimp only
 infer_instance
theorem sV7 (r:xZ3)(hr:SpecOk Tryz.prog 59 (vI2 r)):SpecOk Tryz.prog 59 (vI2 (wE6 r)):=xY (tU r hr) mixed Tryz.func59 (by kernel_rfl) (bs:=[sN4]) (by kernel_rfl) ⟨sN5 r hr,trivial⟩ fun x=>by kernel_rfl
def wD4:Nat→xZ3
 |0=>fun _ _ _ _ _=>(False,false,(([]:List Bool),([]:List Bool),Z28,()))
 |k+1=>wE6 (wD4 k)
theorem tU0:∀ k,SpecOk Tryz.prog 59 (vI2 (wD4 k))
 |0=>xT6 Tryz.func59 (by kernel_rfl) (by decide)
 |k+1=>sV7 _ (tU0 k)
def uW8 (p0:Int)(p1:List Bool)(p2:List Bool)(p3:D28)(p4:Unit):Nat:=(List.length p1+1)
def uI2 (p0:Int)(p1:List Bool)(p2:List Bool)(p3:D28)(p4:Unit):Prop:=(wD4 (uW8 p0 p1 p2 p3 p4) p0 p1 p2 p3 p4).1
def tJ8 (p0:Int)(p1:List Bool)(p2:List Bool)(p3:D28)(p4:Unit):Bool:=(wD4 (uW8 p0 p1 p2 p3 p4) p0 p1 p2 p3 p4).2.1
def uI3 (p0:Int)(p1:List Bool)(p2:List Bool)(p3:D28)(p4:Unit):((List Bool)×(List Bool)×D28×Unit):=(wD4 (uW8 p0 p1 p2 p3 p4) p0 p1 p2 p3 p4).2.2
def tU1:∀ (k:Nat) (p0:Int) (p1:List Bool) (p2:List Bool) (p3:D28) (p4:Unit),Decidable (wD4 k p0 p1 p2 p3 p4).1
 |0,_,_,_,_,_=>isFalse id
 |k+1,p0,p1,p2,p3,p4=>by
  have:∀ (q0:Int) (q1:List Bool) (q2:List Bool) (q3:D28) (q4:Unit),Decidable (wD4 k q0 q1 q2 q3 q4).1:=tU1 k
  exact inferInstanceAs (Decidable (wE6 (wD4 k) p0 p1 p2 p3 p4).1)
instance (p0:Int)(p1:List Bool)(p2:List Bool)(p3:D28)(p4:Unit):Decidable (uI2 p0 p1 p2 p3 p4):=tU1 _ p0 p1 p2 p3 p4
def tJ9:Am.Spec:=fnSpec [(0,vI),(1,(.box (.sl .bool) (.own .bool 400100 true))),(2,(.box (.sl .bool) (.own .bool 400200 true))),(3,(.box T28 (.val T28))),(4,(.fptr 59 [some (1,(.sl .bool)),some (2,(.sl .bool)),some (3,T28),none]))] vB [(1,(.box (.sl .bool) (.own .bool 400100 true))),(2,(.box (.sl .bool) (.own .bool 400200 true))),(3,(.box T28 (.val T28)))] (fun x=>uI2 x.1 x.2.1 x.2.2.1 x.2.2.2.1 x.2.2.2.2.1) (fun x=>tJ8 x.1 x.2.1 x.2.2.1 x.2.2.2.1 x.2.2.2.2.1) (fun x=>uI3 x.1 x.2.1 x.2.2.1 x.2.2.2.1 x.2.2.2.2.1)
theorem qC5:SpecOk Tryz.prog 59 tJ9:=xV1 (ps:=[(0,vI),(1,(.box (.sl .bool) (.own .bool 400100 true))),(2,(.box (.sl .bool) (.own .bool 400200 true))),(3,(.box T28 (.val T28))),(4,(.fptr 59 [some (1,(.sl .bool)),some (2,(.sl .bool)),some (3,T28),none]))]) (rs:=vB) (os:=[(1,(.box (.sl .bool) (.own .bool 400100 true))),(2,(.box (.sl .bool) (.own .bool 400200 true))),(3,(.box T28 (.val T28)))]) (R:=fun k x=>wD4 k x.1 x.2.1 x.2.2.1 x.2.2.2.1 x.2.2.2.2.1) tU0 fun x=>uW8 x.1 x.2.1 x.2.2.1 x.2.2.2.1 x.2.2.2.2.1
abbrev vD1:Type:=(Unit×Int×Unit)
abbrev wJ5:Type:=(D28×(List Bool)×(List Bool)×Int×Unit)
def uM1 (y:vD1)(x:wJ5):Prop×Bool×wJ5×Bool×Bool:=
 let a1:=x.1
 let a3:=x.2.1
 let a4:=x.2.2.1
 let a19:=x.2.2.2.1
 let v20:=(decide (a19<y.2.1))
 let v24:=(tJ8 a19 a4 a3 a1 ())
 let v24o:=(uI3 a19 a4 a3 a1 ())
 ((v20=true→((uI2 a19 a4 a3 a1 ())∧((!v24)=true→InR (a19+1)))),(v20&&(!v24)),(v24o.2.2.1,v24o.2.1,v24o.1,(a19+1),()),(v20&&v24),(!v20))
def vR8 y x:=(uM1 y x).1
def vM y x:=(uM1 y x).2.1
def wM2 y x:=(uM1 y x).2.2.1
def uI4 y x:=(uM1 y x).2.2.2.1
def qC6 y x:=(uM1 y x).2.2.2.2
instance (y:vD1)(x:wJ5):Decidable (vR8 y x):=by
 unfold vR8 uM1
 try dsimp only
 infer_instance
def tK (y:vD1)(x:wJ5):Bool:=
 true
def tK0:St→Option Out:=xP4 [(5,(.fptr 59 [some (4,(.sl .bool)),some (3,(.sl .bool)),some (1,T28),none])),(18,vI)] [(1,(.box T28 (.val T28))),(3,(.box (.sl .bool) (.own .bool 400300 true))),(4,(.box (.sl .bool) (.own .bool 400400 true))),(19,vI)] vM wM2 vR8 fun y x=>[ex 1 (some (uI4 y x)) [(2,vB)] ((tK y x),()),ex 2 (some (qC6 y x)) [] ()]
def f28t (p0:D28):Prop×Bool:=
 let v9:=(len p0.2.2.2.1)
 let v13:=(len p0.2.2.2.1)
 let y6:=((),(len p0.2.2.2.1),())
 let x6:=(p0,(List.replicate (Int.toNat v9) false),(List.replicate (Int.toNat v13) false),(0:Int),())
 let e6:=(zC3 (vM y6) (wM2 y6) x6)
 (((0≤v9∧v9≤v9∧v9≤4294967296)∧((0≤v13∧v13≤v13∧v13≤4294967296)∧(Am.Ends (vM y6) (wM2 y6) (vR8 y6) x6))),(bif (uI4 y6 e6) then (tK y6 e6) else false))
def sN6 p0:=(f28t p0).1
def f28 p0:=(f28t p0).2
instance (p0:D28):Decidable (sN6 p0):=by
 unfold sN6 f28t
 try dsimp only
 infer_instance
def rG8:Am.Spec:=fnSpec [(0,(.val T28))] vB [] (fun x=>sN6 x.1) (fun x=>f28 x.1) (fun _=>())
def qC7:Ctx:={ Cx tys [(59,tJ9)] [(6,tK0)] [(3,[(4,0,10,400300)]),(5,[(4,0,14,400400)])] false 26 [] [10,14] with wants:=[(59,[])],fts:=fts }
theorem qC8:CtxOk Tryz.prog qC7:=cq ⟨qC5,trivial⟩
noncomputable def qU4:Code:=Tryz.f28.body.getD .skip
noncomputable def pG:Code:=xX1 qU4 0
theorem qC9:yU8 Tryz.prog qC7 pG:=lq qC8 (sp:=tK0) rfl [[(2,vB)],[]]
theorem oK3:SpecOk Tryz.prog 28 rG8:=fl qC8 Tryz.func28 (bs:=[pG]) ⟨qC9,trivial⟩
abbrev wU3:Type:=((List UInt8)×Int×Int×Unit)
abbrev wL6:Type:=(Int×Unit)
def vW4 (y:wU3)(x:wL6):Prop×Bool×wL6×Bool×Bool:=
 let a0:=y.1
 let a19:=x.1
 let v20:=(decide (a19<y.2.2.1))
 let v26:=(decide ((xX4 a0 a19)<y.2.1))
 let v32:=(bif v26 then true else (decide ((xX4 a0 a19)>126)))
 ((v20=true→(InB a19 (len a0)∧(((!v26)=true→InB a19 (len a0))∧((!v32)=true→InR (a19+1))))),(v20&&(!v32)),((a19+1),()),(v20&&v32),(!v20))
def vW5 y x:=(vW4 y x).1
def tK1 y x:=(vW4 y x).2.1
def vR9 y x:=(vW4 y x).2.2.1
def tU2 y x:=(vW4 y x).2.2.2.1
def rS0 y x:=(vW4 y x).2.2.2.2
instance (y:wU3)(x:wL6):Decidable (vW5 y x):=by
 unfold vW5 vW4
 try dsimp only
 infer_instance
def uU1 (y:wU3)(x:wL6):Bool:=
 false
def uU2:St→Option Out:=xP4 [(0,vS),(2,(.val (.int .u8))),(18,vI)] [(19,vI)] tK1 vR9 vW5 fun y x=>[ex 1 (some (tU2 y x)) [(6,vB)] ((uU1 y x),()),ex 2 (some (rS0 y x)) [] ()]
def pX4 (p0:List UInt8)(p1:Int)(p2:Int):Prop×Bool:=
 let v16:=(bif (decide ((len p0)<1)) then true else (decide ((len p0)>p1)))
 let y4:=(p0,p2,(len p0),())
 let x4:=((0:Int),())
 let e4:=(zC3 (tK1 y4) (vR9 y4) x4)
 (((!v16)=true→(Am.Ends (tK1 y4) (vR9 y4) (vW5 y4) x4)),(bif v16 then false else (bif (tU2 y4 e4) then (uU1 y4 e4) else true)))
def uM2 p0 p1 p2:=(pX4 p0 p1 p2).1
def f118 p0 p1 p2:=(pX4 p0 p1 p2).2
instance (p0:List UInt8)(p1:Int)(p2:Int):Decidable (uM2 p0 p1 p2):=by
 unfold uM2 pX4
 try dsimp only
 infer_instance
def tK2:Am.Spec:=fnSpec [(0,vS),(1,vI),(2,(.val (.int .u8)))] vB [] (fun x=>uM2 x.1 x.2.1 x.2.2.1) (fun x=>f118 x.1 x.2.1 x.2.2.1) (fun _=>())
def rG9:Ctx:=Cx tys [] [(4,uU2)] [] false 34 [] []
theorem rH:CtxOk Tryz.prog rG9:=cq trivial
noncomputable def qD:Code:=Tryz.f118.body.getD .skip
noncomputable def qD0:Code:=xX1 qD 0
theorem rS1:yU8 Tryz.prog rG9 qD0:=lq rH (sp:=uU2) rfl [[(6,vB)],[]]
theorem qD1:SpecOk Tryz.prog 118 tK2:=fl rH Tryz.func118 (bs:=[qD0]) ⟨rS1,trivial⟩
def f87t (p0:List UInt8):Prop×Bool:=
 ((uM2 p0 (32:Int) (33:Int)),(f118 p0 (32:Int) (33:Int)))
def rH0 p0:=(f87t p0).1
def f87 p0:=(f87t p0).2
instance (p0:List UInt8):Decidable (rH0 p0):=by
 unfold rH0 f87t
 try dsimp only
 infer_instance
def rH1:Am.Spec:=fnSpec [(0,vS)] vB [] (fun x=>rH0 x.1) (fun x=>f87 x.1) (fun _=>())
def pX5:Ctx:=Cx tys [(118,tK2)] [] [] false 5 [] []
theorem oK4:SpecOk Tryz.prog 87 rH1:=fq (c:=pX5) Tryz.func87 ⟨qD1,trivial⟩
def f88t (p0:List UInt8):Prop×Bool:=
 ((uM2 p0 (256:Int) (32:Int)),(f118 p0 (256:Int) (32:Int)))
def rH2 p0:=(f88t p0).1
def f88 p0:=(f88t p0).2
instance (p0:List UInt8):Decidable (rH2 p0):=by
 unfold rH2 f88t
 try dsimp only
 infer_instance
def rH3:Am.Spec:=fnSpec [(0,vS)] vB [] (fun x=>rH2 x.1) (fun x=>f88 x.1) (fun _=>())
def pX6:Ctx:=Cx tys [(118,tK2)] [] [] false 5 [] []
theorem oK5:SpecOk Tryz.prog 88 rH3:=fq (c:=pX6) Tryz.func88 ⟨qD1,trivial⟩
def f62t (p0:List D87)(p1:D87):Prop×Int:=
 let v8:=(!(f87 p1.1))
 let v12:=(!(f88 p1.2.1))
 let v15:=(decide ((len p0)>0))
 let v21:=(len p0)
 let v22:=(v21-1)
 let v23:=(nth p0 v22 Z87)
 (((rH0 p1.1)∧((!v8)=true→((rH2 p1.2.1)∧((!v12)=true→((v15=true→InR (v21-1))∧(v15=true→InB v22 (len p0))))))),(bif v8 then (13:Int) else (bif v12 then (4:Int) else (bif (bif v15 then (Op.bytesLess p1.1 v23.1||p1.1==v23.1) else false) then (24:Int) else (0:Int)))))
def sN7 p0 p1:=(f62t p0 p1).1
def f62 p0 p1:=(f62t p0 p1).2
instance (p0:List D87)(p1:D87):Decidable (sN7 p0 p1):=by
 unfold sN7 f62t
 try dsimp only
 infer_instance
def rH4:Am.Spec:=fnSpec [(0,(.val (.sl T87))),(1,(.val T87))] vI [] (fun x=>sN7 x.1 x.2.1) (fun x=>f62 x.1 x.2.1) (fun _=>())
def pX7:Ctx:=Cx tys [(87,rH1),(88,rH3)] [] [] false 28 [] []
theorem oK6:SpecOk Tryz.prog 62 rH4:=fq (c:=pX7) Tryz.func62 ⟨oK4,oK5,trivial⟩
abbrev vD2:Type:=((List D87)×(List D87)×Int×Unit)
abbrev wR4:Type:=(Int×Unit)
def uM3 (y:vD2)(x:wR4):Prop×Bool×wR4×Bool×Bool:=
 let a0:=y.1
 let a9:=y.2.1
 let a11:=x.1
 let v12:=(decide (a11<y.2.2.1))
 let v14:=(nth a9 a11 Z87)
 let v18:=(List.take (Int.toNat a11) a0)
 let v22:=((f62 v18 v14)!=0)
 ((v12=true→(InB a11 (len a9)∧((0≤a11∧a11≤len a0)∧((sN7 v18 v14)∧((!v22)=true→InR (a11+1)))))),(v12&&(!v22)),((a11+1),()),(v12&&v22),(!v12))
def uI5 y x:=(uM3 y x).1
def sA2 y x:=(uM3 y x).2.1
def uA5 y x:=(uM3 y x).2.2.1
def sN8 y x:=(uM3 y x).2.2.2.1
def qD2 y x:=(uM3 y x).2.2.2.2
instance (y:vD2)(x:wR4):Decidable (uI5 y x):=by
 unfold uI5 uM3
 try dsimp only
 infer_instance
def tK3 (y:vD2)(x:wR4):Int:=
 let a11:=x.1
 (f62 (List.take (Int.toNat a11) y.1) (nth y.2.1 a11 Z87))
def tK4:St→Option Out:=xP4 [(0,(.val (.sl T87))),(9,(.val (.sl T87))),(10,vI)] [(11,vI)] sA2 uA5 uI5 fun y x=>[ex 1 (some (sN8 y x)) [(2,vI)] ((tK3 y x),()),ex 2 (some (qD2 y x)) [] ()]
def f30t (p0:List D87):Prop×Int:=
 let v8:=(decide ((len p0)>16))
 let y4:=(p0,p0,(len p0),())
 let x4:=((0:Int),())
 let e4:=(zC3 (sA2 y4) (uA5 y4) x4)
 (((!v8)=true→(Am.Ends (sA2 y4) (uA5 y4) (uI5 y4) x4)),(bif v8 then (3:Int) else (bif (sN8 y4 e4) then (tK3 y4 e4) else (0:Int))))
def sN9 p0:=(f30t p0).1
def f30 p0:=(f30t p0).2
instance (p0:List D87):Decidable (sN9 p0):=by
 unfold sN9 f30t
 try dsimp only
 infer_instance
def rH5:Am.Spec:=fnSpec [(0,(.val (.sl T87)))] vI [] (fun x=>sN9 x.1) (fun x=>f30 x.1) (fun _=>())
def qD3:Ctx:=Cx tys [(62,rH4)] [(4,tK4)] [] false 25 [] []
theorem qD4:CtxOk Tryz.prog qD3:=cq ⟨oK6,trivial⟩
noncomputable def qU5:Code:=Tryz.f30.body.getD .skip
noncomputable def pG0:Code:=xX1 qU5 0
theorem qD5:yU8 Tryz.prog qD3 pG0:=lq qD4 (sp:=tK4) rfl [[(2,vI)],[]]
theorem oK7:SpecOk Tryz.prog 30 rH5:=fl qD4 Tryz.func30 (bs:=[pG0]) ⟨qD5,trivial⟩
def f9t (p0:D28):Prop×Int:=
 let v10:=(f23 p0)
 let v12:=(v10 !=0)
 let v23:=(bif (decide ((len p0.2.2.2.1)>64)) then true else (decide ((len p0.2.2.2.2.2.2.2.1)>8)))
 let v31:=(bif (decide (p0.2.2.2.2.1<1)) then true else (decide (p0.2.2.2.2.1>1073741824)))
 let v33:=(f24 p0)
 let v35:=(v33 !=0)
 let v38:=(f25 p0)
 let v40:=(v38 !=0)
 let v43:=(f26 p0)
 let v45:=(v43 !=0)
 let v48:=(f27 p0)
 let v50:=(v48 !=0)
 let v53:=(f28 p0)
 let v56:=(f29 p0.2.2.2.2.2.1)
 let v58:=(v56 !=0)
 let v79:=(bif (p0.2.2.2.2.2.1.1 !=0) then (bif (p0.2.2.2.2.2.1.1 !=p0.1) then true else (p0.2.2.2.2.2.1.2.1 !=p0.2.1)) else false)
 let m2_6:=(bif v35 then v33 else (bif v40 then v38 else (bif v45 then v43 else (bif v50 then v48 else (bif v53 then (11:Int) else (bif v58 then v56 else (bif v79 then (15:Int) else (f30 p0.2.2.2.2.2.2.1))))))))
 (((uY8 p0)∧((!v12)=true→((!v23)=true→((!v31)=true→((sL9 p0)∧((!v35)=true→((sM0 p0)∧((!v40)=true→((sM4 p0)∧((!v45)=true→((sN1 p0)∧((!v50)=true→((sN6 p0)∧((!v53)=true→((tP8 p0.2.2.2.2.2.1)∧((!v58)=true→((!v79)=true→(sN9 p0.2.2.2.2.2.2.1)))))))))))))))))),(bif v12 then v10 else (bif v23 then (3:Int) else (bif v31 then (2:Int) else m2_6))))
def vM0 p0:=(f9t p0).1
def f9 p0:=(f9t p0).2
instance (p0:D28):Decidable (vM0 p0):=by
 unfold vM0 f9t
 try dsimp only
 infer_instance
def vM1:Am.Spec:=fnSpec [(0,(.val T28))] vI [] (fun x=>vM0 x.1) (fun x=>f9 x.1) (fun _=>())
def oK8:Ctx:=Cx tys [(23,tW7),(24,rG2),(25,rG3),(26,rG5),(27,rG6),(28,rG8),(29,tW9),(30,rH5)] [] [] false 83 [] []
theorem sO:SpecOk Tryz.prog 9 vM1:=fq (c:=oK8) Tryz.func9 ⟨pE4,oJ7,oJ8,oK,oK1,oK3,pE6,oK7,trivial⟩
abbrev vD3:Type:=((List Int)×(List Int)×Int×Unit)
abbrev wR5:Type:=(Int×Unit)
def uM4 (y:vD3)(x:wR5):Prop×Bool×wR5×Bool×Bool:=
 let a0:=y.1
 let a1:=y.2.1
 let a13:=x.1
 let v14:=(decide (a13<y.2.2.1))
 let v24:=((nth a0 a13 (0:Int))!=(nth a1 a13 (0:Int)))
 ((v14=true→(InB a13 (len a0)∧(InB a13 (len a1)∧((!v24)=true→InR (a13+1))))),(v14&&(!v24)),((a13+1),()),(v14&&v24),(!v14))
def uI6 y x:=(uM4 y x).1
def sA3 y x:=(uM4 y x).2.1
def uA6 y x:=(uM4 y x).2.2.1
def sO0 y x:=(uM4 y x).2.2.2.1
def qD6 y x:=(uM4 y x).2.2.2.2
instance (y:vD3)(x:wR5):Decidable (uI6 y x):=by
 unfold uI6 uM4
 try dsimp only
 infer_instance
def tK5 (y:vD3)(x:wR5):Bool:=
 false
def tK6:St→Option Out:=xP4 [(0,(.val (.sl (.int .i64)))),(1,(.val (.sl (.int .i64)))),(12,vI)] [(13,vI)] sA3 uA6 uI6 fun y x=>[ex 1 (some (sO0 y x)) [(4,vB)] ((tK5 y x),()),ex 2 (some (qD6 y x)) [] ()]
def f12t (p0:List Int)(p1:List Int):Prop×Bool:=
 let v10:=((len p0)!=(len p1))
 let y4:=(p0,p1,(len p0),())
 let x4:=((0:Int),())
 let e4:=(zC3 (sA3 y4) (uA6 y4) x4)
 (((!v10)=true→(Am.Ends (sA3 y4) (uA6 y4) (uI6 y4) x4)),(bif v10 then false else (bif (sO0 y4 e4) then (tK5 y4 e4) else true)))
def tK7 p0 p1:=(f12t p0 p1).1
def f12 p0 p1:=(f12t p0 p1).2
instance (p0:List Int)(p1:List Int):Decidable (tK7 p0 p1):=by
 unfold tK7 f12t
 try dsimp only
 infer_instance
def rH6:Am.Spec:=fnSpec [(0,(.val (.sl (.int .i64)))),(1,(.val (.sl (.int .i64))))] vB [] (fun x=>tK7 x.1 x.2.1) (fun x=>f12 x.1 x.2.1) (fun _=>())
def qD7:Ctx:=Cx tys [] [(4,tK6)] [] false 26 [] []
theorem qD8:CtxOk Tryz.prog qD7:=cq trivial
noncomputable def qU6:Code:=Tryz.f12.body.getD .skip
noncomputable def pG1:Code:=xX1 qU6 0
theorem qD9:yU8 Tryz.prog qD7 pG1:=lq qD8 (sp:=tK6) rfl [[(4,vB)],[]]
theorem oK9:SpecOk Tryz.prog 12 rH6:=fl qD8 Tryz.func12 (bs:=[pG1]) ⟨qD9,trivial⟩
abbrev vW6:Type:=((List D49)×Int×Unit)
abbrev vD4:Type:=((List Int)×Int×Unit)
def sA4 (y:vW6)(x:vD4):Prop×Bool×vD4:=
 let a7:=y.1
 let a3:=x.1
 let a9:=x.2.1
 let v10:=(decide (a9<y.2.1))
 let v16:=([(nth a7 a9 Z49).1]:List Int)
 ((v10=true→(InB a9 (len a7)∧(((List.length a3+List.length v16:Nat):Int)≤4294967296∧InR (a9+1)))),v10,((a3++v16),(a9+1),()))
def uI7 y x:=(sA4 y x).1
def sA5 y x:=(sA4 y x).2.1
def uA7 y x:=(sA4 y x).2.2
instance (y:vW6)(x:vD4):Decidable (uI7 y x):=by
 unfold uI7 sA4
 try dsimp only
 infer_instance
def tK8 (y:vW6)(x:vD4):(List Int):=
 x.1
def sO1:List (Nat×Sh):=[(3,(.own (.int .i64) 1003 false))]
def tK9:St→Option Out:=xP4 [(7,(.val (.sl T49))),(8,vI)] [(3,(.own (.int .i64) 1003 false)),(9,vI)] sA5 uA7 uI7 fun y x=>[ex 2 none sO1 ((tK8 y x),())]
def f13t (p0:D28):Prop×(List Int):=
 let y3:=(p0.2.2.2.1,(len p0.2.2.2.1),())
 let x3:=(([]:List Int),(0:Int),())
 ((Am.Ends (sA5 y3) (uA7 y3) (uI7 y3) x3),(tK8 y3 (zC3 (sA5 y3) (uA7 y3) x3)))
def tU3 p0:=(f13t p0).1
def f13 p0:=(f13t p0).2
instance (p0:D28):Decidable (tU3 p0):=by
 unfold tU3 f13t
 try dsimp only
 infer_instance
def rH7:Am.Spec:=fnSpec [(0,(.val T28))] (.own (.int .i64) 0 false) [] (fun x=>tU3 x.1) (fun x=>f13 x.1) (fun _=>())
def qE:Ctx:=Cx tys [] [(3,tK9)] [(11,[(4,0,17,1003)]),(15,[(4,0,1003,0)])] false 20 [] []
theorem qE0:CtxOk Tryz.prog qE:=cq trivial
noncomputable def qU7:Code:=Tryz.f13.body.getD .skip
noncomputable def pG2:Code:=xX1 qU7 0
theorem qE1:yU8 Tryz.prog qE pG2:=lq qE0 (sp:=tK9) rfl [sO1]
theorem oL:SpecOk Tryz.prog 13 rH7:=fl qE0 Tryz.func13 (bs:=[pG2]) ⟨qE1,trivial⟩
abbrev vW7:Type:=(Int×(List D49)×Int×Unit)
abbrev wW0:Type:=((List Int)×Int×Unit)
def sA6 (y:vW7)(x:wW0):Prop×Bool×wW0:=
 let a9:=y.2.1
 let a5:=x.1
 let a11:=x.2.1
 let v12:=(decide (a11<y.2.2.1))
 let v13:=(nth a9 a11 Z49)
 let v18:=(v13.2.2.1==y.1)
 let v22:=([v13.1]:List Int)
 ((v12=true→(InB a11 (len a9)∧((v18=true→((List.length a5+List.length v22:Nat):Int)≤4294967296)∧InR (a11+1)))),v12,((bif v18 then (a5++v22) else a5),(a11+1),()))
def vS0 y x:=(sA6 y x).1
def vW8 y x:=(sA6 y x).2.1
def wM3 y x:=(sA6 y x).2.2
instance (y:vW7)(x:wW0):Decidable (vS0 y x):=by
 unfold vS0 sA6
 try dsimp only
 infer_instance
def tL (y:vW7)(x:wW0):(List Int):=
 x.1
def sO2:List (Nat×Sh):=[(5,(.own (.int .i64) 1005 false))]
def tL0:St→Option Out:=xP4 [(1,vI),(9,(.val (.sl T49))),(10,vI)] [(5,(.own (.int .i64) 1005 false)),(11,vI)] vW8 wM3 vS0 fun y x=>[ex 2 none sO2 ((tL y x),())]
def f20t (p0:D28)(p1:Int):Prop×(List Int):=
 let y3:=(p1,p0.2.2.2.1,(len p0.2.2.2.1),())
 let x3:=(([]:List Int),(0:Int),())
 ((Am.Ends (vW8 y3) (wM3 y3) (vS0 y3) x3),(tL y3 (zC3 (vW8 y3) (wM3 y3) x3)))
def uU3 p0 p1:=(f20t p0 p1).1
def f20 p0 p1:=(f20t p0 p1).2
instance (p0:D28)(p1:Int):Decidable (uU3 p0 p1):=by
 unfold uU3 f20t
 try dsimp only
 infer_instance
def uI8:Am.Spec:=fnSpec [(0,(.val T28)),(1,vI)] (.own (.int .i64) 0 false) [] (fun x=>uU3 x.1 x.2.1) (fun x=>f20 x.1 x.2.1) (fun _=>())
def qE2:Ctx:=Cx tys [] [(3,tL0)] [(13,[(4,0,23,1005)]),(17,[(4,0,1005,0)])] false 26 [] []
theorem qE3:CtxOk Tryz.prog qE2:=cq trivial
noncomputable def qU8:Code:=Tryz.f20.body.getD .skip
noncomputable def pG3:Code:=xX1 qU8 0
theorem qE4:yU8 Tryz.prog qE2 pG3:=lq qE3 (sp:=tL0) rfl [sO2]
theorem rH8:SpecOk Tryz.prog 20 uI8:=fl qE3 Tryz.func20 (bs:=[pG3]) ⟨qE4,trivial⟩
def f33t (p0:D28)(p1:Int):Prop×Int:=
 let v7:=(p1==0)
 let v10:=(f8 p0 p1)
 let v12:=(decide (v10<0))
 (((!v7)=true→((vX5 p0 p1)∧((!v12)=true→InB v10 (len p0.2.2.2.1)))),(bif v7 then (0:Int) else (bif v12 then (9:Int) else (bif ((nth p0.2.2.2.1 v10 Z49).2.1 !=1) then (8:Int) else (0:Int)))))
def tU4 p0 p1:=(f33t p0 p1).1
def f33 p0 p1:=(f33t p0 p1).2
instance (p0:D28)(p1:Int):Decidable (tU4 p0 p1):=by
 unfold tU4 f33t
 try dsimp only
 infer_instance
def sA7:Am.Spec:=fnSpec [(0,(.val T28)),(1,vI)] vI [] (fun x=>tU4 x.1 x.2.1) (fun x=>f33 x.1 x.2.1) (fun _=>())
def pX8:Ctx:=Cx tys [(8,vL8)] [] [] false 20 [] []
theorem pG4:SpecOk Tryz.prog 33 sA7:=fq (c:=pX8) Tryz.func33 ⟨sM8,trivial⟩
def pX9 (p0:Unit):Prop×(List Int):=
 (((!true)=true→((List.length ([]:List Int)+List.length ([]:List Int):Nat):Int)≤4294967296),(bif true then [] else (([]:List Int)++([]:List Int))))
def sV8 p0:=(pX9 p0).1
def f63a p0:=(pX9 p0).2
instance (p0:Unit):Decidable (sV8 p0):=by
 unfold sV8 pX9
 try dsimp only
 infer_instance
def qE5:Am.Spec:=fnSpec [(0,(.nn true))] (.own (.int .i64) 0 false) [] (fun x=>sV8 x.1) (fun x=>f63a x.1) (fun _=>())
def qU9:Ctx:=Cx tys [] [] [(7,[(4,0,7,0)])] false 8 [] []
theorem pY:SpecOk Tryz.prog 63 qE5:=fq (c:=qU9) Tryz.func63 trivial
def pY0 (p0:Unit):Prop×(List Int):=
 (((!false)=true→((List.length ([]:List Int)+List.length ([]:List Int):Nat):Int)≤4294967296),(bif false then [] else (([]:List Int)++([]:List Int))))
def sV9 p0:=(pY0 p0).1
def f63b p0:=(pY0 p0).2
instance (p0:Unit):Decidable (sV9 p0):=by
 unfold sV9 pY0
 try dsimp only
 infer_instance
def qE6:Am.Spec:=fnSpec [(0,(.nn false))] (.own (.int .i64) 0 false) [] (fun x=>sV9 x.1) (fun x=>f63b x.1) (fun _=>())
def qV:Ctx:=Cx tys [] [] [(7,[(4,0,7,0)])] false 8 [] []
theorem pY1:SpecOk Tryz.prog 63 qE6:=fq (c:=qV) Tryz.func63 trivial
def pY2 (p0:List Int):Prop×(List Int):=
 ((0<List.length p0∧((!false)=true→((List.length ([]:List Int)+List.length p0:Nat):Int)≤4294967296)),(bif false then [] else (([]:List Int)++p0)))
def sW p0:=(pY2 p0).1
def f63c p0:=(pY2 p0).2
instance (p0:List Int):Decidable (sW p0):=by
 unfold sW pY2
 try dsimp only
 infer_instance
def qE7:Am.Spec:=fnSpec [(0,(.val (.sl (.int .i64))))] (.own (.int .i64) 0 false) [] (fun x=>sW x.1) (fun x=>f63c x.1) (fun _=>())
def qV0:Ctx:=Cx tys [] [] [(7,[(4,0,7,0)])] false 8 [] []
theorem pY3:SpecOk Tryz.prog 63 qE7:=fq (c:=qV0) Tryz.func63 trivial
def f63 (p0:List Int):List Int:=p0
def uU4 (p0:List Int):Prop:=(List.length p0:Int)≤4294967296
instance (p0:List Int):Decidable (uU4 p0):=by
  unfold uU4
  infer_instance
def oL0:List (Nat×Sh):=[(0,(.val (.sl (.int .i64))))]
def pG5:Sh:=(.own (.int .i64) 0 false)
def oL1:List (Nat×Sh):=[]
def sA8:Am.Spec:=fnSpec oL0 pG5 oL1 (fun x=>uU4 x.1) (fun x=>f63 x.1) (fun _=>())
theorem pG6:SpecOk Tryz.prog 63 sA8:=xV5 (rs:=pG5) (F:=f63) (ok:=uU4) pY pY1 pY3 (jF (by kernel_rfl)) (jF (by kernel_rfl)) (fun l h hp=>⟨hp,fun _=>by simpa[uU4] using h⟩) rfl rfl (fun _=>rfl)
def pY4 (p0:Unit):Prop×(List D42):=
 (((!true)=true→((List.length ([]:List D42)+List.length ([]:List D42):Nat):Int)≤4294967296),(bif true then [] else (([]:List D42)++([]:List D42))))
def sW0 p0:=(pY4 p0).1
def f66a p0:=(pY4 p0).2
instance (p0:Unit):Decidable (sW0 p0):=by
 unfold sW0 pY4
 try dsimp only
 infer_instance
def qE8:Am.Spec:=fnSpec [(0,(.nn true))] (.own T42 0 false) [] (fun x=>sW0 x.1) (fun x=>f66a x.1) (fun _=>())
def qV1:Ctx:=Cx tys [] [] [(7,[(4,0,7,0)])] false 8 [] []
theorem pY5:SpecOk Tryz.prog 66 qE8:=fq (c:=qV1) Tryz.func66 trivial
def pY6 (p0:Unit):Prop×(List D42):=
 (((!false)=true→((List.length ([]:List D42)+List.length ([]:List D42):Nat):Int)≤4294967296),(bif false then [] else (([]:List D42)++([]:List D42))))
def sW1 p0:=(pY6 p0).1
def f66b p0:=(pY6 p0).2
instance (p0:Unit):Decidable (sW1 p0):=by
 unfold sW1 pY6
 try dsimp only
 infer_instance
def qE9:Am.Spec:=fnSpec [(0,(.nn false))] (.own T42 0 false) [] (fun x=>sW1 x.1) (fun x=>f66b x.1) (fun _=>())
def qV2:Ctx:=Cx tys [] [] [(7,[(4,0,7,0)])] false 8 [] []
theorem pY7:SpecOk Tryz.prog 66 qE9:=fq (c:=qV2) Tryz.func66 trivial
def pY8 (p0:List D42):Prop×(List D42):=
 ((0<List.length p0∧((!false)=true→((List.length ([]:List D42)+List.length p0:Nat):Int)≤4294967296)),(bif false then [] else (([]:List D42)++p0)))
def sW2 p0:=(pY8 p0).1
def f66c p0:=(pY8 p0).2
instance (p0:List D42):Decidable (sW2 p0):=by
 unfold sW2 pY8
 try dsimp only
 infer_instance
def qF:Am.Spec:=fnSpec [(0,(.val (.sl T42)))] (.own T42 0 false) [] (fun x=>sW2 x.1) (fun x=>f66c x.1) (fun _=>())
def qV3:Ctx:=Cx tys [] [] [(7,[(4,0,7,0)])] false 8 [] []
theorem pY9:SpecOk Tryz.prog 66 qF:=fq (c:=qV3) Tryz.func66 trivial
def f66 (p0:List D42):List D42:=p0
def tL1 (p0:List D42):Prop:=(List.length p0:Int)≤4294967296
instance (p0:List D42):Decidable (tL1 p0):=by
  unfold tL1
  infer_instance
def oL2:List (Nat×Sh):=[(0,(.val (.sl T42)))]
def pG7:Sh:=(.own T42 0 false)
def oL3:List (Nat×Sh):=[]
def sA9:Am.Spec:=fnSpec oL2 pG7 oL3 (fun x=>tL1 x.1) (fun x=>f66 x.1) (fun _=>())
theorem pG8:SpecOk Tryz.prog 66 sA9:=xV5 (rs:=pG7) (F:=f66) (ok:=tL1) pY5 pY7 pY9 (jF (by kernel_rfl)) (jF (by kernel_rfl)) (fun l h hp=>⟨hp,fun _=>by simpa[tL1] using h⟩) rfl rfl (fun _=>rfl)
def pZ (p0:Unit):Prop×(List D122):=
 (((!true)=true→((List.length ([]:List D122)+List.length ([]:List D122):Nat):Int)≤4294967296),(bif true then [] else (([]:List D122)++([]:List D122))))
def sW3 p0:=(pZ p0).1
def f89a p0:=(pZ p0).2
instance (p0:Unit):Decidable (sW3 p0):=by
 unfold sW3 pZ
 try dsimp only
 infer_instance
def qF0:Am.Spec:=fnSpec [(0,(.nn true))] (.own T122 0 false) [] (fun x=>sW3 x.1) (fun x=>f89a x.1) (fun _=>())
def qV4:Ctx:=Cx tys [] [] [(7,[(4,0,7,0)])] false 8 [] []
theorem pZ0:SpecOk Tryz.prog 89 qF0:=fq (c:=qV4) Tryz.func89 trivial
def pZ1 (p0:Unit):Prop×(List D122):=
 (((!false)=true→((List.length ([]:List D122)+List.length ([]:List D122):Nat):Int)≤4294967296),(bif false then [] else (([]:List D122)++([]:List D122))))
def sW4 p0:=(pZ1 p0).1
def f89b p0:=(pZ1 p0).2
instance (p0:Unit):Decidable (sW4 p0):=by
 unfold sW4 pZ1
 try dsimp only
 infer_instance
def qF1:Am.Spec:=fnSpec [(0,(.nn false))] (.own T122 0 false) [] (fun x=>sW4 x.1) (fun x=>f89b x.1) (fun _=>())
def qV5:Ctx:=Cx tys [] [] [(7,[(4,0,7,0)])] false 8 [] []
theorem pZ2:SpecOk Tryz.prog 89 qF1:=fq (c:=qV5) Tryz.func89 trivial
def pZ3 (p0:List D122):Prop×(List D122):=
 ((0<List.length p0∧((!false)=true→((List.length ([]:List D122)+List.length p0:Nat):Int)≤4294967296)),(bif false then [] else (([]:List D122)++p0)))
def sW5 p0:=(pZ3 p0).1
def f89c p0:=(pZ3 p0).2
instance (p0:List D122):Decidable (sW5 p0):=by
 unfold sW5 pZ3
 try dsimp only
 infer_instance
def qF2:Am.Spec:=fnSpec [(0,(.val (.sl T122)))] (.own T122 0 false) [] (fun x=>sW5 x.1) (fun x=>f89c x.1) (fun _=>())
def qV6:Ctx:=Cx tys [] [] [(7,[(4,0,7,0)])] false 8 [] []
theorem pZ4:SpecOk Tryz.prog 89 qF2:=fq (c:=qV6) Tryz.func89 trivial
def f89 (p0:List D122):List D122:=p0
def tU5 (p0:List D122):Prop:=(List.length p0:Int)≤4294967296
instance (p0:List D122):Decidable (tU5 p0):=by
  unfold tU5
  infer_instance
def oL4:List (Nat×Sh):=[(0,(.val (.sl T122)))]
def pG9:Sh:=(.own T122 0 false)
def oL5:List (Nat×Sh):=[]
def rH9:Am.Spec:=fnSpec oL4 pG9 oL5 (fun x=>tU5 x.1) (fun x=>f89 x.1) (fun _=>())
theorem oL6:SpecOk Tryz.prog 89 rH9:=xV5 (rs:=pG9) (F:=f89) (ok:=tU5) pZ0 pZ2 pZ4 (jF (by kernel_rfl)) (jF (by kernel_rfl)) (fun l h hp=>⟨hp,fun _=>by simpa[tU5] using h⟩) rfl rfl (fun _=>rfl)
def pZ5 (p0:Unit):Prop×(List D128):=
 (((!true)=true→((List.length ([]:List D128)+List.length ([]:List D128):Nat):Int)≤4294967296),(bif true then [] else (([]:List D128)++([]:List D128))))
def sW6 p0:=(pZ5 p0).1
def f90a p0:=(pZ5 p0).2
instance (p0:Unit):Decidable (sW6 p0):=by
 unfold sW6 pZ5
 try dsimp only
 infer_instance
def qF3:Am.Spec:=fnSpec [(0,(.nn true))] (.own T128 0 false) [] (fun x=>sW6 x.1) (fun x=>f90a x.1) (fun _=>())
def qV7:Ctx:=Cx tys [] [] [(7,[(4,0,7,0)])] false 8 [] []
theorem pZ6:SpecOk Tryz.prog 90 qF3:=fq (c:=qV7) Tryz.func90 trivial
def pZ7 (p0:Unit):Prop×(List D128):=
 (((!false)=true→((List.length ([]:List D128)+List.length ([]:List D128):Nat):Int)≤4294967296),(bif false then [] else (([]:List D128)++([]:List D128))))
def sW7 p0:=(pZ7 p0).1
def f90b p0:=(pZ7 p0).2
instance (p0:Unit):Decidable (sW7 p0):=by
 unfold sW7 pZ7
 try dsimp only
 infer_instance
def qF4:Am.Spec:=fnSpec [(0,(.nn false))] (.own T128 0 false) [] (fun x=>sW7 x.1) (fun x=>f90b x.1) (fun _=>())
def qV8:Ctx:=Cx tys [] [] [(7,[(4,0,7,0)])] false 8 [] []
theorem pZ8:SpecOk Tryz.prog 90 qF4:=fq (c:=qV8) Tryz.func90 trivial
def pZ9 (p0:List D128):Prop×(List D128):=
 ((0<List.length p0∧((!false)=true→((List.length ([]:List D128)+List.length p0:Nat):Int)≤4294967296)),(bif false then [] else (([]:List D128)++p0)))
def sW8 p0:=(pZ9 p0).1
def f90c p0:=(pZ9 p0).2
instance (p0:List D128):Decidable (sW8 p0):=by
 unfold sW8 pZ9
 try dsimp only
 infer_instance
def qF5:Am.Spec:=fnSpec [(0,(.val (.sl T128)))] (.own T128 0 false) [] (fun x=>sW8 x.1) (fun x=>f90c x.1) (fun _=>())
def qV9:Ctx:=Cx tys [] [] [(7,[(4,0,7,0)])] false 8 [] []
theorem oA:SpecOk Tryz.prog 90 qF5:=fq (c:=qV9) Tryz.func90 trivial
def f90 (p0:List D128):List D128:=p0
def tU6 (p0:List D128):Prop:=(List.length p0:Int)≤4294967296
instance (p0:List D128):Decidable (tU6 p0):=by
  unfold tU6
  infer_instance
def oL7:List (Nat×Sh):=[(0,(.val (.sl T128)))]
def pH:Sh:=(.own T128 0 false)
def oL8:List (Nat×Sh):=[]
def rI:Am.Spec:=fnSpec oL7 pH oL8 (fun x=>tU6 x.1) (fun x=>f90 x.1) (fun _=>())
theorem oL9:SpecOk Tryz.prog 90 rI:=xV5 (rs:=pH) (F:=f90) (ok:=tU6) pZ6 pZ8 oA (jF (by kernel_rfl)) (jF (by kernel_rfl)) (fun l h hp=>⟨hp,fun _=>by simpa[tU6] using h⟩) rfl rfl (fun _=>rfl)
def oA0 (p0:Unit):Prop×(List D125):=
 (((!true)=true→((List.length ([]:List D125)+List.length ([]:List D125):Nat):Int)≤4294967296),(bif true then [] else (([]:List D125)++([]:List D125))))
def sW9 p0:=(oA0 p0).1
def f91a p0:=(oA0 p0).2
instance (p0:Unit):Decidable (sW9 p0):=by
 unfold sW9 oA0
 try dsimp only
 infer_instance
def qF6:Am.Spec:=fnSpec [(0,(.nn true))] (.own T125 0 false) [] (fun x=>sW9 x.1) (fun x=>f91a x.1) (fun _=>())
def qW:Ctx:=Cx tys [] [] [(7,[(4,0,7,0)])] false 8 [] []
theorem oA1:SpecOk Tryz.prog 91 qF6:=fq (c:=qW) Tryz.func91 trivial
def oA2 (p0:Unit):Prop×(List D125):=
 (((!false)=true→((List.length ([]:List D125)+List.length ([]:List D125):Nat):Int)≤4294967296),(bif false then [] else (([]:List D125)++([]:List D125))))
def sX p0:=(oA2 p0).1
def f91b p0:=(oA2 p0).2
instance (p0:Unit):Decidable (sX p0):=by
 unfold sX oA2
 try dsimp only
 infer_instance
def qF7:Am.Spec:=fnSpec [(0,(.nn false))] (.own T125 0 false) [] (fun x=>sX x.1) (fun x=>f91b x.1) (fun _=>())
def qW0:Ctx:=Cx tys [] [] [(7,[(4,0,7,0)])] false 8 [] []
theorem oA3:SpecOk Tryz.prog 91 qF7:=fq (c:=qW0) Tryz.func91 trivial
def oA4 (p0:List D125):Prop×(List D125):=
 ((0<List.length p0∧((!false)=true→((List.length ([]:List D125)+List.length p0:Nat):Int)≤4294967296)),(bif false then [] else (([]:List D125)++p0)))
def sX0 p0:=(oA4 p0).1
def f91c p0:=(oA4 p0).2
instance (p0:List D125):Decidable (sX0 p0):=by
 unfold sX0 oA4
 try dsimp only
 infer_instance
def qF8:Am.Spec:=fnSpec [(0,(.val (.sl T125)))] (.own T125 0 false) [] (fun x=>sX0 x.1) (fun x=>f91c x.1) (fun _=>())
def qW1:Ctx:=Cx tys [] [] [(7,[(4,0,7,0)])] false 8 [] []
theorem oA5:SpecOk Tryz.prog 91 qF8:=fq (c:=qW1) Tryz.func91 trivial
def f91 (p0:List D125):List D125:=p0
def tU7 (p0:List D125):Prop:=(List.length p0:Int)≤4294967296
instance (p0:List D125):Decidable (tU7 p0):=by
  unfold tU7
  infer_instance
def oM:List (Nat×Sh):=[(0,(.val (.sl T125)))]
def pH0:Sh:=(.own T125 0 false)
def oM0:List (Nat×Sh):=[]
def rI0:Am.Spec:=fnSpec oM pH0 oM0 (fun x=>tU7 x.1) (fun x=>f91 x.1) (fun _=>())
theorem oM1:SpecOk Tryz.prog 91 rI0:=xV5 (rs:=pH0) (F:=f91) (ok:=tU7) oA1 oA3 oA5 (jF (by kernel_rfl)) (jF (by kernel_rfl)) (fun l h hp=>⟨hp,fun _=>by simpa[tU7] using h⟩) rfl rfl (fun _=>rfl)
def f67t (p0:D49)(p1:D49):Prop×(D49×Int×Unit):=
 let v10:=(p0.2.1 !=p1.2.1)
 let s_20:=(p1.2.2.2.2.2.2.2.2.2.2.2.2.2.2.2.2.2.2.2.2.2.2.2.2.2.2.2.1.1,p1.2.2.2.2.2.2.2.2.2.2.2.2.2.2.2.2.2.2.2.2.2.2.2.2.2.2.2.1.2.1,p1.2.2.2.2.2.2.2.2.2.2.2.2.2.2.2.2.2.2.2.2.2.2.2.2.2.2.2.1.2.2.1,(f91 p1.2.2.2.2.2.2.2.2.2.2.2.2.2.2.2.2.2.2.2.2.2.2.2.2.2.2.2.1.2.2.2.1),())
 let s_21:=(p0.1,p0.2.1,p0.2.2.1,p0.2.2.2.1,p0.2.2.2.2.1,p0.2.2.2.2.2.1,p0.2.2.2.2.2.2.1,p0.2.2.2.2.2.2.2.1,p0.2.2.2.2.2.2.2.2.1,(p0.2.2.2.2.2.2.2.2.2.1.1,p0.2.2.2.2.2.2.2.2.2.1.2.1,(f63 p0.2.2.2.2.2.2.2.2.2.1.2.2.1),()),p0.2.2.2.2.2.2.2.2.2.2.1,p0.2.2.2.2.2.2.2.2.2.2.2.1,(p1.2.2.2.2.2.2.2.2.2.2.2.2.1.1,p1.2.2.2.2.2.2.2.2.2.2.2.2.1.2.1,(f66 p1.2.2.2.2.2.2.2.2.2.2.2.2.1.2.2.1),()),p1.2.2.2.2.2.2.2.2.2.2.2.2.2.1,p1.2.2.2.2.2.2.2.2.2.2.2.2.2.2.1,(f63 p1.2.2.2.2.2.2.2.2.2.2.2.2.2.2.2.1),p1.2.2.2.2.2.2.2.2.2.2.2.2.2.2.2.2.1,(f89 p1.2.2.2.2.2.2.2.2.2.2.2.2.2.2.2.2.2.1),(f90 p1.2.2.2.2.2.2.2.2.2.2.2.2.2.2.2.2.2.2.1),p1.2.2.2.2.2.2.2.2.2.2.2.2.2.2.2.2.2.2.2.1,p1.2.2.2.2.2.2.2.2.2.2.2.2.2.2.2.2.2.2.2.2.1,p1.2.2.2.2.2.2.2.2.2.2.2.2.2.2.2.2.2.2.2.2.2.1,p1.2.2.2.2.2.2.2.2.2.2.2.2.2.2.2.2.2.2.2.2.2.2.1,p1.2.2.2.2.2.2.2.2.2.2.2.2.2.2.2.2.2.2.2.2.2.2.2.1,p1.2.2.2.2.2.2.2.2.2.2.2.2.2.2.2.2.2.2.2.2.2.2.2.2.1,p1.2.2.2.2.2.2.2.2.2.2.2.2.2.2.2.2.2.2.2.2.2.2.2.2.2.1,p1.2.2.2.2.2.2.2.2.2.2.2.2.2.2.2.2.2.2.2.2.2.2.2.2.2.2.1,s_20,())
 let s_25:=((0:Int),(0:Int),(0:Int),([]:List UInt8),false,false,false,(0:Int),(0:Int),((0:Int),(0:Int),([]:List Int),()),Z37,(0:Int),((0:Int),(0:Int),([]:List D42),()),Z42,(0:Int),([]:List Int),(0:Int),([]:List D122),([]:List D128),(0:Int),(0:Int),(0:Int),(0:Int),([]:List UInt8),(0:Int),(0:Int),(0:Int),((0:Int),(0:Int),(0:Int),([]:List D125),()),())
 (((!v10)=true→((uU4 p0.2.2.2.2.2.2.2.2.2.1.2.2.1)∧((tL1 p1.2.2.2.2.2.2.2.2.2.2.2.2.1.2.2.1)∧((uU4 p1.2.2.2.2.2.2.2.2.2.2.2.2.2.2.2.1)∧((tU5 p1.2.2.2.2.2.2.2.2.2.2.2.2.2.2.2.2.2.1)∧((tU6 p1.2.2.2.2.2.2.2.2.2.2.2.2.2.2.2.2.2.2.1)∧(tU7 p1.2.2.2.2.2.2.2.2.2.2.2.2.2.2.2.2.2.2.2.2.2.2.2.2.2.2.2.1.2.2.2.1))))))),((bif v10 then s_25 else s_21),(bif v10 then (8:Int) else (0:Int)),()))
def sO3 p0 p1:=(f67t p0 p1).1
def f67 p0 p1:=(f67t p0 p1).2
instance (p0:D49)(p1:D49):Decidable (sO3 p0 p1):=by
 unfold sO3 f67t
 try dsimp only
 infer_instance
def rI1:Am.Spec:=fnSpec [(0,(.val T49)),(1,(.val T49))] (.tup (.cons (.val T49) (.cons vI .nl))) [] (fun x=>sO3 x.1 x.2.1) (fun x=>f67 x.1 x.2.1) (fun _=>())
def oA6:Ctx:=Cx tys [(63,sA8),(66,sA9),(89,rH9),(90,rI),(91,rI0)] [] [] false 82 [] []
theorem oM2:SpecOk Tryz.prog 67 rI1:=fq (c:=oA6) Tryz.func67 ⟨pG6,pG8,oL6,oL9,oM1,trivial⟩
def f35t (p0:D49):Prop×D49:=
 ((sO3 p0 p0),(f67 p0 p0).1)
def tL2 p0:=(f35t p0).1
def f35 p0:=(f35t p0).2
instance (p0:D49):Decidable (tL2 p0):=by
 unfold tL2 f35t
 try dsimp only
 infer_instance
def uW9:Am.Spec:=fnSpec [(0,(.val T49))] (.val T49) [] (fun x=>tL2 x.1) (fun x=>f35 x.1) (fun _=>())
def oA7:Ctx:=Cx tys [(67,rI1)] [] [] false 12 [] []
theorem qF9:SpecOk Tryz.prog 35 uW9:=fq (c:=oA7) Tryz.func35 ⟨oM2,trivial⟩
def oA8 (p0:Unit):Prop×(List D87):=
 (((!true)=true→((List.length ([]:List D87)+List.length ([]:List D87):Nat):Int)≤4294967296),(bif true then [] else (([]:List D87)++([]:List D87))))
def sX1 p0:=(oA8 p0).1
def f64a p0:=(oA8 p0).2
instance (p0:Unit):Decidable (sX1 p0):=by
 unfold sX1 oA8
 try dsimp only
 infer_instance
def qG:Am.Spec:=fnSpec [(0,(.nn true))] (.own T87 0 false) [] (fun x=>sX1 x.1) (fun x=>f64a x.1) (fun _=>())
def qW2:Ctx:=Cx tys [] [] [(7,[(4,0,7,0)])] false 8 [] []
theorem oA9:SpecOk Tryz.prog 64 qG:=fq (c:=qW2) Tryz.func64 trivial
def oB (p0:Unit):Prop×(List D87):=
 (((!false)=true→((List.length ([]:List D87)+List.length ([]:List D87):Nat):Int)≤4294967296),(bif false then [] else (([]:List D87)++([]:List D87))))
def sX2 p0:=(oB p0).1
def f64b p0:=(oB p0).2
instance (p0:Unit):Decidable (sX2 p0):=by
 unfold sX2 oB
 try dsimp only
 infer_instance
def qG0:Am.Spec:=fnSpec [(0,(.nn false))] (.own T87 0 false) [] (fun x=>sX2 x.1) (fun x=>f64b x.1) (fun _=>())
def qW3:Ctx:=Cx tys [] [] [(7,[(4,0,7,0)])] false 8 [] []
theorem oB0:SpecOk Tryz.prog 64 qG0:=fq (c:=qW3) Tryz.func64 trivial
def oB1 (p0:List D87):Prop×(List D87):=
 ((0<List.length p0∧((!false)=true→((List.length ([]:List D87)+List.length p0:Nat):Int)≤4294967296)),(bif false then [] else (([]:List D87)++p0)))
def sX3 p0:=(oB1 p0).1
def f64c p0:=(oB1 p0).2
instance (p0:List D87):Decidable (sX3 p0):=by
 unfold sX3 oB1
 try dsimp only
 infer_instance
def qG1:Am.Spec:=fnSpec [(0,(.val (.sl T87)))] (.own T87 0 false) [] (fun x=>sX3 x.1) (fun x=>f64c x.1) (fun _=>())
def qW4:Ctx:=Cx tys [] [] [(7,[(4,0,7,0)])] false 8 [] []
theorem oB2:SpecOk Tryz.prog 64 qG1:=fq (c:=qW4) Tryz.func64 trivial
def f64 (p0:List D87):List D87:=p0
def tU8 (p0:List D87):Prop:=(List.length p0:Int)≤4294967296
instance (p0:List D87):Decidable (tU8 p0):=by
  unfold tU8
  infer_instance
def oM3:List (Nat×Sh):=[(0,(.val (.sl T87)))]
def pH1:Sh:=(.own T87 0 false)
def oM4:List (Nat×Sh):=[]
def rI2:Am.Spec:=fnSpec oM3 pH1 oM4 (fun x=>tU8 x.1) (fun x=>f64 x.1) (fun _=>())
theorem oM5:SpecOk Tryz.prog 64 rI2:=xV5 (rs:=pH1) (F:=f64) (ok:=tU8) oA9 oB0 oB2 (jF (by kernel_rfl)) (jF (by kernel_rfl)) (fun l h hp=>⟨hp,fun _=>by simpa[tU8] using h⟩) rfl rfl (fun _=>rfl)
def oB3 (p0:Unit):Prop×(List D90):=
 (((!true)=true→((List.length ([]:List D90)+List.length ([]:List D90):Nat):Int)≤4294967296),(bif true then [] else (([]:List D90)++([]:List D90))))
def sX4 p0:=(oB3 p0).1
def f65a p0:=(oB3 p0).2
instance (p0:Unit):Decidable (sX4 p0):=by
 unfold sX4 oB3
 try dsimp only
 infer_instance
def qG2:Am.Spec:=fnSpec [(0,(.nn true))] (.own T90 0 true) [] (fun x=>sX4 x.1) (fun x=>f65a x.1) (fun _=>())
def qW5:Ctx:=Cx tys [] [] [(7,[(4,0,7,0)])] false 8 [] [5,7]
theorem oB4:SpecOk Tryz.prog 65 qG2:=fq (c:=qW5) Tryz.func65 trivial
def oB5 (p0:Unit):Prop×(List D90):=
 (((!false)=true→((List.length ([]:List D90)+List.length ([]:List D90):Nat):Int)≤4294967296),(bif false then [] else (([]:List D90)++([]:List D90))))
def sX5 p0:=(oB5 p0).1
def f65b p0:=(oB5 p0).2
instance (p0:Unit):Decidable (sX5 p0):=by
 unfold sX5 oB5
 try dsimp only
 infer_instance
def qG3:Am.Spec:=fnSpec [(0,(.nn false))] (.own T90 0 true) [] (fun x=>sX5 x.1) (fun x=>f65b x.1) (fun _=>())
def qW6:Ctx:=Cx tys [] [] [(7,[(4,0,7,0)])] false 8 [] [5,7]
theorem oB6:SpecOk Tryz.prog 65 qG3:=fq (c:=qW6) Tryz.func65 trivial
def oB7 (p0:List D90):Prop×(List D90):=
 ((0<List.length p0∧((!false)=true→((List.length ([]:List D90)+List.length p0:Nat):Int)≤4294967296)),(bif false then [] else (([]:List D90)++p0)))
def sX6 p0:=(oB7 p0).1
def f65c p0:=(oB7 p0).2
instance (p0:List D90):Decidable (sX6 p0):=by
 unfold sX6 oB7
 try dsimp only
 infer_instance
def qG4:Am.Spec:=fnSpec [(0,(.val (.sl T90)))] (.own T90 0 true) [] (fun x=>sX6 x.1) (fun x=>f65c x.1) (fun _=>())
def qW7:Ctx:=Cx tys [] [] [(7,[(4,0,7,0)])] false 8 [] [5,7]
theorem oB8:SpecOk Tryz.prog 65 qG4:=fq (c:=qW7) Tryz.func65 trivial
def f65 (p0:List D90):List D90:=p0
def tU9 (p0:List D90):Prop:=(List.length p0:Int)≤4294967296
instance (p0:List D90):Decidable (tU9 p0):=by
  unfold tU9
  infer_instance
def oM6:List (Nat×Sh):=[(0,(.val (.sl T90)))]
def pH2:Sh:=(.own T90 0 true)
def oM7:List (Nat×Sh):=[]
def rI3:Am.Spec:=fnSpec oM6 pH2 oM7 (fun x=>tU9 x.1) (fun x=>f65 x.1) (fun _=>())
theorem oM8:SpecOk Tryz.prog 65 rI3:=xV5 (rs:=pH2) (F:=f65) (ok:=tU9) oB4 oB6 oB8 (jF (by kernel_rfl)) (jF (by kernel_rfl)) (fun l h hp=>⟨hp,fun _=>by simpa[tU9] using h⟩) rfl rfl (fun _=>rfl)
abbrev vW9:Type:=(D28×(Int×Int×Int×(List D49)×Int×(Int×Int×(List Int)×Unit)×(List D87)×(List D90)×Unit)×(List D49)×Int×Unit)
abbrev wW1:Type:=((Int×Int×Int×(List D49)×Int×D24×(List D87)×(List D90)×Unit)×Int×Unit)
def sB (y:vW9)(x:wW1):Prop×Bool×wW1:=
 let a15:=y.2.2.1
 let a3:=x.1
 let a17:=x.2.1
 let v18:=(decide (a17<y.2.2.2.1))
 let v20:=(nth a15 a17 Z49)
 ((v18=true→(InB a17 (len a15)∧((tL2 v20)∧(InB a17 (len a3.2.2.2.1)∧(a17<len a3.2.2.2.1∧InR (a17+1)))))),v18,((a3.1,a3.2.1,a3.2.2.1,(List.set a3.2.2.2.1 (Int.toNat a17) (f35 v20)),a3.2.2.2.2),(a17+1),()))
def vS1 y x:=(sB y x).1
def wW2 y x:=(sB y x).2.1
def wE0 y x:=(sB y x).2.2
instance (y:vW9)(x:wW1):Decidable (vS1 y x):=by
 unfold vS1 sB
 try dsimp only
 infer_instance
def tL3 (y:vW9)(x:wW1):(Int×Int×Int×(List D49)×Int×D24×(List D87)×(List D90)×Unit):=
 let a3:=x.1
 (a3.1,a3.2.1,a3.2.2.1,a3.2.2.2.1,a3.2.2.2.2.1,a3.2.2.2.2.2.1,a3.2.2.2.2.2.2.1,a3.2.2.2.2.2.2.2.1,())
def sO4:List (Nat×Sh):=[(1,(.box T28 (.val T28))),(2,(.box T28 (.agg (.cons (.int .i64) (.cons (.int .i64) (.cons (.int .i64) (.cons (.sl T49) (.cons (.int .i64) (.cons T24 (.cons (.sl T87) (.cons (.sl T90) .nl)))))))) (.cons vI (.cons vI (.cons vI (.cons (.val (.sl T49)) (.cons vI (.cons (.agg (.cons (.int .i64) (.cons (.int .i64) (.cons (.sl (.int .i64)) .nl))) (.cons vI (.cons vI (.cons (.val (.sl (.int .i64))) .nl)))) (.cons (.val (.sl T87)) (.cons (.val (.sl T90)) .nl))))))))))),(3,(.box T28 (.agg (.cons (.int .i64) (.cons (.int .i64) (.cons (.int .i64) (.cons (.sl T49) (.cons (.int .i64) (.cons T24 (.cons (.sl T87) (.cons (.sl T90) .nl)))))))) (.cons vI (.cons vI (.cons vI (.cons (.own T49 400300 true) (.cons vI (.cons (.val T24) (.cons (.val (.sl T87)) (.cons (.val (.sl T90)) .nl)))))))))))]
def tL4:St→Option Out:=xP4 [(1,(.box T28 (.val T28))),(2,(.box T28 (.agg (.cons (.int .i64) (.cons (.int .i64) (.cons (.int .i64) (.cons (.sl T49) (.cons (.int .i64) (.cons T24 (.cons (.sl T87) (.cons (.sl T90) .nl)))))))) (.cons vI (.cons vI (.cons vI (.cons (.val (.sl T49)) (.cons vI (.cons (.agg (.cons (.int .i64) (.cons (.int .i64) (.cons (.sl (.int .i64)) .nl))) (.cons vI (.cons vI (.cons (.val (.sl (.int .i64))) .nl)))) (.cons (.val (.sl T87)) (.cons (.val (.sl T90)) .nl))))))))))),(15,(.val (.sl T49))),(16,vI)] [(3,(.box T28 (.agg (.cons (.int .i64) (.cons (.int .i64) (.cons (.int .i64) (.cons (.sl T49) (.cons (.int .i64) (.cons T24 (.cons (.sl T87) (.cons (.sl T90) .nl)))))))) (.cons vI (.cons vI (.cons vI (.cons (.own T49 400300 true) (.cons vI (.cons (.val T24) (.cons (.val (.sl T87)) (.cons (.val (.sl T90)) .nl))))))))))),(17,vI)] wW2 wE0 vS1 fun y x=>[ex 2 none sO4 (y.1,y.2.1,(tL3 y x),())]
abbrev vI3:Type:=((Int×Int×Int×(List D49)×Int×(Int×Int×(List Int)×Unit)×(List D87)×(List D90)×Unit)×(List D90)×Int×Unit)
abbrev wU4:Type:=((Int×Int×Int×(List D49)×Int×D24×(List D87)×(List D90)×Unit)×Int×Unit)
def uX (y:vI3)(x:wU4):Prop×Bool×wU4:=
 let a44:=y.2.1
 let a3:=x.1
 let a46:=x.2.1
 let v47:=(decide (a46<y.2.2.1))
 let v49:=(nth a44 a46 Z90)
 let s_1:=((nth a3.2.2.2.2.2.2.2.1 a46 Z90).1,(nth a3.2.2.2.2.2.2.2.1 a46 Z90).2.1,(nth a3.2.2.2.2.2.2.2.1 a46 Z90).2.2.1,(nth a3.2.2.2.2.2.2.2.1 a46 Z90).2.2.2.1,((nth a3.2.2.2.2.2.2.2.1 a46 Z90).2.2.2.2.1.1,(nth a3.2.2.2.2.2.2.2.1 a46 Z90).2.2.2.2.1.2.1,(f66 v49.2.2.2.2.1.2.2.1),()),())
 ((v47=true→(InB a46 (len a44)∧((tL1 v49.2.2.2.2.1.2.2.1)∧(InB a46 (len a3.2.2.2.2.2.2.2.1)∧(a46<len a3.2.2.2.2.2.2.2.1∧InR (a46+1)))))),v47,((a3.1,a3.2.1,a3.2.2.1,a3.2.2.2.1,a3.2.2.2.2.1,a3.2.2.2.2.2.1,a3.2.2.2.2.2.2.1,(List.set a3.2.2.2.2.2.2.2.1 (Int.toNat a46) s_1),()),(a46+1),()))
def vI4 y x:=(uX y x).1
def vA6 y x:=(uX y x).2.1
def wI6 y x:=(uX y x).2.2
instance (y:vI3)(x:wU4):Decidable (vI4 y x):=by
 unfold vI4 uX
 try dsimp only
 infer_instance
def uU5 (y:vI3)(x:wU4):(Int×Int×Int×(List D49)×Int×D24×(List D87)×(List D90)×Unit):=
 let a3:=x.1
 (a3.1,a3.2.1,a3.2.2.1,a3.2.2.2.1,a3.2.2.2.2.1,a3.2.2.2.2.2.1,a3.2.2.2.2.2.2.1,a3.2.2.2.2.2.2.2.1,())
def tV:List (Nat×Sh):=[(2,(.box T28 (.agg (.cons (.int .i64) (.cons (.int .i64) (.cons (.int .i64) (.cons (.sl T49) (.cons (.int .i64) (.cons T24 (.cons (.sl T87) (.cons (.sl T90) .nl)))))))) (.cons vI (.cons vI (.cons vI (.cons (.val (.sl T49)) (.cons vI (.cons (.agg (.cons (.int .i64) (.cons (.int .i64) (.cons (.sl (.int .i64)) .nl))) (.cons vI (.cons vI (.cons (.val (.sl (.int .i64))) .nl)))) (.cons (.val (.sl T87)) (.cons (.val (.sl T90)) .nl))))))))))),(3,(.box T28 (.agg (.cons (.int .i64) (.cons (.int .i64) (.cons (.int .i64) (.cons (.sl T49) (.cons (.int .i64) (.cons T24 (.cons (.sl T87) (.cons (.sl T90) .nl)))))))) (.cons vI (.cons vI (.cons vI (.cons (.own T49 400300 true) (.cons vI (.cons (.val T24) (.cons (.own T87 400302 false) (.cons (.own T90 400303 true) .nl)))))))))))]
def uU6:St→Option Out:=xP4 [(2,(.box T28 (.agg (.cons (.int .i64) (.cons (.int .i64) (.cons (.int .i64) (.cons (.sl T49) (.cons (.int .i64) (.cons T24 (.cons (.sl T87) (.cons (.sl T90) .nl)))))))) (.cons vI (.cons vI (.cons vI (.cons (.val (.sl T49)) (.cons vI (.cons (.agg (.cons (.int .i64) (.cons (.int .i64) (.cons (.sl (.int .i64)) .nl))) (.cons vI (.cons vI (.cons (.val (.sl (.int .i64))) .nl)))) (.cons (.val (.sl T87)) (.cons (.val (.sl T90)) .nl))))))))))),(44,(.val (.sl T90))),(45,vI)] [(3,(.box T28 (.agg (.cons (.int .i64) (.cons (.int .i64) (.cons (.int .i64) (.cons (.sl T49) (.cons (.int .i64) (.cons T24 (.cons (.sl T87) (.cons (.sl T90) .nl)))))))) (.cons vI (.cons vI (.cons vI (.cons (.own T49 400300 true) (.cons vI (.cons (.val T24) (.cons (.own T87 400302 false) (.cons (.own T90 400303 true) .nl))))))))))),(46,vI)] vA6 wI6 vI4 fun y x=>[ex 4 none tV (y.1,(uU5 y x),())]
def f34t (p0:D28):Prop×(Int×Int×Int×(List D49)×Int×D24×(List D87)×(List D90)×Unit):=
 let v11:=(len p0.2.2.2.1)
 let y4:=(p0,((0:Int),(0:Int),(0:Int),([]:List D49),(0:Int),((0:Int),(0:Int),([]:List Int),()),([]:List D87),([]:List D90),()),p0.2.2.2.1,(len p0.2.2.2.1),())
 let x4:=((p0.1,p0.2.1,p0.2.2.1,(List.replicate (Int.toNat v11) Z49),p0.2.2.2.2),(0:Int),())
 let r4_2_0:=(tL3 y4 (zC3 (wW2 y4) (wE0 y4) x4))
 let s_6:=(r4_2_0.1,r4_2_0.2.1,r4_2_0.2.2.1,r4_2_0.2.2.2.1,r4_2_0.2.2.2.2.1,(r4_2_0.2.2.2.2.2.1.1,r4_2_0.2.2.2.2.2.1.2.1,(f63 p0.2.2.2.2.2.1.2.2.1),()),(f64 p0.2.2.2.2.2.2.1),(f65 p0.2.2.2.2.2.2.2.1),())
 let y12:=(((0:Int),(0:Int),(0:Int),([]:List D49),(0:Int),((0:Int),(0:Int),([]:List Int),()),([]:List D87),([]:List D90),()),p0.2.2.2.2.2.2.2.1,(len p0.2.2.2.2.2.2.2.1),())
 let x12:=(s_6,(0:Int),())
 let r12_4_0:=(uU5 y12 (zC3 (vA6 y12) (wI6 y12) x12))
 (((0≤v11∧v11≤v11∧v11≤4294967296)∧((Am.Ends (wW2 y4) (wE0 y4) (vS1 y4) x4)∧((uU4 p0.2.2.2.2.2.1.2.2.1)∧((tU8 p0.2.2.2.2.2.2.1)∧((tU9 p0.2.2.2.2.2.2.2.1)∧(Am.Ends (vA6 y12) (wI6 y12) (vI4 y12) x12)))))),(r12_4_0.1,r12_4_0.2.1,r12_4_0.2.2.1,r12_4_0.2.2.2.1,r12_4_0.2.2.2.2.1,r12_4_0.2.2.2.2.2.1,r12_4_0.2.2.2.2.2.2.1,r12_4_0.2.2.2.2.2.2.2.1,()))
def uI9 p0:=(f34t p0).1
def f34 p0:=(f34t p0).2
instance (p0:D28):Decidable (uI9 p0):=by
 unfold uI9 f34t
 try dsimp only
 infer_instance
def uJ:Am.Spec:=fnSpec [(0,(.val T28))] (.agg (.cons (.int .i64) (.cons (.int .i64) (.cons (.int .i64) (.cons (.sl T49) (.cons (.int .i64) (.cons T24 (.cons (.sl T87) (.cons (.sl T90) .nl)))))))) (.cons vI (.cons vI (.cons vI (.cons (.own T49 0 true) (.cons vI (.cons (.val T24) (.cons (.val (.sl T87)) (.cons (.own T90 3 true) .nl))))))))) [] (fun x=>uI9 x.1) (fun x=>f34 x.1) (fun _=>())
def sX7:Ctx:=Cx tys [(35,uW9),(63,sA8),(64,rI2),(65,rI3),(66,sA9)] [(4,tL4),(12,uU6)] [(5,[(4,0,12,400300)]),(19,[(4,0,37,400302)]),(21,[(4,0,41,400303)]),(33,[(4,0,400300,0),(4,0,400302,2),(4,0,400303,3)])] false 63 [] [12]
theorem sX8:CtxOk Tryz.prog sX7:=cq ⟨qF9,pG6,oM5,oM8,pG8,trivial⟩
noncomputable def rI4:Code:=Tryz.f34.body.getD .skip
noncomputable def pH3:Code:=xX1 rI4 0
theorem qG5:yU8 Tryz.prog sX7 pH3:=lq sX8 (sp:=tL4) rfl [sO4]
noncomputable def qG6:Code:=xX1 rI4 1
theorem rS2:yU8 Tryz.prog sX7 qG6:=lq sX8 (sp:=uU6) rfl [tV]
theorem rI5:SpecOk Tryz.prog 34 uJ:=fl sX8 Tryz.func34 (bs:=[pH3,qG6]) ⟨qG5,rS2,trivial⟩
def f36 (p0:List D49)(p1:Int)(p2:List D49):List D49:=List.take (Int.toNat p1) p0++(p2++List.drop (Int.toNat p1) p0)
def uU7 (p0:List D49)(p1:Int)(p2:List D49):Prop:=0≤p1∧p1≤(List.length p0:Int)∧0<List.length p2∧((List.length p0+List.length p2:Nat):Int)≤4294967296
instance (p0:List D49)(p1:Int)(p2:List D49):Decidable (uU7 p0 p1 p2):=by
  unfold uU7
  infer_instance
def oM9:List (Nat×Sh):=[(0,(.own T49 400000 true)),(1,(.val (.int .i64))),(2,(.own T49 400200 true))]
def oN:Sh:=(.own T49 0 true)
def oN0:List (Nat×Sh):=[]
def uX0:Am.Spec:=fnSpec oM9 oN oN0 (fun x=>uU7 x.1 x.2.1 x.2.2.1) (fun x=>f36 x.1 x.2.1 x.2.2.1) (fun _=>())
theorem qG7:SpecOk Tryz.prog 36 uX0:=qN8 rfl ⟨_,Tryz.func36,by kernel_rfl,by decide⟩ oI6
abbrev vX:Type:=(Int×(List D49)×Int×Unit)
abbrev wW3:Type:=((List Int)×(List (Int×Bool×Unit))×Int×Unit)
def sB0 (y:vX)(x:wW3):Prop×Bool×wW3:=
 let a11:=y.2.1
 let a5:=x.1
 let a6:=x.2.1
 let a13:=x.2.2.1
 let v14:=(decide (a13<y.2.2.1))
 let v15:=(nth a11 a13 Z49)
 let v26:=(bif (v15.2.2.1==y.1) then true else (Option.getD (yI5 (.int .i64) .bool v15.2.2.1 a6) false))
 let v33:=([v15.1]:List Int)
 ((v14=true→(InB a13 (len a11)∧((v26=true→((List.length a5+List.length v33:Nat):Int)≤4294967296)∧InR (a13+1)))),v14,((bif v26 then (a5++v33) else a5),(bif v26 then (xL8 (.int .i64) .bool v15.1 true a6) else a6),(a13+1),()))
def vS2 y x:=(sB0 y x).1
def vX0 y x:=(sB0 y x).2.1
def wM4 y x:=(sB0 y x).2.2
instance (y:vX)(x:wW3):Decidable (vS2 y x):=by
 unfold vS2 sB0
 try dsimp only
 infer_instance
def tL5 (y:vX)(x:wW3):(List Int):=
 x.1
def sO5:List (Nat×Sh):=[(5,(.own (.int .i64) 1005 false))]
def tL6:St→Option Out:=xP4 [(1,vI),(11,(.val (.sl T49))),(12,vI)] [(5,(.own (.int .i64) 1005 false)),(6,(.own (xD0 (.int .i64) .bool) 1006 true)),(13,vI)] vX0 wM4 vS2 fun y x=>[ex 2 none sO5 ((tL5 y x),())]
def f11t (p0:D28)(p1:Int):Prop×(List Int):=
 let y4:=(p1,p0.2.2.2.1,(len p0.2.2.2.1),())
 let x4:=(([]:List Int),([]:List (Int×Bool×Unit)),(0:Int),())
 ((Am.Ends (vX0 y4) (wM4 y4) (vS2 y4) x4),(tL5 y4 (zC3 (vX0 y4) (wM4 y4) x4)))
def uJ0 p0 p1:=(f11t p0 p1).1
def f11 p0 p1:=(f11t p0 p1).2
instance (p0:D28)(p1:Int):Decidable (uJ0 p0 p1):=by
 unfold uJ0 f11t
 try dsimp only
 infer_instance
def uJ1:Am.Spec:=fnSpec [(0,(.val T28)),(1,vI)] (.own (.int .i64) 0 false) [] (fun x=>uJ0 x.1 x.2.1) (fun x=>f11 x.1 x.2.1) (fun _=>())
def qG8:Ctx:={ Cx tys [] [(4,tL6)] [(5,[(4,0,9,1006)]),(17,[(4,0,34,1005)]),(21,[(4,0,1005,0)])] false 37 [] [] with maps:=maps }
theorem qG9:CtxOk Tryz.prog qG8:=cq trivial
noncomputable def qW8:Code:=Tryz.f11.body.getD .skip
noncomputable def pH4:Code:=xX1 qW8 0
theorem qH:yU8 Tryz.prog qG8 pH4:=lq qG9 (sp:=tL6) rfl [sO5]
theorem rI6:SpecOk Tryz.prog 11 uJ1:=fl qG9 Tryz.func11 (bs:=[pH4]) ⟨qH,trivial⟩
def f37t (p0:D28)(p1:Int)(p2:Int):Prop×Int:=
 let v10:=(f20 p0 p1)
 let v14:=(decide (p2<(len v10)))
 let v18:=(nth v10 p2 (0:Int))
 let v22:=(p1==0)
 let v28:=(f8 p0 p1)
 let v29:=(v28+1)
 let v33:=(len (f11 p0 p1))
 (((uU3 p0 p1)∧((v14=true→(InB p2 (len v10)∧(vX5 p0 v18)))∧((!v14)=true→((!v22)=true→((vX5 p0 p1)∧(InR (v28+1)∧((uJ0 p0 p1)∧InR (v29+v33)))))))),(bif v14 then (f8 p0 v18) else (bif v22 then (len p0.2.2.2.1) else (v29+v33))))
def tV0 p0 p1 p2:=(f37t p0 p1 p2).1
def f37 p0 p1 p2:=(f37t p0 p1 p2).2
instance (p0:D28)(p1:Int)(p2:Int):Decidable (tV0 p0 p1 p2):=by
 unfold tV0 f37t
 try dsimp only
 infer_instance
def sB1:Am.Spec:=fnSpec [(0,(.val T28)),(1,vI),(2,vI)] vI [] (fun x=>tV0 x.1 x.2.1 x.2.2.1) (fun x=>f37 x.1 x.2.1 x.2.2.1) (fun _=>())
def oB9:Ctx:=Cx tys [(8,vL8),(11,uJ1),(20,uI8)] [] [(3,[(4,0,10,1007)])] false 35 [] []
theorem pH5:SpecOk Tryz.prog 37 sB1:=fq (c:=oB9) Tryz.func37 ⟨sM8,rI6,rH8,trivial⟩
def f38t (p0:D28):Prop×(D28×Int×Unit):=
 let v6:=(f9 p0)
 let v8:=(v6 !=0)
 ((vM0 p0),((bif v8 then ((0:Int),(0:Int),(0:Int),([]:List D49),(0:Int),((0:Int),(0:Int),([]:List Int),()),([]:List D87),([]:List D90),()) else p0),(bif v8 then v6 else (0:Int)),()))
def uU8 p0:=(f38t p0).1
def f38 p0:=(f38t p0).2
instance (p0:D28):Decidable (uU8 p0):=by
 unfold uU8 f38t
 try dsimp only
 infer_instance
def uX1:Am.Spec:=fnSpec [(0,(.val T28))] (.tup (.cons (.val T28) (.cons vI .nl))) [] (fun x=>uU8 x.1) (fun x=>f38 x.1) (fun _=>())
def oC:Ctx:=Cx tys [(9,vM1)] [] [] false 12 [] []
theorem qH0:SpecOk Tryz.prog 38 uX1:=fq (c:=oC) Tryz.func38 ⟨sO,trivial⟩
def f14t (p0:D28)(p1:D49)(p2:Int)(p3:Int):Prop×(D28×Int×Int×Unit):=
 let v16:=(f9 p0)
 let v18:=(v16 !=0)
 let v23:=(f33 p0 p2)
 let v25:=(v23 !=0)
 let v29:=(decide (p3<0))
 let v37:=(bif v29 then true else (decide (p3>(len (f20 p0 p2)))))
 let v47:=(bif (decide ((len p0.2.2.2.1)≥64)) then true else (p0.2.2.2.2.1==1073741824))
 let v50:=(f34 p0)
 let v52:=(f35 p1)
 let s_1:=(p0.2.2.2.2.1,v52.2.1,p2,v52.2.2.2)
 let v63:=(f37 p0 p2 p3)
 let v65:=([s_1]:List D49)
 let s_2:=(v50.1,v50.2.1,v50.2.2.1,(f36 v50.2.2.2.1 v63 v65),(v50.2.2.2.2.1+1),v50.2.2.2.2.2)
 let v74:=(f38 s_2)
 let v78:=(v74.2.1 !=0)
 let m8_1:=(bif v47 then ((0:Int),(0:Int),(0:Int),([]:List D49),(0:Int),((0:Int),(0:Int),([]:List Int),()),([]:List D87),([]:List D90),()) else (bif v78 then ((0:Int),(0:Int),(0:Int),([]:List D49),(0:Int),((0:Int),(0:Int),([]:List Int),()),([]:List D87),([]:List D90),()) else v74.1))
 let m8_3:=(bif v25 then ((0:Int),(0:Int),(0:Int),([]:List D49),(0:Int),((0:Int),(0:Int),([]:List Int),()),([]:List D87),([]:List D90),()) else (bif v37 then ((0:Int),(0:Int),(0:Int),([]:List D49),(0:Int),((0:Int),(0:Int),([]:List Int),()),([]:List D87),([]:List D90),()) else m8_1))
 (((vM0 p0)∧((!v18)=true→((tU4 p0 p2)∧((!v25)=true→(((!v29)=true→(uU3 p0 p2))∧((!v37)=true→((!v47)=true→((uI9 p0)∧((tL2 p1)∧((tV0 p0 p2 p3)∧((uU7 v50.2.2.2.1 v63 v65)∧(InR (v50.2.2.2.2.1+1)∧(uU8 s_2))))))))))))),((bif v18 then ((0:Int),(0:Int),(0:Int),([]:List D49),(0:Int),((0:Int),(0:Int),([]:List Int),()),([]:List D87),([]:List D90),()) else m8_3),(bif v18 then (0:Int) else (bif v25 then (0:Int) else (bif v37 then (0:Int) else (bif v47 then (0:Int) else (bif v78 then (0:Int) else p0.2.2.2.2.1))))),(bif v18 then v16 else (bif v25 then v23 else (bif v37 then (2:Int) else (bif v47 then (3:Int) else (bif v78 then v74.2.1 else (0:Int)))))),()))
def uJ2 p0 p1 p2 p3:=(f14t p0 p1 p2 p3).1
def f14 p0 p1 p2 p3:=(f14t p0 p1 p2 p3).2
instance (p0:D28)(p1:D49)(p2:Int)(p3:Int):Decidable (uJ2 p0 p1 p2 p3):=by
 unfold uJ2 f14t
 try dsimp only
 infer_instance
def sB2:Am.Spec:=fnSpec [(0,(.val T28)),(1,(.val T49)),(2,vI),(3,vI)] (.tup (.cons (.val T28) (.cons vI (.cons vI .nl)))) [] (fun x=>uJ2 x.1 x.2.1 x.2.2.1 x.2.2.2.1) (fun x=>f14 x.1 x.2.1 x.2.2.1 x.2.2.2.1) (fun _=>())
def oC0:Ctx:={ Cx tys [(9,vM1),(20,uI8),(33,sA7),(34,uJ),(35,uW9),(36,uX0),(37,sB1),(38,uX1)] [] [(23,[(4,0,50,401300),(4,0,300050,401303)]),(31,[(4,0,66,401300)]),(34,[(1,13,3,0),(1,13,7,0)])] false 84 [] [65] with wants:=[(36,[0,2])] }
theorem pH6:SpecOk Tryz.prog 14 sB2:=fq (c:=oC0) Tryz.func14 ⟨sO,rH8,pG4,rI5,qF9,qG7,pH5,qH0,trivial⟩
def f39 (p0:List D49)(p1 p2:Int):List D49:=List.take (Int.toNat p1) p0++List.drop (Int.toNat p2) p0
def sO6 (p0:List D49)(p1 p2:Int):Prop:=0≤p1∧p1<p2∧p2≤(List.length p0:Int)
instance (p0:List D49)(p1 p2:Int):Decidable (sO6 p0 p1 p2):=by
  unfold sO6
  infer_instance
def oN1:List (Nat×Sh):=[(0,(.own T49 400000 true)),(1,(.val (.int .i64))),(2,(.val (.int .i64)))]
def oN2:Sh:=(.own T49 0 true)
def oN3:List (Nat×Sh):=[]
def sB3:Am.Spec:=fnSpec oN1 oN2 oN3 (fun x=>sO6 x.1 x.2.1 x.2.2.1) (fun x=>f39 x.1 x.2.1 x.2.2.1) (fun _=>())
theorem pH7:SpecOk Tryz.prog 39 sB3:=qN9 rfl ⟨_,Tryz.func39,by kernel_rfl,by decide⟩ oI5
abbrev vD5:Type:=((List Int)×Int×Int×Unit)
abbrev wR6:Type:=(Int×Unit)
def uM5 (y:vD5)(x:wR6):Prop×Bool×wR6×Bool×Bool:=
 let a0:=y.1
 let a8:=x.1
 let v9:=(decide (a8<y.2.2.1))
 let v16:=(y.2.1==(nth a0 a8 (0:Int)))
 ((v9=true→(InB a8 (len a0)∧((!v16)=true→InR (a8+1)))),(v9&&(!v16)),((a8+1),()),(v9&&v16),(!v9))
def vS3 y x:=(uM5 y x).1
def vM2 y x:=(uM5 y x).2.1
def wM5 y x:=(uM5 y x).2.2.1
def tL7 y x:=(uM5 y x).2.2.2.1
def qH1 y x:=(uM5 y x).2.2.2.2
instance (y:vD5)(x:wR6):Decidable (vS3 y x):=by
 unfold vS3 uM5
 try dsimp only
 infer_instance
def uA8 (y:vD5)(x:wR6):Int:=
 x.1
def tL8:St→Option Out:=xP4 [(0,(.val (.sl (.int .i64)))),(1,vI),(7,vI)] [(8,vI)] vM2 wM5 vS3 fun y x=>[ex 1 (some (tL7 y x)) [(4,vI)] ((uA8 y x),()),ex 2 (some (qH1 y x)) [] ()]
def f70t (p0:List Int)(p1:Int):Prop×Int:=
 let y2:=(p0,p1,(len p0),())
 let x2:=((0:Int),())
 let e2:=(zC3 (vM2 y2) (wM5 y2) x2)
 ((Am.Ends (vM2 y2) (wM5 y2) (vS3 y2) x2),(bif (tL7 y2 e2) then (uA8 y2 e2) else (-1:Int)))
def rI7 p0 p1:=(f70t p0 p1).1
def f70 p0 p1:=(f70t p0 p1).2
instance (p0:List Int)(p1:Int):Decidable (rI7 p0 p1):=by
 unfold rI7 f70t
 try dsimp only
 infer_instance
def rI8:Am.Spec:=fnSpec [(0,(.val (.sl (.int .i64)))),(1,vI)] vI [] (fun x=>rI7 x.1 x.2.1) (fun x=>f70 x.1 x.2.1) (fun _=>())
def qH2:Ctx:=Cx tys [] [(2,tL8)] [] false 19 [] []
theorem qH3:CtxOk Tryz.prog qH2:=cq trivial
noncomputable def qW9:Code:=Tryz.f70.body.getD .skip
noncomputable def pH8:Code:=xX1 qW9 0
theorem qH4:yU8 Tryz.prog qH2 pH8:=lq qH3 (sp:=tL8) rfl [[(4,vI)],[]]
theorem oN4:SpecOk Tryz.prog 70 rI8:=fl qH3 Tryz.func70 (bs:=[pH8]) ⟨qH4,trivial⟩
def f40t (p0:List Int)(p1:Int):Prop×Bool:=
 ((rI7 p0 p1),(decide ((f70 p0 p1)≥0)))
def sO7 p0 p1:=(f40t p0 p1).1
def f40 p0 p1:=(f40t p0 p1).2
instance (p0:List Int)(p1:Int):Decidable (sO7 p0 p1):=by
 unfold sO7 f40t
 try dsimp only
 infer_instance
def rI9:Am.Spec:=fnSpec [(0,(.val (.sl (.int .i64)))),(1,vI)] vB [] (fun x=>sO7 x.1 x.2.1) (fun x=>f40 x.1 x.2.1) (fun _=>())
def oC1:Ctx:=Cx tys [(70,rI8)] [] [] false 9 [] []
theorem oN5:SpecOk Tryz.prog 40 rI9:=fq (c:=oC1) Tryz.func40 ⟨oN4,trivial⟩
def f16t (p0:D28)(p1:Int)(p2:Int)(p3:Int):Prop×(D28×Int×Unit):=
 let v18:=(f9 p0)
 let v20:=(v18 !=0)
 let v25:=(f8 p0 p1)
 let v27:=(decide (v25<0))
 let v31:=(f33 p0 p2)
 let v33:=(v31 !=0)
 let v38:=(f11 p0 p1)
 let v41:=(p2==p1)
 let v46:=(bif v41 then true else (f40 v38 p2))
 let v49:=(f34 p0)
 let v51:=(v25+1)
 let v53:=(len v38)
 let v54:=(v51+v53)
 let v59:=(List.drop (Int.toNat v25) (List.take (Int.toNat v54) v49.2.2.2.1))
 let s:=((nth v59 (0:Int) Z49).1,(nth v59 (0:Int) Z49).2.1,p2,(nth v59 (0:Int) Z49).2.2.2)
 let l1016:=(List.set v59 (Int.toNat (0:Int)) s)
 let v69:=(f39 v49.2.2.2.1 v25 v54)
 let v72:=(decide (p3<0))
 let s_1:=(v49.1,v49.2.1,v49.2.2.1,v69,v49.2.2.2.2)
 let v80:=(bif v72 then true else (decide (p3>(len (f20 s_1 p2)))))
 let s_2:=(v49.1,v49.2.1,v49.2.2.1,v69,v49.2.2.2.2)
 let v87:=(f37 s_2 p2 p3)
 let s_3:=(v49.1,v49.2.1,v49.2.2.1,(f36 v69 v87 l1016),v49.2.2.2.2)
 let v92:=(f38 s_3)
 let m8_1:=(bif v46 then ((0:Int),(0:Int),(0:Int),([]:List D49),(0:Int),((0:Int),(0:Int),([]:List Int),()),([]:List D87),([]:List D90),()) else (bif v80 then ((0:Int),(0:Int),(0:Int),([]:List D49),(0:Int),((0:Int),(0:Int),([]:List Int),()),([]:List D87),([]:List D90),()) else v92.1))
 let m8_3:=(bif v27 then ((0:Int),(0:Int),(0:Int),([]:List D49),(0:Int),((0:Int),(0:Int),([]:List Int),()),([]:List D87),([]:List D90),()) else (bif v33 then ((0:Int),(0:Int),(0:Int),([]:List D49),(0:Int),((0:Int),(0:Int),([]:List Int),()),([]:List D87),([]:List D90),()) else m8_1))
 (((vM0 p0)∧((!v20)=true→((vX5 p0 p1)∧((!v27)=true→((tU4 p0 p2)∧((!v33)=true→((uJ0 p0 p1)∧(((!v41)=true→(sO7 v38 p2))∧((!v46)=true→((uI9 p0)∧(InR (v25+1)∧(InR (v51+v53)∧((0≤v25∧v25≤v54∧v54≤len v49.2.2.2.1)∧((0<List.length v59∧(List.length v59:Int)≤4294967296)∧(InB (0:Int) (len v59)∧((0:Int)<len v59∧((sO6 v49.2.2.2.1 v25 v54)∧(((!v72)=true→(uU3 s_1 p2))∧((!v80)=true→((tV0 s_2 p2 p3)∧((uU7 v69 v87 l1016)∧(uU8 s_3)))))))))))))))))))))),((bif v20 then ((0:Int),(0:Int),(0:Int),([]:List D49),(0:Int),((0:Int),(0:Int),([]:List Int),()),([]:List D87),([]:List D90),()) else m8_3),(bif v20 then v18 else (bif v27 then (9:Int) else (bif v33 then v31 else (bif v46 then (11:Int) else (bif v80 then (2:Int) else v92.2.1))))),()))
def tL9 p0 p1 p2 p3:=(f16t p0 p1 p2 p3).1
def f16 p0 p1 p2 p3:=(f16t p0 p1 p2 p3).2
instance (p0:D28)(p1:Int)(p2:Int)(p3:Int):Decidable (tL9 p0 p1 p2 p3):=by
 unfold tL9 f16t
 try dsimp only
 infer_instance
def sB4:Am.Spec:=fnSpec [(0,(.val T28)),(1,vI),(2,vI),(3,vI)] (.tup (.cons (.val T28) (.cons vI .nl))) [] (fun x=>tL9 x.1 x.2.1 x.2.2.1 x.2.2.2.1) (fun x=>f16 x.1 x.2.1 x.2.2.1 x.2.2.2.1) (fun _=>())
def oC2:Ctx:={ Cx tys [(8,vL8),(9,vM1),(11,uJ1),(20,uI8),(33,sA7),(34,uJ),(36,uX0),(37,sB1),(38,uX1),(39,sB3),(40,rI9)] [] [(21,[(4,0,38,1013)]),(27,[(4,0,49,401400),(4,0,300049,401403)]),(31,[(4,0,60,1016)]),(35,[(4,0,69,401400)]),(41,[(4,0,89,401400)]),(42,[(1,14,3,0),(1,14,7,0)])] false 95 [] [] with wants:=[(36,[0,2]),(39,[0])],clones:=[(41,43)] }
theorem oC3:CtxOk Tryz.prog oC2:=xV0 sE3 rfl ⟨sM8,sO,rI6,rH8,pG4,rI5,qG7,pH5,qH0,pH7,oN5,trivial⟩ rfl (by kernel_rfl) rfl qO3
theorem pH9:SpecOk Tryz.prog 16 sB4:=fl oC3 Tryz.func16 (bs:=[]) trivial
abbrev vA7:Type:=(D28×(Int×Int×Int×(List D49)×Int×(Int×Int×(List Int)×Unit)×(List D87)×(List D90)×Unit)×Int×Int×Int×Unit)
abbrev wU5:Type:=((List (Int×Int×Unit))×Int×Unit)
def uX2 (y:vA7)(x:wU5):Prop×Bool×wU5:=
 let a2:=y.1
 let a8:=y.2.2.1
 let a53:=x.2.1
 let v54:=(decide (a53<y.2.2.2.2.1))
 let v61:=(a8+a53)
 ((v54=true→(InR (a8+a53)∧(InB v61 (len a2.2.2.2.1)∧(InR (a2.2.2.2.2.1+a53)∧InR (a53+1))))),v54,((xL8 (.int .i64) (.int .i64) (nth a2.2.2.2.1 v61 Z49).1 (a2.2.2.2.2.1+a53) x.1),(a53+1),()))
def wZ y x:=(uX2 y x).1
def wP0 y x:=(uX2 y x).2.1
def wD5 y x:=(uX2 y x).2.2
instance (y:vA7)(x:wU5):Decidable (wZ y x):=by
 unfold wZ uX2
 try dsimp only
 infer_instance
def vS4 (y:vA7)(x:wU5):(List (Int×Int×Unit)):=
 x.1
def tV1:List (Nat×Sh):=[(2,(.box T28 (.val T28))),(4,(.box T28 (.agg (.cons (.int .i64) (.cons (.int .i64) (.cons (.int .i64) (.cons (.sl T49) (.cons (.int .i64) (.cons T24 (.cons (.sl T87) (.cons (.sl T90) .nl)))))))) (.cons vI (.cons vI (.cons vI (.cons (.val (.sl T49)) (.cons vI (.cons (.agg (.cons (.int .i64) (.cons (.int .i64) (.cons (.sl (.int .i64)) .nl))) (.cons vI (.cons vI (.cons (.val (.sl (.int .i64))) .nl)))) (.cons (.val (.sl T87)) (.cons (.val (.sl T90)) .nl))))))))))),(8,vI),(9,vI),(10,(.own (xD0 (.int .i64) (.int .i64)) 1010 true))]
def uU9:St→Option Out:=xP4 [(2,(.box T28 (.val T28))),(4,(.box T28 (.agg (.cons (.int .i64) (.cons (.int .i64) (.cons (.int .i64) (.cons (.sl T49) (.cons (.int .i64) (.cons T24 (.cons (.sl T87) (.cons (.sl T90) .nl)))))))) (.cons vI (.cons vI (.cons vI (.cons (.val (.sl T49)) (.cons vI (.cons (.agg (.cons (.int .i64) (.cons (.int .i64) (.cons (.sl (.int .i64)) .nl))) (.cons vI (.cons vI (.cons (.val (.sl (.int .i64))) .nl)))) (.cons (.val (.sl T87)) (.cons (.val (.sl T90)) .nl))))))))))),(8,vI),(9,vI),(52,vI)] [(10,(.own (xD0 (.int .i64) (.int .i64)) 1010 true)),(53,vI)] wP0 wD5 wZ fun y x=>[ex 2 none tV1 (y.1,y.2.1,y.2.2.1,y.2.2.2.1,(vS4 y x),())]
abbrev vA8:Type:=(D28×(Int×Int×Int×(List D49)×Int×(Int×Int×(List Int)×Unit)×(List D87)×(List D90)×Unit)×Int×Int×(List (Int×Int×Unit))×Int×Unit)
abbrev wU6:Type:=((List D49)×Int×Unit)
def uJ3 (y:vA8)(x:wU6):Prop×Bool×wU6:=
 let a2:=y.1
 let a8:=y.2.2.1
 let a10:=y.2.2.2.2.1
 let a12:=x.1
 let a74:=x.2.1
 let v75:=(decide (a74<y.2.2.2.2.2.1))
 let v81:=(a8+a74)
 let v82:=(nth a2.2.2.2.1 v81 Z49)
 let v84:=(f35 v82)
 let v88:=(Option.getD (yI5 (.int .i64) (.int .i64) v84.1 a10) (0:Int))
 let s:=(v88,v84.2)
 let s_1:=(v88,v84.2.1,(Option.getD (yI5 (.int .i64) (.int .i64) v84.2.2.1 a10) (0:Int)),v84.2.2.2)
 let m14:=(bif (Option.isSome (yI5 (.int .i64) (.int .i64) v84.2.2.1 a10)) then s_1 else s)
 let s_2:=(m14.1,m14.2.1,m14.2.2.1,m14.2.2.2.1,m14.2.2.2.2.1,m14.2.2.2.2.2.1,m14.2.2.2.2.2.2.1,m14.2.2.2.2.2.2.2.1,m14.2.2.2.2.2.2.2.2.1,m14.2.2.2.2.2.2.2.2.2.1,m14.2.2.2.2.2.2.2.2.2.2.1,m14.2.2.2.2.2.2.2.2.2.2.2.1,m14.2.2.2.2.2.2.2.2.2.2.2.2.1,m14.2.2.2.2.2.2.2.2.2.2.2.2.2.1,m14.2.2.2.2.2.2.2.2.2.2.2.2.2.2.1,m14.2.2.2.2.2.2.2.2.2.2.2.2.2.2.2.1,m14.2.2.2.2.2.2.2.2.2.2.2.2.2.2.2.2.1,m14.2.2.2.2.2.2.2.2.2.2.2.2.2.2.2.2.2.1,m14.2.2.2.2.2.2.2.2.2.2.2.2.2.2.2.2.2.2.1,m14.2.2.2.2.2.2.2.2.2.2.2.2.2.2.2.2.2.2.2.1,m14.2.2.2.2.2.2.2.2.2.2.2.2.2.2.2.2.2.2.2.2.1,m14.2.2.2.2.2.2.2.2.2.2.2.2.2.2.2.2.2.2.2.2.2.1,m14.2.2.2.2.2.2.2.2.2.2.2.2.2.2.2.2.2.2.2.2.2.2.1,m14.2.2.2.2.2.2.2.2.2.2.2.2.2.2.2.2.2.2.2.2.2.2.2.1,m14.2.2.2.2.2.2.2.2.2.2.2.2.2.2.2.2.2.2.2.2.2.2.2.2.1,m14.2.2.2.2.2.2.2.2.2.2.2.2.2.2.2.2.2.2.2.2.2.2.2.2.2.1,(Option.getD (yI5 (.int .i64) (.int .i64) m14.2.2.2.2.2.2.2.2.2.2.2.2.2.2.2.2.2.2.2.2.2.2.2.2.2.2.1 a10) (0:Int)),m14.2.2.2.2.2.2.2.2.2.2.2.2.2.2.2.2.2.2.2.2.2.2.2.2.2.2.2.1,())
 let l1012:=(List.set a12 (Int.toNat a74) (bif (bif (Option.isSome (yI5 (.int .i64) (.int .i64) m14.2.2.2.2.2.2.2.2.2.2.2.2.2.2.2.2.2.2.2.2.2.2.2.2.2.2.1 a10)) then (m14.2.1==10) else false) then s_2 else m14))
 ((v75=true→(InR (a8+a74)∧(InB v81 (len a2.2.2.2.1)∧((tL2 v82)∧(InB a74 (len a12)∧(a74<len a12∧InR (a74+1))))))),v75,(l1012,(a74+1),()))
def wQ6 y x:=(uJ3 y x).1
def wL7 y x:=(uJ3 y x).2.1
def wA9 y x:=(uJ3 y x).2.2
instance (y:vA8)(x:wU6):Decidable (wQ6 y x):=by
 unfold wQ6 uJ3
 try dsimp only
 infer_instance
def vD6 (y:vA8)(x:wU6):(List D49):=
 x.1
def tV2:List (Nat×Sh):=[(2,(.box T28 (.val T28))),(4,(.box T28 (.agg (.cons (.int .i64) (.cons (.int .i64) (.cons (.int .i64) (.cons (.sl T49) (.cons (.int .i64) (.cons T24 (.cons (.sl T87) (.cons (.sl T90) .nl)))))))) (.cons vI (.cons vI (.cons vI (.cons (.val (.sl T49)) (.cons vI (.cons (.agg (.cons (.int .i64) (.cons (.int .i64) (.cons (.sl (.int .i64)) .nl))) (.cons vI (.cons vI (.cons (.val (.sl (.int .i64))) .nl)))) (.cons (.val (.sl T87)) (.cons (.val (.sl T90)) .nl))))))))))),(8,vI),(9,vI),(12,(.own T49 1012 true))]
def uV:St→Option Out:=xP4 [(2,(.box T28 (.val T28))),(4,(.box T28 (.agg (.cons (.int .i64) (.cons (.int .i64) (.cons (.int .i64) (.cons (.sl T49) (.cons (.int .i64) (.cons T24 (.cons (.sl T87) (.cons (.sl T90) .nl)))))))) (.cons vI (.cons vI (.cons vI (.cons (.val (.sl T49)) (.cons vI (.cons (.agg (.cons (.int .i64) (.cons (.int .i64) (.cons (.sl (.int .i64)) .nl))) (.cons vI (.cons vI (.cons (.val (.sl (.int .i64))) .nl)))) (.cons (.val (.sl T87)) (.cons (.val (.sl T90)) .nl))))))))))),(8,vI),(9,vI),(10,(.own (xD0 (.int .i64) (.int .i64)) 1010 true)),(73,vI)] [(12,(.own T49 1012 true)),(74,vI)] wL7 wA9 wQ6 fun y x=>[ex 4 none tV2 (y.1,y.2.1,y.2.2.1,y.2.2.2.1,(vD6 y x),())]
def f17t (p0:D28)(p1:Int):Prop×((Int×Int×Int×(List D49)×Int×D24×(List D87)×(List D90)×Unit)×Int×Int×Unit):=
 let v21:=(f9 p0)
 let v23:=(v21 !=0)
 let v28:=(f8 p0 p1)
 let v30:=(decide (v28<0))
 let v35:=(len (f11 p0 p1))
 let v36:=(1+v35)
 let v39:=(len p0.2.2.2.1)
 let v42:=(decide ((v39+v36)>64))
 let v49:=(bif v42 then true else (decide ((p0.2.2.2.2.1+v36)>1073741824)))
 let y12:=(p0,((0:Int),(0:Int),(0:Int),([]:List D49),(0:Int),((0:Int),(0:Int),([]:List Int),()),([]:List D87),([]:List D90),()),v28,v36,v36,())
 let x12:=(([]:List (Int×Int×Unit)),(0:Int),())
 let v71:=(List.replicate (Int.toNat v36) Z49)
 let y18:=(p0,((0:Int),(0:Int),(0:Int),([]:List D49),(0:Int),((0:Int),(0:Int),([]:List Int),()),([]:List D87),([]:List D90),()),v28,v36,(vS4 y12 (zC3 (wP0 y12) (wD5 y12) x12)),(len v71),())
 let x18:=(v71,(0:Int),())
 let r18_4_0:=(vD6 y18 (zC3 (wL7 y18) (wA9 y18) x18))
 let v121:=(f34 p0)
 let v126:=(v28+v36)
 let m4_21:=(bif v23 then ((0:Int),(0:Int),([]:List Int),()) else (bif v30 then ((0:Int),(0:Int),([]:List Int),()) else (bif v49 then ((0:Int),(0:Int),([]:List Int),()) else v121.2.2.2.2.2.1)))
 let s_7:=((bif v23 then (0:Int) else (bif v30 then (0:Int) else (bif v49 then (0:Int) else v121.1))),(bif v23 then (0:Int) else (bif v30 then (0:Int) else (bif v49 then (0:Int) else v121.2.1))),(bif v23 then (0:Int) else (bif v30 then (0:Int) else (bif v49 then (0:Int) else v121.2.2.1))),(bif v23 then [] else (bif v30 then [] else (bif v49 then [] else (f36 v121.2.2.2.1 v126 r18_4_0)))),(bif v23 then (0:Int) else (bif v30 then (0:Int) else (bif v49 then (0:Int) else (v121.2.2.2.2.1+v36)))),m4_21,(bif v23 then [] else (bif v30 then [] else (bif v49 then [] else v121.2.2.2.2.2.2.1))),(bif v23 then [] else (bif v30 then [] else (bif v49 then [] else v121.2.2.2.2.2.2.2.1))),())
 (((vM0 p0)∧((!v23)=true→((vX5 p0 p1)∧((!v30)=true→((uJ0 p0 p1)∧(InR (1+v35)∧(InR (v39+v36)∧(((!v42)=true→InR (p0.2.2.2.2.1+v36))∧((!v49)=true→((Am.Ends (wP0 y12) (wD5 y12) (wZ y12) x12)∧((0≤v36∧v36≤v36∧v36≤4294967296)∧((Am.Ends (wL7 y18) (wA9 y18) (wQ6 y18) x18)∧((uI9 p0)∧(InR (v28+v36)∧((uU7 v121.2.2.2.1 v126 r18_4_0)∧InR (v121.2.2.2.2.1+v36)))))))))))))))),(s_7,(bif v23 then (0:Int) else (bif v30 then (0:Int) else (bif v49 then (0:Int) else p0.2.2.2.2.1))),(bif v23 then v21 else (bif v30 then (9:Int) else (bif v49 then (3:Int) else (0:Int)))),()))
def uJ4 p0 p1:=(f17t p0 p1).1
def f17 p0 p1:=(f17t p0 p1).2
instance (p0:D28)(p1:Int):Decidable (uJ4 p0 p1):=by
 unfold uJ4 f17t
 try dsimp only
 infer_instance
def sB5:Am.Spec:=fnSpec [(0,(.val T28)),(1,vI)] (.tup (.cons (.agg (.cons (.int .i64) (.cons (.int .i64) (.cons (.int .i64) (.cons (.sl T49) (.cons (.int .i64) (.cons T24 (.cons (.sl T87) (.cons (.sl T90) .nl)))))))) (.cons vI (.cons vI (.cons vI (.cons (.own T49 0 true) (.cons vI (.cons (.val T24) (.cons (.val (.sl T87)) (.cons (.own T90 3 true) .nl))))))))) (.cons vI (.cons vI .nl)))) [] (fun x=>uJ4 x.1 x.2.1) (fun x=>f17 x.1 x.2.1) (fun _=>())
def sX9:Ctx:={ Cx tys [(8,vL8),(9,vM1),(11,uJ1),(34,uJ),(35,uW9),(36,uX0)] [(12,uU9),(18,uV)] [(21,[(4,0,51,1010)]),(33,[(4,0,71,1012)]),(61,[(4,0,121,401900),(4,0,300121,401903)]),(63,[(4,0,128,401900)]),(67,[(4,0,401900,0),(4,0,401903,3)])] false 138 [] [71] with wants:=[(36,[0,2])],maps:=maps }
theorem sY:CtxOk Tryz.prog sX9:=cq ⟨sM8,sO,rI6,rI5,qF9,qG7,trivial⟩
noncomputable def rJ:Code:=Tryz.f17.body.getD .skip
noncomputable def qH5:Code:=xX1 rJ 0
theorem rS3:yU8 Tryz.prog sX9 qH5:=lq sY (sp:=uU9) rfl [tV1]
noncomputable def qH6:Code:=xX1 rJ 1
theorem rS4:yU8 Tryz.prog sX9 qH6:=lq sY (sp:=uV) rfl [tV2]
theorem pI:SpecOk Tryz.prog 17 sB5:=fl sY Tryz.func17 (bs:=[qH5,qH6]) ⟨rS3,rS4,trivial⟩
def f31t (p0:Int)(p1:Int)(p2:Int):Prop×(D28×Int×Unit):=
 let s_1:=(p0,p1,p2,([]:List D49),(1:Int),((0:Int),(0:Int),([]:List Int),()),([]:List D87),([]:List D90),())
 let v15:=(f23 s_1)
 let v17:=(v15 !=0)
 let s_3:=((bif v17 then (0:Int) else p0),(bif v17 then (0:Int) else p1),(bif v17 then (0:Int) else p2),([]:List D49),(bif v17 then (0:Int) else (1:Int)),((bif v17 then (0:Int) else (0:Int)),(bif v17 then (0:Int) else (0:Int)),([]:List Int),()),([]:List D87),([]:List D90),())
 ((uY8 s_1),(s_3,(bif v17 then v15 else (0:Int)),()))
def rJ0 p0 p1 p2:=(f31t p0 p1 p2).1
def f31 p0 p1 p2:=(f31t p0 p1 p2).2
instance (p0:Int)(p1:Int)(p2:Int):Decidable (rJ0 p0 p1 p2):=by
 unfold rJ0 f31t
 try dsimp only
 infer_instance
def rJ1:Am.Spec:=fnSpec [(0,vI),(1,vI),(2,vI)] (.tup (.cons (.val T28) (.cons vI .nl))) [] (fun x=>rJ0 x.1 x.2.1 x.2.2.1) (fun x=>f31 x.1 x.2.1 x.2.2.1) (fun _=>())
def oC4:Ctx:=Cx tys [(23,tW7)] [] [] false 21 [] []
theorem oN6:SpecOk Tryz.prog 31 rJ1:=fq (c:=oC4) Tryz.func31 ⟨pE4,trivial⟩
abbrev vX1:Type:=(D28×Unit)
abbrev vD7:Type:=(Int×Int×Unit)
def sB6 (y:vX1)(x:vD7):Prop×Bool×vD7:=
 let a2:=y.1
 let a5:=x.1
 let a6:=x.2.1
 let v23:=((nth a2.2.2.2.1 a5 Z49).2.2.1 !=0)
 let v28:=(nth a2.2.2.2.1 a5 Z49)
 ((InB a5 (len a2.2.2.2.1)∧(v23=true→(InB a5 (len a2.2.2.2.1)∧((vX5 a2 v28.2.2.1)∧InR (a6+1))))),v23,((f8 a2 v28.2.2.1),(a6+1),()))
def uJ5 y x:=(sB6 y x).1
def sB7 y x:=(sB6 y x).2.1
def uA9 y x:=(sB6 y x).2.2
instance (y:vX1)(x:vD7):Decidable (uJ5 y x):=by
 unfold uJ5 sB6
 try dsimp only
 infer_instance
def tM (y:vX1)(x:vD7):Int:=
 x.2.1
def tM0:St→Option Out:=xP4 [(2,(.box T28 (.val T28)))] [(5,vI),(6,vI)] sB7 uA9 uJ5 fun y x=>[ex 2 none [(6,vI)] ((tM y x),())]
def f32t (p0:D28)(p1:Int):Prop×Int:=
 let v9:=(f8 p0 p1)
 let v11:=(decide (v9<0))
 let v16:=(bif v11 then true else ((f9 p0)!=0))
 let y5:=(p0,())
 let x5:=(v9,(1:Int),())
 (((vX5 p0 p1)∧(((!v11)=true→(vM0 p0))∧((!v16)=true→(Am.Ends (sB7 y5) (uA9 y5) (uJ5 y5) x5)))),(bif v16 then (0:Int) else (tM y5 (zC3 (sB7 y5) (uA9 y5) x5))))
def rJ2 p0 p1:=(f32t p0 p1).1
def f32 p0 p1:=(f32t p0 p1).2
instance (p0:D28)(p1:Int):Decidable (rJ2 p0 p1):=by
 unfold rJ2 f32t
 try dsimp only
 infer_instance
def rJ3:Am.Spec:=fnSpec [(0,(.val T28)),(1,vI)] vI [] (fun x=>rJ2 x.1 x.2.1) (fun x=>f32 x.1 x.2.1) (fun _=>())
def qH7:Ctx:=Cx tys [(8,vL8),(9,vM1)] [(5,tM0)] [] false 35 [] []
theorem qH8:CtxOk Tryz.prog qH7:=cq ⟨sM8,sO,trivial⟩
noncomputable def qX:Code:=Tryz.f32.body.getD .skip
noncomputable def pI0:Code:=xX1 qX 0
theorem qH9:yU8 Tryz.prog qH7 pI0:=lq qH8 (sp:=tM0) rfl [[(6,vI)]]
theorem oN7:SpecOk Tryz.prog 32 rJ3:=fl qH8 Tryz.func32 (bs:=[pI0]) ⟨qH9,trivial⟩
def f10t :Prop×Bool:=
 let s:=((5:Int),(0:Int),(0:Int),(9:Int),())
 let v15:=(f31 (4:Int) (4:Int) (0:Int))
 let v34:=(bif (bif (bif (v15.2.1 !=0) then true else (v15.1.1 !=4)) then true else (v15.1.2.1 !=4)) then true else (v15.1.2.2.2.2.1 !=1))
 let s_4:=((0:Int),(1:Int),(0:Int),([103]:List UInt8),false,false,false,(65535:Int),(0:Int),((0:Int),(0:Int),([]:List Int),()),Z37,(0:Int),((0:Int),(0:Int),([]:List D42),()),Z42,(0:Int),([]:List Int),(0:Int),([]:List D122),([]:List D128),(0:Int),(0:Int),(0:Int),(0:Int),([]:List UInt8),(0:Int),(0:Int),(0:Int),((0:Int),(0:Int),(0:Int),([]:List D125),()),())
 let v38:=(f14 v15.1 s_4 (0:Int) (0:Int))
 let v47:=(bif (v38.2.2.1 !=0) then true else (v38.2.1 !=1))
 let s_8:=((0:Int),(3:Int),(0:Int),([102]:List UInt8),false,false,false,(65535:Int),(0:Int),((0:Int),(0:Int),([]:List Int),()),Z37,(0:Int),((0:Int),(0:Int),([]:List D42),()),s,(0:Int),([]:List Int),(0:Int),([]:List D122),([]:List D128),(0:Int),(0:Int),(0:Int),(0:Int),([]:List UInt8),(0:Int),(0:Int),(0:Int),((0:Int),(0:Int),(0:Int),([]:List D125),()),())
 let v51:=(f14 v38.1 s_8 (1:Int) (0:Int))
 let v60:=(bif (v51.2.2.1 !=0) then true else (v51.2.1 !=2))
 let s_12:=((0:Int),(3:Int),(0:Int),([102]:List UInt8),false,false,false,(65535:Int),(0:Int),((0:Int),(0:Int),([]:List Int),()),Z37,(0:Int),((0:Int),(0:Int),([]:List D42),()),s,(0:Int),([]:List Int),(0:Int),([]:List D122),([]:List D128),(0:Int),(0:Int),(0:Int),(0:Int),([]:List UInt8),(0:Int),(0:Int),(0:Int),((0:Int),(0:Int),(0:Int),([]:List D125),()),())
 let v64:=(f14 v51.1 s_12 (0:Int) (0:Int))
 let v73:=(bif (v64.2.2.1 !=0) then true else (v64.2.1 !=3))
 let v76:=(f13 v64.1)
 let v77:=([(3:Int),(1:Int),(2:Int)]:List Int)
 let v80:=(bif v73 then true else (!(f12 v76 v77)))
 let v83:=(f20 v64.1 (0:Int))
 let v84:=([(3:Int),(1:Int)]:List Int)
 let v87:=(bif v80 then true else (!(f12 v83 v84)))
 let v92:=(bif v87 then true else ((f32 v64.1 (2:Int))!=2))
 let v97:=(bif v92 then true else ((f9 v64.1)!=0))
 let v100:=(f16 v64.1 (3:Int) (1:Int) (1:Int))
 let v104:=(v100.2.1 !=0)
 let v107:=(f13 v100.1)
 let v108:=([(1:Int),(2:Int),(3:Int)]:List Int)
 let v111:=(bif v104 then true else (!(f12 v107 v108)))
 let v118:=((f16 v64.1 (1:Int) (1:Int) (0:Int)).2.1 !=11)
 let s_16:=((0:Int),(3:Int),(0:Int),([102]:List UInt8),false,false,true,(65535:Int),(0:Int),((0:Int),(0:Int),([]:List Int),()),Z37,(0:Int),((0:Int),(0:Int),([]:List D42),()),s,(0:Int),([]:List Int),(0:Int),([]:List D122),([]:List D128),(0:Int),(0:Int),(0:Int),(0:Int),([]:List UInt8),(0:Int),(0:Int),(0:Int),((0:Int),(0:Int),(0:Int),([]:List D125),()),())
 let v128:=((f14 v64.1 s_16 (0:Int) (0:Int)).2.2.1 !=14)
 let v131:=(f17 v64.1 (1:Int))
 let v140:=(bif (v131.2.2.1==0) then (v131.2.1==4) else false)
 let s_17:=(v131.1.1,v131.1.2.1,v131.1.2.2.1,v131.1.2.2.2.1,v131.1.2.2.2.2.1,v131.1.2.2.2.2.2.1,v131.1.2.2.2.2.2.2.1,v131.1.2.2.2.2.2.2.2.1,())
 let v143:=(f13 s_17)
 let v144:=([(3:Int),(1:Int),(2:Int),(4:Int),(5:Int)]:List Int)
 let v151:=(bif (bif v140 then (f12 v143 v144) else false) then (v131.1.2.2.2.2.1==6) else false)
 let m0_4:=(bif v60 then false else (bif v97 then false else (bif v111 then false else (bif v118 then false else (bif v128 then false else (bif v151 then (((nth v131.1.2.2.2.1 (4:Int) Z49).2.2.1)==4) else false))))))
 (((rJ0 (4:Int) (4:Int) (0:Int))∧((!v34)=true→((uJ2 v15.1 s_4 (0:Int) (0:Int))∧((!v47)=true→((uJ2 v38.1 s_8 (1:Int) (0:Int))∧((!v60)=true→((uJ2 v51.1 s_12 (0:Int) (0:Int))∧(((!v73)=true→(tU3 v64.1))∧(((!v73)=true→(tK7 v76 v77))∧(((!v80)=true→(uU3 v64.1 (0:Int)))∧(((!v80)=true→(tK7 v83 v84))∧(((!v87)=true→(rJ2 v64.1 (2:Int)))∧(((!v92)=true→(vM0 v64.1))∧((!v97)=true→((tL9 v64.1 (3:Int) (1:Int) (1:Int))∧(((!v104)=true→(tU3 v100.1))∧(((!v104)=true→(tK7 v107 v108))∧((!v111)=true→((tL9 v64.1 (1:Int) (1:Int) (0:Int))∧((!v118)=true→((uJ2 v64.1 s_16 (0:Int) (0:Int))∧((!v128)=true→((uJ4 v64.1 (1:Int))∧((v140=true→(tU3 s_17))∧((v140=true→(tK7 v143 v144))∧((v151=true→InB (4:Int) (len v131.1.2.2.2.1))∧(v151=true→(4:Int)<len v131.1.2.2.2.1))))))))))))))))))))))))))),(bif v34 then false else (bif v47 then false else m0_4)))
def tV3 :Prop:=(f10t).1
def f10 :Bool:=(f10t).2
instance :Decidable (tV3):=by
 unfold tV3 f10t
 try dsimp only
 infer_instance
def rJ4:Am.Spec:=fnSpec [] vB [] (fun x=>tV3 ) (fun x=>f10 ) (fun _=>())
def oC5:Ctx:=Cx tys [(9,vM1),(12,rH6),(13,rH7),(14,sB2),(16,sB4),(17,sB5),(20,uI8),(31,rJ1),(32,rJ3)] [] [(51,[(4,0,131,400900),(4,0,300131,400903)])] false 160 [] []
theorem oC6:CtxOk Tryz.prog oC5:=cq ⟨sO,oK9,oL,pH6,pH9,pI,rH8,oN6,oN7,trivial⟩
theorem oN8:SpecOk Tryz.prog 10 rJ4:=fl oC6 Tryz.func10 (bs:=[]) trivial
def f15t (p0:D28)(p1:Int):Prop×(D28×Int×Unit):=
 let v10:=(f9 p0)
 let v12:=(v10 !=0)
 let v17:=(f8 p0 p1)
 let v19:=(decide (v17<0))
 let v22:=(f34 p0)
 let v27:=(v17+1)
 let v31:=(len (f11 p0 p1))
 let v32:=(v27+v31)
 let s:=(v22.1,v22.2.1,v22.2.2.1,(f39 v22.2.2.2.1 v17 v32),v22.2.2.2.2)
 let v36:=(f38 s)
 let m4_1:=(bif v12 then ((0:Int),(0:Int),(0:Int),([]:List D49),(0:Int),((0:Int),(0:Int),([]:List Int),()),([]:List D87),([]:List D90),()) else (bif v19 then ((0:Int),(0:Int),(0:Int),([]:List D49),(0:Int),((0:Int),(0:Int),([]:List Int),()),([]:List D87),([]:List D90),()) else v36.1))
 (((vM0 p0)∧((!v12)=true→((vX5 p0 p1)∧((!v19)=true→((uI9 p0)∧(InR (v17+1)∧((uJ0 p0 p1)∧(InR (v27+v31)∧((sO6 v22.2.2.2.1 v17 v32)∧(uU8 s)))))))))),(m4_1,(bif v12 then v10 else (bif v19 then (9:Int) else v36.2.1)),()))
def sO8 p0 p1:=(f15t p0 p1).1
def f15 p0 p1:=(f15t p0 p1).2
instance (p0:D28)(p1:Int):Decidable (sO8 p0 p1):=by
 unfold sO8 f15t
 try dsimp only
 infer_instance
def rJ5:Am.Spec:=fnSpec [(0,(.val T28)),(1,vI)] (.tup (.cons (.val T28) (.cons vI .nl))) [] (fun x=>sO8 x.1 x.2.1) (fun x=>f15 x.1 x.2.1) (fun _=>())
def oC7:Ctx:={ Cx tys [(8,vL8),(9,vM1),(11,uJ1),(34,uJ),(38,uX1),(39,sB3)] [] [(15,[(4,0,22,400800),(4,0,300022,400803)]),(17,[(4,0,33,400800)]),(18,[(1,8,3,0),(1,8,7,0)])] false 39 [] [] with wants:=[(39,[0])] }
theorem oN9:SpecOk Tryz.prog 15 rJ5:=fq (c:=oC7) Tryz.func15 ⟨sM8,sO,rI6,rI5,qH0,pH7,trivial⟩
def f4t (p0:D28)(p1:D52)(p2:D54):Prop×Bool:=
 let v25:=(f14 p0 p1.1 p1.2.1 p1.2.2.1)
 let v30:=(v25.2.2.1==0)
 let v35:=(bif v30 then ((f9 v25.1)!=0) else false)
 let v40:=(f15 p0 p2.1)
 let v44:=(v40.2.1==0)
 let v49:=(bif v44 then ((f9 v40.1)!=0) else false)
 let v58:=(f16 p0 p2.1 p2.2.1 p2.2.2.1)
 let v62:=(v58.2.1==0)
 let v67:=(bif v62 then ((f9 v58.1)!=0) else false)
 let v72:=(f17 p0 p2.1)
 let v77:=(v72.2.2.1 !=0)
 let s:=(v72.1.1,v72.1.2.1,v72.1.2.2.1,v72.1.2.2.2.1,v72.1.2.2.2.2.1,v72.1.2.2.2.2.2.1,v72.1.2.2.2.2.2.2.1,v72.1.2.2.2.2.2.2.2.1,())
 let v82:=(bif v77 then true else ((f9 s)==0))
 (((uJ2 p0 p1.1 p1.2.1 p1.2.2.1)∧((v30=true→(vM0 v25.1))∧((!v35)=true→((sO8 p0 p2.1)∧((v44=true→(vM0 v40.1))∧((!v49)=true→((tL9 p0 p2.1 p2.2.1 p2.2.2.1)∧((v62=true→(vM0 v58.1))∧((!v67)=true→((uJ4 p0 p2.1)∧(((!v77)=true→(vM0 s))∧(v82=true→tV3)))))))))))),(bif v35 then false else (bif v49 then false else (bif v67 then false else (bif v82 then f10 else false)))))
def f4_ok p0 p1 p2:=(f4t p0 p1 p2).1
def f4 p0 p1 p2:=(f4t p0 p1 p2).2
instance (p0:D28)(p1:D52)(p2:D54):Decidable (f4_ok p0 p1 p2):=by
 unfold f4_ok f4t
 try dsimp only
 infer_instance
def oC8:Am.Spec:=fnSpec [(0,(.val T28)),(1,(.val T52)),(2,(.val T54))] vB [] (fun x=>f4_ok x.1 x.2.1 x.2.2.1) (fun x=>f4 x.1 x.2.1 x.2.2.1) (fun _=>())
def oO:Ctx:=Cx tys [(9,vM1),(10,rJ4),(14,sB2),(15,rJ5),(16,sB4),(17,sB5)] [] [(21,[(4,0,72,401400),(4,0,300072,401403)]),(22,[(1,14,3,0),(1,14,7,0)])] false 86 [] []
theorem f4_is:SpecOk Tryz.prog 4 oC8:=fq (c:=oO) Tryz.func4 ⟨sO,oN8,pH6,oN9,pH9,pI,trivial⟩
abbrev vM3:Type:=((List Int)×(List Int)×Int×Unit)
abbrev wW4:Type:=(Int×Unit)
def tM1 (y:vM3)(x:wW4):Prop×Bool×wW4×Bool×Bool:=
 let a0:=y.1
 let a1:=y.2.1
 let a13:=x.1
 let v14:=(decide (a13<y.2.2.1))
 let v24:=((nth a0 a13 (0:Int))!=(nth a1 a13 (0:Int)))
 ((v14=true→(InB a13 (len a0)∧(InB a13 (len a1)∧((!v24)=true→InR (a13+1))))),(v14&&(!v24)),((a13+1),()),(v14&&v24),(!v14))
def tM2 y x:=(tM1 y x).1
def rJ6 y x:=(tM1 y x).2.1
def tM3 y x:=(tM1 y x).2.2.1
def qI y x:=(tM1 y x).2.2.2.1
instance (y:vM3)(x:wW4):Decidable (tM2 y x):=by
 unfold tM2 tM1
 try dsimp only
 infer_instance
def sY0 (y:vM3)(x:wW4):Bool:=
 false
def f44t (p0:List Int)(p1:List Int):Prop×Bool:=
 let v10:=((len p0)!=(len p1))
 let y4:=(p0,p1,(len p0),())
 let x4:=((0:Int),())
 let e4:=(zC3 (rJ6 y4) (tM3 y4) x4)
 (((!v10)=true→(Am.Ends (rJ6 y4) (tM3 y4) (tM2 y4) x4)),(bif v10 then false else (bif (qI y4 e4) then (sY0 y4 e4) else true)))
def rJ7 p0 p1:=(f44t p0 p1).1
def f44 p0 p1:=(f44t p0 p1).2
instance (p0:List Int)(p1:List Int):Decidable (rJ7 p0 p1):=by
 unfold rJ7 f44t
 try dsimp only
 infer_instance
abbrev vM4:Type:=((List D42)×(List D42)×Int×Unit)
abbrev wW5:Type:=(Int×Unit)
def tM4 (y:vM4)(x:wW5):Prop×Bool×wW5×Bool×Bool:=
 let a0:=y.1
 let a1:=y.2.1
 let a13:=x.1
 let v14:=(decide (a13<y.2.2.1))
 let v24:=(!(Ty.eqb T42 (nth a0 a13 Z42) (nth a1 a13 Z42)))
 ((v14=true→(InB a13 (len a0)∧(InB a13 (len a1)∧((!v24)=true→InR (a13+1))))),(v14&&(!v24)),((a13+1),()),(v14&&v24),(!v14))
def tM5 y x:=(tM4 y x).1
def rJ8 y x:=(tM4 y x).2.1
def tM6 y x:=(tM4 y x).2.2.1
def qI0 y x:=(tM4 y x).2.2.2.1
instance (y:vM4)(x:wW5):Decidable (tM5 y x):=by
 unfold tM5 tM4
 try dsimp only
 infer_instance
def sY1 (y:vM4)(x:wW5):Bool:=
 false
def f96t (p0:List D42)(p1:List D42):Prop×Bool:=
 let v10:=((len p0)!=(len p1))
 let y4:=(p0,p1,(len p0),())
 let x4:=((0:Int),())
 let e4:=(zC3 (rJ8 y4) (tM6 y4) x4)
 (((!v10)=true→(Am.Ends (rJ8 y4) (tM6 y4) (tM5 y4) x4)),(bif v10 then false else (bif (qI0 y4 e4) then (sY1 y4 e4) else true)))
def qI1 p0 p1:=(f96t p0 p1).1
def f96 p0 p1:=(f96t p0 p1).2
instance (p0:List D42)(p1:List D42):Decidable (qI1 p0 p1):=by
 unfold qI1 f96t
 try dsimp only
 infer_instance
def f72t (p0:D40)(p1:D40):Prop×Bool:=
 let v16:=(bif (p0.1==p1.1) then (p0.2.1==p1.2.1) else false)
 ((v16=true→(qI1 p0.2.2.1 p1.2.2.1)),(bif v16 then (f96 p0.2.2.1 p1.2.2.1) else false))
def qI2 p0 p1:=(f72t p0 p1).1
def f72 p0 p1:=(f72t p0 p1).2
instance (p0:D40)(p1:D40):Decidable (qI2 p0 p1):=by
 unfold qI2 f72t
 try dsimp only
 infer_instance
abbrev vM5:Type:=((List D122)×(List D122)×Int×Unit)
abbrev wW6:Type:=(Int×Unit)
def tM7 (y:vM5)(x:wW6):Prop×Bool×wW6×Bool×Bool:=
 let a0:=y.1
 let a1:=y.2.1
 let a13:=x.1
 let v14:=(decide (a13<y.2.2.1))
 let v24:=(!(Ty.eqb T122 (nth a0 a13 Z122) (nth a1 a13 Z122)))
 ((v14=true→(InB a13 (len a0)∧(InB a13 (len a1)∧((!v24)=true→InR (a13+1))))),(v14&&(!v24)),((a13+1),()),(v14&&v24),(!v14))
def tM8 y x:=(tM7 y x).1
def rJ9 y x:=(tM7 y x).2.1
def tM9 y x:=(tM7 y x).2.2.1
def qI3 y x:=(tM7 y x).2.2.2.1
instance (y:vM5)(x:wW6):Decidable (tM8 y x):=by
 unfold tM8 tM7
 try dsimp only
 infer_instance
def sY2 (y:vM5)(x:wW6):Bool:=
 false
def f93t (p0:List D122)(p1:List D122):Prop×Bool:=
 let v10:=((len p0)!=(len p1))
 let y4:=(p0,p1,(len p0),())
 let x4:=((0:Int),())
 let e4:=(zC3 (rJ9 y4) (tM9 y4) x4)
 (((!v10)=true→(Am.Ends (rJ9 y4) (tM9 y4) (tM8 y4) x4)),(bif v10 then false else (bif (qI3 y4 e4) then (sY2 y4 e4) else true)))
def qI4 p0 p1:=(f93t p0 p1).1
def f93 p0 p1:=(f93t p0 p1).2
instance (p0:List D122)(p1:List D122):Decidable (qI4 p0 p1):=by
 unfold qI4 f93t
 try dsimp only
 infer_instance
abbrev vM6:Type:=((List D128)×(List D128)×Int×Unit)
abbrev wW7:Type:=(Int×Unit)
def tN (y:vM6)(x:wW7):Prop×Bool×wW7×Bool×Bool:=
 let a0:=y.1
 let a1:=y.2.1
 let a13:=x.1
 let v14:=(decide (a13<y.2.2.1))
 let v24:=(!(Ty.eqb T128 (nth a0 a13 Z128) (nth a1 a13 Z128)))
 ((v14=true→(InB a13 (len a0)∧(InB a13 (len a1)∧((!v24)=true→InR (a13+1))))),(v14&&(!v24)),((a13+1),()),(v14&&v24),(!v14))
def tN0 y x:=(tN y x).1
def rK y x:=(tN y x).2.1
def tN1 y x:=(tN y x).2.2.1
def qI5 y x:=(tN y x).2.2.2.1
instance (y:vM6)(x:wW7):Decidable (tN0 y x):=by
 unfold tN0 tN
 try dsimp only
 infer_instance
def sY3 (y:vM6)(x:wW7):Bool:=
 false
def f94t (p0:List D128)(p1:List D128):Prop×Bool:=
 let v10:=((len p0)!=(len p1))
 let y4:=(p0,p1,(len p0),())
 let x4:=((0:Int),())
 let e4:=(zC3 (rK y4) (tN1 y4) x4)
 (((!v10)=true→(Am.Ends (rK y4) (tN1 y4) (tN0 y4) x4)),(bif v10 then false else (bif (qI5 y4 e4) then (sY3 y4 e4) else true)))
def qI6 p0 p1:=(f94t p0 p1).1
def f94 p0 p1:=(f94t p0 p1).2
instance (p0:List D128)(p1:List D128):Decidable (qI6 p0 p1):=by
 unfold qI6 f94t
 try dsimp only
 infer_instance
abbrev vM7:Type:=((List D125)×(List D125)×Int×Unit)
abbrev wW8:Type:=(Int×Unit)
def tN2 (y:vM7)(x:wW8):Prop×Bool×wW8×Bool×Bool:=
 let a0:=y.1
 let a1:=y.2.1
 let a13:=x.1
 let v14:=(decide (a13<y.2.2.1))
 let v24:=(!(Ty.eqb T125 (nth a0 a13 Z125) (nth a1 a13 Z125)))
 ((v14=true→(InB a13 (len a0)∧(InB a13 (len a1)∧((!v24)=true→InR (a13+1))))),(v14&&(!v24)),((a13+1),()),(v14&&v24),(!v14))
def tN3 y x:=(tN2 y x).1
def rK0 y x:=(tN2 y x).2.1
def tN4 y x:=(tN2 y x).2.2.1
def qI7 y x:=(tN2 y x).2.2.2.1
instance (y:vM7)(x:wW8):Decidable (tN3 y x):=by
 unfold tN3 tN2
 try dsimp only
 infer_instance
def sY4 (y:vM7)(x:wW8):Bool:=
 false
def f95t (p0:List D125)(p1:List D125):Prop×Bool:=
 let v10:=((len p0)!=(len p1))
 let y4:=(p0,p1,(len p0),())
 let x4:=((0:Int),())
 let e4:=(zC3 (rK0 y4) (tN4 y4) x4)
 (((!v10)=true→(Am.Ends (rK0 y4) (tN4 y4) (tN3 y4) x4)),(bif v10 then false else (bif (qI7 y4 e4) then (sY4 y4 e4) else true)))
def qI8 p0 p1:=(f95t p0 p1).1
def f95 p0 p1:=(f95t p0 p1).2
instance (p0:List D125)(p1:List D125):Decidable (qI8 p0 p1):=by
 unfold qI8 f95t
 try dsimp only
 infer_instance
def f71t (p0:D49)(p1:D49):Prop×Bool:=
 let v17:=(bif (!(f72 p0.2.2.2.2.2.2.2.2.2.2.2.2.1 p1.2.2.2.2.2.2.2.2.2.2.2.2.1)) then true else (!(Ty.eqb T42 p0.2.2.2.2.2.2.2.2.2.2.2.2.2.1 p1.2.2.2.2.2.2.2.2.2.2.2.2.2.1)))
 let v29:=(bif (p0.2.2.2.2.2.2.2.2.2.2.2.2.2.2.1 !=p1.2.2.2.2.2.2.2.2.2.2.2.2.2.2.1) then true else (p0.2.2.2.2.2.2.2.2.2.2.2.2.2.2.2.2.1 !=p1.2.2.2.2.2.2.2.2.2.2.2.2.2.2.2.2.1))
 let v35:=(!(f44 p0.2.2.2.2.2.2.2.2.2.2.2.2.2.2.2.1 p1.2.2.2.2.2.2.2.2.2.2.2.2.2.2.2.1))
 let v43:=(bif v35 then true else (!(f93 p0.2.2.2.2.2.2.2.2.2.2.2.2.2.2.2.2.2.1 p1.2.2.2.2.2.2.2.2.2.2.2.2.2.2.2.2.2.1)))
 let v51:=(bif v43 then true else (!(f94 p0.2.2.2.2.2.2.2.2.2.2.2.2.2.2.2.2.2.2.1 p1.2.2.2.2.2.2.2.2.2.2.2.2.2.2.2.2.2.2.1)))
 let v63:=(bif (p0.2.2.2.2.2.2.2.2.2.2.2.2.2.2.2.2.2.2.2.1 !=p1.2.2.2.2.2.2.2.2.2.2.2.2.2.2.2.2.2.2.2.1) then true else (p0.2.2.2.2.2.2.2.2.2.2.2.2.2.2.2.2.2.2.2.2.1 !=p1.2.2.2.2.2.2.2.2.2.2.2.2.2.2.2.2.2.2.2.2.1))
 let v77:=(bif (bif v63 then true else (p0.2.2.2.2.2.2.2.2.2.2.2.2.2.2.2.2.2.2.2.2.2.1 !=p1.2.2.2.2.2.2.2.2.2.2.2.2.2.2.2.2.2.2.2.2.2.1)) then true else (p0.2.2.2.2.2.2.2.2.2.2.2.2.2.2.2.2.2.2.2.2.2.2.1 !=p1.2.2.2.2.2.2.2.2.2.2.2.2.2.2.2.2.2.2.2.2.2.2.1))
 let v89:=(bif (!(p0.2.2.2.2.2.2.2.2.2.2.2.2.2.2.2.2.2.2.2.2.2.2.2.1==p1.2.2.2.2.2.2.2.2.2.2.2.2.2.2.2.2.2.2.2.2.2.2.2.1)) then true else (p0.2.2.2.2.2.2.2.2.2.2.2.2.2.2.2.2.2.2.2.2.2.2.2.2.1 !=p1.2.2.2.2.2.2.2.2.2.2.2.2.2.2.2.2.2.2.2.2.2.2.2.2.1))
 let v103:=(bif (bif v89 then true else (p0.2.2.2.2.2.2.2.2.2.2.2.2.2.2.2.2.2.2.2.2.2.2.2.2.2.1 !=p1.2.2.2.2.2.2.2.2.2.2.2.2.2.2.2.2.2.2.2.2.2.2.2.2.2.1)) then true else (p0.2.2.2.2.2.2.2.2.2.2.2.2.2.2.2.2.2.2.2.2.2.2.2.2.2.2.1 !=p1.2.2.2.2.2.2.2.2.2.2.2.2.2.2.2.2.2.2.2.2.2.2.2.2.2.2.1))
 let v119:=(bif (p0.2.2.2.2.2.2.2.2.2.2.2.2.2.2.2.2.2.2.2.2.2.2.2.2.2.2.2.1.1 !=p1.2.2.2.2.2.2.2.2.2.2.2.2.2.2.2.2.2.2.2.2.2.2.2.2.2.2.2.1.1) then true else (p0.2.2.2.2.2.2.2.2.2.2.2.2.2.2.2.2.2.2.2.2.2.2.2.2.2.2.2.1.2.1 !=p1.2.2.2.2.2.2.2.2.2.2.2.2.2.2.2.2.2.2.2.2.2.2.2.2.2.2.2.1.2.1))
 let v128:=(bif v119 then true else (p0.2.2.2.2.2.2.2.2.2.2.2.2.2.2.2.2.2.2.2.2.2.2.2.2.2.2.2.1.2.2.1 !=p1.2.2.2.2.2.2.2.2.2.2.2.2.2.2.2.2.2.2.2.2.2.2.2.2.2.2.2.1.2.2.1))
 let m4_2:=(bif v77 then false else (bif v103 then false else (bif v128 then false else (f95 p0.2.2.2.2.2.2.2.2.2.2.2.2.2.2.2.2.2.2.2.2.2.2.2.2.2.2.2.1.2.2.2.1 p1.2.2.2.2.2.2.2.2.2.2.2.2.2.2.2.2.2.2.2.2.2.2.2.2.2.2.2.1.2.2.2.1))))
 (((qI2 p0.2.2.2.2.2.2.2.2.2.2.2.2.1 p1.2.2.2.2.2.2.2.2.2.2.2.2.1)∧((!v17)=true→((!v29)=true→((rJ7 p0.2.2.2.2.2.2.2.2.2.2.2.2.2.2.2.1 p1.2.2.2.2.2.2.2.2.2.2.2.2.2.2.2.1)∧(((!v35)=true→(qI4 p0.2.2.2.2.2.2.2.2.2.2.2.2.2.2.2.2.2.1 p1.2.2.2.2.2.2.2.2.2.2.2.2.2.2.2.2.2.1))∧(((!v43)=true→(qI6 p0.2.2.2.2.2.2.2.2.2.2.2.2.2.2.2.2.2.2.1 p1.2.2.2.2.2.2.2.2.2.2.2.2.2.2.2.2.2.2.1))∧((!v51)=true→((!v77)=true→((!v103)=true→((!v128)=true→(qI8 p0.2.2.2.2.2.2.2.2.2.2.2.2.2.2.2.2.2.2.2.2.2.2.2.2.2.2.2.1.2.2.2.1 p1.2.2.2.2.2.2.2.2.2.2.2.2.2.2.2.2.2.2.2.2.2.2.2.2.2.2.2.1.2.2.2.1))))))))))),(bif v17 then false else (bif v29 then false else (bif v51 then false else m4_2))))
def qI9 p0 p1:=(f71t p0 p1).1
def f71 p0 p1:=(f71t p0 p1).2
instance (p0:D49)(p1:D49):Decidable (qI9 p0 p1):=by
 unfold qI9 f71t
 try dsimp only
 infer_instance
def f43t (p0:D49)(p1:D49):Prop×Bool:=
 let v30:=(bif (bif (bif (p0.1 !=p1.1) then true else (p0.2.1 !=p1.2.1)) then true else (p0.2.2.1 !=p1.2.2.1)) then true else (!(p0.2.2.2.1==p1.2.2.2.1)))
 let v49:=(bif (bif (!(Ty.eqb .bool p0.2.2.2.2.1 p1.2.2.2.2.1)) then true else (!(Ty.eqb .bool p0.2.2.2.2.2.1 p1.2.2.2.2.2.1))) then true else (!(Ty.eqb .bool p0.2.2.2.2.2.2.1 p1.2.2.2.2.2.2.1)))
 let v75:=(bif (bif (bif (p0.2.2.2.2.2.2.2.1 !=p1.2.2.2.2.2.2.2.1) then true else (p0.2.2.2.2.2.2.2.2.1 !=p1.2.2.2.2.2.2.2.2.1)) then true else (!(Ty.eqb T37 p0.2.2.2.2.2.2.2.2.2.2.1 p1.2.2.2.2.2.2.2.2.2.2.1))) then true else (p0.2.2.2.2.2.2.2.2.2.2.2.1 !=p1.2.2.2.2.2.2.2.2.2.2.2.1))
 let v91:=(bif (p0.2.2.2.2.2.2.2.2.2.1.1 !=p1.2.2.2.2.2.2.2.2.2.1.1) then true else (p0.2.2.2.2.2.2.2.2.2.1.2.1 !=p1.2.2.2.2.2.2.2.2.2.1.2.1))
 let v101:=(bif v91 then true else (!(f44 p0.2.2.2.2.2.2.2.2.2.1.2.2.1 p1.2.2.2.2.2.2.2.2.2.1.2.2.1)))
 (((!v30)=true→((!v49)=true→((!v75)=true→(((!v91)=true→(rJ7 p0.2.2.2.2.2.2.2.2.2.1.2.2.1 p1.2.2.2.2.2.2.2.2.2.1.2.2.1))∧((!v101)=true→(qI9 p0 p1)))))),(bif v30 then false else (bif v49 then false else (bif v75 then false else (bif v101 then false else (f71 p0 p1))))))
def pI1 p0 p1:=(f43t p0 p1).1
instance (p0:D49)(p1:D49):Decidable (pI1 p0 p1):=by
 unfold pI1 f43t
 try dsimp only
 infer_instance
abbrev vM8:Type:=((List Int)×(List Int)×Unit)
abbrev wW9:Type:=(Int×Unit)
def tN5 (y:vM8)(x:wW9):Prop×Bool×wW9×Bool×Bool:=
 let a0:=y.1
 let a1:=y.2.1
 let a5:=x.1
 let v14:=(decide (a5<(len a0)))
 let v25:=((nth a0 a5 (0:Int))!=(nth a1 a5 (0:Int)))
 ((v14=true→(InB a5 (len a0)∧(InB a5 (len a1)∧((!v25)=true→InR (a5+1))))),(v14&&(!v25)),((a5+1),()),(v14&&v25),(!v14))
def tN6 y x:=(tN5 y x).1
def rK1 y x:=(tN5 y x).2.1
def tN7 y x:=(tN5 y x).2.2.1
def qJ y x:=(tN5 y x).2.2.2.1
instance (y:vM8)(x:wW9):Decidable (tN6 y x):=by
 unfold tN6 tN5
 try dsimp only
 infer_instance
def sY5 (y:vM8)(x:wW9):Bool:=
 false
def f97t (p0:List Int)(p1:List Int):Prop×Bool:=
 let v10:=((len p0)!=(len p1))
 let y4:=(p0,p1,())
 let x4:=((0:Int),())
 let e4:=(zC3 (rK1 y4) (tN7 y4) x4)
 (((!v10)=true→(Am.Ends (rK1 y4) (tN7 y4) (tN6 y4) x4)),(bif v10 then false else (bif (qJ y4 e4) then (sY5 y4 e4) else true)))
def rK2 p0 p1:=(f97t p0 p1).1
def f97 p0 p1:=(f97t p0 p1).2
instance (p0:List Int)(p1:List Int):Decidable (rK2 p0 p1):=by
 unfold rK2 f97t
 try dsimp only
 infer_instance
def f73t (p0:D24)(p1:D24):Prop×Bool:=
 let v16:=(bif (p0.1==p1.1) then (p0.2.1==p1.2.1) else false)
 ((v16=true→(rK2 p0.2.2.1 p1.2.2.1)),(bif v16 then (f97 p0.2.2.1 p1.2.2.1) else false))
def qJ0 p0 p1:=(f73t p0 p1).1
def f73 p0 p1:=(f73t p0 p1).2
instance (p0:D24)(p1:D24):Decidable (qJ0 p0 p1):=by
 unfold qJ0 f73t
 try dsimp only
 infer_instance
abbrev vM9:Type:=(D40×D40×Unit)
abbrev wX:Type:=(Int×Unit)
def tN8 (y:vM9)(x:wX):Prop×Bool×wX×Bool×Bool:=
 let a2:=y.1
 let a3:=y.2.1
 let a5:=x.1
 let v31:=(decide (a5<(len a2.2.2.1)))
 let v44:=(!(Ty.eqb T42 (nth a2.2.2.1 a5 Z42) (nth a3.2.2.1 a5 Z42)))
 ((v31=true→(InB a5 (len a2.2.2.1)∧(InB a5 (len a3.2.2.1)∧((!v44)=true→InR (a5+1))))),(v31&&(!v44)),((a5+1),()),(v31&&v44),(!v31))
def tN9 y x:=(tN8 y x).1
def rK3 y x:=(tN8 y x).2.1
def tO y x:=(tN8 y x).2.2.1
def qJ1 y x:=(tN8 y x).2.2.2.1
instance (y:vM9)(x:wX):Decidable (tN9 y x):=by
 unfold tN9 tN8
 try dsimp only
 infer_instance
def sY6 (y:vM9)(x:wX):Bool:=
 false
def f98t (p0:D40)(p1:D40):Prop×Bool:=
 let v26:=(bif (bif (p0.1 !=p1.1) then true else (p0.2.1 !=p1.2.1)) then true else ((len p0.2.2.1)!=(len p1.2.2.1)))
 let y4:=(p0,p1,())
 let x4:=((0:Int),())
 let e4:=(zC3 (rK3 y4) (tO y4) x4)
 (((!v26)=true→(Am.Ends (rK3 y4) (tO y4) (tN9 y4) x4)),(bif v26 then false else (bif (qJ1 y4 e4) then (sY6 y4 e4) else true)))
def qJ2 p0 p1:=(f98t p0 p1).1
def f98 p0 p1:=(f98t p0 p1).2
instance (p0:D40)(p1:D40):Decidable (qJ2 p0 p1):=by
 unfold qJ2 f98t
 try dsimp only
 infer_instance
abbrev vN:Type:=((List D122)×(List D122)×Unit)
abbrev wX0:Type:=(Int×Unit)
def tO0 (y:vN)(x:wX0):Prop×Bool×wX0×Bool×Bool:=
 let a0:=y.1
 let a1:=y.2.1
 let a5:=x.1
 let v14:=(decide (a5<(len a0)))
 let v25:=(!(Ty.eqb T122 (nth a0 a5 Z122) (nth a1 a5 Z122)))
 ((v14=true→(InB a5 (len a0)∧(InB a5 (len a1)∧((!v25)=true→InR (a5+1))))),(v14&&(!v25)),((a5+1),()),(v14&&v25),(!v14))
def tO1 y x:=(tO0 y x).1
def rK4 y x:=(tO0 y x).2.1
def tO2 y x:=(tO0 y x).2.2.1
def qJ3 y x:=(tO0 y x).2.2.2.1
instance (y:vN)(x:wX0):Decidable (tO1 y x):=by
 unfold tO1 tO0
 try dsimp only
 infer_instance
def sY7 (y:vN)(x:wX0):Bool:=
 false
def f99t (p0:List D122)(p1:List D122):Prop×Bool:=
 let v10:=((len p0)!=(len p1))
 let y4:=(p0,p1,())
 let x4:=((0:Int),())
 let e4:=(zC3 (rK4 y4) (tO2 y4) x4)
 (((!v10)=true→(Am.Ends (rK4 y4) (tO2 y4) (tO1 y4) x4)),(bif v10 then false else (bif (qJ3 y4 e4) then (sY7 y4 e4) else true)))
def qJ4 p0 p1:=(f99t p0 p1).1
def f99 p0 p1:=(f99t p0 p1).2
instance (p0:List D122)(p1:List D122):Decidable (qJ4 p0 p1):=by
 unfold qJ4 f99t
 try dsimp only
 infer_instance
abbrev vA9:Type:=((List D128)×(List D128)×Unit)
abbrev wP1:Type:=(Int×Unit)
def uJ6 (y:vA9)(x:wP1):Prop×Bool×wP1×Bool×Bool:=
 let a0:=y.1
 let a1:=y.2.1
 let a5:=x.1
 let v14:=(decide (a5<(len a0)))
 let v25:=(!(Ty.eqb T128 (nth a0 a5 Z128) (nth a1 a5 Z128)))
 ((v14=true→(InB a5 (len a0)∧(InB a5 (len a1)∧((!v25)=true→InR (a5+1))))),(v14&&(!v25)),((a5+1),()),(v14&&v25),(!v14))
def uM6 y x:=(uJ6 y x).1
def sO9 y x:=(uJ6 y x).2.1
def uV0 y x:=(uJ6 y x).2.2.1
def rS5 y x:=(uJ6 y x).2.2.2.1
instance (y:vA9)(x:wP1):Decidable (uM6 y x):=by
 unfold uM6 uJ6
 try dsimp only
 infer_instance
def sP (y:vA9)(x:wP1):Bool:=
 false
def oC9 (p0:List D128)(p1:List D128):Prop×Bool:=
 let v10:=((len p0)!=(len p1))
 let y4:=(p0,p1,())
 let x4:=((0:Int),())
 let e4:=(zC3 (sO9 y4) (uV0 y4) x4)
 (((!v10)=true→(Am.Ends (sO9 y4) (uV0 y4) (uM6 y4) x4)),(bif v10 then false else (bif (rS5 y4 e4) then (sP y4 e4) else true)))
def sY8 p0 p1:=(oC9 p0 p1).1
def f100 p0 p1:=(oC9 p0 p1).2
instance (p0:List D128)(p1:List D128):Decidable (sY8 p0 p1):=by
 unfold sY8 oC9
 try dsimp only
 infer_instance
abbrev vB0:Type:=(D47×D47×Unit)
abbrev wP2:Type:=(Int×Unit)
def uJ7 (y:vB0)(x:wP2):Prop×Bool×wP2×Bool×Bool:=
 let a2:=y.1
 let a3:=y.2.1
 let a5:=x.1
 let v38:=(decide (a5<(len a2.2.2.2.1)))
 let v51:=(!(Ty.eqb T125 (nth a2.2.2.2.1 a5 Z125) (nth a3.2.2.2.1 a5 Z125)))
 ((v38=true→(InB a5 (len a2.2.2.2.1)∧(InB a5 (len a3.2.2.2.1)∧((!v51)=true→InR (a5+1))))),(v38&&(!v51)),((a5+1),()),(v38&&v51),(!v38))
def uM7 y x:=(uJ7 y x).1
def sP0 y x:=(uJ7 y x).2.1
def uV1 y x:=(uJ7 y x).2.2.1
def rS6 y x:=(uJ7 y x).2.2.2.1
instance (y:vB0)(x:wP2):Decidable (uM7 y x):=by
 unfold uM7 uJ7
 try dsimp only
 infer_instance
def sP1 (y:vB0)(x:wP2):Bool:=
 false
def oD (p0:D47)(p1:D47):Prop×Bool:=
 let v33:=(bif (bif (bif (p0.1 !=p1.1) then true else (p0.2.1 !=p1.2.1)) then true else (p0.2.2.1 !=p1.2.2.1)) then true else ((len p0.2.2.2.1)!=(len p1.2.2.2.1)))
 let y4:=(p0,p1,())
 let x4:=((0:Int),())
 let e4:=(zC3 (sP0 y4) (uV1 y4) x4)
 (((!v33)=true→(Am.Ends (sP0 y4) (uV1 y4) (uM7 y4) x4)),(bif v33 then false else (bif (rS6 y4 e4) then (sP1 y4 e4) else true)))
def sY9 p0 p1:=(oD p0 p1).1
def f101 p0 p1:=(oD p0 p1).2
instance (p0:D47)(p1:D47):Decidable (sY9 p0 p1):=by
 unfold sY9 oD
 try dsimp only
 infer_instance
def f74t (p0:D49)(p1:D49):Prop×Bool:=
 let v23:=(bif (bif (f98 p0.2.2.2.2.2.2.2.2.2.2.2.2.1 p1.2.2.2.2.2.2.2.2.2.2.2.2.1) then (Ty.eqb T42 p0.2.2.2.2.2.2.2.2.2.2.2.2.2.1 p1.2.2.2.2.2.2.2.2.2.2.2.2.2.1) else false) then (p0.2.2.2.2.2.2.2.2.2.2.2.2.2.2.1==p1.2.2.2.2.2.2.2.2.2.2.2.2.2.2.1) else false)
 let v37:=(bif (bif v23 then (f97 p0.2.2.2.2.2.2.2.2.2.2.2.2.2.2.2.1 p1.2.2.2.2.2.2.2.2.2.2.2.2.2.2.2.1) else false) then (p0.2.2.2.2.2.2.2.2.2.2.2.2.2.2.2.2.1==p1.2.2.2.2.2.2.2.2.2.2.2.2.2.2.2.2.1) else false)
 let v44:=(bif v37 then (f99 p0.2.2.2.2.2.2.2.2.2.2.2.2.2.2.2.2.2.1 p1.2.2.2.2.2.2.2.2.2.2.2.2.2.2.2.2.2.1) else false)
 let v58:=(bif (bif v44 then (f100 p0.2.2.2.2.2.2.2.2.2.2.2.2.2.2.2.2.2.2.1 p1.2.2.2.2.2.2.2.2.2.2.2.2.2.2.2.2.2.2.1) else false) then (p0.2.2.2.2.2.2.2.2.2.2.2.2.2.2.2.2.2.2.2.1==p1.2.2.2.2.2.2.2.2.2.2.2.2.2.2.2.2.2.2.2.1) else false)
 let v72:=(bif (bif v58 then (p0.2.2.2.2.2.2.2.2.2.2.2.2.2.2.2.2.2.2.2.2.1==p1.2.2.2.2.2.2.2.2.2.2.2.2.2.2.2.2.2.2.2.2.1) else false) then (p0.2.2.2.2.2.2.2.2.2.2.2.2.2.2.2.2.2.2.2.2.2.1==p1.2.2.2.2.2.2.2.2.2.2.2.2.2.2.2.2.2.2.2.2.2.1) else false)
 let v86:=(bif (bif v72 then (p0.2.2.2.2.2.2.2.2.2.2.2.2.2.2.2.2.2.2.2.2.2.2.1==p1.2.2.2.2.2.2.2.2.2.2.2.2.2.2.2.2.2.2.2.2.2.2.1) else false) then (p0.2.2.2.2.2.2.2.2.2.2.2.2.2.2.2.2.2.2.2.2.2.2.2.1==p1.2.2.2.2.2.2.2.2.2.2.2.2.2.2.2.2.2.2.2.2.2.2.2.1) else false)
 let v100:=(bif (bif v86 then (p0.2.2.2.2.2.2.2.2.2.2.2.2.2.2.2.2.2.2.2.2.2.2.2.2.1==p1.2.2.2.2.2.2.2.2.2.2.2.2.2.2.2.2.2.2.2.2.2.2.2.2.1) else false) then (p0.2.2.2.2.2.2.2.2.2.2.2.2.2.2.2.2.2.2.2.2.2.2.2.2.2.1==p1.2.2.2.2.2.2.2.2.2.2.2.2.2.2.2.2.2.2.2.2.2.2.2.2.2.1) else false)
 let v107:=(bif v100 then (p0.2.2.2.2.2.2.2.2.2.2.2.2.2.2.2.2.2.2.2.2.2.2.2.2.2.2.1==p1.2.2.2.2.2.2.2.2.2.2.2.2.2.2.2.2.2.2.2.2.2.2.2.2.2.2.1) else false)
 (((qJ2 p0.2.2.2.2.2.2.2.2.2.2.2.2.1 p1.2.2.2.2.2.2.2.2.2.2.2.2.1)∧((v23=true→(rK2 p0.2.2.2.2.2.2.2.2.2.2.2.2.2.2.2.1 p1.2.2.2.2.2.2.2.2.2.2.2.2.2.2.2.1))∧((v37=true→(qJ4 p0.2.2.2.2.2.2.2.2.2.2.2.2.2.2.2.2.2.1 p1.2.2.2.2.2.2.2.2.2.2.2.2.2.2.2.2.2.1))∧((v44=true→(sY8 p0.2.2.2.2.2.2.2.2.2.2.2.2.2.2.2.2.2.2.1 p1.2.2.2.2.2.2.2.2.2.2.2.2.2.2.2.2.2.2.1))∧(v107=true→(sY9 p0.2.2.2.2.2.2.2.2.2.2.2.2.2.2.2.2.2.2.2.2.2.2.2.2.2.2.2.1 p1.2.2.2.2.2.2.2.2.2.2.2.2.2.2.2.2.2.2.2.2.2.2.2.2.2.2.2.1)))))),(bif v107 then (f101 p0.2.2.2.2.2.2.2.2.2.2.2.2.2.2.2.2.2.2.2.2.2.2.2.2.2.2.2.1 p1.2.2.2.2.2.2.2.2.2.2.2.2.2.2.2.2.2.2.2.2.2.2.2.2.2.2.2.1) else false))
def qJ5 p0 p1:=(f74t p0 p1).1
def f74 p0 p1:=(f74t p0 p1).2
instance (p0:D49)(p1:D49):Decidable (qJ5 p0 p1):=by
 unfold qJ5 f74t
 try dsimp only
 infer_instance
def f49t (p0:D49)(p1:D49):Prop×Bool:=
 let v37:=(bif (bif (bif (bif (p0.1==p1.1) then (p0.2.1==p1.2.1) else false) then (p0.2.2.1==p1.2.2.1) else false) then (p0.2.2.2.1==p1.2.2.2.1) else false) then (Ty.eqb .bool p0.2.2.2.2.1 p1.2.2.2.2.1) else false)
 let v58:=(bif (bif (bif v37 then (Ty.eqb .bool p0.2.2.2.2.2.1 p1.2.2.2.2.2.1) else false) then (Ty.eqb .bool p0.2.2.2.2.2.2.1 p1.2.2.2.2.2.2.1) else false) then (p0.2.2.2.2.2.2.2.1==p1.2.2.2.2.2.2.2.1) else false)
 let v65:=(bif v58 then (p0.2.2.2.2.2.2.2.2.1==p1.2.2.2.2.2.2.2.2.1) else false)
 let v86:=(bif (bif (bif v65 then (f73 p0.2.2.2.2.2.2.2.2.2.1 p1.2.2.2.2.2.2.2.2.2.1) else false) then (Ty.eqb T37 p0.2.2.2.2.2.2.2.2.2.2.1 p1.2.2.2.2.2.2.2.2.2.2.1) else false) then (p0.2.2.2.2.2.2.2.2.2.2.2.1==p1.2.2.2.2.2.2.2.2.2.2.2.1) else false)
 (((v65=true→(qJ0 p0.2.2.2.2.2.2.2.2.2.1 p1.2.2.2.2.2.2.2.2.2.1))∧(v86=true→(qJ5 p0 p1))),(bif v86 then (f74 p0 p1) else false))
def pI2 p0 p1:=(f49t p0 p1).1
instance (p0:D49)(p1:D49):Decidable (pI2 p0 p1):=by
 unfold pI2 f49t
 try dsimp only
 infer_instance
end Go.Proofs.YtpanghcojpnkaaaGreatDoor.Am
