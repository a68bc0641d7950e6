/- Printed by program, part 3. No condition. -/
import Derived.Test.YtpanghcojpnkaaaGreatDoorDocP2
set_option linter.unusedVariables false
set_option synthInstance.maxSize 4000
set_option synthInstance.maxHeartbeats 400000
namespace Go.Proofs.YtpanghcojpnkaaaGreatDoor.Am
open Go Go.Am Go.Proofs
def oB9 (p0:Int) (p1:(List Int)) (p2:(List D122)):Prop × Int :=
 let v13:=(bif (decide (p0 < 1)) then true else (decide (p0 > 11)))
 let v17:=(len p1)
 let v27:=(bif (!(f133 p0 v17)) then true else (!(Ty.eqb .bool (decide ((len p2) > 0)) (p0 == 10))))
 let v31:=(decide ((len p2) > 16))
 let v37:=(!(f134 p0 p1 p2))
 let m6_4:=(bif (bif v13 then true else (bif v27 then true else (bif v31 then true else (bif v37 then true else (!(f135 p0 p1 p2)))))) then (bif v13 then (8:Int) else (bif v27 then (1:Int) else (bif v31 then (3:Int) else (bif v37 then (2:Int) else (24:Int))))) else (0:Int))
 ((v13 = false → ((sA9 p0 v17) ∧ (v27 = false → (v31 = false → ((sB0 p0 p1 p2) ∧ (v37 = false → (sB3 p0 p1 p2))))))),m6_4)
def sB6 (p0:Int) (p1:(List Int)) (p2:(List D122)):Prop:=(oB9 p0 p1 p2).1
def f114 (p0:Int) (p1:(List Int)) (p2:(List D122)):Int:=(oB9 p0 p1 p2).2
instance (p0:Int) (p1:(List Int)) (p2:(List D122)):Decidable (sB6 p0 p1 p2):=by
 unfold sB6 oB9
 try dsimp only
 infer_instance
def sM6:Am.Spec:=fnSpec [(0,vI),(1,(.val (.sl (.int .i64)))),(2,(.val (.sl T122)))] vI [] (fun x=>sB6 x.1 x.2.1 x.2.2.1) (fun x=>f114 x.1 x.2.1 x.2.2.1) (fun _=>())
def qZ0:Ctx:=Cx tys [(133,sM0),(134,sM2),(135,sM4)] [] [] false 44 [] []
theorem qZ1:CtxOk Tryz.prog qZ0:=xW4 tys_ok rfl ⟨oB2,oB6,oB8,trivial⟩ rfl (by kernel_rfl)
theorem oC:SpecOk Tryz.prog 114 sM6:=xY3 qZ1 mixed Tryz.func114 (by kernel_rfl) (bs:=[]) (by kernel_rfl) trivial fun x=>by kernel_rfl
def oC0 (p0:Int):Prop × (List D125) :=
 let v5:=(p0 == 1)
 let v6:=(p0 == 7)
 let m4_1:=(bif v5 then v5 else (bif v6 then v6 else (p0 == 8)))
 let v11:=(p0 == 2)
 let v15:=(p0 == 4)
 let v19:=(p0 == 3)
 let v24:=(p0 == 9)
 let m2_1:=(bif v19 then ([((0:Int),(16:Int),()),((0:Int),(262140:Int),())]:List D125) else (bif v24 then ([((-16:Int),(16:Int),()),((-16:Int),(16:Int),())]:List D125) else ([((1:Int),(16:Int),())]:List D125)))
 let m2_5:=(bif (bif m4_1 then true else (bif v11 then true else (bif v15 then true else (bif v19 then true else (bif v24 then true else (p0 == 10)))))) then (bif m4_1 then ([((0:Int),(16:Int),())]:List D125) else (bif v11 then ([((0:Int),(7:Int),())]:List D125) else (bif v15 then ([((0:Int),(4:Int),())]:List D125) else m2_1))) else [])
 (True,m2_5)
def sB7 (p0:Int):Prop:=(oC0 p0).1
def f136 (p0:Int):(List D125):=(oC0 p0).2
instance (p0:Int):Decidable (sB7 p0):=by
 unfold sB7 oC0
 try dsimp only
 infer_instance
def sM7:Am.Spec:=fnSpec [(0,vI)] (.own T125 0 false) [] (fun x=>sB7 x.1) (fun x=>f136 x.1) (fun _=>())
def qZ2:Ctx:=Cx tys [] [] [(11,[(4,0,9,0)]),(15,[(4,0,13,0)]),(19,[(4,0,17,0)]),(23,[(4,0,22,0)]),(27,[(4,0,27,0)]),(31,[(4,0,31,0)])] false 32 [] []
theorem qZ3:CtxOk Tryz.prog qZ2:=xW4 tys_ok rfl trivial rfl (by kernel_rfl)
theorem oC1:SpecOk Tryz.prog 136 sM7:=xY3 qZ3 mixed Tryz.func136 (by kernel_rfl) (bs:=[]) (by kernel_rfl) trivial fun x=>by kernel_rfl
abbrev wN0:Type:=((List D125) × (List Int) × Int × Unit)
abbrev wF1:Type:=(Int × Unit)
def vM5 (y:wN0) (x:wF1):Prop × Bool × wF1 × Bool × Bool :=
 let a5:=y.1
 let a21:=y.2.1
 let a23:=x.1
 let v24:=(decide (a23 < y.2.2.1))
 let v26:=(nth a21 a23 (0:Int))
 let v34:=(decide (v26 < (nth a5 a23 Z125).1))
 let v43:=(bif v34 then true else (decide (v26 > (nth a5 a23 Z125).2.1)))
 ((v24 = true → (InB a23 (len a21) ∧ (InB a23 (len a5) ∧ (((!v34) = true → InB a23 (len a5)) ∧ ((!v43) = true → InR (a23 + 1)))))),(v24 && (!v43)),((a23 + 1),()),(v24 && v43),(!v24))
def vM6 (y:wN0) (x:wF1):Prop:=(vM5 y x).1
def tF1 (y:wN0) (x:wF1):Bool:=(vM5 y x).2.1
def vG4 (y:wN0) (x:wF1):wF1:=(vM5 y x).2.2.1
def tQ9 (y:wN0) (x:wF1):Bool:=(vM5 y x).2.2.2.1
def rT9 (y:wN0) (x:wF1):Bool:=(vM5 y x).2.2.2.2
instance (y:wN0) (x:wF1):Decidable (vM6 y x):=by
 unfold vM6 vM5
 try dsimp only
 infer_instance
def uQ (y:wN0) (x:wF1):Int :=
 (2:Int)
def uQ0:St → Option Out:=xP4 [(5,(.own T125 1005 false)),(21,(.val (.sl (.int .i64)))),(22,vI)] [(23,vI)] tF1 vG4 vM6 fun y x=>[ex 1 (some (tQ9 y x)) [(4,vI)] ((uQ y x),()),ex 2 (some (rT9 y x)) [] ()]
def oC2 (p0:Int) (p1:(List Int)):Prop × Int :=
 let v13:=(bif (decide (p0 < 1)) then true else (decide (p0 > 10)))
 let v15:=(f136 p0)
 let v20:=((len p1) != (len v15))
 let y7:=(v15,p1,(len p1),())
 let x7:=((0:Int),())
 let e7:=(zC1 (tF1 y7) (vG4 y7) x7)
 (((!v13) = true → ((sB7 p0) ∧ ((!v20) = true → (Am.Ends (tF1 y7) (vG4 y7) (vM6 y7) x7)))),(bif v13 then (8:Int) else (bif v20 then (1:Int) else (bif (tQ9 y7 e7) then (uQ y7 e7) else (0:Int)))))
def sB8 (p0:Int) (p1:(List Int)):Prop:=(oC2 p0 p1).1
def f115 (p0:Int) (p1:(List Int)):Int:=(oC2 p0 p1).2
instance (p0:Int) (p1:(List Int)):Decidable (sB8 p0 p1):=by
 unfold sB8 oC2
 try dsimp only
 infer_instance
def sM8:Am.Spec:=fnSpec [(0,vI),(1,(.val (.sl (.int .i64))))] vI [] (fun x=>sB8 x.1 x.2.1) (fun x=>f115 x.1 x.2.1) (fun _=>())
def rH2:Ctx:=Cx tys [(136,sM7)] [(7,uQ0)] [(7,[(4,0,15,1005)])] false 45 [] []
theorem rH3:CtxOk Tryz.prog rH2:=xW4 tys_ok rfl ⟨oC1,trivial⟩ rfl (by kernel_rfl)
noncomputable def qC2:Code:=Tryz.f115.body.getD .skip
noncomputable def qC3:Code:=xX3 qC2 0
theorem rU:yV Tryz.prog rH2 qC3:=xY2 rH3 mixed (sp:=uQ0) rfl [[(4,vI)],[]] (bs:=[]) (by kernel_rfl) trivial (by kernel_rfl) (by kernel_rfl) fun y x=>by kernel_rfl
theorem oC3:SpecOk Tryz.prog 115 sM8:=xY3 rH3 mixed Tryz.func115 (by kernel_rfl) (bs:=[qC3]) (by kernel_rfl) ⟨rU,trivial⟩ fun x=>by kernel_rfl
abbrev wN1:Type:=((List D125) × Int × Unit)
abbrev wF2:Type:=(Int × Unit)
def vM7 (y:wN1) (x:wF2):Prop × Bool × wF2 × Bool × Bool :=
 let a43:=y.1
 let a45:=x.1
 let v46:=(decide (a45 < y.2.1))
 let v47:=(nth a43 a45 Z125)
 let v66:=(bif (bif (bif (decide (v47.1 < (-1048576))) then true else (decide (v47.1 > 1048576))) then true else (decide (v47.2.1 < (-1048576)))) then true else (decide (v47.2.1 > 1048576)))
 ((v46 = true → (InB a45 (len a43) ∧ ((!v66) = true → InR (a45 + 1)))),(v46 && (!v66)),((a45 + 1),()),(v46 && v66),(!v46))
def vM8 (y:wN1) (x:wF2):Prop:=(vM7 y x).1
def tF2 (y:wN1) (x:wF2):Bool:=(vM7 y x).2.1
def vG5 (y:wN1) (x:wF2):wF2:=(vM7 y x).2.2.1
def tR (y:wN1) (x:wF2):Bool:=(vM7 y x).2.2.2.1
def rU0 (y:wN1) (x:wF2):Bool:=(vM7 y x).2.2.2.2
instance (y:wN1) (x:wF2):Decidable (vM8 y x):=by
 unfold vM8 vM7
 try dsimp only
 infer_instance
def uQ1 (y:wN1) (x:wF2):Int :=
 (2:Int)
def uQ2:St → Option Out:=xP4 [(43,(.val (.sl T125))),(44,vI)] [(45,vI)] tF2 vG5 vM8 fun y x=>[ex 1 (some (tR y x)) [(2,vI)] ((uQ1 y x),()),ex 2 (some (rU0 y x)) [] ()]
def oC4 (p0:D47):Prop × Int :=
 let v22:=(bif (bif (bif (decide (p0.1 < 2)) then true else (decide (p0.1 > 8))) then true else (decide (p0.2.1 < 2))) then true else (decide (p0.2.1 > 8)))
 let v30:=(bif (decide (p0.2.2.1 < 1)) then true else (decide (p0.2.2.1 > 256)))
 let v41:=(bif v30 then true else ((len p0.2.2.2.1) != (p0.1 * p0.2.1)))
 let y6:=(p0.2.2.2.1,(len p0.2.2.2.1),())
 let x6:=((0:Int),())
 let e6:=(zC1 (tF2 y6) (vG5 y6) x6)
 (((!v22) = true → (((!v30) = true → InR (p0.1 * p0.2.1)) ∧ ((!v41) = true → (Am.Ends (tF2 y6) (vG5 y6) (vM8 y6) x6)))),(bif v22 then (15:Int) else (bif v41 then (15:Int) else (bif (tR y6 e6) then (uQ1 y6 e6) else (0:Int)))))
def sB9 (p0:D47):Prop:=(oC4 p0).1
def f116 (p0:D47):Int:=(oC4 p0).2
instance (p0:D47):Decidable (sB9 p0):=by
 unfold sB9 oC4
 try dsimp only
 infer_instance
def sM9:Am.Spec:=fnSpec [(0,(.val T47))] vI [] (fun x=>sB9 x.1) (fun x=>f116 x.1) (fun _=>())
def rH4:Ctx:=Cx tys [] [(6,uQ2)] [] false 68 [] []
theorem rH5:CtxOk Tryz.prog rH4:=xW4 tys_ok rfl trivial rfl (by kernel_rfl)
noncomputable def qC4:Code:=Tryz.f116.body.getD .skip
noncomputable def qC5:Code:=xX3 qC4 0
theorem rU1:yV Tryz.prog rH4 qC5:=xY2 rH5 mixed (sp:=uQ2) rfl [[(2,vI)],[]] (bs:=[]) (by kernel_rfl) trivial (by kernel_rfl) (by kernel_rfl) fun y x=>by kernel_rfl
theorem oC5:SpecOk Tryz.prog 116 sM9:=xY3 rH5 mixed Tryz.func116 (by kernel_rfl) (bs:=[qC5]) (by kernel_rfl) ⟨rU1,trivial⟩ fun x=>by kernel_rfl
def f81t (p0:D49):Prop × Int :=
 let v6:=(p0.2.1 == 2)
 let v11:=(p0.2.1 == 3)
 let v16:=(p0.2.1 == 4)
 let v27:=(p0.2.1 == 5)
 let v31:=(p0.2.1 == 6)
 let v35:=(p0.2.1 == 7)
 let v44:=(p0.2.1 == 8)
 let v51:=(p0.2.1 == 9)
 let m50:=(bif v51 then v51 else (p0.2.1 == 10))
 let v62:=(p0.2.1 == 11)
 let c_2:=(bif v44 then true else (bif m50 then (bif (decide (p0.2.2.2.2.2.2.2.2.2.2.2.2.2.2.2.2.2.2.2.2.2.2.2.2.2.2.1 < 1)) then true else (decide (p0.2.2.2.2.2.2.2.2.2.2.2.2.2.2.2.2.2.2.2.2.2.2.2.2.2.2.1 > 1073741824))) else v62))
 let m2_2:=(bif v35 then (f114 p0.2.2.2.2.2.2.2.2.2.2.2.2.2.2.1 p0.2.2.2.2.2.2.2.2.2.2.2.2.2.2.2.1 p0.2.2.2.2.2.2.2.2.2.2.2.2.2.2.2.2.2.1) else (bif v44 then (f115 p0.2.2.2.2.2.2.2.2.2.2.2.2.2.2.1 p0.2.2.2.2.2.2.2.2.2.2.2.2.2.2.2.1) else (bif m50 then (2:Int) else (f116 p0.2.2.2.2.2.2.2.2.2.2.2.2.2.2.2.2.2.2.2.2.2.2.2.2.2.2.2.1))))
 let m2_5:=(bif v16 then (f111 p0.2.2.2.2.2.2.2.2.2.2.2.2.2.2.1 p0.2.2.2.2.2.2.2.2.2.2.2.2.2.2.2.1 p0.2.2.2.2.2.2.2.2.2.2.2.2.2.2.2.2.1 p0.2.2.2.2.2.2.2.2.2.2.2.2.2.2.2.2.2.1) else (bif v27 then (f112 p0) else (bif v31 then (f113 p0) else m2_2)))
 let m2_8:=(bif (bif v6 then true else (bif v11 then true else (bif v16 then true else (bif v27 then true else (bif v31 then true else (bif v35 then true else c_2)))))) then (bif v6 then (f56 p0.2.2.2.2.2.2.2.2.2.2.2.2.1) else (bif v11 then (f110 p0.2.2.2.2.2.2.2.2.2.2.2.2.2.1) else m2_5)) else (0:Int))
 (((v6 = true → (sI2 p0.2.2.2.2.2.2.2.2.2.2.2.2.1)) ∧ (v6 = false → ((v11 = true → (uF8 p0.2.2.2.2.2.2.2.2.2.2.2.2.2.1)) ∧ (v11 = false → ((v16 = true → (tW8 p0.2.2.2.2.2.2.2.2.2.2.2.2.2.2.1 p0.2.2.2.2.2.2.2.2.2.2.2.2.2.2.2.1 p0.2.2.2.2.2.2.2.2.2.2.2.2.2.2.2.2.1 p0.2.2.2.2.2.2.2.2.2.2.2.2.2.2.2.2.2.1)) ∧ (v16 = false → ((v27 = true → (tY8 p0)) ∧ (v27 = false → ((v31 = true → (sA8 p0)) ∧ (v31 = false → ((v35 = true → (sB6 p0.2.2.2.2.2.2.2.2.2.2.2.2.2.2.1 p0.2.2.2.2.2.2.2.2.2.2.2.2.2.2.2.1 p0.2.2.2.2.2.2.2.2.2.2.2.2.2.2.2.2.2.1)) ∧ (v35 = false → ((v44 = true → (sB8 p0.2.2.2.2.2.2.2.2.2.2.2.2.2.2.1 p0.2.2.2.2.2.2.2.2.2.2.2.2.2.2.2.1)) ∧ (v44 = false → (m50 = false → (v62 = true → (sB9 p0.2.2.2.2.2.2.2.2.2.2.2.2.2.2.2.2.2.2.2.2.2.2.2.2.2.2.2.1))))))))))))))))),m2_8)
def rH6 (p0:D49):Prop:=(f81t p0).1
def f81 (p0:D49):Int:=(f81t p0).2
instance (p0:D49):Decidable (rH6 p0):=by
 unfold rH6 f81t
 try dsimp only
 infer_instance
def rH7:Am.Spec:=fnSpec [(0,(.val T49))] vI [] (fun x=>rH6 x.1) (fun x=>f81 x.1) (fun _=>())
def oC6:Ctx:=Cx tys [(56,tW4),(110,vV7),(111,sI6),(112,sK5),(113,sM),(114,sM6),(115,sM8),(116,sM9)] [] [] false 66 [] []
theorem oC7:CtxOk Tryz.prog oC6:=xW4 tys_ok rfl ⟨pH7,sT9,pT9,pY4,oB0,oC,oC3,oC5,trivial⟩ rfl (by kernel_rfl)
theorem oO1:SpecOk Tryz.prog 81 rH7:=xY3 oC7 mixed Tryz.func81 (by kernel_rfl) (bs:=[]) (by kernel_rfl) trivial fun x=>by kernel_rfl
def f82t (p0:D49):Prop × Bool :=
 let v17:=(bif (bif (!(Ty.eqb T37 p0.2.2.2.2.2.2.2.2.2.2.1 ((0:Int),(0:Int),(0:Int),(0:Int),(0:Int),(0:Int),()))) then true else (p0.2.2.2.2.2.2.2.2.2.2.2.1 != 0)) then true else (!(Ty.eqb T42 p0.2.2.2.2.2.2.2.2.2.2.2.2.2.1 ((0:Int),(0:Int),(0:Int),(0:Int),()))))
 let v54:=(bif (bif (bif (p0.2.2.2.2.2.2.2.2.2.2.2.2.2.2.1 != 0) then true else ((len p0.2.2.2.2.2.2.2.2.2.2.2.2.2.2.2.1) != 0)) then true else (p0.2.2.2.2.2.2.2.2.2.2.2.2.2.2.2.2.1 != 0)) then true else ((len p0.2.2.2.2.2.2.2.2.2.2.2.2.2.2.2.2.2.1) != 0))
 let v73:=(bif (bif (bif ((len p0.2.2.2.2.2.2.2.2.2.2.2.2.2.2.2.2.2.2.1) != 0) then true else (p0.2.2.2.2.2.2.2.2.2.2.2.2.2.2.2.2.2.2.2.1 != 0)) then true else (p0.2.2.2.2.2.2.2.2.2.2.2.2.2.2.2.2.2.2.2.2.1 != 0)) then true else (p0.2.2.2.2.2.2.2.2.2.2.2.2.2.2.2.2.2.2.2.2.2.1 != 0))
 let v91:=(bif (bif (!(p0.2.2.2.2.2.2.2.2.2.2.2.2.2.2.2.2.2.2.2.2.2.2.2.1 == ([]:List UInt8))) then true else (p0.2.2.2.2.2.2.2.2.2.2.2.2.2.2.2.2.2.2.2.2.2.2.2.2.1 != 0)) then true else (p0.2.2.2.2.2.2.2.2.2.2.2.2.2.2.2.2.2.2.2.2.2.2.2.2.2.1 != 0))
 let v112:=(bif (bif (p0.2.2.2.2.2.2.2.2.2.2.2.2.2.2.2.2.2.2.2.2.2.2.2.2.2.2.2.1.1 == 0) then (p0.2.2.2.2.2.2.2.2.2.2.2.2.2.2.2.2.2.2.2.2.2.2.2.2.2.2.2.1.2.1 == 0) else false) then (p0.2.2.2.2.2.2.2.2.2.2.2.2.2.2.2.2.2.2.2.2.2.2.2.2.2.2.2.1.2.2.1 == 0) else false)
 let m2:=(bif (bif v91 then true else (p0.2.2.2.2.2.2.2.2.2.2.2.2.2.2.2.2.2.2.2.2.2.2.2.2.2.2.1 != 0)) then false else (bif v112 then ((len p0.2.2.2.2.2.2.2.2.2.2.2.2.2.2.2.2.2.2.2.2.2.2.2.2.2.2.2.1.2.2.2.1) == 0) else false))
 let m2_3:=(bif (bif (bif (p0.2.2.2.2.2.2.2.2.2.2.2.2.1.1 != 0) then true else (p0.2.2.2.2.2.2.2.2.2.2.2.2.1.2.1 != 0)) then true else ((len p0.2.2.2.2.2.2.2.2.2.2.2.2.1.2.2.1) != 0)) then false else (bif v54 then false else (bif (bif v73 then true else (p0.2.2.2.2.2.2.2.2.2.2.2.2.2.2.2.2.2.2.2.2.2.2.1 != 0)) then false else m2)))
 (True,(bif v17 then false else m2_3))
def rH8 (p0:D49):Prop:=(f82t p0).1
def f82 (p0:D49):Bool:=(f82t p0).2
instance (p0:D49):Decidable (rH8 p0):=by
 unfold rH8 f82t
 try dsimp only
 infer_instance
def rH9:Am.Spec:=fnSpec [(0,(.val T49))] vB [] (fun x=>rH8 x.1) (fun x=>f82 x.1) (fun _=>())
def oC8:Ctx:=Cx tys [] [] [] false 120 [] []
theorem oC9:CtxOk Tryz.prog oC8:=xW4 tys_ok rfl trivial rfl (by kernel_rfl)
theorem oO2:SpecOk Tryz.prog 82 rH9:=xY3 oC9 mixed Tryz.func82 (by kernel_rfl) (bs:=[]) (by kernel_rfl) trivial fun x=>by kernel_rfl
def f83t (p0:D49):Prop × D49 :=
 let s_1:=(p0.1,p0.2.1,p0.2.2.1,p0.2.2.2.1,p0.2.2.2.2.1,p0.2.2.2.2.2.1,p0.2.2.2.2.2.2.1,p0.2.2.2.2.2.2.2.1,p0.2.2.2.2.2.2.2.2.1,p0.2.2.2.2.2.2.2.2.2.1,((0:Int),(0:Int),(0:Int),(0:Int),(0:Int),(0:Int),()),p0.2.2.2.2.2.2.2.2.2.2.2.1,p0.2.2.2.2.2.2.2.2.2.2.2.2.1,p0.2.2.2.2.2.2.2.2.2.2.2.2.2.1,p0.2.2.2.2.2.2.2.2.2.2.2.2.2.2.1,p0.2.2.2.2.2.2.2.2.2.2.2.2.2.2.2.1,p0.2.2.2.2.2.2.2.2.2.2.2.2.2.2.2.2.1,p0.2.2.2.2.2.2.2.2.2.2.2.2.2.2.2.2.2.1,p0.2.2.2.2.2.2.2.2.2.2.2.2.2.2.2.2.2.2.1,p0.2.2.2.2.2.2.2.2.2.2.2.2.2.2.2.2.2.2.2.1,p0.2.2.2.2.2.2.2.2.2.2.2.2.2.2.2.2.2.2.2.2.1,p0.2.2.2.2.2.2.2.2.2.2.2.2.2.2.2.2.2.2.2.2.2.1,p0.2.2.2.2.2.2.2.2.2.2.2.2.2.2.2.2.2.2.2.2.2.2.1,p0.2.2.2.2.2.2.2.2.2.2.2.2.2.2.2.2.2.2.2.2.2.2.2.1,p0.2.2.2.2.2.2.2.2.2.2.2.2.2.2.2.2.2.2.2.2.2.2.2.2.1,p0.2.2.2.2.2.2.2.2.2.2.2.2.2.2.2.2.2.2.2.2.2.2.2.2.2.1,p0.2.2.2.2.2.2.2.2.2.2.2.2.2.2.2.2.2.2.2.2.2.2.2.2.2.2.1,p0.2.2.2.2.2.2.2.2.2.2.2.2.2.2.2.2.2.2.2.2.2.2.2.2.2.2.2.1,())
 let m1:=(bif (f76 p0.2.1) then s_1 else p0)
 let s_2:=(m1.1,m1.2.1,m1.2.2.1,m1.2.2.2.1,m1.2.2.2.2.1,m1.2.2.2.2.2.1,m1.2.2.2.2.2.2.1,m1.2.2.2.2.2.2.2.1,m1.2.2.2.2.2.2.2.2.1,m1.2.2.2.2.2.2.2.2.2.1,m1.2.2.2.2.2.2.2.2.2.2.1,(0:Int),m1.2.2.2.2.2.2.2.2.2.2.2.2.1,m1.2.2.2.2.2.2.2.2.2.2.2.2.2.1,m1.2.2.2.2.2.2.2.2.2.2.2.2.2.2.1,m1.2.2.2.2.2.2.2.2.2.2.2.2.2.2.2.1,m1.2.2.2.2.2.2.2.2.2.2.2.2.2.2.2.2.1,m1.2.2.2.2.2.2.2.2.2.2.2.2.2.2.2.2.2.1,m1.2.2.2.2.2.2.2.2.2.2.2.2.2.2.2.2.2.2.1,m1.2.2.2.2.2.2.2.2.2.2.2.2.2.2.2.2.2.2.2.1,m1.2.2.2.2.2.2.2.2.2.2.2.2.2.2.2.2.2.2.2.2.1,m1.2.2.2.2.2.2.2.2.2.2.2.2.2.2.2.2.2.2.2.2.2.1,m1.2.2.2.2.2.2.2.2.2.2.2.2.2.2.2.2.2.2.2.2.2.2.1,m1.2.2.2.2.2.2.2.2.2.2.2.2.2.2.2.2.2.2.2.2.2.2.2.1,m1.2.2.2.2.2.2.2.2.2.2.2.2.2.2.2.2.2.2.2.2.2.2.2.2.1,m1.2.2.2.2.2.2.2.2.2.2.2.2.2.2.2.2.2.2.2.2.2.2.2.2.2.1,m1.2.2.2.2.2.2.2.2.2.2.2.2.2.2.2.2.2.2.2.2.2.2.2.2.2.2.1,m1.2.2.2.2.2.2.2.2.2.2.2.2.2.2.2.2.2.2.2.2.2.2.2.2.2.2.2.1,())
 let m1_1:=(bif (f79 m1.2.1) then s_2 else m1)
 let s_4:=(m1_1.1,m1_1.2.1,m1_1.2.2.1,m1_1.2.2.2.1,m1_1.2.2.2.2.1,m1_1.2.2.2.2.2.1,m1_1.2.2.2.2.2.2.1,m1_1.2.2.2.2.2.2.2.1,m1_1.2.2.2.2.2.2.2.2.1,m1_1.2.2.2.2.2.2.2.2.2.1,m1_1.2.2.2.2.2.2.2.2.2.2.1,m1_1.2.2.2.2.2.2.2.2.2.2.2.1,((0:Int),(0:Int),([]:List D42),()),m1_1.2.2.2.2.2.2.2.2.2.2.2.2.2.1,m1_1.2.2.2.2.2.2.2.2.2.2.2.2.2.2.1,m1_1.2.2.2.2.2.2.2.2.2.2.2.2.2.2.2.1,m1_1.2.2.2.2.2.2.2.2.2.2.2.2.2.2.2.2.1,m1_1.2.2.2.2.2.2.2.2.2.2.2.2.2.2.2.2.2.1,m1_1.2.2.2.2.2.2.2.2.2.2.2.2.2.2.2.2.2.2.1,m1_1.2.2.2.2.2.2.2.2.2.2.2.2.2.2.2.2.2.2.2.1,m1_1.2.2.2.2.2.2.2.2.2.2.2.2.2.2.2.2.2.2.2.2.1,m1_1.2.2.2.2.2.2.2.2.2.2.2.2.2.2.2.2.2.2.2.2.2.1,m1_1.2.2.2.2.2.2.2.2.2.2.2.2.2.2.2.2.2.2.2.2.2.2.1,m1_1.2.2.2.2.2.2.2.2.2.2.2.2.2.2.2.2.2.2.2.2.2.2.2.1,m1_1.2.2.2.2.2.2.2.2.2.2.2.2.2.2.2.2.2.2.2.2.2.2.2.2.1,m1_1.2.2.2.2.2.2.2.2.2.2.2.2.2.2.2.2.2.2.2.2.2.2.2.2.2.1,m1_1.2.2.2.2.2.2.2.2.2.2.2.2.2.2.2.2.2.2.2.2.2.2.2.2.2.2.1,m1_1.2.2.2.2.2.2.2.2.2.2.2.2.2.2.2.2.2.2.2.2.2.2.2.2.2.2.2.1,())
 let s_6:=(m1_1.1,m1_1.2.1,m1_1.2.2.1,m1_1.2.2.2.1,m1_1.2.2.2.2.1,m1_1.2.2.2.2.2.1,m1_1.2.2.2.2.2.2.1,m1_1.2.2.2.2.2.2.2.1,m1_1.2.2.2.2.2.2.2.2.1,m1_1.2.2.2.2.2.2.2.2.2.1,m1_1.2.2.2.2.2.2.2.2.2.2.1,m1_1.2.2.2.2.2.2.2.2.2.2.2.1,m1_1.2.2.2.2.2.2.2.2.2.2.2.2.1,((0:Int),(0:Int),(0:Int),(0:Int),()),m1_1.2.2.2.2.2.2.2.2.2.2.2.2.2.2.1,m1_1.2.2.2.2.2.2.2.2.2.2.2.2.2.2.2.1,m1_1.2.2.2.2.2.2.2.2.2.2.2.2.2.2.2.2.1,m1_1.2.2.2.2.2.2.2.2.2.2.2.2.2.2.2.2.2.1,m1_1.2.2.2.2.2.2.2.2.2.2.2.2.2.2.2.2.2.2.1,m1_1.2.2.2.2.2.2.2.2.2.2.2.2.2.2.2.2.2.2.2.1,m1_1.2.2.2.2.2.2.2.2.2.2.2.2.2.2.2.2.2.2.2.2.1,m1_1.2.2.2.2.2.2.2.2.2.2.2.2.2.2.2.2.2.2.2.2.2.1,m1_1.2.2.2.2.2.2.2.2.2.2.2.2.2.2.2.2.2.2.2.2.2.2.1,m1_1.2.2.2.2.2.2.2.2.2.2.2.2.2.2.2.2.2.2.2.2.2.2.2.1,m1_1.2.2.2.2.2.2.2.2.2.2.2.2.2.2.2.2.2.2.2.2.2.2.2.2.1,m1_1.2.2.2.2.2.2.2.2.2.2.2.2.2.2.2.2.2.2.2.2.2.2.2.2.2.1,m1_1.2.2.2.2.2.2.2.2.2.2.2.2.2.2.2.2.2.2.2.2.2.2.2.2.2.2.1,m1_1.2.2.2.2.2.2.2.2.2.2.2.2.2.2.2.2.2.2.2.2.2.2.2.2.2.2.2.1,())
 let s_10:=(m1_1.1,m1_1.2.1,m1_1.2.2.1,m1_1.2.2.2.1,m1_1.2.2.2.2.1,m1_1.2.2.2.2.2.1,m1_1.2.2.2.2.2.2.1,m1_1.2.2.2.2.2.2.2.1,m1_1.2.2.2.2.2.2.2.2.1,m1_1.2.2.2.2.2.2.2.2.2.1,m1_1.2.2.2.2.2.2.2.2.2.2.1,m1_1.2.2.2.2.2.2.2.2.2.2.2.1,m1_1.2.2.2.2.2.2.2.2.2.2.2.2.1,m1_1.2.2.2.2.2.2.2.2.2.2.2.2.2.1,(0:Int),([]:List Int),(0:Int),([]:List D122),m1_1.2.2.2.2.2.2.2.2.2.2.2.2.2.2.2.2.2.2.1,m1_1.2.2.2.2.2.2.2.2.2.2.2.2.2.2.2.2.2.2.2.1,m1_1.2.2.2.2.2.2.2.2.2.2.2.2.2.2.2.2.2.2.2.2.1,m1_1.2.2.2.2.2.2.2.2.2.2.2.2.2.2.2.2.2.2.2.2.2.1,m1_1.2.2.2.2.2.2.2.2.2.2.2.2.2.2.2.2.2.2.2.2.2.2.1,m1_1.2.2.2.2.2.2.2.2.2.2.2.2.2.2.2.2.2.2.2.2.2.2.2.1,m1_1.2.2.2.2.2.2.2.2.2.2.2.2.2.2.2.2.2.2.2.2.2.2.2.2.1,m1_1.2.2.2.2.2.2.2.2.2.2.2.2.2.2.2.2.2.2.2.2.2.2.2.2.2.1,m1_1.2.2.2.2.2.2.2.2.2.2.2.2.2.2.2.2.2.2.2.2.2.2.2.2.2.2.1,m1_1.2.2.2.2.2.2.2.2.2.2.2.2.2.2.2.2.2.2.2.2.2.2.2.2.2.2.2.1,())
 let s_17:=(m1_1.1,m1_1.2.1,m1_1.2.2.1,m1_1.2.2.2.1,m1_1.2.2.2.2.1,m1_1.2.2.2.2.2.1,m1_1.2.2.2.2.2.2.1,m1_1.2.2.2.2.2.2.2.1,m1_1.2.2.2.2.2.2.2.2.1,m1_1.2.2.2.2.2.2.2.2.2.1,m1_1.2.2.2.2.2.2.2.2.2.2.1,m1_1.2.2.2.2.2.2.2.2.2.2.2.1,m1_1.2.2.2.2.2.2.2.2.2.2.2.2.1,((0:Int),(0:Int),(0:Int),(0:Int),()),m1_1.2.2.2.2.2.2.2.2.2.2.2.2.2.2.1,m1_1.2.2.2.2.2.2.2.2.2.2.2.2.2.2.2.1,m1_1.2.2.2.2.2.2.2.2.2.2.2.2.2.2.2.2.1,m1_1.2.2.2.2.2.2.2.2.2.2.2.2.2.2.2.2.2.1,([]:List D128),(0:Int),(0:Int),(0:Int),(0:Int),m1_1.2.2.2.2.2.2.2.2.2.2.2.2.2.2.2.2.2.2.2.2.2.2.2.1,m1_1.2.2.2.2.2.2.2.2.2.2.2.2.2.2.2.2.2.2.2.2.2.2.2.2.1,m1_1.2.2.2.2.2.2.2.2.2.2.2.2.2.2.2.2.2.2.2.2.2.2.2.2.2.1,m1_1.2.2.2.2.2.2.2.2.2.2.2.2.2.2.2.2.2.2.2.2.2.2.2.2.2.2.1,m1_1.2.2.2.2.2.2.2.2.2.2.2.2.2.2.2.2.2.2.2.2.2.2.2.2.2.2.2.1,())
 let s_22:=(m1_1.1,m1_1.2.1,m1_1.2.2.1,m1_1.2.2.2.1,m1_1.2.2.2.2.1,m1_1.2.2.2.2.2.1,m1_1.2.2.2.2.2.2.1,m1_1.2.2.2.2.2.2.2.1,m1_1.2.2.2.2.2.2.2.2.1,m1_1.2.2.2.2.2.2.2.2.2.1,m1_1.2.2.2.2.2.2.2.2.2.2.1,m1_1.2.2.2.2.2.2.2.2.2.2.2.1,m1_1.2.2.2.2.2.2.2.2.2.2.2.2.1,((0:Int),(0:Int),(0:Int),(0:Int),()),m1_1.2.2.2.2.2.2.2.2.2.2.2.2.2.2.1,m1_1.2.2.2.2.2.2.2.2.2.2.2.2.2.2.2.1,m1_1.2.2.2.2.2.2.2.2.2.2.2.2.2.2.2.2.1,m1_1.2.2.2.2.2.2.2.2.2.2.2.2.2.2.2.2.2.1,m1_1.2.2.2.2.2.2.2.2.2.2.2.2.2.2.2.2.2.2.1,m1_1.2.2.2.2.2.2.2.2.2.2.2.2.2.2.2.2.2.2.2.1,m1_1.2.2.2.2.2.2.2.2.2.2.2.2.2.2.2.2.2.2.2.2.1,m1_1.2.2.2.2.2.2.2.2.2.2.2.2.2.2.2.2.2.2.2.2.2.1,m1_1.2.2.2.2.2.2.2.2.2.2.2.2.2.2.2.2.2.2.2.2.2.2.1,([]:List UInt8),(0:Int),(0:Int),m1_1.2.2.2.2.2.2.2.2.2.2.2.2.2.2.2.2.2.2.2.2.2.2.2.2.2.2.1,m1_1.2.2.2.2.2.2.2.2.2.2.2.2.2.2.2.2.2.2.2.2.2.2.2.2.2.2.2.1,())
 let s_25:=(m1_1.1,m1_1.2.1,m1_1.2.2.1,m1_1.2.2.2.1,m1_1.2.2.2.2.1,m1_1.2.2.2.2.2.1,m1_1.2.2.2.2.2.2.1,m1_1.2.2.2.2.2.2.2.1,m1_1.2.2.2.2.2.2.2.2.1,m1_1.2.2.2.2.2.2.2.2.2.1,m1_1.2.2.2.2.2.2.2.2.2.2.1,m1_1.2.2.2.2.2.2.2.2.2.2.2.1,m1_1.2.2.2.2.2.2.2.2.2.2.2.2.1,m1_1.2.2.2.2.2.2.2.2.2.2.2.2.2.1,(0:Int),([]:List Int),m1_1.2.2.2.2.2.2.2.2.2.2.2.2.2.2.2.2.1,([]:List D122),m1_1.2.2.2.2.2.2.2.2.2.2.2.2.2.2.2.2.2.2.1,m1_1.2.2.2.2.2.2.2.2.2.2.2.2.2.2.2.2.2.2.2.1,m1_1.2.2.2.2.2.2.2.2.2.2.2.2.2.2.2.2.2.2.2.2.1,m1_1.2.2.2.2.2.2.2.2.2.2.2.2.2.2.2.2.2.2.2.2.2.1,m1_1.2.2.2.2.2.2.2.2.2.2.2.2.2.2.2.2.2.2.2.2.2.2.1,m1_1.2.2.2.2.2.2.2.2.2.2.2.2.2.2.2.2.2.2.2.2.2.2.2.1,m1_1.2.2.2.2.2.2.2.2.2.2.2.2.2.2.2.2.2.2.2.2.2.2.2.2.1,m1_1.2.2.2.2.2.2.2.2.2.2.2.2.2.2.2.2.2.2.2.2.2.2.2.2.2.1,m1_1.2.2.2.2.2.2.2.2.2.2.2.2.2.2.2.2.2.2.2.2.2.2.2.2.2.2.1,m1_1.2.2.2.2.2.2.2.2.2.2.2.2.2.2.2.2.2.2.2.2.2.2.2.2.2.2.2.1,())
 let s_27:=(m1_1.1,m1_1.2.1,m1_1.2.2.1,m1_1.2.2.2.1,m1_1.2.2.2.2.1,m1_1.2.2.2.2.2.1,m1_1.2.2.2.2.2.2.1,m1_1.2.2.2.2.2.2.2.1,m1_1.2.2.2.2.2.2.2.2.1,m1_1.2.2.2.2.2.2.2.2.2.1,m1_1.2.2.2.2.2.2.2.2.2.2.1,m1_1.2.2.2.2.2.2.2.2.2.2.2.1,m1_1.2.2.2.2.2.2.2.2.2.2.2.2.1,m1_1.2.2.2.2.2.2.2.2.2.2.2.2.2.1,(0:Int),([]:List Int),m1_1.2.2.2.2.2.2.2.2.2.2.2.2.2.2.2.2.1,m1_1.2.2.2.2.2.2.2.2.2.2.2.2.2.2.2.2.2.1,m1_1.2.2.2.2.2.2.2.2.2.2.2.2.2.2.2.2.2.2.1,m1_1.2.2.2.2.2.2.2.2.2.2.2.2.2.2.2.2.2.2.2.1,m1_1.2.2.2.2.2.2.2.2.2.2.2.2.2.2.2.2.2.2.2.2.1,m1_1.2.2.2.2.2.2.2.2.2.2.2.2.2.2.2.2.2.2.2.2.2.1,m1_1.2.2.2.2.2.2.2.2.2.2.2.2.2.2.2.2.2.2.2.2.2.2.1,m1_1.2.2.2.2.2.2.2.2.2.2.2.2.2.2.2.2.2.2.2.2.2.2.2.1,m1_1.2.2.2.2.2.2.2.2.2.2.2.2.2.2.2.2.2.2.2.2.2.2.2.2.1,m1_1.2.2.2.2.2.2.2.2.2.2.2.2.2.2.2.2.2.2.2.2.2.2.2.2.2.1,m1_1.2.2.2.2.2.2.2.2.2.2.2.2.2.2.2.2.2.2.2.2.2.2.2.2.2.2.1,m1_1.2.2.2.2.2.2.2.2.2.2.2.2.2.2.2.2.2.2.2.2.2.2.2.2.2.2.2.1,())
 let v54:=(m1_1.2.1 == 9)
 let s_28:=(m1_1.1,m1_1.2.1,m1_1.2.2.1,m1_1.2.2.2.1,m1_1.2.2.2.2.1,m1_1.2.2.2.2.2.1,m1_1.2.2.2.2.2.2.1,m1_1.2.2.2.2.2.2.2.1,m1_1.2.2.2.2.2.2.2.2.1,m1_1.2.2.2.2.2.2.2.2.2.1,m1_1.2.2.2.2.2.2.2.2.2.2.1,m1_1.2.2.2.2.2.2.2.2.2.2.2.1,m1_1.2.2.2.2.2.2.2.2.2.2.2.2.1,m1_1.2.2.2.2.2.2.2.2.2.2.2.2.2.1,m1_1.2.2.2.2.2.2.2.2.2.2.2.2.2.2.1,m1_1.2.2.2.2.2.2.2.2.2.2.2.2.2.2.2.1,m1_1.2.2.2.2.2.2.2.2.2.2.2.2.2.2.2.2.1,m1_1.2.2.2.2.2.2.2.2.2.2.2.2.2.2.2.2.2.1,m1_1.2.2.2.2.2.2.2.2.2.2.2.2.2.2.2.2.2.2.1,m1_1.2.2.2.2.2.2.2.2.2.2.2.2.2.2.2.2.2.2.2.1,m1_1.2.2.2.2.2.2.2.2.2.2.2.2.2.2.2.2.2.2.2.2.1,m1_1.2.2.2.2.2.2.2.2.2.2.2.2.2.2.2.2.2.2.2.2.2.1,m1_1.2.2.2.2.2.2.2.2.2.2.2.2.2.2.2.2.2.2.2.2.2.2.1,m1_1.2.2.2.2.2.2.2.2.2.2.2.2.2.2.2.2.2.2.2.2.2.2.2.1,m1_1.2.2.2.2.2.2.2.2.2.2.2.2.2.2.2.2.2.2.2.2.2.2.2.2.1,m1_1.2.2.2.2.2.2.2.2.2.2.2.2.2.2.2.2.2.2.2.2.2.2.2.2.2.1,(0:Int),m1_1.2.2.2.2.2.2.2.2.2.2.2.2.2.2.2.2.2.2.2.2.2.2.2.2.2.2.2.1,())
 let s_30:=(m1_1.1,m1_1.2.1,m1_1.2.2.1,m1_1.2.2.2.1,m1_1.2.2.2.2.1,m1_1.2.2.2.2.2.1,m1_1.2.2.2.2.2.2.1,m1_1.2.2.2.2.2.2.2.1,m1_1.2.2.2.2.2.2.2.2.1,m1_1.2.2.2.2.2.2.2.2.2.1,m1_1.2.2.2.2.2.2.2.2.2.2.1,m1_1.2.2.2.2.2.2.2.2.2.2.2.1,m1_1.2.2.2.2.2.2.2.2.2.2.2.2.1,m1_1.2.2.2.2.2.2.2.2.2.2.2.2.2.1,m1_1.2.2.2.2.2.2.2.2.2.2.2.2.2.2.1,m1_1.2.2.2.2.2.2.2.2.2.2.2.2.2.2.2.1,m1_1.2.2.2.2.2.2.2.2.2.2.2.2.2.2.2.2.1,m1_1.2.2.2.2.2.2.2.2.2.2.2.2.2.2.2.2.2.1,m1_1.2.2.2.2.2.2.2.2.2.2.2.2.2.2.2.2.2.2.1,m1_1.2.2.2.2.2.2.2.2.2.2.2.2.2.2.2.2.2.2.2.1,m1_1.2.2.2.2.2.2.2.2.2.2.2.2.2.2.2.2.2.2.2.2.1,m1_1.2.2.2.2.2.2.2.2.2.2.2.2.2.2.2.2.2.2.2.2.2.1,m1_1.2.2.2.2.2.2.2.2.2.2.2.2.2.2.2.2.2.2.2.2.2.2.1,m1_1.2.2.2.2.2.2.2.2.2.2.2.2.2.2.2.2.2.2.2.2.2.2.2.1,m1_1.2.2.2.2.2.2.2.2.2.2.2.2.2.2.2.2.2.2.2.2.2.2.2.2.1,m1_1.2.2.2.2.2.2.2.2.2.2.2.2.2.2.2.2.2.2.2.2.2.2.2.2.2.1,m1_1.2.2.2.2.2.2.2.2.2.2.2.2.2.2.2.2.2.2.2.2.2.2.2.2.2.2.1,((0:Int),(0:Int),(0:Int),([]:List D125),()),())
 let m1_6:=(bif (m1_1.2.1 == 6) then s_22 else (bif (m1_1.2.1 == 7) then s_25 else (bif (m1_1.2.1 == 8) then s_27 else (bif (bif v54 then v54 else (m1_1.2.1 == 10)) then s_28 else (bif (m1_1.2.1 == 11) then s_30 else m1_1)))))
 (((sH7 p0.2.1) ∧ (sH9 m1.2.1)),(bif (m1_1.2.1 == 2) then s_4 else (bif (m1_1.2.1 == 3) then s_6 else (bif (m1_1.2.1 == 4) then s_10 else (bif (m1_1.2.1 == 5) then s_17 else m1_6)))))
def rI (p0:D49):Prop:=(f83t p0).1
def f83 (p0:D49):D49:=(f83t p0).2
instance (p0:D49):Decidable (rI p0):=by
 unfold rI f83t
 try dsimp only
 infer_instance
def rI0:Am.Spec:=fnSpec [(0,(.val T49))] (.val T49) [] (fun x=>rI x.1) (fun x=>f83 x.1) (fun _=>())
def oD:Ctx:=Cx tys [(76,tW0),(79,tW1)] [] [] false 62 [] []
theorem oD0:CtxOk Tryz.prog oD:=xW4 tys_ok rfl ⟨pH4,pH5,trivial⟩ rfl (by kernel_rfl)
theorem oO3:SpecOk Tryz.prog 83 rI0:=xY3 oD0 mixed Tryz.func83 (by kernel_rfl) (bs:=[]) (by kernel_rfl) trivial fun x=>by kernel_rfl
def f52t (p0:D49) (p1:Int) (p2:Int):Prop × Int :=
 let v15:=(f75 p0 p1 p2)
 let v17:=(v15 != 0)
 let v21:=(f76 p0.2.1)
 let v24:=(f77 p0.2.2.2.2.2.2.2.2.2.2.1)
 let v26:=(v24 != 0)
 let v31:=(f78 p0.2.2.2.2.2.2.2.2.2.2.1)
 let v35:=(v31.2.1 != 0)
 let v39:=(f79 p0.2.1)
 let v45:=(bif v39 then (!(f80 p0.2.2.2.2.2.2.2.2.2.2.2.1)) else false)
 let v47:=(f81 p0)
 let v49:=(v47 != 0)
 let v52:=(f83 p0)
 let m6_5:=(bif v17 then v15 else (bif ((v26 || ((!v26) && v35)) && v21) then (bif v26 then v24 else v31.2.1) else (bif v45 then (8:Int) else (bif v49 then v47 else (bif (!(f82 v52)) then (1:Int) else (0:Int))))))
 (((rD5 p0 p1 p2) ∧ ((!v17) = true → ((sH7 p0.2.1) ∧ ((v21 = true → ((vV3 p0.2.2.2.2.2.2.2.2.2.2.1) ∧ ((!v26) = true → (rD8 p0.2.2.2.2.2.2.2.2.2.2.1)))) ∧ ((bif v21 then ((!v26) && (!v35)) else true) = true → ((sH9 p0.2.1) ∧ ((v39 = true → (rE p0.2.2.2.2.2.2.2.2.2.2.2.1)) ∧ ((!v45) = true → ((rH6 p0) ∧ ((!v49) = true → ((rI p0) ∧ (rH8 v52)))))))))))),m6_5)
def rI1 (p0:D49) (p1:Int) (p2:Int):Prop:=(f52t p0 p1 p2).1
def f52 (p0:D49) (p1:Int) (p2:Int):Int:=(f52t p0 p1 p2).2
instance (p0:D49) (p1:Int) (p2:Int):Decidable (rI1 p0 p1 p2):=by
 unfold rI1 f52t
 try dsimp only
 infer_instance
def rI2:Am.Spec:=fnSpec [(0,(.val T49)),(1,vI),(2,vI)] vI [] (fun x=>rI1 x.1 x.2.1 x.2.2.1) (fun x=>f52 x.1 x.2.1 x.2.2.1) (fun _=>())
def oD1:Ctx:=Cx tys [(75,rD6),(76,tW0),(77,vV4),(78,rD9),(79,tW1),(80,rE0),(81,rH7),(82,rH9),(83,rI0)] [] [] false 55 [] []
theorem oD2:CtxOk Tryz.prog oD1:=xW4 tys_ok rfl ⟨oN8,pH4,rD7,oN9,pH5,oO,oO1,oO2,oO3,trivial⟩ rfl (by kernel_rfl)
theorem oO4:SpecOk Tryz.prog 52 rI2:=xY3 oD2 mixed Tryz.func52 (by kernel_rfl) (bs:=[]) (by kernel_rfl) trivial fun x=>by kernel_rfl
abbrev wC8:Type:=((List (Int × Int × Unit)) × Int × D28 × Unit)
abbrev wA0:Type:=(Int × Unit)
def wP7 (y:wC8) (x:wA0):Prop × Bool × wA0 × Bool × Bool :=
 let a2:=y.2.1
 let a3:=y.2.2.1
 let a7:=x.1
 let v16:=(a7 != 0)
 let v24:=(a7 == (nth a3.2.2.2.1 a2 Z49).2.2.1)
 let v29:=(Option.getD (yI6 (.int .i64) (.int .i64) a7 y.1) (0:Int))
 ((v16 = true → (InB a2 (len a3.2.2.2.1) ∧ ((!v24) = true → InB v29 (len a3.2.2.2.1)))),(v16 && (!v24)),((nth a3.2.2.2.1 v29 Z49).2.2.1,()),(v16 && v24),(!v16))
def wS2 (y:wC8) (x:wA0):Prop:=(wP7 y x).1
def vS3 (y:wC8) (x:wA0):Bool:=(wP7 y x).2.1
def wV5 (y:wC8) (x:wA0):wA0:=(wP7 y x).2.2.1
def uQ3 (y:wC8) (x:wA0):Bool:=(wP7 y x).2.2.2.1
def sN (y:wC8) (x:wA0):Bool:=(wP7 y x).2.2.2.2
instance (y:wC8) (x:wA0):Decidable (wS2 y x):=by
 unfold wS2 wP7
 try dsimp only
 infer_instance
def vP2 (y:wC8) (x:wA0):Bool :=
 true
def uQ4:List (Nat × Sh):=[(1,(.own (xD2 (.int .i64) (.int .i64)) 400100 true)),(6,vB)]
def uQ5:List (Nat × Sh):=[(1,(.own (xD2 (.int .i64) (.int .i64)) 400100 true))]
def vP3:St → Option Out:=xP4 [(1,(.own (xD2 (.int .i64) (.int .i64)) 400100 true)),(2,vI),(3,(.box T28 (.val T28)))] [(7,vI)] vS3 wV5 wS2 fun y x=>[ex 1 (some (uQ3 y x)) uQ4 (y.1,(vP2 y x),()),ex 2 (some (sN y x)) uQ5 (y.1,())]
def sC (p0:D28) (p1:(List (Int × Int × Unit))) (p2:Int):Prop × Bool × ((List (Int × Int × Unit)) × Unit) :=
 let v11:=(p2 - 1)
 let y2:=(p1,p2,p0,())
 let x2:=((nth p0.2.2.2.1 v11 Z49).1,())
 let e2:=(zC1 (vS3 y2) (wV5 y2) x2)
 let q2_1:=(uQ3 y2 e2)
 ((InR (p2 - 1) ∧ (InB v11 (len p0.2.2.2.1) ∧ (Am.Ends (vS3 y2) (wV5 y2) (wS2 y2) x2))),(bif q2_1 then (vP2 y2 e2) else false),((bif q2_1 then p1 else p1),()))
def uB (p0:D28) (p1:(List (Int × Int × Unit))) (p2:Int):Prop:=(sC p0 p1 p2).1
def qC6 (p0:D28) (p1:(List (Int × Int × Unit))) (p2:Int):Bool:=(sC p0 p1 p2).2.1
def rI3 (p0:D28) (p1:(List (Int × Int × Unit))) (p2:Int):((List (Int × Int × Unit)) × Unit):=(sC p0 p1 p2).2.2
instance (p0:D28) (p1:(List (Int × Int × Unit))) (p2:Int):Decidable (uB p0 p1 p2):=by
 unfold uB sC
 try dsimp only
 infer_instance
def tF3:Am.Spec:=fnSpec [(0,(.val T28)),(1,(.own (xD2 (.int .i64) (.int .i64)) 400100 true)),(2,vI)] vB [(1,(.own (xD2 (.int .i64) (.int .i64)) 400100 true))] (fun x=>uB x.1 x.2.1 x.2.2.1) (fun x=>qC6 x.1 x.2.1 x.2.2.1) (fun x=>rI3 x.1 x.2.1 x.2.2.1)
def tR0:Ctx:={ Cx tys [] [(2,vP3)] [] false 33 [1] [] with maps:=maps }
theorem tR1:CtxOk Tryz.prog tR0:=xW4 tys_ok (by kernel_rfl) trivial rfl (by kernel_rfl)
noncomputable def sX8:Code:=Tryz.f53.body.getD .skip
noncomputable def sN0:Code:=xX3 sX8 0
theorem sN1:yV Tryz.prog tR0 sN0:=xY2 tR1 mixed (sp:=vP3) rfl [uQ4,uQ5] (bs:=[]) (by kernel_rfl) trivial (by kernel_rfl) (by kernel_rfl) fun y x=>by kernel_rfl
theorem qC7:SpecOk Tryz.prog 53 tF3:=xY3 tR1 mixed Tryz.func53 (by kernel_rfl) (bs:=[sN0]) (by kernel_rfl) ⟨sN1,trivial⟩ fun x=>by kernel_rfl
abbrev wS3:Type:=(D28 × (List D49) × Int × Unit)
abbrev wI7:Type:=((List (Int × Int × Unit)) × (List Int) × Int × Unit)
def uH (y:wS3) (x:wI7):Prop × Bool × wI7 × Bool × Bool :=
 let a1:=y.1
 let a18:=y.2.1
 let a3:=x.1
 let a4:=x.2.1
 let a20:=x.2.2.1
 let v21:=(decide (a20 < y.2.2.1))
 let v23:=(nth a18 a20 Z49)
 let v32:=((f52 v23 a1.1 a1.2.1) != 0)
 let v43:=(bif (decide (v23.1 < 1)) then true else (decide (v23.1 ≥ a1.2.2.2.2.1)))
 let v50:=(Option.isSome (yI6 (.int .i64) (.int .i64) v23.1 a3))
 let l1004:=(List.set a4 (Int.toNat a20) (1:Int))
 let v57:=(v23.2.2.1 != 0)
 let v63:=(Option.getD (yI6 (.int .i64) (.int .i64) v23.2.2.1 a3) (0:Int))
 let v66:=(!(Option.isSome (yI6 (.int .i64) (.int .i64) v23.2.2.1 a3)))
 let v75:=(bif v66 then true else ((nth a1.2.2.2.1 v63 Z49).2.1 != 1))
 let v80:=(!(qC6 a1 a3 a20))
 let v86:=(nth l1004 v63 (0:Int))
 let c_3:=(bif v57 then ((!v75) && (!v80)) else true)
 let m4:=(bif v57 then (List.set l1004 (Int.toNat a20) (v86 + 1)) else l1004)
 let v93:=(decide ((nth m4 a20 (0:Int)) > 8))
 let c_14:=((!v32) && ((!v43) && ((!v50) && (c_3 && (!v93)))))
 ((v21 = true → (InB a20 (len a18) ∧ ((rI1 v23 a1.1 a1.2.1) ∧ (((!v32) = true → ((!v43) = true → ((!v50) = true → (InB a20 (len a4) ∧ (a20 < len a4 ∧ ((v57 = true → (((!v66) = true → InB v63 (len a1.2.2.2.1)) ∧ ((!v75) = true → ((uB a1 a3 a20) ∧ (0 < List.length a3 ∧ (List.length a3 = List.length a3 ∧ (List.length a3 = List.length a3 ∧ (List.length a3 = List.length a3 ∧ (List.length a3 = List.length a3 ∧ ((!v80) = true → (InB v63 (len l1004) ∧ (v63 < len l1004 ∧ (InR (v86 + 1) ∧ (InB a20 (len l1004) ∧ a20 < len l1004)))))))))))))) ∧ (c_3 = true → (InB a20 (len m4) ∧ a20 < len m4)))))))) ∧ (c_14 = true → InR (a20 + 1)))))),(v21 && c_14),((xL8 (.int .i64) (.int .i64) v23.1 a20 (bif v57 then (rI3 a1 a3 a20).1 else a3)),m4,(a20 + 1),()),(v21 && (v32 || ((!v32) && (v43 || ((!v43) && (v50 || ((!v50) && (((v75 || ((!v75) && v80)) && v57) || (c_3 && v93))))))))),(!v21))
def uB0 (y:wS3) (x:wI7):Prop:=(uH y x).1
def sC0 (y:wS3) (x:wI7):Bool:=(uH y x).2.1
def vS4 (y:wS3) (x:wI7):wI7:=(uH y x).2.2.1
def sN2 (y:wS3) (x:wI7):Bool:=(uH y x).2.2.2.1
def qC8 (y:wS3) (x:wI7):Bool:=(uH y x).2.2.2.2
instance (y:wS3) (x:wI7):Decidable (uB0 y x):=by
 unfold uB0 uH
 try dsimp only
 infer_instance
def tF4 (y:wS3) (x:wI7):Int :=
 let a1:=y.1
 let a3:=x.1
 let a20:=x.2.2.1
 let v23:=(nth y.2.1 a20 Z49)
 let v30:=(f52 v23 a1.1 a1.2.1)
 let v75:=(bif (!(Option.isSome (yI6 (.int .i64) (.int .i64) v23.2.2.1 a3))) then true else ((nth a1.2.2.2.1 (Option.getD (yI6 (.int .i64) (.int .i64) v23.2.2.1 a3) (0:Int)) Z49).2.1 != 1))
 let m2_2:=(bif (Option.isSome (yI6 (.int .i64) (.int .i64) v23.1 a3)) then (10:Int) else (bif ((v75 || ((!v75) && (!(qC6 a1 a3 a20)))) && (v23.2.2.1 != 0)) then (bif v75 then (9:Int) else (24:Int)) else (12:Int)))
 (bif (v30 != 0) then v30 else (bif (bif (decide (v23.1 < 1)) then true else (decide (v23.1 ≥ a1.2.2.2.2.1))) then (2:Int) else m2_2))
def tF5:St → Option Out:=xP4 [(1,(.box T28 (.val T28))),(18,(.val (.sl T49))),(19,vI)] [(3,(.own (xD2 (.int .i64) (.int .i64)) 1003 true)),(4,(.own (.int .i64) 1004 true)),(20,vI)] sC0 vS4 uB0 fun y x=>[ex 1 (some (sN2 y x)) [(2,vI)] ((tF4 y x),()),ex 2 (some (qC8 y x)) [] ()]
def f24t (p0:D28):Prop × Int :=
 let v15:=(len p0.2.2.2.1)
 let y4:=(p0,p0.2.2.2.1,(len p0.2.2.2.1),())
 let x4:=(([]:List (Int × Int × Unit)),(List.replicate (Int.toNat v15) (0:Int)),(0:Int),())
 let e4:=(zC1 (sC0 y4) (vS4 y4) x4)
 (((0 ≤ v15 ∧ v15 ≤ v15 ∧ v15 ≤ 4294967296) ∧ (Am.Ends (sC0 y4) (vS4 y4) (uB0 y4) x4)),(bif (sN2 y4 e4) then (tF4 y4 e4) else (0:Int)))
def rI4 (p0:D28):Prop:=(f24t p0).1
def f24 (p0:D28):Int:=(f24t p0).2
instance (p0:D28):Decidable (rI4 p0):=by
 unfold rI4 f24t
 try dsimp only
 infer_instance
def rI5:Am.Spec:=fnSpec [(0,(.val T28))] vI [] (fun x=>rI4 x.1) (fun x=>f24 x.1) (fun _=>())
def qC9:Ctx:={ Cx tys [(52,rI2),(53,tF3)] [(4,tF5)] [(3,[(4,0,12,1003)]),(5,[(4,0,16,1004)])] false 99 [] [16] with wants:=[(53,[1])],maps:=maps }
theorem qD:CtxOk Tryz.prog qC9:=xW4 tys_ok (by kernel_rfl) ⟨oO4,qC7,trivial⟩ rfl (by kernel_rfl)
noncomputable def qZ4:Code:=Tryz.f24.body.getD .skip
noncomputable def pH9:Code:=xX3 qZ4 0
theorem qD0:yV Tryz.prog qC9 pH9:=xY2 qD mixed (sp:=tF5) rfl [[(2,vI)],[]] (bs:=[]) (by kernel_rfl) trivial (by kernel_rfl) (by kernel_rfl) fun y x=>by kernel_rfl
theorem oO5:SpecOk Tryz.prog 24 rI5:=xY3 qD mixed Tryz.func24 (by kernel_rfl) (bs:=[pH9]) (by kernel_rfl) ⟨qD0,trivial⟩ fun x=>by kernel_rfl
abbrev vM9:Type:=(D28 × D49 × (List D49) × Int × Int × Unit)
abbrev wS4:Type:=(Int × Unit)
def sC1 (y:vM9) (x:wS4):Prop × Bool × wS4 :=
 let a1:=y.1
 let a5:=x.1
 let v20:=(decide (a5 ≥ 0))
 let v30:=((nth a1.2.2.2.1 a5 Z49).2.2.1 != y.2.1.2.2.1)
 let v39:=(bif v20 then (bif v30 then true else (nth a1.2.2.2.1 a5 Z49).2.2.2.2.2.2.1) else false)
 (((v20 = true → InB a5 (len a1.2.2.2.1)) ∧ (((v20 && (!v30)) = true → InB a5 (len a1.2.2.2.1)) ∧ (v39 = true → InR (a5 - 1)))),v39,((a5 - 1),()))
def uB1 (y:vM9) (x:wS4):Prop:=(sC1 y x).1
def uV2 (y:vM9) (x:wS4):Bool:=(sC1 y x).2.1
def vC2 (y:vM9) (x:wS4):wS4:=(sC1 y x).2.2
instance (y:vM9) (x:wS4):Decidable (uB1 y x):=by
 unfold uB1 sC1
 try dsimp only
 infer_instance
def vS5 (y:vM9) (x:wS4):Int :=
 x.1
def sN3:List (Nat × Sh):=[(1,(.box T28 (.val T28))),(5,vI),(7,(.val (.sl T49))),(8,vI),(9,vI)]
def tF6:St → Option Out:=xP4 [(1,(.box T28 (.val T28))),(4,(.box T49 (.val T49))),(7,(.val (.sl T49))),(8,vI),(9,vI)] [(5,vI)] uV2 vC2 uB1 fun y x=>[ex 4 none sN3 (y.1,(vS5 y x),y.2.2.1,y.2.2.2.1,y.2.2.2.2.1,())]
abbrev wS5:Type:=(Unit)
abbrev wI8:Type:=(D28 × (List D49) × Int × Int × Unit)
def uH0 (y:wS5) (x:wI8):Prop × Bool × wI8 × Bool × Bool :=
 let a1:=x.1
 let a7:=x.2.1
 let a8:=x.2.2.1
 let a9:=x.2.2.2.1
 let v10:=(decide (a9 < a8))
 let v12:=(nth a7 a9 Z49)
 let v16:=(!v12.2.2.2.2.2.2.1)
 let y6:=(a1,v12,a7,a8,a9,())
 let x6:=((a9 - 1),())
 let r6_4_0:=(vS5 y6 (zC1 (uV2 y6) (vC2 y6) x6))
 let v43:=(decide (r6_4_0 < 0))
 let v47:=(nth a1.2.2.2.1 r6_4_0 Z49)
 let v49:=(f54 v47)
 let c_5:=(v16 || ((!v16) && ((!v43) && (!v49))))
 let m9:=(bif v16 then a9 else a9)
 ((v10 = true → (InB a9 (len a7) ∧ (((!v16) = true → (InR (a9 - 1) ∧ ((Am.Ends (uV2 y6) (vC2 y6) (uB1 y6) x6) ∧ ((!v43) = true → (InB r6_4_0 (len a1.2.2.2.1) ∧ (tN3 v47)))))) ∧ (c_5 = true → InR (m9 + 1))))),(v10 && c_5),((bif v16 then a1 else a1),(bif v16 then a7 else a7),(bif v16 then a8 else a8),(m9 + 1),()),(v10 && ((!v16) && (v43 || ((!v43) && v49)))),(!v10))
def uB2 (y:wS5) (x:wI8):Prop:=(uH0 y x).1
def sC2 (y:wS5) (x:wI8):Bool:=(uH0 y x).2.1
def vS6 (y:wS5) (x:wI8):wI8:=(uH0 y x).2.2.1
def sN4 (y:wS5) (x:wI8):Bool:=(uH0 y x).2.2.2.1
def qD1 (y:wS5) (x:wI8):Bool:=(uH0 y x).2.2.2.2
instance (y:wS5) (x:wI8):Decidable (uB2 y x):=by
 unfold uB2 uH0
 try dsimp only
 infer_instance
def tF7 (y:wS5) (x:wI8):Int :=
 let a7:=x.2.1
 let a9:=x.2.2.2.1
 let y6:=(x.1,(nth a7 a9 Z49),a7,x.2.2.1,a9,())
 (bif (decide ((vS5 y6 (zC1 (uV2 y6) (vC2 y6) ((a9 - 1),()))) < 0)) then (14:Int) else (8:Int))
def tF8:St → Option Out:=xP4 [] [(1,(.box T28 (.val T28))),(7,(.val (.sl T49))),(8,vI),(9,vI)] sC2 vS6 uB2 fun y x=>[ex 1 (some (sN4 y x)) [(2,vI)] ((tF7 y x),()),ex 2 (some (qD1 y x)) [] ()]
def f25t (p0:D28):Prop × Int :=
 let x2:=(p0,p0.2.2.2.1,(len p0.2.2.2.1),(0:Int),())
 let e2:=(zC1 (sC2 ()) (vS6 ()) x2)
 ((Am.Ends (sC2 ()) (vS6 ()) (uB2 ()) x2),(bif (sN4 () e2) then (tF7 () e2) else (0:Int)))
def rI6 (p0:D28):Prop:=(f25t p0).1
def f25 (p0:D28):Int:=(f25t p0).2
instance (p0:D28):Decidable (rI6 p0):=by
 unfold rI6 f25t
 try dsimp only
 infer_instance
def rI7:Am.Spec:=fnSpec [(0,(.val T28))] vI [] (fun x=>rI6 x.1) (fun x=>f25 x.1) (fun _=>())
def sX9:Ctx:=Cx tys [(54,uS9)] [(6,tF6),(2,tF8)] [] false 51 [] []
theorem sY:CtxOk Tryz.prog sX9:=xW4 tys_ok rfl ⟨rX6,trivial⟩ rfl (by kernel_rfl)
noncomputable def qZ5:Code:=Tryz.f25.body.getD .skip
noncomputable def qD2:Code:=xX3 qZ5 0
noncomputable def pI:Code:=xX3 qD2 0
theorem qD3:yV Tryz.prog sX9 pI:=xY2 sY mixed (sp:=tF6) rfl [sN3] (bs:=[]) (by kernel_rfl) trivial (by kernel_rfl) (by kernel_rfl) fun y x=>by kernel_rfl
theorem qD4:yV Tryz.prog sX9 qD2:=xY2 sY mixed (sp:=tF8) rfl [[(2,vI)],[]] (bs:=[pI]) (by kernel_rfl) ⟨qD3,trivial⟩ (by kernel_rfl) (by kernel_rfl) fun y x=>by kernel_rfl
theorem oO6:SpecOk Tryz.prog 25 rI7:=xY3 sY mixed Tryz.func25 (by kernel_rfl) (bs:=[qD2]) (by kernel_rfl) ⟨qD4,trivial⟩ fun x=>by kernel_rfl
abbrev wS6:Type:=((List UInt8) × Int × Unit)
abbrev wI9:Type:=(Int × Unit)
def uH1 (y:wS6) (x:wI9):Prop × Bool × wI9 × Bool × Bool :=
 let a0:=y.1
 let a14:=x.1
 let v15:=(decide (a14 < y.2.1))
 let v20:=(decide ((xX6 a0 a14) < 33))
 let v26:=(bif v20 then true else (decide ((xX6 a0 a14) > 126)))
 ((v15 = true → (InB a14 (len a0) ∧ (((!v20) = true → InB a14 (len a0)) ∧ ((!v26) = true → InR (a14 + 1))))),(v15 && (!v26)),((a14 + 1),()),(v15 && v26),(!v15))
def uB3 (y:wS6) (x:wI9):Prop:=(uH1 y x).1
def sC3 (y:wS6) (x:wI9):Bool:=(uH1 y x).2.1
def vS7 (y:wS6) (x:wI9):wI9:=(uH1 y x).2.2.1
def sN5 (y:wS6) (x:wI9):Bool:=(uH1 y x).2.2.2.1
def qD5 (y:wS6) (x:wI9):Bool:=(uH1 y x).2.2.2.2
instance (y:wS6) (x:wI9):Decidable (uB3 y x):=by
 unfold uB3 uH1
 try dsimp only
 infer_instance
def tF9 (y:wS6) (x:wI9):Bool :=
 false
def tG:St → Option Out:=xP4 [(0,vS),(13,vI)] [(14,vI)] sC3 vS7 uB3 fun y x=>[ex 1 (some (sN5 y x)) [(2,vB)] ((tF9 y x),()),ex 2 (some (qD5 y x)) [] ()]
def f55t (p0:(List UInt8)):Prop × Bool :=
 let v11:=(bif (decide ((len p0) < 1)) then true else (decide ((len p0) > 32)))
 let y4:=(p0,(len p0),())
 let x4:=((0:Int),())
 let e4:=(zC1 (sC3 y4) (vS7 y4) x4)
 (((!v11) = true → (Am.Ends (sC3 y4) (vS7 y4) (uB3 y4) x4)),(bif v11 then false else (bif (sN5 y4 e4) then (tF9 y4 e4) else true)))
def rI8 (p0:(List UInt8)):Prop:=(f55t p0).1
def f55 (p0:(List UInt8)):Bool:=(f55t p0).2
instance (p0:(List UInt8)):Decidable (rI8 p0):=by
 unfold rI8 f55t
 try dsimp only
 infer_instance
def rI9:Am.Spec:=fnSpec [(0,vS)] vB [] (fun x=>rI8 x.1) (fun x=>f55 x.1) (fun _=>())
def qD6:Ctx:=Cx tys [] [(4,tG)] [] false 28 [] []
theorem qD7:CtxOk Tryz.prog qD6:=xW4 tys_ok rfl trivial rfl (by kernel_rfl)
noncomputable def qZ6:Code:=Tryz.f55.body.getD .skip
noncomputable def pI0:Code:=xX3 qZ6 0
theorem qD8:yV Tryz.prog qD6 pI0:=xY2 qD7 mixed (sp:=tG) rfl [[(2,vB)],[]] (bs:=[]) (by kernel_rfl) trivial (by kernel_rfl) (by kernel_rfl) fun y x=>by kernel_rfl
theorem oO7:SpecOk Tryz.prog 55 rI9:=xY3 qD7 mixed Tryz.func55 (by kernel_rfl) (bs:=[pI0]) (by kernel_rfl) ⟨qD8,trivial⟩ fun x=>by kernel_rfl
abbrev wS7:Type:=(D28 × D90 × (List D90) × Int × Int × (List D90) × Int × Unit)
abbrev wJ:Type:=(Int × Unit)
def uH2 (y:wS7) (x:wJ):Prop × Bool × wJ × Bool × Bool :=
 let a4:=y.2.1
 let a53:=y.2.2.2.2.2.1
 let a55:=x.1
 let v56:=(decide (a55 < y.2.2.2.2.2.2.1))
 let v57:=(nth a53 a55 Z90)
 let v70:=(bif (v57.1 == a4.1) then true else (v57.2.1 == a4.2.1))
 ((v56 = true → (InB a55 (len a53) ∧ ((!v70) = true → InR (a55 + 1)))),(v56 && (!v70)),((a55 + 1),()),(v56 && v70),(!v56))
def uB4 (y:wS7) (x:wJ):Prop:=(uH2 y x).1
def uV3 (y:wS7) (x:wJ):Bool:=(uH2 y x).2.1
def vC3 (y:wS7) (x:wJ):wJ:=(uH2 y x).2.2.1
def tG0 (y:wS7) (x:wJ):Bool:=(uH2 y x).2.2.2.1
def sN6 (y:wS7) (x:wJ):Bool:=(uH2 y x).2.2.2.2
instance (y:wS7) (x:wJ):Decidable (uB4 y x):=by
 unfold uB4 uH2
 try dsimp only
 infer_instance
def tG1 (y:wS7) (x:wJ):Int :=
 (10:Int)
def sN7:List (Nat × Sh):=[(1,(.box T28 (.val T28))),(4,(.box T90 (.val T90))),(9,(.val (.sl T90))),(10,vI),(11,vI)]
def tG2:St → Option Out:=xP4 [(1,(.box T28 (.val T28))),(4,(.box T90 (.val T90))),(9,(.val (.sl T90))),(10,vI),(11,vI),(53,(.val (.sl T90))),(54,vI)] [(55,vI)] uV3 vC3 uB4 fun y x=>[ex 1 (some (tG0 y x)) [(2,vI)] ((tG1 y x),()),ex 4 (some (sN6 y x)) sN7 (y.1,y.2.1,y.2.2.1,y.2.2.2.1,y.2.2.2.2.1,())]
abbrev wS8:Type:=(D28 × (List D90) × Int × Unit)
abbrev wJ0:Type:=(Int × Unit)
def uH3 (y:wS8) (x:wJ0):Prop × Bool × wJ0 × Bool × Bool :=
 let a1:=y.1
 let a9:=y.2.1
 let a10:=y.2.2.1
 let a11:=x.1
 let v12:=(decide (a11 < a10))
 let v14:=(nth a9 a11 Z90)
 let v19:=(!(f55 v14.2.1))
 let v44:=(bif (bif (bif (bif (decide (v14.1 < 1)) then true else (decide (v14.1 ≥ a1.2.2.2.2.1))) then true else (decide (v14.2.2.1 < 0))) then true else (decide (v14.2.2.1 > 2))) then true else (decide (v14.2.2.2.1 < 1)))
 let v49:=(bif v44 then true else (decide (v14.2.2.2.1 > 1073741824)))
 let v53:=(List.take (Int.toNat a11) a1.2.2.2.2.2.2.2.1)
 let y9:=(a1,v14,a9,a10,a11,v53,(len v53),())
 let x9:=((0:Int),())
 let e9:=(zC1 (uV3 y9) (vC3 y9) x9)
 let q9_4:=(sN6 y9 e9)
 let v76:=((f56 v14.2.2.2.2.1) != 0)
 let c_8:=((!v19) && ((!v49) && (q9_4 && (!v76))))
 ((v12 = true → (InB a11 (len a9) ∧ ((rI8 v14.2.1) ∧ (((!v19) = true → ((!v49) = true → ((0 ≤ a11 ∧ a11 ≤ len a1.2.2.2.2.2.2.2.1) ∧ ((Am.Ends (uV3 y9) (vC3 y9) (uB4 y9) x9) ∧ (q9_4 = true → (sI2 v14.2.2.2.2.1)))))) ∧ (c_8 = true → InR (a11 + 1)))))),(v12 && c_8),((a11 + 1),()),(v12 && (v19 || ((!v19) && (v49 || ((!v49) && ((tG0 y9 e9) || (q9_4 && v76))))))),(!v12))
def uB5 (y:wS8) (x:wJ0):Prop:=(uH3 y x).1
def sC4 (y:wS8) (x:wJ0):Bool:=(uH3 y x).2.1
def vS8 (y:wS8) (x:wJ0):wJ0:=(uH3 y x).2.2.1
def sN8 (y:wS8) (x:wJ0):Bool:=(uH3 y x).2.2.2.1
def qD9 (y:wS8) (x:wJ0):Bool:=(uH3 y x).2.2.2.2
instance (y:wS8) (x:wJ0):Decidable (uB5 y x):=by
 unfold uB5 uH3
 try dsimp only
 infer_instance
def tG3 (y:wS8) (x:wJ0):Int :=
 let a1:=y.1
 let a9:=y.2.1
 let a11:=x.1
 let v14:=(nth a9 a11 Z90)
 let v44:=(bif (bif (bif (bif (decide (v14.1 < 1)) then true else (decide (v14.1 ≥ a1.2.2.2.2.1))) then true else (decide (v14.2.2.1 < 0))) then true else (decide (v14.2.2.1 > 2))) then true else (decide (v14.2.2.2.1 < 1)))
 let v53:=(List.take (Int.toNat a11) a1.2.2.2.2.2.2.2.1)
 let y9:=(a1,v14,a9,y.2.2.1,a11,v53,(len v53),())
 let e9:=(zC1 (uV3 y9) (vC3 y9) ((0:Int),()))
 let m2_2:=(bif (!(f55 v14.2.1)) then (13:Int) else (bif (bif v44 then true else (decide (v14.2.2.2.1 > 1073741824))) then (2:Int) else (bif (tG0 y9 e9) then (tG1 y9 e9) else (f56 v14.2.2.2.2.1))))
 m2_2
def tG4:St → Option Out:=xP4 [(1,(.box T28 (.val T28))),(9,(.val (.sl T90))),(10,vI)] [(11,vI)] sC4 vS8 uB5 fun y x=>[ex 1 (some (sN8 y x)) [(2,vI)] ((tG3 y x),()),ex 2 (some (qD9 y x)) [] ()]
def f26t (p0:D28):Prop × Int :=
 let y2:=(p0,p0.2.2.2.2.2.2.2.1,(len p0.2.2.2.2.2.2.2.1),())
 let x2:=((0:Int),())
 let e2:=(zC1 (sC4 y2) (vS8 y2) x2)
 ((Am.Ends (sC4 y2) (vS8 y2) (uB5 y2) x2),(bif (sN8 y2 e2) then (tG3 y2 e2) else (0:Int)))
def rJ (p0:D28):Prop:=(f26t p0).1
def f26 (p0:D28):Int:=(f26t p0).2
instance (p0:D28):Decidable (rJ p0):=by
 unfold rJ f26t
 try dsimp only
 infer_instance
def rJ0:Am.Spec:=fnSpec [(0,(.val T28))] vI [] (fun x=>rJ x.1) (fun x=>f26 x.1) (fun _=>())
def sY0:Ctx:=Cx tys [(55,rI9),(56,tW4)] [(9,tG2),(2,tG4)] [] false 79 [] []
theorem sY1:CtxOk Tryz.prog sY0:=xW4 tys_ok rfl ⟨oO7,pH7,trivial⟩ rfl (by kernel_rfl)
noncomputable def qZ7:Code:=Tryz.f26.body.getD .skip
noncomputable def qE:Code:=xX3 qZ7 0
noncomputable def pI1:Code:=xX3 qE 0
theorem qE0:yV Tryz.prog sY0 pI1:=xY2 sY1 mixed (sp:=tG2) rfl [[(2,vI)],sN7] (bs:=[]) (by kernel_rfl) trivial (by kernel_rfl) (by kernel_rfl) fun y x=>by kernel_rfl
theorem qE1:yV Tryz.prog sY0 qE:=xY2 sY1 mixed (sp:=tG4) rfl [[(2,vI)],[]] (bs:=[pI1]) (by kernel_rfl) ⟨qE0,trivial⟩ (by kernel_rfl) (by kernel_rfl) fun y x=>by kernel_rfl
theorem oO8:SpecOk Tryz.prog 26 rJ0:=xY3 sY1 mixed Tryz.func26 (by kernel_rfl) (bs:=[qE]) (by kernel_rfl) ⟨qE1,trivial⟩ fun x=>by kernel_rfl
def sY2 (p0:D49) (p1:Int):Prop × Bool :=
 (True,(p0.1 == p1))
def uB6 (p0:D49) (p1:Int):Prop:=(sY2 p0 p1).1
def pI2 (p0:D49) (p1:Int):Bool:=(sY2 p0 p1).2
instance (p0:D49) (p1:Int):Decidable (uB6 p0 p1):=by
 unfold uB6 sY2
 try dsimp only
 infer_instance
def tG5:Am.Spec:=fnSpec [(0,(.val T49)),(1,(.val (.ptr (.int .i64))))] vB [] (fun x=>uB6 x.1 x.2.1) (fun x=>pI2 x.1 x.2.1) (fun _=>())
def rU2:Ctx:=Cx tys [] [] [] false 8 [] []
theorem rU3:CtxOk Tryz.prog rU2:=xW4 tys_ok rfl trivial rfl (by kernel_rfl)
theorem qE2:SpecOk Tryz.prog 22 tG5:=xY3 rU3 mixed Tryz.func22 (by kernel_rfl) (bs:=[]) (by kernel_rfl) trivial fun x=>by kernel_rfl
abbrev wC9:Type:=((List D49) × (Int × Unit) × Int × Unit)
abbrev wA1:Type:=(Int × Unit)
def wP8 (y:wC9) (x:wA1):Prop × Bool × wA1 × Bool × Bool :=
 let a0:=y.1
 let a1:=y.2.1
 let a8:=x.1
 let v9:=(decide (a8 < y.2.2.1))
 let v14:=(nth a0 a8 Z49)
 let v16:=(pI2 v14 a1.1)
 ((v9 = true → (InB a8 (len a0) ∧ ((uB6 v14 a1.1) ∧ ((!v16) = true → InR (a8 + 1))))),(v9 && (!v16)),((a8 + 1),()),(v9 && v16),(!v9))
def wS9 (y:wC9) (x:wA1):Prop:=(wP8 y x).1
def vS9 (y:wC9) (x:wA1):Bool:=(wP8 y x).2.1
def wV6 (y:wC9) (x:wA1):wA1:=(wP8 y x).2.2.1
def uQ6 (y:wC9) (x:wA1):Bool:=(wP8 y x).2.2.2.1
def sN9 (y:wC9) (x:wA1):Bool:=(wP8 y x).2.2.2.2
instance (y:wC9) (x:wA1):Decidable (wS9 y x):=by
 unfold wS9 wP8
 try dsimp only
 infer_instance
def vP4 (y:wC9) (x:wA1):Int :=
 x.1
def vP5:St → Option Out:=xP4 [(0,(.val (.sl T49))),(1,(.fn 22 (.cons (.val (.ptr (.int .i64))) .nl))),(7,vI)] [(8,vI)] vS9 wV6 wS9 fun y x=>[ex 1 (some (uQ6 y x)) [(4,vI)] ((vP4 y x),()),ex 2 (some (sN9 y x)) [] ()]
def sY3 (p0:(List D49)) (p1:(Int × Unit)):Prop × Int :=
 let y2:=(p0,(p1.1,()),(len p0),())
 let x2:=((0:Int),())
 let e2:=(zC1 (vS9 y2) (wV6 y2) x2)
 ((Am.Ends (vS9 y2) (wV6 y2) (wS9 y2) x2),(bif (uQ6 y2 e2) then (vP4 y2 e2) else (-1:Int)))
def uB7 (p0:(List D49)) (p1:(Int × Unit)):Prop:=(sY3 p0 p1).1
def pI3 (p0:(List D49)) (p1:(Int × Unit)):Int:=(sY3 p0 p1).2
instance (p0:(List D49)) (p1:(Int × Unit)):Decidable (uB7 p0 p1):=by
 unfold uB7 sY3
 try dsimp only
 infer_instance
def tG6:Am.Spec:=fnSpec [(0,(.val (.sl T49))),(1,(.fn 22 (.cons (.val (.ptr (.int .i64))) .nl)))] vI [] (fun x=>uB7 x.1 x.2.1) (fun x=>pI3 x.1 x.2.1) (fun _=>())
def tR2:Ctx:=Cx tys [(22,tG5)] [(2,vP5)] [] false 19 [] []
theorem tR3:CtxOk Tryz.prog tR2:=xW4 tys_ok rfl ⟨qE2,trivial⟩ rfl (by kernel_rfl)
noncomputable def sY4:Code:=Tryz.f21.body.getD .skip
noncomputable def sO:Code:=xX3 sY4 0
theorem sO0:yV Tryz.prog tR2 sO:=xY2 tR3 mixed (sp:=vP5) rfl [[(4,vI)],[]] (bs:=[]) (by kernel_rfl) trivial (by kernel_rfl) (by kernel_rfl) fun y x=>by kernel_rfl
theorem qE3:SpecOk Tryz.prog 21 tG6:=xY3 tR3 mixed Tryz.func21 (by kernel_rfl) (bs:=[sO]) (by kernel_rfl) ⟨sO0,trivial⟩ fun x=>by kernel_rfl
def f8t (p0:D28) (p1:Int):Prop × Int :=
 let s:=(p1,())
 ((uB7 p0.2.2.2.1 s),(pI3 p0.2.2.2.1 s))
def uS7 (p0:D28) (p1:Int):Prop:=(f8t p0 p1).1
def f8 (p0:D28) (p1:Int):Int:=(f8t p0 p1).2
instance (p0:D28) (p1:Int):Decidable (uS7 p0 p1):=by
 unfold uS7 f8t
 try dsimp only
 infer_instance
def vG6:Am.Spec:=fnSpec [(0,(.val T28)),(1,vI)] vI [] (fun x=>uS7 x.1 x.2.1) (fun x=>f8 x.1 x.2.1) (fun _=>())
def oO9:Ctx:=Cx tys [(21,tG6)] [] [(2,[(3,3,0,0)])] false 9 [] []
theorem oP:CtxOk Tryz.prog oO9:=xW4 tys_ok rfl ⟨qE3,trivial⟩ rfl (by kernel_rfl)
theorem sY5:SpecOk Tryz.prog 8 vG6:=xY3 oP mixed Tryz.func8 (by kernel_rfl) (bs:=[]) (by kernel_rfl) trivial fun x=>by kernel_rfl
def sY6 (p0:D90) (p1:D49):Prop × Bool :=
 (True,(p0.1 == p1.2.2.2.2.2.2.2.2.2.2.2.2.2.2.2.2.2.2.2.2.2.2.2.2.2.2.1))
def uB8 (p0:D90) (p1:D49):Prop:=(sY6 p0 p1).1
def pI4 (p0:D90) (p1:D49):Bool:=(sY6 p0 p1).2
instance (p0:D90) (p1:D49):Decidable (uB8 p0 p1):=by
 unfold uB8 sY6
 try dsimp only
 infer_instance
def tG7:Am.Spec:=fnSpec [(0,(.val T90)),(1,(.val (.ptr T49)))] vB [] (fun x=>uB8 x.1 x.2.1) (fun x=>pI4 x.1 x.2.1) (fun _=>())
def rU4:Ctx:=Cx tys [] [] [] false 9 [] []
theorem rU5:CtxOk Tryz.prog rU4:=xW4 tys_ok rfl trivial rfl (by kernel_rfl)
theorem qE4:SpecOk Tryz.prog 58 tG7:=xY3 rU5 mixed Tryz.func58 (by kernel_rfl) (bs:=[]) (by kernel_rfl) trivial fun x=>by kernel_rfl
abbrev wD:Type:=((List D90) × (D49 × Unit) × Int × Unit)
abbrev wA2:Type:=(Int × Unit)
def wP9 (y:wD) (x:wA2):Prop × Bool × wA2 × Bool × Bool :=
 let a0:=y.1
 let a1:=y.2.1
 let a8:=x.1
 let v9:=(decide (a8 < y.2.2.1))
 let v14:=(nth a0 a8 Z90)
 let v16:=(pI4 v14 a1.1)
 ((v9 = true → (InB a8 (len a0) ∧ ((uB8 v14 a1.1) ∧ ((!v16) = true → InR (a8 + 1))))),(v9 && (!v16)),((a8 + 1),()),(v9 && v16),(!v9))
def wT (y:wD) (x:wA2):Prop:=(wP9 y x).1
def vT (y:wD) (x:wA2):Bool:=(wP9 y x).2.1
def wV7 (y:wD) (x:wA2):wA2:=(wP9 y x).2.2.1
def uQ7 (y:wD) (x:wA2):Bool:=(wP9 y x).2.2.2.1
def sO1 (y:wD) (x:wA2):Bool:=(wP9 y x).2.2.2.2
instance (y:wD) (x:wA2):Decidable (wT y x):=by
 unfold wT wP9
 try dsimp only
 infer_instance
def vP6 (y:wD) (x:wA2):Int :=
 x.1
def vP7:St → Option Out:=xP4 [(0,(.val (.sl T90))),(1,(.fn 58 (.cons (.val (.ptr T49)) .nl))),(7,vI)] [(8,vI)] vT wV7 wT fun y x=>[ex 1 (some (uQ7 y x)) [(4,vI)] ((vP6 y x),()),ex 2 (some (sO1 y x)) [] ()]
def sY7 (p0:(List D90)) (p1:(D49 × Unit)):Prop × Int :=
 let y2:=(p0,(p1.1,()),(len p0),())
 let x2:=((0:Int),())
 let e2:=(zC1 (vT y2) (wV7 y2) x2)
 ((Am.Ends (vT y2) (wV7 y2) (wT y2) x2),(bif (uQ7 y2 e2) then (vP6 y2 e2) else (-1:Int)))
def uB9 (p0:(List D90)) (p1:(D49 × Unit)):Prop:=(sY7 p0 p1).1
def pI5 (p0:(List D90)) (p1:(D49 × Unit)):Int:=(sY7 p0 p1).2
instance (p0:(List D90)) (p1:(D49 × Unit)):Decidable (uB9 p0 p1):=by
 unfold uB9 sY7
 try dsimp only
 infer_instance
def tG8:Am.Spec:=fnSpec [(0,(.val (.sl T90))),(1,(.fn 58 (.cons (.val (.ptr T49)) .nl)))] vI [] (fun x=>uB9 x.1 x.2.1) (fun x=>pI5 x.1 x.2.1) (fun _=>())
def tR4:Ctx:=Cx tys [(58,tG7)] [(2,vP7)] [] false 19 [] []
theorem tR5:CtxOk Tryz.prog tR4:=xW4 tys_ok rfl ⟨qE4,trivial⟩ rfl (by kernel_rfl)
noncomputable def sY8:Code:=Tryz.f86.body.getD .skip
noncomputable def sO2:Code:=xX3 sY8 0
theorem sO3:yV Tryz.prog tR4 sO2:=xY2 tR5 mixed (sp:=vP7) rfl [[(4,vI)],[]] (bs:=[]) (by kernel_rfl) trivial (by kernel_rfl) (by kernel_rfl) fun y x=>by kernel_rfl
theorem qE5:SpecOk Tryz.prog 86 tG8:=xY3 tR5 mixed Tryz.func86 (by kernel_rfl) (bs:=[sO2]) (by kernel_rfl) ⟨sO3,trivial⟩ fun x=>by kernel_rfl
def sY9 (p0:(List D90)) (p1:(D49 × Unit)):Prop × Bool :=
 let s:=(p1.1,())
 ((uB9 p0 s),(decide ((pI5 p0 s) ≥ 0)))
def uC (p0:(List D90)) (p1:(D49 × Unit)):Prop:=(sY9 p0 p1).1
def pI6 (p0:(List D90)) (p1:(D49 × Unit)):Bool:=(sY9 p0 p1).2
instance (p0:(List D90)) (p1:(D49 × Unit)):Decidable (uC p0 p1):=by
 unfold uC sY9
 try dsimp only
 infer_instance
def tG9:Am.Spec:=fnSpec [(0,(.val (.sl T90))),(1,(.fn 58 (.cons (.val (.ptr T49)) .nl)))] vB [] (fun x=>uC x.1 x.2.1) (fun x=>pI6 x.1 x.2.1) (fun _=>())
def rU6:Ctx:=Cx tys [(86,tG8)] [] [] false 9 [] []
theorem rU7:CtxOk Tryz.prog rU6:=xW4 tys_ok rfl ⟨qE5,trivial⟩ rfl (by kernel_rfl)
theorem qE6:SpecOk Tryz.prog 57 tG9:=xY3 rU7 mixed Tryz.func57 (by kernel_rfl) (bs:=[]) (by kernel_rfl) trivial fun x=>by kernel_rfl
abbrev wT0:Type:=(D28 × (List D49) × Int × Unit)
abbrev wJ1:Type:=(Int × Unit)
def uH4 (y:wT0) (x:wJ1):Prop × Bool × wJ1 × Bool × Bool :=
 let a1:=y.1
 let a7:=y.2.1
 let a9:=x.1
 let v10:=(decide (a9 < y.2.2.1))
 let v11:=(nth a7 a9 Z49)
 let v16:=(v11.2.1 == 9)
 let s:=(v11,())
 let v21:=(!(pI6 a1.2.2.2.2.2.2.2.1 s))
 let v23:=(v11.2.1 == 10)
 let v27:=(f8 a1 v11.2.2.2.2.2.2.2.2.2.2.2.2.2.2.2.2.2.2.2.2.2.2.2.2.2.2.1)
 let v29:=(decide (v27 < 0))
 let v33:=(nth a1.2.2.2.1 v27 Z49)
 let v35:=(f54 v33)
 let c_6:=(bif v16 then (!v21) else (bif v23 then ((!v29) && (!v35)) else true))
 ((v10 = true → (InB a9 (len a7) ∧ ((v16 = true → (uC a1.2.2.2.2.2.2.2.1 s)) ∧ ((v16 = false → (v23 = true → ((uS7 a1 v11.2.2.2.2.2.2.2.2.2.2.2.2.2.2.2.2.2.2.2.2.2.2.2.2.2.2.1) ∧ ((!v29) = true → (InB v27 (len a1.2.2.2.1) ∧ (tN3 v33)))))) ∧ (c_6 = true → InR (a9 + 1)))))),(v10 && c_6),((a9 + 1),()),(v10 && (bif v16 then v21 else ((v29 || ((!v29) && v35)) && v23))),(!v10))
def uC0 (y:wT0) (x:wJ1):Prop:=(uH4 y x).1
def sC5 (y:wT0) (x:wJ1):Bool:=(uH4 y x).2.1
def vT0 (y:wT0) (x:wJ1):wJ1:=(uH4 y x).2.2.1
def sO4 (y:wT0) (x:wJ1):Bool:=(uH4 y x).2.2.2.1
def qE7 (y:wT0) (x:wJ1):Bool:=(uH4 y x).2.2.2.2
instance (y:wT0) (x:wJ1):Decidable (uC0 y x):=by
 unfold uC0 uH4
 try dsimp only
 infer_instance
def tH (y:wT0) (x:wJ1):Int :=
 let v11:=(nth y.2.1 x.1 Z49)
 (bif (v11.2.1 == 9) then (9:Int) else (bif (decide ((f8 y.1 v11.2.2.2.2.2.2.2.2.2.2.2.2.2.2.2.2.2.2.2.2.2.2.2.2.2.2.1) < 0)) then (9:Int) else (8:Int)))
def tH0:St → Option Out:=xP4 [(1,(.box T28 (.val T28))),(7,(.val (.sl T49))),(8,vI)] [(9,vI)] sC5 vT0 uC0 fun y x=>[ex 1 (some (sO4 y x)) [(2,vI)] ((tH y x),()),ex 2 (some (qE7 y x)) [] ()]
def f27t (p0:D28):Prop × Int :=
 let y2:=(p0,p0.2.2.2.1,(len p0.2.2.2.1),())
 let x2:=((0:Int),())
 let e2:=(zC1 (sC5 y2) (vT0 y2) x2)
 ((Am.Ends (sC5 y2) (vT0 y2) (uC0 y2) x2),(bif (sO4 y2 e2) then (tH y2 e2) else (0:Int)))
def rJ1 (p0:D28):Prop:=(f27t p0).1
def f27 (p0:D28):Int:=(f27t p0).2
instance (p0:D28):Decidable (rJ1 p0):=by
 unfold rJ1 f27t
 try dsimp only
 infer_instance
def rJ2:Am.Spec:=fnSpec [(0,(.val T28))] vI [] (fun x=>rJ1 x.1) (fun x=>f27 x.1) (fun _=>())
def qE8:Ctx:=Cx tys [(8,vG6),(54,uS9),(57,tG9)] [(2,tH0)] [(12,[(3,4,0,0)])] false 37 [] []
theorem qE9:CtxOk Tryz.prog qE8:=xW4 tys_ok rfl ⟨sY5,rX6,qE6,trivial⟩ rfl (by kernel_rfl)
noncomputable def qZ8:Code:=Tryz.f27.body.getD .skip
noncomputable def pI7:Code:=xX3 qZ8 0
theorem qF:yV Tryz.prog qE8 pI7:=xY2 qE9 mixed (sp:=tH0) rfl [[(2,vI)],[]] (bs:=[]) (by kernel_rfl) trivial (by kernel_rfl) (by kernel_rfl) fun y x=>by kernel_rfl
theorem oP0:SpecOk Tryz.prog 27 rJ2:=xY3 qE9 mixed Tryz.func27 (by kernel_rfl) (bs:=[pI7]) (by kernel_rfl) ⟨qF,trivial⟩ fun x=>by kernel_rfl
abbrev vN:Type:=(Int × D28 × (List D49) × Int × Unit)
abbrev wT1:Type:=((List Int) × Int × Unit)
def sC6 (y:vN) (x:wT1):Prop × Bool × wT1 :=
 let a1:=y.1
 let a2:=y.2.1
 let a18:=y.2.2.1
 let a5:=x.1
 let a20:=x.2.1
 let v21:=(decide (a20 < y.2.2.2.1))
 let v33:=((nth a18 a20 Z49).2.2.1 == (nth a2.2.2.2.1 a1 Z49).1)
 let v36:=([a20]:List Int)
 ((v21 = true → (InB a20 (len a18) ∧ (InB a1 (len a2.2.2.2.1) ∧ ((v33 = true → ((List.length a5 + List.length v36:Nat):Int) ≤ 4294967296) ∧ InR (a20 + 1))))),v21,((bif v33 then (a5 ++ v36) else a5),(a20 + 1),()))
def uC1 (y:vN) (x:wT1):Prop:=(sC6 y x).1
def sC7 (y:vN) (x:wT1):Bool:=(sC6 y x).2.1
def vT1 (y:vN) (x:wT1):wT1:=(sC6 y x).2.2
instance (y:vN) (x:wT1):Decidable (uC1 y x):=by
 unfold uC1 sC6
 try dsimp only
 infer_instance
def tH1 (y:vN) (x:wT1):(List Int) :=
 x.1
def sO5:List (Nat × Sh):=[(5,(.own (.int .i64) 1005 false))]
def tH2:St → Option Out:=xP4 [(1,vI),(2,(.box T28 (.val T28))),(18,(.val (.sl T49))),(19,vI)] [(5,(.own (.int .i64) 1005 false)),(20,vI)] sC7 vT1 uC1 fun y x=>[ex 3 none sO5 ((tH1 y x),())]
def f60t (p0:D28) (p1:Int):Prop × (List Int) :=
 let v12:=(nth p0.2.2.2.1 p1 Z49)
 let v16:=(v12.2.1 == 1)
 let y5:=(p1,p0,p0.2.2.2.1,(len p0.2.2.2.1),())
 let x5:=(([]:List Int),(0:Int),())
 let v40:=(v12.2.1 == 10)
 let v45:=(nth p0.2.2.2.1 p1 Z49)
 let v48:=(f8 p0 v45.2.2.2.2.2.2.2.2.2.2.2.2.2.2.2.2.2.2.2.2.2.2.2.2.2.2.1)
 let v50:=(decide (v48 ≥ 0))
 let v53:=([v48]:List Int)
 ((InB p1 (len p0.2.2.2.1) ∧ ((v16 = true → (Am.Ends (sC7 y5) (vT1 y5) (uC1 y5) x5)) ∧ (v16 = false → (v40 = true → (InB p1 (len p0.2.2.2.1) ∧ ((uS7 p0 v45.2.2.2.2.2.2.2.2.2.2.2.2.2.2.2.2.2.2.2.2.2.2.2.2.2.2.1) ∧ (v50 = true → (List.length v53:Int) ≤ 4294967296))))))),(bif v16 then (tH1 y5 (zC1 (sC7 y5) (vT1 y5) x5)) else (bif v40 then (bif v50 then v53 else []) else [])))
def rJ3 (p0:D28) (p1:Int):Prop:=(f60t p0 p1).1
def f60 (p0:D28) (p1:Int):(List Int):=(f60t p0 p1).2
instance (p0:D28) (p1:Int):Decidable (rJ3 p0 p1):=by
 unfold rJ3 f60t
 try dsimp only
 infer_instance
def rJ4:Am.Spec:=fnSpec [(0,(.val T28)),(1,vI)] (.own (.int .i64) 0 false) [] (fun x=>rJ3 x.1 x.2.1) (fun x=>f60 x.1 x.2.1) (fun _=>())
def qF0:Ctx:=Cx tys [(8,vG6)] [(5,tH2)] [(17,[(4,0,37,1005)]),(27,[(4,0,54,1005)]),(29,[(4,0,1005,0)])] false 56 [] []
theorem qF1:CtxOk Tryz.prog qF0:=xW4 tys_ok rfl ⟨sY5,trivial⟩ rfl (by kernel_rfl)
noncomputable def qZ9:Code:=Tryz.f60.body.getD .skip
noncomputable def pI8:Code:=xX3 qZ9 0
theorem qF2:yV Tryz.prog qF0 pI8:=xY2 qF1 mixed (sp:=tH2) rfl [sO5] (bs:=[]) (by kernel_rfl) trivial (by kernel_rfl) (by kernel_rfl) fun y x=>by kernel_rfl
theorem oP1:SpecOk Tryz.prog 60 rJ4:=xY3 qF1 mixed Tryz.func60 (by kernel_rfl) (bs:=[pI8]) (by kernel_rfl) ⟨qF2,trivial⟩ fun x=>by kernel_rfl
abbrev xY9:Type:=Int → (List Bool) → (List Bool) → D28 → Unit → Prop × Bool × ((List Bool) × (List Bool) × D28 × Unit)
def wY5 (r:xY9):Am.Spec:=fnSpec [(0,vI),(1,(.box (.sl .bool) (.own .bool 400100 true))),(2,(.box (.sl .bool) (.own .bool 400200 true))),(3,(.box T28 (.val T28))),(4,(.fptr 59 [some (1,(.sl .bool)),some (2,(.sl .bool)),some (3,T28),none]))] vB [(1,(.box (.sl .bool) (.own .bool 400100 true))),(2,(.box (.sl .bool) (.own .bool 400200 true))),(3,(.box T28 (.val T28)))] (fun x=>(r x.1 x.2.1 x.2.2.1 x.2.2.2.1 x.2.2.2.2.1).1) (fun x=>(r x.1 x.2.1 x.2.2.1 x.2.2.2.1 x.2.2.2.2.1).2.1) (fun x=>(r x.1 x.2.1 x.2.2.1 x.2.2.2.1 x.2.2.2.2.1).2.2)
abbrev xZ:Type:=(Int × Unit × (List Int) × Int × Unit)
abbrev xY8:Type:=((List Bool) × (List Bool) × D28 × Int × Unit)
def wQ (r:xY9) (y:xZ) (x:xY8):Prop × Bool × xY8 × Bool × Bool :=
 let a29:=y.2.2.1
 let a1:=x.1
 let a2:=x.2.1
 let a3:=x.2.2.1
 let a31:=x.2.2.2.1
 let v32:=(decide (a31 < y.2.2.2.1))
 let v33:=(nth a29 a31 (0:Int))
 let v37:=(r v33 a1 a2 a3 ()).2.1
 let v37o:=(r v33 a1 a2 a3 ()).2.2
 ((v32 = true → (InB a31 (len a29) ∧ ((r v33 a1 a2 a3 ()).1 ∧ ((!v37) = true → InR (a31 + 1))))),(v32 && (!v37)),(v37o.1,v37o.2.1,v37o.2.2.1,(a31 + 1),()),(v32 && v37),(!v32))
def wT2 (r:xY9) (y:xZ) (x:xY8):Prop:=((wQ r) y x).1
def vT2 (r:xY9) (y:xZ) (x:xY8):Bool:=((wQ r) y x).2.1
def wV8 (r:xY9) (y:xZ) (x:xY8):xY8:=((wQ r) y x).2.2.1
def uQ8 (r:xY9) (y:xZ) (x:xY8):Bool:=((wQ r) y x).2.2.2.1
def uQ9 (r:xY9) (y:xZ) (x:xY8):Bool:=((wQ r) y x).2.2.2.2
instance (r:xY9) [∀ q0 q1 q2 q3 q4,Decidable (r q0 q1 q2 q3 q4).1] (y:xZ) (x:xY8):Decidable ((wT2 r) y x):=by
 unfold wT2 wQ
 try dsimp only
 infer_instance
def vP8 (r:xY9) (y:xZ) (x:xY8):(List Bool) :=
 ((r (nth y.2.2.1 x.2.2.2.1 (0:Int)) x.1 x.2.1 x.2.2.1 ()).2.2).1
def vP9 (r:xY9) (y:xZ) (x:xY8):(List Bool) :=
 ((r (nth y.2.2.1 x.2.2.2.1 (0:Int)) x.1 x.2.1 x.2.2.1 ()).2.2).2.1
def vQ (r:xY9) (y:xZ) (x:xY8):D28 :=
 ((r (nth y.2.2.1 x.2.2.2.1 (0:Int)) x.1 x.2.1 x.2.2.1 ()).2.2).2.2.1
def vQ0 (r:xY9) (y:xZ) (x:xY8):Bool :=
 true
def uR:List (Nat × Sh):=[(1,(.box (.sl .bool) (.own .bool 400100 true))),(2,(.box (.sl .bool) (.own .bool 400200 true))),(3,(.box T28 (.val T28))),(6,vB)]
def vQ1 (r:xY9) (y:xZ) (x:xY8):(List Bool) :=
 x.1
def vQ2 (r:xY9) (y:xZ) (x:xY8):(List Bool) :=
 x.2.1
def vQ3 (r:xY9) (y:xZ) (x:xY8):D28 :=
 x.2.2.1
def uR0:List (Nat × Sh):=[(0,vI),(1,(.box (.sl .bool) (.own .bool 400100 true))),(2,(.box (.sl .bool) (.own .bool 400200 true))),(3,(.box T28 (.val T28)))]
def vQ4 (r:xY9):St → Option Out:=xP4 [(0,vI),(4,(.fptr 59 [some (1,(.sl .bool)),some (2,(.sl .bool)),some (3,T28),none])),(29,(.own (.int .i64) 29 false)),(30,vI)] [(1,(.box (.sl .bool) (.own .bool 400100 true))),(2,(.box (.sl .bool) (.own .bool 400200 true))),(3,(.box T28 (.val T28))),(31,vI)] (vT2 r) (wV8 r) (wT2 r) fun y x=>[ex 1 (some ((uQ8 r) y x)) uR (((vP8 r) y x),((vP9 r) y x),((vQ r) y x),((vQ0 r) y x),()),ex 2 (some ((uQ9 r) y x)) uR0 (y.1,((vQ1 r) y x),((vQ2 r) y x),((vQ3 r) y x),())]
def tH3 (r:xY9) (p0:Int) (p1:(List Bool)) (p2:(List Bool)) (p3:D28) (p4:Unit):Prop × Bool × ((List Bool) × (List Bool) × D28 × Unit) :=
 let v12:=(nth p1 p0 false)
 let v18:=(bif v12 then true else (nth p2 p0 false))
 let v29:=(f60 p3 p0)
 let y5:=(p0,(),v29,(len v29),())
 let x5:=(p1,(List.set p2 (Int.toNat p0) true),p3,(0:Int),())
 let e5:=(zC1 ((vT2 r) y5) ((wV8 r) y5) x5)
 let q5_1:=((uQ8 r) y5 e5)
 let r5_2_0:=((vQ1 r) y5 e5)
 ((InB p0 (len p1) ∧ (p0 < len p1 ∧ (((!v12) = true → InB p0 (len p2)) ∧ (((!v12) = true → p0 < len p2) ∧ ((v18 = true → (InB p0 (len p1) ∧ p0 < len p1)) ∧ ((!v18) = true → (InB p0 (len p2) ∧ (p0 < len p2 ∧ ((rJ3 p3 p0) ∧ ((Am.Ends ((vT2 r) y5) ((wV8 r) y5) ((wT2 r) y5) x5) ∧ (((uQ9 r) y5 e5) = true → (InB p0 (len r5_2_0) ∧ p0 < len r5_2_0)))))))))))),(bif v18 then (!(nth p1 p0 false)) else (bif q5_1 then ((vQ0 r) y5 e5) else false)),((bif v18 then p1 else (bif q5_1 then ((vP8 r) y5 e5) else (List.set r5_2_0 (Int.toNat p0) true))),(bif v18 then p2 else (bif q5_1 then ((vP9 r) y5 e5) else ((vQ2 r) y5 e5))),(bif v18 then p3 else (bif q5_1 then ((vQ r) y5 e5) else ((vQ3 r) y5 e5))),()))
def tR6 (r:xY9):Ctx:={ Cx tys [(59,wY5 r),(60,rJ4)] [(5,(vQ4 r))] [] false 42 [1,2,3] [] with wants:=[(59,[])],fts:=fts }
theorem tR7 (r:xY9) (hr:SpecOk Tryz.prog 59 (wY5 r)):CtxOk Tryz.prog (tR6 r):=xW4 tys_ok (by kernel_rfl) ⟨hr,oP1,trivial⟩ rfl (by kernel_rfl)
noncomputable def sZ:Code:=Tryz.f59.body.getD .skip
noncomputable def sO6:Code:=xX3 sZ 0
theorem sO7 (r:xY9) (hr:SpecOk Tryz.prog 59 (wY5 r)):yV Tryz.prog (tR6 r) sO6:=xY2 (tR7 r hr) mixed (sp:=(vQ4 r)) rfl [uR,uR0] (bs:=[]) (by kernel_rfl) trivial (by kernel_rfl) (by kernel_rfl) fun y x=>by kernel_rfl
instance (r:xY9) [∀ q0 q1 q2 q3 q4,Decidable (r q0 q1 q2 q3 q4).1] (p0:Int) (p1:(List Bool)) (p2:(List Bool)) (p3:D28) (p4:Unit):Decidable (tH3 r p0 p1 p2 p3 p4).1:=by
 unfold tH3
 try dsimp only
 infer_instance
theorem sZ0 (r:xY9) (hr:SpecOk Tryz.prog 59 (wY5 r)):SpecOk Tryz.prog 59 (wY5 (tH3 r)):=xY3 (tR7 r hr) mixed Tryz.func59 (by kernel_rfl) (bs:=[sO6]) (by kernel_rfl) ⟨sO7 r hr,trivial⟩ fun x=>by kernel_rfl
def wO9:Nat → xY9
 | 0=>fun _ _ _ _ _=>(False,false,(([]:List Bool),([]:List Bool),Z28,()))
 | k + 1=>tH3 (wO9 k)
theorem tR8:∀ k,SpecOk Tryz.prog 59 (wY5 (wO9 k))
 | 0=>xT7 Tryz.func59 (by kernel_rfl) (by decide)
 | k + 1=>sZ0 _ (tR8 k)
def uV4 (p0:Int) (p1:(List Bool)) (p2:(List Bool)) (p3:D28) (p4:Unit):Nat:=(List.length p1 + 1)
def tH4 (p0:Int) (p1:(List Bool)) (p2:(List Bool)) (p3:D28) (p4:Unit):Prop:=(wO9 (uV4 p0 p1 p2 p3 p4) p0 p1 p2 p3 p4).1
def pI9 (p0:Int) (p1:(List Bool)) (p2:(List Bool)) (p3:D28) (p4:Unit):Bool:=(wO9 (uV4 p0 p1 p2 p3 p4) p0 p1 p2 p3 p4).2.1
def rJ5 (p0:Int) (p1:(List Bool)) (p2:(List Bool)) (p3:D28) (p4:Unit):((List Bool) × (List Bool) × D28 × Unit):=(wO9 (uV4 p0 p1 p2 p3 p4) p0 p1 p2 p3 p4).2.2
def tR9:∀ (k:Nat) (p0:Int) (p1:(List Bool)) (p2:(List Bool)) (p3:D28) (p4:Unit),Decidable (wO9 k p0 p1 p2 p3 p4).1
 | 0,_,_,_,_,_=>isFalse id
 | k + 1,p0,p1,p2,p3,p4=>by
  have:∀ (q0:Int) (q1:(List Bool)) (q2:(List Bool)) (q3:D28) (q4:Unit),Decidable (wO9 k q0 q1 q2 q3 q4).1:=tR9 k
  exact inferInstanceAs (Decidable (tH3 (wO9 k) p0 p1 p2 p3 p4).1)
instance (p0:Int) (p1:(List Bool)) (p2:(List Bool)) (p3:D28) (p4:Unit):Decidable (tH4 p0 p1 p2 p3 p4):=tR9 _ p0 p1 p2 p3 p4
def tH5:Am.Spec:=fnSpec [(0,vI),(1,(.box (.sl .bool) (.own .bool 400100 true))),(2,(.box (.sl .bool) (.own .bool 400200 true))),(3,(.box T28 (.val T28))),(4,(.fptr 59 [some (1,(.sl .bool)),some (2,(.sl .bool)),some (3,T28),none]))] vB [(1,(.box (.sl .bool) (.own .bool 400100 true))),(2,(.box (.sl .bool) (.own .bool 400200 true))),(3,(.box T28 (.val T28)))] (fun x=>tH4 x.1 x.2.1 x.2.2.1 x.2.2.2.1 x.2.2.2.2.1) (fun x=>pI9 x.1 x.2.1 x.2.2.1 x.2.2.2.1 x.2.2.2.2.1) (fun x=>rJ5 x.1 x.2.1 x.2.2.1 x.2.2.2.1 x.2.2.2.2.1)
theorem qF3:SpecOk Tryz.prog 59 tH5:=xV2 (ps:=[(0,vI),(1,(.box (.sl .bool) (.own .bool 400100 true))),(2,(.box (.sl .bool) (.own .bool 400200 true))),(3,(.box T28 (.val T28))),(4,(.fptr 59 [some (1,(.sl .bool)),some (2,(.sl .bool)),some (3,T28),none]))]) (rs:=vB) (os:=[(1,(.box (.sl .bool) (.own .bool 400100 true))),(2,(.box (.sl .bool) (.own .bool 400200 true))),(3,(.box T28 (.val T28)))]) (R:=fun k x=>wO9 k x.1 x.2.1 x.2.2.1 x.2.2.2.1 x.2.2.2.2.1) tR8 fun x=>uV4 x.1 x.2.1 x.2.2.1 x.2.2.2.1 x.2.2.2.2.1
abbrev wT3:Type:=(Unit × Int × Unit)
abbrev wJ2:Type:=(D28 × (List Bool) × (List Bool) × Int × Unit)
def uH5 (y:wT3) (x:wJ2):Prop × Bool × wJ2 × Bool × Bool :=
 let a1:=x.1
 let a3:=x.2.1
 let a4:=x.2.2.1
 let a19:=x.2.2.2.1
 let v20:=(decide (a19 < y.2.1))
 let v24:=(pI9 a19 a4 a3 a1 ())
 let v24o:=(rJ5 a19 a4 a3 a1 ())
 ((v20 = true → ((tH4 a19 a4 a3 a1 ()) ∧ ((!v24) = true → InR (a19 + 1)))),(v20 && (!v24)),(v24o.2.2.1,v24o.2.1,v24o.1,(a19 + 1),()),(v20 && v24),(!v20))
def uC2 (y:wT3) (x:wJ2):Prop:=(uH5 y x).1
def sC8 (y:wT3) (x:wJ2):Bool:=(uH5 y x).2.1
def vT3 (y:wT3) (x:wJ2):wJ2:=(uH5 y x).2.2.1
def sO8 (y:wT3) (x:wJ2):Bool:=(uH5 y x).2.2.2.1
def qF4 (y:wT3) (x:wJ2):Bool:=(uH5 y x).2.2.2.2
instance (y:wT3) (x:wJ2):Decidable (uC2 y x):=by
 unfold uC2 uH5
 try dsimp only
 infer_instance
def tH6 (y:wT3) (x:wJ2):Bool :=
 true
def tH7:St → Option Out:=xP4 [(5,(.fptr 59 [some (4,(.sl .bool)),some (3,(.sl .bool)),some (1,T28),none])),(18,vI)] [(1,(.box T28 (.val T28))),(3,(.box (.sl .bool) (.own .bool 400300 true))),(4,(.box (.sl .bool) (.own .bool 400400 true))),(19,vI)] sC8 vT3 uC2 fun y x=>[ex 1 (some (sO8 y x)) [(2,vB)] ((tH6 y x),()),ex 2 (some (qF4 y x)) [] ()]
def f28t (p0:D28):Prop × Bool :=
 let v9:=(len p0.2.2.2.1)
 let v13:=(len p0.2.2.2.1)
 let y6:=((),(len p0.2.2.2.1),())
 let x6:=(p0,(List.replicate (Int.toNat v9) false),(List.replicate (Int.toNat v13) false),(0:Int),())
 let e6:=(zC1 (sC8 y6) (vT3 y6) x6)
 (((0 ≤ v9 ∧ v9 ≤ v9 ∧ v9 ≤ 4294967296) ∧ ((0 ≤ v13 ∧ v13 ≤ v13 ∧ v13 ≤ 4294967296) ∧ (Am.Ends (sC8 y6) (vT3 y6) (uC2 y6) x6))),(bif (sO8 y6 e6) then (tH6 y6 e6) else false))
def rJ6 (p0:D28):Prop:=(f28t p0).1
def f28 (p0:D28):Bool:=(f28t p0).2
instance (p0:D28):Decidable (rJ6 p0):=by
 unfold rJ6 f28t
 try dsimp only
 infer_instance
def rJ7:Am.Spec:=fnSpec [(0,(.val T28))] vB [] (fun x=>rJ6 x.1) (fun x=>f28 x.1) (fun _=>())
def qF5:Ctx:={ Cx tys [(59,tH5)] [(6,tH7)] [(3,[(4,0,10,400300)]),(5,[(4,0,14,400400)])] false 26 [] [10,14] with wants:=[(59,[])],fts:=fts }
theorem qF6:CtxOk Tryz.prog qF5:=xW4 tys_ok (by kernel_rfl) ⟨qF3,trivial⟩ rfl (by kernel_rfl)
noncomputable def pA0:Code:=Tryz.f28.body.getD .skip
noncomputable def pJ:Code:=xX3 pA0 0
theorem qF7:yV Tryz.prog qF5 pJ:=xY2 qF6 mixed (sp:=tH7) rfl [[(2,vB)],[]] (bs:=[]) (by kernel_rfl) trivial (by kernel_rfl) (by kernel_rfl) fun y x=>by kernel_rfl
theorem oP2:SpecOk Tryz.prog 28 rJ7:=xY3 qF6 mixed Tryz.func28 (by kernel_rfl) (bs:=[pJ]) (by kernel_rfl) ⟨qF7,trivial⟩ fun x=>by kernel_rfl
abbrev wN2:Type:=((List UInt8) × Int × Int × Unit)
abbrev wF3:Type:=(Int × Unit)
def vN0 (y:wN2) (x:wF3):Prop × Bool × wF3 × Bool × Bool :=
 let a0:=y.1
 let a19:=x.1
 let v20:=(decide (a19 < y.2.2.1))
 let v26:=(decide ((xX6 a0 a19) < y.2.1))
 let v32:=(bif v26 then true else (decide ((xX6 a0 a19) > 126)))
 ((v20 = true → (InB a19 (len a0) ∧ (((!v26) = true → InB a19 (len a0)) ∧ ((!v32) = true → InR (a19 + 1))))),(v20 && (!v32)),((a19 + 1),()),(v20 && v32),(!v20))
def vN1 (y:wN2) (x:wF3):Prop:=(vN0 y x).1
def tH8 (y:wN2) (x:wF3):Bool:=(vN0 y x).2.1
def vG7 (y:wN2) (x:wF3):wF3:=(vN0 y x).2.2.1
def tS (y:wN2) (x:wF3):Bool:=(vN0 y x).2.2.2.1
def rU8 (y:wN2) (x:wF3):Bool:=(vN0 y x).2.2.2.2
instance (y:wN2) (x:wF3):Decidable (vN1 y x):=by
 unfold vN1 vN0
 try dsimp only
 infer_instance
def uR1 (y:wN2) (x:wF3):Bool :=
 false
def uR2:St → Option Out:=xP4 [(0,vS),(2,(.val (.int .u8))),(18,vI)] [(19,vI)] tH8 vG7 vN1 fun y x=>[ex 1 (some (tS y x)) [(6,vB)] ((uR1 y x),()),ex 2 (some (rU8 y x)) [] ()]
def oD3 (p0:(List UInt8)) (p1:Int) (p2:Int):Prop × Bool :=
 let v16:=(bif (decide ((len p0) < 1)) then true else (decide ((len p0) > p1)))
 let y4:=(p0,p2,(len p0),())
 let x4:=((0:Int),())
 let e4:=(zC1 (tH8 y4) (vG7 y4) x4)
 (((!v16) = true → (Am.Ends (tH8 y4) (vG7 y4) (vN1 y4) x4)),(bif v16 then false else (bif (tS y4 e4) then (uR1 y4 e4) else true)))
def tH9 (p0:(List UInt8)) (p1:Int) (p2:Int):Prop:=(oD3 p0 p1 p2).1
def f118 (p0:(List UInt8)) (p1:Int) (p2:Int):Bool:=(oD3 p0 p1 p2).2
instance (p0:(List UInt8)) (p1:Int) (p2:Int):Decidable (tH9 p0 p1 p2):=by
 unfold tH9 oD3
 try dsimp only
 infer_instance
def tI:Am.Spec:=fnSpec [(0,vS),(1,vI),(2,(.val (.int .u8)))] vB [] (fun x=>tH9 x.1 x.2.1 x.2.2.1) (fun x=>f118 x.1 x.2.1 x.2.2.1) (fun _=>())
def rJ8:Ctx:=Cx tys [] [(4,uR2)] [] false 34 [] []
theorem rJ9:CtxOk Tryz.prog rJ8:=xW4 tys_ok rfl trivial rfl (by kernel_rfl)
noncomputable def qF8:Code:=Tryz.f118.body.getD .skip
noncomputable def qF9:Code:=xX3 qF8 0
theorem rU9:yV Tryz.prog rJ8 qF9:=xY2 rJ9 mixed (sp:=uR2) rfl [[(6,vB)],[]] (bs:=[]) (by kernel_rfl) trivial (by kernel_rfl) (by kernel_rfl) fun y x=>by kernel_rfl
theorem qG:SpecOk Tryz.prog 118 tI:=xY3 rJ9 mixed Tryz.func118 (by kernel_rfl) (bs:=[qF9]) (by kernel_rfl) ⟨rU9,trivial⟩ fun x=>by kernel_rfl
def f87t (p0:(List UInt8)):Prop × Bool :=
 ((tH9 p0 (32:Int) (33:Int)),(f118 p0 (32:Int) (33:Int)))
def rK (p0:(List UInt8)):Prop:=(f87t p0).1
def f87 (p0:(List UInt8)):Bool:=(f87t p0).2
instance (p0:(List UInt8)):Decidable (rK p0):=by
 unfold rK f87t
 try dsimp only
 infer_instance
def rK0:Am.Spec:=fnSpec [(0,vS)] vB [] (fun x=>rK x.1) (fun x=>f87 x.1) (fun _=>())
def oD4:Ctx:=Cx tys [(118,tI)] [] [] false 5 [] []
theorem oD5:CtxOk Tryz.prog oD4:=xW4 tys_ok rfl ⟨qG,trivial⟩ rfl (by kernel_rfl)
theorem oP3:SpecOk Tryz.prog 87 rK0:=xY3 oD5 mixed Tryz.func87 (by kernel_rfl) (bs:=[]) (by kernel_rfl) trivial fun x=>by kernel_rfl
def f88t (p0:(List UInt8)):Prop × Bool :=
 ((tH9 p0 (256:Int) (32:Int)),(f118 p0 (256:Int) (32:Int)))
def rK1 (p0:(List UInt8)):Prop:=(f88t p0).1
def f88 (p0:(List UInt8)):Bool:=(f88t p0).2
instance (p0:(List UInt8)):Decidable (rK1 p0):=by
 unfold rK1 f88t
 try dsimp only
 infer_instance
def rK2:Am.Spec:=fnSpec [(0,vS)] vB [] (fun x=>rK1 x.1) (fun x=>f88 x.1) (fun _=>())
def oD6:Ctx:=Cx tys [(118,tI)] [] [] false 5 [] []
theorem oD7:CtxOk Tryz.prog oD6:=xW4 tys_ok rfl ⟨qG,trivial⟩ rfl (by kernel_rfl)
theorem oP4:SpecOk Tryz.prog 88 rK2:=xY3 oD7 mixed Tryz.func88 (by kernel_rfl) (bs:=[]) (by kernel_rfl) trivial fun x=>by kernel_rfl
def f62t (p0:(List D87)) (p1:D87):Prop × Int :=
 let v8:=(!(f87 p1.1))
 let v12:=(!(f88 p1.2.1))
 let v15:=(decide ((len p0) > 0))
 let v21:=(len p0)
 let v22:=(v21 - 1)
 let v23:=(nth p0 v22 Z87)
 (((rK p1.1) ∧ ((!v8) = true → ((rK1 p1.2.1) ∧ ((!v12) = true → ((v15 = true → InR (v21 - 1)) ∧ (v15 = true → InB v22 (len p0))))))),(bif v8 then (13:Int) else (bif v12 then (4:Int) else (bif (bif v15 then (Op.bytesLess p1.1 v23.1 || p1.1 == v23.1) else false) then (24:Int) else (0:Int)))))
def rK3 (p0:(List D87)) (p1:D87):Prop:=(f62t p0 p1).1
def f62 (p0:(List D87)) (p1:D87):Int:=(f62t p0 p1).2
instance (p0:(List D87)) (p1:D87):Decidable (rK3 p0 p1):=by
 unfold rK3 f62t
 try dsimp only
 infer_instance
def rK4:Am.Spec:=fnSpec [(0,(.val (.sl T87))),(1,(.val T87))] vI [] (fun x=>rK3 x.1 x.2.1) (fun x=>f62 x.1 x.2.1) (fun _=>())
def oD8:Ctx:=Cx tys [(87,rK0),(88,rK2)] [] [] false 28 [] []
theorem oD9:CtxOk Tryz.prog oD8:=xW4 tys_ok rfl ⟨oP3,oP4,trivial⟩ rfl (by kernel_rfl)
theorem oP5:SpecOk Tryz.prog 62 rK4:=xY3 oD9 mixed Tryz.func62 (by kernel_rfl) (bs:=[]) (by kernel_rfl) trivial fun x=>by kernel_rfl
abbrev wT4:Type:=((List D87) × (List D87) × Int × Unit)
abbrev wJ3:Type:=(Int × Unit)
def uH6 (y:wT4) (x:wJ3):Prop × Bool × wJ3 × Bool × Bool :=
 let a0:=y.1
 let a9:=y.2.1
 let a11:=x.1
 let v12:=(decide (a11 < y.2.2.1))
 let v14:=(nth a9 a11 Z87)
 let v18:=(List.take (Int.toNat a11) a0)
 let v22:=((f62 v18 v14) != 0)
 ((v12 = true → (InB a11 (len a9) ∧ ((0 ≤ a11 ∧ a11 ≤ len a0) ∧ ((rK3 v18 v14) ∧ ((!v22) = true → InR (a11 + 1)))))),(v12 && (!v22)),((a11 + 1),()),(v12 && v22),(!v12))
def uC3 (y:wT4) (x:wJ3):Prop:=(uH6 y x).1
def sC9 (y:wT4) (x:wJ3):Bool:=(uH6 y x).2.1
def vT4 (y:wT4) (x:wJ3):wJ3:=(uH6 y x).2.2.1
def sO9 (y:wT4) (x:wJ3):Bool:=(uH6 y x).2.2.2.1
def qG0 (y:wT4) (x:wJ3):Bool:=(uH6 y x).2.2.2.2
instance (y:wT4) (x:wJ3):Decidable (uC3 y x):=by
 unfold uC3 uH6
 try dsimp only
 infer_instance
def tI0 (y:wT4) (x:wJ3):Int :=
 let a11:=x.1
 (f62 (List.take (Int.toNat a11) y.1) (nth y.2.1 a11 Z87))
def tI1:St → Option Out:=xP4 [(0,(.val (.sl T87))),(9,(.val (.sl T87))),(10,vI)] [(11,vI)] sC9 vT4 uC3 fun y x=>[ex 1 (some (sO9 y x)) [(2,vI)] ((tI0 y x),()),ex 2 (some (qG0 y x)) [] ()]
def f30t (p0:(List D87)):Prop × Int :=
 let v8:=(decide ((len p0) > 16))
 let y4:=(p0,p0,(len p0),())
 let x4:=((0:Int),())
 let e4:=(zC1 (sC9 y4) (vT4 y4) x4)
 (((!v8) = true → (Am.Ends (sC9 y4) (vT4 y4) (uC3 y4) x4)),(bif v8 then (3:Int) else (bif (sO9 y4 e4) then (tI0 y4 e4) else (0:Int))))
def rK5 (p0:(List D87)):Prop:=(f30t p0).1
def f30 (p0:(List D87)):Int:=(f30t p0).2
instance (p0:(List D87)):Decidable (rK5 p0):=by
 unfold rK5 f30t
 try dsimp only
 infer_instance
def rK6:Am.Spec:=fnSpec [(0,(.val (.sl T87)))] vI [] (fun x=>rK5 x.1) (fun x=>f30 x.1) (fun _=>())
def qG1:Ctx:=Cx tys [(62,rK4)] [(4,tI1)] [] false 25 [] []
theorem qG2:CtxOk Tryz.prog qG1:=xW4 tys_ok rfl ⟨oP5,trivial⟩ rfl (by kernel_rfl)
noncomputable def pA1:Code:=Tryz.f30.body.getD .skip
noncomputable def pJ0:Code:=xX3 pA1 0
theorem qG3:yV Tryz.prog qG1 pJ0:=xY2 qG2 mixed (sp:=tI1) rfl [[(2,vI)],[]] (bs:=[]) (by kernel_rfl) trivial (by kernel_rfl) (by kernel_rfl) fun y x=>by kernel_rfl
theorem oP6:SpecOk Tryz.prog 30 rK6:=xY3 qG2 mixed Tryz.func30 (by kernel_rfl) (bs:=[pJ0]) (by kernel_rfl) ⟨qG3,trivial⟩ fun x=>by kernel_rfl
def f9t (p0:D28):Prop × Int :=
 let v10:=(f23 p0)
 let v12:=(v10 != 0)
 let v23:=(bif (decide ((len p0.2.2.2.1) > 64)) then true else (decide ((len p0.2.2.2.2.2.2.2.1) > 8)))
 let v31:=(bif (decide (p0.2.2.2.2.1 < 1)) then true else (decide (p0.2.2.2.2.1 > 1073741824)))
 let v33:=(f24 p0)
 let v35:=(v33 != 0)
 let v38:=(f25 p0)
 let v40:=(v38 != 0)
 let v43:=(f26 p0)
 let v45:=(v43 != 0)
 let v48:=(f27 p0)
 let v50:=(v48 != 0)
 let v53:=(f28 p0)
 let v56:=(f29 p0.2.2.2.2.2.1)
 let v58:=(v56 != 0)
 let v79:=(bif (p0.2.2.2.2.2.1.1 != 0) then (bif (p0.2.2.2.2.2.1.1 != p0.1) then true else (p0.2.2.2.2.2.1.2.1 != p0.2.1)) else false)
 let m2_6:=(bif v35 then v33 else (bif v40 then v38 else (bif v45 then v43 else (bif v50 then v48 else (bif v53 then (11:Int) else (bif v58 then v56 else (bif v79 then (15:Int) else (f30 p0.2.2.2.2.2.2.1))))))))
 (((sH p0) ∧ ((!v12) = true → ((!v23) = true → ((!v31) = true → ((rI4 p0) ∧ ((!v35) = true → ((rI6 p0) ∧ ((!v40) = true → ((rJ p0) ∧ ((!v45) = true → ((rJ1 p0) ∧ ((!v50) = true → ((rJ6 p0) ∧ ((!v53) = true → ((sH1 p0.2.2.2.2.2.1) ∧ ((!v58) = true → ((!v79) = true → (rK5 p0.2.2.2.2.2.2.1)))))))))))))))))),(bif v12 then v10 else (bif v23 then (3:Int) else (bif v31 then (2:Int) else m2_6))))
def sD (p0:D28):Prop:=(f9t p0).1
def f9 (p0:D28):Int:=(f9t p0).2
instance (p0:D28):Decidable (sD p0):=by
 unfold sD f9t
 try dsimp only
 infer_instance
def vT5:Am.Spec:=fnSpec [(0,(.val T28))] vI [] (fun x=>sD x.1) (fun x=>f9 x.1) (fun _=>())
def oP7:Ctx:=Cx tys [(23,tV4),(24,rI5),(25,rI7),(26,rJ0),(27,rJ2),(28,rJ7),(29,tV6),(30,rK6)] [] [] false 83 [] []
theorem oP8:CtxOk Tryz.prog oP7:=xW4 tys_ok rfl ⟨pH1,oO5,oO6,oO8,oP0,oP2,pH3,oP6,trivial⟩ rfl (by kernel_rfl)
theorem rV:SpecOk Tryz.prog 9 vT5:=xY3 oP8 mixed Tryz.func9 (by kernel_rfl) (bs:=[]) (by kernel_rfl) trivial fun x=>by kernel_rfl
abbrev wT5:Type:=((List Int) × (List Int) × Int × Unit)
abbrev wJ4:Type:=(Int × Unit)
def uH7 (y:wT5) (x:wJ4):Prop × Bool × wJ4 × Bool × Bool :=
 let a0:=y.1
 let a1:=y.2.1
 let a13:=x.1
 let v14:=(decide (a13 < y.2.2.1))
 let v24:=((nth a0 a13 (0:Int)) != (nth a1 a13 (0:Int)))
 ((v14 = true → (InB a13 (len a0) ∧ (InB a13 (len a1) ∧ ((!v24) = true → InR (a13 + 1))))),(v14 && (!v24)),((a13 + 1),()),(v14 && v24),(!v14))
def uC4 (y:wT5) (x:wJ4):Prop:=(uH7 y x).1
def sD0 (y:wT5) (x:wJ4):Bool:=(uH7 y x).2.1
def vT6 (y:wT5) (x:wJ4):wJ4:=(uH7 y x).2.2.1
def sP (y:wT5) (x:wJ4):Bool:=(uH7 y x).2.2.2.1
def qG4 (y:wT5) (x:wJ4):Bool:=(uH7 y x).2.2.2.2
instance (y:wT5) (x:wJ4):Decidable (uC4 y x):=by
 unfold uC4 uH7
 try dsimp only
 infer_instance
def tI2 (y:wT5) (x:wJ4):Bool :=
 false
def tI3:St → Option Out:=xP4 [(0,(.val (.sl (.int .i64)))),(1,(.val (.sl (.int .i64)))),(12,vI)] [(13,vI)] sD0 vT6 uC4 fun y x=>[ex 1 (some (sP y x)) [(4,vB)] ((tI2 y x),()),ex 2 (some (qG4 y x)) [] ()]
def f12t (p0:(List Int)) (p1:(List Int)):Prop × Bool :=
 let v10:=((len p0) != (len p1))
 let y4:=(p0,p1,(len p0),())
 let x4:=((0:Int),())
 let e4:=(zC1 (sD0 y4) (vT6 y4) x4)
 (((!v10) = true → (Am.Ends (sD0 y4) (vT6 y4) (uC4 y4) x4)),(bif v10 then false else (bif (sP y4 e4) then (tI2 y4 e4) else true)))
def tI4 (p0:(List Int)) (p1:(List Int)):Prop:=(f12t p0 p1).1
def f12 (p0:(List Int)) (p1:(List Int)):Bool:=(f12t p0 p1).2
instance (p0:(List Int)) (p1:(List Int)):Decidable (tI4 p0 p1):=by
 unfold tI4 f12t
 try dsimp only
 infer_instance
def rK7:Am.Spec:=fnSpec [(0,(.val (.sl (.int .i64)))),(1,(.val (.sl (.int .i64))))] vB [] (fun x=>tI4 x.1 x.2.1) (fun x=>f12 x.1 x.2.1) (fun _=>())
def qG5:Ctx:=Cx tys [] [(4,tI3)] [] false 26 [] []
theorem qG6:CtxOk Tryz.prog qG5:=xW4 tys_ok rfl trivial rfl (by kernel_rfl)
noncomputable def pA2:Code:=Tryz.f12.body.getD .skip
noncomputable def pJ1:Code:=xX3 pA2 0
theorem qG7:yV Tryz.prog qG5 pJ1:=xY2 qG6 mixed (sp:=tI3) rfl [[(4,vB)],[]] (bs:=[]) (by kernel_rfl) trivial (by kernel_rfl) (by kernel_rfl) fun y x=>by kernel_rfl
theorem oP9:SpecOk Tryz.prog 12 rK7:=xY3 qG6 mixed Tryz.func12 (by kernel_rfl) (bs:=[pJ1]) (by kernel_rfl) ⟨qG7,trivial⟩ fun x=>by kernel_rfl
abbrev vN2:Type:=((List D49) × Int × Unit)
abbrev wT6:Type:=((List Int) × Int × Unit)
def sD1 (y:vN2) (x:wT6):Prop × Bool × wT6 :=
 let a7:=y.1
 let a3:=x.1
 let a9:=x.2.1
 let v10:=(decide (a9 < y.2.1))
 let v16:=([(nth a7 a9 Z49).1]:List Int)
 ((v10 = true → (InB a9 (len a7) ∧ (((List.length a3 + List.length v16:Nat):Int) ≤ 4294967296 ∧ InR (a9 + 1)))),v10,((a3 ++ v16),(a9 + 1),()))
def uC5 (y:vN2) (x:wT6):Prop:=(sD1 y x).1
def sD2 (y:vN2) (x:wT6):Bool:=(sD1 y x).2.1
def vT7 (y:vN2) (x:wT6):wT6:=(sD1 y x).2.2
instance (y:vN2) (x:wT6):Decidable (uC5 y x):=by
 unfold uC5 sD1
 try dsimp only
 infer_instance
def tI5 (y:vN2) (x:wT6):(List Int) :=
 x.1
def sP0:List (Nat × Sh):=[(3,(.own (.int .i64) 1003 false))]
def tI6:St → Option Out:=xP4 [(7,(.val (.sl T49))),(8,vI)] [(3,(.own (.int .i64) 1003 false)),(9,vI)] sD2 vT7 uC5 fun y x=>[ex 2 none sP0 ((tI5 y x),())]
def f13t (p0:D28):Prop × (List Int) :=
 let y3:=(p0.2.2.2.1,(len p0.2.2.2.1),())
 let x3:=(([]:List Int),(0:Int),())
 ((Am.Ends (sD2 y3) (vT7 y3) (uC5 y3) x3),(tI5 y3 (zC1 (sD2 y3) (vT7 y3) x3)))
def tS0 (p0:D28):Prop:=(f13t p0).1
def f13 (p0:D28):(List Int):=(f13t p0).2
instance (p0:D28):Decidable (tS0 p0):=by
 unfold tS0 f13t
 try dsimp only
 infer_instance
def rK8:Am.Spec:=fnSpec [(0,(.val T28))] (.own (.int .i64) 0 false) [] (fun x=>tS0 x.1) (fun x=>f13 x.1) (fun _=>())
def qG8:Ctx:=Cx tys [] [(3,tI6)] [(11,[(4,0,17,1003)]),(15,[(4,0,1003,0)])] false 20 [] []
theorem qG9:CtxOk Tryz.prog qG8:=xW4 tys_ok rfl trivial rfl (by kernel_rfl)
noncomputable def pA3:Code:=Tryz.f13.body.getD .skip
noncomputable def pJ2:Code:=xX3 pA3 0
theorem qH:yV Tryz.prog qG8 pJ2:=xY2 qG9 mixed (sp:=tI6) rfl [sP0] (bs:=[]) (by kernel_rfl) trivial (by kernel_rfl) (by kernel_rfl) fun y x=>by kernel_rfl
theorem oQ:SpecOk Tryz.prog 13 rK8:=xY3 qG9 mixed Tryz.func13 (by kernel_rfl) (bs:=[pJ2]) (by kernel_rfl) ⟨qH,trivial⟩ fun x=>by kernel_rfl
abbrev vN3:Type:=(Int × (List D49) × Int × Unit)
abbrev wT7:Type:=((List Int) × Int × Unit)
def sD3 (y:vN3) (x:wT7):Prop × Bool × wT7 :=
 let a9:=y.2.1
 let a5:=x.1
 let a11:=x.2.1
 let v12:=(decide (a11 < y.2.2.1))
 let v13:=(nth a9 a11 Z49)
 let v18:=(v13.2.2.1 == y.1)
 let v22:=([v13.1]:List Int)
 ((v12 = true → (InB a11 (len a9) ∧ ((v18 = true → ((List.length a5 + List.length v22:Nat):Int) ≤ 4294967296) ∧ InR (a11 + 1)))),v12,((bif v18 then (a5 ++ v22) else a5),(a11 + 1),()))
def uC6 (y:vN3) (x:wT7):Prop:=(sD3 y x).1
def sD4 (y:vN3) (x:wT7):Bool:=(sD3 y x).2.1
def vT8 (y:vN3) (x:wT7):wT7:=(sD3 y x).2.2
instance (y:vN3) (x:wT7):Decidable (uC6 y x):=by
 unfold uC6 sD3
 try dsimp only
 infer_instance
def tI7 (y:vN3) (x:wT7):(List Int) :=
 x.1
def sP1:List (Nat × Sh):=[(5,(.own (.int .i64) 1005 false))]
def tI8:St → Option Out:=xP4 [(1,vI),(9,(.val (.sl T49))),(10,vI)] [(5,(.own (.int .i64) 1005 false)),(11,vI)] sD4 vT8 uC6 fun y x=>[ex 2 none sP1 ((tI7 y x),())]
def f20t (p0:D28) (p1:Int):Prop × (List Int) :=
 let y3:=(p1,p0.2.2.2.1,(len p0.2.2.2.1),())
 let x3:=(([]:List Int),(0:Int),())
 ((Am.Ends (sD4 y3) (vT8 y3) (uC6 y3) x3),(tI7 y3 (zC1 (sD4 y3) (vT8 y3) x3)))
def tI9 (p0:D28) (p1:Int):Prop:=(f20t p0 p1).1
def f20 (p0:D28) (p1:Int):(List Int):=(f20t p0 p1).2
instance (p0:D28) (p1:Int):Decidable (tI9 p0 p1):=by
 unfold tI9 f20t
 try dsimp only
 infer_instance
def uC7:Am.Spec:=fnSpec [(0,(.val T28)),(1,vI)] (.own (.int .i64) 0 false) [] (fun x=>tI9 x.1 x.2.1) (fun x=>f20 x.1 x.2.1) (fun _=>())
def qH0:Ctx:=Cx tys [] [(3,tI8)] [(13,[(4,0,23,1005)]),(17,[(4,0,1005,0)])] false 26 [] []
theorem qH1:CtxOk Tryz.prog qH0:=xW4 tys_ok rfl trivial rfl (by kernel_rfl)
noncomputable def pA4:Code:=Tryz.f20.body.getD .skip
noncomputable def pJ3:Code:=xX3 pA4 0
theorem qH2:yV Tryz.prog qH0 pJ3:=xY2 qH1 mixed (sp:=tI8) rfl [sP1] (bs:=[]) (by kernel_rfl) trivial (by kernel_rfl) (by kernel_rfl) fun y x=>by kernel_rfl
theorem rK9:SpecOk Tryz.prog 20 uC7:=xY3 qH1 mixed Tryz.func20 (by kernel_rfl) (bs:=[pJ3]) (by kernel_rfl) ⟨qH2,trivial⟩ fun x=>by kernel_rfl
def f33t (p0:D28) (p1:Int):Prop × Int :=
 let v7:=(p1 == 0)
 let v10:=(f8 p0 p1)
 let v12:=(decide (v10 < 0))
 (((!v7) = true → ((uS7 p0 p1) ∧ ((!v12) = true → InB v10 (len p0.2.2.2.1)))),(bif v7 then (0:Int) else (bif v12 then (9:Int) else (bif ((nth p0.2.2.2.1 v10 Z49).2.1 != 1) then (8:Int) else (0:Int)))))
def sP2 (p0:D28) (p1:Int):Prop:=(f33t p0 p1).1
def f33 (p0:D28) (p1:Int):Int:=(f33t p0 p1).2
instance (p0:D28) (p1:Int):Decidable (sP2 p0 p1):=by
 unfold sP2 f33t
 try dsimp only
 infer_instance
def sD5:Am.Spec:=fnSpec [(0,(.val T28)),(1,vI)] vI [] (fun x=>sP2 x.1 x.2.1) (fun x=>f33 x.1 x.2.1) (fun _=>())
def oE:Ctx:=Cx tys [(8,vG6)] [] [] false 20 [] []
theorem oE0:CtxOk Tryz.prog oE:=xW4 tys_ok rfl ⟨sY5,trivial⟩ rfl (by kernel_rfl)
theorem pJ4:SpecOk Tryz.prog 33 sD5:=xY3 oE0 mixed Tryz.func33 (by kernel_rfl) (bs:=[]) (by kernel_rfl) trivial fun x=>by kernel_rfl
def oE1 (p0:Unit):Prop × (List Int) :=
 (((!true) = true → ((List.length ([]:List Int) + List.length ([]:List Int):Nat):Int) ≤ 4294967296),(bif true then [] else (([]:List Int) ++ ([]:List Int))))
def sZ1 (p0:Unit):Prop:=(oE1 p0).1
def f63a (p0:Unit):(List Int):=(oE1 p0).2
instance (p0:Unit):Decidable (sZ1 p0):=by
 unfold sZ1 oE1
 try dsimp only
 infer_instance
def qH3:Am.Spec:=fnSpec [(0,(.nn true))] (.own (.int .i64) 0 false) [] (fun x=>sZ1 x.1) (fun x=>f63a x.1) (fun _=>())
def pA5:Ctx:=Cx tys [] [] [(7,[(4,0,7,0)])] false 8 [] []
theorem pA6:CtxOk Tryz.prog pA5:=xW4 tys_ok rfl trivial rfl (by kernel_rfl)
theorem oE2:SpecOk Tryz.prog 63 qH3:=xY3 pA6 mixed Tryz.func63 (by kernel_rfl) (bs:=[]) (by kernel_rfl) trivial fun x=>by kernel_rfl
def oE3 (p0:Unit):Prop × (List Int) :=
 (((!false) = true → ((List.length ([]:List Int) + List.length ([]:List Int):Nat):Int) ≤ 4294967296),(bif false then [] else (([]:List Int) ++ ([]:List Int))))
def sZ2 (p0:Unit):Prop:=(oE3 p0).1
def f63b (p0:Unit):(List Int):=(oE3 p0).2
instance (p0:Unit):Decidable (sZ2 p0):=by
 unfold sZ2 oE3
 try dsimp only
 infer_instance
def qH4:Am.Spec:=fnSpec [(0,(.nn false))] (.own (.int .i64) 0 false) [] (fun x=>sZ2 x.1) (fun x=>f63b x.1) (fun _=>())
def pA7:Ctx:=Cx tys [] [] [(7,[(4,0,7,0)])] false 8 [] []
theorem pA8:CtxOk Tryz.prog pA7:=xW4 tys_ok rfl trivial rfl (by kernel_rfl)
theorem oE4:SpecOk Tryz.prog 63 qH4:=xY3 pA8 mixed Tryz.func63 (by kernel_rfl) (bs:=[]) (by kernel_rfl) trivial fun x=>by kernel_rfl
def oE5 (p0:(List Int)):Prop × (List Int) :=
 ((0 < List.length p0 ∧ ((!false) = true → ((List.length ([]:List Int) + List.length p0:Nat):Int) ≤ 4294967296)),(bif false then [] else (([]:List Int) ++ p0)))
def sZ3 (p0:(List Int)):Prop:=(oE5 p0).1
def f63c (p0:(List Int)):(List Int):=(oE5 p0).2
instance (p0:(List Int)):Decidable (sZ3 p0):=by
 unfold sZ3 oE5
 try dsimp only
 infer_instance
def qH5:Am.Spec:=fnSpec [(0,(.val (.sl (.int .i64))))] (.own (.int .i64) 0 false) [] (fun x=>sZ3 x.1) (fun x=>f63c x.1) (fun _=>())
def pA9:Ctx:=Cx tys [] [] [(7,[(4,0,7,0)])] false 8 [] []
theorem pB0:CtxOk Tryz.prog pA9:=xW4 tys_ok rfl trivial rfl (by kernel_rfl)
theorem oE6:SpecOk Tryz.prog 63 qH5:=xY3 pB0 mixed Tryz.func63 (by kernel_rfl) (bs:=[]) (by kernel_rfl) trivial fun x=>by kernel_rfl
def f63 (p0:(List Int)):(List Int):=p0
def uR3 (p0:(List Int)):Prop:=(List.length p0:Int) ≤ 4294967296
instance (p0:(List Int)):Decidable (uR3 p0):=by
  unfold uR3
  infer_instance
def oQ0:List (Nat × Sh):=[(0,(.val (.sl (.int .i64))))]
def pJ5:Sh:=(.own (.int .i64) 0 false)
def oQ1:List (Nat × Sh):=[]
def sD6:Am.Spec:=fnSpec oQ0 pJ5 oQ1 (fun x=>uR3 x.1) (fun x=>f63 x.1) (fun _=>())
theorem pJ6:SpecOk Tryz.prog 63 sD6:=xV6 (rs:=pJ5) (F:=f63) (ok:=uR3) oE2 oE4 oE6 (of_decide_eq_true (by kernel_rfl)) (of_decide_eq_true (by kernel_rfl)) (fun l h hp=>⟨hp,fun _=>by simpa [uR3] using h⟩) rfl rfl (fun _=>rfl)
def oE7 (p0:Unit):Prop × (List D42) :=
 (((!true) = true → ((List.length ([]:List D42) + List.length ([]:List D42):Nat):Int) ≤ 4294967296),(bif true then [] else (([]:List D42) ++ ([]:List D42))))
def sZ4 (p0:Unit):Prop:=(oE7 p0).1
def f66a (p0:Unit):(List D42):=(oE7 p0).2
instance (p0:Unit):Decidable (sZ4 p0):=by
 unfold sZ4 oE7
 try dsimp only
 infer_instance
def qH6:Am.Spec:=fnSpec [(0,(.nn true))] (.own T42 0 false) [] (fun x=>sZ4 x.1) (fun x=>f66a x.1) (fun _=>())
def pB1:Ctx:=Cx tys [] [] [(7,[(4,0,7,0)])] false 8 [] []
theorem pB2:CtxOk Tryz.prog pB1:=xW4 tys_ok rfl trivial rfl (by kernel_rfl)
theorem oE8:SpecOk Tryz.prog 66 qH6:=xY3 pB2 mixed Tryz.func66 (by kernel_rfl) (bs:=[]) (by kernel_rfl) trivial fun x=>by kernel_rfl
def oE9 (p0:Unit):Prop × (List D42) :=
 (((!false) = true → ((List.length ([]:List D42) + List.length ([]:List D42):Nat):Int) ≤ 4294967296),(bif false then [] else (([]:List D42) ++ ([]:List D42))))
def sZ5 (p0:Unit):Prop:=(oE9 p0).1
def f66b (p0:Unit):(List D42):=(oE9 p0).2
instance (p0:Unit):Decidable (sZ5 p0):=by
 unfold sZ5 oE9
 try dsimp only
 infer_instance
def qH7:Am.Spec:=fnSpec [(0,(.nn false))] (.own T42 0 false) [] (fun x=>sZ5 x.1) (fun x=>f66b x.1) (fun _=>())
def pB3:Ctx:=Cx tys [] [] [(7,[(4,0,7,0)])] false 8 [] []
theorem pB4:CtxOk Tryz.prog pB3:=xW4 tys_ok rfl trivial rfl (by kernel_rfl)
theorem oF:SpecOk Tryz.prog 66 qH7:=xY3 pB4 mixed Tryz.func66 (by kernel_rfl) (bs:=[]) (by kernel_rfl) trivial fun x=>by kernel_rfl
def oF0 (p0:(List D42)):Prop × (List D42) :=
 ((0 < List.length p0 ∧ ((!false) = true → ((List.length ([]:List D42) + List.length p0:Nat):Int) ≤ 4294967296)),(bif false then [] else (([]:List D42) ++ p0)))
def sZ6 (p0:(List D42)):Prop:=(oF0 p0).1
def f66c (p0:(List D42)):(List D42):=(oF0 p0).2
instance (p0:(List D42)):Decidable (sZ6 p0):=by
 unfold sZ6 oF0
 try dsimp only
 infer_instance
def qH8:Am.Spec:=fnSpec [(0,(.val (.sl T42)))] (.own T42 0 false) [] (fun x=>sZ6 x.1) (fun x=>f66c x.1) (fun _=>())
def pB5:Ctx:=Cx tys [] [] [(7,[(4,0,7,0)])] false 8 [] []
theorem pB6:CtxOk Tryz.prog pB5:=xW4 tys_ok rfl trivial rfl (by kernel_rfl)
theorem oF1:SpecOk Tryz.prog 66 qH8:=xY3 pB6 mixed Tryz.func66 (by kernel_rfl) (bs:=[]) (by kernel_rfl) trivial fun x=>by kernel_rfl
def f66 (p0:(List D42)):(List D42):=p0
def tJ (p0:(List D42)):Prop:=(List.length p0:Int) ≤ 4294967296
instance (p0:(List D42)):Decidable (tJ p0):=by
  unfold tJ
  infer_instance
def oQ2:List (Nat × Sh):=[(0,(.val (.sl T42)))]
def pJ7:Sh:=(.own T42 0 false)
def oQ3:List (Nat × Sh):=[]
def sD7:Am.Spec:=fnSpec oQ2 pJ7 oQ3 (fun x=>tJ x.1) (fun x=>f66 x.1) (fun _=>())
theorem pJ8:SpecOk Tryz.prog 66 sD7:=xV6 (rs:=pJ7) (F:=f66) (ok:=tJ) oE8 oF oF1 (of_decide_eq_true (by kernel_rfl)) (of_decide_eq_true (by kernel_rfl)) (fun l h hp=>⟨hp,fun _=>by simpa [tJ] using h⟩) rfl rfl (fun _=>rfl)
def oF2 (p0:Unit):Prop × (List D122) :=
 (((!true) = true → ((List.length ([]:List D122) + List.length ([]:List D122):Nat):Int) ≤ 4294967296),(bif true then [] else (([]:List D122) ++ ([]:List D122))))
def sZ7 (p0:Unit):Prop:=(oF2 p0).1
def f89a (p0:Unit):(List D122):=(oF2 p0).2
instance (p0:Unit):Decidable (sZ7 p0):=by
 unfold sZ7 oF2
 try dsimp only
 infer_instance
def qH9:Am.Spec:=fnSpec [(0,(.nn true))] (.own T122 0 false) [] (fun x=>sZ7 x.1) (fun x=>f89a x.1) (fun _=>())
def pB7:Ctx:=Cx tys [] [] [(7,[(4,0,7,0)])] false 8 [] []
theorem pB8:CtxOk Tryz.prog pB7:=xW4 tys_ok rfl trivial rfl (by kernel_rfl)
theorem oF3:SpecOk Tryz.prog 89 qH9:=xY3 pB8 mixed Tryz.func89 (by kernel_rfl) (bs:=[]) (by kernel_rfl) trivial fun x=>by kernel_rfl
def oF4 (p0:Unit):Prop × (List D122) :=
 (((!false) = true → ((List.length ([]:List D122) + List.length ([]:List D122):Nat):Int) ≤ 4294967296),(bif false then [] else (([]:List D122) ++ ([]:List D122))))
def sZ8 (p0:Unit):Prop:=(oF4 p0).1
def f89b (p0:Unit):(List D122):=(oF4 p0).2
instance (p0:Unit):Decidable (sZ8 p0):=by
 unfold sZ8 oF4
 try dsimp only
 infer_instance
def qI:Am.Spec:=fnSpec [(0,(.nn false))] (.own T122 0 false) [] (fun x=>sZ8 x.1) (fun x=>f89b x.1) (fun _=>())
def pB9:Ctx:=Cx tys [] [] [(7,[(4,0,7,0)])] false 8 [] []
theorem pC0:CtxOk Tryz.prog pB9:=xW4 tys_ok rfl trivial rfl (by kernel_rfl)
theorem oF5:SpecOk Tryz.prog 89 qI:=xY3 pC0 mixed Tryz.func89 (by kernel_rfl) (bs:=[]) (by kernel_rfl) trivial fun x=>by kernel_rfl
def oF6 (p0:(List D122)):Prop × (List D122) :=
 ((0 < List.length p0 ∧ ((!false) = true → ((List.length ([]:List D122) + List.length p0:Nat):Int) ≤ 4294967296)),(bif false then [] else (([]:List D122) ++ p0)))
def sZ9 (p0:(List D122)):Prop:=(oF6 p0).1
def f89c (p0:(List D122)):(List D122):=(oF6 p0).2
instance (p0:(List D122)):Decidable (sZ9 p0):=by
 unfold sZ9 oF6
 try dsimp only
 infer_instance
def qI0:Am.Spec:=fnSpec [(0,(.val (.sl T122)))] (.own T122 0 false) [] (fun x=>sZ9 x.1) (fun x=>f89c x.1) (fun _=>())
def pC1:Ctx:=Cx tys [] [] [(7,[(4,0,7,0)])] false 8 [] []
theorem pC2:CtxOk Tryz.prog pC1:=xW4 tys_ok rfl trivial rfl (by kernel_rfl)
theorem oF7:SpecOk Tryz.prog 89 qI0:=xY3 pC2 mixed Tryz.func89 (by kernel_rfl) (bs:=[]) (by kernel_rfl) trivial fun x=>by kernel_rfl
def f89 (p0:(List D122)):(List D122):=p0
def tS1 (p0:(List D122)):Prop:=(List.length p0:Int) ≤ 4294967296
instance (p0:(List D122)):Decidable (tS1 p0):=by
  unfold tS1
  infer_instance
def oQ4:List (Nat × Sh):=[(0,(.val (.sl T122)))]
def pJ9:Sh:=(.own T122 0 false)
def oQ5:List (Nat × Sh):=[]
def rL:Am.Spec:=fnSpec oQ4 pJ9 oQ5 (fun x=>tS1 x.1) (fun x=>f89 x.1) (fun _=>())
theorem oQ6:SpecOk Tryz.prog 89 rL:=xV6 (rs:=pJ9) (F:=f89) (ok:=tS1) oF3 oF5 oF7 (of_decide_eq_true (by kernel_rfl)) (of_decide_eq_true (by kernel_rfl)) (fun l h hp=>⟨hp,fun _=>by simpa [tS1] using h⟩) rfl rfl (fun _=>rfl)
def oF8 (p0:Unit):Prop × (List D128) :=
 (((!true) = true → ((List.length ([]:List D128) + List.length ([]:List D128):Nat):Int) ≤ 4294967296),(bif true then [] else (([]:List D128) ++ ([]:List D128))))
def rA (p0:Unit):Prop:=(oF8 p0).1
def f90a (p0:Unit):(List D128):=(oF8 p0).2
instance (p0:Unit):Decidable (rA p0):=by
 unfold rA oF8
 try dsimp only
 infer_instance
def qI1:Am.Spec:=fnSpec [(0,(.nn true))] (.own T128 0 false) [] (fun x=>rA x.1) (fun x=>f90a x.1) (fun _=>())
def pC3:Ctx:=Cx tys [] [] [(7,[(4,0,7,0)])] false 8 [] []
theorem pC4:CtxOk Tryz.prog pC3:=xW4 tys_ok rfl trivial rfl (by kernel_rfl)
theorem oF9:SpecOk Tryz.prog 90 qI1:=xY3 pC4 mixed Tryz.func90 (by kernel_rfl) (bs:=[]) (by kernel_rfl) trivial fun x=>by kernel_rfl
def oG (p0:Unit):Prop × (List D128) :=
 (((!false) = true → ((List.length ([]:List D128) + List.length ([]:List D128):Nat):Int) ≤ 4294967296),(bif false then [] else (([]:List D128) ++ ([]:List D128))))
def rA0 (p0:Unit):Prop:=(oG p0).1
def f90b (p0:Unit):(List D128):=(oG p0).2
instance (p0:Unit):Decidable (rA0 p0):=by
 unfold rA0 oG
 try dsimp only
 infer_instance
def qI2:Am.Spec:=fnSpec [(0,(.nn false))] (.own T128 0 false) [] (fun x=>rA0 x.1) (fun x=>f90b x.1) (fun _=>())
def pC5:Ctx:=Cx tys [] [] [(7,[(4,0,7,0)])] false 8 [] []
theorem pC6:CtxOk Tryz.prog pC5:=xW4 tys_ok rfl trivial rfl (by kernel_rfl)
theorem oG0:SpecOk Tryz.prog 90 qI2:=xY3 pC6 mixed Tryz.func90 (by kernel_rfl) (bs:=[]) (by kernel_rfl) trivial fun x=>by kernel_rfl
def oG1 (p0:(List D128)):Prop × (List D128) :=
 ((0 < List.length p0 ∧ ((!false) = true → ((List.length ([]:List D128) + List.length p0:Nat):Int) ≤ 4294967296)),(bif false then [] else (([]:List D128) ++ p0)))
def rA1 (p0:(List D128)):Prop:=(oG1 p0).1
def f90c (p0:(List D128)):(List D128):=(oG1 p0).2
instance (p0:(List D128)):Decidable (rA1 p0):=by
 unfold rA1 oG1
 try dsimp only
 infer_instance
def qI3:Am.Spec:=fnSpec [(0,(.val (.sl T128)))] (.own T128 0 false) [] (fun x=>rA1 x.1) (fun x=>f90c x.1) (fun _=>())
def pC7:Ctx:=Cx tys [] [] [(7,[(4,0,7,0)])] false 8 [] []
theorem pC8:CtxOk Tryz.prog pC7:=xW4 tys_ok rfl trivial rfl (by kernel_rfl)
theorem oG2:SpecOk Tryz.prog 90 qI3:=xY3 pC8 mixed Tryz.func90 (by kernel_rfl) (bs:=[]) (by kernel_rfl) trivial fun x=>by kernel_rfl
def f90 (p0:(List D128)):(List D128):=p0
def tS2 (p0:(List D128)):Prop:=(List.length p0:Int) ≤ 4294967296
instance (p0:(List D128)):Decidable (tS2 p0):=by
  unfold tS2
  infer_instance
def oQ7:List (Nat × Sh):=[(0,(.val (.sl T128)))]
def pK:Sh:=(.own T128 0 false)
def oQ8:List (Nat × Sh):=[]
def rL0:Am.Spec:=fnSpec oQ7 pK oQ8 (fun x=>tS2 x.1) (fun x=>f90 x.1) (fun _=>())
theorem oQ9:SpecOk Tryz.prog 90 rL0:=xV6 (rs:=pK) (F:=f90) (ok:=tS2) oF9 oG0 oG2 (of_decide_eq_true (by kernel_rfl)) (of_decide_eq_true (by kernel_rfl)) (fun l h hp=>⟨hp,fun _=>by simpa [tS2] using h⟩) rfl rfl (fun _=>rfl)
def oG3 (p0:Unit):Prop × (List D125) :=
 (((!true) = true → ((List.length ([]:List D125) + List.length ([]:List D125):Nat):Int) ≤ 4294967296),(bif true then [] else (([]:List D125) ++ ([]:List D125))))
def rA2 (p0:Unit):Prop:=(oG3 p0).1
def f91a (p0:Unit):(List D125):=(oG3 p0).2
instance (p0:Unit):Decidable (rA2 p0):=by
 unfold rA2 oG3
 try dsimp only
 infer_instance
def qI4:Am.Spec:=fnSpec [(0,(.nn true))] (.own T125 0 false) [] (fun x=>rA2 x.1) (fun x=>f91a x.1) (fun _=>())
def pC9:Ctx:=Cx tys [] [] [(7,[(4,0,7,0)])] false 8 [] []
theorem pD:CtxOk Tryz.prog pC9:=xW4 tys_ok rfl trivial rfl (by kernel_rfl)
theorem oG4:SpecOk Tryz.prog 91 qI4:=xY3 pD mixed Tryz.func91 (by kernel_rfl) (bs:=[]) (by kernel_rfl) trivial fun x=>by kernel_rfl
def oG5 (p0:Unit):Prop × (List D125) :=
 (((!false) = true → ((List.length ([]:List D125) + List.length ([]:List D125):Nat):Int) ≤ 4294967296),(bif false then [] else (([]:List D125) ++ ([]:List D125))))
def rA3 (p0:Unit):Prop:=(oG5 p0).1
def f91b (p0:Unit):(List D125):=(oG5 p0).2
instance (p0:Unit):Decidable (rA3 p0):=by
 unfold rA3 oG5
 try dsimp only
 infer_instance
def qI5:Am.Spec:=fnSpec [(0,(.nn false))] (.own T125 0 false) [] (fun x=>rA3 x.1) (fun x=>f91b x.1) (fun _=>())
def pD0:Ctx:=Cx tys [] [] [(7,[(4,0,7,0)])] false 8 [] []
theorem pD1:CtxOk Tryz.prog pD0:=xW4 tys_ok rfl trivial rfl (by kernel_rfl)
theorem oG6:SpecOk Tryz.prog 91 qI5:=xY3 pD1 mixed Tryz.func91 (by kernel_rfl) (bs:=[]) (by kernel_rfl) trivial fun x=>by kernel_rfl
def oG7 (p0:(List D125)):Prop × (List D125) :=
 ((0 < List.length p0 ∧ ((!false) = true → ((List.length ([]:List D125) + List.length p0:Nat):Int) ≤ 4294967296)),(bif false then [] else (([]:List D125) ++ p0)))
def rA4 (p0:(List D125)):Prop:=(oG7 p0).1
def f91c (p0:(List D125)):(List D125):=(oG7 p0).2
instance (p0:(List D125)):Decidable (rA4 p0):=by
 unfold rA4 oG7
 try dsimp only
 infer_instance
def qI6:Am.Spec:=fnSpec [(0,(.val (.sl T125)))] (.own T125 0 false) [] (fun x=>rA4 x.1) (fun x=>f91c x.1) (fun _=>())
def pD2:Ctx:=Cx tys [] [] [(7,[(4,0,7,0)])] false 8 [] []
theorem pD3:CtxOk Tryz.prog pD2:=xW4 tys_ok rfl trivial rfl (by kernel_rfl)
theorem oG8:SpecOk Tryz.prog 91 qI6:=xY3 pD3 mixed Tryz.func91 (by kernel_rfl) (bs:=[]) (by kernel_rfl) trivial fun x=>by kernel_rfl
def f91 (p0:(List D125)):(List D125):=p0
def tS3 (p0:(List D125)):Prop:=(List.length p0:Int) ≤ 4294967296
instance (p0:(List D125)):Decidable (tS3 p0):=by
  unfold tS3
  infer_instance
def oR:List (Nat × Sh):=[(0,(.val (.sl T125)))]
def pK0:Sh:=(.own T125 0 false)
def oR0:List (Nat × Sh):=[]
def rL1:Am.Spec:=fnSpec oR pK0 oR0 (fun x=>tS3 x.1) (fun x=>f91 x.1) (fun _=>())
theorem oR1:SpecOk Tryz.prog 91 rL1:=xV6 (rs:=pK0) (F:=f91) (ok:=tS3) oG4 oG6 oG8 (of_decide_eq_true (by kernel_rfl)) (of_decide_eq_true (by kernel_rfl)) (fun l h hp=>⟨hp,fun _=>by simpa [tS3] using h⟩) rfl rfl (fun _=>rfl)
def f67t (p0:D49) (p1:D49):Prop × (D49 × Int × Unit) :=
 let v10:=(p0.2.1 != p1.2.1)
 let s_20:=(p1.2.2.2.2.2.2.2.2.2.2.2.2.2.2.2.2.2.2.2.2.2.2.2.2.2.2.2.1.1,p1.2.2.2.2.2.2.2.2.2.2.2.2.2.2.2.2.2.2.2.2.2.2.2.2.2.2.2.1.2.1,p1.2.2.2.2.2.2.2.2.2.2.2.2.2.2.2.2.2.2.2.2.2.2.2.2.2.2.2.1.2.2.1,(f91 p1.2.2.2.2.2.2.2.2.2.2.2.2.2.2.2.2.2.2.2.2.2.2.2.2.2.2.2.1.2.2.2.1),())
 let s_21:=(p0.1,p0.2.1,p0.2.2.1,p0.2.2.2.1,p0.2.2.2.2.1,p0.2.2.2.2.2.1,p0.2.2.2.2.2.2.1,p0.2.2.2.2.2.2.2.1,p0.2.2.2.2.2.2.2.2.1,(p0.2.2.2.2.2.2.2.2.2.1.1,p0.2.2.2.2.2.2.2.2.2.1.2.1,(f63 p0.2.2.2.2.2.2.2.2.2.1.2.2.1),()),p0.2.2.2.2.2.2.2.2.2.2.1,p0.2.2.2.2.2.2.2.2.2.2.2.1,(p1.2.2.2.2.2.2.2.2.2.2.2.2.1.1,p1.2.2.2.2.2.2.2.2.2.2.2.2.1.2.1,(f66 p1.2.2.2.2.2.2.2.2.2.2.2.2.1.2.2.1),()),p1.2.2.2.2.2.2.2.2.2.2.2.2.2.1,p1.2.2.2.2.2.2.2.2.2.2.2.2.2.2.1,(f63 p1.2.2.2.2.2.2.2.2.2.2.2.2.2.2.2.1),p1.2.2.2.2.2.2.2.2.2.2.2.2.2.2.2.2.1,(f89 p1.2.2.2.2.2.2.2.2.2.2.2.2.2.2.2.2.2.1),(f90 p1.2.2.2.2.2.2.2.2.2.2.2.2.2.2.2.2.2.2.1),p1.2.2.2.2.2.2.2.2.2.2.2.2.2.2.2.2.2.2.2.1,p1.2.2.2.2.2.2.2.2.2.2.2.2.2.2.2.2.2.2.2.2.1,p1.2.2.2.2.2.2.2.2.2.2.2.2.2.2.2.2.2.2.2.2.2.1,p1.2.2.2.2.2.2.2.2.2.2.2.2.2.2.2.2.2.2.2.2.2.2.1,p1.2.2.2.2.2.2.2.2.2.2.2.2.2.2.2.2.2.2.2.2.2.2.2.1,p1.2.2.2.2.2.2.2.2.2.2.2.2.2.2.2.2.2.2.2.2.2.2.2.2.1,p1.2.2.2.2.2.2.2.2.2.2.2.2.2.2.2.2.2.2.2.2.2.2.2.2.2.1,p1.2.2.2.2.2.2.2.2.2.2.2.2.2.2.2.2.2.2.2.2.2.2.2.2.2.2.1,s_20,())
 let s_25:=((0:Int),(0:Int),(0:Int),([]:List UInt8),false,false,false,(0:Int),(0:Int),((0:Int),(0:Int),([]:List Int),()),Z37,(0:Int),((0:Int),(0:Int),([]:List D42),()),Z42,(0:Int),([]:List Int),(0:Int),([]:List D122),([]:List D128),(0:Int),(0:Int),(0:Int),(0:Int),([]:List UInt8),(0:Int),(0:Int),(0:Int),((0:Int),(0:Int),(0:Int),([]:List D125),()),())
 (((!v10) = true → ((uR3 p0.2.2.2.2.2.2.2.2.2.1.2.2.1) ∧ ((tJ p1.2.2.2.2.2.2.2.2.2.2.2.2.1.2.2.1) ∧ ((uR3 p1.2.2.2.2.2.2.2.2.2.2.2.2.2.2.2.1) ∧ ((tS1 p1.2.2.2.2.2.2.2.2.2.2.2.2.2.2.2.2.2.1) ∧ ((tS2 p1.2.2.2.2.2.2.2.2.2.2.2.2.2.2.2.2.2.2.1) ∧ (tS3 p1.2.2.2.2.2.2.2.2.2.2.2.2.2.2.2.2.2.2.2.2.2.2.2.2.2.2.2.1.2.2.2.1))))))),((bif v10 then s_25 else s_21),(bif v10 then (8:Int) else (0:Int)),()))
def rL2 (p0:D49) (p1:D49):Prop:=(f67t p0 p1).1
def f67 (p0:D49) (p1:D49):(D49 × Int × Unit):=(f67t p0 p1).2
instance (p0:D49) (p1:D49):Decidable (rL2 p0 p1):=by
 unfold rL2 f67t
 try dsimp only
 infer_instance
def rL3:Am.Spec:=fnSpec [(0,(.val T49)),(1,(.val T49))] (.tup (.cons (.val T49) (.cons vI .nl))) [] (fun x=>rL2 x.1 x.2.1) (fun x=>f67 x.1 x.2.1) (fun _=>())
def oG9:Ctx:=Cx tys [(63,sD6),(66,sD7),(89,rL),(90,rL0),(91,rL1)] [] [] false 82 [] []
theorem oH:CtxOk Tryz.prog oG9:=xW4 tys_ok rfl ⟨pJ6,pJ8,oQ6,oQ9,oR1,trivial⟩ rfl (by kernel_rfl)
theorem oR2:SpecOk Tryz.prog 67 rL3:=xY3 oH mixed Tryz.func67 (by kernel_rfl) (bs:=[]) (by kernel_rfl) trivial fun x=>by kernel_rfl
def f35t (p0:D49):Prop × D49 :=
 ((rL2 p0 p0),(f67 p0 p0).1)
def tS4 (p0:D49):Prop:=(f35t p0).1
def f35 (p0:D49):D49:=(f35t p0).2
instance (p0:D49):Decidable (tS4 p0):=by
 unfold tS4 f35t
 try dsimp only
 infer_instance
def uV5:Am.Spec:=fnSpec [(0,(.val T49))] (.val T49) [] (fun x=>tS4 x.1) (fun x=>f35 x.1) (fun _=>())
def oH0:Ctx:=Cx tys [(67,rL3)] [] [] false 12 [] []
theorem oH1:CtxOk Tryz.prog oH0:=xW4 tys_ok rfl ⟨oR2,trivial⟩ rfl (by kernel_rfl)
theorem qI7:SpecOk Tryz.prog 35 uV5:=xY3 oH1 mixed Tryz.func35 (by kernel_rfl) (bs:=[]) (by kernel_rfl) trivial fun x=>by kernel_rfl
def oH2 (p0:Unit):Prop × (List D87) :=
 (((!true) = true → ((List.length ([]:List D87) + List.length ([]:List D87):Nat):Int) ≤ 4294967296),(bif true then [] else (([]:List D87) ++ ([]:List D87))))
def rA5 (p0:Unit):Prop:=(oH2 p0).1
def f64a (p0:Unit):(List D87):=(oH2 p0).2
instance (p0:Unit):Decidable (rA5 p0):=by
 unfold rA5 oH2
 try dsimp only
 infer_instance
def qI8:Am.Spec:=fnSpec [(0,(.nn true))] (.own T87 0 false) [] (fun x=>rA5 x.1) (fun x=>f64a x.1) (fun _=>())
def pD4:Ctx:=Cx tys [] [] [(7,[(4,0,7,0)])] false 8 [] []
theorem pD5:CtxOk Tryz.prog pD4:=xW4 tys_ok rfl trivial rfl (by kernel_rfl)
theorem oH3:SpecOk Tryz.prog 64 qI8:=xY3 pD5 mixed Tryz.func64 (by kernel_rfl) (bs:=[]) (by kernel_rfl) trivial fun x=>by kernel_rfl
def oH4 (p0:Unit):Prop × (List D87) :=
 (((!false) = true → ((List.length ([]:List D87) + List.length ([]:List D87):Nat):Int) ≤ 4294967296),(bif false then [] else (([]:List D87) ++ ([]:List D87))))
def rA6 (p0:Unit):Prop:=(oH4 p0).1
def f64b (p0:Unit):(List D87):=(oH4 p0).2
instance (p0:Unit):Decidable (rA6 p0):=by
 unfold rA6 oH4
 try dsimp only
 infer_instance
def qI9:Am.Spec:=fnSpec [(0,(.nn false))] (.own T87 0 false) [] (fun x=>rA6 x.1) (fun x=>f64b x.1) (fun _=>())
def pD6:Ctx:=Cx tys [] [] [(7,[(4,0,7,0)])] false 8 [] []
theorem pD7:CtxOk Tryz.prog pD6:=xW4 tys_ok rfl trivial rfl (by kernel_rfl)
theorem oH5:SpecOk Tryz.prog 64 qI9:=xY3 pD7 mixed Tryz.func64 (by kernel_rfl) (bs:=[]) (by kernel_rfl) trivial fun x=>by kernel_rfl
def oH6 (p0:(List D87)):Prop × (List D87) :=
 ((0 < List.length p0 ∧ ((!false) = true → ((List.length ([]:List D87) + List.length p0:Nat):Int) ≤ 4294967296)),(bif false then [] else (([]:List D87) ++ p0)))
def rA7 (p0:(List D87)):Prop:=(oH6 p0).1
def f64c (p0:(List D87)):(List D87):=(oH6 p0).2
instance (p0:(List D87)):Decidable (rA7 p0):=by
 unfold rA7 oH6
 try dsimp only
 infer_instance
def qJ:Am.Spec:=fnSpec [(0,(.val (.sl T87)))] (.own T87 0 false) [] (fun x=>rA7 x.1) (fun x=>f64c x.1) (fun _=>())
def pD8:Ctx:=Cx tys [] [] [(7,[(4,0,7,0)])] false 8 [] []
theorem pD9:CtxOk Tryz.prog pD8:=xW4 tys_ok rfl trivial rfl (by kernel_rfl)
theorem oH7:SpecOk Tryz.prog 64 qJ:=xY3 pD9 mixed Tryz.func64 (by kernel_rfl) (bs:=[]) (by kernel_rfl) trivial fun x=>by kernel_rfl
def f64 (p0:(List D87)):(List D87):=p0
def tS5 (p0:(List D87)):Prop:=(List.length p0:Int) ≤ 4294967296
instance (p0:(List D87)):Decidable (tS5 p0):=by
  unfold tS5
  infer_instance
def oR3:List (Nat × Sh):=[(0,(.val (.sl T87)))]
def pK1:Sh:=(.own T87 0 false)
def oR4:List (Nat × Sh):=[]
def rL4:Am.Spec:=fnSpec oR3 pK1 oR4 (fun x=>tS5 x.1) (fun x=>f64 x.1) (fun _=>())
theorem oR5:SpecOk Tryz.prog 64 rL4:=xV6 (rs:=pK1) (F:=f64) (ok:=tS5) oH3 oH5 oH7 (of_decide_eq_true (by kernel_rfl)) (of_decide_eq_true (by kernel_rfl)) (fun l h hp=>⟨hp,fun _=>by simpa [tS5] using h⟩) rfl rfl (fun _=>rfl)
def oH8 (p0:Unit):Prop × (List D90) :=
 (((!true) = true → ((List.length ([]:List D90) + List.length ([]:List D90):Nat):Int) ≤ 4294967296),(bif true then [] else (([]:List D90) ++ ([]:List D90))))
def rA8 (p0:Unit):Prop:=(oH8 p0).1
def f65a (p0:Unit):(List D90):=(oH8 p0).2
instance (p0:Unit):Decidable (rA8 p0):=by
 unfold rA8 oH8
 try dsimp only
 infer_instance
def qJ0:Am.Spec:=fnSpec [(0,(.nn true))] (.own T90 0 true) [] (fun x=>rA8 x.1) (fun x=>f65a x.1) (fun _=>())
def pE:Ctx:=Cx tys [] [] [(7,[(4,0,7,0)])] false 8 [] [5,7]
theorem pE0:CtxOk Tryz.prog pE:=xW4 tys_ok rfl trivial rfl (by kernel_rfl)
theorem oH9:SpecOk Tryz.prog 65 qJ0:=xY3 pE0 mixed Tryz.func65 (by kernel_rfl) (bs:=[]) (by kernel_rfl) trivial fun x=>by kernel_rfl
def oI (p0:Unit):Prop × (List D90) :=
 (((!false) = true → ((List.length ([]:List D90) + List.length ([]:List D90):Nat):Int) ≤ 4294967296),(bif false then [] else (([]:List D90) ++ ([]:List D90))))
def rA9 (p0:Unit):Prop:=(oI p0).1
def f65b (p0:Unit):(List D90):=(oI p0).2
instance (p0:Unit):Decidable (rA9 p0):=by
 unfold rA9 oI
 try dsimp only
 infer_instance
def qJ1:Am.Spec:=fnSpec [(0,(.nn false))] (.own T90 0 true) [] (fun x=>rA9 x.1) (fun x=>f65b x.1) (fun _=>())
def pE1:Ctx:=Cx tys [] [] [(7,[(4,0,7,0)])] false 8 [] [5,7]
theorem pE2:CtxOk Tryz.prog pE1:=xW4 tys_ok rfl trivial rfl (by kernel_rfl)
theorem oI0:SpecOk Tryz.prog 65 qJ1:=xY3 pE2 mixed Tryz.func65 (by kernel_rfl) (bs:=[]) (by kernel_rfl) trivial fun x=>by kernel_rfl
def oI1 (p0:(List D90)):Prop × (List D90) :=
 ((0 < List.length p0 ∧ ((!false) = true → ((List.length ([]:List D90) + List.length p0:Nat):Int) ≤ 4294967296)),(bif false then [] else (([]:List D90) ++ p0)))
def rB (p0:(List D90)):Prop:=(oI1 p0).1
def f65c (p0:(List D90)):(List D90):=(oI1 p0).2
instance (p0:(List D90)):Decidable (rB p0):=by
 unfold rB oI1
 try dsimp only
 infer_instance
def qJ2:Am.Spec:=fnSpec [(0,(.val (.sl T90)))] (.own T90 0 true) [] (fun x=>rB x.1) (fun x=>f65c x.1) (fun _=>())
def pE3:Ctx:=Cx tys [] [] [(7,[(4,0,7,0)])] false 8 [] [5,7]
theorem pE4:CtxOk Tryz.prog pE3:=xW4 tys_ok rfl trivial rfl (by kernel_rfl)
theorem oI2:SpecOk Tryz.prog 65 qJ2:=xY3 pE4 mixed Tryz.func65 (by kernel_rfl) (bs:=[]) (by kernel_rfl) trivial fun x=>by kernel_rfl
def f65 (p0:(List D90)):(List D90):=p0
def tS6 (p0:(List D90)):Prop:=(List.length p0:Int) ≤ 4294967296
instance (p0:(List D90)):Decidable (tS6 p0):=by
  unfold tS6
  infer_instance
def oR6:List (Nat × Sh):=[(0,(.val (.sl T90)))]
def pK2:Sh:=(.own T90 0 true)
def oR7:List (Nat × Sh):=[]
def rL5:Am.Spec:=fnSpec oR6 pK2 oR7 (fun x=>tS6 x.1) (fun x=>f65 x.1) (fun _=>())
theorem oR8:SpecOk Tryz.prog 65 rL5:=xV6 (rs:=pK2) (F:=f65) (ok:=tS6) oH9 oI0 oI2 (of_decide_eq_true (by kernel_rfl)) (of_decide_eq_true (by kernel_rfl)) (fun l h hp=>⟨hp,fun _=>by simpa [tS6] using h⟩) rfl rfl (fun _=>rfl)
abbrev vN4:Type:=(D28 × (Int × Int × Int × (List D49) × Int × (Int × Int × (List Int) × Unit) × (List D87) × (List D90) × Unit) × (List D49) × Int × Unit)
abbrev wT8:Type:=((Int × Int × Int × (List D49) × Int × D24 × (List D87) × (List D90) × Unit) × Int × Unit)
def sD8 (y:vN4) (x:wT8):Prop × Bool × wT8 :=
 let a15:=y.2.2.1
 let a3:=x.1
 let a17:=x.2.1
 let v18:=(decide (a17 < y.2.2.2.1))
 let v20:=(nth a15 a17 Z49)
 ((v18 = true → (InB a17 (len a15) ∧ ((tS4 v20) ∧ (InB a17 (len a3.2.2.2.1) ∧ (a17 < len a3.2.2.2.1 ∧ InR (a17 + 1)))))),v18,((a3.1,a3.2.1,a3.2.2.1,(List.set a3.2.2.2.1 (Int.toNat a17) (f35 v20)),a3.2.2.2.2.1,a3.2.2.2.2.2.1,a3.2.2.2.2.2.2.1,a3.2.2.2.2.2.2.2.1,()),(a17 + 1),()))
def uC8 (y:vN4) (x:wT8):Prop:=(sD8 y x).1
def sD9 (y:vN4) (x:wT8):Bool:=(sD8 y x).2.1
def vT9 (y:vN4) (x:wT8):wT8:=(sD8 y x).2.2
instance (y:vN4) (x:wT8):Decidable (uC8 y x):=by
 unfold uC8 sD8
 try dsimp only
 infer_instance
def tJ0 (y:vN4) (x:wT8):(Int × Int × Int × (List D49) × Int × D24 × (List D87) × (List D90) × Unit) :=
 let a3:=x.1
 (a3.1,a3.2.1,a3.2.2.1,a3.2.2.2.1,a3.2.2.2.2.1,a3.2.2.2.2.2.1,a3.2.2.2.2.2.2.1,a3.2.2.2.2.2.2.2.1,())
def sP3:List (Nat × Sh):=[(1,(.box T28 (.val T28))),(2,(.box T28 (.agg (.cons (.int .i64) (.cons (.int .i64) (.cons (.int .i64) (.cons (.sl T49) (.cons (.int .i64) (.cons T24 (.cons (.sl T87) (.cons (.sl T90) .nl)))))))) (.cons vI (.cons vI (.cons vI (.cons (.val (.sl T49)) (.cons vI (.cons (.agg (.cons (.int .i64) (.cons (.int .i64) (.cons (.sl (.int .i64)) .nl))) (.cons vI (.cons vI (.cons (.val (.sl (.int .i64))) .nl)))) (.cons (.val (.sl T87)) (.cons (.val (.sl T90)) .nl))))))))))),(3,(.box T28 (.agg (.cons (.int .i64) (.cons (.int .i64) (.cons (.int .i64) (.cons (.sl T49) (.cons (.int .i64) (.cons T24 (.cons (.sl T87) (.cons (.sl T90) .nl)))))))) (.cons vI (.cons vI (.cons vI (.cons (.own T49 400300 true) (.cons vI (.cons (.val T24) (.cons (.val (.sl T87)) (.cons (.val (.sl T90)) .nl)))))))))))]
def tJ1:St → Option Out:=xP4 [(1,(.box T28 (.val T28))),(2,(.box T28 (.agg (.cons (.int .i64) (.cons (.int .i64) (.cons (.int .i64) (.cons (.sl T49) (.cons (.int .i64) (.cons T24 (.cons (.sl T87) (.cons (.sl T90) .nl)))))))) (.cons vI (.cons vI (.cons vI (.cons (.val (.sl T49)) (.cons vI (.cons (.agg (.cons (.int .i64) (.cons (.int .i64) (.cons (.sl (.int .i64)) .nl))) (.cons vI (.cons vI (.cons (.val (.sl (.int .i64))) .nl)))) (.cons (.val (.sl T87)) (.cons (.val (.sl T90)) .nl))))))))))),(15,(.val (.sl T49))),(16,vI)] [(3,(.box T28 (.agg (.cons (.int .i64) (.cons (.int .i64) (.cons (.int .i64) (.cons (.sl T49) (.cons (.int .i64) (.cons T24 (.cons (.sl T87) (.cons (.sl T90) .nl)))))))) (.cons vI (.cons vI (.cons vI (.cons (.own T49 400300 true) (.cons vI (.cons (.val T24) (.cons (.val (.sl T87)) (.cons (.val (.sl T90)) .nl))))))))))),(17,vI)] sD9 vT9 uC8 fun y x=>[ex 2 none sP3 (y.1,y.2.1,(tJ0 y x),())]
abbrev wY6:Type:=((Int × Int × Int × (List D49) × Int × (Int × Int × (List Int) × Unit) × (List D87) × (List D90) × Unit) × (List D90) × Int × Unit)
abbrev wN3:Type:=((Int × Int × Int × (List D49) × Int × D24 × (List D87) × (List D90) × Unit) × Int × Unit)
def uV6 (y:wY6) (x:wN3):Prop × Bool × wN3 :=
 let a44:=y.2.1
 let a3:=x.1
 let a46:=x.2.1
 let v47:=(decide (a46 < y.2.2.1))
 let v49:=(nth a44 a46 Z90)
 let s_1:=((nth a3.2.2.2.2.2.2.2.1 a46 Z90).1,(nth a3.2.2.2.2.2.2.2.1 a46 Z90).2.1,(nth a3.2.2.2.2.2.2.2.1 a46 Z90).2.2.1,(nth a3.2.2.2.2.2.2.2.1 a46 Z90).2.2.2.1,((nth a3.2.2.2.2.2.2.2.1 a46 Z90).2.2.2.2.1.1,(nth a3.2.2.2.2.2.2.2.1 a46 Z90).2.2.2.2.1.2.1,(f66 v49.2.2.2.2.1.2.2.1),()),())
 ((v47 = true → (InB a46 (len a44) ∧ ((tJ v49.2.2.2.2.1.2.2.1) ∧ (InB a46 (len a3.2.2.2.2.2.2.2.1) ∧ (a46 < len a3.2.2.2.2.2.2.2.1 ∧ InR (a46 + 1)))))),v47,((a3.1,a3.2.1,a3.2.2.1,a3.2.2.2.1,a3.2.2.2.2.1,a3.2.2.2.2.2.1,a3.2.2.2.2.2.2.1,(List.set a3.2.2.2.2.2.2.2.1 (Int.toNat a46) s_1),()),(a46 + 1),()))
def vN5 (y:wY6) (x:wN3):Prop:=(uV6 y x).1
def tJ2 (y:wY6) (x:wN3):Bool:=(uV6 y x).2.1
def vG8 (y:wY6) (x:wN3):wN3:=(uV6 y x).2.2
instance (y:wY6) (x:wN3):Decidable (vN5 y x):=by
 unfold vN5 uV6
 try dsimp only
 infer_instance
def uR4 (y:wY6) (x:wN3):(Int × Int × Int × (List D49) × Int × D24 × (List D87) × (List D90) × Unit) :=
 let a3:=x.1
 (a3.1,a3.2.1,a3.2.2.1,a3.2.2.2.1,a3.2.2.2.2.1,a3.2.2.2.2.2.1,a3.2.2.2.2.2.2.1,a3.2.2.2.2.2.2.2.1,())
def tS7:List (Nat × Sh):=[(2,(.box T28 (.agg (.cons (.int .i64) (.cons (.int .i64) (.cons (.int .i64) (.cons (.sl T49) (.cons (.int .i64) (.cons T24 (.cons (.sl T87) (.cons (.sl T90) .nl)))))))) (.cons vI (.cons vI (.cons vI (.cons (.val (.sl T49)) (.cons vI (.cons (.agg (.cons (.int .i64) (.cons (.int .i64) (.cons (.sl (.int .i64)) .nl))) (.cons vI (.cons vI (.cons (.val (.sl (.int .i64))) .nl)))) (.cons (.val (.sl T87)) (.cons (.val (.sl T90)) .nl))))))))))),(3,(.box T28 (.agg (.cons (.int .i64) (.cons (.int .i64) (.cons (.int .i64) (.cons (.sl T49) (.cons (.int .i64) (.cons T24 (.cons (.sl T87) (.cons (.sl T90) .nl)))))))) (.cons vI (.cons vI (.cons vI (.cons (.own T49 400300 true) (.cons vI (.cons (.val T24) (.cons (.own T87 400302 false) (.cons (.own T90 400303 true) .nl)))))))))))]
def uR5:St → Option Out:=xP4 [(2,(.box T28 (.agg (.cons (.int .i64) (.cons (.int .i64) (.cons (.int .i64) (.cons (.sl T49) (.cons (.int .i64) (.cons T24 (.cons (.sl T87) (.cons (.sl T90) .nl)))))))) (.cons vI (.cons vI (.cons vI (.cons (.val (.sl T49)) (.cons vI (.cons (.agg (.cons (.int .i64) (.cons (.int .i64) (.cons (.sl (.int .i64)) .nl))) (.cons vI (.cons vI (.cons (.val (.sl (.int .i64))) .nl)))) (.cons (.val (.sl T87)) (.cons (.val (.sl T90)) .nl))))))))))),(44,(.val (.sl T90))),(45,vI)] [(3,(.box T28 (.agg (.cons (.int .i64) (.cons (.int .i64) (.cons (.int .i64) (.cons (.sl T49) (.cons (.int .i64) (.cons T24 (.cons (.sl T87) (.cons (.sl T90) .nl)))))))) (.cons vI (.cons vI (.cons vI (.cons (.own T49 400300 true) (.cons vI (.cons (.val T24) (.cons (.own T87 400302 false) (.cons (.own T90 400303 true) .nl))))))))))),(46,vI)] tJ2 vG8 vN5 fun y x=>[ex 4 none tS7 (y.1,(uR4 y x),())]
def f34t (p0:D28):Prop × (Int × Int × Int × (List D49) × Int × D24 × (List D87) × (List D90) × Unit) :=
 let v11:=(len p0.2.2.2.1)
 let y4:=(p0,((0:Int),(0:Int),(0:Int),([]:List D49),(0:Int),((0:Int),(0:Int),([]:List Int),()),([]:List D87),([]:List D90),()),p0.2.2.2.1,(len p0.2.2.2.1),())
 let x4:=((p0.1,p0.2.1,p0.2.2.1,(List.replicate (Int.toNat v11) Z49),p0.2.2.2.2.1,p0.2.2.2.2.2.1,p0.2.2.2.2.2.2.1,p0.2.2.2.2.2.2.2.1,()),(0:Int),())
 let r4_2_0:=(tJ0 y4 (zC1 (sD9 y4) (vT9 y4) x4))
 let s_6:=(r4_2_0.1,r4_2_0.2.1,r4_2_0.2.2.1,r4_2_0.2.2.2.1,r4_2_0.2.2.2.2.1,(r4_2_0.2.2.2.2.2.1.1,r4_2_0.2.2.2.2.2.1.2.1,(f63 p0.2.2.2.2.2.1.2.2.1),()),(f64 p0.2.2.2.2.2.2.1),(f65 p0.2.2.2.2.2.2.2.1),())
 let y12:=(((0:Int),(0:Int),(0:Int),([]:List D49),(0:Int),((0:Int),(0:Int),([]:List Int),()),([]:List D87),([]:List D90),()),p0.2.2.2.2.2.2.2.1,(len p0.2.2.2.2.2.2.2.1),())
 let x12:=(s_6,(0:Int),())
 let r12_4_0:=(uR4 y12 (zC1 (tJ2 y12) (vG8 y12) x12))
 (((0 ≤ v11 ∧ v11 ≤ v11 ∧ v11 ≤ 4294967296) ∧ ((Am.Ends (sD9 y4) (vT9 y4) (uC8 y4) x4) ∧ ((uR3 p0.2.2.2.2.2.1.2.2.1) ∧ ((tS5 p0.2.2.2.2.2.2.1) ∧ ((tS6 p0.2.2.2.2.2.2.2.1) ∧ (Am.Ends (tJ2 y12) (vG8 y12) (vN5 y12) x12)))))),(r12_4_0.1,r12_4_0.2.1,r12_4_0.2.2.1,r12_4_0.2.2.2.1,r12_4_0.2.2.2.2.1,r12_4_0.2.2.2.2.2.1,r12_4_0.2.2.2.2.2.2.1,r12_4_0.2.2.2.2.2.2.2.1,()))
def tS8 (p0:D28):Prop:=(f34t p0).1
def f34 (p0:D28):(Int × Int × Int × (List D49) × Int × D24 × (List D87) × (List D90) × Unit):=(f34t p0).2
instance (p0:D28):Decidable (tS8 p0):=by
 unfold tS8 f34t
 try dsimp only
 infer_instance
def uV7:Am.Spec:=fnSpec [(0,(.val T28))] (.agg (.cons (.int .i64) (.cons (.int .i64) (.cons (.int .i64) (.cons (.sl T49) (.cons (.int .i64) (.cons T24 (.cons (.sl T87) (.cons (.sl T90) .nl)))))))) (.cons vI (.cons vI (.cons vI (.cons (.own T49 0 true) (.cons vI (.cons (.val T24) (.cons (.val (.sl T87)) (.cons (.own T90 3 true) .nl))))))))) [] (fun x=>tS8 x.1) (fun x=>f34 x.1) (fun _=>())
def rB0:Ctx:=Cx tys [(35,uV5),(63,sD6),(64,rL4),(65,rL5),(66,sD7)] [(4,tJ1),(12,uR5)] [(5,[(4,0,12,400300)]),(19,[(4,0,37,400302)]),(21,[(4,0,41,400303)]),(33,[(4,0,400300,0),(4,0,400302,2),(4,0,400303,3)])] false 63 [] [12]
theorem rB1:CtxOk Tryz.prog rB0:=xW4 tys_ok rfl ⟨qI7,pJ6,oR5,oR8,pJ8,trivial⟩ rfl (by kernel_rfl)
noncomputable def rL6:Code:=Tryz.f34.body.getD .skip
noncomputable def pK3:Code:=xX3 rL6 0
theorem qJ3:yV Tryz.prog rB0 pK3:=xY2 rB1 mixed (sp:=tJ1) rfl [sP3] (bs:=[]) (by kernel_rfl) trivial (by kernel_rfl) (by kernel_rfl) fun y x=>by kernel_rfl
noncomputable def qJ4:Code:=xX3 rL6 1
theorem rV0:yV Tryz.prog rB0 qJ4:=xY2 rB1 mixed (sp:=uR5) rfl [tS7] (bs:=[]) (by kernel_rfl) trivial (by kernel_rfl) (by kernel_rfl) fun y x=>by kernel_rfl
theorem qJ5:SpecOk Tryz.prog 34 uV7:=xY3 rB1 mixed Tryz.func34 (by kernel_rfl) (bs:=[pK3,qJ4]) (by kernel_rfl) ⟨qJ3,rV0,trivial⟩ fun x=>by kernel_rfl
def f36 (p0:(List D49)) (p1:Int) (p2:(List D49)):(List D49):=List.take (Int.toNat p1) p0 ++ (p2 ++ List.drop (Int.toNat p1) p0)
def tS9 (p0:(List D49)) (p1:Int) (p2:(List D49)):Prop:=0 ≤ p1 ∧ p1 ≤ (List.length p0:Int) ∧ 0 < List.length p2 ∧ ((List.length p0 + List.length p2:Nat):Int) ≤ 4294967296
instance (p0:(List D49)) (p1:Int) (p2:(List D49)):Decidable (tS9 p0 p1 p2):=by
  unfold tS9
  infer_instance
def oR9:List (Nat × Sh):=[(0,(.own T49 400000 true)),(1,(.val (.int .i64))),(2,(.own T49 400200 true))]
def oS:Sh:=(.own T49 0 true)
def oS0:List (Nat × Sh):=[]
def uV8:Am.Spec:=fnSpec oR9 oS oS0 (fun x=>tS9 x.1 x.2.1 x.2.2.1) (fun x=>f36 x.1 x.2.1 x.2.2.1) (fun _=>())
theorem qJ6:SpecOk Tryz.prog 36 uV8:=spec_ins rfl ⟨_,Tryz.func36,by kernel_rfl,by decide⟩ ins_ok
abbrev vN6:Type:=(Int × (List D49) × Int × Unit)
abbrev wT9:Type:=((List Int) × (List (Int × Bool × Unit)) × Int × Unit)
def sE (y:vN6) (x:wT9):Prop × Bool × wT9 :=
 let a11:=y.2.1
 let a5:=x.1
 let a6:=x.2.1
 let a13:=x.2.2.1
 let v14:=(decide (a13 < y.2.2.1))
 let v15:=(nth a11 a13 Z49)
 let v26:=(bif (v15.2.2.1 == y.1) then true else (Option.getD (yI6 (.int .i64) .bool v15.2.2.1 a6) false))
 let v33:=([v15.1]:List Int)
 ((v14 = true → (InB a13 (len a11) ∧ ((v26 = true → ((List.length a5 + List.length v33:Nat):Int) ≤ 4294967296) ∧ InR (a13 + 1)))),v14,((bif v26 then (a5 ++ v33) else a5),(bif v26 then (xL8 (.int .i64) .bool v15.1 true a6) else a6),(a13 + 1),()))
def uC9 (y:vN6) (x:wT9):Prop:=(sE y x).1
def sE0 (y:vN6) (x:wT9):Bool:=(sE y x).2.1
def vU (y:vN6) (x:wT9):wT9:=(sE y x).2.2
instance (y:vN6) (x:wT9):Decidable (uC9 y x):=by
 unfold uC9 sE
 try dsimp only
 infer_instance
def tJ3 (y:vN6) (x:wT9):(List Int) :=
 x.1
def sP4:List (Nat × Sh):=[(5,(.own (.int .i64) 1005 false))]
def tJ4:St → Option Out:=xP4 [(1,vI),(11,(.val (.sl T49))),(12,vI)] [(5,(.own (.int .i64) 1005 false)),(6,(.own (xD2 (.int .i64) .bool) 1006 true)),(13,vI)] sE0 vU uC9 fun y x=>[ex 2 none sP4 ((tJ3 y x),())]
def f11t (p0:D28) (p1:Int):Prop × (List Int) :=
 let y4:=(p1,p0.2.2.2.1,(len p0.2.2.2.1),())
 let x4:=(([]:List Int),([]:List (Int × Bool × Unit)),(0:Int),())
 ((Am.Ends (sE0 y4) (vU y4) (uC9 y4) x4),(tJ3 y4 (zC1 (sE0 y4) (vU y4) x4)))
def tT (p0:D28) (p1:Int):Prop:=(f11t p0 p1).1
def f11 (p0:D28) (p1:Int):(List Int):=(f11t p0 p1).2
instance (p0:D28) (p1:Int):Decidable (tT p0 p1):=by
 unfold tT f11t
 try dsimp only
 infer_instance
def uV9:Am.Spec:=fnSpec [(0,(.val T28)),(1,vI)] (.own (.int .i64) 0 false) [] (fun x=>tT x.1 x.2.1) (fun x=>f11 x.1 x.2.1) (fun _=>())
def qJ7:Ctx:={ Cx tys [] [(4,tJ4)] [(5,[(4,0,9,1006)]),(17,[(4,0,34,1005)]),(21,[(4,0,1005,0)])] false 37 [] [] with maps:=maps }
theorem qJ8:CtxOk Tryz.prog qJ7:=xW4 tys_ok (by kernel_rfl) trivial rfl (by kernel_rfl)
noncomputable def pE5:Code:=Tryz.f11.body.getD .skip
noncomputable def pK4:Code:=xX3 pE5 0
theorem qJ9:yV Tryz.prog qJ7 pK4:=xY2 qJ8 mixed (sp:=tJ4) rfl [sP4] (bs:=[]) (by kernel_rfl) trivial (by kernel_rfl) (by kernel_rfl) fun y x=>by kernel_rfl
theorem qK:SpecOk Tryz.prog 11 uV9:=xY3 qJ8 mixed Tryz.func11 (by kernel_rfl) (bs:=[pK4]) (by kernel_rfl) ⟨qJ9,trivial⟩ fun x=>by kernel_rfl
def f37t (p0:D28) (p1:Int) (p2:Int):Prop × Int :=
 let v10:=(f20 p0 p1)
 let v14:=(decide (p2 < (len v10)))
 let v18:=(nth v10 p2 (0:Int))
 let v22:=(p1 == 0)
 let v28:=(f8 p0 p1)
 let v29:=(v28 + 1)
 let v33:=(len (f11 p0 p1))
 (((tI9 p0 p1) ∧ ((v14 = true → (InB p2 (len v10) ∧ (uS7 p0 v18))) ∧ ((!v14) = true → ((!v22) = true → ((uS7 p0 p1) ∧ (InR (v28 + 1) ∧ ((tT p0 p1) ∧ InR (v29 + v33)))))))),(bif v14 then (f8 p0 v18) else (bif v22 then (len p0.2.2.2.1) else (v29 + v33))))
def sP5 (p0:D28) (p1:Int) (p2:Int):Prop:=(f37t p0 p1 p2).1
def f37 (p0:D28) (p1:Int) (p2:Int):Int:=(f37t p0 p1 p2).2
instance (p0:D28) (p1:Int) (p2:Int):Decidable (sP5 p0 p1 p2):=by
 unfold sP5 f37t
 try dsimp only
 infer_instance
def sE1:Am.Spec:=fnSpec [(0,(.val T28)),(1,vI),(2,vI)] vI [] (fun x=>sP5 x.1 x.2.1 x.2.2.1) (fun x=>f37 x.1 x.2.1 x.2.2.1) (fun _=>())
def oI3:Ctx:=Cx tys [(8,vG6),(11,uV9),(20,uC7)] [] [(3,[(4,0,10,1007)])] false 35 [] []
theorem oI4:CtxOk Tryz.prog oI3:=xW4 tys_ok rfl ⟨sY5,qK,rK9,trivial⟩ rfl (by kernel_rfl)
theorem pK5:SpecOk Tryz.prog 37 sE1:=xY3 oI4 mixed Tryz.func37 (by kernel_rfl) (bs:=[]) (by kernel_rfl) trivial fun x=>by kernel_rfl
def f38t (p0:D28):Prop × (D28 × Int × Unit) :=
 let v6:=(f9 p0)
 let v8:=(v6 != 0)
 ((sD p0),((bif v8 then ((0:Int),(0:Int),(0:Int),([]:List D49),(0:Int),((0:Int),(0:Int),([]:List Int),()),([]:List D87),([]:List D90),()) else p0),(bif v8 then v6 else (0:Int)),()))
def sP6 (p0:D28):Prop:=(f38t p0).1
def f38 (p0:D28):(D28 × Int × Unit):=(f38t p0).2
instance (p0:D28):Decidable (sP6 p0):=by
 unfold sP6 f38t
 try dsimp only
 infer_instance
def sE2:Am.Spec:=fnSpec [(0,(.val T28))] (.tup (.cons (.val T28) (.cons vI .nl))) [] (fun x=>sP6 x.1) (fun x=>f38 x.1) (fun _=>())
def oI5:Ctx:=Cx tys [(9,vT5)] [] [] false 12 [] []
theorem oI6:CtxOk Tryz.prog oI5:=xW4 tys_ok rfl ⟨rV,trivial⟩ rfl (by kernel_rfl)
theorem pK6:SpecOk Tryz.prog 38 sE2:=xY3 oI6 mixed Tryz.func38 (by kernel_rfl) (bs:=[]) (by kernel_rfl) trivial fun x=>by kernel_rfl
def f14t (p0:D28) (p1:D49) (p2:Int) (p3:Int):Prop × (D28 × Int × Int × Unit) :=
 let v16:=(f9 p0)
 let v18:=(v16 != 0)
 let v23:=(f33 p0 p2)
 let v25:=(v23 != 0)
 let v29:=(decide (p3 < 0))
 let v37:=(bif v29 then true else (decide (p3 > (len (f20 p0 p2)))))
 let v47:=(bif (decide ((len p0.2.2.2.1) ≥ 64)) then true else (p0.2.2.2.2.1 == 1073741824))
 let v50:=(f34 p0)
 let v52:=(f35 p1)
 let s_1:=(p0.2.2.2.2.1,v52.2.1,p2,v52.2.2.2.1,v52.2.2.2.2.1,v52.2.2.2.2.2.1,v52.2.2.2.2.2.2.1,v52.2.2.2.2.2.2.2.1,v52.2.2.2.2.2.2.2.2.1,v52.2.2.2.2.2.2.2.2.2.1,v52.2.2.2.2.2.2.2.2.2.2.1,v52.2.2.2.2.2.2.2.2.2.2.2.1,v52.2.2.2.2.2.2.2.2.2.2.2.2.1,v52.2.2.2.2.2.2.2.2.2.2.2.2.2.1,v52.2.2.2.2.2.2.2.2.2.2.2.2.2.2.1,v52.2.2.2.2.2.2.2.2.2.2.2.2.2.2.2.1,v52.2.2.2.2.2.2.2.2.2.2.2.2.2.2.2.2.1,v52.2.2.2.2.2.2.2.2.2.2.2.2.2.2.2.2.2.1,v52.2.2.2.2.2.2.2.2.2.2.2.2.2.2.2.2.2.2.1,v52.2.2.2.2.2.2.2.2.2.2.2.2.2.2.2.2.2.2.2.1,v52.2.2.2.2.2.2.2.2.2.2.2.2.2.2.2.2.2.2.2.2.1,v52.2.2.2.2.2.2.2.2.2.2.2.2.2.2.2.2.2.2.2.2.2.1,v52.2.2.2.2.2.2.2.2.2.2.2.2.2.2.2.2.2.2.2.2.2.2.1,v52.2.2.2.2.2.2.2.2.2.2.2.2.2.2.2.2.2.2.2.2.2.2.2.1,v52.2.2.2.2.2.2.2.2.2.2.2.2.2.2.2.2.2.2.2.2.2.2.2.2.1,v52.2.2.2.2.2.2.2.2.2.2.2.2.2.2.2.2.2.2.2.2.2.2.2.2.2.1,v52.2.2.2.2.2.2.2.2.2.2.2.2.2.2.2.2.2.2.2.2.2.2.2.2.2.2.1,v52.2.2.2.2.2.2.2.2.2.2.2.2.2.2.2.2.2.2.2.2.2.2.2.2.2.2.2.1,())
 let v63:=(f37 p0 p2 p3)
 let v65:=([s_1]:List D49)
 let s_2:=(v50.1,v50.2.1,v50.2.2.1,(f36 v50.2.2.2.1 v63 v65),(v50.2.2.2.2.1 + 1),v50.2.2.2.2.2.1,v50.2.2.2.2.2.2.1,v50.2.2.2.2.2.2.2.1,())
 let v74:=(f38 s_2)
 let v78:=(v74.2.1 != 0)
 let m8_1:=(bif v47 then ((0:Int),(0:Int),(0:Int),([]:List D49),(0:Int),((0:Int),(0:Int),([]:List Int),()),([]:List D87),([]:List D90),()) else (bif v78 then ((0:Int),(0:Int),(0:Int),([]:List D49),(0:Int),((0:Int),(0:Int),([]:List Int),()),([]:List D87),([]:List D90),()) else v74.1))
 let m8_3:=(bif v25 then ((0:Int),(0:Int),(0:Int),([]:List D49),(0:Int),((0:Int),(0:Int),([]:List Int),()),([]:List D87),([]:List D90),()) else (bif v37 then ((0:Int),(0:Int),(0:Int),([]:List D49),(0:Int),((0:Int),(0:Int),([]:List Int),()),([]:List D87),([]:List D90),()) else m8_1))
 (((sD p0) ∧ ((!v18) = true → ((sP2 p0 p2) ∧ ((!v25) = true → (((!v29) = true → (tI9 p0 p2)) ∧ ((!v37) = true → ((!v47) = true → ((tS8 p0) ∧ ((tS4 p1) ∧ ((sP5 p0 p2 p3) ∧ ((tS9 v50.2.2.2.1 v63 v65) ∧ (InR (v50.2.2.2.2.1 + 1) ∧ (sP6 s_2))))))))))))),((bif v18 then ((0:Int),(0:Int),(0:Int),([]:List D49),(0:Int),((0:Int),(0:Int),([]:List Int),()),([]:List D87),([]:List D90),()) else m8_3),(bif v18 then (0:Int) else (bif v25 then (0:Int) else (bif v37 then (0:Int) else (bif v47 then (0:Int) else (bif v78 then (0:Int) else p0.2.2.2.2.1))))),(bif v18 then v16 else (bif v25 then v23 else (bif v37 then (2:Int) else (bif v47 then (3:Int) else (bif v78 then v74.2.1 else (0:Int)))))),()))
def tJ5 (p0:D28) (p1:D49) (p2:Int) (p3:Int):Prop:=(f14t p0 p1 p2 p3).1
def f14 (p0:D28) (p1:D49) (p2:Int) (p3:Int):(D28 × Int × Int × Unit):=(f14t p0 p1 p2 p3).2
instance (p0:D28) (p1:D49) (p2:Int) (p3:Int):Decidable (tJ5 p0 p1 p2 p3):=by
 unfold tJ5 f14t
 try dsimp only
 infer_instance
def rL7:Am.Spec:=fnSpec [(0,(.val T28)),(1,(.val T49)),(2,vI),(3,vI)] (.tup (.cons (.val T28) (.cons vI (.cons vI .nl)))) [] (fun x=>tJ5 x.1 x.2.1 x.2.2.1 x.2.2.2.1) (fun x=>f14 x.1 x.2.1 x.2.2.1 x.2.2.2.1) (fun _=>())
def oI7:Ctx:={ Cx tys [(9,vT5),(20,uC7),(33,sD5),(34,uV7),(35,uV5),(36,uV8),(37,sE1),(38,sE2)] [] [(23,[(4,0,50,401300),(4,0,300050,401303)]),(31,[(4,0,66,401300)]),(34,[(1,13,3,0),(1,13,7,0)])] false 84 [] [65] with wants:=[(36,[0,2])] }
theorem oI8:CtxOk Tryz.prog oI7:=xW4 tys_ok rfl ⟨rV,rK9,pJ4,qJ5,qI7,qJ6,pK5,pK6,trivial⟩ rfl (by kernel_rfl)
theorem oS1:SpecOk Tryz.prog 14 rL7:=xY3 oI8 mixed Tryz.func14 (by kernel_rfl) (bs:=[]) (by kernel_rfl) trivial fun x=>by kernel_rfl
def f39 (p0:(List D49)) (p1 p2:Int):(List D49):=List.take (Int.toNat p1) p0 ++ List.drop (Int.toNat p2) p0
def rL8 (p0:(List D49)) (p1 p2:Int):Prop:=0 ≤ p1 ∧ p1 < p2 ∧ p2 ≤ (List.length p0:Int)
instance (p0:(List D49)) (p1 p2:Int):Decidable (rL8 p0 p1 p2):=by
  unfold rL8
  infer_instance
def oS2:List (Nat × Sh):=[(0,(.own T49 400000 true)),(1,(.val (.int .i64))),(2,(.val (.int .i64)))]
def oS3:Sh:=(.own T49 0 true)
def oS4:List (Nat × Sh):=[]
def rL9:Am.Spec:=fnSpec oS2 oS3 oS4 (fun x=>rL8 x.1 x.2.1 x.2.2.1) (fun x=>f39 x.1 x.2.1 x.2.2.1) (fun _=>())
theorem oS5:SpecOk Tryz.prog 39 rL9:=spec_del rfl ⟨_,Tryz.func39,by kernel_rfl,by decide⟩ del_ok
abbrev wU:Type:=((List Int) × Int × Int × Unit)
abbrev wJ5:Type:=(Int × Unit)
def uH8 (y:wU) (x:wJ5):Prop × Bool × wJ5 × Bool × Bool :=
 let a0:=y.1
 let a8:=x.1
 let v9:=(decide (a8 < y.2.2.1))
 let v16:=(y.2.1 == (nth a0 a8 (0:Int)))
 ((v9 = true → (InB a8 (len a0) ∧ ((!v16) = true → InR (a8 + 1)))),(v9 && (!v16)),((a8 + 1),()),(v9 && v16),(!v9))
def uD (y:wU) (x:wJ5):Prop:=(uH8 y x).1
def sE3 (y:wU) (x:wJ5):Bool:=(uH8 y x).2.1
def vU0 (y:wU) (x:wJ5):wJ5:=(uH8 y x).2.2.1
def sP7 (y:wU) (x:wJ5):Bool:=(uH8 y x).2.2.2.1
def qK0 (y:wU) (x:wJ5):Bool:=(uH8 y x).2.2.2.2
instance (y:wU) (x:wJ5):Decidable (uD y x):=by
 unfold uD uH8
 try dsimp only
 infer_instance
def tJ6 (y:wU) (x:wJ5):Int :=
 x.1
def tJ7:St → Option Out:=xP4 [(0,(.val (.sl (.int .i64)))),(1,vI),(7,vI)] [(8,vI)] sE3 vU0 uD fun y x=>[ex 1 (some (sP7 y x)) [(4,vI)] ((tJ6 y x),()),ex 2 (some (qK0 y x)) [] ()]
def f70t (p0:(List Int)) (p1:Int):Prop × Int :=
 let y2:=(p0,p1,(len p0),())
 let x2:=((0:Int),())
 let e2:=(zC1 (sE3 y2) (vU0 y2) x2)
 ((Am.Ends (sE3 y2) (vU0 y2) (uD y2) x2),(bif (sP7 y2 e2) then (tJ6 y2 e2) else (-1:Int)))
def rM (p0:(List Int)) (p1:Int):Prop:=(f70t p0 p1).1
def f70 (p0:(List Int)) (p1:Int):Int:=(f70t p0 p1).2
instance (p0:(List Int)) (p1:Int):Decidable (rM p0 p1):=by
 unfold rM f70t
 try dsimp only
 infer_instance
def rM0:Am.Spec:=fnSpec [(0,(.val (.sl (.int .i64)))),(1,vI)] vI [] (fun x=>rM x.1 x.2.1) (fun x=>f70 x.1 x.2.1) (fun _=>())
def qK1:Ctx:=Cx tys [] [(2,tJ7)] [] false 19 [] []
theorem qK2:CtxOk Tryz.prog qK1:=xW4 tys_ok rfl trivial rfl (by kernel_rfl)
noncomputable def pE6:Code:=Tryz.f70.body.getD .skip
noncomputable def pK7:Code:=xX3 pE6 0
theorem qK3:yV Tryz.prog qK1 pK7:=xY2 qK2 mixed (sp:=tJ7) rfl [[(4,vI)],[]] (bs:=[]) (by kernel_rfl) trivial (by kernel_rfl) (by kernel_rfl) fun y x=>by kernel_rfl
theorem oS6:SpecOk Tryz.prog 70 rM0:=xY3 qK2 mixed Tryz.func70 (by kernel_rfl) (bs:=[pK7]) (by kernel_rfl) ⟨qK3,trivial⟩ fun x=>by kernel_rfl
def f40t (p0:(List Int)) (p1:Int):Prop × Bool :=
 ((rM p0 p1),(decide ((f70 p0 p1) ≥ 0)))
def rM1 (p0:(List Int)) (p1:Int):Prop:=(f40t p0 p1).1
def f40 (p0:(List Int)) (p1:Int):Bool:=(f40t p0 p1).2
instance (p0:(List Int)) (p1:Int):Decidable (rM1 p0 p1):=by
 unfold rM1 f40t
 try dsimp only
 infer_instance
def rM2:Am.Spec:=fnSpec [(0,(.val (.sl (.int .i64)))),(1,vI)] vB [] (fun x=>rM1 x.1 x.2.1) (fun x=>f40 x.1 x.2.1) (fun _=>())
def oI9:Ctx:=Cx tys [(70,rM0)] [] [] false 9 [] []
theorem oJ:CtxOk Tryz.prog oI9:=xW4 tys_ok rfl ⟨oS6,trivial⟩ rfl (by kernel_rfl)
theorem oS7:SpecOk Tryz.prog 40 rM2:=xY3 oJ mixed Tryz.func40 (by kernel_rfl) (bs:=[]) (by kernel_rfl) trivial fun x=>by kernel_rfl
def f16t (p0:D28) (p1:Int) (p2:Int) (p3:Int):Prop × (D28 × Int × Unit) :=
 let v18:=(f9 p0)
 let v20:=(v18 != 0)
 let v25:=(f8 p0 p1)
 let v27:=(decide (v25 < 0))
 let v31:=(f33 p0 p2)
 let v33:=(v31 != 0)
 let v38:=(f11 p0 p1)
 let v41:=(p2 == p1)
 let v46:=(bif v41 then true else (f40 v38 p2))
 let v49:=(f34 p0)
 let v51:=(v25 + 1)
 let v53:=(len v38)
 let v54:=(v51 + v53)
 let v59:=(List.drop (Int.toNat v25) (List.take (Int.toNat v54) v49.2.2.2.1))
 let s:=((nth v59 (0:Int) Z49).1,(nth v59 (0:Int) Z49).2.1,p2,(nth v59 (0:Int) Z49).2.2.2.1,(nth v59 (0:Int) Z49).2.2.2.2.1,(nth v59 (0:Int) Z49).2.2.2.2.2.1,(nth v59 (0:Int) Z49).2.2.2.2.2.2.1,(nth v59 (0:Int) Z49).2.2.2.2.2.2.2.1,(nth v59 (0:Int) Z49).2.2.2.2.2.2.2.2.1,(nth v59 (0:Int) Z49).2.2.2.2.2.2.2.2.2.1,(nth v59 (0:Int) Z49).2.2.2.2.2.2.2.2.2.2.1,(nth v59 (0:Int) Z49).2.2.2.2.2.2.2.2.2.2.2.1,(nth v59 (0:Int) Z49).2.2.2.2.2.2.2.2.2.2.2.2.1,(nth v59 (0:Int) Z49).2.2.2.2.2.2.2.2.2.2.2.2.2.1,(nth v59 (0:Int) Z49).2.2.2.2.2.2.2.2.2.2.2.2.2.2.1,(nth v59 (0:Int) Z49).2.2.2.2.2.2.2.2.2.2.2.2.2.2.2.1,(nth v59 (0:Int) Z49).2.2.2.2.2.2.2.2.2.2.2.2.2.2.2.2.1,(nth v59 (0:Int) Z49).2.2.2.2.2.2.2.2.2.2.2.2.2.2.2.2.2.1,(nth v59 (0:Int) Z49).2.2.2.2.2.2.2.2.2.2.2.2.2.2.2.2.2.2.1,(nth v59 (0:Int) Z49).2.2.2.2.2.2.2.2.2.2.2.2.2.2.2.2.2.2.2.1,(nth v59 (0:Int) Z49).2.2.2.2.2.2.2.2.2.2.2.2.2.2.2.2.2.2.2.2.1,(nth v59 (0:Int) Z49).2.2.2.2.2.2.2.2.2.2.2.2.2.2.2.2.2.2.2.2.2.1,(nth v59 (0:Int) Z49).2.2.2.2.2.2.2.2.2.2.2.2.2.2.2.2.2.2.2.2.2.2.1,(nth v59 (0:Int) Z49).2.2.2.2.2.2.2.2.2.2.2.2.2.2.2.2.2.2.2.2.2.2.2.1,(nth v59 (0:Int) Z49).2.2.2.2.2.2.2.2.2.2.2.2.2.2.2.2.2.2.2.2.2.2.2.2.1,(nth v59 (0:Int) Z49).2.2.2.2.2.2.2.2.2.2.2.2.2.2.2.2.2.2.2.2.2.2.2.2.2.1,(nth v59 (0:Int) Z49).2.2.2.2.2.2.2.2.2.2.2.2.2.2.2.2.2.2.2.2.2.2.2.2.2.2.1,(nth v59 (0:Int) Z49).2.2.2.2.2.2.2.2.2.2.2.2.2.2.2.2.2.2.2.2.2.2.2.2.2.2.2.1,())
 let l1016:=(List.set v59 (Int.toNat (0:Int)) s)
 let v69:=(f39 v49.2.2.2.1 v25 v54)
 let v72:=(decide (p3 < 0))
 let s_1:=(v49.1,v49.2.1,v49.2.2.1,v69,v49.2.2.2.2.1,v49.2.2.2.2.2.1,v49.2.2.2.2.2.2.1,v49.2.2.2.2.2.2.2.1,())
 let v80:=(bif v72 then true else (decide (p3 > (len (f20 s_1 p2)))))
 let s_2:=(v49.1,v49.2.1,v49.2.2.1,v69,v49.2.2.2.2.1,v49.2.2.2.2.2.1,v49.2.2.2.2.2.2.1,v49.2.2.2.2.2.2.2.1,())
 let v87:=(f37 s_2 p2 p3)
 let s_3:=(v49.1,v49.2.1,v49.2.2.1,(f36 v69 v87 l1016),v49.2.2.2.2.1,v49.2.2.2.2.2.1,v49.2.2.2.2.2.2.1,v49.2.2.2.2.2.2.2.1,())
 let v92:=(f38 s_3)
 let m8_1:=(bif v46 then ((0:Int),(0:Int),(0:Int),([]:List D49),(0:Int),((0:Int),(0:Int),([]:List Int),()),([]:List D87),([]:List D90),()) else (bif v80 then ((0:Int),(0:Int),(0:Int),([]:List D49),(0:Int),((0:Int),(0:Int),([]:List Int),()),([]:List D87),([]:List D90),()) else v92.1))
 let m8_3:=(bif v27 then ((0:Int),(0:Int),(0:Int),([]:List D49),(0:Int),((0:Int),(0:Int),([]:List Int),()),([]:List D87),([]:List D90),()) else (bif v33 then ((0:Int),(0:Int),(0:Int),([]:List D49),(0:Int),((0:Int),(0:Int),([]:List Int),()),([]:List D87),([]:List D90),()) else m8_1))
 (((sD p0) ∧ ((!v20) = true → ((uS7 p0 p1) ∧ ((!v27) = true → ((sP2 p0 p2) ∧ ((!v33) = true → ((tT p0 p1) ∧ (((!v41) = true → (rM1 v38 p2)) ∧ ((!v46) = true → ((tS8 p0) ∧ (InR (v25 + 1) ∧ (InR (v51 + v53) ∧ ((0 ≤ v25 ∧ v25 ≤ v54 ∧ v54 ≤ len v49.2.2.2.1) ∧ ((0 < List.length v59 ∧ (List.length v59:Int) ≤ 4294967296) ∧ (InB (0:Int) (len v59) ∧ ((0:Int) < len v59 ∧ ((rL8 v49.2.2.2.1 v25 v54) ∧ (((!v72) = true → (tI9 s_1 p2)) ∧ ((!v80) = true → ((sP5 s_2 p2 p3) ∧ ((tS9 v69 v87 l1016) ∧ (sP6 s_3)))))))))))))))))))))),((bif v20 then ((0:Int),(0:Int),(0:Int),([]:List D49),(0:Int),((0:Int),(0:Int),([]:List Int),()),([]:List D87),([]:List D90),()) else m8_3),(bif v20 then v18 else (bif v27 then (9:Int) else (bif v33 then v31 else (bif v46 then (11:Int) else (bif v80 then (2:Int) else v92.2.1))))),()))
def sP8 (p0:D28) (p1:Int) (p2:Int) (p3:Int):Prop:=(f16t p0 p1 p2 p3).1
def f16 (p0:D28) (p1:Int) (p2:Int) (p3:Int):(D28 × Int × Unit):=(f16t p0 p1 p2 p3).2
instance (p0:D28) (p1:Int) (p2:Int) (p3:Int):Decidable (sP8 p0 p1 p2 p3):=by
 unfold sP8 f16t
 try dsimp only
 infer_instance
def rM3:Am.Spec:=fnSpec [(0,(.val T28)),(1,vI),(2,vI),(3,vI)] (.tup (.cons (.val T28) (.cons vI .nl))) [] (fun x=>sP8 x.1 x.2.1 x.2.2.1 x.2.2.2.1) (fun x=>f16 x.1 x.2.1 x.2.2.1 x.2.2.2.1) (fun _=>())
def oJ0:Ctx:={ Cx tys [(8,vG6),(9,vT5),(11,uV9),(20,uC7),(33,sD5),(34,uV7),(36,uV8),(37,sE1),(38,sE2),(39,rL9),(40,rM2)] [] [(21,[(4,0,38,1013)]),(27,[(4,0,49,401400),(4,0,300049,401403)]),(31,[(4,0,60,1016)]),(35,[(4,0,69,401400)]),(41,[(4,0,89,401400)]),(42,[(1,14,3,0),(1,14,7,0)])] false 95 [] [] with wants:=[(36,[0,2]),(39,[0])],clones:=[(41,43)] }
theorem oJ1:CtxOk Tryz.prog oJ0:=xV1 tys_ok rfl ⟨sY5,rV,qK,rK9,pJ4,qJ5,qJ6,pK5,pK6,oS5,oS7,trivial⟩ rfl (by kernel_rfl) rfl clone_ok
theorem oS8:SpecOk Tryz.prog 16 rM3:=xY3 oJ1 mixed Tryz.func16 (by kernel_rfl) (bs:=[]) (by kernel_rfl) trivial fun x=>by kernel_rfl
abbrev wY7:Type:=(D28 × (Int × Int × Int × (List D49) × Int × (Int × Int × (List Int) × Unit) × (List D87) × (List D90) × Unit) × Int × Int × Int × Unit)
abbrev wN4:Type:=((List (Int × Int × Unit)) × Int × Unit)
def uW (y:wY7) (x:wN4):Prop × Bool × wN4 :=
 let a2:=y.1
 let a8:=y.2.2.1
 let a53:=x.2.1
 let v54:=(decide (a53 < y.2.2.2.2.1))
 let v61:=(a8 + a53)
 ((v54 = true → (InR (a8 + a53) ∧ (InB v61 (len a2.2.2.2.1) ∧ (InR (a2.2.2.2.2.1 + a53) ∧ InR (a53 + 1))))),v54,((xL8 (.int .i64) (.int .i64) (nth a2.2.2.2.1 v61 Z49).1 (a2.2.2.2.2.1 + a53) x.1),(a53 + 1),()))
def vN7 (y:wY7) (x:wN4):Prop:=(uW y x).1
def tJ8 (y:wY7) (x:wN4):Bool:=(uW y x).2.1
def vG9 (y:wY7) (x:wN4):wN4:=(uW y x).2.2
instance (y:wY7) (x:wN4):Decidable (vN7 y x):=by
 unfold vN7 uW
 try dsimp only
 infer_instance
def uR6 (y:wY7) (x:wN4):(List (Int × Int × Unit)) :=
 x.1
def tT0:List (Nat × Sh):=[(2,(.box T28 (.val T28))),(4,(.box T28 (.agg (.cons (.int .i64) (.cons (.int .i64) (.cons (.int .i64) (.cons (.sl T49) (.cons (.int .i64) (.cons T24 (.cons (.sl T87) (.cons (.sl T90) .nl)))))))) (.cons vI (.cons vI (.cons vI (.cons (.val (.sl T49)) (.cons vI (.cons (.agg (.cons (.int .i64) (.cons (.int .i64) (.cons (.sl (.int .i64)) .nl))) (.cons vI (.cons vI (.cons (.val (.sl (.int .i64))) .nl)))) (.cons (.val (.sl T87)) (.cons (.val (.sl T90)) .nl))))))))))),(8,vI),(9,vI),(10,(.own (xD2 (.int .i64) (.int .i64)) 1010 true))]
def uR7:St → Option Out:=xP4 [(2,(.box T28 (.val T28))),(4,(.box T28 (.agg (.cons (.int .i64) (.cons (.int .i64) (.cons (.int .i64) (.cons (.sl T49) (.cons (.int .i64) (.cons T24 (.cons (.sl T87) (.cons (.sl T90) .nl)))))))) (.cons vI (.cons vI (.cons vI (.cons (.val (.sl T49)) (.cons vI (.cons (.agg (.cons (.int .i64) (.cons (.int .i64) (.cons (.sl (.int .i64)) .nl))) (.cons vI (.cons vI (.cons (.val (.sl (.int .i64))) .nl)))) (.cons (.val (.sl T87)) (.cons (.val (.sl T90)) .nl))))))))))),(8,vI),(9,vI),(52,vI)] [(10,(.own (xD2 (.int .i64) (.int .i64)) 1010 true)),(53,vI)] tJ8 vG9 vN7 fun y x=>[ex 2 none tT0 (y.1,y.2.1,y.2.2.1,y.2.2.2.1,(uR6 y x),())]
abbrev wY8:Type:=(D28 × (Int × Int × Int × (List D49) × Int × (Int × Int × (List Int) × Unit) × (List D87) × (List D90) × Unit) × Int × Int × (List (Int × Int × Unit)) × Int × Unit)
abbrev wN5:Type:=((List D49) × Int × Unit)
def uW0 (y:wY8) (x:wN5):Prop × Bool × wN5 :=
 let a2:=y.1
 let a8:=y.2.2.1
 let a10:=y.2.2.2.2.1
 let a12:=x.1
 let a74:=x.2.1
 let v75:=(decide (a74 < y.2.2.2.2.2.1))
 let v81:=(a8 + a74)
 let v82:=(nth a2.2.2.2.1 v81 Z49)
 let v84:=(f35 v82)
 let v88:=(Option.getD (yI6 (.int .i64) (.int .i64) v84.1 a10) (0:Int))
 let s:=(v88,v84.2.1,v84.2.2.1,v84.2.2.2.1,v84.2.2.2.2.1,v84.2.2.2.2.2.1,v84.2.2.2.2.2.2.1,v84.2.2.2.2.2.2.2.1,v84.2.2.2.2.2.2.2.2.1,v84.2.2.2.2.2.2.2.2.2.1,v84.2.2.2.2.2.2.2.2.2.2.1,v84.2.2.2.2.2.2.2.2.2.2.2.1,v84.2.2.2.2.2.2.2.2.2.2.2.2.1,v84.2.2.2.2.2.2.2.2.2.2.2.2.2.1,v84.2.2.2.2.2.2.2.2.2.2.2.2.2.2.1,v84.2.2.2.2.2.2.2.2.2.2.2.2.2.2.2.1,v84.2.2.2.2.2.2.2.2.2.2.2.2.2.2.2.2.1,v84.2.2.2.2.2.2.2.2.2.2.2.2.2.2.2.2.2.1,v84.2.2.2.2.2.2.2.2.2.2.2.2.2.2.2.2.2.2.1,v84.2.2.2.2.2.2.2.2.2.2.2.2.2.2.2.2.2.2.2.1,v84.2.2.2.2.2.2.2.2.2.2.2.2.2.2.2.2.2.2.2.2.1,v84.2.2.2.2.2.2.2.2.2.2.2.2.2.2.2.2.2.2.2.2.2.1,v84.2.2.2.2.2.2.2.2.2.2.2.2.2.2.2.2.2.2.2.2.2.2.1,v84.2.2.2.2.2.2.2.2.2.2.2.2.2.2.2.2.2.2.2.2.2.2.2.1,v84.2.2.2.2.2.2.2.2.2.2.2.2.2.2.2.2.2.2.2.2.2.2.2.2.1,v84.2.2.2.2.2.2.2.2.2.2.2.2.2.2.2.2.2.2.2.2.2.2.2.2.2.1,v84.2.2.2.2.2.2.2.2.2.2.2.2.2.2.2.2.2.2.2.2.2.2.2.2.2.2.1,v84.2.2.2.2.2.2.2.2.2.2.2.2.2.2.2.2.2.2.2.2.2.2.2.2.2.2.2.1,())
 let s_1:=(v88,v84.2.1,(Option.getD (yI6 (.int .i64) (.int .i64) v84.2.2.1 a10) (0:Int)),v84.2.2.2.1,v84.2.2.2.2.1,v84.2.2.2.2.2.1,v84.2.2.2.2.2.2.1,v84.2.2.2.2.2.2.2.1,v84.2.2.2.2.2.2.2.2.1,v84.2.2.2.2.2.2.2.2.2.1,v84.2.2.2.2.2.2.2.2.2.2.1,v84.2.2.2.2.2.2.2.2.2.2.2.1,v84.2.2.2.2.2.2.2.2.2.2.2.2.1,v84.2.2.2.2.2.2.2.2.2.2.2.2.2.1,v84.2.2.2.2.2.2.2.2.2.2.2.2.2.2.1,v84.2.2.2.2.2.2.2.2.2.2.2.2.2.2.2.1,v84.2.2.2.2.2.2.2.2.2.2.2.2.2.2.2.2.1,v84.2.2.2.2.2.2.2.2.2.2.2.2.2.2.2.2.2.1,v84.2.2.2.2.2.2.2.2.2.2.2.2.2.2.2.2.2.2.1,v84.2.2.2.2.2.2.2.2.2.2.2.2.2.2.2.2.2.2.2.1,v84.2.2.2.2.2.2.2.2.2.2.2.2.2.2.2.2.2.2.2.2.1,v84.2.2.2.2.2.2.2.2.2.2.2.2.2.2.2.2.2.2.2.2.2.1,v84.2.2.2.2.2.2.2.2.2.2.2.2.2.2.2.2.2.2.2.2.2.2.1,v84.2.2.2.2.2.2.2.2.2.2.2.2.2.2.2.2.2.2.2.2.2.2.2.1,v84.2.2.2.2.2.2.2.2.2.2.2.2.2.2.2.2.2.2.2.2.2.2.2.2.1,v84.2.2.2.2.2.2.2.2.2.2.2.2.2.2.2.2.2.2.2.2.2.2.2.2.2.1,v84.2.2.2.2.2.2.2.2.2.2.2.2.2.2.2.2.2.2.2.2.2.2.2.2.2.2.1,v84.2.2.2.2.2.2.2.2.2.2.2.2.2.2.2.2.2.2.2.2.2.2.2.2.2.2.2.1,())
 let m14:=(bif (Option.isSome (yI6 (.int .i64) (.int .i64) v84.2.2.1 a10)) then s_1 else s)
 let s_2:=(m14.1,m14.2.1,m14.2.2.1,m14.2.2.2.1,m14.2.2.2.2.1,m14.2.2.2.2.2.1,m14.2.2.2.2.2.2.1,m14.2.2.2.2.2.2.2.1,m14.2.2.2.2.2.2.2.2.1,m14.2.2.2.2.2.2.2.2.2.1,m14.2.2.2.2.2.2.2.2.2.2.1,m14.2.2.2.2.2.2.2.2.2.2.2.1,m14.2.2.2.2.2.2.2.2.2.2.2.2.1,m14.2.2.2.2.2.2.2.2.2.2.2.2.2.1,m14.2.2.2.2.2.2.2.2.2.2.2.2.2.2.1,m14.2.2.2.2.2.2.2.2.2.2.2.2.2.2.2.1,m14.2.2.2.2.2.2.2.2.2.2.2.2.2.2.2.2.1,m14.2.2.2.2.2.2.2.2.2.2.2.2.2.2.2.2.2.1,m14.2.2.2.2.2.2.2.2.2.2.2.2.2.2.2.2.2.2.1,m14.2.2.2.2.2.2.2.2.2.2.2.2.2.2.2.2.2.2.2.1,m14.2.2.2.2.2.2.2.2.2.2.2.2.2.2.2.2.2.2.2.2.1,m14.2.2.2.2.2.2.2.2.2.2.2.2.2.2.2.2.2.2.2.2.2.1,m14.2.2.2.2.2.2.2.2.2.2.2.2.2.2.2.2.2.2.2.2.2.2.1,m14.2.2.2.2.2.2.2.2.2.2.2.2.2.2.2.2.2.2.2.2.2.2.2.1,m14.2.2.2.2.2.2.2.2.2.2.2.2.2.2.2.2.2.2.2.2.2.2.2.2.1,m14.2.2.2.2.2.2.2.2.2.2.2.2.2.2.2.2.2.2.2.2.2.2.2.2.2.1,(Option.getD (yI6 (.int .i64) (.int .i64) m14.2.2.2.2.2.2.2.2.2.2.2.2.2.2.2.2.2.2.2.2.2.2.2.2.2.2.1 a10) (0:Int)),m14.2.2.2.2.2.2.2.2.2.2.2.2.2.2.2.2.2.2.2.2.2.2.2.2.2.2.2.1,())
 let l1012:=(List.set a12 (Int.toNat a74) (bif (bif (Option.isSome (yI6 (.int .i64) (.int .i64) m14.2.2.2.2.2.2.2.2.2.2.2.2.2.2.2.2.2.2.2.2.2.2.2.2.2.2.1 a10)) then (m14.2.1 == 10) else false) then s_2 else m14))
 ((v75 = true → (InR (a8 + a74) ∧ (InB v81 (len a2.2.2.2.1) ∧ ((tS4 v82) ∧ (InB a74 (len a12) ∧ (a74 < len a12 ∧ InR (a74 + 1))))))),v75,(l1012,(a74 + 1),()))
def vN8 (y:wY8) (x:wN5):Prop:=(uW0 y x).1
def tJ9 (y:wY8) (x:wN5):Bool:=(uW0 y x).2.1
def vH (y:wY8) (x:wN5):wN5:=(uW0 y x).2.2
instance (y:wY8) (x:wN5):Decidable (vN8 y x):=by
 unfold vN8 uW0
 try dsimp only
 infer_instance
def uR8 (y:wY8) (x:wN5):(List D49) :=
 x.1
def tT1:List (Nat × Sh):=[(2,(.box T28 (.val T28))),(4,(.box T28 (.agg (.cons (.int .i64) (.cons (.int .i64) (.cons (.int .i64) (.cons (.sl T49) (.cons (.int .i64) (.cons T24 (.cons (.sl T87) (.cons (.sl T90) .nl)))))))) (.cons vI (.cons vI (.cons vI (.cons (.val (.sl T49)) (.cons vI (.cons (.agg (.cons (.int .i64) (.cons (.int .i64) (.cons (.sl (.int .i64)) .nl))) (.cons vI (.cons vI (.cons (.val (.sl (.int .i64))) .nl)))) (.cons (.val (.sl T87)) (.cons (.val (.sl T90)) .nl))))))))))),(8,vI),(9,vI),(12,(.own T49 1012 true))]
def uR9:St → Option Out:=xP4 [(2,(.box T28 (.val T28))),(4,(.box T28 (.agg (.cons (.int .i64) (.cons (.int .i64) (.cons (.int .i64) (.cons (.sl T49) (.cons (.int .i64) (.cons T24 (.cons (.sl T87) (.cons (.sl T90) .nl)))))))) (.cons vI (.cons vI (.cons vI (.cons (.val (.sl T49)) (.cons vI (.cons (.agg (.cons (.int .i64) (.cons (.int .i64) (.cons (.sl (.int .i64)) .nl))) (.cons vI (.cons vI (.cons (.val (.sl (.int .i64))) .nl)))) (.cons (.val (.sl T87)) (.cons (.val (.sl T90)) .nl))))))))))),(8,vI),(9,vI),(10,(.own (xD2 (.int .i64) (.int .i64)) 1010 true)),(73,vI)] [(12,(.own T49 1012 true)),(74,vI)] tJ9 vH vN8 fun y x=>[ex 4 none tT1 (y.1,y.2.1,y.2.2.1,y.2.2.2.1,(uR8 y x),())]
def f17t (p0:D28) (p1:Int):Prop × ((Int × Int × Int × (List D49) × Int × D24 × (List D87) × (List D90) × Unit) × Int × Int × Unit) :=
 let v21:=(f9 p0)
 let v23:=(v21 != 0)
 let v28:=(f8 p0 p1)
 let v30:=(decide (v28 < 0))
 let v35:=(len (f11 p0 p1))
 let v36:=(1 + v35)
 let v39:=(len p0.2.2.2.1)
 let v42:=(decide ((v39 + v36) > 64))
 let v49:=(bif v42 then true else (decide ((p0.2.2.2.2.1 + v36) > 1073741824)))
 let y12:=(p0,((0:Int),(0:Int),(0:Int),([]:List D49),(0:Int),((0:Int),(0:Int),([]:List Int),()),([]:List D87),([]:List D90),()),v28,v36,v36,())
 let x12:=(([]:List (Int × Int × Unit)),(0:Int),())
 let v71:=(List.replicate (Int.toNat v36) Z49)
 let y18:=(p0,((0:Int),(0:Int),(0:Int),([]:List D49),(0:Int),((0:Int),(0:Int),([]:List Int),()),([]:List D87),([]:List D90),()),v28,v36,(uR6 y12 (zC1 (tJ8 y12) (vG9 y12) x12)),(len v71),())
 let x18:=(v71,(0:Int),())
 let r18_4_0:=(uR8 y18 (zC1 (tJ9 y18) (vH y18) x18))
 let v121:=(f34 p0)
 let v126:=(v28 + v36)
 let m4_21:=(bif v23 then ((0:Int),(0:Int),([]:List Int),()) else (bif v30 then ((0:Int),(0:Int),([]:List Int),()) else (bif v49 then ((0:Int),(0:Int),([]:List Int),()) else v121.2.2.2.2.2.1)))
 let s_7:=((bif v23 then (0:Int) else (bif v30 then (0:Int) else (bif v49 then (0:Int) else v121.1))),(bif v23 then (0:Int) else (bif v30 then (0:Int) else (bif v49 then (0:Int) else v121.2.1))),(bif v23 then (0:Int) else (bif v30 then (0:Int) else (bif v49 then (0:Int) else v121.2.2.1))),(bif v23 then [] else (bif v30 then [] else (bif v49 then [] else (f36 v121.2.2.2.1 v126 r18_4_0)))),(bif v23 then (0:Int) else (bif v30 then (0:Int) else (bif v49 then (0:Int) else (v121.2.2.2.2.1 + v36)))),m4_21,(bif v23 then [] else (bif v30 then [] else (bif v49 then [] else v121.2.2.2.2.2.2.1))),(bif v23 then [] else (bif v30 then [] else (bif v49 then [] else v121.2.2.2.2.2.2.2.1))),())
 (((sD p0) ∧ ((!v23) = true → ((uS7 p0 p1) ∧ ((!v30) = true → ((tT p0 p1) ∧ (InR (1 + v35) ∧ (InR (v39 + v36) ∧ (((!v42) = true → InR (p0.2.2.2.2.1 + v36)) ∧ ((!v49) = true → ((Am.Ends (tJ8 y12) (vG9 y12) (vN7 y12) x12) ∧ ((0 ≤ v36 ∧ v36 ≤ v36 ∧ v36 ≤ 4294967296) ∧ ((Am.Ends (tJ9 y18) (vH y18) (vN8 y18) x18) ∧ ((tS8 p0) ∧ (InR (v28 + v36) ∧ ((tS9 v121.2.2.2.1 v126 r18_4_0) ∧ InR (v121.2.2.2.2.1 + v36)))))))))))))))),(s_7,(bif v23 then (0:Int) else (bif v30 then (0:Int) else (bif v49 then (0:Int) else p0.2.2.2.2.1))),(bif v23 then v21 else (bif v30 then (9:Int) else (bif v49 then (3:Int) else (0:Int)))),()))
def rM4 (p0:D28) (p1:Int):Prop:=(f17t p0 p1).1
def f17 (p0:D28) (p1:Int):((Int × Int × Int × (List D49) × Int × D24 × (List D87) × (List D90) × Unit) × Int × Int × Unit):=(f17t p0 p1).2
instance (p0:D28) (p1:Int):Decidable (rM4 p0 p1):=by
 unfold rM4 f17t
 try dsimp only
 infer_instance
def rM5:Am.Spec:=fnSpec [(0,(.val T28)),(1,vI)] (.tup (.cons (.agg (.cons (.int .i64) (.cons (.int .i64) (.cons (.int .i64) (.cons (.sl T49) (.cons (.int .i64) (.cons T24 (.cons (.sl T87) (.cons (.sl T90) .nl)))))))) (.cons vI (.cons vI (.cons vI (.cons (.own T49 0 true) (.cons vI (.cons (.val T24) (.cons (.val (.sl T87)) (.cons (.own T90 3 true) .nl))))))))) (.cons vI (.cons vI .nl)))) [] (fun x=>rM4 x.1 x.2.1) (fun x=>f17 x.1 x.2.1) (fun _=>())
def rB2:Ctx:={ Cx tys [(8,vG6),(9,vT5),(11,uV9),(34,uV7),(35,uV5),(36,uV8)] [(12,uR7),(18,uR9)] [(21,[(4,0,51,1010)]),(33,[(4,0,71,1012)]),(61,[(4,0,121,401900),(4,0,300121,401903)]),(63,[(4,0,128,401900)]),(67,[(4,0,401900,0),(4,0,401903,3)])] false 138 [] [71] with wants:=[(36,[0,2])],maps:=maps }
theorem rB3:CtxOk Tryz.prog rB2:=xW4 tys_ok (by kernel_rfl) ⟨sY5,rV,qK,qJ5,qI7,qJ6,trivial⟩ rfl (by kernel_rfl)
noncomputable def rM6:Code:=Tryz.f17.body.getD .skip
noncomputable def qK4:Code:=xX3 rM6 0
theorem rV1:yV Tryz.prog rB2 qK4:=xY2 rB3 mixed (sp:=uR7) rfl [tT0] (bs:=[]) (by kernel_rfl) trivial (by kernel_rfl) (by kernel_rfl) fun y x=>by kernel_rfl
noncomputable def qK5:Code:=xX3 rM6 1
theorem rV2:yV Tryz.prog rB2 qK5:=xY2 rB3 mixed (sp:=uR9) rfl [tT1] (bs:=[]) (by kernel_rfl) trivial (by kernel_rfl) (by kernel_rfl) fun y x=>by kernel_rfl
theorem oS9:SpecOk Tryz.prog 17 rM5:=xY3 rB3 mixed Tryz.func17 (by kernel_rfl) (bs:=[qK4,qK5]) (by kernel_rfl) ⟨rV1,rV2,trivial⟩ fun x=>by kernel_rfl
def f31t (p0:Int) (p1:Int) (p2:Int):Prop × (D28 × Int × Unit) :=
 let s_1:=(p0,p1,p2,([]:List D49),(1:Int),((0:Int),(0:Int),([]:List Int),()),([]:List D87),([]:List D90),())
 let v15:=(f23 s_1)
 let v17:=(v15 != 0)
 let s_3:=((bif v17 then (0:Int) else p0),(bif v17 then (0:Int) else p1),(bif v17 then (0:Int) else p2),([]:List D49),(bif v17 then (0:Int) else (1:Int)),((bif v17 then (0:Int) else (0:Int)),(bif v17 then (0:Int) else (0:Int)),([]:List Int),()),([]:List D87),([]:List D90),())
 ((sH s_1),(s_3,(bif v17 then v15 else (0:Int)),()))
def rM7 (p0:Int) (p1:Int) (p2:Int):Prop:=(f31t p0 p1 p2).1
def f31 (p0:Int) (p1:Int) (p2:Int):(D28 × Int × Unit):=(f31t p0 p1 p2).2
instance (p0:Int) (p1:Int) (p2:Int):Decidable (rM7 p0 p1 p2):=by
 unfold rM7 f31t
 try dsimp only
 infer_instance
def rM8:Am.Spec:=fnSpec [(0,vI),(1,vI),(2,vI)] (.tup (.cons (.val T28) (.cons vI .nl))) [] (fun x=>rM7 x.1 x.2.1 x.2.2.1) (fun x=>f31 x.1 x.2.1 x.2.2.1) (fun _=>())
def oJ2:Ctx:=Cx tys [(23,tV4)] [] [] false 21 [] []
theorem oJ3:CtxOk Tryz.prog oJ2:=xW4 tys_ok rfl ⟨pH1,trivial⟩ rfl (by kernel_rfl)
theorem oT:SpecOk Tryz.prog 31 rM8:=xY3 oJ3 mixed Tryz.func31 (by kernel_rfl) (bs:=[]) (by kernel_rfl) trivial fun x=>by kernel_rfl
abbrev vN9:Type:=(D28 × Unit)
abbrev wU0:Type:=(Int × Int × Unit)
def sE4 (y:vN9) (x:wU0):Prop × Bool × wU0 :=
 let a2:=y.1
 let a5:=x.1
 let a6:=x.2.1
 let v23:=((nth a2.2.2.2.1 a5 Z49).2.2.1 != 0)
 let v28:=(nth a2.2.2.2.1 a5 Z49)
 ((InB a5 (len a2.2.2.2.1) ∧ (v23 = true → (InB a5 (len a2.2.2.2.1) ∧ ((uS7 a2 v28.2.2.1) ∧ InR (a6 + 1))))),v23,((f8 a2 v28.2.2.1),(a6 + 1),()))
def uD0 (y:vN9) (x:wU0):Prop:=(sE4 y x).1
def sE5 (y:vN9) (x:wU0):Bool:=(sE4 y x).2.1
def vU1 (y:vN9) (x:wU0):wU0:=(sE4 y x).2.2
instance (y:vN9) (x:wU0):Decidable (uD0 y x):=by
 unfold uD0 sE4
 try dsimp only
 infer_instance
def tK (y:vN9) (x:wU0):Int :=
 x.2.1
def tK0:St → Option Out:=xP4 [(2,(.box T28 (.val T28)))] [(5,vI),(6,vI)] sE5 vU1 uD0 fun y x=>[ex 2 none [(6,vI)] ((tK y x),())]
def f32t (p0:D28) (p1:Int):Prop × Int :=
 let v9:=(f8 p0 p1)
 let v11:=(decide (v9 < 0))
 let v16:=(bif v11 then true else ((f9 p0) != 0))
 let y5:=(p0,())
 let x5:=(v9,(1:Int),())
 (((uS7 p0 p1) ∧ (((!v11) = true → (sD p0)) ∧ ((!v16) = true → (Am.Ends (sE5 y5) (vU1 y5) (uD0 y5) x5)))),(bif v16 then (0:Int) else (tK y5 (zC1 (sE5 y5) (vU1 y5) x5))))
def rM9 (p0:D28) (p1:Int):Prop:=(f32t p0 p1).1
def f32 (p0:D28) (p1:Int):Int:=(f32t p0 p1).2
instance (p0:D28) (p1:Int):Decidable (rM9 p0 p1):=by
 unfold rM9 f32t
 try dsimp only
 infer_instance
def rN:Am.Spec:=fnSpec [(0,(.val T28)),(1,vI)] vI [] (fun x=>rM9 x.1 x.2.1) (fun x=>f32 x.1 x.2.1) (fun _=>())
def qK6:Ctx:=Cx tys [(8,vG6),(9,vT5)] [(5,tK0)] [] false 35 [] []
theorem qK7:CtxOk Tryz.prog qK6:=xW4 tys_ok rfl ⟨sY5,rV,trivial⟩ rfl (by kernel_rfl)
noncomputable def pE7:Code:=Tryz.f32.body.getD .skip
noncomputable def pK8:Code:=xX3 pE7 0
theorem qK8:yV Tryz.prog qK6 pK8:=xY2 qK7 mixed (sp:=tK0) rfl [[(6,vI)]] (bs:=[]) (by kernel_rfl) trivial (by kernel_rfl) (by kernel_rfl) fun y x=>by kernel_rfl
theorem oT0:SpecOk Tryz.prog 32 rN:=xY3 qK7 mixed Tryz.func32 (by kernel_rfl) (bs:=[pK8]) (by kernel_rfl) ⟨qK8,trivial⟩ fun x=>by kernel_rfl
def f10t :Prop × Bool :=
 let s:=((5:Int),(0:Int),(0:Int),(9:Int),())
 let v15:=(f31 (4:Int) (4:Int) (0:Int))
 let v34:=(bif (bif (bif (v15.2.1 != 0) then true else (v15.1.1 != 4)) then true else (v15.1.2.1 != 4)) then true else (v15.1.2.2.2.2.1 != 1))
 let s_4:=((0:Int),(1:Int),(0:Int),([103]:List UInt8),false,false,false,(65535:Int),(0:Int),((0:Int),(0:Int),([]:List Int),()),Z37,(0:Int),((0:Int),(0:Int),([]:List D42),()),Z42,(0:Int),([]:List Int),(0:Int),([]:List D122),([]:List D128),(0:Int),(0:Int),(0:Int),(0:Int),([]:List UInt8),(0:Int),(0:Int),(0:Int),((0:Int),(0:Int),(0:Int),([]:List D125),()),())
 let v38:=(f14 v15.1 s_4 (0:Int) (0:Int))
 let v47:=(bif (v38.2.2.1 != 0) then true else (v38.2.1 != 1))
 let s_8:=((0:Int),(3:Int),(0:Int),([102]:List UInt8),false,false,false,(65535:Int),(0:Int),((0:Int),(0:Int),([]:List Int),()),Z37,(0:Int),((0:Int),(0:Int),([]:List D42),()),s,(0:Int),([]:List Int),(0:Int),([]:List D122),([]:List D128),(0:Int),(0:Int),(0:Int),(0:Int),([]:List UInt8),(0:Int),(0:Int),(0:Int),((0:Int),(0:Int),(0:Int),([]:List D125),()),())
 let v51:=(f14 v38.1 s_8 (1:Int) (0:Int))
 let v60:=(bif (v51.2.2.1 != 0) then true else (v51.2.1 != 2))
 let s_12:=((0:Int),(3:Int),(0:Int),([102]:List UInt8),false,false,false,(65535:Int),(0:Int),((0:Int),(0:Int),([]:List Int),()),Z37,(0:Int),((0:Int),(0:Int),([]:List D42),()),s,(0:Int),([]:List Int),(0:Int),([]:List D122),([]:List D128),(0:Int),(0:Int),(0:Int),(0:Int),([]:List UInt8),(0:Int),(0:Int),(0:Int),((0:Int),(0:Int),(0:Int),([]:List D125),()),())
 let v64:=(f14 v51.1 s_12 (0:Int) (0:Int))
 let v73:=(bif (v64.2.2.1 != 0) then true else (v64.2.1 != 3))
 let v76:=(f13 v64.1)
 let v77:=([(3:Int),(1:Int),(2:Int)]:List Int)
 let v80:=(bif v73 then true else (!(f12 v76 v77)))
 let v83:=(f20 v64.1 (0:Int))
 let v84:=([(3:Int),(1:Int)]:List Int)
 let v87:=(bif v80 then true else (!(f12 v83 v84)))
 let v92:=(bif v87 then true else ((f32 v64.1 (2:Int)) != 2))
 let v97:=(bif v92 then true else ((f9 v64.1) != 0))
 let v100:=(f16 v64.1 (3:Int) (1:Int) (1:Int))
 let v104:=(v100.2.1 != 0)
 let v107:=(f13 v100.1)
 let v108:=([(1:Int),(2:Int),(3:Int)]:List Int)
 let v111:=(bif v104 then true else (!(f12 v107 v108)))
 let v118:=((f16 v64.1 (1:Int) (1:Int) (0:Int)).2.1 != 11)
 let s_16:=((0:Int),(3:Int),(0:Int),([102]:List UInt8),false,false,true,(65535:Int),(0:Int),((0:Int),(0:Int),([]:List Int),()),Z37,(0:Int),((0:Int),(0:Int),([]:List D42),()),s,(0:Int),([]:List Int),(0:Int),([]:List D122),([]:List D128),(0:Int),(0:Int),(0:Int),(0:Int),([]:List UInt8),(0:Int),(0:Int),(0:Int),((0:Int),(0:Int),(0:Int),([]:List D125),()),())
 let v128:=((f14 v64.1 s_16 (0:Int) (0:Int)).2.2.1 != 14)
 let v131:=(f17 v64.1 (1:Int))
 let v140:=(bif (v131.2.2.1 == 0) then (v131.2.1 == 4) else false)
 let s_17:=(v131.1.1,v131.1.2.1,v131.1.2.2.1,v131.1.2.2.2.1,v131.1.2.2.2.2.1,v131.1.2.2.2.2.2.1,v131.1.2.2.2.2.2.2.1,v131.1.2.2.2.2.2.2.2.1,())
 let v143:=(f13 s_17)
 let v144:=([(3:Int),(1:Int),(2:Int),(4:Int),(5:Int)]:List Int)
 let v151:=(bif (bif v140 then (f12 v143 v144) else false) then (v131.1.2.2.2.2.1 == 6) else false)
 let m0_4:=(bif v60 then false else (bif v97 then false else (bif v111 then false else (bif v118 then false else (bif v128 then false else (bif v151 then (((nth v131.1.2.2.2.1 (4:Int) Z49).2.2.1) == 4) else false))))))
 (((rM7 (4:Int) (4:Int) (0:Int)) ∧ ((!v34) = true → ((tJ5 v15.1 s_4 (0:Int) (0:Int)) ∧ ((!v47) = true → ((tJ5 v38.1 s_8 (1:Int) (0:Int)) ∧ ((!v60) = true → ((tJ5 v51.1 s_12 (0:Int) (0:Int)) ∧ (((!v73) = true → (tS0 v64.1)) ∧ (((!v73) = true → (tI4 v76 v77)) ∧ (((!v80) = true → (tI9 v64.1 (0:Int))) ∧ (((!v80) = true → (tI4 v83 v84)) ∧ (((!v87) = true → (rM9 v64.1 (2:Int))) ∧ (((!v92) = true → (sD v64.1)) ∧ ((!v97) = true → ((sP8 v64.1 (3:Int) (1:Int) (1:Int)) ∧ (((!v104) = true → (tS0 v100.1)) ∧ (((!v104) = true → (tI4 v107 v108)) ∧ ((!v111) = true → ((sP8 v64.1 (1:Int) (1:Int) (0:Int)) ∧ ((!v118) = true → ((tJ5 v64.1 s_16 (0:Int) (0:Int)) ∧ ((!v128) = true → ((rM4 v64.1 (1:Int)) ∧ ((v140 = true → (tS0 s_17)) ∧ ((v140 = true → (tI4 v143 v144)) ∧ ((v151 = true → InB (4:Int) (len v131.1.2.2.2.1)) ∧ (v151 = true → (4:Int) < len v131.1.2.2.2.1))))))))))))))))))))))))))),(bif v34 then false else (bif v47 then false else m0_4)))
def sP9 :Prop:=(f10t).1
def f10 :Bool:=(f10t).2
instance :Decidable (sP9):=by
 unfold sP9 f10t
 try dsimp only
 infer_instance
def rN0:Am.Spec:=fnSpec [] vB [] (fun x=>sP9 ) (fun x=>f10 ) (fun _=>())
def oJ4:Ctx:=Cx tys [(9,vT5),(12,rK7),(13,rK8),(14,rL7),(16,rM3),(17,rM5),(20,uC7),(31,rM8),(32,rN)] [] [(51,[(4,0,131,400900),(4,0,300131,400903)])] false 160 [] []
theorem oJ5:CtxOk Tryz.prog oJ4:=xW4 tys_ok rfl ⟨rV,oP9,oQ,oS1,oS8,oS9,rK9,oT,oT0,trivial⟩ rfl (by kernel_rfl)
theorem oT1:SpecOk Tryz.prog 10 rN0:=xY3 oJ5 mixed Tryz.func10 (by kernel_rfl) (bs:=[]) (by kernel_rfl) trivial fun x=>by kernel_rfl
abbrev wU1:Type:=((List Int) × (List Int) × Int × Unit)
abbrev wJ6:Type:=(Int × Unit)
def uH9 (y:wU1) (x:wJ6):Prop × Bool × wJ6 × Bool × Bool :=
 let a0:=y.1
 let a1:=y.2.1
 let a13:=x.1
 let v14:=(decide (a13 < y.2.2.1))
 let v24:=((nth a0 a13 (0:Int)) != (nth a1 a13 (0:Int)))
 ((v14 = true → (InB a13 (len a0) ∧ (InB a13 (len a1) ∧ ((!v24) = true → InR (a13 + 1))))),(v14 && (!v24)),((a13 + 1),()),(v14 && v24),(!v14))
def uD1 (y:wU1) (x:wJ6):Prop:=(uH9 y x).1
def uD2 (y:wU1) (x:wJ6):Bool:=(uH9 y x).2.1
def wQ7 (y:wU1) (x:wJ6):wJ6:=(uH9 y x).2.2.1
def sQ (y:wU1) (x:wJ6):Bool:=(uH9 y x).2.2.2.1
def qK9 (y:wU1) (x:wJ6):Bool:=(uH9 y x).2.2.2.2
instance (y:wU1) (x:wJ6):Decidable (uD1 y x):=by
 unfold uD1 uH9
 try dsimp only
 infer_instance
def tK1 (y:wU1) (x:wJ6):Bool :=
 false
def tK2:St → Option Out:=xP4 [(0,(.val (.sl (.int .i64)))),(1,(.val (.sl (.int .i64)))),(12,vI)] [(13,vI)] uD2 wQ7 uD1 fun y x=>[ex 1 (some (sQ y x)) [(4,vB)] ((tK1 y x),()),ex 2 (some (qK9 y x)) [] ()]
def f44t (p0:(List Int)) (p1:(List Int)):Prop × Bool :=
 let v10:=((len p0) != (len p1))
 let y4:=(p0,p1,(len p0),())
 let x4:=((0:Int),())
 let e4:=(zC1 (uD2 y4) (wQ7 y4) x4)
 (((!v10) = true → (Am.Ends (uD2 y4) (wQ7 y4) (uD1 y4) x4)),(bif v10 then false else (bif (sQ y4 e4) then (tK1 y4 e4) else true)))
def tK3 (p0:(List Int)) (p1:(List Int)):Prop:=(f44t p0 p1).1
def f44 (p0:(List Int)) (p1:(List Int)):Bool:=(f44t p0 p1).2
instance (p0:(List Int)) (p1:(List Int)):Decidable (tK3 p0 p1):=by
 unfold tK3 f44t
 try dsimp only
 infer_instance
def uW1:Am.Spec:=fnSpec [(0,(.val (.sl (.int .i64)))),(1,(.val (.sl (.int .i64))))] vB [] (fun x=>tK3 x.1 x.2.1) (fun x=>f44 x.1 x.2.1) (fun _=>())
def qL:Ctx:=Cx tys [] [(4,tK2)] [] false 26 [] []
theorem qL0:CtxOk Tryz.prog qL:=xW4 tys_ok rfl trivial rfl (by kernel_rfl)
noncomputable def pE8:Code:=Tryz.f44.body.getD .skip
noncomputable def pK9:Code:=xX3 pE8 0
theorem qL1:yV Tryz.prog qL pK9:=xY2 qL0 mixed (sp:=tK2) rfl [[(4,vB)],[]] (bs:=[]) (by kernel_rfl) trivial (by kernel_rfl) (by kernel_rfl) fun y x=>by kernel_rfl
theorem qL2:SpecOk Tryz.prog 44 uW1:=xY3 qL0 mixed Tryz.func44 (by kernel_rfl) (bs:=[pK9]) (by kernel_rfl) ⟨qL1,trivial⟩ fun x=>by kernel_rfl
abbrev wU2:Type:=((List D42) × (List D42) × Int × Unit)
abbrev wJ7:Type:=(Int × Unit)
def uI (y:wU2) (x:wJ7):Prop × Bool × wJ7 × Bool × Bool :=
 let a0:=y.1
 let a1:=y.2.1
 let a13:=x.1
 let v14:=(decide (a13 < y.2.2.1))
 let v24:=(!(Ty.eqb T42 (nth a0 a13 Z42) (nth a1 a13 Z42)))
 ((v14 = true → (InB a13 (len a0) ∧ (InB a13 (len a1) ∧ ((!v24) = true → InR (a13 + 1))))),(v14 && (!v24)),((a13 + 1),()),(v14 && v24),(!v14))
def uD3 (y:wU2) (x:wJ7):Prop:=(uI y x).1
def uD4 (y:wU2) (x:wJ7):Bool:=(uI y x).2.1
def wQ8 (y:wU2) (x:wJ7):wJ7:=(uI y x).2.2.1
def sQ0 (y:wU2) (x:wJ7):Bool:=(uI y x).2.2.2.1
def qL3 (y:wU2) (x:wJ7):Bool:=(uI y x).2.2.2.2
instance (y:wU2) (x:wJ7):Decidable (uD3 y x):=by
 unfold uD3 uI
 try dsimp only
 infer_instance
def tK4 (y:wU2) (x:wJ7):Bool :=
 false
def tK5:St → Option Out:=xP4 [(0,(.val (.sl T42))),(1,(.val (.sl T42))),(12,vI)] [(13,vI)] uD4 wQ8 uD3 fun y x=>[ex 1 (some (sQ0 y x)) [(4,vB)] ((tK4 y x),()),ex 2 (some (qL3 y x)) [] ()]
def f96t (p0:(List D42)) (p1:(List D42)):Prop × Bool :=
 let v10:=((len p0) != (len p1))
 let y4:=(p0,p1,(len p0),())
 let x4:=((0:Int),())
 let e4:=(zC1 (uD4 y4) (wQ8 y4) x4)
 (((!v10) = true → (Am.Ends (uD4 y4) (wQ8 y4) (uD3 y4) x4)),(bif v10 then false else (bif (sQ0 y4 e4) then (tK4 y4 e4) else true)))
def sQ1 (p0:(List D42)) (p1:(List D42)):Prop:=(f96t p0 p1).1
def f96 (p0:(List D42)) (p1:(List D42)):Bool:=(f96t p0 p1).2
instance (p0:(List D42)) (p1:(List D42)):Decidable (sQ1 p0 p1):=by
 unfold sQ1 f96t
 try dsimp only
 infer_instance
def rN1:Am.Spec:=fnSpec [(0,(.val (.sl T42))),(1,(.val (.sl T42)))] vB [] (fun x=>sQ1 x.1 x.2.1) (fun x=>f96 x.1 x.2.1) (fun _=>())
def qL4:Ctx:=Cx tys [] [(4,tK5)] [] false 26 [] []
theorem qL5:CtxOk Tryz.prog qL4:=xW4 tys_ok rfl trivial rfl (by kernel_rfl)
noncomputable def pE9:Code:=Tryz.f96.body.getD .skip
noncomputable def pL:Code:=xX3 pE9 0
theorem qL6:yV Tryz.prog qL4 pL:=xY2 qL5 mixed (sp:=tK5) rfl [[(4,vB)],[]] (bs:=[]) (by kernel_rfl) trivial (by kernel_rfl) (by kernel_rfl) fun y x=>by kernel_rfl
theorem oT2:SpecOk Tryz.prog 96 rN1:=xY3 qL5 mixed Tryz.func96 (by kernel_rfl) (bs:=[pL]) (by kernel_rfl) ⟨qL6,trivial⟩ fun x=>by kernel_rfl
def f72t (p0:D40) (p1:D40):Prop × Bool :=
 let v16:=(bif (p0.1 == p1.1) then (p0.2.1 == p1.2.1) else false)
 ((v16 = true → (sQ1 p0.2.2.1 p1.2.2.1)),(bif v16 then (f96 p0.2.2.1 p1.2.2.1) else false))
def tT2 (p0:D40) (p1:D40):Prop:=(f72t p0 p1).1
def f72 (p0:D40) (p1:D40):Bool:=(f72t p0 p1).2
instance (p0:D40) (p1:D40):Decidable (tT2 p0 p1):=by
 unfold tT2 f72t
 try dsimp only
 infer_instance
def sE6:Am.Spec:=fnSpec [(0,(.val T40)),(1,(.val T40))] vB [] (fun x=>tT2 x.1 x.2.1) (fun x=>f72 x.1 x.2.1) (fun _=>())
def oJ6:Ctx:=Cx tys [(96,rN1)] [] [] false 24 [] []
theorem oJ7:CtxOk Tryz.prog oJ6:=xW4 tys_ok rfl ⟨oT2,trivial⟩ rfl (by kernel_rfl)
theorem pL0:SpecOk Tryz.prog 72 sE6:=xY3 oJ7 mixed Tryz.func72 (by kernel_rfl) (bs:=[]) (by kernel_rfl) trivial fun x=>by kernel_rfl
abbrev wU3:Type:=((List D122) × (List D122) × Int × Unit)
abbrev wJ8:Type:=(Int × Unit)
def uI0 (y:wU3) (x:wJ8):Prop × Bool × wJ8 × Bool × Bool :=
 let a0:=y.1
 let a1:=y.2.1
 let a13:=x.1
 let v14:=(decide (a13 < y.2.2.1))
 let v24:=(!(Ty.eqb T122 (nth a0 a13 Z122) (nth a1 a13 Z122)))
 ((v14 = true → (InB a13 (len a0) ∧ (InB a13 (len a1) ∧ ((!v24) = true → InR (a13 + 1))))),(v14 && (!v24)),((a13 + 1),()),(v14 && v24),(!v14))
def uD5 (y:wU3) (x:wJ8):Prop:=(uI0 y x).1
def uD6 (y:wU3) (x:wJ8):Bool:=(uI0 y x).2.1
def wQ9 (y:wU3) (x:wJ8):wJ8:=(uI0 y x).2.2.1
def sQ2 (y:wU3) (x:wJ8):Bool:=(uI0 y x).2.2.2.1
def qL7 (y:wU3) (x:wJ8):Bool:=(uI0 y x).2.2.2.2
instance (y:wU3) (x:wJ8):Decidable (uD5 y x):=by
 unfold uD5 uI0
 try dsimp only
 infer_instance
def tK6 (y:wU3) (x:wJ8):Bool :=
 false
def tK7:St → Option Out:=xP4 [(0,(.val (.sl T122))),(1,(.val (.sl T122))),(12,vI)] [(13,vI)] uD6 wQ9 uD5 fun y x=>[ex 1 (some (sQ2 y x)) [(4,vB)] ((tK6 y x),()),ex 2 (some (qL7 y x)) [] ()]
def f93t (p0:(List D122)) (p1:(List D122)):Prop × Bool :=
 let v10:=((len p0) != (len p1))
 let y4:=(p0,p1,(len p0),())
 let x4:=((0:Int),())
 let e4:=(zC1 (uD6 y4) (wQ9 y4) x4)
 (((!v10) = true → (Am.Ends (uD6 y4) (wQ9 y4) (uD5 y4) x4)),(bif v10 then false else (bif (sQ2 y4 e4) then (tK6 y4 e4) else true)))
def sQ3 (p0:(List D122)) (p1:(List D122)):Prop:=(f93t p0 p1).1
def f93 (p0:(List D122)) (p1:(List D122)):Bool:=(f93t p0 p1).2
instance (p0:(List D122)) (p1:(List D122)):Decidable (sQ3 p0 p1):=by
 unfold sQ3 f93t
 try dsimp only
 infer_instance
def rN2:Am.Spec:=fnSpec [(0,(.val (.sl T122))),(1,(.val (.sl T122)))] vB [] (fun x=>sQ3 x.1 x.2.1) (fun x=>f93 x.1 x.2.1) (fun _=>())
def qL8:Ctx:=Cx tys [] [(4,tK7)] [] false 26 [] []
theorem qL9:CtxOk Tryz.prog qL8:=xW4 tys_ok rfl trivial rfl (by kernel_rfl)
noncomputable def pF:Code:=Tryz.f93.body.getD .skip
noncomputable def pL1:Code:=xX3 pF 0
theorem qM:yV Tryz.prog qL8 pL1:=xY2 qL9 mixed (sp:=tK7) rfl [[(4,vB)],[]] (bs:=[]) (by kernel_rfl) trivial (by kernel_rfl) (by kernel_rfl) fun y x=>by kernel_rfl
theorem oT3:SpecOk Tryz.prog 93 rN2:=xY3 qL9 mixed Tryz.func93 (by kernel_rfl) (bs:=[pL1]) (by kernel_rfl) ⟨qM,trivial⟩ fun x=>by kernel_rfl
abbrev wU4:Type:=((List D128) × (List D128) × Int × Unit)
abbrev wJ9:Type:=(Int × Unit)
def uI1 (y:wU4) (x:wJ9):Prop × Bool × wJ9 × Bool × Bool :=
 let a0:=y.1
 let a1:=y.2.1
 let a13:=x.1
 let v14:=(decide (a13 < y.2.2.1))
 let v24:=(!(Ty.eqb T128 (nth a0 a13 Z128) (nth a1 a13 Z128)))
 ((v14 = true → (InB a13 (len a0) ∧ (InB a13 (len a1) ∧ ((!v24) = true → InR (a13 + 1))))),(v14 && (!v24)),((a13 + 1),()),(v14 && v24),(!v14))
def uD7 (y:wU4) (x:wJ9):Prop:=(uI1 y x).1
def uD8 (y:wU4) (x:wJ9):Bool:=(uI1 y x).2.1
def wR (y:wU4) (x:wJ9):wJ9:=(uI1 y x).2.2.1
def sQ4 (y:wU4) (x:wJ9):Bool:=(uI1 y x).2.2.2.1
def qM0 (y:wU4) (x:wJ9):Bool:=(uI1 y x).2.2.2.2
instance (y:wU4) (x:wJ9):Decidable (uD7 y x):=by
 unfold uD7 uI1
 try dsimp only
 infer_instance
def tK8 (y:wU4) (x:wJ9):Bool :=
 false
def tK9:St → Option Out:=xP4 [(0,(.val (.sl T128))),(1,(.val (.sl T128))),(12,vI)] [(13,vI)] uD8 wR uD7 fun y x=>[ex 1 (some (sQ4 y x)) [(4,vB)] ((tK8 y x),()),ex 2 (some (qM0 y x)) [] ()]
def f94t (p0:(List D128)) (p1:(List D128)):Prop × Bool :=
 let v10:=((len p0) != (len p1))
 let y4:=(p0,p1,(len p0),())
 let x4:=((0:Int),())
 let e4:=(zC1 (uD8 y4) (wR y4) x4)
 (((!v10) = true → (Am.Ends (uD8 y4) (wR y4) (uD7 y4) x4)),(bif v10 then false else (bif (sQ4 y4 e4) then (tK8 y4 e4) else true)))
def sQ5 (p0:(List D128)) (p1:(List D128)):Prop:=(f94t p0 p1).1
def f94 (p0:(List D128)) (p1:(List D128)):Bool:=(f94t p0 p1).2
instance (p0:(List D128)) (p1:(List D128)):Decidable (sQ5 p0 p1):=by
 unfold sQ5 f94t
 try dsimp only
 infer_instance
def rN3:Am.Spec:=fnSpec [(0,(.val (.sl T128))),(1,(.val (.sl T128)))] vB [] (fun x=>sQ5 x.1 x.2.1) (fun x=>f94 x.1 x.2.1) (fun _=>())
def qM1:Ctx:=Cx tys [] [(4,tK9)] [] false 26 [] []
theorem qM2:CtxOk Tryz.prog qM1:=xW4 tys_ok rfl trivial rfl (by kernel_rfl)
noncomputable def pF0:Code:=Tryz.f94.body.getD .skip
noncomputable def pL2:Code:=xX3 pF0 0
theorem qM3:yV Tryz.prog qM1 pL2:=xY2 qM2 mixed (sp:=tK9) rfl [[(4,vB)],[]] (bs:=[]) (by kernel_rfl) trivial (by kernel_rfl) (by kernel_rfl) fun y x=>by kernel_rfl
theorem oT4:SpecOk Tryz.prog 94 rN3:=xY3 qM2 mixed Tryz.func94 (by kernel_rfl) (bs:=[pL2]) (by kernel_rfl) ⟨qM3,trivial⟩ fun x=>by kernel_rfl
abbrev wU5:Type:=((List D125) × (List D125) × Int × Unit)
abbrev wK:Type:=(Int × Unit)
def uI2 (y:wU5) (x:wK):Prop × Bool × wK × Bool × Bool :=
 let a0:=y.1
 let a1:=y.2.1
 let a13:=x.1
 let v14:=(decide (a13 < y.2.2.1))
 let v24:=(!(Ty.eqb T125 (nth a0 a13 Z125) (nth a1 a13 Z125)))
 ((v14 = true → (InB a13 (len a0) ∧ (InB a13 (len a1) ∧ ((!v24) = true → InR (a13 + 1))))),(v14 && (!v24)),((a13 + 1),()),(v14 && v24),(!v14))
def uD9 (y:wU5) (x:wK):Prop:=(uI2 y x).1
def uE (y:wU5) (x:wK):Bool:=(uI2 y x).2.1
def wR0 (y:wU5) (x:wK):wK:=(uI2 y x).2.2.1
def sQ6 (y:wU5) (x:wK):Bool:=(uI2 y x).2.2.2.1
def qM4 (y:wU5) (x:wK):Bool:=(uI2 y x).2.2.2.2
instance (y:wU5) (x:wK):Decidable (uD9 y x):=by
 unfold uD9 uI2
 try dsimp only
 infer_instance
def tL (y:wU5) (x:wK):Bool :=
 false
def tL0:St → Option Out:=xP4 [(0,(.val (.sl T125))),(1,(.val (.sl T125))),(12,vI)] [(13,vI)] uE wR0 uD9 fun y x=>[ex 1 (some (sQ6 y x)) [(4,vB)] ((tL y x),()),ex 2 (some (qM4 y x)) [] ()]
def f95t (p0:(List D125)) (p1:(List D125)):Prop × Bool :=
 let v10:=((len p0) != (len p1))
 let y4:=(p0,p1,(len p0),())
 let x4:=((0:Int),())
 let e4:=(zC1 (uE y4) (wR0 y4) x4)
 (((!v10) = true → (Am.Ends (uE y4) (wR0 y4) (uD9 y4) x4)),(bif v10 then false else (bif (sQ6 y4 e4) then (tL y4 e4) else true)))
def sQ7 (p0:(List D125)) (p1:(List D125)):Prop:=(f95t p0 p1).1
def f95 (p0:(List D125)) (p1:(List D125)):Bool:=(f95t p0 p1).2
instance (p0:(List D125)) (p1:(List D125)):Decidable (sQ7 p0 p1):=by
 unfold sQ7 f95t
 try dsimp only
 infer_instance
def rN4:Am.Spec:=fnSpec [(0,(.val (.sl T125))),(1,(.val (.sl T125)))] vB [] (fun x=>sQ7 x.1 x.2.1) (fun x=>f95 x.1 x.2.1) (fun _=>())
def qM5:Ctx:=Cx tys [] [(4,tL0)] [] false 26 [] []
theorem qM6:CtxOk Tryz.prog qM5:=xW4 tys_ok rfl trivial rfl (by kernel_rfl)
noncomputable def pF1:Code:=Tryz.f95.body.getD .skip
noncomputable def pL3:Code:=xX3 pF1 0
theorem qM7:yV Tryz.prog qM5 pL3:=xY2 qM6 mixed (sp:=tL0) rfl [[(4,vB)],[]] (bs:=[]) (by kernel_rfl) trivial (by kernel_rfl) (by kernel_rfl) fun y x=>by kernel_rfl
theorem oT5:SpecOk Tryz.prog 95 rN4:=xY3 qM6 mixed Tryz.func95 (by kernel_rfl) (bs:=[pL3]) (by kernel_rfl) ⟨qM7,trivial⟩ fun x=>by kernel_rfl
def f71t (p0:D49) (p1:D49):Prop × Bool :=
 let v17:=(bif (!(f72 p0.2.2.2.2.2.2.2.2.2.2.2.2.1 p1.2.2.2.2.2.2.2.2.2.2.2.2.1)) then true else (!(Ty.eqb T42 p0.2.2.2.2.2.2.2.2.2.2.2.2.2.1 p1.2.2.2.2.2.2.2.2.2.2.2.2.2.1)))
 let v29:=(bif (p0.2.2.2.2.2.2.2.2.2.2.2.2.2.2.1 != p1.2.2.2.2.2.2.2.2.2.2.2.2.2.2.1) then true else (p0.2.2.2.2.2.2.2.2.2.2.2.2.2.2.2.2.1 != p1.2.2.2.2.2.2.2.2.2.2.2.2.2.2.2.2.1))
 let v35:=(!(f44 p0.2.2.2.2.2.2.2.2.2.2.2.2.2.2.2.1 p1.2.2.2.2.2.2.2.2.2.2.2.2.2.2.2.1))
 let v43:=(bif v35 then true else (!(f93 p0.2.2.2.2.2.2.2.2.2.2.2.2.2.2.2.2.2.1 p1.2.2.2.2.2.2.2.2.2.2.2.2.2.2.2.2.2.1)))
 let v51:=(bif v43 then true else (!(f94 p0.2.2.2.2.2.2.2.2.2.2.2.2.2.2.2.2.2.2.1 p1.2.2.2.2.2.2.2.2.2.2.2.2.2.2.2.2.2.2.1)))
 let v63:=(bif (p0.2.2.2.2.2.2.2.2.2.2.2.2.2.2.2.2.2.2.2.1 != p1.2.2.2.2.2.2.2.2.2.2.2.2.2.2.2.2.2.2.2.1) then true else (p0.2.2.2.2.2.2.2.2.2.2.2.2.2.2.2.2.2.2.2.2.1 != p1.2.2.2.2.2.2.2.2.2.2.2.2.2.2.2.2.2.2.2.2.1))
 let v77:=(bif (bif v63 then true else (p0.2.2.2.2.2.2.2.2.2.2.2.2.2.2.2.2.2.2.2.2.2.1 != p1.2.2.2.2.2.2.2.2.2.2.2.2.2.2.2.2.2.2.2.2.2.1)) then true else (p0.2.2.2.2.2.2.2.2.2.2.2.2.2.2.2.2.2.2.2.2.2.2.1 != p1.2.2.2.2.2.2.2.2.2.2.2.2.2.2.2.2.2.2.2.2.2.2.1))
 let v89:=(bif (!(p0.2.2.2.2.2.2.2.2.2.2.2.2.2.2.2.2.2.2.2.2.2.2.2.1 == p1.2.2.2.2.2.2.2.2.2.2.2.2.2.2.2.2.2.2.2.2.2.2.2.1)) then true else (p0.2.2.2.2.2.2.2.2.2.2.2.2.2.2.2.2.2.2.2.2.2.2.2.2.1 != p1.2.2.2.2.2.2.2.2.2.2.2.2.2.2.2.2.2.2.2.2.2.2.2.2.1))
 let v103:=(bif (bif v89 then true else (p0.2.2.2.2.2.2.2.2.2.2.2.2.2.2.2.2.2.2.2.2.2.2.2.2.2.1 != p1.2.2.2.2.2.2.2.2.2.2.2.2.2.2.2.2.2.2.2.2.2.2.2.2.2.1)) then true else (p0.2.2.2.2.2.2.2.2.2.2.2.2.2.2.2.2.2.2.2.2.2.2.2.2.2.2.1 != p1.2.2.2.2.2.2.2.2.2.2.2.2.2.2.2.2.2.2.2.2.2.2.2.2.2.2.1))
 let v119:=(bif (p0.2.2.2.2.2.2.2.2.2.2.2.2.2.2.2.2.2.2.2.2.2.2.2.2.2.2.2.1.1 != p1.2.2.2.2.2.2.2.2.2.2.2.2.2.2.2.2.2.2.2.2.2.2.2.2.2.2.2.1.1) then true else (p0.2.2.2.2.2.2.2.2.2.2.2.2.2.2.2.2.2.2.2.2.2.2.2.2.2.2.2.1.2.1 != p1.2.2.2.2.2.2.2.2.2.2.2.2.2.2.2.2.2.2.2.2.2.2.2.2.2.2.2.1.2.1))
 let v128:=(bif v119 then true else (p0.2.2.2.2.2.2.2.2.2.2.2.2.2.2.2.2.2.2.2.2.2.2.2.2.2.2.2.1.2.2.1 != p1.2.2.2.2.2.2.2.2.2.2.2.2.2.2.2.2.2.2.2.2.2.2.2.2.2.2.2.1.2.2.1))
 let m4_2:=(bif v77 then false else (bif v103 then false else (bif v128 then false else (f95 p0.2.2.2.2.2.2.2.2.2.2.2.2.2.2.2.2.2.2.2.2.2.2.2.2.2.2.2.1.2.2.2.1 p1.2.2.2.2.2.2.2.2.2.2.2.2.2.2.2.2.2.2.2.2.2.2.2.2.2.2.2.1.2.2.2.1))))
 (((tT2 p0.2.2.2.2.2.2.2.2.2.2.2.2.1 p1.2.2.2.2.2.2.2.2.2.2.2.2.1) ∧ ((!v17) = true → ((!v29) = true → ((tK3 p0.2.2.2.2.2.2.2.2.2.2.2.2.2.2.2.1 p1.2.2.2.2.2.2.2.2.2.2.2.2.2.2.2.1) ∧ (((!v35) = true → (sQ3 p0.2.2.2.2.2.2.2.2.2.2.2.2.2.2.2.2.2.1 p1.2.2.2.2.2.2.2.2.2.2.2.2.2.2.2.2.2.1)) ∧ (((!v43) = true → (sQ5 p0.2.2.2.2.2.2.2.2.2.2.2.2.2.2.2.2.2.2.1 p1.2.2.2.2.2.2.2.2.2.2.2.2.2.2.2.2.2.2.1)) ∧ ((!v51) = true → ((!v77) = true → ((!v103) = true → ((!v128) = true → (sQ7 p0.2.2.2.2.2.2.2.2.2.2.2.2.2.2.2.2.2.2.2.2.2.2.2.2.2.2.2.1.2.2.2.1 p1.2.2.2.2.2.2.2.2.2.2.2.2.2.2.2.2.2.2.2.2.2.2.2.2.2.2.2.1.2.2.2.1))))))))))),(bif v17 then false else (bif v29 then false else (bif v51 then false else m4_2))))
def sQ8 (p0:D49) (p1:D49):Prop:=(f71t p0 p1).1
def f71 (p0:D49) (p1:D49):Bool:=(f71t p0 p1).2
instance (p0:D49) (p1:D49):Decidable (sQ8 p0 p1):=by
 unfold sQ8 f71t
 try dsimp only
 infer_instance
def rN5:Am.Spec:=fnSpec [(0,(.val T49)),(1,(.val T49))] vB [] (fun x=>sQ8 x.1 x.2.1) (fun x=>f71 x.1 x.2.1) (fun _=>())
def oJ8:Ctx:=Cx tys [(44,uW1),(72,sE6),(93,rN2),(94,rN3),(95,rN4)] [] [] false 136 [] []
theorem oJ9:CtxOk Tryz.prog oJ8:=xW4 tys_ok rfl ⟨qL2,pL0,oT3,oT4,oT5,trivial⟩ rfl (by kernel_rfl)
theorem oT6:SpecOk Tryz.prog 71 rN5:=xY3 oJ9 mixed Tryz.func71 (by kernel_rfl) (bs:=[]) (by kernel_rfl) trivial fun x=>by kernel_rfl
def f43t (p0:D49) (p1:D49):Prop × Bool :=
 let v30:=(bif (bif (bif (p0.1 != p1.1) then true else (p0.2.1 != p1.2.1)) then true else (p0.2.2.1 != p1.2.2.1)) then true else (!(p0.2.2.2.1 == p1.2.2.2.1)))
 let v49:=(bif (bif (!(Ty.eqb .bool p0.2.2.2.2.1 p1.2.2.2.2.1)) then true else (!(Ty.eqb .bool p0.2.2.2.2.2.1 p1.2.2.2.2.2.1))) then true else (!(Ty.eqb .bool p0.2.2.2.2.2.2.1 p1.2.2.2.2.2.2.1)))
 let v75:=(bif (bif (bif (p0.2.2.2.2.2.2.2.1 != p1.2.2.2.2.2.2.2.1) then true else (p0.2.2.2.2.2.2.2.2.1 != p1.2.2.2.2.2.2.2.2.1)) then true else (!(Ty.eqb T37 p0.2.2.2.2.2.2.2.2.2.2.1 p1.2.2.2.2.2.2.2.2.2.2.1))) then true else (p0.2.2.2.2.2.2.2.2.2.2.2.1 != p1.2.2.2.2.2.2.2.2.2.2.2.1))
 let v91:=(bif (p0.2.2.2.2.2.2.2.2.2.1.1 != p1.2.2.2.2.2.2.2.2.2.1.1) then true else (p0.2.2.2.2.2.2.2.2.2.1.2.1 != p1.2.2.2.2.2.2.2.2.2.1.2.1))
 let v101:=(bif v91 then true else (!(f44 p0.2.2.2.2.2.2.2.2.2.1.2.2.1 p1.2.2.2.2.2.2.2.2.2.1.2.2.1)))
 (((!v30) = true → ((!v49) = true → ((!v75) = true → (((!v91) = true → (tK3 p0.2.2.2.2.2.2.2.2.2.1.2.2.1 p1.2.2.2.2.2.2.2.2.2.1.2.2.1)) ∧ ((!v101) = true → (sQ8 p0 p1)))))),(bif v30 then false else (bif v49 then false else (bif v75 then false else (bif v101 then false else (f71 p0 p1))))))
def tT3 (p0:D49) (p1:D49):Prop:=(f43t p0 p1).1
def f43 (p0:D49) (p1:D49):Bool:=(f43t p0 p1).2
instance (p0:D49) (p1:D49):Decidable (tT3 p0 p1):=by
 unfold tT3 f43t
 try dsimp only
 infer_instance
def rN6:Am.Spec:=fnSpec [(0,(.val T49)),(1,(.val T49))] vB [] (fun x=>tT3 x.1 x.2.1) (fun x=>f43 x.1 x.2.1) (fun _=>())
def oK:Ctx:=Cx tys [(44,uW1),(71,rN5)] [] [] false 105 [] []
theorem oK0:CtxOk Tryz.prog oK:=xW4 tys_ok rfl ⟨qL2,oT6,trivial⟩ rfl (by kernel_rfl)
theorem oT7:SpecOk Tryz.prog 43 rN6:=xY3 oK0 mixed Tryz.func43 (by kernel_rfl) (bs:=[]) (by kernel_rfl) trivial fun x=>by kernel_rfl
abbrev wU6:Type:=((List D87) × (List D87) × Int × Unit)
abbrev wK0:Type:=(Int × Unit)
def uI3 (y:wU6) (x:wK0):Prop × Bool × wK0 × Bool × Bool :=
 let a0:=y.1
 let a1:=y.2.1
 let a13:=x.1
 let v14:=(decide (a13 < y.2.2.1))
 let v24:=(!(Ty.eqb T87 (nth a0 a13 Z87) (nth a1 a13 Z87)))
 ((v14 = true → (InB a13 (len a0) ∧ (InB a13 (len a1) ∧ ((!v24) = true → InR (a13 + 1))))),(v14 && (!v24)),((a13 + 1),()),(v14 && v24),(!v14))
def uE0 (y:wU6) (x:wK0):Prop:=(uI3 y x).1
def uE1 (y:wU6) (x:wK0):Bool:=(uI3 y x).2.1
def wR1 (y:wU6) (x:wK0):wK0:=(uI3 y x).2.2.1
def sQ9 (y:wU6) (x:wK0):Bool:=(uI3 y x).2.2.2.1
def qM8 (y:wU6) (x:wK0):Bool:=(uI3 y x).2.2.2.2
instance (y:wU6) (x:wK0):Decidable (uE0 y x):=by
 unfold uE0 uI3
 try dsimp only
 infer_instance
def tL1 (y:wU6) (x:wK0):Bool :=
 false
def tL2:St → Option Out:=xP4 [(0,(.val (.sl T87))),(1,(.val (.sl T87))),(12,vI)] [(13,vI)] uE1 wR1 uE0 fun y x=>[ex 1 (some (sQ9 y x)) [(4,vB)] ((tL1 y x),()),ex 2 (some (qM8 y x)) [] ()]
def f45t (p0:(List D87)) (p1:(List D87)):Prop × Bool :=
 let v10:=((len p0) != (len p1))
 let y4:=(p0,p1,(len p0),())
 let x4:=((0:Int),())
 let e4:=(zC1 (uE1 y4) (wR1 y4) x4)
 (((!v10) = true → (Am.Ends (uE1 y4) (wR1 y4) (uE0 y4) x4)),(bif v10 then false else (bif (sQ9 y4 e4) then (tL1 y4 e4) else true)))
def sR (p0:(List D87)) (p1:(List D87)):Prop:=(f45t p0 p1).1
def f45 (p0:(List D87)) (p1:(List D87)):Bool:=(f45t p0 p1).2
instance (p0:(List D87)) (p1:(List D87)):Decidable (sR p0 p1):=by
 unfold sR f45t
 try dsimp only
 infer_instance
def rN7:Am.Spec:=fnSpec [(0,(.val (.sl T87))),(1,(.val (.sl T87)))] vB [] (fun x=>sR x.1 x.2.1) (fun x=>f45 x.1 x.2.1) (fun _=>())
def qM9:Ctx:=Cx tys [] [(4,tL2)] [] false 26 [] []
theorem qN:CtxOk Tryz.prog qM9:=xW4 tys_ok rfl trivial rfl (by kernel_rfl)
noncomputable def pF2:Code:=Tryz.f45.body.getD .skip
noncomputable def pL4:Code:=xX3 pF2 0
theorem qN0:yV Tryz.prog qM9 pL4:=xY2 qN mixed (sp:=tL2) rfl [[(4,vB)],[]] (bs:=[]) (by kernel_rfl) trivial (by kernel_rfl) (by kernel_rfl) fun y x=>by kernel_rfl
theorem oT8:SpecOk Tryz.prog 45 rN7:=xY3 qN mixed Tryz.func45 (by kernel_rfl) (bs:=[pL4]) (by kernel_rfl) ⟨qN0,trivial⟩ fun x=>by kernel_rfl
def f47t (p0:D90) (p1:D90):Prop × Bool :=
 let v30:=(bif (bif (bif (p0.1 != p1.1) then true else (!(p0.2.1 == p1.2.1))) then true else (p0.2.2.1 != p1.2.2.1)) then true else (p0.2.2.2.1 != p1.2.2.2.1))
 (((!v30) = true → (tT2 p0.2.2.2.2.1 p1.2.2.2.2.1)),(bif v30 then false else (f72 p0.2.2.2.2.1 p1.2.2.2.2.1)))
def sR0 (p0:D90) (p1:D90):Prop:=(f47t p0 p1).1
def f47 (p0:D90) (p1:D90):Bool:=(f47t p0 p1).2
instance (p0:D90) (p1:D90):Decidable (sR0 p0 p1):=by
 unfold sR0 f47t
 try dsimp only
 infer_instance
def rN8:Am.Spec:=fnSpec [(0,(.val T90)),(1,(.val T90))] vB [] (fun x=>sR0 x.1 x.2.1) (fun x=>f47 x.1 x.2.1) (fun _=>())
def oK1:Ctx:=Cx tys [(72,sE6)] [] [] false 36 [] []
theorem oK2:CtxOk Tryz.prog oK1:=xW4 tys_ok rfl ⟨pL0,trivial⟩ rfl (by kernel_rfl)
theorem oT9:SpecOk Tryz.prog 47 rN8:=xY3 oK2 mixed Tryz.func47 (by kernel_rfl) (bs:=[]) (by kernel_rfl) trivial fun x=>by kernel_rfl
abbrev wD0:Type:=((List D49) × (Unit) × (List D49) × Int × Unit)
abbrev wA3:Type:=(Int × Unit)
def wQ0 (y:wD0) (x:wA3):Prop × Bool × wA3 × Bool × Bool :=
 let a1:=y.1
 let a15:=y.2.2.1
 let a17:=x.1
 let v18:=(decide (a17 < y.2.2.2.1))
 let v20:=(nth a15 a17 Z49)
 let v24:=(nth a1 a17 Z49)
 let v30:=(!(f43 v20 v24))
 ((v18 = true → (InB a17 (len a15) ∧ (InB a17 (len a1) ∧ ((tT3 v20 v24) ∧ ((!v30) = true → InR (a17 + 1)))))),(v18 && (!v30)),((a17 + 1),()),(v18 && v30),(!v18))
def wU7 (y:wD0) (x:wA3):Prop:=(wQ0 y x).1
def wR2 (y:wD0) (x:wA3):Bool:=(wQ0 y x).2.1
def wF4 (y:wD0) (x:wA3):wA3:=(wQ0 y x).2.2.1
def uS (y:wD0) (x:wA3):Bool:=(wQ0 y x).2.2.2.1
def sR1 (y:wD0) (x:wA3):Bool:=(wQ0 y x).2.2.2.2
instance (y:wD0) (x:wA3):Decidable (wU7 y x):=by
 unfold wU7 wQ0
 try dsimp only
 infer_instance
def vQ5 (y:wD0) (x:wA3):Bool :=
 false
def vQ6:St → Option Out:=xP4 [(1,(.val (.sl T49))),(2,(.fn 43 .nl)),(15,(.val (.sl T49))),(16,vI)] [(17,vI)] wR2 wF4 wU7 fun y x=>[ex 1 (some (uS y x)) [(6,vB)] ((vQ5 y x),()),ex 2 (some (sR1 y x)) [] ()]
def rB4 (p0:(List D49)) (p1:(List D49)) (p2:(Unit)):Prop × Bool :=
 let v14:=((len p0) != (len p1))
 let y4:=(p1,(),p0,(len p0),())
 let x4:=((0:Int),())
 let e4:=(zC1 (wR2 y4) (wF4 y4) x4)
 (((!v14) = true → (Am.Ends (wR2 y4) (wF4 y4) (wU7 y4) x4)),(bif v14 then false else (bif (uS y4 e4) then (vQ5 y4 e4) else true)))
def vH0 (p0:(List D49)) (p1:(List D49)) (p2:(Unit)):Prop:=(rB4 p0 p1 p2).1
def rN9 (p0:(List D49)) (p1:(List D49)) (p2:(Unit)):Bool:=(rB4 p0 p1 p2).2
instance (p0:(List D49)) (p1:(List D49)) (p2:(Unit)):Decidable (vH0 p0 p1 p2):=by
 unfold vH0 rB4
 try dsimp only
 infer_instance
def tL3:Am.Spec:=fnSpec [(0,(.val (.sl T49))),(1,(.val (.sl T49))),(2,(.fn 43 .nl))] vB [] (fun x=>vH0 x.1 x.2.1 x.2.2.1) (fun x=>rN9 x.1 x.2.1 x.2.2.1) (fun _=>())
def tT4:Ctx:=Cx tys [(43,rN6)] [(4,vQ6)] [] false 32 [] []
theorem tT5:CtxOk Tryz.prog tT4:=xW4 tys_ok rfl ⟨oT7,trivial⟩ rfl (by kernel_rfl)
noncomputable def rB5:Code:=Tryz.f42.body.getD .skip
noncomputable def sR2:Code:=xX3 rB5 0
theorem sR3:yV Tryz.prog tT4 sR2:=xY2 tT5 mixed (sp:=vQ6) rfl [[(6,vB)],[]] (bs:=[]) (by kernel_rfl) trivial (by kernel_rfl) (by kernel_rfl) fun y x=>by kernel_rfl
theorem qN1:SpecOk Tryz.prog 42 tL3:=xY3 tT5 mixed Tryz.func42 (by kernel_rfl) (bs:=[sR2]) (by kernel_rfl) ⟨sR3,trivial⟩ fun x=>by kernel_rfl
abbrev wD1:Type:=((List D90) × (Unit) × (List D90) × Int × Unit)
abbrev wA4:Type:=(Int × Unit)
def wQ1 (y:wD1) (x:wA4):Prop × Bool × wA4 × Bool × Bool :=
 let a1:=y.1
 let a15:=y.2.2.1
 let a17:=x.1
 let v18:=(decide (a17 < y.2.2.2.1))
 let v20:=(nth a15 a17 Z90)
 let v24:=(nth a1 a17 Z90)
 let v30:=(!(f47 v20 v24))
 ((v18 = true → (InB a17 (len a15) ∧ (InB a17 (len a1) ∧ ((sR0 v20 v24) ∧ ((!v30) = true → InR (a17 + 1)))))),(v18 && (!v30)),((a17 + 1),()),(v18 && v30),(!v18))
def wU8 (y:wD1) (x:wA4):Prop:=(wQ1 y x).1
def wR3 (y:wD1) (x:wA4):Bool:=(wQ1 y x).2.1
def wF5 (y:wD1) (x:wA4):wA4:=(wQ1 y x).2.2.1
def uS0 (y:wD1) (x:wA4):Bool:=(wQ1 y x).2.2.2.1
def sR4 (y:wD1) (x:wA4):Bool:=(wQ1 y x).2.2.2.2
instance (y:wD1) (x:wA4):Decidable (wU8 y x):=by
 unfold wU8 wQ1
 try dsimp only
 infer_instance
def vQ7 (y:wD1) (x:wA4):Bool :=
 false
def vQ8:St → Option Out:=xP4 [(1,(.val (.sl T90))),(2,(.fn 47 .nl)),(15,(.val (.sl T90))),(16,vI)] [(17,vI)] wR3 wF5 wU8 fun y x=>[ex 1 (some (uS0 y x)) [(6,vB)] ((vQ7 y x),()),ex 2 (some (sR4 y x)) [] ()]
def rB6 (p0:(List D90)) (p1:(List D90)) (p2:(Unit)):Prop × Bool :=
 let v14:=((len p0) != (len p1))
 let y4:=(p1,(),p0,(len p0),())
 let x4:=((0:Int),())
 let e4:=(zC1 (wR3 y4) (wF5 y4) x4)
 (((!v14) = true → (Am.Ends (wR3 y4) (wF5 y4) (wU8 y4) x4)),(bif v14 then false else (bif (uS0 y4 e4) then (vQ7 y4 e4) else true)))
def vH1 (p0:(List D90)) (p1:(List D90)) (p2:(Unit)):Prop:=(rB6 p0 p1 p2).1
def rO (p0:(List D90)) (p1:(List D90)) (p2:(Unit)):Bool:=(rB6 p0 p1 p2).2
instance (p0:(List D90)) (p1:(List D90)) (p2:(Unit)):Decidable (vH1 p0 p1 p2):=by
 unfold vH1 rB6
 try dsimp only
 infer_instance
def tL4:Am.Spec:=fnSpec [(0,(.val (.sl T90))),(1,(.val (.sl T90))),(2,(.fn 47 .nl))] vB [] (fun x=>vH1 x.1 x.2.1 x.2.2.1) (fun x=>rO x.1 x.2.1 x.2.2.1) (fun _=>())
def tT6:Ctx:=Cx tys [(47,rN8)] [(4,vQ8)] [] false 32 [] []
theorem tT7:CtxOk Tryz.prog tT6:=xW4 tys_ok rfl ⟨oT9,trivial⟩ rfl (by kernel_rfl)
noncomputable def rB7:Code:=Tryz.f46.body.getD .skip
noncomputable def sR5:Code:=xX3 rB7 0
theorem sR6:yV Tryz.prog tT6 sR5:=xY2 tT7 mixed (sp:=vQ8) rfl [[(6,vB)],[]] (bs:=[]) (by kernel_rfl) trivial (by kernel_rfl) (by kernel_rfl) fun y x=>by kernel_rfl
theorem qN2:SpecOk Tryz.prog 46 tL4:=xY3 tT7 mixed Tryz.func46 (by kernel_rfl) (bs:=[sR5]) (by kernel_rfl) ⟨sR6,trivial⟩ fun x=>by kernel_rfl
def f18t (p0:D28) (p1:D28):Prop × Bool :=
 let v30:=(bif (bif (bif (p0.1 != p1.1) then true else (p0.2.1 != p1.2.1)) then true else (p0.2.2.1 != p1.2.2.1)) then true else (p0.2.2.2.2.1 != p1.2.2.2.2.1))
 let v36:=(!(rN9 p0.2.2.2.1 p1.2.2.2.1 ()))
 let v52:=(bif (p0.2.2.2.2.2.1.1 != p1.2.2.2.2.2.1.1) then true else (p0.2.2.2.2.2.1.2.1 != p1.2.2.2.2.2.1.2.1))
 let v62:=(bif v52 then true else (!(f44 p0.2.2.2.2.2.1.2.2.1 p1.2.2.2.2.2.1.2.2.1)))
 let v67:=(f45 p0.2.2.2.2.2.2.1 p1.2.2.2.2.2.2.1)
 (((!v30) = true → ((vH0 p0.2.2.2.1 p1.2.2.2.1 ()) ∧ ((!v36) = true → (((!v52) = true → (tK3 p0.2.2.2.2.2.1.2.2.1 p1.2.2.2.2.2.1.2.2.1)) ∧ ((!v62) = true → ((sR p0.2.2.2.2.2.2.1 p1.2.2.2.2.2.2.1) ∧ (v67 = true → (vH1 p0.2.2.2.2.2.2.2.1 p1.2.2.2.2.2.2.2.1 ())))))))),(bif v30 then false else (bif v36 then false else (bif v62 then false else (bif v67 then (rO p0.2.2.2.2.2.2.2.1 p1.2.2.2.2.2.2.2.1 ()) else false)))))
def tT8 (p0:D28) (p1:D28):Prop:=(f18t p0 p1).1
def f18 (p0:D28) (p1:D28):Bool:=(f18t p0 p1).2
instance (p0:D28) (p1:D28):Decidable (tT8 p0 p1):=by
 unfold tT8 f18t
 try dsimp only
 infer_instance
def rO0:Am.Spec:=fnSpec [(0,(.val T28)),(1,(.val T28))] vB [] (fun x=>tT8 x.1 x.2.1) (fun x=>f18 x.1 x.2.1) (fun _=>())
def oK3:Ctx:=Cx tys [(42,tL3),(44,uW1),(45,rN7),(46,tL4)] [] [] false 75 [] []
theorem oK4:CtxOk Tryz.prog oK3:=xW4 tys_ok rfl ⟨qN1,qL2,oT8,qN2,trivial⟩ rfl (by kernel_rfl)
theorem oU:SpecOk Tryz.prog 18 rO0:=xY3 oK4 mixed Tryz.func18 (by kernel_rfl) (bs:=[]) (by kernel_rfl) trivial fun x=>by kernel_rfl
abbrev wU9:Type:=(D24 × D24 × Int × Unit)
abbrev wK1:Type:=(Int × Unit)
def uI4 (y:wU9) (x:wK1):Prop × Bool × wK1 × Bool × Bool :=
 let a2:=y.1
 let a3:=y.2.1
 let a30:=x.1
 let v31:=(decide (a30 < y.2.2.1))
 let v43:=((nth a2.2.2.1 a30 (0:Int)) != (nth a3.2.2.1 a30 (0:Int)))
 ((v31 = true → (InB a30 (len a2.2.2.1) ∧ (InB a30 (len a3.2.2.1) ∧ ((!v43) = true → InR (a30 + 1))))),(v31 && (!v43)),((a30 + 1),()),(v31 && v43),(!v31))
def uE2 (y:wU9) (x:wK1):Prop:=(uI4 y x).1
def wP (y:wU9) (x:wK1):Bool:=(uI4 y x).2.1
def wB0 (y:wU9) (x:wK1):wK1:=(uI4 y x).2.2.1
def uE3 (y:wU9) (x:wK1):Bool:=(uI4 y x).2.2.2.1
def qN3 (y:wU9) (x:wK1):Bool:=(uI4 y x).2.2.2.2
instance (y:wU9) (x:wK1):Decidable (uE2 y x):=by
 unfold uE2 uI4
 try dsimp only
 infer_instance
def tL5 (y:wU9) (x:wK1):Bool :=
 false
def tL6:St → Option Out:=xP4 [(2,(.box T24 (.val T24))),(3,(.box T24 (.val T24))),(29,vI)] [(30,vI)] wP wB0 uE2 fun y x=>[ex 1 (some (uE3 y x)) [(4,vB)] ((tL5 y x),()),ex 2 (some (qN3 y x)) [] ()]
def f48t (p0:D24) (p1:D24):Prop × Bool :=
 let v26:=(bif (bif (p0.1 != p1.1) then true else (p0.2.1 != p1.2.1)) then true else ((len p0.2.2.1) != (len p1.2.2.1)))
 let y4:=(p0,p1,(len p0.2.2.1),())
 let x4:=((0:Int),())
 let e4:=(zC1 (wP y4) (wB0 y4) x4)
 (((!v26) = true → (Am.Ends (wP y4) (wB0 y4) (uE2 y4) x4)),(bif v26 then false else (bif (uE3 y4 e4) then (tL5 y4 e4) else true)))
def sR7 (p0:D24) (p1:D24):Prop:=(f48t p0 p1).1
def f48 (p0:D24) (p1:D24):Bool:=(f48t p0 p1).2
instance (p0:D24) (p1:D24):Decidable (sR7 p0 p1):=by
 unfold sR7 f48t
 try dsimp only
 infer_instance
def rO1:Am.Spec:=fnSpec [(0,(.val T24)),(1,(.val T24))] vB [] (fun x=>sR7 x.1 x.2.1) (fun x=>f48 x.1 x.2.1) (fun _=>())
def qN4:Ctx:=Cx tys [] [(4,tL6)] [] false 45 [] []
theorem qN5:CtxOk Tryz.prog qN4:=xW4 tys_ok rfl trivial rfl (by kernel_rfl)
noncomputable def pF3:Code:=Tryz.f48.body.getD .skip
noncomputable def pL5:Code:=xX3 pF3 0
theorem qN6:yV Tryz.prog qN4 pL5:=xY2 qN5 mixed (sp:=tL6) rfl [[(4,vB)],[]] (bs:=[]) (by kernel_rfl) trivial (by kernel_rfl) (by kernel_rfl) fun y x=>by kernel_rfl
theorem oU0:SpecOk Tryz.prog 48 rO1:=xY3 qN5 mixed Tryz.func48 (by kernel_rfl) (bs:=[pL5]) (by kernel_rfl) ⟨qN6,trivial⟩ fun x=>by kernel_rfl
abbrev wV:Type:=((List Int) × (List Int) × Unit)
abbrev wK2:Type:=(Int × Unit)
def uI5 (y:wV) (x:wK2):Prop × Bool × wK2 × Bool × Bool :=
 let a0:=y.1
 let a1:=y.2.1
 let a5:=x.1
 let v14:=(decide (a5 < (len a0)))
 let v25:=((nth a0 a5 (0:Int)) != (nth a1 a5 (0:Int)))
 ((v14 = true → (InB a5 (len a0) ∧ (InB a5 (len a1) ∧ ((!v25) = true → InR (a5 + 1))))),(v14 && (!v25)),((a5 + 1),()),(v14 && v25),(!v14))
def uE4 (y:wV) (x:wK2):Prop:=(uI5 y x).1
def uE5 (y:wV) (x:wK2):Bool:=(uI5 y x).2.1
def wR4 (y:wV) (x:wK2):wK2:=(uI5 y x).2.2.1
def sR8 (y:wV) (x:wK2):Bool:=(uI5 y x).2.2.2.1
def qN7 (y:wV) (x:wK2):Bool:=(uI5 y x).2.2.2.2
instance (y:wV) (x:wK2):Decidable (uE4 y x):=by
 unfold uE4 uI5
 try dsimp only
 infer_instance
def tL7 (y:wV) (x:wK2):Bool :=
 false
def tL8:St → Option Out:=xP4 [(0,(.val (.sl (.int .i64)))),(1,(.val (.sl (.int .i64))))] [(5,vI)] uE5 wR4 uE4 fun y x=>[ex 1 (some (sR8 y x)) [(4,vB)] ((tL7 y x),()),ex 2 (some (qN7 y x)) [] ()]
def f97t (p0:(List Int)) (p1:(List Int)):Prop × Bool :=
 let v10:=((len p0) != (len p1))
 let y4:=(p0,p1,())
 let x4:=((0:Int),())
 let e4:=(zC1 (uE5 y4) (wR4 y4) x4)
 (((!v10) = true → (Am.Ends (uE5 y4) (wR4 y4) (uE4 y4) x4)),(bif v10 then false else (bif (sR8 y4 e4) then (tL7 y4 e4) else true)))
def tT9 (p0:(List Int)) (p1:(List Int)):Prop:=(f97t p0 p1).1
def f97 (p0:(List Int)) (p1:(List Int)):Bool:=(f97t p0 p1).2
instance (p0:(List Int)) (p1:(List Int)):Decidable (tT9 p0 p1):=by
 unfold tT9 f97t
 try dsimp only
 infer_instance
def sE7:Am.Spec:=fnSpec [(0,(.val (.sl (.int .i64)))),(1,(.val (.sl (.int .i64))))] vB [] (fun x=>tT9 x.1 x.2.1) (fun x=>f97 x.1 x.2.1) (fun _=>())
def qN8:Ctx:=Cx tys [] [(4,tL8)] [] false 26 [] []
theorem qN9:CtxOk Tryz.prog qN8:=xW4 tys_ok rfl trivial rfl (by kernel_rfl)
noncomputable def pF4:Code:=Tryz.f97.body.getD .skip
noncomputable def pL6:Code:=xX3 pF4 0
theorem qO:yV Tryz.prog qN8 pL6:=xY2 qN9 mixed (sp:=tL8) rfl [[(4,vB)],[]] (bs:=[]) (by kernel_rfl) trivial (by kernel_rfl) (by kernel_rfl) fun y x=>by kernel_rfl
theorem pL7:SpecOk Tryz.prog 97 sE7:=xY3 qN9 mixed Tryz.func97 (by kernel_rfl) (bs:=[pL6]) (by kernel_rfl) ⟨qO,trivial⟩ fun x=>by kernel_rfl
def f73t (p0:D24) (p1:D24):Prop × Bool :=
 let v16:=(bif (p0.1 == p1.1) then (p0.2.1 == p1.2.1) else false)
 ((v16 = true → (tT9 p0.2.2.1 p1.2.2.1)),(bif v16 then (f97 p0.2.2.1 p1.2.2.1) else false))
def sR9 (p0:D24) (p1:D24):Prop:=(f73t p0 p1).1
def f73 (p0:D24) (p1:D24):Bool:=(f73t p0 p1).2
instance (p0:D24) (p1:D24):Decidable (sR9 p0 p1):=by
 unfold sR9 f73t
 try dsimp only
 infer_instance
def rO2:Am.Spec:=fnSpec [(0,(.val T24)),(1,(.val T24))] vB [] (fun x=>sR9 x.1 x.2.1) (fun x=>f73 x.1 x.2.1) (fun _=>())
def oK5:Ctx:=Cx tys [(97,sE7)] [] [] false 24 [] []
theorem oK6:CtxOk Tryz.prog oK5:=xW4 tys_ok rfl ⟨pL7,trivial⟩ rfl (by kernel_rfl)
theorem oU1:SpecOk Tryz.prog 73 rO2:=xY3 oK6 mixed Tryz.func73 (by kernel_rfl) (bs:=[]) (by kernel_rfl) trivial fun x=>by kernel_rfl
abbrev wV0:Type:=(D40 × D40 × Unit)
abbrev wK3:Type:=(Int × Unit)
def uI6 (y:wV0) (x:wK3):Prop × Bool × wK3 × Bool × Bool :=
 let a2:=y.1
 let a3:=y.2.1
 let a5:=x.1
 let v31:=(decide (a5 < (len a2.2.2.1)))
 let v44:=(!(Ty.eqb T42 (nth a2.2.2.1 a5 Z42) (nth a3.2.2.1 a5 Z42)))
 ((v31 = true → (InB a5 (len a2.2.2.1) ∧ (InB a5 (len a3.2.2.1) ∧ ((!v44) = true → InR (a5 + 1))))),(v31 && (!v44)),((a5 + 1),()),(v31 && v44),(!v31))
def uE6 (y:wV0) (x:wK3):Prop:=(uI6 y x).1
def wP0 (y:wV0) (x:wK3):Bool:=(uI6 y x).2.1
def wB1 (y:wV0) (x:wK3):wK3:=(uI6 y x).2.2.1
def uE7 (y:wV0) (x:wK3):Bool:=(uI6 y x).2.2.2.1
def qO0 (y:wV0) (x:wK3):Bool:=(uI6 y x).2.2.2.2
instance (y:wV0) (x:wK3):Decidable (uE6 y x):=by
 unfold uE6 uI6
 try dsimp only
 infer_instance
def tL9 (y:wV0) (x:wK3):Bool :=
 false
def tM:St → Option Out:=xP4 [(2,(.box T40 (.val T40))),(3,(.box T40 (.val T40)))] [(5,vI)] wP0 wB1 uE6 fun y x=>[ex 1 (some (uE7 y x)) [(4,vB)] ((tL9 y x),()),ex 2 (some (qO0 y x)) [] ()]
def f98t (p0:D40) (p1:D40):Prop × Bool :=
 let v26:=(bif (bif (p0.1 != p1.1) then true else (p0.2.1 != p1.2.1)) then true else ((len p0.2.2.1) != (len p1.2.2.1)))
 let y4:=(p0,p1,())
 let x4:=((0:Int),())
 let e4:=(zC1 (wP0 y4) (wB1 y4) x4)
 (((!v26) = true → (Am.Ends (wP0 y4) (wB1 y4) (uE6 y4) x4)),(bif v26 then false else (bif (uE7 y4 e4) then (tL9 y4 e4) else true)))
def sS (p0:D40) (p1:D40):Prop:=(f98t p0 p1).1
def f98 (p0:D40) (p1:D40):Bool:=(f98t p0 p1).2
instance (p0:D40) (p1:D40):Decidable (sS p0 p1):=by
 unfold sS f98t
 try dsimp only
 infer_instance
def rO3:Am.Spec:=fnSpec [(0,(.val T40)),(1,(.val T40))] vB [] (fun x=>sS x.1 x.2.1) (fun x=>f98 x.1 x.2.1) (fun _=>())
def qO1:Ctx:=Cx tys [] [(4,tM)] [] false 45 [] []
theorem qO2:CtxOk Tryz.prog qO1:=xW4 tys_ok rfl trivial rfl (by kernel_rfl)
noncomputable def pF5:Code:=Tryz.f98.body.getD .skip
noncomputable def pL8:Code:=xX3 pF5 0
theorem qO3:yV Tryz.prog qO1 pL8:=xY2 qO2 mixed (sp:=tM) rfl [[(4,vB)],[]] (bs:=[]) (by kernel_rfl) trivial (by kernel_rfl) (by kernel_rfl) fun y x=>by kernel_rfl
theorem oU2:SpecOk Tryz.prog 98 rO3:=xY3 qO2 mixed Tryz.func98 (by kernel_rfl) (bs:=[pL8]) (by kernel_rfl) ⟨qO3,trivial⟩ fun x=>by kernel_rfl
end Go.Proofs.YtpanghcojpnkaaaGreatDoor.Am
