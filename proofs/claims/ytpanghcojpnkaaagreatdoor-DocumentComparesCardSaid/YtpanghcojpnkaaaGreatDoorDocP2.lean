/- Printed by program, part 2. No condition. -/
import Derived.Test.YtpanghcojpnkaaaGreatDoorDocL
set_option linter.unusedVariables false
set_option synthInstance.maxSize 4000
set_option synthInstance.maxHeartbeats 400000
namespace Go.Proofs.YtpanghcojpnkaaaGreatDoor.Am
open Go Go.Am Go.Proofs
def f51t :Prop × Int :=
 (True,(4:Int))
def rD :Prop:=(f51t).1
def f51 :Int:=(f51t).2
instance :Decidable (rD):=by
 unfold rD f51t
 try dsimp only
 infer_instance
def rD0:Am.Spec:=fnSpec [] vI [] (fun x=>rD ) (fun x=>f51 ) (fun _=>())
def pP1:Ctx:=Cx tys [] [] [] false 1 [] []
theorem pP2:CtxOk Tryz.prog pP1:=xW4 tys_ok rfl trivial rfl (by kernel_rfl)
theorem oN6:SpecOk Tryz.prog 51 rD0:=xY3 pP2 mixed Tryz.func51 (by kernel_rfl) (bs:=[]) (by kernel_rfl) trivial fun x=>by kernel_rfl
def f23t (p0:D28):Prop × Int :=
 let v20:=(bif (bif (bif (decide (p0.1 < 1)) then true else (decide (p0.1 > 256))) then true else (decide (p0.2.1 < 1))) then true else (decide (p0.2.1 > 256)))
 let v23:=(decide (p0.2.2.1 < 0))
 (((!v20) = true → ((!v23) = true → rD)),(bif v20 then (15:Int) else (bif (bif v23 then true else (decide (p0.2.2.1 ≥ f51))) then (2:Int) else (0:Int))))
def sH (p0:D28):Prop:=(f23t p0).1
def f23 (p0:D28):Int:=(f23t p0).2
instance (p0:D28):Decidable (sH p0):=by
 unfold sH f23t
 try dsimp only
 infer_instance
def tV4:Am.Spec:=fnSpec [(0,(.val T28))] vI [] (fun x=>sH x.1) (fun x=>f23 x.1) (fun _=>())
def pP3:Ctx:=Cx tys [(51,rD0)] [] [] false 30 [] []
theorem pP4:CtxOk Tryz.prog pP3:=xW4 tys_ok rfl ⟨oN6,trivial⟩ rfl (by kernel_rfl)
theorem pH1:SpecOk Tryz.prog 23 tV4:=xY3 pP4 mixed Tryz.func23 (by kernel_rfl) (bs:=[]) (by kernel_rfl) trivial fun x=>by kernel_rfl
def f61t (p0:Int):Prop × Bool :=
 (True,(bif (decide (p0 ≥ 0)) then (decide (p0 ≤ 65535)) else false))
def rD1 (p0:Int):Prop:=(f61t p0).1
def f61 (p0:Int):Bool:=(f61t p0).2
instance (p0:Int):Decidable (rD1 p0):=by
 unfold rD1 f61t
 try dsimp only
 infer_instance
def rD2:Am.Spec:=fnSpec [(0,vI)] vB [] (fun x=>rD1 x.1) (fun x=>f61 x.1) (fun _=>())
def pP5:Ctx:=Cx tys [] [] [] false 9 [] []
theorem pP6:CtxOk Tryz.prog pP5:=xW4 tys_ok rfl trivial rfl (by kernel_rfl)
theorem oN7:SpecOk Tryz.prog 61 rD2:=xY3 pP6 mixed Tryz.func61 (by kernel_rfl) (bs:=[]) (by kernel_rfl) trivial fun x=>by kernel_rfl
abbrev wR8:Type:=((List Int) × Int × Unit)
abbrev wI3:Type:=(Int × Unit)
def uF5 (y:wR8) (x:wI3):Prop × Bool × wI3 × Bool × Bool :=
 let a42:=y.1
 let a44:=x.1
 let v45:=(decide (a44 < y.2.1))
 let v46:=(nth a42 a44 (0:Int))
 let v50:=(!(f61 v46))
 ((v45 = true → (InB a44 (len a42) ∧ ((rD1 v46) ∧ ((!v50) = true → InR (a44 + 1))))),(v45 && (!v50)),((a44 + 1),()),(v45 && v50),(!v45))
def vV1 (y:wR8) (x:wI3):Prop:=(uF5 y x).1
def tV5 (y:wR8) (x:wI3):Bool:=(uF5 y x).2.1
def vR (y:wR8) (x:wI3):wI3:=(uF5 y x).2.2.1
def sH0 (y:wR8) (x:wI3):Bool:=(uF5 y x).2.2.2.1
def rX2 (y:wR8) (x:wI3):Bool:=(uF5 y x).2.2.2.2
instance (y:wR8) (x:wI3):Decidable (vV1 y x):=by
 unfold vV1 uF5
 try dsimp only
 infer_instance
def uX1 (y:wR8) (x:wI3):Int :=
 (2:Int)
def uX2:St → Option Out:=xP4 [(42,(.val (.sl (.int .i64)))),(43,vI)] [(44,vI)] tV5 vR vV1 fun y x=>[ex 1 (some (sH0 y x)) [(2,vI)] ((uX1 y x),()),ex 2 (some (rX2 y x)) [] ()]
def f29t (p0:D24):Prop × Int :=
 let v22:=(bif (bif (bif (decide (p0.1 < 0)) then true else (decide (p0.1 > 256))) then true else (decide (p0.2.1 < 0))) then true else (decide (p0.2.1 > 256)))
 let v29:=(!(Ty.eqb .bool (p0.1 == 0) (p0.2.1 == 0)))
 let v40:=(bif v29 then true else ((len p0.2.2.1) != (p0.1 * p0.2.1)))
 let y6:=(p0.2.2.1,(len p0.2.2.1),())
 let x6:=((0:Int),())
 let e6:=(zC1 (tV5 y6) (vR y6) x6)
 (((!v22) = true → (((!v29) = true → InR (p0.1 * p0.2.1)) ∧ ((!v40) = true → (Am.Ends (tV5 y6) (vR y6) (vV1 y6) x6)))),(bif v22 then (15:Int) else (bif v40 then (15:Int) else (bif (sH0 y6 e6) then (uX1 y6 e6) else (0:Int)))))
def sH1 (p0:D24):Prop:=(f29t p0).1
def f29 (p0:D24):Int:=(f29t p0).2
instance (p0:D24):Decidable (sH1 p0):=by
 unfold sH1 f29t
 try dsimp only
 infer_instance
def tV6:Am.Spec:=fnSpec [(0,(.val T24))] vI [] (fun x=>sH1 x.1) (fun x=>f29 x.1) (fun _=>())
def rX3:Ctx:=Cx tys [(61,rD2)] [(6,uX2)] [] false 52 [] []
theorem rX4:CtxOk Tryz.prog rX3:=xW4 tys_ok rfl ⟨oN7,trivial⟩ rfl (by kernel_rfl)
noncomputable def qS5:Code:=Tryz.f29.body.getD .skip
noncomputable def pH2:Code:=xX3 qS5 0
theorem rX5:yV Tryz.prog rX3 pH2:=xY2 rX4 mixed (sp:=uX2) rfl [[(2,vI)],[]] (bs:=[]) (by kernel_rfl) trivial (by kernel_rfl) (by kernel_rfl) fun y x=>by kernel_rfl
theorem pH3:SpecOk Tryz.prog 29 tV6:=xY3 rX4 mixed Tryz.func29 (by kernel_rfl) (bs:=[pH2]) (by kernel_rfl) ⟨rX5,trivial⟩ fun x=>by kernel_rfl
def f54t (p0:D49):Prop × Bool :=
 (True,(bif (bif (p0.2.1 == 7) then true else (p0.2.1 == 8)) then true else (p0.2.1 == 11)))
def tN3 (p0:D49):Prop:=(f54t p0).1
def f54 (p0:D49):Bool:=(f54t p0).2
instance (p0:D49):Decidable (tN3 p0):=by
 unfold tN3 f54t
 try dsimp only
 infer_instance
def uS9:Am.Spec:=fnSpec [(0,(.val T49))] vB [] (fun x=>tN3 x.1) (fun x=>f54 x.1) (fun _=>())
def pP7:Ctx:=Cx tys [] [] [] false 16 [] []
theorem pP8:CtxOk Tryz.prog pP7:=xW4 tys_ok rfl trivial rfl (by kernel_rfl)
theorem rX6:SpecOk Tryz.prog 54 uS9:=xY3 pP8 mixed Tryz.func54 (by kernel_rfl) (bs:=[]) (by kernel_rfl) trivial fun x=>by kernel_rfl
def pP9 (p0:Int):Prop × (List UInt8) :=
 let v5:=(p0 == 1)
 let v7:=(p0 == 2)
 let v9:=(p0 == 3)
 let v11:=(p0 == 4)
 let v13:=(p0 == 5)
 let v15:=(p0 == 6)
 let v17:=(p0 == 7)
 let v19:=(p0 == 8)
 let v21:=(p0 == 9)
 let v23:=(p0 == 10)
 let m2_2:=(bif v19 then ([102,105,108,116,101,114]:List UInt8) else (bif v21 then ([108,105,110,107]:List UInt8) else (bif v23 then ([99,108,111,110,101]:List UInt8) else ([119,97,114,112]:List UInt8))))
 let m2_6:=(bif v11 then ([103,114,97,100,105,101,110,116]:List UInt8) else (bif v13 then ([112,97,116,104]:List UInt8) else (bif v15 then ([116,101,120,116]:List UInt8) else (bif v17 then ([97,100,106,117,115,116]:List UInt8) else m2_2))))
 let c_14:=(bif v9 then true else (bif v11 then true else (bif v13 then true else (bif v15 then true else (bif v17 then true else (bif v19 then true else (bif v21 then true else (bif v23 then true else (p0 == 11)))))))))
 let m2_10:=(bif (bif v5 then true else (bif v7 then true else c_14)) then (bif v5 then ([103,114,111,117,112]:List UInt8) else (bif v7 then ([105,109,97,103,101]:List UInt8) else (bif v9 then ([102,105,108,108]:List UInt8) else m2_6))) else ([]:List UInt8))
 (True,m2_10)
def tV7 (p0:Int):Prop:=(pP9 p0).1
def f102 (p0:Int):(List UInt8):=(pP9 p0).2
instance (p0:Int):Decidable (tV7 p0):=by
 unfold tV7 pP9
 try dsimp only
 infer_instance
def sH2:Am.Spec:=fnSpec [(0,vI)] vS [] (fun x=>tV7 x.1) (fun x=>f102 x.1) (fun _=>())
def qS6:Ctx:=Cx tys [] [] [] false 26 [] []
theorem qS7:CtxOk Tryz.prog qS6:=xW4 tys_ok rfl trivial rfl (by kernel_rfl)
theorem pQ:SpecOk Tryz.prog 102 sH2:=xY3 qS7 mixed Tryz.func102 (by kernel_rfl) (bs:=[]) (by kernel_rfl) trivial fun x=>by kernel_rfl
abbrev wK9:Type:=((List UInt8) × Int × Unit)
abbrev wD9:Type:=(Int × Unit)
def vI1 (y:wK9) (x:wD9):Prop × Bool × wD9 × Bool × Bool :=
 let a0:=y.1
 let a14:=x.1
 let v15:=(decide (a14 < y.2.1))
 let v20:=(decide ((xX6 a0 a14) < 33))
 let v26:=(bif v20 then true else (decide ((xX6 a0 a14) > 126)))
 ((v15 = true → (InB a14 (len a0) ∧ (((!v20) = true → InB a14 (len a0)) ∧ ((!v26) = true → InR (a14 + 1))))),(v15 && (!v26)),((a14 + 1),()),(v15 && v26),(!v15))
def vI2 (y:wK9) (x:wD9):Prop:=(vI1 y x).1
def uX3 (y:wK9) (x:wD9):Bool:=(vI1 y x).2.1
def vD3 (y:wK9) (x:wD9):wD9:=(vI1 y x).2.2.1
def tN4 (y:wK9) (x:wD9):Bool:=(vI1 y x).2.2.2.1
def rQ3 (y:wK9) (x:wD9):Bool:=(vI1 y x).2.2.2.2
instance (y:wK9) (x:wD9):Decidable (vI2 y x):=by
 unfold vI2 vI1
 try dsimp only
 infer_instance
def uJ7 (y:wK9) (x:wD9):Bool :=
 false
def uJ8:St → Option Out:=xP4 [(0,vS),(13,vI)] [(14,vI)] uX3 vD3 vI2 fun y x=>[ex 1 (some (tN4 y x)) [(2,vB)] ((uJ7 y x),()),ex 2 (some (rQ3 y x)) [] ()]
def pQ0 (p0:(List UInt8)):Prop × Bool :=
 let v11:=(bif (decide ((len p0) < 1)) then true else (decide ((len p0) > 32)))
 let y4:=(p0,(len p0),())
 let x4:=((0:Int),())
 let e4:=(zC1 (uX3 y4) (vD3 y4) x4)
 (((!v11) = true → (Am.Ends (uX3 y4) (vD3 y4) (vI2 y4) x4)),(bif v11 then false else (bif (tN4 y4 e4) then (uJ7 y4 e4) else true)))
def tV8 (p0:(List UInt8)):Prop:=(pQ0 p0).1
def f103 (p0:(List UInt8)):Bool:=(pQ0 p0).2
instance (p0:(List UInt8)):Decidable (tV8 p0):=by
 unfold tV8 pQ0
 try dsimp only
 infer_instance
def sH3:Am.Spec:=fnSpec [(0,vS)] vB [] (fun x=>tV8 x.1) (fun x=>f103 x.1) (fun _=>())
def rD3:Ctx:=Cx tys [] [(4,uJ8)] [] false 28 [] []
theorem rD4:CtxOk Tryz.prog rD3:=xW4 tys_ok rfl trivial rfl (by kernel_rfl)
noncomputable def rX7:Code:=Tryz.f103.body.getD .skip
noncomputable def rX8:Code:=xX3 rX7 0
theorem rQ4:yV Tryz.prog rD3 rX8:=xY2 rD4 mixed (sp:=uJ8) rfl [[(2,vB)],[]] (bs:=[]) (by kernel_rfl) trivial (by kernel_rfl) (by kernel_rfl) fun y x=>by kernel_rfl
theorem pQ1:SpecOk Tryz.prog 103 sH3:=xY3 rD4 mixed Tryz.func103 (by kernel_rfl) (bs:=[rX8]) (by kernel_rfl) ⟨rQ4,trivial⟩ fun x=>by kernel_rfl
def pQ2 (p0:Int):Prop × Bool :=
 (True,(bif (decide (p0 ≥ 0)) then (decide (p0 ≤ 1073741824)) else false))
def uX4 (p0:Int):Prop:=(pQ2 p0).1
def f104 (p0:Int):Bool:=(pQ2 p0).2
instance (p0:Int):Decidable (uX4 p0):=by
 unfold uX4 pQ2
 try dsimp only
 infer_instance
def sH4:Am.Spec:=fnSpec [(0,vI)] vB [] (fun x=>uX4 x.1) (fun x=>f104 x.1) (fun _=>())
def qS8:Ctx:=Cx tys [] [] [] false 9 [] []
theorem qS9:CtxOk Tryz.prog qS8:=xW4 tys_ok rfl trivial rfl (by kernel_rfl)
theorem pQ3:SpecOk Tryz.prog 104 sH4:=xY3 qS9 mixed Tryz.func104 (by kernel_rfl) (bs:=[]) (by kernel_rfl) trivial fun x=>by kernel_rfl
def pQ4 (p0:Int):Prop × Bool :=
 (True,(bif (decide (p0 ≥ 0)) then (decide (p0 ≤ 65535)) else false))
def tV9 (p0:Int):Prop:=(pQ4 p0).1
def f105 (p0:Int):Bool:=(pQ4 p0).2
instance (p0:Int):Decidable (tV9 p0):=by
 unfold tV9 pQ4
 try dsimp only
 infer_instance
def sH5:Am.Spec:=fnSpec [(0,vI)] vB [] (fun x=>tV9 x.1) (fun x=>f105 x.1) (fun _=>())
def qT:Ctx:=Cx tys [] [] [] false 9 [] []
theorem qT0:CtxOk Tryz.prog qT:=xW4 tys_ok rfl trivial rfl (by kernel_rfl)
theorem pQ5:SpecOk Tryz.prog 105 sH5:=xY3 qT0 mixed Tryz.func105 (by kernel_rfl) (bs:=[]) (by kernel_rfl) trivial fun x=>by kernel_rfl
def pQ6 (p0:Int):Prop × Bool :=
 (True,(bif (decide (p0 ≥ 0)) then (decide (p0 < 18)) else false))
def tW (p0:Int):Prop:=(pQ6 p0).1
def f106 (p0:Int):Bool:=(pQ6 p0).2
instance (p0:Int):Decidable (tW p0):=by
 unfold tW pQ6
 try dsimp only
 infer_instance
def sH6:Am.Spec:=fnSpec [(0,vI)] vB [] (fun x=>tW x.1) (fun x=>f106 x.1) (fun _=>())
def qT1:Ctx:=Cx tys [] [] [] false 9 [] []
theorem qT2:CtxOk Tryz.prog qT1:=xW4 tys_ok rfl trivial rfl (by kernel_rfl)
theorem pQ7:SpecOk Tryz.prog 106 sH6:=xY3 qT2 mixed Tryz.func106 (by kernel_rfl) (bs:=[]) (by kernel_rfl) trivial fun x=>by kernel_rfl
def f75t (p0:D49) (p1:Int) (p2:Int):Prop × Int :=
 let v21:=(bif (bif (bif (decide (p1 < 1)) then true else (decide (p1 > 256))) then true else (decide (p2 < 1))) then true else (decide (p2 > 256)))
 let v25:=((f102 p0.2.1) == ([]:List UInt8))
 let v29:=(!(f103 p0.2.2.2.1))
 let v33:=(!(f104 p0.1))
 let v39:=(bif v33 then true else (!(f104 p0.2.2.1)))
 let v45:=(bif v39 then true else (!(f105 p0.2.2.2.2.2.2.2.1)))
 let v49:=(!(f106 p0.2.2.2.2.2.2.2.2.1))
 let v58:=(bif v49 then true else (bif (f54 p0) then (p0.2.2.2.2.2.2.2.2.1 != 0) else false))
 let v61:=(f29 p0.2.2.2.2.2.2.2.2.2.1)
 let m6_1:=(bif (v61 != 0) then v61 else (bif (bif (p0.2.2.2.2.2.2.2.2.2.1.1 != 0) then (bif (p0.2.2.2.2.2.2.2.2.2.1.1 != p1) then true else (p0.2.2.2.2.2.2.2.2.2.1.2.1 != p2)) else false) then (15:Int) else (0:Int)))
 (((!v21) = true → ((tV7 p0.2.1) ∧ ((!v25) = true → ((tV8 p0.2.2.2.1) ∧ ((!v29) = true → ((uX4 p0.1) ∧ (((!v33) = true → (uX4 p0.2.2.1)) ∧ (((!v39) = true → (tV9 p0.2.2.2.2.2.2.2.1)) ∧ ((!v45) = true → ((tW p0.2.2.2.2.2.2.2.2.1) ∧ (((!v49) = true → (tN3 p0)) ∧ ((!v58) = true → (sH1 p0.2.2.2.2.2.2.2.2.2.1))))))))))))),(bif v21 then (15:Int) else (bif v25 then (8:Int) else (bif v29 then (13:Int) else (bif v45 then (2:Int) else (bif v58 then (8:Int) else m6_1))))))
def rD5 (p0:D49) (p1:Int) (p2:Int):Prop:=(f75t p0 p1 p2).1
def f75 (p0:D49) (p1:Int) (p2:Int):Int:=(f75t p0 p1 p2).2
instance (p0:D49) (p1:Int) (p2:Int):Decidable (rD5 p0 p1 p2):=by
 unfold rD5 f75t
 try dsimp only
 infer_instance
def rD6:Am.Spec:=fnSpec [(0,(.val T49)),(1,vI),(2,vI)] vI [] (fun x=>rD5 x.1 x.2.1 x.2.2.1) (fun x=>f75 x.1 x.2.1 x.2.2.1) (fun _=>())
def pQ8:Ctx:=Cx tys [(29,tV6),(54,uS9),(102,sH2),(103,sH3),(104,sH4),(105,sH5),(106,sH6)] [] [] false 83 [] []
theorem pQ9:CtxOk Tryz.prog pQ8:=xW4 tys_ok rfl ⟨pH3,rX6,pQ,pQ1,pQ3,pQ5,pQ7,trivial⟩ rfl (by kernel_rfl)
theorem oN8:SpecOk Tryz.prog 75 rD6:=xY3 pQ9 mixed Tryz.func75 (by kernel_rfl) (bs:=[]) (by kernel_rfl) trivial fun x=>by kernel_rfl
def f76t (p0:Int):Prop × Bool :=
 let v5:=(p0 == 2)
 let v6:=(p0 == 5)
 let v7:=(p0 == 6)
 let v8:=(p0 == 9)
 (True,(bif (bif v5 then v5 else (bif v6 then v6 else (bif v7 then v7 else (bif v8 then v8 else (p0 == 10))))) then true else false))
def sH7 (p0:Int):Prop:=(f76t p0).1
def f76 (p0:Int):Bool:=(f76t p0).2
instance (p0:Int):Decidable (sH7 p0):=by
 unfold sH7 f76t
 try dsimp only
 infer_instance
def tW0:Am.Spec:=fnSpec [(0,vI)] vB [] (fun x=>sH7 x.1) (fun x=>f76 x.1) (fun _=>())
def pR:Ctx:=Cx tys [] [] [] false 10 [] []
theorem pR0:CtxOk Tryz.prog pR:=xW4 tys_ok rfl trivial rfl (by kernel_rfl)
theorem pH4:SpecOk Tryz.prog 76 tW0:=xY3 pR0 mixed Tryz.func76 (by kernel_rfl) (bs:=[]) (by kernel_rfl) trivial fun x=>by kernel_rfl
def pR1 (p0:Int) (p1:Int) (p2:Int):Prop × Int :=
 (True,(xX0 p2 (xX p0 p1)))
def uF6 (p0:Int) (p1:Int) (p2:Int):Prop:=(pR1 p0 p1 p2).1
def f138 (p0:Int) (p1:Int) (p2:Int):Int:=(pR1 p0 p1 p2).2
instance (p0:Int) (p1:Int) (p2:Int):Decidable (uF6 p0 p1 p2):=by
 unfold uF6 pR1
 try dsimp only
 infer_instance
def vV2:Am.Spec:=fnSpec [(0,vI),(1,vI),(2,vI)] vI [] (fun x=>uF6 x.1 x.2.1 x.2.2.1) (fun x=>f138 x.1 x.2.1 x.2.2.1) (fun _=>())
def qT3:Ctx:=Cx tys [] [] [] true 12 [] []
theorem qT4:CtxOk Tryz.prog qT3:=xW4 tys_ok rfl trivial rfl (by kernel_rfl)
theorem sT8:SpecOk Tryz.prog 138 vV2:=xY3 qT4 mixed Tryz.func138 (by kernel_rfl) (bs:=[]) (by kernel_rfl) trivial fun x=>by kernel_rfl
def pR2 (p0:Int):Prop × Int :=
 ((uF6 p0 (-16777216:Int) (16777216:Int)),(f138 p0 (-16777216:Int) (16777216:Int)))
def vR0 (p0:Int):Prop:=(pR2 p0).1
def f120 (p0:Int):Int:=(pR2 p0).2
instance (p0:Int):Decidable (vR0 p0):=by
 unfold vR0 pR2
 try dsimp only
 infer_instance
def sH8:Am.Spec:=fnSpec [(0,vI)] vI [] (fun x=>vR0 x.1) (fun x=>f120 x.1) (fun _=>())
def qT5:Ctx:=Cx tys [(138,vV2)] [] [] false 5 [] []
theorem qT6:CtxOk Tryz.prog qT5:=xW4 tys_ok rfl ⟨sT8,trivial⟩ rfl (by kernel_rfl)
theorem pR3:SpecOk Tryz.prog 120 sH8:=xY3 qT6 mixed Tryz.func120 (by kernel_rfl) (bs:=[]) (by kernel_rfl) trivial fun x=>by kernel_rfl
def pR4 (p0:Int):Prop × Int :=
 ((uF6 p0 (-1099511627776:Int) (1099511627776:Int)),(f138 p0 (-1099511627776:Int) (1099511627776:Int)))
def wZ5 (p0:Int):Prop:=(pR4 p0).1
def f121 (p0:Int):Int:=(pR4 p0).2
instance (p0:Int):Decidable (wZ5 p0):=by
 unfold wZ5 pR4
 try dsimp only
 infer_instance
def uX5:Am.Spec:=fnSpec [(0,vI)] vI [] (fun x=>wZ5 x.1) (fun x=>f121 x.1) (fun _=>())
def qT7:Ctx:=Cx tys [(138,vV2)] [] [] true 5 [] []
theorem qT8:CtxOk Tryz.prog qT7:=xW4 tys_ok rfl ⟨sT8,trivial⟩ rfl (by kernel_rfl)
theorem rX9:SpecOk Tryz.prog 121 uX5:=xY3 qT8 mixed Tryz.func121 (by kernel_rfl) (bs:=[]) (by kernel_rfl) trivial fun x=>by kernel_rfl
def pR5 (p0:D37):Prop × D37 :=
 (((vR0 p0.1) ∧ ((vR0 p0.2.1) ∧ ((vR0 p0.2.2.1) ∧ ((vR0 p0.2.2.2.1) ∧ ((wZ5 p0.2.2.2.2.1) ∧ (wZ5 p0.2.2.2.2.2.1)))))),((f120 p0.1),(f120 p0.2.1),(f120 p0.2.2.1),(f120 p0.2.2.2.1),(f121 p0.2.2.2.2.1),(f121 p0.2.2.2.2.2.1),()))
def uX6 (p0:D37):Prop:=(pR5 p0).1
def f107 (p0:D37):D37:=(pR5 p0).2
instance (p0:D37):Decidable (uX6 p0):=by
 unfold uX6 pR5
 try dsimp only
 infer_instance
def uX7:Am.Spec:=fnSpec [(0,(.val T37))] (.val T37) [] (fun x=>uX6 x.1) (fun x=>f107 x.1) (fun _=>())
def qT9:Ctx:=Cx tys [(120,sH8),(121,uX5)] [] [] true 22 [] []
theorem qU:CtxOk Tryz.prog qT9:=xW4 tys_ok rfl ⟨pR3,rX9,trivial⟩ rfl (by kernel_rfl)
theorem rY:SpecOk Tryz.prog 107 uX7:=xY3 qU mixed Tryz.func107 (by kernel_rfl) (bs:=[]) (by kernel_rfl) trivial fun x=>by kernel_rfl
def f77t (p0:D37):Prop × Int :=
 ((uX6 p0),(bif (!(Ty.eqb T37 p0 (f107 p0))) then (2:Int) else (0:Int)))
def vV3 (p0:D37):Prop:=(f77t p0).1
def f77 (p0:D37):Int:=(f77t p0).2
instance (p0:D37):Decidable (vV3 p0):=by
 unfold vV3 f77t
 try dsimp only
 infer_instance
def vV4:Am.Spec:=fnSpec [(0,(.val T37))] vI [] (fun x=>vV3 x.1) (fun x=>f77 x.1) (fun _=>())
def pR6:Ctx:=Cx tys [(107,uX7)] [] [] false 7 [] []
theorem pR7:CtxOk Tryz.prog pR6:=xW4 tys_ok rfl ⟨rY,trivial⟩ rfl (by kernel_rfl)
theorem rD7:SpecOk Tryz.prog 77 vV4:=xY3 pR7 mixed Tryz.func77 (by kernel_rfl) (bs:=[]) (by kernel_rfl) trivial fun x=>by kernel_rfl
def pR8 (p0:Int) (p1:Int) (p2:Int) (p3:Int):Prop × Int :=
 let v12:=(f122 p1 (65536:Int))
 let v14:=(f122 p3 (65536:Int))
 let v34:=(IntKind.wrap .i64 ((IntKind.wrap .i64 (p0 * (IntKind.wrap .i64 (p1 - (IntKind.wrap .i64 (v12 * 65536)))))) + (IntKind.wrap .i64 (p2 * (IntKind.wrap .i64 (p3 - (IntKind.wrap .i64 (v14 * 65536))))))))
 (((uF3 p1 (65536:Int)) ∧ ((uF3 p3 (65536:Int)) ∧ (xZ0 v34 (65536:Int)))),(IntKind.wrap .i64 ((IntKind.wrap .i64 ((IntKind.wrap .i64 (p0 * v12)) + (IntKind.wrap .i64 (p2 * v14)))) + (f108 v34 (65536:Int)))))
def vR1 (p0:Int) (p1:Int) (p2:Int) (p3:Int):Prop:=(pR8 p0 p1 p2 p3).1
def f109 (p0:Int) (p1:Int) (p2:Int) (p3:Int):Int:=(pR8 p0 p1 p2 p3).2
instance (p0:Int) (p1:Int) (p2:Int) (p3:Int):Decidable (vR1 p0 p1 p2 p3):=by
 unfold vR1 pR8
 try dsimp only
 infer_instance
def uX8:Am.Spec:=fnSpec [(0,vI),(1,vI),(2,vI),(3,vI)] vI [] (fun x=>vR1 x.1 x.2.1 x.2.2.1 x.2.2.2.1) (fun x=>f109 x.1 x.2.1 x.2.2.1 x.2.2.2.1) (fun _=>())
def qU0:Ctx:=Cx tys [(108,wB3),(122,uW6)] [] [] true 37 [] []
theorem qU1:CtxOk Tryz.prog qU0:=xW4 tys_ok rfl ⟨wQ2,rW3,trivial⟩ rfl (by kernel_rfl)
theorem rY0:SpecOk Tryz.prog 109 uX8:=xY3 qU1 mixed Tryz.func109 (by kernel_rfl) (bs:=[]) (by kernel_rfl) trivial fun x=>by kernel_rfl
def f78t (p0:D37):Prop × (D37 × Int × Unit) :=
 let v8:=(f77 p0)
 let v10:=(v8 != 0)
 let v23:=(IntKind.wrap .i64 ((IntKind.wrap .i64 (p0.1 * p0.2.2.2.1)) - (IntKind.wrap .i64 (p0.2.1 * p0.2.2.1))))
 let v25:=(v23 == 0)
 let v29:=(IntKind.wrap .i64 (p0.2.2.2.1 * 4294967296))
 let v31:=(f108 v29 v23)
 let v35:=(IntKind.wrap .i64 ((IntKind.wrap .i64 (Int.sub 0 p0.2.1)) * 4294967296))
 let v37:=(f108 v35 v23)
 let v41:=(IntKind.wrap .i64 ((IntKind.wrap .i64 (Int.sub 0 p0.2.2.1)) * 4294967296))
 let v43:=(f108 v41 v23)
 let v46:=(IntKind.wrap .i64 (p0.1 * 4294967296))
 let v48:=(f108 v46 v23)
 let s_2:=(v31,v37,v43,v48,(0:Int),(0:Int),())
 let v52:=((f77 s_2) != 0)
 let v56:=(IntKind.wrap .i64 (Int.sub 0 v31))
 let v61:=(IntKind.wrap .i64 (Int.sub 0 v43))
 let v68:=(IntKind.wrap .i64 (Int.sub 0 v37))
 let v73:=(IntKind.wrap .i64 (Int.sub 0 v48))
 let s_5:=(v31,v37,v43,v48,(f109 v56 p0.2.2.2.2.1 v61 p0.2.2.2.2.2.1),(f109 v68 p0.2.2.2.2.1 v73 p0.2.2.2.2.2.1),())
 let v80:=((f77 s_5) != 0)
 let m2_2:=(bif v25 then ((0:Int),(0:Int),(0:Int),(0:Int),(0:Int),(0:Int),()) else (bif v52 then ((0:Int),(0:Int),(0:Int),(0:Int),(0:Int),(0:Int),()) else (bif v80 then ((0:Int),(0:Int),(0:Int),(0:Int),(0:Int),(0:Int),()) else s_5)))
 (((vV3 p0) ∧ ((!v10) = true → ((!v25) = true → ((xZ0 v29 v23) ∧ ((xZ0 v35 v23) ∧ ((xZ0 v41 v23) ∧ ((xZ0 v46 v23) ∧ ((vV3 s_2) ∧ ((!v52) = true → ((vR1 v56 p0.2.2.2.2.1 v61 p0.2.2.2.2.2.1) ∧ ((vR1 v68 p0.2.2.2.2.1 v73 p0.2.2.2.2.2.1) ∧ (vV3 s_5)))))))))))),((bif v10 then ((0:Int),(0:Int),(0:Int),(0:Int),(0:Int),(0:Int),()) else m2_2),(bif v10 then v8 else (bif v25 then (17:Int) else (bif v52 then (17:Int) else (bif v80 then (17:Int) else (0:Int))))),()))
def rD8 (p0:D37):Prop:=(f78t p0).1
def f78 (p0:D37):(D37 × Int × Unit):=(f78t p0).2
instance (p0:D37):Decidable (rD8 p0):=by
 unfold rD8 f78t
 try dsimp only
 infer_instance
def rD9:Am.Spec:=fnSpec [(0,(.val T37))] (.tup (.cons (.val T37) (.cons vI .nl))) [] (fun x=>rD8 x.1) (fun x=>f78 x.1) (fun _=>())
def pR9:Ctx:=Cx tys [(77,vV4),(108,wB3),(109,uX8)] [] [] true 83 [] []
theorem pS:CtxOk Tryz.prog pR9:=xW4 tys_ok rfl ⟨rD7,wQ2,rY0,trivial⟩ rfl (by kernel_rfl)
theorem oN9:SpecOk Tryz.prog 78 rD9:=xY3 pS mixed Tryz.func78 (by kernel_rfl) (bs:=[]) (by kernel_rfl) trivial fun x=>by kernel_rfl
def f79t (p0:Int):Prop × Bool :=
 let v5:=(p0 == 2)
 let v6:=(p0 == 9)
 let v7:=(p0 == 10)
 (True,(bif (bif v5 then v5 else (bif v6 then v6 else (bif v7 then v7 else (p0 == 11)))) then true else false))
def sH9 (p0:Int):Prop:=(f79t p0).1
def f79 (p0:Int):Bool:=(f79t p0).2
instance (p0:Int):Decidable (sH9 p0):=by
 unfold sH9 f79t
 try dsimp only
 infer_instance
def tW1:Am.Spec:=fnSpec [(0,vI)] vB [] (fun x=>sH9 x.1) (fun x=>f79 x.1) (fun _=>())
def pS0:Ctx:=Cx tys [] [] [] false 9 [] []
theorem pS1:CtxOk Tryz.prog pS0:=xW4 tys_ok rfl trivial rfl (by kernel_rfl)
theorem pH5:SpecOk Tryz.prog 79 tW1:=xY3 pS1 mixed Tryz.func79 (by kernel_rfl) (bs:=[]) (by kernel_rfl) trivial fun x=>by kernel_rfl
def f80t (p0:Int):Prop × Bool :=
 (True,(bif (decide (p0 ≥ 0)) then (decide (p0 ≤ 4)) else false))
def rE (p0:Int):Prop:=(f80t p0).1
def f80 (p0:Int):Bool:=(f80t p0).2
instance (p0:Int):Decidable (rE p0):=by
 unfold rE f80t
 try dsimp only
 infer_instance
def rE0:Am.Spec:=fnSpec [(0,vI)] vB [] (fun x=>rE x.1) (fun x=>f80 x.1) (fun _=>())
def pS2:Ctx:=Cx tys [] [] [] false 9 [] []
theorem pS3:CtxOk Tryz.prog pS2:=xW4 tys_ok rfl trivial rfl (by kernel_rfl)
theorem oO:SpecOk Tryz.prog 80 rE0:=xY3 pS3 mixed Tryz.func80 (by kernel_rfl) (bs:=[]) (by kernel_rfl) trivial fun x=>by kernel_rfl
def f84t (p0:Int) (p1:Int):Prop × Bool :=
 (True,(bif (bif (bif (bif (decide (p0 ≥ 0)) then (decide (p0 ≤ 256)) else false) then (decide (p1 ≥ 0)) else false) then (decide (p1 ≤ 256)) else false) then (Ty.eqb .bool (p0 == 0) (p1 == 0)) else false))
def rE1 (p0:Int) (p1:Int):Prop:=(f84t p0 p1).1
def f84 (p0:Int) (p1:Int):Bool:=(f84t p0 p1).2
instance (p0:Int) (p1:Int):Decidable (rE1 p0 p1):=by
 unfold rE1 f84t
 try dsimp only
 infer_instance
def rE2:Am.Spec:=fnSpec [(0,vI),(1,vI)] vB [] (fun x=>rE1 x.1 x.2.1) (fun x=>f84 x.1 x.2.1) (fun _=>())
def pS4:Ctx:=Cx tys [] [] [] false 26 [] []
theorem pS5:CtxOk Tryz.prog pS4:=xW4 tys_ok rfl trivial rfl (by kernel_rfl)
theorem oO0:SpecOk Tryz.prog 84 rE2:=xY3 pS5 mixed Tryz.func84 (by kernel_rfl) (bs:=[]) (by kernel_rfl) trivial fun x=>by kernel_rfl
def pS6 (p0:Int):Prop × Int :=
 ((uF6 p0 (0:Int) (65535:Int)),(f138 p0 (0:Int) (65535:Int)))
def vR2 (p0:Int):Prop:=(pS6 p0).1
def f137 (p0:Int):Int:=(pS6 p0).2
instance (p0:Int):Decidable (vR2 p0):=by
 unfold vR2 pS6
 try dsimp only
 infer_instance
def sI:Am.Spec:=fnSpec [(0,vI)] vI [] (fun x=>vR2 x.1) (fun x=>f137 x.1) (fun _=>())
def qU2:Ctx:=Cx tys [(138,vV2)] [] [] false 5 [] []
theorem qU3:CtxOk Tryz.prog qU2:=xW4 tys_ok rfl ⟨sT8,trivial⟩ rfl (by kernel_rfl)
theorem pS7:SpecOk Tryz.prog 137 sI:=xY3 qU3 mixed Tryz.func137 (by kernel_rfl) (bs:=[]) (by kernel_rfl) trivial fun x=>by kernel_rfl
def pS8 (p0:D42):Prop × D42 :=
 (((vR2 p0.1) ∧ ((vR2 p0.2.1) ∧ ((vR2 p0.2.2.1) ∧ (vR2 p0.2.2.2.1)))),((f137 p0.1),(f137 p0.2.1),(f137 p0.2.2.1),(f137 p0.2.2.2.1),()))
def tW2 (p0:D42):Prop:=(pS8 p0).1
def f117 (p0:D42):D42:=(pS8 p0).2
instance (p0:D42):Decidable (tW2 p0):=by
 unfold tW2 pS8
 try dsimp only
 infer_instance
def sI0:Am.Spec:=fnSpec [(0,(.val T42))] (.val T42) [] (fun x=>tW2 x.1) (fun x=>f117 x.1) (fun _=>())
def qU4:Ctx:=Cx tys [(137,sI)] [] [] false 16 [] []
theorem qU5:CtxOk Tryz.prog qU4:=xW4 tys_ok rfl ⟨pS7,trivial⟩ rfl (by kernel_rfl)
theorem pS9:SpecOk Tryz.prog 117 sI0:=xY3 qU5 mixed Tryz.func117 (by kernel_rfl) (bs:=[]) (by kernel_rfl) trivial fun x=>by kernel_rfl
def f85t (p0:D42):Prop × Bool :=
 ((tW2 p0),(Ty.eqb T42 p0 (f117 p0)))
def uX9 (p0:D42):Prop:=(f85t p0).1
def f85 (p0:D42):Bool:=(f85t p0).2
instance (p0:D42):Decidable (uX9 p0):=by
 unfold uX9 f85t
 try dsimp only
 infer_instance
def vV5:Am.Spec:=fnSpec [(0,(.val T42))] vB [] (fun x=>uX9 x.1) (fun x=>f85 x.1) (fun _=>())
def pT:Ctx:=Cx tys [(117,sI0)] [] [] false 7 [] []
theorem pT0:CtxOk Tryz.prog pT:=xW4 tys_ok rfl ⟨pS9,trivial⟩ rfl (by kernel_rfl)
theorem rE3:SpecOk Tryz.prog 85 vV5:=xY3 pT0 mixed Tryz.func85 (by kernel_rfl) (bs:=[]) (by kernel_rfl) trivial fun x=>by kernel_rfl
abbrev wR9:Type:=((List D42) × Int × Unit)
abbrev wI4:Type:=(Int × Unit)
def uF7 (y:wR9) (x:wI4):Prop × Bool × wI4 × Bool × Bool :=
 let a23:=y.1
 let a25:=x.1
 let v26:=(decide (a25 < y.2.1))
 let v27:=(nth a23 a25 Z42)
 let v31:=(!(f85 v27))
 ((v26 = true → (InB a25 (len a23) ∧ ((uX9 v27) ∧ ((!v31) = true → InR (a25 + 1))))),(v26 && (!v31)),((a25 + 1),()),(v26 && v31),(!v26))
def vV6 (y:wR9) (x:wI4):Prop:=(uF7 y x).1
def tW3 (y:wR9) (x:wI4):Bool:=(uF7 y x).2.1
def vR3 (y:wR9) (x:wI4):wI4:=(uF7 y x).2.2.1
def sI1 (y:wR9) (x:wI4):Bool:=(uF7 y x).2.2.2.1
def rY1 (y:wR9) (x:wI4):Bool:=(uF7 y x).2.2.2.2
instance (y:wR9) (x:wI4):Decidable (vV6 y x):=by
 unfold vV6 uF7
 try dsimp only
 infer_instance
def uY (y:wR9) (x:wI4):Int :=
 (2:Int)
def uY0:St → Option Out:=xP4 [(23,(.val (.sl T42))),(24,vI)] [(25,vI)] tW3 vR3 vV6 fun y x=>[ex 1 (some (sI1 y x)) [(2,vI)] ((uY y x),()),ex 2 (some (rY1 y x)) [] ()]
def f56t (p0:D40):Prop × Int :=
 let v10:=(!(f84 p0.1 p0.2.1))
 let v21:=(bif v10 then true else ((len p0.2.2.1) != (p0.1 * p0.2.1)))
 let y4:=(p0.2.2.1,(len p0.2.2.1),())
 let x4:=((0:Int),())
 let e4:=(zC1 (tW3 y4) (vR3 y4) x4)
 (((rE1 p0.1 p0.2.1) ∧ (((!v10) = true → InR (p0.1 * p0.2.1)) ∧ ((!v21) = true → (Am.Ends (tW3 y4) (vR3 y4) (vV6 y4) x4)))),(bif v21 then (15:Int) else (bif (sI1 y4 e4) then (uY y4 e4) else (0:Int))))
def sI2 (p0:D40):Prop:=(f56t p0).1
def f56 (p0:D40):Int:=(f56t p0).2
instance (p0:D40):Decidable (sI2 p0):=by
 unfold sI2 f56t
 try dsimp only
 infer_instance
def tW4:Am.Spec:=fnSpec [(0,(.val T40))] vI [] (fun x=>sI2 x.1) (fun x=>f56 x.1) (fun _=>())
def rY2:Ctx:=Cx tys [(84,rE2),(85,vV5)] [(4,uY0)] [] false 33 [] []
theorem rY3:CtxOk Tryz.prog rY2:=xW4 tys_ok rfl ⟨oO0,rE3,trivial⟩ rfl (by kernel_rfl)
noncomputable def qU6:Code:=Tryz.f56.body.getD .skip
noncomputable def pH6:Code:=xX3 qU6 0
theorem rY4:yV Tryz.prog rY2 pH6:=xY2 rY3 mixed (sp:=uY0) rfl [[(2,vI)],[]] (bs:=[]) (by kernel_rfl) trivial (by kernel_rfl) (by kernel_rfl) fun y x=>by kernel_rfl
theorem pH7:SpecOk Tryz.prog 56 tW4:=xY3 rY3 mixed Tryz.func56 (by kernel_rfl) (bs:=[pH6]) (by kernel_rfl) ⟨rY4,trivial⟩ fun x=>by kernel_rfl
def pT1 (p0:D42):Prop × Int :=
 ((uX9 p0),(bif (!(f85 p0)) then (2:Int) else (0:Int)))
def uF8 (p0:D42):Prop:=(pT1 p0).1
def f110 (p0:D42):Int:=(pT1 p0).2
instance (p0:D42):Decidable (uF8 p0):=by
 unfold uF8 pT1
 try dsimp only
 infer_instance
def vV7:Am.Spec:=fnSpec [(0,(.val T42))] vI [] (fun x=>uF8 x.1) (fun x=>f110 x.1) (fun _=>())
def qU7:Ctx:=Cx tys [(85,vV5)] [] [] false 6 [] []
theorem qU8:CtxOk Tryz.prog qU7:=xW4 tys_ok rfl ⟨rE3,trivial⟩ rfl (by kernel_rfl)
theorem sT9:SpecOk Tryz.prog 110 vV7:=xY3 qU8 mixed Tryz.func110 (by kernel_rfl) (bs:=[]) (by kernel_rfl) trivial fun x=>by kernel_rfl
def pT2 (p0:Int) (p1:Int):Prop × Bool :=
 (True,(bif (p0 == 1) then (p1 == 4) else (p1 == 3)))
def tW5 (p0:Int) (p1:Int):Prop:=(pT2 p0 p1).1
def f139 (p0:Int) (p1:Int):Bool:=(pT2 p0 p1).2
instance (p0:Int) (p1:Int):Decidable (tW5 p0 p1):=by
 unfold tW5 pT2
 try dsimp only
 infer_instance
def sI3:Am.Spec:=fnSpec [(0,vI),(1,vI)] vB [] (fun x=>tW5 x.1 x.2.1) (fun x=>f139 x.1 x.2.1) (fun _=>())
def qU9:Ctx:=Cx tys [] [] [] false 11 [] []
theorem qV:CtxOk Tryz.prog qU9:=xW4 tys_ok rfl trivial rfl (by kernel_rfl)
theorem pT3:SpecOk Tryz.prog 139 sI3:=xY3 qV mixed Tryz.func139 (by kernel_rfl) (bs:=[]) (by kernel_rfl) trivial fun x=>by kernel_rfl
abbrev wL:Type:=(Int × (List Int) × (List Int) × Int × Unit)
abbrev wE:Type:=(Int × Unit)
def vI3 (y:wL) (x:wE):Prop × Bool × wE × Bool × Bool :=
 let a36:=y.2.2.1
 let a38:=x.1
 let v39:=(decide (a38 < y.2.2.2.1))
 let v40:=(nth a36 a38 (0:Int))
 let v47:=(bif (decide (v40 < (-1048576))) then true else (decide (v40 > 1048576)))
 ((v39 = true → (InB a38 (len a36) ∧ ((!v47) = true → InR (a38 + 1)))),(v39 && (!v47)),((a38 + 1),()),(v39 && v47),(!v39))
def vI4 (y:wL) (x:wE):Prop:=(vI3 y x).1
def uY1 (y:wL) (x:wE):Bool:=(vI3 y x).2.1
def vD4 (y:wL) (x:wE):wE:=(vI3 y x).2.2.1
def tN5 (y:wL) (x:wE):Bool:=(vI3 y x).2.2.2.1
def tN6 (y:wL) (x:wE):Bool:=(vI3 y x).2.2.2.2
instance (y:wL) (x:wE):Decidable (vI4 y x):=by
 unfold vI4 vI3
 try dsimp only
 infer_instance
def uJ9 (y:wL) (x:wE):Int :=
 (2:Int)
def tN7:List (Nat × Sh):=[(0,vI),(1,(.val (.sl (.int .i64))))]
def uK:St → Option Out:=xP4 [(0,vI),(1,(.val (.sl (.int .i64)))),(36,(.val (.sl (.int .i64)))),(37,vI)] [(38,vI)] uY1 vD4 vI4 fun y x=>[ex 1 (some (tN5 y x)) [(8,vI)] ((uJ9 y x),()),ex 2 (some (tN6 y x)) tN7 (y.1,y.2.1,())]
def pT4 (p0:Int) (p1:(List Int)) (p2:Int) (p3:Int):Prop × Int :=
 let v24:=(bif (bif (bif (decide (p0 < 1)) then true else (decide (p0 > 4))) then true else (decide (p2 < 0))) then true else (decide (p2 > 2)))
 let v27:=(len p1)
 let v33:=(bif (!(f139 p0 v27)) then true else (p3 == 0))
 let v35:=(decide (p3 > 16))
 let y8:=(p0,p1,p1,(len p1),())
 let x8:=((0:Int),())
 let e8:=(zC1 (uY1 y8) (vD4 y8) x8)
 let v54:=(bif (p0 == 2) then true else (p0 == 4))
 let m8_3:=(bif v33 then (1:Int) else (bif v35 then (3:Int) else (bif (tN5 y8 e8) then (uJ9 y8 e8) else (bif (bif v54 then (decide ((nth p1 (2:Int) (0:Int)) < 0)) else false) then (2:Int) else (0:Int)))))
 (((!v24) = true → ((tW5 p0 v27) ∧ ((!v33) = true → ((!v35) = true → ((Am.Ends (uY1 y8) (vD4 y8) (vI4 y8) x8) ∧ ((tN6 y8 e8) = true → (v54 = true → InB (2:Int) (len p1)))))))),(bif v24 then (8:Int) else m8_3))
def tW6 (p0:Int) (p1:(List Int)) (p2:Int) (p3:Int):Prop:=(pT4 p0 p1 p2 p3).1
def f123 (p0:Int) (p1:(List Int)) (p2:Int) (p3:Int):Int:=(pT4 p0 p1 p2 p3).2
instance (p0:Int) (p1:(List Int)) (p2:Int) (p3:Int):Decidable (tW6 p0 p1 p2 p3):=by
 unfold tW6 pT4
 try dsimp only
 infer_instance
def sI4:Am.Spec:=fnSpec [(0,vI),(1,(.val (.sl (.int .i64)))),(2,vI),(3,vI)] vI [] (fun x=>tW6 x.1 x.2.1 x.2.2.1 x.2.2.2.1) (fun x=>f123 x.1 x.2.1 x.2.2.1 x.2.2.2.1) (fun _=>())
def rE4:Ctx:=Cx tys [(139,sI3)] [(8,uK)] [] false 61 [] []
theorem rE5:CtxOk Tryz.prog rE4:=xW4 tys_ok rfl ⟨pT3,trivial⟩ rfl (by kernel_rfl)
noncomputable def rY5:Code:=Tryz.f123.body.getD .skip
noncomputable def rY6:Code:=xX3 rY5 0
theorem rQ5:yV Tryz.prog rE4 rY6:=xY2 rE5 mixed (sp:=uK) rfl [[(8,vI)],tN7] (bs:=[]) (by kernel_rfl) trivial (by kernel_rfl) (by kernel_rfl) fun y x=>by kernel_rfl
theorem pT5:SpecOk Tryz.prog 123 sI4:=xY3 rE5 mixed Tryz.func123 (by kernel_rfl) (bs:=[rY6]) (by kernel_rfl) ⟨rQ5,trivial⟩ fun x=>by kernel_rfl
abbrev wL0:Type:=((List D122) × (List D122) × Int × Unit)
abbrev wE0:Type:=(Int × Unit)
def vI5 (y:wL0) (x:wE0):Prop × Bool × wE0 × Bool × Bool :=
 let a0:=y.1
 let a5:=y.2.1
 let a7:=x.1
 let v8:=(decide (a7 < y.2.2.1))
 let v10:=(nth a5 a7 Z122)
 let v19:=(bif (decide (v10.1 < 0)) then true else (decide (v10.1 > 65535)))
 let v25:=(bif v19 then true else (!(f85 v10.2.1)))
 let v27:=(decide (a7 > 0))
 let v33:=(a7 - 1)
 let v38:=(bif v27 then (decide (v10.1 ≤ (nth a0 v33 Z122).1)) else false)
 let c_2:=((!v25) && (!v38))
 ((v8 = true → (InB a7 (len a5) ∧ (((!v19) = true → (uX9 v10.2.1)) ∧ (((!v25) = true → ((v27 = true → InR (a7 - 1)) ∧ (v27 = true → InB v33 (len a0)))) ∧ (c_2 = true → InR (a7 + 1)))))),(v8 && c_2),((a7 + 1),()),(v8 && (v25 || ((!v25) && v38))),(!v8))
def vI6 (y:wL0) (x:wE0):Prop:=(vI5 y x).1
def uY2 (y:wL0) (x:wE0):Bool:=(vI5 y x).2.1
def vD5 (y:wL0) (x:wE0):wE0:=(vI5 y x).2.2.1
def tN8 (y:wL0) (x:wE0):Bool:=(vI5 y x).2.2.2.1
def rQ6 (y:wL0) (x:wE0):Bool:=(vI5 y x).2.2.2.2
instance (y:wL0) (x:wE0):Decidable (vI6 y x):=by
 unfold vI6 vI5
 try dsimp only
 infer_instance
def uK0 (y:wL0) (x:wE0):Int :=
 let v10:=(nth y.2.1 x.1 Z122)
 (bif (bif (bif (decide (v10.1 < 0)) then true else (decide (v10.1 > 65535))) then true else (!(f85 v10.2.1))) then (2:Int) else (24:Int))
def uK1:St → Option Out:=xP4 [(0,(.val (.sl T122))),(5,(.val (.sl T122))),(6,vI)] [(7,vI)] uY2 vD5 vI6 fun y x=>[ex 1 (some (tN8 y x)) [(2,vI)] ((uK0 y x),()),ex 2 (some (rQ6 y x)) [] ()]
def pT6 (p0:(List D122)):Prop × Int :=
 let y2:=(p0,p0,(len p0),())
 let x2:=((0:Int),())
 let e2:=(zC1 (uY2 y2) (vD5 y2) x2)
 ((Am.Ends (uY2 y2) (vD5 y2) (vI6 y2) x2),(bif (tN8 y2 e2) then (uK0 y2 e2) else (0:Int)))
def tW7 (p0:(List D122)):Prop:=(pT6 p0).1
def f124 (p0:(List D122)):Int:=(pT6 p0).2
instance (p0:(List D122)):Decidable (tW7 p0):=by
 unfold tW7 pT6
 try dsimp only
 infer_instance
def sI5:Am.Spec:=fnSpec [(0,(.val (.sl T122)))] vI [] (fun x=>tW7 x.1) (fun x=>f124 x.1) (fun _=>())
def rE6:Ctx:=Cx tys [(85,vV5)] [(2,uK1)] [] false 40 [] []
theorem rE7:CtxOk Tryz.prog rE6:=xW4 tys_ok rfl ⟨rE3,trivial⟩ rfl (by kernel_rfl)
noncomputable def rY7:Code:=Tryz.f124.body.getD .skip
noncomputable def rY8:Code:=xX3 rY7 0
theorem rQ7:yV Tryz.prog rE6 rY8:=xY2 rE7 mixed (sp:=uK1) rfl [[(2,vI)],[]] (bs:=[]) (by kernel_rfl) trivial (by kernel_rfl) (by kernel_rfl) fun y x=>by kernel_rfl
theorem pT7:SpecOk Tryz.prog 124 sI5:=xY3 rE7 mixed Tryz.func124 (by kernel_rfl) (bs:=[rY8]) (by kernel_rfl) ⟨rQ7,trivial⟩ fun x=>by kernel_rfl
def pT8 (p0:Int) (p1:(List Int)) (p2:Int) (p3:(List D122)):Prop × Int :=
 let v14:=(len p3)
 let v15:=(f123 p0 p1 p2 v14)
 let v17:=(v15 != 0)
 (((tW6 p0 p1 p2 v14) ∧ ((!v17) = true → (tW7 p3))),(bif v17 then v15 else (f124 p3)))
def tW8 (p0:Int) (p1:(List Int)) (p2:Int) (p3:(List D122)):Prop:=(pT8 p0 p1 p2 p3).1
def f111 (p0:Int) (p1:(List Int)) (p2:Int) (p3:(List D122)):Int:=(pT8 p0 p1 p2 p3).2
instance (p0:Int) (p1:(List Int)) (p2:Int) (p3:(List D122)):Decidable (tW8 p0 p1 p2 p3):=by
 unfold tW8 pT8
 try dsimp only
 infer_instance
def sI6:Am.Spec:=fnSpec [(0,vI),(1,(.val (.sl (.int .i64)))),(2,vI),(3,(.val (.sl T122)))] vI [] (fun x=>tW8 x.1 x.2.1 x.2.2.1 x.2.2.2.1) (fun x=>f111 x.1 x.2.1 x.2.2.1 x.2.2.2.1) (fun _=>())
def qV0:Ctx:=Cx tys [(123,sI4),(124,sI5)] [] [] false 21 [] []
theorem qV1:CtxOk Tryz.prog qV0:=xW4 tys_ok rfl ⟨pT5,pT7,trivial⟩ rfl (by kernel_rfl)
theorem pT9:SpecOk Tryz.prog 111 sI6:=xY3 qV1 mixed Tryz.func111 (by kernel_rfl) (bs:=[]) (by kernel_rfl) trivial fun x=>by kernel_rfl
def pU (p0:Int):Prop × Int :=
 let v5:=(p0 == 3)
 let v7:=(p0 == 4)
 (True,(bif (bif v5 then true else (bif v7 then true else (p0 == 5))) then (bif v5 then (2:Int) else (bif v7 then (3:Int) else (0:Int))) else (1:Int)))
def uY3 (p0:Int):Prop:=(pU p0).1
def f141 (p0:Int):Int:=(pU p0).2
instance (p0:Int):Decidable (uY3 p0):=by
 unfold uY3 pU
 try dsimp only
 infer_instance
def uY4:Am.Spec:=fnSpec [(0,vI)] vI [] (fun x=>uY3 x.1) (fun x=>f141 x.1) (fun _=>())
def qV2:Ctx:=Cx tys [] [] [] false 10 [] []
theorem qV3:CtxOk Tryz.prog qV2:=xW4 tys_ok rfl trivial rfl (by kernel_rfl)
theorem rY9:SpecOk Tryz.prog 141 uY4:=xY3 qV3 mixed Tryz.func141 (by kernel_rfl) (bs:=[]) (by kernel_rfl) trivial fun x=>by kernel_rfl
def pU0 (p0:D125):Prop × Bool :=
 (True,(bif (bif (bif (decide (p0.1 < (-16777216))) then true else (decide (p0.1 > 16777216))) then true else (decide (p0.2.1 < (-16777216)))) then true else (decide (p0.2.1 > 16777216))))
def vR4 (p0:D125):Prop:=(pU0 p0).1
def f143 (p0:D125):Bool:=(pU0 p0).2
instance (p0:D125):Decidable (vR4 p0):=by
 unfold vR4 pU0
 try dsimp only
 infer_instance
def vV8:Am.Spec:=fnSpec [(0,(.val T125))] vB [] (fun x=>vR4 x.1) (fun x=>f143 x.1) (fun _=>())
def qV4:Ctx:=Cx tys [] [] [] false 21 [] []
theorem qV5:CtxOk Tryz.prog qV4:=xW4 tys_ok rfl trivial rfl (by kernel_rfl)
theorem sU:SpecOk Tryz.prog 143 vV8:=xY3 qV5 mixed Tryz.func143 (by kernel_rfl) (bs:=[]) (by kernel_rfl) trivial fun x=>by kernel_rfl
abbrev wL1:Type:=((List D128) × Int × D128 × (List D128) × Int × Int × (List D125) × Unit)
abbrev wE1:Type:=(Int × Unit)
def vI7 (y:wL1) (x:wE1):Prop × Bool × wE1 × Bool × Bool :=
 let a4:=y.2.2.1
 let a27:=x.1
 let v28:=(decide (a27 < 3))
 let v30:=(nth y.2.2.2.2.2.2.1 a27 Z125)
 let v32:=(f143 v30)
 let v44:=(bif v32 then true else (bif (decide (a27 ≥ (f141 a4.1))) then (!(Ty.eqb T125 v30 ((0:Int),(0:Int),()))) else false))
 ((v28 = true → (InB a27 3 ∧ ((vR4 v30) ∧ (((!v32) = true → (uY3 a4.1)) ∧ ((!v44) = true → InR (a27 + 1)))))),(v28 && (!v44)),((a27 + 1),()),(v28 && v44),(!v28))
def vI8 (y:wL1) (x:wE1):Prop:=(vI7 y x).1
def vV9 (y:wL1) (x:wE1):Bool:=(vI7 y x).2.1
def wS (y:wL1) (x:wE1):wE1:=(vI7 y x).2.2.1
def uF9 (y:wL1) (x:wE1):Bool:=(vI7 y x).2.2.2.1
def tN9 (y:wL1) (x:wE1):Bool:=(vI7 y x).2.2.2.2
instance (y:wL1) (x:wE1):Decidable (vI8 y x):=by
 unfold vI8 vI7
 try dsimp only
 infer_instance
def uK2 (y:wL1) (x:wE1):Int :=
 (2:Int)
def tO:List (Nat × Sh):=[(0,(.val (.sl T128))),(3,vI),(4,(.box T128 (.val T128))),(10,(.val (.sl T128))),(11,vI),(12,vI)]
def uK3:St → Option Out:=xP4 [(0,(.val (.sl T128))),(3,vI),(4,(.box T128 (.val T128))),(10,(.val (.sl T128))),(11,vI),(12,vI),(26,(.val (.arr 3 T125)))] [(27,vI)] vV9 wS vI8 fun y x=>[ex 1 (some (uF9 y x)) [(2,vI)] ((uK2 y x),()),ex 4 (some (tN9 y x)) tO (y.1,y.2.1,y.2.2.1,y.2.2.2.1,y.2.2.2.2.1,y.2.2.2.2.2.1,())]
abbrev wL2:Type:=((List D128) × (List D128) × Int × Unit)
abbrev wE2:Type:=(Int × Unit)
def vI9 (y:wL2) (x:wE2):Prop × Bool × wE2 × Bool × Bool :=
 let a0:=y.1
 let a10:=y.2.1
 let a11:=y.2.2.1
 let a12:=x.1
 let v13:=(decide (a12 < a11))
 let v15:=(nth a10 a12 Z128)
 let v24:=(bif (decide (v15.1 < 1)) then true else (decide (v15.1 > 5)))
 let y9:=(a0,a12,v15,a10,a11,a12,v15.2.1,())
 let x9:=((0:Int),())
 let e9:=(zC1 (vV9 y9) (wS y9) x9)
 let q9_4:=(tN9 y9 e9)
 let v48:=(v15.1 != 1)
 let v51:=(a12 == 0)
 let v55:=(a12 - 1)
 let v61:=(bif v48 then (bif v51 then true else ((nth a0 v55 Z128).1 == 5)) else false)
 let c_5:=((!v24) && (q9_4 && (!v61)))
 ((v13 = true → (InB a12 (len a10) ∧ (((!v24) = true → ((Am.Ends (vV9 y9) (wS y9) (vI8 y9) x9) ∧ (q9_4 = true → (((v48 && (!v51)) = true → InR (a12 - 1)) ∧ ((v48 && (!v51)) = true → InB v55 (len a0)))))) ∧ (c_5 = true → InR (a12 + 1))))),(v13 && c_5),((a12 + 1),()),(v13 && (v24 || ((!v24) && ((uF9 y9 e9) || (q9_4 && v61))))),(!v13))
def vJ (y:wL2) (x:wE2):Prop:=(vI9 y x).1
def uY5 (y:wL2) (x:wE2):Bool:=(vI9 y x).2.1
def vD6 (y:wL2) (x:wE2):wE2:=(vI9 y x).2.2.1
def tO0 (y:wL2) (x:wE2):Bool:=(vI9 y x).2.2.2.1
def rQ8 (y:wL2) (x:wE2):Bool:=(vI9 y x).2.2.2.2
instance (y:wL2) (x:wE2):Decidable (vJ y x):=by
 unfold vJ vI9
 try dsimp only
 infer_instance
def uK4 (y:wL2) (x:wE2):Int :=
 let a10:=y.2.1
 let a12:=x.1
 let v15:=(nth a10 a12 Z128)
 let y9:=(y.1,a12,v15,a10,y.2.2.1,a12,v15.2.1,())
 let e9:=(zC1 (vV9 y9) (wS y9) ((0:Int),()))
 (bif (bif (decide (v15.1 < 1)) then true else (decide (v15.1 > 5))) then (8:Int) else (bif (uF9 y9 e9) then (uK2 y9 e9) else (24:Int)))
def uK5:St → Option Out:=xP4 [(0,(.val (.sl T128))),(10,(.val (.sl T128))),(11,vI)] [(12,vI)] uY5 vD6 vJ fun y x=>[ex 1 (some (tO0 y x)) [(2,vI)] ((uK4 y x),()),ex 2 (some (rQ8 y x)) [] ()]
def pU1 (p0:(List D128)):Prop × Int :=
 let v9:=(decide ((len p0) > 128))
 let y4:=(p0,p0,(len p0),())
 let x4:=((0:Int),())
 let e4:=(zC1 (uY5 y4) (vD6 y4) x4)
 (((!v9) = true → (Am.Ends (uY5 y4) (vD6 y4) (vJ y4) x4)),(bif v9 then (3:Int) else (bif (tO0 y4 e4) then (uK4 y4 e4) else (0:Int))))
def vR5 (p0:(List D128)):Prop:=(pU1 p0).1
def f140 (p0:(List D128)):Int:=(pU1 p0).2
instance (p0:(List D128)):Decidable (vR5 p0):=by
 unfold vR5 pU1
 try dsimp only
 infer_instance
def vD7:Am.Spec:=fnSpec [(0,(.val (.sl T128)))] vI [] (fun x=>vR5 x.1) (fun x=>f140 x.1) (fun _=>())
def tW9:Ctx:=Cx tys [(141,uY4),(143,vV8)] [(9,uK3),(4,uK5)] [] false 63 [] []
theorem tX:CtxOk Tryz.prog tW9:=xW4 tys_ok rfl ⟨rY9,sU,trivial⟩ rfl (by kernel_rfl)
noncomputable def rZ:Code:=Tryz.f140.body.getD .skip
noncomputable def sU0:Code:=xX3 rZ 0
noncomputable def rZ0:Code:=xX3 sU0 0
theorem rQ9:yV Tryz.prog tW9 rZ0:=xY2 tX mixed (sp:=uK3) rfl [[(2,vI)],tO] (bs:=[]) (by kernel_rfl) trivial (by kernel_rfl) (by kernel_rfl) fun y x=>by kernel_rfl
theorem rR:yV Tryz.prog tW9 sU0:=xY2 tX mixed (sp:=uK5) rfl [[(2,vI)],[]] (bs:=[rZ0]) (by kernel_rfl) ⟨rQ9,trivial⟩ (by kernel_rfl) (by kernel_rfl) fun y x=>by kernel_rfl
theorem tX0:SpecOk Tryz.prog 140 vD7:=xY3 tX mixed Tryz.func140 (by kernel_rfl) (bs:=[sU0]) (by kernel_rfl) ⟨rR,trivial⟩ fun x=>by kernel_rfl
def pU2 (p0:D37) (p1:D125):Prop × D125 :=
 let v8:=(f107 p0)
 let v11:=(f121 p1.1)
 let v14:=(f121 p1.2.1)
 let v24:=(IntKind.wrap .i64 ((f109 v8.1 v11 v8.2.2.1 v14) + v8.2.2.2.2.1))
 let v35:=(IntKind.wrap .i64 ((f109 v8.2.1 v11 v8.2.2.2.1 v14) + v8.2.2.2.2.2.1))
 (((uX6 p0) ∧ ((wZ5 p1.1) ∧ ((wZ5 p1.2.1) ∧ ((vR1 v8.1 v11 v8.2.2.1 v14) ∧ ((wZ5 v24) ∧ ((vR1 v8.2.1 v11 v8.2.2.2.1 v14) ∧ (wZ5 v35))))))),((f121 v24),(f121 v35),()))
def tX1 (p0:D37) (p1:D125):Prop:=(pU2 p0 p1).1
def f155 (p0:D37) (p1:D125):D125:=(pU2 p0 p1).2
instance (p0:D37) (p1:D125):Decidable (tX1 p0 p1):=by
 unfold tX1 pU2
 try dsimp only
 infer_instance
def sI7:Am.Spec:=fnSpec [(0,(.val T37)),(1,(.val T125))] (.val T125) [] (fun x=>tX1 x.1 x.2.1) (fun x=>f155 x.1 x.2.1) (fun _=>())
def qV6:Ctx:=Cx tys [(107,uX7),(109,uX8),(121,uX5)] [] [] true 38 [] []
theorem qV7:CtxOk Tryz.prog qV6:=xW4 tys_ok rfl ⟨rY,rY0,rX9,trivial⟩ rfl (by kernel_rfl)
theorem pU3:SpecOk Tryz.prog 155 sI7:=xY3 qV7 mixed Tryz.func155 (by kernel_rfl) (bs:=[]) (by kernel_rfl) trivial fun x=>by kernel_rfl
def pU4 (p0:D37) (p1:D125):Prop × D125 :=
 let s:=((IntKind.wrap .i64 (4096 * p1.1)),(IntKind.wrap .i64 (4096 * p1.2.1)),())
 let v14:=(f155 p0 s)
 (((tX1 p0 s) ∧ ((xZ0 v14.1 (4096:Int)) ∧ (xZ0 v14.2.1 (4096:Int)))),((f108 v14.1 (4096:Int)),(f108 v14.2.1 (4096:Int)),()))
def uY6 (p0:D37) (p1:D125):Prop:=(pU4 p0 p1).1
def f142 (p0:D37) (p1:D125):D125:=(pU4 p0 p1).2
instance (p0:D37) (p1:D125):Decidable (uY6 p0 p1):=by
 unfold uY6 pU4
 try dsimp only
 infer_instance
def uY7:Am.Spec:=fnSpec [(0,(.val T37)),(1,(.val T125))] (.val T125) [] (fun x=>uY6 x.1 x.2.1) (fun x=>f142 x.1 x.2.1) (fun _=>())
def qV8:Ctx:=Cx tys [(108,wB3),(155,sI7)] [] [] true 22 [] []
theorem qV9:CtxOk Tryz.prog qV8:=xW4 tys_ok rfl ⟨wQ2,pU3,trivial⟩ rfl (by kernel_rfl)
theorem rZ1:SpecOk Tryz.prog 142 uY7:=xY3 qV9 mixed Tryz.func142 (by kernel_rfl) (bs:=[]) (by kernel_rfl) trivial fun x=>by kernel_rfl
abbrev wB7:Type:=(D37 × Int × D128 × (List D128) × Int × Int × Int × Unit)
abbrev xZ4:Type:=((List D128) × Int × Unit)
def wV9 (y:wB7) (x:xZ4):Prop × Bool × xZ4 × Bool × Bool :=
 let a3:=y.1
 let a9:=y.2.1
 let a8:=x.1
 let a42:=x.2.1
 let v43:=(decide (a42 < y.2.2.2.2.2.2.1))
 let v49:=(nth y.2.2.1.2.1 a42 Z125)
 let v50:=(f142 a3 v49)
 let v52:=(f143 v50)
 ((v43 = true → (InB a42 3 ∧ ((uY6 a3 v49) ∧ ((vR4 v50) ∧ (((!v52) = true → (InB a9 (len a8) ∧ (InB a42 3 ∧ a9 < len a8))) ∧ ((!v52) = true → InR (a42 + 1))))))),(v43 && (!v52)),((List.set a8 (Int.toNat a9) ((nth a8 a9 Z128).1,(List.set (nth a8 a9 Z128).2.1 (Int.toNat a42) v50),())),(a42 + 1),()),(v43 && v52),(!v43))
def wZ6 (y:wB7) (x:xZ4):Prop:=(wV9 y x).1
def wW (y:wB7) (x:xZ4):Bool:=(wV9 y x).2.1
def wH3 (y:wB7) (x:xZ4):xZ4:=(wV9 y x).2.2.1
def uY8 (y:wB7) (x:xZ4):Bool:=(wV9 y x).2.2.2.1
def uY9 (y:wB7) (x:xZ4):Bool:=(wV9 y x).2.2.2.2
instance (y:wB7) (x:xZ4):Decidable (wZ6 y x):=by
 unfold wZ6 wV9
 try dsimp only
 infer_instance
def vW (y:wB7) (x:xZ4):(List D128) :=
 ([]:List D128)
def vW0 (y:wB7) (x:xZ4):Int :=
 (2:Int)
def uZ:List (Nat × Sh):=[(4,(.own T128 0 false)),(5,vI)]
def vW1 (y:wB7) (x:xZ4):(List D128) :=
 x.1
def uZ0:List (Nat × Sh):=[(3,(.box T37 (.val T37))),(8,(.own T128 1008 true)),(26,(.val (.sl T128))),(27,vI),(28,vI)]
def vW2:St → Option Out:=xP4 [(3,(.box T37 (.val T37))),(9,vI),(10,(.box T128 (.val T128))),(26,(.val (.sl T128))),(27,vI),(28,vI),(41,vI)] [(8,(.own T128 1008 true)),(42,vI)] wW wH3 wZ6 fun y x=>[ex 1 (some (uY8 y x)) uZ ((vW y x),(vW0 y x),()),ex 4 (some (uY9 y x)) uZ0 (y.1,(vW1 y x),y.2.2.2.1,y.2.2.2.2.1,y.2.2.2.2.2.1,())]
abbrev wE3:Type:=(D37 × (List D128) × Int × Unit)
abbrev wB4:Type:=((List D128) × Int × Unit)
def vJ0 (y:wE3) (x:wB4):Prop × Bool × wB4 × Bool × Bool :=
 let a26:=y.2.1
 let a27:=y.2.2.1
 let a8:=x.1
 let a28:=x.2.1
 let v29:=(decide (a28 < a27))
 let v31:=(nth a26 a28 Z128)
 let y13:=(y.1,a28,v31,a26,a27,a28,(f141 v31.1),())
 let x13:=((List.set a8 (Int.toNat a28) (v31.1,(nth a8 a28 Z128).2.1,())),(0:Int),())
 let e13:=(zC1 (wW y13) (wH3 y13) x13)
 let q13_4:=(uY9 y13 e13)
 ((v29 = true → (InB a28 (len a26) ∧ (InB a28 (len a8) ∧ (a28 < len a8 ∧ ((uY3 v31.1) ∧ ((Am.Ends (wW y13) (wH3 y13) (wZ6 y13) x13) ∧ (q13_4 = true → InR (a28 + 1)))))))),(v29 && q13_4),((vW1 y13 e13),(a28 + 1),()),(v29 && (uY8 y13 e13)),(!v29))
def vJ1 (y:wE3) (x:wB4):Prop:=(vJ0 y x).1
def uZ1 (y:wE3) (x:wB4):Bool:=(vJ0 y x).2.1
def vD8 (y:wE3) (x:wB4):wB4:=(vJ0 y x).2.2.1
def tO1 (y:wE3) (x:wB4):Bool:=(vJ0 y x).2.2.2.1
def rR0 (y:wE3) (x:wB4):Bool:=(vJ0 y x).2.2.2.2
instance (y:wE3) (x:wB4):Decidable (vJ1 y x):=by
 unfold vJ1 vJ0
 try dsimp only
 infer_instance
def uK6 (y:wE3) (x:wB4):(List D128) :=
 let a26:=y.2.1
 let a8:=x.1
 let a28:=x.2.1
 let v31:=(nth a26 a28 Z128)
 let y13:=(y.1,a28,v31,a26,y.2.2.1,a28,(f141 v31.1),())
 (vW y13 (zC1 (wW y13) (wH3 y13) ((List.set a8 (Int.toNat a28) (v31.1,(nth a8 a28 Z128).2.1,())),(0:Int),())))
def uK7 (y:wE3) (x:wB4):Int :=
 let a26:=y.2.1
 let a8:=x.1
 let a28:=x.2.1
 let v31:=(nth a26 a28 Z128)
 let y13:=(y.1,a28,v31,a26,y.2.2.1,a28,(f141 v31.1),())
 (vW0 y13 (zC1 (wW y13) (wH3 y13) ((List.set a8 (Int.toNat a28) (v31.1,(nth a8 a28 Z128).2.1,())),(0:Int),())))
def tO2:List (Nat × Sh):=[(4,(.own T128 0 false)),(5,vI)]
def uK8 (y:wE3) (x:wB4):(List D128) :=
 x.1
def uK9:St → Option Out:=xP4 [(3,(.box T37 (.val T37))),(26,(.val (.sl T128))),(27,vI)] [(8,(.own T128 1008 true)),(28,vI)] uZ1 vD8 vJ1 fun y x=>[ex 1 (some (tO1 y x)) tO2 ((uK6 y x),(uK7 y x),()),ex 2 (some (rR0 y x)) [(8,(.own T128 1008 true))] ((uK8 y x),())]
def pU5 (p0:(List D128)) (p1:D37):Prop × ((List D128) × Int × Unit) :=
 let v14:=(f140 p0)
 let v16:=(v14 != 0)
 let v19:=(f77 p1)
 let v21:=(v19 != 0)
 let v24:=(len p0)
 let y9:=(p1,p0,(len p0),())
 let x9:=((List.replicate (Int.toNat v24) Z128),(0:Int),())
 let e9:=(zC1 (uZ1 y9) (vD8 y9) x9)
 let q9_1:=(tO1 y9 e9)
 (((vR5 p0) ∧ ((!v16) = true → ((vV3 p1) ∧ ((!v21) = true → ((0 ≤ v24 ∧ v24 ≤ v24 ∧ v24 ≤ 4294967296) ∧ (Am.Ends (uZ1 y9) (vD8 y9) (vJ1 y9) x9)))))),((bif v16 then [] else (bif v21 then [] else (bif q9_1 then (uK6 y9 e9) else (uK8 y9 e9)))),(bif v16 then v14 else (bif v21 then v19 else (bif q9_1 then (uK7 y9 e9) else (0:Int)))),()))
def tX2 (p0:(List D128)) (p1:D37):Prop:=(pU5 p0 p1).1
def f125 (p0:(List D128)) (p1:D37):((List D128) × Int × Unit):=(pU5 p0 p1).2
instance (p0:(List D128)) (p1:D37):Decidable (tX2 p0 p1):=by
 unfold tX2 pU5
 try dsimp only
 infer_instance
def sI8:Am.Spec:=fnSpec [(0,(.val (.sl T128))),(1,(.val T37))] (.tup (.cons (.val (.sl T128)) (.cons vI .nl))) [] (fun x=>tX2 x.1 x.2.1) (fun x=>f125 x.1 x.2.1) (fun _=>())
def tX3:Ctx:=Cx tys [(77,vV4),(140,vD7),(141,uY4),(142,uY7),(143,vV8)] [(13,vW2),(9,uK9)] [(15,[(4,0,25,1008)]),(43,[(1,4,0,0),(4,0,1008,0)])] false 63 [] [25]
theorem tX4:CtxOk Tryz.prog tX3:=xW4 tys_ok rfl ⟨rD7,tX0,rY9,rZ1,sU,trivial⟩ rfl (by kernel_rfl)
noncomputable def rZ2:Code:=Tryz.f125.body.getD .skip
noncomputable def sU1:Code:=xX3 rZ2 0
noncomputable def rE8:Code:=xX3 sU1 0
theorem sU2:yV Tryz.prog tX3 rE8:=xY2 tX4 mixed (sp:=vW2) rfl [uZ,uZ0] (bs:=[]) (by kernel_rfl) trivial (by kernel_rfl) (by kernel_rfl) fun y x=>by kernel_rfl
theorem rR1:yV Tryz.prog tX3 sU1:=xY2 tX4 mixed (sp:=uK9) rfl [tO2,[(8,(.own T128 1008 true))]] (bs:=[rE8]) (by kernel_rfl) ⟨sU2,trivial⟩ (by kernel_rfl) (by kernel_rfl) fun y x=>by kernel_rfl
theorem pU6:SpecOk Tryz.prog 125 sI8:=xY3 tX4 mixed Tryz.func125 (by kernel_rfl) (bs:=[sU1]) (by kernel_rfl) ⟨rR1,trivial⟩ fun x=>by kernel_rfl
def uT (p0:D125) (p1:(List D125)):Prop × (Unit) × ((List D125) × Unit) :=
 let v7:=(IntKind.wrap .i64 ((len p1) - 1))
 let v10:=(!(Ty.eqb T125 p0 (nth p1 v7 Z125)))
 let v13:=([p0]:List D125)
 ((InB v7 (len p1) ∧ (v10 = true → ((List.length p1 + List.length v13:Nat):Int) ≤ 4294967296)),(),((bif v10 then (p1 ++ v13) else p1),()))
def wP3 (p0:D125) (p1:(List D125)):Prop:=(uT p0 p1).1
def pU7 (p0:D125) (p1:(List D125)):(Unit):=(uT p0 p1).2.1
def vW3 (p0:D125) (p1:(List D125)):((List D125) × Unit):=(uT p0 p1).2.2
instance (p0:D125) (p1:(List D125)):Decidable (wP3 p0 p1):=by
 unfold wP3 uT
 try dsimp only
 infer_instance
def uL:Am.Spec:=fnSpec [(0,(.val T125)),(1,(.box (.sl T125) (.own T125 400100 false)))] (.tup .nl) [(1,(.box (.sl T125) (.own T125 400100 false)))] (fun x=>wP3 x.1 x.2.1) (fun x=>pU7 x.1 x.2.1) (fun x=>vW3 x.1 x.2.1)
def sU3:Ctx:=Cx tys [] [] [(5,[(4,0,14,400100)])] true 15 [1] []
theorem sU4:CtxOk Tryz.prog sU3:=xW4 tys_ok rfl trivial rfl (by kernel_rfl)
theorem rR2:SpecOk Tryz.prog 156 uL:=xY3 sU4 mixed Tryz.func156 (by kernel_rfl) (bs:=[]) (by kernel_rfl) trivial fun x=>by kernel_rfl
abbrev wG0:Type:=(D128 × D125 × (Unit × Unit) × Unit)
abbrev wA9:Type:=((List D125) × Int × Unit)
def wZ7 (y:wG0) (x:wA9):Prop × Bool × wA9 :=
 let a3:=y.1
 let a5:=y.2.1
 let a2:=x.1
 let a7:=x.2.1
 let v37:=(decide (a7 ≤ 8))
 let v41:=(IntKind.wrap .i64 (8 - a7))
 let v44:=(IntKind.wrap .i64 (v41 * v41))
 let v48:=(IntKind.wrap .i64 ((IntKind.wrap .i64 (2 * a7)) * v41))
 let v51:=(IntKind.wrap .i64 (a7 * a7))
 let v70:=(IntKind.wrap .i64 ((IntKind.wrap .i64 ((IntKind.wrap .i64 (v44 * a5.1)) + (IntKind.wrap .i64 (v48 * ((nth a3.2.1 (0:Int) Z125).1))))) + (IntKind.wrap .i64 (v51 * ((nth a3.2.1 (1:Int) Z125).1)))))
 let v89:=(IntKind.wrap .i64 ((IntKind.wrap .i64 ((IntKind.wrap .i64 (v44 * a5.2.1)) + (IntKind.wrap .i64 (v48 * ((nth a3.2.1 (0:Int) Z125).2.1))))) + (IntKind.wrap .i64 (v51 * ((nth a3.2.1 (1:Int) Z125).2.1)))))
 let s:=((f108 v70 (64:Int)),(f108 v89 (64:Int)),())
 ((v37 = true → (InB (0:Int) 3 ∧ (InB (1:Int) 3 ∧ ((xZ0 v70 (64:Int)) ∧ (InB (0:Int) 3 ∧ (InB (1:Int) 3 ∧ ((xZ0 v89 (64:Int)) ∧ (wP3 s a2)))))))),v37,((vW3 s a2).1,(IntKind.wrap .i64 (a7 + 1)),()))
def wO5 (y:wG0) (x:wA9):Prop:=(wZ7 y x).1
def vD9 (y:wG0) (x:wA9):Bool:=(wZ7 y x).2.1
def wQ4 (y:wG0) (x:wA9):wA9:=(wZ7 y x).2.2
instance (y:wG0) (x:wA9):Decidable (wO5 y x):=by
 unfold wO5 wZ7
 try dsimp only
 infer_instance
def vE (y:wG0) (x:wA9):(List D125) :=
 x.1
def vW4:List (Nat × Sh):=[(2,(.box (.sl T125) (.own T125 400200 false)))]
def vE0:St → Option Out:=xP4 [(3,(.box T128 (.val T128))),(5,(.box T125 (.val T125))),(6,(.fn 156 (.cons (.ref 2 (.sl T125)) .nl)))] [(2,(.box (.sl T125) (.own T125 400200 false))),(7,vI)] vD9 wQ4 wO5 fun y x=>[ex 3 none vW4 ((vE y x),())]
abbrev wD5:Type:=(D128 × D125 × (Unit × Unit) × Unit)
abbrev xZ8:Type:=((List D125) × Int × Unit)
def wS0 (y:wD5) (x:xZ8):Prop × Bool × xZ8 :=
 let a3:=y.1
 let a5:=y.2.1
 let a2:=x.1
 let a12:=x.2.1
 let v96:=(decide (a12 ≤ 16))
 let v100:=(IntKind.wrap .i64 (16 - a12))
 let v105:=(IntKind.wrap .i64 ((IntKind.wrap .i64 (v100 * v100)) * v100))
 let v111:=(IntKind.wrap .i64 ((IntKind.wrap .i64 ((IntKind.wrap .i64 (3 * a12)) * v100)) * v100))
 let v117:=(IntKind.wrap .i64 ((IntKind.wrap .i64 ((IntKind.wrap .i64 (3 * a12)) * a12)) * v100))
 let v122:=(IntKind.wrap .i64 ((IntKind.wrap .i64 (a12 * a12)) * a12))
 let v141:=(IntKind.wrap .i64 ((IntKind.wrap .i64 ((IntKind.wrap .i64 (v105 * a5.1)) + (IntKind.wrap .i64 (v111 * ((nth a3.2.1 (0:Int) Z125).1))))) + (IntKind.wrap .i64 (v117 * ((nth a3.2.1 (1:Int) Z125).1)))))
 let v148:=(IntKind.wrap .i64 (v141 + (IntKind.wrap .i64 (v122 * ((nth a3.2.1 (2:Int) Z125).1)))))
 let v167:=(IntKind.wrap .i64 ((IntKind.wrap .i64 ((IntKind.wrap .i64 (v105 * a5.2.1)) + (IntKind.wrap .i64 (v111 * ((nth a3.2.1 (0:Int) Z125).2.1))))) + (IntKind.wrap .i64 (v117 * ((nth a3.2.1 (1:Int) Z125).2.1)))))
 let v174:=(IntKind.wrap .i64 (v167 + (IntKind.wrap .i64 (v122 * ((nth a3.2.1 (2:Int) Z125).2.1)))))
 let s:=((f108 v148 (4096:Int)),(f108 v174 (4096:Int)),())
 ((v96 = true → (InB (0:Int) 3 ∧ (InB (1:Int) 3 ∧ (InB (2:Int) 3 ∧ ((xZ0 v148 (4096:Int)) ∧ (InB (0:Int) 3 ∧ (InB (1:Int) 3 ∧ (InB (2:Int) 3 ∧ ((xZ0 v174 (4096:Int)) ∧ (wP3 s a2)))))))))),v96,((vW3 s a2).1,(IntKind.wrap .i64 (a12 + 1)),()))
def wI5 (y:wD5) (x:xZ8):Prop:=(wS0 y x).1
def wZ8 (y:wD5) (x:xZ8):Bool:=(wS0 y x).2.1
def wO0 (y:wD5) (x:xZ8):xZ8:=(wS0 y x).2.2
instance (y:wD5) (x:xZ8):Decidable (wI5 y x):=by
 unfold wI5 wS0
 try dsimp only
 infer_instance
def vC5 (y:wD5) (x:xZ8):(List D125) :=
 x.1
def vP0:List (Nat × Sh):=[(2,(.box (.sl T125) (.own T125 400200 false)))]
def vC6:St → Option Out:=xP4 [(3,(.box T128 (.val T128))),(5,(.box T125 (.val T125))),(6,(.fn 156 (.cons (.ref 2 (.sl T125)) .nl)))] [(2,(.box (.sl T125) (.own T125 400200 false))),(12,vI)] wZ8 wO0 wI5 fun y x=>[ex 5 none vP0 ((vC5 y x),())]
def tX5 (p0:(List D125)) (p1:D128):Prop × (List D125) :=
 let v21:=(IntKind.wrap .i64 ((len p0) - 1))
 let v22:=(nth p0 v21 Z125)
 let v28:=(p1.1 == 2)
 let v32:=(nth p1.2.1 (0:Int) Z125)
 let v35:=(p1.1 == 3)
 let y8:=(p1,v22,((),()),())
 let x8:=(p0,(1:Int),())
 let v94:=(p1.1 == 4)
 let y15:=(p1,v22,((),()),())
 let x15:=(p0,(1:Int),())
 let m2_2:=(bif v28 then (vW3 v32 p0).1 else (bif v35 then (vE y8 (zC1 (vD9 y8) (wQ4 y8) x8)) else (bif v94 then (vC5 y15 (zC1 (wZ8 y15) (wO0 y15) x15)) else p0)))
 ((InB v21 (len p0) ∧ ((v28 = true → (InB (0:Int) 3 ∧ (wP3 v32 p0))) ∧ (v28 = false → ((v35 = true → (Am.Ends (vD9 y8) (wQ4 y8) (wO5 y8) x8)) ∧ (v35 = false → (v94 = true → (Am.Ends (wZ8 y15) (wO0 y15) (wI5 y15) x15))))))),m2_2)
def vJ2 (p0:(List D125)) (p1:D128):Prop:=(tX5 p0 p1).1
def rZ3 (p0:(List D125)) (p1:D128):(List D125):=(tX5 p0 p1).2
instance (p0:(List D125)) (p1:D128):Decidable (vJ2 p0 p1):=by
 unfold vJ2 tX5
 try dsimp only
 infer_instance
def uL0:Am.Spec:=fnSpec [(0,(.own T125 400000 false)),(1,(.val T128))] (.own T125 0 false) [] (fun x=>vJ2 x.1 x.2.1) (fun x=>rZ3 x.1 x.2.1) (fun _=>())
def vR6:Ctx:={ Cx tys [(108,wB3),(156,uL)] [(8,vE0),(15,vC6)] [(1,[(4,0,400000,400200)]),(41,[(4,0,400200,0)])] true 179 [] [] with wants:=[(156,[])] }
theorem vR7:CtxOk Tryz.prog vR6:=xW4 tys_ok rfl ⟨wQ2,rR2,trivial⟩ rfl (by kernel_rfl)
noncomputable def uL1:Code:=Tryz.f144.body.getD .skip
noncomputable def tO3:Code:=xX3 uL1 0
theorem tX6:yV Tryz.prog vR6 tO3:=xY2 vR7 mixed (sp:=vE0) rfl [vW4] (bs:=[]) (by kernel_rfl) trivial (by kernel_rfl) (by kernel_rfl) fun y x=>by kernel_rfl
noncomputable def uZ2:Code:=xX3 uL1 1
theorem tN:yV Tryz.prog vR6 uZ2:=xY2 vR7 mixed (sp:=vC6) rfl [vP0] (bs:=[]) (by kernel_rfl) trivial (by kernel_rfl) (by kernel_rfl) fun y x=>by kernel_rfl
theorem rR3:SpecOk Tryz.prog 144 uL0:=xY3 vR7 mixed Tryz.func144 (by kernel_rfl) (bs:=[tO3,uZ2]) (by kernel_rfl) ⟨tX6,tN,trivial⟩ fun x=>by kernel_rfl
abbrev wW0:Type:=((List D128) × (List D128) × Int × Unit)
abbrev wL3:Type:=((List (List D125)) × (List D125) × Int × Unit)
def uT0 (y:wW0) (x:wL3):Prop × Bool × wL3 :=
 let a0:=y.1
 let a14:=y.2.1
 let a5:=x.1
 let a6:=x.2.1
 let a16:=x.2.2.1
 let v17:=(decide (a16 < y.2.2.1))
 let v19:=(nth a14 a16 Z128)
 let v23:=(v19.1 == 1)
 let m6:=(bif v23 then ([(nth v19.2.1 (0:Int) Z125)]:List D125) else (rZ3 a6 v19))
 let v33:=(len a0)
 let v35:=(a16 == (v33 - 1))
 let v39:=(a16 + 1)
 let v44:=(bif v35 then true else ((nth a0 v39 Z128).1 == 1))
 let v47:=([m6]:List (List D125))
 ((v17 = true → (InB a16 (len a14) ∧ ((v23 = true → InB (0:Int) 3) ∧ ((v23 = false → (vJ2 a6 v19)) ∧ (InR (v33 - 1) ∧ (((!v35) = true → InR (a16 + 1)) ∧ (((!v35) = true → InB v39 (len a0)) ∧ ((v44 = true → ((List.length a5 + List.length v47:Nat):Int) ≤ 4294967296) ∧ InR (a16 + 1))))))))),v17,((bif v44 then (a5 ++ v47) else a5),m6,(a16 + 1),()))
def vJ3 (y:wW0) (x:wL3):Prop:=(uT0 y x).1
def uZ3 (y:wW0) (x:wL3):Bool:=(uT0 y x).2.1
def vE1 (y:wW0) (x:wL3):wL3:=(uT0 y x).2.2
instance (y:wW0) (x:wL3):Decidable (vJ3 y x):=by
 unfold vJ3 uT0
 try dsimp only
 infer_instance
def uL2 (y:wW0) (x:wL3):(List (List D125)) :=
 x.1
def tO4:List (Nat × Sh):=[(5,(.own (.sl T125) 1005 false))]
def uL3:St → Option Out:=xP4 [(0,(.val (.sl T128))),(14,(.val (.sl T128))),(15,vI)] [(5,(.own (.sl T125) 1005 false)),(6,(.own T125 1006 false)),(16,vI)] uZ3 vE1 vJ3 fun y x=>[ex 2 none tO4 ((uL2 y x),())]
def pU8 (p0:(List D128)):Prop × ((List (List D125)) × Int × Unit) :=
 let v10:=(f140 p0)
 let v12:=(v10 != 0)
 let y7:=(p0,p0,(len p0),())
 let x7:=(([]:List (List D125)),([]:List D125),(0:Int),())
 (((vR5 p0) ∧ ((!v12) = true → (Am.Ends (uZ3 y7) (vE1 y7) (vJ3 y7) x7))),((bif v12 then [] else (uL2 y7 (zC1 (uZ3 y7) (vE1 y7) x7))),(bif v12 then v10 else (0:Int)),()))
def uZ4 (p0:(List D128)):Prop:=(pU8 p0).1
def f126 (p0:(List D128)):((List (List D125)) × Int × Unit):=(pU8 p0).2
instance (p0:(List D128)):Decidable (uZ4 p0):=by
 unfold uZ4 pU8
 try dsimp only
 infer_instance
def uZ5:Am.Spec:=fnSpec [(0,(.val (.sl T128)))] (.tup (.cons (.own (.sl T125) 0 false) (.cons vI .nl))) [] (fun x=>uZ4 x.1) (fun x=>f126 x.1) (fun _=>())
def rE9:Ctx:={ Cx tys [(140,vD7),(144,uL0)] [(7,uL3)] [(21,[(4,0,27,1006)]),(23,[(4,0,30,1006)]),(27,[(4,0,48,1005)]),(31,[(4,0,1005,0)])] false 51 [] [] with wants:=[(144,[0])] }
theorem rF:CtxOk Tryz.prog rE9:=xW4 tys_ok rfl ⟨tX0,rR3,trivial⟩ rfl (by kernel_rfl)
noncomputable def rZ4:Code:=Tryz.f126.body.getD .skip
noncomputable def rZ5:Code:=xX3 rZ4 0
theorem rR4:yV Tryz.prog rE9 rZ5:=xY2 rF mixed (sp:=uL3) rfl [tO4] (bs:=[]) (by kernel_rfl) trivial (by kernel_rfl) (by kernel_rfl) fun y x=>by kernel_rfl
theorem rZ6:SpecOk Tryz.prog 126 uZ5:=xY3 rF mixed Tryz.func126 (by kernel_rfl) (bs:=[rZ5]) (by kernel_rfl) ⟨rR4,trivial⟩ fun x=>by kernel_rfl
abbrev wW1:Type:=((List D128) × (List D128) × Int × Unit)
abbrev wL4:Type:=((List Bool) × Int × Unit)
def uT1 (y:wW1) (x:wL4):Prop × Bool × wL4 :=
 let a0:=y.1
 let a13:=y.2.1
 let a5:=x.1
 let a15:=x.2.1
 let v16:=(decide (a15 < y.2.2.1))
 let v22:=(len a0)
 let v24:=(a15 == (v22 - 1))
 let v28:=(a15 + 1)
 let v33:=(bif v24 then true else ((nth a0 v28 Z128).1 == 1))
 let v38:=([((nth a13 a15 Z128).1 != 5)]:List Bool)
 ((v16 = true → (InB a15 (len a13) ∧ (InR (v22 - 1) ∧ (((!v24) = true → InR (a15 + 1)) ∧ (((!v24) = true → InB v28 (len a0)) ∧ ((v33 = true → ((List.length a5 + List.length v38:Nat):Int) ≤ 4294967296) ∧ InR (a15 + 1))))))),v16,((bif v33 then (a5 ++ v38) else a5),(a15 + 1),()))
def vJ4 (y:wW1) (x:wL4):Prop:=(uT1 y x).1
def uZ6 (y:wW1) (x:wL4):Bool:=(uT1 y x).2.1
def vE2 (y:wW1) (x:wL4):wL4:=(uT1 y x).2.2
instance (y:wW1) (x:wL4):Decidable (vJ4 y x):=by
 unfold vJ4 uT1
 try dsimp only
 infer_instance
def uL4 (y:wW1) (x:wL4):(List Bool) :=
 x.1
def uL5:St → Option Out:=xP4 [(0,(.val (.sl T128))),(13,(.val (.sl T128))),(14,vI)] [(5,(.own .bool 1005 false)),(15,vI)] uZ6 vE2 vJ4 fun y x=>[ex 2 none [(5,(.own .bool 1005 false))] ((uL4 y x),())]
def pU9 (p0:(List D128)):Prop × ((List Bool) × Int × Unit) :=
 let v9:=(f140 p0)
 let v11:=(v9 != 0)
 let y6:=(p0,p0,(len p0),())
 let x6:=(([]:List Bool),(0:Int),())
 (((vR5 p0) ∧ ((!v11) = true → (Am.Ends (uZ6 y6) (vE2 y6) (vJ4 y6) x6))),((bif v11 then [] else (uL4 y6 (zC1 (uZ6 y6) (vE2 y6) x6))),(bif v11 then v9 else (0:Int)),()))
def tX7 (p0:(List D128)):Prop:=(pU9 p0).1
def f127 (p0:(List D128)):((List Bool) × Int × Unit):=(pU9 p0).2
instance (p0:(List D128)):Decidable (tX7 p0):=by
 unfold tX7 pU9
 try dsimp only
 infer_instance
def sI9:Am.Spec:=fnSpec [(0,(.val (.sl T128)))] (.tup (.cons (.own .bool 0 false) (.cons vI .nl))) [] (fun x=>tX7 x.1) (fun x=>f127 x.1) (fun _=>())
def rF0:Ctx:=Cx tys [(140,vD7)] [(6,uL5)] [(19,[(4,0,39,1005)]),(23,[(4,0,1005,0)])] false 42 [] []
theorem rF1:CtxOk Tryz.prog rF0:=xW4 tys_ok rfl ⟨tX0,trivial⟩ rfl (by kernel_rfl)
noncomputable def rZ7:Code:=Tryz.f127.body.getD .skip
noncomputable def rZ8:Code:=xX3 rZ7 0
theorem rR5:yV Tryz.prog rF0 rZ8:=xY2 rF1 mixed (sp:=uL5) rfl [[(5,(.own .bool 1005 false))]] (bs:=[]) (by kernel_rfl) trivial (by kernel_rfl) (by kernel_rfl) fun y x=>by kernel_rfl
theorem pV:SpecOk Tryz.prog 127 sI9:=xY3 rF1 mixed Tryz.func127 (by kernel_rfl) (bs:=[rZ8]) (by kernel_rfl) ⟨rR5,trivial⟩ fun x=>by kernel_rfl
abbrev wL5:Type:=((List (List D125)) × (List (List D125)) × Int × Unit)
abbrev wE4:Type:=(Int × Int × Unit)
def vJ5 (y:wL5) (x:wE4):Prop × Bool × wE4 × Bool × Bool :=
 let a18:=y.2.1
 let a5:=x.1
 let a20:=x.2.1
 let v21:=(decide (a20 < y.2.2.1))
 let v26:=(len (nth a18 a20 ([]:List D125)))
 let v27:=(a5 + v26)
 let v29:=(decide (v27 > 4096))
 ((v21 = true → (InB a20 (len a18) ∧ (InR (a5 + v26) ∧ ((!v29) = true → InR (a20 + 1))))),(v21 && (!v29)),(v27,(a20 + 1),()),(v21 && v29),(!v21))
def vJ6 (y:wL5) (x:wE4):Prop:=(vJ5 y x).1
def uZ7 (y:wL5) (x:wE4):Bool:=(vJ5 y x).2.1
def vE3 (y:wL5) (x:wE4):wE4:=(vJ5 y x).2.2.1
def tO5 (y:wL5) (x:wE4):Bool:=(vJ5 y x).2.2.2.1
def tO6 (y:wL5) (x:wE4):Bool:=(vJ5 y x).2.2.2.2
instance (y:wL5) (x:wE4):Decidable (vJ6 y x):=by
 unfold vJ6 vJ5
 try dsimp only
 infer_instance
def uL6 (y:wL5) (x:wE4):Int :=
 (3:Int)
def uL7:St → Option Out:=xP4 [(0,(.val (.sl (.sl T125)))),(18,(.val (.sl (.sl T125)))),(19,vI)] [(5,vI),(20,vI)] uZ7 vE3 vJ6 fun y x=>[ex 1 (some (tO5 y x)) [(4,vI)] ((uL6 y x),()),ex 2 (some (tO6 y x)) [(0,(.val (.sl (.sl T125))))] (y.1,())]
abbrev wG1:Type:=((List (List D125)) × Int × Int × (List D125) × Int × Unit)
abbrev wB8:Type:=(Int × Unit)
def wW2 (y:wG1) (x:wB8):Prop × Bool × wB8 × Bool × Bool :=
 let a37:=y.2.2.2.1
 let a39:=x.1
 let v40:=(decide (a39 < y.2.2.2.2.1))
 let v41:=(nth a37 a39 Z125)
 let v60:=(bif (bif (bif (decide (v41.1 < (-16777216))) then true else (decide (v41.1 > 16777216))) then true else (decide (v41.2.1 < (-16777216)))) then true else (decide (v41.2.1 > 16777216)))
 ((v40 = true → (InB a39 (len a37) ∧ ((!v60) = true → InR (a39 + 1)))),(v40 && (!v60)),((a39 + 1),()),(v40 && v60),(!v40))
def wZ9 (y:wG1) (x:wB8):Prop:=(wW2 y x).1
def vJ7 (y:wG1) (x:wB8):Bool:=(wW2 y x).2.1
def wO6 (y:wG1) (x:wB8):wB8:=(wW2 y x).2.2.1
def uZ8 (y:wG1) (x:wB8):Bool:=(wW2 y x).2.2.2.1
def uZ9 (y:wG1) (x:wB8):Bool:=(wW2 y x).2.2.2.2
instance (y:wG1) (x:wB8):Decidable (wZ9 y x):=by
 unfold wZ9 wW2
 try dsimp only
 infer_instance
def vW5 (y:wG1) (x:wB8):Int :=
 (2:Int)
def tA:List (Nat × Sh):=[(31,(.val (.sl (.sl T125)))),(32,vI),(33,vI)]
def vW6:St → Option Out:=xP4 [(31,(.val (.sl (.sl T125)))),(32,vI),(33,vI),(37,(.val (.sl T125))),(38,vI)] [(39,vI)] vJ7 wO6 wZ9 fun y x=>[ex 1 (some (uZ8 y x)) [(4,vI)] ((vW5 y x),()),ex 6 (some (uZ9 y x)) tA (y.1,y.2.1,y.2.2.1,())]
abbrev wG2:Type:=((List (List D125)) × Int × Unit)
abbrev wB9:Type:=(Int × Unit)
def wW3 (y:wG2) (x:wB9):Prop × Bool × wB9 × Bool × Bool :=
 let a31:=y.1
 let a32:=y.2.1
 let a33:=x.1
 let v34:=(decide (a33 < a32))
 let v35:=(nth a31 a33 ([]:List D125))
 let y15:=(a31,a32,a33,v35,(len v35),())
 let x15:=((0:Int),())
 let e15:=(zC1 (vJ7 y15) (wO6 y15) x15)
 let q15_6:=(uZ9 y15 e15)
 ((v34 = true → (InB a33 (len a31) ∧ ((Am.Ends (vJ7 y15) (wO6 y15) (wZ9 y15) x15) ∧ (q15_6 = true → InR (a33 + 1))))),(v34 && q15_6),((a33 + 1),()),(v34 && (uZ8 y15 e15)),(!v34))
def vA (y:wG2) (x:wB9):Prop:=(wW3 y x).1
def uG (y:wG2) (x:wB9):Bool:=(wW3 y x).2.1
def vA0 (y:wG2) (x:wB9):wB9:=(wW3 y x).2.2.1
def tA0 (y:wG2) (x:wB9):Bool:=(wW3 y x).2.2.2.1
def sU5 (y:wG2) (x:wB9):Bool:=(wW3 y x).2.2.2.2
instance (y:wG2) (x:wB9):Decidable (vA y x):=by
 unfold vA wW3
 try dsimp only
 infer_instance
def vW7 (y:wG2) (x:wB9):Int :=
 let a31:=y.1
 let a33:=x.1
 let v35:=(nth a31 a33 ([]:List D125))
 let y15:=(a31,y.2.1,a33,v35,(len v35),())
 (vW5 y15 (zC1 (vJ7 y15) (wO6 y15) ((0:Int),())))
def vW8:St → Option Out:=xP4 [(31,(.val (.sl (.sl T125)))),(32,vI)] [(33,vI)] uG vA0 vA fun y x=>[ex 1 (some (tA0 y x)) [(4,vI)] ((vW7 y x),()),ex 4 (some (sU5 y x)) [] ()]
def pV0 (p0:(List (List D125))) (p1:Int):Prop × Int :=
 let v17:=(bif (p1 != 0) then (p1 != 1) else false)
 let y5:=(p0,p0,(len p0),())
 let x5:=((0:Int),(0:Int),())
 let e5:=(zC1 (uZ7 y5) (vE3 y5) x5)
 let y12:=(p0,(len p0),())
 let x12:=((0:Int),())
 let e12:=(zC1 (uG y12) (vA0 y12) x12)
 (((!v17) = true → ((Am.Ends (uZ7 y5) (vE3 y5) (vJ6 y5) x5) ∧ ((tO6 y5 e5) = true → (Am.Ends (uG y12) (vA0 y12) (vA y12) x12)))),(bif v17 then (8:Int) else (bif (tO5 y5 e5) then (uL6 y5 e5) else (bif (tA0 y12 e12) then (vW7 y12 e12) else (0:Int)))))
def uG0 (p0:(List (List D125))) (p1:Int):Prop:=(pV0 p0 p1).1
def f129 (p0:(List (List D125))) (p1:Int):Int:=(pV0 p0 p1).2
instance (p0:(List (List D125))) (p1:Int):Decidable (uG0 p0 p1):=by
 unfold uG0 pV0
 try dsimp only
 infer_instance
def vW9:Am.Spec:=fnSpec [(0,(.val (.sl (.sl T125)))),(1,vI)] vI [] (fun x=>uG0 x.1 x.2.1) (fun x=>f129 x.1 x.2.1) (fun _=>())
def uT2:Ctx:=Cx tys [] [(5,uL7),(15,vW6),(12,vW8)] [] false 63 [] []
theorem uT3:CtxOk Tryz.prog uT2:=xW4 tys_ok rfl trivial rfl (by kernel_rfl)
noncomputable def sJ:Code:=Tryz.f129.body.getD .skip
noncomputable def rZ9:Code:=xX3 sJ 0
theorem rR6:yV Tryz.prog uT2 rZ9:=xY2 uT3 mixed (sp:=uL7) rfl [[(4,vI)],[(0,(.val (.sl (.sl T125))))]] (bs:=[]) (by kernel_rfl) trivial (by kernel_rfl) (by kernel_rfl) fun y x=>by kernel_rfl
noncomputable def tX8:Code:=xX3 sJ 1
noncomputable def rF2:Code:=xX3 tX8 0
theorem sU6:yV Tryz.prog uT2 rF2:=xY2 uT3 mixed (sp:=vW6) rfl [[(4,vI)],tA] (bs:=[]) (by kernel_rfl) trivial (by kernel_rfl) (by kernel_rfl) fun y x=>by kernel_rfl
theorem sU7:yV Tryz.prog uT2 tX8:=xY2 uT3 mixed (sp:=vW8) rfl [[(4,vI)],[]] (bs:=[rF2]) (by kernel_rfl) ⟨sU6,trivial⟩ (by kernel_rfl) (by kernel_rfl) fun y x=>by kernel_rfl
theorem sU8:SpecOk Tryz.prog 129 vW9:=xY3 uT3 mixed Tryz.func129 (by kernel_rfl) (bs:=[rZ9,tX8]) (by kernel_rfl) ⟨rR6,sU7,trivial⟩ fun x=>by kernel_rfl
def pV1 (p0:Int) (p1:Int) (p2:Int):Prop × Int :=
 let m6_2:=(bif (bif (decide (p0 < 1)) then true else (decide (p0 > 4096))) then (2:Int) else (bif (bif (decide (p1 < 0)) then true else (decide (p1 > 2))) then (8:Int) else (bif (bif (decide (p2 < 0)) then true else (decide (p2 > 2))) then (8:Int) else (0:Int))))
 (True,m6_2)
def tX9 (p0:Int) (p1:Int) (p2:Int):Prop:=(pV1 p0 p1 p2).1
def f145 (p0:Int) (p1:Int) (p2:Int):Int:=(pV1 p0 p1 p2).2
instance (p0:Int) (p1:Int) (p2:Int):Decidable (tX9 p0 p1 p2):=by
 unfold tX9 pV1
 try dsimp only
 infer_instance
def sJ0:Am.Spec:=fnSpec [(0,vI),(1,vI),(2,vI)] vI [] (fun x=>tX9 x.1 x.2.1 x.2.2.1) (fun x=>f145 x.1 x.2.1 x.2.2.1) (fun _=>())
def qW:Ctx:=Cx tys [] [] [] false 25 [] []
theorem qW0:CtxOk Tryz.prog qW:=xW4 tys_ok rfl trivial rfl (by kernel_rfl)
theorem pV2:SpecOk Tryz.prog 145 sJ0:=xY3 qW0 mixed Tryz.func145 (by kernel_rfl) (bs:=[]) (by kernel_rfl) trivial fun x=>by kernel_rfl
abbrev wW4:Type:=(Bool × (List D125) × Int × Unit)
abbrev wL6:Type:=((List D125) × Int × Unit)
def uT4 (y:wW4) (x:wL6):Prop × Bool × wL6 :=
 let a8:=y.2.1
 let a5:=x.1
 let a10:=x.2.1
 let v11:=(decide (a10 < y.2.2.1))
 let v12:=(nth a8 a10 Z125)
 let v16:=((len a5) == 0)
 let v21:=(len a5)
 let v22:=(v21 - 1)
 let v26:=(bif v16 then true else (!(Ty.eqb T125 v12 (nth a5 v22 Z125))))
 let v29:=([v12]:List D125)
 ((v11 = true → (InB a10 (len a8) ∧ (((!v16) = true → InR (v21 - 1)) ∧ (((!v16) = true → InB v22 (len a5)) ∧ ((v26 = true → ((List.length a5 + List.length v29:Nat):Int) ≤ 4294967296) ∧ InR (a10 + 1)))))),v11,((bif v26 then (a5 ++ v29) else a5),(a10 + 1),()))
def vJ8 (y:wW4) (x:wL6):Prop:=(uT4 y x).1
def tA1 (y:wW4) (x:wL6):Bool:=(uT4 y x).2.1
def vE4 (y:wW4) (x:wL6):wL6:=(uT4 y x).2.2
instance (y:wW4) (x:wL6):Decidable (vJ8 y x):=by
 unfold vJ8 uT4
 try dsimp only
 infer_instance
def uL8 (y:wW4) (x:wL6):(List D125) :=
 x.1
def tO7:List (Nat × Sh):=[(1,vB),(5,(.own T125 1005 false))]
def uL9:St → Option Out:=xP4 [(1,vB),(8,(.val (.sl T125))),(9,vI)] [(5,(.own T125 1005 false)),(10,vI)] tA1 vE4 vJ8 fun y x=>[ex 2 none tO7 (y.1,(uL8 y x),())]
abbrev wW5:Type:=(Bool × Unit)
abbrev wL7:Type:=((List D125) × Unit)
def uT5 (y:wW5) (x:wL7):Prop × Bool × wL7 :=
 let a5:=x.1
 let v38:=(bif (!y.1) then (decide ((len a5) > 1)) else false)
 let v42:=(len a5)
 let v43:=(v42 - 1)
 let v50:=(bif v38 then (Ty.eqb T125 (nth a5 v43 Z125) (nth a5 (0:Int) Z125)) else false)
 let v53:=(len a5)
 let v54:=(v53 - 1)
 (((v38 = true → InR (v42 - 1)) ∧ ((v38 = true → InB v43 (len a5)) ∧ ((v38 = true → InB (0:Int) (len a5)) ∧ (v50 = true → (InR (v53 - 1) ∧ (0 ≤ v54 ∧ v54 ≤ len a5)))))),v50,((List.take (Int.toNat v54) a5),()))
def vJ9 (y:wW5) (x:wL7):Prop:=(uT5 y x).1
def tA2 (y:wW5) (x:wL7):Bool:=(uT5 y x).2.1
def vE5 (y:wW5) (x:wL7):wL7:=(uT5 y x).2.2
instance (y:wW5) (x:wL7):Decidable (vJ9 y x):=by
 unfold vJ9 uT5
 try dsimp only
 infer_instance
def uM (y:wW5) (x:wL7):(List D125) :=
 x.1
def uM0:St → Option Out:=xP4 [(1,vB)] [(5,(.val (.sl T125)))] tA2 vE5 vJ9 fun y x=>[ex 4 none [(5,(.val (.sl T125)))] ((uM y x),())]
def pV3 (p0:(List D125)) (p1:Bool):Prop × (List D125) :=
 let y3:=(p1,p0,(len p0),())
 let x3:=(([]:List D125),(0:Int),())
 let y8:=(p1,())
 let x8:=((uL8 y3 (zC1 (tA1 y3) (vE4 y3) x3)),())
 (((Am.Ends (tA1 y3) (vE4 y3) (vJ8 y3) x3) ∧ (Am.Ends (tA2 y8) (vE5 y8) (vJ9 y8) x8)),(uM y8 (zC1 (tA2 y8) (vE5 y8) x8)))
def tY (p0:(List D125)) (p1:Bool):Prop:=(pV3 p0 p1).1
def f157 (p0:(List D125)) (p1:Bool):(List D125):=(pV3 p0 p1).2
instance (p0:(List D125)) (p1:Bool):Decidable (tY p0 p1):=by
 unfold tY pV3
 try dsimp only
 infer_instance
def sJ1:Am.Spec:=fnSpec [(0,(.val (.sl T125))),(1,vB)] (.val (.sl T125)) [] (fun x=>tY x.1 x.2.1) (fun x=>f157 x.1 x.2.1) (fun _=>())
def tY0:Ctx:=Cx tys [] [(3,uL9),(8,uM0)] [(13,[(4,0,30,1005)])] false 57 [] []
theorem tY1:CtxOk Tryz.prog tY0:=xW4 tys_ok rfl trivial rfl (by kernel_rfl)
noncomputable def sJ2:Code:=Tryz.f157.body.getD .skip
noncomputable def qA:Code:=xX3 sJ2 0
theorem rR7:yV Tryz.prog tY0 qA:=xY2 tY1 mixed (sp:=uL9) rfl [tO7] (bs:=[]) (by kernel_rfl) trivial (by kernel_rfl) (by kernel_rfl) fun y x=>by kernel_rfl
noncomputable def qA0:Code:=xX3 sJ2 1
theorem rR8:yV Tryz.prog tY0 qA0:=xY2 tY1 mixed (sp:=uM0) rfl [[(5,(.val (.sl T125)))]] (bs:=[]) (by kernel_rfl) trivial (by kernel_rfl) (by kernel_rfl) fun y x=>by kernel_rfl
theorem pV4:SpecOk Tryz.prog 157 sJ1:=xY3 tY1 mixed Tryz.func157 (by kernel_rfl) (bs:=[qA,qA0]) (by kernel_rfl) ⟨rR7,rR8,trivial⟩ fun x=>by kernel_rfl
def pV5 (p0:D125) (p1:D125):Prop × D125 :=
 (True,((IntKind.wrap .i64 (p0.1 - p1.1)),(IntKind.wrap .i64 (p0.2.1 - p1.2.1)),()))
def wD7 (p0:D125) (p1:D125):Prop:=(pV5 p0 p1).1
def f162 (p0:D125) (p1:D125):D125:=(pV5 p0 p1).2
instance (p0:D125) (p1:D125):Decidable (wD7 p0 p1):=by
 unfold wD7 pV5
 try dsimp only
 infer_instance
def vE6:Am.Spec:=fnSpec [(0,(.val T125)),(1,(.val T125))] (.val T125) [] (fun x=>wD7 x.1 x.2.1) (fun x=>f162 x.1 x.2.1) (fun _=>())
def qW1:Ctx:=Cx tys [] [] [] true 16 [] []
theorem qW2:CtxOk Tryz.prog qW1:=xW4 tys_ok rfl trivial rfl (by kernel_rfl)
theorem tY2:SpecOk Tryz.prog 162 vE6:=xY3 qW2 mixed Tryz.func162 (by kernel_rfl) (bs:=[]) (by kernel_rfl) trivial fun x=>by kernel_rfl
def pV6 (p0:Int) (p1:Int):Prop × (Int × Int × Unit) :=
 let v15:=(xY4 .u64 p0 (4294967295:Int))
 let v17:=(xY5 p0 (32:Int) 64)
 let v19:=(xY4 .u64 p1 (4294967295:Int))
 let v21:=(xY5 p1 (32:Int) 64)
 let v30:=(IntKind.wrap .u64 ((IntKind.wrap .u64 (v17 * v19)) + (xY5 (IntKind.wrap .u64 (v15 * v19)) (32:Int) 64)))
 let v47:=(IntKind.wrap .u64 ((IntKind.wrap .u64 ((IntKind.wrap .u64 (v17 * v21)) + (xY5 v30 (32:Int) 64))) + (xY5 (IntKind.wrap .u64 ((xY4 .u64 v30 (4294967295:Int)) + (IntKind.wrap .u64 (v15 * v21)))) (32:Int) 64)))
 (True,(v47,(IntKind.wrap .u64 (p0 * p1)),()))
def uG1 (p0:Int) (p1:Int):Prop:=(pV6 p0 p1).1
def f187 (p0:Int) (p1:Int):(Int × Int × Unit):=(pV6 p0 p1).2
instance (p0:Int) (p1:Int):Decidable (uG1 p0 p1):=by
 unfold uG1 pV6
 try dsimp only
 infer_instance
def sJ3:Am.Spec:=fnSpec [(0,(.val (.int .u64))),(1,(.val (.int .u64)))] (.tup (.cons (.val (.int .u64)) (.cons (.val (.int .u64)) .nl))) [] (fun x=>uG1 x.1 x.2.1) (fun x=>f187 x.1 x.2.1) (fun _=>())
def qW3:Ctx:=Cx tys [] [] [] true 51 [] []
theorem qW4:CtxOk Tryz.prog qW3:=xW4 tys_ok rfl trivial rfl (by kernel_rfl)
theorem pV7:SpecOk Tryz.prog 187 sJ3:=xY3 qW4 mixed Tryz.func187 (by kernel_rfl) (bs:=[]) (by kernel_rfl) trivial fun x=>by kernel_rfl
def pV8 (p0:Int):Prop × Int :=
 (True,(bif (decide (p0 < 0)) then (IntKind.wrap .u64 (Int.sub 0 (IntKind.wrap .u64 p0))) else (IntKind.wrap .u64 p0)))
def vR8 (p0:Int):Prop:=(pV8 p0).1
def f188 (p0:Int):Int:=(pV8 p0).2
instance (p0:Int):Decidable (vR8 p0):=by
 unfold vR8 pV8
 try dsimp only
 infer_instance
def sJ4:Am.Spec:=fnSpec [(0,vI)] (.val (.int .u64)) [] (fun x=>vR8 x.1) (fun x=>f188 x.1) (fun _=>())
def qW5:Ctx:=Cx tys [] [] [] true 10 [] []
theorem qW6:CtxOk Tryz.prog qW5:=xW4 tys_ok rfl trivial rfl (by kernel_rfl)
theorem pV9:SpecOk Tryz.prog 188 sJ4:=xY3 qW6 mixed Tryz.func188 (by kernel_rfl) (bs:=[]) (by kernel_rfl) trivial fun x=>by kernel_rfl
abbrev wW6:Type:=(Int × Int × Unit)
abbrev wL8:Type:=(Int × Int × Unit)
def uT6 (y:wW6) (x:wL8):Prop × Bool × wL8 :=
 let a5:=y.1
 let a10:=x.1
 let a11:=x.2.1
 let v43:=(a11 != 0)
 let v48:=(ior .u64 a10 a11)
 let v52:=(f187 v48 v48)
 ((v43 = true → (uG1 v48 v48)),v43,((bif (bif (decide (v52.1 < a5)) then true else (bif (v52.1 == a5) then (decide (v52.2.1 ≤ y.2.1)) else false)) then v48 else a10),(xY5 a11 (1:Int) 64),()))
def vK (y:wW6) (x:wL8):Prop:=(uT6 y x).1
def tA3 (y:wW6) (x:wL8):Bool:=(uT6 y x).2.1
def vE7 (y:wW6) (x:wL8):wL8:=(uT6 y x).2.2
instance (y:wW6) (x:wL8):Decidable (vK y x):=by
 unfold vK uT6
 try dsimp only
 infer_instance
def uM1 (y:wW6) (x:wL8):Int :=
 x.1
def uM2:St → Option Out:=xP4 [(5,(.val (.int .u64))),(6,(.val (.int .u64)))] [(10,(.val (.int .u64))),(11,(.val (.int .u64)))] tA3 vE7 vK fun y x=>[ex 2 none [(10,(.val (.int .u64)))] ((uM1 y x),())]
def pW (p0:Int) (p1:Int):Prop × Int :=
 let v15:=(f188 p0)
 let v17:=(f188 p0)
 let v18:=(f187 v15 v17)
 let v23:=(f188 p1)
 let v25:=(f188 p1)
 let v26:=(f187 v23 v25)
 let v34:=(((Int.toNat v18.2.1 + Int.toNat v26.2.1 + Int.toNat (0:Int)) / 18446744073709551616:Nat):Int)
 let y7:=((((Int.toNat v18.1 + Int.toNat v26.1 + Int.toNat v34) % 18446744073709551616:Nat):Int),(((Int.toNat v18.2.1 + Int.toNat v26.2.1 + Int.toNat (0:Int)) % 18446744073709551616:Nat):Int),())
 let x7:=((0:Int),(9223372036854775808:Int),())
 let r7_2_0:=(uM1 y7 (zC1 (tA3 y7) (vE7 y7) x7))
 (((vR8 p0) ∧ ((vR8 p0) ∧ ((uG1 v15 v17) ∧ ((vR8 p1) ∧ ((vR8 p1) ∧ ((uG1 v23 v25) ∧ ((0 ≤ (0:Int) ∧ (0:Int) ≤ 1) ∧ ((0 ≤ v34 ∧ v34 ≤ 1) ∧ (Am.Ends (tA3 y7) (vE7 y7) (vK y7) x7))))))))),(bif (decide (r7_2_0 > 9223372036854775807)) then (9223372036854775807:Int) else (IntKind.wrap .i64 r7_2_0)))
def tA4 (p0:Int) (p1:Int):Prop:=(pW p0 p1).1
def f179 (p0:Int) (p1:Int):Int:=(pW p0 p1).2
instance (p0:Int) (p1:Int):Decidable (tA4 p0 p1):=by
 unfold tA4 pW
 try dsimp only
 infer_instance
def tA5:Am.Spec:=fnSpec [(0,vI),(1,vI)] vI [] (fun x=>tA4 x.1 x.2.1) (fun x=>f179 x.1 x.2.1) (fun _=>())
def rF3:Ctx:={ Cx tys [(187,sJ3),(188,sJ4)] [(7,uM2)] [] true 73 [] [] with exts:=[(189,yX7)] }
theorem rF4:CtxOk Tryz.prog rF3:=xV0 tys_ok rfl ⟨pV7,pV9,trivial⟩ ⟨x189_ok,trivial⟩ (by kernel_rfl)
noncomputable def qA1:Code:=Tryz.f179.body.getD .skip
noncomputable def qA2:Code:=xX3 qA1 0
theorem rR9:yV Tryz.prog rF3 qA2:=xY2 rF4 mixed (sp:=uM2) rfl [[(10,(.val (.int .u64)))]] (bs:=[]) (by kernel_rfl) trivial (by kernel_rfl) (by kernel_rfl) fun y x=>by kernel_rfl
theorem qA3:SpecOk Tryz.prog 179 tA5:=xY3 rF4 mixed Tryz.func179 (by kernel_rfl) (bs:=[qA2]) (by kernel_rfl) ⟨rR9,trivial⟩ fun x=>by kernel_rfl
def pW0 (p0:D125) (p1:D125) (p2:Int):Prop × D205 :=
 let v11:=(f162 p1 p0)
 let v14:=(IntKind.wrap .i64 (16 * v11.1))
 let v17:=(IntKind.wrap .i64 (16 * v11.2.1))
 let v18:=(f179 v14 v17)
 let v26:=(IntKind.wrap .i64 ((IntKind.wrap .i64 ((-8) * p2)) * v11.2.1))
 let v33:=(IntKind.wrap .i64 ((IntKind.wrap .i64 (8 * p2)) * v11.1))
 let v41:=(IntKind.wrap .i64 ((IntKind.wrap .i64 (8 * p2)) * v11.1))
 let v48:=(IntKind.wrap .i64 ((IntKind.wrap .i64 (8 * p2)) * v11.2.1))
 (((wD7 p1 p0) ∧ ((tA4 v14 v17) ∧ ((xZ0 v26 v18) ∧ ((xZ0 v33 v18) ∧ ((xZ0 v41 v18) ∧ (xZ0 v48 v18)))))),(p0,p1,v11,((f108 v26 v18),(f108 v33 v18),()),((f108 v41 v18),(f108 v48 v18),()),()))
def tA6 (p0:D125) (p1:D125) (p2:Int):Prop:=(pW0 p0 p1 p2).1
def f175 (p0:D125) (p1:D125) (p2:Int):D205:=(pW0 p0 p1 p2).2
instance (p0:D125) (p1:D125) (p2:Int):Decidable (tA6 p0 p1 p2):=by
 unfold tA6 pW0
 try dsimp only
 infer_instance
def sJ5:Am.Spec:=fnSpec [(0,(.val T125)),(1,(.val T125)),(2,vI)] (.val T205) [] (fun x=>tA6 x.1 x.2.1 x.2.2.1) (fun x=>f175 x.1 x.2.1 x.2.2.1) (fun _=>())
def qW7:Ctx:=Cx tys [(108,wB3),(162,vE6),(179,tA5)] [] [] true 53 [] []
theorem qW8:CtxOk Tryz.prog qW7:=xW4 tys_ok rfl ⟨wQ2,tY2,qA3,trivial⟩ rfl (by kernel_rfl)
theorem pW1:SpecOk Tryz.prog 175 sJ5:=xY3 qW8 mixed Tryz.func175 (by kernel_rfl) (bs:=[]) (by kernel_rfl) trivial fun x=>by kernel_rfl
abbrev wW7:Type:=((List D125) × Bool × Int × Unit)
abbrev wL9:Type:=((List D205) × Int × Unit)
def uT7 (y:wW7) (x:wL9):Prop × Bool × wL9 :=
 let a0:=y.1
 let a2:=y.2.2.1
 let a7:=x.1
 let a8:=x.2.1
 let v12:=(decide (a8 < (len a0)))
 let v18:=(a8 - 1)
 let v19:=(nth a0 v18 Z125)
 let v23:=(nth a0 a8 Z125)
 let v27:=([(f175 v19 v23 a2)]:List D205)
 ((v12 = true → (InR (a8 - 1) ∧ (InB v18 (len a0) ∧ (InB a8 (len a0) ∧ ((tA6 v19 v23 a2) ∧ (((List.length a7 + List.length v27:Nat):Int) ≤ 4294967296 ∧ InR (a8 + 1))))))),v12,((a7 ++ v27),(a8 + 1),()))
def vK0 (y:wW7) (x:wL9):Prop:=(uT7 y x).1
def tA7 (y:wW7) (x:wL9):Bool:=(uT7 y x).2.1
def vE8 (y:wW7) (x:wL9):wL9:=(uT7 y x).2.2
instance (y:wW7) (x:wL9):Decidable (vK0 y x):=by
 unfold vK0 uT7
 try dsimp only
 infer_instance
def uM3 (y:wW7) (x:wL9):(List D205) :=
 x.1
def tO8:List (Nat × Sh):=[(0,(.val (.sl T125))),(1,vB),(2,vI),(7,(.own T205 1007 false))]
def uM4:St → Option Out:=xP4 [(0,(.val (.sl T125))),(1,vB),(2,vI)] [(7,(.own T205 1007 false)),(8,vI)] tA7 vE8 vK0 fun y x=>[ex 2 none tO8 (y.1,y.2.1,y.2.2.1,(uM3 y x),())]
def pW2 (p0:(List D125)) (p1:Bool) (p2:Int):Prop × (List D205) :=
 let y3:=(p0,p1,p2,())
 let x3:=(([]:List D205),(1:Int),())
 let r3_2_0:=(uM3 y3 (zC1 (tA7 y3) (vE8 y3) x3))
 let v35:=(bif (!p1) then (decide ((len p0) > 1)) else false)
 let v39:=(len p0)
 let v40:=(v39 - 1)
 let v41:=(nth p0 v40 Z125)
 let v44:=(nth p0 (0:Int) Z125)
 let v48:=([(f175 v41 v44 p2)]:List D205)
 (((Am.Ends (tA7 y3) (vE8 y3) (vK0 y3) x3) ∧ (v35 = true → (InR (v39 - 1) ∧ (InB v40 (len p0) ∧ (InB (0:Int) (len p0) ∧ ((tA6 v41 v44 p2) ∧ ((List.length r3_2_0 + List.length v48:Nat):Int) ≤ 4294967296)))))),(bif v35 then (r3_2_0 ++ v48) else r3_2_0))
def tY3 (p0:(List D125)) (p1:Bool) (p2:Int):Prop:=(pW2 p0 p1 p2).1
def f158 (p0:(List D125)) (p1:Bool) (p2:Int):(List D205):=(pW2 p0 p1 p2).2
instance (p0:(List D125)) (p1:Bool) (p2:Int):Decidable (tY3 p0 p1 p2):=by
 unfold tY3 pW2
 try dsimp only
 infer_instance
def sJ6:Am.Spec:=fnSpec [(0,(.val (.sl T125))),(1,vB),(2,vI)] (.own T205 0 false) [] (fun x=>tY3 x.1 x.2.1 x.2.2.1) (fun x=>f158 x.1 x.2.1 x.2.2.1) (fun _=>())
def rF5:Ctx:=Cx tys [(175,sJ5)] [(3,uM4)] [(11,[(4,0,28,1007)]),(15,[(4,0,49,1007)]),(17,[(4,0,1007,0)])] false 51 [] []
theorem rF6:CtxOk Tryz.prog rF5:=xW4 tys_ok rfl ⟨pW1,trivial⟩ rfl (by kernel_rfl)
noncomputable def qA4:Code:=Tryz.f158.body.getD .skip
noncomputable def qA5:Code:=xX3 qA4 0
theorem rS:yV Tryz.prog rF5 qA5:=xY2 rF6 mixed (sp:=uM4) rfl [tO8] (bs:=[]) (by kernel_rfl) trivial (by kernel_rfl) (by kernel_rfl) fun y x=>by kernel_rfl
theorem pW3:SpecOk Tryz.prog 158 sJ6:=xY3 rF6 mixed Tryz.func158 (by kernel_rfl) (bs:=[qA5]) (by kernel_rfl) ⟨rS,trivial⟩ fun x=>by kernel_rfl
abbrev wW8:Type:=((List D125) × (List D125) × Int × Unit)
abbrev wM:Type:=(Int × Int × Unit)
def uT8 (y:wW8) (x:wM):Prop × Bool × wM :=
 let a0:=y.1
 let a7:=y.2.1
 let a9:=x.2.1
 let v10:=(decide (a9 < y.2.2.1))
 let v12:=(nth a7 a9 Z125)
 let v18:=(len a0)
 let v19:=(Int.tmod (IntKind.wrap .i64 (a9 + 1)) v18)
 let v20:=(nth a0 v19 Z125)
 ((v10 = true → (InB a9 (len a7) ∧ (v18 ≠ 0 ∧ InB v19 (len a0)))),v10,((IntKind.wrap .i64 (x.1 + (IntKind.wrap .i64 ((IntKind.wrap .i64 (v12.1 * v20.2.1)) - (IntKind.wrap .i64 (v20.1 * v12.2.1)))))),(IntKind.wrap .i64 (a9 + 1)),()))
def vK1 (y:wW8) (x:wM):Prop:=(uT8 y x).1
def tA8 (y:wW8) (x:wM):Bool:=(uT8 y x).2.1
def vE9 (y:wW8) (x:wM):wM:=(uT8 y x).2.2
instance (y:wW8) (x:wM):Decidable (vK1 y x):=by
 unfold vK1 uT8
 try dsimp only
 infer_instance
def uM5 (y:wW8) (x:wM):Int :=
 x.1
def uM6:St → Option Out:=xP4 [(0,(.val (.sl T125))),(7,(.val (.sl T125))),(8,vI)] [(3,vI),(9,vI)] tA8 vE9 vK1 fun y x=>[ex 2 none [(3,vI)] ((uM5 y x),())]
def pW4 (p0:(List D125)):Prop × Int :=
 let y3:=(p0,p0,(len p0),())
 let x3:=((0:Int),(0:Int),())
 ((Am.Ends (tA8 y3) (vE9 y3) (vK1 y3) x3),(uM5 y3 (zC1 (tA8 y3) (vE9 y3) x3)))
def tY4 (p0:(List D125)):Prop:=(pW4 p0).1
def f177 (p0:(List D125)):Int:=(pW4 p0).2
instance (p0:(List D125)):Decidable (tY4 p0):=by
 unfold tY4 pW4
 try dsimp only
 infer_instance
def sJ7:Am.Spec:=fnSpec [(0,(.val (.sl T125)))] vI [] (fun x=>tY4 x.1) (fun x=>f177 x.1) (fun _=>())
def rF7:Ctx:=Cx tys [] [(3,uM6)] [] true 37 [] []
theorem rF8:CtxOk Tryz.prog rF7:=xW4 tys_ok rfl trivial rfl (by kernel_rfl)
noncomputable def qA6:Code:=Tryz.f177.body.getD .skip
noncomputable def qA7:Code:=xX3 qA6 0
theorem rS0:yV Tryz.prog rF7 qA7:=xY2 rF8 mixed (sp:=uM6) rfl [[(3,vI)]] (bs:=[]) (by kernel_rfl) trivial (by kernel_rfl) (by kernel_rfl) fun y x=>by kernel_rfl
theorem pW5:SpecOk Tryz.prog 177 sJ7:=xY3 rF8 mixed Tryz.func177 (by kernel_rfl) (bs:=[qA7]) (by kernel_rfl) ⟨rS0,trivial⟩ fun x=>by kernel_rfl
def f178 (_p0:(List D125)):Unit:=()
def pH8 (p0:(List D125)):(List D125) × Unit:=(List.reverse p0,())
def sU9 (_p0:(List D125)):Prop:=True
instance (p0:(List D125)):Decidable (sU9 p0):=isTrue trivial
def pW6:List (Nat × Sh):=[(0,(.own T125 400000 true))]
def pW7:Sh:=(.tup .nl)
def pW8:List (Nat × Sh):=[(0,(.own T125 400000 true))]
def sJ8:Am.Spec:=fnSpec pW6 pW7 pW8 (fun x=>sU9 x.1) (fun x=>f178 x.1) (fun x=>pH8 x.1)
theorem pW9:SpecOk Tryz.prog 178 sJ8:=spec_rev (by decide) rfl ⟨_,Tryz.func178,by kernel_rfl,by decide⟩ rev_ok
def pX (p0:D125) (p1:D125):Prop × D125 :=
 (True,((IntKind.wrap .i64 (p0.1 + p1.1)),(IntKind.wrap .i64 (p0.2.1 + p1.2.1)),()))
def wA5 (p0:D125) (p1:D125):Prop:=(pX p0 p1).1
def f161 (p0:D125) (p1:D125):D125:=(pX p0 p1).2
instance (p0:D125) (p1:D125):Decidable (wA5 p0 p1):=by
 unfold wA5 pX
 try dsimp only
 infer_instance
def wW9:Am.Spec:=fnSpec [(0,(.val T125)),(1,(.val T125))] (.val T125) [] (fun x=>wA5 x.1 x.2.1) (fun x=>f161 x.1 x.2.1) (fun _=>())
def qW9:Ctx:=Cx tys [] [] [] true 16 [] []
theorem qX:CtxOk Tryz.prog qW9:=xW4 tys_ok rfl trivial rfl (by kernel_rfl)
theorem tA9:SpecOk Tryz.prog 161 wW9:=xY3 qX mixed Tryz.func161 (by kernel_rfl) (bs:=[]) (by kernel_rfl) trivial fun x=>by kernel_rfl
def pX0 (p0:Int):Prop × Int :=
 let v5:=(IntKind.wrap .i64 (Int.tdiv p0 (256:Int)))
 let v7:=(decide (v5 ≥ 64))
 let v14:=(IntKind.wrap .i64 (v5 + 1))
 let v25:=(IntKind.wrap .i64 ((IntKind.wrap .i64 ((nth G5 v14 (0:Int)) - (nth G5 v5 (0:Int)))) * (IntKind.wrap .i64 (p0 - (IntKind.wrap .i64 (256 * v5))))))
 (((v7 = true → InB (64:Int) 65) ∧ ((!v7) = true → (InB v5 65 ∧ (InB v14 65 ∧ (InB v5 65 ∧ (xZ0 v25 (256:Int))))))),(bif v7 then (nth G5 (64:Int) (0:Int)) else (IntKind.wrap .i64 ((nth G5 v5 (0:Int)) + (f108 v25 (256:Int))))))
def vR9 (p0:Int):Prop:=(pX0 p0).1
def f202 (p0:Int):Int:=(pX0 p0).2
instance (p0:Int):Decidable (vR9 p0):=by
 unfold vR9 pX0
 try dsimp only
 infer_instance
def sJ9:Am.Spec:=fnSpec [(0,vI)] vI [] (fun x=>vR9 x.1) (fun x=>f202 x.1) (fun _=>())
def qX0:Ctx:=Cx tys [(108,wB3)] [] [] true 28 [] []
theorem qX1:CtxOk Tryz.prog qX0:=xW4 tys_ok rfl ⟨wQ2,trivial⟩ rfl (by kernel_rfl)
theorem pX1:SpecOk Tryz.prog 202 sJ9:=xY3 qX1 mixed Tryz.func202 (by kernel_rfl) (bs:=[]) (by kernel_rfl) trivial fun x=>by kernel_rfl
def pX2 (p0:Int):Prop × Int :=
 let v6:=(IntKind.wrap .i64 (Int.tdiv p0 (16384:Int)))
 let v10:=(IntKind.wrap .i64 (p0 - (IntKind.wrap .i64 (16384 * v6))))
 let v13:=(v6 == 0)
 let v17:=(v6 == 1)
 let v19:=(IntKind.wrap .i64 (16384 - v10))
 let v22:=(v6 == 2)
 let v27:=(IntKind.wrap .i64 (16384 - v10))
 let m2_2:=(bif (bif v13 then true else (bif v17 then true else v22)) then (bif v13 then (f202 v10) else (bif v17 then (f202 v19) else (IntKind.wrap .i64 (Int.sub 0 (f202 v10))))) else (IntKind.wrap .i64 (Int.sub 0 (f202 v27))))
 (((v13 = true → (vR9 v10)) ∧ ((v13 = false → ((v17 = true → (vR9 v19)) ∧ (v17 = false → (v22 = true → (vR9 v10))))) ∧ ((((!v22) && (!v17)) && (!v13)) = true → (vR9 v27)))),m2_2)
def tB (p0:Int):Prop:=(pX2 p0).1
def f197 (p0:Int):Int:=(pX2 p0).2
instance (p0:Int):Decidable (tB p0):=by
 unfold tB pX2
 try dsimp only
 infer_instance
def sK:Am.Spec:=fnSpec [(0,vI)] vI [] (fun x=>tB x.1) (fun x=>f197 x.1) (fun _=>())
def qX2:Ctx:=Cx tys [(202,sJ9)] [] [] true 30 [] []
theorem qX3:CtxOk Tryz.prog qX2:=xW4 tys_ok rfl ⟨pX1,trivial⟩ rfl (by kernel_rfl)
theorem pX3:SpecOk Tryz.prog 197 sK:=xY3 qX3 mixed Tryz.func197 (by kernel_rfl) (bs:=[]) (by kernel_rfl) trivial fun x=>by kernel_rfl
def pX4 (p0:Int):Prop × (Int × Int × Unit) :=
 let v6:=(xY4 .i64 p0 (65535:Int))
 let v11:=(Int.tmod (IntKind.wrap .i64 (v6 + 16384)) (65536:Int))
 (((tB v6) ∧ (tB v11)),((f197 v6),(f197 v11),()))
def tY5 (p0:Int):Prop:=(pX4 p0).1
def f186 (p0:Int):(Int × Int × Unit):=(pX4 p0).2
instance (p0:Int):Decidable (tY5 p0):=by
 unfold tY5 pX4
 try dsimp only
 infer_instance
def sK0:Am.Spec:=fnSpec [(0,vI)] (.tup (.cons vI (.cons vI .nl))) [] (fun x=>tY5 x.1) (fun x=>f186 x.1) (fun _=>())
def qX4:Ctx:=Cx tys [(197,sK)] [] [] true 13 [] []
theorem qX5:CtxOk Tryz.prog qX4:=xW4 tys_ok rfl ⟨pX3,trivial⟩ rfl (by kernel_rfl)
theorem pX5:SpecOk Tryz.prog 186 sK0:=xY3 qX5 mixed Tryz.func186 (by kernel_rfl) (bs:=[]) (by kernel_rfl) trivial fun x=>by kernel_rfl
abbrev wX:Type:=(Int × D125 × Int × Unit)
abbrev wM0:Type:=((List D125) × Int × Unit)
def uT9 (y:wX) (x:wM0):Prop × Bool × wM0 :=
 let a1:=y.1
 let a2:=y.2.1
 let a5:=x.1
 let a12:=x.2.1
 let v13:=(decide (a12 < y.2.2.1))
 let v17:=(IntKind.wrap .i64 (4096 * a12))
 let v18:=(f186 v17)
 let v26:=(IntKind.wrap .i64 (a1 * v18.2.1))
 let v30:=(IntKind.wrap .i64 (a1 * v18.1))
 let s:=((f108 v26 (131072:Int)),(f108 v30 (131072:Int)),())
 ((v13 = true → ((tY5 v17) ∧ ((xZ0 v26 (131072:Int)) ∧ ((xZ0 v30 (131072:Int)) ∧ ((wA5 a2 s) ∧ (InB a12 (len a5) ∧ a12 < len a5)))))),v13,((List.set a5 (Int.toNat a12) (f161 a2 s)),(IntKind.wrap .i64 (a12 + 1)),()))
def vK2 (y:wX) (x:wM0):Prop:=(uT9 y x).1
def tB0 (y:wX) (x:wM0):Bool:=(uT9 y x).2.1
def vF (y:wX) (x:wM0):wM0:=(uT9 y x).2.2
instance (y:wX) (x:wM0):Decidable (vK2 y x):=by
 unfold vK2 uT9
 try dsimp only
 infer_instance
def uM7 (y:wX) (x:wM0):(List D125) :=
 x.1
def uM8:St → Option Out:=xP4 [(1,vI),(2,(.box T125 (.val T125))),(11,vI)] [(5,(.own T125 1005 true)),(12,vI)] tB0 vF vK2 fun y x=>[ex 2 none [(5,(.own T125 1005 true))] ((uM7 y x),())]
def pX6 (p0:D125) (p1:Int):Prop × (List D125) :=
 let v9:=(List.replicate (Int.toNat (16:Int)) Z125)
 let y3:=(p1,p0,(len v9),())
 let x3:=(v9,(0:Int),())
 (((0 ≤ (16:Int) ∧ (16:Int) ≤ (16:Int) ∧ (16:Int) ≤ 4294967296) ∧ (Am.Ends (tB0 y3) (vF y3) (vK2 y3) x3)),(uM7 y3 (zC1 (tB0 y3) (vF y3) x3)))
def vS0 (p0:D125) (p1:Int):Prop:=(pX6 p0 p1).1
def f176 (p0:D125) (p1:Int):(List D125):=(pX6 p0 p1).2
instance (p0:D125) (p1:Int):Decidable (vS0 p0 p1):=by
 unfold vS0 pX6
 try dsimp only
 infer_instance
def vX:Am.Spec:=fnSpec [(0,(.val T125)),(1,vI)] (.own T125 0 true) [] (fun x=>vS0 x.1 x.2.1) (fun x=>f176 x.1 x.2.1) (fun _=>())
def rF9:Ctx:=Cx tys [(108,wB3),(161,wW9),(186,sK0)] [(3,uM8)] [(3,[(4,0,9,1005)]),(17,[(4,0,1005,0)])] true 37 [] [9]
theorem rG:CtxOk Tryz.prog rF9:=xW4 tys_ok rfl ⟨wQ2,tA9,pX5,trivial⟩ rfl (by kernel_rfl)
noncomputable def qA8:Code:=Tryz.f176.body.getD .skip
noncomputable def qA9:Code:=xX3 qA8 0
theorem rS1:yV Tryz.prog rF9 qA9:=xY2 rG mixed (sp:=uM8) rfl [[(5,(.own T125 1005 true))]] (bs:=[]) (by kernel_rfl) trivial (by kernel_rfl) (by kernel_rfl) fun y x=>by kernel_rfl
theorem sV:SpecOk Tryz.prog 176 vX:=xY3 rG mixed Tryz.func176 (by kernel_rfl) (bs:=[qA9]) (by kernel_rfl) ⟨rS1,trivial⟩ fun x=>by kernel_rfl
def uU (p0:(Int × Int × Int × (List (List D125)) × Int × Unit)) (p1:(List D125)):Prop × (Unit) × ((Int × Int × Int × (List (List D125)) × Int × Unit) × Unit) :=
 let v6:=(f177 p1)
 let v8:=(v6 == 0)
 let v10:=(decide (v6 < 0))
 let m1:=(bif v10 then (pH8 p1).1 else p1)
 let v19:=([m1]:List (List D125))
 let s:=((bif v8 then p0.1 else p0.1),(bif v8 then p0.2.1 else p0.2.1),(bif v8 then p0.2.2.1 else p0.2.2.1),(bif v8 then p0.2.2.2.1 else (p0.2.2.2.1 ++ v19)),(bif v8 then p0.2.2.2.2.1 else (IntKind.wrap .i64 (p0.2.2.2.2.1 + (len m1)))),())
 (((tY4 p1) ∧ ((!v8) = true → ((v10 = true → ((sU9 p1) ∧ (0 < List.length p1 ∧ (List.length p1 = List.length p1 ∧ (List.length p1 = List.length p1 ∧ List.length p1 = List.length p1))))) ∧ ((List.length p0.2.2.2.1 + List.length v19:Nat):Int) ≤ 4294967296))),(),(s,()))
def xZ1 (p0:(Int × Int × Int × (List (List D125)) × Int × Unit)) (p1:(List D125)):Prop:=(uU p0 p1).1
def pX7 (p0:(Int × Int × Int × (List (List D125)) × Int × Unit)) (p1:(List D125)):(Unit):=(uU p0 p1).2.1
def wA6 (p0:(Int × Int × Int × (List (List D125)) × Int × Unit)) (p1:(List D125)):((Int × Int × Int × (List (List D125)) × Int × Unit) × Unit):=(uU p0 p1).2.2
instance (p0:(Int × Int × Int × (List (List D125)) × Int × Unit)) (p1:(List D125)):Decidable (xZ1 p0 p1):=by
 unfold xZ1 uU
 try dsimp only
 infer_instance
def wM1:Am.Spec:=fnSpec [(0,(.box T179 (.agg (.cons (.int .i64) (.cons (.int .i64) (.cons (.int .i64) (.cons (.sl (.sl T125)) (.cons (.int .i64) .nl))))) (.cons vI (.cons vI (.cons vI (.cons (.own (.sl T125) 400000 false) (.cons vI .nl)))))))),(1,(.own T125 400100 true))] (.tup .nl) [(0,(.box T179 (.agg (.cons (.int .i64) (.cons (.int .i64) (.cons (.int .i64) (.cons (.sl (.sl T125)) (.cons (.int .i64) .nl))))) (.cons vI (.cons vI (.cons vI (.cons (.own (.sl T125) 400000 false) (.cons vI .nl))))))))] (fun x=>xZ1 x.1 x.2.1) (fun x=>pX7 x.1 x.2.1) (fun x=>wA6 x.1 x.2.1)
def sV0:Ctx:={ Cx tys [(177,sJ7),(178,sJ8)] [] [(8,[(1,1,0,0)]),(9,[(4,0,20,400000)])] true 32 [0] [] with wants:=[(178,[0])] }
theorem sV1:CtxOk Tryz.prog sV0:=xW4 tys_ok rfl ⟨pW5,pW9,trivial⟩ rfl (by kernel_rfl)
theorem vK3:SpecOk Tryz.prog 160 wM1:=xY3 sV1 mixed Tryz.func160 (by kernel_rfl) (bs:=[]) (by kernel_rfl) trivial fun x=>by kernel_rfl
def uU0 (p0:(Int × Int × Int × (List (List D125)) × Int × Unit)) (p1:D125):Prop × (Unit) × ((Int × Int × Int × (List (List D125)) × Int × Unit) × Unit) :=
 let v10:=(p0.2.2.1 == 1)
 let v17:=(f176 p1 p0.1)
 let s_1:=(p0.1,p0.2.1,p0.2.2.1,p0.2.2.2.1,p0.2.2.2.2.1,())
 let v18o:=(wA6 s_1 v17)
 let v20:=(p0.2.2.1 == 2)
 let v25:=(f108 p0.1 (2:Int))
 let s_2:=((IntKind.wrap .i64 (Int.sub 0 v25)),(IntKind.wrap .i64 (Int.sub 0 v25)),())
 let s_3:=(v25,(IntKind.wrap .i64 (Int.sub 0 v25)),())
 let s_4:=(v25,v25,())
 let s_5:=((IntKind.wrap .i64 (Int.sub 0 v25)),v25,())
 let v51:=([(f161 p1 s_2),(f161 p1 s_3),(f161 p1 s_4),(f161 p1 s_5)]:List D125)
 let s_7:=(p0.1,p0.2.1,p0.2.2.1,p0.2.2.2.1,p0.2.2.2.2.1,())
 let v52o:=(wA6 s_7 v51)
 let s_8:=((bif v10 then v18o.1.1 else (bif v20 then v52o.1.1 else p0.1)),(bif v10 then v18o.1.2.1 else (bif v20 then v52o.1.2.1 else p0.2.1)),(bif v10 then v18o.1.2.2.1 else (bif v20 then v52o.1.2.2.1 else p0.2.2.1)),(bif v10 then v18o.1.2.2.2.1 else (bif v20 then v52o.1.2.2.2.1 else p0.2.2.2.1)),(bif v10 then v18o.1.2.2.2.2.1 else (bif v20 then v52o.1.2.2.2.2.1 else p0.2.2.2.2.1)),())
 (((v10 = true → ((vS0 p1 p0.1) ∧ (xZ1 s_1 v17))) ∧ (v10 = false → (v20 = true → ((xZ0 p0.1 (2:Int)) ∧ ((wA5 p1 s_2) ∧ ((wA5 p1 s_3) ∧ ((wA5 p1 s_4) ∧ ((wA5 p1 s_5) ∧ (xZ1 s_7 v51))))))))),(),(s_8,()))
def vK4 (p0:(Int × Int × Int × (List (List D125)) × Int × Unit)) (p1:D125):Prop:=(uU0 p0 p1).1
def pX8 (p0:(Int × Int × Int × (List (List D125)) × Int × Unit)) (p1:D125):(Unit):=(uU0 p0 p1).2.1
def sK1 (p0:(Int × Int × Int × (List (List D125)) × Int × Unit)) (p1:D125):((Int × Int × Int × (List (List D125)) × Int × Unit) × Unit):=(uU0 p0 p1).2.2
instance (p0:(Int × Int × Int × (List (List D125)) × Int × Unit)) (p1:D125):Decidable (vK4 p0 p1):=by
 unfold vK4 uU0
 try dsimp only
 infer_instance
def uM9:Am.Spec:=fnSpec [(0,(.box T179 (.agg (.cons (.int .i64) (.cons (.int .i64) (.cons (.int .i64) (.cons (.sl (.sl T125)) (.cons (.int .i64) .nl))))) (.cons vI (.cons vI (.cons vI (.cons (.own (.sl T125) 400000 false) (.cons vI .nl)))))))),(1,(.val T125))] (.tup .nl) [(0,(.box T179 (.agg (.cons (.int .i64) (.cons (.int .i64) (.cons (.int .i64) (.cons (.sl (.sl T125)) (.cons (.int .i64) .nl))))) (.cons vI (.cons vI (.cons vI (.cons (.own (.sl T125) 400000 false) (.cons vI .nl))))))))] (fun x=>vK4 x.1 x.2.1) (fun x=>pX8 x.1 x.2.1) (fun x=>sK1 x.1 x.2.1)
def sV2:Ctx:={ Cx tys [(108,wB3),(160,wM1),(161,wW9),(176,vX)] [] [] true 53 [0] [51] with wants:=[(160,[1])] }
theorem sV3:CtxOk Tryz.prog sV2:=xW4 tys_ok rfl ⟨wQ2,vK3,tA9,sV,trivial⟩ rfl (by kernel_rfl)
theorem rS2:SpecOk Tryz.prog 159 uM9:=xY3 sV3 mixed Tryz.func159 (by kernel_rfl) (bs:=[]) (by kernel_rfl) trivial fun x=>by kernel_rfl
def uU1 (p0:(Int × Int × Int × (List (List D125)) × Int × Unit)) (p1:D205) (p2:D205):Prop × (Unit) × ((Int × Int × Int × (List (List D125)) × Int × Unit) × Unit) :=
 let v23:=(p0.2.1 == 1)
 let v30:=(f176 p2.1 p0.1)
 let s_1:=(p0.1,p0.2.1,p0.2.2.1,p0.2.2.2.1,p0.2.2.2.2.1,())
 let v31o:=(wA6 s_1 v30)
 let v40:=([p2.1,(f161 p2.1 p1.2.2.2.1),(f161 p2.1 p2.2.2.2.1)]:List D125)
 let s_3:=(p0.1,p0.2.1,p0.2.2.1,p0.2.2.2.1,p0.2.2.2.2.1,())
 let v41o:=(wA6 s_3 v40)
 let v50:=([p2.1,(f162 p2.1 p1.2.2.2.1),(f162 p2.1 p2.2.2.2.1)]:List D125)
 let s_5:=(v41o.1.1,v41o.1.2.1,v41o.1.2.2.1,v41o.1.2.2.2.1,v41o.1.2.2.2.2.1,())
 let v51o:=(wA6 s_5 v50)
 let v66:=(IntKind.wrap .i64 ((IntKind.wrap .i64 (p1.2.2.1.1 * p2.2.2.1.2.1)) - (IntKind.wrap .i64 (p1.2.2.1.2.1 * p2.2.2.1.1))))
 let v75:=(IntKind.wrap .i64 (v51o.1.1 * v51o.1.1))
 let v89:=(IntKind.wrap .i64 (v75 + (IntKind.wrap .i64 (4 * (IntKind.wrap .i64 ((IntKind.wrap .i64 (p1.2.2.2.1.1 * p2.2.2.2.1.1)) + (IntKind.wrap .i64 (p1.2.2.2.1.2.1 * p2.2.2.2.1.2.1))))))))
 let v102:=(bif (bif (v51o.1.2.1 == 2) then true else (v66 == 0)) then true else (decide (v89 ≤ 0)))
 let v109:=(IntKind.wrap .i64 (v75 * (IntKind.wrap .i64 (p1.2.2.2.1.1 + p2.2.2.2.1.1))))
 let v111:=(f108 v109 v89)
 let v118:=(IntKind.wrap .i64 (v75 * (IntKind.wrap .i64 (p1.2.2.2.1.2.1 + p2.2.2.2.1.2.1))))
 let v120:=(f108 v118 v89)
 let s_6:=(v111,v120,())
 let v132:=(decide ((f179 v111 v120) > (IntKind.wrap .i64 (4 * v51o.1.1))))
 let v134:=(decide (v66 > 0))
 let v146:=([p2.1,(f162 p2.1 p1.2.2.2.1),(f162 p2.1 s_6),(f162 p2.1 p2.2.2.2.1)]:List D125)
 let s_8:=(v51o.1.1,v51o.1.2.1,v51o.1.2.2.1,v51o.1.2.2.2.1,v51o.1.2.2.2.2.1,())
 let v147o:=(wA6 s_8 v146)
 let v159:=([p2.1,(f161 p2.1 p1.2.2.2.1),(f161 p2.1 s_6),(f161 p2.1 p2.2.2.2.1)]:List D125)
 let s_10:=(v51o.1.1,v51o.1.2.1,v51o.1.2.2.1,v51o.1.2.2.2.1,v51o.1.2.2.2.2.1,())
 let v160o:=(wA6 s_10 v159)
 let c_5:=(v23 || ((!v23) && (v102 || ((!v102) && v132))))
 let s_11:=((bif c_5 then (bif v23 then v31o.1.1 else v51o.1.1) else (bif v134 then v147o.1.1 else v160o.1.1)),(bif c_5 then (bif v23 then v31o.1.2.1 else v51o.1.2.1) else (bif v134 then v147o.1.2.1 else v160o.1.2.1)),(bif c_5 then (bif v23 then v31o.1.2.2.1 else v51o.1.2.2.1) else (bif v134 then v147o.1.2.2.1 else v160o.1.2.2.1)),(bif c_5 then (bif v23 then v31o.1.2.2.2.1 else v51o.1.2.2.2.1) else (bif v134 then v147o.1.2.2.2.1 else v160o.1.2.2.2.1)),(bif c_5 then (bif v23 then v31o.1.2.2.2.2.1 else v51o.1.2.2.2.2.1) else (bif v134 then v147o.1.2.2.2.2.1 else v160o.1.2.2.2.2.1)),())
 (((v23 = true → ((vS0 p2.1 p0.1) ∧ (xZ1 s_1 v30))) ∧ ((!v23) = true → ((wA5 p2.1 p1.2.2.2.1) ∧ ((wA5 p2.1 p2.2.2.2.1) ∧ ((xZ1 s_3 v40) ∧ ((wD7 p2.1 p1.2.2.2.1) ∧ ((wD7 p2.1 p2.2.2.2.1) ∧ ((xZ1 s_5 v50) ∧ ((!v102) = true → ((xZ0 v109 v89) ∧ ((xZ0 v118 v89) ∧ ((tA4 v111 v120) ∧ ((!v132) = true → ((v134 = true → ((wD7 p2.1 p1.2.2.2.1) ∧ ((wD7 p2.1 s_6) ∧ ((wD7 p2.1 p2.2.2.2.1) ∧ (xZ1 s_8 v146))))) ∧ (v134 = false → ((wA5 p2.1 p1.2.2.2.1) ∧ ((wA5 p2.1 s_6) ∧ ((wA5 p2.1 p2.2.2.2.1) ∧ (xZ1 s_10 v159))))))))))))))))))),(),(s_11,()))
def wX0 (p0:(Int × Int × Int × (List (List D125)) × Int × Unit)) (p1:D205) (p2:D205):Prop:=(uU1 p0 p1 p2).1
def pX9 (p0:(Int × Int × Int × (List (List D125)) × Int × Unit)) (p1:D205) (p2:D205):(Unit):=(uU1 p0 p1 p2).2.1
def tB1 (p0:(Int × Int × Int × (List (List D125)) × Int × Unit)) (p1:D205) (p2:D205):((Int × Int × Int × (List (List D125)) × Int × Unit) × Unit):=(uU1 p0 p1 p2).2.2
instance (p0:(Int × Int × Int × (List (List D125)) × Int × Unit)) (p1:D205) (p2:D205):Decidable (wX0 p0 p1 p2):=by
 unfold wX0 uU1
 try dsimp only
 infer_instance
def uN:Am.Spec:=fnSpec [(0,(.box T179 (.agg (.cons (.int .i64) (.cons (.int .i64) (.cons (.int .i64) (.cons (.sl (.sl T125)) (.cons (.int .i64) .nl))))) (.cons vI (.cons vI (.cons vI (.cons (.own (.sl T125) 400000 false) (.cons vI .nl)))))))),(1,(.val T205)),(2,(.val T205))] (.tup .nl) [(0,(.box T179 (.agg (.cons (.int .i64) (.cons (.int .i64) (.cons (.int .i64) (.cons (.sl (.sl T125)) (.cons (.int .i64) .nl))))) (.cons vI (.cons vI (.cons vI (.cons (.own (.sl T125) 400000 false) (.cons vI .nl))))))))] (fun x=>wX0 x.1 x.2.1 x.2.2.1) (fun x=>pX9 x.1 x.2.1 x.2.2.1) (fun x=>tB1 x.1 x.2.1 x.2.2.1)
def sV4:Ctx:={ Cx tys [(108,wB3),(160,wM1),(161,wW9),(162,vE6),(176,vX),(179,tA5)] [] [] true 161 [0] [40,50,146,159] with wants:=[(160,[1])] }
theorem sV5:CtxOk Tryz.prog sV4:=xW4 tys_ok rfl ⟨wQ2,vK3,tA9,tY2,sV,qA3,trivial⟩ rfl (by kernel_rfl)
theorem rS3:SpecOk Tryz.prog 163 uN:=xY3 sV5 mixed Tryz.func163 (by kernel_rfl) (bs:=[]) (by kernel_rfl) trivial fun x=>by kernel_rfl
def uU2 (p0:(Int × Int × Int × (List (List D125)) × Int × Unit)) (p1:D205) (p2:D205):Prop × (Unit) × ((Int × Int × Int × (List (List D125)) × Int × Unit) × Unit) :=
 let v12:=(p0.2.2.1 == 1)
 let v20:=(f176 p1.1 p0.1)
 let s_1:=(p0.1,p0.2.1,p0.2.2.1,p0.2.2.2.1,p0.2.2.2.2.1,())
 let v21o:=(wA6 s_1 v20)
 let v29:=(f176 p2.2.1 v21o.1.1)
 let s_3:=(v21o.1.1,v21o.1.2.1,v21o.1.2.2.1,v21o.1.2.2.2.1,v21o.1.2.2.2.2.1,())
 let v30o:=(wA6 s_3 v29)
 let v32:=(p0.2.2.1 == 2)
 let v37:=(f162 p1.1 p1.2.2.2.2.1)
 let v57:=([(f161 v37 p1.2.2.2.1),(f161 p1.1 p1.2.2.2.1),(f162 p1.1 p1.2.2.2.1),(f162 v37 p1.2.2.2.1)]:List D125)
 let s_5:=(p0.1,p0.2.1,p0.2.2.1,p0.2.2.2.1,p0.2.2.2.2.1,())
 let v58o:=(wA6 s_5 v57)
 let v63:=(f161 p2.2.1 p2.2.2.2.2.1)
 let v83:=([(f161 p2.2.1 p2.2.2.2.1),(f161 v63 p2.2.2.2.1),(f162 v63 p2.2.2.2.1),(f162 p2.2.1 p2.2.2.2.1)]:List D125)
 let s_7:=(v58o.1.1,v58o.1.2.1,v58o.1.2.2.1,v58o.1.2.2.2.1,v58o.1.2.2.2.2.1,())
 let v84o:=(wA6 s_7 v83)
 let s_8:=((bif v12 then v30o.1.1 else (bif v32 then v84o.1.1 else p0.1)),(bif v12 then v30o.1.2.1 else (bif v32 then v84o.1.2.1 else p0.2.1)),(bif v12 then v30o.1.2.2.1 else (bif v32 then v84o.1.2.2.1 else p0.2.2.1)),(bif v12 then v30o.1.2.2.2.1 else (bif v32 then v84o.1.2.2.2.1 else p0.2.2.2.1)),(bif v12 then v30o.1.2.2.2.2.1 else (bif v32 then v84o.1.2.2.2.2.1 else p0.2.2.2.2.1)),())
 (((v12 = true → ((vS0 p1.1 p0.1) ∧ ((xZ1 s_1 v20) ∧ ((vS0 p2.2.1 v21o.1.1) ∧ (xZ1 s_3 v29))))) ∧ (v12 = false → (v32 = true → ((wD7 p1.1 p1.2.2.2.2.1) ∧ ((wA5 v37 p1.2.2.2.1) ∧ ((wA5 p1.1 p1.2.2.2.1) ∧ ((wD7 p1.1 p1.2.2.2.1) ∧ ((wD7 v37 p1.2.2.2.1) ∧ ((xZ1 s_5 v57) ∧ ((wA5 p2.2.1 p2.2.2.2.2.1) ∧ ((wA5 p2.2.1 p2.2.2.2.1) ∧ ((wA5 v63 p2.2.2.2.1) ∧ ((wD7 v63 p2.2.2.2.1) ∧ ((wD7 p2.2.1 p2.2.2.2.1) ∧ (xZ1 s_7 v83))))))))))))))),(),(s_8,()))
def vK5 (p0:(Int × Int × Int × (List (List D125)) × Int × Unit)) (p1:D205) (p2:D205):Prop:=(uU2 p0 p1 p2).1
def pY (p0:(Int × Int × Int × (List (List D125)) × Int × Unit)) (p1:D205) (p2:D205):(Unit):=(uU2 p0 p1 p2).2.1
def sK2 (p0:(Int × Int × Int × (List (List D125)) × Int × Unit)) (p1:D205) (p2:D205):((Int × Int × Int × (List (List D125)) × Int × Unit) × Unit):=(uU2 p0 p1 p2).2.2
instance (p0:(Int × Int × Int × (List (List D125)) × Int × Unit)) (p1:D205) (p2:D205):Decidable (vK5 p0 p1 p2):=by
 unfold vK5 uU2
 try dsimp only
 infer_instance
def uN0:Am.Spec:=fnSpec [(0,(.box T179 (.agg (.cons (.int .i64) (.cons (.int .i64) (.cons (.int .i64) (.cons (.sl (.sl T125)) (.cons (.int .i64) .nl))))) (.cons vI (.cons vI (.cons vI (.cons (.own (.sl T125) 400000 false) (.cons vI .nl)))))))),(1,(.val T205)),(2,(.val T205))] (.tup .nl) [(0,(.box T179 (.agg (.cons (.int .i64) (.cons (.int .i64) (.cons (.int .i64) (.cons (.sl (.sl T125)) (.cons (.int .i64) .nl))))) (.cons vI (.cons vI (.cons vI (.cons (.own (.sl T125) 400000 false) (.cons vI .nl))))))))] (fun x=>vK5 x.1 x.2.1 x.2.2.1) (fun x=>pY x.1 x.2.1 x.2.2.1) (fun x=>sK2 x.1 x.2.1 x.2.2.1)
def sV6:Ctx:={ Cx tys [(160,wM1),(161,wW9),(162,vE6),(176,vX)] [] [] true 85 [0] [57,83] with wants:=[(160,[1])] }
theorem sV7:CtxOk Tryz.prog sV6:=xW4 tys_ok rfl ⟨vK3,tA9,tY2,sV,trivial⟩ rfl (by kernel_rfl)
theorem rS4:SpecOk Tryz.prog 164 uN0:=xY3 sV7 mixed Tryz.func164 (by kernel_rfl) (bs:=[]) (by kernel_rfl) trivial fun x=>by kernel_rfl
abbrev wG3:Type:=(Bool × (List D205) × (List D205) × Int × Unit)
abbrev wB:Type:=((Int × Int × Int × (List (List D125)) × Int × Unit) × Int × Unit)
def vA1 (y:wG3) (x:wB):Prop × Bool × wB :=
 let a32:=y.2.2.1
 let a0:=x.1
 let a34:=x.2.1
 let v35:=(decide (a34 < y.2.2.2.1))
 let v36:=(nth a32 a34 Z205)
 let v59:=([(f161 v36.1 v36.2.2.2.1),(f161 v36.2.1 v36.2.2.2.1),(f162 v36.2.1 v36.2.2.2.1),(f162 v36.1 v36.2.2.2.1)]:List D125)
 let s_1:=(a0.1,a0.2.1,a0.2.2.1,a0.2.2.2.1,a0.2.2.2.2.1,())
 let v60o:=(wA6 s_1 v59)
 ((v35 = true → (InB a34 (len a32) ∧ ((wA5 v36.1 v36.2.2.2.1) ∧ ((wA5 v36.2.1 v36.2.2.2.1) ∧ ((wD7 v36.2.1 v36.2.2.2.1) ∧ ((wD7 v36.1 v36.2.2.2.1) ∧ ((xZ1 s_1 v59) ∧ InR (a34 + 1)))))))),v35,((v60o.1.1,v60o.1.2.1,v60o.1.2.2.1,v60o.1.2.2.2.1,v60o.1.2.2.2.2.1,()),(a34 + 1),()))
def wO7 (y:wG3) (x:wB):Prop:=(vA1 y x).1
def vF0 (y:wG3) (x:wB):Bool:=(vA1 y x).2.1
def wQ5 (y:wG3) (x:wB):wB:=(vA1 y x).2.2
instance (y:wG3) (x:wB):Decidable (wO7 y x):=by
 unfold wO7 vA1
 try dsimp only
 infer_instance
def vF1 (y:wG3) (x:wB):(Int × Int × Int × (List (List D125)) × Int × Unit) :=
 let a0:=x.1
 (a0.1,a0.2.1,a0.2.2.1,a0.2.2.2.1,a0.2.2.2.2.1,())
def vX0:List (Nat × Sh):=[(0,(.box T179 (.agg (.cons (.int .i64) (.cons (.int .i64) (.cons (.int .i64) (.cons (.sl (.sl T125)) (.cons (.int .i64) .nl))))) (.cons vI (.cons vI (.cons vI (.cons (.own (.sl T125) 400000 false) (.cons vI .nl)))))))),(2,vB),(7,(.own T205 1007 false))]
def vF2:St → Option Out:=xP4 [(2,vB),(7,(.own T205 1007 false)),(32,(.own T205 1007 false)),(33,vI)] [(0,(.box T179 (.agg (.cons (.int .i64) (.cons (.int .i64) (.cons (.int .i64) (.cons (.sl (.sl T125)) (.cons (.int .i64) .nl))))) (.cons vI (.cons vI (.cons vI (.cons (.own (.sl T125) 400000 false) (.cons vI .nl)))))))),(34,vI)] vF0 wQ5 wO7 fun y x=>[ex 2 none vX0 ((vF1 y x),y.1,y.2.1,())]
abbrev wD6:Type:=(Bool × (List D205) × Unit)
abbrev xZ9:Type:=((Int × Int × Int × (List (List D125)) × Int × Unit) × Int × Unit)
def wS1 (y:wD6) (x:xZ9):Prop × Bool × xZ9 :=
 let a7:=y.2.1
 let a0:=x.1
 let a10:=x.2.1
 let v78:=(decide (a10 < (len a7)))
 let v84:=(a10 - 1)
 let v85:=(nth a7 v84 Z205)
 let v89:=(nth a7 a10 Z205)
 let s_1:=(a0.1,a0.2.1,a0.2.2.1,a0.2.2.2.1,a0.2.2.2.2.1,())
 let v91o:=(tB1 s_1 v85 v89)
 ((v78 = true → (InR (a10 - 1) ∧ (InB v84 (len a7) ∧ (InB a10 (len a7) ∧ ((wX0 s_1 v85 v89) ∧ InR (a10 + 1)))))),v78,((v91o.1.1,v91o.1.2.1,v91o.1.2.2.1,v91o.1.2.2.2.1,v91o.1.2.2.2.2.1,()),(a10 + 1),()))
def wI6 (y:wD6) (x:xZ9):Prop:=(wS1 y x).1
def vA2 (y:wD6) (x:xZ9):Bool:=(wS1 y x).2.1
def wO1 (y:wD6) (x:xZ9):xZ9:=(wS1 y x).2.2
instance (y:wD6) (x:xZ9):Decidable (wI6 y x):=by
 unfold wI6 wS1
 try dsimp only
 infer_instance
def vC7 (y:wD6) (x:xZ9):(Int × Int × Int × (List (List D125)) × Int × Unit) :=
 let a0:=x.1
 (a0.1,a0.2.1,a0.2.2.1,a0.2.2.2.1,a0.2.2.2.2.1,())
def vP1:List (Nat × Sh):=[(0,(.box T179 (.agg (.cons (.int .i64) (.cons (.int .i64) (.cons (.int .i64) (.cons (.sl (.sl T125)) (.cons (.int .i64) .nl))))) (.cons vI (.cons vI (.cons vI (.cons (.own (.sl T125) 400000 false) (.cons vI .nl)))))))),(2,vB),(7,(.own T205 1007 false))]
def vC8:St → Option Out:=xP4 [(2,vB),(7,(.own T205 1007 false))] [(0,(.box T179 (.agg (.cons (.int .i64) (.cons (.int .i64) (.cons (.int .i64) (.cons (.sl (.sl T125)) (.cons (.int .i64) .nl))))) (.cons vI (.cons vI (.cons vI (.cons (.own (.sl T125) 400000 false) (.cons vI .nl)))))))),(10,vI)] vA2 wO1 wI6 fun y x=>[ex 4 none vP1 ((vC7 y x),y.1,y.2.1,())]
def uU3 (p0:(Int × Int × Int × (List (List D125)) × Int × Unit)) (p1:(List D125)) (p2:Bool):Prop × (Unit) × ((Int × Int × Int × (List (List D125)) × Int × Unit) × Unit) :=
 let v13:=(f157 p1 p2)
 let v20:=(f158 v13 p2 p0.1)
 let v23:=((len v20) == 0)
 let v26:=((len v13) == 1)
 let v29:=(nth v13 (0:Int) Z125)
 let s_1:=(p0.1,p0.2.1,p0.2.2.1,p0.2.2.2.1,p0.2.2.2.2.1,())
 let v31o:=(sK1 s_1 v29)
 let y6:=(p2,v20,v20,(len v20),())
 let x6:=((p0.1,p0.2.1,p0.2.2.1,p0.2.2.2.1,p0.2.2.2.2.1,()),(0:Int),())
 let r6_2_0:=(vF1 y6 (zC1 (vF0 y6) (wQ5 y6) x6))
 let v63:=(!p2)
 let v67:=(len v20)
 let v68:=(v67 - 1)
 let v69:=(nth v20 v68 Z205)
 let v72:=(nth v20 (0:Int) Z205)
 let s_4:=(r6_2_0.1,r6_2_0.2.1,r6_2_0.2.2.1,r6_2_0.2.2.2.1,r6_2_0.2.2.2.2.1,())
 let v74o:=(tB1 s_4 v69 v72)
 let s_5:=((bif v63 then v74o.1.1 else r6_2_0.1),(bif v63 then v74o.1.2.1 else r6_2_0.2.1),(bif v63 then v74o.1.2.2.1 else r6_2_0.2.2.1),(bif v63 then v74o.1.2.2.2.1 else r6_2_0.2.2.2.1),(bif v63 then v74o.1.2.2.2.2.1 else r6_2_0.2.2.2.2.1),())
 let y13:=(p2,v20,())
 let x13:=(s_5,(1:Int),())
 let r13_4_0:=(vC7 y13 (zC1 (vA2 y13) (wO1 y13) x13))
 let v95:=(nth v20 (0:Int) Z205)
 let v99:=(len v20)
 let v100:=(v99 - 1)
 let v101:=(nth v20 v100 Z205)
 let s_7:=(r13_4_0.1,r13_4_0.2.1,r13_4_0.2.2.1,r13_4_0.2.2.2.1,r13_4_0.2.2.2.2.1,())
 let v103o:=(sK2 s_7 v95 v101)
 let s_8:=((bif v23 then (bif v26 then v31o.1.1 else p0.1) else (bif p2 then v103o.1.1 else r13_4_0.1)),(bif v23 then (bif v26 then v31o.1.2.1 else p0.2.1) else (bif p2 then v103o.1.2.1 else r13_4_0.2.1)),(bif v23 then (bif v26 then v31o.1.2.2.1 else p0.2.2.1) else (bif p2 then v103o.1.2.2.1 else r13_4_0.2.2.1)),(bif v23 then (bif v26 then v31o.1.2.2.2.1 else p0.2.2.2.1) else (bif p2 then v103o.1.2.2.2.1 else r13_4_0.2.2.2.1)),(bif v23 then (bif v26 then v31o.1.2.2.2.2.1 else p0.2.2.2.2.1) else (bif p2 then v103o.1.2.2.2.2.1 else r13_4_0.2.2.2.2.1)),())
 (((tY p1 p2) ∧ ((tY3 v13 p2 p0.1) ∧ ((v23 = true → (v26 = true → (InB (0:Int) (len v13) ∧ (vK4 s_1 v29)))) ∧ ((!v23) = true → ((Am.Ends (vF0 y6) (wQ5 y6) (wO7 y6) x6) ∧ ((v63 = true → (InR (v67 - 1) ∧ (InB v68 (len v20) ∧ (InB (0:Int) (len v20) ∧ (wX0 s_4 v69 v72))))) ∧ ((Am.Ends (vA2 y13) (wO1 y13) (wI6 y13) x13) ∧ (p2 = true → (InB (0:Int) (len v20) ∧ (InR (v99 - 1) ∧ (InB v100 (len v20) ∧ (vK5 s_7 v95 v101)))))))))))),(),(s_8,()))
def vK6 (p0:(Int × Int × Int × (List (List D125)) × Int × Unit)) (p1:(List D125)) (p2:Bool):Prop:=(uU3 p0 p1 p2).1
def pY0 (p0:(Int × Int × Int × (List (List D125)) × Int × Unit)) (p1:(List D125)) (p2:Bool):(Unit):=(uU3 p0 p1 p2).2.1
def sK3 (p0:(Int × Int × Int × (List (List D125)) × Int × Unit)) (p1:(List D125)) (p2:Bool):((Int × Int × Int × (List (List D125)) × Int × Unit) × Unit):=(uU3 p0 p1 p2).2.2
instance (p0:(Int × Int × Int × (List (List D125)) × Int × Unit)) (p1:(List D125)) (p2:Bool):Decidable (vK6 p0 p1 p2):=by
 unfold vK6 uU3
 try dsimp only
 infer_instance
def uN1:Am.Spec:=fnSpec [(0,(.box T179 (.agg (.cons (.int .i64) (.cons (.int .i64) (.cons (.int .i64) (.cons (.sl (.sl T125)) (.cons (.int .i64) .nl))))) (.cons vI (.cons vI (.cons vI (.cons (.own (.sl T125) 400000 false) (.cons vI .nl)))))))),(1,(.val (.sl T125))),(2,vB)] (.tup .nl) [(0,(.box T179 (.agg (.cons (.int .i64) (.cons (.int .i64) (.cons (.int .i64) (.cons (.sl (.sl T125)) (.cons (.int .i64) .nl))))) (.cons vI (.cons vI (.cons vI (.cons (.own (.sl T125) 400000 false) (.cons vI .nl))))))))] (fun x=>vK6 x.1 x.2.1 x.2.2.1) (fun x=>pY0 x.1 x.2.1 x.2.2.1) (fun x=>sK3 x.1 x.2.1 x.2.2.1)
def vS1:Ctx:={ Cx tys [(157,sJ1),(158,sJ6),(159,uM9),(160,wM1),(161,wW9),(162,vE6),(163,uN),(164,uN0)] [(6,vF2),(13,vC8)] [(3,[(4,0,20,1007)])] false 104 [0] [59] with wants:=[(159,[]),(160,[1]),(163,[]),(164,[])] }
theorem vS2:CtxOk Tryz.prog vS1:=xW4 tys_ok rfl ⟨pV4,pW3,rS2,vK3,tA9,tY2,rS3,rS4,trivial⟩ rfl (by kernel_rfl)
noncomputable def uN2:Code:=Tryz.f146.body.getD .skip
noncomputable def tO9:Code:=xX3 uN2 0
theorem tY6:yV Tryz.prog vS1 tO9:=xY2 vS2 mixed (sp:=vF2) rfl [vX0] (bs:=[]) (by kernel_rfl) trivial (by kernel_rfl) (by kernel_rfl) fun y x=>by kernel_rfl
noncomputable def tB2:Code:=xX3 uN2 1
theorem tN0:yV Tryz.prog vS1 tB2:=xY2 vS2 mixed (sp:=vC8) rfl [vP1] (bs:=[]) (by kernel_rfl) trivial (by kernel_rfl) (by kernel_rfl) fun y x=>by kernel_rfl
theorem rS5:SpecOk Tryz.prog 146 uN1:=xY3 vS2 mixed Tryz.func146 (by kernel_rfl) (bs:=[tO9,tB2]) (by kernel_rfl) ⟨tY6,tN0,trivial⟩ fun x=>by kernel_rfl
abbrev wC:Type:=((List Bool) × Unit × (List (List D125)) × Int × Unit)
abbrev xZ5:Type:=((Int × Int × Int × (List (List D125)) × Int × Unit) × Int × Unit)
def wX1 (y:wC) (x:xZ5):Prop × Bool × xZ5 × Bool × Bool :=
 let a1:=y.1
 let a39:=y.2.2.1
 let a38:=x.1
 let a41:=x.2.1
 let v42:=(decide (a41 < y.2.2.2.1))
 let v44:=(nth a39 a41 ([]:List D125))
 let v50:=(nth a1 a41 false)
 let s_1:=(a38.1,a38.2.1,a38.2.2.1,a38.2.2.2.1,a38.2.2.2.2.1,())
 let v52o:=(sK3 s_1 v44 v50)
 let v57:=(decide (v52o.1.2.2.2.2.1 > 4096))
 ((v42 = true → (InB a41 (len a39) ∧ (InB a41 (len a1) ∧ ((vK6 s_1 v44 v50) ∧ ((!v57) = true → InR (a41 + 1)))))),(v42 && (!v57)),((v52o.1.1,v52o.1.2.1,v52o.1.2.2.1,v52o.1.2.2.2.1,v52o.1.2.2.2.2.1,()),(a41 + 1),()),(v42 && v57),(!v42))
def vA3 (y:wC) (x:xZ5):Prop:=(wX1 y x).1
def uG2 (y:wC) (x:xZ5):Bool:=(wX1 y x).2.1
def vA4 (y:wC) (x:xZ5):xZ5:=(wX1 y x).2.2.1
def tB3 (y:wC) (x:xZ5):Bool:=(wX1 y x).2.2.2.1
def sV8 (y:wC) (x:xZ5):Bool:=(wX1 y x).2.2.2.2
instance (y:wC) (x:xZ5):Decidable (vA3 y x):=by
 unfold vA3 wX1
 try dsimp only
 infer_instance
def vX1 (y:wC) (x:xZ5):(List (List D125)) :=
 ([]:List (List D125))
def vX2 (y:wC) (x:xZ5):Int :=
 (3:Int)
def tB4:List (Nat × Sh):=[(10,(.own (.sl T125) 0 false)),(11,vI)]
def vX3 (y:wC) (x:xZ5):(Int × Int × Int × (List (List D125)) × Int × Unit) :=
 let a38:=x.1
 (a38.1,a38.2.1,a38.2.2.1,a38.2.2.2.1,a38.2.2.2.2.1,())
def tB5:List (Nat × Sh):=[(14,(.ref 38 T179)),(38,(.box T179 (.agg (.cons (.int .i64) (.cons (.int .i64) (.cons (.int .i64) (.cons (.sl (.sl T125)) (.cons (.int .i64) .nl))))) (.cons vI (.cons vI (.cons vI (.cons (.own (.sl T125) 403800 false) (.cons vI .nl))))))))]
def vX4:St → Option Out:=xP4 [(1,(.val (.sl .bool))),(14,(.ref 38 T179)),(39,(.val (.sl (.sl T125)))),(40,vI)] [(38,(.box T179 (.agg (.cons (.int .i64) (.cons (.int .i64) (.cons (.int .i64) (.cons (.sl (.sl T125)) (.cons (.int .i64) .nl))))) (.cons vI (.cons vI (.cons vI (.cons (.own (.sl T125) 403800 false) (.cons vI .nl)))))))),(41,vI)] uG2 vA4 vA3 fun y x=>[ex 1 (some (tB3 y x)) tB4 ((vX1 y x),(vX2 y x),()),ex 2 (some (sV8 y x)) tB5 (y.2.1,(vX3 y x),())]
def pY1 (p0:(List (List D125))) (p1:(List Bool)) (p2:Int) (p3:Int) (p4:Int):Prop × ((List (List D125)) × Int × Unit) :=
 let v20:=(f145 p2 p3 p4)
 let v22:=(v20 != 0)
 let v25:=(f129 p0 (0:Int))
 let v27:=(v25 != 0)
 let v33:=((len p1) != (len p0))
 let y11:=(p1,(),p0,(len p0),())
 let x11:=((p2,p3,p4,([]:List (List D125)),(0:Int),()),(0:Int),())
 let e11:=(zC1 (uG2 y11) (vA4 y11) x11)
 let q11_1:=(tB3 y11 e11)
 (((tX9 p2 p3 p4) ∧ ((!v22) = true → ((uG0 p0 (0:Int)) ∧ ((!v27) = true → ((!v33) = true → (Am.Ends (uG2 y11) (vA4 y11) (vA3 y11) x11)))))),((bif v22 then [] else (bif v27 then [] else (bif v33 then [] else (bif q11_1 then (vX1 y11 e11) else (vX3 y11 e11).2.2.2.1)))),(bif v22 then v20 else (bif v27 then v25 else (bif v33 then (15:Int) else (bif q11_1 then (vX2 y11 e11) else (0:Int))))),()))
def tY7 (p0:(List (List D125))) (p1:(List Bool)) (p2:Int) (p3:Int) (p4:Int):Prop:=(pY1 p0 p1 p2 p3 p4).1
def f128 (p0:(List (List D125))) (p1:(List Bool)) (p2:Int) (p3:Int) (p4:Int):((List (List D125)) × Int × Unit):=(pY1 p0 p1 p2 p3 p4).2
instance (p0:(List (List D125))) (p1:(List Bool)) (p2:Int) (p3:Int) (p4:Int):Decidable (tY7 p0 p1 p2 p3 p4):=by
 unfold tY7 pY1
 try dsimp only
 infer_instance
def sK4:Am.Spec:=fnSpec [(0,(.val (.sl (.sl T125)))),(1,(.val (.sl .bool))),(2,vI),(3,vI),(4,vI)] (.tup (.cons (.own (.sl T125) 0 false) (.cons vI .nl))) [] (fun x=>tY7 x.1 x.2.1 x.2.2.1 x.2.2.2.1 x.2.2.2.2.1) (fun x=>f128 x.1 x.2.1 x.2.2.1 x.2.2.2.1 x.2.2.2.2.1) (fun _=>())
def rG0:Ctx:={ Cx tys [(129,vW9),(145,sJ0),(146,uN1)] [(11,vX4)] [(35,[(4,0,403800,0)])] false 63 [] [] with wants:=[(146,[])] }
theorem rG1:CtxOk Tryz.prog rG0:=xW4 tys_ok rfl ⟨sU8,pV2,rS5,trivial⟩ rfl (by kernel_rfl)
noncomputable def qB:Code:=Tryz.f128.body.getD .skip
noncomputable def rG2:Code:=xX3 qB 0
theorem sV9:yV Tryz.prog rG0 rG2:=xY2 rG1 mixed (sp:=vX4) rfl [tB4,tB5] (bs:=[]) (by kernel_rfl) trivial (by kernel_rfl) (by kernel_rfl) fun y x=>by kernel_rfl
theorem pY2:SpecOk Tryz.prog 128 sK4:=xY3 rG1 mixed Tryz.func128 (by kernel_rfl) (bs:=[rG2]) (by kernel_rfl) ⟨sV9,trivial⟩ fun x=>by kernel_rfl
def pY3 (p0:D49):Prop × Int :=
 let v15:=(f125 p0.2.2.2.2.2.2.2.2.2.2.2.2.2.2.2.2.2.2.1 p0.2.2.2.2.2.2.2.2.2.2.1)
 let v19:=(v15.2.1 != 0)
 let v28:=(bif (p0.2.2.2.2.2.2.2.2.2.2.2.2.2.2.2.2.2.2.2.1 != 0) then (p0.2.2.2.2.2.2.2.2.2.2.2.2.2.2.2.2.2.2.2.1 != 1) else false)
 let v41:=(bif (p0.2.2.2.2.2.2.2.2.2.2.2.2.2.2.2.2.2.2.2.2.1 == 0) then (bif (p0.2.2.2.2.2.2.2.2.2.2.2.2.2.2.2.2.2.2.2.2.2.1 != 0) then true else (p0.2.2.2.2.2.2.2.2.2.2.2.2.2.2.2.2.2.2.2.2.2.2.1 != 0)) else false)
 let v44:=(f126 v15.1)
 let v48:=(v44.2.1 != 0)
 let v54:=(p0.2.2.2.2.2.2.2.2.2.2.2.2.2.2.2.2.2.2.2.2.1 != 0)
 let v57:=(f127 v15.1)
 let v61:=(v57.2.1 != 0)
 let v72:=(f128 v44.1 v57.1 p0.2.2.2.2.2.2.2.2.2.2.2.2.2.2.2.2.2.2.2.2.1 p0.2.2.2.2.2.2.2.2.2.2.2.2.2.2.2.2.2.2.2.2.2.1 p0.2.2.2.2.2.2.2.2.2.2.2.2.2.2.2.2.2.2.2.2.2.2.1)
 let v76:=(v72.2.1 != 0)
 let m5_1:=(bif v54 then v72.1 else v44.1)
 let m6:=(bif v54 then (0:Int) else p0.2.2.2.2.2.2.2.2.2.2.2.2.2.2.2.2.2.2.2.1)
 let v80:=(f129 m5_1 m6)
 let v82:=(v80 != 0)
 let m2_4:=(bif v41 then (1:Int) else (bif v48 then v44.2.1 else (bif ((v61 || ((!v61) && v76)) && v54) then (bif v61 then v57.2.1 else v72.2.1) else (bif v82 then v80 else (f110 p0.2.2.2.2.2.2.2.2.2.2.2.2.2.1)))))
 (((tX2 p0.2.2.2.2.2.2.2.2.2.2.2.2.2.2.2.2.2.2.1 p0.2.2.2.2.2.2.2.2.2.2.1) ∧ ((!v19) = true → ((!v28) = true → ((!v41) = true → ((uZ4 v15.1) ∧ ((!v48) = true → ((v54 = true → ((tX7 v15.1) ∧ ((!v61) = true → (tY7 v44.1 v57.1 p0.2.2.2.2.2.2.2.2.2.2.2.2.2.2.2.2.2.2.2.2.1 p0.2.2.2.2.2.2.2.2.2.2.2.2.2.2.2.2.2.2.2.2.2.1 p0.2.2.2.2.2.2.2.2.2.2.2.2.2.2.2.2.2.2.2.2.2.2.1)))) ∧ ((bif v54 then ((!v61) && (!v76)) else true) = true → ((uG0 m5_1 m6) ∧ ((!v82) = true → (uF8 p0.2.2.2.2.2.2.2.2.2.2.2.2.2.1))))))))))),(bif v19 then v15.2.1 else (bif v28 then (8:Int) else m2_4)))
def tY8 (p0:D49):Prop:=(pY3 p0).1
def f112 (p0:D49):Int:=(pY3 p0).2
instance (p0:D49):Decidable (tY8 p0):=by
 unfold tY8 pY3
 try dsimp only
 infer_instance
def sK5:Am.Spec:=fnSpec [(0,(.val T49))] vI [] (fun x=>tY8 x.1) (fun x=>f112 x.1) (fun _=>())
def qX6:Ctx:=Cx tys [(110,vV7),(125,sI8),(126,uZ5),(127,sI9),(128,sK4),(129,vW9)] [] [(17,[(4,0,44,1005)]),(27,[(4,0,57,1007)]),(33,[(5,0,1005,0),(4,0,72,1005)])] false 87 [] []
theorem qX7:CtxOk Tryz.prog qX6:=xW4 tys_ok rfl ⟨sT9,pU6,rZ6,pV,pY2,sU8,trivial⟩ rfl (by kernel_rfl)
theorem pY4:SpecOk Tryz.prog 112 sK5:=xY3 qX7 mixed Tryz.func112 (by kernel_rfl) (bs:=[]) (by kernel_rfl) trivial fun x=>by kernel_rfl
def pY5 (p0:Int) (p1:Int) (p2:Int):Prop × Bool :=
 (True,(bif (decide (p0 ≥ p1)) then (decide (p0 ≤ p2)) else false))
def wO2 (p0:Int) (p1:Int) (p2:Int):Prop:=(pY5 p0 p1 p2).1
def f166 (p0:Int) (p1:Int) (p2:Int):Bool:=(pY5 p0 p1 p2).2
instance (p0:Int) (p1:Int) (p2:Int):Decidable (wO2 p0 p1 p2):=by
 unfold wO2 pY5
 try dsimp only
 infer_instance
def vX5:Am.Spec:=fnSpec [(0,vI),(1,vI),(2,vI)] vB [] (fun x=>wO2 x.1 x.2.1 x.2.2.1) (fun x=>f166 x.1 x.2.1 x.2.2.1) (fun _=>())
def qX8:Ctx:=Cx tys [] [] [] false 15 [] []
theorem qX9:CtxOk Tryz.prog qX8:=xW4 tys_ok rfl trivial rfl (by kernel_rfl)
theorem sW:SpecOk Tryz.prog 166 vX5:=xY3 qX9 mixed Tryz.func166 (by kernel_rfl) (bs:=[]) (by kernel_rfl) trivial fun x=>by kernel_rfl
abbrev wG4:Type:=((List D128) × Int × Int × (List D125) × Unit)
abbrev wC0:Type:=(Int × Unit)
def wX2 (y:wG4) (x:wC0):Prop × Bool × wC0 × Bool × Bool :=
 let a27:=x.1
 let v28:=(decide (a27 < 3))
 let v29:=(nth y.2.2.2.1 a27 Z125)
 let v33:=(!(f166 v29.1 (-65536:Int) (65536:Int)))
 let v39:=(bif v33 then true else (!(f166 v29.2.1 (-65536:Int) (65536:Int))))
 ((v28 = true → (InB a27 3 ∧ ((wO2 v29.1 (-65536:Int) (65536:Int)) ∧ (((!v33) = true → (wO2 v29.2.1 (-65536:Int) (65536:Int))) ∧ ((!v39) = true → InR (a27 + 1)))))),(v28 && (!v39)),((a27 + 1),()),(v28 && v39),(!v28))
def vA5 (y:wG4) (x:wC0):Prop:=(wX2 y x).1
def vK7 (y:wG4) (x:wC0):Bool:=(wX2 y x).2.1
def wO8 (y:wG4) (x:wC0):wC0:=(wX2 y x).2.2.1
def tB6 (y:wG4) (x:wC0):Bool:=(wX2 y x).2.2.2.1
def tB7 (y:wG4) (x:wC0):Bool:=(wX2 y x).2.2.2.2
instance (y:wG4) (x:wC0):Decidable (vA5 y x):=by
 unfold vA5 wX2
 try dsimp only
 infer_instance
def vX6 (y:wG4) (x:wC0):Int :=
 (2:Int)
def tB8:List (Nat × Sh):=[(19,(.val (.sl T128))),(20,vI),(21,vI)]
def vX7:St → Option Out:=xP4 [(19,(.val (.sl T128))),(20,vI),(21,vI),(26,(.val (.arr 3 T125)))] [(27,vI)] vK7 wO8 vA5 fun y x=>[ex 1 (some (tB6 y x)) [(2,vI)] ((vX6 y x),()),ex 4 (some (tB7 y x)) tB8 (y.1,y.2.1,y.2.2.1,())]
abbrev wM2:Type:=((List D128) × Int × Unit)
abbrev wE5:Type:=(Int × Unit)
def vK8 (y:wM2) (x:wE5):Prop × Bool × wE5 × Bool × Bool :=
 let a19:=y.1
 let a20:=y.2.1
 let a21:=x.1
 let v22:=(decide (a21 < a20))
 let y10:=(a19,a20,a21,(nth a19 a21 Z128).2.1,())
 let x10:=((0:Int),())
 let e10:=(zC1 (vK7 y10) (wO8 y10) x10)
 let q10_4:=(tB7 y10 e10)
 ((v22 = true → (InB a21 (len a19) ∧ ((Am.Ends (vK7 y10) (wO8 y10) (vA5 y10) x10) ∧ (q10_4 = true → InR (a21 + 1))))),(v22 && q10_4),((a21 + 1),()),(v22 && (tB6 y10 e10)),(!v22))
def vK9 (y:wM2) (x:wE5):Prop:=(vK8 y x).1
def tB9 (y:wM2) (x:wE5):Bool:=(vK8 y x).2.1
def vF3 (y:wM2) (x:wE5):wE5:=(vK8 y x).2.2.1
def tP (y:wM2) (x:wE5):Bool:=(vK8 y x).2.2.2.1
def rS6 (y:wM2) (x:wE5):Bool:=(vK8 y x).2.2.2.2
instance (y:wM2) (x:wE5):Decidable (vK9 y x):=by
 unfold vK9 vK8
 try dsimp only
 infer_instance
def uN3 (y:wM2) (x:wE5):Int :=
 let a19:=y.1
 let a21:=x.1
 let y10:=(a19,y.2.1,a21,(nth a19 a21 Z128).2.1,())
 (vX6 y10 (zC1 (vK7 y10) (wO8 y10) ((0:Int),())))
def uN4:St → Option Out:=xP4 [(19,(.val (.sl T128))),(20,vI)] [(21,vI)] tB9 vF3 vK9 fun y x=>[ex 1 (some (tP y x)) [(2,vI)] ((uN3 y x),()),ex 2 (some (rS6 y x)) [] ()]
def pY6 (p0:D192):Prop × Int :=
 let v11:=(!(f166 p0.2.1 (0:Int) (65536:Int)))
 let v14:=(f140 p0.2.2.1)
 let v16:=(v14 != 0)
 let y7:=(p0.2.2.1,(len p0.2.2.1),())
 let x7:=((0:Int),())
 let e7:=(zC1 (tB9 y7) (vF3 y7) x7)
 (((wO2 p0.2.1 (0:Int) (65536:Int)) ∧ ((!v11) = true → ((vR5 p0.2.2.1) ∧ ((!v16) = true → (Am.Ends (tB9 y7) (vF3 y7) (vK9 y7) x7))))),(bif v11 then (2:Int) else (bif v16 then v14 else (bif (tP y7 e7) then (uN3 y7 e7) else (0:Int)))))
def tY9 (p0:D192):Prop:=(pY6 p0).1
def f180 (p0:D192):Int:=(pY6 p0).2
instance (p0:D192):Decidable (tY9 p0):=by
 unfold tY9 pY6
 try dsimp only
 infer_instance
def sK6:Am.Spec:=fnSpec [(0,(.val T192))] vI [] (fun x=>tY9 x.1) (fun x=>f180 x.1) (fun _=>())
def tZ:Ctx:=Cx tys [(140,vD7),(166,vX5)] [(10,vX7),(7,uN4)] [] false 42 [] []
theorem tZ0:CtxOk Tryz.prog tZ:=xW4 tys_ok rfl ⟨tX0,sW,trivial⟩ rfl (by kernel_rfl)
noncomputable def qB0:Code:=Tryz.f180.body.getD .skip
noncomputable def sW0:Code:=xX3 qB0 0
noncomputable def rG3:Code:=xX3 sW0 0
theorem sW1:yV Tryz.prog tZ rG3:=xY2 tZ0 mixed (sp:=vX7) rfl [[(2,vI)],tB8] (bs:=[]) (by kernel_rfl) trivial (by kernel_rfl) (by kernel_rfl) fun y x=>by kernel_rfl
theorem rS7:yV Tryz.prog tZ sW0:=xY2 tZ0 mixed (sp:=uN4) rfl [[(2,vI)],[]] (bs:=[rG3]) (by kernel_rfl) ⟨sW1,trivial⟩ (by kernel_rfl) (by kernel_rfl) fun y x=>by kernel_rfl
theorem pY7:SpecOk Tryz.prog 180 sK6:=xY3 tZ0 mixed Tryz.func180 (by kernel_rfl) (bs:=[sW0]) (by kernel_rfl) ⟨rS7,trivial⟩ fun x=>by kernel_rfl
def pY8 (p0:D197) (p1:D197):Prop × Bool :=
 (True,(bif (decide (p0.1 > p1.1)) then true else (bif (p0.1 == p1.1) then (decide (p0.2.1 > p1.2.1)) else false)))
def tZ1 (p0:D197) (p1:D197):Prop:=(pY8 p0 p1).1
def f181 (p0:D197) (p1:D197):Bool:=(pY8 p0 p1).2
instance (p0:D197) (p1:D197):Decidable (tZ1 p0 p1):=by
 unfold tZ1 pY8
 try dsimp only
 infer_instance
def sK7:Am.Spec:=fnSpec [(0,(.val T197)),(1,(.val T197))] vB [] (fun x=>tZ1 x.1 x.2.1) (fun x=>f181 x.1 x.2.1) (fun _=>())
def qY:Ctx:=Cx tys [] [] [] false 24 [] []
theorem qY0:CtxOk Tryz.prog qY:=xW4 tys_ok rfl trivial rfl (by kernel_rfl)
theorem pY9:SpecOk Tryz.prog 181 sK7:=xY3 qY0 mixed Tryz.func181 (by kernel_rfl) (bs:=[]) (by kernel_rfl) trivial fun x=>by kernel_rfl
abbrev wM3:Type:=(D163 × (List D192) × Int × Unit)
abbrev wE6:Type:=(Int × Unit)
def vL (y:wM3) (x:wE6):Prop × Bool × wE6 × Bool × Bool :=
 let a1:=y.1
 let a35:=y.2.1
 let a37:=x.1
 let v38:=(decide (a37 < y.2.2.1))
 let v40:=(nth a35 a37 Z192)
 let v43:=(decide (a37 > 0))
 let v50:=(a37 - 1)
 let v55:=(bif v43 then (decide (v40.1 ≤ (nth a1.2.2.2.1 v50 Z192).1)) else false)
 let v59:=((f180 v40) != 0)
 let c_2:=((!v55) && (!v59))
 ((v38 = true → (InB a37 (len a35) ∧ ((v43 = true → InR (a37 - 1)) ∧ ((v43 = true → InB v50 (len a1.2.2.2.1)) ∧ (((!v55) = true → (tY9 v40)) ∧ (c_2 = true → InR (a37 + 1))))))),(v38 && c_2),((a37 + 1),()),(v38 && (v55 || ((!v55) && v59))),(!v38))
def vL0 (y:wM3) (x:wE6):Prop:=(vL y x).1
def tC (y:wM3) (x:wE6):Bool:=(vL y x).2.1
def vF4 (y:wM3) (x:wE6):wE6:=(vL y x).2.2.1
def tP0 (y:wM3) (x:wE6):Bool:=(vL y x).2.2.2.1
def tP1 (y:wM3) (x:wE6):Bool:=(vL y x).2.2.2.2
instance (y:wM3) (x:wE6):Decidable (vL0 y x):=by
 unfold vL0 vL
 try dsimp only
 infer_instance
def uN5 (y:wM3) (x:wE6):Int :=
 let a37:=x.1
 let v40:=(nth y.2.1 a37 Z192)
 (bif (bif (decide (a37 > 0)) then (decide (v40.1 ≤ (nth y.1.2.2.2.1 (a37 - 1) Z192).1)) else false) then (24:Int) else (f180 v40))
def uN6:St → Option Out:=xP4 [(1,(.box T163 (.val T163))),(35,(.val (.sl T192))),(36,vI)] [(37,vI)] tC vF4 vL0 fun y x=>[ex 1 (some (tP0 y x)) [(2,vI)] ((uN5 y x),()),ex 2 (some (tP1 y x)) [(1,(.box T163 (.val T163)))] (y.1,())]
abbrev wG5:Type:=(D163 × (List D197) × Int × Unit)
abbrev wC1:Type:=(Int × Unit)
def wX3 (y:wG5) (x:wC1):Prop × Bool × wC1 × Bool × Bool :=
 let a1:=y.1
 let a63:=y.2.1
 let a65:=x.1
 let v66:=(decide (a65 < y.2.2.1))
 let v68:=(nth a63 a65 Z197)
 let v71:=(decide (a65 > 0))
 let v77:=(a65 - 1)
 let v78:=(nth a1.2.2.2.2.1 v77 Z197)
 let v82:=(bif v71 then (!(f181 v68 v78)) else false)
 let v86:=(!(f166 v68.2.2.1 (-65536:Int) (65536:Int)))
 let c_2:=((!v82) && (!v86))
 ((v66 = true → (InB a65 (len a63) ∧ ((v71 = true → InR (a65 - 1)) ∧ ((v71 = true → InB v77 (len a1.2.2.2.2.1)) ∧ ((v71 = true → (tZ1 v68 v78)) ∧ (((!v82) = true → (wO2 v68.2.2.1 (-65536:Int) (65536:Int))) ∧ (c_2 = true → InR (a65 + 1)))))))),(v66 && c_2),((a65 + 1),()),(v66 && (v82 || ((!v82) && v86))),(!v66))
def vA6 (y:wG5) (x:wC1):Prop:=(wX3 y x).1
def uG3 (y:wG5) (x:wC1):Bool:=(wX3 y x).2.1
def vA7 (y:wG5) (x:wC1):wC1:=(wX3 y x).2.2.1
def tC0 (y:wG5) (x:wC1):Bool:=(wX3 y x).2.2.2.1
def sW2 (y:wG5) (x:wC1):Bool:=(wX3 y x).2.2.2.2
instance (y:wG5) (x:wC1):Decidable (vA6 y x):=by
 unfold vA6 wX3
 try dsimp only
 infer_instance
def vX8 (y:wG5) (x:wC1):Int :=
 let a65:=x.1
 (bif (bif (decide (a65 > 0)) then (!(f181 (nth y.2.1 a65 Z197) (nth y.1.2.2.2.2.1 (a65 - 1) Z197))) else false) then (24:Int) else (2:Int))
def vX9:St → Option Out:=xP4 [(1,(.box T163 (.val T163))),(63,(.val (.sl T197))),(64,vI)] [(65,vI)] uG3 vA7 vA6 fun y x=>[ex 1 (some (tC0 y x)) [(2,vI)] ((vX8 y x),()),ex 4 (some (sW2 y x)) [] ()]
def pZ (p0:D163):Prop × Int :=
 let v11:=(!(f166 p0.1 (1:Int) (65536:Int)))
 let v17:=(bif v11 then true else (!(f166 p0.2.1 (0:Int) (65536:Int))))
 let v23:=(bif v17 then true else (!(f166 p0.2.2.1 (0:Int) (65536:Int))))
 let v33:=(bif (decide ((len p0.2.2.2.1) > 256)) then true else (decide ((len p0.2.2.2.2.1) > 256)))
 let y6:=(p0,p0.2.2.2.1,(len p0.2.2.2.1),())
 let x6:=((0:Int),())
 let e6:=(zC1 (tC y6) (vF4 y6) x6)
 let y15:=(p0,p0.2.2.2.2.1,(len p0.2.2.2.2.1),())
 let x15:=((0:Int),())
 let e15:=(zC1 (uG3 y15) (vA7 y15) x15)
 (((wO2 p0.1 (1:Int) (65536:Int)) ∧ (((!v11) = true → (wO2 p0.2.1 (0:Int) (65536:Int))) ∧ (((!v17) = true → (wO2 p0.2.2.1 (0:Int) (65536:Int))) ∧ ((!v23) = true → ((!v33) = true → ((Am.Ends (tC y6) (vF4 y6) (vL0 y6) x6) ∧ ((tP1 y6 e6) = true → (Am.Ends (uG3 y15) (vA7 y15) (vA6 y15) x15)))))))),(bif v23 then (2:Int) else (bif v33 then (3:Int) else (bif (tP0 y6 e6) then (uN5 y6 e6) else (bif (tC0 y15 e15) then (vX8 y15 e15) else (0:Int))))))
def tZ2 (p0:D163):Prop:=(pZ p0).1
def f165 (p0:D163):Int:=(pZ p0).2
instance (p0:D163):Decidable (tZ2 p0):=by
 unfold tZ2 pZ
 try dsimp only
 infer_instance
def sK8:Am.Spec:=fnSpec [(0,(.val T163))] vI [] (fun x=>tZ2 x.1) (fun x=>f165 x.1) (fun _=>())
def tZ3:Ctx:=Cx tys [(166,vX5),(180,sK6),(181,sK7)] [(6,uN6),(15,vX9)] [] false 88 [] []
theorem tZ4:CtxOk Tryz.prog tZ3:=xW4 tys_ok rfl ⟨sW,pY7,pY9,trivial⟩ rfl (by kernel_rfl)
noncomputable def sK9:Code:=Tryz.f165.body.getD .skip
noncomputable def qB1:Code:=xX3 sK9 0
theorem rS8:yV Tryz.prog tZ3 qB1:=xY2 tZ4 mixed (sp:=uN6) rfl [[(2,vI)],[(1,(.box T163 (.val T163)))]] (bs:=[]) (by kernel_rfl) trivial (by kernel_rfl) (by kernel_rfl) fun y x=>by kernel_rfl
noncomputable def rG4:Code:=xX3 sK9 1
theorem sW3:yV Tryz.prog tZ3 rG4:=xY2 tZ4 mixed (sp:=vX9) rfl [[(2,vI)],[]] (bs:=[]) (by kernel_rfl) trivial (by kernel_rfl) (by kernel_rfl) fun y x=>by kernel_rfl
theorem pZ0:SpecOk Tryz.prog 165 sK8:=xY3 tZ4 mixed Tryz.func165 (by kernel_rfl) (bs:=[qB1,rG4]) (by kernel_rfl) ⟨rS8,sW3,trivial⟩ fun x=>by kernel_rfl
abbrev wM4:Type:=((List UInt8) × Int × Int × Int × Unit)
abbrev wE7:Type:=(Int × Unit)
def vL1 (y:wM4) (x:wE7):Prop × Bool × wE7 × Bool × Bool :=
 let a1:=y.1
 let a18:=x.1
 let v19:=(decide (a18 < y.2.2.2.1))
 let v24:=(decide ((xX6 a1 a18) < 32))
 let v30:=(bif v24 then true else (decide ((xX6 a1 a18) > 126)))
 let v36:=(bif v30 then ((xX6 a1 a18) != 10) else false)
 ((v19 = true → (InB a18 (len a1) ∧ (((!v24) = true → InB a18 (len a1)) ∧ ((v30 = true → InB a18 (len a1)) ∧ ((!v36) = true → InR (a18 + 1)))))),(v19 && (!v36)),((a18 + 1),()),(v19 && v36),(!v19))
def vL2 (y:wM4) (x:wE7):Prop:=(vL1 y x).1
def tC1 (y:wM4) (x:wE7):Bool:=(vL1 y x).2.1
def vF5 (y:wM4) (x:wE7):wE7:=(vL1 y x).2.2.1
def tP2 (y:wM4) (x:wE7):Bool:=(vL1 y x).2.2.2.1
def tP3 (y:wM4) (x:wE7):Bool:=(vL1 y x).2.2.2.2
instance (y:wM4) (x:wE7):Decidable (vL2 y x):=by
 unfold vL2 vL1
 try dsimp only
 infer_instance
def uN7 (y:wM4) (x:wE7):Int :=
 (4:Int)
def uN8:St → Option Out:=xP4 [(1,vS),(2,vI),(3,vI),(17,vI)] [(18,vI)] tC1 vF5 vL2 fun y x=>[ex 1 (some (tP2 y x)) [(8,vI)] ((uN7 y x),()),ex 2 (some (tP3 y x)) [(1,vS),(2,vI),(3,vI)] (y.1,y.2.1,y.2.2.1,())]
def pZ1 (p0:D163) (p1:(List UInt8)) (p2:Int) (p3:Int):Prop × Int :=
 let v12:=(f165 p0)
 let v14:=(v12 != 0)
 let y5:=(p1,p2,p3,(len p1),())
 let x5:=((0:Int),())
 let e5:=(zC1 (tC1 y5) (vF5 y5) x5)
 let v40:=(decide ((len p1) > 128))
 let v43:=(!(f166 p2 (1:Int) (1048576:Int)))
 let m8_3:=(bif v14 then v12 else (bif (tP2 y5 e5) then (uN7 y5 e5) else (bif v40 then (3:Int) else (bif (bif v43 then true else (!(f166 p3 (0:Int) (1048576:Int)))) then (2:Int) else (0:Int)))))
 (((tZ2 p0) ∧ ((!v14) = true → ((Am.Ends (tC1 y5) (vF5 y5) (vL2 y5) x5) ∧ ((tP3 y5 e5) = true → ((!v40) = true → ((wO2 p2 (1:Int) (1048576:Int)) ∧ ((!v43) = true → (wO2 p3 (0:Int) (1048576:Int))))))))),m8_3)
def tZ5 (p0:D163) (p1:(List UInt8)) (p2:Int) (p3:Int):Prop:=(pZ1 p0 p1 p2 p3).1
def f147 (p0:D163) (p1:(List UInt8)) (p2:Int) (p3:Int):Int:=(pZ1 p0 p1 p2 p3).2
instance (p0:D163) (p1:(List UInt8)) (p2:Int) (p3:Int):Decidable (tZ5 p0 p1 p2 p3):=by
 unfold tZ5 pZ1
 try dsimp only
 infer_instance
def sL:Am.Spec:=fnSpec [(0,(.val T163)),(1,vS),(2,vI),(3,vI)] vI [] (fun x=>tZ5 x.1 x.2.1 x.2.2.1 x.2.2.2.1) (fun x=>f147 x.1 x.2.1 x.2.2.1 x.2.2.2.1) (fun _=>())
def rG5:Ctx:=Cx tys [(165,sK8),(166,vX5)] [(5,uN8)] [] false 49 [] []
theorem rG6:CtxOk Tryz.prog rG5:=xW4 tys_ok rfl ⟨pZ0,sW,trivial⟩ rfl (by kernel_rfl)
noncomputable def qB2:Code:=Tryz.f147.body.getD .skip
noncomputable def qB3:Code:=xX3 qB2 0
theorem rS9:yV Tryz.prog rG5 qB3:=xY2 rG6 mixed (sp:=uN8) rfl [[(8,vI)],[(1,vS),(2,vI),(3,vI)]] (bs:=[]) (by kernel_rfl) trivial (by kernel_rfl) (by kernel_rfl) fun y x=>by kernel_rfl
theorem pZ2:SpecOk Tryz.prog 147 sL:=xY3 rG6 mixed Tryz.func147 (by kernel_rfl) (bs:=[qB3]) (by kernel_rfl) ⟨rS9,trivial⟩ fun x=>by kernel_rfl
abbrev wX4:Type:=(D163 × Unit × (D163 × (List Int) × Unit) × (List D192) × Int × Unit)
abbrev wM5:Type:=(Int × Int × Unit)
def uU4 (y:wX4) (x:wM5):Prop × Bool × wM5 :=
 let a14:=y.2.2.2.1
 let a16:=x.2.1
 let v17:=(decide (a16 < y.2.2.2.2.1))
 ((v17 = true → (InB a16 (len a14) ∧ InR (a16 + 1))),v17,((bif ((nth a14 a16 Z192).1 == 63) then a16 else x.1),(a16 + 1),()))
def vL3 (y:wX4) (x:wM5):Prop:=(uU4 y x).1
def tC2 (y:wX4) (x:wM5):Bool:=(uU4 y x).2.1
def vF6 (y:wX4) (x:wM5):wM5:=(uU4 y x).2.2
instance (y:wX4) (x:wM5):Decidable (vL3 y x):=by
 unfold vL3 uU4
 try dsimp only
 infer_instance
def uN9 (y:wX4) (x:wM5):Int :=
 x.1
def tP4:List (Nat × Sh):=[(1,(.box T163 (.val T163))),(3,(.ref 12 T213)),(4,vI),(12,(.box T213 (.agg (.cons T163 (.cons (.arr 256 (.int .i64)) .nl)) (.cons (.val T163) (.cons (.val (.arr 256 (.int .i64))) .nl)))))]
def uO:St → Option Out:=xP4 [(1,(.box T163 (.val T163))),(3,(.ref 12 T213)),(12,(.box T213 (.agg (.cons T163 (.cons (.arr 256 (.int .i64)) .nl)) (.cons (.val T163) (.cons (.val (.arr 256 (.int .i64))) .nl))))),(14,(.val (.sl T192))),(15,vI)] [(4,vI),(16,vI)] tC2 vF6 vL3 fun y x=>[ex 2 none tP4 (y.1,y.2.1,(uN9 y x),y.2.2.1,())]
abbrev wP4:Type:=(D163 × Unit × Int × Unit)
abbrev wG6:Type:=((D163 × (List Int) × Unit) × Int × Unit)
def vY (y:wP4) (x:wG6):Prop × Bool × wG6 :=
 let a12:=x.1
 let a26:=x.2.1
 let v27:=(decide (a26 < 256))
 ((v27 = true → (InB a26 256 ∧ InR (a26 + 1))),v27,((a12.1,(List.set a12.2.1 (Int.toNat a26) y.2.2.1),()),(a26 + 1),()))
def vA8 (y:wP4) (x:wG6):Prop:=(vY y x).1
def uG4 (y:wP4) (x:wG6):Bool:=(vY y x).2.1
def vA9 (y:wP4) (x:wG6):wG6:=(vY y x).2.2
instance (y:wP4) (x:wG6):Decidable (vA8 y x):=by
 unfold vA8 vY
 try dsimp only
 infer_instance
def vY0 (y:wP4) (x:wG6):(D163 × (List Int) × Unit) :=
 let a12:=x.1
 (a12.1,a12.2.1,())
def tC3:List (Nat × Sh):=[(1,(.box T163 (.val T163))),(3,(.ref 12 T213)),(12,(.box T213 (.agg (.cons T163 (.cons (.arr 256 (.int .i64)) .nl)) (.cons (.val T163) (.cons (.val (.arr 256 (.int .i64))) .nl)))))]
def vY1:St → Option Out:=xP4 [(1,(.box T163 (.val T163))),(3,(.ref 12 T213)),(4,vI)] [(12,(.box T213 (.agg (.cons T163 (.cons (.arr 256 (.int .i64)) .nl)) (.cons (.val T163) (.cons (.val (.arr 256 (.int .i64))) .nl))))),(26,vI)] uG4 vA9 vA8 fun y x=>[ex 4 none tC3 (y.1,y.2.1,(vY0 y x),())]
abbrev wP5:Type:=(Unit × (List D192) × Int × Unit)
abbrev wG7:Type:=((D163 × (List Int) × Unit) × Int × Unit)
def vY2 (y:wP5) (x:wG7):Prop × Bool × wG7 :=
 let a37:=y.2.1
 let a12:=x.1
 let a39:=x.2.1
 let v40:=(decide (a39 < y.2.2.1))
 let v42:=(nth a37 a39 Z192)
 ((v40 = true → (InB a39 (len a37) ∧ (InB v42.1 256 ∧ InR (a39 + 1)))),v40,((a12.1,(List.set a12.2.1 (Int.toNat v42.1) a39),()),(a39 + 1),()))
def vB0 (y:wP5) (x:wG7):Prop:=(vY2 y x).1
def uG5 (y:wP5) (x:wG7):Bool:=(vY2 y x).2.1
def vB1 (y:wP5) (x:wG7):wG7:=(vY2 y x).2.2
instance (y:wP5) (x:wG7):Decidable (vB0 y x):=by
 unfold vB0 vY2
 try dsimp only
 infer_instance
def vY3 (y:wP5) (x:wG7):(D163 × (List Int) × Unit) :=
 let a12:=x.1
 (a12.1,a12.2.1,())
def tC4:List (Nat × Sh):=[(3,(.ref 12 T213)),(12,(.box T213 (.agg (.cons T163 (.cons (.arr 256 (.int .i64)) .nl)) (.cons (.val T163) (.cons (.val (.arr 256 (.int .i64))) .nl)))))]
def vY4:St → Option Out:=xP4 [(3,(.ref 12 T213)),(37,(.val (.sl T192))),(38,vI)] [(12,(.box T213 (.agg (.cons T163 (.cons (.arr 256 (.int .i64)) .nl)) (.cons (.val T163) (.cons (.val (.arr 256 (.int .i64))) .nl))))),(39,vI)] uG5 vB1 vB0 fun y x=>[ex 6 none tC4 (y.1,(vY3 y x),())]
def pZ3 (p0:D163):Prop × D213 :=
 let y4:=(p0,(),(p0,(List.replicate 256 (0:Int)),()),p0.2.2.2.1,(len p0.2.2.2.1),())
 let x4:=((-1:Int),(0:Int),())
 let y10:=(p0,(),(uN9 y4 (zC1 (tC2 y4) (vF6 y4) x4)),())
 let x10:=((p0,(List.replicate 256 (0:Int)),()),(0:Int),())
 let r10_4_0:=(vY0 y10 (zC1 (uG4 y10) (vA9 y10) x10))
 let y15:=((),p0.2.2.2.1,(len p0.2.2.2.1),())
 let x15:=((r10_4_0.1,r10_4_0.2.1,()),(0:Int),())
 let r15_6_0:=(vY3 y15 (zC1 (uG5 y15) (vB1 y15) x15))
 (((Am.Ends (tC2 y4) (vF6 y4) (vL3 y4) x4) ∧ ((Am.Ends (uG4 y10) (vA9 y10) (vA8 y10) x10) ∧ (Am.Ends (uG5 y15) (vB1 y15) (vB0 y15) x15))),(r15_6_0.1,r15_6_0.2.1,()))
def tZ6 (p0:D163):Prop:=(pZ3 p0).1
def f148 (p0:D163):D213:=(pZ3 p0).2
instance (p0:D163):Decidable (tZ6 p0):=by
 unfold tZ6 pZ3
 try dsimp only
 infer_instance
def sL0:Am.Spec:=fnSpec [(0,(.val T163))] (.val (.ptr T213)) [] (fun x=>tZ6 x.1) (fun x=>f148 x.1) (fun _=>())
def uU5:Ctx:=Cx tys [] [(4,uO),(10,vY1),(15,vY4)] [(39,[(3,12,0,0)])] false 53 [] []
theorem uU6:CtxOk Tryz.prog uU5:=xW4 tys_ok rfl trivial rfl (by kernel_rfl)
noncomputable def tC5:Code:=Tryz.f148.body.getD .skip
noncomputable def qB4:Code:=xX3 tC5 0
theorem rT:yV Tryz.prog uU5 qB4:=xY2 uU6 mixed (sp:=uO) rfl [tP4] (bs:=[]) (by kernel_rfl) trivial (by kernel_rfl) (by kernel_rfl) fun y x=>by kernel_rfl
noncomputable def rG7:Code:=xX3 tC5 1
theorem sW4:yV Tryz.prog uU5 rG7:=xY2 uU6 mixed (sp:=vY1) rfl [tC3] (bs:=[]) (by kernel_rfl) trivial (by kernel_rfl) (by kernel_rfl) fun y x=>by kernel_rfl
noncomputable def rG8:Code:=xX3 tC5 2
theorem sW5:yV Tryz.prog uU5 rG8:=xY2 uU6 mixed (sp:=vY4) rfl [tC4] (bs:=[]) (by kernel_rfl) trivial (by kernel_rfl) (by kernel_rfl) fun y x=>by kernel_rfl
theorem pZ4:SpecOk Tryz.prog 148 sL0:=xY3 uU6 mixed Tryz.func148 (by kernel_rfl) (bs:=[qB4,rG7,rG8]) (by kernel_rfl) ⟨rT,sW4,sW5,trivial⟩ fun x=>by kernel_rfl
abbrev wP6:Type:=(Int × D163 × D213 × (List (List D125)) × Int × Int × D125 × (List (List UInt8)) × Int × Int × (List D125) × Int × Int × (List (List D125)) × Int × Int × (List D125) × Int × Unit)
abbrev wG8:Type:=((List D125) × Int × Unit)
def vY5 (y:wP6) (x:wG8):Prop × Bool × wG8 :=
 let a2:=y.1
 let a4:=y.2.1
 let a89:=y.2.2.2.2.2.2.2.2.2.2.2.2.2.2.2.2.1
 let a24:=x.1
 let a91:=x.2.1
 let v92:=(decide (a91 < y.2.2.2.2.2.2.2.2.2.2.2.2.2.2.2.2.2.1))
 let v94:=(nth a89 a91 Z125)
 let v104:=(IntKind.wrap .i64 ((IntKind.wrap .i64 (y.2.2.2.2.2.2.1.2.1 + v94.1)) * a2))
 let v119:=(IntKind.wrap .i64 ((IntKind.wrap .i64 ((IntKind.wrap .i64 (a4.2.1 + (IntKind.wrap .i64 (y.2.2.2.2.2.1 * a4.2.2.1)))) - v94.2.1)) * a2))
 ((v92 = true → (InB a91 (len a89) ∧ ((xZ0 v104 a4.1) ∧ ((xZ0 v119 a4.1) ∧ (InB a91 (len a24) ∧ a91 < len a24))))),v92,((List.set a24 (Int.toNat a91) ((f108 v104 a4.1),(f108 v119 a4.1),())),(IntKind.wrap .i64 (a91 + 1)),()))
def vB2 (y:wP6) (x:wG8):Prop:=(vY5 y x).1
def uG6 (y:wP6) (x:wG8):Bool:=(vY5 y x).2.1
def vB3 (y:wP6) (x:wG8):wG8:=(vY5 y x).2.2
instance (y:wP6) (x:wG8):Decidable (vB2 y x):=by
 unfold vB2 vY5
 try dsimp only
 infer_instance
def vY6 (y:wP6) (x:wG8):(List D125) :=
 x.1
def tC6:List (Nat × Sh):=[(2,vI),(4,(.box T163 (.val T163))),(11,(.val (.ptr T213))),(12,(.own (.sl T125) 1012 false)),(13,vI),(14,vI),(19,(.box T125 (.val T125))),(24,(.own T125 1024 true)),(41,(.val (.sl .str))),(42,vI),(43,vI),(54,(.own T125 1016 false)),(55,vI),(56,vI),(74,(.own (.sl T125) 1020 false)),(75,vI),(76,vI)]
def vY7:St → Option Out:=xP4 [(2,vI),(4,(.box T163 (.val T163))),(11,(.val (.ptr T213))),(12,(.own (.sl T125) 1012 false)),(13,vI),(14,vI),(19,(.box T125 (.val T125))),(41,(.val (.sl .str))),(42,vI),(43,vI),(54,(.own T125 1016 false)),(55,vI),(56,vI),(74,(.own (.sl T125) 1020 false)),(75,vI),(76,vI),(89,(.val (.sl T125))),(90,vI)] [(24,(.own T125 1024 true)),(91,vI)] uG6 vB3 vB2 fun y x=>[ex 8 none tC6 (y.1,y.2.1,y.2.2.1,y.2.2.2.1,y.2.2.2.2.1,y.2.2.2.2.2.1,y.2.2.2.2.2.2.1,(vY6 y x),y.2.2.2.2.2.2.2.1,y.2.2.2.2.2.2.2.2.1,y.2.2.2.2.2.2.2.2.2.1,y.2.2.2.2.2.2.2.2.2.2.1,y.2.2.2.2.2.2.2.2.2.2.2.1,y.2.2.2.2.2.2.2.2.2.2.2.2.1,y.2.2.2.2.2.2.2.2.2.2.2.2.2.1,y.2.2.2.2.2.2.2.2.2.2.2.2.2.2.1,y.2.2.2.2.2.2.2.2.2.2.2.2.2.2.2.1,())]
abbrev wA7:Type:=(Int × D163 × D213 × Int × D125 × (List (List UInt8)) × Int × Int × (List D125) × Int × Int × (List (List D125)) × Int × Unit)
abbrev xZ2:Type:=((List (List D125)) × Int × Int × Unit)
def wX5 (y:wA7) (x:xZ2):Prop × Bool × xZ2 × Bool × Bool :=
 let a74:=y.2.2.2.2.2.2.2.2.2.2.2.1
 let a75:=y.2.2.2.2.2.2.2.2.2.2.2.2.1
 let a12:=x.1
 let a76:=x.2.2.1
 let v77:=(decide (a76 < a75))
 let v78:=(nth a74 a76 ([]:List D125))
 let v83:=(IntKind.wrap .i64 (x.2.1 + (len v78)))
 let v85:=(decide (v83 > 4096))
 let v87:=(len v78)
 let y25:=(y.1,y.2.1,y.2.2.1,a12,v83,y.2.2.2.1,y.2.2.2.2.1,y.2.2.2.2.2.1,y.2.2.2.2.2.2.1,y.2.2.2.2.2.2.2.1,y.2.2.2.2.2.2.2.2.1,y.2.2.2.2.2.2.2.2.2.1,y.2.2.2.2.2.2.2.2.2.2.1,a74,a75,a76,v78,(len v78),())
 let x25:=((List.replicate (Int.toNat v87) Z125),(0:Int),())
 let v128:=([(vY6 y25 (zC1 (uG6 y25) (vB3 y25) x25))]:List (List D125))
 ((v77 = true → (InB a76 (len a74) ∧ ((!v85) = true → ((0 ≤ v87 ∧ v87 ≤ v87 ∧ v87 ≤ 4294967296) ∧ ((Am.Ends (uG6 y25) (vB3 y25) (vB2 y25) x25) ∧ ((List.length a12 + List.length v128:Nat):Int) ≤ 4294967296))))),(v77 && (!v85)),((a12 ++ v128),v83,(IntKind.wrap .i64 (a76 + 1)),()),(v77 && v85),(!v77))
def vB4 (y:wA7) (x:xZ2):Prop:=(wX5 y x).1
def wX6 (y:wA7) (x:xZ2):Bool:=(wX5 y x).2.1
def wH4 (y:wA7) (x:xZ2):xZ2:=(wX5 y x).2.2.1
def tC7 (y:wA7) (x:xZ2):Bool:=(wX5 y x).2.2.2.1
def tC8 (y:wA7) (x:xZ2):Bool:=(wX5 y x).2.2.2.2
instance (y:wA7) (x:xZ2):Decidable (vB4 y x):=by
 unfold vB4 wX5
 try dsimp only
 infer_instance
def vY8 (y:wA7) (x:xZ2):(List (List D125)) :=
 ([]:List (List D125))
def vY9 (y:wA7) (x:xZ2):Int :=
 (3:Int)
def tC9:List (Nat × Sh):=[(8,(.own (.sl T125) 0 false)),(9,vI)]
def vZ (y:wA7) (x:xZ2):(List (List D125)) :=
 x.1
def vZ0 (y:wA7) (x:xZ2):Int :=
 x.2.1
def tD:List (Nat × Sh):=[(2,vI),(4,(.box T163 (.val T163))),(11,(.val (.ptr T213))),(12,(.own (.sl T125) 1012 false)),(13,vI),(14,vI),(41,(.val (.sl .str))),(42,vI),(43,vI),(54,(.own T125 1016 false)),(55,vI),(56,vI)]
def vZ1:St → Option Out:=xP4 [(2,vI),(4,(.box T163 (.val T163))),(11,(.val (.ptr T213))),(14,vI),(19,(.box T125 (.val T125))),(41,(.val (.sl .str))),(42,vI),(43,vI),(54,(.own T125 1016 false)),(55,vI),(56,vI),(74,(.own (.sl T125) 1020 false)),(75,vI)] [(12,(.own (.sl T125) 1012 false)),(13,vI),(76,vI)] wX6 wH4 vB4 fun y x=>[ex 1 (some (tC7 y x)) tC9 ((vY8 y x),(vY9 y x),()),ex 6 (some (tC8 y x)) tD (y.1,y.2.1,y.2.2.1,(vZ y x),(vZ0 y x),y.2.2.2.1,y.2.2.2.2.2.1,y.2.2.2.2.2.2.1,y.2.2.2.2.2.2.2.1,y.2.2.2.2.2.2.2.2.1,y.2.2.2.2.2.2.2.2.2.1,y.2.2.2.2.2.2.2.2.2.2.1,())]
abbrev wA8:Type:=(Int × D163 × D213 × Int × (List (List UInt8)) × Int × Int × (List D125) × Int × Unit)
abbrev xZ3:Type:=((List (List D125)) × Int × Int × Unit)
def wX7 (y:wA8) (x:xZ3):Prop × Bool × xZ3 × Bool × Bool :=
 let a4:=y.2.1
 let a54:=y.2.2.2.2.2.2.2.1
 let a55:=y.2.2.2.2.2.2.2.2.1
 let a56:=x.2.2.1
 let v57:=(decide (a56 < a55))
 let v58:=(nth a54 a56 Z125)
 let v65:=(nth a4.2.2.2.1 v58.1 Z192)
 let v68:=(f126 v65.2.2.1)
 let v72:=(v68.2.1 != 0)
 let y18:=(y.1,a4,y.2.2.1,y.2.2.2.1,v58,y.2.2.2.2.1,y.2.2.2.2.2.1,y.2.2.2.2.2.2.1,a54,a55,a56,v68.1,(len v68.1),())
 let x18:=(x.1,x.2.1,(0:Int),())
 let e18:=(zC1 (wX6 y18) (wH4 y18) x18)
 ((v57 = true → (InB a56 (len a54) ∧ (InB v58.1 (len a4.2.2.2.1) ∧ ((uZ4 v65.2.2.1) ∧ ((!v72) = true → (Am.Ends (wX6 y18) (wH4 y18) (vB4 y18) x18)))))),(v57 && ((!v72) && (tC8 y18 e18))),((vZ y18 e18),(vZ0 y18 e18),(IntKind.wrap .i64 (a56 + 1)),()),(v57 && (v72 || ((!v72) && (tC7 y18 e18)))),(!v57))
def vB5 (y:wA8) (x:xZ3):Prop:=(wX7 y x).1
def wX8 (y:wA8) (x:xZ3):Bool:=(wX7 y x).2.1
def wH5 (y:wA8) (x:xZ3):xZ3:=(wX7 y x).2.2.1
def tD0 (y:wA8) (x:xZ3):Bool:=(wX7 y x).2.2.2.1
def tD1 (y:wA8) (x:xZ3):Bool:=(wX7 y x).2.2.2.2
instance (y:wA8) (x:xZ3):Decidable (vB5 y x):=by
 unfold vB5 wX7
 try dsimp only
 infer_instance
def vZ2 (y:wA8) (x:xZ3):(List (List D125)) :=
 let a4:=y.2.1
 let a54:=y.2.2.2.2.2.2.2.1
 let a56:=x.2.2.1
 let v58:=(nth a54 a56 Z125)
 let v68:=(f126 (nth a4.2.2.2.1 v58.1 Z192).2.2.1)
 let y18:=(y.1,a4,y.2.2.1,y.2.2.2.1,v58,y.2.2.2.2.1,y.2.2.2.2.2.1,y.2.2.2.2.2.2.1,a54,y.2.2.2.2.2.2.2.2.1,a56,v68.1,(len v68.1),())
 (bif (v68.2.1 != 0) then [] else (vY8 y18 (zC1 (wX6 y18) (wH4 y18) (x.1,x.2.1,(0:Int),()))))
def vZ3 (y:wA8) (x:xZ3):Int :=
 let a4:=y.2.1
 let a54:=y.2.2.2.2.2.2.2.1
 let a56:=x.2.2.1
 let v58:=(nth a54 a56 Z125)
 let v68:=(f126 (nth a4.2.2.2.1 v58.1 Z192).2.2.1)
 let y18:=(y.1,a4,y.2.2.1,y.2.2.2.1,v58,y.2.2.2.2.1,y.2.2.2.2.2.1,y.2.2.2.2.2.2.1,a54,y.2.2.2.2.2.2.2.2.1,a56,v68.1,(len v68.1),())
 (bif (v68.2.1 != 0) then v68.2.1 else (vY9 y18 (zC1 (wX6 y18) (wH4 y18) (x.1,x.2.1,(0:Int),()))))
def tD2:List (Nat × Sh):=[(8,(.own (.sl T125) 0 false)),(9,vI)]
def vZ4 (y:wA8) (x:xZ3):(List (List D125)) :=
 x.1
def vZ5 (y:wA8) (x:xZ3):Int :=
 x.2.1
def tD3:List (Nat × Sh):=[(2,vI),(4,(.box T163 (.val T163))),(11,(.val (.ptr T213))),(12,(.own (.sl T125) 1012 false)),(13,vI),(41,(.val (.sl .str))),(42,vI),(43,vI)]
def vZ6:St → Option Out:=xP4 [(2,vI),(4,(.box T163 (.val T163))),(11,(.val (.ptr T213))),(14,vI),(41,(.val (.sl .str))),(42,vI),(43,vI),(54,(.own T125 1016 false)),(55,vI)] [(12,(.own (.sl T125) 1012 false)),(13,vI),(56,vI)] wX8 wH5 vB5 fun y x=>[ex 1 (some (tD0 y x)) tD2 ((vZ2 y x),(vZ3 y x),()),ex 4 (some (tD1 y x)) tD3 (y.1,y.2.1,y.2.2.1,(vZ4 y x),(vZ5 y x),y.2.2.2.2.1,y.2.2.2.2.2.1,y.2.2.2.2.2.2.1,())]
abbrev wE8:Type:=(Int × D163 × D213 × (List (List UInt8)) × Int × Unit)
abbrev wB5:Type:=((List (List D125)) × Int × Int × Unit)
def vL4 (y:wE8) (x:wB5):Prop × Bool × wB5 × Bool × Bool :=
 let a11:=y.2.2.1
 let a41:=y.2.2.2.1
 let a42:=y.2.2.2.2.1
 let a43:=x.2.2.1
 let v44:=(decide (a43 < a42))
 let v46:=(nth a41 a43 ([]:List UInt8))
 let v51:=(f150 a11 v46)
 let y12:=(y.1,y.2.1,a11,a43,a41,a42,a43,v51.1,(len v51.1),())
 let x12:=(x.1,x.2.1,(0:Int),())
 let e12:=(zC1 (wX8 y12) (wH5 y12) x12)
 ((v44 = true → (InB a43 (len a41) ∧ ((uW9 a11 v46) ∧ (Am.Ends (wX8 y12) (wH5 y12) (vB5 y12) x12)))),(v44 && (tD1 y12 e12)),((vZ4 y12 e12),(vZ5 y12 e12),(IntKind.wrap .i64 (a43 + 1)),()),(v44 && (tD0 y12 e12)),(!v44))
def vL5 (y:wE8) (x:wB5):Prop:=(vL4 y x).1
def tD4 (y:wE8) (x:wB5):Bool:=(vL4 y x).2.1
def vF7 (y:wE8) (x:wB5):wB5:=(vL4 y x).2.2.1
def tP5 (y:wE8) (x:wB5):Bool:=(vL4 y x).2.2.2.1
def rT0 (y:wE8) (x:wB5):Bool:=(vL4 y x).2.2.2.2
instance (y:wE8) (x:wB5):Decidable (vL5 y x):=by
 unfold vL5 vL4
 try dsimp only
 infer_instance
def uO0 (y:wE8) (x:wB5):(List (List D125)) :=
 let a11:=y.2.2.1
 let a41:=y.2.2.2.1
 let a43:=x.2.2.1
 let v51:=(f150 a11 (nth a41 a43 ([]:List UInt8)))
 let y12:=(y.1,y.2.1,a11,a43,a41,y.2.2.2.2.1,a43,v51.1,(len v51.1),())
 (vZ2 y12 (zC1 (wX8 y12) (wH5 y12) (x.1,x.2.1,(0:Int),())))
def uO1 (y:wE8) (x:wB5):Int :=
 let a11:=y.2.2.1
 let a41:=y.2.2.2.1
 let a43:=x.2.2.1
 let v51:=(f150 a11 (nth a41 a43 ([]:List UInt8)))
 let y12:=(y.1,y.2.1,a11,a43,a41,y.2.2.2.2.1,a43,v51.1,(len v51.1),())
 (vZ3 y12 (zC1 (wX8 y12) (wH5 y12) (x.1,x.2.1,(0:Int),())))
def tP6:List (Nat × Sh):=[(8,(.own (.sl T125) 0 false)),(9,vI)]
def uO2 (y:wE8) (x:wB5):(List (List D125)) :=
 x.1
def tP7:List (Nat × Sh):=[(12,(.own (.sl T125) 1012 false))]
def uO3:St → Option Out:=xP4 [(2,vI),(4,(.box T163 (.val T163))),(11,(.val (.ptr T213))),(41,(.val (.sl .str))),(42,vI)] [(12,(.own (.sl T125) 1012 false)),(13,vI),(43,vI)] tD4 vF7 vL5 fun y x=>[ex 1 (some (tP5 y x)) tP6 ((uO0 y x),(uO1 y x),()),ex 2 (some (rT0 y x)) tP7 ((uO2 y x),())]
def pZ5 (p0:D163) (p1:(List UInt8)) (p2:Int) (p3:Int):Prop × ((List (List D125)) × Int × Unit) :=
 let v31:=(f147 p0 p1 p2 p3)
 let v33:=(v31 != 0)
 let v36:=(f148 p0)
 let v41:=(f149 v36 p1 p2 p3)
 let y8:=(p2,p0,v36,v41,(len v41),())
 let x8:=(([]:List (List D125)),(0:Int),(0:Int),())
 let e8:=(zC1 (tD4 y8) (vF7 y8) x8)
 let q8_1:=(tP5 y8 e8)
 (((tZ5 p0 p1 p2 p3) ∧ ((!v33) = true → ((tZ6 p0) ∧ ((vQ9 v36 p1 p2 p3) ∧ (Am.Ends (tD4 y8) (vF7 y8) (vL5 y8) x8))))),((bif v33 then [] else (bif q8_1 then (uO0 y8 e8) else (uO2 y8 e8))),(bif v33 then v31 else (bif q8_1 then (uO1 y8 e8) else (0:Int))),()))
def tZ7 (p0:D163) (p1:(List UInt8)) (p2:Int) (p3:Int):Prop:=(pZ5 p0 p1 p2 p3).1
def f130 (p0:D163) (p1:(List UInt8)) (p2:Int) (p3:Int):((List (List D125)) × Int × Unit):=(pZ5 p0 p1 p2 p3).2
instance (p0:D163) (p1:(List UInt8)) (p2:Int) (p3:Int):Decidable (tZ7 p0 p1 p2 p3):=by
 unfold tZ7 pZ5
 try dsimp only
 infer_instance
def sL1:Am.Spec:=fnSpec [(0,(.val T163)),(1,vS),(2,vI),(3,vI)] (.tup (.cons (.own (.sl T125) 0 false) (.cons vI .nl))) [] (fun x=>tZ7 x.1 x.2.1 x.2.2.1 x.2.2.2.1) (fun x=>f130 x.1 x.2.1 x.2.2.1 x.2.2.2.1) (fun _=>())
def vZ7:Ctx:=Cx tys [(108,wB3),(126,uZ5),(147,sL),(148,sL0),(149,sG9),(150,uX)] [(25,vY7),(18,vZ1),(12,vZ6),(8,uO3)] [(21,[(4,0,51,1016)]),(29,[(4,0,68,1020)]),(47,[(4,0,88,1024)]),(58,[(1,24,0,0)]),(59,[(4,0,129,1012)]),(67,[(4,0,1012,0)])] true 134 [] [88]
theorem vZ8:CtxOk Tryz.prog vZ7:=xW4 tys_ok rfl ⟨wQ2,rZ6,pZ2,pZ4,pP0,rW8,trivial⟩ rfl (by kernel_rfl)
noncomputable def qB5:Code:=Tryz.f130.body.getD .skip
noncomputable def sW6:Code:=xX3 qB5 0
noncomputable def tZ8:Code:=xX3 sW6 0
noncomputable def tZ9:Code:=xX3 tZ8 0
noncomputable def rG9:Code:=xX3 tZ9 0
theorem sW7:yV Tryz.prog vZ7 rG9:=xY2 vZ8 mixed (sp:=vY7) rfl [tC6] (bs:=[]) (by kernel_rfl) trivial (by kernel_rfl) (by kernel_rfl) fun y x=>by kernel_rfl
theorem sW8:yV Tryz.prog vZ7 tZ9:=xY2 vZ8 mixed (sp:=vZ1) rfl [tC9,tD] (bs:=[rG9]) (by kernel_rfl) ⟨sW7,trivial⟩ (by kernel_rfl) (by kernel_rfl) fun y x=>by kernel_rfl
theorem sW9:yV Tryz.prog vZ7 tZ8:=xY2 vZ8 mixed (sp:=vZ6) rfl [tD2,tD3] (bs:=[tZ9]) (by kernel_rfl) ⟨sW8,trivial⟩ (by kernel_rfl) (by kernel_rfl) fun y x=>by kernel_rfl
theorem rT1:yV Tryz.prog vZ7 sW6:=xY2 vZ8 mixed (sp:=uO3) rfl [tP6,tP7] (bs:=[tZ8]) (by kernel_rfl) ⟨sW9,trivial⟩ (by kernel_rfl) (by kernel_rfl) fun y x=>by kernel_rfl
theorem pZ6:SpecOk Tryz.prog 130 sL1:=xY3 vZ8 mixed Tryz.func130 (by kernel_rfl) (bs:=[sW6]) (by kernel_rfl) ⟨rT1,trivial⟩ fun x=>by kernel_rfl
def f151 (p0:List UInt8):List (List UInt8):=Lib.fields p0
def tD5 (p0:List UInt8):Prop:=(List.length p0:Int) ≤ 4294967280 ∧ (p0.all fun b=>decide (b.toNat < 128)) = true
instance (p0:List UInt8):Decidable (tD5 p0):=by
  unfold tD5
  infer_instance
def pZ7:List (Nat × Sh):=[(0,(.val .str))]
def pZ8:Sh:=(.val (.sl .str))
def pZ9:List (Nat × Sh):=[]
def sL2:Am.Spec:=fnSpec pZ7 pZ8 pZ9 (fun x=>tD5 x.1) (fun x=>f151 x.1) (fun _=>())
theorem tab0:G0 = Lib.asciiSpaceTab:=by kernel_rfl
theorem oA:SpecOk Tryz.prog 151 sL2:=xV8 (F:=f151) (e:=9) (ok:=tD5) ⟨_,Tryz.func151,by kernel_rfl,by decide⟩ fun s w χ hok hg =>
  Any.strings_Fields_core Tryz.lays157 (by kernel_rfl) s w (by have h1:=hok.1; rw [Array.length_toList] at h1; have h2:s.data.size = s.size:=rfl; omega)
    (fun j b hj=>by have:=List.all_eq_true.1 hok.2 b (List.mem_of_getElem? hj); simpa using this)
    (fun c hc=>by
      have h1:=xW7 hg (g:=0) (n:=256) (k:=.u8) (l:=G0) (List.mem_cons_self ..) c hc
      rw [tab0,Lib.asciiSpaceTab_at c hc] at h1
      exact h1)
def oA0 (p0:(List UInt8)) (p1:Int):Prop × Int :=
 ((tU7 p0 p1),(f173 p0 p1))
def tD6 (p0:(List UInt8)) (p1:Int):Prop:=(oA0 p0 p1).1
def f152 (p0:(List UInt8)) (p1:Int):Int:=(oA0 p0 p1).2
instance (p0:(List UInt8)) (p1:Int):Decidable (tD6 p0 p1):=by
 unfold tD6 oA0
 try dsimp only
 infer_instance
def sL3:Am.Spec:=fnSpec [(0,vS),(1,(.val (.int .u8)))] vI [] (fun x=>tD6 x.1 x.2.1) (fun x=>f152 x.1 x.2.1) (fun _=>())
def qY1:Ctx:=Cx tys [(173,sG)] [] [] false 8 [] []
theorem qY2:CtxOk Tryz.prog qY1:=xW4 tys_ok rfl ⟨pM6,trivial⟩ rfl (by kernel_rfl)
theorem oA1:SpecOk Tryz.prog 152 sL3:=xY3 qY2 mixed Tryz.func152 (by kernel_rfl) (bs:=[]) (by kernel_rfl) trivial fun x=>by kernel_rfl
def oA2 (p0:Int) (p1:Int) (p2:Int) (p3:Int):Prop × (List D128) :=
 let v30:=([((1:Int),([(p0,p1,()),Z125,Z125]:List D125),()),((2:Int),([(p2,p1,()),Z125,Z125]:List D125),()),((2:Int),([(p2,p3,()),Z125,Z125]:List D125),()),((2:Int),([(p0,p3,()),Z125,Z125]:List D125),()),((5:Int),(List.replicate 3 Z125),())]:List D128)
 (True,v30)
def sA (p0:Int) (p1:Int) (p2:Int) (p3:Int):Prop:=(oA2 p0 p1 p2 p3).1
def f174 (p0:Int) (p1:Int) (p2:Int) (p3:Int):(List D128):=(oA2 p0 p1 p2 p3).2
instance (p0:Int) (p1:Int) (p2:Int) (p3:Int):Decidable (sA p0 p1 p2 p3):=by
 unfold sA oA2
 try dsimp only
 infer_instance
def sL4:Am.Spec:=fnSpec [(0,vI),(1,vI),(2,vI),(3,vI)] (.own T128 0 false) [] (fun x=>sA x.1 x.2.1 x.2.2.1 x.2.2.2.1) (fun x=>f174 x.1 x.2.1 x.2.2.1 x.2.2.2.1) (fun _=>())
def qY3:Ctx:=Cx tys [] [] [(3,[(4,0,30,0)])] false 31 [] []
theorem qY4:CtxOk Tryz.prog qY3:=xW4 tys_ok rfl trivial rfl (by kernel_rfl)
theorem oA3:SpecOk Tryz.prog 174 sL4:=xY3 qY4 mixed Tryz.func174 (by kernel_rfl) (bs:=[]) (by kernel_rfl) trivial fun x=>by kernel_rfl
abbrev wX9:Type:=(Int × Int × (List D128) × Int × Unit)
abbrev wM6:Type:=(Int × Unit)
def uU7 (y:wX9) (x:wM6):Prop × Bool × wM6 :=
 let a7:=x.1
 let v20:=(decide ((a7 + 1) < 7))
 let v24:=(a7 + 1)
 let v28:=(bif v20 then ((xY4 .i64 (xY5 y.2.1 v24 64) (1:Int)) == 1) else false)
 ((InR (a7 + 1) ∧ ((v20 = true → InR (a7 + 1)) ∧ ((v20 = true → 0 ≤ v24) ∧ (v28 = true → InR (a7 + 1))))),v28,((a7 + 1),()))
def vL6 (y:wX9) (x:wM6):Prop:=(uU7 y x).1
def tD7 (y:wX9) (x:wM6):Bool:=(uU7 y x).2.1
def vF8 (y:wX9) (x:wM6):wM6:=(uU7 y x).2.2
instance (y:wX9) (x:wM6):Decidable (vL6 y x):=by
 unfold vL6 uU7
 try dsimp only
 infer_instance
def uO4 (y:wX9) (x:wM6):Int :=
 x.1
def tP8:List (Nat × Sh):=[(0,vI),(1,vI),(5,(.own T128 1005 false)),(6,vI),(7,vI)]
def uO5:St → Option Out:=xP4 [(0,vI),(1,vI),(5,(.own T128 1005 false)),(6,vI)] [(7,vI)] tD7 vF8 vL6 fun y x=>[ex 4 none tP8 (y.1,y.2.1,y.2.2.1,y.2.2.2.1,(uO4 y x),())]
abbrev wY:Type:=(Unit)
abbrev wM7:Type:=(Int × Int × (List D128) × Int × Unit)
def uU8 (y:wY) (x:wM7):Prop × Bool × wM7 :=
 let a0:=x.1
 let a1:=x.2.1
 let a5:=x.2.2.1
 let a6:=x.2.2.2.1
 let v9:=(decide (a6 < 7))
 let v16:=((xY4 .i64 (xY5 a1 a6 64) (1:Int)) == 0)
 let y7:=(a0,a1,a5,a6,())
 let x7:=(a6,())
 let r7_4_0:=(uO4 y7 (zC1 (tD7 y7) (vF8 y7) x7))
 let v33:=(100 * a0)
 let v35:=(100 * a6)
 let v36:=(700 - v35)
 let v38:=(100 * a0)
 let v39:=(v38 + 100)
 let v41:=(100 * r7_4_0)
 let v42:=(600 - v41)
 let v43:=(f174 v33 v36 v39 v42)
 let c:=(v16 || (!v16))
 let m6:=(bif v16 then a6 else r7_4_0)
 ((v9 = true → (0 ≤ a6 ∧ (((!v16) = true → ((Am.Ends (tD7 y7) (vF8 y7) (vL6 y7) x7) ∧ (InR (100 * a0) ∧ (InR (100 * a6) ∧ (InR (700 - v35) ∧ (InR (100 * a0) ∧ (InR (v38 + 100) ∧ (InR (100 * r7_4_0) ∧ (InR (600 - v41) ∧ ((sA v33 v36 v39 v42) ∧ ((List.length a5 + List.length v43:Nat):Int) ≤ 4294967296)))))))))) ∧ (c = true → InR (m6 + 1))))),(v9 && c),((bif v16 then a0 else a0),(bif v16 then a1 else a1),(bif v16 then a5 else (a5 ++ v43)),(m6 + 1),()))
def vL7 (y:wY) (x:wM7):Prop:=(uU8 y x).1
def tD8 (y:wY) (x:wM7):Bool:=(uU8 y x).2.1
def vF9 (y:wY) (x:wM7):wM7:=(uU8 y x).2.2
instance (y:wY) (x:wM7):Decidable (vL7 y x):=by
 unfold vL7 uU8
 try dsimp only
 infer_instance
def uO6 (y:wY) (x:wM7):(List D128) :=
 x.2.2.1
def uO7:St → Option Out:=xP4 [] [(0,vI),(1,vI),(5,(.own T128 1005 false)),(6,vI)] tD8 vF9 vL7 fun y x=>[ex 2 none [(5,(.own T128 1005 false))] ((uO6 y x),())]
def oA4 (p0:Int) (p1:Int):Prop × (List D128) :=
 let x3:=(p0,p1,([]:List D128),(0:Int),())
 ((Am.Ends (tD8 ()) (vF9 ()) (vL7 ()) x3),(uO6 () (zC1 (tD8 ()) (vF9 ()) x3)))
def sA0 (p0:Int) (p1:Int):Prop:=(oA4 p0 p1).1
def f153 (p0:Int) (p1:Int):(List D128):=(oA4 p0 p1).2
instance (p0:Int) (p1:Int):Decidable (sA0 p0 p1):=by
 unfold sA0 oA4
 try dsimp only
 infer_instance
def sL5:Am.Spec:=fnSpec [(0,vI),(1,vI)] (.own T128 0 false) [] (fun x=>sA0 x.1 x.2.1) (fun x=>f153 x.1 x.2.1) (fun _=>())
def sA1:Ctx:=Cx tys [(174,sL4)] [(7,uO5),(3,uO7)] [(19,[(4,0,44,1005)]),(23,[(4,0,1005,0)])] false 47 [] []
theorem sA2:CtxOk Tryz.prog sA1:=xW4 tys_ok rfl ⟨oA3,trivial⟩ rfl (by kernel_rfl)
noncomputable def qB6:Code:=Tryz.f153.body.getD .skip
noncomputable def sX:Code:=xX3 qB6 0
noncomputable def qB7:Code:=xX3 sX 0
theorem rT2:yV Tryz.prog sA1 qB7:=xY2 sA2 mixed (sp:=uO5) rfl [tP8] (bs:=[]) (by kernel_rfl) trivial (by kernel_rfl) (by kernel_rfl) fun y x=>by kernel_rfl
theorem rT3:yV Tryz.prog sA1 sX:=xY2 sA2 mixed (sp:=uO7) rfl [[(5,(.own T128 1005 false))]] (bs:=[qB7]) (by kernel_rfl) ⟨rT2,trivial⟩ (by kernel_rfl) (by kernel_rfl) fun y x=>by kernel_rfl
theorem oA5:SpecOk Tryz.prog 153 sL5:=xY3 sA2 mixed Tryz.func153 (by kernel_rfl) (bs:=[sX]) (by kernel_rfl) ⟨rT3,trivial⟩ fun x=>by kernel_rfl
abbrev wM8:Type:=((List UInt8) × (List (List UInt8)) × Int × Int × Int × Unit)
abbrev wE9:Type:=((Int × Int × Int × (List D192) × (List D197) × Unit) × (Int × Int × Int × (List D192) × (List D197) × Unit) × (Int × Int × (List D128) × Unit) × Int × Unit)
def uU9 (y:wM8) (x:wE9):Prop × Bool × wE9 :=
 let a3:=y.1
 let a0:=x.1
 let a1:=x.2.1
 let a4:=x.2.2.1
 let a22:=x.2.2.2.1
 let v23:=(decide (a22 < y.2.2.2.2.1))
 let v27:=(2 * a22)
 let v28:=(xX6 a3 v27)
 let v29:=(f152 ([48,49,50,51,52,53,54,55,56,57,97,98,99,100,101,102]:List UInt8) v28)
 let v30:=(16 * v29)
 let v33:=(2 * a22)
 let v34:=(v33 + 1)
 let v35:=(xX6 a3 v34)
 let v36:=(f152 ([48,49,50,51,52,53,54,55,56,57,97,98,99,100,101,102]:List UInt8) v35)
 let v37:=(v30 + v36)
 let v42:=(f153 a22 v37)
 ((v23 = true → (InR (2 * a22) ∧ (InB v27 (len a3) ∧ ((tD6 ([48,49,50,51,52,53,54,55,56,57,97,98,99,100,101,102]:List UInt8) v28) ∧ (InR (16 * v29) ∧ (InR (2 * a22) ∧ (InR (v33 + 1) ∧ (InB v34 (len a3) ∧ ((tD6 ([48,49,50,51,52,53,54,55,56,57,97,98,99,100,101,102]:List UInt8) v35) ∧ (InR (v30 + v36) ∧ ((sA0 a22 v37) ∧ (((List.length a4.2.2.1 + List.length v42:Nat):Int) ≤ 4294967296 ∧ InR (a22 + 1))))))))))))),v23,((a0.1,a0.2.1,a0.2.2.1,a0.2.2.2.1,a0.2.2.2.2.1,()),(a1.1,a1.2.1,a1.2.2.1,a1.2.2.2.1,a1.2.2.2.2.1,()),(a4.1,a4.2.1,(a4.2.2.1 ++ v42),()),(a22 + 1),()))
def vL8 (y:wM8) (x:wE9):Prop:=(uU9 y x).1
def tD9 (y:wM8) (x:wE9):Bool:=(uU9 y x).2.1
def vG (y:wM8) (x:wE9):wE9:=(uU9 y x).2.2
instance (y:wM8) (x:wE9):Decidable (vL8 y x):=by
 unfold vL8 uU9
 try dsimp only
 infer_instance
def uO8 (y:wM8) (x:wE9):(Int × Int × Int × (List D192) × (List D197) × Unit) :=
 let a0:=x.1
 (a0.1,a0.2.1,a0.2.2.1,a0.2.2.2.1,a0.2.2.2.2.1,())
def uO9 (y:wM8) (x:wE9):(Int × Int × Int × (List D192) × (List D197) × Unit) :=
 let a1:=x.2.1
 (a1.1,a1.2.1,a1.2.2.1,a1.2.2.2.1,a1.2.2.2.2.1,())
def uP (y:wM8) (x:wE9):(Int × Int × (List D128) × Unit) :=
 let a4:=x.2.2.1
 (a4.1,a4.2.1,a4.2.2.1,())
def tP9:List (Nat × Sh):=[(0,(.box T163 (.agg (.cons (.int .i64) (.cons (.int .i64) (.cons (.int .i64) (.cons (.sl T192) (.cons (.sl T197) .nl))))) (.cons vI (.cons vI (.cons vI (.cons (.own T192 400000 false) (.cons (.own T197 400001 false) .nl)))))))),(1,(.box T163 (.agg (.cons (.int .i64) (.cons (.int .i64) (.cons (.int .i64) (.cons (.sl T192) (.cons (.sl T197) .nl))))) (.cons vI (.cons vI (.cons vI (.cons (.own T192 400100 false) (.cons (.own T197 400101 false) .nl)))))))),(4,(.box T192 (.agg (.cons (.int .u8) (.cons (.int .i64) (.cons (.sl T128) .nl))) (.cons (.val (.int .u8)) (.cons vI (.cons (.own T128 400400 false) .nl)))))),(8,(.val (.sl .str))),(9,vI),(10,vI)]
def uP0:St → Option Out:=xP4 [(3,vS),(8,(.val (.sl .str))),(9,vI),(10,vI),(21,vI)] [(0,(.box T163 (.agg (.cons (.int .i64) (.cons (.int .i64) (.cons (.int .i64) (.cons (.sl T192) (.cons (.sl T197) .nl))))) (.cons vI (.cons vI (.cons vI (.cons (.own T192 400000 false) (.cons (.own T197 400001 false) .nl)))))))),(1,(.box T163 (.agg (.cons (.int .i64) (.cons (.int .i64) (.cons (.int .i64) (.cons (.sl T192) (.cons (.sl T197) .nl))))) (.cons vI (.cons vI (.cons vI (.cons (.own T192 400100 false) (.cons (.own T197 400101 false) .nl)))))))),(4,(.box T192 (.agg (.cons (.int .u8) (.cons (.int .i64) (.cons (.sl T128) .nl))) (.cons (.val (.int .u8)) (.cons vI (.cons (.own T128 400400 false) .nl)))))),(22,vI)] tD9 vG vL8 fun y x=>[ex 4 none tP9 ((uO8 y x),(uO9 y x),(uP y x),y.2.1,y.2.2.1,y.2.2.2.1,())]
abbrev wQ6:Type:=((List (List UInt8)) × Int × Unit)
abbrev wH6:Type:=((Int × Int × Int × (List D192) × (List D197) × Unit) × (Int × Int × Int × (List D192) × (List D197) × Unit) × Int × Unit)
def uV (y:wQ6) (x:wH6):Prop × Bool × wH6 :=
 let a8:=y.1
 let a9:=y.2.1
 let a0:=x.1
 let a1:=x.2.1
 let a10:=x.2.2.1
 let v11:=(decide (a10 < a9))
 let v13:=(nth a8 a10 ([]:List UInt8))
 let v20:=(len v13)
 let y7:=(v13,a8,a9,a10,(Int.tdiv v20 (2:Int)),())
 let x7:=((a0.1,a0.2.1,a0.2.2.1,a0.2.2.2.1,a0.2.2.2.2.1,()),(a1.1,a1.2.1,a1.2.2.1,a1.2.2.2.1,a1.2.2.2.2.1,()),((IntKind.wrap .u8 (32 + a10)),(600:Int),([]:List D128),()),(0:Int),())
 let e7:=(zC1 (tD9 y7) (vG y7) x7)
 let r7_4_0:=(uO8 y7 e7)
 let r7_4_1:=(uO9 y7 e7)
 let r7_4_2:=(uP y7 e7)
 let v49:=([(r7_4_2.1,r7_4_2.2.1,r7_4_2.2.2.1,())]:List D192)
 ((v11 = true → (InB a10 (len a8) ∧ (InR (32 + a10) ∧ (InR (Int.tdiv v20 (2:Int)) ∧ ((Am.Ends (tD9 y7) (vG y7) (vL8 y7) x7) ∧ (((List.length r7_4_1.2.2.2.1 + List.length v49:Nat):Int) ≤ 4294967296 ∧ InR (a10 + 1))))))),v11,((r7_4_0.1,r7_4_0.2.1,r7_4_0.2.2.1,r7_4_0.2.2.2.1,r7_4_0.2.2.2.2.1,()),(r7_4_1.1,r7_4_1.2.1,r7_4_1.2.2.1,(r7_4_1.2.2.2.1 ++ v49),r7_4_1.2.2.2.2.1,()),(a10 + 1),()))
def vL9 (y:wQ6) (x:wH6):Prop:=(uV y x).1
def tE (y:wQ6) (x:wH6):Bool:=(uV y x).2.1
def vG0 (y:wQ6) (x:wH6):wH6:=(uV y x).2.2
instance (y:wQ6) (x:wH6):Decidable (vL9 y x):=by
 unfold vL9 uV
 try dsimp only
 infer_instance
def sL6 (y:wQ6) (x:wH6):(Int × Int × Int × (List D192) × (List D197) × Unit) :=
 let a0:=x.1
 (a0.1,a0.2.1,a0.2.2.1,a0.2.2.2.1,a0.2.2.2.2.1,())
def uP1 (y:wQ6) (x:wH6):(Int × Int × Int × (List D192) × (List D197) × Unit) :=
 let a1:=x.2.1
 (a1.1,a1.2.1,a1.2.2.1,a1.2.2.2.1,a1.2.2.2.2.1,())
def tQ:List (Nat × Sh):=[(0,(.box T163 (.agg (.cons (.int .i64) (.cons (.int .i64) (.cons (.int .i64) (.cons (.sl T192) (.cons (.sl T197) .nl))))) (.cons vI (.cons vI (.cons vI (.cons (.own T192 400000 false) (.cons (.own T197 400001 false) .nl)))))))),(1,(.box T163 (.agg (.cons (.int .i64) (.cons (.int .i64) (.cons (.int .i64) (.cons (.sl T192) (.cons (.sl T197) .nl))))) (.cons vI (.cons vI (.cons vI (.cons (.own T192 400100 false) (.cons (.own T197 400101 false) .nl))))))))]
def uP2:St → Option Out:=xP4 [(8,(.val (.sl .str))),(9,vI)] [(0,(.box T163 (.agg (.cons (.int .i64) (.cons (.int .i64) (.cons (.int .i64) (.cons (.sl T192) (.cons (.sl T197) .nl))))) (.cons vI (.cons vI (.cons vI (.cons (.own T192 400000 false) (.cons (.own T197 400001 false) .nl)))))))),(1,(.box T163 (.agg (.cons (.int .i64) (.cons (.int .i64) (.cons (.int .i64) (.cons (.sl T192) (.cons (.sl T197) .nl))))) (.cons vI (.cons vI (.cons vI (.cons (.own T192 400100 false) (.cons (.own T197 400101 false) .nl)))))))),(10,vI)] tE vG0 vL9 fun y x=>[ex 2 none tQ ((sL6 y x),(uP1 y x),())]
def oA6 :Prop × D163 :=
 let v8:=(f151 lit0)
 let y3:=(v8,(len v8),())
 let x3:=(((0:Int),(0:Int),(0:Int),([]:List D192),([]:List D197),()),((1000:Int),(800:Int),(1200:Int),([]:List D192),([]:List D197),()),(0:Int),())
 let r3_2_1:=(uP1 y3 (zC1 (tE y3) (vG0 y3) x3))
 let s_6:=(r3_2_1.1,r3_2_1.2.1,r3_2_1.2.2.1,r3_2_1.2.2.2.1,([((65:Int),(86:Int),(-100:Int),()),((76:Int),(84:Int),(-100:Int),()),((84:Int),(97:Int),(-100:Int),()),((86:Int),(65:Int),(-100:Int),())]:List D197),())
 (((tD5 lit0) ∧ (Am.Ends (tE y3) (vG0 y3) (vL9 y3) x3)),s_6)
def sA3 :Prop:=(oA6).1
def f131 :D163:=(oA6).2
instance :Decidable (sA3):=by
 unfold sA3 oA6
 try dsimp only
 infer_instance
def sL7:Am.Spec:=fnSpec [] (.val T163) [] (fun x=>sA3 ) (fun x=>f131 ) (fun _=>())
def sA4:Ctx:=Cx tys [(151,sL2),(152,sL3),(153,sL5)] [(7,uP0),(3,uP2)] [(21,[(4,0,43,400400)]),(25,[(4,0,50,400100)]),(29,[(4,0,57,400101)]),(31,[(4,0,400100,400000),(4,0,400101,400001)])] false 60 [] []
theorem sA5:CtxOk Tryz.prog sA4:=xW4 tys_ok rfl ⟨oA,oA1,oA5,trivial⟩ rfl (by kernel_rfl)
noncomputable def qB8:Code:=Tryz.f131.body.getD .skip
noncomputable def sX0:Code:=xX3 qB8 0
noncomputable def qB9:Code:=xX3 sX0 0
theorem rT4:yV Tryz.prog sA4 qB9:=xY2 sA5 mixed (sp:=uP0) rfl [tP9] (bs:=[]) (by kernel_rfl) trivial (by kernel_rfl) (by kernel_rfl) fun y x=>by kernel_rfl
theorem rT5:yV Tryz.prog sA4 sX0:=xY2 sA5 mixed (sp:=uP2) rfl [tQ] (bs:=[qB9]) (by kernel_rfl) ⟨rT4,trivial⟩ (by kernel_rfl) (by kernel_rfl) fun y x=>by kernel_rfl
theorem oA7:SpecOk Tryz.prog 131 sL7:=xY3 sA5 mixed Tryz.func131 (by kernel_rfl) (bs:=[sX0]) (by kernel_rfl) ⟨rT5,trivial⟩ fun x=>by kernel_rfl
abbrev wH7:Type:=((List (List D125)) × D37 × (List (List D125)) × Int × Unit)
abbrev wC7:Type:=(Int × Int × Unit)
def vM (y:wH7) (x:wC7):Prop × Bool × wC7 × Bool × Bool :=
 let a21:=y.2.2.1
 let a7:=x.1
 let a23:=x.2.1
 let v24:=(decide (a23 < y.2.2.2.1))
 let v29:=(len (nth a21 a23 ([]:List D125)))
 let v30:=(a7 + v29)
 let v32:=(decide (v30 > 4096))
 ((v24 = true → (InB a23 (len a21) ∧ (InR (a7 + v29) ∧ ((!v32) = true → InR (a23 + 1))))),(v24 && (!v32)),(v30,(a23 + 1),()),(v24 && v32),(!v24))
def vM0 (y:wH7) (x:wC7):Prop:=(vM y x).1
def tE0 (y:wH7) (x:wC7):Bool:=(vM y x).2.1
def vG1 (y:wH7) (x:wC7):wC7:=(vM y x).2.2.1
def tQ0 (y:wH7) (x:wC7):Bool:=(vM y x).2.2.2.1
def tQ1 (y:wH7) (x:wC7):Bool:=(vM y x).2.2.2.2
instance (y:wH7) (x:wC7):Decidable (vM0 y x):=by
 unfold vM0 vM
 try dsimp only
 infer_instance
def uP3 (y:wH7) (x:wC7):(List (List D125)) :=
 ([]:List (List D125))
def uP4 (y:wH7) (x:wC7):Int :=
 (3:Int)
def tQ2:List (Nat × Sh):=[(4,(.own (.sl T125) 0 false)),(5,vI)]
def tQ3:List (Nat × Sh):=[(0,(.val (.sl (.sl T125)))),(3,(.box T37 (.val T37)))]
def uP5:St → Option Out:=xP4 [(0,(.val (.sl (.sl T125)))),(3,(.box T37 (.val T37))),(21,(.val (.sl (.sl T125)))),(22,vI)] [(7,vI),(23,vI)] tE0 vG1 vM0 fun y x=>[ex 1 (some (tQ0 y x)) tQ2 ((uP3 y x),(uP4 y x),()),ex 2 (some (tQ1 y x)) tQ3 (y.1,y.2.1,())]
abbrev wC2:Type:=(D37 × Int × (List (List D125)) × Int × Int × (List D125) × Int × Unit)
abbrev xZ6:Type:=(((List (List D125)) × Nat) × Int × Unit)
def wY0 (y:wC2) (x:xZ6):Prop × Bool × xZ6 × Bool × Bool :=
 let a3:=y.1
 let a11:=y.2.1
 let a50:=y.2.2.2.2.2.1
 let a10:=x.1
 let a52:=x.2.1
 let v53:=(decide (a52 < y.2.2.2.2.2.2.1))
 let v55:=(nth a50 a52 Z125)
 let v58:=(f143 v55)
 let v61:=(f142 a3 v55)
 let v63:=(f143 v61)
 let v67:=(List.getD a10.1 a10.2 [])
 let c:=((!v58) && (!v63))
 ((v53 = true → (InB a52 (len a50) ∧ ((vR4 v55) ∧ (((!v58) = true → ((uY6 a3 v55) ∧ ((vR4 v61) ∧ ((!v63) = true → (InB a11 (len a10.1) ∧ ((Int.toNat a11 = a10.2 ∧ a11 < len a10.1) ∧ (InB a52 (len v67) ∧ a52 < len v67))))))) ∧ (c = true → InR (a52 + 1)))))),(v53 && c),(((List.set a10.1 a10.2 (List.set (List.getD a10.1 a10.2 []) (Int.toNat a52) v61)),a10.2),(a52 + 1),()),(v53 && (v58 || ((!v58) && v63))),(!v53))
def vB6 (y:wC2) (x:xZ6):Prop:=(wY0 y x).1
def wY1 (y:wC2) (x:xZ6):Bool:=(wY0 y x).2.1
def wH8 (y:wC2) (x:xZ6):xZ6:=(wY0 y x).2.2.1
def tE1 (y:wC2) (x:xZ6):Bool:=(wY0 y x).2.2.2.1
def tE2 (y:wC2) (x:xZ6):Bool:=(wY0 y x).2.2.2.2
instance (y:wC2) (x:xZ6):Decidable (vB6 y x):=by
 unfold vB6 wY0
 try dsimp only
 infer_instance
def vZ9 (y:wC2) (x:xZ6):(List (List D125)) :=
 ([]:List (List D125))
def uA (y:wC2) (x:xZ6):Int :=
 (bif (f143 (nth y.2.2.2.2.2.1 x.2.1 Z125)) then (2:Int) else (2:Int))
def tE3:List (Nat × Sh):=[(4,(.own (.sl T125) 0 false)),(5,vI)]
def uA0 (y:wC2) (x:xZ6):((List (List D125)) × Nat) :=
 let a10:=x.1
 (a10.1,a10.2)
def tE4:List (Nat × Sh):=[(3,(.box T37 (.val T37))),(10,(.ownh T125 1010 48 true)),(37,(.val (.sl (.sl T125)))),(38,vI),(39,vI)]
def uA1:St → Option Out:=xP4 [(3,(.box T37 (.val T37))),(11,vI),(37,(.val (.sl (.sl T125)))),(38,vI),(39,vI),(50,(.val (.sl T125))),(51,vI)] [(10,(.ownh T125 1010 48 true)),(52,vI)] wY1 wH8 vB6 fun y x=>[ex 1 (some (tE1 y x)) tE3 ((vZ9 y x),(uA y x),()),ex 6 (some (tE2 y x)) tE4 (y.1,(uA0 y x),y.2.2.1,y.2.2.2.1,y.2.2.2.2.1,())]
abbrev wC3:Type:=(D37 × (List (List D125)) × Int × Unit)
abbrev xZ7:Type:=((List (List D125)) × Int × Unit)
def wY2 (y:wC3) (x:xZ7):Prop × Bool × xZ7 × Bool × Bool :=
 let a37:=y.2.1
 let a38:=y.2.2.1
 let a10:=x.1
 let a39:=x.2.1
 let v40:=(decide (a39 < a38))
 let v42:=(nth a37 a39 ([]:List D125))
 let v47:=(len v42)
 let y18:=(y.1,a39,a37,a38,a39,v42,(len v42),())
 let x18:=(((List.set a10 (Int.toNat a39) (List.replicate (Int.toNat v47) Z125)),(Int.toNat a39)),(0:Int),())
 let e18:=(zC1 (wY1 y18) (wH8 y18) x18)
 let q18_6:=(tE2 y18 e18)
 ((v40 = true → (InB a39 (len a37) ∧ ((0 ≤ v47 ∧ v47 ≤ v47 ∧ v47 ≤ 4294967296) ∧ (InB a39 (len a10) ∧ (a39 < len a10 ∧ ((Am.Ends (wY1 y18) (wH8 y18) (vB6 y18) x18) ∧ (q18_6 = true → InR (a39 + 1)))))))),(v40 && q18_6),((uA0 y18 e18).1,(a39 + 1),()),(v40 && (tE1 y18 e18)),(!v40))
def vB7 (y:wC3) (x:xZ7):Prop:=(wY2 y x).1
def uG7 (y:wC3) (x:xZ7):Bool:=(wY2 y x).2.1
def vB8 (y:wC3) (x:xZ7):xZ7:=(wY2 y x).2.2.1
def tE5 (y:wC3) (x:xZ7):Bool:=(wY2 y x).2.2.2.1
def sX1 (y:wC3) (x:xZ7):Bool:=(wY2 y x).2.2.2.2
instance (y:wC3) (x:xZ7):Decidable (vB7 y x):=by
 unfold vB7 wY2
 try dsimp only
 infer_instance
def uA2 (y:wC3) (x:xZ7):(List (List D125)) :=
 let a37:=y.2.1
 let a39:=x.2.1
 let v42:=(nth a37 a39 ([]:List D125))
 let y18:=(y.1,a39,a37,y.2.2.1,a39,v42,(len v42),())
 (vZ9 y18 (zC1 (wY1 y18) (wH8 y18) (((List.set x.1 (Int.toNat a39) (List.replicate (Int.toNat (len v42)) Z125)),(Int.toNat a39)),(0:Int),())))
def uA3 (y:wC3) (x:xZ7):Int :=
 let a37:=y.2.1
 let a39:=x.2.1
 let v42:=(nth a37 a39 ([]:List D125))
 let y18:=(y.1,a39,a37,y.2.2.1,a39,v42,(len v42),())
 (uA y18 (zC1 (wY1 y18) (wH8 y18) (((List.set x.1 (Int.toNat a39) (List.replicate (Int.toNat (len v42)) Z125)),(Int.toNat a39)),(0:Int),())))
def tE6:List (Nat × Sh):=[(4,(.own (.sl T125) 0 false)),(5,vI)]
def uA4 (y:wC3) (x:xZ7):(List (List D125)) :=
 x.1
def tE7:List (Nat × Sh):=[(10,(.own (.sl T125) 1010 true))]
def uA5:St → Option Out:=xP4 [(3,(.box T37 (.val T37))),(37,(.val (.sl (.sl T125)))),(38,vI)] [(10,(.own (.sl T125) 1010 true)),(39,vI)] uG7 vB8 vB7 fun y x=>[ex 1 (some (tE5 y x)) tE6 ((uA2 y x),(uA3 y x),()),ex 4 (some (sX1 y x)) tE7 ((uA4 y x),())]
def oA8 (p0:(List (List D125))) (p1:D37):Prop × ((List (List D125)) × Int × Unit) :=
 let v17:=(f77 p1)
 let v19:=(v17 != 0)
 let y6:=(p0,p1,p0,(len p0),())
 let x6:=((0:Int),(0:Int),())
 let e6:=(zC1 (tE0 y6) (vG1 y6) x6)
 let q6_1:=(tQ0 y6 e6)
 let v35:=(len p0)
 let y14:=(p1,p0,(len p0),())
 let x14:=((List.replicate (Int.toNat v35) ([]:List D125)),(0:Int),())
 let e14:=(zC1 (uG7 y14) (vB8 y14) x14)
 let q14_1:=(tE5 y14 e14)
 (((vV3 p1) ∧ ((!v19) = true → ((Am.Ends (tE0 y6) (vG1 y6) (vM0 y6) x6) ∧ ((tQ1 y6 e6) = true → ((0 ≤ v35 ∧ v35 ≤ v35 ∧ v35 ≤ 4294967296) ∧ (Am.Ends (uG7 y14) (vB8 y14) (vB7 y14) x14)))))),((bif v19 then [] else (bif q6_1 then (uP3 y6 e6) else (bif q14_1 then (uA2 y14 e14) else (uA4 y14 e14)))),(bif v19 then v17 else (bif q6_1 then (uP4 y6 e6) else (bif q14_1 then (uA3 y14 e14) else (0:Int)))),()))
def sA6 (p0:(List (List D125))) (p1:D37):Prop:=(oA8 p0 p1).1
def f132 (p0:(List (List D125))) (p1:D37):((List (List D125)) × Int × Unit):=(oA8 p0 p1).2
instance (p0:(List (List D125))) (p1:D37):Decidable (sA6 p0 p1):=by
 unfold sA6 oA8
 try dsimp only
 infer_instance
def sL8:Am.Spec:=fnSpec [(0,(.val (.sl (.sl T125)))),(1,(.val T37))] (.tup (.cons (.val (.sl (.sl T125))) (.cons vI .nl))) [] (fun x=>sA6 x.1 x.2.1) (fun x=>f132 x.1 x.2.1) (fun _=>())
def uV0:Ctx:=Cx tys [(77,vV4),(142,uY7),(143,vV8)] [(6,uP5),(18,uA1),(14,uA5)] [(25,[(4,0,36,1010)]),(54,[(1,10,0,0)]),(57,[(1,4,0,0),(4,0,1010,0)])] false 74 [] [36,48]
theorem uV1:CtxOk Tryz.prog uV0:=xW4 tys_ok rfl ⟨rD7,rZ1,sU,trivial⟩ rfl (by kernel_rfl)
noncomputable def sL9:Code:=Tryz.f132.body.getD .skip
noncomputable def qC:Code:=xX3 sL9 0
theorem rT6:yV Tryz.prog uV0 qC:=xY2 uV1 mixed (sp:=uP5) rfl [tQ2,tQ3] (bs:=[]) (by kernel_rfl) trivial (by kernel_rfl) (by kernel_rfl) fun y x=>by kernel_rfl
noncomputable def sA7:Code:=xX3 sL9 1
noncomputable def rH:Code:=xX3 sA7 0
theorem sX2:yV Tryz.prog uV0 rH:=xY2 uV1 mixed (sp:=uA1) rfl [tE3,tE4] (bs:=[]) (by kernel_rfl) trivial (by kernel_rfl) (by kernel_rfl) fun y x=>by kernel_rfl
theorem sX3:yV Tryz.prog uV0 sA7:=xY2 uV1 mixed (sp:=uA5) rfl [tE6,tE7] (bs:=[rH]) (by kernel_rfl) ⟨sX2,trivial⟩ (by kernel_rfl) (by kernel_rfl) fun y x=>by kernel_rfl
theorem oA9:SpecOk Tryz.prog 132 sL8:=xY3 uV1 mixed Tryz.func132 (by kernel_rfl) (bs:=[qC,sA7]) (by kernel_rfl) ⟨rT6,sX3,trivial⟩ fun x=>by kernel_rfl
def oB (p0:D49):Prop × Int :=
 let v14:=(f130 f131 p0.2.2.2.2.2.2.2.2.2.2.2.2.2.2.2.2.2.2.2.2.2.2.2.1 p0.2.2.2.2.2.2.2.2.2.2.2.2.2.2.2.2.2.2.2.2.2.2.2.2.1 p0.2.2.2.2.2.2.2.2.2.2.2.2.2.2.2.2.2.2.2.2.2.2.2.2.2.1)
 let v18:=(v14.2.1 != 0)
 let v24:=(f132 v14.1 p0.2.2.2.2.2.2.2.2.2.2.1)
 let v28:=(v24.2.1 != 0)
 let v31:=(f129 v24.1 (0:Int))
 let v33:=(v31 != 0)
 ((sA3 ∧ ((tZ7 f131 p0.2.2.2.2.2.2.2.2.2.2.2.2.2.2.2.2.2.2.2.2.2.2.2.1 p0.2.2.2.2.2.2.2.2.2.2.2.2.2.2.2.2.2.2.2.2.2.2.2.2.1 p0.2.2.2.2.2.2.2.2.2.2.2.2.2.2.2.2.2.2.2.2.2.2.2.2.2.1) ∧ ((!v18) = true → ((sA6 v14.1 p0.2.2.2.2.2.2.2.2.2.2.1) ∧ ((!v28) = true → ((uG0 v24.1 (0:Int)) ∧ ((!v33) = true → (uF8 p0.2.2.2.2.2.2.2.2.2.2.2.2.2.1)))))))),(bif v18 then v14.2.1 else (bif v28 then v24.2.1 else (bif v33 then v31 else (f110 p0.2.2.2.2.2.2.2.2.2.2.2.2.2.1)))))
def sA8 (p0:D49):Prop:=(oB p0).1
def f113 (p0:D49):Int:=(oB p0).2
instance (p0:D49):Decidable (sA8 p0):=by
 unfold sA8 oB
 try dsimp only
 infer_instance
def sM:Am.Spec:=fnSpec [(0,(.val T49))] vI [] (fun x=>sA8 x.1) (fun x=>f113 x.1) (fun _=>())
def qY5:Ctx:=Cx tys [(110,vV7),(129,vW9),(130,sL1),(131,sL7),(132,sL8)] [] [(3,[(4,0,14,1003)])] false 38 [] []
theorem qY6:CtxOk Tryz.prog qY5:=xW4 tys_ok rfl ⟨sT9,sU8,pZ6,oA7,oA9,trivial⟩ rfl (by kernel_rfl)
theorem oB0:SpecOk Tryz.prog 113 sM:=xY3 qY6 mixed Tryz.func113 (by kernel_rfl) (bs:=[]) (by kernel_rfl) trivial fun x=>by kernel_rfl
def oB1 (p0:Int) (p1:Int):Prop × Bool :=
 let v7:=(p0 == 2)
 let v11:=(p0 == 3)
 let v24:=(p0 == 4)
 let m23:=(bif v24 then v24 else (p0 == 11))
 let v29:=(p0 == 5)
 let m28:=(bif v29 then v29 else (p0 == 9))
 let v34:=(p0 == 6)
 let m33:=(bif v34 then v34 else (p0 == 7))
 let m4_3:=(bif v11 then (bif (bif (decide (p1 ≥ 4)) then (decide (p1 ≤ 16)) else false) then ((Int.tmod p1 (2:Int)) == 0) else false) else (bif m23 then (p1 == 2) else (bif m28 then (p1 == 3) else (bif m33 then (p1 == 1) else (p1 == 9)))))
 (True,(bif (bif v7 then true else (bif v11 then true else (bif m23 then true else (bif m28 then true else (bif m33 then true else (p0 == 8)))))) then (bif v7 then (p1 == 5) else m4_3) else (p1 == 0)))
def sA9 (p0:Int) (p1:Int):Prop:=(oB1 p0 p1).1
def f133 (p0:Int) (p1:Int):Bool:=(oB1 p0 p1).2
instance (p0:Int) (p1:Int):Decidable (sA9 p0 p1):=by
 unfold sA9 oB1
 try dsimp only
 infer_instance
def sM0:Am.Spec:=fnSpec [(0,vI),(1,vI)] vB [] (fun x=>sA9 x.1 x.2.1) (fun x=>f133 x.1 x.2.1) (fun _=>())
def qY7:Ctx:=Cx tys [] [] [] false 44 [] []
theorem qY8:CtxOk Tryz.prog qY7:=xW4 tys_ok rfl trivial rfl (by kernel_rfl)
theorem oB2:SpecOk Tryz.prog 133 sM0:=xY3 qY8 mixed Tryz.func133 (by kernel_rfl) (bs:=[]) (by kernel_rfl) trivial fun x=>by kernel_rfl
def oB3 (p0:Int) (p1:Int):Prop × (Int × Int × Unit) :=
 let v12:=(bif (p0 == 2) then (p1 == 2) else false)
 let v15:=(p0 == 4)
 let v21:=(bif (p0 == 5) then (decide (p1 > 0)) else false)
 let m13_1:=(bif v15 then v15 else (bif v21 then v21 else (bif (p0 == 11) then (p1 == 1) else false)))
 let v30:=(p0 == 5)
 let v33:=(p0 == 7)
 let v36:=(p0 == 8)
 let c_8:=(bif v12 then true else (bif m13_1 then true else (bif v30 then true else (bif v33 then true else (bif v36 then true else (p0 == 11))))))
 let m4_5:=(bif c_8 then (bif v12 then (1:Int) else (bif m13_1 then (-65535:Int) else (bif v30 then (-32768:Int) else (bif v33 then (2:Int) else (bif v36 then (-262140:Int) else (-128:Int)))))) else (0:Int))
 let m5_5:=(bif c_8 then (bif v12 then (256:Int) else (bif m13_1 then (65535:Int) else (bif v30 then (32768:Int) else (bif v33 then (256:Int) else (bif v36 then (262140:Int) else (128:Int)))))) else (65535:Int))
 (True,(m4_5,m5_5,()))
def sB (p0:Int) (p1:Int):Prop:=(oB3 p0 p1).1
def f154 (p0:Int) (p1:Int):(Int × Int × Unit):=(oB3 p0 p1).2
instance (p0:Int) (p1:Int):Decidable (sB p0 p1):=by
 unfold sB oB3
 try dsimp only
 infer_instance
def sM1:Am.Spec:=fnSpec [(0,vI),(1,vI)] (.tup (.cons vI (.cons vI .nl))) [] (fun x=>sB x.1 x.2.1) (fun x=>f154 x.1 x.2.1) (fun _=>())
def qY9:Ctx:=Cx tys [] [] [] false 40 [] []
theorem qZ:CtxOk Tryz.prog qY9:=xW4 tys_ok rfl trivial rfl (by kernel_rfl)
theorem oB4:SpecOk Tryz.prog 154 sM1:=xY3 qZ mixed Tryz.func154 (by kernel_rfl) (bs:=[]) (by kernel_rfl) trivial fun x=>by kernel_rfl
abbrev wM9:Type:=(Int × (List Int) × (List D122) × (List Int) × Int × Unit)
abbrev wF:Type:=(Int × Unit)
def vM1 (y:wM9) (x:wF):Prop × Bool × wF × Bool × Bool :=
 let a0:=y.1
 let a13:=y.2.2.2.1
 let a15:=x.1
 let v16:=(decide (a15 < y.2.2.2.2.1))
 let v18:=(nth a13 a15 (0:Int))
 let v23:=(f154 a0 a15)
 let v33:=(bif (decide (v18 < v23.1)) then true else (decide (v18 > v23.2.1)))
 ((v16 = true → (InB a15 (len a13) ∧ ((sB a0 a15) ∧ ((!v33) = true → InR (a15 + 1))))),(v16 && (!v33)),((a15 + 1),()),(v16 && v33),(!v16))
def vM2 (y:wM9) (x:wF):Prop:=(vM1 y x).1
def tE8 (y:wM9) (x:wF):Bool:=(vM1 y x).2.1
def vG2 (y:wM9) (x:wF):wF:=(vM1 y x).2.2.1
def tQ4 (y:wM9) (x:wF):Bool:=(vM1 y x).2.2.2.1
def tQ5 (y:wM9) (x:wF):Bool:=(vM1 y x).2.2.2.2
instance (y:wM9) (x:wF):Decidable (vM2 y x):=by
 unfold vM2 vM1
 try dsimp only
 infer_instance
def uP6 (y:wM9) (x:wF):Bool :=
 false
def tQ6:List (Nat × Sh):=[(0,vI),(1,(.val (.sl (.int .i64)))),(2,(.val (.sl T122)))]
def uP7:St → Option Out:=xP4 [(0,vI),(1,(.val (.sl (.int .i64)))),(2,(.val (.sl T122))),(13,(.val (.sl (.int .i64)))),(14,vI)] [(15,vI)] tE8 vG2 vM2 fun y x=>[ex 1 (some (tQ4 y x)) [(6,vB)] ((uP6 y x),()),ex 2 (some (tQ5 y x)) tQ6 (y.1,y.2.1,y.2.2.1,())]
abbrev wG9:Type:=((List D122) × Int × Unit)
abbrev wC4:Type:=(Int × Unit)
def wY3 (y:wG9) (x:wC4):Prop × Bool × wC4 × Bool × Bool :=
 let a55:=y.1
 let a57:=x.1
 let v58:=(decide (a57 < y.2.1))
 let v59:=(nth a55 a57 Z122)
 let v68:=(bif (decide (v59.1 < 0)) then true else (decide (v59.1 > 65535)))
 let v74:=(bif v68 then true else (!(f85 v59.2.1)))
 ((v58 = true → (InB a57 (len a55) ∧ (((!v68) = true → (uX9 v59.2.1)) ∧ ((!v74) = true → InR (a57 + 1))))),(v58 && (!v74)),((a57 + 1),()),(v58 && v74),(!v58))
def vB9 (y:wG9) (x:wC4):Prop:=(wY3 y x).1
def uG8 (y:wG9) (x:wC4):Bool:=(wY3 y x).2.1
def vC (y:wG9) (x:wC4):wC4:=(wY3 y x).2.2.1
def tE9 (y:wG9) (x:wC4):Bool:=(wY3 y x).2.2.2.1
def sX4 (y:wG9) (x:wC4):Bool:=(wY3 y x).2.2.2.2
instance (y:wG9) (x:wC4):Decidable (vB9 y x):=by
 unfold vB9 wY3
 try dsimp only
 infer_instance
def uA6 (y:wG9) (x:wC4):Bool :=
 false
def uA7:St → Option Out:=xP4 [(55,(.val (.sl T122))),(56,vI)] [(57,vI)] uG8 vC vB9 fun y x=>[ex 1 (some (tE9 y x)) [(6,vB)] ((uA6 y x),()),ex 4 (some (sX4 y x)) [] ()]
def oB5 (p0:Int) (p1:(List Int)) (p2:(List D122)):Prop × Bool :=
 let y2:=(p0,p1,p2,p1,(len p1),())
 let x2:=((0:Int),())
 let e2:=(zC1 (tE8 y2) (vG2 y2) x2)
 let v36:=(p0 == 9)
 let v42:=(bif v36 then ((nth p1 (0:Int) (0:Int)) == 0) else false)
 let v48:=(bif v42 then ((nth p1 (1:Int) (0:Int)) == 0) else false)
 let v54:=(bif v48 then ((nth p1 (2:Int) (0:Int)) == 0) else false)
 let y11:=(p2,(len p2),())
 let x11:=((0:Int),())
 let e11:=(zC1 (uG8 y11) (vC y11) x11)
 (((Am.Ends (tE8 y2) (vG2 y2) (vM2 y2) x2) ∧ ((tQ5 y2 e2) = true → ((v36 = true → InB (0:Int) (len p1)) ∧ ((v42 = true → InB (1:Int) (len p1)) ∧ ((v48 = true → InB (2:Int) (len p1)) ∧ ((!v54) = true → (Am.Ends (uG8 y11) (vC y11) (vB9 y11) x11))))))),(bif (tQ4 y2 e2) then (uP6 y2 e2) else (bif v54 then false else (bif (tE9 y11 e11) then (uA6 y11 e11) else true))))
def sB0 (p0:Int) (p1:(List Int)) (p2:(List D122)):Prop:=(oB5 p0 p1 p2).1
def f134 (p0:Int) (p1:(List Int)) (p2:(List D122)):Bool:=(oB5 p0 p1 p2).2
instance (p0:Int) (p1:(List Int)) (p2:(List D122)):Decidable (sB0 p0 p1 p2):=by
 unfold sB0 oB5
 try dsimp only
 infer_instance
def sM2:Am.Spec:=fnSpec [(0,vI),(1,(.val (.sl (.int .i64)))),(2,(.val (.sl T122)))] vB [] (fun x=>sB0 x.1 x.2.1 x.2.2.1) (fun x=>f134 x.1 x.2.1 x.2.2.1) (fun _=>())
def sB1:Ctx:=Cx tys [(85,vV5),(154,sM1)] [(2,uP7),(11,uA7)] [] false 76 [] []
theorem sB2:CtxOk Tryz.prog sB1:=xW4 tys_ok rfl ⟨rE3,oB4,trivial⟩ rfl (by kernel_rfl)
noncomputable def sM3:Code:=Tryz.f134.body.getD .skip
noncomputable def qC0:Code:=xX3 sM3 0
theorem rT7:yV Tryz.prog sB1 qC0:=xY2 sB2 mixed (sp:=uP7) rfl [[(6,vB)],tQ6] (bs:=[]) (by kernel_rfl) trivial (by kernel_rfl) (by kernel_rfl) fun y x=>by kernel_rfl
noncomputable def rH0:Code:=xX3 sM3 1
theorem sX5:yV Tryz.prog sB1 rH0:=xY2 sB2 mixed (sp:=uA7) rfl [[(6,vB)],[]] (bs:=[]) (by kernel_rfl) trivial (by kernel_rfl) (by kernel_rfl) fun y x=>by kernel_rfl
theorem oB6:SpecOk Tryz.prog 134 sM2:=xY3 sB2 mixed Tryz.func134 (by kernel_rfl) (bs:=[qC0,rH0]) (by kernel_rfl) ⟨rT7,sX5,trivial⟩ fun x=>by kernel_rfl
abbrev wN:Type:=((List Int) × (List D122) × Unit)
abbrev wF0:Type:=(Int × Unit)
def vM3 (y:wN) (x:wF0):Prop × Bool × wF0 × Bool × Bool :=
 let a1:=y.1
 let a7:=x.1
 let v25:=(decide (a7 < (len a1)))
 let v34:=(a7 - 2)
 let v37:=(decide ((nth a1 a7 (0:Int)) ≤ (nth a1 v34 (0:Int))))
 ((v25 = true → (InB a7 (len a1) ∧ (InR (a7 - 2) ∧ (InB v34 (len a1) ∧ ((!v37) = true → InR (a7 + 2)))))),(v25 && (!v37)),((a7 + 2),()),(v25 && v37),(!v25))
def vM4 (y:wN) (x:wF0):Prop:=(vM3 y x).1
def tF (y:wN) (x:wF0):Bool:=(vM3 y x).2.1
def vG3 (y:wN) (x:wF0):wF0:=(vM3 y x).2.2.1
def tQ7 (y:wN) (x:wF0):Bool:=(vM3 y x).2.2.2.1
def tQ8 (y:wN) (x:wF0):Bool:=(vM3 y x).2.2.2.2
instance (y:wN) (x:wF0):Decidable (vM4 y x):=by
 unfold vM4 vM3
 try dsimp only
 infer_instance
def uP8 (y:wN) (x:wF0):Bool :=
 false
def uP9:St → Option Out:=xP4 [(1,(.val (.sl (.int .i64)))),(2,(.val (.sl T122)))] [(7,vI)] tF vG3 vM4 fun y x=>[ex 1 (some (tQ7 y x)) [(6,vB)] ((uP8 y x),()),ex 2 (some (tQ8 y x)) [(2,(.val (.sl T122)))] (y.2.1,())]
abbrev wH:Type:=((List D122) × Unit)
abbrev wC5:Type:=(Int × Unit)
def wY4 (y:wH) (x:wC5):Prop × Bool × wC5 × Bool × Bool :=
 let a2:=y.1
 let a8:=x.1
 let v41:=(decide (a8 < (len a2)))
 let v51:=(a8 - 1)
 let v55:=(decide ((nth a2 a8 Z122).1 ≤ (nth a2 v51 Z122).1))
 ((v41 = true → (InB a8 (len a2) ∧ (InR (a8 - 1) ∧ (InB v51 (len a2) ∧ ((!v55) = true → InR (a8 + 1)))))),(v41 && (!v55)),((a8 + 1),()),(v41 && v55),(!v41))
def vC0 (y:wH) (x:wC5):Prop:=(wY4 y x).1
def uG9 (y:wH) (x:wC5):Bool:=(wY4 y x).2.1
def vC1 (y:wH) (x:wC5):wC5:=(wY4 y x).2.2.1
def tF0 (y:wH) (x:wC5):Bool:=(wY4 y x).2.2.2.1
def sX6 (y:wH) (x:wC5):Bool:=(wY4 y x).2.2.2.2
instance (y:wH) (x:wC5):Decidable (vC0 y x):=by
 unfold vC0 wY4
 try dsimp only
 infer_instance
def uA8 (y:wH) (x:wC5):Bool :=
 false
def uA9:St → Option Out:=xP4 [(2,(.val (.sl T122)))] [(8,vI)] uG9 vC1 vC0 fun y x=>[ex 1 (some (tF0 y x)) [(6,vB)] ((uA8 y x),()),ex 4 (some (sX6 y x)) [] ()]
def oB7 (p0:Int) (p1:(List Int)) (p2:(List D122)):Prop × Bool :=
 let v10:=(p0 == 2)
 let v19:=(bif v10 then (decide ((nth p1 (1:Int) (0:Int)) ≤ (nth p1 (0:Int) (0:Int)))) else false)
 let v21:=(p0 == 3)
 let y5:=(p1,p2,())
 let x5:=((2:Int),())
 let e5:=(zC1 (tF y5) (vG3 y5) x5)
 let y10:=((bif v21 then p2 else p2),())
 let x10:=((1:Int),())
 let e10:=(zC1 (uG9 y10) (vC1 y10) x10)
 (((v10 = true → InB (1:Int) (len p1)) ∧ ((v10 = true → InB (0:Int) (len p1)) ∧ ((!v19) = true → ((v21 = true → (Am.Ends (tF y5) (vG3 y5) (vM4 y5) x5)) ∧ ((bif v21 then (tQ8 y5 e5) else true) = true → (Am.Ends (uG9 y10) (vC1 y10) (vC0 y10) x10)))))),(bif v19 then false else (bif ((tQ7 y5 e5) && v21) then (uP8 y5 e5) else (bif (tF0 y10 e10) then (uA8 y10 e10) else true))))
def sB3 (p0:Int) (p1:(List Int)) (p2:(List D122)):Prop:=(oB7 p0 p1 p2).1
def f135 (p0:Int) (p1:(List Int)) (p2:(List D122)):Bool:=(oB7 p0 p1 p2).2
instance (p0:Int) (p1:(List Int)) (p2:(List D122)):Decidable (sB3 p0 p1 p2):=by
 unfold sB3 oB7
 try dsimp only
 infer_instance
def sM4:Am.Spec:=fnSpec [(0,vI),(1,(.val (.sl (.int .i64)))),(2,(.val (.sl T122)))] vB [] (fun x=>sB3 x.1 x.2.1 x.2.2.1) (fun x=>f135 x.1 x.2.1 x.2.2.1) (fun _=>())
def sB4:Ctx:=Cx tys [] [(5,uP9),(10,uA9)] [] false 56 [] []
theorem sB5:CtxOk Tryz.prog sB4:=xW4 tys_ok rfl trivial rfl (by kernel_rfl)
noncomputable def sM5:Code:=Tryz.f135.body.getD .skip
noncomputable def qC1:Code:=xX3 sM5 0
theorem rT8:yV Tryz.prog sB4 qC1:=xY2 sB5 mixed (sp:=uP9) rfl [[(6,vB)],[(2,(.val (.sl T122)))]] (bs:=[]) (by kernel_rfl) trivial (by kernel_rfl) (by kernel_rfl) fun y x=>by kernel_rfl
noncomputable def rH1:Code:=xX3 sM5 1
theorem sX7:yV Tryz.prog sB4 rH1:=xY2 sB5 mixed (sp:=uA9) rfl [[(6,vB)],[]] (bs:=[]) (by kernel_rfl) trivial (by kernel_rfl) (by kernel_rfl) fun y x=>by kernel_rfl
theorem oB8:SpecOk Tryz.prog 135 sM4:=xY3 sB5 mixed Tryz.func135 (by kernel_rfl) (bs:=[qC1,rH1]) (by kernel_rfl) ⟨rT8,sX7,trivial⟩ fun x=>by kernel_rfl
end Go.Proofs.YtpanghcojpnkaaaGreatDoor.Am
