/- Printed by program, part 3. No condition. -/
import Derived.Test.YtigpekbhmpfcoaaGreatDoorRetP2
set_option linter.unusedVariables false
set_option synthInstance.maxSize 4000
set_option synthInstance.maxHeartbeats 400000
namespace Go.Proofs.YtigpekbhmpfcoaaGreatDoor.Am
open Go Go.Am Go.Proofs
abbrev wN0:Type:=((List (List D94)) × D45 × (List (List D94)) × Int × Unit)
abbrev wH:Type:=(Int × Int × Unit)
def vU4 (y:wN0) (x:wH):Prop × Bool × wH × Bool × Bool :=
 let a21:=y.2.2.1
 let a7:=x.1
 let a23:=x.2.1
 let v24:=(decide (a23 < y.2.2.2.1))
 let v29:=(len (nth a21 a23 ([]:List D94)))
 let v30:=(a7 + v29)
 let v32:=(decide (v30 > 4096))
 ((v24 = true → (InB a23 (len a21) ∧ (InR (a7 + v29) ∧ ((!v32) = true → InR (a23 + 1))))),(v24 && (!v32)),(v30,(a23 + 1),()),(v24 && v32),(!v24))
def wX2 (y:wN0) (x:wH):Prop:=(vU4 y x).1
def vP6 (y:wN0) (x:wH):Bool:=(vU4 y x).2.1
def wT1 (y:wN0) (x:wH):wH:=(vU4 y x).2.2.1
def uO1 (y:wN0) (x:wH):Bool:=(vU4 y x).2.2.2.1
def tW3 (y:wN0) (x:wH):Bool:=(vU4 y x).2.2.2.2
instance (y:wN0) (x:wH):Decidable (wX2 y x):=by
 unfold wX2 vU4
 try dsimp only
 infer_instance
def vP7 (y:wN0) (x:wH):(List (List D94)) :=
 ([]:List (List D94))
def uW0 (y:wN0) (x:wH):Int :=
 (3:Int)
def tW4:List (Nat × Sh):=[(4,(.own (.sl T94) 0 false)),(5,vI)]
def tW5:List (Nat × Sh):=[(0,(.val (.sl (.sl T94)))),(3,(.box T45 (.val T45)))]
def uW1:St → Option Out:=xO8 [(0,(.val (.sl (.sl T94)))),(3,(.box T45 (.val T45))),(21,(.val (.sl (.sl T94)))),(22,vI)] [(7,vI),(23,vI)] vP6 wT1 wX2 fun y x=>[ex 1 (some (uO1 y x)) tW4 ((vP7 y x),(uW0 y x),()),ex 2 (some (tW3 y x)) tW5 (y.1,y.2.1,())]
abbrev wB3:Type:=(D45 × Int × (List (List D94)) × Int × Int × (List D94) × Int × Unit)
abbrev wA2:Type:=(((List (List D94)) × Nat) × Int × Unit)
def vH8 (y:wB3) (x:wA2):Prop × Bool × wA2 × Bool × Bool :=
 let a3:=y.1
 let a11:=y.2.1
 let a50:=y.2.2.2.2.2.1
 let a10:=x.1
 let a52:=x.2.1
 let v53:=(decide (a52 < y.2.2.2.2.2.2.1))
 let v55:=(nth a50 a52 Z94)
 let v58:=(f131 v55)
 let v61:=(f130 a3 v55)
 let v63:=(f131 v61)
 let v67:=(List.getD a10.1 a10.2 [])
 let c:=((!v58) && (!v63))
 ((v53 = true → (InB a52 (len a50) ∧ ((vN v55) ∧ (((!v58) = true → ((uN2 a3 v55) ∧ ((vN v61) ∧ ((!v63) = true → (InB a11 (len a10.1) ∧ ((Int.toNat a11 = a10.2 ∧ a11 < len a10.1) ∧ (InB a52 (len v67) ∧ a52 < len v67))))))) ∧ (c = true → InR (a52 + 1)))))),(v53 && c),(((List.set a10.1 a10.2 (List.set (List.getD a10.1 a10.2 []) (Int.toNat a52) v61)),a10.2),(a52 + 1),()),(v53 && (v58 || ((!v58) && v63))),(!v53))
def wH0 (y:wB3) (x:wA2):Prop:=(vH8 y x).1
def wB (y:wB3) (x:wA2):Bool:=(vH8 y x).2.1
def xY5 (y:wB3) (x:wA2):wA2:=(vH8 y x).2.2.1
def tK8 (y:wB3) (x:wA2):Bool:=(vH8 y x).2.2.2.1
def vZ7 (y:wB3) (x:wA2):Bool:=(vH8 y x).2.2.2.2
instance (y:wB3) (x:wA2):Decidable (wH0 y x):=by
 unfold wH0 vH8
 try dsimp only
 infer_instance
def vL0 (y:wB3) (x:wA2):(List (List D94)) :=
 ([]:List (List D94))
def uH8 (y:wB3) (x:wA2):Int :=
 (bif (f131 (nth y.2.2.2.2.2.1 x.2.1 Z94)) then (2:Int) else (2:Int))
def tK9:List (Nat × Sh):=[(4,(.own (.sl T94) 0 false)),(5,vI)]
def uH9 (y:wB3) (x:wA2):((List (List D94)) × Nat) :=
 let a10:=x.1
 (a10.1,a10.2)
def tL:List (Nat × Sh):=[(3,(.box T45 (.val T45))),(10,(.ownh T94 1010 48 true)),(37,(.val (.sl (.sl T94)))),(38,vI),(39,vI)]
def uI:St → Option Out:=xO8 [(3,(.box T45 (.val T45))),(11,vI),(37,(.val (.sl (.sl T94)))),(38,vI),(39,vI),(50,(.val (.sl T94))),(51,vI)] [(10,(.ownh T94 1010 48 true)),(52,vI)] wB xY5 wH0 fun y x=>[ex 1 (some (tK8 y x)) tK9 ((vL0 y x),(uH8 y x),()),ex 6 (some (vZ7 y x)) tL (y.1,(uH9 y x),y.2.2.1,y.2.2.2.1,y.2.2.2.2.1,())]
abbrev wA3:Type:=(D45 × (List (List D94)) × Int × Unit)
abbrev xZ1:Type:=((List (List D94)) × Int × Unit)
def vH9 (y:wA3) (x:xZ1):Prop × Bool × xZ1 × Bool × Bool :=
 let a37:=y.2.1
 let a38:=y.2.2.1
 let a10:=x.1
 let a39:=x.2.1
 let v40:=(decide (a39 < a38))
 let v42:=(nth a37 a39 ([]:List D94))
 let v47:=(len v42)
 let y18:=(y.1,a39,a37,a38,a39,v42,(len v42),())
 let x18:=(((List.set a10 (Int.toNat a39) (List.replicate (Int.toNat v47) Z94)),(Int.toNat a39)),(0:Int),())
 let e18:=(zB9 (wB y18) (xY5 y18) x18)
 let q18_6:=(vZ7 y18 e18)
 ((v40 = true → (InB a39 (len a37) ∧ ((0 ≤ v47 ∧ v47 ≤ v47 ∧ v47 ≤ 4294967296) ∧ (InB a39 (len a10) ∧ (a39 < len a10 ∧ ((Am.Ends (wB y18) (xY5 y18) (wH0 y18) x18) ∧ (q18_6 = true → InR (a39 + 1)))))))),(v40 && q18_6),((uH9 y18 e18).1,(a39 + 1),()),(v40 && (tK8 y18 e18)),(!v40))
def wL (y:wA3) (x:xZ1):Prop:=(vH9 y x).1
def wO4 (y:wA3) (x:xZ1):Bool:=(vH9 y x).2.1
def wB7 (y:wA3) (x:xZ1):xZ1:=(vH9 y x).2.2.1
def vZ8 (y:wA3) (x:xZ1):Bool:=(vH9 y x).2.2.2.1
def rA9 (y:wA3) (x:xZ1):Bool:=(vH9 y x).2.2.2.2
instance (y:wA3) (x:xZ1):Decidable (wL y x):=by
 unfold wL vH9
 try dsimp only
 infer_instance
def vL1 (y:wA3) (x:xZ1):(List (List D94)) :=
 let a37:=y.2.1
 let a39:=x.2.1
 let v42:=(nth a37 a39 ([]:List D94))
 let y18:=(y.1,a39,a37,y.2.2.1,a39,v42,(len v42),())
 (vL0 y18 (zB9 (wB y18) (xY5 y18) (((List.set x.1 (Int.toNat a39) (List.replicate (Int.toNat (len v42)) Z94)),(Int.toNat a39)),(0:Int),())))
def uI0 (y:wA3) (x:xZ1):Int :=
 let a37:=y.2.1
 let a39:=x.2.1
 let v42:=(nth a37 a39 ([]:List D94))
 let y18:=(y.1,a39,a37,y.2.2.1,a39,v42,(len v42),())
 (uH8 y18 (zB9 (wB y18) (xY5 y18) (((List.set x.1 (Int.toNat a39) (List.replicate (Int.toNat (len v42)) Z94)),(Int.toNat a39)),(0:Int),())))
def tL0:List (Nat × Sh):=[(4,(.own (.sl T94) 0 false)),(5,vI)]
def vL2 (y:wA3) (x:xZ1):(List (List D94)) :=
 x.1
def tL1:List (Nat × Sh):=[(10,(.own (.sl T94) 1010 true))]
def uI1:St → Option Out:=xO8 [(3,(.box T45 (.val T45))),(37,(.val (.sl (.sl T94)))),(38,vI)] [(10,(.own (.sl T94) 1010 true)),(39,vI)] wO4 wB7 wL fun y x=>[ex 1 (some (vZ8 y x)) tL0 ((vL1 y x),(uI0 y x),()),ex 4 (some (rA9 y x)) tL1 ((vL2 y x),())]
def pE3 (p0:(List (List D94))) (p1:D45):Prop × ((List (List D94)) × Int × Unit) :=
 let v17:=(f77 p1)
 let v19:=(v17 != 0)
 let y6:=(p0,p1,p0,(len p0),())
 let x6:=((0:Int),(0:Int),())
 let e6:=(zB9 (vP6 y6) (wT1 y6) x6)
 let q6_1:=(uO1 y6 e6)
 let v35:=(len p0)
 let y14:=(p1,p0,(len p0),())
 let x14:=((List.replicate (Int.toNat v35) ([]:List D94)),(0:Int),())
 let e14:=(zB9 (wO4 y14) (wB7 y14) x14)
 let q14_1:=(vZ8 y14 e14)
 (((vX0 p1) ∧ ((!v19) = true → ((Am.Ends (vP6 y6) (wT1 y6) (wX2 y6) x6) ∧ ((tW3 y6 e6) = true → ((0 ≤ v35 ∧ v35 ≤ v35 ∧ v35 ≤ 4294967296) ∧ (Am.Ends (wO4 y14) (wB7 y14) (wL y14) x14)))))),((bif v19 then [] else (bif q6_1 then (vP7 y6 e6) else (bif q14_1 then (vL1 y14 e14) else (vL2 y14 e14)))),(bif v19 then v17 else (bif q6_1 then (uW0 y6 e6) else (bif q14_1 then (uI0 y14 e14) else (0:Int)))),()))
def tL2 (p0:(List (List D94))) (p1:D45):Prop:=(pE3 p0 p1).1
def f120 (p0:(List (List D94))) (p1:D45):((List (List D94)) × Int × Unit):=(pE3 p0 p1).2
instance (p0:(List (List D94))) (p1:D45):Decidable (tL2 p0 p1):=by
 unfold tL2 pE3
 try dsimp only
 infer_instance
def sP6:Am.Spec:=fnSpec [(0,(.val (.sl (.sl T94)))),(1,(.val T45))] (.tup (.cons (.val (.sl (.sl T94))) (.cons vI .nl))) [] (fun x=>tL2 x.1 x.2.1) (fun x=>f120 x.1 x.2.1) (fun _=>())
def tA0:Ctx:=Cx tys [(77,uC8),(130,tF4),(131,uD0)] [(6,uW1),(18,uI),(14,uI1)] [(25,[(4,0,36,1010)]),(54,[(1,10,0,0)]),(57,[(1,4,0,0),(4,0,1010,0)])] false 74 [] [36,48]
theorem tA1:CtxOk Tryz.prog tA0:=xV6 tys_ok rfl ⟨rJ6,qF,sX7,trivial⟩ rfl (by kernel_rfl)
noncomputable def sP7:Code:=Tryz.f120.body.getD .skip
noncomputable def qH7:Code:=xW5 sP7 0
theorem rX6:yU1 Tryz.prog tA0 qH7:=xX3 tA1 mixed (sp:=uW1) rfl [tW4,tW5] (bs:=[]) (by kernel_rfl) trivial (by kernel_rfl) (by kernel_rfl) fun y x=>by kernel_rfl
noncomputable def sE1:Code:=xW5 sP7 1
noncomputable def rM7:Code:=xW5 sE1 0
theorem rB:yU1 Tryz.prog tA0 rM7:=xX3 tA1 mixed (sp:=uI) rfl [tK9,tL] (bs:=[]) (by kernel_rfl) trivial (by kernel_rfl) (by kernel_rfl) fun y x=>by kernel_rfl
theorem rB0:yU1 Tryz.prog tA0 sE1:=xX3 tA1 mixed (sp:=uI1) rfl [tL0,tL1] (bs:=[rM7]) (by kernel_rfl) ⟨rB,trivial⟩ (by kernel_rfl) (by kernel_rfl) fun y x=>by kernel_rfl
theorem oK3:SpecOk Tryz.prog 120 sP6:=xX4 tA1 mixed Tryz.func120 (by kernel_rfl) (bs:=[qH7,sE1]) (by kernel_rfl) ⟨rX6,rB0,trivial⟩ fun x=>by kernel_rfl
def pE4 (p0:D57):Prop × Int :=
 let v14:=(f118 f119 p0.2.2.2.2.2.2.2.2.2.2.2.2.2.2.2.2.2.2.2.2.2.2.2.1 p0.2.2.2.2.2.2.2.2.2.2.2.2.2.2.2.2.2.2.2.2.2.2.2.2.1 p0.2.2.2.2.2.2.2.2.2.2.2.2.2.2.2.2.2.2.2.2.2.2.2.2.2.1)
 let v18:=(v14.2.1 != 0)
 let v24:=(f120 v14.1 p0.2.2.2.2.2.2.2.2.2.2.1)
 let v28:=(v24.2.1 != 0)
 let v31:=(f117 v24.1 (0:Int))
 let v33:=(v31 != 0)
 ((tK7 ∧ ((tK0 f119 p0.2.2.2.2.2.2.2.2.2.2.2.2.2.2.2.2.2.2.2.2.2.2.2.1 p0.2.2.2.2.2.2.2.2.2.2.2.2.2.2.2.2.2.2.2.2.2.2.2.2.1 p0.2.2.2.2.2.2.2.2.2.2.2.2.2.2.2.2.2.2.2.2.2.2.2.2.2.1) ∧ ((!v18) = true → ((tL2 v14.1 p0.2.2.2.2.2.2.2.2.2.2.1) ∧ ((!v28) = true → ((vZ2 v24.1 (0:Int)) ∧ ((!v33) = true → (tE6 p0.2.2.2.2.2.2.2.2.2.2.2.2.2.1)))))))),(bif v18 then v14.2.1 else (bif v28 then v24.2.1 else (bif v33 then v31 else (f99 p0.2.2.2.2.2.2.2.2.2.2.2.2.2.1)))))
def uO2 (p0:D57):Prop:=(pE4 p0).1
def f102 (p0:D57):Int:=(pE4 p0).2
instance (p0:D57):Decidable (uO2 p0):=by
 unfold uO2 pE4
 try dsimp only
 infer_instance
def sP8:Am.Spec:=fnSpec [(0,(.val T57))] vI [] (fun x=>uO2 x.1) (fun x=>f102 x.1) (fun _=>())
def pE5:Ctx:=Cx tys [(99,uY9),(117,uE0),(118,sP),(119,sP5),(120,sP6)] [] [(3,[(4,0,14,1003)])] false 38 [] []
theorem pE6:CtxOk Tryz.prog pE5:=xV6 tys_ok rfl ⟨qE2,sY5,oJ1,oK2,oK3,trivial⟩ rfl (by kernel_rfl)
theorem oK4:SpecOk Tryz.prog 102 sP8:=xX4 pE6 mixed Tryz.func102 (by kernel_rfl) (bs:=[]) (by kernel_rfl) trivial fun x=>by kernel_rfl
def rX7 (p0:Int) (p1:Int):Prop × Bool :=
 let v7:=(p0 == 2)
 let v11:=(p0 == 3)
 let v24:=(p0 == 4)
 let m23:=(bif v24 then v24 else (p0 == 11))
 let v29:=(p0 == 5)
 let m28:=(bif v29 then v29 else (p0 == 9))
 let v34:=(p0 == 6)
 let m33:=(bif v34 then v34 else (p0 == 7))
 let m4_3:=(bif v11 then (bif (bif (decide (p1 ≥ 4)) then (decide (p1 ≤ 16)) else false) then ((Int.tmod p1 (2:Int)) == 0) else false) else (bif m23 then (p1 == 2) else (bif m28 then (p1 == 3) else (bif m33 then (p1 == 1) else (p1 == 9)))))
 (True,(bif (bif v7 then true else (bif v11 then true else (bif m23 then true else (bif m28 then true else (bif m33 then true else (p0 == 8)))))) then (bif v7 then (p1 == 5) else m4_3) else (p1 == 0)))
def tL3 (p0:Int) (p1:Int):Prop:=(rX7 p0 p1).1
def f121 (p0:Int) (p1:Int):Bool:=(rX7 p0 p1).2
instance (p0:Int) (p1:Int):Decidable (tL3 p0 p1):=by
 unfold tL3 rX7
 try dsimp only
 infer_instance
def sP9:Am.Spec:=fnSpec [(0,vI),(1,vI)] vB [] (fun x=>tL3 x.1 x.2.1) (fun x=>f121 x.1 x.2.1) (fun _=>())
def pE7:Ctx:=Cx tys [] [] [] false 44 [] []
theorem pE8:CtxOk Tryz.prog pE7:=xV6 tys_ok rfl trivial rfl (by kernel_rfl)
theorem oK5:SpecOk Tryz.prog 121 sP9:=xX4 pE8 mixed Tryz.func121 (by kernel_rfl) (bs:=[]) (by kernel_rfl) trivial fun x=>by kernel_rfl
def oK6 (p0:Int) (p1:Int):Prop × (Int × Int × Unit) :=
 let v12:=(bif (p0 == 2) then (p1 == 2) else false)
 let v15:=(p0 == 4)
 let v21:=(bif (p0 == 5) then (decide (p1 > 0)) else false)
 let m13_1:=(bif v15 then v15 else (bif v21 then v21 else (bif (p0 == 11) then (p1 == 1) else false)))
 let v30:=(p0 == 5)
 let v33:=(p0 == 7)
 let v36:=(p0 == 8)
 let c_8:=(bif v12 then true else (bif m13_1 then true else (bif v30 then true else (bif v33 then true else (bif v36 then true else (p0 == 11))))))
 let m4_5:=(bif c_8 then (bif v12 then (1:Int) else (bif m13_1 then (-65535:Int) else (bif v30 then (-32768:Int) else (bif v33 then (2:Int) else (bif v36 then (-262140:Int) else (-128:Int)))))) else (0:Int))
 let m5_5:=(bif c_8 then (bif v12 then (256:Int) else (bif m13_1 then (65535:Int) else (bif v30 then (32768:Int) else (bif v33 then (256:Int) else (bif v36 then (262140:Int) else (128:Int)))))) else (65535:Int))
 (True,(m4_5,m5_5,()))
def tL4 (p0:Int) (p1:Int):Prop:=(oK6 p0 p1).1
def f142 (p0:Int) (p1:Int):(Int × Int × Unit):=(oK6 p0 p1).2
instance (p0:Int) (p1:Int):Decidable (tL4 p0 p1):=by
 unfold tL4 oK6
 try dsimp only
 infer_instance
def sQ:Am.Spec:=fnSpec [(0,vI),(1,vI)] (.tup (.cons vI (.cons vI .nl))) [] (fun x=>tL4 x.1 x.2.1) (fun x=>f142 x.1 x.2.1) (fun _=>())
def pE9:Ctx:=Cx tys [] [] [] false 40 [] []
theorem pF:CtxOk Tryz.prog pE9:=xV6 tys_ok rfl trivial rfl (by kernel_rfl)
theorem oK7:SpecOk Tryz.prog 142 sQ:=xX4 pF mixed Tryz.func142 (by kernel_rfl) (bs:=[]) (by kernel_rfl) trivial fun x=>by kernel_rfl
abbrev wT2:Type:=(Int × (List Int) × (List D91) × (List Int) × Int × Unit)
abbrev wJ8:Type:=(Int × Unit)
def vU5 (y:wT2) (x:wJ8):Prop × Bool × wJ8 × Bool × Bool :=
 let a0:=y.1
 let a13:=y.2.2.2.1
 let a15:=x.1
 let v16:=(decide (a15 < y.2.2.2.2.1))
 let v18:=(nth a13 a15 (0:Int))
 let v23:=(f142 a0 a15)
 let v33:=(bif (decide (v18 < v23.1)) then true else (decide (v18 > v23.2.1)))
 ((v16 = true → (InB a15 (len a13) ∧ ((tL4 a0 a15) ∧ ((!v33) = true → InR (a15 + 1))))),(v16 && (!v33)),((a15 + 1),()),(v16 && v33),(!v16))
def vU6 (y:wT2) (x:wJ8):Prop:=(vU5 y x).1
def tL5 (y:wT2) (x:wJ8):Bool:=(vU5 y x).2.1
def vP8 (y:wT2) (x:wJ8):wJ8:=(vU5 y x).2.2.1
def tW6 (y:wT2) (x:wJ8):Bool:=(vU5 y x).2.2.2.1
def tW7 (y:wT2) (x:wJ8):Bool:=(vU5 y x).2.2.2.2
instance (y:wT2) (x:wJ8):Decidable (vU6 y x):=by
 unfold vU6 vU5
 try dsimp only
 infer_instance
def uW2 (y:wT2) (x:wJ8):Bool :=
 false
def tW8:List (Nat × Sh):=[(0,vI),(1,(.val (.sl (.int .i64)))),(2,(.val (.sl T91)))]
def uW3:St → Option Out:=xO8 [(0,vI),(1,(.val (.sl (.int .i64)))),(2,(.val (.sl T91))),(13,(.val (.sl (.int .i64)))),(14,vI)] [(15,vI)] tL5 vP8 vU6 fun y x=>[ex 1 (some (tW6 y x)) [(6,vB)] ((uW2 y x),()),ex 2 (some (tW7 y x)) tW8 (y.1,y.2.1,y.2.2.1,())]
abbrev wM2:Type:=((List D91) × Int × Unit)
abbrev wF5:Type:=(Int × Unit)
def vI0 (y:wM2) (x:wF5):Prop × Bool × wF5 × Bool × Bool :=
 let a55:=y.1
 let a57:=x.1
 let v58:=(decide (a57 < y.2.1))
 let v59:=(nth a55 a57 Z91)
 let v68:=(bif (decide (v59.1 < 0)) then true else (decide (v59.1 > 65535)))
 let v74:=(bif v68 then true else (!(f85 v59.2.1)))
 ((v58 = true → (InB a57 (len a55) ∧ (((!v68) = true → (uR4 v59.2.1)) ∧ ((!v74) = true → InR (a57 + 1))))),(v58 && (!v74)),((a57 + 1),()),(v58 && v74),(!v58))
def vL3 (y:wM2) (x:wF5):Prop:=(vI0 y x).1
def uO3 (y:wM2) (x:wF5):Bool:=(vI0 y x).2.1
def vL4 (y:wM2) (x:wF5):wF5:=(vI0 y x).2.2.1
def tL6 (y:wM2) (x:wF5):Bool:=(vI0 y x).2.2.2.1
def rB1 (y:wM2) (x:wF5):Bool:=(vI0 y x).2.2.2.2
instance (y:wM2) (x:wF5):Decidable (vL3 y x):=by
 unfold vL3 vI0
 try dsimp only
 infer_instance
def uI2 (y:wM2) (x:wF5):Bool :=
 false
def uI3:St → Option Out:=xO8 [(55,(.val (.sl T91))),(56,vI)] [(57,vI)] uO3 vL4 vL3 fun y x=>[ex 1 (some (tL6 y x)) [(6,vB)] ((uI2 y x),()),ex 4 (some (rB1 y x)) [] ()]
def oK8 (p0:Int) (p1:(List Int)) (p2:(List D91)):Prop × Bool :=
 let y2:=(p0,p1,p2,p1,(len p1),())
 let x2:=((0:Int),())
 let e2:=(zB9 (tL5 y2) (vP8 y2) x2)
 let v36:=(p0 == 9)
 let v42:=(bif v36 then ((nth p1 (0:Int) (0:Int)) == 0) else false)
 let v48:=(bif v42 then ((nth p1 (1:Int) (0:Int)) == 0) else false)
 let v54:=(bif v48 then ((nth p1 (2:Int) (0:Int)) == 0) else false)
 let y11:=(p2,(len p2),())
 let x11:=((0:Int),())
 let e11:=(zB9 (uO3 y11) (vL4 y11) x11)
 (((Am.Ends (tL5 y2) (vP8 y2) (vU6 y2) x2) ∧ ((tW7 y2 e2) = true → ((v36 = true → InB (0:Int) (len p1)) ∧ ((v42 = true → InB (1:Int) (len p1)) ∧ ((v48 = true → InB (2:Int) (len p1)) ∧ ((!v54) = true → (Am.Ends (uO3 y11) (vL4 y11) (vL3 y11) x11))))))),(bif (tW6 y2 e2) then (uW2 y2 e2) else (bif v54 then false else (bif (tL6 y11 e11) then (uI2 y11 e11) else true))))
def tL7 (p0:Int) (p1:(List Int)) (p2:(List D91)):Prop:=(oK8 p0 p1 p2).1
def f122 (p0:Int) (p1:(List Int)) (p2:(List D91)):Bool:=(oK8 p0 p1 p2).2
instance (p0:Int) (p1:(List Int)) (p2:(List D91)):Decidable (tL7 p0 p1 p2):=by
 unfold tL7 oK8
 try dsimp only
 infer_instance
def sQ0:Am.Spec:=fnSpec [(0,vI),(1,(.val (.sl (.int .i64)))),(2,(.val (.sl T91)))] vB [] (fun x=>tL7 x.1 x.2.1 x.2.2.1) (fun x=>f122 x.1 x.2.1 x.2.2.1) (fun _=>())
def sE2:Ctx:=Cx tys [(85,uC9),(142,sQ)] [(2,uW3),(11,uI3)] [] false 76 [] []
theorem sE3:CtxOk Tryz.prog sE2:=xV6 tys_ok rfl ⟨rK,oK7,trivial⟩ rfl (by kernel_rfl)
noncomputable def sQ1:Code:=Tryz.f122.body.getD .skip
noncomputable def qH8:Code:=xW5 sQ1 0
theorem rX8:yU1 Tryz.prog sE2 qH8:=xX3 sE3 mixed (sp:=uW3) rfl [[(6,vB)],tW8] (bs:=[]) (by kernel_rfl) trivial (by kernel_rfl) (by kernel_rfl) fun y x=>by kernel_rfl
noncomputable def rM8:Code:=xW5 sQ1 1
theorem rB2:yU1 Tryz.prog sE2 rM8:=xX3 sE3 mixed (sp:=uI3) rfl [[(6,vB)],[]] (bs:=[]) (by kernel_rfl) trivial (by kernel_rfl) (by kernel_rfl) fun y x=>by kernel_rfl
theorem oK9:SpecOk Tryz.prog 122 sQ0:=xX4 sE3 mixed Tryz.func122 (by kernel_rfl) (bs:=[qH8,rM8]) (by kernel_rfl) ⟨rX8,rB2,trivial⟩ fun x=>by kernel_rfl
abbrev wT3:Type:=((List Int) × (List D91) × Unit)
abbrev wJ9:Type:=(Int × Unit)
def vU7 (y:wT3) (x:wJ9):Prop × Bool × wJ9 × Bool × Bool :=
 let a1:=y.1
 let a7:=x.1
 let v25:=(decide (a7 < (len a1)))
 let v34:=(a7 - 2)
 let v37:=(decide ((nth a1 a7 (0:Int)) ≤ (nth a1 v34 (0:Int))))
 ((v25 = true → (InB a7 (len a1) ∧ (InR (a7 - 2) ∧ (InB v34 (len a1) ∧ ((!v37) = true → InR (a7 + 2)))))),(v25 && (!v37)),((a7 + 2),()),(v25 && v37),(!v25))
def vU8 (y:wT3) (x:wJ9):Prop:=(vU7 y x).1
def tL8 (y:wT3) (x:wJ9):Bool:=(vU7 y x).2.1
def vP9 (y:wT3) (x:wJ9):wJ9:=(vU7 y x).2.2.1
def tW9 (y:wT3) (x:wJ9):Bool:=(vU7 y x).2.2.2.1
def tX (y:wT3) (x:wJ9):Bool:=(vU7 y x).2.2.2.2
instance (y:wT3) (x:wJ9):Decidable (vU8 y x):=by
 unfold vU8 vU7
 try dsimp only
 infer_instance
def uW4 (y:wT3) (x:wJ9):Bool :=
 false
def uW5:St → Option Out:=xO8 [(1,(.val (.sl (.int .i64)))),(2,(.val (.sl T91)))] [(7,vI)] tL8 vP9 vU8 fun y x=>[ex 1 (some (tW9 y x)) [(6,vB)] ((uW4 y x),()),ex 2 (some (tX y x)) [(2,(.val (.sl T91)))] (y.2.1,())]
abbrev wM3:Type:=((List D91) × Unit)
abbrev wF6:Type:=(Int × Unit)
def vI1 (y:wM3) (x:wF6):Prop × Bool × wF6 × Bool × Bool :=
 let a2:=y.1
 let a8:=x.1
 let v41:=(decide (a8 < (len a2)))
 let v51:=(a8 - 1)
 let v55:=(decide ((nth a2 a8 Z91).1 ≤ (nth a2 v51 Z91).1))
 ((v41 = true → (InB a8 (len a2) ∧ (InR (a8 - 1) ∧ (InB v51 (len a2) ∧ ((!v55) = true → InR (a8 + 1)))))),(v41 && (!v55)),((a8 + 1),()),(v41 && v55),(!v41))
def wZ3 (y:wM3) (x:wF6):Prop:=(vI1 y x).1
def vU9 (y:wM3) (x:wF6):Bool:=(vI1 y x).2.1
def wV (y:wM3) (x:wF6):wF6:=(vI1 y x).2.2.1
def tL9 (y:wM3) (x:wF6):Bool:=(vI1 y x).2.2.2.1
def rB3 (y:wM3) (x:wF6):Bool:=(vI1 y x).2.2.2.2
instance (y:wM3) (x:wF6):Decidable (wZ3 y x):=by
 unfold wZ3 vI1
 try dsimp only
 infer_instance
def uI4 (y:wM3) (x:wF6):Bool :=
 false
def uI5:St → Option Out:=xO8 [(2,(.val (.sl T91)))] [(8,vI)] vU9 wV wZ3 fun y x=>[ex 1 (some (tL9 y x)) [(6,vB)] ((uI4 y x),()),ex 4 (some (rB3 y x)) [] ()]
def oL (p0:Int) (p1:(List Int)) (p2:(List D91)):Prop × Bool :=
 let v10:=(p0 == 2)
 let v19:=(bif v10 then (decide ((nth p1 (1:Int) (0:Int)) ≤ (nth p1 (0:Int) (0:Int)))) else false)
 let v21:=(p0 == 3)
 let y5:=(p1,p2,())
 let x5:=((2:Int),())
 let e5:=(zB9 (tL8 y5) (vP9 y5) x5)
 let y10:=((bif v21 then p2 else p2),())
 let x10:=((1:Int),())
 let e10:=(zB9 (vU9 y10) (wV y10) x10)
 (((v10 = true → InB (1:Int) (len p1)) ∧ ((v10 = true → InB (0:Int) (len p1)) ∧ ((!v19) = true → ((v21 = true → (Am.Ends (tL8 y5) (vP9 y5) (vU8 y5) x5)) ∧ ((bif v21 then (tX y5 e5) else true) = true → (Am.Ends (vU9 y10) (wV y10) (wZ3 y10) x10)))))),(bif v19 then false else (bif ((tW9 y5 e5) && v21) then (uW4 y5 e5) else (bif (tL9 y10 e10) then (uI4 y10 e10) else true))))
def tM (p0:Int) (p1:(List Int)) (p2:(List D91)):Prop:=(oL p0 p1 p2).1
def f123 (p0:Int) (p1:(List Int)) (p2:(List D91)):Bool:=(oL p0 p1 p2).2
instance (p0:Int) (p1:(List Int)) (p2:(List D91)):Decidable (tM p0 p1 p2):=by
 unfold tM oL
 try dsimp only
 infer_instance
def sQ2:Am.Spec:=fnSpec [(0,vI),(1,(.val (.sl (.int .i64)))),(2,(.val (.sl T91)))] vB [] (fun x=>tM x.1 x.2.1 x.2.2.1) (fun x=>f123 x.1 x.2.1 x.2.2.1) (fun _=>())
def sE4:Ctx:=Cx tys [] [(5,uW5),(10,uI5)] [] false 56 [] []
theorem sE5:CtxOk Tryz.prog sE4:=xV6 tys_ok rfl trivial rfl (by kernel_rfl)
noncomputable def sQ3:Code:=Tryz.f123.body.getD .skip
noncomputable def qH9:Code:=xW5 sQ3 0
theorem rX9:yU1 Tryz.prog sE4 qH9:=xX3 sE5 mixed (sp:=uW5) rfl [[(6,vB)],[(2,(.val (.sl T91)))]] (bs:=[]) (by kernel_rfl) trivial (by kernel_rfl) (by kernel_rfl) fun y x=>by kernel_rfl
noncomputable def rM9:Code:=xW5 sQ3 1
theorem rB4:yU1 Tryz.prog sE4 rM9:=xX3 sE5 mixed (sp:=uI5) rfl [[(6,vB)],[]] (bs:=[]) (by kernel_rfl) trivial (by kernel_rfl) (by kernel_rfl) fun y x=>by kernel_rfl
theorem oL0:SpecOk Tryz.prog 123 sQ2:=xX4 sE5 mixed Tryz.func123 (by kernel_rfl) (bs:=[qH9,rM9]) (by kernel_rfl) ⟨rX9,rB4,trivial⟩ fun x=>by kernel_rfl
def oL1 (p0:Int) (p1:(List Int)) (p2:(List D91)):Prop × Int :=
 let v13:=(bif (decide (p0 < 1)) then true else (decide (p0 > 11)))
 let v17:=(len p1)
 let v27:=(bif (!(f121 p0 v17)) then true else (!(Ty.eqb .bool (decide ((len p2) > 0)) (p0 == 10))))
 let v31:=(decide ((len p2) > 16))
 let v37:=(!(f122 p0 p1 p2))
 let m6_4:=(bif (bif v13 then true else (bif v27 then true else (bif v31 then true else (bif v37 then true else (!(f123 p0 p1 p2)))))) then (bif v13 then (8:Int) else (bif v27 then (1:Int) else (bif v31 then (3:Int) else (bif v37 then (2:Int) else (24:Int))))) else (0:Int))
 ((v13 = false → ((tL3 p0 v17) ∧ (v27 = false → (v31 = false → ((tL7 p0 p1 p2) ∧ (v37 = false → (tM p0 p1 p2))))))),m6_4)
def tM0 (p0:Int) (p1:(List Int)) (p2:(List D91)):Prop:=(oL1 p0 p1 p2).1
def f103 (p0:Int) (p1:(List Int)) (p2:(List D91)):Int:=(oL1 p0 p1 p2).2
instance (p0:Int) (p1:(List Int)) (p2:(List D91)):Decidable (tM0 p0 p1 p2):=by
 unfold tM0 oL1
 try dsimp only
 infer_instance
def sQ4:Am.Spec:=fnSpec [(0,vI),(1,(.val (.sl (.int .i64)))),(2,(.val (.sl T91)))] vI [] (fun x=>tM0 x.1 x.2.1 x.2.2.1) (fun x=>f103 x.1 x.2.1 x.2.2.1) (fun _=>())
def pF0:Ctx:=Cx tys [(121,sP9),(122,sQ0),(123,sQ2)] [] [] false 44 [] []
theorem pF1:CtxOk Tryz.prog pF0:=xV6 tys_ok rfl ⟨oK5,oK9,oL0,trivial⟩ rfl (by kernel_rfl)
theorem oL2:SpecOk Tryz.prog 103 sQ4:=xX4 pF1 mixed Tryz.func103 (by kernel_rfl) (bs:=[]) (by kernel_rfl) trivial fun x=>by kernel_rfl
def oL3 (p0:Int):Prop × (List D94) :=
 let v5:=(p0 == 1)
 let v6:=(p0 == 7)
 let m4_1:=(bif v5 then v5 else (bif v6 then v6 else (p0 == 8)))
 let v11:=(p0 == 2)
 let v15:=(p0 == 4)
 let v19:=(p0 == 3)
 let v24:=(p0 == 9)
 let m2_1:=(bif v19 then ([((0:Int),(16:Int),()),((0:Int),(262140:Int),())]:List D94) else (bif v24 then ([((-16:Int),(16:Int),()),((-16:Int),(16:Int),())]:List D94) else ([((1:Int),(16:Int),())]:List D94)))
 let m2_5:=(bif (bif m4_1 then true else (bif v11 then true else (bif v15 then true else (bif v19 then true else (bif v24 then true else (p0 == 10)))))) then (bif m4_1 then ([((0:Int),(16:Int),())]:List D94) else (bif v11 then ([((0:Int),(7:Int),())]:List D94) else (bif v15 then ([((0:Int),(4:Int),())]:List D94) else m2_1))) else [])
 (True,m2_5)
def tM1 (p0:Int):Prop:=(oL3 p0).1
def f124 (p0:Int):(List D94):=(oL3 p0).2
instance (p0:Int):Decidable (tM1 p0):=by
 unfold tM1 oL3
 try dsimp only
 infer_instance
def sQ5:Am.Spec:=fnSpec [(0,vI)] (.own T94 0 false) [] (fun x=>tM1 x.1) (fun x=>f124 x.1) (fun _=>())
def pF2:Ctx:=Cx tys [] [] [(11,[(4,0,9,0)]),(15,[(4,0,13,0)]),(19,[(4,0,17,0)]),(23,[(4,0,22,0)]),(27,[(4,0,27,0)]),(31,[(4,0,31,0)])] false 32 [] []
theorem pF3:CtxOk Tryz.prog pF2:=xV6 tys_ok rfl trivial rfl (by kernel_rfl)
theorem oL4:SpecOk Tryz.prog 124 sQ5:=xX4 pF3 mixed Tryz.func124 (by kernel_rfl) (bs:=[]) (by kernel_rfl) trivial fun x=>by kernel_rfl
abbrev wT4:Type:=((List D94) × (List Int) × Int × Unit)
abbrev wK:Type:=(Int × Unit)
def vV (y:wT4) (x:wK):Prop × Bool × wK × Bool × Bool :=
 let a5:=y.1
 let a21:=y.2.1
 let a23:=x.1
 let v24:=(decide (a23 < y.2.2.1))
 let v26:=(nth a21 a23 (0:Int))
 let v34:=(decide (v26 < (nth a5 a23 Z94).1))
 let v43:=(bif v34 then true else (decide (v26 > (nth a5 a23 Z94).2.1)))
 ((v24 = true → (InB a23 (len a21) ∧ (InB a23 (len a5) ∧ (((!v34) = true → InB a23 (len a5)) ∧ ((!v43) = true → InR (a23 + 1)))))),(v24 && (!v43)),((a23 + 1),()),(v24 && v43),(!v24))
def vV0 (y:wT4) (x:wK):Prop:=(vV y x).1
def tM2 (y:wT4) (x:wK):Bool:=(vV y x).2.1
def vQ (y:wT4) (x:wK):wK:=(vV y x).2.2.1
def tX0 (y:wT4) (x:wK):Bool:=(vV y x).2.2.2.1
def rY (y:wT4) (x:wK):Bool:=(vV y x).2.2.2.2
instance (y:wT4) (x:wK):Decidable (vV0 y x):=by
 unfold vV0 vV
 try dsimp only
 infer_instance
def uW6 (y:wT4) (x:wK):Int :=
 (2:Int)
def uW7:St → Option Out:=xO8 [(5,(.own T94 1005 false)),(21,(.val (.sl (.int .i64)))),(22,vI)] [(23,vI)] tM2 vQ vV0 fun y x=>[ex 1 (some (tX0 y x)) [(4,vI)] ((uW6 y x),()),ex 2 (some (rY y x)) [] ()]
def oL5 (p0:Int) (p1:(List Int)):Prop × Int :=
 let v13:=(bif (decide (p0 < 1)) then true else (decide (p0 > 10)))
 let v15:=(f124 p0)
 let v20:=((len p1) != (len v15))
 let y7:=(v15,p1,(len p1),())
 let x7:=((0:Int),())
 let e7:=(zB9 (tM2 y7) (vQ y7) x7)
 (((!v13) = true → ((tM1 p0) ∧ ((!v20) = true → (Am.Ends (tM2 y7) (vQ y7) (vV0 y7) x7)))),(bif v13 then (8:Int) else (bif v20 then (1:Int) else (bif (tX0 y7 e7) then (uW6 y7 e7) else (0:Int)))))
def tM3 (p0:Int) (p1:(List Int)):Prop:=(oL5 p0 p1).1
def f104 (p0:Int) (p1:(List Int)):Int:=(oL5 p0 p1).2
instance (p0:Int) (p1:(List Int)):Decidable (tM3 p0 p1):=by
 unfold tM3 oL5
 try dsimp only
 infer_instance
def sQ6:Am.Spec:=fnSpec [(0,vI),(1,(.val (.sl (.int .i64))))] vI [] (fun x=>tM3 x.1 x.2.1) (fun x=>f104 x.1 x.2.1) (fun _=>())
def rN:Ctx:=Cx tys [(124,sQ5)] [(7,uW7)] [(7,[(4,0,15,1005)])] false 45 [] []
theorem rN0:CtxOk Tryz.prog rN:=xV6 tys_ok rfl ⟨oL4,trivial⟩ rfl (by kernel_rfl)
noncomputable def qI:Code:=Tryz.f104.body.getD .skip
noncomputable def qI0:Code:=xW5 qI 0
theorem rY0:yU1 Tryz.prog rN qI0:=xX3 rN0 mixed (sp:=uW7) rfl [[(4,vI)],[]] (bs:=[]) (by kernel_rfl) trivial (by kernel_rfl) (by kernel_rfl) fun y x=>by kernel_rfl
theorem oL6:SpecOk Tryz.prog 104 sQ6:=xX4 rN0 mixed Tryz.func104 (by kernel_rfl) (bs:=[qI0]) (by kernel_rfl) ⟨rY0,trivial⟩ fun x=>by kernel_rfl
abbrev wT5:Type:=((List D94) × Int × Unit)
abbrev wK0:Type:=(Int × Unit)
def vV1 (y:wT5) (x:wK0):Prop × Bool × wK0 × Bool × Bool :=
 let a43:=y.1
 let a45:=x.1
 let v46:=(decide (a45 < y.2.1))
 let v47:=(nth a43 a45 Z94)
 let v66:=(bif (bif (bif (decide (v47.1 < (-1048576))) then true else (decide (v47.1 > 1048576))) then true else (decide (v47.2.1 < (-1048576)))) then true else (decide (v47.2.1 > 1048576)))
 ((v46 = true → (InB a45 (len a43) ∧ ((!v66) = true → InR (a45 + 1)))),(v46 && (!v66)),((a45 + 1),()),(v46 && v66),(!v46))
def vV2 (y:wT5) (x:wK0):Prop:=(vV1 y x).1
def tM4 (y:wT5) (x:wK0):Bool:=(vV1 y x).2.1
def vQ0 (y:wT5) (x:wK0):wK0:=(vV1 y x).2.2.1
def tX1 (y:wT5) (x:wK0):Bool:=(vV1 y x).2.2.2.1
def rY1 (y:wT5) (x:wK0):Bool:=(vV1 y x).2.2.2.2
instance (y:wT5) (x:wK0):Decidable (vV2 y x):=by
 unfold vV2 vV1
 try dsimp only
 infer_instance
def uW8 (y:wT5) (x:wK0):Int :=
 (2:Int)
def uW9:St → Option Out:=xO8 [(43,(.val (.sl T94))),(44,vI)] [(45,vI)] tM4 vQ0 vV2 fun y x=>[ex 1 (some (tX1 y x)) [(2,vI)] ((uW8 y x),()),ex 2 (some (rY1 y x)) [] ()]
def oL7 (p0:D55):Prop × Int :=
 let v22:=(bif (bif (bif (decide (p0.1 < 2)) then true else (decide (p0.1 > 8))) then true else (decide (p0.2.1 < 2))) then true else (decide (p0.2.1 > 8)))
 let v30:=(bif (decide (p0.2.2.1 < 1)) then true else (decide (p0.2.2.1 > 256)))
 let v41:=(bif v30 then true else ((len p0.2.2.2.1) != (p0.1 * p0.2.1)))
 let y6:=(p0.2.2.2.1,(len p0.2.2.2.1),())
 let x6:=((0:Int),())
 let e6:=(zB9 (tM4 y6) (vQ0 y6) x6)
 (((!v22) = true → (((!v30) = true → InR (p0.1 * p0.2.1)) ∧ ((!v41) = true → (Am.Ends (tM4 y6) (vQ0 y6) (vV2 y6) x6)))),(bif v22 then (15:Int) else (bif v41 then (15:Int) else (bif (tX1 y6 e6) then (uW8 y6 e6) else (0:Int)))))
def tM5 (p0:D55):Prop:=(oL7 p0).1
def f105 (p0:D55):Int:=(oL7 p0).2
instance (p0:D55):Decidable (tM5 p0):=by
 unfold tM5 oL7
 try dsimp only
 infer_instance
def sQ7:Am.Spec:=fnSpec [(0,(.val T55))] vI [] (fun x=>tM5 x.1) (fun x=>f105 x.1) (fun _=>())
def rN1:Ctx:=Cx tys [] [(6,uW9)] [] false 68 [] []
theorem rN2:CtxOk Tryz.prog rN1:=xV6 tys_ok rfl trivial rfl (by kernel_rfl)
noncomputable def qI1:Code:=Tryz.f105.body.getD .skip
noncomputable def qI2:Code:=xW5 qI1 0
theorem rY2:yU1 Tryz.prog rN1 qI2:=xX3 rN2 mixed (sp:=uW9) rfl [[(2,vI)],[]] (bs:=[]) (by kernel_rfl) trivial (by kernel_rfl) (by kernel_rfl) fun y x=>by kernel_rfl
theorem oL8:SpecOk Tryz.prog 105 sQ7:=xX4 rN2 mixed Tryz.func105 (by kernel_rfl) (bs:=[qI2]) (by kernel_rfl) ⟨rY2,trivial⟩ fun x=>by kernel_rfl
def f81t (p0:D57):Prop × Int :=
 let v6:=(p0.2.1 == 2)
 let v11:=(p0.2.1 == 3)
 let v16:=(p0.2.1 == 4)
 let v27:=(p0.2.1 == 5)
 let v31:=(p0.2.1 == 6)
 let v35:=(p0.2.1 == 7)
 let v44:=(p0.2.1 == 8)
 let v51:=(p0.2.1 == 9)
 let m50:=(bif v51 then v51 else (p0.2.1 == 10))
 let v62:=(p0.2.1 == 11)
 let c_2:=(bif v44 then true else (bif m50 then (bif (decide (p0.2.2.2.2.2.2.2.2.2.2.2.2.2.2.2.2.2.2.2.2.2.2.2.2.2.2.1 < 1)) then true else (decide (p0.2.2.2.2.2.2.2.2.2.2.2.2.2.2.2.2.2.2.2.2.2.2.2.2.2.2.1 > 1073741824))) else v62))
 let m2_2:=(bif v35 then (f103 p0.2.2.2.2.2.2.2.2.2.2.2.2.2.2.1 p0.2.2.2.2.2.2.2.2.2.2.2.2.2.2.2.1 p0.2.2.2.2.2.2.2.2.2.2.2.2.2.2.2.2.2.1) else (bif v44 then (f104 p0.2.2.2.2.2.2.2.2.2.2.2.2.2.2.1 p0.2.2.2.2.2.2.2.2.2.2.2.2.2.2.2.1) else (bif m50 then (2:Int) else (f105 p0.2.2.2.2.2.2.2.2.2.2.2.2.2.2.2.2.2.2.2.2.2.2.2.2.2.2.2.1))))
 let m2_5:=(bif v16 then (f100 p0.2.2.2.2.2.2.2.2.2.2.2.2.2.2.1 p0.2.2.2.2.2.2.2.2.2.2.2.2.2.2.2.1 p0.2.2.2.2.2.2.2.2.2.2.2.2.2.2.2.2.1 p0.2.2.2.2.2.2.2.2.2.2.2.2.2.2.2.2.2.1) else (bif v27 then (f101 p0) else (bif v31 then (f102 p0) else m2_2)))
 let m2_8:=(bif (bif v6 then true else (bif v11 then true else (bif v16 then true else (bif v27 then true else (bif v31 then true else (bif v35 then true else c_2)))))) then (bif v6 then (f58 p0.2.2.2.2.2.2.2.2.2.2.2.2.1) else (bif v11 then (f99 p0.2.2.2.2.2.2.2.2.2.2.2.2.2.1) else m2_5)) else (0:Int))
 (((v6 = true → (tU1 p0.2.2.2.2.2.2.2.2.2.2.2.2.1)) ∧ (v6 = false → ((v11 = true → (tE6 p0.2.2.2.2.2.2.2.2.2.2.2.2.2.1)) ∧ (v11 = false → ((v16 = true → (tF1 p0.2.2.2.2.2.2.2.2.2.2.2.2.2.2.1 p0.2.2.2.2.2.2.2.2.2.2.2.2.2.2.2.1 p0.2.2.2.2.2.2.2.2.2.2.2.2.2.2.2.2.1 p0.2.2.2.2.2.2.2.2.2.2.2.2.2.2.2.2.2.1)) ∧ (v16 = false → ((v27 = true → (tH9 p0)) ∧ (v27 = false → ((v31 = true → (uO2 p0)) ∧ (v31 = false → ((v35 = true → (tM0 p0.2.2.2.2.2.2.2.2.2.2.2.2.2.2.1 p0.2.2.2.2.2.2.2.2.2.2.2.2.2.2.2.1 p0.2.2.2.2.2.2.2.2.2.2.2.2.2.2.2.2.2.1)) ∧ (v35 = false → ((v44 = true → (tM3 p0.2.2.2.2.2.2.2.2.2.2.2.2.2.2.1 p0.2.2.2.2.2.2.2.2.2.2.2.2.2.2.2.1)) ∧ (v44 = false → (m50 = false → (v62 = true → (tM5 p0.2.2.2.2.2.2.2.2.2.2.2.2.2.2.2.2.2.2.2.2.2.2.2.2.2.2.2.1))))))))))))))))),m2_8)
def sQ8 (p0:D57):Prop:=(f81t p0).1
def f81 (p0:D57):Int:=(f81t p0).2
instance (p0:D57):Decidable (sQ8 p0):=by
 unfold sQ8 f81t
 try dsimp only
 infer_instance
def rN3:Am.Spec:=fnSpec [(0,(.val T57))] vI [] (fun x=>sQ8 x.1) (fun x=>f81 x.1) (fun _=>())
def oL9:Ctx:=Cx tys [(58,sB8),(99,uY9),(100,sM7),(101,sO3),(102,sP8),(103,sQ4),(104,sQ6),(105,sQ7)] [] [] false 66 [] []
theorem oM:CtxOk Tryz.prog oL9:=xV6 tys_ok rfl ⟨pR3,qE2,oE3,oI1,oK4,oL2,oL6,oL8,trivial⟩ rfl (by kernel_rfl)
theorem nA3:SpecOk Tryz.prog 81 rN3:=xX4 oM mixed Tryz.func81 (by kernel_rfl) (bs:=[]) (by kernel_rfl) trivial fun x=>by kernel_rfl
def f82t (p0:D57):Prop × Bool :=
 let v17:=(bif (bif (!(Ty.eqb T45 p0.2.2.2.2.2.2.2.2.2.2.1 ((0:Int),(0:Int),(0:Int),(0:Int),(0:Int),(0:Int),()))) then true else (p0.2.2.2.2.2.2.2.2.2.2.2.1 != 0)) then true else (!(Ty.eqb T50 p0.2.2.2.2.2.2.2.2.2.2.2.2.2.1 ((0:Int),(0:Int),(0:Int),(0:Int),()))))
 let v54:=(bif (bif (bif (p0.2.2.2.2.2.2.2.2.2.2.2.2.2.2.1 != 0) then true else ((len p0.2.2.2.2.2.2.2.2.2.2.2.2.2.2.2.1) != 0)) then true else (p0.2.2.2.2.2.2.2.2.2.2.2.2.2.2.2.2.1 != 0)) then true else ((len p0.2.2.2.2.2.2.2.2.2.2.2.2.2.2.2.2.2.1) != 0))
 let v73:=(bif (bif (bif ((len p0.2.2.2.2.2.2.2.2.2.2.2.2.2.2.2.2.2.2.1) != 0) then true else (p0.2.2.2.2.2.2.2.2.2.2.2.2.2.2.2.2.2.2.2.1 != 0)) then true else (p0.2.2.2.2.2.2.2.2.2.2.2.2.2.2.2.2.2.2.2.2.1 != 0)) then true else (p0.2.2.2.2.2.2.2.2.2.2.2.2.2.2.2.2.2.2.2.2.2.1 != 0))
 let v91:=(bif (bif (!(p0.2.2.2.2.2.2.2.2.2.2.2.2.2.2.2.2.2.2.2.2.2.2.2.1 == ([]:List UInt8))) then true else (p0.2.2.2.2.2.2.2.2.2.2.2.2.2.2.2.2.2.2.2.2.2.2.2.2.1 != 0)) then true else (p0.2.2.2.2.2.2.2.2.2.2.2.2.2.2.2.2.2.2.2.2.2.2.2.2.2.1 != 0))
 let v112:=(bif (bif (p0.2.2.2.2.2.2.2.2.2.2.2.2.2.2.2.2.2.2.2.2.2.2.2.2.2.2.2.1.1 == 0) then (p0.2.2.2.2.2.2.2.2.2.2.2.2.2.2.2.2.2.2.2.2.2.2.2.2.2.2.2.1.2.1 == 0) else false) then (p0.2.2.2.2.2.2.2.2.2.2.2.2.2.2.2.2.2.2.2.2.2.2.2.2.2.2.2.1.2.2.1 == 0) else false)
 let m2:=(bif (bif v91 then true else (p0.2.2.2.2.2.2.2.2.2.2.2.2.2.2.2.2.2.2.2.2.2.2.2.2.2.2.1 != 0)) then false else (bif v112 then ((len p0.2.2.2.2.2.2.2.2.2.2.2.2.2.2.2.2.2.2.2.2.2.2.2.2.2.2.2.1.2.2.2.1) == 0) else false))
 let m2_3:=(bif (bif (bif (p0.2.2.2.2.2.2.2.2.2.2.2.2.1.1 != 0) then true else (p0.2.2.2.2.2.2.2.2.2.2.2.2.1.2.1 != 0)) then true else ((len p0.2.2.2.2.2.2.2.2.2.2.2.2.1.2.2.1) != 0)) then false else (bif v54 then false else (bif (bif v73 then true else (p0.2.2.2.2.2.2.2.2.2.2.2.2.2.2.2.2.2.2.2.2.2.2.1 != 0)) then false else m2)))
 (True,(bif v17 then false else m2_3))
def sQ9 (p0:D57):Prop:=(f82t p0).1
def f82 (p0:D57):Bool:=(f82t p0).2
instance (p0:D57):Decidable (sQ9 p0):=by
 unfold sQ9 f82t
 try dsimp only
 infer_instance
def rN4:Am.Spec:=fnSpec [(0,(.val T57))] vB [] (fun x=>sQ9 x.1) (fun x=>f82 x.1) (fun _=>())
def oM0:Ctx:=Cx tys [] [] [] false 120 [] []
theorem oM1:CtxOk Tryz.prog oM0:=xV6 tys_ok rfl trivial rfl (by kernel_rfl)
theorem nA4:SpecOk Tryz.prog 82 rN4:=xX4 oM1 mixed Tryz.func82 (by kernel_rfl) (bs:=[]) (by kernel_rfl) trivial fun x=>by kernel_rfl
def f83t (p0:D57):Prop × D57 :=
 let s_1:=(p0.1,p0.2.1,p0.2.2.1,p0.2.2.2.1,p0.2.2.2.2.1,p0.2.2.2.2.2.1,p0.2.2.2.2.2.2.1,p0.2.2.2.2.2.2.2.1,p0.2.2.2.2.2.2.2.2.1,p0.2.2.2.2.2.2.2.2.2.1,((0:Int),(0:Int),(0:Int),(0:Int),(0:Int),(0:Int),()),p0.2.2.2.2.2.2.2.2.2.2.2.1,p0.2.2.2.2.2.2.2.2.2.2.2.2.1,p0.2.2.2.2.2.2.2.2.2.2.2.2.2.1,p0.2.2.2.2.2.2.2.2.2.2.2.2.2.2.1,p0.2.2.2.2.2.2.2.2.2.2.2.2.2.2.2.1,p0.2.2.2.2.2.2.2.2.2.2.2.2.2.2.2.2.1,p0.2.2.2.2.2.2.2.2.2.2.2.2.2.2.2.2.2.1,p0.2.2.2.2.2.2.2.2.2.2.2.2.2.2.2.2.2.2.1,p0.2.2.2.2.2.2.2.2.2.2.2.2.2.2.2.2.2.2.2.1,p0.2.2.2.2.2.2.2.2.2.2.2.2.2.2.2.2.2.2.2.2.1,p0.2.2.2.2.2.2.2.2.2.2.2.2.2.2.2.2.2.2.2.2.2.1,p0.2.2.2.2.2.2.2.2.2.2.2.2.2.2.2.2.2.2.2.2.2.2.1,p0.2.2.2.2.2.2.2.2.2.2.2.2.2.2.2.2.2.2.2.2.2.2.2.1,p0.2.2.2.2.2.2.2.2.2.2.2.2.2.2.2.2.2.2.2.2.2.2.2.2.1,p0.2.2.2.2.2.2.2.2.2.2.2.2.2.2.2.2.2.2.2.2.2.2.2.2.2.1,p0.2.2.2.2.2.2.2.2.2.2.2.2.2.2.2.2.2.2.2.2.2.2.2.2.2.2.1,p0.2.2.2.2.2.2.2.2.2.2.2.2.2.2.2.2.2.2.2.2.2.2.2.2.2.2.2.1,())
 let m1:=(bif (f76 p0.2.1) then s_1 else p0)
 let s_2:=(m1.1,m1.2.1,m1.2.2.1,m1.2.2.2.1,m1.2.2.2.2.1,m1.2.2.2.2.2.1,m1.2.2.2.2.2.2.1,m1.2.2.2.2.2.2.2.1,m1.2.2.2.2.2.2.2.2.1,m1.2.2.2.2.2.2.2.2.2.1,m1.2.2.2.2.2.2.2.2.2.2.1,(0:Int),m1.2.2.2.2.2.2.2.2.2.2.2.2.1,m1.2.2.2.2.2.2.2.2.2.2.2.2.2.1,m1.2.2.2.2.2.2.2.2.2.2.2.2.2.2.1,m1.2.2.2.2.2.2.2.2.2.2.2.2.2.2.2.1,m1.2.2.2.2.2.2.2.2.2.2.2.2.2.2.2.2.1,m1.2.2.2.2.2.2.2.2.2.2.2.2.2.2.2.2.2.1,m1.2.2.2.2.2.2.2.2.2.2.2.2.2.2.2.2.2.2.1,m1.2.2.2.2.2.2.2.2.2.2.2.2.2.2.2.2.2.2.2.1,m1.2.2.2.2.2.2.2.2.2.2.2.2.2.2.2.2.2.2.2.2.1,m1.2.2.2.2.2.2.2.2.2.2.2.2.2.2.2.2.2.2.2.2.2.1,m1.2.2.2.2.2.2.2.2.2.2.2.2.2.2.2.2.2.2.2.2.2.2.1,m1.2.2.2.2.2.2.2.2.2.2.2.2.2.2.2.2.2.2.2.2.2.2.2.1,m1.2.2.2.2.2.2.2.2.2.2.2.2.2.2.2.2.2.2.2.2.2.2.2.2.1,m1.2.2.2.2.2.2.2.2.2.2.2.2.2.2.2.2.2.2.2.2.2.2.2.2.2.1,m1.2.2.2.2.2.2.2.2.2.2.2.2.2.2.2.2.2.2.2.2.2.2.2.2.2.2.1,m1.2.2.2.2.2.2.2.2.2.2.2.2.2.2.2.2.2.2.2.2.2.2.2.2.2.2.2.1,())
 let m1_1:=(bif (f79 m1.2.1) then s_2 else m1)
 let s_4:=(m1_1.1,m1_1.2.1,m1_1.2.2.1,m1_1.2.2.2.1,m1_1.2.2.2.2.1,m1_1.2.2.2.2.2.1,m1_1.2.2.2.2.2.2.1,m1_1.2.2.2.2.2.2.2.1,m1_1.2.2.2.2.2.2.2.2.1,m1_1.2.2.2.2.2.2.2.2.2.1,m1_1.2.2.2.2.2.2.2.2.2.2.1,m1_1.2.2.2.2.2.2.2.2.2.2.2.1,((0:Int),(0:Int),([]:List D50),()),m1_1.2.2.2.2.2.2.2.2.2.2.2.2.2.1,m1_1.2.2.2.2.2.2.2.2.2.2.2.2.2.2.1,m1_1.2.2.2.2.2.2.2.2.2.2.2.2.2.2.2.1,m1_1.2.2.2.2.2.2.2.2.2.2.2.2.2.2.2.2.1,m1_1.2.2.2.2.2.2.2.2.2.2.2.2.2.2.2.2.2.1,m1_1.2.2.2.2.2.2.2.2.2.2.2.2.2.2.2.2.2.2.1,m1_1.2.2.2.2.2.2.2.2.2.2.2.2.2.2.2.2.2.2.2.1,m1_1.2.2.2.2.2.2.2.2.2.2.2.2.2.2.2.2.2.2.2.2.1,m1_1.2.2.2.2.2.2.2.2.2.2.2.2.2.2.2.2.2.2.2.2.2.1,m1_1.2.2.2.2.2.2.2.2.2.2.2.2.2.2.2.2.2.2.2.2.2.2.1,m1_1.2.2.2.2.2.2.2.2.2.2.2.2.2.2.2.2.2.2.2.2.2.2.2.1,m1_1.2.2.2.2.2.2.2.2.2.2.2.2.2.2.2.2.2.2.2.2.2.2.2.2.1,m1_1.2.2.2.2.2.2.2.2.2.2.2.2.2.2.2.2.2.2.2.2.2.2.2.2.2.1,m1_1.2.2.2.2.2.2.2.2.2.2.2.2.2.2.2.2.2.2.2.2.2.2.2.2.2.2.1,m1_1.2.2.2.2.2.2.2.2.2.2.2.2.2.2.2.2.2.2.2.2.2.2.2.2.2.2.2.1,())
 let s_6:=(m1_1.1,m1_1.2.1,m1_1.2.2.1,m1_1.2.2.2.1,m1_1.2.2.2.2.1,m1_1.2.2.2.2.2.1,m1_1.2.2.2.2.2.2.1,m1_1.2.2.2.2.2.2.2.1,m1_1.2.2.2.2.2.2.2.2.1,m1_1.2.2.2.2.2.2.2.2.2.1,m1_1.2.2.2.2.2.2.2.2.2.2.1,m1_1.2.2.2.2.2.2.2.2.2.2.2.1,m1_1.2.2.2.2.2.2.2.2.2.2.2.2.1,((0:Int),(0:Int),(0:Int),(0:Int),()),m1_1.2.2.2.2.2.2.2.2.2.2.2.2.2.2.1,m1_1.2.2.2.2.2.2.2.2.2.2.2.2.2.2.2.1,m1_1.2.2.2.2.2.2.2.2.2.2.2.2.2.2.2.2.1,m1_1.2.2.2.2.2.2.2.2.2.2.2.2.2.2.2.2.2.1,m1_1.2.2.2.2.2.2.2.2.2.2.2.2.2.2.2.2.2.2.1,m1_1.2.2.2.2.2.2.2.2.2.2.2.2.2.2.2.2.2.2.2.1,m1_1.2.2.2.2.2.2.2.2.2.2.2.2.2.2.2.2.2.2.2.2.1,m1_1.2.2.2.2.2.2.2.2.2.2.2.2.2.2.2.2.2.2.2.2.2.1,m1_1.2.2.2.2.2.2.2.2.2.2.2.2.2.2.2.2.2.2.2.2.2.2.1,m1_1.2.2.2.2.2.2.2.2.2.2.2.2.2.2.2.2.2.2.2.2.2.2.2.1,m1_1.2.2.2.2.2.2.2.2.2.2.2.2.2.2.2.2.2.2.2.2.2.2.2.2.1,m1_1.2.2.2.2.2.2.2.2.2.2.2.2.2.2.2.2.2.2.2.2.2.2.2.2.2.1,m1_1.2.2.2.2.2.2.2.2.2.2.2.2.2.2.2.2.2.2.2.2.2.2.2.2.2.2.1,m1_1.2.2.2.2.2.2.2.2.2.2.2.2.2.2.2.2.2.2.2.2.2.2.2.2.2.2.2.1,())
 let s_10:=(m1_1.1,m1_1.2.1,m1_1.2.2.1,m1_1.2.2.2.1,m1_1.2.2.2.2.1,m1_1.2.2.2.2.2.1,m1_1.2.2.2.2.2.2.1,m1_1.2.2.2.2.2.2.2.1,m1_1.2.2.2.2.2.2.2.2.1,m1_1.2.2.2.2.2.2.2.2.2.1,m1_1.2.2.2.2.2.2.2.2.2.2.1,m1_1.2.2.2.2.2.2.2.2.2.2.2.1,m1_1.2.2.2.2.2.2.2.2.2.2.2.2.1,m1_1.2.2.2.2.2.2.2.2.2.2.2.2.2.1,(0:Int),([]:List Int),(0:Int),([]:List D91),m1_1.2.2.2.2.2.2.2.2.2.2.2.2.2.2.2.2.2.2.1,m1_1.2.2.2.2.2.2.2.2.2.2.2.2.2.2.2.2.2.2.2.1,m1_1.2.2.2.2.2.2.2.2.2.2.2.2.2.2.2.2.2.2.2.2.1,m1_1.2.2.2.2.2.2.2.2.2.2.2.2.2.2.2.2.2.2.2.2.2.1,m1_1.2.2.2.2.2.2.2.2.2.2.2.2.2.2.2.2.2.2.2.2.2.2.1,m1_1.2.2.2.2.2.2.2.2.2.2.2.2.2.2.2.2.2.2.2.2.2.2.2.1,m1_1.2.2.2.2.2.2.2.2.2.2.2.2.2.2.2.2.2.2.2.2.2.2.2.2.1,m1_1.2.2.2.2.2.2.2.2.2.2.2.2.2.2.2.2.2.2.2.2.2.2.2.2.2.1,m1_1.2.2.2.2.2.2.2.2.2.2.2.2.2.2.2.2.2.2.2.2.2.2.2.2.2.2.1,m1_1.2.2.2.2.2.2.2.2.2.2.2.2.2.2.2.2.2.2.2.2.2.2.2.2.2.2.2.1,())
 let s_17:=(m1_1.1,m1_1.2.1,m1_1.2.2.1,m1_1.2.2.2.1,m1_1.2.2.2.2.1,m1_1.2.2.2.2.2.1,m1_1.2.2.2.2.2.2.1,m1_1.2.2.2.2.2.2.2.1,m1_1.2.2.2.2.2.2.2.2.1,m1_1.2.2.2.2.2.2.2.2.2.1,m1_1.2.2.2.2.2.2.2.2.2.2.1,m1_1.2.2.2.2.2.2.2.2.2.2.2.1,m1_1.2.2.2.2.2.2.2.2.2.2.2.2.1,((0:Int),(0:Int),(0:Int),(0:Int),()),m1_1.2.2.2.2.2.2.2.2.2.2.2.2.2.2.1,m1_1.2.2.2.2.2.2.2.2.2.2.2.2.2.2.2.1,m1_1.2.2.2.2.2.2.2.2.2.2.2.2.2.2.2.2.1,m1_1.2.2.2.2.2.2.2.2.2.2.2.2.2.2.2.2.2.1,([]:List D97),(0:Int),(0:Int),(0:Int),(0:Int),m1_1.2.2.2.2.2.2.2.2.2.2.2.2.2.2.2.2.2.2.2.2.2.2.2.1,m1_1.2.2.2.2.2.2.2.2.2.2.2.2.2.2.2.2.2.2.2.2.2.2.2.2.1,m1_1.2.2.2.2.2.2.2.2.2.2.2.2.2.2.2.2.2.2.2.2.2.2.2.2.2.1,m1_1.2.2.2.2.2.2.2.2.2.2.2.2.2.2.2.2.2.2.2.2.2.2.2.2.2.2.1,m1_1.2.2.2.2.2.2.2.2.2.2.2.2.2.2.2.2.2.2.2.2.2.2.2.2.2.2.2.1,())
 let s_22:=(m1_1.1,m1_1.2.1,m1_1.2.2.1,m1_1.2.2.2.1,m1_1.2.2.2.2.1,m1_1.2.2.2.2.2.1,m1_1.2.2.2.2.2.2.1,m1_1.2.2.2.2.2.2.2.1,m1_1.2.2.2.2.2.2.2.2.1,m1_1.2.2.2.2.2.2.2.2.2.1,m1_1.2.2.2.2.2.2.2.2.2.2.1,m1_1.2.2.2.2.2.2.2.2.2.2.2.1,m1_1.2.2.2.2.2.2.2.2.2.2.2.2.1,((0:Int),(0:Int),(0:Int),(0:Int),()),m1_1.2.2.2.2.2.2.2.2.2.2.2.2.2.2.1,m1_1.2.2.2.2.2.2.2.2.2.2.2.2.2.2.2.1,m1_1.2.2.2.2.2.2.2.2.2.2.2.2.2.2.2.2.1,m1_1.2.2.2.2.2.2.2.2.2.2.2.2.2.2.2.2.2.1,m1_1.2.2.2.2.2.2.2.2.2.2.2.2.2.2.2.2.2.2.1,m1_1.2.2.2.2.2.2.2.2.2.2.2.2.2.2.2.2.2.2.2.1,m1_1.2.2.2.2.2.2.2.2.2.2.2.2.2.2.2.2.2.2.2.2.1,m1_1.2.2.2.2.2.2.2.2.2.2.2.2.2.2.2.2.2.2.2.2.2.1,m1_1.2.2.2.2.2.2.2.2.2.2.2.2.2.2.2.2.2.2.2.2.2.2.1,([]:List UInt8),(0:Int),(0:Int),m1_1.2.2.2.2.2.2.2.2.2.2.2.2.2.2.2.2.2.2.2.2.2.2.2.2.2.2.1,m1_1.2.2.2.2.2.2.2.2.2.2.2.2.2.2.2.2.2.2.2.2.2.2.2.2.2.2.2.1,())
 let s_25:=(m1_1.1,m1_1.2.1,m1_1.2.2.1,m1_1.2.2.2.1,m1_1.2.2.2.2.1,m1_1.2.2.2.2.2.1,m1_1.2.2.2.2.2.2.1,m1_1.2.2.2.2.2.2.2.1,m1_1.2.2.2.2.2.2.2.2.1,m1_1.2.2.2.2.2.2.2.2.2.1,m1_1.2.2.2.2.2.2.2.2.2.2.1,m1_1.2.2.2.2.2.2.2.2.2.2.2.1,m1_1.2.2.2.2.2.2.2.2.2.2.2.2.1,m1_1.2.2.2.2.2.2.2.2.2.2.2.2.2.1,(0:Int),([]:List Int),m1_1.2.2.2.2.2.2.2.2.2.2.2.2.2.2.2.2.1,([]:List D91),m1_1.2.2.2.2.2.2.2.2.2.2.2.2.2.2.2.2.2.2.1,m1_1.2.2.2.2.2.2.2.2.2.2.2.2.2.2.2.2.2.2.2.1,m1_1.2.2.2.2.2.2.2.2.2.2.2.2.2.2.2.2.2.2.2.2.1,m1_1.2.2.2.2.2.2.2.2.2.2.2.2.2.2.2.2.2.2.2.2.2.1,m1_1.2.2.2.2.2.2.2.2.2.2.2.2.2.2.2.2.2.2.2.2.2.2.1,m1_1.2.2.2.2.2.2.2.2.2.2.2.2.2.2.2.2.2.2.2.2.2.2.2.1,m1_1.2.2.2.2.2.2.2.2.2.2.2.2.2.2.2.2.2.2.2.2.2.2.2.2.1,m1_1.2.2.2.2.2.2.2.2.2.2.2.2.2.2.2.2.2.2.2.2.2.2.2.2.2.1,m1_1.2.2.2.2.2.2.2.2.2.2.2.2.2.2.2.2.2.2.2.2.2.2.2.2.2.2.1,m1_1.2.2.2.2.2.2.2.2.2.2.2.2.2.2.2.2.2.2.2.2.2.2.2.2.2.2.2.1,())
 let s_27:=(m1_1.1,m1_1.2.1,m1_1.2.2.1,m1_1.2.2.2.1,m1_1.2.2.2.2.1,m1_1.2.2.2.2.2.1,m1_1.2.2.2.2.2.2.1,m1_1.2.2.2.2.2.2.2.1,m1_1.2.2.2.2.2.2.2.2.1,m1_1.2.2.2.2.2.2.2.2.2.1,m1_1.2.2.2.2.2.2.2.2.2.2.1,m1_1.2.2.2.2.2.2.2.2.2.2.2.1,m1_1.2.2.2.2.2.2.2.2.2.2.2.2.1,m1_1.2.2.2.2.2.2.2.2.2.2.2.2.2.1,(0:Int),([]:List Int),m1_1.2.2.2.2.2.2.2.2.2.2.2.2.2.2.2.2.1,m1_1.2.2.2.2.2.2.2.2.2.2.2.2.2.2.2.2.2.1,m1_1.2.2.2.2.2.2.2.2.2.2.2.2.2.2.2.2.2.2.1,m1_1.2.2.2.2.2.2.2.2.2.2.2.2.2.2.2.2.2.2.2.1,m1_1.2.2.2.2.2.2.2.2.2.2.2.2.2.2.2.2.2.2.2.2.1,m1_1.2.2.2.2.2.2.2.2.2.2.2.2.2.2.2.2.2.2.2.2.2.1,m1_1.2.2.2.2.2.2.2.2.2.2.2.2.2.2.2.2.2.2.2.2.2.2.1,m1_1.2.2.2.2.2.2.2.2.2.2.2.2.2.2.2.2.2.2.2.2.2.2.2.1,m1_1.2.2.2.2.2.2.2.2.2.2.2.2.2.2.2.2.2.2.2.2.2.2.2.2.1,m1_1.2.2.2.2.2.2.2.2.2.2.2.2.2.2.2.2.2.2.2.2.2.2.2.2.2.1,m1_1.2.2.2.2.2.2.2.2.2.2.2.2.2.2.2.2.2.2.2.2.2.2.2.2.2.2.1,m1_1.2.2.2.2.2.2.2.2.2.2.2.2.2.2.2.2.2.2.2.2.2.2.2.2.2.2.2.1,())
 let v54:=(m1_1.2.1 == 9)
 let s_28:=(m1_1.1,m1_1.2.1,m1_1.2.2.1,m1_1.2.2.2.1,m1_1.2.2.2.2.1,m1_1.2.2.2.2.2.1,m1_1.2.2.2.2.2.2.1,m1_1.2.2.2.2.2.2.2.1,m1_1.2.2.2.2.2.2.2.2.1,m1_1.2.2.2.2.2.2.2.2.2.1,m1_1.2.2.2.2.2.2.2.2.2.2.1,m1_1.2.2.2.2.2.2.2.2.2.2.2.1,m1_1.2.2.2.2.2.2.2.2.2.2.2.2.1,m1_1.2.2.2.2.2.2.2.2.2.2.2.2.2.1,m1_1.2.2.2.2.2.2.2.2.2.2.2.2.2.2.1,m1_1.2.2.2.2.2.2.2.2.2.2.2.2.2.2.2.1,m1_1.2.2.2.2.2.2.2.2.2.2.2.2.2.2.2.2.1,m1_1.2.2.2.2.2.2.2.2.2.2.2.2.2.2.2.2.2.1,m1_1.2.2.2.2.2.2.2.2.2.2.2.2.2.2.2.2.2.2.1,m1_1.2.2.2.2.2.2.2.2.2.2.2.2.2.2.2.2.2.2.2.1,m1_1.2.2.2.2.2.2.2.2.2.2.2.2.2.2.2.2.2.2.2.2.1,m1_1.2.2.2.2.2.2.2.2.2.2.2.2.2.2.2.2.2.2.2.2.2.1,m1_1.2.2.2.2.2.2.2.2.2.2.2.2.2.2.2.2.2.2.2.2.2.2.1,m1_1.2.2.2.2.2.2.2.2.2.2.2.2.2.2.2.2.2.2.2.2.2.2.2.1,m1_1.2.2.2.2.2.2.2.2.2.2.2.2.2.2.2.2.2.2.2.2.2.2.2.2.1,m1_1.2.2.2.2.2.2.2.2.2.2.2.2.2.2.2.2.2.2.2.2.2.2.2.2.2.1,(0:Int),m1_1.2.2.2.2.2.2.2.2.2.2.2.2.2.2.2.2.2.2.2.2.2.2.2.2.2.2.2.1,())
 let s_30:=(m1_1.1,m1_1.2.1,m1_1.2.2.1,m1_1.2.2.2.1,m1_1.2.2.2.2.1,m1_1.2.2.2.2.2.1,m1_1.2.2.2.2.2.2.1,m1_1.2.2.2.2.2.2.2.1,m1_1.2.2.2.2.2.2.2.2.1,m1_1.2.2.2.2.2.2.2.2.2.1,m1_1.2.2.2.2.2.2.2.2.2.2.1,m1_1.2.2.2.2.2.2.2.2.2.2.2.1,m1_1.2.2.2.2.2.2.2.2.2.2.2.2.1,m1_1.2.2.2.2.2.2.2.2.2.2.2.2.2.1,m1_1.2.2.2.2.2.2.2.2.2.2.2.2.2.2.1,m1_1.2.2.2.2.2.2.2.2.2.2.2.2.2.2.2.1,m1_1.2.2.2.2.2.2.2.2.2.2.2.2.2.2.2.2.1,m1_1.2.2.2.2.2.2.2.2.2.2.2.2.2.2.2.2.2.1,m1_1.2.2.2.2.2.2.2.2.2.2.2.2.2.2.2.2.2.2.1,m1_1.2.2.2.2.2.2.2.2.2.2.2.2.2.2.2.2.2.2.2.1,m1_1.2.2.2.2.2.2.2.2.2.2.2.2.2.2.2.2.2.2.2.2.1,m1_1.2.2.2.2.2.2.2.2.2.2.2.2.2.2.2.2.2.2.2.2.2.1,m1_1.2.2.2.2.2.2.2.2.2.2.2.2.2.2.2.2.2.2.2.2.2.2.1,m1_1.2.2.2.2.2.2.2.2.2.2.2.2.2.2.2.2.2.2.2.2.2.2.2.1,m1_1.2.2.2.2.2.2.2.2.2.2.2.2.2.2.2.2.2.2.2.2.2.2.2.2.1,m1_1.2.2.2.2.2.2.2.2.2.2.2.2.2.2.2.2.2.2.2.2.2.2.2.2.2.1,m1_1.2.2.2.2.2.2.2.2.2.2.2.2.2.2.2.2.2.2.2.2.2.2.2.2.2.2.1,((0:Int),(0:Int),(0:Int),([]:List D94),()),())
 let m1_6:=(bif (m1_1.2.1 == 6) then s_22 else (bif (m1_1.2.1 == 7) then s_25 else (bif (m1_1.2.1 == 8) then s_27 else (bif (bif v54 then v54 else (m1_1.2.1 == 10)) then s_28 else (bif (m1_1.2.1 == 11) then s_30 else m1_1)))))
 (((tT9 p0.2.1) ∧ (tU0 m1.2.1)),(bif (m1_1.2.1 == 2) then s_4 else (bif (m1_1.2.1 == 3) then s_6 else (bif (m1_1.2.1 == 4) then s_10 else (bif (m1_1.2.1 == 5) then s_17 else m1_6)))))
def sR (p0:D57):Prop:=(f83t p0).1
def f83 (p0:D57):D57:=(f83t p0).2
instance (p0:D57):Decidable (sR p0):=by
 unfold sR f83t
 try dsimp only
 infer_instance
def rN5:Am.Spec:=fnSpec [(0,(.val T57))] (.val T57) [] (fun x=>sR x.1) (fun x=>f83 x.1) (fun _=>())
def oM2:Ctx:=Cx tys [(76,sB3),(79,sB6)] [] [] false 62 [] []
theorem oM3:CtxOk Tryz.prog oM2:=xV6 tys_ok rfl ⟨pQ9,pR1,trivial⟩ rfl (by kernel_rfl)
theorem nA5:SpecOk Tryz.prog 83 rN5:=xX4 oM3 mixed Tryz.func83 (by kernel_rfl) (bs:=[]) (by kernel_rfl) trivial fun x=>by kernel_rfl
def f54t (p0:D57) (p1:Int) (p2:Int):Prop × Int :=
 let v15:=(f75 p0 p1 p2)
 let v17:=(v15 != 0)
 let v21:=(f76 p0.2.1)
 let v24:=(f77 p0.2.2.2.2.2.2.2.2.2.2.1)
 let v26:=(v24 != 0)
 let v31:=(f78 p0.2.2.2.2.2.2.2.2.2.2.1)
 let v35:=(v31.2.1 != 0)
 let v39:=(f79 p0.2.1)
 let v45:=(bif v39 then (!(f80 p0.2.2.2.2.2.2.2.2.2.2.2.1)) else false)
 let v47:=(f81 p0)
 let v49:=(v47 != 0)
 let v52:=(f83 p0)
 let m6_5:=(bif v17 then v15 else (bif ((v26 || ((!v26) && v35)) && v21) then (bif v26 then v24 else v31.2.1) else (bif v45 then (8:Int) else (bif v49 then v47 else (bif (!(f82 v52)) then (1:Int) else (0:Int))))))
 (((sL7 p0 p1 p2) ∧ ((!v17) = true → ((tT9 p0.2.1) ∧ ((v21 = true → ((vX0 p0.2.2.2.2.2.2.2.2.2.2.1) ∧ ((!v26) = true → (sL9 p0.2.2.2.2.2.2.2.2.2.2.1)))) ∧ ((bif v21 then ((!v26) && (!v35)) else true) = true → ((tU0 p0.2.1) ∧ ((v39 = true → (sM p0.2.2.2.2.2.2.2.2.2.2.2.1)) ∧ ((!v45) = true → ((sQ8 p0) ∧ ((!v49) = true → ((sR p0) ∧ (sQ9 v52)))))))))))),m6_5)
def sR0 (p0:D57) (p1:Int) (p2:Int):Prop:=(f54t p0 p1 p2).1
def f54 (p0:D57) (p1:Int) (p2:Int):Int:=(f54t p0 p1 p2).2
instance (p0:D57) (p1:Int) (p2:Int):Decidable (sR0 p0 p1 p2):=by
 unfold sR0 f54t
 try dsimp only
 infer_instance
def rN6:Am.Spec:=fnSpec [(0,(.val T57)),(1,vI),(2,vI)] vI [] (fun x=>sR0 x.1 x.2.1 x.2.2.1) (fun x=>f54 x.1 x.2.1 x.2.2.1) (fun _=>())
def oM4:Ctx:=Cx tys [(75,rJ5),(76,sB3),(77,uC8),(78,rJ7),(79,sB6),(80,rJ8),(81,rN3),(82,rN4),(83,rN5)] [] [] false 55 [] []
theorem oM5:CtxOk Tryz.prog oM4:=xV6 tys_ok rfl ⟨nA,pQ9,rJ6,nA0,pR1,nA1,nA3,nA4,nA5,trivial⟩ rfl (by kernel_rfl)
theorem nA6:SpecOk Tryz.prog 54 rN6:=xX4 oM5 mixed Tryz.func54 (by kernel_rfl) (bs:=[]) (by kernel_rfl) trivial fun x=>by kernel_rfl
abbrev wH1:Type:=((List (Int × Int × Unit)) × Int × D28 × Unit)
abbrev wC0:Type:=(Int × Unit)
def wO5 (y:wH1) (x:wC0):Prop × Bool × wC0 × Bool × Bool :=
 let a2:=y.2.1
 let a3:=y.2.2.1
 let a7:=x.1
 let v16:=(a7 != 0)
 let v24:=(a7 == (nth a3.2.2.2.1 a2 Z57).2.2.1)
 let v29:=(Option.getD (yH9 (.int .i64) (.int .i64) a7 y.1) (0:Int))
 ((v16 = true → (InB a2 (len a3.2.2.2.1) ∧ ((!v24) = true → InB v29 (len a3.2.2.2.1)))),(v16 && (!v24)),((nth a3.2.2.2.1 v29 Z57).2.2.1,()),(v16 && v24),(!v16))
def wT6 (y:wH1) (x:wC0):Prop:=(wO5 y x).1
def wZ4 (y:wH1) (x:wC0):Bool:=(wO5 y x).2.1
def wK1 (y:wH1) (x:wC0):wC0:=(wO5 y x).2.2.1
def vQ1 (y:wH1) (x:wC0):Bool:=(wO5 y x).2.2.2.1
def sR1 (y:wH1) (x:wC0):Bool:=(wO5 y x).2.2.2.2
instance (y:wH1) (x:wC0):Decidable (wT6 y x):=by
 unfold wT6 wO5
 try dsimp only
 infer_instance
def vX3 (y:wH1) (x:wC0):Bool :=
 true
def uX:List (Nat × Sh):=[(1,(.own (xC7 (.int .i64) (.int .i64)) 400100 true)),(6,vB)]
def uX0:List (Nat × Sh):=[(1,(.own (xC7 (.int .i64) (.int .i64)) 400100 true))]
def vX4:St → Option Out:=xO8 [(1,(.own (xC7 (.int .i64) (.int .i64)) 400100 true)),(2,vI),(3,(.box T28 (.val T28)))] [(7,vI)] wZ4 wK1 wT6 fun y x=>[ex 1 (some (vQ1 y x)) uX (y.1,(vX3 y x),()),ex 2 (some (sR1 y x)) uX0 (y.1,())]
def tM6 (p0:D28) (p1:(List (Int × Int × Unit))) (p2:Int):Prop × Bool × ((List (Int × Int × Unit)) × Unit) :=
 let v11:=(p2 - 1)
 let y2:=(p1,p2,p0,())
 let x2:=((nth p0.2.2.2.1 v11 Z57).1,())
 let e2:=(zB9 (wZ4 y2) (wK1 y2) x2)
 let q2_1:=(vQ1 y2 e2)
 ((InR (p2 - 1) ∧ (InB v11 (len p0.2.2.2.1) ∧ (Am.Ends (wZ4 y2) (wK1 y2) (wT6 y2) x2))),(bif q2_1 then (vX3 y2 e2) else false),((bif q2_1 then p1 else p1),()))
def vQ2 (p0:D28) (p1:(List (Int × Int × Unit))) (p2:Int):Prop:=(tM6 p0 p1 p2).1
def qI3 (p0:D28) (p1:(List (Int × Int × Unit))) (p2:Int):Bool:=(tM6 p0 p1 p2).2.1
def vL5 (p0:D28) (p1:(List (Int × Int × Unit))) (p2:Int):((List (Int × Int × Unit)) × Unit):=(tM6 p0 p1 p2).2.2
instance (p0:D28) (p1:(List (Int × Int × Unit))) (p2:Int):Decidable (vQ2 p0 p1 p2):=by
 unfold vQ2 tM6
 try dsimp only
 infer_instance
def tM7:Am.Spec:=fnSpec [(0,(.val T28)),(1,(.own (xC7 (.int .i64) (.int .i64)) 400100 true)),(2,vI)] vB [(1,(.own (xC7 (.int .i64) (.int .i64)) 400100 true))] (fun x=>vQ2 x.1 x.2.1 x.2.2.1) (fun x=>qI3 x.1 x.2.1 x.2.2.1) (fun x=>vL5 x.1 x.2.1 x.2.2.1)
def tX2:Ctx:={ Cx tys [] [(2,vX4)] [] false 33 [1] [] with maps:=maps }
theorem tX3:CtxOk Tryz.prog tX2:=xV6 tys_ok (by kernel_rfl) trivial rfl (by kernel_rfl)
noncomputable def rB5:Code:=Tryz.f55.body.getD .skip
noncomputable def sR2:Code:=xW5 rB5 0
theorem sR3:yU1 Tryz.prog tX2 sR2:=xX3 tX3 mixed (sp:=vX4) rfl [uX,uX0] (bs:=[]) (by kernel_rfl) trivial (by kernel_rfl) (by kernel_rfl) fun y x=>by kernel_rfl
theorem qI4:SpecOk Tryz.prog 55 tM7:=xX4 tX3 mixed Tryz.func55 (by kernel_rfl) (bs:=[sR2]) (by kernel_rfl) ⟨sR3,trivial⟩ fun x=>by kernel_rfl
abbrev vB9:Type:=(D28 × (List D57) × Int × Unit)
abbrev wN1:Type:=((List (Int × Int × Unit)) × (List Int) × Int × Unit)
def vZ9 (y:vB9) (x:wN1):Prop × Bool × wN1 × Bool × Bool :=
 let a1:=y.1
 let a18:=y.2.1
 let a3:=x.1
 let a4:=x.2.1
 let a20:=x.2.2.1
 let v21:=(decide (a20 < y.2.2.1))
 let v23:=(nth a18 a20 Z57)
 let v32:=((f54 v23 a1.1 a1.2.1) != 0)
 let v43:=(bif (decide (v23.1 < 1)) then true else (decide (v23.1 ≥ a1.2.2.2.2.1)))
 let v50:=(Option.isSome (yH9 (.int .i64) (.int .i64) v23.1 a3))
 let l1004:=(List.set a4 (Int.toNat a20) (1:Int))
 let v57:=(v23.2.2.1 != 0)
 let v63:=(Option.getD (yH9 (.int .i64) (.int .i64) v23.2.2.1 a3) (0:Int))
 let v66:=(!(Option.isSome (yH9 (.int .i64) (.int .i64) v23.2.2.1 a3)))
 let v75:=(bif v66 then true else ((nth a1.2.2.2.1 v63 Z57).2.1 != 1))
 let v80:=(!(qI3 a1 a3 a20))
 let v86:=(nth l1004 v63 (0:Int))
 let c_3:=(bif v57 then ((!v75) && (!v80)) else true)
 let m4:=(bif v57 then (List.set l1004 (Int.toNat a20) (v86 + 1)) else l1004)
 let v93:=(decide ((nth m4 a20 (0:Int)) > 8))
 let c_14:=((!v32) && ((!v43) && ((!v50) && (c_3 && (!v93)))))
 ((v21 = true → (InB a20 (len a18) ∧ ((sR0 v23 a1.1 a1.2.1) ∧ (((!v32) = true → ((!v43) = true → ((!v50) = true → (InB a20 (len a4) ∧ (a20 < len a4 ∧ ((v57 = true → (((!v66) = true → InB v63 (len a1.2.2.2.1)) ∧ ((!v75) = true → ((vQ2 a1 a3 a20) ∧ (0 < List.length a3 ∧ (List.length a3 = List.length a3 ∧ (List.length a3 = List.length a3 ∧ (List.length a3 = List.length a3 ∧ (List.length a3 = List.length a3 ∧ ((!v80) = true → (InB v63 (len l1004) ∧ (v63 < len l1004 ∧ (InR (v86 + 1) ∧ (InB a20 (len l1004) ∧ a20 < len l1004)))))))))))))) ∧ (c_3 = true → (InB a20 (len m4) ∧ a20 < len m4)))))))) ∧ (c_14 = true → InR (a20 + 1)))))),(v21 && c_14),((xL0 (.int .i64) (.int .i64) v23.1 a20 (bif v57 then (vL5 a1 a3 a20).1 else a3)),m4,(a20 + 1),()),(v21 && (v32 || ((!v32) && (v43 || ((!v43) && (v50 || ((!v50) && (((v75 || ((!v75) && v80)) && v57) || (c_3 && v93))))))))),(!v21))
def vI2 (y:vB9) (x:wN1):Prop:=(vZ9 y x).1
def vV3 (y:vB9) (x:wN1):Bool:=(vZ9 y x).2.1
def wO6 (y:vB9) (x:wN1):wN1:=(vZ9 y x).2.2.1
def sR4 (y:vB9) (x:wN1):Bool:=(vZ9 y x).2.2.2.1
def qI5 (y:vB9) (x:wN1):Bool:=(vZ9 y x).2.2.2.2
instance (y:vB9) (x:wN1):Decidable (vI2 y x):=by
 unfold vI2 vZ9
 try dsimp only
 infer_instance
def tM8 (y:vB9) (x:wN1):Int :=
 let a1:=y.1
 let a3:=x.1
 let a20:=x.2.2.1
 let v23:=(nth y.2.1 a20 Z57)
 let v30:=(f54 v23 a1.1 a1.2.1)
 let v75:=(bif (!(Option.isSome (yH9 (.int .i64) (.int .i64) v23.2.2.1 a3))) then true else ((nth a1.2.2.2.1 (Option.getD (yH9 (.int .i64) (.int .i64) v23.2.2.1 a3) (0:Int)) Z57).2.1 != 1))
 let m2_2:=(bif (Option.isSome (yH9 (.int .i64) (.int .i64) v23.1 a3)) then (10:Int) else (bif ((v75 || ((!v75) && (!(qI3 a1 a3 a20)))) && (v23.2.2.1 != 0)) then (bif v75 then (9:Int) else (24:Int)) else (12:Int)))
 (bif (v30 != 0) then v30 else (bif (bif (decide (v23.1 < 1)) then true else (decide (v23.1 ≥ a1.2.2.2.2.1))) then (2:Int) else m2_2))
def tM9:St → Option Out:=xO8 [(1,(.box T28 (.val T28))),(18,(.val (.sl T57))),(19,vI)] [(3,(.own (xC7 (.int .i64) (.int .i64)) 1003 true)),(4,(.own (.int .i64) 1004 true)),(20,vI)] vV3 wO6 vI2 fun y x=>[ex 1 (some (sR4 y x)) [(2,vI)] ((tM8 y x),()),ex 2 (some (qI5 y x)) [] ()]
def f33t (p0:D28):Prop × Int :=
 let v15:=(len p0.2.2.2.1)
 let y4:=(p0,p0.2.2.2.1,(len p0.2.2.2.1),())
 let x4:=(([]:List (Int × Int × Unit)),(List.replicate (Int.toNat v15) (0:Int)),(0:Int),())
 let e4:=(zB9 (vV3 y4) (wO6 y4) x4)
 (((0 ≤ v15 ∧ v15 ≤ v15 ∧ v15 ≤ 4294967296) ∧ (Am.Ends (vV3 y4) (wO6 y4) (vI2 y4) x4)),(bif (sR4 y4 e4) then (tM8 y4 e4) else (0:Int)))
def sR5 (p0:D28):Prop:=(f33t p0).1
def f33 (p0:D28):Int:=(f33t p0).2
instance (p0:D28):Decidable (sR5 p0):=by
 unfold sR5 f33t
 try dsimp only
 infer_instance
def rN7:Am.Spec:=fnSpec [(0,(.val T28))] vI [] (fun x=>sR5 x.1) (fun x=>f33 x.1) (fun _=>())
def qI6:Ctx:={ Cx tys [(54,rN6),(55,tM7)] [(4,tM9)] [(3,[(4,0,12,1003)]),(5,[(4,0,16,1004)])] false 99 [] [16] with wants:=[(55,[1])],maps:=maps }
theorem qI7:CtxOk Tryz.prog qI6:=xV6 tys_ok (by kernel_rfl) ⟨nA6,qI4,trivial⟩ rfl (by kernel_rfl)
noncomputable def pF4:Code:=Tryz.f33.body.getD .skip
noncomputable def pR4:Code:=xW5 pF4 0
theorem qI8:yU1 Tryz.prog qI6 pR4:=xX3 qI7 mixed (sp:=tM9) rfl [[(2,vI)],[]] (bs:=[]) (by kernel_rfl) trivial (by kernel_rfl) (by kernel_rfl) fun y x=>by kernel_rfl
theorem nA7:SpecOk Tryz.prog 33 rN7:=xX4 qI7 mixed Tryz.func33 (by kernel_rfl) (bs:=[pR4]) (by kernel_rfl) ⟨qI8,trivial⟩ fun x=>by kernel_rfl
abbrev vL6:Type:=(D28 × D57 × (List D57) × Int × Int × Unit)
abbrev vC:Type:=(Int × Unit)
def tN (y:vL6) (x:vC):Prop × Bool × vC :=
 let a1:=y.1
 let a5:=x.1
 let v20:=(decide (a5 ≥ 0))
 let v30:=((nth a1.2.2.2.1 a5 Z57).2.2.1 != y.2.1.2.2.1)
 let v39:=(bif v20 then (bif v30 then true else (nth a1.2.2.2.1 a5 Z57).2.2.2.2.2.2.1) else false)
 (((v20 = true → InB a5 (len a1.2.2.2.1)) ∧ (((v20 && (!v30)) = true → InB a5 (len a1.2.2.2.1)) ∧ (v39 = true → InR (a5 - 1)))),v39,((a5 - 1),()))
def vI3 (y:vL6) (x:vC):Prop:=(tN y x).1
def wV0 (y:vL6) (x:vC):Bool:=(tN y x).2.1
def wH2 (y:vL6) (x:vC):vC:=(tN y x).2.2
instance (y:vL6) (x:vC):Decidable (vI3 y x):=by
 unfold vI3 tN
 try dsimp only
 infer_instance
def uA (y:vL6) (x:vC):Int :=
 x.1
def sR6:List (Nat × Sh):=[(1,(.box T28 (.val T28))),(5,vI),(7,(.val (.sl T57))),(8,vI),(9,vI)]
def tN0:St → Option Out:=xO8 [(1,(.box T28 (.val T28))),(4,(.box T57 (.val T57))),(7,(.val (.sl T57))),(8,vI),(9,vI)] [(5,vI)] wV0 wH2 vI3 fun y x=>[ex 4 none sR6 (y.1,(uA y x),y.2.2.1,y.2.2.2.1,y.2.2.2.2.1,())]
abbrev vC0:Type:=(Unit)
abbrev wP8:Type:=(D28 × (List D57) × Int × Int × Unit)
def uA0 (y:vC0) (x:wP8):Prop × Bool × wP8 × Bool × Bool :=
 let a1:=x.1
 let a7:=x.2.1
 let a8:=x.2.2.1
 let a9:=x.2.2.2.1
 let v10:=(decide (a9 < a8))
 let v12:=(nth a7 a9 Z57)
 let v16:=(!v12.2.2.2.2.2.2.1)
 let y6:=(a1,v12,a7,a8,a9,())
 let x6:=((a9 - 1),())
 let r6_4_0:=(uA y6 (zB9 (wV0 y6) (wH2 y6) x6))
 let v43:=(decide (r6_4_0 < 0))
 let v47:=(nth a1.2.2.2.1 r6_4_0 Z57)
 let v49:=(f56 v47)
 let c_5:=(v16 || ((!v16) && ((!v43) && (!v49))))
 let m9:=(bif v16 then a9 else a9)
 ((v10 = true → (InB a9 (len a7) ∧ (((!v16) = true → (InR (a9 - 1) ∧ ((Am.Ends (wV0 y6) (wH2 y6) (vI3 y6) x6) ∧ ((!v43) = true → (InB r6_4_0 (len a1.2.2.2.1) ∧ (tE v47)))))) ∧ (c_5 = true → InR (m9 + 1))))),(v10 && c_5),((bif v16 then a1 else a1),(bif v16 then a7 else a7),(bif v16 then a8 else a8),(m9 + 1),()),(v10 && ((!v16) && (v43 || ((!v43) && v49)))),(!v10))
def vQ3 (y:vC0) (x:wP8):Prop:=(uA0 y x).1
def tA2 (y:vC0) (x:wP8):Bool:=(uA0 y x).2.1
def wO7 (y:vC0) (x:wP8):wP8:=(uA0 y x).2.2.1
def sR7 (y:vC0) (x:wP8):Bool:=(uA0 y x).2.2.2.1
def qI9 (y:vC0) (x:wP8):Bool:=(uA0 y x).2.2.2.2
instance (y:vC0) (x:wP8):Decidable (vQ3 y x):=by
 unfold vQ3 uA0
 try dsimp only
 infer_instance
def tN1 (y:vC0) (x:wP8):Int :=
 let a7:=x.2.1
 let a9:=x.2.2.2.1
 let y6:=(x.1,(nth a7 a9 Z57),a7,x.2.2.1,a9,())
 (bif (decide ((uA y6 (zB9 (wV0 y6) (wH2 y6) ((a9 - 1),()))) < 0)) then (14:Int) else (8:Int))
def tN2:St → Option Out:=xO8 [] [(1,(.box T28 (.val T28))),(7,(.val (.sl T57))),(8,vI),(9,vI)] tA2 wO7 vQ3 fun y x=>[ex 1 (some (sR7 y x)) [(2,vI)] ((tN1 y x),()),ex 2 (some (qI9 y x)) [] ()]
def f34t (p0:D28):Prop × Int :=
 let x2:=(p0,p0.2.2.2.1,(len p0.2.2.2.1),(0:Int),())
 let e2:=(zB9 (tA2 ()) (wO7 ()) x2)
 ((Am.Ends (tA2 ()) (wO7 ()) (vQ3 ()) x2),(bif (sR7 () e2) then (tN1 () e2) else (0:Int)))
def sR8 (p0:D28):Prop:=(f34t p0).1
def f34 (p0:D28):Int:=(f34t p0).2
instance (p0:D28):Decidable (sR8 p0):=by
 unfold sR8 f34t
 try dsimp only
 infer_instance
def rN8:Am.Spec:=fnSpec [(0,(.val T28))] vI [] (fun x=>sR8 x.1) (fun x=>f34 x.1) (fun _=>())
def rB6:Ctx:=Cx tys [(56,uY8)] [(6,tN0),(2,tN2)] [] false 51 [] []
theorem rB7:CtxOk Tryz.prog rB6:=xV6 tys_ok rfl ⟨qD3,trivial⟩ rfl (by kernel_rfl)
noncomputable def pF5:Code:=Tryz.f34.body.getD .skip
noncomputable def qJ:Code:=xW5 pF5 0
noncomputable def pR5:Code:=xW5 qJ 0
theorem qJ0:yU1 Tryz.prog rB6 pR5:=xX3 rB7 mixed (sp:=tN0) rfl [sR6] (bs:=[]) (by kernel_rfl) trivial (by kernel_rfl) (by kernel_rfl) fun y x=>by kernel_rfl
theorem qJ1:yU1 Tryz.prog rB6 qJ:=xX3 rB7 mixed (sp:=tN2) rfl [[(2,vI)],[]] (bs:=[pR5]) (by kernel_rfl) ⟨qJ0,trivial⟩ (by kernel_rfl) (by kernel_rfl) fun y x=>by kernel_rfl
theorem nA8:SpecOk Tryz.prog 34 rN8:=xX4 rB7 mixed Tryz.func34 (by kernel_rfl) (bs:=[qJ]) (by kernel_rfl) ⟨qJ1,trivial⟩ fun x=>by kernel_rfl
abbrev vC1:Type:=((List UInt8) × Int × Unit)
abbrev wP9:Type:=(Int × Unit)
def uO4 (y:vC1) (x:wP9):Prop × Bool × wP9 × Bool × Bool :=
 let a0:=y.1
 let a14:=x.1
 let v15:=(decide (a14 < y.2.1))
 let v20:=(decide ((xW8 a0 a14) < 33))
 let v26:=(bif v20 then true else (decide ((xW8 a0 a14) > 126)))
 ((v15 = true → (InB a14 (len a0) ∧ (((!v20) = true → InB a14 (len a0)) ∧ ((!v26) = true → InR (a14 + 1))))),(v15 && (!v26)),((a14 + 1),()),(v15 && v26),(!v15))
def uI6 (y:vC1) (x:wP9):Prop:=(uO4 y x).1
def sE6 (y:vC1) (x:wP9):Bool:=(uO4 y x).2.1
def uA1 (y:vC1) (x:wP9):wP9:=(uO4 y x).2.2.1
def sR9 (y:vC1) (x:wP9):Bool:=(uO4 y x).2.2.2.1
def qJ2 (y:vC1) (x:wP9):Bool:=(uO4 y x).2.2.2.2
instance (y:vC1) (x:wP9):Decidable (uI6 y x):=by
 unfold uI6 uO4
 try dsimp only
 infer_instance
def tN3 (y:vC1) (x:wP9):Bool :=
 false
def tN4:St → Option Out:=xO8 [(0,vS),(13,vI)] [(14,vI)] sE6 uA1 uI6 fun y x=>[ex 1 (some (sR9 y x)) [(2,vB)] ((tN3 y x),()),ex 2 (some (qJ2 y x)) [] ()]
def f57t (p0:(List UInt8)):Prop × Bool :=
 let v11:=(bif (decide ((len p0) < 1)) then true else (decide ((len p0) > 32)))
 let y4:=(p0,(len p0),())
 let x4:=((0:Int),())
 let e4:=(zB9 (sE6 y4) (uA1 y4) x4)
 (((!v11) = true → (Am.Ends (sE6 y4) (uA1 y4) (uI6 y4) x4)),(bif v11 then false else (bif (sR9 y4 e4) then (tN3 y4 e4) else true)))
def sS (p0:(List UInt8)):Prop:=(f57t p0).1
def f57 (p0:(List UInt8)):Bool:=(f57t p0).2
instance (p0:(List UInt8)):Decidable (sS p0):=by
 unfold sS f57t
 try dsimp only
 infer_instance
def rN9:Am.Spec:=fnSpec [(0,vS)] vB [] (fun x=>sS x.1) (fun x=>f57 x.1) (fun _=>())
def qJ3:Ctx:=Cx tys [] [(4,tN4)] [] false 28 [] []
theorem qJ4:CtxOk Tryz.prog qJ3:=xV6 tys_ok rfl trivial rfl (by kernel_rfl)
noncomputable def pF6:Code:=Tryz.f57.body.getD .skip
noncomputable def pR6:Code:=xW5 pF6 0
theorem qJ5:yU1 Tryz.prog qJ3 pR6:=xX3 qJ4 mixed (sp:=tN4) rfl [[(2,vB)],[]] (bs:=[]) (by kernel_rfl) trivial (by kernel_rfl) (by kernel_rfl) fun y x=>by kernel_rfl
theorem nA9:SpecOk Tryz.prog 57 rN9:=xX4 qJ4 mixed Tryz.func57 (by kernel_rfl) (bs:=[pR6]) (by kernel_rfl) ⟨qJ5,trivial⟩ fun x=>by kernel_rfl
abbrev vC2:Type:=(D28 × D74 × (List D74) × Int × Int × (List D74) × Int × Unit)
abbrev wQ:Type:=(Int × Unit)
def uO5 (y:vC2) (x:wQ):Prop × Bool × wQ × Bool × Bool :=
 let a4:=y.2.1
 let a53:=y.2.2.2.2.2.1
 let a55:=x.1
 let v56:=(decide (a55 < y.2.2.2.2.2.2.1))
 let v57:=(nth a53 a55 Z74)
 let v70:=(bif (v57.1 == a4.1) then true else (v57.2.1 == a4.2.1))
 ((v56 = true → (InB a55 (len a53) ∧ ((!v70) = true → InR (a55 + 1)))),(v56 && (!v70)),((a55 + 1),()),(v56 && v70),(!v56))
def uI7 (y:vC2) (x:wQ):Prop:=(uO5 y x).1
def tA3 (y:vC2) (x:wQ):Bool:=(uO5 y x).2.1
def vL7 (y:vC2) (x:wQ):wQ:=(uO5 y x).2.2.1
def tN5 (y:vC2) (x:wQ):Bool:=(uO5 y x).2.2.2.1
def sS0 (y:vC2) (x:wQ):Bool:=(uO5 y x).2.2.2.2
instance (y:vC2) (x:wQ):Decidable (uI7 y x):=by
 unfold uI7 uO5
 try dsimp only
 infer_instance
def tN6 (y:vC2) (x:wQ):Int :=
 (10:Int)
def sS1:List (Nat × Sh):=[(1,(.box T28 (.val T28))),(4,(.box T74 (.val T74))),(9,(.val (.sl T74))),(10,vI),(11,vI)]
def tN7:St → Option Out:=xO8 [(1,(.box T28 (.val T28))),(4,(.box T74 (.val T74))),(9,(.val (.sl T74))),(10,vI),(11,vI),(53,(.val (.sl T74))),(54,vI)] [(55,vI)] tA3 vL7 uI7 fun y x=>[ex 1 (some (tN5 y x)) [(2,vI)] ((tN6 y x),()),ex 4 (some (sS0 y x)) sS1 (y.1,y.2.1,y.2.2.1,y.2.2.2.1,y.2.2.2.2.1,())]
abbrev vC3:Type:=(D28 × (List D74) × Int × Unit)
abbrev wQ0:Type:=(Int × Unit)
def uO6 (y:vC3) (x:wQ0):Prop × Bool × wQ0 × Bool × Bool :=
 let a1:=y.1
 let a9:=y.2.1
 let a10:=y.2.2.1
 let a11:=x.1
 let v12:=(decide (a11 < a10))
 let v14:=(nth a9 a11 Z74)
 let v19:=(!(f57 v14.2.1))
 let v44:=(bif (bif (bif (bif (decide (v14.1 < 1)) then true else (decide (v14.1 ≥ a1.2.2.2.2.1))) then true else (decide (v14.2.2.1 < 0))) then true else (decide (v14.2.2.1 > 2))) then true else (decide (v14.2.2.2.1 < 1)))
 let v49:=(bif v44 then true else (decide (v14.2.2.2.1 > 1073741824)))
 let v53:=(List.take (Int.toNat a11) a1.2.2.2.2.2.2.2.1)
 let y9:=(a1,v14,a9,a10,a11,v53,(len v53),())
 let x9:=((0:Int),())
 let e9:=(zB9 (tA3 y9) (vL7 y9) x9)
 let q9_4:=(sS0 y9 e9)
 let v76:=((f58 v14.2.2.2.2.1) != 0)
 let c_8:=((!v19) && ((!v49) && (q9_4 && (!v76))))
 ((v12 = true → (InB a11 (len a9) ∧ ((sS v14.2.1) ∧ (((!v19) = true → ((!v49) = true → ((0 ≤ a11 ∧ a11 ≤ len a1.2.2.2.2.2.2.2.1) ∧ ((Am.Ends (tA3 y9) (vL7 y9) (uI7 y9) x9) ∧ (q9_4 = true → (tU1 v14.2.2.2.2.1)))))) ∧ (c_8 = true → InR (a11 + 1)))))),(v12 && c_8),((a11 + 1),()),(v12 && (v19 || ((!v19) && (v49 || ((!v49) && ((tN5 y9 e9) || (q9_4 && v76))))))),(!v12))
def uI8 (y:vC3) (x:wQ0):Prop:=(uO6 y x).1
def sE7 (y:vC3) (x:wQ0):Bool:=(uO6 y x).2.1
def uA2 (y:vC3) (x:wQ0):wQ0:=(uO6 y x).2.2.1
def sS2 (y:vC3) (x:wQ0):Bool:=(uO6 y x).2.2.2.1
def qJ6 (y:vC3) (x:wQ0):Bool:=(uO6 y x).2.2.2.2
instance (y:vC3) (x:wQ0):Decidable (uI8 y x):=by
 unfold uI8 uO6
 try dsimp only
 infer_instance
def tN8 (y:vC3) (x:wQ0):Int :=
 let a1:=y.1
 let a9:=y.2.1
 let a11:=x.1
 let v14:=(nth a9 a11 Z74)
 let v44:=(bif (bif (bif (bif (decide (v14.1 < 1)) then true else (decide (v14.1 ≥ a1.2.2.2.2.1))) then true else (decide (v14.2.2.1 < 0))) then true else (decide (v14.2.2.1 > 2))) then true else (decide (v14.2.2.2.1 < 1)))
 let v53:=(List.take (Int.toNat a11) a1.2.2.2.2.2.2.2.1)
 let y9:=(a1,v14,a9,y.2.2.1,a11,v53,(len v53),())
 let e9:=(zB9 (tA3 y9) (vL7 y9) ((0:Int),()))
 let m2_2:=(bif (!(f57 v14.2.1)) then (13:Int) else (bif (bif v44 then true else (decide (v14.2.2.2.1 > 1073741824))) then (2:Int) else (bif (tN5 y9 e9) then (tN6 y9 e9) else (f58 v14.2.2.2.2.1))))
 m2_2
def tN9:St → Option Out:=xO8 [(1,(.box T28 (.val T28))),(9,(.val (.sl T74))),(10,vI)] [(11,vI)] sE7 uA2 uI8 fun y x=>[ex 1 (some (sS2 y x)) [(2,vI)] ((tN8 y x),()),ex 2 (some (qJ6 y x)) [] ()]
def f35t (p0:D28):Prop × Int :=
 let y2:=(p0,p0.2.2.2.2.2.2.2.1,(len p0.2.2.2.2.2.2.2.1),())
 let x2:=((0:Int),())
 let e2:=(zB9 (sE7 y2) (uA2 y2) x2)
 ((Am.Ends (sE7 y2) (uA2 y2) (uI8 y2) x2),(bif (sS2 y2 e2) then (tN8 y2 e2) else (0:Int)))
def sS3 (p0:D28):Prop:=(f35t p0).1
def f35 (p0:D28):Int:=(f35t p0).2
instance (p0:D28):Decidable (sS3 p0):=by
 unfold sS3 f35t
 try dsimp only
 infer_instance
def rO:Am.Spec:=fnSpec [(0,(.val T28))] vI [] (fun x=>sS3 x.1) (fun x=>f35 x.1) (fun _=>())
def rB8:Ctx:=Cx tys [(57,rN9),(58,sB8)] [(9,tN7),(2,tN9)] [] false 79 [] []
theorem rB9:CtxOk Tryz.prog rB8:=xV6 tys_ok rfl ⟨nA9,pR3,trivial⟩ rfl (by kernel_rfl)
noncomputable def pF7:Code:=Tryz.f35.body.getD .skip
noncomputable def qJ7:Code:=xW5 pF7 0
noncomputable def pR7:Code:=xW5 qJ7 0
theorem qJ8:yU1 Tryz.prog rB8 pR7:=xX3 rB9 mixed (sp:=tN7) rfl [[(2,vI)],sS1] (bs:=[]) (by kernel_rfl) trivial (by kernel_rfl) (by kernel_rfl) fun y x=>by kernel_rfl
theorem qJ9:yU1 Tryz.prog rB8 qJ7:=xX3 rB9 mixed (sp:=tN9) rfl [[(2,vI)],[]] (bs:=[pR7]) (by kernel_rfl) ⟨qJ8,trivial⟩ (by kernel_rfl) (by kernel_rfl) fun y x=>by kernel_rfl
theorem nB:SpecOk Tryz.prog 35 rO:=xX4 rB9 mixed Tryz.func35 (by kernel_rfl) (bs:=[qJ7]) (by kernel_rfl) ⟨qJ9,trivial⟩ fun x=>by kernel_rfl
def rC (p0:D57) (p1:Int):Prop × Bool :=
 (True,(p0.1 == p1))
def uI9 (p0:D57) (p1:Int):Prop:=(rC p0 p1).1
def pR8 (p0:D57) (p1:Int):Bool:=(rC p0 p1).2
instance (p0:D57) (p1:Int):Decidable (uI9 p0 p1):=by
 unfold uI9 rC
 try dsimp only
 infer_instance
def tO:Am.Spec:=fnSpec [(0,(.val T57)),(1,(.val (.ptr (.int .i64))))] vB [] (fun x=>uI9 x.1 x.2.1) (fun x=>pR8 x.1 x.2.1) (fun _=>())
def rY3:Ctx:=Cx tys [] [] [] false 8 [] []
theorem rY4:CtxOk Tryz.prog rY3:=xV6 tys_ok rfl trivial rfl (by kernel_rfl)
theorem qK:SpecOk Tryz.prog 88 tO:=xX4 rY4 mixed Tryz.func88 (by kernel_rfl) (bs:=[]) (by kernel_rfl) trivial fun x=>by kernel_rfl
abbrev wH3:Type:=((List D57) × (Int × Unit) × Int × Unit)
abbrev wC1:Type:=(Int × Unit)
def wX3 (y:wH3) (x:wC1):Prop × Bool × wC1 × Bool × Bool :=
 let a0:=y.1
 let a1:=y.2.1
 let a8:=x.1
 let v9:=(decide (a8 < y.2.2.1))
 let v14:=(nth a0 a8 Z57)
 let v16:=(pR8 v14 a1.1)
 ((v9 = true → (InB a8 (len a0) ∧ ((uI9 v14 a1.1) ∧ ((!v16) = true → InR (a8 + 1))))),(v9 && (!v16)),((a8 + 1),()),(v9 && v16),(!v9))
def wM4 (y:wH3) (x:wC1):Prop:=(wX3 y x).1
def wB1 (y:wH3) (x:wC1):Bool:=(wX3 y x).2.1
def xY8 (y:wH3) (x:wC1):wC1:=(wX3 y x).2.2.1
def wT7 (y:wH3) (x:wC1):Bool:=(wX3 y x).2.2.2.1
def sS4 (y:wH3) (x:wC1):Bool:=(wX3 y x).2.2.2.2
instance (y:wH3) (x:wC1):Decidable (wM4 y x):=by
 unfold wM4 wX3
 try dsimp only
 infer_instance
def wQ1 (y:wH3) (x:wC1):Int :=
 x.1
def vX5:St → Option Out:=xO8 [(0,(.val (.sl T57))),(1,(.fn 88 (.cons (.val (.ptr (.int .i64))) .nl))),(7,vI)] [(8,vI)] wB1 xY8 wM4 fun y x=>[ex 1 (some (wT7 y x)) [(4,vI)] ((wQ1 y x),()),ex 2 (some (sS4 y x)) [] ()]
def rC0 (p0:(List D57)) (p1:(Int × Unit)):Prop × Int :=
 let y2:=(p0,(p1.1,()),(len p0),())
 let x2:=((0:Int),())
 let e2:=(zB9 (wB1 y2) (xY8 y2) x2)
 ((Am.Ends (wB1 y2) (xY8 y2) (wM4 y2) x2),(bif (wT7 y2 e2) then (wQ1 y2 e2) else (-1:Int)))
def uJ (p0:(List D57)) (p1:(Int × Unit)):Prop:=(rC0 p0 p1).1
def pR9 (p0:(List D57)) (p1:(Int × Unit)):Int:=(rC0 p0 p1).2
instance (p0:(List D57)) (p1:(Int × Unit)):Decidable (uJ p0 p1):=by
 unfold uJ rC0
 try dsimp only
 infer_instance
def tO0:Am.Spec:=fnSpec [(0,(.val (.sl T57))),(1,(.fn 88 (.cons (.val (.ptr (.int .i64))) .nl)))] vI [] (fun x=>uJ x.1 x.2.1) (fun x=>pR9 x.1 x.2.1) (fun _=>())
def tX4:Ctx:=Cx tys [(88,tO)] [(2,vX5)] [] false 19 [] []
theorem tX5:CtxOk Tryz.prog tX4:=xV6 tys_ok rfl ⟨qK,trivial⟩ rfl (by kernel_rfl)
noncomputable def rC1:Code:=Tryz.f87.body.getD .skip
noncomputable def sS5:Code:=xW5 rC1 0
theorem sS6:yU1 Tryz.prog tX4 sS5:=xX3 tX5 mixed (sp:=vX5) rfl [[(4,vI)],[]] (bs:=[]) (by kernel_rfl) trivial (by kernel_rfl) (by kernel_rfl) fun y x=>by kernel_rfl
theorem qK0:SpecOk Tryz.prog 87 tO0:=xX4 tX5 mixed Tryz.func87 (by kernel_rfl) (bs:=[sS5]) (by kernel_rfl) ⟨sS6,trivial⟩ fun x=>by kernel_rfl
def f61t (p0:D28) (p1:Int):Prop × Int :=
 let s:=(p1,())
 ((uJ p0.2.2.2.1 s),(pR9 p0.2.2.2.1 s))
def tX6 (p0:D28) (p1:Int):Prop:=(f61t p0 p1).1
def f61 (p0:D28) (p1:Int):Int:=(f61t p0 p1).2
instance (p0:D28) (p1:Int):Decidable (tX6 p0 p1):=by
 unfold tX6 f61t
 try dsimp only
 infer_instance
def sE8:Am.Spec:=fnSpec [(0,(.val T28)),(1,vI)] vI [] (fun x=>tX6 x.1 x.2.1) (fun x=>f61 x.1 x.2.1) (fun _=>())
def oM6:Ctx:=Cx tys [(87,tO0)] [] [(2,[(3,3,0,0)])] false 9 [] []
theorem oM7:CtxOk Tryz.prog oM6:=xV6 tys_ok rfl ⟨qK0,trivial⟩ rfl (by kernel_rfl)
theorem pS:SpecOk Tryz.prog 61 sE8:=xX4 oM7 mixed Tryz.func61 (by kernel_rfl) (bs:=[]) (by kernel_rfl) trivial fun x=>by kernel_rfl
def rC2 (p0:D74) (p1:D57):Prop × Bool :=
 (True,(p0.1 == p1.2.2.2.2.2.2.2.2.2.2.2.2.2.2.2.2.2.2.2.2.2.2.2.2.2.2.1))
def uJ0 (p0:D74) (p1:D57):Prop:=(rC2 p0 p1).1
def pS0 (p0:D74) (p1:D57):Bool:=(rC2 p0 p1).2
instance (p0:D74) (p1:D57):Decidable (uJ0 p0 p1):=by
 unfold uJ0 rC2
 try dsimp only
 infer_instance
def tO1:Am.Spec:=fnSpec [(0,(.val T74)),(1,(.val (.ptr T57)))] vB [] (fun x=>uJ0 x.1 x.2.1) (fun x=>pS0 x.1 x.2.1) (fun _=>())
def rY5:Ctx:=Cx tys [] [] [] false 9 [] []
theorem rY6:CtxOk Tryz.prog rY5:=xV6 tys_ok rfl trivial rfl (by kernel_rfl)
theorem qK1:SpecOk Tryz.prog 60 tO1:=xX4 rY6 mixed Tryz.func60 (by kernel_rfl) (bs:=[]) (by kernel_rfl) trivial fun x=>by kernel_rfl
abbrev wH4:Type:=((List D74) × (D57 × Unit) × Int × Unit)
abbrev wC2:Type:=(Int × Unit)
def wX4 (y:wH4) (x:wC2):Prop × Bool × wC2 × Bool × Bool :=
 let a0:=y.1
 let a1:=y.2.1
 let a8:=x.1
 let v9:=(decide (a8 < y.2.2.1))
 let v14:=(nth a0 a8 Z74)
 let v16:=(pS0 v14 a1.1)
 ((v9 = true → (InB a8 (len a0) ∧ ((uJ0 v14 a1.1) ∧ ((!v16) = true → InR (a8 + 1))))),(v9 && (!v16)),((a8 + 1),()),(v9 && v16),(!v9))
def vC4 (y:wH4) (x:wC2):Prop:=(wX4 y x).1
def uA3 (y:wH4) (x:wC2):Bool:=(wX4 y x).2.1
def vE2 (y:wH4) (x:wC2):wC2:=(wX4 y x).2.2.1
def uX1 (y:wH4) (x:wC2):Bool:=(wX4 y x).2.2.2.1
def sS7 (y:wH4) (x:wC2):Bool:=(wX4 y x).2.2.2.2
instance (y:wH4) (x:wC2):Decidable (vC4 y x):=by
 unfold vC4 wX4
 try dsimp only
 infer_instance
def vX6 (y:wH4) (x:wC2):Int :=
 x.1
def vX7:St → Option Out:=xO8 [(0,(.val (.sl T74))),(1,(.fn 60 (.cons (.val (.ptr T57)) .nl))),(7,vI)] [(8,vI)] uA3 vE2 vC4 fun y x=>[ex 1 (some (uX1 y x)) [(4,vI)] ((vX6 y x),()),ex 2 (some (sS7 y x)) [] ()]
def rC3 (p0:(List D74)) (p1:(D57 × Unit)):Prop × Int :=
 let y2:=(p0,(p1.1,()),(len p0),())
 let x2:=((0:Int),())
 let e2:=(zB9 (uA3 y2) (vE2 y2) x2)
 ((Am.Ends (uA3 y2) (vE2 y2) (vC4 y2) x2),(bif (uX1 y2 e2) then (vX6 y2 e2) else (-1:Int)))
def vQ4 (p0:(List D74)) (p1:(D57 × Unit)):Prop:=(rC3 p0 p1).1
def pS1 (p0:(List D74)) (p1:(D57 × Unit)):Int:=(rC3 p0 p1).2
instance (p0:(List D74)) (p1:(D57 × Unit)):Decidable (vQ4 p0 p1):=by
 unfold vQ4 rC3
 try dsimp only
 infer_instance
def tO2:Am.Spec:=fnSpec [(0,(.val (.sl T74))),(1,(.fn 60 (.cons (.val (.ptr T57)) .nl)))] vI [] (fun x=>vQ4 x.1 x.2.1) (fun x=>pS1 x.1 x.2.1) (fun _=>())
def tX7:Ctx:=Cx tys [(60,tO1)] [(2,vX7)] [] false 19 [] []
theorem tX8:CtxOk Tryz.prog tX7:=xV6 tys_ok rfl ⟨qK1,trivial⟩ rfl (by kernel_rfl)
noncomputable def rC4:Code:=Tryz.f86.body.getD .skip
noncomputable def sS8:Code:=xW5 rC4 0
theorem sS9:yU1 Tryz.prog tX7 sS8:=xX3 tX8 mixed (sp:=vX7) rfl [[(4,vI)],[]] (bs:=[]) (by kernel_rfl) trivial (by kernel_rfl) (by kernel_rfl) fun y x=>by kernel_rfl
theorem qK2:SpecOk Tryz.prog 86 tO2:=xX4 tX8 mixed Tryz.func86 (by kernel_rfl) (bs:=[sS8]) (by kernel_rfl) ⟨sS9,trivial⟩ fun x=>by kernel_rfl
def rC5 (p0:(List D74)) (p1:(D57 × Unit)):Prop × Bool :=
 let s:=(p1.1,())
 ((vQ4 p0 s),(decide ((pS1 p0 s) ≥ 0)))
def vQ5 (p0:(List D74)) (p1:(D57 × Unit)):Prop:=(rC5 p0 p1).1
def pS2 (p0:(List D74)) (p1:(D57 × Unit)):Bool:=(rC5 p0 p1).2
instance (p0:(List D74)) (p1:(D57 × Unit)):Decidable (vQ5 p0 p1):=by
 unfold vQ5 rC5
 try dsimp only
 infer_instance
def tO3:Am.Spec:=fnSpec [(0,(.val (.sl T74))),(1,(.fn 60 (.cons (.val (.ptr T57)) .nl)))] vB [] (fun x=>vQ5 x.1 x.2.1) (fun x=>pS2 x.1 x.2.1) (fun _=>())
def rY7:Ctx:=Cx tys [(86,tO2)] [] [] false 9 [] []
theorem rY8:CtxOk Tryz.prog rY7:=xV6 tys_ok rfl ⟨qK2,trivial⟩ rfl (by kernel_rfl)
theorem qK3:SpecOk Tryz.prog 59 tO3:=xX4 rY8 mixed Tryz.func59 (by kernel_rfl) (bs:=[]) (by kernel_rfl) trivial fun x=>by kernel_rfl
abbrev vC5:Type:=(D28 × (List D57) × Int × Unit)
abbrev wQ2:Type:=(Int × Unit)
def uO7 (y:vC5) (x:wQ2):Prop × Bool × wQ2 × Bool × Bool :=
 let a1:=y.1
 let a7:=y.2.1
 let a9:=x.1
 let v10:=(decide (a9 < y.2.2.1))
 let v11:=(nth a7 a9 Z57)
 let v16:=(v11.2.1 == 9)
 let s:=(v11,())
 let v21:=(!(pS2 a1.2.2.2.2.2.2.2.1 s))
 let v23:=(v11.2.1 == 10)
 let v27:=(f61 a1 v11.2.2.2.2.2.2.2.2.2.2.2.2.2.2.2.2.2.2.2.2.2.2.2.2.2.2.1)
 let v29:=(decide (v27 < 0))
 let v33:=(nth a1.2.2.2.1 v27 Z57)
 let v35:=(f56 v33)
 let c_6:=(bif v16 then (!v21) else (bif v23 then ((!v29) && (!v35)) else true))
 ((v10 = true → (InB a9 (len a7) ∧ ((v16 = true → (vQ5 a1.2.2.2.2.2.2.2.1 s)) ∧ ((v16 = false → (v23 = true → ((tX6 a1 v11.2.2.2.2.2.2.2.2.2.2.2.2.2.2.2.2.2.2.2.2.2.2.2.2.2.2.1) ∧ ((!v29) = true → (InB v27 (len a1.2.2.2.1) ∧ (tE v33)))))) ∧ (c_6 = true → InR (a9 + 1)))))),(v10 && c_6),((a9 + 1),()),(v10 && (bif v16 then v21 else ((v29 || ((!v29) && v35)) && v23))),(!v10))
def uJ1 (y:vC5) (x:wQ2):Prop:=(uO7 y x).1
def sE9 (y:vC5) (x:wQ2):Bool:=(uO7 y x).2.1
def uA4 (y:vC5) (x:wQ2):wQ2:=(uO7 y x).2.2.1
def sT (y:vC5) (x:wQ2):Bool:=(uO7 y x).2.2.2.1
def qK4 (y:vC5) (x:wQ2):Bool:=(uO7 y x).2.2.2.2
instance (y:vC5) (x:wQ2):Decidable (uJ1 y x):=by
 unfold uJ1 uO7
 try dsimp only
 infer_instance
def tO4 (y:vC5) (x:wQ2):Int :=
 let v11:=(nth y.2.1 x.1 Z57)
 (bif (v11.2.1 == 9) then (9:Int) else (bif (decide ((f61 y.1 v11.2.2.2.2.2.2.2.2.2.2.2.2.2.2.2.2.2.2.2.2.2.2.2.2.2.2.1) < 0)) then (9:Int) else (8:Int)))
def tO5:St → Option Out:=xO8 [(1,(.box T28 (.val T28))),(7,(.val (.sl T57))),(8,vI)] [(9,vI)] sE9 uA4 uJ1 fun y x=>[ex 1 (some (sT y x)) [(2,vI)] ((tO4 y x),()),ex 2 (some (qK4 y x)) [] ()]
def f36t (p0:D28):Prop × Int :=
 let y2:=(p0,p0.2.2.2.1,(len p0.2.2.2.1),())
 let x2:=((0:Int),())
 let e2:=(zB9 (sE9 y2) (uA4 y2) x2)
 ((Am.Ends (sE9 y2) (uA4 y2) (uJ1 y2) x2),(bif (sT y2 e2) then (tO4 y2 e2) else (0:Int)))
def sT0 (p0:D28):Prop:=(f36t p0).1
def f36 (p0:D28):Int:=(f36t p0).2
instance (p0:D28):Decidable (sT0 p0):=by
 unfold sT0 f36t
 try dsimp only
 infer_instance
def rO0:Am.Spec:=fnSpec [(0,(.val T28))] vI [] (fun x=>sT0 x.1) (fun x=>f36 x.1) (fun _=>())
def qK5:Ctx:=Cx tys [(56,uY8),(59,tO3),(61,sE8)] [(2,tO5)] [(12,[(3,4,0,0)])] false 37 [] []
theorem qK6:CtxOk Tryz.prog qK5:=xV6 tys_ok rfl ⟨qD3,qK3,pS,trivial⟩ rfl (by kernel_rfl)
noncomputable def pF8:Code:=Tryz.f36.body.getD .skip
noncomputable def pS3:Code:=xW5 pF8 0
theorem qK7:yU1 Tryz.prog qK5 pS3:=xX3 qK6 mixed (sp:=tO5) rfl [[(2,vI)],[]] (bs:=[]) (by kernel_rfl) trivial (by kernel_rfl) (by kernel_rfl) fun y x=>by kernel_rfl
theorem nB0:SpecOk Tryz.prog 36 rO0:=xX4 qK6 mixed Tryz.func36 (by kernel_rfl) (bs:=[pS3]) (by kernel_rfl) ⟨qK7,trivial⟩ fun x=>by kernel_rfl
abbrev vV4:Type:=(Int × D28 × (List D57) × Int × Unit)
abbrev wV1:Type:=((List Int) × Int × Unit)
def sF (y:vV4) (x:wV1):Prop × Bool × wV1 :=
 let a1:=y.1
 let a2:=y.2.1
 let a18:=y.2.2.1
 let a5:=x.1
 let a20:=x.2.1
 let v21:=(decide (a20 < y.2.2.2.1))
 let v33:=((nth a18 a20 Z57).2.2.1 == (nth a2.2.2.2.1 a1 Z57).1)
 let v36:=([a20]:List Int)
 ((v21 = true → (InB a20 (len a18) ∧ (InB a1 (len a2.2.2.2.1) ∧ ((v33 = true → ((List.length a5 + List.length v36:Nat):Int) ≤ 4294967296) ∧ InR (a20 + 1))))),v21,((bif v33 then (a5 ++ v36) else a5),(a20 + 1),()))
def vI4 (y:vV4) (x:wV1):Prop:=(sF y x).1
def vV5 (y:vV4) (x:wV1):Bool:=(sF y x).2.1
def wO8 (y:vV4) (x:wV1):wV1:=(sF y x).2.2
instance (y:vV4) (x:wV1):Decidable (vI4 y x):=by
 unfold vI4 sF
 try dsimp only
 infer_instance
def uA5 (y:vV4) (x:wV1):(List Int) :=
 x.1
def sT1:List (Nat × Sh):=[(5,(.own (.int .i64) 1005 false))]
def tO6:St → Option Out:=xO8 [(1,vI),(2,(.box T28 (.val T28))),(18,(.val (.sl T57))),(19,vI)] [(5,(.own (.int .i64) 1005 false)),(20,vI)] vV5 wO8 vI4 fun y x=>[ex 3 none sT1 ((uA5 y x),())]
def f63t (p0:D28) (p1:Int):Prop × (List Int) :=
 let v12:=(nth p0.2.2.2.1 p1 Z57)
 let v16:=(v12.2.1 == 1)
 let y5:=(p1,p0,p0.2.2.2.1,(len p0.2.2.2.1),())
 let x5:=(([]:List Int),(0:Int),())
 let v40:=(v12.2.1 == 10)
 let v45:=(nth p0.2.2.2.1 p1 Z57)
 let v48:=(f61 p0 v45.2.2.2.2.2.2.2.2.2.2.2.2.2.2.2.2.2.2.2.2.2.2.2.2.2.2.1)
 let v50:=(decide (v48 ≥ 0))
 let v53:=([v48]:List Int)
 ((InB p1 (len p0.2.2.2.1) ∧ ((v16 = true → (Am.Ends (vV5 y5) (wO8 y5) (vI4 y5) x5)) ∧ (v16 = false → (v40 = true → (InB p1 (len p0.2.2.2.1) ∧ ((tX6 p0 v45.2.2.2.2.2.2.2.2.2.2.2.2.2.2.2.2.2.2.2.2.2.2.2.2.2.2.1) ∧ (v50 = true → (List.length v53:Int) ≤ 4294967296))))))),(bif v16 then (uA5 y5 (zB9 (vV5 y5) (wO8 y5) x5)) else (bif v40 then (bif v50 then v53 else []) else [])))
def sT2 (p0:D28) (p1:Int):Prop:=(f63t p0 p1).1
def f63 (p0:D28) (p1:Int):(List Int):=(f63t p0 p1).2
instance (p0:D28) (p1:Int):Decidable (sT2 p0 p1):=by
 unfold sT2 f63t
 try dsimp only
 infer_instance
def rO1:Am.Spec:=fnSpec [(0,(.val T28)),(1,vI)] (.own (.int .i64) 0 false) [] (fun x=>sT2 x.1 x.2.1) (fun x=>f63 x.1 x.2.1) (fun _=>())
def qK8:Ctx:=Cx tys [(61,sE8)] [(5,tO6)] [(17,[(4,0,37,1005)]),(27,[(4,0,54,1005)]),(29,[(4,0,1005,0)])] false 56 [] []
theorem qK9:CtxOk Tryz.prog qK8:=xV6 tys_ok rfl ⟨pS,trivial⟩ rfl (by kernel_rfl)
noncomputable def pF9:Code:=Tryz.f63.body.getD .skip
noncomputable def pS4:Code:=xW5 pF9 0
theorem qL:yU1 Tryz.prog qK8 pS4:=xX3 qK9 mixed (sp:=tO6) rfl [sT1] (bs:=[]) (by kernel_rfl) trivial (by kernel_rfl) (by kernel_rfl) fun y x=>by kernel_rfl
theorem nB1:SpecOk Tryz.prog 63 rO1:=xX4 qK9 mixed Tryz.func63 (by kernel_rfl) (bs:=[pS4]) (by kernel_rfl) ⟨qL,trivial⟩ fun x=>by kernel_rfl
abbrev xY9:Type:=Int → (List Bool) → (List Bool) → D28 → Unit → Prop × Bool × ((List Bool) × (List Bool) × D28 × Unit)
def vI5 (r:xY9):Am.Spec:=fnSpec [(0,vI),(1,(.box (.sl .bool) (.own .bool 400100 true))),(2,(.box (.sl .bool) (.own .bool 400200 true))),(3,(.box T28 (.val T28))),(4,(.fptr 62 [some (1,(.sl .bool)),some (2,(.sl .bool)),some (3,T28),none]))] vB [(1,(.box (.sl .bool) (.own .bool 400100 true))),(2,(.box (.sl .bool) (.own .bool 400200 true))),(3,(.box T28 (.val T28)))] (fun x=>(r x.1 x.2.1 x.2.2.1 x.2.2.2.1 x.2.2.2.2.1).1) (fun x=>(r x.1 x.2.1 x.2.2.1 x.2.2.2.1 x.2.2.2.2.1).2.1) (fun x=>(r x.1 x.2.1 x.2.2.1 x.2.2.2.1 x.2.2.2.2.1).2.2)
abbrev xZ5:Type:=(Int × Unit × (List Int) × Int × Unit)
abbrev xY2:Type:=((List Bool) × (List Bool) × D28 × Int × Unit)
def wX5 (r:xY9) (y:xZ5) (x:xY2):Prop × Bool × xY2 × Bool × Bool :=
 let a29:=y.2.2.1
 let a1:=x.1
 let a2:=x.2.1
 let a3:=x.2.2.1
 let a31:=x.2.2.2.1
 let v32:=(decide (a31 < y.2.2.2.1))
 let v33:=(nth a29 a31 (0:Int))
 let v37:=(r v33 a1 a2 a3 ()).2.1
 let v37o:=(r v33 a1 a2 a3 ()).2.2
 ((v32 = true → (InB a31 (len a29) ∧ ((r v33 a1 a2 a3 ()).1 ∧ ((!v37) = true → InR (a31 + 1))))),(v32 && (!v37)),(v37o.1,v37o.2.1,v37o.2.2.1,(a31 + 1),()),(v32 && v37),(!v32))
def wH5 (r:xY9) (y:xZ5) (x:xY2):Prop:=((wX5 r) y x).1
def wC3 (r:xY9) (y:xZ5) (x:xY2):Bool:=((wX5 r) y x).2.1
def xZ3 (r:xY9) (y:xZ5) (x:xY2):xY2:=((wX5 r) y x).2.2.1
def vQ6 (r:xY9) (y:xZ5) (x:xY2):Bool:=((wX5 r) y x).2.2.2.1
def uX2 (r:xY9) (y:xZ5) (x:xY2):Bool:=((wX5 r) y x).2.2.2.2
instance (r:xY9) [∀ q0 q1 q2 q3 q4,Decidable (r q0 q1 q2 q3 q4).1] (y:xZ5) (x:xY2):Decidable ((wH5 r) y x):=by
 unfold wH5 wX5
 try dsimp only
 infer_instance
def vE3 (r:xY9) (y:xZ5) (x:xY2):(List Bool) :=
 ((r (nth y.2.2.1 x.2.2.2.1 (0:Int)) x.1 x.2.1 x.2.2.1 ()).2.2).1
def vE4 (r:xY9) (y:xZ5) (x:xY2):(List Bool) :=
 ((r (nth y.2.2.1 x.2.2.2.1 (0:Int)) x.1 x.2.1 x.2.2.1 ()).2.2).2.1
def vE5 (r:xY9) (y:xZ5) (x:xY2):D28 :=
 ((r (nth y.2.2.1 x.2.2.2.1 (0:Int)) x.1 x.2.1 x.2.2.1 ()).2.2).2.2.1
def vX8 (r:xY9) (y:xZ5) (x:xY2):Bool :=
 true
def uX3:List (Nat × Sh):=[(1,(.box (.sl .bool) (.own .bool 400100 true))),(2,(.box (.sl .bool) (.own .bool 400200 true))),(3,(.box T28 (.val T28))),(6,vB)]
def vE6 (r:xY9) (y:xZ5) (x:xY2):(List Bool) :=
 x.1
def vE7 (r:xY9) (y:xZ5) (x:xY2):(List Bool) :=
 x.2.1
def vE8 (r:xY9) (y:xZ5) (x:xY2):D28 :=
 x.2.2.1
def uX4:List (Nat × Sh):=[(0,vI),(1,(.box (.sl .bool) (.own .bool 400100 true))),(2,(.box (.sl .bool) (.own .bool 400200 true))),(3,(.box T28 (.val T28)))]
def vX9 (r:xY9):St → Option Out:=xO8 [(0,vI),(4,(.fptr 62 [some (1,(.sl .bool)),some (2,(.sl .bool)),some (3,T28),none])),(29,(.own (.int .i64) 29 false)),(30,vI)] [(1,(.box (.sl .bool) (.own .bool 400100 true))),(2,(.box (.sl .bool) (.own .bool 400200 true))),(3,(.box T28 (.val T28))),(31,vI)] (wC3 r) (xZ3 r) (wH5 r) fun y x=>[ex 1 (some ((vQ6 r) y x)) uX3 (((vE3 r) y x),((vE4 r) y x),((vE5 r) y x),((vX8 r) y x),()),ex 2 (some ((uX2 r) y x)) uX4 (y.1,((vE6 r) y x),((vE7 r) y x),((vE8 r) y x),())]
def vQ7 (r:xY9) (p0:Int) (p1:(List Bool)) (p2:(List Bool)) (p3:D28) (p4:Unit):Prop × Bool × ((List Bool) × (List Bool) × D28 × Unit) :=
 let v12:=(nth p1 p0 false)
 let v18:=(bif v12 then true else (nth p2 p0 false))
 let v29:=(f63 p3 p0)
 let y5:=(p0,(),v29,(len v29),())
 let x5:=(p1,(List.set p2 (Int.toNat p0) true),p3,(0:Int),())
 let e5:=(zB9 ((wC3 r) y5) ((xZ3 r) y5) x5)
 let q5_1:=((vQ6 r) y5 e5)
 let r5_2_0:=((vE6 r) y5 e5)
 ((InB p0 (len p1) ∧ (p0 < len p1 ∧ (((!v12) = true → InB p0 (len p2)) ∧ (((!v12) = true → p0 < len p2) ∧ ((v18 = true → (InB p0 (len p1) ∧ p0 < len p1)) ∧ ((!v18) = true → (InB p0 (len p2) ∧ (p0 < len p2 ∧ ((sT2 p3 p0) ∧ ((Am.Ends ((wC3 r) y5) ((xZ3 r) y5) ((wH5 r) y5) x5) ∧ (((uX2 r) y5 e5) = true → (InB p0 (len r5_2_0) ∧ p0 < len r5_2_0)))))))))))),(bif v18 then (!(nth p1 p0 false)) else (bif q5_1 then ((vX8 r) y5 e5) else false)),((bif v18 then p1 else (bif q5_1 then ((vE3 r) y5 e5) else (List.set r5_2_0 (Int.toNat p0) true))),(bif v18 then p2 else (bif q5_1 then ((vE4 r) y5 e5) else ((vE7 r) y5 e5))),(bif v18 then p3 else (bif q5_1 then ((vE5 r) y5 e5) else ((vE8 r) y5 e5))),()))
def tX9 (r:xY9):Ctx:={ Cx tys [(62,vI5 r),(63,rO1)] [(5,(vX9 r))] [] false 42 [1,2,3] [] with wants:=[(62,[])],fts:=fts }
theorem tY (r:xY9) (hr:SpecOk Tryz.prog 62 (vI5 r)):CtxOk Tryz.prog (tX9 r):=xV6 tys_ok (by kernel_rfl) ⟨hr,nB1,trivial⟩ rfl (by kernel_rfl)
noncomputable def rC6:Code:=Tryz.f62.body.getD .skip
noncomputable def sT3:Code:=xW5 rC6 0
theorem sT4 (r:xY9) (hr:SpecOk Tryz.prog 62 (vI5 r)):yU1 Tryz.prog (tX9 r) sT3:=xX3 (tY r hr) mixed (sp:=(vX9 r)) rfl [uX3,uX4] (bs:=[]) (by kernel_rfl) trivial (by kernel_rfl) (by kernel_rfl) fun y x=>by kernel_rfl
instance (r:xY9) [∀ q0 q1 q2 q3 q4,Decidable (r q0 q1 q2 q3 q4).1] (p0:Int) (p1:(List Bool)) (p2:(List Bool)) (p3:D28) (p4:Unit):Decidable (vQ7 r p0 p1 p2 p3 p4).1:=by
 unfold vQ7
 try dsimp only
 infer_instance
theorem rC7 (r:xY9) (hr:SpecOk Tryz.prog 62 (vI5 r)):SpecOk Tryz.prog 62 (vI5 (vQ7 r)):=xX4 (tY r hr) mixed Tryz.func62 (by kernel_rfl) (bs:=[sT3]) (by kernel_rfl) ⟨sT4 r hr,trivial⟩ fun x=>by kernel_rfl
def wI4:Nat → xY9
 | 0=>fun _ _ _ _ _=>(False,false,(([]:List Bool),([]:List Bool),Z28,()))
 | k + 1=>vQ7 (wI4 k)
theorem tY0:∀ k,SpecOk Tryz.prog 62 (vI5 (wI4 k))
 | 0=>xS9 Tryz.func62 (by kernel_rfl) (by decide)
 | k + 1=>rC7 _ (tY0 k)
def tA4 (p0:Int) (p1:(List Bool)) (p2:(List Bool)) (p3:D28) (p4:Unit):Nat:=(List.length p1 + 1)
def uJ2 (p0:Int) (p1:(List Bool)) (p2:(List Bool)) (p3:D28) (p4:Unit):Prop:=(wI4 (tA4 p0 p1 p2 p3 p4) p0 p1 p2 p3 p4).1
def pS5 (p0:Int) (p1:(List Bool)) (p2:(List Bool)) (p3:D28) (p4:Unit):Bool:=(wI4 (tA4 p0 p1 p2 p3 p4) p0 p1 p2 p3 p4).2.1
def sF0 (p0:Int) (p1:(List Bool)) (p2:(List Bool)) (p3:D28) (p4:Unit):((List Bool) × (List Bool) × D28 × Unit):=(wI4 (tA4 p0 p1 p2 p3 p4) p0 p1 p2 p3 p4).2.2
def tY1:∀ (k:Nat) (p0:Int) (p1:(List Bool)) (p2:(List Bool)) (p3:D28) (p4:Unit),Decidable (wI4 k p0 p1 p2 p3 p4).1
 | 0,_,_,_,_,_=>isFalse id
 | k + 1,p0,p1,p2,p3,p4=>by
  have:∀ (q0:Int) (q1:(List Bool)) (q2:(List Bool)) (q3:D28) (q4:Unit),Decidable (wI4 k q0 q1 q2 q3 q4).1:=tY1 k
  exact inferInstanceAs (Decidable (vQ7 (wI4 k) p0 p1 p2 p3 p4).1)
instance (p0:Int) (p1:(List Bool)) (p2:(List Bool)) (p3:D28) (p4:Unit):Decidable (uJ2 p0 p1 p2 p3 p4):=tY1 _ p0 p1 p2 p3 p4
def tO7:Am.Spec:=fnSpec [(0,vI),(1,(.box (.sl .bool) (.own .bool 400100 true))),(2,(.box (.sl .bool) (.own .bool 400200 true))),(3,(.box T28 (.val T28))),(4,(.fptr 62 [some (1,(.sl .bool)),some (2,(.sl .bool)),some (3,T28),none]))] vB [(1,(.box (.sl .bool) (.own .bool 400100 true))),(2,(.box (.sl .bool) (.own .bool 400200 true))),(3,(.box T28 (.val T28)))] (fun x=>uJ2 x.1 x.2.1 x.2.2.1 x.2.2.2.1 x.2.2.2.2.1) (fun x=>pS5 x.1 x.2.1 x.2.2.1 x.2.2.2.1 x.2.2.2.2.1) (fun x=>sF0 x.1 x.2.1 x.2.2.1 x.2.2.2.1 x.2.2.2.2.1)
theorem qL0:SpecOk Tryz.prog 62 tO7:=xU3 (ps:=[(0,vI),(1,(.box (.sl .bool) (.own .bool 400100 true))),(2,(.box (.sl .bool) (.own .bool 400200 true))),(3,(.box T28 (.val T28))),(4,(.fptr 62 [some (1,(.sl .bool)),some (2,(.sl .bool)),some (3,T28),none]))]) (rs:=vB) (os:=[(1,(.box (.sl .bool) (.own .bool 400100 true))),(2,(.box (.sl .bool) (.own .bool 400200 true))),(3,(.box T28 (.val T28)))]) (R:=fun k x=>wI4 k x.1 x.2.1 x.2.2.1 x.2.2.2.1 x.2.2.2.2.1) tY0 fun x=>tA4 x.1 x.2.1 x.2.2.1 x.2.2.2.1 x.2.2.2.2.1
abbrev vC6:Type:=(Unit × Int × Unit)
abbrev wK9:Type:=(D28 × (List Bool) × (List Bool) × Int × Unit)
def uO8 (y:vC6) (x:wK9):Prop × Bool × wK9 × Bool × Bool :=
 let a1:=x.1
 let a3:=x.2.1
 let a4:=x.2.2.1
 let a19:=x.2.2.2.1
 let v20:=(decide (a19 < y.2.1))
 let v24:=(pS5 a19 a4 a3 a1 ())
 let v24o:=(sF0 a19 a4 a3 a1 ())
 ((v20 = true → ((uJ2 a19 a4 a3 a1 ()) ∧ ((!v24) = true → InR (a19 + 1)))),(v20 && (!v24)),(v24o.2.2.1,v24o.2.1,v24o.1,(a19 + 1),()),(v20 && v24),(!v20))
def vQ8 (y:vC6) (x:wK9):Prop:=(uO8 y x).1
def tA5 (y:vC6) (x:wK9):Bool:=(uO8 y x).2.1
def vL8 (y:vC6) (x:wK9):wK9:=(uO8 y x).2.2.1
def sT5 (y:vC6) (x:wK9):Bool:=(uO8 y x).2.2.2.1
def qL1 (y:vC6) (x:wK9):Bool:=(uO8 y x).2.2.2.2
instance (y:vC6) (x:wK9):Decidable (vQ8 y x):=by
 unfold vQ8 uO8
 try dsimp only
 infer_instance
def tO8 (y:vC6) (x:wK9):Bool :=
 true
def tO9:St → Option Out:=xO8 [(5,(.fptr 62 [some (4,(.sl .bool)),some (3,(.sl .bool)),some (1,T28),none])),(18,vI)] [(1,(.box T28 (.val T28))),(3,(.box (.sl .bool) (.own .bool 400300 true))),(4,(.box (.sl .bool) (.own .bool 400400 true))),(19,vI)] tA5 vL8 vQ8 fun y x=>[ex 1 (some (sT5 y x)) [(2,vB)] ((tO8 y x),()),ex 2 (some (qL1 y x)) [] ()]
def f37t (p0:D28):Prop × Bool :=
 let v9:=(len p0.2.2.2.1)
 let v13:=(len p0.2.2.2.1)
 let y6:=((),(len p0.2.2.2.1),())
 let x6:=(p0,(List.replicate (Int.toNat v9) false),(List.replicate (Int.toNat v13) false),(0:Int),())
 let e6:=(zB9 (tA5 y6) (vL8 y6) x6)
 (((0 ≤ v9 ∧ v9 ≤ v9 ∧ v9 ≤ 4294967296) ∧ ((0 ≤ v13 ∧ v13 ≤ v13 ∧ v13 ≤ 4294967296) ∧ (Am.Ends (tA5 y6) (vL8 y6) (vQ8 y6) x6))),(bif (sT5 y6 e6) then (tO8 y6 e6) else false))
def sT6 (p0:D28):Prop:=(f37t p0).1
def f37 (p0:D28):Bool:=(f37t p0).2
instance (p0:D28):Decidable (sT6 p0):=by
 unfold sT6 f37t
 try dsimp only
 infer_instance
def rO2:Am.Spec:=fnSpec [(0,(.val T28))] vB [] (fun x=>sT6 x.1) (fun x=>f37 x.1) (fun _=>())
def qL2:Ctx:={ Cx tys [(62,tO7)] [(6,tO9)] [(3,[(4,0,10,400300)]),(5,[(4,0,14,400400)])] false 26 [] [10,14] with wants:=[(62,[])],fts:=fts }
theorem qL3:CtxOk Tryz.prog qL2:=xV6 tys_ok (by kernel_rfl) ⟨qL0,trivial⟩ rfl (by kernel_rfl)
noncomputable def pG:Code:=Tryz.f37.body.getD .skip
noncomputable def pS6:Code:=xW5 pG 0
theorem qL4:yU1 Tryz.prog qL2 pS6:=xX3 qL3 mixed (sp:=tO9) rfl [[(2,vB)],[]] (bs:=[]) (by kernel_rfl) trivial (by kernel_rfl) (by kernel_rfl) fun y x=>by kernel_rfl
theorem nB2:SpecOk Tryz.prog 37 rO2:=xX4 qL3 mixed Tryz.func37 (by kernel_rfl) (bs:=[pS6]) (by kernel_rfl) ⟨qL4,trivial⟩ fun x=>by kernel_rfl
abbrev wT8:Type:=((List UInt8) × Int × Int × Unit)
abbrev wK2:Type:=(Int × Unit)
def vV6 (y:wT8) (x:wK2):Prop × Bool × wK2 × Bool × Bool :=
 let a0:=y.1
 let a19:=x.1
 let v20:=(decide (a19 < y.2.2.1))
 let v26:=(decide ((xW8 a0 a19) < y.2.1))
 let v32:=(bif v26 then true else (decide ((xW8 a0 a19) > 126)))
 ((v20 = true → (InB a19 (len a0) ∧ (((!v26) = true → InB a19 (len a0)) ∧ ((!v32) = true → InR (a19 + 1))))),(v20 && (!v32)),((a19 + 1),()),(v20 && v32),(!v20))
def vV7 (y:wT8) (x:wK2):Prop:=(vV6 y x).1
def tP (y:wT8) (x:wK2):Bool:=(vV6 y x).2.1
def vQ9 (y:wT8) (x:wK2):wK2:=(vV6 y x).2.2.1
def tY2 (y:wT8) (x:wK2):Bool:=(vV6 y x).2.2.2.1
def rY9 (y:wT8) (x:wK2):Bool:=(vV6 y x).2.2.2.2
instance (y:wT8) (x:wK2):Decidable (vV7 y x):=by
 unfold vV7 vV6
 try dsimp only
 infer_instance
def uX5 (y:wT8) (x:wK2):Bool :=
 false
def uX6:St → Option Out:=xO8 [(0,vS),(2,(.val (.int .u8))),(18,vI)] [(19,vI)] tP vQ9 vV7 fun y x=>[ex 1 (some (tY2 y x)) [(6,vB)] ((uX5 y x),()),ex 2 (some (rY9 y x)) [] ()]
def oM8 (p0:(List UInt8)) (p1:Int) (p2:Int):Prop × Bool :=
 let v16:=(bif (decide ((len p0) < 1)) then true else (decide ((len p0) > p1)))
 let y4:=(p0,p2,(len p0),())
 let x4:=((0:Int),())
 let e4:=(zB9 (tP y4) (vQ9 y4) x4)
 (((!v16) = true → (Am.Ends (tP y4) (vQ9 y4) (vV7 y4) x4)),(bif v16 then false else (bif (tY2 y4 e4) then (uX5 y4 e4) else true)))
def uO9 (p0:(List UInt8)) (p1:Int) (p2:Int):Prop:=(oM8 p0 p1 p2).1
def f107 (p0:(List UInt8)) (p1:Int) (p2:Int):Bool:=(oM8 p0 p1 p2).2
instance (p0:(List UInt8)) (p1:Int) (p2:Int):Decidable (uO9 p0 p1 p2):=by
 unfold uO9 oM8
 try dsimp only
 infer_instance
def tP0:Am.Spec:=fnSpec [(0,vS),(1,vI),(2,(.val (.int .u8)))] vB [] (fun x=>uO9 x.1 x.2.1 x.2.2.1) (fun x=>f107 x.1 x.2.1 x.2.2.1) (fun _=>())
def rO3:Ctx:=Cx tys [] [(4,uX6)] [] false 34 [] []
theorem rO4:CtxOk Tryz.prog rO3:=xV6 tys_ok rfl trivial rfl (by kernel_rfl)
noncomputable def qL5:Code:=Tryz.f107.body.getD .skip
noncomputable def qL6:Code:=xW5 qL5 0
theorem rZ:yU1 Tryz.prog rO3 qL6:=xX3 rO4 mixed (sp:=uX6) rfl [[(6,vB)],[]] (bs:=[]) (by kernel_rfl) trivial (by kernel_rfl) (by kernel_rfl) fun y x=>by kernel_rfl
theorem qL7:SpecOk Tryz.prog 107 tP0:=xX4 rO4 mixed Tryz.func107 (by kernel_rfl) (bs:=[qL6]) (by kernel_rfl) ⟨rZ,trivial⟩ fun x=>by kernel_rfl
def f89t (p0:(List UInt8)):Prop × Bool :=
 ((uO9 p0 (32:Int) (33:Int)),(f107 p0 (32:Int) (33:Int)))
def rO5 (p0:(List UInt8)):Prop:=(f89t p0).1
def f89 (p0:(List UInt8)):Bool:=(f89t p0).2
instance (p0:(List UInt8)):Decidable (rO5 p0):=by
 unfold rO5 f89t
 try dsimp only
 infer_instance
def rO6:Am.Spec:=fnSpec [(0,vS)] vB [] (fun x=>rO5 x.1) (fun x=>f89 x.1) (fun _=>())
def oM9:Ctx:=Cx tys [(107,tP0)] [] [] false 5 [] []
theorem oN:CtxOk Tryz.prog oM9:=xV6 tys_ok rfl ⟨qL7,trivial⟩ rfl (by kernel_rfl)
theorem nB3:SpecOk Tryz.prog 89 rO6:=xX4 oN mixed Tryz.func89 (by kernel_rfl) (bs:=[]) (by kernel_rfl) trivial fun x=>by kernel_rfl
def f90t (p0:(List UInt8)):Prop × Bool :=
 ((uO9 p0 (256:Int) (32:Int)),(f107 p0 (256:Int) (32:Int)))
def rO7 (p0:(List UInt8)):Prop:=(f90t p0).1
def f90 (p0:(List UInt8)):Bool:=(f90t p0).2
instance (p0:(List UInt8)):Decidable (rO7 p0):=by
 unfold rO7 f90t
 try dsimp only
 infer_instance
def rO8:Am.Spec:=fnSpec [(0,vS)] vB [] (fun x=>rO7 x.1) (fun x=>f90 x.1) (fun _=>())
def oN0:Ctx:=Cx tys [(107,tP0)] [] [] false 5 [] []
theorem oN1:CtxOk Tryz.prog oN0:=xV6 tys_ok rfl ⟨qL7,trivial⟩ rfl (by kernel_rfl)
theorem nB4:SpecOk Tryz.prog 90 rO8:=xX4 oN1 mixed Tryz.func90 (by kernel_rfl) (bs:=[]) (by kernel_rfl) trivial fun x=>by kernel_rfl
def f65t (p0:(List D66)) (p1:D66):Prop × Int :=
 let v8:=(!(f89 p1.1))
 let v12:=(!(f90 p1.2.1))
 let v15:=(decide ((len p0) > 0))
 let v21:=(len p0)
 let v22:=(v21 - 1)
 let v23:=(nth p0 v22 Z66)
 (((rO5 p1.1) ∧ ((!v8) = true → ((rO7 p1.2.1) ∧ ((!v12) = true → ((v15 = true → InR (v21 - 1)) ∧ (v15 = true → InB v22 (len p0))))))),(bif v8 then (13:Int) else (bif v12 then (4:Int) else (bif (bif v15 then (Op.bytesLess p1.1 v23.1 || p1.1 == v23.1) else false) then (24:Int) else (0:Int)))))
def sT7 (p0:(List D66)) (p1:D66):Prop:=(f65t p0 p1).1
def f65 (p0:(List D66)) (p1:D66):Int:=(f65t p0 p1).2
instance (p0:(List D66)) (p1:D66):Decidable (sT7 p0 p1):=by
 unfold sT7 f65t
 try dsimp only
 infer_instance
def rO9:Am.Spec:=fnSpec [(0,(.val (.sl T66))),(1,(.val T66))] vI [] (fun x=>sT7 x.1 x.2.1) (fun x=>f65 x.1 x.2.1) (fun _=>())
def oN2:Ctx:=Cx tys [(89,rO6),(90,rO8)] [] [] false 28 [] []
theorem oN3:CtxOk Tryz.prog oN2:=xV6 tys_ok rfl ⟨nB3,nB4,trivial⟩ rfl (by kernel_rfl)
theorem nB5:SpecOk Tryz.prog 65 rO9:=xX4 oN3 mixed Tryz.func65 (by kernel_rfl) (bs:=[]) (by kernel_rfl) trivial fun x=>by kernel_rfl
abbrev vC7:Type:=((List D66) × (List D66) × Int × Unit)
abbrev wQ3:Type:=(Int × Unit)
def uP (y:vC7) (x:wQ3):Prop × Bool × wQ3 × Bool × Bool :=
 let a0:=y.1
 let a9:=y.2.1
 let a11:=x.1
 let v12:=(decide (a11 < y.2.2.1))
 let v14:=(nth a9 a11 Z66)
 let v18:=(List.take (Int.toNat a11) a0)
 let v22:=((f65 v18 v14) != 0)
 ((v12 = true → (InB a11 (len a9) ∧ ((0 ≤ a11 ∧ a11 ≤ len a0) ∧ ((sT7 v18 v14) ∧ ((!v22) = true → InR (a11 + 1)))))),(v12 && (!v22)),((a11 + 1),()),(v12 && v22),(!v12))
def uJ3 (y:vC7) (x:wQ3):Prop:=(uP y x).1
def sF1 (y:vC7) (x:wQ3):Bool:=(uP y x).2.1
def uA6 (y:vC7) (x:wQ3):wQ3:=(uP y x).2.2.1
def sT8 (y:vC7) (x:wQ3):Bool:=(uP y x).2.2.2.1
def qL8 (y:vC7) (x:wQ3):Bool:=(uP y x).2.2.2.2
instance (y:vC7) (x:wQ3):Decidable (uJ3 y x):=by
 unfold uJ3 uP
 try dsimp only
 infer_instance
def tP1 (y:vC7) (x:wQ3):Int :=
 let a11:=x.1
 (f65 (List.take (Int.toNat a11) y.1) (nth y.2.1 a11 Z66))
def tP2:St → Option Out:=xO8 [(0,(.val (.sl T66))),(9,(.val (.sl T66))),(10,vI)] [(11,vI)] sF1 uA6 uJ3 fun y x=>[ex 1 (some (sT8 y x)) [(2,vI)] ((tP1 y x),()),ex 2 (some (qL8 y x)) [] ()]
def f39t (p0:(List D66)):Prop × Int :=
 let v8:=(decide ((len p0) > 16))
 let y4:=(p0,p0,(len p0),())
 let x4:=((0:Int),())
 let e4:=(zB9 (sF1 y4) (uA6 y4) x4)
 (((!v8) = true → (Am.Ends (sF1 y4) (uA6 y4) (uJ3 y4) x4)),(bif v8 then (3:Int) else (bif (sT8 y4 e4) then (tP1 y4 e4) else (0:Int))))
def sT9 (p0:(List D66)):Prop:=(f39t p0).1
def f39 (p0:(List D66)):Int:=(f39t p0).2
instance (p0:(List D66)):Decidable (sT9 p0):=by
 unfold sT9 f39t
 try dsimp only
 infer_instance
def rP:Am.Spec:=fnSpec [(0,(.val (.sl T66)))] vI [] (fun x=>sT9 x.1) (fun x=>f39 x.1) (fun _=>())
def qL9:Ctx:=Cx tys [(65,rO9)] [(4,tP2)] [] false 25 [] []
theorem qM:CtxOk Tryz.prog qL9:=xV6 tys_ok rfl ⟨nB5,trivial⟩ rfl (by kernel_rfl)
noncomputable def pG0:Code:=Tryz.f39.body.getD .skip
noncomputable def pS7:Code:=xW5 pG0 0
theorem qM0:yU1 Tryz.prog qL9 pS7:=xX3 qM mixed (sp:=tP2) rfl [[(2,vI)],[]] (bs:=[]) (by kernel_rfl) trivial (by kernel_rfl) (by kernel_rfl) fun y x=>by kernel_rfl
theorem nB6:SpecOk Tryz.prog 39 rP:=xX4 qM mixed Tryz.func39 (by kernel_rfl) (bs:=[pS7]) (by kernel_rfl) ⟨qM0,trivial⟩ fun x=>by kernel_rfl
def f13t (p0:D28):Prop × Int :=
 let v10:=(f32 p0)
 let v12:=(v10 != 0)
 let v23:=(bif (decide ((len p0.2.2.2.1) > 64)) then true else (decide ((len p0.2.2.2.2.2.2.2.1) > 8)))
 let v31:=(bif (decide (p0.2.2.2.2.1 < 1)) then true else (decide (p0.2.2.2.2.1 > 1073741824)))
 let v33:=(f33 p0)
 let v35:=(v33 != 0)
 let v38:=(f34 p0)
 let v40:=(v38 != 0)
 let v43:=(f35 p0)
 let v45:=(v43 != 0)
 let v48:=(f36 p0)
 let v50:=(v48 != 0)
 let v53:=(f37 p0)
 let v56:=(f38 p0.2.2.2.2.2.1)
 let v58:=(v56 != 0)
 let v79:=(bif (p0.2.2.2.2.2.1.1 != 0) then (bif (p0.2.2.2.2.2.1.1 != p0.1) then true else (p0.2.2.2.2.2.1.2.1 != p0.2.1)) else false)
 let m2_6:=(bif v35 then v33 else (bif v40 then v38 else (bif v45 then v43 else (bif v50 then v48 else (bif v53 then (11:Int) else (bif v58 then v56 else (bif v79 then (15:Int) else (f39 p0.2.2.2.2.2.2.1))))))))
 (((tT6 p0) ∧ ((!v12) = true → ((!v23) = true → ((!v31) = true → ((sR5 p0) ∧ ((!v35) = true → ((sR8 p0) ∧ ((!v40) = true → ((sS3 p0) ∧ ((!v45) = true → ((sT0 p0) ∧ ((!v50) = true → ((sT6 p0) ∧ ((!v53) = true → ((tT7 p0.2.2.2.2.2.1) ∧ ((!v58) = true → ((!v79) = true → (sT9 p0.2.2.2.2.2.2.1)))))))))))))))))),(bif v12 then v10 else (bif v23 then (3:Int) else (bif v31 then (2:Int) else m2_6))))
def uX7 (p0:D28):Prop:=(f13t p0).1
def f13 (p0:D28):Int:=(f13t p0).2
instance (p0:D28):Decidable (uX7 p0):=by
 unfold uX7 f13t
 try dsimp only
 infer_instance
def sF2:Am.Spec:=fnSpec [(0,(.val T28))] vI [] (fun x=>uX7 x.1) (fun x=>f13 x.1) (fun _=>())
def oN4:Ctx:=Cx tys [(32,rI9),(33,rN7),(34,rN8),(35,rO),(36,rO0),(37,rO2),(38,sB1),(39,rP)] [] [] false 83 [] []
theorem oN5:CtxOk Tryz.prog oN4:=xV6 tys_ok rfl ⟨oZ3,nA7,nA8,nB,nB0,nB2,pQ7,nB6,trivial⟩ rfl (by kernel_rfl)
theorem pS8:SpecOk Tryz.prog 13 sF2:=xX4 oN5 mixed Tryz.func13 (by kernel_rfl) (bs:=[]) (by kernel_rfl) trivial fun x=>by kernel_rfl
def f14t (p0:D28):Prop × D50 :=
 (True,(p0.1,p0.2.1,p0.2.2.1,p0.2.2.2.2.1,()))
def tY3 (p0:D28):Prop:=(f14t p0).1
def f14 (p0:D28):D50:=(f14t p0).2
instance (p0:D28):Decidable (tY3 p0):=by
 unfold tY3 f14t
 try dsimp only
 infer_instance
def sF3:Am.Spec:=fnSpec [(0,(.val T28))] (.val T50) [] (fun x=>tY3 x.1) (fun x=>f14 x.1) (fun _=>())
def oN6:Ctx:=Cx tys [] [] [] false 12 [] []
theorem oN7:CtxOk Tryz.prog oN6:=xV6 tys_ok rfl trivial rfl (by kernel_rfl)
theorem pS9:SpecOk Tryz.prog 14 sF3:=xX4 oN7 mixed Tryz.func14 (by kernel_rfl) (bs:=[]) (by kernel_rfl) trivial fun x=>by kernel_rfl
def oN8 (p0:Unit):Prop × (List Int) :=
 (((!true) = true → ((List.length ([]:List Int) + List.length ([]:List Int):Nat):Int) ≤ 4294967296),(bif true then [] else (([]:List Int) ++ ([]:List Int))))
def rC8 (p0:Unit):Prop:=(oN8 p0).1
def f41a (p0:Unit):(List Int):=(oN8 p0).2
instance (p0:Unit):Decidable (rC8 p0):=by
 unfold rC8 oN8
 try dsimp only
 infer_instance
def qM1:Am.Spec:=fnSpec [(0,(.nn true))] (.own (.int .i64) 0 false) [] (fun x=>rC8 x.1) (fun x=>f41a x.1) (fun _=>())
def pG1:Ctx:=Cx tys [] [] [(7,[(4,0,7,0)])] false 8 [] []
theorem pG2:CtxOk Tryz.prog pG1:=xV6 tys_ok rfl trivial rfl (by kernel_rfl)
theorem oN9:SpecOk Tryz.prog 41 qM1:=xX4 pG2 mixed Tryz.func41 (by kernel_rfl) (bs:=[]) (by kernel_rfl) trivial fun x=>by kernel_rfl
def oO (p0:Unit):Prop × (List Int) :=
 (((!false) = true → ((List.length ([]:List Int) + List.length ([]:List Int):Nat):Int) ≤ 4294967296),(bif false then [] else (([]:List Int) ++ ([]:List Int))))
def rC9 (p0:Unit):Prop:=(oO p0).1
def f41b (p0:Unit):(List Int):=(oO p0).2
instance (p0:Unit):Decidable (rC9 p0):=by
 unfold rC9 oO
 try dsimp only
 infer_instance
def qM2:Am.Spec:=fnSpec [(0,(.nn false))] (.own (.int .i64) 0 false) [] (fun x=>rC9 x.1) (fun x=>f41b x.1) (fun _=>())
def pG3:Ctx:=Cx tys [] [] [(7,[(4,0,7,0)])] false 8 [] []
theorem pG4:CtxOk Tryz.prog pG3:=xV6 tys_ok rfl trivial rfl (by kernel_rfl)
theorem oO0:SpecOk Tryz.prog 41 qM2:=xX4 pG4 mixed Tryz.func41 (by kernel_rfl) (bs:=[]) (by kernel_rfl) trivial fun x=>by kernel_rfl
def oO1 (p0:(List Int)):Prop × (List Int) :=
 ((0 < List.length p0 ∧ ((!false) = true → ((List.length ([]:List Int) + List.length p0:Nat):Int) ≤ 4294967296)),(bif false then [] else (([]:List Int) ++ p0)))
def rD (p0:(List Int)):Prop:=(oO1 p0).1
def f41c (p0:(List Int)):(List Int):=(oO1 p0).2
instance (p0:(List Int)):Decidable (rD p0):=by
 unfold rD oO1
 try dsimp only
 infer_instance
def qM3:Am.Spec:=fnSpec [(0,(.val (.sl (.int .i64))))] (.own (.int .i64) 0 false) [] (fun x=>rD x.1) (fun x=>f41c x.1) (fun _=>())
def pG5:Ctx:=Cx tys [] [] [(7,[(4,0,7,0)])] false 8 [] []
theorem pG6:CtxOk Tryz.prog pG5:=xV6 tys_ok rfl trivial rfl (by kernel_rfl)
theorem oO2:SpecOk Tryz.prog 41 qM3:=xX4 pG6 mixed Tryz.func41 (by kernel_rfl) (bs:=[]) (by kernel_rfl) trivial fun x=>by kernel_rfl
def f41 (p0:(List Int)):(List Int):=p0
def uX8 (p0:(List Int)):Prop:=(List.length p0:Int) ≤ 4294967296
instance (p0:(List Int)):Decidable (uX8 p0):=by
  unfold uX8
  infer_instance
def nB7:List (Nat × Sh):=[(0,(.val (.sl (.int .i64))))]
def pT:Sh:=(.own (.int .i64) 0 false)
def nB8:List (Nat × Sh):=[]
def sF4:Am.Spec:=fnSpec nB7 pT nB8 (fun x=>uX8 x.1) (fun x=>f41 x.1) (fun _=>())
theorem pT0:SpecOk Tryz.prog 41 sF4:=xU7 (rs:=pT) (F:=f41) (ok:=uX8) oN9 oO0 oO2 (of_decide_eq_true (by kernel_rfl)) (of_decide_eq_true (by kernel_rfl)) (fun l h hp=>⟨hp,fun _=>by simpa [uX8] using h⟩) rfl rfl (fun _=>rfl)
def oO3 (p0:Unit):Prop × (List D50) :=
 (((!true) = true → ((List.length ([]:List D50) + List.length ([]:List D50):Nat):Int) ≤ 4294967296),(bif true then [] else (([]:List D50) ++ ([]:List D50))))
def rD0 (p0:Unit):Prop:=(oO3 p0).1
def f46a (p0:Unit):(List D50):=(oO3 p0).2
instance (p0:Unit):Decidable (rD0 p0):=by
 unfold rD0 oO3
 try dsimp only
 infer_instance
def qM4:Am.Spec:=fnSpec [(0,(.nn true))] (.own T50 0 false) [] (fun x=>rD0 x.1) (fun x=>f46a x.1) (fun _=>())
def pG7:Ctx:=Cx tys [] [] [(7,[(4,0,7,0)])] false 8 [] []
theorem pG8:CtxOk Tryz.prog pG7:=xV6 tys_ok rfl trivial rfl (by kernel_rfl)
theorem oO4:SpecOk Tryz.prog 46 qM4:=xX4 pG8 mixed Tryz.func46 (by kernel_rfl) (bs:=[]) (by kernel_rfl) trivial fun x=>by kernel_rfl
def oO5 (p0:Unit):Prop × (List D50) :=
 (((!false) = true → ((List.length ([]:List D50) + List.length ([]:List D50):Nat):Int) ≤ 4294967296),(bif false then [] else (([]:List D50) ++ ([]:List D50))))
def rD1 (p0:Unit):Prop:=(oO5 p0).1
def f46b (p0:Unit):(List D50):=(oO5 p0).2
instance (p0:Unit):Decidable (rD1 p0):=by
 unfold rD1 oO5
 try dsimp only
 infer_instance
def qM5:Am.Spec:=fnSpec [(0,(.nn false))] (.own T50 0 false) [] (fun x=>rD1 x.1) (fun x=>f46b x.1) (fun _=>())
def pG9:Ctx:=Cx tys [] [] [(7,[(4,0,7,0)])] false 8 [] []
theorem pH:CtxOk Tryz.prog pG9:=xV6 tys_ok rfl trivial rfl (by kernel_rfl)
theorem oO6:SpecOk Tryz.prog 46 qM5:=xX4 pH mixed Tryz.func46 (by kernel_rfl) (bs:=[]) (by kernel_rfl) trivial fun x=>by kernel_rfl
def oO7 (p0:(List D50)):Prop × (List D50) :=
 ((0 < List.length p0 ∧ ((!false) = true → ((List.length ([]:List D50) + List.length p0:Nat):Int) ≤ 4294967296)),(bif false then [] else (([]:List D50) ++ p0)))
def rD2 (p0:(List D50)):Prop:=(oO7 p0).1
def f46c (p0:(List D50)):(List D50):=(oO7 p0).2
instance (p0:(List D50)):Decidable (rD2 p0):=by
 unfold rD2 oO7
 try dsimp only
 infer_instance
def qM6:Am.Spec:=fnSpec [(0,(.val (.sl T50)))] (.own T50 0 false) [] (fun x=>rD2 x.1) (fun x=>f46c x.1) (fun _=>())
def pH0:Ctx:=Cx tys [] [] [(7,[(4,0,7,0)])] false 8 [] []
theorem pH1:CtxOk Tryz.prog pH0:=xV6 tys_ok rfl trivial rfl (by kernel_rfl)
theorem oO8:SpecOk Tryz.prog 46 qM6:=xX4 pH1 mixed Tryz.func46 (by kernel_rfl) (bs:=[]) (by kernel_rfl) trivial fun x=>by kernel_rfl
def f46 (p0:(List D50)):(List D50):=p0
def tP3 (p0:(List D50)):Prop:=(List.length p0:Int) ≤ 4294967296
instance (p0:(List D50)):Decidable (tP3 p0):=by
  unfold tP3
  infer_instance
def nB9:List (Nat × Sh):=[(0,(.val (.sl T50)))]
def pT1:Sh:=(.own T50 0 false)
def nC:List (Nat × Sh):=[]
def sF5:Am.Spec:=fnSpec nB9 pT1 nC (fun x=>tP3 x.1) (fun x=>f46 x.1) (fun _=>())
theorem pT2:SpecOk Tryz.prog 46 sF5:=xU7 (rs:=pT1) (F:=f46) (ok:=tP3) oO4 oO6 oO8 (of_decide_eq_true (by kernel_rfl)) (of_decide_eq_true (by kernel_rfl)) (fun l h hp=>⟨hp,fun _=>by simpa [tP3] using h⟩) rfl rfl (fun _=>rfl)
def oO9 (p0:Unit):Prop × (List D91) :=
 (((!true) = true → ((List.length ([]:List D91) + List.length ([]:List D91):Nat):Int) ≤ 4294967296),(bif true then [] else (([]:List D91) ++ ([]:List D91))))
def rD3 (p0:Unit):Prop:=(oO9 p0).1
def f66a (p0:Unit):(List D91):=(oO9 p0).2
instance (p0:Unit):Decidable (rD3 p0):=by
 unfold rD3 oO9
 try dsimp only
 infer_instance
def qM7:Am.Spec:=fnSpec [(0,(.nn true))] (.own T91 0 false) [] (fun x=>rD3 x.1) (fun x=>f66a x.1) (fun _=>())
def pH2:Ctx:=Cx tys [] [] [(7,[(4,0,7,0)])] false 8 [] []
theorem pH3:CtxOk Tryz.prog pH2:=xV6 tys_ok rfl trivial rfl (by kernel_rfl)
theorem oP:SpecOk Tryz.prog 66 qM7:=xX4 pH3 mixed Tryz.func66 (by kernel_rfl) (bs:=[]) (by kernel_rfl) trivial fun x=>by kernel_rfl
def oP0 (p0:Unit):Prop × (List D91) :=
 (((!false) = true → ((List.length ([]:List D91) + List.length ([]:List D91):Nat):Int) ≤ 4294967296),(bif false then [] else (([]:List D91) ++ ([]:List D91))))
def rD4 (p0:Unit):Prop:=(oP0 p0).1
def f66b (p0:Unit):(List D91):=(oP0 p0).2
instance (p0:Unit):Decidable (rD4 p0):=by
 unfold rD4 oP0
 try dsimp only
 infer_instance
def qM8:Am.Spec:=fnSpec [(0,(.nn false))] (.own T91 0 false) [] (fun x=>rD4 x.1) (fun x=>f66b x.1) (fun _=>())
def pH4:Ctx:=Cx tys [] [] [(7,[(4,0,7,0)])] false 8 [] []
theorem pH5:CtxOk Tryz.prog pH4:=xV6 tys_ok rfl trivial rfl (by kernel_rfl)
theorem oP1:SpecOk Tryz.prog 66 qM8:=xX4 pH5 mixed Tryz.func66 (by kernel_rfl) (bs:=[]) (by kernel_rfl) trivial fun x=>by kernel_rfl
def oP2 (p0:(List D91)):Prop × (List D91) :=
 ((0 < List.length p0 ∧ ((!false) = true → ((List.length ([]:List D91) + List.length p0:Nat):Int) ≤ 4294967296)),(bif false then [] else (([]:List D91) ++ p0)))
def rD5 (p0:(List D91)):Prop:=(oP2 p0).1
def f66c (p0:(List D91)):(List D91):=(oP2 p0).2
instance (p0:(List D91)):Decidable (rD5 p0):=by
 unfold rD5 oP2
 try dsimp only
 infer_instance
def qM9:Am.Spec:=fnSpec [(0,(.val (.sl T91)))] (.own T91 0 false) [] (fun x=>rD5 x.1) (fun x=>f66c x.1) (fun _=>())
def pH6:Ctx:=Cx tys [] [] [(7,[(4,0,7,0)])] false 8 [] []
theorem pH7:CtxOk Tryz.prog pH6:=xV6 tys_ok rfl trivial rfl (by kernel_rfl)
theorem oP3:SpecOk Tryz.prog 66 qM9:=xX4 pH7 mixed Tryz.func66 (by kernel_rfl) (bs:=[]) (by kernel_rfl) trivial fun x=>by kernel_rfl
def f66 (p0:(List D91)):(List D91):=p0
def tY4 (p0:(List D91)):Prop:=(List.length p0:Int) ≤ 4294967296
instance (p0:(List D91)):Decidable (tY4 p0):=by
  unfold tY4
  infer_instance
def nC0:List (Nat × Sh):=[(0,(.val (.sl T91)))]
def pT3:Sh:=(.own T91 0 false)
def nC1:List (Nat × Sh):=[]
def rP0:Am.Spec:=fnSpec nC0 pT3 nC1 (fun x=>tY4 x.1) (fun x=>f66 x.1) (fun _=>())
theorem nC2:SpecOk Tryz.prog 66 rP0:=xU7 (rs:=pT3) (F:=f66) (ok:=tY4) oP oP1 oP3 (of_decide_eq_true (by kernel_rfl)) (of_decide_eq_true (by kernel_rfl)) (fun l h hp=>⟨hp,fun _=>by simpa [tY4] using h⟩) rfl rfl (fun _=>rfl)
def oP4 (p0:Unit):Prop × (List D97) :=
 (((!true) = true → ((List.length ([]:List D97) + List.length ([]:List D97):Nat):Int) ≤ 4294967296),(bif true then [] else (([]:List D97) ++ ([]:List D97))))
def rD6 (p0:Unit):Prop:=(oP4 p0).1
def f67a (p0:Unit):(List D97):=(oP4 p0).2
instance (p0:Unit):Decidable (rD6 p0):=by
 unfold rD6 oP4
 try dsimp only
 infer_instance
def qN:Am.Spec:=fnSpec [(0,(.nn true))] (.own T97 0 false) [] (fun x=>rD6 x.1) (fun x=>f67a x.1) (fun _=>())
def pH8:Ctx:=Cx tys [] [] [(7,[(4,0,7,0)])] false 8 [] []
theorem pH9:CtxOk Tryz.prog pH8:=xV6 tys_ok rfl trivial rfl (by kernel_rfl)
theorem oP5:SpecOk Tryz.prog 67 qN:=xX4 pH9 mixed Tryz.func67 (by kernel_rfl) (bs:=[]) (by kernel_rfl) trivial fun x=>by kernel_rfl
def oP6 (p0:Unit):Prop × (List D97) :=
 (((!false) = true → ((List.length ([]:List D97) + List.length ([]:List D97):Nat):Int) ≤ 4294967296),(bif false then [] else (([]:List D97) ++ ([]:List D97))))
def rD7 (p0:Unit):Prop:=(oP6 p0).1
def f67b (p0:Unit):(List D97):=(oP6 p0).2
instance (p0:Unit):Decidable (rD7 p0):=by
 unfold rD7 oP6
 try dsimp only
 infer_instance
def qN0:Am.Spec:=fnSpec [(0,(.nn false))] (.own T97 0 false) [] (fun x=>rD7 x.1) (fun x=>f67b x.1) (fun _=>())
def pI:Ctx:=Cx tys [] [] [(7,[(4,0,7,0)])] false 8 [] []
theorem pI0:CtxOk Tryz.prog pI:=xV6 tys_ok rfl trivial rfl (by kernel_rfl)
theorem oP7:SpecOk Tryz.prog 67 qN0:=xX4 pI0 mixed Tryz.func67 (by kernel_rfl) (bs:=[]) (by kernel_rfl) trivial fun x=>by kernel_rfl
def oP8 (p0:(List D97)):Prop × (List D97) :=
 ((0 < List.length p0 ∧ ((!false) = true → ((List.length ([]:List D97) + List.length p0:Nat):Int) ≤ 4294967296)),(bif false then [] else (([]:List D97) ++ p0)))
def rD8 (p0:(List D97)):Prop:=(oP8 p0).1
def f67c (p0:(List D97)):(List D97):=(oP8 p0).2
instance (p0:(List D97)):Decidable (rD8 p0):=by
 unfold rD8 oP8
 try dsimp only
 infer_instance
def qN1:Am.Spec:=fnSpec [(0,(.val (.sl T97)))] (.own T97 0 false) [] (fun x=>rD8 x.1) (fun x=>f67c x.1) (fun _=>())
def pI1:Ctx:=Cx tys [] [] [(7,[(4,0,7,0)])] false 8 [] []
theorem pI2:CtxOk Tryz.prog pI1:=xV6 tys_ok rfl trivial rfl (by kernel_rfl)
theorem oP9:SpecOk Tryz.prog 67 qN1:=xX4 pI2 mixed Tryz.func67 (by kernel_rfl) (bs:=[]) (by kernel_rfl) trivial fun x=>by kernel_rfl
def f67 (p0:(List D97)):(List D97):=p0
def tY5 (p0:(List D97)):Prop:=(List.length p0:Int) ≤ 4294967296
instance (p0:(List D97)):Decidable (tY5 p0):=by
  unfold tY5
  infer_instance
def nC3:List (Nat × Sh):=[(0,(.val (.sl T97)))]
def pT4:Sh:=(.own T97 0 false)
def nC4:List (Nat × Sh):=[]
def rP1:Am.Spec:=fnSpec nC3 pT4 nC4 (fun x=>tY5 x.1) (fun x=>f67 x.1) (fun _=>())
theorem nC5:SpecOk Tryz.prog 67 rP1:=xU7 (rs:=pT4) (F:=f67) (ok:=tY5) oP5 oP7 oP9 (of_decide_eq_true (by kernel_rfl)) (of_decide_eq_true (by kernel_rfl)) (fun l h hp=>⟨hp,fun _=>by simpa [tY5] using h⟩) rfl rfl (fun _=>rfl)
def oQ (p0:Unit):Prop × (List D94) :=
 (((!true) = true → ((List.length ([]:List D94) + List.length ([]:List D94):Nat):Int) ≤ 4294967296),(bif true then [] else (([]:List D94) ++ ([]:List D94))))
def rD9 (p0:Unit):Prop:=(oQ p0).1
def f68a (p0:Unit):(List D94):=(oQ p0).2
instance (p0:Unit):Decidable (rD9 p0):=by
 unfold rD9 oQ
 try dsimp only
 infer_instance
def qN2:Am.Spec:=fnSpec [(0,(.nn true))] (.own T94 0 false) [] (fun x=>rD9 x.1) (fun x=>f68a x.1) (fun _=>())
def pI3:Ctx:=Cx tys [] [] [(7,[(4,0,7,0)])] false 8 [] []
theorem pI4:CtxOk Tryz.prog pI3:=xV6 tys_ok rfl trivial rfl (by kernel_rfl)
theorem oQ0:SpecOk Tryz.prog 68 qN2:=xX4 pI4 mixed Tryz.func68 (by kernel_rfl) (bs:=[]) (by kernel_rfl) trivial fun x=>by kernel_rfl
def oQ1 (p0:Unit):Prop × (List D94) :=
 (((!false) = true → ((List.length ([]:List D94) + List.length ([]:List D94):Nat):Int) ≤ 4294967296),(bif false then [] else (([]:List D94) ++ ([]:List D94))))
def rE (p0:Unit):Prop:=(oQ1 p0).1
def f68b (p0:Unit):(List D94):=(oQ1 p0).2
instance (p0:Unit):Decidable (rE p0):=by
 unfold rE oQ1
 try dsimp only
 infer_instance
def qN3:Am.Spec:=fnSpec [(0,(.nn false))] (.own T94 0 false) [] (fun x=>rE x.1) (fun x=>f68b x.1) (fun _=>())
def pI5:Ctx:=Cx tys [] [] [(7,[(4,0,7,0)])] false 8 [] []
theorem pI6:CtxOk Tryz.prog pI5:=xV6 tys_ok rfl trivial rfl (by kernel_rfl)
theorem oQ2:SpecOk Tryz.prog 68 qN3:=xX4 pI6 mixed Tryz.func68 (by kernel_rfl) (bs:=[]) (by kernel_rfl) trivial fun x=>by kernel_rfl
def oQ3 (p0:(List D94)):Prop × (List D94) :=
 ((0 < List.length p0 ∧ ((!false) = true → ((List.length ([]:List D94) + List.length p0:Nat):Int) ≤ 4294967296)),(bif false then [] else (([]:List D94) ++ p0)))
def rE0 (p0:(List D94)):Prop:=(oQ3 p0).1
def f68c (p0:(List D94)):(List D94):=(oQ3 p0).2
instance (p0:(List D94)):Decidable (rE0 p0):=by
 unfold rE0 oQ3
 try dsimp only
 infer_instance
def qN4:Am.Spec:=fnSpec [(0,(.val (.sl T94)))] (.own T94 0 false) [] (fun x=>rE0 x.1) (fun x=>f68c x.1) (fun _=>())
def pI7:Ctx:=Cx tys [] [] [(7,[(4,0,7,0)])] false 8 [] []
theorem pI8:CtxOk Tryz.prog pI7:=xV6 tys_ok rfl trivial rfl (by kernel_rfl)
theorem oQ4:SpecOk Tryz.prog 68 qN4:=xX4 pI8 mixed Tryz.func68 (by kernel_rfl) (bs:=[]) (by kernel_rfl) trivial fun x=>by kernel_rfl
def f68 (p0:(List D94)):(List D94):=p0
def tY6 (p0:(List D94)):Prop:=(List.length p0:Int) ≤ 4294967296
instance (p0:(List D94)):Decidable (tY6 p0):=by
  unfold tY6
  infer_instance
def nC6:List (Nat × Sh):=[(0,(.val (.sl T94)))]
def pT5:Sh:=(.own T94 0 false)
def nC7:List (Nat × Sh):=[]
def rP2:Am.Spec:=fnSpec nC6 pT5 nC7 (fun x=>tY6 x.1) (fun x=>f68 x.1) (fun _=>())
theorem nC8:SpecOk Tryz.prog 68 rP2:=xU7 (rs:=pT5) (F:=f68) (ok:=tY6) oQ0 oQ2 oQ4 (of_decide_eq_true (by kernel_rfl)) (of_decide_eq_true (by kernel_rfl)) (fun l h hp=>⟨hp,fun _=>by simpa [tY6] using h⟩) rfl rfl (fun _=>rfl)
def f40t (p0:D57) (p1:D57):Prop × (D57 × Int × Unit) :=
 let v10:=(p0.2.1 != p1.2.1)
 let s_20:=(p1.2.2.2.2.2.2.2.2.2.2.2.2.2.2.2.2.2.2.2.2.2.2.2.2.2.2.2.1.1,p1.2.2.2.2.2.2.2.2.2.2.2.2.2.2.2.2.2.2.2.2.2.2.2.2.2.2.2.1.2.1,p1.2.2.2.2.2.2.2.2.2.2.2.2.2.2.2.2.2.2.2.2.2.2.2.2.2.2.2.1.2.2.1,(f68 p1.2.2.2.2.2.2.2.2.2.2.2.2.2.2.2.2.2.2.2.2.2.2.2.2.2.2.2.1.2.2.2.1),())
 let s_21:=(p0.1,p0.2.1,p0.2.2.1,p0.2.2.2.1,p0.2.2.2.2.1,p0.2.2.2.2.2.1,p0.2.2.2.2.2.2.1,p0.2.2.2.2.2.2.2.1,p0.2.2.2.2.2.2.2.2.1,(p0.2.2.2.2.2.2.2.2.2.1.1,p0.2.2.2.2.2.2.2.2.2.1.2.1,(f41 p0.2.2.2.2.2.2.2.2.2.1.2.2.1),()),p0.2.2.2.2.2.2.2.2.2.2.1,p0.2.2.2.2.2.2.2.2.2.2.2.1,(p1.2.2.2.2.2.2.2.2.2.2.2.2.1.1,p1.2.2.2.2.2.2.2.2.2.2.2.2.1.2.1,(f46 p1.2.2.2.2.2.2.2.2.2.2.2.2.1.2.2.1),()),p1.2.2.2.2.2.2.2.2.2.2.2.2.2.1,p1.2.2.2.2.2.2.2.2.2.2.2.2.2.2.1,(f41 p1.2.2.2.2.2.2.2.2.2.2.2.2.2.2.2.1),p1.2.2.2.2.2.2.2.2.2.2.2.2.2.2.2.2.1,(f66 p1.2.2.2.2.2.2.2.2.2.2.2.2.2.2.2.2.2.1),(f67 p1.2.2.2.2.2.2.2.2.2.2.2.2.2.2.2.2.2.2.1),p1.2.2.2.2.2.2.2.2.2.2.2.2.2.2.2.2.2.2.2.1,p1.2.2.2.2.2.2.2.2.2.2.2.2.2.2.2.2.2.2.2.2.1,p1.2.2.2.2.2.2.2.2.2.2.2.2.2.2.2.2.2.2.2.2.2.1,p1.2.2.2.2.2.2.2.2.2.2.2.2.2.2.2.2.2.2.2.2.2.2.1,p1.2.2.2.2.2.2.2.2.2.2.2.2.2.2.2.2.2.2.2.2.2.2.2.1,p1.2.2.2.2.2.2.2.2.2.2.2.2.2.2.2.2.2.2.2.2.2.2.2.2.1,p1.2.2.2.2.2.2.2.2.2.2.2.2.2.2.2.2.2.2.2.2.2.2.2.2.2.1,p1.2.2.2.2.2.2.2.2.2.2.2.2.2.2.2.2.2.2.2.2.2.2.2.2.2.2.1,s_20,())
 let s_25:=((0:Int),(0:Int),(0:Int),([]:List UInt8),false,false,false,(0:Int),(0:Int),((0:Int),(0:Int),([]:List Int),()),Z45,(0:Int),((0:Int),(0:Int),([]:List D50),()),Z50,(0:Int),([]:List Int),(0:Int),([]:List D91),([]:List D97),(0:Int),(0:Int),(0:Int),(0:Int),([]:List UInt8),(0:Int),(0:Int),(0:Int),((0:Int),(0:Int),(0:Int),([]:List D94),()),())
 (((!v10) = true → ((uX8 p0.2.2.2.2.2.2.2.2.2.1.2.2.1) ∧ ((tP3 p1.2.2.2.2.2.2.2.2.2.2.2.2.1.2.2.1) ∧ ((uX8 p1.2.2.2.2.2.2.2.2.2.2.2.2.2.2.2.1) ∧ ((tY4 p1.2.2.2.2.2.2.2.2.2.2.2.2.2.2.2.2.2.1) ∧ ((tY5 p1.2.2.2.2.2.2.2.2.2.2.2.2.2.2.2.2.2.2.1) ∧ (tY6 p1.2.2.2.2.2.2.2.2.2.2.2.2.2.2.2.2.2.2.2.2.2.2.2.2.2.2.2.1.2.2.2.1))))))),((bif v10 then s_25 else s_21),(bif v10 then (8:Int) else (0:Int)),()))
def sU (p0:D57) (p1:D57):Prop:=(f40t p0 p1).1
def f40 (p0:D57) (p1:D57):(D57 × Int × Unit):=(f40t p0 p1).2
instance (p0:D57) (p1:D57):Decidable (sU p0 p1):=by
 unfold sU f40t
 try dsimp only
 infer_instance
def rP3:Am.Spec:=fnSpec [(0,(.val T57)),(1,(.val T57))] (.tup (.cons (.val T57) (.cons vI .nl))) [] (fun x=>sU x.1 x.2.1) (fun x=>f40 x.1 x.2.1) (fun _=>())
def oQ5:Ctx:=Cx tys [(41,sF4),(46,sF5),(66,rP0),(67,rP1),(68,rP2)] [] [] false 82 [] []
theorem oQ6:CtxOk Tryz.prog oQ5:=xV6 tys_ok rfl ⟨pT0,pT2,nC2,nC5,nC8,trivial⟩ rfl (by kernel_rfl)
theorem nC9:SpecOk Tryz.prog 40 rP3:=xX4 oQ6 mixed Tryz.func40 (by kernel_rfl) (bs:=[]) (by kernel_rfl) trivial fun x=>by kernel_rfl
abbrev vV8:Type:=((List D57) × Int × Unit)
abbrev vC8:Type:=((List D57) × Int × Unit)
def sF6 (y:vV8) (x:vC8):Prop × Bool × vC8 :=
 let a9:=y.1
 let a3:=x.1
 let a11:=x.2.1
 let v12:=(decide (a11 < y.2.1))
 let v14:=(nth a9 a11 Z57)
 ((v12 = true → (InB a11 (len a9) ∧ ((sU v14 v14) ∧ (InB a11 (len a3) ∧ (a11 < len a3 ∧ InR (a11 + 1)))))),v12,((List.set a3 (Int.toNat a11) (f40 v14 v14).1),(a11 + 1),()))
def vR (y:vV8) (x:vC8):Prop:=(sF6 y x).1
def vV9 (y:vV8) (x:vC8):Bool:=(sF6 y x).2.1
def wL0 (y:vV8) (x:vC8):vC8:=(sF6 y x).2.2
instance (y:vV8) (x:vC8):Decidable (vR y x):=by
 unfold vR sF6
 try dsimp only
 infer_instance
def tP4 (y:vV8) (x:vC8):(List D57) :=
 x.1
def tP5:St → Option Out:=xO8 [(9,(.val (.sl T57))),(10,vI)] [(3,(.own T57 1003 true)),(11,vI)] vV9 wL0 vR fun y x=>[ex 2 none [(3,(.own T57 1003 true))] ((tP4 y x),())]
def f15t (p0:(List D57)):Prop × (List D57) :=
 let v7:=(len p0)
 let y3:=(p0,(len p0),())
 let x3:=((List.replicate (Int.toNat v7) Z57),(0:Int),())
 (((0 ≤ v7 ∧ v7 ≤ v7 ∧ v7 ≤ 4294967296) ∧ (Am.Ends (vV9 y3) (wL0 y3) (vR y3) x3)),(tP4 y3 (zB9 (vV9 y3) (wL0 y3) x3)))
def uJ4 (p0:(List D57)):Prop:=(f15t p0).1
def f15 (p0:(List D57)):(List D57):=(f15t p0).2
instance (p0:(List D57)):Decidable (uJ4 p0):=by
 unfold uJ4 f15t
 try dsimp only
 infer_instance
def tA6:Am.Spec:=fnSpec [(0,(.val (.sl T57)))] (.val (.sl T57)) [] (fun x=>uJ4 x.1) (fun x=>f15 x.1) (fun _=>())
def qN5:Ctx:=Cx tys [(40,rP3)] [(3,tP5)] [(3,[(4,0,8,1003)]),(15,[(1,2,0,0),(4,0,1003,0)])] false 27 [] [8]
theorem qN6:CtxOk Tryz.prog qN5:=xV6 tys_ok rfl ⟨nC9,trivial⟩ rfl (by kernel_rfl)
noncomputable def pI9:Code:=Tryz.f15.body.getD .skip
noncomputable def pT6:Code:=xW5 pI9 0
theorem qN7:yU1 Tryz.prog qN5 pT6:=xX3 qN6 mixed (sp:=tP5) rfl [[(3,(.own T57 1003 true))]] (bs:=[]) (by kernel_rfl) trivial (by kernel_rfl) (by kernel_rfl) fun y x=>by kernel_rfl
theorem qN8:SpecOk Tryz.prog 15 tA6:=xX4 qN6 mixed Tryz.func15 (by kernel_rfl) (bs:=[pT6]) (by kernel_rfl) ⟨qN7,trivial⟩ fun x=>by kernel_rfl
def f16t (p0:D24) (p1:D24):Prop × Bool :=
 let v16:=(bif (p0.1 == p1.1) then (p0.2.1 == p1.2.1) else false)
 ((v16 = true → (tD p0.2.2.1 p1.2.2.1)),(bif v16 then (f30 p0.2.2.1 p1.2.2.1) else false))
def uJ5 (p0:D24) (p1:D24):Prop:=(f16t p0 p1).1
def f16 (p0:D24) (p1:D24):Bool:=(f16t p0 p1).2
instance (p0:D24) (p1:D24):Decidable (uJ5 p0 p1):=by
 unfold uJ5 f16t
 try dsimp only
 infer_instance
def uJ6:Am.Spec:=fnSpec [(0,(.val T24)),(1,(.val T24))] vB [] (fun x=>uJ5 x.1 x.2.1) (fun x=>f16 x.1 x.2.1) (fun _=>())
def oQ7:Ctx:=Cx tys [(30,uY7)] [] [] false 24 [] []
theorem oQ8:CtxOk Tryz.prog oQ7:=xV6 tys_ok rfl ⟨qB4,trivial⟩ rfl (by kernel_rfl)
theorem rP4:SpecOk Tryz.prog 16 uJ6:=xX4 oQ8 mixed Tryz.func16 (by kernel_rfl) (bs:=[]) (by kernel_rfl) trivial fun x=>by kernel_rfl
def f17t (p0:D24):Prop × D24 :=
 ((uX8 p0.2.2.1),(p0.1,p0.2.1,(f41 p0.2.2.1),()))
def uJ7 (p0:D24):Prop:=(f17t p0).1
def f17 (p0:D24):D24:=(f17t p0).2
instance (p0:D24):Decidable (uJ7 p0):=by
 unfold uJ7 f17t
 try dsimp only
 infer_instance
def tA7:Am.Spec:=fnSpec [(0,(.val T24))] (.val T24) [] (fun x=>uJ7 x.1) (fun x=>f17 x.1) (fun _=>())
def oQ9:Ctx:=Cx tys [(41,sF4)] [] [] false 8 [] []
theorem oR:CtxOk Tryz.prog oQ9:=xV6 tys_ok rfl ⟨pT0,trivial⟩ rfl (by kernel_rfl)
theorem qN9:SpecOk Tryz.prog 17 tA7:=xX4 oR mixed Tryz.func17 (by kernel_rfl) (bs:=[]) (by kernel_rfl) trivial fun x=>by kernel_rfl
abbrev vC9:Type:=((List D66) × (List D66) × Int × Unit)
abbrev wQ4:Type:=(Int × Unit)
def uP0 (y:vC9) (x:wQ4):Prop × Bool × wQ4 × Bool × Bool :=
 let a0:=y.1
 let a1:=y.2.1
 let a13:=x.1
 let v14:=(decide (a13 < y.2.2.1))
 let v24:=(!(Ty.eqb T66 (nth a0 a13 Z66) (nth a1 a13 Z66)))
 ((v14 = true → (InB a13 (len a0) ∧ (InB a13 (len a1) ∧ ((!v24) = true → InR (a13 + 1))))),(v14 && (!v24)),((a13 + 1),()),(v14 && v24),(!v14))
def uJ8 (y:vC9) (x:wQ4):Prop:=(uP0 y x).1
def uJ9 (y:vC9) (x:wQ4):Bool:=(uP0 y x).2.1
def wZ5 (y:vC9) (x:wQ4):wQ4:=(uP0 y x).2.2.1
def sU0 (y:vC9) (x:wQ4):Bool:=(uP0 y x).2.2.2.1
def qO (y:vC9) (x:wQ4):Bool:=(uP0 y x).2.2.2.2
instance (y:vC9) (x:wQ4):Decidable (uJ8 y x):=by
 unfold uJ8 uP0
 try dsimp only
 infer_instance
def tP6 (y:vC9) (x:wQ4):Bool :=
 false
def tP7:St → Option Out:=xO8 [(0,(.val (.sl T66))),(1,(.val (.sl T66))),(12,vI)] [(13,vI)] uJ9 wZ5 uJ8 fun y x=>[ex 1 (some (sU0 y x)) [(4,vB)] ((tP6 y x),()),ex 2 (some (qO y x)) [] ()]
def f18t (p0:(List D66)) (p1:(List D66)):Prop × Bool :=
 let v10:=((len p0) != (len p1))
 let y4:=(p0,p1,(len p0),())
 let x4:=((0:Int),())
 let e4:=(zB9 (uJ9 y4) (wZ5 y4) x4)
 (((!v10) = true → (Am.Ends (uJ9 y4) (wZ5 y4) (uJ8 y4) x4)),(bif v10 then false else (bif (sU0 y4 e4) then (tP6 y4 e4) else true)))
def uK (p0:(List D66)) (p1:(List D66)):Prop:=(f18t p0 p1).1
def f18 (p0:(List D66)) (p1:(List D66)):Bool:=(f18t p0 p1).2
instance (p0:(List D66)) (p1:(List D66)):Decidable (uK p0 p1):=by
 unfold uK f18t
 try dsimp only
 infer_instance
def uK0:Am.Spec:=fnSpec [(0,(.val (.sl T66))),(1,(.val (.sl T66)))] vB [] (fun x=>uK x.1 x.2.1) (fun x=>f18 x.1 x.2.1) (fun _=>())
def qO0:Ctx:=Cx tys [] [(4,tP7)] [] false 26 [] []
theorem qO1:CtxOk Tryz.prog qO0:=xV6 tys_ok rfl trivial rfl (by kernel_rfl)
noncomputable def pJ:Code:=Tryz.f18.body.getD .skip
noncomputable def pT7:Code:=xW5 pJ 0
theorem qO2:yU1 Tryz.prog qO0 pT7:=xX3 qO1 mixed (sp:=tP7) rfl [[(4,vB)],[]] (bs:=[]) (by kernel_rfl) trivial (by kernel_rfl) (by kernel_rfl) fun y x=>by kernel_rfl
theorem rP5:SpecOk Tryz.prog 18 uK0:=xX4 qO1 mixed Tryz.func18 (by kernel_rfl) (bs:=[pT7]) (by kernel_rfl) ⟨qO2,trivial⟩ fun x=>by kernel_rfl
def oR0 (p0:Unit):Prop × (List D66) :=
 (((!true) = true → ((List.length ([]:List D66) + List.length ([]:List D66):Nat):Int) ≤ 4294967296),(bif true then [] else (([]:List D66) ++ ([]:List D66))))
def rE1 (p0:Unit):Prop:=(oR0 p0).1
def f19a (p0:Unit):(List D66):=(oR0 p0).2
instance (p0:Unit):Decidable (rE1 p0):=by
 unfold rE1 oR0
 try dsimp only
 infer_instance
def qO3:Am.Spec:=fnSpec [(0,(.nn true))] (.own T66 0 false) [] (fun x=>rE1 x.1) (fun x=>f19a x.1) (fun _=>())
def pJ0:Ctx:=Cx tys [] [] [(7,[(4,0,7,0)])] false 8 [] []
theorem pJ1:CtxOk Tryz.prog pJ0:=xV6 tys_ok rfl trivial rfl (by kernel_rfl)
theorem oR1:SpecOk Tryz.prog 19 qO3:=xX4 pJ1 mixed Tryz.func19 (by kernel_rfl) (bs:=[]) (by kernel_rfl) trivial fun x=>by kernel_rfl
def oR2 (p0:Unit):Prop × (List D66) :=
 (((!false) = true → ((List.length ([]:List D66) + List.length ([]:List D66):Nat):Int) ≤ 4294967296),(bif false then [] else (([]:List D66) ++ ([]:List D66))))
def rE2 (p0:Unit):Prop:=(oR2 p0).1
def f19b (p0:Unit):(List D66):=(oR2 p0).2
instance (p0:Unit):Decidable (rE2 p0):=by
 unfold rE2 oR2
 try dsimp only
 infer_instance
def qO4:Am.Spec:=fnSpec [(0,(.nn false))] (.own T66 0 false) [] (fun x=>rE2 x.1) (fun x=>f19b x.1) (fun _=>())
def pJ2:Ctx:=Cx tys [] [] [(7,[(4,0,7,0)])] false 8 [] []
theorem pJ3:CtxOk Tryz.prog pJ2:=xV6 tys_ok rfl trivial rfl (by kernel_rfl)
theorem oR3:SpecOk Tryz.prog 19 qO4:=xX4 pJ3 mixed Tryz.func19 (by kernel_rfl) (bs:=[]) (by kernel_rfl) trivial fun x=>by kernel_rfl
def oR4 (p0:(List D66)):Prop × (List D66) :=
 ((0 < List.length p0 ∧ ((!false) = true → ((List.length ([]:List D66) + List.length p0:Nat):Int) ≤ 4294967296)),(bif false then [] else (([]:List D66) ++ p0)))
def rE3 (p0:(List D66)):Prop:=(oR4 p0).1
def f19c (p0:(List D66)):(List D66):=(oR4 p0).2
instance (p0:(List D66)):Decidable (rE3 p0):=by
 unfold rE3 oR4
 try dsimp only
 infer_instance
def qO5:Am.Spec:=fnSpec [(0,(.val (.sl T66)))] (.own T66 0 false) [] (fun x=>rE3 x.1) (fun x=>f19c x.1) (fun _=>())
def pJ4:Ctx:=Cx tys [] [] [(7,[(4,0,7,0)])] false 8 [] []
theorem pJ5:CtxOk Tryz.prog pJ4:=xV6 tys_ok rfl trivial rfl (by kernel_rfl)
theorem oR5:SpecOk Tryz.prog 19 qO5:=xX4 pJ5 mixed Tryz.func19 (by kernel_rfl) (bs:=[]) (by kernel_rfl) trivial fun x=>by kernel_rfl
def f19 (p0:(List D66)):(List D66):=p0
def vR0 (p0:(List D66)):Prop:=(List.length p0:Int) ≤ 4294967296
instance (p0:(List D66)):Decidable (vR0 p0):=by
  unfold vR0
  infer_instance
def nD:List (Nat × Sh):=[(0,(.val (.sl T66)))]
def pT8:Sh:=(.own T66 0 false)
def nD0:List (Nat × Sh):=[]
def tA8:Am.Spec:=fnSpec nD pT8 nD0 (fun x=>vR0 x.1) (fun x=>f19 x.1) (fun _=>())
theorem qO6:SpecOk Tryz.prog 19 tA8:=xU7 (rs:=pT8) (F:=f19) (ok:=vR0) oR1 oR3 oR5 (of_decide_eq_true (by kernel_rfl)) (of_decide_eq_true (by kernel_rfl)) (fun l h hp=>⟨hp,fun _=>by simpa [vR0] using h⟩) rfl rfl (fun _=>rfl)
def f43t (p0:D74) (p1:D74):Prop × Bool :=
 let v30:=(bif (bif (bif (p0.1 == p1.1) then (p0.2.1 == p1.2.1) else false) then (p0.2.2.1 == p1.2.2.1) else false) then (p0.2.2.2.1 == p1.2.2.2.1) else false)
 ((v30 = true → (tT5 p0.2.2.2.2.1 p1.2.2.2.2.1)),(bif v30 then (f44 p0.2.2.2.2.1 p1.2.2.2.2.1) else false))
def sU1 (p0:D74) (p1:D74):Prop:=(f43t p0 p1).1
def f43 (p0:D74) (p1:D74):Bool:=(f43t p0 p1).2
instance (p0:D74) (p1:D74):Decidable (sU1 p0 p1):=by
 unfold sU1 f43t
 try dsimp only
 infer_instance
def rP6:Am.Spec:=fnSpec [(0,(.val T74)),(1,(.val T74))] vB [] (fun x=>sU1 x.1 x.2.1) (fun x=>f43 x.1 x.2.1) (fun _=>())
def oR6:Ctx:=Cx tys [(44,sA9)] [] [] false 38 [] []
theorem oR7:CtxOk Tryz.prog oR6:=xV6 tys_ok rfl ⟨pQ1,trivial⟩ rfl (by kernel_rfl)
theorem nD1:SpecOk Tryz.prog 43 rP6:=xX4 oR7 mixed Tryz.func43 (by kernel_rfl) (bs:=[]) (by kernel_rfl) trivial fun x=>by kernel_rfl
abbrev wH6:Type:=((List D74) × (Unit) × (List D74) × Int × Unit)
abbrev wC4:Type:=(Int × Unit)
def wX6 (y:wH6) (x:wC4):Prop × Bool × wC4 × Bool × Bool :=
 let a1:=y.1
 let a15:=y.2.2.1
 let a17:=x.1
 let v18:=(decide (a17 < y.2.2.2.1))
 let v20:=(nth a15 a17 Z74)
 let v24:=(nth a1 a17 Z74)
 let v30:=(!(f43 v20 v24))
 ((v18 = true → (InB a17 (len a15) ∧ (InB a17 (len a1) ∧ ((sU1 v20 v24) ∧ ((!v30) = true → InR (a17 + 1)))))),(v18 && (!v30)),((a17 + 1),()),(v18 && v30),(!v18))
def vD (y:wH6) (x:wC4):Prop:=(wX6 y x).1
def wZ6 (y:wH6) (x:wC4):Bool:=(wX6 y x).2.1
def wK3 (y:wH6) (x:wC4):wC4:=(wX6 y x).2.2.1
def uX9 (y:wH6) (x:wC4):Bool:=(wX6 y x).2.2.2.1
def sU2 (y:wH6) (x:wC4):Bool:=(wX6 y x).2.2.2.2
instance (y:wH6) (x:wC4):Decidable (vD y x):=by
 unfold vD wX6
 try dsimp only
 infer_instance
def vY (y:wH6) (x:wC4):Bool :=
 false
def vY0:St → Option Out:=xO8 [(1,(.val (.sl T74))),(2,(.fn 43 .nl)),(15,(.val (.sl T74))),(16,vI)] [(17,vI)] wZ6 wK3 vD fun y x=>[ex 1 (some (uX9 y x)) [(6,vB)] ((vY y x),()),ex 2 (some (sU2 y x)) [] ()]
def rE4 (p0:(List D74)) (p1:(List D74)) (p2:(Unit)):Prop × Bool :=
 let v14:=((len p0) != (len p1))
 let y4:=(p1,(),p0,(len p0),())
 let x4:=((0:Int),())
 let e4:=(zB9 (wZ6 y4) (wK3 y4) x4)
 (((!v14) = true → (Am.Ends (wZ6 y4) (wK3 y4) (vD y4) x4)),(bif v14 then false else (bif (uX9 y4 e4) then (vY y4 e4) else true)))
def uK1 (p0:(List D74)) (p1:(List D74)) (p2:(Unit)):Prop:=(rE4 p0 p1 p2).1
def rP7 (p0:(List D74)) (p1:(List D74)) (p2:(Unit)):Bool:=(rE4 p0 p1 p2).2
instance (p0:(List D74)) (p1:(List D74)) (p2:(Unit)):Decidable (uK1 p0 p1 p2):=by
 unfold uK1 rE4
 try dsimp only
 infer_instance
def tP8:Am.Spec:=fnSpec [(0,(.val (.sl T74))),(1,(.val (.sl T74))),(2,(.fn 43 .nl))] vB [] (fun x=>uK1 x.1 x.2.1 x.2.2.1) (fun x=>rP7 x.1 x.2.1 x.2.2.1) (fun _=>())
def tY7:Ctx:=Cx tys [(43,rP6)] [(4,vY0)] [] false 32 [] []
theorem tY8:CtxOk Tryz.prog tY7:=xV6 tys_ok rfl ⟨nD1,trivial⟩ rfl (by kernel_rfl)
noncomputable def rE5:Code:=Tryz.f42.body.getD .skip
noncomputable def sU3:Code:=xW5 rE5 0
theorem sU4:yU1 Tryz.prog tY7 sU3:=xX3 tY8 mixed (sp:=vY0) rfl [[(6,vB)],[]] (bs:=[]) (by kernel_rfl) trivial (by kernel_rfl) (by kernel_rfl) fun y x=>by kernel_rfl
theorem qO7:SpecOk Tryz.prog 42 tP8:=xX4 tY8 mixed Tryz.func42 (by kernel_rfl) (bs:=[sU3]) (by kernel_rfl) ⟨sU4,trivial⟩ fun x=>by kernel_rfl
def f20t (p0:(List D74)) (p1:(List D74)):Prop × Bool :=
 ((uK1 p0 p1 ()),(rP7 p0 p1 ()))
def uK2 (p0:(List D74)) (p1:(List D74)):Prop:=(f20t p0 p1).1
def f20 (p0:(List D74)) (p1:(List D74)):Bool:=(f20t p0 p1).2
instance (p0:(List D74)) (p1:(List D74)):Decidable (uK2 p0 p1):=by
 unfold uK2 f20t
 try dsimp only
 infer_instance
def uK3:Am.Spec:=fnSpec [(0,(.val (.sl T74))),(1,(.val (.sl T74)))] vB [] (fun x=>uK2 x.1 x.2.1) (fun x=>f20 x.1 x.2.1) (fun _=>())
def oR8:Ctx:=Cx tys [(42,tP8)] [] [] false 8 [] []
theorem oR9:CtxOk Tryz.prog oR8:=xV6 tys_ok rfl ⟨qO7,trivial⟩ rfl (by kernel_rfl)
theorem rP8:SpecOk Tryz.prog 20 uK3:=xX4 oR9 mixed Tryz.func20 (by kernel_rfl) (bs:=[]) (by kernel_rfl) trivial fun x=>by kernel_rfl
def oS (p0:Unit):Prop × (List D74) :=
 (((!true) = true → ((List.length ([]:List D74) + List.length ([]:List D74):Nat):Int) ≤ 4294967296),(bif true then [] else (([]:List D74) ++ ([]:List D74))))
def rE6 (p0:Unit):Prop:=(oS p0).1
def f45a (p0:Unit):(List D74):=(oS p0).2
instance (p0:Unit):Decidable (rE6 p0):=by
 unfold rE6 oS
 try dsimp only
 infer_instance
def qO8:Am.Spec:=fnSpec [(0,(.nn true))] (.own T74 0 true) [] (fun x=>rE6 x.1) (fun x=>f45a x.1) (fun _=>())
def pJ6:Ctx:=Cx tys [] [] [(7,[(4,0,7,0)])] false 8 [] [5,7]
theorem pJ7:CtxOk Tryz.prog pJ6:=xV6 tys_ok rfl trivial rfl (by kernel_rfl)
theorem oS0:SpecOk Tryz.prog 45 qO8:=xX4 pJ7 mixed Tryz.func45 (by kernel_rfl) (bs:=[]) (by kernel_rfl) trivial fun x=>by kernel_rfl
def oS1 (p0:Unit):Prop × (List D74) :=
 (((!false) = true → ((List.length ([]:List D74) + List.length ([]:List D74):Nat):Int) ≤ 4294967296),(bif false then [] else (([]:List D74) ++ ([]:List D74))))
def rE7 (p0:Unit):Prop:=(oS1 p0).1
def f45b (p0:Unit):(List D74):=(oS1 p0).2
instance (p0:Unit):Decidable (rE7 p0):=by
 unfold rE7 oS1
 try dsimp only
 infer_instance
def qO9:Am.Spec:=fnSpec [(0,(.nn false))] (.own T74 0 true) [] (fun x=>rE7 x.1) (fun x=>f45b x.1) (fun _=>())
def pJ8:Ctx:=Cx tys [] [] [(7,[(4,0,7,0)])] false 8 [] [5,7]
theorem pJ9:CtxOk Tryz.prog pJ8:=xV6 tys_ok rfl trivial rfl (by kernel_rfl)
theorem oS2:SpecOk Tryz.prog 45 qO9:=xX4 pJ9 mixed Tryz.func45 (by kernel_rfl) (bs:=[]) (by kernel_rfl) trivial fun x=>by kernel_rfl
def oS3 (p0:(List D74)):Prop × (List D74) :=
 ((0 < List.length p0 ∧ ((!false) = true → ((List.length ([]:List D74) + List.length p0:Nat):Int) ≤ 4294967296)),(bif false then [] else (([]:List D74) ++ p0)))
def rE8 (p0:(List D74)):Prop:=(oS3 p0).1
def f45c (p0:(List D74)):(List D74):=(oS3 p0).2
instance (p0:(List D74)):Decidable (rE8 p0):=by
 unfold rE8 oS3
 try dsimp only
 infer_instance
def qP:Am.Spec:=fnSpec [(0,(.val (.sl T74)))] (.own T74 0 true) [] (fun x=>rE8 x.1) (fun x=>f45c x.1) (fun _=>())
def pK:Ctx:=Cx tys [] [] [(7,[(4,0,7,0)])] false 8 [] [5,7]
theorem pK0:CtxOk Tryz.prog pK:=xV6 tys_ok rfl trivial rfl (by kernel_rfl)
theorem oS4:SpecOk Tryz.prog 45 qP:=xX4 pK0 mixed Tryz.func45 (by kernel_rfl) (bs:=[]) (by kernel_rfl) trivial fun x=>by kernel_rfl
def f45 (p0:(List D74)):(List D74):=p0
def tY9 (p0:(List D74)):Prop:=(List.length p0:Int) ≤ 4294967296
instance (p0:(List D74)):Decidable (tY9 p0):=by
  unfold tY9
  infer_instance
def nD2:List (Nat × Sh):=[(0,(.val (.sl T74)))]
def pT9:Sh:=(.own T74 0 true)
def nD3:List (Nat × Sh):=[]
def rP9:Am.Spec:=fnSpec nD2 pT9 nD3 (fun x=>tY9 x.1) (fun x=>f45 x.1) (fun _=>())
theorem nD4:SpecOk Tryz.prog 45 rP9:=xU7 (rs:=pT9) (F:=f45) (ok:=tY9) oS0 oS2 oS4 (of_decide_eq_true (by kernel_rfl)) (of_decide_eq_true (by kernel_rfl)) (fun l h hp=>⟨hp,fun _=>by simpa [tY9] using h⟩) rfl rfl (fun _=>rfl)
abbrev vW:Type:=((List D74) × Int × Unit)
abbrev vD0:Type:=((List D74) × Int × Unit)
def sF7 (y:vW) (x:vD0):Prop × Bool × vD0 :=
 let a0:=y.1
 let a3:=x.1
 let a9:=x.2.1
 let v10:=(decide (a9 < y.2.1))
 let v16:=(nth a0 a9 Z74)
 let l1003:=(List.set a3 (Int.toNat a9) ((nth a3 a9 Z74).1,(nth a3 a9 Z74).2.1,(nth a3 a9 Z74).2.2.1,(nth a3 a9 Z74).2.2.2.1,((nth a3 a9 Z74).2.2.2.2.1.1,(nth a3 a9 Z74).2.2.2.2.1.2.1,(f46 v16.2.2.2.2.1.2.2.1),()),()))
 ((v10 = true → (InB a9 (len a0) ∧ ((tP3 v16.2.2.2.2.1.2.2.1) ∧ (InB a9 (len a3) ∧ (a9 < len a3 ∧ InR (a9 + 1)))))),v10,(l1003,(a9 + 1),()))
def vR1 (y:vW) (x:vD0):Prop:=(sF7 y x).1
def uK4 (y:vW) (x:vD0):Bool:=(sF7 y x).2.1
def wZ7 (y:vW) (x:vD0):vD0:=(sF7 y x).2.2
instance (y:vW) (x:vD0):Decidable (vR1 y x):=by
 unfold vR1 sF7
 try dsimp only
 infer_instance
def tP9 (y:vW) (x:vD0):(List D74) :=
 x.1
def tQ:St → Option Out:=xO8 [(0,(.val (.sl T74))),(8,vI)] [(3,(.own T74 1003 true)),(9,vI)] uK4 wZ7 vR1 fun y x=>[ex 2 none [(3,(.own T74 1003 true))] ((tP9 y x),())]
def f21t (p0:(List D74)):Prop × (List D74) :=
 let v6:=(f45 p0)
 let y3:=(p0,(len v6),())
 let x3:=(v6,(0:Int),())
 (((tY9 p0) ∧ (Am.Ends (uK4 y3) (wZ7 y3) (vR1 y3) x3)),(tP9 y3 (zB9 (uK4 y3) (wZ7 y3) x3)))
def vY1 (p0:(List D74)):Prop:=(f21t p0).1
def f21 (p0:(List D74)):(List D74):=(f21t p0).2
instance (p0:(List D74)):Decidable (vY1 p0):=by
 unfold vY1 f21t
 try dsimp only
 infer_instance
def tA9:Am.Spec:=fnSpec [(0,(.val (.sl T74)))] (.val (.sl T74)) [] (fun x=>vY1 x.1) (fun x=>f21 x.1) (fun _=>())
def qP0:Ctx:=Cx tys [(45,rP9),(46,sF5)] [(3,tQ)] [(3,[(4,0,6,1003)]),(15,[(1,2,0,0),(4,0,1003,0)])] false 26 [] []
theorem qP1:CtxOk Tryz.prog qP0:=xV6 tys_ok rfl ⟨nD4,pT2,trivial⟩ rfl (by kernel_rfl)
noncomputable def pK1:Code:=Tryz.f21.body.getD .skip
noncomputable def pU:Code:=xW5 pK1 0
theorem qP2:yU1 Tryz.prog qP0 pU:=xX3 qP1 mixed (sp:=tQ) rfl [[(3,(.own T74 1003 true))]] (bs:=[]) (by kernel_rfl) trivial (by kernel_rfl) (by kernel_rfl) fun y x=>by kernel_rfl
theorem qP3:SpecOk Tryz.prog 21 tA9:=xX4 qP1 mixed Tryz.func21 (by kernel_rfl) (bs:=[pU]) (by kernel_rfl) ⟨qP2,trivial⟩ fun x=>by kernel_rfl
abbrev uP1:Type:=(D28 × D28 × (D50 × D50 × Int × (List D57) × (List D57) × (Int × Int × (List Int) × Unit) × (Int × Int × (List Int) × Unit) × (List D66) × (List D66) × (List D74) × (List D74) × Unit) × (List D57) × (List D57) × Unit)
abbrev vR2:Type:=((D50 × D50 × Int × (List D57) × (List D57) × (Int × Int × (List Int) × Unit) × (Int × Int × (List Int) × Unit) × (List D66) × (List D66) × (List D74) × (List D74) × Unit) × Unit)
def rQ (y:uP1) (x:vR2):Prop × Bool × vR2 :=
 let a9:=y.2.2.2.1
 let a10:=y.2.2.2.2.1
 let a8:=x.1
 let v43:=(bif (decide (a8.2.2.1 < (len a9))) then (decide (a8.2.2.1 < (len a10))) else false)
 let v48:=(nth a9 a8.2.2.1 Z57)
 let v53:=(nth a10 a8.2.2.1 Z57)
 let v56:=(bif v43 then (f12 v48 v53) else false)
 let s_2:=(a8.1,a8.2.1,(a8.2.2.1 + 1),a8.2.2.2.1,a8.2.2.2.2.1,(a8.2.2.2.2.2.1.1,a8.2.2.2.2.2.1.2.1,a8.2.2.2.2.2.1.2.2.1,()),(a8.2.2.2.2.2.2.1.1,a8.2.2.2.2.2.2.1.2.1,a8.2.2.2.2.2.2.1.2.2.1,()),a8.2.2.2.2.2.2.2.1,a8.2.2.2.2.2.2.2.2.1,a8.2.2.2.2.2.2.2.2.2.1,a8.2.2.2.2.2.2.2.2.2.2.1,())
 (((v43 = true → InB a8.2.2.1 (len a9)) ∧ ((v43 = true → InB a8.2.2.1 (len a10)) ∧ ((v43 = true → (uR2 v48 v53)) ∧ (v56 = true → InR (a8.2.2.1 + 1))))),v56,(s_2,()))
def tB (y:uP1) (x:vR2):Prop:=(rQ y x).1
def rE9 (y:uP1) (x:vR2):Bool:=(rQ y x).2.1
def uP2 (y:uP1) (x:vR2):vR2:=(rQ y x).2.2
instance (y:uP1) (x:vR2):Decidable (tB y x):=by
 unfold tB rQ
 try dsimp only
 infer_instance
def tZ (y:uP1) (x:vR2):(D50 × D50 × Int × (List D57) × (List D57) × (Int × Int × (List Int) × Unit) × (Int × Int × (List Int) × Unit) × (List D66) × (List D66) × (List D74) × (List D74) × Unit) :=
 let a8:=x.1
 let s_5:=(a8.1,a8.2.1,a8.2.2.1,a8.2.2.2.1,a8.2.2.2.2.1,(a8.2.2.2.2.2.1.1,a8.2.2.2.2.2.1.2.1,a8.2.2.2.2.2.1.2.2.1,()),(a8.2.2.2.2.2.2.1.1,a8.2.2.2.2.2.2.1.2.1,a8.2.2.2.2.2.2.1.2.2.1,()),a8.2.2.2.2.2.2.2.1,a8.2.2.2.2.2.2.2.2.1,a8.2.2.2.2.2.2.2.2.2.1,a8.2.2.2.2.2.2.2.2.2.2.1,())
 s_5
def rQ0:List (Nat × Sh):=[(2,(.box T28 (.val T28))),(3,(.box T28 (.val T28))),(4,(.box T32 (.agg (.cons T50 (.cons T50 (.cons (.int .i64) (.cons (.sl T57) (.cons (.sl T57) (.cons T24 (.cons T24 (.cons (.sl T66) (.cons (.sl T66) (.cons (.sl T74) (.cons (.sl T74) .nl))))))))))) (.cons (.val T50) (.cons (.val T50) (.cons vI (.cons (.val (.sl T57)) (.cons (.val (.sl T57)) (.cons (.agg (.cons (.int .i64) (.cons (.int .i64) (.cons (.sl (.int .i64)) .nl))) (.cons vI (.cons vI (.cons (.val (.sl (.int .i64))) .nl)))) (.cons (.agg (.cons (.int .i64) (.cons (.int .i64) (.cons (.sl (.int .i64)) .nl))) (.cons vI (.cons vI (.cons (.val (.sl (.int .i64))) .nl)))) (.cons (.val (.sl T66)) (.cons (.val (.sl T66)) (.cons (.val (.sl T74)) (.cons (.val (.sl T74)) .nl)))))))))))))),(8,(.box T32 (.agg (.cons T50 (.cons T50 (.cons (.int .i64) (.cons (.sl T57) (.cons (.sl T57) (.cons T24 (.cons T24 (.cons (.sl T66) (.cons (.sl T66) (.cons (.sl T74) (.cons (.sl T74) .nl))))))))))) (.cons (.val T50) (.cons (.val T50) (.cons vI (.cons (.own T57 400800 false) (.cons (.own T57 400801 false) (.cons (.agg (.cons (.int .i64) (.cons (.int .i64) (.cons (.sl (.int .i64)) .nl))) (.cons vI (.cons vI (.cons (.own (.int .i64) 400802 false) .nl)))) (.cons (.agg (.cons (.int .i64) (.cons (.int .i64) (.cons (.sl (.int .i64)) .nl))) (.cons vI (.cons vI (.cons (.own (.int .i64) 400803 false) .nl)))) (.cons (.own T66 400804 false) (.cons (.own T66 400805 false) (.cons (.own T74 400806 false) (.cons (.own T74 400807 false) .nl)))))))))))))),(9,(.val (.sl T57))),(10,(.val (.sl T57)))]
def tZ0:St → Option Out:=xO8 [(2,(.box T28 (.val T28))),(3,(.box T28 (.val T28))),(4,(.box T32 (.agg (.cons T50 (.cons T50 (.cons (.int .i64) (.cons (.sl T57) (.cons (.sl T57) (.cons T24 (.cons T24 (.cons (.sl T66) (.cons (.sl T66) (.cons (.sl T74) (.cons (.sl T74) .nl))))))))))) (.cons (.val T50) (.cons (.val T50) (.cons vI (.cons (.val (.sl T57)) (.cons (.val (.sl T57)) (.cons (.agg (.cons (.int .i64) (.cons (.int .i64) (.cons (.sl (.int .i64)) .nl))) (.cons vI (.cons vI (.cons (.val (.sl (.int .i64))) .nl)))) (.cons (.agg (.cons (.int .i64) (.cons (.int .i64) (.cons (.sl (.int .i64)) .nl))) (.cons vI (.cons vI (.cons (.val (.sl (.int .i64))) .nl)))) (.cons (.val (.sl T66)) (.cons (.val (.sl T66)) (.cons (.val (.sl T74)) (.cons (.val (.sl T74)) .nl)))))))))))))),(9,(.val (.sl T57))),(10,(.val (.sl T57)))] [(8,(.box T32 (.agg (.cons T50 (.cons T50 (.cons (.int .i64) (.cons (.sl T57) (.cons (.sl T57) (.cons T24 (.cons T24 (.cons (.sl T66) (.cons (.sl T66) (.cons (.sl T74) (.cons (.sl T74) .nl))))))))))) (.cons (.val T50) (.cons (.val T50) (.cons vI (.cons (.own T57 400800 false) (.cons (.own T57 400801 false) (.cons (.agg (.cons (.int .i64) (.cons (.int .i64) (.cons (.sl (.int .i64)) .nl))) (.cons vI (.cons vI (.cons (.own (.int .i64) 400802 false) .nl)))) (.cons (.agg (.cons (.int .i64) (.cons (.int .i64) (.cons (.sl (.int .i64)) .nl))) (.cons vI (.cons vI (.cons (.own (.int .i64) 400803 false) .nl)))) (.cons (.own T66 400804 false) (.cons (.own T66 400805 false) (.cons (.own T74 400806 false) (.cons (.own T74 400807 false) .nl))))))))))))))] rE9 uP2 tB fun y x=>[ex 2 none rQ0 (y.1,y.2.1,y.2.2.1,(tZ y x),y.2.2.2.1,y.2.2.2.2.1,())]
abbrev vL9:Type:=(D28 × D28 × (D50 × D50 × Int × (List D57) × (List D57) × (Int × Int × (List Int) × Unit) × (Int × Int × (List Int) × Unit) × (List D66) × (List D66) × (List D74) × (List D74) × Unit) × (D50 × D50 × Int × (List D57) × (List D57) × (Int × Int × (List Int) × Unit) × (Int × Int × (List Int) × Unit) × (List D66) × (List D66) × (List D74) × (List D74) × Unit) × Unit)
abbrev wV2:Type:=((List D57) × (List D57) × Unit)
def sF8 (y:vL9) (x:wV2):Prop × Bool × wV2 :=
 let a9:=x.1
 let a10:=x.2.1
 let v76:=(bif (decide ((len a9) > 0)) then (decide ((len a10) > 0)) else false)
 let v80:=(len a9)
 let v81:=(v80 - 1)
 let v82:=(nth a9 v81 Z57)
 let v86:=(len a10)
 let v87:=(v86 - 1)
 let v88:=(nth a10 v87 Z57)
 let v91:=(bif v76 then (f12 v82 v88) else false)
 let v94:=(len a9)
 let v95:=(v94 - 1)
 let v99:=(len a10)
 let v100:=(v99 - 1)
 (((v76 = true → InR (v80 - 1)) ∧ ((v76 = true → InB v81 (len a9)) ∧ ((v76 = true → InR (v86 - 1)) ∧ ((v76 = true → InB v87 (len a10)) ∧ ((v76 = true → (uR2 v82 v88)) ∧ (v91 = true → (InR (v94 - 1) ∧ ((0 ≤ v95 ∧ v95 ≤ len a9) ∧ (InR (v99 - 1) ∧ (0 ≤ v100 ∧ v100 ≤ len a10)))))))))),v91,((List.take (Int.toNat v95) a9),(List.take (Int.toNat v100) a10),()))
def uK5 (y:vL9) (x:wV2):Prop:=(sF8 y x).1
def sF9 (y:vL9) (x:wV2):Bool:=(sF8 y x).2.1
def uA7 (y:vL9) (x:wV2):wV2:=(sF8 y x).2.2
instance (y:vL9) (x:wV2):Decidable (uK5 y x):=by
 unfold uK5 sF8
 try dsimp only
 infer_instance
def tQ0 (y:vL9) (x:wV2):(List D57) :=
 x.1
def tQ1 (y:vL9) (x:wV2):(List D57) :=
 x.2.1
def sU5:List (Nat × Sh):=[(2,(.box T28 (.val T28))),(3,(.box T28 (.val T28))),(4,(.box T32 (.agg (.cons T50 (.cons T50 (.cons (.int .i64) (.cons (.sl T57) (.cons (.sl T57) (.cons T24 (.cons T24 (.cons (.sl T66) (.cons (.sl T66) (.cons (.sl T74) (.cons (.sl T74) .nl))))))))))) (.cons (.val T50) (.cons (.val T50) (.cons vI (.cons (.val (.sl T57)) (.cons (.val (.sl T57)) (.cons (.agg (.cons (.int .i64) (.cons (.int .i64) (.cons (.sl (.int .i64)) .nl))) (.cons vI (.cons vI (.cons (.val (.sl (.int .i64))) .nl)))) (.cons (.agg (.cons (.int .i64) (.cons (.int .i64) (.cons (.sl (.int .i64)) .nl))) (.cons vI (.cons vI (.cons (.val (.sl (.int .i64))) .nl)))) (.cons (.val (.sl T66)) (.cons (.val (.sl T66)) (.cons (.val (.sl T74)) (.cons (.val (.sl T74)) .nl)))))))))))))),(8,(.box T32 (.agg (.cons T50 (.cons T50 (.cons (.int .i64) (.cons (.sl T57) (.cons (.sl T57) (.cons T24 (.cons T24 (.cons (.sl T66) (.cons (.sl T66) (.cons (.sl T74) (.cons (.sl T74) .nl))))))))))) (.cons (.val T50) (.cons (.val T50) (.cons vI (.cons (.own T57 400800 false) (.cons (.own T57 400801 false) (.cons (.agg (.cons (.int .i64) (.cons (.int .i64) (.cons (.sl (.int .i64)) .nl))) (.cons vI (.cons vI (.cons (.own (.int .i64) 400802 false) .nl)))) (.cons (.agg (.cons (.int .i64) (.cons (.int .i64) (.cons (.sl (.int .i64)) .nl))) (.cons vI (.cons vI (.cons (.own (.int .i64) 400803 false) .nl)))) (.cons (.own T66 400804 false) (.cons (.own T66 400805 false) (.cons (.own T74 400806 false) (.cons (.own T74 400807 false) .nl)))))))))))))),(9,(.val (.sl T57))),(10,(.val (.sl T57)))]
def tQ2:St → Option Out:=xO8 [(2,(.box T28 (.val T28))),(3,(.box T28 (.val T28))),(4,(.box T32 (.agg (.cons T50 (.cons T50 (.cons (.int .i64) (.cons (.sl T57) (.cons (.sl T57) (.cons T24 (.cons T24 (.cons (.sl T66) (.cons (.sl T66) (.cons (.sl T74) (.cons (.sl T74) .nl))))))))))) (.cons (.val T50) (.cons (.val T50) (.cons vI (.cons (.val (.sl T57)) (.cons (.val (.sl T57)) (.cons (.agg (.cons (.int .i64) (.cons (.int .i64) (.cons (.sl (.int .i64)) .nl))) (.cons vI (.cons vI (.cons (.val (.sl (.int .i64))) .nl)))) (.cons (.agg (.cons (.int .i64) (.cons (.int .i64) (.cons (.sl (.int .i64)) .nl))) (.cons vI (.cons vI (.cons (.val (.sl (.int .i64))) .nl)))) (.cons (.val (.sl T66)) (.cons (.val (.sl T66)) (.cons (.val (.sl T74)) (.cons (.val (.sl T74)) .nl)))))))))))))),(8,(.box T32 (.agg (.cons T50 (.cons T50 (.cons (.int .i64) (.cons (.sl T57) (.cons (.sl T57) (.cons T24 (.cons T24 (.cons (.sl T66) (.cons (.sl T66) (.cons (.sl T74) (.cons (.sl T74) .nl))))))))))) (.cons (.val T50) (.cons (.val T50) (.cons vI (.cons (.own T57 400800 false) (.cons (.own T57 400801 false) (.cons (.agg (.cons (.int .i64) (.cons (.int .i64) (.cons (.sl (.int .i64)) .nl))) (.cons vI (.cons vI (.cons (.own (.int .i64) 400802 false) .nl)))) (.cons (.agg (.cons (.int .i64) (.cons (.int .i64) (.cons (.sl (.int .i64)) .nl))) (.cons vI (.cons vI (.cons (.own (.int .i64) 400803 false) .nl)))) (.cons (.own T66 400804 false) (.cons (.own T66 400805 false) (.cons (.own T74 400806 false) (.cons (.own T74 400807 false) .nl))))))))))))))] [(9,(.val (.sl T57))),(10,(.val (.sl T57)))] sF9 uA7 uK5 fun y x=>[ex 4 none sU5 (y.1,y.2.1,y.2.2.1,y.2.2.2.1,(tQ0 y x),(tQ1 y x),())]
def f5t (p0:D28) (p1:D28):Prop × (D32 × Int × Unit) :=
 let v12:=(f13 p0)
 let v14:=(v12 != 0)
 let v18:=(f13 p1)
 let v20:=(v18 != 0)
 let s_2:=(Z50,Z50,(0:Int),([]:List D57),([]:List D57),((0:Int),(0:Int),([]:List Int),()),((0:Int),(0:Int),([]:List Int),()),([]:List D66),([]:List D66),([]:List D74),([]:List D74),())
 let s_5:=((f14 p0),(f14 p1),(0:Int),([]:List D57),([]:List D57),((0:Int),(0:Int),([]:List Int),()),((0:Int),(0:Int),([]:List Int),()),([]:List D66),([]:List D66),([]:List D74),([]:List D74),())
 let y9:=(p0,p1,s_2,p0.2.2.2.1,p1.2.2.2.1,())
 let x9:=(s_5,())
 let r9_2_0:=(tZ y9 (zB9 (rE9 y9) (uP2 y9) x9))
 let s_8:=(Z50,Z50,(0:Int),([]:List D57),([]:List D57),((0:Int),(0:Int),([]:List Int),()),((0:Int),(0:Int),([]:List Int),()),([]:List D66),([]:List D66),([]:List D74),([]:List D74),())
 let s_11:=(r9_2_0.1,r9_2_0.2.1,r9_2_0.2.2.1,r9_2_0.2.2.2.1,r9_2_0.2.2.2.2.1,(r9_2_0.2.2.2.2.2.1.1,r9_2_0.2.2.2.2.2.1.2.1,r9_2_0.2.2.2.2.2.1.2.2.1,()),(r9_2_0.2.2.2.2.2.2.1.1,r9_2_0.2.2.2.2.2.2.1.2.1,r9_2_0.2.2.2.2.2.2.1.2.2.1,()),r9_2_0.2.2.2.2.2.2.2.1,r9_2_0.2.2.2.2.2.2.2.2.1,r9_2_0.2.2.2.2.2.2.2.2.2.1,r9_2_0.2.2.2.2.2.2.2.2.2.2.1,())
 let y12:=(p0,p1,s_8,s_11,())
 let x12:=((List.drop (Int.toNat r9_2_0.2.2.1) p0.2.2.2.1),(List.drop (Int.toNat r9_2_0.2.2.1) p1.2.2.2.1),())
 let e12:=(zB9 (sF9 y12) (uA7 y12) x12)
 let r12_4_0:=(tQ0 y12 e12)
 let r12_4_1:=(tQ1 y12 e12)
 let v103:=(f15 r12_4_0)
 let v105:=(f15 r12_4_1)
 let v113:=(!(f16 p0.2.2.2.2.2.1 p1.2.2.2.2.2.1))
 let m8:=(bif v113 then r9_2_0.1 else r9_2_0.1)
 let m8_1:=(bif v113 then r9_2_0.2.1 else r9_2_0.2.1)
 let m8_2:=(bif v113 then r9_2_0.2.2.1 else r9_2_0.2.2.1)
 let m8_3:=(bif v113 then v103 else v103)
 let m8_4:=(bif v113 then v105 else v105)
 let m8_5:=(bif v113 then (f17 p0.2.2.2.2.2.1) else (r9_2_0.2.2.2.2.2.1.1,r9_2_0.2.2.2.2.2.1.2.1,r9_2_0.2.2.2.2.2.1.2.2.1,()))
 let m8_6:=(bif v113 then (f17 p1.2.2.2.2.2.1) else (r9_2_0.2.2.2.2.2.2.1.1,r9_2_0.2.2.2.2.2.2.1.2.1,r9_2_0.2.2.2.2.2.2.1.2.2.1,()))
 let m8_9:=(bif v113 then r9_2_0.2.2.2.2.2.2.2.2.2.1 else r9_2_0.2.2.2.2.2.2.2.2.2.1)
 let m8_10:=(bif v113 then r9_2_0.2.2.2.2.2.2.2.2.2.2.1 else r9_2_0.2.2.2.2.2.2.2.2.2.2.1)
 let v127:=(!(f18 p0.2.2.2.2.2.2.1 p1.2.2.2.2.2.2.1))
 let m8_11:=(bif v127 then m8 else m8)
 let m8_12:=(bif v127 then m8_1 else m8_1)
 let m8_13:=(bif v127 then m8_2 else m8_2)
 let m8_14:=(bif v127 then m8_3 else m8_3)
 let m8_15:=(bif v127 then m8_4 else m8_4)
 let m8_16:=(bif v127 then m8_5 else m8_5)
 let m8_17:=(bif v127 then m8_6 else m8_6)
 let m8_18:=(bif v127 then (f19 p0.2.2.2.2.2.2.1) else (bif v113 then r9_2_0.2.2.2.2.2.2.2.1 else r9_2_0.2.2.2.2.2.2.2.1))
 let m8_19:=(bif v127 then (f19 p1.2.2.2.2.2.2.1) else (bif v113 then r9_2_0.2.2.2.2.2.2.2.2.1 else r9_2_0.2.2.2.2.2.2.2.2.1))
 let v141:=(!(f20 p0.2.2.2.2.2.2.2.1 p1.2.2.2.2.2.2.2.1))
 let s_18:=((bif v14 then Z50 else (bif v20 then Z50 else (bif v141 then m8_11 else m8_11))),(bif v14 then Z50 else (bif v20 then Z50 else (bif v141 then m8_12 else m8_12))),(bif v14 then (0:Int) else (bif v20 then (0:Int) else (bif v141 then m8_13 else m8_13))),(bif v14 then [] else (bif v20 then [] else (bif v141 then m8_14 else m8_14))),(bif v14 then [] else (bif v20 then [] else (bif v141 then m8_15 else m8_15))),(bif v14 then ((0:Int),(0:Int),([]:List Int),()) else (bif v20 then ((0:Int),(0:Int),([]:List Int),()) else (bif v141 then m8_16 else m8_16))),(bif v14 then ((0:Int),(0:Int),([]:List Int),()) else (bif v20 then ((0:Int),(0:Int),([]:List Int),()) else (bif v141 then m8_17 else m8_17))),(bif v14 then [] else (bif v20 then [] else (bif v141 then m8_18 else m8_18))),(bif v14 then [] else (bif v20 then [] else (bif v141 then m8_19 else m8_19))),(bif v14 then [] else (bif v20 then [] else (bif v141 then (f21 p0.2.2.2.2.2.2.2.1) else (bif v127 then m8_9 else m8_9)))),(bif v14 then [] else (bif v20 then [] else (bif v141 then (f21 p1.2.2.2.2.2.2.2.1) else (bif v127 then m8_10 else m8_10)))),())
 (((uX7 p0) ∧ ((!v14) = true → ((uX7 p1) ∧ ((!v20) = true → ((tY3 p0) ∧ ((tY3 p1) ∧ ((Am.Ends (rE9 y9) (uP2 y9) (tB y9) x9) ∧ ((0 ≤ r9_2_0.2.2.1 ∧ r9_2_0.2.2.1 ≤ len p0.2.2.2.1) ∧ ((0 ≤ r9_2_0.2.2.1 ∧ r9_2_0.2.2.1 ≤ len p1.2.2.2.1) ∧ ((Am.Ends (sF9 y12) (uA7 y12) (uK5 y12) x12) ∧ ((uJ4 r12_4_0) ∧ ((uJ4 r12_4_1) ∧ ((uJ5 p0.2.2.2.2.2.1 p1.2.2.2.2.2.1) ∧ ((v113 = true → ((uJ7 p0.2.2.2.2.2.1) ∧ (uJ7 p1.2.2.2.2.2.1))) ∧ ((uK p0.2.2.2.2.2.2.1 p1.2.2.2.2.2.2.1) ∧ ((v127 = true → ((vR0 p0.2.2.2.2.2.2.1) ∧ (vR0 p1.2.2.2.2.2.2.1))) ∧ ((uK2 p0.2.2.2.2.2.2.2.1 p1.2.2.2.2.2.2.2.1) ∧ (v141 = true → ((vY1 p0.2.2.2.2.2.2.2.1) ∧ (vY1 p1.2.2.2.2.2.2.2.1)))))))))))))))))))),(s_18,(bif v14 then v12 else (bif v20 then v18 else (0:Int))),()))
def sU6 (p0:D28) (p1:D28):Prop:=(f5t p0 p1).1
def f5 (p0:D28) (p1:D28):(D32 × Int × Unit):=(f5t p0 p1).2
instance (p0:D28) (p1:D28):Decidable (sU6 p0 p1):=by
 unfold sU6 f5t
 try dsimp only
 infer_instance
def rF:Am.Spec:=fnSpec [(0,(.val T28)),(1,(.val T28))] (.tup (.cons (.val T32) (.cons vI .nl))) [] (fun x=>sU6 x.1 x.2.1) (fun x=>f5 x.1 x.2.1) (fun _=>())
def qP4:Ctx:=Cx tys [(12,sB),(13,sF2),(14,sF3),(15,tA6),(16,uJ6),(17,tA7),(18,uK0),(19,tA8),(20,uK3),(21,tA9)] [(9,tZ0),(12,tQ2)] [(37,[(4,0,130,400804),(4,0,133,400805)]),(43,[(4,0,400804,400404),(4,0,400805,400405)])] false 151 [] []
theorem qP5:CtxOk Tryz.prog qP4:=xV6 tys_ok rfl ⟨pQ5,pS8,pS9,qN8,rP4,qN9,rP5,qO6,rP8,qP3,trivial⟩ rfl (by kernel_rfl)
noncomputable def qP6:Code:=Tryz.f5.body.getD .skip
noncomputable def nD5:Code:=xW5 qP6 0
theorem pK2:yU1 Tryz.prog qP4 nD5:=xX3 qP5 mixed (sp:=tZ0) rfl [rQ0] (bs:=[]) (by kernel_rfl) trivial (by kernel_rfl) (by kernel_rfl) fun y x=>by kernel_rfl
noncomputable def pU0:Code:=xW5 qP6 1
theorem qP7:yU1 Tryz.prog qP4 pU0:=xX3 qP5 mixed (sp:=tQ2) rfl [sU5] (bs:=[]) (by kernel_rfl) trivial (by kernel_rfl) (by kernel_rfl) fun y x=>by kernel_rfl
theorem nD6:SpecOk Tryz.prog 5 rF:=xX4 qP5 mixed Tryz.func5 (by kernel_rfl) (bs:=[nD5,pU0]) (by kernel_rfl) ⟨pK2,qP7,trivial⟩ fun x=>by kernel_rfl
def f6t (p0:D32):Prop × Int :=
 let v5:=(len p0.2.2.2.1)
 let v8:=(len p0.2.2.2.2.1)
 (InR (v5 + v8),(v5 + v8))
def qP8 (p0:D32):Prop:=(f6t p0).1
def f6 (p0:D32):Int:=(f6t p0).2
instance (p0:D32):Decidable (qP8 p0):=by
 unfold qP8 f6t
 try dsimp only
 infer_instance
def qP9:Am.Spec:=fnSpec [(0,(.val T32))] vI [] (fun x=>qP8 x.1) (fun x=>f6 x.1) (fun _=>())
def nD7:Ctx:=Cx tys [] [] [] false 10 [] []
theorem nD8:CtxOk Tryz.prog nD7:=xV6 tys_ok rfl trivial rfl (by kernel_rfl)
theorem nI8:SpecOk Tryz.prog 6 qP9:=xX4 nD8 mixed Tryz.func6 (by kernel_rfl) (bs:=[]) (by kernel_rfl) trivial fun x=>by kernel_rfl
abbrev wH7:Type:=((List D57) × (Unit) × (List D57) × Int × Unit)
abbrev wC5:Type:=(Int × Unit)
def wX7 (y:wH7) (x:wC5):Prop × Bool × wC5 × Bool × Bool :=
 let a1:=y.1
 let a15:=y.2.2.1
 let a17:=x.1
 let v18:=(decide (a17 < y.2.2.2.1))
 let v20:=(nth a15 a17 Z57)
 let v24:=(nth a1 a17 Z57)
 let v30:=(!(f12 v20 v24))
 ((v18 = true → (InB a17 (len a15) ∧ (InB a17 (len a1) ∧ ((uR2 v20 v24) ∧ ((!v30) = true → InR (a17 + 1)))))),(v18 && (!v30)),((a17 + 1),()),(v18 && v30),(!v18))
def vD1 (y:wH7) (x:wC5):Prop:=(wX7 y x).1
def wZ8 (y:wH7) (x:wC5):Bool:=(wX7 y x).2.1
def wK4 (y:wH7) (x:wC5):wC5:=(wX7 y x).2.2.1
def uY (y:wH7) (x:wC5):Bool:=(wX7 y x).2.2.2.1
def sU7 (y:wH7) (x:wC5):Bool:=(wX7 y x).2.2.2.2
instance (y:wH7) (x:wC5):Decidable (vD1 y x):=by
 unfold vD1 wX7
 try dsimp only
 infer_instance
def vY2 (y:wH7) (x:wC5):Bool :=
 false
def vY3:St → Option Out:=xO8 [(1,(.val (.sl T57))),(2,(.fn 12 .nl)),(15,(.val (.sl T57))),(16,vI)] [(17,vI)] wZ8 wK4 vD1 fun y x=>[ex 1 (some (uY y x)) [(6,vB)] ((vY2 y x),()),ex 2 (some (sU7 y x)) [] ()]
def rF0 (p0:(List D57)) (p1:(List D57)) (p2:(Unit)):Prop × Bool :=
 let v14:=((len p0) != (len p1))
 let y4:=(p1,(),p0,(len p0),())
 let x4:=((0:Int),())
 let e4:=(zB9 (wZ8 y4) (wK4 y4) x4)
 (((!v14) = true → (Am.Ends (wZ8 y4) (wK4 y4) (vD1 y4) x4)),(bif v14 then false else (bif (uY y4 e4) then (vY2 y4 e4) else true)))
def vI6 (p0:(List D57)) (p1:(List D57)) (p2:(Unit)):Prop:=(rF0 p0 p1 p2).1
def tQ3 (p0:(List D57)) (p1:(List D57)) (p2:(Unit)):Bool:=(rF0 p0 p1 p2).2
instance (p0:(List D57)) (p1:(List D57)) (p2:(Unit)):Decidable (vI6 p0 p1 p2):=by
 unfold vI6 rF0
 try dsimp only
 infer_instance
def uA8:Am.Spec:=fnSpec [(0,(.val (.sl T57))),(1,(.val (.sl T57))),(2,(.fn 12 .nl))] vB [] (fun x=>vI6 x.1 x.2.1 x.2.2.1) (fun x=>tQ3 x.1 x.2.1 x.2.2.1) (fun _=>())
def tZ1:Ctx:=Cx tys [(12,sB)] [(4,vY3)] [] false 32 [] []
theorem tZ2:CtxOk Tryz.prog tZ1:=xV6 tys_ok rfl ⟨pQ5,trivial⟩ rfl (by kernel_rfl)
noncomputable def rF1:Code:=Tryz.f29.body.getD .skip
noncomputable def sU8:Code:=xW5 rF1 0
theorem sU9:yU1 Tryz.prog tZ1 sU8:=xX3 tZ2 mixed (sp:=vY3) rfl [[(6,vB)],[]] (bs:=[]) (by kernel_rfl) trivial (by kernel_rfl) (by kernel_rfl) fun y x=>by kernel_rfl
theorem sV:SpecOk Tryz.prog 29 uA8:=xX4 tZ2 mixed Tryz.func29 (by kernel_rfl) (bs:=[sU8]) (by kernel_rfl) ⟨sU9,trivial⟩ fun x=>by kernel_rfl
def f24t (p0:D28) (p1:D32):Prop × Bool :=
 let v22:=(bif (bif (!(Ty.eqb T50 (f14 p0) p1.1)) then true else (decide (p1.2.2.1 < 0))) then true else (decide (p1.2.2.1 > (len p0.2.2.2.1))))
 let v26:=(len p0.2.2.2.1)
 let v34:=(bif v22 then true else (decide ((v26 - p1.2.2.1) < (len p1.2.2.2.1))))
 let v43:=(len p1.2.2.2.1)
 let v44:=(p1.2.2.1 + v43)
 let v45:=(List.drop (Int.toNat p1.2.2.1) (List.take (Int.toNat v44) p0.2.2.2.1))
 let v49:=(!(tQ3 v45 p1.2.2.2.1 ()))
 let v55:=(!(f16 p1.2.2.2.2.2.1 p1.2.2.2.2.2.2.1))
 let v63:=(bif v55 then (!(f16 p1.2.2.2.2.2.1 p0.2.2.2.2.2.1)) else false)
 let v69:=(!(f18 p1.2.2.2.2.2.2.2.1 p1.2.2.2.2.2.2.2.2.1))
 let v77:=(bif v69 then (!(f18 p1.2.2.2.2.2.2.2.1 p0.2.2.2.2.2.2.1)) else false)
 let v82:=(f20 p1.2.2.2.2.2.2.2.2.2.1 p1.2.2.2.2.2.2.2.2.2.2.1)
 (((tY3 p0) ∧ (((!v22) = true → InR (v26 - p1.2.2.1)) ∧ ((!v34) = true → (InR (p1.2.2.1 + v43) ∧ ((0 ≤ p1.2.2.1 ∧ p1.2.2.1 ≤ v44 ∧ v44 ≤ len p0.2.2.2.1) ∧ ((vI6 v45 p1.2.2.2.1 ()) ∧ ((!v49) = true → ((uJ5 p1.2.2.2.2.2.1 p1.2.2.2.2.2.2.1) ∧ ((v55 = true → (uJ5 p1.2.2.2.2.2.1 p0.2.2.2.2.2.1)) ∧ ((!v63) = true → ((uK p1.2.2.2.2.2.2.2.1 p1.2.2.2.2.2.2.2.2.1) ∧ ((v69 = true → (uK p1.2.2.2.2.2.2.2.1 p0.2.2.2.2.2.2.1)) ∧ ((!v77) = true → ((uK2 p1.2.2.2.2.2.2.2.2.2.1 p1.2.2.2.2.2.2.2.2.2.2.1) ∧ ((!v82) = true → (uK2 p1.2.2.2.2.2.2.2.2.2.1 p0.2.2.2.2.2.2.2.1)))))))))))))))),(bif v34 then false else (bif v49 then false else (bif v63 then false else (bif v77 then false else (bif v82 then true else (f20 p1.2.2.2.2.2.2.2.2.2.1 p0.2.2.2.2.2.2.2.1)))))))
def sV0 (p0:D28) (p1:D32):Prop:=(f24t p0 p1).1
def f24 (p0:D28) (p1:D32):Bool:=(f24t p0 p1).2
instance (p0:D28) (p1:D32):Decidable (sV0 p0 p1):=by
 unfold sV0 f24t
 try dsimp only
 infer_instance
def rQ1:Am.Spec:=fnSpec [(0,(.val T28)),(1,(.val T32))] vB [] (fun x=>sV0 x.1 x.2.1) (fun x=>f24 x.1 x.2.1) (fun _=>())
def oS5:Ctx:=Cx tys [(14,sF3),(16,uJ6),(18,uK0),(20,uK3),(29,uA8)] [] [] false 90 [] []
theorem oS6:CtxOk Tryz.prog oS5:=xV6 tys_ok rfl ⟨pS9,rP4,rP5,rP8,sV,trivial⟩ rfl (by kernel_rfl)
theorem nD9:SpecOk Tryz.prog 24 rQ1:=xX4 oS6 mixed Tryz.func24 (by kernel_rfl) (bs:=[]) (by kernel_rfl) trivial fun x=>by kernel_rfl
def f47 (_p0:Unit) (_p1:Int):List D57:=[]
def rQ2 (_p0:Unit) (p1:Int):Prop:=0 ≤ p1 ∧ p1 ≤ 4294967296
instance (p0:Unit) (p1:Int):Decidable (rQ2 p0 p1):=by
  unfold rQ2
  infer_instance
def nE:List (Nat × Sh):=[(0,.nil),(1,(.val (.int .i64)))]
def nE0:Sh:=(.own T57 0 true)
def nE1:List (Nat × Sh):=[]
def rQ3:Am.Spec:=fnSpec nE nE0 nE1 (fun x=>rQ2 x.1 x.2.1) (fun x=>f47 x.1 x.2.1) (fun _=>())
theorem nE2:SpecOk Tryz.prog 47 rQ3:=xV1 ⟨by kernel_rfl,by kernel_rfl⟩ ⟨_,Tryz.func47,by kernel_rfl,by decide⟩ grow_zero grow_more
abbrev vW0:Type:=((List (List D57)) × (List (List D57)) × Int × Unit)
abbrev vD2:Type:=(Int × Int × Unit)
def sG (y:vW0) (x:vD2):Prop × Bool × vD2 :=
 let a9:=y.2.1
 let a3:=x.1
 let a11:=x.2.1
 let v12:=(decide (a11 < y.2.2.1))
 let v17:=(len (nth a9 a11 ([]:List D57)))
 let v18:=(a3 + v17)
 ((v12 = true → (InB a11 (len a9) ∧ (InR (a3 + v17) ∧ (((decide (v18 < 0)) = true → (False ∧ False)) ∧ InR (a11 + 1))))),v12,(v18,(a11 + 1),()))
def vR3 (y:vW0) (x:vD2):Prop:=(sG y x).1
def vW1 (y:vW0) (x:vD2):Bool:=(sG y x).2.1
def wO9 (y:vW0) (x:vD2):vD2:=(sG y x).2.2
instance (y:vW0) (x:vD2):Decidable (vR3 y x):=by
 unfold vR3 sG
 try dsimp only
 infer_instance
def tQ4 (y:vW0) (x:vD2):Int :=
 x.1
def sV1:List (Nat × Sh):=[(0,(.val (.sl (.sl T57)))),(3,vI)]
def tQ5:St → Option Out:=xO8 [(0,(.val (.sl (.sl T57)))),(9,(.val (.sl (.sl T57)))),(10,vI)] [(3,vI),(11,vI)] vW1 wO9 vR3 fun y x=>[ex 2 none sV1 (y.1,(tQ4 y x),())]
abbrev vI7:Type:=((List (List D57)) × Int × Unit)
abbrev wK5:Type:=((List D57) × Int × Unit)
def tB0 (y:vI7) (x:wK5):Prop × Bool × wK5 :=
 let a25:=y.1
 let a6:=x.1
 let a27:=x.2.1
 let v28:=(decide (a27 < y.2.1))
 let v29:=(nth a25 a27 ([]:List D57))
 ((v28 = true → (InB a27 (len a25) ∧ (((List.length a6 + List.length v29:Nat):Int) ≤ 4294967296 ∧ InR (a27 + 1)))),v28,((a6 ++ v29),(a27 + 1),()))
def vI8 (y:vI7) (x:wK5):Prop:=(tB0 y x).1
def wT9 (y:vI7) (x:wK5):Bool:=(tB0 y x).2.1
def wB8 (y:vI7) (x:wK5):wK5:=(tB0 y x).2.2
instance (y:vI7) (x:wK5):Decidable (vI8 y x):=by
 unfold vI8 tB0
 try dsimp only
 infer_instance
def uY0 (y:vI7) (x:wK5):(List D57) :=
 x.1
def uY1:St → Option Out:=xO8 [(25,(.val (.sl (.sl T57)))),(26,vI)] [(6,(.own T57 1006 true)),(27,vI)] wT9 wB8 vI8 fun y x=>[ex 4 none [(6,(.own T57 1006 true))] ((uY0 y x),())]
def f25t (p0:(List (List D57))):Prop × (List D57) :=
 let y3:=(p0,p0,(len p0),())
 let x3:=((0:Int),(0:Int),())
 let r3_2_0:=(tQ4 y3 (zB9 (vW1 y3) (wO9 y3) x3))
 let y11:=(p0,(len p0),())
 let x11:=((f47 () r3_2_0),(0:Int),())
 (((Am.Ends (vW1 y3) (wO9 y3) (vR3 y3) x3) ∧ ((rQ2 () r3_2_0) ∧ (Am.Ends (wT9 y11) (wB8 y11) (vI8 y11) x11))),(uY0 y11 (zB9 (wT9 y11) (wB8 y11) x11)))
def sV2 (p0:(List (List D57))):Prop:=(f25t p0).1
def f25 (p0:(List (List D57))):(List D57):=(f25t p0).2
instance (p0:(List (List D57))):Decidable (sV2 p0):=by
 unfold sV2 f25t
 try dsimp only
 infer_instance
def rQ4:Am.Spec:=fnSpec [(0,(.val (.sl (.sl T57))))] (.val (.sl T57)) [] (fun x=>sV2 x.1) (fun x=>f25 x.1) (fun _=>())
def rF2:Ctx:=Cx tys [(47,rQ3)] [(3,tQ5),(11,uY1)] [(19,[(4,0,24,1006)]),(27,[(4,0,33,1006)]),(31,[(1,2,0,0),(4,0,1006,0)])] false 36 [] [33]
theorem rF3:CtxOk Tryz.prog rF2:=xV6 tys_ok rfl ⟨nE2,trivial⟩ rfl (by kernel_rfl)
noncomputable def rQ5:Code:=Tryz.f25.body.getD .skip
noncomputable def pU1:Code:=xW5 rQ5 0
theorem qQ:yU1 Tryz.prog rF2 pU1:=xX3 rF3 mixed (sp:=tQ5) rfl [sV1] (bs:=[]) (by kernel_rfl) trivial (by kernel_rfl) (by kernel_rfl) fun y x=>by kernel_rfl
noncomputable def qQ0:Code:=xW5 rQ5 1
theorem rZ0:yU1 Tryz.prog rF2 qQ0:=xX3 rF3 mixed (sp:=uY1) rfl [[(6,(.own T57 1006 true))]] (bs:=[]) (by kernel_rfl) trivial (by kernel_rfl) (by kernel_rfl) fun y x=>by kernel_rfl
theorem nE3:SpecOk Tryz.prog 25 rQ4:=xX4 rF3 mixed Tryz.func25 (by kernel_rfl) (bs:=[pU1,qQ0]) (by kernel_rfl) ⟨qQ,rZ0,trivial⟩ fun x=>by kernel_rfl
def f8t (p0:D28) (p1:D32):Prop × (D28 × Int × Unit) :=
 let v10:=(f13 p0)
 let v12:=(v10 != 0)
 let v18:=(!(f24 p0 p1))
 let v46:=(len p1.2.2.2.1)
 let v47:=(p1.2.2.1 + v46)
 let v49:=([(List.take (Int.toNat p1.2.2.1) p0.2.2.2.1),p1.2.2.2.2.1,(List.drop (Int.toNat v47) p0.2.2.2.1)]:List (List D57))
 let v50:=(f25 v49)
 let v51:=(f15 v50)
 let v58:=(f19 p0.2.2.2.2.2.2.1)
 let v61:=(f21 p0.2.2.2.2.2.2.2.1)
 let v70:=(!(f16 p1.2.2.2.2.2.1 p1.2.2.2.2.2.2.1))
 let m7:=(bif v70 then p1.2.1.1 else p1.2.1.1)
 let m7_1:=(bif v70 then p1.2.1.2.1 else p1.2.1.2.1)
 let m7_2:=(bif v70 then p1.2.1.2.2.1 else p1.2.1.2.2.1)
 let m7_3:=(bif v70 then v51 else v51)
 let m7_4:=(bif v70 then p1.2.1.2.2.2.1 else p1.2.1.2.2.2.1)
 let m7_5:=(bif v70 then (f17 p1.2.2.2.2.2.2.1) else (f17 p0.2.2.2.2.2.1))
 let m7_7:=(bif v70 then v61 else v61)
 let v80:=(!(f18 p1.2.2.2.2.2.2.2.1 p1.2.2.2.2.2.2.2.2.1))
 let m7_8:=(bif v80 then m7 else m7)
 let m7_9:=(bif v80 then m7_1 else m7_1)
 let m7_10:=(bif v80 then m7_2 else m7_2)
 let m7_11:=(bif v80 then m7_3 else m7_3)
 let m7_12:=(bif v80 then m7_4 else m7_4)
 let m7_13:=(bif v80 then m7_5 else m7_5)
 let m7_14:=(bif v80 then (f19 p1.2.2.2.2.2.2.2.2.1) else (bif v70 then v58 else v58))
 let v90:=(!(f20 p1.2.2.2.2.2.2.2.2.2.1 p1.2.2.2.2.2.2.2.2.2.2.1))
 let m7_16:=(bif v90 then m7_8 else m7_8)
 let m7_17:=(bif v90 then m7_9 else m7_9)
 let m7_18:=(bif v90 then m7_10 else m7_10)
 let m7_19:=(bif v90 then m7_11 else m7_11)
 let m7_20:=(bif v90 then m7_12 else m7_12)
 let m7_21:=(bif v90 then m7_13 else m7_13)
 let m7_22:=(bif v90 then m7_14 else m7_14)
 let m7_23:=(bif v90 then (f21 p1.2.2.2.2.2.2.2.2.2.2.1) else (bif v80 then m7_7 else m7_7))
 let s:=(m7_16,m7_17,m7_18,m7_19,m7_20,m7_21,m7_22,m7_23,())
 let v96:=(f13 s)
 let v98:=(v96 != 0)
 let s_4:=((bif v12 then (0:Int) else (bif v18 then (0:Int) else (bif v98 then (0:Int) else m7_16))),(bif v12 then (0:Int) else (bif v18 then (0:Int) else (bif v98 then (0:Int) else m7_17))),(bif v12 then (0:Int) else (bif v18 then (0:Int) else (bif v98 then (0:Int) else m7_18))),(bif v12 then [] else (bif v18 then [] else (bif v98 then [] else m7_19))),(bif v12 then (0:Int) else (bif v18 then (0:Int) else (bif v98 then (0:Int) else m7_20))),(bif v12 then ((0:Int),(0:Int),([]:List Int),()) else (bif v18 then ((0:Int),(0:Int),([]:List Int),()) else (bif v98 then ((0:Int),(0:Int),([]:List Int),()) else m7_21))),(bif v12 then [] else (bif v18 then [] else (bif v98 then [] else m7_22))),(bif v12 then [] else (bif v18 then [] else (bif v98 then [] else m7_23))),())
 (((uX7 p0) ∧ ((!v12) = true → ((sV0 p0 p1) ∧ ((!v18) = true → ((0 ≤ p1.2.2.1 ∧ p1.2.2.1 ≤ len p0.2.2.2.1) ∧ (InR (p1.2.2.1 + v46) ∧ ((0 ≤ v47 ∧ v47 ≤ len p0.2.2.2.1) ∧ ((sV2 v49) ∧ ((uJ4 v50) ∧ ((uJ7 p0.2.2.2.2.2.1) ∧ ((vR0 p0.2.2.2.2.2.2.1) ∧ ((vY1 p0.2.2.2.2.2.2.2.1) ∧ ((uJ5 p1.2.2.2.2.2.1 p1.2.2.2.2.2.2.1) ∧ ((v70 = true → (uJ7 p1.2.2.2.2.2.2.1)) ∧ ((uK p1.2.2.2.2.2.2.2.1 p1.2.2.2.2.2.2.2.2.1) ∧ ((v80 = true → (vR0 p1.2.2.2.2.2.2.2.2.1)) ∧ ((uK2 p1.2.2.2.2.2.2.2.2.2.1 p1.2.2.2.2.2.2.2.2.2.2.1) ∧ ((v90 = true → (vY1 p1.2.2.2.2.2.2.2.2.2.2.1)) ∧ (uX7 s))))))))))))))))))),(s_4,(bif v12 then v10 else (bif v18 then (14:Int) else (bif v98 then v96 else (0:Int)))),()))
def uY5 (p0:D28) (p1:D32):Prop:=(f8t p0 p1).1
def f8 (p0:D28) (p1:D32):(D28 × Int × Unit):=(f8t p0 p1).2
instance (p0:D28) (p1:D32):Decidable (uY5 p0 p1):=by
 unfold uY5 f8t
 try dsimp only
 infer_instance
def sG0:Am.Spec:=fnSpec [(0,(.val T28)),(1,(.val T32))] (.tup (.cons (.val T28) (.cons vI .nl))) [] (fun x=>uY5 x.1 x.2.1) (fun x=>f8 x.1 x.2.1) (fun _=>())
def nE4:Ctx:=Cx tys [(13,sF2),(15,tA6),(16,uJ6),(17,tA7),(18,uK0),(19,tA8),(20,uK3),(21,tA9),(24,rQ1),(25,rQ4)] [] [(17,[(4,0,58,400702)]),(25,[(5,0,400702,0),(4,0,83,400702)]),(37,[(4,0,400702,400402)])] false 102 [] []
theorem nE5:CtxOk Tryz.prog nE4:=xV6 tys_ok rfl ⟨pS8,qN8,rP4,qN9,rP5,qO6,rP8,qP3,nD9,nE3,trivial⟩ rfl (by kernel_rfl)
theorem oS7:SpecOk Tryz.prog 8 sG0:=xX4 nE5 mixed Tryz.func8 (by kernel_rfl) (bs:=[]) (by kernel_rfl) trivial fun x=>by kernel_rfl
def f9t (p0:D32):Prop × D32 :=
 let s:=(p0.2.1,p0.1,p0.2.2.1,(f15 p0.2.2.2.2.1),(f15 p0.2.2.2.1),(f17 p0.2.2.2.2.2.2.1),(f17 p0.2.2.2.2.2.1),(f19 p0.2.2.2.2.2.2.2.2.1),(f19 p0.2.2.2.2.2.2.2.1),(f21 p0.2.2.2.2.2.2.2.2.2.2.1),(f21 p0.2.2.2.2.2.2.2.2.2.1),())
 (((uJ4 p0.2.2.2.2.1) ∧ ((uJ4 p0.2.2.2.1) ∧ ((uJ7 p0.2.2.2.2.2.2.1) ∧ ((uJ7 p0.2.2.2.2.2.1) ∧ ((vR0 p0.2.2.2.2.2.2.2.2.1) ∧ ((vR0 p0.2.2.2.2.2.2.2.1) ∧ ((vY1 p0.2.2.2.2.2.2.2.2.2.2.1) ∧ (vY1 p0.2.2.2.2.2.2.2.2.2.1)))))))),s)
def rF4 (p0:D32):Prop:=(f9t p0).1
def f9 (p0:D32):D32:=(f9t p0).2
instance (p0:D32):Decidable (rF4 p0):=by
 unfold rF4 f9t
 try dsimp only
 infer_instance
def rF5:Am.Spec:=fnSpec [(0,(.val T32))] (.val T32) [] (fun x=>rF4 x.1) (fun x=>f9 x.1) (fun _=>())
def nE6:Ctx:=Cx tys [(15,tA6),(17,tA7),(19,tA8),(21,tA9)] [] [(3,[(4,0,23,400204),(4,0,26,400205)])] false 34 [] []
theorem nE7:CtxOk Tryz.prog nE6:=xV6 tys_ok rfl ⟨qN8,qN9,qO6,qP3,trivial⟩ rfl (by kernel_rfl)
theorem nE8:SpecOk Tryz.prog 9 rF5:=xX4 nE7 mixed Tryz.func9 (by kernel_rfl) (bs:=[]) (by kernel_rfl) trivial fun x=>by kernel_rfl
abbrev vD3:Type:=(D24 × D24 × Int × Unit)
abbrev wQ5:Type:=(Int × Unit)
def uP3 (y:vD3) (x:wQ5):Prop × Bool × wQ5 × Bool × Bool :=
 let a2:=y.1
 let a3:=y.2.1
 let a30:=x.1
 let v31:=(decide (a30 < y.2.2.1))
 let v43:=((nth a2.2.2.1 a30 (0:Int)) != (nth a3.2.2.1 a30 (0:Int)))
 ((v31 = true → (InB a30 (len a2.2.2.1) ∧ (InB a30 (len a3.2.2.1) ∧ ((!v43) = true → InR (a30 + 1))))),(v31 && (!v43)),((a30 + 1),()),(v31 && v43),(!v31))
def uK6 (y:vD3) (x:wQ5):Prop:=(uP3 y x).1
def wV3 (y:vD3) (x:wQ5):Bool:=(uP3 y x).2.1
def wE1 (y:vD3) (x:wQ5):wQ5:=(uP3 y x).2.2.1
def uK7 (y:vD3) (x:wQ5):Bool:=(uP3 y x).2.2.2.1
def qQ1 (y:vD3) (x:wQ5):Bool:=(uP3 y x).2.2.2.2
instance (y:vD3) (x:wQ5):Decidable (uK6 y x):=by
 unfold uK6 uP3
 try dsimp only
 infer_instance
def tQ6 (y:vD3) (x:wQ5):Bool :=
 false
def tQ7:St → Option Out:=xO8 [(2,(.box T24 (.val T24))),(3,(.box T24 (.val T24))),(29,vI)] [(30,vI)] wV3 wE1 uK6 fun y x=>[ex 1 (some (uK7 y x)) [(4,vB)] ((tQ6 y x),()),ex 2 (some (qQ1 y x)) [] ()]
def f26t (p0:D24) (p1:D24):Prop × Bool :=
 let v26:=(bif (bif (p0.1 != p1.1) then true else (p0.2.1 != p1.2.1)) then true else ((len p0.2.2.1) != (len p1.2.2.1)))
 let y4:=(p0,p1,(len p0.2.2.1),())
 let x4:=((0:Int),())
 let e4:=(zB9 (wV3 y4) (wE1 y4) x4)
 (((!v26) = true → (Am.Ends (wV3 y4) (wE1 y4) (uK6 y4) x4)),(bif v26 then false else (bif (uK7 y4 e4) then (tQ6 y4 e4) else true)))
def sV3 (p0:D24) (p1:D24):Prop:=(f26t p0 p1).1
def f26 (p0:D24) (p1:D24):Bool:=(f26t p0 p1).2
instance (p0:D24) (p1:D24):Decidable (sV3 p0 p1):=by
 unfold sV3 f26t
 try dsimp only
 infer_instance
def rQ6:Am.Spec:=fnSpec [(0,(.val T24)),(1,(.val T24))] vB [] (fun x=>sV3 x.1 x.2.1) (fun x=>f26 x.1 x.2.1) (fun _=>())
def qQ2:Ctx:=Cx tys [] [(4,tQ7)] [] false 45 [] []
theorem qQ3:CtxOk Tryz.prog qQ2:=xV6 tys_ok rfl trivial rfl (by kernel_rfl)
noncomputable def pK3:Code:=Tryz.f26.body.getD .skip
noncomputable def pU2:Code:=xW5 pK3 0
theorem qQ4:yU1 Tryz.prog qQ2 pU2:=xX3 qQ3 mixed (sp:=tQ7) rfl [[(4,vB)],[]] (bs:=[]) (by kernel_rfl) trivial (by kernel_rfl) (by kernel_rfl) fun y x=>by kernel_rfl
theorem nE9:SpecOk Tryz.prog 26 rQ6:=xX4 qQ3 mixed Tryz.func26 (by kernel_rfl) (bs:=[pU2]) (by kernel_rfl) ⟨qQ4,trivial⟩ fun x=>by kernel_rfl
abbrev vD4:Type:=((List Int) × (List Int) × Unit)
abbrev wQ6:Type:=(Int × Unit)
def uP4 (y:vD4) (x:wQ6):Prop × Bool × wQ6 × Bool × Bool :=
 let a0:=y.1
 let a1:=y.2.1
 let a5:=x.1
 let v14:=(decide (a5 < (len a0)))
 let v25:=((nth a0 a5 (0:Int)) != (nth a1 a5 (0:Int)))
 ((v14 = true → (InB a5 (len a0) ∧ (InB a5 (len a1) ∧ ((!v25) = true → InR (a5 + 1))))),(v14 && (!v25)),((a5 + 1),()),(v14 && v25),(!v14))
def uK8 (y:vD4) (x:wQ6):Prop:=(uP4 y x).1
def uK9 (y:vD4) (x:wQ6):Bool:=(uP4 y x).2.1
def wZ9 (y:vD4) (x:wQ6):wQ6:=(uP4 y x).2.2.1
def sV4 (y:vD4) (x:wQ6):Bool:=(uP4 y x).2.2.2.1
def qQ5 (y:vD4) (x:wQ6):Bool:=(uP4 y x).2.2.2.2
instance (y:vD4) (x:wQ6):Decidable (uK8 y x):=by
 unfold uK8 uP4
 try dsimp only
 infer_instance
def tQ8 (y:vD4) (x:wQ6):Bool :=
 false
def tQ9:St → Option Out:=xO8 [(0,(.val (.sl (.int .i64)))),(1,(.val (.sl (.int .i64))))] [(5,vI)] uK9 wZ9 uK8 fun y x=>[ex 1 (some (sV4 y x)) [(4,vB)] ((tQ8 y x),()),ex 2 (some (qQ5 y x)) [] ()]
def f70t (p0:(List Int)) (p1:(List Int)):Prop × Bool :=
 let v10:=((len p0) != (len p1))
 let y4:=(p0,p1,())
 let x4:=((0:Int),())
 let e4:=(zB9 (uK9 y4) (wZ9 y4) x4)
 (((!v10) = true → (Am.Ends (uK9 y4) (wZ9 y4) (uK8 y4) x4)),(bif v10 then false else (bif (sV4 y4 e4) then (tQ8 y4 e4) else true)))
def tZ3 (p0:(List Int)) (p1:(List Int)):Prop:=(f70t p0 p1).1
def f70 (p0:(List Int)) (p1:(List Int)):Bool:=(f70t p0 p1).2
instance (p0:(List Int)) (p1:(List Int)):Decidable (tZ3 p0 p1):=by
 unfold tZ3 f70t
 try dsimp only
 infer_instance
def sG1:Am.Spec:=fnSpec [(0,(.val (.sl (.int .i64)))),(1,(.val (.sl (.int .i64))))] vB [] (fun x=>tZ3 x.1 x.2.1) (fun x=>f70 x.1 x.2.1) (fun _=>())
def qQ6:Ctx:=Cx tys [] [(4,tQ9)] [] false 26 [] []
theorem qQ7:CtxOk Tryz.prog qQ6:=xV6 tys_ok rfl trivial rfl (by kernel_rfl)
noncomputable def pK4:Code:=Tryz.f70.body.getD .skip
noncomputable def pU3:Code:=xW5 pK4 0
theorem qQ8:yU1 Tryz.prog qQ6 pU3:=xX3 qQ7 mixed (sp:=tQ9) rfl [[(4,vB)],[]] (bs:=[]) (by kernel_rfl) trivial (by kernel_rfl) (by kernel_rfl) fun y x=>by kernel_rfl
theorem pU4:SpecOk Tryz.prog 70 sG1:=xX4 qQ7 mixed Tryz.func70 (by kernel_rfl) (bs:=[pU3]) (by kernel_rfl) ⟨qQ8,trivial⟩ fun x=>by kernel_rfl
def f48t (p0:D24) (p1:D24):Prop × Bool :=
 let v16:=(bif (p0.1 == p1.1) then (p0.2.1 == p1.2.1) else false)
 ((v16 = true → (tZ3 p0.2.2.1 p1.2.2.1)),(bif v16 then (f70 p0.2.2.1 p1.2.2.1) else false))
def sV5 (p0:D24) (p1:D24):Prop:=(f48t p0 p1).1
def f48 (p0:D24) (p1:D24):Bool:=(f48t p0 p1).2
instance (p0:D24) (p1:D24):Decidable (sV5 p0 p1):=by
 unfold sV5 f48t
 try dsimp only
 infer_instance
def rQ7:Am.Spec:=fnSpec [(0,(.val T24)),(1,(.val T24))] vB [] (fun x=>sV5 x.1 x.2.1) (fun x=>f48 x.1 x.2.1) (fun _=>())
def oS8:Ctx:=Cx tys [(70,sG1)] [] [] false 24 [] []
theorem oS9:CtxOk Tryz.prog oS8:=xV6 tys_ok rfl ⟨pU4,trivial⟩ rfl (by kernel_rfl)
theorem nF:SpecOk Tryz.prog 48 rQ7:=xX4 oS9 mixed Tryz.func48 (by kernel_rfl) (bs:=[]) (by kernel_rfl) trivial fun x=>by kernel_rfl
abbrev vD5:Type:=(D48 × D48 × Unit)
abbrev wQ7:Type:=(Int × Unit)
def uP5 (y:vD5) (x:wQ7):Prop × Bool × wQ7 × Bool × Bool :=
 let a2:=y.1
 let a3:=y.2.1
 let a5:=x.1
 let v31:=(decide (a5 < (len a2.2.2.1)))
 let v44:=(!(Ty.eqb T50 (nth a2.2.2.1 a5 Z50) (nth a3.2.2.1 a5 Z50)))
 ((v31 = true → (InB a5 (len a2.2.2.1) ∧ (InB a5 (len a3.2.2.1) ∧ ((!v44) = true → InR (a5 + 1))))),(v31 && (!v44)),((a5 + 1),()),(v31 && v44),(!v31))
def uL (y:vD5) (x:wQ7):Prop:=(uP5 y x).1
def wV4 (y:vD5) (x:wQ7):Bool:=(uP5 y x).2.1
def wE2 (y:vD5) (x:wQ7):wQ7:=(uP5 y x).2.2.1
def uL0 (y:vD5) (x:wQ7):Bool:=(uP5 y x).2.2.2.1
def qQ9 (y:vD5) (x:wQ7):Bool:=(uP5 y x).2.2.2.2
instance (y:vD5) (x:wQ7):Decidable (uL y x):=by
 unfold uL uP5
 try dsimp only
 infer_instance
def tR (y:vD5) (x:wQ7):Bool :=
 false
def tR0:St → Option Out:=xO8 [(2,(.box T48 (.val T48))),(3,(.box T48 (.val T48)))] [(5,vI)] wV4 wE2 uL fun y x=>[ex 1 (some (uL0 y x)) [(4,vB)] ((tR y x),()),ex 2 (some (qQ9 y x)) [] ()]
def f71t (p0:D48) (p1:D48):Prop × Bool :=
 let v26:=(bif (bif (p0.1 != p1.1) then true else (p0.2.1 != p1.2.1)) then true else ((len p0.2.2.1) != (len p1.2.2.1)))
 let y4:=(p0,p1,())
 let x4:=((0:Int),())
 let e4:=(zB9 (wV4 y4) (wE2 y4) x4)
 (((!v26) = true → (Am.Ends (wV4 y4) (wE2 y4) (uL y4) x4)),(bif v26 then false else (bif (uL0 y4 e4) then (tR y4 e4) else true)))
def sV6 (p0:D48) (p1:D48):Prop:=(f71t p0 p1).1
def f71 (p0:D48) (p1:D48):Bool:=(f71t p0 p1).2
instance (p0:D48) (p1:D48):Decidable (sV6 p0 p1):=by
 unfold sV6 f71t
 try dsimp only
 infer_instance
def rQ8:Am.Spec:=fnSpec [(0,(.val T48)),(1,(.val T48))] vB [] (fun x=>sV6 x.1 x.2.1) (fun x=>f71 x.1 x.2.1) (fun _=>())
def qR:Ctx:=Cx tys [] [(4,tR0)] [] false 45 [] []
theorem qR0:CtxOk Tryz.prog qR:=xV6 tys_ok rfl trivial rfl (by kernel_rfl)
noncomputable def pK5:Code:=Tryz.f71.body.getD .skip
noncomputable def pU5:Code:=xW5 pK5 0
theorem qR1:yU1 Tryz.prog qR pU5:=xX3 qR0 mixed (sp:=tR0) rfl [[(4,vB)],[]] (bs:=[]) (by kernel_rfl) trivial (by kernel_rfl) (by kernel_rfl) fun y x=>by kernel_rfl
theorem nF0:SpecOk Tryz.prog 71 rQ8:=xX4 qR0 mixed Tryz.func71 (by kernel_rfl) (bs:=[pU5]) (by kernel_rfl) ⟨qR1,trivial⟩ fun x=>by kernel_rfl
abbrev vD6:Type:=((List D91) × (List D91) × Unit)
abbrev wQ8:Type:=(Int × Unit)
def uP6 (y:vD6) (x:wQ8):Prop × Bool × wQ8 × Bool × Bool :=
 let a0:=y.1
 let a1:=y.2.1
 let a5:=x.1
 let v14:=(decide (a5 < (len a0)))
 let v25:=(!(Ty.eqb T91 (nth a0 a5 Z91) (nth a1 a5 Z91)))
 ((v14 = true → (InB a5 (len a0) ∧ (InB a5 (len a1) ∧ ((!v25) = true → InR (a5 + 1))))),(v14 && (!v25)),((a5 + 1),()),(v14 && v25),(!v14))
def uL1 (y:vD6) (x:wQ8):Prop:=(uP6 y x).1
def uL2 (y:vD6) (x:wQ8):Bool:=(uP6 y x).2.1
def vA (y:vD6) (x:wQ8):wQ8:=(uP6 y x).2.2.1
def sV7 (y:vD6) (x:wQ8):Bool:=(uP6 y x).2.2.2.1
def qR2 (y:vD6) (x:wQ8):Bool:=(uP6 y x).2.2.2.2
instance (y:vD6) (x:wQ8):Decidable (uL1 y x):=by
 unfold uL1 uP6
 try dsimp only
 infer_instance
def tR1 (y:vD6) (x:wQ8):Bool :=
 false
def tR2:St → Option Out:=xO8 [(0,(.val (.sl T91))),(1,(.val (.sl T91)))] [(5,vI)] uL2 vA uL1 fun y x=>[ex 1 (some (sV7 y x)) [(4,vB)] ((tR1 y x),()),ex 2 (some (qR2 y x)) [] ()]
def f72t (p0:(List D91)) (p1:(List D91)):Prop × Bool :=
 let v10:=((len p0) != (len p1))
 let y4:=(p0,p1,())
 let x4:=((0:Int),())
 let e4:=(zB9 (uL2 y4) (vA y4) x4)
 (((!v10) = true → (Am.Ends (uL2 y4) (vA y4) (uL1 y4) x4)),(bif v10 then false else (bif (sV7 y4 e4) then (tR1 y4 e4) else true)))
def sV8 (p0:(List D91)) (p1:(List D91)):Prop:=(f72t p0 p1).1
def f72 (p0:(List D91)) (p1:(List D91)):Bool:=(f72t p0 p1).2
instance (p0:(List D91)) (p1:(List D91)):Decidable (sV8 p0 p1):=by
 unfold sV8 f72t
 try dsimp only
 infer_instance
def rQ9:Am.Spec:=fnSpec [(0,(.val (.sl T91))),(1,(.val (.sl T91)))] vB [] (fun x=>sV8 x.1 x.2.1) (fun x=>f72 x.1 x.2.1) (fun _=>())
def qR3:Ctx:=Cx tys [] [(4,tR2)] [] false 26 [] []
theorem qR4:CtxOk Tryz.prog qR3:=xV6 tys_ok rfl trivial rfl (by kernel_rfl)
noncomputable def pK6:Code:=Tryz.f72.body.getD .skip
noncomputable def pU6:Code:=xW5 pK6 0
theorem qR5:yU1 Tryz.prog qR3 pU6:=xX3 qR4 mixed (sp:=tR2) rfl [[(4,vB)],[]] (bs:=[]) (by kernel_rfl) trivial (by kernel_rfl) (by kernel_rfl) fun y x=>by kernel_rfl
theorem nF1:SpecOk Tryz.prog 72 rQ9:=xX4 qR4 mixed Tryz.func72 (by kernel_rfl) (bs:=[pU6]) (by kernel_rfl) ⟨qR5,trivial⟩ fun x=>by kernel_rfl
abbrev vD7:Type:=((List D97) × (List D97) × Unit)
abbrev wQ9:Type:=(Int × Unit)
def uP7 (y:vD7) (x:wQ9):Prop × Bool × wQ9 × Bool × Bool :=
 let a0:=y.1
 let a1:=y.2.1
 let a5:=x.1
 let v14:=(decide (a5 < (len a0)))
 let v25:=(!(Ty.eqb T97 (nth a0 a5 Z97) (nth a1 a5 Z97)))
 ((v14 = true → (InB a5 (len a0) ∧ (InB a5 (len a1) ∧ ((!v25) = true → InR (a5 + 1))))),(v14 && (!v25)),((a5 + 1),()),(v14 && v25),(!v14))
def uL3 (y:vD7) (x:wQ9):Prop:=(uP7 y x).1
def uL4 (y:vD7) (x:wQ9):Bool:=(uP7 y x).2.1
def vA0 (y:vD7) (x:wQ9):wQ9:=(uP7 y x).2.2.1
def sV9 (y:vD7) (x:wQ9):Bool:=(uP7 y x).2.2.2.1
def qR6 (y:vD7) (x:wQ9):Bool:=(uP7 y x).2.2.2.2
instance (y:vD7) (x:wQ9):Decidable (uL3 y x):=by
 unfold uL3 uP7
 try dsimp only
 infer_instance
def tR3 (y:vD7) (x:wQ9):Bool :=
 false
def tR4:St → Option Out:=xO8 [(0,(.val (.sl T97))),(1,(.val (.sl T97)))] [(5,vI)] uL4 vA0 uL3 fun y x=>[ex 1 (some (sV9 y x)) [(4,vB)] ((tR3 y x),()),ex 2 (some (qR6 y x)) [] ()]
def f73t (p0:(List D97)) (p1:(List D97)):Prop × Bool :=
 let v10:=((len p0) != (len p1))
 let y4:=(p0,p1,())
 let x4:=((0:Int),())
 let e4:=(zB9 (uL4 y4) (vA0 y4) x4)
 (((!v10) = true → (Am.Ends (uL4 y4) (vA0 y4) (uL3 y4) x4)),(bif v10 then false else (bif (sV9 y4 e4) then (tR3 y4 e4) else true)))
def sW (p0:(List D97)) (p1:(List D97)):Prop:=(f73t p0 p1).1
def f73 (p0:(List D97)) (p1:(List D97)):Bool:=(f73t p0 p1).2
instance (p0:(List D97)) (p1:(List D97)):Decidable (sW p0 p1):=by
 unfold sW f73t
 try dsimp only
 infer_instance
def rR:Am.Spec:=fnSpec [(0,(.val (.sl T97))),(1,(.val (.sl T97)))] vB [] (fun x=>sW x.1 x.2.1) (fun x=>f73 x.1 x.2.1) (fun _=>())
def qR7:Ctx:=Cx tys [] [(4,tR4)] [] false 26 [] []
theorem qR8:CtxOk Tryz.prog qR7:=xV6 tys_ok rfl trivial rfl (by kernel_rfl)
noncomputable def pK7:Code:=Tryz.f73.body.getD .skip
noncomputable def pU7:Code:=xW5 pK7 0
theorem qR9:yU1 Tryz.prog qR7 pU7:=xX3 qR8 mixed (sp:=tR4) rfl [[(4,vB)],[]] (bs:=[]) (by kernel_rfl) trivial (by kernel_rfl) (by kernel_rfl) fun y x=>by kernel_rfl
theorem nF2:SpecOk Tryz.prog 73 rR:=xX4 qR8 mixed Tryz.func73 (by kernel_rfl) (bs:=[pU7]) (by kernel_rfl) ⟨qR9,trivial⟩ fun x=>by kernel_rfl
abbrev vD8:Type:=(D55 × D55 × Unit)
abbrev wR:Type:=(Int × Unit)
def uP8 (y:vD8) (x:wR):Prop × Bool × wR × Bool × Bool :=
 let a2:=y.1
 let a3:=y.2.1
 let a5:=x.1
 let v38:=(decide (a5 < (len a2.2.2.2.1)))
 let v51:=(!(Ty.eqb T94 (nth a2.2.2.2.1 a5 Z94) (nth a3.2.2.2.1 a5 Z94)))
 ((v38 = true → (InB a5 (len a2.2.2.2.1) ∧ (InB a5 (len a3.2.2.2.1) ∧ ((!v51) = true → InR (a5 + 1))))),(v38 && (!v51)),((a5 + 1),()),(v38 && v51),(!v38))
def uL5 (y:vD8) (x:wR):Prop:=(uP8 y x).1
def wV5 (y:vD8) (x:wR):Bool:=(uP8 y x).2.1
def wE3 (y:vD8) (x:wR):wR:=(uP8 y x).2.2.1
def uL6 (y:vD8) (x:wR):Bool:=(uP8 y x).2.2.2.1
def qS (y:vD8) (x:wR):Bool:=(uP8 y x).2.2.2.2
instance (y:vD8) (x:wR):Decidable (uL5 y x):=by
 unfold uL5 uP8
 try dsimp only
 infer_instance
def tR5 (y:vD8) (x:wR):Bool :=
 false
def tR6:St → Option Out:=xO8 [(2,(.box T55 (.val T55))),(3,(.box T55 (.val T55)))] [(5,vI)] wV5 wE3 uL5 fun y x=>[ex 1 (some (uL6 y x)) [(4,vB)] ((tR5 y x),()),ex 2 (some (qS y x)) [] ()]
def f74t (p0:D55) (p1:D55):Prop × Bool :=
 let v33:=(bif (bif (bif (p0.1 != p1.1) then true else (p0.2.1 != p1.2.1)) then true else (p0.2.2.1 != p1.2.2.1)) then true else ((len p0.2.2.2.1) != (len p1.2.2.2.1)))
 let y4:=(p0,p1,())
 let x4:=((0:Int),())
 let e4:=(zB9 (wV5 y4) (wE3 y4) x4)
 (((!v33) = true → (Am.Ends (wV5 y4) (wE3 y4) (uL5 y4) x4)),(bif v33 then false else (bif (uL6 y4 e4) then (tR5 y4 e4) else true)))
def sW0 (p0:D55) (p1:D55):Prop:=(f74t p0 p1).1
def f74 (p0:D55) (p1:D55):Bool:=(f74t p0 p1).2
instance (p0:D55) (p1:D55):Decidable (sW0 p0 p1):=by
 unfold sW0 f74t
 try dsimp only
 infer_instance
def rR0:Am.Spec:=fnSpec [(0,(.val T55)),(1,(.val T55))] vB [] (fun x=>sW0 x.1 x.2.1) (fun x=>f74 x.1 x.2.1) (fun _=>())
def qS0:Ctx:=Cx tys [] [(4,tR6)] [] false 52 [] []
theorem qS1:CtxOk Tryz.prog qS0:=xV6 tys_ok rfl trivial rfl (by kernel_rfl)
noncomputable def pK8:Code:=Tryz.f74.body.getD .skip
noncomputable def pU8:Code:=xW5 pK8 0
theorem qS2:yU1 Tryz.prog qS0 pU8:=xX3 qS1 mixed (sp:=tR6) rfl [[(4,vB)],[]] (bs:=[]) (by kernel_rfl) trivial (by kernel_rfl) (by kernel_rfl) fun y x=>by kernel_rfl
theorem nF3:SpecOk Tryz.prog 74 rR0:=xX4 qS1 mixed Tryz.func74 (by kernel_rfl) (bs:=[pU8]) (by kernel_rfl) ⟨qS2,trivial⟩ fun x=>by kernel_rfl
def f49t (p0:D57) (p1:D57):Prop × Bool :=
 let v23:=(bif (bif (f71 p0.2.2.2.2.2.2.2.2.2.2.2.2.1 p1.2.2.2.2.2.2.2.2.2.2.2.2.1) then (Ty.eqb T50 p0.2.2.2.2.2.2.2.2.2.2.2.2.2.1 p1.2.2.2.2.2.2.2.2.2.2.2.2.2.1) else false) then (p0.2.2.2.2.2.2.2.2.2.2.2.2.2.2.1 == p1.2.2.2.2.2.2.2.2.2.2.2.2.2.2.1) else false)
 let v37:=(bif (bif v23 then (f70 p0.2.2.2.2.2.2.2.2.2.2.2.2.2.2.2.1 p1.2.2.2.2.2.2.2.2.2.2.2.2.2.2.2.1) else false) then (p0.2.2.2.2.2.2.2.2.2.2.2.2.2.2.2.2.1 == p1.2.2.2.2.2.2.2.2.2.2.2.2.2.2.2.2.1) else false)
 let v44:=(bif v37 then (f72 p0.2.2.2.2.2.2.2.2.2.2.2.2.2.2.2.2.2.1 p1.2.2.2.2.2.2.2.2.2.2.2.2.2.2.2.2.2.1) else false)
 let v58:=(bif (bif v44 then (f73 p0.2.2.2.2.2.2.2.2.2.2.2.2.2.2.2.2.2.2.1 p1.2.2.2.2.2.2.2.2.2.2.2.2.2.2.2.2.2.2.1) else false) then (p0.2.2.2.2.2.2.2.2.2.2.2.2.2.2.2.2.2.2.2.1 == p1.2.2.2.2.2.2.2.2.2.2.2.2.2.2.2.2.2.2.2.1) else false)
 let v72:=(bif (bif v58 then (p0.2.2.2.2.2.2.2.2.2.2.2.2.2.2.2.2.2.2.2.2.1 == p1.2.2.2.2.2.2.2.2.2.2.2.2.2.2.2.2.2.2.2.2.1) else false) then (p0.2.2.2.2.2.2.2.2.2.2.2.2.2.2.2.2.2.2.2.2.2.1 == p1.2.2.2.2.2.2.2.2.2.2.2.2.2.2.2.2.2.2.2.2.2.1) else false)
 let v86:=(bif (bif v72 then (p0.2.2.2.2.2.2.2.2.2.2.2.2.2.2.2.2.2.2.2.2.2.2.1 == p1.2.2.2.2.2.2.2.2.2.2.2.2.2.2.2.2.2.2.2.2.2.2.1) else false) then (p0.2.2.2.2.2.2.2.2.2.2.2.2.2.2.2.2.2.2.2.2.2.2.2.1 == p1.2.2.2.2.2.2.2.2.2.2.2.2.2.2.2.2.2.2.2.2.2.2.2.1) else false)
 let v100:=(bif (bif v86 then (p0.2.2.2.2.2.2.2.2.2.2.2.2.2.2.2.2.2.2.2.2.2.2.2.2.1 == p1.2.2.2.2.2.2.2.2.2.2.2.2.2.2.2.2.2.2.2.2.2.2.2.2.1) else false) then (p0.2.2.2.2.2.2.2.2.2.2.2.2.2.2.2.2.2.2.2.2.2.2.2.2.2.1 == p1.2.2.2.2.2.2.2.2.2.2.2.2.2.2.2.2.2.2.2.2.2.2.2.2.2.1) else false)
 let v107:=(bif v100 then (p0.2.2.2.2.2.2.2.2.2.2.2.2.2.2.2.2.2.2.2.2.2.2.2.2.2.2.1 == p1.2.2.2.2.2.2.2.2.2.2.2.2.2.2.2.2.2.2.2.2.2.2.2.2.2.2.1) else false)
 (((sV6 p0.2.2.2.2.2.2.2.2.2.2.2.2.1 p1.2.2.2.2.2.2.2.2.2.2.2.2.1) ∧ ((v23 = true → (tZ3 p0.2.2.2.2.2.2.2.2.2.2.2.2.2.2.2.1 p1.2.2.2.2.2.2.2.2.2.2.2.2.2.2.2.1)) ∧ ((v37 = true → (sV8 p0.2.2.2.2.2.2.2.2.2.2.2.2.2.2.2.2.2.1 p1.2.2.2.2.2.2.2.2.2.2.2.2.2.2.2.2.2.1)) ∧ ((v44 = true → (sW p0.2.2.2.2.2.2.2.2.2.2.2.2.2.2.2.2.2.2.1 p1.2.2.2.2.2.2.2.2.2.2.2.2.2.2.2.2.2.2.1)) ∧ (v107 = true → (sW0 p0.2.2.2.2.2.2.2.2.2.2.2.2.2.2.2.2.2.2.2.2.2.2.2.2.2.2.2.1 p1.2.2.2.2.2.2.2.2.2.2.2.2.2.2.2.2.2.2.2.2.2.2.2.2.2.2.2.1)))))),(bif v107 then (f74 p0.2.2.2.2.2.2.2.2.2.2.2.2.2.2.2.2.2.2.2.2.2.2.2.2.2.2.2.1 p1.2.2.2.2.2.2.2.2.2.2.2.2.2.2.2.2.2.2.2.2.2.2.2.2.2.2.2.1) else false))
def sW1 (p0:D57) (p1:D57):Prop:=(f49t p0 p1).1
def f49 (p0:D57) (p1:D57):Bool:=(f49t p0 p1).2
instance (p0:D57) (p1:D57):Decidable (sW1 p0 p1):=by
 unfold sW1 f49t
 try dsimp only
 infer_instance
def rR1:Am.Spec:=fnSpec [(0,(.val T57)),(1,(.val T57))] vB [] (fun x=>sW1 x.1 x.2.1) (fun x=>f49 x.1 x.2.1) (fun _=>())
def oT:Ctx:=Cx tys [(70,sG1),(71,rQ8),(72,rQ9),(73,rR),(74,rR0)] [] [] false 115 [] []
theorem oT0:CtxOk Tryz.prog oT:=xV6 tys_ok rfl ⟨pU4,nF0,nF1,nF2,nF3,trivial⟩ rfl (by kernel_rfl)
theorem nF4:SpecOk Tryz.prog 49 rR1:=xX4 oT0 mixed Tryz.func49 (by kernel_rfl) (bs:=[]) (by kernel_rfl) trivial fun x=>by kernel_rfl
def f27t (p0:D57) (p1:D57):Prop × Bool :=
 let v37:=(bif (bif (bif (bif (p0.1 == p1.1) then (p0.2.1 == p1.2.1) else false) then (p0.2.2.1 == p1.2.2.1) else false) then (p0.2.2.2.1 == p1.2.2.2.1) else false) then (Ty.eqb .bool p0.2.2.2.2.1 p1.2.2.2.2.1) else false)
 let v58:=(bif (bif (bif v37 then (Ty.eqb .bool p0.2.2.2.2.2.1 p1.2.2.2.2.2.1) else false) then (Ty.eqb .bool p0.2.2.2.2.2.2.1 p1.2.2.2.2.2.2.1) else false) then (p0.2.2.2.2.2.2.2.1 == p1.2.2.2.2.2.2.2.1) else false)
 let v65:=(bif v58 then (p0.2.2.2.2.2.2.2.2.1 == p1.2.2.2.2.2.2.2.2.1) else false)
 let v86:=(bif (bif (bif v65 then (f48 p0.2.2.2.2.2.2.2.2.2.1 p1.2.2.2.2.2.2.2.2.2.1) else false) then (Ty.eqb T45 p0.2.2.2.2.2.2.2.2.2.2.1 p1.2.2.2.2.2.2.2.2.2.2.1) else false) then (p0.2.2.2.2.2.2.2.2.2.2.2.1 == p1.2.2.2.2.2.2.2.2.2.2.2.1) else false)
 (((v65 = true → (sV5 p0.2.2.2.2.2.2.2.2.2.1 p1.2.2.2.2.2.2.2.2.2.1)) ∧ (v86 = true → (sW1 p0 p1))),(bif v86 then (f49 p0 p1) else false))
def tZ4 (p0:D57) (p1:D57):Prop:=(f27t p0 p1).1
def f27 (p0:D57) (p1:D57):Bool:=(f27t p0 p1).2
instance (p0:D57) (p1:D57):Decidable (tZ4 p0 p1):=by
 unfold tZ4 f27t
 try dsimp only
 infer_instance
def rR2:Am.Spec:=fnSpec [(0,(.val T57)),(1,(.val T57))] vB [] (fun x=>tZ4 x.1 x.2.1) (fun x=>f27 x.1 x.2.1) (fun _=>())
def oT1:Ctx:=Cx tys [(48,rQ7),(49,rR1)] [] [] false 92 [] []
theorem oT2:CtxOk Tryz.prog oT1:=xV6 tys_ok rfl ⟨nF,nF4,trivial⟩ rfl (by kernel_rfl)
theorem nF5:SpecOk Tryz.prog 27 rR2:=xX4 oT2 mixed Tryz.func27 (by kernel_rfl) (bs:=[]) (by kernel_rfl) trivial fun x=>by kernel_rfl
abbrev vD9:Type:=(D48 × D48 × Unit)
abbrev wR0:Type:=(Int × Unit)
def uP9 (y:vD9) (x:wR0):Prop × Bool × wR0 × Bool × Bool :=
 let a2:=y.1
 let a3:=y.2.1
 let a5:=x.1
 let v31:=(decide (a5 < (len a2.2.2.1)))
 let v44:=(!(Ty.eqb T50 (nth a2.2.2.1 a5 Z50) (nth a3.2.2.1 a5 Z50)))
 ((v31 = true → (InB a5 (len a2.2.2.1) ∧ (InB a5 (len a3.2.2.1) ∧ ((!v44) = true → InR (a5 + 1))))),(v31 && (!v44)),((a5 + 1),()),(v31 && v44),(!v31))
def uL7 (y:vD9) (x:wR0):Prop:=(uP9 y x).1
def wV6 (y:vD9) (x:wR0):Bool:=(uP9 y x).2.1
def wE4 (y:vD9) (x:wR0):wR0:=(uP9 y x).2.2.1
def uL8 (y:vD9) (x:wR0):Bool:=(uP9 y x).2.2.2.1
def qS3 (y:vD9) (x:wR0):Bool:=(uP9 y x).2.2.2.2
instance (y:vD9) (x:wR0):Decidable (uL7 y x):=by
 unfold uL7 uP9
 try dsimp only
 infer_instance
def tR7 (y:vD9) (x:wR0):Bool :=
 false
def tR8:St → Option Out:=xO8 [(2,(.box T48 (.val T48))),(3,(.box T48 (.val T48)))] [(5,vI)] wV6 wE4 uL7 fun y x=>[ex 1 (some (uL8 y x)) [(4,vB)] ((tR7 y x),()),ex 2 (some (qS3 y x)) [] ()]
def f28t (p0:D48) (p1:D48):Prop × Bool :=
 let v26:=(bif (bif (p0.1 != p1.1) then true else (p0.2.1 != p1.2.1)) then true else ((len p0.2.2.1) != (len p1.2.2.1)))
 let y4:=(p0,p1,())
 let x4:=((0:Int),())
 let e4:=(zB9 (wV6 y4) (wE4 y4) x4)
 (((!v26) = true → (Am.Ends (wV6 y4) (wE4 y4) (uL7 y4) x4)),(bif v26 then false else (bif (uL8 y4 e4) then (tR7 y4 e4) else true)))
def sW2 (p0:D48) (p1:D48):Prop:=(f28t p0 p1).1
def f28 (p0:D48) (p1:D48):Bool:=(f28t p0 p1).2
instance (p0:D48) (p1:D48):Decidable (sW2 p0 p1):=by
 unfold sW2 f28t
 try dsimp only
 infer_instance
def rR3:Am.Spec:=fnSpec [(0,(.val T48)),(1,(.val T48))] vB [] (fun x=>sW2 x.1 x.2.1) (fun x=>f28 x.1 x.2.1) (fun _=>())
def qS4:Ctx:=Cx tys [] [(4,tR8)] [] false 45 [] []
theorem qS5:CtxOk Tryz.prog qS4:=xV6 tys_ok rfl trivial rfl (by kernel_rfl)
noncomputable def pK9:Code:=Tryz.f28.body.getD .skip
noncomputable def pU9:Code:=xW5 pK9 0
theorem qS6:yU1 Tryz.prog qS4 pU9:=xX3 qS5 mixed (sp:=tR8) rfl [[(4,vB)],[]] (bs:=[]) (by kernel_rfl) trivial (by kernel_rfl) (by kernel_rfl) fun y x=>by kernel_rfl
theorem nF6:SpecOk Tryz.prog 28 rR3:=xX4 qS5 mixed Tryz.func28 (by kernel_rfl) (bs:=[pU9]) (by kernel_rfl) ⟨qS6,trivial⟩ fun x=>by kernel_rfl
end Go.Proofs.YtigpekbhmpfcoaaGreatDoor.Am
