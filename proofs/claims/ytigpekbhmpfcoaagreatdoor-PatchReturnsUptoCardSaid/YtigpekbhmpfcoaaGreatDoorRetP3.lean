/- Printed by program, part 3. No condition. -/
import Derived.Test.YtigpekbhmpfcoaaGreatDoorRetP2
set_option linter.unusedVariables false
set_option synthInstance.maxSize 4000
set_option synthInstance.maxHeartbeats 400000
namespace Go.Proofs.YtigpekbhmpfcoaaGreatDoor.Am
open Go Go.Am Go.Proofs
abbrev wN7:Type:=((List (List D94)) × D45 × (List (List D94)) × Int × Unit)
abbrev wH2:Type:=(Int × Int × Unit)
def vW1 (y:wN7) (x:wH2):Prop × Bool × wH2 × Bool × Bool :=
 let a21:=y.2.2.1
 let a7:=x.1
 let a23:=x.2.1
 let v24:=(decide (a23 < y.2.2.2.1))
 let v29:=(len (nth a21 a23 ([]:List D94)))
 let v30:=(a7 + v29)
 let v32:=(decide (v30 > 4096))
 ((v24 = true → (InB a23 (len a21) ∧ (InR (a7 + v29) ∧ ((!v32) = true → InR (a23 + 1))))),(v24 && (!v32)),(v30,(a23 + 1),()),(v24 && v32),(!v24))
def wY (y:wN7) (x:wH2):Prop:=(vW1 y x).1
def vR1 (y:wN7) (x:wH2):Bool:=(vW1 y x).2.1
def wU (y:wN7) (x:wH2):wH2:=(vW1 y x).2.2.1
def uQ3 (y:wN7) (x:wH2):Bool:=(vW1 y x).2.2.2.1
def tY3 (y:wN7) (x:wH2):Bool:=(vW1 y x).2.2.2.2
instance (y:wN7) (x:wH2):Decidable (wY y x):=by
 unfold wY vW1
 try dsimp only
 infer_instance
def vR2 (y:wN7) (x:wH2):(List (List D94)) :=
 ([]:List (List D94))
def uY3 (y:wN7) (x:wH2):Int :=
 (3:Int)
def tY4:List (Nat × Sh):=[(4,(.own (.sl T94) 0 false)),(5,vI)]
def tY5:List (Nat × Sh):=[(0,(.val (.sl (.sl T94)))),(3,(.box T45 (.val T45)))]
def uY4:St → Option Out:=xO8 [(0,(.val (.sl (.sl T94)))),(3,(.box T45 (.val T45))),(21,(.val (.sl (.sl T94)))),(22,vI)] [(7,vI),(23,vI)] vR1 wU wY fun y x=>[ex 1 (some (uQ3 y x)) tY4 ((vR2 y x),(uY3 y x),()),ex 2 (some (tY3 y x)) tY5 (y.1,y.2.1,())]
abbrev wB6:Type:=(D45 × Int × (List (List D94)) × Int × Int × (List D94) × Int × Unit)
abbrev wA3:Type:=(((List (List D94)) × Nat) × Int × Unit)
def vJ (y:wB6) (x:wA3):Prop × Bool × wA3 × Bool × Bool :=
 let a3:=y.1
 let a11:=y.2.1
 let a50:=y.2.2.2.2.2.1
 let a10:=x.1
 let a52:=x.2.1
 let v53:=(decide (a52 < y.2.2.2.2.2.2.1))
 let v55:=(nth a50 a52 Z94)
 let v58:=(f131 v55)
 let v61:=(f130 a3 v55)
 let v63:=(f131 v61)
 let v67:=(List.getD a10.1 a10.2 [])
 let c:=((!v58) && (!v63))
 ((v53 = true → (InB a52 (len a50) ∧ ((vO5 v55) ∧ (((!v58) = true → ((uP4 a3 v55) ∧ ((vO5 v61) ∧ ((!v63) = true → (InB a11 (len a10.1) ∧ ((Int.toNat a11 = a10.2 ∧ a11 < len a10.1) ∧ (InB a52 (len v67) ∧ a52 < len v67))))))) ∧ (c = true → InR (a52 + 1)))))),(v53 && c),(((List.set a10.1 a10.2 (List.set (List.getD a10.1 a10.2 []) (Int.toNat a52) v61)),a10.2),(a52 + 1),()),(v53 && (v58 || ((!v58) && v63))),(!v53))
def wH3 (y:wB6) (x:wA3):Prop:=(vJ y x).1
def wB1 (y:wB6) (x:wA3):Bool:=(vJ y x).2.1
def xY7 (y:wB6) (x:wA3):wA3:=(vJ y x).2.2.1
def tN (y:wB6) (x:wA3):Bool:=(vJ y x).2.2.2.1
def uB4 (y:wB6) (x:wA3):Bool:=(vJ y x).2.2.2.2
instance (y:wB6) (x:wA3):Decidable (wH3 y x):=by
 unfold wH3 vJ
 try dsimp only
 infer_instance
def vM1 (y:wB6) (x:wA3):(List (List D94)) :=
 ([]:List (List D94))
def uJ8 (y:wB6) (x:wA3):Int :=
 (bif (f131 (nth y.2.2.2.2.2.1 x.2.1 Z94)) then (2:Int) else (2:Int))
def tN0:List (Nat × Sh):=[(4,(.own (.sl T94) 0 false)),(5,vI)]
def uJ9 (y:wB6) (x:wA3):((List (List D94)) × Nat) :=
 let a10:=x.1
 (a10.1,a10.2)
def tN1:List (Nat × Sh):=[(3,(.box T45 (.val T45))),(10,(.ownh T94 1010 48 true)),(37,(.val (.sl (.sl T94)))),(38,vI),(39,vI)]
def uK:St → Option Out:=xO8 [(3,(.box T45 (.val T45))),(11,vI),(37,(.val (.sl (.sl T94)))),(38,vI),(39,vI),(50,(.val (.sl T94))),(51,vI)] [(10,(.ownh T94 1010 48 true)),(52,vI)] wB1 xY7 wH3 fun y x=>[ex 1 (some (tN y x)) tN0 ((vM1 y x),(uJ8 y x),()),ex 6 (some (uB4 y x)) tN1 (y.1,(uJ9 y x),y.2.2.1,y.2.2.2.1,y.2.2.2.2.1,())]
abbrev wA4:Type:=(D45 × (List (List D94)) × Int × Unit)
abbrev xZ1:Type:=((List (List D94)) × Int × Unit)
def vJ0 (y:wA4) (x:xZ1):Prop × Bool × xZ1 × Bool × Bool :=
 let a37:=y.2.1
 let a38:=y.2.2.1
 let a10:=x.1
 let a39:=x.2.1
 let v40:=(decide (a39 < a38))
 let v42:=(nth a37 a39 ([]:List D94))
 let v47:=(len v42)
 let y18:=(y.1,a39,a37,a38,a39,v42,(len v42),())
 let x18:=(((List.set a10 (Int.toNat a39) (List.replicate (Int.toNat v47) Z94)),(Int.toNat a39)),(0:Int),())
 let e18:=(zB9 (wB1 y18) (xY7 y18) x18)
 let q18_6:=(uB4 y18 e18)
 ((v40 = true → (InB a39 (len a37) ∧ ((0 ≤ v47 ∧ v47 ≤ v47 ∧ v47 ≤ 4294967296) ∧ (InB a39 (len a10) ∧ (a39 < len a10 ∧ ((Am.Ends (wB1 y18) (xY7 y18) (wH3 y18) x18) ∧ (q18_6 = true → InR (a39 + 1)))))))),(v40 && q18_6),((uJ9 y18 e18).1,(a39 + 1),()),(v40 && (tN y18 e18)),(!v40))
def wL4 (y:wA4) (x:xZ1):Prop:=(vJ0 y x).1
def wP0 (y:wA4) (x:xZ1):Bool:=(vJ0 y x).2.1
def wC (y:wA4) (x:xZ1):xZ1:=(vJ0 y x).2.2.1
def uB5 (y:wA4) (x:xZ1):Bool:=(vJ0 y x).2.2.2.1
def rC6 (y:wA4) (x:xZ1):Bool:=(vJ0 y x).2.2.2.2
instance (y:wA4) (x:xZ1):Decidable (wL4 y x):=by
 unfold wL4 vJ0
 try dsimp only
 infer_instance
def vM2 (y:wA4) (x:xZ1):(List (List D94)) :=
 let a37:=y.2.1
 let a39:=x.2.1
 let v42:=(nth a37 a39 ([]:List D94))
 let y18:=(y.1,a39,a37,y.2.2.1,a39,v42,(len v42),())
 (vM1 y18 (zB9 (wB1 y18) (xY7 y18) (((List.set x.1 (Int.toNat a39) (List.replicate (Int.toNat (len v42)) Z94)),(Int.toNat a39)),(0:Int),())))
def uK0 (y:wA4) (x:xZ1):Int :=
 let a37:=y.2.1
 let a39:=x.2.1
 let v42:=(nth a37 a39 ([]:List D94))
 let y18:=(y.1,a39,a37,y.2.2.1,a39,v42,(len v42),())
 (uJ8 y18 (zB9 (wB1 y18) (xY7 y18) (((List.set x.1 (Int.toNat a39) (List.replicate (Int.toNat (len v42)) Z94)),(Int.toNat a39)),(0:Int),())))
def tN2:List (Nat × Sh):=[(4,(.own (.sl T94) 0 false)),(5,vI)]
def vM3 (y:wA4) (x:xZ1):(List (List D94)) :=
 x.1
def tN3:List (Nat × Sh):=[(10,(.own (.sl T94) 1010 true))]
def uK1:St → Option Out:=xO8 [(3,(.box T45 (.val T45))),(37,(.val (.sl (.sl T94)))),(38,vI)] [(10,(.own (.sl T94) 1010 true)),(39,vI)] wP0 wC wL4 fun y x=>[ex 1 (some (uB5 y x)) tN2 ((vM2 y x),(uK0 y x),()),ex 4 (some (rC6 y x)) tN3 ((vM3 y x),())]
def pF6 (p0:(List (List D94))) (p1:D45):Prop × ((List (List D94)) × Int × Unit) :=
 let v17:=(f77 p1)
 let v19:=(v17 != 0)
 let y6:=(p0,p1,p0,(len p0),())
 let x6:=((0:Int),(0:Int),())
 let e6:=(zB9 (vR1 y6) (wU y6) x6)
 let q6_1:=(uQ3 y6 e6)
 let v35:=(len p0)
 let y14:=(p1,p0,(len p0),())
 let x14:=((List.replicate (Int.toNat v35) ([]:List D94)),(0:Int),())
 let e14:=(zB9 (wP0 y14) (wC y14) x14)
 let q14_1:=(uB5 y14 e14)
 (((vY6 p1) ∧ ((!v19) = true → ((Am.Ends (vR1 y6) (wU y6) (wY y6) x6) ∧ ((tY3 y6 e6) = true → ((0 ≤ v35 ∧ v35 ≤ v35 ∧ v35 ≤ 4294967296) ∧ (Am.Ends (wP0 y14) (wC y14) (wL4 y14) x14)))))),((bif v19 then [] else (bif q6_1 then (vR2 y6 e6) else (bif q14_1 then (vM2 y14 e14) else (vM3 y14 e14)))),(bif v19 then v17 else (bif q6_1 then (uY3 y6 e6) else (bif q14_1 then (uK0 y14 e14) else (0:Int)))),()))
def tN4 (p0:(List (List D94))) (p1:D45):Prop:=(pF6 p0 p1).1
def f120 (p0:(List (List D94))) (p1:D45):((List (List D94)) × Int × Unit):=(pF6 p0 p1).2
instance (p0:(List (List D94))) (p1:D45):Decidable (tN4 p0 p1):=by
 unfold tN4 pF6
 try dsimp only
 infer_instance
def sR3:Am.Spec:=fnSpec [(0,(.val (.sl (.sl T94)))),(1,(.val T45))] (.tup (.cons (.val (.sl (.sl T94))) (.cons vI .nl))) [] (fun x=>tN4 x.1 x.2.1) (fun x=>f120 x.1 x.2.1) (fun _=>())
def tC5:Ctx:=Cx tys [(77,uE8),(130,tH6),(131,uF0)] [(6,uY4),(18,uK),(14,uK1)] [(25,[(4,0,36,1010)]),(54,[(1,10,0,0)]),(57,[(1,4,0,0),(4,0,1010,0)])] false 74 [] [36,48]
theorem tC6:CtxOk Tryz.prog tC5:=xV6 tys_ok rfl ⟨rK8,qG3,sZ4,trivial⟩ rfl (by kernel_rfl)
noncomputable def sR4:Code:=Tryz.f120.body.getD .skip
noncomputable def qJ0:Code:=xW5 sR4 0
theorem rY7:yU1 Tryz.prog tC5 qJ0:=xX3 tC6 mixed (sp:=uY4) rfl [tY4,tY5] (bs:=[]) (by kernel_rfl) trivial (by kernel_rfl) (by kernel_rfl) fun y x=>by kernel_rfl
noncomputable def sG0:Code:=xW5 sR4 1
noncomputable def rN9:Code:=xW5 sG0 0
theorem rC7:yU1 Tryz.prog tC5 rN9:=xX3 tC6 mixed (sp:=uK) rfl [tN0,tN1] (bs:=[]) (by kernel_rfl) trivial (by kernel_rfl) (by kernel_rfl) fun y x=>by kernel_rfl
theorem rC8:yU1 Tryz.prog tC5 sG0:=xX3 tC6 mixed (sp:=uK1) rfl [tN2,tN3] (bs:=[rN9]) (by kernel_rfl) ⟨rC7,trivial⟩ (by kernel_rfl) (by kernel_rfl) fun y x=>by kernel_rfl
theorem oL4:SpecOk Tryz.prog 120 sR3:=xX4 tC6 mixed Tryz.func120 (by kernel_rfl) (bs:=[qJ0,sG0]) (by kernel_rfl) ⟨rY7,rC8,trivial⟩ fun x=>by kernel_rfl
def pF7 (p0:D57):Prop × Int :=
 let v14:=(f118 f119 p0.2.2.2.2.2.2.2.2.2.2.2.2.2.2.2.2.2.2.2.2.2.2.2.1 p0.2.2.2.2.2.2.2.2.2.2.2.2.2.2.2.2.2.2.2.2.2.2.2.2.1 p0.2.2.2.2.2.2.2.2.2.2.2.2.2.2.2.2.2.2.2.2.2.2.2.2.2.1)
 let v18:=(v14.2.1 != 0)
 let v24:=(f120 v14.1 p0.2.2.2.2.2.2.2.2.2.2.1)
 let v28:=(v24.2.1 != 0)
 let v31:=(f117 v24.1 (0:Int))
 let v33:=(v31 != 0)
 ((tM9 ∧ ((tM2 f119 p0.2.2.2.2.2.2.2.2.2.2.2.2.2.2.2.2.2.2.2.2.2.2.2.1 p0.2.2.2.2.2.2.2.2.2.2.2.2.2.2.2.2.2.2.2.2.2.2.2.2.1 p0.2.2.2.2.2.2.2.2.2.2.2.2.2.2.2.2.2.2.2.2.2.2.2.2.2.1) ∧ ((!v18) = true → ((tN4 v14.1 p0.2.2.2.2.2.2.2.2.2.2.1) ∧ ((!v28) = true → ((uB v24.1 (0:Int)) ∧ ((!v33) = true → (tG8 p0.2.2.2.2.2.2.2.2.2.2.2.2.2.1)))))))),(bif v18 then v14.2.1 else (bif v28 then v24.2.1 else (bif v33 then v31 else (f99 p0.2.2.2.2.2.2.2.2.2.2.2.2.2.1)))))
def uQ4 (p0:D57):Prop:=(pF7 p0).1
def f102 (p0:D57):Int:=(pF7 p0).2
instance (p0:D57):Decidable (uQ4 p0):=by
 unfold uQ4 pF7
 try dsimp only
 infer_instance
def sR5:Am.Spec:=fnSpec [(0,(.val T57))] vI [] (fun x=>uQ4 x.1) (fun x=>f102 x.1) (fun _=>())
def pF8:Ctx:=Cx tys [(99,tB3),(117,uG0),(118,sQ7),(119,sR2),(120,sR3)] [] [(3,[(4,0,14,1003)])] false 38 [] []
theorem pF9:CtxOk Tryz.prog pF8:=xV6 tys_ok rfl ⟨qF6,rA2,oK2,oL3,oL4,trivial⟩ rfl (by kernel_rfl)
theorem oL5:SpecOk Tryz.prog 102 sR5:=xX4 pF9 mixed Tryz.func102 (by kernel_rfl) (bs:=[]) (by kernel_rfl) trivial fun x=>by kernel_rfl
def rY8 (p0:Int) (p1:Int):Prop × Bool :=
 let v7:=(p0 == 2)
 let v11:=(p0 == 3)
 let v24:=(p0 == 4)
 let m23:=(bif v24 then v24 else (p0 == 11))
 let v29:=(p0 == 5)
 let m28:=(bif v29 then v29 else (p0 == 9))
 let v34:=(p0 == 6)
 let m33:=(bif v34 then v34 else (p0 == 7))
 let m4_3:=(bif v11 then (bif (bif (decide (p1 ≥ 4)) then (decide (p1 ≤ 16)) else false) then ((Int.tmod p1 (2:Int)) == 0) else false) else (bif m23 then (p1 == 2) else (bif m28 then (p1 == 3) else (bif m33 then (p1 == 1) else (p1 == 9)))))
 (True,(bif (bif v7 then true else (bif v11 then true else (bif m23 then true else (bif m28 then true else (bif m33 then true else (p0 == 8)))))) then (bif v7 then (p1 == 5) else m4_3) else (p1 == 0)))
def tN5 (p0:Int) (p1:Int):Prop:=(rY8 p0 p1).1
def f121 (p0:Int) (p1:Int):Bool:=(rY8 p0 p1).2
instance (p0:Int) (p1:Int):Decidable (tN5 p0 p1):=by
 unfold tN5 rY8
 try dsimp only
 infer_instance
def sR6:Am.Spec:=fnSpec [(0,vI),(1,vI)] vB [] (fun x=>tN5 x.1 x.2.1) (fun x=>f121 x.1 x.2.1) (fun _=>())
def pG:Ctx:=Cx tys [] [] [] false 44 [] []
theorem pG0:CtxOk Tryz.prog pG:=xV6 tys_ok rfl trivial rfl (by kernel_rfl)
theorem oL6:SpecOk Tryz.prog 121 sR6:=xX4 pG0 mixed Tryz.func121 (by kernel_rfl) (bs:=[]) (by kernel_rfl) trivial fun x=>by kernel_rfl
def oL7 (p0:Int) (p1:Int):Prop × (Int × Int × Unit) :=
 let v12:=(bif (p0 == 2) then (p1 == 2) else false)
 let v15:=(p0 == 4)
 let v21:=(bif (p0 == 5) then (decide (p1 > 0)) else false)
 let m13_1:=(bif v15 then v15 else (bif v21 then v21 else (bif (p0 == 11) then (p1 == 1) else false)))
 let v30:=(p0 == 5)
 let v33:=(p0 == 7)
 let v36:=(p0 == 8)
 let c_8:=(bif v12 then true else (bif m13_1 then true else (bif v30 then true else (bif v33 then true else (bif v36 then true else (p0 == 11))))))
 let m4_5:=(bif c_8 then (bif v12 then (1:Int) else (bif m13_1 then (-65535:Int) else (bif v30 then (-32768:Int) else (bif v33 then (2:Int) else (bif v36 then (-262140:Int) else (-128:Int)))))) else (0:Int))
 let m5_5:=(bif c_8 then (bif v12 then (256:Int) else (bif m13_1 then (65535:Int) else (bif v30 then (32768:Int) else (bif v33 then (256:Int) else (bif v36 then (262140:Int) else (128:Int)))))) else (65535:Int))
 (True,(m4_5,m5_5,()))
def tN6 (p0:Int) (p1:Int):Prop:=(oL7 p0 p1).1
def f142 (p0:Int) (p1:Int):(Int × Int × Unit):=(oL7 p0 p1).2
instance (p0:Int) (p1:Int):Decidable (tN6 p0 p1):=by
 unfold tN6 oL7
 try dsimp only
 infer_instance
def sR7:Am.Spec:=fnSpec [(0,vI),(1,vI)] (.tup (.cons vI (.cons vI .nl))) [] (fun x=>tN6 x.1 x.2.1) (fun x=>f142 x.1 x.2.1) (fun _=>())
def pG1:Ctx:=Cx tys [] [] [] false 40 [] []
theorem pG2:CtxOk Tryz.prog pG1:=xV6 tys_ok rfl trivial rfl (by kernel_rfl)
theorem oL8:SpecOk Tryz.prog 142 sR7:=xX4 pG2 mixed Tryz.func142 (by kernel_rfl) (bs:=[]) (by kernel_rfl) trivial fun x=>by kernel_rfl
abbrev wU0:Type:=(Int × (List Int) × (List D91) × (List Int) × Int × Unit)
abbrev wK1:Type:=(Int × Unit)
def vW2 (y:wU0) (x:wK1):Prop × Bool × wK1 × Bool × Bool :=
 let a0:=y.1
 let a13:=y.2.2.2.1
 let a15:=x.1
 let v16:=(decide (a15 < y.2.2.2.2.1))
 let v18:=(nth a13 a15 (0:Int))
 let v23:=(f142 a0 a15)
 let v33:=(bif (decide (v18 < v23.1)) then true else (decide (v18 > v23.2.1)))
 ((v16 = true → (InB a15 (len a13) ∧ ((tN6 a0 a15) ∧ ((!v33) = true → InR (a15 + 1))))),(v16 && (!v33)),((a15 + 1),()),(v16 && v33),(!v16))
def vW3 (y:wU0) (x:wK1):Prop:=(vW2 y x).1
def tN7 (y:wU0) (x:wK1):Bool:=(vW2 y x).2.1
def vR3 (y:wU0) (x:wK1):wK1:=(vW2 y x).2.2.1
def tY6 (y:wU0) (x:wK1):Bool:=(vW2 y x).2.2.2.1
def tY7 (y:wU0) (x:wK1):Bool:=(vW2 y x).2.2.2.2
instance (y:wU0) (x:wK1):Decidable (vW3 y x):=by
 unfold vW3 vW2
 try dsimp only
 infer_instance
def uY5 (y:wU0) (x:wK1):Bool :=
 false
def tY8:List (Nat × Sh):=[(0,vI),(1,(.val (.sl (.int .i64)))),(2,(.val (.sl T91)))]
def uY6:St → Option Out:=xO8 [(0,vI),(1,(.val (.sl (.int .i64)))),(2,(.val (.sl T91))),(13,(.val (.sl (.int .i64)))),(14,vI)] [(15,vI)] tN7 vR3 vW3 fun y x=>[ex 1 (some (tY6 y x)) [(6,vB)] ((uY5 y x),()),ex 2 (some (tY7 y x)) tY8 (y.1,y.2.1,y.2.2.1,())]
abbrev wM8:Type:=((List D91) × Int × Unit)
abbrev wF8:Type:=(Int × Unit)
def vJ1 (y:wM8) (x:wF8):Prop × Bool × wF8 × Bool × Bool :=
 let a55:=y.1
 let a57:=x.1
 let v58:=(decide (a57 < y.2.1))
 let v59:=(nth a55 a57 Z91)
 let v68:=(bif (decide (v59.1 < 0)) then true else (decide (v59.1 > 65535)))
 let v74:=(bif v68 then true else (!(f85 v59.2.1)))
 ((v58 = true → (InB a57 (len a55) ∧ (((!v68) = true → (uT7 v59.2.1)) ∧ ((!v74) = true → InR (a57 + 1))))),(v58 && (!v74)),((a57 + 1),()),(v58 && v74),(!v58))
def vM4 (y:wM8) (x:wF8):Prop:=(vJ1 y x).1
def uQ5 (y:wM8) (x:wF8):Bool:=(vJ1 y x).2.1
def vM5 (y:wM8) (x:wF8):wF8:=(vJ1 y x).2.2.1
def tN8 (y:wM8) (x:wF8):Bool:=(vJ1 y x).2.2.2.1
def rC9 (y:wM8) (x:wF8):Bool:=(vJ1 y x).2.2.2.2
instance (y:wM8) (x:wF8):Decidable (vM4 y x):=by
 unfold vM4 vJ1
 try dsimp only
 infer_instance
def uK2 (y:wM8) (x:wF8):Bool :=
 false
def uK3:St → Option Out:=xO8 [(55,(.val (.sl T91))),(56,vI)] [(57,vI)] uQ5 vM5 vM4 fun y x=>[ex 1 (some (tN8 y x)) [(6,vB)] ((uK2 y x),()),ex 4 (some (rC9 y x)) [] ()]
def oL9 (p0:Int) (p1:(List Int)) (p2:(List D91)):Prop × Bool :=
 let y2:=(p0,p1,p2,p1,(len p1),())
 let x2:=((0:Int),())
 let e2:=(zB9 (tN7 y2) (vR3 y2) x2)
 let v36:=(p0 == 9)
 let v42:=(bif v36 then ((nth p1 (0:Int) (0:Int)) == 0) else false)
 let v48:=(bif v42 then ((nth p1 (1:Int) (0:Int)) == 0) else false)
 let v54:=(bif v48 then ((nth p1 (2:Int) (0:Int)) == 0) else false)
 let y11:=(p2,(len p2),())
 let x11:=((0:Int),())
 let e11:=(zB9 (uQ5 y11) (vM5 y11) x11)
 (((Am.Ends (tN7 y2) (vR3 y2) (vW3 y2) x2) ∧ ((tY7 y2 e2) = true → ((v36 = true → InB (0:Int) (len p1)) ∧ ((v42 = true → InB (1:Int) (len p1)) ∧ ((v48 = true → InB (2:Int) (len p1)) ∧ ((!v54) = true → (Am.Ends (uQ5 y11) (vM5 y11) (vM4 y11) x11))))))),(bif (tY6 y2 e2) then (uY5 y2 e2) else (bif v54 then false else (bif (tN8 y11 e11) then (uK2 y11 e11) else true))))
def tN9 (p0:Int) (p1:(List Int)) (p2:(List D91)):Prop:=(oL9 p0 p1 p2).1
def f122 (p0:Int) (p1:(List Int)) (p2:(List D91)):Bool:=(oL9 p0 p1 p2).2
instance (p0:Int) (p1:(List Int)) (p2:(List D91)):Decidable (tN9 p0 p1 p2):=by
 unfold tN9 oL9
 try dsimp only
 infer_instance
def sR8:Am.Spec:=fnSpec [(0,vI),(1,(.val (.sl (.int .i64)))),(2,(.val (.sl T91)))] vB [] (fun x=>tN9 x.1 x.2.1 x.2.2.1) (fun x=>f122 x.1 x.2.1 x.2.2.1) (fun _=>())
def sG1:Ctx:=Cx tys [(85,uE9),(142,sR7)] [(2,uY6),(11,uK3)] [] false 76 [] []
theorem sG2:CtxOk Tryz.prog sG1:=xV6 tys_ok rfl ⟨rL1,oL8,trivial⟩ rfl (by kernel_rfl)
noncomputable def sR9:Code:=Tryz.f122.body.getD .skip
noncomputable def qJ1:Code:=xW5 sR9 0
theorem rY9:yU1 Tryz.prog sG1 qJ1:=xX3 sG2 mixed (sp:=uY6) rfl [[(6,vB)],tY8] (bs:=[]) (by kernel_rfl) trivial (by kernel_rfl) (by kernel_rfl) fun y x=>by kernel_rfl
noncomputable def rO:Code:=xW5 sR9 1
theorem rD:yU1 Tryz.prog sG1 rO:=xX3 sG2 mixed (sp:=uK3) rfl [[(6,vB)],[]] (bs:=[]) (by kernel_rfl) trivial (by kernel_rfl) (by kernel_rfl) fun y x=>by kernel_rfl
theorem oM:SpecOk Tryz.prog 122 sR8:=xX4 sG2 mixed Tryz.func122 (by kernel_rfl) (bs:=[qJ1,rO]) (by kernel_rfl) ⟨rY9,rD,trivial⟩ fun x=>by kernel_rfl
abbrev wU1:Type:=((List Int) × (List D91) × Unit)
abbrev wK2:Type:=(Int × Unit)
def vW4 (y:wU1) (x:wK2):Prop × Bool × wK2 × Bool × Bool :=
 let a1:=y.1
 let a7:=x.1
 let v25:=(decide (a7 < (len a1)))
 let v34:=(a7 - 2)
 let v37:=(decide ((nth a1 a7 (0:Int)) ≤ (nth a1 v34 (0:Int))))
 ((v25 = true → (InB a7 (len a1) ∧ (InR (a7 - 2) ∧ (InB v34 (len a1) ∧ ((!v37) = true → InR (a7 + 2)))))),(v25 && (!v37)),((a7 + 2),()),(v25 && v37),(!v25))
def vW5 (y:wU1) (x:wK2):Prop:=(vW4 y x).1
def tO (y:wU1) (x:wK2):Bool:=(vW4 y x).2.1
def vR4 (y:wU1) (x:wK2):wK2:=(vW4 y x).2.2.1
def tY9 (y:wU1) (x:wK2):Bool:=(vW4 y x).2.2.2.1
def tZ (y:wU1) (x:wK2):Bool:=(vW4 y x).2.2.2.2
instance (y:wU1) (x:wK2):Decidable (vW5 y x):=by
 unfold vW5 vW4
 try dsimp only
 infer_instance
def uY7 (y:wU1) (x:wK2):Bool :=
 false
def uY8:St → Option Out:=xO8 [(1,(.val (.sl (.int .i64)))),(2,(.val (.sl T91)))] [(7,vI)] tO vR4 vW5 fun y x=>[ex 1 (some (tY9 y x)) [(6,vB)] ((uY7 y x),()),ex 2 (some (tZ y x)) [(2,(.val (.sl T91)))] (y.2.1,())]
abbrev wM9:Type:=((List D91) × Unit)
abbrev wF9:Type:=(Int × Unit)
def vJ2 (y:wM9) (x:wF9):Prop × Bool × wF9 × Bool × Bool :=
 let a2:=y.1
 let a8:=x.1
 let v41:=(decide (a8 < (len a2)))
 let v51:=(a8 - 1)
 let v55:=(decide ((nth a2 a8 Z91).1 ≤ (nth a2 v51 Z91).1))
 ((v41 = true → (InB a8 (len a2) ∧ (InR (a8 - 1) ∧ (InB v51 (len a2) ∧ ((!v55) = true → InR (a8 + 1)))))),(v41 && (!v55)),((a8 + 1),()),(v41 && v55),(!v41))
def vA0 (y:wM9) (x:wF9):Prop:=(vJ2 y x).1
def vW6 (y:wM9) (x:wF9):Bool:=(vJ2 y x).2.1
def wV8 (y:wM9) (x:wF9):wF9:=(vJ2 y x).2.2.1
def tO0 (y:wM9) (x:wF9):Bool:=(vJ2 y x).2.2.2.1
def rD0 (y:wM9) (x:wF9):Bool:=(vJ2 y x).2.2.2.2
instance (y:wM9) (x:wF9):Decidable (vA0 y x):=by
 unfold vA0 vJ2
 try dsimp only
 infer_instance
def uK4 (y:wM9) (x:wF9):Bool :=
 false
def uK5:St → Option Out:=xO8 [(2,(.val (.sl T91)))] [(8,vI)] vW6 wV8 vA0 fun y x=>[ex 1 (some (tO0 y x)) [(6,vB)] ((uK4 y x),()),ex 4 (some (rD0 y x)) [] ()]
def oM0 (p0:Int) (p1:(List Int)) (p2:(List D91)):Prop × Bool :=
 let v10:=(p0 == 2)
 let v19:=(bif v10 then (decide ((nth p1 (1:Int) (0:Int)) ≤ (nth p1 (0:Int) (0:Int)))) else false)
 let v21:=(p0 == 3)
 let y5:=(p1,p2,())
 let x5:=((2:Int),())
 let e5:=(zB9 (tO y5) (vR4 y5) x5)
 let y10:=((bif v21 then p2 else p2),())
 let x10:=((1:Int),())
 let e10:=(zB9 (vW6 y10) (wV8 y10) x10)
 (((v10 = true → InB (1:Int) (len p1)) ∧ ((v10 = true → InB (0:Int) (len p1)) ∧ ((!v19) = true → ((v21 = true → (Am.Ends (tO y5) (vR4 y5) (vW5 y5) x5)) ∧ ((bif v21 then (tZ y5 e5) else true) = true → (Am.Ends (vW6 y10) (wV8 y10) (vA0 y10) x10)))))),(bif v19 then false else (bif ((tY9 y5 e5) && v21) then (uY7 y5 e5) else (bif (tO0 y10 e10) then (uK4 y10 e10) else true))))
def tO1 (p0:Int) (p1:(List Int)) (p2:(List D91)):Prop:=(oM0 p0 p1 p2).1
def f123 (p0:Int) (p1:(List Int)) (p2:(List D91)):Bool:=(oM0 p0 p1 p2).2
instance (p0:Int) (p1:(List Int)) (p2:(List D91)):Decidable (tO1 p0 p1 p2):=by
 unfold tO1 oM0
 try dsimp only
 infer_instance
def sS:Am.Spec:=fnSpec [(0,vI),(1,(.val (.sl (.int .i64)))),(2,(.val (.sl T91)))] vB [] (fun x=>tO1 x.1 x.2.1 x.2.2.1) (fun x=>f123 x.1 x.2.1 x.2.2.1) (fun _=>())
def sG3:Ctx:=Cx tys [] [(5,uY8),(10,uK5)] [] false 56 [] []
theorem sG4:CtxOk Tryz.prog sG3:=xV6 tys_ok rfl trivial rfl (by kernel_rfl)
noncomputable def sS0:Code:=Tryz.f123.body.getD .skip
noncomputable def qJ2:Code:=xW5 sS0 0
theorem rZ:yU1 Tryz.prog sG3 qJ2:=xX3 sG4 mixed (sp:=uY8) rfl [[(6,vB)],[(2,(.val (.sl T91)))]] (bs:=[]) (by kernel_rfl) trivial (by kernel_rfl) (by kernel_rfl) fun y x=>by kernel_rfl
noncomputable def rO0:Code:=xW5 sS0 1
theorem rD1:yU1 Tryz.prog sG3 rO0:=xX3 sG4 mixed (sp:=uK5) rfl [[(6,vB)],[]] (bs:=[]) (by kernel_rfl) trivial (by kernel_rfl) (by kernel_rfl) fun y x=>by kernel_rfl
theorem oM1:SpecOk Tryz.prog 123 sS:=xX4 sG4 mixed Tryz.func123 (by kernel_rfl) (bs:=[qJ2,rO0]) (by kernel_rfl) ⟨rZ,rD1,trivial⟩ fun x=>by kernel_rfl
def oM2 (p0:Int) (p1:(List Int)) (p2:(List D91)):Prop × Int :=
 let v13:=(bif (decide (p0 < 1)) then true else (decide (p0 > 11)))
 let v17:=(len p1)
 let v27:=(bif (!(f121 p0 v17)) then true else (!(Ty.eqb .bool (decide ((len p2) > 0)) (p0 == 10))))
 let v31:=(decide ((len p2) > 16))
 let v37:=(!(f122 p0 p1 p2))
 let m6_4:=(bif (bif v13 then true else (bif v27 then true else (bif v31 then true else (bif v37 then true else (!(f123 p0 p1 p2)))))) then (bif v13 then (8:Int) else (bif v27 then (1:Int) else (bif v31 then (3:Int) else (bif v37 then (2:Int) else (24:Int))))) else (0:Int))
 ((v13 = false → ((tN5 p0 v17) ∧ (v27 = false → (v31 = false → ((tN9 p0 p1 p2) ∧ (v37 = false → (tO1 p0 p1 p2))))))),m6_4)
def tO2 (p0:Int) (p1:(List Int)) (p2:(List D91)):Prop:=(oM2 p0 p1 p2).1
def f103 (p0:Int) (p1:(List Int)) (p2:(List D91)):Int:=(oM2 p0 p1 p2).2
instance (p0:Int) (p1:(List Int)) (p2:(List D91)):Decidable (tO2 p0 p1 p2):=by
 unfold tO2 oM2
 try dsimp only
 infer_instance
def sS1:Am.Spec:=fnSpec [(0,vI),(1,(.val (.sl (.int .i64)))),(2,(.val (.sl T91)))] vI [] (fun x=>tO2 x.1 x.2.1 x.2.2.1) (fun x=>f103 x.1 x.2.1 x.2.2.1) (fun _=>())
def pG3:Ctx:=Cx tys [(121,sR6),(122,sR8),(123,sS)] [] [] false 44 [] []
theorem pG4:CtxOk Tryz.prog pG3:=xV6 tys_ok rfl ⟨oL6,oM,oM1,trivial⟩ rfl (by kernel_rfl)
theorem oM3:SpecOk Tryz.prog 103 sS1:=xX4 pG4 mixed Tryz.func103 (by kernel_rfl) (bs:=[]) (by kernel_rfl) trivial fun x=>by kernel_rfl
def oM4 (p0:Int):Prop × (List D94) :=
 let v5:=(p0 == 1)
 let v6:=(p0 == 7)
 let m4_1:=(bif v5 then v5 else (bif v6 then v6 else (p0 == 8)))
 let v11:=(p0 == 2)
 let v15:=(p0 == 4)
 let v19:=(p0 == 3)
 let v24:=(p0 == 9)
 let m2_1:=(bif v19 then ([((0:Int),(16:Int),()),((0:Int),(262140:Int),())]:List D94) else (bif v24 then ([((-16:Int),(16:Int),()),((-16:Int),(16:Int),())]:List D94) else ([((1:Int),(16:Int),())]:List D94)))
 let m2_5:=(bif (bif m4_1 then true else (bif v11 then true else (bif v15 then true else (bif v19 then true else (bif v24 then true else (p0 == 10)))))) then (bif m4_1 then ([((0:Int),(16:Int),())]:List D94) else (bif v11 then ([((0:Int),(7:Int),())]:List D94) else (bif v15 then ([((0:Int),(4:Int),())]:List D94) else m2_1))) else [])
 (True,m2_5)
def tO3 (p0:Int):Prop:=(oM4 p0).1
def f124 (p0:Int):(List D94):=(oM4 p0).2
instance (p0:Int):Decidable (tO3 p0):=by
 unfold tO3 oM4
 try dsimp only
 infer_instance
def sS2:Am.Spec:=fnSpec [(0,vI)] (.own T94 0 false) [] (fun x=>tO3 x.1) (fun x=>f124 x.1) (fun _=>())
def pG5:Ctx:=Cx tys [] [] [(11,[(4,0,9,0)]),(15,[(4,0,13,0)]),(19,[(4,0,17,0)]),(23,[(4,0,22,0)]),(27,[(4,0,27,0)]),(31,[(4,0,31,0)])] false 32 [] []
theorem pG6:CtxOk Tryz.prog pG5:=xV6 tys_ok rfl trivial rfl (by kernel_rfl)
theorem oM5:SpecOk Tryz.prog 124 sS2:=xX4 pG6 mixed Tryz.func124 (by kernel_rfl) (bs:=[]) (by kernel_rfl) trivial fun x=>by kernel_rfl
abbrev wU2:Type:=((List D94) × (List Int) × Int × Unit)
abbrev wK3:Type:=(Int × Unit)
def vW7 (y:wU2) (x:wK3):Prop × Bool × wK3 × Bool × Bool :=
 let a5:=y.1
 let a21:=y.2.1
 let a23:=x.1
 let v24:=(decide (a23 < y.2.2.1))
 let v26:=(nth a21 a23 (0:Int))
 let v34:=(decide (v26 < (nth a5 a23 Z94).1))
 let v43:=(bif v34 then true else (decide (v26 > (nth a5 a23 Z94).2.1)))
 ((v24 = true → (InB a23 (len a21) ∧ (InB a23 (len a5) ∧ (((!v34) = true → InB a23 (len a5)) ∧ ((!v43) = true → InR (a23 + 1)))))),(v24 && (!v43)),((a23 + 1),()),(v24 && v43),(!v24))
def vW8 (y:wU2) (x:wK3):Prop:=(vW7 y x).1
def tO4 (y:wU2) (x:wK3):Bool:=(vW7 y x).2.1
def vR5 (y:wU2) (x:wK3):wK3:=(vW7 y x).2.2.1
def tZ0 (y:wU2) (x:wK3):Bool:=(vW7 y x).2.2.2.1
def rZ0 (y:wU2) (x:wK3):Bool:=(vW7 y x).2.2.2.2
instance (y:wU2) (x:wK3):Decidable (vW8 y x):=by
 unfold vW8 vW7
 try dsimp only
 infer_instance
def uY9 (y:wU2) (x:wK3):Int :=
 (2:Int)
def uZ:St → Option Out:=xO8 [(5,(.own T94 1005 false)),(21,(.val (.sl (.int .i64)))),(22,vI)] [(23,vI)] tO4 vR5 vW8 fun y x=>[ex 1 (some (tZ0 y x)) [(4,vI)] ((uY9 y x),()),ex 2 (some (rZ0 y x)) [] ()]
def oM6 (p0:Int) (p1:(List Int)):Prop × Int :=
 let v13:=(bif (decide (p0 < 1)) then true else (decide (p0 > 10)))
 let v15:=(f124 p0)
 let v20:=((len p1) != (len v15))
 let y7:=(v15,p1,(len p1),())
 let x7:=((0:Int),())
 let e7:=(zB9 (tO4 y7) (vR5 y7) x7)
 (((!v13) = true → ((tO3 p0) ∧ ((!v20) = true → (Am.Ends (tO4 y7) (vR5 y7) (vW8 y7) x7)))),(bif v13 then (8:Int) else (bif v20 then (1:Int) else (bif (tZ0 y7 e7) then (uY9 y7 e7) else (0:Int)))))
def tO5 (p0:Int) (p1:(List Int)):Prop:=(oM6 p0 p1).1
def f104 (p0:Int) (p1:(List Int)):Int:=(oM6 p0 p1).2
instance (p0:Int) (p1:(List Int)):Decidable (tO5 p0 p1):=by
 unfold tO5 oM6
 try dsimp only
 infer_instance
def sS3:Am.Spec:=fnSpec [(0,vI),(1,(.val (.sl (.int .i64))))] vI [] (fun x=>tO5 x.1 x.2.1) (fun x=>f104 x.1 x.2.1) (fun _=>())
def rO1:Ctx:=Cx tys [(124,sS2)] [(7,uZ)] [(7,[(4,0,15,1005)])] false 45 [] []
theorem rO2:CtxOk Tryz.prog rO1:=xV6 tys_ok rfl ⟨oM5,trivial⟩ rfl (by kernel_rfl)
noncomputable def qJ3:Code:=Tryz.f104.body.getD .skip
noncomputable def qJ4:Code:=xW5 qJ3 0
theorem rZ1:yU1 Tryz.prog rO1 qJ4:=xX3 rO2 mixed (sp:=uZ) rfl [[(4,vI)],[]] (bs:=[]) (by kernel_rfl) trivial (by kernel_rfl) (by kernel_rfl) fun y x=>by kernel_rfl
theorem oM7:SpecOk Tryz.prog 104 sS3:=xX4 rO2 mixed Tryz.func104 (by kernel_rfl) (bs:=[qJ4]) (by kernel_rfl) ⟨rZ1,trivial⟩ fun x=>by kernel_rfl
abbrev wU3:Type:=((List D94) × Int × Unit)
abbrev wK4:Type:=(Int × Unit)
def vW9 (y:wU3) (x:wK4):Prop × Bool × wK4 × Bool × Bool :=
 let a43:=y.1
 let a45:=x.1
 let v46:=(decide (a45 < y.2.1))
 let v47:=(nth a43 a45 Z94)
 let v66:=(bif (bif (bif (decide (v47.1 < (-1048576))) then true else (decide (v47.1 > 1048576))) then true else (decide (v47.2.1 < (-1048576)))) then true else (decide (v47.2.1 > 1048576)))
 ((v46 = true → (InB a45 (len a43) ∧ ((!v66) = true → InR (a45 + 1)))),(v46 && (!v66)),((a45 + 1),()),(v46 && v66),(!v46))
def vX (y:wU3) (x:wK4):Prop:=(vW9 y x).1
def tO6 (y:wU3) (x:wK4):Bool:=(vW9 y x).2.1
def vR6 (y:wU3) (x:wK4):wK4:=(vW9 y x).2.2.1
def tZ1 (y:wU3) (x:wK4):Bool:=(vW9 y x).2.2.2.1
def rZ2 (y:wU3) (x:wK4):Bool:=(vW9 y x).2.2.2.2
instance (y:wU3) (x:wK4):Decidable (vX y x):=by
 unfold vX vW9
 try dsimp only
 infer_instance
def uZ0 (y:wU3) (x:wK4):Int :=
 (2:Int)
def uZ1:St → Option Out:=xO8 [(43,(.val (.sl T94))),(44,vI)] [(45,vI)] tO6 vR6 vX fun y x=>[ex 1 (some (tZ1 y x)) [(2,vI)] ((uZ0 y x),()),ex 2 (some (rZ2 y x)) [] ()]
def oM8 (p0:D55):Prop × Int :=
 let v22:=(bif (bif (bif (decide (p0.1 < 2)) then true else (decide (p0.1 > 8))) then true else (decide (p0.2.1 < 2))) then true else (decide (p0.2.1 > 8)))
 let v30:=(bif (decide (p0.2.2.1 < 1)) then true else (decide (p0.2.2.1 > 256)))
 let v41:=(bif v30 then true else ((len p0.2.2.2.1) != (p0.1 * p0.2.1)))
 let y6:=(p0.2.2.2.1,(len p0.2.2.2.1),())
 let x6:=((0:Int),())
 let e6:=(zB9 (tO6 y6) (vR6 y6) x6)
 (((!v22) = true → (((!v30) = true → InR (p0.1 * p0.2.1)) ∧ ((!v41) = true → (Am.Ends (tO6 y6) (vR6 y6) (vX y6) x6)))),(bif v22 then (15:Int) else (bif v41 then (15:Int) else (bif (tZ1 y6 e6) then (uZ0 y6 e6) else (0:Int)))))
def tO7 (p0:D55):Prop:=(oM8 p0).1
def f105 (p0:D55):Int:=(oM8 p0).2
instance (p0:D55):Decidable (tO7 p0):=by
 unfold tO7 oM8
 try dsimp only
 infer_instance
def sS4:Am.Spec:=fnSpec [(0,(.val T55))] vI [] (fun x=>tO7 x.1) (fun x=>f105 x.1) (fun _=>())
def rO3:Ctx:=Cx tys [] [(6,uZ1)] [] false 68 [] []
theorem rO4:CtxOk Tryz.prog rO3:=xV6 tys_ok rfl trivial rfl (by kernel_rfl)
noncomputable def qJ5:Code:=Tryz.f105.body.getD .skip
noncomputable def qJ6:Code:=xW5 qJ5 0
theorem rZ3:yU1 Tryz.prog rO3 qJ6:=xX3 rO4 mixed (sp:=uZ1) rfl [[(2,vI)],[]] (bs:=[]) (by kernel_rfl) trivial (by kernel_rfl) (by kernel_rfl) fun y x=>by kernel_rfl
theorem oM9:SpecOk Tryz.prog 105 sS4:=xX4 rO4 mixed Tryz.func105 (by kernel_rfl) (bs:=[qJ6]) (by kernel_rfl) ⟨rZ3,trivial⟩ fun x=>by kernel_rfl
def f81t (p0:D57):Prop × Int :=
 let v6:=(p0.2.1 == 2)
 let v11:=(p0.2.1 == 3)
 let v16:=(p0.2.1 == 4)
 let v27:=(p0.2.1 == 5)
 let v31:=(p0.2.1 == 6)
 let v35:=(p0.2.1 == 7)
 let v44:=(p0.2.1 == 8)
 let v51:=(p0.2.1 == 9)
 let m50:=(bif v51 then v51 else (p0.2.1 == 10))
 let v62:=(p0.2.1 == 11)
 let c_2:=(bif v44 then true else (bif m50 then (bif (decide (p0.2.2.2.2.2.2.2.2.2.2.2.2.2.2.2.2.2.2.2.2.2.2.2.2.2.2.1 < 1)) then true else (decide (p0.2.2.2.2.2.2.2.2.2.2.2.2.2.2.2.2.2.2.2.2.2.2.2.2.2.2.1 > 1073741824))) else v62))
 let m2_2:=(bif v35 then (f103 p0.2.2.2.2.2.2.2.2.2.2.2.2.2.2.1 p0.2.2.2.2.2.2.2.2.2.2.2.2.2.2.2.1 p0.2.2.2.2.2.2.2.2.2.2.2.2.2.2.2.2.2.1) else (bif v44 then (f104 p0.2.2.2.2.2.2.2.2.2.2.2.2.2.2.1 p0.2.2.2.2.2.2.2.2.2.2.2.2.2.2.2.1) else (bif m50 then (2:Int) else (f105 p0.2.2.2.2.2.2.2.2.2.2.2.2.2.2.2.2.2.2.2.2.2.2.2.2.2.2.2.1))))
 let m2_5:=(bif v16 then (f100 p0.2.2.2.2.2.2.2.2.2.2.2.2.2.2.1 p0.2.2.2.2.2.2.2.2.2.2.2.2.2.2.2.1 p0.2.2.2.2.2.2.2.2.2.2.2.2.2.2.2.2.1 p0.2.2.2.2.2.2.2.2.2.2.2.2.2.2.2.2.2.1) else (bif v27 then (f101 p0) else (bif v31 then (f102 p0) else m2_2)))
 let m2_8:=(bif (bif v6 then true else (bif v11 then true else (bif v16 then true else (bif v27 then true else (bif v31 then true else (bif v35 then true else c_2)))))) then (bif v6 then (f58 p0.2.2.2.2.2.2.2.2.2.2.2.2.1) else (bif v11 then (f99 p0.2.2.2.2.2.2.2.2.2.2.2.2.2.1) else m2_5)) else (0:Int))
 (((v6 = true → (tW1 p0.2.2.2.2.2.2.2.2.2.2.2.2.1)) ∧ (v6 = false → ((v11 = true → (tG8 p0.2.2.2.2.2.2.2.2.2.2.2.2.2.1)) ∧ (v11 = false → ((v16 = true → (tH3 p0.2.2.2.2.2.2.2.2.2.2.2.2.2.2.1 p0.2.2.2.2.2.2.2.2.2.2.2.2.2.2.2.1 p0.2.2.2.2.2.2.2.2.2.2.2.2.2.2.2.2.1 p0.2.2.2.2.2.2.2.2.2.2.2.2.2.2.2.2.2.1)) ∧ (v16 = false → ((v27 = true → (tK0 p0)) ∧ (v27 = false → ((v31 = true → (uQ4 p0)) ∧ (v31 = false → ((v35 = true → (tO2 p0.2.2.2.2.2.2.2.2.2.2.2.2.2.2.1 p0.2.2.2.2.2.2.2.2.2.2.2.2.2.2.2.1 p0.2.2.2.2.2.2.2.2.2.2.2.2.2.2.2.2.2.1)) ∧ (v35 = false → ((v44 = true → (tO5 p0.2.2.2.2.2.2.2.2.2.2.2.2.2.2.1 p0.2.2.2.2.2.2.2.2.2.2.2.2.2.2.2.1)) ∧ (v44 = false → (m50 = false → (v62 = true → (tO7 p0.2.2.2.2.2.2.2.2.2.2.2.2.2.2.2.2.2.2.2.2.2.2.2.2.2.2.2.1))))))))))))))))),m2_8)
def sS5 (p0:D57):Prop:=(f81t p0).1
def f81 (p0:D57):Int:=(f81t p0).2
instance (p0:D57):Decidable (sS5 p0):=by
 unfold sS5 f81t
 try dsimp only
 infer_instance
def rO5:Am.Spec:=fnSpec [(0,(.val T57))] vI [] (fun x=>sS5 x.1) (fun x=>f81 x.1) (fun _=>())
def oN:Ctx:=Cx tys [(58,sD7),(99,tB3),(100,sO4),(101,sQ0),(102,sR5),(103,sS1),(104,sS3),(105,sS4)] [] [] false 66 [] []
theorem oN0:CtxOk Tryz.prog oN:=xV6 tys_ok rfl ⟨pS5,qF6,oF4,oJ2,oL5,oM3,oM7,oM9,trivial⟩ rfl (by kernel_rfl)
theorem nB7:SpecOk Tryz.prog 81 rO5:=xX4 oN0 mixed Tryz.func81 (by kernel_rfl) (bs:=[]) (by kernel_rfl) trivial fun x=>by kernel_rfl
def f82t (p0:D57):Prop × Bool :=
 let v17:=(bif (bif (!(Ty.eqb T45 p0.2.2.2.2.2.2.2.2.2.2.1 ((0:Int),(0:Int),(0:Int),(0:Int),(0:Int),(0:Int),()))) then true else (p0.2.2.2.2.2.2.2.2.2.2.2.1 != 0)) then true else (!(Ty.eqb T50 p0.2.2.2.2.2.2.2.2.2.2.2.2.2.1 ((0:Int),(0:Int),(0:Int),(0:Int),()))))
 let v54:=(bif (bif (bif (p0.2.2.2.2.2.2.2.2.2.2.2.2.2.2.1 != 0) then true else ((len p0.2.2.2.2.2.2.2.2.2.2.2.2.2.2.2.1) != 0)) then true else (p0.2.2.2.2.2.2.2.2.2.2.2.2.2.2.2.2.1 != 0)) then true else ((len p0.2.2.2.2.2.2.2.2.2.2.2.2.2.2.2.2.2.1) != 0))
 let v73:=(bif (bif (bif ((len p0.2.2.2.2.2.2.2.2.2.2.2.2.2.2.2.2.2.2.1) != 0) then true else (p0.2.2.2.2.2.2.2.2.2.2.2.2.2.2.2.2.2.2.2.1 != 0)) then true else (p0.2.2.2.2.2.2.2.2.2.2.2.2.2.2.2.2.2.2.2.2.1 != 0)) then true else (p0.2.2.2.2.2.2.2.2.2.2.2.2.2.2.2.2.2.2.2.2.2.1 != 0))
 let v91:=(bif (bif (!(p0.2.2.2.2.2.2.2.2.2.2.2.2.2.2.2.2.2.2.2.2.2.2.2.1 == ([]:List UInt8))) then true else (p0.2.2.2.2.2.2.2.2.2.2.2.2.2.2.2.2.2.2.2.2.2.2.2.2.1 != 0)) then true else (p0.2.2.2.2.2.2.2.2.2.2.2.2.2.2.2.2.2.2.2.2.2.2.2.2.2.1 != 0))
 let v112:=(bif (bif (p0.2.2.2.2.2.2.2.2.2.2.2.2.2.2.2.2.2.2.2.2.2.2.2.2.2.2.2.1.1 == 0) then (p0.2.2.2.2.2.2.2.2.2.2.2.2.2.2.2.2.2.2.2.2.2.2.2.2.2.2.2.1.2.1 == 0) else false) then (p0.2.2.2.2.2.2.2.2.2.2.2.2.2.2.2.2.2.2.2.2.2.2.2.2.2.2.2.1.2.2.1 == 0) else false)
 let m2:=(bif (bif v91 then true else (p0.2.2.2.2.2.2.2.2.2.2.2.2.2.2.2.2.2.2.2.2.2.2.2.2.2.2.1 != 0)) then false else (bif v112 then ((len p0.2.2.2.2.2.2.2.2.2.2.2.2.2.2.2.2.2.2.2.2.2.2.2.2.2.2.2.1.2.2.2.1) == 0) else false))
 let m2_3:=(bif (bif (bif (p0.2.2.2.2.2.2.2.2.2.2.2.2.1.1 != 0) then true else (p0.2.2.2.2.2.2.2.2.2.2.2.2.1.2.1 != 0)) then true else ((len p0.2.2.2.2.2.2.2.2.2.2.2.2.1.2.2.1) != 0)) then false else (bif v54 then false else (bif (bif v73 then true else (p0.2.2.2.2.2.2.2.2.2.2.2.2.2.2.2.2.2.2.2.2.2.2.1 != 0)) then false else m2)))
 (True,(bif v17 then false else m2_3))
def sS6 (p0:D57):Prop:=(f82t p0).1
def f82 (p0:D57):Bool:=(f82t p0).2
instance (p0:D57):Decidable (sS6 p0):=by
 unfold sS6 f82t
 try dsimp only
 infer_instance
def rO6:Am.Spec:=fnSpec [(0,(.val T57))] vB [] (fun x=>sS6 x.1) (fun x=>f82 x.1) (fun _=>())
def oN1:Ctx:=Cx tys [] [] [] false 120 [] []
theorem oN2:CtxOk Tryz.prog oN1:=xV6 tys_ok rfl trivial rfl (by kernel_rfl)
theorem nB8:SpecOk Tryz.prog 82 rO6:=xX4 oN2 mixed Tryz.func82 (by kernel_rfl) (bs:=[]) (by kernel_rfl) trivial fun x=>by kernel_rfl
def f83t (p0:D57):Prop × D57 :=
 let s_1:=(p0.1,p0.2.1,p0.2.2.1,p0.2.2.2.1,p0.2.2.2.2.1,p0.2.2.2.2.2.1,p0.2.2.2.2.2.2.1,p0.2.2.2.2.2.2.2.1,p0.2.2.2.2.2.2.2.2.1,p0.2.2.2.2.2.2.2.2.2.1,((0:Int),(0:Int),(0:Int),(0:Int),(0:Int),(0:Int),()),p0.2.2.2.2.2.2.2.2.2.2.2.1,p0.2.2.2.2.2.2.2.2.2.2.2.2.1,p0.2.2.2.2.2.2.2.2.2.2.2.2.2.1,p0.2.2.2.2.2.2.2.2.2.2.2.2.2.2.1,p0.2.2.2.2.2.2.2.2.2.2.2.2.2.2.2.1,p0.2.2.2.2.2.2.2.2.2.2.2.2.2.2.2.2.1,p0.2.2.2.2.2.2.2.2.2.2.2.2.2.2.2.2.2.1,p0.2.2.2.2.2.2.2.2.2.2.2.2.2.2.2.2.2.2.1,p0.2.2.2.2.2.2.2.2.2.2.2.2.2.2.2.2.2.2.2.1,p0.2.2.2.2.2.2.2.2.2.2.2.2.2.2.2.2.2.2.2.2.1,p0.2.2.2.2.2.2.2.2.2.2.2.2.2.2.2.2.2.2.2.2.2.1,p0.2.2.2.2.2.2.2.2.2.2.2.2.2.2.2.2.2.2.2.2.2.2.1,p0.2.2.2.2.2.2.2.2.2.2.2.2.2.2.2.2.2.2.2.2.2.2.2.1,p0.2.2.2.2.2.2.2.2.2.2.2.2.2.2.2.2.2.2.2.2.2.2.2.2.1,p0.2.2.2.2.2.2.2.2.2.2.2.2.2.2.2.2.2.2.2.2.2.2.2.2.2.1,p0.2.2.2.2.2.2.2.2.2.2.2.2.2.2.2.2.2.2.2.2.2.2.2.2.2.2.1,p0.2.2.2.2.2.2.2.2.2.2.2.2.2.2.2.2.2.2.2.2.2.2.2.2.2.2.2.1,())
 let m1:=(bif (f76 p0.2.1) then s_1 else p0)
 let s_2:=(m1.1,m1.2.1,m1.2.2.1,m1.2.2.2.1,m1.2.2.2.2.1,m1.2.2.2.2.2.1,m1.2.2.2.2.2.2.1,m1.2.2.2.2.2.2.2.1,m1.2.2.2.2.2.2.2.2.1,m1.2.2.2.2.2.2.2.2.2.1,m1.2.2.2.2.2.2.2.2.2.2.1,(0:Int),m1.2.2.2.2.2.2.2.2.2.2.2.2.1,m1.2.2.2.2.2.2.2.2.2.2.2.2.2.1,m1.2.2.2.2.2.2.2.2.2.2.2.2.2.2.1,m1.2.2.2.2.2.2.2.2.2.2.2.2.2.2.2.1,m1.2.2.2.2.2.2.2.2.2.2.2.2.2.2.2.2.1,m1.2.2.2.2.2.2.2.2.2.2.2.2.2.2.2.2.2.1,m1.2.2.2.2.2.2.2.2.2.2.2.2.2.2.2.2.2.2.1,m1.2.2.2.2.2.2.2.2.2.2.2.2.2.2.2.2.2.2.2.1,m1.2.2.2.2.2.2.2.2.2.2.2.2.2.2.2.2.2.2.2.2.1,m1.2.2.2.2.2.2.2.2.2.2.2.2.2.2.2.2.2.2.2.2.2.1,m1.2.2.2.2.2.2.2.2.2.2.2.2.2.2.2.2.2.2.2.2.2.2.1,m1.2.2.2.2.2.2.2.2.2.2.2.2.2.2.2.2.2.2.2.2.2.2.2.1,m1.2.2.2.2.2.2.2.2.2.2.2.2.2.2.2.2.2.2.2.2.2.2.2.2.1,m1.2.2.2.2.2.2.2.2.2.2.2.2.2.2.2.2.2.2.2.2.2.2.2.2.2.1,m1.2.2.2.2.2.2.2.2.2.2.2.2.2.2.2.2.2.2.2.2.2.2.2.2.2.2.1,m1.2.2.2.2.2.2.2.2.2.2.2.2.2.2.2.2.2.2.2.2.2.2.2.2.2.2.2.1,())
 let m1_1:=(bif (f79 m1.2.1) then s_2 else m1)
 let s_4:=(m1_1.1,m1_1.2.1,m1_1.2.2.1,m1_1.2.2.2.1,m1_1.2.2.2.2.1,m1_1.2.2.2.2.2.1,m1_1.2.2.2.2.2.2.1,m1_1.2.2.2.2.2.2.2.1,m1_1.2.2.2.2.2.2.2.2.1,m1_1.2.2.2.2.2.2.2.2.2.1,m1_1.2.2.2.2.2.2.2.2.2.2.1,m1_1.2.2.2.2.2.2.2.2.2.2.2.1,((0:Int),(0:Int),([]:List D50),()),m1_1.2.2.2.2.2.2.2.2.2.2.2.2.2.1,m1_1.2.2.2.2.2.2.2.2.2.2.2.2.2.2.1,m1_1.2.2.2.2.2.2.2.2.2.2.2.2.2.2.2.1,m1_1.2.2.2.2.2.2.2.2.2.2.2.2.2.2.2.2.1,m1_1.2.2.2.2.2.2.2.2.2.2.2.2.2.2.2.2.2.1,m1_1.2.2.2.2.2.2.2.2.2.2.2.2.2.2.2.2.2.2.1,m1_1.2.2.2.2.2.2.2.2.2.2.2.2.2.2.2.2.2.2.2.1,m1_1.2.2.2.2.2.2.2.2.2.2.2.2.2.2.2.2.2.2.2.2.1,m1_1.2.2.2.2.2.2.2.2.2.2.2.2.2.2.2.2.2.2.2.2.2.1,m1_1.2.2.2.2.2.2.2.2.2.2.2.2.2.2.2.2.2.2.2.2.2.2.1,m1_1.2.2.2.2.2.2.2.2.2.2.2.2.2.2.2.2.2.2.2.2.2.2.2.1,m1_1.2.2.2.2.2.2.2.2.2.2.2.2.2.2.2.2.2.2.2.2.2.2.2.2.1,m1_1.2.2.2.2.2.2.2.2.2.2.2.2.2.2.2.2.2.2.2.2.2.2.2.2.2.1,m1_1.2.2.2.2.2.2.2.2.2.2.2.2.2.2.2.2.2.2.2.2.2.2.2.2.2.2.1,m1_1.2.2.2.2.2.2.2.2.2.2.2.2.2.2.2.2.2.2.2.2.2.2.2.2.2.2.2.1,())
 let s_6:=(m1_1.1,m1_1.2.1,m1_1.2.2.1,m1_1.2.2.2.1,m1_1.2.2.2.2.1,m1_1.2.2.2.2.2.1,m1_1.2.2.2.2.2.2.1,m1_1.2.2.2.2.2.2.2.1,m1_1.2.2.2.2.2.2.2.2.1,m1_1.2.2.2.2.2.2.2.2.2.1,m1_1.2.2.2.2.2.2.2.2.2.2.1,m1_1.2.2.2.2.2.2.2.2.2.2.2.1,m1_1.2.2.2.2.2.2.2.2.2.2.2.2.1,((0:Int),(0:Int),(0:Int),(0:Int),()),m1_1.2.2.2.2.2.2.2.2.2.2.2.2.2.2.1,m1_1.2.2.2.2.2.2.2.2.2.2.2.2.2.2.2.1,m1_1.2.2.2.2.2.2.2.2.2.2.2.2.2.2.2.2.1,m1_1.2.2.2.2.2.2.2.2.2.2.2.2.2.2.2.2.2.1,m1_1.2.2.2.2.2.2.2.2.2.2.2.2.2.2.2.2.2.2.1,m1_1.2.2.2.2.2.2.2.2.2.2.2.2.2.2.2.2.2.2.2.1,m1_1.2.2.2.2.2.2.2.2.2.2.2.2.2.2.2.2.2.2.2.2.1,m1_1.2.2.2.2.2.2.2.2.2.2.2.2.2.2.2.2.2.2.2.2.2.1,m1_1.2.2.2.2.2.2.2.2.2.2.2.2.2.2.2.2.2.2.2.2.2.2.1,m1_1.2.2.2.2.2.2.2.2.2.2.2.2.2.2.2.2.2.2.2.2.2.2.2.1,m1_1.2.2.2.2.2.2.2.2.2.2.2.2.2.2.2.2.2.2.2.2.2.2.2.2.1,m1_1.2.2.2.2.2.2.2.2.2.2.2.2.2.2.2.2.2.2.2.2.2.2.2.2.2.1,m1_1.2.2.2.2.2.2.2.2.2.2.2.2.2.2.2.2.2.2.2.2.2.2.2.2.2.2.1,m1_1.2.2.2.2.2.2.2.2.2.2.2.2.2.2.2.2.2.2.2.2.2.2.2.2.2.2.2.1,())
 let s_10:=(m1_1.1,m1_1.2.1,m1_1.2.2.1,m1_1.2.2.2.1,m1_1.2.2.2.2.1,m1_1.2.2.2.2.2.1,m1_1.2.2.2.2.2.2.1,m1_1.2.2.2.2.2.2.2.1,m1_1.2.2.2.2.2.2.2.2.1,m1_1.2.2.2.2.2.2.2.2.2.1,m1_1.2.2.2.2.2.2.2.2.2.2.1,m1_1.2.2.2.2.2.2.2.2.2.2.2.1,m1_1.2.2.2.2.2.2.2.2.2.2.2.2.1,m1_1.2.2.2.2.2.2.2.2.2.2.2.2.2.1,(0:Int),([]:List Int),(0:Int),([]:List D91),m1_1.2.2.2.2.2.2.2.2.2.2.2.2.2.2.2.2.2.2.1,m1_1.2.2.2.2.2.2.2.2.2.2.2.2.2.2.2.2.2.2.2.1,m1_1.2.2.2.2.2.2.2.2.2.2.2.2.2.2.2.2.2.2.2.2.1,m1_1.2.2.2.2.2.2.2.2.2.2.2.2.2.2.2.2.2.2.2.2.2.1,m1_1.2.2.2.2.2.2.2.2.2.2.2.2.2.2.2.2.2.2.2.2.2.2.1,m1_1.2.2.2.2.2.2.2.2.2.2.2.2.2.2.2.2.2.2.2.2.2.2.2.1,m1_1.2.2.2.2.2.2.2.2.2.2.2.2.2.2.2.2.2.2.2.2.2.2.2.2.1,m1_1.2.2.2.2.2.2.2.2.2.2.2.2.2.2.2.2.2.2.2.2.2.2.2.2.2.1,m1_1.2.2.2.2.2.2.2.2.2.2.2.2.2.2.2.2.2.2.2.2.2.2.2.2.2.2.1,m1_1.2.2.2.2.2.2.2.2.2.2.2.2.2.2.2.2.2.2.2.2.2.2.2.2.2.2.2.1,())
 let s_17:=(m1_1.1,m1_1.2.1,m1_1.2.2.1,m1_1.2.2.2.1,m1_1.2.2.2.2.1,m1_1.2.2.2.2.2.1,m1_1.2.2.2.2.2.2.1,m1_1.2.2.2.2.2.2.2.1,m1_1.2.2.2.2.2.2.2.2.1,m1_1.2.2.2.2.2.2.2.2.2.1,m1_1.2.2.2.2.2.2.2.2.2.2.1,m1_1.2.2.2.2.2.2.2.2.2.2.2.1,m1_1.2.2.2.2.2.2.2.2.2.2.2.2.1,((0:Int),(0:Int),(0:Int),(0:Int),()),m1_1.2.2.2.2.2.2.2.2.2.2.2.2.2.2.1,m1_1.2.2.2.2.2.2.2.2.2.2.2.2.2.2.2.1,m1_1.2.2.2.2.2.2.2.2.2.2.2.2.2.2.2.2.1,m1_1.2.2.2.2.2.2.2.2.2.2.2.2.2.2.2.2.2.1,([]:List D97),(0:Int),(0:Int),(0:Int),(0:Int),m1_1.2.2.2.2.2.2.2.2.2.2.2.2.2.2.2.2.2.2.2.2.2.2.2.1,m1_1.2.2.2.2.2.2.2.2.2.2.2.2.2.2.2.2.2.2.2.2.2.2.2.2.1,m1_1.2.2.2.2.2.2.2.2.2.2.2.2.2.2.2.2.2.2.2.2.2.2.2.2.2.1,m1_1.2.2.2.2.2.2.2.2.2.2.2.2.2.2.2.2.2.2.2.2.2.2.2.2.2.2.1,m1_1.2.2.2.2.2.2.2.2.2.2.2.2.2.2.2.2.2.2.2.2.2.2.2.2.2.2.2.1,())
 let s_22:=(m1_1.1,m1_1.2.1,m1_1.2.2.1,m1_1.2.2.2.1,m1_1.2.2.2.2.1,m1_1.2.2.2.2.2.1,m1_1.2.2.2.2.2.2.1,m1_1.2.2.2.2.2.2.2.1,m1_1.2.2.2.2.2.2.2.2.1,m1_1.2.2.2.2.2.2.2.2.2.1,m1_1.2.2.2.2.2.2.2.2.2.2.1,m1_1.2.2.2.2.2.2.2.2.2.2.2.1,m1_1.2.2.2.2.2.2.2.2.2.2.2.2.1,((0:Int),(0:Int),(0:Int),(0:Int),()),m1_1.2.2.2.2.2.2.2.2.2.2.2.2.2.2.1,m1_1.2.2.2.2.2.2.2.2.2.2.2.2.2.2.2.1,m1_1.2.2.2.2.2.2.2.2.2.2.2.2.2.2.2.2.1,m1_1.2.2.2.2.2.2.2.2.2.2.2.2.2.2.2.2.2.1,m1_1.2.2.2.2.2.2.2.2.2.2.2.2.2.2.2.2.2.2.1,m1_1.2.2.2.2.2.2.2.2.2.2.2.2.2.2.2.2.2.2.2.1,m1_1.2.2.2.2.2.2.2.2.2.2.2.2.2.2.2.2.2.2.2.2.1,m1_1.2.2.2.2.2.2.2.2.2.2.2.2.2.2.2.2.2.2.2.2.2.1,m1_1.2.2.2.2.2.2.2.2.2.2.2.2.2.2.2.2.2.2.2.2.2.2.1,([]:List UInt8),(0:Int),(0:Int),m1_1.2.2.2.2.2.2.2.2.2.2.2.2.2.2.2.2.2.2.2.2.2.2.2.2.2.2.1,m1_1.2.2.2.2.2.2.2.2.2.2.2.2.2.2.2.2.2.2.2.2.2.2.2.2.2.2.2.1,())
 let s_25:=(m1_1.1,m1_1.2.1,m1_1.2.2.1,m1_1.2.2.2.1,m1_1.2.2.2.2.1,m1_1.2.2.2.2.2.1,m1_1.2.2.2.2.2.2.1,m1_1.2.2.2.2.2.2.2.1,m1_1.2.2.2.2.2.2.2.2.1,m1_1.2.2.2.2.2.2.2.2.2.1,m1_1.2.2.2.2.2.2.2.2.2.2.1,m1_1.2.2.2.2.2.2.2.2.2.2.2.1,m1_1.2.2.2.2.2.2.2.2.2.2.2.2.1,m1_1.2.2.2.2.2.2.2.2.2.2.2.2.2.1,(0:Int),([]:List Int),m1_1.2.2.2.2.2.2.2.2.2.2.2.2.2.2.2.2.1,([]:List D91),m1_1.2.2.2.2.2.2.2.2.2.2.2.2.2.2.2.2.2.2.1,m1_1.2.2.2.2.2.2.2.2.2.2.2.2.2.2.2.2.2.2.2.1,m1_1.2.2.2.2.2.2.2.2.2.2.2.2.2.2.2.2.2.2.2.2.1,m1_1.2.2.2.2.2.2.2.2.2.2.2.2.2.2.2.2.2.2.2.2.2.1,m1_1.2.2.2.2.2.2.2.2.2.2.2.2.2.2.2.2.2.2.2.2.2.2.1,m1_1.2.2.2.2.2.2.2.2.2.2.2.2.2.2.2.2.2.2.2.2.2.2.2.1,m1_1.2.2.2.2.2.2.2.2.2.2.2.2.2.2.2.2.2.2.2.2.2.2.2.2.1,m1_1.2.2.2.2.2.2.2.2.2.2.2.2.2.2.2.2.2.2.2.2.2.2.2.2.2.1,m1_1.2.2.2.2.2.2.2.2.2.2.2.2.2.2.2.2.2.2.2.2.2.2.2.2.2.2.1,m1_1.2.2.2.2.2.2.2.2.2.2.2.2.2.2.2.2.2.2.2.2.2.2.2.2.2.2.2.1,())
 let s_27:=(m1_1.1,m1_1.2.1,m1_1.2.2.1,m1_1.2.2.2.1,m1_1.2.2.2.2.1,m1_1.2.2.2.2.2.1,m1_1.2.2.2.2.2.2.1,m1_1.2.2.2.2.2.2.2.1,m1_1.2.2.2.2.2.2.2.2.1,m1_1.2.2.2.2.2.2.2.2.2.1,m1_1.2.2.2.2.2.2.2.2.2.2.1,m1_1.2.2.2.2.2.2.2.2.2.2.2.1,m1_1.2.2.2.2.2.2.2.2.2.2.2.2.1,m1_1.2.2.2.2.2.2.2.2.2.2.2.2.2.1,(0:Int),([]:List Int),m1_1.2.2.2.2.2.2.2.2.2.2.2.2.2.2.2.2.1,m1_1.2.2.2.2.2.2.2.2.2.2.2.2.2.2.2.2.2.1,m1_1.2.2.2.2.2.2.2.2.2.2.2.2.2.2.2.2.2.2.1,m1_1.2.2.2.2.2.2.2.2.2.2.2.2.2.2.2.2.2.2.2.1,m1_1.2.2.2.2.2.2.2.2.2.2.2.2.2.2.2.2.2.2.2.2.1,m1_1.2.2.2.2.2.2.2.2.2.2.2.2.2.2.2.2.2.2.2.2.2.1,m1_1.2.2.2.2.2.2.2.2.2.2.2.2.2.2.2.2.2.2.2.2.2.2.1,m1_1.2.2.2.2.2.2.2.2.2.2.2.2.2.2.2.2.2.2.2.2.2.2.2.1,m1_1.2.2.2.2.2.2.2.2.2.2.2.2.2.2.2.2.2.2.2.2.2.2.2.2.1,m1_1.2.2.2.2.2.2.2.2.2.2.2.2.2.2.2.2.2.2.2.2.2.2.2.2.2.1,m1_1.2.2.2.2.2.2.2.2.2.2.2.2.2.2.2.2.2.2.2.2.2.2.2.2.2.2.1,m1_1.2.2.2.2.2.2.2.2.2.2.2.2.2.2.2.2.2.2.2.2.2.2.2.2.2.2.2.1,())
 let v54:=(m1_1.2.1 == 9)
 let s_28:=(m1_1.1,m1_1.2.1,m1_1.2.2.1,m1_1.2.2.2.1,m1_1.2.2.2.2.1,m1_1.2.2.2.2.2.1,m1_1.2.2.2.2.2.2.1,m1_1.2.2.2.2.2.2.2.1,m1_1.2.2.2.2.2.2.2.2.1,m1_1.2.2.2.2.2.2.2.2.2.1,m1_1.2.2.2.2.2.2.2.2.2.2.1,m1_1.2.2.2.2.2.2.2.2.2.2.2.1,m1_1.2.2.2.2.2.2.2.2.2.2.2.2.1,m1_1.2.2.2.2.2.2.2.2.2.2.2.2.2.1,m1_1.2.2.2.2.2.2.2.2.2.2.2.2.2.2.1,m1_1.2.2.2.2.2.2.2.2.2.2.2.2.2.2.2.1,m1_1.2.2.2.2.2.2.2.2.2.2.2.2.2.2.2.2.1,m1_1.2.2.2.2.2.2.2.2.2.2.2.2.2.2.2.2.2.1,m1_1.2.2.2.2.2.2.2.2.2.2.2.2.2.2.2.2.2.2.1,m1_1.2.2.2.2.2.2.2.2.2.2.2.2.2.2.2.2.2.2.2.1,m1_1.2.2.2.2.2.2.2.2.2.2.2.2.2.2.2.2.2.2.2.2.1,m1_1.2.2.2.2.2.2.2.2.2.2.2.2.2.2.2.2.2.2.2.2.2.1,m1_1.2.2.2.2.2.2.2.2.2.2.2.2.2.2.2.2.2.2.2.2.2.2.1,m1_1.2.2.2.2.2.2.2.2.2.2.2.2.2.2.2.2.2.2.2.2.2.2.2.1,m1_1.2.2.2.2.2.2.2.2.2.2.2.2.2.2.2.2.2.2.2.2.2.2.2.2.1,m1_1.2.2.2.2.2.2.2.2.2.2.2.2.2.2.2.2.2.2.2.2.2.2.2.2.2.1,(0:Int),m1_1.2.2.2.2.2.2.2.2.2.2.2.2.2.2.2.2.2.2.2.2.2.2.2.2.2.2.2.1,())
 let s_30:=(m1_1.1,m1_1.2.1,m1_1.2.2.1,m1_1.2.2.2.1,m1_1.2.2.2.2.1,m1_1.2.2.2.2.2.1,m1_1.2.2.2.2.2.2.1,m1_1.2.2.2.2.2.2.2.1,m1_1.2.2.2.2.2.2.2.2.1,m1_1.2.2.2.2.2.2.2.2.2.1,m1_1.2.2.2.2.2.2.2.2.2.2.1,m1_1.2.2.2.2.2.2.2.2.2.2.2.1,m1_1.2.2.2.2.2.2.2.2.2.2.2.2.1,m1_1.2.2.2.2.2.2.2.2.2.2.2.2.2.1,m1_1.2.2.2.2.2.2.2.2.2.2.2.2.2.2.1,m1_1.2.2.2.2.2.2.2.2.2.2.2.2.2.2.2.1,m1_1.2.2.2.2.2.2.2.2.2.2.2.2.2.2.2.2.1,m1_1.2.2.2.2.2.2.2.2.2.2.2.2.2.2.2.2.2.1,m1_1.2.2.2.2.2.2.2.2.2.2.2.2.2.2.2.2.2.2.1,m1_1.2.2.2.2.2.2.2.2.2.2.2.2.2.2.2.2.2.2.2.1,m1_1.2.2.2.2.2.2.2.2.2.2.2.2.2.2.2.2.2.2.2.2.1,m1_1.2.2.2.2.2.2.2.2.2.2.2.2.2.2.2.2.2.2.2.2.2.1,m1_1.2.2.2.2.2.2.2.2.2.2.2.2.2.2.2.2.2.2.2.2.2.2.1,m1_1.2.2.2.2.2.2.2.2.2.2.2.2.2.2.2.2.2.2.2.2.2.2.2.1,m1_1.2.2.2.2.2.2.2.2.2.2.2.2.2.2.2.2.2.2.2.2.2.2.2.2.1,m1_1.2.2.2.2.2.2.2.2.2.2.2.2.2.2.2.2.2.2.2.2.2.2.2.2.2.1,m1_1.2.2.2.2.2.2.2.2.2.2.2.2.2.2.2.2.2.2.2.2.2.2.2.2.2.2.1,((0:Int),(0:Int),(0:Int),([]:List D94),()),())
 let m1_6:=(bif (m1_1.2.1 == 6) then s_22 else (bif (m1_1.2.1 == 7) then s_25 else (bif (m1_1.2.1 == 8) then s_27 else (bif (bif v54 then v54 else (m1_1.2.1 == 10)) then s_28 else (bif (m1_1.2.1 == 11) then s_30 else m1_1)))))
 (((tV9 p0.2.1) ∧ (tW0 m1.2.1)),(bif (m1_1.2.1 == 2) then s_4 else (bif (m1_1.2.1 == 3) then s_6 else (bif (m1_1.2.1 == 4) then s_10 else (bif (m1_1.2.1 == 5) then s_17 else m1_6)))))
def sS7 (p0:D57):Prop:=(f83t p0).1
def f83 (p0:D57):D57:=(f83t p0).2
instance (p0:D57):Decidable (sS7 p0):=by
 unfold sS7 f83t
 try dsimp only
 infer_instance
def rO7:Am.Spec:=fnSpec [(0,(.val T57))] (.val T57) [] (fun x=>sS7 x.1) (fun x=>f83 x.1) (fun _=>())
def oN3:Ctx:=Cx tys [(76,sD2),(79,sD5)] [] [] false 62 [] []
theorem oN4:CtxOk Tryz.prog oN3:=xV6 tys_ok rfl ⟨pS0,pS3,trivial⟩ rfl (by kernel_rfl)
theorem nB9:SpecOk Tryz.prog 83 rO7:=xX4 oN4 mixed Tryz.func83 (by kernel_rfl) (bs:=[]) (by kernel_rfl) trivial fun x=>by kernel_rfl
def f54t (p0:D57) (p1:Int) (p2:Int):Prop × Int :=
 let v15:=(f75 p0 p1 p2)
 let v17:=(v15 != 0)
 let v21:=(f76 p0.2.1)
 let v24:=(f77 p0.2.2.2.2.2.2.2.2.2.2.1)
 let v26:=(v24 != 0)
 let v31:=(f78 p0.2.2.2.2.2.2.2.2.2.2.1)
 let v35:=(v31.2.1 != 0)
 let v39:=(f79 p0.2.1)
 let v45:=(bif v39 then (!(f80 p0.2.2.2.2.2.2.2.2.2.2.2.1)) else false)
 let v47:=(f81 p0)
 let v49:=(v47 != 0)
 let v52:=(f83 p0)
 let m6_5:=(bif v17 then v15 else (bif ((v26 || ((!v26) && v35)) && v21) then (bif v26 then v24 else v31.2.1) else (bif v45 then (8:Int) else (bif v49 then v47 else (bif (!(f82 v52)) then (1:Int) else (0:Int))))))
 (((sN4 p0 p1 p2) ∧ ((!v17) = true → ((tV9 p0.2.1) ∧ ((v21 = true → ((vY6 p0.2.2.2.2.2.2.2.2.2.2.1) ∧ ((!v26) = true → (sN6 p0.2.2.2.2.2.2.2.2.2.2.1)))) ∧ ((bif v21 then ((!v26) && (!v35)) else true) = true → ((tW0 p0.2.1) ∧ ((v39 = true → (sN7 p0.2.2.2.2.2.2.2.2.2.2.2.1)) ∧ ((!v45) = true → ((sS5 p0) ∧ ((!v49) = true → ((sS7 p0) ∧ (sS6 v52)))))))))))),m6_5)
def sS8 (p0:D57) (p1:Int) (p2:Int):Prop:=(f54t p0 p1 p2).1
def f54 (p0:D57) (p1:Int) (p2:Int):Int:=(f54t p0 p1 p2).2
instance (p0:D57) (p1:Int) (p2:Int):Decidable (sS8 p0 p1 p2):=by
 unfold sS8 f54t
 try dsimp only
 infer_instance
def rO8:Am.Spec:=fnSpec [(0,(.val T57)),(1,vI),(2,vI)] vI [] (fun x=>sS8 x.1 x.2.1 x.2.2.1) (fun x=>f54 x.1 x.2.1 x.2.2.1) (fun _=>())
def oN5:Ctx:=Cx tys [(75,rK7),(76,sD2),(77,uE8),(78,rK9),(79,sD5),(80,rL),(81,rO5),(82,rO6),(83,rO7)] [] [] false 55 [] []
theorem oN6:CtxOk Tryz.prog oN5:=xV6 tys_ok rfl ⟨nB3,pS0,rK8,nB4,pS3,nB5,nB7,nB8,nB9,trivial⟩ rfl (by kernel_rfl)
theorem nC:SpecOk Tryz.prog 54 rO8:=xX4 oN6 mixed Tryz.func54 (by kernel_rfl) (bs:=[]) (by kernel_rfl) trivial fun x=>by kernel_rfl
abbrev wH4:Type:=((List (Int × Int × Unit)) × Int × D28 × Unit)
abbrev wC3:Type:=(Int × Unit)
def wP1 (y:wH4) (x:wC3):Prop × Bool × wC3 × Bool × Bool :=
 let a2:=y.2.1
 let a3:=y.2.2.1
 let a7:=x.1
 let v16:=(a7 != 0)
 let v24:=(a7 == (nth a3.2.2.2.1 a2 Z57).2.2.1)
 let v29:=(Option.getD (yH9 (.int .i64) (.int .i64) a7 y.1) (0:Int))
 ((v16 = true → (InB a2 (len a3.2.2.2.1) ∧ ((!v24) = true → InB v29 (len a3.2.2.2.1)))),(v16 && (!v24)),((nth a3.2.2.2.1 v29 Z57).2.2.1,()),(v16 && v24),(!v16))
def wU4 (y:wH4) (x:wC3):Prop:=(wP1 y x).1
def vA1 (y:wH4) (x:wC3):Bool:=(wP1 y x).2.1
def wK5 (y:wH4) (x:wC3):wC3:=(wP1 y x).2.2.1
def vR7 (y:wH4) (x:wC3):Bool:=(wP1 y x).2.2.2.1
def sS9 (y:wH4) (x:wC3):Bool:=(wP1 y x).2.2.2.2
instance (y:wH4) (x:wC3):Decidable (wU4 y x):=by
 unfold wU4 wP1
 try dsimp only
 infer_instance
def vY9 (y:wH4) (x:wC3):Bool :=
 true
def uZ2:List (Nat × Sh):=[(1,(.own (xC7 (.int .i64) (.int .i64)) 400100 true)),(6,vB)]
def uZ3:List (Nat × Sh):=[(1,(.own (xC7 (.int .i64) (.int .i64)) 400100 true))]
def vZ:St → Option Out:=xO8 [(1,(.own (xC7 (.int .i64) (.int .i64)) 400100 true)),(2,vI),(3,(.box T28 (.val T28)))] [(7,vI)] vA1 wK5 wU4 fun y x=>[ex 1 (some (vR7 y x)) uZ2 (y.1,(vY9 y x),()),ex 2 (some (sS9 y x)) uZ3 (y.1,())]
def tO8 (p0:D28) (p1:(List (Int × Int × Unit))) (p2:Int):Prop × Bool × ((List (Int × Int × Unit)) × Unit) :=
 let v11:=(p2 - 1)
 let y2:=(p1,p2,p0,())
 let x2:=((nth p0.2.2.2.1 v11 Z57).1,())
 let e2:=(zB9 (vA1 y2) (wK5 y2) x2)
 let q2_1:=(vR7 y2 e2)
 ((InR (p2 - 1) ∧ (InB v11 (len p0.2.2.2.1) ∧ (Am.Ends (vA1 y2) (wK5 y2) (wU4 y2) x2))),(bif q2_1 then (vY9 y2 e2) else false),((bif q2_1 then p1 else p1),()))
def vR8 (p0:D28) (p1:(List (Int × Int × Unit))) (p2:Int):Prop:=(tO8 p0 p1 p2).1
def qJ7 (p0:D28) (p1:(List (Int × Int × Unit))) (p2:Int):Bool:=(tO8 p0 p1 p2).2.1
def vM6 (p0:D28) (p1:(List (Int × Int × Unit))) (p2:Int):((List (Int × Int × Unit)) × Unit):=(tO8 p0 p1 p2).2.2
instance (p0:D28) (p1:(List (Int × Int × Unit))) (p2:Int):Decidable (vR8 p0 p1 p2):=by
 unfold vR8 tO8
 try dsimp only
 infer_instance
def tO9:Am.Spec:=fnSpec [(0,(.val T28)),(1,(.own (xC7 (.int .i64) (.int .i64)) 400100 true)),(2,vI)] vB [(1,(.own (xC7 (.int .i64) (.int .i64)) 400100 true))] (fun x=>vR8 x.1 x.2.1 x.2.2.1) (fun x=>qJ7 x.1 x.2.1 x.2.2.1) (fun x=>vM6 x.1 x.2.1 x.2.2.1)
def tZ2:Ctx:={ Cx tys [] [(2,vZ)] [] false 33 [1] [] with maps:=maps }
theorem tZ3:CtxOk Tryz.prog tZ2:=xV6 tys_ok (by kernel_rfl) trivial rfl (by kernel_rfl)
noncomputable def rD2:Code:=Tryz.f55.body.getD .skip
noncomputable def sT:Code:=xW5 rD2 0
theorem sT0:yU1 Tryz.prog tZ2 sT:=xX3 tZ3 mixed (sp:=vZ) rfl [uZ2,uZ3] (bs:=[]) (by kernel_rfl) trivial (by kernel_rfl) (by kernel_rfl) fun y x=>by kernel_rfl
theorem qJ8:SpecOk Tryz.prog 55 tO9:=xX4 tZ3 mixed Tryz.func55 (by kernel_rfl) (bs:=[sT]) (by kernel_rfl) ⟨sT0,trivial⟩ fun x=>by kernel_rfl
abbrev vC6:Type:=(D28 × (List D57) × Int × Unit)
abbrev wN8:Type:=((List (Int × Int × Unit)) × (List Int) × Int × Unit)
def uB6 (y:vC6) (x:wN8):Prop × Bool × wN8 × Bool × Bool :=
 let a1:=y.1
 let a18:=y.2.1
 let a3:=x.1
 let a4:=x.2.1
 let a20:=x.2.2.1
 let v21:=(decide (a20 < y.2.2.1))
 let v23:=(nth a18 a20 Z57)
 let v32:=((f54 v23 a1.1 a1.2.1) != 0)
 let v43:=(bif (decide (v23.1 < 1)) then true else (decide (v23.1 ≥ a1.2.2.2.2.1)))
 let v50:=(Option.isSome (yH9 (.int .i64) (.int .i64) v23.1 a3))
 let l1004:=(List.set a4 (Int.toNat a20) (1:Int))
 let v57:=(v23.2.2.1 != 0)
 let v63:=(Option.getD (yH9 (.int .i64) (.int .i64) v23.2.2.1 a3) (0:Int))
 let v66:=(!(Option.isSome (yH9 (.int .i64) (.int .i64) v23.2.2.1 a3)))
 let v75:=(bif v66 then true else ((nth a1.2.2.2.1 v63 Z57).2.1 != 1))
 let v80:=(!(qJ7 a1 a3 a20))
 let v86:=(nth l1004 v63 (0:Int))
 let c_3:=(bif v57 then ((!v75) && (!v80)) else true)
 let m4:=(bif v57 then (List.set l1004 (Int.toNat a20) (v86 + 1)) else l1004)
 let v93:=(decide ((nth m4 a20 (0:Int)) > 8))
 let c_14:=((!v32) && ((!v43) && ((!v50) && (c_3 && (!v93)))))
 ((v21 = true → (InB a20 (len a18) ∧ ((sS8 v23 a1.1 a1.2.1) ∧ (((!v32) = true → ((!v43) = true → ((!v50) = true → (InB a20 (len a4) ∧ (a20 < len a4 ∧ ((v57 = true → (((!v66) = true → InB v63 (len a1.2.2.2.1)) ∧ ((!v75) = true → ((vR8 a1 a3 a20) ∧ (0 < List.length a3 ∧ (List.length a3 = List.length a3 ∧ (List.length a3 = List.length a3 ∧ (List.length a3 = List.length a3 ∧ (List.length a3 = List.length a3 ∧ ((!v80) = true → (InB v63 (len l1004) ∧ (v63 < len l1004 ∧ (InR (v86 + 1) ∧ (InB a20 (len l1004) ∧ a20 < len l1004)))))))))))))) ∧ (c_3 = true → (InB a20 (len m4) ∧ a20 < len m4)))))))) ∧ (c_14 = true → InR (a20 + 1)))))),(v21 && c_14),((xL0 (.int .i64) (.int .i64) v23.1 a20 (bif v57 then (vM6 a1 a3 a20).1 else a3)),m4,(a20 + 1),()),(v21 && (v32 || ((!v32) && (v43 || ((!v43) && (v50 || ((!v50) && (((v75 || ((!v75) && v80)) && v57) || (c_3 && v93))))))))),(!v21))
def vJ3 (y:vC6) (x:wN8):Prop:=(uB6 y x).1
def vX0 (y:vC6) (x:wN8):Bool:=(uB6 y x).2.1
def wP2 (y:vC6) (x:wN8):wN8:=(uB6 y x).2.2.1
def sT1 (y:vC6) (x:wN8):Bool:=(uB6 y x).2.2.2.1
def qJ9 (y:vC6) (x:wN8):Bool:=(uB6 y x).2.2.2.2
instance (y:vC6) (x:wN8):Decidable (vJ3 y x):=by
 unfold vJ3 uB6
 try dsimp only
 infer_instance
def tP (y:vC6) (x:wN8):Int :=
 let a1:=y.1
 let a3:=x.1
 let a20:=x.2.2.1
 let v23:=(nth y.2.1 a20 Z57)
 let v30:=(f54 v23 a1.1 a1.2.1)
 let v75:=(bif (!(Option.isSome (yH9 (.int .i64) (.int .i64) v23.2.2.1 a3))) then true else ((nth a1.2.2.2.1 (Option.getD (yH9 (.int .i64) (.int .i64) v23.2.2.1 a3) (0:Int)) Z57).2.1 != 1))
 let m2_2:=(bif (Option.isSome (yH9 (.int .i64) (.int .i64) v23.1 a3)) then (10:Int) else (bif ((v75 || ((!v75) && (!(qJ7 a1 a3 a20)))) && (v23.2.2.1 != 0)) then (bif v75 then (9:Int) else (24:Int)) else (12:Int)))
 (bif (v30 != 0) then v30 else (bif (bif (decide (v23.1 < 1)) then true else (decide (v23.1 ≥ a1.2.2.2.2.1))) then (2:Int) else m2_2))
def tP0:St → Option Out:=xO8 [(1,(.box T28 (.val T28))),(18,(.val (.sl T57))),(19,vI)] [(3,(.own (xC7 (.int .i64) (.int .i64)) 1003 true)),(4,(.own (.int .i64) 1004 true)),(20,vI)] vX0 wP2 vJ3 fun y x=>[ex 1 (some (sT1 y x)) [(2,vI)] ((tP y x),()),ex 2 (some (qJ9 y x)) [] ()]
def f33t (p0:D28):Prop × Int :=
 let v15:=(len p0.2.2.2.1)
 let y4:=(p0,p0.2.2.2.1,(len p0.2.2.2.1),())
 let x4:=(([]:List (Int × Int × Unit)),(List.replicate (Int.toNat v15) (0:Int)),(0:Int),())
 let e4:=(zB9 (vX0 y4) (wP2 y4) x4)
 (((0 ≤ v15 ∧ v15 ≤ v15 ∧ v15 ≤ 4294967296) ∧ (Am.Ends (vX0 y4) (wP2 y4) (vJ3 y4) x4)),(bif (sT1 y4 e4) then (tP y4 e4) else (0:Int)))
def sT2 (p0:D28):Prop:=(f33t p0).1
def f33 (p0:D28):Int:=(f33t p0).2
instance (p0:D28):Decidable (sT2 p0):=by
 unfold sT2 f33t
 try dsimp only
 infer_instance
def rO9:Am.Spec:=fnSpec [(0,(.val T28))] vI [] (fun x=>sT2 x.1) (fun x=>f33 x.1) (fun _=>())
def qK:Ctx:={ Cx tys [(54,rO8),(55,tO9)] [(4,tP0)] [(3,[(4,0,12,1003)]),(5,[(4,0,16,1004)])] false 99 [] [16] with wants:=[(55,[1])],maps:=maps }
theorem qK0:CtxOk Tryz.prog qK:=xV6 tys_ok (by kernel_rfl) ⟨nC,qJ8,trivial⟩ rfl (by kernel_rfl)
noncomputable def pG7:Code:=Tryz.f33.body.getD .skip
noncomputable def pS6:Code:=xW5 pG7 0
theorem qK1:yU1 Tryz.prog qK pS6:=xX3 qK0 mixed (sp:=tP0) rfl [[(2,vI)],[]] (bs:=[]) (by kernel_rfl) trivial (by kernel_rfl) (by kernel_rfl) fun y x=>by kernel_rfl
theorem nC0:SpecOk Tryz.prog 33 rO9:=xX4 qK0 mixed Tryz.func33 (by kernel_rfl) (bs:=[pS6]) (by kernel_rfl) ⟨qK1,trivial⟩ fun x=>by kernel_rfl
abbrev vM7:Type:=(D28 × D57 × (List D57) × Int × Int × Unit)
abbrev vC7:Type:=(Int × Unit)
def tP1 (y:vM7) (x:vC7):Prop × Bool × vC7 :=
 let a1:=y.1
 let a5:=x.1
 let v20:=(decide (a5 ≥ 0))
 let v30:=((nth a1.2.2.2.1 a5 Z57).2.2.1 != y.2.1.2.2.1)
 let v39:=(bif v20 then (bif v30 then true else (nth a1.2.2.2.1 a5 Z57).2.2.2.2.2.2.1) else false)
 (((v20 = true → InB a5 (len a1.2.2.2.1)) ∧ (((v20 && (!v30)) = true → InB a5 (len a1.2.2.2.1)) ∧ (v39 = true → InR (a5 - 1)))),v39,((a5 - 1),()))
def vJ4 (y:vM7) (x:vC7):Prop:=(tP1 y x).1
def wV9 (y:vM7) (x:vC7):Bool:=(tP1 y x).2.1
def wH5 (y:vM7) (x:vC7):vC7:=(tP1 y x).2.2
instance (y:vM7) (x:vC7):Decidable (vJ4 y x):=by
 unfold vJ4 tP1
 try dsimp only
 infer_instance
def uB7 (y:vM7) (x:vC7):Int :=
 x.1
def sT3:List (Nat × Sh):=[(1,(.box T28 (.val T28))),(5,vI),(7,(.val (.sl T57))),(8,vI),(9,vI)]
def tP2:St → Option Out:=xO8 [(1,(.box T28 (.val T28))),(4,(.box T57 (.val T57))),(7,(.val (.sl T57))),(8,vI),(9,vI)] [(5,vI)] wV9 wH5 vJ4 fun y x=>[ex 4 none sT3 (y.1,(uB7 y x),y.2.2.1,y.2.2.2.1,y.2.2.2.2.1,())]
abbrev vC8:Type:=(Unit)
abbrev wQ6:Type:=(D28 × (List D57) × Int × Int × Unit)
def uB8 (y:vC8) (x:wQ6):Prop × Bool × wQ6 × Bool × Bool :=
 let a1:=x.1
 let a7:=x.2.1
 let a8:=x.2.2.1
 let a9:=x.2.2.2.1
 let v10:=(decide (a9 < a8))
 let v12:=(nth a7 a9 Z57)
 let v16:=(!v12.2.2.2.2.2.2.1)
 let y6:=(a1,v12,a7,a8,a9,())
 let x6:=((a9 - 1),())
 let r6_4_0:=(uB7 y6 (zB9 (wV9 y6) (wH5 y6) x6))
 let v43:=(decide (r6_4_0 < 0))
 let v47:=(nth a1.2.2.2.1 r6_4_0 Z57)
 let v49:=(f56 v47)
 let c_5:=(v16 || ((!v16) && ((!v43) && (!v49))))
 let m9:=(bif v16 then a9 else a9)
 ((v10 = true → (InB a9 (len a7) ∧ (((!v16) = true → (InR (a9 - 1) ∧ ((Am.Ends (wV9 y6) (wH5 y6) (vJ4 y6) x6) ∧ ((!v43) = true → (InB r6_4_0 (len a1.2.2.2.1) ∧ (tG1 v47)))))) ∧ (c_5 = true → InR (m9 + 1))))),(v10 && c_5),((bif v16 then a1 else a1),(bif v16 then a7 else a7),(bif v16 then a8 else a8),(m9 + 1),()),(v10 && ((!v16) && (v43 || ((!v43) && v49)))),(!v10))
def vR9 (y:vC8) (x:wQ6):Prop:=(uB8 y x).1
def tC7 (y:vC8) (x:wQ6):Bool:=(uB8 y x).2.1
def wP3 (y:vC8) (x:wQ6):wQ6:=(uB8 y x).2.2.1
def sT4 (y:vC8) (x:wQ6):Bool:=(uB8 y x).2.2.2.1
def qK2 (y:vC8) (x:wQ6):Bool:=(uB8 y x).2.2.2.2
instance (y:vC8) (x:wQ6):Decidable (vR9 y x):=by
 unfold vR9 uB8
 try dsimp only
 infer_instance
def tP3 (y:vC8) (x:wQ6):Int :=
 let a7:=x.2.1
 let a9:=x.2.2.2.1
 let y6:=(x.1,(nth a7 a9 Z57),a7,x.2.2.1,a9,())
 (bif (decide ((uB7 y6 (zB9 (wV9 y6) (wH5 y6) ((a9 - 1),()))) < 0)) then (14:Int) else (8:Int))
def tP4:St → Option Out:=xO8 [] [(1,(.box T28 (.val T28))),(7,(.val (.sl T57))),(8,vI),(9,vI)] tC7 wP3 vR9 fun y x=>[ex 1 (some (sT4 y x)) [(2,vI)] ((tP3 y x),()),ex 2 (some (qK2 y x)) [] ()]
def f34t (p0:D28):Prop × Int :=
 let x2:=(p0,p0.2.2.2.1,(len p0.2.2.2.1),(0:Int),())
 let e2:=(zB9 (tC7 ()) (wP3 ()) x2)
 ((Am.Ends (tC7 ()) (wP3 ()) (vR9 ()) x2),(bif (sT4 () e2) then (tP3 () e2) else (0:Int)))
def sT5 (p0:D28):Prop:=(f34t p0).1
def f34 (p0:D28):Int:=(f34t p0).2
instance (p0:D28):Decidable (sT5 p0):=by
 unfold sT5 f34t
 try dsimp only
 infer_instance
def rP:Am.Spec:=fnSpec [(0,(.val T28))] vI [] (fun x=>sT5 x.1) (fun x=>f34 x.1) (fun _=>())
def rD3:Ctx:=Cx tys [(56,tB2)] [(6,tP2),(2,tP4)] [] false 51 [] []
theorem rD4:CtxOk Tryz.prog rD3:=xV6 tys_ok rfl ⟨qE7,trivial⟩ rfl (by kernel_rfl)
noncomputable def pG8:Code:=Tryz.f34.body.getD .skip
noncomputable def qK3:Code:=xW5 pG8 0
noncomputable def pS7:Code:=xW5 qK3 0
theorem qK4:yU1 Tryz.prog rD3 pS7:=xX3 rD4 mixed (sp:=tP2) rfl [sT3] (bs:=[]) (by kernel_rfl) trivial (by kernel_rfl) (by kernel_rfl) fun y x=>by kernel_rfl
theorem qK5:yU1 Tryz.prog rD3 qK3:=xX3 rD4 mixed (sp:=tP4) rfl [[(2,vI)],[]] (bs:=[pS7]) (by kernel_rfl) ⟨qK4,trivial⟩ (by kernel_rfl) (by kernel_rfl) fun y x=>by kernel_rfl
theorem nC1:SpecOk Tryz.prog 34 rP:=xX4 rD4 mixed Tryz.func34 (by kernel_rfl) (bs:=[qK3]) (by kernel_rfl) ⟨qK5,trivial⟩ fun x=>by kernel_rfl
abbrev vC9:Type:=((List UInt8) × Int × Unit)
abbrev wQ7:Type:=(Int × Unit)
def uQ6 (y:vC9) (x:wQ7):Prop × Bool × wQ7 × Bool × Bool :=
 let a0:=y.1
 let a14:=x.1
 let v15:=(decide (a14 < y.2.1))
 let v20:=(decide ((xW8 a0 a14) < 33))
 let v26:=(bif v20 then true else (decide ((xW8 a0 a14) > 126)))
 ((v15 = true → (InB a14 (len a0) ∧ (((!v20) = true → InB a14 (len a0)) ∧ ((!v26) = true → InR (a14 + 1))))),(v15 && (!v26)),((a14 + 1),()),(v15 && v26),(!v15))
def uK6 (y:vC9) (x:wQ7):Prop:=(uQ6 y x).1
def sG5 (y:vC9) (x:wQ7):Bool:=(uQ6 y x).2.1
def uB9 (y:vC9) (x:wQ7):wQ7:=(uQ6 y x).2.2.1
def sT6 (y:vC9) (x:wQ7):Bool:=(uQ6 y x).2.2.2.1
def qK6 (y:vC9) (x:wQ7):Bool:=(uQ6 y x).2.2.2.2
instance (y:vC9) (x:wQ7):Decidable (uK6 y x):=by
 unfold uK6 uQ6
 try dsimp only
 infer_instance
def tP5 (y:vC9) (x:wQ7):Bool :=
 false
def tP6:St → Option Out:=xO8 [(0,vS),(13,vI)] [(14,vI)] sG5 uB9 uK6 fun y x=>[ex 1 (some (sT6 y x)) [(2,vB)] ((tP5 y x),()),ex 2 (some (qK6 y x)) [] ()]
def f57t (p0:(List UInt8)):Prop × Bool :=
 let v11:=(bif (decide ((len p0) < 1)) then true else (decide ((len p0) > 32)))
 let y4:=(p0,(len p0),())
 let x4:=((0:Int),())
 let e4:=(zB9 (sG5 y4) (uB9 y4) x4)
 (((!v11) = true → (Am.Ends (sG5 y4) (uB9 y4) (uK6 y4) x4)),(bif v11 then false else (bif (sT6 y4 e4) then (tP5 y4 e4) else true)))
def sT7 (p0:(List UInt8)):Prop:=(f57t p0).1
def f57 (p0:(List UInt8)):Bool:=(f57t p0).2
instance (p0:(List UInt8)):Decidable (sT7 p0):=by
 unfold sT7 f57t
 try dsimp only
 infer_instance
def rP0:Am.Spec:=fnSpec [(0,vS)] vB [] (fun x=>sT7 x.1) (fun x=>f57 x.1) (fun _=>())
def qK7:Ctx:=Cx tys [] [(4,tP6)] [] false 28 [] []
theorem qK8:CtxOk Tryz.prog qK7:=xV6 tys_ok rfl trivial rfl (by kernel_rfl)
noncomputable def pG9:Code:=Tryz.f57.body.getD .skip
noncomputable def pS8:Code:=xW5 pG9 0
theorem qK9:yU1 Tryz.prog qK7 pS8:=xX3 qK8 mixed (sp:=tP6) rfl [[(2,vB)],[]] (bs:=[]) (by kernel_rfl) trivial (by kernel_rfl) (by kernel_rfl) fun y x=>by kernel_rfl
theorem nC2:SpecOk Tryz.prog 57 rP0:=xX4 qK8 mixed Tryz.func57 (by kernel_rfl) (bs:=[pS8]) (by kernel_rfl) ⟨qK9,trivial⟩ fun x=>by kernel_rfl
abbrev vD:Type:=(D28 × D74 × (List D74) × Int × Int × (List D74) × Int × Unit)
abbrev wQ8:Type:=(Int × Unit)
def uQ7 (y:vD) (x:wQ8):Prop × Bool × wQ8 × Bool × Bool :=
 let a4:=y.2.1
 let a53:=y.2.2.2.2.2.1
 let a55:=x.1
 let v56:=(decide (a55 < y.2.2.2.2.2.2.1))
 let v57:=(nth a53 a55 Z74)
 let v70:=(bif (v57.1 == a4.1) then true else (v57.2.1 == a4.2.1))
 ((v56 = true → (InB a55 (len a53) ∧ ((!v70) = true → InR (a55 + 1)))),(v56 && (!v70)),((a55 + 1),()),(v56 && v70),(!v56))
def uK7 (y:vD) (x:wQ8):Prop:=(uQ7 y x).1
def tC8 (y:vD) (x:wQ8):Bool:=(uQ7 y x).2.1
def vM8 (y:vD) (x:wQ8):wQ8:=(uQ7 y x).2.2.1
def tP7 (y:vD) (x:wQ8):Bool:=(uQ7 y x).2.2.2.1
def sT8 (y:vD) (x:wQ8):Bool:=(uQ7 y x).2.2.2.2
instance (y:vD) (x:wQ8):Decidable (uK7 y x):=by
 unfold uK7 uQ7
 try dsimp only
 infer_instance
def tP8 (y:vD) (x:wQ8):Int :=
 (10:Int)
def sT9:List (Nat × Sh):=[(1,(.box T28 (.val T28))),(4,(.box T74 (.val T74))),(9,(.val (.sl T74))),(10,vI),(11,vI)]
def tP9:St → Option Out:=xO8 [(1,(.box T28 (.val T28))),(4,(.box T74 (.val T74))),(9,(.val (.sl T74))),(10,vI),(11,vI),(53,(.val (.sl T74))),(54,vI)] [(55,vI)] tC8 vM8 uK7 fun y x=>[ex 1 (some (tP7 y x)) [(2,vI)] ((tP8 y x),()),ex 4 (some (sT8 y x)) sT9 (y.1,y.2.1,y.2.2.1,y.2.2.2.1,y.2.2.2.2.1,())]
abbrev vD0:Type:=(D28 × (List D74) × Int × Unit)
abbrev wQ9:Type:=(Int × Unit)
def uQ8 (y:vD0) (x:wQ9):Prop × Bool × wQ9 × Bool × Bool :=
 let a1:=y.1
 let a9:=y.2.1
 let a10:=y.2.2.1
 let a11:=x.1
 let v12:=(decide (a11 < a10))
 let v14:=(nth a9 a11 Z74)
 let v19:=(!(f57 v14.2.1))
 let v44:=(bif (bif (bif (bif (decide (v14.1 < 1)) then true else (decide (v14.1 ≥ a1.2.2.2.2.1))) then true else (decide (v14.2.2.1 < 0))) then true else (decide (v14.2.2.1 > 2))) then true else (decide (v14.2.2.2.1 < 1)))
 let v49:=(bif v44 then true else (decide (v14.2.2.2.1 > 1073741824)))
 let v53:=(List.take (Int.toNat a11) a1.2.2.2.2.2.2.2.1)
 let y9:=(a1,v14,a9,a10,a11,v53,(len v53),())
 let x9:=((0:Int),())
 let e9:=(zB9 (tC8 y9) (vM8 y9) x9)
 let q9_4:=(sT8 y9 e9)
 let v76:=((f58 v14.2.2.2.2.1) != 0)
 let c_8:=((!v19) && ((!v49) && (q9_4 && (!v76))))
 ((v12 = true → (InB a11 (len a9) ∧ ((sT7 v14.2.1) ∧ (((!v19) = true → ((!v49) = true → ((0 ≤ a11 ∧ a11 ≤ len a1.2.2.2.2.2.2.2.1) ∧ ((Am.Ends (tC8 y9) (vM8 y9) (uK7 y9) x9) ∧ (q9_4 = true → (tW1 v14.2.2.2.2.1)))))) ∧ (c_8 = true → InR (a11 + 1)))))),(v12 && c_8),((a11 + 1),()),(v12 && (v19 || ((!v19) && (v49 || ((!v49) && ((tP7 y9 e9) || (q9_4 && v76))))))),(!v12))
def uK8 (y:vD0) (x:wQ9):Prop:=(uQ8 y x).1
def sG6 (y:vD0) (x:wQ9):Bool:=(uQ8 y x).2.1
def uC (y:vD0) (x:wQ9):wQ9:=(uQ8 y x).2.2.1
def sU (y:vD0) (x:wQ9):Bool:=(uQ8 y x).2.2.2.1
def qL (y:vD0) (x:wQ9):Bool:=(uQ8 y x).2.2.2.2
instance (y:vD0) (x:wQ9):Decidable (uK8 y x):=by
 unfold uK8 uQ8
 try dsimp only
 infer_instance
def tQ (y:vD0) (x:wQ9):Int :=
 let a1:=y.1
 let a9:=y.2.1
 let a11:=x.1
 let v14:=(nth a9 a11 Z74)
 let v44:=(bif (bif (bif (bif (decide (v14.1 < 1)) then true else (decide (v14.1 ≥ a1.2.2.2.2.1))) then true else (decide (v14.2.2.1 < 0))) then true else (decide (v14.2.2.1 > 2))) then true else (decide (v14.2.2.2.1 < 1)))
 let v53:=(List.take (Int.toNat a11) a1.2.2.2.2.2.2.2.1)
 let y9:=(a1,v14,a9,y.2.2.1,a11,v53,(len v53),())
 let e9:=(zB9 (tC8 y9) (vM8 y9) ((0:Int),()))
 let m2_2:=(bif (!(f57 v14.2.1)) then (13:Int) else (bif (bif v44 then true else (decide (v14.2.2.2.1 > 1073741824))) then (2:Int) else (bif (tP7 y9 e9) then (tP8 y9 e9) else (f58 v14.2.2.2.2.1))))
 m2_2
def tQ0:St → Option Out:=xO8 [(1,(.box T28 (.val T28))),(9,(.val (.sl T74))),(10,vI)] [(11,vI)] sG6 uC uK8 fun y x=>[ex 1 (some (sU y x)) [(2,vI)] ((tQ y x),()),ex 2 (some (qL y x)) [] ()]
def f35t (p0:D28):Prop × Int :=
 let y2:=(p0,p0.2.2.2.2.2.2.2.1,(len p0.2.2.2.2.2.2.2.1),())
 let x2:=((0:Int),())
 let e2:=(zB9 (sG6 y2) (uC y2) x2)
 ((Am.Ends (sG6 y2) (uC y2) (uK8 y2) x2),(bif (sU y2 e2) then (tQ y2 e2) else (0:Int)))
def sU0 (p0:D28):Prop:=(f35t p0).1
def f35 (p0:D28):Int:=(f35t p0).2
instance (p0:D28):Decidable (sU0 p0):=by
 unfold sU0 f35t
 try dsimp only
 infer_instance
def rP1:Am.Spec:=fnSpec [(0,(.val T28))] vI [] (fun x=>sU0 x.1) (fun x=>f35 x.1) (fun _=>())
def rD5:Ctx:=Cx tys [(57,rP0),(58,sD7)] [(9,tP9),(2,tQ0)] [] false 79 [] []
theorem rD6:CtxOk Tryz.prog rD5:=xV6 tys_ok rfl ⟨nC2,pS5,trivial⟩ rfl (by kernel_rfl)
noncomputable def pH:Code:=Tryz.f35.body.getD .skip
noncomputable def qL0:Code:=xW5 pH 0
noncomputable def pS9:Code:=xW5 qL0 0
theorem qL1:yU1 Tryz.prog rD5 pS9:=xX3 rD6 mixed (sp:=tP9) rfl [[(2,vI)],sT9] (bs:=[]) (by kernel_rfl) trivial (by kernel_rfl) (by kernel_rfl) fun y x=>by kernel_rfl
theorem qL2:yU1 Tryz.prog rD5 qL0:=xX3 rD6 mixed (sp:=tQ0) rfl [[(2,vI)],[]] (bs:=[pS9]) (by kernel_rfl) ⟨qL1,trivial⟩ (by kernel_rfl) (by kernel_rfl) fun y x=>by kernel_rfl
theorem nC3:SpecOk Tryz.prog 35 rP1:=xX4 rD6 mixed Tryz.func35 (by kernel_rfl) (bs:=[qL0]) (by kernel_rfl) ⟨qL2,trivial⟩ fun x=>by kernel_rfl
def rD7 (p0:D57) (p1:Int):Prop × Bool :=
 (True,(p0.1 == p1))
def uK9 (p0:D57) (p1:Int):Prop:=(rD7 p0 p1).1
def pT (p0:D57) (p1:Int):Bool:=(rD7 p0 p1).2
instance (p0:D57) (p1:Int):Decidable (uK9 p0 p1):=by
 unfold uK9 rD7
 try dsimp only
 infer_instance
def tQ1:Am.Spec:=fnSpec [(0,(.val T57)),(1,(.val (.ptr (.int .i64))))] vB [] (fun x=>uK9 x.1 x.2.1) (fun x=>pT x.1 x.2.1) (fun _=>())
def rZ4:Ctx:=Cx tys [] [] [] false 8 [] []
theorem rZ5:CtxOk Tryz.prog rZ4:=xV6 tys_ok rfl trivial rfl (by kernel_rfl)
theorem qL3:SpecOk Tryz.prog 88 tQ1:=xX4 rZ5 mixed Tryz.func88 (by kernel_rfl) (bs:=[]) (by kernel_rfl) trivial fun x=>by kernel_rfl
abbrev wH6:Type:=((List D57) × (Int × Unit) × Int × Unit)
abbrev wC4:Type:=(Int × Unit)
def wY0 (y:wH6) (x:wC4):Prop × Bool × wC4 × Bool × Bool :=
 let a0:=y.1
 let a1:=y.2.1
 let a8:=x.1
 let v9:=(decide (a8 < y.2.2.1))
 let v14:=(nth a0 a8 Z57)
 let v16:=(pT v14 a1.1)
 ((v9 = true → (InB a8 (len a0) ∧ ((uK9 v14 a1.1) ∧ ((!v16) = true → InR (a8 + 1))))),(v9 && (!v16)),((a8 + 1),()),(v9 && v16),(!v9))
def wN (y:wH6) (x:wC4):Prop:=(wY0 y x).1
def wB3 (y:wH6) (x:wC4):Bool:=(wY0 y x).2.1
def xY8 (y:wH6) (x:wC4):wC4:=(wY0 y x).2.2.1
def wU5 (y:wH6) (x:wC4):Bool:=(wY0 y x).2.2.2.1
def sU1 (y:wH6) (x:wC4):Bool:=(wY0 y x).2.2.2.2
instance (y:wH6) (x:wC4):Decidable (wN y x):=by
 unfold wN wY0
 try dsimp only
 infer_instance
def wR (y:wH6) (x:wC4):Int :=
 x.1
def vZ0:St → Option Out:=xO8 [(0,(.val (.sl T57))),(1,(.fn 88 (.cons (.val (.ptr (.int .i64))) .nl))),(7,vI)] [(8,vI)] wB3 xY8 wN fun y x=>[ex 1 (some (wU5 y x)) [(4,vI)] ((wR y x),()),ex 2 (some (sU1 y x)) [] ()]
def rD8 (p0:(List D57)) (p1:(Int × Unit)):Prop × Int :=
 let y2:=(p0,(p1.1,()),(len p0),())
 let x2:=((0:Int),())
 let e2:=(zB9 (wB3 y2) (xY8 y2) x2)
 ((Am.Ends (wB3 y2) (xY8 y2) (wN y2) x2),(bif (wU5 y2 e2) then (wR y2 e2) else (-1:Int)))
def uL (p0:(List D57)) (p1:(Int × Unit)):Prop:=(rD8 p0 p1).1
def pT0 (p0:(List D57)) (p1:(Int × Unit)):Int:=(rD8 p0 p1).2
instance (p0:(List D57)) (p1:(Int × Unit)):Decidable (uL p0 p1):=by
 unfold uL rD8
 try dsimp only
 infer_instance
def tQ2:Am.Spec:=fnSpec [(0,(.val (.sl T57))),(1,(.fn 88 (.cons (.val (.ptr (.int .i64))) .nl)))] vI [] (fun x=>uL x.1 x.2.1) (fun x=>pT0 x.1 x.2.1) (fun _=>())
def tZ4:Ctx:=Cx tys [(88,tQ1)] [(2,vZ0)] [] false 19 [] []
theorem tZ5:CtxOk Tryz.prog tZ4:=xV6 tys_ok rfl ⟨qL3,trivial⟩ rfl (by kernel_rfl)
noncomputable def rD9:Code:=Tryz.f87.body.getD .skip
noncomputable def sU2:Code:=xW5 rD9 0
theorem sU3:yU1 Tryz.prog tZ4 sU2:=xX3 tZ5 mixed (sp:=vZ0) rfl [[(4,vI)],[]] (bs:=[]) (by kernel_rfl) trivial (by kernel_rfl) (by kernel_rfl) fun y x=>by kernel_rfl
theorem qL4:SpecOk Tryz.prog 87 tQ2:=xX4 tZ5 mixed Tryz.func87 (by kernel_rfl) (bs:=[sU2]) (by kernel_rfl) ⟨sU3,trivial⟩ fun x=>by kernel_rfl
def f61t (p0:D28) (p1:Int):Prop × Int :=
 let s:=(p1,())
 ((uL p0.2.2.2.1 s),(pT0 p0.2.2.2.1 s))
def tZ6 (p0:D28) (p1:Int):Prop:=(f61t p0 p1).1
def f61 (p0:D28) (p1:Int):Int:=(f61t p0 p1).2
instance (p0:D28) (p1:Int):Decidable (tZ6 p0 p1):=by
 unfold tZ6 f61t
 try dsimp only
 infer_instance
def sG7:Am.Spec:=fnSpec [(0,(.val T28)),(1,vI)] vI [] (fun x=>tZ6 x.1 x.2.1) (fun x=>f61 x.1 x.2.1) (fun _=>())
def oN7:Ctx:=Cx tys [(87,tQ2)] [] [(2,[(3,3,0,0)])] false 9 [] []
theorem oN8:CtxOk Tryz.prog oN7:=xV6 tys_ok rfl ⟨qL4,trivial⟩ rfl (by kernel_rfl)
theorem pT1:SpecOk Tryz.prog 61 sG7:=xX4 oN8 mixed Tryz.func61 (by kernel_rfl) (bs:=[]) (by kernel_rfl) trivial fun x=>by kernel_rfl
def rE (p0:D74) (p1:D57):Prop × Bool :=
 (True,(p0.1 == p1.2.2.2.2.2.2.2.2.2.2.2.2.2.2.2.2.2.2.2.2.2.2.2.2.2.2.1))
def uL0 (p0:D74) (p1:D57):Prop:=(rE p0 p1).1
def pT2 (p0:D74) (p1:D57):Bool:=(rE p0 p1).2
instance (p0:D74) (p1:D57):Decidable (uL0 p0 p1):=by
 unfold uL0 rE
 try dsimp only
 infer_instance
def tQ3:Am.Spec:=fnSpec [(0,(.val T74)),(1,(.val (.ptr T57)))] vB [] (fun x=>uL0 x.1 x.2.1) (fun x=>pT2 x.1 x.2.1) (fun _=>())
def rZ6:Ctx:=Cx tys [] [] [] false 9 [] []
theorem rZ7:CtxOk Tryz.prog rZ6:=xV6 tys_ok rfl trivial rfl (by kernel_rfl)
theorem qL5:SpecOk Tryz.prog 60 tQ3:=xX4 rZ7 mixed Tryz.func60 (by kernel_rfl) (bs:=[]) (by kernel_rfl) trivial fun x=>by kernel_rfl
abbrev wH7:Type:=((List D74) × (D57 × Unit) × Int × Unit)
abbrev wC5:Type:=(Int × Unit)
def wY1 (y:wH7) (x:wC5):Prop × Bool × wC5 × Bool × Bool :=
 let a0:=y.1
 let a1:=y.2.1
 let a8:=x.1
 let v9:=(decide (a8 < y.2.2.1))
 let v14:=(nth a0 a8 Z74)
 let v16:=(pT2 v14 a1.1)
 ((v9 = true → (InB a8 (len a0) ∧ ((uL0 v14 a1.1) ∧ ((!v16) = true → InR (a8 + 1))))),(v9 && (!v16)),((a8 + 1),()),(v9 && v16),(!v9))
def vD1 (y:wH7) (x:wC5):Prop:=(wY1 y x).1
def uC0 (y:wH7) (x:wC5):Bool:=(wY1 y x).2.1
def vF2 (y:wH7) (x:wC5):wC5:=(wY1 y x).2.2.1
def uZ4 (y:wH7) (x:wC5):Bool:=(wY1 y x).2.2.2.1
def sU4 (y:wH7) (x:wC5):Bool:=(wY1 y x).2.2.2.2
instance (y:wH7) (x:wC5):Decidable (vD1 y x):=by
 unfold vD1 wY1
 try dsimp only
 infer_instance
def vZ1 (y:wH7) (x:wC5):Int :=
 x.1
def vZ2:St → Option Out:=xO8 [(0,(.val (.sl T74))),(1,(.fn 60 (.cons (.val (.ptr T57)) .nl))),(7,vI)] [(8,vI)] uC0 vF2 vD1 fun y x=>[ex 1 (some (uZ4 y x)) [(4,vI)] ((vZ1 y x),()),ex 2 (some (sU4 y x)) [] ()]
def rE0 (p0:(List D74)) (p1:(D57 × Unit)):Prop × Int :=
 let y2:=(p0,(p1.1,()),(len p0),())
 let x2:=((0:Int),())
 let e2:=(zB9 (uC0 y2) (vF2 y2) x2)
 ((Am.Ends (uC0 y2) (vF2 y2) (vD1 y2) x2),(bif (uZ4 y2 e2) then (vZ1 y2 e2) else (-1:Int)))
def vS0 (p0:(List D74)) (p1:(D57 × Unit)):Prop:=(rE0 p0 p1).1
def pT3 (p0:(List D74)) (p1:(D57 × Unit)):Int:=(rE0 p0 p1).2
instance (p0:(List D74)) (p1:(D57 × Unit)):Decidable (vS0 p0 p1):=by
 unfold vS0 rE0
 try dsimp only
 infer_instance
def tQ4:Am.Spec:=fnSpec [(0,(.val (.sl T74))),(1,(.fn 60 (.cons (.val (.ptr T57)) .nl)))] vI [] (fun x=>vS0 x.1 x.2.1) (fun x=>pT3 x.1 x.2.1) (fun _=>())
def tZ7:Ctx:=Cx tys [(60,tQ3)] [(2,vZ2)] [] false 19 [] []
theorem tZ8:CtxOk Tryz.prog tZ7:=xV6 tys_ok rfl ⟨qL5,trivial⟩ rfl (by kernel_rfl)
noncomputable def rE1:Code:=Tryz.f86.body.getD .skip
noncomputable def sU5:Code:=xW5 rE1 0
theorem sU6:yU1 Tryz.prog tZ7 sU5:=xX3 tZ8 mixed (sp:=vZ2) rfl [[(4,vI)],[]] (bs:=[]) (by kernel_rfl) trivial (by kernel_rfl) (by kernel_rfl) fun y x=>by kernel_rfl
theorem qL6:SpecOk Tryz.prog 86 tQ4:=xX4 tZ8 mixed Tryz.func86 (by kernel_rfl) (bs:=[sU5]) (by kernel_rfl) ⟨sU6,trivial⟩ fun x=>by kernel_rfl
def rE2 (p0:(List D74)) (p1:(D57 × Unit)):Prop × Bool :=
 let s:=(p1.1,())
 ((vS0 p0 s),(decide ((pT3 p0 s) ≥ 0)))
def vS1 (p0:(List D74)) (p1:(D57 × Unit)):Prop:=(rE2 p0 p1).1
def pT4 (p0:(List D74)) (p1:(D57 × Unit)):Bool:=(rE2 p0 p1).2
instance (p0:(List D74)) (p1:(D57 × Unit)):Decidable (vS1 p0 p1):=by
 unfold vS1 rE2
 try dsimp only
 infer_instance
def tQ5:Am.Spec:=fnSpec [(0,(.val (.sl T74))),(1,(.fn 60 (.cons (.val (.ptr T57)) .nl)))] vB [] (fun x=>vS1 x.1 x.2.1) (fun x=>pT4 x.1 x.2.1) (fun _=>())
def rZ8:Ctx:=Cx tys [(86,tQ4)] [] [] false 9 [] []
theorem rZ9:CtxOk Tryz.prog rZ8:=xV6 tys_ok rfl ⟨qL6,trivial⟩ rfl (by kernel_rfl)
theorem qL7:SpecOk Tryz.prog 59 tQ5:=xX4 rZ9 mixed Tryz.func59 (by kernel_rfl) (bs:=[]) (by kernel_rfl) trivial fun x=>by kernel_rfl
abbrev vD2:Type:=(D28 × (List D57) × Int × Unit)
abbrev wR0:Type:=(Int × Unit)
def uQ9 (y:vD2) (x:wR0):Prop × Bool × wR0 × Bool × Bool :=
 let a1:=y.1
 let a7:=y.2.1
 let a9:=x.1
 let v10:=(decide (a9 < y.2.2.1))
 let v11:=(nth a7 a9 Z57)
 let v16:=(v11.2.1 == 9)
 let s:=(v11,())
 let v21:=(!(pT4 a1.2.2.2.2.2.2.2.1 s))
 let v23:=(v11.2.1 == 10)
 let v27:=(f61 a1 v11.2.2.2.2.2.2.2.2.2.2.2.2.2.2.2.2.2.2.2.2.2.2.2.2.2.2.1)
 let v29:=(decide (v27 < 0))
 let v33:=(nth a1.2.2.2.1 v27 Z57)
 let v35:=(f56 v33)
 let c_6:=(bif v16 then (!v21) else (bif v23 then ((!v29) && (!v35)) else true))
 ((v10 = true → (InB a9 (len a7) ∧ ((v16 = true → (vS1 a1.2.2.2.2.2.2.2.1 s)) ∧ ((v16 = false → (v23 = true → ((tZ6 a1 v11.2.2.2.2.2.2.2.2.2.2.2.2.2.2.2.2.2.2.2.2.2.2.2.2.2.2.1) ∧ ((!v29) = true → (InB v27 (len a1.2.2.2.1) ∧ (tG1 v33)))))) ∧ (c_6 = true → InR (a9 + 1)))))),(v10 && c_6),((a9 + 1),()),(v10 && (bif v16 then v21 else ((v29 || ((!v29) && v35)) && v23))),(!v10))
def uL1 (y:vD2) (x:wR0):Prop:=(uQ9 y x).1
def sG8 (y:vD2) (x:wR0):Bool:=(uQ9 y x).2.1
def uC1 (y:vD2) (x:wR0):wR0:=(uQ9 y x).2.2.1
def sU7 (y:vD2) (x:wR0):Bool:=(uQ9 y x).2.2.2.1
def qL8 (y:vD2) (x:wR0):Bool:=(uQ9 y x).2.2.2.2
instance (y:vD2) (x:wR0):Decidable (uL1 y x):=by
 unfold uL1 uQ9
 try dsimp only
 infer_instance
def tQ6 (y:vD2) (x:wR0):Int :=
 let v11:=(nth y.2.1 x.1 Z57)
 (bif (v11.2.1 == 9) then (9:Int) else (bif (decide ((f61 y.1 v11.2.2.2.2.2.2.2.2.2.2.2.2.2.2.2.2.2.2.2.2.2.2.2.2.2.2.1) < 0)) then (9:Int) else (8:Int)))
def tQ7:St → Option Out:=xO8 [(1,(.box T28 (.val T28))),(7,(.val (.sl T57))),(8,vI)] [(9,vI)] sG8 uC1 uL1 fun y x=>[ex 1 (some (sU7 y x)) [(2,vI)] ((tQ6 y x),()),ex 2 (some (qL8 y x)) [] ()]
def f36t (p0:D28):Prop × Int :=
 let y2:=(p0,p0.2.2.2.1,(len p0.2.2.2.1),())
 let x2:=((0:Int),())
 let e2:=(zB9 (sG8 y2) (uC1 y2) x2)
 ((Am.Ends (sG8 y2) (uC1 y2) (uL1 y2) x2),(bif (sU7 y2 e2) then (tQ6 y2 e2) else (0:Int)))
def sU8 (p0:D28):Prop:=(f36t p0).1
def f36 (p0:D28):Int:=(f36t p0).2
instance (p0:D28):Decidable (sU8 p0):=by
 unfold sU8 f36t
 try dsimp only
 infer_instance
def rP2:Am.Spec:=fnSpec [(0,(.val T28))] vI [] (fun x=>sU8 x.1) (fun x=>f36 x.1) (fun _=>())
def qL9:Ctx:=Cx tys [(56,tB2),(59,tQ5),(61,sG7)] [(2,tQ7)] [(12,[(3,4,0,0)])] false 37 [] []
theorem qM:CtxOk Tryz.prog qL9:=xV6 tys_ok rfl ⟨qE7,qL7,pT1,trivial⟩ rfl (by kernel_rfl)
noncomputable def pH0:Code:=Tryz.f36.body.getD .skip
noncomputable def pT5:Code:=xW5 pH0 0
theorem qM0:yU1 Tryz.prog qL9 pT5:=xX3 qM mixed (sp:=tQ7) rfl [[(2,vI)],[]] (bs:=[]) (by kernel_rfl) trivial (by kernel_rfl) (by kernel_rfl) fun y x=>by kernel_rfl
theorem nC4:SpecOk Tryz.prog 36 rP2:=xX4 qM mixed Tryz.func36 (by kernel_rfl) (bs:=[pT5]) (by kernel_rfl) ⟨qM0,trivial⟩ fun x=>by kernel_rfl
abbrev vX1:Type:=(Int × D28 × (List D57) × Int × Unit)
abbrev wW:Type:=((List Int) × Int × Unit)
def sG9 (y:vX1) (x:wW):Prop × Bool × wW :=
 let a1:=y.1
 let a2:=y.2.1
 let a18:=y.2.2.1
 let a5:=x.1
 let a20:=x.2.1
 let v21:=(decide (a20 < y.2.2.2.1))
 let v33:=((nth a18 a20 Z57).2.2.1 == (nth a2.2.2.2.1 a1 Z57).1)
 let v36:=([a20]:List Int)
 ((v21 = true → (InB a20 (len a18) ∧ (InB a1 (len a2.2.2.2.1) ∧ ((v33 = true → ((List.length a5 + List.length v36:Nat):Int) ≤ 4294967296) ∧ InR (a20 + 1))))),v21,((bif v33 then (a5 ++ v36) else a5),(a20 + 1),()))
def vJ5 (y:vX1) (x:wW):Prop:=(sG9 y x).1
def vX2 (y:vX1) (x:wW):Bool:=(sG9 y x).2.1
def wP4 (y:vX1) (x:wW):wW:=(sG9 y x).2.2
instance (y:vX1) (x:wW):Decidable (vJ5 y x):=by
 unfold vJ5 sG9
 try dsimp only
 infer_instance
def uC2 (y:vX1) (x:wW):(List Int) :=
 x.1
def sU9:List (Nat × Sh):=[(5,(.own (.int .i64) 1005 false))]
def tQ8:St → Option Out:=xO8 [(1,vI),(2,(.box T28 (.val T28))),(18,(.val (.sl T57))),(19,vI)] [(5,(.own (.int .i64) 1005 false)),(20,vI)] vX2 wP4 vJ5 fun y x=>[ex 3 none sU9 ((uC2 y x),())]
def f63t (p0:D28) (p1:Int):Prop × (List Int) :=
 let v12:=(nth p0.2.2.2.1 p1 Z57)
 let v16:=(v12.2.1 == 1)
 let y5:=(p1,p0,p0.2.2.2.1,(len p0.2.2.2.1),())
 let x5:=(([]:List Int),(0:Int),())
 let v40:=(v12.2.1 == 10)
 let v45:=(nth p0.2.2.2.1 p1 Z57)
 let v48:=(f61 p0 v45.2.2.2.2.2.2.2.2.2.2.2.2.2.2.2.2.2.2.2.2.2.2.2.2.2.2.1)
 let v50:=(decide (v48 ≥ 0))
 let v53:=([v48]:List Int)
 ((InB p1 (len p0.2.2.2.1) ∧ ((v16 = true → (Am.Ends (vX2 y5) (wP4 y5) (vJ5 y5) x5)) ∧ (v16 = false → (v40 = true → (InB p1 (len p0.2.2.2.1) ∧ ((tZ6 p0 v45.2.2.2.2.2.2.2.2.2.2.2.2.2.2.2.2.2.2.2.2.2.2.2.2.2.2.1) ∧ (v50 = true → (List.length v53:Int) ≤ 4294967296))))))),(bif v16 then (uC2 y5 (zB9 (vX2 y5) (wP4 y5) x5)) else (bif v40 then (bif v50 then v53 else []) else [])))
def sV (p0:D28) (p1:Int):Prop:=(f63t p0 p1).1
def f63 (p0:D28) (p1:Int):(List Int):=(f63t p0 p1).2
instance (p0:D28) (p1:Int):Decidable (sV p0 p1):=by
 unfold sV f63t
 try dsimp only
 infer_instance
def rP3:Am.Spec:=fnSpec [(0,(.val T28)),(1,vI)] (.own (.int .i64) 0 false) [] (fun x=>sV x.1 x.2.1) (fun x=>f63 x.1 x.2.1) (fun _=>())
def qM1:Ctx:=Cx tys [(61,sG7)] [(5,tQ8)] [(17,[(4,0,37,1005)]),(27,[(4,0,54,1005)]),(29,[(4,0,1005,0)])] false 56 [] []
theorem qM2:CtxOk Tryz.prog qM1:=xV6 tys_ok rfl ⟨pT1,trivial⟩ rfl (by kernel_rfl)
noncomputable def pH1:Code:=Tryz.f63.body.getD .skip
noncomputable def pT6:Code:=xW5 pH1 0
theorem qM3:yU1 Tryz.prog qM1 pT6:=xX3 qM2 mixed (sp:=tQ8) rfl [sU9] (bs:=[]) (by kernel_rfl) trivial (by kernel_rfl) (by kernel_rfl) fun y x=>by kernel_rfl
theorem nC5:SpecOk Tryz.prog 63 rP3:=xX4 qM2 mixed Tryz.func63 (by kernel_rfl) (bs:=[pT6]) (by kernel_rfl) ⟨qM3,trivial⟩ fun x=>by kernel_rfl
abbrev xY9:Type:=Int → (List Bool) → (List Bool) → D28 → Unit → Prop × Bool × ((List Bool) × (List Bool) × D28 × Unit)
def vJ6 (r:xY9):Am.Spec:=fnSpec [(0,vI),(1,(.box (.sl .bool) (.own .bool 400100 true))),(2,(.box (.sl .bool) (.own .bool 400200 true))),(3,(.box T28 (.val T28))),(4,(.fptr 62 [some (1,(.sl .bool)),some (2,(.sl .bool)),some (3,T28),none]))] vB [(1,(.box (.sl .bool) (.own .bool 400100 true))),(2,(.box (.sl .bool) (.own .bool 400200 true))),(3,(.box T28 (.val T28)))] (fun x=>(r x.1 x.2.1 x.2.2.1 x.2.2.2.1 x.2.2.2.2.1).1) (fun x=>(r x.1 x.2.1 x.2.2.1 x.2.2.2.1 x.2.2.2.2.1).2.1) (fun x=>(r x.1 x.2.1 x.2.2.1 x.2.2.2.1 x.2.2.2.2.1).2.2)
abbrev xZ5:Type:=(Int × Unit × (List Int) × Int × Unit)
abbrev xY4:Type:=((List Bool) × (List Bool) × D28 × Int × Unit)
def wY2 (r:xY9) (y:xZ5) (x:xY4):Prop × Bool × xY4 × Bool × Bool :=
 let a29:=y.2.2.1
 let a1:=x.1
 let a2:=x.2.1
 let a3:=x.2.2.1
 let a31:=x.2.2.2.1
 let v32:=(decide (a31 < y.2.2.2.1))
 let v33:=(nth a29 a31 (0:Int))
 let v37:=(r v33 a1 a2 a3 ()).2.1
 let v37o:=(r v33 a1 a2 a3 ()).2.2
 ((v32 = true → (InB a31 (len a29) ∧ ((r v33 a1 a2 a3 ()).1 ∧ ((!v37) = true → InR (a31 + 1))))),(v32 && (!v37)),(v37o.1,v37o.2.1,v37o.2.2.1,(a31 + 1),()),(v32 && v37),(!v32))
def wH8 (r:xY9) (y:xZ5) (x:xY4):Prop:=((wY2 r) y x).1
def wC6 (r:xY9) (y:xZ5) (x:xY4):Bool:=((wY2 r) y x).2.1
def xZ3 (r:xY9) (y:xZ5) (x:xY4):xY4:=((wY2 r) y x).2.2.1
def vS2 (r:xY9) (y:xZ5) (x:xY4):Bool:=((wY2 r) y x).2.2.2.1
def uZ5 (r:xY9) (y:xZ5) (x:xY4):Bool:=((wY2 r) y x).2.2.2.2
instance (r:xY9) [∀ q0 q1 q2 q3 q4,Decidable (r q0 q1 q2 q3 q4).1] (y:xZ5) (x:xY4):Decidable ((wH8 r) y x):=by
 unfold wH8 wY2
 try dsimp only
 infer_instance
def vF3 (r:xY9) (y:xZ5) (x:xY4):(List Bool) :=
 ((r (nth y.2.2.1 x.2.2.2.1 (0:Int)) x.1 x.2.1 x.2.2.1 ()).2.2).1
def vF4 (r:xY9) (y:xZ5) (x:xY4):(List Bool) :=
 ((r (nth y.2.2.1 x.2.2.2.1 (0:Int)) x.1 x.2.1 x.2.2.1 ()).2.2).2.1
def vF5 (r:xY9) (y:xZ5) (x:xY4):D28 :=
 ((r (nth y.2.2.1 x.2.2.2.1 (0:Int)) x.1 x.2.1 x.2.2.1 ()).2.2).2.2.1
def vZ3 (r:xY9) (y:xZ5) (x:xY4):Bool :=
 true
def uZ6:List (Nat × Sh):=[(1,(.box (.sl .bool) (.own .bool 400100 true))),(2,(.box (.sl .bool) (.own .bool 400200 true))),(3,(.box T28 (.val T28))),(6,vB)]
def vF6 (r:xY9) (y:xZ5) (x:xY4):(List Bool) :=
 x.1
def vF7 (r:xY9) (y:xZ5) (x:xY4):(List Bool) :=
 x.2.1
def vF8 (r:xY9) (y:xZ5) (x:xY4):D28 :=
 x.2.2.1
def uZ7:List (Nat × Sh):=[(0,vI),(1,(.box (.sl .bool) (.own .bool 400100 true))),(2,(.box (.sl .bool) (.own .bool 400200 true))),(3,(.box T28 (.val T28)))]
def vZ4 (r:xY9):St → Option Out:=xO8 [(0,vI),(4,(.fptr 62 [some (1,(.sl .bool)),some (2,(.sl .bool)),some (3,T28),none])),(29,(.own (.int .i64) 29 false)),(30,vI)] [(1,(.box (.sl .bool) (.own .bool 400100 true))),(2,(.box (.sl .bool) (.own .bool 400200 true))),(3,(.box T28 (.val T28))),(31,vI)] (wC6 r) (xZ3 r) (wH8 r) fun y x=>[ex 1 (some ((vS2 r) y x)) uZ6 (((vF3 r) y x),((vF4 r) y x),((vF5 r) y x),((vZ3 r) y x),()),ex 2 (some ((uZ5 r) y x)) uZ7 (y.1,((vF6 r) y x),((vF7 r) y x),((vF8 r) y x),())]
def vS3 (r:xY9) (p0:Int) (p1:(List Bool)) (p2:(List Bool)) (p3:D28) (p4:Unit):Prop × Bool × ((List Bool) × (List Bool) × D28 × Unit) :=
 let v12:=(nth p1 p0 false)
 let v18:=(bif v12 then true else (nth p2 p0 false))
 let v29:=(f63 p3 p0)
 let y5:=(p0,(),v29,(len v29),())
 let x5:=(p1,(List.set p2 (Int.toNat p0) true),p3,(0:Int),())
 let e5:=(zB9 ((wC6 r) y5) ((xZ3 r) y5) x5)
 let q5_1:=((vS2 r) y5 e5)
 let r5_2_0:=((vF6 r) y5 e5)
 ((InB p0 (len p1) ∧ (p0 < len p1 ∧ (((!v12) = true → InB p0 (len p2)) ∧ (((!v12) = true → p0 < len p2) ∧ ((v18 = true → (InB p0 (len p1) ∧ p0 < len p1)) ∧ ((!v18) = true → (InB p0 (len p2) ∧ (p0 < len p2 ∧ ((sV p3 p0) ∧ ((Am.Ends ((wC6 r) y5) ((xZ3 r) y5) ((wH8 r) y5) x5) ∧ (((uZ5 r) y5 e5) = true → (InB p0 (len r5_2_0) ∧ p0 < len r5_2_0)))))))))))),(bif v18 then (!(nth p1 p0 false)) else (bif q5_1 then ((vZ3 r) y5 e5) else false)),((bif v18 then p1 else (bif q5_1 then ((vF3 r) y5 e5) else (List.set r5_2_0 (Int.toNat p0) true))),(bif v18 then p2 else (bif q5_1 then ((vF4 r) y5 e5) else ((vF7 r) y5 e5))),(bif v18 then p3 else (bif q5_1 then ((vF5 r) y5 e5) else ((vF8 r) y5 e5))),()))
def tZ9 (r:xY9):Ctx:={ Cx tys [(62,vJ6 r),(63,rP3)] [(5,(vZ4 r))] [] false 42 [1,2,3] [] with wants:=[(62,[])],fts:=fts }
theorem sA (r:xY9) (hr:SpecOk Tryz.prog 62 (vJ6 r)):CtxOk Tryz.prog (tZ9 r):=xV6 tys_ok (by kernel_rfl) ⟨hr,nC5,trivial⟩ rfl (by kernel_rfl)
noncomputable def rE3:Code:=Tryz.f62.body.getD .skip
noncomputable def sV0:Code:=xW5 rE3 0
theorem sV1 (r:xY9) (hr:SpecOk Tryz.prog 62 (vJ6 r)):yU1 Tryz.prog (tZ9 r) sV0:=xX3 (sA r hr) mixed (sp:=(vZ4 r)) rfl [uZ6,uZ7] (bs:=[]) (by kernel_rfl) trivial (by kernel_rfl) (by kernel_rfl) fun y x=>by kernel_rfl
instance (r:xY9) [∀ q0 q1 q2 q3 q4,Decidable (r q0 q1 q2 q3 q4).1] (p0:Int) (p1:(List Bool)) (p2:(List Bool)) (p3:D28) (p4:Unit):Decidable (vS3 r p0 p1 p2 p3 p4).1:=by
 unfold vS3
 try dsimp only
 infer_instance
theorem rE4 (r:xY9) (hr:SpecOk Tryz.prog 62 (vJ6 r)):SpecOk Tryz.prog 62 (vJ6 (vS3 r)):=xX4 (sA r hr) mixed Tryz.func62 (by kernel_rfl) (bs:=[sV0]) (by kernel_rfl) ⟨sV1 r hr,trivial⟩ fun x=>by kernel_rfl
def wI8:Nat → xY9
 | 0=>fun _ _ _ _ _=>(False,false,(([]:List Bool),([]:List Bool),Z28,()))
 | k + 1=>vS3 (wI8 k)
theorem sA0:∀ k,SpecOk Tryz.prog 62 (vJ6 (wI8 k))
 | 0=>xS9 Tryz.func62 (by kernel_rfl) (by decide)
 | k + 1=>rE4 _ (sA0 k)
def tC9 (p0:Int) (p1:(List Bool)) (p2:(List Bool)) (p3:D28) (p4:Unit):Nat:=(List.length p1 + 1)
def uL2 (p0:Int) (p1:(List Bool)) (p2:(List Bool)) (p3:D28) (p4:Unit):Prop:=(wI8 (tC9 p0 p1 p2 p3 p4) p0 p1 p2 p3 p4).1
def pT7 (p0:Int) (p1:(List Bool)) (p2:(List Bool)) (p3:D28) (p4:Unit):Bool:=(wI8 (tC9 p0 p1 p2 p3 p4) p0 p1 p2 p3 p4).2.1
def sH (p0:Int) (p1:(List Bool)) (p2:(List Bool)) (p3:D28) (p4:Unit):((List Bool) × (List Bool) × D28 × Unit):=(wI8 (tC9 p0 p1 p2 p3 p4) p0 p1 p2 p3 p4).2.2
def sA1:∀ (k:Nat) (p0:Int) (p1:(List Bool)) (p2:(List Bool)) (p3:D28) (p4:Unit),Decidable (wI8 k p0 p1 p2 p3 p4).1
 | 0,_,_,_,_,_=>isFalse id
 | k + 1,p0,p1,p2,p3,p4=>by
  have:∀ (q0:Int) (q1:(List Bool)) (q2:(List Bool)) (q3:D28) (q4:Unit),Decidable (wI8 k q0 q1 q2 q3 q4).1:=sA1 k
  exact inferInstanceAs (Decidable (vS3 (wI8 k) p0 p1 p2 p3 p4).1)
instance (p0:Int) (p1:(List Bool)) (p2:(List Bool)) (p3:D28) (p4:Unit):Decidable (uL2 p0 p1 p2 p3 p4):=sA1 _ p0 p1 p2 p3 p4
def tQ9:Am.Spec:=fnSpec [(0,vI),(1,(.box (.sl .bool) (.own .bool 400100 true))),(2,(.box (.sl .bool) (.own .bool 400200 true))),(3,(.box T28 (.val T28))),(4,(.fptr 62 [some (1,(.sl .bool)),some (2,(.sl .bool)),some (3,T28),none]))] vB [(1,(.box (.sl .bool) (.own .bool 400100 true))),(2,(.box (.sl .bool) (.own .bool 400200 true))),(3,(.box T28 (.val T28)))] (fun x=>uL2 x.1 x.2.1 x.2.2.1 x.2.2.2.1 x.2.2.2.2.1) (fun x=>pT7 x.1 x.2.1 x.2.2.1 x.2.2.2.1 x.2.2.2.2.1) (fun x=>sH x.1 x.2.1 x.2.2.1 x.2.2.2.1 x.2.2.2.2.1)
theorem qM4:SpecOk Tryz.prog 62 tQ9:=xU3 (ps:=[(0,vI),(1,(.box (.sl .bool) (.own .bool 400100 true))),(2,(.box (.sl .bool) (.own .bool 400200 true))),(3,(.box T28 (.val T28))),(4,(.fptr 62 [some (1,(.sl .bool)),some (2,(.sl .bool)),some (3,T28),none]))]) (rs:=vB) (os:=[(1,(.box (.sl .bool) (.own .bool 400100 true))),(2,(.box (.sl .bool) (.own .bool 400200 true))),(3,(.box T28 (.val T28)))]) (R:=fun k x=>wI8 k x.1 x.2.1 x.2.2.1 x.2.2.2.1 x.2.2.2.2.1) sA0 fun x=>tC9 x.1 x.2.1 x.2.2.1 x.2.2.2.1 x.2.2.2.2.1
abbrev vD3:Type:=(Unit × Int × Unit)
abbrev wL2:Type:=(D28 × (List Bool) × (List Bool) × Int × Unit)
def uR (y:vD3) (x:wL2):Prop × Bool × wL2 × Bool × Bool :=
 let a1:=x.1
 let a3:=x.2.1
 let a4:=x.2.2.1
 let a19:=x.2.2.2.1
 let v20:=(decide (a19 < y.2.1))
 let v24:=(pT7 a19 a4 a3 a1 ())
 let v24o:=(sH a19 a4 a3 a1 ())
 ((v20 = true → ((uL2 a19 a4 a3 a1 ()) ∧ ((!v24) = true → InR (a19 + 1)))),(v20 && (!v24)),(v24o.2.2.1,v24o.2.1,v24o.1,(a19 + 1),()),(v20 && v24),(!v20))
def vS4 (y:vD3) (x:wL2):Prop:=(uR y x).1
def tD (y:vD3) (x:wL2):Bool:=(uR y x).2.1
def vM9 (y:vD3) (x:wL2):wL2:=(uR y x).2.2.1
def sV2 (y:vD3) (x:wL2):Bool:=(uR y x).2.2.2.1
def qM5 (y:vD3) (x:wL2):Bool:=(uR y x).2.2.2.2
instance (y:vD3) (x:wL2):Decidable (vS4 y x):=by
 unfold vS4 uR
 try dsimp only
 infer_instance
def tR (y:vD3) (x:wL2):Bool :=
 true
def tR0:St → Option Out:=xO8 [(5,(.fptr 62 [some (4,(.sl .bool)),some (3,(.sl .bool)),some (1,T28),none])),(18,vI)] [(1,(.box T28 (.val T28))),(3,(.box (.sl .bool) (.own .bool 400300 true))),(4,(.box (.sl .bool) (.own .bool 400400 true))),(19,vI)] tD vM9 vS4 fun y x=>[ex 1 (some (sV2 y x)) [(2,vB)] ((tR y x),()),ex 2 (some (qM5 y x)) [] ()]
def f37t (p0:D28):Prop × Bool :=
 let v9:=(len p0.2.2.2.1)
 let v13:=(len p0.2.2.2.1)
 let y6:=((),(len p0.2.2.2.1),())
 let x6:=(p0,(List.replicate (Int.toNat v9) false),(List.replicate (Int.toNat v13) false),(0:Int),())
 let e6:=(zB9 (tD y6) (vM9 y6) x6)
 (((0 ≤ v9 ∧ v9 ≤ v9 ∧ v9 ≤ 4294967296) ∧ ((0 ≤ v13 ∧ v13 ≤ v13 ∧ v13 ≤ 4294967296) ∧ (Am.Ends (tD y6) (vM9 y6) (vS4 y6) x6))),(bif (sV2 y6 e6) then (tR y6 e6) else false))
def sV3 (p0:D28):Prop:=(f37t p0).1
def f37 (p0:D28):Bool:=(f37t p0).2
instance (p0:D28):Decidable (sV3 p0):=by
 unfold sV3 f37t
 try dsimp only
 infer_instance
def rP4:Am.Spec:=fnSpec [(0,(.val T28))] vB [] (fun x=>sV3 x.1) (fun x=>f37 x.1) (fun _=>())
def qM6:Ctx:={ Cx tys [(62,tQ9)] [(6,tR0)] [(3,[(4,0,10,400300)]),(5,[(4,0,14,400400)])] false 26 [] [10,14] with wants:=[(62,[])],fts:=fts }
theorem qM7:CtxOk Tryz.prog qM6:=xV6 tys_ok (by kernel_rfl) ⟨qM4,trivial⟩ rfl (by kernel_rfl)
noncomputable def pH2:Code:=Tryz.f37.body.getD .skip
noncomputable def pT8:Code:=xW5 pH2 0
theorem qM8:yU1 Tryz.prog qM6 pT8:=xX3 qM7 mixed (sp:=tR0) rfl [[(2,vB)],[]] (bs:=[]) (by kernel_rfl) trivial (by kernel_rfl) (by kernel_rfl) fun y x=>by kernel_rfl
theorem nC6:SpecOk Tryz.prog 37 rP4:=xX4 qM7 mixed Tryz.func37 (by kernel_rfl) (bs:=[pT8]) (by kernel_rfl) ⟨qM8,trivial⟩ fun x=>by kernel_rfl
abbrev wU6:Type:=((List UInt8) × Int × Int × Unit)
abbrev wK6:Type:=(Int × Unit)
def vX3 (y:wU6) (x:wK6):Prop × Bool × wK6 × Bool × Bool :=
 let a0:=y.1
 let a19:=x.1
 let v20:=(decide (a19 < y.2.2.1))
 let v26:=(decide ((xW8 a0 a19) < y.2.1))
 let v32:=(bif v26 then true else (decide ((xW8 a0 a19) > 126)))
 ((v20 = true → (InB a19 (len a0) ∧ (((!v26) = true → InB a19 (len a0)) ∧ ((!v32) = true → InR (a19 + 1))))),(v20 && (!v32)),((a19 + 1),()),(v20 && v32),(!v20))
def vX4 (y:wU6) (x:wK6):Prop:=(vX3 y x).1
def tR1 (y:wU6) (x:wK6):Bool:=(vX3 y x).2.1
def vS5 (y:wU6) (x:wK6):wK6:=(vX3 y x).2.2.1
def sA2 (y:wU6) (x:wK6):Bool:=(vX3 y x).2.2.2.1
def qA (y:wU6) (x:wK6):Bool:=(vX3 y x).2.2.2.2
instance (y:wU6) (x:wK6):Decidable (vX4 y x):=by
 unfold vX4 vX3
 try dsimp only
 infer_instance
def uZ8 (y:wU6) (x:wK6):Bool :=
 false
def uZ9:St → Option Out:=xO8 [(0,vS),(2,(.val (.int .u8))),(18,vI)] [(19,vI)] tR1 vS5 vX4 fun y x=>[ex 1 (some (sA2 y x)) [(6,vB)] ((uZ8 y x),()),ex 2 (some (qA y x)) [] ()]
def oN9 (p0:(List UInt8)) (p1:Int) (p2:Int):Prop × Bool :=
 let v16:=(bif (decide ((len p0) < 1)) then true else (decide ((len p0) > p1)))
 let y4:=(p0,p2,(len p0),())
 let x4:=((0:Int),())
 let e4:=(zB9 (tR1 y4) (vS5 y4) x4)
 (((!v16) = true → (Am.Ends (tR1 y4) (vS5 y4) (vX4 y4) x4)),(bif v16 then false else (bif (sA2 y4 e4) then (uZ8 y4 e4) else true)))
def uR0 (p0:(List UInt8)) (p1:Int) (p2:Int):Prop:=(oN9 p0 p1 p2).1
def f107 (p0:(List UInt8)) (p1:Int) (p2:Int):Bool:=(oN9 p0 p1 p2).2
instance (p0:(List UInt8)) (p1:Int) (p2:Int):Decidable (uR0 p0 p1 p2):=by
 unfold uR0 oN9
 try dsimp only
 infer_instance
def tR2:Am.Spec:=fnSpec [(0,vS),(1,vI),(2,(.val (.int .u8)))] vB [] (fun x=>uR0 x.1 x.2.1 x.2.2.1) (fun x=>f107 x.1 x.2.1 x.2.2.1) (fun _=>())
def rP5:Ctx:=Cx tys [] [(4,uZ9)] [] false 34 [] []
theorem rP6:CtxOk Tryz.prog rP5:=xV6 tys_ok rfl trivial rfl (by kernel_rfl)
noncomputable def qM9:Code:=Tryz.f107.body.getD .skip
noncomputable def qN:Code:=xW5 qM9 0
theorem qA0:yU1 Tryz.prog rP5 qN:=xX3 rP6 mixed (sp:=uZ9) rfl [[(6,vB)],[]] (bs:=[]) (by kernel_rfl) trivial (by kernel_rfl) (by kernel_rfl) fun y x=>by kernel_rfl
theorem qN0:SpecOk Tryz.prog 107 tR2:=xX4 rP6 mixed Tryz.func107 (by kernel_rfl) (bs:=[qN]) (by kernel_rfl) ⟨qA0,trivial⟩ fun x=>by kernel_rfl
def f89t (p0:(List UInt8)):Prop × Bool :=
 ((uR0 p0 (32:Int) (33:Int)),(f107 p0 (32:Int) (33:Int)))
def rP7 (p0:(List UInt8)):Prop:=(f89t p0).1
def f89 (p0:(List UInt8)):Bool:=(f89t p0).2
instance (p0:(List UInt8)):Decidable (rP7 p0):=by
 unfold rP7 f89t
 try dsimp only
 infer_instance
def rP8:Am.Spec:=fnSpec [(0,vS)] vB [] (fun x=>rP7 x.1) (fun x=>f89 x.1) (fun _=>())
def oO:Ctx:=Cx tys [(107,tR2)] [] [] false 5 [] []
theorem oO0:CtxOk Tryz.prog oO:=xV6 tys_ok rfl ⟨qN0,trivial⟩ rfl (by kernel_rfl)
theorem nC7:SpecOk Tryz.prog 89 rP8:=xX4 oO0 mixed Tryz.func89 (by kernel_rfl) (bs:=[]) (by kernel_rfl) trivial fun x=>by kernel_rfl
def f90t (p0:(List UInt8)):Prop × Bool :=
 ((uR0 p0 (256:Int) (32:Int)),(f107 p0 (256:Int) (32:Int)))
def rP9 (p0:(List UInt8)):Prop:=(f90t p0).1
def f90 (p0:(List UInt8)):Bool:=(f90t p0).2
instance (p0:(List UInt8)):Decidable (rP9 p0):=by
 unfold rP9 f90t
 try dsimp only
 infer_instance
def rQ:Am.Spec:=fnSpec [(0,vS)] vB [] (fun x=>rP9 x.1) (fun x=>f90 x.1) (fun _=>())
def oO1:Ctx:=Cx tys [(107,tR2)] [] [] false 5 [] []
theorem oO2:CtxOk Tryz.prog oO1:=xV6 tys_ok rfl ⟨qN0,trivial⟩ rfl (by kernel_rfl)
theorem nC8:SpecOk Tryz.prog 90 rQ:=xX4 oO2 mixed Tryz.func90 (by kernel_rfl) (bs:=[]) (by kernel_rfl) trivial fun x=>by kernel_rfl
def f65t (p0:(List D66)) (p1:D66):Prop × Int :=
 let v8:=(!(f89 p1.1))
 let v12:=(!(f90 p1.2.1))
 let v15:=(decide ((len p0) > 0))
 let v21:=(len p0)
 let v22:=(v21 - 1)
 let v23:=(nth p0 v22 Z66)
 (((rP7 p1.1) ∧ ((!v8) = true → ((rP9 p1.2.1) ∧ ((!v12) = true → ((v15 = true → InR (v21 - 1)) ∧ (v15 = true → InB v22 (len p0))))))),(bif v8 then (13:Int) else (bif v12 then (4:Int) else (bif (bif v15 then (Op.bytesLess p1.1 v23.1 || p1.1 == v23.1) else false) then (24:Int) else (0:Int)))))
def sV4 (p0:(List D66)) (p1:D66):Prop:=(f65t p0 p1).1
def f65 (p0:(List D66)) (p1:D66):Int:=(f65t p0 p1).2
instance (p0:(List D66)) (p1:D66):Decidable (sV4 p0 p1):=by
 unfold sV4 f65t
 try dsimp only
 infer_instance
def rQ0:Am.Spec:=fnSpec [(0,(.val (.sl T66))),(1,(.val T66))] vI [] (fun x=>sV4 x.1 x.2.1) (fun x=>f65 x.1 x.2.1) (fun _=>())
def oO3:Ctx:=Cx tys [(89,rP8),(90,rQ)] [] [] false 28 [] []
theorem oO4:CtxOk Tryz.prog oO3:=xV6 tys_ok rfl ⟨nC7,nC8,trivial⟩ rfl (by kernel_rfl)
theorem nC9:SpecOk Tryz.prog 65 rQ0:=xX4 oO4 mixed Tryz.func65 (by kernel_rfl) (bs:=[]) (by kernel_rfl) trivial fun x=>by kernel_rfl
abbrev vD4:Type:=((List D66) × (List D66) × Int × Unit)
abbrev wR1:Type:=(Int × Unit)
def uR1 (y:vD4) (x:wR1):Prop × Bool × wR1 × Bool × Bool :=
 let a0:=y.1
 let a9:=y.2.1
 let a11:=x.1
 let v12:=(decide (a11 < y.2.2.1))
 let v14:=(nth a9 a11 Z66)
 let v18:=(List.take (Int.toNat a11) a0)
 let v22:=((f65 v18 v14) != 0)
 ((v12 = true → (InB a11 (len a9) ∧ ((0 ≤ a11 ∧ a11 ≤ len a0) ∧ ((sV4 v18 v14) ∧ ((!v22) = true → InR (a11 + 1)))))),(v12 && (!v22)),((a11 + 1),()),(v12 && v22),(!v12))
def uL3 (y:vD4) (x:wR1):Prop:=(uR1 y x).1
def sH0 (y:vD4) (x:wR1):Bool:=(uR1 y x).2.1
def uC3 (y:vD4) (x:wR1):wR1:=(uR1 y x).2.2.1
def sV5 (y:vD4) (x:wR1):Bool:=(uR1 y x).2.2.2.1
def qN1 (y:vD4) (x:wR1):Bool:=(uR1 y x).2.2.2.2
instance (y:vD4) (x:wR1):Decidable (uL3 y x):=by
 unfold uL3 uR1
 try dsimp only
 infer_instance
def tR3 (y:vD4) (x:wR1):Int :=
 let a11:=x.1
 (f65 (List.take (Int.toNat a11) y.1) (nth y.2.1 a11 Z66))
def tR4:St → Option Out:=xO8 [(0,(.val (.sl T66))),(9,(.val (.sl T66))),(10,vI)] [(11,vI)] sH0 uC3 uL3 fun y x=>[ex 1 (some (sV5 y x)) [(2,vI)] ((tR3 y x),()),ex 2 (some (qN1 y x)) [] ()]
def f39t (p0:(List D66)):Prop × Int :=
 let v8:=(decide ((len p0) > 16))
 let y4:=(p0,p0,(len p0),())
 let x4:=((0:Int),())
 let e4:=(zB9 (sH0 y4) (uC3 y4) x4)
 (((!v8) = true → (Am.Ends (sH0 y4) (uC3 y4) (uL3 y4) x4)),(bif v8 then (3:Int) else (bif (sV5 y4 e4) then (tR3 y4 e4) else (0:Int))))
def sV6 (p0:(List D66)):Prop:=(f39t p0).1
def f39 (p0:(List D66)):Int:=(f39t p0).2
instance (p0:(List D66)):Decidable (sV6 p0):=by
 unfold sV6 f39t
 try dsimp only
 infer_instance
def rQ1:Am.Spec:=fnSpec [(0,(.val (.sl T66)))] vI [] (fun x=>sV6 x.1) (fun x=>f39 x.1) (fun _=>())
def qN2:Ctx:=Cx tys [(65,rQ0)] [(4,tR4)] [] false 25 [] []
theorem qN3:CtxOk Tryz.prog qN2:=xV6 tys_ok rfl ⟨nC9,trivial⟩ rfl (by kernel_rfl)
noncomputable def pH3:Code:=Tryz.f39.body.getD .skip
noncomputable def pT9:Code:=xW5 pH3 0
theorem qN4:yU1 Tryz.prog qN2 pT9:=xX3 qN3 mixed (sp:=tR4) rfl [[(2,vI)],[]] (bs:=[]) (by kernel_rfl) trivial (by kernel_rfl) (by kernel_rfl) fun y x=>by kernel_rfl
theorem nD:SpecOk Tryz.prog 39 rQ1:=xX4 qN3 mixed Tryz.func39 (by kernel_rfl) (bs:=[pT9]) (by kernel_rfl) ⟨qN4,trivial⟩ fun x=>by kernel_rfl
def f13t (p0:D28):Prop × Int :=
 let v10:=(f32 p0)
 let v12:=(v10 != 0)
 let v23:=(bif (decide ((len p0.2.2.2.1) > 64)) then true else (decide ((len p0.2.2.2.2.2.2.2.1) > 8)))
 let v31:=(bif (decide (p0.2.2.2.2.1 < 1)) then true else (decide (p0.2.2.2.2.1 > 1073741824)))
 let v33:=(f33 p0)
 let v35:=(v33 != 0)
 let v38:=(f34 p0)
 let v40:=(v38 != 0)
 let v43:=(f35 p0)
 let v45:=(v43 != 0)
 let v48:=(f36 p0)
 let v50:=(v48 != 0)
 let v53:=(f37 p0)
 let v56:=(f38 p0.2.2.2.2.2.1)
 let v58:=(v56 != 0)
 let v79:=(bif (p0.2.2.2.2.2.1.1 != 0) then (bif (p0.2.2.2.2.2.1.1 != p0.1) then true else (p0.2.2.2.2.2.1.2.1 != p0.2.1)) else false)
 let m2_6:=(bif v35 then v33 else (bif v40 then v38 else (bif v45 then v43 else (bif v50 then v48 else (bif v53 then (11:Int) else (bif v58 then v56 else (bif v79 then (15:Int) else (f39 p0.2.2.2.2.2.2.1))))))))
 (((tV6 p0) ∧ ((!v12) = true → ((!v23) = true → ((!v31) = true → ((sT2 p0) ∧ ((!v35) = true → ((sT5 p0) ∧ ((!v40) = true → ((sU0 p0) ∧ ((!v45) = true → ((sU8 p0) ∧ ((!v50) = true → ((sV3 p0) ∧ ((!v53) = true → ((tV7 p0.2.2.2.2.2.1) ∧ ((!v58) = true → ((!v79) = true → (sV6 p0.2.2.2.2.2.2.1)))))))))))))))))),(bif v12 then v10 else (bif v23 then (3:Int) else (bif v31 then (2:Int) else m2_6))))
def tA (p0:D28):Prop:=(f13t p0).1
def f13 (p0:D28):Int:=(f13t p0).2
instance (p0:D28):Decidable (tA p0):=by
 unfold tA f13t
 try dsimp only
 infer_instance
def sH1:Am.Spec:=fnSpec [(0,(.val T28))] vI [] (fun x=>tA x.1) (fun x=>f13 x.1) (fun _=>())
def oO5:Ctx:=Cx tys [(32,rK0),(33,rO9),(34,rP),(35,rP1),(36,rP2),(37,rP4),(38,sD0),(39,rQ1)] [] [] false 83 [] []
theorem oO6:CtxOk Tryz.prog oO5:=xV6 tys_ok rfl ⟨nA7,nC0,nC1,nC3,nC4,nC6,pR9,nD,trivial⟩ rfl (by kernel_rfl)
theorem pU:SpecOk Tryz.prog 13 sH1:=xX4 oO6 mixed Tryz.func13 (by kernel_rfl) (bs:=[]) (by kernel_rfl) trivial fun x=>by kernel_rfl
def f14t (p0:D28):Prop × D50 :=
 (True,(p0.1,p0.2.1,p0.2.2.1,p0.2.2.2.2.1,()))
def sA3 (p0:D28):Prop:=(f14t p0).1
def f14 (p0:D28):D50:=(f14t p0).2
instance (p0:D28):Decidable (sA3 p0):=by
 unfold sA3 f14t
 try dsimp only
 infer_instance
def sH2:Am.Spec:=fnSpec [(0,(.val T28))] (.val T50) [] (fun x=>sA3 x.1) (fun x=>f14 x.1) (fun _=>())
def oO7:Ctx:=Cx tys [] [] [] false 12 [] []
theorem oO8:CtxOk Tryz.prog oO7:=xV6 tys_ok rfl trivial rfl (by kernel_rfl)
theorem pU0:SpecOk Tryz.prog 14 sH2:=xX4 oO8 mixed Tryz.func14 (by kernel_rfl) (bs:=[]) (by kernel_rfl) trivial fun x=>by kernel_rfl
def oO9 (p0:Unit):Prop × (List Int) :=
 (((!true) = true → ((List.length ([]:List Int) + List.length ([]:List Int):Nat):Int) ≤ 4294967296),(bif true then [] else (([]:List Int) ++ ([]:List Int))))
def rE5 (p0:Unit):Prop:=(oO9 p0).1
def f41a (p0:Unit):(List Int):=(oO9 p0).2
instance (p0:Unit):Decidable (rE5 p0):=by
 unfold rE5 oO9
 try dsimp only
 infer_instance
def qN5:Am.Spec:=fnSpec [(0,(.nn true))] (.own (.int .i64) 0 false) [] (fun x=>rE5 x.1) (fun x=>f41a x.1) (fun _=>())
def pH4:Ctx:=Cx tys [] [] [(7,[(4,0,7,0)])] false 8 [] []
theorem pH5:CtxOk Tryz.prog pH4:=xV6 tys_ok rfl trivial rfl (by kernel_rfl)
theorem oP:SpecOk Tryz.prog 41 qN5:=xX4 pH5 mixed Tryz.func41 (by kernel_rfl) (bs:=[]) (by kernel_rfl) trivial fun x=>by kernel_rfl
def oP0 (p0:Unit):Prop × (List Int) :=
 (((!false) = true → ((List.length ([]:List Int) + List.length ([]:List Int):Nat):Int) ≤ 4294967296),(bif false then [] else (([]:List Int) ++ ([]:List Int))))
def rE6 (p0:Unit):Prop:=(oP0 p0).1
def f41b (p0:Unit):(List Int):=(oP0 p0).2
instance (p0:Unit):Decidable (rE6 p0):=by
 unfold rE6 oP0
 try dsimp only
 infer_instance
def qN6:Am.Spec:=fnSpec [(0,(.nn false))] (.own (.int .i64) 0 false) [] (fun x=>rE6 x.1) (fun x=>f41b x.1) (fun _=>())
def pH6:Ctx:=Cx tys [] [] [(7,[(4,0,7,0)])] false 8 [] []
theorem pH7:CtxOk Tryz.prog pH6:=xV6 tys_ok rfl trivial rfl (by kernel_rfl)
theorem oP1:SpecOk Tryz.prog 41 qN6:=xX4 pH7 mixed Tryz.func41 (by kernel_rfl) (bs:=[]) (by kernel_rfl) trivial fun x=>by kernel_rfl
def oP2 (p0:(List Int)):Prop × (List Int) :=
 ((0 < List.length p0 ∧ ((!false) = true → ((List.length ([]:List Int) + List.length p0:Nat):Int) ≤ 4294967296)),(bif false then [] else (([]:List Int) ++ p0)))
def rE7 (p0:(List Int)):Prop:=(oP2 p0).1
def f41c (p0:(List Int)):(List Int):=(oP2 p0).2
instance (p0:(List Int)):Decidable (rE7 p0):=by
 unfold rE7 oP2
 try dsimp only
 infer_instance
def qN7:Am.Spec:=fnSpec [(0,(.val (.sl (.int .i64))))] (.own (.int .i64) 0 false) [] (fun x=>rE7 x.1) (fun x=>f41c x.1) (fun _=>())
def pH8:Ctx:=Cx tys [] [] [(7,[(4,0,7,0)])] false 8 [] []
theorem pH9:CtxOk Tryz.prog pH8:=xV6 tys_ok rfl trivial rfl (by kernel_rfl)
theorem oP3:SpecOk Tryz.prog 41 qN7:=xX4 pH9 mixed Tryz.func41 (by kernel_rfl) (bs:=[]) (by kernel_rfl) trivial fun x=>by kernel_rfl
def f41 (p0:(List Int)):(List Int):=p0
def tA0 (p0:(List Int)):Prop:=(List.length p0:Int) ≤ 4294967296
instance (p0:(List Int)):Decidable (tA0 p0):=by
  unfold tA0
  infer_instance
def nD0:List (Nat × Sh):=[(0,(.val (.sl (.int .i64))))]
def pU1:Sh:=(.own (.int .i64) 0 false)
def nD1:List (Nat × Sh):=[]
def sH3:Am.Spec:=fnSpec nD0 pU1 nD1 (fun x=>tA0 x.1) (fun x=>f41 x.1) (fun _=>())
theorem pU2:SpecOk Tryz.prog 41 sH3:=xU7 (rs:=pU1) (F:=f41) (ok:=tA0) oP oP1 oP3 (of_decide_eq_true (by kernel_rfl)) (of_decide_eq_true (by kernel_rfl)) (fun l h hp=>⟨hp,fun _=>by simpa [tA0] using h⟩) rfl rfl (fun _=>rfl)
def oP4 (p0:Unit):Prop × (List D50) :=
 (((!true) = true → ((List.length ([]:List D50) + List.length ([]:List D50):Nat):Int) ≤ 4294967296),(bif true then [] else (([]:List D50) ++ ([]:List D50))))
def rE8 (p0:Unit):Prop:=(oP4 p0).1
def f46a (p0:Unit):(List D50):=(oP4 p0).2
instance (p0:Unit):Decidable (rE8 p0):=by
 unfold rE8 oP4
 try dsimp only
 infer_instance
def qN8:Am.Spec:=fnSpec [(0,(.nn true))] (.own T50 0 false) [] (fun x=>rE8 x.1) (fun x=>f46a x.1) (fun _=>())
def pI:Ctx:=Cx tys [] [] [(7,[(4,0,7,0)])] false 8 [] []
theorem pI0:CtxOk Tryz.prog pI:=xV6 tys_ok rfl trivial rfl (by kernel_rfl)
theorem oP5:SpecOk Tryz.prog 46 qN8:=xX4 pI0 mixed Tryz.func46 (by kernel_rfl) (bs:=[]) (by kernel_rfl) trivial fun x=>by kernel_rfl
def oP6 (p0:Unit):Prop × (List D50) :=
 (((!false) = true → ((List.length ([]:List D50) + List.length ([]:List D50):Nat):Int) ≤ 4294967296),(bif false then [] else (([]:List D50) ++ ([]:List D50))))
def rE9 (p0:Unit):Prop:=(oP6 p0).1
def f46b (p0:Unit):(List D50):=(oP6 p0).2
instance (p0:Unit):Decidable (rE9 p0):=by
 unfold rE9 oP6
 try dsimp only
 infer_instance
def qN9:Am.Spec:=fnSpec [(0,(.nn false))] (.own T50 0 false) [] (fun x=>rE9 x.1) (fun x=>f46b x.1) (fun _=>())
def pI1:Ctx:=Cx tys [] [] [(7,[(4,0,7,0)])] false 8 [] []
theorem pI2:CtxOk Tryz.prog pI1:=xV6 tys_ok rfl trivial rfl (by kernel_rfl)
theorem oP7:SpecOk Tryz.prog 46 qN9:=xX4 pI2 mixed Tryz.func46 (by kernel_rfl) (bs:=[]) (by kernel_rfl) trivial fun x=>by kernel_rfl
def oP8 (p0:(List D50)):Prop × (List D50) :=
 ((0 < List.length p0 ∧ ((!false) = true → ((List.length ([]:List D50) + List.length p0:Nat):Int) ≤ 4294967296)),(bif false then [] else (([]:List D50) ++ p0)))
def rF (p0:(List D50)):Prop:=(oP8 p0).1
def f46c (p0:(List D50)):(List D50):=(oP8 p0).2
instance (p0:(List D50)):Decidable (rF p0):=by
 unfold rF oP8
 try dsimp only
 infer_instance
def qO:Am.Spec:=fnSpec [(0,(.val (.sl T50)))] (.own T50 0 false) [] (fun x=>rF x.1) (fun x=>f46c x.1) (fun _=>())
def pI3:Ctx:=Cx tys [] [] [(7,[(4,0,7,0)])] false 8 [] []
theorem pI4:CtxOk Tryz.prog pI3:=xV6 tys_ok rfl trivial rfl (by kernel_rfl)
theorem oP9:SpecOk Tryz.prog 46 qO:=xX4 pI4 mixed Tryz.func46 (by kernel_rfl) (bs:=[]) (by kernel_rfl) trivial fun x=>by kernel_rfl
def f46 (p0:(List D50)):(List D50):=p0
def tR5 (p0:(List D50)):Prop:=(List.length p0:Int) ≤ 4294967296
instance (p0:(List D50)):Decidable (tR5 p0):=by
  unfold tR5
  infer_instance
def nD2:List (Nat × Sh):=[(0,(.val (.sl T50)))]
def pU3:Sh:=(.own T50 0 false)
def nD3:List (Nat × Sh):=[]
def sH4:Am.Spec:=fnSpec nD2 pU3 nD3 (fun x=>tR5 x.1) (fun x=>f46 x.1) (fun _=>())
theorem pU4:SpecOk Tryz.prog 46 sH4:=xU7 (rs:=pU3) (F:=f46) (ok:=tR5) oP5 oP7 oP9 (of_decide_eq_true (by kernel_rfl)) (of_decide_eq_true (by kernel_rfl)) (fun l h hp=>⟨hp,fun _=>by simpa [tR5] using h⟩) rfl rfl (fun _=>rfl)
def oQ (p0:Unit):Prop × (List D91) :=
 (((!true) = true → ((List.length ([]:List D91) + List.length ([]:List D91):Nat):Int) ≤ 4294967296),(bif true then [] else (([]:List D91) ++ ([]:List D91))))
def rF0 (p0:Unit):Prop:=(oQ p0).1
def f66a (p0:Unit):(List D91):=(oQ p0).2
instance (p0:Unit):Decidable (rF0 p0):=by
 unfold rF0 oQ
 try dsimp only
 infer_instance
def qO0:Am.Spec:=fnSpec [(0,(.nn true))] (.own T91 0 false) [] (fun x=>rF0 x.1) (fun x=>f66a x.1) (fun _=>())
def pI5:Ctx:=Cx tys [] [] [(7,[(4,0,7,0)])] false 8 [] []
theorem pI6:CtxOk Tryz.prog pI5:=xV6 tys_ok rfl trivial rfl (by kernel_rfl)
theorem oQ0:SpecOk Tryz.prog 66 qO0:=xX4 pI6 mixed Tryz.func66 (by kernel_rfl) (bs:=[]) (by kernel_rfl) trivial fun x=>by kernel_rfl
def oQ1 (p0:Unit):Prop × (List D91) :=
 (((!false) = true → ((List.length ([]:List D91) + List.length ([]:List D91):Nat):Int) ≤ 4294967296),(bif false then [] else (([]:List D91) ++ ([]:List D91))))
def rF1 (p0:Unit):Prop:=(oQ1 p0).1
def f66b (p0:Unit):(List D91):=(oQ1 p0).2
instance (p0:Unit):Decidable (rF1 p0):=by
 unfold rF1 oQ1
 try dsimp only
 infer_instance
def qO1:Am.Spec:=fnSpec [(0,(.nn false))] (.own T91 0 false) [] (fun x=>rF1 x.1) (fun x=>f66b x.1) (fun _=>())
def pI7:Ctx:=Cx tys [] [] [(7,[(4,0,7,0)])] false 8 [] []
theorem pI8:CtxOk Tryz.prog pI7:=xV6 tys_ok rfl trivial rfl (by kernel_rfl)
theorem oQ2:SpecOk Tryz.prog 66 qO1:=xX4 pI8 mixed Tryz.func66 (by kernel_rfl) (bs:=[]) (by kernel_rfl) trivial fun x=>by kernel_rfl
def oQ3 (p0:(List D91)):Prop × (List D91) :=
 ((0 < List.length p0 ∧ ((!false) = true → ((List.length ([]:List D91) + List.length p0:Nat):Int) ≤ 4294967296)),(bif false then [] else (([]:List D91) ++ p0)))
def rF2 (p0:(List D91)):Prop:=(oQ3 p0).1
def f66c (p0:(List D91)):(List D91):=(oQ3 p0).2
instance (p0:(List D91)):Decidable (rF2 p0):=by
 unfold rF2 oQ3
 try dsimp only
 infer_instance
def qO2:Am.Spec:=fnSpec [(0,(.val (.sl T91)))] (.own T91 0 false) [] (fun x=>rF2 x.1) (fun x=>f66c x.1) (fun _=>())
def pI9:Ctx:=Cx tys [] [] [(7,[(4,0,7,0)])] false 8 [] []
theorem pJ:CtxOk Tryz.prog pI9:=xV6 tys_ok rfl trivial rfl (by kernel_rfl)
theorem oQ4:SpecOk Tryz.prog 66 qO2:=xX4 pJ mixed Tryz.func66 (by kernel_rfl) (bs:=[]) (by kernel_rfl) trivial fun x=>by kernel_rfl
def f66 (p0:(List D91)):(List D91):=p0
def sA4 (p0:(List D91)):Prop:=(List.length p0:Int) ≤ 4294967296
instance (p0:(List D91)):Decidable (sA4 p0):=by
  unfold sA4
  infer_instance
def nD4:List (Nat × Sh):=[(0,(.val (.sl T91)))]
def pU5:Sh:=(.own T91 0 false)
def nD5:List (Nat × Sh):=[]
def rQ2:Am.Spec:=fnSpec nD4 pU5 nD5 (fun x=>sA4 x.1) (fun x=>f66 x.1) (fun _=>())
theorem nD6:SpecOk Tryz.prog 66 rQ2:=xU7 (rs:=pU5) (F:=f66) (ok:=sA4) oQ0 oQ2 oQ4 (of_decide_eq_true (by kernel_rfl)) (of_decide_eq_true (by kernel_rfl)) (fun l h hp=>⟨hp,fun _=>by simpa [sA4] using h⟩) rfl rfl (fun _=>rfl)
def oQ5 (p0:Unit):Prop × (List D97) :=
 (((!true) = true → ((List.length ([]:List D97) + List.length ([]:List D97):Nat):Int) ≤ 4294967296),(bif true then [] else (([]:List D97) ++ ([]:List D97))))
def rF3 (p0:Unit):Prop:=(oQ5 p0).1
def f67a (p0:Unit):(List D97):=(oQ5 p0).2
instance (p0:Unit):Decidable (rF3 p0):=by
 unfold rF3 oQ5
 try dsimp only
 infer_instance
def qO3:Am.Spec:=fnSpec [(0,(.nn true))] (.own T97 0 false) [] (fun x=>rF3 x.1) (fun x=>f67a x.1) (fun _=>())
def pJ0:Ctx:=Cx tys [] [] [(7,[(4,0,7,0)])] false 8 [] []
theorem pJ1:CtxOk Tryz.prog pJ0:=xV6 tys_ok rfl trivial rfl (by kernel_rfl)
theorem oQ6:SpecOk Tryz.prog 67 qO3:=xX4 pJ1 mixed Tryz.func67 (by kernel_rfl) (bs:=[]) (by kernel_rfl) trivial fun x=>by kernel_rfl
def oQ7 (p0:Unit):Prop × (List D97) :=
 (((!false) = true → ((List.length ([]:List D97) + List.length ([]:List D97):Nat):Int) ≤ 4294967296),(bif false then [] else (([]:List D97) ++ ([]:List D97))))
def rF4 (p0:Unit):Prop:=(oQ7 p0).1
def f67b (p0:Unit):(List D97):=(oQ7 p0).2
instance (p0:Unit):Decidable (rF4 p0):=by
 unfold rF4 oQ7
 try dsimp only
 infer_instance
def qO4:Am.Spec:=fnSpec [(0,(.nn false))] (.own T97 0 false) [] (fun x=>rF4 x.1) (fun x=>f67b x.1) (fun _=>())
def pJ2:Ctx:=Cx tys [] [] [(7,[(4,0,7,0)])] false 8 [] []
theorem pJ3:CtxOk Tryz.prog pJ2:=xV6 tys_ok rfl trivial rfl (by kernel_rfl)
theorem oQ8:SpecOk Tryz.prog 67 qO4:=xX4 pJ3 mixed Tryz.func67 (by kernel_rfl) (bs:=[]) (by kernel_rfl) trivial fun x=>by kernel_rfl
def oQ9 (p0:(List D97)):Prop × (List D97) :=
 ((0 < List.length p0 ∧ ((!false) = true → ((List.length ([]:List D97) + List.length p0:Nat):Int) ≤ 4294967296)),(bif false then [] else (([]:List D97) ++ p0)))
def rF5 (p0:(List D97)):Prop:=(oQ9 p0).1
def f67c (p0:(List D97)):(List D97):=(oQ9 p0).2
instance (p0:(List D97)):Decidable (rF5 p0):=by
 unfold rF5 oQ9
 try dsimp only
 infer_instance
def qO5:Am.Spec:=fnSpec [(0,(.val (.sl T97)))] (.own T97 0 false) [] (fun x=>rF5 x.1) (fun x=>f67c x.1) (fun _=>())
def pJ4:Ctx:=Cx tys [] [] [(7,[(4,0,7,0)])] false 8 [] []
theorem pJ5:CtxOk Tryz.prog pJ4:=xV6 tys_ok rfl trivial rfl (by kernel_rfl)
theorem oR:SpecOk Tryz.prog 67 qO5:=xX4 pJ5 mixed Tryz.func67 (by kernel_rfl) (bs:=[]) (by kernel_rfl) trivial fun x=>by kernel_rfl
def f67 (p0:(List D97)):(List D97):=p0
def sA5 (p0:(List D97)):Prop:=(List.length p0:Int) ≤ 4294967296
instance (p0:(List D97)):Decidable (sA5 p0):=by
  unfold sA5
  infer_instance
def nD7:List (Nat × Sh):=[(0,(.val (.sl T97)))]
def pU6:Sh:=(.own T97 0 false)
def nD8:List (Nat × Sh):=[]
def rQ3:Am.Spec:=fnSpec nD7 pU6 nD8 (fun x=>sA5 x.1) (fun x=>f67 x.1) (fun _=>())
theorem nD9:SpecOk Tryz.prog 67 rQ3:=xU7 (rs:=pU6) (F:=f67) (ok:=sA5) oQ6 oQ8 oR (of_decide_eq_true (by kernel_rfl)) (of_decide_eq_true (by kernel_rfl)) (fun l h hp=>⟨hp,fun _=>by simpa [sA5] using h⟩) rfl rfl (fun _=>rfl)
def oR0 (p0:Unit):Prop × (List D94) :=
 (((!true) = true → ((List.length ([]:List D94) + List.length ([]:List D94):Nat):Int) ≤ 4294967296),(bif true then [] else (([]:List D94) ++ ([]:List D94))))
def rF6 (p0:Unit):Prop:=(oR0 p0).1
def f68a (p0:Unit):(List D94):=(oR0 p0).2
instance (p0:Unit):Decidable (rF6 p0):=by
 unfold rF6 oR0
 try dsimp only
 infer_instance
def qO6:Am.Spec:=fnSpec [(0,(.nn true))] (.own T94 0 false) [] (fun x=>rF6 x.1) (fun x=>f68a x.1) (fun _=>())
def pJ6:Ctx:=Cx tys [] [] [(7,[(4,0,7,0)])] false 8 [] []
theorem pJ7:CtxOk Tryz.prog pJ6:=xV6 tys_ok rfl trivial rfl (by kernel_rfl)
theorem oR1:SpecOk Tryz.prog 68 qO6:=xX4 pJ7 mixed Tryz.func68 (by kernel_rfl) (bs:=[]) (by kernel_rfl) trivial fun x=>by kernel_rfl
def oR2 (p0:Unit):Prop × (List D94) :=
 (((!false) = true → ((List.length ([]:List D94) + List.length ([]:List D94):Nat):Int) ≤ 4294967296),(bif false then [] else (([]:List D94) ++ ([]:List D94))))
def rF7 (p0:Unit):Prop:=(oR2 p0).1
def f68b (p0:Unit):(List D94):=(oR2 p0).2
instance (p0:Unit):Decidable (rF7 p0):=by
 unfold rF7 oR2
 try dsimp only
 infer_instance
def qO7:Am.Spec:=fnSpec [(0,(.nn false))] (.own T94 0 false) [] (fun x=>rF7 x.1) (fun x=>f68b x.1) (fun _=>())
def pJ8:Ctx:=Cx tys [] [] [(7,[(4,0,7,0)])] false 8 [] []
theorem pJ9:CtxOk Tryz.prog pJ8:=xV6 tys_ok rfl trivial rfl (by kernel_rfl)
theorem oR3:SpecOk Tryz.prog 68 qO7:=xX4 pJ9 mixed Tryz.func68 (by kernel_rfl) (bs:=[]) (by kernel_rfl) trivial fun x=>by kernel_rfl
def oR4 (p0:(List D94)):Prop × (List D94) :=
 ((0 < List.length p0 ∧ ((!false) = true → ((List.length ([]:List D94) + List.length p0:Nat):Int) ≤ 4294967296)),(bif false then [] else (([]:List D94) ++ p0)))
def rF8 (p0:(List D94)):Prop:=(oR4 p0).1
def f68c (p0:(List D94)):(List D94):=(oR4 p0).2
instance (p0:(List D94)):Decidable (rF8 p0):=by
 unfold rF8 oR4
 try dsimp only
 infer_instance
def qO8:Am.Spec:=fnSpec [(0,(.val (.sl T94)))] (.own T94 0 false) [] (fun x=>rF8 x.1) (fun x=>f68c x.1) (fun _=>())
def pK:Ctx:=Cx tys [] [] [(7,[(4,0,7,0)])] false 8 [] []
theorem pK0:CtxOk Tryz.prog pK:=xV6 tys_ok rfl trivial rfl (by kernel_rfl)
theorem oR5:SpecOk Tryz.prog 68 qO8:=xX4 pK0 mixed Tryz.func68 (by kernel_rfl) (bs:=[]) (by kernel_rfl) trivial fun x=>by kernel_rfl
def f68 (p0:(List D94)):(List D94):=p0
def sA6 (p0:(List D94)):Prop:=(List.length p0:Int) ≤ 4294967296
instance (p0:(List D94)):Decidable (sA6 p0):=by
  unfold sA6
  infer_instance
def nE:List (Nat × Sh):=[(0,(.val (.sl T94)))]
def pU7:Sh:=(.own T94 0 false)
def nE0:List (Nat × Sh):=[]
def rQ4:Am.Spec:=fnSpec nE pU7 nE0 (fun x=>sA6 x.1) (fun x=>f68 x.1) (fun _=>())
theorem nE1:SpecOk Tryz.prog 68 rQ4:=xU7 (rs:=pU7) (F:=f68) (ok:=sA6) oR1 oR3 oR5 (of_decide_eq_true (by kernel_rfl)) (of_decide_eq_true (by kernel_rfl)) (fun l h hp=>⟨hp,fun _=>by simpa [sA6] using h⟩) rfl rfl (fun _=>rfl)
def f40t (p0:D57) (p1:D57):Prop × (D57 × Int × Unit) :=
 let v10:=(p0.2.1 != p1.2.1)
 let s_20:=(p1.2.2.2.2.2.2.2.2.2.2.2.2.2.2.2.2.2.2.2.2.2.2.2.2.2.2.2.1.1,p1.2.2.2.2.2.2.2.2.2.2.2.2.2.2.2.2.2.2.2.2.2.2.2.2.2.2.2.1.2.1,p1.2.2.2.2.2.2.2.2.2.2.2.2.2.2.2.2.2.2.2.2.2.2.2.2.2.2.2.1.2.2.1,(f68 p1.2.2.2.2.2.2.2.2.2.2.2.2.2.2.2.2.2.2.2.2.2.2.2.2.2.2.2.1.2.2.2.1),())
 let s_21:=(p0.1,p0.2.1,p0.2.2.1,p0.2.2.2.1,p0.2.2.2.2.1,p0.2.2.2.2.2.1,p0.2.2.2.2.2.2.1,p0.2.2.2.2.2.2.2.1,p0.2.2.2.2.2.2.2.2.1,(p0.2.2.2.2.2.2.2.2.2.1.1,p0.2.2.2.2.2.2.2.2.2.1.2.1,(f41 p0.2.2.2.2.2.2.2.2.2.1.2.2.1),()),p0.2.2.2.2.2.2.2.2.2.2.1,p0.2.2.2.2.2.2.2.2.2.2.2.1,(p1.2.2.2.2.2.2.2.2.2.2.2.2.1.1,p1.2.2.2.2.2.2.2.2.2.2.2.2.1.2.1,(f46 p1.2.2.2.2.2.2.2.2.2.2.2.2.1.2.2.1),()),p1.2.2.2.2.2.2.2.2.2.2.2.2.2.1,p1.2.2.2.2.2.2.2.2.2.2.2.2.2.2.1,(f41 p1.2.2.2.2.2.2.2.2.2.2.2.2.2.2.2.1),p1.2.2.2.2.2.2.2.2.2.2.2.2.2.2.2.2.1,(f66 p1.2.2.2.2.2.2.2.2.2.2.2.2.2.2.2.2.2.1),(f67 p1.2.2.2.2.2.2.2.2.2.2.2.2.2.2.2.2.2.2.1),p1.2.2.2.2.2.2.2.2.2.2.2.2.2.2.2.2.2.2.2.1,p1.2.2.2.2.2.2.2.2.2.2.2.2.2.2.2.2.2.2.2.2.1,p1.2.2.2.2.2.2.2.2.2.2.2.2.2.2.2.2.2.2.2.2.2.1,p1.2.2.2.2.2.2.2.2.2.2.2.2.2.2.2.2.2.2.2.2.2.2.1,p1.2.2.2.2.2.2.2.2.2.2.2.2.2.2.2.2.2.2.2.2.2.2.2.1,p1.2.2.2.2.2.2.2.2.2.2.2.2.2.2.2.2.2.2.2.2.2.2.2.2.1,p1.2.2.2.2.2.2.2.2.2.2.2.2.2.2.2.2.2.2.2.2.2.2.2.2.2.1,p1.2.2.2.2.2.2.2.2.2.2.2.2.2.2.2.2.2.2.2.2.2.2.2.2.2.2.1,s_20,())
 let s_25:=((0:Int),(0:Int),(0:Int),([]:List UInt8),false,false,false,(0:Int),(0:Int),((0:Int),(0:Int),([]:List Int),()),Z45,(0:Int),((0:Int),(0:Int),([]:List D50),()),Z50,(0:Int),([]:List Int),(0:Int),([]:List D91),([]:List D97),(0:Int),(0:Int),(0:Int),(0:Int),([]:List UInt8),(0:Int),(0:Int),(0:Int),((0:Int),(0:Int),(0:Int),([]:List D94),()),())
 (((!v10) = true → ((tA0 p0.2.2.2.2.2.2.2.2.2.1.2.2.1) ∧ ((tR5 p1.2.2.2.2.2.2.2.2.2.2.2.2.1.2.2.1) ∧ ((tA0 p1.2.2.2.2.2.2.2.2.2.2.2.2.2.2.2.1) ∧ ((sA4 p1.2.2.2.2.2.2.2.2.2.2.2.2.2.2.2.2.2.1) ∧ ((sA5 p1.2.2.2.2.2.2.2.2.2.2.2.2.2.2.2.2.2.2.1) ∧ (sA6 p1.2.2.2.2.2.2.2.2.2.2.2.2.2.2.2.2.2.2.2.2.2.2.2.2.2.2.2.1.2.2.2.1))))))),((bif v10 then s_25 else s_21),(bif v10 then (8:Int) else (0:Int)),()))
def sV7 (p0:D57) (p1:D57):Prop:=(f40t p0 p1).1
def f40 (p0:D57) (p1:D57):(D57 × Int × Unit):=(f40t p0 p1).2
instance (p0:D57) (p1:D57):Decidable (sV7 p0 p1):=by
 unfold sV7 f40t
 try dsimp only
 infer_instance
def rQ5:Am.Spec:=fnSpec [(0,(.val T57)),(1,(.val T57))] (.tup (.cons (.val T57) (.cons vI .nl))) [] (fun x=>sV7 x.1 x.2.1) (fun x=>f40 x.1 x.2.1) (fun _=>())
def oR6:Ctx:=Cx tys [(41,sH3),(46,sH4),(66,rQ2),(67,rQ3),(68,rQ4)] [] [] false 82 [] []
theorem oR7:CtxOk Tryz.prog oR6:=xV6 tys_ok rfl ⟨pU2,pU4,nD6,nD9,nE1,trivial⟩ rfl (by kernel_rfl)
theorem nE2:SpecOk Tryz.prog 40 rQ5:=xX4 oR7 mixed Tryz.func40 (by kernel_rfl) (bs:=[]) (by kernel_rfl) trivial fun x=>by kernel_rfl
abbrev vX5:Type:=((List D57) × Int × Unit)
abbrev vD5:Type:=((List D57) × Int × Unit)
def sH5 (y:vX5) (x:vD5):Prop × Bool × vD5 :=
 let a9:=y.1
 let a3:=x.1
 let a11:=x.2.1
 let v12:=(decide (a11 < y.2.1))
 let v14:=(nth a9 a11 Z57)
 ((v12 = true → (InB a11 (len a9) ∧ ((sV7 v14 v14) ∧ (InB a11 (len a3) ∧ (a11 < len a3 ∧ InR (a11 + 1)))))),v12,((List.set a3 (Int.toNat a11) (f40 v14 v14).1),(a11 + 1),()))
def vS6 (y:vX5) (x:vD5):Prop:=(sH5 y x).1
def vX6 (y:vX5) (x:vD5):Bool:=(sH5 y x).2.1
def wL5 (y:vX5) (x:vD5):vD5:=(sH5 y x).2.2
instance (y:vX5) (x:vD5):Decidable (vS6 y x):=by
 unfold vS6 sH5
 try dsimp only
 infer_instance
def tR6 (y:vX5) (x:vD5):(List D57) :=
 x.1
def tR7:St → Option Out:=xO8 [(9,(.val (.sl T57))),(10,vI)] [(3,(.own T57 1003 true)),(11,vI)] vX6 wL5 vS6 fun y x=>[ex 2 none [(3,(.own T57 1003 true))] ((tR6 y x),())]
def f15t (p0:(List D57)):Prop × (List D57) :=
 let v7:=(len p0)
 let y3:=(p0,(len p0),())
 let x3:=((List.replicate (Int.toNat v7) Z57),(0:Int),())
 (((0 ≤ v7 ∧ v7 ≤ v7 ∧ v7 ≤ 4294967296) ∧ (Am.Ends (vX6 y3) (wL5 y3) (vS6 y3) x3)),(tR6 y3 (zB9 (vX6 y3) (wL5 y3) x3)))
def uL4 (p0:(List D57)):Prop:=(f15t p0).1
def f15 (p0:(List D57)):(List D57):=(f15t p0).2
instance (p0:(List D57)):Decidable (uL4 p0):=by
 unfold uL4 f15t
 try dsimp only
 infer_instance
def tD0:Am.Spec:=fnSpec [(0,(.val (.sl T57)))] (.val (.sl T57)) [] (fun x=>uL4 x.1) (fun x=>f15 x.1) (fun _=>())
def qO9:Ctx:=Cx tys [(40,rQ5)] [(3,tR7)] [(3,[(4,0,8,1003)]),(15,[(1,2,0,0),(4,0,1003,0)])] false 27 [] [8]
theorem qP:CtxOk Tryz.prog qO9:=xV6 tys_ok rfl ⟨nE2,trivial⟩ rfl (by kernel_rfl)
noncomputable def pK1:Code:=Tryz.f15.body.getD .skip
noncomputable def pU8:Code:=xW5 pK1 0
theorem qP0:yU1 Tryz.prog qO9 pU8:=xX3 qP mixed (sp:=tR7) rfl [[(3,(.own T57 1003 true))]] (bs:=[]) (by kernel_rfl) trivial (by kernel_rfl) (by kernel_rfl) fun y x=>by kernel_rfl
theorem qP1:SpecOk Tryz.prog 15 tD0:=xX4 qP mixed Tryz.func15 (by kernel_rfl) (bs:=[pU8]) (by kernel_rfl) ⟨qP0,trivial⟩ fun x=>by kernel_rfl
def f16t (p0:D24) (p1:D24):Prop × Bool :=
 let v16:=(bif (p0.1 == p1.1) then (p0.2.1 == p1.2.1) else false)
 ((v16 = true → (tF1 p0.2.2.1 p1.2.2.1)),(bif v16 then (f30 p0.2.2.1 p1.2.2.1) else false))
def uL5 (p0:D24) (p1:D24):Prop:=(f16t p0 p1).1
def f16 (p0:D24) (p1:D24):Bool:=(f16t p0 p1).2
instance (p0:D24) (p1:D24):Decidable (uL5 p0 p1):=by
 unfold uL5 f16t
 try dsimp only
 infer_instance
def uL6:Am.Spec:=fnSpec [(0,(.val T24)),(1,(.val T24))] vB [] (fun x=>uL5 x.1 x.2.1) (fun x=>f16 x.1 x.2.1) (fun _=>())
def oR8:Ctx:=Cx tys [(30,tB0)] [] [] false 24 [] []
theorem oR9:CtxOk Tryz.prog oR8:=xV6 tys_ok rfl ⟨qC7,trivial⟩ rfl (by kernel_rfl)
theorem rQ6:SpecOk Tryz.prog 16 uL6:=xX4 oR9 mixed Tryz.func16 (by kernel_rfl) (bs:=[]) (by kernel_rfl) trivial fun x=>by kernel_rfl
def f17t (p0:D24):Prop × D24 :=
 ((tA0 p0.2.2.1),(p0.1,p0.2.1,(f41 p0.2.2.1),()))
def uL7 (p0:D24):Prop:=(f17t p0).1
def f17 (p0:D24):D24:=(f17t p0).2
instance (p0:D24):Decidable (uL7 p0):=by
 unfold uL7 f17t
 try dsimp only
 infer_instance
def tD1:Am.Spec:=fnSpec [(0,(.val T24))] (.val T24) [] (fun x=>uL7 x.1) (fun x=>f17 x.1) (fun _=>())
def oS:Ctx:=Cx tys [(41,sH3)] [] [] false 8 [] []
theorem oS0:CtxOk Tryz.prog oS:=xV6 tys_ok rfl ⟨pU2,trivial⟩ rfl (by kernel_rfl)
theorem qP2:SpecOk Tryz.prog 17 tD1:=xX4 oS0 mixed Tryz.func17 (by kernel_rfl) (bs:=[]) (by kernel_rfl) trivial fun x=>by kernel_rfl
abbrev vD6:Type:=((List D66) × (List D66) × Int × Unit)
abbrev wR2:Type:=(Int × Unit)
def uR2 (y:vD6) (x:wR2):Prop × Bool × wR2 × Bool × Bool :=
 let a0:=y.1
 let a1:=y.2.1
 let a13:=x.1
 let v14:=(decide (a13 < y.2.2.1))
 let v24:=(!(Ty.eqb T66 (nth a0 a13 Z66) (nth a1 a13 Z66)))
 ((v14 = true → (InB a13 (len a0) ∧ (InB a13 (len a1) ∧ ((!v24) = true → InR (a13 + 1))))),(v14 && (!v24)),((a13 + 1),()),(v14 && v24),(!v14))
def uL8 (y:vD6) (x:wR2):Prop:=(uR2 y x).1
def uL9 (y:vD6) (x:wR2):Bool:=(uR2 y x).2.1
def vA2 (y:vD6) (x:wR2):wR2:=(uR2 y x).2.2.1
def sV8 (y:vD6) (x:wR2):Bool:=(uR2 y x).2.2.2.1
def qP3 (y:vD6) (x:wR2):Bool:=(uR2 y x).2.2.2.2
instance (y:vD6) (x:wR2):Decidable (uL8 y x):=by
 unfold uL8 uR2
 try dsimp only
 infer_instance
def tR8 (y:vD6) (x:wR2):Bool :=
 false
def tR9:St → Option Out:=xO8 [(0,(.val (.sl T66))),(1,(.val (.sl T66))),(12,vI)] [(13,vI)] uL9 vA2 uL8 fun y x=>[ex 1 (some (sV8 y x)) [(4,vB)] ((tR8 y x),()),ex 2 (some (qP3 y x)) [] ()]
def f18t (p0:(List D66)) (p1:(List D66)):Prop × Bool :=
 let v10:=((len p0) != (len p1))
 let y4:=(p0,p1,(len p0),())
 let x4:=((0:Int),())
 let e4:=(zB9 (uL9 y4) (vA2 y4) x4)
 (((!v10) = true → (Am.Ends (uL9 y4) (vA2 y4) (uL8 y4) x4)),(bif v10 then false else (bif (sV8 y4 e4) then (tR8 y4 e4) else true)))
def uM (p0:(List D66)) (p1:(List D66)):Prop:=(f18t p0 p1).1
def f18 (p0:(List D66)) (p1:(List D66)):Bool:=(f18t p0 p1).2
instance (p0:(List D66)) (p1:(List D66)):Decidable (uM p0 p1):=by
 unfold uM f18t
 try dsimp only
 infer_instance
def uM0:Am.Spec:=fnSpec [(0,(.val (.sl T66))),(1,(.val (.sl T66)))] vB [] (fun x=>uM x.1 x.2.1) (fun x=>f18 x.1 x.2.1) (fun _=>())
def qP4:Ctx:=Cx tys [] [(4,tR9)] [] false 26 [] []
theorem qP5:CtxOk Tryz.prog qP4:=xV6 tys_ok rfl trivial rfl (by kernel_rfl)
noncomputable def pK2:Code:=Tryz.f18.body.getD .skip
noncomputable def pU9:Code:=xW5 pK2 0
theorem qP6:yU1 Tryz.prog qP4 pU9:=xX3 qP5 mixed (sp:=tR9) rfl [[(4,vB)],[]] (bs:=[]) (by kernel_rfl) trivial (by kernel_rfl) (by kernel_rfl) fun y x=>by kernel_rfl
theorem rQ7:SpecOk Tryz.prog 18 uM0:=xX4 qP5 mixed Tryz.func18 (by kernel_rfl) (bs:=[pU9]) (by kernel_rfl) ⟨qP6,trivial⟩ fun x=>by kernel_rfl
def oS1 (p0:Unit):Prop × (List D66) :=
 (((!true) = true → ((List.length ([]:List D66) + List.length ([]:List D66):Nat):Int) ≤ 4294967296),(bif true then [] else (([]:List D66) ++ ([]:List D66))))
def rF9 (p0:Unit):Prop:=(oS1 p0).1
def f19a (p0:Unit):(List D66):=(oS1 p0).2
instance (p0:Unit):Decidable (rF9 p0):=by
 unfold rF9 oS1
 try dsimp only
 infer_instance
def qP7:Am.Spec:=fnSpec [(0,(.nn true))] (.own T66 0 false) [] (fun x=>rF9 x.1) (fun x=>f19a x.1) (fun _=>())
def pK3:Ctx:=Cx tys [] [] [(7,[(4,0,7,0)])] false 8 [] []
theorem pK4:CtxOk Tryz.prog pK3:=xV6 tys_ok rfl trivial rfl (by kernel_rfl)
theorem oS2:SpecOk Tryz.prog 19 qP7:=xX4 pK4 mixed Tryz.func19 (by kernel_rfl) (bs:=[]) (by kernel_rfl) trivial fun x=>by kernel_rfl
def oS3 (p0:Unit):Prop × (List D66) :=
 (((!false) = true → ((List.length ([]:List D66) + List.length ([]:List D66):Nat):Int) ≤ 4294967296),(bif false then [] else (([]:List D66) ++ ([]:List D66))))
def rG (p0:Unit):Prop:=(oS3 p0).1
def f19b (p0:Unit):(List D66):=(oS3 p0).2
instance (p0:Unit):Decidable (rG p0):=by
 unfold rG oS3
 try dsimp only
 infer_instance
def qP8:Am.Spec:=fnSpec [(0,(.nn false))] (.own T66 0 false) [] (fun x=>rG x.1) (fun x=>f19b x.1) (fun _=>())
def pK5:Ctx:=Cx tys [] [] [(7,[(4,0,7,0)])] false 8 [] []
theorem pK6:CtxOk Tryz.prog pK5:=xV6 tys_ok rfl trivial rfl (by kernel_rfl)
theorem oS4:SpecOk Tryz.prog 19 qP8:=xX4 pK6 mixed Tryz.func19 (by kernel_rfl) (bs:=[]) (by kernel_rfl) trivial fun x=>by kernel_rfl
def oS5 (p0:(List D66)):Prop × (List D66) :=
 ((0 < List.length p0 ∧ ((!false) = true → ((List.length ([]:List D66) + List.length p0:Nat):Int) ≤ 4294967296)),(bif false then [] else (([]:List D66) ++ p0)))
def rG0 (p0:(List D66)):Prop:=(oS5 p0).1
def f19c (p0:(List D66)):(List D66):=(oS5 p0).2
instance (p0:(List D66)):Decidable (rG0 p0):=by
 unfold rG0 oS5
 try dsimp only
 infer_instance
def qP9:Am.Spec:=fnSpec [(0,(.val (.sl T66)))] (.own T66 0 false) [] (fun x=>rG0 x.1) (fun x=>f19c x.1) (fun _=>())
def pK7:Ctx:=Cx tys [] [] [(7,[(4,0,7,0)])] false 8 [] []
theorem pK8:CtxOk Tryz.prog pK7:=xV6 tys_ok rfl trivial rfl (by kernel_rfl)
theorem oS6:SpecOk Tryz.prog 19 qP9:=xX4 pK8 mixed Tryz.func19 (by kernel_rfl) (bs:=[]) (by kernel_rfl) trivial fun x=>by kernel_rfl
def f19 (p0:(List D66)):(List D66):=p0
def vS7 (p0:(List D66)):Prop:=(List.length p0:Int) ≤ 4294967296
instance (p0:(List D66)):Decidable (vS7 p0):=by
  unfold vS7
  infer_instance
def nE3:List (Nat × Sh):=[(0,(.val (.sl T66)))]
def pV:Sh:=(.own T66 0 false)
def nE4:List (Nat × Sh):=[]
def tD2:Am.Spec:=fnSpec nE3 pV nE4 (fun x=>vS7 x.1) (fun x=>f19 x.1) (fun _=>())
theorem qQ:SpecOk Tryz.prog 19 tD2:=xU7 (rs:=pV) (F:=f19) (ok:=vS7) oS2 oS4 oS6 (of_decide_eq_true (by kernel_rfl)) (of_decide_eq_true (by kernel_rfl)) (fun l h hp=>⟨hp,fun _=>by simpa [vS7] using h⟩) rfl rfl (fun _=>rfl)
def f43t (p0:D74) (p1:D74):Prop × Bool :=
 let v30:=(bif (bif (bif (p0.1 == p1.1) then (p0.2.1 == p1.2.1) else false) then (p0.2.2.1 == p1.2.2.1) else false) then (p0.2.2.2.1 == p1.2.2.2.1) else false)
 ((v30 = true → (tV5 p0.2.2.2.2.1 p1.2.2.2.2.1)),(bif v30 then (f44 p0.2.2.2.2.1 p1.2.2.2.2.1) else false))
def sV9 (p0:D74) (p1:D74):Prop:=(f43t p0 p1).1
def f43 (p0:D74) (p1:D74):Bool:=(f43t p0 p1).2
instance (p0:D74) (p1:D74):Decidable (sV9 p0 p1):=by
 unfold sV9 f43t
 try dsimp only
 infer_instance
def rQ8:Am.Spec:=fnSpec [(0,(.val T74)),(1,(.val T74))] vB [] (fun x=>sV9 x.1 x.2.1) (fun x=>f43 x.1 x.2.1) (fun _=>())
def oS7:Ctx:=Cx tys [(44,sC9)] [] [] false 38 [] []
theorem oS8:CtxOk Tryz.prog oS7:=xV6 tys_ok rfl ⟨pR4,trivial⟩ rfl (by kernel_rfl)
theorem nE5:SpecOk Tryz.prog 43 rQ8:=xX4 oS8 mixed Tryz.func43 (by kernel_rfl) (bs:=[]) (by kernel_rfl) trivial fun x=>by kernel_rfl
abbrev wH9:Type:=((List D74) × (Unit) × (List D74) × Int × Unit)
abbrev wC7:Type:=(Int × Unit)
def wY3 (y:wH9) (x:wC7):Prop × Bool × wC7 × Bool × Bool :=
 let a1:=y.1
 let a15:=y.2.2.1
 let a17:=x.1
 let v18:=(decide (a17 < y.2.2.2.1))
 let v20:=(nth a15 a17 Z74)
 let v24:=(nth a1 a17 Z74)
 let v30:=(!(f43 v20 v24))
 ((v18 = true → (InB a17 (len a15) ∧ (InB a17 (len a1) ∧ ((sV9 v20 v24) ∧ ((!v30) = true → InR (a17 + 1)))))),(v18 && (!v30)),((a17 + 1),()),(v18 && v30),(!v18))
def vD7 (y:wH9) (x:wC7):Prop:=(wY3 y x).1
def vA3 (y:wH9) (x:wC7):Bool:=(wY3 y x).2.1
def wK7 (y:wH9) (x:wC7):wC7:=(wY3 y x).2.2.1
def tA1 (y:wH9) (x:wC7):Bool:=(wY3 y x).2.2.2.1
def sW (y:wH9) (x:wC7):Bool:=(wY3 y x).2.2.2.2
instance (y:wH9) (x:wC7):Decidable (vD7 y x):=by
 unfold vD7 wY3
 try dsimp only
 infer_instance
def vZ5 (y:wH9) (x:wC7):Bool :=
 false
def vZ6:St → Option Out:=xO8 [(1,(.val (.sl T74))),(2,(.fn 43 .nl)),(15,(.val (.sl T74))),(16,vI)] [(17,vI)] vA3 wK7 vD7 fun y x=>[ex 1 (some (tA1 y x)) [(6,vB)] ((vZ5 y x),()),ex 2 (some (sW y x)) [] ()]
def rG1 (p0:(List D74)) (p1:(List D74)) (p2:(Unit)):Prop × Bool :=
 let v14:=((len p0) != (len p1))
 let y4:=(p1,(),p0,(len p0),())
 let x4:=((0:Int),())
 let e4:=(zB9 (vA3 y4) (wK7 y4) x4)
 (((!v14) = true → (Am.Ends (vA3 y4) (wK7 y4) (vD7 y4) x4)),(bif v14 then false else (bif (tA1 y4 e4) then (vZ5 y4 e4) else true)))
def uM1 (p0:(List D74)) (p1:(List D74)) (p2:(Unit)):Prop:=(rG1 p0 p1 p2).1
def rQ9 (p0:(List D74)) (p1:(List D74)) (p2:(Unit)):Bool:=(rG1 p0 p1 p2).2
instance (p0:(List D74)) (p1:(List D74)) (p2:(Unit)):Decidable (uM1 p0 p1 p2):=by
 unfold uM1 rG1
 try dsimp only
 infer_instance
def tS:Am.Spec:=fnSpec [(0,(.val (.sl T74))),(1,(.val (.sl T74))),(2,(.fn 43 .nl))] vB [] (fun x=>uM1 x.1 x.2.1 x.2.2.1) (fun x=>rQ9 x.1 x.2.1 x.2.2.1) (fun _=>())
def sA7:Ctx:=Cx tys [(43,rQ8)] [(4,vZ6)] [] false 32 [] []
theorem sA8:CtxOk Tryz.prog sA7:=xV6 tys_ok rfl ⟨nE5,trivial⟩ rfl (by kernel_rfl)
noncomputable def rG2:Code:=Tryz.f42.body.getD .skip
noncomputable def sW0:Code:=xW5 rG2 0
theorem sW1:yU1 Tryz.prog sA7 sW0:=xX3 sA8 mixed (sp:=vZ6) rfl [[(6,vB)],[]] (bs:=[]) (by kernel_rfl) trivial (by kernel_rfl) (by kernel_rfl) fun y x=>by kernel_rfl
theorem qQ0:SpecOk Tryz.prog 42 tS:=xX4 sA8 mixed Tryz.func42 (by kernel_rfl) (bs:=[sW0]) (by kernel_rfl) ⟨sW1,trivial⟩ fun x=>by kernel_rfl
def f20t (p0:(List D74)) (p1:(List D74)):Prop × Bool :=
 ((uM1 p0 p1 ()),(rQ9 p0 p1 ()))
def uM2 (p0:(List D74)) (p1:(List D74)):Prop:=(f20t p0 p1).1
def f20 (p0:(List D74)) (p1:(List D74)):Bool:=(f20t p0 p1).2
instance (p0:(List D74)) (p1:(List D74)):Decidable (uM2 p0 p1):=by
 unfold uM2 f20t
 try dsimp only
 infer_instance
def uM3:Am.Spec:=fnSpec [(0,(.val (.sl T74))),(1,(.val (.sl T74)))] vB [] (fun x=>uM2 x.1 x.2.1) (fun x=>f20 x.1 x.2.1) (fun _=>())
def oS9:Ctx:=Cx tys [(42,tS)] [] [] false 8 [] []
theorem oT:CtxOk Tryz.prog oS9:=xV6 tys_ok rfl ⟨qQ0,trivial⟩ rfl (by kernel_rfl)
theorem rR:SpecOk Tryz.prog 20 uM3:=xX4 oT mixed Tryz.func20 (by kernel_rfl) (bs:=[]) (by kernel_rfl) trivial fun x=>by kernel_rfl
def oT0 (p0:Unit):Prop × (List D74) :=
 (((!true) = true → ((List.length ([]:List D74) + List.length ([]:List D74):Nat):Int) ≤ 4294967296),(bif true then [] else (([]:List D74) ++ ([]:List D74))))
def rG3 (p0:Unit):Prop:=(oT0 p0).1
def f45a (p0:Unit):(List D74):=(oT0 p0).2
instance (p0:Unit):Decidable (rG3 p0):=by
 unfold rG3 oT0
 try dsimp only
 infer_instance
def qQ1:Am.Spec:=fnSpec [(0,(.nn true))] (.own T74 0 true) [] (fun x=>rG3 x.1) (fun x=>f45a x.1) (fun _=>())
def pK9:Ctx:=Cx tys [] [] [(7,[(4,0,7,0)])] false 8 [] [5,7]
theorem pL:CtxOk Tryz.prog pK9:=xV6 tys_ok rfl trivial rfl (by kernel_rfl)
theorem oT1:SpecOk Tryz.prog 45 qQ1:=xX4 pL mixed Tryz.func45 (by kernel_rfl) (bs:=[]) (by kernel_rfl) trivial fun x=>by kernel_rfl
def oT2 (p0:Unit):Prop × (List D74) :=
 (((!false) = true → ((List.length ([]:List D74) + List.length ([]:List D74):Nat):Int) ≤ 4294967296),(bif false then [] else (([]:List D74) ++ ([]:List D74))))
def rG4 (p0:Unit):Prop:=(oT2 p0).1
def f45b (p0:Unit):(List D74):=(oT2 p0).2
instance (p0:Unit):Decidable (rG4 p0):=by
 unfold rG4 oT2
 try dsimp only
 infer_instance
def qQ2:Am.Spec:=fnSpec [(0,(.nn false))] (.own T74 0 true) [] (fun x=>rG4 x.1) (fun x=>f45b x.1) (fun _=>())
def pL0:Ctx:=Cx tys [] [] [(7,[(4,0,7,0)])] false 8 [] [5,7]
theorem pL1:CtxOk Tryz.prog pL0:=xV6 tys_ok rfl trivial rfl (by kernel_rfl)
theorem oT3:SpecOk Tryz.prog 45 qQ2:=xX4 pL1 mixed Tryz.func45 (by kernel_rfl) (bs:=[]) (by kernel_rfl) trivial fun x=>by kernel_rfl
def oT4 (p0:(List D74)):Prop × (List D74) :=
 ((0 < List.length p0 ∧ ((!false) = true → ((List.length ([]:List D74) + List.length p0:Nat):Int) ≤ 4294967296)),(bif false then [] else (([]:List D74) ++ p0)))
def rG5 (p0:(List D74)):Prop:=(oT4 p0).1
def f45c (p0:(List D74)):(List D74):=(oT4 p0).2
instance (p0:(List D74)):Decidable (rG5 p0):=by
 unfold rG5 oT4
 try dsimp only
 infer_instance
def qQ3:Am.Spec:=fnSpec [(0,(.val (.sl T74)))] (.own T74 0 true) [] (fun x=>rG5 x.1) (fun x=>f45c x.1) (fun _=>())
def pL2:Ctx:=Cx tys [] [] [(7,[(4,0,7,0)])] false 8 [] [5,7]
theorem pL3:CtxOk Tryz.prog pL2:=xV6 tys_ok rfl trivial rfl (by kernel_rfl)
theorem oT5:SpecOk Tryz.prog 45 qQ3:=xX4 pL3 mixed Tryz.func45 (by kernel_rfl) (bs:=[]) (by kernel_rfl) trivial fun x=>by kernel_rfl
def f45 (p0:(List D74)):(List D74):=p0
def sA9 (p0:(List D74)):Prop:=(List.length p0:Int) ≤ 4294967296
instance (p0:(List D74)):Decidable (sA9 p0):=by
  unfold sA9
  infer_instance
def nE6:List (Nat × Sh):=[(0,(.val (.sl T74)))]
def pV0:Sh:=(.own T74 0 true)
def nE7:List (Nat × Sh):=[]
def rR0:Am.Spec:=fnSpec nE6 pV0 nE7 (fun x=>sA9 x.1) (fun x=>f45 x.1) (fun _=>())
theorem nE8:SpecOk Tryz.prog 45 rR0:=xU7 (rs:=pV0) (F:=f45) (ok:=sA9) oT1 oT3 oT5 (of_decide_eq_true (by kernel_rfl)) (of_decide_eq_true (by kernel_rfl)) (fun l h hp=>⟨hp,fun _=>by simpa [sA9] using h⟩) rfl rfl (fun _=>rfl)
abbrev vX7:Type:=((List D74) × Int × Unit)
abbrev vD8:Type:=((List D74) × Int × Unit)
def sH6 (y:vX7) (x:vD8):Prop × Bool × vD8 :=
 let a0:=y.1
 let a3:=x.1
 let a9:=x.2.1
 let v10:=(decide (a9 < y.2.1))
 let v16:=(nth a0 a9 Z74)
 let l1003:=(List.set a3 (Int.toNat a9) ((nth a3 a9 Z74).1,(nth a3 a9 Z74).2.1,(nth a3 a9 Z74).2.2.1,(nth a3 a9 Z74).2.2.2.1,((nth a3 a9 Z74).2.2.2.2.1.1,(nth a3 a9 Z74).2.2.2.2.1.2.1,(f46 v16.2.2.2.2.1.2.2.1),()),()))
 ((v10 = true → (InB a9 (len a0) ∧ ((tR5 v16.2.2.2.2.1.2.2.1) ∧ (InB a9 (len a3) ∧ (a9 < len a3 ∧ InR (a9 + 1)))))),v10,(l1003,(a9 + 1),()))
def vS8 (y:vX7) (x:vD8):Prop:=(sH6 y x).1
def uM4 (y:vX7) (x:vD8):Bool:=(sH6 y x).2.1
def vA4 (y:vX7) (x:vD8):vD8:=(sH6 y x).2.2
instance (y:vX7) (x:vD8):Decidable (vS8 y x):=by
 unfold vS8 sH6
 try dsimp only
 infer_instance
def tS0 (y:vX7) (x:vD8):(List D74) :=
 x.1
def tS1:St → Option Out:=xO8 [(0,(.val (.sl T74))),(8,vI)] [(3,(.own T74 1003 true)),(9,vI)] uM4 vA4 vS8 fun y x=>[ex 2 none [(3,(.own T74 1003 true))] ((tS0 y x),())]
def f21t (p0:(List D74)):Prop × (List D74) :=
 let v6:=(f45 p0)
 let y3:=(p0,(len v6),())
 let x3:=(v6,(0:Int),())
 (((sA9 p0) ∧ (Am.Ends (uM4 y3) (vA4 y3) (vS8 y3) x3)),(tS0 y3 (zB9 (uM4 y3) (vA4 y3) x3)))
def vZ7 (p0:(List D74)):Prop:=(f21t p0).1
def f21 (p0:(List D74)):(List D74):=(f21t p0).2
instance (p0:(List D74)):Decidable (vZ7 p0):=by
 unfold vZ7 f21t
 try dsimp only
 infer_instance
def tD3:Am.Spec:=fnSpec [(0,(.val (.sl T74)))] (.val (.sl T74)) [] (fun x=>vZ7 x.1) (fun x=>f21 x.1) (fun _=>())
def qQ4:Ctx:=Cx tys [(45,rR0),(46,sH4)] [(3,tS1)] [(3,[(4,0,6,1003)]),(15,[(1,2,0,0),(4,0,1003,0)])] false 26 [] []
theorem qQ5:CtxOk Tryz.prog qQ4:=xV6 tys_ok rfl ⟨nE8,pU4,trivial⟩ rfl (by kernel_rfl)
noncomputable def pL4:Code:=Tryz.f21.body.getD .skip
noncomputable def pV1:Code:=xW5 pL4 0
theorem qQ6:yU1 Tryz.prog qQ4 pV1:=xX3 qQ5 mixed (sp:=tS1) rfl [[(3,(.own T74 1003 true))]] (bs:=[]) (by kernel_rfl) trivial (by kernel_rfl) (by kernel_rfl) fun y x=>by kernel_rfl
theorem qQ7:SpecOk Tryz.prog 21 tD3:=xX4 qQ5 mixed Tryz.func21 (by kernel_rfl) (bs:=[pV1]) (by kernel_rfl) ⟨qQ6,trivial⟩ fun x=>by kernel_rfl
abbrev uR3:Type:=(D28 × D28 × (D50 × D50 × Int × (List D57) × (List D57) × (Int × Int × (List Int) × Unit) × (Int × Int × (List Int) × Unit) × (List D66) × (List D66) × (List D74) × (List D74) × Unit) × (List D57) × (List D57) × Unit)
abbrev vN:Type:=((D50 × D50 × Int × (List D57) × (List D57) × (Int × Int × (List Int) × Unit) × (Int × Int × (List Int) × Unit) × (List D66) × (List D66) × (List D74) × (List D74) × Unit) × Unit)
def rR1 (y:uR3) (x:vN):Prop × Bool × vN :=
 let a9:=y.2.2.2.1
 let a10:=y.2.2.2.2.1
 let a8:=x.1
 let v43:=(bif (decide (a8.2.2.1 < (len a9))) then (decide (a8.2.2.1 < (len a10))) else false)
 let v48:=(nth a9 a8.2.2.1 Z57)
 let v53:=(nth a10 a8.2.2.1 Z57)
 let v56:=(bif v43 then (f12 v48 v53) else false)
 let s_2:=(a8.1,a8.2.1,(a8.2.2.1 + 1),a8.2.2.2.1,a8.2.2.2.2.1,(a8.2.2.2.2.2.1.1,a8.2.2.2.2.2.1.2.1,a8.2.2.2.2.2.1.2.2.1,()),(a8.2.2.2.2.2.2.1.1,a8.2.2.2.2.2.2.1.2.1,a8.2.2.2.2.2.2.1.2.2.1,()),a8.2.2.2.2.2.2.2.1,a8.2.2.2.2.2.2.2.2.1,a8.2.2.2.2.2.2.2.2.2.1,a8.2.2.2.2.2.2.2.2.2.2.1,())
 (((v43 = true → InB a8.2.2.1 (len a9)) ∧ ((v43 = true → InB a8.2.2.1 (len a10)) ∧ ((v43 = true → (vY5 v48 v53)) ∧ (v56 = true → InR (a8.2.2.1 + 1))))),v56,(s_2,()))
def uM5 (y:uR3) (x:vN):Prop:=(rR1 y x).1
def vN0 (y:uR3) (x:vN):Bool:=(rR1 y x).2.1
def wP5 (y:uR3) (x:vN):vN:=(rR1 y x).2.2
instance (y:uR3) (x:vN):Decidable (uM5 y x):=by
 unfold uM5 rR1
 try dsimp only
 infer_instance
def uR4 (y:uR3) (x:vN):(D50 × D50 × Int × (List D57) × (List D57) × (Int × Int × (List Int) × Unit) × (Int × Int × (List Int) × Unit) × (List D66) × (List D66) × (List D74) × (List D74) × Unit) :=
 let a8:=x.1
 let s_5:=(a8.1,a8.2.1,a8.2.2.1,a8.2.2.2.1,a8.2.2.2.2.1,(a8.2.2.2.2.2.1.1,a8.2.2.2.2.2.1.2.1,a8.2.2.2.2.2.1.2.2.1,()),(a8.2.2.2.2.2.2.1.1,a8.2.2.2.2.2.2.1.2.1,a8.2.2.2.2.2.2.1.2.2.1,()),a8.2.2.2.2.2.2.2.1,a8.2.2.2.2.2.2.2.2.1,a8.2.2.2.2.2.2.2.2.2.1,a8.2.2.2.2.2.2.2.2.2.2.1,())
 s_5
def rR2:List (Nat × Sh):=[(2,(.box T28 (.val T28))),(3,(.box T28 (.val T28))),(4,(.box T32 (.agg (.cons T50 (.cons T50 (.cons (.int .i64) (.cons (.sl T57) (.cons (.sl T57) (.cons T24 (.cons T24 (.cons (.sl T66) (.cons (.sl T66) (.cons (.sl T74) (.cons (.sl T74) .nl))))))))))) (.cons (.val T50) (.cons (.val T50) (.cons vI (.cons (.val (.sl T57)) (.cons (.val (.sl T57)) (.cons (.agg (.cons (.int .i64) (.cons (.int .i64) (.cons (.sl (.int .i64)) .nl))) (.cons vI (.cons vI (.cons (.val (.sl (.int .i64))) .nl)))) (.cons (.agg (.cons (.int .i64) (.cons (.int .i64) (.cons (.sl (.int .i64)) .nl))) (.cons vI (.cons vI (.cons (.val (.sl (.int .i64))) .nl)))) (.cons (.val (.sl T66)) (.cons (.val (.sl T66)) (.cons (.val (.sl T74)) (.cons (.val (.sl T74)) .nl)))))))))))))),(8,(.box T32 (.agg (.cons T50 (.cons T50 (.cons (.int .i64) (.cons (.sl T57) (.cons (.sl T57) (.cons T24 (.cons T24 (.cons (.sl T66) (.cons (.sl T66) (.cons (.sl T74) (.cons (.sl T74) .nl))))))))))) (.cons (.val T50) (.cons (.val T50) (.cons vI (.cons (.own T57 400800 false) (.cons (.own T57 400801 false) (.cons (.agg (.cons (.int .i64) (.cons (.int .i64) (.cons (.sl (.int .i64)) .nl))) (.cons vI (.cons vI (.cons (.own (.int .i64) 400802 false) .nl)))) (.cons (.agg (.cons (.int .i64) (.cons (.int .i64) (.cons (.sl (.int .i64)) .nl))) (.cons vI (.cons vI (.cons (.own (.int .i64) 400803 false) .nl)))) (.cons (.own T66 400804 false) (.cons (.own T66 400805 false) (.cons (.own T74 400806 false) (.cons (.own T74 400807 false) .nl)))))))))))))),(9,(.val (.sl T57))),(10,(.val (.sl T57)))]
def sB:St → Option Out:=xO8 [(2,(.box T28 (.val T28))),(3,(.box T28 (.val T28))),(4,(.box T32 (.agg (.cons T50 (.cons T50 (.cons (.int .i64) (.cons (.sl T57) (.cons (.sl T57) (.cons T24 (.cons T24 (.cons (.sl T66) (.cons (.sl T66) (.cons (.sl T74) (.cons (.sl T74) .nl))))))))))) (.cons (.val T50) (.cons (.val T50) (.cons vI (.cons (.val (.sl T57)) (.cons (.val (.sl T57)) (.cons (.agg (.cons (.int .i64) (.cons (.int .i64) (.cons (.sl (.int .i64)) .nl))) (.cons vI (.cons vI (.cons (.val (.sl (.int .i64))) .nl)))) (.cons (.agg (.cons (.int .i64) (.cons (.int .i64) (.cons (.sl (.int .i64)) .nl))) (.cons vI (.cons vI (.cons (.val (.sl (.int .i64))) .nl)))) (.cons (.val (.sl T66)) (.cons (.val (.sl T66)) (.cons (.val (.sl T74)) (.cons (.val (.sl T74)) .nl)))))))))))))),(9,(.val (.sl T57))),(10,(.val (.sl T57)))] [(8,(.box T32 (.agg (.cons T50 (.cons T50 (.cons (.int .i64) (.cons (.sl T57) (.cons (.sl T57) (.cons T24 (.cons T24 (.cons (.sl T66) (.cons (.sl T66) (.cons (.sl T74) (.cons (.sl T74) .nl))))))))))) (.cons (.val T50) (.cons (.val T50) (.cons vI (.cons (.own T57 400800 false) (.cons (.own T57 400801 false) (.cons (.agg (.cons (.int .i64) (.cons (.int .i64) (.cons (.sl (.int .i64)) .nl))) (.cons vI (.cons vI (.cons (.own (.int .i64) 400802 false) .nl)))) (.cons (.agg (.cons (.int .i64) (.cons (.int .i64) (.cons (.sl (.int .i64)) .nl))) (.cons vI (.cons vI (.cons (.own (.int .i64) 400803 false) .nl)))) (.cons (.own T66 400804 false) (.cons (.own T66 400805 false) (.cons (.own T74 400806 false) (.cons (.own T74 400807 false) .nl))))))))))))))] vN0 wP5 uM5 fun y x=>[ex 2 none rR2 (y.1,y.2.1,y.2.2.1,(uR4 y x),y.2.2.2.1,y.2.2.2.2.1,())]
abbrev vD9:Type:=(D28 × D28 × (D50 × D50 × Int × (List D57) × (List D57) × (Int × Int × (List Int) × Unit) × (Int × Int × (List Int) × Unit) × (List D66) × (List D66) × (List D74) × (List D74) × Unit) × (D50 × D50 × Int × (List D57) × (List D57) × (Int × Int × (List Int) × Unit) × (Int × Int × (List Int) × Unit) × (List D66) × (List D66) × (List D74) × (List D74) × Unit) × Unit)
abbrev wL3:Type:=((List D57) × (List D57) × Unit)
def sH7 (y:vD9) (x:wL3):Prop × Bool × wL3 :=
 let a9:=x.1
 let a10:=x.2.1
 let v76:=(bif (decide ((len a9) > 0)) then (decide ((len a10) > 0)) else false)
 let v80:=(len a9)
 let v81:=(v80 - 1)
 let v82:=(nth a9 v81 Z57)
 let v86:=(len a10)
 let v87:=(v86 - 1)
 let v88:=(nth a10 v87 Z57)
 let v91:=(bif v76 then (f12 v82 v88) else false)
 let v94:=(len a9)
 let v95:=(v94 - 1)
 let v99:=(len a10)
 let v100:=(v99 - 1)
 (((v76 = true → InR (v80 - 1)) ∧ ((v76 = true → InB v81 (len a9)) ∧ ((v76 = true → InR (v86 - 1)) ∧ ((v76 = true → InB v87 (len a10)) ∧ ((v76 = true → (vY5 v82 v88)) ∧ (v91 = true → (InR (v94 - 1) ∧ ((0 ≤ v95 ∧ v95 ≤ len a9) ∧ (InR (v99 - 1) ∧ (0 ≤ v100 ∧ v100 ≤ len a10)))))))))),v91,((List.take (Int.toNat v95) a9),(List.take (Int.toNat v100) a10),()))
def vS9 (y:vD9) (x:wL3):Prop:=(sH7 y x).1
def vE (y:vD9) (x:wL3):Bool:=(sH7 y x).2.1
def wL6 (y:vD9) (x:wL3):wL3:=(sH7 y x).2.2
instance (y:vD9) (x:wL3):Decidable (vS9 y x):=by
 unfold vS9 sH7
 try dsimp only
 infer_instance
def uC4 (y:vD9) (x:wL3):(List D57) :=
 x.1
def uC5 (y:vD9) (x:wL3):(List D57) :=
 x.2.1
def sW2:List (Nat × Sh):=[(2,(.box T28 (.val T28))),(3,(.box T28 (.val T28))),(4,(.box T32 (.agg (.cons T50 (.cons T50 (.cons (.int .i64) (.cons (.sl T57) (.cons (.sl T57) (.cons T24 (.cons T24 (.cons (.sl T66) (.cons (.sl T66) (.cons (.sl T74) (.cons (.sl T74) .nl))))))))))) (.cons (.val T50) (.cons (.val T50) (.cons vI (.cons (.val (.sl T57)) (.cons (.val (.sl T57)) (.cons (.agg (.cons (.int .i64) (.cons (.int .i64) (.cons (.sl (.int .i64)) .nl))) (.cons vI (.cons vI (.cons (.val (.sl (.int .i64))) .nl)))) (.cons (.agg (.cons (.int .i64) (.cons (.int .i64) (.cons (.sl (.int .i64)) .nl))) (.cons vI (.cons vI (.cons (.val (.sl (.int .i64))) .nl)))) (.cons (.val (.sl T66)) (.cons (.val (.sl T66)) (.cons (.val (.sl T74)) (.cons (.val (.sl T74)) .nl)))))))))))))),(8,(.box T32 (.agg (.cons T50 (.cons T50 (.cons (.int .i64) (.cons (.sl T57) (.cons (.sl T57) (.cons T24 (.cons T24 (.cons (.sl T66) (.cons (.sl T66) (.cons (.sl T74) (.cons (.sl T74) .nl))))))))))) (.cons (.val T50) (.cons (.val T50) (.cons vI (.cons (.own T57 400800 false) (.cons (.own T57 400801 false) (.cons (.agg (.cons (.int .i64) (.cons (.int .i64) (.cons (.sl (.int .i64)) .nl))) (.cons vI (.cons vI (.cons (.own (.int .i64) 400802 false) .nl)))) (.cons (.agg (.cons (.int .i64) (.cons (.int .i64) (.cons (.sl (.int .i64)) .nl))) (.cons vI (.cons vI (.cons (.own (.int .i64) 400803 false) .nl)))) (.cons (.own T66 400804 false) (.cons (.own T66 400805 false) (.cons (.own T74 400806 false) (.cons (.own T74 400807 false) .nl)))))))))))))),(9,(.val (.sl T57))),(10,(.val (.sl T57)))]
def tS2:St → Option Out:=xO8 [(2,(.box T28 (.val T28))),(3,(.box T28 (.val T28))),(4,(.box T32 (.agg (.cons T50 (.cons T50 (.cons (.int .i64) (.cons (.sl T57) (.cons (.sl T57) (.cons T24 (.cons T24 (.cons (.sl T66) (.cons (.sl T66) (.cons (.sl T74) (.cons (.sl T74) .nl))))))))))) (.cons (.val T50) (.cons (.val T50) (.cons vI (.cons (.val (.sl T57)) (.cons (.val (.sl T57)) (.cons (.agg (.cons (.int .i64) (.cons (.int .i64) (.cons (.sl (.int .i64)) .nl))) (.cons vI (.cons vI (.cons (.val (.sl (.int .i64))) .nl)))) (.cons (.agg (.cons (.int .i64) (.cons (.int .i64) (.cons (.sl (.int .i64)) .nl))) (.cons vI (.cons vI (.cons (.val (.sl (.int .i64))) .nl)))) (.cons (.val (.sl T66)) (.cons (.val (.sl T66)) (.cons (.val (.sl T74)) (.cons (.val (.sl T74)) .nl)))))))))))))),(8,(.box T32 (.agg (.cons T50 (.cons T50 (.cons (.int .i64) (.cons (.sl T57) (.cons (.sl T57) (.cons T24 (.cons T24 (.cons (.sl T66) (.cons (.sl T66) (.cons (.sl T74) (.cons (.sl T74) .nl))))))))))) (.cons (.val T50) (.cons (.val T50) (.cons vI (.cons (.own T57 400800 false) (.cons (.own T57 400801 false) (.cons (.agg (.cons (.int .i64) (.cons (.int .i64) (.cons (.sl (.int .i64)) .nl))) (.cons vI (.cons vI (.cons (.own (.int .i64) 400802 false) .nl)))) (.cons (.agg (.cons (.int .i64) (.cons (.int .i64) (.cons (.sl (.int .i64)) .nl))) (.cons vI (.cons vI (.cons (.own (.int .i64) 400803 false) .nl)))) (.cons (.own T66 400804 false) (.cons (.own T66 400805 false) (.cons (.own T74 400806 false) (.cons (.own T74 400807 false) .nl))))))))))))))] [(9,(.val (.sl T57))),(10,(.val (.sl T57)))] vE wL6 vS9 fun y x=>[ex 4 none sW2 (y.1,y.2.1,y.2.2.1,y.2.2.2.1,(uC4 y x),(uC5 y x),())]
def f5t (p0:D28) (p1:D28):Prop × (D32 × Int × Unit) :=
 let v12:=(f13 p0)
 let v14:=(v12 != 0)
 let v18:=(f13 p1)
 let v20:=(v18 != 0)
 let s_2:=(Z50,Z50,(0:Int),([]:List D57),([]:List D57),((0:Int),(0:Int),([]:List Int),()),((0:Int),(0:Int),([]:List Int),()),([]:List D66),([]:List D66),([]:List D74),([]:List D74),())
 let s_5:=((f14 p0),(f14 p1),(0:Int),([]:List D57),([]:List D57),((0:Int),(0:Int),([]:List Int),()),((0:Int),(0:Int),([]:List Int),()),([]:List D66),([]:List D66),([]:List D74),([]:List D74),())
 let y9:=(p0,p1,s_2,p0.2.2.2.1,p1.2.2.2.1,())
 let x9:=(s_5,())
 let r9_2_0:=(uR4 y9 (zB9 (vN0 y9) (wP5 y9) x9))
 let s_8:=(Z50,Z50,(0:Int),([]:List D57),([]:List D57),((0:Int),(0:Int),([]:List Int),()),((0:Int),(0:Int),([]:List Int),()),([]:List D66),([]:List D66),([]:List D74),([]:List D74),())
 let s_11:=(r9_2_0.1,r9_2_0.2.1,r9_2_0.2.2.1,r9_2_0.2.2.2.1,r9_2_0.2.2.2.2.1,(r9_2_0.2.2.2.2.2.1.1,r9_2_0.2.2.2.2.2.1.2.1,r9_2_0.2.2.2.2.2.1.2.2.1,()),(r9_2_0.2.2.2.2.2.2.1.1,r9_2_0.2.2.2.2.2.2.1.2.1,r9_2_0.2.2.2.2.2.2.1.2.2.1,()),r9_2_0.2.2.2.2.2.2.2.1,r9_2_0.2.2.2.2.2.2.2.2.1,r9_2_0.2.2.2.2.2.2.2.2.2.1,r9_2_0.2.2.2.2.2.2.2.2.2.2.1,())
 let y12:=(p0,p1,s_8,s_11,())
 let x12:=((List.drop (Int.toNat r9_2_0.2.2.1) p0.2.2.2.1),(List.drop (Int.toNat r9_2_0.2.2.1) p1.2.2.2.1),())
 let e12:=(zB9 (vE y12) (wL6 y12) x12)
 let r12_4_0:=(uC4 y12 e12)
 let r12_4_1:=(uC5 y12 e12)
 let v103:=(f15 r12_4_0)
 let v105:=(f15 r12_4_1)
 let v113:=(!(f16 p0.2.2.2.2.2.1 p1.2.2.2.2.2.1))
 let m8:=(bif v113 then r9_2_0.1 else r9_2_0.1)
 let m8_1:=(bif v113 then r9_2_0.2.1 else r9_2_0.2.1)
 let m8_2:=(bif v113 then r9_2_0.2.2.1 else r9_2_0.2.2.1)
 let m8_3:=(bif v113 then v103 else v103)
 let m8_4:=(bif v113 then v105 else v105)
 let m8_5:=(bif v113 then (f17 p0.2.2.2.2.2.1) else (r9_2_0.2.2.2.2.2.1.1,r9_2_0.2.2.2.2.2.1.2.1,r9_2_0.2.2.2.2.2.1.2.2.1,()))
 let m8_6:=(bif v113 then (f17 p1.2.2.2.2.2.1) else (r9_2_0.2.2.2.2.2.2.1.1,r9_2_0.2.2.2.2.2.2.1.2.1,r9_2_0.2.2.2.2.2.2.1.2.2.1,()))
 let m8_9:=(bif v113 then r9_2_0.2.2.2.2.2.2.2.2.2.1 else r9_2_0.2.2.2.2.2.2.2.2.2.1)
 let m8_10:=(bif v113 then r9_2_0.2.2.2.2.2.2.2.2.2.2.1 else r9_2_0.2.2.2.2.2.2.2.2.2.2.1)
 let v127:=(!(f18 p0.2.2.2.2.2.2.1 p1.2.2.2.2.2.2.1))
 let m8_11:=(bif v127 then m8 else m8)
 let m8_12:=(bif v127 then m8_1 else m8_1)
 let m8_13:=(bif v127 then m8_2 else m8_2)
 let m8_14:=(bif v127 then m8_3 else m8_3)
 let m8_15:=(bif v127 then m8_4 else m8_4)
 let m8_16:=(bif v127 then m8_5 else m8_5)
 let m8_17:=(bif v127 then m8_6 else m8_6)
 let m8_18:=(bif v127 then (f19 p0.2.2.2.2.2.2.1) else (bif v113 then r9_2_0.2.2.2.2.2.2.2.1 else r9_2_0.2.2.2.2.2.2.2.1))
 let m8_19:=(bif v127 then (f19 p1.2.2.2.2.2.2.1) else (bif v113 then r9_2_0.2.2.2.2.2.2.2.2.1 else r9_2_0.2.2.2.2.2.2.2.2.1))
 let v141:=(!(f20 p0.2.2.2.2.2.2.2.1 p1.2.2.2.2.2.2.2.1))
 let s_18:=((bif v14 then Z50 else (bif v20 then Z50 else (bif v141 then m8_11 else m8_11))),(bif v14 then Z50 else (bif v20 then Z50 else (bif v141 then m8_12 else m8_12))),(bif v14 then (0:Int) else (bif v20 then (0:Int) else (bif v141 then m8_13 else m8_13))),(bif v14 then [] else (bif v20 then [] else (bif v141 then m8_14 else m8_14))),(bif v14 then [] else (bif v20 then [] else (bif v141 then m8_15 else m8_15))),(bif v14 then ((0:Int),(0:Int),([]:List Int),()) else (bif v20 then ((0:Int),(0:Int),([]:List Int),()) else (bif v141 then m8_16 else m8_16))),(bif v14 then ((0:Int),(0:Int),([]:List Int),()) else (bif v20 then ((0:Int),(0:Int),([]:List Int),()) else (bif v141 then m8_17 else m8_17))),(bif v14 then [] else (bif v20 then [] else (bif v141 then m8_18 else m8_18))),(bif v14 then [] else (bif v20 then [] else (bif v141 then m8_19 else m8_19))),(bif v14 then [] else (bif v20 then [] else (bif v141 then (f21 p0.2.2.2.2.2.2.2.1) else (bif v127 then m8_9 else m8_9)))),(bif v14 then [] else (bif v20 then [] else (bif v141 then (f21 p1.2.2.2.2.2.2.2.1) else (bif v127 then m8_10 else m8_10)))),())
 (((tA p0) ∧ ((!v14) = true → ((tA p1) ∧ ((!v20) = true → ((sA3 p0) ∧ ((sA3 p1) ∧ ((Am.Ends (vN0 y9) (wP5 y9) (uM5 y9) x9) ∧ ((0 ≤ r9_2_0.2.2.1 ∧ r9_2_0.2.2.1 ≤ len p0.2.2.2.1) ∧ ((0 ≤ r9_2_0.2.2.1 ∧ r9_2_0.2.2.1 ≤ len p1.2.2.2.1) ∧ ((Am.Ends (vE y12) (wL6 y12) (vS9 y12) x12) ∧ ((uL4 r12_4_0) ∧ ((uL4 r12_4_1) ∧ ((uL5 p0.2.2.2.2.2.1 p1.2.2.2.2.2.1) ∧ ((v113 = true → ((uL7 p0.2.2.2.2.2.1) ∧ (uL7 p1.2.2.2.2.2.1))) ∧ ((uM p0.2.2.2.2.2.2.1 p1.2.2.2.2.2.2.1) ∧ ((v127 = true → ((vS7 p0.2.2.2.2.2.2.1) ∧ (vS7 p1.2.2.2.2.2.2.1))) ∧ ((uM2 p0.2.2.2.2.2.2.2.1 p1.2.2.2.2.2.2.2.1) ∧ (v141 = true → ((vZ7 p0.2.2.2.2.2.2.2.1) ∧ (vZ7 p1.2.2.2.2.2.2.2.1)))))))))))))))))))),(s_18,(bif v14 then v12 else (bif v20 then v18 else (0:Int))),()))
def uR5 (p0:D28) (p1:D28):Prop:=(f5t p0 p1).1
def f5 (p0:D28) (p1:D28):(D32 × Int × Unit):=(f5t p0 p1).2
instance (p0:D28) (p1:D28):Decidable (uR5 p0 p1):=by
 unfold uR5 f5t
 try dsimp only
 infer_instance
def sH8:Am.Spec:=fnSpec [(0,(.val T28)),(1,(.val T28))] (.tup (.cons (.val T32) (.cons vI .nl))) [] (fun x=>uR5 x.1 x.2.1) (fun x=>f5 x.1 x.2.1) (fun _=>())
def qQ8:Ctx:=Cx tys [(12,tB1),(13,sH1),(14,sH2),(15,tD0),(16,uL6),(17,tD1),(18,uM0),(19,tD2),(20,uM3),(21,tD3)] [(9,sB),(12,tS2)] [(37,[(4,0,130,400804),(4,0,133,400805)]),(43,[(4,0,400804,400404),(4,0,400805,400405)])] false 151 [] []
theorem qQ9:CtxOk Tryz.prog qQ8:=xV6 tys_ok rfl ⟨qE2,pU,pU0,qP1,rQ6,qP2,rQ7,qQ,rR,qQ7,trivial⟩ rfl (by kernel_rfl)
noncomputable def qR:Code:=Tryz.f5.body.getD .skip
noncomputable def nE9:Code:=xW5 qR 0
theorem pL5:yU1 Tryz.prog qQ8 nE9:=xX3 qQ9 mixed (sp:=sB) rfl [rR2] (bs:=[]) (by kernel_rfl) trivial (by kernel_rfl) (by kernel_rfl) fun y x=>by kernel_rfl
noncomputable def pV2:Code:=xW5 qR 1
theorem qR0:yU1 Tryz.prog qQ8 pV2:=xX3 qQ9 mixed (sp:=tS2) rfl [sW2] (bs:=[]) (by kernel_rfl) trivial (by kernel_rfl) (by kernel_rfl) fun y x=>by kernel_rfl
theorem oT6:SpecOk Tryz.prog 5 sH8:=xX4 qQ9 mixed Tryz.func5 (by kernel_rfl) (bs:=[nE9,pV2]) (by kernel_rfl) ⟨pL5,qR0,trivial⟩ fun x=>by kernel_rfl
def f6t (p0:D32):Prop × Int :=
 let v5:=(len p0.2.2.2.1)
 let v8:=(len p0.2.2.2.2.1)
 (InR (v5 + v8),(v5 + v8))
def sW3 (p0:D32):Prop:=(f6t p0).1
def f6 (p0:D32):Int:=(f6t p0).2
instance (p0:D32):Decidable (sW3 p0):=by
 unfold sW3 f6t
 try dsimp only
 infer_instance
def rG6:Am.Spec:=fnSpec [(0,(.val T32))] vI [] (fun x=>sW3 x.1) (fun x=>f6 x.1) (fun _=>())
def nF:Ctx:=Cx tys [] [] [] false 10 [] []
theorem nF0:CtxOk Tryz.prog nF:=xV6 tys_ok rfl trivial rfl (by kernel_rfl)
theorem nF1:SpecOk Tryz.prog 6 rG6:=xX4 nF0 mixed Tryz.func6 (by kernel_rfl) (bs:=[]) (by kernel_rfl) trivial fun x=>by kernel_rfl
abbrev wI:Type:=((List D57) × (Unit) × (List D57) × Int × Unit)
abbrev wC8:Type:=(Int × Unit)
def wY4 (y:wI) (x:wC8):Prop × Bool × wC8 × Bool × Bool :=
 let a1:=y.1
 let a15:=y.2.2.1
 let a17:=x.1
 let v18:=(decide (a17 < y.2.2.2.1))
 let v20:=(nth a15 a17 Z57)
 let v24:=(nth a1 a17 Z57)
 let v30:=(!(f12 v20 v24))
 ((v18 = true → (InB a17 (len a15) ∧ (InB a17 (len a1) ∧ ((vY5 v20 v24) ∧ ((!v30) = true → InR (a17 + 1)))))),(v18 && (!v30)),((a17 + 1),()),(v18 && v30),(!v18))
def vE0 (y:wI) (x:wC8):Prop:=(wY4 y x).1
def vA5 (y:wI) (x:wC8):Bool:=(wY4 y x).2.1
def wK8 (y:wI) (x:wC8):wC8:=(wY4 y x).2.2.1
def tA2 (y:wI) (x:wC8):Bool:=(wY4 y x).2.2.2.1
def sW4 (y:wI) (x:wC8):Bool:=(wY4 y x).2.2.2.2
instance (y:wI) (x:wC8):Decidable (vE0 y x):=by
 unfold vE0 wY4
 try dsimp only
 infer_instance
def vZ8 (y:wI) (x:wC8):Bool :=
 false
def vZ9:St → Option Out:=xO8 [(1,(.val (.sl T57))),(2,(.fn 12 .nl)),(15,(.val (.sl T57))),(16,vI)] [(17,vI)] vA5 wK8 vE0 fun y x=>[ex 1 (some (tA2 y x)) [(6,vB)] ((vZ8 y x),()),ex 2 (some (sW4 y x)) [] ()]
def rG7 (p0:(List D57)) (p1:(List D57)) (p2:(Unit)):Prop × Bool :=
 let v14:=((len p0) != (len p1))
 let y4:=(p1,(),p0,(len p0),())
 let x4:=((0:Int),())
 let e4:=(zB9 (vA5 y4) (wK8 y4) x4)
 (((!v14) = true → (Am.Ends (vA5 y4) (wK8 y4) (vE0 y4) x4)),(bif v14 then false else (bif (tA2 y4 e4) then (vZ8 y4 e4) else true)))
def vJ7 (p0:(List D57)) (p1:(List D57)) (p2:(Unit)):Prop:=(rG7 p0 p1 p2).1
def uA (p0:(List D57)) (p1:(List D57)) (p2:(Unit)):Bool:=(rG7 p0 p1 p2).2
instance (p0:(List D57)) (p1:(List D57)) (p2:(Unit)):Decidable (vJ7 p0 p1 p2):=by
 unfold vJ7 rG7
 try dsimp only
 infer_instance
def uC6:Am.Spec:=fnSpec [(0,(.val (.sl T57))),(1,(.val (.sl T57))),(2,(.fn 12 .nl))] vB [] (fun x=>vJ7 x.1 x.2.1 x.2.2.1) (fun x=>uA x.1 x.2.1 x.2.2.1) (fun _=>())
def sB0:Ctx:=Cx tys [(12,tB1)] [(4,vZ9)] [] false 32 [] []
theorem sB1:CtxOk Tryz.prog sB0:=xV6 tys_ok rfl ⟨qE2,trivial⟩ rfl (by kernel_rfl)
noncomputable def rG8:Code:=Tryz.f29.body.getD .skip
noncomputable def sW5:Code:=xW5 rG8 0
theorem sW6:yU1 Tryz.prog sB0 sW5:=xX3 sB1 mixed (sp:=vZ9) rfl [[(6,vB)],[]] (bs:=[]) (by kernel_rfl) trivial (by kernel_rfl) (by kernel_rfl) fun y x=>by kernel_rfl
theorem sW7:SpecOk Tryz.prog 29 uC6:=xX4 sB1 mixed Tryz.func29 (by kernel_rfl) (bs:=[sW5]) (by kernel_rfl) ⟨sW6,trivial⟩ fun x=>by kernel_rfl
def f24t (p0:D28) (p1:D32):Prop × Bool :=
 let v22:=(bif (bif (!(Ty.eqb T50 (f14 p0) p1.1)) then true else (decide (p1.2.2.1 < 0))) then true else (decide (p1.2.2.1 > (len p0.2.2.2.1))))
 let v26:=(len p0.2.2.2.1)
 let v34:=(bif v22 then true else (decide ((v26 - p1.2.2.1) < (len p1.2.2.2.1))))
 let v43:=(len p1.2.2.2.1)
 let v44:=(p1.2.2.1 + v43)
 let v45:=(List.drop (Int.toNat p1.2.2.1) (List.take (Int.toNat v44) p0.2.2.2.1))
 let v49:=(!(uA v45 p1.2.2.2.1 ()))
 let v55:=(!(f16 p1.2.2.2.2.2.1 p1.2.2.2.2.2.2.1))
 let v63:=(bif v55 then (!(f16 p1.2.2.2.2.2.1 p0.2.2.2.2.2.1)) else false)
 let v69:=(!(f18 p1.2.2.2.2.2.2.2.1 p1.2.2.2.2.2.2.2.2.1))
 let v77:=(bif v69 then (!(f18 p1.2.2.2.2.2.2.2.1 p0.2.2.2.2.2.2.1)) else false)
 let v82:=(f20 p1.2.2.2.2.2.2.2.2.2.1 p1.2.2.2.2.2.2.2.2.2.2.1)
 (((sA3 p0) ∧ (((!v22) = true → InR (v26 - p1.2.2.1)) ∧ ((!v34) = true → (InR (p1.2.2.1 + v43) ∧ ((0 ≤ p1.2.2.1 ∧ p1.2.2.1 ≤ v44 ∧ v44 ≤ len p0.2.2.2.1) ∧ ((vJ7 v45 p1.2.2.2.1 ()) ∧ ((!v49) = true → ((uL5 p1.2.2.2.2.2.1 p1.2.2.2.2.2.2.1) ∧ ((v55 = true → (uL5 p1.2.2.2.2.2.1 p0.2.2.2.2.2.1)) ∧ ((!v63) = true → ((uM p1.2.2.2.2.2.2.2.1 p1.2.2.2.2.2.2.2.2.1) ∧ ((v69 = true → (uM p1.2.2.2.2.2.2.2.1 p0.2.2.2.2.2.2.1)) ∧ ((!v77) = true → ((uM2 p1.2.2.2.2.2.2.2.2.2.1 p1.2.2.2.2.2.2.2.2.2.2.1) ∧ ((!v82) = true → (uM2 p1.2.2.2.2.2.2.2.2.2.1 p0.2.2.2.2.2.2.2.1)))))))))))))))),(bif v34 then false else (bif v49 then false else (bif v63 then false else (bif v77 then false else (bif v82 then true else (f20 p1.2.2.2.2.2.2.2.2.2.1 p0.2.2.2.2.2.2.2.1)))))))
def sW8 (p0:D28) (p1:D32):Prop:=(f24t p0 p1).1
def f24 (p0:D28) (p1:D32):Bool:=(f24t p0 p1).2
instance (p0:D28) (p1:D32):Decidable (sW8 p0 p1):=by
 unfold sW8 f24t
 try dsimp only
 infer_instance
def rR3:Am.Spec:=fnSpec [(0,(.val T28)),(1,(.val T32))] vB [] (fun x=>sW8 x.1 x.2.1) (fun x=>f24 x.1 x.2.1) (fun _=>())
def oT7:Ctx:=Cx tys [(14,sH2),(16,uL6),(18,uM0),(20,uM3),(29,uC6)] [] [] false 90 [] []
theorem oT8:CtxOk Tryz.prog oT7:=xV6 tys_ok rfl ⟨pU0,rQ6,rQ7,rR,sW7,trivial⟩ rfl (by kernel_rfl)
theorem nF2:SpecOk Tryz.prog 24 rR3:=xX4 oT8 mixed Tryz.func24 (by kernel_rfl) (bs:=[]) (by kernel_rfl) trivial fun x=>by kernel_rfl
def f47 (_p0:Unit) (_p1:Int):List D57:=[]
def rR4 (_p0:Unit) (p1:Int):Prop:=0 ≤ p1 ∧ p1 ≤ 4294967296
instance (p0:Unit) (p1:Int):Decidable (rR4 p0 p1):=by
  unfold rR4
  infer_instance
def nF3:List (Nat × Sh):=[(0,.nil),(1,(.val (.int .i64)))]
def nF4:Sh:=(.own T57 0 true)
def nF5:List (Nat × Sh):=[]
def rR5:Am.Spec:=fnSpec nF3 nF4 nF5 (fun x=>rR4 x.1 x.2.1) (fun x=>f47 x.1 x.2.1) (fun _=>())
theorem nF6:SpecOk Tryz.prog 47 rR5:=xV1 ⟨by kernel_rfl,by kernel_rfl⟩ ⟨_,Tryz.func47,by kernel_rfl,by decide⟩ grow_zero grow_more
abbrev vX8:Type:=((List (List D57)) × (List (List D57)) × Int × Unit)
abbrev vE1:Type:=(Int × Int × Unit)
def sH9 (y:vX8) (x:vE1):Prop × Bool × vE1 :=
 let a9:=y.2.1
 let a3:=x.1
 let a11:=x.2.1
 let v12:=(decide (a11 < y.2.2.1))
 let v17:=(len (nth a9 a11 ([]:List D57)))
 let v18:=(a3 + v17)
 ((v12 = true → (InB a11 (len a9) ∧ (InR (a3 + v17) ∧ (((decide (v18 < 0)) = true → (False ∧ False)) ∧ InR (a11 + 1))))),v12,(v18,(a11 + 1),()))
def vT (y:vX8) (x:vE1):Prop:=(sH9 y x).1
def vX9 (y:vX8) (x:vE1):Bool:=(sH9 y x).2.1
def wP6 (y:vX8) (x:vE1):vE1:=(sH9 y x).2.2
instance (y:vX8) (x:vE1):Decidable (vT y x):=by
 unfold vT sH9
 try dsimp only
 infer_instance
def tS3 (y:vX8) (x:vE1):Int :=
 x.1
def sW9:List (Nat × Sh):=[(0,(.val (.sl (.sl T57)))),(3,vI)]
def tS4:St → Option Out:=xO8 [(0,(.val (.sl (.sl T57)))),(9,(.val (.sl (.sl T57)))),(10,vI)] [(3,vI),(11,vI)] vX9 wP6 vT fun y x=>[ex 2 none sW9 (y.1,(tS3 y x),())]
abbrev vJ8:Type:=((List (List D57)) × Int × Unit)
abbrev wK9:Type:=((List D57) × Int × Unit)
def tD4 (y:vJ8) (x:wK9):Prop × Bool × wK9 :=
 let a25:=y.1
 let a6:=x.1
 let a27:=x.2.1
 let v28:=(decide (a27 < y.2.1))
 let v29:=(nth a25 a27 ([]:List D57))
 ((v28 = true → (InB a27 (len a25) ∧ (((List.length a6 + List.length v29:Nat):Int) ≤ 4294967296 ∧ InR (a27 + 1)))),v28,((a6 ++ v29),(a27 + 1),()))
def vJ9 (y:vJ8) (x:wK9):Prop:=(tD4 y x).1
def wU7 (y:vJ8) (x:wK9):Bool:=(tD4 y x).2.1
def wC0 (y:vJ8) (x:wK9):wK9:=(tD4 y x).2.2
instance (y:vJ8) (x:wK9):Decidable (vJ9 y x):=by
 unfold vJ9 tD4
 try dsimp only
 infer_instance
def tA3 (y:vJ8) (x:wK9):(List D57) :=
 x.1
def tA4:St → Option Out:=xO8 [(25,(.val (.sl (.sl T57)))),(26,vI)] [(6,(.own T57 1006 true)),(27,vI)] wU7 wC0 vJ9 fun y x=>[ex 4 none [(6,(.own T57 1006 true))] ((tA3 y x),())]
def f25t (p0:(List (List D57))):Prop × (List D57) :=
 let y3:=(p0,p0,(len p0),())
 let x3:=((0:Int),(0:Int),())
 let r3_2_0:=(tS3 y3 (zB9 (vX9 y3) (wP6 y3) x3))
 let y11:=(p0,(len p0),())
 let x11:=((f47 () r3_2_0),(0:Int),())
 (((Am.Ends (vX9 y3) (wP6 y3) (vT y3) x3) ∧ ((rR4 () r3_2_0) ∧ (Am.Ends (wU7 y11) (wC0 y11) (vJ9 y11) x11))),(tA3 y11 (zB9 (wU7 y11) (wC0 y11) x11)))
def sX (p0:(List (List D57))):Prop:=(f25t p0).1
def f25 (p0:(List (List D57))):(List D57):=(f25t p0).2
instance (p0:(List (List D57))):Decidable (sX p0):=by
 unfold sX f25t
 try dsimp only
 infer_instance
def rR6:Am.Spec:=fnSpec [(0,(.val (.sl (.sl T57))))] (.val (.sl T57)) [] (fun x=>sX x.1) (fun x=>f25 x.1) (fun _=>())
def rG9:Ctx:=Cx tys [(47,rR5)] [(3,tS4),(11,tA4)] [(19,[(4,0,24,1006)]),(27,[(4,0,33,1006)]),(31,[(1,2,0,0),(4,0,1006,0)])] false 36 [] [33]
theorem rH:CtxOk Tryz.prog rG9:=xV6 tys_ok rfl ⟨nF6,trivial⟩ rfl (by kernel_rfl)
noncomputable def rR7:Code:=Tryz.f25.body.getD .skip
noncomputable def pV3:Code:=xW5 rR7 0
theorem qR1:yU1 Tryz.prog rG9 pV3:=xX3 rH mixed (sp:=tS4) rfl [sW9] (bs:=[]) (by kernel_rfl) trivial (by kernel_rfl) (by kernel_rfl) fun y x=>by kernel_rfl
noncomputable def qR2:Code:=xW5 rR7 1
theorem qA1:yU1 Tryz.prog rG9 qR2:=xX3 rH mixed (sp:=tA4) rfl [[(6,(.own T57 1006 true))]] (bs:=[]) (by kernel_rfl) trivial (by kernel_rfl) (by kernel_rfl) fun y x=>by kernel_rfl
theorem nF7:SpecOk Tryz.prog 25 rR6:=xX4 rH mixed Tryz.func25 (by kernel_rfl) (bs:=[pV3,qR2]) (by kernel_rfl) ⟨qR1,qA1,trivial⟩ fun x=>by kernel_rfl
def f8t (p0:D28) (p1:D32):Prop × (D28 × Int × Unit) :=
 let v10:=(f13 p0)
 let v12:=(v10 != 0)
 let v18:=(!(f24 p0 p1))
 let v46:=(len p1.2.2.2.1)
 let v47:=(p1.2.2.1 + v46)
 let v49:=([(List.take (Int.toNat p1.2.2.1) p0.2.2.2.1),p1.2.2.2.2.1,(List.drop (Int.toNat v47) p0.2.2.2.1)]:List (List D57))
 let v50:=(f25 v49)
 let v51:=(f15 v50)
 let v58:=(f19 p0.2.2.2.2.2.2.1)
 let v61:=(f21 p0.2.2.2.2.2.2.2.1)
 let v70:=(!(f16 p1.2.2.2.2.2.1 p1.2.2.2.2.2.2.1))
 let m7:=(bif v70 then p1.2.1.1 else p1.2.1.1)
 let m7_1:=(bif v70 then p1.2.1.2.1 else p1.2.1.2.1)
 let m7_2:=(bif v70 then p1.2.1.2.2.1 else p1.2.1.2.2.1)
 let m7_3:=(bif v70 then v51 else v51)
 let m7_4:=(bif v70 then p1.2.1.2.2.2.1 else p1.2.1.2.2.2.1)
 let m7_5:=(bif v70 then (f17 p1.2.2.2.2.2.2.1) else (f17 p0.2.2.2.2.2.1))
 let m7_7:=(bif v70 then v61 else v61)
 let v80:=(!(f18 p1.2.2.2.2.2.2.2.1 p1.2.2.2.2.2.2.2.2.1))
 let m7_8:=(bif v80 then m7 else m7)
 let m7_9:=(bif v80 then m7_1 else m7_1)
 let m7_10:=(bif v80 then m7_2 else m7_2)
 let m7_11:=(bif v80 then m7_3 else m7_3)
 let m7_12:=(bif v80 then m7_4 else m7_4)
 let m7_13:=(bif v80 then m7_5 else m7_5)
 let m7_14:=(bif v80 then (f19 p1.2.2.2.2.2.2.2.2.1) else (bif v70 then v58 else v58))
 let v90:=(!(f20 p1.2.2.2.2.2.2.2.2.2.1 p1.2.2.2.2.2.2.2.2.2.2.1))
 let m7_16:=(bif v90 then m7_8 else m7_8)
 let m7_17:=(bif v90 then m7_9 else m7_9)
 let m7_18:=(bif v90 then m7_10 else m7_10)
 let m7_19:=(bif v90 then m7_11 else m7_11)
 let m7_20:=(bif v90 then m7_12 else m7_12)
 let m7_21:=(bif v90 then m7_13 else m7_13)
 let m7_22:=(bif v90 then m7_14 else m7_14)
 let m7_23:=(bif v90 then (f21 p1.2.2.2.2.2.2.2.2.2.2.1) else (bif v80 then m7_7 else m7_7))
 let s:=(m7_16,m7_17,m7_18,m7_19,m7_20,m7_21,m7_22,m7_23,())
 let v96:=(f13 s)
 let v98:=(v96 != 0)
 let s_4:=((bif v12 then (0:Int) else (bif v18 then (0:Int) else (bif v98 then (0:Int) else m7_16))),(bif v12 then (0:Int) else (bif v18 then (0:Int) else (bif v98 then (0:Int) else m7_17))),(bif v12 then (0:Int) else (bif v18 then (0:Int) else (bif v98 then (0:Int) else m7_18))),(bif v12 then [] else (bif v18 then [] else (bif v98 then [] else m7_19))),(bif v12 then (0:Int) else (bif v18 then (0:Int) else (bif v98 then (0:Int) else m7_20))),(bif v12 then ((0:Int),(0:Int),([]:List Int),()) else (bif v18 then ((0:Int),(0:Int),([]:List Int),()) else (bif v98 then ((0:Int),(0:Int),([]:List Int),()) else m7_21))),(bif v12 then [] else (bif v18 then [] else (bif v98 then [] else m7_22))),(bif v12 then [] else (bif v18 then [] else (bif v98 then [] else m7_23))),())
 (((tA p0) ∧ ((!v12) = true → ((sW8 p0 p1) ∧ ((!v18) = true → ((0 ≤ p1.2.2.1 ∧ p1.2.2.1 ≤ len p0.2.2.2.1) ∧ (InR (p1.2.2.1 + v46) ∧ ((0 ≤ v47 ∧ v47 ≤ len p0.2.2.2.1) ∧ ((sX v49) ∧ ((uL4 v50) ∧ ((uL7 p0.2.2.2.2.2.1) ∧ ((vS7 p0.2.2.2.2.2.2.1) ∧ ((vZ7 p0.2.2.2.2.2.2.2.1) ∧ ((uL5 p1.2.2.2.2.2.1 p1.2.2.2.2.2.2.1) ∧ ((v70 = true → (uL7 p1.2.2.2.2.2.2.1)) ∧ ((uM p1.2.2.2.2.2.2.2.1 p1.2.2.2.2.2.2.2.2.1) ∧ ((v80 = true → (vS7 p1.2.2.2.2.2.2.2.2.1)) ∧ ((uM2 p1.2.2.2.2.2.2.2.2.2.1 p1.2.2.2.2.2.2.2.2.2.2.1) ∧ ((v90 = true → (vZ7 p1.2.2.2.2.2.2.2.2.2.2.1)) ∧ (tA s))))))))))))))))))),(s_4,(bif v12 then v10 else (bif v18 then (14:Int) else (bif v98 then v96 else (0:Int)))),()))
def tA9 (p0:D28) (p1:D32):Prop:=(f8t p0 p1).1
def f8 (p0:D28) (p1:D32):(D28 × Int × Unit):=(f8t p0 p1).2
instance (p0:D28) (p1:D32):Decidable (tA9 p0 p1):=by
 unfold tA9 f8t
 try dsimp only
 infer_instance
def sI:Am.Spec:=fnSpec [(0,(.val T28)),(1,(.val T32))] (.tup (.cons (.val T28) (.cons vI .nl))) [] (fun x=>tA9 x.1 x.2.1) (fun x=>f8 x.1 x.2.1) (fun _=>())
def nF8:Ctx:=Cx tys [(13,sH1),(15,tD0),(16,uL6),(17,tD1),(18,uM0),(19,tD2),(20,uM3),(21,tD3),(24,rR3),(25,rR6)] [] [(17,[(4,0,58,400702)]),(25,[(5,0,400702,0),(4,0,83,400702)]),(37,[(4,0,400702,400402)])] false 102 [] []
theorem nF9:CtxOk Tryz.prog nF8:=xV6 tys_ok rfl ⟨pU,qP1,rQ6,qP2,rQ7,qQ,rR,qQ7,nF2,nF7,trivial⟩ rfl (by kernel_rfl)
theorem oT9:SpecOk Tryz.prog 8 sI:=xX4 nF9 mixed Tryz.func8 (by kernel_rfl) (bs:=[]) (by kernel_rfl) trivial fun x=>by kernel_rfl
def f9t (p0:D32):Prop × D32 :=
 let s:=(p0.2.1,p0.1,p0.2.2.1,(f15 p0.2.2.2.2.1),(f15 p0.2.2.2.1),(f17 p0.2.2.2.2.2.2.1),(f17 p0.2.2.2.2.2.1),(f19 p0.2.2.2.2.2.2.2.2.1),(f19 p0.2.2.2.2.2.2.2.1),(f21 p0.2.2.2.2.2.2.2.2.2.2.1),(f21 p0.2.2.2.2.2.2.2.2.2.1),())
 (((uL4 p0.2.2.2.2.1) ∧ ((uL4 p0.2.2.2.1) ∧ ((uL7 p0.2.2.2.2.2.2.1) ∧ ((uL7 p0.2.2.2.2.2.1) ∧ ((vS7 p0.2.2.2.2.2.2.2.2.1) ∧ ((vS7 p0.2.2.2.2.2.2.2.1) ∧ ((vZ7 p0.2.2.2.2.2.2.2.2.2.2.1) ∧ (vZ7 p0.2.2.2.2.2.2.2.2.2.1)))))))),s)
def rH0 (p0:D32):Prop:=(f9t p0).1
def f9 (p0:D32):D32:=(f9t p0).2
instance (p0:D32):Decidable (rH0 p0):=by
 unfold rH0 f9t
 try dsimp only
 infer_instance
def rH1:Am.Spec:=fnSpec [(0,(.val T32))] (.val T32) [] (fun x=>rH0 x.1) (fun x=>f9 x.1) (fun _=>())
def nG:Ctx:=Cx tys [(15,tD0),(17,tD1),(19,tD2),(21,tD3)] [] [(3,[(4,0,23,400204),(4,0,26,400205)])] false 34 [] []
theorem nG0:CtxOk Tryz.prog nG:=xV6 tys_ok rfl ⟨qP1,qP2,qQ,qQ7,trivial⟩ rfl (by kernel_rfl)
theorem nG1:SpecOk Tryz.prog 9 rH1:=xX4 nG0 mixed Tryz.func9 (by kernel_rfl) (bs:=[]) (by kernel_rfl) trivial fun x=>by kernel_rfl
abbrev vE2:Type:=(D24 × D24 × Int × Unit)
abbrev wR3:Type:=(Int × Unit)
def uR6 (y:vE2) (x:wR3):Prop × Bool × wR3 × Bool × Bool :=
 let a2:=y.1
 let a3:=y.2.1
 let a30:=x.1
 let v31:=(decide (a30 < y.2.2.1))
 let v43:=((nth a2.2.2.1 a30 (0:Int)) != (nth a3.2.2.1 a30 (0:Int)))
 ((v31 = true → (InB a30 (len a2.2.2.1) ∧ (InB a30 (len a3.2.2.1) ∧ ((!v43) = true → InR (a30 + 1))))),(v31 && (!v43)),((a30 + 1),()),(v31 && v43),(!v31))
def uM6 (y:vE2) (x:wR3):Prop:=(uR6 y x).1
def wW0 (y:vE2) (x:wR3):Bool:=(uR6 y x).2.1
def wE4 (y:vE2) (x:wR3):wR3:=(uR6 y x).2.2.1
def uM7 (y:vE2) (x:wR3):Bool:=(uR6 y x).2.2.2.1
def qR3 (y:vE2) (x:wR3):Bool:=(uR6 y x).2.2.2.2
instance (y:vE2) (x:wR3):Decidable (uM6 y x):=by
 unfold uM6 uR6
 try dsimp only
 infer_instance
def tS5 (y:vE2) (x:wR3):Bool :=
 false
def tS6:St → Option Out:=xO8 [(2,(.box T24 (.val T24))),(3,(.box T24 (.val T24))),(29,vI)] [(30,vI)] wW0 wE4 uM6 fun y x=>[ex 1 (some (uM7 y x)) [(4,vB)] ((tS5 y x),()),ex 2 (some (qR3 y x)) [] ()]
def f26t (p0:D24) (p1:D24):Prop × Bool :=
 let v26:=(bif (bif (p0.1 != p1.1) then true else (p0.2.1 != p1.2.1)) then true else ((len p0.2.2.1) != (len p1.2.2.1)))
 let y4:=(p0,p1,(len p0.2.2.1),())
 let x4:=((0:Int),())
 let e4:=(zB9 (wW0 y4) (wE4 y4) x4)
 (((!v26) = true → (Am.Ends (wW0 y4) (wE4 y4) (uM6 y4) x4)),(bif v26 then false else (bif (uM7 y4 e4) then (tS5 y4 e4) else true)))
def sX0 (p0:D24) (p1:D24):Prop:=(f26t p0 p1).1
def f26 (p0:D24) (p1:D24):Bool:=(f26t p0 p1).2
instance (p0:D24) (p1:D24):Decidable (sX0 p0 p1):=by
 unfold sX0 f26t
 try dsimp only
 infer_instance
def rR8:Am.Spec:=fnSpec [(0,(.val T24)),(1,(.val T24))] vB [] (fun x=>sX0 x.1 x.2.1) (fun x=>f26 x.1 x.2.1) (fun _=>())
def qR4:Ctx:=Cx tys [] [(4,tS6)] [] false 45 [] []
theorem qR5:CtxOk Tryz.prog qR4:=xV6 tys_ok rfl trivial rfl (by kernel_rfl)
noncomputable def pL6:Code:=Tryz.f26.body.getD .skip
noncomputable def pV4:Code:=xW5 pL6 0
theorem qR6:yU1 Tryz.prog qR4 pV4:=xX3 qR5 mixed (sp:=tS6) rfl [[(4,vB)],[]] (bs:=[]) (by kernel_rfl) trivial (by kernel_rfl) (by kernel_rfl) fun y x=>by kernel_rfl
theorem nG2:SpecOk Tryz.prog 26 rR8:=xX4 qR5 mixed Tryz.func26 (by kernel_rfl) (bs:=[pV4]) (by kernel_rfl) ⟨qR6,trivial⟩ fun x=>by kernel_rfl
abbrev vE3:Type:=((List Int) × (List Int) × Unit)
abbrev wR4:Type:=(Int × Unit)
def uR7 (y:vE3) (x:wR4):Prop × Bool × wR4 × Bool × Bool :=
 let a0:=y.1
 let a1:=y.2.1
 let a5:=x.1
 let v14:=(decide (a5 < (len a0)))
 let v25:=((nth a0 a5 (0:Int)) != (nth a1 a5 (0:Int)))
 ((v14 = true → (InB a5 (len a0) ∧ (InB a5 (len a1) ∧ ((!v25) = true → InR (a5 + 1))))),(v14 && (!v25)),((a5 + 1),()),(v14 && v25),(!v14))
def uM8 (y:vE3) (x:wR4):Prop:=(uR7 y x).1
def uM9 (y:vE3) (x:wR4):Bool:=(uR7 y x).2.1
def vA6 (y:vE3) (x:wR4):wR4:=(uR7 y x).2.2.1
def sX1 (y:vE3) (x:wR4):Bool:=(uR7 y x).2.2.2.1
def qR7 (y:vE3) (x:wR4):Bool:=(uR7 y x).2.2.2.2
instance (y:vE3) (x:wR4):Decidable (uM8 y x):=by
 unfold uM8 uR7
 try dsimp only
 infer_instance
def tS7 (y:vE3) (x:wR4):Bool :=
 false
def tS8:St → Option Out:=xO8 [(0,(.val (.sl (.int .i64)))),(1,(.val (.sl (.int .i64))))] [(5,vI)] uM9 vA6 uM8 fun y x=>[ex 1 (some (sX1 y x)) [(4,vB)] ((tS7 y x),()),ex 2 (some (qR7 y x)) [] ()]
def f70t (p0:(List Int)) (p1:(List Int)):Prop × Bool :=
 let v10:=((len p0) != (len p1))
 let y4:=(p0,p1,())
 let x4:=((0:Int),())
 let e4:=(zB9 (uM9 y4) (vA6 y4) x4)
 (((!v10) = true → (Am.Ends (uM9 y4) (vA6 y4) (uM8 y4) x4)),(bif v10 then false else (bif (sX1 y4 e4) then (tS7 y4 e4) else true)))
def sB2 (p0:(List Int)) (p1:(List Int)):Prop:=(f70t p0 p1).1
def f70 (p0:(List Int)) (p1:(List Int)):Bool:=(f70t p0 p1).2
instance (p0:(List Int)) (p1:(List Int)):Decidable (sB2 p0 p1):=by
 unfold sB2 f70t
 try dsimp only
 infer_instance
def sI0:Am.Spec:=fnSpec [(0,(.val (.sl (.int .i64)))),(1,(.val (.sl (.int .i64))))] vB [] (fun x=>sB2 x.1 x.2.1) (fun x=>f70 x.1 x.2.1) (fun _=>())
def qR8:Ctx:=Cx tys [] [(4,tS8)] [] false 26 [] []
theorem qR9:CtxOk Tryz.prog qR8:=xV6 tys_ok rfl trivial rfl (by kernel_rfl)
noncomputable def pL7:Code:=Tryz.f70.body.getD .skip
noncomputable def pV5:Code:=xW5 pL7 0
theorem qS:yU1 Tryz.prog qR8 pV5:=xX3 qR9 mixed (sp:=tS8) rfl [[(4,vB)],[]] (bs:=[]) (by kernel_rfl) trivial (by kernel_rfl) (by kernel_rfl) fun y x=>by kernel_rfl
theorem pV6:SpecOk Tryz.prog 70 sI0:=xX4 qR9 mixed Tryz.func70 (by kernel_rfl) (bs:=[pV5]) (by kernel_rfl) ⟨qS,trivial⟩ fun x=>by kernel_rfl
def f48t (p0:D24) (p1:D24):Prop × Bool :=
 let v16:=(bif (p0.1 == p1.1) then (p0.2.1 == p1.2.1) else false)
 ((v16 = true → (sB2 p0.2.2.1 p1.2.2.1)),(bif v16 then (f70 p0.2.2.1 p1.2.2.1) else false))
def sX2 (p0:D24) (p1:D24):Prop:=(f48t p0 p1).1
def f48 (p0:D24) (p1:D24):Bool:=(f48t p0 p1).2
instance (p0:D24) (p1:D24):Decidable (sX2 p0 p1):=by
 unfold sX2 f48t
 try dsimp only
 infer_instance
def rR9:Am.Spec:=fnSpec [(0,(.val T24)),(1,(.val T24))] vB [] (fun x=>sX2 x.1 x.2.1) (fun x=>f48 x.1 x.2.1) (fun _=>())
def oU:Ctx:=Cx tys [(70,sI0)] [] [] false 24 [] []
theorem oU0:CtxOk Tryz.prog oU:=xV6 tys_ok rfl ⟨pV6,trivial⟩ rfl (by kernel_rfl)
theorem nG3:SpecOk Tryz.prog 48 rR9:=xX4 oU0 mixed Tryz.func48 (by kernel_rfl) (bs:=[]) (by kernel_rfl) trivial fun x=>by kernel_rfl
abbrev vE4:Type:=(D48 × D48 × Unit)
abbrev wR5:Type:=(Int × Unit)
def uR8 (y:vE4) (x:wR5):Prop × Bool × wR5 × Bool × Bool :=
 let a2:=y.1
 let a3:=y.2.1
 let a5:=x.1
 let v31:=(decide (a5 < (len a2.2.2.1)))
 let v44:=(!(Ty.eqb T50 (nth a2.2.2.1 a5 Z50) (nth a3.2.2.1 a5 Z50)))
 ((v31 = true → (InB a5 (len a2.2.2.1) ∧ (InB a5 (len a3.2.2.1) ∧ ((!v44) = true → InR (a5 + 1))))),(v31 && (!v44)),((a5 + 1),()),(v31 && v44),(!v31))
def uN (y:vE4) (x:wR5):Prop:=(uR8 y x).1
def wW1 (y:vE4) (x:wR5):Bool:=(uR8 y x).2.1
def wE5 (y:vE4) (x:wR5):wR5:=(uR8 y x).2.2.1
def uN0 (y:vE4) (x:wR5):Bool:=(uR8 y x).2.2.2.1
def qS0 (y:vE4) (x:wR5):Bool:=(uR8 y x).2.2.2.2
instance (y:vE4) (x:wR5):Decidable (uN y x):=by
 unfold uN uR8
 try dsimp only
 infer_instance
def tS9 (y:vE4) (x:wR5):Bool :=
 false
def tT:St → Option Out:=xO8 [(2,(.box T48 (.val T48))),(3,(.box T48 (.val T48)))] [(5,vI)] wW1 wE5 uN fun y x=>[ex 1 (some (uN0 y x)) [(4,vB)] ((tS9 y x),()),ex 2 (some (qS0 y x)) [] ()]
def f71t (p0:D48) (p1:D48):Prop × Bool :=
 let v26:=(bif (bif (p0.1 != p1.1) then true else (p0.2.1 != p1.2.1)) then true else ((len p0.2.2.1) != (len p1.2.2.1)))
 let y4:=(p0,p1,())
 let x4:=((0:Int),())
 let e4:=(zB9 (wW1 y4) (wE5 y4) x4)
 (((!v26) = true → (Am.Ends (wW1 y4) (wE5 y4) (uN y4) x4)),(bif v26 then false else (bif (uN0 y4 e4) then (tS9 y4 e4) else true)))
def sX3 (p0:D48) (p1:D48):Prop:=(f71t p0 p1).1
def f71 (p0:D48) (p1:D48):Bool:=(f71t p0 p1).2
instance (p0:D48) (p1:D48):Decidable (sX3 p0 p1):=by
 unfold sX3 f71t
 try dsimp only
 infer_instance
def rS:Am.Spec:=fnSpec [(0,(.val T48)),(1,(.val T48))] vB [] (fun x=>sX3 x.1 x.2.1) (fun x=>f71 x.1 x.2.1) (fun _=>())
def qS1:Ctx:=Cx tys [] [(4,tT)] [] false 45 [] []
theorem qS2:CtxOk Tryz.prog qS1:=xV6 tys_ok rfl trivial rfl (by kernel_rfl)
noncomputable def pL8:Code:=Tryz.f71.body.getD .skip
noncomputable def pV7:Code:=xW5 pL8 0
theorem qS3:yU1 Tryz.prog qS1 pV7:=xX3 qS2 mixed (sp:=tT) rfl [[(4,vB)],[]] (bs:=[]) (by kernel_rfl) trivial (by kernel_rfl) (by kernel_rfl) fun y x=>by kernel_rfl
theorem nG4:SpecOk Tryz.prog 71 rS:=xX4 qS2 mixed Tryz.func71 (by kernel_rfl) (bs:=[pV7]) (by kernel_rfl) ⟨qS3,trivial⟩ fun x=>by kernel_rfl
abbrev vE5:Type:=((List D91) × (List D91) × Unit)
abbrev wR6:Type:=(Int × Unit)
def uR9 (y:vE5) (x:wR6):Prop × Bool × wR6 × Bool × Bool :=
 let a0:=y.1
 let a1:=y.2.1
 let a5:=x.1
 let v14:=(decide (a5 < (len a0)))
 let v25:=(!(Ty.eqb T91 (nth a0 a5 Z91) (nth a1 a5 Z91)))
 ((v14 = true → (InB a5 (len a0) ∧ (InB a5 (len a1) ∧ ((!v25) = true → InR (a5 + 1))))),(v14 && (!v25)),((a5 + 1),()),(v14 && v25),(!v14))
def uN1 (y:vE5) (x:wR6):Prop:=(uR9 y x).1
def uN2 (y:vE5) (x:wR6):Bool:=(uR9 y x).2.1
def vA7 (y:vE5) (x:wR6):wR6:=(uR9 y x).2.2.1
def sX4 (y:vE5) (x:wR6):Bool:=(uR9 y x).2.2.2.1
def qS4 (y:vE5) (x:wR6):Bool:=(uR9 y x).2.2.2.2
instance (y:vE5) (x:wR6):Decidable (uN1 y x):=by
 unfold uN1 uR9
 try dsimp only
 infer_instance
def tT0 (y:vE5) (x:wR6):Bool :=
 false
def tT1:St → Option Out:=xO8 [(0,(.val (.sl T91))),(1,(.val (.sl T91)))] [(5,vI)] uN2 vA7 uN1 fun y x=>[ex 1 (some (sX4 y x)) [(4,vB)] ((tT0 y x),()),ex 2 (some (qS4 y x)) [] ()]
def f72t (p0:(List D91)) (p1:(List D91)):Prop × Bool :=
 let v10:=((len p0) != (len p1))
 let y4:=(p0,p1,())
 let x4:=((0:Int),())
 let e4:=(zB9 (uN2 y4) (vA7 y4) x4)
 (((!v10) = true → (Am.Ends (uN2 y4) (vA7 y4) (uN1 y4) x4)),(bif v10 then false else (bif (sX4 y4 e4) then (tT0 y4 e4) else true)))
def sX5 (p0:(List D91)) (p1:(List D91)):Prop:=(f72t p0 p1).1
def f72 (p0:(List D91)) (p1:(List D91)):Bool:=(f72t p0 p1).2
instance (p0:(List D91)) (p1:(List D91)):Decidable (sX5 p0 p1):=by
 unfold sX5 f72t
 try dsimp only
 infer_instance
def rS0:Am.Spec:=fnSpec [(0,(.val (.sl T91))),(1,(.val (.sl T91)))] vB [] (fun x=>sX5 x.1 x.2.1) (fun x=>f72 x.1 x.2.1) (fun _=>())
def qS5:Ctx:=Cx tys [] [(4,tT1)] [] false 26 [] []
theorem qS6:CtxOk Tryz.prog qS5:=xV6 tys_ok rfl trivial rfl (by kernel_rfl)
noncomputable def pL9:Code:=Tryz.f72.body.getD .skip
noncomputable def pV8:Code:=xW5 pL9 0
theorem qS7:yU1 Tryz.prog qS5 pV8:=xX3 qS6 mixed (sp:=tT1) rfl [[(4,vB)],[]] (bs:=[]) (by kernel_rfl) trivial (by kernel_rfl) (by kernel_rfl) fun y x=>by kernel_rfl
theorem nG5:SpecOk Tryz.prog 72 rS0:=xX4 qS6 mixed Tryz.func72 (by kernel_rfl) (bs:=[pV8]) (by kernel_rfl) ⟨qS7,trivial⟩ fun x=>by kernel_rfl
abbrev vE6:Type:=((List D97) × (List D97) × Unit)
abbrev wR7:Type:=(Int × Unit)
def uS (y:vE6) (x:wR7):Prop × Bool × wR7 × Bool × Bool :=
 let a0:=y.1
 let a1:=y.2.1
 let a5:=x.1
 let v14:=(decide (a5 < (len a0)))
 let v25:=(!(Ty.eqb T97 (nth a0 a5 Z97) (nth a1 a5 Z97)))
 ((v14 = true → (InB a5 (len a0) ∧ (InB a5 (len a1) ∧ ((!v25) = true → InR (a5 + 1))))),(v14 && (!v25)),((a5 + 1),()),(v14 && v25),(!v14))
def uN3 (y:vE6) (x:wR7):Prop:=(uS y x).1
def uN4 (y:vE6) (x:wR7):Bool:=(uS y x).2.1
def vA8 (y:vE6) (x:wR7):wR7:=(uS y x).2.2.1
def sX6 (y:vE6) (x:wR7):Bool:=(uS y x).2.2.2.1
def qS8 (y:vE6) (x:wR7):Bool:=(uS y x).2.2.2.2
instance (y:vE6) (x:wR7):Decidable (uN3 y x):=by
 unfold uN3 uS
 try dsimp only
 infer_instance
def tT2 (y:vE6) (x:wR7):Bool :=
 false
def tT3:St → Option Out:=xO8 [(0,(.val (.sl T97))),(1,(.val (.sl T97)))] [(5,vI)] uN4 vA8 uN3 fun y x=>[ex 1 (some (sX6 y x)) [(4,vB)] ((tT2 y x),()),ex 2 (some (qS8 y x)) [] ()]
def f73t (p0:(List D97)) (p1:(List D97)):Prop × Bool :=
 let v10:=((len p0) != (len p1))
 let y4:=(p0,p1,())
 let x4:=((0:Int),())
 let e4:=(zB9 (uN4 y4) (vA8 y4) x4)
 (((!v10) = true → (Am.Ends (uN4 y4) (vA8 y4) (uN3 y4) x4)),(bif v10 then false else (bif (sX6 y4 e4) then (tT2 y4 e4) else true)))
def sX7 (p0:(List D97)) (p1:(List D97)):Prop:=(f73t p0 p1).1
def f73 (p0:(List D97)) (p1:(List D97)):Bool:=(f73t p0 p1).2
instance (p0:(List D97)) (p1:(List D97)):Decidable (sX7 p0 p1):=by
 unfold sX7 f73t
 try dsimp only
 infer_instance
def rS1:Am.Spec:=fnSpec [(0,(.val (.sl T97))),(1,(.val (.sl T97)))] vB [] (fun x=>sX7 x.1 x.2.1) (fun x=>f73 x.1 x.2.1) (fun _=>())
def qS9:Ctx:=Cx tys [] [(4,tT3)] [] false 26 [] []
theorem qT:CtxOk Tryz.prog qS9:=xV6 tys_ok rfl trivial rfl (by kernel_rfl)
noncomputable def pM:Code:=Tryz.f73.body.getD .skip
noncomputable def pV9:Code:=xW5 pM 0
theorem qT0:yU1 Tryz.prog qS9 pV9:=xX3 qT mixed (sp:=tT3) rfl [[(4,vB)],[]] (bs:=[]) (by kernel_rfl) trivial (by kernel_rfl) (by kernel_rfl) fun y x=>by kernel_rfl
theorem nG6:SpecOk Tryz.prog 73 rS1:=xX4 qT mixed Tryz.func73 (by kernel_rfl) (bs:=[pV9]) (by kernel_rfl) ⟨qT0,trivial⟩ fun x=>by kernel_rfl
abbrev vE7:Type:=(D55 × D55 × Unit)
abbrev wR8:Type:=(Int × Unit)
def uS0 (y:vE7) (x:wR8):Prop × Bool × wR8 × Bool × Bool :=
 let a2:=y.1
 let a3:=y.2.1
 let a5:=x.1
 let v38:=(decide (a5 < (len a2.2.2.2.1)))
 let v51:=(!(Ty.eqb T94 (nth a2.2.2.2.1 a5 Z94) (nth a3.2.2.2.1 a5 Z94)))
 ((v38 = true → (InB a5 (len a2.2.2.2.1) ∧ (InB a5 (len a3.2.2.2.1) ∧ ((!v51) = true → InR (a5 + 1))))),(v38 && (!v51)),((a5 + 1),()),(v38 && v51),(!v38))
def uN5 (y:vE7) (x:wR8):Prop:=(uS0 y x).1
def wW2 (y:vE7) (x:wR8):Bool:=(uS0 y x).2.1
def wE6 (y:vE7) (x:wR8):wR8:=(uS0 y x).2.2.1
def uN6 (y:vE7) (x:wR8):Bool:=(uS0 y x).2.2.2.1
def qT1 (y:vE7) (x:wR8):Bool:=(uS0 y x).2.2.2.2
instance (y:vE7) (x:wR8):Decidable (uN5 y x):=by
 unfold uN5 uS0
 try dsimp only
 infer_instance
def tT4 (y:vE7) (x:wR8):Bool :=
 false
def tT5:St → Option Out:=xO8 [(2,(.box T55 (.val T55))),(3,(.box T55 (.val T55)))] [(5,vI)] wW2 wE6 uN5 fun y x=>[ex 1 (some (uN6 y x)) [(4,vB)] ((tT4 y x),()),ex 2 (some (qT1 y x)) [] ()]
def f74t (p0:D55) (p1:D55):Prop × Bool :=
 let v33:=(bif (bif (bif (p0.1 != p1.1) then true else (p0.2.1 != p1.2.1)) then true else (p0.2.2.1 != p1.2.2.1)) then true else ((len p0.2.2.2.1) != (len p1.2.2.2.1)))
 let y4:=(p0,p1,())
 let x4:=((0:Int),())
 let e4:=(zB9 (wW2 y4) (wE6 y4) x4)
 (((!v33) = true → (Am.Ends (wW2 y4) (wE6 y4) (uN5 y4) x4)),(bif v33 then false else (bif (uN6 y4 e4) then (tT4 y4 e4) else true)))
def sX8 (p0:D55) (p1:D55):Prop:=(f74t p0 p1).1
def f74 (p0:D55) (p1:D55):Bool:=(f74t p0 p1).2
instance (p0:D55) (p1:D55):Decidable (sX8 p0 p1):=by
 unfold sX8 f74t
 try dsimp only
 infer_instance
def rS2:Am.Spec:=fnSpec [(0,(.val T55)),(1,(.val T55))] vB [] (fun x=>sX8 x.1 x.2.1) (fun x=>f74 x.1 x.2.1) (fun _=>())
def qT2:Ctx:=Cx tys [] [(4,tT5)] [] false 52 [] []
theorem qT3:CtxOk Tryz.prog qT2:=xV6 tys_ok rfl trivial rfl (by kernel_rfl)
noncomputable def pM0:Code:=Tryz.f74.body.getD .skip
noncomputable def pW:Code:=xW5 pM0 0
theorem qT4:yU1 Tryz.prog qT2 pW:=xX3 qT3 mixed (sp:=tT5) rfl [[(4,vB)],[]] (bs:=[]) (by kernel_rfl) trivial (by kernel_rfl) (by kernel_rfl) fun y x=>by kernel_rfl
theorem nG7:SpecOk Tryz.prog 74 rS2:=xX4 qT3 mixed Tryz.func74 (by kernel_rfl) (bs:=[pW]) (by kernel_rfl) ⟨qT4,trivial⟩ fun x=>by kernel_rfl
def f49t (p0:D57) (p1:D57):Prop × Bool :=
 let v23:=(bif (bif (f71 p0.2.2.2.2.2.2.2.2.2.2.2.2.1 p1.2.2.2.2.2.2.2.2.2.2.2.2.1) then (Ty.eqb T50 p0.2.2.2.2.2.2.2.2.2.2.2.2.2.1 p1.2.2.2.2.2.2.2.2.2.2.2.2.2.1) else false) then (p0.2.2.2.2.2.2.2.2.2.2.2.2.2.2.1 == p1.2.2.2.2.2.2.2.2.2.2.2.2.2.2.1) else false)
 let v37:=(bif (bif v23 then (f70 p0.2.2.2.2.2.2.2.2.2.2.2.2.2.2.2.1 p1.2.2.2.2.2.2.2.2.2.2.2.2.2.2.2.1) else false) then (p0.2.2.2.2.2.2.2.2.2.2.2.2.2.2.2.2.1 == p1.2.2.2.2.2.2.2.2.2.2.2.2.2.2.2.2.1) else false)
 let v44:=(bif v37 then (f72 p0.2.2.2.2.2.2.2.2.2.2.2.2.2.2.2.2.2.1 p1.2.2.2.2.2.2.2.2.2.2.2.2.2.2.2.2.2.1) else false)
 let v58:=(bif (bif v44 then (f73 p0.2.2.2.2.2.2.2.2.2.2.2.2.2.2.2.2.2.2.1 p1.2.2.2.2.2.2.2.2.2.2.2.2.2.2.2.2.2.2.1) else false) then (p0.2.2.2.2.2.2.2.2.2.2.2.2.2.2.2.2.2.2.2.1 == p1.2.2.2.2.2.2.2.2.2.2.2.2.2.2.2.2.2.2.2.1) else false)
 let v72:=(bif (bif v58 then (p0.2.2.2.2.2.2.2.2.2.2.2.2.2.2.2.2.2.2.2.2.1 == p1.2.2.2.2.2.2.2.2.2.2.2.2.2.2.2.2.2.2.2.2.1) else false) then (p0.2.2.2.2.2.2.2.2.2.2.2.2.2.2.2.2.2.2.2.2.2.1 == p1.2.2.2.2.2.2.2.2.2.2.2.2.2.2.2.2.2.2.2.2.2.1) else false)
 let v86:=(bif (bif v72 then (p0.2.2.2.2.2.2.2.2.2.2.2.2.2.2.2.2.2.2.2.2.2.2.1 == p1.2.2.2.2.2.2.2.2.2.2.2.2.2.2.2.2.2.2.2.2.2.2.1) else false) then (p0.2.2.2.2.2.2.2.2.2.2.2.2.2.2.2.2.2.2.2.2.2.2.2.1 == p1.2.2.2.2.2.2.2.2.2.2.2.2.2.2.2.2.2.2.2.2.2.2.2.1) else false)
 let v100:=(bif (bif v86 then (p0.2.2.2.2.2.2.2.2.2.2.2.2.2.2.2.2.2.2.2.2.2.2.2.2.1 == p1.2.2.2.2.2.2.2.2.2.2.2.2.2.2.2.2.2.2.2.2.2.2.2.2.1) else false) then (p0.2.2.2.2.2.2.2.2.2.2.2.2.2.2.2.2.2.2.2.2.2.2.2.2.2.1 == p1.2.2.2.2.2.2.2.2.2.2.2.2.2.2.2.2.2.2.2.2.2.2.2.2.2.1) else false)
 let v107:=(bif v100 then (p0.2.2.2.2.2.2.2.2.2.2.2.2.2.2.2.2.2.2.2.2.2.2.2.2.2.2.1 == p1.2.2.2.2.2.2.2.2.2.2.2.2.2.2.2.2.2.2.2.2.2.2.2.2.2.2.1) else false)
 (((sX3 p0.2.2.2.2.2.2.2.2.2.2.2.2.1 p1.2.2.2.2.2.2.2.2.2.2.2.2.1) ∧ ((v23 = true → (sB2 p0.2.2.2.2.2.2.2.2.2.2.2.2.2.2.2.1 p1.2.2.2.2.2.2.2.2.2.2.2.2.2.2.2.1)) ∧ ((v37 = true → (sX5 p0.2.2.2.2.2.2.2.2.2.2.2.2.2.2.2.2.2.1 p1.2.2.2.2.2.2.2.2.2.2.2.2.2.2.2.2.2.1)) ∧ ((v44 = true → (sX7 p0.2.2.2.2.2.2.2.2.2.2.2.2.2.2.2.2.2.2.1 p1.2.2.2.2.2.2.2.2.2.2.2.2.2.2.2.2.2.2.1)) ∧ (v107 = true → (sX8 p0.2.2.2.2.2.2.2.2.2.2.2.2.2.2.2.2.2.2.2.2.2.2.2.2.2.2.2.1 p1.2.2.2.2.2.2.2.2.2.2.2.2.2.2.2.2.2.2.2.2.2.2.2.2.2.2.2.1)))))),(bif v107 then (f74 p0.2.2.2.2.2.2.2.2.2.2.2.2.2.2.2.2.2.2.2.2.2.2.2.2.2.2.2.1 p1.2.2.2.2.2.2.2.2.2.2.2.2.2.2.2.2.2.2.2.2.2.2.2.2.2.2.2.1) else false))
def sX9 (p0:D57) (p1:D57):Prop:=(f49t p0 p1).1
def f49 (p0:D57) (p1:D57):Bool:=(f49t p0 p1).2
instance (p0:D57) (p1:D57):Decidable (sX9 p0 p1):=by
 unfold sX9 f49t
 try dsimp only
 infer_instance
def rS3:Am.Spec:=fnSpec [(0,(.val T57)),(1,(.val T57))] vB [] (fun x=>sX9 x.1 x.2.1) (fun x=>f49 x.1 x.2.1) (fun _=>())
def oU1:Ctx:=Cx tys [(70,sI0),(71,rS),(72,rS0),(73,rS1),(74,rS2)] [] [] false 115 [] []
theorem oU2:CtxOk Tryz.prog oU1:=xV6 tys_ok rfl ⟨pV6,nG4,nG5,nG6,nG7,trivial⟩ rfl (by kernel_rfl)
theorem nG8:SpecOk Tryz.prog 49 rS3:=xX4 oU2 mixed Tryz.func49 (by kernel_rfl) (bs:=[]) (by kernel_rfl) trivial fun x=>by kernel_rfl
def f27t (p0:D57) (p1:D57):Prop × Bool :=
 let v37:=(bif (bif (bif (bif (p0.1 == p1.1) then (p0.2.1 == p1.2.1) else false) then (p0.2.2.1 == p1.2.2.1) else false) then (p0.2.2.2.1 == p1.2.2.2.1) else false) then (Ty.eqb .bool p0.2.2.2.2.1 p1.2.2.2.2.1) else false)
 let v58:=(bif (bif (bif v37 then (Ty.eqb .bool p0.2.2.2.2.2.1 p1.2.2.2.2.2.1) else false) then (Ty.eqb .bool p0.2.2.2.2.2.2.1 p1.2.2.2.2.2.2.1) else false) then (p0.2.2.2.2.2.2.2.1 == p1.2.2.2.2.2.2.2.1) else false)
 let v65:=(bif v58 then (p0.2.2.2.2.2.2.2.2.1 == p1.2.2.2.2.2.2.2.2.1) else false)
 let v86:=(bif (bif (bif v65 then (f48 p0.2.2.2.2.2.2.2.2.2.1 p1.2.2.2.2.2.2.2.2.2.1) else false) then (Ty.eqb T45 p0.2.2.2.2.2.2.2.2.2.2.1 p1.2.2.2.2.2.2.2.2.2.2.1) else false) then (p0.2.2.2.2.2.2.2.2.2.2.2.1 == p1.2.2.2.2.2.2.2.2.2.2.2.1) else false)
 (((v65 = true → (sX2 p0.2.2.2.2.2.2.2.2.2.1 p1.2.2.2.2.2.2.2.2.2.1)) ∧ (v86 = true → (sX9 p0 p1))),(bif v86 then (f49 p0 p1) else false))
def sB3 (p0:D57) (p1:D57):Prop:=(f27t p0 p1).1
def f27 (p0:D57) (p1:D57):Bool:=(f27t p0 p1).2
instance (p0:D57) (p1:D57):Decidable (sB3 p0 p1):=by
 unfold sB3 f27t
 try dsimp only
 infer_instance
def rS4:Am.Spec:=fnSpec [(0,(.val T57)),(1,(.val T57))] vB [] (fun x=>sB3 x.1 x.2.1) (fun x=>f27 x.1 x.2.1) (fun _=>())
def oU3:Ctx:=Cx tys [(48,rR9),(49,rS3)] [] [] false 92 [] []
theorem oU4:CtxOk Tryz.prog oU3:=xV6 tys_ok rfl ⟨nG3,nG8,trivial⟩ rfl (by kernel_rfl)
theorem nG9:SpecOk Tryz.prog 27 rS4:=xX4 oU4 mixed Tryz.func27 (by kernel_rfl) (bs:=[]) (by kernel_rfl) trivial fun x=>by kernel_rfl
abbrev vE8:Type:=(D48 × D48 × Unit)
abbrev wR9:Type:=(Int × Unit)
def uS1 (y:vE8) (x:wR9):Prop × Bool × wR9 × Bool × Bool :=
 let a2:=y.1
 let a3:=y.2.1
 let a5:=x.1
 let v31:=(decide (a5 < (len a2.2.2.1)))
 let v44:=(!(Ty.eqb T50 (nth a2.2.2.1 a5 Z50) (nth a3.2.2.1 a5 Z50)))
 ((v31 = true → (InB a5 (len a2.2.2.1) ∧ (InB a5 (len a3.2.2.1) ∧ ((!v44) = true → InR (a5 + 1))))),(v31 && (!v44)),((a5 + 1),()),(v31 && v44),(!v31))
def uN7 (y:vE8) (x:wR9):Prop:=(uS1 y x).1
def wW3 (y:vE8) (x:wR9):Bool:=(uS1 y x).2.1
def wE7 (y:vE8) (x:wR9):wR9:=(uS1 y x).2.2.1
def uN8 (y:vE8) (x:wR9):Bool:=(uS1 y x).2.2.2.1
def qT5 (y:vE8) (x:wR9):Bool:=(uS1 y x).2.2.2.2
instance (y:vE8) (x:wR9):Decidable (uN7 y x):=by
 unfold uN7 uS1
 try dsimp only
 infer_instance
def tT6 (y:vE8) (x:wR9):Bool :=
 false
def tT7:St → Option Out:=xO8 [(2,(.box T48 (.val T48))),(3,(.box T48 (.val T48)))] [(5,vI)] wW3 wE7 uN7 fun y x=>[ex 1 (some (uN8 y x)) [(4,vB)] ((tT6 y x),()),ex 2 (some (qT5 y x)) [] ()]
def f28t (p0:D48) (p1:D48):Prop × Bool :=
 let v26:=(bif (bif (p0.1 != p1.1) then true else (p0.2.1 != p1.2.1)) then true else ((len p0.2.2.1) != (len p1.2.2.1)))
 let y4:=(p0,p1,())
 let x4:=((0:Int),())
 let e4:=(zB9 (wW3 y4) (wE7 y4) x4)
 (((!v26) = true → (Am.Ends (wW3 y4) (wE7 y4) (uN7 y4) x4)),(bif v26 then false else (bif (uN8 y4 e4) then (tT6 y4 e4) else true)))
def sY (p0:D48) (p1:D48):Prop:=(f28t p0 p1).1
def f28 (p0:D48) (p1:D48):Bool:=(f28t p0 p1).2
instance (p0:D48) (p1:D48):Decidable (sY p0 p1):=by
 unfold sY f28t
 try dsimp only
 infer_instance
def rS5:Am.Spec:=fnSpec [(0,(.val T48)),(1,(.val T48))] vB [] (fun x=>sY x.1 x.2.1) (fun x=>f28 x.1 x.2.1) (fun _=>())
def qT6:Ctx:=Cx tys [] [(4,tT7)] [] false 45 [] []
theorem qT7:CtxOk Tryz.prog qT6:=xV6 tys_ok rfl trivial rfl (by kernel_rfl)
noncomputable def pM1:Code:=Tryz.f28.body.getD .skip
noncomputable def pW0:Code:=xW5 pM1 0
theorem qT8:yU1 Tryz.prog qT6 pW0:=xX3 qT7 mixed (sp:=tT7) rfl [[(4,vB)],[]] (bs:=[]) (by kernel_rfl) trivial (by kernel_rfl) (by kernel_rfl) fun y x=>by kernel_rfl
theorem nH:SpecOk Tryz.prog 28 rS5:=xX4 qT7 mixed Tryz.func28 (by kernel_rfl) (bs:=[pW0]) (by kernel_rfl) ⟨qT8,trivial⟩ fun x=>by kernel_rfl
end Go.Proofs.YtigpekbhmpfcoaaGreatDoor.Am
