/- Printed by program, part 2. No condition. -/
import Derived.Test.YtpanghcojpnkaaaGreatDoorDocL
set_option linter.unusedVariables false
set_option synthInstance.maxSize 4000
set_option synthInstance.maxHeartbeats 400000
namespace Go.Proofs.YtpanghcojpnkaaaGreatDoor.Am
open Go Go.Am Go.Proofs
def f51t :Prop×Int:=
 (True,(4:Int))
def sF4 :Prop:=(f51t).1
def f51 :Int:=(f51t).2
instance :Decidable (sF4):=by
 unfold sF4 f51t
 try dsimp only
 infer_instance
def rB7:Am.Spec:=fnSpec [] vI [] (fun x=>sF4 ) (fun x=>f51 ) (fun _=>())
def pL9:Ctx:=Cx tys [] [] [] false 1 [] []
theorem pM:CtxOk Tryz.prog pL9:=cq trivial
theorem oI8:SpecOk Tryz.prog 51 rB7:=fl pM Tryz.func51 (bs:=[]) trivial
def f23t (p0:D28):Prop×Int:=
 let v20:=(bif (bif (bif (decide (p0.1<1)) then true else (decide (p0.1>256))) then true else (decide (p0.2.1<1))) then true else (decide (p0.2.1>256)))
 let v23:=(decide (p0.2.2.1<0))
 (((!v20)=true→((!v23)=true→sF4)),(bif v20 then (15:Int) else (bif (bif v23 then true else (decide (p0.2.2.1≥f51))) then (2:Int) else (0:Int))))
def uY8 p0:=(f23t p0).1
def f23 p0:=(f23t p0).2
instance (p0:D28):Decidable (uY8 p0):=by
 unfold uY8 f23t
 try dsimp only
 infer_instance
def tW7:Am.Spec:=fnSpec [(0,(.val T28))] vI [] (fun x=>uY8 x.1) (fun x=>f23 x.1) (fun _=>())
def pM0:Ctx:=Cx tys [(51,rB7)] [] [] false 30 [] []
theorem pE4:SpecOk Tryz.prog 23 tW7:=fq (c:=pM0) Tryz.func23 ⟨oI8,trivial⟩
def f61t (p0:Int):Prop×Bool:=
 (True,(bif (decide (p0≥0)) then (decide (p0≤65535)) else false))
def sF5 p0:=(f61t p0).1
def f61 p0:=(f61t p0).2
instance (p0:Int):Decidable (sF5 p0):=by
 unfold sF5 f61t
 try dsimp only
 infer_instance
def rB8:Am.Spec:=fnSpec [(0,vI)] vB [] (fun x=>sF5 x.1) (fun x=>f61 x.1) (fun _=>())
def pM1:Ctx:=Cx tys [] [] [] false 9 [] []
theorem oI9:SpecOk Tryz.prog 61 rB8:=fq (c:=pM1) Tryz.func61 trivial
abbrev vB7:Type:=((List Int)×Int×Unit)
abbrev wQ8:Type:=(Int×Unit)
def uK1 (y:vB7)(x:wQ8):Prop×Bool×wQ8×Bool×Bool:=
 let a42:=y.1
 let a44:=x.1
 let v45:=(decide (a44<y.2.1))
 let v46:=(nth a42 a44 (0:Int))
 let v50:=(!(f61 v46))
 ((v45=true→(InB a44 (len a42)∧((sF5 v46)∧((!v50)=true→InR (a44+1))))),(v45&&(!v50)),((a44+1),()),(v45&&v50),(!v45))
def uB5 y x:=(uK1 y x).1
def tW8 y x:=(uK1 y x).2.1
def vY9 y x:=(uK1 y x).2.2.1
def sF6 y x:=(uK1 y x).2.2.2.1
def rU6 y x:=(uK1 y x).2.2.2.2
instance (y:vB7)(x:wQ8):Decidable (uB5 y x):=by
 unfold uB5 uK1
 try dsimp only
 infer_instance
def uY9 (y:vB7)(x:wQ8):Int:=
 (2:Int)
def uZ:St→Option Out:=xP4 [(42,(.val (.sl (.int .i64)))),(43,vI)] [(44,vI)] tW8 vY9 uB5 fun y x=>[ex 1 (some (sF6 y x)) [(2,vI)] ((uY9 y x),()),ex 2 (some (rU6 y x)) [] ()]
def f29t (p0:D24):Prop×Int:=
 let v22:=(bif (bif (bif (decide (p0.1<0)) then true else (decide (p0.1>256))) then true else (decide (p0.2.1<0))) then true else (decide (p0.2.1>256)))
 let v29:=(!(Ty.eqb .bool (p0.1==0) (p0.2.1==0)))
 let v40:=(bif v29 then true else ((len p0.2.2.1)!=(p0.1*p0.2.1)))
 let y6:=(p0.2.2.1,(len p0.2.2.1),())
 let x6:=((0:Int),())
 let e6:=(zC3 (tW8 y6) (vY9 y6) x6)
 (((!v22)=true→(((!v29)=true→InR (p0.1*p0.2.1))∧((!v40)=true→(Am.Ends (tW8 y6) (vY9 y6) (uB5 y6) x6)))),(bif v22 then (15:Int) else (bif v40 then (15:Int) else (bif (sF6 y6 e6) then (uY9 y6 e6) else (0:Int)))))
def tP8 p0:=(f29t p0).1
def f29 p0:=(f29t p0).2
instance (p0:D24):Decidable (tP8 p0):=by
 unfold tP8 f29t
 try dsimp only
 infer_instance
def tW9:Am.Spec:=fnSpec [(0,(.val T24))] vI [] (fun x=>tP8 x.1) (fun x=>f29 x.1) (fun _=>())
def rU7:Ctx:=Cx tys [(61,rB8)] [(6,uZ)] [] false 52 [] []
theorem rU8:CtxOk Tryz.prog rU7:=cq ⟨oI9,trivial⟩
noncomputable def qP1:Code:=Tryz.f29.body.getD .skip
noncomputable def pE5:Code:=xX1 qP1 0
theorem rU9:yU8 Tryz.prog rU7 pE5:=lq rU8 (sp:=uZ) rfl [[(2,vI)],[]]
theorem pE6:SpecOk Tryz.prog 29 tW9:=fl rU8 Tryz.func29 (bs:=[pE5]) ⟨rU9,trivial⟩
def f54t (p0:D49):Prop×Bool:=
 (True,(bif (bif (p0.2.1==7) then true else (p0.2.1==8)) then true else (p0.2.1==11)))
def uZ0 p0:=(f54t p0).1
def f54 p0:=(f54t p0).2
instance (p0:D49):Decidable (uZ0 p0):=by
 unfold uZ0 f54t
 try dsimp only
 infer_instance
def uV4:Am.Spec:=fnSpec [(0,(.val T49))] vB [] (fun x=>uZ0 x.1) (fun x=>f54 x.1) (fun _=>())
def pM2:Ctx:=Cx tys [] [] [] false 16 [] []
theorem rV:SpecOk Tryz.prog 54 uV4:=fq (c:=pM2) Tryz.func54 trivial
def pM3 (p0:Int):Prop×(List UInt8):=
 let v5:=(p0==1)
 let v7:=(p0==2)
 let v9:=(p0==3)
 let v11:=(p0==4)
 let v13:=(p0==5)
 let v15:=(p0==6)
 let v17:=(p0==7)
 let v19:=(p0==8)
 let v21:=(p0==9)
 let v23:=(p0==10)
 let m2_2:=(bif v19 then ([102,105,108,116,101,114]:List UInt8) else (bif v21 then ([108,105,110,107]:List UInt8) else (bif v23 then ([99,108,111,110,101]:List UInt8) else ([119,97,114,112]:List UInt8))))
 let m2_6:=(bif v11 then ([103,114,97,100,105,101,110,116]:List UInt8) else (bif v13 then ([112,97,116,104]:List UInt8) else (bif v15 then ([116,101,120,116]:List UInt8) else (bif v17 then ([97,100,106,117,115,116]:List UInt8) else m2_2))))
 let c_14:=(bif v9 then true else (bif v11 then true else (bif v13 then true else (bif v15 then true else (bif v17 then true else (bif v19 then true else (bif v21 then true else (bif v23 then true else (p0==11)))))))))
 let m2_10:=(bif (bif v5 then true else (bif v7 then true else c_14)) then (bif v5 then ([103,114,111,117,112]:List UInt8) else (bif v7 then ([105,109,97,103,101]:List UInt8) else (bif v9 then ([102,105,108,108]:List UInt8) else m2_6))) else ([]:List UInt8))
 (True,m2_10)
def uZ1 p0:=(pM3 p0).1
def f102 p0:=(pM3 p0).2
instance (p0:Int):Decidable (uZ1 p0):=by
 unfold uZ1 pM3
 try dsimp only
 infer_instance
def sF7:Am.Spec:=fnSpec [(0,vI)] vS [] (fun x=>uZ1 x.1) (fun x=>f102 x.1) (fun _=>())
def qP2:Ctx:=Cx tys [] [] [] false 26 [] []
theorem pM4:SpecOk Tryz.prog 102 sF7:=fq (c:=qP2) Tryz.func102 trivial
abbrev wR8:Type:=((List UInt8)×Int×Unit)
abbrev wK0:Type:=(Int×Unit)
def vT (y:wR8)(x:wK0):Prop×Bool×wK0×Bool×Bool:=
 let a0:=y.1
 let a14:=x.1
 let v15:=(decide (a14<y.2.1))
 let v20:=(decide ((xX4 a0 a14)<33))
 let v26:=(bif v20 then true else (decide ((xX4 a0 a14)>126)))
 ((v15=true→(InB a14 (len a0)∧(((!v20)=true→InB a14 (len a0))∧((!v26)=true→InR (a14+1))))),(v15&&(!v26)),((a14+1),()),(v15&&v26),(!v15))
def vT0 y x:=(vT y x).1
def uZ2 y x:=(vT y x).2.1
def vN5 y x:=(vT y x).2.2.1
def tP9 y x:=(vT y x).2.2.2.1
def rN8 y x:=(vT y x).2.2.2.2
instance (y:wR8)(x:wK0):Decidable (vT0 y x):=by
 unfold vT0 vT
 try dsimp only
 infer_instance
def uN9 (y:wR8)(x:wK0):Bool:=
 false
def uO:St→Option Out:=xP4 [(0,vS),(13,vI)] [(14,vI)] uZ2 vN5 vT0 fun y x=>[ex 1 (some (tP9 y x)) [(2,vB)] ((uN9 y x),()),ex 2 (some (rN8 y x)) [] ()]
def pM5 (p0:List UInt8):Prop×Bool:=
 let v11:=(bif (decide ((len p0)<1)) then true else (decide ((len p0)>32)))
 let y4:=(p0,(len p0),())
 let x4:=((0:Int),())
 let e4:=(zC3 (uZ2 y4) (vN5 y4) x4)
 (((!v11)=true→(Am.Ends (uZ2 y4) (vN5 y4) (vT0 y4) x4)),(bif v11 then false else (bif (tP9 y4 e4) then (uN9 y4 e4) else true)))
def uZ3 p0:=(pM5 p0).1
def f103 p0:=(pM5 p0).2
instance (p0:List UInt8):Decidable (uZ3 p0):=by
 unfold uZ3 pM5
 try dsimp only
 infer_instance
def sF8:Am.Spec:=fnSpec [(0,vS)] vB [] (fun x=>uZ3 x.1) (fun x=>f103 x.1) (fun _=>())
def rB9:Ctx:=Cx tys [] [(4,uO)] [] false 28 [] []
theorem rC:CtxOk Tryz.prog rB9:=cq trivial
noncomputable def rV0:Code:=Tryz.f103.body.getD .skip
noncomputable def rV1:Code:=xX1 rV0 0
theorem rN9:yU8 Tryz.prog rB9 rV1:=lq rC (sp:=uO) rfl [[(2,vB)],[]]
theorem pM6:SpecOk Tryz.prog 103 sF8:=fl rC Tryz.func103 (bs:=[rV1]) ⟨rN9,trivial⟩
def pM7 (p0:Int):Prop×Bool:=
 (True,(bif (decide (p0≥0)) then (decide (p0≤1073741824)) else false))
def uK2 p0:=(pM7 p0).1
def f104 p0:=(pM7 p0).2
instance (p0:Int):Decidable (uK2 p0):=by
 unfold uK2 pM7
 try dsimp only
 infer_instance
def sF9:Am.Spec:=fnSpec [(0,vI)] vB [] (fun x=>uK2 x.1) (fun x=>f104 x.1) (fun _=>())
def qP3:Ctx:=Cx tys [] [] [] false 9 [] []
theorem pM8:SpecOk Tryz.prog 104 sF9:=fq (c:=qP3) Tryz.func104 trivial
def pM9 (p0:Int):Prop×Bool:=
 (True,(bif (decide (p0≥0)) then (decide (p0≤65535)) else false))
def uZ4 p0:=(pM9 p0).1
def f105 p0:=(pM9 p0).2
instance (p0:Int):Decidable (uZ4 p0):=by
 unfold uZ4 pM9
 try dsimp only
 infer_instance
def sG:Am.Spec:=fnSpec [(0,vI)] vB [] (fun x=>uZ4 x.1) (fun x=>f105 x.1) (fun _=>())
def qP4:Ctx:=Cx tys [] [] [] false 9 [] []
theorem pN:SpecOk Tryz.prog 105 sG:=fq (c:=qP4) Tryz.func105 trivial
def pN0 (p0:Int):Prop×Bool:=
 (True,(bif (decide (p0≥0)) then (decide (p0<18)) else false))
def uZ5 p0:=(pN0 p0).1
def f106 p0:=(pN0 p0).2
instance (p0:Int):Decidable (uZ5 p0):=by
 unfold uZ5 pN0
 try dsimp only
 infer_instance
def sG0:Am.Spec:=fnSpec [(0,vI)] vB [] (fun x=>uZ5 x.1) (fun x=>f106 x.1) (fun _=>())
def qP5:Ctx:=Cx tys [] [] [] false 9 [] []
theorem pN1:SpecOk Tryz.prog 106 sG0:=fq (c:=qP5) Tryz.func106 trivial
def f75t (p0:D49)(p1:Int)(p2:Int):Prop×Int:=
 let v21:=(bif (bif (bif (decide (p1<1)) then true else (decide (p1>256))) then true else (decide (p2<1))) then true else (decide (p2>256)))
 let v25:=((f102 p0.2.1)==([]:List UInt8))
 let v29:=(!(f103 p0.2.2.2.1))
 let v33:=(!(f104 p0.1))
 let v39:=(bif v33 then true else (!(f104 p0.2.2.1)))
 let v45:=(bif v39 then true else (!(f105 p0.2.2.2.2.2.2.2.1)))
 let v49:=(!(f106 p0.2.2.2.2.2.2.2.2.1))
 let v58:=(bif v49 then true else (bif (f54 p0) then (p0.2.2.2.2.2.2.2.2.1 !=0) else false))
 let v61:=(f29 p0.2.2.2.2.2.2.2.2.2.1)
 let m6_1:=(bif (v61 !=0) then v61 else (bif (bif (p0.2.2.2.2.2.2.2.2.2.1.1 !=0) then (bif (p0.2.2.2.2.2.2.2.2.2.1.1 !=p1) then true else (p0.2.2.2.2.2.2.2.2.2.1.2.1 !=p2)) else false) then (15:Int) else (0:Int)))
 (((!v21)=true→((uZ1 p0.2.1)∧((!v25)=true→((uZ3 p0.2.2.2.1)∧((!v29)=true→((uK2 p0.1)∧(((!v33)=true→(uK2 p0.2.2.1))∧(((!v39)=true→(uZ4 p0.2.2.2.2.2.2.2.1))∧((!v45)=true→((uZ5 p0.2.2.2.2.2.2.2.2.1)∧(((!v49)=true→(uZ0 p0))∧((!v58)=true→(tP8 p0.2.2.2.2.2.2.2.2.2.1))))))))))))),(bif v21 then (15:Int) else (bif v25 then (8:Int) else (bif v29 then (13:Int) else (bif v45 then (2:Int) else (bif v58 then (8:Int) else m6_1))))))
def sG1 p0 p1 p2:=(f75t p0 p1 p2).1
def f75 p0 p1 p2:=(f75t p0 p1 p2).2
instance (p0:D49)(p1:Int)(p2:Int):Decidable (sG1 p0 p1 p2):=by
 unfold sG1 f75t
 try dsimp only
 infer_instance
def rC0:Am.Spec:=fnSpec [(0,(.val T49)),(1,vI),(2,vI)] vI [] (fun x=>sG1 x.1 x.2.1 x.2.2.1) (fun x=>f75 x.1 x.2.1 x.2.2.1) (fun _=>())
def pN2:Ctx:=Cx tys [(29,tW9),(54,uV4),(102,sF7),(103,sF8),(104,sF9),(105,sG),(106,sG0)] [] [] false 83 [] []
theorem oJ:SpecOk Tryz.prog 75 rC0:=fq (c:=pN2) Tryz.func75 ⟨pE6,rV,pM4,pM6,pM8,pN,pN1,trivial⟩
def f76t (p0:Int):Prop×Bool:=
 let v5:=(p0==2)
 let v6:=(p0==5)
 let v7:=(p0==6)
 let v8:=(p0==9)
 (True,(bif (bif v5 then v5 else (bif v6 then v6 else (bif v7 then v7 else (bif v8 then v8 else (p0==10))))) then true else false))
def tQ p0:=(f76t p0).1
def f76 p0:=(f76t p0).2
instance (p0:Int):Decidable (tQ p0):=by
 unfold tQ f76t
 try dsimp only
 infer_instance
def tX:Am.Spec:=fnSpec [(0,vI)] vB [] (fun x=>tQ x.1) (fun x=>f76 x.1) (fun _=>())
def pN3:Ctx:=Cx tys [] [] [] false 10 [] []
theorem pE7:SpecOk Tryz.prog 76 tX:=fq (c:=pN3) Tryz.func76 trivial
def pN4 (p0:Int)(p1:Int)(p2:Int):Prop×Int:=
 (True,(xW9 p2 (xW8 p0 p1)))
def vZ p0 p1 p2:=(pN4 p0 p1 p2).1
def f138 p0 p1 p2:=(pN4 p0 p1 p2).2
instance (p0:Int)(p1:Int)(p2:Int):Decidable (vZ p0 p1 p2):=by
 unfold vZ pN4
 try dsimp only
 infer_instance
def uB6:Am.Spec:=fnSpec [(0,vI),(1,vI),(2,vI)] vI [] (fun x=>vZ x.1 x.2.1 x.2.2.1) (fun x=>f138 x.1 x.2.1 x.2.2.1) (fun _=>())
def qP6:Ctx:=Cx tys [] [] [] true 12 [] []
theorem sQ9:SpecOk Tryz.prog 138 uB6:=fq (c:=qP6) Tryz.func138 trivial
def pN5 (p0:Int):Prop×Int:=
 ((vZ p0 (-16777216:Int) (16777216:Int)),(f138 p0 (-16777216:Int) (16777216:Int)))
def vN6 p0:=(pN5 p0).1
def f120 p0:=(pN5 p0).2
instance (p0:Int):Decidable (vN6 p0):=by
 unfold vN6 pN5
 try dsimp only
 infer_instance
def sG2:Am.Spec:=fnSpec [(0,vI)] vI [] (fun x=>vN6 x.1) (fun x=>f120 x.1) (fun _=>())
def qP7:Ctx:=Cx tys [(138,uB6)] [] [] false 5 [] []
theorem pN6:SpecOk Tryz.prog 120 sG2:=fq (c:=qP7) Tryz.func120 ⟨sQ9,trivial⟩
def pN7 (p0:Int):Prop×Int:=
 ((vZ p0 (-1099511627776:Int) (1099511627776:Int)),(f138 p0 (-1099511627776:Int) (1099511627776:Int)))
def vD8 p0:=(pN7 p0).1
def f121 p0:=(pN7 p0).2
instance (p0:Int):Decidable (vD8 p0):=by
 unfold vD8 pN7
 try dsimp only
 infer_instance
def uZ6:Am.Spec:=fnSpec [(0,vI)] vI [] (fun x=>vD8 x.1) (fun x=>f121 x.1) (fun _=>())
def qP8:Ctx:=Cx tys [(138,uB6)] [] [] true 5 [] []
theorem rV2:SpecOk Tryz.prog 121 uZ6:=fq (c:=qP8) Tryz.func121 ⟨sQ9,trivial⟩
def pN8 (p0:D37):Prop×D37:=
 (((vN6 p0.1)∧((vN6 p0.2.1)∧((vN6 p0.2.2.1)∧((vN6 p0.2.2.2.1)∧((vD8 p0.2.2.2.2.1)∧(vD8 p0.2.2.2.2.2.1)))))),((f120 p0.1),(f120 p0.2.1),(f120 p0.2.2.1),(f120 p0.2.2.2.1),(f121 p0.2.2.2.2.1),(f121 p0.2.2.2.2.2.1),()))
def uK3 p0:=(pN8 p0).1
def f107 p0:=(pN8 p0).2
instance (p0:D37):Decidable (uK3 p0):=by
 unfold uK3 pN8
 try dsimp only
 infer_instance
def uZ7:Am.Spec:=fnSpec [(0,(.val T37))] (.val T37) [] (fun x=>uK3 x.1) (fun x=>f107 x.1) (fun _=>())
def qP9:Ctx:=Cx tys [(120,sG2),(121,uZ6)] [] [] true 22 [] []
theorem rV3:SpecOk Tryz.prog 107 uZ7:=fq (c:=qP9) Tryz.func107 ⟨pN6,rV2,trivial⟩
def f77t (p0:D37):Prop×Int:=
 ((uK3 p0),(bif (!(Ty.eqb T37 p0 (f107 p0))) then (2:Int) else (0:Int)))
def vX6 p0:=(f77t p0).1
def f77 p0:=(f77t p0).2
instance (p0:D37):Decidable (vX6 p0):=by
 unfold vX6 f77t
 try dsimp only
 infer_instance
def uB7:Am.Spec:=fnSpec [(0,(.val T37))] vI [] (fun x=>vX6 x.1) (fun x=>f77 x.1) (fun _=>())
def pN9:Ctx:=Cx tys [(107,uZ7)] [] [] false 7 [] []
theorem rC1:SpecOk Tryz.prog 77 uB7:=fq (c:=pN9) Tryz.func77 ⟨rV3,trivial⟩
def pO (p0:Int)(p1:Int)(p2:Int)(p3:Int):Prop×Int:=
 let v12:=(f122 p1 (65536:Int))
 let v14:=(f122 p3 (65536:Int))
 let v34:=(IntKind.wrap .i64 ((IntKind.wrap .i64 (p0*(IntKind.wrap .i64 (p1-(IntKind.wrap .i64 (v12*65536))))))+(IntKind.wrap .i64 (p2*(IntKind.wrap .i64 (p3-(IntKind.wrap .i64 (v14*65536))))))))
 (((vY8 p1 (65536:Int))∧((vY8 p3 (65536:Int))∧(wB v34 (65536:Int)))),(IntKind.wrap .i64 ((IntKind.wrap .i64 ((IntKind.wrap .i64 (p0*v12))+(IntKind.wrap .i64 (p2*v14))))+(f108 v34 (65536:Int)))))
def vN7 p0 p1 p2 p3:=(pO p0 p1 p2 p3).1
def f109 p0 p1 p2 p3:=(pO p0 p1 p2 p3).2
instance (p0:Int)(p1:Int)(p2:Int)(p3:Int):Decidable (vN7 p0 p1 p2 p3):=by
 unfold vN7 pO
 try dsimp only
 infer_instance
def uZ8:Am.Spec:=fnSpec [(0,vI),(1,vI),(2,vI),(3,vI)] vI [] (fun x=>vN7 x.1 x.2.1 x.2.2.1 x.2.2.2.1) (fun x=>f109 x.1 x.2.1 x.2.2.1 x.2.2.2.1) (fun _=>())
def qQ:Ctx:=Cx tys [(108,wF7),(122,uY3)] [] [] true 37 [] []
theorem rV4:SpecOk Tryz.prog 109 uZ8:=fq (c:=qQ) Tryz.func109 ⟨wZ2,rT8,trivial⟩
def f78t (p0:D37):Prop×(D37×Int×Unit):=
 let v8:=(f77 p0)
 let v10:=(v8 !=0)
 let v23:=(IntKind.wrap .i64 ((IntKind.wrap .i64 (p0.1*p0.2.2.2.1))-(IntKind.wrap .i64 (p0.2.1*p0.2.2.1))))
 let v25:=(v23==0)
 let v29:=(IntKind.wrap .i64 (p0.2.2.2.1*4294967296))
 let v31:=(f108 v29 v23)
 let v35:=(IntKind.wrap .i64 ((IntKind.wrap .i64 (Int.sub 0 p0.2.1))*4294967296))
 let v37:=(f108 v35 v23)
 let v41:=(IntKind.wrap .i64 ((IntKind.wrap .i64 (Int.sub 0 p0.2.2.1))*4294967296))
 let v43:=(f108 v41 v23)
 let v46:=(IntKind.wrap .i64 (p0.1*4294967296))
 let v48:=(f108 v46 v23)
 let s_2:=(v31,v37,v43,v48,(0:Int),(0:Int),())
 let v52:=((f77 s_2)!=0)
 let v56:=(IntKind.wrap .i64 (Int.sub 0 v31))
 let v61:=(IntKind.wrap .i64 (Int.sub 0 v43))
 let v68:=(IntKind.wrap .i64 (Int.sub 0 v37))
 let v73:=(IntKind.wrap .i64 (Int.sub 0 v48))
 let s_5:=(v31,v37,v43,v48,(f109 v56 p0.2.2.2.2.1 v61 p0.2.2.2.2.2.1),(f109 v68 p0.2.2.2.2.1 v73 p0.2.2.2.2.2.1),())
 let v80:=((f77 s_5)!=0)
 let m2_2:=(bif v25 then ((0:Int),(0:Int),(0:Int),(0:Int),(0:Int),(0:Int),()) else (bif v52 then ((0:Int),(0:Int),(0:Int),(0:Int),(0:Int),(0:Int),()) else (bif v80 then ((0:Int),(0:Int),(0:Int),(0:Int),(0:Int),(0:Int),()) else s_5)))
 (((vX6 p0)∧((!v10)=true→((!v25)=true→((wB v29 v23)∧((wB v35 v23)∧((wB v41 v23)∧((wB v46 v23)∧((vX6 s_2)∧((!v52)=true→((vN7 v56 p0.2.2.2.2.1 v61 p0.2.2.2.2.2.1)∧((vN7 v68 p0.2.2.2.2.1 v73 p0.2.2.2.2.2.1)∧(vX6 s_5)))))))))))),((bif v10 then ((0:Int),(0:Int),(0:Int),(0:Int),(0:Int),(0:Int),()) else m2_2),(bif v10 then v8 else (bif v25 then (17:Int) else (bif v52 then (17:Int) else (bif v80 then (17:Int) else (0:Int))))),()))
def sG3 p0:=(f78t p0).1
def f78 p0:=(f78t p0).2
instance (p0:D37):Decidable (sG3 p0):=by
 unfold sG3 f78t
 try dsimp only
 infer_instance
def rC2:Am.Spec:=fnSpec [(0,(.val T37))] (.tup (.cons (.val T37) (.cons vI .nl))) [] (fun x=>sG3 x.1) (fun x=>f78 x.1) (fun _=>())
def pO0:Ctx:=Cx tys [(77,uB7),(108,wF7),(109,uZ8)] [] [] true 83 [] []
theorem oJ0:SpecOk Tryz.prog 78 rC2:=fq (c:=pO0) Tryz.func78 ⟨rC1,wZ2,rV4,trivial⟩
def f79t (p0:Int):Prop×Bool:=
 let v5:=(p0==2)
 let v6:=(p0==9)
 let v7:=(p0==10)
 (True,(bif (bif v5 then v5 else (bif v6 then v6 else (bif v7 then v7 else (p0==11)))) then true else false))
def tQ0 p0:=(f79t p0).1
def f79 p0:=(f79t p0).2
instance (p0:Int):Decidable (tQ0 p0):=by
 unfold tQ0 f79t
 try dsimp only
 infer_instance
def tX0:Am.Spec:=fnSpec [(0,vI)] vB [] (fun x=>tQ0 x.1) (fun x=>f79 x.1) (fun _=>())
def pO1:Ctx:=Cx tys [] [] [] false 9 [] []
theorem pE8:SpecOk Tryz.prog 79 tX0:=fq (c:=pO1) Tryz.func79 trivial
def f80t (p0:Int):Prop×Bool:=
 (True,(bif (decide (p0≥0)) then (decide (p0≤4)) else false))
def sG4 p0:=(f80t p0).1
def f80 p0:=(f80t p0).2
instance (p0:Int):Decidable (sG4 p0):=by
 unfold sG4 f80t
 try dsimp only
 infer_instance
def rC3:Am.Spec:=fnSpec [(0,vI)] vB [] (fun x=>sG4 x.1) (fun x=>f80 x.1) (fun _=>())
def pO2:Ctx:=Cx tys [] [] [] false 9 [] []
theorem oJ1:SpecOk Tryz.prog 80 rC3:=fq (c:=pO2) Tryz.func80 trivial
def f84t (p0:Int)(p1:Int):Prop×Bool:=
 (True,(bif (bif (bif (bif (decide (p0≥0)) then (decide (p0≤256)) else false) then (decide (p1≥0)) else false) then (decide (p1≤256)) else false) then (Ty.eqb .bool (p0==0) (p1==0)) else false))
def sG5 p0 p1:=(f84t p0 p1).1
def f84 p0 p1:=(f84t p0 p1).2
instance (p0:Int)(p1:Int):Decidable (sG5 p0 p1):=by
 unfold sG5 f84t
 try dsimp only
 infer_instance
def rC4:Am.Spec:=fnSpec [(0,vI),(1,vI)] vB [] (fun x=>sG5 x.1 x.2.1) (fun x=>f84 x.1 x.2.1) (fun _=>())
def pO3:Ctx:=Cx tys [] [] [] false 26 [] []
theorem oJ2:SpecOk Tryz.prog 84 rC4:=fq (c:=pO3) Tryz.func84 trivial
def pO4 (p0:Int):Prop×Int:=
 ((vZ p0 (0:Int) (65535:Int)),(f138 p0 (0:Int) (65535:Int)))
def vN8 p0:=(pO4 p0).1
def f137 p0:=(pO4 p0).2
instance (p0:Int):Decidable (vN8 p0):=by
 unfold vN8 pO4
 try dsimp only
 infer_instance
def sG6:Am.Spec:=fnSpec [(0,vI)] vI [] (fun x=>vN8 x.1) (fun x=>f137 x.1) (fun _=>())
def qQ0:Ctx:=Cx tys [(138,uB6)] [] [] false 5 [] []
theorem pO5:SpecOk Tryz.prog 137 sG6:=fq (c:=qQ0) Tryz.func137 ⟨sQ9,trivial⟩
def pO6 (p0:D42):Prop×D42:=
 (((vN8 p0.1)∧((vN8 p0.2.1)∧((vN8 p0.2.2.1)∧(vN8 p0.2.2.2.1)))),((f137 p0.1),(f137 p0.2.1),(f137 p0.2.2.1),(f137 p0.2.2.2.1),()))
def uZ9 p0:=(pO6 p0).1
def f117 p0:=(pO6 p0).2
instance (p0:D42):Decidable (uZ9 p0):=by
 unfold uZ9 pO6
 try dsimp only
 infer_instance
def sG7:Am.Spec:=fnSpec [(0,(.val T42))] (.val T42) [] (fun x=>uZ9 x.1) (fun x=>f117 x.1) (fun _=>())
def qQ1:Ctx:=Cx tys [(137,sG6)] [] [] false 16 [] []
theorem pO7:SpecOk Tryz.prog 117 sG7:=fq (c:=qQ1) Tryz.func117 ⟨pO5,trivial⟩
def f85t (p0:D42):Prop×Bool:=
 ((uZ9 p0),(Ty.eqb T42 p0 (f117 p0)))
def uO0 p0:=(f85t p0).1
def f85 p0:=(f85t p0).2
instance (p0:D42):Decidable (uO0 p0):=by
 unfold uO0 f85t
 try dsimp only
 infer_instance
def uB8:Am.Spec:=fnSpec [(0,(.val T42))] vB [] (fun x=>uO0 x.1) (fun x=>f85 x.1) (fun _=>())
def pO8:Ctx:=Cx tys [(117,sG7)] [] [] false 7 [] []
theorem rC5:SpecOk Tryz.prog 85 uB8:=fq (c:=pO8) Tryz.func85 ⟨pO7,trivial⟩
abbrev vB8:Type:=((List D42)×Int×Unit)
abbrev wQ9:Type:=(Int×Unit)
def uK4 (y:vB8)(x:wQ9):Prop×Bool×wQ9×Bool×Bool:=
 let a23:=y.1
 let a25:=x.1
 let v26:=(decide (a25<y.2.1))
 let v27:=(nth a23 a25 Z42)
 let v31:=(!(f85 v27))
 ((v26=true→(InB a25 (len a23)∧((uO0 v27)∧((!v31)=true→InR (a25+1))))),(v26&&(!v31)),((a25+1),()),(v26&&v31),(!v26))
def uB9 y x:=(uK4 y x).1
def tX1 y x:=(uK4 y x).2.1
def vZ0 y x:=(uK4 y x).2.2.1
def sG8 y x:=(uK4 y x).2.2.2.1
def rV5 y x:=(uK4 y x).2.2.2.2
instance (y:vB8)(x:wQ9):Decidable (uB9 y x):=by
 unfold uB9 uK4
 try dsimp only
 infer_instance
def tA (y:vB8)(x:wQ9):Int:=
 (2:Int)
def tA0:St→Option Out:=xP4 [(23,(.val (.sl T42))),(24,vI)] [(25,vI)] tX1 vZ0 uB9 fun y x=>[ex 1 (some (sG8 y x)) [(2,vI)] ((tA y x),()),ex 2 (some (rV5 y x)) [] ()]
def f56t (p0:D40):Prop×Int:=
 let v10:=(!(f84 p0.1 p0.2.1))
 let v21:=(bif v10 then true else ((len p0.2.2.1)!=(p0.1*p0.2.1)))
 let y4:=(p0.2.2.1,(len p0.2.2.1),())
 let x4:=((0:Int),())
 let e4:=(zC3 (tX1 y4) (vZ0 y4) x4)
 (((sG5 p0.1 p0.2.1)∧(((!v10)=true→InR (p0.1*p0.2.1))∧((!v21)=true→(Am.Ends (tX1 y4) (vZ0 y4) (uB9 y4) x4)))),(bif v21 then (15:Int) else (bif (sG8 y4 e4) then (tA y4 e4) else (0:Int))))
def tQ1 p0:=(f56t p0).1
def f56 p0:=(f56t p0).2
instance (p0:D40):Decidable (tQ1 p0):=by
 unfold tQ1 f56t
 try dsimp only
 infer_instance
def tX2:Am.Spec:=fnSpec [(0,(.val T40))] vI [] (fun x=>tQ1 x.1) (fun x=>f56 x.1) (fun _=>())
def rV6:Ctx:=Cx tys [(84,rC4),(85,uB8)] [(4,tA0)] [] false 33 [] []
theorem rV7:CtxOk Tryz.prog rV6:=cq ⟨oJ2,rC5,trivial⟩
noncomputable def qQ2:Code:=Tryz.f56.body.getD .skip
noncomputable def pE9:Code:=xX1 qQ2 0
theorem rV8:yU8 Tryz.prog rV6 pE9:=lq rV7 (sp:=tA0) rfl [[(2,vI)],[]]
theorem pF:SpecOk Tryz.prog 56 tX2:=fl rV7 Tryz.func56 (bs:=[pE9]) ⟨rV8,trivial⟩
def pO9 (p0:D42):Prop×Int:=
 ((uO0 p0),(bif (!(f85 p0)) then (2:Int) else (0:Int)))
def vZ1 p0:=(pO9 p0).1
def f110 p0:=(pO9 p0).2
instance (p0:D42):Decidable (vZ1 p0):=by
 unfold vZ1 pO9
 try dsimp only
 infer_instance
def uC:Am.Spec:=fnSpec [(0,(.val T42))] vI [] (fun x=>vZ1 x.1) (fun x=>f110 x.1) (fun _=>())
def qQ3:Ctx:=Cx tys [(85,uB8)] [] [] false 6 [] []
theorem sR:SpecOk Tryz.prog 110 uC:=fq (c:=qQ3) Tryz.func110 ⟨rC5,trivial⟩
def qQ4 (p0:Int)(p1:Int):Prop×Bool:=
 (True,(bif (p0==1) then (p1==4) else (p1==3)))
def tA1 p0 p1:=(qQ4 p0 p1).1
def f139 p0 p1:=(qQ4 p0 p1).2
instance (p0:Int)(p1:Int):Decidable (tA1 p0 p1):=by
 unfold tA1 qQ4
 try dsimp only
 infer_instance
def sG9:Am.Spec:=fnSpec [(0,vI),(1,vI)] vB [] (fun x=>tA1 x.1 x.2.1) (fun x=>f139 x.1 x.2.1) (fun _=>())
def qQ5:Ctx:=Cx tys [] [] [] false 11 [] []
theorem pP:SpecOk Tryz.prog 139 sG9:=fq (c:=qQ5) Tryz.func139 trivial
abbrev wR9:Type:=(Int×(List Int)×(List Int)×Int×Unit)
abbrev wK1:Type:=(Int×Unit)
def vT1 (y:wR9)(x:wK1):Prop×Bool×wK1×Bool×Bool:=
 let a36:=y.2.2.1
 let a38:=x.1
 let v39:=(decide (a38<y.2.2.2.1))
 let v40:=(nth a36 a38 (0:Int))
 let v47:=(bif (decide (v40<(-1048576))) then true else (decide (v40>1048576)))
 ((v39=true→(InB a38 (len a36)∧((!v47)=true→InR (a38+1)))),(v39&&(!v47)),((a38+1),()),(v39&&v47),(!v39))
def vT2 y x:=(vT1 y x).1
def tA2 y x:=(vT1 y x).2.1
def vN9 y x:=(vT1 y x).2.2.1
def tQ2 y x:=(vT1 y x).2.2.2.1
def tQ3 y x:=(vT1 y x).2.2.2.2
instance (y:wR9)(x:wK1):Decidable (vT2 y x):=by
 unfold vT2 vT1
 try dsimp only
 infer_instance
def uO1 (y:wR9)(x:wK1):Int:=
 (2:Int)
def tQ4:List (Nat×Sh):=[(0,vI),(1,(.val (.sl (.int .i64))))]
def uO2:St→Option Out:=xP4 [(0,vI),(1,(.val (.sl (.int .i64)))),(36,(.val (.sl (.int .i64)))),(37,vI)] [(38,vI)] tA2 vN9 vT2 fun y x=>[ex 1 (some (tQ2 y x)) [(8,vI)] ((uO1 y x),()),ex 2 (some (tQ3 y x)) tQ4 (y.1,y.2.1,())]
def pP0 (p0:Int)(p1:List Int)(p2:Int)(p3:Int):Prop×Int:=
 let v24:=(bif (bif (bif (decide (p0<1)) then true else (decide (p0>4))) then true else (decide (p2<0))) then true else (decide (p2>2)))
 let v27:=(len p1)
 let v33:=(bif (!(f139 p0 v27)) then true else (p3==0))
 let v35:=(decide (p3>16))
 let y8:=(p0,p1,p1,(len p1),())
 let x8:=((0:Int),())
 let e8:=(zC3 (tA2 y8) (vN9 y8) x8)
 let v54:=(bif (p0==2) then true else (p0==4))
 let m8_3:=(bif v33 then (1:Int) else (bif v35 then (3:Int) else (bif (tQ2 y8 e8) then (uO1 y8 e8) else (bif (bif v54 then (decide ((nth p1 (2:Int) (0:Int))<0)) else false) then (2:Int) else (0:Int)))))
 (((!v24)=true→((tA1 p0 v27)∧((!v33)=true→((!v35)=true→((Am.Ends (tA2 y8) (vN9 y8) (vT2 y8) x8)∧((tQ3 y8 e8)=true→(v54=true→InB (2:Int) (len p1)))))))),(bif v24 then (8:Int) else m8_3))
def tA3 p0 p1 p2 p3:=(pP0 p0 p1 p2 p3).1
def f123 p0 p1 p2 p3:=(pP0 p0 p1 p2 p3).2
instance (p0:Int)(p1:List Int)(p2:Int)(p3:Int):Decidable (tA3 p0 p1 p2 p3):=by
 unfold tA3 pP0
 try dsimp only
 infer_instance
def sH:Am.Spec:=fnSpec [(0,vI),(1,(.val (.sl (.int .i64)))),(2,vI),(3,vI)] vI [] (fun x=>tA3 x.1 x.2.1 x.2.2.1 x.2.2.2.1) (fun x=>f123 x.1 x.2.1 x.2.2.1 x.2.2.2.1) (fun _=>())
def rC6:Ctx:=Cx tys [(139,sG9)] [(8,uO2)] [] false 61 [] []
theorem rC7:CtxOk Tryz.prog rC6:=cq ⟨pP,trivial⟩
noncomputable def rV9:Code:=Tryz.f123.body.getD .skip
noncomputable def rW:Code:=xX1 rV9 0
theorem rO:yU8 Tryz.prog rC6 rW:=lq rC7 (sp:=uO2) rfl [[(8,vI)],tQ4]
theorem pP1:SpecOk Tryz.prog 123 sH:=fl rC7 Tryz.func123 (bs:=[rW]) ⟨rO,trivial⟩
abbrev wS:Type:=((List D122)×(List D122)×Int×Unit)
abbrev wK2:Type:=(Int×Unit)
def vT3 (y:wS)(x:wK2):Prop×Bool×wK2×Bool×Bool:=
 let a0:=y.1
 let a5:=y.2.1
 let a7:=x.1
 let v8:=(decide (a7<y.2.2.1))
 let v10:=(nth a5 a7 Z122)
 let v19:=(bif (decide (v10.1<0)) then true else (decide (v10.1>65535)))
 let v25:=(bif v19 then true else (!(f85 v10.2.1)))
 let v27:=(decide (a7>0))
 let v33:=(a7-1)
 let v38:=(bif v27 then (decide (v10.1≤(nth a0 v33 Z122).1)) else false)
 let c_2:=((!v25)&&(!v38))
 ((v8=true→(InB a7 (len a5)∧(((!v19)=true→(uO0 v10.2.1))∧(((!v25)=true→((v27=true→InR (a7-1))∧(v27=true→InB v33 (len a0))))∧(c_2=true→InR (a7+1)))))),(v8&&c_2),((a7+1),()),(v8&&(v25||((!v25)&&v38))),(!v8))
def vT4 y x:=(vT3 y x).1
def tA4 y x:=(vT3 y x).2.1
def vO y x:=(vT3 y x).2.2.1
def tQ5 y x:=(vT3 y x).2.2.2.1
def rO0 y x:=(vT3 y x).2.2.2.2
instance (y:wS)(x:wK2):Decidable (vT4 y x):=by
 unfold vT4 vT3
 try dsimp only
 infer_instance
def uO3 (y:wS)(x:wK2):Int:=
 let v10:=(nth y.2.1 x.1 Z122)
 (bif (bif (bif (decide (v10.1<0)) then true else (decide (v10.1>65535))) then true else (!(f85 v10.2.1))) then (2:Int) else (24:Int))
def uO4:St→Option Out:=xP4 [(0,(.val (.sl T122))),(5,(.val (.sl T122))),(6,vI)] [(7,vI)] tA4 vO vT4 fun y x=>[ex 1 (some (tQ5 y x)) [(2,vI)] ((uO3 y x),()),ex 2 (some (rO0 y x)) [] ()]
def pP2 (p0:List D122):Prop×Int:=
 let y2:=(p0,p0,(len p0),())
 let x2:=((0:Int),())
 let e2:=(zC3 (tA4 y2) (vO y2) x2)
 ((Am.Ends (tA4 y2) (vO y2) (vT4 y2) x2),(bif (tQ5 y2 e2) then (uO3 y2 e2) else (0:Int)))
def tA5 p0:=(pP2 p0).1
def f124 p0:=(pP2 p0).2
instance (p0:List D122):Decidable (tA5 p0):=by
 unfold tA5 pP2
 try dsimp only
 infer_instance
def sH0:Am.Spec:=fnSpec [(0,(.val (.sl T122)))] vI [] (fun x=>tA5 x.1) (fun x=>f124 x.1) (fun _=>())
def rC8:Ctx:=Cx tys [(85,uB8)] [(2,uO4)] [] false 40 [] []
theorem rC9:CtxOk Tryz.prog rC8:=cq ⟨rC5,trivial⟩
noncomputable def rW0:Code:=Tryz.f124.body.getD .skip
noncomputable def rW1:Code:=xX1 rW0 0
theorem rO1:yU8 Tryz.prog rC8 rW1:=lq rC9 (sp:=uO4) rfl [[(2,vI)],[]]
theorem pP3:SpecOk Tryz.prog 124 sH0:=fl rC9 Tryz.func124 (bs:=[rW1]) ⟨rO1,trivial⟩
def pP4 (p0:Int)(p1:List Int)(p2:Int)(p3:List D122):Prop×Int:=
 let v14:=(len p3)
 let v15:=(f123 p0 p1 p2 v14)
 let v17:=(v15 !=0)
 (((tA3 p0 p1 p2 v14)∧((!v17)=true→(tA5 p3))),(bif v17 then v15 else (f124 p3)))
def tA6 p0 p1 p2 p3:=(pP4 p0 p1 p2 p3).1
def f111 p0 p1 p2 p3:=(pP4 p0 p1 p2 p3).2
instance (p0:Int)(p1:List Int)(p2:Int)(p3:List D122):Decidable (tA6 p0 p1 p2 p3):=by
 unfold tA6 pP4
 try dsimp only
 infer_instance
def sH1:Am.Spec:=fnSpec [(0,vI),(1,(.val (.sl (.int .i64)))),(2,vI),(3,(.val (.sl T122)))] vI [] (fun x=>tA6 x.1 x.2.1 x.2.2.1 x.2.2.2.1) (fun x=>f111 x.1 x.2.1 x.2.2.1 x.2.2.2.1) (fun _=>())
def qQ6:Ctx:=Cx tys [(123,sH),(124,sH0)] [] [] false 21 [] []
theorem pP5:SpecOk Tryz.prog 111 sH1:=fq (c:=qQ6) Tryz.func111 ⟨pP1,pP3,trivial⟩
def qQ7 (p0:Int):Prop×Int:=
 let v5:=(p0==3)
 let v7:=(p0==4)
 (True,(bif (bif v5 then true else (bif v7 then true else (p0==5))) then (bif v5 then (2:Int) else (bif v7 then (3:Int) else (0:Int))) else (1:Int)))
def uK5 p0:=(qQ7 p0).1
def f141 p0:=(qQ7 p0).2
instance (p0:Int):Decidable (uK5 p0):=by
 unfold uK5 qQ7
 try dsimp only
 infer_instance
def tA7:Am.Spec:=fnSpec [(0,vI)] vI [] (fun x=>uK5 x.1) (fun x=>f141 x.1) (fun _=>())
def qQ8:Ctx:=Cx tys [] [] [] false 10 [] []
theorem rW2:SpecOk Tryz.prog 141 tA7:=fq (c:=qQ8) Tryz.func141 trivial
def pP6 (p0:D125):Prop×Bool:=
 (True,(bif (bif (bif (decide (p0.1<(-16777216))) then true else (decide (p0.1>16777216))) then true else (decide (p0.2.1<(-16777216)))) then true else (decide (p0.2.1>16777216))))
def vO0 p0:=(pP6 p0).1
def f143 p0:=(pP6 p0).2
instance (p0:D125):Decidable (vO0 p0):=by
 unfold vO0 pP6
 try dsimp only
 infer_instance
def uC0:Am.Spec:=fnSpec [(0,(.val T125))] vB [] (fun x=>vO0 x.1) (fun x=>f143 x.1) (fun _=>())
def qQ9:Ctx:=Cx tys [] [] [] false 21 [] []
theorem sR0:SpecOk Tryz.prog 143 uC0:=fq (c:=qQ9) Tryz.func143 trivial
abbrev wO2:Type:=((List D128)×Int×D128×(List D128)×Int×Int×(List D125)×Unit)
abbrev wK3:Type:=(Int×Unit)
def vB9 (y:wO2)(x:wK3):Prop×Bool×wK3×Bool×Bool:=
 let a4:=y.2.2.1
 let a27:=x.1
 let v28:=(decide (a27<3))
 let v30:=(nth y.2.2.2.2.2.2.1 a27 Z125)
 let v32:=(f143 v30)
 let v44:=(bif v32 then true else (bif (decide (a27≥(f141 a4.1))) then (!(Ty.eqb T125 v30 ((0:Int),(0:Int),()))) else false))
 ((v28=true→(InB a27 3∧((vO0 v30)∧(((!v32)=true→(uK5 a4.1))∧((!v44)=true→InR (a27+1)))))),(v28&&(!v44)),((a27+1),()),(v28&&v44),(!v28))
def wX4 y x:=(vB9 y x).1
def wK4 y x:=(vB9 y x).2.1
def wE8 y x:=(vB9 y x).2.2.1
def wX5 y x:=(vB9 y x).2.2.2.1
def uK6 y x:=(vB9 y x).2.2.2.2
instance (y:wO2)(x:wK3):Decidable (wX4 y x):=by
 unfold wX4 vB9
 try dsimp only
 infer_instance
def vO1 (y:wO2)(x:wK3):Int:=
 (2:Int)
def tQ6:List (Nat×Sh):=[(0,(.val (.sl T128))),(3,vI),(4,(.box T128 (.val T128))),(10,(.val (.sl T128))),(11,vI),(12,vI)]
def uO5:St→Option Out:=xP4 [(0,(.val (.sl T128))),(3,vI),(4,(.box T128 (.val T128))),(10,(.val (.sl T128))),(11,vI),(12,vI),(26,(.val (.arr 3 T125)))] [(27,vI)] wK4 wE8 wX4 fun y x=>[ex 1 (some (wX5 y x)) [(2,vI)] ((vO1 y x),()),ex 4 (some (uK6 y x)) tQ6 (y.1,y.2.1,y.2.2.1,y.2.2.2.1,y.2.2.2.2.1,y.2.2.2.2.2.1,())]
abbrev wS0:Type:=((List D128)×(List D128)×Int×Unit)
abbrev wG9:Type:=(Int×Unit)
def wV6 (y:wS0)(x:wG9):Prop×Bool×wG9×Bool×Bool:=
 let a0:=y.1
 let a10:=y.2.1
 let a11:=y.2.2.1
 let a12:=x.1
 let v13:=(decide (a12<a11))
 let v15:=(nth a10 a12 Z128)
 let v24:=(bif (decide (v15.1<1)) then true else (decide (v15.1>5)))
 let y9:=(a0,a12,v15,a10,a11,a12,v15.2.1,())
 let x9:=((0:Int),())
 let e9:=(zC3 (wK4 y9) (wE8 y9) x9)
 let q9_4:=(uK6 y9 e9)
 let v48:=(v15.1 !=1)
 let v51:=(a12==0)
 let v55:=(a12-1)
 let v61:=(bif v48 then (bif v51 then true else ((nth a0 v55 Z128).1==5)) else false)
 let c_5:=((!v24)&&(q9_4&&(!v61)))
 ((v13=true→(InB a12 (len a10)∧(((!v24)=true→((Am.Ends (wK4 y9) (wE8 y9) (wX4 y9) x9)∧(q9_4=true→(((v48&&(!v51))=true→InR (a12-1))∧((v48&&(!v51))=true→InB v55 (len a0))))))∧(c_5=true→InR (a12+1))))),(v13&&c_5),((a12+1),()),(v13&&(v24||((!v24)&&((wX5 y9 e9)||(q9_4&&v61))))),(!v13))
def vE8 y x:=(wV6 y x).1
def wH y x:=(wV6 y x).2.1
def wE9 y x:=(wV6 y x).2.2.1
def vE9 y x:=(wV6 y x).2.2.2.1
def rO2 y x:=(wV6 y x).2.2.2.2
instance (y:wS0)(x:wG9):Decidable (vE8 y x):=by
 unfold vE8 wV6
 try dsimp only
 infer_instance
def vO2 (y:wS0)(x:wG9):Int:=
 let a10:=y.2.1
 let a12:=x.1
 let v15:=(nth a10 a12 Z128)
 let y9:=(y.1,a12,v15,a10,y.2.2.1,a12,v15.2.1,())
 let e9:=(zC3 (wK4 y9) (wE8 y9) ((0:Int),()))
 (bif (bif (decide (v15.1<1)) then true else (decide (v15.1>5))) then (8:Int) else (bif (wX5 y9 e9) then (vO1 y9 e9) else (24:Int)))
def uO6:St→Option Out:=xP4 [(0,(.val (.sl T128))),(10,(.val (.sl T128))),(11,vI)] [(12,vI)] wH wE9 vE8 fun y x=>[ex 1 (some (vE9 y x)) [(2,vI)] ((vO2 y x),()),ex 2 (some (rO2 y x)) [] ()]
def qR (p0:List D128):Prop×Int:=
 let v9:=(decide ((len p0)>128))
 let y4:=(p0,p0,(len p0),())
 let x4:=((0:Int),())
 let e4:=(zC3 (wH y4) (wE9 y4) x4)
 (((!v9)=true→(Am.Ends (wH y4) (wE9 y4) (vE8 y4) x4)),(bif v9 then (3:Int) else (bif (vE9 y4 e4) then (vO2 y4 e4) else (0:Int))))
def vO3 p0:=(qR p0).1
def f140 p0:=(qR p0).2
instance (p0:List D128):Decidable (vO3 p0):=by
 unfold vO3 qR
 try dsimp only
 infer_instance
def vO4:Am.Spec:=fnSpec [(0,(.val (.sl T128)))] vI [] (fun x=>vO3 x.1) (fun x=>f140 x.1) (fun _=>())
def tX3:Ctx:=Cx tys [(141,tA7),(143,uC0)] [(9,uO5),(4,uO6)] [] false 63 [] []
theorem tX4:CtxOk Tryz.prog tX3:=cq ⟨rW2,sR0,trivial⟩
noncomputable def rW3:Code:=Tryz.f140.body.getD .skip
noncomputable def sR1:Code:=xX1 rW3 0
noncomputable def rW4:Code:=xX1 sR1 0
theorem rO3:yU8 Tryz.prog tX3 rW4:=lq tX4 (sp:=uO5) rfl [[(2,vI)],tQ6]
theorem rO4:yU8 Tryz.prog tX3 sR1:=xX9 tX4 mixed (sp:=uO6) rfl [[(2,vI)],[]] (bs:=[rW4]) (by kernel_rfl) ⟨rO3,trivial⟩ (by kernel_rfl) (by kernel_rfl) fun y x=>by kernel_rfl
theorem tX5:SpecOk Tryz.prog 140 vO4:=fl tX4 Tryz.func140 (bs:=[sR1]) ⟨rO4,trivial⟩
def pP7 (p0:D37)(p1:D125):Prop×D125:=
 let v8:=(f107 p0)
 let v11:=(f121 p1.1)
 let v14:=(f121 p1.2.1)
 let v24:=(IntKind.wrap .i64 ((f109 v8.1 v11 v8.2.2.1 v14)+v8.2.2.2.2.1))
 let v35:=(IntKind.wrap .i64 ((f109 v8.2.1 v11 v8.2.2.2.1 v14)+v8.2.2.2.2.2.1))
 (((uK3 p0)∧((vD8 p1.1)∧((vD8 p1.2.1)∧((vN7 v8.1 v11 v8.2.2.1 v14)∧((vD8 v24)∧((vN7 v8.2.1 v11 v8.2.2.2.1 v14)∧(vD8 v35))))))),((f121 v24),(f121 v35),()))
def tA8 p0 p1:=(pP7 p0 p1).1
def f155 p0 p1:=(pP7 p0 p1).2
instance (p0:D37)(p1:D125):Decidable (tA8 p0 p1):=by
 unfold tA8 pP7
 try dsimp only
 infer_instance
def sH2:Am.Spec:=fnSpec [(0,(.val T37)),(1,(.val T125))] (.val T125) [] (fun x=>tA8 x.1 x.2.1) (fun x=>f155 x.1 x.2.1) (fun _=>())
def qR0:Ctx:=Cx tys [(107,uZ7),(109,uZ8),(121,uZ6)] [] [] true 38 [] []
theorem pP8:SpecOk Tryz.prog 155 sH2:=fq (c:=qR0) Tryz.func155 ⟨rV3,rV4,rV2,trivial⟩
def pP9 (p0:D37)(p1:D125):Prop×D125:=
 let s:=((IntKind.wrap .i64 (4096*p1.1)),(IntKind.wrap .i64 (4096*p1.2.1)),())
 let v14:=(f155 p0 s)
 (((tA8 p0 s)∧((wB v14.1 (4096:Int))∧(wB v14.2.1 (4096:Int)))),((f108 v14.1 (4096:Int)),(f108 v14.2.1 (4096:Int)),()))
def uK7 p0 p1:=(pP9 p0 p1).1
def f142 p0 p1:=(pP9 p0 p1).2
instance (p0:D37)(p1:D125):Decidable (uK7 p0 p1):=by
 unfold uK7 pP9
 try dsimp only
 infer_instance
def tA9:Am.Spec:=fnSpec [(0,(.val T37)),(1,(.val T125))] (.val T125) [] (fun x=>uK7 x.1 x.2.1) (fun x=>f142 x.1 x.2.1) (fun _=>())
def qR1:Ctx:=Cx tys [(108,wF7),(155,sH2)] [] [] true 22 [] []
theorem rW5:SpecOk Tryz.prog 142 tA9:=fq (c:=qR1) Tryz.func142 ⟨wZ2,pP8,trivial⟩
abbrev wE3:Type:=(D37×Int×D128×(List D128)×Int×Int×Int×Unit)
abbrev wC8:Type:=((List D128)×Int×Unit)
def vF (y:wE3)(x:wC8):Prop×Bool×wC8×Bool×Bool:=
 let a3:=y.1
 let a9:=y.2.1
 let a8:=x.1
 let a42:=x.2.1
 let v43:=(decide (a42<y.2.2.2.2.2.2.1))
 let v49:=(nth y.2.2.1.2.1 a42 Z125)
 let v50:=(f142 a3 v49)
 let v52:=(f143 v50)
 ((v43=true→(InB a42 3∧((uK7 a3 v49)∧((vO0 v50)∧(((!v52)=true→(InB a9 (len a8)∧(InB a42 3∧a9<len a8)))∧((!v52)=true→InR (a42+1))))))),(v43&&(!v52)),((List.set a8 (Int.toNat a9) ((nth a8 a9 Z128).1,(List.set (nth a8 a9 Z128).2.1 (Int.toNat a42) v50),())),(a42+1),()),(v43&&v52),(!v43))
def wP6 y x:=(vF y x).1
def wI9 y x:=(vF y x).2.1
def wB9 y x:=(vF y x).2.2.1
def tB y x:=(vF y x).2.2.2.1
def tB0 y x:=(vF y x).2.2.2.2
instance (y:wE3)(x:wC8):Decidable (wP6 y x):=by
 unfold wP6 vF
 try dsimp only
 infer_instance
def vJ2 (y:wE3)(x:wC8):(List D128):=
 ([]:List D128)
def uC1 (y:wE3)(x:wC8):Int:=
 (2:Int)
def tB1:List (Nat×Sh):=[(4,(.own T128 0 false)),(5,vI)]
def uC2 (y:wE3)(x:wC8):(List D128):=
 x.1
def tB2:List (Nat×Sh):=[(3,(.box T37 (.val T37))),(8,(.own T128 1008 true)),(26,(.val (.sl T128))),(27,vI),(28,vI)]
def uC3:St→Option Out:=xP4 [(3,(.box T37 (.val T37))),(9,vI),(10,(.box T128 (.val T128))),(26,(.val (.sl T128))),(27,vI),(28,vI),(41,vI)] [(8,(.own T128 1008 true)),(42,vI)] wI9 wB9 wP6 fun y x=>[ex 1 (some (tB y x)) tB1 ((vJ2 y x),(uC1 y x),()),ex 4 (some (tB0 y x)) tB2 (y.1,(uC2 y x),y.2.2.2.1,y.2.2.2.2.1,y.2.2.2.2.2.1,())]
abbrev wK5:Type:=(D37×(List D128)×Int×Unit)
abbrev wE4:Type:=((List D128)×Int×Unit)
def vT5 (y:wK5)(x:wE4):Prop×Bool×wE4×Bool×Bool:=
 let a26:=y.2.1
 let a27:=y.2.2.1
 let a8:=x.1
 let a28:=x.2.1
 let v29:=(decide (a28<a27))
 let v31:=(nth a26 a28 Z128)
 let y13:=(y.1,a28,v31,a26,a27,a28,(f141 v31.1),())
 let x13:=((List.set a8 (Int.toNat a28) (v31.1,(nth a8 a28 Z128).2.1,())),(0:Int),())
 let e13:=(zC3 (wI9 y13) (wB9 y13) x13)
 let q13_4:=(tB0 y13 e13)
 ((v29=true→(InB a28 (len a26)∧(InB a28 (len a8)∧(a28<len a8∧((uK5 v31.1)∧((Am.Ends (wI9 y13) (wB9 y13) (wP6 y13) x13)∧(q13_4=true→InR (a28+1)))))))),(v29&&q13_4),((uC2 y13 e13),(a28+1),()),(v29&&(tB y13 e13)),(!v29))
def wX6 y x:=(vT5 y x).1
def vF0 y x:=(vT5 y x).2.1
def wH0 y x:=(vT5 y x).2.2.1
def uK8 y x:=(vT5 y x).2.2.2.1
def rO5 y x:=(vT5 y x).2.2.2.2
instance (y:wK5)(x:wE4):Decidable (wX6 y x):=by
 unfold wX6 vT5
 try dsimp only
 infer_instance
def vO5 (y:wK5)(x:wE4):(List D128):=
 let a26:=y.2.1
 let a8:=x.1
 let a28:=x.2.1
 let v31:=(nth a26 a28 Z128)
 let y13:=(y.1,a28,v31,a26,y.2.2.1,a28,(f141 v31.1),())
 (vJ2 y13 (zC3 (wI9 y13) (wB9 y13) ((List.set a8 (Int.toNat a28) (v31.1,(nth a8 a28 Z128).2.1,())),(0:Int),())))
def uO7 (y:wK5)(x:wE4):Int:=
 let a26:=y.2.1
 let a8:=x.1
 let a28:=x.2.1
 let v31:=(nth a26 a28 Z128)
 let y13:=(y.1,a28,v31,a26,y.2.2.1,a28,(f141 v31.1),())
 (uC1 y13 (zC3 (wI9 y13) (wB9 y13) ((List.set a8 (Int.toNat a28) (v31.1,(nth a8 a28 Z128).2.1,())),(0:Int),())))
def tQ7:List (Nat×Sh):=[(4,(.own T128 0 false)),(5,vI)]
def vO6 (y:wK5)(x:wE4):(List D128):=
 x.1
def uO8:St→Option Out:=xP4 [(3,(.box T37 (.val T37))),(26,(.val (.sl T128))),(27,vI)] [(8,(.own T128 1008 true)),(28,vI)] vF0 wH0 wX6 fun y x=>[ex 1 (some (uK8 y x)) tQ7 ((vO5 y x),(uO7 y x),()),ex 2 (some (rO5 y x)) [(8,(.own T128 1008 true))] ((vO6 y x),())]
def qR2 (p0:List D128)(p1:D37):Prop×((List D128)×Int×Unit):=
 let v14:=(f140 p0)
 let v16:=(v14 !=0)
 let v19:=(f77 p1)
 let v21:=(v19 !=0)
 let v24:=(len p0)
 let y9:=(p1,p0,(len p0),())
 let x9:=((List.replicate (Int.toNat v24) Z128),(0:Int),())
 let e9:=(zC3 (vF0 y9) (wH0 y9) x9)
 let q9_1:=(uK8 y9 e9)
 (((vO3 p0)∧((!v16)=true→((vX6 p1)∧((!v21)=true→((0≤v24∧v24≤v24∧v24≤4294967296)∧(Am.Ends (vF0 y9) (wH0 y9) (wX6 y9) x9)))))),((bif v16 then [] else (bif v21 then [] else (bif q9_1 then (vO5 y9 e9) else (vO6 y9 e9)))),(bif v16 then v14 else (bif v21 then v19 else (bif q9_1 then (uO7 y9 e9) else (0:Int)))),()))
def tB3 p0 p1:=(qR2 p0 p1).1
def f125 p0 p1:=(qR2 p0 p1).2
instance (p0:List D128)(p1:D37):Decidable (tB3 p0 p1):=by
 unfold tB3 qR2
 try dsimp only
 infer_instance
def sH3:Am.Spec:=fnSpec [(0,(.val (.sl T128))),(1,(.val T37))] (.tup (.cons (.val (.sl T128)) (.cons vI .nl))) [] (fun x=>tB3 x.1 x.2.1) (fun x=>f125 x.1 x.2.1) (fun _=>())
def tX6:Ctx:=Cx tys [(77,uB7),(140,vO4),(141,tA7),(142,tA9),(143,uC0)] [(13,uC3),(9,uO8)] [(15,[(4,0,25,1008)]),(43,[(1,4,0,0),(4,0,1008,0)])] false 63 [] [25]
theorem tX7:CtxOk Tryz.prog tX6:=cq ⟨rC1,tX5,rW2,rW5,sR0,trivial⟩
noncomputable def rW6:Code:=Tryz.f125.body.getD .skip
noncomputable def sR2:Code:=xX1 rW6 0
noncomputable def rD:Code:=xX1 sR2 0
theorem sR3:yU8 Tryz.prog tX6 rD:=lq tX7 (sp:=uC3) rfl [tB1,tB2]
theorem rO6:yU8 Tryz.prog tX6 sR2:=xX9 tX7 mixed (sp:=uO8) rfl [tQ7,[(8,(.own T128 1008 true))]] (bs:=[rD]) (by kernel_rfl) ⟨sR3,trivial⟩ (by kernel_rfl) (by kernel_rfl) fun y x=>by kernel_rfl
theorem pQ:SpecOk Tryz.prog 125 sH3:=fl tX7 Tryz.func125 (bs:=[sR2]) ⟨rO6,trivial⟩
def uC4 (p0:D125)(p1:List D125):Prop×(Unit)×((List D125)×Unit):=
 let v7:=(IntKind.wrap .i64 ((len p1)-1))
 let v10:=(!(Ty.eqb T125 p0 (nth p1 v7 Z125)))
 let v13:=([p0]:List D125)
 ((InB v7 (len p1)∧(v10=true→((List.length p1+List.length v13:Nat):Int)≤4294967296)),(),((bif v10 then (p1++v13) else p1),()))
def wP7 p0 p1:=(uC4 p0 p1).1
def pQ0 p0 p1:=(uC4 p0 p1).2.1
def wH1 p0 p1:=(uC4 p0 p1).2.2
instance (p0:D125)(p1:List D125):Decidable (wP7 p0 p1):=by
 unfold wP7 uC4
 try dsimp only
 infer_instance
def uO9:Am.Spec:=fnSpec [(0,(.val T125)),(1,(.box (.sl T125) (.own T125 400100 false)))] (.tup .nl) [(1,(.box (.sl T125) (.own T125 400100 false)))] (fun x=>wP7 x.1 x.2.1) (fun x=>pQ0 x.1 x.2.1) (fun x=>wH1 x.1 x.2.1)
def sR4:Ctx:=Cx tys [] [] [(5,[(4,0,14,400100)])] true 15 [1] []
theorem rO7:SpecOk Tryz.prog 156 uO9:=fq (c:=sR4) Tryz.func156 trivial
abbrev wH2:Type:=(D128×D125×(Unit×Unit)×Unit)
abbrev wF:Type:=((List D125)×Int×Unit)
def wZ4 (y:wH2)(x:wF):Prop×Bool×wF:=
 let a3:=y.1
 let a5:=y.2.1
 let a2:=x.1
 let a7:=x.2.1
 let v37:=(decide (a7≤8))
 let v41:=(IntKind.wrap .i64 (8-a7))
 let v44:=(IntKind.wrap .i64 (v41*v41))
 let v48:=(IntKind.wrap .i64 ((IntKind.wrap .i64 (2*a7))*v41))
 let v51:=(IntKind.wrap .i64 (a7*a7))
 let v70:=(IntKind.wrap .i64 ((IntKind.wrap .i64 ((IntKind.wrap .i64 (v44*a5.1))+(IntKind.wrap .i64 (v48*((nth a3.2.1 (0:Int) Z125).1)))))+(IntKind.wrap .i64 (v51*((nth a3.2.1 (1:Int) Z125).1)))))
 let v89:=(IntKind.wrap .i64 ((IntKind.wrap .i64 ((IntKind.wrap .i64 (v44*a5.2.1))+(IntKind.wrap .i64 (v48*((nth a3.2.1 (0:Int) Z125).2.1)))))+(IntKind.wrap .i64 (v51*((nth a3.2.1 (1:Int) Z125).2.1)))))
 let s:=((f108 v70 (64:Int)),(f108 v89 (64:Int)),())
 ((v37=true→(InB (0:Int) 3∧(InB (1:Int) 3∧((wB v70 (64:Int))∧(InB (0:Int) 3∧(InB (1:Int) 3∧((wB v89 (64:Int))∧(wP7 s a2)))))))),v37,((wH1 s a2).1,(IntKind.wrap .i64 (a7+1)),()))
def wJ y x:=(wZ4 y x).1
def wH3 y x:=(wZ4 y x).2.1
def wB3 y x:=(wZ4 y x).2.2
instance (y:wH2)(x:wF):Decidable (wJ y x):=by
 unfold wJ wZ4
 try dsimp only
 infer_instance
def wZ5 (y:wH2)(x:wF):(List D125):=
 x.1
def uC5:List (Nat×Sh):=[(2,(.box (.sl T125) (.own T125 400200 false)))]
def vO7:St→Option Out:=xP4 [(3,(.box T128 (.val T128))),(5,(.box T125 (.val T125))),(6,(.fn 156 (.cons (.ref 2 (.sl T125)) .nl)))] [(2,(.box (.sl T125) (.own T125 400200 false))),(7,vI)] wH3 wB3 wJ fun y x=>[ex 3 none uC5 ((wZ5 y x),())]
abbrev wF4:Type:=(D128×D125×(Unit×Unit)×Unit)
abbrev wD:Type:=((List D125)×Int×Unit)
def wS1 (y:wF4)(x:wD):Prop×Bool×wD:=
 let a3:=y.1
 let a5:=y.2.1
 let a2:=x.1
 let a12:=x.2.1
 let v96:=(decide (a12≤16))
 let v100:=(IntKind.wrap .i64 (16-a12))
 let v105:=(IntKind.wrap .i64 ((IntKind.wrap .i64 (v100*v100))*v100))
 let v111:=(IntKind.wrap .i64 ((IntKind.wrap .i64 ((IntKind.wrap .i64 (3*a12))*v100))*v100))
 let v117:=(IntKind.wrap .i64 ((IntKind.wrap .i64 ((IntKind.wrap .i64 (3*a12))*a12))*v100))
 let v122:=(IntKind.wrap .i64 ((IntKind.wrap .i64 (a12*a12))*a12))
 let v141:=(IntKind.wrap .i64 ((IntKind.wrap .i64 ((IntKind.wrap .i64 (v105*a5.1))+(IntKind.wrap .i64 (v111*((nth a3.2.1 (0:Int) Z125).1)))))+(IntKind.wrap .i64 (v117*((nth a3.2.1 (1:Int) Z125).1)))))
 let v148:=(IntKind.wrap .i64 (v141+(IntKind.wrap .i64 (v122*((nth a3.2.1 (2:Int) Z125).1)))))
 let v167:=(IntKind.wrap .i64 ((IntKind.wrap .i64 ((IntKind.wrap .i64 (v105*a5.2.1))+(IntKind.wrap .i64 (v111*((nth a3.2.1 (0:Int) Z125).2.1)))))+(IntKind.wrap .i64 (v117*((nth a3.2.1 (1:Int) Z125).2.1)))))
 let v174:=(IntKind.wrap .i64 (v167+(IntKind.wrap .i64 (v122*((nth a3.2.1 (2:Int) Z125).2.1)))))
 let s:=((f108 v148 (4096:Int)),(f108 v174 (4096:Int)),())
 ((v96=true→(InB (0:Int) 3∧(InB (1:Int) 3∧(InB (2:Int) 3∧((wB v148 (4096:Int))∧(InB (0:Int) 3∧(InB (1:Int) 3∧(InB (2:Int) 3∧((wB v174 (4096:Int))∧(wP7 s a2)))))))))),v96,((wH1 s a2).1,(IntKind.wrap .i64 (a12+1)),()))
def wG y x:=(wS1 y x).1
def wF5 y x:=(wS1 y x).2.1
def wA7 y x:=(wS1 y x).2.2
instance (y:wF4)(x:wD):Decidable (wG y x):=by
 unfold wG wS1
 try dsimp only
 infer_instance
def wU8 (y:wF4)(x:wD):(List D125):=
 x.1
def vX7:List (Nat×Sh):=[(2,(.box (.sl T125) (.own T125 400200 false)))]
def vN0:St→Option Out:=xP4 [(3,(.box T128 (.val T128))),(5,(.box T125 (.val T125))),(6,(.fn 156 (.cons (.ref 2 (.sl T125)) .nl)))] [(2,(.box (.sl T125) (.own T125 400200 false))),(12,vI)] wF5 wA7 wG fun y x=>[ex 5 none vX7 ((wU8 y x),())]
def uV5 (p0:List D125)(p1:D128):Prop×(List D125):=
 let v21:=(IntKind.wrap .i64 ((len p0)-1))
 let v22:=(nth p0 v21 Z125)
 let v28:=(p1.1==2)
 let v32:=(nth p1.2.1 (0:Int) Z125)
 let v35:=(p1.1==3)
 let y8:=(p1,v22,((),()),())
 let x8:=(p0,(1:Int),())
 let v94:=(p1.1==4)
 let y15:=(p1,v22,((),()),())
 let x15:=(p0,(1:Int),())
 let m2_2:=(bif v28 then (wH1 v32 p0).1 else (bif v35 then (wZ5 y8 (zC3 (wH3 y8) (wB3 y8) x8)) else (bif v94 then (wU8 y15 (zC3 (wF5 y15) (wA7 y15) x15)) else p0)))
 ((InB v21 (len p0)∧((v28=true→(InB (0:Int) 3∧(wP7 v32 p0)))∧(v28=false→((v35=true→(Am.Ends (wH3 y8) (wB3 y8) (wJ y8) x8))∧(v35=false→(v94=true→(Am.Ends (wF5 y15) (wA7 y15) (wG y15) x15))))))),m2_2)
def vF1 p0 p1:=(uV5 p0 p1).1
def vZ2 p0 p1:=(uV5 p0 p1).2
instance (p0:List D125)(p1:D128):Decidable (vF1 p0 p1):=by
 unfold vF1 uV5
 try dsimp only
 infer_instance
def uP:Am.Spec:=fnSpec [(0,(.own T125 400000 false)),(1,(.val T128))] (.own T125 0 false) [] (fun x=>vF1 x.1 x.2.1) (fun x=>vZ2 x.1 x.2.1) (fun _=>())
def vZ3:Ctx:={ Cx tys [(108,wF7),(156,uO9)] [(8,vO7),(15,vN0)] [(1,[(4,0,400000,400200)]),(41,[(4,0,400200,0)])] true 179 [] [] with wants:=[(156,[])] }
theorem vZ4:CtxOk Tryz.prog vZ3:=cq ⟨wZ2,rO7,trivial⟩
noncomputable def uP0:Code:=Tryz.f144.body.getD .skip
noncomputable def tQ8:Code:=xX1 uP0 0
theorem tX8:yU8 Tryz.prog vZ3 tQ8:=lq vZ4 (sp:=vO7) rfl [uC5]
noncomputable def tB4:Code:=xX1 uP0 1
theorem tP2:yU8 Tryz.prog vZ3 tB4:=lq vZ4 (sp:=vN0) rfl [vX7]
theorem rO8:SpecOk Tryz.prog 144 uP:=fl vZ4 Tryz.func144 (bs:=[tQ8,tB4]) ⟨tX8,tP2,trivial⟩
abbrev vF2:Type:=((List D128)×(List D128)×Int×Unit)
abbrev wO3:Type:=((List (List D125))×(List D125)×Int×Unit)
def vT6 (y:vF2)(x:wO3):Prop×Bool×wO3:=
 let a0:=y.1
 let a14:=y.2.1
 let a5:=x.1
 let a6:=x.2.1
 let a16:=x.2.2.1
 let v17:=(decide (a16<y.2.2.1))
 let v19:=(nth a14 a16 Z128)
 let v23:=(v19.1==1)
 let m6:=(bif v23 then ([(nth v19.2.1 (0:Int) Z125)]:List D125) else (vZ2 a6 v19))
 let v33:=(len a0)
 let v35:=(a16==(v33-1))
 let v39:=(a16+1)
 let v44:=(bif v35 then true else ((nth a0 v39 Z128).1==1))
 let v47:=([m6]:List (List D125))
 ((v17=true→(InB a16 (len a14)∧((v23=true→InB (0:Int) 3)∧((v23=false→(vF1 a6 v19))∧(InR (v33-1)∧(((!v35)=true→InR (a16+1))∧(((!v35)=true→InB v39 (len a0))∧((v44=true→((List.length a5+List.length v47:Nat):Int)≤4294967296)∧InR (a16+1))))))))),v17,((bif v44 then (a5++v47) else a5),m6,(a16+1),()))
def wX7 y x:=(vT6 y x).1
def vF3 y x:=(vT6 y x).2.1
def wF0 y x:=(vT6 y x).2.2
instance (y:vF2)(x:wO3):Decidable (wX7 y x):=by
 unfold wX7 vT6
 try dsimp only
 infer_instance
def vO8 (y:vF2)(x:wO3):(List (List D125)):=
 x.1
def tQ9:List (Nat×Sh):=[(5,(.own (.sl T125) 1005 false))]
def uP1:St→Option Out:=xP4 [(0,(.val (.sl T128))),(14,(.val (.sl T128))),(15,vI)] [(5,(.own (.sl T125) 1005 false)),(6,(.own T125 1006 false)),(16,vI)] vF3 wF0 wX7 fun y x=>[ex 2 none tQ9 ((vO8 y x),())]
def qR3 (p0:List D128):Prop×((List (List D125))×Int×Unit):=
 let v10:=(f140 p0)
 let v12:=(v10 !=0)
 let y7:=(p0,p0,(len p0),())
 let x7:=(([]:List (List D125)),([]:List D125),(0:Int),())
 (((vO3 p0)∧((!v12)=true→(Am.Ends (vF3 y7) (wF0 y7) (wX7 y7) x7))),((bif v12 then [] else (vO8 y7 (zC3 (vF3 y7) (wF0 y7) x7))),(bif v12 then v10 else (0:Int)),()))
def vO9 p0:=(qR3 p0).1
def f126 p0:=(qR3 p0).2
instance (p0:List D128):Decidable (vO9 p0):=by
 unfold vO9 qR3
 try dsimp only
 infer_instance
def tB5:Am.Spec:=fnSpec [(0,(.val (.sl T128)))] (.tup (.cons (.own (.sl T125) 0 false) (.cons vI .nl))) [] (fun x=>vO9 x.1) (fun x=>f126 x.1) (fun _=>())
def rD0:Ctx:={ Cx tys [(140,vO4),(144,uP)] [(7,uP1)] [(21,[(4,0,27,1006)]),(23,[(4,0,30,1006)]),(27,[(4,0,48,1005)]),(31,[(4,0,1005,0)])] false 51 [] [] with wants:=[(144,[0])] }
theorem rD1:CtxOk Tryz.prog rD0:=cq ⟨tX5,rO8,trivial⟩
noncomputable def rW7:Code:=Tryz.f126.body.getD .skip
noncomputable def rW8:Code:=xX1 rW7 0
theorem rO9:yU8 Tryz.prog rD0 rW8:=lq rD1 (sp:=uP1) rfl [tQ9]
theorem rW9:SpecOk Tryz.prog 126 tB5:=fl rD1 Tryz.func126 (bs:=[rW8]) ⟨rO9,trivial⟩
abbrev vF4:Type:=((List D128)×(List D128)×Int×Unit)
abbrev wS2:Type:=((List Bool)×Int×Unit)
def uC6 (y:vF4)(x:wS2):Prop×Bool×wS2:=
 let a0:=y.1
 let a13:=y.2.1
 let a5:=x.1
 let a15:=x.2.1
 let v16:=(decide (a15<y.2.2.1))
 let v22:=(len a0)
 let v24:=(a15==(v22-1))
 let v28:=(a15+1)
 let v33:=(bif v24 then true else ((nth a0 v28 Z128).1==1))
 let v38:=([((nth a13 a15 Z128).1 !=5)]:List Bool)
 ((v16=true→(InB a15 (len a13)∧(InR (v22-1)∧(((!v24)=true→InR (a15+1))∧(((!v24)=true→InB v28 (len a0))∧((v33=true→((List.length a5+List.length v38:Nat):Int)≤4294967296)∧InR (a15+1))))))),v16,((bif v33 then (a5++v38) else a5),(a15+1),()))
def vT7 y x:=(uC6 y x).1
def tB6 y x:=(uC6 y x).2.1
def vC y x:=(uC6 y x).2.2
instance (y:vF4)(x:wS2):Decidable (vT7 y x):=by
 unfold vT7 uC6
 try dsimp only
 infer_instance
def uP2 (y:vF4)(x:wS2):(List Bool):=
 x.1
def uP3:St→Option Out:=xP4 [(0,(.val (.sl T128))),(13,(.val (.sl T128))),(14,vI)] [(5,(.own .bool 1005 false)),(15,vI)] tB6 vC vT7 fun y x=>[ex 2 none [(5,(.own .bool 1005 false))] ((uP2 y x),())]
def pQ1 (p0:List D128):Prop×((List Bool)×Int×Unit):=
 let v9:=(f140 p0)
 let v11:=(v9 !=0)
 let y6:=(p0,p0,(len p0),())
 let x6:=(([]:List Bool),(0:Int),())
 (((vO3 p0)∧((!v11)=true→(Am.Ends (tB6 y6) (vC y6) (vT7 y6) x6))),((bif v11 then [] else (uP2 y6 (zC3 (tB6 y6) (vC y6) x6))),(bif v11 then v9 else (0:Int)),()))
def tB7 p0:=(pQ1 p0).1
def f127 p0:=(pQ1 p0).2
instance (p0:List D128):Decidable (tB7 p0):=by
 unfold tB7 pQ1
 try dsimp only
 infer_instance
def sH4:Am.Spec:=fnSpec [(0,(.val (.sl T128)))] (.tup (.cons (.own .bool 0 false) (.cons vI .nl))) [] (fun x=>tB7 x.1) (fun x=>f127 x.1) (fun _=>())
def rD2:Ctx:=Cx tys [(140,vO4)] [(6,uP3)] [(19,[(4,0,39,1005)]),(23,[(4,0,1005,0)])] false 42 [] []
theorem rD3:CtxOk Tryz.prog rD2:=cq ⟨tX5,trivial⟩
noncomputable def rX:Code:=Tryz.f127.body.getD .skip
noncomputable def rX0:Code:=xX1 rX 0
theorem rP:yU8 Tryz.prog rD2 rX0:=lq rD3 (sp:=uP3) rfl [[(5,(.own .bool 1005 false))]]
theorem pQ2:SpecOk Tryz.prog 127 sH4:=fl rD3 Tryz.func127 (bs:=[rX0]) ⟨rP,trivial⟩
abbrev wS3:Type:=((List (List D125))×(List (List D125))×Int×Unit)
abbrev wK6:Type:=(Int×Int×Unit)
def vT8 (y:wS3)(x:wK6):Prop×Bool×wK6×Bool×Bool:=
 let a18:=y.2.1
 let a5:=x.1
 let a20:=x.2.1
 let v21:=(decide (a20<y.2.2.1))
 let v26:=(len (nth a18 a20 ([]:List D125)))
 let v27:=(a5+v26)
 let v29:=(decide (v27>4096))
 ((v21=true→(InB a20 (len a18)∧(InR (a5+v26)∧((!v29)=true→InR (a20+1))))),(v21&&(!v29)),(v27,(a20+1),()),(v21&&v29),(!v21))
def vT9 y x:=(vT8 y x).1
def tB8 y x:=(vT8 y x).2.1
def vP y x:=(vT8 y x).2.2.1
def tR y x:=(vT8 y x).2.2.2.1
def tR0 y x:=(vT8 y x).2.2.2.2
instance (y:wS3)(x:wK6):Decidable (vT9 y x):=by
 unfold vT9 vT8
 try dsimp only
 infer_instance
def uP4 (y:wS3)(x:wK6):Int:=
 (3:Int)
def uP5:St→Option Out:=xP4 [(0,(.val (.sl (.sl T125)))),(18,(.val (.sl (.sl T125)))),(19,vI)] [(5,vI),(20,vI)] tB8 vP vT9 fun y x=>[ex 1 (some (tR y x)) [(4,vI)] ((uP4 y x),()),ex 2 (some (tR0 y x)) [(0,(.val (.sl (.sl T125))))] (y.1,())]
abbrev wM9:Type:=((List (List D125))×Int×Int×(List D125)×Int×Unit)
abbrev wG0:Type:=(Int×Unit)
def vF5 (y:wM9)(x:wG0):Prop×Bool×wG0×Bool×Bool:=
 let a37:=y.2.2.2.1
 let a39:=x.1
 let v40:=(decide (a39<y.2.2.2.2.1))
 let v41:=(nth a37 a39 Z125)
 let v60:=(bif (bif (bif (decide (v41.1<(-16777216))) then true else (decide (v41.1>16777216))) then true else (decide (v41.2.1<(-16777216)))) then true else (decide (v41.2.1>16777216)))
 ((v40=true→(InB a39 (len a37)∧((!v60)=true→InR (a39+1)))),(v40&&(!v60)),((a39+1),()),(v40&&v60),(!v40))
def vJ3 y x:=(vF5 y x).1
def vU y x:=(vF5 y x).2.1
def wV7 y x:=(vF5 y x).2.2.1
def tB9 y x:=(vF5 y x).2.2.2.1
def tC y x:=(vF5 y x).2.2.2.2
instance (y:wM9)(x:wG0):Decidable (vJ3 y x):=by
 unfold vJ3 vF5
 try dsimp only
 infer_instance
def uC7 (y:wM9)(x:wG0):Int:=
 (2:Int)
def tC0:List (Nat×Sh):=[(31,(.val (.sl (.sl T125)))),(32,vI),(33,vI)]
def uC8:St→Option Out:=xP4 [(31,(.val (.sl (.sl T125)))),(32,vI),(33,vI),(37,(.val (.sl T125))),(38,vI)] [(39,vI)] vU wV7 vJ3 fun y x=>[ex 1 (some (tB9 y x)) [(4,vI)] ((uC7 y x),()),ex 6 (some (tC y x)) tC0 (y.1,y.2.1,y.2.2.1,())]
abbrev wN:Type:=((List (List D125))×Int×Unit)
abbrev wG1:Type:=(Int×Unit)
def vF6 (y:wN)(x:wG1):Prop×Bool×wG1×Bool×Bool:=
 let a31:=y.1
 let a32:=y.2.1
 let a33:=x.1
 let v34:=(decide (a33<a32))
 let v35:=(nth a31 a33 ([]:List D125))
 let y15:=(a31,a32,a33,v35,(len v35),())
 let x15:=((0:Int),())
 let e15:=(zC3 (vU y15) (wV7 y15) x15)
 let q15_6:=(tC y15 e15)
 ((v34=true→(InB a33 (len a31)∧((Am.Ends (vU y15) (wV7 y15) (vJ3 y15) x15)∧(q15_6=true→InR (a33+1))))),(v34&&q15_6),((a33+1),()),(v34&&(tB9 y15 e15)),(!v34))
def vJ4 y x:=(vF6 y x).1
def uK9 y x:=(vF6 y x).2.1
def vJ5 y x:=(vF6 y x).2.2.1
def tC1 y x:=(vF6 y x).2.2.2.1
def sR5 y x:=(vF6 y x).2.2.2.2
instance (y:wN)(x:wG1):Decidable (vJ4 y x):=by
 unfold vJ4 vF6
 try dsimp only
 infer_instance
def uC9 (y:wN)(x:wG1):Int:=
 let a31:=y.1
 let a33:=x.1
 let v35:=(nth a31 a33 ([]:List D125))
 let y15:=(a31,y.2.1,a33,v35,(len v35),())
 (uC7 y15 (zC3 (vU y15) (wV7 y15) ((0:Int),())))
def uD:St→Option Out:=xP4 [(31,(.val (.sl (.sl T125)))),(32,vI)] [(33,vI)] uK9 vJ5 vJ4 fun y x=>[ex 1 (some (tC1 y x)) [(4,vI)] ((uC9 y x),()),ex 4 (some (sR5 y x)) [] ()]
def pQ3 (p0:(List (List D125)))(p1:Int):Prop×Int:=
 let v17:=(bif (p1 !=0) then (p1 !=1) else false)
 let y5:=(p0,p0,(len p0),())
 let x5:=((0:Int),(0:Int),())
 let e5:=(zC3 (tB8 y5) (vP y5) x5)
 let y12:=(p0,(len p0),())
 let x12:=((0:Int),())
 let e12:=(zC3 (uK9 y12) (vJ5 y12) x12)
 (((!v17)=true→((Am.Ends (tB8 y5) (vP y5) (vT9 y5) x5)∧((tR0 y5 e5)=true→(Am.Ends (uK9 y12) (vJ5 y12) (vJ4 y12) x12)))),(bif v17 then (8:Int) else (bif (tR y5 e5) then (uP4 y5 e5) else (bif (tC1 y12 e12) then (uC9 y12 e12) else (0:Int)))))
def vZ5 p0 p1:=(pQ3 p0 p1).1
def f129 p0 p1:=(pQ3 p0 p1).2
instance (p0:(List (List D125)))(p1:Int):Decidable (vZ5 p0 p1):=by
 unfold vZ5 pQ3
 try dsimp only
 infer_instance
def uD0:Am.Spec:=fnSpec [(0,(.val (.sl (.sl T125)))),(1,vI)] vI [] (fun x=>vZ5 x.1 x.2.1) (fun x=>f129 x.1 x.2.1) (fun _=>())
def uV6:Ctx:=Cx tys [] [(5,uP5),(15,uC8),(12,uD)] [] false 63 [] []
theorem uV7:CtxOk Tryz.prog uV6:=cq trivial
noncomputable def sH5:Code:=Tryz.f129.body.getD .skip
noncomputable def rX1:Code:=xX1 sH5 0
theorem rP0:yU8 Tryz.prog uV6 rX1:=lq uV7 (sp:=uP5) rfl [[(4,vI)],[(0,(.val (.sl (.sl T125))))]]
noncomputable def tX9:Code:=xX1 sH5 1
noncomputable def rD4:Code:=xX1 tX9 0
theorem sR6:yU8 Tryz.prog uV6 rD4:=lq uV7 (sp:=uC8) rfl [[(4,vI)],tC0]
theorem sR7:yU8 Tryz.prog uV6 tX9:=xX9 uV7 mixed (sp:=uD) rfl [[(4,vI)],[]] (bs:=[rD4]) (by kernel_rfl) ⟨sR6,trivial⟩ (by kernel_rfl) (by kernel_rfl) fun y x=>by kernel_rfl
theorem sR8:SpecOk Tryz.prog 129 uD0:=fl uV7 Tryz.func129 (bs:=[rX1,tX9]) ⟨rP0,sR7,trivial⟩
def pQ4 (p0:Int)(p1:Int)(p2:Int):Prop×Int:=
 let m6_2:=(bif (bif (decide (p0<1)) then true else (decide (p0>4096))) then (2:Int) else (bif (bif (decide (p1<0)) then true else (decide (p1>2))) then (8:Int) else (bif (bif (decide (p2<0)) then true else (decide (p2>2))) then (8:Int) else (0:Int))))
 (True,m6_2)
def tC2 p0 p1 p2:=(pQ4 p0 p1 p2).1
def f145 p0 p1 p2:=(pQ4 p0 p1 p2).2
instance (p0:Int)(p1:Int)(p2:Int):Decidable (tC2 p0 p1 p2):=by
 unfold tC2 pQ4
 try dsimp only
 infer_instance
def sH6:Am.Spec:=fnSpec [(0,vI),(1,vI),(2,vI)] vI [] (fun x=>tC2 x.1 x.2.1 x.2.2.1) (fun x=>f145 x.1 x.2.1 x.2.2.1) (fun _=>())
def qR4:Ctx:=Cx tys [] [] [] false 25 [] []
theorem pQ5:SpecOk Tryz.prog 145 sH6:=fq (c:=qR4) Tryz.func145 trivial
abbrev vF7:Type:=(Bool×(List D125)×Int×Unit)
abbrev wS4:Type:=((List D125)×Int×Unit)
def uD1 (y:vF7)(x:wS4):Prop×Bool×wS4:=
 let a8:=y.2.1
 let a5:=x.1
 let a10:=x.2.1
 let v11:=(decide (a10<y.2.2.1))
 let v12:=(nth a8 a10 Z125)
 let v16:=((len a5)==0)
 let v21:=(len a5)
 let v22:=(v21-1)
 let v26:=(bif v16 then true else (!(Ty.eqb T125 v12 (nth a5 v22 Z125))))
 let v29:=([v12]:List D125)
 ((v11=true→(InB a10 (len a8)∧(((!v16)=true→InR (v21-1))∧(((!v16)=true→InB v22 (len a5))∧((v26=true→((List.length a5+List.length v29:Nat):Int)≤4294967296)∧InR (a10+1)))))),v11,((bif v26 then (a5++v29) else a5),(a10+1),()))
def wX8 y x:=(uD1 y x).1
def wZ6 y x:=(uD1 y x).2.1
def wF1 y x:=(uD1 y x).2.2
instance (y:vF7)(x:wS4):Decidable (wX8 y x):=by
 unfold wX8 uD1
 try dsimp only
 infer_instance
def uP6 (y:vF7)(x:wS4):(List D125):=
 x.1
def tR1:List (Nat×Sh):=[(1,vB),(5,(.own T125 1005 false))]
def uP7:St→Option Out:=xP4 [(1,vB),(8,(.val (.sl T125))),(9,vI)] [(5,(.own T125 1005 false)),(10,vI)] wZ6 wF1 wX8 fun y x=>[ex 2 none tR1 (y.1,(uP6 y x),())]
abbrev vF8:Type:=(Bool×Unit)
abbrev wK7:Type:=((List D125)×Unit)
def uV8 (y:vF8)(x:wK7):Prop×Bool×wK7:=
 let a5:=x.1
 let v38:=(bif (!y.1) then (decide ((len a5)>1)) else false)
 let v42:=(len a5)
 let v43:=(v42-1)
 let v50:=(bif v38 then (Ty.eqb T125 (nth a5 v43 Z125) (nth a5 (0:Int) Z125)) else false)
 let v53:=(len a5)
 let v54:=(v53-1)
 (((v38=true→InR (v42-1))∧((v38=true→InB v43 (len a5))∧((v38=true→InB (0:Int) (len a5))∧(v50=true→(InR (v53-1)∧(0≤v54∧v54≤len a5)))))),v50,((List.take (Int.toNat v54) a5),()))
def wX9 y x:=(uV8 y x).1
def vF9 y x:=(uV8 y x).2.1
def wH4 y x:=(uV8 y x).2.2
instance (y:vF8)(x:wK7):Decidable (wX9 y x):=by
 unfold wX9 uV8
 try dsimp only
 infer_instance
def uP8 (y:vF8)(x:wK7):(List D125):=
 x.1
def uP9:St→Option Out:=xP4 [(1,vB)] [(5,(.val (.sl T125)))] vF9 wH4 wX9 fun y x=>[ex 4 none [(5,(.val (.sl T125)))] ((uP8 y x),())]
def pQ6 (p0:List D125)(p1:Bool):Prop×(List D125):=
 let y3:=(p1,p0,(len p0),())
 let x3:=(([]:List D125),(0:Int),())
 let y8:=(p1,())
 let x8:=((uP6 y3 (zC3 (wZ6 y3) (wF1 y3) x3)),())
 (((Am.Ends (wZ6 y3) (wF1 y3) (wX8 y3) x3)∧(Am.Ends (vF9 y8) (wH4 y8) (wX9 y8) x8)),(uP8 y8 (zC3 (vF9 y8) (wH4 y8) x8)))
def tC3 p0 p1:=(pQ6 p0 p1).1
def f157 p0 p1:=(pQ6 p0 p1).2
instance (p0:List D125)(p1:Bool):Decidable (tC3 p0 p1):=by
 unfold tC3 pQ6
 try dsimp only
 infer_instance
def sH7:Am.Spec:=fnSpec [(0,(.val (.sl T125))),(1,vB)] (.val (.sl T125)) [] (fun x=>tC3 x.1 x.2.1) (fun x=>f157 x.1 x.2.1) (fun _=>())
def tY:Ctx:=Cx tys [] [(3,uP7),(8,uP9)] [(13,[(4,0,30,1005)])] false 57 [] []
theorem tY0:CtxOk Tryz.prog tY:=cq trivial
noncomputable def sH8:Code:=Tryz.f157.body.getD .skip
noncomputable def rX2:Code:=xX1 sH8 0
theorem rP1:yU8 Tryz.prog tY rX2:=lq tY0 (sp:=uP7) rfl [tR1]
noncomputable def rX3:Code:=xX1 sH8 1
theorem rP2:yU8 Tryz.prog tY rX3:=lq tY0 (sp:=uP9) rfl [[(5,(.val (.sl T125)))]]
theorem pQ7:SpecOk Tryz.prog 157 sH7:=fl tY0 Tryz.func157 (bs:=[rX2,rX3]) ⟨rP1,rP2,trivial⟩
def pQ8 (p0:D125)(p1:D125):Prop×D125:=
 (True,((IntKind.wrap .i64 (p0.1-p1.1)),(IntKind.wrap .i64 (p0.2.1-p1.2.1)),()))
def wH5 p0 p1:=(pQ8 p0 p1).1
def f162 p0 p1:=(pQ8 p0 p1).2
instance (p0:D125)(p1:D125):Decidable (wH5 p0 p1):=by
 unfold wH5 pQ8
 try dsimp only
 infer_instance
def vP0:Am.Spec:=fnSpec [(0,(.val T125)),(1,(.val T125))] (.val T125) [] (fun x=>wH5 x.1 x.2.1) (fun x=>f162 x.1 x.2.1) (fun _=>())
def qR5:Ctx:=Cx tys [] [] [] true 16 [] []
theorem tY1:SpecOk Tryz.prog 162 vP0:=fq (c:=qR5) Tryz.func162 trivial
def pQ9 (p0:Int)(p1:Int):Prop×(Int×Int×Unit):=
 let v15:=(xY0 .u64 p0 (4294967295:Int))
 let v17:=(xY1 p0 (32:Int) 64)
 let v19:=(xY0 .u64 p1 (4294967295:Int))
 let v21:=(xY1 p1 (32:Int) 64)
 let v30:=(IntKind.wrap .u64 ((IntKind.wrap .u64 (v17*v19))+(xY1 (IntKind.wrap .u64 (v15*v19)) (32:Int) 64)))
 let v47:=(IntKind.wrap .u64 ((IntKind.wrap .u64 ((IntKind.wrap .u64 (v17*v21))+(xY1 v30 (32:Int) 64)))+(xY1 (IntKind.wrap .u64 ((xY0 .u64 v30 (4294967295:Int))+(IntKind.wrap .u64 (v15*v21)))) (32:Int) 64)))
 (True,(v47,(IntKind.wrap .u64 (p0*p1)),()))
def vZ6 p0 p1:=(pQ9 p0 p1).1
def f187 p0 p1:=(pQ9 p0 p1).2
instance (p0:Int)(p1:Int):Decidable (vZ6 p0 p1):=by
 unfold vZ6 pQ9
 try dsimp only
 infer_instance
def sH9:Am.Spec:=fnSpec [(0,(.val (.int .u64))),(1,(.val (.int .u64)))] (.tup (.cons (.val (.int .u64)) (.cons (.val (.int .u64)) .nl))) [] (fun x=>vZ6 x.1 x.2.1) (fun x=>f187 x.1 x.2.1) (fun _=>())
def qR6:Ctx:=Cx tys [] [] [] true 51 [] []
theorem pR:SpecOk Tryz.prog 187 sH9:=fq (c:=qR6) Tryz.func187 trivial
def pR0 (p0:Int):Prop×Int:=
 (True,(bif (decide (p0<0)) then (IntKind.wrap .u64 (Int.sub 0 (IntKind.wrap .u64 p0))) else (IntKind.wrap .u64 p0)))
def vP1 p0:=(pR0 p0).1
def f188 p0:=(pR0 p0).2
instance (p0:Int):Decidable (vP1 p0):=by
 unfold vP1 pR0
 try dsimp only
 infer_instance
def sI:Am.Spec:=fnSpec [(0,vI)] (.val (.int .u64)) [] (fun x=>vP1 x.1) (fun x=>f188 x.1) (fun _=>())
def qR7:Ctx:=Cx tys [] [] [] true 10 [] []
theorem pR1:SpecOk Tryz.prog 188 sI:=fq (c:=qR7) Tryz.func188 trivial
abbrev wZ7:Type:=(Int×Int×Unit)
abbrev wS5:Type:=(Int×Int×Unit)
def uV9 (y:wZ7)(x:wS5):Prop×Bool×wS5:=
 let a5:=y.1
 let a10:=x.1
 let a11:=x.2.1
 let v43:=(a11 !=0)
 let v48:=(ior .u64 a10 a11)
 let v52:=(f187 v48 v48)
 ((v43=true→(vZ6 v48 v48)),v43,((bif (bif (decide (v52.1<a5)) then true else (bif (v52.1==a5) then (decide (v52.2.1≤y.2.1)) else false)) then v48 else a10),(xY1 a11 (1:Int) 64),()))
def vG y x:=(uV9 y x).1
def uD2 y x:=(uV9 y x).2.1
def wS6 y x:=(uV9 y x).2.2
instance (y:wZ7)(x:wS5):Decidable (vG y x):=by
 unfold vG uV9
 try dsimp only
 infer_instance
def uQ (y:wZ7)(x:wS5):Int:=
 x.1
def uQ0:St→Option Out:=xP4 [(5,(.val (.int .u64))),(6,(.val (.int .u64)))] [(10,(.val (.int .u64))),(11,(.val (.int .u64)))] uD2 wS6 vG fun y x=>[ex 2 none [(10,(.val (.int .u64)))] ((uQ y x),())]
def pR2 (p0:Int)(p1:Int):Prop×Int:=
 let v15:=(f188 p0)
 let v17:=(f188 p0)
 let v18:=(f187 v15 v17)
 let v23:=(f188 p1)
 let v25:=(f188 p1)
 let v26:=(f187 v23 v25)
 let v34:=(((Int.toNat v18.2.1+Int.toNat v26.2.1+Int.toNat (0:Int)) / 18446744073709551616:Nat):Int)
 let y7:=((((Int.toNat v18.1+Int.toNat v26.1+Int.toNat v34) % 18446744073709551616:Nat):Int),(((Int.toNat v18.2.1+Int.toNat v26.2.1+Int.toNat (0:Int)) % 18446744073709551616:Nat):Int),())
 let x7:=((0:Int),(9223372036854775808:Int),())
 let r7_2_0:=(uQ y7 (zC3 (uD2 y7) (wS6 y7) x7))
 (((vP1 p0)∧((vP1 p0)∧((vZ6 v15 v17)∧((vP1 p1)∧((vP1 p1)∧((vZ6 v23 v25)∧((0≤(0:Int)∧(0:Int)≤1)∧((0≤v34∧v34≤1)∧(Am.Ends (uD2 y7) (wS6 y7) (vG y7) x7))))))))),(bif (decide (r7_2_0>9223372036854775807)) then (9223372036854775807:Int) else (IntKind.wrap .i64 r7_2_0)))
def uL p0 p1:=(pR2 p0 p1).1
def f179 p0 p1:=(pR2 p0 p1).2
instance (p0:Int)(p1:Int):Decidable (uL p0 p1):=by
 unfold uL pR2
 try dsimp only
 infer_instance
def tC4:Am.Spec:=fnSpec [(0,vI),(1,vI)] vI [] (fun x=>uL x.1 x.2.1) (fun x=>f179 x.1 x.2.1) (fun _=>())
def rD5:Ctx:={ Cx tys [(187,sH9),(188,sI)] [(7,uQ0)] [] true 73 [] [] with exts:=[(189,yX5)] }
theorem rD6:CtxOk Tryz.prog rD5:=xV sE3 rfl ⟨pR,pR1,trivial⟩ ⟨pJ3,trivial⟩ (by kernel_rfl)
noncomputable def rX4:Code:=Tryz.f179.body.getD .skip
noncomputable def rX5:Code:=xX1 rX4 0
theorem rP3:yU8 Tryz.prog rD5 rX5:=lq rD6 (sp:=uQ0) rfl [[(10,(.val (.int .u64)))]]
theorem rX6:SpecOk Tryz.prog 179 tC4:=fl rD6 Tryz.func179 (bs:=[rX5]) ⟨rP3,trivial⟩
def pR3 (p0:D125)(p1:D125)(p2:Int):Prop×D205:=
 let v11:=(f162 p1 p0)
 let v14:=(IntKind.wrap .i64 (16*v11.1))
 let v17:=(IntKind.wrap .i64 (16*v11.2.1))
 let v18:=(f179 v14 v17)
 let v26:=(IntKind.wrap .i64 ((IntKind.wrap .i64 ((-8)*p2))*v11.2.1))
 let v33:=(IntKind.wrap .i64 ((IntKind.wrap .i64 (8*p2))*v11.1))
 let v41:=(IntKind.wrap .i64 ((IntKind.wrap .i64 (8*p2))*v11.1))
 let v48:=(IntKind.wrap .i64 ((IntKind.wrap .i64 (8*p2))*v11.2.1))
 (((wH5 p1 p0)∧((uL v14 v17)∧((wB v26 v18)∧((wB v33 v18)∧((wB v41 v18)∧(wB v48 v18)))))),(p0,p1,v11,((f108 v26 v18),(f108 v33 v18),()),((f108 v41 v18),(f108 v48 v18),()),()))
def uL0 p0 p1 p2:=(pR3 p0 p1 p2).1
def f175 p0 p1 p2:=(pR3 p0 p1 p2).2
instance (p0:D125)(p1:D125)(p2:Int):Decidable (uL0 p0 p1 p2):=by
 unfold uL0 pR3
 try dsimp only
 infer_instance
def sI0:Am.Spec:=fnSpec [(0,(.val T125)),(1,(.val T125)),(2,vI)] (.val T205) [] (fun x=>uL0 x.1 x.2.1 x.2.2.1) (fun x=>f175 x.1 x.2.1 x.2.2.1) (fun _=>())
def qR8:Ctx:=Cx tys [(108,wF7),(162,vP0),(179,tC4)] [] [] true 53 [] []
theorem pR4:SpecOk Tryz.prog 175 sI0:=fq (c:=qR8) Tryz.func175 ⟨wZ2,tY1,rX6,trivial⟩
abbrev vG0:Type:=((List D125)×Bool×Int×Unit)
abbrev wS7:Type:=((List D205)×Int×Unit)
def uD3 (y:vG0)(x:wS7):Prop×Bool×wS7:=
 let a0:=y.1
 let a2:=y.2.2.1
 let a7:=x.1
 let a8:=x.2.1
 let v12:=(decide (a8<(len a0)))
 let v18:=(a8-1)
 let v19:=(nth a0 v18 Z125)
 let v23:=(nth a0 a8 Z125)
 let v27:=([(f175 v19 v23 a2)]:List D205)
 ((v12=true→(InR (a8-1)∧(InB v18 (len a0)∧(InB a8 (len a0)∧((uL0 v19 v23 a2)∧(((List.length a7+List.length v27:Nat):Int)≤4294967296∧InR (a8+1))))))),v12,((a7++v27),(a8+1),()))
def wY y x:=(uD3 y x).1
def vG1 y x:=(uD3 y x).2.1
def wH6 y x:=(uD3 y x).2.2
instance (y:vG0)(x:wS7):Decidable (wY y x):=by
 unfold wY uD3
 try dsimp only
 infer_instance
def vC0 (y:vG0)(x:wS7):(List D205):=
 x.1
def tR2:List (Nat×Sh):=[(0,(.val (.sl T125))),(1,vB),(2,vI),(7,(.own T205 1007 false))]
def uQ1:St→Option Out:=xP4 [(0,(.val (.sl T125))),(1,vB),(2,vI)] [(7,(.own T205 1007 false)),(8,vI)] vG1 wH6 wY fun y x=>[ex 2 none tR2 (y.1,y.2.1,y.2.2.1,(vC0 y x),())]
def qR9 (p0:List D125)(p1:Bool)(p2:Int):Prop×(List D205):=
 let y3:=(p0,p1,p2,())
 let x3:=(([]:List D205),(1:Int),())
 let r3_2_0:=(vC0 y3 (zC3 (vG1 y3) (wH6 y3) x3))
 let v35:=(bif (!p1) then (decide ((len p0)>1)) else false)
 let v39:=(len p0)
 let v40:=(v39-1)
 let v41:=(nth p0 v40 Z125)
 let v44:=(nth p0 (0:Int) Z125)
 let v48:=([(f175 v41 v44 p2)]:List D205)
 (((Am.Ends (vG1 y3) (wH6 y3) (wY y3) x3)∧(v35=true→(InR (v39-1)∧(InB v40 (len p0)∧(InB (0:Int) (len p0)∧((uL0 v41 v44 p2)∧((List.length r3_2_0+List.length v48:Nat):Int)≤4294967296)))))),(bif v35 then (r3_2_0++v48) else r3_2_0))
def tC5 p0 p1 p2:=(qR9 p0 p1 p2).1
def f158 p0 p1 p2:=(qR9 p0 p1 p2).2
instance (p0:List D125)(p1:Bool)(p2:Int):Decidable (tC5 p0 p1 p2):=by
 unfold tC5 qR9
 try dsimp only
 infer_instance
def sI1:Am.Spec:=fnSpec [(0,(.val (.sl T125))),(1,vB),(2,vI)] (.own T205 0 false) [] (fun x=>tC5 x.1 x.2.1 x.2.2.1) (fun x=>f158 x.1 x.2.1 x.2.2.1) (fun _=>())
def rD7:Ctx:=Cx tys [(175,sI0)] [(3,uQ1)] [(11,[(4,0,28,1007)]),(15,[(4,0,49,1007)]),(17,[(4,0,1007,0)])] false 51 [] []
theorem rD8:CtxOk Tryz.prog rD7:=cq ⟨pR4,trivial⟩
noncomputable def rX7:Code:=Tryz.f158.body.getD .skip
noncomputable def rX8:Code:=xX1 rX7 0
theorem rP4:yU8 Tryz.prog rD7 rX8:=lq rD8 (sp:=uQ1) rfl [tR2]
theorem pR5:SpecOk Tryz.prog 158 sI1:=fl rD8 Tryz.func158 (bs:=[rX8]) ⟨rP4,trivial⟩
abbrev vG2:Type:=((List D125)×(List D125)×Int×Unit)
abbrev wS8:Type:=(Int×Int×Unit)
def uD4 (y:vG2)(x:wS8):Prop×Bool×wS8:=
 let a0:=y.1
 let a7:=y.2.1
 let a9:=x.2.1
 let v10:=(decide (a9<y.2.2.1))
 let v12:=(nth a7 a9 Z125)
 let v18:=(len a0)
 let v19:=(Int.tmod (IntKind.wrap .i64 (a9+1)) v18)
 let v20:=(nth a0 v19 Z125)
 ((v10=true→(InB a9 (len a7)∧(v18≠0∧InB v19 (len a0)))),v10,((IntKind.wrap .i64 (x.1+(IntKind.wrap .i64 ((IntKind.wrap .i64 (v12.1*v20.2.1))-(IntKind.wrap .i64 (v20.1*v12.2.1)))))),(IntKind.wrap .i64 (a9+1)),()))
def vU0 y x:=(uD4 y x).1
def tC6 y x:=(uD4 y x).2.1
def vC1 y x:=(uD4 y x).2.2
instance (y:vG2)(x:wS8):Decidable (vU0 y x):=by
 unfold vU0 uD4
 try dsimp only
 infer_instance
def uQ2 (y:vG2)(x:wS8):Int:=
 x.1
def uQ3:St→Option Out:=xP4 [(0,(.val (.sl T125))),(7,(.val (.sl T125))),(8,vI)] [(3,vI),(9,vI)] tC6 vC1 vU0 fun y x=>[ex 2 none [(3,vI)] ((uQ2 y x),())]
def pR6 (p0:List D125):Prop×Int:=
 let y3:=(p0,p0,(len p0),())
 let x3:=((0:Int),(0:Int),())
 ((Am.Ends (tC6 y3) (vC1 y3) (vU0 y3) x3),(uQ2 y3 (zC3 (tC6 y3) (vC1 y3) x3)))
def tC7 p0:=(pR6 p0).1
def f177 p0:=(pR6 p0).2
instance (p0:List D125):Decidable (tC7 p0):=by
 unfold tC7 pR6
 try dsimp only
 infer_instance
def sI2:Am.Spec:=fnSpec [(0,(.val (.sl T125)))] vI [] (fun x=>tC7 x.1) (fun x=>f177 x.1) (fun _=>())
def rD9:Ctx:=Cx tys [] [(3,uQ3)] [] true 37 [] []
theorem rE:CtxOk Tryz.prog rD9:=cq trivial
noncomputable def rX9:Code:=Tryz.f177.body.getD .skip
noncomputable def rY:Code:=xX1 rX9 0
theorem rP5:yU8 Tryz.prog rD9 rY:=lq rE (sp:=uQ3) rfl [[(3,vI)]]
theorem pR7:SpecOk Tryz.prog 177 sI2:=fl rE Tryz.func177 (bs:=[rY]) ⟨rP5,trivial⟩
def f178 (_p0:List D125):Unit:=()
def rE0 (p0:List D125):(List D125)×Unit:=(List.reverse p0,())
def sR9 (_p0:List D125):Prop:=True
instance (p0:List D125):Decidable (sR9 p0):=isTrue trivial
def pR8:List (Nat×Sh):=[(0,(.own T125 400000 true))]
def pR9:Sh:=(.tup .nl)
def pS:List (Nat×Sh):=[(0,(.own T125 400000 true))]
def sI3:Am.Spec:=fnSpec pR8 pR9 pS (fun x=>sR9 x.1) (fun x=>f178 x.1) (fun x=>rE0 x.1)
theorem pS0:SpecOk Tryz.prog 178 sI3:=qN7 (by decide) rfl ⟨_,Tryz.func178,by kernel_rfl,by decide⟩ oI7
def pS1 (p0:D125)(p1:D125):Prop×D125:=
 (True,((IntKind.wrap .i64 (p0.1+p1.1)),(IntKind.wrap .i64 (p0.2.1+p1.2.1)),()))
def wD7 p0 p1:=(pS1 p0 p1).1
def f161 p0 p1:=(pS1 p0 p1).2
instance (p0:D125)(p1:D125):Decidable (wD7 p0 p1):=by
 unfold wD7 pS1
 try dsimp only
 infer_instance
def vG3:Am.Spec:=fnSpec [(0,(.val T125)),(1,(.val T125))] (.val T125) [] (fun x=>wD7 x.1 x.2.1) (fun x=>f161 x.1 x.2.1) (fun _=>())
def qS:Ctx:=Cx tys [] [] [] true 16 [] []
theorem tC8:SpecOk Tryz.prog 161 vG3:=fq (c:=qS) Tryz.func161 trivial
def pS2 (p0:Int):Prop×Int:=
 let v5:=(IntKind.wrap .i64 (Int.tdiv p0 (256:Int)))
 let v7:=(decide (v5≥64))
 let v14:=(IntKind.wrap .i64 (v5+1))
 let v25:=(IntKind.wrap .i64 ((IntKind.wrap .i64 ((nth G5 v14 (0:Int))-(nth G5 v5 (0:Int))))*(IntKind.wrap .i64 (p0-(IntKind.wrap .i64 (256*v5))))))
 (((v7=true→InB (64:Int) 65)∧((!v7)=true→(InB v5 65∧(InB v14 65∧(InB v5 65∧(wB v25 (256:Int))))))),(bif v7 then (nth G5 (64:Int) (0:Int)) else (IntKind.wrap .i64 ((nth G5 v5 (0:Int))+(f108 v25 (256:Int))))))
def vP2 p0:=(pS2 p0).1
def f202 p0:=(pS2 p0).2
instance (p0:Int):Decidable (vP2 p0):=by
 unfold vP2 pS2
 try dsimp only
 infer_instance
def sI4:Am.Spec:=fnSpec [(0,vI)] vI [] (fun x=>vP2 x.1) (fun x=>f202 x.1) (fun _=>())
def qS0:Ctx:=Cx tys [(108,wF7)] [] [] true 28 [] []
theorem pS3:SpecOk Tryz.prog 202 sI4:=fq (c:=qS0) Tryz.func202 ⟨wZ2,trivial⟩
def qS1 (p0:Int):Prop×Int:=
 let v6:=(IntKind.wrap .i64 (Int.tdiv p0 (16384:Int)))
 let v10:=(IntKind.wrap .i64 (p0-(IntKind.wrap .i64 (16384*v6))))
 let v13:=(v6==0)
 let v17:=(v6==1)
 let v19:=(IntKind.wrap .i64 (16384-v10))
 let v22:=(v6==2)
 let v27:=(IntKind.wrap .i64 (16384-v10))
 let m2_2:=(bif (bif v13 then true else (bif v17 then true else v22)) then (bif v13 then (f202 v10) else (bif v17 then (f202 v19) else (IntKind.wrap .i64 (Int.sub 0 (f202 v10))))) else (IntKind.wrap .i64 (Int.sub 0 (f202 v27))))
 (((v13=true→(vP2 v10))∧((v13=false→((v17=true→(vP2 v19))∧(v17=false→(v22=true→(vP2 v10)))))∧((((!v22)&&(!v17))&&(!v13))=true→(vP2 v27)))),m2_2)
def vP3 p0:=(qS1 p0).1
def f197 p0:=(qS1 p0).2
instance (p0:Int):Decidable (vP3 p0):=by
 unfold vP3 qS1
 try dsimp only
 infer_instance
def sI5:Am.Spec:=fnSpec [(0,vI)] vI [] (fun x=>vP3 x.1) (fun x=>f197 x.1) (fun _=>())
def qS2:Ctx:=Cx tys [(202,sI4)] [] [] true 30 [] []
theorem pS4:SpecOk Tryz.prog 197 sI5:=fq (c:=qS2) Tryz.func197 ⟨pS3,trivial⟩
def pS5 (p0:Int):Prop×(Int×Int×Unit):=
 let v6:=(xY0 .i64 p0 (65535:Int))
 let v11:=(Int.tmod (IntKind.wrap .i64 (v6+16384)) (65536:Int))
 (((vP3 v6)∧(vP3 v11)),((f197 v6),(f197 v11),()))
def tC9 p0:=(pS5 p0).1
def f186 p0:=(pS5 p0).2
instance (p0:Int):Decidable (tC9 p0):=by
 unfold tC9 pS5
 try dsimp only
 infer_instance
def sI6:Am.Spec:=fnSpec [(0,vI)] (.tup (.cons vI (.cons vI .nl))) [] (fun x=>tC9 x.1) (fun x=>f186 x.1) (fun _=>())
def qS3:Ctx:=Cx tys [(197,sI5)] [] [] true 13 [] []
theorem pS6:SpecOk Tryz.prog 186 sI6:=fq (c:=qS3) Tryz.func186 ⟨pS4,trivial⟩
abbrev vG4:Type:=(Int×D125×Int×Unit)
abbrev wS9:Type:=((List D125)×Int×Unit)
def uD5 (y:vG4)(x:wS9):Prop×Bool×wS9:=
 let a1:=y.1
 let a2:=y.2.1
 let a5:=x.1
 let a12:=x.2.1
 let v13:=(decide (a12<y.2.2.1))
 let v17:=(IntKind.wrap .i64 (4096*a12))
 let v18:=(f186 v17)
 let v26:=(IntKind.wrap .i64 (a1*v18.2.1))
 let v30:=(IntKind.wrap .i64 (a1*v18.1))
 let s:=((f108 v26 (131072:Int)),(f108 v30 (131072:Int)),())
 ((v13=true→((tC9 v17)∧((wB v26 (131072:Int))∧((wB v30 (131072:Int))∧((wD7 a2 s)∧(InB a12 (len a5)∧a12<len a5)))))),v13,((List.set a5 (Int.toNat a12) (f161 a2 s)),(IntKind.wrap .i64 (a12+1)),()))
def wY0 y x:=(uD5 y x).1
def vG5 y x:=(uD5 y x).2.1
def wH7 y x:=(uD5 y x).2.2
instance (y:vG4)(x:wS9):Decidable (wY0 y x):=by
 unfold wY0 uD5
 try dsimp only
 infer_instance
def vP4 (y:vG4)(x:wS9):(List D125):=
 x.1
def uQ4:St→Option Out:=xP4 [(1,vI),(2,(.box T125 (.val T125))),(11,vI)] [(5,(.own T125 1005 true)),(12,vI)] vG5 wH7 wY0 fun y x=>[ex 2 none [(5,(.own T125 1005 true))] ((vP4 y x),())]
def qS4 (p0:D125)(p1:Int):Prop×(List D125):=
 let v9:=(List.replicate (Int.toNat (16:Int)) Z125)
 let y3:=(p1,p0,(len v9),())
 let x3:=(v9,(0:Int),())
 (((0≤(16:Int)∧(16:Int)≤(16:Int)∧(16:Int)≤4294967296)∧(Am.Ends (vG5 y3) (wH7 y3) (wY0 y3) x3)),(vP4 y3 (zC3 (vG5 y3) (wH7 y3) x3)))
def vP5 p0 p1:=(qS4 p0 p1).1
def f176 p0 p1:=(qS4 p0 p1).2
instance (p0:D125)(p1:Int):Decidable (vP5 p0 p1):=by
 unfold vP5 qS4
 try dsimp only
 infer_instance
def uD6:Am.Spec:=fnSpec [(0,(.val T125)),(1,vI)] (.own T125 0 true) [] (fun x=>vP5 x.1 x.2.1) (fun x=>f176 x.1 x.2.1) (fun _=>())
def rE1:Ctx:=Cx tys [(108,wF7),(161,vG3),(186,sI6)] [(3,uQ4)] [(3,[(4,0,9,1005)]),(17,[(4,0,1005,0)])] true 37 [] [9]
theorem rE2:CtxOk Tryz.prog rE1:=cq ⟨wZ2,tC8,pS6,trivial⟩
noncomputable def rY0:Code:=Tryz.f176.body.getD .skip
noncomputable def rY1:Code:=xX1 rY0 0
theorem rP6:yU8 Tryz.prog rE1 rY1:=lq rE2 (sp:=uQ4) rfl [[(5,(.own T125 1005 true))]]
theorem sS:SpecOk Tryz.prog 176 uD6:=fl rE2 Tryz.func176 (bs:=[rY1]) ⟨rP6,trivial⟩
def uD7 (p0:(Int×Int×Int×(List (List D125))×Int×Unit))(p1:List D125):Prop×(Unit)×((Int×Int×Int×(List (List D125))×Int×Unit)×Unit):=
 let v6:=(f177 p1)
 let v8:=(v6==0)
 let v10:=(decide (v6<0))
 let m1:=(bif v10 then (rE0 p1).1 else p1)
 let v19:=([m1]:List (List D125))
 let s:=((bif v8 then p0.1 else p0.1),(bif v8 then p0.2.1 else p0.2.1),(bif v8 then p0.2.2.1 else p0.2.2.1),(bif v8 then p0.2.2.2.1 else (p0.2.2.2.1++v19)),(bif v8 then p0.2.2.2.2.1 else (IntKind.wrap .i64 (p0.2.2.2.2.1+(len m1)))),())
 (((tC7 p1)∧((!v8)=true→((v10=true→((sR9 p1)∧(0<List.length p1∧(List.length p1=List.length p1∧(List.length p1=List.length p1∧List.length p1=List.length p1)))))∧((List.length p0.2.2.2.1+List.length v19:Nat):Int)≤4294967296))),(),(s,()))
def xZ0 p0 p1:=(uD7 p0 p1).1
def pS7 p0 p1:=(uD7 p0 p1).2.1
def xY4 p0 p1:=(uD7 p0 p1).2.2
instance (p0:(Int×Int×Int×(List (List D125))×Int×Unit))(p1:List D125):Decidable (xZ0 p0 p1):=by
 unfold xZ0 uD7
 try dsimp only
 infer_instance
def wT:Am.Spec:=fnSpec [(0,(.box T179 (.agg (.cons (.int .i64) (.cons (.int .i64) (.cons (.int .i64) (.cons (.sl (.sl T125)) (.cons (.int .i64) .nl))))) (.cons vI (.cons vI (.cons vI (.cons (.own (.sl T125) 400000 false) (.cons vI .nl)))))))),(1,(.own T125 400100 true))] (.tup .nl) [(0,(.box T179 (.agg (.cons (.int .i64) (.cons (.int .i64) (.cons (.int .i64) (.cons (.sl (.sl T125)) (.cons (.int .i64) .nl))))) (.cons vI (.cons vI (.cons vI (.cons (.own (.sl T125) 400000 false) (.cons vI .nl))))))))] (fun x=>xZ0 x.1 x.2.1) (fun x=>pS7 x.1 x.2.1) (fun x=>xY4 x.1 x.2.1)
def sS0:Ctx:={ Cx tys [(177,sI2),(178,sI3)] [] [(8,[(1,1,0,0)]),(9,[(4,0,20,400000)])] true 32 [0] [] with wants:=[(178,[0])] }
theorem vU1:SpecOk Tryz.prog 160 wT:=fq (c:=sS0) Tryz.func160 ⟨pR7,pS0,trivial⟩
def uD8 (p0:(Int×Int×Int×(List (List D125))×Int×Unit))(p1:D125):Prop×(Unit)×((Int×Int×Int×(List (List D125))×Int×Unit)×Unit):=
 let v10:=(p0.2.2.1==1)
 let v17:=(f176 p1 p0.1)
 let s_1:=(p0.1,p0.2.1,p0.2.2.1,p0.2.2.2.1,p0.2.2.2.2.1,())
 let v18o:=(xY4 s_1 v17)
 let v20:=(p0.2.2.1==2)
 let v25:=(f108 p0.1 (2:Int))
 let s_2:=((IntKind.wrap .i64 (Int.sub 0 v25)),(IntKind.wrap .i64 (Int.sub 0 v25)),())
 let s_3:=(v25,(IntKind.wrap .i64 (Int.sub 0 v25)),())
 let s_4:=(v25,v25,())
 let s_5:=((IntKind.wrap .i64 (Int.sub 0 v25)),v25,())
 let v51:=([(f161 p1 s_2),(f161 p1 s_3),(f161 p1 s_4),(f161 p1 s_5)]:List D125)
 let s_7:=(p0.1,p0.2.1,p0.2.2.1,p0.2.2.2.1,p0.2.2.2.2.1,())
 let v52o:=(xY4 s_7 v51)
 let s_8:=((bif v10 then v18o.1.1 else (bif v20 then v52o.1.1 else p0.1)),(bif v10 then v18o.1.2.1 else (bif v20 then v52o.1.2.1 else p0.2.1)),(bif v10 then v18o.1.2.2.1 else (bif v20 then v52o.1.2.2.1 else p0.2.2.1)),(bif v10 then v18o.1.2.2.2.1 else (bif v20 then v52o.1.2.2.2.1 else p0.2.2.2.1)),(bif v10 then v18o.1.2.2.2.2.1 else (bif v20 then v52o.1.2.2.2.2.1 else p0.2.2.2.2.1)),())
 (((v10=true→((vP5 p1 p0.1)∧(xZ0 s_1 v17)))∧(v10=false→(v20=true→((wB p0.1 (2:Int))∧((wD7 p1 s_2)∧((wD7 p1 s_3)∧((wD7 p1 s_4)∧((wD7 p1 s_5)∧(xZ0 s_7 v51))))))))),(),(s_8,()))
def vG6 p0 p1:=(uD8 p0 p1).1
def pS8 p0 p1:=(uD8 p0 p1).2.1
def uD9 p0 p1:=(uD8 p0 p1).2.2
instance (p0:(Int×Int×Int×(List (List D125))×Int×Unit))(p1:D125):Decidable (vG6 p0 p1):=by
 unfold vG6 uD8
 try dsimp only
 infer_instance
def uQ5:Am.Spec:=fnSpec [(0,(.box T179 (.agg (.cons (.int .i64) (.cons (.int .i64) (.cons (.int .i64) (.cons (.sl (.sl T125)) (.cons (.int .i64) .nl))))) (.cons vI (.cons vI (.cons vI (.cons (.own (.sl T125) 400000 false) (.cons vI .nl)))))))),(1,(.val T125))] (.tup .nl) [(0,(.box T179 (.agg (.cons (.int .i64) (.cons (.int .i64) (.cons (.int .i64) (.cons (.sl (.sl T125)) (.cons (.int .i64) .nl))))) (.cons vI (.cons vI (.cons vI (.cons (.own (.sl T125) 400000 false) (.cons vI .nl))))))))] (fun x=>vG6 x.1 x.2.1) (fun x=>pS8 x.1 x.2.1) (fun x=>uD9 x.1 x.2.1)
def sS1:Ctx:={ Cx tys [(108,wF7),(160,wT),(161,vG3),(176,uD6)] [] [] true 53 [0] [51] with wants:=[(160,[1])] }
theorem rP7:SpecOk Tryz.prog 159 uQ5:=fq (c:=sS1) Tryz.func159 ⟨wZ2,vU1,tC8,sS,trivial⟩
def uE (p0:(Int×Int×Int×(List (List D125))×Int×Unit))(p1:D205)(p2:D205):Prop×(Unit)×((Int×Int×Int×(List (List D125))×Int×Unit)×Unit):=
 let v23:=(p0.2.1==1)
 let v30:=(f176 p2.1 p0.1)
 let s_1:=(p0.1,p0.2.1,p0.2.2.1,p0.2.2.2.1,p0.2.2.2.2.1,())
 let v31o:=(xY4 s_1 v30)
 let v40:=([p2.1,(f161 p2.1 p1.2.2.2.1),(f161 p2.1 p2.2.2.2.1)]:List D125)
 let s_3:=(p0.1,p0.2.1,p0.2.2.1,p0.2.2.2.1,p0.2.2.2.2.1,())
 let v41o:=(xY4 s_3 v40)
 let v50:=([p2.1,(f162 p2.1 p1.2.2.2.1),(f162 p2.1 p2.2.2.2.1)]:List D125)
 let s_5:=(v41o.1.1,v41o.1.2.1,v41o.1.2.2.1,v41o.1.2.2.2.1,v41o.1.2.2.2.2.1,())
 let v51o:=(xY4 s_5 v50)
 let v66:=(IntKind.wrap .i64 ((IntKind.wrap .i64 (p1.2.2.1.1*p2.2.2.1.2.1))-(IntKind.wrap .i64 (p1.2.2.1.2.1*p2.2.2.1.1))))
 let v75:=(IntKind.wrap .i64 (v51o.1.1*v51o.1.1))
 let v89:=(IntKind.wrap .i64 (v75+(IntKind.wrap .i64 (4*(IntKind.wrap .i64 ((IntKind.wrap .i64 (p1.2.2.2.1.1*p2.2.2.2.1.1))+(IntKind.wrap .i64 (p1.2.2.2.1.2.1*p2.2.2.2.1.2.1))))))))
 let v102:=(bif (bif (v51o.1.2.1==2) then true else (v66==0)) then true else (decide (v89≤0)))
 let v109:=(IntKind.wrap .i64 (v75*(IntKind.wrap .i64 (p1.2.2.2.1.1+p2.2.2.2.1.1))))
 let v111:=(f108 v109 v89)
 let v118:=(IntKind.wrap .i64 (v75*(IntKind.wrap .i64 (p1.2.2.2.1.2.1+p2.2.2.2.1.2.1))))
 let v120:=(f108 v118 v89)
 let s_6:=(v111,v120,())
 let v132:=(decide ((f179 v111 v120)>(IntKind.wrap .i64 (4*v51o.1.1))))
 let v134:=(decide (v66>0))
 let v146:=([p2.1,(f162 p2.1 p1.2.2.2.1),(f162 p2.1 s_6),(f162 p2.1 p2.2.2.2.1)]:List D125)
 let s_8:=(v51o.1.1,v51o.1.2.1,v51o.1.2.2.1,v51o.1.2.2.2.1,v51o.1.2.2.2.2.1,())
 let v147o:=(xY4 s_8 v146)
 let v159:=([p2.1,(f161 p2.1 p1.2.2.2.1),(f161 p2.1 s_6),(f161 p2.1 p2.2.2.2.1)]:List D125)
 let s_10:=(v51o.1.1,v51o.1.2.1,v51o.1.2.2.1,v51o.1.2.2.2.1,v51o.1.2.2.2.2.1,())
 let v160o:=(xY4 s_10 v159)
 let c_5:=(v23||((!v23)&&(v102||((!v102)&&v132))))
 let s_11:=((bif c_5 then (bif v23 then v31o.1.1 else v51o.1.1) else (bif v134 then v147o.1.1 else v160o.1.1)),(bif c_5 then (bif v23 then v31o.1.2.1 else v51o.1.2.1) else (bif v134 then v147o.1.2.1 else v160o.1.2.1)),(bif c_5 then (bif v23 then v31o.1.2.2.1 else v51o.1.2.2.1) else (bif v134 then v147o.1.2.2.1 else v160o.1.2.2.1)),(bif c_5 then (bif v23 then v31o.1.2.2.2.1 else v51o.1.2.2.2.1) else (bif v134 then v147o.1.2.2.2.1 else v160o.1.2.2.2.1)),(bif c_5 then (bif v23 then v31o.1.2.2.2.2.1 else v51o.1.2.2.2.2.1) else (bif v134 then v147o.1.2.2.2.2.1 else v160o.1.2.2.2.2.1)),())
 (((v23=true→((vP5 p2.1 p0.1)∧(xZ0 s_1 v30)))∧((!v23)=true→((wD7 p2.1 p1.2.2.2.1)∧((wD7 p2.1 p2.2.2.2.1)∧((xZ0 s_3 v40)∧((wH5 p2.1 p1.2.2.2.1)∧((wH5 p2.1 p2.2.2.2.1)∧((xZ0 s_5 v50)∧((!v102)=true→((wB v109 v89)∧((wB v118 v89)∧((uL v111 v120)∧((!v132)=true→((v134=true→((wH5 p2.1 p1.2.2.2.1)∧((wH5 p2.1 s_6)∧((wH5 p2.1 p2.2.2.2.1)∧(xZ0 s_8 v146)))))∧(v134=false→((wD7 p2.1 p1.2.2.2.1)∧((wD7 p2.1 s_6)∧((wD7 p2.1 p2.2.2.2.1)∧(xZ0 s_10 v159))))))))))))))))))),(),(s_11,()))
def wN0 p0 p1 p2:=(uE p0 p1 p2).1
def pS9 p0 p1 p2:=(uE p0 p1 p2).2.1
def wO4 p0 p1 p2:=(uE p0 p1 p2).2.2
instance (p0:(Int×Int×Int×(List (List D125))×Int×Unit))(p1:D205)(p2:D205):Decidable (wN0 p0 p1 p2):=by
 unfold wN0 uE
 try dsimp only
 infer_instance
def uQ6:Am.Spec:=fnSpec [(0,(.box T179 (.agg (.cons (.int .i64) (.cons (.int .i64) (.cons (.int .i64) (.cons (.sl (.sl T125)) (.cons (.int .i64) .nl))))) (.cons vI (.cons vI (.cons vI (.cons (.own (.sl T125) 400000 false) (.cons vI .nl)))))))),(1,(.val T205)),(2,(.val T205))] (.tup .nl) [(0,(.box T179 (.agg (.cons (.int .i64) (.cons (.int .i64) (.cons (.int .i64) (.cons (.sl (.sl T125)) (.cons (.int .i64) .nl))))) (.cons vI (.cons vI (.cons vI (.cons (.own (.sl T125) 400000 false) (.cons vI .nl))))))))] (fun x=>wN0 x.1 x.2.1 x.2.2.1) (fun x=>pS9 x.1 x.2.1 x.2.2.1) (fun x=>wO4 x.1 x.2.1 x.2.2.1)
def sS2:Ctx:={ Cx tys [(108,wF7),(160,wT),(161,vG3),(162,vP0),(176,uD6),(179,tC4)] [] [] true 161 [0] [40,50,146,159] with wants:=[(160,[1])] }
theorem rP8:SpecOk Tryz.prog 163 uQ6:=fq (c:=sS2) Tryz.func163 ⟨wZ2,vU1,tC8,tY1,sS,rX6,trivial⟩
def uE0 (p0:(Int×Int×Int×(List (List D125))×Int×Unit))(p1:D205)(p2:D205):Prop×(Unit)×((Int×Int×Int×(List (List D125))×Int×Unit)×Unit):=
 let v12:=(p0.2.2.1==1)
 let v20:=(f176 p1.1 p0.1)
 let s_1:=(p0.1,p0.2.1,p0.2.2.1,p0.2.2.2.1,p0.2.2.2.2.1,())
 let v21o:=(xY4 s_1 v20)
 let v29:=(f176 p2.2.1 v21o.1.1)
 let s_3:=(v21o.1.1,v21o.1.2.1,v21o.1.2.2.1,v21o.1.2.2.2.1,v21o.1.2.2.2.2.1,())
 let v30o:=(xY4 s_3 v29)
 let v32:=(p0.2.2.1==2)
 let v37:=(f162 p1.1 p1.2.2.2.2.1)
 let v57:=([(f161 v37 p1.2.2.2.1),(f161 p1.1 p1.2.2.2.1),(f162 p1.1 p1.2.2.2.1),(f162 v37 p1.2.2.2.1)]:List D125)
 let s_5:=(p0.1,p0.2.1,p0.2.2.1,p0.2.2.2.1,p0.2.2.2.2.1,())
 let v58o:=(xY4 s_5 v57)
 let v63:=(f161 p2.2.1 p2.2.2.2.2.1)
 let v83:=([(f161 p2.2.1 p2.2.2.2.1),(f161 v63 p2.2.2.2.1),(f162 v63 p2.2.2.2.1),(f162 p2.2.1 p2.2.2.2.1)]:List D125)
 let s_7:=(v58o.1.1,v58o.1.2.1,v58o.1.2.2.1,v58o.1.2.2.2.1,v58o.1.2.2.2.2.1,())
 let v84o:=(xY4 s_7 v83)
 let s_8:=((bif v12 then v30o.1.1 else (bif v32 then v84o.1.1 else p0.1)),(bif v12 then v30o.1.2.1 else (bif v32 then v84o.1.2.1 else p0.2.1)),(bif v12 then v30o.1.2.2.1 else (bif v32 then v84o.1.2.2.1 else p0.2.2.1)),(bif v12 then v30o.1.2.2.2.1 else (bif v32 then v84o.1.2.2.2.1 else p0.2.2.2.1)),(bif v12 then v30o.1.2.2.2.2.1 else (bif v32 then v84o.1.2.2.2.2.1 else p0.2.2.2.2.1)),())
 (((v12=true→((vP5 p1.1 p0.1)∧((xZ0 s_1 v20)∧((vP5 p2.2.1 v21o.1.1)∧(xZ0 s_3 v29)))))∧(v12=false→(v32=true→((wH5 p1.1 p1.2.2.2.2.1)∧((wD7 v37 p1.2.2.2.1)∧((wD7 p1.1 p1.2.2.2.1)∧((wH5 p1.1 p1.2.2.2.1)∧((wH5 v37 p1.2.2.2.1)∧((xZ0 s_5 v57)∧((wD7 p2.2.1 p2.2.2.2.2.1)∧((wD7 p2.2.1 p2.2.2.2.1)∧((wD7 v63 p2.2.2.2.1)∧((wH5 v63 p2.2.2.2.1)∧((wH5 p2.2.1 p2.2.2.2.1)∧(xZ0 s_7 v83))))))))))))))),(),(s_8,()))
def wY1 p0 p1 p2:=(uE0 p0 p1 p2).1
def pT p0 p1 p2:=(uE0 p0 p1 p2).2.1
def uE1 p0 p1 p2:=(uE0 p0 p1 p2).2.2
instance (p0:(Int×Int×Int×(List (List D125))×Int×Unit))(p1:D205)(p2:D205):Decidable (wY1 p0 p1 p2):=by
 unfold wY1 uE0
 try dsimp only
 infer_instance
def uQ7:Am.Spec:=fnSpec [(0,(.box T179 (.agg (.cons (.int .i64) (.cons (.int .i64) (.cons (.int .i64) (.cons (.sl (.sl T125)) (.cons (.int .i64) .nl))))) (.cons vI (.cons vI (.cons vI (.cons (.own (.sl T125) 400000 false) (.cons vI .nl)))))))),(1,(.val T205)),(2,(.val T205))] (.tup .nl) [(0,(.box T179 (.agg (.cons (.int .i64) (.cons (.int .i64) (.cons (.int .i64) (.cons (.sl (.sl T125)) (.cons (.int .i64) .nl))))) (.cons vI (.cons vI (.cons vI (.cons (.own (.sl T125) 400000 false) (.cons vI .nl))))))))] (fun x=>wY1 x.1 x.2.1 x.2.2.1) (fun x=>pT x.1 x.2.1 x.2.2.1) (fun x=>uE1 x.1 x.2.1 x.2.2.1)
def sS3:Ctx:={ Cx tys [(160,wT),(161,vG3),(162,vP0),(176,uD6)] [] [] true 85 [0] [57,83] with wants:=[(160,[1])] }
theorem rP9:SpecOk Tryz.prog 164 uQ7:=fq (c:=sS3) Tryz.func164 ⟨vU1,tC8,tY1,sS,trivial⟩
abbrev wN1:Type:=(Bool×(List D205)×(List D205)×Int×Unit)
abbrev wD0:Type:=((Int×Int×Int×(List (List D125))×Int×Unit)×Int×Unit)
def vJ6 (y:wN1)(x:wD0):Prop×Bool×wD0:=
 let a32:=y.2.2.1
 let a0:=x.1
 let a34:=x.2.1
 let v35:=(decide (a34<y.2.2.2.1))
 let v36:=(nth a32 a34 Z205)
 let v59:=([(f161 v36.1 v36.2.2.2.1),(f161 v36.2.1 v36.2.2.2.1),(f162 v36.2.1 v36.2.2.2.1),(f162 v36.1 v36.2.2.2.1)]:List D125)
 let s_1:=(a0.1,a0.2.1,a0.2.2.1,a0.2.2.2.1,a0.2.2.2.2.1,())
 let v60o:=(xY4 s_1 v59)
 ((v35=true→(InB a34 (len a32)∧((wD7 v36.1 v36.2.2.2.1)∧((wD7 v36.2.1 v36.2.2.2.1)∧((wH5 v36.2.1 v36.2.2.2.1)∧((wH5 v36.1 v36.2.2.2.1)∧((xZ0 s_1 v59)∧InR (a34+1)))))))),v35,((v60o.1.1,v60o.1.2.1,v60o.1.2.2.1,v60o.1.2.2.2.1,v60o.1.2.2.2.2.1,()),(a34+1),()))
def wJ0 y x:=(vJ6 y x).1
def wH8 y x:=(vJ6 y x).2.1
def wC6 y x:=(vJ6 y x).2.2
instance (y:wN1)(x:wD0):Decidable (wJ0 y x):=by
 unfold wJ0 vJ6
 try dsimp only
 infer_instance
def wZ8 (y:wN1)(x:wD0):(Int×Int×Int×(List (List D125))×Int×Unit):=
 let a0:=x.1
 (a0.1,a0.2.1,a0.2.2.1,a0.2.2.2.1,a0.2.2.2.2.1,())
def uE2:List (Nat×Sh):=[(0,(.box T179 (.agg (.cons (.int .i64) (.cons (.int .i64) (.cons (.int .i64) (.cons (.sl (.sl T125)) (.cons (.int .i64) .nl))))) (.cons vI (.cons vI (.cons vI (.cons (.own (.sl T125) 400000 false) (.cons vI .nl)))))))),(2,vB),(7,(.own T205 1007 false))]
def vP6:St→Option Out:=xP4 [(2,vB),(7,(.own T205 1007 false)),(32,(.own T205 1007 false)),(33,vI)] [(0,(.box T179 (.agg (.cons (.int .i64) (.cons (.int .i64) (.cons (.int .i64) (.cons (.sl (.sl T125)) (.cons (.int .i64) .nl))))) (.cons vI (.cons vI (.cons vI (.cons (.own (.sl T125) 400000 false) (.cons vI .nl)))))))),(34,vI)] wH8 wC6 wJ0 fun y x=>[ex 2 none uE2 ((wZ8 y x),y.1,y.2.1,())]
abbrev wJ1:Type:=(Bool×(List D205)×Unit)
abbrev wC:Type:=((Int×Int×Int×(List (List D125))×Int×Unit)×Int×Unit)
def vC2 (y:wJ1)(x:wC):Prop×Bool×wC:=
 let a7:=y.2.1
 let a0:=x.1
 let a10:=x.2.1
 let v78:=(decide (a10<(len a7)))
 let v84:=(a10-1)
 let v85:=(nth a7 v84 Z205)
 let v89:=(nth a7 a10 Z205)
 let s_1:=(a0.1,a0.2.1,a0.2.2.1,a0.2.2.2.1,a0.2.2.2.2.1,())
 let v91o:=(wO4 s_1 v85 v89)
 ((v78=true→(InR (a10-1)∧(InB v84 (len a7)∧(InB a10 (len a7)∧((wN0 s_1 v85 v89)∧InR (a10+1)))))),v78,((v91o.1.1,v91o.1.2.1,v91o.1.2.2.1,v91o.1.2.2.2.1,v91o.1.2.2.2.2.1,()),(a10+1),()))
def wG2 y x:=(vC2 y x).1
def wD1 y x:=(vC2 y x).2.1
def wA8 y x:=(vC2 y x).2.2
instance (y:wJ1)(x:wC):Decidable (wG2 y x):=by
 unfold wG2 vC2
 try dsimp only
 infer_instance
def wU9 (y:wJ1)(x:wC):(Int×Int×Int×(List (List D125))×Int×Unit):=
 let a0:=x.1
 (a0.1,a0.2.1,a0.2.2.1,a0.2.2.2.1,a0.2.2.2.2.1,())
def vX8:List (Nat×Sh):=[(0,(.box T179 (.agg (.cons (.int .i64) (.cons (.int .i64) (.cons (.int .i64) (.cons (.sl (.sl T125)) (.cons (.int .i64) .nl))))) (.cons vI (.cons vI (.cons vI (.cons (.own (.sl T125) 400000 false) (.cons vI .nl)))))))),(2,vB),(7,(.own T205 1007 false))]
def vN1:St→Option Out:=xP4 [(2,vB),(7,(.own T205 1007 false))] [(0,(.box T179 (.agg (.cons (.int .i64) (.cons (.int .i64) (.cons (.int .i64) (.cons (.sl (.sl T125)) (.cons (.int .i64) .nl))))) (.cons vI (.cons vI (.cons vI (.cons (.own (.sl T125) 400000 false) (.cons vI .nl)))))))),(10,vI)] wD1 wA8 wG2 fun y x=>[ex 4 none vX8 ((wU9 y x),y.1,y.2.1,())]
def uE3 (p0:(Int×Int×Int×(List (List D125))×Int×Unit))(p1:List D125)(p2:Bool):Prop×(Unit)×((Int×Int×Int×(List (List D125))×Int×Unit)×Unit):=
 let v13:=(f157 p1 p2)
 let v20:=(f158 v13 p2 p0.1)
 let v23:=((len v20)==0)
 let v26:=((len v13)==1)
 let v29:=(nth v13 (0:Int) Z125)
 let s_1:=(p0.1,p0.2.1,p0.2.2.1,p0.2.2.2.1,p0.2.2.2.2.1,())
 let v31o:=(uD9 s_1 v29)
 let y6:=(p2,v20,v20,(len v20),())
 let x6:=((p0.1,p0.2.1,p0.2.2.1,p0.2.2.2.1,p0.2.2.2.2.1,()),(0:Int),())
 let r6_2_0:=(wZ8 y6 (zC3 (wH8 y6) (wC6 y6) x6))
 let v63:=(!p2)
 let v67:=(len v20)
 let v68:=(v67-1)
 let v69:=(nth v20 v68 Z205)
 let v72:=(nth v20 (0:Int) Z205)
 let s_4:=(r6_2_0.1,r6_2_0.2.1,r6_2_0.2.2.1,r6_2_0.2.2.2.1,r6_2_0.2.2.2.2.1,())
 let v74o:=(wO4 s_4 v69 v72)
 let s_5:=((bif v63 then v74o.1.1 else r6_2_0.1),(bif v63 then v74o.1.2.1 else r6_2_0.2.1),(bif v63 then v74o.1.2.2.1 else r6_2_0.2.2.1),(bif v63 then v74o.1.2.2.2.1 else r6_2_0.2.2.2.1),(bif v63 then v74o.1.2.2.2.2.1 else r6_2_0.2.2.2.2.1),())
 let y13:=(p2,v20,())
 let x13:=(s_5,(1:Int),())
 let r13_4_0:=(wU9 y13 (zC3 (wD1 y13) (wA8 y13) x13))
 let v95:=(nth v20 (0:Int) Z205)
 let v99:=(len v20)
 let v100:=(v99-1)
 let v101:=(nth v20 v100 Z205)
 let s_7:=(r13_4_0.1,r13_4_0.2.1,r13_4_0.2.2.1,r13_4_0.2.2.2.1,r13_4_0.2.2.2.2.1,())
 let v103o:=(uE1 s_7 v95 v101)
 let s_8:=((bif v23 then (bif v26 then v31o.1.1 else p0.1) else (bif p2 then v103o.1.1 else r13_4_0.1)),(bif v23 then (bif v26 then v31o.1.2.1 else p0.2.1) else (bif p2 then v103o.1.2.1 else r13_4_0.2.1)),(bif v23 then (bif v26 then v31o.1.2.2.1 else p0.2.2.1) else (bif p2 then v103o.1.2.2.1 else r13_4_0.2.2.1)),(bif v23 then (bif v26 then v31o.1.2.2.2.1 else p0.2.2.2.1) else (bif p2 then v103o.1.2.2.2.1 else r13_4_0.2.2.2.1)),(bif v23 then (bif v26 then v31o.1.2.2.2.2.1 else p0.2.2.2.2.1) else (bif p2 then v103o.1.2.2.2.2.1 else r13_4_0.2.2.2.2.1)),())
 (((tC3 p1 p2)∧((tC5 v13 p2 p0.1)∧((v23=true→(v26=true→(InB (0:Int) (len v13)∧(vG6 s_1 v29))))∧((!v23)=true→((Am.Ends (wH8 y6) (wC6 y6) (wJ0 y6) x6)∧((v63=true→(InR (v67-1)∧(InB v68 (len v20)∧(InB (0:Int) (len v20)∧(wN0 s_4 v69 v72)))))∧((Am.Ends (wD1 y13) (wA8 y13) (wG2 y13) x13)∧(p2=true→(InB (0:Int) (len v20)∧(InR (v99-1)∧(InB v100 (len v20)∧(wY1 s_7 v95 v101)))))))))))),(),(s_8,()))
def wP8 p0 p1 p2:=(uE3 p0 p1 p2).1
def pT0 p0 p1 p2:=(uE3 p0 p1 p2).2.1
def vG7 p0 p1 p2:=(uE3 p0 p1 p2).2.2
instance (p0:(Int×Int×Int×(List (List D125))×Int×Unit))(p1:List D125)(p2:Bool):Decidable (wP8 p0 p1 p2):=by
 unfold wP8 uE3
 try dsimp only
 infer_instance
def uQ8:Am.Spec:=fnSpec [(0,(.box T179 (.agg (.cons (.int .i64) (.cons (.int .i64) (.cons (.int .i64) (.cons (.sl (.sl T125)) (.cons (.int .i64) .nl))))) (.cons vI (.cons vI (.cons vI (.cons (.own (.sl T125) 400000 false) (.cons vI .nl)))))))),(1,(.val (.sl T125))),(2,vB)] (.tup .nl) [(0,(.box T179 (.agg (.cons (.int .i64) (.cons (.int .i64) (.cons (.int .i64) (.cons (.sl (.sl T125)) (.cons (.int .i64) .nl))))) (.cons vI (.cons vI (.cons vI (.cons (.own (.sl T125) 400000 false) (.cons vI .nl))))))))] (fun x=>wP8 x.1 x.2.1 x.2.2.1) (fun x=>pT0 x.1 x.2.1 x.2.2.1) (fun x=>vG7 x.1 x.2.1 x.2.2.1)
def vZ7:Ctx:={ Cx tys [(157,sH7),(158,sI1),(159,uQ5),(160,wT),(161,vG3),(162,vP0),(163,uQ6),(164,uQ7)] [(6,vP6),(13,vN1)] [(3,[(4,0,20,1007)])] false 104 [0] [59] with wants:=[(159,[]),(160,[1]),(163,[]),(164,[])] }
theorem vZ8:CtxOk Tryz.prog vZ7:=cq ⟨pQ7,pR5,rP7,vU1,tC8,tY1,rP8,rP9,trivial⟩
noncomputable def uQ9:Code:=Tryz.f146.body.getD .skip
noncomputable def tR3:Code:=xX1 uQ9 0
theorem tY2:yU8 Tryz.prog vZ7 tR3:=lq vZ8 (sp:=vP6) rfl [uE2]
noncomputable def tD:Code:=xX1 uQ9 1
theorem tP3:yU8 Tryz.prog vZ7 tD:=lq vZ8 (sp:=vN1) rfl [vX8]
theorem rQ:SpecOk Tryz.prog 146 uQ8:=fl vZ8 Tryz.func146 (bs:=[tR3,tD]) ⟨tY2,tP3,trivial⟩
abbrev wG3:Type:=((List Bool)×Unit×(List (List D125))×Int×Unit)
abbrev wC3:Type:=((Int×Int×Int×(List (List D125))×Int×Unit)×Int×Unit)
def vG8 (y:wG3)(x:wC3):Prop×Bool×wC3×Bool×Bool:=
 let a1:=y.1
 let a39:=y.2.2.1
 let a38:=x.1
 let a41:=x.2.1
 let v42:=(decide (a41<y.2.2.2.1))
 let v44:=(nth a39 a41 ([]:List D125))
 let v50:=(nth a1 a41 false)
 let s_1:=(a38.1,a38.2.1,a38.2.2.1,a38.2.2.2.1,a38.2.2.2.2.1,())
 let v52o:=(vG7 s_1 v44 v50)
 let v57:=(decide (v52o.1.2.2.2.2.1>4096))
 ((v42=true→(InB a41 (len a39)∧(InB a41 (len a1)∧((wP8 s_1 v44 v50)∧((!v57)=true→InR (a41+1)))))),(v42&&(!v57)),((v52o.1.1,v52o.1.2.1,v52o.1.2.2.1,v52o.1.2.2.2.1,v52o.1.2.2.2.2.1,()),(a41+1),()),(v42&&v57),(!v42))
def wP9 y x:=(vG8 y x).1
def wY2 y x:=(vG8 y x).2.1
def wJ2 y x:=(vG8 y x).2.2.1
def vZ9 y x:=(vG8 y x).2.2.2.1
def sS4 y x:=(vG8 y x).2.2.2.2
instance (y:wG3)(x:wC3):Decidable (wP9 y x):=by
 unfold wP9 vG8
 try dsimp only
 infer_instance
def vJ7 (y:wG3)(x:wC3):(List (List D125)):=
 ([]:List (List D125))
def uE4 (y:wG3)(x:wC3):Int:=
 (3:Int)
def tD0:List (Nat×Sh):=[(10,(.own (.sl T125) 0 false)),(11,vI)]
def vJ8 (y:wG3)(x:wC3):(Int×Int×Int×(List (List D125))×Int×Unit):=
 let a38:=x.1
 (a38.1,a38.2.1,a38.2.2.1,a38.2.2.2.1,a38.2.2.2.2.1,())
def tD1:List (Nat×Sh):=[(14,(.ref 38 T179)),(38,(.box T179 (.agg (.cons (.int .i64) (.cons (.int .i64) (.cons (.int .i64) (.cons (.sl (.sl T125)) (.cons (.int .i64) .nl))))) (.cons vI (.cons vI (.cons vI (.cons (.own (.sl T125) 403800 false) (.cons vI .nl))))))))]
def uE5:St→Option Out:=xP4 [(1,(.val (.sl .bool))),(14,(.ref 38 T179)),(39,(.val (.sl (.sl T125)))),(40,vI)] [(38,(.box T179 (.agg (.cons (.int .i64) (.cons (.int .i64) (.cons (.int .i64) (.cons (.sl (.sl T125)) (.cons (.int .i64) .nl))))) (.cons vI (.cons vI (.cons vI (.cons (.own (.sl T125) 403800 false) (.cons vI .nl)))))))),(41,vI)] wY2 wJ2 wP9 fun y x=>[ex 1 (some (vZ9 y x)) tD0 ((vJ7 y x),(uE4 y x),()),ex 2 (some (sS4 y x)) tD1 (y.2.1,(vJ8 y x),())]
def qS5 (p0:(List (List D125)))(p1:List Bool)(p2:Int)(p3:Int)(p4:Int):Prop×((List (List D125))×Int×Unit):=
 let v20:=(f145 p2 p3 p4)
 let v22:=(v20 !=0)
 let v25:=(f129 p0 (0:Int))
 let v27:=(v25 !=0)
 let v33:=((len p1)!=(len p0))
 let y11:=(p1,(),p0,(len p0),())
 let x11:=((p2,p3,p4,([]:List (List D125)),(0:Int),()),(0:Int),())
 let e11:=(zC3 (wY2 y11) (wJ2 y11) x11)
 let q11_1:=(vZ9 y11 e11)
 (((tC2 p2 p3 p4)∧((!v22)=true→((vZ5 p0 (0:Int))∧((!v27)=true→((!v33)=true→(Am.Ends (wY2 y11) (wJ2 y11) (wP9 y11) x11)))))),((bif v22 then [] else (bif v27 then [] else (bif v33 then [] else (bif q11_1 then (vJ7 y11 e11) else (vJ8 y11 e11).2.2.2.1)))),(bif v22 then v20 else (bif v27 then v25 else (bif v33 then (15:Int) else (bif q11_1 then (uE4 y11 e11) else (0:Int))))),()))
def tD2 p0 p1 p2 p3 p4:=(qS5 p0 p1 p2 p3 p4).1
def f128 p0 p1 p2 p3 p4:=(qS5 p0 p1 p2 p3 p4).2
instance (p0:(List (List D125)))(p1:List Bool)(p2:Int)(p3:Int)(p4:Int):Decidable (tD2 p0 p1 p2 p3 p4):=by
 unfold tD2 qS5
 try dsimp only
 infer_instance
def sI7:Am.Spec:=fnSpec [(0,(.val (.sl (.sl T125)))),(1,(.val (.sl .bool))),(2,vI),(3,vI),(4,vI)] (.tup (.cons (.own (.sl T125) 0 false) (.cons vI .nl))) [] (fun x=>tD2 x.1 x.2.1 x.2.2.1 x.2.2.2.1 x.2.2.2.2.1) (fun x=>f128 x.1 x.2.1 x.2.2.1 x.2.2.2.1 x.2.2.2.2.1) (fun _=>())
def rE3:Ctx:={ Cx tys [(129,uD0),(145,sH6),(146,uQ8)] [(11,uE5)] [(35,[(4,0,403800,0)])] false 63 [] [] with wants:=[(146,[])] }
theorem rE4:CtxOk Tryz.prog rE3:=cq ⟨sR8,pQ5,rQ,trivial⟩
noncomputable def rY2:Code:=Tryz.f128.body.getD .skip
noncomputable def rE5:Code:=xX1 rY2 0
theorem sS5:yU8 Tryz.prog rE3 rE5:=lq rE4 (sp:=uE5) rfl [tD0,tD1]
theorem pT1:SpecOk Tryz.prog 128 sI7:=fl rE4 Tryz.func128 (bs:=[rE5]) ⟨sS5,trivial⟩
def pT2 (p0:D49):Prop×Int:=
 let v15:=(f125 p0.2.2.2.2.2.2.2.2.2.2.2.2.2.2.2.2.2.2.1 p0.2.2.2.2.2.2.2.2.2.2.1)
 let v19:=(v15.2.1 !=0)
 let v28:=(bif (p0.2.2.2.2.2.2.2.2.2.2.2.2.2.2.2.2.2.2.2.1 !=0) then (p0.2.2.2.2.2.2.2.2.2.2.2.2.2.2.2.2.2.2.2.1 !=1) else false)
 let v41:=(bif (p0.2.2.2.2.2.2.2.2.2.2.2.2.2.2.2.2.2.2.2.2.1==0) then (bif (p0.2.2.2.2.2.2.2.2.2.2.2.2.2.2.2.2.2.2.2.2.2.1 !=0) then true else (p0.2.2.2.2.2.2.2.2.2.2.2.2.2.2.2.2.2.2.2.2.2.2.1 !=0)) else false)
 let v44:=(f126 v15.1)
 let v48:=(v44.2.1 !=0)
 let v54:=(p0.2.2.2.2.2.2.2.2.2.2.2.2.2.2.2.2.2.2.2.2.1 !=0)
 let v57:=(f127 v15.1)
 let v61:=(v57.2.1 !=0)
 let v72:=(f128 v44.1 v57.1 p0.2.2.2.2.2.2.2.2.2.2.2.2.2.2.2.2.2.2.2.2.1 p0.2.2.2.2.2.2.2.2.2.2.2.2.2.2.2.2.2.2.2.2.2.1 p0.2.2.2.2.2.2.2.2.2.2.2.2.2.2.2.2.2.2.2.2.2.2.1)
 let v76:=(v72.2.1 !=0)
 let m5_1:=(bif v54 then v72.1 else v44.1)
 let m6:=(bif v54 then (0:Int) else p0.2.2.2.2.2.2.2.2.2.2.2.2.2.2.2.2.2.2.2.1)
 let v80:=(f129 m5_1 m6)
 let v82:=(v80 !=0)
 let m2_4:=(bif v41 then (1:Int) else (bif v48 then v44.2.1 else (bif ((v61||((!v61)&&v76))&&v54) then (bif v61 then v57.2.1 else v72.2.1) else (bif v82 then v80 else (f110 p0.2.2.2.2.2.2.2.2.2.2.2.2.2.1)))))
 (((tB3 p0.2.2.2.2.2.2.2.2.2.2.2.2.2.2.2.2.2.2.1 p0.2.2.2.2.2.2.2.2.2.2.1)∧((!v19)=true→((!v28)=true→((!v41)=true→((vO9 v15.1)∧((!v48)=true→((v54=true→((tB7 v15.1)∧((!v61)=true→(tD2 v44.1 v57.1 p0.2.2.2.2.2.2.2.2.2.2.2.2.2.2.2.2.2.2.2.2.1 p0.2.2.2.2.2.2.2.2.2.2.2.2.2.2.2.2.2.2.2.2.2.1 p0.2.2.2.2.2.2.2.2.2.2.2.2.2.2.2.2.2.2.2.2.2.2.1))))∧((bif v54 then ((!v61)&&(!v76)) else true)=true→((vZ5 m5_1 m6)∧((!v82)=true→(vZ1 p0.2.2.2.2.2.2.2.2.2.2.2.2.2.1))))))))))),(bif v19 then v15.2.1 else (bif v28 then (8:Int) else m2_4)))
def tD3 p0:=(pT2 p0).1
def f112 p0:=(pT2 p0).2
instance (p0:D49):Decidable (tD3 p0):=by
 unfold tD3 pT2
 try dsimp only
 infer_instance
def sI8:Am.Spec:=fnSpec [(0,(.val T49))] vI [] (fun x=>tD3 x.1) (fun x=>f112 x.1) (fun _=>())
def qS6:Ctx:=Cx tys [(110,uC),(125,sH3),(126,tB5),(127,sH4),(128,sI7),(129,uD0)] [] [(17,[(4,0,44,1005)]),(27,[(4,0,57,1007)]),(33,[(5,0,1005,0),(4,0,72,1005)])] false 87 [] []
theorem pT3:SpecOk Tryz.prog 112 sI8:=fq (c:=qS6) Tryz.func112 ⟨sR,pQ,rW9,pQ2,pT1,sR8,trivial⟩
def pT4 (p0:Int)(p1:Int)(p2:Int):Prop×Bool:=
 (True,(bif (decide (p0≥p1)) then (decide (p0≤p2)) else false))
def wQ p0 p1 p2:=(pT4 p0 p1 p2).1
def f166 p0 p1 p2:=(pT4 p0 p1 p2).2
instance (p0:Int)(p1:Int)(p2:Int):Decidable (wQ p0 p1 p2):=by
 unfold wQ pT4
 try dsimp only
 infer_instance
def uE6:Am.Spec:=fnSpec [(0,vI),(1,vI),(2,vI)] vB [] (fun x=>wQ x.1 x.2.1 x.2.2.1) (fun x=>f166 x.1 x.2.1 x.2.2.1) (fun _=>())
def qS7:Ctx:=Cx tys [] [] [] false 15 [] []
theorem sS6:SpecOk Tryz.prog 166 uE6:=fq (c:=qS7) Tryz.func166 trivial
abbrev wN2:Type:=((List D128)×Int×Int×(List D125)×Unit)
abbrev wG4:Type:=(Int×Unit)
def vG9 (y:wN2)(x:wG4):Prop×Bool×wG4×Bool×Bool:=
 let a27:=x.1
 let v28:=(decide (a27<3))
 let v29:=(nth y.2.2.2.1 a27 Z125)
 let v33:=(!(f166 v29.1 (-65536:Int) (65536:Int)))
 let v39:=(bif v33 then true else (!(f166 v29.2.1 (-65536:Int) (65536:Int))))
 ((v28=true→(InB a27 3∧((wQ v29.1 (-65536:Int) (65536:Int))∧(((!v33)=true→(wQ v29.2.1 (-65536:Int) (65536:Int)))∧((!v39)=true→InR (a27+1)))))),(v28&&(!v39)),((a27+1),()),(v28&&v39),(!v28))
def vJ9 y x:=(vG9 y x).1
def vU2 y x:=(vG9 y x).2.1
def wV8 y x:=(vG9 y x).2.2.1
def tD4 y x:=(vG9 y x).2.2.2.1
def tD5 y x:=(vG9 y x).2.2.2.2
instance (y:wN2)(x:wG4):Decidable (vJ9 y x):=by
 unfold vJ9 vG9
 try dsimp only
 infer_instance
def uE7 (y:wN2)(x:wG4):Int:=
 (2:Int)
def tD6:List (Nat×Sh):=[(19,(.val (.sl T128))),(20,vI),(21,vI)]
def uE8:St→Option Out:=xP4 [(19,(.val (.sl T128))),(20,vI),(21,vI),(26,(.val (.arr 3 T125)))] [(27,vI)] vU2 wV8 vJ9 fun y x=>[ex 1 (some (tD4 y x)) [(2,vI)] ((uE7 y x),()),ex 4 (some (tD5 y x)) tD6 (y.1,y.2.1,y.2.2.1,())]
abbrev wT0:Type:=((List D128)×Int×Unit)
abbrev wK8:Type:=(Int×Unit)
def vU3 (y:wT0)(x:wK8):Prop×Bool×wK8×Bool×Bool:=
 let a19:=y.1
 let a20:=y.2.1
 let a21:=x.1
 let v22:=(decide (a21<a20))
 let y10:=(a19,a20,a21,(nth a19 a21 Z128).2.1,())
 let x10:=((0:Int),())
 let e10:=(zC3 (vU2 y10) (wV8 y10) x10)
 let q10_4:=(tD5 y10 e10)
 ((v22=true→(InB a21 (len a19)∧((Am.Ends (vU2 y10) (wV8 y10) (vJ9 y10) x10)∧(q10_4=true→InR (a21+1))))),(v22&&q10_4),((a21+1),()),(v22&&(tD4 y10 e10)),(!v22))
def vU4 y x:=(vU3 y x).1
def tD7 y x:=(vU3 y x).2.1
def vP7 y x:=(vU3 y x).2.2.1
def tR4 y x:=(vU3 y x).2.2.2.1
def rQ0 y x:=(vU3 y x).2.2.2.2
instance (y:wT0)(x:wK8):Decidable (vU4 y x):=by
 unfold vU4 vU3
 try dsimp only
 infer_instance
def uR (y:wT0)(x:wK8):Int:=
 let a19:=y.1
 let a21:=x.1
 let y10:=(a19,y.2.1,a21,(nth a19 a21 Z128).2.1,())
 (uE7 y10 (zC3 (vU2 y10) (wV8 y10) ((0:Int),())))
def uR0:St→Option Out:=xP4 [(19,(.val (.sl T128))),(20,vI)] [(21,vI)] tD7 vP7 vU4 fun y x=>[ex 1 (some (tR4 y x)) [(2,vI)] ((uR y x),()),ex 2 (some (rQ0 y x)) [] ()]
def pT5 (p0:D192):Prop×Int:=
 let v11:=(!(f166 p0.2.1 (0:Int) (65536:Int)))
 let v14:=(f140 p0.2.2.1)
 let v16:=(v14 !=0)
 let y7:=(p0.2.2.1,(len p0.2.2.1),())
 let x7:=((0:Int),())
 let e7:=(zC3 (tD7 y7) (vP7 y7) x7)
 (((wQ p0.2.1 (0:Int) (65536:Int))∧((!v11)=true→((vO3 p0.2.2.1)∧((!v16)=true→(Am.Ends (tD7 y7) (vP7 y7) (vU4 y7) x7))))),(bif v11 then (2:Int) else (bif v16 then v14 else (bif (tR4 y7 e7) then (uR y7 e7) else (0:Int)))))
def tY3 p0:=(pT5 p0).1
def f180 p0:=(pT5 p0).2
instance (p0:D192):Decidable (tY3 p0):=by
 unfold tY3 pT5
 try dsimp only
 infer_instance
def sI9:Am.Spec:=fnSpec [(0,(.val T192))] vI [] (fun x=>tY3 x.1) (fun x=>f180 x.1) (fun _=>())
def tY4:Ctx:=Cx tys [(140,vO4),(166,uE6)] [(10,uE8),(7,uR0)] [] false 42 [] []
theorem tY5:CtxOk Tryz.prog tY4:=cq ⟨tX5,sS6,trivial⟩
noncomputable def rY3:Code:=Tryz.f180.body.getD .skip
noncomputable def sS7:Code:=xX1 rY3 0
noncomputable def rE6:Code:=xX1 sS7 0
theorem sS8:yU8 Tryz.prog tY4 rE6:=lq tY5 (sp:=uE8) rfl [[(2,vI)],tD6]
theorem rQ1:yU8 Tryz.prog tY4 sS7:=xX9 tY5 mixed (sp:=uR0) rfl [[(2,vI)],[]] (bs:=[rE6]) (by kernel_rfl) ⟨sS8,trivial⟩ (by kernel_rfl) (by kernel_rfl) fun y x=>by kernel_rfl
theorem pT6:SpecOk Tryz.prog 180 sI9:=fl tY5 Tryz.func180 (bs:=[sS7]) ⟨rQ1,trivial⟩
def pT7 (p0:D197)(p1:D197):Prop×Bool:=
 (True,(bif (decide (p0.1>p1.1)) then true else (bif (p0.1==p1.1) then (decide (p0.2.1>p1.2.1)) else false)))
def tY6 p0 p1:=(pT7 p0 p1).1
def f181 p0 p1:=(pT7 p0 p1).2
instance (p0:D197)(p1:D197):Decidable (tY6 p0 p1):=by
 unfold tY6 pT7
 try dsimp only
 infer_instance
def sJ:Am.Spec:=fnSpec [(0,(.val T197)),(1,(.val T197))] vB [] (fun x=>tY6 x.1 x.2.1) (fun x=>f181 x.1 x.2.1) (fun _=>())
def qS8:Ctx:=Cx tys [] [] [] false 24 [] []
theorem pT8:SpecOk Tryz.prog 181 sJ:=fq (c:=qS8) Tryz.func181 trivial
abbrev wT1:Type:=(D163×(List D192)×Int×Unit)
abbrev wK9:Type:=(Int×Unit)
def vU5 (y:wT1)(x:wK9):Prop×Bool×wK9×Bool×Bool:=
 let a1:=y.1
 let a35:=y.2.1
 let a37:=x.1
 let v38:=(decide (a37<y.2.2.1))
 let v40:=(nth a35 a37 Z192)
 let v43:=(decide (a37>0))
 let v50:=(a37-1)
 let v55:=(bif v43 then (decide (v40.1≤(nth a1.2.2.2.1 v50 Z192).1)) else false)
 let v59:=((f180 v40)!=0)
 let c_2:=((!v55)&&(!v59))
 ((v38=true→(InB a37 (len a35)∧((v43=true→InR (a37-1))∧((v43=true→InB v50 (len a1.2.2.2.1))∧(((!v55)=true→(tY3 v40))∧(c_2=true→InR (a37+1))))))),(v38&&c_2),((a37+1),()),(v38&&(v55||((!v55)&&v59))),(!v38))
def vU6 y x:=(vU5 y x).1
def tD8 y x:=(vU5 y x).2.1
def vP8 y x:=(vU5 y x).2.2.1
def tR5 y x:=(vU5 y x).2.2.2.1
def tR6 y x:=(vU5 y x).2.2.2.2
instance (y:wT1)(x:wK9):Decidable (vU6 y x):=by
 unfold vU6 vU5
 try dsimp only
 infer_instance
def uR1 (y:wT1)(x:wK9):Int:=
 let a37:=x.1
 let v40:=(nth y.2.1 a37 Z192)
 (bif (bif (decide (a37>0)) then (decide (v40.1≤(nth y.1.2.2.2.1 (a37-1) Z192).1)) else false) then (24:Int) else (f180 v40))
def uR2:St→Option Out:=xP4 [(1,(.box T163 (.val T163))),(35,(.val (.sl T192))),(36,vI)] [(37,vI)] tD8 vP8 vU6 fun y x=>[ex 1 (some (tR5 y x)) [(2,vI)] ((uR1 y x),()),ex 2 (some (tR6 y x)) [(1,(.box T163 (.val T163)))] (y.1,())]
abbrev wN3:Type:=(D163×(List D197)×Int×Unit)
abbrev wG5:Type:=(Int×Unit)
def vH (y:wN3)(x:wG5):Prop×Bool×wG5×Bool×Bool:=
 let a1:=y.1
 let a63:=y.2.1
 let a65:=x.1
 let v66:=(decide (a65<y.2.2.1))
 let v68:=(nth a63 a65 Z197)
 let v71:=(decide (a65>0))
 let v77:=(a65-1)
 let v78:=(nth a1.2.2.2.2.1 v77 Z197)
 let v82:=(bif v71 then (!(f181 v68 v78)) else false)
 let v86:=(!(f166 v68.2.2.1 (-65536:Int) (65536:Int)))
 let c_2:=((!v82)&&(!v86))
 ((v66=true→(InB a65 (len a63)∧((v71=true→InR (a65-1))∧((v71=true→InB v77 (len a1.2.2.2.2.1))∧((v71=true→(tY6 v68 v78))∧(((!v82)=true→(wQ v68.2.2.1 (-65536:Int) (65536:Int)))∧(c_2=true→InR (a65+1)))))))),(v66&&c_2),((a65+1),()),(v66&&(v82||((!v82)&&v86))),(!v66))
def vK y x:=(vH y x).1
def uL1 y x:=(vH y x).2.1
def vK0 y x:=(vH y x).2.2.1
def tD9 y x:=(vH y x).2.2.2.1
def sS9 y x:=(vH y x).2.2.2.2
instance (y:wN3)(x:wG5):Decidable (vK y x):=by
 unfold vK vH
 try dsimp only
 infer_instance
def uE9 (y:wN3)(x:wG5):Int:=
 let a65:=x.1
 (bif (bif (decide (a65>0)) then (!(f181 (nth y.2.1 a65 Z197) (nth y.1.2.2.2.2.1 (a65-1) Z197))) else false) then (24:Int) else (2:Int))
def uF:St→Option Out:=xP4 [(1,(.box T163 (.val T163))),(63,(.val (.sl T197))),(64,vI)] [(65,vI)] uL1 vK0 vK fun y x=>[ex 1 (some (tD9 y x)) [(2,vI)] ((uE9 y x),()),ex 4 (some (sS9 y x)) [] ()]
def pT9 (p0:D163):Prop×Int:=
 let v11:=(!(f166 p0.1 (1:Int) (65536:Int)))
 let v17:=(bif v11 then true else (!(f166 p0.2.1 (0:Int) (65536:Int))))
 let v23:=(bif v17 then true else (!(f166 p0.2.2.1 (0:Int) (65536:Int))))
 let v33:=(bif (decide ((len p0.2.2.2.1)>256)) then true else (decide ((len p0.2.2.2.2.1)>256)))
 let y6:=(p0,p0.2.2.2.1,(len p0.2.2.2.1),())
 let x6:=((0:Int),())
 let e6:=(zC3 (tD8 y6) (vP8 y6) x6)
 let y15:=(p0,p0.2.2.2.2.1,(len p0.2.2.2.2.1),())
 let x15:=((0:Int),())
 let e15:=(zC3 (uL1 y15) (vK0 y15) x15)
 (((wQ p0.1 (1:Int) (65536:Int))∧(((!v11)=true→(wQ p0.2.1 (0:Int) (65536:Int)))∧(((!v17)=true→(wQ p0.2.2.1 (0:Int) (65536:Int)))∧((!v23)=true→((!v33)=true→((Am.Ends (tD8 y6) (vP8 y6) (vU6 y6) x6)∧((tR6 y6 e6)=true→(Am.Ends (uL1 y15) (vK0 y15) (vK y15) x15)))))))),(bif v23 then (2:Int) else (bif v33 then (3:Int) else (bif (tR5 y6 e6) then (uR1 y6 e6) else (bif (tD9 y15 e15) then (uE9 y15 e15) else (0:Int))))))
def tE p0:=(pT9 p0).1
def f165 p0:=(pT9 p0).2
instance (p0:D163):Decidable (tE p0):=by
 unfold tE pT9
 try dsimp only
 infer_instance
def sJ0:Am.Spec:=fnSpec [(0,(.val T163))] vI [] (fun x=>tE x.1) (fun x=>f165 x.1) (fun _=>())
def tY7:Ctx:=Cx tys [(166,uE6),(180,sI9),(181,sJ)] [(6,uR2),(15,uF)] [] false 88 [] []
theorem tY8:CtxOk Tryz.prog tY7:=cq ⟨sS6,pT6,pT8,trivial⟩
noncomputable def sJ1:Code:=Tryz.f165.body.getD .skip
noncomputable def rY4:Code:=xX1 sJ1 0
theorem rQ2:yU8 Tryz.prog tY7 rY4:=lq tY8 (sp:=uR2) rfl [[(2,vI)],[(1,(.box T163 (.val T163)))]]
noncomputable def rE7:Code:=xX1 sJ1 1
theorem sT0:yU8 Tryz.prog tY7 rE7:=lq tY8 (sp:=uF) rfl [[(2,vI)],[]]
theorem pU:SpecOk Tryz.prog 165 sJ0:=fl tY8 Tryz.func165 (bs:=[rY4,rE7]) ⟨rQ2,sT0,trivial⟩
abbrev wT2:Type:=((List UInt8)×Int×Int×Int×Unit)
abbrev wL:Type:=(Int×Unit)
def vU7 (y:wT2)(x:wL):Prop×Bool×wL×Bool×Bool:=
 let a1:=y.1
 let a18:=x.1
 let v19:=(decide (a18<y.2.2.2.1))
 let v24:=(decide ((xX4 a1 a18)<32))
 let v30:=(bif v24 then true else (decide ((xX4 a1 a18)>126)))
 let v36:=(bif v30 then ((xX4 a1 a18)!=10) else false)
 ((v19=true→(InB a18 (len a1)∧(((!v24)=true→InB a18 (len a1))∧((v30=true→InB a18 (len a1))∧((!v36)=true→InR (a18+1)))))),(v19&&(!v36)),((a18+1),()),(v19&&v36),(!v19))
def vU8 y x:=(vU7 y x).1
def tE0 y x:=(vU7 y x).2.1
def vP9 y x:=(vU7 y x).2.2.1
def uL2 y x:=(vU7 y x).2.2.2.1
def tR7 y x:=(vU7 y x).2.2.2.2
instance (y:wT2)(x:wL):Decidable (vU8 y x):=by
 unfold vU8 vU7
 try dsimp only
 infer_instance
def vQ (y:wT2)(x:wL):Int:=
 (4:Int)
def uR3:St→Option Out:=xP4 [(1,vS),(2,vI),(3,vI),(17,vI)] [(18,vI)] tE0 vP9 vU8 fun y x=>[ex 1 (some (uL2 y x)) [(8,vI)] ((vQ y x),()),ex 2 (some (tR7 y x)) [(1,vS),(2,vI),(3,vI)] (y.1,y.2.1,y.2.2.1,())]
def qS9 (p0:D163)(p1:List UInt8)(p2:Int)(p3:Int):Prop×Int:=
 let v12:=(f165 p0)
 let v14:=(v12 !=0)
 let y5:=(p1,p2,p3,(len p1),())
 let x5:=((0:Int),())
 let e5:=(zC3 (tE0 y5) (vP9 y5) x5)
 let v40:=(decide ((len p1)>128))
 let v43:=(!(f166 p2 (1:Int) (1048576:Int)))
 let m8_3:=(bif v14 then v12 else (bif (uL2 y5 e5) then (vQ y5 e5) else (bif v40 then (3:Int) else (bif (bif v43 then true else (!(f166 p3 (0:Int) (1048576:Int)))) then (2:Int) else (0:Int)))))
 (((tE p0)∧((!v14)=true→((Am.Ends (tE0 y5) (vP9 y5) (vU8 y5) x5)∧((tR7 y5 e5)=true→((!v40)=true→((wQ p2 (1:Int) (1048576:Int))∧((!v43)=true→(wQ p3 (0:Int) (1048576:Int))))))))),m8_3)
def tE1 p0 p1 p2 p3:=(qS9 p0 p1 p2 p3).1
def f147 p0 p1 p2 p3:=(qS9 p0 p1 p2 p3).2
instance (p0:D163)(p1:List UInt8)(p2:Int)(p3:Int):Decidable (tE1 p0 p1 p2 p3):=by
 unfold tE1 qS9
 try dsimp only
 infer_instance
def sJ2:Am.Spec:=fnSpec [(0,(.val T163)),(1,vS),(2,vI),(3,vI)] vI [] (fun x=>tE1 x.1 x.2.1 x.2.2.1 x.2.2.2.1) (fun x=>f147 x.1 x.2.1 x.2.2.1 x.2.2.2.1) (fun _=>())
def rE8:Ctx:=Cx tys [(165,sJ0),(166,uE6)] [(5,uR3)] [] false 49 [] []
theorem rE9:CtxOk Tryz.prog rE8:=cq ⟨pU,sS6,trivial⟩
noncomputable def rY5:Code:=Tryz.f147.body.getD .skip
noncomputable def rY6:Code:=xX1 rY5 0
theorem rQ3:yU8 Tryz.prog rE8 rY6:=lq rE9 (sp:=uR3) rfl [[(8,vI)],[(1,vS),(2,vI),(3,vI)]]
theorem pU0:SpecOk Tryz.prog 147 sJ2:=fl rE9 Tryz.func147 (bs:=[rY6]) ⟨rQ3,trivial⟩
abbrev vH0:Type:=(D163×Unit×(D163×(List Int)×Unit)×(List D192)×Int×Unit)
abbrev wT3:Type:=(Int×Int×Unit)
def uW (y:vH0)(x:wT3):Prop×Bool×wT3:=
 let a14:=y.2.2.2.1
 let a16:=x.2.1
 let v17:=(decide (a16<y.2.2.2.2.1))
 ((v17=true→(InB a16 (len a14)∧InR (a16+1))),v17,((bif ((nth a14 a16 Z192).1==63) then a16 else x.1),(a16+1),()))
def vU9 y x:=(uW y x).1
def tE2 y x:=(uW y x).2.1
def vQ0 y x:=(uW y x).2.2
instance (y:vH0)(x:wT3):Decidable (vU9 y x):=by
 unfold vU9 uW
 try dsimp only
 infer_instance
def uR4 (y:vH0)(x:wT3):Int:=
 x.1
def tR8:List (Nat×Sh):=[(1,(.box T163 (.val T163))),(3,(.ref 12 T213)),(4,vI),(12,(.box T213 (.agg (.cons T163 (.cons (.arr 256 (.int .i64)) .nl)) (.cons (.val T163) (.cons (.val (.arr 256 (.int .i64))) .nl)))))]
def uR5:St→Option Out:=xP4 [(1,(.box T163 (.val T163))),(3,(.ref 12 T213)),(12,(.box T213 (.agg (.cons T163 (.cons (.arr 256 (.int .i64)) .nl)) (.cons (.val T163) (.cons (.val (.arr 256 (.int .i64))) .nl))))),(14,(.val (.sl T192))),(15,vI)] [(4,vI),(16,vI)] tE2 vQ0 vU9 fun y x=>[ex 2 none tR8 (y.1,y.2.1,(uR4 y x),y.2.2.1,())]
abbrev wY3:Type:=(D163×Unit×Int×Unit)
abbrev wN4:Type:=((D163×(List Int)×Unit)×Int×Unit)
def uF0 (y:wY3)(x:wN4):Prop×Bool×wN4:=
 let a12:=x.1
 let a26:=x.2.1
 let v27:=(decide (a26<256))
 ((v27=true→(InB a26 256∧InR (a26+1))),v27,((a12.1,(List.set a12.2.1 (Int.toNat a26) y.2.2.1),()),(a26+1),()))
def vK1 y x:=(uF0 y x).1
def uL3 y x:=(uF0 y x).2.1
def vK2 y x:=(uF0 y x).2.2
instance (y:wY3)(x:wN4):Decidable (vK1 y x):=by
 unfold vK1 uF0
 try dsimp only
 infer_instance
def uF1 (y:wY3)(x:wN4):(D163×(List Int)×Unit):=
 let a12:=x.1
 (a12.1,a12.2.1,())
def tE3:List (Nat×Sh):=[(1,(.box T163 (.val T163))),(3,(.ref 12 T213)),(12,(.box T213 (.agg (.cons T163 (.cons (.arr 256 (.int .i64)) .nl)) (.cons (.val T163) (.cons (.val (.arr 256 (.int .i64))) .nl)))))]
def uF2:St→Option Out:=xP4 [(1,(.box T163 (.val T163))),(3,(.ref 12 T213)),(4,vI)] [(12,(.box T213 (.agg (.cons T163 (.cons (.arr 256 (.int .i64)) .nl)) (.cons (.val T163) (.cons (.val (.arr 256 (.int .i64))) .nl))))),(26,vI)] uL3 vK2 vK1 fun y x=>[ex 4 none tE3 (y.1,y.2.1,(uF1 y x),())]
abbrev wY4:Type:=(Unit×(List D192)×Int×Unit)
abbrev wN5:Type:=((D163×(List Int)×Unit)×Int×Unit)
def uF3 (y:wY4)(x:wN5):Prop×Bool×wN5:=
 let a37:=y.2.1
 let a12:=x.1
 let a39:=x.2.1
 let v40:=(decide (a39<y.2.2.1))
 let v42:=(nth a37 a39 Z192)
 ((v40=true→(InB a39 (len a37)∧(InB v42.1 256∧InR (a39+1)))),v40,((a12.1,(List.set a12.2.1 (Int.toNat v42.1) a39),()),(a39+1),()))
def vK3 y x:=(uF3 y x).1
def uL4 y x:=(uF3 y x).2.1
def vK4 y x:=(uF3 y x).2.2
instance (y:wY4)(x:wN5):Decidable (vK3 y x):=by
 unfold vK3 uF3
 try dsimp only
 infer_instance
def uF4 (y:wY4)(x:wN5):(D163×(List Int)×Unit):=
 let a12:=x.1
 (a12.1,a12.2.1,())
def tE4:List (Nat×Sh):=[(3,(.ref 12 T213)),(12,(.box T213 (.agg (.cons T163 (.cons (.arr 256 (.int .i64)) .nl)) (.cons (.val T163) (.cons (.val (.arr 256 (.int .i64))) .nl)))))]
def uF5:St→Option Out:=xP4 [(3,(.ref 12 T213)),(37,(.val (.sl T192))),(38,vI)] [(12,(.box T213 (.agg (.cons T163 (.cons (.arr 256 (.int .i64)) .nl)) (.cons (.val T163) (.cons (.val (.arr 256 (.int .i64))) .nl))))),(39,vI)] uL4 vK4 vK3 fun y x=>[ex 6 none tE4 (y.1,(uF4 y x),())]
def pU1 (p0:D163):Prop×D213:=
 let y4:=(p0,(),(p0,(List.replicate 256 (0:Int)),()),p0.2.2.2.1,(len p0.2.2.2.1),())
 let x4:=((-1:Int),(0:Int),())
 let y10:=(p0,(),(uR4 y4 (zC3 (tE2 y4) (vQ0 y4) x4)),())
 let x10:=((p0,(List.replicate 256 (0:Int)),()),(0:Int),())
 let r10_4_0:=(uF1 y10 (zC3 (uL3 y10) (vK2 y10) x10))
 let y15:=((),p0.2.2.2.1,(len p0.2.2.2.1),())
 let x15:=((r10_4_0.1,r10_4_0.2.1,()),(0:Int),())
 let r15_6_0:=(uF4 y15 (zC3 (uL4 y15) (vK4 y15) x15))
 (((Am.Ends (tE2 y4) (vQ0 y4) (vU9 y4) x4)∧((Am.Ends (uL3 y10) (vK2 y10) (vK1 y10) x10)∧(Am.Ends (uL4 y15) (vK4 y15) (vK3 y15) x15))),(r15_6_0.1,r15_6_0.2.1,()))
def tE5 p0:=(pU1 p0).1
def f148 p0:=(pU1 p0).2
instance (p0:D163):Decidable (tE5 p0):=by
 unfold tE5 pU1
 try dsimp only
 infer_instance
def sJ3:Am.Spec:=fnSpec [(0,(.val T163))] (.val (.ptr T213)) [] (fun x=>tE5 x.1) (fun x=>f148 x.1) (fun _=>())
def uW0:Ctx:=Cx tys [] [(4,uR5),(10,uF2),(15,uF5)] [(39,[(3,12,0,0)])] false 53 [] []
theorem uW1:CtxOk Tryz.prog uW0:=cq trivial
noncomputable def tE6:Code:=Tryz.f148.body.getD .skip
noncomputable def rY7:Code:=xX1 tE6 0
theorem rQ4:yU8 Tryz.prog uW0 rY7:=lq uW1 (sp:=uR5) rfl [tR8]
noncomputable def rF:Code:=xX1 tE6 1
theorem sT1:yU8 Tryz.prog uW0 rF:=lq uW1 (sp:=uF2) rfl [tE3]
noncomputable def rF0:Code:=xX1 tE6 2
theorem sT2:yU8 Tryz.prog uW0 rF0:=lq uW1 (sp:=uF5) rfl [tE4]
theorem pU2:SpecOk Tryz.prog 148 sJ3:=fl uW1 Tryz.func148 (bs:=[rY7,rF,rF0]) ⟨rQ4,sT1,sT2,trivial⟩
abbrev wQ0:Type:=(Int×D163×D213×(List (List D125))×Int×Int×D125×(List (List UInt8))×Int×Int×(List D125)×Int×Int×(List (List D125))×Int×Int×(List D125)×Int×Unit)
abbrev wN6:Type:=((List D125)×Int×Unit)
def uF6 (y:wQ0)(x:wN6):Prop×Bool×wN6:=
 let a2:=y.1
 let a4:=y.2.1
 let a89:=y.2.2.2.2.2.2.2.2.2.2.2.2.2.2.2.2.1
 let a24:=x.1
 let a91:=x.2.1
 let v92:=(decide (a91<y.2.2.2.2.2.2.2.2.2.2.2.2.2.2.2.2.2.1))
 let v94:=(nth a89 a91 Z125)
 let v104:=(IntKind.wrap .i64 ((IntKind.wrap .i64 (y.2.2.2.2.2.2.1.2.1+v94.1))*a2))
 let v119:=(IntKind.wrap .i64 ((IntKind.wrap .i64 ((IntKind.wrap .i64 (a4.2.1+(IntKind.wrap .i64 (y.2.2.2.2.2.1*a4.2.2.1))))-v94.2.1))*a2))
 ((v92=true→(InB a91 (len a89)∧((wB v104 a4.1)∧((wB v119 a4.1)∧(InB a91 (len a24)∧a91<len a24))))),v92,((List.set a24 (Int.toNat a91) ((f108 v104 a4.1),(f108 v119 a4.1),())),(IntKind.wrap .i64 (a91+1)),()))
def wQ1 y x:=(uF6 y x).1
def wY5 y x:=(uF6 y x).2.1
def wJ3 y x:=(uF6 y x).2.2
instance (y:wQ0)(x:wN6):Decidable (wQ1 y x):=by
 unfold wQ1 uF6
 try dsimp only
 infer_instance
def uF7 (y:wQ0)(x:wN6):(List D125):=
 x.1
def tE7:List (Nat×Sh):=[(2,vI),(4,(.box T163 (.val T163))),(11,(.val (.ptr T213))),(12,(.own (.sl T125) 1012 false)),(13,vI),(14,vI),(19,(.box T125 (.val T125))),(24,(.own T125 1024 true)),(41,(.val (.sl .str))),(42,vI),(43,vI),(54,(.own T125 1016 false)),(55,vI),(56,vI),(74,(.own (.sl T125) 1020 false)),(75,vI),(76,vI)]
def uF8:St→Option Out:=xP4 [(2,vI),(4,(.box T163 (.val T163))),(11,(.val (.ptr T213))),(12,(.own (.sl T125) 1012 false)),(13,vI),(14,vI),(19,(.box T125 (.val T125))),(41,(.val (.sl .str))),(42,vI),(43,vI),(54,(.own T125 1016 false)),(55,vI),(56,vI),(74,(.own (.sl T125) 1020 false)),(75,vI),(76,vI),(89,(.val (.sl T125))),(90,vI)] [(24,(.own T125 1024 true)),(91,vI)] wY5 wJ3 wQ1 fun y x=>[ex 8 none tE7 (y.1,y.2.1,y.2.2.1,y.2.2.2.1,y.2.2.2.2.1,y.2.2.2.2.2.1,y.2.2.2.2.2.2.1,(uF7 y x),y.2.2.2.2.2.2.2.1,y.2.2.2.2.2.2.2.2.1,y.2.2.2.2.2.2.2.2.2.1,y.2.2.2.2.2.2.2.2.2.2.1,y.2.2.2.2.2.2.2.2.2.2.2.1,y.2.2.2.2.2.2.2.2.2.2.2.2.1,y.2.2.2.2.2.2.2.2.2.2.2.2.2.1,y.2.2.2.2.2.2.2.2.2.2.2.2.2.2.1,y.2.2.2.2.2.2.2.2.2.2.2.2.2.2.2.1,())]
abbrev wB4:Type:=(Int×D163×D213×Int×D125×(List (List UInt8))×Int×Int×(List D125)×Int×Int×(List (List D125))×Int×Unit)
abbrev wC4:Type:=((List (List D125))×Int×Int×Unit)
def wZ9 (y:wB4)(x:wC4):Prop×Bool×wC4×Bool×Bool:=
 let a74:=y.2.2.2.2.2.2.2.2.2.2.2.1
 let a75:=y.2.2.2.2.2.2.2.2.2.2.2.2.1
 let a12:=x.1
 let a76:=x.2.2.1
 let v77:=(decide (a76<a75))
 let v78:=(nth a74 a76 ([]:List D125))
 let v83:=(IntKind.wrap .i64 (x.2.1+(len v78)))
 let v85:=(decide (v83>4096))
 let v87:=(len v78)
 let y25:=(y.1,y.2.1,y.2.2.1,a12,v83,y.2.2.2.1,y.2.2.2.2.1,y.2.2.2.2.2.1,y.2.2.2.2.2.2.1,y.2.2.2.2.2.2.2.1,y.2.2.2.2.2.2.2.2.1,y.2.2.2.2.2.2.2.2.2.1,y.2.2.2.2.2.2.2.2.2.2.1,a74,a75,a76,v78,(len v78),())
 let x25:=((List.replicate (Int.toNat v87) Z125),(0:Int),())
 let v128:=([(uF7 y25 (zC3 (wY5 y25) (wJ3 y25) x25))]:List (List D125))
 ((v77=true→(InB a76 (len a74)∧((!v85)=true→((0≤v87∧v87≤v87∧v87≤4294967296)∧((Am.Ends (wY5 y25) (wJ3 y25) (wQ1 y25) x25)∧((List.length a12+List.length v128:Nat):Int)≤4294967296))))),(v77&&(!v85)),((a12++v128),v83,(IntKind.wrap .i64 (a76+1)),()),(v77&&v85),(!v77))
def wH9 y x:=(wZ9 y x).1
def wA6 y x:=(wZ9 y x).2.1
def xY9 y x:=(wZ9 y x).2.2.1
def tE8 y x:=(wZ9 y x).2.2.2.1
def tE9 y x:=(wZ9 y x).2.2.2.2
instance (y:wB4)(x:wC4):Decidable (wH9 y x):=by
 unfold wH9 wZ9
 try dsimp only
 infer_instance
def vK5 (y:wB4)(x:wC4):(List (List D125)):=
 ([]:List (List D125))
def uF9 (y:wB4)(x:wC4):Int:=
 (3:Int)
def tF:List (Nat×Sh):=[(8,(.own (.sl T125) 0 false)),(9,vI)]
def uG (y:wB4)(x:wC4):(List (List D125)):=
 x.1
def uG0 (y:wB4)(x:wC4):Int:=
 x.2.1
def tF0:List (Nat×Sh):=[(2,vI),(4,(.box T163 (.val T163))),(11,(.val (.ptr T213))),(12,(.own (.sl T125) 1012 false)),(13,vI),(14,vI),(41,(.val (.sl .str))),(42,vI),(43,vI),(54,(.own T125 1016 false)),(55,vI),(56,vI)]
def uG1:St→Option Out:=xP4 [(2,vI),(4,(.box T163 (.val T163))),(11,(.val (.ptr T213))),(14,vI),(19,(.box T125 (.val T125))),(41,(.val (.sl .str))),(42,vI),(43,vI),(54,(.own T125 1016 false)),(55,vI),(56,vI),(74,(.own (.sl T125) 1020 false)),(75,vI)] [(12,(.own (.sl T125) 1012 false)),(13,vI),(76,vI)] wA6 xY9 wH9 fun y x=>[ex 1 (some (tE8 y x)) tF ((vK5 y x),(uF9 y x),()),ex 6 (some (tE9 y x)) tF0 (y.1,y.2.1,y.2.2.1,(uG y x),(uG0 y x),y.2.2.2.1,y.2.2.2.2.2.1,y.2.2.2.2.2.2.1,y.2.2.2.2.2.2.2.1,y.2.2.2.2.2.2.2.2.1,y.2.2.2.2.2.2.2.2.2.1,y.2.2.2.2.2.2.2.2.2.2.1,())]
abbrev xZ9:Type:=(Int×D163×D213×Int×(List (List UInt8))×Int×Int×(List D125)×Int×Unit)
abbrev wA:Type:=((List (List D125))×Int×Int×Unit)
def vH1 (y:xZ9)(x:wA):Prop×Bool×wA×Bool×Bool:=
 let a4:=y.2.1
 let a54:=y.2.2.2.2.2.2.2.1
 let a55:=y.2.2.2.2.2.2.2.2.1
 let a56:=x.2.2.1
 let v57:=(decide (a56<a55))
 let v58:=(nth a54 a56 Z125)
 let v65:=(nth a4.2.2.2.1 v58.1 Z192)
 let v68:=(f126 v65.2.2.1)
 let v72:=(v68.2.1 !=0)
 let y18:=(y.1,a4,y.2.2.1,y.2.2.2.1,v58,y.2.2.2.2.1,y.2.2.2.2.2.1,y.2.2.2.2.2.2.1,a54,a55,a56,v68.1,(len v68.1),())
 let x18:=(x.1,x.2.1,(0:Int),())
 let e18:=(zC3 (wA6 y18) (xY9 y18) x18)
 ((v57=true→(InB a56 (len a54)∧(InB v58.1 (len a4.2.2.2.1)∧((vO9 v65.2.2.1)∧((!v72)=true→(Am.Ends (wA6 y18) (xY9 y18) (wH9 y18) x18)))))),(v57&&((!v72)&&(tE9 y18 e18))),((uG y18 e18),(uG0 y18 e18),(IntKind.wrap .i64 (a56+1)),()),(v57&&(v72||((!v72)&&(tE8 y18 e18)))),(!v57))
def wF6 y x:=(vH1 y x).1
def wB1 y x:=(vH1 y x).2.1
def xY6 y x:=(vH1 y x).2.2.1
def tF1 y x:=(vH1 y x).2.2.2.1
def tF2 y x:=(vH1 y x).2.2.2.2
instance (y:xZ9)(x:wA):Decidable (wF6 y x):=by
 unfold wF6 vH1
 try dsimp only
 infer_instance
def vK6 (y:xZ9)(x:wA):(List (List D125)):=
 let a4:=y.2.1
 let a54:=y.2.2.2.2.2.2.2.1
 let a56:=x.2.2.1
 let v58:=(nth a54 a56 Z125)
 let v68:=(f126 (nth a4.2.2.2.1 v58.1 Z192).2.2.1)
 let y18:=(y.1,a4,y.2.2.1,y.2.2.2.1,v58,y.2.2.2.2.1,y.2.2.2.2.2.1,y.2.2.2.2.2.2.1,a54,y.2.2.2.2.2.2.2.2.1,a56,v68.1,(len v68.1),())
 (bif (v68.2.1 !=0) then [] else (vK5 y18 (zC3 (wA6 y18) (xY9 y18) (x.1,x.2.1,(0:Int),()))))
def uG2 (y:xZ9)(x:wA):Int:=
 let a4:=y.2.1
 let a54:=y.2.2.2.2.2.2.2.1
 let a56:=x.2.2.1
 let v58:=(nth a54 a56 Z125)
 let v68:=(f126 (nth a4.2.2.2.1 v58.1 Z192).2.2.1)
 let y18:=(y.1,a4,y.2.2.1,y.2.2.2.1,v58,y.2.2.2.2.1,y.2.2.2.2.2.1,y.2.2.2.2.2.2.1,a54,y.2.2.2.2.2.2.2.2.1,a56,v68.1,(len v68.1),())
 (bif (v68.2.1 !=0) then v68.2.1 else (uF9 y18 (zC3 (wA6 y18) (xY9 y18) (x.1,x.2.1,(0:Int),()))))
def tF3:List (Nat×Sh):=[(8,(.own (.sl T125) 0 false)),(9,vI)]
def uG3 (y:xZ9)(x:wA):(List (List D125)):=
 x.1
def uG4 (y:xZ9)(x:wA):Int:=
 x.2.1
def tF4:List (Nat×Sh):=[(2,vI),(4,(.box T163 (.val T163))),(11,(.val (.ptr T213))),(12,(.own (.sl T125) 1012 false)),(13,vI),(41,(.val (.sl .str))),(42,vI),(43,vI)]
def uG5:St→Option Out:=xP4 [(2,vI),(4,(.box T163 (.val T163))),(11,(.val (.ptr T213))),(14,vI),(41,(.val (.sl .str))),(42,vI),(43,vI),(54,(.own T125 1016 false)),(55,vI)] [(12,(.own (.sl T125) 1012 false)),(13,vI),(56,vI)] wB1 xY6 wF6 fun y x=>[ex 1 (some (tF1 y x)) tF3 ((vK6 y x),(uG2 y x),()),ex 4 (some (tF2 y x)) tF4 (y.1,y.2.1,y.2.2.1,(uG3 y x),(uG4 y x),y.2.2.2.2.1,y.2.2.2.2.2.1,y.2.2.2.2.2.2.1,())]
abbrev wE5:Type:=(Int×D163×D213×(List (List UInt8))×Int×Unit)
abbrev wB8:Type:=((List (List D125))×Int×Int×Unit)
def vV (y:wE5)(x:wB8):Prop×Bool×wB8×Bool×Bool:=
 let a11:=y.2.2.1
 let a41:=y.2.2.2.1
 let a42:=y.2.2.2.2.1
 let a43:=x.2.2.1
 let v44:=(decide (a43<a42))
 let v46:=(nth a41 a43 ([]:List UInt8))
 let v51:=(f150 a11 v46)
 let y12:=(y.1,y.2.1,a11,a43,a41,a42,a43,v51.1,(len v51.1),())
 let x12:=(x.1,x.2.1,(0:Int),())
 let e12:=(zC3 (wB1 y12) (xY6 y12) x12)
 ((v44=true→(InB a43 (len a41)∧((vN2 a11 v46)∧(Am.Ends (wB1 y12) (xY6 y12) (wF6 y12) x12)))),(v44&&(tF2 y12 e12)),((uG3 y12 e12),(uG4 y12 e12),(IntKind.wrap .i64 (a43+1)),()),(v44&&(tF1 y12 e12)),(!v44))
def wQ2 y x:=(vV y x).1
def vA y x:=(vV y x).2.1
def wF2 y x:=(vV y x).2.2.1
def uL5 y x:=(vV y x).2.2.2.1
def rQ5 y x:=(vV y x).2.2.2.2
instance (y:wE5)(x:wB8):Decidable (wQ2 y x):=by
 unfold wQ2 vV
 try dsimp only
 infer_instance
def vQ1 (y:wE5)(x:wB8):(List (List D125)):=
 let a11:=y.2.2.1
 let a41:=y.2.2.2.1
 let a43:=x.2.2.1
 let v51:=(f150 a11 (nth a41 a43 ([]:List UInt8)))
 let y12:=(y.1,y.2.1,a11,a43,a41,y.2.2.2.2.1,a43,v51.1,(len v51.1),())
 (vK6 y12 (zC3 (wB1 y12) (xY6 y12) (x.1,x.2.1,(0:Int),())))
def uR6 (y:wE5)(x:wB8):Int:=
 let a11:=y.2.2.1
 let a41:=y.2.2.2.1
 let a43:=x.2.2.1
 let v51:=(f150 a11 (nth a41 a43 ([]:List UInt8)))
 let y12:=(y.1,y.2.1,a11,a43,a41,y.2.2.2.2.1,a43,v51.1,(len v51.1),())
 (uG2 y12 (zC3 (wB1 y12) (xY6 y12) (x.1,x.2.1,(0:Int),())))
def tR9:List (Nat×Sh):=[(8,(.own (.sl T125) 0 false)),(9,vI)]
def vQ2 (y:wE5)(x:wB8):(List (List D125)):=
 x.1
def tS:List (Nat×Sh):=[(12,(.own (.sl T125) 1012 false))]
def uR7:St→Option Out:=xP4 [(2,vI),(4,(.box T163 (.val T163))),(11,(.val (.ptr T213))),(41,(.val (.sl .str))),(42,vI)] [(12,(.own (.sl T125) 1012 false)),(13,vI),(43,vI)] vA wF2 wQ2 fun y x=>[ex 1 (some (uL5 y x)) tR9 ((vQ1 y x),(uR6 y x),()),ex 2 (some (rQ5 y x)) tS ((vQ2 y x),())]
def qT (p0:D163)(p1:List UInt8)(p2:Int)(p3:Int):Prop×((List (List D125))×Int×Unit):=
 let v31:=(f147 p0 p1 p2 p3)
 let v33:=(v31 !=0)
 let v36:=(f148 p0)
 let v41:=(f149 v36 p1 p2 p3)
 let y8:=(p2,p0,v36,v41,(len v41),())
 let x8:=(([]:List (List D125)),(0:Int),(0:Int),())
 let e8:=(zC3 (vA y8) (wF2 y8) x8)
 let q8_1:=(uL5 y8 e8)
 (((tE1 p0 p1 p2 p3)∧((!v33)=true→((tE5 p0)∧((vJ1 v36 p1 p2 p3)∧(Am.Ends (vA y8) (wF2 y8) (wQ2 y8) x8))))),((bif v33 then [] else (bif q8_1 then (vQ1 y8 e8) else (vQ2 y8 e8))),(bif v33 then v31 else (bif q8_1 then (uR6 y8 e8) else (0:Int))),()))
def tF5 p0 p1 p2 p3:=(qT p0 p1 p2 p3).1
def f130 p0 p1 p2 p3:=(qT p0 p1 p2 p3).2
instance (p0:D163)(p1:List UInt8)(p2:Int)(p3:Int):Decidable (tF5 p0 p1 p2 p3):=by
 unfold tF5 qT
 try dsimp only
 infer_instance
def sJ4:Am.Spec:=fnSpec [(0,(.val T163)),(1,vS),(2,vI),(3,vI)] (.tup (.cons (.own (.sl T125) 0 false) (.cons vI .nl))) [] (fun x=>tF5 x.1 x.2.1 x.2.2.1 x.2.2.2.1) (fun x=>f130 x.1 x.2.1 x.2.2.1 x.2.2.2.1) (fun _=>())
def uG6:Ctx:=Cx tys [(108,wF7),(126,tB5),(147,sJ2),(148,sJ3),(149,sF3),(150,uY5)] [(25,uF8),(18,uG1),(12,uG5),(8,uR7)] [(21,[(4,0,51,1016)]),(29,[(4,0,68,1020)]),(47,[(4,0,88,1024)]),(58,[(1,24,0,0)]),(59,[(4,0,129,1012)]),(67,[(4,0,1012,0)])] true 134 [] [88]
theorem uG7:CtxOk Tryz.prog uG6:=cq ⟨wZ2,rW9,pU0,pU2,pL8,rU2,trivial⟩
noncomputable def rY8:Code:=Tryz.f130.body.getD .skip
noncomputable def sT3:Code:=xX1 rY8 0
noncomputable def tY9:Code:=xX1 sT3 0
noncomputable def tZ:Code:=xX1 tY9 0
noncomputable def rF1:Code:=xX1 tZ 0
theorem sT4:yU8 Tryz.prog uG6 rF1:=lq uG7 (sp:=uF8) rfl [tE7]
theorem sT5:yU8 Tryz.prog uG6 tZ:=xX9 uG7 mixed (sp:=uG1) rfl [tF,tF0] (bs:=[rF1]) (by kernel_rfl) ⟨sT4,trivial⟩ (by kernel_rfl) (by kernel_rfl) fun y x=>by kernel_rfl
theorem sT6:yU8 Tryz.prog uG6 tY9:=xX9 uG7 mixed (sp:=uG5) rfl [tF3,tF4] (bs:=[tZ]) (by kernel_rfl) ⟨sT5,trivial⟩ (by kernel_rfl) (by kernel_rfl) fun y x=>by kernel_rfl
theorem rQ6:yU8 Tryz.prog uG6 sT3:=xX9 uG7 mixed (sp:=uR7) rfl [tR9,tS] (bs:=[tY9]) (by kernel_rfl) ⟨sT6,trivial⟩ (by kernel_rfl) (by kernel_rfl) fun y x=>by kernel_rfl
theorem pU3:SpecOk Tryz.prog 130 sJ4:=fl uG7 Tryz.func130 (bs:=[sT3]) ⟨rQ6,trivial⟩
def f151 (p0:List UInt8):List (List UInt8):=Lib.fields p0
def tF6 (p0:List UInt8):Prop:=(List.length p0:Int)≤4294967280∧(p0.all fun b=>decide (b.toNat<128))=true
instance (p0:List UInt8):Decidable (tF6 p0):=by
  unfold tF6
  infer_instance
def pU4:List (Nat×Sh):=[(0,(.val .str))]
def pU5:Sh:=(.val (.sl .str))
def pU6:List (Nat×Sh):=[]
def sJ5:Am.Spec:=fnSpec pU4 pU5 pU6 (fun x=>tF6 x.1) (fun x=>f151 x.1) (fun _=>())
theorem tab0:G0=Lib.asciiSpaceTab:=by kernel_rfl
theorem pU7:SpecOk Tryz.prog 151 sJ5:=xV7 (F:=f151) (e:=9) (ok:=tF6) ⟨_,Tryz.func151,by kernel_rfl,by decide⟩ fun s w χ hok hg =>
  Any.strings_Fields_core Tryz.lays157 (by kernel_rfl) s w (by have h1:=hok.1;rw[jN] at h1;have h2:s.data.size=s.size:=rfl;omega)
    (fun j b hj=>by have:=List.all_eq_true.1 hok.2 b (List.mem_of_getElem? hj);simpa using this)
    (fun c hc=>by
      have h1:=xW5 hg (g:=0) (n:=256) (k:=.u8) (l:=G0) (jQ ..) c hc
      rw[tab0,Lib.asciiSpaceTab_at c hc] at h1
      exact h1)
def pU8 (p0:List UInt8)(p1:Int):Prop×Int:=
 ((tW3 p0 p1),(f173 p0 p1))
def tF7 p0 p1:=(pU8 p0 p1).1
def f152 p0 p1:=(pU8 p0 p1).2
instance (p0:List UInt8)(p1:Int):Decidable (tF7 p0 p1):=by
 unfold tF7 pU8
 try dsimp only
 infer_instance
def sJ6:Am.Spec:=fnSpec [(0,vS),(1,(.val (.int .u8)))] vI [] (fun x=>tF7 x.1 x.2.1) (fun x=>f152 x.1 x.2.1) (fun _=>())
def qT0:Ctx:=Cx tys [(173,sE4)] [] [] false 8 [] []
theorem pU9:SpecOk Tryz.prog 152 sJ6:=fq (c:=qT0) Tryz.func152 ⟨pJ5,trivial⟩
def pV (p0:Int)(p1:Int)(p2:Int)(p3:Int):Prop×(List D128):=
 let v30:=([((1:Int),([(p0,p1,()),Z125,Z125]:List D125),()),((2:Int),([(p2,p1,()),Z125,Z125]:List D125),()),((2:Int),([(p2,p3,()),Z125,Z125]:List D125),()),((2:Int),([(p0,p3,()),Z125,Z125]:List D125),()),((5:Int),(List.replicate 3 Z125),())]:List D128)
 (True,v30)
def tZ0 p0 p1 p2 p3:=(pV p0 p1 p2 p3).1
def f174 p0 p1 p2 p3:=(pV p0 p1 p2 p3).2
instance (p0:Int)(p1:Int)(p2:Int)(p3:Int):Decidable (tZ0 p0 p1 p2 p3):=by
 unfold tZ0 pV
 try dsimp only
 infer_instance
def sJ7:Am.Spec:=fnSpec [(0,vI),(1,vI),(2,vI),(3,vI)] (.own T128 0 false) [] (fun x=>tZ0 x.1 x.2.1 x.2.2.1 x.2.2.2.1) (fun x=>f174 x.1 x.2.1 x.2.2.1 x.2.2.2.1) (fun _=>())
def qT1:Ctx:=Cx tys [] [] [(3,[(4,0,30,0)])] false 31 [] []
theorem pV0:SpecOk Tryz.prog 174 sJ7:=fq (c:=qT1) Tryz.func174 trivial
abbrev vH2:Type:=(Int×Int×(List D128)×Int×Unit)
abbrev wT4:Type:=(Int×Unit)
def uW2 (y:vH2)(x:wT4):Prop×Bool×wT4:=
 let a7:=x.1
 let v20:=(decide ((a7+1)<7))
 let v24:=(a7+1)
 let v28:=(bif v20 then ((xY0 .i64 (xY1 y.2.1 v24 64) (1:Int))==1) else false)
 ((InR (a7+1)∧((v20=true→InR (a7+1))∧((v20=true→0≤v24)∧(v28=true→InR (a7+1))))),v28,((a7+1),()))
def vV0 y x:=(uW2 y x).1
def tF8 y x:=(uW2 y x).2.1
def vQ3 y x:=(uW2 y x).2.2
instance (y:vH2)(x:wT4):Decidable (vV0 y x):=by
 unfold vV0 uW2
 try dsimp only
 infer_instance
def uR8 (y:vH2)(x:wT4):Int:=
 x.1
def tS0:List (Nat×Sh):=[(0,vI),(1,vI),(5,(.own T128 1005 false)),(6,vI),(7,vI)]
def uR9:St→Option Out:=xP4 [(0,vI),(1,vI),(5,(.own T128 1005 false)),(6,vI)] [(7,vI)] tF8 vQ3 vV0 fun y x=>[ex 4 none tS0 (y.1,y.2.1,y.2.2.1,y.2.2.2.1,(uR8 y x),())]
abbrev vH3:Type:=(Unit)
abbrev wT5:Type:=(Int×Int×(List D128)×Int×Unit)
def uW3 (y:vH3)(x:wT5):Prop×Bool×wT5:=
 let a0:=x.1
 let a1:=x.2.1
 let a5:=x.2.2.1
 let a6:=x.2.2.2.1
 let v9:=(decide (a6<7))
 let v16:=((xY0 .i64 (xY1 a1 a6 64) (1:Int))==0)
 let y7:=(a0,a1,a5,a6,())
 let x7:=(a6,())
 let r7_4_0:=(uR8 y7 (zC3 (tF8 y7) (vQ3 y7) x7))
 let v33:=(100*a0)
 let v35:=(100*a6)
 let v36:=(700-v35)
 let v38:=(100*a0)
 let v39:=(v38+100)
 let v41:=(100*r7_4_0)
 let v42:=(600-v41)
 let v43:=(f174 v33 v36 v39 v42)
 let c:=(v16||(!v16))
 let m6:=(bif v16 then a6 else r7_4_0)
 ((v9=true→(0≤a6∧(((!v16)=true→((Am.Ends (tF8 y7) (vQ3 y7) (vV0 y7) x7)∧(InR (100*a0)∧(InR (100*a6)∧(InR (700-v35)∧(InR (100*a0)∧(InR (v38+100)∧(InR (100*r7_4_0)∧(InR (600-v41)∧((tZ0 v33 v36 v39 v42)∧((List.length a5+List.length v43:Nat):Int)≤4294967296))))))))))∧(c=true→InR (m6+1))))),(v9&&c),((bif v16 then a0 else a0),(bif v16 then a1 else a1),(bif v16 then a5 else (a5++v43)),(m6+1),()))
def vV1 y x:=(uW3 y x).1
def tF9 y x:=(uW3 y x).2.1
def vQ4 y x:=(uW3 y x).2.2
instance (y:vH3)(x:wT5):Decidable (vV1 y x):=by
 unfold vV1 uW3
 try dsimp only
 infer_instance
def uS (y:vH3)(x:wT5):(List D128):=
 x.2.2.1
def uS0:St→Option Out:=xP4 [] [(0,vI),(1,vI),(5,(.own T128 1005 false)),(6,vI)] tF9 vQ4 vV1 fun y x=>[ex 2 none [(5,(.own T128 1005 false))] ((uS y x),())]
def pV1 (p0:Int)(p1:Int):Prop×(List D128):=
 let x3:=(p0,p1,([]:List D128),(0:Int),())
 ((Am.Ends (tF9 ()) (vQ4 ()) (vV1 ()) x3),(uS () (zC3 (tF9 ()) (vQ4 ()) x3)))
def tZ1 p0 p1:=(pV1 p0 p1).1
def f153 p0 p1:=(pV1 p0 p1).2
instance (p0:Int)(p1:Int):Decidable (tZ1 p0 p1):=by
 unfold tZ1 pV1
 try dsimp only
 infer_instance
def sJ8:Am.Spec:=fnSpec [(0,vI),(1,vI)] (.own T128 0 false) [] (fun x=>tZ1 x.1 x.2.1) (fun x=>f153 x.1 x.2.1) (fun _=>())
def tZ2:Ctx:=Cx tys [(174,sJ7)] [(7,uR9),(3,uS0)] [(19,[(4,0,44,1005)]),(23,[(4,0,1005,0)])] false 47 [] []
theorem tZ3:CtxOk Tryz.prog tZ2:=cq ⟨pV0,trivial⟩
noncomputable def rY9:Code:=Tryz.f153.body.getD .skip
noncomputable def sT7:Code:=xX1 rY9 0
noncomputable def rZ:Code:=xX1 sT7 0
theorem rQ7:yU8 Tryz.prog tZ2 rZ:=lq tZ3 (sp:=uR9) rfl [tS0]
theorem rQ8:yU8 Tryz.prog tZ2 sT7:=xX9 tZ3 mixed (sp:=uS0) rfl [[(5,(.own T128 1005 false))]] (bs:=[rZ]) (by kernel_rfl) ⟨rQ7,trivial⟩ (by kernel_rfl) (by kernel_rfl) fun y x=>by kernel_rfl
theorem pV2:SpecOk Tryz.prog 153 sJ8:=fl tZ3 Tryz.func153 (bs:=[sT7]) ⟨rQ8,trivial⟩
abbrev wT6:Type:=((List UInt8)×(List (List UInt8))×Int×Int×Int×Unit)
abbrev wL0:Type:=((Int×Int×Int×(List D192)×(List D197)×Unit)×(Int×Int×Int×(List D192)×(List D197)×Unit)×(Int×Int×(List D128)×Unit)×Int×Unit)
def uW4 (y:wT6)(x:wL0):Prop×Bool×wL0:=
 let a3:=y.1
 let a0:=x.1
 let a1:=x.2.1
 let a4:=x.2.2.1
 let a22:=x.2.2.2.1
 let v23:=(decide (a22<y.2.2.2.2.1))
 let v27:=(2*a22)
 let v28:=(xX4 a3 v27)
 let v29:=(f152 ([48,49,50,51,52,53,54,55,56,57,97,98,99,100,101,102]:List UInt8) v28)
 let v30:=(16*v29)
 let v33:=(2*a22)
 let v34:=(v33+1)
 let v35:=(xX4 a3 v34)
 let v36:=(f152 ([48,49,50,51,52,53,54,55,56,57,97,98,99,100,101,102]:List UInt8) v35)
 let v37:=(v30+v36)
 let v42:=(f153 a22 v37)
 ((v23=true→(InR (2*a22)∧(InB v27 (len a3)∧((tF7 ([48,49,50,51,52,53,54,55,56,57,97,98,99,100,101,102]:List UInt8) v28)∧(InR (16*v29)∧(InR (2*a22)∧(InR (v33+1)∧(InB v34 (len a3)∧((tF7 ([48,49,50,51,52,53,54,55,56,57,97,98,99,100,101,102]:List UInt8) v35)∧(InR (v30+v36)∧((tZ1 a22 v37)∧(((List.length a4.2.2.1+List.length v42:Nat):Int)≤4294967296∧InR (a22+1))))))))))))),v23,((a0.1,a0.2.1,a0.2.2.1,a0.2.2.2.1,a0.2.2.2.2.1,()),(a1.1,a1.2.1,a1.2.2.1,a1.2.2.2.1,a1.2.2.2.2.1,()),(a4.1,a4.2.1,(a4.2.2.1++v42),()),(a22+1),()))
def vV2 y x:=(uW4 y x).1
def tG y x:=(uW4 y x).2.1
def vQ5 y x:=(uW4 y x).2.2
instance (y:wT6)(x:wL0):Decidable (vV2 y x):=by
 unfold vV2 uW4
 try dsimp only
 infer_instance
def uS1 (y:wT6)(x:wL0):(Int×Int×Int×(List D192)×(List D197)×Unit):=
 let a0:=x.1
 (a0.1,a0.2.1,a0.2.2.1,a0.2.2.2.1,a0.2.2.2.2.1,())
def uS2 (y:wT6)(x:wL0):(Int×Int×Int×(List D192)×(List D197)×Unit):=
 let a1:=x.2.1
 (a1.1,a1.2.1,a1.2.2.1,a1.2.2.2.1,a1.2.2.2.2.1,())
def uS3 (y:wT6)(x:wL0):(Int×Int×(List D128)×Unit):=
 let a4:=x.2.2.1
 (a4.1,a4.2.1,a4.2.2.1,())
def tS1:List (Nat×Sh):=[(0,(.box T163 (.agg (.cons (.int .i64) (.cons (.int .i64) (.cons (.int .i64) (.cons (.sl T192) (.cons (.sl T197) .nl))))) (.cons vI (.cons vI (.cons vI (.cons (.own T192 400000 false) (.cons (.own T197 400001 false) .nl)))))))),(1,(.box T163 (.agg (.cons (.int .i64) (.cons (.int .i64) (.cons (.int .i64) (.cons (.sl T192) (.cons (.sl T197) .nl))))) (.cons vI (.cons vI (.cons vI (.cons (.own T192 400100 false) (.cons (.own T197 400101 false) .nl)))))))),(4,(.box T192 (.agg (.cons (.int .u8) (.cons (.int .i64) (.cons (.sl T128) .nl))) (.cons (.val (.int .u8)) (.cons vI (.cons (.own T128 400400 false) .nl)))))),(8,(.val (.sl .str))),(9,vI),(10,vI)]
def uS4:St→Option Out:=xP4 [(3,vS),(8,(.val (.sl .str))),(9,vI),(10,vI),(21,vI)] [(0,(.box T163 (.agg (.cons (.int .i64) (.cons (.int .i64) (.cons (.int .i64) (.cons (.sl T192) (.cons (.sl T197) .nl))))) (.cons vI (.cons vI (.cons vI (.cons (.own T192 400000 false) (.cons (.own T197 400001 false) .nl)))))))),(1,(.box T163 (.agg (.cons (.int .i64) (.cons (.int .i64) (.cons (.int .i64) (.cons (.sl T192) (.cons (.sl T197) .nl))))) (.cons vI (.cons vI (.cons vI (.cons (.own T192 400100 false) (.cons (.own T197 400101 false) .nl)))))))),(4,(.box T192 (.agg (.cons (.int .u8) (.cons (.int .i64) (.cons (.sl T128) .nl))) (.cons (.val (.int .u8)) (.cons vI (.cons (.own T128 400400 false) .nl)))))),(22,vI)] tG vQ5 vV2 fun y x=>[ex 4 none tS1 ((uS1 y x),(uS2 y x),(uS3 y x),y.2.1,y.2.2.1,y.2.2.2.1,())]
abbrev vA0:Type:=((List (List UInt8))×Int×Unit)
abbrev wO5:Type:=((Int×Int×Int×(List D192)×(List D197)×Unit)×(Int×Int×Int×(List D192)×(List D197)×Unit)×Int×Unit)
def uW5 (y:vA0)(x:wO5):Prop×Bool×wO5:=
 let a8:=y.1
 let a9:=y.2.1
 let a0:=x.1
 let a1:=x.2.1
 let a10:=x.2.2.1
 let v11:=(decide (a10<a9))
 let v13:=(nth a8 a10 ([]:List UInt8))
 let v20:=(len v13)
 let y7:=(v13,a8,a9,a10,(Int.tdiv v20 (2:Int)),())
 let x7:=((a0.1,a0.2.1,a0.2.2.1,a0.2.2.2.1,a0.2.2.2.2.1,()),(a1.1,a1.2.1,a1.2.2.1,a1.2.2.2.1,a1.2.2.2.2.1,()),((IntKind.wrap .u8 (32+a10)),(600:Int),([]:List D128),()),(0:Int),())
 let e7:=(zC3 (tG y7) (vQ5 y7) x7)
 let r7_4_0:=(uS1 y7 e7)
 let r7_4_1:=(uS2 y7 e7)
 let r7_4_2:=(uS3 y7 e7)
 let v49:=([(r7_4_2.1,r7_4_2.2.1,r7_4_2.2.2.1,())]:List D192)
 ((v11=true→(InB a10 (len a8)∧(InR (32+a10)∧(InR (Int.tdiv v20 (2:Int))∧((Am.Ends (tG y7) (vQ5 y7) (vV2 y7) x7)∧(((List.length r7_4_1.2.2.2.1+List.length v49:Nat):Int)≤4294967296∧InR (a10+1))))))),v11,((r7_4_0.1,r7_4_0.2.1,r7_4_0.2.2.1,r7_4_0.2.2.2.1,r7_4_0.2.2.2.2.1,()),(r7_4_1.1,r7_4_1.2.1,r7_4_1.2.2.1,(r7_4_1.2.2.2.1++v49),r7_4_1.2.2.2.2.1,()),(a10+1),()))
def vV3 y x:=(uW5 y x).1
def tG0 y x:=(uW5 y x).2.1
def vQ6 y x:=(uW5 y x).2.2
instance (y:vA0)(x:wO5):Decidable (vV3 y x):=by
 unfold vV3 uW5
 try dsimp only
 infer_instance
def sJ9 (y:vA0)(x:wO5):(Int×Int×Int×(List D192)×(List D197)×Unit):=
 let a0:=x.1
 (a0.1,a0.2.1,a0.2.2.1,a0.2.2.2.1,a0.2.2.2.2.1,())
def uS5 (y:vA0)(x:wO5):(Int×Int×Int×(List D192)×(List D197)×Unit):=
 let a1:=x.2.1
 (a1.1,a1.2.1,a1.2.2.1,a1.2.2.2.1,a1.2.2.2.2.1,())
def tS2:List (Nat×Sh):=[(0,(.box T163 (.agg (.cons (.int .i64) (.cons (.int .i64) (.cons (.int .i64) (.cons (.sl T192) (.cons (.sl T197) .nl))))) (.cons vI (.cons vI (.cons vI (.cons (.own T192 400000 false) (.cons (.own T197 400001 false) .nl)))))))),(1,(.box T163 (.agg (.cons (.int .i64) (.cons (.int .i64) (.cons (.int .i64) (.cons (.sl T192) (.cons (.sl T197) .nl))))) (.cons vI (.cons vI (.cons vI (.cons (.own T192 400100 false) (.cons (.own T197 400101 false) .nl))))))))]
def uS6:St→Option Out:=xP4 [(8,(.val (.sl .str))),(9,vI)] [(0,(.box T163 (.agg (.cons (.int .i64) (.cons (.int .i64) (.cons (.int .i64) (.cons (.sl T192) (.cons (.sl T197) .nl))))) (.cons vI (.cons vI (.cons vI (.cons (.own T192 400000 false) (.cons (.own T197 400001 false) .nl)))))))),(1,(.box T163 (.agg (.cons (.int .i64) (.cons (.int .i64) (.cons (.int .i64) (.cons (.sl T192) (.cons (.sl T197) .nl))))) (.cons vI (.cons vI (.cons vI (.cons (.own T192 400100 false) (.cons (.own T197 400101 false) .nl)))))))),(10,vI)] tG0 vQ6 vV3 fun y x=>[ex 2 none tS2 ((sJ9 y x),(uS5 y x),())]
def pV3 :Prop×D163:=
 let v8:=(f151 lit0)
 let y3:=(v8,(len v8),())
 let x3:=(((0:Int),(0:Int),(0:Int),([]:List D192),([]:List D197),()),((1000:Int),(800:Int),(1200:Int),([]:List D192),([]:List D197),()),(0:Int),())
 let r3_2_1:=(uS5 y3 (zC3 (tG0 y3) (vQ6 y3) x3))
 let s_6:=(r3_2_1.1,r3_2_1.2.1,r3_2_1.2.2.1,r3_2_1.2.2.2.1,([((65:Int),(86:Int),(-100:Int),()),((76:Int),(84:Int),(-100:Int),()),((84:Int),(97:Int),(-100:Int),()),((86:Int),(65:Int),(-100:Int),())]:List D197),())
 (((tF6 lit0)∧(Am.Ends (tG0 y3) (vQ6 y3) (vV3 y3) x3)),s_6)
def tG1 :Prop:=(pV3).1
def f131 :D163:=(pV3).2
instance :Decidable (tG1):=by
 unfold tG1 pV3
 try dsimp only
 infer_instance
def sK:Am.Spec:=fnSpec [] (.val T163) [] (fun x=>tG1 ) (fun x=>f131 ) (fun _=>())
def tZ4:Ctx:=Cx tys [(151,sJ5),(152,sJ6),(153,sJ8)] [(7,uS4),(3,uS6)] [(21,[(4,0,43,400400)]),(25,[(4,0,50,400100)]),(29,[(4,0,57,400101)]),(31,[(4,0,400100,400000),(4,0,400101,400001)])] false 60 [] []
theorem tZ5:CtxOk Tryz.prog tZ4:=cq ⟨pU7,pU9,pV2,trivial⟩
noncomputable def rZ0:Code:=Tryz.f131.body.getD .skip
noncomputable def sT8:Code:=xX1 rZ0 0
noncomputable def rZ1:Code:=xX1 sT8 0
theorem rQ9:yU8 Tryz.prog tZ4 rZ1:=lq tZ5 (sp:=uS4) rfl [tS1]
theorem rR:yU8 Tryz.prog tZ4 sT8:=xX9 tZ5 mixed (sp:=uS6) rfl [tS2] (bs:=[rZ1]) (by kernel_rfl) ⟨rQ9,trivial⟩ (by kernel_rfl) (by kernel_rfl) fun y x=>by kernel_rfl
theorem pV4:SpecOk Tryz.prog 131 sK:=fl tZ5 Tryz.func131 (bs:=[sT8]) ⟨rR,trivial⟩
abbrev wO6:Type:=((List (List D125))×D37×(List (List D125))×Int×Unit)
abbrev wI:Type:=(Int×Int×Unit)
def vV4 (y:wO6)(x:wI):Prop×Bool×wI×Bool×Bool:=
 let a21:=y.2.2.1
 let a7:=x.1
 let a23:=x.2.1
 let v24:=(decide (a23<y.2.2.2.1))
 let v29:=(len (nth a21 a23 ([]:List D125)))
 let v30:=(a7+v29)
 let v32:=(decide (v30>4096))
 ((v24=true→(InB a23 (len a21)∧(InR (a7+v29)∧((!v32)=true→InR (a23+1))))),(v24&&(!v32)),(v30,(a23+1),()),(v24&&v32),(!v24))
def wY6 y x:=(vV4 y x).1
def vQ7 y x:=(vV4 y x).2.1
def wT7 y x:=(vV4 y x).2.2.1
def uL6 y x:=(vV4 y x).2.2.2.1
def tS3 y x:=(vV4 y x).2.2.2.2
instance (y:wO6)(x:wI):Decidable (wY6 y x):=by
 unfold wY6 vV4
 try dsimp only
 infer_instance
def vQ8 (y:wO6)(x:wI):(List (List D125)):=
 ([]:List (List D125))
def uS7 (y:wO6)(x:wI):Int:=
 (3:Int)
def tS4:List (Nat×Sh):=[(4,(.own (.sl T125) 0 false)),(5,vI)]
def tS5:List (Nat×Sh):=[(0,(.val (.sl (.sl T125)))),(3,(.box T37 (.val T37)))]
def uS8:St→Option Out:=xP4 [(0,(.val (.sl (.sl T125)))),(3,(.box T37 (.val T37))),(21,(.val (.sl (.sl T125)))),(22,vI)] [(7,vI),(23,vI)] vQ7 wT7 wY6 fun y x=>[ex 1 (some (uL6 y x)) tS4 ((vQ8 y x),(uS7 y x),()),ex 2 (some (tS3 y x)) tS5 (y.1,y.2.1,())]
abbrev wC9:Type:=(D37×Int×(List (List D125))×Int×Int×(List D125)×Int×Unit)
abbrev wB5:Type:=(((List (List D125))×Nat)×Int×Unit)
def vH4 (y:wC9)(x:wB5):Prop×Bool×wB5×Bool×Bool:=
 let a3:=y.1
 let a11:=y.2.1
 let a50:=y.2.2.2.2.2.1
 let a10:=x.1
 let a52:=x.2.1
 let v53:=(decide (a52<y.2.2.2.2.2.2.1))
 let v55:=(nth a50 a52 Z125)
 let v58:=(f143 v55)
 let v61:=(f142 a3 v55)
 let v63:=(f143 v61)
 let v67:=(List.getD a10.1 a10.2 [])
 let c:=((!v58)&&(!v63))
 ((v53=true→(InB a52 (len a50)∧((vO0 v55)∧(((!v58)=true→((uK7 a3 v55)∧((vO0 v61)∧((!v63)=true→(InB a11 (len a10.1)∧((Int.toNat a11=a10.2∧a11<len a10.1)∧(InB a52 (len v67)∧a52<len v67)))))))∧(c=true→InR (a52+1)))))),(v53&&c),(((List.set a10.1 a10.2 (List.set (List.getD a10.1 a10.2 []) (Int.toNat a52) v61)),a10.2),(a52+1),()),(v53&&(v58||((!v58)&&v63))),(!v53))
def wI0 y x:=(vH4 y x).1
def wC5 y x:=(vH4 y x).2.1
def xZ2 y x:=(vH4 y x).2.2.1
def tG2 y x:=(vH4 y x).2.2.2.1
def uA y x:=(vH4 y x).2.2.2.2
instance (y:wC9)(x:wB5):Decidable (wI0 y x):=by
 unfold wI0 vH4
 try dsimp only
 infer_instance
def vK7 (y:wC9)(x:wB5):(List (List D125)):=
 ([]:List (List D125))
def uG8 (y:wC9)(x:wB5):Int:=
 (bif (f143 (nth y.2.2.2.2.2.1 x.2.1 Z125)) then (2:Int) else (2:Int))
def tG3:List (Nat×Sh):=[(4,(.own (.sl T125) 0 false)),(5,vI)]
def uG9 (y:wC9)(x:wB5):((List (List D125))×Nat):=
 let a10:=x.1
 (a10.1,a10.2)
def tG4:List (Nat×Sh):=[(3,(.box T37 (.val T37))),(10,(.ownh T125 1010 48 true)),(37,(.val (.sl (.sl T125)))),(38,vI),(39,vI)]
def uH:St→Option Out:=xP4 [(3,(.box T37 (.val T37))),(11,vI),(37,(.val (.sl (.sl T125)))),(38,vI),(39,vI),(50,(.val (.sl T125))),(51,vI)] [(10,(.ownh T125 1010 48 true)),(52,vI)] wC5 xZ2 wI0 fun y x=>[ex 1 (some (tG2 y x)) tG3 ((vK7 y x),(uG8 y x),()),ex 6 (some (uA y x)) tG4 (y.1,(uG9 y x),y.2.2.1,y.2.2.2.1,y.2.2.2.2.1,())]
abbrev wB6:Type:=(D37×(List (List D125))×Int×Unit)
abbrev wA0:Type:=((List (List D125))×Int×Unit)
def vH5 (y:wB6)(x:wA0):Prop×Bool×wA0×Bool×Bool:=
 let a37:=y.2.1
 let a38:=y.2.2.1
 let a10:=x.1
 let a39:=x.2.1
 let v40:=(decide (a39<a38))
 let v42:=(nth a37 a39 ([]:List D125))
 let v47:=(len v42)
 let y18:=(y.1,a39,a37,a38,a39,v42,(len v42),())
 let x18:=(((List.set a10 (Int.toNat a39) (List.replicate (Int.toNat v47) Z125)),(Int.toNat a39)),(0:Int),())
 let e18:=(zC3 (wC5 y18) (xZ2 y18) x18)
 let q18_6:=(uA y18 e18)
 ((v40=true→(InB a39 (len a37)∧((0≤v47∧v47≤v47∧v47≤4294967296)∧(InB a39 (len a10)∧(a39<len a10∧((Am.Ends (wC5 y18) (xZ2 y18) (wI0 y18) x18)∧(q18_6=true→InR (a39+1)))))))),(v40&&q18_6),((uG9 y18 e18).1,(a39+1),()),(v40&&(tG2 y18 e18)),(!v40))
def wM y x:=(vH5 y x).1
def wQ3 y x:=(vH5 y x).2.1
def wD2 y x:=(vH5 y x).2.2.1
def uA0 y x:=(vH5 y x).2.2.2.1
def sT9 y x:=(vH5 y x).2.2.2.2
instance (y:wB6)(x:wA0):Decidable (wM y x):=by
 unfold wM vH5
 try dsimp only
 infer_instance
def vK8 (y:wB6)(x:wA0):(List (List D125)):=
 let a37:=y.2.1
 let a39:=x.2.1
 let v42:=(nth a37 a39 ([]:List D125))
 let y18:=(y.1,a39,a37,y.2.2.1,a39,v42,(len v42),())
 (vK7 y18 (zC3 (wC5 y18) (xZ2 y18) (((List.set x.1 (Int.toNat a39) (List.replicate (Int.toNat (len v42)) Z125)),(Int.toNat a39)),(0:Int),())))
def uH0 (y:wB6)(x:wA0):Int:=
 let a37:=y.2.1
 let a39:=x.2.1
 let v42:=(nth a37 a39 ([]:List D125))
 let y18:=(y.1,a39,a37,y.2.2.1,a39,v42,(len v42),())
 (uG8 y18 (zC3 (wC5 y18) (xZ2 y18) (((List.set x.1 (Int.toNat a39) (List.replicate (Int.toNat (len v42)) Z125)),(Int.toNat a39)),(0:Int),())))
def tG5:List (Nat×Sh):=[(4,(.own (.sl T125) 0 false)),(5,vI)]
def vK9 (y:wB6)(x:wA0):(List (List D125)):=
 x.1
def tG6:List (Nat×Sh):=[(10,(.own (.sl T125) 1010 true))]
def uH1:St→Option Out:=xP4 [(3,(.box T37 (.val T37))),(37,(.val (.sl (.sl T125)))),(38,vI)] [(10,(.own (.sl T125) 1010 true)),(39,vI)] wQ3 wD2 wM fun y x=>[ex 1 (some (uA0 y x)) tG5 ((vK8 y x),(uH0 y x),()),ex 4 (some (sT9 y x)) tG6 ((vK9 y x),())]
def qT2 (p0:(List (List D125)))(p1:D37):Prop×((List (List D125))×Int×Unit):=
 let v17:=(f77 p1)
 let v19:=(v17 !=0)
 let y6:=(p0,p1,p0,(len p0),())
 let x6:=((0:Int),(0:Int),())
 let e6:=(zC3 (vQ7 y6) (wT7 y6) x6)
 let q6_1:=(uL6 y6 e6)
 let v35:=(len p0)
 let y14:=(p1,p0,(len p0),())
 let x14:=((List.replicate (Int.toNat v35) ([]:List D125)),(0:Int),())
 let e14:=(zC3 (wQ3 y14) (wD2 y14) x14)
 let q14_1:=(uA0 y14 e14)
 (((vX6 p1)∧((!v19)=true→((Am.Ends (vQ7 y6) (wT7 y6) (wY6 y6) x6)∧((tS3 y6 e6)=true→((0≤v35∧v35≤v35∧v35≤4294967296)∧(Am.Ends (wQ3 y14) (wD2 y14) (wM y14) x14)))))),((bif v19 then [] else (bif q6_1 then (vQ8 y6 e6) else (bif q14_1 then (vK8 y14 e14) else (vK9 y14 e14)))),(bif v19 then v17 else (bif q6_1 then (uS7 y6 e6) else (bif q14_1 then (uH0 y14 e14) else (0:Int)))),()))
def tG7 p0 p1:=(qT2 p0 p1).1
def f132 p0 p1:=(qT2 p0 p1).2
instance (p0:(List (List D125)))(p1:D37):Decidable (tG7 p0 p1):=by
 unfold tG7 qT2
 try dsimp only
 infer_instance
def sK0:Am.Spec:=fnSpec [(0,(.val (.sl (.sl T125)))),(1,(.val T37))] (.tup (.cons (.val (.sl (.sl T125))) (.cons vI .nl))) [] (fun x=>tG7 x.1 x.2.1) (fun x=>f132 x.1 x.2.1) (fun _=>())
def uW6:Ctx:=Cx tys [(77,uB7),(142,tA9),(143,uC0)] [(6,uS8),(18,uH),(14,uH1)] [(25,[(4,0,36,1010)]),(54,[(1,10,0,0)]),(57,[(1,4,0,0),(4,0,1010,0)])] false 74 [] [36,48]
theorem uW7:CtxOk Tryz.prog uW6:=cq ⟨rC1,rW5,sR0,trivial⟩
noncomputable def sK1:Code:=Tryz.f132.body.getD .skip
noncomputable def rZ2:Code:=xX1 sK1 0
theorem rR0:yU8 Tryz.prog uW6 rZ2:=lq uW7 (sp:=uS8) rfl [tS4,tS5]
noncomputable def tZ6:Code:=xX1 sK1 1
noncomputable def rF2:Code:=xX1 tZ6 0
theorem sU:yU8 Tryz.prog uW6 rF2:=lq uW7 (sp:=uH) rfl [tG3,tG4]
theorem sU0:yU8 Tryz.prog uW6 tZ6:=xX9 uW7 mixed (sp:=uH1) rfl [tG5,tG6] (bs:=[rF2]) (by kernel_rfl) ⟨sU,trivial⟩ (by kernel_rfl) (by kernel_rfl) fun y x=>by kernel_rfl
theorem pV5:SpecOk Tryz.prog 132 sK0:=fl uW7 Tryz.func132 (bs:=[rZ2,tZ6]) ⟨rR0,sU0,trivial⟩
def qT3 (p0:D49):Prop×Int:=
 let v14:=(f130 f131 p0.2.2.2.2.2.2.2.2.2.2.2.2.2.2.2.2.2.2.2.2.2.2.2.1 p0.2.2.2.2.2.2.2.2.2.2.2.2.2.2.2.2.2.2.2.2.2.2.2.2.1 p0.2.2.2.2.2.2.2.2.2.2.2.2.2.2.2.2.2.2.2.2.2.2.2.2.2.1)
 let v18:=(v14.2.1 !=0)
 let v24:=(f132 v14.1 p0.2.2.2.2.2.2.2.2.2.2.1)
 let v28:=(v24.2.1 !=0)
 let v31:=(f129 v24.1 (0:Int))
 let v33:=(v31 !=0)
 ((tG1∧((tF5 f131 p0.2.2.2.2.2.2.2.2.2.2.2.2.2.2.2.2.2.2.2.2.2.2.2.1 p0.2.2.2.2.2.2.2.2.2.2.2.2.2.2.2.2.2.2.2.2.2.2.2.2.1 p0.2.2.2.2.2.2.2.2.2.2.2.2.2.2.2.2.2.2.2.2.2.2.2.2.2.1)∧((!v18)=true→((tG7 v14.1 p0.2.2.2.2.2.2.2.2.2.2.1)∧((!v28)=true→((vZ5 v24.1 (0:Int))∧((!v33)=true→(vZ1 p0.2.2.2.2.2.2.2.2.2.2.2.2.2.1)))))))),(bif v18 then v14.2.1 else (bif v28 then v24.2.1 else (bif v33 then v31 else (f110 p0.2.2.2.2.2.2.2.2.2.2.2.2.2.1)))))
def uL7 p0:=(qT3 p0).1
def f113 p0:=(qT3 p0).2
instance (p0:D49):Decidable (uL7 p0):=by
 unfold uL7 qT3
 try dsimp only
 infer_instance
def sK2:Am.Spec:=fnSpec [(0,(.val T49))] vI [] (fun x=>uL7 x.1) (fun x=>f113 x.1) (fun _=>())
def qT4:Ctx:=Cx tys [(110,uC),(129,uD0),(130,sJ4),(131,sK),(132,sK0)] [] [(3,[(4,0,14,1003)])] false 38 [] []
theorem pV6:SpecOk Tryz.prog 113 sK2:=fq (c:=qT4) Tryz.func113 ⟨sR,sR8,pU3,pV4,pV5,trivial⟩
def rR1 (p0:Int)(p1:Int):Prop×Bool:=
 let v7:=(p0==2)
 let v11:=(p0==3)
 let v24:=(p0==4)
 let m23:=(bif v24 then v24 else (p0==11))
 let v29:=(p0==5)
 let m28:=(bif v29 then v29 else (p0==9))
 let v34:=(p0==6)
 let m33:=(bif v34 then v34 else (p0==7))
 let m4_3:=(bif v11 then (bif (bif (decide (p1≥4)) then (decide (p1≤16)) else false) then ((Int.tmod p1 (2:Int))==0) else false) else (bif m23 then (p1==2) else (bif m28 then (p1==3) else (bif m33 then (p1==1) else (p1==9)))))
 (True,(bif (bif v7 then true else (bif v11 then true else (bif m23 then true else (bif m28 then true else (bif m33 then true else (p0==8)))))) then (bif v7 then (p1==5) else m4_3) else (p1==0)))
def tG8 p0 p1:=(rR1 p0 p1).1
def f133 p0 p1:=(rR1 p0 p1).2
instance (p0:Int)(p1:Int):Decidable (tG8 p0 p1):=by
 unfold tG8 rR1
 try dsimp only
 infer_instance
def sK3:Am.Spec:=fnSpec [(0,vI),(1,vI)] vB [] (fun x=>tG8 x.1 x.2.1) (fun x=>f133 x.1 x.2.1) (fun _=>())
def qT5:Ctx:=Cx tys [] [] [] false 44 [] []
theorem pV7:SpecOk Tryz.prog 133 sK3:=fq (c:=qT5) Tryz.func133 trivial
def pV8 (p0:Int)(p1:Int):Prop×(Int×Int×Unit):=
 let v12:=(bif (p0==2) then (p1==2) else false)
 let v15:=(p0==4)
 let v21:=(bif (p0==5) then (decide (p1>0)) else false)
 let m13_1:=(bif v15 then v15 else (bif v21 then v21 else (bif (p0==11) then (p1==1) else false)))
 let v30:=(p0==5)
 let v33:=(p0==7)
 let v36:=(p0==8)
 let c_8:=(bif v12 then true else (bif m13_1 then true else (bif v30 then true else (bif v33 then true else (bif v36 then true else (p0==11))))))
 let m4_5:=(bif c_8 then (bif v12 then (1:Int) else (bif m13_1 then (-65535:Int) else (bif v30 then (-32768:Int) else (bif v33 then (2:Int) else (bif v36 then (-262140:Int) else (-128:Int)))))) else (0:Int))
 let m5_5:=(bif c_8 then (bif v12 then (256:Int) else (bif m13_1 then (65535:Int) else (bif v30 then (32768:Int) else (bif v33 then (256:Int) else (bif v36 then (262140:Int) else (128:Int)))))) else (65535:Int))
 (True,(m4_5,m5_5,()))
def tG9 p0 p1:=(pV8 p0 p1).1
def f154 p0 p1:=(pV8 p0 p1).2
instance (p0:Int)(p1:Int):Decidable (tG9 p0 p1):=by
 unfold tG9 pV8
 try dsimp only
 infer_instance
def sK4:Am.Spec:=fnSpec [(0,vI),(1,vI)] (.tup (.cons vI (.cons vI .nl))) [] (fun x=>tG9 x.1 x.2.1) (fun x=>f154 x.1 x.2.1) (fun _=>())
def qT6:Ctx:=Cx tys [] [] [] false 40 [] []
theorem pV9:SpecOk Tryz.prog 154 sK4:=fq (c:=qT6) Tryz.func154 trivial
abbrev wT8:Type:=(Int×(List Int)×(List D122)×(List Int)×Int×Unit)
abbrev wL1:Type:=(Int×Unit)
def vV5 (y:wT8)(x:wL1):Prop×Bool×wL1×Bool×Bool:=
 let a0:=y.1
 let a13:=y.2.2.2.1
 let a15:=x.1
 let v16:=(decide (a15<y.2.2.2.2.1))
 let v18:=(nth a13 a15 (0:Int))
 let v23:=(f154 a0 a15)
 let v33:=(bif (decide (v18<v23.1)) then true else (decide (v18>v23.2.1)))
 ((v16=true→(InB a15 (len a13)∧((tG9 a0 a15)∧((!v33)=true→InR (a15+1))))),(v16&&(!v33)),((a15+1),()),(v16&&v33),(!v16))
def vV6 y x:=(vV5 y x).1
def tH y x:=(vV5 y x).2.1
def vQ9 y x:=(vV5 y x).2.2.1
def tS6 y x:=(vV5 y x).2.2.2.1
def tS7 y x:=(vV5 y x).2.2.2.2
instance (y:wT8)(x:wL1):Decidable (vV6 y x):=by
 unfold vV6 vV5
 try dsimp only
 infer_instance
def uS9 (y:wT8)(x:wL1):Bool:=
 false
def tS8:List (Nat×Sh):=[(0,vI),(1,(.val (.sl (.int .i64)))),(2,(.val (.sl T122)))]
def uT:St→Option Out:=xP4 [(0,vI),(1,(.val (.sl (.int .i64)))),(2,(.val (.sl T122))),(13,(.val (.sl (.int .i64)))),(14,vI)] [(15,vI)] tH vQ9 vV6 fun y x=>[ex 1 (some (tS6 y x)) [(6,vB)] ((uS9 y x),()),ex 2 (some (tS7 y x)) tS8 (y.1,y.2.1,y.2.2.1,())]
abbrev wN7:Type:=((List D122)×Int×Unit)
abbrev wG6:Type:=(Int×Unit)
def vH6 (y:wN7)(x:wG6):Prop×Bool×wG6×Bool×Bool:=
 let a55:=y.1
 let a57:=x.1
 let v58:=(decide (a57<y.2.1))
 let v59:=(nth a55 a57 Z122)
 let v68:=(bif (decide (v59.1<0)) then true else (decide (v59.1>65535)))
 let v74:=(bif v68 then true else (!(f85 v59.2.1)))
 ((v58=true→(InB a57 (len a55)∧(((!v68)=true→(uO0 v59.2.1))∧((!v74)=true→InR (a57+1))))),(v58&&(!v74)),((a57+1),()),(v58&&v74),(!v58))
def vL y x:=(vH6 y x).1
def uL8 y x:=(vH6 y x).2.1
def vL0 y x:=(vH6 y x).2.2.1
def tH0 y x:=(vH6 y x).2.2.2.1
def sU1 y x:=(vH6 y x).2.2.2.2
instance (y:wN7)(x:wG6):Decidable (vL y x):=by
 unfold vL vH6
 try dsimp only
 infer_instance
def uH2 (y:wN7)(x:wG6):Bool:=
 false
def uH3:St→Option Out:=xP4 [(55,(.val (.sl T122))),(56,vI)] [(57,vI)] uL8 vL0 vL fun y x=>[ex 1 (some (tH0 y x)) [(6,vB)] ((uH2 y x),()),ex 4 (some (sU1 y x)) [] ()]
def pW (p0:Int)(p1:List Int)(p2:List D122):Prop×Bool:=
 let y2:=(p0,p1,p2,p1,(len p1),())
 let x2:=((0:Int),())
 let e2:=(zC3 (tH y2) (vQ9 y2) x2)
 let v36:=(p0==9)
 let v42:=(bif v36 then ((nth p1 (0:Int) (0:Int))==0) else false)
 let v48:=(bif v42 then ((nth p1 (1:Int) (0:Int))==0) else false)
 let v54:=(bif v48 then ((nth p1 (2:Int) (0:Int))==0) else false)
 let y11:=(p2,(len p2),())
 let x11:=((0:Int),())
 let e11:=(zC3 (uL8 y11) (vL0 y11) x11)
 (((Am.Ends (tH y2) (vQ9 y2) (vV6 y2) x2)∧((tS7 y2 e2)=true→((v36=true→InB (0:Int) (len p1))∧((v42=true→InB (1:Int) (len p1))∧((v48=true→InB (2:Int) (len p1))∧((!v54)=true→(Am.Ends (uL8 y11) (vL0 y11) (vL y11) x11))))))),(bif (tS6 y2 e2) then (uS9 y2 e2) else (bif v54 then false else (bif (tH0 y11 e11) then (uH2 y11 e11) else true))))
def tH1 p0 p1 p2:=(pW p0 p1 p2).1
def f134 p0 p1 p2:=(pW p0 p1 p2).2
instance (p0:Int)(p1:List Int)(p2:List D122):Decidable (tH1 p0 p1 p2):=by
 unfold tH1 pW
 try dsimp only
 infer_instance
def sK5:Am.Spec:=fnSpec [(0,vI),(1,(.val (.sl (.int .i64)))),(2,(.val (.sl T122)))] vB [] (fun x=>tH1 x.1 x.2.1 x.2.2.1) (fun x=>f134 x.1 x.2.1 x.2.2.1) (fun _=>())
def tZ7:Ctx:=Cx tys [(85,uB8),(154,sK4)] [(2,uT),(11,uH3)] [] false 76 [] []
theorem tZ8:CtxOk Tryz.prog tZ7:=cq ⟨rC5,pV9,trivial⟩
noncomputable def sK6:Code:=Tryz.f134.body.getD .skip
noncomputable def rZ3:Code:=xX1 sK6 0
theorem rR2:yU8 Tryz.prog tZ7 rZ3:=lq tZ8 (sp:=uT) rfl [[(6,vB)],tS8]
noncomputable def rF3:Code:=xX1 sK6 1
theorem sU2:yU8 Tryz.prog tZ7 rF3:=lq tZ8 (sp:=uH3) rfl [[(6,vB)],[]]
theorem pW0:SpecOk Tryz.prog 134 sK5:=fl tZ8 Tryz.func134 (bs:=[rZ3,rF3]) ⟨rR2,sU2,trivial⟩
abbrev wT9:Type:=((List Int)×(List D122)×Unit)
abbrev wL2:Type:=(Int×Unit)
def vV7 (y:wT9)(x:wL2):Prop×Bool×wL2×Bool×Bool:=
 let a1:=y.1
 let a7:=x.1
 let v25:=(decide (a7<(len a1)))
 let v34:=(a7-2)
 let v37:=(decide ((nth a1 a7 (0:Int))≤(nth a1 v34 (0:Int))))
 ((v25=true→(InB a7 (len a1)∧(InR (a7-2)∧(InB v34 (len a1)∧((!v37)=true→InR (a7+2)))))),(v25&&(!v37)),((a7+2),()),(v25&&v37),(!v25))
def vV8 y x:=(vV7 y x).1
def tH2 y x:=(vV7 y x).2.1
def vR y x:=(vV7 y x).2.2.1
def tS9 y x:=(vV7 y x).2.2.2.1
def tT y x:=(vV7 y x).2.2.2.2
instance (y:wT9)(x:wL2):Decidable (vV8 y x):=by
 unfold vV8 vV7
 try dsimp only
 infer_instance
def uT0 (y:wT9)(x:wL2):Bool:=
 false
def uT1:St→Option Out:=xP4 [(1,(.val (.sl (.int .i64)))),(2,(.val (.sl T122)))] [(7,vI)] tH2 vR vV8 fun y x=>[ex 1 (some (tS9 y x)) [(6,vB)] ((uT0 y x),()),ex 2 (some (tT y x)) [(2,(.val (.sl T122)))] (y.2.1,())]
abbrev wN8:Type:=((List D122)×Unit)
abbrev wG7:Type:=(Int×Unit)
def vH7 (y:wN8)(x:wG7):Prop×Bool×wG7×Bool×Bool:=
 let a2:=y.1
 let a8:=x.1
 let v41:=(decide (a8<(len a2)))
 let v51:=(a8-1)
 let v55:=(decide ((nth a2 a8 Z122).1≤(nth a2 v51 Z122).1))
 ((v41=true→(InB a8 (len a2)∧(InR (a8-1)∧(InB v51 (len a2)∧((!v55)=true→InR (a8+1)))))),(v41&&(!v55)),((a8+1),()),(v41&&v55),(!v41))
def vA1 y x:=(vH7 y x).1
def vV9 y x:=(vH7 y x).2.1
def wV9 y x:=(vH7 y x).2.2.1
def tH3 y x:=(vH7 y x).2.2.2.1
def sU3 y x:=(vH7 y x).2.2.2.2
instance (y:wN8)(x:wG7):Decidable (vA1 y x):=by
 unfold vA1 vH7
 try dsimp only
 infer_instance
def uH4 (y:wN8)(x:wG7):Bool:=
 false
def uH5:St→Option Out:=xP4 [(2,(.val (.sl T122)))] [(8,vI)] vV9 wV9 vA1 fun y x=>[ex 1 (some (tH3 y x)) [(6,vB)] ((uH4 y x),()),ex 4 (some (sU3 y x)) [] ()]
def pW1 (p0:Int)(p1:List Int)(p2:List D122):Prop×Bool:=
 let v10:=(p0==2)
 let v19:=(bif v10 then (decide ((nth p1 (1:Int) (0:Int))≤(nth p1 (0:Int) (0:Int)))) else false)
 let v21:=(p0==3)
 let y5:=(p1,p2,())
 let x5:=((2:Int),())
 let e5:=(zC3 (tH2 y5) (vR y5) x5)
 let y10:=((bif v21 then p2 else p2),())
 let x10:=((1:Int),())
 let e10:=(zC3 (vV9 y10) (wV9 y10) x10)
 (((v10=true→InB (1:Int) (len p1))∧((v10=true→InB (0:Int) (len p1))∧((!v19)=true→((v21=true→(Am.Ends (tH2 y5) (vR y5) (vV8 y5) x5))∧((bif v21 then (tT y5 e5) else true)=true→(Am.Ends (vV9 y10) (wV9 y10) (vA1 y10) x10)))))),(bif v19 then false else (bif ((tS9 y5 e5)&&v21) then (uT0 y5 e5) else (bif (tH3 y10 e10) then (uH4 y10 e10) else true))))
def tH4 p0 p1 p2:=(pW1 p0 p1 p2).1
def f135 p0 p1 p2:=(pW1 p0 p1 p2).2
instance (p0:Int)(p1:List Int)(p2:List D122):Decidable (tH4 p0 p1 p2):=by
 unfold tH4 pW1
 try dsimp only
 infer_instance
def sK7:Am.Spec:=fnSpec [(0,vI),(1,(.val (.sl (.int .i64)))),(2,(.val (.sl T122)))] vB [] (fun x=>tH4 x.1 x.2.1 x.2.2.1) (fun x=>f135 x.1 x.2.1 x.2.2.1) (fun _=>())
def tZ9:Ctx:=Cx tys [] [(5,uT1),(10,uH5)] [] false 56 [] []
theorem sA:CtxOk Tryz.prog tZ9:=cq trivial
noncomputable def sK8:Code:=Tryz.f135.body.getD .skip
noncomputable def rZ4:Code:=xX1 sK8 0
theorem rR3:yU8 Tryz.prog tZ9 rZ4:=lq sA (sp:=uT1) rfl [[(6,vB)],[(2,(.val (.sl T122)))]]
noncomputable def rF4:Code:=xX1 sK8 1
theorem sU4:yU8 Tryz.prog tZ9 rF4:=lq sA (sp:=uH5) rfl [[(6,vB)],[]]
theorem pW2:SpecOk Tryz.prog 135 sK7:=fl sA Tryz.func135 (bs:=[rZ4,rF4]) ⟨rR3,sU4,trivial⟩
def pW3 (p0:Int)(p1:List Int)(p2:List D122):Prop×Int:=
 let v13:=(bif (decide (p0<1)) then true else (decide (p0>11)))
 let v17:=(len p1)
 let v27:=(bif (!(f133 p0 v17)) then true else (!(Ty.eqb .bool (decide ((len p2)>0)) (p0==10))))
 let v31:=(decide ((len p2)>16))
 let v37:=(!(f134 p0 p1 p2))
 let m6_4:=(bif (bif v13 then true else (bif v27 then true else (bif v31 then true else (bif v37 then true else (!(f135 p0 p1 p2)))))) then (bif v13 then (8:Int) else (bif v27 then (1:Int) else (bif v31 then (3:Int) else (bif v37 then (2:Int) else (24:Int))))) else (0:Int))
 ((v13=false→((tG8 p0 v17)∧(v27=false→(v31=false→((tH1 p0 p1 p2)∧(v37=false→(tH4 p0 p1 p2))))))),m6_4)
def tH5 p0 p1 p2:=(pW3 p0 p1 p2).1
def f114 p0 p1 p2:=(pW3 p0 p1 p2).2
instance (p0:Int)(p1:List Int)(p2:List D122):Decidable (tH5 p0 p1 p2):=by
 unfold tH5 pW3
 try dsimp only
 infer_instance
def sK9:Am.Spec:=fnSpec [(0,vI),(1,(.val (.sl (.int .i64)))),(2,(.val (.sl T122)))] vI [] (fun x=>tH5 x.1 x.2.1 x.2.2.1) (fun x=>f114 x.1 x.2.1 x.2.2.1) (fun _=>())
def qT7:Ctx:=Cx tys [(133,sK3),(134,sK5),(135,sK7)] [] [] false 44 [] []
theorem pW4:SpecOk Tryz.prog 114 sK9:=fq (c:=qT7) Tryz.func114 ⟨pV7,pW0,pW2,trivial⟩
def pW5 (p0:Int):Prop×(List D125):=
 let v5:=(p0==1)
 let v6:=(p0==7)
 let m4_1:=(bif v5 then v5 else (bif v6 then v6 else (p0==8)))
 let v11:=(p0==2)
 let v15:=(p0==4)
 let v19:=(p0==3)
 let v24:=(p0==9)
 let m2_1:=(bif v19 then ([((0:Int),(16:Int),()),((0:Int),(262140:Int),())]:List D125) else (bif v24 then ([((-16:Int),(16:Int),()),((-16:Int),(16:Int),())]:List D125) else ([((1:Int),(16:Int),())]:List D125)))
 let m2_5:=(bif (bif m4_1 then true else (bif v11 then true else (bif v15 then true else (bif v19 then true else (bif v24 then true else (p0==10)))))) then (bif m4_1 then ([((0:Int),(16:Int),())]:List D125) else (bif v11 then ([((0:Int),(7:Int),())]:List D125) else (bif v15 then ([((0:Int),(4:Int),())]:List D125) else m2_1))) else [])
 (True,m2_5)
def tH6 p0:=(pW5 p0).1
def f136 p0:=(pW5 p0).2
instance (p0:Int):Decidable (tH6 p0):=by
 unfold tH6 pW5
 try dsimp only
 infer_instance
def sL:Am.Spec:=fnSpec [(0,vI)] (.own T125 0 false) [] (fun x=>tH6 x.1) (fun x=>f136 x.1) (fun _=>())
def qT8:Ctx:=Cx tys [] [] [(11,[(4,0,9,0)]),(15,[(4,0,13,0)]),(19,[(4,0,17,0)]),(23,[(4,0,22,0)]),(27,[(4,0,27,0)]),(31,[(4,0,31,0)])] false 32 [] []
theorem pW6:SpecOk Tryz.prog 136 sL:=fq (c:=qT8) Tryz.func136 trivial
abbrev wU:Type:=((List D125)×(List Int)×Int×Unit)
abbrev wL3:Type:=(Int×Unit)
def vW (y:wU)(x:wL3):Prop×Bool×wL3×Bool×Bool:=
 let a5:=y.1
 let a21:=y.2.1
 let a23:=x.1
 let v24:=(decide (a23<y.2.2.1))
 let v26:=(nth a21 a23 (0:Int))
 let v34:=(decide (v26<(nth a5 a23 Z125).1))
 let v43:=(bif v34 then true else (decide (v26>(nth a5 a23 Z125).2.1)))
 ((v24=true→(InB a23 (len a21)∧(InB a23 (len a5)∧(((!v34)=true→InB a23 (len a5))∧((!v43)=true→InR (a23+1)))))),(v24&&(!v43)),((a23+1),()),(v24&&v43),(!v24))
def vW0 y x:=(vW y x).1
def tH7 y x:=(vW y x).2.1
def vR0 y x:=(vW y x).2.2.1
def tT0 y x:=(vW y x).2.2.2.1
def rR4 y x:=(vW y x).2.2.2.2
instance (y:wU)(x:wL3):Decidable (vW0 y x):=by
 unfold vW0 vW
 try dsimp only
 infer_instance
def uT2 (y:wU)(x:wL3):Int:=
 (2:Int)
def uT3:St→Option Out:=xP4 [(5,(.own T125 1005 false)),(21,(.val (.sl (.int .i64)))),(22,vI)] [(23,vI)] tH7 vR0 vW0 fun y x=>[ex 1 (some (tT0 y x)) [(4,vI)] ((uT2 y x),()),ex 2 (some (rR4 y x)) [] ()]
def pW7 (p0:Int)(p1:List Int):Prop×Int:=
 let v13:=(bif (decide (p0<1)) then true else (decide (p0>10)))
 let v15:=(f136 p0)
 let v20:=((len p1)!=(len v15))
 let y7:=(v15,p1,(len p1),())
 let x7:=((0:Int),())
 let e7:=(zC3 (tH7 y7) (vR0 y7) x7)
 (((!v13)=true→((tH6 p0)∧((!v20)=true→(Am.Ends (tH7 y7) (vR0 y7) (vW0 y7) x7)))),(bif v13 then (8:Int) else (bif v20 then (1:Int) else (bif (tT0 y7 e7) then (uT2 y7 e7) else (0:Int)))))
def tH8 p0 p1:=(pW7 p0 p1).1
def f115 p0 p1:=(pW7 p0 p1).2
instance (p0:Int)(p1:List Int):Decidable (tH8 p0 p1):=by
 unfold tH8 pW7
 try dsimp only
 infer_instance
def sL0:Am.Spec:=fnSpec [(0,vI),(1,(.val (.sl (.int .i64))))] vI [] (fun x=>tH8 x.1 x.2.1) (fun x=>f115 x.1 x.2.1) (fun _=>())
def rF5:Ctx:=Cx tys [(136,sL)] [(7,uT3)] [(7,[(4,0,15,1005)])] false 45 [] []
theorem rF6:CtxOk Tryz.prog rF5:=cq ⟨pW6,trivial⟩
noncomputable def rZ5:Code:=Tryz.f115.body.getD .skip
noncomputable def rZ6:Code:=xX1 rZ5 0
theorem rR5:yU8 Tryz.prog rF5 rZ6:=lq rF6 (sp:=uT3) rfl [[(4,vI)],[]]
theorem pW8:SpecOk Tryz.prog 115 sL0:=fl rF6 Tryz.func115 (bs:=[rZ6]) ⟨rR5,trivial⟩
abbrev wU0:Type:=((List D125)×Int×Unit)
abbrev wL4:Type:=(Int×Unit)
def vW1 (y:wU0)(x:wL4):Prop×Bool×wL4×Bool×Bool:=
 let a43:=y.1
 let a45:=x.1
 let v46:=(decide (a45<y.2.1))
 let v47:=(nth a43 a45 Z125)
 let v66:=(bif (bif (bif (decide (v47.1<(-1048576))) then true else (decide (v47.1>1048576))) then true else (decide (v47.2.1<(-1048576)))) then true else (decide (v47.2.1>1048576)))
 ((v46=true→(InB a45 (len a43)∧((!v66)=true→InR (a45+1)))),(v46&&(!v66)),((a45+1),()),(v46&&v66),(!v46))
def vW2 y x:=(vW1 y x).1
def tH9 y x:=(vW1 y x).2.1
def vR1 y x:=(vW1 y x).2.2.1
def tT1 y x:=(vW1 y x).2.2.2.1
def rR6 y x:=(vW1 y x).2.2.2.2
instance (y:wU0)(x:wL4):Decidable (vW2 y x):=by
 unfold vW2 vW1
 try dsimp only
 infer_instance
def uT4 (y:wU0)(x:wL4):Int:=
 (2:Int)
def uT5:St→Option Out:=xP4 [(43,(.val (.sl T125))),(44,vI)] [(45,vI)] tH9 vR1 vW2 fun y x=>[ex 1 (some (tT1 y x)) [(2,vI)] ((uT4 y x),()),ex 2 (some (rR6 y x)) [] ()]
def pW9 (p0:D47):Prop×Int:=
 let v22:=(bif (bif (bif (decide (p0.1<2)) then true else (decide (p0.1>8))) then true else (decide (p0.2.1<2))) then true else (decide (p0.2.1>8)))
 let v30:=(bif (decide (p0.2.2.1<1)) then true else (decide (p0.2.2.1>256)))
 let v41:=(bif v30 then true else ((len p0.2.2.2.1)!=(p0.1*p0.2.1)))
 let y6:=(p0.2.2.2.1,(len p0.2.2.2.1),())
 let x6:=((0:Int),())
 let e6:=(zC3 (tH9 y6) (vR1 y6) x6)
 (((!v22)=true→(((!v30)=true→InR (p0.1*p0.2.1))∧((!v41)=true→(Am.Ends (tH9 y6) (vR1 y6) (vW2 y6) x6)))),(bif v22 then (15:Int) else (bif v41 then (15:Int) else (bif (tT1 y6 e6) then (uT4 y6 e6) else (0:Int)))))
def tI p0:=(pW9 p0).1
def f116 p0:=(pW9 p0).2
instance (p0:D47):Decidable (tI p0):=by
 unfold tI pW9
 try dsimp only
 infer_instance
def sL1:Am.Spec:=fnSpec [(0,(.val T47))] vI [] (fun x=>tI x.1) (fun x=>f116 x.1) (fun _=>())
def rF7:Ctx:=Cx tys [] [(6,uT5)] [] false 68 [] []
theorem rF8:CtxOk Tryz.prog rF7:=cq trivial
noncomputable def rZ7:Code:=Tryz.f116.body.getD .skip
noncomputable def rZ8:Code:=xX1 rZ7 0
theorem rR7:yU8 Tryz.prog rF7 rZ8:=lq rF8 (sp:=uT5) rfl [[(2,vI)],[]]
theorem pX:SpecOk Tryz.prog 116 sL1:=fl rF8 Tryz.func116 (bs:=[rZ8]) ⟨rR7,trivial⟩
def f81t (p0:D49):Prop×Int:=
 let v6:=(p0.2.1==2)
 let v11:=(p0.2.1==3)
 let v16:=(p0.2.1==4)
 let v27:=(p0.2.1==5)
 let v31:=(p0.2.1==6)
 let v35:=(p0.2.1==7)
 let v44:=(p0.2.1==8)
 let v51:=(p0.2.1==9)
 let m50:=(bif v51 then v51 else (p0.2.1==10))
 let v62:=(p0.2.1==11)
 let c_2:=(bif v44 then true else (bif m50 then (bif (decide (p0.2.2.2.2.2.2.2.2.2.2.2.2.2.2.2.2.2.2.2.2.2.2.2.2.2.2.1<1)) then true else (decide (p0.2.2.2.2.2.2.2.2.2.2.2.2.2.2.2.2.2.2.2.2.2.2.2.2.2.2.1>1073741824))) else v62))
 let m2_2:=(bif v35 then (f114 p0.2.2.2.2.2.2.2.2.2.2.2.2.2.2.1 p0.2.2.2.2.2.2.2.2.2.2.2.2.2.2.2.1 p0.2.2.2.2.2.2.2.2.2.2.2.2.2.2.2.2.2.1) else (bif v44 then (f115 p0.2.2.2.2.2.2.2.2.2.2.2.2.2.2.1 p0.2.2.2.2.2.2.2.2.2.2.2.2.2.2.2.1) else (bif m50 then (2:Int) else (f116 p0.2.2.2.2.2.2.2.2.2.2.2.2.2.2.2.2.2.2.2.2.2.2.2.2.2.2.2.1))))
 let m2_5:=(bif v16 then (f111 p0.2.2.2.2.2.2.2.2.2.2.2.2.2.2.1 p0.2.2.2.2.2.2.2.2.2.2.2.2.2.2.2.1 p0.2.2.2.2.2.2.2.2.2.2.2.2.2.2.2.2.1 p0.2.2.2.2.2.2.2.2.2.2.2.2.2.2.2.2.2.1) else (bif v27 then (f112 p0) else (bif v31 then (f113 p0) else m2_2)))
 let m2_8:=(bif (bif v6 then true else (bif v11 then true else (bif v16 then true else (bif v27 then true else (bif v31 then true else (bif v35 then true else c_2)))))) then (bif v6 then (f56 p0.2.2.2.2.2.2.2.2.2.2.2.2.1) else (bif v11 then (f110 p0.2.2.2.2.2.2.2.2.2.2.2.2.2.1) else m2_5)) else (0:Int))
 (((v6=true→(tQ1 p0.2.2.2.2.2.2.2.2.2.2.2.2.1))∧(v6=false→((v11=true→(vZ1 p0.2.2.2.2.2.2.2.2.2.2.2.2.2.1))∧(v11=false→((v16=true→(tA6 p0.2.2.2.2.2.2.2.2.2.2.2.2.2.2.1 p0.2.2.2.2.2.2.2.2.2.2.2.2.2.2.2.1 p0.2.2.2.2.2.2.2.2.2.2.2.2.2.2.2.2.1 p0.2.2.2.2.2.2.2.2.2.2.2.2.2.2.2.2.2.1))∧(v16=false→((v27=true→(tD3 p0))∧(v27=false→((v31=true→(uL7 p0))∧(v31=false→((v35=true→(tH5 p0.2.2.2.2.2.2.2.2.2.2.2.2.2.2.1 p0.2.2.2.2.2.2.2.2.2.2.2.2.2.2.2.1 p0.2.2.2.2.2.2.2.2.2.2.2.2.2.2.2.2.2.1))∧(v35=false→((v44=true→(tH8 p0.2.2.2.2.2.2.2.2.2.2.2.2.2.2.1 p0.2.2.2.2.2.2.2.2.2.2.2.2.2.2.2.1))∧(v44=false→(m50=false→(v62=true→(tI p0.2.2.2.2.2.2.2.2.2.2.2.2.2.2.2.2.2.2.2.2.2.2.2.2.2.2.2.1))))))))))))))))),m2_8)
def sL2 p0:=(f81t p0).1
def f81 p0:=(f81t p0).2
instance (p0:D49):Decidable (sL2 p0):=by
 unfold sL2 f81t
 try dsimp only
 infer_instance
def rF9:Am.Spec:=fnSpec [(0,(.val T49))] vI [] (fun x=>sL2 x.1) (fun x=>f81 x.1) (fun _=>())
def pX0:Ctx:=Cx tys [(56,tX2),(110,uC),(111,sH1),(112,sI8),(113,sK2),(114,sK9),(115,sL0),(116,sL1)] [] [] false 66 [] []
theorem oJ3:SpecOk Tryz.prog 81 rF9:=fq (c:=pX0) Tryz.func81 ⟨pF,sR,pP5,pT3,pV6,pW4,pW8,pX,trivial⟩
def f82t (p0:D49):Prop×Bool:=
 let v17:=(bif (bif (!(Ty.eqb T37 p0.2.2.2.2.2.2.2.2.2.2.1 ((0:Int),(0:Int),(0:Int),(0:Int),(0:Int),(0:Int),()))) then true else (p0.2.2.2.2.2.2.2.2.2.2.2.1 !=0)) then true else (!(Ty.eqb T42 p0.2.2.2.2.2.2.2.2.2.2.2.2.2.1 ((0:Int),(0:Int),(0:Int),(0:Int),()))))
 let v54:=(bif (bif (bif (p0.2.2.2.2.2.2.2.2.2.2.2.2.2.2.1 !=0) then true else ((len p0.2.2.2.2.2.2.2.2.2.2.2.2.2.2.2.1)!=0)) then true else (p0.2.2.2.2.2.2.2.2.2.2.2.2.2.2.2.2.1 !=0)) then true else ((len p0.2.2.2.2.2.2.2.2.2.2.2.2.2.2.2.2.2.1)!=0))
 let v73:=(bif (bif (bif ((len p0.2.2.2.2.2.2.2.2.2.2.2.2.2.2.2.2.2.2.1)!=0) then true else (p0.2.2.2.2.2.2.2.2.2.2.2.2.2.2.2.2.2.2.2.1 !=0)) then true else (p0.2.2.2.2.2.2.2.2.2.2.2.2.2.2.2.2.2.2.2.2.1 !=0)) then true else (p0.2.2.2.2.2.2.2.2.2.2.2.2.2.2.2.2.2.2.2.2.2.1 !=0))
 let v91:=(bif (bif (!(p0.2.2.2.2.2.2.2.2.2.2.2.2.2.2.2.2.2.2.2.2.2.2.2.1==([]:List UInt8))) then true else (p0.2.2.2.2.2.2.2.2.2.2.2.2.2.2.2.2.2.2.2.2.2.2.2.2.1 !=0)) then true else (p0.2.2.2.2.2.2.2.2.2.2.2.2.2.2.2.2.2.2.2.2.2.2.2.2.2.1 !=0))
 let v112:=(bif (bif (p0.2.2.2.2.2.2.2.2.2.2.2.2.2.2.2.2.2.2.2.2.2.2.2.2.2.2.2.1.1==0) then (p0.2.2.2.2.2.2.2.2.2.2.2.2.2.2.2.2.2.2.2.2.2.2.2.2.2.2.2.1.2.1==0) else false) then (p0.2.2.2.2.2.2.2.2.2.2.2.2.2.2.2.2.2.2.2.2.2.2.2.2.2.2.2.1.2.2.1==0) else false)
 let m2:=(bif (bif v91 then true else (p0.2.2.2.2.2.2.2.2.2.2.2.2.2.2.2.2.2.2.2.2.2.2.2.2.2.2.1 !=0)) then false else (bif v112 then ((len p0.2.2.2.2.2.2.2.2.2.2.2.2.2.2.2.2.2.2.2.2.2.2.2.2.2.2.2.1.2.2.2.1)==0) else false))
 let m2_3:=(bif (bif (bif (p0.2.2.2.2.2.2.2.2.2.2.2.2.1.1 !=0) then true else (p0.2.2.2.2.2.2.2.2.2.2.2.2.1.2.1 !=0)) then true else ((len p0.2.2.2.2.2.2.2.2.2.2.2.2.1.2.2.1)!=0)) then false else (bif v54 then false else (bif (bif v73 then true else (p0.2.2.2.2.2.2.2.2.2.2.2.2.2.2.2.2.2.2.2.2.2.2.1 !=0)) then false else m2)))
 (True,(bif v17 then false else m2_3))
def sL3 p0:=(f82t p0).1
def f82 p0:=(f82t p0).2
instance (p0:D49):Decidable (sL3 p0):=by
 unfold sL3 f82t
 try dsimp only
 infer_instance
def rG:Am.Spec:=fnSpec [(0,(.val T49))] vB [] (fun x=>sL3 x.1) (fun x=>f82 x.1) (fun _=>())
def pX1:Ctx:=Cx tys [] [] [] false 120 [] []
theorem oJ4:SpecOk Tryz.prog 82 rG:=fq (c:=pX1) Tryz.func82 trivial
end Go.Proofs.YtpanghcojpnkaaaGreatDoor.Am
