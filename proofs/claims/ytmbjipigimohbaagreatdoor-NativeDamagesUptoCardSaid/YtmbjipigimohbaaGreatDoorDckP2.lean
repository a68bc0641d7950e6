/- Printed by program, part 2. No condition. -/
import Derived.Test.YtmbjipigimohbaaGreatDoorDckL
set_option linter.unusedVariables false
set_option synthInstance.maxSize 4000
set_option synthInstance.maxHeartbeats 400000
namespace Go.Proofs.YtmbjipigimohbaaGreatDoor.Am
open Go Go.Am Go.Proofs
def f74t (p0:Int):Prop×Bool:=
 (True,(bif (decide (p0≥0)) then (decide (p0≤65535)) else false))
def sX p0:=(f74t p0).1
def f74 p0:=(f74t p0).2
instance (p0):Decidable (sX p0):=by unfold sX f74t;dsimp only;infer_instance
theorem pM6:SK 74 (sp1 vI vB sX f74):=fb Tryz.func74 9
abbrev uI6:Type:=((List Int)×Int×Unit)
abbrev vT1:Type:=(Int×Unit)
def tM3 (y:uI6)(x:vT1):Prop×Bool×vT1×Bool×Bool:=
 let a42:=y.1
 let a44:=x.1
 let v45:=(decide (a44<y.2.1))
 let v46:=(nth a42 a44 (0:Int))
 let v50:=(!(f74 v46))
 ((v45=true→(InB a44 (len a42)∧((sX v46)∧((!v50)=true→InR (a44+1))))),(v45&&(!v50)),((a44+1),()),(v45&&v50),(!v45))
def uE2 y x:=(tM3 y x).1
def tE9 y x:=(tM3 y x).2.1
def vW9 y x:=(tM3 y x).2.2.1
def sX0 y x:=(tM3 y x).2.2.2.1
def rU5 y x:=(tM3 y x).2.2.2.2
instance (y x):Decidable (uE2 y x):=by unfold uE2 tM3;dsimp only;infer_instance
def tX9 (y:uI6)(x:vT1):Int:=
 (2:Int)
def rU6:=li [(42,(.val (.sl (.int .i64)))),(43,vI)] [(44,vI)] tE9 vW9 uE2 (fun y x=>[ex 1 (some (sX0 y x)) [(2,vI)] ((tX9 y x),()),ex 2 (some (rU5 y x)) [] ()]) [[(2,vI)],[]]
def f40t (p0:D24):Prop×Int:=
 let v22:=(bif (bif (bif (decide (p0.1<0)) then true else (decide (p0.1>256))) then true else (decide (p0.2.1<0))) then true else (decide (p0.2.1>256)))
 let v29:=(!(Ty.eqb .bool (p0.1==0) (p0.2.1==0)))
 let v40:=(bif v29 then true else ((len p0.2.2.1)!=(p0.1*p0.2.1)))
 let y6:=(p0.2.2.1,(len p0.2.2.1),())
 let x6:=((0:Int),())
 let e6:=(zC4 (tE9 y6) (vW9 y6) x6)
 (((!v22)=true→(((!v29)=true→InR (p0.1*p0.2.1))∧((!v40)=true→(xQ5 (tE9 y6) (vW9 y6) (uE2 y6) x6)))),(bif v22 then (15:Int) else (bif v40 then (15:Int) else (bif (sX0 y6 e6) then (tX9 y6 e6) else (0:Int)))))
def tQ0 p0:=(f40t p0).1
def f40 p0:=(f40t p0).2
instance (p0):Decidable (tQ0 p0):=by unfold tQ0 f40t;dsimp only;infer_instance
theorem rU7:SK 40 (sp1 (.val T24) vI tQ0 f40):=fb Tryz.func40 52 [kb pM6] [(6,rU6)]
def f85t :Prop×Int:=
 (True,(4:Int))
def sK6 :Prop:=(f85t).1
def f85 :Int:=(f85t).2
instance:Decidable sK6:=by unfold sK6 f85t;dsimp only;infer_instance
def qH4:Am.Spec:=fnSpec [] vI [] (fun x=>sK6 ) (fun x=>f85 ) (fun _=>())
theorem pM7:SK 85 (fnSpec [] vI [] (fun x=>sK6 ) (fun x=>f85 ) (fun _=>())):=fb Tryz.func85 1
def f60t (p0:D28):Prop×Int:=
 let v20:=(bif (bif (bif (decide (p0.1<1)) then true else (decide (p0.1>256))) then true else (decide (p0.2.1<1))) then true else (decide (p0.2.1>256)))
 let v23:=(decide (p0.2.2.1<0))
 (((!v20)=true→((!v23)=true→sK6)),(bif v20 then (15:Int) else (bif (bif v23 then true else (decide (p0.2.2.1≥f85))) then (2:Int) else (0:Int))))
def sK7 p0:=(f60t p0).1
def f60 p0:=(f60t p0).2
instance (p0):Decidable (sK7 p0):=by unfold sK7 f60t;dsimp only;infer_instance
def qH5:=sp1 (.val T28) vI sK7 f60
def qV9:=Cy [(85,qH4)] [] [] 30
theorem pM8:SK 60 qH5:=fq (c:=qV9) Tryz.func60 ⟨pM7,trivial⟩
def f88t (p0:D52):Prop×Bool:=
 (True,(bif (bif (p0.2.1==7) then true else (p0.2.1==8)) then true else (p0.2.1==11)))
def tY p0:=(f88t p0).1
def f88 p0:=(f88t p0).2
instance (p0):Decidable (tY p0):=by unfold tY f88t;dsimp only;infer_instance
theorem rU8:SK 88 (sp1 (.val T52) vB tY f88):=fb Tryz.func88 16
def qW (p0:Int):Prop×(List UInt8):=
 let v5:=(p0==1)
 let v7:=(p0==2)
 let v9:=(p0==3)
 let v11:=(p0==4)
 let v13:=(p0==5)
 let v15:=(p0==6)
 let v17:=(p0==7)
 let v19:=(p0==8)
 let v21:=(p0==9)
 let v23:=(p0==10)
 let m2_2:=(bif v19 then ([102,105,108,116,101,114]:List UInt8) else (bif v21 then ([108,105,110,107]:List UInt8) else (bif v23 then ([99,108,111,110,101]:List UInt8) else ([119,97,114,112]:List UInt8))))
 let m2_6:=(bif v11 then ([103,114,97,100,105,101,110,116]:List UInt8) else (bif v13 then ([112,97,116,104]:List UInt8) else (bif v15 then ([116,101,120,116]:List UInt8) else (bif v17 then ([97,100,106,117,115,116]:List UInt8) else m2_2))))
 let c_14:=(bif v9 then true else (bif v11 then true else (bif v13 then true else (bif v15 then true else (bif v17 then true else (bif v19 then true else (bif v21 then true else (bif v23 then true else (p0==11)))))))))
 let m2_10:=(bif (bif v5 then true else (bif v7 then true else c_14)) then (bif v5 then ([103,114,111,117,112]:List UInt8) else (bif v7 then ([105,109,97,103,101]:List UInt8) else (bif v9 then ([102,105,108,108]:List UInt8) else m2_6))) else ([]:List UInt8))
 (True,m2_10)
def tY0 p0:=(qW p0).1
def f118 p0:=(qW p0).2
instance (p0):Decidable (tY0 p0):=by unfold tY0 qW;dsimp only;infer_instance
theorem qW0:SK 118 (sp1 vI vS tY0 f118):=fb Tryz.func118 26
abbrev vX:Type:=((List UInt8)×Int×Unit)
abbrev vL1:Type:=(Int×Unit)
def uV6 (y:vX)(x:vL1):Prop×Bool×vL1×Bool×Bool:=
 let a0:=y.1
 let a14:=x.1
 let v15:=(decide (a14<y.2.1))
 let v20:=(decide ((wT5 a0 a14)<33))
 let v26:=(bif v20 then true else (decide ((wT5 a0 a14)>126)))
 ((v15=true→(InB a14 (len a0)∧(((!v20)=true→InB a14 (len a0))∧((!v26)=true→InR (a14+1))))),(v15&&(!v26)),((a14+1),()),(v15&&v26),(!v15))
def uV7 y x:=(uV6 y x).1
def tY1 y x:=(uV6 y x).2.1
def uN6 y x:=(uV6 y x).2.2.1
def sK8 y x:=(uV6 y x).2.2.2.1
def rN y x:=(uV6 y x).2.2.2.2
instance (y x):Decidable (uV7 y x):=by unfold uV7 uV6;dsimp only;infer_instance
def tQ1 (y:vX)(x:vL1):Bool:=
 false
def rN0:=li [(0,vS),(13,vI)] [(14,vI)] tY1 uN6 uV7 (fun y x=>[ex 1 (some (sK8 y x)) [(2,vB)] ((tQ1 y x),()),ex 2 (some (rN y x)) [] ()]) [[(2,vB)],[]]
def qW1 (p0:List UInt8):Prop×Bool:=
 let v11:=(bif (decide ((len p0)<1)) then true else (decide ((len p0)>32)))
 let y4:=(p0,(len p0),())
 let x4:=((0:Int),())
 let e4:=(zC4 (tY1 y4) (uN6 y4) x4)
 (((!v11)=true→(xQ5 (tY1 y4) (uN6 y4) (uV7 y4) x4)),(bif v11 then false else (bif (sK8 y4 e4) then (tQ1 y4 e4) else true)))
def tY2 p0:=(qW1 p0).1
def f119 p0:=(qW1 p0).2
instance (p0):Decidable (tY2 p0):=by unfold tY2 qW1;dsimp only;infer_instance
theorem qW2:SK 119 (sp1 vS vB tY2 f119):=fb Tryz.func119 28 [] [(4,rN0)]
def qW3 (p0:Int):Prop×Bool:=
 (True,(bif (decide (p0≥0)) then (decide (p0≤1073741824)) else false))
def tM4 p0:=(qW3 p0).1
def f120 p0:=(qW3 p0).2
instance (p0):Decidable (tM4 p0):=by unfold tM4 qW3;dsimp only;infer_instance
theorem qW4:SK 120 (sp1 vI vB tM4 f120):=fb Tryz.func120 9
def qW5 (p0:Int):Prop×Bool:=
 (True,(bif (decide (p0≥0)) then (decide (p0≤65535)) else false))
def tY3 p0:=(qW5 p0).1
def f121 p0:=(qW5 p0).2
instance (p0):Decidable (tY3 p0):=by unfold tY3 qW5;dsimp only;infer_instance
theorem qW6:SK 121 (sp1 vI vB tY3 f121):=fb Tryz.func121 9
def qW7 (p0:Int):Prop×Bool:=
 (True,(bif (decide (p0≥0)) then (decide (p0<18)) else false))
def tY4 p0:=(qW7 p0).1
def f122 p0:=(qW7 p0).2
instance (p0):Decidable (tY4 p0):=by unfold tY4 qW7;dsimp only;infer_instance
theorem qW8:SK 122 (sp1 vI vB tY4 f122):=fb Tryz.func122 9
def qW9 (p0:D52)(p1:Int)(p2:Int):Prop×Int:=
 let v21:=(bif (bif (bif (decide (p1<1)) then true else (decide (p1>256))) then true else (decide (p2<1))) then true else (decide (p2>256)))
 let v25:=((f118 p0.2.1)==([]:List UInt8))
 let v29:=(!(f119 p0.2.2.2.1))
 let v33:=(!(f120 p0.1))
 let v39:=(bif v33 then true else (!(f120 p0.2.2.1)))
 let v45:=(bif v39 then true else (!(f121 p0.2.2.2.2.2.2.2.1)))
 let v49:=(!(f122 p0.2.2.2.2.2.2.2.2.1))
 let v58:=(bif v49 then true else (bif (f88 p0) then (p0.2.2.2.2.2.2.2.2.1 !=0) else false))
 let v61:=(f40 p0.2.2.2.2.2.2.2.2.2.1)
 let m6_1:=(bif (v61 !=0) then v61 else (bif (bif (p0.2.2.2.2.2.2.2.2.2.1.1 !=0) then (bif (p0.2.2.2.2.2.2.2.2.2.1.1 !=p1) then true else (p0.2.2.2.2.2.2.2.2.2.1.2.1 !=p2)) else false) then (15:Int) else (0:Int)))
 (((!v21)=true→((tY0 p0.2.1)∧((!v25)=true→((tY2 p0.2.2.2.1)∧((!v29)=true→((tM4 p0.1)∧(((!v33)=true→(tM4 p0.2.2.1))∧(((!v39)=true→(tY3 p0.2.2.2.2.2.2.2.1))∧((!v45)=true→((tY4 p0.2.2.2.2.2.2.2.2.1)∧(((!v49)=true→(tY p0))∧((!v58)=true→(tQ0 p0.2.2.2.2.2.2.2.2.2.1))))))))))))),(bif v21 then (15:Int) else (bif v25 then (8:Int) else (bif v29 then (13:Int) else (bif v45 then (2:Int) else (bif v58 then (8:Int) else m6_1))))))
def tY5 p0 p1 p2:=(qW9 p0 p1 p2).1
def f101 p0 p1 p2:=(qW9 p0 p1 p2).2
instance (p0 p1 p2):Decidable (tY5 p0 p1 p2):=by unfold tY5 qW9;dsimp only;infer_instance
theorem qX:SK 101 (sp3 (.val T52) vI vI vI tY5 f101):=fb Tryz.func101 83 [kb rU7,kb rU8,kb qW0,kb qW2,kb qW4,kb qW6,kb qW8]
def qX0 (p0:Int):Prop×Bool:=
 let v5:=(p0==2)
 let v6:=(p0==5)
 let v7:=(p0==6)
 let v8:=(p0==9)
 (True,(bif (bif v5 then v5 else (bif v6 then v6 else (bif v7 then v7 else (bif v8 then v8 else (p0==10))))) then true else false))
def tM5 p0:=(qX0 p0).1
def f102 p0:=(qX0 p0).2
instance (p0):Decidable (tM5 p0):=by unfold tM5 qX0;dsimp only;infer_instance
theorem rU9:SK 102 (sp1 vI vB tM5 f102):=fb Tryz.func102 10
def qX1 (p0:Int)(p1:Int)(p2:Int):Prop×Int:=
 (True,(wS2 p2 (wS1 p0 p1)))
def tC6 p0 p1 p2:=(qX1 p0 p1 p2).1
def f134 p0 p1 p2:=(qX1 p0 p1 p2).2
instance (p0 p1 p2):Decidable (tC6 p0 p1 p2):=by unfold tC6 qX1;dsimp only;infer_instance
theorem rD2:SK 134 (sp3 vI vI vI vI tC6 f134):=fb Tryz.func134 12 [] [] [] true
def qX2 (p0:Int):Prop×Int:=
 ((tC6 p0 (-16777216:Int) (16777216:Int)),(f134 p0 (-16777216:Int) (16777216:Int)))
def uN7 p0:=(qX2 p0).1
def f135 p0:=(qX2 p0).2
instance (p0):Decidable (uN7 p0):=by unfold uN7 qX2;dsimp only;infer_instance
theorem qX3:SK 135 (sp1 vI vI uN7 f135):=fb Tryz.func135 5 [kb rD2]
def qX4 (p0:Int):Prop×Int:=
 ((tC6 p0 (-1099511627776:Int) (1099511627776:Int)),(f134 p0 (-1099511627776:Int) (1099511627776:Int)))
def uD p0:=(qX4 p0).1
def f136 p0:=(qX4 p0).2
instance (p0):Decidable (uD p0):=by unfold uD qX4;dsimp only;infer_instance
theorem rV:SK 136 (sp1 vI vI uD f136):=fb Tryz.func136 5 [kb rD2] [] [] true
def qX5 (p0:D40):Prop×D40:=
 (((uN7 p0.1)∧((uN7 p0.2.1)∧((uN7 p0.2.2.1)∧((uN7 p0.2.2.2.1)∧((uD p0.2.2.2.2.1)∧(uD p0.2.2.2.2.2.1)))))),((f135 p0.1),(f135 p0.2.1),(f135 p0.2.2.1),(f135 p0.2.2.2.1),(f136 p0.2.2.2.2.1),(f136 p0.2.2.2.2.2.1),()))
def tM6 p0:=(qX5 p0).1
def f123 p0:=(qX5 p0).2
instance (p0):Decidable (tM6 p0):=by unfold tM6 qX5;dsimp only;infer_instance
theorem rV0:SK 123 (sp1 (.val T40) (.val T40) tM6 f123):=fb Tryz.func123 22 [kb qX3,kb rV] [] [] true
def qX6 (p0:D40):Prop×Int:=
 ((tM6 p0),(bif (!(Ty.eqb T40 p0 (f123 p0))) then (2:Int) else (0:Int)))
def uD0 p0:=(qX6 p0).1
def f103 p0:=(qX6 p0).2
instance (p0):Decidable (uD0 p0):=by unfold uD0 qX6;dsimp only;infer_instance
theorem sQ3:SK 103 (sp1 (.val T40) vI uD0 f103):=fb Tryz.func103 7 [kb rV0]
def qX7 (p0:Int)(p1:Int)(p2:Int)(p3:Int):Prop×Int:=
 let v12:=(f137 p1 (65536:Int))
 let v14:=(f137 p3 (65536:Int))
 let v34:=(IntKind.wrap .i64 ((IntKind.wrap .i64 (p0*(IntKind.wrap .i64 (p1-(IntKind.wrap .i64 (v12*65536))))))+(IntKind.wrap .i64 (p2*(IntKind.wrap .i64 (p3-(IntKind.wrap .i64 (v14*65536))))))))
 (((tC5 p1 (65536:Int))∧((tC5 p3 (65536:Int))∧(wY0 v34 (65536:Int)))),(IntKind.wrap .i64 ((IntKind.wrap .i64 ((IntKind.wrap .i64 (p0*v12))+(IntKind.wrap .i64 (p2*v14))))+(f124 v34 (65536:Int)))))
def uN8 p0 p1 p2 p3:=(qX7 p0 p1 p2 p3).1
def f125 p0 p1 p2 p3:=(qX7 p0 p1 p2 p3).2
instance (p0 p1 p2 p3):Decidable (uN8 p0 p1 p2 p3):=by unfold uN8 qX7;dsimp only;infer_instance
theorem rV1:SK 125 (sp4 vI vI vI vI vI uN8 f125):=fb Tryz.func125 37 [kb vW7,kb rT9] [] [] true
def qX8 (p0:D40):Prop×(D40×Int×Unit):=
 let v8:=(f103 p0)
 let v10:=(v8 !=0)
 let v23:=(IntKind.wrap .i64 ((IntKind.wrap .i64 (p0.1*p0.2.2.2.1))-(IntKind.wrap .i64 (p0.2.1*p0.2.2.1))))
 let v25:=(v23==0)
 let v29:=(IntKind.wrap .i64 (p0.2.2.2.1*4294967296))
 let v31:=(f124 v29 v23)
 let v35:=(IntKind.wrap .i64 ((IntKind.wrap .i64 (Int.sub 0 p0.2.1))*4294967296))
 let v37:=(f124 v35 v23)
 let v41:=(IntKind.wrap .i64 ((IntKind.wrap .i64 (Int.sub 0 p0.2.2.1))*4294967296))
 let v43:=(f124 v41 v23)
 let v46:=(IntKind.wrap .i64 (p0.1*4294967296))
 let v48:=(f124 v46 v23)
 let s_2:=(v31,v37,v43,v48,(0:Int),(0:Int),())
 let v52:=((f103 s_2)!=0)
 let v56:=(IntKind.wrap .i64 (Int.sub 0 v31))
 let v61:=(IntKind.wrap .i64 (Int.sub 0 v43))
 let v68:=(IntKind.wrap .i64 (Int.sub 0 v37))
 let v73:=(IntKind.wrap .i64 (Int.sub 0 v48))
 let s_5:=(v31,v37,v43,v48,(f125 v56 p0.2.2.2.2.1 v61 p0.2.2.2.2.2.1),(f125 v68 p0.2.2.2.2.1 v73 p0.2.2.2.2.2.1),())
 let v80:=((f103 s_5)!=0)
 let m2_2:=(bif v25 then ((0:Int),(0:Int),(0:Int),(0:Int),(0:Int),(0:Int),()) else (bif v52 then ((0:Int),(0:Int),(0:Int),(0:Int),(0:Int),(0:Int),()) else (bif v80 then ((0:Int),(0:Int),(0:Int),(0:Int),(0:Int),(0:Int),()) else s_5)))
 (((uD0 p0)∧((!v10)=true→((!v25)=true→((wY0 v29 v23)∧((wY0 v35 v23)∧((wY0 v41 v23)∧((wY0 v46 v23)∧((uD0 s_2)∧((!v52)=true→((uN8 v56 p0.2.2.2.2.1 v61 p0.2.2.2.2.2.1)∧((uN8 v68 p0.2.2.2.2.1 v73 p0.2.2.2.2.2.1)∧(uD0 s_5)))))))))))),((bif v10 then ((0:Int),(0:Int),(0:Int),(0:Int),(0:Int),(0:Int),()) else m2_2),(bif v10 then v8 else (bif v25 then (17:Int) else (bif v52 then (17:Int) else (bif v80 then (17:Int) else (0:Int))))),()))
def tY6 p0:=(qX8 p0).1
def f104 p0:=(qX8 p0).2
instance (p0):Decidable (tY6 p0):=by unfold tY6 qX8;dsimp only;infer_instance
theorem qX9:SK 104 (sp1 (.val T40) (.tup (.cons (.val T40) (.cons vI .nl))) tY6 f104):=fb Tryz.func104 83 [kb sQ3,kb vW7,kb rV1] [] [] true
def qY (p0:Int):Prop×Bool:=
 let v5:=(p0==2)
 let v6:=(p0==9)
 let v7:=(p0==10)
 (True,(bif (bif v5 then v5 else (bif v6 then v6 else (bif v7 then v7 else (p0==11)))) then true else false))
def tM7 p0:=(qY p0).1
def f105 p0:=(qY p0).2
instance (p0):Decidable (tM7 p0):=by unfold tM7 qY;dsimp only;infer_instance
theorem rV2:SK 105 (sp1 vI vB tM7 f105):=fb Tryz.func105 9
def qY0 (p0:Int):Prop×Bool:=
 (True,(bif (decide (p0≥0)) then (decide (p0≤4)) else false))
def tY7 p0:=(qY0 p0).1
def f106 p0:=(qY0 p0).2
instance (p0):Decidable (tY7 p0):=by unfold tY7 qY0;dsimp only;infer_instance
theorem qY1:SK 106 (sp1 vI vB tY7 f106):=fb Tryz.func106 9
def f83t (p0:Int)(p1:Int):Prop×Bool:=
 (True,(bif (bif (bif (bif (decide (p0≥0)) then (decide (p0≤256)) else false) then (decide (p1≥0)) else false) then (decide (p1≤256)) else false) then (Ty.eqb .bool (p0==0) (p1==0)) else false))
def sX1 p0 p1:=(f83t p0 p1).1
def f83 p0 p1:=(f83t p0 p1).2
instance (p0 p1):Decidable (sX1 p0 p1):=by unfold sX1 f83t;dsimp only;infer_instance
theorem pM9:SK 83 (sp2 vI vI vB sX1 f83):=fb Tryz.func83 26
def qY2 (p0:Int):Prop×Int:=
 ((tC6 p0 (0:Int) (65535:Int)),(f134 p0 (0:Int) (65535:Int)))
def uN9 p0:=(qY2 p0).1
def f117 p0:=(qY2 p0).2
instance (p0):Decidable (uN9 p0):=by unfold uN9 qY2;dsimp only;infer_instance
theorem qY3:SK 117 (sp1 vI vI uN9 f117):=fb Tryz.func117 5 [kb rD2]
def qY4 (p0:D45):Prop×D45:=
 (((uN9 p0.1)∧((uN9 p0.2.1)∧((uN9 p0.2.2.1)∧(uN9 p0.2.2.2.1)))),((f117 p0.1),(f117 p0.2.1),(f117 p0.2.2.1),(f117 p0.2.2.2.1),()))
def tY8 p0:=(qY4 p0).1
def f100 p0:=(qY4 p0).2
instance (p0):Decidable (tY8 p0):=by unfold tY8 qY4;dsimp only;infer_instance
theorem qY5:SK 100 (sp1 (.val T45) (.val T45) tY8 f100):=fb Tryz.func100 16 [kb qY3]
def f84t (p0:D45):Prop×Bool:=
 ((tY8 p0),(Ty.eqb T45 p0 (f100 p0)))
def tF p0:=(f84t p0).1
def f84 p0:=(f84t p0).2
instance (p0):Decidable (tF p0):=by unfold tF f84t;dsimp only;infer_instance
theorem rI4:SK 84 (sp1 (.val T45) vB tF f84):=fb Tryz.func84 7 [kb qY5]
abbrev uI7:Type:=((List D45)×Int×Unit)
abbrev vT2:Type:=(Int×Unit)
def tM8 (y:uI7)(x:vT2):Prop×Bool×vT2×Bool×Bool:=
 let a23:=y.1
 let a25:=x.1
 let v26:=(decide (a25<y.2.1))
 let v27:=(nth a23 a25 Z45)
 let v31:=(!(f84 v27))
 ((v26=true→(InB a25 (len a23)∧((tF v27)∧((!v31)=true→InR (a25+1))))),(v26&&(!v31)),((a25+1),()),(v26&&v31),(!v26))
def uE3 y x:=(tM8 y x).1
def tF0 y x:=(tM8 y x).2.1
def vX0 y x:=(tM8 y x).2.2.1
def sX2 y x:=(tM8 y x).2.2.2.1
def rV3 y x:=(tM8 y x).2.2.2.2
instance (y x):Decidable (uE3 y x):=by unfold uE3 tM8;dsimp only;infer_instance
def tY9 (y:uI7)(x:vT2):Int:=
 (2:Int)
def rV4:=li [(23,(.val (.sl T45))),(24,vI)] [(25,vI)] tF0 vX0 uE3 (fun y x=>[ex 1 (some (sX2 y x)) [(2,vI)] ((tY9 y x),()),ex 2 (some (rV3 y x)) [] ()]) [[(2,vI)],[]]
def f57t (p0:D43):Prop×Int:=
 let v10:=(!(f83 p0.1 p0.2.1))
 let v21:=(bif v10 then true else ((len p0.2.2.1)!=(p0.1*p0.2.1)))
 let y4:=(p0.2.2.1,(len p0.2.2.1),())
 let x4:=((0:Int),())
 let e4:=(zC4 (tF0 y4) (vX0 y4) x4)
 (((sX1 p0.1 p0.2.1)∧(((!v10)=true→InR (p0.1*p0.2.1))∧((!v21)=true→(xQ5 (tF0 y4) (vX0 y4) (uE3 y4) x4)))),(bif v21 then (15:Int) else (bif (sX2 y4 e4) then (tY9 y4 e4) else (0:Int))))
def tQ2 p0:=(f57t p0).1
def f57 p0:=(f57t p0).2
instance (p0):Decidable (tQ2 p0):=by unfold tQ2 f57t;dsimp only;infer_instance
theorem rV5:SK 57 (sp1 (.val T43) vI tQ2 f57):=fb Tryz.func57 33 [kb pM9,kb rI4] [(4,rV4)]
def qY6 (p0:D45):Prop×Int:=
 ((tF p0),(bif (!(f84 p0)) then (2:Int) else (0:Int)))
def uO p0:=(qY6 p0).1
def f126 p0:=(qY6 p0).2
instance (p0):Decidable (uO p0):=by unfold uO qY6;dsimp only;infer_instance
def rV6:=sp1 (.val T45) vI uO f126
theorem rD3:SK 126 (sp1 (.val T45) vI uO f126):=fb Tryz.func126 6 [kb rI4]
def qH6 (p0:Int)(p1:Int):Prop×Bool:=
 (True,(bif (p0==1) then (p1==4) else (p1==3)))
def tZ p0 p1:=(qH6 p0 p1).1
def f152 p0 p1:=(qH6 p0 p1).2
instance (p0 p1):Decidable (tZ p0 p1):=by unfold tZ qH6;dsimp only;infer_instance
theorem qY7:SK 152 (sp2 vI vI vB tZ f152):=fb Tryz.func152 11
abbrev vX1:Type:=(Int×(List Int)×(List Int)×Int×Unit)
abbrev vL2:Type:=(Int×Unit)
def uV8 (y:vX1)(x:vL2):Prop×Bool×vL2×Bool×Bool:=
 let a36:=y.2.2.1
 let a38:=x.1
 let v39:=(decide (a38<y.2.2.2.1))
 let v40:=(nth a36 a38 (0:Int))
 let v47:=(bif (decide (v40<(-1048576))) then true else (decide (v40>1048576)))
 ((v39=true→(InB a38 (len a36)∧((!v47)=true→InR (a38+1)))),(v39&&(!v47)),((a38+1),()),(v39&&v47),(!v39))
def uV9 y x:=(uV8 y x).1
def tZ0 y x:=(uV8 y x).2.1
def uO0 y x:=(uV8 y x).2.2.1
def sK9 y x:=(uV8 y x).2.2.2.1
def sL y x:=(uV8 y x).2.2.2.2
instance (y x):Decidable (uV9 y x):=by unfold uV9 uV8;dsimp only;infer_instance
def tQ3 (y:vX1)(x:vL2):Int:=
 (2:Int)
def sL0:List (Nat×Sh):=[(0,vI),(1,(.val (.sl (.int .i64))))]
def rN1:=li [(0,vI),(1,(.val (.sl (.int .i64)))),(36,(.val (.sl (.int .i64)))),(37,vI)] [(38,vI)] tZ0 uO0 uV9 (fun y x=>[ex 1 (some (sK9 y x)) [(8,vI)] ((tQ3 y x),()),ex 2 (some (sL y x)) sL0 (y.1,y.2.1,())]) [[(8,vI)],sL0]
def qY8 (p0:Int)(p1:List Int)(p2:Int)(p3:Int):Prop×Int:=
 let v24:=(bif (bif (bif (decide (p0<1)) then true else (decide (p0>4))) then true else (decide (p2<0))) then true else (decide (p2>2)))
 let v27:=(len p1)
 let v33:=(bif (!(f152 p0 v27)) then true else (p3==0))
 let v35:=(decide (p3>16))
 let y8:=(p0,p1,p1,(len p1),())
 let x8:=((0:Int),())
 let e8:=(zC4 (tZ0 y8) (uO0 y8) x8)
 let v54:=(bif (p0==2) then true else (p0==4))
 let m8_3:=(bif v33 then (1:Int) else (bif v35 then (3:Int) else (bif (sK9 y8 e8) then (tQ3 y8 e8) else (bif (bif v54 then (decide ((nth p1 (2:Int) (0:Int))<0)) else false) then (2:Int) else (0:Int)))))
 (((!v24)=true→((tZ p0 v27)∧((!v33)=true→((!v35)=true→((xQ5 (tZ0 y8) (uO0 y8) (uV9 y8) x8)∧((sL y8 e8)=true→(v54=true→InB (2:Int) (len p1)))))))),(bif v24 then (8:Int) else m8_3))
def tZ1 p0 p1 p2 p3:=(qY8 p0 p1 p2 p3).1
def f138 p0 p1 p2 p3:=(qY8 p0 p1 p2 p3).2
instance (p0 p1 p2 p3):Decidable (tZ1 p0 p1 p2 p3):=by unfold tZ1 qY8;dsimp only;infer_instance
theorem qY9:SK 138 (sp4 vI (.val (.sl (.int .i64))) vI vI vI tZ1 f138):=fb Tryz.func138 61 [kb qY7] [(8,rN1)]
abbrev vX2:Type:=((List D127)×(List D127)×Int×Unit)
abbrev vL3:Type:=(Int×Unit)
def uW (y:vX2)(x:vL3):Prop×Bool×vL3×Bool×Bool:=
 let a0:=y.1
 let a5:=y.2.1
 let a7:=x.1
 let v8:=(decide (a7<y.2.2.1))
 let v10:=(nth a5 a7 Z127)
 let v19:=(bif (decide (v10.1<0)) then true else (decide (v10.1>65535)))
 let v25:=(bif v19 then true else (!(f84 v10.2.1)))
 let v27:=(decide (a7>0))
 let v33:=(a7-1)
 let v38:=(bif v27 then (decide (v10.1≤(nth a0 v33 Z127).1)) else false)
 let c_2:=((!v25)&&(!v38))
 ((v8=true→(InB a7 (len a5)∧(((!v19)=true→(tF v10.2.1))∧(((!v25)=true→((v27=true→InR (a7-1))∧(v27=true→InB v33 (len a0))))∧(c_2=true→InR (a7+1)))))),(v8&&c_2),((a7+1),()),(v8&&(v25||((!v25)&&v38))),(!v8))
def uW0 y x:=(uW y x).1
def tZ2 y x:=(uW y x).2.1
def uO1 y x:=(uW y x).2.2.1
def sL1 y x:=(uW y x).2.2.2.1
def rN2 y x:=(uW y x).2.2.2.2
instance (y x):Decidable (uW0 y x):=by unfold uW0 uW;dsimp only;infer_instance
def tQ4 (y:vX2)(x:vL3):Int:=
 let v10:=(nth y.2.1 x.1 Z127)
 (bif (bif (bif (decide (v10.1<0)) then true else (decide (v10.1>65535))) then true else (!(f84 v10.2.1))) then (2:Int) else (24:Int))
def rN3:=li [(0,(.val (.sl T127))),(5,(.val (.sl T127))),(6,vI)] [(7,vI)] tZ2 uO1 uW0 (fun y x=>[ex 1 (some (sL1 y x)) [(2,vI)] ((tQ4 y x),()),ex 2 (some (rN2 y x)) [] ()]) [[(2,vI)],[]]
def qZ (p0:List D127):Prop×Int:=
 let y2:=(p0,p0,(len p0),())
 let x2:=((0:Int),())
 let e2:=(zC4 (tZ2 y2) (uO1 y2) x2)
 ((xQ5 (tZ2 y2) (uO1 y2) (uW0 y2) x2),(bif (sL1 y2 e2) then (tQ4 y2 e2) else (0:Int)))
def tZ3 p0:=(qZ p0).1
def f139 p0:=(qZ p0).2
instance (p0):Decidable (tZ3 p0):=by unfold tZ3 qZ;dsimp only;infer_instance
theorem qZ0:SK 139 (sp1 (.val (.sl T127)) vI tZ3 f139):=fb Tryz.func139 40 [kb rI4] [(2,rN3)]
def qZ1 (p0:Int)(p1:List Int)(p2:Int)(p3:List D127):Prop×Int:=
 let v14:=(len p3)
 let v15:=(f138 p0 p1 p2 v14)
 let v17:=(v15 !=0)
 (((tZ1 p0 p1 p2 v14)∧((!v17)=true→(tZ3 p3))),(bif v17 then v15 else (f139 p3)))
def tZ4 p0 p1 p2 p3:=(qZ1 p0 p1 p2 p3).1
def f127 p0 p1 p2 p3:=(qZ1 p0 p1 p2 p3).2
instance (p0 p1 p2 p3):Decidable (tZ4 p0 p1 p2 p3):=by unfold tZ4 qZ1;dsimp only;infer_instance
theorem qZ2:SK 127 (sp4 vI (.val (.sl (.int .i64))) vI (.val (.sl T127)) vI tZ4 f127):=fb Tryz.func127 21 [kb qY9,kb qZ0]
def qH7 (p0:Int):Prop×Int:=
 let v5:=(p0==3)
 let v7:=(p0==4)
 (True,(bif (bif v5 then true else (bif v7 then true else (p0==5))) then (bif v5 then (2:Int) else (bif v7 then (3:Int) else (0:Int))) else (1:Int)))
def tM9 p0:=(qH7 p0).1
def f154 p0:=(qH7 p0).2
instance (p0):Decidable (tM9 p0):=by unfold tM9 qH7;dsimp only;infer_instance
theorem rV7:SK 154 (sp1 vI vI tM9 f154):=fb Tryz.func154 10
def qZ3 (p0:D99):Prop×Bool:=
 (True,(bif (bif (bif (decide (p0.1<(-16777216))) then true else (decide (p0.1>16777216))) then true else (decide (p0.2.1<(-16777216)))) then true else (decide (p0.2.1>16777216))))
def uO2 p0:=(qZ3 p0).1
def f156 p0:=(qZ3 p0).2
instance (p0):Decidable (uO2 p0):=by unfold uO2 qZ3;dsimp only;infer_instance
theorem rD4:SK 156 (sp1 (.val T99) vB uO2 f156):=fb Tryz.func156 21
abbrev vQ6:Type:=((List D130)×Int×D130×(List D130)×Int×Int×(List D99)×Unit)
abbrev vL4:Type:=(Int×Unit)
def uC (y:vQ6)(x:vL4):Prop×Bool×vL4×Bool×Bool:=
 let a4:=y.2.2.1
 let a27:=x.1
 let v28:=(decide (a27<3))
 let v30:=(nth y.2.2.2.2.2.2.1 a27 Z99)
 let v32:=(f156 v30)
 let v44:=(bif v32 then true else (bif (decide (a27≥(f154 a4.1))) then (!(Ty.eqb T99 v30 ((0:Int),(0:Int),()))) else false))
 ((v28=true→(InB a27 3∧((uO2 v30)∧(((!v32)=true→(tM9 a4.1))∧((!v44)=true→InR (a27+1)))))),(v28&&(!v44)),((a27+1),()),(v28&&v44),(!v28))
def vV0 y x:=(uC y x).1
def vJ0 y x:=(uC y x).2.1
def vB8 y x:=(uC y x).2.2.1
def vV1 y x:=(uC y x).2.2.2.1
def tN y x:=(uC y x).2.2.2.2
instance (y x):Decidable (vV0 y x):=by unfold vV0 uC;dsimp only;infer_instance
def uO3 (y:vQ6)(x:vL4):Int:=
 (2:Int)
def sL2:List (Nat×Sh):=[(0,(.val (.sl T130))),(3,vI),(4,(.box T130 (.val T130))),(10,(.val (.sl T130))),(11,vI),(12,vI)]
def rN4:=li [(0,(.val (.sl T130))),(3,vI),(4,(.box T130 (.val T130))),(10,(.val (.sl T130))),(11,vI),(12,vI),(26,(.val (.arr 3 T99)))] [(27,vI)] vJ0 vB8 vV0 (fun y x=>[ex 1 (some (vV1 y x)) [(2,vI)] ((uO3 y x),()),ex 4 (some (tN y x)) sL2 (y.1,y.2.1,y.2.2.1,y.2.2.2.1,y.2.2.2.2.1,y.2.2.2.2.2.1,())]) [[(2,vI)],sL2]
abbrev vX3:Type:=((List D130)×(List D130)×Int×Unit)
abbrev vJ1:Type:=(Int×Unit)
def vT3 (y:vX3)(x:vJ1):Prop×Bool×vJ1×Bool×Bool:=
 let a0:=y.1
 let a10:=y.2.1
 let a11:=y.2.2.1
 let a12:=x.1
 let v13:=(decide (a12<a11))
 let v15:=(nth a10 a12 Z130)
 let v24:=(bif (decide (v15.1<1)) then true else (decide (v15.1>5)))
 let y9:=(a0,a12,v15,a10,a11,a12,v15.2.1,())
 let x9:=((0:Int),())
 let e9:=(zC4 (vJ0 y9) (vB8 y9) x9)
 let q9_4:=(tN y9 e9)
 let v48:=(v15.1 !=1)
 let v51:=(a12==0)
 let v55:=(a12-1)
 let v61:=(bif v48 then (bif v51 then true else ((nth a0 v55 Z130).1==5)) else false)
 let c_5:=((!v24)&&(q9_4&&(!v61)))
 ((v13=true→(InB a12 (len a10)∧(((!v24)=true→((xQ5 (vJ0 y9) (vB8 y9) (vV0 y9) x9)∧(q9_4=true→(((v48&&(!v51))=true→InR (a12-1))∧((v48&&(!v51))=true→InB v55 (len a0))))))∧(c_5=true→InR (a12+1))))),(v13&&c_5),((a12+1),()),(v13&&(v24||((!v24)&&((vV1 y9 e9)||(q9_4&&v61))))),(!v13))
def uE4 y x:=(vT3 y x).1
def vE0 y x:=(vT3 y x).2.1
def vB9 y x:=(vT3 y x).2.2.1
def uE5 y x:=(vT3 y x).2.2.2.1
def rN5 y x:=(vT3 y x).2.2.2.2
instance (y x):Decidable (uE4 y x):=by unfold uE4 vT3;dsimp only;infer_instance
def uO4 (y:vX3)(x:vJ1):Int:=
 let a10:=y.2.1
 let a12:=x.1
 let v15:=(nth a10 a12 Z130)
 let y9:=(y.1,a12,v15,a10,y.2.2.1,a12,v15.2.1,())
 let e9:=(zC4 (vJ0 y9) (vB8 y9) ((0:Int),()))
 (bif (bif (decide (v15.1<1)) then true else (decide (v15.1>5))) then (8:Int) else (bif (vV1 y9 e9) then (uO3 y9 e9) else (24:Int)))
def rN6:=li [(0,(.val (.sl T130))),(10,(.val (.sl T130))),(11,vI)] [(12,vI)] vE0 vB9 uE4 (fun y x=>[ex 1 (some (uE5 y x)) [(2,vI)] ((uO4 y x),()),ex 2 (some (rN5 y x)) [] ()]) [[(2,vI)],[]]
def qH8 (p0:List D130):Prop×Int:=
 let v9:=(decide ((len p0)>128))
 let y4:=(p0,p0,(len p0),())
 let x4:=((0:Int),())
 let e4:=(zC4 (vE0 y4) (vB9 y4) x4)
 (((!v9)=true→(xQ5 (vE0 y4) (vB9 y4) (uE4 y4) x4)),(bif v9 then (3:Int) else (bif (uE5 y4 e4) then (uO4 y4 e4) else (0:Int))))
def uO5 p0:=(qH8 p0).1
def f153 p0:=(qH8 p0).2
instance (p0):Decidable (uO5 p0):=by unfold uO5 qH8;dsimp only;infer_instance
theorem sQ4:SK 153 (sp1 (.val (.sl T130)) vI uO5 f153):=fb Tryz.func153 63 [kb rV7,kb rD4] [(4,rN6),(9,rN4)]
def qZ4 (p0:D40)(p1:D99):Prop×D99:=
 let v8:=(f123 p0)
 let v11:=(f136 p1.1)
 let v14:=(f136 p1.2.1)
 let v24:=(IntKind.wrap .i64 ((f125 v8.1 v11 v8.2.2.1 v14)+v8.2.2.2.2.1))
 let v35:=(IntKind.wrap .i64 ((f125 v8.2.1 v11 v8.2.2.2.1 v14)+v8.2.2.2.2.2.1))
 (((tM6 p0)∧((uD p1.1)∧((uD p1.2.1)∧((uN8 v8.1 v11 v8.2.2.1 v14)∧((uD v24)∧((uN8 v8.2.1 v11 v8.2.2.2.1 v14)∧(uD v35))))))),((f136 v24),(f136 v35),()))
def tZ5 p0 p1:=(qZ4 p0 p1).1
def f168 p0 p1:=(qZ4 p0 p1).2
instance (p0 p1):Decidable (tZ5 p0 p1):=by unfold tZ5 qZ4;dsimp only;infer_instance
theorem qZ5:SK 168 (sp2 (.val T40) (.val T99) (.val T99) tZ5 f168):=fb Tryz.func168 38 [kb rV0,kb rV1,kb rV] [] [] true
def qZ6 (p0:D40)(p1:D99):Prop×D99:=
 let s:=((IntKind.wrap .i64 (4096*p1.1)),(IntKind.wrap .i64 (4096*p1.2.1)),())
 let v14:=(f168 p0 s)
 (((tZ5 p0 s)∧((wY0 v14.1 (4096:Int))∧(wY0 v14.2.1 (4096:Int)))),((f124 v14.1 (4096:Int)),(f124 v14.2.1 (4096:Int)),()))
def tN0 p0 p1:=(qZ6 p0 p1).1
def f155 p0 p1:=(qZ6 p0 p1).2
instance (p0 p1):Decidable (tN0 p0 p1):=by unfold tN0 qZ6;dsimp only;infer_instance
theorem rV8:SK 155 (sp2 (.val T40) (.val T99) (.val T99) tN0 f155):=fb Tryz.func155 22 [kb vW7,kb qZ5] [] [] true
abbrev vD4:Type:=(D40×Int×D130×(List D130)×Int×Int×Int×Unit)
abbrev vB4:Type:=((List D130)×Int×Unit)
def uE6 (y:vD4)(x:vB4):Prop×Bool×vB4×Bool×Bool:=
 let a3:=y.1
 let a9:=y.2.1
 let a8:=x.1
 let a42:=x.2.1
 let v43:=(decide (a42<y.2.2.2.2.2.2.1))
 let v49:=(nth y.2.2.1.2.1 a42 Z99)
 let v50:=(f155 a3 v49)
 let v52:=(f156 v50)
 ((v43=true→(InB a42 3∧((tN0 a3 v49)∧((uO2 v50)∧(((!v52)=true→(InB a9 (len a8)∧(InB a42 3∧a9<len a8)))∧((!v52)=true→InR (a42+1))))))),(v43&&(!v52)),((List.set a8 (Int.toNat a9) ((nth a8 a9 Z130).1,(List.set (nth a8 a9 Z130).2.1 (Int.toNat a42) v50),())),(a42+1),()),(v43&&v52),(!v43))
def vN5 y x:=(uE6 y x).1
def vH3 y x:=(uE6 y x).2.1
def wY8 y x:=(uE6 y x).2.2.1
def tZ6 y x:=(uE6 y x).2.2.2.1
def tZ7 y x:=(uE6 y x).2.2.2.2
instance (y x):Decidable (vN5 y x):=by unfold vN5 uE6;dsimp only;infer_instance
def uI8 (y:vD4)(x:vB4):(List D130):=
 ([]:List D130)
def tF1 (y:vD4)(x:vB4):Int:=
 (2:Int)
def tZ8:List (Nat×Sh):=[(4,(.own T130 0 false)),(5,vI)]
def tF2 (y:vD4)(x:vB4):(List D130):=
 x.1
def tZ9:List (Nat×Sh):=[(3,(.box T40 (.val T40))),(8,(.own T130 1008 true)),(26,(.val (.sl T130))),(27,vI),(28,vI)]
def rD5:=li [(3,(.box T40 (.val T40))),(9,vI),(10,(.box T130 (.val T130))),(26,(.val (.sl T130))),(27,vI),(28,vI),(41,vI)] [(8,(.own T130 1008 true)),(42,vI)] vH3 wY8 vN5 (fun y x=>[ex 1 (some (tZ6 y x)) tZ8 ((uI8 y x),(tF1 y x),()),ex 4 (some (tZ7 y x)) tZ9 (y.1,(tF2 y x),y.2.2.2.1,y.2.2.2.2.1,y.2.2.2.2.2.1,())]) [tZ8,tZ9]
abbrev vL5:Type:=(D40×(List D130)×Int×Unit)
abbrev vD1:Type:=((List D130)×Int×Unit)
def uW1 (y:vL5)(x:vD1):Prop×Bool×vD1×Bool×Bool:=
 let a26:=y.2.1
 let a27:=y.2.2.1
 let a8:=x.1
 let a28:=x.2.1
 let v29:=(decide (a28<a27))
 let v31:=(nth a26 a28 Z130)
 let y13:=(y.1,a28,v31,a26,a27,a28,(f154 v31.1),())
 let x13:=((List.set a8 (Int.toNat a28) (v31.1,(nth a8 a28 Z130).2.1,())),(0:Int),())
 let e13:=(zC4 (vH3 y13) (wY8 y13) x13)
 let q13_4:=(tZ7 y13 e13)
 ((v29=true→(InB a28 (len a26)∧(InB a28 (len a8)∧(a28<len a8∧((tM9 v31.1)∧((xQ5 (vH3 y13) (wY8 y13) (vN5 y13) x13)∧(q13_4=true→InR (a28+1)))))))),(v29&&q13_4),((tF2 y13 e13),(a28+1),()),(v29&&(tZ6 y13 e13)),(!v29))
def vV2 y x:=(uW1 y x).1
def uE7 y x:=(uW1 y x).2.1
def vE1 y x:=(uW1 y x).2.2.1
def tN1 y x:=(uW1 y x).2.2.2.1
def rN7 y x:=(uW1 y x).2.2.2.2
instance (y x):Decidable (vV2 y x):=by unfold vV2 uW1;dsimp only;infer_instance
def uO6 (y:vL5)(x:vD1):(List D130):=
 let a26:=y.2.1
 let a8:=x.1
 let a28:=x.2.1
 let v31:=(nth a26 a28 Z130)
 let y13:=(y.1,a28,v31,a26,y.2.2.1,a28,(f154 v31.1),())
 (uI8 y13 (zC4 (vH3 y13) (wY8 y13) ((List.set a8 (Int.toNat a28) (v31.1,(nth a8 a28 Z130).2.1,())),(0:Int),())))
def tQ5 (y:vL5)(x:vD1):Int:=
 let a26:=y.2.1
 let a8:=x.1
 let a28:=x.2.1
 let v31:=(nth a26 a28 Z130)
 let y13:=(y.1,a28,v31,a26,y.2.2.1,a28,(f154 v31.1),())
 (tF1 y13 (zC4 (vH3 y13) (wY8 y13) ((List.set a8 (Int.toNat a28) (v31.1,(nth a8 a28 Z130).2.1,())),(0:Int),())))
def sL3:List (Nat×Sh):=[(4,(.own T130 0 false)),(5,vI)]
def uO7 (y:vL5)(x:vD1):(List D130):=
 x.1
def rN8:=li [(3,(.box T40 (.val T40))),(26,(.val (.sl T130))),(27,vI)] [(8,(.own T130 1008 true)),(28,vI)] uE7 vE1 vV2 (fun y x=>[ex 1 (some (tN1 y x)) sL3 ((uO6 y x),(tQ5 y x),()),ex 2 (some (rN7 y x)) [(8,(.own T130 1008 true))] ((uO7 y x),())]) [sL3,[(8,(.own T130 1008 true))]]
def qH9 (p0:List D130)(p1:D40):Prop×((List D130)×Int×Unit):=
 let v14:=(f153 p0)
 let v16:=(v14 !=0)
 let v19:=(f103 p1)
 let v21:=(v19 !=0)
 let v24:=(len p0)
 let y9:=(p1,p0,(len p0),())
 let x9:=((List.replicate (Int.toNat v24) Z130),(0:Int),())
 let e9:=(zC4 (uE7 y9) (vE1 y9) x9)
 let q9_1:=(tN1 y9 e9)
 (((uO5 p0)∧((!v16)=true→((uD0 p1)∧((!v21)=true→((0≤v24∧v24≤v24∧v24≤4294967296)∧(xQ5 (uE7 y9) (vE1 y9) (vV2 y9) x9)))))),((bif v16 then [] else (bif v21 then [] else (bif q9_1 then (uO6 y9 e9) else (uO7 y9 e9)))),(bif v16 then v14 else (bif v21 then v19 else (bif q9_1 then (tQ5 y9 e9) else (0:Int)))),()))
def sA p0 p1:=(qH9 p0 p1).1
def f140 p0 p1:=(qH9 p0 p1).2
instance (p0 p1):Decidable (sA p0 p1):=by unfold sA qH9;dsimp only;infer_instance
theorem qZ7:SK 140 (sp2 (.val (.sl T130)) (.val T40) (.tup (.cons (.val (.sl T130)) (.cons vI .nl))) sA f140):=fb Tryz.func140 63 [kb sQ3,kb sQ4,kb rV7,kb rV8,kb rD4] [(9,rN8),(13,rD5)] [(15,[(4,0,25,1008)]),(43,[(1,4,0,0),(4,0,1008,0)])] false [] [25]
def tF3 (p0:D99)(p1:List D99):Prop×(Unit)×((List D99)×Unit):=
 let v7:=(IntKind.wrap .i64 ((len p1)-1))
 let v10:=(!(Ty.eqb T99 p0 (nth p1 v7 Z99)))
 let v13:=([p0]:List D99)
 ((InB v7 (len p1)∧(v10=true→((List.length p1+List.length v13:Nat):Int)≤4294967296)),(),((bif v10 then (p1++v13) else p1),()))
def vN6 p0 p1:=(tF3 p0 p1).1
def qZ8 p0 p1:=(tF3 p0 p1).2.1
def vE2 p0 p1:=(tF3 p0 p1).2.2
instance (p0 p1):Decidable (vN6 p0 p1):=by unfold vN6 tF3;dsimp only;infer_instance
theorem rN9:SK 169 (fnSpec [(0,(.val T99)),(1,(.box (.sl T99) (.own T99 400100 false)))] (.tup .nl) [(1,(.box (.sl T99) (.own T99 400100 false)))] (fun x=>vN6 x.1 x.2.1) (fun x=>qZ8 x.1 x.2.1) (fun x=>vE2 x.1 x.2.1)):=fb Tryz.func169 15 [] [] [(5,[(4,0,14,400100)])] true [1]
abbrev vK6:Type:=(D130×D99×(Unit×Unit)×Unit)
abbrev vE3:Type:=((List D99)×Int×Unit)
def vX4 (y:vK6)(x:vE3):Prop×Bool×vE3:=
 let a3:=y.1
 let a5:=y.2.1
 let a2:=x.1
 let a7:=x.2.1
 let v37:=(decide (a7≤8))
 let v41:=(IntKind.wrap .i64 (8-a7))
 let v44:=(IntKind.wrap .i64 (v41*v41))
 let v48:=(IntKind.wrap .i64 ((IntKind.wrap .i64 (2*a7))*v41))
 let v51:=(IntKind.wrap .i64 (a7*a7))
 let v70:=(IntKind.wrap .i64 ((IntKind.wrap .i64 ((IntKind.wrap .i64 (v44*a5.1))+(IntKind.wrap .i64 (v48*((nth a3.2.1 (0:Int) Z99).1)))))+(IntKind.wrap .i64 (v51*((nth a3.2.1 (1:Int) Z99).1)))))
 let v89:=(IntKind.wrap .i64 ((IntKind.wrap .i64 ((IntKind.wrap .i64 (v44*a5.2.1))+(IntKind.wrap .i64 (v48*((nth a3.2.1 (0:Int) Z99).2.1)))))+(IntKind.wrap .i64 (v51*((nth a3.2.1 (1:Int) Z99).2.1)))))
 let s:=((f124 v70 (64:Int)),(f124 v89 (64:Int)),())
 ((v37=true→(InB (0:Int) 3∧(InB (1:Int) 3∧((wY0 v70 (64:Int))∧(InB (0:Int) 3∧(InB (1:Int) 3∧((wY0 v89 (64:Int))∧(vN6 s a2)))))))),v37,((vE2 s a2).1,(IntKind.wrap .i64 (a7+1)),()))
def vH4 y x:=(vX4 y x).1
def vE4 y x:=(vX4 y x).2.1
def wY5 y x:=(vX4 y x).2.2
instance (y x):Decidable (vH4 y x):=by unfold vH4 vX4;dsimp only;infer_instance
def vX5 (y:vK6)(x:vE3):(List D99):=
 x.1
def tF4:List (Nat×Sh):=[(2,(.box (.sl T99) (.own T99 400200 false)))]
def sQ5:=li [(3,(.box T130 (.val T130))),(5,(.box T99 (.val T99))),(6,(.fn 169 (.cons (.ref 2 (.sl T99)) .nl)))] [(2,(.box (.sl T99) (.own T99 400200 false))),(7,vI)] vE4 wY5 vH4 (fun y x=>[ex 3 none tF4 ((vX5 y x),())]) [tF4]
abbrev vH5:Type:=(D130×D99×(Unit×Unit)×Unit)
abbrev vC5:Type:=((List D99)×Int×Unit)
def vQ7 (y:vH5)(x:vC5):Prop×Bool×vC5:=
 let a3:=y.1
 let a5:=y.2.1
 let a2:=x.1
 let a12:=x.2.1
 let v96:=(decide (a12≤16))
 let v100:=(IntKind.wrap .i64 (16-a12))
 let v105:=(IntKind.wrap .i64 ((IntKind.wrap .i64 (v100*v100))*v100))
 let v111:=(IntKind.wrap .i64 ((IntKind.wrap .i64 ((IntKind.wrap .i64 (3*a12))*v100))*v100))
 let v117:=(IntKind.wrap .i64 ((IntKind.wrap .i64 ((IntKind.wrap .i64 (3*a12))*a12))*v100))
 let v122:=(IntKind.wrap .i64 ((IntKind.wrap .i64 (a12*a12))*a12))
 let v141:=(IntKind.wrap .i64 ((IntKind.wrap .i64 ((IntKind.wrap .i64 (v105*a5.1))+(IntKind.wrap .i64 (v111*((nth a3.2.1 (0:Int) Z99).1)))))+(IntKind.wrap .i64 (v117*((nth a3.2.1 (1:Int) Z99).1)))))
 let v148:=(IntKind.wrap .i64 (v141+(IntKind.wrap .i64 (v122*((nth a3.2.1 (2:Int) Z99).1)))))
 let v167:=(IntKind.wrap .i64 ((IntKind.wrap .i64 ((IntKind.wrap .i64 (v105*a5.2.1))+(IntKind.wrap .i64 (v111*((nth a3.2.1 (0:Int) Z99).2.1)))))+(IntKind.wrap .i64 (v117*((nth a3.2.1 (1:Int) Z99).2.1)))))
 let v174:=(IntKind.wrap .i64 (v167+(IntKind.wrap .i64 (v122*((nth a3.2.1 (2:Int) Z99).2.1)))))
 let s:=((f124 v148 (4096:Int)),(f124 v174 (4096:Int)),())
 ((v96=true→(InB (0:Int) 3∧(InB (1:Int) 3∧(InB (2:Int) 3∧((wY0 v148 (4096:Int))∧(InB (0:Int) 3∧(InB (1:Int) 3∧(InB (2:Int) 3∧((wY0 v174 (4096:Int))∧(vN6 s a2)))))))))),v96,((vE2 s a2).1,(IntKind.wrap .i64 (a12+1)),()))
def vD5 y x:=(vQ7 y x).1
def vC6 y x:=(vQ7 y x).2.1
def wX9 y x:=(vQ7 y x).2.2
instance (y x):Decidable (vD5 y x):=by unfold vD5 vQ7;dsimp only;infer_instance
def vS6 (y:vH5)(x:vC5):(List D99):=
 x.1
def tA9:List (Nat×Sh):=[(2,(.box (.sl T99) (.own T99 400200 false)))]
def sK1:=li [(3,(.box T130 (.val T130))),(5,(.box T99 (.val T99))),(6,(.fn 169 (.cons (.ref 2 (.sl T99)) .nl)))] [(2,(.box (.sl T99) (.own T99 400200 false))),(12,vI)] vC6 wX9 vD5 (fun y x=>[ex 5 none tA9 ((vS6 y x),())]) [tA9]
def tU7 (p0:List D99)(p1:D130):Prop×(List D99):=
 let v21:=(IntKind.wrap .i64 ((len p0)-1))
 let v22:=(nth p0 v21 Z99)
 let v28:=(p1.1==2)
 let v32:=(nth p1.2.1 (0:Int) Z99)
 let v35:=(p1.1==3)
 let y8:=(p1,v22,((),()),())
 let x8:=(p0,(1:Int),())
 let v94:=(p1.1==4)
 let y15:=(p1,v22,((),()),())
 let x15:=(p0,(1:Int),())
 let m2_2:=(bif v28 then (vE2 v32 p0).1 else (bif v35 then (vX5 y8 (zC4 (vE4 y8) (wY5 y8) x8)) else (bif v94 then (vS6 y15 (zC4 (vC6 y15) (wX9 y15) x15)) else p0)))
 ((InB v21 (len p0)∧((v28=true→(InB (0:Int) 3∧(vN6 v32 p0)))∧(v28=false→((v35=true→(xQ5 (vE4 y8) (wY5 y8) (vH4 y8) x8))∧(v35=false→(v94=true→(xQ5 (vC6 y15) (wX9 y15) (vD5 y15) x15))))))),m2_2)
def uE8 p0 p1:=(tU7 p0 p1).1
def tC7 p0 p1:=(tU7 p0 p1).2
instance (p0 p1):Decidable (uE8 p0 p1):=by unfold uE8 tU7;dsimp only;infer_instance
theorem rO:SK 157 (sp2 (.own T99 400000 false) (.val T130) (.own T99 0 false) uE8 tC7):=fx (fun c=>{ c with wants:=[(169,[])] }) Tryz.func157 179 [kb vW7,kb rN9] [(8,sQ5),(15,sK1)] [(1,[(4,0,400000,400200)]),(41,[(4,0,400200,0)])] true
abbrev uO8:Type:=((List D130)×(List D130)×Int×Unit)
abbrev vQ8:Type:=((List (List D99))×(List D99)×Int×Unit)
def uW2 (y:uO8)(x:vQ8):Prop×Bool×vQ8:=
 let a0:=y.1
 let a14:=y.2.1
 let a5:=x.1
 let a6:=x.2.1
 let a16:=x.2.2.1
 let v17:=(decide (a16<y.2.2.1))
 let v19:=(nth a14 a16 Z130)
 let v23:=(v19.1==1)
 let m6:=(bif v23 then ([(nth v19.2.1 (0:Int) Z99)]:List D99) else (tC7 a6 v19))
 let v33:=(len a0)
 let v35:=(a16==(v33-1))
 let v39:=(a16+1)
 let v44:=(bif v35 then true else ((nth a0 v39 Z130).1==1))
 let v47:=([m6]:List (List D99))
 ((v17=true→(InB a16 (len a14)∧((v23=true→InB (0:Int) 3)∧((v23=false→(uE8 a6 v19))∧(InR (v33-1)∧(((!v35)=true→InR (a16+1))∧(((!v35)=true→InB v39 (len a0))∧((v44=true→((List.length a5+List.length v47:Nat):Int)≤4294967296)∧InR (a16+1))))))))),v17,((bif v44 then (a5++v47) else a5),m6,(a16+1),()))
def vV3 y x:=(uW2 y x).1
def uE9 y x:=(uW2 y x).2.1
def vC y x:=(uW2 y x).2.2
instance (y x):Decidable (vV3 y x):=by unfold vV3 uW2;dsimp only;infer_instance
def uO9 (y:uO8)(x:vQ8):(List (List D99)):=
 x.1
def sL4:List (Nat×Sh):=[(5,(.own (.sl T99) 1005 false))]
def rO0:=li [(0,(.val (.sl T130))),(14,(.val (.sl T130))),(15,vI)] [(5,(.own (.sl T99) 1005 false)),(6,(.own T99 1006 false)),(16,vI)] uE9 vC vV3 (fun y x=>[ex 2 none sL4 ((uO9 y x),())]) [sL4]
def qI (p0:List D130):Prop×((List (List D99))×Int×Unit):=
 let v10:=(f153 p0)
 let v12:=(v10 !=0)
 let y7:=(p0,p0,(len p0),())
 let x7:=(([]:List (List D99)),([]:List D99),(0:Int),())
 (((uO5 p0)∧((!v12)=true→(xQ5 (uE9 y7) (vC y7) (vV3 y7) x7))),((bif v12 then [] else (uO9 y7 (zC4 (uE9 y7) (vC y7) x7))),(bif v12 then v10 else (0:Int)),()))
def uP p0:=(qI p0).1
def f141 p0:=(qI p0).2
instance (p0):Decidable (uP p0):=by unfold uP qI;dsimp only;infer_instance
theorem rV9:SK 141 (sp1 (.val (.sl T130)) (.tup (.cons (.own (.sl T99) 0 false) (.cons vI .nl))) uP f141):=fx (fun c=>{ c with wants:=[(157,[0])] }) Tryz.func141 51 [kb sQ4,kb rO] [(7,rO0)] [(21,[(4,0,27,1006)]),(23,[(4,0,30,1006)]),(27,[(4,0,48,1005)]),(31,[(4,0,1005,0)])]
abbrev uP0:Type:=((List D130)×(List D130)×Int×Unit)
abbrev vX6:Type:=((List Bool)×Int×Unit)
def tF5 (y:uP0)(x:vX6):Prop×Bool×vX6:=
 let a0:=y.1
 let a13:=y.2.1
 let a5:=x.1
 let a15:=x.2.1
 let v16:=(decide (a15<y.2.2.1))
 let v22:=(len a0)
 let v24:=(a15==(v22-1))
 let v28:=(a15+1)
 let v33:=(bif v24 then true else ((nth a0 v28 Z130).1==1))
 let v38:=([((nth a13 a15 Z130).1 !=5)]:List Bool)
 ((v16=true→(InB a15 (len a13)∧(InR (v22-1)∧(((!v24)=true→InR (a15+1))∧(((!v24)=true→InB v28 (len a0))∧((v33=true→((List.length a5+List.length v38:Nat):Int)≤4294967296)∧InR (a15+1))))))),v16,((bif v33 then (a5++v38) else a5),(a15+1),()))
def uW3 y x:=(tF5 y x).1
def sA0 y x:=(tF5 y x).2.1
def uC0 y x:=(tF5 y x).2.2
instance (y x):Decidable (uW3 y x):=by unfold uW3 tF5;dsimp only;infer_instance
def tQ6 (y:uP0)(x:vX6):(List Bool):=
 x.1
def rO1:=li [(0,(.val (.sl T130))),(13,(.val (.sl T130))),(14,vI)] [(5,(.own .bool 1005 false)),(15,vI)] sA0 uC0 uW3 (fun y x=>[ex 2 none [(5,(.own .bool 1005 false))] ((tQ6 y x),())]) [[(5,(.own .bool 1005 false))]]
def qZ9 (p0:List D130):Prop×((List Bool)×Int×Unit):=
 let v9:=(f153 p0)
 let v11:=(v9 !=0)
 let y6:=(p0,p0,(len p0),())
 let x6:=(([]:List Bool),(0:Int),())
 (((uO5 p0)∧((!v11)=true→(xQ5 (sA0 y6) (uC0 y6) (uW3 y6) x6))),((bif v11 then [] else (tQ6 y6 (zC4 (sA0 y6) (uC0 y6) x6))),(bif v11 then v9 else (0:Int)),()))
def sA1 p0:=(qZ9 p0).1
def f142 p0:=(qZ9 p0).2
instance (p0):Decidable (sA1 p0):=by unfold sA1 qZ9;dsimp only;infer_instance
theorem pA:SK 142 (sp1 (.val (.sl T130)) (.tup (.cons (.own .bool 0 false) (.cons vI .nl))) sA1 f142):=fb Tryz.func142 42 [kb sQ4] [(6,rO1)] [(19,[(4,0,39,1005)]),(23,[(4,0,1005,0)])]
abbrev vX7:Type:=((List (List D99))×(List (List D99))×Int×Unit)
abbrev vL6:Type:=(Int×Int×Unit)
def uW4 (y:vX7)(x:vL6):Prop×Bool×vL6×Bool×Bool:=
 let a18:=y.2.1
 let a5:=x.1
 let a20:=x.2.1
 let v21:=(decide (a20<y.2.2.1))
 let v26:=(len (nth a18 a20 ([]:List D99)))
 let v27:=(a5+v26)
 let v29:=(decide (v27>4096))
 ((v21=true→(InB a20 (len a18)∧(InR (a5+v26)∧((!v29)=true→InR (a20+1))))),(v21&&(!v29)),(v27,(a20+1),()),(v21&&v29),(!v21))
def uW5 y x:=(uW4 y x).1
def sA2 y x:=(uW4 y x).2.1
def uP1 y x:=(uW4 y x).2.2.1
def sL5 y x:=(uW4 y x).2.2.2.1
def sL6 y x:=(uW4 y x).2.2.2.2
instance (y x):Decidable (uW5 y x):=by unfold uW5 uW4;dsimp only;infer_instance
def tQ7 (y:vX7)(x:vL6):Int:=
 (3:Int)
def rO2:=li [(0,(.val (.sl (.sl T99)))),(18,(.val (.sl (.sl T99)))),(19,vI)] [(5,vI),(20,vI)] sA2 uP1 uW5 (fun y x=>[ex 1 (some (sL5 y x)) [(4,vI)] ((tQ7 y x),()),ex 2 (some (sL6 y x)) [(0,(.val (.sl (.sl T99))))] (y.1,())]) [[(4,vI)],[(0,(.val (.sl (.sl T99))))]]
abbrev vN7:Type:=((List (List D99))×Int×Int×(List D99)×Int×Unit)
abbrev vH6:Type:=(Int×Unit)
def uF (y:vN7)(x:vH6):Prop×Bool×vH6×Bool×Bool:=
 let a37:=y.2.2.2.1
 let a39:=x.1
 let v40:=(decide (a39<y.2.2.2.2.1))
 let v41:=(nth a37 a39 Z99)
 let v60:=(bif (bif (bif (decide (v41.1<(-16777216))) then true else (decide (v41.1>16777216))) then true else (decide (v41.2.1<(-16777216)))) then true else (decide (v41.2.1>16777216)))
 ((v40=true→(InB a39 (len a37)∧((!v60)=true→InR (a39+1)))),(v40&&(!v60)),((a39+1),()),(v40&&v60),(!v40))
def uI9 y x:=(uF y x).1
def uW6 y x:=(uF y x).2.1
def vT4 y x:=(uF y x).2.2.1
def sA3 y x:=(uF y x).2.2.2.1
def sA4 y x:=(uF y x).2.2.2.2
instance (y x):Decidable (uI9 y x):=by unfold uI9 uF;dsimp only;infer_instance
def tF6 (y:vN7)(x:vH6):Int:=
 (2:Int)
def sA5:List (Nat×Sh):=[(31,(.val (.sl (.sl T99)))),(32,vI),(33,vI)]
def rD6:=li [(31,(.val (.sl (.sl T99)))),(32,vI),(33,vI),(37,(.val (.sl T99))),(38,vI)] [(39,vI)] uW6 vT4 uI9 (fun y x=>[ex 1 (some (sA3 y x)) [(4,vI)] ((tF6 y x),()),ex 6 (some (sA4 y x)) sA5 (y.1,y.2.1,y.2.2.1,())]) [[(4,vI)],sA5]
abbrev vN8:Type:=((List (List D99))×Int×Unit)
abbrev vH7:Type:=(Int×Unit)
def uF0 (y:vN8)(x:vH7):Prop×Bool×vH7×Bool×Bool:=
 let a31:=y.1
 let a32:=y.2.1
 let a33:=x.1
 let v34:=(decide (a33<a32))
 let v35:=(nth a31 a33 ([]:List D99))
 let y15:=(a31,a32,a33,v35,(len v35),())
 let x15:=((0:Int),())
 let e15:=(zC4 (uW6 y15) (vT4 y15) x15)
 let q15_6:=(sA4 y15 e15)
 ((v34=true→(InB a33 (len a31)∧((xQ5 (uW6 y15) (vT4 y15) (uI9 y15) x15)∧(q15_6=true→InR (a33+1))))),(v34&&q15_6),((a33+1),()),(v34&&(sA3 y15 e15)),(!v34))
def uJ y x:=(uF0 y x).1
def tN2 y x:=(uF0 y x).2.1
def uJ0 y x:=(uF0 y x).2.2.1
def sA6 y x:=(uF0 y x).2.2.2.1
def rD7 y x:=(uF0 y x).2.2.2.2
instance (y x):Decidable (uJ y x):=by unfold uJ uF0;dsimp only;infer_instance
def tF7 (y:vN8)(x:vH7):Int:=
 let a31:=y.1
 let a33:=x.1
 let v35:=(nth a31 a33 ([]:List D99))
 let y15:=(a31,y.2.1,a33,v35,(len v35),())
 (tF6 y15 (zC4 (uW6 y15) (vT4 y15) ((0:Int),())))
def rD8:=li [(31,(.val (.sl (.sl T99)))),(32,vI)] [(33,vI)] tN2 uJ0 uJ (fun y x=>[ex 1 (some (sA6 y x)) [(4,vI)] ((tF7 y x),()),ex 4 (some (rD7 y x)) [] ()]) [[(4,vI)],[]]
def pA0 (p0:(List (List D99)))(p1:Int):Prop×Int:=
 let v17:=(bif (p1 !=0) then (p1 !=1) else false)
 let y5:=(p0,p0,(len p0),())
 let x5:=((0:Int),(0:Int),())
 let e5:=(zC4 (sA2 y5) (uP1 y5) x5)
 let y12:=(p0,(len p0),())
 let x12:=((0:Int),())
 let e12:=(zC4 (tN2 y12) (uJ0 y12) x12)
 (((!v17)=true→((xQ5 (sA2 y5) (uP1 y5) (uW5 y5) x5)∧((sL6 y5 e5)=true→(xQ5 (tN2 y12) (uJ0 y12) (uJ y12) x12)))),(bif v17 then (8:Int) else (bif (sL5 y5 e5) then (tQ7 y5 e5) else (bif (sA6 y12 e12) then (tF7 y12 e12) else (0:Int)))))
def uP2 p0 p1:=(pA0 p0 p1).1
def f144 p0 p1:=(pA0 p0 p1).2
instance (p0 p1):Decidable (uP2 p0 p1):=by unfold uP2 pA0;dsimp only;infer_instance
def rW:=sp2 (.val (.sl (.sl T99))) vI vI uP2 f144
theorem rD9:SK 144 (sp2 (.val (.sl (.sl T99))) vI vI uP2 f144):=fb Tryz.func144 63 [] [(5,rO2),(12,rD8),(15,rD6)]
def pA1 (p0:Int)(p1:Int)(p2:Int):Prop×Int:=
 let m6_2:=(bif (bif (decide (p0<1)) then true else (decide (p0>4096))) then (2:Int) else (bif (bif (decide (p1<0)) then true else (decide (p1>2))) then (8:Int) else (bif (bif (decide (p2<0)) then true else (decide (p2>2))) then (8:Int) else (0:Int))))
 (True,m6_2)
def sA7 p0 p1 p2:=(pA1 p0 p1 p2).1
def f158 p0 p1 p2:=(pA1 p0 p1 p2).2
instance (p0 p1 p2):Decidable (sA7 p0 p1 p2):=by unfold sA7 pA1;dsimp only;infer_instance
theorem pA2:SK 158 (sp3 vI vI vI vI sA7 f158):=fb Tryz.func158 25
abbrev uP3:Type:=(Bool×(List D99)×Int×Unit)
abbrev vX8:Type:=((List D99)×Int×Unit)
def tF8 (y:uP3)(x:vX8):Prop×Bool×vX8:=
 let a8:=y.2.1
 let a5:=x.1
 let a10:=x.2.1
 let v11:=(decide (a10<y.2.2.1))
 let v12:=(nth a8 a10 Z99)
 let v16:=((len a5)==0)
 let v21:=(len a5)
 let v22:=(v21-1)
 let v26:=(bif v16 then true else (!(Ty.eqb T99 v12 (nth a5 v22 Z99))))
 let v29:=([v12]:List D99)
 ((v11=true→(InB a10 (len a8)∧(((!v16)=true→InR (v21-1))∧(((!v16)=true→InB v22 (len a5))∧((v26=true→((List.length a5+List.length v29:Nat):Int)≤4294967296)∧InR (a10+1)))))),v11,((bif v26 then (a5++v29) else a5),(a10+1),()))
def vV4 y x:=(tF8 y x).1
def vX9 y x:=(tF8 y x).2.1
def vC0 y x:=(tF8 y x).2.2
instance (y x):Decidable (vV4 y x):=by unfold vV4 tF8;dsimp only;infer_instance
def tQ8 (y:uP3)(x:vX8):(List D99):=
 x.1
def sL7:List (Nat×Sh):=[(1,vB),(5,(.own T99 1005 false))]
def rO3:=li [(1,vB),(8,(.val (.sl T99))),(9,vI)] [(5,(.own T99 1005 false)),(10,vI)] vX9 vC0 vV4 (fun y x=>[ex 2 none sL7 (y.1,(tQ8 y x),())]) [sL7]
abbrev uP4:Type:=(Bool×Unit)
abbrev vL7:Type:=((List D99)×Unit)
def tU8 (y:uP4)(x:vL7):Prop×Bool×vL7:=
 let a5:=x.1
 let v38:=(bif (!y.1) then (decide ((len a5)>1)) else false)
 let v42:=(len a5)
 let v43:=(v42-1)
 let v50:=(bif v38 then (Ty.eqb T99 (nth a5 v43 Z99) (nth a5 (0:Int) Z99)) else false)
 let v53:=(len a5)
 let v54:=(v53-1)
 (((v38=true→InR (v42-1))∧((v38=true→InB v43 (len a5))∧((v38=true→InB (0:Int) (len a5))∧(v50=true→(InR (v53-1)∧(0≤v54∧v54≤len a5)))))),v50,((List.take (Int.toNat v54) a5),()))
def vV5 y x:=(tU8 y x).1
def uF1 y x:=(tU8 y x).2.1
def vE5 y x:=(tU8 y x).2.2
instance (y x):Decidable (vV5 y x):=by unfold vV5 tU8;dsimp only;infer_instance
def tQ9 (y:uP4)(x:vL7):(List D99):=
 x.1
def rO4:=li [(1,vB)] [(5,(.val (.sl T99)))] uF1 vE5 vV5 (fun y x=>[ex 4 none [(5,(.val (.sl T99)))] ((tQ9 y x),())]) [[(5,(.val (.sl T99)))]]
def pA3 (p0:List D99)(p1:Bool):Prop×(List D99):=
 let y3:=(p1,p0,(len p0),())
 let x3:=(([]:List D99),(0:Int),())
 let y8:=(p1,())
 let x8:=((tQ8 y3 (zC4 (vX9 y3) (vC0 y3) x3)),())
 (((xQ5 (vX9 y3) (vC0 y3) (vV4 y3) x3)∧(xQ5 (uF1 y8) (vE5 y8) (vV5 y8) x8)),(tQ9 y8 (zC4 (uF1 y8) (vE5 y8) x8)))
def sA8 p0 p1:=(pA3 p0 p1).1
def f170 p0 p1:=(pA3 p0 p1).2
instance (p0 p1):Decidable (sA8 p0 p1):=by unfold sA8 pA3;dsimp only;infer_instance
theorem pA4:SK 170 (sp2 (.val (.sl T99)) vB (.val (.sl T99)) sA8 f170):=fb Tryz.func170 57 [] [(3,rO3),(8,rO4)] [(13,[(4,0,30,1005)])]
def pA5 (p0:D99)(p1:D99):Prop×D99:=
 (True,((IntKind.wrap .i64 (p0.1-p1.1)),(IntKind.wrap .i64 (p0.2.1-p1.2.1)),()))
def vE6 p0 p1:=(pA5 p0 p1).1
def f175 p0 p1:=(pA5 p0 p1).2
instance (p0 p1):Decidable (vE6 p0 p1):=by unfold vE6 pA5;dsimp only;infer_instance
theorem sQ6:SK 175 (sp2 (.val T99) (.val T99) (.val T99) vE6 f175):=fb Tryz.func175 16 [] [] [] true
def pA6 (p0:Int)(p1:Int):Prop×(Int×Int×Unit):=
 let v15:=(wU8 .u64 p0 (4294967295:Int))
 let v17:=(wV1 p0 (32:Int) 64)
 let v19:=(wU8 .u64 p1 (4294967295:Int))
 let v21:=(wV1 p1 (32:Int) 64)
 let v30:=(IntKind.wrap .u64 ((IntKind.wrap .u64 (v17*v19))+(wV1 (IntKind.wrap .u64 (v15*v19)) (32:Int) 64)))
 let v47:=(IntKind.wrap .u64 ((IntKind.wrap .u64 ((IntKind.wrap .u64 (v17*v21))+(wV1 v30 (32:Int) 64)))+(wV1 (IntKind.wrap .u64 ((wU8 .u64 v30 (4294967295:Int))+(IntKind.wrap .u64 (v15*v21)))) (32:Int) 64)))
 (True,(v47,(IntKind.wrap .u64 (p0*p1)),()))
def uP5 p0 p1:=(pA6 p0 p1).1
def f200 p0 p1:=(pA6 p0 p1).2
instance (p0 p1):Decidable (uP5 p0 p1):=by unfold uP5 pA6;dsimp only;infer_instance
def rW0:=sp2 (.val (.int .u64)) (.val (.int .u64)) (.tup (.cons (.val (.int .u64)) (.cons (.val (.int .u64)) .nl))) uP5 f200
theorem pA7:SK 200 (sp2 (.val (.int .u64)) (.val (.int .u64)) (.tup (.cons (.val (.int .u64)) (.cons (.val (.int .u64)) .nl))) uP5 f200):=fb Tryz.func200 51 [] [] [] true
def pA8 (p0:Int):Prop×Int:=
 (True,(bif (decide (p0<0)) then (IntKind.wrap .u64 (Int.sub 0 (IntKind.wrap .u64 p0))) else (IntKind.wrap .u64 p0)))
def uJ1 p0:=(pA8 p0).1
def f201 p0:=(pA8 p0).2
instance (p0):Decidable (uJ1 p0):=by unfold uJ1 pA8;dsimp only;infer_instance
def rW1:=sp1 vI (.val (.int .u64)) uJ1 f201
theorem pA9:SK 201 (sp1 vI (.val (.int .u64)) uJ1 f201):=fb Tryz.func201 10 [] [] [] true
abbrev uF2:Type:=(Int×Int×Unit)
abbrev vY:Type:=(Int×Int×Unit)
def tU9 (y:uF2)(x:vY):Prop×Bool×vY:=
 let a5:=y.1
 let a10:=x.1
 let a11:=x.2.1
 let v43:=(a11 !=0)
 let v48:=(ior .u64 a10 a11)
 let v52:=(f200 v48 v48)
 ((v43=true→(uP5 v48 v48)),v43,((bif (bif (decide (v52.1<a5)) then true else (bif (v52.1==a5) then (decide (v52.2.1≤y.2.1)) else false)) then v48 else a10),(wV1 a11 (1:Int) 64),()))
def uF3 y x:=(tU9 y x).1
def tF9 y x:=(tU9 y x).2.1
def vQ9 y x:=(tU9 y x).2.2
instance (y x):Decidable (uF3 y x):=by unfold uF3 tU9;dsimp only;infer_instance
def tR (y:uF2)(x:vY):Int:=
 x.1
def tR0:St→Option Out:=wB4 [(5,(.val (.int .u64))),(6,(.val (.int .u64)))] [(10,(.val (.int .u64))),(11,(.val (.int .u64)))] tF9 vQ9 uF3 fun y x=>[ex 2 none [(10,(.val (.int .u64)))] ((tR y x),())]
def pB (p0:Int)(p1:Int):Prop×Int:=
 let v15:=(f201 p0)
 let v17:=(f201 p0)
 let v18:=(f200 v15 v17)
 let v23:=(f201 p1)
 let v25:=(f201 p1)
 let v26:=(f200 v23 v25)
 let v34:=(((Int.toNat v18.2.1+Int.toNat v26.2.1+Int.toNat (0:Int)) / 18446744073709551616:Nat):Int)
 let y7:=((((Int.toNat v18.1+Int.toNat v26.1+Int.toNat v34) % 18446744073709551616:Nat):Int),(((Int.toNat v18.2.1+Int.toNat v26.2.1+Int.toNat (0:Int)) % 18446744073709551616:Nat):Int),())
 let x7:=((0:Int),(9223372036854775808:Int),())
 let r7_2_0:=(tR y7 (zC4 (tF9 y7) (vQ9 y7) x7))
 (((uJ1 p0)∧((uJ1 p0)∧((uP5 v15 v17)∧((uJ1 p1)∧((uJ1 p1)∧((uP5 v23 v25)∧((0≤(0:Int)∧(0:Int)≤1)∧((0≤v34∧v34≤1)∧(xQ5 (tF9 y7) (vQ9 y7) (uF3 y7) x7))))))))),(bif (decide (r7_2_0>9223372036854775807)) then (9223372036854775807:Int) else (IntKind.wrap .i64 r7_2_0)))
def tN3 p0 p1:=(pB p0 p1).1
def f192 p0 p1:=(pB p0 p1).2
instance (p0 p1):Decidable (tN3 p0 p1):=by unfold tN3 pB;dsimp only;infer_instance
def rW2:=sp2 vI vI vI tN3 f192
def rI5:Ctx:={ Cx tys [(200,rW0),(201,rW1)] [(7,tR0)] [] true 73 [] [] with exts:=[(202,xL)] }
theorem rI6:CtxOk Tryz.prog rI5:=wB8 uD9 rfl ⟨pA7,pA9,trivial⟩ ⟨qT3,trivial⟩ (by kernel_rfl)
noncomputable def rW3:Code:=Tryz.f192.body.getD .skip
noncomputable def rW4:Code:=wS9 rW3 0
theorem rO5:xH8 Tryz.prog rI5 rW4:=lq rI6 (sp:=tR0) rfl [[(10,(.val (.int .u64)))]]
theorem rW5:SK 192 rW2:=fl rI6 Tryz.func192 (bs:=[rW4]) ⟨rO5,trivial⟩
def pB0 (p0:D99)(p1:D99)(p2:Int):Prop×D231:=
 let v11:=(f175 p1 p0)
 let v14:=(IntKind.wrap .i64 (16*v11.1))
 let v17:=(IntKind.wrap .i64 (16*v11.2.1))
 let v18:=(f192 v14 v17)
 let v26:=(IntKind.wrap .i64 ((IntKind.wrap .i64 ((-8)*p2))*v11.2.1))
 let v33:=(IntKind.wrap .i64 ((IntKind.wrap .i64 (8*p2))*v11.1))
 let v41:=(IntKind.wrap .i64 ((IntKind.wrap .i64 (8*p2))*v11.1))
 let v48:=(IntKind.wrap .i64 ((IntKind.wrap .i64 (8*p2))*v11.2.1))
 (((vE6 p1 p0)∧((tN3 v14 v17)∧((wY0 v26 v18)∧((wY0 v33 v18)∧((wY0 v41 v18)∧(wY0 v48 v18)))))),(p0,p1,v11,((f124 v26 v18),(f124 v33 v18),()),((f124 v41 v18),(f124 v48 v18),()),()))
def tN4 p0 p1 p2:=(pB0 p0 p1 p2).1
def f188 p0 p1 p2:=(pB0 p0 p1 p2).2
instance (p0 p1 p2):Decidable (tN4 p0 p1 p2):=by unfold tN4 pB0;dsimp only;infer_instance
theorem pB1:SK 188 (sp3 (.val T99) (.val T99) vI (.val T231) tN4 f188):=fb Tryz.func188 53 [kb vW7,kb sQ6,kb rW5] [] [] true
abbrev uP6:Type:=((List D99)×Bool×Int×Unit)
abbrev vY0:Type:=((List D231)×Int×Unit)
def tG (y:uP6)(x:vY0):Prop×Bool×vY0:=
 let a0:=y.1
 let a2:=y.2.2.1
 let a7:=x.1
 let a8:=x.2.1
 let v12:=(decide (a8<(len a0)))
 let v18:=(a8-1)
 let v19:=(nth a0 v18 Z99)
 let v23:=(nth a0 a8 Z99)
 let v27:=([(f188 v19 v23 a2)]:List D231)
 ((v12=true→(InR (a8-1)∧(InB v18 (len a0)∧(InB a8 (len a0)∧((tN4 v19 v23 a2)∧(((List.length a7+List.length v27:Nat):Int)≤4294967296∧InR (a8+1))))))),v12,((a7++v27),(a8+1),()))
def vV6 y x:=(tG y x).1
def uF4 y x:=(tG y x).2.1
def vE7 y x:=(tG y x).2.2
instance (y x):Decidable (vV6 y x):=by unfold vV6 tG;dsimp only;infer_instance
def uC1 (y:uP6)(x:vY0):(List D231):=
 x.1
def sL8:List (Nat×Sh):=[(0,(.val (.sl T99))),(1,vB),(2,vI),(7,(.own T231 1007 false))]
def rO6:=li [(0,(.val (.sl T99))),(1,vB),(2,vI)] [(7,(.own T231 1007 false)),(8,vI)] uF4 vE7 vV6 (fun y x=>[ex 2 none sL8 (y.1,y.2.1,y.2.2.1,(uC1 y x),())]) [sL8]
def qI0 (p0:List D99)(p1:Bool)(p2:Int):Prop×(List D231):=
 let y3:=(p0,p1,p2,())
 let x3:=(([]:List D231),(1:Int),())
 let r3_2_0:=(uC1 y3 (zC4 (uF4 y3) (vE7 y3) x3))
 let v35:=(bif (!p1) then (decide ((len p0)>1)) else false)
 let v39:=(len p0)
 let v40:=(v39-1)
 let v41:=(nth p0 v40 Z99)
 let v44:=(nth p0 (0:Int) Z99)
 let v48:=([(f188 v41 v44 p2)]:List D231)
 (((xQ5 (uF4 y3) (vE7 y3) (vV6 y3) x3)∧(v35=true→(InR (v39-1)∧(InB v40 (len p0)∧(InB (0:Int) (len p0)∧((tN4 v41 v44 p2)∧((List.length r3_2_0+List.length v48:Nat):Int)≤4294967296)))))),(bif v35 then (r3_2_0++v48) else r3_2_0))
def sA9 p0 p1 p2:=(qI0 p0 p1 p2).1
def f171 p0 p1 p2:=(qI0 p0 p1 p2).2
instance (p0 p1 p2):Decidable (sA9 p0 p1 p2):=by unfold sA9 qI0;dsimp only;infer_instance
theorem pB2:SK 171 (sp3 (.val (.sl T99)) vB vI (.own T231 0 false) sA9 f171):=fb Tryz.func171 51 [kb pB1] [(3,rO6)] [(11,[(4,0,28,1007)]),(15,[(4,0,49,1007)]),(17,[(4,0,1007,0)])]
abbrev uP7:Type:=((List D99)×(List D99)×Int×Unit)
abbrev vY1:Type:=(Int×Int×Unit)
def tG0 (y:uP7)(x:vY1):Prop×Bool×vY1:=
 let a0:=y.1
 let a7:=y.2.1
 let a9:=x.2.1
 let v10:=(decide (a9<y.2.2.1))
 let v12:=(nth a7 a9 Z99)
 let v18:=(len a0)
 let v19:=(Int.tmod (IntKind.wrap .i64 (a9+1)) v18)
 let v20:=(nth a0 v19 Z99)
 ((v10=true→(InB a9 (len a7)∧(v18≠0∧InB v19 (len a0)))),v10,((IntKind.wrap .i64 (x.1+(IntKind.wrap .i64 ((IntKind.wrap .i64 (v12.1*v20.2.1))-(IntKind.wrap .i64 (v20.1*v12.2.1)))))),(IntKind.wrap .i64 (a9+1)),()))
def uW7 y x:=(tG0 y x).1
def sB y x:=(tG0 y x).2.1
def uC2 y x:=(tG0 y x).2.2
instance (y x):Decidable (uW7 y x):=by unfold uW7 tG0;dsimp only;infer_instance
def tR1 (y:uP7)(x:vY1):Int:=
 x.1
def rO7:=li [(0,(.val (.sl T99))),(7,(.val (.sl T99))),(8,vI)] [(3,vI),(9,vI)] sB uC2 uW7 (fun y x=>[ex 2 none [(3,vI)] ((tR1 y x),())]) [[(3,vI)]]
def pB3 (p0:List D99):Prop×Int:=
 let y3:=(p0,p0,(len p0),())
 let x3:=((0:Int),(0:Int),())
 ((xQ5 (sB y3) (uC2 y3) (uW7 y3) x3),(tR1 y3 (zC4 (sB y3) (uC2 y3) x3)))
def sB0 p0:=(pB3 p0).1
def f190 p0:=(pB3 p0).2
instance (p0):Decidable (sB0 p0):=by unfold sB0 pB3;dsimp only;infer_instance
theorem pB4:SK 190 (sp1 (.val (.sl T99)) vI sB0 f190):=fb Tryz.func190 37 [] [(3,rO7)] [] true
def f191 (_p0:List D99):Unit:=()
def rI7 (p0:List D99):(List D99)×Unit:=(List.reverse p0,())
def rE (_p0:List D99):Prop:=True
instance (p0:List D99):Decidable (rE p0):=isTrue trivial
def pB5:List (Nat×Sh):=[(0,(.own T99 400000 true))]
def pB6:Sh:=(.tup .nl)
def pB7:List (Nat×Sh):=[(0,(.own T99 400000 true))]
def rW6:Am.Spec:=fnSpec pB5 pB6 pB7 (fun x=>rE x.1) (fun x=>f191 x.1) (fun x=>rI7 x.1)
theorem pB8:SpecOk Tryz.prog 191 rW6:=qG7 (by decide) rfl ⟨_,Tryz.func191,by kernel_rfl,by decide⟩ pM4
def pB9 (p0:D99)(p1:D99):Prop×D99:=
 (True,((IntKind.wrap .i64 (p0.1+p1.1)),(IntKind.wrap .i64 (p0.2.1+p1.2.1)),()))
def vA7 p0 p1:=(pB9 p0 p1).1
def f174 p0 p1:=(pB9 p0 p1).2
instance (p0 p1):Decidable (vA7 p0 p1):=by unfold vA7 pB9;dsimp only;infer_instance
theorem sB1:SK 174 (sp2 (.val T99) (.val T99) (.val T99) vA7 f174):=fb Tryz.func174 16 [] [] [] true
def pC (p0:Int):Prop×Int:=
 let v5:=(IntKind.wrap .i64 (Int.tdiv p0 (256:Int)))
 let v7:=(decide (v5≥64))
 let v14:=(IntKind.wrap .i64 (v5+1))
 let v25:=(IntKind.wrap .i64 ((IntKind.wrap .i64 ((nth G5 v14 (0:Int))-(nth G5 v5 (0:Int))))*(IntKind.wrap .i64 (p0-(IntKind.wrap .i64 (256*v5))))))
 (((v7=true→InB (64:Int) 65)∧((!v7)=true→(InB v5 65∧(InB v14 65∧(InB v5 65∧(wY0 v25 (256:Int))))))),(bif v7 then (nth G5 (64:Int) (0:Int)) else (IntKind.wrap .i64 ((nth G5 v5 (0:Int))+(f124 v25 (256:Int))))))
def uP8 p0:=(pC p0).1
def f215 p0:=(pC p0).2
instance (p0):Decidable (uP8 p0):=by unfold uP8 pC;dsimp only;infer_instance
theorem pC0:SK 215 (sp1 vI vI uP8 f215):=fb Tryz.func215 28 [kb vW7] [] [] true
def qI1 (p0:Int):Prop×Int:=
 let v6:=(IntKind.wrap .i64 (Int.tdiv p0 (16384:Int)))
 let v10:=(IntKind.wrap .i64 (p0-(IntKind.wrap .i64 (16384*v6))))
 let v13:=(v6==0)
 let v17:=(v6==1)
 let v19:=(IntKind.wrap .i64 (16384-v10))
 let v22:=(v6==2)
 let v27:=(IntKind.wrap .i64 (16384-v10))
 let m2_2:=(bif (bif v13 then true else (bif v17 then true else v22)) then (bif v13 then (f215 v10) else (bif v17 then (f215 v19) else (IntKind.wrap .i64 (Int.sub 0 (f215 v10))))) else (IntKind.wrap .i64 (Int.sub 0 (f215 v27))))
 (((v13=true→(uP8 v10))∧((v13=false→((v17=true→(uP8 v19))∧(v17=false→(v22=true→(uP8 v10)))))∧((((!v22)&&(!v17))&&(!v13))=true→(uP8 v27)))),m2_2)
def uP9 p0:=(qI1 p0).1
def f210 p0:=(qI1 p0).2
instance (p0):Decidable (uP9 p0):=by unfold uP9 qI1;dsimp only;infer_instance
theorem pC1:SK 210 (sp1 vI vI uP9 f210):=fb Tryz.func210 30 [kb pC0] [] [] true
def pC2 (p0:Int):Prop×(Int×Int×Unit):=
 let v6:=(wU8 .i64 p0 (65535:Int))
 let v11:=(Int.tmod (IntKind.wrap .i64 (v6+16384)) (65536:Int))
 (((uP9 v6)∧(uP9 v11)),((f210 v6),(f210 v11),()))
def sB2 p0:=(pC2 p0).1
def f199 p0:=(pC2 p0).2
instance (p0):Decidable (sB2 p0):=by unfold sB2 pC2;dsimp only;infer_instance
theorem pC3:SK 199 (sp1 vI (.tup (.cons vI (.cons vI .nl))) sB2 f199):=fb Tryz.func199 13 [kb pC1] [] [] true
abbrev uQ:Type:=(Int×D99×Int×Unit)
abbrev vY2:Type:=((List D99)×Int×Unit)
def tG1 (y:uQ)(x:vY2):Prop×Bool×vY2:=
 let a1:=y.1
 let a2:=y.2.1
 let a5:=x.1
 let a12:=x.2.1
 let v13:=(decide (a12<y.2.2.1))
 let v17:=(IntKind.wrap .i64 (4096*a12))
 let v18:=(f199 v17)
 let v26:=(IntKind.wrap .i64 (a1*v18.2.1))
 let v30:=(IntKind.wrap .i64 (a1*v18.1))
 let s:=((f124 v26 (131072:Int)),(f124 v30 (131072:Int)),())
 ((v13=true→((sB2 v17)∧((wY0 v26 (131072:Int))∧((wY0 v30 (131072:Int))∧((vA7 a2 s)∧(InB a12 (len a5)∧a12<len a5)))))),v13,((List.set a5 (Int.toNat a12) (f174 a2 s)),(IntKind.wrap .i64 (a12+1)),()))
def vV7 y x:=(tG1 y x).1
def uF5 y x:=(tG1 y x).2.1
def vE8 y x:=(tG1 y x).2.2
instance (y x):Decidable (vV7 y x):=by unfold vV7 tG1;dsimp only;infer_instance
def uQ0 (y:uQ)(x:vY2):(List D99):=
 x.1
def rO8:=li [(1,vI),(2,(.box T99 (.val T99))),(11,vI)] [(5,(.own T99 1005 true)),(12,vI)] uF5 vE8 vV7 (fun y x=>[ex 2 none [(5,(.own T99 1005 true))] ((uQ0 y x),())]) [[(5,(.own T99 1005 true))]]
def qI2 (p0:D99)(p1:Int):Prop×(List D99):=
 let v9:=(List.replicate (Int.toNat (16:Int)) Z99)
 let y3:=(p1,p0,(len v9),())
 let x3:=(v9,(0:Int),())
 (((0≤(16:Int)∧(16:Int)≤(16:Int)∧(16:Int)≤4294967296)∧(xQ5 (uF5 y3) (vE8 y3) (vV7 y3) x3)),(uQ0 y3 (zC4 (uF5 y3) (vE8 y3) x3)))
def uQ1 p0 p1:=(qI2 p0 p1).1
def f189 p0 p1:=(qI2 p0 p1).2
instance (p0 p1):Decidable (uQ1 p0 p1):=by unfold uQ1 qI2;dsimp only;infer_instance
theorem rE0:SK 189 (sp2 (.val T99) vI (.own T99 0 true) uQ1 f189):=fb Tryz.func189 37 [kb vW7,kb sB1,kb pC3] [(3,rO8)] [(3,[(4,0,9,1005)]),(17,[(4,0,1005,0)])] true [] [9]
def tG2 (p0:(Int×Int×Int×(List (List D99))×Int×Unit))(p1:List D99):Prop×(Unit)×((Int×Int×Int×(List (List D99))×Int×Unit)×Unit):=
 let v6:=(f190 p1)
 let v8:=(v6==0)
 let v10:=(decide (v6<0))
 let m1:=(bif v10 then (rI7 p1).1 else p1)
 let v19:=([m1]:List (List D99))
 let s:=((bif v8 then p0.1 else p0.1),(bif v8 then p0.2.1 else p0.2.1),(bif v8 then p0.2.2.1 else p0.2.2.1),(bif v8 then p0.2.2.2.1 else (p0.2.2.2.1++v19)),(bif v8 then p0.2.2.2.2.1 else (IntKind.wrap .i64 (p0.2.2.2.2.1+(len m1)))),())
 (((sB0 p1)∧((!v8)=true→((v10=true→((rE p1)∧(0<List.length p1∧(List.length p1=List.length p1∧(List.length p1=List.length p1∧List.length p1=List.length p1)))))∧((List.length p0.2.2.2.1+List.length v19:Nat):Int)≤4294967296))),(),(s,()))
def wW3 p0 p1:=(tG2 p0 p1).1
def pC4 p0 p1:=(tG2 p0 p1).2.1
def wV8 p0 p1:=(tG2 p0 p1).2.2
instance (p0 p1):Decidable (wW3 p0 p1):=by unfold wW3 tG2;dsimp only;infer_instance
theorem uW8:SK 173 (fnSpec [(0,(.box T205 (.agg (.cons (.int .i64) (.cons (.int .i64) (.cons (.int .i64) (.cons (.sl (.sl T99)) (.cons (.int .i64) .nl))))) (.cons vI (.cons vI (.cons vI (.cons (.own (.sl T99) 400000 false) (.cons vI .nl)))))))),(1,(.own T99 400100 true))] (.tup .nl) [(0,(.box T205 (.agg (.cons (.int .i64) (.cons (.int .i64) (.cons (.int .i64) (.cons (.sl (.sl T99)) (.cons (.int .i64) .nl))))) (.cons vI (.cons vI (.cons vI (.cons (.own (.sl T99) 400000 false) (.cons vI .nl))))))))] (fun x=>wW3 x.1 x.2.1) (fun x=>pC4 x.1 x.2.1) (fun x=>wV8 x.1 x.2.1)):=fx (fun c=>{ c with wants:=[(191,[0])] }) Tryz.func173 32 [kb pB4,kb pB8] [] [(8,[(1,1,0,0)]),(9,[(4,0,20,400000)])] true [0]
def tG3 (p0:(Int×Int×Int×(List (List D99))×Int×Unit))(p1:D99):Prop×(Unit)×((Int×Int×Int×(List (List D99))×Int×Unit)×Unit):=
 let v10:=(p0.2.2.1==1)
 let v17:=(f189 p1 p0.1)
 let s_1:=(p0.1,p0.2.1,p0.2.2.1,p0.2.2.2.1,p0.2.2.2.2.1,())
 let v18o:=(wV8 s_1 v17)
 let v20:=(p0.2.2.1==2)
 let v25:=(f124 p0.1 (2:Int))
 let s_2:=((IntKind.wrap .i64 (Int.sub 0 v25)),(IntKind.wrap .i64 (Int.sub 0 v25)),())
 let s_3:=(v25,(IntKind.wrap .i64 (Int.sub 0 v25)),())
 let s_4:=(v25,v25,())
 let s_5:=((IntKind.wrap .i64 (Int.sub 0 v25)),v25,())
 let v51:=([(f174 p1 s_2),(f174 p1 s_3),(f174 p1 s_4),(f174 p1 s_5)]:List D99)
 let s_7:=(p0.1,p0.2.1,p0.2.2.1,p0.2.2.2.1,p0.2.2.2.2.1,())
 let v52o:=(wV8 s_7 v51)
 let s_8:=((bif v10 then v18o.1.1 else (bif v20 then v52o.1.1 else p0.1)),(bif v10 then v18o.1.2.1 else (bif v20 then v52o.1.2.1 else p0.2.1)),(bif v10 then v18o.1.2.2.1 else (bif v20 then v52o.1.2.2.1 else p0.2.2.1)),(bif v10 then v18o.1.2.2.2.1 else (bif v20 then v52o.1.2.2.2.1 else p0.2.2.2.1)),(bif v10 then v18o.1.2.2.2.2.1 else (bif v20 then v52o.1.2.2.2.2.1 else p0.2.2.2.2.1)),())
 (((v10=true→((uQ1 p1 p0.1)∧(wW3 s_1 v17)))∧(v10=false→(v20=true→((wY0 p0.1 (2:Int))∧((vA7 p1 s_2)∧((vA7 p1 s_3)∧((vA7 p1 s_4)∧((vA7 p1 s_5)∧(wW3 s_7 v51))))))))),(),(s_8,()))
def uF6 p0 p1:=(tG3 p0 p1).1
def pC5 p0 p1:=(tG3 p0 p1).2.1
def tG4 p0 p1:=(tG3 p0 p1).2.2
instance (p0 p1):Decidable (uF6 p0 p1):=by unfold uF6 tG3;dsimp only;infer_instance
theorem rO9:SK 172 (fnSpec [(0,(.box T205 (.agg (.cons (.int .i64) (.cons (.int .i64) (.cons (.int .i64) (.cons (.sl (.sl T99)) (.cons (.int .i64) .nl))))) (.cons vI (.cons vI (.cons vI (.cons (.own (.sl T99) 400000 false) (.cons vI .nl)))))))),(1,(.val T99))] (.tup .nl) [(0,(.box T205 (.agg (.cons (.int .i64) (.cons (.int .i64) (.cons (.int .i64) (.cons (.sl (.sl T99)) (.cons (.int .i64) .nl))))) (.cons vI (.cons vI (.cons vI (.cons (.own (.sl T99) 400000 false) (.cons vI .nl))))))))] (fun x=>uF6 x.1 x.2.1) (fun x=>pC5 x.1 x.2.1) (fun x=>tG4 x.1 x.2.1)):=fx (fun c=>{ c with wants:=[(173,[1])] }) Tryz.func172 53 [kb vW7,kb uW8,kb sB1,kb rE0] [] [] true [0] [51]
def tG5 (p0:(Int×Int×Int×(List (List D99))×Int×Unit))(p1:D231)(p2:D231):Prop×(Unit)×((Int×Int×Int×(List (List D99))×Int×Unit)×Unit):=
 let v23:=(p0.2.1==1)
 let v30:=(f189 p2.1 p0.1)
 let s_1:=(p0.1,p0.2.1,p0.2.2.1,p0.2.2.2.1,p0.2.2.2.2.1,())
 let v31o:=(wV8 s_1 v30)
 let v40:=([p2.1,(f174 p2.1 p1.2.2.2.1),(f174 p2.1 p2.2.2.2.1)]:List D99)
 let s_3:=(p0.1,p0.2.1,p0.2.2.1,p0.2.2.2.1,p0.2.2.2.2.1,())
 let v41o:=(wV8 s_3 v40)
 let v50:=([p2.1,(f175 p2.1 p1.2.2.2.1),(f175 p2.1 p2.2.2.2.1)]:List D99)
 let s_5:=(v41o.1.1,v41o.1.2.1,v41o.1.2.2.1,v41o.1.2.2.2.1,v41o.1.2.2.2.2.1,())
 let v51o:=(wV8 s_5 v50)
 let v66:=(IntKind.wrap .i64 ((IntKind.wrap .i64 (p1.2.2.1.1*p2.2.2.1.2.1))-(IntKind.wrap .i64 (p1.2.2.1.2.1*p2.2.2.1.1))))
 let v75:=(IntKind.wrap .i64 (v51o.1.1*v51o.1.1))
 let v89:=(IntKind.wrap .i64 (v75+(IntKind.wrap .i64 (4*(IntKind.wrap .i64 ((IntKind.wrap .i64 (p1.2.2.2.1.1*p2.2.2.2.1.1))+(IntKind.wrap .i64 (p1.2.2.2.1.2.1*p2.2.2.2.1.2.1))))))))
 let v102:=(bif (bif (v51o.1.2.1==2) then true else (v66==0)) then true else (decide (v89≤0)))
 let v109:=(IntKind.wrap .i64 (v75*(IntKind.wrap .i64 (p1.2.2.2.1.1+p2.2.2.2.1.1))))
 let v111:=(f124 v109 v89)
 let v118:=(IntKind.wrap .i64 (v75*(IntKind.wrap .i64 (p1.2.2.2.1.2.1+p2.2.2.2.1.2.1))))
 let v120:=(f124 v118 v89)
 let s_6:=(v111,v120,())
 let v132:=(decide ((f192 v111 v120)>(IntKind.wrap .i64 (4*v51o.1.1))))
 let v134:=(decide (v66>0))
 let v146:=([p2.1,(f175 p2.1 p1.2.2.2.1),(f175 p2.1 s_6),(f175 p2.1 p2.2.2.2.1)]:List D99)
 let s_8:=(v51o.1.1,v51o.1.2.1,v51o.1.2.2.1,v51o.1.2.2.2.1,v51o.1.2.2.2.2.1,())
 let v147o:=(wV8 s_8 v146)
 let v159:=([p2.1,(f174 p2.1 p1.2.2.2.1),(f174 p2.1 s_6),(f174 p2.1 p2.2.2.2.1)]:List D99)
 let s_10:=(v51o.1.1,v51o.1.2.1,v51o.1.2.2.1,v51o.1.2.2.2.1,v51o.1.2.2.2.2.1,())
 let v160o:=(wV8 s_10 v159)
 let c_5:=(v23||((!v23)&&(v102||((!v102)&&v132))))
 let s_11:=((bif c_5 then (bif v23 then v31o.1.1 else v51o.1.1) else (bif v134 then v147o.1.1 else v160o.1.1)),(bif c_5 then (bif v23 then v31o.1.2.1 else v51o.1.2.1) else (bif v134 then v147o.1.2.1 else v160o.1.2.1)),(bif c_5 then (bif v23 then v31o.1.2.2.1 else v51o.1.2.2.1) else (bif v134 then v147o.1.2.2.1 else v160o.1.2.2.1)),(bif c_5 then (bif v23 then v31o.1.2.2.2.1 else v51o.1.2.2.2.1) else (bif v134 then v147o.1.2.2.2.1 else v160o.1.2.2.2.1)),(bif c_5 then (bif v23 then v31o.1.2.2.2.2.1 else v51o.1.2.2.2.2.1) else (bif v134 then v147o.1.2.2.2.2.1 else v160o.1.2.2.2.2.1)),())
 (((v23=true→((uQ1 p2.1 p0.1)∧(wW3 s_1 v30)))∧((!v23)=true→((vA7 p2.1 p1.2.2.2.1)∧((vA7 p2.1 p2.2.2.2.1)∧((wW3 s_3 v40)∧((vE6 p2.1 p1.2.2.2.1)∧((vE6 p2.1 p2.2.2.2.1)∧((wW3 s_5 v50)∧((!v102)=true→((wY0 v109 v89)∧((wY0 v118 v89)∧((tN3 v111 v120)∧((!v132)=true→((v134=true→((vE6 p2.1 p1.2.2.2.1)∧((vE6 p2.1 s_6)∧((vE6 p2.1 p2.2.2.2.1)∧(wW3 s_8 v146)))))∧(v134=false→((vA7 p2.1 p1.2.2.2.1)∧((vA7 p2.1 s_6)∧((vA7 p2.1 p2.2.2.2.1)∧(wW3 s_10 v159))))))))))))))))))),(),(s_11,()))
def vK7 p0 p1 p2:=(tG5 p0 p1 p2).1
def pC6 p0 p1 p2:=(tG5 p0 p1 p2).2.1
def vL8 p0 p1 p2:=(tG5 p0 p1 p2).2.2
instance (p0 p1 p2):Decidable (vK7 p0 p1 p2):=by unfold vK7 tG5;dsimp only;infer_instance
theorem rP:SK 176 (fnSpec [(0,(.box T205 (.agg (.cons (.int .i64) (.cons (.int .i64) (.cons (.int .i64) (.cons (.sl (.sl T99)) (.cons (.int .i64) .nl))))) (.cons vI (.cons vI (.cons vI (.cons (.own (.sl T99) 400000 false) (.cons vI .nl)))))))),(1,(.val T231)),(2,(.val T231))] (.tup .nl) [(0,(.box T205 (.agg (.cons (.int .i64) (.cons (.int .i64) (.cons (.int .i64) (.cons (.sl (.sl T99)) (.cons (.int .i64) .nl))))) (.cons vI (.cons vI (.cons vI (.cons (.own (.sl T99) 400000 false) (.cons vI .nl))))))))] (fun x=>vK7 x.1 x.2.1 x.2.2.1) (fun x=>pC6 x.1 x.2.1 x.2.2.1) (fun x=>vL8 x.1 x.2.1 x.2.2.1)):=fx (fun c=>{ c with wants:=[(173,[1])] }) Tryz.func176 161 [kb vW7,kb uW8,kb sB1,kb sQ6,kb rE0,kb rW5] [] [] true [0] [40,50,146,159]
def tG6 (p0:(Int×Int×Int×(List (List D99))×Int×Unit))(p1:D231)(p2:D231):Prop×(Unit)×((Int×Int×Int×(List (List D99))×Int×Unit)×Unit):=
 let v12:=(p0.2.2.1==1)
 let v20:=(f189 p1.1 p0.1)
 let s_1:=(p0.1,p0.2.1,p0.2.2.1,p0.2.2.2.1,p0.2.2.2.2.1,())
 let v21o:=(wV8 s_1 v20)
 let v29:=(f189 p2.2.1 v21o.1.1)
 let s_3:=(v21o.1.1,v21o.1.2.1,v21o.1.2.2.1,v21o.1.2.2.2.1,v21o.1.2.2.2.2.1,())
 let v30o:=(wV8 s_3 v29)
 let v32:=(p0.2.2.1==2)
 let v37:=(f175 p1.1 p1.2.2.2.2.1)
 let v57:=([(f174 v37 p1.2.2.2.1),(f174 p1.1 p1.2.2.2.1),(f175 p1.1 p1.2.2.2.1),(f175 v37 p1.2.2.2.1)]:List D99)
 let s_5:=(p0.1,p0.2.1,p0.2.2.1,p0.2.2.2.1,p0.2.2.2.2.1,())
 let v58o:=(wV8 s_5 v57)
 let v63:=(f174 p2.2.1 p2.2.2.2.2.1)
 let v83:=([(f174 p2.2.1 p2.2.2.2.1),(f174 v63 p2.2.2.2.1),(f175 v63 p2.2.2.2.1),(f175 p2.2.1 p2.2.2.2.1)]:List D99)
 let s_7:=(v58o.1.1,v58o.1.2.1,v58o.1.2.2.1,v58o.1.2.2.2.1,v58o.1.2.2.2.2.1,())
 let v84o:=(wV8 s_7 v83)
 let s_8:=((bif v12 then v30o.1.1 else (bif v32 then v84o.1.1 else p0.1)),(bif v12 then v30o.1.2.1 else (bif v32 then v84o.1.2.1 else p0.2.1)),(bif v12 then v30o.1.2.2.1 else (bif v32 then v84o.1.2.2.1 else p0.2.2.1)),(bif v12 then v30o.1.2.2.2.1 else (bif v32 then v84o.1.2.2.2.1 else p0.2.2.2.1)),(bif v12 then v30o.1.2.2.2.2.1 else (bif v32 then v84o.1.2.2.2.2.1 else p0.2.2.2.2.1)),())
 (((v12=true→((uQ1 p1.1 p0.1)∧((wW3 s_1 v20)∧((uQ1 p2.2.1 v21o.1.1)∧(wW3 s_3 v29)))))∧(v12=false→(v32=true→((vE6 p1.1 p1.2.2.2.2.1)∧((vA7 v37 p1.2.2.2.1)∧((vA7 p1.1 p1.2.2.2.1)∧((vE6 p1.1 p1.2.2.2.1)∧((vE6 v37 p1.2.2.2.1)∧((wW3 s_5 v57)∧((vA7 p2.2.1 p2.2.2.2.2.1)∧((vA7 p2.2.1 p2.2.2.2.1)∧((vA7 v63 p2.2.2.2.1)∧((vE6 v63 p2.2.2.2.1)∧((vE6 p2.2.1 p2.2.2.2.1)∧(wW3 s_7 v83))))))))))))))),(),(s_8,()))
def vV8 p0 p1 p2:=(tG6 p0 p1 p2).1
def pC7 p0 p1 p2:=(tG6 p0 p1 p2).2.1
def tG7 p0 p1 p2:=(tG6 p0 p1 p2).2.2
instance (p0 p1 p2):Decidable (vV8 p0 p1 p2):=by unfold vV8 tG6;dsimp only;infer_instance
theorem rP0:SK 177 (fnSpec [(0,(.box T205 (.agg (.cons (.int .i64) (.cons (.int .i64) (.cons (.int .i64) (.cons (.sl (.sl T99)) (.cons (.int .i64) .nl))))) (.cons vI (.cons vI (.cons vI (.cons (.own (.sl T99) 400000 false) (.cons vI .nl)))))))),(1,(.val T231)),(2,(.val T231))] (.tup .nl) [(0,(.box T205 (.agg (.cons (.int .i64) (.cons (.int .i64) (.cons (.int .i64) (.cons (.sl (.sl T99)) (.cons (.int .i64) .nl))))) (.cons vI (.cons vI (.cons vI (.cons (.own (.sl T99) 400000 false) (.cons vI .nl))))))))] (fun x=>vV8 x.1 x.2.1 x.2.2.1) (fun x=>pC7 x.1 x.2.1 x.2.2.1) (fun x=>tG7 x.1 x.2.1 x.2.2.1)):=fx (fun c=>{ c with wants:=[(173,[1])] }) Tryz.func177 85 [kb uW8,kb sB1,kb sQ6,kb rE0] [] [] true [0] [57,83]
abbrev vR:Type:=(Bool×(List D231)×(List D231)×Int×Unit)
abbrev vC1:Type:=((Int×Int×Int×(List (List D99))×Int×Unit)×Int×Unit)
def uJ2 (y:vR)(x:vC1):Prop×Bool×vC1:=
 let a32:=y.2.2.1
 let a0:=x.1
 let a34:=x.2.1
 let v35:=(decide (a34<y.2.2.2.1))
 let v36:=(nth a32 a34 Z231)
 let v59:=([(f174 v36.1 v36.2.2.2.1),(f174 v36.2.1 v36.2.2.2.1),(f175 v36.2.1 v36.2.2.2.1),(f175 v36.1 v36.2.2.2.1)]:List D99)
 let s_1:=(a0.1,a0.2.1,a0.2.2.1,a0.2.2.2.1,a0.2.2.2.2.1,())
 let v60o:=(wV8 s_1 v59)
 ((v35=true→(InB a34 (len a32)∧((vA7 v36.1 v36.2.2.2.1)∧((vA7 v36.2.1 v36.2.2.2.1)∧((vE6 v36.2.1 v36.2.2.2.1)∧((vE6 v36.1 v36.2.2.2.1)∧((wW3 s_1 v59)∧InR (a34+1)))))))),v35,((v60o.1.1,v60o.1.2.1,v60o.1.2.2.1,v60o.1.2.2.2.1,v60o.1.2.2.2.2.1,()),(a34+1),()))
def vH8 y x:=(uJ2 y x).1
def vE9 y x:=(uJ2 y x).2.1
def wZ3 y x:=(uJ2 y x).2.2
instance (y x):Decidable (vH8 y x):=by unfold vH8 uJ2;dsimp only;infer_instance
def vY3 (y:vR)(x:vC1):(Int×Int×Int×(List (List D99))×Int×Unit):=
 let a0:=x.1
 (a0.1,a0.2.1,a0.2.2.1,a0.2.2.2.1,a0.2.2.2.2.1,())
def tG8:List (Nat×Sh):=[(0,(.box T205 (.agg (.cons (.int .i64) (.cons (.int .i64) (.cons (.int .i64) (.cons (.sl (.sl T99)) (.cons (.int .i64) .nl))))) (.cons vI (.cons vI (.cons vI (.cons (.own (.sl T99) 400000 false) (.cons vI .nl)))))))),(2,vB),(7,(.own T231 1007 false))]
def sQ7:=li [(2,vB),(7,(.own T231 1007 false)),(32,(.own T231 1007 false)),(33,vI)] [(0,(.box T205 (.agg (.cons (.int .i64) (.cons (.int .i64) (.cons (.int .i64) (.cons (.sl (.sl T99)) (.cons (.int .i64) .nl))))) (.cons vI (.cons vI (.cons vI (.cons (.own (.sl T99) 400000 false) (.cons vI .nl)))))))),(34,vI)] vE9 wZ3 vH8 (fun y x=>[ex 2 none tG8 ((vY3 y x),y.1,y.2.1,())]) [tG8]
abbrev vL9:Type:=(Bool×(List D231)×Unit)
abbrev vA:Type:=((Int×Int×Int×(List (List D99))×Int×Unit)×Int×Unit)
def uC3 (y:vL9)(x:vA):Prop×Bool×vA:=
 let a7:=y.2.1
 let a0:=x.1
 let a10:=x.2.1
 let v78:=(decide (a10<(len a7)))
 let v84:=(a10-1)
 let v85:=(nth a7 v84 Z231)
 let v89:=(nth a7 a10 Z231)
 let s_1:=(a0.1,a0.2.1,a0.2.2.1,a0.2.2.2.1,a0.2.2.2.2.1,())
 let v91o:=(vL8 s_1 v85 v89)
 ((v78=true→(InR (a10-1)∧(InB v84 (len a7)∧(InB a10 (len a7)∧((vK7 s_1 v85 v89)∧InR (a10+1)))))),v78,((v91o.1.1,v91o.1.2.1,v91o.1.2.2.1,v91o.1.2.2.2.1,v91o.1.2.2.2.2.1,()),(a10+1),()))
def vD6 y x:=(uC3 y x).1
def vA0 y x:=(uC3 y x).2.1
def wY y x:=(uC3 y x).2.2
instance (y x):Decidable (vD6 y x):=by unfold vD6 uC3;dsimp only;infer_instance
def vS7 (y:vL9)(x:vA):(Int×Int×Int×(List (List D99))×Int×Unit):=
 let a0:=x.1
 (a0.1,a0.2.1,a0.2.2.1,a0.2.2.2.1,a0.2.2.2.2.1,())
def tB:List (Nat×Sh):=[(0,(.box T205 (.agg (.cons (.int .i64) (.cons (.int .i64) (.cons (.int .i64) (.cons (.sl (.sl T99)) (.cons (.int .i64) .nl))))) (.cons vI (.cons vI (.cons vI (.cons (.own (.sl T99) 400000 false) (.cons vI .nl)))))))),(2,vB),(7,(.own T231 1007 false))]
def sK2:=li [(2,vB),(7,(.own T231 1007 false))] [(0,(.box T205 (.agg (.cons (.int .i64) (.cons (.int .i64) (.cons (.int .i64) (.cons (.sl (.sl T99)) (.cons (.int .i64) .nl))))) (.cons vI (.cons vI (.cons vI (.cons (.own (.sl T99) 400000 false) (.cons vI .nl)))))))),(10,vI)] vA0 wY vD6 (fun y x=>[ex 4 none tB ((vS7 y x),y.1,y.2.1,())]) [tB]
def tG9 (p0:(Int×Int×Int×(List (List D99))×Int×Unit))(p1:List D99)(p2:Bool):Prop×(Unit)×((Int×Int×Int×(List (List D99))×Int×Unit)×Unit):=
 let v13:=(f170 p1 p2)
 let v20:=(f171 v13 p2 p0.1)
 let v23:=((len v20)==0)
 let v26:=((len v13)==1)
 let v29:=(nth v13 (0:Int) Z99)
 let s_1:=(p0.1,p0.2.1,p0.2.2.1,p0.2.2.2.1,p0.2.2.2.2.1,())
 let v31o:=(tG4 s_1 v29)
 let y6:=(p2,v20,v20,(len v20),())
 let x6:=((p0.1,p0.2.1,p0.2.2.1,p0.2.2.2.1,p0.2.2.2.2.1,()),(0:Int),())
 let r6_2_0:=(vY3 y6 (zC4 (vE9 y6) (wZ3 y6) x6))
 let v63:=(!p2)
 let v67:=(len v20)
 let v68:=(v67-1)
 let v69:=(nth v20 v68 Z231)
 let v72:=(nth v20 (0:Int) Z231)
 let s_4:=(r6_2_0.1,r6_2_0.2.1,r6_2_0.2.2.1,r6_2_0.2.2.2.1,r6_2_0.2.2.2.2.1,())
 let v74o:=(vL8 s_4 v69 v72)
 let s_5:=((bif v63 then v74o.1.1 else r6_2_0.1),(bif v63 then v74o.1.2.1 else r6_2_0.2.1),(bif v63 then v74o.1.2.2.1 else r6_2_0.2.2.1),(bif v63 then v74o.1.2.2.2.1 else r6_2_0.2.2.2.1),(bif v63 then v74o.1.2.2.2.2.1 else r6_2_0.2.2.2.2.1),())
 let y13:=(p2,v20,())
 let x13:=(s_5,(1:Int),())
 let r13_4_0:=(vS7 y13 (zC4 (vA0 y13) (wY y13) x13))
 let v95:=(nth v20 (0:Int) Z231)
 let v99:=(len v20)
 let v100:=(v99-1)
 let v101:=(nth v20 v100 Z231)
 let s_7:=(r13_4_0.1,r13_4_0.2.1,r13_4_0.2.2.1,r13_4_0.2.2.2.1,r13_4_0.2.2.2.2.1,())
 let v103o:=(tG7 s_7 v95 v101)
 let s_8:=((bif v23 then (bif v26 then v31o.1.1 else p0.1) else (bif p2 then v103o.1.1 else r13_4_0.1)),(bif v23 then (bif v26 then v31o.1.2.1 else p0.2.1) else (bif p2 then v103o.1.2.1 else r13_4_0.2.1)),(bif v23 then (bif v26 then v31o.1.2.2.1 else p0.2.2.1) else (bif p2 then v103o.1.2.2.1 else r13_4_0.2.2.1)),(bif v23 then (bif v26 then v31o.1.2.2.2.1 else p0.2.2.2.1) else (bif p2 then v103o.1.2.2.2.1 else r13_4_0.2.2.2.1)),(bif v23 then (bif v26 then v31o.1.2.2.2.2.1 else p0.2.2.2.2.1) else (bif p2 then v103o.1.2.2.2.2.1 else r13_4_0.2.2.2.2.1)),())
 (((sA8 p1 p2)∧((sA9 v13 p2 p0.1)∧((v23=true→(v26=true→(InB (0:Int) (len v13)∧(uF6 s_1 v29))))∧((!v23)=true→((xQ5 (vE9 y6) (wZ3 y6) (vH8 y6) x6)∧((v63=true→(InR (v67-1)∧(InB v68 (len v20)∧(InB (0:Int) (len v20)∧(vK7 s_4 v69 v72)))))∧((xQ5 (vA0 y13) (wY y13) (vD6 y13) x13)∧(p2=true→(InB (0:Int) (len v20)∧(InR (v99-1)∧(InB v100 (len v20)∧(vV8 s_7 v95 v101)))))))))))),(),(s_8,()))
def vN9 p0 p1 p2:=(tG9 p0 p1 p2).1
def pC8 p0 p1 p2:=(tG9 p0 p1 p2).2.1
def uF7 p0 p1 p2:=(tG9 p0 p1 p2).2.2
instance (p0 p1 p2):Decidable (vN9 p0 p1 p2):=by unfold vN9 tG9;dsimp only;infer_instance
theorem rP1:SK 159 (fnSpec [(0,(.box T205 (.agg (.cons (.int .i64) (.cons (.int .i64) (.cons (.int .i64) (.cons (.sl (.sl T99)) (.cons (.int .i64) .nl))))) (.cons vI (.cons vI (.cons vI (.cons (.own (.sl T99) 400000 false) (.cons vI .nl)))))))),(1,(.val (.sl T99))),(2,vB)] (.tup .nl) [(0,(.box T205 (.agg (.cons (.int .i64) (.cons (.int .i64) (.cons (.int .i64) (.cons (.sl (.sl T99)) (.cons (.int .i64) .nl))))) (.cons vI (.cons vI (.cons vI (.cons (.own (.sl T99) 400000 false) (.cons vI .nl))))))))] (fun x=>vN9 x.1 x.2.1 x.2.2.1) (fun x=>pC8 x.1 x.2.1 x.2.2.1) (fun x=>uF7 x.1 x.2.1 x.2.2.1)):=fx (fun c=>{ c with wants:=[(172,[]),(173,[1]),(176,[]),(177,[])] }) Tryz.func159 104 [kb pA4,kb pB2,kb rO9,kb uW8,kb sB1,kb sQ6,kb rP,kb rP0] [(6,sQ7),(13,sK2)] [(3,[(4,0,20,1007)])] false [0] [59]
abbrev vH9:Type:=((List Bool)×Unit×(List (List D99))×Int×Unit)
abbrev wZ8:Type:=((Int×Int×Int×(List (List D99))×Int×Unit)×Int×Unit)
def uF8 (y:vH9)(x:wZ8):Prop×Bool×wZ8×Bool×Bool:=
 let a1:=y.1
 let a39:=y.2.2.1
 let a38:=x.1
 let a41:=x.2.1
 let v42:=(decide (a41<y.2.2.2.1))
 let v44:=(nth a39 a41 ([]:List D99))
 let v50:=(nth a1 a41 false)
 let s_1:=(a38.1,a38.2.1,a38.2.2.1,a38.2.2.2.1,a38.2.2.2.2.1,())
 let v52o:=(uF7 s_1 v44 v50)
 let v57:=(decide (v52o.1.2.2.2.2.1>4096))
 ((v42=true→(InB a41 (len a39)∧(InB a41 (len a1)∧((vN9 s_1 v44 v50)∧((!v57)=true→InR (a41+1)))))),(v42&&(!v57)),((v52o.1.1,v52o.1.2.1,v52o.1.2.2.1,v52o.1.2.2.2.1,v52o.1.2.2.2.2.1,()),(a41+1),()),(v42&&v57),(!v42))
def vO y x:=(uF8 y x).1
def vV9 y x:=(uF8 y x).2.1
def vI0 y x:=(uF8 y x).2.2.1
def tC8 y x:=(uF8 y x).2.2.2.1
def rE1 y x:=(uF8 y x).2.2.2.2
instance (y x):Decidable (vO y x):=by unfold vO uF8;dsimp only;infer_instance
def uJ3 (y:vH9)(x:wZ8):(List (List D99)):=
 ([]:List (List D99))
def tH (y:vH9)(x:wZ8):Int:=
 (3:Int)
def sB3:List (Nat×Sh):=[(10,(.own (.sl T99) 0 false)),(11,vI)]
def uJ4 (y:vH9)(x:wZ8):(Int×Int×Int×(List (List D99))×Int×Unit):=
 let a38:=x.1
 (a38.1,a38.2.1,a38.2.2.1,a38.2.2.2.1,a38.2.2.2.2.1,())
def sB4:List (Nat×Sh):=[(14,(.ref 38 T205)),(38,(.box T205 (.agg (.cons (.int .i64) (.cons (.int .i64) (.cons (.int .i64) (.cons (.sl (.sl T99)) (.cons (.int .i64) .nl))))) (.cons vI (.cons vI (.cons vI (.cons (.own (.sl T99) 403800 false) (.cons vI .nl))))))))]
def rE2:=li [(1,(.val (.sl .bool))),(14,(.ref 38 T205)),(39,(.val (.sl (.sl T99)))),(40,vI)] [(38,(.box T205 (.agg (.cons (.int .i64) (.cons (.int .i64) (.cons (.int .i64) (.cons (.sl (.sl T99)) (.cons (.int .i64) .nl))))) (.cons vI (.cons vI (.cons vI (.cons (.own (.sl T99) 403800 false) (.cons vI .nl)))))))),(41,vI)] vV9 vI0 vO (fun y x=>[ex 1 (some (tC8 y x)) sB3 ((uJ3 y x),(tH y x),()),ex 2 (some (rE1 y x)) sB4 (y.2.1,(uJ4 y x),())]) [sB3,sB4]
def qI3 (p0:(List (List D99)))(p1:List Bool)(p2:Int)(p3:Int)(p4:Int):Prop×((List (List D99))×Int×Unit):=
 let v20:=(f158 p2 p3 p4)
 let v22:=(v20 !=0)
 let v25:=(f144 p0 (0:Int))
 let v27:=(v25 !=0)
 let v33:=((len p1)!=(len p0))
 let y11:=(p1,(),p0,(len p0),())
 let x11:=((p2,p3,p4,([]:List (List D99)),(0:Int),()),(0:Int),())
 let e11:=(zC4 (vV9 y11) (vI0 y11) x11)
 let q11_1:=(tC8 y11 e11)
 (((sA7 p2 p3 p4)∧((!v22)=true→((uP2 p0 (0:Int))∧((!v27)=true→((!v33)=true→(xQ5 (vV9 y11) (vI0 y11) (vO y11) x11)))))),((bif v22 then [] else (bif v27 then [] else (bif v33 then [] else (bif q11_1 then (uJ3 y11 e11) else (uJ4 y11 e11).2.2.2.1)))),(bif v22 then v20 else (bif v27 then v25 else (bif v33 then (15:Int) else (bif q11_1 then (tH y11 e11) else (0:Int))))),()))
def sB5 p0 p1 p2 p3 p4:=(qI3 p0 p1 p2 p3 p4).1
def f143 p0 p1 p2 p3 p4:=(qI3 p0 p1 p2 p3 p4).2
instance (p0 p1 p2 p3 p4):Decidable (sB5 p0 p1 p2 p3 p4):=by unfold sB5 qI3;dsimp only;infer_instance
theorem pC9:SK 143 (sp5 (.val (.sl (.sl T99))) (.val (.sl .bool)) vI vI vI (.tup (.cons (.own (.sl T99) 0 false) (.cons vI .nl))) sB5 f143):=fx (fun c=>{ c with wants:=[(159,[])] }) Tryz.func143 63 [kb rD9,kb pA2,kb rP1] [(11,rE2)] [(35,[(4,0,403800,0)])]
def pD (p0:D52):Prop×Int:=
 let v15:=(f140 p0.2.2.2.2.2.2.2.2.2.2.2.2.2.2.2.2.2.2.1 p0.2.2.2.2.2.2.2.2.2.2.1)
 let v19:=(v15.2.1 !=0)
 let v28:=(bif (p0.2.2.2.2.2.2.2.2.2.2.2.2.2.2.2.2.2.2.2.1 !=0) then (p0.2.2.2.2.2.2.2.2.2.2.2.2.2.2.2.2.2.2.2.1 !=1) else false)
 let v41:=(bif (p0.2.2.2.2.2.2.2.2.2.2.2.2.2.2.2.2.2.2.2.2.1==0) then (bif (p0.2.2.2.2.2.2.2.2.2.2.2.2.2.2.2.2.2.2.2.2.2.1 !=0) then true else (p0.2.2.2.2.2.2.2.2.2.2.2.2.2.2.2.2.2.2.2.2.2.2.1 !=0)) else false)
 let v44:=(f141 v15.1)
 let v48:=(v44.2.1 !=0)
 let v54:=(p0.2.2.2.2.2.2.2.2.2.2.2.2.2.2.2.2.2.2.2.2.1 !=0)
 let v57:=(f142 v15.1)
 let v61:=(v57.2.1 !=0)
 let v72:=(f143 v44.1 v57.1 p0.2.2.2.2.2.2.2.2.2.2.2.2.2.2.2.2.2.2.2.2.1 p0.2.2.2.2.2.2.2.2.2.2.2.2.2.2.2.2.2.2.2.2.2.1 p0.2.2.2.2.2.2.2.2.2.2.2.2.2.2.2.2.2.2.2.2.2.2.1)
 let v76:=(v72.2.1 !=0)
 let m5_1:=(bif v54 then v72.1 else v44.1)
 let m6:=(bif v54 then (0:Int) else p0.2.2.2.2.2.2.2.2.2.2.2.2.2.2.2.2.2.2.2.1)
 let v80:=(f144 m5_1 m6)
 let v82:=(v80 !=0)
 let m2_4:=(bif v41 then (1:Int) else (bif v48 then v44.2.1 else (bif ((v61||((!v61)&&v76))&&v54) then (bif v61 then v57.2.1 else v72.2.1) else (bif v82 then v80 else (f126 p0.2.2.2.2.2.2.2.2.2.2.2.2.2.1)))))
 (((sA p0.2.2.2.2.2.2.2.2.2.2.2.2.2.2.2.2.2.2.1 p0.2.2.2.2.2.2.2.2.2.2.1)∧((!v19)=true→((!v28)=true→((!v41)=true→((uP v15.1)∧((!v48)=true→((v54=true→((sA1 v15.1)∧((!v61)=true→(sB5 v44.1 v57.1 p0.2.2.2.2.2.2.2.2.2.2.2.2.2.2.2.2.2.2.2.2.1 p0.2.2.2.2.2.2.2.2.2.2.2.2.2.2.2.2.2.2.2.2.2.1 p0.2.2.2.2.2.2.2.2.2.2.2.2.2.2.2.2.2.2.2.2.2.2.1))))∧((bif v54 then ((!v61)&&(!v76)) else true)=true→((uP2 m5_1 m6)∧((!v82)=true→(uO p0.2.2.2.2.2.2.2.2.2.2.2.2.2.1))))))))))),(bif v19 then v15.2.1 else (bif v28 then (8:Int) else m2_4)))
def sB6 p0:=(pD p0).1
def f128 p0:=(pD p0).2
instance (p0):Decidable (sB6 p0):=by unfold sB6 pD;dsimp only;infer_instance
theorem pD0:SK 128 (sp1 (.val T52) vI sB6 f128):=fb Tryz.func128 87 [kb rD3,kb qZ7,kb rV9,kb pA,kb pC9,kb rD9] [] [(17,[(4,0,44,1005)]),(27,[(4,0,57,1007)]),(33,[(5,0,1005,0),(4,0,72,1005)])]
def pD1 (p0:Int)(p1:Int)(p2:Int):Prop×Bool:=
 (True,(bif (decide (p0≥p1)) then (decide (p0≤p2)) else false))
def vO0 p0 p1 p2:=(pD1 p0 p1 p2).1
def f179 p0 p1 p2:=(pD1 p0 p1 p2).2
instance (p0 p1 p2):Decidable (vO0 p0 p1 p2):=by unfold vO0 pD1;dsimp only;infer_instance
theorem rE3:SK 179 (sp3 vI vI vI vB vO0 f179):=fb Tryz.func179 15
abbrev vO1:Type:=((List D130)×Int×Int×(List D99)×Unit)
abbrev vI1:Type:=(Int×Unit)
def uF9 (y:vO1)(x:vI1):Prop×Bool×vI1×Bool×Bool:=
 let a27:=x.1
 let v28:=(decide (a27<3))
 let v29:=(nth y.2.2.2.1 a27 Z99)
 let v33:=(!(f179 v29.1 (-65536:Int) (65536:Int)))
 let v39:=(bif v33 then true else (!(f179 v29.2.1 (-65536:Int) (65536:Int))))
 ((v28=true→(InB a27 3∧((vO0 v29.1 (-65536:Int) (65536:Int))∧(((!v33)=true→(vO0 v29.2.1 (-65536:Int) (65536:Int)))∧((!v39)=true→InR (a27+1)))))),(v28&&(!v39)),((a27+1),()),(v28&&v39),(!v28))
def uJ5 y x:=(uF9 y x).1
def uW9 y x:=(uF9 y x).2.1
def vT5 y x:=(uF9 y x).2.2.1
def sB7 y x:=(uF9 y x).2.2.2.1
def sB8 y x:=(uF9 y x).2.2.2.2
instance (y x):Decidable (uJ5 y x):=by unfold uJ5 uF9;dsimp only;infer_instance
def tH0 (y:vO1)(x:vI1):Int:=
 (2:Int)
def sB9:List (Nat×Sh):=[(19,(.val (.sl T130))),(20,vI),(21,vI)]
def rE4:=li [(19,(.val (.sl T130))),(20,vI),(21,vI),(26,(.val (.arr 3 T99)))] [(27,vI)] uW9 vT5 uJ5 (fun y x=>[ex 1 (some (sB7 y x)) [(2,vI)] ((tH0 y x),()),ex 4 (some (sB8 y x)) sB9 (y.1,y.2.1,y.2.2.1,())]) [[(2,vI)],sB9]
abbrev vY4:Type:=((List D130)×Int×Unit)
abbrev vM:Type:=(Int×Unit)
def uX (y:vY4)(x:vM):Prop×Bool×vM×Bool×Bool:=
 let a19:=y.1
 let a20:=y.2.1
 let a21:=x.1
 let v22:=(decide (a21<a20))
 let y10:=(a19,a20,a21,(nth a19 a21 Z130).2.1,())
 let x10:=((0:Int),())
 let e10:=(zC4 (uW9 y10) (vT5 y10) x10)
 let q10_4:=(sB8 y10 e10)
 ((v22=true→(InB a21 (len a19)∧((xQ5 (uW9 y10) (vT5 y10) (uJ5 y10) x10)∧(q10_4=true→InR (a21+1))))),(v22&&q10_4),((a21+1),()),(v22&&(sB7 y10 e10)),(!v22))
def uX0 y x:=(uX y x).1
def sC y x:=(uX y x).2.1
def uQ2 y x:=(uX y x).2.2.1
def sL9 y x:=(uX y x).2.2.2.1
def rP2 y x:=(uX y x).2.2.2.2
instance (y x):Decidable (uX0 y x):=by unfold uX0 uX;dsimp only;infer_instance
def tR2 (y:vY4)(x:vM):Int:=
 let a19:=y.1
 let a21:=x.1
 let y10:=(a19,y.2.1,a21,(nth a19 a21 Z130).2.1,())
 (tH0 y10 (zC4 (uW9 y10) (vT5 y10) ((0:Int),())))
def rP3:=li [(19,(.val (.sl T130))),(20,vI)] [(21,vI)] sC uQ2 uX0 (fun y x=>[ex 1 (some (sL9 y x)) [(2,vI)] ((tR2 y x),()),ex 2 (some (rP2 y x)) [] ()]) [[(2,vI)],[]]
def pD2 (p0:D218):Prop×Int:=
 let v11:=(!(f179 p0.2.1 (0:Int) (65536:Int)))
 let v14:=(f153 p0.2.2.1)
 let v16:=(v14 !=0)
 let y7:=(p0.2.2.1,(len p0.2.2.1),())
 let x7:=((0:Int),())
 let e7:=(zC4 (sC y7) (uQ2 y7) x7)
 (((vO0 p0.2.1 (0:Int) (65536:Int))∧((!v11)=true→((uO5 p0.2.2.1)∧((!v16)=true→(xQ5 (sC y7) (uQ2 y7) (uX0 y7) x7))))),(bif v11 then (2:Int) else (bif v16 then v14 else (bif (sL9 y7 e7) then (tR2 y7 e7) else (0:Int)))))
def sQ8 p0:=(pD2 p0).1
def f193 p0:=(pD2 p0).2
instance (p0):Decidable (sQ8 p0):=by unfold sQ8 pD2;dsimp only;infer_instance
theorem pD3:SK 193 (sp1 (.val T218) vI sQ8 f193):=fb Tryz.func193 42 [kb sQ4,kb rE3] [(7,rP3),(10,rE4)]
def pD4 (p0:D223)(p1:D223):Prop×Bool:=
 (True,(bif (decide (p0.1>p1.1)) then true else (bif (p0.1==p1.1) then (decide (p0.2.1>p1.2.1)) else false)))
def sQ9 p0 p1:=(pD4 p0 p1).1
def f194 p0 p1:=(pD4 p0 p1).2
instance (p0 p1):Decidable (sQ9 p0 p1):=by unfold sQ9 pD4;dsimp only;infer_instance
theorem pD5:SK 194 (sp2 (.val T223) (.val T223) vB sQ9 f194):=fb Tryz.func194 24
abbrev vY5:Type:=(D190×(List D218)×Int×Unit)
abbrev vM0:Type:=(Int×Unit)
def uX1 (y:vY5)(x:vM0):Prop×Bool×vM0×Bool×Bool:=
 let a1:=y.1
 let a35:=y.2.1
 let a37:=x.1
 let v38:=(decide (a37<y.2.2.1))
 let v40:=(nth a35 a37 Z218)
 let v43:=(decide (a37>0))
 let v50:=(a37-1)
 let v55:=(bif v43 then (decide (v40.1≤(nth a1.2.2.2.1 v50 Z218).1)) else false)
 let v59:=((f193 v40)!=0)
 let c_2:=((!v55)&&(!v59))
 ((v38=true→(InB a37 (len a35)∧((v43=true→InR (a37-1))∧((v43=true→InB v50 (len a1.2.2.2.1))∧(((!v55)=true→(sQ8 v40))∧(c_2=true→InR (a37+1))))))),(v38&&c_2),((a37+1),()),(v38&&(v55||((!v55)&&v59))),(!v38))
def uX2 y x:=(uX1 y x).1
def sC0 y x:=(uX1 y x).2.1
def uQ3 y x:=(uX1 y x).2.2.1
def sM y x:=(uX1 y x).2.2.2.1
def sM0 y x:=(uX1 y x).2.2.2.2
instance (y x):Decidable (uX2 y x):=by unfold uX2 uX1;dsimp only;infer_instance
def tR3 (y:vY5)(x:vM0):Int:=
 let a37:=x.1
 let v40:=(nth y.2.1 a37 Z218)
 (bif (bif (decide (a37>0)) then (decide (v40.1≤(nth y.1.2.2.2.1 (a37-1) Z218).1)) else false) then (24:Int) else (f193 v40))
def rP4:=li [(1,(.box T190 (.val T190))),(35,(.val (.sl T218))),(36,vI)] [(37,vI)] sC0 uQ3 uX2 (fun y x=>[ex 1 (some (sM y x)) [(2,vI)] ((tR3 y x),()),ex 2 (some (sM0 y x)) [(1,(.box T190 (.val T190)))] (y.1,())]) [[(2,vI)],[(1,(.box T190 (.val T190)))]]
abbrev vO2:Type:=(D190×(List D223)×Int×Unit)
abbrev vI2:Type:=(Int×Unit)
def uG (y:vO2)(x:vI2):Prop×Bool×vI2×Bool×Bool:=
 let a1:=y.1
 let a63:=y.2.1
 let a65:=x.1
 let v66:=(decide (a65<y.2.2.1))
 let v68:=(nth a63 a65 Z223)
 let v71:=(decide (a65>0))
 let v77:=(a65-1)
 let v78:=(nth a1.2.2.2.2.1 v77 Z223)
 let v82:=(bif v71 then (!(f194 v68 v78)) else false)
 let v86:=(!(f179 v68.2.2.1 (-65536:Int) (65536:Int)))
 let c_2:=((!v82)&&(!v86))
 ((v66=true→(InB a65 (len a63)∧((v71=true→InR (a65-1))∧((v71=true→InB v77 (len a1.2.2.2.2.1))∧((v71=true→(sQ9 v68 v78))∧(((!v82)=true→(vO0 v68.2.2.1 (-65536:Int) (65536:Int)))∧(c_2=true→InR (a65+1)))))))),(v66&&c_2),((a65+1),()),(v66&&(v82||((!v82)&&v86))),(!v66))
def uJ6 y x:=(uG y x).1
def tN5 y x:=(uG y x).2.1
def uJ7 y x:=(uG y x).2.2.1
def sC1 y x:=(uG y x).2.2.2.1
def rE5 y x:=(uG y x).2.2.2.2
instance (y x):Decidable (uJ6 y x):=by unfold uJ6 uG;dsimp only;infer_instance
def tH1 (y:vO2)(x:vI2):Int:=
 let a65:=x.1
 (bif (bif (decide (a65>0)) then (!(f194 (nth y.2.1 a65 Z223) (nth y.1.2.2.2.2.1 (a65-1) Z223))) else false) then (24:Int) else (2:Int))
def rE6:=li [(1,(.box T190 (.val T190))),(63,(.val (.sl T223))),(64,vI)] [(65,vI)] tN5 uJ7 uJ6 (fun y x=>[ex 1 (some (sC1 y x)) [(2,vI)] ((tH1 y x),()),ex 4 (some (rE5 y x)) [] ()]) [[(2,vI)],[]]
def pD6 (p0:D190):Prop×Int:=
 let v11:=(!(f179 p0.1 (1:Int) (65536:Int)))
 let v17:=(bif v11 then true else (!(f179 p0.2.1 (0:Int) (65536:Int))))
 let v23:=(bif v17 then true else (!(f179 p0.2.2.1 (0:Int) (65536:Int))))
 let v33:=(bif (decide ((len p0.2.2.2.1)>256)) then true else (decide ((len p0.2.2.2.2.1)>256)))
 let y6:=(p0,p0.2.2.2.1,(len p0.2.2.2.1),())
 let x6:=((0:Int),())
 let e6:=(zC4 (sC0 y6) (uQ3 y6) x6)
 let y15:=(p0,p0.2.2.2.2.1,(len p0.2.2.2.2.1),())
 let x15:=((0:Int),())
 let e15:=(zC4 (tN5 y15) (uJ7 y15) x15)
 (((vO0 p0.1 (1:Int) (65536:Int))∧(((!v11)=true→(vO0 p0.2.1 (0:Int) (65536:Int)))∧(((!v17)=true→(vO0 p0.2.2.1 (0:Int) (65536:Int)))∧((!v23)=true→((!v33)=true→((xQ5 (sC0 y6) (uQ3 y6) (uX2 y6) x6)∧((sM0 y6 e6)=true→(xQ5 (tN5 y15) (uJ7 y15) (uJ6 y15) x15)))))))),(bif v23 then (2:Int) else (bif v33 then (3:Int) else (bif (sM y6 e6) then (tR3 y6 e6) else (bif (sC1 y15 e15) then (tH1 y15 e15) else (0:Int))))))
def sC2 p0:=(pD6 p0).1
def f178 p0:=(pD6 p0).2
instance (p0):Decidable (sC2 p0):=by unfold sC2 pD6;dsimp only;infer_instance
theorem pD7:SK 178 (sp1 (.val T190) vI sC2 f178):=fb Tryz.func178 88 [kb rE3,kb pD3,kb pD5] [(6,rP4),(15,rE6)]
abbrev vY6:Type:=((List UInt8)×Int×Int×Int×Unit)
abbrev vM1:Type:=(Int×Unit)
def uX3 (y:vY6)(x:vM1):Prop×Bool×vM1×Bool×Bool:=
 let a1:=y.1
 let a18:=x.1
 let v19:=(decide (a18<y.2.2.2.1))
 let v24:=(decide ((wT5 a1 a18)<32))
 let v30:=(bif v24 then true else (decide ((wT5 a1 a18)>126)))
 let v36:=(bif v30 then ((wT5 a1 a18)!=10) else false)
 ((v19=true→(InB a18 (len a1)∧(((!v24)=true→InB a18 (len a1))∧((v30=true→InB a18 (len a1))∧((!v36)=true→InR (a18+1)))))),(v19&&(!v36)),((a18+1),()),(v19&&v36),(!v19))
def uX4 y x:=(uX3 y x).1
def sC3 y x:=(uX3 y x).2.1
def uQ4 y x:=(uX3 y x).2.2.1
def tN6 y x:=(uX3 y x).2.2.2.1
def sM1 y x:=(uX3 y x).2.2.2.2
instance (y x):Decidable (uX4 y x):=by unfold uX4 uX3;dsimp only;infer_instance
def uQ5 (y:vY6)(x:vM1):Int:=
 (4:Int)
def rP5:=li [(1,vS),(2,vI),(3,vI),(17,vI)] [(18,vI)] sC3 uQ4 uX4 (fun y x=>[ex 1 (some (tN6 y x)) [(8,vI)] ((uQ5 y x),()),ex 2 (some (sM1 y x)) [(1,vS),(2,vI),(3,vI)] (y.1,y.2.1,y.2.2.1,())]) [[(8,vI)],[(1,vS),(2,vI),(3,vI)]]
def qI4 (p0:D190)(p1:List UInt8)(p2:Int)(p3:Int):Prop×Int:=
 let v12:=(f178 p0)
 let v14:=(v12 !=0)
 let y5:=(p1,p2,p3,(len p1),())
 let x5:=((0:Int),())
 let e5:=(zC4 (sC3 y5) (uQ4 y5) x5)
 let v40:=(decide ((len p1)>128))
 let v43:=(!(f179 p2 (1:Int) (1048576:Int)))
 let m8_3:=(bif v14 then v12 else (bif (tN6 y5 e5) then (uQ5 y5 e5) else (bif v40 then (3:Int) else (bif (bif v43 then true else (!(f179 p3 (0:Int) (1048576:Int)))) then (2:Int) else (0:Int)))))
 (((sC2 p0)∧((!v14)=true→((xQ5 (sC3 y5) (uQ4 y5) (uX4 y5) x5)∧((sM1 y5 e5)=true→((!v40)=true→((vO0 p2 (1:Int) (1048576:Int))∧((!v43)=true→(vO0 p3 (0:Int) (1048576:Int))))))))),m8_3)
def sC4 p0 p1 p2 p3:=(qI4 p0 p1 p2 p3).1
def f160 p0 p1 p2 p3:=(qI4 p0 p1 p2 p3).2
instance (p0 p1 p2 p3):Decidable (sC4 p0 p1 p2 p3):=by unfold sC4 qI4;dsimp only;infer_instance
theorem pD8:SK 160 (sp4 (.val T190) vS vI vI vI sC4 f160):=fb Tryz.func160 49 [kb pD7,kb rE3] [(5,rP5)]
abbrev uQ6:Type:=(D190×Unit×(D190×(List Int)×Unit)×(List D218)×Int×Unit)
abbrev vY7:Type:=(Int×Int×Unit)
def tV (y:uQ6)(x:vY7):Prop×Bool×vY7:=
 let a14:=y.2.2.2.1
 let a16:=x.2.1
 let v17:=(decide (a16<y.2.2.2.2.1))
 ((v17=true→(InB a16 (len a14)∧InR (a16+1))),v17,((bif ((nth a14 a16 Z218).1==63) then a16 else x.1),(a16+1),()))
def uX5 y x:=(tV y x).1
def sC5 y x:=(tV y x).2.1
def uQ7 y x:=(tV y x).2.2
instance (y x):Decidable (uX5 y x):=by unfold uX5 tV;dsimp only;infer_instance
def tR4 (y:uQ6)(x:vY7):Int:=
 x.1
def sM2:List (Nat×Sh):=[(1,(.box T190 (.val T190))),(3,(.ref 12 T239)),(4,vI),(12,(.box T239 (.agg (.cons T190 (.cons (.arr 256 (.int .i64)) .nl)) (.cons (.val T190) (.cons (.val (.arr 256 (.int .i64))) .nl)))))]
def rP6:=li [(1,(.box T190 (.val T190))),(3,(.ref 12 T239)),(12,(.box T239 (.agg (.cons T190 (.cons (.arr 256 (.int .i64)) .nl)) (.cons (.val T190) (.cons (.val (.arr 256 (.int .i64))) .nl))))),(14,(.val (.sl T218))),(15,vI)] [(4,vI),(16,vI)] sC5 uQ7 uX5 (fun y x=>[ex 2 none sM2 (y.1,y.2.1,(tR4 y x),y.2.2.1,())]) [sM2]
abbrev uG0:Type:=(D190×Unit×Int×Unit)
abbrev vO3:Type:=((D190×(List Int)×Unit)×Int×Unit)
def tH2 (y:uG0)(x:vO3):Prop×Bool×vO3:=
 let a12:=x.1
 let a26:=x.2.1
 let v27:=(decide (a26<256))
 ((v27=true→(InB a26 256∧InR (a26+1))),v27,((a12.1,(List.set a12.2.1 (Int.toNat a26) y.2.2.1),()),(a26+1),()))
def uJ8 y x:=(tH2 y x).1
def tN7 y x:=(tH2 y x).2.1
def uJ9 y x:=(tH2 y x).2.2
instance (y x):Decidable (uJ8 y x):=by unfold uJ8 tH2;dsimp only;infer_instance
def tH3 (y:uG0)(x:vO3):(D190×(List Int)×Unit):=
 let a12:=x.1
 (a12.1,a12.2.1,())
def sC6:List (Nat×Sh):=[(1,(.box T190 (.val T190))),(3,(.ref 12 T239)),(12,(.box T239 (.agg (.cons T190 (.cons (.arr 256 (.int .i64)) .nl)) (.cons (.val T190) (.cons (.val (.arr 256 (.int .i64))) .nl)))))]
def rE7:=li [(1,(.box T190 (.val T190))),(3,(.ref 12 T239)),(4,vI)] [(12,(.box T239 (.agg (.cons T190 (.cons (.arr 256 (.int .i64)) .nl)) (.cons (.val T190) (.cons (.val (.arr 256 (.int .i64))) .nl))))),(26,vI)] tN7 uJ9 uJ8 (fun y x=>[ex 4 none sC6 (y.1,y.2.1,(tH3 y x),())]) [sC6]
abbrev uG1:Type:=(Unit×(List D218)×Int×Unit)
abbrev vO4:Type:=((D190×(List Int)×Unit)×Int×Unit)
def tH4 (y:uG1)(x:vO4):Prop×Bool×vO4:=
 let a37:=y.2.1
 let a12:=x.1
 let a39:=x.2.1
 let v40:=(decide (a39<y.2.2.1))
 let v42:=(nth a37 a39 Z218)
 ((v40=true→(InB a39 (len a37)∧(InB v42.1 256∧InR (a39+1)))),v40,((a12.1,(List.set a12.2.1 (Int.toNat v42.1) a39),()),(a39+1),()))
def uK y x:=(tH4 y x).1
def tN8 y x:=(tH4 y x).2.1
def uK0 y x:=(tH4 y x).2.2
instance (y x):Decidable (uK y x):=by unfold uK tH4;dsimp only;infer_instance
def tH5 (y:uG1)(x:vO4):(D190×(List Int)×Unit):=
 let a12:=x.1
 (a12.1,a12.2.1,())
def sC7:List (Nat×Sh):=[(3,(.ref 12 T239)),(12,(.box T239 (.agg (.cons T190 (.cons (.arr 256 (.int .i64)) .nl)) (.cons (.val T190) (.cons (.val (.arr 256 (.int .i64))) .nl)))))]
def rE8:=li [(3,(.ref 12 T239)),(37,(.val (.sl T218))),(38,vI)] [(12,(.box T239 (.agg (.cons T190 (.cons (.arr 256 (.int .i64)) .nl)) (.cons (.val T190) (.cons (.val (.arr 256 (.int .i64))) .nl))))),(39,vI)] tN8 uK0 uK (fun y x=>[ex 6 none sC7 (y.1,(tH5 y x),())]) [sC7]
def pD9 (p0:D190):Prop×D239:=
 let y4:=(p0,(),(p0,(List.replicate 256 (0:Int)),()),p0.2.2.2.1,(len p0.2.2.2.1),())
 let x4:=((-1:Int),(0:Int),())
 let y10:=(p0,(),(tR4 y4 (zC4 (sC5 y4) (uQ7 y4) x4)),())
 let x10:=((p0,(List.replicate 256 (0:Int)),()),(0:Int),())
 let r10_4_0:=(tH3 y10 (zC4 (tN7 y10) (uJ9 y10) x10))
 let y15:=((),p0.2.2.2.1,(len p0.2.2.2.1),())
 let x15:=((r10_4_0.1,r10_4_0.2.1,()),(0:Int),())
 let r15_6_0:=(tH5 y15 (zC4 (tN8 y15) (uK0 y15) x15))
 (((xQ5 (sC5 y4) (uQ7 y4) (uX5 y4) x4)∧((xQ5 (tN7 y10) (uJ9 y10) (uJ8 y10) x10)∧(xQ5 (tN8 y15) (uK0 y15) (uK y15) x15))),(r15_6_0.1,r15_6_0.2.1,()))
def sC8 p0:=(pD9 p0).1
def f161 p0:=(pD9 p0).2
instance (p0):Decidable (sC8 p0):=by unfold sC8 pD9;dsimp only;infer_instance
theorem pE:SK 161 (sp1 (.val T190) (.val (.ptr T239)) sC8 f161):=fb Tryz.func161 53 [] [(4,rP6),(10,rE7),(15,rE8)] [(39,[(3,12,0,0)])]
end Go.Proofs.YtmbjipigimohbaaGreatDoor.Am
