/- Printed by program, part 2. No condition. -/
import Derived.Test.YtofmmkikplmlpaaGreatDoorDckL
set_option linter.unusedVariables false
set_option synthInstance.maxSize 4000
set_option synthInstance.maxHeartbeats 400000
namespace Go.Proofs.YtofmmkikplmlpaaGreatDoor.Am
open Go Go.Am Go.Proofs
def f52t :Prop×Int:=
 (True,(4:Int))
def sD :Prop:=(f52t).1
def f52 :Int:=(f52t).2
instance:Decidable sD:=by unfold sD f52t;dsimp only;infer_instance
def qF2:Am.Spec:=fnSpec [] vI [] (fun x=>sD ) (fun x=>f52 ) (fun _=>())
theorem pN6:SK 52 (fnSpec [] vI [] (fun x=>sD ) (fun x=>f52 ) (fun _=>())):=fb Tryz.func52 1
def f28t (p0:D28):Prop×Int:=
 let v20:=(bif (bif (bif (decide (p0.1<1)) then true else (decide (p0.1>256))) then true else (decide (p0.2.1<1))) then true else (decide (p0.2.1>256)))
 let v23:=(decide (p0.2.2.1<0))
 (((!v20)=true→((!v23)=true→sD)),(bif v20 then (15:Int) else (bif (bif v23 then true else (decide (p0.2.2.1≥f52))) then (2:Int) else (0:Int))))
def sD0 p0:=(f28t p0).1
def f28 p0:=(f28t p0).2
instance (p0):Decidable (sD0 p0):=by unfold sD0 f28t;dsimp only;infer_instance
def qF3:=sp1 (.val T28) vI sD0 f28
def qU3:=Cy [(52,qF2)] [] [] 30
theorem pN7:SK 28 qF3:=fq (c:=qU3) Tryz.func28 ⟨pN6,trivial⟩
def f63t (p0:Int):Prop×Bool:=
 (True,(bif (decide (p0≥0)) then (decide (p0≤65535)) else false))
def sP6 p0:=(f63t p0).1
def f63 p0:=(f63t p0).2
instance (p0):Decidable (sP6 p0):=by unfold sP6 f63t;dsimp only;infer_instance
theorem pN8:SK 63 (sp1 vI vB sP6 f63):=fb Tryz.func63 9
abbrev vX9:Type:=((List Int)×Int×Unit)
abbrev vH6:Type:=(Int×Unit)
def tC5 (y:vX9)(x:vH6):Prop×Bool×vH6×Bool×Bool:=
 let a42:=y.1
 let a44:=x.1
 let v45:=(decide (a44<y.2.1))
 let v46:=(nth a42 a44 (0:Int))
 let v50:=(!(f63 v46))
 ((v45=true→(InB a44 (len a42)∧((sP6 v46)∧((!v50)=true→InR (a44+1))))),(v45&&(!v50)),((a44+1),()),(v45&&v50),(!v45))
def uT9 y x:=(tC5 y x).1
def sK0 y x:=(tC5 y x).2.1
def uQ0 y x:=(tC5 y x).2.2.1
def sP7 y x:=(tC5 y x).2.2.2.1
def rR3 y x:=(tC5 y x).2.2.2.2
instance (y x):Decidable (uT9 y x):=by unfold uT9 tC5;dsimp only;infer_instance
def tO7 (y:vX9)(x:vH6):Int:=
 (2:Int)
def rR4:=li [(42,(.val (.sl (.int .i64)))),(43,vI)] [(44,vI)] sK0 uQ0 uT9 (fun y x=>[ex 1 (some (sP7 y x)) [(2,vI)] ((tO7 y x),()),ex 2 (some (rR3 y x)) [] ()]) [[(2,vI)],[]]
def f34t (p0:D24):Prop×Int:=
 let v22:=(bif (bif (bif (decide (p0.1<0)) then true else (decide (p0.1>256))) then true else (decide (p0.2.1<0))) then true else (decide (p0.2.1>256)))
 let v29:=(!(Ty.eqb .bool (p0.1==0) (p0.2.1==0)))
 let v40:=(bif v29 then true else ((len p0.2.2.1)!=(p0.1*p0.2.1)))
 let y6:=(p0.2.2.1,(len p0.2.2.1),())
 let x6:=((0:Int),())
 let e6:=(zB9 (sK0 y6) (uQ0 y6) x6)
 (((!v22)=true→(((!v29)=true→InR (p0.1*p0.2.1))∧((!v40)=true→(xB7 (sK0 y6) (uQ0 y6) (uT9 y6) x6)))),(bif v22 then (15:Int) else (bif v40 then (15:Int) else (bif (sP7 y6 e6) then (tO7 y6 e6) else (0:Int)))))
def sD1 p0:=(f34t p0).1
def f34 p0:=(f34t p0).2
instance (p0):Decidable (sD1 p0):=by unfold sD1 f34t;dsimp only;infer_instance
theorem qO:SK 34 (sp1 (.val T24) vI sD1 f34):=fb Tryz.func34 52 [kb pN8] [(6,rR4)]
def f55t (p0:D91):Prop×Bool:=
 (True,(bif (bif (p0.2.1==7) then true else (p0.2.1==8)) then true else (p0.2.1==11)))
def tO8 p0:=(f55t p0).1
def f55 p0:=(f55t p0).2
instance (p0):Decidable (tO8 p0):=by unfold tO8 f55t;dsimp only;infer_instance
theorem rR5:SK 55 (sp1 (.val T91) vB tO8 f55):=fb Tryz.func55 16
def f97t (p0:Int):Prop×(List UInt8):=
 let v5:=(p0==1)
 let v7:=(p0==2)
 let v9:=(p0==3)
 let v11:=(p0==4)
 let v13:=(p0==5)
 let v15:=(p0==6)
 let v17:=(p0==7)
 let v19:=(p0==8)
 let v21:=(p0==9)
 let v23:=(p0==10)
 let m2_2:=(bif v19 then ([102,105,108,116,101,114]:List UInt8) else (bif v21 then ([108,105,110,107]:List UInt8) else (bif v23 then ([99,108,111,110,101]:List UInt8) else ([119,97,114,112]:List UInt8))))
 let m2_6:=(bif v11 then ([103,114,97,100,105,101,110,116]:List UInt8) else (bif v13 then ([112,97,116,104]:List UInt8) else (bif v15 then ([116,101,120,116]:List UInt8) else (bif v17 then ([97,100,106,117,115,116]:List UInt8) else m2_2))))
 let c_14:=(bif v9 then true else (bif v11 then true else (bif v13 then true else (bif v15 then true else (bif v17 then true else (bif v19 then true else (bif v21 then true else (bif v23 then true else (p0==11)))))))))
 let m2_10:=(bif (bif v5 then true else (bif v7 then true else c_14)) then (bif v5 then ([103,114,111,117,112]:List UInt8) else (bif v7 then ([105,109,97,103,101]:List UInt8) else (bif v9 then ([102,105,108,108]:List UInt8) else m2_6))) else ([]:List UInt8))
 (True,m2_10)
def sP8 p0:=(f97t p0).1
def f97 p0:=(f97t p0).2
instance (p0):Decidable (sP8 p0):=by unfold sP8 f97t;dsimp only;infer_instance
theorem pN9:SK 97 (sp1 vI vS sP8 f97):=fb Tryz.func97 26
abbrev vY:Type:=((List UInt8)×Int×Unit)
abbrev vH7:Type:=(Int×Unit)
def tC6 (y:vY)(x:vH7):Prop×Bool×vH7×Bool×Bool:=
 let a0:=y.1
 let a14:=x.1
 let v15:=(decide (a14<y.2.1))
 let v20:=(decide ((wJ5 a0 a14)<33))
 let v26:=(bif v20 then true else (decide ((wJ5 a0 a14)>126)))
 ((v15=true→(InB a14 (len a0)∧(((!v20)=true→InB a14 (len a0))∧((!v26)=true→InR (a14+1))))),(v15&&(!v26)),((a14+1),()),(v15&&v26),(!v15))
def uU y x:=(tC6 y x).1
def sK1 y x:=(tC6 y x).2.1
def uQ1 y x:=(tC6 y x).2.2.1
def sP9 y x:=(tC6 y x).2.2.2.1
def rR6 y x:=(tC6 y x).2.2.2.2
instance (y x):Decidable (uU y x):=by unfold uU tC6;dsimp only;infer_instance
def tO9 (y:vY)(x:vH7):Bool:=
 false
def rR7:=li [(0,vS),(13,vI)] [(14,vI)] sK1 uQ1 uU (fun y x=>[ex 1 (some (sP9 y x)) [(2,vB)] ((tO9 y x),()),ex 2 (some (rR6 y x)) [] ()]) [[(2,vB)],[]]
def f98t (p0:List UInt8):Prop×Bool:=
 let v11:=(bif (decide ((len p0)<1)) then true else (decide ((len p0)>32)))
 let y4:=(p0,(len p0),())
 let x4:=((0:Int),())
 let e4:=(zB9 (sK1 y4) (uQ1 y4) x4)
 (((!v11)=true→(xB7 (sK1 y4) (uQ1 y4) (uU y4) x4)),(bif v11 then false else (bif (sP9 y4 e4) then (tO9 y4 e4) else true)))
def sQ p0:=(f98t p0).1
def f98 p0:=(f98t p0).2
instance (p0):Decidable (sQ p0):=by unfold sQ f98t;dsimp only;infer_instance
theorem pO:SK 98 (sp1 vS vB sQ f98):=fb Tryz.func98 28 [] [(4,rR7)]
def f99t (p0:Int):Prop×Bool:=
 (True,(bif (decide (p0≥0)) then (decide (p0≤1073741824)) else false))
def sD2 p0:=(f99t p0).1
def f99 p0:=(f99t p0).2
instance (p0):Decidable (sD2 p0):=by unfold sD2 f99t;dsimp only;infer_instance
theorem pO0:SK 99 (sp1 vI vB sD2 f99):=fb Tryz.func99 9
def qU4 (p0:Int):Prop×Bool:=
 (True,(bif (decide (p0≥0)) then (decide (p0≤65535)) else false))
def tP p0:=(qU4 p0).1
def f100 p0:=(qU4 p0).2
instance (p0):Decidable (tP p0):=by unfold tP qU4;dsimp only;infer_instance
theorem qU5:SK 100 (sp1 vI vB tP f100):=fb Tryz.func100 9
def qU6 (p0:Int):Prop×Bool:=
 (True,(bif (decide (p0≥0)) then (decide (p0<18)) else false))
def tP0 p0:=(qU6 p0).1
def f101 p0:=(qU6 p0).2
instance (p0):Decidable (tP0 p0):=by unfold tP0 qU6;dsimp only;infer_instance
theorem qU7:SK 101 (sp1 vI vB tP0 f101):=fb Tryz.func101 9
def f74t (p0:D91)(p1:Int)(p2:Int):Prop×Int:=
 let v21:=(bif (bif (bif (decide (p1<1)) then true else (decide (p1>256))) then true else (decide (p2<1))) then true else (decide (p2>256)))
 let v25:=((f97 p0.2.1)==([]:List UInt8))
 let v29:=(!(f98 p0.2.2.2.1))
 let v33:=(!(f99 p0.1))
 let v39:=(bif v33 then true else (!(f99 p0.2.2.1)))
 let v45:=(bif v39 then true else (!(f100 p0.2.2.2.2.2.2.2.1)))
 let v49:=(!(f101 p0.2.2.2.2.2.2.2.2.1))
 let v58:=(bif v49 then true else (bif (f55 p0) then (p0.2.2.2.2.2.2.2.2.1 !=0) else false))
 let v61:=(f34 p0.2.2.2.2.2.2.2.2.2.1)
 let m6_1:=(bif (v61 !=0) then v61 else (bif (bif (p0.2.2.2.2.2.2.2.2.2.1.1 !=0) then (bif (p0.2.2.2.2.2.2.2.2.2.1.1 !=p1) then true else (p0.2.2.2.2.2.2.2.2.2.1.2.1 !=p2)) else false) then (15:Int) else (0:Int)))
 (((!v21)=true→((sP8 p0.2.1)∧((!v25)=true→((sQ p0.2.2.2.1)∧((!v29)=true→((sD2 p0.1)∧(((!v33)=true→(sD2 p0.2.2.1))∧(((!v39)=true→(tP p0.2.2.2.2.2.2.2.1))∧((!v45)=true→((tP0 p0.2.2.2.2.2.2.2.2.1)∧(((!v49)=true→(tO8 p0))∧((!v58)=true→(sD1 p0.2.2.2.2.2.2.2.2.2.1))))))))))))),(bif v21 then (15:Int) else (bif v25 then (8:Int) else (bif v29 then (13:Int) else (bif v45 then (2:Int) else (bif v58 then (8:Int) else m6_1))))))
def sQ0 p0 p1 p2:=(f74t p0 p1 p2).1
def f74 p0 p1 p2:=(f74t p0 p1 p2).2
instance (p0 p1 p2):Decidable (sQ0 p0 p1 p2):=by unfold sQ0 f74t;dsimp only;infer_instance
theorem pO1:SK 74 (sp3 (.val T91) vI vI vI sQ0 f74):=fb Tryz.func74 83 [kb qO,kb rR5,kb pN9,kb pO,kb pO0,kb qU5,kb qU7]
def f75t (p0:Int):Prop×Bool:=
 let v5:=(p0==2)
 let v6:=(p0==5)
 let v7:=(p0==6)
 let v8:=(p0==9)
 (True,(bif (bif v5 then v5 else (bif v6 then v6 else (bif v7 then v7 else (bif v8 then v8 else (p0==10))))) then true else false))
def sD3 p0:=(f75t p0).1
def f75 p0:=(f75t p0).2
instance (p0):Decidable (sD3 p0):=by unfold sD3 f75t;dsimp only;infer_instance
theorem qO0:SK 75 (sp1 vI vB sD3 f75):=fb Tryz.func75 10
def qU8 (p0:Int)(p1:Int)(p2:Int):Prop×Int:=
 (True,(wI6 p2 (wI5 p0 p1)))
def uQ2 p0 p1 p2:=(qU8 p0 p1 p2).1
def f132 p0 p1 p2:=(qU8 p0 p1 p2).2
instance (p0 p1 p2):Decidable (uQ2 p0 p1 p2):=by unfold uQ2 qU8;dsimp only;infer_instance
theorem sZ0:SK 132 (sp3 vI vI vI vI uQ2 f132):=fb Tryz.func132 12 [] [] [] true
def qU9 (p0:Int):Prop×Int:=
 ((uQ2 p0 (-16777216:Int) (16777216:Int)),(f132 p0 (-16777216:Int) (16777216:Int)))
def uD0 p0:=(qU9 p0).1
def f114 p0:=(qU9 p0).2
instance (p0):Decidable (uD0 p0):=by unfold uD0 qU9;dsimp only;infer_instance
theorem qV:SK 114 (sp1 vI vI uD0 f114):=fb Tryz.func114 5 [kb sZ0]
def qV0 (p0:Int):Prop×Int:=
 ((uQ2 p0 (-1099511627776:Int) (1099511627776:Int)),(f132 p0 (-1099511627776:Int) (1099511627776:Int)))
def vT3 p0:=(qV0 p0).1
def f115 p0:=(qV0 p0).2
instance (p0):Decidable (vT3 p0):=by unfold vT3 qV0;dsimp only;infer_instance
theorem rR8:SK 115 (sp1 vI vI vT3 f115):=fb Tryz.func115 5 [kb sZ0] [] [] true
def qV1 (p0:D79):Prop×D79:=
 (((uD0 p0.1)∧((uD0 p0.2.1)∧((uD0 p0.2.2.1)∧((uD0 p0.2.2.2.1)∧((vT3 p0.2.2.2.2.1)∧(vT3 p0.2.2.2.2.2.1)))))),((f114 p0.1),(f114 p0.2.1),(f114 p0.2.2.1),(f114 p0.2.2.2.1),(f115 p0.2.2.2.2.1),(f115 p0.2.2.2.2.2.1),()))
def tC7 p0:=(qV1 p0).1
def f102 p0:=(qV1 p0).2
instance (p0):Decidable (tC7 p0):=by unfold tC7 qV1;dsimp only;infer_instance
theorem rR9:SK 102 (sp1 (.val T79) (.val T79) tC7 f102):=fb Tryz.func102 22 [kb qV,kb rR8] [] [] true
def f76t (p0:D79):Prop×Int:=
 ((tC7 p0),(bif (!(Ty.eqb T79 p0 (f102 p0))) then (2:Int) else (0:Int)))
def uO7 p0:=(f76t p0).1
def f76 p0:=(f76t p0).2
instance (p0):Decidable (uO7 p0):=by unfold uO7 f76t;dsimp only;infer_instance
theorem rG7:SK 76 (sp1 (.val T79) vI uO7 f76):=fb Tryz.func76 7 [kb rR9]
def qV2 (p0:Int)(p1:Int)(p2:Int)(p3:Int):Prop×Int:=
 let v12:=(f116 p1 (65536:Int))
 let v14:=(f116 p3 (65536:Int))
 let v34:=(IntKind.wrap .i64 ((IntKind.wrap .i64 (p0*(IntKind.wrap .i64 (p1-(IntKind.wrap .i64 (v12*65536))))))+(IntKind.wrap .i64 (p2*(IntKind.wrap .i64 (p3-(IntKind.wrap .i64 (v14*65536))))))))
 (((uQ p1 (65536:Int))∧((uQ p3 (65536:Int))∧(wN1 v34 (65536:Int)))),(IntKind.wrap .i64 ((IntKind.wrap .i64 ((IntKind.wrap .i64 (p0*v12))+(IntKind.wrap .i64 (p2*v14))))+(f103 v34 (65536:Int)))))
def uD1 p0 p1 p2 p3:=(qV2 p0 p1 p2 p3).1
def f104 p0 p1 p2 p3:=(qV2 p0 p1 p2 p3).2
instance (p0 p1 p2 p3):Decidable (uD1 p0 p1 p2 p3):=by unfold uD1 qV2;dsimp only;infer_instance
theorem rS:SK 104 (sp4 vI vI vI vI vI uD1 f104):=fb Tryz.func104 37 [kb vM0,kb rQ7] [] [] true
def f77t (p0:D79):Prop×(D79×Int×Unit):=
 let v8:=(f76 p0)
 let v10:=(v8 !=0)
 let v23:=(IntKind.wrap .i64 ((IntKind.wrap .i64 (p0.1*p0.2.2.2.1))-(IntKind.wrap .i64 (p0.2.1*p0.2.2.1))))
 let v25:=(v23==0)
 let v29:=(IntKind.wrap .i64 (p0.2.2.2.1*4294967296))
 let v31:=(f103 v29 v23)
 let v35:=(IntKind.wrap .i64 ((IntKind.wrap .i64 (Int.sub 0 p0.2.1))*4294967296))
 let v37:=(f103 v35 v23)
 let v41:=(IntKind.wrap .i64 ((IntKind.wrap .i64 (Int.sub 0 p0.2.2.1))*4294967296))
 let v43:=(f103 v41 v23)
 let v46:=(IntKind.wrap .i64 (p0.1*4294967296))
 let v48:=(f103 v46 v23)
 let s_2:=(v31,v37,v43,v48,(0:Int),(0:Int),())
 let v52:=((f76 s_2)!=0)
 let v56:=(IntKind.wrap .i64 (Int.sub 0 v31))
 let v61:=(IntKind.wrap .i64 (Int.sub 0 v43))
 let v68:=(IntKind.wrap .i64 (Int.sub 0 v37))
 let v73:=(IntKind.wrap .i64 (Int.sub 0 v48))
 let s_5:=(v31,v37,v43,v48,(f104 v56 p0.2.2.2.2.1 v61 p0.2.2.2.2.2.1),(f104 v68 p0.2.2.2.2.1 v73 p0.2.2.2.2.2.1),())
 let v80:=((f76 s_5)!=0)
 let m2_2:=(bif v25 then ((0:Int),(0:Int),(0:Int),(0:Int),(0:Int),(0:Int),()) else (bif v52 then ((0:Int),(0:Int),(0:Int),(0:Int),(0:Int),(0:Int),()) else (bif v80 then ((0:Int),(0:Int),(0:Int),(0:Int),(0:Int),(0:Int),()) else s_5)))
 (((uO7 p0)∧((!v10)=true→((!v25)=true→((wN1 v29 v23)∧((wN1 v35 v23)∧((wN1 v41 v23)∧((wN1 v46 v23)∧((uO7 s_2)∧((!v52)=true→((uD1 v56 p0.2.2.2.2.1 v61 p0.2.2.2.2.2.1)∧((uD1 v68 p0.2.2.2.2.1 v73 p0.2.2.2.2.2.1)∧(uO7 s_5)))))))))))),((bif v10 then ((0:Int),(0:Int),(0:Int),(0:Int),(0:Int),(0:Int),()) else m2_2),(bif v10 then v8 else (bif v25 then (17:Int) else (bif v52 then (17:Int) else (bif v80 then (17:Int) else (0:Int))))),()))
def sQ1 p0:=(f77t p0).1
def f77 p0:=(f77t p0).2
instance (p0):Decidable (sQ1 p0):=by unfold sQ1 f77t;dsimp only;infer_instance
theorem pO2:SK 77 (sp1 (.val T79) (.tup (.cons (.val T79) (.cons vI .nl))) sQ1 f77):=fb Tryz.func77 83 [kb rG7,kb vM0,kb rS] [] [] true
def f78t (p0:Int):Prop×Bool:=
 let v5:=(p0==2)
 let v6:=(p0==9)
 let v7:=(p0==10)
 (True,(bif (bif v5 then v5 else (bif v6 then v6 else (bif v7 then v7 else (p0==11)))) then true else false))
def sD4 p0:=(f78t p0).1
def f78 p0:=(f78t p0).2
instance (p0):Decidable (sD4 p0):=by unfold sD4 f78t;dsimp only;infer_instance
theorem qO1:SK 78 (sp1 vI vB sD4 f78):=fb Tryz.func78 9
def f79t (p0:Int):Prop×Bool:=
 (True,(bif (decide (p0≥0)) then (decide (p0≤4)) else false))
def sQ2 p0:=(f79t p0).1
def f79 p0:=(f79t p0).2
instance (p0):Decidable (sQ2 p0):=by unfold sQ2 f79t;dsimp only;infer_instance
theorem pO3:SK 79 (sp1 vI vB sQ2 f79):=fb Tryz.func79 9
def f83t (p0:Int)(p1:Int):Prop×Bool:=
 (True,(bif (bif (bif (bif (decide (p0≥0)) then (decide (p0≤256)) else false) then (decide (p1≥0)) else false) then (decide (p1≤256)) else false) then (Ty.eqb .bool (p0==0) (p1==0)) else false))
def sQ3 p0 p1:=(f83t p0 p1).1
def f83 p0 p1:=(f83t p0 p1).2
instance (p0 p1):Decidable (sQ3 p0 p1):=by unfold sQ3 f83t;dsimp only;infer_instance
theorem pO4:SK 83 (sp2 vI vI vB sQ3 f83):=fb Tryz.func83 26
def qV3 (p0:Int):Prop×Int:=
 ((uQ2 p0 (0:Int) (65535:Int)),(f132 p0 (0:Int) (65535:Int)))
def uD2 p0:=(qV3 p0).1
def f131 p0:=(qV3 p0).2
instance (p0):Decidable (uD2 p0):=by unfold uD2 qV3;dsimp only;infer_instance
theorem qV4:SK 131 (sp1 vI vI uD2 f131):=fb Tryz.func131 5 [kb sZ0]
def qV5 (p0:D84):Prop×D84:=
 (((uD2 p0.1)∧((uD2 p0.2.1)∧((uD2 p0.2.2.1)∧(uD2 p0.2.2.2.1)))),((f131 p0.1),(f131 p0.2.1),(f131 p0.2.2.1),(f131 p0.2.2.2.1),()))
def tP1 p0:=(qV5 p0).1
def f112 p0:=(qV5 p0).2
instance (p0):Decidable (tP1 p0):=by unfold tP1 qV5;dsimp only;infer_instance
theorem qV6:SK 112 (sp1 (.val T84) (.val T84) tP1 f112):=fb Tryz.func112 16 [kb qV4]
def f84t (p0:D84):Prop×Bool:=
 ((tP1 p0),(Ty.eqb T84 p0 (f112 p0)))
def tH5 p0:=(f84t p0).1
def f84 p0:=(f84t p0).2
instance (p0):Decidable (tH5 p0):=by unfold tH5 f84t;dsimp only;infer_instance
theorem rG8:SK 84 (sp1 (.val T84) vB tH5 f84):=fb Tryz.func84 7 [kb qV6]
abbrev vY0:Type:=((List D84)×Int×Unit)
abbrev vH8:Type:=(Int×Unit)
def tC8 (y:vY0)(x:vH8):Prop×Bool×vH8×Bool×Bool:=
 let a23:=y.1
 let a25:=x.1
 let v26:=(decide (a25<y.2.1))
 let v27:=(nth a23 a25 Z84)
 let v31:=(!(f84 v27))
 ((v26=true→(InB a25 (len a23)∧((tH5 v27)∧((!v31)=true→InR (a25+1))))),(v26&&(!v31)),((a25+1),()),(v26&&v31),(!v26))
def uU0 y x:=(tC8 y x).1
def sK2 y x:=(tC8 y x).2.1
def uQ3 y x:=(tC8 y x).2.2.1
def sQ4 y x:=(tC8 y x).2.2.2.1
def rS0 y x:=(tC8 y x).2.2.2.2
instance (y x):Decidable (uU0 y x):=by unfold uU0 tC8;dsimp only;infer_instance
def tP2 (y:vY0)(x:vH8):Int:=
 (2:Int)
def rS1:=li [(23,(.val (.sl T84))),(24,vI)] [(25,vI)] sK2 uQ3 uU0 (fun y x=>[ex 1 (some (sQ4 y x)) [(2,vI)] ((tP2 y x),()),ex 2 (some (rS0 y x)) [] ()]) [[(2,vI)],[]]
def f57t (p0:D82):Prop×Int:=
 let v10:=(!(f83 p0.1 p0.2.1))
 let v21:=(bif v10 then true else ((len p0.2.2.1)!=(p0.1*p0.2.1)))
 let y4:=(p0.2.2.1,(len p0.2.2.1),())
 let x4:=((0:Int),())
 let e4:=(zB9 (sK2 y4) (uQ3 y4) x4)
 (((sQ3 p0.1 p0.2.1)∧(((!v10)=true→InR (p0.1*p0.2.1))∧((!v21)=true→(xB7 (sK2 y4) (uQ3 y4) (uU0 y4) x4)))),(bif v21 then (15:Int) else (bif (sQ4 y4 e4) then (tP2 y4 e4) else (0:Int))))
def sD5 p0:=(f57t p0).1
def f57 p0:=(f57t p0).2
instance (p0):Decidable (sD5 p0):=by unfold sD5 f57t;dsimp only;infer_instance
theorem qO2:SK 57 (sp1 (.val T82) vI sD5 f57):=fb Tryz.func57 33 [kb pO4,kb rG8] [(4,rS1)]
def qV7 (p0:D84):Prop×Int:=
 ((tH5 p0),(bif (!(f84 p0)) then (2:Int) else (0:Int)))
def uD3 p0:=(qV7 p0).1
def f105 p0:=(qV7 p0).2
instance (p0):Decidable (uD3 p0):=by unfold uD3 qV7;dsimp only;infer_instance
def rS2:=sp1 (.val T84) vI uD3 f105
theorem sZ1:SK 105 (sp1 (.val T84) vI uD3 f105):=fb Tryz.func105 6 [kb rG8]
def qF4 (p0:Int)(p1:Int):Prop×Bool:=
 (True,(bif (p0==1) then (p1==4) else (p1==3)))
def tP3 p0 p1:=(qF4 p0 p1).1
def f133 p0 p1:=(qF4 p0 p1).2
instance (p0 p1):Decidable (tP3 p0 p1):=by unfold tP3 qF4;dsimp only;infer_instance
theorem qV8:SK 133 (sp2 vI vI vB tP3 f133):=fb Tryz.func133 11
abbrev vM2:Type:=(Int×(List Int)×(List Int)×Int×Unit)
abbrev wZ4:Type:=(Int×Unit)
def uK1 (y:vM2)(x:wZ4):Prop×Bool×wZ4×Bool×Bool:=
 let a36:=y.2.2.1
 let a38:=x.1
 let v39:=(decide (a38<y.2.2.2.1))
 let v40:=(nth a36 a38 (0:Int))
 let v47:=(bif (decide (v40<(-1048576))) then true else (decide (v40>1048576)))
 ((v39=true→(InB a38 (len a36)∧((!v47)=true→InR (a38+1)))),(v39&&(!v47)),((a38+1),()),(v39&&v47),(!v39))
def uK2 y x:=(uK1 y x).1
def tP4 y x:=(uK1 y x).2.1
def uD4 y x:=(uK1 y x).2.2.1
def sD6 y x:=(uK1 y x).2.2.2.1
def sD7 y x:=(uK1 y x).2.2.2.2
instance (y x):Decidable (uK2 y x):=by unfold uK2 uK1;dsimp only;infer_instance
def tH6 (y:vM2)(x:wZ4):Int:=
 (2:Int)
def sD8:List (Nat×Sh):=[(0,vI),(1,(.val (.sl (.int .i64))))]
def rL1:=li [(0,vI),(1,(.val (.sl (.int .i64)))),(36,(.val (.sl (.int .i64)))),(37,vI)] [(38,vI)] tP4 uD4 uK2 (fun y x=>[ex 1 (some (sD6 y x)) [(8,vI)] ((tH6 y x),()),ex 2 (some (sD7 y x)) sD8 (y.1,y.2.1,())]) [[(8,vI)],sD8]
def qV9 (p0:Int)(p1:List Int)(p2:Int)(p3:Int):Prop×Int:=
 let v24:=(bif (bif (bif (decide (p0<1)) then true else (decide (p0>4))) then true else (decide (p2<0))) then true else (decide (p2>2)))
 let v27:=(len p1)
 let v33:=(bif (!(f133 p0 v27)) then true else (p3==0))
 let v35:=(decide (p3>16))
 let y8:=(p0,p1,p1,(len p1),())
 let x8:=((0:Int),())
 let e8:=(zB9 (tP4 y8) (uD4 y8) x8)
 let v54:=(bif (p0==2) then true else (p0==4))
 let m8_3:=(bif v33 then (1:Int) else (bif v35 then (3:Int) else (bif (sD6 y8 e8) then (tH6 y8 e8) else (bif (bif v54 then (decide ((nth p1 (2:Int) (0:Int))<0)) else false) then (2:Int) else (0:Int)))))
 (((!v24)=true→((tP3 p0 v27)∧((!v33)=true→((!v35)=true→((xB7 (tP4 y8) (uD4 y8) (uK2 y8) x8)∧((sD7 y8 e8)=true→(v54=true→InB (2:Int) (len p1)))))))),(bif v24 then (8:Int) else m8_3))
def tP5 p0 p1 p2 p3:=(qV9 p0 p1 p2 p3).1
def f117 p0 p1 p2 p3:=(qV9 p0 p1 p2 p3).2
instance (p0 p1 p2 p3):Decidable (tP5 p0 p1 p2 p3):=by unfold tP5 qV9;dsimp only;infer_instance
theorem qW:SK 117 (sp4 vI (.val (.sl (.int .i64))) vI vI vI tP5 f117):=fb Tryz.func117 61 [kb qV8] [(8,rL1)]
abbrev vM3:Type:=((List D137)×(List D137)×Int×Unit)
abbrev wZ5:Type:=(Int×Unit)
def uK3 (y:vM3)(x:wZ5):Prop×Bool×wZ5×Bool×Bool:=
 let a0:=y.1
 let a5:=y.2.1
 let a7:=x.1
 let v8:=(decide (a7<y.2.2.1))
 let v10:=(nth a5 a7 Z137)
 let v19:=(bif (decide (v10.1<0)) then true else (decide (v10.1>65535)))
 let v25:=(bif v19 then true else (!(f84 v10.2.1)))
 let v27:=(decide (a7>0))
 let v33:=(a7-1)
 let v38:=(bif v27 then (decide (v10.1≤(nth a0 v33 Z137).1)) else false)
 let c_2:=((!v25)&&(!v38))
 ((v8=true→(InB a7 (len a5)∧(((!v19)=true→(tH5 v10.2.1))∧(((!v25)=true→((v27=true→InR (a7-1))∧(v27=true→InB v33 (len a0))))∧(c_2=true→InR (a7+1)))))),(v8&&c_2),((a7+1),()),(v8&&(v25||((!v25)&&v38))),(!v8))
def uK4 y x:=(uK3 y x).1
def tP6 y x:=(uK3 y x).2.1
def uD5 y x:=(uK3 y x).2.2.1
def sD9 y x:=(uK3 y x).2.2.2.1
def rL2 y x:=(uK3 y x).2.2.2.2
instance (y x):Decidable (uK4 y x):=by unfold uK4 uK3;dsimp only;infer_instance
def tH7 (y:vM3)(x:wZ5):Int:=
 let v10:=(nth y.2.1 x.1 Z137)
 (bif (bif (bif (decide (v10.1<0)) then true else (decide (v10.1>65535))) then true else (!(f84 v10.2.1))) then (2:Int) else (24:Int))
def rL3:=li [(0,(.val (.sl T137))),(5,(.val (.sl T137))),(6,vI)] [(7,vI)] tP6 uD5 uK4 (fun y x=>[ex 1 (some (sD9 y x)) [(2,vI)] ((tH7 y x),()),ex 2 (some (rL2 y x)) [] ()]) [[(2,vI)],[]]
def qW0 (p0:List D137):Prop×Int:=
 let y2:=(p0,p0,(len p0),())
 let x2:=((0:Int),())
 let e2:=(zB9 (tP6 y2) (uD5 y2) x2)
 ((xB7 (tP6 y2) (uD5 y2) (uK4 y2) x2),(bif (sD9 y2 e2) then (tH7 y2 e2) else (0:Int)))
def tP7 p0:=(qW0 p0).1
def f118 p0:=(qW0 p0).2
instance (p0):Decidable (tP7 p0):=by unfold tP7 qW0;dsimp only;infer_instance
theorem qW1:SK 118 (sp1 (.val (.sl T137)) vI tP7 f118):=fb Tryz.func118 40 [kb rG8] [(2,rL3)]
def qW2 (p0:Int)(p1:List Int)(p2:Int)(p3:List D137):Prop×Int:=
 let v14:=(len p3)
 let v15:=(f117 p0 p1 p2 v14)
 let v17:=(v15 !=0)
 (((tP5 p0 p1 p2 v14)∧((!v17)=true→(tP7 p3))),(bif v17 then v15 else (f118 p3)))
def tP8 p0 p1 p2 p3:=(qW2 p0 p1 p2 p3).1
def f106 p0 p1 p2 p3:=(qW2 p0 p1 p2 p3).2
instance (p0 p1 p2 p3):Decidable (tP8 p0 p1 p2 p3):=by unfold tP8 qW2;dsimp only;infer_instance
theorem qW3:SK 106 (sp4 vI (.val (.sl (.int .i64))) vI (.val (.sl T137)) vI tP8 f106):=fb Tryz.func106 21 [kb qW,kb qW1]
def qF5 (p0:Int):Prop×Int:=
 let v5:=(p0==3)
 let v7:=(p0==4)
 (True,(bif (bif v5 then true else (bif v7 then true else (p0==5))) then (bif v5 then (2:Int) else (bif v7 then (3:Int) else (0:Int))) else (1:Int)))
def tC9 p0:=(qF5 p0).1
def f135 p0:=(qF5 p0).2
instance (p0):Decidable (tC9 p0):=by unfold tC9 qF5;dsimp only;infer_instance
theorem rS3:SK 135 (sp1 vI vI tC9 f135):=fb Tryz.func135 10
def qW4 (p0:D140):Prop×Bool:=
 (True,(bif (bif (bif (decide (p0.1<(-16777216))) then true else (decide (p0.1>16777216))) then true else (decide (p0.2.1<(-16777216)))) then true else (decide (p0.2.1>16777216))))
def uD6 p0:=(qW4 p0).1
def f137 p0:=(qW4 p0).2
instance (p0):Decidable (uD6 p0):=by unfold uD6 qW4;dsimp only;infer_instance
theorem sZ2:SK 137 (sp1 (.val T140) vB uD6 f137):=fb Tryz.func137 21
abbrev vF3:Type:=((List D143)×Int×D143×(List D143)×Int×Int×(List D140)×Unit)
abbrev wZ6:Type:=(Int×Unit)
def vQ9 (y:vF3)(x:wZ6):Prop×Bool×wZ6×Bool×Bool:=
 let a4:=y.2.2.1
 let a27:=x.1
 let v28:=(decide (a27<3))
 let v30:=(nth y.2.2.2.2.2.2.1 a27 Z140)
 let v32:=(f137 v30)
 let v44:=(bif v32 then true else (bif (decide (a27≥(f135 a4.1))) then (!(Ty.eqb T140 v30 ((0:Int),(0:Int),()))) else false))
 ((v28=true→(InB a27 3∧((uD6 v30)∧(((!v32)=true→(tC9 a4.1))∧((!v44)=true→InR (a27+1)))))),(v28&&(!v44)),((a27+1),()),(v28&&v44),(!v28))
def vK1 y x:=(vQ9 y x).1
def wW9 y x:=(vQ9 y x).2.1
def wQ y x:=(vQ9 y x).2.2.1
def vK2 y x:=(vQ9 y x).2.2.2.1
def tD y x:=(vQ9 y x).2.2.2.2
instance (y x):Decidable (vK1 y x):=by unfold vK1 vQ9;dsimp only;infer_instance
def uD7 (y:vF3)(x:wZ6):Int:=
 (2:Int)
def sE:List (Nat×Sh):=[(0,(.val (.sl T143))),(3,vI),(4,(.box T143 (.val T143))),(10,(.val (.sl T143))),(11,vI),(12,vI)]
def rL4:=li [(0,(.val (.sl T143))),(3,vI),(4,(.box T143 (.val T143))),(10,(.val (.sl T143))),(11,vI),(12,vI),(26,(.val (.arr 3 T140)))] [(27,vI)] wW9 wQ vK1 (fun y x=>[ex 1 (some (vK2 y x)) [(2,vI)] ((uD7 y x),()),ex 4 (some (tD y x)) sE (y.1,y.2.1,y.2.2.1,y.2.2.2.1,y.2.2.2.2.1,y.2.2.2.2.2.1,())]) [[(2,vI)],sE]
abbrev vM4:Type:=((List D143)×(List D143)×Int×Unit)
abbrev wX:Type:=(Int×Unit)
def vH9 (y:vM4)(x:wX):Prop×Bool×wX×Bool×Bool:=
 let a0:=y.1
 let a10:=y.2.1
 let a11:=y.2.2.1
 let a12:=x.1
 let v13:=(decide (a12<a11))
 let v15:=(nth a10 a12 Z143)
 let v24:=(bif (decide (v15.1<1)) then true else (decide (v15.1>5)))
 let y9:=(a0,a12,v15,a10,a11,a12,v15.2.1,())
 let x9:=((0:Int),())
 let e9:=(zB9 (wW9 y9) (wQ y9) x9)
 let q9_4:=(tD y9 e9)
 let v48:=(v15.1 !=1)
 let v51:=(a12==0)
 let v55:=(a12-1)
 let v61:=(bif v48 then (bif v51 then true else ((nth a0 v55 Z143).1==5)) else false)
 let c_5:=((!v24)&&(q9_4&&(!v61)))
 ((v13=true→(InB a12 (len a10)∧(((!v24)=true→((xB7 (wW9 y9) (wQ y9) (vK1 y9) x9)∧(q9_4=true→(((v48&&(!v51))=true→InR (a12-1))∧((v48&&(!v51))=true→InB v55 (len a0))))))∧(c_5=true→InR (a12+1))))),(v13&&c_5),((a12+1),()),(v13&&(v24||((!v24)&&((vK2 y9 e9)||(q9_4&&v61))))),(!v13))
def vU7 y x:=(vH9 y x).1
def wS8 y x:=(vH9 y x).2.1
def wQ0 y x:=(vH9 y x).2.2.1
def vU8 y x:=(vH9 y x).2.2.2.1
def rL5 y x:=(vH9 y x).2.2.2.2
instance (y x):Decidable (vU7 y x):=by unfold vU7 vH9;dsimp only;infer_instance
def uD8 (y:vM4)(x:wX):Int:=
 let a10:=y.2.1
 let a12:=x.1
 let v15:=(nth a10 a12 Z143)
 let y9:=(y.1,a12,v15,a10,y.2.2.1,a12,v15.2.1,())
 let e9:=(zB9 (wW9 y9) (wQ y9) ((0:Int),()))
 (bif (bif (decide (v15.1<1)) then true else (decide (v15.1>5))) then (8:Int) else (bif (vK2 y9 e9) then (uD7 y9 e9) else (24:Int)))
def rL6:=li [(0,(.val (.sl T143))),(10,(.val (.sl T143))),(11,vI)] [(12,vI)] wS8 wQ0 vU7 (fun y x=>[ex 1 (some (vU8 y x)) [(2,vI)] ((uD8 y x),()),ex 2 (some (rL5 y x)) [] ()]) [[(2,vI)],[]]
def qF6 (p0:List D143):Prop×Int:=
 let v9:=(decide ((len p0)>128))
 let y4:=(p0,p0,(len p0),())
 let x4:=((0:Int),())
 let e4:=(zB9 (wS8 y4) (wQ0 y4) x4)
 (((!v9)=true→(xB7 (wS8 y4) (wQ0 y4) (vU7 y4) x4)),(bif v9 then (3:Int) else (bif (vU8 y4 e4) then (uD8 y4 e4) else (0:Int))))
def uD9 p0:=(qF6 p0).1
def f134 p0:=(qF6 p0).2
instance (p0):Decidable (uD9 p0):=by unfold uD9 qF6;dsimp only;infer_instance
theorem sK3:SK 134 (sp1 (.val (.sl T143)) vI uD9 f134):=fb Tryz.func134 63 [kb rS3,kb sZ2] [(4,rL6),(9,rL4)]
def qW5 (p0:D79)(p1:D140):Prop×D140:=
 let v8:=(f102 p0)
 let v11:=(f115 p1.1)
 let v14:=(f115 p1.2.1)
 let v24:=(IntKind.wrap .i64 ((f104 v8.1 v11 v8.2.2.1 v14)+v8.2.2.2.2.1))
 let v35:=(IntKind.wrap .i64 ((f104 v8.2.1 v11 v8.2.2.2.1 v14)+v8.2.2.2.2.2.1))
 (((tC7 p0)∧((vT3 p1.1)∧((vT3 p1.2.1)∧((uD1 v8.1 v11 v8.2.2.1 v14)∧((vT3 v24)∧((uD1 v8.2.1 v11 v8.2.2.2.1 v14)∧(vT3 v35))))))),((f115 v24),(f115 v35),()))
def tP9 p0 p1:=(qW5 p0 p1).1
def f149 p0 p1:=(qW5 p0 p1).2
instance (p0 p1):Decidable (tP9 p0 p1):=by unfold tP9 qW5;dsimp only;infer_instance
theorem qW6:SK 149 (sp2 (.val T79) (.val T140) (.val T140) tP9 f149):=fb Tryz.func149 38 [kb rR9,kb rS,kb rR8] [] [] true
def qW7 (p0:D79)(p1:D140):Prop×D140:=
 let s:=((IntKind.wrap .i64 (4096*p1.1)),(IntKind.wrap .i64 (4096*p1.2.1)),())
 let v14:=(f149 p0 s)
 (((tP9 p0 s)∧((wN1 v14.1 (4096:Int))∧(wN1 v14.2.1 (4096:Int)))),((f103 v14.1 (4096:Int)),(f103 v14.2.1 (4096:Int)),()))
def tD0 p0 p1:=(qW7 p0 p1).1
def f136 p0 p1:=(qW7 p0 p1).2
instance (p0 p1):Decidable (tD0 p0 p1):=by unfold tD0 qW7;dsimp only;infer_instance
theorem rS4:SK 136 (sp2 (.val T79) (.val T140) (.val T140) tD0 f136):=fb Tryz.func136 22 [kb vM0,kb qW6] [] [] true
abbrev wS0:Type:=(D79×Int×D143×(List D143)×Int×Int×Int×Unit)
abbrev wP6:Type:=((List D143)×Int×Unit)
def vU9 (y:wS0)(x:wP6):Prop×Bool×wP6×Bool×Bool:=
 let a3:=y.1
 let a9:=y.2.1
 let a8:=x.1
 let a42:=x.2.1
 let v43:=(decide (a42<y.2.2.2.2.2.2.1))
 let v49:=(nth y.2.2.1.2.1 a42 Z140)
 let v50:=(f136 a3 v49)
 let v52:=(f137 v50)
 ((v43=true→(InB a42 3∧((tD0 a3 v49)∧((uD6 v50)∧(((!v52)=true→(InB a9 (len a8)∧(InB a42 3∧a9<len a8)))∧((!v52)=true→InR (a42+1))))))),(v43&&(!v52)),((List.set a8 (Int.toNat a9) ((nth a8 a9 Z143).1,(List.set (nth a8 a9 Z143).2.1 (Int.toNat a42) v50),())),(a42+1),()),(v43&&v52),(!v43))
def vC1 y x:=(vU9 y x).1
def wV4 y x:=(vU9 y x).2.1
def wN7 y x:=(vU9 y x).2.2.1
def tQ y x:=(vU9 y x).2.2.2.1
def tQ0 y x:=(vU9 y x).2.2.2.2
instance (y x):Decidable (vC1 y x):=by unfold vC1 vU9;dsimp only;infer_instance
def vY1 (y:wS0)(x:wP6):(List D143):=
 ([]:List D143)
def uU1 (y:wS0)(x:wP6):Int:=
 (2:Int)
def tQ1:List (Nat×Sh):=[(4,(.own T143 0 false)),(5,vI)]
def uU2 (y:wS0)(x:wP6):(List D143):=
 x.1
def tQ2:List (Nat×Sh):=[(3,(.box T79 (.val T79))),(8,(.own T143 1008 true)),(26,(.val (.sl T143))),(27,vI),(28,vI)]
def sZ3:=li [(3,(.box T79 (.val T79))),(9,vI),(10,(.box T143 (.val T143))),(26,(.val (.sl T143))),(27,vI),(28,vI),(41,vI)] [(8,(.own T143 1008 true)),(42,vI)] wV4 wN7 vC1 (fun y x=>[ex 1 (some (tQ y x)) tQ1 ((vY1 y x),(uU1 y x),()),ex 4 (some (tQ0 y x)) tQ2 (y.1,(uU2 y x),y.2.2.2.1,y.2.2.2.2.1,y.2.2.2.2.2.1,())]) [tQ1,tQ2]
abbrev wZ7:Type:=(D79×(List D143)×Int×Unit)
abbrev wR8:Type:=((List D143)×Int×Unit)
def uK5 (y:wZ7)(x:wR8):Prop×Bool×wR8×Bool×Bool:=
 let a26:=y.2.1
 let a27:=y.2.2.1
 let a8:=x.1
 let a28:=x.2.1
 let v29:=(decide (a28<a27))
 let v31:=(nth a26 a28 Z143)
 let y13:=(y.1,a28,v31,a26,a27,a28,(f135 v31.1),())
 let x13:=((List.set a8 (Int.toNat a28) (v31.1,(nth a8 a28 Z143).2.1,())),(0:Int),())
 let e13:=(zB9 (wV4 y13) (wN7 y13) x13)
 let q13_4:=(tQ0 y13 e13)
 ((v29=true→(InB a28 (len a26)∧(InB a28 (len a8)∧(a28<len a8∧((tC9 v31.1)∧((xB7 (wV4 y13) (wN7 y13) (vC1 y13) x13)∧(q13_4=true→InR (a28+1)))))))),(v29&&q13_4),((uU2 y13 e13),(a28+1),()),(v29&&(tQ y13 e13)),(!v29))
def vK3 y x:=(uK5 y x).1
def vV y x:=(uK5 y x).2.1
def wS9 y x:=(uK5 y x).2.2.1
def tD1 y x:=(uK5 y x).2.2.2.1
def rL7 y x:=(uK5 y x).2.2.2.2
instance (y x):Decidable (vK3 y x):=by unfold vK3 uK5;dsimp only;infer_instance
def uE (y:wZ7)(x:wR8):(List D143):=
 let a26:=y.2.1
 let a8:=x.1
 let a28:=x.2.1
 let v31:=(nth a26 a28 Z143)
 let y13:=(y.1,a28,v31,a26,y.2.2.1,a28,(f135 v31.1),())
 (vY1 y13 (zB9 (wV4 y13) (wN7 y13) ((List.set a8 (Int.toNat a28) (v31.1,(nth a8 a28 Z143).2.1,())),(0:Int),())))
def tH8 (y:wZ7)(x:wR8):Int:=
 let a26:=y.2.1
 let a8:=x.1
 let a28:=x.2.1
 let v31:=(nth a26 a28 Z143)
 let y13:=(y.1,a28,v31,a26,y.2.2.1,a28,(f135 v31.1),())
 (uU1 y13 (zB9 (wV4 y13) (wN7 y13) ((List.set a8 (Int.toNat a28) (v31.1,(nth a8 a28 Z143).2.1,())),(0:Int),())))
def sE0:List (Nat×Sh):=[(4,(.own T143 0 false)),(5,vI)]
def uE0 (y:wZ7)(x:wR8):(List D143):=
 x.1
def rL8:=li [(3,(.box T79 (.val T79))),(26,(.val (.sl T143))),(27,vI)] [(8,(.own T143 1008 true)),(28,vI)] vV wS9 vK3 (fun y x=>[ex 1 (some (tD1 y x)) sE0 ((uE y x),(tH8 y x),()),ex 2 (some (rL7 y x)) [(8,(.own T143 1008 true))] ((uE0 y x),())]) [sE0,[(8,(.own T143 1008 true))]]
def qF7 (p0:List D143)(p1:D79):Prop×((List D143)×Int×Unit):=
 let v14:=(f134 p0)
 let v16:=(v14 !=0)
 let v19:=(f76 p1)
 let v21:=(v19 !=0)
 let v24:=(len p0)
 let y9:=(p1,p0,(len p0),())
 let x9:=((List.replicate (Int.toNat v24) Z143),(0:Int),())
 let e9:=(zB9 (vV y9) (wS9 y9) x9)
 let q9_1:=(tD1 y9 e9)
 (((uD9 p0)∧((!v16)=true→((uO7 p1)∧((!v21)=true→((0≤v24∧v24≤v24∧v24≤4294967296)∧(xB7 (vV y9) (wS9 y9) (vK3 y9) x9)))))),((bif v16 then [] else (bif v21 then [] else (bif q9_1 then (uE y9 e9) else (uE0 y9 e9)))),(bif v16 then v14 else (bif v21 then v19 else (bif q9_1 then (tH8 y9 e9) else (0:Int)))),()))
def tQ3 p0 p1:=(qF7 p0 p1).1
def f119 p0 p1:=(qF7 p0 p1).2
instance (p0 p1):Decidable (tQ3 p0 p1):=by unfold tQ3 qF7;dsimp only;infer_instance
theorem qW8:SK 119 (sp2 (.val (.sl T143)) (.val T79) (.tup (.cons (.val (.sl T143)) (.cons vI .nl))) tQ3 f119):=fb Tryz.func119 63 [kb rG7,kb sK3,kb rS3,kb rS4,kb sZ2] [(9,rL8),(13,sZ3)] [(15,[(4,0,25,1008)]),(43,[(1,4,0,0),(4,0,1008,0)])] false [] [25]
def uU3 (p0:D140)(p1:List D140):Prop×(Unit)×((List D140)×Unit):=
 let v7:=(IntKind.wrap .i64 ((len p1)-1))
 let v10:=(!(Ty.eqb T140 p0 (nth p1 v7 Z140)))
 let v13:=([p0]:List D140)
 ((InB v7 (len p1)∧(v10=true→((List.length p1+List.length v13:Nat):Int)≤4294967296)),(),((bif v10 then (p1++v13) else p1),()))
def vC2 p0 p1:=(uU3 p0 p1).1
def qW9 p0 p1:=(uU3 p0 p1).2.1
def wT p0 p1:=(uU3 p0 p1).2.2
instance (p0 p1):Decidable (vC2 p0 p1):=by unfold vC2 uU3;dsimp only;infer_instance
theorem rL9:SK 150 (fnSpec [(0,(.val T140)),(1,(.box (.sl T140) (.own T140 400100 false)))] (.tup .nl) [(1,(.box (.sl T140) (.own T140 400100 false)))] (fun x=>vC2 x.1 x.2.1) (fun x=>qW9 x.1 x.2.1) (fun x=>wT x.1 x.2.1)):=fb Tryz.func150 15 [] [] [(5,[(4,0,14,400100)])] true [1]
abbrev wY9:Type:=(D143×D140×(Unit×Unit)×Unit)
abbrev wT0:Type:=((List D140)×Int×Unit)
def vM5 (y:wY9)(x:wT0):Prop×Bool×wT0:=
 let a3:=y.1
 let a5:=y.2.1
 let a2:=x.1
 let a7:=x.2.1
 let v37:=(decide (a7≤8))
 let v41:=(IntKind.wrap .i64 (8-a7))
 let v44:=(IntKind.wrap .i64 (v41*v41))
 let v48:=(IntKind.wrap .i64 ((IntKind.wrap .i64 (2*a7))*v41))
 let v51:=(IntKind.wrap .i64 (a7*a7))
 let v70:=(IntKind.wrap .i64 ((IntKind.wrap .i64 ((IntKind.wrap .i64 (v44*a5.1))+(IntKind.wrap .i64 (v48*((nth a3.2.1 (0:Int) Z140).1)))))+(IntKind.wrap .i64 (v51*((nth a3.2.1 (1:Int) Z140).1)))))
 let v89:=(IntKind.wrap .i64 ((IntKind.wrap .i64 ((IntKind.wrap .i64 (v44*a5.2.1))+(IntKind.wrap .i64 (v48*((nth a3.2.1 (0:Int) Z140).2.1)))))+(IntKind.wrap .i64 (v51*((nth a3.2.1 (1:Int) Z140).2.1)))))
 let s:=((f103 v70 (64:Int)),(f103 v89 (64:Int)),())
 ((v37=true→(InB (0:Int) 3∧(InB (1:Int) 3∧((wN1 v70 (64:Int))∧(InB (0:Int) 3∧(InB (1:Int) 3∧((wN1 v89 (64:Int))∧(vC2 s a2)))))))),v37,((wT s a2).1,(IntKind.wrap .i64 (a7+1)),()))
def wV5 y x:=(vM5 y x).1
def wT1 y x:=(vM5 y x).2.1
def wN4 y x:=(vM5 y x).2.2
instance (y x):Decidable (wV5 y x):=by unfold wV5 vM5;dsimp only;infer_instance
def vM6 (y:wY9)(x:wT0):(List D140):=
 x.1
def uU4:List (Nat×Sh):=[(2,(.box (.sl T140) (.own T140 400200 false)))]
def sK4:=li [(3,(.box T143 (.val T143))),(5,(.box T140 (.val T140))),(6,(.fn 150 (.cons (.ref 2 (.sl T140)) .nl)))] [(2,(.box (.sl T140) (.own T140 400200 false))),(7,vI)] wT1 wN4 wV5 (fun y x=>[ex 3 none uU4 ((vM6 y x),())]) [uU4]
abbrev wV6:Type:=(D143×D140×(Unit×Unit)×Unit)
abbrev wQ7:Type:=((List D140)×Int×Unit)
def vF4 (y:wV6)(x:wQ7):Prop×Bool×wQ7:=
 let a3:=y.1
 let a5:=y.2.1
 let a2:=x.1
 let a12:=x.2.1
 let v96:=(decide (a12≤16))
 let v100:=(IntKind.wrap .i64 (16-a12))
 let v105:=(IntKind.wrap .i64 ((IntKind.wrap .i64 (v100*v100))*v100))
 let v111:=(IntKind.wrap .i64 ((IntKind.wrap .i64 ((IntKind.wrap .i64 (3*a12))*v100))*v100))
 let v117:=(IntKind.wrap .i64 ((IntKind.wrap .i64 ((IntKind.wrap .i64 (3*a12))*a12))*v100))
 let v122:=(IntKind.wrap .i64 ((IntKind.wrap .i64 (a12*a12))*a12))
 let v141:=(IntKind.wrap .i64 ((IntKind.wrap .i64 ((IntKind.wrap .i64 (v105*a5.1))+(IntKind.wrap .i64 (v111*((nth a3.2.1 (0:Int) Z140).1)))))+(IntKind.wrap .i64 (v117*((nth a3.2.1 (1:Int) Z140).1)))))
 let v148:=(IntKind.wrap .i64 (v141+(IntKind.wrap .i64 (v122*((nth a3.2.1 (2:Int) Z140).1)))))
 let v167:=(IntKind.wrap .i64 ((IntKind.wrap .i64 ((IntKind.wrap .i64 (v105*a5.2.1))+(IntKind.wrap .i64 (v111*((nth a3.2.1 (0:Int) Z140).2.1)))))+(IntKind.wrap .i64 (v117*((nth a3.2.1 (1:Int) Z140).2.1)))))
 let v174:=(IntKind.wrap .i64 (v167+(IntKind.wrap .i64 (v122*((nth a3.2.1 (2:Int) Z140).2.1)))))
 let s:=((f103 v148 (4096:Int)),(f103 v174 (4096:Int)),())
 ((v96=true→(InB (0:Int) 3∧(InB (1:Int) 3∧(InB (2:Int) 3∧((wN1 v148 (4096:Int))∧(InB (0:Int) 3∧(InB (1:Int) 3∧(InB (2:Int) 3∧((wN1 v174 (4096:Int))∧(vC2 s a2)))))))))),v96,((wT s a2).1,(IntKind.wrap .i64 (a12+1)),()))
def wS1 y x:=(vF4 y x).1
def wQ8 y x:=(vF4 y x).2.1
def wN y x:=(vF4 y x).2.2
instance (y x):Decidable (wS1 y x):=by unfold wS1 vF4;dsimp only;infer_instance
def vH (y:wV6)(x:wQ7):(List D140):=
 x.1
def uO8:List (Nat×Sh):=[(2,(.box (.sl T140) (.own T140 400200 false)))]
def sC4:=li [(3,(.box T143 (.val T143))),(5,(.box T140 (.val T140))),(6,(.fn 150 (.cons (.ref 2 (.sl T140)) .nl)))] [(2,(.box (.sl T140) (.own T140 400200 false))),(12,vI)] wQ8 wN wS1 (fun y x=>[ex 5 none uO8 ((vH y x),())]) [uO8]
def tL9 (p0:List D140)(p1:D143):Prop×(List D140):=
 let v21:=(IntKind.wrap .i64 ((len p0)-1))
 let v22:=(nth p0 v21 Z140)
 let v28:=(p1.1==2)
 let v32:=(nth p1.2.1 (0:Int) Z140)
 let v35:=(p1.1==3)
 let y8:=(p1,v22,((),()),())
 let x8:=(p0,(1:Int),())
 let v94:=(p1.1==4)
 let y15:=(p1,v22,((),()),())
 let x15:=(p0,(1:Int),())
 let m2_2:=(bif v28 then (wT v32 p0).1 else (bif v35 then (vM6 y8 (zB9 (wT1 y8) (wN4 y8) x8)) else (bif v94 then (vH y15 (zB9 (wQ8 y15) (wN y15) x15)) else p0)))
 ((InB v21 (len p0)∧((v28=true→(InB (0:Int) 3∧(vC2 v32 p0)))∧(v28=false→((v35=true→(xB7 (wT1 y8) (wN4 y8) (wV5 y8) x8))∧(v35=false→(v94=true→(xB7 (wQ8 y15) (wN y15) (wS1 y15) x15))))))),m2_2)
def vV0 p0 p1:=(tL9 p0 p1).1
def uQ4 p0 p1:=(tL9 p0 p1).2
instance (p0 p1):Decidable (vV0 p0 p1):=by unfold vV0 tL9;dsimp only;infer_instance
theorem rM:SK 138 (sp2 (.own T140 400000 false) (.val T143) (.own T140 0 false) vV0 uQ4):=fx (fun c=>{ c with wants:=[(150,[])] }) Tryz.func138 179 [kb vM0,kb rL9] [(8,sK4),(15,sC4)] [(1,[(4,0,400000,400200)]),(41,[(4,0,400200,0)])] true
abbrev uE1:Type:=((List D143)×(List D143)×Int×Unit)
abbrev vF5:Type:=((List (List D140))×(List D140)×Int×Unit)
def uK6 (y:uE1)(x:vF5):Prop×Bool×vF5:=
 let a0:=y.1
 let a14:=y.2.1
 let a5:=x.1
 let a6:=x.2.1
 let a16:=x.2.2.1
 let v17:=(decide (a16<y.2.2.1))
 let v19:=(nth a14 a16 Z143)
 let v23:=(v19.1==1)
 let m6:=(bif v23 then ([(nth v19.2.1 (0:Int) Z140)]:List D140) else (uQ4 a6 v19))
 let v33:=(len a0)
 let v35:=(a16==(v33-1))
 let v39:=(a16+1)
 let v44:=(bif v35 then true else ((nth a0 v39 Z143).1==1))
 let v47:=([m6]:List (List D140))
 ((v17=true→(InB a16 (len a14)∧((v23=true→InB (0:Int) 3)∧((v23=false→(vV0 a6 v19))∧(InR (v33-1)∧(((!v35)=true→InR (a16+1))∧(((!v35)=true→InB v39 (len a0))∧((v44=true→((List.length a5+List.length v47:Nat):Int)≤4294967296)∧InR (a16+1))))))))),v17,((bif v44 then (a5++v47) else a5),m6,(a16+1),()))
def vK4 y x:=(uK6 y x).1
def vV1 y x:=(uK6 y x).2.1
def wQ1 y x:=(uK6 y x).2.2
instance (y x):Decidable (vK4 y x):=by unfold vK4 uK6;dsimp only;infer_instance
def uE2 (y:uE1)(x:vF5):(List (List D140)):=
 x.1
def sE1:List (Nat×Sh):=[(5,(.own (.sl T140) 1005 false))]
def rM0:=li [(0,(.val (.sl T143))),(14,(.val (.sl T143))),(15,vI)] [(5,(.own (.sl T140) 1005 false)),(6,(.own T140 1006 false)),(16,vI)] vV1 wQ1 vK4 (fun y x=>[ex 2 none sE1 ((uE2 y x),())]) [sE1]
def qF8 (p0:List D143):Prop×((List (List D140))×Int×Unit):=
 let v10:=(f134 p0)
 let v12:=(v10 !=0)
 let y7:=(p0,p0,(len p0),())
 let x7:=(([]:List (List D140)),([]:List D140),(0:Int),())
 (((uD9 p0)∧((!v12)=true→(xB7 (vV1 y7) (wQ1 y7) (vK4 y7) x7))),((bif v12 then [] else (uE2 y7 (zB9 (vV1 y7) (wQ1 y7) x7))),(bif v12 then v10 else (0:Int)),()))
def uE3 p0:=(qF8 p0).1
def f120 p0:=(qF8 p0).2
instance (p0):Decidable (uE3 p0):=by unfold uE3 qF8;dsimp only;infer_instance
theorem rS5:SK 120 (sp1 (.val (.sl T143)) (.tup (.cons (.own (.sl T140) 0 false) (.cons vI .nl))) uE3 f120):=fx (fun c=>{ c with wants:=[(138,[0])] }) Tryz.func120 51 [kb sK3,kb rM] [(7,rM0)] [(21,[(4,0,27,1006)]),(23,[(4,0,30,1006)]),(27,[(4,0,48,1005)]),(31,[(4,0,1005,0)])]
abbrev uE4:Type:=((List D143)×(List D143)×Int×Unit)
abbrev vM7:Type:=((List Bool)×Int×Unit)
def uU5 (y:uE4)(x:vM7):Prop×Bool×vM7:=
 let a0:=y.1
 let a13:=y.2.1
 let a5:=x.1
 let a15:=x.2.1
 let v16:=(decide (a15<y.2.2.1))
 let v22:=(len a0)
 let v24:=(a15==(v22-1))
 let v28:=(a15+1)
 let v33:=(bif v24 then true else ((nth a0 v28 Z143).1==1))
 let v38:=([((nth a13 a15 Z143).1 !=5)]:List Bool)
 ((v16=true→(InB a15 (len a13)∧(InR (v22-1)∧(((!v24)=true→InR (a15+1))∧(((!v24)=true→InB v28 (len a0))∧((v33=true→((List.length a5+List.length v38:Nat):Int)≤4294967296)∧InR (a15+1))))))),v16,((bif v33 then (a5++v38) else a5),(a15+1),()))
def uK7 y x:=(uU5 y x).1
def tQ4 y x:=(uU5 y x).2.1
def vR y x:=(uU5 y x).2.2
instance (y x):Decidable (uK7 y x):=by unfold uK7 uU5;dsimp only;infer_instance
def tH9 (y:uE4)(x:vM7):(List Bool):=
 x.1
def rM1:=li [(0,(.val (.sl T143))),(13,(.val (.sl T143))),(14,vI)] [(5,(.own .bool 1005 false)),(15,vI)] tQ4 vR uK7 (fun y x=>[ex 2 none [(5,(.own .bool 1005 false))] ((tH9 y x),())]) [[(5,(.own .bool 1005 false))]]
def qX (p0:List D143):Prop×((List Bool)×Int×Unit):=
 let v9:=(f134 p0)
 let v11:=(v9 !=0)
 let y6:=(p0,p0,(len p0),())
 let x6:=(([]:List Bool),(0:Int),())
 (((uD9 p0)∧((!v11)=true→(xB7 (tQ4 y6) (vR y6) (uK7 y6) x6))),((bif v11 then [] else (tH9 y6 (zB9 (tQ4 y6) (vR y6) x6))),(bif v11 then v9 else (0:Int)),()))
def tQ5 p0:=(qX p0).1
def f121 p0:=(qX p0).2
instance (p0):Decidable (tQ5 p0):=by unfold tQ5 qX;dsimp only;infer_instance
theorem qX0:SK 121 (sp1 (.val (.sl T143)) (.tup (.cons (.own .bool 0 false) (.cons vI .nl))) tQ5 f121):=fb Tryz.func121 42 [kb sK3] [(6,rM1)] [(19,[(4,0,39,1005)]),(23,[(4,0,1005,0)])]
abbrev vM8:Type:=((List (List D140))×(List (List D140))×Int×Unit)
abbrev wZ8:Type:=(Int×Int×Unit)
def uK8 (y:vM8)(x:wZ8):Prop×Bool×wZ8×Bool×Bool:=
 let a18:=y.2.1
 let a5:=x.1
 let a20:=x.2.1
 let v21:=(decide (a20<y.2.2.1))
 let v26:=(len (nth a18 a20 ([]:List D140)))
 let v27:=(a5+v26)
 let v29:=(decide (v27>4096))
 ((v21=true→(InB a20 (len a18)∧(InR (a5+v26)∧((!v29)=true→InR (a20+1))))),(v21&&(!v29)),(v27,(a20+1),()),(v21&&v29),(!v21))
def uK9 y x:=(uK8 y x).1
def tQ6 y x:=(uK8 y x).2.1
def uE5 y x:=(uK8 y x).2.2.1
def sE2 y x:=(uK8 y x).2.2.2.1
def sE3 y x:=(uK8 y x).2.2.2.2
instance (y x):Decidable (uK9 y x):=by unfold uK9 uK8;dsimp only;infer_instance
def tI (y:vM8)(x:wZ8):Int:=
 (3:Int)
def rM2:=li [(0,(.val (.sl (.sl T140)))),(18,(.val (.sl (.sl T140)))),(19,vI)] [(5,vI),(20,vI)] tQ6 uE5 uK9 (fun y x=>[ex 1 (some (sE2 y x)) [(4,vI)] ((tI y x),()),ex 2 (some (sE3 y x)) [(0,(.val (.sl (.sl T140))))] (y.1,())]) [[(4,vI)],[(0,(.val (.sl (.sl T140))))]]
abbrev vC3:Type:=((List (List D140))×Int×Int×(List D140)×Int×Unit)
abbrev wV7:Type:=(Int×Unit)
def vV2 (y:vC3)(x:wV7):Prop×Bool×wV7×Bool×Bool:=
 let a37:=y.2.2.2.1
 let a39:=x.1
 let v40:=(decide (a39<y.2.2.2.2.1))
 let v41:=(nth a37 a39 Z140)
 let v60:=(bif (bif (bif (decide (v41.1<(-16777216))) then true else (decide (v41.1>16777216))) then true else (decide (v41.2.1<(-16777216)))) then true else (decide (v41.2.1>16777216)))
 ((v40=true→(InB a39 (len a37)∧((!v60)=true→InR (a39+1)))),(v40&&(!v60)),((a39+1),()),(v40&&v60),(!v40))
def vY2 y x:=(vV2 y x).1
def uL y x:=(vV2 y x).2.1
def vI0 y x:=(vV2 y x).2.2.1
def tQ7 y x:=(vV2 y x).2.2.2.1
def tQ8 y x:=(vV2 y x).2.2.2.2
instance (y x):Decidable (vY2 y x):=by unfold vY2 vV2;dsimp only;infer_instance
def uU6 (y:vC3)(x:wV7):Int:=
 (2:Int)
def tQ9:List (Nat×Sh):=[(31,(.val (.sl (.sl T140)))),(32,vI),(33,vI)]
def sZ4:=li [(31,(.val (.sl (.sl T140)))),(32,vI),(33,vI),(37,(.val (.sl T140))),(38,vI)] [(39,vI)] uL vI0 vY2 (fun y x=>[ex 1 (some (tQ7 y x)) [(4,vI)] ((uU6 y x),()),ex 6 (some (tQ8 y x)) tQ9 (y.1,y.2.1,y.2.2.1,())]) [[(4,vI)],tQ9]
abbrev vC4:Type:=((List (List D140))×Int×Unit)
abbrev wV8:Type:=(Int×Unit)
def vV3 (y:vC4)(x:wV8):Prop×Bool×wV8×Bool×Bool:=
 let a31:=y.1
 let a32:=y.2.1
 let a33:=x.1
 let v34:=(decide (a33<a32))
 let v35:=(nth a31 a33 ([]:List D140))
 let y15:=(a31,a32,a33,v35,(len v35),())
 let x15:=((0:Int),())
 let e15:=(zB9 (uL y15) (vI0 y15) x15)
 let q15_6:=(tQ8 y15 e15)
 ((v34=true→(InB a33 (len a31)∧((xB7 (uL y15) (vI0 y15) (vY2 y15) x15)∧(q15_6=true→InR (a33+1))))),(v34&&q15_6),((a33+1),()),(v34&&(tQ7 y15 e15)),(!v34))
def vY3 y x:=(vV3 y x).1
def tD2 y x:=(vV3 y x).2.1
def vY4 y x:=(vV3 y x).2.2.1
def tR y x:=(vV3 y x).2.2.2.1
def sZ5 y x:=(vV3 y x).2.2.2.2
instance (y x):Decidable (vY3 y x):=by unfold vY3 vV3;dsimp only;infer_instance
def uU7 (y:vC4)(x:wV8):Int:=
 let a31:=y.1
 let a33:=x.1
 let v35:=(nth a31 a33 ([]:List D140))
 let y15:=(a31,y.2.1,a33,v35,(len v35),())
 (uU6 y15 (zB9 (uL y15) (vI0 y15) ((0:Int),())))
def sZ6:=li [(31,(.val (.sl (.sl T140)))),(32,vI)] [(33,vI)] tD2 vY4 vY3 (fun y x=>[ex 1 (some (tR y x)) [(4,vI)] ((uU7 y x),()),ex 4 (some (sZ5 y x)) [] ()]) [[(4,vI)],[]]
def qX1 (p0:(List (List D140)))(p1:Int):Prop×Int:=
 let v17:=(bif (p1 !=0) then (p1 !=1) else false)
 let y5:=(p0,p0,(len p0),())
 let x5:=((0:Int),(0:Int),())
 let e5:=(zB9 (tQ6 y5) (uE5 y5) x5)
 let y12:=(p0,(len p0),())
 let x12:=((0:Int),())
 let e12:=(zB9 (tD2 y12) (vY4 y12) x12)
 (((!v17)=true→((xB7 (tQ6 y5) (uE5 y5) (uK9 y5) x5)∧((sE3 y5 e5)=true→(xB7 (tD2 y12) (vY4 y12) (vY3 y12) x12)))),(bif v17 then (8:Int) else (bif (sE2 y5 e5) then (tI y5 e5) else (bif (tR y12 e12) then (uU7 y12 e12) else (0:Int)))))
def uE6 p0 p1:=(qX1 p0 p1).1
def f123 p0 p1:=(qX1 p0 p1).2
instance (p0 p1):Decidable (uE6 p0 p1):=by unfold uE6 qX1;dsimp only;infer_instance
def rS6:=sp2 (.val (.sl (.sl T140))) vI vI uE6 f123
theorem sZ7:SK 123 (sp2 (.val (.sl (.sl T140))) vI vI uE6 f123):=fb Tryz.func123 63 [] [(5,rM2),(12,sZ6),(15,sZ4)]
def qX2 (p0:Int)(p1:Int)(p2:Int):Prop×Int:=
 let m6_2:=(bif (bif (decide (p0<1)) then true else (decide (p0>4096))) then (2:Int) else (bif (bif (decide (p1<0)) then true else (decide (p1>2))) then (8:Int) else (bif (bif (decide (p2<0)) then true else (decide (p2>2))) then (8:Int) else (0:Int))))
 (True,m6_2)
def tR0 p0 p1 p2:=(qX2 p0 p1 p2).1
def f139 p0 p1 p2:=(qX2 p0 p1 p2).2
instance (p0 p1 p2):Decidable (tR0 p0 p1 p2):=by unfold tR0 qX2;dsimp only;infer_instance
theorem qX3:SK 139 (sp3 vI vI vI vI tR0 f139):=fb Tryz.func139 25
abbrev uE7:Type:=(Bool×(List D140)×Int×Unit)
abbrev vM9:Type:=((List D140)×Int×Unit)
def uU8 (y:uE7)(x:vM9):Prop×Bool×vM9:=
 let a8:=y.2.1
 let a5:=x.1
 let a10:=x.2.1
 let v11:=(decide (a10<y.2.2.1))
 let v12:=(nth a8 a10 Z140)
 let v16:=((len a5)==0)
 let v21:=(len a5)
 let v22:=(v21-1)
 let v26:=(bif v16 then true else (!(Ty.eqb T140 v12 (nth a5 v22 Z140))))
 let v29:=([v12]:List D140)
 ((v11=true→(InB a10 (len a8)∧(((!v16)=true→InR (v21-1))∧(((!v16)=true→InB v22 (len a5))∧((v26=true→((List.length a5+List.length v29:Nat):Int)≤4294967296)∧InR (a10+1)))))),v11,((bif v26 then (a5++v29) else a5),(a10+1),()))
def vK5 y x:=(uU8 y x).1
def vN y x:=(uU8 y x).2.1
def wQ2 y x:=(uU8 y x).2.2
instance (y x):Decidable (vK5 y x):=by unfold vK5 uU8;dsimp only;infer_instance
def tI0 (y:uE7)(x:vM9):(List D140):=
 x.1
def sE4:List (Nat×Sh):=[(1,vB),(5,(.own T140 1005 false))]
def rM3:=li [(1,vB),(8,(.val (.sl T140))),(9,vI)] [(5,(.own T140 1005 false)),(10,vI)] vN wQ2 vK5 (fun y x=>[ex 2 none sE4 (y.1,(tI0 y x),())]) [sE4]
abbrev uE8:Type:=(Bool×Unit)
abbrev wZ9:Type:=((List D140)×Unit)
def tM (y:uE8)(x:wZ9):Prop×Bool×wZ9:=
 let a5:=x.1
 let v38:=(bif (!y.1) then (decide ((len a5)>1)) else false)
 let v42:=(len a5)
 let v43:=(v42-1)
 let v50:=(bif v38 then (Ty.eqb T140 (nth a5 v43 Z140) (nth a5 (0:Int) Z140)) else false)
 let v53:=(len a5)
 let v54:=(v53-1)
 (((v38=true→InR (v42-1))∧((v38=true→InB v43 (len a5))∧((v38=true→InB (0:Int) (len a5))∧(v50=true→(InR (v53-1)∧(0≤v54∧v54≤len a5)))))),v50,((List.take (Int.toNat v54) a5),()))
def vK6 y x:=(tM y x).1
def vV4 y x:=(tM y x).2.1
def wT2 y x:=(tM y x).2.2
instance (y x):Decidable (vK6 y x):=by unfold vK6 tM;dsimp only;infer_instance
def tI1 (y:uE8)(x:wZ9):(List D140):=
 x.1
def rM4:=li [(1,vB)] [(5,(.val (.sl T140)))] vV4 wT2 vK6 (fun y x=>[ex 4 none [(5,(.val (.sl T140)))] ((tI1 y x),())]) [[(5,(.val (.sl T140)))]]
def qX4 (p0:List D140)(p1:Bool):Prop×(List D140):=
 let y3:=(p1,p0,(len p0),())
 let x3:=(([]:List D140),(0:Int),())
 let y8:=(p1,())
 let x8:=((tI0 y3 (zB9 (vN y3) (wQ2 y3) x3)),())
 (((xB7 (vN y3) (wQ2 y3) (vK5 y3) x3)∧(xB7 (vV4 y8) (wT2 y8) (vK6 y8) x8)),(tI1 y8 (zB9 (vV4 y8) (wT2 y8) x8)))
def tR1 p0 p1:=(qX4 p0 p1).1
def f151 p0 p1:=(qX4 p0 p1).2
instance (p0 p1):Decidable (tR1 p0 p1):=by unfold tR1 qX4;dsimp only;infer_instance
theorem qX5:SK 151 (sp2 (.val (.sl T140)) vB (.val (.sl T140)) tR1 f151):=fb Tryz.func151 57 [] [(3,rM3),(8,rM4)] [(13,[(4,0,30,1005)])]
def qX6 (p0:D140)(p1:D140):Prop×D140:=
 (True,((IntKind.wrap .i64 (p0.1-p1.1)),(IntKind.wrap .i64 (p0.2.1-p1.2.1)),()))
def wT3 p0 p1:=(qX6 p0 p1).1
def f156 p0 p1:=(qX6 p0 p1).2
instance (p0 p1):Decidable (wT3 p0 p1):=by unfold wT3 qX6;dsimp only;infer_instance
theorem sK5:SK 156 (sp2 (.val T140) (.val T140) (.val T140) wT3 f156):=fb Tryz.func156 16 [] [] [] true
def qX7 (p0:Int)(p1:Int):Prop×(Int×Int×Unit):=
 let v15:=(wK8 .u64 p0 (4294967295:Int))
 let v17:=(wK9 p0 (32:Int) 64)
 let v19:=(wK8 .u64 p1 (4294967295:Int))
 let v21:=(wK9 p1 (32:Int) 64)
 let v30:=(IntKind.wrap .u64 ((IntKind.wrap .u64 (v17*v19))+(wK9 (IntKind.wrap .u64 (v15*v19)) (32:Int) 64)))
 let v47:=(IntKind.wrap .u64 ((IntKind.wrap .u64 ((IntKind.wrap .u64 (v17*v21))+(wK9 v30 (32:Int) 64)))+(wK9 (IntKind.wrap .u64 ((wK8 .u64 v30 (4294967295:Int))+(IntKind.wrap .u64 (v15*v21)))) (32:Int) 64)))
 (True,(v47,(IntKind.wrap .u64 (p0*p1)),()))
def uE9 p0 p1:=(qX7 p0 p1).1
def f181 p0 p1:=(qX7 p0 p1).2
instance (p0 p1):Decidable (uE9 p0 p1):=by unfold uE9 qX7;dsimp only;infer_instance
def rS7:=sp2 (.val (.int .u64)) (.val (.int .u64)) (.tup (.cons (.val (.int .u64)) (.cons (.val (.int .u64)) .nl))) uE9 f181
theorem qX8:SK 181 (sp2 (.val (.int .u64)) (.val (.int .u64)) (.tup (.cons (.val (.int .u64)) (.cons (.val (.int .u64)) .nl))) uE9 f181):=fb Tryz.func181 51 [] [] [] true
def qX9 (p0:Int):Prop×Int:=
 (True,(bif (decide (p0<0)) then (IntKind.wrap .u64 (Int.sub 0 (IntKind.wrap .u64 p0))) else (IntKind.wrap .u64 p0)))
def vY5 p0:=(qX9 p0).1
def f182 p0:=(qX9 p0).2
instance (p0):Decidable (vY5 p0):=by unfold vY5 qX9;dsimp only;infer_instance
def rS8:=sp1 vI (.val (.int .u64)) vY5 f182
theorem qY:SK 182 (sp1 vI (.val (.int .u64)) vY5 f182):=fb Tryz.func182 10 [] [] [] true
abbrev vV5:Type:=(Int×Int×Unit)
abbrev vN0:Type:=(Int×Int×Unit)
def tM0 (y:vV5)(x:vN0):Prop×Bool×vN0:=
 let a5:=y.1
 let a10:=x.1
 let a11:=x.2.1
 let v43:=(a11 !=0)
 let v48:=(ior .u64 a10 a11)
 let v52:=(f181 v48 v48)
 ((v43=true→(uE9 v48 v48)),v43,((bif (bif (decide (v52.1<a5)) then true else (bif (v52.1==a5) then (decide (v52.2.1≤y.2.1)) else false)) then v48 else a10),(wK9 a11 (1:Int) 64),()))
def vV6 y x:=(tM0 y x).1
def uU9 y x:=(tM0 y x).2.1
def vF6 y x:=(tM0 y x).2.2
instance (y x):Decidable (vV6 y x):=by unfold vV6 tM0;dsimp only;infer_instance
def tI2 (y:vV5)(x:vN0):Int:=
 x.1
def tI3:St→Option Out:=xT8 [(5,(.val (.int .u64))),(6,(.val (.int .u64)))] [(10,(.val (.int .u64))),(11,(.val (.int .u64)))] uU9 vF6 vV6 fun y x=>[ex 2 none [(10,(.val (.int .u64)))] ((tI2 y x),())]
def qY0 (p0:Int)(p1:Int):Prop×Int:=
 let v15:=(f182 p0)
 let v17:=(f182 p0)
 let v18:=(f181 v15 v17)
 let v23:=(f182 p1)
 let v25:=(f182 p1)
 let v26:=(f181 v23 v25)
 let v34:=(((Int.toNat v18.2.1+Int.toNat v26.2.1+Int.toNat (0:Int)) / 18446744073709551616:Nat):Int)
 let y7:=((((Int.toNat v18.1+Int.toNat v26.1+Int.toNat v34) % 18446744073709551616:Nat):Int),(((Int.toNat v18.2.1+Int.toNat v26.2.1+Int.toNat (0:Int)) % 18446744073709551616:Nat):Int),())
 let x7:=((0:Int),(9223372036854775808:Int),())
 let r7_2_0:=(tI2 y7 (zB9 (uU9 y7) (vF6 y7) x7))
 (((vY5 p0)∧((vY5 p0)∧((uE9 v15 v17)∧((vY5 p1)∧((vY5 p1)∧((uE9 v23 v25)∧((0≤(0:Int)∧(0:Int)≤1)∧((0≤v34∧v34≤1)∧(xB7 (uU9 y7) (vF6 y7) (vV6 y7) x7))))))))),(bif (decide (r7_2_0>9223372036854775807)) then (9223372036854775807:Int) else (IntKind.wrap .i64 r7_2_0)))
def tD3 p0 p1:=(qY0 p0 p1).1
def f173 p0 p1:=(qY0 p0 p1).2
instance (p0 p1):Decidable (tD3 p0 p1):=by unfold tD3 qY0;dsimp only;infer_instance
def rS9:=sp2 vI vI vI tD3 f173
def rG9:Ctx:={ Cx tys [(181,rS7),(182,rS8)] [(7,tI3)] [] true 73 [] [] with exts:=[(183,xF3)] }
theorem rH:CtxOk Tryz.prog rG9:=wG3 tO2 rfl ⟨qX8,qY,trivial⟩ ⟨qR8,trivial⟩ (by kernel_rfl)
noncomputable def rT:Code:=Tryz.f173.body.getD .skip
noncomputable def rT0:Code:=wI9 rT 0
theorem rM5:xC1 Tryz.prog rG9 rT0:=lq rH (sp:=tI3) rfl [[(10,(.val (.int .u64)))]]
theorem rT1:SK 173 rS9:=fl rH Tryz.func173 (bs:=[rT0]) ⟨rM5,trivial⟩
def qY1 (p0:D140)(p1:D140)(p2:Int):Prop×D217:=
 let v11:=(f156 p1 p0)
 let v14:=(IntKind.wrap .i64 (16*v11.1))
 let v17:=(IntKind.wrap .i64 (16*v11.2.1))
 let v18:=(f173 v14 v17)
 let v26:=(IntKind.wrap .i64 ((IntKind.wrap .i64 ((-8)*p2))*v11.2.1))
 let v33:=(IntKind.wrap .i64 ((IntKind.wrap .i64 (8*p2))*v11.1))
 let v41:=(IntKind.wrap .i64 ((IntKind.wrap .i64 (8*p2))*v11.1))
 let v48:=(IntKind.wrap .i64 ((IntKind.wrap .i64 (8*p2))*v11.2.1))
 (((wT3 p1 p0)∧((tD3 v14 v17)∧((wN1 v26 v18)∧((wN1 v33 v18)∧((wN1 v41 v18)∧(wN1 v48 v18)))))),(p0,p1,v11,((f103 v26 v18),(f103 v33 v18),()),((f103 v41 v18),(f103 v48 v18),()),()))
def tD4 p0 p1 p2:=(qY1 p0 p1 p2).1
def f169 p0 p1 p2:=(qY1 p0 p1 p2).2
instance (p0 p1 p2):Decidable (tD4 p0 p1 p2):=by unfold tD4 qY1;dsimp only;infer_instance
theorem qY2:SK 169 (sp3 (.val T140) (.val T140) vI (.val T217) tD4 f169):=fb Tryz.func169 53 [kb vM0,kb sK5,kb rT1] [] [] true
abbrev uF:Type:=((List D140)×Bool×Int×Unit)
abbrev vN1:Type:=((List D217)×Int×Unit)
def uV (y:uF)(x:vN1):Prop×Bool×vN1:=
 let a0:=y.1
 let a2:=y.2.2.1
 let a7:=x.1
 let a8:=x.2.1
 let v12:=(decide (a8<(len a0)))
 let v18:=(a8-1)
 let v19:=(nth a0 v18 Z140)
 let v23:=(nth a0 a8 Z140)
 let v27:=([(f169 v19 v23 a2)]:List D217)
 ((v12=true→(InR (a8-1)∧(InB v18 (len a0)∧(InB a8 (len a0)∧((tD4 v19 v23 a2)∧(((List.length a7+List.length v27:Nat):Int)≤4294967296∧InR (a8+1))))))),v12,((a7++v27),(a8+1),()))
def vK7 y x:=(uV y x).1
def vV7 y x:=(uV y x).2.1
def wT4 y x:=(uV y x).2.2
instance (y x):Decidable (vK7 y x):=by unfold vK7 uV;dsimp only;infer_instance
def vR0 (y:uF)(x:vN1):(List D217):=
 x.1
def sE5:List (Nat×Sh):=[(0,(.val (.sl T140))),(1,vB),(2,vI),(7,(.own T217 1007 false))]
def rM6:=li [(0,(.val (.sl T140))),(1,vB),(2,vI)] [(7,(.own T217 1007 false)),(8,vI)] vV7 wT4 vK7 (fun y x=>[ex 2 none sE5 (y.1,y.2.1,y.2.2.1,(vR0 y x),())]) [sE5]
def qF9 (p0:List D140)(p1:Bool)(p2:Int):Prop×(List D217):=
 let y3:=(p0,p1,p2,())
 let x3:=(([]:List D217),(1:Int),())
 let r3_2_0:=(vR0 y3 (zB9 (vV7 y3) (wT4 y3) x3))
 let v35:=(bif (!p1) then (decide ((len p0)>1)) else false)
 let v39:=(len p0)
 let v40:=(v39-1)
 let v41:=(nth p0 v40 Z140)
 let v44:=(nth p0 (0:Int) Z140)
 let v48:=([(f169 v41 v44 p2)]:List D217)
 (((xB7 (vV7 y3) (wT4 y3) (vK7 y3) x3)∧(v35=true→(InR (v39-1)∧(InB v40 (len p0)∧(InB (0:Int) (len p0)∧((tD4 v41 v44 p2)∧((List.length r3_2_0+List.length v48:Nat):Int)≤4294967296)))))),(bif v35 then (r3_2_0++v48) else r3_2_0))
def tR2 p0 p1 p2:=(qF9 p0 p1 p2).1
def f152 p0 p1 p2:=(qF9 p0 p1 p2).2
instance (p0 p1 p2):Decidable (tR2 p0 p1 p2):=by unfold tR2 qF9;dsimp only;infer_instance
theorem qY3:SK 152 (sp3 (.val (.sl T140)) vB vI (.own T217 0 false) tR2 f152):=fb Tryz.func152 51 [kb qY2] [(3,rM6)] [(11,[(4,0,28,1007)]),(15,[(4,0,49,1007)]),(17,[(4,0,1007,0)])]
abbrev uF0:Type:=((List D140)×(List D140)×Int×Unit)
abbrev vN2:Type:=(Int×Int×Unit)
def uV0 (y:uF0)(x:vN2):Prop×Bool×vN2:=
 let a0:=y.1
 let a7:=y.2.1
 let a9:=x.2.1
 let v10:=(decide (a9<y.2.2.1))
 let v12:=(nth a7 a9 Z140)
 let v18:=(len a0)
 let v19:=(Int.tmod (IntKind.wrap .i64 (a9+1)) v18)
 let v20:=(nth a0 v19 Z140)
 ((v10=true→(InB a9 (len a7)∧(v18≠0∧InB v19 (len a0)))),v10,((IntKind.wrap .i64 (x.1+(IntKind.wrap .i64 ((IntKind.wrap .i64 (v12.1*v20.2.1))-(IntKind.wrap .i64 (v20.1*v12.2.1)))))),(IntKind.wrap .i64 (a9+1)),()))
def uL0 y x:=(uV0 y x).1
def tR3 y x:=(uV0 y x).2.1
def vR1 y x:=(uV0 y x).2.2
instance (y x):Decidable (uL0 y x):=by unfold uL0 uV0;dsimp only;infer_instance
def tI4 (y:uF0)(x:vN2):Int:=
 x.1
def rM7:=li [(0,(.val (.sl T140))),(7,(.val (.sl T140))),(8,vI)] [(3,vI),(9,vI)] tR3 vR1 uL0 (fun y x=>[ex 2 none [(3,vI)] ((tI4 y x),())]) [[(3,vI)]]
def qY4 (p0:List D140):Prop×Int:=
 let y3:=(p0,p0,(len p0),())
 let x3:=((0:Int),(0:Int),())
 ((xB7 (tR3 y3) (vR1 y3) (uL0 y3) x3),(tI4 y3 (zB9 (tR3 y3) (vR1 y3) x3)))
def tR4 p0:=(qY4 p0).1
def f171 p0:=(qY4 p0).2
instance (p0):Decidable (tR4 p0):=by unfold tR4 qY4;dsimp only;infer_instance
theorem qY5:SK 171 (sp1 (.val (.sl T140)) vI tR4 f171):=fb Tryz.func171 37 [] [(3,rM7)] [] true
def f172 (_p0:List D140):Unit:=()
def rH0 (p0:List D140):(List D140)×Unit:=(List.reverse p0,())
def sZ8 (_p0:List D140):Prop:=True
instance (p0:List D140):Decidable (sZ8 p0):=isTrue trivial
def qY6:List (Nat×Sh):=[(0,(.own T140 400000 true))]
def qY7:Sh:=(.tup .nl)
def qY8:List (Nat×Sh):=[(0,(.own T140 400000 true))]
def rT2:Am.Spec:=fnSpec qY6 qY7 qY8 (fun x=>sZ8 x.1) (fun x=>f172 x.1) (fun x=>rH0 x.1)
theorem qY9:SpecOk Tryz.prog 172 rT2:=qE5 (by decide) rfl ⟨_,Tryz.func172,by kernel_rfl,by decide⟩ pN5
def qZ (p0:D140)(p1:D140):Prop×D140:=
 (True,((IntKind.wrap .i64 (p0.1+p1.1)),(IntKind.wrap .i64 (p0.2.1+p1.2.1)),()))
def wP3 p0 p1:=(qZ p0 p1).1
def f155 p0 p1:=(qZ p0 p1).2
instance (p0 p1):Decidable (wP3 p0 p1):=by unfold wP3 qZ;dsimp only;infer_instance
theorem tR5:SK 155 (sp2 (.val T140) (.val T140) (.val T140) wP3 f155):=fb Tryz.func155 16 [] [] [] true
def qZ0 (p0:Int):Prop×Int:=
 let v5:=(IntKind.wrap .i64 (Int.tdiv p0 (256:Int)))
 let v7:=(decide (v5≥64))
 let v14:=(IntKind.wrap .i64 (v5+1))
 let v25:=(IntKind.wrap .i64 ((IntKind.wrap .i64 ((nth G5 v14 (0:Int))-(nth G5 v5 (0:Int))))*(IntKind.wrap .i64 (p0-(IntKind.wrap .i64 (256*v5))))))
 (((v7=true→InB (64:Int) 65)∧((!v7)=true→(InB v5 65∧(InB v14 65∧(InB v5 65∧(wN1 v25 (256:Int))))))),(bif v7 then (nth G5 (64:Int) (0:Int)) else (IntKind.wrap .i64 ((nth G5 v5 (0:Int))+(f103 v25 (256:Int))))))
def uF1 p0:=(qZ0 p0).1
def f196 p0:=(qZ0 p0).2
instance (p0):Decidable (uF1 p0):=by unfold uF1 qZ0;dsimp only;infer_instance
theorem qZ1:SK 196 (sp1 vI vI uF1 f196):=fb Tryz.func196 28 [kb vM0] [] [] true
def qG (p0:Int):Prop×Int:=
 let v6:=(IntKind.wrap .i64 (Int.tdiv p0 (16384:Int)))
 let v10:=(IntKind.wrap .i64 (p0-(IntKind.wrap .i64 (16384*v6))))
 let v13:=(v6==0)
 let v17:=(v6==1)
 let v19:=(IntKind.wrap .i64 (16384-v10))
 let v22:=(v6==2)
 let v27:=(IntKind.wrap .i64 (16384-v10))
 let m2_2:=(bif (bif v13 then true else (bif v17 then true else v22)) then (bif v13 then (f196 v10) else (bif v17 then (f196 v19) else (IntKind.wrap .i64 (Int.sub 0 (f196 v10))))) else (IntKind.wrap .i64 (Int.sub 0 (f196 v27))))
 (((v13=true→(uF1 v10))∧((v13=false→((v17=true→(uF1 v19))∧(v17=false→(v22=true→(uF1 v10)))))∧((((!v22)&&(!v17))&&(!v13))=true→(uF1 v27)))),m2_2)
def uF2 p0:=(qG p0).1
def f191 p0:=(qG p0).2
instance (p0):Decidable (uF2 p0):=by unfold uF2 qG;dsimp only;infer_instance
theorem qZ2:SK 191 (sp1 vI vI uF2 f191):=fb Tryz.func191 30 [kb qZ1] [] [] true
def qZ3 (p0:Int):Prop×(Int×Int×Unit):=
 let v6:=(wK8 .i64 p0 (65535:Int))
 let v11:=(Int.tmod (IntKind.wrap .i64 (v6+16384)) (65536:Int))
 (((uF2 v6)∧(uF2 v11)),((f191 v6),(f191 v11),()))
def tR6 p0:=(qZ3 p0).1
def f180 p0:=(qZ3 p0).2
instance (p0):Decidable (tR6 p0):=by unfold tR6 qZ3;dsimp only;infer_instance
theorem qZ4:SK 180 (sp1 vI (.tup (.cons vI (.cons vI .nl))) tR6 f180):=fb Tryz.func180 13 [kb qZ2] [] [] true
abbrev uF3:Type:=(Int×D140×Int×Unit)
abbrev vN3:Type:=((List D140)×Int×Unit)
def uV1 (y:uF3)(x:vN3):Prop×Bool×vN3:=
 let a1:=y.1
 let a2:=y.2.1
 let a5:=x.1
 let a12:=x.2.1
 let v13:=(decide (a12<y.2.2.1))
 let v17:=(IntKind.wrap .i64 (4096*a12))
 let v18:=(f180 v17)
 let v26:=(IntKind.wrap .i64 (a1*v18.2.1))
 let v30:=(IntKind.wrap .i64 (a1*v18.1))
 let s:=((f103 v26 (131072:Int)),(f103 v30 (131072:Int)),())
 ((v13=true→((tR6 v17)∧((wN1 v26 (131072:Int))∧((wN1 v30 (131072:Int))∧((wP3 a2 s)∧(InB a12 (len a5)∧a12<len a5)))))),v13,((List.set a5 (Int.toNat a12) (f155 a2 s)),(IntKind.wrap .i64 (a12+1)),()))
def vK8 y x:=(uV1 y x).1
def vV8 y x:=(uV1 y x).2.1
def wT5 y x:=(uV1 y x).2.2
instance (y x):Decidable (vK8 y x):=by unfold vK8 uV1;dsimp only;infer_instance
def uF4 (y:uF3)(x:vN3):(List D140):=
 x.1
def rM8:=li [(1,vI),(2,(.box T140 (.val T140))),(11,vI)] [(5,(.own T140 1005 true)),(12,vI)] vV8 wT5 vK8 (fun y x=>[ex 2 none [(5,(.own T140 1005 true))] ((uF4 y x),())]) [[(5,(.own T140 1005 true))]]
def qG0 (p0:D140)(p1:Int):Prop×(List D140):=
 let v9:=(List.replicate (Int.toNat (16:Int)) Z140)
 let y3:=(p1,p0,(len v9),())
 let x3:=(v9,(0:Int),())
 (((0≤(16:Int)∧(16:Int)≤(16:Int)∧(16:Int)≤4294967296)∧(xB7 (vV8 y3) (wT5 y3) (vK8 y3) x3)),(uF4 y3 (zB9 (vV8 y3) (wT5 y3) x3)))
def uF5 p0 p1:=(qG0 p0 p1).1
def f170 p0 p1:=(qG0 p0 p1).2
instance (p0 p1):Decidable (uF5 p0 p1):=by unfold uF5 qG0;dsimp only;infer_instance
theorem sZ9:SK 170 (sp2 (.val T140) vI (.own T140 0 true) uF5 f170):=fb Tryz.func170 37 [kb vM0,kb tR5,kb qZ4] [(3,rM8)] [(3,[(4,0,9,1005)]),(17,[(4,0,1005,0)])] true [] [9]
def uV2 (p0:(Int×Int×Int×(List (List D140))×Int×Unit))(p1:List D140):Prop×(Unit)×((Int×Int×Int×(List (List D140))×Int×Unit)×Unit):=
 let v6:=(f171 p1)
 let v8:=(v6==0)
 let v10:=(decide (v6<0))
 let m1:=(bif v10 then (rH0 p1).1 else p1)
 let v19:=([m1]:List (List D140))
 let s:=((bif v8 then p0.1 else p0.1),(bif v8 then p0.2.1 else p0.2.1),(bif v8 then p0.2.2.1 else p0.2.2.1),(bif v8 then p0.2.2.2.1 else (p0.2.2.2.1++v19)),(bif v8 then p0.2.2.2.2.1 else (IntKind.wrap .i64 (p0.2.2.2.2.1+(len m1)))),())
 (((tR4 p1)∧((!v8)=true→((v10=true→((sZ8 p1)∧(0<List.length p1∧(List.length p1=List.length p1∧(List.length p1=List.length p1∧List.length p1=List.length p1)))))∧((List.length p0.2.2.2.1+List.length v19:Nat):Int)≤4294967296))),(),(s,()))
def wL5 p0 p1:=(uV2 p0 p1).1
def qZ5 p0 p1:=(uV2 p0 p1).2.1
def wL0 p0 p1:=(uV2 p0 p1).2.2
instance (p0 p1):Decidable (wL5 p0 p1):=by unfold wL5 uV2;dsimp only;infer_instance
theorem uL1:SK 154 (fnSpec [(0,(.box T191 (.agg (.cons (.int .i64) (.cons (.int .i64) (.cons (.int .i64) (.cons (.sl (.sl T140)) (.cons (.int .i64) .nl))))) (.cons vI (.cons vI (.cons vI (.cons (.own (.sl T140) 400000 false) (.cons vI .nl)))))))),(1,(.own T140 400100 true))] (.tup .nl) [(0,(.box T191 (.agg (.cons (.int .i64) (.cons (.int .i64) (.cons (.int .i64) (.cons (.sl (.sl T140)) (.cons (.int .i64) .nl))))) (.cons vI (.cons vI (.cons vI (.cons (.own (.sl T140) 400000 false) (.cons vI .nl))))))))] (fun x=>wL5 x.1 x.2.1) (fun x=>qZ5 x.1 x.2.1) (fun x=>wL0 x.1 x.2.1)):=fx (fun c=>{ c with wants:=[(172,[0])] }) Tryz.func154 32 [kb qY5,kb qY9] [] [(8,[(1,1,0,0)]),(9,[(4,0,20,400000)])] true [0]
def uV3 (p0:(Int×Int×Int×(List (List D140))×Int×Unit))(p1:D140):Prop×(Unit)×((Int×Int×Int×(List (List D140))×Int×Unit)×Unit):=
 let v10:=(p0.2.2.1==1)
 let v17:=(f170 p1 p0.1)
 let s_1:=(p0.1,p0.2.1,p0.2.2.1,p0.2.2.2.1,p0.2.2.2.2.1,())
 let v18o:=(wL0 s_1 v17)
 let v20:=(p0.2.2.1==2)
 let v25:=(f103 p0.1 (2:Int))
 let s_2:=((IntKind.wrap .i64 (Int.sub 0 v25)),(IntKind.wrap .i64 (Int.sub 0 v25)),())
 let s_3:=(v25,(IntKind.wrap .i64 (Int.sub 0 v25)),())
 let s_4:=(v25,v25,())
 let s_5:=((IntKind.wrap .i64 (Int.sub 0 v25)),v25,())
 let v51:=([(f155 p1 s_2),(f155 p1 s_3),(f155 p1 s_4),(f155 p1 s_5)]:List D140)
 let s_7:=(p0.1,p0.2.1,p0.2.2.1,p0.2.2.2.1,p0.2.2.2.2.1,())
 let v52o:=(wL0 s_7 v51)
 let s_8:=((bif v10 then v18o.1.1 else (bif v20 then v52o.1.1 else p0.1)),(bif v10 then v18o.1.2.1 else (bif v20 then v52o.1.2.1 else p0.2.1)),(bif v10 then v18o.1.2.2.1 else (bif v20 then v52o.1.2.2.1 else p0.2.2.1)),(bif v10 then v18o.1.2.2.2.1 else (bif v20 then v52o.1.2.2.2.1 else p0.2.2.2.1)),(bif v10 then v18o.1.2.2.2.2.1 else (bif v20 then v52o.1.2.2.2.2.1 else p0.2.2.2.2.1)),())
 (((v10=true→((uF5 p1 p0.1)∧(wL5 s_1 v17)))∧(v10=false→(v20=true→((wN1 p0.1 (2:Int))∧((wP3 p1 s_2)∧((wP3 p1 s_3)∧((wP3 p1 s_4)∧((wP3 p1 s_5)∧(wL5 s_7 v51))))))))),(),(s_8,()))
def vV9 p0 p1:=(uV3 p0 p1).1
def qZ6 p0 p1:=(uV3 p0 p1).2.1
def uV4 p0 p1:=(uV3 p0 p1).2.2
instance (p0 p1):Decidable (vV9 p0 p1):=by unfold vV9 uV3;dsimp only;infer_instance
theorem rM9:SK 153 (fnSpec [(0,(.box T191 (.agg (.cons (.int .i64) (.cons (.int .i64) (.cons (.int .i64) (.cons (.sl (.sl T140)) (.cons (.int .i64) .nl))))) (.cons vI (.cons vI (.cons vI (.cons (.own (.sl T140) 400000 false) (.cons vI .nl)))))))),(1,(.val T140))] (.tup .nl) [(0,(.box T191 (.agg (.cons (.int .i64) (.cons (.int .i64) (.cons (.int .i64) (.cons (.sl (.sl T140)) (.cons (.int .i64) .nl))))) (.cons vI (.cons vI (.cons vI (.cons (.own (.sl T140) 400000 false) (.cons vI .nl))))))))] (fun x=>vV9 x.1 x.2.1) (fun x=>qZ6 x.1 x.2.1) (fun x=>uV4 x.1 x.2.1)):=fx (fun c=>{ c with wants:=[(154,[1])] }) Tryz.func153 53 [kb vM0,kb uL1,kb tR5,kb sZ9] [] [] true [0] [51]
def uV5 (p0:(Int×Int×Int×(List (List D140))×Int×Unit))(p1:D217)(p2:D217):Prop×(Unit)×((Int×Int×Int×(List (List D140))×Int×Unit)×Unit):=
 let v23:=(p0.2.1==1)
 let v30:=(f170 p2.1 p0.1)
 let s_1:=(p0.1,p0.2.1,p0.2.2.1,p0.2.2.2.1,p0.2.2.2.2.1,())
 let v31o:=(wL0 s_1 v30)
 let v40:=([p2.1,(f155 p2.1 p1.2.2.2.1),(f155 p2.1 p2.2.2.2.1)]:List D140)
 let s_3:=(p0.1,p0.2.1,p0.2.2.1,p0.2.2.2.1,p0.2.2.2.2.1,())
 let v41o:=(wL0 s_3 v40)
 let v50:=([p2.1,(f156 p2.1 p1.2.2.2.1),(f156 p2.1 p2.2.2.2.1)]:List D140)
 let s_5:=(v41o.1.1,v41o.1.2.1,v41o.1.2.2.1,v41o.1.2.2.2.1,v41o.1.2.2.2.2.1,())
 let v51o:=(wL0 s_5 v50)
 let v66:=(IntKind.wrap .i64 ((IntKind.wrap .i64 (p1.2.2.1.1*p2.2.2.1.2.1))-(IntKind.wrap .i64 (p1.2.2.1.2.1*p2.2.2.1.1))))
 let v75:=(IntKind.wrap .i64 (v51o.1.1*v51o.1.1))
 let v89:=(IntKind.wrap .i64 (v75+(IntKind.wrap .i64 (4*(IntKind.wrap .i64 ((IntKind.wrap .i64 (p1.2.2.2.1.1*p2.2.2.2.1.1))+(IntKind.wrap .i64 (p1.2.2.2.1.2.1*p2.2.2.2.1.2.1))))))))
 let v102:=(bif (bif (v51o.1.2.1==2) then true else (v66==0)) then true else (decide (v89≤0)))
 let v109:=(IntKind.wrap .i64 (v75*(IntKind.wrap .i64 (p1.2.2.2.1.1+p2.2.2.2.1.1))))
 let v111:=(f103 v109 v89)
 let v118:=(IntKind.wrap .i64 (v75*(IntKind.wrap .i64 (p1.2.2.2.1.2.1+p2.2.2.2.1.2.1))))
 let v120:=(f103 v118 v89)
 let s_6:=(v111,v120,())
 let v132:=(decide ((f173 v111 v120)>(IntKind.wrap .i64 (4*v51o.1.1))))
 let v134:=(decide (v66>0))
 let v146:=([p2.1,(f156 p2.1 p1.2.2.2.1),(f156 p2.1 s_6),(f156 p2.1 p2.2.2.2.1)]:List D140)
 let s_8:=(v51o.1.1,v51o.1.2.1,v51o.1.2.2.1,v51o.1.2.2.2.1,v51o.1.2.2.2.2.1,())
 let v147o:=(wL0 s_8 v146)
 let v159:=([p2.1,(f155 p2.1 p1.2.2.2.1),(f155 p2.1 s_6),(f155 p2.1 p2.2.2.2.1)]:List D140)
 let s_10:=(v51o.1.1,v51o.1.2.1,v51o.1.2.2.1,v51o.1.2.2.2.1,v51o.1.2.2.2.2.1,())
 let v160o:=(wL0 s_10 v159)
 let c_5:=(v23||((!v23)&&(v102||((!v102)&&v132))))
 let s_11:=((bif c_5 then (bif v23 then v31o.1.1 else v51o.1.1) else (bif v134 then v147o.1.1 else v160o.1.1)),(bif c_5 then (bif v23 then v31o.1.2.1 else v51o.1.2.1) else (bif v134 then v147o.1.2.1 else v160o.1.2.1)),(bif c_5 then (bif v23 then v31o.1.2.2.1 else v51o.1.2.2.1) else (bif v134 then v147o.1.2.2.1 else v160o.1.2.2.1)),(bif c_5 then (bif v23 then v31o.1.2.2.2.1 else v51o.1.2.2.2.1) else (bif v134 then v147o.1.2.2.2.1 else v160o.1.2.2.2.1)),(bif c_5 then (bif v23 then v31o.1.2.2.2.2.1 else v51o.1.2.2.2.2.1) else (bif v134 then v147o.1.2.2.2.2.1 else v160o.1.2.2.2.2.1)),())
 (((v23=true→((uF5 p2.1 p0.1)∧(wL5 s_1 v30)))∧((!v23)=true→((wP3 p2.1 p1.2.2.2.1)∧((wP3 p2.1 p2.2.2.2.1)∧((wL5 s_3 v40)∧((wT3 p2.1 p1.2.2.2.1)∧((wT3 p2.1 p2.2.2.2.1)∧((wL5 s_5 v50)∧((!v102)=true→((wN1 v109 v89)∧((wN1 v118 v89)∧((tD3 v111 v120)∧((!v132)=true→((v134=true→((wT3 p2.1 p1.2.2.2.1)∧((wT3 p2.1 s_6)∧((wT3 p2.1 p2.2.2.2.1)∧(wL5 s_8 v146)))))∧(v134=false→((wP3 p2.1 p1.2.2.2.1)∧((wP3 p2.1 s_6)∧((wP3 p2.1 p2.2.2.2.1)∧(wL5 s_10 v159))))))))))))))))))),(),(s_11,()))
def wZ p0 p1 p2:=(uV5 p0 p1 p2).1
def qZ7 p0 p1 p2:=(uV5 p0 p1 p2).2.1
def vA p0 p1 p2:=(uV5 p0 p1 p2).2.2
instance (p0 p1 p2):Decidable (wZ p0 p1 p2):=by unfold wZ uV5;dsimp only;infer_instance
theorem rN:SK 157 (fnSpec [(0,(.box T191 (.agg (.cons (.int .i64) (.cons (.int .i64) (.cons (.int .i64) (.cons (.sl (.sl T140)) (.cons (.int .i64) .nl))))) (.cons vI (.cons vI (.cons vI (.cons (.own (.sl T140) 400000 false) (.cons vI .nl)))))))),(1,(.val T217)),(2,(.val T217))] (.tup .nl) [(0,(.box T191 (.agg (.cons (.int .i64) (.cons (.int .i64) (.cons (.int .i64) (.cons (.sl (.sl T140)) (.cons (.int .i64) .nl))))) (.cons vI (.cons vI (.cons vI (.cons (.own (.sl T140) 400000 false) (.cons vI .nl))))))))] (fun x=>wZ x.1 x.2.1 x.2.2.1) (fun x=>qZ7 x.1 x.2.1 x.2.2.1) (fun x=>vA x.1 x.2.1 x.2.2.1)):=fx (fun c=>{ c with wants:=[(154,[1])] }) Tryz.func157 161 [kb vM0,kb uL1,kb tR5,kb sK5,kb sZ9,kb rT1] [] [] true [0] [40,50,146,159]
def uV6 (p0:(Int×Int×Int×(List (List D140))×Int×Unit))(p1:D217)(p2:D217):Prop×(Unit)×((Int×Int×Int×(List (List D140))×Int×Unit)×Unit):=
 let v12:=(p0.2.2.1==1)
 let v20:=(f170 p1.1 p0.1)
 let s_1:=(p0.1,p0.2.1,p0.2.2.1,p0.2.2.2.1,p0.2.2.2.2.1,())
 let v21o:=(wL0 s_1 v20)
 let v29:=(f170 p2.2.1 v21o.1.1)
 let s_3:=(v21o.1.1,v21o.1.2.1,v21o.1.2.2.1,v21o.1.2.2.2.1,v21o.1.2.2.2.2.1,())
 let v30o:=(wL0 s_3 v29)
 let v32:=(p0.2.2.1==2)
 let v37:=(f156 p1.1 p1.2.2.2.2.1)
 let v57:=([(f155 v37 p1.2.2.2.1),(f155 p1.1 p1.2.2.2.1),(f156 p1.1 p1.2.2.2.1),(f156 v37 p1.2.2.2.1)]:List D140)
 let s_5:=(p0.1,p0.2.1,p0.2.2.1,p0.2.2.2.1,p0.2.2.2.2.1,())
 let v58o:=(wL0 s_5 v57)
 let v63:=(f155 p2.2.1 p2.2.2.2.2.1)
 let v83:=([(f155 p2.2.1 p2.2.2.2.1),(f155 v63 p2.2.2.2.1),(f156 v63 p2.2.2.2.1),(f156 p2.2.1 p2.2.2.2.1)]:List D140)
 let s_7:=(v58o.1.1,v58o.1.2.1,v58o.1.2.2.1,v58o.1.2.2.2.1,v58o.1.2.2.2.2.1,())
 let v84o:=(wL0 s_7 v83)
 let s_8:=((bif v12 then v30o.1.1 else (bif v32 then v84o.1.1 else p0.1)),(bif v12 then v30o.1.2.1 else (bif v32 then v84o.1.2.1 else p0.2.1)),(bif v12 then v30o.1.2.2.1 else (bif v32 then v84o.1.2.2.1 else p0.2.2.1)),(bif v12 then v30o.1.2.2.2.1 else (bif v32 then v84o.1.2.2.2.1 else p0.2.2.2.1)),(bif v12 then v30o.1.2.2.2.2.1 else (bif v32 then v84o.1.2.2.2.2.1 else p0.2.2.2.2.1)),())
 (((v12=true→((uF5 p1.1 p0.1)∧((wL5 s_1 v20)∧((uF5 p2.2.1 v21o.1.1)∧(wL5 s_3 v29)))))∧(v12=false→(v32=true→((wT3 p1.1 p1.2.2.2.2.1)∧((wP3 v37 p1.2.2.2.1)∧((wP3 p1.1 p1.2.2.2.1)∧((wT3 p1.1 p1.2.2.2.1)∧((wT3 v37 p1.2.2.2.1)∧((wL5 s_5 v57)∧((wP3 p2.2.1 p2.2.2.2.2.1)∧((wP3 p2.2.1 p2.2.2.2.1)∧((wP3 v63 p2.2.2.2.1)∧((wT3 v63 p2.2.2.2.1)∧((wT3 p2.2.1 p2.2.2.2.1)∧(wL5 s_7 v83))))))))))))))),(),(s_8,()))
def vK9 p0 p1 p2:=(uV6 p0 p1 p2).1
def qZ8 p0 p1 p2:=(uV6 p0 p1 p2).2.1
def uV7 p0 p1 p2:=(uV6 p0 p1 p2).2.2
instance (p0 p1 p2):Decidable (vK9 p0 p1 p2):=by unfold vK9 uV6;dsimp only;infer_instance
theorem rN0:SK 158 (fnSpec [(0,(.box T191 (.agg (.cons (.int .i64) (.cons (.int .i64) (.cons (.int .i64) (.cons (.sl (.sl T140)) (.cons (.int .i64) .nl))))) (.cons vI (.cons vI (.cons vI (.cons (.own (.sl T140) 400000 false) (.cons vI .nl)))))))),(1,(.val T217)),(2,(.val T217))] (.tup .nl) [(0,(.box T191 (.agg (.cons (.int .i64) (.cons (.int .i64) (.cons (.int .i64) (.cons (.sl (.sl T140)) (.cons (.int .i64) .nl))))) (.cons vI (.cons vI (.cons vI (.cons (.own (.sl T140) 400000 false) (.cons vI .nl))))))))] (fun x=>vK9 x.1 x.2.1 x.2.2.1) (fun x=>qZ8 x.1 x.2.1 x.2.2.1) (fun x=>uV7 x.1 x.2.1 x.2.2.1)):=fx (fun c=>{ c with wants:=[(154,[1])] }) Tryz.func158 85 [kb uL1,kb tR5,kb sK5,kb sZ9] [] [] true [0] [57,83]
abbrev vF7:Type:=(Bool×(List D217)×(List D217)×Int×Unit)
abbrev wQ3:Type:=((Int×Int×Int×(List (List D140))×Int×Unit)×Int×Unit)
def vY6 (y:vF7)(x:wQ3):Prop×Bool×wQ3:=
 let a32:=y.2.2.1
 let a0:=x.1
 let a34:=x.2.1
 let v35:=(decide (a34<y.2.2.2.1))
 let v36:=(nth a32 a34 Z217)
 let v59:=([(f155 v36.1 v36.2.2.2.1),(f155 v36.2.1 v36.2.2.2.1),(f156 v36.2.1 v36.2.2.2.1),(f156 v36.1 v36.2.2.2.1)]:List D140)
 let s_1:=(a0.1,a0.2.1,a0.2.2.1,a0.2.2.2.1,a0.2.2.2.2.1,())
 let v60o:=(wL0 s_1 v59)
 ((v35=true→(InB a34 (len a32)∧((wP3 v36.1 v36.2.2.2.1)∧((wP3 v36.2.1 v36.2.2.2.1)∧((wT3 v36.2.1 v36.2.2.2.1)∧((wT3 v36.1 v36.2.2.2.1)∧((wL5 s_1 v59)∧InR (a34+1)))))))),v35,((v60o.1.1,v60o.1.2.1,v60o.1.2.2.1,v60o.1.2.2.2.1,v60o.1.2.2.2.2.1,()),(a34+1),()))
def wV9 y x:=(vY6 y x).1
def wT6 y x:=(vY6 y x).2.1
def wO3 y x:=(vY6 y x).2.2
instance (y x):Decidable (wV9 y x):=by unfold wV9 vY6;dsimp only;infer_instance
def vN4 (y:vF7)(x:wQ3):(Int×Int×Int×(List (List D140))×Int×Unit):=
 let a0:=x.1
 (a0.1,a0.2.1,a0.2.2.1,a0.2.2.2.1,a0.2.2.2.2.1,())
def uV8:List (Nat×Sh):=[(0,(.box T191 (.agg (.cons (.int .i64) (.cons (.int .i64) (.cons (.int .i64) (.cons (.sl (.sl T140)) (.cons (.int .i64) .nl))))) (.cons vI (.cons vI (.cons vI (.cons (.own (.sl T140) 400000 false) (.cons vI .nl)))))))),(2,vB),(7,(.own T217 1007 false))]
def sK6:=li [(2,vB),(7,(.own T217 1007 false)),(32,(.own T217 1007 false)),(33,vI)] [(0,(.box T191 (.agg (.cons (.int .i64) (.cons (.int .i64) (.cons (.int .i64) (.cons (.sl (.sl T140)) (.cons (.int .i64) .nl))))) (.cons vI (.cons vI (.cons vI (.cons (.own (.sl T140) 400000 false) (.cons vI .nl)))))))),(34,vI)] wT6 wO3 wV9 (fun y x=>[ex 2 none uV8 ((vN4 y x),y.1,y.2.1,())]) [uV8]
abbrev vA0:Type:=(Bool×(List D217)×Unit)
abbrev wO9:Type:=((Int×Int×Int×(List (List D140))×Int×Unit)×Int×Unit)
def vR2 (y:vA0)(x:wO9):Prop×Bool×wO9:=
 let a7:=y.2.1
 let a0:=x.1
 let a10:=x.2.1
 let v78:=(decide (a10<(len a7)))
 let v84:=(a10-1)
 let v85:=(nth a7 v84 Z217)
 let v89:=(nth a7 a10 Z217)
 let s_1:=(a0.1,a0.2.1,a0.2.2.1,a0.2.2.2.1,a0.2.2.2.2.1,())
 let v91o:=(vA s_1 v85 v89)
 ((v78=true→(InR (a10-1)∧(InB v84 (len a7)∧(InB a10 (len a7)∧((wZ s_1 v85 v89)∧InR (a10+1)))))),v78,((v91o.1.1,v91o.1.2.1,v91o.1.2.2.1,v91o.1.2.2.2.1,v91o.1.2.2.2.2.1,()),(a10+1),()))
def wS2 y x:=(vR2 y x).1
def wP y x:=(vR2 y x).2.1
def wN0 y x:=(vR2 y x).2.2
instance (y x):Decidable (wS2 y x):=by unfold wS2 vR2;dsimp only;infer_instance
def vH0 (y:vA0)(x:wO9):(Int×Int×Int×(List (List D140))×Int×Unit):=
 let a0:=x.1
 (a0.1,a0.2.1,a0.2.2.1,a0.2.2.2.1,a0.2.2.2.2.1,())
def uO9:List (Nat×Sh):=[(0,(.box T191 (.agg (.cons (.int .i64) (.cons (.int .i64) (.cons (.int .i64) (.cons (.sl (.sl T140)) (.cons (.int .i64) .nl))))) (.cons vI (.cons vI (.cons vI (.cons (.own (.sl T140) 400000 false) (.cons vI .nl)))))))),(2,vB),(7,(.own T217 1007 false))]
def sC5:=li [(2,vB),(7,(.own T217 1007 false))] [(0,(.box T191 (.agg (.cons (.int .i64) (.cons (.int .i64) (.cons (.int .i64) (.cons (.sl (.sl T140)) (.cons (.int .i64) .nl))))) (.cons vI (.cons vI (.cons vI (.cons (.own (.sl T140) 400000 false) (.cons vI .nl)))))))),(10,vI)] wP wN0 wS2 (fun y x=>[ex 4 none uO9 ((vH0 y x),y.1,y.2.1,())]) [uO9]
def uV9 (p0:(Int×Int×Int×(List (List D140))×Int×Unit))(p1:List D140)(p2:Bool):Prop×(Unit)×((Int×Int×Int×(List (List D140))×Int×Unit)×Unit):=
 let v13:=(f151 p1 p2)
 let v20:=(f152 v13 p2 p0.1)
 let v23:=((len v20)==0)
 let v26:=((len v13)==1)
 let v29:=(nth v13 (0:Int) Z140)
 let s_1:=(p0.1,p0.2.1,p0.2.2.1,p0.2.2.2.1,p0.2.2.2.2.1,())
 let v31o:=(uV4 s_1 v29)
 let y6:=(p2,v20,v20,(len v20),())
 let x6:=((p0.1,p0.2.1,p0.2.2.1,p0.2.2.2.1,p0.2.2.2.2.1,()),(0:Int),())
 let r6_2_0:=(vN4 y6 (zB9 (wT6 y6) (wO3 y6) x6))
 let v63:=(!p2)
 let v67:=(len v20)
 let v68:=(v67-1)
 let v69:=(nth v20 v68 Z217)
 let v72:=(nth v20 (0:Int) Z217)
 let s_4:=(r6_2_0.1,r6_2_0.2.1,r6_2_0.2.2.1,r6_2_0.2.2.2.1,r6_2_0.2.2.2.2.1,())
 let v74o:=(vA s_4 v69 v72)
 let s_5:=((bif v63 then v74o.1.1 else r6_2_0.1),(bif v63 then v74o.1.2.1 else r6_2_0.2.1),(bif v63 then v74o.1.2.2.1 else r6_2_0.2.2.1),(bif v63 then v74o.1.2.2.2.1 else r6_2_0.2.2.2.1),(bif v63 then v74o.1.2.2.2.2.1 else r6_2_0.2.2.2.2.1),())
 let y13:=(p2,v20,())
 let x13:=(s_5,(1:Int),())
 let r13_4_0:=(vH0 y13 (zB9 (wP y13) (wN0 y13) x13))
 let v95:=(nth v20 (0:Int) Z217)
 let v99:=(len v20)
 let v100:=(v99-1)
 let v101:=(nth v20 v100 Z217)
 let s_7:=(r13_4_0.1,r13_4_0.2.1,r13_4_0.2.2.1,r13_4_0.2.2.2.1,r13_4_0.2.2.2.2.1,())
 let v103o:=(uV7 s_7 v95 v101)
 let s_8:=((bif v23 then (bif v26 then v31o.1.1 else p0.1) else (bif p2 then v103o.1.1 else r13_4_0.1)),(bif v23 then (bif v26 then v31o.1.2.1 else p0.2.1) else (bif p2 then v103o.1.2.1 else r13_4_0.2.1)),(bif v23 then (bif v26 then v31o.1.2.2.1 else p0.2.2.1) else (bif p2 then v103o.1.2.2.1 else r13_4_0.2.2.1)),(bif v23 then (bif v26 then v31o.1.2.2.2.1 else p0.2.2.2.1) else (bif p2 then v103o.1.2.2.2.1 else r13_4_0.2.2.2.1)),(bif v23 then (bif v26 then v31o.1.2.2.2.2.1 else p0.2.2.2.2.1) else (bif p2 then v103o.1.2.2.2.2.1 else r13_4_0.2.2.2.2.1)),())
 (((tR1 p1 p2)∧((tR2 v13 p2 p0.1)∧((v23=true→(v26=true→(InB (0:Int) (len v13)∧(vV9 s_1 v29))))∧((!v23)=true→((xB7 (wT6 y6) (wO3 y6) (wV9 y6) x6)∧((v63=true→(InR (v67-1)∧(InB v68 (len v20)∧(InB (0:Int) (len v20)∧(wZ s_4 v69 v72)))))∧((xB7 (wP y13) (wN0 y13) (wS2 y13) x13)∧(p2=true→(InB (0:Int) (len v20)∧(InR (v99-1)∧(InB v100 (len v20)∧(vK9 s_7 v95 v101)))))))))))),(),(s_8,()))
def vC5 p0 p1 p2:=(uV9 p0 p1 p2).1
def qZ9 p0 p1 p2:=(uV9 p0 p1 p2).2.1
def vW p0 p1 p2:=(uV9 p0 p1 p2).2.2
instance (p0 p1 p2):Decidable (vC5 p0 p1 p2):=by unfold vC5 uV9;dsimp only;infer_instance
theorem rN1:SK 140 (fnSpec [(0,(.box T191 (.agg (.cons (.int .i64) (.cons (.int .i64) (.cons (.int .i64) (.cons (.sl (.sl T140)) (.cons (.int .i64) .nl))))) (.cons vI (.cons vI (.cons vI (.cons (.own (.sl T140) 400000 false) (.cons vI .nl)))))))),(1,(.val (.sl T140))),(2,vB)] (.tup .nl) [(0,(.box T191 (.agg (.cons (.int .i64) (.cons (.int .i64) (.cons (.int .i64) (.cons (.sl (.sl T140)) (.cons (.int .i64) .nl))))) (.cons vI (.cons vI (.cons vI (.cons (.own (.sl T140) 400000 false) (.cons vI .nl))))))))] (fun x=>vC5 x.1 x.2.1 x.2.2.1) (fun x=>qZ9 x.1 x.2.1 x.2.2.1) (fun x=>vW x.1 x.2.1 x.2.2.1)):=fx (fun c=>{ c with wants:=[(153,[]),(154,[1]),(157,[]),(158,[])] }) Tryz.func140 104 [kb qX5,kb qY3,kb rM9,kb uL1,kb tR5,kb sK5,kb rN,kb rN0] [(6,sK6),(13,sC5)] [(3,[(4,0,20,1007)])] false [0] [59]
abbrev wW:Type:=((List Bool)×Unit×(List (List D140))×Int×Unit)
abbrev wO7:Type:=((Int×Int×Int×(List (List D140))×Int×Unit)×Int×Unit)
def vW0 (y:wW)(x:wO7):Prop×Bool×wO7×Bool×Bool:=
 let a1:=y.1
 let a39:=y.2.2.1
 let a38:=x.1
 let a41:=x.2.1
 let v42:=(decide (a41<y.2.2.2.1))
 let v44:=(nth a39 a41 ([]:List D140))
 let v50:=(nth a1 a41 false)
 let s_1:=(a38.1,a38.2.1,a38.2.2.1,a38.2.2.2.1,a38.2.2.2.2.1,())
 let v52o:=(vW s_1 v44 v50)
 let v57:=(decide (v52o.1.2.2.2.2.1>4096))
 ((v42=true→(InB a41 (len a39)∧(InB a41 (len a1)∧((vC5 s_1 v44 v50)∧((!v57)=true→InR (a41+1)))))),(v42&&(!v57)),((v52o.1.1,v52o.1.2.1,v52o.1.2.2.1,v52o.1.2.2.2.1,v52o.1.2.2.2.2.1,()),(a41+1),()),(v42&&v57),(!v42))
def vC6 y x:=(vW0 y x).1
def vL y x:=(vW0 y x).2.1
def wW0 y x:=(vW0 y x).2.2.1
def uQ5 y x:=(vW0 y x).2.2.2.1
def rA y x:=(vW0 y x).2.2.2.2
instance (y x):Decidable (vC6 y x):=by unfold vC6 vW0;dsimp only;infer_instance
def vY7 (y:wW)(x:wO7):(List (List D140)):=
 ([]:List (List D140))
def uW (y:wW)(x:wO7):Int:=
 (3:Int)
def tR7:List (Nat×Sh):=[(10,(.own (.sl T140) 0 false)),(11,vI)]
def vY8 (y:wW)(x:wO7):(Int×Int×Int×(List (List D140))×Int×Unit):=
 let a38:=x.1
 (a38.1,a38.2.1,a38.2.2.1,a38.2.2.2.1,a38.2.2.2.2.1,())
def tR8:List (Nat×Sh):=[(14,(.ref 38 T191)),(38,(.box T191 (.agg (.cons (.int .i64) (.cons (.int .i64) (.cons (.int .i64) (.cons (.sl (.sl T140)) (.cons (.int .i64) .nl))))) (.cons vI (.cons vI (.cons vI (.cons (.own (.sl T140) 403800 false) (.cons vI .nl))))))))]
def rA0:=li [(1,(.val (.sl .bool))),(14,(.ref 38 T191)),(39,(.val (.sl (.sl T140)))),(40,vI)] [(38,(.box T191 (.agg (.cons (.int .i64) (.cons (.int .i64) (.cons (.int .i64) (.cons (.sl (.sl T140)) (.cons (.int .i64) .nl))))) (.cons vI (.cons vI (.cons vI (.cons (.own (.sl T140) 403800 false) (.cons vI .nl)))))))),(41,vI)] vL wW0 vC6 (fun y x=>[ex 1 (some (uQ5 y x)) tR7 ((vY7 y x),(uW y x),()),ex 2 (some (rA y x)) tR8 (y.2.1,(vY8 y x),())]) [tR7,tR8]
def qG1 (p0:(List (List D140)))(p1:List Bool)(p2:Int)(p3:Int)(p4:Int):Prop×((List (List D140))×Int×Unit):=
 let v20:=(f139 p2 p3 p4)
 let v22:=(v20 !=0)
 let v25:=(f123 p0 (0:Int))
 let v27:=(v25 !=0)
 let v33:=((len p1)!=(len p0))
 let y11:=(p1,(),p0,(len p0),())
 let x11:=((p2,p3,p4,([]:List (List D140)),(0:Int),()),(0:Int),())
 let e11:=(zB9 (vL y11) (wW0 y11) x11)
 let q11_1:=(uQ5 y11 e11)
 (((tR0 p2 p3 p4)∧((!v22)=true→((uE6 p0 (0:Int))∧((!v27)=true→((!v33)=true→(xB7 (vL y11) (wW0 y11) (vC6 y11) x11)))))),((bif v22 then [] else (bif v27 then [] else (bif v33 then [] else (bif q11_1 then (vY7 y11 e11) else (vY8 y11 e11).2.2.2.1)))),(bif v22 then v20 else (bif v27 then v25 else (bif v33 then (15:Int) else (bif q11_1 then (uW y11 e11) else (0:Int))))),()))
def tR9 p0 p1 p2 p3 p4:=(qG1 p0 p1 p2 p3 p4).1
def f122 p0 p1 p2 p3 p4:=(qG1 p0 p1 p2 p3 p4).2
instance (p0 p1 p2 p3 p4):Decidable (tR9 p0 p1 p2 p3 p4):=by unfold tR9 qG1;dsimp only;infer_instance
theorem pA0:SK 122 (sp5 (.val (.sl (.sl T140))) (.val (.sl .bool)) vI vI vI (.tup (.cons (.own (.sl T140) 0 false) (.cons vI .nl))) tR9 f122):=fx (fun c=>{ c with wants:=[(140,[])] }) Tryz.func122 63 [kb sZ7,kb qX3,kb rN1] [(11,rA0)] [(35,[(4,0,403800,0)])]
def pA1 (p0:D91):Prop×Int:=
 let v15:=(f119 p0.2.2.2.2.2.2.2.2.2.2.2.2.2.2.2.2.2.2.1 p0.2.2.2.2.2.2.2.2.2.2.1)
 let v19:=(v15.2.1 !=0)
 let v28:=(bif (p0.2.2.2.2.2.2.2.2.2.2.2.2.2.2.2.2.2.2.2.1 !=0) then (p0.2.2.2.2.2.2.2.2.2.2.2.2.2.2.2.2.2.2.2.1 !=1) else false)
 let v41:=(bif (p0.2.2.2.2.2.2.2.2.2.2.2.2.2.2.2.2.2.2.2.2.1==0) then (bif (p0.2.2.2.2.2.2.2.2.2.2.2.2.2.2.2.2.2.2.2.2.2.1 !=0) then true else (p0.2.2.2.2.2.2.2.2.2.2.2.2.2.2.2.2.2.2.2.2.2.2.1 !=0)) else false)
 let v44:=(f120 v15.1)
 let v48:=(v44.2.1 !=0)
 let v54:=(p0.2.2.2.2.2.2.2.2.2.2.2.2.2.2.2.2.2.2.2.2.1 !=0)
 let v57:=(f121 v15.1)
 let v61:=(v57.2.1 !=0)
 let v72:=(f122 v44.1 v57.1 p0.2.2.2.2.2.2.2.2.2.2.2.2.2.2.2.2.2.2.2.2.1 p0.2.2.2.2.2.2.2.2.2.2.2.2.2.2.2.2.2.2.2.2.2.1 p0.2.2.2.2.2.2.2.2.2.2.2.2.2.2.2.2.2.2.2.2.2.2.1)
 let v76:=(v72.2.1 !=0)
 let m5_1:=(bif v54 then v72.1 else v44.1)
 let m6:=(bif v54 then (0:Int) else p0.2.2.2.2.2.2.2.2.2.2.2.2.2.2.2.2.2.2.2.1)
 let v80:=(f123 m5_1 m6)
 let v82:=(v80 !=0)
 let m2_4:=(bif v41 then (1:Int) else (bif v48 then v44.2.1 else (bif ((v61||((!v61)&&v76))&&v54) then (bif v61 then v57.2.1 else v72.2.1) else (bif v82 then v80 else (f105 p0.2.2.2.2.2.2.2.2.2.2.2.2.2.1)))))
 (((tQ3 p0.2.2.2.2.2.2.2.2.2.2.2.2.2.2.2.2.2.2.1 p0.2.2.2.2.2.2.2.2.2.2.1)∧((!v19)=true→((!v28)=true→((!v41)=true→((uE3 v15.1)∧((!v48)=true→((v54=true→((tQ5 v15.1)∧((!v61)=true→(tR9 v44.1 v57.1 p0.2.2.2.2.2.2.2.2.2.2.2.2.2.2.2.2.2.2.2.2.1 p0.2.2.2.2.2.2.2.2.2.2.2.2.2.2.2.2.2.2.2.2.2.1 p0.2.2.2.2.2.2.2.2.2.2.2.2.2.2.2.2.2.2.2.2.2.2.1))))∧((bif v54 then ((!v61)&&(!v76)) else true)=true→((uE6 m5_1 m6)∧((!v82)=true→(uD3 p0.2.2.2.2.2.2.2.2.2.2.2.2.2.1))))))))))),(bif v19 then v15.2.1 else (bif v28 then (8:Int) else m2_4)))
def tS p0:=(pA1 p0).1
def f107 p0:=(pA1 p0).2
instance (p0):Decidable (tS p0):=by unfold tS pA1;dsimp only;infer_instance
theorem pA2:SK 107 (sp1 (.val T91) vI tS f107):=fb Tryz.func107 87 [kb sZ1,kb qW8,kb rS5,kb qX0,kb pA0,kb sZ7] [] [(17,[(4,0,44,1005)]),(27,[(4,0,57,1007)]),(33,[(5,0,1005,0),(4,0,72,1005)])]
def pA3 (p0:Int)(p1:Int)(p2:Int):Prop×Bool:=
 (True,(bif (decide (p0≥p1)) then (decide (p0≤p2)) else false))
def vC7 p0 p1 p2:=(pA3 p0 p1 p2).1
def f160 p0 p1 p2:=(pA3 p0 p1 p2).2
instance (p0 p1 p2):Decidable (vC7 p0 p1 p2):=by unfold vC7 pA3;dsimp only;infer_instance
theorem rA1:SK 160 (sp3 vI vI vI vB vC7 f160):=fb Tryz.func160 15
abbrev vC8:Type:=((List D143)×Int×Int×(List D140)×Unit)
abbrev wW1:Type:=(Int×Unit)
def vW1 (y:vC8)(x:wW1):Prop×Bool×wW1×Bool×Bool:=
 let a27:=x.1
 let v28:=(decide (a27<3))
 let v29:=(nth y.2.2.2.1 a27 Z140)
 let v33:=(!(f160 v29.1 (-65536:Int) (65536:Int)))
 let v39:=(bif v33 then true else (!(f160 v29.2.1 (-65536:Int) (65536:Int))))
 ((v28=true→(InB a27 3∧((vC7 v29.1 (-65536:Int) (65536:Int))∧(((!v33)=true→(vC7 v29.2.1 (-65536:Int) (65536:Int)))∧((!v39)=true→InR (a27+1)))))),(v28&&(!v39)),((a27+1),()),(v28&&v39),(!v28))
def vY9 y x:=(vW1 y x).1
def uL2 y x:=(vW1 y x).2.1
def vI1 y x:=(vW1 y x).2.2.1
def tS0 y x:=(vW1 y x).2.2.2.1
def tS1 y x:=(vW1 y x).2.2.2.2
instance (y x):Decidable (vY9 y x):=by unfold vY9 vW1;dsimp only;infer_instance
def uW0 (y:vC8)(x:wW1):Int:=
 (2:Int)
def tS2:List (Nat×Sh):=[(19,(.val (.sl T143))),(20,vI),(21,vI)]
def rA2:=li [(19,(.val (.sl T143))),(20,vI),(21,vI),(26,(.val (.arr 3 T140)))] [(27,vI)] uL2 vI1 vY9 (fun y x=>[ex 1 (some (tS0 y x)) [(2,vI)] ((uW0 y x),()),ex 4 (some (tS1 y x)) tS2 (y.1,y.2.1,y.2.2.1,())]) [[(2,vI)],tS2]
abbrev vN5:Type:=((List D143)×Int×Unit)
abbrev vA1:Type:=(Int×Unit)
def uL3 (y:vN5)(x:vA1):Prop×Bool×vA1×Bool×Bool:=
 let a19:=y.1
 let a20:=y.2.1
 let a21:=x.1
 let v22:=(decide (a21<a20))
 let y10:=(a19,a20,a21,(nth a19 a21 Z143).2.1,())
 let x10:=((0:Int),())
 let e10:=(zB9 (uL2 y10) (vI1 y10) x10)
 let q10_4:=(tS1 y10 e10)
 ((v22=true→(InB a21 (len a19)∧((xB7 (uL2 y10) (vI1 y10) (vY9 y10) x10)∧(q10_4=true→InR (a21+1))))),(v22&&q10_4),((a21+1),()),(v22&&(tS0 y10 e10)),(!v22))
def uL4 y x:=(uL3 y x).1
def tS3 y x:=(uL3 y x).2.1
def uF6 y x:=(uL3 y x).2.2.1
def sE6 y x:=(uL3 y x).2.2.2.1
def rN2 y x:=(uL3 y x).2.2.2.2
instance (y x):Decidable (uL4 y x):=by unfold uL4 uL3;dsimp only;infer_instance
def tI5 (y:vN5)(x:vA1):Int:=
 let a19:=y.1
 let a21:=x.1
 let y10:=(a19,y.2.1,a21,(nth a19 a21 Z143).2.1,())
 (uW0 y10 (zB9 (uL2 y10) (vI1 y10) ((0:Int),())))
def rN3:=li [(19,(.val (.sl T143))),(20,vI)] [(21,vI)] tS3 uF6 uL4 (fun y x=>[ex 1 (some (sE6 y x)) [(2,vI)] ((tI5 y x),()),ex 2 (some (rN2 y x)) [] ()]) [[(2,vI)],[]]
def pA4 (p0:D204):Prop×Int:=
 let v11:=(!(f160 p0.2.1 (0:Int) (65536:Int)))
 let v14:=(f134 p0.2.2.1)
 let v16:=(v14 !=0)
 let y7:=(p0.2.2.1,(len p0.2.2.1),())
 let x7:=((0:Int),())
 let e7:=(zB9 (tS3 y7) (uF6 y7) x7)
 (((vC7 p0.2.1 (0:Int) (65536:Int))∧((!v11)=true→((uD9 p0.2.2.1)∧((!v16)=true→(xB7 (tS3 y7) (uF6 y7) (uL4 y7) x7))))),(bif v11 then (2:Int) else (bif v16 then v14 else (bif (sE6 y7 e7) then (tI5 y7 e7) else (0:Int)))))
def sK7 p0:=(pA4 p0).1
def f174 p0:=(pA4 p0).2
instance (p0):Decidable (sK7 p0):=by unfold sK7 pA4;dsimp only;infer_instance
theorem pA5:SK 174 (sp1 (.val T204) vI sK7 f174):=fb Tryz.func174 42 [kb sK3,kb rA1] [(7,rN3),(10,rA2)]
def pA6 (p0:D209)(p1:D209):Prop×Bool:=
 (True,(bif (decide (p0.1>p1.1)) then true else (bif (p0.1==p1.1) then (decide (p0.2.1>p1.2.1)) else false)))
def sK8 p0 p1:=(pA6 p0 p1).1
def f175 p0 p1:=(pA6 p0 p1).2
instance (p0 p1):Decidable (sK8 p0 p1):=by unfold sK8 pA6;dsimp only;infer_instance
theorem pA7:SK 175 (sp2 (.val T209) (.val T209) vB sK8 f175):=fb Tryz.func175 24
abbrev vN6:Type:=(D175×(List D204)×Int×Unit)
abbrev vA2:Type:=(Int×Unit)
def uL5 (y:vN6)(x:vA2):Prop×Bool×vA2×Bool×Bool:=
 let a1:=y.1
 let a35:=y.2.1
 let a37:=x.1
 let v38:=(decide (a37<y.2.2.1))
 let v40:=(nth a35 a37 Z204)
 let v43:=(decide (a37>0))
 let v50:=(a37-1)
 let v55:=(bif v43 then (decide (v40.1≤(nth a1.2.2.2.1 v50 Z204).1)) else false)
 let v59:=((f174 v40)!=0)
 let c_2:=((!v55)&&(!v59))
 ((v38=true→(InB a37 (len a35)∧((v43=true→InR (a37-1))∧((v43=true→InB v50 (len a1.2.2.2.1))∧(((!v55)=true→(sK7 v40))∧(c_2=true→InR (a37+1))))))),(v38&&c_2),((a37+1),()),(v38&&(v55||((!v55)&&v59))),(!v38))
def uL6 y x:=(uL5 y x).1
def tS4 y x:=(uL5 y x).2.1
def uF7 y x:=(uL5 y x).2.2.1
def sE7 y x:=(uL5 y x).2.2.2.1
def sE8 y x:=(uL5 y x).2.2.2.2
instance (y x):Decidable (uL6 y x):=by unfold uL6 uL5;dsimp only;infer_instance
def tI6 (y:vN6)(x:vA2):Int:=
 let a37:=x.1
 let v40:=(nth y.2.1 a37 Z204)
 (bif (bif (decide (a37>0)) then (decide (v40.1≤(nth y.1.2.2.2.1 (a37-1) Z204).1)) else false) then (24:Int) else (f174 v40))
def rN4:=li [(1,(.box T175 (.val T175))),(35,(.val (.sl T204))),(36,vI)] [(37,vI)] tS4 uF7 uL6 (fun y x=>[ex 1 (some (sE7 y x)) [(2,vI)] ((tI6 y x),()),ex 2 (some (sE8 y x)) [(1,(.box T175 (.val T175)))] (y.1,())]) [[(2,vI)],[(1,(.box T175 (.val T175)))]]
abbrev vC9:Type:=(D175×(List D209)×Int×Unit)
abbrev wW2:Type:=(Int×Unit)
def vW2 (y:vC9)(x:wW2):Prop×Bool×wW2×Bool×Bool:=
 let a1:=y.1
 let a63:=y.2.1
 let a65:=x.1
 let v66:=(decide (a65<y.2.2.1))
 let v68:=(nth a63 a65 Z209)
 let v71:=(decide (a65>0))
 let v77:=(a65-1)
 let v78:=(nth a1.2.2.2.2.1 v77 Z209)
 let v82:=(bif v71 then (!(f175 v68 v78)) else false)
 let v86:=(!(f160 v68.2.2.1 (-65536:Int) (65536:Int)))
 let c_2:=((!v82)&&(!v86))
 ((v66=true→(InB a65 (len a63)∧((v71=true→InR (a65-1))∧((v71=true→InB v77 (len a1.2.2.2.2.1))∧((v71=true→(sK8 v68 v78))∧(((!v82)=true→(vC7 v68.2.2.1 (-65536:Int) (65536:Int)))∧(c_2=true→InR (a65+1)))))))),(v66&&c_2),((a65+1),()),(v66&&(v82||((!v82)&&v86))),(!v66))
def vZ y x:=(vW2 y x).1
def tD5 y x:=(vW2 y x).2.1
def vZ0 y x:=(vW2 y x).2.2.1
def tS5 y x:=(vW2 y x).2.2.2.1
def rA3 y x:=(vW2 y x).2.2.2.2
instance (y x):Decidable (vZ y x):=by unfold vZ vW2;dsimp only;infer_instance
def uW1 (y:vC9)(x:wW2):Int:=
 let a65:=x.1
 (bif (bif (decide (a65>0)) then (!(f175 (nth y.2.1 a65 Z209) (nth y.1.2.2.2.2.1 (a65-1) Z209))) else false) then (24:Int) else (2:Int))
def rA4:=li [(1,(.box T175 (.val T175))),(63,(.val (.sl T209))),(64,vI)] [(65,vI)] tD5 vZ0 vZ (fun y x=>[ex 1 (some (tS5 y x)) [(2,vI)] ((uW1 y x),()),ex 4 (some (rA3 y x)) [] ()]) [[(2,vI)],[]]
def pA8 (p0:D175):Prop×Int:=
 let v11:=(!(f160 p0.1 (1:Int) (65536:Int)))
 let v17:=(bif v11 then true else (!(f160 p0.2.1 (0:Int) (65536:Int))))
 let v23:=(bif v17 then true else (!(f160 p0.2.2.1 (0:Int) (65536:Int))))
 let v33:=(bif (decide ((len p0.2.2.2.1)>256)) then true else (decide ((len p0.2.2.2.2.1)>256)))
 let y6:=(p0,p0.2.2.2.1,(len p0.2.2.2.1),())
 let x6:=((0:Int),())
 let e6:=(zB9 (tS4 y6) (uF7 y6) x6)
 let y15:=(p0,p0.2.2.2.2.1,(len p0.2.2.2.2.1),())
 let x15:=((0:Int),())
 let e15:=(zB9 (tD5 y15) (vZ0 y15) x15)
 (((vC7 p0.1 (1:Int) (65536:Int))∧(((!v11)=true→(vC7 p0.2.1 (0:Int) (65536:Int)))∧(((!v17)=true→(vC7 p0.2.2.1 (0:Int) (65536:Int)))∧((!v23)=true→((!v33)=true→((xB7 (tS4 y6) (uF7 y6) (uL6 y6) x6)∧((sE8 y6 e6)=true→(xB7 (tD5 y15) (vZ0 y15) (vZ y15) x15)))))))),(bif v23 then (2:Int) else (bif v33 then (3:Int) else (bif (sE7 y6 e6) then (tI6 y6 e6) else (bif (tS5 y15 e15) then (uW1 y15 e15) else (0:Int))))))
def tS6 p0:=(pA8 p0).1
def f159 p0:=(pA8 p0).2
instance (p0):Decidable (tS6 p0):=by unfold tS6 pA8;dsimp only;infer_instance
theorem pA9:SK 159 (sp1 (.val T175) vI tS6 f159):=fb Tryz.func159 88 [kb rA1,kb pA5,kb pA7] [(6,rN4),(15,rA4)]
abbrev vN7:Type:=((List UInt8)×Int×Int×Int×Unit)
abbrev vA3:Type:=(Int×Unit)
def uL7 (y:vN7)(x:vA3):Prop×Bool×vA3×Bool×Bool:=
 let a1:=y.1
 let a18:=x.1
 let v19:=(decide (a18<y.2.2.2.1))
 let v24:=(decide ((wJ5 a1 a18)<32))
 let v30:=(bif v24 then true else (decide ((wJ5 a1 a18)>126)))
 let v36:=(bif v30 then ((wJ5 a1 a18)!=10) else false)
 ((v19=true→(InB a18 (len a1)∧(((!v24)=true→InB a18 (len a1))∧((v30=true→InB a18 (len a1))∧((!v36)=true→InR (a18+1)))))),(v19&&(!v36)),((a18+1),()),(v19&&v36),(!v19))
def uL8 y x:=(uL7 y x).1
def tS7 y x:=(uL7 y x).2.1
def uF8 y x:=(uL7 y x).2.2.1
def tD6 y x:=(uL7 y x).2.2.2.1
def sE9 y x:=(uL7 y x).2.2.2.2
instance (y x):Decidable (uL8 y x):=by unfold uL8 uL7;dsimp only;infer_instance
def uF9 (y:vN7)(x:vA3):Int:=
 (4:Int)
def rN5:=li [(1,vS),(2,vI),(3,vI),(17,vI)] [(18,vI)] tS7 uF8 uL8 (fun y x=>[ex 1 (some (tD6 y x)) [(8,vI)] ((uF9 y x),()),ex 2 (some (sE9 y x)) [(1,vS),(2,vI),(3,vI)] (y.1,y.2.1,y.2.2.1,())]) [[(8,vI)],[(1,vS),(2,vI),(3,vI)]]
def qG2 (p0:D175)(p1:List UInt8)(p2:Int)(p3:Int):Prop×Int:=
 let v12:=(f159 p0)
 let v14:=(v12 !=0)
 let y5:=(p1,p2,p3,(len p1),())
 let x5:=((0:Int),())
 let e5:=(zB9 (tS7 y5) (uF8 y5) x5)
 let v40:=(decide ((len p1)>128))
 let v43:=(!(f160 p2 (1:Int) (1048576:Int)))
 let m8_3:=(bif v14 then v12 else (bif (tD6 y5 e5) then (uF9 y5 e5) else (bif v40 then (3:Int) else (bif (bif v43 then true else (!(f160 p3 (0:Int) (1048576:Int)))) then (2:Int) else (0:Int)))))
 (((tS6 p0)∧((!v14)=true→((xB7 (tS7 y5) (uF8 y5) (uL8 y5) x5)∧((sE9 y5 e5)=true→((!v40)=true→((vC7 p2 (1:Int) (1048576:Int))∧((!v43)=true→(vC7 p3 (0:Int) (1048576:Int))))))))),m8_3)
def tS8 p0 p1 p2 p3:=(qG2 p0 p1 p2 p3).1
def f141 p0 p1 p2 p3:=(qG2 p0 p1 p2 p3).2
instance (p0 p1 p2 p3):Decidable (tS8 p0 p1 p2 p3):=by unfold tS8 qG2;dsimp only;infer_instance
theorem pB0:SK 141 (sp4 (.val T175) vS vI vI vI tS8 f141):=fb Tryz.func141 49 [kb pA9,kb rA1] [(5,rN5)]
abbrev uG:Type:=(D175×Unit×(D175×(List Int)×Unit)×(List D204)×Int×Unit)
abbrev vN8:Type:=(Int×Int×Unit)
def tM1 (y:uG)(x:vN8):Prop×Bool×vN8:=
 let a14:=y.2.2.2.1
 let a16:=x.2.1
 let v17:=(decide (a16<y.2.2.2.2.1))
 ((v17=true→(InB a16 (len a14)∧InR (a16+1))),v17,((bif ((nth a14 a16 Z204).1==63) then a16 else x.1),(a16+1),()))
def uL9 y x:=(tM1 y x).1
def tS9 y x:=(tM1 y x).2.1
def uG0 y x:=(tM1 y x).2.2
instance (y x):Decidable (uL9 y x):=by unfold uL9 tM1;dsimp only;infer_instance
def tI7 (y:uG)(x:vN8):Int:=
 x.1
def sF:List (Nat×Sh):=[(1,(.box T175 (.val T175))),(3,(.ref 12 T225)),(4,vI),(12,(.box T225 (.agg (.cons T175 (.cons (.arr 256 (.int .i64)) .nl)) (.cons (.val T175) (.cons (.val (.arr 256 (.int .i64))) .nl)))))]
def rN6:=li [(1,(.box T175 (.val T175))),(3,(.ref 12 T225)),(12,(.box T225 (.agg (.cons T175 (.cons (.arr 256 (.int .i64)) .nl)) (.cons (.val T175) (.cons (.val (.arr 256 (.int .i64))) .nl))))),(14,(.val (.sl T204))),(15,vI)] [(4,vI),(16,vI)] tS9 uG0 uL9 (fun y x=>[ex 2 none sF (y.1,y.2.1,(tI7 y x),y.2.2.1,())]) [sF]
abbrev vW3:Type:=(D175×Unit×Int×Unit)
abbrev vD:Type:=((D175×(List Int)×Unit)×Int×Unit)
def uW2 (y:vW3)(x:vD):Prop×Bool×vD:=
 let a12:=x.1
 let a26:=x.2.1
 let v27:=(decide (a26<256))
 ((v27=true→(InB a26 256∧InR (a26+1))),v27,((a12.1,(List.set a12.2.1 (Int.toNat a26) y.2.2.1),()),(a26+1),()))
def vZ1 y x:=(uW2 y x).1
def tD7 y x:=(uW2 y x).2.1
def vZ2 y x:=(uW2 y x).2.2
instance (y x):Decidable (vZ1 y x):=by unfold vZ1 uW2;dsimp only;infer_instance
def uW3 (y:vW3)(x:vD):(D175×(List Int)×Unit):=
 let a12:=x.1
 (a12.1,a12.2.1,())
def tT:List (Nat×Sh):=[(1,(.box T175 (.val T175))),(3,(.ref 12 T225)),(12,(.box T225 (.agg (.cons T175 (.cons (.arr 256 (.int .i64)) .nl)) (.cons (.val T175) (.cons (.val (.arr 256 (.int .i64))) .nl)))))]
def rA5:=li [(1,(.box T175 (.val T175))),(3,(.ref 12 T225)),(4,vI)] [(12,(.box T225 (.agg (.cons T175 (.cons (.arr 256 (.int .i64)) .nl)) (.cons (.val T175) (.cons (.val (.arr 256 (.int .i64))) .nl))))),(26,vI)] tD7 vZ2 vZ1 (fun y x=>[ex 4 none tT (y.1,y.2.1,(uW3 y x),())]) [tT]
abbrev vW4:Type:=(Unit×(List D204)×Int×Unit)
abbrev vD0:Type:=((D175×(List Int)×Unit)×Int×Unit)
def uW4 (y:vW4)(x:vD0):Prop×Bool×vD0:=
 let a37:=y.2.1
 let a12:=x.1
 let a39:=x.2.1
 let v40:=(decide (a39<y.2.2.1))
 let v42:=(nth a37 a39 Z204)
 ((v40=true→(InB a39 (len a37)∧(InB v42.1 256∧InR (a39+1)))),v40,((a12.1,(List.set a12.2.1 (Int.toNat v42.1) a39),()),(a39+1),()))
def vZ3 y x:=(uW4 y x).1
def tD8 y x:=(uW4 y x).2.1
def vZ4 y x:=(uW4 y x).2.2
instance (y x):Decidable (vZ3 y x):=by unfold vZ3 uW4;dsimp only;infer_instance
def uW5 (y:vW4)(x:vD0):(D175×(List Int)×Unit):=
 let a12:=x.1
 (a12.1,a12.2.1,())
def tT0:List (Nat×Sh):=[(3,(.ref 12 T225)),(12,(.box T225 (.agg (.cons T175 (.cons (.arr 256 (.int .i64)) .nl)) (.cons (.val T175) (.cons (.val (.arr 256 (.int .i64))) .nl)))))]
def rA6:=li [(3,(.ref 12 T225)),(37,(.val (.sl T204))),(38,vI)] [(12,(.box T225 (.agg (.cons T175 (.cons (.arr 256 (.int .i64)) .nl)) (.cons (.val T175) (.cons (.val (.arr 256 (.int .i64))) .nl))))),(39,vI)] tD8 vZ4 vZ3 (fun y x=>[ex 6 none tT0 (y.1,(uW5 y x),())]) [tT0]
def pB1 (p0:D175):Prop×D225:=
 let y4:=(p0,(),(p0,(List.replicate 256 (0:Int)),()),p0.2.2.2.1,(len p0.2.2.2.1),())
 let x4:=((-1:Int),(0:Int),())
 let y10:=(p0,(),(tI7 y4 (zB9 (tS9 y4) (uG0 y4) x4)),())
 let x10:=((p0,(List.replicate 256 (0:Int)),()),(0:Int),())
 let r10_4_0:=(uW3 y10 (zB9 (tD7 y10) (vZ2 y10) x10))
 let y15:=((),p0.2.2.2.1,(len p0.2.2.2.1),())
 let x15:=((r10_4_0.1,r10_4_0.2.1,()),(0:Int),())
 let r15_6_0:=(uW5 y15 (zB9 (tD8 y15) (vZ4 y15) x15))
 (((xB7 (tS9 y4) (uG0 y4) (uL9 y4) x4)∧((xB7 (tD7 y10) (vZ2 y10) (vZ1 y10) x10)∧(xB7 (tD8 y15) (vZ4 y15) (vZ3 y15) x15))),(r15_6_0.1,r15_6_0.2.1,()))
def tT1 p0:=(pB1 p0).1
def f142 p0:=(pB1 p0).2
instance (p0):Decidable (tT1 p0):=by unfold tT1 pB1;dsimp only;infer_instance
theorem pB2:SK 142 (sp1 (.val T175) (.val (.ptr T225)) tT1 f142):=fb Tryz.func142 53 [] [(4,rN6),(10,rA5),(15,rA6)] [(39,[(3,12,0,0)])]
end Go.Proofs.YtofmmkikplmlpaaGreatDoor.Am
