/- Printed by program, part 2. No condition. -/
import Derived.Test.YtmmpcldfjocfmaaGreatDoorDckL
set_option linter.unusedVariables false
set_option synthInstance.maxSize 4000
set_option synthInstance.maxHeartbeats 400000
namespace Go.Proofs.YtmmpcldfjocfmaaGreatDoor.Am
open Go Go.Am Go.Proofs
def f18t (p0:D34):Prop×Bool:=
 (True,(bif (!false) then (decide ((len p0.1)>0)) else false))
def vA8 p0:=(f18t p0).1
def f18 p0:=(f18t p0).2
instance (p0):Decidable (vA8 p0):=by unfold vA8 f18t;dsimp only;infer_instance
theorem vL5:SK 18 (sp1 (.val (.ptr T34)) vB vA8 f18):=fb Tryz.func18 13
abbrev vF4:Type:=((List UInt8)×Int×Unit)
abbrev wU7:Type:=(Int×Unit)
def uJ5 (y:vF4)(x:wU7):Prop×Bool×wU7×Bool×Bool:=
 let a0:=y.1
 let a14:=x.1
 let v15:=(decide (a14<y.2.1))
 let v20:=(decide ((wK5 a0 a14)<33))
 let v26:=(bif v20 then true else (decide ((wK5 a0 a14)>126)))
 ((v15=true→(InB a14 (len a0)∧(((!v20)=true→InB a14 (len a0))∧((!v26)=true→InR (a14+1))))),(v15&&(!v26)),((a14+1),()),(v15&&v26),(!v15))
def uB3 y x:=(uJ5 y x).1
def tK9 y x:=(uJ5 y x).2.1
def vW9 y x:=(uJ5 y x).2.2.1
def tS4 y x:=(uJ5 y x).2.2.2.1
def sP3 y x:=(uJ5 y x).2.2.2.2
instance (y x):Decidable (uB3 y x):=by unfold uB3 uJ5;dsimp only;infer_instance
def uU6 (y:vF4)(x:wU7):Bool:=
 false
def sP4:=li [(0,vS),(13,vI)] [(14,vI)] tK9 vW9 uB3 (fun y x=>[ex 1 (some (tS4 y x)) [(2,vB)] ((uU6 y x),()),ex 2 (some (sP3 y x)) [] ()]) [[(2,vB)],[]]
def f19t (p0:List UInt8):Prop×Bool:=
 let v11:=(bif (decide ((len p0)<1)) then true else (decide ((len p0)>32)))
 let y4:=(p0,(len p0),())
 let x4:=((0:Int),())
 let e4:=(zD9 (tK9 y4) (vW9 y4) x4)
 (((!v11)=true→(wB6 (tK9 y4) (vW9 y4) (uB3 y4) x4)),(bif v11 then false else (bif (tS4 y4 e4) then (uU6 y4 e4) else true)))
def sE2 p0:=(f19t p0).1
def f19 p0:=(f19t p0).2
instance (p0):Decidable (sE2 p0):=by unfold sE2 f19t;dsimp only;infer_instance
theorem rY7:SK 19 (sp1 vS vB sE2 f19):=fb Tryz.func19 28 [] [(4,sP4)]
def f54t :Prop×Int:=
 (True,(4:Int))
def tS5 :Prop:=(f54t).1
def f54 :Int:=(f54t).2
instance:Decidable tS5:=by unfold tS5 f54t;dsimp only;infer_instance
def sY8:Am.Spec:=fnSpec [] vI [] (fun x=>tS5 ) (fun x=>f54 ) (fun _=>())
theorem rY8:SK 54 (fnSpec [] vI [] (fun x=>tS5 ) (fun x=>f54 ) (fun _=>())):=fb Tryz.func54 1
def f37t (p0:D28):Prop×Int:=
 let v20:=(bif (bif (bif (decide (p0.1<1)) then true else (decide (p0.1>256))) then true else (decide (p0.2.1<1))) then true else (decide (p0.2.1>256)))
 let v23:=(decide (p0.2.2.1<0))
 (((!v20)=true→((!v23)=true→tS5)),(bif v20 then (15:Int) else (bif (bif v23 then true else (decide (p0.2.2.1≥f54))) then (2:Int) else (0:Int))))
def sE3 p0:=(f37t p0).1
def f37 p0:=(f37t p0).2
instance (p0):Decidable (sE3 p0):=by unfold sE3 f37t;dsimp only;infer_instance
def sY9:=sp1 (.val T28) vI sE3 f37
def rI0:=Cy [(54,sY8)] [] [] 30
theorem rY9:SK 37 sY9:=fq (c:=rI0) Tryz.func37 ⟨rY8,trivial⟩
def f65t (p0:Int):Prop×Bool:=
 (True,(bif (decide (p0≥0)) then (decide (p0≤65535)) else false))
def sE4 p0:=(f65t p0).1
def f65 p0:=(f65t p0).2
instance (p0):Decidable (sE4 p0):=by unfold sE4 f65t;dsimp only;infer_instance
theorem rZ:SK 65 (sp1 vI vB sE4 f65):=fb Tryz.func65 9
abbrev vF5:Type:=((List Int)×Int×Unit)
abbrev wU8:Type:=(Int×Unit)
def uJ6 (y:vF5)(x:wU8):Prop×Bool×wU8×Bool×Bool:=
 let a42:=y.1
 let a44:=x.1
 let v45:=(decide (a44<y.2.1))
 let v46:=(nth a42 a44 (0:Int))
 let v50:=(!(f65 v46))
 ((v45=true→(InB a44 (len a42)∧((sE4 v46)∧((!v50)=true→InR (a44+1))))),(v45&&(!v50)),((a44+1),()),(v45&&v50),(!v45))
def uB4 y x:=(uJ6 y x).1
def tL y x:=(uJ6 y x).2.1
def vX y x:=(uJ6 y x).2.2.1
def tS6 y x:=(uJ6 y x).2.2.2.1
def sP5 y x:=(uJ6 y x).2.2.2.2
instance (y x):Decidable (uB4 y x):=by unfold uB4 uJ6;dsimp only;infer_instance
def uU7 (y:vF5)(x:wU8):Int:=
 (2:Int)
def sP6:=li [(42,(.val (.sl (.int .i64)))),(43,vI)] [(44,vI)] tL vX uB4 (fun y x=>[ex 1 (some (tS6 y x)) [(2,vI)] ((uU7 y x),()),ex 2 (some (sP5 y x)) [] ()]) [[(2,vI)],[]]
def f43t (p0:D24):Prop×Int:=
 let v22:=(bif (bif (bif (decide (p0.1<0)) then true else (decide (p0.1>256))) then true else (decide (p0.2.1<0))) then true else (decide (p0.2.1>256)))
 let v29:=(!(Ty.eqb .bool (p0.1==0) (p0.2.1==0)))
 let v40:=(bif v29 then true else ((len p0.2.2.1)!=(p0.1*p0.2.1)))
 let y6:=(p0.2.2.1,(len p0.2.2.1),())
 let x6:=((0:Int),())
 let e6:=(zD9 (tL y6) (vX y6) x6)
 (((!v22)=true→(((!v29)=true→InR (p0.1*p0.2.1))∧((!v40)=true→(wB6 (tL y6) (vX y6) (uB4 y6) x6)))),(bif v22 then (15:Int) else (bif v40 then (15:Int) else (bif (tS6 y6 e6) then (uU7 y6 e6) else (0:Int)))))
def tS7 p0:=(f43t p0).1
def f43 p0:=(f43t p0).2
instance (p0):Decidable (tS7 p0):=by unfold tS7 f43t;dsimp only;infer_instance
theorem rB6:SK 43 (sp1 (.val T24) vI tS7 f43):=fb Tryz.func43 52 [kb rZ] [(6,sP6)]
def f57t (p0:D80):Prop×Bool:=
 (True,(bif (bif (p0.2.1==7) then true else (p0.2.1==8)) then true else (p0.2.1==11)))
def tF4 p0:=(f57t p0).1
def f57 p0:=(f57t p0).2
instance (p0):Decidable (tF4 p0):=by unfold tF4 f57t;dsimp only;infer_instance
theorem sP7:SK 57 (sp1 (.val T80) vB tF4 f57):=fb Tryz.func57 16
def f90t (p0:Int):Prop×(List UInt8):=
 let v5:=(p0==1)
 let v7:=(p0==2)
 let v9:=(p0==3)
 let v11:=(p0==4)
 let v13:=(p0==5)
 let v15:=(p0==6)
 let v17:=(p0==7)
 let v19:=(p0==8)
 let v21:=(p0==9)
 let v23:=(p0==10)
 let m2_2:=(bif v19 then ([102,105,108,116,101,114]:List UInt8) else (bif v21 then ([108,105,110,107]:List UInt8) else (bif v23 then ([99,108,111,110,101]:List UInt8) else ([119,97,114,112]:List UInt8))))
 let m2_6:=(bif v11 then ([103,114,97,100,105,101,110,116]:List UInt8) else (bif v13 then ([112,97,116,104]:List UInt8) else (bif v15 then ([116,101,120,116]:List UInt8) else (bif v17 then ([97,100,106,117,115,116]:List UInt8) else m2_2))))
 let c_14:=(bif v9 then true else (bif v11 then true else (bif v13 then true else (bif v15 then true else (bif v17 then true else (bif v19 then true else (bif v21 then true else (bif v23 then true else (p0==11)))))))))
 let m2_10:=(bif (bif v5 then true else (bif v7 then true else c_14)) then (bif v5 then ([103,114,111,117,112]:List UInt8) else (bif v7 then ([105,109,97,103,101]:List UInt8) else (bif v9 then ([102,105,108,108]:List UInt8) else m2_6))) else ([]:List UInt8))
 (True,m2_10)
def sE5 p0:=(f90t p0).1
def f90 p0:=(f90t p0).2
instance (p0):Decidable (sE5 p0):=by unfold sE5 f90t;dsimp only;infer_instance
theorem rZ0:SK 90 (sp1 vI vS sE5 f90):=fb Tryz.func90 26
abbrev vF6:Type:=((List UInt8)×Int×Unit)
abbrev wU9:Type:=(Int×Unit)
def uJ7 (y:vF6)(x:wU9):Prop×Bool×wU9×Bool×Bool:=
 let a0:=y.1
 let a14:=x.1
 let v15:=(decide (a14<y.2.1))
 let v20:=(decide ((wK5 a0 a14)<33))
 let v26:=(bif v20 then true else (decide ((wK5 a0 a14)>126)))
 ((v15=true→(InB a14 (len a0)∧(((!v20)=true→InB a14 (len a0))∧((!v26)=true→InR (a14+1))))),(v15&&(!v26)),((a14+1),()),(v15&&v26),(!v15))
def uB5 y x:=(uJ7 y x).1
def tL0 y x:=(uJ7 y x).2.1
def vX0 y x:=(uJ7 y x).2.2.1
def tS8 y x:=(uJ7 y x).2.2.2.1
def sP8 y x:=(uJ7 y x).2.2.2.2
instance (y x):Decidable (uB5 y x):=by unfold uB5 uJ7;dsimp only;infer_instance
def uU8 (y:vF6)(x:wU9):Bool:=
 false
def sP9:=li [(0,vS),(13,vI)] [(14,vI)] tL0 vX0 uB5 (fun y x=>[ex 1 (some (tS8 y x)) [(2,vB)] ((uU8 y x),()),ex 2 (some (sP8 y x)) [] ()]) [[(2,vB)],[]]
def f91t (p0:List UInt8):Prop×Bool:=
 let v11:=(bif (decide ((len p0)<1)) then true else (decide ((len p0)>32)))
 let y4:=(p0,(len p0),())
 let x4:=((0:Int),())
 let e4:=(zD9 (tL0 y4) (vX0 y4) x4)
 (((!v11)=true→(wB6 (tL0 y4) (vX0 y4) (uB5 y4) x4)),(bif v11 then false else (bif (tS8 y4 e4) then (uU8 y4 e4) else true)))
def sE6 p0:=(f91t p0).1
def f91 p0:=(f91t p0).2
instance (p0):Decidable (sE6 p0):=by unfold sE6 f91t;dsimp only;infer_instance
theorem rZ1:SK 91 (sp1 vS vB sE6 f91):=fb Tryz.func91 28 [] [(4,sP9)]
def f92t (p0:Int):Prop×Bool:=
 (True,(bif (decide (p0≥0)) then (decide (p0≤1073741824)) else false))
def tS9 p0:=(f92t p0).1
def f92 p0:=(f92t p0).2
instance (p0):Decidable (tS9 p0):=by unfold tS9 f92t;dsimp only;infer_instance
theorem rZ2:SK 92 (sp1 vI vB tS9 f92):=fb Tryz.func92 9
def f93t (p0:Int):Prop×Bool:=
 (True,(bif (decide (p0≥0)) then (decide (p0≤65535)) else false))
def sE7 p0:=(f93t p0).1
def f93 p0:=(f93t p0).2
instance (p0):Decidable (sE7 p0):=by unfold sE7 f93t;dsimp only;infer_instance
theorem rZ3:SK 93 (sp1 vI vB sE7 f93):=fb Tryz.func93 9
def f94t (p0:Int):Prop×Bool:=
 (True,(bif (decide (p0≥0)) then (decide (p0<18)) else false))
def sE8 p0:=(f94t p0).1
def f94 p0:=(f94t p0).2
instance (p0):Decidable (sE8 p0):=by unfold sE8 f94t;dsimp only;infer_instance
theorem rZ4:SK 94 (sp1 vI vB sE8 f94):=fb Tryz.func94 9
def f74t (p0:D80)(p1:Int)(p2:Int):Prop×Int:=
 let v21:=(bif (bif (bif (decide (p1<1)) then true else (decide (p1>256))) then true else (decide (p2<1))) then true else (decide (p2>256)))
 let v25:=((f90 p0.2.1)==([]:List UInt8))
 let v29:=(!(f91 p0.2.2.2.1))
 let v33:=(!(f92 p0.1))
 let v39:=(bif v33 then true else (!(f92 p0.2.2.1)))
 let v45:=(bif v39 then true else (!(f93 p0.2.2.2.2.2.2.2.1)))
 let v49:=(!(f94 p0.2.2.2.2.2.2.2.2.1))
 let v58:=(bif v49 then true else (bif (f57 p0) then (p0.2.2.2.2.2.2.2.2.1 !=0) else false))
 let v61:=(f43 p0.2.2.2.2.2.2.2.2.2.1)
 let m6_1:=(bif (v61 !=0) then v61 else (bif (bif (p0.2.2.2.2.2.2.2.2.2.1.1 !=0) then (bif (p0.2.2.2.2.2.2.2.2.2.1.1 !=p1) then true else (p0.2.2.2.2.2.2.2.2.2.1.2.1 !=p2)) else false) then (15:Int) else (0:Int)))
 (((!v21)=true→((sE5 p0.2.1)∧((!v25)=true→((sE6 p0.2.2.2.1)∧((!v29)=true→((tS9 p0.1)∧(((!v33)=true→(tS9 p0.2.2.1))∧(((!v39)=true→(sE7 p0.2.2.2.2.2.2.2.1))∧((!v45)=true→((sE8 p0.2.2.2.2.2.2.2.2.1)∧(((!v49)=true→(tF4 p0))∧((!v58)=true→(tS7 p0.2.2.2.2.2.2.2.2.2.1))))))))))))),(bif v21 then (15:Int) else (bif v25 then (8:Int) else (bif v29 then (13:Int) else (bif v45 then (2:Int) else (bif v58 then (8:Int) else m6_1))))))
def sE9 p0 p1 p2:=(f74t p0 p1 p2).1
def f74 p0 p1 p2:=(f74t p0 p1 p2).2
instance (p0 p1 p2):Decidable (sE9 p0 p1 p2):=by unfold sE9 f74t;dsimp only;infer_instance
theorem rZ5:SK 74 (sp3 (.val T80) vI vI vI sE9 f74):=fb Tryz.func74 83 [kb rB6,kb sP7,kb rZ0,kb rZ1,kb rZ2,kb rZ3,kb rZ4]
def f75t (p0:Int):Prop×Bool:=
 let v5:=(p0==2)
 let v6:=(p0==5)
 let v7:=(p0==6)
 let v8:=(p0==9)
 (True,(bif (bif v5 then v5 else (bif v6 then v6 else (bif v7 then v7 else (bif v8 then v8 else (p0==10))))) then true else false))
def tT p0:=(f75t p0).1
def f75 p0:=(f75t p0).2
instance (p0):Decidable (tT p0):=by unfold tT f75t;dsimp only;infer_instance
theorem rB7:SK 75 (sp1 vI vB tT f75):=fb Tryz.func75 10
def rI1 (p0:Int)(p1:Int)(p2:Int):Prop×Int:=
 (True,(wJ6 p2 (wJ5 p0 p1)))
def uJ8 p0 p1 p2:=(rI1 p0 p1 p2).1
def f125 p0 p1 p2:=(rI1 p0 p1 p2).2
instance (p0 p1 p2):Decidable (uJ8 p0 p1 p2):=by unfold uJ8 rI1;dsimp only;infer_instance
theorem tY4:SK 125 (sp3 vI vI vI vI uJ8 f125):=fb Tryz.func125 12 [] [] [] true
def rI2 (p0:Int):Prop×Int:=
 ((uJ8 p0 (-16777216:Int) (16777216:Int)),(f125 p0 (-16777216:Int) (16777216:Int)))
def vX1 p0:=(rI2 p0).1
def f107 p0:=(rI2 p0).2
instance (p0):Decidable (vX1 p0):=by unfold vX1 rI2;dsimp only;infer_instance
theorem rI3:SK 107 (sp1 vI vI vX1 f107):=fb Tryz.func107 5 [kb tY4]
def rI4 (p0:Int):Prop×Int:=
 ((uJ8 p0 (-1099511627776:Int) (1099511627776:Int)),(f125 p0 (-1099511627776:Int) (1099511627776:Int)))
def vF7 p0:=(rI4 p0).1
def f108 p0:=(rI4 p0).2
instance (p0):Decidable (vF7 p0):=by unfold vF7 rI4;dsimp only;infer_instance
theorem sQ:SK 108 (sp1 vI vI vF7 f108):=fb Tryz.func108 5 [kb tY4] [] [] true
def f95t (p0:D68):Prop×D68:=
 (((vX1 p0.1)∧((vX1 p0.2.1)∧((vX1 p0.2.2.1)∧((vX1 p0.2.2.2.1)∧((vF7 p0.2.2.2.2.1)∧(vF7 p0.2.2.2.2.2.1)))))),((f107 p0.1),(f107 p0.2.1),(f107 p0.2.2.1),(f107 p0.2.2.2.1),(f108 p0.2.2.2.2.1),(f108 p0.2.2.2.2.2.1),()))
def tT0 p0:=(f95t p0).1
def f95 p0:=(f95t p0).2
instance (p0):Decidable (tT0 p0):=by unfold tT0 f95t;dsimp only;infer_instance
theorem rB8:SK 95 (sp1 (.val T68) (.val T68) tT0 f95):=fb Tryz.func95 22 [kb rI3,kb sQ] [] [] true
def f76t (p0:D68):Prop×Int:=
 ((tT0 p0),(bif (!(Ty.eqb T68 p0 (f95 p0))) then (2:Int) else (0:Int)))
def uB6 p0:=(f76t p0).1
def f76 p0:=(f76t p0).2
instance (p0):Decidable (uB6 p0):=by unfold uB6 f76t;dsimp only;infer_instance
theorem sF:SK 76 (sp1 (.val T68) vI uB6 f76):=fb Tryz.func76 7 [kb rB8]
def f97t (p0:Int)(p1:Int)(p2:Int)(p3:Int):Prop×Int:=
 let v12:=(f109 p1 (65536:Int))
 let v14:=(f109 p3 (65536:Int))
 let v34:=(IntKind.wrap .i64 ((IntKind.wrap .i64 (p0*(IntKind.wrap .i64 (p1-(IntKind.wrap .i64 (v12*65536))))))+(IntKind.wrap .i64 (p2*(IntKind.wrap .i64 (p3-(IntKind.wrap .i64 (v14*65536))))))))
 (((uJ3 p1 (65536:Int))∧((uJ3 p3 (65536:Int))∧(wM4 v34 (65536:Int)))),(IntKind.wrap .i64 ((IntKind.wrap .i64 ((IntKind.wrap .i64 (p0*v12))+(IntKind.wrap .i64 (p2*v14))))+(f96 v34 (65536:Int)))))
def uU9 p0 p1 p2 p3:=(f97t p0 p1 p2 p3).1
def f97 p0 p1 p2 p3:=(f97t p0 p1 p2 p3).2
instance (p0 p1 p2 p3):Decidable (uU9 p0 p1 p2 p3):=by unfold uU9 f97t;dsimp only;infer_instance
theorem rB9:SK 97 (sp4 vI vI vI vI vI uU9 f97):=fb Tryz.func97 37 [kb vL0,kb sO6] [] [] true
def f77t (p0:D68):Prop×(D68×Int×Unit):=
 let v8:=(f76 p0)
 let v10:=(v8 !=0)
 let v23:=(IntKind.wrap .i64 ((IntKind.wrap .i64 (p0.1*p0.2.2.2.1))-(IntKind.wrap .i64 (p0.2.1*p0.2.2.1))))
 let v25:=(v23==0)
 let v29:=(IntKind.wrap .i64 (p0.2.2.2.1*4294967296))
 let v31:=(f96 v29 v23)
 let v35:=(IntKind.wrap .i64 ((IntKind.wrap .i64 (Int.sub 0 p0.2.1))*4294967296))
 let v37:=(f96 v35 v23)
 let v41:=(IntKind.wrap .i64 ((IntKind.wrap .i64 (Int.sub 0 p0.2.2.1))*4294967296))
 let v43:=(f96 v41 v23)
 let v46:=(IntKind.wrap .i64 (p0.1*4294967296))
 let v48:=(f96 v46 v23)
 let s_2:=(v31,v37,v43,v48,(0:Int),(0:Int),())
 let v52:=((f76 s_2)!=0)
 let v56:=(IntKind.wrap .i64 (Int.sub 0 v31))
 let v61:=(IntKind.wrap .i64 (Int.sub 0 v43))
 let v68:=(IntKind.wrap .i64 (Int.sub 0 v37))
 let v73:=(IntKind.wrap .i64 (Int.sub 0 v48))
 let s_5:=(v31,v37,v43,v48,(f97 v56 p0.2.2.2.2.1 v61 p0.2.2.2.2.2.1),(f97 v68 p0.2.2.2.2.1 v73 p0.2.2.2.2.2.1),())
 let v80:=((f76 s_5)!=0)
 let m2_2:=(bif v25 then ((0:Int),(0:Int),(0:Int),(0:Int),(0:Int),(0:Int),()) else (bif v52 then ((0:Int),(0:Int),(0:Int),(0:Int),(0:Int),(0:Int),()) else (bif v80 then ((0:Int),(0:Int),(0:Int),(0:Int),(0:Int),(0:Int),()) else s_5)))
 (((uB6 p0)∧((!v10)=true→((!v25)=true→((wM4 v29 v23)∧((wM4 v35 v23)∧((wM4 v41 v23)∧((wM4 v46 v23)∧((uB6 s_2)∧((!v52)=true→((uU9 v56 p0.2.2.2.2.1 v61 p0.2.2.2.2.2.1)∧((uU9 v68 p0.2.2.2.2.1 v73 p0.2.2.2.2.2.1)∧(uB6 s_5)))))))))))),((bif v10 then ((0:Int),(0:Int),(0:Int),(0:Int),(0:Int),(0:Int),()) else m2_2),(bif v10 then v8 else (bif v25 then (17:Int) else (bif v52 then (17:Int) else (bif v80 then (17:Int) else (0:Int))))),()))
def sF0 p0:=(f77t p0).1
def f77 p0:=(f77t p0).2
instance (p0):Decidable (sF0 p0):=by unfold sF0 f77t;dsimp only;infer_instance
theorem rZ6:SK 77 (sp1 (.val T68) (.tup (.cons (.val T68) (.cons vI .nl))) sF0 f77):=fb Tryz.func77 83 [kb sF,kb vL0,kb rB9] [] [] true
def f78t (p0:Int):Prop×Bool:=
 let v5:=(p0==2)
 let v6:=(p0==9)
 let v7:=(p0==10)
 (True,(bif (bif v5 then v5 else (bif v6 then v6 else (bif v7 then v7 else (p0==11)))) then true else false))
def tT1 p0:=(f78t p0).1
def f78 p0:=(f78t p0).2
instance (p0):Decidable (tT1 p0):=by unfold tT1 f78t;dsimp only;infer_instance
theorem rC:SK 78 (sp1 vI vB tT1 f78):=fb Tryz.func78 9
def f79t (p0:Int):Prop×Bool:=
 (True,(bif (decide (p0≥0)) then (decide (p0≤4)) else false))
def sF1 p0:=(f79t p0).1
def f79 p0:=(f79t p0).2
instance (p0):Decidable (sF1 p0):=by unfold sF1 f79t;dsimp only;infer_instance
theorem rZ7:SK 79 (sp1 vI vB sF1 f79):=fb Tryz.func79 9
def f83t (p0:Int)(p1:Int):Prop×Bool:=
 (True,(bif (bif (bif (bif (decide (p0≥0)) then (decide (p0≤256)) else false) then (decide (p1≥0)) else false) then (decide (p1≤256)) else false) then (Ty.eqb .bool (p0==0) (p1==0)) else false))
def sF2 p0 p1:=(f83t p0 p1).1
def f83 p0 p1:=(f83t p0 p1).2
instance (p0 p1):Decidable (sF2 p0 p1):=by unfold sF2 f83t;dsimp only;infer_instance
theorem rZ8:SK 83 (sp2 vI vI vB sF2 f83):=fb Tryz.func83 26
def rI5 (p0:Int):Prop×Int:=
 ((uJ8 p0 (0:Int) (65535:Int)),(f125 p0 (0:Int) (65535:Int)))
def vX2 p0:=(rI5 p0).1
def f124 p0:=(rI5 p0).2
instance (p0):Decidable (vX2 p0):=by unfold vX2 rI5;dsimp only;infer_instance
theorem rI6:SK 124 (sp1 vI vI vX2 f124):=fb Tryz.func124 5 [kb tY4]
def rI7 (p0:D73):Prop×D73:=
 (((vX2 p0.1)∧((vX2 p0.2.1)∧((vX2 p0.2.2.1)∧(vX2 p0.2.2.2.1)))),((f124 p0.1),(f124 p0.2.1),(f124 p0.2.2.1),(f124 p0.2.2.2.1),()))
def tL1 p0:=(rI7 p0).1
def f105 p0:=(rI7 p0).2
instance (p0):Decidable (tL1 p0):=by unfold tL1 rI7;dsimp only;infer_instance
theorem rI8:SK 105 (sp1 (.val T73) (.val T73) tL1 f105):=fb Tryz.func105 16 [kb rI6]
def f84t (p0:D73):Prop×Bool:=
 ((tL1 p0),(Ty.eqb T73 p0 (f105 p0)))
def uV p0:=(f84t p0).1
def f84 p0:=(f84t p0).2
instance (p0):Decidable (uV p0):=by unfold uV f84t;dsimp only;infer_instance
theorem sF3:SK 84 (sp1 (.val T73) vB uV f84):=fb Tryz.func84 7 [kb rI8]
abbrev vF8:Type:=((List D73)×Int×Unit)
abbrev wV:Type:=(Int×Unit)
def uJ9 (y:vF8)(x:wV):Prop×Bool×wV×Bool×Bool:=
 let a23:=y.1
 let a25:=x.1
 let v26:=(decide (a25<y.2.1))
 let v27:=(nth a23 a25 Z73)
 let v31:=(!(f84 v27))
 ((v26=true→(InB a25 (len a23)∧((uV v27)∧((!v31)=true→InR (a25+1))))),(v26&&(!v31)),((a25+1),()),(v26&&v31),(!v26))
def uB7 y x:=(uJ9 y x).1
def tL2 y x:=(uJ9 y x).2.1
def vX3 y x:=(uJ9 y x).2.2.1
def tT2 y x:=(uJ9 y x).2.2.2.1
def sQ0 y x:=(uJ9 y x).2.2.2.2
instance (y x):Decidable (uB7 y x):=by unfold uB7 uJ9;dsimp only;infer_instance
def uV0 (y:vF8)(x:wV):Int:=
 (2:Int)
def sQ1:=li [(23,(.val (.sl T73))),(24,vI)] [(25,vI)] tL2 vX3 uB7 (fun y x=>[ex 1 (some (tT2 y x)) [(2,vI)] ((uV0 y x),()),ex 2 (some (sQ0 y x)) [] ()]) [[(2,vI)],[]]
def f59t (p0:D71):Prop×Int:=
 let v10:=(!(f83 p0.1 p0.2.1))
 let v21:=(bif v10 then true else ((len p0.2.2.1)!=(p0.1*p0.2.1)))
 let y4:=(p0.2.2.1,(len p0.2.2.1),())
 let x4:=((0:Int),())
 let e4:=(zD9 (tL2 y4) (vX3 y4) x4)
 (((sF2 p0.1 p0.2.1)∧(((!v10)=true→InR (p0.1*p0.2.1))∧((!v21)=true→(wB6 (tL2 y4) (vX3 y4) (uB7 y4) x4)))),(bif v21 then (15:Int) else (bif (tT2 y4 e4) then (uV0 y4 e4) else (0:Int))))
def tT3 p0:=(f59t p0).1
def f59 p0:=(f59t p0).2
instance (p0):Decidable (tT3 p0):=by unfold tT3 f59t;dsimp only;infer_instance
theorem rC0:SK 59 (sp1 (.val T71) vI tT3 f59):=fb Tryz.func59 33 [kb rZ8,kb sF3] [(4,sQ1)]
def f98t (p0:D73):Prop×Int:=
 ((uV p0),(bif (!(f84 p0)) then (2:Int) else (0:Int)))
def uV1 p0:=(f98t p0).1
def f98 p0:=(f98t p0).2
instance (p0):Decidable (uV1 p0):=by unfold uV1 f98t;dsimp only;infer_instance
def sZ:=sp1 (.val T73) vI uV1 f98
theorem sQ2:SK 98 (sp1 (.val T73) vI uV1 f98):=fb Tryz.func98 6 [kb sF3]
def rI9 (p0:Int)(p1:Int):Prop×Bool:=
 (True,(bif (p0==1) then (p1==4) else (p1==3)))
def tL3 p0 p1:=(rI9 p0 p1).1
def f126 p0 p1:=(rI9 p0 p1).2
instance (p0 p1):Decidable (tL3 p0 p1):=by unfold tL3 rI9;dsimp only;infer_instance
theorem rJ:SK 126 (sp2 vI vI vB tL3 f126):=fb Tryz.func126 11
abbrev wX9:Type:=(Int×(List Int)×(List Int)×Int×Unit)
abbrev wQ7:Type:=(Int×Unit)
def vQ2 (y:wX9)(x:wQ7):Prop×Bool×wQ7×Bool×Bool:=
 let a36:=y.2.2.1
 let a38:=x.1
 let v39:=(decide (a38<y.2.2.2.1))
 let v40:=(nth a36 a38 (0:Int))
 let v47:=(bif (decide (v40<(-1048576))) then true else (decide (v40>1048576)))
 ((v39=true→(InB a38 (len a36)∧((!v47)=true→InR (a38+1)))),(v39&&(!v47)),((a38+1),()),(v39&&v47),(!v39))
def vQ3 y x:=(vQ2 y x).1
def uV2 y x:=(vQ2 y x).2.1
def vL6 y x:=(vQ2 y x).2.2.1
def tF5 y x:=(vQ2 y x).2.2.2.1
def tF6 y x:=(vQ2 y x).2.2.2.2
instance (y x):Decidable (vQ3 y x):=by unfold vQ3 vQ2;dsimp only;infer_instance
def uM8 (y:wX9)(x:wQ7):Int:=
 (2:Int)
def tF7:List (Nat×Sh):=[(0,vI),(1,(.val (.sl (.int .i64))))]
def sK0:=li [(0,vI),(1,(.val (.sl (.int .i64)))),(36,(.val (.sl (.int .i64)))),(37,vI)] [(38,vI)] uV2 vL6 vQ3 (fun y x=>[ex 1 (some (tF5 y x)) [(8,vI)] ((uM8 y x),()),ex 2 (some (tF6 y x)) tF7 (y.1,y.2.1,())]) [[(8,vI)],tF7]
def rJ0 (p0:Int)(p1:List Int)(p2:Int)(p3:Int):Prop×Int:=
 let v24:=(bif (bif (bif (decide (p0<1)) then true else (decide (p0>4))) then true else (decide (p2<0))) then true else (decide (p2>2)))
 let v27:=(len p1)
 let v33:=(bif (!(f126 p0 v27)) then true else (p3==0))
 let v35:=(decide (p3>16))
 let y8:=(p0,p1,p1,(len p1),())
 let x8:=((0:Int),())
 let e8:=(zD9 (uV2 y8) (vL6 y8) x8)
 let v54:=(bif (p0==2) then true else (p0==4))
 let m8_3:=(bif v33 then (1:Int) else (bif v35 then (3:Int) else (bif (tF5 y8 e8) then (uM8 y8 e8) else (bif (bif v54 then (decide ((nth p1 (2:Int) (0:Int))<0)) else false) then (2:Int) else (0:Int)))))
 (((!v24)=true→((tL3 p0 v27)∧((!v33)=true→((!v35)=true→((wB6 (uV2 y8) (vL6 y8) (vQ3 y8) x8)∧((tF6 y8 e8)=true→(v54=true→InB (2:Int) (len p1)))))))),(bif v24 then (8:Int) else m8_3))
def tL4 p0 p1 p2 p3:=(rJ0 p0 p1 p2 p3).1
def f110 p0 p1 p2 p3:=(rJ0 p0 p1 p2 p3).2
instance (p0 p1 p2 p3):Decidable (tL4 p0 p1 p2 p3):=by unfold tL4 rJ0;dsimp only;infer_instance
theorem rJ1:SK 110 (sp4 vI (.val (.sl (.int .i64))) vI vI vI tL4 f110):=fb Tryz.func110 61 [kb rJ] [(8,sK0)]
abbrev wY:Type:=((List D120)×(List D120)×Int×Unit)
abbrev wQ8:Type:=(Int×Unit)
def vQ4 (y:wY)(x:wQ8):Prop×Bool×wQ8×Bool×Bool:=
 let a0:=y.1
 let a5:=y.2.1
 let a7:=x.1
 let v8:=(decide (a7<y.2.2.1))
 let v10:=(nth a5 a7 Z120)
 let v19:=(bif (decide (v10.1<0)) then true else (decide (v10.1>65535)))
 let v25:=(bif v19 then true else (!(f84 v10.2.1)))
 let v27:=(decide (a7>0))
 let v33:=(a7-1)
 let v38:=(bif v27 then (decide (v10.1≤(nth a0 v33 Z120).1)) else false)
 let c_2:=((!v25)&&(!v38))
 ((v8=true→(InB a7 (len a5)∧(((!v19)=true→(uV v10.2.1))∧(((!v25)=true→((v27=true→InR (a7-1))∧(v27=true→InB v33 (len a0))))∧(c_2=true→InR (a7+1)))))),(v8&&c_2),((a7+1),()),(v8&&(v25||((!v25)&&v38))),(!v8))
def vQ5 y x:=(vQ4 y x).1
def uV3 y x:=(vQ4 y x).2.1
def vL7 y x:=(vQ4 y x).2.2.1
def tF8 y x:=(vQ4 y x).2.2.2.1
def sK1 y x:=(vQ4 y x).2.2.2.2
instance (y x):Decidable (vQ5 y x):=by unfold vQ5 vQ4;dsimp only;infer_instance
def uM9 (y:wY)(x:wQ8):Int:=
 let v10:=(nth y.2.1 x.1 Z120)
 (bif (bif (bif (decide (v10.1<0)) then true else (decide (v10.1>65535))) then true else (!(f84 v10.2.1))) then (2:Int) else (24:Int))
def sK2:=li [(0,(.val (.sl T120))),(5,(.val (.sl T120))),(6,vI)] [(7,vI)] uV3 vL7 vQ5 (fun y x=>[ex 1 (some (tF8 y x)) [(2,vI)] ((uM9 y x),()),ex 2 (some (sK1 y x)) [] ()]) [[(2,vI)],[]]
def rJ2 (p0:List D120):Prop×Int:=
 let y2:=(p0,p0,(len p0),())
 let x2:=((0:Int),())
 let e2:=(zD9 (uV3 y2) (vL7 y2) x2)
 ((wB6 (uV3 y2) (vL7 y2) (vQ5 y2) x2),(bif (tF8 y2 e2) then (uM9 y2 e2) else (0:Int)))
def tL5 p0:=(rJ2 p0).1
def f111 p0:=(rJ2 p0).2
instance (p0):Decidable (tL5 p0):=by unfold tL5 rJ2;dsimp only;infer_instance
theorem rJ3:SK 111 (sp1 (.val (.sl T120)) vI tL5 f111):=fb Tryz.func111 40 [kb sF3] [(2,sK2)]
def f99t (p0:Int)(p1:List Int)(p2:Int)(p3:List D120):Prop×Int:=
 let v14:=(len p3)
 let v15:=(f110 p0 p1 p2 v14)
 let v17:=(v15 !=0)
 (((tL4 p0 p1 p2 v14)∧((!v17)=true→(tL5 p3))),(bif v17 then v15 else (f111 p3)))
def sF4 p0 p1 p2 p3:=(f99t p0 p1 p2 p3).1
def f99 p0 p1 p2 p3:=(f99t p0 p1 p2 p3).2
instance (p0 p1 p2 p3):Decidable (sF4 p0 p1 p2 p3):=by unfold sF4 f99t;dsimp only;infer_instance
theorem rZ9:SK 99 (sp4 vI (.val (.sl (.int .i64))) vI (.val (.sl T120)) vI sF4 f99):=fb Tryz.func99 21 [kb rJ1,kb rJ3]
def rJ4 (p0:Int):Prop×Int:=
 let v5:=(p0==3)
 let v7:=(p0==4)
 (True,(bif (bif v5 then true else (bif v7 then true else (p0==5))) then (bif v5 then (2:Int) else (bif v7 then (3:Int) else (0:Int))) else (1:Int)))
def uV4 p0:=(rJ4 p0).1
def f128 p0:=(rJ4 p0).2
instance (p0):Decidable (uV4 p0):=by unfold uV4 rJ4;dsimp only;infer_instance
theorem sQ3:SK 128 (sp1 vI vI uV4 f128):=fb Tryz.func128 10
def rJ5 (p0:D123):Prop×Bool:=
 (True,(bif (bif (bif (decide (p0.1<(-16777216))) then true else (decide (p0.1>16777216))) then true else (decide (p0.2.1<(-16777216)))) then true else (decide (p0.2.1>16777216))))
def vX4 p0:=(rJ5 p0).1
def f130 p0:=(rJ5 p0).2
instance (p0):Decidable (vX4 p0):=by unfold vX4 rJ5;dsimp only;infer_instance
theorem tY5:SK 130 (sp1 (.val T123) vB vX4 f130):=fb Tryz.func130 21
abbrev wY0:Type:=((List D126)×Int×D126×(List D126)×Int×Int×(List D123)×Unit)
abbrev wQ9:Type:=(Int×Unit)
def vQ6 (y:wY0)(x:wQ9):Prop×Bool×wQ9×Bool×Bool:=
 let a4:=y.2.2.1
 let a27:=x.1
 let v28:=(decide (a27<3))
 let v30:=(nth y.2.2.2.2.2.2.1 a27 Z123)
 let v32:=(f130 v30)
 let v44:=(bif v32 then true else (bif (decide (a27≥(f128 a4.1))) then (!(Ty.eqb T123 v30 ((0:Int),(0:Int),()))) else false))
 ((v28=true→(InB a27 3∧((vX4 v30)∧(((!v32)=true→(uV4 a4.1))∧((!v44)=true→InR (a27+1)))))),(v28&&(!v44)),((a27+1),()),(v28&&v44),(!v28))
def vQ7 y x:=(vQ6 y x).1
def uB8 y x:=(vQ6 y x).2.1
def vA9 y x:=(vQ6 y x).2.2.1
def uK y x:=(vQ6 y x).2.2.2.1
def tF9 y x:=(vQ6 y x).2.2.2.2
instance (y x):Decidable (vQ7 y x):=by unfold vQ7 vQ6;dsimp only;infer_instance
def uN (y:wY0)(x:wQ9):Int:=
 (2:Int)
def tG:List (Nat×Sh):=[(0,(.val (.sl T126))),(3,vI),(4,(.box T126 (.val T126))),(10,(.val (.sl T126))),(11,vI),(12,vI)]
def sK3:=li [(0,(.val (.sl T126))),(3,vI),(4,(.box T126 (.val T126))),(10,(.val (.sl T126))),(11,vI),(12,vI),(26,(.val (.arr 3 T123)))] [(27,vI)] uB8 vA9 vQ7 (fun y x=>[ex 1 (some (uK y x)) [(2,vI)] ((uN y x),()),ex 4 (some (tF9 y x)) tG (y.1,y.2.1,y.2.2.1,y.2.2.2.1,y.2.2.2.2.1,y.2.2.2.2.2.1,())]) [[(2,vI)],tG]
abbrev wY1:Type:=((List D126)×(List D126)×Int×Unit)
abbrev wR:Type:=(Int×Unit)
def vQ8 (y:wY1)(x:wR):Prop×Bool×wR×Bool×Bool:=
 let a0:=y.1
 let a10:=y.2.1
 let a11:=y.2.2.1
 let a12:=x.1
 let v13:=(decide (a12<a11))
 let v15:=(nth a10 a12 Z126)
 let v24:=(bif (decide (v15.1<1)) then true else (decide (v15.1>5)))
 let y9:=(a0,a12,v15,a10,a11,a12,v15.2.1,())
 let x9:=((0:Int),())
 let e9:=(zD9 (uB8 y9) (vA9 y9) x9)
 let q9_4:=(tF9 y9 e9)
 let v48:=(v15.1 !=1)
 let v51:=(a12==0)
 let v55:=(a12-1)
 let v61:=(bif v48 then (bif v51 then true else ((nth a0 v55 Z126).1==5)) else false)
 let c_5:=((!v24)&&(q9_4&&(!v61)))
 ((v13=true→(InB a12 (len a10)∧(((!v24)=true→((wB6 (uB8 y9) (vA9 y9) (vQ7 y9) x9)∧(q9_4=true→(((v48&&(!v51))=true→InR (a12-1))∧((v48&&(!v51))=true→InB v55 (len a0))))))∧(c_5=true→InR (a12+1))))),(v13&&c_5),((a12+1),()),(v13&&(v24||((!v24)&&((uK y9 e9)||(q9_4&&v61))))),(!v13))
def vQ9 y x:=(vQ8 y x).1
def uV5 y x:=(vQ8 y x).2.1
def vL8 y x:=(vQ8 y x).2.2.1
def tG0 y x:=(vQ8 y x).2.2.2.1
def sK4 y x:=(vQ8 y x).2.2.2.2
instance (y x):Decidable (vQ9 y x):=by unfold vQ9 vQ8;dsimp only;infer_instance
def uN0 (y:wY1)(x:wR):Int:=
 let a10:=y.2.1
 let a12:=x.1
 let v15:=(nth a10 a12 Z126)
 let y9:=(y.1,a12,v15,a10,y.2.2.1,a12,v15.2.1,())
 let e9:=(zD9 (uB8 y9) (vA9 y9) ((0:Int),()))
 (bif (bif (decide (v15.1<1)) then true else (decide (v15.1>5))) then (8:Int) else (bif (uK y9 e9) then (uN y9 e9) else (24:Int)))
def sK5:=li [(0,(.val (.sl T126))),(10,(.val (.sl T126))),(11,vI)] [(12,vI)] uV5 vL8 vQ9 (fun y x=>[ex 1 (some (tG0 y x)) [(2,vI)] ((uN0 y x),()),ex 2 (some (sK4 y x)) [] ()]) [[(2,vI)],[]]
def rJ6 (p0:List D126):Prop×Int:=
 let v9:=(decide ((len p0)>128))
 let y4:=(p0,p0,(len p0),())
 let x4:=((0:Int),())
 let e4:=(zD9 (uV5 y4) (vL8 y4) x4)
 (((!v9)=true→(wB6 (uV5 y4) (vL8 y4) (vQ9 y4) x4)),(bif v9 then (3:Int) else (bif (tG0 y4 e4) then (uN0 y4 e4) else (0:Int))))
def vX5 p0:=(rJ6 p0).1
def f127 p0:=(rJ6 p0).2
instance (p0):Decidable (vX5 p0):=by unfold vX5 rJ6;dsimp only;infer_instance
theorem tL6:SK 127 (sp1 (.val (.sl T126)) vI vX5 f127):=fb Tryz.func127 63 [kb sQ3,kb tY5] [(4,sK5),(9,sK3)]
def rJ7 (p0:D68)(p1:D123):Prop×D123:=
 let v8:=(f95 p0)
 let v11:=(f108 p1.1)
 let v14:=(f108 p1.2.1)
 let v24:=(IntKind.wrap .i64 ((f97 v8.1 v11 v8.2.2.1 v14)+v8.2.2.2.2.1))
 let v35:=(IntKind.wrap .i64 ((f97 v8.2.1 v11 v8.2.2.2.1 v14)+v8.2.2.2.2.2.1))
 (((tT0 p0)∧((vF7 p1.1)∧((vF7 p1.2.1)∧((uU9 v8.1 v11 v8.2.2.1 v14)∧((vF7 v24)∧((uU9 v8.2.1 v11 v8.2.2.2.1 v14)∧(vF7 v35))))))),((f108 v24),(f108 v35),()))
def tL7 p0 p1:=(rJ7 p0 p1).1
def f142 p0 p1:=(rJ7 p0 p1).2
instance (p0 p1):Decidable (tL7 p0 p1):=by unfold tL7 rJ7;dsimp only;infer_instance
theorem rJ8:SK 142 (sp2 (.val T68) (.val T123) (.val T123) tL7 f142):=fb Tryz.func142 38 [kb rB8,kb rB9,kb sQ] [] [] true
def rJ9 (p0:D68)(p1:D123):Prop×D123:=
 let s:=((IntKind.wrap .i64 (4096*p1.1)),(IntKind.wrap .i64 (4096*p1.2.1)),())
 let v14:=(f142 p0 s)
 (((tL7 p0 s)∧((wM4 v14.1 (4096:Int))∧(wM4 v14.2.1 (4096:Int)))),((f96 v14.1 (4096:Int)),(f96 v14.2.1 (4096:Int)),()))
def uV6 p0 p1:=(rJ9 p0 p1).1
def f129 p0 p1:=(rJ9 p0 p1).2
instance (p0 p1):Decidable (uV6 p0 p1):=by unfold uV6 rJ9;dsimp only;infer_instance
theorem sQ4:SK 129 (sp2 (.val T68) (.val T123) (.val T123) uV6 f129):=fb Tryz.func129 22 [kb vL0,kb rJ8] [] [] true
abbrev wO6:Type:=(D68×Int×D126×(List D126)×Int×Int×Int×Unit)
abbrev wM5:Type:=((List D126)×Int×Unit)
def vD (y:wO6)(x:wM5):Prop×Bool×wM5×Bool×Bool:=
 let a3:=y.1
 let a9:=y.2.1
 let a8:=x.1
 let a42:=x.2.1
 let v43:=(decide (a42<y.2.2.2.2.2.2.1))
 let v49:=(nth y.2.2.1.2.1 a42 Z123)
 let v50:=(f129 a3 v49)
 let v52:=(f130 v50)
 ((v43=true→(InB a42 3∧((uV6 a3 v49)∧((vX4 v50)∧(((!v52)=true→(InB a9 (len a8)∧(InB a42 3∧a9<len a8)))∧((!v52)=true→InR (a42+1))))))),(v43&&(!v52)),((List.set a8 (Int.toNat a9) ((nth a8 a9 Z126).1,(List.set (nth a8 a9 Z126).2.1 (Int.toNat a42) v50),())),(a42+1),()),(v43&&v52),(!v43))
def vF9 y x:=(vD y x).1
def vD0 y x:=(vD y x).2.1
def wR0 y x:=(vD y x).2.2.1
def uV7 y x:=(vD y x).2.2.2.1
def uV8 y x:=(vD y x).2.2.2.2
instance (y x):Decidable (vF9 y x):=by unfold vF9 vD;dsimp only;infer_instance
def uB9 (y:wO6)(x:wM5):(List D126):=
 ([]:List D126)
def uC (y:wO6)(x:wM5):Int:=
 (2:Int)
def uV9:List (Nat×Sh):=[(4,(.own T126 0 false)),(5,vI)]
def uC0 (y:wO6)(x:wM5):(List D126):=
 x.1
def uW:List (Nat×Sh):=[(3,(.box T68 (.val T68))),(8,(.own T126 1008 true)),(26,(.val (.sl T126))),(27,vI),(28,vI)]
def tY6:=li [(3,(.box T68 (.val T68))),(9,vI),(10,(.box T126 (.val T126))),(26,(.val (.sl T126))),(27,vI),(28,vI),(41,vI)] [(8,(.own T126 1008 true)),(42,vI)] vD0 wR0 vF9 (fun y x=>[ex 1 (some (uV7 y x)) uV9 ((uB9 y x),(uC y x),()),ex 4 (some (uV8 y x)) uW (y.1,(uC0 y x),y.2.2.2.1,y.2.2.2.2.1,y.2.2.2.2.2.1,())]) [uV9,uW]
abbrev wR1:Type:=(D68×(List D126)×Int×Unit)
abbrev wO0:Type:=((List D126)×Int×Unit)
def vR (y:wR1)(x:wO0):Prop×Bool×wO0×Bool×Bool:=
 let a26:=y.2.1
 let a27:=y.2.2.1
 let a8:=x.1
 let a28:=x.2.1
 let v29:=(decide (a28<a27))
 let v31:=(nth a26 a28 Z126)
 let y13:=(y.1,a28,v31,a26,a27,a28,(f128 v31.1),())
 let x13:=((List.set a8 (Int.toNat a28) (v31.1,(nth a8 a28 Z126).2.1,())),(0:Int),())
 let e13:=(zD9 (vD0 y13) (wR0 y13) x13)
 let q13_4:=(uV8 y13 e13)
 ((v29=true→(InB a28 (len a26)∧(InB a28 (len a8)∧(a28<len a8∧((uV4 v31.1)∧((wB6 (vD0 y13) (wR0 y13) (vF9 y13) x13)∧(q13_4=true→InR (a28+1)))))))),(v29&&q13_4),((uC0 y13 e13),(a28+1),()),(v29&&(uV7 y13 e13)),(!v29))
def vR0 y x:=(vR y x).1
def uW0 y x:=(vR y x).2.1
def vL9 y x:=(vR y x).2.2.1
def tG1 y x:=(vR y x).2.2.2.1
def sK6 y x:=(vR y x).2.2.2.2
instance (y x):Decidable (vR0 y x):=by unfold vR0 vR;dsimp only;infer_instance
def uN1 (y:wR1)(x:wO0):(List D126):=
 let a26:=y.2.1
 let a8:=x.1
 let a28:=x.2.1
 let v31:=(nth a26 a28 Z126)
 let y13:=(y.1,a28,v31,a26,y.2.2.1,a28,(f128 v31.1),())
 (uB9 y13 (zD9 (vD0 y13) (wR0 y13) ((List.set a8 (Int.toNat a28) (v31.1,(nth a8 a28 Z126).2.1,())),(0:Int),())))
def uN2 (y:wR1)(x:wO0):Int:=
 let a26:=y.2.1
 let a8:=x.1
 let a28:=x.2.1
 let v31:=(nth a26 a28 Z126)
 let y13:=(y.1,a28,v31,a26,y.2.2.1,a28,(f128 v31.1),())
 (uC y13 (zD9 (vD0 y13) (wR0 y13) ((List.set a8 (Int.toNat a28) (v31.1,(nth a8 a28 Z126).2.1,())),(0:Int),())))
def tG2:List (Nat×Sh):=[(4,(.own T126 0 false)),(5,vI)]
def uN3 (y:wR1)(x:wO0):(List D126):=
 x.1
def sK7:=li [(3,(.box T68 (.val T68))),(26,(.val (.sl T126))),(27,vI)] [(8,(.own T126 1008 true)),(28,vI)] uW0 vL9 vR0 (fun y x=>[ex 1 (some (tG1 y x)) tG2 ((uN1 y x),(uN2 y x),()),ex 2 (some (sK6 y x)) [(8,(.own T126 1008 true))] ((uN3 y x),())]) [tG2,[(8,(.own T126 1008 true))]]
def rK (p0:List D126)(p1:D68):Prop×((List D126)×Int×Unit):=
 let v14:=(f127 p0)
 let v16:=(v14 !=0)
 let v19:=(f76 p1)
 let v21:=(v19 !=0)
 let v24:=(len p0)
 let y9:=(p1,p0,(len p0),())
 let x9:=((List.replicate (Int.toNat v24) Z126),(0:Int),())
 let e9:=(zD9 (uW0 y9) (vL9 y9) x9)
 let q9_1:=(tG1 y9 e9)
 (((vX5 p0)∧((!v16)=true→((uB6 p1)∧((!v21)=true→((0≤v24∧v24≤v24∧v24≤4294967296)∧(wB6 (uW0 y9) (vL9 y9) (vR0 y9) x9)))))),((bif v16 then [] else (bif v21 then [] else (bif q9_1 then (uN1 y9 e9) else (uN3 y9 e9)))),(bif v16 then v14 else (bif v21 then v19 else (bif q9_1 then (uN2 y9 e9) else (0:Int)))),()))
def tL8 p0 p1:=(rK p0 p1).1
def f112 p0 p1:=(rK p0 p1).2
instance (p0 p1):Decidable (tL8 p0 p1):=by unfold tL8 rK;dsimp only;infer_instance
theorem rK0:SK 112 (sp2 (.val (.sl T126)) (.val T68) (.tup (.cons (.val (.sl T126)) (.cons vI .nl))) tL8 f112):=fb Tryz.func112 63 [kb sF,kb tL6,kb sQ3,kb sQ4,kb tY5] [(9,sK7),(13,tY6)] [(15,[(4,0,25,1008)]),(43,[(1,4,0,0),(4,0,1008,0)])] false [] [25]
def uR7 (p0:D123)(p1:List D123):Prop×(Unit)×((List D123)×Unit):=
 let v7:=(IntKind.wrap .i64 ((len p1)-1))
 let v10:=(!(Ty.eqb T123 p0 (nth p1 v7 Z123)))
 let v13:=([p0]:List D123)
 ((InB v7 (len p1)∧(v10=true→((List.length p1+List.length v13:Nat):Int)≤4294967296)),(),((bif v10 then (p1++v13) else p1),()))
def wX p0 p1:=(uR7 p0 p1).1
def rK1 p0 p1:=(uR7 p0 p1).2.1
def uC1 p0 p1:=(uR7 p0 p1).2.2
instance (p0 p1):Decidable (wX p0 p1):=by unfold wX uR7;dsimp only;infer_instance
theorem sK8:SK 143 (fnSpec [(0,(.val T123)),(1,(.box (.sl T123) (.own T123 400100 false)))] (.tup .nl) [(1,(.box (.sl T123) (.own T123 400100 false)))] (fun x=>wX x.1 x.2.1) (fun x=>rK1 x.1 x.2.1) (fun x=>uC1 x.1 x.2.1)):=fb Tryz.func143 15 [] [] [(5,[(4,0,14,400100)])] true [1]
abbrev wU0:Type:=(D126×D123×(Unit×Unit)×Unit)
abbrev wO1:Type:=((List D123)×Int×Unit)
def vG (y:wU0)(x:wO1):Prop×Bool×wO1:=
 let a3:=y.1
 let a5:=y.2.1
 let a2:=x.1
 let a7:=x.2.1
 let v37:=(decide (a7≤8))
 let v41:=(IntKind.wrap .i64 (8-a7))
 let v44:=(IntKind.wrap .i64 (v41*v41))
 let v48:=(IntKind.wrap .i64 ((IntKind.wrap .i64 (2*a7))*v41))
 let v51:=(IntKind.wrap .i64 (a7*a7))
 let v70:=(IntKind.wrap .i64 ((IntKind.wrap .i64 ((IntKind.wrap .i64 (v44*a5.1))+(IntKind.wrap .i64 (v48*((nth a3.2.1 (0:Int) Z123).1)))))+(IntKind.wrap .i64 (v51*((nth a3.2.1 (1:Int) Z123).1)))))
 let v89:=(IntKind.wrap .i64 ((IntKind.wrap .i64 ((IntKind.wrap .i64 (v44*a5.2.1))+(IntKind.wrap .i64 (v48*((nth a3.2.1 (0:Int) Z123).2.1)))))+(IntKind.wrap .i64 (v51*((nth a3.2.1 (1:Int) Z123).2.1)))))
 let s:=((f96 v70 (64:Int)),(f96 v89 (64:Int)),())
 ((v37=true→(InB (0:Int) 3∧(InB (1:Int) 3∧((wM4 v70 (64:Int))∧(InB (0:Int) 3∧(InB (1:Int) 3∧((wM4 v89 (64:Int))∧(wX s a2)))))))),v37,((uC1 s a2).1,(IntKind.wrap .i64 (a7+1)),()))
def wV0 y x:=(vG y x).1
def vM y x:=(vG y x).2.1
def wY2 y x:=(vG y x).2.2
instance (y x):Decidable (wV0 y x):=by unfold wV0 vG;dsimp only;infer_instance
def vM0 (y:wU0)(x:wO1):(List D123):=
 x.1
def uC2:List (Nat×Sh):=[(2,(.box (.sl T123) (.own T123 400200 false)))]
def tL9:=li [(3,(.box T126 (.val T126))),(5,(.box T123 (.val T123))),(6,(.fn 143 (.cons (.ref 2 (.sl T123)) .nl)))] [(2,(.box (.sl T123) (.own T123 400200 false))),(7,vI)] vM wY2 wV0 (fun y x=>[ex 3 none uC2 ((vM0 y x),())]) [uC2]
abbrev wR2:Type:=(D126×D123×(Unit×Unit)×Unit)
abbrev wN0:Type:=((List D123)×Int×Unit)
def vB0 (y:wR2)(x:wN0):Prop×Bool×wN0:=
 let a3:=y.1
 let a5:=y.2.1
 let a2:=x.1
 let a12:=x.2.1
 let v96:=(decide (a12≤16))
 let v100:=(IntKind.wrap .i64 (16-a12))
 let v105:=(IntKind.wrap .i64 ((IntKind.wrap .i64 (v100*v100))*v100))
 let v111:=(IntKind.wrap .i64 ((IntKind.wrap .i64 ((IntKind.wrap .i64 (3*a12))*v100))*v100))
 let v117:=(IntKind.wrap .i64 ((IntKind.wrap .i64 ((IntKind.wrap .i64 (3*a12))*a12))*v100))
 let v122:=(IntKind.wrap .i64 ((IntKind.wrap .i64 (a12*a12))*a12))
 let v141:=(IntKind.wrap .i64 ((IntKind.wrap .i64 ((IntKind.wrap .i64 (v105*a5.1))+(IntKind.wrap .i64 (v111*((nth a3.2.1 (0:Int) Z123).1)))))+(IntKind.wrap .i64 (v117*((nth a3.2.1 (1:Int) Z123).1)))))
 let v148:=(IntKind.wrap .i64 (v141+(IntKind.wrap .i64 (v122*((nth a3.2.1 (2:Int) Z123).1)))))
 let v167:=(IntKind.wrap .i64 ((IntKind.wrap .i64 ((IntKind.wrap .i64 (v105*a5.2.1))+(IntKind.wrap .i64 (v111*((nth a3.2.1 (0:Int) Z123).2.1)))))+(IntKind.wrap .i64 (v117*((nth a3.2.1 (1:Int) Z123).2.1)))))
 let v174:=(IntKind.wrap .i64 (v167+(IntKind.wrap .i64 (v122*((nth a3.2.1 (2:Int) Z123).2.1)))))
 let s:=((f96 v148 (4096:Int)),(f96 v174 (4096:Int)),())
 ((v96=true→(InB (0:Int) 3∧(InB (1:Int) 3∧(InB (2:Int) 3∧((wM4 v148 (4096:Int))∧(InB (0:Int) 3∧(InB (1:Int) 3∧(InB (2:Int) 3∧((wM4 v174 (4096:Int))∧(wX s a2)))))))))),v96,((uC1 s a2).1,(IntKind.wrap .i64 (a12+1)),()))
def wT7 y x:=(vB0 y x).1
def vG0 y x:=(vB0 y x).2.1
def wU4 y x:=(vB0 y x).2.2
instance (y x):Decidable (wT7 y x):=by unfold wT7 vB0;dsimp only;infer_instance
def vK9 (y:wR2)(x:wN0):(List D123):=
 x.1
def vV2:List (Nat×Sh):=[(2,(.box (.sl T123) (.own T123 400200 false)))]
def tF0:=li [(3,(.box T126 (.val T126))),(5,(.box T123 (.val T123))),(6,(.fn 143 (.cons (.ref 2 (.sl T123)) .nl)))] [(2,(.box (.sl T123) (.own T123 400200 false))),(12,vI)] vG0 wU4 wT7 (fun y x=>[ex 5 none vV2 ((vK9 y x),())]) [vV2]
def tM (p0:List D123)(p1:D126):Prop×(List D123):=
 let v21:=(IntKind.wrap .i64 ((len p0)-1))
 let v22:=(nth p0 v21 Z123)
 let v28:=(p1.1==2)
 let v32:=(nth p1.2.1 (0:Int) Z123)
 let v35:=(p1.1==3)
 let y8:=(p1,v22,((),()),())
 let x8:=(p0,(1:Int),())
 let v94:=(p1.1==4)
 let y15:=(p1,v22,((),()),())
 let x15:=(p0,(1:Int),())
 let m2_2:=(bif v28 then (uC1 v32 p0).1 else (bif v35 then (vM0 y8 (zD9 (vM y8) (wY2 y8) x8)) else (bif v94 then (vK9 y15 (zD9 (vG0 y15) (wU4 y15) x15)) else p0)))
 ((InB v21 (len p0)∧((v28=true→(InB (0:Int) 3∧(wX v32 p0)))∧(v28=false→((v35=true→(wB6 (vM y8) (wY2 y8) (wV0 y8) x8))∧(v35=false→(v94=true→(wB6 (vG0 y15) (wU4 y15) (wT7 y15) x15))))))),m2_2)
def vR1 p0 p1:=(tM p0 p1).1
def sQ5 p0 p1:=(tM p0 p1).2
instance (p0 p1):Decidable (vR1 p0 p1):=by unfold vR1 tM;dsimp only;infer_instance
theorem sK9:SK 131 (sp2 (.own T123 400000 false) (.val T126) (.own T123 0 false) vR1 sQ5):=fx (fun c=>{ c with wants:=[(143,[])] }) Tryz.func131 179 [kb vL0,kb sK8] [(8,tL9),(15,tF0)] [(1,[(4,0,400000,400200)]),(41,[(4,0,400200,0)])] true
abbrev vM1:Type:=((List D126)×(List D126)×Int×Unit)
abbrev wY3:Type:=((List (List D123))×(List D123)×Int×Unit)
def uR8 (y:vM1)(x:wY3):Prop×Bool×wY3:=
 let a0:=y.1
 let a14:=y.2.1
 let a5:=x.1
 let a6:=x.2.1
 let a16:=x.2.2.1
 let v17:=(decide (a16<y.2.2.1))
 let v19:=(nth a14 a16 Z126)
 let v23:=(v19.1==1)
 let m6:=(bif v23 then ([(nth v19.2.1 (0:Int) Z123)]:List D123) else (sQ5 a6 v19))
 let v33:=(len a0)
 let v35:=(a16==(v33-1))
 let v39:=(a16+1)
 let v44:=(bif v35 then true else ((nth a0 v39 Z126).1==1))
 let v47:=([m6]:List (List D123))
 ((v17=true→(InB a16 (len a14)∧((v23=true→InB (0:Int) 3)∧((v23=false→(vR1 a6 v19))∧(InR (v33-1)∧(((!v35)=true→InR (a16+1))∧(((!v35)=true→InB v39 (len a0))∧((v44=true→((List.length a5+List.length v47:Nat):Int)≤4294967296)∧InR (a16+1))))))))),v17,((bif v44 then (a5++v47) else a5),m6,(a16+1),()))
def vR2 y x:=(uR8 y x).1
def uW1 y x:=(uR8 y x).2.1
def vM2 y x:=(uR8 y x).2.2
instance (y x):Decidable (vR2 y x):=by unfold vR2 uR8;dsimp only;infer_instance
def uN4 (y:vM1)(x:wY3):(List (List D123)):=
 x.1
def tG3:List (Nat×Sh):=[(5,(.own (.sl T123) 1005 false))]
def sL:=li [(0,(.val (.sl T126))),(14,(.val (.sl T126))),(15,vI)] [(5,(.own (.sl T123) 1005 false)),(6,(.own T123 1006 false)),(16,vI)] uW1 vM2 vR2 (fun y x=>[ex 2 none tG3 ((uN4 y x),())]) [tG3]
def rK2 (p0:List D126):Prop×((List (List D123))×Int×Unit):=
 let v10:=(f127 p0)
 let v12:=(v10 !=0)
 let y7:=(p0,p0,(len p0),())
 let x7:=(([]:List (List D123)),([]:List D123),(0:Int),())
 (((vX5 p0)∧((!v12)=true→(wB6 (uW1 y7) (vM2 y7) (vR2 y7) x7))),((bif v12 then [] else (uN4 y7 (zD9 (uW1 y7) (vM2 y7) x7))),(bif v12 then v10 else (0:Int)),()))
def uW2 p0:=(rK2 p0).1
def f113 p0:=(rK2 p0).2
instance (p0):Decidable (uW2 p0):=by unfold uW2 rK2;dsimp only;infer_instance
theorem sQ6:SK 113 (sp1 (.val (.sl T126)) (.tup (.cons (.own (.sl T123) 0 false) (.cons vI .nl))) uW2 f113):=fx (fun c=>{ c with wants:=[(131,[0])] }) Tryz.func113 51 [kb tL6,kb sK9] [(7,sL)] [(21,[(4,0,27,1006)]),(23,[(4,0,30,1006)]),(27,[(4,0,48,1005)]),(31,[(4,0,1005,0)])]
abbrev vM3:Type:=((List D126)×(List D126)×Int×Unit)
abbrev wY4:Type:=((List Bool)×Int×Unit)
def uR9 (y:vM3)(x:wY4):Prop×Bool×wY4:=
 let a0:=y.1
 let a13:=y.2.1
 let a5:=x.1
 let a15:=x.2.1
 let v16:=(decide (a15<y.2.2.1))
 let v22:=(len a0)
 let v24:=(a15==(v22-1))
 let v28:=(a15+1)
 let v33:=(bif v24 then true else ((nth a0 v28 Z126).1==1))
 let v38:=([((nth a13 a15 Z126).1 !=5)]:List Bool)
 ((v16=true→(InB a15 (len a13)∧(InR (v22-1)∧(((!v24)=true→InR (a15+1))∧(((!v24)=true→InB v28 (len a0))∧((v33=true→((List.length a5+List.length v38:Nat):Int)≤4294967296)∧InR (a15+1))))))),v16,((bif v33 then (a5++v38) else a5),(a15+1),()))
def vR3 y x:=(uR9 y x).1
def uW3 y x:=(uR9 y x).2.1
def vM4 y x:=(uR9 y x).2.2
instance (y x):Decidable (vR3 y x):=by unfold vR3 uR9;dsimp only;infer_instance
def uN5 (y:vM3)(x:wY4):(List Bool):=
 x.1
def sL0:=li [(0,(.val (.sl T126))),(13,(.val (.sl T126))),(14,vI)] [(5,(.own .bool 1005 false)),(15,vI)] uW3 vM4 vR3 (fun y x=>[ex 2 none [(5,(.own .bool 1005 false))] ((uN5 y x),())]) [[(5,(.own .bool 1005 false))]]
def rK3 (p0:List D126):Prop×((List Bool)×Int×Unit):=
 let v9:=(f127 p0)
 let v11:=(v9 !=0)
 let y6:=(p0,p0,(len p0),())
 let x6:=(([]:List Bool),(0:Int),())
 (((vX5 p0)∧((!v11)=true→(wB6 (uW3 y6) (vM4 y6) (vR3 y6) x6))),((bif v11 then [] else (uN5 y6 (zD9 (uW3 y6) (vM4 y6) x6))),(bif v11 then v9 else (0:Int)),()))
def tM0 p0:=(rK3 p0).1
def f114 p0:=(rK3 p0).2
instance (p0):Decidable (tM0 p0):=by unfold tM0 rK3;dsimp only;infer_instance
theorem rK4:SK 114 (sp1 (.val (.sl T126)) (.tup (.cons (.own .bool 0 false) (.cons vI .nl))) tM0 f114):=fb Tryz.func114 42 [kb tL6] [(6,sL0)] [(19,[(4,0,39,1005)]),(23,[(4,0,1005,0)])]
abbrev wY5:Type:=((List (List D123))×(List (List D123))×Int×Unit)
abbrev wR3:Type:=(Int×Int×Unit)
def vR4 (y:wY5)(x:wR3):Prop×Bool×wR3×Bool×Bool:=
 let a18:=y.2.1
 let a5:=x.1
 let a20:=x.2.1
 let v21:=(decide (a20<y.2.2.1))
 let v26:=(len (nth a18 a20 ([]:List D123)))
 let v27:=(a5+v26)
 let v29:=(decide (v27>4096))
 ((v21=true→(InB a20 (len a18)∧(InR (a5+v26)∧((!v29)=true→InR (a20+1))))),(v21&&(!v29)),(v27,(a20+1),()),(v21&&v29),(!v21))
def vR5 y x:=(vR4 y x).1
def uW4 y x:=(vR4 y x).2.1
def vM5 y x:=(vR4 y x).2.2.1
def tG4 y x:=(vR4 y x).2.2.2.1
def tG5 y x:=(vR4 y x).2.2.2.2
instance (y x):Decidable (vR5 y x):=by unfold vR5 vR4;dsimp only;infer_instance
def uN6 (y:wY5)(x:wR3):Int:=
 (3:Int)
def sL1:=li [(0,(.val (.sl (.sl T123)))),(18,(.val (.sl (.sl T123)))),(19,vI)] [(5,vI),(20,vI)] uW4 vM5 vR5 (fun y x=>[ex 1 (some (tG4 y x)) [(4,vI)] ((uN6 y x),()),ex 2 (some (tG5 y x)) [(0,(.val (.sl (.sl T123))))] (y.1,())]) [[(4,vI)],[(0,(.val (.sl (.sl T123))))]]
abbrev wS8:Type:=((List (List D123))×Int×Int×(List D123)×Int×Unit)
abbrev wO7:Type:=(Int×Unit)
def vD1 (y:wS8)(x:wO7):Prop×Bool×wO7×Bool×Bool:=
 let a37:=y.2.2.2.1
 let a39:=x.1
 let v40:=(decide (a39<y.2.2.2.2.1))
 let v41:=(nth a37 a39 Z123)
 let v60:=(bif (bif (bif (decide (v41.1<(-16777216))) then true else (decide (v41.1>16777216))) then true else (decide (v41.2.1<(-16777216)))) then true else (decide (v41.2.1>16777216)))
 ((v40=true→(InB a39 (len a37)∧((!v60)=true→InR (a39+1)))),(v40&&(!v60)),((a39+1),()),(v40&&v60),(!v40))
def vG1 y x:=(vD1 y x).1
def vR6 y x:=(vD1 y x).2.1
def wV1 y x:=(vD1 y x).2.2.1
def uW5 y x:=(vD1 y x).2.2.2.1
def uW6 y x:=(vD1 y x).2.2.2.2
instance (y x):Decidable (vG1 y x):=by unfold vG1 vD1;dsimp only;infer_instance
def uC3 (y:wS8)(x:wO7):Int:=
 (2:Int)
def uW7:List (Nat×Sh):=[(31,(.val (.sl (.sl T123)))),(32,vI),(33,vI)]
def tY7:=li [(31,(.val (.sl (.sl T123)))),(32,vI),(33,vI),(37,(.val (.sl T123))),(38,vI)] [(39,vI)] vR6 wV1 vG1 (fun y x=>[ex 1 (some (uW5 y x)) [(4,vI)] ((uC3 y x),()),ex 6 (some (uW6 y x)) uW7 (y.1,y.2.1,y.2.2.1,())]) [[(4,vI)],uW7]
abbrev wS9:Type:=((List (List D123))×Int×Unit)
abbrev wO8:Type:=(Int×Unit)
def vD2 (y:wS9)(x:wO8):Prop×Bool×wO8×Bool×Bool:=
 let a31:=y.1
 let a32:=y.2.1
 let a33:=x.1
 let v34:=(decide (a33<a32))
 let v35:=(nth a31 a33 ([]:List D123))
 let y15:=(a31,a32,a33,v35,(len v35),())
 let x15:=((0:Int),())
 let e15:=(zD9 (vR6 y15) (wV1 y15) x15)
 let q15_6:=(uW6 y15 e15)
 ((v34=true→(InB a33 (len a31)∧((wB6 (vR6 y15) (wV1 y15) (vG1 y15) x15)∧(q15_6=true→InR (a33+1))))),(v34&&q15_6),((a33+1),()),(v34&&(uW5 y15 e15)),(!v34))
def vG2 y x:=(vD2 y x).1
def uK0 y x:=(vD2 y x).2.1
def vG3 y x:=(vD2 y x).2.2.1
def uW8 y x:=(vD2 y x).2.2.2.1
def tY8 y x:=(vD2 y x).2.2.2.2
instance (y x):Decidable (vG2 y x):=by unfold vG2 vD2;dsimp only;infer_instance
def uC4 (y:wS9)(x:wO8):Int:=
 let a31:=y.1
 let a33:=x.1
 let v35:=(nth a31 a33 ([]:List D123))
 let y15:=(a31,y.2.1,a33,v35,(len v35),())
 (uC3 y15 (zD9 (vR6 y15) (wV1 y15) ((0:Int),())))
def tY9:=li [(31,(.val (.sl (.sl T123)))),(32,vI)] [(33,vI)] uK0 vG3 vG2 (fun y x=>[ex 1 (some (uW8 y x)) [(4,vI)] ((uC4 y x),()),ex 4 (some (tY8 y x)) [] ()]) [[(4,vI)],[]]
def rK5 (p0:(List (List D123)))(p1:Int):Prop×Int:=
 let v17:=(bif (p1 !=0) then (p1 !=1) else false)
 let y5:=(p0,p0,(len p0),())
 let x5:=((0:Int),(0:Int),())
 let e5:=(zD9 (uW4 y5) (vM5 y5) x5)
 let y12:=(p0,(len p0),())
 let x12:=((0:Int),())
 let e12:=(zD9 (uK0 y12) (vG3 y12) x12)
 (((!v17)=true→((wB6 (uW4 y5) (vM5 y5) (vR5 y5) x5)∧((tG5 y5 e5)=true→(wB6 (uK0 y12) (vG3 y12) (vG2 y12) x12)))),(bif v17 then (8:Int) else (bif (tG4 y5 e5) then (uN6 y5 e5) else (bif (uW8 y12 e12) then (uC4 y12 e12) else (0:Int)))))
def vX6 p0 p1:=(rK5 p0 p1).1
def f116 p0 p1:=(rK5 p0 p1).2
instance (p0 p1):Decidable (vX6 p0 p1):=by unfold vX6 rK5;dsimp only;infer_instance
def sQ7:=sp2 (.val (.sl (.sl T123))) vI vI vX6 f116
theorem tZ:SK 116 (sp2 (.val (.sl (.sl T123))) vI vI vX6 f116):=fb Tryz.func116 63 [] [(5,sL1),(12,tY9),(15,tY7)]
def rK6 (p0:Int)(p1:Int)(p2:Int):Prop×Int:=
 let m6_2:=(bif (bif (decide (p0<1)) then true else (decide (p0>4096))) then (2:Int) else (bif (bif (decide (p1<0)) then true else (decide (p1>2))) then (8:Int) else (bif (bif (decide (p2<0)) then true else (decide (p2>2))) then (8:Int) else (0:Int))))
 (True,m6_2)
def tM1 p0 p1 p2:=(rK6 p0 p1 p2).1
def f132 p0 p1 p2:=(rK6 p0 p1 p2).2
instance (p0 p1 p2):Decidable (tM1 p0 p1 p2):=by unfold tM1 rK6;dsimp only;infer_instance
theorem rK7:SK 132 (sp3 vI vI vI vI tM1 f132):=fb Tryz.func132 25
abbrev vM6:Type:=(Bool×(List D123)×Int×Unit)
abbrev wY6:Type:=((List D123)×Int×Unit)
def uS (y:vM6)(x:wY6):Prop×Bool×wY6:=
 let a8:=y.2.1
 let a5:=x.1
 let a10:=x.2.1
 let v11:=(decide (a10<y.2.2.1))
 let v12:=(nth a8 a10 Z123)
 let v16:=((len a5)==0)
 let v21:=(len a5)
 let v22:=(v21-1)
 let v26:=(bif v16 then true else (!(Ty.eqb T123 v12 (nth a5 v22 Z123))))
 let v29:=([v12]:List D123)
 ((v11=true→(InB a10 (len a8)∧(((!v16)=true→InR (v21-1))∧(((!v16)=true→InB v22 (len a5))∧((v26=true→((List.length a5+List.length v29:Nat):Int)≤4294967296)∧InR (a10+1)))))),v11,((bif v26 then (a5++v29) else a5),(a10+1),()))
def vR7 y x:=(uS y x).1
def uW9 y x:=(uS y x).2.1
def vM7 y x:=(uS y x).2.2
instance (y x):Decidable (vR7 y x):=by unfold vR7 uS;dsimp only;infer_instance
def uN7 (y:vM6)(x:wY6):(List D123):=
 x.1
def tG6:List (Nat×Sh):=[(1,vB),(5,(.own T123 1005 false))]
def sL2:=li [(1,vB),(8,(.val (.sl T123))),(9,vI)] [(5,(.own T123 1005 false)),(10,vI)] uW9 vM7 vR7 (fun y x=>[ex 2 none tG6 (y.1,(uN7 y x),())]) [tG6]
abbrev vM8:Type:=(Bool×Unit)
abbrev wY7:Type:=((List D123)×Unit)
def uS0 (y:vM8)(x:wY7):Prop×Bool×wY7:=
 let a5:=x.1
 let v38:=(bif (!y.1) then (decide ((len a5)>1)) else false)
 let v42:=(len a5)
 let v43:=(v42-1)
 let v50:=(bif v38 then (Ty.eqb T123 (nth a5 v43 Z123) (nth a5 (0:Int) Z123)) else false)
 let v53:=(len a5)
 let v54:=(v53-1)
 (((v38=true→InR (v42-1))∧((v38=true→InB v43 (len a5))∧((v38=true→InB (0:Int) (len a5))∧(v50=true→(InR (v53-1)∧(0≤v54∧v54≤len a5)))))),v50,((List.take (Int.toNat v54) a5),()))
def vR8 y x:=(uS0 y x).1
def uX y x:=(uS0 y x).2.1
def vM9 y x:=(uS0 y x).2.2
instance (y x):Decidable (vR8 y x):=by unfold vR8 uS0;dsimp only;infer_instance
def uN8 (y:vM8)(x:wY7):(List D123):=
 x.1
def sL3:=li [(1,vB)] [(5,(.val (.sl T123)))] uX vM9 vR8 (fun y x=>[ex 4 none [(5,(.val (.sl T123)))] ((uN8 y x),())]) [[(5,(.val (.sl T123)))]]
def rK8 (p0:List D123)(p1:Bool):Prop×(List D123):=
 let y3:=(p1,p0,(len p0),())
 let x3:=(([]:List D123),(0:Int),())
 let y8:=(p1,())
 let x8:=((uN7 y3 (zD9 (uW9 y3) (vM7 y3) x3)),())
 (((wB6 (uW9 y3) (vM7 y3) (vR7 y3) x3)∧(wB6 (uX y8) (vM9 y8) (vR8 y8) x8)),(uN8 y8 (zD9 (uX y8) (vM9 y8) x8)))
def tM2 p0 p1:=(rK8 p0 p1).1
def f144 p0 p1:=(rK8 p0 p1).2
instance (p0 p1):Decidable (tM2 p0 p1):=by unfold tM2 rK8;dsimp only;infer_instance
theorem rK9:SK 144 (sp2 (.val (.sl T123)) vB (.val (.sl T123)) tM2 f144):=fb Tryz.func144 57 [] [(3,sL2),(8,sL3)] [(13,[(4,0,30,1005)])]
def rL (p0:D123)(p1:D123):Prop×D123:=
 (True,((IntKind.wrap .i64 (p0.1-p1.1)),(IntKind.wrap .i64 (p0.2.1-p1.2.1)),()))
def wP5 p0 p1:=(rL p0 p1).1
def f149 p0 p1:=(rL p0 p1).2
instance (p0 p1):Decidable (wP5 p0 p1):=by unfold wP5 rL;dsimp only;infer_instance
theorem tM3:SK 149 (sp2 (.val T123) (.val T123) (.val T123) wP5 f149):=fb Tryz.func149 16 [] [] [] true
def rL0 (p0:Int)(p1:Int):Prop×(Int×Int×Unit):=
 let v15:=(wL7 .u64 p0 (4294967295:Int))
 let v17:=(wL8 p0 (32:Int) 64)
 let v19:=(wL7 .u64 p1 (4294967295:Int))
 let v21:=(wL8 p1 (32:Int) 64)
 let v30:=(IntKind.wrap .u64 ((IntKind.wrap .u64 (v17*v19))+(wL8 (IntKind.wrap .u64 (v15*v19)) (32:Int) 64)))
 let v47:=(IntKind.wrap .u64 ((IntKind.wrap .u64 ((IntKind.wrap .u64 (v17*v21))+(wL8 v30 (32:Int) 64)))+(wL8 (IntKind.wrap .u64 ((wL7 .u64 v30 (4294967295:Int))+(IntKind.wrap .u64 (v15*v21)))) (32:Int) 64)))
 (True,(v47,(IntKind.wrap .u64 (p0*p1)),()))
def vX7 p0 p1:=(rL0 p0 p1).1
def f174 p0 p1:=(rL0 p0 p1).2
instance (p0 p1):Decidable (vX7 p0 p1):=by unfold vX7 rL0;dsimp only;infer_instance
def sQ8:=sp2 (.val (.int .u64)) (.val (.int .u64)) (.tup (.cons (.val (.int .u64)) (.cons (.val (.int .u64)) .nl))) vX7 f174
theorem rL1:SK 174 (sp2 (.val (.int .u64)) (.val (.int .u64)) (.tup (.cons (.val (.int .u64)) (.cons (.val (.int .u64)) .nl))) vX7 f174):=fb Tryz.func174 51 [] [] [] true
def rL2 (p0:Int):Prop×Int:=
 (True,(bif (decide (p0<0)) then (IntKind.wrap .u64 (Int.sub 0 (IntKind.wrap .u64 p0))) else (IntKind.wrap .u64 p0)))
def vN p0:=(rL2 p0).1
def f175 p0:=(rL2 p0).2
instance (p0):Decidable (vN p0):=by unfold vN rL2;dsimp only;infer_instance
def sQ9:=sp1 vI (.val (.int .u64)) vN f175
theorem rL3:SK 175 (sp1 vI (.val (.int .u64)) vN f175):=fb Tryz.func175 10 [] [] [] true
abbrev vN0:Type:=(Int×Int×Unit)
abbrev wY8:Type:=(Int×Int×Unit)
def uS1 (y:vN0)(x:wY8):Prop×Bool×wY8:=
 let a5:=y.1
 let a10:=x.1
 let a11:=x.2.1
 let v43:=(a11 !=0)
 let v48:=(ior .u64 a10 a11)
 let v52:=(f174 v48 v48)
 ((v43=true→(vX7 v48 v48)),v43,((bif (bif (decide (v52.1<a5)) then true else (bif (v52.1==a5) then (decide (v52.2.1≤y.2.1)) else false)) then v48 else a10),(wL8 a11 (1:Int) 64),()))
def vR9 y x:=(uS1 y x).1
def uX0 y x:=(uS1 y x).2.1
def vN1 y x:=(uS1 y x).2.2
instance (y x):Decidable (vR9 y x):=by unfold vR9 uS1;dsimp only;infer_instance
def uN9 (y:vN0)(x:wY8):Int:=
 x.1
def uO:St→Option Out:=xU9 [(5,(.val (.int .u64))),(6,(.val (.int .u64)))] [(10,(.val (.int .u64))),(11,(.val (.int .u64)))] uX0 vN1 vR9 fun y x=>[ex 2 none [(10,(.val (.int .u64)))] ((uN9 y x),())]
def rL4 (p0:Int)(p1:Int):Prop×Int:=
 let v15:=(f175 p0)
 let v17:=(f175 p0)
 let v18:=(f174 v15 v17)
 let v23:=(f175 p1)
 let v25:=(f175 p1)
 let v26:=(f174 v23 v25)
 let v34:=(((Int.toNat v18.2.1+Int.toNat v26.2.1+Int.toNat (0:Int)) / 18446744073709551616:Nat):Int)
 let y7:=((((Int.toNat v18.1+Int.toNat v26.1+Int.toNat v34) % 18446744073709551616:Nat):Int),(((Int.toNat v18.2.1+Int.toNat v26.2.1+Int.toNat (0:Int)) % 18446744073709551616:Nat):Int),())
 let x7:=((0:Int),(9223372036854775808:Int),())
 let r7_2_0:=(uN9 y7 (zD9 (uX0 y7) (vN1 y7) x7))
 (((vN p0)∧((vN p0)∧((vX7 v15 v17)∧((vN p1)∧((vN p1)∧((vX7 v23 v25)∧((0≤(0:Int)∧(0:Int)≤1)∧((0≤v34∧v34≤1)∧(wB6 (uX0 y7) (vN1 y7) (vR9 y7) x7))))))))),(bif (decide (r7_2_0>9223372036854775807)) then (9223372036854775807:Int) else (IntKind.wrap .i64 r7_2_0)))
def uX1 p0 p1:=(rL4 p0 p1).1
def f166 p0 p1:=(rL4 p0 p1).2
instance (p0 p1):Decidable (uX1 p0 p1):=by unfold uX1 rL4;dsimp only;infer_instance
def sR:=sp2 vI vI vI uX1 f166
def sF5:Ctx:={ Cx tys [(174,sQ8),(175,sQ9)] [(7,uO)] [] true 73 [] [] with exts:=[(176,xG4)] }
theorem sF6:CtxOk Tryz.prog sF5:=wH5 wQ3 rfl ⟨rL1,rL3,trivial⟩ ⟨rF4,trivial⟩ (by kernel_rfl)
noncomputable def sR0:Code:=Tryz.f166.body.getD .skip
noncomputable def sR1:Code:=wJ9 sR0 0
theorem sL4:xD3 Tryz.prog sF5 sR1:=lq sF6 (sp:=uO) rfl [[(10,(.val (.int .u64)))]]
theorem sR2:SK 166 sR:=fl sF6 Tryz.func166 (bs:=[sR1]) ⟨sL4,trivial⟩
def rL5 (p0:D123)(p1:D123)(p2:Int):Prop×D209:=
 let v11:=(f149 p1 p0)
 let v14:=(IntKind.wrap .i64 (16*v11.1))
 let v17:=(IntKind.wrap .i64 (16*v11.2.1))
 let v18:=(f166 v14 v17)
 let v26:=(IntKind.wrap .i64 ((IntKind.wrap .i64 ((-8)*p2))*v11.2.1))
 let v33:=(IntKind.wrap .i64 ((IntKind.wrap .i64 (8*p2))*v11.1))
 let v41:=(IntKind.wrap .i64 ((IntKind.wrap .i64 (8*p2))*v11.1))
 let v48:=(IntKind.wrap .i64 ((IntKind.wrap .i64 (8*p2))*v11.2.1))
 (((wP5 p1 p0)∧((uX1 v14 v17)∧((wM4 v26 v18)∧((wM4 v33 v18)∧((wM4 v41 v18)∧(wM4 v48 v18)))))),(p0,p1,v11,((f96 v26 v18),(f96 v33 v18),()),((f96 v41 v18),(f96 v48 v18),()),()))
def uX2 p0 p1 p2:=(rL5 p0 p1 p2).1
def f162 p0 p1 p2:=(rL5 p0 p1 p2).2
instance (p0 p1 p2):Decidable (uX2 p0 p1 p2):=by unfold uX2 rL5;dsimp only;infer_instance
theorem rL6:SK 162 (sp3 (.val T123) (.val T123) vI (.val T209) uX2 f162):=fb Tryz.func162 53 [kb vL0,kb tM3,kb sR2] [] [] true
abbrev vN2:Type:=((List D123)×Bool×Int×Unit)
abbrev wY9:Type:=((List D209)×Int×Unit)
def uS2 (y:vN2)(x:wY9):Prop×Bool×wY9:=
 let a0:=y.1
 let a2:=y.2.2.1
 let a7:=x.1
 let a8:=x.2.1
 let v12:=(decide (a8<(len a0)))
 let v18:=(a8-1)
 let v19:=(nth a0 v18 Z123)
 let v23:=(nth a0 a8 Z123)
 let v27:=([(f162 v19 v23 a2)]:List D209)
 ((v12=true→(InR (a8-1)∧(InB v18 (len a0)∧(InB a8 (len a0)∧((uX2 v19 v23 a2)∧(((List.length a7+List.length v27:Nat):Int)≤4294967296∧InR (a8+1))))))),v12,((a7++v27),(a8+1),()))
def vS0 y x:=(uS2 y x).1
def uX3 y x:=(uS2 y x).2.1
def vN3 y x:=(uS2 y x).2.2
instance (y x):Decidable (vS0 y x):=by unfold vS0 uS2;dsimp only;infer_instance
def uO0 (y:vN2)(x:wY9):(List D209):=
 x.1
def tG7:List (Nat×Sh):=[(0,(.val (.sl T123))),(1,vB),(2,vI),(7,(.own T209 1007 false))]
def sL5:=li [(0,(.val (.sl T123))),(1,vB),(2,vI)] [(7,(.own T209 1007 false)),(8,vI)] uX3 vN3 vS0 (fun y x=>[ex 2 none tG7 (y.1,y.2.1,y.2.2.1,(uO0 y x),())]) [tG7]
def rL7 (p0:List D123)(p1:Bool)(p2:Int):Prop×(List D209):=
 let y3:=(p0,p1,p2,())
 let x3:=(([]:List D209),(1:Int),())
 let r3_2_0:=(uO0 y3 (zD9 (uX3 y3) (vN3 y3) x3))
 let v35:=(bif (!p1) then (decide ((len p0)>1)) else false)
 let v39:=(len p0)
 let v40:=(v39-1)
 let v41:=(nth p0 v40 Z123)
 let v44:=(nth p0 (0:Int) Z123)
 let v48:=([(f162 v41 v44 p2)]:List D209)
 (((wB6 (uX3 y3) (vN3 y3) (vS0 y3) x3)∧(v35=true→(InR (v39-1)∧(InB v40 (len p0)∧(InB (0:Int) (len p0)∧((uX2 v41 v44 p2)∧((List.length r3_2_0+List.length v48:Nat):Int)≤4294967296)))))),(bif v35 then (r3_2_0++v48) else r3_2_0))
def tM4 p0 p1 p2:=(rL7 p0 p1 p2).1
def f145 p0 p1 p2:=(rL7 p0 p1 p2).2
instance (p0 p1 p2):Decidable (tM4 p0 p1 p2):=by unfold tM4 rL7;dsimp only;infer_instance
theorem rL8:SK 145 (sp3 (.val (.sl T123)) vB vI (.own T209 0 false) tM4 f145):=fb Tryz.func145 51 [kb rL6] [(3,sL5)] [(11,[(4,0,28,1007)]),(15,[(4,0,49,1007)]),(17,[(4,0,1007,0)])]
abbrev vN4:Type:=((List D123)×(List D123)×Int×Unit)
abbrev wZ:Type:=(Int×Int×Unit)
def uS3 (y:vN4)(x:wZ):Prop×Bool×wZ:=
 let a0:=y.1
 let a7:=y.2.1
 let a9:=x.2.1
 let v10:=(decide (a9<y.2.2.1))
 let v12:=(nth a7 a9 Z123)
 let v18:=(len a0)
 let v19:=(Int.tmod (IntKind.wrap .i64 (a9+1)) v18)
 let v20:=(nth a0 v19 Z123)
 ((v10=true→(InB a9 (len a7)∧(v18≠0∧InB v19 (len a0)))),v10,((IntKind.wrap .i64 (x.1+(IntKind.wrap .i64 ((IntKind.wrap .i64 (v12.1*v20.2.1))-(IntKind.wrap .i64 (v20.1*v12.2.1)))))),(IntKind.wrap .i64 (a9+1)),()))
def vS1 y x:=(uS3 y x).1
def uX4 y x:=(uS3 y x).2.1
def vN5 y x:=(uS3 y x).2.2
instance (y x):Decidable (vS1 y x):=by unfold vS1 uS3;dsimp only;infer_instance
def uO1 (y:vN4)(x:wZ):Int:=
 x.1
def sL6:=li [(0,(.val (.sl T123))),(7,(.val (.sl T123))),(8,vI)] [(3,vI),(9,vI)] uX4 vN5 vS1 (fun y x=>[ex 2 none [(3,vI)] ((uO1 y x),())]) [[(3,vI)]]
def rL9 (p0:List D123):Prop×Int:=
 let y3:=(p0,p0,(len p0),())
 let x3:=((0:Int),(0:Int),())
 ((wB6 (uX4 y3) (vN5 y3) (vS1 y3) x3),(uO1 y3 (zD9 (uX4 y3) (vN5 y3) x3)))
def tM5 p0:=(rL9 p0).1
def f164 p0:=(rL9 p0).2
instance (p0):Decidable (tM5 p0):=by unfold tM5 rL9;dsimp only;infer_instance
theorem rM:SK 164 (sp1 (.val (.sl T123)) vI tM5 f164):=fb Tryz.func164 37 [] [(3,sL6)] [] true
def f165 (_p0:List D123):Unit:=()
def rC1 (p0:List D123):(List D123)×Unit:=(List.reverse p0,())
def tZ0 (_p0:List D123):Prop:=True
instance (p0:List D123):Decidable (tZ0 p0):=isTrue trivial
def rM0:List (Nat×Sh):=[(0,(.own T123 400000 true))]
def rM1:Sh:=(.tup .nl)
def rM2:List (Nat×Sh):=[(0,(.own T123 400000 true))]
def sR3:Am.Spec:=fnSpec rM0 rM1 rM2 (fun x=>tZ0 x.1) (fun x=>f165 x.1) (fun x=>rC1 x.1)
theorem rM3:SpecOk Tryz.prog 165 sR3:=sY0 (by decide) rfl ⟨_,Tryz.func165,by kernel_rfl,by decide⟩ rY6
def rM4 (p0:D123)(p1:D123):Prop×D123:=
 (True,((IntKind.wrap .i64 (p0.1+p1.1)),(IntKind.wrap .i64 (p0.2.1+p1.2.1)),()))
def wM6 p0 p1:=(rM4 p0 p1).1
def f148 p0 p1:=(rM4 p0 p1).2
instance (p0 p1):Decidable (wM6 p0 p1):=by unfold wM6 rM4;dsimp only;infer_instance
theorem uX5:SK 148 (sp2 (.val T123) (.val T123) (.val T123) wM6 f148):=fb Tryz.func148 16 [] [] [] true
def rM5 (p0:Int):Prop×Int:=
 let v5:=(IntKind.wrap .i64 (Int.tdiv p0 (256:Int)))
 let v7:=(decide (v5≥64))
 let v14:=(IntKind.wrap .i64 (v5+1))
 let v25:=(IntKind.wrap .i64 ((IntKind.wrap .i64 ((nth G5 v14 (0:Int))-(nth G5 v5 (0:Int))))*(IntKind.wrap .i64 (p0-(IntKind.wrap .i64 (256*v5))))))
 (((v7=true→InB (64:Int) 65)∧((!v7)=true→(InB v5 65∧(InB v14 65∧(InB v5 65∧(wM4 v25 (256:Int))))))),(bif v7 then (nth G5 (64:Int) (0:Int)) else (IntKind.wrap .i64 ((nth G5 v5 (0:Int))+(f96 v25 (256:Int))))))
def vX8 p0:=(rM5 p0).1
def f189 p0:=(rM5 p0).2
instance (p0):Decidable (vX8 p0):=by unfold vX8 rM5;dsimp only;infer_instance
theorem rM6:SK 189 (sp1 vI vI vX8 f189):=fb Tryz.func189 28 [kb vL0] [] [] true
def rM7 (p0:Int):Prop×Int:=
 let v6:=(IntKind.wrap .i64 (Int.tdiv p0 (16384:Int)))
 let v10:=(IntKind.wrap .i64 (p0-(IntKind.wrap .i64 (16384*v6))))
 let v13:=(v6==0)
 let v17:=(v6==1)
 let v19:=(IntKind.wrap .i64 (16384-v10))
 let v22:=(v6==2)
 let v27:=(IntKind.wrap .i64 (16384-v10))
 let m2_2:=(bif (bif v13 then true else (bif v17 then true else v22)) then (bif v13 then (f189 v10) else (bif v17 then (f189 v19) else (IntKind.wrap .i64 (Int.sub 0 (f189 v10))))) else (IntKind.wrap .i64 (Int.sub 0 (f189 v27))))
 (((v13=true→(vX8 v10))∧((v13=false→((v17=true→(vX8 v19))∧(v17=false→(v22=true→(vX8 v10)))))∧((((!v22)&&(!v17))&&(!v13))=true→(vX8 v27)))),m2_2)
def uX6 p0:=(rM7 p0).1
def f184 p0:=(rM7 p0).2
instance (p0):Decidable (uX6 p0):=by unfold uX6 rM7;dsimp only;infer_instance
theorem rM8:SK 184 (sp1 vI vI uX6 f184):=fb Tryz.func184 30 [kb rM6] [] [] true
def rM9 (p0:Int):Prop×(Int×Int×Unit):=
 let v6:=(wL7 .i64 p0 (65535:Int))
 let v11:=(Int.tmod (IntKind.wrap .i64 (v6+16384)) (65536:Int))
 (((uX6 v6)∧(uX6 v11)),((f184 v6),(f184 v11),()))
def tM6 p0:=(rM9 p0).1
def f173 p0:=(rM9 p0).2
instance (p0):Decidable (tM6 p0):=by unfold tM6 rM9;dsimp only;infer_instance
theorem rN:SK 173 (sp1 vI (.tup (.cons vI (.cons vI .nl))) tM6 f173):=fb Tryz.func173 13 [kb rM8] [] [] true
abbrev vN6:Type:=(Int×D123×Int×Unit)
abbrev wZ0:Type:=((List D123)×Int×Unit)
def uS4 (y:vN6)(x:wZ0):Prop×Bool×wZ0:=
 let a1:=y.1
 let a2:=y.2.1
 let a5:=x.1
 let a12:=x.2.1
 let v13:=(decide (a12<y.2.2.1))
 let v17:=(IntKind.wrap .i64 (4096*a12))
 let v18:=(f173 v17)
 let v26:=(IntKind.wrap .i64 (a1*v18.2.1))
 let v30:=(IntKind.wrap .i64 (a1*v18.1))
 let s:=((f96 v26 (131072:Int)),(f96 v30 (131072:Int)),())
 ((v13=true→((tM6 v17)∧((wM4 v26 (131072:Int))∧((wM4 v30 (131072:Int))∧((wM6 a2 s)∧(InB a12 (len a5)∧a12<len a5)))))),v13,((List.set a5 (Int.toNat a12) (f148 a2 s)),(IntKind.wrap .i64 (a12+1)),()))
def vS2 y x:=(uS4 y x).1
def uX7 y x:=(uS4 y x).2.1
def vN7 y x:=(uS4 y x).2.2
instance (y x):Decidable (vS2 y x):=by unfold vS2 uS4;dsimp only;infer_instance
def uO2 (y:vN6)(x:wZ0):(List D123):=
 x.1
def sL7:=li [(1,vI),(2,(.box T123 (.val T123))),(11,vI)] [(5,(.own T123 1005 true)),(12,vI)] uX7 vN7 vS2 (fun y x=>[ex 2 none [(5,(.own T123 1005 true))] ((uO2 y x),())]) [[(5,(.own T123 1005 true))]]
def rN0 (p0:D123)(p1:Int):Prop×(List D123):=
 let v9:=(List.replicate (Int.toNat (16:Int)) Z123)
 let y3:=(p1,p0,(len v9),())
 let x3:=(v9,(0:Int),())
 (((0≤(16:Int)∧(16:Int)≤(16:Int)∧(16:Int)≤4294967296)∧(wB6 (uX7 y3) (vN7 y3) (vS2 y3) x3)),(uO2 y3 (zD9 (uX7 y3) (vN7 y3) x3)))
def vX9 p0 p1:=(rN0 p0 p1).1
def f163 p0 p1:=(rN0 p0 p1).2
instance (p0 p1):Decidable (vX9 p0 p1):=by unfold vX9 rN0;dsimp only;infer_instance
theorem tZ1:SK 163 (sp2 (.val T123) vI (.own T123 0 true) vX9 f163):=fb Tryz.func163 37 [kb vL0,kb uX5,kb rN] [(3,sL7)] [(3,[(4,0,9,1005)]),(17,[(4,0,1005,0)])] true [] [9]
def uS5 (p0:(Int×Int×Int×(List (List D123))×Int×Unit))(p1:List D123):Prop×(Unit)×((Int×Int×Int×(List (List D123))×Int×Unit)×Unit):=
 let v6:=(f164 p1)
 let v8:=(v6==0)
 let v10:=(decide (v6<0))
 let m1:=(bif v10 then (rC1 p1).1 else p1)
 let v19:=([m1]:List (List D123))
 let s:=((bif v8 then p0.1 else p0.1),(bif v8 then p0.2.1 else p0.2.1),(bif v8 then p0.2.2.1 else p0.2.2.1),(bif v8 then p0.2.2.2.1 else (p0.2.2.2.1++v19)),(bif v8 then p0.2.2.2.2.1 else (IntKind.wrap .i64 (p0.2.2.2.2.1+(len m1)))),())
 (((tM5 p1)∧((!v8)=true→((v10=true→((tZ0 p1)∧(0<List.length p1∧(List.length p1=List.length p1∧(List.length p1=List.length p1∧List.length p1=List.length p1)))))∧((List.length p0.2.2.2.1+List.length v19:Nat):Int)≤4294967296))),(),(s,()))
def wM1 p0 p1:=(uS5 p0 p1).1
def rN1 p0 p1:=(uS5 p0 p1).2.1
def wM7 p0 p1:=(uS5 p0 p1).2.2
instance (p0 p1):Decidable (wM1 p0 p1):=by unfold wM1 uS5;dsimp only;infer_instance
theorem vS3:SK 147 (fnSpec [(0,(.box T183 (.agg (.cons (.int .i64) (.cons (.int .i64) (.cons (.int .i64) (.cons (.sl (.sl T123)) (.cons (.int .i64) .nl))))) (.cons vI (.cons vI (.cons vI (.cons (.own (.sl T123) 400000 false) (.cons vI .nl)))))))),(1,(.own T123 400100 true))] (.tup .nl) [(0,(.box T183 (.agg (.cons (.int .i64) (.cons (.int .i64) (.cons (.int .i64) (.cons (.sl (.sl T123)) (.cons (.int .i64) .nl))))) (.cons vI (.cons vI (.cons vI (.cons (.own (.sl T123) 400000 false) (.cons vI .nl))))))))] (fun x=>wM1 x.1 x.2.1) (fun x=>rN1 x.1 x.2.1) (fun x=>wM7 x.1 x.2.1)):=fx (fun c=>{ c with wants:=[(165,[0])] }) Tryz.func147 32 [kb rM,kb rM3] [] [(8,[(1,1,0,0)]),(9,[(4,0,20,400000)])] true [0]
def uS6 (p0:(Int×Int×Int×(List (List D123))×Int×Unit))(p1:D123):Prop×(Unit)×((Int×Int×Int×(List (List D123))×Int×Unit)×Unit):=
 let v10:=(p0.2.2.1==1)
 let v17:=(f163 p1 p0.1)
 let s_1:=(p0.1,p0.2.1,p0.2.2.1,p0.2.2.2.1,p0.2.2.2.2.1,())
 let v18o:=(wM7 s_1 v17)
 let v20:=(p0.2.2.1==2)
 let v25:=(f96 p0.1 (2:Int))
 let s_2:=((IntKind.wrap .i64 (Int.sub 0 v25)),(IntKind.wrap .i64 (Int.sub 0 v25)),())
 let s_3:=(v25,(IntKind.wrap .i64 (Int.sub 0 v25)),())
 let s_4:=(v25,v25,())
 let s_5:=((IntKind.wrap .i64 (Int.sub 0 v25)),v25,())
 let v51:=([(f148 p1 s_2),(f148 p1 s_3),(f148 p1 s_4),(f148 p1 s_5)]:List D123)
 let s_7:=(p0.1,p0.2.1,p0.2.2.1,p0.2.2.2.1,p0.2.2.2.2.1,())
 let v52o:=(wM7 s_7 v51)
 let s_8:=((bif v10 then v18o.1.1 else (bif v20 then v52o.1.1 else p0.1)),(bif v10 then v18o.1.2.1 else (bif v20 then v52o.1.2.1 else p0.2.1)),(bif v10 then v18o.1.2.2.1 else (bif v20 then v52o.1.2.2.1 else p0.2.2.1)),(bif v10 then v18o.1.2.2.2.1 else (bif v20 then v52o.1.2.2.2.1 else p0.2.2.2.1)),(bif v10 then v18o.1.2.2.2.2.1 else (bif v20 then v52o.1.2.2.2.2.1 else p0.2.2.2.2.1)),())
 (((v10=true→((vX9 p1 p0.1)∧(wM1 s_1 v17)))∧(v10=false→(v20=true→((wM4 p0.1 (2:Int))∧((wM6 p1 s_2)∧((wM6 p1 s_3)∧((wM6 p1 s_4)∧((wM6 p1 s_5)∧(wM1 s_7 v51))))))))),(),(s_8,()))
def vS4 p0 p1:=(uS6 p0 p1).1
def rN2 p0 p1:=(uS6 p0 p1).2.1
def tT4 p0 p1:=(uS6 p0 p1).2.2
instance (p0 p1):Decidable (vS4 p0 p1):=by unfold vS4 uS6;dsimp only;infer_instance
theorem sL8:SK 146 (fnSpec [(0,(.box T183 (.agg (.cons (.int .i64) (.cons (.int .i64) (.cons (.int .i64) (.cons (.sl (.sl T123)) (.cons (.int .i64) .nl))))) (.cons vI (.cons vI (.cons vI (.cons (.own (.sl T123) 400000 false) (.cons vI .nl)))))))),(1,(.val T123))] (.tup .nl) [(0,(.box T183 (.agg (.cons (.int .i64) (.cons (.int .i64) (.cons (.int .i64) (.cons (.sl (.sl T123)) (.cons (.int .i64) .nl))))) (.cons vI (.cons vI (.cons vI (.cons (.own (.sl T123) 400000 false) (.cons vI .nl))))))))] (fun x=>vS4 x.1 x.2.1) (fun x=>rN2 x.1 x.2.1) (fun x=>tT4 x.1 x.2.1)):=fx (fun c=>{ c with wants:=[(147,[1])] }) Tryz.func146 53 [kb vL0,kb vS3,kb uX5,kb tZ1] [] [] true [0] [51]
def uS7 (p0:(Int×Int×Int×(List (List D123))×Int×Unit))(p1:D209)(p2:D209):Prop×(Unit)×((Int×Int×Int×(List (List D123))×Int×Unit)×Unit):=
 let v23:=(p0.2.1==1)
 let v30:=(f163 p2.1 p0.1)
 let s_1:=(p0.1,p0.2.1,p0.2.2.1,p0.2.2.2.1,p0.2.2.2.2.1,())
 let v31o:=(wM7 s_1 v30)
 let v40:=([p2.1,(f148 p2.1 p1.2.2.2.1),(f148 p2.1 p2.2.2.2.1)]:List D123)
 let s_3:=(p0.1,p0.2.1,p0.2.2.1,p0.2.2.2.1,p0.2.2.2.2.1,())
 let v41o:=(wM7 s_3 v40)
 let v50:=([p2.1,(f149 p2.1 p1.2.2.2.1),(f149 p2.1 p2.2.2.2.1)]:List D123)
 let s_5:=(v41o.1.1,v41o.1.2.1,v41o.1.2.2.1,v41o.1.2.2.2.1,v41o.1.2.2.2.2.1,())
 let v51o:=(wM7 s_5 v50)
 let v66:=(IntKind.wrap .i64 ((IntKind.wrap .i64 (p1.2.2.1.1*p2.2.2.1.2.1))-(IntKind.wrap .i64 (p1.2.2.1.2.1*p2.2.2.1.1))))
 let v75:=(IntKind.wrap .i64 (v51o.1.1*v51o.1.1))
 let v89:=(IntKind.wrap .i64 (v75+(IntKind.wrap .i64 (4*(IntKind.wrap .i64 ((IntKind.wrap .i64 (p1.2.2.2.1.1*p2.2.2.2.1.1))+(IntKind.wrap .i64 (p1.2.2.2.1.2.1*p2.2.2.2.1.2.1))))))))
 let v102:=(bif (bif (v51o.1.2.1==2) then true else (v66==0)) then true else (decide (v89≤0)))
 let v109:=(IntKind.wrap .i64 (v75*(IntKind.wrap .i64 (p1.2.2.2.1.1+p2.2.2.2.1.1))))
 let v111:=(f96 v109 v89)
 let v118:=(IntKind.wrap .i64 (v75*(IntKind.wrap .i64 (p1.2.2.2.1.2.1+p2.2.2.2.1.2.1))))
 let v120:=(f96 v118 v89)
 let s_6:=(v111,v120,())
 let v132:=(decide ((f166 v111 v120)>(IntKind.wrap .i64 (4*v51o.1.1))))
 let v134:=(decide (v66>0))
 let v146:=([p2.1,(f149 p2.1 p1.2.2.2.1),(f149 p2.1 s_6),(f149 p2.1 p2.2.2.2.1)]:List D123)
 let s_8:=(v51o.1.1,v51o.1.2.1,v51o.1.2.2.1,v51o.1.2.2.2.1,v51o.1.2.2.2.2.1,())
 let v147o:=(wM7 s_8 v146)
 let v159:=([p2.1,(f148 p2.1 p1.2.2.2.1),(f148 p2.1 s_6),(f148 p2.1 p2.2.2.2.1)]:List D123)
 let s_10:=(v51o.1.1,v51o.1.2.1,v51o.1.2.2.1,v51o.1.2.2.2.1,v51o.1.2.2.2.2.1,())
 let v160o:=(wM7 s_10 v159)
 let c_5:=(v23||((!v23)&&(v102||((!v102)&&v132))))
 let s_11:=((bif c_5 then (bif v23 then v31o.1.1 else v51o.1.1) else (bif v134 then v147o.1.1 else v160o.1.1)),(bif c_5 then (bif v23 then v31o.1.2.1 else v51o.1.2.1) else (bif v134 then v147o.1.2.1 else v160o.1.2.1)),(bif c_5 then (bif v23 then v31o.1.2.2.1 else v51o.1.2.2.1) else (bif v134 then v147o.1.2.2.1 else v160o.1.2.2.1)),(bif c_5 then (bif v23 then v31o.1.2.2.2.1 else v51o.1.2.2.2.1) else (bif v134 then v147o.1.2.2.2.1 else v160o.1.2.2.2.1)),(bif c_5 then (bif v23 then v31o.1.2.2.2.2.1 else v51o.1.2.2.2.2.1) else (bif v134 then v147o.1.2.2.2.2.1 else v160o.1.2.2.2.2.1)),())
 (((v23=true→((vX9 p2.1 p0.1)∧(wM1 s_1 v30)))∧((!v23)=true→((wM6 p2.1 p1.2.2.2.1)∧((wM6 p2.1 p2.2.2.2.1)∧((wM1 s_3 v40)∧((wP5 p2.1 p1.2.2.2.1)∧((wP5 p2.1 p2.2.2.2.1)∧((wM1 s_5 v50)∧((!v102)=true→((wM4 v109 v89)∧((wM4 v118 v89)∧((uX1 v111 v120)∧((!v132)=true→((v134=true→((wP5 p2.1 p1.2.2.2.1)∧((wP5 p2.1 s_6)∧((wP5 p2.1 p2.2.2.2.1)∧(wM1 s_8 v146)))))∧(v134=false→((wM6 p2.1 p1.2.2.2.1)∧((wM6 p2.1 s_6)∧((wM6 p2.1 p2.2.2.2.1)∧(wM1 s_10 v159))))))))))))))))))),(),(s_11,()))
def vD3 p0 p1 p2:=(uS7 p0 p1 p2).1
def rN3 p0 p1 p2:=(uS7 p0 p1 p2).2.1
def uX8 p0 p1 p2:=(uS7 p0 p1 p2).2.2
instance (p0 p1 p2):Decidable (vD3 p0 p1 p2):=by unfold vD3 uS7;dsimp only;infer_instance
theorem sL9:SK 150 (fnSpec [(0,(.box T183 (.agg (.cons (.int .i64) (.cons (.int .i64) (.cons (.int .i64) (.cons (.sl (.sl T123)) (.cons (.int .i64) .nl))))) (.cons vI (.cons vI (.cons vI (.cons (.own (.sl T123) 400000 false) (.cons vI .nl)))))))),(1,(.val T209)),(2,(.val T209))] (.tup .nl) [(0,(.box T183 (.agg (.cons (.int .i64) (.cons (.int .i64) (.cons (.int .i64) (.cons (.sl (.sl T123)) (.cons (.int .i64) .nl))))) (.cons vI (.cons vI (.cons vI (.cons (.own (.sl T123) 400000 false) (.cons vI .nl))))))))] (fun x=>vD3 x.1 x.2.1 x.2.2.1) (fun x=>rN3 x.1 x.2.1 x.2.2.1) (fun x=>uX8 x.1 x.2.1 x.2.2.1)):=fx (fun c=>{ c with wants:=[(147,[1])] }) Tryz.func150 161 [kb vL0,kb vS3,kb uX5,kb tM3,kb tZ1,kb sR2] [] [] true [0] [40,50,146,159]
def uS8 (p0:(Int×Int×Int×(List (List D123))×Int×Unit))(p1:D209)(p2:D209):Prop×(Unit)×((Int×Int×Int×(List (List D123))×Int×Unit)×Unit):=
 let v12:=(p0.2.2.1==1)
 let v20:=(f163 p1.1 p0.1)
 let s_1:=(p0.1,p0.2.1,p0.2.2.1,p0.2.2.2.1,p0.2.2.2.2.1,())
 let v21o:=(wM7 s_1 v20)
 let v29:=(f163 p2.2.1 v21o.1.1)
 let s_3:=(v21o.1.1,v21o.1.2.1,v21o.1.2.2.1,v21o.1.2.2.2.1,v21o.1.2.2.2.2.1,())
 let v30o:=(wM7 s_3 v29)
 let v32:=(p0.2.2.1==2)
 let v37:=(f149 p1.1 p1.2.2.2.2.1)
 let v57:=([(f148 v37 p1.2.2.2.1),(f148 p1.1 p1.2.2.2.1),(f149 p1.1 p1.2.2.2.1),(f149 v37 p1.2.2.2.1)]:List D123)
 let s_5:=(p0.1,p0.2.1,p0.2.2.1,p0.2.2.2.1,p0.2.2.2.2.1,())
 let v58o:=(wM7 s_5 v57)
 let v63:=(f148 p2.2.1 p2.2.2.2.2.1)
 let v83:=([(f148 p2.2.1 p2.2.2.2.1),(f148 v63 p2.2.2.2.1),(f149 v63 p2.2.2.2.1),(f149 p2.2.1 p2.2.2.2.1)]:List D123)
 let s_7:=(v58o.1.1,v58o.1.2.1,v58o.1.2.2.1,v58o.1.2.2.2.1,v58o.1.2.2.2.2.1,())
 let v84o:=(wM7 s_7 v83)
 let s_8:=((bif v12 then v30o.1.1 else (bif v32 then v84o.1.1 else p0.1)),(bif v12 then v30o.1.2.1 else (bif v32 then v84o.1.2.1 else p0.2.1)),(bif v12 then v30o.1.2.2.1 else (bif v32 then v84o.1.2.2.1 else p0.2.2.1)),(bif v12 then v30o.1.2.2.2.1 else (bif v32 then v84o.1.2.2.2.1 else p0.2.2.2.1)),(bif v12 then v30o.1.2.2.2.2.1 else (bif v32 then v84o.1.2.2.2.2.1 else p0.2.2.2.2.1)),())
 (((v12=true→((vX9 p1.1 p0.1)∧((wM1 s_1 v20)∧((vX9 p2.2.1 v21o.1.1)∧(wM1 s_3 v29)))))∧(v12=false→(v32=true→((wP5 p1.1 p1.2.2.2.2.1)∧((wM6 v37 p1.2.2.2.1)∧((wM6 p1.1 p1.2.2.2.1)∧((wP5 p1.1 p1.2.2.2.1)∧((wP5 v37 p1.2.2.2.1)∧((wM1 s_5 v57)∧((wM6 p2.2.1 p2.2.2.2.2.1)∧((wM6 p2.2.1 p2.2.2.2.1)∧((wM6 v63 p2.2.2.2.1)∧((wP5 v63 p2.2.2.2.1)∧((wP5 p2.2.1 p2.2.2.2.1)∧(wM1 s_7 v83))))))))))))))),(),(s_8,()))
def vS5 p0 p1 p2:=(uS8 p0 p1 p2).1
def rN4 p0 p1 p2:=(uS8 p0 p1 p2).2.1
def tT5 p0 p1 p2:=(uS8 p0 p1 p2).2.2
instance (p0 p1 p2):Decidable (vS5 p0 p1 p2):=by unfold vS5 uS8;dsimp only;infer_instance
theorem sM:SK 151 (fnSpec [(0,(.box T183 (.agg (.cons (.int .i64) (.cons (.int .i64) (.cons (.int .i64) (.cons (.sl (.sl T123)) (.cons (.int .i64) .nl))))) (.cons vI (.cons vI (.cons vI (.cons (.own (.sl T123) 400000 false) (.cons vI .nl)))))))),(1,(.val T209)),(2,(.val T209))] (.tup .nl) [(0,(.box T183 (.agg (.cons (.int .i64) (.cons (.int .i64) (.cons (.int .i64) (.cons (.sl (.sl T123)) (.cons (.int .i64) .nl))))) (.cons vI (.cons vI (.cons vI (.cons (.own (.sl T123) 400000 false) (.cons vI .nl))))))))] (fun x=>vS5 x.1 x.2.1 x.2.2.1) (fun x=>rN4 x.1 x.2.1 x.2.2.1) (fun x=>tT5 x.1 x.2.1 x.2.2.1)):=fx (fun c=>{ c with wants:=[(147,[1])] }) Tryz.func151 85 [kb vS3,kb uX5,kb tM3,kb tZ1] [] [] true [0] [57,83]
abbrev wU1:Type:=(Bool×(List D209)×(List D209)×Int×Unit)
abbrev wO2:Type:=((Int×Int×Int×(List (List D123))×Int×Unit)×Int×Unit)
def vG4 (y:wU1)(x:wO2):Prop×Bool×wO2:=
 let a32:=y.2.2.1
 let a0:=x.1
 let a34:=x.2.1
 let v35:=(decide (a34<y.2.2.2.1))
 let v36:=(nth a32 a34 Z209)
 let v59:=([(f148 v36.1 v36.2.2.2.1),(f148 v36.2.1 v36.2.2.2.1),(f149 v36.2.1 v36.2.2.2.1),(f149 v36.1 v36.2.2.2.1)]:List D123)
 let s_1:=(a0.1,a0.2.1,a0.2.2.1,a0.2.2.2.1,a0.2.2.2.2.1,())
 let v60o:=(wM7 s_1 v59)
 ((v35=true→(InB a34 (len a32)∧((wM6 v36.1 v36.2.2.2.1)∧((wM6 v36.2.1 v36.2.2.2.1)∧((wP5 v36.2.1 v36.2.2.2.1)∧((wP5 v36.1 v36.2.2.2.1)∧((wM1 s_1 v59)∧InR (a34+1)))))))),v35,((v60o.1.1,v60o.1.2.1,v60o.1.2.2.1,v60o.1.2.2.2.1,v60o.1.2.2.2.2.1,()),(a34+1),()))
def wV2 y x:=(vG4 y x).1
def vN8 y x:=(vG4 y x).2.1
def wZ1 y x:=(vG4 y x).2.2
instance (y x):Decidable (wV2 y x):=by unfold wV2 vG4;dsimp only;infer_instance
def vN9 (y:wU1)(x:wO2):(Int×Int×Int×(List (List D123))×Int×Unit):=
 let a0:=x.1
 (a0.1,a0.2.1,a0.2.2.1,a0.2.2.2.1,a0.2.2.2.2.1,())
def uC5:List (Nat×Sh):=[(0,(.box T183 (.agg (.cons (.int .i64) (.cons (.int .i64) (.cons (.int .i64) (.cons (.sl (.sl T123)) (.cons (.int .i64) .nl))))) (.cons vI (.cons vI (.cons vI (.cons (.own (.sl T123) 400000 false) (.cons vI .nl)))))))),(2,vB),(7,(.own T209 1007 false))]
def tM7:=li [(2,vB),(7,(.own T209 1007 false)),(32,(.own T209 1007 false)),(33,vI)] [(0,(.box T183 (.agg (.cons (.int .i64) (.cons (.int .i64) (.cons (.int .i64) (.cons (.sl (.sl T123)) (.cons (.int .i64) .nl))))) (.cons vI (.cons vI (.cons vI (.cons (.own (.sl T123) 400000 false) (.cons vI .nl)))))))),(34,vI)] vN8 wZ1 wV2 (fun y x=>[ex 2 none uC5 ((vN9 y x),y.1,y.2.1,())]) [uC5]
abbrev wR4:Type:=(Bool×(List D209)×Unit)
abbrev wN1:Type:=((Int×Int×Int×(List (List D123))×Int×Unit)×Int×Unit)
def vB1 (y:wR4)(x:wN1):Prop×Bool×wN1:=
 let a7:=y.2.1
 let a0:=x.1
 let a10:=x.2.1
 let v78:=(decide (a10<(len a7)))
 let v84:=(a10-1)
 let v85:=(nth a7 v84 Z209)
 let v89:=(nth a7 a10 Z209)
 let s_1:=(a0.1,a0.2.1,a0.2.2.1,a0.2.2.2.1,a0.2.2.2.2.1,())
 let v91o:=(uX8 s_1 v85 v89)
 ((v78=true→(InR (a10-1)∧(InB v84 (len a7)∧(InB a10 (len a7)∧((vD3 s_1 v85 v89)∧InR (a10+1)))))),v78,((v91o.1.1,v91o.1.2.1,v91o.1.2.2.1,v91o.1.2.2.2.1,v91o.1.2.2.2.2.1,()),(a10+1),()))
def wT8 y x:=(vB1 y x).1
def vG5 y x:=(vB1 y x).2.1
def wU5 y x:=(vB1 y x).2.2
instance (y x):Decidable (wT8 y x):=by unfold wT8 vB1;dsimp only;infer_instance
def vL (y:wR4)(x:wN1):(Int×Int×Int×(List (List D123))×Int×Unit):=
 let a0:=x.1
 (a0.1,a0.2.1,a0.2.2.1,a0.2.2.2.1,a0.2.2.2.2.1,())
def vV3:List (Nat×Sh):=[(0,(.box T183 (.agg (.cons (.int .i64) (.cons (.int .i64) (.cons (.int .i64) (.cons (.sl (.sl T123)) (.cons (.int .i64) .nl))))) (.cons vI (.cons vI (.cons vI (.cons (.own (.sl T123) 400000 false) (.cons vI .nl)))))))),(2,vB),(7,(.own T209 1007 false))]
def tF1:=li [(2,vB),(7,(.own T209 1007 false))] [(0,(.box T183 (.agg (.cons (.int .i64) (.cons (.int .i64) (.cons (.int .i64) (.cons (.sl (.sl T123)) (.cons (.int .i64) .nl))))) (.cons vI (.cons vI (.cons vI (.cons (.own (.sl T123) 400000 false) (.cons vI .nl)))))))),(10,vI)] vG5 wU5 wT8 (fun y x=>[ex 4 none vV3 ((vL y x),y.1,y.2.1,())]) [vV3]
def uS9 (p0:(Int×Int×Int×(List (List D123))×Int×Unit))(p1:List D123)(p2:Bool):Prop×(Unit)×((Int×Int×Int×(List (List D123))×Int×Unit)×Unit):=
 let v13:=(f144 p1 p2)
 let v20:=(f145 v13 p2 p0.1)
 let v23:=((len v20)==0)
 let v26:=((len v13)==1)
 let v29:=(nth v13 (0:Int) Z123)
 let s_1:=(p0.1,p0.2.1,p0.2.2.1,p0.2.2.2.1,p0.2.2.2.2.1,())
 let v31o:=(tT4 s_1 v29)
 let y6:=(p2,v20,v20,(len v20),())
 let x6:=((p0.1,p0.2.1,p0.2.2.1,p0.2.2.2.1,p0.2.2.2.2.1,()),(0:Int),())
 let r6_2_0:=(vN9 y6 (zD9 (vN8 y6) (wZ1 y6) x6))
 let v63:=(!p2)
 let v67:=(len v20)
 let v68:=(v67-1)
 let v69:=(nth v20 v68 Z209)
 let v72:=(nth v20 (0:Int) Z209)
 let s_4:=(r6_2_0.1,r6_2_0.2.1,r6_2_0.2.2.1,r6_2_0.2.2.2.1,r6_2_0.2.2.2.2.1,())
 let v74o:=(uX8 s_4 v69 v72)
 let s_5:=((bif v63 then v74o.1.1 else r6_2_0.1),(bif v63 then v74o.1.2.1 else r6_2_0.2.1),(bif v63 then v74o.1.2.2.1 else r6_2_0.2.2.1),(bif v63 then v74o.1.2.2.2.1 else r6_2_0.2.2.2.1),(bif v63 then v74o.1.2.2.2.2.1 else r6_2_0.2.2.2.2.1),())
 let y13:=(p2,v20,())
 let x13:=(s_5,(1:Int),())
 let r13_4_0:=(vL y13 (zD9 (vG5 y13) (wU5 y13) x13))
 let v95:=(nth v20 (0:Int) Z209)
 let v99:=(len v20)
 let v100:=(v99-1)
 let v101:=(nth v20 v100 Z209)
 let s_7:=(r13_4_0.1,r13_4_0.2.1,r13_4_0.2.2.1,r13_4_0.2.2.2.1,r13_4_0.2.2.2.2.1,())
 let v103o:=(tT5 s_7 v95 v101)
 let s_8:=((bif v23 then (bif v26 then v31o.1.1 else p0.1) else (bif p2 then v103o.1.1 else r13_4_0.1)),(bif v23 then (bif v26 then v31o.1.2.1 else p0.2.1) else (bif p2 then v103o.1.2.1 else r13_4_0.2.1)),(bif v23 then (bif v26 then v31o.1.2.2.1 else p0.2.2.1) else (bif p2 then v103o.1.2.2.1 else r13_4_0.2.2.1)),(bif v23 then (bif v26 then v31o.1.2.2.2.1 else p0.2.2.2.1) else (bif p2 then v103o.1.2.2.2.1 else r13_4_0.2.2.2.1)),(bif v23 then (bif v26 then v31o.1.2.2.2.2.1 else p0.2.2.2.2.1) else (bif p2 then v103o.1.2.2.2.2.1 else r13_4_0.2.2.2.2.1)),())
 (((tM2 p1 p2)∧((tM4 v13 p2 p0.1)∧((v23=true→(v26=true→(InB (0:Int) (len v13)∧(vS4 s_1 v29))))∧((!v23)=true→((wB6 (vN8 y6) (wZ1 y6) (wV2 y6) x6)∧((v63=true→(InR (v67-1)∧(InB v68 (len v20)∧(InB (0:Int) (len v20)∧(vD3 s_4 v69 v72)))))∧((wB6 (vG5 y13) (wU5 y13) (wT8 y13) x13)∧(p2=true→(InB (0:Int) (len v20)∧(InR (v99-1)∧(InB v100 (len v20)∧(vS5 s_7 v95 v101)))))))))))),(),(s_8,()))
def vS6 p0 p1 p2:=(uS9 p0 p1 p2).1
def rN5 p0 p1 p2:=(uS9 p0 p1 p2).2.1
def tT6 p0 p1 p2:=(uS9 p0 p1 p2).2.2
instance (p0 p1 p2):Decidable (vS6 p0 p1 p2):=by unfold vS6 uS9;dsimp only;infer_instance
theorem sM0:SK 133 (fnSpec [(0,(.box T183 (.agg (.cons (.int .i64) (.cons (.int .i64) (.cons (.int .i64) (.cons (.sl (.sl T123)) (.cons (.int .i64) .nl))))) (.cons vI (.cons vI (.cons vI (.cons (.own (.sl T123) 400000 false) (.cons vI .nl)))))))),(1,(.val (.sl T123))),(2,vB)] (.tup .nl) [(0,(.box T183 (.agg (.cons (.int .i64) (.cons (.int .i64) (.cons (.int .i64) (.cons (.sl (.sl T123)) (.cons (.int .i64) .nl))))) (.cons vI (.cons vI (.cons vI (.cons (.own (.sl T123) 400000 false) (.cons vI .nl))))))))] (fun x=>vS6 x.1 x.2.1 x.2.2.1) (fun x=>rN5 x.1 x.2.1 x.2.2.1) (fun x=>tT6 x.1 x.2.1 x.2.2.1)):=fx (fun c=>{ c with wants:=[(146,[]),(147,[1]),(150,[]),(151,[])] }) Tryz.func133 104 [kb rK9,kb rL8,kb sL8,kb vS3,kb uX5,kb tM3,kb sL9,kb sM] [(6,tM7),(13,tF1)] [(3,[(4,0,20,1007)])] false [0] [59]
abbrev wO9:Type:=((List Bool)×Unit×(List (List D123))×Int×Unit)
abbrev wM8:Type:=((Int×Int×Int×(List (List D123))×Int×Unit)×Int×Unit)
def vD4 (y:wO9)(x:wM8):Prop×Bool×wM8×Bool×Bool:=
 let a1:=y.1
 let a39:=y.2.2.1
 let a38:=x.1
 let a41:=x.2.1
 let v42:=(decide (a41<y.2.2.2.1))
 let v44:=(nth a39 a41 ([]:List D123))
 let v50:=(nth a1 a41 false)
 let s_1:=(a38.1,a38.2.1,a38.2.2.1,a38.2.2.2.1,a38.2.2.2.2.1,())
 let v52o:=(tT6 s_1 v44 v50)
 let v57:=(decide (v52o.1.2.2.2.2.1>4096))
 ((v42=true→(InB a41 (len a39)∧(InB a41 (len a1)∧((vS6 s_1 v44 v50)∧((!v57)=true→InR (a41+1)))))),(v42&&(!v57)),((v52o.1.1,v52o.1.2.1,v52o.1.2.2.1,v52o.1.2.2.2.1,v52o.1.2.2.2.2.1,()),(a41+1),()),(v42&&v57),(!v42))
def vG6 y x:=(vD4 y x).1
def uK1 y x:=(vD4 y x).2.1
def vG7 y x:=(vD4 y x).2.2.1
def uX9 y x:=(vD4 y x).2.2.2.1
def tZ2 y x:=(vD4 y x).2.2.2.2
instance (y x):Decidable (vG6 y x):=by unfold vG6 vD4;dsimp only;infer_instance
def uC6 (y:wO9)(x:wM8):(List (List D123)):=
 ([]:List (List D123))
def uC7 (y:wO9)(x:wM8):Int:=
 (3:Int)
def uY:List (Nat×Sh):=[(10,(.own (.sl T123) 0 false)),(11,vI)]
def uC8 (y:wO9)(x:wM8):(Int×Int×Int×(List (List D123))×Int×Unit):=
 let a38:=x.1
 (a38.1,a38.2.1,a38.2.2.1,a38.2.2.2.1,a38.2.2.2.2.1,())
def uY0:List (Nat×Sh):=[(14,(.ref 38 T183)),(38,(.box T183 (.agg (.cons (.int .i64) (.cons (.int .i64) (.cons (.int .i64) (.cons (.sl (.sl T123)) (.cons (.int .i64) .nl))))) (.cons vI (.cons vI (.cons vI (.cons (.own (.sl T123) 403800 false) (.cons vI .nl))))))))]
def tZ3:=li [(1,(.val (.sl .bool))),(14,(.ref 38 T183)),(39,(.val (.sl (.sl T123)))),(40,vI)] [(38,(.box T183 (.agg (.cons (.int .i64) (.cons (.int .i64) (.cons (.int .i64) (.cons (.sl (.sl T123)) (.cons (.int .i64) .nl))))) (.cons vI (.cons vI (.cons vI (.cons (.own (.sl T123) 403800 false) (.cons vI .nl)))))))),(41,vI)] uK1 vG7 vG6 (fun y x=>[ex 1 (some (uX9 y x)) uY ((uC6 y x),(uC7 y x),()),ex 2 (some (tZ2 y x)) uY0 (y.2.1,(uC8 y x),())]) [uY,uY0]
def rN6 (p0:(List (List D123)))(p1:List Bool)(p2:Int)(p3:Int)(p4:Int):Prop×((List (List D123))×Int×Unit):=
 let v20:=(f132 p2 p3 p4)
 let v22:=(v20 !=0)
 let v25:=(f116 p0 (0:Int))
 let v27:=(v25 !=0)
 let v33:=((len p1)!=(len p0))
 let y11:=(p1,(),p0,(len p0),())
 let x11:=((p2,p3,p4,([]:List (List D123)),(0:Int),()),(0:Int),())
 let e11:=(zD9 (uK1 y11) (vG7 y11) x11)
 let q11_1:=(uX9 y11 e11)
 (((tM1 p2 p3 p4)∧((!v22)=true→((vX6 p0 (0:Int))∧((!v27)=true→((!v33)=true→(wB6 (uK1 y11) (vG7 y11) (vG6 y11) x11)))))),((bif v22 then [] else (bif v27 then [] else (bif v33 then [] else (bif q11_1 then (uC6 y11 e11) else (uC8 y11 e11).2.2.2.1)))),(bif v22 then v20 else (bif v27 then v25 else (bif v33 then (15:Int) else (bif q11_1 then (uC7 y11 e11) else (0:Int))))),()))
def tM8 p0 p1 p2 p3 p4:=(rN6 p0 p1 p2 p3 p4).1
def f115 p0 p1 p2 p3 p4:=(rN6 p0 p1 p2 p3 p4).2
instance (p0 p1 p2 p3 p4):Decidable (tM8 p0 p1 p2 p3 p4):=by unfold tM8 rN6;dsimp only;infer_instance
theorem rN7:SK 115 (sp5 (.val (.sl (.sl T123))) (.val (.sl .bool)) vI vI vI (.tup (.cons (.own (.sl T123) 0 false) (.cons vI .nl))) tM8 f115):=fx (fun c=>{ c with wants:=[(133,[])] }) Tryz.func115 63 [kb tZ,kb rK7,kb sM0] [(11,tZ3)] [(35,[(4,0,403800,0)])]
def rN8 (p0:D80):Prop×Int:=
 let v15:=(f112 p0.2.2.2.2.2.2.2.2.2.2.2.2.2.2.2.2.2.2.1 p0.2.2.2.2.2.2.2.2.2.2.1)
 let v19:=(v15.2.1 !=0)
 let v28:=(bif (p0.2.2.2.2.2.2.2.2.2.2.2.2.2.2.2.2.2.2.2.1 !=0) then (p0.2.2.2.2.2.2.2.2.2.2.2.2.2.2.2.2.2.2.2.1 !=1) else false)
 let v41:=(bif (p0.2.2.2.2.2.2.2.2.2.2.2.2.2.2.2.2.2.2.2.2.1==0) then (bif (p0.2.2.2.2.2.2.2.2.2.2.2.2.2.2.2.2.2.2.2.2.2.1 !=0) then true else (p0.2.2.2.2.2.2.2.2.2.2.2.2.2.2.2.2.2.2.2.2.2.2.1 !=0)) else false)
 let v44:=(f113 v15.1)
 let v48:=(v44.2.1 !=0)
 let v54:=(p0.2.2.2.2.2.2.2.2.2.2.2.2.2.2.2.2.2.2.2.2.1 !=0)
 let v57:=(f114 v15.1)
 let v61:=(v57.2.1 !=0)
 let v72:=(f115 v44.1 v57.1 p0.2.2.2.2.2.2.2.2.2.2.2.2.2.2.2.2.2.2.2.2.1 p0.2.2.2.2.2.2.2.2.2.2.2.2.2.2.2.2.2.2.2.2.2.1 p0.2.2.2.2.2.2.2.2.2.2.2.2.2.2.2.2.2.2.2.2.2.2.1)
 let v76:=(v72.2.1 !=0)
 let m5_1:=(bif v54 then v72.1 else v44.1)
 let m6:=(bif v54 then (0:Int) else p0.2.2.2.2.2.2.2.2.2.2.2.2.2.2.2.2.2.2.2.1)
 let v80:=(f116 m5_1 m6)
 let v82:=(v80 !=0)
 let m2_4:=(bif v41 then (1:Int) else (bif v48 then v44.2.1 else (bif ((v61||((!v61)&&v76))&&v54) then (bif v61 then v57.2.1 else v72.2.1) else (bif v82 then v80 else (f98 p0.2.2.2.2.2.2.2.2.2.2.2.2.2.1)))))
 (((tL8 p0.2.2.2.2.2.2.2.2.2.2.2.2.2.2.2.2.2.2.1 p0.2.2.2.2.2.2.2.2.2.2.1)∧((!v19)=true→((!v28)=true→((!v41)=true→((uW2 v15.1)∧((!v48)=true→((v54=true→((tM0 v15.1)∧((!v61)=true→(tM8 v44.1 v57.1 p0.2.2.2.2.2.2.2.2.2.2.2.2.2.2.2.2.2.2.2.2.1 p0.2.2.2.2.2.2.2.2.2.2.2.2.2.2.2.2.2.2.2.2.2.1 p0.2.2.2.2.2.2.2.2.2.2.2.2.2.2.2.2.2.2.2.2.2.2.1))))∧((bif v54 then ((!v61)&&(!v76)) else true)=true→((vX6 m5_1 m6)∧((!v82)=true→(uV1 p0.2.2.2.2.2.2.2.2.2.2.2.2.2.1))))))))))),(bif v19 then v15.2.1 else (bif v28 then (8:Int) else m2_4)))
def tM9 p0:=(rN8 p0).1
def f100 p0:=(rN8 p0).2
instance (p0):Decidable (tM9 p0):=by unfold tM9 rN8;dsimp only;infer_instance
theorem rN9:SK 100 (sp1 (.val T80) vI tM9 f100):=fb Tryz.func100 87 [kb sQ2,kb rK0,kb sQ6,kb rK4,kb rN7,kb tZ] [] [(17,[(4,0,44,1005)]),(27,[(4,0,57,1007)]),(33,[(5,0,1005,0),(4,0,72,1005)])]
def rO (p0:Int)(p1:Int)(p2:Int):Prop×Bool:=
 (True,(bif (decide (p0≥p1)) then (decide (p0≤p2)) else false))
def wU6 p0 p1 p2:=(rO p0 p1 p2).1
def f153 p0 p1 p2:=(rO p0 p1 p2).2
instance (p0 p1 p2):Decidable (wU6 p0 p1 p2):=by unfold wU6 rO;dsimp only;infer_instance
theorem tZ4:SK 153 (sp3 vI vI vI vB wU6 f153):=fb Tryz.func153 15
abbrev wT:Type:=((List D126)×Int×Int×(List D123)×Unit)
abbrev wP:Type:=(Int×Unit)
def vD5 (y:wT)(x:wP):Prop×Bool×wP×Bool×Bool:=
 let a27:=x.1
 let v28:=(decide (a27<3))
 let v29:=(nth y.2.2.2.1 a27 Z123)
 let v33:=(!(f153 v29.1 (-65536:Int) (65536:Int)))
 let v39:=(bif v33 then true else (!(f153 v29.2.1 (-65536:Int) (65536:Int))))
 ((v28=true→(InB a27 3∧((wU6 v29.1 (-65536:Int) (65536:Int))∧(((!v33)=true→(wU6 v29.2.1 (-65536:Int) (65536:Int)))∧((!v39)=true→InR (a27+1)))))),(v28&&(!v39)),((a27+1),()),(v28&&v39),(!v28))
def vG8 y x:=(vD5 y x).1
def vS7 y x:=(vD5 y x).2.1
def wV3 y x:=(vD5 y x).2.2.1
def uY1 y x:=(vD5 y x).2.2.2.1
def uY2 y x:=(vD5 y x).2.2.2.2
instance (y x):Decidable (vG8 y x):=by unfold vG8 vD5;dsimp only;infer_instance
def uC9 (y:wT)(x:wP):Int:=
 (2:Int)
def uY3:List (Nat×Sh):=[(19,(.val (.sl T126))),(20,vI),(21,vI)]
def tZ5:=li [(19,(.val (.sl T126))),(20,vI),(21,vI),(26,(.val (.arr 3 T123)))] [(27,vI)] vS7 wV3 vG8 (fun y x=>[ex 1 (some (uY1 y x)) [(2,vI)] ((uC9 y x),()),ex 4 (some (uY2 y x)) uY3 (y.1,y.2.1,y.2.2.1,())]) [[(2,vI)],uY3]
abbrev wZ2:Type:=((List D126)×Int×Unit)
abbrev wR5:Type:=(Int×Unit)
def vS8 (y:wZ2)(x:wR5):Prop×Bool×wR5×Bool×Bool:=
 let a19:=y.1
 let a20:=y.2.1
 let a21:=x.1
 let v22:=(decide (a21<a20))
 let y10:=(a19,a20,a21,(nth a19 a21 Z126).2.1,())
 let x10:=((0:Int),())
 let e10:=(zD9 (vS7 y10) (wV3 y10) x10)
 let q10_4:=(uY2 y10 e10)
 ((v22=true→(InB a21 (len a19)∧((wB6 (vS7 y10) (wV3 y10) (vG8 y10) x10)∧(q10_4=true→InR (a21+1))))),(v22&&q10_4),((a21+1),()),(v22&&(uY1 y10 e10)),(!v22))
def vS9 y x:=(vS8 y x).1
def uY4 y x:=(vS8 y x).2.1
def vO y x:=(vS8 y x).2.2.1
def tG8 y x:=(vS8 y x).2.2.2.1
def sM1 y x:=(vS8 y x).2.2.2.2
instance (y x):Decidable (vS9 y x):=by unfold vS9 vS8;dsimp only;infer_instance
def uO3 (y:wZ2)(x:wR5):Int:=
 let a19:=y.1
 let a21:=x.1
 let y10:=(a19,y.2.1,a21,(nth a19 a21 Z126).2.1,())
 (uC9 y10 (zD9 (vS7 y10) (wV3 y10) ((0:Int),())))
def sM2:=li [(19,(.val (.sl T126))),(20,vI)] [(21,vI)] uY4 vO vS9 (fun y x=>[ex 1 (some (tG8 y x)) [(2,vI)] ((uO3 y x),()),ex 2 (some (sM1 y x)) [] ()]) [[(2,vI)],[]]
def rO0 (p0:D196):Prop×Int:=
 let v11:=(!(f153 p0.2.1 (0:Int) (65536:Int)))
 let v14:=(f127 p0.2.2.1)
 let v16:=(v14 !=0)
 let y7:=(p0.2.2.1,(len p0.2.2.1),())
 let x7:=((0:Int),())
 let e7:=(zD9 (uY4 y7) (vO y7) x7)
 (((wU6 p0.2.1 (0:Int) (65536:Int))∧((!v11)=true→((vX5 p0.2.2.1)∧((!v16)=true→(wB6 (uY4 y7) (vO y7) (vS9 y7) x7))))),(bif v11 then (2:Int) else (bif v16 then v14 else (bif (tG8 y7 e7) then (uO3 y7 e7) else (0:Int)))))
def tN p0:=(rO0 p0).1
def f167 p0:=(rO0 p0).2
instance (p0):Decidable (tN p0):=by unfold tN rO0;dsimp only;infer_instance
theorem rO1:SK 167 (sp1 (.val T196) vI tN f167):=fb Tryz.func167 42 [kb tL6,kb tZ4] [(7,sM2),(10,tZ5)]
def rO2 (p0:D201)(p1:D201):Prop×Bool:=
 (True,(bif (decide (p0.1>p1.1)) then true else (bif (p0.1==p1.1) then (decide (p0.2.1>p1.2.1)) else false)))
def tN0 p0 p1:=(rO2 p0 p1).1
def f168 p0 p1:=(rO2 p0 p1).2
instance (p0 p1):Decidable (tN0 p0 p1):=by unfold tN0 rO2;dsimp only;infer_instance
theorem rO3:SK 168 (sp2 (.val T201) (.val T201) vB tN0 f168):=fb Tryz.func168 24
abbrev wZ3:Type:=(D167×(List D196)×Int×Unit)
abbrev wR6:Type:=(Int×Unit)
def vT (y:wZ3)(x:wR6):Prop×Bool×wR6×Bool×Bool:=
 let a1:=y.1
 let a35:=y.2.1
 let a37:=x.1
 let v38:=(decide (a37<y.2.2.1))
 let v40:=(nth a35 a37 Z196)
 let v43:=(decide (a37>0))
 let v50:=(a37-1)
 let v55:=(bif v43 then (decide (v40.1≤(nth a1.2.2.2.1 v50 Z196).1)) else false)
 let v59:=((f167 v40)!=0)
 let c_2:=((!v55)&&(!v59))
 ((v38=true→(InB a37 (len a35)∧((v43=true→InR (a37-1))∧((v43=true→InB v50 (len a1.2.2.2.1))∧(((!v55)=true→(tN v40))∧(c_2=true→InR (a37+1))))))),(v38&&c_2),((a37+1),()),(v38&&(v55||((!v55)&&v59))),(!v38))
def vT0 y x:=(vT y x).1
def uY5 y x:=(vT y x).2.1
def vO0 y x:=(vT y x).2.2.1
def tG9 y x:=(vT y x).2.2.2.1
def tH y x:=(vT y x).2.2.2.2
instance (y x):Decidable (vT0 y x):=by unfold vT0 vT;dsimp only;infer_instance
def uO4 (y:wZ3)(x:wR6):Int:=
 let a37:=x.1
 let v40:=(nth y.2.1 a37 Z196)
 (bif (bif (decide (a37>0)) then (decide (v40.1≤(nth y.1.2.2.2.1 (a37-1) Z196).1)) else false) then (24:Int) else (f167 v40))
def sM3:=li [(1,(.box T167 (.val T167))),(35,(.val (.sl T196))),(36,vI)] [(37,vI)] uY5 vO0 vT0 (fun y x=>[ex 1 (some (tG9 y x)) [(2,vI)] ((uO4 y x),()),ex 2 (some (tH y x)) [(1,(.box T167 (.val T167)))] (y.1,())]) [[(2,vI)],[(1,(.box T167 (.val T167)))]]
abbrev wT0:Type:=(D167×(List D201)×Int×Unit)
abbrev wP0:Type:=(Int×Unit)
def vD6 (y:wT0)(x:wP0):Prop×Bool×wP0×Bool×Bool:=
 let a1:=y.1
 let a63:=y.2.1
 let a65:=x.1
 let v66:=(decide (a65<y.2.2.1))
 let v68:=(nth a63 a65 Z201)
 let v71:=(decide (a65>0))
 let v77:=(a65-1)
 let v78:=(nth a1.2.2.2.2.1 v77 Z201)
 let v82:=(bif v71 then (!(f168 v68 v78)) else false)
 let v86:=(!(f153 v68.2.2.1 (-65536:Int) (65536:Int)))
 let c_2:=((!v82)&&(!v86))
 ((v66=true→(InB a65 (len a63)∧((v71=true→InR (a65-1))∧((v71=true→InB v77 (len a1.2.2.2.2.1))∧((v71=true→(tN0 v68 v78))∧(((!v82)=true→(wU6 v68.2.2.1 (-65536:Int) (65536:Int)))∧(c_2=true→InR (a65+1)))))))),(v66&&c_2),((a65+1),()),(v66&&(v82||((!v82)&&v86))),(!v66))
def vG9 y x:=(vD6 y x).1
def uK2 y x:=(vD6 y x).2.1
def vH y x:=(vD6 y x).2.2.1
def uY6 y x:=(vD6 y x).2.2.2.1
def tZ6 y x:=(vD6 y x).2.2.2.2
instance (y x):Decidable (vG9 y x):=by unfold vG9 vD6;dsimp only;infer_instance
def uD (y:wT0)(x:wP0):Int:=
 let a65:=x.1
 (bif (bif (decide (a65>0)) then (!(f168 (nth y.2.1 a65 Z201) (nth y.1.2.2.2.2.1 (a65-1) Z201))) else false) then (24:Int) else (2:Int))
def tZ7:=li [(1,(.box T167 (.val T167))),(63,(.val (.sl T201))),(64,vI)] [(65,vI)] uK2 vH vG9 (fun y x=>[ex 1 (some (uY6 y x)) [(2,vI)] ((uD y x),()),ex 4 (some (tZ6 y x)) [] ()]) [[(2,vI)],[]]
def rO4 (p0:D167):Prop×Int:=
 let v11:=(!(f153 p0.1 (1:Int) (65536:Int)))
 let v17:=(bif v11 then true else (!(f153 p0.2.1 (0:Int) (65536:Int))))
 let v23:=(bif v17 then true else (!(f153 p0.2.2.1 (0:Int) (65536:Int))))
 let v33:=(bif (decide ((len p0.2.2.2.1)>256)) then true else (decide ((len p0.2.2.2.2.1)>256)))
 let y6:=(p0,p0.2.2.2.1,(len p0.2.2.2.1),())
 let x6:=((0:Int),())
 let e6:=(zD9 (uY5 y6) (vO0 y6) x6)
 let y15:=(p0,p0.2.2.2.2.1,(len p0.2.2.2.2.1),())
 let x15:=((0:Int),())
 let e15:=(zD9 (uK2 y15) (vH y15) x15)
 (((wU6 p0.1 (1:Int) (65536:Int))∧(((!v11)=true→(wU6 p0.2.1 (0:Int) (65536:Int)))∧(((!v17)=true→(wU6 p0.2.2.1 (0:Int) (65536:Int)))∧((!v23)=true→((!v33)=true→((wB6 (uY5 y6) (vO0 y6) (vT0 y6) x6)∧((tH y6 e6)=true→(wB6 (uK2 y15) (vH y15) (vG9 y15) x15)))))))),(bif v23 then (2:Int) else (bif v33 then (3:Int) else (bif (tG9 y6 e6) then (uO4 y6 e6) else (bif (uY6 y15 e15) then (uD y15 e15) else (0:Int))))))
def tN1 p0:=(rO4 p0).1
def f152 p0:=(rO4 p0).2
instance (p0):Decidable (tN1 p0):=by unfold tN1 rO4;dsimp only;infer_instance
theorem rO5:SK 152 (sp1 (.val T167) vI tN1 f152):=fb Tryz.func152 88 [kb tZ4,kb rO1,kb rO3] [(6,sM3),(15,tZ7)]
abbrev wZ4:Type:=((List UInt8)×Int×Int×Int×Unit)
abbrev wR7:Type:=(Int×Unit)
def vT1 (y:wZ4)(x:wR7):Prop×Bool×wR7×Bool×Bool:=
 let a1:=y.1
 let a18:=x.1
 let v19:=(decide (a18<y.2.2.2.1))
 let v24:=(decide ((wK5 a1 a18)<32))
 let v30:=(bif v24 then true else (decide ((wK5 a1 a18)>126)))
 let v36:=(bif v30 then ((wK5 a1 a18)!=10) else false)
 ((v19=true→(InB a18 (len a1)∧(((!v24)=true→InB a18 (len a1))∧((v30=true→InB a18 (len a1))∧((!v36)=true→InR (a18+1)))))),(v19&&(!v36)),((a18+1),()),(v19&&v36),(!v19))
def vT2 y x:=(vT1 y x).1
def uY7 y x:=(vT1 y x).2.1
def vO1 y x:=(vT1 y x).2.2.1
def tH0 y x:=(vT1 y x).2.2.2.1
def tH1 y x:=(vT1 y x).2.2.2.2
instance (y x):Decidable (vT2 y x):=by unfold vT2 vT1;dsimp only;infer_instance
def uO5 (y:wZ4)(x:wR7):Int:=
 (4:Int)
def sM4:=li [(1,vS),(2,vI),(3,vI),(17,vI)] [(18,vI)] uY7 vO1 vT2 (fun y x=>[ex 1 (some (tH0 y x)) [(8,vI)] ((uO5 y x),()),ex 2 (some (tH1 y x)) [(1,vS),(2,vI),(3,vI)] (y.1,y.2.1,y.2.2.1,())]) [[(8,vI)],[(1,vS),(2,vI),(3,vI)]]
def rO6 (p0:D167)(p1:List UInt8)(p2:Int)(p3:Int):Prop×Int:=
 let v12:=(f152 p0)
 let v14:=(v12 !=0)
 let y5:=(p1,p2,p3,(len p1),())
 let x5:=((0:Int),())
 let e5:=(zD9 (uY7 y5) (vO1 y5) x5)
 let v40:=(decide ((len p1)>128))
 let v43:=(!(f153 p2 (1:Int) (1048576:Int)))
 let m8_3:=(bif v14 then v12 else (bif (tH0 y5 e5) then (uO5 y5 e5) else (bif v40 then (3:Int) else (bif (bif v43 then true else (!(f153 p3 (0:Int) (1048576:Int)))) then (2:Int) else (0:Int)))))
 (((tN1 p0)∧((!v14)=true→((wB6 (uY7 y5) (vO1 y5) (vT2 y5) x5)∧((tH1 y5 e5)=true→((!v40)=true→((wU6 p2 (1:Int) (1048576:Int))∧((!v43)=true→(wU6 p3 (0:Int) (1048576:Int))))))))),m8_3)
def tN2 p0 p1 p2 p3:=(rO6 p0 p1 p2 p3).1
def f134 p0 p1 p2 p3:=(rO6 p0 p1 p2 p3).2
instance (p0 p1 p2 p3):Decidable (tN2 p0 p1 p2 p3):=by unfold tN2 rO6;dsimp only;infer_instance
theorem rO7:SK 134 (sp4 (.val T167) vS vI vI vI tN2 f134):=fb Tryz.func134 49 [kb rO5,kb tZ4] [(5,sM4)]
abbrev vO2:Type:=(D167×Unit×(D167×(List Int)×Unit)×(List D196)×Int×Unit)
abbrev wZ5:Type:=(Int×Int×Unit)
def uT (y:vO2)(x:wZ5):Prop×Bool×wZ5:=
 let a14:=y.2.2.2.1
 let a16:=x.2.1
 let v17:=(decide (a16<y.2.2.2.2.1))
 ((v17=true→(InB a16 (len a14)∧InR (a16+1))),v17,((bif ((nth a14 a16 Z196).1==63) then a16 else x.1),(a16+1),()))
def vT3 y x:=(uT y x).1
def uY8 y x:=(uT y x).2.1
def vO3 y x:=(uT y x).2.2
instance (y x):Decidable (vT3 y x):=by unfold vT3 uT;dsimp only;infer_instance
def uO6 (y:vO2)(x:wZ5):Int:=
 x.1
def tH2:List (Nat×Sh):=[(1,(.box T167 (.val T167))),(3,(.ref 12 T217)),(4,vI),(12,(.box T217 (.agg (.cons T167 (.cons (.arr 256 (.int .i64)) .nl)) (.cons (.val T167) (.cons (.val (.arr 256 (.int .i64))) .nl)))))]
def sM5:=li [(1,(.box T167 (.val T167))),(3,(.ref 12 T217)),(12,(.box T217 (.agg (.cons T167 (.cons (.arr 256 (.int .i64)) .nl)) (.cons (.val T167) (.cons (.val (.arr 256 (.int .i64))) .nl))))),(14,(.val (.sl T196))),(15,vI)] [(4,vI),(16,vI)] uY8 vO3 vT3 (fun y x=>[ex 2 none tH2 (y.1,y.2.1,(uO6 y x),y.2.2.1,())]) [tH2]
abbrev vD7:Type:=(D167×Unit×Int×Unit)
abbrev wT1:Type:=((D167×(List Int)×Unit)×Int×Unit)
def uD0 (y:vD7)(x:wT1):Prop×Bool×wT1:=
 let a12:=x.1
 let a26:=x.2.1
 let v27:=(decide (a26<256))
 ((v27=true→(InB a26 256∧InR (a26+1))),v27,((a12.1,(List.set a12.2.1 (Int.toNat a26) y.2.2.1),()),(a26+1),()))
def vH0 y x:=(uD0 y x).1
def uK3 y x:=(uD0 y x).2.1
def vH1 y x:=(uD0 y x).2.2
instance (y x):Decidable (vH0 y x):=by unfold vH0 uD0;dsimp only;infer_instance
def uD1 (y:vD7)(x:wT1):(D167×(List Int)×Unit):=
 let a12:=x.1
 (a12.1,a12.2.1,())
def uY9:List (Nat×Sh):=[(1,(.box T167 (.val T167))),(3,(.ref 12 T217)),(12,(.box T217 (.agg (.cons T167 (.cons (.arr 256 (.int .i64)) .nl)) (.cons (.val T167) (.cons (.val (.arr 256 (.int .i64))) .nl)))))]
def tZ8:=li [(1,(.box T167 (.val T167))),(3,(.ref 12 T217)),(4,vI)] [(12,(.box T217 (.agg (.cons T167 (.cons (.arr 256 (.int .i64)) .nl)) (.cons (.val T167) (.cons (.val (.arr 256 (.int .i64))) .nl))))),(26,vI)] uK3 vH1 vH0 (fun y x=>[ex 4 none uY9 (y.1,y.2.1,(uD1 y x),())]) [uY9]
abbrev vD8:Type:=(Unit×(List D196)×Int×Unit)
abbrev wT2:Type:=((D167×(List Int)×Unit)×Int×Unit)
def uD2 (y:vD8)(x:wT2):Prop×Bool×wT2:=
 let a37:=y.2.1
 let a12:=x.1
 let a39:=x.2.1
 let v40:=(decide (a39<y.2.2.1))
 let v42:=(nth a37 a39 Z196)
 ((v40=true→(InB a39 (len a37)∧(InB v42.1 256∧InR (a39+1)))),v40,((a12.1,(List.set a12.2.1 (Int.toNat v42.1) a39),()),(a39+1),()))
def vH2 y x:=(uD2 y x).1
def uK4 y x:=(uD2 y x).2.1
def vH3 y x:=(uD2 y x).2.2
instance (y x):Decidable (vH2 y x):=by unfold vH2 uD2;dsimp only;infer_instance
def uD3 (y:vD8)(x:wT2):(D167×(List Int)×Unit):=
 let a12:=x.1
 (a12.1,a12.2.1,())
def uZ:List (Nat×Sh):=[(3,(.ref 12 T217)),(12,(.box T217 (.agg (.cons T167 (.cons (.arr 256 (.int .i64)) .nl)) (.cons (.val T167) (.cons (.val (.arr 256 (.int .i64))) .nl)))))]
def tZ9:=li [(3,(.ref 12 T217)),(37,(.val (.sl T196))),(38,vI)] [(12,(.box T217 (.agg (.cons T167 (.cons (.arr 256 (.int .i64)) .nl)) (.cons (.val T167) (.cons (.val (.arr 256 (.int .i64))) .nl))))),(39,vI)] uK4 vH3 vH2 (fun y x=>[ex 6 none uZ (y.1,(uD3 y x),())]) [uZ]
def rO8 (p0:D167):Prop×D217:=
 let y4:=(p0,(),(p0,(List.replicate 256 (0:Int)),()),p0.2.2.2.1,(len p0.2.2.2.1),())
 let x4:=((-1:Int),(0:Int),())
 let y10:=(p0,(),(uO6 y4 (zD9 (uY8 y4) (vO3 y4) x4)),())
 let x10:=((p0,(List.replicate 256 (0:Int)),()),(0:Int),())
 let r10_4_0:=(uD1 y10 (zD9 (uK3 y10) (vH1 y10) x10))
 let y15:=((),p0.2.2.2.1,(len p0.2.2.2.1),())
 let x15:=((r10_4_0.1,r10_4_0.2.1,()),(0:Int),())
 let r15_6_0:=(uD3 y15 (zD9 (uK4 y15) (vH3 y15) x15))
 (((wB6 (uY8 y4) (vO3 y4) (vT3 y4) x4)∧((wB6 (uK3 y10) (vH1 y10) (vH0 y10) x10)∧(wB6 (uK4 y15) (vH3 y15) (vH2 y15) x15))),(r15_6_0.1,r15_6_0.2.1,()))
def tN3 p0:=(rO8 p0).1
def f135 p0:=(rO8 p0).2
instance (p0):Decidable (tN3 p0):=by unfold tN3 rO8;dsimp only;infer_instance
theorem rO9:SK 135 (sp1 (.val T167) (.val (.ptr T217)) tN3 f135):=fb Tryz.func135 53 [] [(4,sM5),(10,tZ8),(15,tZ9)] [(39,[(3,12,0,0)])]
end Go.Proofs.YtmmpcldfjocfmaaGreatDoor.Am
