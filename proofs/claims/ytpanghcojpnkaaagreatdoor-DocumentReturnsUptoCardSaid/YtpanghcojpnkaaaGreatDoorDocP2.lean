/- Printed by program, part 2. No condition. -/
import Derived.Test.YtpanghcojpnkaaaGreatDoorDocL
set_option linter.unusedVariables false
set_option synthInstance.maxSize 4000
set_option synthInstance.maxHeartbeats 400000
namespace Go.Proofs.YtpanghcojpnkaaaGreatDoor.Am
open Go Go.Am Go.Proofs
def sY2 (p0:D49)(p1:Int):Prop×Bool:=
 (True,(p0.1==p1))
def uD5 (p0:D49)(p1:Int):Prop:=(sY2 p0 p1).1
def pU2 (p0:D49)(p1:Int):Bool:=(sY2 p0 p1).2
instance (p0:D49)(p1:Int):Decidable (uD5 p0 p1):=by
 unfold uD5 sY2
 try dsimp only
 infer_instance
def tD0:Am.Spec:=fnSpec [(0,(.val T49)),(1,(.val (.ptr (.int .i64))))] vB [] (fun x=>uD5 x.1 x.2.1) (fun x=>pU2 x.1 x.2.1) (fun _=>())
def rW:Ctx:=Cx tys [] [] [] false 8 [] []
theorem rW0:CtxOk Tryz.prog rW:=xW4 xY7 rfl trivial rfl (by kernel_rfl)
theorem qC9:SpecOk Tryz.prog 22 tD0:=xY3 rW0 mixed Tryz.func22 (by kernel_rfl) (bs:=[]) (by kernel_rfl) trivial fun x=>by kernel_rfl
abbrev wG5:Type:=((List D49)×(Int×Unit)×Int×Unit)
abbrev wD:Type:=(Int×Unit)
def wW6 (y:wG5)(x:wD):Prop×Bool×wD×Bool×Bool:=
 let a0:=y.1
 let a1:=y.2.1
 let a8:=x.1
 let v9:=(decide (a8<y.2.2.1))
 let v14:=(nth a0 a8 Z49)
 let v16:=(pU2 v14 a1.1)
 ((v9=true→(InB a8 (len a0)∧((uD5 v14 a1.1)∧((!v16)=true→InR (a8+1))))),(v9&&(!v16)),((a8+1),()),(v9&&v16),(!v9))
def wM7 (y:wG5)(x:wD):Prop:=(wW6 y x).1
def wA4 (y:wG5)(x:wD):Bool:=(wW6 y x).2.1
def xZ (y:wG5)(x:wD):wD:=(wW6 y x).2.2.1
def wM8 (y:wG5)(x:wD):Bool:=(wW6 y x).2.2.2.1
def sL (y:wG5)(x:wD):Bool:=(wW6 y x).2.2.2.2
instance (y:wG5)(x:wD):Decidable (wM7 y x):=by
 unfold wM7 wW6
 try dsimp only
 infer_instance
def wK (y:wG5)(x:wD):Int:=
 x.1
def vY5:St→Option Out:=xP5 [(0,(.val (.sl T49))),(1,(.fn 22 (.cons (.val (.ptr (.int .i64))) .nl))),(7,vI)] [(8,vI)] wA4 xZ wM7 fun y x=>[ex 1 (some (wM8 y x)) [(4,vI)] ((wK y x),()),ex 2 (some (sL y x)) [] ()]
def sY3 (p0:List D49)(p1:(Int×Unit)):Prop×Int:=
 let y2:=(p0,(p1.1,()),(len p0),())
 let x2:=((0:Int),())
 let e2:=(zC1 (wA4 y2) (xZ y2) x2)
 ((Am.Ends (wA4 y2) (xZ y2) (wM7 y2) x2),(bif (wM8 y2 e2) then (wK y2 e2) else (-1:Int)))
def uD6 (p0:List D49)(p1:(Int×Unit)):Prop:=(sY3 p0 p1).1
def pU3 (p0:List D49)(p1:(Int×Unit)):Int:=(sY3 p0 p1).2
instance (p0:List D49)(p1:(Int×Unit)):Decidable (uD6 p0 p1):=by
 unfold uD6 sY3
 try dsimp only
 infer_instance
def tD1:Am.Spec:=fnSpec [(0,(.val (.sl T49))),(1,(.fn 22 (.cons (.val (.ptr (.int .i64))) .nl)))] vI [] (fun x=>uD6 x.1 x.2.1) (fun x=>pU3 x.1 x.2.1) (fun _=>())
def tU4:Ctx:=Cx tys [(22,tD0)] [(2,vY5)] [] false 19 [] []
theorem tU5:CtxOk Tryz.prog tU4:=xW4 xY7 rfl ⟨qC9,trivial⟩ rfl (by kernel_rfl)
noncomputable def sY4:Code:=Tryz.f21.body.getD .skip
noncomputable def sL0:Code:=xX3 sY4 0
theorem sL1:yU9 Tryz.prog tU4 sL0:=xY2 tU5 mixed (sp:=vY5) rfl [[(4,vI)],[]] (bs:=[]) (by kernel_rfl) trivial (by kernel_rfl) (by kernel_rfl) fun y x=>by kernel_rfl
theorem qD:SpecOk Tryz.prog 21 tD1:=xY3 tU5 mixed Tryz.func21 (by kernel_rfl) (bs:=[sL0]) (by kernel_rfl) ⟨sL1,trivial⟩ fun x=>by kernel_rfl
def f8t (p0:D28)(p1:Int):Prop×Int:=
 let s:=(p1,())
 ((uD6 p0.2.2.2.1 s),(pU3 p0.2.2.2.1 s))
def vY3 (p0:D28)(p1:Int):Prop:=(f8t p0 p1).1
def f8 (p0:D28)(p1:Int):Int:=(f8t p0 p1).2
instance (p0:D28)(p1:Int):Decidable (vY3 p0 p1):=by
 unfold vY3 f8t
 try dsimp only
 infer_instance
def vJ5:Am.Spec:=fnSpec [(0,(.val T28)),(1,vI)] vI [] (fun x=>vY3 x.1 x.2.1) (fun x=>f8 x.1 x.2.1) (fun _=>())
def nB8:Ctx:=Cx tys [(21,tD1)] [] [(2,[(3,3,0,0)])] false 9 [] []
theorem nB9:CtxOk Tryz.prog nB8:=xW4 xY7 rfl ⟨qD,trivial⟩ rfl (by kernel_rfl)
theorem sL2:SpecOk Tryz.prog 8 vJ5:=xY3 nB9 mixed Tryz.func8 (by kernel_rfl) (bs:=[]) (by kernel_rfl) trivial fun x=>by kernel_rfl
def f51t :Prop×Int:=
 (True,(4:Int))
def sL3 :Prop:=(f51t).1
def f51 :Int:=(f51t).2
instance :Decidable (sL3):=by
 unfold sL3 f51t
 try dsimp only
 infer_instance
def rJ3:Am.Spec:=fnSpec [] vI [] (fun x=>sL3 ) (fun x=>f51 ) (fun _=>())
def oC1:Ctx:=Cx tys [] [] [] false 1 [] []
theorem oC2:CtxOk Tryz.prog oC1:=xW4 xY7 rfl trivial rfl (by kernel_rfl)
theorem nC:SpecOk Tryz.prog 51 rJ3:=xY3 oC2 mixed Tryz.func51 (by kernel_rfl) (bs:=[]) (by kernel_rfl) trivial fun x=>by kernel_rfl
def f23t (p0:D28):Prop×Int:=
 let v20:=(bif (bif (bif (decide (p0.1<1)) then true else (decide (p0.1>256))) then true else (decide (p0.2.1<1))) then true else (decide (p0.2.1>256)))
 let v23:=(decide (p0.2.2.1<0))
 (((!v20)=true→((!v23)=true→sL3)),(bif v20 then (15:Int) else (bif (bif v23 then true else (decide (p0.2.2.1≥f51))) then (2:Int) else (0:Int))))
def tD2 (p0:D28):Prop:=(f23t p0).1
def f23 (p0:D28):Int:=(f23t p0).2
instance (p0:D28):Decidable (tD2 p0):=by
 unfold tD2 f23t
 try dsimp only
 infer_instance
def sC0:Am.Spec:=fnSpec [(0,(.val T28))] vI [] (fun x=>tD2 x.1) (fun x=>f23 x.1) (fun _=>())
def oC3:Ctx:=Cx tys [(51,rJ3)] [] [] false 30 [] []
theorem oC4:CtxOk Tryz.prog oC3:=xW4 xY7 rfl ⟨nC,trivial⟩ rfl (by kernel_rfl)
theorem pU4:SpecOk Tryz.prog 23 sC0:=xY3 oC4 mixed Tryz.func23 (by kernel_rfl) (bs:=[]) (by kernel_rfl) trivial fun x=>by kernel_rfl
def f61t (p0:Int):Prop×Bool:=
 (True,(bif (decide (p0≥0)) then (decide (p0≤65535)) else false))
def sL4 (p0:Int):Prop:=(f61t p0).1
def f61 (p0:Int):Bool:=(f61t p0).2
instance (p0:Int):Decidable (sL4 p0):=by
 unfold sL4 f61t
 try dsimp only
 infer_instance
def rJ4:Am.Spec:=fnSpec [(0,vI)] vB [] (fun x=>sL4 x.1) (fun x=>f61 x.1) (fun _=>())
def oC5:Ctx:=Cx tys [] [] [] false 9 [] []
theorem oC6:CtxOk Tryz.prog oC5:=xW4 xY7 rfl trivial rfl (by kernel_rfl)
theorem nC0:SpecOk Tryz.prog 61 rJ4:=xY3 oC6 mixed Tryz.func61 (by kernel_rfl) (bs:=[]) (by kernel_rfl) trivial fun x=>by kernel_rfl
abbrev vB2:Type:=((List Int)×Int×Unit)
abbrev wQ1:Type:=(Int×Unit)
def uM7 (y:vB2)(x:wQ1):Prop×Bool×wQ1×Bool×Bool:=
 let a42:=y.1
 let a44:=x.1
 let v45:=(decide (a44<y.2.1))
 let v46:=(nth a42 a44 (0:Int))
 let v50:=(!(f61 v46))
 ((v45=true→(InB a44 (len a42)∧((sL4 v46)∧((!v50)=true→InR (a44+1))))),(v45&&(!v50)),((a44+1),()),(v45&&v50),(!v45))
def uD7 (y:vB2)(x:wQ1):Prop:=(uM7 y x).1
def sC1 (y:vB2)(x:wQ1):Bool:=(uM7 y x).2.1
def uA2 (y:vB2)(x:wQ1):wQ1:=(uM7 y x).2.2.1
def sL5 (y:vB2)(x:wQ1):Bool:=(uM7 y x).2.2.2.1
def qD0 (y:vB2)(x:wQ1):Bool:=(uM7 y x).2.2.2.2
instance (y:vB2)(x:wQ1):Decidable (uD7 y x):=by
 unfold uD7 uM7
 try dsimp only
 infer_instance
def tD3 (y:vB2)(x:wQ1):Int:=
 (2:Int)
def tD4:St→Option Out:=xP5 [(42,(.val (.sl (.int .i64)))),(43,vI)] [(44,vI)] sC1 uA2 uD7 fun y x=>[ex 1 (some (sL5 y x)) [(2,vI)] ((tD3 y x),()),ex 2 (some (qD0 y x)) [] ()]
def f29t (p0:D24):Prop×Int:=
 let v22:=(bif (bif (bif (decide (p0.1<0)) then true else (decide (p0.1>256))) then true else (decide (p0.2.1<0))) then true else (decide (p0.2.1>256)))
 let v29:=(!(Ty.eqb .bool (p0.1==0) (p0.2.1==0)))
 let v40:=(bif v29 then true else ((len p0.2.2.1)!=(p0.1*p0.2.1)))
 let y6:=(p0.2.2.1,(len p0.2.2.1),())
 let x6:=((0:Int),())
 let e6:=(zC1 (sC1 y6) (uA2 y6) x6)
 (((!v22)=true→(((!v29)=true→InR (p0.1*p0.2.1))∧((!v40)=true→(Am.Ends (sC1 y6) (uA2 y6) (uD7 y6) x6)))),(bif v22 then (15:Int) else (bif v40 then (15:Int) else (bif (sL5 y6 e6) then (tD3 y6 e6) else (0:Int)))))
def tU6 (p0:D24):Prop:=(f29t p0).1
def f29 (p0:D24):Int:=(f29t p0).2
instance (p0:D24):Decidable (tU6 p0):=by
 unfold tU6 f29t
 try dsimp only
 infer_instance
def sC2:Am.Spec:=fnSpec [(0,(.val T24))] vI [] (fun x=>tU6 x.1) (fun x=>f29 x.1) (fun _=>())
def qD1:Ctx:=Cx tys [(61,rJ4)] [(6,tD4)] [] false 52 [] []
theorem qD2:CtxOk Tryz.prog qD1:=xW4 xY7 rfl ⟨nC0,trivial⟩ rfl (by kernel_rfl)
noncomputable def pA0:Code:=Tryz.f29.body.getD .skip
noncomputable def pU5:Code:=xX3 pA0 0
theorem qD3:yU9 Tryz.prog qD1 pU5:=xY2 qD2 mixed (sp:=tD4) rfl [[(2,vI)],[]] (bs:=[]) (by kernel_rfl) trivial (by kernel_rfl) (by kernel_rfl) fun y x=>by kernel_rfl
theorem pU6:SpecOk Tryz.prog 29 sC2:=xY3 qD2 mixed Tryz.func29 (by kernel_rfl) (bs:=[pU5]) (by kernel_rfl) ⟨qD3,trivial⟩ fun x=>by kernel_rfl
def f54t (p0:D49):Prop×Bool:=
 (True,(bif (bif (p0.2.1==7) then true else (p0.2.1==8)) then true else (p0.2.1==11)))
def tD5 (p0:D49):Prop:=(f54t p0).1
def f54 (p0:D49):Bool:=(f54t p0).2
instance (p0:D49):Decidable (tD5 p0):=by
 unfold tD5 f54t
 try dsimp only
 infer_instance
def uZ2:Am.Spec:=fnSpec [(0,(.val T49))] vB [] (fun x=>tD5 x.1) (fun x=>f54 x.1) (fun _=>())
def oC7:Ctx:=Cx tys [] [] [] false 16 [] []
theorem oC8:CtxOk Tryz.prog oC7:=xW4 xY7 rfl trivial rfl (by kernel_rfl)
theorem qD4:SpecOk Tryz.prog 54 uZ2:=xY3 oC8 mixed Tryz.func54 (by kernel_rfl) (bs:=[]) (by kernel_rfl) trivial fun x=>by kernel_rfl
def oC9 (p0:Int):Prop×(List UInt8):=
 let v5:=(p0==1)
 let v7:=(p0==2)
 let v9:=(p0==3)
 let v11:=(p0==4)
 let v13:=(p0==5)
 let v15:=(p0==6)
 let v17:=(p0==7)
 let v19:=(p0==8)
 let v21:=(p0==9)
 let v23:=(p0==10)
 let m2_2:=(bif v19 then ([102,105,108,116,101,114]:List UInt8) else (bif v21 then ([108,105,110,107]:List UInt8) else (bif v23 then ([99,108,111,110,101]:List UInt8) else ([119,97,114,112]:List UInt8))))
 let m2_6:=(bif v11 then ([103,114,97,100,105,101,110,116]:List UInt8) else (bif v13 then ([112,97,116,104]:List UInt8) else (bif v15 then ([116,101,120,116]:List UInt8) else (bif v17 then ([97,100,106,117,115,116]:List UInt8) else m2_2))))
 let c_14:=(bif v9 then true else (bif v11 then true else (bif v13 then true else (bif v15 then true else (bif v17 then true else (bif v19 then true else (bif v21 then true else (bif v23 then true else (p0==11)))))))))
 let m2_10:=(bif (bif v5 then true else (bif v7 then true else c_14)) then (bif v5 then ([103,114,111,117,112]:List UInt8) else (bif v7 then ([105,109,97,103,101]:List UInt8) else (bif v9 then ([102,105,108,108]:List UInt8) else m2_6))) else ([]:List UInt8))
 (True,m2_10)
def tD6 (p0:Int):Prop:=(oC9 p0).1
def f102 (p0:Int):List UInt8:=(oC9 p0).2
instance (p0:Int):Decidable (tD6 p0):=by
 unfold tD6 oC9
 try dsimp only
 infer_instance
def sL6:Am.Spec:=fnSpec [(0,vI)] vS [] (fun x=>tD6 x.1) (fun x=>f102 x.1) (fun _=>())
def pA1:Ctx:=Cx tys [] [] [] false 26 [] []
theorem pA2:CtxOk Tryz.prog pA1:=xW4 xY7 rfl trivial rfl (by kernel_rfl)
theorem oD:SpecOk Tryz.prog 102 sL6:=xY3 pA2 mixed Tryz.func102 (by kernel_rfl) (bs:=[]) (by kernel_rfl) trivial fun x=>by kernel_rfl
abbrev wR7:Type:=((List UInt8)×Int×Unit)
abbrev wK0:Type:=(Int×Unit)
def vT2 (y:wR7)(x:wK0):Prop×Bool×wK0×Bool×Bool:=
 let a0:=y.1
 let a14:=x.1
 let v15:=(decide (a14<y.2.1))
 let v20:=(decide ((xX6 a0 a14)<33))
 let v26:=(bif v20 then true else (decide ((xX6 a0 a14)>126)))
 ((v15=true→(InB a14 (len a0)∧(((!v20)=true→InB a14 (len a0))∧((!v26)=true→InR (a14+1))))),(v15&&(!v26)),((a14+1),()),(v15&&v26),(!v15))
def vT3 (y:wR7)(x:wK0):Prop:=(vT2 y x).1
def tD7 (y:wR7)(x:wK0):Bool:=(vT2 y x).2.1
def vN0 (y:wR7)(x:wK0):wK0:=(vT2 y x).2.2.1
def tU7 (y:wR7)(x:wK0):Bool:=(vT2 y x).2.2.2.1
def rW1 (y:wR7)(x:wK0):Bool:=(vT2 y x).2.2.2.2
instance (y:wR7)(x:wK0):Decidable (vT3 y x):=by
 unfold vT3 vT2
 try dsimp only
 infer_instance
def uR4 (y:wR7)(x:wK0):Bool:=
 false
def uR5:St→Option Out:=xP5 [(0,vS),(13,vI)] [(14,vI)] tD7 vN0 vT3 fun y x=>[ex 1 (some (tU7 y x)) [(2,vB)] ((uR4 y x),()),ex 2 (some (rW1 y x)) [] ()]
def oD0 (p0:List UInt8):Prop×Bool:=
 let v11:=(bif (decide ((len p0)<1)) then true else (decide ((len p0)>32)))
 let y4:=(p0,(len p0),())
 let x4:=((0:Int),())
 let e4:=(zC1 (tD7 y4) (vN0 y4) x4)
 (((!v11)=true→(Am.Ends (tD7 y4) (vN0 y4) (vT3 y4) x4)),(bif v11 then false else (bif (tU7 y4 e4) then (uR4 y4 e4) else true)))
def tD8 (p0:List UInt8):Prop:=(oD0 p0).1
def f103 (p0:List UInt8):Bool:=(oD0 p0).2
instance (p0:List UInt8):Decidable (tD8 p0):=by
 unfold tD8 oD0
 try dsimp only
 infer_instance
def sL7:Am.Spec:=fnSpec [(0,vS)] vB [] (fun x=>tD8 x.1) (fun x=>f103 x.1) (fun _=>())
def rJ5:Ctx:=Cx tys [] [(4,uR5)] [] false 28 [] []
theorem rJ6:CtxOk Tryz.prog rJ5:=xW4 xY7 rfl trivial rfl (by kernel_rfl)
noncomputable def qD5:Code:=Tryz.f103.body.getD .skip
noncomputable def qD6:Code:=xX3 qD5 0
theorem rW2:yU9 Tryz.prog rJ5 qD6:=xY2 rJ6 mixed (sp:=uR5) rfl [[(2,vB)],[]] (bs:=[]) (by kernel_rfl) trivial (by kernel_rfl) (by kernel_rfl) fun y x=>by kernel_rfl
theorem oD1:SpecOk Tryz.prog 103 sL7:=xY3 rJ6 mixed Tryz.func103 (by kernel_rfl) (bs:=[qD6]) (by kernel_rfl) ⟨rW2,trivial⟩ fun x=>by kernel_rfl
def oD2 (p0:Int):Prop×Bool:=
 (True,(bif (decide (p0≥0)) then (decide (p0≤1073741824)) else false))
def uM8 (p0:Int):Prop:=(oD2 p0).1
def f104 (p0:Int):Bool:=(oD2 p0).2
instance (p0:Int):Decidable (uM8 p0):=by
 unfold uM8 oD2
 try dsimp only
 infer_instance
def sL8:Am.Spec:=fnSpec [(0,vI)] vB [] (fun x=>uM8 x.1) (fun x=>f104 x.1) (fun _=>())
def pA3:Ctx:=Cx tys [] [] [] false 9 [] []
theorem pA4:CtxOk Tryz.prog pA3:=xW4 xY7 rfl trivial rfl (by kernel_rfl)
theorem oD3:SpecOk Tryz.prog 104 sL8:=xY3 pA4 mixed Tryz.func104 (by kernel_rfl) (bs:=[]) (by kernel_rfl) trivial fun x=>by kernel_rfl
def oD4 (p0:Int):Prop×Bool:=
 (True,(bif (decide (p0≥0)) then (decide (p0≤65535)) else false))
def tD9 (p0:Int):Prop:=(oD4 p0).1
def f105 (p0:Int):Bool:=(oD4 p0).2
instance (p0:Int):Decidable (tD9 p0):=by
 unfold tD9 oD4
 try dsimp only
 infer_instance
def sL9:Am.Spec:=fnSpec [(0,vI)] vB [] (fun x=>tD9 x.1) (fun x=>f105 x.1) (fun _=>())
def pA5:Ctx:=Cx tys [] [] [] false 9 [] []
theorem pA6:CtxOk Tryz.prog pA5:=xW4 xY7 rfl trivial rfl (by kernel_rfl)
theorem oD5:SpecOk Tryz.prog 105 sL9:=xY3 pA6 mixed Tryz.func105 (by kernel_rfl) (bs:=[]) (by kernel_rfl) trivial fun x=>by kernel_rfl
def oD6 (p0:Int):Prop×Bool:=
 (True,(bif (decide (p0≥0)) then (decide (p0<18)) else false))
def tE (p0:Int):Prop:=(oD6 p0).1
def f106 (p0:Int):Bool:=(oD6 p0).2
instance (p0:Int):Decidable (tE p0):=by
 unfold tE oD6
 try dsimp only
 infer_instance
def sM:Am.Spec:=fnSpec [(0,vI)] vB [] (fun x=>tE x.1) (fun x=>f106 x.1) (fun _=>())
def pA7:Ctx:=Cx tys [] [] [] false 9 [] []
theorem pA8:CtxOk Tryz.prog pA7:=xW4 xY7 rfl trivial rfl (by kernel_rfl)
theorem oD7:SpecOk Tryz.prog 106 sM:=xY3 pA8 mixed Tryz.func106 (by kernel_rfl) (bs:=[]) (by kernel_rfl) trivial fun x=>by kernel_rfl
def f75t (p0:D49)(p1:Int)(p2:Int):Prop×Int:=
 let v21:=(bif (bif (bif (decide (p1<1)) then true else (decide (p1>256))) then true else (decide (p2<1))) then true else (decide (p2>256)))
 let v25:=((f102 p0.2.1)==([]:List UInt8))
 let v29:=(!(f103 p0.2.2.2.1))
 let v33:=(!(f104 p0.1))
 let v39:=(bif v33 then true else (!(f104 p0.2.2.1)))
 let v45:=(bif v39 then true else (!(f105 p0.2.2.2.2.2.2.2.1)))
 let v49:=(!(f106 p0.2.2.2.2.2.2.2.2.1))
 let v58:=(bif v49 then true else (bif (f54 p0) then (p0.2.2.2.2.2.2.2.2.1 !=0) else false))
 let v61:=(f29 p0.2.2.2.2.2.2.2.2.2.1)
 let m6_1:=(bif (v61 !=0) then v61 else (bif (bif (p0.2.2.2.2.2.2.2.2.2.1.1 !=0) then (bif (p0.2.2.2.2.2.2.2.2.2.1.1 !=p1) then true else (p0.2.2.2.2.2.2.2.2.2.1.2.1 !=p2)) else false) then (15:Int) else (0:Int)))
 (((!v21)=true→((tD6 p0.2.1)∧((!v25)=true→((tD8 p0.2.2.2.1)∧((!v29)=true→((uM8 p0.1)∧(((!v33)=true→(uM8 p0.2.2.1))∧(((!v39)=true→(tD9 p0.2.2.2.2.2.2.2.1))∧((!v45)=true→((tE p0.2.2.2.2.2.2.2.2.1)∧(((!v49)=true→(tD5 p0))∧((!v58)=true→(tU6 p0.2.2.2.2.2.2.2.2.2.1))))))))))))),(bif v21 then (15:Int) else (bif v25 then (8:Int) else (bif v29 then (13:Int) else (bif v45 then (2:Int) else (bif v58 then (8:Int) else m6_1))))))
def sM0 (p0:D49)(p1:Int)(p2:Int):Prop:=(f75t p0 p1 p2).1
def f75 (p0:D49)(p1:Int)(p2:Int):Int:=(f75t p0 p1 p2).2
instance (p0:D49)(p1:Int)(p2:Int):Decidable (sM0 p0 p1 p2):=by
 unfold sM0 f75t
 try dsimp only
 infer_instance
def rJ7:Am.Spec:=fnSpec [(0,(.val T49)),(1,vI),(2,vI)] vI [] (fun x=>sM0 x.1 x.2.1 x.2.2.1) (fun x=>f75 x.1 x.2.1 x.2.2.1) (fun _=>())
def oD8:Ctx:=Cx tys [(29,sC2),(54,uZ2),(102,sL6),(103,sL7),(104,sL8),(105,sL9),(106,sM)] [] [] false 83 [] []
theorem oD9:CtxOk Tryz.prog oD8:=xW4 xY7 rfl ⟨pU6,qD4,oD,oD1,oD3,oD5,oD7,trivial⟩ rfl (by kernel_rfl)
theorem nC1:SpecOk Tryz.prog 75 rJ7:=xY3 oD9 mixed Tryz.func75 (by kernel_rfl) (bs:=[]) (by kernel_rfl) trivial fun x=>by kernel_rfl
def f76t (p0:Int):Prop×Bool:=
 let v5:=(p0==2)
 let v6:=(p0==5)
 let v7:=(p0==6)
 let v8:=(p0==9)
 (True,(bif (bif v5 then v5 else (bif v6 then v6 else (bif v7 then v7 else (bif v8 then v8 else (p0==10))))) then true else false))
def tU8 (p0:Int):Prop:=(f76t p0).1
def f76 (p0:Int):Bool:=(f76t p0).2
instance (p0:Int):Decidable (tU8 p0):=by
 unfold tU8 f76t
 try dsimp only
 infer_instance
def sC3:Am.Spec:=fnSpec [(0,vI)] vB [] (fun x=>tU8 x.1) (fun x=>f76 x.1) (fun _=>())
def oE:Ctx:=Cx tys [] [] [] false 10 [] []
theorem oE0:CtxOk Tryz.prog oE:=xW4 xY7 rfl trivial rfl (by kernel_rfl)
theorem pU7:SpecOk Tryz.prog 76 sC3:=xY3 oE0 mixed Tryz.func76 (by kernel_rfl) (bs:=[]) (by kernel_rfl) trivial fun x=>by kernel_rfl
def oE1 (p0:Int)(p1:Int)(p2:Int):Prop×Int:=
 (True,(xX0 p2 (xX p0 p1)))
def uA3 (p0:Int)(p1:Int)(p2:Int):Prop:=(oE1 p0 p1 p2).1
def f138 (p0:Int)(p1:Int)(p2:Int):Int:=(oE1 p0 p1 p2).2
instance (p0:Int)(p1:Int)(p2:Int):Decidable (uA3 p0 p1 p2):=by
 unfold uA3 oE1
 try dsimp only
 infer_instance
def uD8:Am.Spec:=fnSpec [(0,vI),(1,vI),(2,vI)] vI [] (fun x=>uA3 x.1 x.2.1 x.2.2.1) (fun x=>f138 x.1 x.2.1 x.2.2.1) (fun _=>())
def pA9:Ctx:=Cx tys [] [] [] true 12 [] []
theorem pB0:CtxOk Tryz.prog pA9:=xW4 xY7 rfl trivial rfl (by kernel_rfl)
theorem sY5:SpecOk Tryz.prog 138 uD8:=xY3 pB0 mixed Tryz.func138 (by kernel_rfl) (bs:=[]) (by kernel_rfl) trivial fun x=>by kernel_rfl
def oE2 (p0:Int):Prop×Int:=
 ((uA3 p0 (-16777216:Int) (16777216:Int)),(f138 p0 (-16777216:Int) (16777216:Int)))
def vN1 (p0:Int):Prop:=(oE2 p0).1
def f120 (p0:Int):Int:=(oE2 p0).2
instance (p0:Int):Decidable (vN1 p0):=by
 unfold vN1 oE2
 try dsimp only
 infer_instance
def sM1:Am.Spec:=fnSpec [(0,vI)] vI [] (fun x=>vN1 x.1) (fun x=>f120 x.1) (fun _=>())
def pB1:Ctx:=Cx tys [(138,uD8)] [] [] false 5 [] []
theorem pB2:CtxOk Tryz.prog pB1:=xW4 xY7 rfl ⟨sY5,trivial⟩ rfl (by kernel_rfl)
theorem oE3:SpecOk Tryz.prog 120 sM1:=xY3 pB2 mixed Tryz.func120 (by kernel_rfl) (bs:=[]) (by kernel_rfl) trivial fun x=>by kernel_rfl
def oE4 (p0:Int):Prop×Int:=
 ((uA3 p0 (-1099511627776:Int) (1099511627776:Int)),(f138 p0 (-1099511627776:Int) (1099511627776:Int)))
def vE0 (p0:Int):Prop:=(oE4 p0).1
def f121 (p0:Int):Int:=(oE4 p0).2
instance (p0:Int):Decidable (vE0 p0):=by
 unfold vE0 oE4
 try dsimp only
 infer_instance
def tE0:Am.Spec:=fnSpec [(0,vI)] vI [] (fun x=>vE0 x.1) (fun x=>f121 x.1) (fun _=>())
def pB3:Ctx:=Cx tys [(138,uD8)] [] [] true 5 [] []
theorem pB4:CtxOk Tryz.prog pB3:=xW4 xY7 rfl ⟨sY5,trivial⟩ rfl (by kernel_rfl)
theorem qD7:SpecOk Tryz.prog 121 tE0:=xY3 pB4 mixed Tryz.func121 (by kernel_rfl) (bs:=[]) (by kernel_rfl) trivial fun x=>by kernel_rfl
def oE5 (p0:D37):Prop×D37:=
 (((vN1 p0.1)∧((vN1 p0.2.1)∧((vN1 p0.2.2.1)∧((vN1 p0.2.2.2.1)∧((vE0 p0.2.2.2.2.1)∧(vE0 p0.2.2.2.2.2.1)))))),((f120 p0.1),(f120 p0.2.1),(f120 p0.2.2.1),(f120 p0.2.2.2.1),(f121 p0.2.2.2.2.1),(f121 p0.2.2.2.2.2.1),()))
def uM9 (p0:D37):Prop:=(oE5 p0).1
def f107 (p0:D37):D37:=(oE5 p0).2
instance (p0:D37):Decidable (uM9 p0):=by
 unfold uM9 oE5
 try dsimp only
 infer_instance
def tE1:Am.Spec:=fnSpec [(0,(.val T37))] (.val T37) [] (fun x=>uM9 x.1) (fun x=>f107 x.1) (fun _=>())
def pB5:Ctx:=Cx tys [(120,sM1),(121,tE0)] [] [] true 22 [] []
theorem pB6:CtxOk Tryz.prog pB5:=xW4 xY7 rfl ⟨oE3,qD7,trivial⟩ rfl (by kernel_rfl)
theorem qD8:SpecOk Tryz.prog 107 tE1:=xY3 pB6 mixed Tryz.func107 (by kernel_rfl) (bs:=[]) (by kernel_rfl) trivial fun x=>by kernel_rfl
def f77t (p0:D37):Prop×Int:=
 ((uM9 p0),(bif (!(Ty.eqb T37 p0 (f107 p0))) then (2:Int) else (0:Int)))
def vY6 (p0:D37):Prop:=(f77t p0).1
def f77 (p0:D37):Int:=(f77t p0).2
instance (p0:D37):Decidable (vY6 p0):=by
 unfold vY6 f77t
 try dsimp only
 infer_instance
def uD9:Am.Spec:=fnSpec [(0,(.val T37))] vI [] (fun x=>vY6 x.1) (fun x=>f77 x.1) (fun _=>())
def oE6:Ctx:=Cx tys [(107,tE1)] [] [] false 7 [] []
theorem oE7:CtxOk Tryz.prog oE6:=xW4 xY7 rfl ⟨qD8,trivial⟩ rfl (by kernel_rfl)
theorem rJ8:SpecOk Tryz.prog 77 uD9:=xY3 oE7 mixed Tryz.func77 (by kernel_rfl) (bs:=[]) (by kernel_rfl) trivial fun x=>by kernel_rfl
def oE8 (p0:Int)(p1:Int)(p2:Int)(p3:Int):Prop×Int:=
 let v12:=(f122 p1 (65536:Int))
 let v14:=(f122 p3 (65536:Int))
 let v34:=(IntKind.wrap .i64 ((IntKind.wrap .i64 (p0*(IntKind.wrap .i64 (p1-(IntKind.wrap .i64 (v12*65536))))))+(IntKind.wrap .i64 (p2*(IntKind.wrap .i64 (p3-(IntKind.wrap .i64 (v14*65536))))))))
 (((uA1 p1 (65536:Int))∧((uA1 p3 (65536:Int))∧(wA9 v34 (65536:Int)))),(IntKind.wrap .i64 ((IntKind.wrap .i64 ((IntKind.wrap .i64 (p0*v12))+(IntKind.wrap .i64 (p2*v14))))+(f108 v34 (65536:Int)))))
def vN2 (p0:Int)(p1:Int)(p2:Int)(p3:Int):Prop:=(oE8 p0 p1 p2 p3).1
def f109 (p0:Int)(p1:Int)(p2:Int)(p3:Int):Int:=(oE8 p0 p1 p2 p3).2
instance (p0:Int)(p1:Int)(p2:Int)(p3:Int):Decidable (vN2 p0 p1 p2 p3):=by
 unfold vN2 oE8
 try dsimp only
 infer_instance
def tE2:Am.Spec:=fnSpec [(0,vI),(1,vI),(2,vI),(3,vI)] vI [] (fun x=>vN2 x.1 x.2.1 x.2.2.1 x.2.2.2.1) (fun x=>f109 x.1 x.2.1 x.2.2.1 x.2.2.2.1) (fun _=>())
def pB7:Ctx:=Cx tys [(108,wF3),(122,tC6)] [] [] true 37 [] []
theorem pB8:CtxOk Tryz.prog pB7:=xW4 xY7 rfl ⟨wY6,qC0,trivial⟩ rfl (by kernel_rfl)
theorem qD9:SpecOk Tryz.prog 109 tE2:=xY3 pB8 mixed Tryz.func109 (by kernel_rfl) (bs:=[]) (by kernel_rfl) trivial fun x=>by kernel_rfl
def f78t (p0:D37):Prop×(D37×Int×Unit):=
 let v8:=(f77 p0)
 let v10:=(v8 !=0)
 let v23:=(IntKind.wrap .i64 ((IntKind.wrap .i64 (p0.1*p0.2.2.2.1))-(IntKind.wrap .i64 (p0.2.1*p0.2.2.1))))
 let v25:=(v23==0)
 let v29:=(IntKind.wrap .i64 (p0.2.2.2.1*4294967296))
 let v31:=(f108 v29 v23)
 let v35:=(IntKind.wrap .i64 ((IntKind.wrap .i64 (Int.sub 0 p0.2.1))*4294967296))
 let v37:=(f108 v35 v23)
 let v41:=(IntKind.wrap .i64 ((IntKind.wrap .i64 (Int.sub 0 p0.2.2.1))*4294967296))
 let v43:=(f108 v41 v23)
 let v46:=(IntKind.wrap .i64 (p0.1*4294967296))
 let v48:=(f108 v46 v23)
 let s_2:=(v31,v37,v43,v48,(0:Int),(0:Int),())
 let v52:=((f77 s_2)!=0)
 let v56:=(IntKind.wrap .i64 (Int.sub 0 v31))
 let v61:=(IntKind.wrap .i64 (Int.sub 0 v43))
 let v68:=(IntKind.wrap .i64 (Int.sub 0 v37))
 let v73:=(IntKind.wrap .i64 (Int.sub 0 v48))
 let s_5:=(v31,v37,v43,v48,(f109 v56 p0.2.2.2.2.1 v61 p0.2.2.2.2.2.1),(f109 v68 p0.2.2.2.2.1 v73 p0.2.2.2.2.2.1),())
 let v80:=((f77 s_5)!=0)
 let m2_2:=(bif v25 then ((0:Int),(0:Int),(0:Int),(0:Int),(0:Int),(0:Int),()) else (bif v52 then ((0:Int),(0:Int),(0:Int),(0:Int),(0:Int),(0:Int),()) else (bif v80 then ((0:Int),(0:Int),(0:Int),(0:Int),(0:Int),(0:Int),()) else s_5)))
 (((vY6 p0)∧((!v10)=true→((!v25)=true→((wA9 v29 v23)∧((wA9 v35 v23)∧((wA9 v41 v23)∧((wA9 v46 v23)∧((vY6 s_2)∧((!v52)=true→((vN2 v56 p0.2.2.2.2.1 v61 p0.2.2.2.2.2.1)∧((vN2 v68 p0.2.2.2.2.1 v73 p0.2.2.2.2.2.1)∧(vY6 s_5)))))))))))),((bif v10 then ((0:Int),(0:Int),(0:Int),(0:Int),(0:Int),(0:Int),()) else m2_2),(bif v10 then v8 else (bif v25 then (17:Int) else (bif v52 then (17:Int) else (bif v80 then (17:Int) else (0:Int))))),()))
def sM2 (p0:D37):Prop:=(f78t p0).1
def f78 (p0:D37):(D37×Int×Unit):=(f78t p0).2
instance (p0:D37):Decidable (sM2 p0):=by
 unfold sM2 f78t
 try dsimp only
 infer_instance
def rJ9:Am.Spec:=fnSpec [(0,(.val T37))] (.tup (.cons (.val T37) (.cons vI .nl))) [] (fun x=>sM2 x.1) (fun x=>f78 x.1) (fun _=>())
def oE9:Ctx:=Cx tys [(77,uD9),(108,wF3),(109,tE2)] [] [] true 83 [] []
theorem oF:CtxOk Tryz.prog oE9:=xW4 xY7 rfl ⟨rJ8,wY6,qD9,trivial⟩ rfl (by kernel_rfl)
theorem nC2:SpecOk Tryz.prog 78 rJ9:=xY3 oF mixed Tryz.func78 (by kernel_rfl) (bs:=[]) (by kernel_rfl) trivial fun x=>by kernel_rfl
def f79t (p0:Int):Prop×Bool:=
 let v5:=(p0==2)
 let v6:=(p0==9)
 let v7:=(p0==10)
 (True,(bif (bif v5 then v5 else (bif v6 then v6 else (bif v7 then v7 else (p0==11)))) then true else false))
def tU9 (p0:Int):Prop:=(f79t p0).1
def f79 (p0:Int):Bool:=(f79t p0).2
instance (p0:Int):Decidable (tU9 p0):=by
 unfold tU9 f79t
 try dsimp only
 infer_instance
def sC4:Am.Spec:=fnSpec [(0,vI)] vB [] (fun x=>tU9 x.1) (fun x=>f79 x.1) (fun _=>())
def oF0:Ctx:=Cx tys [] [] [] false 9 [] []
theorem oF1:CtxOk Tryz.prog oF0:=xW4 xY7 rfl trivial rfl (by kernel_rfl)
theorem pU8:SpecOk Tryz.prog 79 sC4:=xY3 oF1 mixed Tryz.func79 (by kernel_rfl) (bs:=[]) (by kernel_rfl) trivial fun x=>by kernel_rfl
def f80t (p0:Int):Prop×Bool:=
 (True,(bif (decide (p0≥0)) then (decide (p0≤4)) else false))
def sM3 (p0:Int):Prop:=(f80t p0).1
def f80 (p0:Int):Bool:=(f80t p0).2
instance (p0:Int):Decidable (sM3 p0):=by
 unfold sM3 f80t
 try dsimp only
 infer_instance
def rK:Am.Spec:=fnSpec [(0,vI)] vB [] (fun x=>sM3 x.1) (fun x=>f80 x.1) (fun _=>())
def oF2:Ctx:=Cx tys [] [] [] false 9 [] []
theorem oF3:CtxOk Tryz.prog oF2:=xW4 xY7 rfl trivial rfl (by kernel_rfl)
theorem nC3:SpecOk Tryz.prog 80 rK:=xY3 oF3 mixed Tryz.func80 (by kernel_rfl) (bs:=[]) (by kernel_rfl) trivial fun x=>by kernel_rfl
def f84t (p0:Int)(p1:Int):Prop×Bool:=
 (True,(bif (bif (bif (bif (decide (p0≥0)) then (decide (p0≤256)) else false) then (decide (p1≥0)) else false) then (decide (p1≤256)) else false) then (Ty.eqb .bool (p0==0) (p1==0)) else false))
def sM4 (p0:Int)(p1:Int):Prop:=(f84t p0 p1).1
def f84 (p0:Int)(p1:Int):Bool:=(f84t p0 p1).2
instance (p0:Int)(p1:Int):Decidable (sM4 p0 p1):=by
 unfold sM4 f84t
 try dsimp only
 infer_instance
def rK0:Am.Spec:=fnSpec [(0,vI),(1,vI)] vB [] (fun x=>sM4 x.1 x.2.1) (fun x=>f84 x.1 x.2.1) (fun _=>())
def oF4:Ctx:=Cx tys [] [] [] false 26 [] []
theorem oF5:CtxOk Tryz.prog oF4:=xW4 xY7 rfl trivial rfl (by kernel_rfl)
theorem nC4:SpecOk Tryz.prog 84 rK0:=xY3 oF5 mixed Tryz.func84 (by kernel_rfl) (bs:=[]) (by kernel_rfl) trivial fun x=>by kernel_rfl
def oF6 (p0:Int):Prop×Int:=
 ((uA3 p0 (0:Int) (65535:Int)),(f138 p0 (0:Int) (65535:Int)))
def vN3 (p0:Int):Prop:=(oF6 p0).1
def f137 (p0:Int):Int:=(oF6 p0).2
instance (p0:Int):Decidable (vN3 p0):=by
 unfold vN3 oF6
 try dsimp only
 infer_instance
def sM5:Am.Spec:=fnSpec [(0,vI)] vI [] (fun x=>vN3 x.1) (fun x=>f137 x.1) (fun _=>())
def pB9:Ctx:=Cx tys [(138,uD8)] [] [] false 5 [] []
theorem pC0:CtxOk Tryz.prog pB9:=xW4 xY7 rfl ⟨sY5,trivial⟩ rfl (by kernel_rfl)
theorem oF7:SpecOk Tryz.prog 137 sM5:=xY3 pC0 mixed Tryz.func137 (by kernel_rfl) (bs:=[]) (by kernel_rfl) trivial fun x=>by kernel_rfl
def oF8 (p0:D42):Prop×D42:=
 (((vN3 p0.1)∧((vN3 p0.2.1)∧((vN3 p0.2.2.1)∧(vN3 p0.2.2.2.1)))),((f137 p0.1),(f137 p0.2.1),(f137 p0.2.2.1),(f137 p0.2.2.2.1),()))
def tE3 (p0:D42):Prop:=(oF8 p0).1
def f117 (p0:D42):D42:=(oF8 p0).2
instance (p0:D42):Decidable (tE3 p0):=by
 unfold tE3 oF8
 try dsimp only
 infer_instance
def sM6:Am.Spec:=fnSpec [(0,(.val T42))] (.val T42) [] (fun x=>tE3 x.1) (fun x=>f117 x.1) (fun _=>())
def pC1:Ctx:=Cx tys [(137,sM5)] [] [] false 16 [] []
theorem pC2:CtxOk Tryz.prog pC1:=xW4 xY7 rfl ⟨oF7,trivial⟩ rfl (by kernel_rfl)
theorem oF9:SpecOk Tryz.prog 117 sM6:=xY3 pC2 mixed Tryz.func117 (by kernel_rfl) (bs:=[]) (by kernel_rfl) trivial fun x=>by kernel_rfl
def f85t (p0:D42):Prop×Bool:=
 ((tE3 p0),(Ty.eqb T42 p0 (f117 p0)))
def uR6 (p0:D42):Prop:=(f85t p0).1
def f85 (p0:D42):Bool:=(f85t p0).2
instance (p0:D42):Decidable (uR6 p0):=by
 unfold uR6 f85t
 try dsimp only
 infer_instance
def uE:Am.Spec:=fnSpec [(0,(.val T42))] vB [] (fun x=>uR6 x.1) (fun x=>f85 x.1) (fun _=>())
def oG:Ctx:=Cx tys [(117,sM6)] [] [] false 7 [] []
theorem oG0:CtxOk Tryz.prog oG:=xW4 xY7 rfl ⟨oF9,trivial⟩ rfl (by kernel_rfl)
theorem rK1:SpecOk Tryz.prog 85 uE:=xY3 oG0 mixed Tryz.func85 (by kernel_rfl) (bs:=[]) (by kernel_rfl) trivial fun x=>by kernel_rfl
abbrev vB3:Type:=((List D42)×Int×Unit)
abbrev wQ2:Type:=(Int×Unit)
def uN (y:vB3)(x:wQ2):Prop×Bool×wQ2×Bool×Bool:=
 let a23:=y.1
 let a25:=x.1
 let v26:=(decide (a25<y.2.1))
 let v27:=(nth a23 a25 Z42)
 let v31:=(!(f85 v27))
 ((v26=true→(InB a25 (len a23)∧((uR6 v27)∧((!v31)=true→InR (a25+1))))),(v26&&(!v31)),((a25+1),()),(v26&&v31),(!v26))
def uE0 (y:vB3)(x:wQ2):Prop:=(uN y x).1
def sC5 (y:vB3)(x:wQ2):Bool:=(uN y x).2.1
def uA4 (y:vB3)(x:wQ2):wQ2:=(uN y x).2.2.1
def sM7 (y:vB3)(x:wQ2):Bool:=(uN y x).2.2.2.1
def qE (y:vB3)(x:wQ2):Bool:=(uN y x).2.2.2.2
instance (y:vB3)(x:wQ2):Decidable (uE0 y x):=by
 unfold uE0 uN
 try dsimp only
 infer_instance
def tE4 (y:vB3)(x:wQ2):Int:=
 (2:Int)
def tE5:St→Option Out:=xP5 [(23,(.val (.sl T42))),(24,vI)] [(25,vI)] sC5 uA4 uE0 fun y x=>[ex 1 (some (sM7 y x)) [(2,vI)] ((tE4 y x),()),ex 2 (some (qE y x)) [] ()]
def f56t (p0:D40):Prop×Int:=
 let v10:=(!(f84 p0.1 p0.2.1))
 let v21:=(bif v10 then true else ((len p0.2.2.1)!=(p0.1*p0.2.1)))
 let y4:=(p0.2.2.1,(len p0.2.2.1),())
 let x4:=((0:Int),())
 let e4:=(zC1 (sC5 y4) (uA4 y4) x4)
 (((sM4 p0.1 p0.2.1)∧(((!v10)=true→InR (p0.1*p0.2.1))∧((!v21)=true→(Am.Ends (sC5 y4) (uA4 y4) (uE0 y4) x4)))),(bif v21 then (15:Int) else (bif (sM7 y4 e4) then (tE4 y4 e4) else (0:Int))))
def tV (p0:D40):Prop:=(f56t p0).1
def f56 (p0:D40):Int:=(f56t p0).2
instance (p0:D40):Decidable (tV p0):=by
 unfold tV f56t
 try dsimp only
 infer_instance
def sC6:Am.Spec:=fnSpec [(0,(.val T40))] vI [] (fun x=>tV x.1) (fun x=>f56 x.1) (fun _=>())
def qE0:Ctx:=Cx tys [(84,rK0),(85,uE)] [(4,tE5)] [] false 33 [] []
theorem qE1:CtxOk Tryz.prog qE0:=xW4 xY7 rfl ⟨nC4,rK1,trivial⟩ rfl (by kernel_rfl)
noncomputable def pC3:Code:=Tryz.f56.body.getD .skip
noncomputable def pU9:Code:=xX3 pC3 0
theorem qE2:yU9 Tryz.prog qE0 pU9:=xY2 qE1 mixed (sp:=tE5) rfl [[(2,vI)],[]] (bs:=[]) (by kernel_rfl) trivial (by kernel_rfl) (by kernel_rfl) fun y x=>by kernel_rfl
theorem pV:SpecOk Tryz.prog 56 sC6:=xY3 qE1 mixed Tryz.func56 (by kernel_rfl) (bs:=[pU9]) (by kernel_rfl) ⟨qE2,trivial⟩ fun x=>by kernel_rfl
def oG1 (p0:D42):Prop×Int:=
 ((uR6 p0),(bif (!(f85 p0)) then (2:Int) else (0:Int)))
def uA5 (p0:D42):Prop:=(oG1 p0).1
def f110 (p0:D42):Int:=(oG1 p0).2
instance (p0:D42):Decidable (uA5 p0):=by
 unfold uA5 oG1
 try dsimp only
 infer_instance
def uE1:Am.Spec:=fnSpec [(0,(.val T42))] vI [] (fun x=>uA5 x.1) (fun x=>f110 x.1) (fun _=>())
def pC4:Ctx:=Cx tys [(85,uE)] [] [] false 6 [] []
theorem pC5:CtxOk Tryz.prog pC4:=xW4 xY7 rfl ⟨rK1,trivial⟩ rfl (by kernel_rfl)
theorem sY6:SpecOk Tryz.prog 110 uE1:=xY3 pC5 mixed Tryz.func110 (by kernel_rfl) (bs:=[]) (by kernel_rfl) trivial fun x=>by kernel_rfl
def pC6 (p0:Int)(p1:Int):Prop×Bool:=
 (True,(bif (p0==1) then (p1==4) else (p1==3)))
def tE6 (p0:Int)(p1:Int):Prop:=(pC6 p0 p1).1
def f139 (p0:Int)(p1:Int):Bool:=(pC6 p0 p1).2
instance (p0:Int)(p1:Int):Decidable (tE6 p0 p1):=by
 unfold tE6 pC6
 try dsimp only
 infer_instance
def sM8:Am.Spec:=fnSpec [(0,vI),(1,vI)] vB [] (fun x=>tE6 x.1 x.2.1) (fun x=>f139 x.1 x.2.1) (fun _=>())
def pC7:Ctx:=Cx tys [] [] [] false 11 [] []
theorem pC8:CtxOk Tryz.prog pC7:=xW4 xY7 rfl trivial rfl (by kernel_rfl)
theorem oG2:SpecOk Tryz.prog 139 sM8:=xY3 pC8 mixed Tryz.func139 (by kernel_rfl) (bs:=[]) (by kernel_rfl) trivial fun x=>by kernel_rfl
abbrev wR8:Type:=(Int×(List Int)×(List Int)×Int×Unit)
abbrev wK1:Type:=(Int×Unit)
def vT4 (y:wR8)(x:wK1):Prop×Bool×wK1×Bool×Bool:=
 let a36:=y.2.2.1
 let a38:=x.1
 let v39:=(decide (a38<y.2.2.2.1))
 let v40:=(nth a36 a38 (0:Int))
 let v47:=(bif (decide (v40<(-1048576))) then true else (decide (v40>1048576)))
 ((v39=true→(InB a38 (len a36)∧((!v47)=true→InR (a38+1)))),(v39&&(!v47)),((a38+1),()),(v39&&v47),(!v39))
def vT5 (y:wR8)(x:wK1):Prop:=(vT4 y x).1
def tE7 (y:wR8)(x:wK1):Bool:=(vT4 y x).2.1
def vN4 (y:wR8)(x:wK1):wK1:=(vT4 y x).2.2.1
def tV0 (y:wR8)(x:wK1):Bool:=(vT4 y x).2.2.2.1
def tV1 (y:wR8)(x:wK1):Bool:=(vT4 y x).2.2.2.2
instance (y:wR8)(x:wK1):Decidable (vT5 y x):=by
 unfold vT5 vT4
 try dsimp only
 infer_instance
def uR7 (y:wR8)(x:wK1):Int:=
 (2:Int)
def tV2:List (Nat×Sh):=[(0,vI),(1,(.val (.sl (.int .i64))))]
def uR8:St→Option Out:=xP5 [(0,vI),(1,(.val (.sl (.int .i64)))),(36,(.val (.sl (.int .i64)))),(37,vI)] [(38,vI)] tE7 vN4 vT5 fun y x=>[ex 1 (some (tV0 y x)) [(8,vI)] ((uR7 y x),()),ex 2 (some (tV1 y x)) tV2 (y.1,y.2.1,())]
def oG3 (p0:Int)(p1:List Int)(p2:Int)(p3:Int):Prop×Int:=
 let v24:=(bif (bif (bif (decide (p0<1)) then true else (decide (p0>4))) then true else (decide (p2<0))) then true else (decide (p2>2)))
 let v27:=(len p1)
 let v33:=(bif (!(f139 p0 v27)) then true else (p3==0))
 let v35:=(decide (p3>16))
 let y8:=(p0,p1,p1,(len p1),())
 let x8:=((0:Int),())
 let e8:=(zC1 (tE7 y8) (vN4 y8) x8)
 let v54:=(bif (p0==2) then true else (p0==4))
 let m8_3:=(bif v33 then (1:Int) else (bif v35 then (3:Int) else (bif (tV0 y8 e8) then (uR7 y8 e8) else (bif (bif v54 then (decide ((nth p1 (2:Int) (0:Int))<0)) else false) then (2:Int) else (0:Int)))))
 (((!v24)=true→((tE6 p0 v27)∧((!v33)=true→((!v35)=true→((Am.Ends (tE7 y8) (vN4 y8) (vT5 y8) x8)∧((tV1 y8 e8)=true→(v54=true→InB (2:Int) (len p1)))))))),(bif v24 then (8:Int) else m8_3))
def tE8 (p0:Int)(p1:List Int)(p2:Int)(p3:Int):Prop:=(oG3 p0 p1 p2 p3).1
def f123 (p0:Int)(p1:List Int)(p2:Int)(p3:Int):Int:=(oG3 p0 p1 p2 p3).2
instance (p0:Int)(p1:List Int)(p2:Int)(p3:Int):Decidable (tE8 p0 p1 p2 p3):=by
 unfold tE8 oG3
 try dsimp only
 infer_instance
def sM9:Am.Spec:=fnSpec [(0,vI),(1,(.val (.sl (.int .i64)))),(2,vI),(3,vI)] vI [] (fun x=>tE8 x.1 x.2.1 x.2.2.1 x.2.2.2.1) (fun x=>f123 x.1 x.2.1 x.2.2.1 x.2.2.2.1) (fun _=>())
def rK2:Ctx:=Cx tys [(139,sM8)] [(8,uR8)] [] false 61 [] []
theorem rK3:CtxOk Tryz.prog rK2:=xW4 xY7 rfl ⟨oG2,trivial⟩ rfl (by kernel_rfl)
noncomputable def qE3:Code:=Tryz.f123.body.getD .skip
noncomputable def qE4:Code:=xX3 qE3 0
theorem rW3:yU9 Tryz.prog rK2 qE4:=xY2 rK3 mixed (sp:=uR8) rfl [[(8,vI)],tV2] (bs:=[]) (by kernel_rfl) trivial (by kernel_rfl) (by kernel_rfl) fun y x=>by kernel_rfl
theorem oG4:SpecOk Tryz.prog 123 sM9:=xY3 rK3 mixed Tryz.func123 (by kernel_rfl) (bs:=[qE4]) (by kernel_rfl) ⟨rW3,trivial⟩ fun x=>by kernel_rfl
abbrev wR9:Type:=((List D122)×(List D122)×Int×Unit)
abbrev wK2:Type:=(Int×Unit)
def vT6 (y:wR9)(x:wK2):Prop×Bool×wK2×Bool×Bool:=
 let a0:=y.1
 let a5:=y.2.1
 let a7:=x.1
 let v8:=(decide (a7<y.2.2.1))
 let v10:=(nth a5 a7 Z122)
 let v19:=(bif (decide (v10.1<0)) then true else (decide (v10.1>65535)))
 let v25:=(bif v19 then true else (!(f85 v10.2.1)))
 let v27:=(decide (a7>0))
 let v33:=(a7-1)
 let v38:=(bif v27 then (decide (v10.1≤(nth a0 v33 Z122).1)) else false)
 let c_2:=((!v25)&&(!v38))
 ((v8=true→(InB a7 (len a5)∧(((!v19)=true→(uR6 v10.2.1))∧(((!v25)=true→((v27=true→InR (a7-1))∧(v27=true→InB v33 (len a0))))∧(c_2=true→InR (a7+1)))))),(v8&&c_2),((a7+1),()),(v8&&(v25||((!v25)&&v38))),(!v8))
def vT7 (y:wR9)(x:wK2):Prop:=(vT6 y x).1
def tE9 (y:wR9)(x:wK2):Bool:=(vT6 y x).2.1
def vN5 (y:wR9)(x:wK2):wK2:=(vT6 y x).2.2.1
def tV3 (y:wR9)(x:wK2):Bool:=(vT6 y x).2.2.2.1
def rW4 (y:wR9)(x:wK2):Bool:=(vT6 y x).2.2.2.2
instance (y:wR9)(x:wK2):Decidable (vT7 y x):=by
 unfold vT7 vT6
 try dsimp only
 infer_instance
def uR9 (y:wR9)(x:wK2):Int:=
 let v10:=(nth y.2.1 x.1 Z122)
 (bif (bif (bif (decide (v10.1<0)) then true else (decide (v10.1>65535))) then true else (!(f85 v10.2.1))) then (2:Int) else (24:Int))
def uS:St→Option Out:=xP5 [(0,(.val (.sl T122))),(5,(.val (.sl T122))),(6,vI)] [(7,vI)] tE9 vN5 vT7 fun y x=>[ex 1 (some (tV3 y x)) [(2,vI)] ((uR9 y x),()),ex 2 (some (rW4 y x)) [] ()]
def oG5 (p0:List D122):Prop×Int:=
 let y2:=(p0,p0,(len p0),())
 let x2:=((0:Int),())
 let e2:=(zC1 (tE9 y2) (vN5 y2) x2)
 ((Am.Ends (tE9 y2) (vN5 y2) (vT7 y2) x2),(bif (tV3 y2 e2) then (uR9 y2 e2) else (0:Int)))
def tF (p0:List D122):Prop:=(oG5 p0).1
def f124 (p0:List D122):Int:=(oG5 p0).2
instance (p0:List D122):Decidable (tF p0):=by
 unfold tF oG5
 try dsimp only
 infer_instance
def sN:Am.Spec:=fnSpec [(0,(.val (.sl T122)))] vI [] (fun x=>tF x.1) (fun x=>f124 x.1) (fun _=>())
def rK4:Ctx:=Cx tys [(85,uE)] [(2,uS)] [] false 40 [] []
theorem rK5:CtxOk Tryz.prog rK4:=xW4 xY7 rfl ⟨rK1,trivial⟩ rfl (by kernel_rfl)
noncomputable def qE5:Code:=Tryz.f124.body.getD .skip
noncomputable def qE6:Code:=xX3 qE5 0
theorem rW5:yU9 Tryz.prog rK4 qE6:=xY2 rK5 mixed (sp:=uS) rfl [[(2,vI)],[]] (bs:=[]) (by kernel_rfl) trivial (by kernel_rfl) (by kernel_rfl) fun y x=>by kernel_rfl
theorem oG6:SpecOk Tryz.prog 124 sN:=xY3 rK5 mixed Tryz.func124 (by kernel_rfl) (bs:=[qE6]) (by kernel_rfl) ⟨rW5,trivial⟩ fun x=>by kernel_rfl
def oG7 (p0:Int)(p1:List Int)(p2:Int)(p3:List D122):Prop×Int:=
 let v14:=(len p3)
 let v15:=(f123 p0 p1 p2 v14)
 let v17:=(v15 !=0)
 (((tE8 p0 p1 p2 v14)∧((!v17)=true→(tF p3))),(bif v17 then v15 else (f124 p3)))
def tF0 (p0:Int)(p1:List Int)(p2:Int)(p3:List D122):Prop:=(oG7 p0 p1 p2 p3).1
def f111 (p0:Int)(p1:List Int)(p2:Int)(p3:List D122):Int:=(oG7 p0 p1 p2 p3).2
instance (p0:Int)(p1:List Int)(p2:Int)(p3:List D122):Decidable (tF0 p0 p1 p2 p3):=by
 unfold tF0 oG7
 try dsimp only
 infer_instance
def sN0:Am.Spec:=fnSpec [(0,vI),(1,(.val (.sl (.int .i64)))),(2,vI),(3,(.val (.sl T122)))] vI [] (fun x=>tF0 x.1 x.2.1 x.2.2.1 x.2.2.2.1) (fun x=>f111 x.1 x.2.1 x.2.2.1 x.2.2.2.1) (fun _=>())
def pC9:Ctx:=Cx tys [(123,sM9),(124,sN)] [] [] false 21 [] []
theorem pD:CtxOk Tryz.prog pC9:=xW4 xY7 rfl ⟨oG4,oG6,trivial⟩ rfl (by kernel_rfl)
theorem oG8:SpecOk Tryz.prog 111 sN0:=xY3 pD mixed Tryz.func111 (by kernel_rfl) (bs:=[]) (by kernel_rfl) trivial fun x=>by kernel_rfl
def pD0 (p0:Int):Prop×Int:=
 let v5:=(p0==3)
 let v7:=(p0==4)
 (True,(bif (bif v5 then true else (bif v7 then true else (p0==5))) then (bif v5 then (2:Int) else (bif v7 then (3:Int) else (0:Int))) else (1:Int)))
def uN0 (p0:Int):Prop:=(pD0 p0).1
def f141 (p0:Int):Int:=(pD0 p0).2
instance (p0:Int):Decidable (uN0 p0):=by
 unfold uN0 pD0
 try dsimp only
 infer_instance
def tF1:Am.Spec:=fnSpec [(0,vI)] vI [] (fun x=>uN0 x.1) (fun x=>f141 x.1) (fun _=>())
def pD1:Ctx:=Cx tys [] [] [] false 10 [] []
theorem pD2:CtxOk Tryz.prog pD1:=xW4 xY7 rfl trivial rfl (by kernel_rfl)
theorem qE7:SpecOk Tryz.prog 141 tF1:=xY3 pD2 mixed Tryz.func141 (by kernel_rfl) (bs:=[]) (by kernel_rfl) trivial fun x=>by kernel_rfl
def oG9 (p0:D125):Prop×Bool:=
 (True,(bif (bif (bif (decide (p0.1<(-16777216))) then true else (decide (p0.1>16777216))) then true else (decide (p0.2.1<(-16777216)))) then true else (decide (p0.2.1>16777216))))
def vN6 (p0:D125):Prop:=(oG9 p0).1
def f143 (p0:D125):Bool:=(oG9 p0).2
instance (p0:D125):Decidable (vN6 p0):=by
 unfold vN6 oG9
 try dsimp only
 infer_instance
def uE2:Am.Spec:=fnSpec [(0,(.val T125))] vB [] (fun x=>vN6 x.1) (fun x=>f143 x.1) (fun _=>())
def pD3:Ctx:=Cx tys [] [] [] false 21 [] []
theorem pD4:CtxOk Tryz.prog pD3:=xW4 xY7 rfl trivial rfl (by kernel_rfl)
theorem sY7:SpecOk Tryz.prog 143 uE2:=xY3 pD4 mixed Tryz.func143 (by kernel_rfl) (bs:=[]) (by kernel_rfl) trivial fun x=>by kernel_rfl
abbrev wO:Type:=((List D128)×Int×D128×(List D128)×Int×Int×(List D125)×Unit)
abbrev wK3:Type:=(Int×Unit)
def vB4 (y:wO)(x:wK3):Prop×Bool×wK3×Bool×Bool:=
 let a4:=y.2.2.1
 let a27:=x.1
 let v28:=(decide (a27<3))
 let v30:=(nth y.2.2.2.2.2.2.1 a27 Z125)
 let v32:=(f143 v30)
 let v44:=(bif v32 then true else (bif (decide (a27≥(f141 a4.1))) then (!(Ty.eqb T125 v30 ((0:Int),(0:Int),()))) else false))
 ((v28=true→(InB a27 3∧((vN6 v30)∧(((!v32)=true→(uN0 a4.1))∧((!v44)=true→InR (a27+1)))))),(v28&&(!v44)),((a27+1),()),(v28&&v44),(!v28))
def wW7 (y:wO)(x:wK3):Prop:=(vB4 y x).1
def wK4 (y:wO)(x:wK3):Bool:=(vB4 y x).2.1
def wE4 (y:wO)(x:wK3):wK3:=(vB4 y x).2.2.1
def wW8 (y:wO)(x:wK3):Bool:=(vB4 y x).2.2.2.1
def uN1 (y:wO)(x:wK3):Bool:=(vB4 y x).2.2.2.2
instance (y:wO)(x:wK3):Decidable (wW7 y x):=by
 unfold wW7 vB4
 try dsimp only
 infer_instance
def vN7 (y:wO)(x:wK3):Int:=
 (2:Int)
def tV4:List (Nat×Sh):=[(0,(.val (.sl T128))),(3,vI),(4,(.box T128 (.val T128))),(10,(.val (.sl T128))),(11,vI),(12,vI)]
def uS0:St→Option Out:=xP5 [(0,(.val (.sl T128))),(3,vI),(4,(.box T128 (.val T128))),(10,(.val (.sl T128))),(11,vI),(12,vI),(26,(.val (.arr 3 T125)))] [(27,vI)] wK4 wE4 wW7 fun y x=>[ex 1 (some (wW8 y x)) [(2,vI)] ((vN7 y x),()),ex 4 (some (uN1 y x)) tV4 (y.1,y.2.1,y.2.2.1,y.2.2.2.1,y.2.2.2.2.1,y.2.2.2.2.2.1,())]
abbrev wS:Type:=((List D128)×(List D128)×Int×Unit)
abbrev wG6:Type:=(Int×Unit)
def wV3 (y:wS)(x:wG6):Prop×Bool×wG6×Bool×Bool:=
 let a0:=y.1
 let a10:=y.2.1
 let a11:=y.2.2.1
 let a12:=x.1
 let v13:=(decide (a12<a11))
 let v15:=(nth a10 a12 Z128)
 let v24:=(bif (decide (v15.1<1)) then true else (decide (v15.1>5)))
 let y9:=(a0,a12,v15,a10,a11,a12,v15.2.1,())
 let x9:=((0:Int),())
 let e9:=(zC1 (wK4 y9) (wE4 y9) x9)
 let q9_4:=(uN1 y9 e9)
 let v48:=(v15.1 !=1)
 let v51:=(a12==0)
 let v55:=(a12-1)
 let v61:=(bif v48 then (bif v51 then true else ((nth a0 v55 Z128).1==5)) else false)
 let c_5:=((!v24)&&(q9_4&&(!v61)))
 ((v13=true→(InB a12 (len a10)∧(((!v24)=true→((Am.Ends (wK4 y9) (wE4 y9) (wW7 y9) x9)∧(q9_4=true→(((v48&&(!v51))=true→InR (a12-1))∧((v48&&(!v51))=true→InB v55 (len a0))))))∧(c_5=true→InR (a12+1))))),(v13&&c_5),((a12+1),()),(v13&&(v24||((!v24)&&((wW8 y9 e9)||(q9_4&&v61))))),(!v13))
def vF (y:wS)(x:wG6):Prop:=(wV3 y x).1
def wG7 (y:wS)(x:wG6):Bool:=(wV3 y x).2.1
def wE5 (y:wS)(x:wG6):wG6:=(wV3 y x).2.2.1
def vF0 (y:wS)(x:wG6):Bool:=(wV3 y x).2.2.2.1
def rW6 (y:wS)(x:wG6):Bool:=(wV3 y x).2.2.2.2
instance (y:wS)(x:wG6):Decidable (vF y x):=by
 unfold vF wV3
 try dsimp only
 infer_instance
def vN8 (y:wS)(x:wG6):Int:=
 let a10:=y.2.1
 let a12:=x.1
 let v15:=(nth a10 a12 Z128)
 let y9:=(y.1,a12,v15,a10,y.2.2.1,a12,v15.2.1,())
 let e9:=(zC1 (wK4 y9) (wE4 y9) ((0:Int),()))
 (bif (bif (decide (v15.1<1)) then true else (decide (v15.1>5))) then (8:Int) else (bif (wW8 y9 e9) then (vN7 y9 e9) else (24:Int)))
def uS1:St→Option Out:=xP5 [(0,(.val (.sl T128))),(10,(.val (.sl T128))),(11,vI)] [(12,vI)] wG7 wE5 vF fun y x=>[ex 1 (some (vF0 y x)) [(2,vI)] ((vN8 y x),()),ex 2 (some (rW6 y x)) [] ()]
def pD5 (p0:List D128):Prop×Int:=
 let v9:=(decide ((len p0)>128))
 let y4:=(p0,p0,(len p0),())
 let x4:=((0:Int),())
 let e4:=(zC1 (wG7 y4) (wE5 y4) x4)
 (((!v9)=true→(Am.Ends (wG7 y4) (wE5 y4) (vF y4) x4)),(bif v9 then (3:Int) else (bif (vF0 y4 e4) then (vN8 y4 e4) else (0:Int))))
def vN9 (p0:List D128):Prop:=(pD5 p0).1
def f140 (p0:List D128):Int:=(pD5 p0).2
instance (p0:List D128):Decidable (vN9 p0):=by
 unfold vN9 pD5
 try dsimp only
 infer_instance
def vO:Am.Spec:=fnSpec [(0,(.val (.sl T128)))] vI [] (fun x=>vN9 x.1) (fun x=>f140 x.1) (fun _=>())
def sC7:Ctx:=Cx tys [(141,tF1),(143,uE2)] [(9,uS0),(4,uS1)] [] false 63 [] []
theorem sC8:CtxOk Tryz.prog sC7:=xW4 xY7 rfl ⟨qE7,sY7,trivial⟩ rfl (by kernel_rfl)
noncomputable def qE8:Code:=Tryz.f140.body.getD .skip
noncomputable def sY8:Code:=xX3 qE8 0
noncomputable def qE9:Code:=xX3 sY8 0
theorem rW7:yU9 Tryz.prog sC7 qE9:=xY2 sC8 mixed (sp:=uS0) rfl [[(2,vI)],tV4] (bs:=[]) (by kernel_rfl) trivial (by kernel_rfl) (by kernel_rfl) fun y x=>by kernel_rfl
theorem rW8:yU9 Tryz.prog sC7 sY8:=xY2 sC8 mixed (sp:=uS1) rfl [[(2,vI)],[]] (bs:=[qE9]) (by kernel_rfl) ⟨rW7,trivial⟩ (by kernel_rfl) (by kernel_rfl) fun y x=>by kernel_rfl
theorem sC9:SpecOk Tryz.prog 140 vO:=xY3 sC8 mixed Tryz.func140 (by kernel_rfl) (bs:=[sY8]) (by kernel_rfl) ⟨rW8,trivial⟩ fun x=>by kernel_rfl
def oH (p0:D37)(p1:D125):Prop×D125:=
 let v8:=(f107 p0)
 let v11:=(f121 p1.1)
 let v14:=(f121 p1.2.1)
 let v24:=(IntKind.wrap .i64 ((f109 v8.1 v11 v8.2.2.1 v14)+v8.2.2.2.2.1))
 let v35:=(IntKind.wrap .i64 ((f109 v8.2.1 v11 v8.2.2.2.1 v14)+v8.2.2.2.2.2.1))
 (((uM9 p0)∧((vE0 p1.1)∧((vE0 p1.2.1)∧((vN2 v8.1 v11 v8.2.2.1 v14)∧((vE0 v24)∧((vN2 v8.2.1 v11 v8.2.2.2.1 v14)∧(vE0 v35))))))),((f121 v24),(f121 v35),()))
def tF2 (p0:D37)(p1:D125):Prop:=(oH p0 p1).1
def f155 (p0:D37)(p1:D125):D125:=(oH p0 p1).2
instance (p0:D37)(p1:D125):Decidable (tF2 p0 p1):=by
 unfold tF2 oH
 try dsimp only
 infer_instance
def sN1:Am.Spec:=fnSpec [(0,(.val T37)),(1,(.val T125))] (.val T125) [] (fun x=>tF2 x.1 x.2.1) (fun x=>f155 x.1 x.2.1) (fun _=>())
def pD6:Ctx:=Cx tys [(107,tE1),(109,tE2),(121,tE0)] [] [] true 38 [] []
theorem pD7:CtxOk Tryz.prog pD6:=xW4 xY7 rfl ⟨qD8,qD9,qD7,trivial⟩ rfl (by kernel_rfl)
theorem oH0:SpecOk Tryz.prog 155 sN1:=xY3 pD7 mixed Tryz.func155 (by kernel_rfl) (bs:=[]) (by kernel_rfl) trivial fun x=>by kernel_rfl
def oH1 (p0:D37)(p1:D125):Prop×D125:=
 let s:=((IntKind.wrap .i64 (4096*p1.1)),(IntKind.wrap .i64 (4096*p1.2.1)),())
 let v14:=(f155 p0 s)
 (((tF2 p0 s)∧((wA9 v14.1 (4096:Int))∧(wA9 v14.2.1 (4096:Int)))),((f108 v14.1 (4096:Int)),(f108 v14.2.1 (4096:Int)),()))
def uN2 (p0:D37)(p1:D125):Prop:=(oH1 p0 p1).1
def f142 (p0:D37)(p1:D125):D125:=(oH1 p0 p1).2
instance (p0:D37)(p1:D125):Decidable (uN2 p0 p1):=by
 unfold uN2 oH1
 try dsimp only
 infer_instance
def tF3:Am.Spec:=fnSpec [(0,(.val T37)),(1,(.val T125))] (.val T125) [] (fun x=>uN2 x.1 x.2.1) (fun x=>f142 x.1 x.2.1) (fun _=>())
def pD8:Ctx:=Cx tys [(108,wF3),(155,sN1)] [] [] true 22 [] []
theorem pD9:CtxOk Tryz.prog pD8:=xW4 xY7 rfl ⟨wY6,oH0,trivial⟩ rfl (by kernel_rfl)
theorem qF:SpecOk Tryz.prog 142 tF3:=xY3 pD9 mixed Tryz.func142 (by kernel_rfl) (bs:=[]) (by kernel_rfl) trivial fun x=>by kernel_rfl
abbrev wD9:Type:=(D37×Int×D128×(List D128)×Int×Int×Int×Unit)
abbrev wC3:Type:=((List D128)×Int×Unit)
def vF1 (y:wD9)(x:wC3):Prop×Bool×wC3×Bool×Bool:=
 let a3:=y.1
 let a9:=y.2.1
 let a8:=x.1
 let a42:=x.2.1
 let v43:=(decide (a42<y.2.2.2.2.2.2.1))
 let v49:=(nth y.2.2.1.2.1 a42 Z125)
 let v50:=(f142 a3 v49)
 let v52:=(f143 v50)
 ((v43=true→(InB a42 3∧((uN2 a3 v49)∧((vN6 v50)∧(((!v52)=true→(InB a9 (len a8)∧(InB a42 3∧a9<len a8)))∧((!v52)=true→InR (a42+1))))))),(v43&&(!v52)),((List.set a8 (Int.toNat a9) ((nth a8 a9 Z128).1,(List.set (nth a8 a9 Z128).2.1 (Int.toNat a42) v50),())),(a42+1),()),(v43&&v52),(!v43))
def wO9 (y:wD9)(x:wC3):Prop:=(vF1 y x).1
def wI9 (y:wD9)(x:wC3):Bool:=(vF1 y x).2.1
def wB7 (y:wD9)(x:wC3):wC3:=(vF1 y x).2.2.1
def tF4 (y:wD9)(x:wC3):Bool:=(vF1 y x).2.2.2.1
def tF5 (y:wD9)(x:wC3):Bool:=(vF1 y x).2.2.2.2
instance (y:wD9)(x:wC3):Decidable (wO9 y x):=by
 unfold wO9 vF1
 try dsimp only
 infer_instance
def vJ6 (y:wD9)(x:wC3):(List D128):=
 ([]:List D128)
def uE3 (y:wD9)(x:wC3):Int:=
 (2:Int)
def tF6:List (Nat×Sh):=[(4,(.own T128 0 false)),(5,vI)]
def uE4 (y:wD9)(x:wC3):(List D128):=
 x.1
def tF7:List (Nat×Sh):=[(3,(.box T37 (.val T37))),(8,(.own T128 1008 true)),(26,(.val (.sl T128))),(27,vI),(28,vI)]
def uE5:St→Option Out:=xP5 [(3,(.box T37 (.val T37))),(9,vI),(10,(.box T128 (.val T128))),(26,(.val (.sl T128))),(27,vI),(28,vI),(41,vI)] [(8,(.own T128 1008 true)),(42,vI)] wI9 wB7 wO9 fun y x=>[ex 1 (some (tF4 y x)) tF6 ((vJ6 y x),(uE3 y x),()),ex 4 (some (tF5 y x)) tF7 (y.1,(uE4 y x),y.2.2.2.1,y.2.2.2.2.1,y.2.2.2.2.2.1,())]
abbrev wK5:Type:=(D37×(List D128)×Int×Unit)
abbrev wE:Type:=((List D128)×Int×Unit)
def vT8 (y:wK5)(x:wE):Prop×Bool×wE×Bool×Bool:=
 let a26:=y.2.1
 let a27:=y.2.2.1
 let a8:=x.1
 let a28:=x.2.1
 let v29:=(decide (a28<a27))
 let v31:=(nth a26 a28 Z128)
 let y13:=(y.1,a28,v31,a26,a27,a28,(f141 v31.1),())
 let x13:=((List.set a8 (Int.toNat a28) (v31.1,(nth a8 a28 Z128).2.1,())),(0:Int),())
 let e13:=(zC1 (wI9 y13) (wB7 y13) x13)
 let q13_4:=(tF5 y13 e13)
 ((v29=true→(InB a28 (len a26)∧(InB a28 (len a8)∧(a28<len a8∧((uN0 v31.1)∧((Am.Ends (wI9 y13) (wB7 y13) (wO9 y13) x13)∧(q13_4=true→InR (a28+1)))))))),(v29&&q13_4),((uE4 y13 e13),(a28+1),()),(v29&&(tF4 y13 e13)),(!v29))
def wW9 (y:wK5)(x:wE):Prop:=(vT8 y x).1
def vF2 (y:wK5)(x:wE):Bool:=(vT8 y x).2.1
def wG8 (y:wK5)(x:wE):wE:=(vT8 y x).2.2.1
def uN3 (y:wK5)(x:wE):Bool:=(vT8 y x).2.2.2.1
def rW9 (y:wK5)(x:wE):Bool:=(vT8 y x).2.2.2.2
instance (y:wK5)(x:wE):Decidable (wW9 y x):=by
 unfold wW9 vT8
 try dsimp only
 infer_instance
def vO0 (y:wK5)(x:wE):(List D128):=
 let a26:=y.2.1
 let a8:=x.1
 let a28:=x.2.1
 let v31:=(nth a26 a28 Z128)
 let y13:=(y.1,a28,v31,a26,y.2.2.1,a28,(f141 v31.1),())
 (vJ6 y13 (zC1 (wI9 y13) (wB7 y13) ((List.set a8 (Int.toNat a28) (v31.1,(nth a8 a28 Z128).2.1,())),(0:Int),())))
def uS2 (y:wK5)(x:wE):Int:=
 let a26:=y.2.1
 let a8:=x.1
 let a28:=x.2.1
 let v31:=(nth a26 a28 Z128)
 let y13:=(y.1,a28,v31,a26,y.2.2.1,a28,(f141 v31.1),())
 (uE3 y13 (zC1 (wI9 y13) (wB7 y13) ((List.set a8 (Int.toNat a28) (v31.1,(nth a8 a28 Z128).2.1,())),(0:Int),())))
def tV5:List (Nat×Sh):=[(4,(.own T128 0 false)),(5,vI)]
def vO1 (y:wK5)(x:wE):(List D128):=
 x.1
def uS3:St→Option Out:=xP5 [(3,(.box T37 (.val T37))),(26,(.val (.sl T128))),(27,vI)] [(8,(.own T128 1008 true)),(28,vI)] vF2 wG8 wW9 fun y x=>[ex 1 (some (uN3 y x)) tV5 ((vO0 y x),(uS2 y x),()),ex 2 (some (rW9 y x)) [(8,(.own T128 1008 true))] ((vO1 y x),())]
def pE (p0:List D128)(p1:D37):Prop×((List D128)×Int×Unit):=
 let v14:=(f140 p0)
 let v16:=(v14 !=0)
 let v19:=(f77 p1)
 let v21:=(v19 !=0)
 let v24:=(len p0)
 let y9:=(p1,p0,(len p0),())
 let x9:=((List.replicate (Int.toNat v24) Z128),(0:Int),())
 let e9:=(zC1 (vF2 y9) (wG8 y9) x9)
 let q9_1:=(uN3 y9 e9)
 (((vN9 p0)∧((!v16)=true→((vY6 p1)∧((!v21)=true→((0≤v24∧v24≤v24∧v24≤4294967296)∧(Am.Ends (vF2 y9) (wG8 y9) (wW9 y9) x9)))))),((bif v16 then [] else (bif v21 then [] else (bif q9_1 then (vO0 y9 e9) else (vO1 y9 e9)))),(bif v16 then v14 else (bif v21 then v19 else (bif q9_1 then (uS2 y9 e9) else (0:Int)))),()))
def tF8 (p0:List D128)(p1:D37):Prop:=(pE p0 p1).1
def f125 (p0:List D128)(p1:D37):((List D128)×Int×Unit):=(pE p0 p1).2
instance (p0:List D128)(p1:D37):Decidable (tF8 p0 p1):=by
 unfold tF8 pE
 try dsimp only
 infer_instance
def sN2:Am.Spec:=fnSpec [(0,(.val (.sl T128))),(1,(.val T37))] (.tup (.cons (.val (.sl T128)) (.cons vI .nl))) [] (fun x=>tF8 x.1 x.2.1) (fun x=>f125 x.1 x.2.1) (fun _=>())
def sD:Ctx:=Cx tys [(77,uD9),(140,vO),(141,tF1),(142,tF3),(143,uE2)] [(13,uE5),(9,uS3)] [(15,[(4,0,25,1008)]),(43,[(1,4,0,0),(4,0,1008,0)])] false 63 [] [25]
theorem sD0:CtxOk Tryz.prog sD:=xW4 xY7 rfl ⟨rJ8,sC9,qE7,qF,sY7,trivial⟩ rfl (by kernel_rfl)
noncomputable def qF0:Code:=Tryz.f125.body.getD .skip
noncomputable def sY9:Code:=xX3 qF0 0
noncomputable def rK6:Code:=xX3 sY9 0
theorem sZ:yU9 Tryz.prog sD rK6:=xY2 sD0 mixed (sp:=uE5) rfl [tF6,tF7] (bs:=[]) (by kernel_rfl) trivial (by kernel_rfl) (by kernel_rfl) fun y x=>by kernel_rfl
theorem rX:yU9 Tryz.prog sD sY9:=xY2 sD0 mixed (sp:=uS3) rfl [tV5,[(8,(.own T128 1008 true))]] (bs:=[rK6]) (by kernel_rfl) ⟨sZ,trivial⟩ (by kernel_rfl) (by kernel_rfl) fun y x=>by kernel_rfl
theorem oH2:SpecOk Tryz.prog 125 sN2:=xY3 sD0 mixed Tryz.func125 (by kernel_rfl) (bs:=[sY9]) (by kernel_rfl) ⟨rX,trivial⟩ fun x=>by kernel_rfl
def uE6 (p0:D125)(p1:List D125):Prop×(Unit)×((List D125)×Unit):=
 let v7:=(IntKind.wrap .i64 ((len p1)-1))
 let v10:=(!(Ty.eqb T125 p0 (nth p1 v7 Z125)))
 let v13:=([p0]:List D125)
 ((InB v7 (len p1)∧(v10=true→((List.length p1+List.length v13:Nat):Int)≤4294967296)),(),((bif v10 then (p1++v13) else p1),()))
def wP (p0:D125)(p1:List D125):Prop:=(uE6 p0 p1).1
def oH3 (p0:D125)(p1:List D125):(Unit):=(uE6 p0 p1).2.1
def wG9 (p0:D125)(p1:List D125):((List D125)×Unit):=(uE6 p0 p1).2.2
instance (p0:D125)(p1:List D125):Decidable (wP p0 p1):=by
 unfold wP uE6
 try dsimp only
 infer_instance
def uS4:Am.Spec:=fnSpec [(0,(.val T125)),(1,(.box (.sl T125) (.own T125 400100 false)))] (.tup .nl) [(1,(.box (.sl T125) (.own T125 400100 false)))] (fun x=>wP x.1 x.2.1) (fun x=>oH3 x.1 x.2.1) (fun x=>wG9 x.1 x.2.1)
def sZ0:Ctx:=Cx tys [] [] [(5,[(4,0,14,400100)])] true 15 [1] []
theorem sZ1:CtxOk Tryz.prog sZ0:=xW4 xY7 rfl trivial rfl (by kernel_rfl)
theorem rX0:SpecOk Tryz.prog 156 uS4:=xY3 sZ1 mixed Tryz.func156 (by kernel_rfl) (bs:=[]) (by kernel_rfl) trivial fun x=>by kernel_rfl
abbrev wH:Type:=(D128×D125×(Unit×Unit)×Unit)
abbrev wE6:Type:=((List D125)×Int×Unit)
def wY8 (y:wH)(x:wE6):Prop×Bool×wE6:=
 let a3:=y.1
 let a5:=y.2.1
 let a2:=x.1
 let a7:=x.2.1
 let v37:=(decide (a7≤8))
 let v41:=(IntKind.wrap .i64 (8-a7))
 let v44:=(IntKind.wrap .i64 (v41*v41))
 let v48:=(IntKind.wrap .i64 ((IntKind.wrap .i64 (2*a7))*v41))
 let v51:=(IntKind.wrap .i64 (a7*a7))
 let v70:=(IntKind.wrap .i64 ((IntKind.wrap .i64 ((IntKind.wrap .i64 (v44*a5.1))+(IntKind.wrap .i64 (v48*((nth a3.2.1 (0:Int) Z125).1)))))+(IntKind.wrap .i64 (v51*((nth a3.2.1 (1:Int) Z125).1)))))
 let v89:=(IntKind.wrap .i64 ((IntKind.wrap .i64 ((IntKind.wrap .i64 (v44*a5.2.1))+(IntKind.wrap .i64 (v48*((nth a3.2.1 (0:Int) Z125).2.1)))))+(IntKind.wrap .i64 (v51*((nth a3.2.1 (1:Int) Z125).2.1)))))
 let s:=((f108 v70 (64:Int)),(f108 v89 (64:Int)),())
 ((v37=true→(InB (0:Int) 3∧(InB (1:Int) 3∧((wA9 v70 (64:Int))∧(InB (0:Int) 3∧(InB (1:Int) 3∧((wA9 v89 (64:Int))∧(wP s a2)))))))),v37,((wG9 s a2).1,(IntKind.wrap .i64 (a7+1)),()))
def wJ (y:wH)(x:wE6):Prop:=(wY8 y x).1
def wH0 (y:wH)(x:wE6):Bool:=(wY8 y x).2.1
def wB2 (y:wH)(x:wE6):wE6:=(wY8 y x).2.2
instance (y:wH)(x:wE6):Decidable (wJ y x):=by
 unfold wJ wY8
 try dsimp only
 infer_instance
def wY9 (y:wH)(x:wE6):(List D125):=
 x.1
def uE7:List (Nat×Sh):=[(2,(.box (.sl T125) (.own T125 400200 false)))]
def vO2:St→Option Out:=xP5 [(3,(.box T128 (.val T128))),(5,(.box T125 (.val T125))),(6,(.fn 156 (.cons (.ref 2 (.sl T125)) .nl)))] [(2,(.box (.sl T125) (.own T125 400200 false))),(7,vI)] wH0 wB2 wJ fun y x=>[ex 3 none uE7 ((wY9 y x),())]
abbrev wF0:Type:=(D128×D125×(Unit×Unit)×Unit)
abbrev wC5:Type:=((List D125)×Int×Unit)
def wS0 (y:wF0)(x:wC5):Prop×Bool×wC5:=
 let a3:=y.1
 let a5:=y.2.1
 let a2:=x.1
 let a12:=x.2.1
 let v96:=(decide (a12≤16))
 let v100:=(IntKind.wrap .i64 (16-a12))
 let v105:=(IntKind.wrap .i64 ((IntKind.wrap .i64 (v100*v100))*v100))
 let v111:=(IntKind.wrap .i64 ((IntKind.wrap .i64 ((IntKind.wrap .i64 (3*a12))*v100))*v100))
 let v117:=(IntKind.wrap .i64 ((IntKind.wrap .i64 ((IntKind.wrap .i64 (3*a12))*a12))*v100))
 let v122:=(IntKind.wrap .i64 ((IntKind.wrap .i64 (a12*a12))*a12))
 let v141:=(IntKind.wrap .i64 ((IntKind.wrap .i64 ((IntKind.wrap .i64 (v105*a5.1))+(IntKind.wrap .i64 (v111*((nth a3.2.1 (0:Int) Z125).1)))))+(IntKind.wrap .i64 (v117*((nth a3.2.1 (1:Int) Z125).1)))))
 let v148:=(IntKind.wrap .i64 (v141+(IntKind.wrap .i64 (v122*((nth a3.2.1 (2:Int) Z125).1)))))
 let v167:=(IntKind.wrap .i64 ((IntKind.wrap .i64 ((IntKind.wrap .i64 (v105*a5.2.1))+(IntKind.wrap .i64 (v111*((nth a3.2.1 (0:Int) Z125).2.1)))))+(IntKind.wrap .i64 (v117*((nth a3.2.1 (1:Int) Z125).2.1)))))
 let v174:=(IntKind.wrap .i64 (v167+(IntKind.wrap .i64 (v122*((nth a3.2.1 (2:Int) Z125).2.1)))))
 let s:=((f108 v148 (4096:Int)),(f108 v174 (4096:Int)),())
 ((v96=true→(InB (0:Int) 3∧(InB (1:Int) 3∧(InB (2:Int) 3∧((wA9 v148 (4096:Int))∧(InB (0:Int) 3∧(InB (1:Int) 3∧(InB (2:Int) 3∧((wA9 v174 (4096:Int))∧(wP s a2)))))))))),v96,((wG9 s a2).1,(IntKind.wrap .i64 (a12+1)),()))
def wF6 (y:wF0)(x:wC5):Prop:=(wS0 y x).1
def wF1 (y:wF0)(x:wC5):Bool:=(wS0 y x).2.1
def wA7 (y:wF0)(x:wC5):wC5:=(wS0 y x).2.2
instance (y:wF0)(x:wC5):Decidable (wF6 y x):=by
 unfold wF6 wS0
 try dsimp only
 infer_instance
def wU6 (y:wF0)(x:wC5):(List D125):=
 x.1
def vY7:List (Nat×Sh):=[(2,(.box (.sl T125) (.own T125 400200 false)))]
def vM6:St→Option Out:=xP5 [(3,(.box T128 (.val T128))),(5,(.box T125 (.val T125))),(6,(.fn 156 (.cons (.ref 2 (.sl T125)) .nl)))] [(2,(.box (.sl T125) (.own T125 400200 false))),(12,vI)] wF1 wA7 wF6 fun y x=>[ex 5 none vY7 ((wU6 y x),())]
def uZ3 (p0:List D125)(p1:D128):Prop×(List D125):=
 let v21:=(IntKind.wrap .i64 ((len p0)-1))
 let v22:=(nth p0 v21 Z125)
 let v28:=(p1.1==2)
 let v32:=(nth p1.2.1 (0:Int) Z125)
 let v35:=(p1.1==3)
 let y8:=(p1,v22,((),()),())
 let x8:=(p0,(1:Int),())
 let v94:=(p1.1==4)
 let y15:=(p1,v22,((),()),())
 let x15:=(p0,(1:Int),())
 let m2_2:=(bif v28 then (wG9 v32 p0).1 else (bif v35 then (wY9 y8 (zC1 (wH0 y8) (wB2 y8) x8)) else (bif v94 then (wU6 y15 (zC1 (wF1 y15) (wA7 y15) x15)) else p0)))
 ((InB v21 (len p0)∧((v28=true→(InB (0:Int) 3∧(wP v32 p0)))∧(v28=false→((v35=true→(Am.Ends (wH0 y8) (wB2 y8) (wJ y8) x8))∧(v35=false→(v94=true→(Am.Ends (wF1 y15) (wA7 y15) (wF6 y15) x15))))))),m2_2)
def vF3 (p0:List D125)(p1:D128):Prop:=(uZ3 p0 p1).1
def uA6 (p0:List D125)(p1:D128):List D125:=(uZ3 p0 p1).2
instance (p0:List D125)(p1:D128):Decidable (vF3 p0 p1):=by
 unfold vF3 uZ3
 try dsimp only
 infer_instance
def uS5:Am.Spec:=fnSpec [(0,(.own T125 400000 false)),(1,(.val T128))] (.own T125 0 false) [] (fun x=>vF3 x.1 x.2.1) (fun x=>uA6 x.1 x.2.1) (fun _=>())
def uA7:Ctx:={ Cx tys [(108,wF3),(156,uS4)] [(8,vO2),(15,vM6)] [(1,[(4,0,400000,400200)]),(41,[(4,0,400200,0)])] true 179 [] [] with wants:=[(156,[])] }
theorem uA8:CtxOk Tryz.prog uA7:=xW4 xY7 rfl ⟨wY6,rX0,trivial⟩ rfl (by kernel_rfl)
noncomputable def uS6:Code:=Tryz.f144.body.getD .skip
noncomputable def tV6:Code:=xX3 uS6 0
theorem sD1:yU9 Tryz.prog uA7 tV6:=xY2 uA8 mixed (sp:=vO2) rfl [uE7] (bs:=[]) (by kernel_rfl) trivial (by kernel_rfl) (by kernel_rfl) fun y x=>by kernel_rfl
noncomputable def tF9:Code:=xX3 uS6 1
theorem tT9:yU9 Tryz.prog uA7 tF9:=xY2 uA8 mixed (sp:=vM6) rfl [vY7] (bs:=[]) (by kernel_rfl) trivial (by kernel_rfl) (by kernel_rfl) fun y x=>by kernel_rfl
theorem rX1:SpecOk Tryz.prog 144 uS5:=xY3 uA8 mixed Tryz.func144 (by kernel_rfl) (bs:=[tV6,tF9]) (by kernel_rfl) ⟨sD1,tT9,trivial⟩ fun x=>by kernel_rfl
abbrev vF4:Type:=((List D128)×(List D128)×Int×Unit)
abbrev wO0:Type:=((List (List D125))×(List D125)×Int×Unit)
def vT9 (y:vF4)(x:wO0):Prop×Bool×wO0:=
 let a0:=y.1
 let a14:=y.2.1
 let a5:=x.1
 let a6:=x.2.1
 let a16:=x.2.2.1
 let v17:=(decide (a16<y.2.2.1))
 let v19:=(nth a14 a16 Z128)
 let v23:=(v19.1==1)
 let m6:=(bif v23 then ([(nth v19.2.1 (0:Int) Z125)]:List D125) else (uA6 a6 v19))
 let v33:=(len a0)
 let v35:=(a16==(v33-1))
 let v39:=(a16+1)
 let v44:=(bif v35 then true else ((nth a0 v39 Z128).1==1))
 let v47:=([m6]:List (List D125))
 ((v17=true→(InB a16 (len a14)∧((v23=true→InB (0:Int) 3)∧((v23=false→(vF3 a6 v19))∧(InR (v33-1)∧(((!v35)=true→InR (a16+1))∧(((!v35)=true→InB v39 (len a0))∧((v44=true→((List.length a5+List.length v47:Nat):Int)≤4294967296)∧InR (a16+1))))))))),v17,((bif v44 then (a5++v47) else a5),m6,(a16+1),()))
def wX (y:vF4)(x:wO0):Prop:=(vT9 y x).1
def vF5 (y:vF4)(x:wO0):Bool:=(vT9 y x).2.1
def wE7 (y:vF4)(x:wO0):wO0:=(vT9 y x).2.2
instance (y:vF4)(x:wO0):Decidable (wX y x):=by
 unfold wX vT9
 try dsimp only
 infer_instance
def vO3 (y:vF4)(x:wO0):(List (List D125)):=
 x.1
def tV7:List (Nat×Sh):=[(5,(.own (.sl T125) 1005 false))]
def uS7:St→Option Out:=xP5 [(0,(.val (.sl T128))),(14,(.val (.sl T128))),(15,vI)] [(5,(.own (.sl T125) 1005 false)),(6,(.own T125 1006 false)),(16,vI)] vF5 wE7 wX fun y x=>[ex 2 none tV7 ((vO3 y x),())]
def pE0 (p0:List D128):Prop×((List (List D125))×Int×Unit):=
 let v10:=(f140 p0)
 let v12:=(v10 !=0)
 let y7:=(p0,p0,(len p0),())
 let x7:=(([]:List (List D125)),([]:List D125),(0:Int),())
 (((vN9 p0)∧((!v12)=true→(Am.Ends (vF5 y7) (wE7 y7) (wX y7) x7))),((bif v12 then [] else (vO3 y7 (zC1 (vF5 y7) (wE7 y7) x7))),(bif v12 then v10 else (0:Int)),()))
def vO4 (p0:List D128):Prop:=(pE0 p0).1
def f126 (p0:List D128):((List (List D125))×Int×Unit):=(pE0 p0).2
instance (p0:List D128):Decidable (vO4 p0):=by
 unfold vO4 pE0
 try dsimp only
 infer_instance
def tG:Am.Spec:=fnSpec [(0,(.val (.sl T128)))] (.tup (.cons (.own (.sl T125) 0 false) (.cons vI .nl))) [] (fun x=>vO4 x.1) (fun x=>f126 x.1) (fun _=>())
def rK7:Ctx:={ Cx tys [(140,vO),(144,uS5)] [(7,uS7)] [(21,[(4,0,27,1006)]),(23,[(4,0,30,1006)]),(27,[(4,0,48,1005)]),(31,[(4,0,1005,0)])] false 51 [] [] with wants:=[(144,[0])] }
theorem rK8:CtxOk Tryz.prog rK7:=xW4 xY7 rfl ⟨sC9,rX1,trivial⟩ rfl (by kernel_rfl)
noncomputable def qF1:Code:=Tryz.f126.body.getD .skip
noncomputable def qF2:Code:=xX3 qF1 0
theorem rX2:yU9 Tryz.prog rK7 qF2:=xY2 rK8 mixed (sp:=uS7) rfl [tV7] (bs:=[]) (by kernel_rfl) trivial (by kernel_rfl) (by kernel_rfl) fun y x=>by kernel_rfl
theorem qF3:SpecOk Tryz.prog 126 tG:=xY3 rK8 mixed Tryz.func126 (by kernel_rfl) (bs:=[qF2]) (by kernel_rfl) ⟨rX2,trivial⟩ fun x=>by kernel_rfl
abbrev vF6:Type:=((List D128)×(List D128)×Int×Unit)
abbrev wS1:Type:=((List Bool)×Int×Unit)
def uE8 (y:vF6)(x:wS1):Prop×Bool×wS1:=
 let a0:=y.1
 let a13:=y.2.1
 let a5:=x.1
 let a15:=x.2.1
 let v16:=(decide (a15<y.2.2.1))
 let v22:=(len a0)
 let v24:=(a15==(v22-1))
 let v28:=(a15+1)
 let v33:=(bif v24 then true else ((nth a0 v28 Z128).1==1))
 let v38:=([((nth a13 a15 Z128).1 !=5)]:List Bool)
 ((v16=true→(InB a15 (len a13)∧(InR (v22-1)∧(((!v24)=true→InR (a15+1))∧(((!v24)=true→InB v28 (len a0))∧((v33=true→((List.length a5+List.length v38:Nat):Int)≤4294967296)∧InR (a15+1))))))),v16,((bif v33 then (a5++v38) else a5),(a15+1),()))
def vU (y:vF6)(x:wS1):Prop:=(uE8 y x).1
def tG0 (y:vF6)(x:wS1):Bool:=(uE8 y x).2.1
def vB5 (y:vF6)(x:wS1):wS1:=(uE8 y x).2.2
instance (y:vF6)(x:wS1):Decidable (vU y x):=by
 unfold vU uE8
 try dsimp only
 infer_instance
def uS8 (y:vF6)(x:wS1):(List Bool):=
 x.1
def uS9:St→Option Out:=xP5 [(0,(.val (.sl T128))),(13,(.val (.sl T128))),(14,vI)] [(5,(.own .bool 1005 false)),(15,vI)] tG0 vB5 vU fun y x=>[ex 2 none [(5,(.own .bool 1005 false))] ((uS8 y x),())]
def oH4 (p0:List D128):Prop×((List Bool)×Int×Unit):=
 let v9:=(f140 p0)
 let v11:=(v9 !=0)
 let y6:=(p0,p0,(len p0),())
 let x6:=(([]:List Bool),(0:Int),())
 (((vN9 p0)∧((!v11)=true→(Am.Ends (tG0 y6) (vB5 y6) (vU y6) x6))),((bif v11 then [] else (uS8 y6 (zC1 (tG0 y6) (vB5 y6) x6))),(bif v11 then v9 else (0:Int)),()))
def tG1 (p0:List D128):Prop:=(oH4 p0).1
def f127 (p0:List D128):((List Bool)×Int×Unit):=(oH4 p0).2
instance (p0:List D128):Decidable (tG1 p0):=by
 unfold tG1 oH4
 try dsimp only
 infer_instance
def sN3:Am.Spec:=fnSpec [(0,(.val (.sl T128)))] (.tup (.cons (.own .bool 0 false) (.cons vI .nl))) [] (fun x=>tG1 x.1) (fun x=>f127 x.1) (fun _=>())
def rK9:Ctx:=Cx tys [(140,vO)] [(6,uS9)] [(19,[(4,0,39,1005)]),(23,[(4,0,1005,0)])] false 42 [] []
theorem rL:CtxOk Tryz.prog rK9:=xW4 xY7 rfl ⟨sC9,trivial⟩ rfl (by kernel_rfl)
noncomputable def qF4:Code:=Tryz.f127.body.getD .skip
noncomputable def qF5:Code:=xX3 qF4 0
theorem rX3:yU9 Tryz.prog rK9 qF5:=xY2 rL mixed (sp:=uS9) rfl [[(5,(.own .bool 1005 false))]] (bs:=[]) (by kernel_rfl) trivial (by kernel_rfl) (by kernel_rfl) fun y x=>by kernel_rfl
theorem oH5:SpecOk Tryz.prog 127 sN3:=xY3 rL mixed Tryz.func127 (by kernel_rfl) (bs:=[qF5]) (by kernel_rfl) ⟨rX3,trivial⟩ fun x=>by kernel_rfl
abbrev wS2:Type:=((List (List D125))×(List (List D125))×Int×Unit)
abbrev wK6:Type:=(Int×Int×Unit)
def vU0 (y:wS2)(x:wK6):Prop×Bool×wK6×Bool×Bool:=
 let a18:=y.2.1
 let a5:=x.1
 let a20:=x.2.1
 let v21:=(decide (a20<y.2.2.1))
 let v26:=(len (nth a18 a20 ([]:List D125)))
 let v27:=(a5+v26)
 let v29:=(decide (v27>4096))
 ((v21=true→(InB a20 (len a18)∧(InR (a5+v26)∧((!v29)=true→InR (a20+1))))),(v21&&(!v29)),(v27,(a20+1),()),(v21&&v29),(!v21))
def vU1 (y:wS2)(x:wK6):Prop:=(vU0 y x).1
def tG2 (y:wS2)(x:wK6):Bool:=(vU0 y x).2.1
def vO5 (y:wS2)(x:wK6):wK6:=(vU0 y x).2.2.1
def tV8 (y:wS2)(x:wK6):Bool:=(vU0 y x).2.2.2.1
def tV9 (y:wS2)(x:wK6):Bool:=(vU0 y x).2.2.2.2
instance (y:wS2)(x:wK6):Decidable (vU1 y x):=by
 unfold vU1 vU0
 try dsimp only
 infer_instance
def uT (y:wS2)(x:wK6):Int:=
 (3:Int)
def uT0:St→Option Out:=xP5 [(0,(.val (.sl (.sl T125)))),(18,(.val (.sl (.sl T125)))),(19,vI)] [(5,vI),(20,vI)] tG2 vO5 vU1 fun y x=>[ex 1 (some (tV8 y x)) [(4,vI)] ((uT y x),()),ex 2 (some (tV9 y x)) [(0,(.val (.sl (.sl T125))))] (y.1,())]
abbrev wM9:Type:=((List (List D125))×Int×Int×(List D125)×Int×Unit)
abbrev wF7:Type:=(Int×Unit)
def vF7 (y:wM9)(x:wF7):Prop×Bool×wF7×Bool×Bool:=
 let a37:=y.2.2.2.1
 let a39:=x.1
 let v40:=(decide (a39<y.2.2.2.2.1))
 let v41:=(nth a37 a39 Z125)
 let v60:=(bif (bif (bif (decide (v41.1<(-16777216))) then true else (decide (v41.1>16777216))) then true else (decide (v41.2.1<(-16777216)))) then true else (decide (v41.2.1>16777216)))
 ((v40=true→(InB a39 (len a37)∧((!v60)=true→InR (a39+1)))),(v40&&(!v60)),((a39+1),()),(v40&&v60),(!v40))
def vJ7 (y:wM9)(x:wF7):Prop:=(vF7 y x).1
def vU2 (y:wM9)(x:wF7):Bool:=(vF7 y x).2.1
def wV4 (y:wM9)(x:wF7):wF7:=(vF7 y x).2.2.1
def tG3 (y:wM9)(x:wF7):Bool:=(vF7 y x).2.2.2.1
def tG4 (y:wM9)(x:wF7):Bool:=(vF7 y x).2.2.2.2
instance (y:wM9)(x:wF7):Decidable (vJ7 y x):=by
 unfold vJ7 vF7
 try dsimp only
 infer_instance
def uE9 (y:wM9)(x:wF7):Int:=
 (2:Int)
def tG5:List (Nat×Sh):=[(31,(.val (.sl (.sl T125)))),(32,vI),(33,vI)]
def uF:St→Option Out:=xP5 [(31,(.val (.sl (.sl T125)))),(32,vI),(33,vI),(37,(.val (.sl T125))),(38,vI)] [(39,vI)] vU2 wV4 vJ7 fun y x=>[ex 1 (some (tG3 y x)) [(4,vI)] ((uE9 y x),()),ex 6 (some (tG4 y x)) tG5 (y.1,y.2.1,y.2.2.1,())]
abbrev wN:Type:=((List (List D125))×Int×Unit)
abbrev wF8:Type:=(Int×Unit)
def vF8 (y:wN)(x:wF8):Prop×Bool×wF8×Bool×Bool:=
 let a31:=y.1
 let a32:=y.2.1
 let a33:=x.1
 let v34:=(decide (a33<a32))
 let v35:=(nth a31 a33 ([]:List D125))
 let y15:=(a31,a32,a33,v35,(len v35),())
 let x15:=((0:Int),())
 let e15:=(zC1 (vU2 y15) (wV4 y15) x15)
 let q15_6:=(tG4 y15 e15)
 ((v34=true→(InB a33 (len a31)∧((Am.Ends (vU2 y15) (wV4 y15) (vJ7 y15) x15)∧(q15_6=true→InR (a33+1))))),(v34&&q15_6),((a33+1),()),(v34&&(tG3 y15 e15)),(!v34))
def vJ8 (y:wN)(x:wF8):Prop:=(vF8 y x).1
def uN4 (y:wN)(x:wF8):Bool:=(vF8 y x).2.1
def vJ9 (y:wN)(x:wF8):wF8:=(vF8 y x).2.2.1
def tG6 (y:wN)(x:wF8):Bool:=(vF8 y x).2.2.2.1
def sZ2 (y:wN)(x:wF8):Bool:=(vF8 y x).2.2.2.2
instance (y:wN)(x:wF8):Decidable (vJ8 y x):=by
 unfold vJ8 vF8
 try dsimp only
 infer_instance
def uF0 (y:wN)(x:wF8):Int:=
 let a31:=y.1
 let a33:=x.1
 let v35:=(nth a31 a33 ([]:List D125))
 let y15:=(a31,y.2.1,a33,v35,(len v35),())
 (uE9 y15 (zC1 (vU2 y15) (wV4 y15) ((0:Int),())))
def uF1:St→Option Out:=xP5 [(31,(.val (.sl (.sl T125)))),(32,vI)] [(33,vI)] uN4 vJ9 vJ8 fun y x=>[ex 1 (some (tG6 y x)) [(4,vI)] ((uF0 y x),()),ex 4 (some (sZ2 y x)) [] ()]
def oH6 (p0:(List (List D125)))(p1:Int):Prop×Int:=
 let v17:=(bif (p1 !=0) then (p1 !=1) else false)
 let y5:=(p0,p0,(len p0),())
 let x5:=((0:Int),(0:Int),())
 let e5:=(zC1 (tG2 y5) (vO5 y5) x5)
 let y12:=(p0,(len p0),())
 let x12:=((0:Int),())
 let e12:=(zC1 (uN4 y12) (vJ9 y12) x12)
 (((!v17)=true→((Am.Ends (tG2 y5) (vO5 y5) (vU1 y5) x5)∧((tV9 y5 e5)=true→(Am.Ends (uN4 y12) (vJ9 y12) (vJ8 y12) x12)))),(bif v17 then (8:Int) else (bif (tV8 y5 e5) then (uT y5 e5) else (bif (tG6 y12 e12) then (uF0 y12 e12) else (0:Int)))))
def uA9 (p0:(List (List D125)))(p1:Int):Prop:=(oH6 p0 p1).1
def f129 (p0:(List (List D125)))(p1:Int):Int:=(oH6 p0 p1).2
instance (p0:(List (List D125)))(p1:Int):Decidable (uA9 p0 p1):=by
 unfold uA9 oH6
 try dsimp only
 infer_instance
def uF2:Am.Spec:=fnSpec [(0,(.val (.sl (.sl T125)))),(1,vI)] vI [] (fun x=>uA9 x.1 x.2.1) (fun x=>f129 x.1 x.2.1) (fun _=>())
def uZ4:Ctx:=Cx tys [] [(5,uT0),(15,uF),(12,uF1)] [] false 63 [] []
theorem uZ5:CtxOk Tryz.prog uZ4:=xW4 xY7 rfl trivial rfl (by kernel_rfl)
noncomputable def sN4:Code:=Tryz.f129.body.getD .skip
noncomputable def qF6:Code:=xX3 sN4 0
theorem rX4:yU9 Tryz.prog uZ4 qF6:=xY2 uZ5 mixed (sp:=uT0) rfl [[(4,vI)],[(0,(.val (.sl (.sl T125))))]] (bs:=[]) (by kernel_rfl) trivial (by kernel_rfl) (by kernel_rfl) fun y x=>by kernel_rfl
noncomputable def sD2:Code:=xX3 sN4 1
noncomputable def rL0:Code:=xX3 sD2 0
theorem sZ3:yU9 Tryz.prog uZ4 rL0:=xY2 uZ5 mixed (sp:=uF) rfl [[(4,vI)],tG5] (bs:=[]) (by kernel_rfl) trivial (by kernel_rfl) (by kernel_rfl) fun y x=>by kernel_rfl
theorem sZ4:yU9 Tryz.prog uZ4 sD2:=xY2 uZ5 mixed (sp:=uF1) rfl [[(4,vI)],[]] (bs:=[rL0]) (by kernel_rfl) ⟨sZ3,trivial⟩ (by kernel_rfl) (by kernel_rfl) fun y x=>by kernel_rfl
theorem sZ5:SpecOk Tryz.prog 129 uF2:=xY3 uZ5 mixed Tryz.func129 (by kernel_rfl) (bs:=[qF6,sD2]) (by kernel_rfl) ⟨rX4,sZ4,trivial⟩ fun x=>by kernel_rfl
def oH7 (p0:Int)(p1:Int)(p2:Int):Prop×Int:=
 let m6_2:=(bif (bif (decide (p0<1)) then true else (decide (p0>4096))) then (2:Int) else (bif (bif (decide (p1<0)) then true else (decide (p1>2))) then (8:Int) else (bif (bif (decide (p2<0)) then true else (decide (p2>2))) then (8:Int) else (0:Int))))
 (True,m6_2)
def tG7 (p0:Int)(p1:Int)(p2:Int):Prop:=(oH7 p0 p1 p2).1
def f145 (p0:Int)(p1:Int)(p2:Int):Int:=(oH7 p0 p1 p2).2
instance (p0:Int)(p1:Int)(p2:Int):Decidable (tG7 p0 p1 p2):=by
 unfold tG7 oH7
 try dsimp only
 infer_instance
def sN5:Am.Spec:=fnSpec [(0,vI),(1,vI),(2,vI)] vI [] (fun x=>tG7 x.1 x.2.1 x.2.2.1) (fun x=>f145 x.1 x.2.1 x.2.2.1) (fun _=>())
def pE1:Ctx:=Cx tys [] [] [] false 25 [] []
theorem pE2:CtxOk Tryz.prog pE1:=xW4 xY7 rfl trivial rfl (by kernel_rfl)
theorem oH8:SpecOk Tryz.prog 145 sN5:=xY3 pE2 mixed Tryz.func145 (by kernel_rfl) (bs:=[]) (by kernel_rfl) trivial fun x=>by kernel_rfl
abbrev vF9:Type:=(Bool×(List D125)×Int×Unit)
abbrev wS3:Type:=((List D125)×Int×Unit)
def uF3 (y:vF9)(x:wS3):Prop×Bool×wS3:=
 let a8:=y.2.1
 let a5:=x.1
 let a10:=x.2.1
 let v11:=(decide (a10<y.2.2.1))
 let v12:=(nth a8 a10 Z125)
 let v16:=((len a5)==0)
 let v21:=(len a5)
 let v22:=(v21-1)
 let v26:=(bif v16 then true else (!(Ty.eqb T125 v12 (nth a5 v22 Z125))))
 let v29:=([v12]:List D125)
 ((v11=true→(InB a10 (len a8)∧(((!v16)=true→InR (v21-1))∧(((!v16)=true→InB v22 (len a5))∧((v26=true→((List.length a5+List.length v29:Nat):Int)≤4294967296)∧InR (a10+1)))))),v11,((bif v26 then (a5++v29) else a5),(a10+1),()))
def wX0 (y:vF9)(x:wS3):Prop:=(uF3 y x).1
def wZ (y:vF9)(x:wS3):Bool:=(uF3 y x).2.1
def wE8 (y:vF9)(x:wS3):wS3:=(uF3 y x).2.2
instance (y:vF9)(x:wS3):Decidable (wX0 y x):=by
 unfold wX0 uF3
 try dsimp only
 infer_instance
def uT1 (y:vF9)(x:wS3):(List D125):=
 x.1
def tW:List (Nat×Sh):=[(1,vB),(5,(.own T125 1005 false))]
def uT2:St→Option Out:=xP5 [(1,vB),(8,(.val (.sl T125))),(9,vI)] [(5,(.own T125 1005 false)),(10,vI)] wZ wE8 wX0 fun y x=>[ex 2 none tW (y.1,(uT1 y x),())]
abbrev vG:Type:=(Bool×Unit)
abbrev wK7:Type:=((List D125)×Unit)
def uZ6 (y:vG)(x:wK7):Prop×Bool×wK7:=
 let a5:=x.1
 let v38:=(bif (!y.1) then (decide ((len a5)>1)) else false)
 let v42:=(len a5)
 let v43:=(v42-1)
 let v50:=(bif v38 then (Ty.eqb T125 (nth a5 v43 Z125) (nth a5 (0:Int) Z125)) else false)
 let v53:=(len a5)
 let v54:=(v53-1)
 (((v38=true→InR (v42-1))∧((v38=true→InB v43 (len a5))∧((v38=true→InB (0:Int) (len a5))∧(v50=true→(InR (v53-1)∧(0≤v54∧v54≤len a5)))))),v50,((List.take (Int.toNat v54) a5),()))
def wX1 (y:vG)(x:wK7):Prop:=(uZ6 y x).1
def vG0 (y:vG)(x:wK7):Bool:=(uZ6 y x).2.1
def wH1 (y:vG)(x:wK7):wK7:=(uZ6 y x).2.2
instance (y:vG)(x:wK7):Decidable (wX1 y x):=by
 unfold wX1 uZ6
 try dsimp only
 infer_instance
def uT3 (y:vG)(x:wK7):(List D125):=
 x.1
def uT4:St→Option Out:=xP5 [(1,vB)] [(5,(.val (.sl T125)))] vG0 wH1 wX1 fun y x=>[ex 4 none [(5,(.val (.sl T125)))] ((uT3 y x),())]
def oH9 (p0:List D125)(p1:Bool):Prop×(List D125):=
 let y3:=(p1,p0,(len p0),())
 let x3:=(([]:List D125),(0:Int),())
 let y8:=(p1,())
 let x8:=((uT1 y3 (zC1 (wZ y3) (wE8 y3) x3)),())
 (((Am.Ends (wZ y3) (wE8 y3) (wX0 y3) x3)∧(Am.Ends (vG0 y8) (wH1 y8) (wX1 y8) x8)),(uT3 y8 (zC1 (vG0 y8) (wH1 y8) x8)))
def tG8 (p0:List D125)(p1:Bool):Prop:=(oH9 p0 p1).1
def f157 (p0:List D125)(p1:Bool):List D125:=(oH9 p0 p1).2
instance (p0:List D125)(p1:Bool):Decidable (tG8 p0 p1):=by
 unfold tG8 oH9
 try dsimp only
 infer_instance
def sN6:Am.Spec:=fnSpec [(0,(.val (.sl T125))),(1,vB)] (.val (.sl T125)) [] (fun x=>tG8 x.1 x.2.1) (fun x=>f157 x.1 x.2.1) (fun _=>())
def sD3:Ctx:=Cx tys [] [(3,uT2),(8,uT4)] [(13,[(4,0,30,1005)])] false 57 [] []
theorem sD4:CtxOk Tryz.prog sD3:=xW4 xY7 rfl trivial rfl (by kernel_rfl)
noncomputable def sN7:Code:=Tryz.f157.body.getD .skip
noncomputable def qF7:Code:=xX3 sN7 0
theorem rX5:yU9 Tryz.prog sD3 qF7:=xY2 sD4 mixed (sp:=uT2) rfl [tW] (bs:=[]) (by kernel_rfl) trivial (by kernel_rfl) (by kernel_rfl) fun y x=>by kernel_rfl
noncomputable def qF8:Code:=xX3 sN7 1
theorem rX6:yU9 Tryz.prog sD3 qF8:=xY2 sD4 mixed (sp:=uT4) rfl [[(5,(.val (.sl T125)))]] (bs:=[]) (by kernel_rfl) trivial (by kernel_rfl) (by kernel_rfl) fun y x=>by kernel_rfl
theorem oI:SpecOk Tryz.prog 157 sN6:=xY3 sD4 mixed Tryz.func157 (by kernel_rfl) (bs:=[qF7,qF8]) (by kernel_rfl) ⟨rX5,rX6,trivial⟩ fun x=>by kernel_rfl
def oI0 (p0:D125)(p1:D125):Prop×D125:=
 (True,((IntKind.wrap .i64 (p0.1-p1.1)),(IntKind.wrap .i64 (p0.2.1-p1.2.1)),()))
def wH2 (p0:D125)(p1:D125):Prop:=(oI0 p0 p1).1
def f162 (p0:D125)(p1:D125):D125:=(oI0 p0 p1).2
instance (p0:D125)(p1:D125):Decidable (wH2 p0 p1):=by
 unfold wH2 oI0
 try dsimp only
 infer_instance
def vO6:Am.Spec:=fnSpec [(0,(.val T125)),(1,(.val T125))] (.val T125) [] (fun x=>wH2 x.1 x.2.1) (fun x=>f162 x.1 x.2.1) (fun _=>())
def pE3:Ctx:=Cx tys [] [] [] true 16 [] []
theorem pE4:CtxOk Tryz.prog pE3:=xW4 xY7 rfl trivial rfl (by kernel_rfl)
theorem sD5:SpecOk Tryz.prog 162 vO6:=xY3 pE4 mixed Tryz.func162 (by kernel_rfl) (bs:=[]) (by kernel_rfl) trivial fun x=>by kernel_rfl
def oI1 (p0:Int)(p1:Int):Prop×(Int×Int×Unit):=
 let v15:=(xY4 .u64 p0 (4294967295:Int))
 let v17:=(xY5 p0 (32:Int) 64)
 let v19:=(xY4 .u64 p1 (4294967295:Int))
 let v21:=(xY5 p1 (32:Int) 64)
 let v30:=(IntKind.wrap .u64 ((IntKind.wrap .u64 (v17*v19))+(xY5 (IntKind.wrap .u64 (v15*v19)) (32:Int) 64)))
 let v47:=(IntKind.wrap .u64 ((IntKind.wrap .u64 ((IntKind.wrap .u64 (v17*v21))+(xY5 v30 (32:Int) 64)))+(xY5 (IntKind.wrap .u64 ((xY4 .u64 v30 (4294967295:Int))+(IntKind.wrap .u64 (v15*v21)))) (32:Int) 64)))
 (True,(v47,(IntKind.wrap .u64 (p0*p1)),()))
def uB (p0:Int)(p1:Int):Prop:=(oI1 p0 p1).1
def f187 (p0:Int)(p1:Int):(Int×Int×Unit):=(oI1 p0 p1).2
instance (p0:Int)(p1:Int):Decidable (uB p0 p1):=by
 unfold uB oI1
 try dsimp only
 infer_instance
def sN8:Am.Spec:=fnSpec [(0,(.val (.int .u64))),(1,(.val (.int .u64)))] (.tup (.cons (.val (.int .u64)) (.cons (.val (.int .u64)) .nl))) [] (fun x=>uB x.1 x.2.1) (fun x=>f187 x.1 x.2.1) (fun _=>())
def pE5:Ctx:=Cx tys [] [] [] true 51 [] []
theorem pE6:CtxOk Tryz.prog pE5:=xW4 xY7 rfl trivial rfl (by kernel_rfl)
theorem oI2:SpecOk Tryz.prog 187 sN8:=xY3 pE6 mixed Tryz.func187 (by kernel_rfl) (bs:=[]) (by kernel_rfl) trivial fun x=>by kernel_rfl
def oI3 (p0:Int):Prop×Int:=
 (True,(bif (decide (p0<0)) then (IntKind.wrap .u64 (Int.sub 0 (IntKind.wrap .u64 p0))) else (IntKind.wrap .u64 p0)))
def vO7 (p0:Int):Prop:=(oI3 p0).1
def f188 (p0:Int):Int:=(oI3 p0).2
instance (p0:Int):Decidable (vO7 p0):=by
 unfold vO7 oI3
 try dsimp only
 infer_instance
def sN9:Am.Spec:=fnSpec [(0,vI)] (.val (.int .u64)) [] (fun x=>vO7 x.1) (fun x=>f188 x.1) (fun _=>())
def pE7:Ctx:=Cx tys [] [] [] true 10 [] []
theorem pE8:CtxOk Tryz.prog pE7:=xW4 xY7 rfl trivial rfl (by kernel_rfl)
theorem oI4:SpecOk Tryz.prog 188 sN9:=xY3 pE8 mixed Tryz.func188 (by kernel_rfl) (bs:=[]) (by kernel_rfl) trivial fun x=>by kernel_rfl
abbrev wZ0:Type:=(Int×Int×Unit)
abbrev wS4:Type:=(Int×Int×Unit)
def uZ7 (y:wZ0)(x:wS4):Prop×Bool×wS4:=
 let a5:=y.1
 let a10:=x.1
 let a11:=x.2.1
 let v43:=(a11 !=0)
 let v48:=(ior .u64 a10 a11)
 let v52:=(f187 v48 v48)
 ((v43=true→(uB v48 v48)),v43,((bif (bif (decide (v52.1<a5)) then true else (bif (v52.1==a5) then (decide (v52.2.1≤y.2.1)) else false)) then v48 else a10),(xY5 a11 (1:Int) 64),()))
def vG1 (y:wZ0)(x:wS4):Prop:=(uZ7 y x).1
def uF4 (y:wZ0)(x:wS4):Bool:=(uZ7 y x).2.1
def wS5 (y:wZ0)(x:wS4):wS4:=(uZ7 y x).2.2
instance (y:wZ0)(x:wS4):Decidable (vG1 y x):=by
 unfold vG1 uZ7
 try dsimp only
 infer_instance
def uT5 (y:wZ0)(x:wS4):Int:=
 x.1
def uT6:St→Option Out:=xP5 [(5,(.val (.int .u64))),(6,(.val (.int .u64)))] [(10,(.val (.int .u64))),(11,(.val (.int .u64)))] uF4 wS5 vG1 fun y x=>[ex 2 none [(10,(.val (.int .u64)))] ((uT5 y x),())]
def oI5 (p0:Int)(p1:Int):Prop×Int:=
 let v15:=(f188 p0)
 let v17:=(f188 p0)
 let v18:=(f187 v15 v17)
 let v23:=(f188 p1)
 let v25:=(f188 p1)
 let v26:=(f187 v23 v25)
 let v34:=(((Int.toNat v18.2.1+Int.toNat v26.2.1+Int.toNat (0:Int)) / 18446744073709551616:Nat):Int)
 let y7:=((((Int.toNat v18.1+Int.toNat v26.1+Int.toNat v34) % 18446744073709551616:Nat):Int),(((Int.toNat v18.2.1+Int.toNat v26.2.1+Int.toNat (0:Int)) % 18446744073709551616:Nat):Int),())
 let x7:=((0:Int),(9223372036854775808:Int),())
 let r7_2_0:=(uT5 y7 (zC1 (uF4 y7) (wS5 y7) x7))
 (((vO7 p0)∧((vO7 p0)∧((uB v15 v17)∧((vO7 p1)∧((vO7 p1)∧((uB v23 v25)∧((0≤(0:Int)∧(0:Int)≤1)∧((0≤v34∧v34≤1)∧(Am.Ends (uF4 y7) (wS5 y7) (vG1 y7) x7))))))))),(bif (decide (r7_2_0>9223372036854775807)) then (9223372036854775807:Int) else (IntKind.wrap .i64 r7_2_0)))
def uN5 (p0:Int)(p1:Int):Prop:=(oI5 p0 p1).1
def f179 (p0:Int)(p1:Int):Int:=(oI5 p0 p1).2
instance (p0:Int)(p1:Int):Decidable (uN5 p0 p1):=by
 unfold uN5 oI5
 try dsimp only
 infer_instance
def tG9:Am.Spec:=fnSpec [(0,vI),(1,vI)] vI [] (fun x=>uN5 x.1 x.2.1) (fun x=>f179 x.1 x.2.1) (fun _=>())
def rL1:Ctx:={ Cx tys [(187,sN8),(188,sN9)] [(7,uT6)] [] true 73 [] [] with exts:=[(189,yX6)] }
theorem rL2:CtxOk Tryz.prog rL1:=xV0 xY7 rfl ⟨oI2,oI4,trivial⟩ ⟨pZ6,trivial⟩ (by kernel_rfl)
noncomputable def qF9:Code:=Tryz.f179.body.getD .skip
noncomputable def qG:Code:=xX3 qF9 0
theorem rX7:yU9 Tryz.prog rL1 qG:=xY2 rL2 mixed (sp:=uT6) rfl [[(10,(.val (.int .u64)))]] (bs:=[]) (by kernel_rfl) trivial (by kernel_rfl) (by kernel_rfl) fun y x=>by kernel_rfl
theorem qG0:SpecOk Tryz.prog 179 tG9:=xY3 rL2 mixed Tryz.func179 (by kernel_rfl) (bs:=[qG]) (by kernel_rfl) ⟨rX7,trivial⟩ fun x=>by kernel_rfl
def oI6 (p0:D125)(p1:D125)(p2:Int):Prop×D205:=
 let v11:=(f162 p1 p0)
 let v14:=(IntKind.wrap .i64 (16*v11.1))
 let v17:=(IntKind.wrap .i64 (16*v11.2.1))
 let v18:=(f179 v14 v17)
 let v26:=(IntKind.wrap .i64 ((IntKind.wrap .i64 ((-8)*p2))*v11.2.1))
 let v33:=(IntKind.wrap .i64 ((IntKind.wrap .i64 (8*p2))*v11.1))
 let v41:=(IntKind.wrap .i64 ((IntKind.wrap .i64 (8*p2))*v11.1))
 let v48:=(IntKind.wrap .i64 ((IntKind.wrap .i64 (8*p2))*v11.2.1))
 (((wH2 p1 p0)∧((uN5 v14 v17)∧((wA9 v26 v18)∧((wA9 v33 v18)∧((wA9 v41 v18)∧(wA9 v48 v18)))))),(p0,p1,v11,((f108 v26 v18),(f108 v33 v18),()),((f108 v41 v18),(f108 v48 v18),()),()))
def uN6 (p0:D125)(p1:D125)(p2:Int):Prop:=(oI6 p0 p1 p2).1
def f175 (p0:D125)(p1:D125)(p2:Int):D205:=(oI6 p0 p1 p2).2
instance (p0:D125)(p1:D125)(p2:Int):Decidable (uN6 p0 p1 p2):=by
 unfold uN6 oI6
 try dsimp only
 infer_instance
def sO:Am.Spec:=fnSpec [(0,(.val T125)),(1,(.val T125)),(2,vI)] (.val T205) [] (fun x=>uN6 x.1 x.2.1 x.2.2.1) (fun x=>f175 x.1 x.2.1 x.2.2.1) (fun _=>())
def pE9:Ctx:=Cx tys [(108,wF3),(162,vO6),(179,tG9)] [] [] true 53 [] []
theorem pF:CtxOk Tryz.prog pE9:=xW4 xY7 rfl ⟨wY6,sD5,qG0,trivial⟩ rfl (by kernel_rfl)
theorem oI7:SpecOk Tryz.prog 175 sO:=xY3 pF mixed Tryz.func175 (by kernel_rfl) (bs:=[]) (by kernel_rfl) trivial fun x=>by kernel_rfl
abbrev vG2:Type:=((List D125)×Bool×Int×Unit)
abbrev wS6:Type:=((List D205)×Int×Unit)
def uF5 (y:vG2)(x:wS6):Prop×Bool×wS6:=
 let a0:=y.1
 let a2:=y.2.2.1
 let a7:=x.1
 let a8:=x.2.1
 let v12:=(decide (a8<(len a0)))
 let v18:=(a8-1)
 let v19:=(nth a0 v18 Z125)
 let v23:=(nth a0 a8 Z125)
 let v27:=([(f175 v19 v23 a2)]:List D205)
 ((v12=true→(InR (a8-1)∧(InB v18 (len a0)∧(InB a8 (len a0)∧((uN6 v19 v23 a2)∧(((List.length a7+List.length v27:Nat):Int)≤4294967296∧InR (a8+1))))))),v12,((a7++v27),(a8+1),()))
def wX2 (y:vG2)(x:wS6):Prop:=(uF5 y x).1
def vG3 (y:vG2)(x:wS6):Bool:=(uF5 y x).2.1
def wH3 (y:vG2)(x:wS6):wS6:=(uF5 y x).2.2
instance (y:vG2)(x:wS6):Decidable (wX2 y x):=by
 unfold wX2 uF5
 try dsimp only
 infer_instance
def vB6 (y:vG2)(x:wS6):(List D205):=
 x.1
def tW0:List (Nat×Sh):=[(0,(.val (.sl T125))),(1,vB),(2,vI),(7,(.own T205 1007 false))]
def uT7:St→Option Out:=xP5 [(0,(.val (.sl T125))),(1,vB),(2,vI)] [(7,(.own T205 1007 false)),(8,vI)] vG3 wH3 wX2 fun y x=>[ex 2 none tW0 (y.1,y.2.1,y.2.2.1,(vB6 y x),())]
def pF0 (p0:List D125)(p1:Bool)(p2:Int):Prop×(List D205):=
 let y3:=(p0,p1,p2,())
 let x3:=(([]:List D205),(1:Int),())
 let r3_2_0:=(vB6 y3 (zC1 (vG3 y3) (wH3 y3) x3))
 let v35:=(bif (!p1) then (decide ((len p0)>1)) else false)
 let v39:=(len p0)
 let v40:=(v39-1)
 let v41:=(nth p0 v40 Z125)
 let v44:=(nth p0 (0:Int) Z125)
 let v48:=([(f175 v41 v44 p2)]:List D205)
 (((Am.Ends (vG3 y3) (wH3 y3) (wX2 y3) x3)∧(v35=true→(InR (v39-1)∧(InB v40 (len p0)∧(InB (0:Int) (len p0)∧((uN6 v41 v44 p2)∧((List.length r3_2_0+List.length v48:Nat):Int)≤4294967296)))))),(bif v35 then (r3_2_0++v48) else r3_2_0))
def tH (p0:List D125)(p1:Bool)(p2:Int):Prop:=(pF0 p0 p1 p2).1
def f158 (p0:List D125)(p1:Bool)(p2:Int):List D205:=(pF0 p0 p1 p2).2
instance (p0:List D125)(p1:Bool)(p2:Int):Decidable (tH p0 p1 p2):=by
 unfold tH pF0
 try dsimp only
 infer_instance
def sO0:Am.Spec:=fnSpec [(0,(.val (.sl T125))),(1,vB),(2,vI)] (.own T205 0 false) [] (fun x=>tH x.1 x.2.1 x.2.2.1) (fun x=>f158 x.1 x.2.1 x.2.2.1) (fun _=>())
def rL3:Ctx:=Cx tys [(175,sO)] [(3,uT7)] [(11,[(4,0,28,1007)]),(15,[(4,0,49,1007)]),(17,[(4,0,1007,0)])] false 51 [] []
theorem rL4:CtxOk Tryz.prog rL3:=xW4 xY7 rfl ⟨oI7,trivial⟩ rfl (by kernel_rfl)
noncomputable def qG1:Code:=Tryz.f158.body.getD .skip
noncomputable def qG2:Code:=xX3 qG1 0
theorem rX8:yU9 Tryz.prog rL3 qG2:=xY2 rL4 mixed (sp:=uT7) rfl [tW0] (bs:=[]) (by kernel_rfl) trivial (by kernel_rfl) (by kernel_rfl) fun y x=>by kernel_rfl
theorem oI8:SpecOk Tryz.prog 158 sO0:=xY3 rL4 mixed Tryz.func158 (by kernel_rfl) (bs:=[qG2]) (by kernel_rfl) ⟨rX8,trivial⟩ fun x=>by kernel_rfl
abbrev vG4:Type:=((List D125)×(List D125)×Int×Unit)
abbrev wS7:Type:=(Int×Int×Unit)
def uF6 (y:vG4)(x:wS7):Prop×Bool×wS7:=
 let a0:=y.1
 let a7:=y.2.1
 let a9:=x.2.1
 let v10:=(decide (a9<y.2.2.1))
 let v12:=(nth a7 a9 Z125)
 let v18:=(len a0)
 let v19:=(Int.tmod (IntKind.wrap .i64 (a9+1)) v18)
 let v20:=(nth a0 v19 Z125)
 ((v10=true→(InB a9 (len a7)∧(v18≠0∧InB v19 (len a0)))),v10,((IntKind.wrap .i64 (x.1+(IntKind.wrap .i64 ((IntKind.wrap .i64 (v12.1*v20.2.1))-(IntKind.wrap .i64 (v20.1*v12.2.1)))))),(IntKind.wrap .i64 (a9+1)),()))
def vU3 (y:vG4)(x:wS7):Prop:=(uF6 y x).1
def tH0 (y:vG4)(x:wS7):Bool:=(uF6 y x).2.1
def vB7 (y:vG4)(x:wS7):wS7:=(uF6 y x).2.2
instance (y:vG4)(x:wS7):Decidable (vU3 y x):=by
 unfold vU3 uF6
 try dsimp only
 infer_instance
def uT8 (y:vG4)(x:wS7):Int:=
 x.1
def uT9:St→Option Out:=xP5 [(0,(.val (.sl T125))),(7,(.val (.sl T125))),(8,vI)] [(3,vI),(9,vI)] tH0 vB7 vU3 fun y x=>[ex 2 none [(3,vI)] ((uT8 y x),())]
def oI9 (p0:List D125):Prop×Int:=
 let y3:=(p0,p0,(len p0),())
 let x3:=((0:Int),(0:Int),())
 ((Am.Ends (tH0 y3) (vB7 y3) (vU3 y3) x3),(uT8 y3 (zC1 (tH0 y3) (vB7 y3) x3)))
def tH1 (p0:List D125):Prop:=(oI9 p0).1
def f177 (p0:List D125):Int:=(oI9 p0).2
instance (p0:List D125):Decidable (tH1 p0):=by
 unfold tH1 oI9
 try dsimp only
 infer_instance
def sO1:Am.Spec:=fnSpec [(0,(.val (.sl T125)))] vI [] (fun x=>tH1 x.1) (fun x=>f177 x.1) (fun _=>())
def rL5:Ctx:=Cx tys [] [(3,uT9)] [] true 37 [] []
theorem rL6:CtxOk Tryz.prog rL5:=xW4 xY7 rfl trivial rfl (by kernel_rfl)
noncomputable def qG3:Code:=Tryz.f177.body.getD .skip
noncomputable def qG4:Code:=xX3 qG3 0
theorem rX9:yU9 Tryz.prog rL5 qG4:=xY2 rL6 mixed (sp:=uT9) rfl [[(3,vI)]] (bs:=[]) (by kernel_rfl) trivial (by kernel_rfl) (by kernel_rfl) fun y x=>by kernel_rfl
theorem oJ:SpecOk Tryz.prog 177 sO1:=xY3 rL6 mixed Tryz.func177 (by kernel_rfl) (bs:=[qG4]) (by kernel_rfl) ⟨rX9,trivial⟩ fun x=>by kernel_rfl
def f178 (_p0:List D125):Unit:=()
def rL7 (p0:List D125):(List D125)×Unit:=(List.reverse p0,())
def sZ6 (_p0:List D125):Prop:=True
instance (p0:List D125):Decidable (sZ6 p0):=isTrue trivial
def oJ0:List (Nat×Sh):=[(0,(.own T125 400000 true))]
def oJ1:Sh:=(.tup .nl)
def oJ2:List (Nat×Sh):=[(0,(.own T125 400000 true))]
def sO2:Am.Spec:=fnSpec oJ0 oJ1 oJ2 (fun x=>sZ6 x.1) (fun x=>f178 x.1) (fun x=>rL7 x.1)
theorem oJ3:SpecOk Tryz.prog 178 sO2:=qY1 (by decide) rfl ⟨_,Tryz.func178,by kernel_rfl,by decide⟩ nB7
def oJ4 (p0:D125)(p1:D125):Prop×D125:=
 (True,((IntKind.wrap .i64 (p0.1+p1.1)),(IntKind.wrap .i64 (p0.2.1+p1.2.1)),()))
def wD0 (p0:D125)(p1:D125):Prop:=(oJ4 p0 p1).1
def f161 (p0:D125)(p1:D125):D125:=(oJ4 p0 p1).2
instance (p0:D125)(p1:D125):Decidable (wD0 p0 p1):=by
 unfold wD0 oJ4
 try dsimp only
 infer_instance
def vG5:Am.Spec:=fnSpec [(0,(.val T125)),(1,(.val T125))] (.val T125) [] (fun x=>wD0 x.1 x.2.1) (fun x=>f161 x.1 x.2.1) (fun _=>())
def pF1:Ctx:=Cx tys [] [] [] true 16 [] []
theorem pF2:CtxOk Tryz.prog pF1:=xW4 xY7 rfl trivial rfl (by kernel_rfl)
theorem tH2:SpecOk Tryz.prog 161 vG5:=xY3 pF2 mixed Tryz.func161 (by kernel_rfl) (bs:=[]) (by kernel_rfl) trivial fun x=>by kernel_rfl
def oJ5 (p0:Int):Prop×Int:=
 let v5:=(IntKind.wrap .i64 (Int.tdiv p0 (256:Int)))
 let v7:=(decide (v5≥64))
 let v14:=(IntKind.wrap .i64 (v5+1))
 let v25:=(IntKind.wrap .i64 ((IntKind.wrap .i64 ((nth G5 v14 (0:Int))-(nth G5 v5 (0:Int))))*(IntKind.wrap .i64 (p0-(IntKind.wrap .i64 (256*v5))))))
 (((v7=true→InB (64:Int) 65)∧((!v7)=true→(InB v5 65∧(InB v14 65∧(InB v5 65∧(wA9 v25 (256:Int))))))),(bif v7 then (nth G5 (64:Int) (0:Int)) else (IntKind.wrap .i64 ((nth G5 v5 (0:Int))+(f108 v25 (256:Int))))))
def vO8 (p0:Int):Prop:=(oJ5 p0).1
def f202 (p0:Int):Int:=(oJ5 p0).2
instance (p0:Int):Decidable (vO8 p0):=by
 unfold vO8 oJ5
 try dsimp only
 infer_instance
def sO3:Am.Spec:=fnSpec [(0,vI)] vI [] (fun x=>vO8 x.1) (fun x=>f202 x.1) (fun _=>())
def pF3:Ctx:=Cx tys [(108,wF3)] [] [] true 28 [] []
theorem pF4:CtxOk Tryz.prog pF3:=xW4 xY7 rfl ⟨wY6,trivial⟩ rfl (by kernel_rfl)
theorem oJ6:SpecOk Tryz.prog 202 sO3:=xY3 pF4 mixed Tryz.func202 (by kernel_rfl) (bs:=[]) (by kernel_rfl) trivial fun x=>by kernel_rfl
def pF5 (p0:Int):Prop×Int:=
 let v6:=(IntKind.wrap .i64 (Int.tdiv p0 (16384:Int)))
 let v10:=(IntKind.wrap .i64 (p0-(IntKind.wrap .i64 (16384*v6))))
 let v13:=(v6==0)
 let v17:=(v6==1)
 let v19:=(IntKind.wrap .i64 (16384-v10))
 let v22:=(v6==2)
 let v27:=(IntKind.wrap .i64 (16384-v10))
 let m2_2:=(bif (bif v13 then true else (bif v17 then true else v22)) then (bif v13 then (f202 v10) else (bif v17 then (f202 v19) else (IntKind.wrap .i64 (Int.sub 0 (f202 v10))))) else (IntKind.wrap .i64 (Int.sub 0 (f202 v27))))
 (((v13=true→(vO8 v10))∧((v13=false→((v17=true→(vO8 v19))∧(v17=false→(v22=true→(vO8 v10)))))∧((((!v22)&&(!v17))&&(!v13))=true→(vO8 v27)))),m2_2)
def vO9 (p0:Int):Prop:=(pF5 p0).1
def f197 (p0:Int):Int:=(pF5 p0).2
instance (p0:Int):Decidable (vO9 p0):=by
 unfold vO9 pF5
 try dsimp only
 infer_instance
def sO4:Am.Spec:=fnSpec [(0,vI)] vI [] (fun x=>vO9 x.1) (fun x=>f197 x.1) (fun _=>())
def pF6:Ctx:=Cx tys [(202,sO3)] [] [] true 30 [] []
theorem pF7:CtxOk Tryz.prog pF6:=xW4 xY7 rfl ⟨oJ6,trivial⟩ rfl (by kernel_rfl)
theorem oJ7:SpecOk Tryz.prog 197 sO4:=xY3 pF7 mixed Tryz.func197 (by kernel_rfl) (bs:=[]) (by kernel_rfl) trivial fun x=>by kernel_rfl
def oJ8 (p0:Int):Prop×(Int×Int×Unit):=
 let v6:=(xY4 .i64 p0 (65535:Int))
 let v11:=(Int.tmod (IntKind.wrap .i64 (v6+16384)) (65536:Int))
 (((vO9 v6)∧(vO9 v11)),((f197 v6),(f197 v11),()))
def tH3 (p0:Int):Prop:=(oJ8 p0).1
def f186 (p0:Int):(Int×Int×Unit):=(oJ8 p0).2
instance (p0:Int):Decidable (tH3 p0):=by
 unfold tH3 oJ8
 try dsimp only
 infer_instance
def sO5:Am.Spec:=fnSpec [(0,vI)] (.tup (.cons vI (.cons vI .nl))) [] (fun x=>tH3 x.1) (fun x=>f186 x.1) (fun _=>())
def pF8:Ctx:=Cx tys [(197,sO4)] [] [] true 13 [] []
theorem pF9:CtxOk Tryz.prog pF8:=xW4 xY7 rfl ⟨oJ7,trivial⟩ rfl (by kernel_rfl)
theorem oJ9:SpecOk Tryz.prog 186 sO5:=xY3 pF9 mixed Tryz.func186 (by kernel_rfl) (bs:=[]) (by kernel_rfl) trivial fun x=>by kernel_rfl
abbrev vG6:Type:=(Int×D125×Int×Unit)
abbrev wS8:Type:=((List D125)×Int×Unit)
def uF7 (y:vG6)(x:wS8):Prop×Bool×wS8:=
 let a1:=y.1
 let a2:=y.2.1
 let a5:=x.1
 let a12:=x.2.1
 let v13:=(decide (a12<y.2.2.1))
 let v17:=(IntKind.wrap .i64 (4096*a12))
 let v18:=(f186 v17)
 let v26:=(IntKind.wrap .i64 (a1*v18.2.1))
 let v30:=(IntKind.wrap .i64 (a1*v18.1))
 let s:=((f108 v26 (131072:Int)),(f108 v30 (131072:Int)),())
 ((v13=true→((tH3 v17)∧((wA9 v26 (131072:Int))∧((wA9 v30 (131072:Int))∧((wD0 a2 s)∧(InB a12 (len a5)∧a12<len a5)))))),v13,((List.set a5 (Int.toNat a12) (f161 a2 s)),(IntKind.wrap .i64 (a12+1)),()))
def wX3 (y:vG6)(x:wS8):Prop:=(uF7 y x).1
def vG7 (y:vG6)(x:wS8):Bool:=(uF7 y x).2.1
def wH4 (y:vG6)(x:wS8):wS8:=(uF7 y x).2.2
instance (y:vG6)(x:wS8):Decidable (wX3 y x):=by
 unfold wX3 uF7
 try dsimp only
 infer_instance
def vP (y:vG6)(x:wS8):(List D125):=
 x.1
def uU:St→Option Out:=xP5 [(1,vI),(2,(.box T125 (.val T125))),(11,vI)] [(5,(.own T125 1005 true)),(12,vI)] vG7 wH4 wX3 fun y x=>[ex 2 none [(5,(.own T125 1005 true))] ((vP y x),())]
def pG (p0:D125)(p1:Int):Prop×(List D125):=
 let v9:=(List.replicate (Int.toNat (16:Int)) Z125)
 let y3:=(p1,p0,(len v9),())
 let x3:=(v9,(0:Int),())
 (((0≤(16:Int)∧(16:Int)≤(16:Int)∧(16:Int)≤4294967296)∧(Am.Ends (vG7 y3) (wH4 y3) (wX3 y3) x3)),(vP y3 (zC1 (vG7 y3) (wH4 y3) x3)))
def vP0 (p0:D125)(p1:Int):Prop:=(pG p0 p1).1
def f176 (p0:D125)(p1:Int):List D125:=(pG p0 p1).2
instance (p0:D125)(p1:Int):Decidable (vP0 p0 p1):=by
 unfold vP0 pG
 try dsimp only
 infer_instance
def uF8:Am.Spec:=fnSpec [(0,(.val T125)),(1,vI)] (.own T125 0 true) [] (fun x=>vP0 x.1 x.2.1) (fun x=>f176 x.1 x.2.1) (fun _=>())
def rL8:Ctx:=Cx tys [(108,wF3),(161,vG5),(186,sO5)] [(3,uU)] [(3,[(4,0,9,1005)]),(17,[(4,0,1005,0)])] true 37 [] [9]
theorem rL9:CtxOk Tryz.prog rL8:=xW4 xY7 rfl ⟨wY6,tH2,oJ9,trivial⟩ rfl (by kernel_rfl)
noncomputable def qG5:Code:=Tryz.f176.body.getD .skip
noncomputable def qG6:Code:=xX3 qG5 0
theorem rY:yU9 Tryz.prog rL8 qG6:=xY2 rL9 mixed (sp:=uU) rfl [[(5,(.own T125 1005 true))]] (bs:=[]) (by kernel_rfl) trivial (by kernel_rfl) (by kernel_rfl) fun y x=>by kernel_rfl
theorem sZ7:SpecOk Tryz.prog 176 uF8:=xY3 rL9 mixed Tryz.func176 (by kernel_rfl) (bs:=[qG6]) (by kernel_rfl) ⟨rY,trivial⟩ fun x=>by kernel_rfl
def uF9 (p0:(Int×Int×Int×(List (List D125))×Int×Unit))(p1:List D125):Prop×(Unit)×((Int×Int×Int×(List (List D125))×Int×Unit)×Unit):=
 let v6:=(f177 p1)
 let v8:=(v6==0)
 let v10:=(decide (v6<0))
 let m1:=(bif v10 then (rL7 p1).1 else p1)
 let v19:=([m1]:List (List D125))
 let s:=((bif v8 then p0.1 else p0.1),(bif v8 then p0.2.1 else p0.2.1),(bif v8 then p0.2.2.1 else p0.2.2.1),(bif v8 then p0.2.2.2.1 else (p0.2.2.2.1++v19)),(bif v8 then p0.2.2.2.2.1 else (IntKind.wrap .i64 (p0.2.2.2.2.1+(len m1)))),())
 (((tH1 p1)∧((!v8)=true→((v10=true→((sZ6 p1)∧(0<List.length p1∧(List.length p1=List.length p1∧(List.length p1=List.length p1∧List.length p1=List.length p1)))))∧((List.length p0.2.2.2.1+List.length v19:Nat):Int)≤4294967296))),(),(s,()))
def xZ3 (p0:(Int×Int×Int×(List (List D125))×Int×Unit))(p1:List D125):Prop:=(uF9 p0 p1).1
def oK (p0:(Int×Int×Int×(List (List D125))×Int×Unit))(p1:List D125):(Unit):=(uF9 p0 p1).2.1
def xY8 (p0:(Int×Int×Int×(List (List D125))×Int×Unit))(p1:List D125):((Int×Int×Int×(List (List D125))×Int×Unit)×Unit):=(uF9 p0 p1).2.2
instance (p0:(Int×Int×Int×(List (List D125))×Int×Unit))(p1:List D125):Decidable (xZ3 p0 p1):=by
 unfold xZ3 uF9
 try dsimp only
 infer_instance
def wS9:Am.Spec:=fnSpec [(0,(.box T179 (.agg (.cons (.int .i64) (.cons (.int .i64) (.cons (.int .i64) (.cons (.sl (.sl T125)) (.cons (.int .i64) .nl))))) (.cons vI (.cons vI (.cons vI (.cons (.own (.sl T125) 400000 false) (.cons vI .nl)))))))),(1,(.own T125 400100 true))] (.tup .nl) [(0,(.box T179 (.agg (.cons (.int .i64) (.cons (.int .i64) (.cons (.int .i64) (.cons (.sl (.sl T125)) (.cons (.int .i64) .nl))))) (.cons vI (.cons vI (.cons vI (.cons (.own (.sl T125) 400000 false) (.cons vI .nl))))))))] (fun x=>xZ3 x.1 x.2.1) (fun x=>oK x.1 x.2.1) (fun x=>xY8 x.1 x.2.1)
def sZ8:Ctx:={ Cx tys [(177,sO1),(178,sO2)] [] [(8,[(1,1,0,0)]),(9,[(4,0,20,400000)])] true 32 [0] [] with wants:=[(178,[0])] }
theorem sZ9:CtxOk Tryz.prog sZ8:=xW4 xY7 rfl ⟨oJ,oJ3,trivial⟩ rfl (by kernel_rfl)
theorem vU4:SpecOk Tryz.prog 160 wS9:=xY3 sZ9 mixed Tryz.func160 (by kernel_rfl) (bs:=[]) (by kernel_rfl) trivial fun x=>by kernel_rfl
def uG (p0:(Int×Int×Int×(List (List D125))×Int×Unit))(p1:D125):Prop×(Unit)×((Int×Int×Int×(List (List D125))×Int×Unit)×Unit):=
 let v10:=(p0.2.2.1==1)
 let v17:=(f176 p1 p0.1)
 let s_1:=(p0.1,p0.2.1,p0.2.2.1,p0.2.2.2.1,p0.2.2.2.2.1,())
 let v18o:=(xY8 s_1 v17)
 let v20:=(p0.2.2.1==2)
 let v25:=(f108 p0.1 (2:Int))
 let s_2:=((IntKind.wrap .i64 (Int.sub 0 v25)),(IntKind.wrap .i64 (Int.sub 0 v25)),())
 let s_3:=(v25,(IntKind.wrap .i64 (Int.sub 0 v25)),())
 let s_4:=(v25,v25,())
 let s_5:=((IntKind.wrap .i64 (Int.sub 0 v25)),v25,())
 let v51:=([(f161 p1 s_2),(f161 p1 s_3),(f161 p1 s_4),(f161 p1 s_5)]:List D125)
 let s_7:=(p0.1,p0.2.1,p0.2.2.1,p0.2.2.2.1,p0.2.2.2.2.1,())
 let v52o:=(xY8 s_7 v51)
 let s_8:=((bif v10 then v18o.1.1 else (bif v20 then v52o.1.1 else p0.1)),(bif v10 then v18o.1.2.1 else (bif v20 then v52o.1.2.1 else p0.2.1)),(bif v10 then v18o.1.2.2.1 else (bif v20 then v52o.1.2.2.1 else p0.2.2.1)),(bif v10 then v18o.1.2.2.2.1 else (bif v20 then v52o.1.2.2.2.1 else p0.2.2.2.1)),(bif v10 then v18o.1.2.2.2.2.1 else (bif v20 then v52o.1.2.2.2.2.1 else p0.2.2.2.2.1)),())
 (((v10=true→((vP0 p1 p0.1)∧(xZ3 s_1 v17)))∧(v10=false→(v20=true→((wA9 p0.1 (2:Int))∧((wD0 p1 s_2)∧((wD0 p1 s_3)∧((wD0 p1 s_4)∧((wD0 p1 s_5)∧(xZ3 s_7 v51))))))))),(),(s_8,()))
def vG8 (p0:(Int×Int×Int×(List (List D125))×Int×Unit))(p1:D125):Prop:=(uG p0 p1).1
def oK0 (p0:(Int×Int×Int×(List (List D125))×Int×Unit))(p1:D125):(Unit):=(uG p0 p1).2.1
def uG0 (p0:(Int×Int×Int×(List (List D125))×Int×Unit))(p1:D125):((Int×Int×Int×(List (List D125))×Int×Unit)×Unit):=(uG p0 p1).2.2
instance (p0:(Int×Int×Int×(List (List D125))×Int×Unit))(p1:D125):Decidable (vG8 p0 p1):=by
 unfold vG8 uG
 try dsimp only
 infer_instance
def uU0:Am.Spec:=fnSpec [(0,(.box T179 (.agg (.cons (.int .i64) (.cons (.int .i64) (.cons (.int .i64) (.cons (.sl (.sl T125)) (.cons (.int .i64) .nl))))) (.cons vI (.cons vI (.cons vI (.cons (.own (.sl T125) 400000 false) (.cons vI .nl)))))))),(1,(.val T125))] (.tup .nl) [(0,(.box T179 (.agg (.cons (.int .i64) (.cons (.int .i64) (.cons (.int .i64) (.cons (.sl (.sl T125)) (.cons (.int .i64) .nl))))) (.cons vI (.cons vI (.cons vI (.cons (.own (.sl T125) 400000 false) (.cons vI .nl))))))))] (fun x=>vG8 x.1 x.2.1) (fun x=>oK0 x.1 x.2.1) (fun x=>uG0 x.1 x.2.1)
def rA:Ctx:={ Cx tys [(108,wF3),(160,wS9),(161,vG5),(176,uF8)] [] [] true 53 [0] [51] with wants:=[(160,[1])] }
theorem rA0:CtxOk Tryz.prog rA:=xW4 xY7 rfl ⟨wY6,vU4,tH2,sZ7,trivial⟩ rfl (by kernel_rfl)
theorem rY0:SpecOk Tryz.prog 159 uU0:=xY3 rA0 mixed Tryz.func159 (by kernel_rfl) (bs:=[]) (by kernel_rfl) trivial fun x=>by kernel_rfl
def uG1 (p0:(Int×Int×Int×(List (List D125))×Int×Unit))(p1:D205)(p2:D205):Prop×(Unit)×((Int×Int×Int×(List (List D125))×Int×Unit)×Unit):=
 let v23:=(p0.2.1==1)
 let v30:=(f176 p2.1 p0.1)
 let s_1:=(p0.1,p0.2.1,p0.2.2.1,p0.2.2.2.1,p0.2.2.2.2.1,())
 let v31o:=(xY8 s_1 v30)
 let v40:=([p2.1,(f161 p2.1 p1.2.2.2.1),(f161 p2.1 p2.2.2.2.1)]:List D125)
 let s_3:=(p0.1,p0.2.1,p0.2.2.1,p0.2.2.2.1,p0.2.2.2.2.1,())
 let v41o:=(xY8 s_3 v40)
 let v50:=([p2.1,(f162 p2.1 p1.2.2.2.1),(f162 p2.1 p2.2.2.2.1)]:List D125)
 let s_5:=(v41o.1.1,v41o.1.2.1,v41o.1.2.2.1,v41o.1.2.2.2.1,v41o.1.2.2.2.2.1,())
 let v51o:=(xY8 s_5 v50)
 let v66:=(IntKind.wrap .i64 ((IntKind.wrap .i64 (p1.2.2.1.1*p2.2.2.1.2.1))-(IntKind.wrap .i64 (p1.2.2.1.2.1*p2.2.2.1.1))))
 let v75:=(IntKind.wrap .i64 (v51o.1.1*v51o.1.1))
 let v89:=(IntKind.wrap .i64 (v75+(IntKind.wrap .i64 (4*(IntKind.wrap .i64 ((IntKind.wrap .i64 (p1.2.2.2.1.1*p2.2.2.2.1.1))+(IntKind.wrap .i64 (p1.2.2.2.1.2.1*p2.2.2.2.1.2.1))))))))
 let v102:=(bif (bif (v51o.1.2.1==2) then true else (v66==0)) then true else (decide (v89≤0)))
 let v109:=(IntKind.wrap .i64 (v75*(IntKind.wrap .i64 (p1.2.2.2.1.1+p2.2.2.2.1.1))))
 let v111:=(f108 v109 v89)
 let v118:=(IntKind.wrap .i64 (v75*(IntKind.wrap .i64 (p1.2.2.2.1.2.1+p2.2.2.2.1.2.1))))
 let v120:=(f108 v118 v89)
 let s_6:=(v111,v120,())
 let v132:=(decide ((f179 v111 v120)>(IntKind.wrap .i64 (4*v51o.1.1))))
 let v134:=(decide (v66>0))
 let v146:=([p2.1,(f162 p2.1 p1.2.2.2.1),(f162 p2.1 s_6),(f162 p2.1 p2.2.2.2.1)]:List D125)
 let s_8:=(v51o.1.1,v51o.1.2.1,v51o.1.2.2.1,v51o.1.2.2.2.1,v51o.1.2.2.2.2.1,())
 let v147o:=(xY8 s_8 v146)
 let v159:=([p2.1,(f161 p2.1 p1.2.2.2.1),(f161 p2.1 s_6),(f161 p2.1 p2.2.2.2.1)]:List D125)
 let s_10:=(v51o.1.1,v51o.1.2.1,v51o.1.2.2.1,v51o.1.2.2.2.1,v51o.1.2.2.2.2.1,())
 let v160o:=(xY8 s_10 v159)
 let c_5:=(v23||((!v23)&&(v102||((!v102)&&v132))))
 let s_11:=((bif c_5 then (bif v23 then v31o.1.1 else v51o.1.1) else (bif v134 then v147o.1.1 else v160o.1.1)),(bif c_5 then (bif v23 then v31o.1.2.1 else v51o.1.2.1) else (bif v134 then v147o.1.2.1 else v160o.1.2.1)),(bif c_5 then (bif v23 then v31o.1.2.2.1 else v51o.1.2.2.1) else (bif v134 then v147o.1.2.2.1 else v160o.1.2.2.1)),(bif c_5 then (bif v23 then v31o.1.2.2.2.1 else v51o.1.2.2.2.1) else (bif v134 then v147o.1.2.2.2.1 else v160o.1.2.2.2.1)),(bif c_5 then (bif v23 then v31o.1.2.2.2.2.1 else v51o.1.2.2.2.2.1) else (bif v134 then v147o.1.2.2.2.2.1 else v160o.1.2.2.2.2.1)),())
 (((v23=true→((vP0 p2.1 p0.1)∧(xZ3 s_1 v30)))∧((!v23)=true→((wD0 p2.1 p1.2.2.2.1)∧((wD0 p2.1 p2.2.2.2.1)∧((xZ3 s_3 v40)∧((wH2 p2.1 p1.2.2.2.1)∧((wH2 p2.1 p2.2.2.2.1)∧((xZ3 s_5 v50)∧((!v102)=true→((wA9 v109 v89)∧((wA9 v118 v89)∧((uN5 v111 v120)∧((!v132)=true→((v134=true→((wH2 p2.1 p1.2.2.2.1)∧((wH2 p2.1 s_6)∧((wH2 p2.1 p2.2.2.2.1)∧(xZ3 s_8 v146)))))∧(v134=false→((wD0 p2.1 p1.2.2.2.1)∧((wD0 p2.1 s_6)∧((wD0 p2.1 p2.2.2.2.1)∧(xZ3 s_10 v159))))))))))))))))))),(),(s_11,()))
def wN0 (p0:(Int×Int×Int×(List (List D125))×Int×Unit))(p1:D205)(p2:D205):Prop:=(uG1 p0 p1 p2).1
def oK1 (p0:(Int×Int×Int×(List (List D125))×Int×Unit))(p1:D205)(p2:D205):(Unit):=(uG1 p0 p1 p2).2.1
def wO1 (p0:(Int×Int×Int×(List (List D125))×Int×Unit))(p1:D205)(p2:D205):((Int×Int×Int×(List (List D125))×Int×Unit)×Unit):=(uG1 p0 p1 p2).2.2
instance (p0:(Int×Int×Int×(List (List D125))×Int×Unit))(p1:D205)(p2:D205):Decidable (wN0 p0 p1 p2):=by
 unfold wN0 uG1
 try dsimp only
 infer_instance
def uU1:Am.Spec:=fnSpec [(0,(.box T179 (.agg (.cons (.int .i64) (.cons (.int .i64) (.cons (.int .i64) (.cons (.sl (.sl T125)) (.cons (.int .i64) .nl))))) (.cons vI (.cons vI (.cons vI (.cons (.own (.sl T125) 400000 false) (.cons vI .nl)))))))),(1,(.val T205)),(2,(.val T205))] (.tup .nl) [(0,(.box T179 (.agg (.cons (.int .i64) (.cons (.int .i64) (.cons (.int .i64) (.cons (.sl (.sl T125)) (.cons (.int .i64) .nl))))) (.cons vI (.cons vI (.cons vI (.cons (.own (.sl T125) 400000 false) (.cons vI .nl))))))))] (fun x=>wN0 x.1 x.2.1 x.2.2.1) (fun x=>oK1 x.1 x.2.1 x.2.2.1) (fun x=>wO1 x.1 x.2.1 x.2.2.1)
def rA1:Ctx:={ Cx tys [(108,wF3),(160,wS9),(161,vG5),(162,vO6),(176,uF8),(179,tG9)] [] [] true 161 [0] [40,50,146,159] with wants:=[(160,[1])] }
theorem rA2:CtxOk Tryz.prog rA1:=xW4 xY7 rfl ⟨wY6,vU4,tH2,sD5,sZ7,qG0,trivial⟩ rfl (by kernel_rfl)
theorem rY1:SpecOk Tryz.prog 163 uU1:=xY3 rA2 mixed Tryz.func163 (by kernel_rfl) (bs:=[]) (by kernel_rfl) trivial fun x=>by kernel_rfl
def uG2 (p0:(Int×Int×Int×(List (List D125))×Int×Unit))(p1:D205)(p2:D205):Prop×(Unit)×((Int×Int×Int×(List (List D125))×Int×Unit)×Unit):=
 let v12:=(p0.2.2.1==1)
 let v20:=(f176 p1.1 p0.1)
 let s_1:=(p0.1,p0.2.1,p0.2.2.1,p0.2.2.2.1,p0.2.2.2.2.1,())
 let v21o:=(xY8 s_1 v20)
 let v29:=(f176 p2.2.1 v21o.1.1)
 let s_3:=(v21o.1.1,v21o.1.2.1,v21o.1.2.2.1,v21o.1.2.2.2.1,v21o.1.2.2.2.2.1,())
 let v30o:=(xY8 s_3 v29)
 let v32:=(p0.2.2.1==2)
 let v37:=(f162 p1.1 p1.2.2.2.2.1)
 let v57:=([(f161 v37 p1.2.2.2.1),(f161 p1.1 p1.2.2.2.1),(f162 p1.1 p1.2.2.2.1),(f162 v37 p1.2.2.2.1)]:List D125)
 let s_5:=(p0.1,p0.2.1,p0.2.2.1,p0.2.2.2.1,p0.2.2.2.2.1,())
 let v58o:=(xY8 s_5 v57)
 let v63:=(f161 p2.2.1 p2.2.2.2.2.1)
 let v83:=([(f161 p2.2.1 p2.2.2.2.1),(f161 v63 p2.2.2.2.1),(f162 v63 p2.2.2.2.1),(f162 p2.2.1 p2.2.2.2.1)]:List D125)
 let s_7:=(v58o.1.1,v58o.1.2.1,v58o.1.2.2.1,v58o.1.2.2.2.1,v58o.1.2.2.2.2.1,())
 let v84o:=(xY8 s_7 v83)
 let s_8:=((bif v12 then v30o.1.1 else (bif v32 then v84o.1.1 else p0.1)),(bif v12 then v30o.1.2.1 else (bif v32 then v84o.1.2.1 else p0.2.1)),(bif v12 then v30o.1.2.2.1 else (bif v32 then v84o.1.2.2.1 else p0.2.2.1)),(bif v12 then v30o.1.2.2.2.1 else (bif v32 then v84o.1.2.2.2.1 else p0.2.2.2.1)),(bif v12 then v30o.1.2.2.2.2.1 else (bif v32 then v84o.1.2.2.2.2.1 else p0.2.2.2.2.1)),())
 (((v12=true→((vP0 p1.1 p0.1)∧((xZ3 s_1 v20)∧((vP0 p2.2.1 v21o.1.1)∧(xZ3 s_3 v29)))))∧(v12=false→(v32=true→((wH2 p1.1 p1.2.2.2.2.1)∧((wD0 v37 p1.2.2.2.1)∧((wD0 p1.1 p1.2.2.2.1)∧((wH2 p1.1 p1.2.2.2.1)∧((wH2 v37 p1.2.2.2.1)∧((xZ3 s_5 v57)∧((wD0 p2.2.1 p2.2.2.2.2.1)∧((wD0 p2.2.1 p2.2.2.2.1)∧((wD0 v63 p2.2.2.2.1)∧((wH2 v63 p2.2.2.2.1)∧((wH2 p2.2.1 p2.2.2.2.1)∧(xZ3 s_7 v83))))))))))))))),(),(s_8,()))
def wX4 (p0:(Int×Int×Int×(List (List D125))×Int×Unit))(p1:D205)(p2:D205):Prop:=(uG2 p0 p1 p2).1
def oK2 (p0:(Int×Int×Int×(List (List D125))×Int×Unit))(p1:D205)(p2:D205):(Unit):=(uG2 p0 p1 p2).2.1
def uG3 (p0:(Int×Int×Int×(List (List D125))×Int×Unit))(p1:D205)(p2:D205):((Int×Int×Int×(List (List D125))×Int×Unit)×Unit):=(uG2 p0 p1 p2).2.2
instance (p0:(Int×Int×Int×(List (List D125))×Int×Unit))(p1:D205)(p2:D205):Decidable (wX4 p0 p1 p2):=by
 unfold wX4 uG2
 try dsimp only
 infer_instance
def uU2:Am.Spec:=fnSpec [(0,(.box T179 (.agg (.cons (.int .i64) (.cons (.int .i64) (.cons (.int .i64) (.cons (.sl (.sl T125)) (.cons (.int .i64) .nl))))) (.cons vI (.cons vI (.cons vI (.cons (.own (.sl T125) 400000 false) (.cons vI .nl)))))))),(1,(.val T205)),(2,(.val T205))] (.tup .nl) [(0,(.box T179 (.agg (.cons (.int .i64) (.cons (.int .i64) (.cons (.int .i64) (.cons (.sl (.sl T125)) (.cons (.int .i64) .nl))))) (.cons vI (.cons vI (.cons vI (.cons (.own (.sl T125) 400000 false) (.cons vI .nl))))))))] (fun x=>wX4 x.1 x.2.1 x.2.2.1) (fun x=>oK2 x.1 x.2.1 x.2.2.1) (fun x=>uG3 x.1 x.2.1 x.2.2.1)
def rA3:Ctx:={ Cx tys [(160,wS9),(161,vG5),(162,vO6),(176,uF8)] [] [] true 85 [0] [57,83] with wants:=[(160,[1])] }
theorem rA4:CtxOk Tryz.prog rA3:=xW4 xY7 rfl ⟨vU4,tH2,sD5,sZ7,trivial⟩ rfl (by kernel_rfl)
theorem rY2:SpecOk Tryz.prog 164 uU2:=xY3 rA4 mixed Tryz.func164 (by kernel_rfl) (bs:=[]) (by kernel_rfl) trivial fun x=>by kernel_rfl
abbrev wN1:Type:=(Bool×(List D205)×(List D205)×Int×Unit)
abbrev wC6:Type:=((Int×Int×Int×(List (List D125))×Int×Unit)×Int×Unit)
def vK (y:wN1)(x:wC6):Prop×Bool×wC6:=
 let a32:=y.2.2.1
 let a0:=x.1
 let a34:=x.2.1
 let v35:=(decide (a34<y.2.2.2.1))
 let v36:=(nth a32 a34 Z205)
 let v59:=([(f161 v36.1 v36.2.2.2.1),(f161 v36.2.1 v36.2.2.2.1),(f162 v36.2.1 v36.2.2.2.1),(f162 v36.1 v36.2.2.2.1)]:List D125)
 let s_1:=(a0.1,a0.2.1,a0.2.2.1,a0.2.2.2.1,a0.2.2.2.2.1,())
 let v60o:=(xY8 s_1 v59)
 ((v35=true→(InB a34 (len a32)∧((wD0 v36.1 v36.2.2.2.1)∧((wD0 v36.2.1 v36.2.2.2.1)∧((wH2 v36.2.1 v36.2.2.2.1)∧((wH2 v36.1 v36.2.2.2.1)∧((xZ3 s_1 v59)∧InR (a34+1)))))))),v35,((v60o.1.1,v60o.1.2.1,v60o.1.2.2.1,v60o.1.2.2.2.1,v60o.1.2.2.2.2.1,()),(a34+1),()))
def wJ0 (y:wN1)(x:wC6):Prop:=(vK y x).1
def wH5 (y:wN1)(x:wC6):Bool:=(vK y x).2.1
def wC1 (y:wN1)(x:wC6):wC6:=(vK y x).2.2
instance (y:wN1)(x:wC6):Decidable (wJ0 y x):=by
 unfold wJ0 vK
 try dsimp only
 infer_instance
def wZ1 (y:wN1)(x:wC6):(Int×Int×Int×(List (List D125))×Int×Unit):=
 let a0:=x.1
 (a0.1,a0.2.1,a0.2.2.1,a0.2.2.2.1,a0.2.2.2.2.1,())
def uG4:List (Nat×Sh):=[(0,(.box T179 (.agg (.cons (.int .i64) (.cons (.int .i64) (.cons (.int .i64) (.cons (.sl (.sl T125)) (.cons (.int .i64) .nl))))) (.cons vI (.cons vI (.cons vI (.cons (.own (.sl T125) 400000 false) (.cons vI .nl)))))))),(2,vB),(7,(.own T205 1007 false))]
def vP1:St→Option Out:=xP5 [(2,vB),(7,(.own T205 1007 false)),(32,(.own T205 1007 false)),(33,vI)] [(0,(.box T179 (.agg (.cons (.int .i64) (.cons (.int .i64) (.cons (.int .i64) (.cons (.sl (.sl T125)) (.cons (.int .i64) .nl))))) (.cons vI (.cons vI (.cons vI (.cons (.own (.sl T125) 400000 false) (.cons vI .nl)))))))),(34,vI)] wH5 wC1 wJ0 fun y x=>[ex 2 none uG4 ((wZ1 y x),y.1,y.2.1,())]
abbrev wJ1:Type:=(Bool×(List D205)×Unit)
abbrev wB8:Type:=((Int×Int×Int×(List (List D125))×Int×Unit)×Int×Unit)
def vB8 (y:wJ1)(x:wB8):Prop×Bool×wB8:=
 let a7:=y.2.1
 let a0:=x.1
 let a10:=x.2.1
 let v78:=(decide (a10<(len a7)))
 let v84:=(a10-1)
 let v85:=(nth a7 v84 Z205)
 let v89:=(nth a7 a10 Z205)
 let s_1:=(a0.1,a0.2.1,a0.2.2.1,a0.2.2.2.1,a0.2.2.2.2.1,())
 let v91o:=(wO1 s_1 v85 v89)
 ((v78=true→(InR (a10-1)∧(InB v84 (len a7)∧(InB a10 (len a7)∧((wN0 s_1 v85 v89)∧InR (a10+1)))))),v78,((v91o.1.1,v91o.1.2.1,v91o.1.2.2.1,v91o.1.2.2.2.1,v91o.1.2.2.2.2.1,()),(a10+1),()))
def wF9 (y:wJ1)(x:wB8):Prop:=(vB8 y x).1
def wC7 (y:wJ1)(x:wB8):Bool:=(vB8 y x).2.1
def wA8 (y:wJ1)(x:wB8):wB8:=(vB8 y x).2.2
instance (y:wJ1)(x:wB8):Decidable (wF9 y x):=by
 unfold wF9 vB8
 try dsimp only
 infer_instance
def wU7 (y:wJ1)(x:wB8):(Int×Int×Int×(List (List D125))×Int×Unit):=
 let a0:=x.1
 (a0.1,a0.2.1,a0.2.2.1,a0.2.2.2.1,a0.2.2.2.2.1,())
def vY8:List (Nat×Sh):=[(0,(.box T179 (.agg (.cons (.int .i64) (.cons (.int .i64) (.cons (.int .i64) (.cons (.sl (.sl T125)) (.cons (.int .i64) .nl))))) (.cons vI (.cons vI (.cons vI (.cons (.own (.sl T125) 400000 false) (.cons vI .nl)))))))),(2,vB),(7,(.own T205 1007 false))]
def vM7:St→Option Out:=xP5 [(2,vB),(7,(.own T205 1007 false))] [(0,(.box T179 (.agg (.cons (.int .i64) (.cons (.int .i64) (.cons (.int .i64) (.cons (.sl (.sl T125)) (.cons (.int .i64) .nl))))) (.cons vI (.cons vI (.cons vI (.cons (.own (.sl T125) 400000 false) (.cons vI .nl)))))))),(10,vI)] wC7 wA8 wF9 fun y x=>[ex 4 none vY8 ((wU7 y x),y.1,y.2.1,())]
def uG5 (p0:(Int×Int×Int×(List (List D125))×Int×Unit))(p1:List D125)(p2:Bool):Prop×(Unit)×((Int×Int×Int×(List (List D125))×Int×Unit)×Unit):=
 let v13:=(f157 p1 p2)
 let v20:=(f158 v13 p2 p0.1)
 let v23:=((len v20)==0)
 let v26:=((len v13)==1)
 let v29:=(nth v13 (0:Int) Z125)
 let s_1:=(p0.1,p0.2.1,p0.2.2.1,p0.2.2.2.1,p0.2.2.2.2.1,())
 let v31o:=(uG0 s_1 v29)
 let y6:=(p2,v20,v20,(len v20),())
 let x6:=((p0.1,p0.2.1,p0.2.2.1,p0.2.2.2.1,p0.2.2.2.2.1,()),(0:Int),())
 let r6_2_0:=(wZ1 y6 (zC1 (wH5 y6) (wC1 y6) x6))
 let v63:=(!p2)
 let v67:=(len v20)
 let v68:=(v67-1)
 let v69:=(nth v20 v68 Z205)
 let v72:=(nth v20 (0:Int) Z205)
 let s_4:=(r6_2_0.1,r6_2_0.2.1,r6_2_0.2.2.1,r6_2_0.2.2.2.1,r6_2_0.2.2.2.2.1,())
 let v74o:=(wO1 s_4 v69 v72)
 let s_5:=((bif v63 then v74o.1.1 else r6_2_0.1),(bif v63 then v74o.1.2.1 else r6_2_0.2.1),(bif v63 then v74o.1.2.2.1 else r6_2_0.2.2.1),(bif v63 then v74o.1.2.2.2.1 else r6_2_0.2.2.2.1),(bif v63 then v74o.1.2.2.2.2.1 else r6_2_0.2.2.2.2.1),())
 let y13:=(p2,v20,())
 let x13:=(s_5,(1:Int),())
 let r13_4_0:=(wU7 y13 (zC1 (wC7 y13) (wA8 y13) x13))
 let v95:=(nth v20 (0:Int) Z205)
 let v99:=(len v20)
 let v100:=(v99-1)
 let v101:=(nth v20 v100 Z205)
 let s_7:=(r13_4_0.1,r13_4_0.2.1,r13_4_0.2.2.1,r13_4_0.2.2.2.1,r13_4_0.2.2.2.2.1,())
 let v103o:=(uG3 s_7 v95 v101)
 let s_8:=((bif v23 then (bif v26 then v31o.1.1 else p0.1) else (bif p2 then v103o.1.1 else r13_4_0.1)),(bif v23 then (bif v26 then v31o.1.2.1 else p0.2.1) else (bif p2 then v103o.1.2.1 else r13_4_0.2.1)),(bif v23 then (bif v26 then v31o.1.2.2.1 else p0.2.2.1) else (bif p2 then v103o.1.2.2.1 else r13_4_0.2.2.1)),(bif v23 then (bif v26 then v31o.1.2.2.2.1 else p0.2.2.2.1) else (bif p2 then v103o.1.2.2.2.1 else r13_4_0.2.2.2.1)),(bif v23 then (bif v26 then v31o.1.2.2.2.2.1 else p0.2.2.2.2.1) else (bif p2 then v103o.1.2.2.2.2.1 else r13_4_0.2.2.2.2.1)),())
 (((tG8 p1 p2)∧((tH v13 p2 p0.1)∧((v23=true→(v26=true→(InB (0:Int) (len v13)∧(vG8 s_1 v29))))∧((!v23)=true→((Am.Ends (wH5 y6) (wC1 y6) (wJ0 y6) x6)∧((v63=true→(InR (v67-1)∧(InB v68 (len v20)∧(InB (0:Int) (len v20)∧(wN0 s_4 v69 v72)))))∧((Am.Ends (wC7 y13) (wA8 y13) (wF9 y13) x13)∧(p2=true→(InB (0:Int) (len v20)∧(InR (v99-1)∧(InB v100 (len v20)∧(wX4 s_7 v95 v101)))))))))))),(),(s_8,()))
def wP0 (p0:(Int×Int×Int×(List (List D125))×Int×Unit))(p1:List D125)(p2:Bool):Prop:=(uG5 p0 p1 p2).1
def oK3 (p0:(Int×Int×Int×(List (List D125))×Int×Unit))(p1:List D125)(p2:Bool):(Unit):=(uG5 p0 p1 p2).2.1
def vG9 (p0:(Int×Int×Int×(List (List D125))×Int×Unit))(p1:List D125)(p2:Bool):((Int×Int×Int×(List (List D125))×Int×Unit)×Unit):=(uG5 p0 p1 p2).2.2
instance (p0:(Int×Int×Int×(List (List D125))×Int×Unit))(p1:List D125)(p2:Bool):Decidable (wP0 p0 p1 p2):=by
 unfold wP0 uG5
 try dsimp only
 infer_instance
def uU3:Am.Spec:=fnSpec [(0,(.box T179 (.agg (.cons (.int .i64) (.cons (.int .i64) (.cons (.int .i64) (.cons (.sl (.sl T125)) (.cons (.int .i64) .nl))))) (.cons vI (.cons vI (.cons vI (.cons (.own (.sl T125) 400000 false) (.cons vI .nl)))))))),(1,(.val (.sl T125))),(2,vB)] (.tup .nl) [(0,(.box T179 (.agg (.cons (.int .i64) (.cons (.int .i64) (.cons (.int .i64) (.cons (.sl (.sl T125)) (.cons (.int .i64) .nl))))) (.cons vI (.cons vI (.cons vI (.cons (.own (.sl T125) 400000 false) (.cons vI .nl))))))))] (fun x=>wP0 x.1 x.2.1 x.2.2.1) (fun x=>oK3 x.1 x.2.1 x.2.2.1) (fun x=>vG9 x.1 x.2.1 x.2.2.1)
def uB0:Ctx:={ Cx tys [(157,sN6),(158,sO0),(159,uU0),(160,wS9),(161,vG5),(162,vO6),(163,uU1),(164,uU2)] [(6,vP1),(13,vM7)] [(3,[(4,0,20,1007)])] false 104 [0] [59] with wants:=[(159,[]),(160,[1]),(163,[]),(164,[])] }
theorem uB1:CtxOk Tryz.prog uB0:=xW4 xY7 rfl ⟨oI,oI8,rY0,vU4,tH2,sD5,rY1,rY2,trivial⟩ rfl (by kernel_rfl)
noncomputable def uU4:Code:=Tryz.f146.body.getD .skip
noncomputable def tW1:Code:=xX3 uU4 0
theorem sD6:yU9 Tryz.prog uB0 tW1:=xY2 uB1 mixed (sp:=vP1) rfl [uG4] (bs:=[]) (by kernel_rfl) trivial (by kernel_rfl) (by kernel_rfl) fun y x=>by kernel_rfl
noncomputable def tH4:Code:=xX3 uU4 1
theorem tU:yU9 Tryz.prog uB0 tH4:=xY2 uB1 mixed (sp:=vM7) rfl [vY8] (bs:=[]) (by kernel_rfl) trivial (by kernel_rfl) (by kernel_rfl) fun y x=>by kernel_rfl
theorem rY3:SpecOk Tryz.prog 146 uU3:=xY3 uB1 mixed Tryz.func146 (by kernel_rfl) (bs:=[tW1,tH4]) (by kernel_rfl) ⟨sD6,tU,trivial⟩ fun x=>by kernel_rfl
abbrev wG:Type:=((List Bool)×Unit×(List (List D125))×Int×Unit)
abbrev wB9:Type:=((Int×Int×Int×(List (List D125))×Int×Unit)×Int×Unit)
def vH (y:wG)(x:wB9):Prop×Bool×wB9×Bool×Bool:=
 let a1:=y.1
 let a39:=y.2.2.1
 let a38:=x.1
 let a41:=x.2.1
 let v42:=(decide (a41<y.2.2.2.1))
 let v44:=(nth a39 a41 ([]:List D125))
 let v50:=(nth a1 a41 false)
 let s_1:=(a38.1,a38.2.1,a38.2.2.1,a38.2.2.2.1,a38.2.2.2.2.1,())
 let v52o:=(vG9 s_1 v44 v50)
 let v57:=(decide (v52o.1.2.2.2.2.1>4096))
 ((v42=true→(InB a41 (len a39)∧(InB a41 (len a1)∧((wP0 s_1 v44 v50)∧((!v57)=true→InR (a41+1)))))),(v42&&(!v57)),((v52o.1.1,v52o.1.2.1,v52o.1.2.2.1,v52o.1.2.2.2.1,v52o.1.2.2.2.2.1,()),(a41+1),()),(v42&&v57),(!v42))
def wP1 (y:wG)(x:wB9):Prop:=(vH y x).1
def wX5 (y:wG)(x:wB9):Bool:=(vH y x).2.1
def wJ2 (y:wG)(x:wB9):wB9:=(vH y x).2.2.1
def uB2 (y:wG)(x:wB9):Bool:=(vH y x).2.2.2.1
def rA5 (y:wG)(x:wB9):Bool:=(vH y x).2.2.2.2
instance (y:wG)(x:wB9):Decidable (wP1 y x):=by
 unfold wP1 vH
 try dsimp only
 infer_instance
def vK0 (y:wG)(x:wB9):(List (List D125)):=
 ([]:List (List D125))
def uG6 (y:wG)(x:wB9):Int:=
 (3:Int)
def tH5:List (Nat×Sh):=[(10,(.own (.sl T125) 0 false)),(11,vI)]
def vK1 (y:wG)(x:wB9):(Int×Int×Int×(List (List D125))×Int×Unit):=
 let a38:=x.1
 (a38.1,a38.2.1,a38.2.2.1,a38.2.2.2.1,a38.2.2.2.2.1,())
def tH6:List (Nat×Sh):=[(14,(.ref 38 T179)),(38,(.box T179 (.agg (.cons (.int .i64) (.cons (.int .i64) (.cons (.int .i64) (.cons (.sl (.sl T125)) (.cons (.int .i64) .nl))))) (.cons vI (.cons vI (.cons vI (.cons (.own (.sl T125) 403800 false) (.cons vI .nl))))))))]
def uG7:St→Option Out:=xP5 [(1,(.val (.sl .bool))),(14,(.ref 38 T179)),(39,(.val (.sl (.sl T125)))),(40,vI)] [(38,(.box T179 (.agg (.cons (.int .i64) (.cons (.int .i64) (.cons (.int .i64) (.cons (.sl (.sl T125)) (.cons (.int .i64) .nl))))) (.cons vI (.cons vI (.cons vI (.cons (.own (.sl T125) 403800 false) (.cons vI .nl)))))))),(41,vI)] wX5 wJ2 wP1 fun y x=>[ex 1 (some (uB2 y x)) tH5 ((vK0 y x),(uG6 y x),()),ex 2 (some (rA5 y x)) tH6 (y.2.1,(vK1 y x),())]
def pG0 (p0:(List (List D125)))(p1:List Bool)(p2:Int)(p3:Int)(p4:Int):Prop×((List (List D125))×Int×Unit):=
 let v20:=(f145 p2 p3 p4)
 let v22:=(v20 !=0)
 let v25:=(f129 p0 (0:Int))
 let v27:=(v25 !=0)
 let v33:=((len p1)!=(len p0))
 let y11:=(p1,(),p0,(len p0),())
 let x11:=((p2,p3,p4,([]:List (List D125)),(0:Int),()),(0:Int),())
 let e11:=(zC1 (wX5 y11) (wJ2 y11) x11)
 let q11_1:=(uB2 y11 e11)
 (((tG7 p2 p3 p4)∧((!v22)=true→((uA9 p0 (0:Int))∧((!v27)=true→((!v33)=true→(Am.Ends (wX5 y11) (wJ2 y11) (wP1 y11) x11)))))),((bif v22 then [] else (bif v27 then [] else (bif v33 then [] else (bif q11_1 then (vK0 y11 e11) else (vK1 y11 e11).2.2.2.1)))),(bif v22 then v20 else (bif v27 then v25 else (bif v33 then (15:Int) else (bif q11_1 then (uG6 y11 e11) else (0:Int))))),()))
def tH7 (p0:(List (List D125)))(p1:List Bool)(p2:Int)(p3:Int)(p4:Int):Prop:=(pG0 p0 p1 p2 p3 p4).1
def f128 (p0:(List (List D125)))(p1:List Bool)(p2:Int)(p3:Int)(p4:Int):((List (List D125))×Int×Unit):=(pG0 p0 p1 p2 p3 p4).2
instance (p0:(List (List D125)))(p1:List Bool)(p2:Int)(p3:Int)(p4:Int):Decidable (tH7 p0 p1 p2 p3 p4):=by
 unfold tH7 pG0
 try dsimp only
 infer_instance
def sO6:Am.Spec:=fnSpec [(0,(.val (.sl (.sl T125)))),(1,(.val (.sl .bool))),(2,vI),(3,vI),(4,vI)] (.tup (.cons (.own (.sl T125) 0 false) (.cons vI .nl))) [] (fun x=>tH7 x.1 x.2.1 x.2.2.1 x.2.2.2.1 x.2.2.2.2.1) (fun x=>f128 x.1 x.2.1 x.2.2.1 x.2.2.2.1 x.2.2.2.2.1) (fun _=>())
def rM:Ctx:={ Cx tys [(129,uF2),(145,sN5),(146,uU3)] [(11,uG7)] [(35,[(4,0,403800,0)])] false 63 [] [] with wants:=[(146,[])] }
theorem rM0:CtxOk Tryz.prog rM:=xW4 xY7 rfl ⟨sZ5,oH8,rY3,trivial⟩ rfl (by kernel_rfl)
noncomputable def qG7:Code:=Tryz.f128.body.getD .skip
noncomputable def rM1:Code:=xX3 qG7 0
theorem rA6:yU9 Tryz.prog rM rM1:=xY2 rM0 mixed (sp:=uG7) rfl [tH5,tH6] (bs:=[]) (by kernel_rfl) trivial (by kernel_rfl) (by kernel_rfl) fun y x=>by kernel_rfl
theorem oK4:SpecOk Tryz.prog 128 sO6:=xY3 rM0 mixed Tryz.func128 (by kernel_rfl) (bs:=[rM1]) (by kernel_rfl) ⟨rA6,trivial⟩ fun x=>by kernel_rfl
def oK5 (p0:D49):Prop×Int:=
 let v15:=(f125 p0.2.2.2.2.2.2.2.2.2.2.2.2.2.2.2.2.2.2.1 p0.2.2.2.2.2.2.2.2.2.2.1)
 let v19:=(v15.2.1 !=0)
 let v28:=(bif (p0.2.2.2.2.2.2.2.2.2.2.2.2.2.2.2.2.2.2.2.1 !=0) then (p0.2.2.2.2.2.2.2.2.2.2.2.2.2.2.2.2.2.2.2.1 !=1) else false)
 let v41:=(bif (p0.2.2.2.2.2.2.2.2.2.2.2.2.2.2.2.2.2.2.2.2.1==0) then (bif (p0.2.2.2.2.2.2.2.2.2.2.2.2.2.2.2.2.2.2.2.2.2.1 !=0) then true else (p0.2.2.2.2.2.2.2.2.2.2.2.2.2.2.2.2.2.2.2.2.2.2.1 !=0)) else false)
 let v44:=(f126 v15.1)
 let v48:=(v44.2.1 !=0)
 let v54:=(p0.2.2.2.2.2.2.2.2.2.2.2.2.2.2.2.2.2.2.2.2.1 !=0)
 let v57:=(f127 v15.1)
 let v61:=(v57.2.1 !=0)
 let v72:=(f128 v44.1 v57.1 p0.2.2.2.2.2.2.2.2.2.2.2.2.2.2.2.2.2.2.2.2.1 p0.2.2.2.2.2.2.2.2.2.2.2.2.2.2.2.2.2.2.2.2.2.1 p0.2.2.2.2.2.2.2.2.2.2.2.2.2.2.2.2.2.2.2.2.2.2.1)
 let v76:=(v72.2.1 !=0)
 let m5_1:=(bif v54 then v72.1 else v44.1)
 let m6:=(bif v54 then (0:Int) else p0.2.2.2.2.2.2.2.2.2.2.2.2.2.2.2.2.2.2.2.1)
 let v80:=(f129 m5_1 m6)
 let v82:=(v80 !=0)
 let m2_4:=(bif v41 then (1:Int) else (bif v48 then v44.2.1 else (bif ((v61||((!v61)&&v76))&&v54) then (bif v61 then v57.2.1 else v72.2.1) else (bif v82 then v80 else (f110 p0.2.2.2.2.2.2.2.2.2.2.2.2.2.1)))))
 (((tF8 p0.2.2.2.2.2.2.2.2.2.2.2.2.2.2.2.2.2.2.1 p0.2.2.2.2.2.2.2.2.2.2.1)∧((!v19)=true→((!v28)=true→((!v41)=true→((vO4 v15.1)∧((!v48)=true→((v54=true→((tG1 v15.1)∧((!v61)=true→(tH7 v44.1 v57.1 p0.2.2.2.2.2.2.2.2.2.2.2.2.2.2.2.2.2.2.2.2.1 p0.2.2.2.2.2.2.2.2.2.2.2.2.2.2.2.2.2.2.2.2.2.1 p0.2.2.2.2.2.2.2.2.2.2.2.2.2.2.2.2.2.2.2.2.2.2.1))))∧((bif v54 then ((!v61)&&(!v76)) else true)=true→((uA9 m5_1 m6)∧((!v82)=true→(uA5 p0.2.2.2.2.2.2.2.2.2.2.2.2.2.1))))))))))),(bif v19 then v15.2.1 else (bif v28 then (8:Int) else m2_4)))
def tH8 (p0:D49):Prop:=(oK5 p0).1
def f112 (p0:D49):Int:=(oK5 p0).2
instance (p0:D49):Decidable (tH8 p0):=by
 unfold tH8 oK5
 try dsimp only
 infer_instance
def sO7:Am.Spec:=fnSpec [(0,(.val T49))] vI [] (fun x=>tH8 x.1) (fun x=>f112 x.1) (fun _=>())
def pG1:Ctx:=Cx tys [(110,uE1),(125,sN2),(126,tG),(127,sN3),(128,sO6),(129,uF2)] [] [(17,[(4,0,44,1005)]),(27,[(4,0,57,1007)]),(33,[(5,0,1005,0),(4,0,72,1005)])] false 87 [] []
theorem pG2:CtxOk Tryz.prog pG1:=xW4 xY7 rfl ⟨sY6,oH2,qF3,oH5,oK4,sZ5,trivial⟩ rfl (by kernel_rfl)
theorem oK6:SpecOk Tryz.prog 112 sO7:=xY3 pG2 mixed Tryz.func112 (by kernel_rfl) (bs:=[]) (by kernel_rfl) trivial fun x=>by kernel_rfl
def oK7 (p0:Int)(p1:Int)(p2:Int):Prop×Bool:=
 (True,(bif (decide (p0≥p1)) then (decide (p0≤p2)) else false))
def wP2 (p0:Int)(p1:Int)(p2:Int):Prop:=(oK7 p0 p1 p2).1
def f166 (p0:Int)(p1:Int)(p2:Int):Bool:=(oK7 p0 p1 p2).2
instance (p0:Int)(p1:Int)(p2:Int):Decidable (wP2 p0 p1 p2):=by
 unfold wP2 oK7
 try dsimp only
 infer_instance
def uG8:Am.Spec:=fnSpec [(0,vI),(1,vI),(2,vI)] vB [] (fun x=>wP2 x.1 x.2.1 x.2.2.1) (fun x=>f166 x.1 x.2.1 x.2.2.1) (fun _=>())
def pG3:Ctx:=Cx tys [] [] [] false 15 [] []
theorem pG4:CtxOk Tryz.prog pG3:=xW4 xY7 rfl trivial rfl (by kernel_rfl)
theorem rA7:SpecOk Tryz.prog 166 uG8:=xY3 pG4 mixed Tryz.func166 (by kernel_rfl) (bs:=[]) (by kernel_rfl) trivial fun x=>by kernel_rfl
abbrev wN2:Type:=((List D128)×Int×Int×(List D125)×Unit)
abbrev wG0:Type:=(Int×Unit)
def vH0 (y:wN2)(x:wG0):Prop×Bool×wG0×Bool×Bool:=
 let a27:=x.1
 let v28:=(decide (a27<3))
 let v29:=(nth y.2.2.2.1 a27 Z125)
 let v33:=(!(f166 v29.1 (-65536:Int) (65536:Int)))
 let v39:=(bif v33 then true else (!(f166 v29.2.1 (-65536:Int) (65536:Int))))
 ((v28=true→(InB a27 3∧((wP2 v29.1 (-65536:Int) (65536:Int))∧(((!v33)=true→(wP2 v29.2.1 (-65536:Int) (65536:Int)))∧((!v39)=true→InR (a27+1)))))),(v28&&(!v39)),((a27+1),()),(v28&&v39),(!v28))
def vK2 (y:wN2)(x:wG0):Prop:=(vH0 y x).1
def vU5 (y:wN2)(x:wG0):Bool:=(vH0 y x).2.1
def wV5 (y:wN2)(x:wG0):wG0:=(vH0 y x).2.2.1
def tH9 (y:wN2)(x:wG0):Bool:=(vH0 y x).2.2.2.1
def tI (y:wN2)(x:wG0):Bool:=(vH0 y x).2.2.2.2
instance (y:wN2)(x:wG0):Decidable (vK2 y x):=by
 unfold vK2 vH0
 try dsimp only
 infer_instance
def uG9 (y:wN2)(x:wG0):Int:=
 (2:Int)
def tI0:List (Nat×Sh):=[(19,(.val (.sl T128))),(20,vI),(21,vI)]
def uH:St→Option Out:=xP5 [(19,(.val (.sl T128))),(20,vI),(21,vI),(26,(.val (.arr 3 T125)))] [(27,vI)] vU5 wV5 vK2 fun y x=>[ex 1 (some (tH9 y x)) [(2,vI)] ((uG9 y x),()),ex 4 (some (tI y x)) tI0 (y.1,y.2.1,y.2.2.1,())]
abbrev wT:Type:=((List D128)×Int×Unit)
abbrev wK8:Type:=(Int×Unit)
def vU6 (y:wT)(x:wK8):Prop×Bool×wK8×Bool×Bool:=
 let a19:=y.1
 let a20:=y.2.1
 let a21:=x.1
 let v22:=(decide (a21<a20))
 let y10:=(a19,a20,a21,(nth a19 a21 Z128).2.1,())
 let x10:=((0:Int),())
 let e10:=(zC1 (vU5 y10) (wV5 y10) x10)
 let q10_4:=(tI y10 e10)
 ((v22=true→(InB a21 (len a19)∧((Am.Ends (vU5 y10) (wV5 y10) (vK2 y10) x10)∧(q10_4=true→InR (a21+1))))),(v22&&q10_4),((a21+1),()),(v22&&(tH9 y10 e10)),(!v22))
def vU7 (y:wT)(x:wK8):Prop:=(vU6 y x).1
def tI1 (y:wT)(x:wK8):Bool:=(vU6 y x).2.1
def vP2 (y:wT)(x:wK8):wK8:=(vU6 y x).2.2.1
def tW2 (y:wT)(x:wK8):Bool:=(vU6 y x).2.2.2.1
def rY4 (y:wT)(x:wK8):Bool:=(vU6 y x).2.2.2.2
instance (y:wT)(x:wK8):Decidable (vU7 y x):=by
 unfold vU7 vU6
 try dsimp only
 infer_instance
def uU5 (y:wT)(x:wK8):Int:=
 let a19:=y.1
 let a21:=x.1
 let y10:=(a19,y.2.1,a21,(nth a19 a21 Z128).2.1,())
 (uG9 y10 (zC1 (vU5 y10) (wV5 y10) ((0:Int),())))
def uU6:St→Option Out:=xP5 [(19,(.val (.sl T128))),(20,vI)] [(21,vI)] tI1 vP2 vU7 fun y x=>[ex 1 (some (tW2 y x)) [(2,vI)] ((uU5 y x),()),ex 2 (some (rY4 y x)) [] ()]
def oK8 (p0:D192):Prop×Int:=
 let v11:=(!(f166 p0.2.1 (0:Int) (65536:Int)))
 let v14:=(f140 p0.2.2.1)
 let v16:=(v14 !=0)
 let y7:=(p0.2.2.1,(len p0.2.2.1),())
 let x7:=((0:Int),())
 let e7:=(zC1 (tI1 y7) (vP2 y7) x7)
 (((wP2 p0.2.1 (0:Int) (65536:Int))∧((!v11)=true→((vN9 p0.2.2.1)∧((!v16)=true→(Am.Ends (tI1 y7) (vP2 y7) (vU7 y7) x7))))),(bif v11 then (2:Int) else (bif v16 then v14 else (bif (tW2 y7 e7) then (uU5 y7 e7) else (0:Int)))))
def sD7 (p0:D192):Prop:=(oK8 p0).1
def f180 (p0:D192):Int:=(oK8 p0).2
instance (p0:D192):Decidable (sD7 p0):=by
 unfold sD7 oK8
 try dsimp only
 infer_instance
def sO8:Am.Spec:=fnSpec [(0,(.val T192))] vI [] (fun x=>sD7 x.1) (fun x=>f180 x.1) (fun _=>())
def sD8:Ctx:=Cx tys [(140,vO),(166,uG8)] [(10,uH),(7,uU6)] [] false 42 [] []
theorem sD9:CtxOk Tryz.prog sD8:=xW4 xY7 rfl ⟨sC9,rA7,trivial⟩ rfl (by kernel_rfl)
noncomputable def qG8:Code:=Tryz.f180.body.getD .skip
noncomputable def rA8:Code:=xX3 qG8 0
noncomputable def rM2:Code:=xX3 rA8 0
theorem rA9:yU9 Tryz.prog sD8 rM2:=xY2 sD9 mixed (sp:=uH) rfl [[(2,vI)],tI0] (bs:=[]) (by kernel_rfl) trivial (by kernel_rfl) (by kernel_rfl) fun y x=>by kernel_rfl
theorem rY5:yU9 Tryz.prog sD8 rA8:=xY2 sD9 mixed (sp:=uU6) rfl [[(2,vI)],[]] (bs:=[rM2]) (by kernel_rfl) ⟨rA9,trivial⟩ (by kernel_rfl) (by kernel_rfl) fun y x=>by kernel_rfl
theorem oK9:SpecOk Tryz.prog 180 sO8:=xY3 sD9 mixed Tryz.func180 (by kernel_rfl) (bs:=[rA8]) (by kernel_rfl) ⟨rY5,trivial⟩ fun x=>by kernel_rfl
def oL (p0:D197)(p1:D197):Prop×Bool:=
 (True,(bif (decide (p0.1>p1.1)) then true else (bif (p0.1==p1.1) then (decide (p0.2.1>p1.2.1)) else false)))
def sE (p0:D197)(p1:D197):Prop:=(oL p0 p1).1
def f181 (p0:D197)(p1:D197):Bool:=(oL p0 p1).2
instance (p0:D197)(p1:D197):Decidable (sE p0 p1):=by
 unfold sE oL
 try dsimp only
 infer_instance
def sO9:Am.Spec:=fnSpec [(0,(.val T197)),(1,(.val T197))] vB [] (fun x=>sE x.1 x.2.1) (fun x=>f181 x.1 x.2.1) (fun _=>())
def pG5:Ctx:=Cx tys [] [] [] false 24 [] []
theorem pG6:CtxOk Tryz.prog pG5:=xW4 xY7 rfl trivial rfl (by kernel_rfl)
theorem oL0:SpecOk Tryz.prog 181 sO9:=xY3 pG6 mixed Tryz.func181 (by kernel_rfl) (bs:=[]) (by kernel_rfl) trivial fun x=>by kernel_rfl
abbrev wT0:Type:=(D163×(List D192)×Int×Unit)
abbrev wK9:Type:=(Int×Unit)
def vU8 (y:wT0)(x:wK9):Prop×Bool×wK9×Bool×Bool:=
 let a1:=y.1
 let a35:=y.2.1
 let a37:=x.1
 let v38:=(decide (a37<y.2.2.1))
 let v40:=(nth a35 a37 Z192)
 let v43:=(decide (a37>0))
 let v50:=(a37-1)
 let v55:=(bif v43 then (decide (v40.1≤(nth a1.2.2.2.1 v50 Z192).1)) else false)
 let v59:=((f180 v40)!=0)
 let c_2:=((!v55)&&(!v59))
 ((v38=true→(InB a37 (len a35)∧((v43=true→InR (a37-1))∧((v43=true→InB v50 (len a1.2.2.2.1))∧(((!v55)=true→(sD7 v40))∧(c_2=true→InR (a37+1))))))),(v38&&c_2),((a37+1),()),(v38&&(v55||((!v55)&&v59))),(!v38))
def vU9 (y:wT0)(x:wK9):Prop:=(vU8 y x).1
def tI2 (y:wT0)(x:wK9):Bool:=(vU8 y x).2.1
def vP3 (y:wT0)(x:wK9):wK9:=(vU8 y x).2.2.1
def tW3 (y:wT0)(x:wK9):Bool:=(vU8 y x).2.2.2.1
def tW4 (y:wT0)(x:wK9):Bool:=(vU8 y x).2.2.2.2
instance (y:wT0)(x:wK9):Decidable (vU9 y x):=by
 unfold vU9 vU8
 try dsimp only
 infer_instance
def uU7 (y:wT0)(x:wK9):Int:=
 let a37:=x.1
 let v40:=(nth y.2.1 a37 Z192)
 (bif (bif (decide (a37>0)) then (decide (v40.1≤(nth y.1.2.2.2.1 (a37-1) Z192).1)) else false) then (24:Int) else (f180 v40))
def uU8:St→Option Out:=xP5 [(1,(.box T163 (.val T163))),(35,(.val (.sl T192))),(36,vI)] [(37,vI)] tI2 vP3 vU9 fun y x=>[ex 1 (some (tW3 y x)) [(2,vI)] ((uU7 y x),()),ex 2 (some (tW4 y x)) [(1,(.box T163 (.val T163)))] (y.1,())]
abbrev wN3:Type:=(D163×(List D197)×Int×Unit)
abbrev wG1:Type:=(Int×Unit)
def vH1 (y:wN3)(x:wG1):Prop×Bool×wG1×Bool×Bool:=
 let a1:=y.1
 let a63:=y.2.1
 let a65:=x.1
 let v66:=(decide (a65<y.2.2.1))
 let v68:=(nth a63 a65 Z197)
 let v71:=(decide (a65>0))
 let v77:=(a65-1)
 let v78:=(nth a1.2.2.2.2.1 v77 Z197)
 let v82:=(bif v71 then (!(f181 v68 v78)) else false)
 let v86:=(!(f166 v68.2.2.1 (-65536:Int) (65536:Int)))
 let c_2:=((!v82)&&(!v86))
 ((v66=true→(InB a65 (len a63)∧((v71=true→InR (a65-1))∧((v71=true→InB v77 (len a1.2.2.2.2.1))∧((v71=true→(sE v68 v78))∧(((!v82)=true→(wP2 v68.2.2.1 (-65536:Int) (65536:Int)))∧(c_2=true→InR (a65+1)))))))),(v66&&c_2),((a65+1),()),(v66&&(v82||((!v82)&&v86))),(!v66))
def vK3 (y:wN3)(x:wG1):Prop:=(vH1 y x).1
def uN7 (y:wN3)(x:wG1):Bool:=(vH1 y x).2.1
def vK4 (y:wN3)(x:wG1):wG1:=(vH1 y x).2.2.1
def tI3 (y:wN3)(x:wG1):Bool:=(vH1 y x).2.2.2.1
def rB (y:wN3)(x:wG1):Bool:=(vH1 y x).2.2.2.2
instance (y:wN3)(x:wG1):Decidable (vK3 y x):=by
 unfold vK3 vH1
 try dsimp only
 infer_instance
def uH0 (y:wN3)(x:wG1):Int:=
 let a65:=x.1
 (bif (bif (decide (a65>0)) then (!(f181 (nth y.2.1 a65 Z197) (nth y.1.2.2.2.2.1 (a65-1) Z197))) else false) then (24:Int) else (2:Int))
def uH1:St→Option Out:=xP5 [(1,(.box T163 (.val T163))),(63,(.val (.sl T197))),(64,vI)] [(65,vI)] uN7 vK4 vK3 fun y x=>[ex 1 (some (tI3 y x)) [(2,vI)] ((uH0 y x),()),ex 4 (some (rB y x)) [] ()]
def oL1 (p0:D163):Prop×Int:=
 let v11:=(!(f166 p0.1 (1:Int) (65536:Int)))
 let v17:=(bif v11 then true else (!(f166 p0.2.1 (0:Int) (65536:Int))))
 let v23:=(bif v17 then true else (!(f166 p0.2.2.1 (0:Int) (65536:Int))))
 let v33:=(bif (decide ((len p0.2.2.2.1)>256)) then true else (decide ((len p0.2.2.2.2.1)>256)))
 let y6:=(p0,p0.2.2.2.1,(len p0.2.2.2.1),())
 let x6:=((0:Int),())
 let e6:=(zC1 (tI2 y6) (vP3 y6) x6)
 let y15:=(p0,p0.2.2.2.2.1,(len p0.2.2.2.2.1),())
 let x15:=((0:Int),())
 let e15:=(zC1 (uN7 y15) (vK4 y15) x15)
 (((wP2 p0.1 (1:Int) (65536:Int))∧(((!v11)=true→(wP2 p0.2.1 (0:Int) (65536:Int)))∧(((!v17)=true→(wP2 p0.2.2.1 (0:Int) (65536:Int)))∧((!v23)=true→((!v33)=true→((Am.Ends (tI2 y6) (vP3 y6) (vU9 y6) x6)∧((tW4 y6 e6)=true→(Am.Ends (uN7 y15) (vK4 y15) (vK3 y15) x15)))))))),(bif v23 then (2:Int) else (bif v33 then (3:Int) else (bif (tW3 y6 e6) then (uU7 y6 e6) else (bif (tI3 y15 e15) then (uH0 y15 e15) else (0:Int))))))
def tI4 (p0:D163):Prop:=(oL1 p0).1
def f165 (p0:D163):Int:=(oL1 p0).2
instance (p0:D163):Decidable (tI4 p0):=by
 unfold tI4 oL1
 try dsimp only
 infer_instance
def sP:Am.Spec:=fnSpec [(0,(.val T163))] vI [] (fun x=>tI4 x.1) (fun x=>f165 x.1) (fun _=>())
def sE0:Ctx:=Cx tys [(166,uG8),(180,sO8),(181,sO9)] [(6,uU8),(15,uH1)] [] false 88 [] []
theorem sE1:CtxOk Tryz.prog sE0:=xW4 xY7 rfl ⟨rA7,oK9,oL0,trivial⟩ rfl (by kernel_rfl)
noncomputable def sP0:Code:=Tryz.f165.body.getD .skip
noncomputable def qG9:Code:=xX3 sP0 0
theorem rY6:yU9 Tryz.prog sE0 qG9:=xY2 sE1 mixed (sp:=uU8) rfl [[(2,vI)],[(1,(.box T163 (.val T163)))]] (bs:=[]) (by kernel_rfl) trivial (by kernel_rfl) (by kernel_rfl) fun y x=>by kernel_rfl
noncomputable def rM3:Code:=xX3 sP0 1
theorem rB0:yU9 Tryz.prog sE0 rM3:=xY2 sE1 mixed (sp:=uH1) rfl [[(2,vI)],[]] (bs:=[]) (by kernel_rfl) trivial (by kernel_rfl) (by kernel_rfl) fun y x=>by kernel_rfl
theorem oL2:SpecOk Tryz.prog 165 sP:=xY3 sE1 mixed Tryz.func165 (by kernel_rfl) (bs:=[qG9,rM3]) (by kernel_rfl) ⟨rY6,rB0,trivial⟩ fun x=>by kernel_rfl
abbrev wT1:Type:=((List UInt8)×Int×Int×Int×Unit)
abbrev wL:Type:=(Int×Unit)
def vV (y:wT1)(x:wL):Prop×Bool×wL×Bool×Bool:=
 let a1:=y.1
 let a18:=x.1
 let v19:=(decide (a18<y.2.2.2.1))
 let v24:=(decide ((xX6 a1 a18)<32))
 let v30:=(bif v24 then true else (decide ((xX6 a1 a18)>126)))
 let v36:=(bif v30 then ((xX6 a1 a18)!=10) else false)
 ((v19=true→(InB a18 (len a1)∧(((!v24)=true→InB a18 (len a1))∧((v30=true→InB a18 (len a1))∧((!v36)=true→InR (a18+1)))))),(v19&&(!v36)),((a18+1),()),(v19&&v36),(!v19))
def vV0 (y:wT1)(x:wL):Prop:=(vV y x).1
def tI5 (y:wT1)(x:wL):Bool:=(vV y x).2.1
def vP4 (y:wT1)(x:wL):wL:=(vV y x).2.2.1
def uN8 (y:wT1)(x:wL):Bool:=(vV y x).2.2.2.1
def tW5 (y:wT1)(x:wL):Bool:=(vV y x).2.2.2.2
instance (y:wT1)(x:wL):Decidable (vV0 y x):=by
 unfold vV0 vV
 try dsimp only
 infer_instance
def vP5 (y:wT1)(x:wL):Int:=
 (4:Int)
def uU9:St→Option Out:=xP5 [(1,vS),(2,vI),(3,vI),(17,vI)] [(18,vI)] tI5 vP4 vV0 fun y x=>[ex 1 (some (uN8 y x)) [(8,vI)] ((vP5 y x),()),ex 2 (some (tW5 y x)) [(1,vS),(2,vI),(3,vI)] (y.1,y.2.1,y.2.2.1,())]
def pG7 (p0:D163)(p1:List UInt8)(p2:Int)(p3:Int):Prop×Int:=
 let v12:=(f165 p0)
 let v14:=(v12 !=0)
 let y5:=(p1,p2,p3,(len p1),())
 let x5:=((0:Int),())
 let e5:=(zC1 (tI5 y5) (vP4 y5) x5)
 let v40:=(decide ((len p1)>128))
 let v43:=(!(f166 p2 (1:Int) (1048576:Int)))
 let m8_3:=(bif v14 then v12 else (bif (uN8 y5 e5) then (vP5 y5 e5) else (bif v40 then (3:Int) else (bif (bif v43 then true else (!(f166 p3 (0:Int) (1048576:Int)))) then (2:Int) else (0:Int)))))
 (((tI4 p0)∧((!v14)=true→((Am.Ends (tI5 y5) (vP4 y5) (vV0 y5) x5)∧((tW5 y5 e5)=true→((!v40)=true→((wP2 p2 (1:Int) (1048576:Int))∧((!v43)=true→(wP2 p3 (0:Int) (1048576:Int))))))))),m8_3)
def tI6 (p0:D163)(p1:List UInt8)(p2:Int)(p3:Int):Prop:=(pG7 p0 p1 p2 p3).1
def f147 (p0:D163)(p1:List UInt8)(p2:Int)(p3:Int):Int:=(pG7 p0 p1 p2 p3).2
instance (p0:D163)(p1:List UInt8)(p2:Int)(p3:Int):Decidable (tI6 p0 p1 p2 p3):=by
 unfold tI6 pG7
 try dsimp only
 infer_instance
def sP1:Am.Spec:=fnSpec [(0,(.val T163)),(1,vS),(2,vI),(3,vI)] vI [] (fun x=>tI6 x.1 x.2.1 x.2.2.1 x.2.2.2.1) (fun x=>f147 x.1 x.2.1 x.2.2.1 x.2.2.2.1) (fun _=>())
def rM4:Ctx:=Cx tys [(165,sP),(166,uG8)] [(5,uU9)] [] false 49 [] []
theorem rM5:CtxOk Tryz.prog rM4:=xW4 xY7 rfl ⟨oL2,rA7,trivial⟩ rfl (by kernel_rfl)
noncomputable def qH:Code:=Tryz.f147.body.getD .skip
noncomputable def qH0:Code:=xX3 qH 0
theorem rY7:yU9 Tryz.prog rM4 qH0:=xY2 rM5 mixed (sp:=uU9) rfl [[(8,vI)],[(1,vS),(2,vI),(3,vI)]] (bs:=[]) (by kernel_rfl) trivial (by kernel_rfl) (by kernel_rfl) fun y x=>by kernel_rfl
theorem oL3:SpecOk Tryz.prog 147 sP1:=xY3 rM5 mixed Tryz.func147 (by kernel_rfl) (bs:=[qH0]) (by kernel_rfl) ⟨rY7,trivial⟩ fun x=>by kernel_rfl
abbrev vH2:Type:=(D163×Unit×(D163×(List Int)×Unit)×(List D192)×Int×Unit)
abbrev wT2:Type:=(Int×Int×Unit)
def uZ8 (y:vH2)(x:wT2):Prop×Bool×wT2:=
 let a14:=y.2.2.2.1
 let a16:=x.2.1
 let v17:=(decide (a16<y.2.2.2.2.1))
 ((v17=true→(InB a16 (len a14)∧InR (a16+1))),v17,((bif ((nth a14 a16 Z192).1==63) then a16 else x.1),(a16+1),()))
def vV1 (y:vH2)(x:wT2):Prop:=(uZ8 y x).1
def tI7 (y:vH2)(x:wT2):Bool:=(uZ8 y x).2.1
def vP6 (y:vH2)(x:wT2):wT2:=(uZ8 y x).2.2
instance (y:vH2)(x:wT2):Decidable (vV1 y x):=by
 unfold vV1 uZ8
 try dsimp only
 infer_instance
def uV (y:vH2)(x:wT2):Int:=
 x.1
def tW6:List (Nat×Sh):=[(1,(.box T163 (.val T163))),(3,(.ref 12 T213)),(4,vI),(12,(.box T213 (.agg (.cons T163 (.cons (.arr 256 (.int .i64)) .nl)) (.cons (.val T163) (.cons (.val (.arr 256 (.int .i64))) .nl)))))]
def uV0:St→Option Out:=xP5 [(1,(.box T163 (.val T163))),(3,(.ref 12 T213)),(12,(.box T213 (.agg (.cons T163 (.cons (.arr 256 (.int .i64)) .nl)) (.cons (.val T163) (.cons (.val (.arr 256 (.int .i64))) .nl))))),(14,(.val (.sl T192))),(15,vI)] [(4,vI),(16,vI)] tI7 vP6 vV1 fun y x=>[ex 2 none tW6 (y.1,y.2.1,(uV y x),y.2.2.1,())]
abbrev wX6:Type:=(D163×Unit×Int×Unit)
abbrev wN4:Type:=((D163×(List Int)×Unit)×Int×Unit)
def uH2 (y:wX6)(x:wN4):Prop×Bool×wN4:=
 let a12:=x.1
 let a26:=x.2.1
 let v27:=(decide (a26<256))
 ((v27=true→(InB a26 256∧InR (a26+1))),v27,((a12.1,(List.set a12.2.1 (Int.toNat a26) y.2.2.1),()),(a26+1),()))
def vK5 (y:wX6)(x:wN4):Prop:=(uH2 y x).1
def uN9 (y:wX6)(x:wN4):Bool:=(uH2 y x).2.1
def vK6 (y:wX6)(x:wN4):wN4:=(uH2 y x).2.2
instance (y:wX6)(x:wN4):Decidable (vK5 y x):=by
 unfold vK5 uH2
 try dsimp only
 infer_instance
def uH3 (y:wX6)(x:wN4):(D163×(List Int)×Unit):=
 let a12:=x.1
 (a12.1,a12.2.1,())
def tI8:List (Nat×Sh):=[(1,(.box T163 (.val T163))),(3,(.ref 12 T213)),(12,(.box T213 (.agg (.cons T163 (.cons (.arr 256 (.int .i64)) .nl)) (.cons (.val T163) (.cons (.val (.arr 256 (.int .i64))) .nl)))))]
def uH4:St→Option Out:=xP5 [(1,(.box T163 (.val T163))),(3,(.ref 12 T213)),(4,vI)] [(12,(.box T213 (.agg (.cons T163 (.cons (.arr 256 (.int .i64)) .nl)) (.cons (.val T163) (.cons (.val (.arr 256 (.int .i64))) .nl))))),(26,vI)] uN9 vK6 vK5 fun y x=>[ex 4 none tI8 (y.1,y.2.1,(uH3 y x),())]
abbrev wX7:Type:=(Unit×(List D192)×Int×Unit)
abbrev wN5:Type:=((D163×(List Int)×Unit)×Int×Unit)
def uH5 (y:wX7)(x:wN5):Prop×Bool×wN5:=
 let a37:=y.2.1
 let a12:=x.1
 let a39:=x.2.1
 let v40:=(decide (a39<y.2.2.1))
 let v42:=(nth a37 a39 Z192)
 ((v40=true→(InB a39 (len a37)∧(InB v42.1 256∧InR (a39+1)))),v40,((a12.1,(List.set a12.2.1 (Int.toNat v42.1) a39),()),(a39+1),()))
def vK7 (y:wX7)(x:wN5):Prop:=(uH5 y x).1
def uO (y:wX7)(x:wN5):Bool:=(uH5 y x).2.1
def vK8 (y:wX7)(x:wN5):wN5:=(uH5 y x).2.2
instance (y:wX7)(x:wN5):Decidable (vK7 y x):=by
 unfold vK7 uH5
 try dsimp only
 infer_instance
def uH6 (y:wX7)(x:wN5):(D163×(List Int)×Unit):=
 let a12:=x.1
 (a12.1,a12.2.1,())
def tI9:List (Nat×Sh):=[(3,(.ref 12 T213)),(12,(.box T213 (.agg (.cons T163 (.cons (.arr 256 (.int .i64)) .nl)) (.cons (.val T163) (.cons (.val (.arr 256 (.int .i64))) .nl)))))]
def uH7:St→Option Out:=xP5 [(3,(.ref 12 T213)),(37,(.val (.sl T192))),(38,vI)] [(12,(.box T213 (.agg (.cons T163 (.cons (.arr 256 (.int .i64)) .nl)) (.cons (.val T163) (.cons (.val (.arr 256 (.int .i64))) .nl))))),(39,vI)] uO vK8 vK7 fun y x=>[ex 6 none tI9 (y.1,(uH6 y x),())]
def oL4 (p0:D163):Prop×D213:=
 let y4:=(p0,(),(p0,(List.replicate 256 (0:Int)),()),p0.2.2.2.1,(len p0.2.2.2.1),())
 let x4:=((-1:Int),(0:Int),())
 let y10:=(p0,(),(uV y4 (zC1 (tI7 y4) (vP6 y4) x4)),())
 let x10:=((p0,(List.replicate 256 (0:Int)),()),(0:Int),())
 let r10_4_0:=(uH3 y10 (zC1 (uN9 y10) (vK6 y10) x10))
 let y15:=((),p0.2.2.2.1,(len p0.2.2.2.1),())
 let x15:=((r10_4_0.1,r10_4_0.2.1,()),(0:Int),())
 let r15_6_0:=(uH6 y15 (zC1 (uO y15) (vK8 y15) x15))
 (((Am.Ends (tI7 y4) (vP6 y4) (vV1 y4) x4)∧((Am.Ends (uN9 y10) (vK6 y10) (vK5 y10) x10)∧(Am.Ends (uO y15) (vK8 y15) (vK7 y15) x15))),(r15_6_0.1,r15_6_0.2.1,()))
def tJ (p0:D163):Prop:=(oL4 p0).1
def f148 (p0:D163):D213:=(oL4 p0).2
instance (p0:D163):Decidable (tJ p0):=by
 unfold tJ oL4
 try dsimp only
 infer_instance
def sP2:Am.Spec:=fnSpec [(0,(.val T163))] (.val (.ptr T213)) [] (fun x=>tJ x.1) (fun x=>f148 x.1) (fun _=>())
def uZ9:Ctx:=Cx tys [] [(4,uV0),(10,uH4),(15,uH7)] [(39,[(3,12,0,0)])] false 53 [] []
theorem tA:CtxOk Tryz.prog uZ9:=xW4 xY7 rfl trivial rfl (by kernel_rfl)
noncomputable def tJ0:Code:=Tryz.f148.body.getD .skip
noncomputable def qH1:Code:=xX3 tJ0 0
theorem rY8:yU9 Tryz.prog uZ9 qH1:=xY2 tA mixed (sp:=uV0) rfl [tW6] (bs:=[]) (by kernel_rfl) trivial (by kernel_rfl) (by kernel_rfl) fun y x=>by kernel_rfl
noncomputable def rM6:Code:=xX3 tJ0 1
theorem rB1:yU9 Tryz.prog uZ9 rM6:=xY2 tA mixed (sp:=uH4) rfl [tI8] (bs:=[]) (by kernel_rfl) trivial (by kernel_rfl) (by kernel_rfl) fun y x=>by kernel_rfl
noncomputable def rM7:Code:=xX3 tJ0 2
theorem rB2:yU9 Tryz.prog uZ9 rM7:=xY2 tA mixed (sp:=uH7) rfl [tI9] (bs:=[]) (by kernel_rfl) trivial (by kernel_rfl) (by kernel_rfl) fun y x=>by kernel_rfl
theorem oL5:SpecOk Tryz.prog 148 sP2:=xY3 tA mixed Tryz.func148 (by kernel_rfl) (bs:=[qH1,rM6,rM7]) (by kernel_rfl) ⟨rY8,rB1,rB2,trivial⟩ fun x=>by kernel_rfl
abbrev wP3:Type:=(Int×D163×D213×(List (List D125))×Int×Int×D125×(List (List UInt8))×Int×Int×(List D125)×Int×Int×(List (List D125))×Int×Int×(List D125)×Int×Unit)
abbrev wN6:Type:=((List D125)×Int×Unit)
def uH8 (y:wP3)(x:wN6):Prop×Bool×wN6:=
 let a2:=y.1
 let a4:=y.2.1
 let a89:=y.2.2.2.2.2.2.2.2.2.2.2.2.2.2.2.2.1
 let a24:=x.1
 let a91:=x.2.1
 let v92:=(decide (a91<y.2.2.2.2.2.2.2.2.2.2.2.2.2.2.2.2.2.1))
 let v94:=(nth a89 a91 Z125)
 let v104:=(IntKind.wrap .i64 ((IntKind.wrap .i64 (y.2.2.2.2.2.2.1.2.1+v94.1))*a2))
 let v119:=(IntKind.wrap .i64 ((IntKind.wrap .i64 ((IntKind.wrap .i64 (a4.2.1+(IntKind.wrap .i64 (y.2.2.2.2.2.1*a4.2.2.1))))-v94.2.1))*a2))
 ((v92=true→(InB a91 (len a89)∧((wA9 v104 a4.1)∧((wA9 v119 a4.1)∧(InB a91 (len a24)∧a91<len a24))))),v92,((List.set a24 (Int.toNat a91) ((f108 v104 a4.1),(f108 v119 a4.1),())),(IntKind.wrap .i64 (a91+1)),()))
def wP4 (y:wP3)(x:wN6):Prop:=(uH8 y x).1
def wX8 (y:wP3)(x:wN6):Bool:=(uH8 y x).2.1
def wJ3 (y:wP3)(x:wN6):wN6:=(uH8 y x).2.2
instance (y:wP3)(x:wN6):Decidable (wP4 y x):=by
 unfold wP4 uH8
 try dsimp only
 infer_instance
def uH9 (y:wP3)(x:wN6):(List D125):=
 x.1
def tJ1:List (Nat×Sh):=[(2,vI),(4,(.box T163 (.val T163))),(11,(.val (.ptr T213))),(12,(.own (.sl T125) 1012 false)),(13,vI),(14,vI),(19,(.box T125 (.val T125))),(24,(.own T125 1024 true)),(41,(.val (.sl .str))),(42,vI),(43,vI),(54,(.own T125 1016 false)),(55,vI),(56,vI),(74,(.own (.sl T125) 1020 false)),(75,vI),(76,vI)]
def uI:St→Option Out:=xP5 [(2,vI),(4,(.box T163 (.val T163))),(11,(.val (.ptr T213))),(12,(.own (.sl T125) 1012 false)),(13,vI),(14,vI),(19,(.box T125 (.val T125))),(41,(.val (.sl .str))),(42,vI),(43,vI),(54,(.own T125 1016 false)),(55,vI),(56,vI),(74,(.own (.sl T125) 1020 false)),(75,vI),(76,vI),(89,(.val (.sl T125))),(90,vI)] [(24,(.own T125 1024 true)),(91,vI)] wX8 wJ3 wP4 fun y x=>[ex 8 none tJ1 (y.1,y.2.1,y.2.2.1,y.2.2.2.1,y.2.2.2.2.1,y.2.2.2.2.2.1,y.2.2.2.2.2.2.1,(uH9 y x),y.2.2.2.2.2.2.2.1,y.2.2.2.2.2.2.2.2.1,y.2.2.2.2.2.2.2.2.2.1,y.2.2.2.2.2.2.2.2.2.2.1,y.2.2.2.2.2.2.2.2.2.2.2.1,y.2.2.2.2.2.2.2.2.2.2.2.2.1,y.2.2.2.2.2.2.2.2.2.2.2.2.2.1,y.2.2.2.2.2.2.2.2.2.2.2.2.2.2.1,y.2.2.2.2.2.2.2.2.2.2.2.2.2.2.2.1,())]
abbrev wB3:Type:=(Int×D163×D213×Int×D125×(List (List UInt8))×Int×Int×(List D125)×Int×Int×(List (List D125))×Int×Unit)
abbrev wC:Type:=((List (List D125))×Int×Int×Unit)
def wZ2 (y:wB3)(x:wC):Prop×Bool×wC×Bool×Bool:=
 let a74:=y.2.2.2.2.2.2.2.2.2.2.2.1
 let a75:=y.2.2.2.2.2.2.2.2.2.2.2.2.1
 let a12:=x.1
 let a76:=x.2.2.1
 let v77:=(decide (a76<a75))
 let v78:=(nth a74 a76 ([]:List D125))
 let v83:=(IntKind.wrap .i64 (x.2.1+(len v78)))
 let v85:=(decide (v83>4096))
 let v87:=(len v78)
 let y25:=(y.1,y.2.1,y.2.2.1,a12,v83,y.2.2.2.1,y.2.2.2.2.1,y.2.2.2.2.2.1,y.2.2.2.2.2.2.1,y.2.2.2.2.2.2.2.1,y.2.2.2.2.2.2.2.2.1,y.2.2.2.2.2.2.2.2.2.1,y.2.2.2.2.2.2.2.2.2.2.1,a74,a75,a76,v78,(len v78),())
 let x25:=((List.replicate (Int.toNat v87) Z125),(0:Int),())
 let v128:=([(uH9 y25 (zC1 (wX8 y25) (wJ3 y25) x25))]:List (List D125))
 ((v77=true→(InB a76 (len a74)∧((!v85)=true→((0≤v87∧v87≤v87∧v87≤4294967296)∧((Am.Ends (wX8 y25) (wJ3 y25) (wP4 y25) x25)∧((List.length a12+List.length v128:Nat):Int)≤4294967296))))),(v77&&(!v85)),((a12++v128),v83,(IntKind.wrap .i64 (a76+1)),()),(v77&&v85),(!v77))
def wH6 (y:wB3)(x:wC):Prop:=(wZ2 y x).1
def wA6 (y:wB3)(x:wC):Bool:=(wZ2 y x).2.1
def xZ0 (y:wB3)(x:wC):wC:=(wZ2 y x).2.2.1
def tJ2 (y:wB3)(x:wC):Bool:=(wZ2 y x).2.2.2.1
def tJ3 (y:wB3)(x:wC):Bool:=(wZ2 y x).2.2.2.2
instance (y:wB3)(x:wC):Decidable (wH6 y x):=by
 unfold wH6 wZ2
 try dsimp only
 infer_instance
def vK9 (y:wB3)(x:wC):(List (List D125)):=
 ([]:List (List D125))
def uI0 (y:wB3)(x:wC):Int:=
 (3:Int)
def tJ4:List (Nat×Sh):=[(8,(.own (.sl T125) 0 false)),(9,vI)]
def uI1 (y:wB3)(x:wC):(List (List D125)):=
 x.1
def uI2 (y:wB3)(x:wC):Int:=
 x.2.1
def tJ5:List (Nat×Sh):=[(2,vI),(4,(.box T163 (.val T163))),(11,(.val (.ptr T213))),(12,(.own (.sl T125) 1012 false)),(13,vI),(14,vI),(41,(.val (.sl .str))),(42,vI),(43,vI),(54,(.own T125 1016 false)),(55,vI),(56,vI)]
def uI3:St→Option Out:=xP5 [(2,vI),(4,(.box T163 (.val T163))),(11,(.val (.ptr T213))),(14,vI),(19,(.box T125 (.val T125))),(41,(.val (.sl .str))),(42,vI),(43,vI),(54,(.own T125 1016 false)),(55,vI),(56,vI),(74,(.own (.sl T125) 1020 false)),(75,vI)] [(12,(.own (.sl T125) 1012 false)),(13,vI),(76,vI)] wA6 xZ0 wH6 fun y x=>[ex 1 (some (tJ2 y x)) tJ4 ((vK9 y x),(uI0 y x),()),ex 6 (some (tJ3 y x)) tJ5 (y.1,y.2.1,y.2.2.1,(uI1 y x),(uI2 y x),y.2.2.2.1,y.2.2.2.2.2.1,y.2.2.2.2.2.2.1,y.2.2.2.2.2.2.2.1,y.2.2.2.2.2.2.2.2.1,y.2.2.2.2.2.2.2.2.2.1,y.2.2.2.2.2.2.2.2.2.2.1,())]
abbrev xZ9:Type:=(Int×D163×D213×Int×(List (List UInt8))×Int×Int×(List D125)×Int×Unit)
abbrev wA:Type:=((List (List D125))×Int×Int×Unit)
def vH3 (y:xZ9)(x:wA):Prop×Bool×wA×Bool×Bool:=
 let a4:=y.2.1
 let a54:=y.2.2.2.2.2.2.2.1
 let a55:=y.2.2.2.2.2.2.2.2.1
 let a56:=x.2.2.1
 let v57:=(decide (a56<a55))
 let v58:=(nth a54 a56 Z125)
 let v65:=(nth a4.2.2.2.1 v58.1 Z192)
 let v68:=(f126 v65.2.2.1)
 let v72:=(v68.2.1 !=0)
 let y18:=(y.1,a4,y.2.2.1,y.2.2.2.1,v58,y.2.2.2.2.1,y.2.2.2.2.2.1,y.2.2.2.2.2.2.1,a54,a55,a56,v68.1,(len v68.1),())
 let x18:=(x.1,x.2.1,(0:Int),())
 let e18:=(zC1 (wA6 y18) (xZ0 y18) x18)
 ((v57=true→(InB a56 (len a54)∧(InB v58.1 (len a4.2.2.2.1)∧((vO4 v65.2.2.1)∧((!v72)=true→(Am.Ends (wA6 y18) (xZ0 y18) (wH6 y18) x18)))))),(v57&&((!v72)&&(tJ3 y18 e18))),((uI1 y18 e18),(uI2 y18 e18),(IntKind.wrap .i64 (a56+1)),()),(v57&&(v72||((!v72)&&(tJ2 y18 e18)))),(!v57))
def wF2 (y:xZ9)(x:wA):Prop:=(vH3 y x).1
def wB0 (y:xZ9)(x:wA):Bool:=(vH3 y x).2.1
def xY9 (y:xZ9)(x:wA):wA:=(vH3 y x).2.2.1
def tJ6 (y:xZ9)(x:wA):Bool:=(vH3 y x).2.2.2.1
def tJ7 (y:xZ9)(x:wA):Bool:=(vH3 y x).2.2.2.2
instance (y:xZ9)(x:wA):Decidable (wF2 y x):=by
 unfold wF2 vH3
 try dsimp only
 infer_instance
def vL (y:xZ9)(x:wA):(List (List D125)):=
 let a4:=y.2.1
 let a54:=y.2.2.2.2.2.2.2.1
 let a56:=x.2.2.1
 let v58:=(nth a54 a56 Z125)
 let v68:=(f126 (nth a4.2.2.2.1 v58.1 Z192).2.2.1)
 let y18:=(y.1,a4,y.2.2.1,y.2.2.2.1,v58,y.2.2.2.2.1,y.2.2.2.2.2.1,y.2.2.2.2.2.2.1,a54,y.2.2.2.2.2.2.2.2.1,a56,v68.1,(len v68.1),())
 (bif (v68.2.1 !=0) then [] else (vK9 y18 (zC1 (wA6 y18) (xZ0 y18) (x.1,x.2.1,(0:Int),()))))
def uI4 (y:xZ9)(x:wA):Int:=
 let a4:=y.2.1
 let a54:=y.2.2.2.2.2.2.2.1
 let a56:=x.2.2.1
 let v58:=(nth a54 a56 Z125)
 let v68:=(f126 (nth a4.2.2.2.1 v58.1 Z192).2.2.1)
 let y18:=(y.1,a4,y.2.2.1,y.2.2.2.1,v58,y.2.2.2.2.1,y.2.2.2.2.2.1,y.2.2.2.2.2.2.1,a54,y.2.2.2.2.2.2.2.2.1,a56,v68.1,(len v68.1),())
 (bif (v68.2.1 !=0) then v68.2.1 else (uI0 y18 (zC1 (wA6 y18) (xZ0 y18) (x.1,x.2.1,(0:Int),()))))
def tJ8:List (Nat×Sh):=[(8,(.own (.sl T125) 0 false)),(9,vI)]
def uI5 (y:xZ9)(x:wA):(List (List D125)):=
 x.1
def uI6 (y:xZ9)(x:wA):Int:=
 x.2.1
def tJ9:List (Nat×Sh):=[(2,vI),(4,(.box T163 (.val T163))),(11,(.val (.ptr T213))),(12,(.own (.sl T125) 1012 false)),(13,vI),(41,(.val (.sl .str))),(42,vI),(43,vI)]
def uI7:St→Option Out:=xP5 [(2,vI),(4,(.box T163 (.val T163))),(11,(.val (.ptr T213))),(14,vI),(41,(.val (.sl .str))),(42,vI),(43,vI),(54,(.own T125 1016 false)),(55,vI)] [(12,(.own (.sl T125) 1012 false)),(13,vI),(56,vI)] wB0 xY9 wF2 fun y x=>[ex 1 (some (tJ6 y x)) tJ8 ((vL y x),(uI4 y x),()),ex 4 (some (tJ7 y x)) tJ9 (y.1,y.2.1,y.2.2.1,(uI5 y x),(uI6 y x),y.2.2.2.2.1,y.2.2.2.2.2.1,y.2.2.2.2.2.2.1,())]
abbrev wE0:Type:=(Int×D163×D213×(List (List UInt8))×Int×Unit)
abbrev wB6:Type:=((List (List D125))×Int×Int×Unit)
def vV2 (y:wE0)(x:wB6):Prop×Bool×wB6×Bool×Bool:=
 let a11:=y.2.2.1
 let a41:=y.2.2.2.1
 let a42:=y.2.2.2.2.1
 let a43:=x.2.2.1
 let v44:=(decide (a43<a42))
 let v46:=(nth a41 a43 ([]:List UInt8))
 let v51:=(f150 a11 v46)
 let y12:=(y.1,y.2.1,a11,a43,a41,a42,a43,v51.1,(len v51.1),())
 let x12:=(x.1,x.2.1,(0:Int),())
 let e12:=(zC1 (wB0 y12) (xY9 y12) x12)
 ((v44=true→(InB a43 (len a41)∧((vM8 a11 v46)∧(Am.Ends (wB0 y12) (xY9 y12) (wF2 y12) x12)))),(v44&&(tJ7 y12 e12)),((uI5 y12 e12),(uI6 y12 e12),(IntKind.wrap .i64 (a43+1)),()),(v44&&(tJ6 y12 e12)),(!v44))
def wP5 (y:wE0)(x:wB6):Prop:=(vV2 y x).1
def wZ3 (y:wE0)(x:wB6):Bool:=(vV2 y x).2.1
def wE9 (y:wE0)(x:wB6):wB6:=(vV2 y x).2.2.1
def uO0 (y:wE0)(x:wB6):Bool:=(vV2 y x).2.2.2.1
def rY9 (y:wE0)(x:wB6):Bool:=(vV2 y x).2.2.2.2
instance (y:wE0)(x:wB6):Decidable (wP5 y x):=by
 unfold wP5 vV2
 try dsimp only
 infer_instance
def vP7 (y:wE0)(x:wB6):(List (List D125)):=
 let a11:=y.2.2.1
 let a41:=y.2.2.2.1
 let a43:=x.2.2.1
 let v51:=(f150 a11 (nth a41 a43 ([]:List UInt8)))
 let y12:=(y.1,y.2.1,a11,a43,a41,y.2.2.2.2.1,a43,v51.1,(len v51.1),())
 (vL y12 (zC1 (wB0 y12) (xY9 y12) (x.1,x.2.1,(0:Int),())))
def uV1 (y:wE0)(x:wB6):Int:=
 let a11:=y.2.2.1
 let a41:=y.2.2.2.1
 let a43:=x.2.2.1
 let v51:=(f150 a11 (nth a41 a43 ([]:List UInt8)))
 let y12:=(y.1,y.2.1,a11,a43,a41,y.2.2.2.2.1,a43,v51.1,(len v51.1),())
 (uI4 y12 (zC1 (wB0 y12) (xY9 y12) (x.1,x.2.1,(0:Int),())))
def tW7:List (Nat×Sh):=[(8,(.own (.sl T125) 0 false)),(9,vI)]
def vP8 (y:wE0)(x:wB6):(List (List D125)):=
 x.1
def tW8:List (Nat×Sh):=[(12,(.own (.sl T125) 1012 false))]
def uV2:St→Option Out:=xP5 [(2,vI),(4,(.box T163 (.val T163))),(11,(.val (.ptr T213))),(41,(.val (.sl .str))),(42,vI)] [(12,(.own (.sl T125) 1012 false)),(13,vI),(43,vI)] wZ3 wE9 wP5 fun y x=>[ex 1 (some (uO0 y x)) tW7 ((vP7 y x),(uV1 y x),()),ex 2 (some (rY9 y x)) tW8 ((vP8 y x),())]
def pG8 (p0:D163)(p1:List UInt8)(p2:Int)(p3:Int):Prop×((List (List D125))×Int×Unit):=
 let v31:=(f147 p0 p1 p2 p3)
 let v33:=(v31 !=0)
 let v36:=(f148 p0)
 let v41:=(f149 v36 p1 p2 p3)
 let y8:=(p2,p0,v36,v41,(len v41),())
 let x8:=(([]:List (List D125)),(0:Int),(0:Int),())
 let e8:=(zC1 (wZ3 y8) (wE9 y8) x8)
 let q8_1:=(uO0 y8 e8)
 (((tI6 p0 p1 p2 p3)∧((!v33)=true→((tJ p0)∧((vJ4 v36 p1 p2 p3)∧(Am.Ends (wZ3 y8) (wE9 y8) (wP5 y8) x8))))),((bif v33 then [] else (bif q8_1 then (vP7 y8 e8) else (vP8 y8 e8))),(bif v33 then v31 else (bif q8_1 then (uV1 y8 e8) else (0:Int))),()))
def tK (p0:D163)(p1:List UInt8)(p2:Int)(p3:Int):Prop:=(pG8 p0 p1 p2 p3).1
def f130 (p0:D163)(p1:List UInt8)(p2:Int)(p3:Int):((List (List D125))×Int×Unit):=(pG8 p0 p1 p2 p3).2
instance (p0:D163)(p1:List UInt8)(p2:Int)(p3:Int):Decidable (tK p0 p1 p2 p3):=by
 unfold tK pG8
 try dsimp only
 infer_instance
def sP3:Am.Spec:=fnSpec [(0,(.val T163)),(1,vS),(2,vI),(3,vI)] (.tup (.cons (.own (.sl T125) 0 false) (.cons vI .nl))) [] (fun x=>tK x.1 x.2.1 x.2.2.1 x.2.2.2.1) (fun x=>f130 x.1 x.2.1 x.2.2.1 x.2.2.2.1) (fun _=>())
def uI8:Ctx:=Cx tys [(108,wF3),(126,tG),(147,sP1),(148,sP2),(149,sK9),(150,tC8)] [(25,uI),(18,uI3),(12,uI7),(8,uV2)] [(21,[(4,0,51,1016)]),(29,[(4,0,68,1020)]),(47,[(4,0,88,1024)]),(58,[(1,24,0,0)]),(59,[(4,0,129,1012)]),(67,[(4,0,1012,0)])] true 134 [] [88]
theorem uI9:CtxOk Tryz.prog uI8:=xW4 xY7 rfl ⟨wY6,qF3,oL3,oL5,oC0,qC5,trivial⟩ rfl (by kernel_rfl)
noncomputable def qH2:Code:=Tryz.f130.body.getD .skip
noncomputable def rB3:Code:=xX3 qH2 0
noncomputable def sE2:Code:=xX3 rB3 0
noncomputable def sE3:Code:=xX3 sE2 0
noncomputable def rM8:Code:=xX3 sE3 0
theorem rB4:yU9 Tryz.prog uI8 rM8:=xY2 uI9 mixed (sp:=uI) rfl [tJ1] (bs:=[]) (by kernel_rfl) trivial (by kernel_rfl) (by kernel_rfl) fun y x=>by kernel_rfl
theorem rB5:yU9 Tryz.prog uI8 sE3:=xY2 uI9 mixed (sp:=uI3) rfl [tJ4,tJ5] (bs:=[rM8]) (by kernel_rfl) ⟨rB4,trivial⟩ (by kernel_rfl) (by kernel_rfl) fun y x=>by kernel_rfl
theorem rB6:yU9 Tryz.prog uI8 sE2:=xY2 uI9 mixed (sp:=uI7) rfl [tJ8,tJ9] (bs:=[sE3]) (by kernel_rfl) ⟨rB5,trivial⟩ (by kernel_rfl) (by kernel_rfl) fun y x=>by kernel_rfl
theorem rZ:yU9 Tryz.prog uI8 rB3:=xY2 uI9 mixed (sp:=uV2) rfl [tW7,tW8] (bs:=[sE2]) (by kernel_rfl) ⟨rB6,trivial⟩ (by kernel_rfl) (by kernel_rfl) fun y x=>by kernel_rfl
theorem oL6:SpecOk Tryz.prog 130 sP3:=xY3 uI9 mixed Tryz.func130 (by kernel_rfl) (bs:=[rB3]) (by kernel_rfl) ⟨rZ,trivial⟩ fun x=>by kernel_rfl
def f151 (p0:List UInt8):List (List UInt8):=Lib.fields p0
def tK0 (p0:List UInt8):Prop:=(List.length p0:Int)≤4294967280∧(p0.all fun b=>decide (b.toNat<128))=true
instance (p0:List UInt8):Decidable (tK0 p0):=by
  unfold tK0
  infer_instance
def oL7:List (Nat×Sh):=[(0,(.val .str))]
def oL8:Sh:=(.val (.sl .str))
def oL9:List (Nat×Sh):=[]
def sP4:Am.Spec:=fnSpec oL7 oL8 oL9 (fun x=>tK0 x.1) (fun x=>f151 x.1) (fun _=>())
theorem tab0:G0=Lib.asciiSpaceTab:=by kernel_rfl
theorem oM:SpecOk Tryz.prog 151 sP4:=xV8 (F:=f151) (e:=9) (ok:=tK0) ⟨_,Tryz.func151,by kernel_rfl,by decide⟩ fun s w χ hok hg =>
  Any.strings_Fields_core Tryz.lays157 (by kernel_rfl) s w (by have h1:=hok.1;rw[Array.length_toList] at h1;have h2:s.data.size=s.size:=rfl;omega)
    (fun j b hj=>by have:=List.all_eq_true.1 hok.2 b (List.mem_of_getElem? hj);simpa using this)
    (fun c hc=>by
      have h1:=xW7 hg (g:=0) (n:=256) (k:=.u8) (l:=G0) (List.mem_cons_self ..) c hc
      rw[tab0,Lib.asciiSpaceTab_at c hc] at h1
      exact h1)
def oM0 (p0:List UInt8)(p1:Int):Prop×Int:=
 ((sB7 p0 p1),(f173 p0 p1))
def tK1 (p0:List UInt8)(p1:Int):Prop:=(oM0 p0 p1).1
def f152 (p0:List UInt8)(p1:Int):Int:=(oM0 p0 p1).2
instance (p0:List UInt8)(p1:Int):Decidable (tK1 p0 p1):=by
 unfold tK1 oM0
 try dsimp only
 infer_instance
def sP5:Am.Spec:=fnSpec [(0,vS),(1,(.val (.int .u8)))] vI [] (fun x=>tK1 x.1 x.2.1) (fun x=>f152 x.1 x.2.1) (fun _=>())
def pG9:Ctx:=Cx tys [(173,sK)] [] [] false 8 [] []
theorem pH:CtxOk Tryz.prog pG9:=xW4 xY7 rfl ⟨pZ8,trivial⟩ rfl (by kernel_rfl)
theorem oM1:SpecOk Tryz.prog 152 sP5:=xY3 pH mixed Tryz.func152 (by kernel_rfl) (bs:=[]) (by kernel_rfl) trivial fun x=>by kernel_rfl
def oM2 (p0:Int)(p1:Int)(p2:Int)(p3:Int):Prop×(List D128):=
 let v30:=([((1:Int),([(p0,p1,()),Z125,Z125]:List D125),()),((2:Int),([(p2,p1,()),Z125,Z125]:List D125),()),((2:Int),([(p2,p3,()),Z125,Z125]:List D125),()),((2:Int),([(p0,p3,()),Z125,Z125]:List D125),()),((5:Int),(List.replicate 3 Z125),())]:List D128)
 (True,v30)
def sE4 (p0:Int)(p1:Int)(p2:Int)(p3:Int):Prop:=(oM2 p0 p1 p2 p3).1
def f174 (p0:Int)(p1:Int)(p2:Int)(p3:Int):List D128:=(oM2 p0 p1 p2 p3).2
instance (p0:Int)(p1:Int)(p2:Int)(p3:Int):Decidable (sE4 p0 p1 p2 p3):=by
 unfold sE4 oM2
 try dsimp only
 infer_instance
def sP6:Am.Spec:=fnSpec [(0,vI),(1,vI),(2,vI),(3,vI)] (.own T128 0 false) [] (fun x=>sE4 x.1 x.2.1 x.2.2.1 x.2.2.2.1) (fun x=>f174 x.1 x.2.1 x.2.2.1 x.2.2.2.1) (fun _=>())
def pH0:Ctx:=Cx tys [] [] [(3,[(4,0,30,0)])] false 31 [] []
theorem pH1:CtxOk Tryz.prog pH0:=xW4 xY7 rfl trivial rfl (by kernel_rfl)
theorem oM3:SpecOk Tryz.prog 174 sP6:=xY3 pH1 mixed Tryz.func174 (by kernel_rfl) (bs:=[]) (by kernel_rfl) trivial fun x=>by kernel_rfl
abbrev vH4:Type:=(Int×Int×(List D128)×Int×Unit)
abbrev wT3:Type:=(Int×Unit)
def tA0 (y:vH4)(x:wT3):Prop×Bool×wT3:=
 let a7:=x.1
 let v20:=(decide ((a7+1)<7))
 let v24:=(a7+1)
 let v28:=(bif v20 then ((xY4 .i64 (xY5 y.2.1 v24 64) (1:Int))==1) else false)
 ((InR (a7+1)∧((v20=true→InR (a7+1))∧((v20=true→0≤v24)∧(v28=true→InR (a7+1))))),v28,((a7+1),()))
def vV3 (y:vH4)(x:wT3):Prop:=(tA0 y x).1
def tK2 (y:vH4)(x:wT3):Bool:=(tA0 y x).2.1
def vP9 (y:vH4)(x:wT3):wT3:=(tA0 y x).2.2
instance (y:vH4)(x:wT3):Decidable (vV3 y x):=by
 unfold vV3 tA0
 try dsimp only
 infer_instance
def uV3 (y:vH4)(x:wT3):Int:=
 x.1
def tW9:List (Nat×Sh):=[(0,vI),(1,vI),(5,(.own T128 1005 false)),(6,vI),(7,vI)]
def uV4:St→Option Out:=xP5 [(0,vI),(1,vI),(5,(.own T128 1005 false)),(6,vI)] [(7,vI)] tK2 vP9 vV3 fun y x=>[ex 4 none tW9 (y.1,y.2.1,y.2.2.1,y.2.2.2.1,(uV3 y x),())]
abbrev vH5:Type:=(Unit)
abbrev wT4:Type:=(Int×Int×(List D128)×Int×Unit)
def tA1 (y:vH5)(x:wT4):Prop×Bool×wT4:=
 let a0:=x.1
 let a1:=x.2.1
 let a5:=x.2.2.1
 let a6:=x.2.2.2.1
 let v9:=(decide (a6<7))
 let v16:=((xY4 .i64 (xY5 a1 a6 64) (1:Int))==0)
 let y7:=(a0,a1,a5,a6,())
 let x7:=(a6,())
 let r7_4_0:=(uV3 y7 (zC1 (tK2 y7) (vP9 y7) x7))
 let v33:=(100*a0)
 let v35:=(100*a6)
 let v36:=(700-v35)
 let v38:=(100*a0)
 let v39:=(v38+100)
 let v41:=(100*r7_4_0)
 let v42:=(600-v41)
 let v43:=(f174 v33 v36 v39 v42)
 let c:=(v16||(!v16))
 let m6:=(bif v16 then a6 else r7_4_0)
 ((v9=true→(0≤a6∧(((!v16)=true→((Am.Ends (tK2 y7) (vP9 y7) (vV3 y7) x7)∧(InR (100*a0)∧(InR (100*a6)∧(InR (700-v35)∧(InR (100*a0)∧(InR (v38+100)∧(InR (100*r7_4_0)∧(InR (600-v41)∧((sE4 v33 v36 v39 v42)∧((List.length a5+List.length v43:Nat):Int)≤4294967296))))))))))∧(c=true→InR (m6+1))))),(v9&&c),((bif v16 then a0 else a0),(bif v16 then a1 else a1),(bif v16 then a5 else (a5++v43)),(m6+1),()))
def vV4 (y:vH5)(x:wT4):Prop:=(tA1 y x).1
def tK3 (y:vH5)(x:wT4):Bool:=(tA1 y x).2.1
def vQ (y:vH5)(x:wT4):wT4:=(tA1 y x).2.2
instance (y:vH5)(x:wT4):Decidable (vV4 y x):=by
 unfold vV4 tA1
 try dsimp only
 infer_instance
def uV5 (y:vH5)(x:wT4):(List D128):=
 x.2.2.1
def uV6:St→Option Out:=xP5 [] [(0,vI),(1,vI),(5,(.own T128 1005 false)),(6,vI)] tK3 vQ vV4 fun y x=>[ex 2 none [(5,(.own T128 1005 false))] ((uV5 y x),())]
def oM4 (p0:Int)(p1:Int):Prop×(List D128):=
 let x3:=(p0,p1,([]:List D128),(0:Int),())
 ((Am.Ends (tK3 ()) (vQ ()) (vV4 ()) x3),(uV5 () (zC1 (tK3 ()) (vQ ()) x3)))
def sE5 (p0:Int)(p1:Int):Prop:=(oM4 p0 p1).1
def f153 (p0:Int)(p1:Int):List D128:=(oM4 p0 p1).2
instance (p0:Int)(p1:Int):Decidable (sE5 p0 p1):=by
 unfold sE5 oM4
 try dsimp only
 infer_instance
def sP7:Am.Spec:=fnSpec [(0,vI),(1,vI)] (.own T128 0 false) [] (fun x=>sE5 x.1 x.2.1) (fun x=>f153 x.1 x.2.1) (fun _=>())
def sE6:Ctx:=Cx tys [(174,sP6)] [(7,uV4),(3,uV6)] [(19,[(4,0,44,1005)]),(23,[(4,0,1005,0)])] false 47 [] []
theorem sE7:CtxOk Tryz.prog sE6:=xW4 xY7 rfl ⟨oM3,trivial⟩ rfl (by kernel_rfl)
noncomputable def qH3:Code:=Tryz.f153.body.getD .skip
noncomputable def rB7:Code:=xX3 qH3 0
noncomputable def qH4:Code:=xX3 rB7 0
theorem rZ0:yU9 Tryz.prog sE6 qH4:=xY2 sE7 mixed (sp:=uV4) rfl [tW9] (bs:=[]) (by kernel_rfl) trivial (by kernel_rfl) (by kernel_rfl) fun y x=>by kernel_rfl
theorem rZ1:yU9 Tryz.prog sE6 rB7:=xY2 sE7 mixed (sp:=uV6) rfl [[(5,(.own T128 1005 false))]] (bs:=[qH4]) (by kernel_rfl) ⟨rZ0,trivial⟩ (by kernel_rfl) (by kernel_rfl) fun y x=>by kernel_rfl
theorem oM5:SpecOk Tryz.prog 153 sP7:=xY3 sE7 mixed Tryz.func153 (by kernel_rfl) (bs:=[rB7]) (by kernel_rfl) ⟨rZ1,trivial⟩ fun x=>by kernel_rfl
abbrev wT5:Type:=((List UInt8)×(List (List UInt8))×Int×Int×Int×Unit)
abbrev wL0:Type:=((Int×Int×Int×(List D192)×(List D197)×Unit)×(Int×Int×Int×(List D192)×(List D197)×Unit)×(Int×Int×(List D128)×Unit)×Int×Unit)
def tA2 (y:wT5)(x:wL0):Prop×Bool×wL0:=
 let a3:=y.1
 let a0:=x.1
 let a1:=x.2.1
 let a4:=x.2.2.1
 let a22:=x.2.2.2.1
 let v23:=(decide (a22<y.2.2.2.2.1))
 let v27:=(2*a22)
 let v28:=(xX6 a3 v27)
 let v29:=(f152 ([48,49,50,51,52,53,54,55,56,57,97,98,99,100,101,102]:List UInt8) v28)
 let v30:=(16*v29)
 let v33:=(2*a22)
 let v34:=(v33+1)
 let v35:=(xX6 a3 v34)
 let v36:=(f152 ([48,49,50,51,52,53,54,55,56,57,97,98,99,100,101,102]:List UInt8) v35)
 let v37:=(v30+v36)
 let v42:=(f153 a22 v37)
 ((v23=true→(InR (2*a22)∧(InB v27 (len a3)∧((tK1 ([48,49,50,51,52,53,54,55,56,57,97,98,99,100,101,102]:List UInt8) v28)∧(InR (16*v29)∧(InR (2*a22)∧(InR (v33+1)∧(InB v34 (len a3)∧((tK1 ([48,49,50,51,52,53,54,55,56,57,97,98,99,100,101,102]:List UInt8) v35)∧(InR (v30+v36)∧((sE5 a22 v37)∧(((List.length a4.2.2.1+List.length v42:Nat):Int)≤4294967296∧InR (a22+1))))))))))))),v23,((a0.1,a0.2.1,a0.2.2.1,a0.2.2.2.1,a0.2.2.2.2.1,()),(a1.1,a1.2.1,a1.2.2.1,a1.2.2.2.1,a1.2.2.2.2.1,()),(a4.1,a4.2.1,(a4.2.2.1++v42),()),(a22+1),()))
def vV5 (y:wT5)(x:wL0):Prop:=(tA2 y x).1
def tK4 (y:wT5)(x:wL0):Bool:=(tA2 y x).2.1
def vQ0 (y:wT5)(x:wL0):wL0:=(tA2 y x).2.2
instance (y:wT5)(x:wL0):Decidable (vV5 y x):=by
 unfold vV5 tA2
 try dsimp only
 infer_instance
def uV7 (y:wT5)(x:wL0):(Int×Int×Int×(List D192)×(List D197)×Unit):=
 let a0:=x.1
 (a0.1,a0.2.1,a0.2.2.1,a0.2.2.2.1,a0.2.2.2.2.1,())
def uV8 (y:wT5)(x:wL0):(Int×Int×Int×(List D192)×(List D197)×Unit):=
 let a1:=x.2.1
 (a1.1,a1.2.1,a1.2.2.1,a1.2.2.2.1,a1.2.2.2.2.1,())
def uV9 (y:wT5)(x:wL0):(Int×Int×(List D128)×Unit):=
 let a4:=x.2.2.1
 (a4.1,a4.2.1,a4.2.2.1,())
def tX:List (Nat×Sh):=[(0,(.box T163 (.agg (.cons (.int .i64) (.cons (.int .i64) (.cons (.int .i64) (.cons (.sl T192) (.cons (.sl T197) .nl))))) (.cons vI (.cons vI (.cons vI (.cons (.own T192 400000 false) (.cons (.own T197 400001 false) .nl)))))))),(1,(.box T163 (.agg (.cons (.int .i64) (.cons (.int .i64) (.cons (.int .i64) (.cons (.sl T192) (.cons (.sl T197) .nl))))) (.cons vI (.cons vI (.cons vI (.cons (.own T192 400100 false) (.cons (.own T197 400101 false) .nl)))))))),(4,(.box T192 (.agg (.cons (.int .u8) (.cons (.int .i64) (.cons (.sl T128) .nl))) (.cons (.val (.int .u8)) (.cons vI (.cons (.own T128 400400 false) .nl)))))),(8,(.val (.sl .str))),(9,vI),(10,vI)]
def uW:St→Option Out:=xP5 [(3,vS),(8,(.val (.sl .str))),(9,vI),(10,vI),(21,vI)] [(0,(.box T163 (.agg (.cons (.int .i64) (.cons (.int .i64) (.cons (.int .i64) (.cons (.sl T192) (.cons (.sl T197) .nl))))) (.cons vI (.cons vI (.cons vI (.cons (.own T192 400000 false) (.cons (.own T197 400001 false) .nl)))))))),(1,(.box T163 (.agg (.cons (.int .i64) (.cons (.int .i64) (.cons (.int .i64) (.cons (.sl T192) (.cons (.sl T197) .nl))))) (.cons vI (.cons vI (.cons vI (.cons (.own T192 400100 false) (.cons (.own T197 400101 false) .nl)))))))),(4,(.box T192 (.agg (.cons (.int .u8) (.cons (.int .i64) (.cons (.sl T128) .nl))) (.cons (.val (.int .u8)) (.cons vI (.cons (.own T128 400400 false) .nl)))))),(22,vI)] tK4 vQ0 vV5 fun y x=>[ex 4 none tX ((uV7 y x),(uV8 y x),(uV9 y x),y.2.1,y.2.2.1,y.2.2.2.1,())]
abbrev wZ4:Type:=((List (List UInt8))×Int×Unit)
abbrev wO2:Type:=((Int×Int×Int×(List D192)×(List D197)×Unit)×(Int×Int×Int×(List D192)×(List D197)×Unit)×Int×Unit)
def tA3 (y:wZ4)(x:wO2):Prop×Bool×wO2:=
 let a8:=y.1
 let a9:=y.2.1
 let a0:=x.1
 let a1:=x.2.1
 let a10:=x.2.2.1
 let v11:=(decide (a10<a9))
 let v13:=(nth a8 a10 ([]:List UInt8))
 let v20:=(len v13)
 let y7:=(v13,a8,a9,a10,(Int.tdiv v20 (2:Int)),())
 let x7:=((a0.1,a0.2.1,a0.2.2.1,a0.2.2.2.1,a0.2.2.2.2.1,()),(a1.1,a1.2.1,a1.2.2.1,a1.2.2.2.1,a1.2.2.2.2.1,()),((IntKind.wrap .u8 (32+a10)),(600:Int),([]:List D128),()),(0:Int),())
 let e7:=(zC1 (tK4 y7) (vQ0 y7) x7)
 let r7_4_0:=(uV7 y7 e7)
 let r7_4_1:=(uV8 y7 e7)
 let r7_4_2:=(uV9 y7 e7)
 let v49:=([(r7_4_2.1,r7_4_2.2.1,r7_4_2.2.2.1,())]:List D192)
 ((v11=true→(InB a10 (len a8)∧(InR (32+a10)∧(InR (Int.tdiv v20 (2:Int))∧((Am.Ends (tK4 y7) (vQ0 y7) (vV5 y7) x7)∧(((List.length r7_4_1.2.2.2.1+List.length v49:Nat):Int)≤4294967296∧InR (a10+1))))))),v11,((r7_4_0.1,r7_4_0.2.1,r7_4_0.2.2.1,r7_4_0.2.2.2.1,r7_4_0.2.2.2.2.1,()),(r7_4_1.1,r7_4_1.2.1,r7_4_1.2.2.1,(r7_4_1.2.2.2.1++v49),r7_4_1.2.2.2.2.1,()),(a10+1),()))
def vV6 (y:wZ4)(x:wO2):Prop:=(tA3 y x).1
def tK5 (y:wZ4)(x:wO2):Bool:=(tA3 y x).2.1
def vQ1 (y:wZ4)(x:wO2):wO2:=(tA3 y x).2.2
instance (y:wZ4)(x:wO2):Decidable (vV6 y x):=by
 unfold vV6 tA3
 try dsimp only
 infer_instance
def sP8 (y:wZ4)(x:wO2):(Int×Int×Int×(List D192)×(List D197)×Unit):=
 let a0:=x.1
 (a0.1,a0.2.1,a0.2.2.1,a0.2.2.2.1,a0.2.2.2.2.1,())
def uW0 (y:wZ4)(x:wO2):(Int×Int×Int×(List D192)×(List D197)×Unit):=
 let a1:=x.2.1
 (a1.1,a1.2.1,a1.2.2.1,a1.2.2.2.1,a1.2.2.2.2.1,())
def tX0:List (Nat×Sh):=[(0,(.box T163 (.agg (.cons (.int .i64) (.cons (.int .i64) (.cons (.int .i64) (.cons (.sl T192) (.cons (.sl T197) .nl))))) (.cons vI (.cons vI (.cons vI (.cons (.own T192 400000 false) (.cons (.own T197 400001 false) .nl)))))))),(1,(.box T163 (.agg (.cons (.int .i64) (.cons (.int .i64) (.cons (.int .i64) (.cons (.sl T192) (.cons (.sl T197) .nl))))) (.cons vI (.cons vI (.cons vI (.cons (.own T192 400100 false) (.cons (.own T197 400101 false) .nl))))))))]
def uW1:St→Option Out:=xP5 [(8,(.val (.sl .str))),(9,vI)] [(0,(.box T163 (.agg (.cons (.int .i64) (.cons (.int .i64) (.cons (.int .i64) (.cons (.sl T192) (.cons (.sl T197) .nl))))) (.cons vI (.cons vI (.cons vI (.cons (.own T192 400000 false) (.cons (.own T197 400001 false) .nl)))))))),(1,(.box T163 (.agg (.cons (.int .i64) (.cons (.int .i64) (.cons (.int .i64) (.cons (.sl T192) (.cons (.sl T197) .nl))))) (.cons vI (.cons vI (.cons vI (.cons (.own T192 400100 false) (.cons (.own T197 400101 false) .nl)))))))),(10,vI)] tK5 vQ1 vV6 fun y x=>[ex 2 none tX0 ((sP8 y x),(uW0 y x),())]
def oM6 :Prop×D163:=
 let v8:=(f151 lit0)
 let y3:=(v8,(len v8),())
 let x3:=(((0:Int),(0:Int),(0:Int),([]:List D192),([]:List D197),()),((1000:Int),(800:Int),(1200:Int),([]:List D192),([]:List D197),()),(0:Int),())
 let r3_2_1:=(uW0 y3 (zC1 (tK5 y3) (vQ1 y3) x3))
 let s_6:=(r3_2_1.1,r3_2_1.2.1,r3_2_1.2.2.1,r3_2_1.2.2.2.1,([((65:Int),(86:Int),(-100:Int),()),((76:Int),(84:Int),(-100:Int),()),((84:Int),(97:Int),(-100:Int),()),((86:Int),(65:Int),(-100:Int),())]:List D197),())
 (((tK0 lit0)∧(Am.Ends (tK5 y3) (vQ1 y3) (vV6 y3) x3)),s_6)
def tK6 :Prop:=(oM6).1
def f131 :D163:=(oM6).2
instance :Decidable (tK6):=by
 unfold tK6 oM6
 try dsimp only
 infer_instance
def sP9:Am.Spec:=fnSpec [] (.val T163) [] (fun x=>tK6 ) (fun x=>f131 ) (fun _=>())
def sE8:Ctx:=Cx tys [(151,sP4),(152,sP5),(153,sP7)] [(7,uW),(3,uW1)] [(21,[(4,0,43,400400)]),(25,[(4,0,50,400100)]),(29,[(4,0,57,400101)]),(31,[(4,0,400100,400000),(4,0,400101,400001)])] false 60 [] []
theorem sE9:CtxOk Tryz.prog sE8:=xW4 xY7 rfl ⟨oM,oM1,oM5,trivial⟩ rfl (by kernel_rfl)
noncomputable def qH5:Code:=Tryz.f131.body.getD .skip
noncomputable def rB8:Code:=xX3 qH5 0
noncomputable def qH6:Code:=xX3 rB8 0
theorem rZ2:yU9 Tryz.prog sE8 qH6:=xY2 sE9 mixed (sp:=uW) rfl [tX] (bs:=[]) (by kernel_rfl) trivial (by kernel_rfl) (by kernel_rfl) fun y x=>by kernel_rfl
theorem rZ3:yU9 Tryz.prog sE8 rB8:=xY2 sE9 mixed (sp:=uW1) rfl [tX0] (bs:=[qH6]) (by kernel_rfl) ⟨rZ2,trivial⟩ (by kernel_rfl) (by kernel_rfl) fun y x=>by kernel_rfl
theorem oM7:SpecOk Tryz.prog 131 sP9:=xY3 sE9 mixed Tryz.func131 (by kernel_rfl) (bs:=[rB8]) (by kernel_rfl) ⟨rZ3,trivial⟩ fun x=>by kernel_rfl
abbrev wO3:Type:=((List (List D125))×D37×(List (List D125))×Int×Unit)
abbrev wH7:Type:=(Int×Int×Unit)
def vV7 (y:wO3)(x:wH7):Prop×Bool×wH7×Bool×Bool:=
 let a21:=y.2.2.1
 let a7:=x.1
 let a23:=x.2.1
 let v24:=(decide (a23<y.2.2.2.1))
 let v29:=(len (nth a21 a23 ([]:List D125)))
 let v30:=(a7+v29)
 let v32:=(decide (v30>4096))
 ((v24=true→(InB a23 (len a21)∧(InR (a7+v29)∧((!v32)=true→InR (a23+1))))),(v24&&(!v32)),(v30,(a23+1),()),(v24&&v32),(!v24))
def wX9 (y:wO3)(x:wH7):Prop:=(vV7 y x).1
def vQ2 (y:wO3)(x:wH7):Bool:=(vV7 y x).2.1
def wT6 (y:wO3)(x:wH7):wH7:=(vV7 y x).2.2.1
def uO1 (y:wO3)(x:wH7):Bool:=(vV7 y x).2.2.2.1
def tX1 (y:wO3)(x:wH7):Bool:=(vV7 y x).2.2.2.2
instance (y:wO3)(x:wH7):Decidable (wX9 y x):=by
 unfold wX9 vV7
 try dsimp only
 infer_instance
def vQ3 (y:wO3)(x:wH7):(List (List D125)):=
 ([]:List (List D125))
def uW2 (y:wO3)(x:wH7):Int:=
 (3:Int)
def tX2:List (Nat×Sh):=[(4,(.own (.sl T125) 0 false)),(5,vI)]
def tX3:List (Nat×Sh):=[(0,(.val (.sl (.sl T125)))),(3,(.box T37 (.val T37)))]
def uW3:St→Option Out:=xP5 [(0,(.val (.sl (.sl T125)))),(3,(.box T37 (.val T37))),(21,(.val (.sl (.sl T125)))),(22,vI)] [(7,vI),(23,vI)] vQ2 wT6 wX9 fun y x=>[ex 1 (some (uO1 y x)) tX2 ((vQ3 y x),(uW2 y x),()),ex 2 (some (tX1 y x)) tX3 (y.1,y.2.1,())]
abbrev wC4:Type:=(D37×Int×(List (List D125))×Int×Int×(List D125)×Int×Unit)
abbrev wB4:Type:=(((List (List D125))×Nat)×Int×Unit)
def vH6 (y:wC4)(x:wB4):Prop×Bool×wB4×Bool×Bool:=
 let a3:=y.1
 let a11:=y.2.1
 let a50:=y.2.2.2.2.2.1
 let a10:=x.1
 let a52:=x.2.1
 let v53:=(decide (a52<y.2.2.2.2.2.2.1))
 let v55:=(nth a50 a52 Z125)
 let v58:=(f143 v55)
 let v61:=(f142 a3 v55)
 let v63:=(f143 v61)
 let v67:=(List.getD a10.1 a10.2 [])
 let c:=((!v58)&&(!v63))
 ((v53=true→(InB a52 (len a50)∧((vN6 v55)∧(((!v58)=true→((uN2 a3 v55)∧((vN6 v61)∧((!v63)=true→(InB a11 (len a10.1)∧((Int.toNat a11=a10.2∧a11<len a10.1)∧(InB a52 (len v67)∧a52<len v67)))))))∧(c=true→InR (a52+1)))))),(v53&&c),(((List.set a10.1 a10.2 (List.set (List.getD a10.1 a10.2 []) (Int.toNat a52) v61)),a10.2),(a52+1),()),(v53&&(v58||((!v58)&&v63))),(!v53))
def wH8 (y:wC4)(x:wB4):Prop:=(vH6 y x).1
def wC0 (y:wC4)(x:wB4):Bool:=(vH6 y x).2.1
def xZ5 (y:wC4)(x:wB4):wB4:=(vH6 y x).2.2.1
def tK7 (y:wC4)(x:wB4):Bool:=(vH6 y x).2.2.2.1
def uB3 (y:wC4)(x:wB4):Bool:=(vH6 y x).2.2.2.2
instance (y:wC4)(x:wB4):Decidable (wH8 y x):=by
 unfold wH8 vH6
 try dsimp only
 infer_instance
def vL0 (y:wC4)(x:wB4):(List (List D125)):=
 ([]:List (List D125))
def uJ (y:wC4)(x:wB4):Int:=
 (bif (f143 (nth y.2.2.2.2.2.1 x.2.1 Z125)) then (2:Int) else (2:Int))
def tK8:List (Nat×Sh):=[(4,(.own (.sl T125) 0 false)),(5,vI)]
def uJ0 (y:wC4)(x:wB4):((List (List D125))×Nat):=
 let a10:=x.1
 (a10.1,a10.2)
def tK9:List (Nat×Sh):=[(3,(.box T37 (.val T37))),(10,(.ownh T125 1010 48 true)),(37,(.val (.sl (.sl T125)))),(38,vI),(39,vI)]
def uJ1:St→Option Out:=xP5 [(3,(.box T37 (.val T37))),(11,vI),(37,(.val (.sl (.sl T125)))),(38,vI),(39,vI),(50,(.val (.sl T125))),(51,vI)] [(10,(.ownh T125 1010 48 true)),(52,vI)] wC0 xZ5 wH8 fun y x=>[ex 1 (some (tK7 y x)) tK8 ((vL0 y x),(uJ y x),()),ex 6 (some (uB3 y x)) tK9 (y.1,(uJ0 y x),y.2.2.1,y.2.2.2.1,y.2.2.2.2.1,())]
abbrev wB5:Type:=(D37×(List (List D125))×Int×Unit)
abbrev wA0:Type:=((List (List D125))×Int×Unit)
def vH7 (y:wB5)(x:wA0):Prop×Bool×wA0×Bool×Bool:=
 let a37:=y.2.1
 let a38:=y.2.2.1
 let a10:=x.1
 let a39:=x.2.1
 let v40:=(decide (a39<a38))
 let v42:=(nth a37 a39 ([]:List D125))
 let v47:=(len v42)
 let y18:=(y.1,a39,a37,a38,a39,v42,(len v42),())
 let x18:=(((List.set a10 (Int.toNat a39) (List.replicate (Int.toNat v47) Z125)),(Int.toNat a39)),(0:Int),())
 let e18:=(zC1 (wC0 y18) (xZ5 y18) x18)
 let q18_6:=(uB3 y18 e18)
 ((v40=true→(InB a39 (len a37)∧((0≤v47∧v47≤v47∧v47≤4294967296)∧(InB a39 (len a10)∧(a39<len a10∧((Am.Ends (wC0 y18) (xZ5 y18) (wH8 y18) x18)∧(q18_6=true→InR (a39+1)))))))),(v40&&q18_6),((uJ0 y18 e18).1,(a39+1),()),(v40&&(tK7 y18 e18)),(!v40))
def wM (y:wB5)(x:wA0):Prop:=(vH7 y x).1
def wP6 (y:wB5)(x:wA0):Bool:=(vH7 y x).2.1
def wC8 (y:wB5)(x:wA0):wA0:=(vH7 y x).2.2.1
def uB4 (y:wB5)(x:wA0):Bool:=(vH7 y x).2.2.2.1
def rB9 (y:wB5)(x:wA0):Bool:=(vH7 y x).2.2.2.2
instance (y:wB5)(x:wA0):Decidable (wM y x):=by
 unfold wM vH7
 try dsimp only
 infer_instance
def vL1 (y:wB5)(x:wA0):(List (List D125)):=
 let a37:=y.2.1
 let a39:=x.2.1
 let v42:=(nth a37 a39 ([]:List D125))
 let y18:=(y.1,a39,a37,y.2.2.1,a39,v42,(len v42),())
 (vL0 y18 (zC1 (wC0 y18) (xZ5 y18) (((List.set x.1 (Int.toNat a39) (List.replicate (Int.toNat (len v42)) Z125)),(Int.toNat a39)),(0:Int),())))
def uJ2 (y:wB5)(x:wA0):Int:=
 let a37:=y.2.1
 let a39:=x.2.1
 let v42:=(nth a37 a39 ([]:List D125))
 let y18:=(y.1,a39,a37,y.2.2.1,a39,v42,(len v42),())
 (uJ y18 (zC1 (wC0 y18) (xZ5 y18) (((List.set x.1 (Int.toNat a39) (List.replicate (Int.toNat (len v42)) Z125)),(Int.toNat a39)),(0:Int),())))
def tL:List (Nat×Sh):=[(4,(.own (.sl T125) 0 false)),(5,vI)]
def vL2 (y:wB5)(x:wA0):(List (List D125)):=
 x.1
def tL0:List (Nat×Sh):=[(10,(.own (.sl T125) 1010 true))]
def uJ3:St→Option Out:=xP5 [(3,(.box T37 (.val T37))),(37,(.val (.sl (.sl T125)))),(38,vI)] [(10,(.own (.sl T125) 1010 true)),(39,vI)] wP6 wC8 wM fun y x=>[ex 1 (some (uB4 y x)) tL ((vL1 y x),(uJ2 y x),()),ex 4 (some (rB9 y x)) tL0 ((vL2 y x),())]
def pH2 (p0:(List (List D125)))(p1:D37):Prop×((List (List D125))×Int×Unit):=
 let v17:=(f77 p1)
 let v19:=(v17 !=0)
 let y6:=(p0,p1,p0,(len p0),())
 let x6:=((0:Int),(0:Int),())
 let e6:=(zC1 (vQ2 y6) (wT6 y6) x6)
 let q6_1:=(uO1 y6 e6)
 let v35:=(len p0)
 let y14:=(p1,p0,(len p0),())
 let x14:=((List.replicate (Int.toNat v35) ([]:List D125)),(0:Int),())
 let e14:=(zC1 (wP6 y14) (wC8 y14) x14)
 let q14_1:=(uB4 y14 e14)
 (((vY6 p1)∧((!v19)=true→((Am.Ends (vQ2 y6) (wT6 y6) (wX9 y6) x6)∧((tX1 y6 e6)=true→((0≤v35∧v35≤v35∧v35≤4294967296)∧(Am.Ends (wP6 y14) (wC8 y14) (wM y14) x14)))))),((bif v19 then [] else (bif q6_1 then (vQ3 y6 e6) else (bif q14_1 then (vL1 y14 e14) else (vL2 y14 e14)))),(bif v19 then v17 else (bif q6_1 then (uW2 y6 e6) else (bif q14_1 then (uJ2 y14 e14) else (0:Int)))),()))
def tL1 (p0:(List (List D125)))(p1:D37):Prop:=(pH2 p0 p1).1
def f132 (p0:(List (List D125)))(p1:D37):((List (List D125))×Int×Unit):=(pH2 p0 p1).2
instance (p0:(List (List D125)))(p1:D37):Decidable (tL1 p0 p1):=by
 unfold tL1 pH2
 try dsimp only
 infer_instance
def sQ:Am.Spec:=fnSpec [(0,(.val (.sl (.sl T125)))),(1,(.val T37))] (.tup (.cons (.val (.sl (.sl T125))) (.cons vI .nl))) [] (fun x=>tL1 x.1 x.2.1) (fun x=>f132 x.1 x.2.1) (fun _=>())
def tA4:Ctx:=Cx tys [(77,uD9),(142,tF3),(143,uE2)] [(6,uW3),(18,uJ1),(14,uJ3)] [(25,[(4,0,36,1010)]),(54,[(1,10,0,0)]),(57,[(1,4,0,0),(4,0,1010,0)])] false 74 [] [36,48]
theorem tA5:CtxOk Tryz.prog tA4:=xW4 xY7 rfl ⟨rJ8,qF,sY7,trivial⟩ rfl (by kernel_rfl)
noncomputable def sQ0:Code:=Tryz.f132.body.getD .skip
noncomputable def qH7:Code:=xX3 sQ0 0
theorem rZ4:yU9 Tryz.prog tA4 qH7:=xY2 tA5 mixed (sp:=uW3) rfl [tX2,tX3] (bs:=[]) (by kernel_rfl) trivial (by kernel_rfl) (by kernel_rfl) fun y x=>by kernel_rfl
noncomputable def sF:Code:=xX3 sQ0 1
noncomputable def rM9:Code:=xX3 sF 0
theorem rC:yU9 Tryz.prog tA4 rM9:=xY2 tA5 mixed (sp:=uJ1) rfl [tK8,tK9] (bs:=[]) (by kernel_rfl) trivial (by kernel_rfl) (by kernel_rfl) fun y x=>by kernel_rfl
theorem rC0:yU9 Tryz.prog tA4 sF:=xY2 tA5 mixed (sp:=uJ3) rfl [tL,tL0] (bs:=[rM9]) (by kernel_rfl) ⟨rC,trivial⟩ (by kernel_rfl) (by kernel_rfl) fun y x=>by kernel_rfl
theorem oM8:SpecOk Tryz.prog 132 sQ:=xY3 tA5 mixed Tryz.func132 (by kernel_rfl) (bs:=[qH7,sF]) (by kernel_rfl) ⟨rZ4,rC0,trivial⟩ fun x=>by kernel_rfl
def pH3 (p0:D49):Prop×Int:=
 let v14:=(f130 f131 p0.2.2.2.2.2.2.2.2.2.2.2.2.2.2.2.2.2.2.2.2.2.2.2.1 p0.2.2.2.2.2.2.2.2.2.2.2.2.2.2.2.2.2.2.2.2.2.2.2.2.1 p0.2.2.2.2.2.2.2.2.2.2.2.2.2.2.2.2.2.2.2.2.2.2.2.2.2.1)
 let v18:=(v14.2.1 !=0)
 let v24:=(f132 v14.1 p0.2.2.2.2.2.2.2.2.2.2.1)
 let v28:=(v24.2.1 !=0)
 let v31:=(f129 v24.1 (0:Int))
 let v33:=(v31 !=0)
 ((tK6∧((tK f131 p0.2.2.2.2.2.2.2.2.2.2.2.2.2.2.2.2.2.2.2.2.2.2.2.1 p0.2.2.2.2.2.2.2.2.2.2.2.2.2.2.2.2.2.2.2.2.2.2.2.2.1 p0.2.2.2.2.2.2.2.2.2.2.2.2.2.2.2.2.2.2.2.2.2.2.2.2.2.1)∧((!v18)=true→((tL1 v14.1 p0.2.2.2.2.2.2.2.2.2.2.1)∧((!v28)=true→((uA9 v24.1 (0:Int))∧((!v33)=true→(uA5 p0.2.2.2.2.2.2.2.2.2.2.2.2.2.1)))))))),(bif v18 then v14.2.1 else (bif v28 then v24.2.1 else (bif v33 then v31 else (f110 p0.2.2.2.2.2.2.2.2.2.2.2.2.2.1)))))
def uO2 (p0:D49):Prop:=(pH3 p0).1
def f113 (p0:D49):Int:=(pH3 p0).2
instance (p0:D49):Decidable (uO2 p0):=by
 unfold uO2 pH3
 try dsimp only
 infer_instance
def sQ1:Am.Spec:=fnSpec [(0,(.val T49))] vI [] (fun x=>uO2 x.1) (fun x=>f113 x.1) (fun _=>())
def pH4:Ctx:=Cx tys [(110,uE1),(129,uF2),(130,sP3),(131,sP9),(132,sQ)] [] [(3,[(4,0,14,1003)])] false 38 [] []
theorem pH5:CtxOk Tryz.prog pH4:=xW4 xY7 rfl ⟨sY6,sZ5,oL6,oM7,oM8,trivial⟩ rfl (by kernel_rfl)
theorem oM9:SpecOk Tryz.prog 113 sQ1:=xY3 pH5 mixed Tryz.func113 (by kernel_rfl) (bs:=[]) (by kernel_rfl) trivial fun x=>by kernel_rfl
def rZ5 (p0:Int)(p1:Int):Prop×Bool:=
 let v7:=(p0==2)
 let v11:=(p0==3)
 let v24:=(p0==4)
 let m23:=(bif v24 then v24 else (p0==11))
 let v29:=(p0==5)
 let m28:=(bif v29 then v29 else (p0==9))
 let v34:=(p0==6)
 let m33:=(bif v34 then v34 else (p0==7))
 let m4_3:=(bif v11 then (bif (bif (decide (p1≥4)) then (decide (p1≤16)) else false) then ((Int.tmod p1 (2:Int))==0) else false) else (bif m23 then (p1==2) else (bif m28 then (p1==3) else (bif m33 then (p1==1) else (p1==9)))))
 (True,(bif (bif v7 then true else (bif v11 then true else (bif m23 then true else (bif m28 then true else (bif m33 then true else (p0==8)))))) then (bif v7 then (p1==5) else m4_3) else (p1==0)))
def tL2 (p0:Int)(p1:Int):Prop:=(rZ5 p0 p1).1
def f133 (p0:Int)(p1:Int):Bool:=(rZ5 p0 p1).2
instance (p0:Int)(p1:Int):Decidable (tL2 p0 p1):=by
 unfold tL2 rZ5
 try dsimp only
 infer_instance
def sQ2:Am.Spec:=fnSpec [(0,vI),(1,vI)] vB [] (fun x=>tL2 x.1 x.2.1) (fun x=>f133 x.1 x.2.1) (fun _=>())
def pH6:Ctx:=Cx tys [] [] [] false 44 [] []
theorem pH7:CtxOk Tryz.prog pH6:=xW4 xY7 rfl trivial rfl (by kernel_rfl)
theorem oN:SpecOk Tryz.prog 133 sQ2:=xY3 pH7 mixed Tryz.func133 (by kernel_rfl) (bs:=[]) (by kernel_rfl) trivial fun x=>by kernel_rfl
def oN0 (p0:Int)(p1:Int):Prop×(Int×Int×Unit):=
 let v12:=(bif (p0==2) then (p1==2) else false)
 let v15:=(p0==4)
 let v21:=(bif (p0==5) then (decide (p1>0)) else false)
 let m13_1:=(bif v15 then v15 else (bif v21 then v21 else (bif (p0==11) then (p1==1) else false)))
 let v30:=(p0==5)
 let v33:=(p0==7)
 let v36:=(p0==8)
 let c_8:=(bif v12 then true else (bif m13_1 then true else (bif v30 then true else (bif v33 then true else (bif v36 then true else (p0==11))))))
 let m4_5:=(bif c_8 then (bif v12 then (1:Int) else (bif m13_1 then (-65535:Int) else (bif v30 then (-32768:Int) else (bif v33 then (2:Int) else (bif v36 then (-262140:Int) else (-128:Int)))))) else (0:Int))
 let m5_5:=(bif c_8 then (bif v12 then (256:Int) else (bif m13_1 then (65535:Int) else (bif v30 then (32768:Int) else (bif v33 then (256:Int) else (bif v36 then (262140:Int) else (128:Int)))))) else (65535:Int))
 (True,(m4_5,m5_5,()))
def tL3 (p0:Int)(p1:Int):Prop:=(oN0 p0 p1).1
def f154 (p0:Int)(p1:Int):(Int×Int×Unit):=(oN0 p0 p1).2
instance (p0:Int)(p1:Int):Decidable (tL3 p0 p1):=by
 unfold tL3 oN0
 try dsimp only
 infer_instance
def sQ3:Am.Spec:=fnSpec [(0,vI),(1,vI)] (.tup (.cons vI (.cons vI .nl))) [] (fun x=>tL3 x.1 x.2.1) (fun x=>f154 x.1 x.2.1) (fun _=>())
def pH8:Ctx:=Cx tys [] [] [] false 40 [] []
theorem pH9:CtxOk Tryz.prog pH8:=xW4 xY7 rfl trivial rfl (by kernel_rfl)
theorem oN1:SpecOk Tryz.prog 154 sQ3:=xY3 pH9 mixed Tryz.func154 (by kernel_rfl) (bs:=[]) (by kernel_rfl) trivial fun x=>by kernel_rfl
abbrev wT7:Type:=(Int×(List Int)×(List D122)×(List Int)×Int×Unit)
abbrev wL1:Type:=(Int×Unit)
def vV8 (y:wT7)(x:wL1):Prop×Bool×wL1×Bool×Bool:=
 let a0:=y.1
 let a13:=y.2.2.2.1
 let a15:=x.1
 let v16:=(decide (a15<y.2.2.2.2.1))
 let v18:=(nth a13 a15 (0:Int))
 let v23:=(f154 a0 a15)
 let v33:=(bif (decide (v18<v23.1)) then true else (decide (v18>v23.2.1)))
 ((v16=true→(InB a15 (len a13)∧((tL3 a0 a15)∧((!v33)=true→InR (a15+1))))),(v16&&(!v33)),((a15+1),()),(v16&&v33),(!v16))
def vV9 (y:wT7)(x:wL1):Prop:=(vV8 y x).1
def tL4 (y:wT7)(x:wL1):Bool:=(vV8 y x).2.1
def vQ4 (y:wT7)(x:wL1):wL1:=(vV8 y x).2.2.1
def tX4 (y:wT7)(x:wL1):Bool:=(vV8 y x).2.2.2.1
def tX5 (y:wT7)(x:wL1):Bool:=(vV8 y x).2.2.2.2
instance (y:wT7)(x:wL1):Decidable (vV9 y x):=by
 unfold vV9 vV8
 try dsimp only
 infer_instance
def uW4 (y:wT7)(x:wL1):Bool:=
 false
def tX6:List (Nat×Sh):=[(0,vI),(1,(.val (.sl (.int .i64)))),(2,(.val (.sl T122)))]
def uW5:St→Option Out:=xP5 [(0,vI),(1,(.val (.sl (.int .i64)))),(2,(.val (.sl T122))),(13,(.val (.sl (.int .i64)))),(14,vI)] [(15,vI)] tL4 vQ4 vV9 fun y x=>[ex 1 (some (tX4 y x)) [(6,vB)] ((uW4 y x),()),ex 2 (some (tX5 y x)) tX6 (y.1,y.2.1,y.2.2.1,())]
abbrev wN7:Type:=((List D122)×Int×Unit)
abbrev wG2:Type:=(Int×Unit)
def vH8 (y:wN7)(x:wG2):Prop×Bool×wG2×Bool×Bool:=
 let a55:=y.1
 let a57:=x.1
 let v58:=(decide (a57<y.2.1))
 let v59:=(nth a55 a57 Z122)
 let v68:=(bif (decide (v59.1<0)) then true else (decide (v59.1>65535)))
 let v74:=(bif v68 then true else (!(f85 v59.2.1)))
 ((v58=true→(InB a57 (len a55)∧(((!v68)=true→(uR6 v59.2.1))∧((!v74)=true→InR (a57+1))))),(v58&&(!v74)),((a57+1),()),(v58&&v74),(!v58))
def vL3 (y:wN7)(x:wG2):Prop:=(vH8 y x).1
def uO3 (y:wN7)(x:wG2):Bool:=(vH8 y x).2.1
def vL4 (y:wN7)(x:wG2):wG2:=(vH8 y x).2.2.1
def tL5 (y:wN7)(x:wG2):Bool:=(vH8 y x).2.2.2.1
def rC1 (y:wN7)(x:wG2):Bool:=(vH8 y x).2.2.2.2
instance (y:wN7)(x:wG2):Decidable (vL3 y x):=by
 unfold vL3 vH8
 try dsimp only
 infer_instance
def uJ4 (y:wN7)(x:wG2):Bool:=
 false
def uJ5:St→Option Out:=xP5 [(55,(.val (.sl T122))),(56,vI)] [(57,vI)] uO3 vL4 vL3 fun y x=>[ex 1 (some (tL5 y x)) [(6,vB)] ((uJ4 y x),()),ex 4 (some (rC1 y x)) [] ()]
def oN2 (p0:Int)(p1:List Int)(p2:List D122):Prop×Bool:=
 let y2:=(p0,p1,p2,p1,(len p1),())
 let x2:=((0:Int),())
 let e2:=(zC1 (tL4 y2) (vQ4 y2) x2)
 let v36:=(p0==9)
 let v42:=(bif v36 then ((nth p1 (0:Int) (0:Int))==0) else false)
 let v48:=(bif v42 then ((nth p1 (1:Int) (0:Int))==0) else false)
 let v54:=(bif v48 then ((nth p1 (2:Int) (0:Int))==0) else false)
 let y11:=(p2,(len p2),())
 let x11:=((0:Int),())
 let e11:=(zC1 (uO3 y11) (vL4 y11) x11)
 (((Am.Ends (tL4 y2) (vQ4 y2) (vV9 y2) x2)∧((tX5 y2 e2)=true→((v36=true→InB (0:Int) (len p1))∧((v42=true→InB (1:Int) (len p1))∧((v48=true→InB (2:Int) (len p1))∧((!v54)=true→(Am.Ends (uO3 y11) (vL4 y11) (vL3 y11) x11))))))),(bif (tX4 y2 e2) then (uW4 y2 e2) else (bif v54 then false else (bif (tL5 y11 e11) then (uJ4 y11 e11) else true))))
def tL6 (p0:Int)(p1:List Int)(p2:List D122):Prop:=(oN2 p0 p1 p2).1
def f134 (p0:Int)(p1:List Int)(p2:List D122):Bool:=(oN2 p0 p1 p2).2
instance (p0:Int)(p1:List Int)(p2:List D122):Decidable (tL6 p0 p1 p2):=by
 unfold tL6 oN2
 try dsimp only
 infer_instance
def sQ4:Am.Spec:=fnSpec [(0,vI),(1,(.val (.sl (.int .i64)))),(2,(.val (.sl T122)))] vB [] (fun x=>tL6 x.1 x.2.1 x.2.2.1) (fun x=>f134 x.1 x.2.1 x.2.2.1) (fun _=>())
def sF0:Ctx:=Cx tys [(85,uE),(154,sQ3)] [(2,uW5),(11,uJ5)] [] false 76 [] []
theorem sF1:CtxOk Tryz.prog sF0:=xW4 xY7 rfl ⟨rK1,oN1,trivial⟩ rfl (by kernel_rfl)
noncomputable def sQ5:Code:=Tryz.f134.body.getD .skip
noncomputable def qH8:Code:=xX3 sQ5 0
theorem rZ6:yU9 Tryz.prog sF0 qH8:=xY2 sF1 mixed (sp:=uW5) rfl [[(6,vB)],tX6] (bs:=[]) (by kernel_rfl) trivial (by kernel_rfl) (by kernel_rfl) fun y x=>by kernel_rfl
noncomputable def rN:Code:=xX3 sQ5 1
theorem rC2:yU9 Tryz.prog sF0 rN:=xY2 sF1 mixed (sp:=uJ5) rfl [[(6,vB)],[]] (bs:=[]) (by kernel_rfl) trivial (by kernel_rfl) (by kernel_rfl) fun y x=>by kernel_rfl
theorem oN3:SpecOk Tryz.prog 134 sQ4:=xY3 sF1 mixed Tryz.func134 (by kernel_rfl) (bs:=[qH8,rN]) (by kernel_rfl) ⟨rZ6,rC2,trivial⟩ fun x=>by kernel_rfl
end Go.Proofs.YtpanghcojpnkaaaGreatDoor.Am
