/- Printed by program, part 2. No condition. -/
import Derived.Test.YtpanghcojpnkaaaGreatDoorDocL
set_option linter.unusedVariables false
set_option synthInstance.maxSize 4000
set_option synthInstance.maxHeartbeats 400000
namespace Go.Proofs.YtpanghcojpnkaaaGreatDoor.Am
open Go Go.Am Go.Proofs
def sJ7 (p0:D49) (p1:Int):Prop × Bool :=
 (True,(p0.1 == p1))
def vX0 (p0:D49) (p1:Int):Prop:=(sJ7 p0 p1).1
def qW7 (p0:D49) (p1:Int):Bool:=(sJ7 p0 p1).2
instance (p0:D49) (p1:Int):Decidable (vX0 p0 p1):=by
 unfold vX0 sJ7
 try dsimp only
 infer_instance
def uT4:Am.Spec:=fnSpec [(0,(.val T49)),(1,(.val (.ptr (.int .i64))))] vB [] (fun x=>vX0 x.1 x.2.1) (fun x=>qW7 x.1 x.2.1) (fun _=>())
def rF0:Ctx:=Cx tys [] [] [] false 8 [] []
theorem rF1:CtxOk Tryz.prog rF0:=xW3 tys_ok rfl trivial rfl (by kernel_rfl)
theorem rL8:SpecOk Tryz.prog 22 uT4:=xY2 rF1 mixed Tryz.func22 (by kernel_rfl) (bs:=[]) (by kernel_rfl) trivial fun x=>by kernel_rfl
abbrev wG0:Type:=((List D49) × (Int × Unit) × Int × Unit)
abbrev wC9:Type:=(Int × Unit)
def wU4 (y:wG0) (x:wC9):Prop × Bool × wC9 × Bool × Bool :=
 let a0:=y.1
 let a1:=y.2.1
 let a8:=x.1
 let v9:=(decide (a8 < y.2.2.1))
 let v14:=(nth a0 a8 Z49)
 let v16:=(qW7 v14 a1.1)
 ((v9 = true → (InB a8 (len a0) ∧ ((vX0 v14 a1.1) ∧ ((!v16) = true → InR (a8 + 1))))),(v9 && (!v16)),((a8 + 1),()),(v9 && v16),(!v9))
def wL4 (y:wG0) (x:wC9):Prop:=(wU4 y x).1
def wA3 (y:wG0) (x:wC9):Bool:=(wU4 y x).2.1
def xZ (y:wG0) (x:wC9):wC9:=(wU4 y x).2.2.1
def wL5 (y:wG0) (x:wC9):Bool:=(wU4 y x).2.2.2.1
def tY8 (y:wG0) (x:wC9):Bool:=(wU4 y x).2.2.2.2
instance (y:wG0) (x:wC9):Decidable (wL4 y x):=by
 unfold wL4 wU4
 try dsimp only
 infer_instance
def wJ1 (y:wG0) (x:wC9):Int :=
 x.1
def vT0:St → Option Out:=xP3 [(0,(.val (.sl T49))),(1,(.fn 22 (.cons (.val (.ptr (.int .i64))) .nl))),(7,vI)] [(8,vI)] wA3 xZ wL4 fun y x=>[ex 1 (some (wL5 y x)) [(4,vI)] ((wJ1 y x),()),ex 2 (some (tY8 y x)) [] ()]
def sJ8 (p0:(List D49)) (p1:(Int × Unit)):Prop × Int :=
 let y2:=(p0,(p1.1,()),(len p0),())
 let x2:=((0:Int),())
 let e2:=(zC1 (wA3 y2) (xZ y2) x2)
 ((Am.Ends (wA3 y2) (xZ y2) (wL4 y2) x2),(bif (wL5 y2 e2) then (wJ1 y2 e2) else (-1:Int)))
def vX1 (p0:(List D49)) (p1:(Int × Unit)):Prop:=(sJ8 p0 p1).1
def qW8 (p0:(List D49)) (p1:(Int × Unit)):Int:=(sJ8 p0 p1).2
instance (p0:(List D49)) (p1:(Int × Unit)):Decidable (vX1 p0 p1):=by
 unfold vX1 sJ8
 try dsimp only
 infer_instance
def uT5:Am.Spec:=fnSpec [(0,(.val (.sl T49))),(1,(.fn 22 (.cons (.val (.ptr (.int .i64))) .nl)))] vI [] (fun x=>vX1 x.1 x.2.1) (fun x=>qW8 x.1 x.2.1) (fun _=>())
def tJ7:Ctx:=Cx tys [(22,uT4)] [(2,vT0)] [] false 19 [] []
theorem tJ8:CtxOk Tryz.prog tJ7:=xW3 tys_ok rfl ⟨rL8,trivial⟩ rfl (by kernel_rfl)
noncomputable def sJ9:Code:=Tryz.f21.body.getD .skip
noncomputable def tY9:Code:=xX2 sJ9 0
theorem tZ:yU9 Tryz.prog tJ7 tY9:=xY1 tJ8 mixed (sp:=vT0) rfl [[(4,vI)],[]] (bs:=[]) (by kernel_rfl) trivial (by kernel_rfl) (by kernel_rfl) fun y x=>by kernel_rfl
theorem rL9:SpecOk Tryz.prog 21 uT5:=xY2 tJ8 mixed Tryz.func21 (by kernel_rfl) (bs:=[tY9]) (by kernel_rfl) ⟨tZ,trivial⟩ fun x=>by kernel_rfl
def f8t (p0:D28) (p1:Int):Prop × Int :=
 let s:=(p1,())
 ((vX1 p0.2.2.2.1 s),(qW8 p0.2.2.2.1 s))
def vX2 (p0:D28) (p1:Int):Prop:=(f8t p0 p1).1
def f8 (p0:D28) (p1:Int):Int:=(f8t p0 p1).2
instance (p0:D28) (p1:Int):Decidable (vX2 p0 p1):=by
 unfold vX2 f8t
 try dsimp only
 infer_instance
def vF2:Am.Spec:=fnSpec [(0,(.val T28)),(1,vI)] vI [] (fun x=>vX2 x.1 x.2.1) (fun x=>f8 x.1 x.2.1) (fun _=>())
def oB3:Ctx:=Cx tys [(21,uT5)] [] [(2,[(3,3,0,0)])] false 9 [] []
theorem oB4:CtxOk Tryz.prog oB3:=xW3 tys_ok rfl ⟨rL9,trivial⟩ rfl (by kernel_rfl)
theorem tZ0:SpecOk Tryz.prog 8 vF2:=xY2 oB4 mixed Tryz.func8 (by kernel_rfl) (bs:=[]) (by kernel_rfl) trivial fun x=>by kernel_rfl
def f51t :Prop × Int :=
 (True,(4:Int))
def tZ1 :Prop:=(f51t).1
def f51 :Int:=(f51t).2
instance :Decidable (tZ1):=by
 unfold tZ1 f51t
 try dsimp only
 infer_instance
def sT6:Am.Spec:=fnSpec [] vI [] (fun x=>tZ1 ) (fun x=>f51 ) (fun _=>())
def pE2:Ctx:=Cx tys [] [] [] false 1 [] []
theorem pE3:CtxOk Tryz.prog pE2:=xW3 tys_ok rfl trivial rfl (by kernel_rfl)
theorem oB5:SpecOk Tryz.prog 51 sT6:=xY2 pE3 mixed Tryz.func51 (by kernel_rfl) (bs:=[]) (by kernel_rfl) trivial fun x=>by kernel_rfl
def f23t (p0:D28):Prop × Int :=
 let v20:=(bif (bif (bif (decide (p0.1 < 1)) then true else (decide (p0.1 > 256))) then true else (decide (p0.2.1 < 1))) then true else (decide (p0.2.1 > 256)))
 let v23:=(decide (p0.2.2.1 < 0))
 (((!v20) = true → ((!v23) = true → tZ1)),(bif v20 then (15:Int) else (bif (bif v23 then true else (decide (p0.2.2.1 ≥ f51))) then (2:Int) else (0:Int))))
def uT6 (p0:D28):Prop:=(f23t p0).1
def f23 (p0:D28):Int:=(f23t p0).2
instance (p0:D28):Decidable (uT6 p0):=by
 unfold uT6 f23t
 try dsimp only
 infer_instance
def tQ6:Am.Spec:=fnSpec [(0,(.val T28))] vI [] (fun x=>uT6 x.1) (fun x=>f23 x.1) (fun _=>())
def pE4:Ctx:=Cx tys [(51,sT6)] [] [] false 30 [] []
theorem pE5:CtxOk Tryz.prog pE4:=xW3 tys_ok rfl ⟨oB5,trivial⟩ rfl (by kernel_rfl)
theorem qW9:SpecOk Tryz.prog 23 tQ6:=xY2 pE5 mixed Tryz.func23 (by kernel_rfl) (bs:=[]) (by kernel_rfl) trivial fun x=>by kernel_rfl
def f61t (p0:Int):Prop × Bool :=
 (True,(bif (decide (p0 ≥ 0)) then (decide (p0 ≤ 65535)) else false))
def tZ2 (p0:Int):Prop:=(f61t p0).1
def f61 (p0:Int):Bool:=(f61t p0).2
instance (p0:Int):Decidable (tZ2 p0):=by
 unfold tZ2 f61t
 try dsimp only
 infer_instance
def sT7:Am.Spec:=fnSpec [(0,vI)] vB [] (fun x=>tZ2 x.1) (fun x=>f61 x.1) (fun _=>())
def pE6:Ctx:=Cx tys [] [] [] false 9 [] []
theorem pE7:CtxOk Tryz.prog pE6:=xW3 tys_ok rfl trivial rfl (by kernel_rfl)
theorem oB6:SpecOk Tryz.prog 61 sT7:=xY2 pE7 mixed Tryz.func61 (by kernel_rfl) (bs:=[]) (by kernel_rfl) trivial fun x=>by kernel_rfl
abbrev wX7:Type:=((List Int) × Int × Unit)
abbrev wO5:Type:=(Int × Unit)
def uF1 (y:wX7) (x:wO5):Prop × Bool × wO5 × Bool × Bool :=
 let a42:=y.1
 let a44:=x.1
 let v45:=(decide (a44 < y.2.1))
 let v46:=(nth a42 a44 (0:Int))
 let v50:=(!(f61 v46))
 ((v45 = true → (InB a44 (len a42) ∧ ((tZ2 v46) ∧ ((!v50) = true → InR (a44 + 1))))),(v45 && (!v50)),((a44 + 1),()),(v45 && v50),(!v45))
def vX3 (y:wX7) (x:wO5):Prop:=(uF1 y x).1
def tQ7 (y:wX7) (x:wO5):Bool:=(uF1 y x).2.1
def vU1 (y:wX7) (x:wO5):wO5:=(uF1 y x).2.2.1
def tZ3 (y:wX7) (x:wO5):Bool:=(uF1 y x).2.2.2.1
def rM (y:wX7) (x:wO5):Bool:=(uF1 y x).2.2.2.2
instance (y:wX7) (x:wO5):Decidable (vX3 y x):=by
 unfold vX3 uF1
 try dsimp only
 infer_instance
def uT7 (y:wX7) (x:wO5):Int :=
 (2:Int)
def uT8:St → Option Out:=xP3 [(42,(.val (.sl (.int .i64)))),(43,vI)] [(44,vI)] tQ7 vU1 vX3 fun y x=>[ex 1 (some (tZ3 y x)) [(2,vI)] ((uT7 y x),()),ex 2 (some (rM y x)) [] ()]
def f29t (p0:D24):Prop × Int :=
 let v22:=(bif (bif (bif (decide (p0.1 < 0)) then true else (decide (p0.1 > 256))) then true else (decide (p0.2.1 < 0))) then true else (decide (p0.2.1 > 256)))
 let v29:=(!(Ty.eqb .bool (p0.1 == 0) (p0.2.1 == 0)))
 let v40:=(bif v29 then true else ((len p0.2.2.1) != (p0.1 * p0.2.1)))
 let y6:=(p0.2.2.1,(len p0.2.2.1),())
 let x6:=((0:Int),())
 let e6:=(zC1 (tQ7 y6) (vU1 y6) x6)
 (((!v22) = true → (((!v29) = true → InR (p0.1 * p0.2.1)) ∧ ((!v40) = true → (Am.Ends (tQ7 y6) (vU1 y6) (vX3 y6) x6)))),(bif v22 then (15:Int) else (bif v40 then (15:Int) else (bif (tZ3 y6 e6) then (uT7 y6 e6) else (0:Int)))))
def tJ9 (p0:D24):Prop:=(f29t p0).1
def f29 (p0:D24):Int:=(f29t p0).2
instance (p0:D24):Decidable (tJ9 p0):=by
 unfold tJ9 f29t
 try dsimp only
 infer_instance
def tQ8:Am.Spec:=fnSpec [(0,(.val T24))] vI [] (fun x=>tJ9 x.1) (fun x=>f29 x.1) (fun _=>())
def rM0:Ctx:=Cx tys [(61,sT7)] [(6,uT8)] [] false 52 [] []
theorem rM1:CtxOk Tryz.prog rM0:=xW3 tys_ok rfl ⟨oB6,trivial⟩ rfl (by kernel_rfl)
noncomputable def qE2:Code:=Tryz.f29.body.getD .skip
noncomputable def qX:Code:=xX2 qE2 0
theorem rM2:yU9 Tryz.prog rM0 qX:=xY1 rM1 mixed (sp:=uT8) rfl [[(2,vI)],[]] (bs:=[]) (by kernel_rfl) trivial (by kernel_rfl) (by kernel_rfl) fun y x=>by kernel_rfl
theorem qX0:SpecOk Tryz.prog 29 tQ8:=xY2 rM1 mixed Tryz.func29 (by kernel_rfl) (bs:=[qX]) (by kernel_rfl) ⟨rM2,trivial⟩ fun x=>by kernel_rfl
def f54t (p0:D49):Prop × Bool :=
 (True,(bif (bif (p0.2.1 == 7) then true else (p0.2.1 == 8)) then true else (p0.2.1 == 11)))
def uT9 (p0:D49):Prop:=(f54t p0).1
def f54 (p0:D49):Bool:=(f54t p0).2
instance (p0:D49):Decidable (uT9 p0):=by
 unfold uT9 f54t
 try dsimp only
 infer_instance
def uP8:Am.Spec:=fnSpec [(0,(.val T49))] vB [] (fun x=>uT9 x.1) (fun x=>f54 x.1) (fun _=>())
def pE8:Ctx:=Cx tys [] [] [] false 16 [] []
theorem pE9:CtxOk Tryz.prog pE8:=xW3 tys_ok rfl trivial rfl (by kernel_rfl)
theorem rM3:SpecOk Tryz.prog 54 uP8:=xY2 pE9 mixed Tryz.func54 (by kernel_rfl) (bs:=[]) (by kernel_rfl) trivial fun x=>by kernel_rfl
def pF (p0:Int):Prop × (List UInt8) :=
 let v5:=(p0 == 1)
 let v7:=(p0 == 2)
 let v9:=(p0 == 3)
 let v11:=(p0 == 4)
 let v13:=(p0 == 5)
 let v15:=(p0 == 6)
 let v17:=(p0 == 7)
 let v19:=(p0 == 8)
 let v21:=(p0 == 9)
 let v23:=(p0 == 10)
 let m2_2:=(bif v19 then ([102,105,108,116,101,114]:List UInt8) else (bif v21 then ([108,105,110,107]:List UInt8) else (bif v23 then ([99,108,111,110,101]:List UInt8) else ([119,97,114,112]:List UInt8))))
 let m2_6:=(bif v11 then ([103,114,97,100,105,101,110,116]:List UInt8) else (bif v13 then ([112,97,116,104]:List UInt8) else (bif v15 then ([116,101,120,116]:List UInt8) else (bif v17 then ([97,100,106,117,115,116]:List UInt8) else m2_2))))
 let c_14:=(bif v9 then true else (bif v11 then true else (bif v13 then true else (bif v15 then true else (bif v17 then true else (bif v19 then true else (bif v21 then true else (bif v23 then true else (p0 == 11)))))))))
 let m2_10:=(bif (bif v5 then true else (bif v7 then true else c_14)) then (bif v5 then ([103,114,111,117,112]:List UInt8) else (bif v7 then ([105,109,97,103,101]:List UInt8) else (bif v9 then ([102,105,108,108]:List UInt8) else m2_6))) else ([]:List UInt8))
 (True,m2_10)
def uU (p0:Int):Prop:=(pF p0).1
def f102 (p0:Int):(List UInt8):=(pF p0).2
instance (p0:Int):Decidable (uU p0):=by
 unfold uU pF
 try dsimp only
 infer_instance
def tZ4:Am.Spec:=fnSpec [(0,vI)] vS [] (fun x=>uU x.1) (fun x=>f102 x.1) (fun _=>())
def qE3:Ctx:=Cx tys [] [] [] false 26 [] []
theorem qE4:CtxOk Tryz.prog qE3:=xW3 tys_ok rfl trivial rfl (by kernel_rfl)
theorem pF0:SpecOk Tryz.prog 102 tZ4:=xY2 qE4 mixed Tryz.func102 (by kernel_rfl) (bs:=[]) (by kernel_rfl) trivial fun x=>by kernel_rfl
abbrev wP5:Type:=((List UInt8) × Int × Unit)
abbrev wJ2:Type:=(Int × Unit)
def vO0 (y:wP5) (x:wJ2):Prop × Bool × wJ2 × Bool × Bool :=
 let a0:=y.1
 let a14:=x.1
 let v15:=(decide (a14 < y.2.1))
 let v20:=(decide ((xX5 a0 a14) < 33))
 let v26:=(bif v20 then true else (decide ((xX5 a0 a14) > 126)))
 ((v15 = true → (InB a14 (len a0) ∧ (((!v20) = true → InB a14 (len a0)) ∧ ((!v26) = true → InR (a14 + 1))))),(v15 && (!v26)),((a14 + 1),()),(v15 && v26),(!v15))
def vO1 (y:wP5) (x:wJ2):Prop:=(vO0 y x).1
def uU0 (y:wP5) (x:wJ2):Bool:=(vO0 y x).2.1
def vI7 (y:wP5) (x:wJ2):wJ2:=(vO0 y x).2.2.1
def tK (y:wP5) (x:wJ2):Bool:=(vO0 y x).2.2.2.1
def rF2 (y:wP5) (x:wJ2):Bool:=(vO0 y x).2.2.2.2
instance (y:wP5) (x:wJ2):Decidable (vO1 y x):=by
 unfold vO1 vO0
 try dsimp only
 infer_instance
def uI5 (y:wP5) (x:wJ2):Bool :=
 false
def uI6:St → Option Out:=xP3 [(0,vS),(13,vI)] [(14,vI)] uU0 vI7 vO1 fun y x=>[ex 1 (some (tK y x)) [(2,vB)] ((uI5 y x),()),ex 2 (some (rF2 y x)) [] ()]
def pF1 (p0:(List UInt8)):Prop × Bool :=
 let v11:=(bif (decide ((len p0) < 1)) then true else (decide ((len p0) > 32)))
 let y4:=(p0,(len p0),())
 let x4:=((0:Int),())
 let e4:=(zC1 (uU0 y4) (vI7 y4) x4)
 (((!v11) = true → (Am.Ends (uU0 y4) (vI7 y4) (vO1 y4) x4)),(bif v11 then false else (bif (tK y4 e4) then (uI5 y4 e4) else true)))
def uU1 (p0:(List UInt8)):Prop:=(pF1 p0).1
def f103 (p0:(List UInt8)):Bool:=(pF1 p0).2
instance (p0:(List UInt8)):Decidable (uU1 p0):=by
 unfold uU1 pF1
 try dsimp only
 infer_instance
def tZ5:Am.Spec:=fnSpec [(0,vS)] vB [] (fun x=>uU1 x.1) (fun x=>f103 x.1) (fun _=>())
def sT8:Ctx:=Cx tys [] [(4,uI6)] [] false 28 [] []
theorem sT9:CtxOk Tryz.prog sT8:=xW3 tys_ok rfl trivial rfl (by kernel_rfl)
noncomputable def rM4:Code:=Tryz.f103.body.getD .skip
noncomputable def rM5:Code:=xX2 rM4 0
theorem rF3:yU9 Tryz.prog sT8 rM5:=xY1 sT9 mixed (sp:=uI6) rfl [[(2,vB)],[]] (bs:=[]) (by kernel_rfl) trivial (by kernel_rfl) (by kernel_rfl) fun y x=>by kernel_rfl
theorem pF2:SpecOk Tryz.prog 103 tZ5:=xY2 sT9 mixed Tryz.func103 (by kernel_rfl) (bs:=[rM5]) (by kernel_rfl) ⟨rF3,trivial⟩ fun x=>by kernel_rfl
def pF3 (p0:Int):Prop × Bool :=
 (True,(bif (decide (p0 ≥ 0)) then (decide (p0 ≤ 1073741824)) else false))
def uF2 (p0:Int):Prop:=(pF3 p0).1
def f104 (p0:Int):Bool:=(pF3 p0).2
instance (p0:Int):Decidable (uF2 p0):=by
 unfold uF2 pF3
 try dsimp only
 infer_instance
def tZ6:Am.Spec:=fnSpec [(0,vI)] vB [] (fun x=>uF2 x.1) (fun x=>f104 x.1) (fun _=>())
def qE5:Ctx:=Cx tys [] [] [] false 9 [] []
theorem qE6:CtxOk Tryz.prog qE5:=xW3 tys_ok rfl trivial rfl (by kernel_rfl)
theorem pF4:SpecOk Tryz.prog 104 tZ6:=xY2 qE6 mixed Tryz.func104 (by kernel_rfl) (bs:=[]) (by kernel_rfl) trivial fun x=>by kernel_rfl
def pF5 (p0:Int):Prop × Bool :=
 (True,(bif (decide (p0 ≥ 0)) then (decide (p0 ≤ 65535)) else false))
def uU2 (p0:Int):Prop:=(pF5 p0).1
def f105 (p0:Int):Bool:=(pF5 p0).2
instance (p0:Int):Decidable (uU2 p0):=by
 unfold uU2 pF5
 try dsimp only
 infer_instance
def tZ7:Am.Spec:=fnSpec [(0,vI)] vB [] (fun x=>uU2 x.1) (fun x=>f105 x.1) (fun _=>())
def qE7:Ctx:=Cx tys [] [] [] false 9 [] []
theorem qE8:CtxOk Tryz.prog qE7:=xW3 tys_ok rfl trivial rfl (by kernel_rfl)
theorem pF6:SpecOk Tryz.prog 105 tZ7:=xY2 qE8 mixed Tryz.func105 (by kernel_rfl) (bs:=[]) (by kernel_rfl) trivial fun x=>by kernel_rfl
def pF7 (p0:Int):Prop × Bool :=
 (True,(bif (decide (p0 ≥ 0)) then (decide (p0 < 18)) else false))
def uU3 (p0:Int):Prop:=(pF7 p0).1
def f106 (p0:Int):Bool:=(pF7 p0).2
instance (p0:Int):Decidable (uU3 p0):=by
 unfold uU3 pF7
 try dsimp only
 infer_instance
def tZ8:Am.Spec:=fnSpec [(0,vI)] vB [] (fun x=>uU3 x.1) (fun x=>f106 x.1) (fun _=>())
def qE9:Ctx:=Cx tys [] [] [] false 9 [] []
theorem qF:CtxOk Tryz.prog qE9:=xW3 tys_ok rfl trivial rfl (by kernel_rfl)
theorem pF8:SpecOk Tryz.prog 106 tZ8:=xY2 qF mixed Tryz.func106 (by kernel_rfl) (bs:=[]) (by kernel_rfl) trivial fun x=>by kernel_rfl
def f75t (p0:D49) (p1:Int) (p2:Int):Prop × Int :=
 let v21:=(bif (bif (bif (decide (p1 < 1)) then true else (decide (p1 > 256))) then true else (decide (p2 < 1))) then true else (decide (p2 > 256)))
 let v25:=((f102 p0.2.1) == ([]:List UInt8))
 let v29:=(!(f103 p0.2.2.2.1))
 let v33:=(!(f104 p0.1))
 let v39:=(bif v33 then true else (!(f104 p0.2.2.1)))
 let v45:=(bif v39 then true else (!(f105 p0.2.2.2.2.2.2.2.1)))
 let v49:=(!(f106 p0.2.2.2.2.2.2.2.2.1))
 let v58:=(bif v49 then true else (bif (f54 p0) then (p0.2.2.2.2.2.2.2.2.1 != 0) else false))
 let v61:=(f29 p0.2.2.2.2.2.2.2.2.2.1)
 let m6_1:=(bif (v61 != 0) then v61 else (bif (bif (p0.2.2.2.2.2.2.2.2.2.1.1 != 0) then (bif (p0.2.2.2.2.2.2.2.2.2.1.1 != p1) then true else (p0.2.2.2.2.2.2.2.2.2.1.2.1 != p2)) else false) then (15:Int) else (0:Int)))
 (((!v21) = true → ((uU p0.2.1) ∧ ((!v25) = true → ((uU1 p0.2.2.2.1) ∧ ((!v29) = true → ((uF2 p0.1) ∧ (((!v33) = true → (uF2 p0.2.2.1)) ∧ (((!v39) = true → (uU2 p0.2.2.2.2.2.2.2.1)) ∧ ((!v45) = true → ((uU3 p0.2.2.2.2.2.2.2.2.1) ∧ (((!v49) = true → (uT9 p0)) ∧ ((!v58) = true → (tJ9 p0.2.2.2.2.2.2.2.2.2.1))))))))))))),(bif v21 then (15:Int) else (bif v25 then (8:Int) else (bif v29 then (13:Int) else (bif v45 then (2:Int) else (bif v58 then (8:Int) else m6_1))))))
def tZ9 (p0:D49) (p1:Int) (p2:Int):Prop:=(f75t p0 p1 p2).1
def f75 (p0:D49) (p1:Int) (p2:Int):Int:=(f75t p0 p1 p2).2
instance (p0:D49) (p1:Int) (p2:Int):Decidable (tZ9 p0 p1 p2):=by
 unfold tZ9 f75t
 try dsimp only
 infer_instance
def sU:Am.Spec:=fnSpec [(0,(.val T49)),(1,vI),(2,vI)] vI [] (fun x=>tZ9 x.1 x.2.1 x.2.2.1) (fun x=>f75 x.1 x.2.1 x.2.2.1) (fun _=>())
def pF9:Ctx:=Cx tys [(29,tQ8),(54,uP8),(102,tZ4),(103,tZ5),(104,tZ6),(105,tZ7),(106,tZ8)] [] [] false 83 [] []
theorem pG:CtxOk Tryz.prog pF9:=xW3 tys_ok rfl ⟨qX0,rM3,pF0,pF2,pF4,pF6,pF8,trivial⟩ rfl (by kernel_rfl)
theorem oB7:SpecOk Tryz.prog 75 sU:=xY2 pG mixed Tryz.func75 (by kernel_rfl) (bs:=[]) (by kernel_rfl) trivial fun x=>by kernel_rfl
def f76t (p0:Int):Prop × Bool :=
 let v5:=(p0 == 2)
 let v6:=(p0 == 5)
 let v7:=(p0 == 6)
 let v8:=(p0 == 9)
 (True,(bif (bif v5 then v5 else (bif v6 then v6 else (bif v7 then v7 else (bif v8 then v8 else (p0 == 10))))) then true else false))
def tK0 (p0:Int):Prop:=(f76t p0).1
def f76 (p0:Int):Bool:=(f76t p0).2
instance (p0:Int):Decidable (tK0 p0):=by
 unfold tK0 f76t
 try dsimp only
 infer_instance
def tQ9:Am.Spec:=fnSpec [(0,vI)] vB [] (fun x=>tK0 x.1) (fun x=>f76 x.1) (fun _=>())
def pG0:Ctx:=Cx tys [] [] [] false 10 [] []
theorem pG1:CtxOk Tryz.prog pG0:=xW3 tys_ok rfl trivial rfl (by kernel_rfl)
theorem qX1:SpecOk Tryz.prog 76 tQ9:=xY2 pG1 mixed Tryz.func76 (by kernel_rfl) (bs:=[]) (by kernel_rfl) trivial fun x=>by kernel_rfl
def pG2 (p0:Int) (p1:Int) (p2:Int):Prop × Int :=
 (True,(xX p2 (xW9 p0 p1)))
def vU2 (p0:Int) (p1:Int) (p2:Int):Prop:=(pG2 p0 p1 p2).1
def f138 (p0:Int) (p1:Int) (p2:Int):Int:=(pG2 p0 p1 p2).2
instance (p0:Int) (p1:Int) (p2:Int):Decidable (vU2 p0 p1 p2):=by
 unfold vU2 pG2
 try dsimp only
 infer_instance
def vX4:Am.Spec:=fnSpec [(0,vI),(1,vI),(2,vI)] vI [] (fun x=>vU2 x.1 x.2.1 x.2.2.1) (fun x=>f138 x.1 x.2.1 x.2.2.1) (fun _=>())
def qF0:Ctx:=Cx tys [] [] [] true 12 [] []
theorem qF1:CtxOk Tryz.prog qF0:=xW3 tys_ok rfl trivial rfl (by kernel_rfl)
theorem sK:SpecOk Tryz.prog 138 vX4:=xY2 qF1 mixed Tryz.func138 (by kernel_rfl) (bs:=[]) (by kernel_rfl) trivial fun x=>by kernel_rfl
def pG3 (p0:Int):Prop × Int :=
 ((vU2 p0 (-16777216:Int) (16777216:Int)),(f138 p0 (-16777216:Int) (16777216:Int)))
def vI8 (p0:Int):Prop:=(pG3 p0).1
def f120 (p0:Int):Int:=(pG3 p0).2
instance (p0:Int):Decidable (vI8 p0):=by
 unfold vI8 pG3
 try dsimp only
 infer_instance
def sA:Am.Spec:=fnSpec [(0,vI)] vI [] (fun x=>vI8 x.1) (fun x=>f120 x.1) (fun _=>())
def qF2:Ctx:=Cx tys [(138,vX4)] [] [] false 5 [] []
theorem qF3:CtxOk Tryz.prog qF2:=xW3 tys_ok rfl ⟨sK,trivial⟩ rfl (by kernel_rfl)
theorem pG4:SpecOk Tryz.prog 120 sA:=xY2 qF3 mixed Tryz.func120 (by kernel_rfl) (bs:=[]) (by kernel_rfl) trivial fun x=>by kernel_rfl
def pG5 (p0:Int):Prop × Int :=
 ((vU2 p0 (-1099511627776:Int) (1099511627776:Int)),(f138 p0 (-1099511627776:Int) (1099511627776:Int)))
def wZ8 (p0:Int):Prop:=(pG5 p0).1
def f121 (p0:Int):Int:=(pG5 p0).2
instance (p0:Int):Decidable (wZ8 p0):=by
 unfold wZ8 pG5
 try dsimp only
 infer_instance
def uU4:Am.Spec:=fnSpec [(0,vI)] vI [] (fun x=>wZ8 x.1) (fun x=>f121 x.1) (fun _=>())
def qF4:Ctx:=Cx tys [(138,vX4)] [] [] true 5 [] []
theorem qF5:CtxOk Tryz.prog qF4:=xW3 tys_ok rfl ⟨sK,trivial⟩ rfl (by kernel_rfl)
theorem rM6:SpecOk Tryz.prog 121 uU4:=xY2 qF5 mixed Tryz.func121 (by kernel_rfl) (bs:=[]) (by kernel_rfl) trivial fun x=>by kernel_rfl
def pG6 (p0:D37):Prop × D37 :=
 (((vI8 p0.1) ∧ ((vI8 p0.2.1) ∧ ((vI8 p0.2.2.1) ∧ ((vI8 p0.2.2.2.1) ∧ ((wZ8 p0.2.2.2.2.1) ∧ (wZ8 p0.2.2.2.2.2.1)))))),((f120 p0.1),(f120 p0.2.1),(f120 p0.2.2.1),(f120 p0.2.2.2.1),(f121 p0.2.2.2.2.1),(f121 p0.2.2.2.2.2.1),()))
def uF3 (p0:D37):Prop:=(pG6 p0).1
def f107 (p0:D37):D37:=(pG6 p0).2
instance (p0:D37):Decidable (uF3 p0):=by
 unfold uF3 pG6
 try dsimp only
 infer_instance
def uU5:Am.Spec:=fnSpec [(0,(.val T37))] (.val T37) [] (fun x=>uF3 x.1) (fun x=>f107 x.1) (fun _=>())
def qF6:Ctx:=Cx tys [(120,sA),(121,uU4)] [] [] true 22 [] []
theorem qF7:CtxOk Tryz.prog qF6:=xW3 tys_ok rfl ⟨pG4,rM6,trivial⟩ rfl (by kernel_rfl)
theorem rM7:SpecOk Tryz.prog 107 uU5:=xY2 qF7 mixed Tryz.func107 (by kernel_rfl) (bs:=[]) (by kernel_rfl) trivial fun x=>by kernel_rfl
def f77t (p0:D37):Prop × Int :=
 ((uF3 p0),(bif (!(Ty.eqb T37 p0 (f107 p0))) then (2:Int) else (0:Int)))
def vT1 (p0:D37):Prop:=(f77t p0).1
def f77 (p0:D37):Int:=(f77t p0).2
instance (p0:D37):Decidable (vT1 p0):=by
 unfold vT1 f77t
 try dsimp only
 infer_instance
def vX5:Am.Spec:=fnSpec [(0,(.val T37))] vI [] (fun x=>vT1 x.1) (fun x=>f77 x.1) (fun _=>())
def pG7:Ctx:=Cx tys [(107,uU5)] [] [] false 7 [] []
theorem pG8:CtxOk Tryz.prog pG7:=xW3 tys_ok rfl ⟨rM7,trivial⟩ rfl (by kernel_rfl)
theorem sU0:SpecOk Tryz.prog 77 vX5:=xY2 pG8 mixed Tryz.func77 (by kernel_rfl) (bs:=[]) (by kernel_rfl) trivial fun x=>by kernel_rfl
def pG9 (p0:Int) (p1:Int) (p2:Int) (p3:Int):Prop × Int :=
 let v12:=(f122 p1 (65536:Int))
 let v14:=(f122 p3 (65536:Int))
 let v34:=(IntKind.wrap .i64 ((IntKind.wrap .i64 (p0 * (IntKind.wrap .i64 (p1 - (IntKind.wrap .i64 (v12 * 65536)))))) + (IntKind.wrap .i64 (p2 * (IntKind.wrap .i64 (p3 - (IntKind.wrap .i64 (v14 * 65536))))))))
 (((vU0 p1 (65536:Int)) ∧ ((vU0 p3 (65536:Int)) ∧ (wA8 v34 (65536:Int)))),(IntKind.wrap .i64 ((IntKind.wrap .i64 ((IntKind.wrap .i64 (p0 * v12)) + (IntKind.wrap .i64 (p2 * v14)))) + (f108 v34 (65536:Int)))))
def vI9 (p0:Int) (p1:Int) (p2:Int) (p3:Int):Prop:=(pG9 p0 p1 p2 p3).1
def f109 (p0:Int) (p1:Int) (p2:Int) (p3:Int):Int:=(pG9 p0 p1 p2 p3).2
instance (p0:Int) (p1:Int) (p2:Int) (p3:Int):Decidable (vI9 p0 p1 p2 p3):=by
 unfold vI9 pG9
 try dsimp only
 infer_instance
def uU6:Am.Spec:=fnSpec [(0,vI),(1,vI),(2,vI),(3,vI)] vI [] (fun x=>vI9 x.1 x.2.1 x.2.2.1 x.2.2.2.1) (fun x=>f109 x.1 x.2.1 x.2.2.1 x.2.2.2.1) (fun _=>())
def qF8:Ctx:=Cx tys [(108,wE9),(122,uT)] [] [] true 37 [] []
theorem qF9:CtxOk Tryz.prog qF8:=xW3 tys_ok rfl ⟨wW1,rL,trivial⟩ rfl (by kernel_rfl)
theorem rM8:SpecOk Tryz.prog 109 uU6:=xY2 qF9 mixed Tryz.func109 (by kernel_rfl) (bs:=[]) (by kernel_rfl) trivial fun x=>by kernel_rfl
def f78t (p0:D37):Prop × (D37 × Int × Unit) :=
 let v8:=(f77 p0)
 let v10:=(v8 != 0)
 let v23:=(IntKind.wrap .i64 ((IntKind.wrap .i64 (p0.1 * p0.2.2.2.1)) - (IntKind.wrap .i64 (p0.2.1 * p0.2.2.1))))
 let v25:=(v23 == 0)
 let v29:=(IntKind.wrap .i64 (p0.2.2.2.1 * 4294967296))
 let v31:=(f108 v29 v23)
 let v35:=(IntKind.wrap .i64 ((IntKind.wrap .i64 (Int.sub 0 p0.2.1)) * 4294967296))
 let v37:=(f108 v35 v23)
 let v41:=(IntKind.wrap .i64 ((IntKind.wrap .i64 (Int.sub 0 p0.2.2.1)) * 4294967296))
 let v43:=(f108 v41 v23)
 let v46:=(IntKind.wrap .i64 (p0.1 * 4294967296))
 let v48:=(f108 v46 v23)
 let s_2:=(v31,v37,v43,v48,(0:Int),(0:Int),())
 let v52:=((f77 s_2) != 0)
 let v56:=(IntKind.wrap .i64 (Int.sub 0 v31))
 let v61:=(IntKind.wrap .i64 (Int.sub 0 v43))
 let v68:=(IntKind.wrap .i64 (Int.sub 0 v37))
 let v73:=(IntKind.wrap .i64 (Int.sub 0 v48))
 let s_5:=(v31,v37,v43,v48,(f109 v56 p0.2.2.2.2.1 v61 p0.2.2.2.2.2.1),(f109 v68 p0.2.2.2.2.1 v73 p0.2.2.2.2.2.1),())
 let v80:=((f77 s_5) != 0)
 let m2_2:=(bif v25 then ((0:Int),(0:Int),(0:Int),(0:Int),(0:Int),(0:Int),()) else (bif v52 then ((0:Int),(0:Int),(0:Int),(0:Int),(0:Int),(0:Int),()) else (bif v80 then ((0:Int),(0:Int),(0:Int),(0:Int),(0:Int),(0:Int),()) else s_5)))
 (((vT1 p0) ∧ ((!v10) = true → ((!v25) = true → ((wA8 v29 v23) ∧ ((wA8 v35 v23) ∧ ((wA8 v41 v23) ∧ ((wA8 v46 v23) ∧ ((vT1 s_2) ∧ ((!v52) = true → ((vI9 v56 p0.2.2.2.2.1 v61 p0.2.2.2.2.2.1) ∧ ((vI9 v68 p0.2.2.2.2.1 v73 p0.2.2.2.2.2.1) ∧ (vT1 s_5)))))))))))),((bif v10 then ((0:Int),(0:Int),(0:Int),(0:Int),(0:Int),(0:Int),()) else m2_2),(bif v10 then v8 else (bif v25 then (17:Int) else (bif v52 then (17:Int) else (bif v80 then (17:Int) else (0:Int))))),()))
def sA0 (p0:D37):Prop:=(f78t p0).1
def f78 (p0:D37):(D37 × Int × Unit):=(f78t p0).2
instance (p0:D37):Decidable (sA0 p0):=by
 unfold sA0 f78t
 try dsimp only
 infer_instance
def sU1:Am.Spec:=fnSpec [(0,(.val T37))] (.tup (.cons (.val T37) (.cons vI .nl))) [] (fun x=>sA0 x.1) (fun x=>f78 x.1) (fun _=>())
def pH:Ctx:=Cx tys [(77,vX5),(108,wE9),(109,uU6)] [] [] true 83 [] []
theorem pH0:CtxOk Tryz.prog pH:=xW3 tys_ok rfl ⟨sU0,wW1,rM8,trivial⟩ rfl (by kernel_rfl)
theorem oB8:SpecOk Tryz.prog 78 sU1:=xY2 pH0 mixed Tryz.func78 (by kernel_rfl) (bs:=[]) (by kernel_rfl) trivial fun x=>by kernel_rfl
def f79t (p0:Int):Prop × Bool :=
 let v5:=(p0 == 2)
 let v6:=(p0 == 9)
 let v7:=(p0 == 10)
 (True,(bif (bif v5 then v5 else (bif v6 then v6 else (bif v7 then v7 else (p0 == 11)))) then true else false))
def tK1 (p0:Int):Prop:=(f79t p0).1
def f79 (p0:Int):Bool:=(f79t p0).2
instance (p0:Int):Decidable (tK1 p0):=by
 unfold tK1 f79t
 try dsimp only
 infer_instance
def tR:Am.Spec:=fnSpec [(0,vI)] vB [] (fun x=>tK1 x.1) (fun x=>f79 x.1) (fun _=>())
def pH1:Ctx:=Cx tys [] [] [] false 9 [] []
theorem pH2:CtxOk Tryz.prog pH1:=xW3 tys_ok rfl trivial rfl (by kernel_rfl)
theorem qX2:SpecOk Tryz.prog 79 tR:=xY2 pH2 mixed Tryz.func79 (by kernel_rfl) (bs:=[]) (by kernel_rfl) trivial fun x=>by kernel_rfl
def f80t (p0:Int):Prop × Bool :=
 (True,(bif (decide (p0 ≥ 0)) then (decide (p0 ≤ 4)) else false))
def sA1 (p0:Int):Prop:=(f80t p0).1
def f80 (p0:Int):Bool:=(f80t p0).2
instance (p0:Int):Decidable (sA1 p0):=by
 unfold sA1 f80t
 try dsimp only
 infer_instance
def sU2:Am.Spec:=fnSpec [(0,vI)] vB [] (fun x=>sA1 x.1) (fun x=>f80 x.1) (fun _=>())
def pH3:Ctx:=Cx tys [] [] [] false 9 [] []
theorem pH4:CtxOk Tryz.prog pH3:=xW3 tys_ok rfl trivial rfl (by kernel_rfl)
theorem oB9:SpecOk Tryz.prog 80 sU2:=xY2 pH4 mixed Tryz.func80 (by kernel_rfl) (bs:=[]) (by kernel_rfl) trivial fun x=>by kernel_rfl
def f84t (p0:Int) (p1:Int):Prop × Bool :=
 (True,(bif (bif (bif (bif (decide (p0 ≥ 0)) then (decide (p0 ≤ 256)) else false) then (decide (p1 ≥ 0)) else false) then (decide (p1 ≤ 256)) else false) then (Ty.eqb .bool (p0 == 0) (p1 == 0)) else false))
def sA2 (p0:Int) (p1:Int):Prop:=(f84t p0 p1).1
def f84 (p0:Int) (p1:Int):Bool:=(f84t p0 p1).2
instance (p0:Int) (p1:Int):Decidable (sA2 p0 p1):=by
 unfold sA2 f84t
 try dsimp only
 infer_instance
def sU3:Am.Spec:=fnSpec [(0,vI),(1,vI)] vB [] (fun x=>sA2 x.1 x.2.1) (fun x=>f84 x.1 x.2.1) (fun _=>())
def pH5:Ctx:=Cx tys [] [] [] false 26 [] []
theorem pH6:CtxOk Tryz.prog pH5:=xW3 tys_ok rfl trivial rfl (by kernel_rfl)
theorem oC:SpecOk Tryz.prog 84 sU3:=xY2 pH6 mixed Tryz.func84 (by kernel_rfl) (bs:=[]) (by kernel_rfl) trivial fun x=>by kernel_rfl
def pH7 (p0:Int):Prop × Int :=
 ((vU2 p0 (0:Int) (65535:Int)),(f138 p0 (0:Int) (65535:Int)))
def vJ (p0:Int):Prop:=(pH7 p0).1
def f137 (p0:Int):Int:=(pH7 p0).2
instance (p0:Int):Decidable (vJ p0):=by
 unfold vJ pH7
 try dsimp only
 infer_instance
def sA3:Am.Spec:=fnSpec [(0,vI)] vI [] (fun x=>vJ x.1) (fun x=>f137 x.1) (fun _=>())
def qG:Ctx:=Cx tys [(138,vX4)] [] [] false 5 [] []
theorem qG0:CtxOk Tryz.prog qG:=xW3 tys_ok rfl ⟨sK,trivial⟩ rfl (by kernel_rfl)
theorem pH8:SpecOk Tryz.prog 137 sA3:=xY2 qG0 mixed Tryz.func137 (by kernel_rfl) (bs:=[]) (by kernel_rfl) trivial fun x=>by kernel_rfl
def pH9 (p0:D42):Prop × D42 :=
 (((vJ p0.1) ∧ ((vJ p0.2.1) ∧ ((vJ p0.2.2.1) ∧ (vJ p0.2.2.2.1)))),((f137 p0.1),(f137 p0.2.1),(f137 p0.2.2.1),(f137 p0.2.2.2.1),()))
def uU7 (p0:D42):Prop:=(pH9 p0).1
def f117 (p0:D42):D42:=(pH9 p0).2
instance (p0:D42):Decidable (uU7 p0):=by
 unfold uU7 pH9
 try dsimp only
 infer_instance
def sA4:Am.Spec:=fnSpec [(0,(.val T42))] (.val T42) [] (fun x=>uU7 x.1) (fun x=>f117 x.1) (fun _=>())
def qG1:Ctx:=Cx tys [(137,sA3)] [] [] false 16 [] []
theorem qG2:CtxOk Tryz.prog qG1:=xW3 tys_ok rfl ⟨pH8,trivial⟩ rfl (by kernel_rfl)
theorem pI:SpecOk Tryz.prog 117 sA4:=xY2 qG2 mixed Tryz.func117 (by kernel_rfl) (bs:=[]) (by kernel_rfl) trivial fun x=>by kernel_rfl
def f85t (p0:D42):Prop × Bool :=
 ((uU7 p0),(Ty.eqb T42 p0 (f117 p0)))
def uI7 (p0:D42):Prop:=(f85t p0).1
def f85 (p0:D42):Bool:=(f85t p0).2
instance (p0:D42):Decidable (uI7 p0):=by
 unfold uI7 f85t
 try dsimp only
 infer_instance
def vX6:Am.Spec:=fnSpec [(0,(.val T42))] vB [] (fun x=>uI7 x.1) (fun x=>f85 x.1) (fun _=>())
def pI0:Ctx:=Cx tys [(117,sA4)] [] [] false 7 [] []
theorem pI1:CtxOk Tryz.prog pI0:=xW3 tys_ok rfl ⟨pI,trivial⟩ rfl (by kernel_rfl)
theorem sU4:SpecOk Tryz.prog 85 vX6:=xY2 pI1 mixed Tryz.func85 (by kernel_rfl) (bs:=[]) (by kernel_rfl) trivial fun x=>by kernel_rfl
abbrev wX8:Type:=((List D42) × Int × Unit)
abbrev wO6:Type:=(Int × Unit)
def uF4 (y:wX8) (x:wO6):Prop × Bool × wO6 × Bool × Bool :=
 let a23:=y.1
 let a25:=x.1
 let v26:=(decide (a25 < y.2.1))
 let v27:=(nth a23 a25 Z42)
 let v31:=(!(f85 v27))
 ((v26 = true → (InB a25 (len a23) ∧ ((uI7 v27) ∧ ((!v31) = true → InR (a25 + 1))))),(v26 && (!v31)),((a25 + 1),()),(v26 && v31),(!v26))
def vX7 (y:wX8) (x:wO6):Prop:=(uF4 y x).1
def tR0 (y:wX8) (x:wO6):Bool:=(uF4 y x).2.1
def vU3 (y:wX8) (x:wO6):wO6:=(uF4 y x).2.2.1
def sA5 (y:wX8) (x:wO6):Bool:=(uF4 y x).2.2.2.1
def rM9 (y:wX8) (x:wO6):Bool:=(uF4 y x).2.2.2.2
instance (y:wX8) (x:wO6):Decidable (vX7 y x):=by
 unfold vX7 uF4
 try dsimp only
 infer_instance
def uU8 (y:wX8) (x:wO6):Int :=
 (2:Int)
def uU9:St → Option Out:=xP3 [(23,(.val (.sl T42))),(24,vI)] [(25,vI)] tR0 vU3 vX7 fun y x=>[ex 1 (some (sA5 y x)) [(2,vI)] ((uU8 y x),()),ex 2 (some (rM9 y x)) [] ()]
def f56t (p0:D40):Prop × Int :=
 let v10:=(!(f84 p0.1 p0.2.1))
 let v21:=(bif v10 then true else ((len p0.2.2.1) != (p0.1 * p0.2.1)))
 let y4:=(p0.2.2.1,(len p0.2.2.1),())
 let x4:=((0:Int),())
 let e4:=(zC1 (tR0 y4) (vU3 y4) x4)
 (((sA2 p0.1 p0.2.1) ∧ (((!v10) = true → InR (p0.1 * p0.2.1)) ∧ ((!v21) = true → (Am.Ends (tR0 y4) (vU3 y4) (vX7 y4) x4)))),(bif v21 then (15:Int) else (bif (sA5 y4 e4) then (uU8 y4 e4) else (0:Int))))
def tK2 (p0:D40):Prop:=(f56t p0).1
def f56 (p0:D40):Int:=(f56t p0).2
instance (p0:D40):Decidable (tK2 p0):=by
 unfold tK2 f56t
 try dsimp only
 infer_instance
def tR1:Am.Spec:=fnSpec [(0,(.val T40))] vI [] (fun x=>tK2 x.1) (fun x=>f56 x.1) (fun _=>())
def rN:Ctx:=Cx tys [(84,sU3),(85,vX6)] [(4,uU9)] [] false 33 [] []
theorem rN0:CtxOk Tryz.prog rN:=xW3 tys_ok rfl ⟨oC,sU4,trivial⟩ rfl (by kernel_rfl)
noncomputable def qG3:Code:=Tryz.f56.body.getD .skip
noncomputable def qX3:Code:=xX2 qG3 0
theorem rN1:yU9 Tryz.prog rN qX3:=xY1 rN0 mixed (sp:=uU9) rfl [[(2,vI)],[]] (bs:=[]) (by kernel_rfl) trivial (by kernel_rfl) (by kernel_rfl) fun y x=>by kernel_rfl
theorem qX4:SpecOk Tryz.prog 56 tR1:=xY2 rN0 mixed Tryz.func56 (by kernel_rfl) (bs:=[qX3]) (by kernel_rfl) ⟨rN1,trivial⟩ fun x=>by kernel_rfl
def pI2 (p0:D42):Prop × Int :=
 ((uI7 p0),(bif (!(f85 p0)) then (2:Int) else (0:Int)))
def vU4 (p0:D42):Prop:=(pI2 p0).1
def f110 (p0:D42):Int:=(pI2 p0).2
instance (p0:D42):Decidable (vU4 p0):=by
 unfold vU4 pI2
 try dsimp only
 infer_instance
def vX8:Am.Spec:=fnSpec [(0,(.val T42))] vI [] (fun x=>vU4 x.1) (fun x=>f110 x.1) (fun _=>())
def qG4:Ctx:=Cx tys [(85,vX6)] [] [] false 6 [] []
theorem qG5:CtxOk Tryz.prog qG4:=xW3 tys_ok rfl ⟨sU4,trivial⟩ rfl (by kernel_rfl)
theorem sK0:SpecOk Tryz.prog 110 vX8:=xY2 qG5 mixed Tryz.func110 (by kernel_rfl) (bs:=[]) (by kernel_rfl) trivial fun x=>by kernel_rfl
def qG6 (p0:Int) (p1:Int):Prop × Bool :=
 (True,(bif (p0 == 1) then (p1 == 4) else (p1 == 3)))
def uV (p0:Int) (p1:Int):Prop:=(qG6 p0 p1).1
def f139 (p0:Int) (p1:Int):Bool:=(qG6 p0 p1).2
instance (p0:Int) (p1:Int):Decidable (uV p0 p1):=by
 unfold uV qG6
 try dsimp only
 infer_instance
def sA6:Am.Spec:=fnSpec [(0,vI),(1,vI)] vB [] (fun x=>uV x.1 x.2.1) (fun x=>f139 x.1 x.2.1) (fun _=>())
def qG7:Ctx:=Cx tys [] [] [] false 11 [] []
theorem qG8:CtxOk Tryz.prog qG7:=xW3 tys_ok rfl trivial rfl (by kernel_rfl)
theorem pI3:SpecOk Tryz.prog 139 sA6:=xY2 qG8 mixed Tryz.func139 (by kernel_rfl) (bs:=[]) (by kernel_rfl) trivial fun x=>by kernel_rfl
abbrev wP6:Type:=(Int × (List Int) × (List Int) × Int × Unit)
abbrev wJ3:Type:=(Int × Unit)
def vO2 (y:wP6) (x:wJ3):Prop × Bool × wJ3 × Bool × Bool :=
 let a36:=y.2.2.1
 let a38:=x.1
 let v39:=(decide (a38 < y.2.2.2.1))
 let v40:=(nth a36 a38 (0:Int))
 let v47:=(bif (decide (v40 < (-1048576))) then true else (decide (v40 > 1048576)))
 ((v39 = true → (InB a38 (len a36) ∧ ((!v47) = true → InR (a38 + 1)))),(v39 && (!v47)),((a38 + 1),()),(v39 && v47),(!v39))
def vO3 (y:wP6) (x:wJ3):Prop:=(vO2 y x).1
def uV0 (y:wP6) (x:wJ3):Bool:=(vO2 y x).2.1
def vJ0 (y:wP6) (x:wJ3):wJ3:=(vO2 y x).2.2.1
def tK3 (y:wP6) (x:wJ3):Bool:=(vO2 y x).2.2.2.1
def tK4 (y:wP6) (x:wJ3):Bool:=(vO2 y x).2.2.2.2
instance (y:wP6) (x:wJ3):Decidable (vO3 y x):=by
 unfold vO3 vO2
 try dsimp only
 infer_instance
def uI8 (y:wP6) (x:wJ3):Int :=
 (2:Int)
def tK5:List (Nat × Sh):=[(0,vI),(1,(.val (.sl (.int .i64))))]
def uI9:St → Option Out:=xP3 [(0,vI),(1,(.val (.sl (.int .i64)))),(36,(.val (.sl (.int .i64)))),(37,vI)] [(38,vI)] uV0 vJ0 vO3 fun y x=>[ex 1 (some (tK3 y x)) [(8,vI)] ((uI8 y x),()),ex 2 (some (tK4 y x)) tK5 (y.1,y.2.1,())]
def pI4 (p0:Int) (p1:(List Int)) (p2:Int) (p3:Int):Prop × Int :=
 let v24:=(bif (bif (bif (decide (p0 < 1)) then true else (decide (p0 > 4))) then true else (decide (p2 < 0))) then true else (decide (p2 > 2)))
 let v27:=(len p1)
 let v33:=(bif (!(f139 p0 v27)) then true else (p3 == 0))
 let v35:=(decide (p3 > 16))
 let y8:=(p0,p1,p1,(len p1),())
 let x8:=((0:Int),())
 let e8:=(zC1 (uV0 y8) (vJ0 y8) x8)
 let v54:=(bif (p0 == 2) then true else (p0 == 4))
 let m8_3:=(bif v33 then (1:Int) else (bif v35 then (3:Int) else (bif (tK3 y8 e8) then (uI8 y8 e8) else (bif (bif v54 then (decide ((nth p1 (2:Int) (0:Int)) < 0)) else false) then (2:Int) else (0:Int)))))
 (((!v24) = true → ((uV p0 v27) ∧ ((!v33) = true → ((!v35) = true → ((Am.Ends (uV0 y8) (vJ0 y8) (vO3 y8) x8) ∧ ((tK4 y8 e8) = true → (v54 = true → InB (2:Int) (len p1)))))))),(bif v24 then (8:Int) else m8_3))
def uV1 (p0:Int) (p1:(List Int)) (p2:Int) (p3:Int):Prop:=(pI4 p0 p1 p2 p3).1
def f123 (p0:Int) (p1:(List Int)) (p2:Int) (p3:Int):Int:=(pI4 p0 p1 p2 p3).2
instance (p0:Int) (p1:(List Int)) (p2:Int) (p3:Int):Decidable (uV1 p0 p1 p2 p3):=by
 unfold uV1 pI4
 try dsimp only
 infer_instance
def sA7:Am.Spec:=fnSpec [(0,vI),(1,(.val (.sl (.int .i64)))),(2,vI),(3,vI)] vI [] (fun x=>uV1 x.1 x.2.1 x.2.2.1 x.2.2.2.1) (fun x=>f123 x.1 x.2.1 x.2.2.1 x.2.2.2.1) (fun _=>())
def sU5:Ctx:=Cx tys [(139,sA6)] [(8,uI9)] [] false 61 [] []
theorem sU6:CtxOk Tryz.prog sU5:=xW3 tys_ok rfl ⟨pI3,trivial⟩ rfl (by kernel_rfl)
noncomputable def rN2:Code:=Tryz.f123.body.getD .skip
noncomputable def rN3:Code:=xX2 rN2 0
theorem rF4:yU9 Tryz.prog sU5 rN3:=xY1 sU6 mixed (sp:=uI9) rfl [[(8,vI)],tK5] (bs:=[]) (by kernel_rfl) trivial (by kernel_rfl) (by kernel_rfl) fun y x=>by kernel_rfl
theorem pI5:SpecOk Tryz.prog 123 sA7:=xY2 sU6 mixed Tryz.func123 (by kernel_rfl) (bs:=[rN3]) (by kernel_rfl) ⟨rF4,trivial⟩ fun x=>by kernel_rfl
abbrev wP7:Type:=((List D122) × (List D122) × Int × Unit)
abbrev wJ4:Type:=(Int × Unit)
def vO4 (y:wP7) (x:wJ4):Prop × Bool × wJ4 × Bool × Bool :=
 let a0:=y.1
 let a5:=y.2.1
 let a7:=x.1
 let v8:=(decide (a7 < y.2.2.1))
 let v10:=(nth a5 a7 Z122)
 let v19:=(bif (decide (v10.1 < 0)) then true else (decide (v10.1 > 65535)))
 let v25:=(bif v19 then true else (!(f85 v10.2.1)))
 let v27:=(decide (a7 > 0))
 let v33:=(a7 - 1)
 let v38:=(bif v27 then (decide (v10.1 ≤ (nth a0 v33 Z122).1)) else false)
 let c_2:=((!v25) && (!v38))
 ((v8 = true → (InB a7 (len a5) ∧ (((!v19) = true → (uI7 v10.2.1)) ∧ (((!v25) = true → ((v27 = true → InR (a7 - 1)) ∧ (v27 = true → InB v33 (len a0)))) ∧ (c_2 = true → InR (a7 + 1)))))),(v8 && c_2),((a7 + 1),()),(v8 && (v25 || ((!v25) && v38))),(!v8))
def vO5 (y:wP7) (x:wJ4):Prop:=(vO4 y x).1
def uV2 (y:wP7) (x:wJ4):Bool:=(vO4 y x).2.1
def vJ1 (y:wP7) (x:wJ4):wJ4:=(vO4 y x).2.2.1
def tK6 (y:wP7) (x:wJ4):Bool:=(vO4 y x).2.2.2.1
def rF5 (y:wP7) (x:wJ4):Bool:=(vO4 y x).2.2.2.2
instance (y:wP7) (x:wJ4):Decidable (vO5 y x):=by
 unfold vO5 vO4
 try dsimp only
 infer_instance
def uJ (y:wP7) (x:wJ4):Int :=
 let v10:=(nth y.2.1 x.1 Z122)
 (bif (bif (bif (decide (v10.1 < 0)) then true else (decide (v10.1 > 65535))) then true else (!(f85 v10.2.1))) then (2:Int) else (24:Int))
def uJ0:St → Option Out:=xP3 [(0,(.val (.sl T122))),(5,(.val (.sl T122))),(6,vI)] [(7,vI)] uV2 vJ1 vO5 fun y x=>[ex 1 (some (tK6 y x)) [(2,vI)] ((uJ y x),()),ex 2 (some (rF5 y x)) [] ()]
def pI6 (p0:(List D122)):Prop × Int :=
 let y2:=(p0,p0,(len p0),())
 let x2:=((0:Int),())
 let e2:=(zC1 (uV2 y2) (vJ1 y2) x2)
 ((Am.Ends (uV2 y2) (vJ1 y2) (vO5 y2) x2),(bif (tK6 y2 e2) then (uJ y2 e2) else (0:Int)))
def uV3 (p0:(List D122)):Prop:=(pI6 p0).1
def f124 (p0:(List D122)):Int:=(pI6 p0).2
instance (p0:(List D122)):Decidable (uV3 p0):=by
 unfold uV3 pI6
 try dsimp only
 infer_instance
def sA8:Am.Spec:=fnSpec [(0,(.val (.sl T122)))] vI [] (fun x=>uV3 x.1) (fun x=>f124 x.1) (fun _=>())
def sU7:Ctx:=Cx tys [(85,vX6)] [(2,uJ0)] [] false 40 [] []
theorem sU8:CtxOk Tryz.prog sU7:=xW3 tys_ok rfl ⟨sU4,trivial⟩ rfl (by kernel_rfl)
noncomputable def rN4:Code:=Tryz.f124.body.getD .skip
noncomputable def rN5:Code:=xX2 rN4 0
theorem rF6:yU9 Tryz.prog sU7 rN5:=xY1 sU8 mixed (sp:=uJ0) rfl [[(2,vI)],[]] (bs:=[]) (by kernel_rfl) trivial (by kernel_rfl) (by kernel_rfl) fun y x=>by kernel_rfl
theorem pI7:SpecOk Tryz.prog 124 sA8:=xY2 sU8 mixed Tryz.func124 (by kernel_rfl) (bs:=[rN5]) (by kernel_rfl) ⟨rF6,trivial⟩ fun x=>by kernel_rfl
def pI8 (p0:Int) (p1:(List Int)) (p2:Int) (p3:(List D122)):Prop × Int :=
 let v14:=(len p3)
 let v15:=(f123 p0 p1 p2 v14)
 let v17:=(v15 != 0)
 (((uV1 p0 p1 p2 v14) ∧ ((!v17) = true → (uV3 p3))),(bif v17 then v15 else (f124 p3)))
def uV4 (p0:Int) (p1:(List Int)) (p2:Int) (p3:(List D122)):Prop:=(pI8 p0 p1 p2 p3).1
def f111 (p0:Int) (p1:(List Int)) (p2:Int) (p3:(List D122)):Int:=(pI8 p0 p1 p2 p3).2
instance (p0:Int) (p1:(List Int)) (p2:Int) (p3:(List D122)):Decidable (uV4 p0 p1 p2 p3):=by
 unfold uV4 pI8
 try dsimp only
 infer_instance
def sA9:Am.Spec:=fnSpec [(0,vI),(1,(.val (.sl (.int .i64)))),(2,vI),(3,(.val (.sl T122)))] vI [] (fun x=>uV4 x.1 x.2.1 x.2.2.1 x.2.2.2.1) (fun x=>f111 x.1 x.2.1 x.2.2.1 x.2.2.2.1) (fun _=>())
def qG9:Ctx:=Cx tys [(123,sA7),(124,sA8)] [] [] false 21 [] []
theorem qH:CtxOk Tryz.prog qG9:=xW3 tys_ok rfl ⟨pI5,pI7,trivial⟩ rfl (by kernel_rfl)
theorem pI9:SpecOk Tryz.prog 111 sA9:=xY2 qH mixed Tryz.func111 (by kernel_rfl) (bs:=[]) (by kernel_rfl) trivial fun x=>by kernel_rfl
def qH0 (p0:Int):Prop × Int :=
 let v5:=(p0 == 3)
 let v7:=(p0 == 4)
 (True,(bif (bif v5 then true else (bif v7 then true else (p0 == 5))) then (bif v5 then (2:Int) else (bif v7 then (3:Int) else (0:Int))) else (1:Int)))
def uF5 (p0:Int):Prop:=(qH0 p0).1
def f141 (p0:Int):Int:=(qH0 p0).2
instance (p0:Int):Decidable (uF5 p0):=by
 unfold uF5 qH0
 try dsimp only
 infer_instance
def uV5:Am.Spec:=fnSpec [(0,vI)] vI [] (fun x=>uF5 x.1) (fun x=>f141 x.1) (fun _=>())
def qH1:Ctx:=Cx tys [] [] [] false 10 [] []
theorem qH2:CtxOk Tryz.prog qH1:=xW3 tys_ok rfl trivial rfl (by kernel_rfl)
theorem rN6:SpecOk Tryz.prog 141 uV5:=xY2 qH2 mixed Tryz.func141 (by kernel_rfl) (bs:=[]) (by kernel_rfl) trivial fun x=>by kernel_rfl
def pJ (p0:D125):Prop × Bool :=
 (True,(bif (bif (bif (decide (p0.1 < (-16777216))) then true else (decide (p0.1 > 16777216))) then true else (decide (p0.2.1 < (-16777216)))) then true else (decide (p0.2.1 > 16777216))))
def vJ2 (p0:D125):Prop:=(pJ p0).1
def f143 (p0:D125):Bool:=(pJ p0).2
instance (p0:D125):Decidable (vJ2 p0):=by
 unfold vJ2 pJ
 try dsimp only
 infer_instance
def vX9:Am.Spec:=fnSpec [(0,(.val T125))] vB [] (fun x=>vJ2 x.1) (fun x=>f143 x.1) (fun _=>())
def qH3:Ctx:=Cx tys [] [] [] false 21 [] []
theorem qH4:CtxOk Tryz.prog qH3:=xW3 tys_ok rfl trivial rfl (by kernel_rfl)
theorem sK1:SpecOk Tryz.prog 143 vX9:=xY2 qH4 mixed Tryz.func143 (by kernel_rfl) (bs:=[]) (by kernel_rfl) trivial fun x=>by kernel_rfl
abbrev wM6:Type:=((List D128) × Int × D128 × (List D128) × Int × Int × (List D125) × Unit)
abbrev wJ5:Type:=(Int × Unit)
def wX9 (y:wM6) (x:wJ5):Prop × Bool × wJ5 × Bool × Bool :=
 let a4:=y.2.2.1
 let a27:=x.1
 let v28:=(decide (a27 < 3))
 let v30:=(nth y.2.2.2.2.2.2.1 a27 Z125)
 let v32:=(f143 v30)
 let v44:=(bif v32 then true else (bif (decide (a27 ≥ (f141 a4.1))) then (!(Ty.eqb T125 v30 ((0:Int),(0:Int),()))) else false))
 ((v28 = true → (InB a27 3 ∧ ((vJ2 v30) ∧ (((!v32) = true → (uF5 a4.1)) ∧ ((!v44) = true → InR (a27 + 1)))))),(v28 && (!v44)),((a27 + 1),()),(v28 && v44),(!v28))
def wU5 (y:wM6) (x:wJ5):Prop:=(wX9 y x).1
def wJ6 (y:wM6) (x:wJ5):Bool:=(wX9 y x).2.1
def wE (y:wM6) (x:wJ5):wJ5:=(wX9 y x).2.2.1
def wU6 (y:wM6) (x:wJ5):Bool:=(wX9 y x).2.2.2.1
def uF6 (y:wM6) (x:wJ5):Bool:=(wX9 y x).2.2.2.2
instance (y:wM6) (x:wJ5):Decidable (wU5 y x):=by
 unfold wU5 wX9
 try dsimp only
 infer_instance
def vJ3 (y:wM6) (x:wJ5):Int :=
 (2:Int)
def tK7:List (Nat × Sh):=[(0,(.val (.sl T128))),(3,vI),(4,(.box T128 (.val T128))),(10,(.val (.sl T128))),(11,vI),(12,vI)]
def uJ1:St → Option Out:=xP3 [(0,(.val (.sl T128))),(3,vI),(4,(.box T128 (.val T128))),(10,(.val (.sl T128))),(11,vI),(12,vI),(26,(.val (.arr 3 T125)))] [(27,vI)] wJ6 wE wU5 fun y x=>[ex 1 (some (wU6 y x)) [(2,vI)] ((vJ3 y x),()),ex 4 (some (uF6 y x)) tK7 (y.1,y.2.1,y.2.2.1,y.2.2.2.1,y.2.2.2.2.1,y.2.2.2.2.2.1,())]
abbrev wP8:Type:=((List D128) × (List D128) × Int × Unit)
abbrev wG1:Type:=(Int × Unit)
def wT1 (y:wP8) (x:wG1):Prop × Bool × wG1 × Bool × Bool :=
 let a0:=y.1
 let a10:=y.2.1
 let a11:=y.2.2.1
 let a12:=x.1
 let v13:=(decide (a12 < a11))
 let v15:=(nth a10 a12 Z128)
 let v24:=(bif (decide (v15.1 < 1)) then true else (decide (v15.1 > 5)))
 let y9:=(a0,a12,v15,a10,a11,a12,v15.2.1,())
 let x9:=((0:Int),())
 let e9:=(zC1 (wJ6 y9) (wE y9) x9)
 let q9_4:=(uF6 y9 e9)
 let v48:=(v15.1 != 1)
 let v51:=(a12 == 0)
 let v55:=(a12 - 1)
 let v61:=(bif v48 then (bif v51 then true else ((nth a0 v55 Z128).1 == 5)) else false)
 let c_5:=((!v24) && (q9_4 && (!v61)))
 ((v13 = true → (InB a12 (len a10) ∧ (((!v24) = true → ((Am.Ends (wJ6 y9) (wE y9) (wU5 y9) x9) ∧ (q9_4 = true → (((v48 && (!v51)) = true → InR (a12 - 1)) ∧ ((v48 && (!v51)) = true → InB v55 (len a0)))))) ∧ (c_5 = true → InR (a12 + 1))))),(v13 && c_5),((a12 + 1),()),(v13 && (v24 || ((!v24) && ((wU6 y9 e9) || (q9_4 && v61))))),(!v13))
def vA8 (y:wP8) (x:wG1):Prop:=(wT1 y x).1
def wG2 (y:wP8) (x:wG1):Bool:=(wT1 y x).2.1
def wE0 (y:wP8) (x:wG1):wG1:=(wT1 y x).2.2.1
def vA9 (y:wP8) (x:wG1):Bool:=(wT1 y x).2.2.2.1
def rF7 (y:wP8) (x:wG1):Bool:=(wT1 y x).2.2.2.2
instance (y:wP8) (x:wG1):Decidable (vA8 y x):=by
 unfold vA8 wT1
 try dsimp only
 infer_instance
def vJ4 (y:wP8) (x:wG1):Int :=
 let a10:=y.2.1
 let a12:=x.1
 let v15:=(nth a10 a12 Z128)
 let y9:=(y.1,a12,v15,a10,y.2.2.1,a12,v15.2.1,())
 let e9:=(zC1 (wJ6 y9) (wE y9) ((0:Int),()))
 (bif (bif (decide (v15.1 < 1)) then true else (decide (v15.1 > 5))) then (8:Int) else (bif (wU6 y9 e9) then (vJ3 y9 e9) else (24:Int)))
def uJ2:St → Option Out:=xP3 [(0,(.val (.sl T128))),(10,(.val (.sl T128))),(11,vI)] [(12,vI)] wG2 wE0 vA8 fun y x=>[ex 1 (some (vA9 y x)) [(2,vI)] ((vJ4 y x),()),ex 2 (some (rF7 y x)) [] ()]
def qH5 (p0:(List D128)):Prop × Int :=
 let v9:=(decide ((len p0) > 128))
 let y4:=(p0,p0,(len p0),())
 let x4:=((0:Int),())
 let e4:=(zC1 (wG2 y4) (wE0 y4) x4)
 (((!v9) = true → (Am.Ends (wG2 y4) (wE0 y4) (vA8 y4) x4)),(bif v9 then (3:Int) else (bif (vA9 y4 e4) then (vJ4 y4 e4) else (0:Int))))
def vJ5 (p0:(List D128)):Prop:=(qH5 p0).1
def f140 (p0:(List D128)):Int:=(qH5 p0).2
instance (p0:(List D128)):Decidable (vJ5 p0):=by
 unfold vJ5 qH5
 try dsimp only
 infer_instance
def vJ6:Am.Spec:=fnSpec [(0,(.val (.sl T128)))] vI [] (fun x=>vJ5 x.1) (fun x=>f140 x.1) (fun _=>())
def tR2:Ctx:=Cx tys [(141,uV5),(143,vX9)] [(9,uJ1),(4,uJ2)] [] false 63 [] []
theorem tR3:CtxOk Tryz.prog tR2:=xW3 tys_ok rfl ⟨rN6,sK1,trivial⟩ rfl (by kernel_rfl)
noncomputable def rN7:Code:=Tryz.f140.body.getD .skip
noncomputable def sK2:Code:=xX2 rN7 0
noncomputable def rN8:Code:=xX2 sK2 0
theorem rF8:yU9 Tryz.prog tR2 rN8:=xY1 tR3 mixed (sp:=uJ1) rfl [[(2,vI)],tK7] (bs:=[]) (by kernel_rfl) trivial (by kernel_rfl) (by kernel_rfl) fun y x=>by kernel_rfl
theorem rF9:yU9 Tryz.prog tR2 sK2:=xY1 tR3 mixed (sp:=uJ2) rfl [[(2,vI)],[]] (bs:=[rN8]) (by kernel_rfl) ⟨rF8,trivial⟩ (by kernel_rfl) (by kernel_rfl) fun y x=>by kernel_rfl
theorem tR4:SpecOk Tryz.prog 140 vJ6:=xY2 tR3 mixed Tryz.func140 (by kernel_rfl) (bs:=[sK2]) (by kernel_rfl) ⟨rF9,trivial⟩ fun x=>by kernel_rfl
def pJ0 (p0:D37) (p1:D125):Prop × D125 :=
 let v8:=(f107 p0)
 let v11:=(f121 p1.1)
 let v14:=(f121 p1.2.1)
 let v24:=(IntKind.wrap .i64 ((f109 v8.1 v11 v8.2.2.1 v14) + v8.2.2.2.2.1))
 let v35:=(IntKind.wrap .i64 ((f109 v8.2.1 v11 v8.2.2.2.1 v14) + v8.2.2.2.2.2.1))
 (((uF3 p0) ∧ ((wZ8 p1.1) ∧ ((wZ8 p1.2.1) ∧ ((vI9 v8.1 v11 v8.2.2.1 v14) ∧ ((wZ8 v24) ∧ ((vI9 v8.2.1 v11 v8.2.2.2.1 v14) ∧ (wZ8 v35))))))),((f121 v24),(f121 v35),()))
def uV6 (p0:D37) (p1:D125):Prop:=(pJ0 p0 p1).1
def f155 (p0:D37) (p1:D125):D125:=(pJ0 p0 p1).2
instance (p0:D37) (p1:D125):Decidable (uV6 p0 p1):=by
 unfold uV6 pJ0
 try dsimp only
 infer_instance
def sB:Am.Spec:=fnSpec [(0,(.val T37)),(1,(.val T125))] (.val T125) [] (fun x=>uV6 x.1 x.2.1) (fun x=>f155 x.1 x.2.1) (fun _=>())
def qH6:Ctx:=Cx tys [(107,uU5),(109,uU6),(121,uU4)] [] [] true 38 [] []
theorem qH7:CtxOk Tryz.prog qH6:=xW3 tys_ok rfl ⟨rM7,rM8,rM6,trivial⟩ rfl (by kernel_rfl)
theorem pJ1:SpecOk Tryz.prog 155 sB:=xY2 qH7 mixed Tryz.func155 (by kernel_rfl) (bs:=[]) (by kernel_rfl) trivial fun x=>by kernel_rfl
def pJ2 (p0:D37) (p1:D125):Prop × D125 :=
 let s:=((IntKind.wrap .i64 (4096 * p1.1)),(IntKind.wrap .i64 (4096 * p1.2.1)),())
 let v14:=(f155 p0 s)
 (((uV6 p0 s) ∧ ((wA8 v14.1 (4096:Int)) ∧ (wA8 v14.2.1 (4096:Int)))),((f108 v14.1 (4096:Int)),(f108 v14.2.1 (4096:Int)),()))
def uF7 (p0:D37) (p1:D125):Prop:=(pJ2 p0 p1).1
def f142 (p0:D37) (p1:D125):D125:=(pJ2 p0 p1).2
instance (p0:D37) (p1:D125):Decidable (uF7 p0 p1):=by
 unfold uF7 pJ2
 try dsimp only
 infer_instance
def uV7:Am.Spec:=fnSpec [(0,(.val T37)),(1,(.val T125))] (.val T125) [] (fun x=>uF7 x.1 x.2.1) (fun x=>f142 x.1 x.2.1) (fun _=>())
def qH8:Ctx:=Cx tys [(108,wE9),(155,sB)] [] [] true 22 [] []
theorem qH9:CtxOk Tryz.prog qH8:=xW3 tys_ok rfl ⟨wW1,pJ1,trivial⟩ rfl (by kernel_rfl)
theorem rN9:SpecOk Tryz.prog 142 uV7:=xY2 qH9 mixed Tryz.func142 (by kernel_rfl) (bs:=[]) (by kernel_rfl) trivial fun x=>by kernel_rfl
abbrev wD6:Type:=(D37 × Int × D128 × (List D128) × Int × Int × Int × Unit)
abbrev wC2:Type:=((List D128) × Int × Unit)
def vB0 (y:wD6) (x:wC2):Prop × Bool × wC2 × Bool × Bool :=
 let a3:=y.1
 let a9:=y.2.1
 let a8:=x.1
 let a42:=x.2.1
 let v43:=(decide (a42 < y.2.2.2.2.2.2.1))
 let v49:=(nth y.2.2.1.2.1 a42 Z125)
 let v50:=(f142 a3 v49)
 let v52:=(f143 v50)
 ((v43 = true → (InB a42 3 ∧ ((uF7 a3 v49) ∧ ((vJ2 v50) ∧ (((!v52) = true → (InB a9 (len a8) ∧ (InB a42 3 ∧ a9 < len a8))) ∧ ((!v52) = true → InR (a42 + 1))))))),(v43 && (!v52)),((List.set a8 (Int.toNat a9) ((nth a8 a9 Z128).1,(List.set (nth a8 a9 Z128).2.1 (Int.toNat a42) v50),())),(a42 + 1),()),(v43 && v52),(!v43))
def wN3 (y:wD6) (x:wC2):Prop:=(vB0 y x).1
def wI0 (y:wD6) (x:wC2):Bool:=(vB0 y x).2.1
def wB6 (y:wD6) (x:wC2):wC2:=(vB0 y x).2.2.1
def uV8 (y:wD6) (x:wC2):Bool:=(vB0 y x).2.2.2.1
def uV9 (y:wD6) (x:wC2):Bool:=(vB0 y x).2.2.2.2
instance (y:wD6) (x:wC2):Decidable (wN3 y x):=by
 unfold wN3 vB0
 try dsimp only
 infer_instance
def vF3 (y:wD6) (x:wC2):(List D128) :=
 ([]:List D128)
def vY (y:wD6) (x:wC2):Int :=
 (2:Int)
def uW:List (Nat × Sh):=[(4,(.own T128 0 false)),(5,vI)]
def vY0 (y:wD6) (x:wC2):(List D128) :=
 x.1
def uW0:List (Nat × Sh):=[(3,(.box T37 (.val T37))),(8,(.own T128 1008 true)),(26,(.val (.sl T128))),(27,vI),(28,vI)]
def vY1:St → Option Out:=xP3 [(3,(.box T37 (.val T37))),(9,vI),(10,(.box T128 (.val T128))),(26,(.val (.sl T128))),(27,vI),(28,vI),(41,vI)] [(8,(.own T128 1008 true)),(42,vI)] wI0 wB6 wN3 fun y x=>[ex 1 (some (uV8 y x)) uW ((vF3 y x),(vY y x),()),ex 4 (some (uV9 y x)) uW0 (y.1,(vY0 y x),y.2.2.2.1,y.2.2.2.2.1,y.2.2.2.2.2.1,())]
abbrev wJ7:Type:=(D37 × (List D128) × Int × Unit)
abbrev wD7:Type:=((List D128) × Int × Unit)
def vO6 (y:wJ7) (x:wD7):Prop × Bool × wD7 × Bool × Bool :=
 let a26:=y.2.1
 let a27:=y.2.2.1
 let a8:=x.1
 let a28:=x.2.1
 let v29:=(decide (a28 < a27))
 let v31:=(nth a26 a28 Z128)
 let y13:=(y.1,a28,v31,a26,a27,a28,(f141 v31.1),())
 let x13:=((List.set a8 (Int.toNat a28) (v31.1,(nth a8 a28 Z128).2.1,())),(0:Int),())
 let e13:=(zC1 (wI0 y13) (wB6 y13) x13)
 let q13_4:=(uV9 y13 e13)
 ((v29 = true → (InB a28 (len a26) ∧ (InB a28 (len a8) ∧ (a28 < len a8 ∧ ((uF5 v31.1) ∧ ((Am.Ends (wI0 y13) (wB6 y13) (wN3 y13) x13) ∧ (q13_4 = true → InR (a28 + 1)))))))),(v29 && q13_4),((vY0 y13 e13),(a28 + 1),()),(v29 && (uV8 y13 e13)),(!v29))
def wU7 (y:wJ7) (x:wD7):Prop:=(vO6 y x).1
def vB1 (y:wJ7) (x:wD7):Bool:=(vO6 y x).2.1
def wG3 (y:wJ7) (x:wD7):wD7:=(vO6 y x).2.2.1
def uF8 (y:wJ7) (x:wD7):Bool:=(vO6 y x).2.2.2.1
def rG (y:wJ7) (x:wD7):Bool:=(vO6 y x).2.2.2.2
instance (y:wJ7) (x:wD7):Decidable (wU7 y x):=by
 unfold wU7 vO6
 try dsimp only
 infer_instance
def vJ7 (y:wJ7) (x:wD7):(List D128) :=
 let a26:=y.2.1
 let a8:=x.1
 let a28:=x.2.1
 let v31:=(nth a26 a28 Z128)
 let y13:=(y.1,a28,v31,a26,y.2.2.1,a28,(f141 v31.1),())
 (vF3 y13 (zC1 (wI0 y13) (wB6 y13) ((List.set a8 (Int.toNat a28) (v31.1,(nth a8 a28 Z128).2.1,())),(0:Int),())))
def uJ3 (y:wJ7) (x:wD7):Int :=
 let a26:=y.2.1
 let a8:=x.1
 let a28:=x.2.1
 let v31:=(nth a26 a28 Z128)
 let y13:=(y.1,a28,v31,a26,y.2.2.1,a28,(f141 v31.1),())
 (vY y13 (zC1 (wI0 y13) (wB6 y13) ((List.set a8 (Int.toNat a28) (v31.1,(nth a8 a28 Z128).2.1,())),(0:Int),())))
def tK8:List (Nat × Sh):=[(4,(.own T128 0 false)),(5,vI)]
def vJ8 (y:wJ7) (x:wD7):(List D128) :=
 x.1
def uJ4:St → Option Out:=xP3 [(3,(.box T37 (.val T37))),(26,(.val (.sl T128))),(27,vI)] [(8,(.own T128 1008 true)),(28,vI)] vB1 wG3 wU7 fun y x=>[ex 1 (some (uF8 y x)) tK8 ((vJ7 y x),(uJ3 y x),()),ex 2 (some (rG y x)) [(8,(.own T128 1008 true))] ((vJ8 y x),())]
def qI (p0:(List D128)) (p1:D37):Prop × ((List D128) × Int × Unit) :=
 let v14:=(f140 p0)
 let v16:=(v14 != 0)
 let v19:=(f77 p1)
 let v21:=(v19 != 0)
 let v24:=(len p0)
 let y9:=(p1,p0,(len p0),())
 let x9:=((List.replicate (Int.toNat v24) Z128),(0:Int),())
 let e9:=(zC1 (vB1 y9) (wG3 y9) x9)
 let q9_1:=(uF8 y9 e9)
 (((vJ5 p0) ∧ ((!v16) = true → ((vT1 p1) ∧ ((!v21) = true → ((0 ≤ v24 ∧ v24 ≤ v24 ∧ v24 ≤ 4294967296) ∧ (Am.Ends (vB1 y9) (wG3 y9) (wU7 y9) x9)))))),((bif v16 then [] else (bif v21 then [] else (bif q9_1 then (vJ7 y9 e9) else (vJ8 y9 e9)))),(bif v16 then v14 else (bif v21 then v19 else (bif q9_1 then (uJ3 y9 e9) else (0:Int)))),()))
def uW1 (p0:(List D128)) (p1:D37):Prop:=(qI p0 p1).1
def f125 (p0:(List D128)) (p1:D37):((List D128) × Int × Unit):=(qI p0 p1).2
instance (p0:(List D128)) (p1:D37):Decidable (uW1 p0 p1):=by
 unfold uW1 qI
 try dsimp only
 infer_instance
def sB0:Am.Spec:=fnSpec [(0,(.val (.sl T128))),(1,(.val T37))] (.tup (.cons (.val (.sl T128)) (.cons vI .nl))) [] (fun x=>uW1 x.1 x.2.1) (fun x=>f125 x.1 x.2.1) (fun _=>())
def tR5:Ctx:=Cx tys [(77,vX5),(140,vJ6),(141,uV5),(142,uV7),(143,vX9)] [(13,vY1),(9,uJ4)] [(15,[(4,0,25,1008)]),(43,[(1,4,0,0),(4,0,1008,0)])] false 63 [] [25]
theorem tR6:CtxOk Tryz.prog tR5:=xW3 tys_ok rfl ⟨sU0,tR4,rN6,rN9,sK1,trivial⟩ rfl (by kernel_rfl)
noncomputable def rO:Code:=Tryz.f125.body.getD .skip
noncomputable def sK3:Code:=xX2 rO 0
noncomputable def sU9:Code:=xX2 sK3 0
theorem sK4:yU9 Tryz.prog tR5 sU9:=xY1 tR6 mixed (sp:=vY1) rfl [uW,uW0] (bs:=[]) (by kernel_rfl) trivial (by kernel_rfl) (by kernel_rfl) fun y x=>by kernel_rfl
theorem rG0:yU9 Tryz.prog tR5 sK3:=xY1 tR6 mixed (sp:=uJ4) rfl [tK8,[(8,(.own T128 1008 true))]] (bs:=[sU9]) (by kernel_rfl) ⟨sK4,trivial⟩ (by kernel_rfl) (by kernel_rfl) fun y x=>by kernel_rfl
theorem pJ3:SpecOk Tryz.prog 125 sB0:=xY2 tR6 mixed Tryz.func125 (by kernel_rfl) (bs:=[sK3]) (by kernel_rfl) ⟨rG0,trivial⟩ fun x=>by kernel_rfl
def vY2 (p0:D125) (p1:(List D125)):Prop × (Unit) × ((List D125) × Unit) :=
 let v7:=(IntKind.wrap .i64 ((len p1) - 1))
 let v10:=(!(Ty.eqb T125 p0 (nth p1 v7 Z125)))
 let v13:=([p0]:List D125)
 ((InB v7 (len p1) ∧ (v10 = true → ((List.length p1 + List.length v13:Nat):Int) ≤ 4294967296)),(),((bif v10 then (p1 ++ v13) else p1),()))
def wN4 (p0:D125) (p1:(List D125)):Prop:=(vY2 p0 p1).1
def pJ4 (p0:D125) (p1:(List D125)):(Unit):=(vY2 p0 p1).2.1
def wG4 (p0:D125) (p1:(List D125)):((List D125) × Unit):=(vY2 p0 p1).2.2
instance (p0:D125) (p1:(List D125)):Decidable (wN4 p0 p1):=by
 unfold wN4 vY2
 try dsimp only
 infer_instance
def uJ5:Am.Spec:=fnSpec [(0,(.val T125)),(1,(.box (.sl T125) (.own T125 400100 false)))] (.tup .nl) [(1,(.box (.sl T125) (.own T125 400100 false)))] (fun x=>wN4 x.1 x.2.1) (fun x=>pJ4 x.1 x.2.1) (fun x=>wG4 x.1 x.2.1)
def sK5:Ctx:=Cx tys [] [] [(5,[(4,0,14,400100)])] true 15 [1] []
theorem sK6:CtxOk Tryz.prog sK5:=xW3 tys_ok rfl trivial rfl (by kernel_rfl)
theorem rG1:SpecOk Tryz.prog 156 uJ5:=xY2 sK6 mixed Tryz.func156 (by kernel_rfl) (bs:=[]) (by kernel_rfl) trivial fun x=>by kernel_rfl
abbrev wG5:Type:=(D128 × D125 × (Unit × Unit) × Unit)
abbrev wE1:Type:=((List D125) × Int × Unit)
def wW3 (y:wG5) (x:wE1):Prop × Bool × wE1 :=
 let a3:=y.1
 let a5:=y.2.1
 let a2:=x.1
 let a7:=x.2.1
 let v37:=(decide (a7 ≤ 8))
 let v41:=(IntKind.wrap .i64 (8 - a7))
 let v44:=(IntKind.wrap .i64 (v41 * v41))
 let v48:=(IntKind.wrap .i64 ((IntKind.wrap .i64 (2 * a7)) * v41))
 let v51:=(IntKind.wrap .i64 (a7 * a7))
 let v70:=(IntKind.wrap .i64 ((IntKind.wrap .i64 ((IntKind.wrap .i64 (v44 * a5.1)) + (IntKind.wrap .i64 (v48 * ((nth a3.2.1 (0:Int) Z125).1))))) + (IntKind.wrap .i64 (v51 * ((nth a3.2.1 (1:Int) Z125).1)))))
 let v89:=(IntKind.wrap .i64 ((IntKind.wrap .i64 ((IntKind.wrap .i64 (v44 * a5.2.1)) + (IntKind.wrap .i64 (v48 * ((nth a3.2.1 (0:Int) Z125).2.1))))) + (IntKind.wrap .i64 (v51 * ((nth a3.2.1 (1:Int) Z125).2.1)))))
 let s:=((f108 v70 (64:Int)),(f108 v89 (64:Int)),())
 ((v37 = true → (InB (0:Int) 3 ∧ (InB (1:Int) 3 ∧ ((wA8 v70 (64:Int)) ∧ (InB (0:Int) 3 ∧ (InB (1:Int) 3 ∧ ((wA8 v89 (64:Int)) ∧ (wN4 s a2)))))))),v37,((wG4 s a2).1,(IntKind.wrap .i64 (a7 + 1)),()))
def wI1 (y:wG5) (x:wE1):Prop:=(wW3 y x).1
def wG6 (y:wG5) (x:wE1):Bool:=(wW3 y x).2.1
def wB1 (y:wG5) (x:wE1):wE1:=(wW3 y x).2.2
instance (y:wG5) (x:wE1):Decidable (wI1 y x):=by
 unfold wI1 wW3
 try dsimp only
 infer_instance
def wW4 (y:wG5) (x:wE1):(List D125) :=
 x.1
def vY3:List (Nat × Sh):=[(2,(.box (.sl T125) (.own T125 400200 false)))]
def vJ9:St → Option Out:=xP3 [(3,(.box T128 (.val T128))),(5,(.box T125 (.val T125))),(6,(.fn 156 (.cons (.ref 2 (.sl T125)) .nl)))] [(2,(.box (.sl T125) (.own T125 400200 false))),(7,vI)] wG6 wB1 wI1 fun y x=>[ex 3 none vY3 ((wW4 y x),())]
abbrev wE6:Type:=(D128 × D125 × (Unit × Unit) × Unit)
abbrev wC4:Type:=((List D125) × Int × Unit)
def wP9 (y:wE6) (x:wC4):Prop × Bool × wC4 :=
 let a3:=y.1
 let a5:=y.2.1
 let a2:=x.1
 let a12:=x.2.1
 let v96:=(decide (a12 ≤ 16))
 let v100:=(IntKind.wrap .i64 (16 - a12))
 let v105:=(IntKind.wrap .i64 ((IntKind.wrap .i64 (v100 * v100)) * v100))
 let v111:=(IntKind.wrap .i64 ((IntKind.wrap .i64 ((IntKind.wrap .i64 (3 * a12)) * v100)) * v100))
 let v117:=(IntKind.wrap .i64 ((IntKind.wrap .i64 ((IntKind.wrap .i64 (3 * a12)) * a12)) * v100))
 let v122:=(IntKind.wrap .i64 ((IntKind.wrap .i64 (a12 * a12)) * a12))
 let v141:=(IntKind.wrap .i64 ((IntKind.wrap .i64 ((IntKind.wrap .i64 (v105 * a5.1)) + (IntKind.wrap .i64 (v111 * ((nth a3.2.1 (0:Int) Z125).1))))) + (IntKind.wrap .i64 (v117 * ((nth a3.2.1 (1:Int) Z125).1)))))
 let v148:=(IntKind.wrap .i64 (v141 + (IntKind.wrap .i64 (v122 * ((nth a3.2.1 (2:Int) Z125).1)))))
 let v167:=(IntKind.wrap .i64 ((IntKind.wrap .i64 ((IntKind.wrap .i64 (v105 * a5.2.1)) + (IntKind.wrap .i64 (v111 * ((nth a3.2.1 (0:Int) Z125).2.1))))) + (IntKind.wrap .i64 (v117 * ((nth a3.2.1 (1:Int) Z125).2.1)))))
 let v174:=(IntKind.wrap .i64 (v167 + (IntKind.wrap .i64 (v122 * ((nth a3.2.1 (2:Int) Z125).2.1)))))
 let s:=((f108 v148 (4096:Int)),(f108 v174 (4096:Int)),())
 ((v96 = true → (InB (0:Int) 3 ∧ (InB (1:Int) 3 ∧ (InB (2:Int) 3 ∧ ((wA8 v148 (4096:Int)) ∧ (InB (0:Int) 3 ∧ (InB (1:Int) 3 ∧ (InB (2:Int) 3 ∧ ((wA8 v174 (4096:Int)) ∧ (wN4 s a2)))))))))),v96,((wG4 s a2).1,(IntKind.wrap .i64 (a12 + 1)),()))
def wF1 (y:wE6) (x:wC4):Prop:=(wP9 y x).1
def wE7 (y:wE6) (x:wC4):Bool:=(wP9 y x).2.1
def wA6 (y:wE6) (x:wC4):wC4:=(wP9 y x).2.2
instance (y:wE6) (x:wC4):Decidable (wF1 y x):=by
 unfold wF1 wP9
 try dsimp only
 infer_instance
def wS4 (y:wE6) (x:wC4):(List D125) :=
 x.1
def vT2:List (Nat × Sh):=[(2,(.box (.sl T125) (.own T125 400200 false)))]
def vI2:St → Option Out:=xP3 [(3,(.box T128 (.val T128))),(5,(.box T125 (.val T125))),(6,(.fn 156 (.cons (.ref 2 (.sl T125)) .nl)))] [(2,(.box (.sl T125) (.own T125 400200 false))),(12,vI)] wE7 wA6 wF1 fun y x=>[ex 5 none vT2 ((wS4 y x),())]
def uP9 (p0:(List D125)) (p1:D128):Prop × (List D125) :=
 let v21:=(IntKind.wrap .i64 ((len p0) - 1))
 let v22:=(nth p0 v21 Z125)
 let v28:=(p1.1 == 2)
 let v32:=(nth p1.2.1 (0:Int) Z125)
 let v35:=(p1.1 == 3)
 let y8:=(p1,v22,((),()),())
 let x8:=(p0,(1:Int),())
 let v94:=(p1.1 == 4)
 let y15:=(p1,v22,((),()),())
 let x15:=(p0,(1:Int),())
 let m2_2:=(bif v28 then (wG4 v32 p0).1 else (bif v35 then (wW4 y8 (zC1 (wG6 y8) (wB1 y8) x8)) else (bif v94 then (wS4 y15 (zC1 (wE7 y15) (wA6 y15) x15)) else p0)))
 ((InB v21 (len p0) ∧ ((v28 = true → (InB (0:Int) 3 ∧ (wN4 v32 p0))) ∧ (v28 = false → ((v35 = true → (Am.Ends (wG6 y8) (wB1 y8) (wI1 y8) x8)) ∧ (v35 = false → (v94 = true → (Am.Ends (wE7 y15) (wA6 y15) (wF1 y15) x15))))))),m2_2)
def vB2 (p0:(List D125)) (p1:D128):Prop:=(uP9 p0 p1).1
def vU5 (p0:(List D125)) (p1:D128):(List D125):=(uP9 p0 p1).2
instance (p0:(List D125)) (p1:D128):Decidable (vB2 p0 p1):=by
 unfold vB2 uP9
 try dsimp only
 infer_instance
def uJ6:Am.Spec:=fnSpec [(0,(.own T125 400000 false)),(1,(.val T128))] (.own T125 0 false) [] (fun x=>vB2 x.1 x.2.1) (fun x=>vU5 x.1 x.2.1) (fun _=>())
def vU6:Ctx:={ Cx tys [(108,wE9),(156,uJ5)] [(8,vJ9),(15,vI2)] [(1,[(4,0,400000,400200)]),(41,[(4,0,400200,0)])] true 179 [] [] with wants:=[(156,[])] }
theorem vU7:CtxOk Tryz.prog vU6:=xW3 tys_ok rfl ⟨wW1,rG1,trivial⟩ rfl (by kernel_rfl)
noncomputable def uJ7:Code:=Tryz.f144.body.getD .skip
noncomputable def tK9:Code:=xX2 uJ7 0
theorem tR7:yU9 Tryz.prog vU6 tK9:=xY1 vU7 mixed (sp:=vJ9) rfl [vY3] (bs:=[]) (by kernel_rfl) trivial (by kernel_rfl) (by kernel_rfl) fun y x=>by kernel_rfl
noncomputable def uW2:Code:=xX2 uJ7 1
theorem tJ1:yU9 Tryz.prog vU6 uW2:=xY1 vU7 mixed (sp:=vI2) rfl [vT2] (bs:=[]) (by kernel_rfl) trivial (by kernel_rfl) (by kernel_rfl) fun y x=>by kernel_rfl
theorem rG2:SpecOk Tryz.prog 144 uJ6:=xY2 vU7 mixed Tryz.func144 (by kernel_rfl) (bs:=[tK9,uW2]) (by kernel_rfl) ⟨tR7,tJ1,trivial⟩ fun x=>by kernel_rfl
abbrev vB3:Type:=((List D128) × (List D128) × Int × Unit)
abbrev wM7:Type:=((List (List D125)) × (List D125) × Int × Unit)
def vO7 (y:vB3) (x:wM7):Prop × Bool × wM7 :=
 let a0:=y.1
 let a14:=y.2.1
 let a5:=x.1
 let a6:=x.2.1
 let a16:=x.2.2.1
 let v17:=(decide (a16 < y.2.2.1))
 let v19:=(nth a14 a16 Z128)
 let v23:=(v19.1 == 1)
 let m6:=(bif v23 then ([(nth v19.2.1 (0:Int) Z125)]:List D125) else (vU5 a6 v19))
 let v33:=(len a0)
 let v35:=(a16 == (v33 - 1))
 let v39:=(a16 + 1)
 let v44:=(bif v35 then true else ((nth a0 v39 Z128).1 == 1))
 let v47:=([m6]:List (List D125))
 ((v17 = true → (InB a16 (len a14) ∧ ((v23 = true → InB (0:Int) 3) ∧ ((v23 = false → (vB2 a6 v19)) ∧ (InR (v33 - 1) ∧ (((!v35) = true → InR (a16 + 1)) ∧ (((!v35) = true → InB v39 (len a0)) ∧ ((v44 = true → ((List.length a5 + List.length v47:Nat):Int) ≤ 4294967296) ∧ InR (a16 + 1))))))))),v17,((bif v44 then (a5 ++ v47) else a5),m6,(a16 + 1),()))
def wU8 (y:vB3) (x:wM7):Prop:=(vO7 y x).1
def vB4 (y:vB3) (x:wM7):Bool:=(vO7 y x).2.1
def wE2 (y:vB3) (x:wM7):wM7:=(vO7 y x).2.2
instance (y:vB3) (x:wM7):Decidable (wU8 y x):=by
 unfold wU8 vO7
 try dsimp only
 infer_instance
def vK (y:vB3) (x:wM7):(List (List D125)) :=
 x.1
def tL:List (Nat × Sh):=[(5,(.own (.sl T125) 1005 false))]
def uJ8:St → Option Out:=xP3 [(0,(.val (.sl T128))),(14,(.val (.sl T128))),(15,vI)] [(5,(.own (.sl T125) 1005 false)),(6,(.own T125 1006 false)),(16,vI)] vB4 wE2 wU8 fun y x=>[ex 2 none tL ((vK y x),())]
def qI0 (p0:(List D128)):Prop × ((List (List D125)) × Int × Unit) :=
 let v10:=(f140 p0)
 let v12:=(v10 != 0)
 let y7:=(p0,p0,(len p0),())
 let x7:=(([]:List (List D125)),([]:List D125),(0:Int),())
 (((vJ5 p0) ∧ ((!v12) = true → (Am.Ends (vB4 y7) (wE2 y7) (wU8 y7) x7))),((bif v12 then [] else (vK y7 (zC1 (vB4 y7) (wE2 y7) x7))),(bif v12 then v10 else (0:Int)),()))
def vK0 (p0:(List D128)):Prop:=(qI0 p0).1
def f126 (p0:(List D128)):((List (List D125)) × Int × Unit):=(qI0 p0).2
instance (p0:(List D128)):Decidable (vK0 p0):=by
 unfold vK0 qI0
 try dsimp only
 infer_instance
def uW3:Am.Spec:=fnSpec [(0,(.val (.sl T128)))] (.tup (.cons (.own (.sl T125) 0 false) (.cons vI .nl))) [] (fun x=>vK0 x.1) (fun x=>f126 x.1) (fun _=>())
def sV:Ctx:={ Cx tys [(140,vJ6),(144,uJ6)] [(7,uJ8)] [(21,[(4,0,27,1006)]),(23,[(4,0,30,1006)]),(27,[(4,0,48,1005)]),(31,[(4,0,1005,0)])] false 51 [] [] with wants:=[(144,[0])] }
theorem sV0:CtxOk Tryz.prog sV:=xW3 tys_ok rfl ⟨tR4,rG2,trivial⟩ rfl (by kernel_rfl)
noncomputable def rO0:Code:=Tryz.f126.body.getD .skip
noncomputable def rO1:Code:=xX2 rO0 0
theorem rG3:yU9 Tryz.prog sV rO1:=xY1 sV0 mixed (sp:=uJ8) rfl [tL] (bs:=[]) (by kernel_rfl) trivial (by kernel_rfl) (by kernel_rfl) fun y x=>by kernel_rfl
theorem rO2:SpecOk Tryz.prog 126 uW3:=xY2 sV0 mixed Tryz.func126 (by kernel_rfl) (bs:=[rO1]) (by kernel_rfl) ⟨rG3,trivial⟩ fun x=>by kernel_rfl
abbrev vB5:Type:=((List D128) × (List D128) × Int × Unit)
abbrev wQ:Type:=((List Bool) × Int × Unit)
def vY4 (y:vB5) (x:wQ):Prop × Bool × wQ :=
 let a0:=y.1
 let a13:=y.2.1
 let a5:=x.1
 let a15:=x.2.1
 let v16:=(decide (a15 < y.2.2.1))
 let v22:=(len a0)
 let v24:=(a15 == (v22 - 1))
 let v28:=(a15 + 1)
 let v33:=(bif v24 then true else ((nth a0 v28 Z128).1 == 1))
 let v38:=([((nth a13 a15 Z128).1 != 5)]:List Bool)
 ((v16 = true → (InB a15 (len a13) ∧ (InR (v22 - 1) ∧ (((!v24) = true → InR (a15 + 1)) ∧ (((!v24) = true → InB v28 (len a0)) ∧ ((v33 = true → ((List.length a5 + List.length v38:Nat):Int) ≤ 4294967296) ∧ InR (a15 + 1))))))),v16,((bif v33 then (a5 ++ v38) else a5),(a15 + 1),()))
def vO8 (y:vB5) (x:wQ):Prop:=(vY4 y x).1
def uW4 (y:vB5) (x:wQ):Bool:=(vY4 y x).2.1
def wY (y:vB5) (x:wQ):wQ:=(vY4 y x).2.2
instance (y:vB5) (x:wQ):Decidable (vO8 y x):=by
 unfold vO8 vY4
 try dsimp only
 infer_instance
def uJ9 (y:vB5) (x:wQ):(List Bool) :=
 x.1
def uK:St → Option Out:=xP3 [(0,(.val (.sl T128))),(13,(.val (.sl T128))),(14,vI)] [(5,(.own .bool 1005 false)),(15,vI)] uW4 wY vO8 fun y x=>[ex 2 none [(5,(.own .bool 1005 false))] ((uJ9 y x),())]
def pJ5 (p0:(List D128)):Prop × ((List Bool) × Int × Unit) :=
 let v9:=(f140 p0)
 let v11:=(v9 != 0)
 let y6:=(p0,p0,(len p0),())
 let x6:=(([]:List Bool),(0:Int),())
 (((vJ5 p0) ∧ ((!v11) = true → (Am.Ends (uW4 y6) (wY y6) (vO8 y6) x6))),((bif v11 then [] else (uJ9 y6 (zC1 (uW4 y6) (wY y6) x6))),(bif v11 then v9 else (0:Int)),()))
def uW5 (p0:(List D128)):Prop:=(pJ5 p0).1
def f127 (p0:(List D128)):((List Bool) × Int × Unit):=(pJ5 p0).2
instance (p0:(List D128)):Decidable (uW5 p0):=by
 unfold uW5 pJ5
 try dsimp only
 infer_instance
def sB1:Am.Spec:=fnSpec [(0,(.val (.sl T128)))] (.tup (.cons (.own .bool 0 false) (.cons vI .nl))) [] (fun x=>uW5 x.1) (fun x=>f127 x.1) (fun _=>())
def sV1:Ctx:=Cx tys [(140,vJ6)] [(6,uK)] [(19,[(4,0,39,1005)]),(23,[(4,0,1005,0)])] false 42 [] []
theorem sV2:CtxOk Tryz.prog sV1:=xW3 tys_ok rfl ⟨tR4,trivial⟩ rfl (by kernel_rfl)
noncomputable def rO3:Code:=Tryz.f127.body.getD .skip
noncomputable def rO4:Code:=xX2 rO3 0
theorem rG4:yU9 Tryz.prog sV1 rO4:=xY1 sV2 mixed (sp:=uK) rfl [[(5,(.own .bool 1005 false))]] (bs:=[]) (by kernel_rfl) trivial (by kernel_rfl) (by kernel_rfl) fun y x=>by kernel_rfl
theorem pJ6:SpecOk Tryz.prog 127 sB1:=xY2 sV2 mixed Tryz.func127 (by kernel_rfl) (bs:=[rO4]) (by kernel_rfl) ⟨rG4,trivial⟩ fun x=>by kernel_rfl
abbrev wQ0:Type:=((List (List D125)) × (List (List D125)) × Int × Unit)
abbrev wJ8:Type:=(Int × Int × Unit)
def vO9 (y:wQ0) (x:wJ8):Prop × Bool × wJ8 × Bool × Bool :=
 let a18:=y.2.1
 let a5:=x.1
 let a20:=x.2.1
 let v21:=(decide (a20 < y.2.2.1))
 let v26:=(len (nth a18 a20 ([]:List D125)))
 let v27:=(a5 + v26)
 let v29:=(decide (v27 > 4096))
 ((v21 = true → (InB a20 (len a18) ∧ (InR (a5 + v26) ∧ ((!v29) = true → InR (a20 + 1))))),(v21 && (!v29)),(v27,(a20 + 1),()),(v21 && v29),(!v21))
def vP (y:wQ0) (x:wJ8):Prop:=(vO9 y x).1
def uW6 (y:wQ0) (x:wJ8):Bool:=(vO9 y x).2.1
def vK1 (y:wQ0) (x:wJ8):wJ8:=(vO9 y x).2.2.1
def tL0 (y:wQ0) (x:wJ8):Bool:=(vO9 y x).2.2.2.1
def tL1 (y:wQ0) (x:wJ8):Bool:=(vO9 y x).2.2.2.2
instance (y:wQ0) (x:wJ8):Decidable (vP y x):=by
 unfold vP vO9
 try dsimp only
 infer_instance
def uK0 (y:wQ0) (x:wJ8):Int :=
 (3:Int)
def uK1:St → Option Out:=xP3 [(0,(.val (.sl (.sl T125)))),(18,(.val (.sl (.sl T125)))),(19,vI)] [(5,vI),(20,vI)] uW6 vK1 vP fun y x=>[ex 1 (some (tL0 y x)) [(4,vI)] ((uK0 y x),()),ex 2 (some (tL1 y x)) [(0,(.val (.sl (.sl T125))))] (y.1,())]
abbrev wL6:Type:=((List (List D125)) × Int × Int × (List D125) × Int × Unit)
abbrev wF2:Type:=(Int × Unit)
def vB6 (y:wL6) (x:wF2):Prop × Bool × wF2 × Bool × Bool :=
 let a37:=y.2.2.2.1
 let a39:=x.1
 let v40:=(decide (a39 < y.2.2.2.2.1))
 let v41:=(nth a37 a39 Z125)
 let v60:=(bif (bif (bif (decide (v41.1 < (-16777216))) then true else (decide (v41.1 > 16777216))) then true else (decide (v41.2.1 < (-16777216)))) then true else (decide (v41.2.1 > 16777216)))
 ((v40 = true → (InB a39 (len a37) ∧ ((!v60) = true → InR (a39 + 1)))),(v40 && (!v60)),((a39 + 1),()),(v40 && v60),(!v40))
def vF4 (y:wL6) (x:wF2):Prop:=(vB6 y x).1
def vP0 (y:wL6) (x:wF2):Bool:=(vB6 y x).2.1
def wT2 (y:wL6) (x:wF2):wF2:=(vB6 y x).2.2.1
def uW7 (y:wL6) (x:wF2):Bool:=(vB6 y x).2.2.2.1
def uW8 (y:wL6) (x:wF2):Bool:=(vB6 y x).2.2.2.2
instance (y:wL6) (x:wF2):Decidable (vF4 y x):=by
 unfold vF4 vB6
 try dsimp only
 infer_instance
def vY5 (y:wL6) (x:wF2):Int :=
 (2:Int)
def uW9:List (Nat × Sh):=[(31,(.val (.sl (.sl T125)))),(32,vI),(33,vI)]
def vY6:St → Option Out:=xP3 [(31,(.val (.sl (.sl T125)))),(32,vI),(33,vI),(37,(.val (.sl T125))),(38,vI)] [(39,vI)] vP0 wT2 vF4 fun y x=>[ex 1 (some (uW7 y x)) [(4,vI)] ((vY5 y x),()),ex 6 (some (uW8 y x)) uW9 (y.1,y.2.1,y.2.2.1,())]
abbrev wL7:Type:=((List (List D125)) × Int × Unit)
abbrev wF3:Type:=(Int × Unit)
def vB7 (y:wL7) (x:wF3):Prop × Bool × wF3 × Bool × Bool :=
 let a31:=y.1
 let a32:=y.2.1
 let a33:=x.1
 let v34:=(decide (a33 < a32))
 let v35:=(nth a31 a33 ([]:List D125))
 let y15:=(a31,a32,a33,v35,(len v35),())
 let x15:=((0:Int),())
 let e15:=(zC1 (vP0 y15) (wT2 y15) x15)
 let q15_6:=(uW8 y15 e15)
 ((v34 = true → (InB a33 (len a31) ∧ ((Am.Ends (vP0 y15) (wT2 y15) (vF4 y15) x15) ∧ (q15_6 = true → InR (a33 + 1))))),(v34 && q15_6),((a33 + 1),()),(v34 && (uW7 y15 e15)),(!v34))
def vF5 (y:wL7) (x:wF3):Prop:=(vB7 y x).1
def uF9 (y:wL7) (x:wF3):Bool:=(vB7 y x).2.1
def vF6 (y:wL7) (x:wF3):wF3:=(vB7 y x).2.2.1
def uX (y:wL7) (x:wF3):Bool:=(vB7 y x).2.2.2.1
def sK7 (y:wL7) (x:wF3):Bool:=(vB7 y x).2.2.2.2
instance (y:wL7) (x:wF3):Decidable (vF5 y x):=by
 unfold vF5 vB7
 try dsimp only
 infer_instance
def vY7 (y:wL7) (x:wF3):Int :=
 let a31:=y.1
 let a33:=x.1
 let v35:=(nth a31 a33 ([]:List D125))
 let y15:=(a31,y.2.1,a33,v35,(len v35),())
 (vY5 y15 (zC1 (vP0 y15) (wT2 y15) ((0:Int),())))
def vY8:St → Option Out:=xP3 [(31,(.val (.sl (.sl T125)))),(32,vI)] [(33,vI)] uF9 vF6 vF5 fun y x=>[ex 1 (some (uX y x)) [(4,vI)] ((vY7 y x),()),ex 4 (some (sK7 y x)) [] ()]
def pJ7 (p0:(List (List D125))) (p1:Int):Prop × Int :=
 let v17:=(bif (p1 != 0) then (p1 != 1) else false)
 let y5:=(p0,p0,(len p0),())
 let x5:=((0:Int),(0:Int),())
 let e5:=(zC1 (uW6 y5) (vK1 y5) x5)
 let y12:=(p0,(len p0),())
 let x12:=((0:Int),())
 let e12:=(zC1 (uF9 y12) (vF6 y12) x12)
 (((!v17) = true → ((Am.Ends (uW6 y5) (vK1 y5) (vP y5) x5) ∧ ((tL1 y5 e5) = true → (Am.Ends (uF9 y12) (vF6 y12) (vF5 y12) x12)))),(bif v17 then (8:Int) else (bif (tL0 y5 e5) then (uK0 y5 e5) else (bif (uX y12 e12) then (vY7 y12 e12) else (0:Int)))))
def vU8 (p0:(List (List D125))) (p1:Int):Prop:=(pJ7 p0 p1).1
def f129 (p0:(List (List D125))) (p1:Int):Int:=(pJ7 p0 p1).2
instance (p0:(List (List D125))) (p1:Int):Decidable (vU8 p0 p1):=by
 unfold vU8 pJ7
 try dsimp only
 infer_instance
def vY9:Am.Spec:=fnSpec [(0,(.val (.sl (.sl T125)))),(1,vI)] vI [] (fun x=>vU8 x.1 x.2.1) (fun x=>f129 x.1 x.2.1) (fun _=>())
def uQ:Ctx:=Cx tys [] [(5,uK1),(15,vY6),(12,vY8)] [] false 63 [] []
theorem uQ0:CtxOk Tryz.prog uQ:=xW3 tys_ok rfl trivial rfl (by kernel_rfl)
noncomputable def sB2:Code:=Tryz.f129.body.getD .skip
noncomputable def rO5:Code:=xX2 sB2 0
theorem rG5:yU9 Tryz.prog uQ rO5:=xY1 uQ0 mixed (sp:=uK1) rfl [[(4,vI)],[(0,(.val (.sl (.sl T125))))]] (bs:=[]) (by kernel_rfl) trivial (by kernel_rfl) (by kernel_rfl) fun y x=>by kernel_rfl
noncomputable def tR8:Code:=xX2 sB2 1
noncomputable def sV3:Code:=xX2 tR8 0
theorem sK8:yU9 Tryz.prog uQ sV3:=xY1 uQ0 mixed (sp:=vY6) rfl [[(4,vI)],uW9] (bs:=[]) (by kernel_rfl) trivial (by kernel_rfl) (by kernel_rfl) fun y x=>by kernel_rfl
theorem sK9:yU9 Tryz.prog uQ tR8:=xY1 uQ0 mixed (sp:=vY8) rfl [[(4,vI)],[]] (bs:=[sV3]) (by kernel_rfl) ⟨sK8,trivial⟩ (by kernel_rfl) (by kernel_rfl) fun y x=>by kernel_rfl
theorem sL:SpecOk Tryz.prog 129 vY9:=xY2 uQ0 mixed Tryz.func129 (by kernel_rfl) (bs:=[rO5,tR8]) (by kernel_rfl) ⟨rG5,sK9,trivial⟩ fun x=>by kernel_rfl
def pJ8 (p0:Int) (p1:Int) (p2:Int):Prop × Int :=
 let m6_2:=(bif (bif (decide (p0 < 1)) then true else (decide (p0 > 4096))) then (2:Int) else (bif (bif (decide (p1 < 0)) then true else (decide (p1 > 2))) then (8:Int) else (bif (bif (decide (p2 < 0)) then true else (decide (p2 > 2))) then (8:Int) else (0:Int))))
 (True,m6_2)
def uX0 (p0:Int) (p1:Int) (p2:Int):Prop:=(pJ8 p0 p1 p2).1
def f145 (p0:Int) (p1:Int) (p2:Int):Int:=(pJ8 p0 p1 p2).2
instance (p0:Int) (p1:Int) (p2:Int):Decidable (uX0 p0 p1 p2):=by
 unfold uX0 pJ8
 try dsimp only
 infer_instance
def sB3:Am.Spec:=fnSpec [(0,vI),(1,vI),(2,vI)] vI [] (fun x=>uX0 x.1 x.2.1 x.2.2.1) (fun x=>f145 x.1 x.2.1 x.2.2.1) (fun _=>())
def qI1:Ctx:=Cx tys [] [] [] false 25 [] []
theorem qI2:CtxOk Tryz.prog qI1:=xW3 tys_ok rfl trivial rfl (by kernel_rfl)
theorem pJ9:SpecOk Tryz.prog 145 sB3:=xY2 qI2 mixed Tryz.func145 (by kernel_rfl) (bs:=[]) (by kernel_rfl) trivial fun x=>by kernel_rfl
abbrev vB8:Type:=(Bool × (List D125) × Int × Unit)
abbrev wQ1:Type:=((List D125) × Int × Unit)
def vZ (y:vB8) (x:wQ1):Prop × Bool × wQ1 :=
 let a8:=y.2.1
 let a5:=x.1
 let a10:=x.2.1
 let v11:=(decide (a10 < y.2.2.1))
 let v12:=(nth a8 a10 Z125)
 let v16:=((len a5) == 0)
 let v21:=(len a5)
 let v22:=(v21 - 1)
 let v26:=(bif v16 then true else (!(Ty.eqb T125 v12 (nth a5 v22 Z125))))
 let v29:=([v12]:List D125)
 ((v11 = true → (InB a10 (len a8) ∧ (((!v16) = true → InR (v21 - 1)) ∧ (((!v16) = true → InB v22 (len a5)) ∧ ((v26 = true → ((List.length a5 + List.length v29:Nat):Int) ≤ 4294967296) ∧ InR (a10 + 1)))))),v11,((bif v26 then (a5 ++ v29) else a5),(a10 + 1),()))
def wU9 (y:vB8) (x:wQ1):Prop:=(vZ y x).1
def wW5 (y:vB8) (x:wQ1):Bool:=(vZ y x).2.1
def wE3 (y:vB8) (x:wQ1):wQ1:=(vZ y x).2.2
instance (y:vB8) (x:wQ1):Decidable (wU9 y x):=by
 unfold wU9 vZ
 try dsimp only
 infer_instance
def uK2 (y:vB8) (x:wQ1):(List D125) :=
 x.1
def tL2:List (Nat × Sh):=[(1,vB),(5,(.own T125 1005 false))]
def uK3:St → Option Out:=xP3 [(1,vB),(8,(.val (.sl T125))),(9,vI)] [(5,(.own T125 1005 false)),(10,vI)] wW5 wE3 wU9 fun y x=>[ex 2 none tL2 (y.1,(uK2 y x),())]
abbrev vB9:Type:=(Bool × Unit)
abbrev wJ9:Type:=((List D125) × Unit)
def uQ1 (y:vB9) (x:wJ9):Prop × Bool × wJ9 :=
 let a5:=x.1
 let v38:=(bif (!y.1) then (decide ((len a5) > 1)) else false)
 let v42:=(len a5)
 let v43:=(v42 - 1)
 let v50:=(bif v38 then (Ty.eqb T125 (nth a5 v43 Z125) (nth a5 (0:Int) Z125)) else false)
 let v53:=(len a5)
 let v54:=(v53 - 1)
 (((v38 = true → InR (v42 - 1)) ∧ ((v38 = true → InB v43 (len a5)) ∧ ((v38 = true → InB (0:Int) (len a5)) ∧ (v50 = true → (InR (v53 - 1) ∧ (0 ≤ v54 ∧ v54 ≤ len a5)))))),v50,((List.take (Int.toNat v54) a5),()))
def wV (y:vB9) (x:wJ9):Prop:=(uQ1 y x).1
def vC (y:vB9) (x:wJ9):Bool:=(uQ1 y x).2.1
def wG7 (y:vB9) (x:wJ9):wJ9:=(uQ1 y x).2.2
instance (y:vB9) (x:wJ9):Decidable (wV y x):=by
 unfold wV uQ1
 try dsimp only
 infer_instance
def uK4 (y:vB9) (x:wJ9):(List D125) :=
 x.1
def uK5:St → Option Out:=xP3 [(1,vB)] [(5,(.val (.sl T125)))] vC wG7 wV fun y x=>[ex 4 none [(5,(.val (.sl T125)))] ((uK4 y x),())]
def pK (p0:(List D125)) (p1:Bool):Prop × (List D125) :=
 let y3:=(p1,p0,(len p0),())
 let x3:=(([]:List D125),(0:Int),())
 let y8:=(p1,())
 let x8:=((uK2 y3 (zC1 (wW5 y3) (wE3 y3) x3)),())
 (((Am.Ends (wW5 y3) (wE3 y3) (wU9 y3) x3) ∧ (Am.Ends (vC y8) (wG7 y8) (wV y8) x8)),(uK4 y8 (zC1 (vC y8) (wG7 y8) x8)))
def uX1 (p0:(List D125)) (p1:Bool):Prop:=(pK p0 p1).1
def f157 (p0:(List D125)) (p1:Bool):(List D125):=(pK p0 p1).2
instance (p0:(List D125)) (p1:Bool):Decidable (uX1 p0 p1):=by
 unfold uX1 pK
 try dsimp only
 infer_instance
def sB4:Am.Spec:=fnSpec [(0,(.val (.sl T125))),(1,vB)] (.val (.sl T125)) [] (fun x=>uX1 x.1 x.2.1) (fun x=>f157 x.1 x.2.1) (fun _=>())
def tR9:Ctx:=Cx tys [] [(3,uK3),(8,uK5)] [(13,[(4,0,30,1005)])] false 57 [] []
theorem tS:CtxOk Tryz.prog tR9:=xW3 tys_ok rfl trivial rfl (by kernel_rfl)
noncomputable def sB5:Code:=Tryz.f157.body.getD .skip
noncomputable def rO6:Code:=xX2 sB5 0
theorem rG6:yU9 Tryz.prog tR9 rO6:=xY1 tS mixed (sp:=uK3) rfl [tL2] (bs:=[]) (by kernel_rfl) trivial (by kernel_rfl) (by kernel_rfl) fun y x=>by kernel_rfl
noncomputable def rO7:Code:=xX2 sB5 1
theorem rG7:yU9 Tryz.prog tR9 rO7:=xY1 tS mixed (sp:=uK5) rfl [[(5,(.val (.sl T125)))]] (bs:=[]) (by kernel_rfl) trivial (by kernel_rfl) (by kernel_rfl) fun y x=>by kernel_rfl
theorem pK0:SpecOk Tryz.prog 157 sB4:=xY2 tS mixed Tryz.func157 (by kernel_rfl) (bs:=[rO6,rO7]) (by kernel_rfl) ⟨rG6,rG7,trivial⟩ fun x=>by kernel_rfl
def pK1 (p0:D125) (p1:D125):Prop × D125 :=
 (True,((IntKind.wrap .i64 (p0.1 - p1.1)),(IntKind.wrap .i64 (p0.2.1 - p1.2.1)),()))
def wG8 (p0:D125) (p1:D125):Prop:=(pK1 p0 p1).1
def f162 (p0:D125) (p1:D125):D125:=(pK1 p0 p1).2
instance (p0:D125) (p1:D125):Decidable (wG8 p0 p1):=by
 unfold wG8 pK1
 try dsimp only
 infer_instance
def vK2:Am.Spec:=fnSpec [(0,(.val T125)),(1,(.val T125))] (.val T125) [] (fun x=>wG8 x.1 x.2.1) (fun x=>f162 x.1 x.2.1) (fun _=>())
def qI3:Ctx:=Cx tys [] [] [] true 16 [] []
theorem qI4:CtxOk Tryz.prog qI3:=xW3 tys_ok rfl trivial rfl (by kernel_rfl)
theorem tS0:SpecOk Tryz.prog 162 vK2:=xY2 qI4 mixed Tryz.func162 (by kernel_rfl) (bs:=[]) (by kernel_rfl) trivial fun x=>by kernel_rfl
def pK2 (p0:Int) (p1:Int):Prop × (Int × Int × Unit) :=
 let v15:=(xY3 .u64 p0 (4294967295:Int))
 let v17:=(xY4 p0 (32:Int) 64)
 let v19:=(xY3 .u64 p1 (4294967295:Int))
 let v21:=(xY4 p1 (32:Int) 64)
 let v30:=(IntKind.wrap .u64 ((IntKind.wrap .u64 (v17 * v19)) + (xY4 (IntKind.wrap .u64 (v15 * v19)) (32:Int) 64)))
 let v47:=(IntKind.wrap .u64 ((IntKind.wrap .u64 ((IntKind.wrap .u64 (v17 * v21)) + (xY4 v30 (32:Int) 64))) + (xY4 (IntKind.wrap .u64 ((xY3 .u64 v30 (4294967295:Int)) + (IntKind.wrap .u64 (v15 * v21)))) (32:Int) 64)))
 (True,(v47,(IntKind.wrap .u64 (p0 * p1)),()))
def vU9 (p0:Int) (p1:Int):Prop:=(pK2 p0 p1).1
def f187 (p0:Int) (p1:Int):(Int × Int × Unit):=(pK2 p0 p1).2
instance (p0:Int) (p1:Int):Decidable (vU9 p0 p1):=by
 unfold vU9 pK2
 try dsimp only
 infer_instance
def sB6:Am.Spec:=fnSpec [(0,(.val (.int .u64))),(1,(.val (.int .u64)))] (.tup (.cons (.val (.int .u64)) (.cons (.val (.int .u64)) .nl))) [] (fun x=>vU9 x.1 x.2.1) (fun x=>f187 x.1 x.2.1) (fun _=>())
def qI5:Ctx:=Cx tys [] [] [] true 51 [] []
theorem qI6:CtxOk Tryz.prog qI5:=xW3 tys_ok rfl trivial rfl (by kernel_rfl)
theorem pK3:SpecOk Tryz.prog 187 sB6:=xY2 qI6 mixed Tryz.func187 (by kernel_rfl) (bs:=[]) (by kernel_rfl) trivial fun x=>by kernel_rfl
def pK4 (p0:Int):Prop × Int :=
 (True,(bif (decide (p0 < 0)) then (IntKind.wrap .u64 (Int.sub 0 (IntKind.wrap .u64 p0))) else (IntKind.wrap .u64 p0)))
def vK3 (p0:Int):Prop:=(pK4 p0).1
def f188 (p0:Int):Int:=(pK4 p0).2
instance (p0:Int):Decidable (vK3 p0):=by
 unfold vK3 pK4
 try dsimp only
 infer_instance
def sB7:Am.Spec:=fnSpec [(0,vI)] (.val (.int .u64)) [] (fun x=>vK3 x.1) (fun x=>f188 x.1) (fun _=>())
def qI7:Ctx:=Cx tys [] [] [] true 10 [] []
theorem qI8:CtxOk Tryz.prog qI7:=xW3 tys_ok rfl trivial rfl (by kernel_rfl)
theorem pK5:SpecOk Tryz.prog 188 sB7:=xY2 qI8 mixed Tryz.func188 (by kernel_rfl) (bs:=[]) (by kernel_rfl) trivial fun x=>by kernel_rfl
abbrev wW6:Type:=(Int × Int × Unit)
abbrev wQ2:Type:=(Int × Int × Unit)
def uQ2 (y:wW6) (x:wQ2):Prop × Bool × wQ2 :=
 let a5:=y.1
 let a10:=x.1
 let a11:=x.2.1
 let v43:=(a11 != 0)
 let v48:=(ior .u64 a10 a11)
 let v52:=(f187 v48 v48)
 ((v43 = true → (vU9 v48 v48)),v43,((bif (bif (decide (v52.1 < a5)) then true else (bif (v52.1 == a5) then (decide (v52.2.1 ≤ y.2.1)) else false)) then v48 else a10),(xY4 a11 (1:Int) 64),()))
def vC0 (y:wW6) (x:wQ2):Prop:=(uQ2 y x).1
def vZ0 (y:wW6) (x:wQ2):Bool:=(uQ2 y x).2.1
def wQ3 (y:wW6) (x:wQ2):wQ2:=(uQ2 y x).2.2
instance (y:wW6) (x:wQ2):Decidable (vC0 y x):=by
 unfold vC0 uQ2
 try dsimp only
 infer_instance
def uK6 (y:wW6) (x:wQ2):Int :=
 x.1
def uK7:St → Option Out:=xP3 [(5,(.val (.int .u64))),(6,(.val (.int .u64)))] [(10,(.val (.int .u64))),(11,(.val (.int .u64)))] vZ0 wQ3 vC0 fun y x=>[ex 2 none [(10,(.val (.int .u64)))] ((uK6 y x),())]
def pK6 (p0:Int) (p1:Int):Prop × Int :=
 let v15:=(f188 p0)
 let v17:=(f188 p0)
 let v18:=(f187 v15 v17)
 let v23:=(f188 p1)
 let v25:=(f188 p1)
 let v26:=(f187 v23 v25)
 let v34:=(((Int.toNat v18.2.1 + Int.toNat v26.2.1 + Int.toNat (0:Int)) / 18446744073709551616:Nat):Int)
 let y7:=((((Int.toNat v18.1 + Int.toNat v26.1 + Int.toNat v34) % 18446744073709551616:Nat):Int),(((Int.toNat v18.2.1 + Int.toNat v26.2.1 + Int.toNat (0:Int)) % 18446744073709551616:Nat):Int),())
 let x7:=((0:Int),(9223372036854775808:Int),())
 let r7_2_0:=(uK6 y7 (zC1 (vZ0 y7) (wQ3 y7) x7))
 (((vK3 p0) ∧ ((vK3 p0) ∧ ((vU9 v15 v17) ∧ ((vK3 p1) ∧ ((vK3 p1) ∧ ((vU9 v23 v25) ∧ ((0 ≤ (0:Int) ∧ (0:Int) ≤ 1) ∧ ((0 ≤ v34 ∧ v34 ≤ 1) ∧ (Am.Ends (vZ0 y7) (wQ3 y7) (vC0 y7) x7))))))))),(bif (decide (r7_2_0 > 9223372036854775807)) then (9223372036854775807:Int) else (IntKind.wrap .i64 r7_2_0)))
def uG (p0:Int) (p1:Int):Prop:=(pK6 p0 p1).1
def f179 (p0:Int) (p1:Int):Int:=(pK6 p0 p1).2
instance (p0:Int) (p1:Int):Decidable (uG p0 p1):=by
 unfold uG pK6
 try dsimp only
 infer_instance
def uX2:Am.Spec:=fnSpec [(0,vI),(1,vI)] vI [] (fun x=>uG x.1 x.2.1) (fun x=>f179 x.1 x.2.1) (fun _=>())
def sV4:Ctx:={ Cx tys [(187,sB6),(188,sB7)] [(7,uK7)] [] true 73 [] [] with exts:=[(189,yX6)] }
theorem sV5:CtxOk Tryz.prog sV4:=xV tys_ok rfl ⟨pK3,pK5,trivial⟩ ⟨x189_ok,trivial⟩ (by kernel_rfl)
noncomputable def rO8:Code:=Tryz.f179.body.getD .skip
noncomputable def rO9:Code:=xX2 rO8 0
theorem rG8:yU9 Tryz.prog sV4 rO9:=xY1 sV5 mixed (sp:=uK7) rfl [[(10,(.val (.int .u64)))]] (bs:=[]) (by kernel_rfl) trivial (by kernel_rfl) (by kernel_rfl) fun y x=>by kernel_rfl
theorem rP:SpecOk Tryz.prog 179 uX2:=xY2 sV5 mixed Tryz.func179 (by kernel_rfl) (bs:=[rO9]) (by kernel_rfl) ⟨rG8,trivial⟩ fun x=>by kernel_rfl
def pK7 (p0:D125) (p1:D125) (p2:Int):Prop × D205 :=
 let v11:=(f162 p1 p0)
 let v14:=(IntKind.wrap .i64 (16 * v11.1))
 let v17:=(IntKind.wrap .i64 (16 * v11.2.1))
 let v18:=(f179 v14 v17)
 let v26:=(IntKind.wrap .i64 ((IntKind.wrap .i64 ((-8) * p2)) * v11.2.1))
 let v33:=(IntKind.wrap .i64 ((IntKind.wrap .i64 (8 * p2)) * v11.1))
 let v41:=(IntKind.wrap .i64 ((IntKind.wrap .i64 (8 * p2)) * v11.1))
 let v48:=(IntKind.wrap .i64 ((IntKind.wrap .i64 (8 * p2)) * v11.2.1))
 (((wG8 p1 p0) ∧ ((uG v14 v17) ∧ ((wA8 v26 v18) ∧ ((wA8 v33 v18) ∧ ((wA8 v41 v18) ∧ (wA8 v48 v18)))))),(p0,p1,v11,((f108 v26 v18),(f108 v33 v18),()),((f108 v41 v18),(f108 v48 v18),()),()))
def uG0 (p0:D125) (p1:D125) (p2:Int):Prop:=(pK7 p0 p1 p2).1
def f175 (p0:D125) (p1:D125) (p2:Int):D205:=(pK7 p0 p1 p2).2
instance (p0:D125) (p1:D125) (p2:Int):Decidable (uG0 p0 p1 p2):=by
 unfold uG0 pK7
 try dsimp only
 infer_instance
def sB8:Am.Spec:=fnSpec [(0,(.val T125)),(1,(.val T125)),(2,vI)] (.val T205) [] (fun x=>uG0 x.1 x.2.1 x.2.2.1) (fun x=>f175 x.1 x.2.1 x.2.2.1) (fun _=>())
def qI9:Ctx:=Cx tys [(108,wE9),(162,vK2),(179,uX2)] [] [] true 53 [] []
theorem qJ:CtxOk Tryz.prog qI9:=xW3 tys_ok rfl ⟨wW1,tS0,rP,trivial⟩ rfl (by kernel_rfl)
theorem pK8:SpecOk Tryz.prog 175 sB8:=xY2 qJ mixed Tryz.func175 (by kernel_rfl) (bs:=[]) (by kernel_rfl) trivial fun x=>by kernel_rfl
abbrev vC1:Type:=((List D125) × Bool × Int × Unit)
abbrev wQ4:Type:=((List D205) × Int × Unit)
def vZ1 (y:vC1) (x:wQ4):Prop × Bool × wQ4 :=
 let a0:=y.1
 let a2:=y.2.2.1
 let a7:=x.1
 let a8:=x.2.1
 let v12:=(decide (a8 < (len a0)))
 let v18:=(a8 - 1)
 let v19:=(nth a0 v18 Z125)
 let v23:=(nth a0 a8 Z125)
 let v27:=([(f175 v19 v23 a2)]:List D205)
 ((v12 = true → (InR (a8 - 1) ∧ (InB v18 (len a0) ∧ (InB a8 (len a0) ∧ ((uG0 v19 v23 a2) ∧ (((List.length a7 + List.length v27:Nat):Int) ≤ 4294967296 ∧ InR (a8 + 1))))))),v12,((a7 ++ v27),(a8 + 1),()))
def wV0 (y:vC1) (x:wQ4):Prop:=(vZ1 y x).1
def vC2 (y:vC1) (x:wQ4):Bool:=(vZ1 y x).2.1
def wG9 (y:vC1) (x:wQ4):wQ4:=(vZ1 y x).2.2
instance (y:vC1) (x:wQ4):Decidable (wV0 y x):=by
 unfold wV0 vZ1
 try dsimp only
 infer_instance
def wY0 (y:vC1) (x:wQ4):(List D205) :=
 x.1
def tL3:List (Nat × Sh):=[(0,(.val (.sl T125))),(1,vB),(2,vI),(7,(.own T205 1007 false))]
def uK8:St → Option Out:=xP3 [(0,(.val (.sl T125))),(1,vB),(2,vI)] [(7,(.own T205 1007 false)),(8,vI)] vC2 wG9 wV0 fun y x=>[ex 2 none tL3 (y.1,y.2.1,y.2.2.1,(wY0 y x),())]
def qJ0 (p0:(List D125)) (p1:Bool) (p2:Int):Prop × (List D205) :=
 let y3:=(p0,p1,p2,())
 let x3:=(([]:List D205),(1:Int),())
 let r3_2_0:=(wY0 y3 (zC1 (vC2 y3) (wG9 y3) x3))
 let v35:=(bif (!p1) then (decide ((len p0) > 1)) else false)
 let v39:=(len p0)
 let v40:=(v39 - 1)
 let v41:=(nth p0 v40 Z125)
 let v44:=(nth p0 (0:Int) Z125)
 let v48:=([(f175 v41 v44 p2)]:List D205)
 (((Am.Ends (vC2 y3) (wG9 y3) (wV0 y3) x3) ∧ (v35 = true → (InR (v39 - 1) ∧ (InB v40 (len p0) ∧ (InB (0:Int) (len p0) ∧ ((uG0 v41 v44 p2) ∧ ((List.length r3_2_0 + List.length v48:Nat):Int) ≤ 4294967296)))))),(bif v35 then (r3_2_0 ++ v48) else r3_2_0))
def uX3 (p0:(List D125)) (p1:Bool) (p2:Int):Prop:=(qJ0 p0 p1 p2).1
def f158 (p0:(List D125)) (p1:Bool) (p2:Int):(List D205):=(qJ0 p0 p1 p2).2
instance (p0:(List D125)) (p1:Bool) (p2:Int):Decidable (uX3 p0 p1 p2):=by
 unfold uX3 qJ0
 try dsimp only
 infer_instance
def sB9:Am.Spec:=fnSpec [(0,(.val (.sl T125))),(1,vB),(2,vI)] (.own T205 0 false) [] (fun x=>uX3 x.1 x.2.1 x.2.2.1) (fun x=>f158 x.1 x.2.1 x.2.2.1) (fun _=>())
def sV6:Ctx:=Cx tys [(175,sB8)] [(3,uK8)] [(11,[(4,0,28,1007)]),(15,[(4,0,49,1007)]),(17,[(4,0,1007,0)])] false 51 [] []
theorem sV7:CtxOk Tryz.prog sV6:=xW3 tys_ok rfl ⟨pK8,trivial⟩ rfl (by kernel_rfl)
noncomputable def rP0:Code:=Tryz.f158.body.getD .skip
noncomputable def rP1:Code:=xX2 rP0 0
theorem rG9:yU9 Tryz.prog sV6 rP1:=xY1 sV7 mixed (sp:=uK8) rfl [tL3] (bs:=[]) (by kernel_rfl) trivial (by kernel_rfl) (by kernel_rfl) fun y x=>by kernel_rfl
theorem pK9:SpecOk Tryz.prog 158 sB9:=xY2 sV7 mixed Tryz.func158 (by kernel_rfl) (bs:=[rP1]) (by kernel_rfl) ⟨rG9,trivial⟩ fun x=>by kernel_rfl
abbrev vC3:Type:=((List D125) × (List D125) × Int × Unit)
abbrev wQ5:Type:=(Int × Int × Unit)
def vZ2 (y:vC3) (x:wQ5):Prop × Bool × wQ5 :=
 let a0:=y.1
 let a7:=y.2.1
 let a9:=x.2.1
 let v10:=(decide (a9 < y.2.2.1))
 let v12:=(nth a7 a9 Z125)
 let v18:=(len a0)
 let v19:=(Int.tmod (IntKind.wrap .i64 (a9 + 1)) v18)
 let v20:=(nth a0 v19 Z125)
 ((v10 = true → (InB a9 (len a7) ∧ (v18 ≠ 0 ∧ InB v19 (len a0)))),v10,((IntKind.wrap .i64 (x.1 + (IntKind.wrap .i64 ((IntKind.wrap .i64 (v12.1 * v20.2.1)) - (IntKind.wrap .i64 (v20.1 * v12.2.1)))))),(IntKind.wrap .i64 (a9 + 1)),()))
def vP1 (y:vC3) (x:wQ5):Prop:=(vZ2 y x).1
def uX4 (y:vC3) (x:wQ5):Bool:=(vZ2 y x).2.1
def wY1 (y:vC3) (x:wQ5):wQ5:=(vZ2 y x).2.2
instance (y:vC3) (x:wQ5):Decidable (vP1 y x):=by
 unfold vP1 vZ2
 try dsimp only
 infer_instance
def uK9 (y:vC3) (x:wQ5):Int :=
 x.1
def uL:St → Option Out:=xP3 [(0,(.val (.sl T125))),(7,(.val (.sl T125))),(8,vI)] [(3,vI),(9,vI)] uX4 wY1 vP1 fun y x=>[ex 2 none [(3,vI)] ((uK9 y x),())]
def pL (p0:(List D125)):Prop × Int :=
 let y3:=(p0,p0,(len p0),())
 let x3:=((0:Int),(0:Int),())
 ((Am.Ends (uX4 y3) (wY1 y3) (vP1 y3) x3),(uK9 y3 (zC1 (uX4 y3) (wY1 y3) x3)))
def uX5 (p0:(List D125)):Prop:=(pL p0).1
def f177 (p0:(List D125)):Int:=(pL p0).2
instance (p0:(List D125)):Decidable (uX5 p0):=by
 unfold uX5 pL
 try dsimp only
 infer_instance
def sC:Am.Spec:=fnSpec [(0,(.val (.sl T125)))] vI [] (fun x=>uX5 x.1) (fun x=>f177 x.1) (fun _=>())
def sV8:Ctx:=Cx tys [] [(3,uL)] [] true 37 [] []
theorem sV9:CtxOk Tryz.prog sV8:=xW3 tys_ok rfl trivial rfl (by kernel_rfl)
noncomputable def rP2:Code:=Tryz.f177.body.getD .skip
noncomputable def rP3:Code:=xX2 rP2 0
theorem rH:yU9 Tryz.prog sV8 rP3:=xY1 sV9 mixed (sp:=uL) rfl [[(3,vI)]] (bs:=[]) (by kernel_rfl) trivial (by kernel_rfl) (by kernel_rfl) fun y x=>by kernel_rfl
theorem pL0:SpecOk Tryz.prog 177 sC:=xY2 sV9 mixed Tryz.func177 (by kernel_rfl) (bs:=[rP3]) (by kernel_rfl) ⟨rH,trivial⟩ fun x=>by kernel_rfl
def f178 (_p0:(List D125)):Unit:=()
def sW (p0:(List D125)):(List D125) × Unit:=(List.reverse p0,())
def sL0 (_p0:(List D125)):Prop:=True
instance (p0:(List D125)):Decidable (sL0 p0):=isTrue trivial
def pL1:List (Nat × Sh):=[(0,(.own T125 400000 true))]
def pL2:Sh:=(.tup .nl)
def pL3:List (Nat × Sh):=[(0,(.own T125 400000 true))]
def sC0:Am.Spec:=fnSpec pL1 pL2 pL3 (fun x=>sL0 x.1) (fun x=>f178 x.1) (fun x=>sW x.1)
theorem pL4:SpecOk Tryz.prog 178 sC0:=spec_rev (by decide) rfl ⟨_,Tryz.func178,by kernel_rfl,by decide⟩ rev_ok
def pL5 (p0:D125) (p1:D125):Prop × D125 :=
 (True,((IntKind.wrap .i64 (p0.1 + p1.1)),(IntKind.wrap .i64 (p0.2.1 + p1.2.1)),()))
def wD (p0:D125) (p1:D125):Prop:=(pL5 p0 p1).1
def f161 (p0:D125) (p1:D125):D125:=(pL5 p0 p1).2
instance (p0:D125) (p1:D125):Decidable (wD p0 p1):=by
 unfold wD pL5
 try dsimp only
 infer_instance
def vC4:Am.Spec:=fnSpec [(0,(.val T125)),(1,(.val T125))] (.val T125) [] (fun x=>wD x.1 x.2.1) (fun x=>f161 x.1 x.2.1) (fun _=>())
def qJ1:Ctx:=Cx tys [] [] [] true 16 [] []
theorem qJ2:CtxOk Tryz.prog qJ1:=xW3 tys_ok rfl trivial rfl (by kernel_rfl)
theorem uX6:SpecOk Tryz.prog 161 vC4:=xY2 qJ2 mixed Tryz.func161 (by kernel_rfl) (bs:=[]) (by kernel_rfl) trivial fun x=>by kernel_rfl
def pL6 (p0:Int):Prop × Int :=
 let v5:=(IntKind.wrap .i64 (Int.tdiv p0 (256:Int)))
 let v7:=(decide (v5 ≥ 64))
 let v14:=(IntKind.wrap .i64 (v5 + 1))
 let v25:=(IntKind.wrap .i64 ((IntKind.wrap .i64 ((nth G5 v14 (0:Int)) - (nth G5 v5 (0:Int)))) * (IntKind.wrap .i64 (p0 - (IntKind.wrap .i64 (256 * v5))))))
 (((v7 = true → InB (64:Int) 65) ∧ ((!v7) = true → (InB v5 65 ∧ (InB v14 65 ∧ (InB v5 65 ∧ (wA8 v25 (256:Int))))))),(bif v7 then (nth G5 (64:Int) (0:Int)) else (IntKind.wrap .i64 ((nth G5 v5 (0:Int)) + (f108 v25 (256:Int))))))
def vK4 (p0:Int):Prop:=(pL6 p0).1
def f202 (p0:Int):Int:=(pL6 p0).2
instance (p0:Int):Decidable (vK4 p0):=by
 unfold vK4 pL6
 try dsimp only
 infer_instance
def sC1:Am.Spec:=fnSpec [(0,vI)] vI [] (fun x=>vK4 x.1) (fun x=>f202 x.1) (fun _=>())
def qJ3:Ctx:=Cx tys [(108,wE9)] [] [] true 28 [] []
theorem qJ4:CtxOk Tryz.prog qJ3:=xW3 tys_ok rfl ⟨wW1,trivial⟩ rfl (by kernel_rfl)
theorem pL7:SpecOk Tryz.prog 202 sC1:=xY2 qJ4 mixed Tryz.func202 (by kernel_rfl) (bs:=[]) (by kernel_rfl) trivial fun x=>by kernel_rfl
def qJ5 (p0:Int):Prop × Int :=
 let v6:=(IntKind.wrap .i64 (Int.tdiv p0 (16384:Int)))
 let v10:=(IntKind.wrap .i64 (p0 - (IntKind.wrap .i64 (16384 * v6))))
 let v13:=(v6 == 0)
 let v17:=(v6 == 1)
 let v19:=(IntKind.wrap .i64 (16384 - v10))
 let v22:=(v6 == 2)
 let v27:=(IntKind.wrap .i64 (16384 - v10))
 let m2_2:=(bif (bif v13 then true else (bif v17 then true else v22)) then (bif v13 then (f202 v10) else (bif v17 then (f202 v19) else (IntKind.wrap .i64 (Int.sub 0 (f202 v10))))) else (IntKind.wrap .i64 (Int.sub 0 (f202 v27))))
 (((v13 = true → (vK4 v10)) ∧ ((v13 = false → ((v17 = true → (vK4 v19)) ∧ (v17 = false → (v22 = true → (vK4 v10))))) ∧ ((((!v22) && (!v17)) && (!v13)) = true → (vK4 v27)))),m2_2)
def vK5 (p0:Int):Prop:=(qJ5 p0).1
def f197 (p0:Int):Int:=(qJ5 p0).2
instance (p0:Int):Decidable (vK5 p0):=by
 unfold vK5 qJ5
 try dsimp only
 infer_instance
def sC2:Am.Spec:=fnSpec [(0,vI)] vI [] (fun x=>vK5 x.1) (fun x=>f197 x.1) (fun _=>())
def qJ6:Ctx:=Cx tys [(202,sC1)] [] [] true 30 [] []
theorem qJ7:CtxOk Tryz.prog qJ6:=xW3 tys_ok rfl ⟨pL7,trivial⟩ rfl (by kernel_rfl)
theorem pL8:SpecOk Tryz.prog 197 sC2:=xY2 qJ7 mixed Tryz.func197 (by kernel_rfl) (bs:=[]) (by kernel_rfl) trivial fun x=>by kernel_rfl
def pL9 (p0:Int):Prop × (Int × Int × Unit) :=
 let v6:=(xY3 .i64 p0 (65535:Int))
 let v11:=(Int.tmod (IntKind.wrap .i64 (v6 + 16384)) (65536:Int))
 (((vK5 v6) ∧ (vK5 v11)),((f197 v6),(f197 v11),()))
def uX7 (p0:Int):Prop:=(pL9 p0).1
def f186 (p0:Int):(Int × Int × Unit):=(pL9 p0).2
instance (p0:Int):Decidable (uX7 p0):=by
 unfold uX7 pL9
 try dsimp only
 infer_instance
def sC3:Am.Spec:=fnSpec [(0,vI)] (.tup (.cons vI (.cons vI .nl))) [] (fun x=>uX7 x.1) (fun x=>f186 x.1) (fun _=>())
def qJ8:Ctx:=Cx tys [(197,sC2)] [] [] true 13 [] []
theorem qJ9:CtxOk Tryz.prog qJ8:=xW3 tys_ok rfl ⟨pL8,trivial⟩ rfl (by kernel_rfl)
theorem pM:SpecOk Tryz.prog 186 sC3:=xY2 qJ9 mixed Tryz.func186 (by kernel_rfl) (bs:=[]) (by kernel_rfl) trivial fun x=>by kernel_rfl
abbrev vC5:Type:=(Int × D125 × Int × Unit)
abbrev wQ6:Type:=((List D125) × Int × Unit)
def vZ3 (y:vC5) (x:wQ6):Prop × Bool × wQ6 :=
 let a1:=y.1
 let a2:=y.2.1
 let a5:=x.1
 let a12:=x.2.1
 let v13:=(decide (a12 < y.2.2.1))
 let v17:=(IntKind.wrap .i64 (4096 * a12))
 let v18:=(f186 v17)
 let v26:=(IntKind.wrap .i64 (a1 * v18.2.1))
 let v30:=(IntKind.wrap .i64 (a1 * v18.1))
 let s:=((f108 v26 (131072:Int)),(f108 v30 (131072:Int)),())
 ((v13 = true → ((uX7 v17) ∧ ((wA8 v26 (131072:Int)) ∧ ((wA8 v30 (131072:Int)) ∧ ((wD a2 s) ∧ (InB a12 (len a5) ∧ a12 < len a5)))))),v13,((List.set a5 (Int.toNat a12) (f161 a2 s)),(IntKind.wrap .i64 (a12 + 1)),()))
def wV1 (y:vC5) (x:wQ6):Prop:=(vZ3 y x).1
def vC6 (y:vC5) (x:wQ6):Bool:=(vZ3 y x).2.1
def wH (y:vC5) (x:wQ6):wQ6:=(vZ3 y x).2.2
instance (y:vC5) (x:wQ6):Decidable (wV1 y x):=by
 unfold wV1 vZ3
 try dsimp only
 infer_instance
def vK6 (y:vC5) (x:wQ6):(List D125) :=
 x.1
def uL0:St → Option Out:=xP3 [(1,vI),(2,(.box T125 (.val T125))),(11,vI)] [(5,(.own T125 1005 true)),(12,vI)] vC6 wH wV1 fun y x=>[ex 2 none [(5,(.own T125 1005 true))] ((vK6 y x),())]
def qK (p0:D125) (p1:Int):Prop × (List D125) :=
 let v9:=(List.replicate (Int.toNat (16:Int)) Z125)
 let y3:=(p1,p0,(len v9),())
 let x3:=(v9,(0:Int),())
 (((0 ≤ (16:Int) ∧ (16:Int) ≤ (16:Int) ∧ (16:Int) ≤ 4294967296) ∧ (Am.Ends (vC6 y3) (wH y3) (wV1 y3) x3)),(vK6 y3 (zC1 (vC6 y3) (wH y3) x3)))
def vK7 (p0:D125) (p1:Int):Prop:=(qK p0 p1).1
def f176 (p0:D125) (p1:Int):(List D125):=(qK p0 p1).2
instance (p0:D125) (p1:Int):Decidable (vK7 p0 p1):=by
 unfold vK7 qK
 try dsimp only
 infer_instance
def vZ4:Am.Spec:=fnSpec [(0,(.val T125)),(1,vI)] (.own T125 0 true) [] (fun x=>vK7 x.1 x.2.1) (fun x=>f176 x.1 x.2.1) (fun _=>())
def sW0:Ctx:=Cx tys [(108,wE9),(161,vC4),(186,sC3)] [(3,uL0)] [(3,[(4,0,9,1005)]),(17,[(4,0,1005,0)])] true 37 [] [9]
theorem sW1:CtxOk Tryz.prog sW0:=xW3 tys_ok rfl ⟨wW1,uX6,pM,trivial⟩ rfl (by kernel_rfl)
noncomputable def rP4:Code:=Tryz.f176.body.getD .skip
noncomputable def rP5:Code:=xX2 rP4 0
theorem rH0:yU9 Tryz.prog sW0 rP5:=xY1 sW1 mixed (sp:=uL0) rfl [[(5,(.own T125 1005 true))]] (bs:=[]) (by kernel_rfl) trivial (by kernel_rfl) (by kernel_rfl) fun y x=>by kernel_rfl
theorem sL1:SpecOk Tryz.prog 176 vZ4:=xY2 sW1 mixed Tryz.func176 (by kernel_rfl) (bs:=[rP5]) (by kernel_rfl) ⟨rH0,trivial⟩ fun x=>by kernel_rfl
def vZ5 (p0:(Int × Int × Int × (List (List D125)) × Int × Unit)) (p1:(List D125)):Prop × (Unit) × ((Int × Int × Int × (List (List D125)) × Int × Unit) × Unit) :=
 let v6:=(f177 p1)
 let v8:=(v6 == 0)
 let v10:=(decide (v6 < 0))
 let m1:=(bif v10 then (sW p1).1 else p1)
 let v19:=([m1]:List (List D125))
 let s:=((bif v8 then p0.1 else p0.1),(bif v8 then p0.2.1 else p0.2.1),(bif v8 then p0.2.2.1 else p0.2.2.1),(bif v8 then p0.2.2.2.1 else (p0.2.2.2.1 ++ v19)),(bif v8 then p0.2.2.2.2.1 else (IntKind.wrap .i64 (p0.2.2.2.2.1 + (len m1)))),())
 (((uX5 p1) ∧ ((!v8) = true → ((v10 = true → ((sL0 p1) ∧ (0 < List.length p1 ∧ (List.length p1 = List.length p1 ∧ (List.length p1 = List.length p1 ∧ List.length p1 = List.length p1))))) ∧ ((List.length p0.2.2.2.1 + List.length v19:Nat):Int) ≤ 4294967296))),(),(s,()))
def xZ3 (p0:(Int × Int × Int × (List (List D125)) × Int × Unit)) (p1:(List D125)):Prop:=(vZ5 p0 p1).1
def pM0 (p0:(Int × Int × Int × (List (List D125)) × Int × Unit)) (p1:(List D125)):(Unit):=(vZ5 p0 p1).2.1
def xY8 (p0:(Int × Int × Int × (List (List D125)) × Int × Unit)) (p1:(List D125)):((Int × Int × Int × (List (List D125)) × Int × Unit) × Unit):=(vZ5 p0 p1).2.2
instance (p0:(Int × Int × Int × (List (List D125)) × Int × Unit)) (p1:(List D125)):Decidable (xZ3 p0 p1):=by
 unfold xZ3 vZ5
 try dsimp only
 infer_instance
def wQ7:Am.Spec:=fnSpec [(0,(.box T179 (.agg (.cons (.int .i64) (.cons (.int .i64) (.cons (.int .i64) (.cons (.sl (.sl T125)) (.cons (.int .i64) .nl))))) (.cons vI (.cons vI (.cons vI (.cons (.own (.sl T125) 400000 false) (.cons vI .nl)))))))),(1,(.own T125 400100 true))] (.tup .nl) [(0,(.box T179 (.agg (.cons (.int .i64) (.cons (.int .i64) (.cons (.int .i64) (.cons (.sl (.sl T125)) (.cons (.int .i64) .nl))))) (.cons vI (.cons vI (.cons vI (.cons (.own (.sl T125) 400000 false) (.cons vI .nl))))))))] (fun x=>xZ3 x.1 x.2.1) (fun x=>pM0 x.1 x.2.1) (fun x=>xY8 x.1 x.2.1)
def sL2:Ctx:={ Cx tys [(177,sC),(178,sC0)] [] [(8,[(1,1,0,0)]),(9,[(4,0,20,400000)])] true 32 [0] [] with wants:=[(178,[0])] }
theorem sL3:CtxOk Tryz.prog sL2:=xW3 tys_ok rfl ⟨pL0,pL4,trivial⟩ rfl (by kernel_rfl)
theorem vP2:SpecOk Tryz.prog 160 wQ7:=xY2 sL3 mixed Tryz.func160 (by kernel_rfl) (bs:=[]) (by kernel_rfl) trivial fun x=>by kernel_rfl
def vZ6 (p0:(Int × Int × Int × (List (List D125)) × Int × Unit)) (p1:D125):Prop × (Unit) × ((Int × Int × Int × (List (List D125)) × Int × Unit) × Unit) :=
 let v10:=(p0.2.2.1 == 1)
 let v17:=(f176 p1 p0.1)
 let s_1:=(p0.1,p0.2.1,p0.2.2.1,p0.2.2.2.1,p0.2.2.2.2.1,())
 let v18o:=(xY8 s_1 v17)
 let v20:=(p0.2.2.1 == 2)
 let v25:=(f108 p0.1 (2:Int))
 let s_2:=((IntKind.wrap .i64 (Int.sub 0 v25)),(IntKind.wrap .i64 (Int.sub 0 v25)),())
 let s_3:=(v25,(IntKind.wrap .i64 (Int.sub 0 v25)),())
 let s_4:=(v25,v25,())
 let s_5:=((IntKind.wrap .i64 (Int.sub 0 v25)),v25,())
 let v51:=([(f161 p1 s_2),(f161 p1 s_3),(f161 p1 s_4),(f161 p1 s_5)]:List D125)
 let s_7:=(p0.1,p0.2.1,p0.2.2.1,p0.2.2.2.1,p0.2.2.2.2.1,())
 let v52o:=(xY8 s_7 v51)
 let s_8:=((bif v10 then v18o.1.1 else (bif v20 then v52o.1.1 else p0.1)),(bif v10 then v18o.1.2.1 else (bif v20 then v52o.1.2.1 else p0.2.1)),(bif v10 then v18o.1.2.2.1 else (bif v20 then v52o.1.2.2.1 else p0.2.2.1)),(bif v10 then v18o.1.2.2.2.1 else (bif v20 then v52o.1.2.2.2.1 else p0.2.2.2.1)),(bif v10 then v18o.1.2.2.2.2.1 else (bif v20 then v52o.1.2.2.2.2.1 else p0.2.2.2.2.1)),())
 (((v10 = true → ((vK7 p1 p0.1) ∧ (xZ3 s_1 v17))) ∧ (v10 = false → (v20 = true → ((wA8 p0.1 (2:Int)) ∧ ((wD p1 s_2) ∧ ((wD p1 s_3) ∧ ((wD p1 s_4) ∧ ((wD p1 s_5) ∧ (xZ3 s_7 v51))))))))),(),(s_8,()))
def vC7 (p0:(Int × Int × Int × (List (List D125)) × Int × Unit)) (p1:D125):Prop:=(vZ6 p0 p1).1
def pM1 (p0:(Int × Int × Int × (List (List D125)) × Int × Unit)) (p1:D125):(Unit):=(vZ6 p0 p1).2.1
def vZ7 (p0:(Int × Int × Int × (List (List D125)) × Int × Unit)) (p1:D125):((Int × Int × Int × (List (List D125)) × Int × Unit) × Unit):=(vZ6 p0 p1).2.2
instance (p0:(Int × Int × Int × (List (List D125)) × Int × Unit)) (p1:D125):Decidable (vC7 p0 p1):=by
 unfold vC7 vZ6
 try dsimp only
 infer_instance
def uL1:Am.Spec:=fnSpec [(0,(.box T179 (.agg (.cons (.int .i64) (.cons (.int .i64) (.cons (.int .i64) (.cons (.sl (.sl T125)) (.cons (.int .i64) .nl))))) (.cons vI (.cons vI (.cons vI (.cons (.own (.sl T125) 400000 false) (.cons vI .nl)))))))),(1,(.val T125))] (.tup .nl) [(0,(.box T179 (.agg (.cons (.int .i64) (.cons (.int .i64) (.cons (.int .i64) (.cons (.sl (.sl T125)) (.cons (.int .i64) .nl))))) (.cons vI (.cons vI (.cons vI (.cons (.own (.sl T125) 400000 false) (.cons vI .nl))))))))] (fun x=>vC7 x.1 x.2.1) (fun x=>pM1 x.1 x.2.1) (fun x=>vZ7 x.1 x.2.1)
def sL4:Ctx:={ Cx tys [(108,wE9),(160,wQ7),(161,vC4),(176,vZ4)] [] [] true 53 [0] [51] with wants:=[(160,[1])] }
theorem sL5:CtxOk Tryz.prog sL4:=xW3 tys_ok rfl ⟨wW1,vP2,uX6,sL1,trivial⟩ rfl (by kernel_rfl)
theorem rH1:SpecOk Tryz.prog 159 uL1:=xY2 sL5 mixed Tryz.func159 (by kernel_rfl) (bs:=[]) (by kernel_rfl) trivial fun x=>by kernel_rfl
def vZ8 (p0:(Int × Int × Int × (List (List D125)) × Int × Unit)) (p1:D205) (p2:D205):Prop × (Unit) × ((Int × Int × Int × (List (List D125)) × Int × Unit) × Unit) :=
 let v23:=(p0.2.1 == 1)
 let v30:=(f176 p2.1 p0.1)
 let s_1:=(p0.1,p0.2.1,p0.2.2.1,p0.2.2.2.1,p0.2.2.2.2.1,())
 let v31o:=(xY8 s_1 v30)
 let v40:=([p2.1,(f161 p2.1 p1.2.2.2.1),(f161 p2.1 p2.2.2.2.1)]:List D125)
 let s_3:=(p0.1,p0.2.1,p0.2.2.1,p0.2.2.2.1,p0.2.2.2.2.1,())
 let v41o:=(xY8 s_3 v40)
 let v50:=([p2.1,(f162 p2.1 p1.2.2.2.1),(f162 p2.1 p2.2.2.2.1)]:List D125)
 let s_5:=(v41o.1.1,v41o.1.2.1,v41o.1.2.2.1,v41o.1.2.2.2.1,v41o.1.2.2.2.2.1,())
 let v51o:=(xY8 s_5 v50)
 let v66:=(IntKind.wrap .i64 ((IntKind.wrap .i64 (p1.2.2.1.1 * p2.2.2.1.2.1)) - (IntKind.wrap .i64 (p1.2.2.1.2.1 * p2.2.2.1.1))))
 let v75:=(IntKind.wrap .i64 (v51o.1.1 * v51o.1.1))
 let v89:=(IntKind.wrap .i64 (v75 + (IntKind.wrap .i64 (4 * (IntKind.wrap .i64 ((IntKind.wrap .i64 (p1.2.2.2.1.1 * p2.2.2.2.1.1)) + (IntKind.wrap .i64 (p1.2.2.2.1.2.1 * p2.2.2.2.1.2.1))))))))
 let v102:=(bif (bif (v51o.1.2.1 == 2) then true else (v66 == 0)) then true else (decide (v89 ≤ 0)))
 let v109:=(IntKind.wrap .i64 (v75 * (IntKind.wrap .i64 (p1.2.2.2.1.1 + p2.2.2.2.1.1))))
 let v111:=(f108 v109 v89)
 let v118:=(IntKind.wrap .i64 (v75 * (IntKind.wrap .i64 (p1.2.2.2.1.2.1 + p2.2.2.2.1.2.1))))
 let v120:=(f108 v118 v89)
 let s_6:=(v111,v120,())
 let v132:=(decide ((f179 v111 v120) > (IntKind.wrap .i64 (4 * v51o.1.1))))
 let v134:=(decide (v66 > 0))
 let v146:=([p2.1,(f162 p2.1 p1.2.2.2.1),(f162 p2.1 s_6),(f162 p2.1 p2.2.2.2.1)]:List D125)
 let s_8:=(v51o.1.1,v51o.1.2.1,v51o.1.2.2.1,v51o.1.2.2.2.1,v51o.1.2.2.2.2.1,())
 let v147o:=(xY8 s_8 v146)
 let v159:=([p2.1,(f161 p2.1 p1.2.2.2.1),(f161 p2.1 s_6),(f161 p2.1 p2.2.2.2.1)]:List D125)
 let s_10:=(v51o.1.1,v51o.1.2.1,v51o.1.2.2.1,v51o.1.2.2.2.1,v51o.1.2.2.2.2.1,())
 let v160o:=(xY8 s_10 v159)
 let c_5:=(v23 || ((!v23) && (v102 || ((!v102) && v132))))
 let s_11:=((bif c_5 then (bif v23 then v31o.1.1 else v51o.1.1) else (bif v134 then v147o.1.1 else v160o.1.1)),(bif c_5 then (bif v23 then v31o.1.2.1 else v51o.1.2.1) else (bif v134 then v147o.1.2.1 else v160o.1.2.1)),(bif c_5 then (bif v23 then v31o.1.2.2.1 else v51o.1.2.2.1) else (bif v134 then v147o.1.2.2.1 else v160o.1.2.2.1)),(bif c_5 then (bif v23 then v31o.1.2.2.2.1 else v51o.1.2.2.2.1) else (bif v134 then v147o.1.2.2.2.1 else v160o.1.2.2.2.1)),(bif c_5 then (bif v23 then v31o.1.2.2.2.2.1 else v51o.1.2.2.2.2.1) else (bif v134 then v147o.1.2.2.2.2.1 else v160o.1.2.2.2.2.1)),())
 (((v23 = true → ((vK7 p2.1 p0.1) ∧ (xZ3 s_1 v30))) ∧ ((!v23) = true → ((wD p2.1 p1.2.2.2.1) ∧ ((wD p2.1 p2.2.2.2.1) ∧ ((xZ3 s_3 v40) ∧ ((wG8 p2.1 p1.2.2.2.1) ∧ ((wG8 p2.1 p2.2.2.2.1) ∧ ((xZ3 s_5 v50) ∧ ((!v102) = true → ((wA8 v109 v89) ∧ ((wA8 v118 v89) ∧ ((uG v111 v120) ∧ ((!v132) = true → ((v134 = true → ((wG8 p2.1 p1.2.2.2.1) ∧ ((wG8 p2.1 s_6) ∧ ((wG8 p2.1 p2.2.2.2.1) ∧ (xZ3 s_8 v146))))) ∧ (v134 = false → ((wD p2.1 p1.2.2.2.1) ∧ ((wD p2.1 s_6) ∧ ((wD p2.1 p2.2.2.2.1) ∧ (xZ3 s_10 v159))))))))))))))))))),(),(s_11,()))
def wL8 (p0:(Int × Int × Int × (List (List D125)) × Int × Unit)) (p1:D205) (p2:D205):Prop:=(vZ8 p0 p1 p2).1
def pM2 (p0:(Int × Int × Int × (List (List D125)) × Int × Unit)) (p1:D205) (p2:D205):(Unit):=(vZ8 p0 p1 p2).2.1
def wM8 (p0:(Int × Int × Int × (List (List D125)) × Int × Unit)) (p1:D205) (p2:D205):((Int × Int × Int × (List (List D125)) × Int × Unit) × Unit):=(vZ8 p0 p1 p2).2.2
instance (p0:(Int × Int × Int × (List (List D125)) × Int × Unit)) (p1:D205) (p2:D205):Decidable (wL8 p0 p1 p2):=by
 unfold wL8 vZ8
 try dsimp only
 infer_instance
def uL2:Am.Spec:=fnSpec [(0,(.box T179 (.agg (.cons (.int .i64) (.cons (.int .i64) (.cons (.int .i64) (.cons (.sl (.sl T125)) (.cons (.int .i64) .nl))))) (.cons vI (.cons vI (.cons vI (.cons (.own (.sl T125) 400000 false) (.cons vI .nl)))))))),(1,(.val T205)),(2,(.val T205))] (.tup .nl) [(0,(.box T179 (.agg (.cons (.int .i64) (.cons (.int .i64) (.cons (.int .i64) (.cons (.sl (.sl T125)) (.cons (.int .i64) .nl))))) (.cons vI (.cons vI (.cons vI (.cons (.own (.sl T125) 400000 false) (.cons vI .nl))))))))] (fun x=>wL8 x.1 x.2.1 x.2.2.1) (fun x=>pM2 x.1 x.2.1 x.2.2.1) (fun x=>wM8 x.1 x.2.1 x.2.2.1)
def sL6:Ctx:={ Cx tys [(108,wE9),(160,wQ7),(161,vC4),(162,vK2),(176,vZ4),(179,uX2)] [] [] true 161 [0] [40,50,146,159] with wants:=[(160,[1])] }
theorem sL7:CtxOk Tryz.prog sL6:=xW3 tys_ok rfl ⟨wW1,vP2,uX6,tS0,sL1,rP,trivial⟩ rfl (by kernel_rfl)
theorem rH2:SpecOk Tryz.prog 163 uL2:=xY2 sL7 mixed Tryz.func163 (by kernel_rfl) (bs:=[]) (by kernel_rfl) trivial fun x=>by kernel_rfl
def vZ9 (p0:(Int × Int × Int × (List (List D125)) × Int × Unit)) (p1:D205) (p2:D205):Prop × (Unit) × ((Int × Int × Int × (List (List D125)) × Int × Unit) × Unit) :=
 let v12:=(p0.2.2.1 == 1)
 let v20:=(f176 p1.1 p0.1)
 let s_1:=(p0.1,p0.2.1,p0.2.2.1,p0.2.2.2.1,p0.2.2.2.2.1,())
 let v21o:=(xY8 s_1 v20)
 let v29:=(f176 p2.2.1 v21o.1.1)
 let s_3:=(v21o.1.1,v21o.1.2.1,v21o.1.2.2.1,v21o.1.2.2.2.1,v21o.1.2.2.2.2.1,())
 let v30o:=(xY8 s_3 v29)
 let v32:=(p0.2.2.1 == 2)
 let v37:=(f162 p1.1 p1.2.2.2.2.1)
 let v57:=([(f161 v37 p1.2.2.2.1),(f161 p1.1 p1.2.2.2.1),(f162 p1.1 p1.2.2.2.1),(f162 v37 p1.2.2.2.1)]:List D125)
 let s_5:=(p0.1,p0.2.1,p0.2.2.1,p0.2.2.2.1,p0.2.2.2.2.1,())
 let v58o:=(xY8 s_5 v57)
 let v63:=(f161 p2.2.1 p2.2.2.2.2.1)
 let v83:=([(f161 p2.2.1 p2.2.2.2.1),(f161 v63 p2.2.2.2.1),(f162 v63 p2.2.2.2.1),(f162 p2.2.1 p2.2.2.2.1)]:List D125)
 let s_7:=(v58o.1.1,v58o.1.2.1,v58o.1.2.2.1,v58o.1.2.2.2.1,v58o.1.2.2.2.2.1,())
 let v84o:=(xY8 s_7 v83)
 let s_8:=((bif v12 then v30o.1.1 else (bif v32 then v84o.1.1 else p0.1)),(bif v12 then v30o.1.2.1 else (bif v32 then v84o.1.2.1 else p0.2.1)),(bif v12 then v30o.1.2.2.1 else (bif v32 then v84o.1.2.2.1 else p0.2.2.1)),(bif v12 then v30o.1.2.2.2.1 else (bif v32 then v84o.1.2.2.2.1 else p0.2.2.2.1)),(bif v12 then v30o.1.2.2.2.2.1 else (bif v32 then v84o.1.2.2.2.2.1 else p0.2.2.2.2.1)),())
 (((v12 = true → ((vK7 p1.1 p0.1) ∧ ((xZ3 s_1 v20) ∧ ((vK7 p2.2.1 v21o.1.1) ∧ (xZ3 s_3 v29))))) ∧ (v12 = false → (v32 = true → ((wG8 p1.1 p1.2.2.2.2.1) ∧ ((wD v37 p1.2.2.2.1) ∧ ((wD p1.1 p1.2.2.2.1) ∧ ((wG8 p1.1 p1.2.2.2.1) ∧ ((wG8 v37 p1.2.2.2.1) ∧ ((xZ3 s_5 v57) ∧ ((wD p2.2.1 p2.2.2.2.2.1) ∧ ((wD p2.2.1 p2.2.2.2.1) ∧ ((wD v63 p2.2.2.2.1) ∧ ((wG8 v63 p2.2.2.2.1) ∧ ((wG8 p2.2.1 p2.2.2.2.1) ∧ (xZ3 s_7 v83))))))))))))))),(),(s_8,()))
def wV2 (p0:(Int × Int × Int × (List (List D125)) × Int × Unit)) (p1:D205) (p2:D205):Prop:=(vZ9 p0 p1 p2).1
def pM3 (p0:(Int × Int × Int × (List (List D125)) × Int × Unit)) (p1:D205) (p2:D205):(Unit):=(vZ9 p0 p1 p2).2.1
def uA (p0:(Int × Int × Int × (List (List D125)) × Int × Unit)) (p1:D205) (p2:D205):((Int × Int × Int × (List (List D125)) × Int × Unit) × Unit):=(vZ9 p0 p1 p2).2.2
instance (p0:(Int × Int × Int × (List (List D125)) × Int × Unit)) (p1:D205) (p2:D205):Decidable (wV2 p0 p1 p2):=by
 unfold wV2 vZ9
 try dsimp only
 infer_instance
def uL3:Am.Spec:=fnSpec [(0,(.box T179 (.agg (.cons (.int .i64) (.cons (.int .i64) (.cons (.int .i64) (.cons (.sl (.sl T125)) (.cons (.int .i64) .nl))))) (.cons vI (.cons vI (.cons vI (.cons (.own (.sl T125) 400000 false) (.cons vI .nl)))))))),(1,(.val T205)),(2,(.val T205))] (.tup .nl) [(0,(.box T179 (.agg (.cons (.int .i64) (.cons (.int .i64) (.cons (.int .i64) (.cons (.sl (.sl T125)) (.cons (.int .i64) .nl))))) (.cons vI (.cons vI (.cons vI (.cons (.own (.sl T125) 400000 false) (.cons vI .nl))))))))] (fun x=>wV2 x.1 x.2.1 x.2.2.1) (fun x=>pM3 x.1 x.2.1 x.2.2.1) (fun x=>uA x.1 x.2.1 x.2.2.1)
def sL8:Ctx:={ Cx tys [(160,wQ7),(161,vC4),(162,vK2),(176,vZ4)] [] [] true 85 [0] [57,83] with wants:=[(160,[1])] }
theorem sL9:CtxOk Tryz.prog sL8:=xW3 tys_ok rfl ⟨vP2,uX6,tS0,sL1,trivial⟩ rfl (by kernel_rfl)
theorem rH3:SpecOk Tryz.prog 164 uL3:=xY2 sL9 mixed Tryz.func164 (by kernel_rfl) (bs:=[]) (by kernel_rfl) trivial fun x=>by kernel_rfl
abbrev wL9:Type:=(Bool × (List D205) × (List D205) × Int × Unit)
abbrev wC5:Type:=((Int × Int × Int × (List (List D125)) × Int × Unit) × Int × Unit)
def vF7 (y:wL9) (x:wC5):Prop × Bool × wC5 :=
 let a32:=y.2.2.1
 let a0:=x.1
 let a34:=x.2.1
 let v35:=(decide (a34 < y.2.2.2.1))
 let v36:=(nth a32 a34 Z205)
 let v59:=([(f161 v36.1 v36.2.2.2.1),(f161 v36.2.1 v36.2.2.2.1),(f162 v36.2.1 v36.2.2.2.1),(f162 v36.1 v36.2.2.2.1)]:List D125)
 let s_1:=(a0.1,a0.2.1,a0.2.2.1,a0.2.2.2.1,a0.2.2.2.2.1,())
 let v60o:=(xY8 s_1 v59)
 ((v35 = true → (InB a34 (len a32) ∧ ((wD v36.1 v36.2.2.2.1) ∧ ((wD v36.2.1 v36.2.2.2.1) ∧ ((wG8 v36.2.1 v36.2.2.2.1) ∧ ((wG8 v36.1 v36.2.2.2.1) ∧ ((xZ3 s_1 v59) ∧ InR (a34 + 1)))))))),v35,((v60o.1.1,v60o.1.2.1,v60o.1.2.2.1,v60o.1.2.2.2.1,v60o.1.2.2.2.2.1,()),(a34 + 1),()))
def wI2 (y:wL9) (x:wC5):Prop:=(vF7 y x).1
def wH0 (y:wL9) (x:wC5):Bool:=(vF7 y x).2.1
def wC0 (y:wL9) (x:wC5):wC5:=(vF7 y x).2.2
instance (y:wL9) (x:wC5):Decidable (wI2 y x):=by
 unfold wI2 vF7
 try dsimp only
 infer_instance
def wW7 (y:wL9) (x:wC5):(Int × Int × Int × (List (List D125)) × Int × Unit) :=
 let a0:=x.1
 (a0.1,a0.2.1,a0.2.2.1,a0.2.2.2.1,a0.2.2.2.2.1,())
def uA0:List (Nat × Sh):=[(0,(.box T179 (.agg (.cons (.int .i64) (.cons (.int .i64) (.cons (.int .i64) (.cons (.sl (.sl T125)) (.cons (.int .i64) .nl))))) (.cons vI (.cons vI (.cons vI (.cons (.own (.sl T125) 400000 false) (.cons vI .nl)))))))),(2,vB),(7,(.own T205 1007 false))]
def vK8:St → Option Out:=xP3 [(2,vB),(7,(.own T205 1007 false)),(32,(.own T205 1007 false)),(33,vI)] [(0,(.box T179 (.agg (.cons (.int .i64) (.cons (.int .i64) (.cons (.int .i64) (.cons (.sl (.sl T125)) (.cons (.int .i64) .nl))))) (.cons vI (.cons vI (.cons vI (.cons (.own (.sl T125) 400000 false) (.cons vI .nl)))))))),(34,vI)] wH0 wC0 wI2 fun y x=>[ex 2 none uA0 ((wW7 y x),y.1,y.2.1,())]
abbrev wI3:Type:=(Bool × (List D205) × Unit)
abbrev wB7:Type:=((Int × Int × Int × (List (List D125)) × Int × Unit) × Int × Unit)
def wY2 (y:wI3) (x:wB7):Prop × Bool × wB7 :=
 let a7:=y.2.1
 let a0:=x.1
 let a10:=x.2.1
 let v78:=(decide (a10 < (len a7)))
 let v84:=(a10 - 1)
 let v85:=(nth a7 v84 Z205)
 let v89:=(nth a7 a10 Z205)
 let s_1:=(a0.1,a0.2.1,a0.2.2.1,a0.2.2.2.1,a0.2.2.2.2.1,())
 let v91o:=(wM8 s_1 v85 v89)
 ((v78 = true → (InR (a10 - 1) ∧ (InB v84 (len a7) ∧ (InB a10 (len a7) ∧ ((wL8 s_1 v85 v89) ∧ InR (a10 + 1)))))),v78,((v91o.1.1,v91o.1.2.1,v91o.1.2.2.1,v91o.1.2.2.2.1,v91o.1.2.2.2.2.1,()),(a10 + 1),()))
def wF4 (y:wI3) (x:wB7):Prop:=(wY2 y x).1
def wC6 (y:wI3) (x:wB7):Bool:=(wY2 y x).2.1
def wA7 (y:wI3) (x:wB7):wB7:=(wY2 y x).2.2
instance (y:wI3) (x:wB7):Decidable (wF4 y x):=by
 unfold wF4 wY2
 try dsimp only
 infer_instance
def wS5 (y:wI3) (x:wB7):(Int × Int × Int × (List (List D125)) × Int × Unit) :=
 let a0:=x.1
 (a0.1,a0.2.1,a0.2.2.1,a0.2.2.2.1,a0.2.2.2.2.1,())
def vT3:List (Nat × Sh):=[(0,(.box T179 (.agg (.cons (.int .i64) (.cons (.int .i64) (.cons (.int .i64) (.cons (.sl (.sl T125)) (.cons (.int .i64) .nl))))) (.cons vI (.cons vI (.cons vI (.cons (.own (.sl T125) 400000 false) (.cons vI .nl)))))))),(2,vB),(7,(.own T205 1007 false))]
def vI3:St → Option Out:=xP3 [(2,vB),(7,(.own T205 1007 false))] [(0,(.box T179 (.agg (.cons (.int .i64) (.cons (.int .i64) (.cons (.int .i64) (.cons (.sl (.sl T125)) (.cons (.int .i64) .nl))))) (.cons vI (.cons vI (.cons vI (.cons (.own (.sl T125) 400000 false) (.cons vI .nl)))))))),(10,vI)] wC6 wA7 wF4 fun y x=>[ex 4 none vT3 ((wS5 y x),y.1,y.2.1,())]
def uA1 (p0:(Int × Int × Int × (List (List D125)) × Int × Unit)) (p1:(List D125)) (p2:Bool):Prop × (Unit) × ((Int × Int × Int × (List (List D125)) × Int × Unit) × Unit) :=
 let v13:=(f157 p1 p2)
 let v20:=(f158 v13 p2 p0.1)
 let v23:=((len v20) == 0)
 let v26:=((len v13) == 1)
 let v29:=(nth v13 (0:Int) Z125)
 let s_1:=(p0.1,p0.2.1,p0.2.2.1,p0.2.2.2.1,p0.2.2.2.2.1,())
 let v31o:=(vZ7 s_1 v29)
 let y6:=(p2,v20,v20,(len v20),())
 let x6:=((p0.1,p0.2.1,p0.2.2.1,p0.2.2.2.1,p0.2.2.2.2.1,()),(0:Int),())
 let r6_2_0:=(wW7 y6 (zC1 (wH0 y6) (wC0 y6) x6))
 let v63:=(!p2)
 let v67:=(len v20)
 let v68:=(v67 - 1)
 let v69:=(nth v20 v68 Z205)
 let v72:=(nth v20 (0:Int) Z205)
 let s_4:=(r6_2_0.1,r6_2_0.2.1,r6_2_0.2.2.1,r6_2_0.2.2.2.1,r6_2_0.2.2.2.2.1,())
 let v74o:=(wM8 s_4 v69 v72)
 let s_5:=((bif v63 then v74o.1.1 else r6_2_0.1),(bif v63 then v74o.1.2.1 else r6_2_0.2.1),(bif v63 then v74o.1.2.2.1 else r6_2_0.2.2.1),(bif v63 then v74o.1.2.2.2.1 else r6_2_0.2.2.2.1),(bif v63 then v74o.1.2.2.2.2.1 else r6_2_0.2.2.2.2.1),())
 let y13:=(p2,v20,())
 let x13:=(s_5,(1:Int),())
 let r13_4_0:=(wS5 y13 (zC1 (wC6 y13) (wA7 y13) x13))
 let v95:=(nth v20 (0:Int) Z205)
 let v99:=(len v20)
 let v100:=(v99 - 1)
 let v101:=(nth v20 v100 Z205)
 let s_7:=(r13_4_0.1,r13_4_0.2.1,r13_4_0.2.2.1,r13_4_0.2.2.2.1,r13_4_0.2.2.2.2.1,())
 let v103o:=(uA s_7 v95 v101)
 let s_8:=((bif v23 then (bif v26 then v31o.1.1 else p0.1) else (bif p2 then v103o.1.1 else r13_4_0.1)),(bif v23 then (bif v26 then v31o.1.2.1 else p0.2.1) else (bif p2 then v103o.1.2.1 else r13_4_0.2.1)),(bif v23 then (bif v26 then v31o.1.2.2.1 else p0.2.2.1) else (bif p2 then v103o.1.2.2.1 else r13_4_0.2.2.1)),(bif v23 then (bif v26 then v31o.1.2.2.2.1 else p0.2.2.2.1) else (bif p2 then v103o.1.2.2.2.1 else r13_4_0.2.2.2.1)),(bif v23 then (bif v26 then v31o.1.2.2.2.2.1 else p0.2.2.2.2.1) else (bif p2 then v103o.1.2.2.2.2.1 else r13_4_0.2.2.2.2.1)),())
 (((uX1 p1 p2) ∧ ((uX3 v13 p2 p0.1) ∧ ((v23 = true → (v26 = true → (InB (0:Int) (len v13) ∧ (vC7 s_1 v29)))) ∧ ((!v23) = true → ((Am.Ends (wH0 y6) (wC0 y6) (wI2 y6) x6) ∧ ((v63 = true → (InR (v67 - 1) ∧ (InB v68 (len v20) ∧ (InB (0:Int) (len v20) ∧ (wL8 s_4 v69 v72))))) ∧ ((Am.Ends (wC6 y13) (wA7 y13) (wF4 y13) x13) ∧ (p2 = true → (InB (0:Int) (len v20) ∧ (InR (v99 - 1) ∧ (InB v100 (len v20) ∧ (wV2 s_7 v95 v101)))))))))))),(),(s_8,()))
def wN5 (p0:(Int × Int × Int × (List (List D125)) × Int × Unit)) (p1:(List D125)) (p2:Bool):Prop:=(uA1 p0 p1 p2).1
def pM4 (p0:(Int × Int × Int × (List (List D125)) × Int × Unit)) (p1:(List D125)) (p2:Bool):(Unit):=(uA1 p0 p1 p2).2.1
def vC8 (p0:(Int × Int × Int × (List (List D125)) × Int × Unit)) (p1:(List D125)) (p2:Bool):((Int × Int × Int × (List (List D125)) × Int × Unit) × Unit):=(uA1 p0 p1 p2).2.2
instance (p0:(Int × Int × Int × (List (List D125)) × Int × Unit)) (p1:(List D125)) (p2:Bool):Decidable (wN5 p0 p1 p2):=by
 unfold wN5 uA1
 try dsimp only
 infer_instance
def uL4:Am.Spec:=fnSpec [(0,(.box T179 (.agg (.cons (.int .i64) (.cons (.int .i64) (.cons (.int .i64) (.cons (.sl (.sl T125)) (.cons (.int .i64) .nl))))) (.cons vI (.cons vI (.cons vI (.cons (.own (.sl T125) 400000 false) (.cons vI .nl)))))))),(1,(.val (.sl T125))),(2,vB)] (.tup .nl) [(0,(.box T179 (.agg (.cons (.int .i64) (.cons (.int .i64) (.cons (.int .i64) (.cons (.sl (.sl T125)) (.cons (.int .i64) .nl))))) (.cons vI (.cons vI (.cons vI (.cons (.own (.sl T125) 400000 false) (.cons vI .nl))))))))] (fun x=>wN5 x.1 x.2.1 x.2.2.1) (fun x=>pM4 x.1 x.2.1 x.2.2.1) (fun x=>vC8 x.1 x.2.1 x.2.2.1)
def vV:Ctx:={ Cx tys [(157,sB4),(158,sB9),(159,uL1),(160,wQ7),(161,vC4),(162,vK2),(163,uL2),(164,uL3)] [(6,vK8),(13,vI3)] [(3,[(4,0,20,1007)])] false 104 [0] [59] with wants:=[(159,[]),(160,[1]),(163,[]),(164,[])] }
theorem vV0:CtxOk Tryz.prog vV:=xW3 tys_ok rfl ⟨pK0,pK9,rH1,vP2,uX6,tS0,rH2,rH3,trivial⟩ rfl (by kernel_rfl)
noncomputable def uL5:Code:=Tryz.f146.body.getD .skip
noncomputable def tL4:Code:=xX2 uL5 0
theorem tS1:yU9 Tryz.prog vV tL4:=xY1 vV0 mixed (sp:=vK8) rfl [uA0] (bs:=[]) (by kernel_rfl) trivial (by kernel_rfl) (by kernel_rfl) fun y x=>by kernel_rfl
noncomputable def uX8:Code:=xX2 uL5 1
theorem tJ2:yU9 Tryz.prog vV uX8:=xY1 vV0 mixed (sp:=vI3) rfl [vT3] (bs:=[]) (by kernel_rfl) trivial (by kernel_rfl) (by kernel_rfl) fun y x=>by kernel_rfl
theorem rH4:SpecOk Tryz.prog 146 uL4:=xY2 vV0 mixed Tryz.func146 (by kernel_rfl) (bs:=[tL4,uX8]) (by kernel_rfl) ⟨tS1,tJ2,trivial⟩ fun x=>by kernel_rfl
abbrev wF5:Type:=((List Bool) × Unit × (List (List D125)) × Int × Unit)
abbrev wB8:Type:=((Int × Int × Int × (List (List D125)) × Int × Unit) × Int × Unit)
def vC9 (y:wF5) (x:wB8):Prop × Bool × wB8 × Bool × Bool :=
 let a1:=y.1
 let a39:=y.2.2.1
 let a38:=x.1
 let a41:=x.2.1
 let v42:=(decide (a41 < y.2.2.2.1))
 let v44:=(nth a39 a41 ([]:List D125))
 let v50:=(nth a1 a41 false)
 let s_1:=(a38.1,a38.2.1,a38.2.2.1,a38.2.2.2.1,a38.2.2.2.2.1,())
 let v52o:=(vC8 s_1 v44 v50)
 let v57:=(decide (v52o.1.2.2.2.2.1 > 4096))
 ((v42 = true → (InB a41 (len a39) ∧ (InB a41 (len a1) ∧ ((wN5 s_1 v44 v50) ∧ ((!v57) = true → InR (a41 + 1)))))),(v42 && (!v57)),((v52o.1.1,v52o.1.2.1,v52o.1.2.2.1,v52o.1.2.2.2.1,v52o.1.2.2.2.2.1,()),(a41 + 1),()),(v42 && v57),(!v42))
def wN6 (y:wF5) (x:wB8):Prop:=(vC9 y x).1
def wV3 (y:wF5) (x:wB8):Bool:=(vC9 y x).2.1
def wI4 (y:wF5) (x:wB8):wB8:=(vC9 y x).2.2.1
def vV1 (y:wF5) (x:wB8):Bool:=(vC9 y x).2.2.2.1
def sM (y:wF5) (x:wB8):Bool:=(vC9 y x).2.2.2.2
instance (y:wF5) (x:wB8):Decidable (wN6 y x):=by
 unfold wN6 vC9
 try dsimp only
 infer_instance
def vF8 (y:wF5) (x:wB8):(List (List D125)) :=
 ([]:List (List D125))
def uA2 (y:wF5) (x:wB8):Int :=
 (3:Int)
def uX9:List (Nat × Sh):=[(10,(.own (.sl T125) 0 false)),(11,vI)]
def vF9 (y:wF5) (x:wB8):(Int × Int × Int × (List (List D125)) × Int × Unit) :=
 let a38:=x.1
 (a38.1,a38.2.1,a38.2.2.1,a38.2.2.2.1,a38.2.2.2.2.1,())
def uY:List (Nat × Sh):=[(14,(.ref 38 T179)),(38,(.box T179 (.agg (.cons (.int .i64) (.cons (.int .i64) (.cons (.int .i64) (.cons (.sl (.sl T125)) (.cons (.int .i64) .nl))))) (.cons vI (.cons vI (.cons vI (.cons (.own (.sl T125) 403800 false) (.cons vI .nl))))))))]
def uA3:St → Option Out:=xP3 [(1,(.val (.sl .bool))),(14,(.ref 38 T179)),(39,(.val (.sl (.sl T125)))),(40,vI)] [(38,(.box T179 (.agg (.cons (.int .i64) (.cons (.int .i64) (.cons (.int .i64) (.cons (.sl (.sl T125)) (.cons (.int .i64) .nl))))) (.cons vI (.cons vI (.cons vI (.cons (.own (.sl T125) 403800 false) (.cons vI .nl)))))))),(41,vI)] wV3 wI4 wN6 fun y x=>[ex 1 (some (vV1 y x)) uX9 ((vF8 y x),(uA2 y x),()),ex 2 (some (sM y x)) uY (y.2.1,(vF9 y x),())]
def qK0 (p0:(List (List D125))) (p1:(List Bool)) (p2:Int) (p3:Int) (p4:Int):Prop × ((List (List D125)) × Int × Unit) :=
 let v20:=(f145 p2 p3 p4)
 let v22:=(v20 != 0)
 let v25:=(f129 p0 (0:Int))
 let v27:=(v25 != 0)
 let v33:=((len p1) != (len p0))
 let y11:=(p1,(),p0,(len p0),())
 let x11:=((p2,p3,p4,([]:List (List D125)),(0:Int),()),(0:Int),())
 let e11:=(zC1 (wV3 y11) (wI4 y11) x11)
 let q11_1:=(vV1 y11 e11)
 (((uX0 p2 p3 p4) ∧ ((!v22) = true → ((vU8 p0 (0:Int)) ∧ ((!v27) = true → ((!v33) = true → (Am.Ends (wV3 y11) (wI4 y11) (wN6 y11) x11)))))),((bif v22 then [] else (bif v27 then [] else (bif v33 then [] else (bif q11_1 then (vF8 y11 e11) else (vF9 y11 e11).2.2.2.1)))),(bif v22 then v20 else (bif v27 then v25 else (bif v33 then (15:Int) else (bif q11_1 then (uA2 y11 e11) else (0:Int))))),()))
def uY0 (p0:(List (List D125))) (p1:(List Bool)) (p2:Int) (p3:Int) (p4:Int):Prop:=(qK0 p0 p1 p2 p3 p4).1
def f128 (p0:(List (List D125))) (p1:(List Bool)) (p2:Int) (p3:Int) (p4:Int):((List (List D125)) × Int × Unit):=(qK0 p0 p1 p2 p3 p4).2
instance (p0:(List (List D125))) (p1:(List Bool)) (p2:Int) (p3:Int) (p4:Int):Decidable (uY0 p0 p1 p2 p3 p4):=by
 unfold uY0 qK0
 try dsimp only
 infer_instance
def sC4:Am.Spec:=fnSpec [(0,(.val (.sl (.sl T125)))),(1,(.val (.sl .bool))),(2,vI),(3,vI),(4,vI)] (.tup (.cons (.own (.sl T125) 0 false) (.cons vI .nl))) [] (fun x=>uY0 x.1 x.2.1 x.2.2.1 x.2.2.2.1 x.2.2.2.2.1) (fun x=>f128 x.1 x.2.1 x.2.2.1 x.2.2.2.1 x.2.2.2.2.1) (fun _=>())
def sW2:Ctx:={ Cx tys [(129,vY9),(145,sB3),(146,uL4)] [(11,uA3)] [(35,[(4,0,403800,0)])] false 63 [] [] with wants:=[(146,[])] }
theorem sW3:CtxOk Tryz.prog sW2:=xW3 tys_ok rfl ⟨sL,pJ9,rH4,trivial⟩ rfl (by kernel_rfl)
noncomputable def rP6:Code:=Tryz.f128.body.getD .skip
noncomputable def sW4:Code:=xX2 rP6 0
theorem sM0:yU9 Tryz.prog sW2 sW4:=xY1 sW3 mixed (sp:=uA3) rfl [uX9,uY] (bs:=[]) (by kernel_rfl) trivial (by kernel_rfl) (by kernel_rfl) fun y x=>by kernel_rfl
theorem pM5:SpecOk Tryz.prog 128 sC4:=xY2 sW3 mixed Tryz.func128 (by kernel_rfl) (bs:=[sW4]) (by kernel_rfl) ⟨sM0,trivial⟩ fun x=>by kernel_rfl
def pM6 (p0:D49):Prop × Int :=
 let v15:=(f125 p0.2.2.2.2.2.2.2.2.2.2.2.2.2.2.2.2.2.2.1 p0.2.2.2.2.2.2.2.2.2.2.1)
 let v19:=(v15.2.1 != 0)
 let v28:=(bif (p0.2.2.2.2.2.2.2.2.2.2.2.2.2.2.2.2.2.2.2.1 != 0) then (p0.2.2.2.2.2.2.2.2.2.2.2.2.2.2.2.2.2.2.2.1 != 1) else false)
 let v41:=(bif (p0.2.2.2.2.2.2.2.2.2.2.2.2.2.2.2.2.2.2.2.2.1 == 0) then (bif (p0.2.2.2.2.2.2.2.2.2.2.2.2.2.2.2.2.2.2.2.2.2.1 != 0) then true else (p0.2.2.2.2.2.2.2.2.2.2.2.2.2.2.2.2.2.2.2.2.2.2.1 != 0)) else false)
 let v44:=(f126 v15.1)
 let v48:=(v44.2.1 != 0)
 let v54:=(p0.2.2.2.2.2.2.2.2.2.2.2.2.2.2.2.2.2.2.2.2.1 != 0)
 let v57:=(f127 v15.1)
 let v61:=(v57.2.1 != 0)
 let v72:=(f128 v44.1 v57.1 p0.2.2.2.2.2.2.2.2.2.2.2.2.2.2.2.2.2.2.2.2.1 p0.2.2.2.2.2.2.2.2.2.2.2.2.2.2.2.2.2.2.2.2.2.1 p0.2.2.2.2.2.2.2.2.2.2.2.2.2.2.2.2.2.2.2.2.2.2.1)
 let v76:=(v72.2.1 != 0)
 let m5_1:=(bif v54 then v72.1 else v44.1)
 let m6:=(bif v54 then (0:Int) else p0.2.2.2.2.2.2.2.2.2.2.2.2.2.2.2.2.2.2.2.1)
 let v80:=(f129 m5_1 m6)
 let v82:=(v80 != 0)
 let m2_4:=(bif v41 then (1:Int) else (bif v48 then v44.2.1 else (bif ((v61 || ((!v61) && v76)) && v54) then (bif v61 then v57.2.1 else v72.2.1) else (bif v82 then v80 else (f110 p0.2.2.2.2.2.2.2.2.2.2.2.2.2.1)))))
 (((uW1 p0.2.2.2.2.2.2.2.2.2.2.2.2.2.2.2.2.2.2.1 p0.2.2.2.2.2.2.2.2.2.2.1) ∧ ((!v19) = true → ((!v28) = true → ((!v41) = true → ((vK0 v15.1) ∧ ((!v48) = true → ((v54 = true → ((uW5 v15.1) ∧ ((!v61) = true → (uY0 v44.1 v57.1 p0.2.2.2.2.2.2.2.2.2.2.2.2.2.2.2.2.2.2.2.2.1 p0.2.2.2.2.2.2.2.2.2.2.2.2.2.2.2.2.2.2.2.2.2.1 p0.2.2.2.2.2.2.2.2.2.2.2.2.2.2.2.2.2.2.2.2.2.2.1)))) ∧ ((bif v54 then ((!v61) && (!v76)) else true) = true → ((vU8 m5_1 m6) ∧ ((!v82) = true → (vU4 p0.2.2.2.2.2.2.2.2.2.2.2.2.2.1))))))))))),(bif v19 then v15.2.1 else (bif v28 then (8:Int) else m2_4)))
def uY1 (p0:D49):Prop:=(pM6 p0).1
def f112 (p0:D49):Int:=(pM6 p0).2
instance (p0:D49):Decidable (uY1 p0):=by
 unfold uY1 pM6
 try dsimp only
 infer_instance
def sC5:Am.Spec:=fnSpec [(0,(.val T49))] vI [] (fun x=>uY1 x.1) (fun x=>f112 x.1) (fun _=>())
def qK1:Ctx:=Cx tys [(110,vX8),(125,sB0),(126,uW3),(127,sB1),(128,sC4),(129,vY9)] [] [(17,[(4,0,44,1005)]),(27,[(4,0,57,1007)]),(33,[(5,0,1005,0),(4,0,72,1005)])] false 87 [] []
theorem qK2:CtxOk Tryz.prog qK1:=xW3 tys_ok rfl ⟨sK0,pJ3,rO2,pJ6,pM5,sL,trivial⟩ rfl (by kernel_rfl)
theorem pM7:SpecOk Tryz.prog 112 sC5:=xY2 qK2 mixed Tryz.func112 (by kernel_rfl) (bs:=[]) (by kernel_rfl) trivial fun x=>by kernel_rfl
def pM8 (p0:Int) (p1:Int) (p2:Int):Prop × Bool :=
 (True,(bif (decide (p0 ≥ p1)) then (decide (p0 ≤ p2)) else false))
def wN7 (p0:Int) (p1:Int) (p2:Int):Prop:=(pM8 p0 p1 p2).1
def f166 (p0:Int) (p1:Int) (p2:Int):Bool:=(pM8 p0 p1 p2).2
instance (p0:Int) (p1:Int) (p2:Int):Decidable (wN7 p0 p1 p2):=by
 unfold wN7 pM8
 try dsimp only
 infer_instance
def uA4:Am.Spec:=fnSpec [(0,vI),(1,vI),(2,vI)] vB [] (fun x=>wN7 x.1 x.2.1 x.2.2.1) (fun x=>f166 x.1 x.2.1 x.2.2.1) (fun _=>())
def qK3:Ctx:=Cx tys [] [] [] false 15 [] []
theorem qK4:CtxOk Tryz.prog qK3:=xW3 tys_ok rfl trivial rfl (by kernel_rfl)
theorem sM1:SpecOk Tryz.prog 166 uA4:=xY2 qK4 mixed Tryz.func166 (by kernel_rfl) (bs:=[]) (by kernel_rfl) trivial fun x=>by kernel_rfl
abbrev wM:Type:=((List D128) × Int × Int × (List D125) × Unit)
abbrev wF6:Type:=(Int × Unit)
def vD (y:wM) (x:wF6):Prop × Bool × wF6 × Bool × Bool :=
 let a27:=x.1
 let v28:=(decide (a27 < 3))
 let v29:=(nth y.2.2.2.1 a27 Z125)
 let v33:=(!(f166 v29.1 (-65536:Int) (65536:Int)))
 let v39:=(bif v33 then true else (!(f166 v29.2.1 (-65536:Int) (65536:Int))))
 ((v28 = true → (InB a27 3 ∧ ((wN7 v29.1 (-65536:Int) (65536:Int)) ∧ (((!v33) = true → (wN7 v29.2.1 (-65536:Int) (65536:Int))) ∧ ((!v39) = true → InR (a27 + 1)))))),(v28 && (!v39)),((a27 + 1),()),(v28 && v39),(!v28))
def vG (y:wM) (x:wF6):Prop:=(vD y x).1
def vP3 (y:wM) (x:wF6):Bool:=(vD y x).2.1
def wT3 (y:wM) (x:wF6):wF6:=(vD y x).2.2.1
def uY2 (y:wM) (x:wF6):Bool:=(vD y x).2.2.2.1
def uY3 (y:wM) (x:wF6):Bool:=(vD y x).2.2.2.2
instance (y:wM) (x:wF6):Decidable (vG y x):=by
 unfold vG vD
 try dsimp only
 infer_instance
def uA5 (y:wM) (x:wF6):Int :=
 (2:Int)
def uY4:List (Nat × Sh):=[(19,(.val (.sl T128))),(20,vI),(21,vI)]
def uA6:St → Option Out:=xP3 [(19,(.val (.sl T128))),(20,vI),(21,vI),(26,(.val (.arr 3 T125)))] [(27,vI)] vP3 wT3 vG fun y x=>[ex 1 (some (uY2 y x)) [(2,vI)] ((uA5 y x),()),ex 4 (some (uY3 y x)) uY4 (y.1,y.2.1,y.2.2.1,())]
abbrev wQ8:Type:=((List D128) × Int × Unit)
abbrev wK:Type:=(Int × Unit)
def vP4 (y:wQ8) (x:wK):Prop × Bool × wK × Bool × Bool :=
 let a19:=y.1
 let a20:=y.2.1
 let a21:=x.1
 let v22:=(decide (a21 < a20))
 let y10:=(a19,a20,a21,(nth a19 a21 Z128).2.1,())
 let x10:=((0:Int),())
 let e10:=(zC1 (vP3 y10) (wT3 y10) x10)
 let q10_4:=(uY3 y10 e10)
 ((v22 = true → (InB a21 (len a19) ∧ ((Am.Ends (vP3 y10) (wT3 y10) (vG y10) x10) ∧ (q10_4 = true → InR (a21 + 1))))),(v22 && q10_4),((a21 + 1),()),(v22 && (uY2 y10 e10)),(!v22))
def vP5 (y:wQ8) (x:wK):Prop:=(vP4 y x).1
def uY5 (y:wQ8) (x:wK):Bool:=(vP4 y x).2.1
def vK9 (y:wQ8) (x:wK):wK:=(vP4 y x).2.2.1
def tL5 (y:wQ8) (x:wK):Bool:=(vP4 y x).2.2.2.1
def rH5 (y:wQ8) (x:wK):Bool:=(vP4 y x).2.2.2.2
instance (y:wQ8) (x:wK):Decidable (vP5 y x):=by
 unfold vP5 vP4
 try dsimp only
 infer_instance
def uL6 (y:wQ8) (x:wK):Int :=
 let a19:=y.1
 let a21:=x.1
 let y10:=(a19,y.2.1,a21,(nth a19 a21 Z128).2.1,())
 (uA5 y10 (zC1 (vP3 y10) (wT3 y10) ((0:Int),())))
def uL7:St → Option Out:=xP3 [(19,(.val (.sl T128))),(20,vI)] [(21,vI)] uY5 vK9 vP5 fun y x=>[ex 1 (some (tL5 y x)) [(2,vI)] ((uL6 y x),()),ex 2 (some (rH5 y x)) [] ()]
def pM9 (p0:D192):Prop × Int :=
 let v11:=(!(f166 p0.2.1 (0:Int) (65536:Int)))
 let v14:=(f140 p0.2.2.1)
 let v16:=(v14 != 0)
 let y7:=(p0.2.2.1,(len p0.2.2.1),())
 let x7:=((0:Int),())
 let e7:=(zC1 (uY5 y7) (vK9 y7) x7)
 (((wN7 p0.2.1 (0:Int) (65536:Int)) ∧ ((!v11) = true → ((vJ5 p0.2.2.1) ∧ ((!v16) = true → (Am.Ends (uY5 y7) (vK9 y7) (vP5 y7) x7))))),(bif v11 then (2:Int) else (bif v16 then v14 else (bif (tL5 y7 e7) then (uL6 y7 e7) else (0:Int)))))
def tS2 (p0:D192):Prop:=(pM9 p0).1
def f180 (p0:D192):Int:=(pM9 p0).2
instance (p0:D192):Decidable (tS2 p0):=by
 unfold tS2 pM9
 try dsimp only
 infer_instance
def sC6:Am.Spec:=fnSpec [(0,(.val T192))] vI [] (fun x=>tS2 x.1) (fun x=>f180 x.1) (fun _=>())
def tS3:Ctx:=Cx tys [(140,vJ6),(166,uA4)] [(10,uA6),(7,uL7)] [] false 42 [] []
theorem tS4:CtxOk Tryz.prog tS3:=xW3 tys_ok rfl ⟨tR4,sM1,trivial⟩ rfl (by kernel_rfl)
noncomputable def rP7:Code:=Tryz.f180.body.getD .skip
noncomputable def sM2:Code:=xX2 rP7 0
noncomputable def sW5:Code:=xX2 sM2 0
theorem sM3:yU9 Tryz.prog tS3 sW5:=xY1 tS4 mixed (sp:=uA6) rfl [[(2,vI)],uY4] (bs:=[]) (by kernel_rfl) trivial (by kernel_rfl) (by kernel_rfl) fun y x=>by kernel_rfl
theorem rH6:yU9 Tryz.prog tS3 sM2:=xY1 tS4 mixed (sp:=uL7) rfl [[(2,vI)],[]] (bs:=[sW5]) (by kernel_rfl) ⟨sM3,trivial⟩ (by kernel_rfl) (by kernel_rfl) fun y x=>by kernel_rfl
theorem pN:SpecOk Tryz.prog 180 sC6:=xY2 tS4 mixed Tryz.func180 (by kernel_rfl) (bs:=[sM2]) (by kernel_rfl) ⟨rH6,trivial⟩ fun x=>by kernel_rfl
def pN0 (p0:D197) (p1:D197):Prop × Bool :=
 (True,(bif (decide (p0.1 > p1.1)) then true else (bif (p0.1 == p1.1) then (decide (p0.2.1 > p1.2.1)) else false)))
def tS5 (p0:D197) (p1:D197):Prop:=(pN0 p0 p1).1
def f181 (p0:D197) (p1:D197):Bool:=(pN0 p0 p1).2
instance (p0:D197) (p1:D197):Decidable (tS5 p0 p1):=by
 unfold tS5 pN0
 try dsimp only
 infer_instance
def sC7:Am.Spec:=fnSpec [(0,(.val T197)),(1,(.val T197))] vB [] (fun x=>tS5 x.1 x.2.1) (fun x=>f181 x.1 x.2.1) (fun _=>())
def qK5:Ctx:=Cx tys [] [] [] false 24 [] []
theorem qK6:CtxOk Tryz.prog qK5:=xW3 tys_ok rfl trivial rfl (by kernel_rfl)
theorem pN1:SpecOk Tryz.prog 181 sC7:=xY2 qK6 mixed Tryz.func181 (by kernel_rfl) (bs:=[]) (by kernel_rfl) trivial fun x=>by kernel_rfl
abbrev wQ9:Type:=(D163 × (List D192) × Int × Unit)
abbrev wK0:Type:=(Int × Unit)
def vP6 (y:wQ9) (x:wK0):Prop × Bool × wK0 × Bool × Bool :=
 let a1:=y.1
 let a35:=y.2.1
 let a37:=x.1
 let v38:=(decide (a37 < y.2.2.1))
 let v40:=(nth a35 a37 Z192)
 let v43:=(decide (a37 > 0))
 let v50:=(a37 - 1)
 let v55:=(bif v43 then (decide (v40.1 ≤ (nth a1.2.2.2.1 v50 Z192).1)) else false)
 let v59:=((f180 v40) != 0)
 let c_2:=((!v55) && (!v59))
 ((v38 = true → (InB a37 (len a35) ∧ ((v43 = true → InR (a37 - 1)) ∧ ((v43 = true → InB v50 (len a1.2.2.2.1)) ∧ (((!v55) = true → (tS2 v40)) ∧ (c_2 = true → InR (a37 + 1))))))),(v38 && c_2),((a37 + 1),()),(v38 && (v55 || ((!v55) && v59))),(!v38))
def vP7 (y:wQ9) (x:wK0):Prop:=(vP6 y x).1
def uY6 (y:wQ9) (x:wK0):Bool:=(vP6 y x).2.1
def vL (y:wQ9) (x:wK0):wK0:=(vP6 y x).2.2.1
def tL6 (y:wQ9) (x:wK0):Bool:=(vP6 y x).2.2.2.1
def tL7 (y:wQ9) (x:wK0):Bool:=(vP6 y x).2.2.2.2
instance (y:wQ9) (x:wK0):Decidable (vP7 y x):=by
 unfold vP7 vP6
 try dsimp only
 infer_instance
def uL8 (y:wQ9) (x:wK0):Int :=
 let a37:=x.1
 let v40:=(nth y.2.1 a37 Z192)
 (bif (bif (decide (a37 > 0)) then (decide (v40.1 ≤ (nth y.1.2.2.2.1 (a37 - 1) Z192).1)) else false) then (24:Int) else (f180 v40))
def uL9:St → Option Out:=xP3 [(1,(.box T163 (.val T163))),(35,(.val (.sl T192))),(36,vI)] [(37,vI)] uY6 vL vP7 fun y x=>[ex 1 (some (tL6 y x)) [(2,vI)] ((uL8 y x),()),ex 2 (some (tL7 y x)) [(1,(.box T163 (.val T163)))] (y.1,())]
abbrev wM0:Type:=(D163 × (List D197) × Int × Unit)
abbrev wF7:Type:=(Int × Unit)
def vD0 (y:wM0) (x:wF7):Prop × Bool × wF7 × Bool × Bool :=
 let a1:=y.1
 let a63:=y.2.1
 let a65:=x.1
 let v66:=(decide (a65 < y.2.2.1))
 let v68:=(nth a63 a65 Z197)
 let v71:=(decide (a65 > 0))
 let v77:=(a65 - 1)
 let v78:=(nth a1.2.2.2.2.1 v77 Z197)
 let v82:=(bif v71 then (!(f181 v68 v78)) else false)
 let v86:=(!(f166 v68.2.2.1 (-65536:Int) (65536:Int)))
 let c_2:=((!v82) && (!v86))
 ((v66 = true → (InB a65 (len a63) ∧ ((v71 = true → InR (a65 - 1)) ∧ ((v71 = true → InB v77 (len a1.2.2.2.2.1)) ∧ ((v71 = true → (tS5 v68 v78)) ∧ (((!v82) = true → (wN7 v68.2.2.1 (-65536:Int) (65536:Int))) ∧ (c_2 = true → InR (a65 + 1)))))))),(v66 && c_2),((a65 + 1),()),(v66 && (v82 || ((!v82) && v86))),(!v66))
def vG0 (y:wM0) (x:wF7):Prop:=(vD0 y x).1
def uG1 (y:wM0) (x:wF7):Bool:=(vD0 y x).2.1
def vG1 (y:wM0) (x:wF7):wF7:=(vD0 y x).2.2.1
def uY7 (y:wM0) (x:wF7):Bool:=(vD0 y x).2.2.2.1
def sM4 (y:wM0) (x:wF7):Bool:=(vD0 y x).2.2.2.2
instance (y:wM0) (x:wF7):Decidable (vG0 y x):=by
 unfold vG0 vD0
 try dsimp only
 infer_instance
def uA7 (y:wM0) (x:wF7):Int :=
 let a65:=x.1
 (bif (bif (decide (a65 > 0)) then (!(f181 (nth y.2.1 a65 Z197) (nth y.1.2.2.2.2.1 (a65 - 1) Z197))) else false) then (24:Int) else (2:Int))
def uA8:St → Option Out:=xP3 [(1,(.box T163 (.val T163))),(63,(.val (.sl T197))),(64,vI)] [(65,vI)] uG1 vG1 vG0 fun y x=>[ex 1 (some (uY7 y x)) [(2,vI)] ((uA7 y x),()),ex 4 (some (sM4 y x)) [] ()]
def pN2 (p0:D163):Prop × Int :=
 let v11:=(!(f166 p0.1 (1:Int) (65536:Int)))
 let v17:=(bif v11 then true else (!(f166 p0.2.1 (0:Int) (65536:Int))))
 let v23:=(bif v17 then true else (!(f166 p0.2.2.1 (0:Int) (65536:Int))))
 let v33:=(bif (decide ((len p0.2.2.2.1) > 256)) then true else (decide ((len p0.2.2.2.2.1) > 256)))
 let y6:=(p0,p0.2.2.2.1,(len p0.2.2.2.1),())
 let x6:=((0:Int),())
 let e6:=(zC1 (uY6 y6) (vL y6) x6)
 let y15:=(p0,p0.2.2.2.2.1,(len p0.2.2.2.2.1),())
 let x15:=((0:Int),())
 let e15:=(zC1 (uG1 y15) (vG1 y15) x15)
 (((wN7 p0.1 (1:Int) (65536:Int)) ∧ (((!v11) = true → (wN7 p0.2.1 (0:Int) (65536:Int))) ∧ (((!v17) = true → (wN7 p0.2.2.1 (0:Int) (65536:Int))) ∧ ((!v23) = true → ((!v33) = true → ((Am.Ends (uY6 y6) (vL y6) (vP7 y6) x6) ∧ ((tL7 y6 e6) = true → (Am.Ends (uG1 y15) (vG1 y15) (vG0 y15) x15)))))))),(bif v23 then (2:Int) else (bif v33 then (3:Int) else (bif (tL6 y6 e6) then (uL8 y6 e6) else (bif (uY7 y15 e15) then (uA7 y15 e15) else (0:Int))))))
def uY8 (p0:D163):Prop:=(pN2 p0).1
def f165 (p0:D163):Int:=(pN2 p0).2
instance (p0:D163):Decidable (uY8 p0):=by
 unfold uY8 pN2
 try dsimp only
 infer_instance
def sC8:Am.Spec:=fnSpec [(0,(.val T163))] vI [] (fun x=>uY8 x.1) (fun x=>f165 x.1) (fun _=>())
def tS6:Ctx:=Cx tys [(166,uA4),(180,sC6),(181,sC7)] [(6,uL9),(15,uA8)] [] false 88 [] []
theorem tS7:CtxOk Tryz.prog tS6:=xW3 tys_ok rfl ⟨sM1,pN,pN1,trivial⟩ rfl (by kernel_rfl)
noncomputable def sC9:Code:=Tryz.f165.body.getD .skip
noncomputable def rP8:Code:=xX2 sC9 0
theorem rH7:yU9 Tryz.prog tS6 rP8:=xY1 tS7 mixed (sp:=uL9) rfl [[(2,vI)],[(1,(.box T163 (.val T163)))]] (bs:=[]) (by kernel_rfl) trivial (by kernel_rfl) (by kernel_rfl) fun y x=>by kernel_rfl
noncomputable def sW6:Code:=xX2 sC9 1
theorem sM5:yU9 Tryz.prog tS6 sW6:=xY1 tS7 mixed (sp:=uA8) rfl [[(2,vI)],[]] (bs:=[]) (by kernel_rfl) trivial (by kernel_rfl) (by kernel_rfl) fun y x=>by kernel_rfl
theorem pN3:SpecOk Tryz.prog 165 sC8:=xY2 tS7 mixed Tryz.func165 (by kernel_rfl) (bs:=[rP8,sW6]) (by kernel_rfl) ⟨rH7,sM5,trivial⟩ fun x=>by kernel_rfl
abbrev wR:Type:=((List UInt8) × Int × Int × Int × Unit)
abbrev wK1:Type:=(Int × Unit)
def vP8 (y:wR) (x:wK1):Prop × Bool × wK1 × Bool × Bool :=
 let a1:=y.1
 let a18:=x.1
 let v19:=(decide (a18 < y.2.2.2.1))
 let v24:=(decide ((xX5 a1 a18) < 32))
 let v30:=(bif v24 then true else (decide ((xX5 a1 a18) > 126)))
 let v36:=(bif v30 then ((xX5 a1 a18) != 10) else false)
 ((v19 = true → (InB a18 (len a1) ∧ (((!v24) = true → InB a18 (len a1)) ∧ ((v30 = true → InB a18 (len a1)) ∧ ((!v36) = true → InR (a18 + 1)))))),(v19 && (!v36)),((a18 + 1),()),(v19 && v36),(!v19))
def vP9 (y:wR) (x:wK1):Prop:=(vP8 y x).1
def uY9 (y:wR) (x:wK1):Bool:=(vP8 y x).2.1
def vL0 (y:wR) (x:wK1):wK1:=(vP8 y x).2.2.1
def uG2 (y:wR) (x:wK1):Bool:=(vP8 y x).2.2.2.1
def tL8 (y:wR) (x:wK1):Bool:=(vP8 y x).2.2.2.2
instance (y:wR) (x:wK1):Decidable (vP9 y x):=by
 unfold vP9 vP8
 try dsimp only
 infer_instance
def vL1 (y:wR) (x:wK1):Int :=
 (4:Int)
def uM:St → Option Out:=xP3 [(1,vS),(2,vI),(3,vI),(17,vI)] [(18,vI)] uY9 vL0 vP9 fun y x=>[ex 1 (some (uG2 y x)) [(8,vI)] ((vL1 y x),()),ex 2 (some (tL8 y x)) [(1,vS),(2,vI),(3,vI)] (y.1,y.2.1,y.2.2.1,())]
def qK7 (p0:D163) (p1:(List UInt8)) (p2:Int) (p3:Int):Prop × Int :=
 let v12:=(f165 p0)
 let v14:=(v12 != 0)
 let y5:=(p1,p2,p3,(len p1),())
 let x5:=((0:Int),())
 let e5:=(zC1 (uY9 y5) (vL0 y5) x5)
 let v40:=(decide ((len p1) > 128))
 let v43:=(!(f166 p2 (1:Int) (1048576:Int)))
 let m8_3:=(bif v14 then v12 else (bif (uG2 y5 e5) then (vL1 y5 e5) else (bif v40 then (3:Int) else (bif (bif v43 then true else (!(f166 p3 (0:Int) (1048576:Int)))) then (2:Int) else (0:Int)))))
 (((uY8 p0) ∧ ((!v14) = true → ((Am.Ends (uY9 y5) (vL0 y5) (vP9 y5) x5) ∧ ((tL8 y5 e5) = true → ((!v40) = true → ((wN7 p2 (1:Int) (1048576:Int)) ∧ ((!v43) = true → (wN7 p3 (0:Int) (1048576:Int))))))))),m8_3)
def uZ (p0:D163) (p1:(List UInt8)) (p2:Int) (p3:Int):Prop:=(qK7 p0 p1 p2 p3).1
def f147 (p0:D163) (p1:(List UInt8)) (p2:Int) (p3:Int):Int:=(qK7 p0 p1 p2 p3).2
instance (p0:D163) (p1:(List UInt8)) (p2:Int) (p3:Int):Decidable (uZ p0 p1 p2 p3):=by
 unfold uZ qK7
 try dsimp only
 infer_instance
def sD:Am.Spec:=fnSpec [(0,(.val T163)),(1,vS),(2,vI),(3,vI)] vI [] (fun x=>uZ x.1 x.2.1 x.2.2.1 x.2.2.2.1) (fun x=>f147 x.1 x.2.1 x.2.2.1 x.2.2.2.1) (fun _=>())
def sW7:Ctx:=Cx tys [(165,sC8),(166,uA4)] [(5,uM)] [] false 49 [] []
theorem sW8:CtxOk Tryz.prog sW7:=xW3 tys_ok rfl ⟨pN3,sM1,trivial⟩ rfl (by kernel_rfl)
noncomputable def rP9:Code:=Tryz.f147.body.getD .skip
noncomputable def rQ:Code:=xX2 rP9 0
theorem rH8:yU9 Tryz.prog sW7 rQ:=xY1 sW8 mixed (sp:=uM) rfl [[(8,vI)],[(1,vS),(2,vI),(3,vI)]] (bs:=[]) (by kernel_rfl) trivial (by kernel_rfl) (by kernel_rfl) fun y x=>by kernel_rfl
theorem pN4:SpecOk Tryz.prog 147 sD:=xY2 sW8 mixed Tryz.func147 (by kernel_rfl) (bs:=[rQ]) (by kernel_rfl) ⟨rH8,trivial⟩ fun x=>by kernel_rfl
abbrev vD1:Type:=(D163 × Unit × (D163 × (List Int) × Unit) × (List D192) × Int × Unit)
abbrev wR0:Type:=(Int × Int × Unit)
def uQ3 (y:vD1) (x:wR0):Prop × Bool × wR0 :=
 let a14:=y.2.2.2.1
 let a16:=x.2.1
 let v17:=(decide (a16 < y.2.2.2.2.1))
 ((v17 = true → (InB a16 (len a14) ∧ InR (a16 + 1))),v17,((bif ((nth a14 a16 Z192).1 == 63) then a16 else x.1),(a16 + 1),()))
def vQ (y:vD1) (x:wR0):Prop:=(uQ3 y x).1
def uZ0 (y:vD1) (x:wR0):Bool:=(uQ3 y x).2.1
def vL2 (y:vD1) (x:wR0):wR0:=(uQ3 y x).2.2
instance (y:vD1) (x:wR0):Decidable (vQ y x):=by
 unfold vQ uQ3
 try dsimp only
 infer_instance
def uM0 (y:vD1) (x:wR0):Int :=
 x.1
def tL9:List (Nat × Sh):=[(1,(.box T163 (.val T163))),(3,(.ref 12 T213)),(4,vI),(12,(.box T213 (.agg (.cons T163 (.cons (.arr 256 (.int .i64)) .nl)) (.cons (.val T163) (.cons (.val (.arr 256 (.int .i64))) .nl)))))]
def uM1:St → Option Out:=xP3 [(1,(.box T163 (.val T163))),(3,(.ref 12 T213)),(12,(.box T213 (.agg (.cons T163 (.cons (.arr 256 (.int .i64)) .nl)) (.cons (.val T163) (.cons (.val (.arr 256 (.int .i64))) .nl))))),(14,(.val (.sl T192))),(15,vI)] [(4,vI),(16,vI)] uZ0 vL2 vQ fun y x=>[ex 2 none tL9 (y.1,y.2.1,(uM0 y x),y.2.2.1,())]
abbrev wV4:Type:=(D163 × Unit × Int × Unit)
abbrev wM1:Type:=((D163 × (List Int) × Unit) × Int × Unit)
def uA9 (y:wV4) (x:wM1):Prop × Bool × wM1 :=
 let a12:=x.1
 let a26:=x.2.1
 let v27:=(decide (a26 < 256))
 ((v27 = true → (InB a26 256 ∧ InR (a26 + 1))),v27,((a12.1,(List.set a12.2.1 (Int.toNat a26) y.2.2.1),()),(a26 + 1),()))
def vG2 (y:wV4) (x:wM1):Prop:=(uA9 y x).1
def uG3 (y:wV4) (x:wM1):Bool:=(uA9 y x).2.1
def vG3 (y:wV4) (x:wM1):wM1:=(uA9 y x).2.2
instance (y:wV4) (x:wM1):Decidable (vG2 y x):=by
 unfold vG2 uA9
 try dsimp only
 infer_instance
def uB (y:wV4) (x:wM1):(D163 × (List Int) × Unit) :=
 let a12:=x.1
 (a12.1,a12.2.1,())
def uZ1:List (Nat × Sh):=[(1,(.box T163 (.val T163))),(3,(.ref 12 T213)),(12,(.box T213 (.agg (.cons T163 (.cons (.arr 256 (.int .i64)) .nl)) (.cons (.val T163) (.cons (.val (.arr 256 (.int .i64))) .nl)))))]
def uB0:St → Option Out:=xP3 [(1,(.box T163 (.val T163))),(3,(.ref 12 T213)),(4,vI)] [(12,(.box T213 (.agg (.cons T163 (.cons (.arr 256 (.int .i64)) .nl)) (.cons (.val T163) (.cons (.val (.arr 256 (.int .i64))) .nl))))),(26,vI)] uG3 vG3 vG2 fun y x=>[ex 4 none uZ1 (y.1,y.2.1,(uB y x),())]
abbrev wV5:Type:=(Unit × (List D192) × Int × Unit)
abbrev wM2:Type:=((D163 × (List Int) × Unit) × Int × Unit)
def uB1 (y:wV5) (x:wM2):Prop × Bool × wM2 :=
 let a37:=y.2.1
 let a12:=x.1
 let a39:=x.2.1
 let v40:=(decide (a39 < y.2.2.1))
 let v42:=(nth a37 a39 Z192)
 ((v40 = true → (InB a39 (len a37) ∧ (InB v42.1 256 ∧ InR (a39 + 1)))),v40,((a12.1,(List.set a12.2.1 (Int.toNat v42.1) a39),()),(a39 + 1),()))
def vG4 (y:wV5) (x:wM2):Prop:=(uB1 y x).1
def uG4 (y:wV5) (x:wM2):Bool:=(uB1 y x).2.1
def vG5 (y:wV5) (x:wM2):wM2:=(uB1 y x).2.2
instance (y:wV5) (x:wM2):Decidable (vG4 y x):=by
 unfold vG4 uB1
 try dsimp only
 infer_instance
def uB2 (y:wV5) (x:wM2):(D163 × (List Int) × Unit) :=
 let a12:=x.1
 (a12.1,a12.2.1,())
def uZ2:List (Nat × Sh):=[(3,(.ref 12 T213)),(12,(.box T213 (.agg (.cons T163 (.cons (.arr 256 (.int .i64)) .nl)) (.cons (.val T163) (.cons (.val (.arr 256 (.int .i64))) .nl)))))]
def uB3:St → Option Out:=xP3 [(3,(.ref 12 T213)),(37,(.val (.sl T192))),(38,vI)] [(12,(.box T213 (.agg (.cons T163 (.cons (.arr 256 (.int .i64)) .nl)) (.cons (.val T163) (.cons (.val (.arr 256 (.int .i64))) .nl))))),(39,vI)] uG4 vG5 vG4 fun y x=>[ex 6 none uZ2 (y.1,(uB2 y x),())]
def pN5 (p0:D163):Prop × D213 :=
 let y4:=(p0,(),(p0,(List.replicate 256 (0:Int)),()),p0.2.2.2.1,(len p0.2.2.2.1),())
 let x4:=((-1:Int),(0:Int),())
 let y10:=(p0,(),(uM0 y4 (zC1 (uZ0 y4) (vL2 y4) x4)),())
 let x10:=((p0,(List.replicate 256 (0:Int)),()),(0:Int),())
 let r10_4_0:=(uB y10 (zC1 (uG3 y10) (vG3 y10) x10))
 let y15:=((),p0.2.2.2.1,(len p0.2.2.2.1),())
 let x15:=((r10_4_0.1,r10_4_0.2.1,()),(0:Int),())
 let r15_6_0:=(uB2 y15 (zC1 (uG4 y15) (vG5 y15) x15))
 (((Am.Ends (uZ0 y4) (vL2 y4) (vQ y4) x4) ∧ ((Am.Ends (uG3 y10) (vG3 y10) (vG2 y10) x10) ∧ (Am.Ends (uG4 y15) (vG5 y15) (vG4 y15) x15))),(r15_6_0.1,r15_6_0.2.1,()))
def uZ3 (p0:D163):Prop:=(pN5 p0).1
def f148 (p0:D163):D213:=(pN5 p0).2
instance (p0:D163):Decidable (uZ3 p0):=by
 unfold uZ3 pN5
 try dsimp only
 infer_instance
def sD0:Am.Spec:=fnSpec [(0,(.val T163))] (.val (.ptr T213)) [] (fun x=>uZ3 x.1) (fun x=>f148 x.1) (fun _=>())
def uQ4:Ctx:=Cx tys [] [(4,uM1),(10,uB0),(15,uB3)] [(39,[(3,12,0,0)])] false 53 [] []
theorem uQ5:CtxOk Tryz.prog uQ4:=xW3 tys_ok rfl trivial rfl (by kernel_rfl)
noncomputable def uZ4:Code:=Tryz.f148.body.getD .skip
noncomputable def rQ0:Code:=xX2 uZ4 0
theorem rH9:yU9 Tryz.prog uQ4 rQ0:=xY1 uQ5 mixed (sp:=uM1) rfl [tL9] (bs:=[]) (by kernel_rfl) trivial (by kernel_rfl) (by kernel_rfl) fun y x=>by kernel_rfl
noncomputable def sW9:Code:=xX2 uZ4 1
theorem sM6:yU9 Tryz.prog uQ4 sW9:=xY1 uQ5 mixed (sp:=uB0) rfl [uZ1] (bs:=[]) (by kernel_rfl) trivial (by kernel_rfl) (by kernel_rfl) fun y x=>by kernel_rfl
noncomputable def sX:Code:=xX2 uZ4 2
theorem sM7:yU9 Tryz.prog uQ4 sX:=xY1 uQ5 mixed (sp:=uB3) rfl [uZ2] (bs:=[]) (by kernel_rfl) trivial (by kernel_rfl) (by kernel_rfl) fun y x=>by kernel_rfl
theorem pN6:SpecOk Tryz.prog 148 sD0:=xY2 uQ5 mixed Tryz.func148 (by kernel_rfl) (bs:=[rQ0,sW9,sX]) (by kernel_rfl) ⟨rH9,sM6,sM7,trivial⟩ fun x=>by kernel_rfl
abbrev wN8:Type:=(Int × D163 × D213 × (List (List D125)) × Int × Int × D125 × (List (List UInt8)) × Int × Int × (List D125) × Int × Int × (List (List D125)) × Int × Int × (List D125) × Int × Unit)
abbrev wM3:Type:=((List D125) × Int × Unit)
def uB4 (y:wN8) (x:wM3):Prop × Bool × wM3 :=
 let a2:=y.1
 let a4:=y.2.1
 let a89:=y.2.2.2.2.2.2.2.2.2.2.2.2.2.2.2.2.1
 let a24:=x.1
 let a91:=x.2.1
 let v92:=(decide (a91 < y.2.2.2.2.2.2.2.2.2.2.2.2.2.2.2.2.2.1))
 let v94:=(nth a89 a91 Z125)
 let v104:=(IntKind.wrap .i64 ((IntKind.wrap .i64 (y.2.2.2.2.2.2.1.2.1 + v94.1)) * a2))
 let v119:=(IntKind.wrap .i64 ((IntKind.wrap .i64 ((IntKind.wrap .i64 (a4.2.1 + (IntKind.wrap .i64 (y.2.2.2.2.2.1 * a4.2.2.1)))) - v94.2.1)) * a2))
 ((v92 = true → (InB a91 (len a89) ∧ ((wA8 v104 a4.1) ∧ ((wA8 v119 a4.1) ∧ (InB a91 (len a24) ∧ a91 < len a24))))),v92,((List.set a24 (Int.toNat a91) ((f108 v104 a4.1),(f108 v119 a4.1),())),(IntKind.wrap .i64 (a91 + 1)),()))
def wN9 (y:wN8) (x:wM3):Prop:=(uB4 y x).1
def wV6 (y:wN8) (x:wM3):Bool:=(uB4 y x).2.1
def wI5 (y:wN8) (x:wM3):wM3:=(uB4 y x).2.2
instance (y:wN8) (x:wM3):Decidable (wN9 y x):=by
 unfold wN9 uB4
 try dsimp only
 infer_instance
def uB5 (y:wN8) (x:wM3):(List D125) :=
 x.1
def uZ5:List (Nat × Sh):=[(2,vI),(4,(.box T163 (.val T163))),(11,(.val (.ptr T213))),(12,(.own (.sl T125) 1012 false)),(13,vI),(14,vI),(19,(.box T125 (.val T125))),(24,(.own T125 1024 true)),(41,(.val (.sl .str))),(42,vI),(43,vI),(54,(.own T125 1016 false)),(55,vI),(56,vI),(74,(.own (.sl T125) 1020 false)),(75,vI),(76,vI)]
def uB6:St → Option Out:=xP3 [(2,vI),(4,(.box T163 (.val T163))),(11,(.val (.ptr T213))),(12,(.own (.sl T125) 1012 false)),(13,vI),(14,vI),(19,(.box T125 (.val T125))),(41,(.val (.sl .str))),(42,vI),(43,vI),(54,(.own T125 1016 false)),(55,vI),(56,vI),(74,(.own (.sl T125) 1020 false)),(75,vI),(76,vI),(89,(.val (.sl T125))),(90,vI)] [(24,(.own T125 1024 true)),(91,vI)] wV6 wI5 wN9 fun y x=>[ex 8 none uZ5 (y.1,y.2.1,y.2.2.1,y.2.2.2.1,y.2.2.2.2.1,y.2.2.2.2.2.1,y.2.2.2.2.2.2.1,(uB5 y x),y.2.2.2.2.2.2.2.1,y.2.2.2.2.2.2.2.2.1,y.2.2.2.2.2.2.2.2.2.1,y.2.2.2.2.2.2.2.2.2.2.1,y.2.2.2.2.2.2.2.2.2.2.2.1,y.2.2.2.2.2.2.2.2.2.2.2.2.1,y.2.2.2.2.2.2.2.2.2.2.2.2.2.1,y.2.2.2.2.2.2.2.2.2.2.2.2.2.2.1,y.2.2.2.2.2.2.2.2.2.2.2.2.2.2.2.1,())]
abbrev wB2:Type:=(Int × D163 × D213 × Int × D125 × (List (List UInt8)) × Int × Int × (List D125) × Int × Int × (List (List D125)) × Int × Unit)
abbrev wB9:Type:=((List (List D125)) × Int × Int × Unit)
def wW8 (y:wB2) (x:wB9):Prop × Bool × wB9 × Bool × Bool :=
 let a74:=y.2.2.2.2.2.2.2.2.2.2.2.1
 let a75:=y.2.2.2.2.2.2.2.2.2.2.2.2.1
 let a12:=x.1
 let a76:=x.2.2.1
 let v77:=(decide (a76 < a75))
 let v78:=(nth a74 a76 ([]:List D125))
 let v83:=(IntKind.wrap .i64 (x.2.1 + (len v78)))
 let v85:=(decide (v83 > 4096))
 let v87:=(len v78)
 let y25:=(y.1,y.2.1,y.2.2.1,a12,v83,y.2.2.2.1,y.2.2.2.2.1,y.2.2.2.2.2.1,y.2.2.2.2.2.2.1,y.2.2.2.2.2.2.2.1,y.2.2.2.2.2.2.2.2.1,y.2.2.2.2.2.2.2.2.2.1,y.2.2.2.2.2.2.2.2.2.2.1,a74,a75,a76,v78,(len v78),())
 let x25:=((List.replicate (Int.toNat v87) Z125),(0:Int),())
 let v128:=([(uB5 y25 (zC1 (wV6 y25) (wI5 y25) x25))]:List (List D125))
 ((v77 = true → (InB a76 (len a74) ∧ ((!v85) = true → ((0 ≤ v87 ∧ v87 ≤ v87 ∧ v87 ≤ 4294967296) ∧ ((Am.Ends (wV6 y25) (wI5 y25) (wN9 y25) x25) ∧ ((List.length a12 + List.length v128:Nat):Int) ≤ 4294967296))))),(v77 && (!v85)),((a12 ++ v128),v83,(IntKind.wrap .i64 (a76 + 1)),()),(v77 && v85),(!v77))
def wH1 (y:wB2) (x:wB9):Prop:=(wW8 y x).1
def wA5 (y:wB2) (x:wB9):Bool:=(wW8 y x).2.1
def xZ0 (y:wB2) (x:wB9):wB9:=(wW8 y x).2.2.1
def uZ6 (y:wB2) (x:wB9):Bool:=(wW8 y x).2.2.2.1
def uZ7 (y:wB2) (x:wB9):Bool:=(wW8 y x).2.2.2.2
instance (y:wB2) (x:wB9):Decidable (wH1 y x):=by
 unfold wH1 wW8
 try dsimp only
 infer_instance
def vG6 (y:wB2) (x:wB9):(List (List D125)) :=
 ([]:List (List D125))
def uB7 (y:wB2) (x:wB9):Int :=
 (3:Int)
def uZ8:List (Nat × Sh):=[(8,(.own (.sl T125) 0 false)),(9,vI)]
def uB8 (y:wB2) (x:wB9):(List (List D125)) :=
 x.1
def uB9 (y:wB2) (x:wB9):Int :=
 x.2.1
def uZ9:List (Nat × Sh):=[(2,vI),(4,(.box T163 (.val T163))),(11,(.val (.ptr T213))),(12,(.own (.sl T125) 1012 false)),(13,vI),(14,vI),(41,(.val (.sl .str))),(42,vI),(43,vI),(54,(.own T125 1016 false)),(55,vI),(56,vI)]
def uC:St → Option Out:=xP3 [(2,vI),(4,(.box T163 (.val T163))),(11,(.val (.ptr T213))),(14,vI),(19,(.box T125 (.val T125))),(41,(.val (.sl .str))),(42,vI),(43,vI),(54,(.own T125 1016 false)),(55,vI),(56,vI),(74,(.own (.sl T125) 1020 false)),(75,vI)] [(12,(.own (.sl T125) 1012 false)),(13,vI),(76,vI)] wA5 xZ0 wH1 fun y x=>[ex 1 (some (uZ6 y x)) uZ8 ((vG6 y x),(uB7 y x),()),ex 6 (some (uZ7 y x)) uZ9 (y.1,y.2.1,y.2.2.1,(uB8 y x),(uB9 y x),y.2.2.2.1,y.2.2.2.2.2.1,y.2.2.2.2.2.2.1,y.2.2.2.2.2.2.2.1,y.2.2.2.2.2.2.2.2.1,y.2.2.2.2.2.2.2.2.2.1,y.2.2.2.2.2.2.2.2.2.2.1,())]
abbrev xZ8:Type:=(Int × D163 × D213 × Int × (List (List UInt8)) × Int × Int × (List D125) × Int × Unit)
abbrev xZ9:Type:=((List (List D125)) × Int × Int × Unit)
def vD2 (y:xZ8) (x:xZ9):Prop × Bool × xZ9 × Bool × Bool :=
 let a4:=y.2.1
 let a54:=y.2.2.2.2.2.2.2.1
 let a55:=y.2.2.2.2.2.2.2.2.1
 let a56:=x.2.2.1
 let v57:=(decide (a56 < a55))
 let v58:=(nth a54 a56 Z125)
 let v65:=(nth a4.2.2.2.1 v58.1 Z192)
 let v68:=(f126 v65.2.2.1)
 let v72:=(v68.2.1 != 0)
 let y18:=(y.1,a4,y.2.2.1,y.2.2.2.1,v58,y.2.2.2.2.1,y.2.2.2.2.2.1,y.2.2.2.2.2.2.1,a54,a55,a56,v68.1,(len v68.1),())
 let x18:=(x.1,x.2.1,(0:Int),())
 let e18:=(zC1 (wA5 y18) (xZ0 y18) x18)
 ((v57 = true → (InB a56 (len a54) ∧ (InB v58.1 (len a4.2.2.2.1) ∧ ((vK0 v65.2.2.1) ∧ ((!v72) = true → (Am.Ends (wA5 y18) (xZ0 y18) (wH1 y18) x18)))))),(v57 && ((!v72) && (uZ7 y18 e18))),((uB8 y18 e18),(uB9 y18 e18),(IntKind.wrap .i64 (a56 + 1)),()),(v57 && (v72 || ((!v72) && (uZ6 y18 e18)))),(!v57))
def wE8 (y:xZ8) (x:xZ9):Prop:=(vD2 y x).1
def wB (y:xZ8) (x:xZ9):Bool:=(vD2 y x).2.1
def xY9 (y:xZ8) (x:xZ9):xZ9:=(vD2 y x).2.2.1
def tA (y:xZ8) (x:xZ9):Bool:=(vD2 y x).2.2.2.1
def tA0 (y:xZ8) (x:xZ9):Bool:=(vD2 y x).2.2.2.2
instance (y:xZ8) (x:xZ9):Decidable (wE8 y x):=by
 unfold wE8 vD2
 try dsimp only
 infer_instance
def vG7 (y:xZ8) (x:xZ9):(List (List D125)) :=
 let a4:=y.2.1
 let a54:=y.2.2.2.2.2.2.2.1
 let a56:=x.2.2.1
 let v58:=(nth a54 a56 Z125)
 let v68:=(f126 (nth a4.2.2.2.1 v58.1 Z192).2.2.1)
 let y18:=(y.1,a4,y.2.2.1,y.2.2.2.1,v58,y.2.2.2.2.1,y.2.2.2.2.2.1,y.2.2.2.2.2.2.1,a54,y.2.2.2.2.2.2.2.2.1,a56,v68.1,(len v68.1),())
 (bif (v68.2.1 != 0) then [] else (vG6 y18 (zC1 (wA5 y18) (xZ0 y18) (x.1,x.2.1,(0:Int),()))))
def uC0 (y:xZ8) (x:xZ9):Int :=
 let a4:=y.2.1
 let a54:=y.2.2.2.2.2.2.2.1
 let a56:=x.2.2.1
 let v58:=(nth a54 a56 Z125)
 let v68:=(f126 (nth a4.2.2.2.1 v58.1 Z192).2.2.1)
 let y18:=(y.1,a4,y.2.2.1,y.2.2.2.1,v58,y.2.2.2.2.1,y.2.2.2.2.2.1,y.2.2.2.2.2.2.1,a54,y.2.2.2.2.2.2.2.2.1,a56,v68.1,(len v68.1),())
 (bif (v68.2.1 != 0) then v68.2.1 else (uB7 y18 (zC1 (wA5 y18) (xZ0 y18) (x.1,x.2.1,(0:Int),()))))
def tA1:List (Nat × Sh):=[(8,(.own (.sl T125) 0 false)),(9,vI)]
def uC1 (y:xZ8) (x:xZ9):(List (List D125)) :=
 x.1
def uC2 (y:xZ8) (x:xZ9):Int :=
 x.2.1
def tA2:List (Nat × Sh):=[(2,vI),(4,(.box T163 (.val T163))),(11,(.val (.ptr T213))),(12,(.own (.sl T125) 1012 false)),(13,vI),(41,(.val (.sl .str))),(42,vI),(43,vI)]
def uC3:St → Option Out:=xP3 [(2,vI),(4,(.box T163 (.val T163))),(11,(.val (.ptr T213))),(14,vI),(41,(.val (.sl .str))),(42,vI),(43,vI),(54,(.own T125 1016 false)),(55,vI)] [(12,(.own (.sl T125) 1012 false)),(13,vI),(56,vI)] wB xY9 wE8 fun y x=>[ex 1 (some (tA y x)) tA1 ((vG7 y x),(uC0 y x),()),ex 4 (some (tA0 y x)) tA2 (y.1,y.2.1,y.2.2.1,(uC1 y x),(uC2 y x),y.2.2.2.2.1,y.2.2.2.2.2.1,y.2.2.2.2.2.2.1,())]
abbrev wD8:Type:=(Int × D163 × D213 × (List (List UInt8)) × Int × Unit)
abbrev wB5:Type:=((List (List D125)) × Int × Int × Unit)
def vQ0 (y:wD8) (x:wB5):Prop × Bool × wB5 × Bool × Bool :=
 let a11:=y.2.2.1
 let a41:=y.2.2.2.1
 let a42:=y.2.2.2.2.1
 let a43:=x.2.2.1
 let v44:=(decide (a43 < a42))
 let v46:=(nth a41 a43 ([]:List UInt8))
 let v51:=(f150 a11 v46)
 let y12:=(y.1,y.2.1,a11,a43,a41,a42,a43,v51.1,(len v51.1),())
 let x12:=(x.1,x.2.1,(0:Int),())
 let e12:=(zC1 (wB y12) (xY9 y12) x12)
 ((v44 = true → (InB a43 (len a41) ∧ ((vI4 a11 v46) ∧ (Am.Ends (wB y12) (xY9 y12) (wE8 y12) x12)))),(v44 && (tA0 y12 e12)),((uC1 y12 e12),(uC2 y12 e12),(IntKind.wrap .i64 (a43 + 1)),()),(v44 && (tA y12 e12)),(!v44))
def wO (y:wD8) (x:wB5):Prop:=(vQ0 y x).1
def wW9 (y:wD8) (x:wB5):Bool:=(vQ0 y x).2.1
def wE4 (y:wD8) (x:wB5):wB5:=(vQ0 y x).2.2.1
def uG5 (y:wD8) (x:wB5):Bool:=(vQ0 y x).2.2.2.1
def rI (y:wD8) (x:wB5):Bool:=(vQ0 y x).2.2.2.2
instance (y:wD8) (x:wB5):Decidable (wO y x):=by
 unfold wO vQ0
 try dsimp only
 infer_instance
def vL3 (y:wD8) (x:wB5):(List (List D125)) :=
 let a11:=y.2.2.1
 let a41:=y.2.2.2.1
 let a43:=x.2.2.1
 let v51:=(f150 a11 (nth a41 a43 ([]:List UInt8)))
 let y12:=(y.1,y.2.1,a11,a43,a41,y.2.2.2.2.1,a43,v51.1,(len v51.1),())
 (vG7 y12 (zC1 (wB y12) (xY9 y12) (x.1,x.2.1,(0:Int),())))
def uM2 (y:wD8) (x:wB5):Int :=
 let a11:=y.2.2.1
 let a41:=y.2.2.2.1
 let a43:=x.2.2.1
 let v51:=(f150 a11 (nth a41 a43 ([]:List UInt8)))
 let y12:=(y.1,y.2.1,a11,a43,a41,y.2.2.2.2.1,a43,v51.1,(len v51.1),())
 (uC0 y12 (zC1 (wB y12) (xY9 y12) (x.1,x.2.1,(0:Int),())))
def tM:List (Nat × Sh):=[(8,(.own (.sl T125) 0 false)),(9,vI)]
def vL4 (y:wD8) (x:wB5):(List (List D125)) :=
 x.1
def tM0:List (Nat × Sh):=[(12,(.own (.sl T125) 1012 false))]
def uM3:St → Option Out:=xP3 [(2,vI),(4,(.box T163 (.val T163))),(11,(.val (.ptr T213))),(41,(.val (.sl .str))),(42,vI)] [(12,(.own (.sl T125) 1012 false)),(13,vI),(43,vI)] wW9 wE4 wO fun y x=>[ex 1 (some (uG5 y x)) tM ((vL3 y x),(uM2 y x),()),ex 2 (some (rI y x)) tM0 ((vL4 y x),())]
def qK8 (p0:D163) (p1:(List UInt8)) (p2:Int) (p3:Int):Prop × ((List (List D125)) × Int × Unit) :=
 let v31:=(f147 p0 p1 p2 p3)
 let v33:=(v31 != 0)
 let v36:=(f148 p0)
 let v41:=(f149 v36 p1 p2 p3)
 let y8:=(p2,p0,v36,v41,(len v41),())
 let x8:=(([]:List (List D125)),(0:Int),(0:Int),())
 let e8:=(zC1 (wW9 y8) (wE4 y8) x8)
 let q8_1:=(uG5 y8 e8)
 (((uZ p0 p1 p2 p3) ∧ ((!v33) = true → ((uZ3 p0) ∧ ((vF1 v36 p1 p2 p3) ∧ (Am.Ends (wW9 y8) (wE4 y8) (wO y8) x8))))),((bif v33 then [] else (bif q8_1 then (vL3 y8 e8) else (vL4 y8 e8))),(bif v33 then v31 else (bif q8_1 then (uM2 y8 e8) else (0:Int))),()))
def tA3 (p0:D163) (p1:(List UInt8)) (p2:Int) (p3:Int):Prop:=(qK8 p0 p1 p2 p3).1
def f130 (p0:D163) (p1:(List UInt8)) (p2:Int) (p3:Int):((List (List D125)) × Int × Unit):=(qK8 p0 p1 p2 p3).2
instance (p0:D163) (p1:(List UInt8)) (p2:Int) (p3:Int):Decidable (tA3 p0 p1 p2 p3):=by
 unfold tA3 qK8
 try dsimp only
 infer_instance
def sD1:Am.Spec:=fnSpec [(0,(.val T163)),(1,vS),(2,vI),(3,vI)] (.tup (.cons (.own (.sl T125) 0 false) (.cons vI .nl))) [] (fun x=>tA3 x.1 x.2.1 x.2.2.1 x.2.2.2.1) (fun x=>f130 x.1 x.2.1 x.2.2.1 x.2.2.2.1) (fun _=>())
def uC4:Ctx:=Cx tys [(108,wE9),(126,uW3),(147,sD),(148,sD0),(149,tY7),(150,uT1)] [(25,uB6),(18,uC),(12,uC3),(8,uM3)] [(21,[(4,0,51,1016)]),(29,[(4,0,68,1020)]),(47,[(4,0,88,1024)]),(58,[(1,24,0,0)]),(59,[(4,0,129,1012)]),(67,[(4,0,1012,0)])] true 134 [] [88]
theorem uC5:CtxOk Tryz.prog uC4:=xW3 tys_ok rfl ⟨wW1,rO2,pN4,pN6,pE1,rL4,trivial⟩ rfl (by kernel_rfl)
noncomputable def rQ1:Code:=Tryz.f130.body.getD .skip
noncomputable def sM8:Code:=xX2 rQ1 0
noncomputable def tS8:Code:=xX2 sM8 0
noncomputable def tS9:Code:=xX2 tS8 0
noncomputable def sX0:Code:=xX2 tS9 0
theorem sM9:yU9 Tryz.prog uC4 sX0:=xY1 uC5 mixed (sp:=uB6) rfl [uZ5] (bs:=[]) (by kernel_rfl) trivial (by kernel_rfl) (by kernel_rfl) fun y x=>by kernel_rfl
theorem sN:yU9 Tryz.prog uC4 tS9:=xY1 uC5 mixed (sp:=uC) rfl [uZ8,uZ9] (bs:=[sX0]) (by kernel_rfl) ⟨sM9,trivial⟩ (by kernel_rfl) (by kernel_rfl) fun y x=>by kernel_rfl
theorem sN0:yU9 Tryz.prog uC4 tS8:=xY1 uC5 mixed (sp:=uC3) rfl [tA1,tA2] (bs:=[tS9]) (by kernel_rfl) ⟨sN,trivial⟩ (by kernel_rfl) (by kernel_rfl) fun y x=>by kernel_rfl
theorem rI0:yU9 Tryz.prog uC4 sM8:=xY1 uC5 mixed (sp:=uM3) rfl [tM,tM0] (bs:=[tS8]) (by kernel_rfl) ⟨sN0,trivial⟩ (by kernel_rfl) (by kernel_rfl) fun y x=>by kernel_rfl
theorem pN7:SpecOk Tryz.prog 130 sD1:=xY2 uC5 mixed Tryz.func130 (by kernel_rfl) (bs:=[sM8]) (by kernel_rfl) ⟨rI0,trivial⟩ fun x=>by kernel_rfl
def f151 (p0:List UInt8):List (List UInt8):=Lib.fields p0
def tA4 (p0:List UInt8):Prop:=(List.length p0:Int) ≤ 4294967280 ∧ (p0.all fun b=>decide (b.toNat < 128)) = true
instance (p0:List UInt8):Decidable (tA4 p0):=by
  unfold tA4
  infer_instance
def pN8:List (Nat × Sh):=[(0,(.val .str))]
def pN9:Sh:=(.val (.sl .str))
def pO:List (Nat × Sh):=[]
def sD2:Am.Spec:=fnSpec pN8 pN9 pO (fun x=>tA4 x.1) (fun x=>f151 x.1) (fun _=>())
theorem tab0:G0 = Lib.asciiSpaceTab:=by kernel_rfl
theorem pO0:SpecOk Tryz.prog 151 sD2:=xV7 (F:=f151) (e:=9) (ok:=tA4) ⟨_,Tryz.func151,by kernel_rfl,by decide⟩ fun s w χ hok hg =>
  Any.strings_Fields_core Tryz.lays157 (by kernel_rfl) s w (by have h1:=hok.1; rw [Array.length_toList] at h1; have h2:s.data.size = s.size:=rfl; omega)
    (fun j b hj=>by have:=List.all_eq_true.1 hok.2 b (List.mem_of_getElem? hj); simpa using this)
    (fun c hc=>by
      have h1:=xW6 hg (g:=0) (n:=256) (k:=.u8) (l:=G0) (List.mem_cons_self ..) c hc
      rw [tab0,Lib.asciiSpaceTab_at c hc] at h1
      exact h1)
def pO1 (p0:(List UInt8)) (p1:Int):Prop × Int :=
 ((tQ2 p0 p1),(f173 p0 p1))
def tA5 (p0:(List UInt8)) (p1:Int):Prop:=(pO1 p0 p1).1
def f152 (p0:(List UInt8)) (p1:Int):Int:=(pO1 p0 p1).2
instance (p0:(List UInt8)) (p1:Int):Decidable (tA5 p0 p1):=by
 unfold tA5 pO1
 try dsimp only
 infer_instance
def sD3:Am.Spec:=fnSpec [(0,vS),(1,(.val (.int .u8)))] vI [] (fun x=>tA5 x.1 x.2.1) (fun x=>f152 x.1 x.2.1) (fun _=>())
def qK9:Ctx:=Cx tys [(173,tX8)] [] [] false 8 [] []
theorem qL:CtxOk Tryz.prog qK9:=xW3 tys_ok rfl ⟨pB8,trivial⟩ rfl (by kernel_rfl)
theorem pO2:SpecOk Tryz.prog 152 sD3:=xY2 qL mixed Tryz.func152 (by kernel_rfl) (bs:=[]) (by kernel_rfl) trivial fun x=>by kernel_rfl
def pO3 (p0:Int) (p1:Int) (p2:Int) (p3:Int):Prop × (List D128) :=
 let v30:=([((1:Int),([(p0,p1,()),Z125,Z125]:List D125),()),((2:Int),([(p2,p1,()),Z125,Z125]:List D125),()),((2:Int),([(p2,p3,()),Z125,Z125]:List D125),()),((2:Int),([(p0,p3,()),Z125,Z125]:List D125),()),((5:Int),(List.replicate 3 Z125),())]:List D128)
 (True,v30)
def tT (p0:Int) (p1:Int) (p2:Int) (p3:Int):Prop:=(pO3 p0 p1 p2 p3).1
def f174 (p0:Int) (p1:Int) (p2:Int) (p3:Int):(List D128):=(pO3 p0 p1 p2 p3).2
instance (p0:Int) (p1:Int) (p2:Int) (p3:Int):Decidable (tT p0 p1 p2 p3):=by
 unfold tT pO3
 try dsimp only
 infer_instance
def sD4:Am.Spec:=fnSpec [(0,vI),(1,vI),(2,vI),(3,vI)] (.own T128 0 false) [] (fun x=>tT x.1 x.2.1 x.2.2.1 x.2.2.2.1) (fun x=>f174 x.1 x.2.1 x.2.2.1 x.2.2.2.1) (fun _=>())
def qL0:Ctx:=Cx tys [] [] [(3,[(4,0,30,0)])] false 31 [] []
theorem qL1:CtxOk Tryz.prog qL0:=xW3 tys_ok rfl trivial rfl (by kernel_rfl)
theorem pO4:SpecOk Tryz.prog 174 sD4:=xY2 qL1 mixed Tryz.func174 (by kernel_rfl) (bs:=[]) (by kernel_rfl) trivial fun x=>by kernel_rfl
abbrev vD3:Type:=(Int × Int × (List D128) × Int × Unit)
abbrev wR1:Type:=(Int × Unit)
def uQ6 (y:vD3) (x:wR1):Prop × Bool × wR1 :=
 let a7:=x.1
 let v20:=(decide ((a7 + 1) < 7))
 let v24:=(a7 + 1)
 let v28:=(bif v20 then ((xY3 .i64 (xY4 y.2.1 v24 64) (1:Int)) == 1) else false)
 ((InR (a7 + 1) ∧ ((v20 = true → InR (a7 + 1)) ∧ ((v20 = true → 0 ≤ v24) ∧ (v28 = true → InR (a7 + 1))))),v28,((a7 + 1),()))
def vQ1 (y:vD3) (x:wR1):Prop:=(uQ6 y x).1
def tA6 (y:vD3) (x:wR1):Bool:=(uQ6 y x).2.1
def vL5 (y:vD3) (x:wR1):wR1:=(uQ6 y x).2.2
instance (y:vD3) (x:wR1):Decidable (vQ1 y x):=by
 unfold vQ1 uQ6
 try dsimp only
 infer_instance
def uM4 (y:vD3) (x:wR1):Int :=
 x.1
def tM1:List (Nat × Sh):=[(0,vI),(1,vI),(5,(.own T128 1005 false)),(6,vI),(7,vI)]
def uM5:St → Option Out:=xP3 [(0,vI),(1,vI),(5,(.own T128 1005 false)),(6,vI)] [(7,vI)] tA6 vL5 vQ1 fun y x=>[ex 4 none tM1 (y.1,y.2.1,y.2.2.1,y.2.2.2.1,(uM4 y x),())]
abbrev vD4:Type:=(Unit)
abbrev wR2:Type:=(Int × Int × (List D128) × Int × Unit)
def uQ7 (y:vD4) (x:wR2):Prop × Bool × wR2 :=
 let a0:=x.1
 let a1:=x.2.1
 let a5:=x.2.2.1
 let a6:=x.2.2.2.1
 let v9:=(decide (a6 < 7))
 let v16:=((xY3 .i64 (xY4 a1 a6 64) (1:Int)) == 0)
 let y7:=(a0,a1,a5,a6,())
 let x7:=(a6,())
 let r7_4_0:=(uM4 y7 (zC1 (tA6 y7) (vL5 y7) x7))
 let v33:=(100 * a0)
 let v35:=(100 * a6)
 let v36:=(700 - v35)
 let v38:=(100 * a0)
 let v39:=(v38 + 100)
 let v41:=(100 * r7_4_0)
 let v42:=(600 - v41)
 let v43:=(f174 v33 v36 v39 v42)
 let c:=(v16 || (!v16))
 let m6:=(bif v16 then a6 else r7_4_0)
 ((v9 = true → (0 ≤ a6 ∧ (((!v16) = true → ((Am.Ends (tA6 y7) (vL5 y7) (vQ1 y7) x7) ∧ (InR (100 * a0) ∧ (InR (100 * a6) ∧ (InR (700 - v35) ∧ (InR (100 * a0) ∧ (InR (v38 + 100) ∧ (InR (100 * r7_4_0) ∧ (InR (600 - v41) ∧ ((tT v33 v36 v39 v42) ∧ ((List.length a5 + List.length v43:Nat):Int) ≤ 4294967296)))))))))) ∧ (c = true → InR (m6 + 1))))),(v9 && c),((bif v16 then a0 else a0),(bif v16 then a1 else a1),(bif v16 then a5 else (a5 ++ v43)),(m6 + 1),()))
def vQ2 (y:vD4) (x:wR2):Prop:=(uQ7 y x).1
def tA7 (y:vD4) (x:wR2):Bool:=(uQ7 y x).2.1
def vL6 (y:vD4) (x:wR2):wR2:=(uQ7 y x).2.2
instance (y:vD4) (x:wR2):Decidable (vQ2 y x):=by
 unfold vQ2 uQ7
 try dsimp only
 infer_instance
def uM6 (y:vD4) (x:wR2):(List D128) :=
 x.2.2.1
def uM7:St → Option Out:=xP3 [] [(0,vI),(1,vI),(5,(.own T128 1005 false)),(6,vI)] tA7 vL6 vQ2 fun y x=>[ex 2 none [(5,(.own T128 1005 false))] ((uM6 y x),())]
def pO5 (p0:Int) (p1:Int):Prop × (List D128) :=
 let x3:=(p0,p1,([]:List D128),(0:Int),())
 ((Am.Ends (tA7 ()) (vL6 ()) (vQ2 ()) x3),(uM6 () (zC1 (tA7 ()) (vL6 ()) x3)))
def tT0 (p0:Int) (p1:Int):Prop:=(pO5 p0 p1).1
def f153 (p0:Int) (p1:Int):(List D128):=(pO5 p0 p1).2
instance (p0:Int) (p1:Int):Decidable (tT0 p0 p1):=by
 unfold tT0 pO5
 try dsimp only
 infer_instance
def sD5:Am.Spec:=fnSpec [(0,vI),(1,vI)] (.own T128 0 false) [] (fun x=>tT0 x.1 x.2.1) (fun x=>f153 x.1 x.2.1) (fun _=>())
def tT1:Ctx:=Cx tys [(174,sD4)] [(7,uM5),(3,uM7)] [(19,[(4,0,44,1005)]),(23,[(4,0,1005,0)])] false 47 [] []
theorem tT2:CtxOk Tryz.prog tT1:=xW3 tys_ok rfl ⟨pO4,trivial⟩ rfl (by kernel_rfl)
noncomputable def rQ2:Code:=Tryz.f153.body.getD .skip
noncomputable def sN1:Code:=xX2 rQ2 0
noncomputable def rQ3:Code:=xX2 sN1 0
theorem rI1:yU9 Tryz.prog tT1 rQ3:=xY1 tT2 mixed (sp:=uM5) rfl [tM1] (bs:=[]) (by kernel_rfl) trivial (by kernel_rfl) (by kernel_rfl) fun y x=>by kernel_rfl
theorem rI2:yU9 Tryz.prog tT1 sN1:=xY1 tT2 mixed (sp:=uM7) rfl [[(5,(.own T128 1005 false))]] (bs:=[rQ3]) (by kernel_rfl) ⟨rI1,trivial⟩ (by kernel_rfl) (by kernel_rfl) fun y x=>by kernel_rfl
theorem pO6:SpecOk Tryz.prog 153 sD5:=xY2 tT2 mixed Tryz.func153 (by kernel_rfl) (bs:=[sN1]) (by kernel_rfl) ⟨rI2,trivial⟩ fun x=>by kernel_rfl
abbrev wR3:Type:=((List UInt8) × (List (List UInt8)) × Int × Int × Int × Unit)
abbrev wK2:Type:=((Int × Int × Int × (List D192) × (List D197) × Unit) × (Int × Int × Int × (List D192) × (List D197) × Unit) × (Int × Int × (List D128) × Unit) × Int × Unit)
def uQ8 (y:wR3) (x:wK2):Prop × Bool × wK2 :=
 let a3:=y.1
 let a0:=x.1
 let a1:=x.2.1
 let a4:=x.2.2.1
 let a22:=x.2.2.2.1
 let v23:=(decide (a22 < y.2.2.2.2.1))
 let v27:=(2 * a22)
 let v28:=(xX5 a3 v27)
 let v29:=(f152 ([48,49,50,51,52,53,54,55,56,57,97,98,99,100,101,102]:List UInt8) v28)
 let v30:=(16 * v29)
 let v33:=(2 * a22)
 let v34:=(v33 + 1)
 let v35:=(xX5 a3 v34)
 let v36:=(f152 ([48,49,50,51,52,53,54,55,56,57,97,98,99,100,101,102]:List UInt8) v35)
 let v37:=(v30 + v36)
 let v42:=(f153 a22 v37)
 ((v23 = true → (InR (2 * a22) ∧ (InB v27 (len a3) ∧ ((tA5 ([48,49,50,51,52,53,54,55,56,57,97,98,99,100,101,102]:List UInt8) v28) ∧ (InR (16 * v29) ∧ (InR (2 * a22) ∧ (InR (v33 + 1) ∧ (InB v34 (len a3) ∧ ((tA5 ([48,49,50,51,52,53,54,55,56,57,97,98,99,100,101,102]:List UInt8) v35) ∧ (InR (v30 + v36) ∧ ((tT0 a22 v37) ∧ (((List.length a4.2.2.1 + List.length v42:Nat):Int) ≤ 4294967296 ∧ InR (a22 + 1))))))))))))),v23,((a0.1,a0.2.1,a0.2.2.1,a0.2.2.2.1,a0.2.2.2.2.1,()),(a1.1,a1.2.1,a1.2.2.1,a1.2.2.2.1,a1.2.2.2.2.1,()),(a4.1,a4.2.1,(a4.2.2.1 ++ v42),()),(a22 + 1),()))
def vQ3 (y:wR3) (x:wK2):Prop:=(uQ8 y x).1
def tA8 (y:wR3) (x:wK2):Bool:=(uQ8 y x).2.1
def vL7 (y:wR3) (x:wK2):wK2:=(uQ8 y x).2.2
instance (y:wR3) (x:wK2):Decidable (vQ3 y x):=by
 unfold vQ3 uQ8
 try dsimp only
 infer_instance
def uM8 (y:wR3) (x:wK2):(Int × Int × Int × (List D192) × (List D197) × Unit) :=
 let a0:=x.1
 (a0.1,a0.2.1,a0.2.2.1,a0.2.2.2.1,a0.2.2.2.2.1,())
def uM9 (y:wR3) (x:wK2):(Int × Int × Int × (List D192) × (List D197) × Unit) :=
 let a1:=x.2.1
 (a1.1,a1.2.1,a1.2.2.1,a1.2.2.2.1,a1.2.2.2.2.1,())
def uN (y:wR3) (x:wK2):(Int × Int × (List D128) × Unit) :=
 let a4:=x.2.2.1
 (a4.1,a4.2.1,a4.2.2.1,())
def tM2:List (Nat × Sh):=[(0,(.box T163 (.agg (.cons (.int .i64) (.cons (.int .i64) (.cons (.int .i64) (.cons (.sl T192) (.cons (.sl T197) .nl))))) (.cons vI (.cons vI (.cons vI (.cons (.own T192 400000 false) (.cons (.own T197 400001 false) .nl)))))))),(1,(.box T163 (.agg (.cons (.int .i64) (.cons (.int .i64) (.cons (.int .i64) (.cons (.sl T192) (.cons (.sl T197) .nl))))) (.cons vI (.cons vI (.cons vI (.cons (.own T192 400100 false) (.cons (.own T197 400101 false) .nl)))))))),(4,(.box T192 (.agg (.cons (.int .u8) (.cons (.int .i64) (.cons (.sl T128) .nl))) (.cons (.val (.int .u8)) (.cons vI (.cons (.own T128 400400 false) .nl)))))),(8,(.val (.sl .str))),(9,vI),(10,vI)]
def uN0:St → Option Out:=xP3 [(3,vS),(8,(.val (.sl .str))),(9,vI),(10,vI),(21,vI)] [(0,(.box T163 (.agg (.cons (.int .i64) (.cons (.int .i64) (.cons (.int .i64) (.cons (.sl T192) (.cons (.sl T197) .nl))))) (.cons vI (.cons vI (.cons vI (.cons (.own T192 400000 false) (.cons (.own T197 400001 false) .nl)))))))),(1,(.box T163 (.agg (.cons (.int .i64) (.cons (.int .i64) (.cons (.int .i64) (.cons (.sl T192) (.cons (.sl T197) .nl))))) (.cons vI (.cons vI (.cons vI (.cons (.own T192 400100 false) (.cons (.own T197 400101 false) .nl)))))))),(4,(.box T192 (.agg (.cons (.int .u8) (.cons (.int .i64) (.cons (.sl T128) .nl))) (.cons (.val (.int .u8)) (.cons vI (.cons (.own T128 400400 false) .nl)))))),(22,vI)] tA8 vL7 vQ3 fun y x=>[ex 4 none tM2 ((uM8 y x),(uM9 y x),(uN y x),y.2.1,y.2.2.1,y.2.2.2.1,())]
abbrev wX:Type:=((List (List UInt8)) × Int × Unit)
abbrev wM9:Type:=((Int × Int × Int × (List D192) × (List D197) × Unit) × (Int × Int × Int × (List D192) × (List D197) × Unit) × Int × Unit)
def uQ9 (y:wX) (x:wM9):Prop × Bool × wM9 :=
 let a8:=y.1
 let a9:=y.2.1
 let a0:=x.1
 let a1:=x.2.1
 let a10:=x.2.2.1
 let v11:=(decide (a10 < a9))
 let v13:=(nth a8 a10 ([]:List UInt8))
 let v20:=(len v13)
 let y7:=(v13,a8,a9,a10,(Int.tdiv v20 (2:Int)),())
 let x7:=((a0.1,a0.2.1,a0.2.2.1,a0.2.2.2.1,a0.2.2.2.2.1,()),(a1.1,a1.2.1,a1.2.2.1,a1.2.2.2.1,a1.2.2.2.2.1,()),((IntKind.wrap .u8 (32 + a10)),(600:Int),([]:List D128),()),(0:Int),())
 let e7:=(zC1 (tA8 y7) (vL7 y7) x7)
 let r7_4_0:=(uM8 y7 e7)
 let r7_4_1:=(uM9 y7 e7)
 let r7_4_2:=(uN y7 e7)
 let v49:=([(r7_4_2.1,r7_4_2.2.1,r7_4_2.2.2.1,())]:List D192)
 ((v11 = true → (InB a10 (len a8) ∧ (InR (32 + a10) ∧ (InR (Int.tdiv v20 (2:Int)) ∧ ((Am.Ends (tA8 y7) (vL7 y7) (vQ3 y7) x7) ∧ (((List.length r7_4_1.2.2.2.1 + List.length v49:Nat):Int) ≤ 4294967296 ∧ InR (a10 + 1))))))),v11,((r7_4_0.1,r7_4_0.2.1,r7_4_0.2.2.1,r7_4_0.2.2.2.1,r7_4_0.2.2.2.2.1,()),(r7_4_1.1,r7_4_1.2.1,r7_4_1.2.2.1,(r7_4_1.2.2.2.1 ++ v49),r7_4_1.2.2.2.2.1,()),(a10 + 1),()))
def vQ4 (y:wX) (x:wM9):Prop:=(uQ9 y x).1
def tA9 (y:wX) (x:wM9):Bool:=(uQ9 y x).2.1
def vL8 (y:wX) (x:wM9):wM9:=(uQ9 y x).2.2
instance (y:wX) (x:wM9):Decidable (vQ4 y x):=by
 unfold vQ4 uQ9
 try dsimp only
 infer_instance
def sD6 (y:wX) (x:wM9):(Int × Int × Int × (List D192) × (List D197) × Unit) :=
 let a0:=x.1
 (a0.1,a0.2.1,a0.2.2.1,a0.2.2.2.1,a0.2.2.2.2.1,())
def uN1 (y:wX) (x:wM9):(Int × Int × Int × (List D192) × (List D197) × Unit) :=
 let a1:=x.2.1
 (a1.1,a1.2.1,a1.2.2.1,a1.2.2.2.1,a1.2.2.2.2.1,())
def tM3:List (Nat × Sh):=[(0,(.box T163 (.agg (.cons (.int .i64) (.cons (.int .i64) (.cons (.int .i64) (.cons (.sl T192) (.cons (.sl T197) .nl))))) (.cons vI (.cons vI (.cons vI (.cons (.own T192 400000 false) (.cons (.own T197 400001 false) .nl)))))))),(1,(.box T163 (.agg (.cons (.int .i64) (.cons (.int .i64) (.cons (.int .i64) (.cons (.sl T192) (.cons (.sl T197) .nl))))) (.cons vI (.cons vI (.cons vI (.cons (.own T192 400100 false) (.cons (.own T197 400101 false) .nl))))))))]
def uN2:St → Option Out:=xP3 [(8,(.val (.sl .str))),(9,vI)] [(0,(.box T163 (.agg (.cons (.int .i64) (.cons (.int .i64) (.cons (.int .i64) (.cons (.sl T192) (.cons (.sl T197) .nl))))) (.cons vI (.cons vI (.cons vI (.cons (.own T192 400000 false) (.cons (.own T197 400001 false) .nl)))))))),(1,(.box T163 (.agg (.cons (.int .i64) (.cons (.int .i64) (.cons (.int .i64) (.cons (.sl T192) (.cons (.sl T197) .nl))))) (.cons vI (.cons vI (.cons vI (.cons (.own T192 400100 false) (.cons (.own T197 400101 false) .nl)))))))),(10,vI)] tA9 vL8 vQ4 fun y x=>[ex 2 none tM3 ((sD6 y x),(uN1 y x),())]
def pO7 :Prop × D163 :=
 let v8:=(f151 lit0)
 let y3:=(v8,(len v8),())
 let x3:=(((0:Int),(0:Int),(0:Int),([]:List D192),([]:List D197),()),((1000:Int),(800:Int),(1200:Int),([]:List D192),([]:List D197),()),(0:Int),())
 let r3_2_1:=(uN1 y3 (zC1 (tA9 y3) (vL8 y3) x3))
 let s_6:=(r3_2_1.1,r3_2_1.2.1,r3_2_1.2.2.1,r3_2_1.2.2.2.1,([((65:Int),(86:Int),(-100:Int),()),((76:Int),(84:Int),(-100:Int),()),((84:Int),(97:Int),(-100:Int),()),((86:Int),(65:Int),(-100:Int),())]:List D197),())
 (((tA4 lit0) ∧ (Am.Ends (tA9 y3) (vL8 y3) (vQ4 y3) x3)),s_6)
def tB :Prop:=(pO7).1
def f131 :D163:=(pO7).2
instance :Decidable (tB):=by
 unfold tB pO7
 try dsimp only
 infer_instance
def sD7:Am.Spec:=fnSpec [] (.val T163) [] (fun x=>tB ) (fun x=>f131 ) (fun _=>())
def tT3:Ctx:=Cx tys [(151,sD2),(152,sD3),(153,sD5)] [(7,uN0),(3,uN2)] [(21,[(4,0,43,400400)]),(25,[(4,0,50,400100)]),(29,[(4,0,57,400101)]),(31,[(4,0,400100,400000),(4,0,400101,400001)])] false 60 [] []
theorem tT4:CtxOk Tryz.prog tT3:=xW3 tys_ok rfl ⟨pO0,pO2,pO6,trivial⟩ rfl (by kernel_rfl)
noncomputable def rQ4:Code:=Tryz.f131.body.getD .skip
noncomputable def sN2:Code:=xX2 rQ4 0
noncomputable def rQ5:Code:=xX2 sN2 0
theorem rI3:yU9 Tryz.prog tT3 rQ5:=xY1 tT4 mixed (sp:=uN0) rfl [tM2] (bs:=[]) (by kernel_rfl) trivial (by kernel_rfl) (by kernel_rfl) fun y x=>by kernel_rfl
theorem rI4:yU9 Tryz.prog tT3 sN2:=xY1 tT4 mixed (sp:=uN2) rfl [tM3] (bs:=[rQ5]) (by kernel_rfl) ⟨rI3,trivial⟩ (by kernel_rfl) (by kernel_rfl) fun y x=>by kernel_rfl
theorem pO8:SpecOk Tryz.prog 131 sD7:=xY2 tT4 mixed Tryz.func131 (by kernel_rfl) (bs:=[sN2]) (by kernel_rfl) ⟨rI4,trivial⟩ fun x=>by kernel_rfl
abbrev wN:Type:=((List (List D125)) × D37 × (List (List D125)) × Int × Unit)
abbrev wH2:Type:=(Int × Int × Unit)
def vQ5 (y:wN) (x:wH2):Prop × Bool × wH2 × Bool × Bool :=
 let a21:=y.2.2.1
 let a7:=x.1
 let a23:=x.2.1
 let v24:=(decide (a23 < y.2.2.2.1))
 let v29:=(len (nth a21 a23 ([]:List D125)))
 let v30:=(a7 + v29)
 let v32:=(decide (v30 > 4096))
 ((v24 = true → (InB a23 (len a21) ∧ (InR (a7 + v29) ∧ ((!v32) = true → InR (a23 + 1))))),(v24 && (!v32)),(v30,(a23 + 1),()),(v24 && v32),(!v24))
def wV7 (y:wN) (x:wH2):Prop:=(vQ5 y x).1
def vL9 (y:wN) (x:wH2):Bool:=(vQ5 y x).2.1
def wR4 (y:wN) (x:wH2):wH2:=(vQ5 y x).2.2.1
def uG6 (y:wN) (x:wH2):Bool:=(vQ5 y x).2.2.2.1
def tM4 (y:wN) (x:wH2):Bool:=(vQ5 y x).2.2.2.2
instance (y:wN) (x:wH2):Decidable (wV7 y x):=by
 unfold wV7 vQ5
 try dsimp only
 infer_instance
def vM (y:wN) (x:wH2):(List (List D125)) :=
 ([]:List (List D125))
def uN3 (y:wN) (x:wH2):Int :=
 (3:Int)
def tM5:List (Nat × Sh):=[(4,(.own (.sl T125) 0 false)),(5,vI)]
def tM6:List (Nat × Sh):=[(0,(.val (.sl (.sl T125)))),(3,(.box T37 (.val T37)))]
def uN4:St → Option Out:=xP3 [(0,(.val (.sl (.sl T125)))),(3,(.box T37 (.val T37))),(21,(.val (.sl (.sl T125)))),(22,vI)] [(7,vI),(23,vI)] vL9 wR4 wV7 fun y x=>[ex 1 (some (uG6 y x)) tM5 ((vM y x),(uN3 y x),()),ex 2 (some (tM4 y x)) tM6 (y.1,y.2.1,())]
abbrev wC3:Type:=(D37 × Int × (List (List D125)) × Int × Int × (List D125) × Int × Unit)
abbrev wB3:Type:=(((List (List D125)) × Nat) × Int × Unit)
def vD5 (y:wC3) (x:wB3):Prop × Bool × wB3 × Bool × Bool :=
 let a3:=y.1
 let a11:=y.2.1
 let a50:=y.2.2.2.2.2.1
 let a10:=x.1
 let a52:=x.2.1
 let v53:=(decide (a52 < y.2.2.2.2.2.2.1))
 let v55:=(nth a50 a52 Z125)
 let v58:=(f143 v55)
 let v61:=(f142 a3 v55)
 let v63:=(f143 v61)
 let v67:=(List.getD a10.1 a10.2 [])
 let c:=((!v58) && (!v63))
 ((v53 = true → (InB a52 (len a50) ∧ ((vJ2 v55) ∧ (((!v58) = true → ((uF7 a3 v55) ∧ ((vJ2 v61) ∧ ((!v63) = true → (InB a11 (len a10.1) ∧ ((Int.toNat a11 = a10.2 ∧ a11 < len a10.1) ∧ (InB a52 (len v67) ∧ a52 < len v67))))))) ∧ (c = true → InR (a52 + 1)))))),(v53 && c),(((List.set a10.1 a10.2 (List.set (List.getD a10.1 a10.2 []) (Int.toNat a52) v61)),a10.2),(a52 + 1),()),(v53 && (v58 || ((!v58) && v63))),(!v53))
def wH3 (y:wC3) (x:wB3):Prop:=(vD5 y x).1
def wC (y:wC3) (x:wB3):Bool:=(vD5 y x).2.1
def xZ4 (y:wC3) (x:wB3):wB3:=(vD5 y x).2.2.1
def tB0 (y:wC3) (x:wB3):Bool:=(vD5 y x).2.2.2.1
def vV2 (y:wC3) (x:wB3):Bool:=(vD5 y x).2.2.2.2
instance (y:wC3) (x:wB3):Decidable (wH3 y x):=by
 unfold wH3 vD5
 try dsimp only
 infer_instance
def vG8 (y:wC3) (x:wB3):(List (List D125)) :=
 ([]:List (List D125))
def uC6 (y:wC3) (x:wB3):Int :=
 (bif (f143 (nth y.2.2.2.2.2.1 x.2.1 Z125)) then (2:Int) else (2:Int))
def tB1:List (Nat × Sh):=[(4,(.own (.sl T125) 0 false)),(5,vI)]
def uC7 (y:wC3) (x:wB3):((List (List D125)) × Nat) :=
 let a10:=x.1
 (a10.1,a10.2)
def tB2:List (Nat × Sh):=[(3,(.box T37 (.val T37))),(10,(.ownh T125 1010 48 true)),(37,(.val (.sl (.sl T125)))),(38,vI),(39,vI)]
def uC8:St → Option Out:=xP3 [(3,(.box T37 (.val T37))),(11,vI),(37,(.val (.sl (.sl T125)))),(38,vI),(39,vI),(50,(.val (.sl T125))),(51,vI)] [(10,(.ownh T125 1010 48 true)),(52,vI)] wC xZ4 wH3 fun y x=>[ex 1 (some (tB0 y x)) tB1 ((vG8 y x),(uC6 y x),()),ex 6 (some (vV2 y x)) tB2 (y.1,(uC7 y x),y.2.2.1,y.2.2.2.1,y.2.2.2.2.1,())]
abbrev wB4:Type:=(D37 × (List (List D125)) × Int × Unit)
abbrev wA:Type:=((List (List D125)) × Int × Unit)
def vD6 (y:wB4) (x:wA):Prop × Bool × wA × Bool × Bool :=
 let a37:=y.2.1
 let a38:=y.2.2.1
 let a10:=x.1
 let a39:=x.2.1
 let v40:=(decide (a39 < a38))
 let v42:=(nth a37 a39 ([]:List D125))
 let v47:=(len v42)
 let y18:=(y.1,a39,a37,a38,a39,v42,(len v42),())
 let x18:=(((List.set a10 (Int.toNat a39) (List.replicate (Int.toNat v47) Z125)),(Int.toNat a39)),(0:Int),())
 let e18:=(zC1 (wC y18) (xZ4 y18) x18)
 let q18_6:=(vV2 y18 e18)
 ((v40 = true → (InB a39 (len a37) ∧ ((0 ≤ v47 ∧ v47 ≤ v47 ∧ v47 ≤ 4294967296) ∧ (InB a39 (len a10) ∧ (a39 < len a10 ∧ ((Am.Ends (wC y18) (xZ4 y18) (wH3 y18) x18) ∧ (q18_6 = true → InR (a39 + 1)))))))),(v40 && q18_6),((uC7 y18 e18).1,(a39 + 1),()),(v40 && (tB0 y18 e18)),(!v40))
def wL (y:wB4) (x:wA):Prop:=(vD6 y x).1
def wO0 (y:wB4) (x:wA):Bool:=(vD6 y x).2.1
def wC7 (y:wB4) (x:wA):wA:=(vD6 y x).2.2.1
def vV3 (y:wB4) (x:wA):Bool:=(vD6 y x).2.2.2.1
def sN3 (y:wB4) (x:wA):Bool:=(vD6 y x).2.2.2.2
instance (y:wB4) (x:wA):Decidable (wL y x):=by
 unfold wL vD6
 try dsimp only
 infer_instance
def vG9 (y:wB4) (x:wA):(List (List D125)) :=
 let a37:=y.2.1
 let a39:=x.2.1
 let v42:=(nth a37 a39 ([]:List D125))
 let y18:=(y.1,a39,a37,y.2.2.1,a39,v42,(len v42),())
 (vG8 y18 (zC1 (wC y18) (xZ4 y18) (((List.set x.1 (Int.toNat a39) (List.replicate (Int.toNat (len v42)) Z125)),(Int.toNat a39)),(0:Int),())))
def uC9 (y:wB4) (x:wA):Int :=
 let a37:=y.2.1
 let a39:=x.2.1
 let v42:=(nth a37 a39 ([]:List D125))
 let y18:=(y.1,a39,a37,y.2.2.1,a39,v42,(len v42),())
 (uC6 y18 (zC1 (wC y18) (xZ4 y18) (((List.set x.1 (Int.toNat a39) (List.replicate (Int.toNat (len v42)) Z125)),(Int.toNat a39)),(0:Int),())))
def tB3:List (Nat × Sh):=[(4,(.own (.sl T125) 0 false)),(5,vI)]
def vH (y:wB4) (x:wA):(List (List D125)) :=
 x.1
def tB4:List (Nat × Sh):=[(10,(.own (.sl T125) 1010 true))]
def uD:St → Option Out:=xP3 [(3,(.box T37 (.val T37))),(37,(.val (.sl (.sl T125)))),(38,vI)] [(10,(.own (.sl T125) 1010 true)),(39,vI)] wO0 wC7 wL fun y x=>[ex 1 (some (vV3 y x)) tB3 ((vG9 y x),(uC9 y x),()),ex 4 (some (sN3 y x)) tB4 ((vH y x),())]
def qL2 (p0:(List (List D125))) (p1:D37):Prop × ((List (List D125)) × Int × Unit) :=
 let v17:=(f77 p1)
 let v19:=(v17 != 0)
 let y6:=(p0,p1,p0,(len p0),())
 let x6:=((0:Int),(0:Int),())
 let e6:=(zC1 (vL9 y6) (wR4 y6) x6)
 let q6_1:=(uG6 y6 e6)
 let v35:=(len p0)
 let y14:=(p1,p0,(len p0),())
 let x14:=((List.replicate (Int.toNat v35) ([]:List D125)),(0:Int),())
 let e14:=(zC1 (wO0 y14) (wC7 y14) x14)
 let q14_1:=(vV3 y14 e14)
 (((vT1 p1) ∧ ((!v19) = true → ((Am.Ends (vL9 y6) (wR4 y6) (wV7 y6) x6) ∧ ((tM4 y6 e6) = true → ((0 ≤ v35 ∧ v35 ≤ v35 ∧ v35 ≤ 4294967296) ∧ (Am.Ends (wO0 y14) (wC7 y14) (wL y14) x14)))))),((bif v19 then [] else (bif q6_1 then (vM y6 e6) else (bif q14_1 then (vG9 y14 e14) else (vH y14 e14)))),(bif v19 then v17 else (bif q6_1 then (uN3 y6 e6) else (bif q14_1 then (uC9 y14 e14) else (0:Int)))),()))
def tB5 (p0:(List (List D125))) (p1:D37):Prop:=(qL2 p0 p1).1
def f132 (p0:(List (List D125))) (p1:D37):((List (List D125)) × Int × Unit):=(qL2 p0 p1).2
instance (p0:(List (List D125))) (p1:D37):Decidable (tB5 p0 p1):=by
 unfold tB5 qL2
 try dsimp only
 infer_instance
def sD8:Am.Spec:=fnSpec [(0,(.val (.sl (.sl T125)))),(1,(.val T37))] (.tup (.cons (.val (.sl (.sl T125))) (.cons vI .nl))) [] (fun x=>tB5 x.1 x.2.1) (fun x=>f132 x.1 x.2.1) (fun _=>())
def uR:Ctx:=Cx tys [(77,vX5),(142,uV7),(143,vX9)] [(6,uN4),(18,uC8),(14,uD)] [(25,[(4,0,36,1010)]),(54,[(1,10,0,0)]),(57,[(1,4,0,0),(4,0,1010,0)])] false 74 [] [36,48]
theorem uR0:CtxOk Tryz.prog uR:=xW3 tys_ok rfl ⟨sU0,rN9,sK1,trivial⟩ rfl (by kernel_rfl)
noncomputable def sD9:Code:=Tryz.f132.body.getD .skip
noncomputable def rQ6:Code:=xX2 sD9 0
theorem rI5:yU9 Tryz.prog uR rQ6:=xY1 uR0 mixed (sp:=uN4) rfl [tM5,tM6] (bs:=[]) (by kernel_rfl) trivial (by kernel_rfl) (by kernel_rfl) fun y x=>by kernel_rfl
noncomputable def tT5:Code:=xX2 sD9 1
noncomputable def sX1:Code:=xX2 tT5 0
theorem sN4:yU9 Tryz.prog uR sX1:=xY1 uR0 mixed (sp:=uC8) rfl [tB1,tB2] (bs:=[]) (by kernel_rfl) trivial (by kernel_rfl) (by kernel_rfl) fun y x=>by kernel_rfl
theorem sN5:yU9 Tryz.prog uR tT5:=xY1 uR0 mixed (sp:=uD) rfl [tB3,tB4] (bs:=[sX1]) (by kernel_rfl) ⟨sN4,trivial⟩ (by kernel_rfl) (by kernel_rfl) fun y x=>by kernel_rfl
theorem pO9:SpecOk Tryz.prog 132 sD8:=xY2 uR0 mixed Tryz.func132 (by kernel_rfl) (bs:=[rQ6,tT5]) (by kernel_rfl) ⟨rI5,sN5,trivial⟩ fun x=>by kernel_rfl
def qL3 (p0:D49):Prop × Int :=
 let v14:=(f130 f131 p0.2.2.2.2.2.2.2.2.2.2.2.2.2.2.2.2.2.2.2.2.2.2.2.1 p0.2.2.2.2.2.2.2.2.2.2.2.2.2.2.2.2.2.2.2.2.2.2.2.2.1 p0.2.2.2.2.2.2.2.2.2.2.2.2.2.2.2.2.2.2.2.2.2.2.2.2.2.1)
 let v18:=(v14.2.1 != 0)
 let v24:=(f132 v14.1 p0.2.2.2.2.2.2.2.2.2.2.1)
 let v28:=(v24.2.1 != 0)
 let v31:=(f129 v24.1 (0:Int))
 let v33:=(v31 != 0)
 ((tB ∧ ((tA3 f131 p0.2.2.2.2.2.2.2.2.2.2.2.2.2.2.2.2.2.2.2.2.2.2.2.1 p0.2.2.2.2.2.2.2.2.2.2.2.2.2.2.2.2.2.2.2.2.2.2.2.2.1 p0.2.2.2.2.2.2.2.2.2.2.2.2.2.2.2.2.2.2.2.2.2.2.2.2.2.1) ∧ ((!v18) = true → ((tB5 v14.1 p0.2.2.2.2.2.2.2.2.2.2.1) ∧ ((!v28) = true → ((vU8 v24.1 (0:Int)) ∧ ((!v33) = true → (vU4 p0.2.2.2.2.2.2.2.2.2.2.2.2.2.1)))))))),(bif v18 then v14.2.1 else (bif v28 then v24.2.1 else (bif v33 then v31 else (f110 p0.2.2.2.2.2.2.2.2.2.2.2.2.2.1)))))
def uG7 (p0:D49):Prop:=(qL3 p0).1
def f113 (p0:D49):Int:=(qL3 p0).2
instance (p0:D49):Decidable (uG7 p0):=by
 unfold uG7 qL3
 try dsimp only
 infer_instance
def sE:Am.Spec:=fnSpec [(0,(.val T49))] vI [] (fun x=>uG7 x.1) (fun x=>f113 x.1) (fun _=>())
def qL4:Ctx:=Cx tys [(110,vX8),(129,vY9),(130,sD1),(131,sD7),(132,sD8)] [] [(3,[(4,0,14,1003)])] false 38 [] []
theorem qL5:CtxOk Tryz.prog qL4:=xW3 tys_ok rfl ⟨sK0,sL,pN7,pO8,pO9,trivial⟩ rfl (by kernel_rfl)
theorem pP:SpecOk Tryz.prog 113 sE:=xY2 qL5 mixed Tryz.func113 (by kernel_rfl) (bs:=[]) (by kernel_rfl) trivial fun x=>by kernel_rfl
def rI6 (p0:Int) (p1:Int):Prop × Bool :=
 let v7:=(p0 == 2)
 let v11:=(p0 == 3)
 let v24:=(p0 == 4)
 let m23:=(bif v24 then v24 else (p0 == 11))
 let v29:=(p0 == 5)
 let m28:=(bif v29 then v29 else (p0 == 9))
 let v34:=(p0 == 6)
 let m33:=(bif v34 then v34 else (p0 == 7))
 let m4_3:=(bif v11 then (bif (bif (decide (p1 ≥ 4)) then (decide (p1 ≤ 16)) else false) then ((Int.tmod p1 (2:Int)) == 0) else false) else (bif m23 then (p1 == 2) else (bif m28 then (p1 == 3) else (bif m33 then (p1 == 1) else (p1 == 9)))))
 (True,(bif (bif v7 then true else (bif v11 then true else (bif m23 then true else (bif m28 then true else (bif m33 then true else (p0 == 8)))))) then (bif v7 then (p1 == 5) else m4_3) else (p1 == 0)))
def tB6 (p0:Int) (p1:Int):Prop:=(rI6 p0 p1).1
def f133 (p0:Int) (p1:Int):Bool:=(rI6 p0 p1).2
instance (p0:Int) (p1:Int):Decidable (tB6 p0 p1):=by
 unfold tB6 rI6
 try dsimp only
 infer_instance
def sE0:Am.Spec:=fnSpec [(0,vI),(1,vI)] vB [] (fun x=>tB6 x.1 x.2.1) (fun x=>f133 x.1 x.2.1) (fun _=>())
def qL6:Ctx:=Cx tys [] [] [] false 44 [] []
theorem qL7:CtxOk Tryz.prog qL6:=xW3 tys_ok rfl trivial rfl (by kernel_rfl)
theorem pP0:SpecOk Tryz.prog 133 sE0:=xY2 qL7 mixed Tryz.func133 (by kernel_rfl) (bs:=[]) (by kernel_rfl) trivial fun x=>by kernel_rfl
def pP1 (p0:Int) (p1:Int):Prop × (Int × Int × Unit) :=
 let v12:=(bif (p0 == 2) then (p1 == 2) else false)
 let v15:=(p0 == 4)
 let v21:=(bif (p0 == 5) then (decide (p1 > 0)) else false)
 let m13_1:=(bif v15 then v15 else (bif v21 then v21 else (bif (p0 == 11) then (p1 == 1) else false)))
 let v30:=(p0 == 5)
 let v33:=(p0 == 7)
 let v36:=(p0 == 8)
 let c_8:=(bif v12 then true else (bif m13_1 then true else (bif v30 then true else (bif v33 then true else (bif v36 then true else (p0 == 11))))))
 let m4_5:=(bif c_8 then (bif v12 then (1:Int) else (bif m13_1 then (-65535:Int) else (bif v30 then (-32768:Int) else (bif v33 then (2:Int) else (bif v36 then (-262140:Int) else (-128:Int)))))) else (0:Int))
 let m5_5:=(bif c_8 then (bif v12 then (256:Int) else (bif m13_1 then (65535:Int) else (bif v30 then (32768:Int) else (bif v33 then (256:Int) else (bif v36 then (262140:Int) else (128:Int)))))) else (65535:Int))
 (True,(m4_5,m5_5,()))
def tB7 (p0:Int) (p1:Int):Prop:=(pP1 p0 p1).1
def f154 (p0:Int) (p1:Int):(Int × Int × Unit):=(pP1 p0 p1).2
instance (p0:Int) (p1:Int):Decidable (tB7 p0 p1):=by
 unfold tB7 pP1
 try dsimp only
 infer_instance
def sE1:Am.Spec:=fnSpec [(0,vI),(1,vI)] (.tup (.cons vI (.cons vI .nl))) [] (fun x=>tB7 x.1 x.2.1) (fun x=>f154 x.1 x.2.1) (fun _=>())
def qL8:Ctx:=Cx tys [] [] [] false 40 [] []
theorem qL9:CtxOk Tryz.prog qL8:=xW3 tys_ok rfl trivial rfl (by kernel_rfl)
theorem pP2:SpecOk Tryz.prog 154 sE1:=xY2 qL9 mixed Tryz.func154 (by kernel_rfl) (bs:=[]) (by kernel_rfl) trivial fun x=>by kernel_rfl
abbrev wR5:Type:=(Int × (List Int) × (List D122) × (List Int) × Int × Unit)
abbrev wK3:Type:=(Int × Unit)
def vQ6 (y:wR5) (x:wK3):Prop × Bool × wK3 × Bool × Bool :=
 let a0:=y.1
 let a13:=y.2.2.2.1
 let a15:=x.1
 let v16:=(decide (a15 < y.2.2.2.2.1))
 let v18:=(nth a13 a15 (0:Int))
 let v23:=(f154 a0 a15)
 let v33:=(bif (decide (v18 < v23.1)) then true else (decide (v18 > v23.2.1)))
 ((v16 = true → (InB a15 (len a13) ∧ ((tB7 a0 a15) ∧ ((!v33) = true → InR (a15 + 1))))),(v16 && (!v33)),((a15 + 1),()),(v16 && v33),(!v16))
def vQ7 (y:wR5) (x:wK3):Prop:=(vQ6 y x).1
def tB8 (y:wR5) (x:wK3):Bool:=(vQ6 y x).2.1
def vM0 (y:wR5) (x:wK3):wK3:=(vQ6 y x).2.2.1
def tM7 (y:wR5) (x:wK3):Bool:=(vQ6 y x).2.2.2.1
def tM8 (y:wR5) (x:wK3):Bool:=(vQ6 y x).2.2.2.2
instance (y:wR5) (x:wK3):Decidable (vQ7 y x):=by
 unfold vQ7 vQ6
 try dsimp only
 infer_instance
def uN5 (y:wR5) (x:wK3):Bool :=
 false
def tM9:List (Nat × Sh):=[(0,vI),(1,(.val (.sl (.int .i64)))),(2,(.val (.sl T122)))]
def uN6:St → Option Out:=xP3 [(0,vI),(1,(.val (.sl (.int .i64)))),(2,(.val (.sl T122))),(13,(.val (.sl (.int .i64)))),(14,vI)] [(15,vI)] tB8 vM0 vQ7 fun y x=>[ex 1 (some (tM7 y x)) [(6,vB)] ((uN5 y x),()),ex 2 (some (tM8 y x)) tM9 (y.1,y.2.1,y.2.2.1,())]
abbrev wM4:Type:=((List D122) × Int × Unit)
abbrev wF8:Type:=(Int × Unit)
def vD7 (y:wM4) (x:wF8):Prop × Bool × wF8 × Bool × Bool :=
 let a55:=y.1
 let a57:=x.1
 let v58:=(decide (a57 < y.2.1))
 let v59:=(nth a55 a57 Z122)
 let v68:=(bif (decide (v59.1 < 0)) then true else (decide (v59.1 > 65535)))
 let v74:=(bif v68 then true else (!(f85 v59.2.1)))
 ((v58 = true → (InB a57 (len a55) ∧ (((!v68) = true → (uI7 v59.2.1)) ∧ ((!v74) = true → InR (a57 + 1))))),(v58 && (!v74)),((a57 + 1),()),(v58 && v74),(!v58))
def vH0 (y:wM4) (x:wF8):Prop:=(vD7 y x).1
def uG8 (y:wM4) (x:wF8):Bool:=(vD7 y x).2.1
def vH1 (y:wM4) (x:wF8):wF8:=(vD7 y x).2.2.1
def tB9 (y:wM4) (x:wF8):Bool:=(vD7 y x).2.2.2.1
def sN6 (y:wM4) (x:wF8):Bool:=(vD7 y x).2.2.2.2
instance (y:wM4) (x:wF8):Decidable (vH0 y x):=by
 unfold vH0 vD7
 try dsimp only
 infer_instance
def uD0 (y:wM4) (x:wF8):Bool :=
 false
def uD1:St → Option Out:=xP3 [(55,(.val (.sl T122))),(56,vI)] [(57,vI)] uG8 vH1 vH0 fun y x=>[ex 1 (some (tB9 y x)) [(6,vB)] ((uD0 y x),()),ex 4 (some (sN6 y x)) [] ()]
def pP3 (p0:Int) (p1:(List Int)) (p2:(List D122)):Prop × Bool :=
 let y2:=(p0,p1,p2,p1,(len p1),())
 let x2:=((0:Int),())
 let e2:=(zC1 (tB8 y2) (vM0 y2) x2)
 let v36:=(p0 == 9)
 let v42:=(bif v36 then ((nth p1 (0:Int) (0:Int)) == 0) else false)
 let v48:=(bif v42 then ((nth p1 (1:Int) (0:Int)) == 0) else false)
 let v54:=(bif v48 then ((nth p1 (2:Int) (0:Int)) == 0) else false)
 let y11:=(p2,(len p2),())
 let x11:=((0:Int),())
 let e11:=(zC1 (uG8 y11) (vH1 y11) x11)
 (((Am.Ends (tB8 y2) (vM0 y2) (vQ7 y2) x2) ∧ ((tM8 y2 e2) = true → ((v36 = true → InB (0:Int) (len p1)) ∧ ((v42 = true → InB (1:Int) (len p1)) ∧ ((v48 = true → InB (2:Int) (len p1)) ∧ ((!v54) = true → (Am.Ends (uG8 y11) (vH1 y11) (vH0 y11) x11))))))),(bif (tM7 y2 e2) then (uN5 y2 e2) else (bif v54 then false else (bif (tB9 y11 e11) then (uD0 y11 e11) else true))))
def tC (p0:Int) (p1:(List Int)) (p2:(List D122)):Prop:=(pP3 p0 p1 p2).1
def f134 (p0:Int) (p1:(List Int)) (p2:(List D122)):Bool:=(pP3 p0 p1 p2).2
instance (p0:Int) (p1:(List Int)) (p2:(List D122)):Decidable (tC p0 p1 p2):=by
 unfold tC pP3
 try dsimp only
 infer_instance
def sE2:Am.Spec:=fnSpec [(0,vI),(1,(.val (.sl (.int .i64)))),(2,(.val (.sl T122)))] vB [] (fun x=>tC x.1 x.2.1 x.2.2.1) (fun x=>f134 x.1 x.2.1 x.2.2.1) (fun _=>())
def tT6:Ctx:=Cx tys [(85,vX6),(154,sE1)] [(2,uN6),(11,uD1)] [] false 76 [] []
theorem tT7:CtxOk Tryz.prog tT6:=xW3 tys_ok rfl ⟨sU4,pP2,trivial⟩ rfl (by kernel_rfl)
noncomputable def sE3:Code:=Tryz.f134.body.getD .skip
noncomputable def rQ7:Code:=xX2 sE3 0
theorem rI7:yU9 Tryz.prog tT6 rQ7:=xY1 tT7 mixed (sp:=uN6) rfl [[(6,vB)],tM9] (bs:=[]) (by kernel_rfl) trivial (by kernel_rfl) (by kernel_rfl) fun y x=>by kernel_rfl
noncomputable def sX2:Code:=xX2 sE3 1
theorem sN7:yU9 Tryz.prog tT6 sX2:=xY1 tT7 mixed (sp:=uD1) rfl [[(6,vB)],[]] (bs:=[]) (by kernel_rfl) trivial (by kernel_rfl) (by kernel_rfl) fun y x=>by kernel_rfl
theorem pP4:SpecOk Tryz.prog 134 sE2:=xY2 tT7 mixed Tryz.func134 (by kernel_rfl) (bs:=[rQ7,sX2]) (by kernel_rfl) ⟨rI7,sN7,trivial⟩ fun x=>by kernel_rfl
end Go.Proofs.YtpanghcojpnkaaaGreatDoor.Am
