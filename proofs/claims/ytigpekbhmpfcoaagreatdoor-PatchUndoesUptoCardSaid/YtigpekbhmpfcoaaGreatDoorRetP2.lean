/- Printed by program, part 2. No condition. -/
import Derived.Test.YtigpekbhmpfcoaaGreatDoorRetL
set_option linter.unusedVariables false
set_option synthInstance.maxSize 4000
set_option synthInstance.maxHeartbeats 400000
namespace Go.Proofs.YtigpekbhmpfcoaaGreatDoor.Am
open Go Go.Am Go.Proofs
abbrev vA6:Type:=((List Int) × (List Int) × Int × Unit)
abbrev wP0:Type:=(Int × Unit)
def uM3 (y:vA6) (x:wP0):Prop × Bool × wP0 × Bool × Bool :=
 let a0:=y.1
 let a1:=y.2.1
 let a13:=x.1
 let v14:=(decide (a13 < y.2.2.1))
 let v24:=((nth a0 a13 (0:Int)) != (nth a1 a13 (0:Int)))
 ((v14 = true → (InB a13 (len a0) ∧ (InB a13 (len a1) ∧ ((!v24) = true → InR (a13 + 1))))),(v14 && (!v24)),((a13 + 1),()),(v14 && v24),(!v14))
def uB6 (y:vA6) (x:wP0):Prop:=(uM3 y x).1
def uB7 (y:vA6) (x:wP0):Bool:=(uM3 y x).2.1
def wY1 (y:vA6) (x:wP0):wP0:=(uM3 y x).2.2.1
def sK0 (y:vA6) (x:wP0):Bool:=(uM3 y x).2.2.2.1
def qB0 (y:vA6) (x:wP0):Bool:=(uM3 y x).2.2.2.2
instance (y:vA6) (x:wP0):Decidable (uB6 y x):=by
 unfold uB6 uM3
 try dsimp only
 infer_instance
def tC8 (y:vA6) (x:wP0):Bool :=
 false
def tC9:St → Option Out:=xO8 [(0,(.val (.sl (.int .i64)))),(1,(.val (.sl (.int .i64)))),(12,vI)] [(13,vI)] uB7 wY1 uB6 fun y x=>[ex 1 (some (sK0 y x)) [(4,vB)] ((tC8 y x),()),ex 2 (some (qB0 y x)) [] ()]
def f30t (p0:(List Int)) (p1:(List Int)):Prop × Bool :=
 let v10:=((len p0) != (len p1))
 let y4:=(p0,p1,(len p0),())
 let x4:=((0:Int),())
 let e4:=(zB9 (uB7 y4) (wY1 y4) x4)
 (((!v10) = true → (Am.Ends (uB7 y4) (wY1 y4) (uB6 y4) x4)),(bif v10 then false else (bif (sK0 y4 e4) then (tC8 y4 e4) else true)))
def tD (p0:(List Int)) (p1:(List Int)):Prop:=(f30t p0 p1).1
def f30 (p0:(List Int)) (p1:(List Int)):Bool:=(f30t p0 p1).2
instance (p0:(List Int)) (p1:(List Int)):Decidable (tD p0 p1):=by
 unfold tD f30t
 try dsimp only
 infer_instance
def uY7:Am.Spec:=fnSpec [(0,(.val (.sl (.int .i64)))),(1,(.val (.sl (.int .i64))))] vB [] (fun x=>tD x.1 x.2.1) (fun x=>f30 x.1 x.2.1) (fun _=>())
def qB1:Ctx:=Cx tys [] [(4,tC9)] [] false 26 [] []
theorem qB2:CtxOk Tryz.prog qB1:=xV6 tys_ok rfl trivial rfl (by kernel_rfl)
noncomputable def qY0:Code:=Tryz.f30.body.getD .skip
noncomputable def pQ:Code:=xW5 qY0 0
theorem qB3:yU1 Tryz.prog qB1 pQ:=xX3 qB2 mixed (sp:=tC9) rfl [[(4,vB)],[]] (bs:=[]) (by kernel_rfl) trivial (by kernel_rfl) (by kernel_rfl) fun y x=>by kernel_rfl
theorem qB4:SpecOk Tryz.prog 30 uY7:=xX4 qB2 mixed Tryz.func30 (by kernel_rfl) (bs:=[pQ]) (by kernel_rfl) ⟨qB3,trivial⟩ fun x=>by kernel_rfl
abbrev vA7:Type:=((List D50) × (List D50) × Int × Unit)
abbrev wP1:Type:=(Int × Unit)
def uM4 (y:vA7) (x:wP1):Prop × Bool × wP1 × Bool × Bool :=
 let a0:=y.1
 let a1:=y.2.1
 let a13:=x.1
 let v14:=(decide (a13 < y.2.2.1))
 let v24:=(!(Ty.eqb T50 (nth a0 a13 Z50) (nth a1 a13 Z50)))
 ((v14 = true → (InB a13 (len a0) ∧ (InB a13 (len a1) ∧ ((!v24) = true → InR (a13 + 1))))),(v14 && (!v24)),((a13 + 1),()),(v14 && v24),(!v14))
def uB8 (y:vA7) (x:wP1):Prop:=(uM4 y x).1
def uB9 (y:vA7) (x:wP1):Bool:=(uM4 y x).2.1
def wY2 (y:vA7) (x:wP1):wP1:=(uM4 y x).2.2.1
def sK1 (y:vA7) (x:wP1):Bool:=(uM4 y x).2.2.2.1
def qB5 (y:vA7) (x:wP1):Bool:=(uM4 y x).2.2.2.2
instance (y:vA7) (x:wP1):Decidable (uB8 y x):=by
 unfold uB8 uM4
 try dsimp only
 infer_instance
def tD0 (y:vA7) (x:wP1):Bool :=
 false
def tD1:St → Option Out:=xO8 [(0,(.val (.sl T50))),(1,(.val (.sl T50))),(12,vI)] [(13,vI)] uB9 wY2 uB8 fun y x=>[ex 1 (some (sK1 y x)) [(4,vB)] ((tD0 y x),()),ex 2 (some (qB5 y x)) [] ()]
def f69t (p0:(List D50)) (p1:(List D50)):Prop × Bool :=
 let v10:=((len p0) != (len p1))
 let y4:=(p0,p1,(len p0),())
 let x4:=((0:Int),())
 let e4:=(zB9 (uB9 y4) (wY2 y4) x4)
 (((!v10) = true → (Am.Ends (uB9 y4) (wY2 y4) (uB8 y4) x4)),(bif v10 then false else (bif (sK1 y4 e4) then (tD0 y4 e4) else true)))
def sK2 (p0:(List D50)) (p1:(List D50)):Prop:=(f69t p0 p1).1
def f69 (p0:(List D50)) (p1:(List D50)):Bool:=(f69t p0 p1).2
instance (p0:(List D50)) (p1:(List D50)):Decidable (sK2 p0 p1):=by
 unfold sK2 f69t
 try dsimp only
 infer_instance
def rI3:Am.Spec:=fnSpec [(0,(.val (.sl T50))),(1,(.val (.sl T50)))] vB [] (fun x=>sK2 x.1 x.2.1) (fun x=>f69 x.1 x.2.1) (fun _=>())
def qB6:Ctx:=Cx tys [] [(4,tD1)] [] false 26 [] []
theorem qB7:CtxOk Tryz.prog qB6:=xV6 tys_ok rfl trivial rfl (by kernel_rfl)
noncomputable def qY1:Code:=Tryz.f69.body.getD .skip
noncomputable def pQ0:Code:=xW5 qY1 0
theorem qB8:yU1 Tryz.prog qB6 pQ0:=xX3 qB7 mixed (sp:=tD1) rfl [[(4,vB)],[]] (bs:=[]) (by kernel_rfl) trivial (by kernel_rfl) (by kernel_rfl) fun y x=>by kernel_rfl
theorem oY8:SpecOk Tryz.prog 69 rI3:=xX4 qB7 mixed Tryz.func69 (by kernel_rfl) (bs:=[pQ0]) (by kernel_rfl) ⟨qB8,trivial⟩ fun x=>by kernel_rfl
def f44t (p0:D48) (p1:D48):Prop × Bool :=
 let v16:=(bif (p0.1 == p1.1) then (p0.2.1 == p1.2.1) else false)
 ((v16 = true → (sK2 p0.2.2.1 p1.2.2.1)),(bif v16 then (f69 p0.2.2.1 p1.2.2.1) else false))
def tT5 (p0:D48) (p1:D48):Prop:=(f44t p0 p1).1
def f44 (p0:D48) (p1:D48):Bool:=(f44t p0 p1).2
instance (p0:D48) (p1:D48):Decidable (tT5 p0 p1):=by
 unfold tT5 f44t
 try dsimp only
 infer_instance
def sA9:Am.Spec:=fnSpec [(0,(.val T48)),(1,(.val T48))] vB [] (fun x=>tT5 x.1 x.2.1) (fun x=>f44 x.1 x.2.1) (fun _=>())
def pZ0:Ctx:=Cx tys [(69,rI3)] [] [] false 24 [] []
theorem pZ1:CtxOk Tryz.prog pZ0:=xV6 tys_ok rfl ⟨oY8,trivial⟩ rfl (by kernel_rfl)
theorem pQ1:SpecOk Tryz.prog 44 sA9:=xX4 pZ1 mixed Tryz.func44 (by kernel_rfl) (bs:=[]) (by kernel_rfl) trivial fun x=>by kernel_rfl
abbrev vA8:Type:=((List D91) × (List D91) × Int × Unit)
abbrev wP2:Type:=(Int × Unit)
def uM5 (y:vA8) (x:wP2):Prop × Bool × wP2 × Bool × Bool :=
 let a0:=y.1
 let a1:=y.2.1
 let a13:=x.1
 let v14:=(decide (a13 < y.2.2.1))
 let v24:=(!(Ty.eqb T91 (nth a0 a13 Z91) (nth a1 a13 Z91)))
 ((v14 = true → (InB a13 (len a0) ∧ (InB a13 (len a1) ∧ ((!v24) = true → InR (a13 + 1))))),(v14 && (!v24)),((a13 + 1),()),(v14 && v24),(!v14))
def uC (y:vA8) (x:wP2):Prop:=(uM5 y x).1
def uC0 (y:vA8) (x:wP2):Bool:=(uM5 y x).2.1
def wY3 (y:vA8) (x:wP2):wP2:=(uM5 y x).2.2.1
def sK3 (y:vA8) (x:wP2):Bool:=(uM5 y x).2.2.2.1
def qB9 (y:vA8) (x:wP2):Bool:=(uM5 y x).2.2.2.2
instance (y:vA8) (x:wP2):Decidable (uC y x):=by
 unfold uC uM5
 try dsimp only
 infer_instance
def tD2 (y:vA8) (x:wP2):Bool :=
 false
def tD3:St → Option Out:=xO8 [(0,(.val (.sl T91))),(1,(.val (.sl T91))),(12,vI)] [(13,vI)] uC0 wY3 uC fun y x=>[ex 1 (some (sK3 y x)) [(4,vB)] ((tD2 y x),()),ex 2 (some (qB9 y x)) [] ()]
def f50t (p0:(List D91)) (p1:(List D91)):Prop × Bool :=
 let v10:=((len p0) != (len p1))
 let y4:=(p0,p1,(len p0),())
 let x4:=((0:Int),())
 let e4:=(zB9 (uC0 y4) (wY3 y4) x4)
 (((!v10) = true → (Am.Ends (uC0 y4) (wY3 y4) (uC y4) x4)),(bif v10 then false else (bif (sK3 y4 e4) then (tD2 y4 e4) else true)))
def sK4 (p0:(List D91)) (p1:(List D91)):Prop:=(f50t p0 p1).1
def f50 (p0:(List D91)) (p1:(List D91)):Bool:=(f50t p0 p1).2
instance (p0:(List D91)) (p1:(List D91)):Decidable (sK4 p0 p1):=by
 unfold sK4 f50t
 try dsimp only
 infer_instance
def rI4:Am.Spec:=fnSpec [(0,(.val (.sl T91))),(1,(.val (.sl T91)))] vB [] (fun x=>sK4 x.1 x.2.1) (fun x=>f50 x.1 x.2.1) (fun _=>())
def qC:Ctx:=Cx tys [] [(4,tD3)] [] false 26 [] []
theorem qC0:CtxOk Tryz.prog qC:=xV6 tys_ok rfl trivial rfl (by kernel_rfl)
noncomputable def qY2:Code:=Tryz.f50.body.getD .skip
noncomputable def pQ2:Code:=xW5 qY2 0
theorem qC1:yU1 Tryz.prog qC pQ2:=xX3 qC0 mixed (sp:=tD3) rfl [[(4,vB)],[]] (bs:=[]) (by kernel_rfl) trivial (by kernel_rfl) (by kernel_rfl) fun y x=>by kernel_rfl
theorem oY9:SpecOk Tryz.prog 50 rI4:=xX4 qC0 mixed Tryz.func50 (by kernel_rfl) (bs:=[pQ2]) (by kernel_rfl) ⟨qC1,trivial⟩ fun x=>by kernel_rfl
abbrev vA9:Type:=((List D97) × (List D97) × Int × Unit)
abbrev wP3:Type:=(Int × Unit)
def uM6 (y:vA9) (x:wP3):Prop × Bool × wP3 × Bool × Bool :=
 let a0:=y.1
 let a1:=y.2.1
 let a13:=x.1
 let v14:=(decide (a13 < y.2.2.1))
 let v24:=(!(Ty.eqb T97 (nth a0 a13 Z97) (nth a1 a13 Z97)))
 ((v14 = true → (InB a13 (len a0) ∧ (InB a13 (len a1) ∧ ((!v24) = true → InR (a13 + 1))))),(v14 && (!v24)),((a13 + 1),()),(v14 && v24),(!v14))
def uC1 (y:vA9) (x:wP3):Prop:=(uM6 y x).1
def uC2 (y:vA9) (x:wP3):Bool:=(uM6 y x).2.1
def wY4 (y:vA9) (x:wP3):wP3:=(uM6 y x).2.2.1
def sK5 (y:vA9) (x:wP3):Bool:=(uM6 y x).2.2.2.1
def qC2 (y:vA9) (x:wP3):Bool:=(uM6 y x).2.2.2.2
instance (y:vA9) (x:wP3):Decidable (uC1 y x):=by
 unfold uC1 uM6
 try dsimp only
 infer_instance
def tD4 (y:vA9) (x:wP3):Bool :=
 false
def tD5:St → Option Out:=xO8 [(0,(.val (.sl T97))),(1,(.val (.sl T97))),(12,vI)] [(13,vI)] uC2 wY4 uC1 fun y x=>[ex 1 (some (sK5 y x)) [(4,vB)] ((tD4 y x),()),ex 2 (some (qC2 y x)) [] ()]
def f51t (p0:(List D97)) (p1:(List D97)):Prop × Bool :=
 let v10:=((len p0) != (len p1))
 let y4:=(p0,p1,(len p0),())
 let x4:=((0:Int),())
 let e4:=(zB9 (uC2 y4) (wY4 y4) x4)
 (((!v10) = true → (Am.Ends (uC2 y4) (wY4 y4) (uC1 y4) x4)),(bif v10 then false else (bif (sK5 y4 e4) then (tD4 y4 e4) else true)))
def sK6 (p0:(List D97)) (p1:(List D97)):Prop:=(f51t p0 p1).1
def f51 (p0:(List D97)) (p1:(List D97)):Bool:=(f51t p0 p1).2
instance (p0:(List D97)) (p1:(List D97)):Decidable (sK6 p0 p1):=by
 unfold sK6 f51t
 try dsimp only
 infer_instance
def rI5:Am.Spec:=fnSpec [(0,(.val (.sl T97))),(1,(.val (.sl T97)))] vB [] (fun x=>sK6 x.1 x.2.1) (fun x=>f51 x.1 x.2.1) (fun _=>())
def qC3:Ctx:=Cx tys [] [(4,tD5)] [] false 26 [] []
theorem qC4:CtxOk Tryz.prog qC3:=xV6 tys_ok rfl trivial rfl (by kernel_rfl)
noncomputable def qY3:Code:=Tryz.f51.body.getD .skip
noncomputable def pQ3:Code:=xW5 qY3 0
theorem qC5:yU1 Tryz.prog qC3 pQ3:=xX3 qC4 mixed (sp:=tD5) rfl [[(4,vB)],[]] (bs:=[]) (by kernel_rfl) trivial (by kernel_rfl) (by kernel_rfl) fun y x=>by kernel_rfl
theorem oZ:SpecOk Tryz.prog 51 rI5:=xX4 qC4 mixed Tryz.func51 (by kernel_rfl) (bs:=[pQ3]) (by kernel_rfl) ⟨qC5,trivial⟩ fun x=>by kernel_rfl
abbrev vB0:Type:=((List D94) × (List D94) × Int × Unit)
abbrev wP4:Type:=(Int × Unit)
def uM7 (y:vB0) (x:wP4):Prop × Bool × wP4 × Bool × Bool :=
 let a0:=y.1
 let a1:=y.2.1
 let a13:=x.1
 let v14:=(decide (a13 < y.2.2.1))
 let v24:=(!(Ty.eqb T94 (nth a0 a13 Z94) (nth a1 a13 Z94)))
 ((v14 = true → (InB a13 (len a0) ∧ (InB a13 (len a1) ∧ ((!v24) = true → InR (a13 + 1))))),(v14 && (!v24)),((a13 + 1),()),(v14 && v24),(!v14))
def uC3 (y:vB0) (x:wP4):Prop:=(uM7 y x).1
def uC4 (y:vB0) (x:wP4):Bool:=(uM7 y x).2.1
def wY5 (y:vB0) (x:wP4):wP4:=(uM7 y x).2.2.1
def sK7 (y:vB0) (x:wP4):Bool:=(uM7 y x).2.2.2.1
def qC6 (y:vB0) (x:wP4):Bool:=(uM7 y x).2.2.2.2
instance (y:vB0) (x:wP4):Decidable (uC3 y x):=by
 unfold uC3 uM7
 try dsimp only
 infer_instance
def tD6 (y:vB0) (x:wP4):Bool :=
 false
def tD7:St → Option Out:=xO8 [(0,(.val (.sl T94))),(1,(.val (.sl T94))),(12,vI)] [(13,vI)] uC4 wY5 uC3 fun y x=>[ex 1 (some (sK7 y x)) [(4,vB)] ((tD6 y x),()),ex 2 (some (qC6 y x)) [] ()]
def f52t (p0:(List D94)) (p1:(List D94)):Prop × Bool :=
 let v10:=((len p0) != (len p1))
 let y4:=(p0,p1,(len p0),())
 let x4:=((0:Int),())
 let e4:=(zB9 (uC4 y4) (wY5 y4) x4)
 (((!v10) = true → (Am.Ends (uC4 y4) (wY5 y4) (uC3 y4) x4)),(bif v10 then false else (bif (sK7 y4 e4) then (tD6 y4 e4) else true)))
def sK8 (p0:(List D94)) (p1:(List D94)):Prop:=(f52t p0 p1).1
def f52 (p0:(List D94)) (p1:(List D94)):Bool:=(f52t p0 p1).2
instance (p0:(List D94)) (p1:(List D94)):Decidable (sK8 p0 p1):=by
 unfold sK8 f52t
 try dsimp only
 infer_instance
def rI6:Am.Spec:=fnSpec [(0,(.val (.sl T94))),(1,(.val (.sl T94)))] vB [] (fun x=>sK8 x.1 x.2.1) (fun x=>f52 x.1 x.2.1) (fun _=>())
def qC7:Ctx:=Cx tys [] [(4,tD7)] [] false 26 [] []
theorem qC8:CtxOk Tryz.prog qC7:=xV6 tys_ok rfl trivial rfl (by kernel_rfl)
noncomputable def qY4:Code:=Tryz.f52.body.getD .skip
noncomputable def pQ4:Code:=xW5 qY4 0
theorem qC9:yU1 Tryz.prog qC7 pQ4:=xX3 qC8 mixed (sp:=tD7) rfl [[(4,vB)],[]] (bs:=[]) (by kernel_rfl) trivial (by kernel_rfl) (by kernel_rfl) fun y x=>by kernel_rfl
theorem oZ0:SpecOk Tryz.prog 52 rI6:=xX4 qC8 mixed Tryz.func52 (by kernel_rfl) (bs:=[pQ4]) (by kernel_rfl) ⟨qC9,trivial⟩ fun x=>by kernel_rfl
def f31t (p0:D57) (p1:D57):Prop × Bool :=
 let v17:=(bif (!(f44 p0.2.2.2.2.2.2.2.2.2.2.2.2.1 p1.2.2.2.2.2.2.2.2.2.2.2.2.1)) then true else (!(Ty.eqb T50 p0.2.2.2.2.2.2.2.2.2.2.2.2.2.1 p1.2.2.2.2.2.2.2.2.2.2.2.2.2.1)))
 let v29:=(bif (p0.2.2.2.2.2.2.2.2.2.2.2.2.2.2.1 != p1.2.2.2.2.2.2.2.2.2.2.2.2.2.2.1) then true else (p0.2.2.2.2.2.2.2.2.2.2.2.2.2.2.2.2.1 != p1.2.2.2.2.2.2.2.2.2.2.2.2.2.2.2.2.1))
 let v35:=(!(f30 p0.2.2.2.2.2.2.2.2.2.2.2.2.2.2.2.1 p1.2.2.2.2.2.2.2.2.2.2.2.2.2.2.2.1))
 let v43:=(bif v35 then true else (!(f50 p0.2.2.2.2.2.2.2.2.2.2.2.2.2.2.2.2.2.1 p1.2.2.2.2.2.2.2.2.2.2.2.2.2.2.2.2.2.1)))
 let v51:=(bif v43 then true else (!(f51 p0.2.2.2.2.2.2.2.2.2.2.2.2.2.2.2.2.2.2.1 p1.2.2.2.2.2.2.2.2.2.2.2.2.2.2.2.2.2.2.1)))
 let v63:=(bif (p0.2.2.2.2.2.2.2.2.2.2.2.2.2.2.2.2.2.2.2.1 != p1.2.2.2.2.2.2.2.2.2.2.2.2.2.2.2.2.2.2.2.1) then true else (p0.2.2.2.2.2.2.2.2.2.2.2.2.2.2.2.2.2.2.2.2.1 != p1.2.2.2.2.2.2.2.2.2.2.2.2.2.2.2.2.2.2.2.2.1))
 let v77:=(bif (bif v63 then true else (p0.2.2.2.2.2.2.2.2.2.2.2.2.2.2.2.2.2.2.2.2.2.1 != p1.2.2.2.2.2.2.2.2.2.2.2.2.2.2.2.2.2.2.2.2.2.1)) then true else (p0.2.2.2.2.2.2.2.2.2.2.2.2.2.2.2.2.2.2.2.2.2.2.1 != p1.2.2.2.2.2.2.2.2.2.2.2.2.2.2.2.2.2.2.2.2.2.2.1))
 let v89:=(bif (!(p0.2.2.2.2.2.2.2.2.2.2.2.2.2.2.2.2.2.2.2.2.2.2.2.1 == p1.2.2.2.2.2.2.2.2.2.2.2.2.2.2.2.2.2.2.2.2.2.2.2.1)) then true else (p0.2.2.2.2.2.2.2.2.2.2.2.2.2.2.2.2.2.2.2.2.2.2.2.2.1 != p1.2.2.2.2.2.2.2.2.2.2.2.2.2.2.2.2.2.2.2.2.2.2.2.2.1))
 let v103:=(bif (bif v89 then true else (p0.2.2.2.2.2.2.2.2.2.2.2.2.2.2.2.2.2.2.2.2.2.2.2.2.2.1 != p1.2.2.2.2.2.2.2.2.2.2.2.2.2.2.2.2.2.2.2.2.2.2.2.2.2.1)) then true else (p0.2.2.2.2.2.2.2.2.2.2.2.2.2.2.2.2.2.2.2.2.2.2.2.2.2.2.1 != p1.2.2.2.2.2.2.2.2.2.2.2.2.2.2.2.2.2.2.2.2.2.2.2.2.2.2.1))
 let v119:=(bif (p0.2.2.2.2.2.2.2.2.2.2.2.2.2.2.2.2.2.2.2.2.2.2.2.2.2.2.2.1.1 != p1.2.2.2.2.2.2.2.2.2.2.2.2.2.2.2.2.2.2.2.2.2.2.2.2.2.2.2.1.1) then true else (p0.2.2.2.2.2.2.2.2.2.2.2.2.2.2.2.2.2.2.2.2.2.2.2.2.2.2.2.1.2.1 != p1.2.2.2.2.2.2.2.2.2.2.2.2.2.2.2.2.2.2.2.2.2.2.2.2.2.2.2.1.2.1))
 let v128:=(bif v119 then true else (p0.2.2.2.2.2.2.2.2.2.2.2.2.2.2.2.2.2.2.2.2.2.2.2.2.2.2.2.1.2.2.1 != p1.2.2.2.2.2.2.2.2.2.2.2.2.2.2.2.2.2.2.2.2.2.2.2.2.2.2.2.1.2.2.1))
 let m4_2:=(bif v77 then false else (bif v103 then false else (bif v128 then false else (f52 p0.2.2.2.2.2.2.2.2.2.2.2.2.2.2.2.2.2.2.2.2.2.2.2.2.2.2.2.1.2.2.2.1 p1.2.2.2.2.2.2.2.2.2.2.2.2.2.2.2.2.2.2.2.2.2.2.2.2.2.2.2.1.2.2.2.1))))
 (((tT5 p0.2.2.2.2.2.2.2.2.2.2.2.2.1 p1.2.2.2.2.2.2.2.2.2.2.2.2.1) ∧ ((!v17) = true → ((!v29) = true → ((tD p0.2.2.2.2.2.2.2.2.2.2.2.2.2.2.2.1 p1.2.2.2.2.2.2.2.2.2.2.2.2.2.2.2.1) ∧ (((!v35) = true → (sK4 p0.2.2.2.2.2.2.2.2.2.2.2.2.2.2.2.2.2.1 p1.2.2.2.2.2.2.2.2.2.2.2.2.2.2.2.2.2.1)) ∧ (((!v43) = true → (sK6 p0.2.2.2.2.2.2.2.2.2.2.2.2.2.2.2.2.2.2.1 p1.2.2.2.2.2.2.2.2.2.2.2.2.2.2.2.2.2.2.1)) ∧ ((!v51) = true → ((!v77) = true → ((!v103) = true → ((!v128) = true → (sK8 p0.2.2.2.2.2.2.2.2.2.2.2.2.2.2.2.2.2.2.2.2.2.2.2.2.2.2.2.1.2.2.2.1 p1.2.2.2.2.2.2.2.2.2.2.2.2.2.2.2.2.2.2.2.2.2.2.2.2.2.2.2.1.2.2.2.1))))))))))),(bif v17 then false else (bif v29 then false else (bif v51 then false else m4_2))))
def sK9 (p0:D57) (p1:D57):Prop:=(f31t p0 p1).1
def f31 (p0:D57) (p1:D57):Bool:=(f31t p0 p1).2
instance (p0:D57) (p1:D57):Decidable (sK9 p0 p1):=by
 unfold sK9 f31t
 try dsimp only
 infer_instance
def rI7:Am.Spec:=fnSpec [(0,(.val T57)),(1,(.val T57))] vB [] (fun x=>sK9 x.1 x.2.1) (fun x=>f31 x.1 x.2.1) (fun _=>())
def pZ2:Ctx:=Cx tys [(30,uY7),(44,sA9),(50,rI4),(51,rI5),(52,rI6)] [] [] false 136 [] []
theorem pZ3:CtxOk Tryz.prog pZ2:=xV6 tys_ok rfl ⟨qB4,pQ1,oY9,oZ,oZ0,trivial⟩ rfl (by kernel_rfl)
theorem oZ1:SpecOk Tryz.prog 31 rI7:=xX4 pZ3 mixed Tryz.func31 (by kernel_rfl) (bs:=[]) (by kernel_rfl) trivial fun x=>by kernel_rfl
def f12t (p0:D57) (p1:D57):Prop × Bool :=
 let v30:=(bif (bif (bif (p0.1 != p1.1) then true else (p0.2.1 != p1.2.1)) then true else (p0.2.2.1 != p1.2.2.1)) then true else (!(p0.2.2.2.1 == p1.2.2.2.1)))
 let v49:=(bif (bif (!(Ty.eqb .bool p0.2.2.2.2.1 p1.2.2.2.2.1)) then true else (!(Ty.eqb .bool p0.2.2.2.2.2.1 p1.2.2.2.2.2.1))) then true else (!(Ty.eqb .bool p0.2.2.2.2.2.2.1 p1.2.2.2.2.2.2.1)))
 let v75:=(bif (bif (bif (p0.2.2.2.2.2.2.2.1 != p1.2.2.2.2.2.2.2.1) then true else (p0.2.2.2.2.2.2.2.2.1 != p1.2.2.2.2.2.2.2.2.1)) then true else (!(Ty.eqb T45 p0.2.2.2.2.2.2.2.2.2.2.1 p1.2.2.2.2.2.2.2.2.2.2.1))) then true else (p0.2.2.2.2.2.2.2.2.2.2.2.1 != p1.2.2.2.2.2.2.2.2.2.2.2.1))
 let v91:=(bif (p0.2.2.2.2.2.2.2.2.2.1.1 != p1.2.2.2.2.2.2.2.2.2.1.1) then true else (p0.2.2.2.2.2.2.2.2.2.1.2.1 != p1.2.2.2.2.2.2.2.2.2.1.2.1))
 let v101:=(bif v91 then true else (!(f30 p0.2.2.2.2.2.2.2.2.2.1.2.2.1 p1.2.2.2.2.2.2.2.2.2.1.2.2.1)))
 (((!v30) = true → ((!v49) = true → ((!v75) = true → (((!v91) = true → (tD p0.2.2.2.2.2.2.2.2.2.1.2.2.1 p1.2.2.2.2.2.2.2.2.2.1.2.2.1)) ∧ ((!v101) = true → (sK9 p0 p1)))))),(bif v30 then false else (bif v49 then false else (bif v75 then false else (bif v101 then false else (f31 p0 p1))))))
def uR2 (p0:D57) (p1:D57):Prop:=(f12t p0 p1).1
def f12 (p0:D57) (p1:D57):Bool:=(f12t p0 p1).2
instance (p0:D57) (p1:D57):Decidable (uR2 p0 p1):=by
 unfold uR2 f12t
 try dsimp only
 infer_instance
def sB:Am.Spec:=fnSpec [(0,(.val T57)),(1,(.val T57))] vB [] (fun x=>uR2 x.1 x.2.1) (fun x=>f12 x.1 x.2.1) (fun _=>())
def pZ4:Ctx:=Cx tys [(30,uY7),(31,rI7)] [] [] false 105 [] []
theorem pZ5:CtxOk Tryz.prog pZ4:=xV6 tys_ok rfl ⟨qB4,oZ1,trivial⟩ rfl (by kernel_rfl)
theorem pQ5:SpecOk Tryz.prog 12 sB:=xX4 pZ5 mixed Tryz.func12 (by kernel_rfl) (bs:=[]) (by kernel_rfl) trivial fun x=>by kernel_rfl
def f53t :Prop × Int :=
 (True,(4:Int))
def sL :Prop:=(f53t).1
def f53 :Int:=(f53t).2
instance :Decidable (sL):=by
 unfold sL f53t
 try dsimp only
 infer_instance
def rI8:Am.Spec:=fnSpec [] vI [] (fun x=>sL ) (fun x=>f53 ) (fun _=>())
def pZ6:Ctx:=Cx tys [] [] [] false 1 [] []
theorem pZ7:CtxOk Tryz.prog pZ6:=xV6 tys_ok rfl trivial rfl (by kernel_rfl)
theorem oZ2:SpecOk Tryz.prog 53 rI8:=xX4 pZ7 mixed Tryz.func53 (by kernel_rfl) (bs:=[]) (by kernel_rfl) trivial fun x=>by kernel_rfl
def f32t (p0:D28):Prop × Int :=
 let v20:=(bif (bif (bif (decide (p0.1 < 1)) then true else (decide (p0.1 > 256))) then true else (decide (p0.2.1 < 1))) then true else (decide (p0.2.1 > 256)))
 let v23:=(decide (p0.2.2.1 < 0))
 (((!v20) = true → ((!v23) = true → sL)),(bif v20 then (15:Int) else (bif (bif v23 then true else (decide (p0.2.2.1 ≥ f53))) then (2:Int) else (0:Int))))
def tT6 (p0:D28):Prop:=(f32t p0).1
def f32 (p0:D28):Int:=(f32t p0).2
instance (p0:D28):Decidable (tT6 p0):=by
 unfold tT6 f32t
 try dsimp only
 infer_instance
def rI9:Am.Spec:=fnSpec [(0,(.val T28))] vI [] (fun x=>tT6 x.1) (fun x=>f32 x.1) (fun _=>())
def pZ8:Ctx:=Cx tys [(53,rI8)] [] [] false 30 [] []
theorem pZ9:CtxOk Tryz.prog pZ8:=xV6 tys_ok rfl ⟨oZ2,trivial⟩ rfl (by kernel_rfl)
theorem oZ3:SpecOk Tryz.prog 32 rI9:=xX4 pZ9 mixed Tryz.func32 (by kernel_rfl) (bs:=[]) (by kernel_rfl) trivial fun x=>by kernel_rfl
def f64t (p0:Int):Prop × Bool :=
 (True,(bif (decide (p0 ≥ 0)) then (decide (p0 ≤ 65535)) else false))
def sL0 (p0:Int):Prop:=(f64t p0).1
def f64 (p0:Int):Bool:=(f64t p0).2
instance (p0:Int):Decidable (sL0 p0):=by
 unfold sL0 f64t
 try dsimp only
 infer_instance
def rJ:Am.Spec:=fnSpec [(0,vI)] vB [] (fun x=>sL0 x.1) (fun x=>f64 x.1) (fun _=>())
def oA:Ctx:=Cx tys [] [] [] false 9 [] []
theorem oA0:CtxOk Tryz.prog oA:=xV6 tys_ok rfl trivial rfl (by kernel_rfl)
theorem oZ4:SpecOk Tryz.prog 64 rJ:=xX4 oA0 mixed Tryz.func64 (by kernel_rfl) (bs:=[]) (by kernel_rfl) trivial fun x=>by kernel_rfl
abbrev vB1:Type:=((List Int) × Int × Unit)
abbrev wP5:Type:=(Int × Unit)
def uM8 (y:vB1) (x:wP5):Prop × Bool × wP5 × Bool × Bool :=
 let a42:=y.1
 let a44:=x.1
 let v45:=(decide (a44 < y.2.1))
 let v46:=(nth a42 a44 (0:Int))
 let v50:=(!(f64 v46))
 ((v45 = true → (InB a44 (len a42) ∧ ((sL0 v46) ∧ ((!v50) = true → InR (a44 + 1))))),(v45 && (!v50)),((a44 + 1),()),(v45 && v50),(!v45))
def uC5 (y:vB1) (x:wP5):Prop:=(uM8 y x).1
def sB0 (y:vB1) (x:wP5):Bool:=(uM8 y x).2.1
def vY6 (y:vB1) (x:wP5):wP5:=(uM8 y x).2.2.1
def sL1 (y:vB1) (x:wP5):Bool:=(uM8 y x).2.2.2.1
def qD (y:vB1) (x:wP5):Bool:=(uM8 y x).2.2.2.2
instance (y:vB1) (x:wP5):Decidable (uC5 y x):=by
 unfold uC5 uM8
 try dsimp only
 infer_instance
def tD8 (y:vB1) (x:wP5):Int :=
 (2:Int)
def tD9:St → Option Out:=xO8 [(42,(.val (.sl (.int .i64)))),(43,vI)] [(44,vI)] sB0 vY6 uC5 fun y x=>[ex 1 (some (sL1 y x)) [(2,vI)] ((tD8 y x),()),ex 2 (some (qD y x)) [] ()]
def f38t (p0:D24):Prop × Int :=
 let v22:=(bif (bif (bif (decide (p0.1 < 0)) then true else (decide (p0.1 > 256))) then true else (decide (p0.2.1 < 0))) then true else (decide (p0.2.1 > 256)))
 let v29:=(!(Ty.eqb .bool (p0.1 == 0) (p0.2.1 == 0)))
 let v40:=(bif v29 then true else ((len p0.2.2.1) != (p0.1 * p0.2.1)))
 let y6:=(p0.2.2.1,(len p0.2.2.1),())
 let x6:=((0:Int),())
 let e6:=(zB9 (sB0 y6) (vY6 y6) x6)
 (((!v22) = true → (((!v29) = true → InR (p0.1 * p0.2.1)) ∧ ((!v40) = true → (Am.Ends (sB0 y6) (vY6 y6) (uC5 y6) x6)))),(bif v22 then (15:Int) else (bif v40 then (15:Int) else (bif (sL1 y6 e6) then (tD8 y6 e6) else (0:Int)))))
def tT7 (p0:D24):Prop:=(f38t p0).1
def f38 (p0:D24):Int:=(f38t p0).2
instance (p0:D24):Decidable (tT7 p0):=by
 unfold tT7 f38t
 try dsimp only
 infer_instance
def sB1:Am.Spec:=fnSpec [(0,(.val T24))] vI [] (fun x=>tT7 x.1) (fun x=>f38 x.1) (fun _=>())
def qD0:Ctx:=Cx tys [(64,rJ)] [(6,tD9)] [] false 52 [] []
theorem qD1:CtxOk Tryz.prog qD0:=xV6 tys_ok rfl ⟨oZ4,trivial⟩ rfl (by kernel_rfl)
noncomputable def qY5:Code:=Tryz.f38.body.getD .skip
noncomputable def pQ6:Code:=xW5 qY5 0
theorem qD2:yU1 Tryz.prog qD0 pQ6:=xX3 qD1 mixed (sp:=tD9) rfl [[(2,vI)],[]] (bs:=[]) (by kernel_rfl) trivial (by kernel_rfl) (by kernel_rfl) fun y x=>by kernel_rfl
theorem pQ7:SpecOk Tryz.prog 38 sB1:=xX4 qD1 mixed Tryz.func38 (by kernel_rfl) (bs:=[pQ6]) (by kernel_rfl) ⟨qD2,trivial⟩ fun x=>by kernel_rfl
def f56t (p0:D57):Prop × Bool :=
 (True,(bif (bif (p0.2.1 == 7) then true else (p0.2.1 == 8)) then true else (p0.2.1 == 11)))
def tE (p0:D57):Prop:=(f56t p0).1
def f56 (p0:D57):Bool:=(f56t p0).2
instance (p0:D57):Decidable (tE p0):=by
 unfold tE f56t
 try dsimp only
 infer_instance
def uY8:Am.Spec:=fnSpec [(0,(.val T57))] vB [] (fun x=>tE x.1) (fun x=>f56 x.1) (fun _=>())
def oA1:Ctx:=Cx tys [] [] [] false 16 [] []
theorem oA2:CtxOk Tryz.prog oA1:=xV6 tys_ok rfl trivial rfl (by kernel_rfl)
theorem qD3:SpecOk Tryz.prog 56 uY8:=xX4 oA2 mixed Tryz.func56 (by kernel_rfl) (bs:=[]) (by kernel_rfl) trivial fun x=>by kernel_rfl
def f91t (p0:Int):Prop × (List UInt8) :=
 let v5:=(p0 == 1)
 let v7:=(p0 == 2)
 let v9:=(p0 == 3)
 let v11:=(p0 == 4)
 let v13:=(p0 == 5)
 let v15:=(p0 == 6)
 let v17:=(p0 == 7)
 let v19:=(p0 == 8)
 let v21:=(p0 == 9)
 let v23:=(p0 == 10)
 let m2_2:=(bif v19 then ([102,105,108,116,101,114]:List UInt8) else (bif v21 then ([108,105,110,107]:List UInt8) else (bif v23 then ([99,108,111,110,101]:List UInt8) else ([119,97,114,112]:List UInt8))))
 let m2_6:=(bif v11 then ([103,114,97,100,105,101,110,116]:List UInt8) else (bif v13 then ([112,97,116,104]:List UInt8) else (bif v15 then ([116,101,120,116]:List UInt8) else (bif v17 then ([97,100,106,117,115,116]:List UInt8) else m2_2))))
 let c_14:=(bif v9 then true else (bif v11 then true else (bif v13 then true else (bif v15 then true else (bif v17 then true else (bif v19 then true else (bif v21 then true else (bif v23 then true else (p0 == 11)))))))))
 let m2_10:=(bif (bif v5 then true else (bif v7 then true else c_14)) then (bif v5 then ([103,114,111,117,112]:List UInt8) else (bif v7 then ([105,109,97,103,101]:List UInt8) else (bif v9 then ([102,105,108,108]:List UInt8) else m2_6))) else ([]:List UInt8))
 (True,m2_10)
def sL2 (p0:Int):Prop:=(f91t p0).1
def f91 (p0:Int):(List UInt8):=(f91t p0).2
instance (p0:Int):Decidable (sL2 p0):=by
 unfold sL2 f91t
 try dsimp only
 infer_instance
def rJ0:Am.Spec:=fnSpec [(0,vI)] vS [] (fun x=>sL2 x.1) (fun x=>f91 x.1) (fun _=>())
def oA3:Ctx:=Cx tys [] [] [] false 26 [] []
theorem oA4:CtxOk Tryz.prog oA3:=xV6 tys_ok rfl trivial rfl (by kernel_rfl)
theorem oZ5:SpecOk Tryz.prog 91 rJ0:=xX4 oA4 mixed Tryz.func91 (by kernel_rfl) (bs:=[]) (by kernel_rfl) trivial fun x=>by kernel_rfl
abbrev vB2:Type:=((List UInt8) × Int × Unit)
abbrev wP6:Type:=(Int × Unit)
def uM9 (y:vB2) (x:wP6):Prop × Bool × wP6 × Bool × Bool :=
 let a0:=y.1
 let a14:=x.1
 let v15:=(decide (a14 < y.2.1))
 let v20:=(decide ((xW8 a0 a14) < 33))
 let v26:=(bif v20 then true else (decide ((xW8 a0 a14) > 126)))
 ((v15 = true → (InB a14 (len a0) ∧ (((!v20) = true → InB a14 (len a0)) ∧ ((!v26) = true → InR (a14 + 1))))),(v15 && (!v26)),((a14 + 1),()),(v15 && v26),(!v15))
def uC6 (y:vB2) (x:wP6):Prop:=(uM9 y x).1
def sB2 (y:vB2) (x:wP6):Bool:=(uM9 y x).2.1
def vY7 (y:vB2) (x:wP6):wP6:=(uM9 y x).2.2.1
def sL3 (y:vB2) (x:wP6):Bool:=(uM9 y x).2.2.2.1
def qD4 (y:vB2) (x:wP6):Bool:=(uM9 y x).2.2.2.2
instance (y:vB2) (x:wP6):Decidable (uC6 y x):=by
 unfold uC6 uM9
 try dsimp only
 infer_instance
def tE0 (y:vB2) (x:wP6):Bool :=
 false
def tE1:St → Option Out:=xO8 [(0,vS),(13,vI)] [(14,vI)] sB2 vY7 uC6 fun y x=>[ex 1 (some (sL3 y x)) [(2,vB)] ((tE0 y x),()),ex 2 (some (qD4 y x)) [] ()]
def f92t (p0:(List UInt8)):Prop × Bool :=
 let v11:=(bif (decide ((len p0) < 1)) then true else (decide ((len p0) > 32)))
 let y4:=(p0,(len p0),())
 let x4:=((0:Int),())
 let e4:=(zB9 (sB2 y4) (vY7 y4) x4)
 (((!v11) = true → (Am.Ends (sB2 y4) (vY7 y4) (uC6 y4) x4)),(bif v11 then false else (bif (sL3 y4 e4) then (tE0 y4 e4) else true)))
def sL4 (p0:(List UInt8)):Prop:=(f92t p0).1
def f92 (p0:(List UInt8)):Bool:=(f92t p0).2
instance (p0:(List UInt8)):Decidable (sL4 p0):=by
 unfold sL4 f92t
 try dsimp only
 infer_instance
def rJ1:Am.Spec:=fnSpec [(0,vS)] vB [] (fun x=>sL4 x.1) (fun x=>f92 x.1) (fun _=>())
def qD5:Ctx:=Cx tys [] [(4,tE1)] [] false 28 [] []
theorem qD6:CtxOk Tryz.prog qD5:=xV6 tys_ok rfl trivial rfl (by kernel_rfl)
noncomputable def qY6:Code:=Tryz.f92.body.getD .skip
noncomputable def pQ8:Code:=xW5 qY6 0
theorem qD7:yU1 Tryz.prog qD5 pQ8:=xX3 qD6 mixed (sp:=tE1) rfl [[(2,vB)],[]] (bs:=[]) (by kernel_rfl) trivial (by kernel_rfl) (by kernel_rfl) fun y x=>by kernel_rfl
theorem oZ6:SpecOk Tryz.prog 92 rJ1:=xX4 qD6 mixed Tryz.func92 (by kernel_rfl) (bs:=[pQ8]) (by kernel_rfl) ⟨qD7,trivial⟩ fun x=>by kernel_rfl
def f93t (p0:Int):Prop × Bool :=
 (True,(bif (decide (p0 ≥ 0)) then (decide (p0 ≤ 1073741824)) else false))
def tT8 (p0:Int):Prop:=(f93t p0).1
def f93 (p0:Int):Bool:=(f93t p0).2
instance (p0:Int):Decidable (tT8 p0):=by
 unfold tT8 f93t
 try dsimp only
 infer_instance
def rJ2:Am.Spec:=fnSpec [(0,vI)] vB [] (fun x=>tT8 x.1) (fun x=>f93 x.1) (fun _=>())
def oA5:Ctx:=Cx tys [] [] [] false 9 [] []
theorem oA6:CtxOk Tryz.prog oA5:=xV6 tys_ok rfl trivial rfl (by kernel_rfl)
theorem oZ7:SpecOk Tryz.prog 93 rJ2:=xX4 oA6 mixed Tryz.func93 (by kernel_rfl) (bs:=[]) (by kernel_rfl) trivial fun x=>by kernel_rfl
def f94t (p0:Int):Prop × Bool :=
 (True,(bif (decide (p0 ≥ 0)) then (decide (p0 ≤ 65535)) else false))
def sL5 (p0:Int):Prop:=(f94t p0).1
def f94 (p0:Int):Bool:=(f94t p0).2
instance (p0:Int):Decidable (sL5 p0):=by
 unfold sL5 f94t
 try dsimp only
 infer_instance
def rJ3:Am.Spec:=fnSpec [(0,vI)] vB [] (fun x=>sL5 x.1) (fun x=>f94 x.1) (fun _=>())
def oA7:Ctx:=Cx tys [] [] [] false 9 [] []
theorem oA8:CtxOk Tryz.prog oA7:=xV6 tys_ok rfl trivial rfl (by kernel_rfl)
theorem oZ8:SpecOk Tryz.prog 94 rJ3:=xX4 oA8 mixed Tryz.func94 (by kernel_rfl) (bs:=[]) (by kernel_rfl) trivial fun x=>by kernel_rfl
def f95t (p0:Int):Prop × Bool :=
 (True,(bif (decide (p0 ≥ 0)) then (decide (p0 < 18)) else false))
def sL6 (p0:Int):Prop:=(f95t p0).1
def f95 (p0:Int):Bool:=(f95t p0).2
instance (p0:Int):Decidable (sL6 p0):=by
 unfold sL6 f95t
 try dsimp only
 infer_instance
def rJ4:Am.Spec:=fnSpec [(0,vI)] vB [] (fun x=>sL6 x.1) (fun x=>f95 x.1) (fun _=>())
def oA9:Ctx:=Cx tys [] [] [] false 9 [] []
theorem oB:CtxOk Tryz.prog oA9:=xV6 tys_ok rfl trivial rfl (by kernel_rfl)
theorem oZ9:SpecOk Tryz.prog 95 rJ4:=xX4 oB mixed Tryz.func95 (by kernel_rfl) (bs:=[]) (by kernel_rfl) trivial fun x=>by kernel_rfl
def f75t (p0:D57) (p1:Int) (p2:Int):Prop × Int :=
 let v21:=(bif (bif (bif (decide (p1 < 1)) then true else (decide (p1 > 256))) then true else (decide (p2 < 1))) then true else (decide (p2 > 256)))
 let v25:=((f91 p0.2.1) == ([]:List UInt8))
 let v29:=(!(f92 p0.2.2.2.1))
 let v33:=(!(f93 p0.1))
 let v39:=(bif v33 then true else (!(f93 p0.2.2.1)))
 let v45:=(bif v39 then true else (!(f94 p0.2.2.2.2.2.2.2.1)))
 let v49:=(!(f95 p0.2.2.2.2.2.2.2.2.1))
 let v58:=(bif v49 then true else (bif (f56 p0) then (p0.2.2.2.2.2.2.2.2.1 != 0) else false))
 let v61:=(f38 p0.2.2.2.2.2.2.2.2.2.1)
 let m6_1:=(bif (v61 != 0) then v61 else (bif (bif (p0.2.2.2.2.2.2.2.2.2.1.1 != 0) then (bif (p0.2.2.2.2.2.2.2.2.2.1.1 != p1) then true else (p0.2.2.2.2.2.2.2.2.2.1.2.1 != p2)) else false) then (15:Int) else (0:Int)))
 (((!v21) = true → ((sL2 p0.2.1) ∧ ((!v25) = true → ((sL4 p0.2.2.2.1) ∧ ((!v29) = true → ((tT8 p0.1) ∧ (((!v33) = true → (tT8 p0.2.2.1)) ∧ (((!v39) = true → (sL5 p0.2.2.2.2.2.2.2.1)) ∧ ((!v45) = true → ((sL6 p0.2.2.2.2.2.2.2.2.1) ∧ (((!v49) = true → (tE p0)) ∧ ((!v58) = true → (tT7 p0.2.2.2.2.2.2.2.2.2.1))))))))))))),(bif v21 then (15:Int) else (bif v25 then (8:Int) else (bif v29 then (13:Int) else (bif v45 then (2:Int) else (bif v58 then (8:Int) else m6_1))))))
def sL7 (p0:D57) (p1:Int) (p2:Int):Prop:=(f75t p0 p1 p2).1
def f75 (p0:D57) (p1:Int) (p2:Int):Int:=(f75t p0 p1 p2).2
instance (p0:D57) (p1:Int) (p2:Int):Decidable (sL7 p0 p1 p2):=by
 unfold sL7 f75t
 try dsimp only
 infer_instance
def rJ5:Am.Spec:=fnSpec [(0,(.val T57)),(1,vI),(2,vI)] vI [] (fun x=>sL7 x.1 x.2.1 x.2.2.1) (fun x=>f75 x.1 x.2.1 x.2.2.1) (fun _=>())
def oB0:Ctx:=Cx tys [(38,sB1),(56,uY8),(91,rJ0),(92,rJ1),(93,rJ2),(94,rJ3),(95,rJ4)] [] [] false 83 [] []
theorem oB1:CtxOk Tryz.prog oB0:=xV6 tys_ok rfl ⟨pQ7,qD3,oZ5,oZ6,oZ7,oZ8,oZ9,trivial⟩ rfl (by kernel_rfl)
theorem nA:SpecOk Tryz.prog 75 rJ5:=xX4 oB1 mixed Tryz.func75 (by kernel_rfl) (bs:=[]) (by kernel_rfl) trivial fun x=>by kernel_rfl
def f76t (p0:Int):Prop × Bool :=
 let v5:=(p0 == 2)
 let v6:=(p0 == 5)
 let v7:=(p0 == 6)
 let v8:=(p0 == 9)
 (True,(bif (bif v5 then v5 else (bif v6 then v6 else (bif v7 then v7 else (bif v8 then v8 else (p0 == 10))))) then true else false))
def tT9 (p0:Int):Prop:=(f76t p0).1
def f76 (p0:Int):Bool:=(f76t p0).2
instance (p0:Int):Decidable (tT9 p0):=by
 unfold tT9 f76t
 try dsimp only
 infer_instance
def sB3:Am.Spec:=fnSpec [(0,vI)] vB [] (fun x=>tT9 x.1) (fun x=>f76 x.1) (fun _=>())
def oB2:Ctx:=Cx tys [] [] [] false 10 [] []
theorem oB3:CtxOk Tryz.prog oB2:=xV6 tys_ok rfl trivial rfl (by kernel_rfl)
theorem pQ9:SpecOk Tryz.prog 76 sB3:=xX4 oB3 mixed Tryz.func76 (by kernel_rfl) (bs:=[]) (by kernel_rfl) trivial fun x=>by kernel_rfl
def oB4 (p0:Int) (p1:Int) (p2:Int):Prop × Int :=
 (True,(xW2 p2 (xW1 p0 p1)))
def vY8 (p0:Int) (p1:Int) (p2:Int):Prop:=(oB4 p0 p1 p2).1
def f126 (p0:Int) (p1:Int) (p2:Int):Int:=(oB4 p0 p1 p2).2
instance (p0:Int) (p1:Int) (p2:Int):Decidable (vY8 p0 p1 p2):=by
 unfold vY8 oB4
 try dsimp only
 infer_instance
def uC7:Am.Spec:=fnSpec [(0,vI),(1,vI),(2,vI)] vI [] (fun x=>vY8 x.1 x.2.1 x.2.2.1) (fun x=>f126 x.1 x.2.1 x.2.2.1) (fun _=>())
def qY7:Ctx:=Cx tys [] [] [] true 12 [] []
theorem qY8:CtxOk Tryz.prog qY7:=xV6 tys_ok rfl trivial rfl (by kernel_rfl)
theorem sX6:SpecOk Tryz.prog 126 uC7:=xX4 qY8 mixed Tryz.func126 (by kernel_rfl) (bs:=[]) (by kernel_rfl) trivial fun x=>by kernel_rfl
def oB5 (p0:Int):Prop × Int :=
 ((vY8 p0 (-16777216:Int) (16777216:Int)),(f126 p0 (-16777216:Int) (16777216:Int)))
def vM6 (p0:Int):Prop:=(oB5 p0).1
def f108 (p0:Int):Int:=(oB5 p0).2
instance (p0:Int):Decidable (vM6 p0):=by
 unfold vM6 oB5
 try dsimp only
 infer_instance
def sL8:Am.Spec:=fnSpec [(0,vI)] vI [] (fun x=>vM6 x.1) (fun x=>f108 x.1) (fun _=>())
def qY9:Ctx:=Cx tys [(126,uC7)] [] [] false 5 [] []
theorem qZ:CtxOk Tryz.prog qY9:=xV6 tys_ok rfl ⟨sX6,trivial⟩ rfl (by kernel_rfl)
theorem oB6:SpecOk Tryz.prog 108 sL8:=xX4 qZ mixed Tryz.func108 (by kernel_rfl) (bs:=[]) (by kernel_rfl) trivial fun x=>by kernel_rfl
def oB7 (p0:Int):Prop × Int :=
 ((vY8 p0 (-1099511627776:Int) (1099511627776:Int)),(f126 p0 (-1099511627776:Int) (1099511627776:Int)))
def vE1 (p0:Int):Prop:=(oB7 p0).1
def f109 (p0:Int):Int:=(oB7 p0).2
instance (p0:Int):Decidable (vE1 p0):=by
 unfold vE1 oB7
 try dsimp only
 infer_instance
def tE2:Am.Spec:=fnSpec [(0,vI)] vI [] (fun x=>vE1 x.1) (fun x=>f109 x.1) (fun _=>())
def qZ0:Ctx:=Cx tys [(126,uC7)] [] [] true 5 [] []
theorem qZ1:CtxOk Tryz.prog qZ0:=xV6 tys_ok rfl ⟨sX6,trivial⟩ rfl (by kernel_rfl)
theorem qD8:SpecOk Tryz.prog 109 tE2:=xX4 qZ1 mixed Tryz.func109 (by kernel_rfl) (bs:=[]) (by kernel_rfl) trivial fun x=>by kernel_rfl
def f96t (p0:D45):Prop × D45 :=
 (((vM6 p0.1) ∧ ((vM6 p0.2.1) ∧ ((vM6 p0.2.2.1) ∧ ((vM6 p0.2.2.2.1) ∧ ((vE1 p0.2.2.2.2.1) ∧ (vE1 p0.2.2.2.2.2.1)))))),((f108 p0.1),(f108 p0.2.1),(f108 p0.2.2.1),(f108 p0.2.2.2.1),(f109 p0.2.2.2.2.1),(f109 p0.2.2.2.2.2.1),()))
def tU (p0:D45):Prop:=(f96t p0).1
def f96 (p0:D45):D45:=(f96t p0).2
instance (p0:D45):Decidable (tU p0):=by
 unfold tU f96t
 try dsimp only
 infer_instance
def sB4:Am.Spec:=fnSpec [(0,(.val T45))] (.val T45) [] (fun x=>tU x.1) (fun x=>f96 x.1) (fun _=>())
def oB8:Ctx:=Cx tys [(108,sL8),(109,tE2)] [] [] true 22 [] []
theorem oB9:CtxOk Tryz.prog oB8:=xV6 tys_ok rfl ⟨oB6,qD8,trivial⟩ rfl (by kernel_rfl)
theorem pR:SpecOk Tryz.prog 96 sB4:=xX4 oB9 mixed Tryz.func96 (by kernel_rfl) (bs:=[]) (by kernel_rfl) trivial fun x=>by kernel_rfl
def f77t (p0:D45):Prop × Int :=
 ((tU p0),(bif (!(Ty.eqb T45 p0 (f96 p0))) then (2:Int) else (0:Int)))
def vX0 (p0:D45):Prop:=(f77t p0).1
def f77 (p0:D45):Int:=(f77t p0).2
instance (p0:D45):Decidable (vX0 p0):=by
 unfold vX0 f77t
 try dsimp only
 infer_instance
def uC8:Am.Spec:=fnSpec [(0,(.val T45))] vI [] (fun x=>vX0 x.1) (fun x=>f77 x.1) (fun _=>())
def oC:Ctx:=Cx tys [(96,sB4)] [] [] false 7 [] []
theorem oC0:CtxOk Tryz.prog oC:=xV6 tys_ok rfl ⟨pR,trivial⟩ rfl (by kernel_rfl)
theorem rJ6:SpecOk Tryz.prog 77 uC8:=xX4 oC0 mixed Tryz.func77 (by kernel_rfl) (bs:=[]) (by kernel_rfl) trivial fun x=>by kernel_rfl
def f98t (p0:Int) (p1:Int) (p2:Int) (p3:Int):Prop × Int :=
 let v12:=(f110 p1 (65536:Int))
 let v14:=(f110 p3 (65536:Int))
 let v34:=(IntKind.wrap .i64 ((IntKind.wrap .i64 (p0 * (IntKind.wrap .i64 (p1 - (IntKind.wrap .i64 (v12 * 65536)))))) + (IntKind.wrap .i64 (p2 * (IntKind.wrap .i64 (p3 - (IntKind.wrap .i64 (v14 * 65536))))))))
 (((vY5 p1 (65536:Int)) ∧ ((vY5 p3 (65536:Int)) ∧ (wC6 v34 (65536:Int)))),(IntKind.wrap .i64 ((IntKind.wrap .i64 ((IntKind.wrap .i64 (p0 * v12)) + (IntKind.wrap .i64 (p2 * v14)))) + (f97 v34 (65536:Int)))))
def uR3 (p0:Int) (p1:Int) (p2:Int) (p3:Int):Prop:=(f98t p0 p1 p2 p3).1
def f98 (p0:Int) (p1:Int) (p2:Int) (p3:Int):Int:=(f98t p0 p1 p2 p3).2
instance (p0:Int) (p1:Int) (p2:Int) (p3:Int):Decidable (uR3 p0 p1 p2 p3):=by
 unfold uR3 f98t
 try dsimp only
 infer_instance
def sB5:Am.Spec:=fnSpec [(0,vI),(1,vI),(2,vI),(3,vI)] vI [] (fun x=>uR3 x.1 x.2.1 x.2.2.1 x.2.2.2.1) (fun x=>f98 x.1 x.2.1 x.2.2.1 x.2.2.2.1) (fun _=>())
def oC1:Ctx:=Cx tys [(97,wK8),(110,tC3)] [] [] true 37 [] []
theorem oC2:CtxOk Tryz.prog oC1:=xV6 tys_ok rfl ⟨vM2,qA2,trivial⟩ rfl (by kernel_rfl)
theorem pR0:SpecOk Tryz.prog 98 sB5:=xX4 oC2 mixed Tryz.func98 (by kernel_rfl) (bs:=[]) (by kernel_rfl) trivial fun x=>by kernel_rfl
def f78t (p0:D45):Prop × (D45 × Int × Unit) :=
 let v8:=(f77 p0)
 let v10:=(v8 != 0)
 let v23:=(IntKind.wrap .i64 ((IntKind.wrap .i64 (p0.1 * p0.2.2.2.1)) - (IntKind.wrap .i64 (p0.2.1 * p0.2.2.1))))
 let v25:=(v23 == 0)
 let v29:=(IntKind.wrap .i64 (p0.2.2.2.1 * 4294967296))
 let v31:=(f97 v29 v23)
 let v35:=(IntKind.wrap .i64 ((IntKind.wrap .i64 (Int.sub 0 p0.2.1)) * 4294967296))
 let v37:=(f97 v35 v23)
 let v41:=(IntKind.wrap .i64 ((IntKind.wrap .i64 (Int.sub 0 p0.2.2.1)) * 4294967296))
 let v43:=(f97 v41 v23)
 let v46:=(IntKind.wrap .i64 (p0.1 * 4294967296))
 let v48:=(f97 v46 v23)
 let s_2:=(v31,v37,v43,v48,(0:Int),(0:Int),())
 let v52:=((f77 s_2) != 0)
 let v56:=(IntKind.wrap .i64 (Int.sub 0 v31))
 let v61:=(IntKind.wrap .i64 (Int.sub 0 v43))
 let v68:=(IntKind.wrap .i64 (Int.sub 0 v37))
 let v73:=(IntKind.wrap .i64 (Int.sub 0 v48))
 let s_5:=(v31,v37,v43,v48,(f98 v56 p0.2.2.2.2.1 v61 p0.2.2.2.2.2.1),(f98 v68 p0.2.2.2.2.1 v73 p0.2.2.2.2.2.1),())
 let v80:=((f77 s_5) != 0)
 let m2_2:=(bif v25 then ((0:Int),(0:Int),(0:Int),(0:Int),(0:Int),(0:Int),()) else (bif v52 then ((0:Int),(0:Int),(0:Int),(0:Int),(0:Int),(0:Int),()) else (bif v80 then ((0:Int),(0:Int),(0:Int),(0:Int),(0:Int),(0:Int),()) else s_5)))
 (((vX0 p0) ∧ ((!v10) = true → ((!v25) = true → ((wC6 v29 v23) ∧ ((wC6 v35 v23) ∧ ((wC6 v41 v23) ∧ ((wC6 v46 v23) ∧ ((vX0 s_2) ∧ ((!v52) = true → ((uR3 v56 p0.2.2.2.2.1 v61 p0.2.2.2.2.2.1) ∧ ((uR3 v68 p0.2.2.2.2.1 v73 p0.2.2.2.2.2.1) ∧ (vX0 s_5)))))))))))),((bif v10 then ((0:Int),(0:Int),(0:Int),(0:Int),(0:Int),(0:Int),()) else m2_2),(bif v10 then v8 else (bif v25 then (17:Int) else (bif v52 then (17:Int) else (bif v80 then (17:Int) else (0:Int))))),()))
def sL9 (p0:D45):Prop:=(f78t p0).1
def f78 (p0:D45):(D45 × Int × Unit):=(f78t p0).2
instance (p0:D45):Decidable (sL9 p0):=by
 unfold sL9 f78t
 try dsimp only
 infer_instance
def rJ7:Am.Spec:=fnSpec [(0,(.val T45))] (.tup (.cons (.val T45) (.cons vI .nl))) [] (fun x=>sL9 x.1) (fun x=>f78 x.1) (fun _=>())
def oC3:Ctx:=Cx tys [(77,uC8),(97,wK8),(98,sB5)] [] [] true 83 [] []
theorem oC4:CtxOk Tryz.prog oC3:=xV6 tys_ok rfl ⟨rJ6,vM2,pR0,trivial⟩ rfl (by kernel_rfl)
theorem nA0:SpecOk Tryz.prog 78 rJ7:=xX4 oC4 mixed Tryz.func78 (by kernel_rfl) (bs:=[]) (by kernel_rfl) trivial fun x=>by kernel_rfl
def f79t (p0:Int):Prop × Bool :=
 let v5:=(p0 == 2)
 let v6:=(p0 == 9)
 let v7:=(p0 == 10)
 (True,(bif (bif v5 then v5 else (bif v6 then v6 else (bif v7 then v7 else (p0 == 11)))) then true else false))
def tU0 (p0:Int):Prop:=(f79t p0).1
def f79 (p0:Int):Bool:=(f79t p0).2
instance (p0:Int):Decidable (tU0 p0):=by
 unfold tU0 f79t
 try dsimp only
 infer_instance
def sB6:Am.Spec:=fnSpec [(0,vI)] vB [] (fun x=>tU0 x.1) (fun x=>f79 x.1) (fun _=>())
def oC5:Ctx:=Cx tys [] [] [] false 9 [] []
theorem oC6:CtxOk Tryz.prog oC5:=xV6 tys_ok rfl trivial rfl (by kernel_rfl)
theorem pR1:SpecOk Tryz.prog 79 sB6:=xX4 oC6 mixed Tryz.func79 (by kernel_rfl) (bs:=[]) (by kernel_rfl) trivial fun x=>by kernel_rfl
def f80t (p0:Int):Prop × Bool :=
 (True,(bif (decide (p0 ≥ 0)) then (decide (p0 ≤ 4)) else false))
def sM (p0:Int):Prop:=(f80t p0).1
def f80 (p0:Int):Bool:=(f80t p0).2
instance (p0:Int):Decidable (sM p0):=by
 unfold sM f80t
 try dsimp only
 infer_instance
def rJ8:Am.Spec:=fnSpec [(0,vI)] vB [] (fun x=>sM x.1) (fun x=>f80 x.1) (fun _=>())
def oC7:Ctx:=Cx tys [] [] [] false 9 [] []
theorem oC8:CtxOk Tryz.prog oC7:=xV6 tys_ok rfl trivial rfl (by kernel_rfl)
theorem nA1:SpecOk Tryz.prog 80 rJ8:=xX4 oC8 mixed Tryz.func80 (by kernel_rfl) (bs:=[]) (by kernel_rfl) trivial fun x=>by kernel_rfl
def f84t (p0:Int) (p1:Int):Prop × Bool :=
 (True,(bif (bif (bif (bif (decide (p0 ≥ 0)) then (decide (p0 ≤ 256)) else false) then (decide (p1 ≥ 0)) else false) then (decide (p1 ≤ 256)) else false) then (Ty.eqb .bool (p0 == 0) (p1 == 0)) else false))
def sM0 (p0:Int) (p1:Int):Prop:=(f84t p0 p1).1
def f84 (p0:Int) (p1:Int):Bool:=(f84t p0 p1).2
instance (p0:Int) (p1:Int):Decidable (sM0 p0 p1):=by
 unfold sM0 f84t
 try dsimp only
 infer_instance
def rJ9:Am.Spec:=fnSpec [(0,vI),(1,vI)] vB [] (fun x=>sM0 x.1 x.2.1) (fun x=>f84 x.1 x.2.1) (fun _=>())
def oC9:Ctx:=Cx tys [] [] [] false 26 [] []
theorem oD:CtxOk Tryz.prog oC9:=xV6 tys_ok rfl trivial rfl (by kernel_rfl)
theorem nA2:SpecOk Tryz.prog 84 rJ9:=xX4 oD mixed Tryz.func84 (by kernel_rfl) (bs:=[]) (by kernel_rfl) trivial fun x=>by kernel_rfl
def oD0 (p0:Int):Prop × Int :=
 ((vY8 p0 (0:Int) (65535:Int)),(f126 p0 (0:Int) (65535:Int)))
def vM7 (p0:Int):Prop:=(oD0 p0).1
def f125 (p0:Int):Int:=(oD0 p0).2
instance (p0:Int):Decidable (vM7 p0):=by
 unfold vM7 oD0
 try dsimp only
 infer_instance
def sM1:Am.Spec:=fnSpec [(0,vI)] vI [] (fun x=>vM7 x.1) (fun x=>f125 x.1) (fun _=>())
def qZ2:Ctx:=Cx tys [(126,uC7)] [] [] false 5 [] []
theorem qZ3:CtxOk Tryz.prog qZ2:=xV6 tys_ok rfl ⟨sX6,trivial⟩ rfl (by kernel_rfl)
theorem oD1:SpecOk Tryz.prog 125 sM1:=xX4 qZ3 mixed Tryz.func125 (by kernel_rfl) (bs:=[]) (by kernel_rfl) trivial fun x=>by kernel_rfl
def oD2 (p0:D50):Prop × D50 :=
 (((vM7 p0.1) ∧ ((vM7 p0.2.1) ∧ ((vM7 p0.2.2.1) ∧ (vM7 p0.2.2.2.1)))),((f125 p0.1),(f125 p0.2.1),(f125 p0.2.2.1),(f125 p0.2.2.2.1),()))
def tE3 (p0:D50):Prop:=(oD2 p0).1
def f106 (p0:D50):D50:=(oD2 p0).2
instance (p0:D50):Decidable (tE3 p0):=by
 unfold tE3 oD2
 try dsimp only
 infer_instance
def sM2:Am.Spec:=fnSpec [(0,(.val T50))] (.val T50) [] (fun x=>tE3 x.1) (fun x=>f106 x.1) (fun _=>())
def qZ4:Ctx:=Cx tys [(125,sM1)] [] [] false 16 [] []
theorem qZ5:CtxOk Tryz.prog qZ4:=xV6 tys_ok rfl ⟨oD1,trivial⟩ rfl (by kernel_rfl)
theorem oD3:SpecOk Tryz.prog 106 sM2:=xX4 qZ5 mixed Tryz.func106 (by kernel_rfl) (bs:=[]) (by kernel_rfl) trivial fun x=>by kernel_rfl
def f85t (p0:D50):Prop × Bool :=
 ((tE3 p0),(Ty.eqb T50 p0 (f106 p0)))
def uR4 (p0:D50):Prop:=(f85t p0).1
def f85 (p0:D50):Bool:=(f85t p0).2
instance (p0:D50):Decidable (uR4 p0):=by
 unfold uR4 f85t
 try dsimp only
 infer_instance
def uC9:Am.Spec:=fnSpec [(0,(.val T50))] vB [] (fun x=>uR4 x.1) (fun x=>f85 x.1) (fun _=>())
def oD4:Ctx:=Cx tys [(106,sM2)] [] [] false 7 [] []
theorem oD5:CtxOk Tryz.prog oD4:=xV6 tys_ok rfl ⟨oD3,trivial⟩ rfl (by kernel_rfl)
theorem rK:SpecOk Tryz.prog 85 uC9:=xX4 oD5 mixed Tryz.func85 (by kernel_rfl) (bs:=[]) (by kernel_rfl) trivial fun x=>by kernel_rfl
abbrev vB3:Type:=((List D50) × Int × Unit)
abbrev wP7:Type:=(Int × Unit)
def uN (y:vB3) (x:wP7):Prop × Bool × wP7 × Bool × Bool :=
 let a23:=y.1
 let a25:=x.1
 let v26:=(decide (a25 < y.2.1))
 let v27:=(nth a23 a25 Z50)
 let v31:=(!(f85 v27))
 ((v26 = true → (InB a25 (len a23) ∧ ((uR4 v27) ∧ ((!v31) = true → InR (a25 + 1))))),(v26 && (!v31)),((a25 + 1),()),(v26 && v31),(!v26))
def uD (y:vB3) (x:wP7):Prop:=(uN y x).1
def sB7 (y:vB3) (x:wP7):Bool:=(uN y x).2.1
def vY9 (y:vB3) (x:wP7):wP7:=(uN y x).2.2.1
def sM3 (y:vB3) (x:wP7):Bool:=(uN y x).2.2.2.1
def qD9 (y:vB3) (x:wP7):Bool:=(uN y x).2.2.2.2
instance (y:vB3) (x:wP7):Decidable (uD y x):=by
 unfold uD uN
 try dsimp only
 infer_instance
def tE4 (y:vB3) (x:wP7):Int :=
 (2:Int)
def tE5:St → Option Out:=xO8 [(23,(.val (.sl T50))),(24,vI)] [(25,vI)] sB7 vY9 uD fun y x=>[ex 1 (some (sM3 y x)) [(2,vI)] ((tE4 y x),()),ex 2 (some (qD9 y x)) [] ()]
def f58t (p0:D48):Prop × Int :=
 let v10:=(!(f84 p0.1 p0.2.1))
 let v21:=(bif v10 then true else ((len p0.2.2.1) != (p0.1 * p0.2.1)))
 let y4:=(p0.2.2.1,(len p0.2.2.1),())
 let x4:=((0:Int),())
 let e4:=(zB9 (sB7 y4) (vY9 y4) x4)
 (((sM0 p0.1 p0.2.1) ∧ (((!v10) = true → InR (p0.1 * p0.2.1)) ∧ ((!v21) = true → (Am.Ends (sB7 y4) (vY9 y4) (uD y4) x4)))),(bif v21 then (15:Int) else (bif (sM3 y4 e4) then (tE4 y4 e4) else (0:Int))))
def tU1 (p0:D48):Prop:=(f58t p0).1
def f58 (p0:D48):Int:=(f58t p0).2
instance (p0:D48):Decidable (tU1 p0):=by
 unfold tU1 f58t
 try dsimp only
 infer_instance
def sB8:Am.Spec:=fnSpec [(0,(.val T48))] vI [] (fun x=>tU1 x.1) (fun x=>f58 x.1) (fun _=>())
def qE:Ctx:=Cx tys [(84,rJ9),(85,uC9)] [(4,tE5)] [] false 33 [] []
theorem qE0:CtxOk Tryz.prog qE:=xV6 tys_ok rfl ⟨nA2,rK,trivial⟩ rfl (by kernel_rfl)
noncomputable def qZ6:Code:=Tryz.f58.body.getD .skip
noncomputable def pR2:Code:=xW5 qZ6 0
theorem qE1:yU1 Tryz.prog qE pR2:=xX3 qE0 mixed (sp:=tE5) rfl [[(2,vI)],[]] (bs:=[]) (by kernel_rfl) trivial (by kernel_rfl) (by kernel_rfl) fun y x=>by kernel_rfl
theorem pR3:SpecOk Tryz.prog 58 sB8:=xX4 qE0 mixed Tryz.func58 (by kernel_rfl) (bs:=[pR2]) (by kernel_rfl) ⟨qE1,trivial⟩ fun x=>by kernel_rfl
def f99t (p0:D50):Prop × Int :=
 ((uR4 p0),(bif (!(f85 p0)) then (2:Int) else (0:Int)))
def tE6 (p0:D50):Prop:=(f99t p0).1
def f99 (p0:D50):Int:=(f99t p0).2
instance (p0:D50):Decidable (tE6 p0):=by
 unfold tE6 f99t
 try dsimp only
 infer_instance
def uY9:Am.Spec:=fnSpec [(0,(.val T50))] vI [] (fun x=>tE6 x.1) (fun x=>f99 x.1) (fun _=>())
def oD6:Ctx:=Cx tys [(85,uC9)] [] [] false 6 [] []
theorem oD7:CtxOk Tryz.prog oD6:=xV6 tys_ok rfl ⟨rK,trivial⟩ rfl (by kernel_rfl)
theorem qE2:SpecOk Tryz.prog 99 uY9:=xX4 oD7 mixed Tryz.func99 (by kernel_rfl) (bs:=[]) (by kernel_rfl) trivial fun x=>by kernel_rfl
def qZ7 (p0:Int) (p1:Int):Prop × Bool :=
 (True,(bif (p0 == 1) then (p1 == 4) else (p1 == 3)))
def tE7 (p0:Int) (p1:Int):Prop:=(qZ7 p0 p1).1
def f127 (p0:Int) (p1:Int):Bool:=(qZ7 p0 p1).2
instance (p0:Int) (p1:Int):Decidable (tE7 p0 p1):=by
 unfold tE7 qZ7
 try dsimp only
 infer_instance
def sM4:Am.Spec:=fnSpec [(0,vI),(1,vI)] vB [] (fun x=>tE7 x.1 x.2.1) (fun x=>f127 x.1 x.2.1) (fun _=>())
def qZ8:Ctx:=Cx tys [] [] [] false 11 [] []
theorem qZ9:CtxOk Tryz.prog qZ8:=xV6 tys_ok rfl trivial rfl (by kernel_rfl)
theorem oD8:SpecOk Tryz.prog 127 sM4:=xX4 qZ9 mixed Tryz.func127 (by kernel_rfl) (bs:=[]) (by kernel_rfl) trivial fun x=>by kernel_rfl
abbrev wR3:Type:=(Int × (List Int) × (List Int) × Int × Unit)
abbrev wI8:Type:=(Int × Unit)
def vS1 (y:wR3) (x:wI8):Prop × Bool × wI8 × Bool × Bool :=
 let a36:=y.2.2.1
 let a38:=x.1
 let v39:=(decide (a38 < y.2.2.2.1))
 let v40:=(nth a36 a38 (0:Int))
 let v47:=(bif (decide (v40 < (-1048576))) then true else (decide (v40 > 1048576)))
 ((v39 = true → (InB a38 (len a36) ∧ ((!v47) = true → InR (a38 + 1)))),(v39 && (!v47)),((a38 + 1),()),(v39 && v47),(!v39))
def vS2 (y:wR3) (x:wI8):Prop:=(vS1 y x).1
def tE8 (y:wR3) (x:wI8):Bool:=(vS1 y x).2.1
def vM8 (y:wR3) (x:wI8):wI8:=(vS1 y x).2.2.1
def tU2 (y:wR3) (x:wI8):Bool:=(vS1 y x).2.2.2.1
def tU3 (y:wR3) (x:wI8):Bool:=(vS1 y x).2.2.2.2
instance (y:wR3) (x:wI8):Decidable (vS2 y x):=by
 unfold vS2 vS1
 try dsimp only
 infer_instance
def uR5 (y:wR3) (x:wI8):Int :=
 (2:Int)
def tU4:List (Nat × Sh):=[(0,vI),(1,(.val (.sl (.int .i64))))]
def uR6:St → Option Out:=xO8 [(0,vI),(1,(.val (.sl (.int .i64)))),(36,(.val (.sl (.int .i64)))),(37,vI)] [(38,vI)] tE8 vM8 vS2 fun y x=>[ex 1 (some (tU2 y x)) [(8,vI)] ((uR5 y x),()),ex 2 (some (tU3 y x)) tU4 (y.1,y.2.1,())]
def oD9 (p0:Int) (p1:(List Int)) (p2:Int) (p3:Int):Prop × Int :=
 let v24:=(bif (bif (bif (decide (p0 < 1)) then true else (decide (p0 > 4))) then true else (decide (p2 < 0))) then true else (decide (p2 > 2)))
 let v27:=(len p1)
 let v33:=(bif (!(f127 p0 v27)) then true else (p3 == 0))
 let v35:=(decide (p3 > 16))
 let y8:=(p0,p1,p1,(len p1),())
 let x8:=((0:Int),())
 let e8:=(zB9 (tE8 y8) (vM8 y8) x8)
 let v54:=(bif (p0 == 2) then true else (p0 == 4))
 let m8_3:=(bif v33 then (1:Int) else (bif v35 then (3:Int) else (bif (tU2 y8 e8) then (uR5 y8 e8) else (bif (bif v54 then (decide ((nth p1 (2:Int) (0:Int)) < 0)) else false) then (2:Int) else (0:Int)))))
 (((!v24) = true → ((tE7 p0 v27) ∧ ((!v33) = true → ((!v35) = true → ((Am.Ends (tE8 y8) (vM8 y8) (vS2 y8) x8) ∧ ((tU3 y8 e8) = true → (v54 = true → InB (2:Int) (len p1)))))))),(bif v24 then (8:Int) else m8_3))
def tE9 (p0:Int) (p1:(List Int)) (p2:Int) (p3:Int):Prop:=(oD9 p0 p1 p2 p3).1
def f111 (p0:Int) (p1:(List Int)) (p2:Int) (p3:Int):Int:=(oD9 p0 p1 p2 p3).2
instance (p0:Int) (p1:(List Int)) (p2:Int) (p3:Int):Decidable (tE9 p0 p1 p2 p3):=by
 unfold tE9 oD9
 try dsimp only
 infer_instance
def sM5:Am.Spec:=fnSpec [(0,vI),(1,(.val (.sl (.int .i64)))),(2,vI),(3,vI)] vI [] (fun x=>tE9 x.1 x.2.1 x.2.2.1 x.2.2.2.1) (fun x=>f111 x.1 x.2.1 x.2.2.1 x.2.2.2.1) (fun _=>())
def rK0:Ctx:=Cx tys [(127,sM4)] [(8,uR6)] [] false 61 [] []
theorem rK1:CtxOk Tryz.prog rK0:=xV6 tys_ok rfl ⟨oD8,trivial⟩ rfl (by kernel_rfl)
noncomputable def qE3:Code:=Tryz.f111.body.getD .skip
noncomputable def qE4:Code:=xW5 qE3 0
theorem rU5:yU1 Tryz.prog rK0 qE4:=xX3 rK1 mixed (sp:=uR6) rfl [[(8,vI)],tU4] (bs:=[]) (by kernel_rfl) trivial (by kernel_rfl) (by kernel_rfl) fun y x=>by kernel_rfl
theorem oE:SpecOk Tryz.prog 111 sM5:=xX4 rK1 mixed Tryz.func111 (by kernel_rfl) (bs:=[qE4]) (by kernel_rfl) ⟨rU5,trivial⟩ fun x=>by kernel_rfl
abbrev wR4:Type:=((List D91) × (List D91) × Int × Unit)
abbrev wI9:Type:=(Int × Unit)
def vS3 (y:wR4) (x:wI9):Prop × Bool × wI9 × Bool × Bool :=
 let a0:=y.1
 let a5:=y.2.1
 let a7:=x.1
 let v8:=(decide (a7 < y.2.2.1))
 let v10:=(nth a5 a7 Z91)
 let v19:=(bif (decide (v10.1 < 0)) then true else (decide (v10.1 > 65535)))
 let v25:=(bif v19 then true else (!(f85 v10.2.1)))
 let v27:=(decide (a7 > 0))
 let v33:=(a7 - 1)
 let v38:=(bif v27 then (decide (v10.1 ≤ (nth a0 v33 Z91).1)) else false)
 let c_2:=((!v25) && (!v38))
 ((v8 = true → (InB a7 (len a5) ∧ (((!v19) = true → (uR4 v10.2.1)) ∧ (((!v25) = true → ((v27 = true → InR (a7 - 1)) ∧ (v27 = true → InB v33 (len a0)))) ∧ (c_2 = true → InR (a7 + 1)))))),(v8 && c_2),((a7 + 1),()),(v8 && (v25 || ((!v25) && v38))),(!v8))
def vS4 (y:wR4) (x:wI9):Prop:=(vS3 y x).1
def tF (y:wR4) (x:wI9):Bool:=(vS3 y x).2.1
def vM9 (y:wR4) (x:wI9):wI9:=(vS3 y x).2.2.1
def tU5 (y:wR4) (x:wI9):Bool:=(vS3 y x).2.2.2.1
def rU6 (y:wR4) (x:wI9):Bool:=(vS3 y x).2.2.2.2
instance (y:wR4) (x:wI9):Decidable (vS4 y x):=by
 unfold vS4 vS3
 try dsimp only
 infer_instance
def uR7 (y:wR4) (x:wI9):Int :=
 let v10:=(nth y.2.1 x.1 Z91)
 (bif (bif (bif (decide (v10.1 < 0)) then true else (decide (v10.1 > 65535))) then true else (!(f85 v10.2.1))) then (2:Int) else (24:Int))
def uR8:St → Option Out:=xO8 [(0,(.val (.sl T91))),(5,(.val (.sl T91))),(6,vI)] [(7,vI)] tF vM9 vS4 fun y x=>[ex 1 (some (tU5 y x)) [(2,vI)] ((uR7 y x),()),ex 2 (some (rU6 y x)) [] ()]
def oE0 (p0:(List D91)):Prop × Int :=
 let y2:=(p0,p0,(len p0),())
 let x2:=((0:Int),())
 let e2:=(zB9 (tF y2) (vM9 y2) x2)
 ((Am.Ends (tF y2) (vM9 y2) (vS4 y2) x2),(bif (tU5 y2 e2) then (uR7 y2 e2) else (0:Int)))
def tF0 (p0:(List D91)):Prop:=(oE0 p0).1
def f112 (p0:(List D91)):Int:=(oE0 p0).2
instance (p0:(List D91)):Decidable (tF0 p0):=by
 unfold tF0 oE0
 try dsimp only
 infer_instance
def sM6:Am.Spec:=fnSpec [(0,(.val (.sl T91)))] vI [] (fun x=>tF0 x.1) (fun x=>f112 x.1) (fun _=>())
def rK2:Ctx:=Cx tys [(85,uC9)] [(2,uR8)] [] false 40 [] []
theorem rK3:CtxOk Tryz.prog rK2:=xV6 tys_ok rfl ⟨rK,trivial⟩ rfl (by kernel_rfl)
noncomputable def qE5:Code:=Tryz.f112.body.getD .skip
noncomputable def qE6:Code:=xW5 qE5 0
theorem rU7:yU1 Tryz.prog rK2 qE6:=xX3 rK3 mixed (sp:=uR8) rfl [[(2,vI)],[]] (bs:=[]) (by kernel_rfl) trivial (by kernel_rfl) (by kernel_rfl) fun y x=>by kernel_rfl
theorem oE1:SpecOk Tryz.prog 112 sM6:=xX4 rK3 mixed Tryz.func112 (by kernel_rfl) (bs:=[qE6]) (by kernel_rfl) ⟨rU7,trivial⟩ fun x=>by kernel_rfl
def oE2 (p0:Int) (p1:(List Int)) (p2:Int) (p3:(List D91)):Prop × Int :=
 let v14:=(len p3)
 let v15:=(f111 p0 p1 p2 v14)
 let v17:=(v15 != 0)
 (((tE9 p0 p1 p2 v14) ∧ ((!v17) = true → (tF0 p3))),(bif v17 then v15 else (f112 p3)))
def tF1 (p0:Int) (p1:(List Int)) (p2:Int) (p3:(List D91)):Prop:=(oE2 p0 p1 p2 p3).1
def f100 (p0:Int) (p1:(List Int)) (p2:Int) (p3:(List D91)):Int:=(oE2 p0 p1 p2 p3).2
instance (p0:Int) (p1:(List Int)) (p2:Int) (p3:(List D91)):Decidable (tF1 p0 p1 p2 p3):=by
 unfold tF1 oE2
 try dsimp only
 infer_instance
def sM7:Am.Spec:=fnSpec [(0,vI),(1,(.val (.sl (.int .i64)))),(2,vI),(3,(.val (.sl T91)))] vI [] (fun x=>tF1 x.1 x.2.1 x.2.2.1 x.2.2.2.1) (fun x=>f100 x.1 x.2.1 x.2.2.1 x.2.2.2.1) (fun _=>())
def pA:Ctx:=Cx tys [(111,sM5),(112,sM6)] [] [] false 21 [] []
theorem pA0:CtxOk Tryz.prog pA:=xV6 tys_ok rfl ⟨oE,oE1,trivial⟩ rfl (by kernel_rfl)
theorem oE3:SpecOk Tryz.prog 100 sM7:=xX4 pA0 mixed Tryz.func100 (by kernel_rfl) (bs:=[]) (by kernel_rfl) trivial fun x=>by kernel_rfl
def pA1 (p0:Int):Prop × Int :=
 let v5:=(p0 == 3)
 let v7:=(p0 == 4)
 (True,(bif (bif v5 then true else (bif v7 then true else (p0 == 5))) then (bif v5 then (2:Int) else (bif v7 then (3:Int) else (0:Int))) else (1:Int)))
def uN0 (p0:Int):Prop:=(pA1 p0).1
def f129 (p0:Int):Int:=(pA1 p0).2
instance (p0:Int):Decidable (uN0 p0):=by
 unfold uN0 pA1
 try dsimp only
 infer_instance
def tF2:Am.Spec:=fnSpec [(0,vI)] vI [] (fun x=>uN0 x.1) (fun x=>f129 x.1) (fun _=>())
def pA2:Ctx:=Cx tys [] [] [] false 10 [] []
theorem pA3:CtxOk Tryz.prog pA2:=xV6 tys_ok rfl trivial rfl (by kernel_rfl)
theorem qE7:SpecOk Tryz.prog 129 tF2:=xX4 pA3 mixed Tryz.func129 (by kernel_rfl) (bs:=[]) (by kernel_rfl) trivial fun x=>by kernel_rfl
def oE4 (p0:D94):Prop × Bool :=
 (True,(bif (bif (bif (decide (p0.1 < (-16777216))) then true else (decide (p0.1 > 16777216))) then true else (decide (p0.2.1 < (-16777216)))) then true else (decide (p0.2.1 > 16777216))))
def vN (p0:D94):Prop:=(oE4 p0).1
def f131 (p0:D94):Bool:=(oE4 p0).2
instance (p0:D94):Decidable (vN p0):=by
 unfold vN oE4
 try dsimp only
 infer_instance
def uD0:Am.Spec:=fnSpec [(0,(.val T94))] vB [] (fun x=>vN x.1) (fun x=>f131 x.1) (fun _=>())
def pA4:Ctx:=Cx tys [] [] [] false 21 [] []
theorem pA5:CtxOk Tryz.prog pA4:=xV6 tys_ok rfl trivial rfl (by kernel_rfl)
theorem sX7:SpecOk Tryz.prog 131 uD0:=xX4 pA5 mixed Tryz.func131 (by kernel_rfl) (bs:=[]) (by kernel_rfl) trivial fun x=>by kernel_rfl
abbrev wM7:Type:=((List D97) × Int × D97 × (List D97) × Int × Int × (List D94) × Unit)
abbrev wJ:Type:=(Int × Unit)
def vB4 (y:wM7) (x:wJ):Prop × Bool × wJ × Bool × Bool :=
 let a4:=y.2.2.1
 let a27:=x.1
 let v28:=(decide (a27 < 3))
 let v30:=(nth y.2.2.2.2.2.2.1 a27 Z94)
 let v32:=(f131 v30)
 let v44:=(bif v32 then true else (bif (decide (a27 ≥ (f129 a4.1))) then (!(Ty.eqb T94 v30 ((0:Int),(0:Int),()))) else false))
 ((v28 = true → (InB a27 3 ∧ ((vN v30) ∧ (((!v32) = true → (uN0 a4.1)) ∧ ((!v44) = true → InR (a27 + 1)))))),(v28 && (!v44)),((a27 + 1),()),(v28 && v44),(!v28))
def wW0 (y:wM7) (x:wJ):Prop:=(vB4 y x).1
def wJ0 (y:wM7) (x:wJ):Bool:=(vB4 y x).2.1
def wD2 (y:wM7) (x:wJ):wJ:=(vB4 y x).2.2.1
def wW1 (y:wM7) (x:wJ):Bool:=(vB4 y x).2.2.2.1
def uN1 (y:wM7) (x:wJ):Bool:=(vB4 y x).2.2.2.2
instance (y:wM7) (x:wJ):Decidable (wW0 y x):=by
 unfold wW0 vB4
 try dsimp only
 infer_instance
def vN0 (y:wM7) (x:wJ):Int :=
 (2:Int)
def tU6:List (Nat × Sh):=[(0,(.val (.sl T97))),(3,vI),(4,(.box T97 (.val T97))),(10,(.val (.sl T97))),(11,vI),(12,vI)]
def uR9:St → Option Out:=xO8 [(0,(.val (.sl T97))),(3,vI),(4,(.box T97 (.val T97))),(10,(.val (.sl T97))),(11,vI),(12,vI),(26,(.val (.arr 3 T94)))] [(27,vI)] wJ0 wD2 wW0 fun y x=>[ex 1 (some (wW1 y x)) [(2,vI)] ((vN0 y x),()),ex 4 (some (uN1 y x)) tU6 (y.1,y.2.1,y.2.2.1,y.2.2.2.1,y.2.2.2.2.1,y.2.2.2.2.2.1,())]
abbrev wR5:Type:=((List D97) × (List D97) × Int × Unit)
abbrev wF9:Type:=(Int × Unit)
def wU7 (y:wR5) (x:wF9):Prop × Bool × wF9 × Bool × Bool :=
 let a0:=y.1
 let a10:=y.2.1
 let a11:=y.2.2.1
 let a12:=x.1
 let v13:=(decide (a12 < a11))
 let v15:=(nth a10 a12 Z97)
 let v24:=(bif (decide (v15.1 < 1)) then true else (decide (v15.1 > 5)))
 let y9:=(a0,a12,v15,a10,a11,a12,v15.2.1,())
 let x9:=((0:Int),())
 let e9:=(zB9 (wJ0 y9) (wD2 y9) x9)
 let q9_4:=(uN1 y9 e9)
 let v48:=(v15.1 != 1)
 let v51:=(a12 == 0)
 let v55:=(a12 - 1)
 let v61:=(bif v48 then (bif v51 then true else ((nth a0 v55 Z97).1 == 5)) else false)
 let c_5:=((!v24) && (q9_4 && (!v61)))
 ((v13 = true → (InB a12 (len a10) ∧ (((!v24) = true → ((Am.Ends (wJ0 y9) (wD2 y9) (wW0 y9) x9) ∧ (q9_4 = true → (((v48 && (!v51)) = true → InR (a12 - 1)) ∧ ((v48 && (!v51)) = true → InB v55 (len a0)))))) ∧ (c_5 = true → InR (a12 + 1))))),(v13 && c_5),((a12 + 1),()),(v13 && (v24 || ((!v24) && ((wW1 y9 e9) || (q9_4 && v61))))),(!v13))
def vF1 (y:wR5) (x:wF9):Prop:=(wU7 y x).1
def wG (y:wR5) (x:wF9):Bool:=(wU7 y x).2.1
def wD3 (y:wR5) (x:wF9):wF9:=(wU7 y x).2.2.1
def vF2 (y:wR5) (x:wF9):Bool:=(wU7 y x).2.2.2.1
def rU8 (y:wR5) (x:wF9):Bool:=(wU7 y x).2.2.2.2
instance (y:wR5) (x:wF9):Decidable (vF1 y x):=by
 unfold vF1 wU7
 try dsimp only
 infer_instance
def vN1 (y:wR5) (x:wF9):Int :=
 let a10:=y.2.1
 let a12:=x.1
 let v15:=(nth a10 a12 Z97)
 let y9:=(y.1,a12,v15,a10,y.2.2.1,a12,v15.2.1,())
 let e9:=(zB9 (wJ0 y9) (wD2 y9) ((0:Int),()))
 (bif (bif (decide (v15.1 < 1)) then true else (decide (v15.1 > 5))) then (8:Int) else (bif (wW1 y9 e9) then (vN0 y9 e9) else (24:Int)))
def uS:St → Option Out:=xO8 [(0,(.val (.sl T97))),(10,(.val (.sl T97))),(11,vI)] [(12,vI)] wG wD3 vF1 fun y x=>[ex 1 (some (vF2 y x)) [(2,vI)] ((vN1 y x),()),ex 2 (some (rU8 y x)) [] ()]
def pA6 (p0:(List D97)):Prop × Int :=
 let v9:=(decide ((len p0) > 128))
 let y4:=(p0,p0,(len p0),())
 let x4:=((0:Int),())
 let e4:=(zB9 (wG y4) (wD3 y4) x4)
 (((!v9) = true → (Am.Ends (wG y4) (wD3 y4) (vF1 y4) x4)),(bif v9 then (3:Int) else (bif (vF2 y4 e4) then (vN1 y4 e4) else (0:Int))))
def vN2 (p0:(List D97)):Prop:=(pA6 p0).1
def f128 (p0:(List D97)):Int:=(pA6 p0).2
instance (p0:(List D97)):Decidable (vN2 p0):=by
 unfold vN2 pA6
 try dsimp only
 infer_instance
def vN3:Am.Spec:=fnSpec [(0,(.val (.sl T97)))] vI [] (fun x=>vN2 x.1) (fun x=>f128 x.1) (fun _=>())
def sB9:Ctx:=Cx tys [(129,tF2),(131,uD0)] [(9,uR9),(4,uS)] [] false 63 [] []
theorem sC:CtxOk Tryz.prog sB9:=xV6 tys_ok rfl ⟨qE7,sX7,trivial⟩ rfl (by kernel_rfl)
noncomputable def qE8:Code:=Tryz.f128.body.getD .skip
noncomputable def sX8:Code:=xW5 qE8 0
noncomputable def qE9:Code:=xW5 sX8 0
theorem rU9:yU1 Tryz.prog sB9 qE9:=xX3 sC mixed (sp:=uR9) rfl [[(2,vI)],tU6] (bs:=[]) (by kernel_rfl) trivial (by kernel_rfl) (by kernel_rfl) fun y x=>by kernel_rfl
theorem rV:yU1 Tryz.prog sB9 sX8:=xX3 sC mixed (sp:=uS) rfl [[(2,vI)],[]] (bs:=[qE9]) (by kernel_rfl) ⟨rU9,trivial⟩ (by kernel_rfl) (by kernel_rfl) fun y x=>by kernel_rfl
theorem sC0:SpecOk Tryz.prog 128 vN3:=xX4 sC mixed Tryz.func128 (by kernel_rfl) (bs:=[sX8]) (by kernel_rfl) ⟨rV,trivial⟩ fun x=>by kernel_rfl
def oE5 (p0:D45) (p1:D94):Prop × D94 :=
 let v8:=(f96 p0)
 let v11:=(f109 p1.1)
 let v14:=(f109 p1.2.1)
 let v24:=(IntKind.wrap .i64 ((f98 v8.1 v11 v8.2.2.1 v14) + v8.2.2.2.2.1))
 let v35:=(IntKind.wrap .i64 ((f98 v8.2.1 v11 v8.2.2.2.1 v14) + v8.2.2.2.2.2.1))
 (((tU p0) ∧ ((vE1 p1.1) ∧ ((vE1 p1.2.1) ∧ ((uR3 v8.1 v11 v8.2.2.1 v14) ∧ ((vE1 v24) ∧ ((uR3 v8.2.1 v11 v8.2.2.2.1 v14) ∧ (vE1 v35))))))),((f109 v24),(f109 v35),()))
def tF3 (p0:D45) (p1:D94):Prop:=(oE5 p0 p1).1
def f143 (p0:D45) (p1:D94):D94:=(oE5 p0 p1).2
instance (p0:D45) (p1:D94):Decidable (tF3 p0 p1):=by
 unfold tF3 oE5
 try dsimp only
 infer_instance
def sM8:Am.Spec:=fnSpec [(0,(.val T45)),(1,(.val T94))] (.val T94) [] (fun x=>tF3 x.1 x.2.1) (fun x=>f143 x.1 x.2.1) (fun _=>())
def pA7:Ctx:=Cx tys [(96,sB4),(98,sB5),(109,tE2)] [] [] true 38 [] []
theorem pA8:CtxOk Tryz.prog pA7:=xV6 tys_ok rfl ⟨pR,pR0,qD8,trivial⟩ rfl (by kernel_rfl)
theorem oE6:SpecOk Tryz.prog 143 sM8:=xX4 pA8 mixed Tryz.func143 (by kernel_rfl) (bs:=[]) (by kernel_rfl) trivial fun x=>by kernel_rfl
def oE7 (p0:D45) (p1:D94):Prop × D94 :=
 let s:=((IntKind.wrap .i64 (4096 * p1.1)),(IntKind.wrap .i64 (4096 * p1.2.1)),())
 let v14:=(f143 p0 s)
 (((tF3 p0 s) ∧ ((wC6 v14.1 (4096:Int)) ∧ (wC6 v14.2.1 (4096:Int)))),((f97 v14.1 (4096:Int)),(f97 v14.2.1 (4096:Int)),()))
def uN2 (p0:D45) (p1:D94):Prop:=(oE7 p0 p1).1
def f130 (p0:D45) (p1:D94):D94:=(oE7 p0 p1).2
instance (p0:D45) (p1:D94):Decidable (uN2 p0 p1):=by
 unfold uN2 oE7
 try dsimp only
 infer_instance
def tF4:Am.Spec:=fnSpec [(0,(.val T45)),(1,(.val T94))] (.val T94) [] (fun x=>uN2 x.1 x.2.1) (fun x=>f130 x.1 x.2.1) (fun _=>())
def pA9:Ctx:=Cx tys [(97,wK8),(143,sM8)] [] [] true 22 [] []
theorem pB:CtxOk Tryz.prog pA9:=xV6 tys_ok rfl ⟨vM2,oE6,trivial⟩ rfl (by kernel_rfl)
theorem qF:SpecOk Tryz.prog 130 tF4:=xX4 pB mixed Tryz.func130 (by kernel_rfl) (bs:=[]) (by kernel_rfl) trivial fun x=>by kernel_rfl
abbrev wC9:Type:=(D45 × Int × D97 × (List D97) × Int × Int × Int × Unit)
abbrev wB2:Type:=((List D97) × Int × Unit)
def vF3 (y:wC9) (x:wB2):Prop × Bool × wB2 × Bool × Bool :=
 let a3:=y.1
 let a9:=y.2.1
 let a8:=x.1
 let a42:=x.2.1
 let v43:=(decide (a42 < y.2.2.2.2.2.2.1))
 let v49:=(nth y.2.2.1.2.1 a42 Z94)
 let v50:=(f130 a3 v49)
 let v52:=(f131 v50)
 ((v43 = true → (InB a42 3 ∧ ((uN2 a3 v49) ∧ ((vN v50) ∧ (((!v52) = true → (InB a9 (len a8) ∧ (InB a42 3 ∧ a9 < len a8))) ∧ ((!v52) = true → InR (a42 + 1))))))),(v43 && (!v52)),((List.set a8 (Int.toNat a9) ((nth a8 a9 Z97).1,(List.set (nth a8 a9 Z97).2.1 (Int.toNat a42) v50),())),(a42 + 1),()),(v43 && v52),(!v43))
def wN7 (y:wC9) (x:wB2):Prop:=(vF3 y x).1
def wH9 (y:wC9) (x:wB2):Bool:=(vF3 y x).2.1
def wA5 (y:wC9) (x:wB2):wB2:=(vF3 y x).2.2.1
def tF5 (y:wC9) (x:wB2):Bool:=(vF3 y x).2.2.2.1
def tF6 (y:wC9) (x:wB2):Bool:=(vF3 y x).2.2.2.2
instance (y:wC9) (x:wB2):Decidable (wN7 y x):=by
 unfold wN7 vF3
 try dsimp only
 infer_instance
def vJ6 (y:wC9) (x:wB2):(List D97) :=
 ([]:List D97)
def uD1 (y:wC9) (x:wB2):Int :=
 (2:Int)
def tF7:List (Nat × Sh):=[(4,(.own T97 0 false)),(5,vI)]
def uD2 (y:wC9) (x:wB2):(List D97) :=
 x.1
def tF8:List (Nat × Sh):=[(3,(.box T45 (.val T45))),(8,(.own T97 1008 true)),(26,(.val (.sl T97))),(27,vI),(28,vI)]
def uD3:St → Option Out:=xO8 [(3,(.box T45 (.val T45))),(9,vI),(10,(.box T97 (.val T97))),(26,(.val (.sl T97))),(27,vI),(28,vI),(41,vI)] [(8,(.own T97 1008 true)),(42,vI)] wH9 wA5 wN7 fun y x=>[ex 1 (some (tF5 y x)) tF7 ((vJ6 y x),(uD1 y x),()),ex 4 (some (tF6 y x)) tF8 (y.1,(uD2 y x),y.2.2.2.1,y.2.2.2.2.1,y.2.2.2.2.2.1,())]
abbrev wJ1:Type:=(D45 × (List D97) × Int × Unit)
abbrev wD:Type:=((List D97) × Int × Unit)
def vS5 (y:wJ1) (x:wD):Prop × Bool × wD × Bool × Bool :=
 let a26:=y.2.1
 let a27:=y.2.2.1
 let a8:=x.1
 let a28:=x.2.1
 let v29:=(decide (a28 < a27))
 let v31:=(nth a26 a28 Z97)
 let y13:=(y.1,a28,v31,a26,a27,a28,(f129 v31.1),())
 let x13:=((List.set a8 (Int.toNat a28) (v31.1,(nth a8 a28 Z97).2.1,())),(0:Int),())
 let e13:=(zB9 (wH9 y13) (wA5 y13) x13)
 let q13_4:=(tF6 y13 e13)
 ((v29 = true → (InB a28 (len a26) ∧ (InB a28 (len a8) ∧ (a28 < len a8 ∧ ((uN0 v31.1) ∧ ((Am.Ends (wH9 y13) (wA5 y13) (wN7 y13) x13) ∧ (q13_4 = true → InR (a28 + 1)))))))),(v29 && q13_4),((uD2 y13 e13),(a28 + 1),()),(v29 && (tF5 y13 e13)),(!v29))
def wW2 (y:wJ1) (x:wD):Prop:=(vS5 y x).1
def vF4 (y:wJ1) (x:wD):Bool:=(vS5 y x).2.1
def wG0 (y:wJ1) (x:wD):wD:=(vS5 y x).2.2.1
def uN3 (y:wJ1) (x:wD):Bool:=(vS5 y x).2.2.2.1
def rV0 (y:wJ1) (x:wD):Bool:=(vS5 y x).2.2.2.2
instance (y:wJ1) (x:wD):Decidable (wW2 y x):=by
 unfold wW2 vS5
 try dsimp only
 infer_instance
def vN4 (y:wJ1) (x:wD):(List D97) :=
 let a26:=y.2.1
 let a8:=x.1
 let a28:=x.2.1
 let v31:=(nth a26 a28 Z97)
 let y13:=(y.1,a28,v31,a26,y.2.2.1,a28,(f129 v31.1),())
 (vJ6 y13 (zB9 (wH9 y13) (wA5 y13) ((List.set a8 (Int.toNat a28) (v31.1,(nth a8 a28 Z97).2.1,())),(0:Int),())))
def uS0 (y:wJ1) (x:wD):Int :=
 let a26:=y.2.1
 let a8:=x.1
 let a28:=x.2.1
 let v31:=(nth a26 a28 Z97)
 let y13:=(y.1,a28,v31,a26,y.2.2.1,a28,(f129 v31.1),())
 (uD1 y13 (zB9 (wH9 y13) (wA5 y13) ((List.set a8 (Int.toNat a28) (v31.1,(nth a8 a28 Z97).2.1,())),(0:Int),())))
def tU7:List (Nat × Sh):=[(4,(.own T97 0 false)),(5,vI)]
def vN5 (y:wJ1) (x:wD):(List D97) :=
 x.1
def uS1:St → Option Out:=xO8 [(3,(.box T45 (.val T45))),(26,(.val (.sl T97))),(27,vI)] [(8,(.own T97 1008 true)),(28,vI)] vF4 wG0 wW2 fun y x=>[ex 1 (some (uN3 y x)) tU7 ((vN4 y x),(uS0 y x),()),ex 2 (some (rV0 y x)) [(8,(.own T97 1008 true))] ((vN5 y x),())]
def pB0 (p0:(List D97)) (p1:D45):Prop × ((List D97) × Int × Unit) :=
 let v14:=(f128 p0)
 let v16:=(v14 != 0)
 let v19:=(f77 p1)
 let v21:=(v19 != 0)
 let v24:=(len p0)
 let y9:=(p1,p0,(len p0),())
 let x9:=((List.replicate (Int.toNat v24) Z97),(0:Int),())
 let e9:=(zB9 (vF4 y9) (wG0 y9) x9)
 let q9_1:=(uN3 y9 e9)
 (((vN2 p0) ∧ ((!v16) = true → ((vX0 p1) ∧ ((!v21) = true → ((0 ≤ v24 ∧ v24 ≤ v24 ∧ v24 ≤ 4294967296) ∧ (Am.Ends (vF4 y9) (wG0 y9) (wW2 y9) x9)))))),((bif v16 then [] else (bif v21 then [] else (bif q9_1 then (vN4 y9 e9) else (vN5 y9 e9)))),(bif v16 then v14 else (bif v21 then v19 else (bif q9_1 then (uS0 y9 e9) else (0:Int)))),()))
def tF9 (p0:(List D97)) (p1:D45):Prop:=(pB0 p0 p1).1
def f113 (p0:(List D97)) (p1:D45):((List D97) × Int × Unit):=(pB0 p0 p1).2
instance (p0:(List D97)) (p1:D45):Decidable (tF9 p0 p1):=by
 unfold tF9 pB0
 try dsimp only
 infer_instance
def sM9:Am.Spec:=fnSpec [(0,(.val (.sl T97))),(1,(.val T45))] (.tup (.cons (.val (.sl T97)) (.cons vI .nl))) [] (fun x=>tF9 x.1 x.2.1) (fun x=>f113 x.1 x.2.1) (fun _=>())
def sC1:Ctx:=Cx tys [(77,uC8),(128,vN3),(129,tF2),(130,tF4),(131,uD0)] [(13,uD3),(9,uS1)] [(15,[(4,0,25,1008)]),(43,[(1,4,0,0),(4,0,1008,0)])] false 63 [] [25]
theorem sC2:CtxOk Tryz.prog sC1:=xV6 tys_ok rfl ⟨rJ6,sC0,qE7,qF,sX7,trivial⟩ rfl (by kernel_rfl)
noncomputable def qF0:Code:=Tryz.f113.body.getD .skip
noncomputable def sX9:Code:=xW5 qF0 0
noncomputable def rK4:Code:=xW5 sX9 0
theorem sY:yU1 Tryz.prog sC1 rK4:=xX3 sC2 mixed (sp:=uD3) rfl [tF7,tF8] (bs:=[]) (by kernel_rfl) trivial (by kernel_rfl) (by kernel_rfl) fun y x=>by kernel_rfl
theorem rV1:yU1 Tryz.prog sC1 sX9:=xX3 sC2 mixed (sp:=uS1) rfl [tU7,[(8,(.own T97 1008 true))]] (bs:=[rK4]) (by kernel_rfl) ⟨sY,trivial⟩ (by kernel_rfl) (by kernel_rfl) fun y x=>by kernel_rfl
theorem oE8:SpecOk Tryz.prog 113 sM9:=xX4 sC2 mixed Tryz.func113 (by kernel_rfl) (bs:=[sX9]) (by kernel_rfl) ⟨rV1,trivial⟩ fun x=>by kernel_rfl
def uD4 (p0:D94) (p1:(List D94)):Prop × (Unit) × ((List D94) × Unit) :=
 let v7:=(IntKind.wrap .i64 ((len p1) - 1))
 let v10:=(!(Ty.eqb T94 p0 (nth p1 v7 Z94)))
 let v13:=([p0]:List D94)
 ((InB v7 (len p1) ∧ (v10 = true → ((List.length p1 + List.length v13:Nat):Int) ≤ 4294967296)),(),((bif v10 then (p1 ++ v13) else p1),()))
def wN8 (p0:D94) (p1:(List D94)):Prop:=(uD4 p0 p1).1
def oE9 (p0:D94) (p1:(List D94)):(Unit):=(uD4 p0 p1).2.1
def wG1 (p0:D94) (p1:(List D94)):((List D94) × Unit):=(uD4 p0 p1).2.2
instance (p0:D94) (p1:(List D94)):Decidable (wN8 p0 p1):=by
 unfold wN8 uD4
 try dsimp only
 infer_instance
def uS2:Am.Spec:=fnSpec [(0,(.val T94)),(1,(.box (.sl T94) (.own T94 400100 false)))] (.tup .nl) [(1,(.box (.sl T94) (.own T94 400100 false)))] (fun x=>wN8 x.1 x.2.1) (fun x=>oE9 x.1 x.2.1) (fun x=>wG1 x.1 x.2.1)
def sY0:Ctx:=Cx tys [] [] [(5,[(4,0,14,400100)])] true 15 [1] []
theorem sY1:CtxOk Tryz.prog sY0:=xV6 tys_ok rfl trivial rfl (by kernel_rfl)
theorem rV2:SpecOk Tryz.prog 144 uS2:=xX4 sY1 mixed Tryz.func144 (by kernel_rfl) (bs:=[]) (by kernel_rfl) trivial fun x=>by kernel_rfl
abbrev wG2:Type:=(D97 × D94 × (Unit × Unit) × Unit)
abbrev wD4:Type:=((List D94) × Int × Unit)
def wY6 (y:wG2) (x:wD4):Prop × Bool × wD4 :=
 let a3:=y.1
 let a5:=y.2.1
 let a2:=x.1
 let a7:=x.2.1
 let v37:=(decide (a7 ≤ 8))
 let v41:=(IntKind.wrap .i64 (8 - a7))
 let v44:=(IntKind.wrap .i64 (v41 * v41))
 let v48:=(IntKind.wrap .i64 ((IntKind.wrap .i64 (2 * a7)) * v41))
 let v51:=(IntKind.wrap .i64 (a7 * a7))
 let v70:=(IntKind.wrap .i64 ((IntKind.wrap .i64 ((IntKind.wrap .i64 (v44 * a5.1)) + (IntKind.wrap .i64 (v48 * ((nth a3.2.1 (0:Int) Z94).1))))) + (IntKind.wrap .i64 (v51 * ((nth a3.2.1 (1:Int) Z94).1)))))
 let v89:=(IntKind.wrap .i64 ((IntKind.wrap .i64 ((IntKind.wrap .i64 (v44 * a5.2.1)) + (IntKind.wrap .i64 (v48 * ((nth a3.2.1 (0:Int) Z94).2.1))))) + (IntKind.wrap .i64 (v51 * ((nth a3.2.1 (1:Int) Z94).2.1)))))
 let s:=((f97 v70 (64:Int)),(f97 v89 (64:Int)),())
 ((v37 = true → (InB (0:Int) 3 ∧ (InB (1:Int) 3 ∧ ((wC6 v70 (64:Int)) ∧ (InB (0:Int) 3 ∧ (InB (1:Int) 3 ∧ ((wC6 v89 (64:Int)) ∧ (wN8 s a2)))))))),v37,((wG1 s a2).1,(IntKind.wrap .i64 (a7 + 1)),()))
def wI (y:wG2) (x:wD4):Prop:=(wY6 y x).1
def wG3 (y:wG2) (x:wD4):Bool:=(wY6 y x).2.1
def wA0 (y:wG2) (x:wD4):wD4:=(wY6 y x).2.2
instance (y:wG2) (x:wD4):Decidable (wI y x):=by
 unfold wI wY6
 try dsimp only
 infer_instance
def wY7 (y:wG2) (x:wD4):(List D94) :=
 x.1
def uD5:List (Nat × Sh):=[(2,(.box (.sl T94) (.own T94 400200 false)))]
def vN6:St → Option Out:=xO8 [(3,(.box T97 (.val T97))),(5,(.box T94 (.val T94))),(6,(.fn 144 (.cons (.ref 2 (.sl T94)) .nl)))] [(2,(.box (.sl T94) (.own T94 400200 false))),(7,vI)] wG3 wA0 wI fun y x=>[ex 3 none uD5 ((wY7 y x),())]
abbrev wD9:Type:=(D97 × D94 × (Unit × Unit) × Unit)
abbrev wB4:Type:=((List D94) × Int × Unit)
def wR6 (y:wD9) (x:wB4):Prop × Bool × wB4 :=
 let a3:=y.1
 let a5:=y.2.1
 let a2:=x.1
 let a12:=x.2.1
 let v96:=(decide (a12 ≤ 16))
 let v100:=(IntKind.wrap .i64 (16 - a12))
 let v105:=(IntKind.wrap .i64 ((IntKind.wrap .i64 (v100 * v100)) * v100))
 let v111:=(IntKind.wrap .i64 ((IntKind.wrap .i64 ((IntKind.wrap .i64 (3 * a12)) * v100)) * v100))
 let v117:=(IntKind.wrap .i64 ((IntKind.wrap .i64 ((IntKind.wrap .i64 (3 * a12)) * a12)) * v100))
 let v122:=(IntKind.wrap .i64 ((IntKind.wrap .i64 (a12 * a12)) * a12))
 let v141:=(IntKind.wrap .i64 ((IntKind.wrap .i64 ((IntKind.wrap .i64 (v105 * a5.1)) + (IntKind.wrap .i64 (v111 * ((nth a3.2.1 (0:Int) Z94).1))))) + (IntKind.wrap .i64 (v117 * ((nth a3.2.1 (1:Int) Z94).1)))))
 let v148:=(IntKind.wrap .i64 (v141 + (IntKind.wrap .i64 (v122 * ((nth a3.2.1 (2:Int) Z94).1)))))
 let v167:=(IntKind.wrap .i64 ((IntKind.wrap .i64 ((IntKind.wrap .i64 (v105 * a5.2.1)) + (IntKind.wrap .i64 (v111 * ((nth a3.2.1 (0:Int) Z94).2.1))))) + (IntKind.wrap .i64 (v117 * ((nth a3.2.1 (1:Int) Z94).2.1)))))
 let v174:=(IntKind.wrap .i64 (v167 + (IntKind.wrap .i64 (v122 * ((nth a3.2.1 (2:Int) Z94).2.1)))))
 let s:=((f97 v148 (4096:Int)),(f97 v174 (4096:Int)),())
 ((v96 = true → (InB (0:Int) 3 ∧ (InB (1:Int) 3 ∧ (InB (2:Int) 3 ∧ ((wC6 v148 (4096:Int)) ∧ (InB (0:Int) 3 ∧ (InB (1:Int) 3 ∧ (InB (2:Int) 3 ∧ ((wC6 v174 (4096:Int)) ∧ (wN8 s a2)))))))))),v96,((wG1 s a2).1,(IntKind.wrap .i64 (a12 + 1)),()))
def wE9 (y:wD9) (x:wB4):Prop:=(wR6 y x).1
def wE (y:wD9) (x:wB4):Bool:=(wR6 y x).2.1
def xZ7 (y:wD9) (x:wB4):wB4:=(wR6 y x).2.2
instance (y:wD9) (x:wB4):Decidable (wE9 y x):=by
 unfold wE9 wR6
 try dsimp only
 infer_instance
def wU1 (y:wD9) (x:wB4):(List D94) :=
 x.1
def vX1:List (Nat × Sh):=[(2,(.box (.sl T94) (.own T94 400200 false)))]
def vM0:St → Option Out:=xO8 [(3,(.box T97 (.val T97))),(5,(.box T94 (.val T94))),(6,(.fn 144 (.cons (.ref 2 (.sl T94)) .nl)))] [(2,(.box (.sl T94) (.own T94 400200 false))),(12,vI)] wE xZ7 wE9 fun y x=>[ex 5 none vX1 ((wU1 y x),())]
def uZ (p0:(List D94)) (p1:D97):Prop × (List D94) :=
 let v21:=(IntKind.wrap .i64 ((len p0) - 1))
 let v22:=(nth p0 v21 Z94)
 let v28:=(p1.1 == 2)
 let v32:=(nth p1.2.1 (0:Int) Z94)
 let v35:=(p1.1 == 3)
 let y8:=(p1,v22,((),()),())
 let x8:=(p0,(1:Int),())
 let v94:=(p1.1 == 4)
 let y15:=(p1,v22,((),()),())
 let x15:=(p0,(1:Int),())
 let m2_2:=(bif v28 then (wG1 v32 p0).1 else (bif v35 then (wY7 y8 (zB9 (wG3 y8) (wA0 y8) x8)) else (bif v94 then (wU1 y15 (zB9 (wE y15) (xZ7 y15) x15)) else p0)))
 ((InB v21 (len p0) ∧ ((v28 = true → (InB (0:Int) 3 ∧ (wN8 v32 p0))) ∧ (v28 = false → ((v35 = true → (Am.Ends (wG3 y8) (wA0 y8) (wI y8) x8)) ∧ (v35 = false → (v94 = true → (Am.Ends (wE y15) (xZ7 y15) (wE9 y15) x15))))))),m2_2)
def vF5 (p0:(List D94)) (p1:D97):Prop:=(uZ p0 p1).1
def vZ (p0:(List D94)) (p1:D97):(List D94):=(uZ p0 p1).2
instance (p0:(List D94)) (p1:D97):Decidable (vF5 p0 p1):=by
 unfold vF5 uZ
 try dsimp only
 infer_instance
def uS3:Am.Spec:=fnSpec [(0,(.own T94 400000 false)),(1,(.val T97))] (.own T94 0 false) [] (fun x=>vF5 x.1 x.2.1) (fun x=>vZ x.1 x.2.1) (fun _=>())
def vZ0:Ctx:={ Cx tys [(97,wK8),(144,uS2)] [(8,vN6),(15,vM0)] [(1,[(4,0,400000,400200)]),(41,[(4,0,400200,0)])] true 179 [] [] with wants:=[(144,[])] }
theorem vZ1:CtxOk Tryz.prog vZ0:=xV6 tys_ok rfl ⟨vM2,rV2,trivial⟩ rfl (by kernel_rfl)
noncomputable def uS4:Code:=Tryz.f132.body.getD .skip
noncomputable def tU8:Code:=xW5 uS4 0
theorem sC3:yU1 Tryz.prog vZ0 tU8:=xX3 vZ1 mixed (sp:=vN6) rfl [uD5] (bs:=[]) (by kernel_rfl) trivial (by kernel_rfl) (by kernel_rfl) fun y x=>by kernel_rfl
noncomputable def tG:Code:=xW5 uS4 1
theorem tT0:yU1 Tryz.prog vZ0 tG:=xX3 vZ1 mixed (sp:=vM0) rfl [vX1] (bs:=[]) (by kernel_rfl) trivial (by kernel_rfl) (by kernel_rfl) fun y x=>by kernel_rfl
theorem rV3:SpecOk Tryz.prog 132 uS3:=xX4 vZ1 mixed Tryz.func132 (by kernel_rfl) (bs:=[tU8,tG]) (by kernel_rfl) ⟨sC3,tT0,trivial⟩ fun x=>by kernel_rfl
abbrev vF6:Type:=((List D97) × (List D97) × Int × Unit)
abbrev wM8:Type:=((List (List D94)) × (List D94) × Int × Unit)
def vS6 (y:vF6) (x:wM8):Prop × Bool × wM8 :=
 let a0:=y.1
 let a14:=y.2.1
 let a5:=x.1
 let a6:=x.2.1
 let a16:=x.2.2.1
 let v17:=(decide (a16 < y.2.2.1))
 let v19:=(nth a14 a16 Z97)
 let v23:=(v19.1 == 1)
 let m6:=(bif v23 then ([(nth v19.2.1 (0:Int) Z94)]:List D94) else (vZ a6 v19))
 let v33:=(len a0)
 let v35:=(a16 == (v33 - 1))
 let v39:=(a16 + 1)
 let v44:=(bif v35 then true else ((nth a0 v39 Z97).1 == 1))
 let v47:=([m6]:List (List D94))
 ((v17 = true → (InB a16 (len a14) ∧ ((v23 = true → InB (0:Int) 3) ∧ ((v23 = false → (vF5 a6 v19)) ∧ (InR (v33 - 1) ∧ (((!v35) = true → InR (a16 + 1)) ∧ (((!v35) = true → InB v39 (len a0)) ∧ ((v44 = true → ((List.length a5 + List.length v47:Nat):Int) ≤ 4294967296) ∧ InR (a16 + 1))))))))),v17,((bif v44 then (a5 ++ v47) else a5),m6,(a16 + 1),()))
def wW3 (y:vF6) (x:wM8):Prop:=(vS6 y x).1
def vF7 (y:vF6) (x:wM8):Bool:=(vS6 y x).2.1
def wD5 (y:vF6) (x:wM8):wM8:=(vS6 y x).2.2
instance (y:vF6) (x:wM8):Decidable (wW3 y x):=by
 unfold wW3 vS6
 try dsimp only
 infer_instance
def vN7 (y:vF6) (x:wM8):(List (List D94)) :=
 x.1
def tU9:List (Nat × Sh):=[(5,(.own (.sl T94) 1005 false))]
def uS5:St → Option Out:=xO8 [(0,(.val (.sl T97))),(14,(.val (.sl T97))),(15,vI)] [(5,(.own (.sl T94) 1005 false)),(6,(.own T94 1006 false)),(16,vI)] vF7 wD5 wW3 fun y x=>[ex 2 none tU9 ((vN7 y x),())]
def pB1 (p0:(List D97)):Prop × ((List (List D94)) × Int × Unit) :=
 let v10:=(f128 p0)
 let v12:=(v10 != 0)
 let y7:=(p0,p0,(len p0),())
 let x7:=(([]:List (List D94)),([]:List D94),(0:Int),())
 (((vN2 p0) ∧ ((!v12) = true → (Am.Ends (vF7 y7) (wD5 y7) (wW3 y7) x7))),((bif v12 then [] else (vN7 y7 (zB9 (vF7 y7) (wD5 y7) x7))),(bif v12 then v10 else (0:Int)),()))
def vN8 (p0:(List D97)):Prop:=(pB1 p0).1
def f114 (p0:(List D97)):((List (List D94)) × Int × Unit):=(pB1 p0).2
instance (p0:(List D97)):Decidable (vN8 p0):=by
 unfold vN8 pB1
 try dsimp only
 infer_instance
def tG0:Am.Spec:=fnSpec [(0,(.val (.sl T97)))] (.tup (.cons (.own (.sl T94) 0 false) (.cons vI .nl))) [] (fun x=>vN8 x.1) (fun x=>f114 x.1) (fun _=>())
def rK5:Ctx:={ Cx tys [(128,vN3),(132,uS3)] [(7,uS5)] [(21,[(4,0,27,1006)]),(23,[(4,0,30,1006)]),(27,[(4,0,48,1005)]),(31,[(4,0,1005,0)])] false 51 [] [] with wants:=[(132,[0])] }
theorem rK6:CtxOk Tryz.prog rK5:=xV6 tys_ok rfl ⟨sC0,rV3,trivial⟩ rfl (by kernel_rfl)
noncomputable def qF1:Code:=Tryz.f114.body.getD .skip
noncomputable def qF2:Code:=xW5 qF1 0
theorem rV4:yU1 Tryz.prog rK5 qF2:=xX3 rK6 mixed (sp:=uS5) rfl [tU9] (bs:=[]) (by kernel_rfl) trivial (by kernel_rfl) (by kernel_rfl) fun y x=>by kernel_rfl
theorem qF3:SpecOk Tryz.prog 114 tG0:=xX4 rK6 mixed Tryz.func114 (by kernel_rfl) (bs:=[qF2]) (by kernel_rfl) ⟨rV4,trivial⟩ fun x=>by kernel_rfl
abbrev vF8:Type:=((List D97) × (List D97) × Int × Unit)
abbrev wR7:Type:=((List Bool) × Int × Unit)
def uD6 (y:vF8) (x:wR7):Prop × Bool × wR7 :=
 let a0:=y.1
 let a13:=y.2.1
 let a5:=x.1
 let a15:=x.2.1
 let v16:=(decide (a15 < y.2.2.1))
 let v22:=(len a0)
 let v24:=(a15 == (v22 - 1))
 let v28:=(a15 + 1)
 let v33:=(bif v24 then true else ((nth a0 v28 Z97).1 == 1))
 let v38:=([((nth a13 a15 Z97).1 != 5)]:List Bool)
 ((v16 = true → (InB a15 (len a13) ∧ (InR (v22 - 1) ∧ (((!v24) = true → InR (a15 + 1)) ∧ (((!v24) = true → InB v28 (len a0)) ∧ ((v33 = true → ((List.length a5 + List.length v38:Nat):Int) ≤ 4294967296) ∧ InR (a15 + 1))))))),v16,((bif v33 then (a5 ++ v38) else a5),(a15 + 1),()))
def vS7 (y:vF8) (x:wR7):Prop:=(uD6 y x).1
def tG1 (y:vF8) (x:wR7):Bool:=(uD6 y x).2.1
def vB5 (y:vF8) (x:wR7):wR7:=(uD6 y x).2.2
instance (y:vF8) (x:wR7):Decidable (vS7 y x):=by
 unfold vS7 uD6
 try dsimp only
 infer_instance
def uS6 (y:vF8) (x:wR7):(List Bool) :=
 x.1
def uS7:St → Option Out:=xO8 [(0,(.val (.sl T97))),(13,(.val (.sl T97))),(14,vI)] [(5,(.own .bool 1005 false)),(15,vI)] tG1 vB5 vS7 fun y x=>[ex 2 none [(5,(.own .bool 1005 false))] ((uS6 y x),())]
def oF (p0:(List D97)):Prop × ((List Bool) × Int × Unit) :=
 let v9:=(f128 p0)
 let v11:=(v9 != 0)
 let y6:=(p0,p0,(len p0),())
 let x6:=(([]:List Bool),(0:Int),())
 (((vN2 p0) ∧ ((!v11) = true → (Am.Ends (tG1 y6) (vB5 y6) (vS7 y6) x6))),((bif v11 then [] else (uS6 y6 (zB9 (tG1 y6) (vB5 y6) x6))),(bif v11 then v9 else (0:Int)),()))
def tG2 (p0:(List D97)):Prop:=(oF p0).1
def f115 (p0:(List D97)):((List Bool) × Int × Unit):=(oF p0).2
instance (p0:(List D97)):Decidable (tG2 p0):=by
 unfold tG2 oF
 try dsimp only
 infer_instance
def sN:Am.Spec:=fnSpec [(0,(.val (.sl T97)))] (.tup (.cons (.own .bool 0 false) (.cons vI .nl))) [] (fun x=>tG2 x.1) (fun x=>f115 x.1) (fun _=>())
def rK7:Ctx:=Cx tys [(128,vN3)] [(6,uS7)] [(19,[(4,0,39,1005)]),(23,[(4,0,1005,0)])] false 42 [] []
theorem rK8:CtxOk Tryz.prog rK7:=xV6 tys_ok rfl ⟨sC0,trivial⟩ rfl (by kernel_rfl)
noncomputable def qF4:Code:=Tryz.f115.body.getD .skip
noncomputable def qF5:Code:=xW5 qF4 0
theorem rV5:yU1 Tryz.prog rK7 qF5:=xX3 rK8 mixed (sp:=uS7) rfl [[(5,(.own .bool 1005 false))]] (bs:=[]) (by kernel_rfl) trivial (by kernel_rfl) (by kernel_rfl) fun y x=>by kernel_rfl
theorem oF0:SpecOk Tryz.prog 115 sN:=xX4 rK8 mixed Tryz.func115 (by kernel_rfl) (bs:=[qF5]) (by kernel_rfl) ⟨rV5,trivial⟩ fun x=>by kernel_rfl
abbrev wR8:Type:=((List (List D94)) × (List (List D94)) × Int × Unit)
abbrev wJ2:Type:=(Int × Int × Unit)
def vS8 (y:wR8) (x:wJ2):Prop × Bool × wJ2 × Bool × Bool :=
 let a18:=y.2.1
 let a5:=x.1
 let a20:=x.2.1
 let v21:=(decide (a20 < y.2.2.1))
 let v26:=(len (nth a18 a20 ([]:List D94)))
 let v27:=(a5 + v26)
 let v29:=(decide (v27 > 4096))
 ((v21 = true → (InB a20 (len a18) ∧ (InR (a5 + v26) ∧ ((!v29) = true → InR (a20 + 1))))),(v21 && (!v29)),(v27,(a20 + 1),()),(v21 && v29),(!v21))
def vS9 (y:wR8) (x:wJ2):Prop:=(vS8 y x).1
def tG3 (y:wR8) (x:wJ2):Bool:=(vS8 y x).2.1
def vN9 (y:wR8) (x:wJ2):wJ2:=(vS8 y x).2.2.1
def tV (y:wR8) (x:wJ2):Bool:=(vS8 y x).2.2.2.1
def tV0 (y:wR8) (x:wJ2):Bool:=(vS8 y x).2.2.2.2
instance (y:wR8) (x:wJ2):Decidable (vS9 y x):=by
 unfold vS9 vS8
 try dsimp only
 infer_instance
def uS8 (y:wR8) (x:wJ2):Int :=
 (3:Int)
def uS9:St → Option Out:=xO8 [(0,(.val (.sl (.sl T94)))),(18,(.val (.sl (.sl T94)))),(19,vI)] [(5,vI),(20,vI)] tG3 vN9 vS9 fun y x=>[ex 1 (some (tV y x)) [(4,vI)] ((uS8 y x),()),ex 2 (some (tV0 y x)) [(0,(.val (.sl (.sl T94))))] (y.1,())]
abbrev wL4:Type:=((List (List D94)) × Int × Int × (List D94) × Int × Unit)
abbrev wF:Type:=(Int × Unit)
def vF9 (y:wL4) (x:wF):Prop × Bool × wF × Bool × Bool :=
 let a37:=y.2.2.2.1
 let a39:=x.1
 let v40:=(decide (a39 < y.2.2.2.2.1))
 let v41:=(nth a37 a39 Z94)
 let v60:=(bif (bif (bif (decide (v41.1 < (-16777216))) then true else (decide (v41.1 > 16777216))) then true else (decide (v41.2.1 < (-16777216)))) then true else (decide (v41.2.1 > 16777216)))
 ((v40 = true → (InB a39 (len a37) ∧ ((!v60) = true → InR (a39 + 1)))),(v40 && (!v60)),((a39 + 1),()),(v40 && v60),(!v40))
def vJ7 (y:wL4) (x:wF):Prop:=(vF9 y x).1
def vT (y:wL4) (x:wF):Bool:=(vF9 y x).2.1
def wU8 (y:wL4) (x:wF):wF:=(vF9 y x).2.2.1
def tG4 (y:wL4) (x:wF):Bool:=(vF9 y x).2.2.2.1
def tG5 (y:wL4) (x:wF):Bool:=(vF9 y x).2.2.2.2
instance (y:wL4) (x:wF):Decidable (vJ7 y x):=by
 unfold vJ7 vF9
 try dsimp only
 infer_instance
def uD7 (y:wL4) (x:wF):Int :=
 (2:Int)
def tG6:List (Nat × Sh):=[(31,(.val (.sl (.sl T94)))),(32,vI),(33,vI)]
def uD8:St → Option Out:=xO8 [(31,(.val (.sl (.sl T94)))),(32,vI),(33,vI),(37,(.val (.sl T94))),(38,vI)] [(39,vI)] vT wU8 vJ7 fun y x=>[ex 1 (some (tG4 y x)) [(4,vI)] ((uD7 y x),()),ex 6 (some (tG5 y x)) tG6 (y.1,y.2.1,y.2.2.1,())]
abbrev wL5:Type:=((List (List D94)) × Int × Unit)
abbrev wF0:Type:=(Int × Unit)
def vG (y:wL5) (x:wF0):Prop × Bool × wF0 × Bool × Bool :=
 let a31:=y.1
 let a32:=y.2.1
 let a33:=x.1
 let v34:=(decide (a33 < a32))
 let v35:=(nth a31 a33 ([]:List D94))
 let y15:=(a31,a32,a33,v35,(len v35),())
 let x15:=((0:Int),())
 let e15:=(zB9 (vT y15) (wU8 y15) x15)
 let q15_6:=(tG5 y15 e15)
 ((v34 = true → (InB a33 (len a31) ∧ ((Am.Ends (vT y15) (wU8 y15) (vJ7 y15) x15) ∧ (q15_6 = true → InR (a33 + 1))))),(v34 && q15_6),((a33 + 1),()),(v34 && (tG4 y15 e15)),(!v34))
def vJ8 (y:wL5) (x:wF0):Prop:=(vG y x).1
def uN4 (y:wL5) (x:wF0):Bool:=(vG y x).2.1
def vJ9 (y:wL5) (x:wF0):wF0:=(vG y x).2.2.1
def tG7 (y:wL5) (x:wF0):Bool:=(vG y x).2.2.2.1
def sY2 (y:wL5) (x:wF0):Bool:=(vG y x).2.2.2.2
instance (y:wL5) (x:wF0):Decidable (vJ8 y x):=by
 unfold vJ8 vG
 try dsimp only
 infer_instance
def uD9 (y:wL5) (x:wF0):Int :=
 let a31:=y.1
 let a33:=x.1
 let v35:=(nth a31 a33 ([]:List D94))
 let y15:=(a31,y.2.1,a33,v35,(len v35),())
 (uD7 y15 (zB9 (vT y15) (wU8 y15) ((0:Int),())))
def uE:St → Option Out:=xO8 [(31,(.val (.sl (.sl T94)))),(32,vI)] [(33,vI)] uN4 vJ9 vJ8 fun y x=>[ex 1 (some (tG7 y x)) [(4,vI)] ((uD9 y x),()),ex 4 (some (sY2 y x)) [] ()]
def oF1 (p0:(List (List D94))) (p1:Int):Prop × Int :=
 let v17:=(bif (p1 != 0) then (p1 != 1) else false)
 let y5:=(p0,p0,(len p0),())
 let x5:=((0:Int),(0:Int),())
 let e5:=(zB9 (tG3 y5) (vN9 y5) x5)
 let y12:=(p0,(len p0),())
 let x12:=((0:Int),())
 let e12:=(zB9 (uN4 y12) (vJ9 y12) x12)
 (((!v17) = true → ((Am.Ends (tG3 y5) (vN9 y5) (vS9 y5) x5) ∧ ((tV0 y5 e5) = true → (Am.Ends (uN4 y12) (vJ9 y12) (vJ8 y12) x12)))),(bif v17 then (8:Int) else (bif (tV y5 e5) then (uS8 y5 e5) else (bif (tG7 y12 e12) then (uD9 y12 e12) else (0:Int)))))
def vZ2 (p0:(List (List D94))) (p1:Int):Prop:=(oF1 p0 p1).1
def f117 (p0:(List (List D94))) (p1:Int):Int:=(oF1 p0 p1).2
instance (p0:(List (List D94))) (p1:Int):Decidable (vZ2 p0 p1):=by
 unfold vZ2 oF1
 try dsimp only
 infer_instance
def uE0:Am.Spec:=fnSpec [(0,(.val (.sl (.sl T94)))),(1,vI)] vI [] (fun x=>vZ2 x.1 x.2.1) (fun x=>f117 x.1 x.2.1) (fun _=>())
def uZ0:Ctx:=Cx tys [] [(5,uS9),(15,uD8),(12,uE)] [] false 63 [] []
theorem uZ1:CtxOk Tryz.prog uZ0:=xV6 tys_ok rfl trivial rfl (by kernel_rfl)
noncomputable def sN0:Code:=Tryz.f117.body.getD .skip
noncomputable def qF6:Code:=xW5 sN0 0
theorem rV6:yU1 Tryz.prog uZ0 qF6:=xX3 uZ1 mixed (sp:=uS9) rfl [[(4,vI)],[(0,(.val (.sl (.sl T94))))]] (bs:=[]) (by kernel_rfl) trivial (by kernel_rfl) (by kernel_rfl) fun y x=>by kernel_rfl
noncomputable def sC4:Code:=xW5 sN0 1
noncomputable def rK9:Code:=xW5 sC4 0
theorem sY3:yU1 Tryz.prog uZ0 rK9:=xX3 uZ1 mixed (sp:=uD8) rfl [[(4,vI)],tG6] (bs:=[]) (by kernel_rfl) trivial (by kernel_rfl) (by kernel_rfl) fun y x=>by kernel_rfl
theorem sY4:yU1 Tryz.prog uZ0 sC4:=xX3 uZ1 mixed (sp:=uE) rfl [[(4,vI)],[]] (bs:=[rK9]) (by kernel_rfl) ⟨sY3,trivial⟩ (by kernel_rfl) (by kernel_rfl) fun y x=>by kernel_rfl
theorem sY5:SpecOk Tryz.prog 117 uE0:=xX4 uZ1 mixed Tryz.func117 (by kernel_rfl) (bs:=[qF6,sC4]) (by kernel_rfl) ⟨rV6,sY4,trivial⟩ fun x=>by kernel_rfl
def oF2 (p0:Int) (p1:Int) (p2:Int):Prop × Int :=
 let m6_2:=(bif (bif (decide (p0 < 1)) then true else (decide (p0 > 4096))) then (2:Int) else (bif (bif (decide (p1 < 0)) then true else (decide (p1 > 2))) then (8:Int) else (bif (bif (decide (p2 < 0)) then true else (decide (p2 > 2))) then (8:Int) else (0:Int))))
 (True,m6_2)
def tG8 (p0:Int) (p1:Int) (p2:Int):Prop:=(oF2 p0 p1 p2).1
def f133 (p0:Int) (p1:Int) (p2:Int):Int:=(oF2 p0 p1 p2).2
instance (p0:Int) (p1:Int) (p2:Int):Decidable (tG8 p0 p1 p2):=by
 unfold tG8 oF2
 try dsimp only
 infer_instance
def sN1:Am.Spec:=fnSpec [(0,vI),(1,vI),(2,vI)] vI [] (fun x=>tG8 x.1 x.2.1 x.2.2.1) (fun x=>f133 x.1 x.2.1 x.2.2.1) (fun _=>())
def pB2:Ctx:=Cx tys [] [] [] false 25 [] []
theorem pB3:CtxOk Tryz.prog pB2:=xV6 tys_ok rfl trivial rfl (by kernel_rfl)
theorem oF3:SpecOk Tryz.prog 133 sN1:=xX4 pB3 mixed Tryz.func133 (by kernel_rfl) (bs:=[]) (by kernel_rfl) trivial fun x=>by kernel_rfl
abbrev vG0:Type:=(Bool × (List D94) × Int × Unit)
abbrev wR9:Type:=((List D94) × Int × Unit)
def uE1 (y:vG0) (x:wR9):Prop × Bool × wR9 :=
 let a8:=y.2.1
 let a5:=x.1
 let a10:=x.2.1
 let v11:=(decide (a10 < y.2.2.1))
 let v12:=(nth a8 a10 Z94)
 let v16:=((len a5) == 0)
 let v21:=(len a5)
 let v22:=(v21 - 1)
 let v26:=(bif v16 then true else (!(Ty.eqb T94 v12 (nth a5 v22 Z94))))
 let v29:=([v12]:List D94)
 ((v11 = true → (InB a10 (len a8) ∧ (((!v16) = true → InR (v21 - 1)) ∧ (((!v16) = true → InB v22 (len a5)) ∧ ((v26 = true → ((List.length a5 + List.length v29:Nat):Int) ≤ 4294967296) ∧ InR (a10 + 1)))))),v11,((bif v26 then (a5 ++ v29) else a5),(a10 + 1),()))
def wW4 (y:vG0) (x:wR9):Prop:=(uE1 y x).1
def wY8 (y:vG0) (x:wR9):Bool:=(uE1 y x).2.1
def wD6 (y:vG0) (x:wR9):wR9:=(uE1 y x).2.2
instance (y:vG0) (x:wR9):Decidable (wW4 y x):=by
 unfold wW4 uE1
 try dsimp only
 infer_instance
def uT (y:vG0) (x:wR9):(List D94) :=
 x.1
def tV1:List (Nat × Sh):=[(1,vB),(5,(.own T94 1005 false))]
def uT0:St → Option Out:=xO8 [(1,vB),(8,(.val (.sl T94))),(9,vI)] [(5,(.own T94 1005 false)),(10,vI)] wY8 wD6 wW4 fun y x=>[ex 2 none tV1 (y.1,(uT y x),())]
abbrev vG1:Type:=(Bool × Unit)
abbrev wJ3:Type:=((List D94) × Unit)
def uZ2 (y:vG1) (x:wJ3):Prop × Bool × wJ3 :=
 let a5:=x.1
 let v38:=(bif (!y.1) then (decide ((len a5) > 1)) else false)
 let v42:=(len a5)
 let v43:=(v42 - 1)
 let v50:=(bif v38 then (Ty.eqb T94 (nth a5 v43 Z94) (nth a5 (0:Int) Z94)) else false)
 let v53:=(len a5)
 let v54:=(v53 - 1)
 (((v38 = true → InR (v42 - 1)) ∧ ((v38 = true → InB v43 (len a5)) ∧ ((v38 = true → InB (0:Int) (len a5)) ∧ (v50 = true → (InR (v53 - 1) ∧ (0 ≤ v54 ∧ v54 ≤ len a5)))))),v50,((List.take (Int.toNat v54) a5),()))
def wW5 (y:vG1) (x:wJ3):Prop:=(uZ2 y x).1
def vG2 (y:vG1) (x:wJ3):Bool:=(uZ2 y x).2.1
def wG4 (y:vG1) (x:wJ3):wJ3:=(uZ2 y x).2.2
instance (y:vG1) (x:wJ3):Decidable (wW5 y x):=by
 unfold wW5 uZ2
 try dsimp only
 infer_instance
def uT1 (y:vG1) (x:wJ3):(List D94) :=
 x.1
def uT2:St → Option Out:=xO8 [(1,vB)] [(5,(.val (.sl T94)))] vG2 wG4 wW5 fun y x=>[ex 4 none [(5,(.val (.sl T94)))] ((uT1 y x),())]
def oF4 (p0:(List D94)) (p1:Bool):Prop × (List D94) :=
 let y3:=(p1,p0,(len p0),())
 let x3:=(([]:List D94),(0:Int),())
 let y8:=(p1,())
 let x8:=((uT y3 (zB9 (wY8 y3) (wD6 y3) x3)),())
 (((Am.Ends (wY8 y3) (wD6 y3) (wW4 y3) x3) ∧ (Am.Ends (vG2 y8) (wG4 y8) (wW5 y8) x8)),(uT1 y8 (zB9 (vG2 y8) (wG4 y8) x8)))
def tG9 (p0:(List D94)) (p1:Bool):Prop:=(oF4 p0 p1).1
def f145 (p0:(List D94)) (p1:Bool):(List D94):=(oF4 p0 p1).2
instance (p0:(List D94)) (p1:Bool):Decidable (tG9 p0 p1):=by
 unfold tG9 oF4
 try dsimp only
 infer_instance
def sN2:Am.Spec:=fnSpec [(0,(.val (.sl T94))),(1,vB)] (.val (.sl T94)) [] (fun x=>tG9 x.1 x.2.1) (fun x=>f145 x.1 x.2.1) (fun _=>())
def sC5:Ctx:=Cx tys [] [(3,uT0),(8,uT2)] [(13,[(4,0,30,1005)])] false 57 [] []
theorem sC6:CtxOk Tryz.prog sC5:=xV6 tys_ok rfl trivial rfl (by kernel_rfl)
noncomputable def sN3:Code:=Tryz.f145.body.getD .skip
noncomputable def qF7:Code:=xW5 sN3 0
theorem rV7:yU1 Tryz.prog sC5 qF7:=xX3 sC6 mixed (sp:=uT0) rfl [tV1] (bs:=[]) (by kernel_rfl) trivial (by kernel_rfl) (by kernel_rfl) fun y x=>by kernel_rfl
noncomputable def qF8:Code:=xW5 sN3 1
theorem rV8:yU1 Tryz.prog sC5 qF8:=xX3 sC6 mixed (sp:=uT2) rfl [[(5,(.val (.sl T94)))]] (bs:=[]) (by kernel_rfl) trivial (by kernel_rfl) (by kernel_rfl) fun y x=>by kernel_rfl
theorem oF5:SpecOk Tryz.prog 145 sN2:=xX4 sC6 mixed Tryz.func145 (by kernel_rfl) (bs:=[qF7,qF8]) (by kernel_rfl) ⟨rV7,rV8,trivial⟩ fun x=>by kernel_rfl
def oF6 (p0:D94) (p1:D94):Prop × D94 :=
 (True,((IntKind.wrap .i64 (p0.1 - p1.1)),(IntKind.wrap .i64 (p0.2.1 - p1.2.1)),()))
def wG5 (p0:D94) (p1:D94):Prop:=(oF6 p0 p1).1
def f150 (p0:D94) (p1:D94):D94:=(oF6 p0 p1).2
instance (p0:D94) (p1:D94):Decidable (wG5 p0 p1):=by
 unfold wG5 oF6
 try dsimp only
 infer_instance
def vO:Am.Spec:=fnSpec [(0,(.val T94)),(1,(.val T94))] (.val T94) [] (fun x=>wG5 x.1 x.2.1) (fun x=>f150 x.1 x.2.1) (fun _=>())
def pB4:Ctx:=Cx tys [] [] [] true 16 [] []
theorem pB5:CtxOk Tryz.prog pB4:=xV6 tys_ok rfl trivial rfl (by kernel_rfl)
theorem sC7:SpecOk Tryz.prog 150 vO:=xX4 pB5 mixed Tryz.func150 (by kernel_rfl) (bs:=[]) (by kernel_rfl) trivial fun x=>by kernel_rfl
def oF7 (p0:Int) (p1:Int):Prop × (Int × Int × Unit) :=
 let v15:=(xX5 .u64 p0 (4294967295:Int))
 let v17:=(xX6 p0 (32:Int) 64)
 let v19:=(xX5 .u64 p1 (4294967295:Int))
 let v21:=(xX6 p1 (32:Int) 64)
 let v30:=(IntKind.wrap .u64 ((IntKind.wrap .u64 (v17 * v19)) + (xX6 (IntKind.wrap .u64 (v15 * v19)) (32:Int) 64)))
 let v47:=(IntKind.wrap .u64 ((IntKind.wrap .u64 ((IntKind.wrap .u64 (v17 * v21)) + (xX6 v30 (32:Int) 64))) + (xX6 (IntKind.wrap .u64 ((xX5 .u64 v30 (4294967295:Int)) + (IntKind.wrap .u64 (v15 * v21)))) (32:Int) 64)))
 (True,(v47,(IntKind.wrap .u64 (p0 * p1)),()))
def vZ3 (p0:Int) (p1:Int):Prop:=(oF7 p0 p1).1
def f175 (p0:Int) (p1:Int):(Int × Int × Unit):=(oF7 p0 p1).2
instance (p0:Int) (p1:Int):Decidable (vZ3 p0 p1):=by
 unfold vZ3 oF7
 try dsimp only
 infer_instance
def sN4:Am.Spec:=fnSpec [(0,(.val (.int .u64))),(1,(.val (.int .u64)))] (.tup (.cons (.val (.int .u64)) (.cons (.val (.int .u64)) .nl))) [] (fun x=>vZ3 x.1 x.2.1) (fun x=>f175 x.1 x.2.1) (fun _=>())
def pB6:Ctx:=Cx tys [] [] [] true 51 [] []
theorem pB7:CtxOk Tryz.prog pB6:=xV6 tys_ok rfl trivial rfl (by kernel_rfl)
theorem oF8:SpecOk Tryz.prog 175 sN4:=xX4 pB7 mixed Tryz.func175 (by kernel_rfl) (bs:=[]) (by kernel_rfl) trivial fun x=>by kernel_rfl
def oF9 (p0:Int):Prop × Int :=
 (True,(bif (decide (p0 < 0)) then (IntKind.wrap .u64 (Int.sub 0 (IntKind.wrap .u64 p0))) else (IntKind.wrap .u64 p0)))
def vO0 (p0:Int):Prop:=(oF9 p0).1
def f176 (p0:Int):Int:=(oF9 p0).2
instance (p0:Int):Decidable (vO0 p0):=by
 unfold vO0 oF9
 try dsimp only
 infer_instance
def sN5:Am.Spec:=fnSpec [(0,vI)] (.val (.int .u64)) [] (fun x=>vO0 x.1) (fun x=>f176 x.1) (fun _=>())
def pB8:Ctx:=Cx tys [] [] [] true 10 [] []
theorem pB9:CtxOk Tryz.prog pB8:=xV6 tys_ok rfl trivial rfl (by kernel_rfl)
theorem oG:SpecOk Tryz.prog 176 sN5:=xX4 pB9 mixed Tryz.func176 (by kernel_rfl) (bs:=[]) (by kernel_rfl) trivial fun x=>by kernel_rfl
abbrev wY9:Type:=(Int × Int × Unit)
abbrev wS:Type:=(Int × Int × Unit)
def uZ3 (y:wY9) (x:wS):Prop × Bool × wS :=
 let a5:=y.1
 let a10:=x.1
 let a11:=x.2.1
 let v43:=(a11 != 0)
 let v48:=(ior .u64 a10 a11)
 let v52:=(f175 v48 v48)
 ((v43 = true → (vZ3 v48 v48)),v43,((bif (bif (decide (v52.1 < a5)) then true else (bif (v52.1 == a5) then (decide (v52.2.1 ≤ y.2.1)) else false)) then v48 else a10),(xX6 a11 (1:Int) 64),()))
def vG3 (y:wY9) (x:wS):Prop:=(uZ3 y x).1
def uE2 (y:wY9) (x:wS):Bool:=(uZ3 y x).2.1
def wS0 (y:wY9) (x:wS):wS:=(uZ3 y x).2.2
instance (y:wY9) (x:wS):Decidable (vG3 y x):=by
 unfold vG3 uZ3
 try dsimp only
 infer_instance
def uT3 (y:wY9) (x:wS):Int :=
 x.1
def uT4:St → Option Out:=xO8 [(5,(.val (.int .u64))),(6,(.val (.int .u64)))] [(10,(.val (.int .u64))),(11,(.val (.int .u64)))] uE2 wS0 vG3 fun y x=>[ex 2 none [(10,(.val (.int .u64)))] ((uT3 y x),())]
def oG0 (p0:Int) (p1:Int):Prop × Int :=
 let v15:=(f176 p0)
 let v17:=(f176 p0)
 let v18:=(f175 v15 v17)
 let v23:=(f176 p1)
 let v25:=(f176 p1)
 let v26:=(f175 v23 v25)
 let v34:=(((Int.toNat v18.2.1 + Int.toNat v26.2.1 + Int.toNat (0:Int)) / 18446744073709551616:Nat):Int)
 let y7:=((((Int.toNat v18.1 + Int.toNat v26.1 + Int.toNat v34) % 18446744073709551616:Nat):Int),(((Int.toNat v18.2.1 + Int.toNat v26.2.1 + Int.toNat (0:Int)) % 18446744073709551616:Nat):Int),())
 let x7:=((0:Int),(9223372036854775808:Int),())
 let r7_2_0:=(uT3 y7 (zB9 (uE2 y7) (wS0 y7) x7))
 (((vO0 p0) ∧ ((vO0 p0) ∧ ((vZ3 v15 v17) ∧ ((vO0 p1) ∧ ((vO0 p1) ∧ ((vZ3 v23 v25) ∧ ((0 ≤ (0:Int) ∧ (0:Int) ≤ 1) ∧ ((0 ≤ v34 ∧ v34 ≤ 1) ∧ (Am.Ends (uE2 y7) (wS0 y7) (vG3 y7) x7))))))))),(bif (decide (r7_2_0 > 9223372036854775807)) then (9223372036854775807:Int) else (IntKind.wrap .i64 r7_2_0)))
def uN5 (p0:Int) (p1:Int):Prop:=(oG0 p0 p1).1
def f167 (p0:Int) (p1:Int):Int:=(oG0 p0 p1).2
instance (p0:Int) (p1:Int):Decidable (uN5 p0 p1):=by
 unfold uN5 oG0
 try dsimp only
 infer_instance
def tH:Am.Spec:=fnSpec [(0,vI),(1,vI)] vI [] (fun x=>uN5 x.1 x.2.1) (fun x=>f167 x.1 x.2.1) (fun _=>())
def rL:Ctx:={ Cx tys [(175,sN4),(176,sN5)] [(7,uT4)] [] true 73 [] [] with exts:=[(177,yX2)] }
theorem rL0:CtxOk Tryz.prog rL:=xU2 tys_ok rfl ⟨oF8,oG,trivial⟩ ⟨x177_ok,trivial⟩ (by kernel_rfl)
noncomputable def qF9:Code:=Tryz.f167.body.getD .skip
noncomputable def qG:Code:=xW5 qF9 0
theorem rV9:yU1 Tryz.prog rL qG:=xX3 rL0 mixed (sp:=uT4) rfl [[(10,(.val (.int .u64)))]] (bs:=[]) (by kernel_rfl) trivial (by kernel_rfl) (by kernel_rfl) fun y x=>by kernel_rfl
theorem qG0:SpecOk Tryz.prog 167 tH:=xX4 rL0 mixed Tryz.func167 (by kernel_rfl) (bs:=[qG]) (by kernel_rfl) ⟨rV9,trivial⟩ fun x=>by kernel_rfl
def oG1 (p0:D94) (p1:D94) (p2:Int):Prop × D197 :=
 let v11:=(f150 p1 p0)
 let v14:=(IntKind.wrap .i64 (16 * v11.1))
 let v17:=(IntKind.wrap .i64 (16 * v11.2.1))
 let v18:=(f167 v14 v17)
 let v26:=(IntKind.wrap .i64 ((IntKind.wrap .i64 ((-8) * p2)) * v11.2.1))
 let v33:=(IntKind.wrap .i64 ((IntKind.wrap .i64 (8 * p2)) * v11.1))
 let v41:=(IntKind.wrap .i64 ((IntKind.wrap .i64 (8 * p2)) * v11.1))
 let v48:=(IntKind.wrap .i64 ((IntKind.wrap .i64 (8 * p2)) * v11.2.1))
 (((wG5 p1 p0) ∧ ((uN5 v14 v17) ∧ ((wC6 v26 v18) ∧ ((wC6 v33 v18) ∧ ((wC6 v41 v18) ∧ (wC6 v48 v18)))))),(p0,p1,v11,((f97 v26 v18),(f97 v33 v18),()),((f97 v41 v18),(f97 v48 v18),()),()))
def uN6 (p0:D94) (p1:D94) (p2:Int):Prop:=(oG1 p0 p1 p2).1
def f163 (p0:D94) (p1:D94) (p2:Int):D197:=(oG1 p0 p1 p2).2
instance (p0:D94) (p1:D94) (p2:Int):Decidable (uN6 p0 p1 p2):=by
 unfold uN6 oG1
 try dsimp only
 infer_instance
def sN6:Am.Spec:=fnSpec [(0,(.val T94)),(1,(.val T94)),(2,vI)] (.val T197) [] (fun x=>uN6 x.1 x.2.1 x.2.2.1) (fun x=>f163 x.1 x.2.1 x.2.2.1) (fun _=>())
def pC:Ctx:=Cx tys [(97,wK8),(150,vO),(167,tH)] [] [] true 53 [] []
theorem pC0:CtxOk Tryz.prog pC:=xV6 tys_ok rfl ⟨vM2,sC7,qG0,trivial⟩ rfl (by kernel_rfl)
theorem oG2:SpecOk Tryz.prog 163 sN6:=xX4 pC0 mixed Tryz.func163 (by kernel_rfl) (bs:=[]) (by kernel_rfl) trivial fun x=>by kernel_rfl
abbrev vG4:Type:=((List D94) × Bool × Int × Unit)
abbrev wS1:Type:=((List D197) × Int × Unit)
def uE3 (y:vG4) (x:wS1):Prop × Bool × wS1 :=
 let a0:=y.1
 let a2:=y.2.2.1
 let a7:=x.1
 let a8:=x.2.1
 let v12:=(decide (a8 < (len a0)))
 let v18:=(a8 - 1)
 let v19:=(nth a0 v18 Z94)
 let v23:=(nth a0 a8 Z94)
 let v27:=([(f163 v19 v23 a2)]:List D197)
 ((v12 = true → (InR (a8 - 1) ∧ (InB v18 (len a0) ∧ (InB a8 (len a0) ∧ ((uN6 v19 v23 a2) ∧ (((List.length a7 + List.length v27:Nat):Int) ≤ 4294967296 ∧ InR (a8 + 1))))))),v12,((a7 ++ v27),(a8 + 1),()))
def wW6 (y:vG4) (x:wS1):Prop:=(uE3 y x).1
def vG5 (y:vG4) (x:wS1):Bool:=(uE3 y x).2.1
def wG6 (y:vG4) (x:wS1):wS1:=(uE3 y x).2.2
instance (y:vG4) (x:wS1):Decidable (wW6 y x):=by
 unfold wW6 uE3
 try dsimp only
 infer_instance
def vB6 (y:vG4) (x:wS1):(List D197) :=
 x.1
def tV2:List (Nat × Sh):=[(0,(.val (.sl T94))),(1,vB),(2,vI),(7,(.own T197 1007 false))]
def uT5:St → Option Out:=xO8 [(0,(.val (.sl T94))),(1,vB),(2,vI)] [(7,(.own T197 1007 false)),(8,vI)] vG5 wG6 wW6 fun y x=>[ex 2 none tV2 (y.1,y.2.1,y.2.2.1,(vB6 y x),())]
def pC1 (p0:(List D94)) (p1:Bool) (p2:Int):Prop × (List D197) :=
 let y3:=(p0,p1,p2,())
 let x3:=(([]:List D197),(1:Int),())
 let r3_2_0:=(vB6 y3 (zB9 (vG5 y3) (wG6 y3) x3))
 let v35:=(bif (!p1) then (decide ((len p0) > 1)) else false)
 let v39:=(len p0)
 let v40:=(v39 - 1)
 let v41:=(nth p0 v40 Z94)
 let v44:=(nth p0 (0:Int) Z94)
 let v48:=([(f163 v41 v44 p2)]:List D197)
 (((Am.Ends (vG5 y3) (wG6 y3) (wW6 y3) x3) ∧ (v35 = true → (InR (v39 - 1) ∧ (InB v40 (len p0) ∧ (InB (0:Int) (len p0) ∧ ((uN6 v41 v44 p2) ∧ ((List.length r3_2_0 + List.length v48:Nat):Int) ≤ 4294967296)))))),(bif v35 then (r3_2_0 ++ v48) else r3_2_0))
def tH0 (p0:(List D94)) (p1:Bool) (p2:Int):Prop:=(pC1 p0 p1 p2).1
def f146 (p0:(List D94)) (p1:Bool) (p2:Int):(List D197):=(pC1 p0 p1 p2).2
instance (p0:(List D94)) (p1:Bool) (p2:Int):Decidable (tH0 p0 p1 p2):=by
 unfold tH0 pC1
 try dsimp only
 infer_instance
def sN7:Am.Spec:=fnSpec [(0,(.val (.sl T94))),(1,vB),(2,vI)] (.own T197 0 false) [] (fun x=>tH0 x.1 x.2.1 x.2.2.1) (fun x=>f146 x.1 x.2.1 x.2.2.1) (fun _=>())
def rL1:Ctx:=Cx tys [(163,sN6)] [(3,uT5)] [(11,[(4,0,28,1007)]),(15,[(4,0,49,1007)]),(17,[(4,0,1007,0)])] false 51 [] []
theorem rL2:CtxOk Tryz.prog rL1:=xV6 tys_ok rfl ⟨oG2,trivial⟩ rfl (by kernel_rfl)
noncomputable def qG1:Code:=Tryz.f146.body.getD .skip
noncomputable def qG2:Code:=xW5 qG1 0
theorem rW:yU1 Tryz.prog rL1 qG2:=xX3 rL2 mixed (sp:=uT5) rfl [tV2] (bs:=[]) (by kernel_rfl) trivial (by kernel_rfl) (by kernel_rfl) fun y x=>by kernel_rfl
theorem oG3:SpecOk Tryz.prog 146 sN7:=xX4 rL2 mixed Tryz.func146 (by kernel_rfl) (bs:=[qG2]) (by kernel_rfl) ⟨rW,trivial⟩ fun x=>by kernel_rfl
abbrev vG6:Type:=((List D94) × (List D94) × Int × Unit)
abbrev wS2:Type:=(Int × Int × Unit)
def uE4 (y:vG6) (x:wS2):Prop × Bool × wS2 :=
 let a0:=y.1
 let a7:=y.2.1
 let a9:=x.2.1
 let v10:=(decide (a9 < y.2.2.1))
 let v12:=(nth a7 a9 Z94)
 let v18:=(len a0)
 let v19:=(Int.tmod (IntKind.wrap .i64 (a9 + 1)) v18)
 let v20:=(nth a0 v19 Z94)
 ((v10 = true → (InB a9 (len a7) ∧ (v18 ≠ 0 ∧ InB v19 (len a0)))),v10,((IntKind.wrap .i64 (x.1 + (IntKind.wrap .i64 ((IntKind.wrap .i64 (v12.1 * v20.2.1)) - (IntKind.wrap .i64 (v20.1 * v12.2.1)))))),(IntKind.wrap .i64 (a9 + 1)),()))
def vT0 (y:vG6) (x:wS2):Prop:=(uE4 y x).1
def tH1 (y:vG6) (x:wS2):Bool:=(uE4 y x).2.1
def vB7 (y:vG6) (x:wS2):wS2:=(uE4 y x).2.2
instance (y:vG6) (x:wS2):Decidable (vT0 y x):=by
 unfold vT0 uE4
 try dsimp only
 infer_instance
def uT6 (y:vG6) (x:wS2):Int :=
 x.1
def uT7:St → Option Out:=xO8 [(0,(.val (.sl T94))),(7,(.val (.sl T94))),(8,vI)] [(3,vI),(9,vI)] tH1 vB7 vT0 fun y x=>[ex 2 none [(3,vI)] ((uT6 y x),())]
def oG4 (p0:(List D94)):Prop × Int :=
 let y3:=(p0,p0,(len p0),())
 let x3:=((0:Int),(0:Int),())
 ((Am.Ends (tH1 y3) (vB7 y3) (vT0 y3) x3),(uT6 y3 (zB9 (tH1 y3) (vB7 y3) x3)))
def tH2 (p0:(List D94)):Prop:=(oG4 p0).1
def f165 (p0:(List D94)):Int:=(oG4 p0).2
instance (p0:(List D94)):Decidable (tH2 p0):=by
 unfold tH2 oG4
 try dsimp only
 infer_instance
def sN8:Am.Spec:=fnSpec [(0,(.val (.sl T94)))] vI [] (fun x=>tH2 x.1) (fun x=>f165 x.1) (fun _=>())
def rL3:Ctx:=Cx tys [] [(3,uT7)] [] true 37 [] []
theorem rL4:CtxOk Tryz.prog rL3:=xV6 tys_ok rfl trivial rfl (by kernel_rfl)
noncomputable def qG3:Code:=Tryz.f165.body.getD .skip
noncomputable def qG4:Code:=xW5 qG3 0
theorem rW0:yU1 Tryz.prog rL3 qG4:=xX3 rL4 mixed (sp:=uT7) rfl [[(3,vI)]] (bs:=[]) (by kernel_rfl) trivial (by kernel_rfl) (by kernel_rfl) fun y x=>by kernel_rfl
theorem oG5:SpecOk Tryz.prog 165 sN8:=xX4 rL4 mixed Tryz.func165 (by kernel_rfl) (bs:=[qG4]) (by kernel_rfl) ⟨rW0,trivial⟩ fun x=>by kernel_rfl
def f166 (_p0:(List D94)):Unit:=()
def rL5 (p0:(List D94)):(List D94) × Unit:=(List.reverse p0,())
def sY6 (_p0:(List D94)):Prop:=True
instance (p0:(List D94)):Decidable (sY6 p0):=isTrue trivial
def oG6:List (Nat × Sh):=[(0,(.own T94 400000 true))]
def oG7:Sh:=(.tup .nl)
def oG8:List (Nat × Sh):=[(0,(.own T94 400000 true))]
def sN9:Am.Spec:=fnSpec oG6 oG7 oG8 (fun x=>sY6 x.1) (fun x=>f166 x.1) (fun x=>rL5 x.1)
theorem oG9:SpecOk Tryz.prog 166 sN9:=spec_rev (by decide) rfl ⟨_,Tryz.func166,by kernel_rfl,by decide⟩ rev_ok
def oH (p0:D94) (p1:D94):Prop × D94 :=
 (True,((IntKind.wrap .i64 (p0.1 + p1.1)),(IntKind.wrap .i64 (p0.2.1 + p1.2.1)),()))
def wC (p0:D94) (p1:D94):Prop:=(oH p0 p1).1
def f149 (p0:D94) (p1:D94):D94:=(oH p0 p1).2
instance (p0:D94) (p1:D94):Decidable (wC p0 p1):=by
 unfold wC oH
 try dsimp only
 infer_instance
def vG7:Am.Spec:=fnSpec [(0,(.val T94)),(1,(.val T94))] (.val T94) [] (fun x=>wC x.1 x.2.1) (fun x=>f149 x.1 x.2.1) (fun _=>())
def pC2:Ctx:=Cx tys [] [] [] true 16 [] []
theorem pC3:CtxOk Tryz.prog pC2:=xV6 tys_ok rfl trivial rfl (by kernel_rfl)
theorem tH3:SpecOk Tryz.prog 149 vG7:=xX4 pC3 mixed Tryz.func149 (by kernel_rfl) (bs:=[]) (by kernel_rfl) trivial fun x=>by kernel_rfl
def oH0 (p0:Int):Prop × Int :=
 let v5:=(IntKind.wrap .i64 (Int.tdiv p0 (256:Int)))
 let v7:=(decide (v5 ≥ 64))
 let v14:=(IntKind.wrap .i64 (v5 + 1))
 let v25:=(IntKind.wrap .i64 ((IntKind.wrap .i64 ((nth G5 v14 (0:Int)) - (nth G5 v5 (0:Int)))) * (IntKind.wrap .i64 (p0 - (IntKind.wrap .i64 (256 * v5))))))
 (((v7 = true → InB (64:Int) 65) ∧ ((!v7) = true → (InB v5 65 ∧ (InB v14 65 ∧ (InB v5 65 ∧ (wC6 v25 (256:Int))))))),(bif v7 then (nth G5 (64:Int) (0:Int)) else (IntKind.wrap .i64 ((nth G5 v5 (0:Int)) + (f97 v25 (256:Int))))))
def vO1 (p0:Int):Prop:=(oH0 p0).1
def f190 (p0:Int):Int:=(oH0 p0).2
instance (p0:Int):Decidable (vO1 p0):=by
 unfold vO1 oH0
 try dsimp only
 infer_instance
def sO:Am.Spec:=fnSpec [(0,vI)] vI [] (fun x=>vO1 x.1) (fun x=>f190 x.1) (fun _=>())
def pC4:Ctx:=Cx tys [(97,wK8)] [] [] true 28 [] []
theorem pC5:CtxOk Tryz.prog pC4:=xV6 tys_ok rfl ⟨vM2,trivial⟩ rfl (by kernel_rfl)
theorem oH1:SpecOk Tryz.prog 190 sO:=xX4 pC5 mixed Tryz.func190 (by kernel_rfl) (bs:=[]) (by kernel_rfl) trivial fun x=>by kernel_rfl
def pC6 (p0:Int):Prop × Int :=
 let v6:=(IntKind.wrap .i64 (Int.tdiv p0 (16384:Int)))
 let v10:=(IntKind.wrap .i64 (p0 - (IntKind.wrap .i64 (16384 * v6))))
 let v13:=(v6 == 0)
 let v17:=(v6 == 1)
 let v19:=(IntKind.wrap .i64 (16384 - v10))
 let v22:=(v6 == 2)
 let v27:=(IntKind.wrap .i64 (16384 - v10))
 let m2_2:=(bif (bif v13 then true else (bif v17 then true else v22)) then (bif v13 then (f190 v10) else (bif v17 then (f190 v19) else (IntKind.wrap .i64 (Int.sub 0 (f190 v10))))) else (IntKind.wrap .i64 (Int.sub 0 (f190 v27))))
 (((v13 = true → (vO1 v10)) ∧ ((v13 = false → ((v17 = true → (vO1 v19)) ∧ (v17 = false → (v22 = true → (vO1 v10))))) ∧ ((((!v22) && (!v17)) && (!v13)) = true → (vO1 v27)))),m2_2)
def vO2 (p0:Int):Prop:=(pC6 p0).1
def f185 (p0:Int):Int:=(pC6 p0).2
instance (p0:Int):Decidable (vO2 p0):=by
 unfold vO2 pC6
 try dsimp only
 infer_instance
def sO0:Am.Spec:=fnSpec [(0,vI)] vI [] (fun x=>vO2 x.1) (fun x=>f185 x.1) (fun _=>())
def pC7:Ctx:=Cx tys [(190,sO)] [] [] true 30 [] []
theorem pC8:CtxOk Tryz.prog pC7:=xV6 tys_ok rfl ⟨oH1,trivial⟩ rfl (by kernel_rfl)
theorem oH2:SpecOk Tryz.prog 185 sO0:=xX4 pC8 mixed Tryz.func185 (by kernel_rfl) (bs:=[]) (by kernel_rfl) trivial fun x=>by kernel_rfl
def oH3 (p0:Int):Prop × (Int × Int × Unit) :=
 let v6:=(xX5 .i64 p0 (65535:Int))
 let v11:=(Int.tmod (IntKind.wrap .i64 (v6 + 16384)) (65536:Int))
 (((vO2 v6) ∧ (vO2 v11)),((f185 v6),(f185 v11),()))
def tH4 (p0:Int):Prop:=(oH3 p0).1
def f174 (p0:Int):(Int × Int × Unit):=(oH3 p0).2
instance (p0:Int):Decidable (tH4 p0):=by
 unfold tH4 oH3
 try dsimp only
 infer_instance
def sO1:Am.Spec:=fnSpec [(0,vI)] (.tup (.cons vI (.cons vI .nl))) [] (fun x=>tH4 x.1) (fun x=>f174 x.1) (fun _=>())
def pC9:Ctx:=Cx tys [(185,sO0)] [] [] true 13 [] []
theorem pD:CtxOk Tryz.prog pC9:=xV6 tys_ok rfl ⟨oH2,trivial⟩ rfl (by kernel_rfl)
theorem oH4:SpecOk Tryz.prog 174 sO1:=xX4 pD mixed Tryz.func174 (by kernel_rfl) (bs:=[]) (by kernel_rfl) trivial fun x=>by kernel_rfl
abbrev vG8:Type:=(Int × D94 × Int × Unit)
abbrev wS3:Type:=((List D94) × Int × Unit)
def uE5 (y:vG8) (x:wS3):Prop × Bool × wS3 :=
 let a1:=y.1
 let a2:=y.2.1
 let a5:=x.1
 let a12:=x.2.1
 let v13:=(decide (a12 < y.2.2.1))
 let v17:=(IntKind.wrap .i64 (4096 * a12))
 let v18:=(f174 v17)
 let v26:=(IntKind.wrap .i64 (a1 * v18.2.1))
 let v30:=(IntKind.wrap .i64 (a1 * v18.1))
 let s:=((f97 v26 (131072:Int)),(f97 v30 (131072:Int)),())
 ((v13 = true → ((tH4 v17) ∧ ((wC6 v26 (131072:Int)) ∧ ((wC6 v30 (131072:Int)) ∧ ((wC a2 s) ∧ (InB a12 (len a5) ∧ a12 < len a5)))))),v13,((List.set a5 (Int.toNat a12) (f149 a2 s)),(IntKind.wrap .i64 (a12 + 1)),()))
def wW7 (y:vG8) (x:wS3):Prop:=(uE5 y x).1
def vG9 (y:vG8) (x:wS3):Bool:=(uE5 y x).2.1
def wG7 (y:vG8) (x:wS3):wS3:=(uE5 y x).2.2
instance (y:vG8) (x:wS3):Decidable (wW7 y x):=by
 unfold wW7 uE5
 try dsimp only
 infer_instance
def vO3 (y:vG8) (x:wS3):(List D94) :=
 x.1
def uT8:St → Option Out:=xO8 [(1,vI),(2,(.box T94 (.val T94))),(11,vI)] [(5,(.own T94 1005 true)),(12,vI)] vG9 wG7 wW7 fun y x=>[ex 2 none [(5,(.own T94 1005 true))] ((vO3 y x),())]
def pD0 (p0:D94) (p1:Int):Prop × (List D94) :=
 let v9:=(List.replicate (Int.toNat (16:Int)) Z94)
 let y3:=(p1,p0,(len v9),())
 let x3:=(v9,(0:Int),())
 (((0 ≤ (16:Int) ∧ (16:Int) ≤ (16:Int) ∧ (16:Int) ≤ 4294967296) ∧ (Am.Ends (vG9 y3) (wG7 y3) (wW7 y3) x3)),(vO3 y3 (zB9 (vG9 y3) (wG7 y3) x3)))
def vO4 (p0:D94) (p1:Int):Prop:=(pD0 p0 p1).1
def f164 (p0:D94) (p1:Int):(List D94):=(pD0 p0 p1).2
instance (p0:D94) (p1:Int):Decidable (vO4 p0 p1):=by
 unfold vO4 pD0
 try dsimp only
 infer_instance
def uE6:Am.Spec:=fnSpec [(0,(.val T94)),(1,vI)] (.own T94 0 true) [] (fun x=>vO4 x.1 x.2.1) (fun x=>f164 x.1 x.2.1) (fun _=>())
def rL6:Ctx:=Cx tys [(97,wK8),(149,vG7),(174,sO1)] [(3,uT8)] [(3,[(4,0,9,1005)]),(17,[(4,0,1005,0)])] true 37 [] [9]
theorem rL7:CtxOk Tryz.prog rL6:=xV6 tys_ok rfl ⟨vM2,tH3,oH4,trivial⟩ rfl (by kernel_rfl)
noncomputable def qG5:Code:=Tryz.f164.body.getD .skip
noncomputable def qG6:Code:=xW5 qG5 0
theorem rW1:yU1 Tryz.prog rL6 qG6:=xX3 rL7 mixed (sp:=uT8) rfl [[(5,(.own T94 1005 true))]] (bs:=[]) (by kernel_rfl) trivial (by kernel_rfl) (by kernel_rfl) fun y x=>by kernel_rfl
theorem sY7:SpecOk Tryz.prog 164 uE6:=xX4 rL7 mixed Tryz.func164 (by kernel_rfl) (bs:=[qG6]) (by kernel_rfl) ⟨rW1,trivial⟩ fun x=>by kernel_rfl
def uE7 (p0:(Int × Int × Int × (List (List D94)) × Int × Unit)) (p1:(List D94)):Prop × (Unit) × ((Int × Int × Int × (List (List D94)) × Int × Unit) × Unit) :=
 let v6:=(f165 p1)
 let v8:=(v6 == 0)
 let v10:=(decide (v6 < 0))
 let m1:=(bif v10 then (rL5 p1).1 else p1)
 let v19:=([m1]:List (List D94))
 let s:=((bif v8 then p0.1 else p0.1),(bif v8 then p0.2.1 else p0.2.1),(bif v8 then p0.2.2.1 else p0.2.2.1),(bif v8 then p0.2.2.2.1 else (p0.2.2.2.1 ++ v19)),(bif v8 then p0.2.2.2.2.1 else (IntKind.wrap .i64 (p0.2.2.2.2.1 + (len m1)))),())
 (((tH2 p1) ∧ ((!v8) = true → ((v10 = true → ((sY6 p1) ∧ (0 < List.length p1 ∧ (List.length p1 = List.length p1 ∧ (List.length p1 = List.length p1 ∧ List.length p1 = List.length p1))))) ∧ ((List.length p0.2.2.2.1 + List.length v19:Nat):Int) ≤ 4294967296))),(),(s,()))
def xY4 (p0:(Int × Int × Int × (List (List D94)) × Int × Unit)) (p1:(List D94)):Prop:=(uE7 p0 p1).1
def oH5 (p0:(Int × Int × Int × (List (List D94)) × Int × Unit)) (p1:(List D94)):(Unit):=(uE7 p0 p1).2.1
def xY (p0:(Int × Int × Int × (List (List D94)) × Int × Unit)) (p1:(List D94)):((Int × Int × Int × (List (List D94)) × Int × Unit) × Unit):=(uE7 p0 p1).2.2
instance (p0:(Int × Int × Int × (List (List D94)) × Int × Unit)) (p1:(List D94)):Decidable (xY4 p0 p1):=by
 unfold xY4 uE7
 try dsimp only
 infer_instance
def wS4:Am.Spec:=fnSpec [(0,(.box T171 (.agg (.cons (.int .i64) (.cons (.int .i64) (.cons (.int .i64) (.cons (.sl (.sl T94)) (.cons (.int .i64) .nl))))) (.cons vI (.cons vI (.cons vI (.cons (.own (.sl T94) 400000 false) (.cons vI .nl)))))))),(1,(.own T94 400100 true))] (.tup .nl) [(0,(.box T171 (.agg (.cons (.int .i64) (.cons (.int .i64) (.cons (.int .i64) (.cons (.sl (.sl T94)) (.cons (.int .i64) .nl))))) (.cons vI (.cons vI (.cons vI (.cons (.own (.sl T94) 400000 false) (.cons vI .nl))))))))] (fun x=>xY4 x.1 x.2.1) (fun x=>oH5 x.1 x.2.1) (fun x=>xY x.1 x.2.1)
def sY8:Ctx:={ Cx tys [(165,sN8),(166,sN9)] [] [(8,[(1,1,0,0)]),(9,[(4,0,20,400000)])] true 32 [0] [] with wants:=[(166,[0])] }
theorem sY9:CtxOk Tryz.prog sY8:=xV6 tys_ok rfl ⟨oG5,oG9,trivial⟩ rfl (by kernel_rfl)
theorem vT1:SpecOk Tryz.prog 148 wS4:=xX4 sY9 mixed Tryz.func148 (by kernel_rfl) (bs:=[]) (by kernel_rfl) trivial fun x=>by kernel_rfl
def uE8 (p0:(Int × Int × Int × (List (List D94)) × Int × Unit)) (p1:D94):Prop × (Unit) × ((Int × Int × Int × (List (List D94)) × Int × Unit) × Unit) :=
 let v10:=(p0.2.2.1 == 1)
 let v17:=(f164 p1 p0.1)
 let s_1:=(p0.1,p0.2.1,p0.2.2.1,p0.2.2.2.1,p0.2.2.2.2.1,())
 let v18o:=(xY s_1 v17)
 let v20:=(p0.2.2.1 == 2)
 let v25:=(f97 p0.1 (2:Int))
 let s_2:=((IntKind.wrap .i64 (Int.sub 0 v25)),(IntKind.wrap .i64 (Int.sub 0 v25)),())
 let s_3:=(v25,(IntKind.wrap .i64 (Int.sub 0 v25)),())
 let s_4:=(v25,v25,())
 let s_5:=((IntKind.wrap .i64 (Int.sub 0 v25)),v25,())
 let v51:=([(f149 p1 s_2),(f149 p1 s_3),(f149 p1 s_4),(f149 p1 s_5)]:List D94)
 let s_7:=(p0.1,p0.2.1,p0.2.2.1,p0.2.2.2.1,p0.2.2.2.2.1,())
 let v52o:=(xY s_7 v51)
 let s_8:=((bif v10 then v18o.1.1 else (bif v20 then v52o.1.1 else p0.1)),(bif v10 then v18o.1.2.1 else (bif v20 then v52o.1.2.1 else p0.2.1)),(bif v10 then v18o.1.2.2.1 else (bif v20 then v52o.1.2.2.1 else p0.2.2.1)),(bif v10 then v18o.1.2.2.2.1 else (bif v20 then v52o.1.2.2.2.1 else p0.2.2.2.1)),(bif v10 then v18o.1.2.2.2.2.1 else (bif v20 then v52o.1.2.2.2.2.1 else p0.2.2.2.2.1)),())
 (((v10 = true → ((vO4 p1 p0.1) ∧ (xY4 s_1 v17))) ∧ (v10 = false → (v20 = true → ((wC6 p0.1 (2:Int)) ∧ ((wC p1 s_2) ∧ ((wC p1 s_3) ∧ ((wC p1 s_4) ∧ ((wC p1 s_5) ∧ (xY4 s_7 v51))))))))),(),(s_8,()))
def vH (p0:(Int × Int × Int × (List (List D94)) × Int × Unit)) (p1:D94):Prop:=(uE8 p0 p1).1
def oH6 (p0:(Int × Int × Int × (List (List D94)) × Int × Unit)) (p1:D94):(Unit):=(uE8 p0 p1).2.1
def uE9 (p0:(Int × Int × Int × (List (List D94)) × Int × Unit)) (p1:D94):((Int × Int × Int × (List (List D94)) × Int × Unit) × Unit):=(uE8 p0 p1).2.2
instance (p0:(Int × Int × Int × (List (List D94)) × Int × Unit)) (p1:D94):Decidable (vH p0 p1):=by
 unfold vH uE8
 try dsimp only
 infer_instance
def uT9:Am.Spec:=fnSpec [(0,(.box T171 (.agg (.cons (.int .i64) (.cons (.int .i64) (.cons (.int .i64) (.cons (.sl (.sl T94)) (.cons (.int .i64) .nl))))) (.cons vI (.cons vI (.cons vI (.cons (.own (.sl T94) 400000 false) (.cons vI .nl)))))))),(1,(.val T94))] (.tup .nl) [(0,(.box T171 (.agg (.cons (.int .i64) (.cons (.int .i64) (.cons (.int .i64) (.cons (.sl (.sl T94)) (.cons (.int .i64) .nl))))) (.cons vI (.cons vI (.cons vI (.cons (.own (.sl T94) 400000 false) (.cons vI .nl))))))))] (fun x=>vH x.1 x.2.1) (fun x=>oH6 x.1 x.2.1) (fun x=>uE9 x.1 x.2.1)
def sZ:Ctx:={ Cx tys [(97,wK8),(148,wS4),(149,vG7),(164,uE6)] [] [] true 53 [0] [51] with wants:=[(148,[1])] }
theorem sZ0:CtxOk Tryz.prog sZ:=xV6 tys_ok rfl ⟨vM2,vT1,tH3,sY7,trivial⟩ rfl (by kernel_rfl)
theorem rW2:SpecOk Tryz.prog 147 uT9:=xX4 sZ0 mixed Tryz.func147 (by kernel_rfl) (bs:=[]) (by kernel_rfl) trivial fun x=>by kernel_rfl
def uF (p0:(Int × Int × Int × (List (List D94)) × Int × Unit)) (p1:D197) (p2:D197):Prop × (Unit) × ((Int × Int × Int × (List (List D94)) × Int × Unit) × Unit) :=
 let v23:=(p0.2.1 == 1)
 let v30:=(f164 p2.1 p0.1)
 let s_1:=(p0.1,p0.2.1,p0.2.2.1,p0.2.2.2.1,p0.2.2.2.2.1,())
 let v31o:=(xY s_1 v30)
 let v40:=([p2.1,(f149 p2.1 p1.2.2.2.1),(f149 p2.1 p2.2.2.2.1)]:List D94)
 let s_3:=(p0.1,p0.2.1,p0.2.2.1,p0.2.2.2.1,p0.2.2.2.2.1,())
 let v41o:=(xY s_3 v40)
 let v50:=([p2.1,(f150 p2.1 p1.2.2.2.1),(f150 p2.1 p2.2.2.2.1)]:List D94)
 let s_5:=(v41o.1.1,v41o.1.2.1,v41o.1.2.2.1,v41o.1.2.2.2.1,v41o.1.2.2.2.2.1,())
 let v51o:=(xY s_5 v50)
 let v66:=(IntKind.wrap .i64 ((IntKind.wrap .i64 (p1.2.2.1.1 * p2.2.2.1.2.1)) - (IntKind.wrap .i64 (p1.2.2.1.2.1 * p2.2.2.1.1))))
 let v75:=(IntKind.wrap .i64 (v51o.1.1 * v51o.1.1))
 let v89:=(IntKind.wrap .i64 (v75 + (IntKind.wrap .i64 (4 * (IntKind.wrap .i64 ((IntKind.wrap .i64 (p1.2.2.2.1.1 * p2.2.2.2.1.1)) + (IntKind.wrap .i64 (p1.2.2.2.1.2.1 * p2.2.2.2.1.2.1))))))))
 let v102:=(bif (bif (v51o.1.2.1 == 2) then true else (v66 == 0)) then true else (decide (v89 ≤ 0)))
 let v109:=(IntKind.wrap .i64 (v75 * (IntKind.wrap .i64 (p1.2.2.2.1.1 + p2.2.2.2.1.1))))
 let v111:=(f97 v109 v89)
 let v118:=(IntKind.wrap .i64 (v75 * (IntKind.wrap .i64 (p1.2.2.2.1.2.1 + p2.2.2.2.1.2.1))))
 let v120:=(f97 v118 v89)
 let s_6:=(v111,v120,())
 let v132:=(decide ((f167 v111 v120) > (IntKind.wrap .i64 (4 * v51o.1.1))))
 let v134:=(decide (v66 > 0))
 let v146:=([p2.1,(f150 p2.1 p1.2.2.2.1),(f150 p2.1 s_6),(f150 p2.1 p2.2.2.2.1)]:List D94)
 let s_8:=(v51o.1.1,v51o.1.2.1,v51o.1.2.2.1,v51o.1.2.2.2.1,v51o.1.2.2.2.2.1,())
 let v147o:=(xY s_8 v146)
 let v159:=([p2.1,(f149 p2.1 p1.2.2.2.1),(f149 p2.1 s_6),(f149 p2.1 p2.2.2.2.1)]:List D94)
 let s_10:=(v51o.1.1,v51o.1.2.1,v51o.1.2.2.1,v51o.1.2.2.2.1,v51o.1.2.2.2.2.1,())
 let v160o:=(xY s_10 v159)
 let c_5:=(v23 || ((!v23) && (v102 || ((!v102) && v132))))
 let s_11:=((bif c_5 then (bif v23 then v31o.1.1 else v51o.1.1) else (bif v134 then v147o.1.1 else v160o.1.1)),(bif c_5 then (bif v23 then v31o.1.2.1 else v51o.1.2.1) else (bif v134 then v147o.1.2.1 else v160o.1.2.1)),(bif c_5 then (bif v23 then v31o.1.2.2.1 else v51o.1.2.2.1) else (bif v134 then v147o.1.2.2.1 else v160o.1.2.2.1)),(bif c_5 then (bif v23 then v31o.1.2.2.2.1 else v51o.1.2.2.2.1) else (bif v134 then v147o.1.2.2.2.1 else v160o.1.2.2.2.1)),(bif c_5 then (bif v23 then v31o.1.2.2.2.2.1 else v51o.1.2.2.2.2.1) else (bif v134 then v147o.1.2.2.2.2.1 else v160o.1.2.2.2.2.1)),())
 (((v23 = true → ((vO4 p2.1 p0.1) ∧ (xY4 s_1 v30))) ∧ ((!v23) = true → ((wC p2.1 p1.2.2.2.1) ∧ ((wC p2.1 p2.2.2.2.1) ∧ ((xY4 s_3 v40) ∧ ((wG5 p2.1 p1.2.2.2.1) ∧ ((wG5 p2.1 p2.2.2.2.1) ∧ ((xY4 s_5 v50) ∧ ((!v102) = true → ((wC6 v109 v89) ∧ ((wC6 v118 v89) ∧ ((uN5 v111 v120) ∧ ((!v132) = true → ((v134 = true → ((wG5 p2.1 p1.2.2.2.1) ∧ ((wG5 p2.1 s_6) ∧ ((wG5 p2.1 p2.2.2.2.1) ∧ (xY4 s_8 v146))))) ∧ (v134 = false → ((wC p2.1 p1.2.2.2.1) ∧ ((wC p2.1 s_6) ∧ ((wC p2.1 p2.2.2.2.1) ∧ (xY4 s_10 v159))))))))))))))))))),(),(s_11,()))
def wL6 (p0:(Int × Int × Int × (List (List D94)) × Int × Unit)) (p1:D197) (p2:D197):Prop:=(uF p0 p1 p2).1
def oH7 (p0:(Int × Int × Int × (List (List D94)) × Int × Unit)) (p1:D197) (p2:D197):(Unit):=(uF p0 p1 p2).2.1
def wM9 (p0:(Int × Int × Int × (List (List D94)) × Int × Unit)) (p1:D197) (p2:D197):((Int × Int × Int × (List (List D94)) × Int × Unit) × Unit):=(uF p0 p1 p2).2.2
instance (p0:(Int × Int × Int × (List (List D94)) × Int × Unit)) (p1:D197) (p2:D197):Decidable (wL6 p0 p1 p2):=by
 unfold wL6 uF
 try dsimp only
 infer_instance
def uU:Am.Spec:=fnSpec [(0,(.box T171 (.agg (.cons (.int .i64) (.cons (.int .i64) (.cons (.int .i64) (.cons (.sl (.sl T94)) (.cons (.int .i64) .nl))))) (.cons vI (.cons vI (.cons vI (.cons (.own (.sl T94) 400000 false) (.cons vI .nl)))))))),(1,(.val T197)),(2,(.val T197))] (.tup .nl) [(0,(.box T171 (.agg (.cons (.int .i64) (.cons (.int .i64) (.cons (.int .i64) (.cons (.sl (.sl T94)) (.cons (.int .i64) .nl))))) (.cons vI (.cons vI (.cons vI (.cons (.own (.sl T94) 400000 false) (.cons vI .nl))))))))] (fun x=>wL6 x.1 x.2.1 x.2.2.1) (fun x=>oH7 x.1 x.2.1 x.2.2.1) (fun x=>wM9 x.1 x.2.1 x.2.2.1)
def sZ1:Ctx:={ Cx tys [(97,wK8),(148,wS4),(149,vG7),(150,vO),(164,uE6),(167,tH)] [] [] true 161 [0] [40,50,146,159] with wants:=[(148,[1])] }
theorem sZ2:CtxOk Tryz.prog sZ1:=xV6 tys_ok rfl ⟨vM2,vT1,tH3,sC7,sY7,qG0,trivial⟩ rfl (by kernel_rfl)
theorem rW3:SpecOk Tryz.prog 151 uU:=xX4 sZ2 mixed Tryz.func151 (by kernel_rfl) (bs:=[]) (by kernel_rfl) trivial fun x=>by kernel_rfl
def uF0 (p0:(Int × Int × Int × (List (List D94)) × Int × Unit)) (p1:D197) (p2:D197):Prop × (Unit) × ((Int × Int × Int × (List (List D94)) × Int × Unit) × Unit) :=
 let v12:=(p0.2.2.1 == 1)
 let v20:=(f164 p1.1 p0.1)
 let s_1:=(p0.1,p0.2.1,p0.2.2.1,p0.2.2.2.1,p0.2.2.2.2.1,())
 let v21o:=(xY s_1 v20)
 let v29:=(f164 p2.2.1 v21o.1.1)
 let s_3:=(v21o.1.1,v21o.1.2.1,v21o.1.2.2.1,v21o.1.2.2.2.1,v21o.1.2.2.2.2.1,())
 let v30o:=(xY s_3 v29)
 let v32:=(p0.2.2.1 == 2)
 let v37:=(f150 p1.1 p1.2.2.2.2.1)
 let v57:=([(f149 v37 p1.2.2.2.1),(f149 p1.1 p1.2.2.2.1),(f150 p1.1 p1.2.2.2.1),(f150 v37 p1.2.2.2.1)]:List D94)
 let s_5:=(p0.1,p0.2.1,p0.2.2.1,p0.2.2.2.1,p0.2.2.2.2.1,())
 let v58o:=(xY s_5 v57)
 let v63:=(f149 p2.2.1 p2.2.2.2.2.1)
 let v83:=([(f149 p2.2.1 p2.2.2.2.1),(f149 v63 p2.2.2.2.1),(f150 v63 p2.2.2.2.1),(f150 p2.2.1 p2.2.2.2.1)]:List D94)
 let s_7:=(v58o.1.1,v58o.1.2.1,v58o.1.2.2.1,v58o.1.2.2.2.1,v58o.1.2.2.2.2.1,())
 let v84o:=(xY s_7 v83)
 let s_8:=((bif v12 then v30o.1.1 else (bif v32 then v84o.1.1 else p0.1)),(bif v12 then v30o.1.2.1 else (bif v32 then v84o.1.2.1 else p0.2.1)),(bif v12 then v30o.1.2.2.1 else (bif v32 then v84o.1.2.2.1 else p0.2.2.1)),(bif v12 then v30o.1.2.2.2.1 else (bif v32 then v84o.1.2.2.2.1 else p0.2.2.2.1)),(bif v12 then v30o.1.2.2.2.2.1 else (bif v32 then v84o.1.2.2.2.2.1 else p0.2.2.2.2.1)),())
 (((v12 = true → ((vO4 p1.1 p0.1) ∧ ((xY4 s_1 v20) ∧ ((vO4 p2.2.1 v21o.1.1) ∧ (xY4 s_3 v29))))) ∧ (v12 = false → (v32 = true → ((wG5 p1.1 p1.2.2.2.2.1) ∧ ((wC v37 p1.2.2.2.1) ∧ ((wC p1.1 p1.2.2.2.1) ∧ ((wG5 p1.1 p1.2.2.2.1) ∧ ((wG5 v37 p1.2.2.2.1) ∧ ((xY4 s_5 v57) ∧ ((wC p2.2.1 p2.2.2.2.2.1) ∧ ((wC p2.2.1 p2.2.2.2.1) ∧ ((wC v63 p2.2.2.2.1) ∧ ((wG5 v63 p2.2.2.2.1) ∧ ((wG5 p2.2.1 p2.2.2.2.1) ∧ (xY4 s_7 v83))))))))))))))),(),(s_8,()))
def wW8 (p0:(Int × Int × Int × (List (List D94)) × Int × Unit)) (p1:D197) (p2:D197):Prop:=(uF0 p0 p1 p2).1
def oH8 (p0:(Int × Int × Int × (List (List D94)) × Int × Unit)) (p1:D197) (p2:D197):(Unit):=(uF0 p0 p1 p2).2.1
def uF1 (p0:(Int × Int × Int × (List (List D94)) × Int × Unit)) (p1:D197) (p2:D197):((Int × Int × Int × (List (List D94)) × Int × Unit) × Unit):=(uF0 p0 p1 p2).2.2
instance (p0:(Int × Int × Int × (List (List D94)) × Int × Unit)) (p1:D197) (p2:D197):Decidable (wW8 p0 p1 p2):=by
 unfold wW8 uF0
 try dsimp only
 infer_instance
def uU0:Am.Spec:=fnSpec [(0,(.box T171 (.agg (.cons (.int .i64) (.cons (.int .i64) (.cons (.int .i64) (.cons (.sl (.sl T94)) (.cons (.int .i64) .nl))))) (.cons vI (.cons vI (.cons vI (.cons (.own (.sl T94) 400000 false) (.cons vI .nl)))))))),(1,(.val T197)),(2,(.val T197))] (.tup .nl) [(0,(.box T171 (.agg (.cons (.int .i64) (.cons (.int .i64) (.cons (.int .i64) (.cons (.sl (.sl T94)) (.cons (.int .i64) .nl))))) (.cons vI (.cons vI (.cons vI (.cons (.own (.sl T94) 400000 false) (.cons vI .nl))))))))] (fun x=>wW8 x.1 x.2.1 x.2.2.1) (fun x=>oH8 x.1 x.2.1 x.2.2.1) (fun x=>uF1 x.1 x.2.1 x.2.2.1)
def sZ3:Ctx:={ Cx tys [(148,wS4),(149,vG7),(150,vO),(164,uE6)] [] [] true 85 [0] [57,83] with wants:=[(148,[1])] }
theorem sZ4:CtxOk Tryz.prog sZ3:=xV6 tys_ok rfl ⟨vT1,tH3,sC7,sY7,trivial⟩ rfl (by kernel_rfl)
theorem rW4:SpecOk Tryz.prog 152 uU0:=xX4 sZ4 mixed Tryz.func152 (by kernel_rfl) (bs:=[]) (by kernel_rfl) trivial fun x=>by kernel_rfl
abbrev wL7:Type:=(Bool × (List D197) × (List D197) × Int × Unit)
abbrev wB5:Type:=((Int × Int × Int × (List (List D94)) × Int × Unit) × Int × Unit)
def vK (y:wL7) (x:wB5):Prop × Bool × wB5 :=
 let a32:=y.2.2.1
 let a0:=x.1
 let a34:=x.2.1
 let v35:=(decide (a34 < y.2.2.2.1))
 let v36:=(nth a32 a34 Z197)
 let v59:=([(f149 v36.1 v36.2.2.2.1),(f149 v36.2.1 v36.2.2.2.1),(f150 v36.2.1 v36.2.2.2.1),(f150 v36.1 v36.2.2.2.1)]:List D94)
 let s_1:=(a0.1,a0.2.1,a0.2.2.1,a0.2.2.2.1,a0.2.2.2.2.1,())
 let v60o:=(xY s_1 v59)
 ((v35 = true → (InB a34 (len a32) ∧ ((wC v36.1 v36.2.2.2.1) ∧ ((wC v36.2.1 v36.2.2.2.1) ∧ ((wG5 v36.2.1 v36.2.2.2.1) ∧ ((wG5 v36.1 v36.2.2.2.1) ∧ ((xY4 s_1 v59) ∧ InR (a34 + 1)))))))),v35,((v60o.1.1,v60o.1.2.1,v60o.1.2.2.1,v60o.1.2.2.2.1,v60o.1.2.2.2.2.1,()),(a34 + 1),()))
def wI0 (y:wL7) (x:wB5):Prop:=(vK y x).1
def wG8 (y:wL7) (x:wB5):Bool:=(vK y x).2.1
def wB0 (y:wL7) (x:wB5):wB5:=(vK y x).2.2
instance (y:wL7) (x:wB5):Decidable (wI0 y x):=by
 unfold wI0 vK
 try dsimp only
 infer_instance
def wZ (y:wL7) (x:wB5):(Int × Int × Int × (List (List D94)) × Int × Unit) :=
 let a0:=x.1
 (a0.1,a0.2.1,a0.2.2.1,a0.2.2.2.1,a0.2.2.2.2.1,())
def uF2:List (Nat × Sh):=[(0,(.box T171 (.agg (.cons (.int .i64) (.cons (.int .i64) (.cons (.int .i64) (.cons (.sl (.sl T94)) (.cons (.int .i64) .nl))))) (.cons vI (.cons vI (.cons vI (.cons (.own (.sl T94) 400000 false) (.cons vI .nl)))))))),(2,vB),(7,(.own T197 1007 false))]
def vO5:St → Option Out:=xO8 [(2,vB),(7,(.own T197 1007 false)),(32,(.own T197 1007 false)),(33,vI)] [(0,(.box T171 (.agg (.cons (.int .i64) (.cons (.int .i64) (.cons (.int .i64) (.cons (.sl (.sl T94)) (.cons (.int .i64) .nl))))) (.cons vI (.cons vI (.cons vI (.cons (.own (.sl T94) 400000 false) (.cons vI .nl)))))))),(34,vI)] wG8 wB0 wI0 fun y x=>[ex 2 none uF2 ((wZ y x),y.1,y.2.1,())]
abbrev wI1:Type:=(Bool × (List D197) × Unit)
abbrev wA6:Type:=((Int × Int × Int × (List (List D94)) × Int × Unit) × Int × Unit)
def vB8 (y:wI1) (x:wA6):Prop × Bool × wA6 :=
 let a7:=y.2.1
 let a0:=x.1
 let a10:=x.2.1
 let v78:=(decide (a10 < (len a7)))
 let v84:=(a10 - 1)
 let v85:=(nth a7 v84 Z197)
 let v89:=(nth a7 a10 Z197)
 let s_1:=(a0.1,a0.2.1,a0.2.2.1,a0.2.2.2.1,a0.2.2.2.2.1,())
 let v91o:=(wM9 s_1 v85 v89)
 ((v78 = true → (InR (a10 - 1) ∧ (InB v84 (len a7) ∧ (InB a10 (len a7) ∧ ((wL6 s_1 v85 v89) ∧ InR (a10 + 1)))))),v78,((v91o.1.1,v91o.1.2.1,v91o.1.2.2.1,v91o.1.2.2.2.1,v91o.1.2.2.2.2.1,()),(a10 + 1),()))
def wF1 (y:wI1) (x:wA6):Prop:=(vB8 y x).1
def wB6 (y:wI1) (x:wA6):Bool:=(vB8 y x).2.1
def xZ8 (y:wI1) (x:wA6):wA6:=(vB8 y x).2.2
instance (y:wI1) (x:wA6):Decidable (wF1 y x):=by
 unfold wF1 vB8
 try dsimp only
 infer_instance
def wU2 (y:wI1) (x:wA6):(Int × Int × Int × (List (List D94)) × Int × Unit) :=
 let a0:=x.1
 (a0.1,a0.2.1,a0.2.2.1,a0.2.2.2.1,a0.2.2.2.2.1,())
def vX2:List (Nat × Sh):=[(0,(.box T171 (.agg (.cons (.int .i64) (.cons (.int .i64) (.cons (.int .i64) (.cons (.sl (.sl T94)) (.cons (.int .i64) .nl))))) (.cons vI (.cons vI (.cons vI (.cons (.own (.sl T94) 400000 false) (.cons vI .nl)))))))),(2,vB),(7,(.own T197 1007 false))]
def vM1:St → Option Out:=xO8 [(2,vB),(7,(.own T197 1007 false))] [(0,(.box T171 (.agg (.cons (.int .i64) (.cons (.int .i64) (.cons (.int .i64) (.cons (.sl (.sl T94)) (.cons (.int .i64) .nl))))) (.cons vI (.cons vI (.cons vI (.cons (.own (.sl T94) 400000 false) (.cons vI .nl)))))))),(10,vI)] wB6 xZ8 wF1 fun y x=>[ex 4 none vX2 ((wU2 y x),y.1,y.2.1,())]
def uF3 (p0:(Int × Int × Int × (List (List D94)) × Int × Unit)) (p1:(List D94)) (p2:Bool):Prop × (Unit) × ((Int × Int × Int × (List (List D94)) × Int × Unit) × Unit) :=
 let v13:=(f145 p1 p2)
 let v20:=(f146 v13 p2 p0.1)
 let v23:=((len v20) == 0)
 let v26:=((len v13) == 1)
 let v29:=(nth v13 (0:Int) Z94)
 let s_1:=(p0.1,p0.2.1,p0.2.2.1,p0.2.2.2.1,p0.2.2.2.2.1,())
 let v31o:=(uE9 s_1 v29)
 let y6:=(p2,v20,v20,(len v20),())
 let x6:=((p0.1,p0.2.1,p0.2.2.1,p0.2.2.2.1,p0.2.2.2.2.1,()),(0:Int),())
 let r6_2_0:=(wZ y6 (zB9 (wG8 y6) (wB0 y6) x6))
 let v63:=(!p2)
 let v67:=(len v20)
 let v68:=(v67 - 1)
 let v69:=(nth v20 v68 Z197)
 let v72:=(nth v20 (0:Int) Z197)
 let s_4:=(r6_2_0.1,r6_2_0.2.1,r6_2_0.2.2.1,r6_2_0.2.2.2.1,r6_2_0.2.2.2.2.1,())
 let v74o:=(wM9 s_4 v69 v72)
 let s_5:=((bif v63 then v74o.1.1 else r6_2_0.1),(bif v63 then v74o.1.2.1 else r6_2_0.2.1),(bif v63 then v74o.1.2.2.1 else r6_2_0.2.2.1),(bif v63 then v74o.1.2.2.2.1 else r6_2_0.2.2.2.1),(bif v63 then v74o.1.2.2.2.2.1 else r6_2_0.2.2.2.2.1),())
 let y13:=(p2,v20,())
 let x13:=(s_5,(1:Int),())
 let r13_4_0:=(wU2 y13 (zB9 (wB6 y13) (xZ8 y13) x13))
 let v95:=(nth v20 (0:Int) Z197)
 let v99:=(len v20)
 let v100:=(v99 - 1)
 let v101:=(nth v20 v100 Z197)
 let s_7:=(r13_4_0.1,r13_4_0.2.1,r13_4_0.2.2.1,r13_4_0.2.2.2.1,r13_4_0.2.2.2.2.1,())
 let v103o:=(uF1 s_7 v95 v101)
 let s_8:=((bif v23 then (bif v26 then v31o.1.1 else p0.1) else (bif p2 then v103o.1.1 else r13_4_0.1)),(bif v23 then (bif v26 then v31o.1.2.1 else p0.2.1) else (bif p2 then v103o.1.2.1 else r13_4_0.2.1)),(bif v23 then (bif v26 then v31o.1.2.2.1 else p0.2.2.1) else (bif p2 then v103o.1.2.2.1 else r13_4_0.2.2.1)),(bif v23 then (bif v26 then v31o.1.2.2.2.1 else p0.2.2.2.1) else (bif p2 then v103o.1.2.2.2.1 else r13_4_0.2.2.2.1)),(bif v23 then (bif v26 then v31o.1.2.2.2.2.1 else p0.2.2.2.2.1) else (bif p2 then v103o.1.2.2.2.2.1 else r13_4_0.2.2.2.2.1)),())
 (((tG9 p1 p2) ∧ ((tH0 v13 p2 p0.1) ∧ ((v23 = true → (v26 = true → (InB (0:Int) (len v13) ∧ (vH s_1 v29)))) ∧ ((!v23) = true → ((Am.Ends (wG8 y6) (wB0 y6) (wI0 y6) x6) ∧ ((v63 = true → (InR (v67 - 1) ∧ (InB v68 (len v20) ∧ (InB (0:Int) (len v20) ∧ (wL6 s_4 v69 v72))))) ∧ ((Am.Ends (wB6 y13) (xZ8 y13) (wF1 y13) x13) ∧ (p2 = true → (InB (0:Int) (len v20) ∧ (InR (v99 - 1) ∧ (InB v100 (len v20) ∧ (wW8 s_7 v95 v101)))))))))))),(),(s_8,()))
def wN9 (p0:(Int × Int × Int × (List (List D94)) × Int × Unit)) (p1:(List D94)) (p2:Bool):Prop:=(uF3 p0 p1 p2).1
def oH9 (p0:(Int × Int × Int × (List (List D94)) × Int × Unit)) (p1:(List D94)) (p2:Bool):(Unit):=(uF3 p0 p1 p2).2.1
def vH0 (p0:(Int × Int × Int × (List (List D94)) × Int × Unit)) (p1:(List D94)) (p2:Bool):((Int × Int × Int × (List (List D94)) × Int × Unit) × Unit):=(uF3 p0 p1 p2).2.2
instance (p0:(Int × Int × Int × (List (List D94)) × Int × Unit)) (p1:(List D94)) (p2:Bool):Decidable (wN9 p0 p1 p2):=by
 unfold wN9 uF3
 try dsimp only
 infer_instance
def uU1:Am.Spec:=fnSpec [(0,(.box T171 (.agg (.cons (.int .i64) (.cons (.int .i64) (.cons (.int .i64) (.cons (.sl (.sl T94)) (.cons (.int .i64) .nl))))) (.cons vI (.cons vI (.cons vI (.cons (.own (.sl T94) 400000 false) (.cons vI .nl)))))))),(1,(.val (.sl T94))),(2,vB)] (.tup .nl) [(0,(.box T171 (.agg (.cons (.int .i64) (.cons (.int .i64) (.cons (.int .i64) (.cons (.sl (.sl T94)) (.cons (.int .i64) .nl))))) (.cons vI (.cons vI (.cons vI (.cons (.own (.sl T94) 400000 false) (.cons vI .nl))))))))] (fun x=>wN9 x.1 x.2.1 x.2.2.1) (fun x=>oH9 x.1 x.2.1 x.2.2.1) (fun x=>vH0 x.1 x.2.1 x.2.2.1)
def vZ4:Ctx:={ Cx tys [(145,sN2),(146,sN7),(147,uT9),(148,wS4),(149,vG7),(150,vO),(151,uU),(152,uU0)] [(6,vO5),(13,vM1)] [(3,[(4,0,20,1007)])] false 104 [0] [59] with wants:=[(147,[]),(148,[1]),(151,[]),(152,[])] }
theorem vZ5:CtxOk Tryz.prog vZ4:=xV6 tys_ok rfl ⟨oF5,oG3,rW2,vT1,tH3,sC7,rW3,rW4,trivial⟩ rfl (by kernel_rfl)
noncomputable def uU2:Code:=Tryz.f134.body.getD .skip
noncomputable def tV3:Code:=xW5 uU2 0
theorem sC8:yU1 Tryz.prog vZ4 tV3:=xX3 vZ5 mixed (sp:=vO5) rfl [uF2] (bs:=[]) (by kernel_rfl) trivial (by kernel_rfl) (by kernel_rfl) fun y x=>by kernel_rfl
noncomputable def tH5:Code:=xW5 uU2 1
theorem tT1:yU1 Tryz.prog vZ4 tH5:=xX3 vZ5 mixed (sp:=vM1) rfl [vX2] (bs:=[]) (by kernel_rfl) trivial (by kernel_rfl) (by kernel_rfl) fun y x=>by kernel_rfl
theorem rW5:SpecOk Tryz.prog 134 uU1:=xX4 vZ5 mixed Tryz.func134 (by kernel_rfl) (bs:=[tV3,tH5]) (by kernel_rfl) ⟨sC8,tT1,trivial⟩ fun x=>by kernel_rfl
abbrev wF2:Type:=((List Bool) × Unit × (List (List D94)) × Int × Unit)
abbrev wA8:Type:=((Int × Int × Int × (List (List D94)) × Int × Unit) × Int × Unit)
def vH1 (y:wF2) (x:wA8):Prop × Bool × wA8 × Bool × Bool :=
 let a1:=y.1
 let a39:=y.2.2.1
 let a38:=x.1
 let a41:=x.2.1
 let v42:=(decide (a41 < y.2.2.2.1))
 let v44:=(nth a39 a41 ([]:List D94))
 let v50:=(nth a1 a41 false)
 let s_1:=(a38.1,a38.2.1,a38.2.2.1,a38.2.2.2.1,a38.2.2.2.2.1,())
 let v52o:=(vH0 s_1 v44 v50)
 let v57:=(decide (v52o.1.2.2.2.2.1 > 4096))
 ((v42 = true → (InB a41 (len a39) ∧ (InB a41 (len a1) ∧ ((wN9 s_1 v44 v50) ∧ ((!v57) = true → InR (a41 + 1)))))),(v42 && (!v57)),((v52o.1.1,v52o.1.2.1,v52o.1.2.2.1,v52o.1.2.2.2.1,v52o.1.2.2.2.2.1,()),(a41 + 1),()),(v42 && v57),(!v42))
def wO (y:wF2) (x:wA8):Prop:=(vH1 y x).1
def wW9 (y:wF2) (x:wA8):Bool:=(vH1 y x).2.1
def wI2 (y:wF2) (x:wA8):wA8:=(vH1 y x).2.2.1
def vZ6 (y:wF2) (x:wA8):Bool:=(vH1 y x).2.2.2.1
def sZ5 (y:wF2) (x:wA8):Bool:=(vH1 y x).2.2.2.2
instance (y:wF2) (x:wA8):Decidable (wO y x):=by
 unfold wO vH1
 try dsimp only
 infer_instance
def vK0 (y:wF2) (x:wA8):(List (List D94)) :=
 ([]:List (List D94))
def uF4 (y:wF2) (x:wA8):Int :=
 (3:Int)
def tH6:List (Nat × Sh):=[(10,(.own (.sl T94) 0 false)),(11,vI)]
def vK1 (y:wF2) (x:wA8):(Int × Int × Int × (List (List D94)) × Int × Unit) :=
 let a38:=x.1
 (a38.1,a38.2.1,a38.2.2.1,a38.2.2.2.1,a38.2.2.2.2.1,())
def tH7:List (Nat × Sh):=[(14,(.ref 38 T171)),(38,(.box T171 (.agg (.cons (.int .i64) (.cons (.int .i64) (.cons (.int .i64) (.cons (.sl (.sl T94)) (.cons (.int .i64) .nl))))) (.cons vI (.cons vI (.cons vI (.cons (.own (.sl T94) 403800 false) (.cons vI .nl))))))))]
def uF5:St → Option Out:=xO8 [(1,(.val (.sl .bool))),(14,(.ref 38 T171)),(39,(.val (.sl (.sl T94)))),(40,vI)] [(38,(.box T171 (.agg (.cons (.int .i64) (.cons (.int .i64) (.cons (.int .i64) (.cons (.sl (.sl T94)) (.cons (.int .i64) .nl))))) (.cons vI (.cons vI (.cons vI (.cons (.own (.sl T94) 403800 false) (.cons vI .nl)))))))),(41,vI)] wW9 wI2 wO fun y x=>[ex 1 (some (vZ6 y x)) tH6 ((vK0 y x),(uF4 y x),()),ex 2 (some (sZ5 y x)) tH7 (y.2.1,(vK1 y x),())]
def pD1 (p0:(List (List D94))) (p1:(List Bool)) (p2:Int) (p3:Int) (p4:Int):Prop × ((List (List D94)) × Int × Unit) :=
 let v20:=(f133 p2 p3 p4)
 let v22:=(v20 != 0)
 let v25:=(f117 p0 (0:Int))
 let v27:=(v25 != 0)
 let v33:=((len p1) != (len p0))
 let y11:=(p1,(),p0,(len p0),())
 let x11:=((p2,p3,p4,([]:List (List D94)),(0:Int),()),(0:Int),())
 let e11:=(zB9 (wW9 y11) (wI2 y11) x11)
 let q11_1:=(vZ6 y11 e11)
 (((tG8 p2 p3 p4) ∧ ((!v22) = true → ((vZ2 p0 (0:Int)) ∧ ((!v27) = true → ((!v33) = true → (Am.Ends (wW9 y11) (wI2 y11) (wO y11) x11)))))),((bif v22 then [] else (bif v27 then [] else (bif v33 then [] else (bif q11_1 then (vK0 y11 e11) else (vK1 y11 e11).2.2.2.1)))),(bif v22 then v20 else (bif v27 then v25 else (bif v33 then (15:Int) else (bif q11_1 then (uF4 y11 e11) else (0:Int))))),()))
def tH8 (p0:(List (List D94))) (p1:(List Bool)) (p2:Int) (p3:Int) (p4:Int):Prop:=(pD1 p0 p1 p2 p3 p4).1
def f116 (p0:(List (List D94))) (p1:(List Bool)) (p2:Int) (p3:Int) (p4:Int):((List (List D94)) × Int × Unit):=(pD1 p0 p1 p2 p3 p4).2
instance (p0:(List (List D94))) (p1:(List Bool)) (p2:Int) (p3:Int) (p4:Int):Decidable (tH8 p0 p1 p2 p3 p4):=by
 unfold tH8 pD1
 try dsimp only
 infer_instance
def sO2:Am.Spec:=fnSpec [(0,(.val (.sl (.sl T94)))),(1,(.val (.sl .bool))),(2,vI),(3,vI),(4,vI)] (.tup (.cons (.own (.sl T94) 0 false) (.cons vI .nl))) [] (fun x=>tH8 x.1 x.2.1 x.2.2.1 x.2.2.2.1 x.2.2.2.2.1) (fun x=>f116 x.1 x.2.1 x.2.2.1 x.2.2.2.1 x.2.2.2.2.1) (fun _=>())
def rL8:Ctx:={ Cx tys [(117,uE0),(133,sN1),(134,uU1)] [(11,uF5)] [(35,[(4,0,403800,0)])] false 63 [] [] with wants:=[(134,[])] }
theorem rL9:CtxOk Tryz.prog rL8:=xV6 tys_ok rfl ⟨sY5,oF3,rW5,trivial⟩ rfl (by kernel_rfl)
noncomputable def qG7:Code:=Tryz.f116.body.getD .skip
noncomputable def rM:Code:=xW5 qG7 0
theorem sZ6:yU1 Tryz.prog rL8 rM:=xX3 rL9 mixed (sp:=uF5) rfl [tH6,tH7] (bs:=[]) (by kernel_rfl) trivial (by kernel_rfl) (by kernel_rfl) fun y x=>by kernel_rfl
theorem oI:SpecOk Tryz.prog 116 sO2:=xX4 rL9 mixed Tryz.func116 (by kernel_rfl) (bs:=[rM]) (by kernel_rfl) ⟨sZ6,trivial⟩ fun x=>by kernel_rfl
def oI0 (p0:D57):Prop × Int :=
 let v15:=(f113 p0.2.2.2.2.2.2.2.2.2.2.2.2.2.2.2.2.2.2.1 p0.2.2.2.2.2.2.2.2.2.2.1)
 let v19:=(v15.2.1 != 0)
 let v28:=(bif (p0.2.2.2.2.2.2.2.2.2.2.2.2.2.2.2.2.2.2.2.1 != 0) then (p0.2.2.2.2.2.2.2.2.2.2.2.2.2.2.2.2.2.2.2.1 != 1) else false)
 let v41:=(bif (p0.2.2.2.2.2.2.2.2.2.2.2.2.2.2.2.2.2.2.2.2.1 == 0) then (bif (p0.2.2.2.2.2.2.2.2.2.2.2.2.2.2.2.2.2.2.2.2.2.1 != 0) then true else (p0.2.2.2.2.2.2.2.2.2.2.2.2.2.2.2.2.2.2.2.2.2.2.1 != 0)) else false)
 let v44:=(f114 v15.1)
 let v48:=(v44.2.1 != 0)
 let v54:=(p0.2.2.2.2.2.2.2.2.2.2.2.2.2.2.2.2.2.2.2.2.1 != 0)
 let v57:=(f115 v15.1)
 let v61:=(v57.2.1 != 0)
 let v72:=(f116 v44.1 v57.1 p0.2.2.2.2.2.2.2.2.2.2.2.2.2.2.2.2.2.2.2.2.1 p0.2.2.2.2.2.2.2.2.2.2.2.2.2.2.2.2.2.2.2.2.2.1 p0.2.2.2.2.2.2.2.2.2.2.2.2.2.2.2.2.2.2.2.2.2.2.1)
 let v76:=(v72.2.1 != 0)
 let m5_1:=(bif v54 then v72.1 else v44.1)
 let m6:=(bif v54 then (0:Int) else p0.2.2.2.2.2.2.2.2.2.2.2.2.2.2.2.2.2.2.2.1)
 let v80:=(f117 m5_1 m6)
 let v82:=(v80 != 0)
 let m2_4:=(bif v41 then (1:Int) else (bif v48 then v44.2.1 else (bif ((v61 || ((!v61) && v76)) && v54) then (bif v61 then v57.2.1 else v72.2.1) else (bif v82 then v80 else (f99 p0.2.2.2.2.2.2.2.2.2.2.2.2.2.1)))))
 (((tF9 p0.2.2.2.2.2.2.2.2.2.2.2.2.2.2.2.2.2.2.1 p0.2.2.2.2.2.2.2.2.2.2.1) ∧ ((!v19) = true → ((!v28) = true → ((!v41) = true → ((vN8 v15.1) ∧ ((!v48) = true → ((v54 = true → ((tG2 v15.1) ∧ ((!v61) = true → (tH8 v44.1 v57.1 p0.2.2.2.2.2.2.2.2.2.2.2.2.2.2.2.2.2.2.2.2.1 p0.2.2.2.2.2.2.2.2.2.2.2.2.2.2.2.2.2.2.2.2.2.1 p0.2.2.2.2.2.2.2.2.2.2.2.2.2.2.2.2.2.2.2.2.2.2.1)))) ∧ ((bif v54 then ((!v61) && (!v76)) else true) = true → ((vZ2 m5_1 m6) ∧ ((!v82) = true → (tE6 p0.2.2.2.2.2.2.2.2.2.2.2.2.2.1))))))))))),(bif v19 then v15.2.1 else (bif v28 then (8:Int) else m2_4)))
def tH9 (p0:D57):Prop:=(oI0 p0).1
def f101 (p0:D57):Int:=(oI0 p0).2
instance (p0:D57):Decidable (tH9 p0):=by
 unfold tH9 oI0
 try dsimp only
 infer_instance
def sO3:Am.Spec:=fnSpec [(0,(.val T57))] vI [] (fun x=>tH9 x.1) (fun x=>f101 x.1) (fun _=>())
def pD2:Ctx:=Cx tys [(99,uY9),(113,sM9),(114,tG0),(115,sN),(116,sO2),(117,uE0)] [] [(17,[(4,0,44,1005)]),(27,[(4,0,57,1007)]),(33,[(5,0,1005,0),(4,0,72,1005)])] false 87 [] []
theorem pD3:CtxOk Tryz.prog pD2:=xV6 tys_ok rfl ⟨qE2,oE8,qF3,oF0,oI,sY5,trivial⟩ rfl (by kernel_rfl)
theorem oI1:SpecOk Tryz.prog 101 sO3:=xX4 pD3 mixed Tryz.func101 (by kernel_rfl) (bs:=[]) (by kernel_rfl) trivial fun x=>by kernel_rfl
def oI2 (p0:Int) (p1:Int) (p2:Int):Prop × Bool :=
 (True,(bif (decide (p0 ≥ p1)) then (decide (p0 ≤ p2)) else false))
def wO0 (p0:Int) (p1:Int) (p2:Int):Prop:=(oI2 p0 p1 p2).1
def f154 (p0:Int) (p1:Int) (p2:Int):Bool:=(oI2 p0 p1 p2).2
instance (p0:Int) (p1:Int) (p2:Int):Decidable (wO0 p0 p1 p2):=by
 unfold wO0 oI2
 try dsimp only
 infer_instance
def uF6:Am.Spec:=fnSpec [(0,vI),(1,vI),(2,vI)] vB [] (fun x=>wO0 x.1 x.2.1 x.2.2.1) (fun x=>f154 x.1 x.2.1 x.2.2.1) (fun _=>())
def pD4:Ctx:=Cx tys [] [] [] false 15 [] []
theorem pD5:CtxOk Tryz.prog pD4:=xV6 tys_ok rfl trivial rfl (by kernel_rfl)
theorem sZ7:SpecOk Tryz.prog 154 uF6:=xX4 pD5 mixed Tryz.func154 (by kernel_rfl) (bs:=[]) (by kernel_rfl) trivial fun x=>by kernel_rfl
abbrev wL8:Type:=((List D97) × Int × Int × (List D94) × Unit)
abbrev wF3:Type:=(Int × Unit)
def vH2 (y:wL8) (x:wF3):Prop × Bool × wF3 × Bool × Bool :=
 let a27:=x.1
 let v28:=(decide (a27 < 3))
 let v29:=(nth y.2.2.2.1 a27 Z94)
 let v33:=(!(f154 v29.1 (-65536:Int) (65536:Int)))
 let v39:=(bif v33 then true else (!(f154 v29.2.1 (-65536:Int) (65536:Int))))
 ((v28 = true → (InB a27 3 ∧ ((wO0 v29.1 (-65536:Int) (65536:Int)) ∧ (((!v33) = true → (wO0 v29.2.1 (-65536:Int) (65536:Int))) ∧ ((!v39) = true → InR (a27 + 1)))))),(v28 && (!v39)),((a27 + 1),()),(v28 && v39),(!v28))
def vK2 (y:wL8) (x:wF3):Prop:=(vH2 y x).1
def vT2 (y:wL8) (x:wF3):Bool:=(vH2 y x).2.1
def wU9 (y:wL8) (x:wF3):wF3:=(vH2 y x).2.2.1
def tI (y:wL8) (x:wF3):Bool:=(vH2 y x).2.2.2.1
def tI0 (y:wL8) (x:wF3):Bool:=(vH2 y x).2.2.2.2
instance (y:wL8) (x:wF3):Decidable (vK2 y x):=by
 unfold vK2 vH2
 try dsimp only
 infer_instance
def uF7 (y:wL8) (x:wF3):Int :=
 (2:Int)
def tI1:List (Nat × Sh):=[(19,(.val (.sl T97))),(20,vI),(21,vI)]
def uF8:St → Option Out:=xO8 [(19,(.val (.sl T97))),(20,vI),(21,vI),(26,(.val (.arr 3 T94)))] [(27,vI)] vT2 wU9 vK2 fun y x=>[ex 1 (some (tI y x)) [(2,vI)] ((uF7 y x),()),ex 4 (some (tI0 y x)) tI1 (y.1,y.2.1,y.2.2.1,())]
abbrev wS5:Type:=((List D97) × Int × Unit)
abbrev wJ4:Type:=(Int × Unit)
def vT3 (y:wS5) (x:wJ4):Prop × Bool × wJ4 × Bool × Bool :=
 let a19:=y.1
 let a20:=y.2.1
 let a21:=x.1
 let v22:=(decide (a21 < a20))
 let y10:=(a19,a20,a21,(nth a19 a21 Z97).2.1,())
 let x10:=((0:Int),())
 let e10:=(zB9 (vT2 y10) (wU9 y10) x10)
 let q10_4:=(tI0 y10 e10)
 ((v22 = true → (InB a21 (len a19) ∧ ((Am.Ends (vT2 y10) (wU9 y10) (vK2 y10) x10) ∧ (q10_4 = true → InR (a21 + 1))))),(v22 && q10_4),((a21 + 1),()),(v22 && (tI y10 e10)),(!v22))
def vT4 (y:wS5) (x:wJ4):Prop:=(vT3 y x).1
def tI2 (y:wS5) (x:wJ4):Bool:=(vT3 y x).2.1
def vO6 (y:wS5) (x:wJ4):wJ4:=(vT3 y x).2.2.1
def tV4 (y:wS5) (x:wJ4):Bool:=(vT3 y x).2.2.2.1
def rW6 (y:wS5) (x:wJ4):Bool:=(vT3 y x).2.2.2.2
instance (y:wS5) (x:wJ4):Decidable (vT4 y x):=by
 unfold vT4 vT3
 try dsimp only
 infer_instance
def uU3 (y:wS5) (x:wJ4):Int :=
 let a19:=y.1
 let a21:=x.1
 let y10:=(a19,y.2.1,a21,(nth a19 a21 Z97).2.1,())
 (uF7 y10 (zB9 (vT2 y10) (wU9 y10) ((0:Int),())))
def uU4:St → Option Out:=xO8 [(19,(.val (.sl T97))),(20,vI)] [(21,vI)] tI2 vO6 vT4 fun y x=>[ex 1 (some (tV4 y x)) [(2,vI)] ((uU3 y x),()),ex 2 (some (rW6 y x)) [] ()]
def oI3 (p0:D184):Prop × Int :=
 let v11:=(!(f154 p0.2.1 (0:Int) (65536:Int)))
 let v14:=(f128 p0.2.2.1)
 let v16:=(v14 != 0)
 let y7:=(p0.2.2.1,(len p0.2.2.1),())
 let x7:=((0:Int),())
 let e7:=(zB9 (tI2 y7) (vO6 y7) x7)
 (((wO0 p0.2.1 (0:Int) (65536:Int)) ∧ ((!v11) = true → ((vN2 p0.2.2.1) ∧ ((!v16) = true → (Am.Ends (tI2 y7) (vO6 y7) (vT4 y7) x7))))),(bif v11 then (2:Int) else (bif v16 then v14 else (bif (tV4 y7 e7) then (uU3 y7 e7) else (0:Int)))))
def sC9 (p0:D184):Prop:=(oI3 p0).1
def f168 (p0:D184):Int:=(oI3 p0).2
instance (p0:D184):Decidable (sC9 p0):=by
 unfold sC9 oI3
 try dsimp only
 infer_instance
def sO4:Am.Spec:=fnSpec [(0,(.val T184))] vI [] (fun x=>sC9 x.1) (fun x=>f168 x.1) (fun _=>())
def sD:Ctx:=Cx tys [(128,vN3),(154,uF6)] [(10,uF8),(7,uU4)] [] false 42 [] []
theorem sD0:CtxOk Tryz.prog sD:=xV6 tys_ok rfl ⟨sC0,sZ7,trivial⟩ rfl (by kernel_rfl)
noncomputable def qG8:Code:=Tryz.f168.body.getD .skip
noncomputable def sZ8:Code:=xW5 qG8 0
noncomputable def rM0:Code:=xW5 sZ8 0
theorem sZ9:yU1 Tryz.prog sD rM0:=xX3 sD0 mixed (sp:=uF8) rfl [[(2,vI)],tI1] (bs:=[]) (by kernel_rfl) trivial (by kernel_rfl) (by kernel_rfl) fun y x=>by kernel_rfl
theorem rW7:yU1 Tryz.prog sD sZ8:=xX3 sD0 mixed (sp:=uU4) rfl [[(2,vI)],[]] (bs:=[rM0]) (by kernel_rfl) ⟨sZ9,trivial⟩ (by kernel_rfl) (by kernel_rfl) fun y x=>by kernel_rfl
theorem oI4:SpecOk Tryz.prog 168 sO4:=xX4 sD0 mixed Tryz.func168 (by kernel_rfl) (bs:=[sZ8]) (by kernel_rfl) ⟨rW7,trivial⟩ fun x=>by kernel_rfl
def oI5 (p0:D189) (p1:D189):Prop × Bool :=
 (True,(bif (decide (p0.1 > p1.1)) then true else (bif (p0.1 == p1.1) then (decide (p0.2.1 > p1.2.1)) else false)))
def sD1 (p0:D189) (p1:D189):Prop:=(oI5 p0 p1).1
def f169 (p0:D189) (p1:D189):Bool:=(oI5 p0 p1).2
instance (p0:D189) (p1:D189):Decidable (sD1 p0 p1):=by
 unfold sD1 oI5
 try dsimp only
 infer_instance
def sO5:Am.Spec:=fnSpec [(0,(.val T189)),(1,(.val T189))] vB [] (fun x=>sD1 x.1 x.2.1) (fun x=>f169 x.1 x.2.1) (fun _=>())
def pD6:Ctx:=Cx tys [] [] [] false 24 [] []
theorem pD7:CtxOk Tryz.prog pD6:=xV6 tys_ok rfl trivial rfl (by kernel_rfl)
theorem oI6:SpecOk Tryz.prog 169 sO5:=xX4 pD7 mixed Tryz.func169 (by kernel_rfl) (bs:=[]) (by kernel_rfl) trivial fun x=>by kernel_rfl
abbrev wS6:Type:=(D155 × (List D184) × Int × Unit)
abbrev wJ5:Type:=(Int × Unit)
def vT5 (y:wS6) (x:wJ5):Prop × Bool × wJ5 × Bool × Bool :=
 let a1:=y.1
 let a35:=y.2.1
 let a37:=x.1
 let v38:=(decide (a37 < y.2.2.1))
 let v40:=(nth a35 a37 Z184)
 let v43:=(decide (a37 > 0))
 let v50:=(a37 - 1)
 let v55:=(bif v43 then (decide (v40.1 ≤ (nth a1.2.2.2.1 v50 Z184).1)) else false)
 let v59:=((f168 v40) != 0)
 let c_2:=((!v55) && (!v59))
 ((v38 = true → (InB a37 (len a35) ∧ ((v43 = true → InR (a37 - 1)) ∧ ((v43 = true → InB v50 (len a1.2.2.2.1)) ∧ (((!v55) = true → (sC9 v40)) ∧ (c_2 = true → InR (a37 + 1))))))),(v38 && c_2),((a37 + 1),()),(v38 && (v55 || ((!v55) && v59))),(!v38))
def vT6 (y:wS6) (x:wJ5):Prop:=(vT5 y x).1
def tI3 (y:wS6) (x:wJ5):Bool:=(vT5 y x).2.1
def vO7 (y:wS6) (x:wJ5):wJ5:=(vT5 y x).2.2.1
def tV5 (y:wS6) (x:wJ5):Bool:=(vT5 y x).2.2.2.1
def tV6 (y:wS6) (x:wJ5):Bool:=(vT5 y x).2.2.2.2
instance (y:wS6) (x:wJ5):Decidable (vT6 y x):=by
 unfold vT6 vT5
 try dsimp only
 infer_instance
def uU5 (y:wS6) (x:wJ5):Int :=
 let a37:=x.1
 let v40:=(nth y.2.1 a37 Z184)
 (bif (bif (decide (a37 > 0)) then (decide (v40.1 ≤ (nth y.1.2.2.2.1 (a37 - 1) Z184).1)) else false) then (24:Int) else (f168 v40))
def uU6:St → Option Out:=xO8 [(1,(.box T155 (.val T155))),(35,(.val (.sl T184))),(36,vI)] [(37,vI)] tI3 vO7 vT6 fun y x=>[ex 1 (some (tV5 y x)) [(2,vI)] ((uU5 y x),()),ex 2 (some (tV6 y x)) [(1,(.box T155 (.val T155)))] (y.1,())]
abbrev wL9:Type:=(D155 × (List D189) × Int × Unit)
abbrev wF4:Type:=(Int × Unit)
def vH3 (y:wL9) (x:wF4):Prop × Bool × wF4 × Bool × Bool :=
 let a1:=y.1
 let a63:=y.2.1
 let a65:=x.1
 let v66:=(decide (a65 < y.2.2.1))
 let v68:=(nth a63 a65 Z189)
 let v71:=(decide (a65 > 0))
 let v77:=(a65 - 1)
 let v78:=(nth a1.2.2.2.2.1 v77 Z189)
 let v82:=(bif v71 then (!(f169 v68 v78)) else false)
 let v86:=(!(f154 v68.2.2.1 (-65536:Int) (65536:Int)))
 let c_2:=((!v82) && (!v86))
 ((v66 = true → (InB a65 (len a63) ∧ ((v71 = true → InR (a65 - 1)) ∧ ((v71 = true → InB v77 (len a1.2.2.2.2.1)) ∧ ((v71 = true → (sD1 v68 v78)) ∧ (((!v82) = true → (wO0 v68.2.2.1 (-65536:Int) (65536:Int))) ∧ (c_2 = true → InR (a65 + 1)))))))),(v66 && c_2),((a65 + 1),()),(v66 && (v82 || ((!v82) && v86))),(!v66))
def vK3 (y:wL9) (x:wF4):Prop:=(vH3 y x).1
def uN7 (y:wL9) (x:wF4):Bool:=(vH3 y x).2.1
def vK4 (y:wL9) (x:wF4):wF4:=(vH3 y x).2.2.1
def tI4 (y:wL9) (x:wF4):Bool:=(vH3 y x).2.2.2.1
def rA (y:wL9) (x:wF4):Bool:=(vH3 y x).2.2.2.2
instance (y:wL9) (x:wF4):Decidable (vK3 y x):=by
 unfold vK3 vH3
 try dsimp only
 infer_instance
def uF9 (y:wL9) (x:wF4):Int :=
 let a65:=x.1
 (bif (bif (decide (a65 > 0)) then (!(f169 (nth y.2.1 a65 Z189) (nth y.1.2.2.2.2.1 (a65 - 1) Z189))) else false) then (24:Int) else (2:Int))
def uG:St → Option Out:=xO8 [(1,(.box T155 (.val T155))),(63,(.val (.sl T189))),(64,vI)] [(65,vI)] uN7 vK4 vK3 fun y x=>[ex 1 (some (tI4 y x)) [(2,vI)] ((uF9 y x),()),ex 4 (some (rA y x)) [] ()]
def oI7 (p0:D155):Prop × Int :=
 let v11:=(!(f154 p0.1 (1:Int) (65536:Int)))
 let v17:=(bif v11 then true else (!(f154 p0.2.1 (0:Int) (65536:Int))))
 let v23:=(bif v17 then true else (!(f154 p0.2.2.1 (0:Int) (65536:Int))))
 let v33:=(bif (decide ((len p0.2.2.2.1) > 256)) then true else (decide ((len p0.2.2.2.2.1) > 256)))
 let y6:=(p0,p0.2.2.2.1,(len p0.2.2.2.1),())
 let x6:=((0:Int),())
 let e6:=(zB9 (tI3 y6) (vO7 y6) x6)
 let y15:=(p0,p0.2.2.2.2.1,(len p0.2.2.2.2.1),())
 let x15:=((0:Int),())
 let e15:=(zB9 (uN7 y15) (vK4 y15) x15)
 (((wO0 p0.1 (1:Int) (65536:Int)) ∧ (((!v11) = true → (wO0 p0.2.1 (0:Int) (65536:Int))) ∧ (((!v17) = true → (wO0 p0.2.2.1 (0:Int) (65536:Int))) ∧ ((!v23) = true → ((!v33) = true → ((Am.Ends (tI3 y6) (vO7 y6) (vT6 y6) x6) ∧ ((tV6 y6 e6) = true → (Am.Ends (uN7 y15) (vK4 y15) (vK3 y15) x15)))))))),(bif v23 then (2:Int) else (bif v33 then (3:Int) else (bif (tV5 y6 e6) then (uU5 y6 e6) else (bif (tI4 y15 e15) then (uF9 y15 e15) else (0:Int))))))
def tI5 (p0:D155):Prop:=(oI7 p0).1
def f153 (p0:D155):Int:=(oI7 p0).2
instance (p0:D155):Decidable (tI5 p0):=by
 unfold tI5 oI7
 try dsimp only
 infer_instance
def sO6:Am.Spec:=fnSpec [(0,(.val T155))] vI [] (fun x=>tI5 x.1) (fun x=>f153 x.1) (fun _=>())
def sD2:Ctx:=Cx tys [(154,uF6),(168,sO4),(169,sO5)] [(6,uU6),(15,uG)] [] false 88 [] []
theorem sD3:CtxOk Tryz.prog sD2:=xV6 tys_ok rfl ⟨sZ7,oI4,oI6,trivial⟩ rfl (by kernel_rfl)
noncomputable def sO7:Code:=Tryz.f153.body.getD .skip
noncomputable def qG9:Code:=xW5 sO7 0
theorem rW8:yU1 Tryz.prog sD2 qG9:=xX3 sD3 mixed (sp:=uU6) rfl [[(2,vI)],[(1,(.box T155 (.val T155)))]] (bs:=[]) (by kernel_rfl) trivial (by kernel_rfl) (by kernel_rfl) fun y x=>by kernel_rfl
noncomputable def rM1:Code:=xW5 sO7 1
theorem rA0:yU1 Tryz.prog sD2 rM1:=xX3 sD3 mixed (sp:=uG) rfl [[(2,vI)],[]] (bs:=[]) (by kernel_rfl) trivial (by kernel_rfl) (by kernel_rfl) fun y x=>by kernel_rfl
theorem oI8:SpecOk Tryz.prog 153 sO6:=xX4 sD3 mixed Tryz.func153 (by kernel_rfl) (bs:=[qG9,rM1]) (by kernel_rfl) ⟨rW8,rA0,trivial⟩ fun x=>by kernel_rfl
abbrev wS7:Type:=((List UInt8) × Int × Int × Int × Unit)
abbrev wJ6:Type:=(Int × Unit)
def vT7 (y:wS7) (x:wJ6):Prop × Bool × wJ6 × Bool × Bool :=
 let a1:=y.1
 let a18:=x.1
 let v19:=(decide (a18 < y.2.2.2.1))
 let v24:=(decide ((xW8 a1 a18) < 32))
 let v30:=(bif v24 then true else (decide ((xW8 a1 a18) > 126)))
 let v36:=(bif v30 then ((xW8 a1 a18) != 10) else false)
 ((v19 = true → (InB a18 (len a1) ∧ (((!v24) = true → InB a18 (len a1)) ∧ ((v30 = true → InB a18 (len a1)) ∧ ((!v36) = true → InR (a18 + 1)))))),(v19 && (!v36)),((a18 + 1),()),(v19 && v36),(!v19))
def vT8 (y:wS7) (x:wJ6):Prop:=(vT7 y x).1
def tI6 (y:wS7) (x:wJ6):Bool:=(vT7 y x).2.1
def vO8 (y:wS7) (x:wJ6):wJ6:=(vT7 y x).2.2.1
def uN8 (y:wS7) (x:wJ6):Bool:=(vT7 y x).2.2.2.1
def tV7 (y:wS7) (x:wJ6):Bool:=(vT7 y x).2.2.2.2
instance (y:wS7) (x:wJ6):Decidable (vT8 y x):=by
 unfold vT8 vT7
 try dsimp only
 infer_instance
def vO9 (y:wS7) (x:wJ6):Int :=
 (4:Int)
def uU7:St → Option Out:=xO8 [(1,vS),(2,vI),(3,vI),(17,vI)] [(18,vI)] tI6 vO8 vT8 fun y x=>[ex 1 (some (uN8 y x)) [(8,vI)] ((vO9 y x),()),ex 2 (some (tV7 y x)) [(1,vS),(2,vI),(3,vI)] (y.1,y.2.1,y.2.2.1,())]
def pD8 (p0:D155) (p1:(List UInt8)) (p2:Int) (p3:Int):Prop × Int :=
 let v12:=(f153 p0)
 let v14:=(v12 != 0)
 let y5:=(p1,p2,p3,(len p1),())
 let x5:=((0:Int),())
 let e5:=(zB9 (tI6 y5) (vO8 y5) x5)
 let v40:=(decide ((len p1) > 128))
 let v43:=(!(f154 p2 (1:Int) (1048576:Int)))
 let m8_3:=(bif v14 then v12 else (bif (uN8 y5 e5) then (vO9 y5 e5) else (bif v40 then (3:Int) else (bif (bif v43 then true else (!(f154 p3 (0:Int) (1048576:Int)))) then (2:Int) else (0:Int)))))
 (((tI5 p0) ∧ ((!v14) = true → ((Am.Ends (tI6 y5) (vO8 y5) (vT8 y5) x5) ∧ ((tV7 y5 e5) = true → ((!v40) = true → ((wO0 p2 (1:Int) (1048576:Int)) ∧ ((!v43) = true → (wO0 p3 (0:Int) (1048576:Int))))))))),m8_3)
def tI7 (p0:D155) (p1:(List UInt8)) (p2:Int) (p3:Int):Prop:=(pD8 p0 p1 p2 p3).1
def f135 (p0:D155) (p1:(List UInt8)) (p2:Int) (p3:Int):Int:=(pD8 p0 p1 p2 p3).2
instance (p0:D155) (p1:(List UInt8)) (p2:Int) (p3:Int):Decidable (tI7 p0 p1 p2 p3):=by
 unfold tI7 pD8
 try dsimp only
 infer_instance
def sO8:Am.Spec:=fnSpec [(0,(.val T155)),(1,vS),(2,vI),(3,vI)] vI [] (fun x=>tI7 x.1 x.2.1 x.2.2.1 x.2.2.2.1) (fun x=>f135 x.1 x.2.1 x.2.2.1 x.2.2.2.1) (fun _=>())
def rM2:Ctx:=Cx tys [(153,sO6),(154,uF6)] [(5,uU7)] [] false 49 [] []
theorem rM3:CtxOk Tryz.prog rM2:=xV6 tys_ok rfl ⟨oI8,sZ7,trivial⟩ rfl (by kernel_rfl)
noncomputable def qH:Code:=Tryz.f135.body.getD .skip
noncomputable def qH0:Code:=xW5 qH 0
theorem rW9:yU1 Tryz.prog rM2 qH0:=xX3 rM3 mixed (sp:=uU7) rfl [[(8,vI)],[(1,vS),(2,vI),(3,vI)]] (bs:=[]) (by kernel_rfl) trivial (by kernel_rfl) (by kernel_rfl) fun y x=>by kernel_rfl
theorem oI9:SpecOk Tryz.prog 135 sO8:=xX4 rM3 mixed Tryz.func135 (by kernel_rfl) (bs:=[qH0]) (by kernel_rfl) ⟨rW9,trivial⟩ fun x=>by kernel_rfl
abbrev vH4:Type:=(D155 × Unit × (D155 × (List Int) × Unit) × (List D184) × Int × Unit)
abbrev wS8:Type:=(Int × Int × Unit)
def uZ4 (y:vH4) (x:wS8):Prop × Bool × wS8 :=
 let a14:=y.2.2.2.1
 let a16:=x.2.1
 let v17:=(decide (a16 < y.2.2.2.2.1))
 ((v17 = true → (InB a16 (len a14) ∧ InR (a16 + 1))),v17,((bif ((nth a14 a16 Z184).1 == 63) then a16 else x.1),(a16 + 1),()))
def vT9 (y:vH4) (x:wS8):Prop:=(uZ4 y x).1
def tI8 (y:vH4) (x:wS8):Bool:=(uZ4 y x).2.1
def vP (y:vH4) (x:wS8):wS8:=(uZ4 y x).2.2
instance (y:vH4) (x:wS8):Decidable (vT9 y x):=by
 unfold vT9 uZ4
 try dsimp only
 infer_instance
def uU8 (y:vH4) (x:wS8):Int :=
 x.1
def tV8:List (Nat × Sh):=[(1,(.box T155 (.val T155))),(3,(.ref 12 T205)),(4,vI),(12,(.box T205 (.agg (.cons T155 (.cons (.arr 256 (.int .i64)) .nl)) (.cons (.val T155) (.cons (.val (.arr 256 (.int .i64))) .nl)))))]
def uU9:St → Option Out:=xO8 [(1,(.box T155 (.val T155))),(3,(.ref 12 T205)),(12,(.box T205 (.agg (.cons T155 (.cons (.arr 256 (.int .i64)) .nl)) (.cons (.val T155) (.cons (.val (.arr 256 (.int .i64))) .nl))))),(14,(.val (.sl T184))),(15,vI)] [(4,vI),(16,vI)] tI8 vP vT9 fun y x=>[ex 2 none tV8 (y.1,y.2.1,(uU8 y x),y.2.2.1,())]
abbrev wX:Type:=(D155 × Unit × Int × Unit)
abbrev wM:Type:=((D155 × (List Int) × Unit) × Int × Unit)
def uG0 (y:wX) (x:wM):Prop × Bool × wM :=
 let a12:=x.1
 let a26:=x.2.1
 let v27:=(decide (a26 < 256))
 ((v27 = true → (InB a26 256 ∧ InR (a26 + 1))),v27,((a12.1,(List.set a12.2.1 (Int.toNat a26) y.2.2.1),()),(a26 + 1),()))
def vK5 (y:wX) (x:wM):Prop:=(uG0 y x).1
def uN9 (y:wX) (x:wM):Bool:=(uG0 y x).2.1
def vK6 (y:wX) (x:wM):wM:=(uG0 y x).2.2
instance (y:wX) (x:wM):Decidable (vK5 y x):=by
 unfold vK5 uG0
 try dsimp only
 infer_instance
def uG1 (y:wX) (x:wM):(D155 × (List Int) × Unit) :=
 let a12:=x.1
 (a12.1,a12.2.1,())
def tI9:List (Nat × Sh):=[(1,(.box T155 (.val T155))),(3,(.ref 12 T205)),(12,(.box T205 (.agg (.cons T155 (.cons (.arr 256 (.int .i64)) .nl)) (.cons (.val T155) (.cons (.val (.arr 256 (.int .i64))) .nl)))))]
def uG2:St → Option Out:=xO8 [(1,(.box T155 (.val T155))),(3,(.ref 12 T205)),(4,vI)] [(12,(.box T205 (.agg (.cons T155 (.cons (.arr 256 (.int .i64)) .nl)) (.cons (.val T155) (.cons (.val (.arr 256 (.int .i64))) .nl))))),(26,vI)] uN9 vK6 vK5 fun y x=>[ex 4 none tI9 (y.1,y.2.1,(uG1 y x),())]
abbrev wX0:Type:=(Unit × (List D184) × Int × Unit)
abbrev wM0:Type:=((D155 × (List Int) × Unit) × Int × Unit)
def uG3 (y:wX0) (x:wM0):Prop × Bool × wM0 :=
 let a37:=y.2.1
 let a12:=x.1
 let a39:=x.2.1
 let v40:=(decide (a39 < y.2.2.1))
 let v42:=(nth a37 a39 Z184)
 ((v40 = true → (InB a39 (len a37) ∧ (InB v42.1 256 ∧ InR (a39 + 1)))),v40,((a12.1,(List.set a12.2.1 (Int.toNat v42.1) a39),()),(a39 + 1),()))
def vK7 (y:wX0) (x:wM0):Prop:=(uG3 y x).1
def uO (y:wX0) (x:wM0):Bool:=(uG3 y x).2.1
def vK8 (y:wX0) (x:wM0):wM0:=(uG3 y x).2.2
instance (y:wX0) (x:wM0):Decidable (vK7 y x):=by
 unfold vK7 uG3
 try dsimp only
 infer_instance
def uG4 (y:wX0) (x:wM0):(D155 × (List Int) × Unit) :=
 let a12:=x.1
 (a12.1,a12.2.1,())
def tJ:List (Nat × Sh):=[(3,(.ref 12 T205)),(12,(.box T205 (.agg (.cons T155 (.cons (.arr 256 (.int .i64)) .nl)) (.cons (.val T155) (.cons (.val (.arr 256 (.int .i64))) .nl)))))]
def uG5:St → Option Out:=xO8 [(3,(.ref 12 T205)),(37,(.val (.sl T184))),(38,vI)] [(12,(.box T205 (.agg (.cons T155 (.cons (.arr 256 (.int .i64)) .nl)) (.cons (.val T155) (.cons (.val (.arr 256 (.int .i64))) .nl))))),(39,vI)] uO vK8 vK7 fun y x=>[ex 6 none tJ (y.1,(uG4 y x),())]
def oJ (p0:D155):Prop × D205 :=
 let y4:=(p0,(),(p0,(List.replicate 256 (0:Int)),()),p0.2.2.2.1,(len p0.2.2.2.1),())
 let x4:=((-1:Int),(0:Int),())
 let y10:=(p0,(),(uU8 y4 (zB9 (tI8 y4) (vP y4) x4)),())
 let x10:=((p0,(List.replicate 256 (0:Int)),()),(0:Int),())
 let r10_4_0:=(uG1 y10 (zB9 (uN9 y10) (vK6 y10) x10))
 let y15:=((),p0.2.2.2.1,(len p0.2.2.2.1),())
 let x15:=((r10_4_0.1,r10_4_0.2.1,()),(0:Int),())
 let r15_6_0:=(uG4 y15 (zB9 (uO y15) (vK8 y15) x15))
 (((Am.Ends (tI8 y4) (vP y4) (vT9 y4) x4) ∧ ((Am.Ends (uN9 y10) (vK6 y10) (vK5 y10) x10) ∧ (Am.Ends (uO y15) (vK8 y15) (vK7 y15) x15))),(r15_6_0.1,r15_6_0.2.1,()))
def tJ0 (p0:D155):Prop:=(oJ p0).1
def f136 (p0:D155):D205:=(oJ p0).2
instance (p0:D155):Decidable (tJ0 p0):=by
 unfold tJ0 oJ
 try dsimp only
 infer_instance
def sO9:Am.Spec:=fnSpec [(0,(.val T155))] (.val (.ptr T205)) [] (fun x=>tJ0 x.1) (fun x=>f136 x.1) (fun _=>())
def uZ5:Ctx:=Cx tys [] [(4,uU9),(10,uG2),(15,uG5)] [(39,[(3,12,0,0)])] false 53 [] []
theorem uZ6:CtxOk Tryz.prog uZ5:=xV6 tys_ok rfl trivial rfl (by kernel_rfl)
noncomputable def tJ1:Code:=Tryz.f136.body.getD .skip
noncomputable def qH1:Code:=xW5 tJ1 0
theorem rX:yU1 Tryz.prog uZ5 qH1:=xX3 uZ6 mixed (sp:=uU9) rfl [tV8] (bs:=[]) (by kernel_rfl) trivial (by kernel_rfl) (by kernel_rfl) fun y x=>by kernel_rfl
noncomputable def rM4:Code:=xW5 tJ1 1
theorem rA1:yU1 Tryz.prog uZ5 rM4:=xX3 uZ6 mixed (sp:=uG2) rfl [tI9] (bs:=[]) (by kernel_rfl) trivial (by kernel_rfl) (by kernel_rfl) fun y x=>by kernel_rfl
noncomputable def rM5:Code:=xW5 tJ1 2
theorem rA2:yU1 Tryz.prog uZ5 rM5:=xX3 uZ6 mixed (sp:=uG5) rfl [tJ] (bs:=[]) (by kernel_rfl) trivial (by kernel_rfl) (by kernel_rfl) fun y x=>by kernel_rfl
theorem oJ0:SpecOk Tryz.prog 136 sO9:=xX4 uZ6 mixed Tryz.func136 (by kernel_rfl) (bs:=[qH1,rM4,rM5]) (by kernel_rfl) ⟨rX,rA1,rA2,trivial⟩ fun x=>by kernel_rfl
abbrev wO1:Type:=(Int × D155 × D205 × (List (List D94)) × Int × Int × D94 × (List (List UInt8)) × Int × Int × (List D94) × Int × Int × (List (List D94)) × Int × Int × (List D94) × Int × Unit)
abbrev wM1:Type:=((List D94) × Int × Unit)
def uG6 (y:wO1) (x:wM1):Prop × Bool × wM1 :=
 let a2:=y.1
 let a4:=y.2.1
 let a89:=y.2.2.2.2.2.2.2.2.2.2.2.2.2.2.2.2.1
 let a24:=x.1
 let a91:=x.2.1
 let v92:=(decide (a91 < y.2.2.2.2.2.2.2.2.2.2.2.2.2.2.2.2.2.1))
 let v94:=(nth a89 a91 Z94)
 let v104:=(IntKind.wrap .i64 ((IntKind.wrap .i64 (y.2.2.2.2.2.2.1.2.1 + v94.1)) * a2))
 let v119:=(IntKind.wrap .i64 ((IntKind.wrap .i64 ((IntKind.wrap .i64 (a4.2.1 + (IntKind.wrap .i64 (y.2.2.2.2.2.1 * a4.2.2.1)))) - v94.2.1)) * a2))
 ((v92 = true → (InB a91 (len a89) ∧ ((wC6 v104 a4.1) ∧ ((wC6 v119 a4.1) ∧ (InB a91 (len a24) ∧ a91 < len a24))))),v92,((List.set a24 (Int.toNat a91) ((f97 v104 a4.1),(f97 v119 a4.1),())),(IntKind.wrap .i64 (a91 + 1)),()))
def wO2 (y:wO1) (x:wM1):Prop:=(uG6 y x).1
def wX1 (y:wO1) (x:wM1):Bool:=(uG6 y x).2.1
def wI3 (y:wO1) (x:wM1):wM1:=(uG6 y x).2.2
instance (y:wO1) (x:wM1):Decidable (wO2 y x):=by
 unfold wO2 uG6
 try dsimp only
 infer_instance
def uG7 (y:wO1) (x:wM1):(List D94) :=
 x.1
def tJ2:List (Nat × Sh):=[(2,vI),(4,(.box T155 (.val T155))),(11,(.val (.ptr T205))),(12,(.own (.sl T94) 1012 false)),(13,vI),(14,vI),(19,(.box T94 (.val T94))),(24,(.own T94 1024 true)),(41,(.val (.sl .str))),(42,vI),(43,vI),(54,(.own T94 1016 false)),(55,vI),(56,vI),(74,(.own (.sl T94) 1020 false)),(75,vI),(76,vI)]
def uG8:St → Option Out:=xO8 [(2,vI),(4,(.box T155 (.val T155))),(11,(.val (.ptr T205))),(12,(.own (.sl T94) 1012 false)),(13,vI),(14,vI),(19,(.box T94 (.val T94))),(41,(.val (.sl .str))),(42,vI),(43,vI),(54,(.own T94 1016 false)),(55,vI),(56,vI),(74,(.own (.sl T94) 1020 false)),(75,vI),(76,vI),(89,(.val (.sl T94))),(90,vI)] [(24,(.own T94 1024 true)),(91,vI)] wX1 wI3 wO2 fun y x=>[ex 8 none tJ2 (y.1,y.2.1,y.2.2.1,y.2.2.2.1,y.2.2.2.2.1,y.2.2.2.2.2.1,y.2.2.2.2.2.2.1,(uG7 y x),y.2.2.2.2.2.2.2.1,y.2.2.2.2.2.2.2.2.1,y.2.2.2.2.2.2.2.2.2.1,y.2.2.2.2.2.2.2.2.2.2.1,y.2.2.2.2.2.2.2.2.2.2.2.1,y.2.2.2.2.2.2.2.2.2.2.2.2.1,y.2.2.2.2.2.2.2.2.2.2.2.2.2.1,y.2.2.2.2.2.2.2.2.2.2.2.2.2.2.1,y.2.2.2.2.2.2.2.2.2.2.2.2.2.2.2.1,())]
abbrev wA1:Type:=(Int × D155 × D205 × Int × D94 × (List (List UInt8)) × Int × Int × (List D94) × Int × Int × (List (List D94)) × Int × Unit)
abbrev wA9:Type:=((List (List D94)) × Int × Int × Unit)
def wZ0 (y:wA1) (x:wA9):Prop × Bool × wA9 × Bool × Bool :=
 let a74:=y.2.2.2.2.2.2.2.2.2.2.2.1
 let a75:=y.2.2.2.2.2.2.2.2.2.2.2.2.1
 let a12:=x.1
 let a76:=x.2.2.1
 let v77:=(decide (a76 < a75))
 let v78:=(nth a74 a76 ([]:List D94))
 let v83:=(IntKind.wrap .i64 (x.2.1 + (len v78)))
 let v85:=(decide (v83 > 4096))
 let v87:=(len v78)
 let y25:=(y.1,y.2.1,y.2.2.1,a12,v83,y.2.2.2.1,y.2.2.2.2.1,y.2.2.2.2.2.1,y.2.2.2.2.2.2.1,y.2.2.2.2.2.2.2.1,y.2.2.2.2.2.2.2.2.1,y.2.2.2.2.2.2.2.2.2.1,y.2.2.2.2.2.2.2.2.2.2.1,a74,a75,a76,v78,(len v78),())
 let x25:=((List.replicate (Int.toNat v87) Z94),(0:Int),())
 let v128:=([(uG7 y25 (zB9 (wX1 y25) (wI3 y25) x25))]:List (List D94))
 ((v77 = true → (InB a76 (len a74) ∧ ((!v85) = true → ((0 ≤ v87 ∧ v87 ≤ v87 ∧ v87 ≤ 4294967296) ∧ ((Am.Ends (wX1 y25) (wI3 y25) (wO2 y25) x25) ∧ ((List.length a12 + List.length v128:Nat):Int) ≤ 4294967296))))),(v77 && (!v85)),((a12 ++ v128),v83,(IntKind.wrap .i64 (a76 + 1)),()),(v77 && v85),(!v77))
def wG9 (y:wA1) (x:wA9):Prop:=(wZ0 y x).1
def xZ6 (y:wA1) (x:wA9):Bool:=(wZ0 y x).2.1
def xY1 (y:wA1) (x:wA9):wA9:=(wZ0 y x).2.2.1
def tJ3 (y:wA1) (x:wA9):Bool:=(wZ0 y x).2.2.2.1
def tJ4 (y:wA1) (x:wA9):Bool:=(wZ0 y x).2.2.2.2
instance (y:wA1) (x:wA9):Decidable (wG9 y x):=by
 unfold wG9 wZ0
 try dsimp only
 infer_instance
def vK9 (y:wA1) (x:wA9):(List (List D94)) :=
 ([]:List (List D94))
def uG9 (y:wA1) (x:wA9):Int :=
 (3:Int)
def tJ5:List (Nat × Sh):=[(8,(.own (.sl T94) 0 false)),(9,vI)]
def uH (y:wA1) (x:wA9):(List (List D94)) :=
 x.1
def uH0 (y:wA1) (x:wA9):Int :=
 x.2.1
def tJ6:List (Nat × Sh):=[(2,vI),(4,(.box T155 (.val T155))),(11,(.val (.ptr T205))),(12,(.own (.sl T94) 1012 false)),(13,vI),(14,vI),(41,(.val (.sl .str))),(42,vI),(43,vI),(54,(.own T94 1016 false)),(55,vI),(56,vI)]
def uH1:St → Option Out:=xO8 [(2,vI),(4,(.box T155 (.val T155))),(11,(.val (.ptr T205))),(14,vI),(19,(.box T94 (.val T94))),(41,(.val (.sl .str))),(42,vI),(43,vI),(54,(.own T94 1016 false)),(55,vI),(56,vI),(74,(.own (.sl T94) 1020 false)),(75,vI)] [(12,(.own (.sl T94) 1012 false)),(13,vI),(76,vI)] xZ6 xY1 wG9 fun y x=>[ex 1 (some (tJ3 y x)) tJ5 ((vK9 y x),(uG9 y x),()),ex 6 (some (tJ4 y x)) tJ6 (y.1,y.2.1,y.2.2.1,(uH y x),(uH0 y x),y.2.2.2.1,y.2.2.2.2.2.1,y.2.2.2.2.2.2.1,y.2.2.2.2.2.2.2.1,y.2.2.2.2.2.2.2.2.1,y.2.2.2.2.2.2.2.2.2.1,y.2.2.2.2.2.2.2.2.2.2.1,())]
abbrev xZ:Type:=(Int × D155 × D205 × Int × (List (List UInt8)) × Int × Int × (List D94) × Int × Unit)
abbrev xZ0:Type:=((List (List D94)) × Int × Int × Unit)
def vH5 (y:xZ) (x:xZ0):Prop × Bool × xZ0 × Bool × Bool :=
 let a4:=y.2.1
 let a54:=y.2.2.2.2.2.2.2.1
 let a55:=y.2.2.2.2.2.2.2.2.1
 let a56:=x.2.2.1
 let v57:=(decide (a56 < a55))
 let v58:=(nth a54 a56 Z94)
 let v65:=(nth a4.2.2.2.1 v58.1 Z184)
 let v68:=(f114 v65.2.2.1)
 let v72:=(v68.2.1 != 0)
 let y18:=(y.1,a4,y.2.2.1,y.2.2.2.1,v58,y.2.2.2.2.1,y.2.2.2.2.2.1,y.2.2.2.2.2.2.1,a54,a55,a56,v68.1,(len v68.1),())
 let x18:=(x.1,x.2.1,(0:Int),())
 let e18:=(zB9 (xZ6 y18) (xY1 y18) x18)
 ((v57 = true → (InB a56 (len a54) ∧ (InB v58.1 (len a4.2.2.2.1) ∧ ((vN8 v65.2.2.1) ∧ ((!v72) = true → (Am.Ends (xZ6 y18) (xY1 y18) (wG9 y18) x18)))))),(v57 && ((!v72) && (tJ4 y18 e18))),((uH y18 e18),(uH0 y18 e18),(IntKind.wrap .i64 (a56 + 1)),()),(v57 && (v72 || ((!v72) && (tJ3 y18 e18)))),(!v57))
def wE0 (y:xZ) (x:xZ0):Prop:=(vH5 y x).1
def wA (y:xZ) (x:xZ0):Bool:=(vH5 y x).2.1
def xY0 (y:xZ) (x:xZ0):xZ0:=(vH5 y x).2.2.1
def tJ7 (y:xZ) (x:xZ0):Bool:=(vH5 y x).2.2.2.1
def tJ8 (y:xZ) (x:xZ0):Bool:=(vH5 y x).2.2.2.2
instance (y:xZ) (x:xZ0):Decidable (wE0 y x):=by
 unfold wE0 vH5
 try dsimp only
 infer_instance
def vL (y:xZ) (x:xZ0):(List (List D94)) :=
 let a4:=y.2.1
 let a54:=y.2.2.2.2.2.2.2.1
 let a56:=x.2.2.1
 let v58:=(nth a54 a56 Z94)
 let v68:=(f114 (nth a4.2.2.2.1 v58.1 Z184).2.2.1)
 let y18:=(y.1,a4,y.2.2.1,y.2.2.2.1,v58,y.2.2.2.2.1,y.2.2.2.2.2.1,y.2.2.2.2.2.2.1,a54,y.2.2.2.2.2.2.2.2.1,a56,v68.1,(len v68.1),())
 (bif (v68.2.1 != 0) then [] else (vK9 y18 (zB9 (xZ6 y18) (xY1 y18) (x.1,x.2.1,(0:Int),()))))
def uH2 (y:xZ) (x:xZ0):Int :=
 let a4:=y.2.1
 let a54:=y.2.2.2.2.2.2.2.1
 let a56:=x.2.2.1
 let v58:=(nth a54 a56 Z94)
 let v68:=(f114 (nth a4.2.2.2.1 v58.1 Z184).2.2.1)
 let y18:=(y.1,a4,y.2.2.1,y.2.2.2.1,v58,y.2.2.2.2.1,y.2.2.2.2.2.1,y.2.2.2.2.2.2.1,a54,y.2.2.2.2.2.2.2.2.1,a56,v68.1,(len v68.1),())
 (bif (v68.2.1 != 0) then v68.2.1 else (uG9 y18 (zB9 (xZ6 y18) (xY1 y18) (x.1,x.2.1,(0:Int),()))))
def tJ9:List (Nat × Sh):=[(8,(.own (.sl T94) 0 false)),(9,vI)]
def uH3 (y:xZ) (x:xZ0):(List (List D94)) :=
 x.1
def uH4 (y:xZ) (x:xZ0):Int :=
 x.2.1
def tK:List (Nat × Sh):=[(2,vI),(4,(.box T155 (.val T155))),(11,(.val (.ptr T205))),(12,(.own (.sl T94) 1012 false)),(13,vI),(41,(.val (.sl .str))),(42,vI),(43,vI)]
def uH5:St → Option Out:=xO8 [(2,vI),(4,(.box T155 (.val T155))),(11,(.val (.ptr T205))),(14,vI),(41,(.val (.sl .str))),(42,vI),(43,vI),(54,(.own T94 1016 false)),(55,vI)] [(12,(.own (.sl T94) 1012 false)),(13,vI),(56,vI)] wA xY0 wE0 fun y x=>[ex 1 (some (tJ7 y x)) tJ9 ((vL y x),(uH2 y x),()),ex 4 (some (tJ8 y x)) tK (y.1,y.2.1,y.2.2.1,(uH3 y x),(uH4 y x),y.2.2.2.2.1,y.2.2.2.2.2.1,y.2.2.2.2.2.2.1,())]
abbrev wD0:Type:=(Int × D155 × D205 × (List (List UInt8)) × Int × Unit)
abbrev wA4:Type:=((List (List D94)) × Int × Int × Unit)
def vU (y:wD0) (x:wA4):Prop × Bool × wA4 × Bool × Bool :=
 let a11:=y.2.2.1
 let a41:=y.2.2.2.1
 let a42:=y.2.2.2.2.1
 let a43:=x.2.2.1
 let v44:=(decide (a43 < a42))
 let v46:=(nth a41 a43 ([]:List UInt8))
 let v51:=(f138 a11 v46)
 let y12:=(y.1,y.2.1,a11,a43,a41,a42,a43,v51.1,(len v51.1),())
 let x12:=(x.1,x.2.1,(0:Int),())
 let e12:=(zB9 (wA y12) (xY0 y12) x12)
 ((v44 = true → (InB a43 (len a41) ∧ ((vM3 a11 v46) ∧ (Am.Ends (wA y12) (xY0 y12) (wE0 y12) x12)))),(v44 && (tJ8 y12 e12)),((uH3 y12 e12),(uH4 y12 e12),(IntKind.wrap .i64 (a43 + 1)),()),(v44 && (tJ7 y12 e12)),(!v44))
def wO3 (y:wD0) (x:wA4):Prop:=(vU y x).1
def wZ1 (y:wD0) (x:wA4):Bool:=(vU y x).2.1
def wD7 (y:wD0) (x:wA4):wA4:=(vU y x).2.2.1
def uO0 (y:wD0) (x:wA4):Bool:=(vU y x).2.2.2.1
def rX0 (y:wD0) (x:wA4):Bool:=(vU y x).2.2.2.2
instance (y:wD0) (x:wA4):Decidable (wO3 y x):=by
 unfold wO3 vU
 try dsimp only
 infer_instance
def vP0 (y:wD0) (x:wA4):(List (List D94)) :=
 let a11:=y.2.2.1
 let a41:=y.2.2.2.1
 let a43:=x.2.2.1
 let v51:=(f138 a11 (nth a41 a43 ([]:List UInt8)))
 let y12:=(y.1,y.2.1,a11,a43,a41,y.2.2.2.2.1,a43,v51.1,(len v51.1),())
 (vL y12 (zB9 (wA y12) (xY0 y12) (x.1,x.2.1,(0:Int),())))
def uV (y:wD0) (x:wA4):Int :=
 let a11:=y.2.2.1
 let a41:=y.2.2.2.1
 let a43:=x.2.2.1
 let v51:=(f138 a11 (nth a41 a43 ([]:List UInt8)))
 let y12:=(y.1,y.2.1,a11,a43,a41,y.2.2.2.2.1,a43,v51.1,(len v51.1),())
 (uH2 y12 (zB9 (wA y12) (xY0 y12) (x.1,x.2.1,(0:Int),())))
def tV9:List (Nat × Sh):=[(8,(.own (.sl T94) 0 false)),(9,vI)]
def vP1 (y:wD0) (x:wA4):(List (List D94)) :=
 x.1
def tW:List (Nat × Sh):=[(12,(.own (.sl T94) 1012 false))]
def uV0:St → Option Out:=xO8 [(2,vI),(4,(.box T155 (.val T155))),(11,(.val (.ptr T205))),(41,(.val (.sl .str))),(42,vI)] [(12,(.own (.sl T94) 1012 false)),(13,vI),(43,vI)] wZ1 wD7 wO3 fun y x=>[ex 1 (some (uO0 y x)) tV9 ((vP0 y x),(uV y x),()),ex 2 (some (rX0 y x)) tW ((vP1 y x),())]
def pD9 (p0:D155) (p1:(List UInt8)) (p2:Int) (p3:Int):Prop × ((List (List D94)) × Int × Unit) :=
 let v31:=(f135 p0 p1 p2 p3)
 let v33:=(v31 != 0)
 let v36:=(f136 p0)
 let v41:=(f137 v36 p1 p2 p3)
 let y8:=(p2,p0,v36,v41,(len v41),())
 let x8:=(([]:List (List D94)),(0:Int),(0:Int),())
 let e8:=(zB9 (wZ1 y8) (wD7 y8) x8)
 let q8_1:=(uO0 y8 e8)
 (((tI7 p0 p1 p2 p3) ∧ ((!v33) = true → ((tJ0 p0) ∧ ((vJ5 v36 p1 p2 p3) ∧ (Am.Ends (wZ1 y8) (wD7 y8) (wO3 y8) x8))))),((bif v33 then [] else (bif q8_1 then (vP0 y8 e8) else (vP1 y8 e8))),(bif v33 then v31 else (bif q8_1 then (uV y8 e8) else (0:Int))),()))
def tK0 (p0:D155) (p1:(List UInt8)) (p2:Int) (p3:Int):Prop:=(pD9 p0 p1 p2 p3).1
def f118 (p0:D155) (p1:(List UInt8)) (p2:Int) (p3:Int):((List (List D94)) × Int × Unit):=(pD9 p0 p1 p2 p3).2
instance (p0:D155) (p1:(List UInt8)) (p2:Int) (p3:Int):Decidable (tK0 p0 p1 p2 p3):=by
 unfold tK0 pD9
 try dsimp only
 infer_instance
def sP:Am.Spec:=fnSpec [(0,(.val T155)),(1,vS),(2,vI),(3,vI)] (.tup (.cons (.own (.sl T94) 0 false) (.cons vI .nl))) [] (fun x=>tK0 x.1 x.2.1 x.2.2.1 x.2.2.2.1) (fun x=>f118 x.1 x.2.1 x.2.2.1 x.2.2.2.1) (fun _=>())
def uH6:Ctx:=Cx tys [(97,wK8),(114,tG0),(135,sO8),(136,sO9),(137,sK),(138,tC5)] [(25,uG8),(18,uH1),(12,uH5),(8,uV0)] [(21,[(4,0,51,1016)]),(29,[(4,0,68,1020)]),(47,[(4,0,88,1024)]),(58,[(1,24,0,0)]),(59,[(4,0,129,1012)]),(67,[(4,0,1012,0)])] true 134 [] [88]
theorem uH7:CtxOk Tryz.prog uH6:=xV6 tys_ok rfl ⟨vM2,qF3,oI9,oJ0,pZ,qA7,trivial⟩ rfl (by kernel_rfl)
noncomputable def qH2:Code:=Tryz.f118.body.getD .skip
noncomputable def rA3:Code:=xW5 qH2 0
noncomputable def sD4:Code:=xW5 rA3 0
noncomputable def sD5:Code:=xW5 sD4 0
noncomputable def rM6:Code:=xW5 sD5 0
theorem rA4:yU1 Tryz.prog uH6 rM6:=xX3 uH7 mixed (sp:=uG8) rfl [tJ2] (bs:=[]) (by kernel_rfl) trivial (by kernel_rfl) (by kernel_rfl) fun y x=>by kernel_rfl
theorem rA5:yU1 Tryz.prog uH6 sD5:=xX3 uH7 mixed (sp:=uH1) rfl [tJ5,tJ6] (bs:=[rM6]) (by kernel_rfl) ⟨rA4,trivial⟩ (by kernel_rfl) (by kernel_rfl) fun y x=>by kernel_rfl
theorem rA6:yU1 Tryz.prog uH6 sD4:=xX3 uH7 mixed (sp:=uH5) rfl [tJ9,tK] (bs:=[sD5]) (by kernel_rfl) ⟨rA5,trivial⟩ (by kernel_rfl) (by kernel_rfl) fun y x=>by kernel_rfl
theorem rX1:yU1 Tryz.prog uH6 rA3:=xX3 uH7 mixed (sp:=uV0) rfl [tV9,tW] (bs:=[sD4]) (by kernel_rfl) ⟨rA6,trivial⟩ (by kernel_rfl) (by kernel_rfl) fun y x=>by kernel_rfl
theorem oJ1:SpecOk Tryz.prog 118 sP:=xX4 uH7 mixed Tryz.func118 (by kernel_rfl) (bs:=[rA3]) (by kernel_rfl) ⟨rX1,trivial⟩ fun x=>by kernel_rfl
def f139 (p0:List UInt8):List (List UInt8):=Lib.fields p0
def tK1 (p0:List UInt8):Prop:=(List.length p0:Int) ≤ 4294967280 ∧ (p0.all fun b=>decide (b.toNat < 128)) = true
instance (p0:List UInt8):Decidable (tK1 p0):=by
  unfold tK1
  infer_instance
def oJ2:List (Nat × Sh):=[(0,(.val .str))]
def oJ3:Sh:=(.val (.sl .str))
def oJ4:List (Nat × Sh):=[]
def sP0:Am.Spec:=fnSpec oJ2 oJ3 oJ4 (fun x=>tK1 x.1) (fun x=>f139 x.1) (fun _=>())
theorem tab0:G0 = Lib.asciiSpaceTab:=by kernel_rfl
theorem oJ5:SpecOk Tryz.prog 139 sP0:=xU9 (F:=f139) (e:=9) (ok:=tK1) ⟨_,Tryz.func139,by kernel_rfl,by decide⟩ fun s w χ hok hg =>
  Any.strings_Fields_core Tryz.lays157 (by kernel_rfl) s w (by have h1:=hok.1; rw [Array.length_toList] at h1; have h2:s.data.size = s.size:=rfl; omega)
    (fun j b hj=>by have:=List.all_eq_true.1 hok.2 b (List.mem_of_getElem? hj); simpa using this)
    (fun c hc=>by
      have h1:=xV9 hg (g:=0) (n:=256) (k:=.u8) (l:=G0) (List.mem_cons_self ..) c hc
      rw [tab0,Lib.asciiSpaceTab_at c hc] at h1
      exact h1)
def oJ6 (p0:(List UInt8)) (p1:Int):Prop × Int :=
 ((sA5 p0 p1),(f161 p0 p1))
def tK2 (p0:(List UInt8)) (p1:Int):Prop:=(oJ6 p0 p1).1
def f140 (p0:(List UInt8)) (p1:Int):Int:=(oJ6 p0 p1).2
instance (p0:(List UInt8)) (p1:Int):Decidable (tK2 p0 p1):=by
 unfold tK2 oJ6
 try dsimp only
 infer_instance
def sP1:Am.Spec:=fnSpec [(0,vS),(1,(.val (.int .u8)))] vI [] (fun x=>tK2 x.1 x.2.1) (fun x=>f140 x.1 x.2.1) (fun _=>())
def pE:Ctx:=Cx tys [(161,sJ0)] [] [] false 8 [] []
theorem pE0:CtxOk Tryz.prog pE:=xV6 tys_ok rfl ⟨pW6,trivial⟩ rfl (by kernel_rfl)
theorem oJ7:SpecOk Tryz.prog 140 sP1:=xX4 pE0 mixed Tryz.func140 (by kernel_rfl) (bs:=[]) (by kernel_rfl) trivial fun x=>by kernel_rfl
def oJ8 (p0:Int) (p1:Int) (p2:Int) (p3:Int):Prop × (List D97) :=
 let v30:=([((1:Int),([(p0,p1,()),Z94,Z94]:List D94),()),((2:Int),([(p2,p1,()),Z94,Z94]:List D94),()),((2:Int),([(p2,p3,()),Z94,Z94]:List D94),()),((2:Int),([(p0,p3,()),Z94,Z94]:List D94),()),((5:Int),(List.replicate 3 Z94),())]:List D97)
 (True,v30)
def sD6 (p0:Int) (p1:Int) (p2:Int) (p3:Int):Prop:=(oJ8 p0 p1 p2 p3).1
def f162 (p0:Int) (p1:Int) (p2:Int) (p3:Int):(List D97):=(oJ8 p0 p1 p2 p3).2
instance (p0:Int) (p1:Int) (p2:Int) (p3:Int):Decidable (sD6 p0 p1 p2 p3):=by
 unfold sD6 oJ8
 try dsimp only
 infer_instance
def sP2:Am.Spec:=fnSpec [(0,vI),(1,vI),(2,vI),(3,vI)] (.own T97 0 false) [] (fun x=>sD6 x.1 x.2.1 x.2.2.1 x.2.2.2.1) (fun x=>f162 x.1 x.2.1 x.2.2.1 x.2.2.2.1) (fun _=>())
def pE1:Ctx:=Cx tys [] [] [(3,[(4,0,30,0)])] false 31 [] []
theorem pE2:CtxOk Tryz.prog pE1:=xV6 tys_ok rfl trivial rfl (by kernel_rfl)
theorem oJ9:SpecOk Tryz.prog 162 sP2:=xX4 pE2 mixed Tryz.func162 (by kernel_rfl) (bs:=[]) (by kernel_rfl) trivial fun x=>by kernel_rfl
abbrev vH6:Type:=(Int × Int × (List D97) × Int × Unit)
abbrev wS9:Type:=(Int × Unit)
def uZ7 (y:vH6) (x:wS9):Prop × Bool × wS9 :=
 let a7:=x.1
 let v20:=(decide ((a7 + 1) < 7))
 let v24:=(a7 + 1)
 let v28:=(bif v20 then ((xX5 .i64 (xX6 y.2.1 v24 64) (1:Int)) == 1) else false)
 ((InR (a7 + 1) ∧ ((v20 = true → InR (a7 + 1)) ∧ ((v20 = true → 0 ≤ v24) ∧ (v28 = true → InR (a7 + 1))))),v28,((a7 + 1),()))
def vU0 (y:vH6) (x:wS9):Prop:=(uZ7 y x).1
def tK3 (y:vH6) (x:wS9):Bool:=(uZ7 y x).2.1
def vP2 (y:vH6) (x:wS9):wS9:=(uZ7 y x).2.2
instance (y:vH6) (x:wS9):Decidable (vU0 y x):=by
 unfold vU0 uZ7
 try dsimp only
 infer_instance
def uV1 (y:vH6) (x:wS9):Int :=
 x.1
def tW0:List (Nat × Sh):=[(0,vI),(1,vI),(5,(.own T97 1005 false)),(6,vI),(7,vI)]
def uV2:St → Option Out:=xO8 [(0,vI),(1,vI),(5,(.own T97 1005 false)),(6,vI)] [(7,vI)] tK3 vP2 vU0 fun y x=>[ex 4 none tW0 (y.1,y.2.1,y.2.2.1,y.2.2.2.1,(uV1 y x),())]
abbrev vH7:Type:=(Unit)
abbrev wT:Type:=(Int × Int × (List D97) × Int × Unit)
def uZ8 (y:vH7) (x:wT):Prop × Bool × wT :=
 let a0:=x.1
 let a1:=x.2.1
 let a5:=x.2.2.1
 let a6:=x.2.2.2.1
 let v9:=(decide (a6 < 7))
 let v16:=((xX5 .i64 (xX6 a1 a6 64) (1:Int)) == 0)
 let y7:=(a0,a1,a5,a6,())
 let x7:=(a6,())
 let r7_4_0:=(uV1 y7 (zB9 (tK3 y7) (vP2 y7) x7))
 let v33:=(100 * a0)
 let v35:=(100 * a6)
 let v36:=(700 - v35)
 let v38:=(100 * a0)
 let v39:=(v38 + 100)
 let v41:=(100 * r7_4_0)
 let v42:=(600 - v41)
 let v43:=(f162 v33 v36 v39 v42)
 let c:=(v16 || (!v16))
 let m6:=(bif v16 then a6 else r7_4_0)
 ((v9 = true → (0 ≤ a6 ∧ (((!v16) = true → ((Am.Ends (tK3 y7) (vP2 y7) (vU0 y7) x7) ∧ (InR (100 * a0) ∧ (InR (100 * a6) ∧ (InR (700 - v35) ∧ (InR (100 * a0) ∧ (InR (v38 + 100) ∧ (InR (100 * r7_4_0) ∧ (InR (600 - v41) ∧ ((sD6 v33 v36 v39 v42) ∧ ((List.length a5 + List.length v43:Nat):Int) ≤ 4294967296)))))))))) ∧ (c = true → InR (m6 + 1))))),(v9 && c),((bif v16 then a0 else a0),(bif v16 then a1 else a1),(bif v16 then a5 else (a5 ++ v43)),(m6 + 1),()))
def vU1 (y:vH7) (x:wT):Prop:=(uZ8 y x).1
def tK4 (y:vH7) (x:wT):Bool:=(uZ8 y x).2.1
def vP3 (y:vH7) (x:wT):wT:=(uZ8 y x).2.2
instance (y:vH7) (x:wT):Decidable (vU1 y x):=by
 unfold vU1 uZ8
 try dsimp only
 infer_instance
def uV3 (y:vH7) (x:wT):(List D97) :=
 x.2.2.1
def uV4:St → Option Out:=xO8 [] [(0,vI),(1,vI),(5,(.own T97 1005 false)),(6,vI)] tK4 vP3 vU1 fun y x=>[ex 2 none [(5,(.own T97 1005 false))] ((uV3 y x),())]
def oK (p0:Int) (p1:Int):Prop × (List D97) :=
 let x3:=(p0,p1,([]:List D97),(0:Int),())
 ((Am.Ends (tK4 ()) (vP3 ()) (vU1 ()) x3),(uV3 () (zB9 (tK4 ()) (vP3 ()) x3)))
def sD7 (p0:Int) (p1:Int):Prop:=(oK p0 p1).1
def f141 (p0:Int) (p1:Int):(List D97):=(oK p0 p1).2
instance (p0:Int) (p1:Int):Decidable (sD7 p0 p1):=by
 unfold sD7 oK
 try dsimp only
 infer_instance
def sP3:Am.Spec:=fnSpec [(0,vI),(1,vI)] (.own T97 0 false) [] (fun x=>sD7 x.1 x.2.1) (fun x=>f141 x.1 x.2.1) (fun _=>())
def sD8:Ctx:=Cx tys [(162,sP2)] [(7,uV2),(3,uV4)] [(19,[(4,0,44,1005)]),(23,[(4,0,1005,0)])] false 47 [] []
theorem sD9:CtxOk Tryz.prog sD8:=xV6 tys_ok rfl ⟨oJ9,trivial⟩ rfl (by kernel_rfl)
noncomputable def qH3:Code:=Tryz.f141.body.getD .skip
noncomputable def rA7:Code:=xW5 qH3 0
noncomputable def qH4:Code:=xW5 rA7 0
theorem rX2:yU1 Tryz.prog sD8 qH4:=xX3 sD9 mixed (sp:=uV2) rfl [tW0] (bs:=[]) (by kernel_rfl) trivial (by kernel_rfl) (by kernel_rfl) fun y x=>by kernel_rfl
theorem rX3:yU1 Tryz.prog sD8 rA7:=xX3 sD9 mixed (sp:=uV4) rfl [[(5,(.own T97 1005 false))]] (bs:=[qH4]) (by kernel_rfl) ⟨rX2,trivial⟩ (by kernel_rfl) (by kernel_rfl) fun y x=>by kernel_rfl
theorem oK0:SpecOk Tryz.prog 141 sP3:=xX4 sD9 mixed Tryz.func141 (by kernel_rfl) (bs:=[rA7]) (by kernel_rfl) ⟨rX3,trivial⟩ fun x=>by kernel_rfl
abbrev wT0:Type:=((List UInt8) × (List (List UInt8)) × Int × Int × Int × Unit)
abbrev wJ7:Type:=((Int × Int × Int × (List D184) × (List D189) × Unit) × (Int × Int × Int × (List D184) × (List D189) × Unit) × (Int × Int × (List D97) × Unit) × Int × Unit)
def uZ9 (y:wT0) (x:wJ7):Prop × Bool × wJ7 :=
 let a3:=y.1
 let a0:=x.1
 let a1:=x.2.1
 let a4:=x.2.2.1
 let a22:=x.2.2.2.1
 let v23:=(decide (a22 < y.2.2.2.2.1))
 let v27:=(2 * a22)
 let v28:=(xW8 a3 v27)
 let v29:=(f140 ([48,49,50,51,52,53,54,55,56,57,97,98,99,100,101,102]:List UInt8) v28)
 let v30:=(16 * v29)
 let v33:=(2 * a22)
 let v34:=(v33 + 1)
 let v35:=(xW8 a3 v34)
 let v36:=(f140 ([48,49,50,51,52,53,54,55,56,57,97,98,99,100,101,102]:List UInt8) v35)
 let v37:=(v30 + v36)
 let v42:=(f141 a22 v37)
 ((v23 = true → (InR (2 * a22) ∧ (InB v27 (len a3) ∧ ((tK2 ([48,49,50,51,52,53,54,55,56,57,97,98,99,100,101,102]:List UInt8) v28) ∧ (InR (16 * v29) ∧ (InR (2 * a22) ∧ (InR (v33 + 1) ∧ (InB v34 (len a3) ∧ ((tK2 ([48,49,50,51,52,53,54,55,56,57,97,98,99,100,101,102]:List UInt8) v35) ∧ (InR (v30 + v36) ∧ ((sD7 a22 v37) ∧ (((List.length a4.2.2.1 + List.length v42:Nat):Int) ≤ 4294967296 ∧ InR (a22 + 1))))))))))))),v23,((a0.1,a0.2.1,a0.2.2.1,a0.2.2.2.1,a0.2.2.2.2.1,()),(a1.1,a1.2.1,a1.2.2.1,a1.2.2.2.1,a1.2.2.2.2.1,()),(a4.1,a4.2.1,(a4.2.2.1 ++ v42),()),(a22 + 1),()))
def vU2 (y:wT0) (x:wJ7):Prop:=(uZ9 y x).1
def tK5 (y:wT0) (x:wJ7):Bool:=(uZ9 y x).2.1
def vP4 (y:wT0) (x:wJ7):wJ7:=(uZ9 y x).2.2
instance (y:wT0) (x:wJ7):Decidable (vU2 y x):=by
 unfold vU2 uZ9
 try dsimp only
 infer_instance
def uV5 (y:wT0) (x:wJ7):(Int × Int × Int × (List D184) × (List D189) × Unit) :=
 let a0:=x.1
 (a0.1,a0.2.1,a0.2.2.1,a0.2.2.2.1,a0.2.2.2.2.1,())
def uV6 (y:wT0) (x:wJ7):(Int × Int × Int × (List D184) × (List D189) × Unit) :=
 let a1:=x.2.1
 (a1.1,a1.2.1,a1.2.2.1,a1.2.2.2.1,a1.2.2.2.2.1,())
def uV7 (y:wT0) (x:wJ7):(Int × Int × (List D97) × Unit) :=
 let a4:=x.2.2.1
 (a4.1,a4.2.1,a4.2.2.1,())
def tW1:List (Nat × Sh):=[(0,(.box T155 (.agg (.cons (.int .i64) (.cons (.int .i64) (.cons (.int .i64) (.cons (.sl T184) (.cons (.sl T189) .nl))))) (.cons vI (.cons vI (.cons vI (.cons (.own T184 400000 false) (.cons (.own T189 400001 false) .nl)))))))),(1,(.box T155 (.agg (.cons (.int .i64) (.cons (.int .i64) (.cons (.int .i64) (.cons (.sl T184) (.cons (.sl T189) .nl))))) (.cons vI (.cons vI (.cons vI (.cons (.own T184 400100 false) (.cons (.own T189 400101 false) .nl)))))))),(4,(.box T184 (.agg (.cons (.int .u8) (.cons (.int .i64) (.cons (.sl T97) .nl))) (.cons (.val (.int .u8)) (.cons vI (.cons (.own T97 400400 false) .nl)))))),(8,(.val (.sl .str))),(9,vI),(10,vI)]
def uV8:St → Option Out:=xO8 [(3,vS),(8,(.val (.sl .str))),(9,vI),(10,vI),(21,vI)] [(0,(.box T155 (.agg (.cons (.int .i64) (.cons (.int .i64) (.cons (.int .i64) (.cons (.sl T184) (.cons (.sl T189) .nl))))) (.cons vI (.cons vI (.cons vI (.cons (.own T184 400000 false) (.cons (.own T189 400001 false) .nl)))))))),(1,(.box T155 (.agg (.cons (.int .i64) (.cons (.int .i64) (.cons (.int .i64) (.cons (.sl T184) (.cons (.sl T189) .nl))))) (.cons vI (.cons vI (.cons vI (.cons (.own T184 400100 false) (.cons (.own T189 400101 false) .nl)))))))),(4,(.box T184 (.agg (.cons (.int .u8) (.cons (.int .i64) (.cons (.sl T97) .nl))) (.cons (.val (.int .u8)) (.cons vI (.cons (.own T97 400400 false) .nl)))))),(22,vI)] tK5 vP4 vU2 fun y x=>[ex 4 none tW1 ((uV5 y x),(uV6 y x),(uV7 y x),y.2.1,y.2.2.1,y.2.2.2.1,())]
abbrev wZ2:Type:=((List (List UInt8)) × Int × Unit)
abbrev wN:Type:=((Int × Int × Int × (List D184) × (List D189) × Unit) × (Int × Int × Int × (List D184) × (List D189) × Unit) × Int × Unit)
def tA (y:wZ2) (x:wN):Prop × Bool × wN :=
 let a8:=y.1
 let a9:=y.2.1
 let a0:=x.1
 let a1:=x.2.1
 let a10:=x.2.2.1
 let v11:=(decide (a10 < a9))
 let v13:=(nth a8 a10 ([]:List UInt8))
 let v20:=(len v13)
 let y7:=(v13,a8,a9,a10,(Int.tdiv v20 (2:Int)),())
 let x7:=((a0.1,a0.2.1,a0.2.2.1,a0.2.2.2.1,a0.2.2.2.2.1,()),(a1.1,a1.2.1,a1.2.2.1,a1.2.2.2.1,a1.2.2.2.2.1,()),((IntKind.wrap .u8 (32 + a10)),(600:Int),([]:List D97),()),(0:Int),())
 let e7:=(zB9 (tK5 y7) (vP4 y7) x7)
 let r7_4_0:=(uV5 y7 e7)
 let r7_4_1:=(uV6 y7 e7)
 let r7_4_2:=(uV7 y7 e7)
 let v49:=([(r7_4_2.1,r7_4_2.2.1,r7_4_2.2.2.1,())]:List D184)
 ((v11 = true → (InB a10 (len a8) ∧ (InR (32 + a10) ∧ (InR (Int.tdiv v20 (2:Int)) ∧ ((Am.Ends (tK5 y7) (vP4 y7) (vU2 y7) x7) ∧ (((List.length r7_4_1.2.2.2.1 + List.length v49:Nat):Int) ≤ 4294967296 ∧ InR (a10 + 1))))))),v11,((r7_4_0.1,r7_4_0.2.1,r7_4_0.2.2.1,r7_4_0.2.2.2.1,r7_4_0.2.2.2.2.1,()),(r7_4_1.1,r7_4_1.2.1,r7_4_1.2.2.1,(r7_4_1.2.2.2.1 ++ v49),r7_4_1.2.2.2.2.1,()),(a10 + 1),()))
def vU3 (y:wZ2) (x:wN):Prop:=(tA y x).1
def tK6 (y:wZ2) (x:wN):Bool:=(tA y x).2.1
def vP5 (y:wZ2) (x:wN):wN:=(tA y x).2.2
instance (y:wZ2) (x:wN):Decidable (vU3 y x):=by
 unfold vU3 tA
 try dsimp only
 infer_instance
def sP4 (y:wZ2) (x:wN):(Int × Int × Int × (List D184) × (List D189) × Unit) :=
 let a0:=x.1
 (a0.1,a0.2.1,a0.2.2.1,a0.2.2.2.1,a0.2.2.2.2.1,())
def uV9 (y:wZ2) (x:wN):(Int × Int × Int × (List D184) × (List D189) × Unit) :=
 let a1:=x.2.1
 (a1.1,a1.2.1,a1.2.2.1,a1.2.2.2.1,a1.2.2.2.2.1,())
def tW2:List (Nat × Sh):=[(0,(.box T155 (.agg (.cons (.int .i64) (.cons (.int .i64) (.cons (.int .i64) (.cons (.sl T184) (.cons (.sl T189) .nl))))) (.cons vI (.cons vI (.cons vI (.cons (.own T184 400000 false) (.cons (.own T189 400001 false) .nl)))))))),(1,(.box T155 (.agg (.cons (.int .i64) (.cons (.int .i64) (.cons (.int .i64) (.cons (.sl T184) (.cons (.sl T189) .nl))))) (.cons vI (.cons vI (.cons vI (.cons (.own T184 400100 false) (.cons (.own T189 400101 false) .nl))))))))]
def uW:St → Option Out:=xO8 [(8,(.val (.sl .str))),(9,vI)] [(0,(.box T155 (.agg (.cons (.int .i64) (.cons (.int .i64) (.cons (.int .i64) (.cons (.sl T184) (.cons (.sl T189) .nl))))) (.cons vI (.cons vI (.cons vI (.cons (.own T184 400000 false) (.cons (.own T189 400001 false) .nl)))))))),(1,(.box T155 (.agg (.cons (.int .i64) (.cons (.int .i64) (.cons (.int .i64) (.cons (.sl T184) (.cons (.sl T189) .nl))))) (.cons vI (.cons vI (.cons vI (.cons (.own T184 400100 false) (.cons (.own T189 400101 false) .nl)))))))),(10,vI)] tK6 vP5 vU3 fun y x=>[ex 2 none tW2 ((sP4 y x),(uV9 y x),())]
def oK1 :Prop × D155 :=
 let v8:=(f139 lit0)
 let y3:=(v8,(len v8),())
 let x3:=(((0:Int),(0:Int),(0:Int),([]:List D184),([]:List D189),()),((1000:Int),(800:Int),(1200:Int),([]:List D184),([]:List D189),()),(0:Int),())
 let r3_2_1:=(uV9 y3 (zB9 (tK6 y3) (vP5 y3) x3))
 let s_6:=(r3_2_1.1,r3_2_1.2.1,r3_2_1.2.2.1,r3_2_1.2.2.2.1,([((65:Int),(86:Int),(-100:Int),()),((76:Int),(84:Int),(-100:Int),()),((84:Int),(97:Int),(-100:Int),()),((86:Int),(65:Int),(-100:Int),())]:List D189),())
 (((tK1 lit0) ∧ (Am.Ends (tK6 y3) (vP5 y3) (vU3 y3) x3)),s_6)
def tK7 :Prop:=(oK1).1
def f119 :D155:=(oK1).2
instance :Decidable (tK7):=by
 unfold tK7 oK1
 try dsimp only
 infer_instance
def sP5:Am.Spec:=fnSpec [] (.val T155) [] (fun x=>tK7 ) (fun x=>f119 ) (fun _=>())
def sE:Ctx:=Cx tys [(139,sP0),(140,sP1),(141,sP3)] [(7,uV8),(3,uW)] [(21,[(4,0,43,400400)]),(25,[(4,0,50,400100)]),(29,[(4,0,57,400101)]),(31,[(4,0,400100,400000),(4,0,400101,400001)])] false 60 [] []
theorem sE0:CtxOk Tryz.prog sE:=xV6 tys_ok rfl ⟨oJ5,oJ7,oK0,trivial⟩ rfl (by kernel_rfl)
noncomputable def qH5:Code:=Tryz.f119.body.getD .skip
noncomputable def rA8:Code:=xW5 qH5 0
noncomputable def qH6:Code:=xW5 rA8 0
theorem rX4:yU1 Tryz.prog sE qH6:=xX3 sE0 mixed (sp:=uV8) rfl [tW1] (bs:=[]) (by kernel_rfl) trivial (by kernel_rfl) (by kernel_rfl) fun y x=>by kernel_rfl
theorem rX5:yU1 Tryz.prog sE rA8:=xX3 sE0 mixed (sp:=uW) rfl [tW2] (bs:=[qH6]) (by kernel_rfl) ⟨rX4,trivial⟩ (by kernel_rfl) (by kernel_rfl) fun y x=>by kernel_rfl
theorem oK2:SpecOk Tryz.prog 119 sP5:=xX4 sE0 mixed Tryz.func119 (by kernel_rfl) (bs:=[rA8]) (by kernel_rfl) ⟨rX5,trivial⟩ fun x=>by kernel_rfl
end Go.Proofs.YtigpekbhmpfcoaaGreatDoor.Am
