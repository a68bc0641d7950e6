/- Printed by program, part 2. No condition. -/
import Derived.Test.YtigpekbhmpfcoaaGreatDoorRetL
set_option linter.unusedVariables false
set_option synthInstance.maxSize 4000
set_option synthInstance.maxHeartbeats 400000
namespace Go.Proofs.YtigpekbhmpfcoaaGreatDoor.Am
open Go Go.Am Go.Proofs
abbrev vB4:Type:=((List Int) × (List Int) × Int × Unit)
abbrev wP9:Type:=(Int × Unit)
def uO5 (y:vB4) (x:wP9):Prop × Bool × wP9 × Bool × Bool :=
 let a0:=y.1
 let a1:=y.2.1
 let a13:=x.1
 let v14:=(decide (a13 < y.2.2.1))
 let v24:=((nth a0 a13 (0:Int)) != (nth a1 a13 (0:Int)))
 ((v14 = true → (InB a13 (len a0) ∧ (InB a13 (len a1) ∧ ((!v24) = true → InR (a13 + 1))))),(v14 && (!v24)),((a13 + 1),()),(v14 && v24),(!v14))
def uD6 (y:vB4) (x:wP9):Prop:=(uO5 y x).1
def uD7 (y:vB4) (x:wP9):Bool:=(uO5 y x).2.1
def wY9 (y:vB4) (x:wP9):wP9:=(uO5 y x).2.2.1
def sL8 (y:vB4) (x:wP9):Bool:=(uO5 y x).2.2.2.1
def qC3 (y:vB4) (x:wP9):Bool:=(uO5 y x).2.2.2.2
instance (y:vB4) (x:wP9):Decidable (uD6 y x):=by
 unfold uD6 uO5
 try dsimp only
 infer_instance
def tF (y:vB4) (x:wP9):Bool :=
 false
def tF0:St → Option Out:=xO8 [(0,(.val (.sl (.int .i64)))),(1,(.val (.sl (.int .i64)))),(12,vI)] [(13,vI)] uD7 wY9 uD6 fun y x=>[ex 1 (some (sL8 y x)) [(4,vB)] ((tF y x),()),ex 2 (some (qC3 y x)) [] ()]
def f30t (p0:(List Int)) (p1:(List Int)):Prop × Bool :=
 let v10:=((len p0) != (len p1))
 let y4:=(p0,p1,(len p0),())
 let x4:=((0:Int),())
 let e4:=(zB9 (uD7 y4) (wY9 y4) x4)
 (((!v10) = true → (Am.Ends (uD7 y4) (wY9 y4) (uD6 y4) x4)),(bif v10 then false else (bif (sL8 y4 e4) then (tF y4 e4) else true)))
def tF1 (p0:(List Int)) (p1:(List Int)):Prop:=(f30t p0 p1).1
def f30 (p0:(List Int)) (p1:(List Int)):Bool:=(f30t p0 p1).2
instance (p0:(List Int)) (p1:(List Int)):Decidable (tF1 p0 p1):=by
 unfold tF1 f30t
 try dsimp only
 infer_instance
def tB0:Am.Spec:=fnSpec [(0,(.val (.sl (.int .i64)))),(1,(.val (.sl (.int .i64))))] vB [] (fun x=>tF1 x.1 x.2.1) (fun x=>f30 x.1 x.2.1) (fun _=>())
def qC4:Ctx:=Cx tys [] [(4,tF0)] [] false 26 [] []
theorem qC5:CtxOk Tryz.prog qC4:=xV6 tys_ok rfl trivial rfl (by kernel_rfl)
noncomputable def qZ3:Code:=Tryz.f30.body.getD .skip
noncomputable def pR2:Code:=xW5 qZ3 0
theorem qC6:yU1 Tryz.prog qC4 pR2:=xX3 qC5 mixed (sp:=tF0) rfl [[(4,vB)],[]] (bs:=[]) (by kernel_rfl) trivial (by kernel_rfl) (by kernel_rfl) fun y x=>by kernel_rfl
theorem qC7:SpecOk Tryz.prog 30 tB0:=xX4 qC5 mixed Tryz.func30 (by kernel_rfl) (bs:=[pR2]) (by kernel_rfl) ⟨qC6,trivial⟩ fun x=>by kernel_rfl
abbrev vB5:Type:=((List D50) × (List D50) × Int × Unit)
abbrev wQ:Type:=(Int × Unit)
def uO6 (y:vB5) (x:wQ):Prop × Bool × wQ × Bool × Bool :=
 let a0:=y.1
 let a1:=y.2.1
 let a13:=x.1
 let v14:=(decide (a13 < y.2.2.1))
 let v24:=(!(Ty.eqb T50 (nth a0 a13 Z50) (nth a1 a13 Z50)))
 ((v14 = true → (InB a13 (len a0) ∧ (InB a13 (len a1) ∧ ((!v24) = true → InR (a13 + 1))))),(v14 && (!v24)),((a13 + 1),()),(v14 && v24),(!v14))
def uD8 (y:vB5) (x:wQ):Prop:=(uO6 y x).1
def uD9 (y:vB5) (x:wQ):Bool:=(uO6 y x).2.1
def wZ (y:vB5) (x:wQ):wQ:=(uO6 y x).2.2.1
def sL9 (y:vB5) (x:wQ):Bool:=(uO6 y x).2.2.2.1
def qC8 (y:vB5) (x:wQ):Bool:=(uO6 y x).2.2.2.2
instance (y:vB5) (x:wQ):Decidable (uD8 y x):=by
 unfold uD8 uO6
 try dsimp only
 infer_instance
def tF2 (y:vB5) (x:wQ):Bool :=
 false
def tF3:St → Option Out:=xO8 [(0,(.val (.sl T50))),(1,(.val (.sl T50))),(12,vI)] [(13,vI)] uD9 wZ uD8 fun y x=>[ex 1 (some (sL9 y x)) [(4,vB)] ((tF2 y x),()),ex 2 (some (qC8 y x)) [] ()]
def f69t (p0:(List D50)) (p1:(List D50)):Prop × Bool :=
 let v10:=((len p0) != (len p1))
 let y4:=(p0,p1,(len p0),())
 let x4:=((0:Int),())
 let e4:=(zB9 (uD9 y4) (wZ y4) x4)
 (((!v10) = true → (Am.Ends (uD9 y4) (wZ y4) (uD8 y4) x4)),(bif v10 then false else (bif (sL9 y4 e4) then (tF2 y4 e4) else true)))
def sM (p0:(List D50)) (p1:(List D50)):Prop:=(f69t p0 p1).1
def f69 (p0:(List D50)) (p1:(List D50)):Bool:=(f69t p0 p1).2
instance (p0:(List D50)) (p1:(List D50)):Decidable (sM p0 p1):=by
 unfold sM f69t
 try dsimp only
 infer_instance
def rJ5:Am.Spec:=fnSpec [(0,(.val (.sl T50))),(1,(.val (.sl T50)))] vB [] (fun x=>sM x.1 x.2.1) (fun x=>f69 x.1 x.2.1) (fun _=>())
def qC9:Ctx:=Cx tys [] [(4,tF3)] [] false 26 [] []
theorem qD:CtxOk Tryz.prog qC9:=xV6 tys_ok rfl trivial rfl (by kernel_rfl)
noncomputable def qZ4:Code:=Tryz.f69.body.getD .skip
noncomputable def pR3:Code:=xW5 qZ4 0
theorem qD0:yU1 Tryz.prog qC9 pR3:=xX3 qD mixed (sp:=tF3) rfl [[(4,vB)],[]] (bs:=[]) (by kernel_rfl) trivial (by kernel_rfl) (by kernel_rfl) fun y x=>by kernel_rfl
theorem nA1:SpecOk Tryz.prog 69 rJ5:=xX4 qD mixed Tryz.func69 (by kernel_rfl) (bs:=[pR3]) (by kernel_rfl) ⟨qD0,trivial⟩ fun x=>by kernel_rfl
def f44t (p0:D48) (p1:D48):Prop × Bool :=
 let v16:=(bif (p0.1 == p1.1) then (p0.2.1 == p1.2.1) else false)
 ((v16 = true → (sM p0.2.2.1 p1.2.2.1)),(bif v16 then (f69 p0.2.2.1 p1.2.2.1) else false))
def tV5 (p0:D48) (p1:D48):Prop:=(f44t p0 p1).1
def f44 (p0:D48) (p1:D48):Bool:=(f44t p0 p1).2
instance (p0:D48) (p1:D48):Decidable (tV5 p0 p1):=by
 unfold tV5 f44t
 try dsimp only
 infer_instance
def sC9:Am.Spec:=fnSpec [(0,(.val T48)),(1,(.val T48))] vB [] (fun x=>tV5 x.1 x.2.1) (fun x=>f44 x.1 x.2.1) (fun _=>())
def oA1:Ctx:=Cx tys [(69,rJ5)] [] [] false 24 [] []
theorem oA2:CtxOk Tryz.prog oA1:=xV6 tys_ok rfl ⟨nA1,trivial⟩ rfl (by kernel_rfl)
theorem pR4:SpecOk Tryz.prog 44 sC9:=xX4 oA2 mixed Tryz.func44 (by kernel_rfl) (bs:=[]) (by kernel_rfl) trivial fun x=>by kernel_rfl
abbrev vB6:Type:=((List D91) × (List D91) × Int × Unit)
abbrev wQ0:Type:=(Int × Unit)
def uO7 (y:vB6) (x:wQ0):Prop × Bool × wQ0 × Bool × Bool :=
 let a0:=y.1
 let a1:=y.2.1
 let a13:=x.1
 let v14:=(decide (a13 < y.2.2.1))
 let v24:=(!(Ty.eqb T91 (nth a0 a13 Z91) (nth a1 a13 Z91)))
 ((v14 = true → (InB a13 (len a0) ∧ (InB a13 (len a1) ∧ ((!v24) = true → InR (a13 + 1))))),(v14 && (!v24)),((a13 + 1),()),(v14 && v24),(!v14))
def uE (y:vB6) (x:wQ0):Prop:=(uO7 y x).1
def uE0 (y:vB6) (x:wQ0):Bool:=(uO7 y x).2.1
def wZ0 (y:vB6) (x:wQ0):wQ0:=(uO7 y x).2.2.1
def sM0 (y:vB6) (x:wQ0):Bool:=(uO7 y x).2.2.2.1
def qD1 (y:vB6) (x:wQ0):Bool:=(uO7 y x).2.2.2.2
instance (y:vB6) (x:wQ0):Decidable (uE y x):=by
 unfold uE uO7
 try dsimp only
 infer_instance
def tF4 (y:vB6) (x:wQ0):Bool :=
 false
def tF5:St → Option Out:=xO8 [(0,(.val (.sl T91))),(1,(.val (.sl T91))),(12,vI)] [(13,vI)] uE0 wZ0 uE fun y x=>[ex 1 (some (sM0 y x)) [(4,vB)] ((tF4 y x),()),ex 2 (some (qD1 y x)) [] ()]
def f50t (p0:(List D91)) (p1:(List D91)):Prop × Bool :=
 let v10:=((len p0) != (len p1))
 let y4:=(p0,p1,(len p0),())
 let x4:=((0:Int),())
 let e4:=(zB9 (uE0 y4) (wZ0 y4) x4)
 (((!v10) = true → (Am.Ends (uE0 y4) (wZ0 y4) (uE y4) x4)),(bif v10 then false else (bif (sM0 y4 e4) then (tF4 y4 e4) else true)))
def sM1 (p0:(List D91)) (p1:(List D91)):Prop:=(f50t p0 p1).1
def f50 (p0:(List D91)) (p1:(List D91)):Bool:=(f50t p0 p1).2
instance (p0:(List D91)) (p1:(List D91)):Decidable (sM1 p0 p1):=by
 unfold sM1 f50t
 try dsimp only
 infer_instance
def rJ6:Am.Spec:=fnSpec [(0,(.val (.sl T91))),(1,(.val (.sl T91)))] vB [] (fun x=>sM1 x.1 x.2.1) (fun x=>f50 x.1 x.2.1) (fun _=>())
def qD2:Ctx:=Cx tys [] [(4,tF5)] [] false 26 [] []
theorem qD3:CtxOk Tryz.prog qD2:=xV6 tys_ok rfl trivial rfl (by kernel_rfl)
noncomputable def qZ5:Code:=Tryz.f50.body.getD .skip
noncomputable def pR5:Code:=xW5 qZ5 0
theorem qD4:yU1 Tryz.prog qD2 pR5:=xX3 qD3 mixed (sp:=tF5) rfl [[(4,vB)],[]] (bs:=[]) (by kernel_rfl) trivial (by kernel_rfl) (by kernel_rfl) fun y x=>by kernel_rfl
theorem nA2:SpecOk Tryz.prog 50 rJ6:=xX4 qD3 mixed Tryz.func50 (by kernel_rfl) (bs:=[pR5]) (by kernel_rfl) ⟨qD4,trivial⟩ fun x=>by kernel_rfl
abbrev vB7:Type:=((List D97) × (List D97) × Int × Unit)
abbrev wQ1:Type:=(Int × Unit)
def uO8 (y:vB7) (x:wQ1):Prop × Bool × wQ1 × Bool × Bool :=
 let a0:=y.1
 let a1:=y.2.1
 let a13:=x.1
 let v14:=(decide (a13 < y.2.2.1))
 let v24:=(!(Ty.eqb T97 (nth a0 a13 Z97) (nth a1 a13 Z97)))
 ((v14 = true → (InB a13 (len a0) ∧ (InB a13 (len a1) ∧ ((!v24) = true → InR (a13 + 1))))),(v14 && (!v24)),((a13 + 1),()),(v14 && v24),(!v14))
def uE1 (y:vB7) (x:wQ1):Prop:=(uO8 y x).1
def uE2 (y:vB7) (x:wQ1):Bool:=(uO8 y x).2.1
def wZ1 (y:vB7) (x:wQ1):wQ1:=(uO8 y x).2.2.1
def sM2 (y:vB7) (x:wQ1):Bool:=(uO8 y x).2.2.2.1
def qD5 (y:vB7) (x:wQ1):Bool:=(uO8 y x).2.2.2.2
instance (y:vB7) (x:wQ1):Decidable (uE1 y x):=by
 unfold uE1 uO8
 try dsimp only
 infer_instance
def tF6 (y:vB7) (x:wQ1):Bool :=
 false
def tF7:St → Option Out:=xO8 [(0,(.val (.sl T97))),(1,(.val (.sl T97))),(12,vI)] [(13,vI)] uE2 wZ1 uE1 fun y x=>[ex 1 (some (sM2 y x)) [(4,vB)] ((tF6 y x),()),ex 2 (some (qD5 y x)) [] ()]
def f51t (p0:(List D97)) (p1:(List D97)):Prop × Bool :=
 let v10:=((len p0) != (len p1))
 let y4:=(p0,p1,(len p0),())
 let x4:=((0:Int),())
 let e4:=(zB9 (uE2 y4) (wZ1 y4) x4)
 (((!v10) = true → (Am.Ends (uE2 y4) (wZ1 y4) (uE1 y4) x4)),(bif v10 then false else (bif (sM2 y4 e4) then (tF6 y4 e4) else true)))
def sM3 (p0:(List D97)) (p1:(List D97)):Prop:=(f51t p0 p1).1
def f51 (p0:(List D97)) (p1:(List D97)):Bool:=(f51t p0 p1).2
instance (p0:(List D97)) (p1:(List D97)):Decidable (sM3 p0 p1):=by
 unfold sM3 f51t
 try dsimp only
 infer_instance
def rJ7:Am.Spec:=fnSpec [(0,(.val (.sl T97))),(1,(.val (.sl T97)))] vB [] (fun x=>sM3 x.1 x.2.1) (fun x=>f51 x.1 x.2.1) (fun _=>())
def qD6:Ctx:=Cx tys [] [(4,tF7)] [] false 26 [] []
theorem qD7:CtxOk Tryz.prog qD6:=xV6 tys_ok rfl trivial rfl (by kernel_rfl)
noncomputable def qZ6:Code:=Tryz.f51.body.getD .skip
noncomputable def pR6:Code:=xW5 qZ6 0
theorem qD8:yU1 Tryz.prog qD6 pR6:=xX3 qD7 mixed (sp:=tF7) rfl [[(4,vB)],[]] (bs:=[]) (by kernel_rfl) trivial (by kernel_rfl) (by kernel_rfl) fun y x=>by kernel_rfl
theorem nA3:SpecOk Tryz.prog 51 rJ7:=xX4 qD7 mixed Tryz.func51 (by kernel_rfl) (bs:=[pR6]) (by kernel_rfl) ⟨qD8,trivial⟩ fun x=>by kernel_rfl
abbrev vB8:Type:=((List D94) × (List D94) × Int × Unit)
abbrev wQ2:Type:=(Int × Unit)
def uO9 (y:vB8) (x:wQ2):Prop × Bool × wQ2 × Bool × Bool :=
 let a0:=y.1
 let a1:=y.2.1
 let a13:=x.1
 let v14:=(decide (a13 < y.2.2.1))
 let v24:=(!(Ty.eqb T94 (nth a0 a13 Z94) (nth a1 a13 Z94)))
 ((v14 = true → (InB a13 (len a0) ∧ (InB a13 (len a1) ∧ ((!v24) = true → InR (a13 + 1))))),(v14 && (!v24)),((a13 + 1),()),(v14 && v24),(!v14))
def uE3 (y:vB8) (x:wQ2):Prop:=(uO9 y x).1
def uE4 (y:vB8) (x:wQ2):Bool:=(uO9 y x).2.1
def wZ2 (y:vB8) (x:wQ2):wQ2:=(uO9 y x).2.2.1
def sM4 (y:vB8) (x:wQ2):Bool:=(uO9 y x).2.2.2.1
def qD9 (y:vB8) (x:wQ2):Bool:=(uO9 y x).2.2.2.2
instance (y:vB8) (x:wQ2):Decidable (uE3 y x):=by
 unfold uE3 uO9
 try dsimp only
 infer_instance
def tF8 (y:vB8) (x:wQ2):Bool :=
 false
def tF9:St → Option Out:=xO8 [(0,(.val (.sl T94))),(1,(.val (.sl T94))),(12,vI)] [(13,vI)] uE4 wZ2 uE3 fun y x=>[ex 1 (some (sM4 y x)) [(4,vB)] ((tF8 y x),()),ex 2 (some (qD9 y x)) [] ()]
def f52t (p0:(List D94)) (p1:(List D94)):Prop × Bool :=
 let v10:=((len p0) != (len p1))
 let y4:=(p0,p1,(len p0),())
 let x4:=((0:Int),())
 let e4:=(zB9 (uE4 y4) (wZ2 y4) x4)
 (((!v10) = true → (Am.Ends (uE4 y4) (wZ2 y4) (uE3 y4) x4)),(bif v10 then false else (bif (sM4 y4 e4) then (tF8 y4 e4) else true)))
def sM5 (p0:(List D94)) (p1:(List D94)):Prop:=(f52t p0 p1).1
def f52 (p0:(List D94)) (p1:(List D94)):Bool:=(f52t p0 p1).2
instance (p0:(List D94)) (p1:(List D94)):Decidable (sM5 p0 p1):=by
 unfold sM5 f52t
 try dsimp only
 infer_instance
def rJ8:Am.Spec:=fnSpec [(0,(.val (.sl T94))),(1,(.val (.sl T94)))] vB [] (fun x=>sM5 x.1 x.2.1) (fun x=>f52 x.1 x.2.1) (fun _=>())
def qE:Ctx:=Cx tys [] [(4,tF9)] [] false 26 [] []
theorem qE0:CtxOk Tryz.prog qE:=xV6 tys_ok rfl trivial rfl (by kernel_rfl)
noncomputable def qZ7:Code:=Tryz.f52.body.getD .skip
noncomputable def pR7:Code:=xW5 qZ7 0
theorem qE1:yU1 Tryz.prog qE pR7:=xX3 qE0 mixed (sp:=tF9) rfl [[(4,vB)],[]] (bs:=[]) (by kernel_rfl) trivial (by kernel_rfl) (by kernel_rfl) fun y x=>by kernel_rfl
theorem nA4:SpecOk Tryz.prog 52 rJ8:=xX4 qE0 mixed Tryz.func52 (by kernel_rfl) (bs:=[pR7]) (by kernel_rfl) ⟨qE1,trivial⟩ fun x=>by kernel_rfl
def f31t (p0:D57) (p1:D57):Prop × Bool :=
 let v17:=(bif (!(f44 p0.2.2.2.2.2.2.2.2.2.2.2.2.1 p1.2.2.2.2.2.2.2.2.2.2.2.2.1)) then true else (!(Ty.eqb T50 p0.2.2.2.2.2.2.2.2.2.2.2.2.2.1 p1.2.2.2.2.2.2.2.2.2.2.2.2.2.1)))
 let v29:=(bif (p0.2.2.2.2.2.2.2.2.2.2.2.2.2.2.1 != p1.2.2.2.2.2.2.2.2.2.2.2.2.2.2.1) then true else (p0.2.2.2.2.2.2.2.2.2.2.2.2.2.2.2.2.1 != p1.2.2.2.2.2.2.2.2.2.2.2.2.2.2.2.2.1))
 let v35:=(!(f30 p0.2.2.2.2.2.2.2.2.2.2.2.2.2.2.2.1 p1.2.2.2.2.2.2.2.2.2.2.2.2.2.2.2.1))
 let v43:=(bif v35 then true else (!(f50 p0.2.2.2.2.2.2.2.2.2.2.2.2.2.2.2.2.2.1 p1.2.2.2.2.2.2.2.2.2.2.2.2.2.2.2.2.2.1)))
 let v51:=(bif v43 then true else (!(f51 p0.2.2.2.2.2.2.2.2.2.2.2.2.2.2.2.2.2.2.1 p1.2.2.2.2.2.2.2.2.2.2.2.2.2.2.2.2.2.2.1)))
 let v63:=(bif (p0.2.2.2.2.2.2.2.2.2.2.2.2.2.2.2.2.2.2.2.1 != p1.2.2.2.2.2.2.2.2.2.2.2.2.2.2.2.2.2.2.2.1) then true else (p0.2.2.2.2.2.2.2.2.2.2.2.2.2.2.2.2.2.2.2.2.1 != p1.2.2.2.2.2.2.2.2.2.2.2.2.2.2.2.2.2.2.2.2.1))
 let v77:=(bif (bif v63 then true else (p0.2.2.2.2.2.2.2.2.2.2.2.2.2.2.2.2.2.2.2.2.2.1 != p1.2.2.2.2.2.2.2.2.2.2.2.2.2.2.2.2.2.2.2.2.2.1)) then true else (p0.2.2.2.2.2.2.2.2.2.2.2.2.2.2.2.2.2.2.2.2.2.2.1 != p1.2.2.2.2.2.2.2.2.2.2.2.2.2.2.2.2.2.2.2.2.2.2.1))
 let v89:=(bif (!(p0.2.2.2.2.2.2.2.2.2.2.2.2.2.2.2.2.2.2.2.2.2.2.2.1 == p1.2.2.2.2.2.2.2.2.2.2.2.2.2.2.2.2.2.2.2.2.2.2.2.1)) then true else (p0.2.2.2.2.2.2.2.2.2.2.2.2.2.2.2.2.2.2.2.2.2.2.2.2.1 != p1.2.2.2.2.2.2.2.2.2.2.2.2.2.2.2.2.2.2.2.2.2.2.2.2.1))
 let v103:=(bif (bif v89 then true else (p0.2.2.2.2.2.2.2.2.2.2.2.2.2.2.2.2.2.2.2.2.2.2.2.2.2.1 != p1.2.2.2.2.2.2.2.2.2.2.2.2.2.2.2.2.2.2.2.2.2.2.2.2.2.1)) then true else (p0.2.2.2.2.2.2.2.2.2.2.2.2.2.2.2.2.2.2.2.2.2.2.2.2.2.2.1 != p1.2.2.2.2.2.2.2.2.2.2.2.2.2.2.2.2.2.2.2.2.2.2.2.2.2.2.1))
 let v119:=(bif (p0.2.2.2.2.2.2.2.2.2.2.2.2.2.2.2.2.2.2.2.2.2.2.2.2.2.2.2.1.1 != p1.2.2.2.2.2.2.2.2.2.2.2.2.2.2.2.2.2.2.2.2.2.2.2.2.2.2.2.1.1) then true else (p0.2.2.2.2.2.2.2.2.2.2.2.2.2.2.2.2.2.2.2.2.2.2.2.2.2.2.2.1.2.1 != p1.2.2.2.2.2.2.2.2.2.2.2.2.2.2.2.2.2.2.2.2.2.2.2.2.2.2.2.1.2.1))
 let v128:=(bif v119 then true else (p0.2.2.2.2.2.2.2.2.2.2.2.2.2.2.2.2.2.2.2.2.2.2.2.2.2.2.2.1.2.2.1 != p1.2.2.2.2.2.2.2.2.2.2.2.2.2.2.2.2.2.2.2.2.2.2.2.2.2.2.2.1.2.2.1))
 let m4_2:=(bif v77 then false else (bif v103 then false else (bif v128 then false else (f52 p0.2.2.2.2.2.2.2.2.2.2.2.2.2.2.2.2.2.2.2.2.2.2.2.2.2.2.2.1.2.2.2.1 p1.2.2.2.2.2.2.2.2.2.2.2.2.2.2.2.2.2.2.2.2.2.2.2.2.2.2.2.1.2.2.2.1))))
 (((tV5 p0.2.2.2.2.2.2.2.2.2.2.2.2.1 p1.2.2.2.2.2.2.2.2.2.2.2.2.1) ∧ ((!v17) = true → ((!v29) = true → ((tF1 p0.2.2.2.2.2.2.2.2.2.2.2.2.2.2.2.1 p1.2.2.2.2.2.2.2.2.2.2.2.2.2.2.2.1) ∧ (((!v35) = true → (sM1 p0.2.2.2.2.2.2.2.2.2.2.2.2.2.2.2.2.2.1 p1.2.2.2.2.2.2.2.2.2.2.2.2.2.2.2.2.2.1)) ∧ (((!v43) = true → (sM3 p0.2.2.2.2.2.2.2.2.2.2.2.2.2.2.2.2.2.2.1 p1.2.2.2.2.2.2.2.2.2.2.2.2.2.2.2.2.2.2.1)) ∧ ((!v51) = true → ((!v77) = true → ((!v103) = true → ((!v128) = true → (sM5 p0.2.2.2.2.2.2.2.2.2.2.2.2.2.2.2.2.2.2.2.2.2.2.2.2.2.2.2.1.2.2.2.1 p1.2.2.2.2.2.2.2.2.2.2.2.2.2.2.2.2.2.2.2.2.2.2.2.2.2.2.2.1.2.2.2.1))))))))))),(bif v17 then false else (bif v29 then false else (bif v51 then false else m4_2))))
def sM6 (p0:D57) (p1:D57):Prop:=(f31t p0 p1).1
def f31 (p0:D57) (p1:D57):Bool:=(f31t p0 p1).2
instance (p0:D57) (p1:D57):Decidable (sM6 p0 p1):=by
 unfold sM6 f31t
 try dsimp only
 infer_instance
def rJ9:Am.Spec:=fnSpec [(0,(.val T57)),(1,(.val T57))] vB [] (fun x=>sM6 x.1 x.2.1) (fun x=>f31 x.1 x.2.1) (fun _=>())
def oA3:Ctx:=Cx tys [(30,tB0),(44,sC9),(50,rJ6),(51,rJ7),(52,rJ8)] [] [] false 136 [] []
theorem oA4:CtxOk Tryz.prog oA3:=xV6 tys_ok rfl ⟨qC7,pR4,nA2,nA3,nA4,trivial⟩ rfl (by kernel_rfl)
theorem nA5:SpecOk Tryz.prog 31 rJ9:=xX4 oA4 mixed Tryz.func31 (by kernel_rfl) (bs:=[]) (by kernel_rfl) trivial fun x=>by kernel_rfl
def f12t (p0:D57) (p1:D57):Prop × Bool :=
 let v30:=(bif (bif (bif (p0.1 != p1.1) then true else (p0.2.1 != p1.2.1)) then true else (p0.2.2.1 != p1.2.2.1)) then true else (!(p0.2.2.2.1 == p1.2.2.2.1)))
 let v49:=(bif (bif (!(Ty.eqb .bool p0.2.2.2.2.1 p1.2.2.2.2.1)) then true else (!(Ty.eqb .bool p0.2.2.2.2.2.1 p1.2.2.2.2.2.1))) then true else (!(Ty.eqb .bool p0.2.2.2.2.2.2.1 p1.2.2.2.2.2.2.1)))
 let v75:=(bif (bif (bif (p0.2.2.2.2.2.2.2.1 != p1.2.2.2.2.2.2.2.1) then true else (p0.2.2.2.2.2.2.2.2.1 != p1.2.2.2.2.2.2.2.2.1)) then true else (!(Ty.eqb T45 p0.2.2.2.2.2.2.2.2.2.2.1 p1.2.2.2.2.2.2.2.2.2.2.1))) then true else (p0.2.2.2.2.2.2.2.2.2.2.2.1 != p1.2.2.2.2.2.2.2.2.2.2.2.1))
 let v91:=(bif (p0.2.2.2.2.2.2.2.2.2.1.1 != p1.2.2.2.2.2.2.2.2.2.1.1) then true else (p0.2.2.2.2.2.2.2.2.2.1.2.1 != p1.2.2.2.2.2.2.2.2.2.1.2.1))
 let v101:=(bif v91 then true else (!(f30 p0.2.2.2.2.2.2.2.2.2.1.2.2.1 p1.2.2.2.2.2.2.2.2.2.1.2.2.1)))
 (((!v30) = true → ((!v49) = true → ((!v75) = true → (((!v91) = true → (tF1 p0.2.2.2.2.2.2.2.2.2.1.2.2.1 p1.2.2.2.2.2.2.2.2.2.1.2.2.1)) ∧ ((!v101) = true → (sM6 p0 p1)))))),(bif v30 then false else (bif v49 then false else (bif v75 then false else (bif v101 then false else (f31 p0 p1))))))
def vY5 (p0:D57) (p1:D57):Prop:=(f12t p0 p1).1
def f12 (p0:D57) (p1:D57):Bool:=(f12t p0 p1).2
instance (p0:D57) (p1:D57):Decidable (vY5 p0 p1):=by
 unfold vY5 f12t
 try dsimp only
 infer_instance
def tB1:Am.Spec:=fnSpec [(0,(.val T57)),(1,(.val T57))] vB [] (fun x=>vY5 x.1 x.2.1) (fun x=>f12 x.1 x.2.1) (fun _=>())
def oA5:Ctx:=Cx tys [(30,tB0),(31,rJ9)] [] [] false 105 [] []
theorem oA6:CtxOk Tryz.prog oA5:=xV6 tys_ok rfl ⟨qC7,nA5,trivial⟩ rfl (by kernel_rfl)
theorem qE2:SpecOk Tryz.prog 12 tB1:=xX4 oA6 mixed Tryz.func12 (by kernel_rfl) (bs:=[]) (by kernel_rfl) trivial fun x=>by kernel_rfl
def f53t :Prop × Int :=
 (True,(4:Int))
def sM7 :Prop:=(f53t).1
def f53 :Int:=(f53t).2
instance :Decidable (sM7):=by
 unfold sM7 f53t
 try dsimp only
 infer_instance
def rK:Am.Spec:=fnSpec [] vI [] (fun x=>sM7 ) (fun x=>f53 ) (fun _=>())
def oA7:Ctx:=Cx tys [] [] [] false 1 [] []
theorem oA8:CtxOk Tryz.prog oA7:=xV6 tys_ok rfl trivial rfl (by kernel_rfl)
theorem nA6:SpecOk Tryz.prog 53 rK:=xX4 oA8 mixed Tryz.func53 (by kernel_rfl) (bs:=[]) (by kernel_rfl) trivial fun x=>by kernel_rfl
def f32t (p0:D28):Prop × Int :=
 let v20:=(bif (bif (bif (decide (p0.1 < 1)) then true else (decide (p0.1 > 256))) then true else (decide (p0.2.1 < 1))) then true else (decide (p0.2.1 > 256)))
 let v23:=(decide (p0.2.2.1 < 0))
 (((!v20) = true → ((!v23) = true → sM7)),(bif v20 then (15:Int) else (bif (bif v23 then true else (decide (p0.2.2.1 ≥ f53))) then (2:Int) else (0:Int))))
def tV6 (p0:D28):Prop:=(f32t p0).1
def f32 (p0:D28):Int:=(f32t p0).2
instance (p0:D28):Decidable (tV6 p0):=by
 unfold tV6 f32t
 try dsimp only
 infer_instance
def rK0:Am.Spec:=fnSpec [(0,(.val T28))] vI [] (fun x=>tV6 x.1) (fun x=>f32 x.1) (fun _=>())
def oA9:Ctx:=Cx tys [(53,rK)] [] [] false 30 [] []
theorem oB:CtxOk Tryz.prog oA9:=xV6 tys_ok rfl ⟨nA6,trivial⟩ rfl (by kernel_rfl)
theorem nA7:SpecOk Tryz.prog 32 rK0:=xX4 oB mixed Tryz.func32 (by kernel_rfl) (bs:=[]) (by kernel_rfl) trivial fun x=>by kernel_rfl
def f64t (p0:Int):Prop × Bool :=
 (True,(bif (decide (p0 ≥ 0)) then (decide (p0 ≤ 65535)) else false))
def sM8 (p0:Int):Prop:=(f64t p0).1
def f64 (p0:Int):Bool:=(f64t p0).2
instance (p0:Int):Decidable (sM8 p0):=by
 unfold sM8 f64t
 try dsimp only
 infer_instance
def rK1:Am.Spec:=fnSpec [(0,vI)] vB [] (fun x=>sM8 x.1) (fun x=>f64 x.1) (fun _=>())
def oB0:Ctx:=Cx tys [] [] [] false 9 [] []
theorem oB1:CtxOk Tryz.prog oB0:=xV6 tys_ok rfl trivial rfl (by kernel_rfl)
theorem nA8:SpecOk Tryz.prog 64 rK1:=xX4 oB1 mixed Tryz.func64 (by kernel_rfl) (bs:=[]) (by kernel_rfl) trivial fun x=>by kernel_rfl
abbrev vB9:Type:=((List Int) × Int × Unit)
abbrev wQ3:Type:=(Int × Unit)
def uP (y:vB9) (x:wQ3):Prop × Bool × wQ3 × Bool × Bool :=
 let a42:=y.1
 let a44:=x.1
 let v45:=(decide (a44 < y.2.1))
 let v46:=(nth a42 a44 (0:Int))
 let v50:=(!(f64 v46))
 ((v45 = true → (InB a44 (len a42) ∧ ((sM8 v46) ∧ ((!v50) = true → InR (a44 + 1))))),(v45 && (!v50)),((a44 + 1),()),(v45 && v50),(!v45))
def uE5 (y:vB9) (x:wQ3):Prop:=(uP y x).1
def sD (y:vB9) (x:wQ3):Bool:=(uP y x).2.1
def uA3 (y:vB9) (x:wQ3):wQ3:=(uP y x).2.2.1
def sM9 (y:vB9) (x:wQ3):Bool:=(uP y x).2.2.2.1
def qE3 (y:vB9) (x:wQ3):Bool:=(uP y x).2.2.2.2
instance (y:vB9) (x:wQ3):Decidable (uE5 y x):=by
 unfold uE5 uP
 try dsimp only
 infer_instance
def tG (y:vB9) (x:wQ3):Int :=
 (2:Int)
def tG0:St → Option Out:=xO8 [(42,(.val (.sl (.int .i64)))),(43,vI)] [(44,vI)] sD uA3 uE5 fun y x=>[ex 1 (some (sM9 y x)) [(2,vI)] ((tG y x),()),ex 2 (some (qE3 y x)) [] ()]
def f38t (p0:D24):Prop × Int :=
 let v22:=(bif (bif (bif (decide (p0.1 < 0)) then true else (decide (p0.1 > 256))) then true else (decide (p0.2.1 < 0))) then true else (decide (p0.2.1 > 256)))
 let v29:=(!(Ty.eqb .bool (p0.1 == 0) (p0.2.1 == 0)))
 let v40:=(bif v29 then true else ((len p0.2.2.1) != (p0.1 * p0.2.1)))
 let y6:=(p0.2.2.1,(len p0.2.2.1),())
 let x6:=((0:Int),())
 let e6:=(zB9 (sD y6) (uA3 y6) x6)
 (((!v22) = true → (((!v29) = true → InR (p0.1 * p0.2.1)) ∧ ((!v40) = true → (Am.Ends (sD y6) (uA3 y6) (uE5 y6) x6)))),(bif v22 then (15:Int) else (bif v40 then (15:Int) else (bif (sM9 y6 e6) then (tG y6 e6) else (0:Int)))))
def tV7 (p0:D24):Prop:=(f38t p0).1
def f38 (p0:D24):Int:=(f38t p0).2
instance (p0:D24):Decidable (tV7 p0):=by
 unfold tV7 f38t
 try dsimp only
 infer_instance
def sD0:Am.Spec:=fnSpec [(0,(.val T24))] vI [] (fun x=>tV7 x.1) (fun x=>f38 x.1) (fun _=>())
def qE4:Ctx:=Cx tys [(64,rK1)] [(6,tG0)] [] false 52 [] []
theorem qE5:CtxOk Tryz.prog qE4:=xV6 tys_ok rfl ⟨nA8,trivial⟩ rfl (by kernel_rfl)
noncomputable def qZ8:Code:=Tryz.f38.body.getD .skip
noncomputable def pR8:Code:=xW5 qZ8 0
theorem qE6:yU1 Tryz.prog qE4 pR8:=xX3 qE5 mixed (sp:=tG0) rfl [[(2,vI)],[]] (bs:=[]) (by kernel_rfl) trivial (by kernel_rfl) (by kernel_rfl) fun y x=>by kernel_rfl
theorem pR9:SpecOk Tryz.prog 38 sD0:=xX4 qE5 mixed Tryz.func38 (by kernel_rfl) (bs:=[pR8]) (by kernel_rfl) ⟨qE6,trivial⟩ fun x=>by kernel_rfl
def f56t (p0:D57):Prop × Bool :=
 (True,(bif (bif (p0.2.1 == 7) then true else (p0.2.1 == 8)) then true else (p0.2.1 == 11)))
def tG1 (p0:D57):Prop:=(f56t p0).1
def f56 (p0:D57):Bool:=(f56t p0).2
instance (p0:D57):Decidable (tG1 p0):=by
 unfold tG1 f56t
 try dsimp only
 infer_instance
def tB2:Am.Spec:=fnSpec [(0,(.val T57))] vB [] (fun x=>tG1 x.1) (fun x=>f56 x.1) (fun _=>())
def oB2:Ctx:=Cx tys [] [] [] false 16 [] []
theorem oB3:CtxOk Tryz.prog oB2:=xV6 tys_ok rfl trivial rfl (by kernel_rfl)
theorem qE7:SpecOk Tryz.prog 56 tB2:=xX4 oB3 mixed Tryz.func56 (by kernel_rfl) (bs:=[]) (by kernel_rfl) trivial fun x=>by kernel_rfl
def f91t (p0:Int):Prop × (List UInt8) :=
 let v5:=(p0 == 1)
 let v7:=(p0 == 2)
 let v9:=(p0 == 3)
 let v11:=(p0 == 4)
 let v13:=(p0 == 5)
 let v15:=(p0 == 6)
 let v17:=(p0 == 7)
 let v19:=(p0 == 8)
 let v21:=(p0 == 9)
 let v23:=(p0 == 10)
 let m2_2:=(bif v19 then ([102,105,108,116,101,114]:List UInt8) else (bif v21 then ([108,105,110,107]:List UInt8) else (bif v23 then ([99,108,111,110,101]:List UInt8) else ([119,97,114,112]:List UInt8))))
 let m2_6:=(bif v11 then ([103,114,97,100,105,101,110,116]:List UInt8) else (bif v13 then ([112,97,116,104]:List UInt8) else (bif v15 then ([116,101,120,116]:List UInt8) else (bif v17 then ([97,100,106,117,115,116]:List UInt8) else m2_2))))
 let c_14:=(bif v9 then true else (bif v11 then true else (bif v13 then true else (bif v15 then true else (bif v17 then true else (bif v19 then true else (bif v21 then true else (bif v23 then true else (p0 == 11)))))))))
 let m2_10:=(bif (bif v5 then true else (bif v7 then true else c_14)) then (bif v5 then ([103,114,111,117,112]:List UInt8) else (bif v7 then ([105,109,97,103,101]:List UInt8) else (bif v9 then ([102,105,108,108]:List UInt8) else m2_6))) else ([]:List UInt8))
 (True,m2_10)
def sN (p0:Int):Prop:=(f91t p0).1
def f91 (p0:Int):(List UInt8):=(f91t p0).2
instance (p0:Int):Decidable (sN p0):=by
 unfold sN f91t
 try dsimp only
 infer_instance
def rK2:Am.Spec:=fnSpec [(0,vI)] vS [] (fun x=>sN x.1) (fun x=>f91 x.1) (fun _=>())
def oB4:Ctx:=Cx tys [] [] [] false 26 [] []
theorem oB5:CtxOk Tryz.prog oB4:=xV6 tys_ok rfl trivial rfl (by kernel_rfl)
theorem nA9:SpecOk Tryz.prog 91 rK2:=xX4 oB5 mixed Tryz.func91 (by kernel_rfl) (bs:=[]) (by kernel_rfl) trivial fun x=>by kernel_rfl
abbrev vC:Type:=((List UInt8) × Int × Unit)
abbrev wQ4:Type:=(Int × Unit)
def uP0 (y:vC) (x:wQ4):Prop × Bool × wQ4 × Bool × Bool :=
 let a0:=y.1
 let a14:=x.1
 let v15:=(decide (a14 < y.2.1))
 let v20:=(decide ((xW8 a0 a14) < 33))
 let v26:=(bif v20 then true else (decide ((xW8 a0 a14) > 126)))
 ((v15 = true → (InB a14 (len a0) ∧ (((!v20) = true → InB a14 (len a0)) ∧ ((!v26) = true → InR (a14 + 1))))),(v15 && (!v26)),((a14 + 1),()),(v15 && v26),(!v15))
def uE6 (y:vC) (x:wQ4):Prop:=(uP0 y x).1
def sD1 (y:vC) (x:wQ4):Bool:=(uP0 y x).2.1
def uA4 (y:vC) (x:wQ4):wQ4:=(uP0 y x).2.2.1
def sN0 (y:vC) (x:wQ4):Bool:=(uP0 y x).2.2.2.1
def qE8 (y:vC) (x:wQ4):Bool:=(uP0 y x).2.2.2.2
instance (y:vC) (x:wQ4):Decidable (uE6 y x):=by
 unfold uE6 uP0
 try dsimp only
 infer_instance
def tG2 (y:vC) (x:wQ4):Bool :=
 false
def tG3:St → Option Out:=xO8 [(0,vS),(13,vI)] [(14,vI)] sD1 uA4 uE6 fun y x=>[ex 1 (some (sN0 y x)) [(2,vB)] ((tG2 y x),()),ex 2 (some (qE8 y x)) [] ()]
def f92t (p0:(List UInt8)):Prop × Bool :=
 let v11:=(bif (decide ((len p0) < 1)) then true else (decide ((len p0) > 32)))
 let y4:=(p0,(len p0),())
 let x4:=((0:Int),())
 let e4:=(zB9 (sD1 y4) (uA4 y4) x4)
 (((!v11) = true → (Am.Ends (sD1 y4) (uA4 y4) (uE6 y4) x4)),(bif v11 then false else (bif (sN0 y4 e4) then (tG2 y4 e4) else true)))
def sN1 (p0:(List UInt8)):Prop:=(f92t p0).1
def f92 (p0:(List UInt8)):Bool:=(f92t p0).2
instance (p0:(List UInt8)):Decidable (sN1 p0):=by
 unfold sN1 f92t
 try dsimp only
 infer_instance
def rK3:Am.Spec:=fnSpec [(0,vS)] vB [] (fun x=>sN1 x.1) (fun x=>f92 x.1) (fun _=>())
def qE9:Ctx:=Cx tys [] [(4,tG3)] [] false 28 [] []
theorem qF:CtxOk Tryz.prog qE9:=xV6 tys_ok rfl trivial rfl (by kernel_rfl)
noncomputable def qZ9:Code:=Tryz.f92.body.getD .skip
noncomputable def pS:Code:=xW5 qZ9 0
theorem qF0:yU1 Tryz.prog qE9 pS:=xX3 qF mixed (sp:=tG3) rfl [[(2,vB)],[]] (bs:=[]) (by kernel_rfl) trivial (by kernel_rfl) (by kernel_rfl) fun y x=>by kernel_rfl
theorem nB:SpecOk Tryz.prog 92 rK3:=xX4 qF mixed Tryz.func92 (by kernel_rfl) (bs:=[pS]) (by kernel_rfl) ⟨qF0,trivial⟩ fun x=>by kernel_rfl
def f93t (p0:Int):Prop × Bool :=
 (True,(bif (decide (p0 ≥ 0)) then (decide (p0 ≤ 1073741824)) else false))
def tV8 (p0:Int):Prop:=(f93t p0).1
def f93 (p0:Int):Bool:=(f93t p0).2
instance (p0:Int):Decidable (tV8 p0):=by
 unfold tV8 f93t
 try dsimp only
 infer_instance
def rK4:Am.Spec:=fnSpec [(0,vI)] vB [] (fun x=>tV8 x.1) (fun x=>f93 x.1) (fun _=>())
def oB6:Ctx:=Cx tys [] [] [] false 9 [] []
theorem oB7:CtxOk Tryz.prog oB6:=xV6 tys_ok rfl trivial rfl (by kernel_rfl)
theorem nB0:SpecOk Tryz.prog 93 rK4:=xX4 oB7 mixed Tryz.func93 (by kernel_rfl) (bs:=[]) (by kernel_rfl) trivial fun x=>by kernel_rfl
def f94t (p0:Int):Prop × Bool :=
 (True,(bif (decide (p0 ≥ 0)) then (decide (p0 ≤ 65535)) else false))
def sN2 (p0:Int):Prop:=(f94t p0).1
def f94 (p0:Int):Bool:=(f94t p0).2
instance (p0:Int):Decidable (sN2 p0):=by
 unfold sN2 f94t
 try dsimp only
 infer_instance
def rK5:Am.Spec:=fnSpec [(0,vI)] vB [] (fun x=>sN2 x.1) (fun x=>f94 x.1) (fun _=>())
def oB8:Ctx:=Cx tys [] [] [] false 9 [] []
theorem oB9:CtxOk Tryz.prog oB8:=xV6 tys_ok rfl trivial rfl (by kernel_rfl)
theorem nB1:SpecOk Tryz.prog 94 rK5:=xX4 oB9 mixed Tryz.func94 (by kernel_rfl) (bs:=[]) (by kernel_rfl) trivial fun x=>by kernel_rfl
def f95t (p0:Int):Prop × Bool :=
 (True,(bif (decide (p0 ≥ 0)) then (decide (p0 < 18)) else false))
def sN3 (p0:Int):Prop:=(f95t p0).1
def f95 (p0:Int):Bool:=(f95t p0).2
instance (p0:Int):Decidable (sN3 p0):=by
 unfold sN3 f95t
 try dsimp only
 infer_instance
def rK6:Am.Spec:=fnSpec [(0,vI)] vB [] (fun x=>sN3 x.1) (fun x=>f95 x.1) (fun _=>())
def oC:Ctx:=Cx tys [] [] [] false 9 [] []
theorem oC0:CtxOk Tryz.prog oC:=xV6 tys_ok rfl trivial rfl (by kernel_rfl)
theorem nB2:SpecOk Tryz.prog 95 rK6:=xX4 oC0 mixed Tryz.func95 (by kernel_rfl) (bs:=[]) (by kernel_rfl) trivial fun x=>by kernel_rfl
def f75t (p0:D57) (p1:Int) (p2:Int):Prop × Int :=
 let v21:=(bif (bif (bif (decide (p1 < 1)) then true else (decide (p1 > 256))) then true else (decide (p2 < 1))) then true else (decide (p2 > 256)))
 let v25:=((f91 p0.2.1) == ([]:List UInt8))
 let v29:=(!(f92 p0.2.2.2.1))
 let v33:=(!(f93 p0.1))
 let v39:=(bif v33 then true else (!(f93 p0.2.2.1)))
 let v45:=(bif v39 then true else (!(f94 p0.2.2.2.2.2.2.2.1)))
 let v49:=(!(f95 p0.2.2.2.2.2.2.2.2.1))
 let v58:=(bif v49 then true else (bif (f56 p0) then (p0.2.2.2.2.2.2.2.2.1 != 0) else false))
 let v61:=(f38 p0.2.2.2.2.2.2.2.2.2.1)
 let m6_1:=(bif (v61 != 0) then v61 else (bif (bif (p0.2.2.2.2.2.2.2.2.2.1.1 != 0) then (bif (p0.2.2.2.2.2.2.2.2.2.1.1 != p1) then true else (p0.2.2.2.2.2.2.2.2.2.1.2.1 != p2)) else false) then (15:Int) else (0:Int)))
 (((!v21) = true → ((sN p0.2.1) ∧ ((!v25) = true → ((sN1 p0.2.2.2.1) ∧ ((!v29) = true → ((tV8 p0.1) ∧ (((!v33) = true → (tV8 p0.2.2.1)) ∧ (((!v39) = true → (sN2 p0.2.2.2.2.2.2.2.1)) ∧ ((!v45) = true → ((sN3 p0.2.2.2.2.2.2.2.2.1) ∧ (((!v49) = true → (tG1 p0)) ∧ ((!v58) = true → (tV7 p0.2.2.2.2.2.2.2.2.2.1))))))))))))),(bif v21 then (15:Int) else (bif v25 then (8:Int) else (bif v29 then (13:Int) else (bif v45 then (2:Int) else (bif v58 then (8:Int) else m6_1))))))
def sN4 (p0:D57) (p1:Int) (p2:Int):Prop:=(f75t p0 p1 p2).1
def f75 (p0:D57) (p1:Int) (p2:Int):Int:=(f75t p0 p1 p2).2
instance (p0:D57) (p1:Int) (p2:Int):Decidable (sN4 p0 p1 p2):=by
 unfold sN4 f75t
 try dsimp only
 infer_instance
def rK7:Am.Spec:=fnSpec [(0,(.val T57)),(1,vI),(2,vI)] vI [] (fun x=>sN4 x.1 x.2.1 x.2.2.1) (fun x=>f75 x.1 x.2.1 x.2.2.1) (fun _=>())
def oC1:Ctx:=Cx tys [(38,sD0),(56,tB2),(91,rK2),(92,rK3),(93,rK4),(94,rK5),(95,rK6)] [] [] false 83 [] []
theorem oC2:CtxOk Tryz.prog oC1:=xV6 tys_ok rfl ⟨pR9,qE7,nA9,nB,nB0,nB1,nB2,trivial⟩ rfl (by kernel_rfl)
theorem nB3:SpecOk Tryz.prog 75 rK7:=xX4 oC2 mixed Tryz.func75 (by kernel_rfl) (bs:=[]) (by kernel_rfl) trivial fun x=>by kernel_rfl
def f76t (p0:Int):Prop × Bool :=
 let v5:=(p0 == 2)
 let v6:=(p0 == 5)
 let v7:=(p0 == 6)
 let v8:=(p0 == 9)
 (True,(bif (bif v5 then v5 else (bif v6 then v6 else (bif v7 then v7 else (bif v8 then v8 else (p0 == 10))))) then true else false))
def tV9 (p0:Int):Prop:=(f76t p0).1
def f76 (p0:Int):Bool:=(f76t p0).2
instance (p0:Int):Decidable (tV9 p0):=by
 unfold tV9 f76t
 try dsimp only
 infer_instance
def sD2:Am.Spec:=fnSpec [(0,vI)] vB [] (fun x=>tV9 x.1) (fun x=>f76 x.1) (fun _=>())
def oC3:Ctx:=Cx tys [] [] [] false 10 [] []
theorem oC4:CtxOk Tryz.prog oC3:=xV6 tys_ok rfl trivial rfl (by kernel_rfl)
theorem pS0:SpecOk Tryz.prog 76 sD2:=xX4 oC4 mixed Tryz.func76 (by kernel_rfl) (bs:=[]) (by kernel_rfl) trivial fun x=>by kernel_rfl
def oC5 (p0:Int) (p1:Int) (p2:Int):Prop × Int :=
 (True,(xW2 p2 (xW1 p0 p1)))
def uA5 (p0:Int) (p1:Int) (p2:Int):Prop:=(oC5 p0 p1 p2).1
def f126 (p0:Int) (p1:Int) (p2:Int):Int:=(oC5 p0 p1 p2).2
instance (p0:Int) (p1:Int) (p2:Int):Decidable (uA5 p0 p1 p2):=by
 unfold uA5 oC5
 try dsimp only
 infer_instance
def uE7:Am.Spec:=fnSpec [(0,vI),(1,vI),(2,vI)] vI [] (fun x=>uA5 x.1 x.2.1 x.2.2.1) (fun x=>f126 x.1 x.2.1 x.2.2.1) (fun _=>())
def pA:Ctx:=Cx tys [] [] [] true 12 [] []
theorem pA0:CtxOk Tryz.prog pA:=xV6 tys_ok rfl trivial rfl (by kernel_rfl)
theorem sZ3:SpecOk Tryz.prog 126 uE7:=xX4 pA0 mixed Tryz.func126 (by kernel_rfl) (bs:=[]) (by kernel_rfl) trivial fun x=>by kernel_rfl
def oC6 (p0:Int):Prop × Int :=
 ((uA5 p0 (-16777216:Int) (16777216:Int)),(f126 p0 (-16777216:Int) (16777216:Int)))
def vO1 (p0:Int):Prop:=(oC6 p0).1
def f108 (p0:Int):Int:=(oC6 p0).2
instance (p0:Int):Decidable (vO1 p0):=by
 unfold vO1 oC6
 try dsimp only
 infer_instance
def sN5:Am.Spec:=fnSpec [(0,vI)] vI [] (fun x=>vO1 x.1) (fun x=>f108 x.1) (fun _=>())
def pA1:Ctx:=Cx tys [(126,uE7)] [] [] false 5 [] []
theorem pA2:CtxOk Tryz.prog pA1:=xV6 tys_ok rfl ⟨sZ3,trivial⟩ rfl (by kernel_rfl)
theorem oC7:SpecOk Tryz.prog 108 sN5:=xX4 pA2 mixed Tryz.func108 (by kernel_rfl) (bs:=[]) (by kernel_rfl) trivial fun x=>by kernel_rfl
def oC8 (p0:Int):Prop × Int :=
 ((uA5 p0 (-1099511627776:Int) (1099511627776:Int)),(f126 p0 (-1099511627776:Int) (1099511627776:Int)))
def vF1 (p0:Int):Prop:=(oC8 p0).1
def f109 (p0:Int):Int:=(oC8 p0).2
instance (p0:Int):Decidable (vF1 p0):=by
 unfold vF1 oC8
 try dsimp only
 infer_instance
def tG4:Am.Spec:=fnSpec [(0,vI)] vI [] (fun x=>vF1 x.1) (fun x=>f109 x.1) (fun _=>())
def pA3:Ctx:=Cx tys [(126,uE7)] [] [] true 5 [] []
theorem pA4:CtxOk Tryz.prog pA3:=xV6 tys_ok rfl ⟨sZ3,trivial⟩ rfl (by kernel_rfl)
theorem qF1:SpecOk Tryz.prog 109 tG4:=xX4 pA4 mixed Tryz.func109 (by kernel_rfl) (bs:=[]) (by kernel_rfl) trivial fun x=>by kernel_rfl
def f96t (p0:D45):Prop × D45 :=
 (((vO1 p0.1) ∧ ((vO1 p0.2.1) ∧ ((vO1 p0.2.2.1) ∧ ((vO1 p0.2.2.2.1) ∧ ((vF1 p0.2.2.2.2.1) ∧ (vF1 p0.2.2.2.2.2.1)))))),((f108 p0.1),(f108 p0.2.1),(f108 p0.2.2.1),(f108 p0.2.2.2.1),(f109 p0.2.2.2.2.1),(f109 p0.2.2.2.2.2.1),()))
def tW (p0:D45):Prop:=(f96t p0).1
def f96 (p0:D45):D45:=(f96t p0).2
instance (p0:D45):Decidable (tW p0):=by
 unfold tW f96t
 try dsimp only
 infer_instance
def sD3:Am.Spec:=fnSpec [(0,(.val T45))] (.val T45) [] (fun x=>tW x.1) (fun x=>f96 x.1) (fun _=>())
def oC9:Ctx:=Cx tys [(108,sN5),(109,tG4)] [] [] true 22 [] []
theorem oD:CtxOk Tryz.prog oC9:=xV6 tys_ok rfl ⟨oC7,qF1,trivial⟩ rfl (by kernel_rfl)
theorem pS1:SpecOk Tryz.prog 96 sD3:=xX4 oD mixed Tryz.func96 (by kernel_rfl) (bs:=[]) (by kernel_rfl) trivial fun x=>by kernel_rfl
def f77t (p0:D45):Prop × Int :=
 ((tW p0),(bif (!(Ty.eqb T45 p0 (f96 p0))) then (2:Int) else (0:Int)))
def vY6 (p0:D45):Prop:=(f77t p0).1
def f77 (p0:D45):Int:=(f77t p0).2
instance (p0:D45):Decidable (vY6 p0):=by
 unfold vY6 f77t
 try dsimp only
 infer_instance
def uE8:Am.Spec:=fnSpec [(0,(.val T45))] vI [] (fun x=>vY6 x.1) (fun x=>f77 x.1) (fun _=>())
def oD0:Ctx:=Cx tys [(96,sD3)] [] [] false 7 [] []
theorem oD1:CtxOk Tryz.prog oD0:=xV6 tys_ok rfl ⟨pS1,trivial⟩ rfl (by kernel_rfl)
theorem rK8:SpecOk Tryz.prog 77 uE8:=xX4 oD1 mixed Tryz.func77 (by kernel_rfl) (bs:=[]) (by kernel_rfl) trivial fun x=>by kernel_rfl
def f98t (p0:Int) (p1:Int) (p2:Int) (p3:Int):Prop × Int :=
 let v12:=(f110 p1 (65536:Int))
 let v14:=(f110 p3 (65536:Int))
 let v34:=(IntKind.wrap .i64 ((IntKind.wrap .i64 (p0 * (IntKind.wrap .i64 (p1 - (IntKind.wrap .i64 (v12 * 65536)))))) + (IntKind.wrap .i64 (p2 * (IntKind.wrap .i64 (p3 - (IntKind.wrap .i64 (v14 * 65536))))))))
 (((uA2 p1 (65536:Int)) ∧ ((uA2 p3 (65536:Int)) ∧ (wC9 v34 (65536:Int)))),(IntKind.wrap .i64 ((IntKind.wrap .i64 ((IntKind.wrap .i64 (p0 * v12)) + (IntKind.wrap .i64 (p2 * v14)))) + (f97 v34 (65536:Int)))))
def uT6 (p0:Int) (p1:Int) (p2:Int) (p3:Int):Prop:=(f98t p0 p1 p2 p3).1
def f98 (p0:Int) (p1:Int) (p2:Int) (p3:Int):Int:=(f98t p0 p1 p2 p3).2
instance (p0:Int) (p1:Int) (p2:Int) (p3:Int):Decidable (uT6 p0 p1 p2 p3):=by
 unfold uT6 f98t
 try dsimp only
 infer_instance
def sD4:Am.Spec:=fnSpec [(0,vI),(1,vI),(2,vI),(3,vI)] vI [] (fun x=>uT6 x.1 x.2.1 x.2.2.1 x.2.2.2.1) (fun x=>f98 x.1 x.2.1 x.2.2.1 x.2.2.2.1) (fun _=>())
def oD2:Ctx:=Cx tys [(97,wL1),(110,tE5)] [] [] true 37 [] []
theorem oD3:CtxOk Tryz.prog oD2:=xV6 tys_ok rfl ⟨vN8,qB5,trivial⟩ rfl (by kernel_rfl)
theorem pS2:SpecOk Tryz.prog 98 sD4:=xX4 oD3 mixed Tryz.func98 (by kernel_rfl) (bs:=[]) (by kernel_rfl) trivial fun x=>by kernel_rfl
def f78t (p0:D45):Prop × (D45 × Int × Unit) :=
 let v8:=(f77 p0)
 let v10:=(v8 != 0)
 let v23:=(IntKind.wrap .i64 ((IntKind.wrap .i64 (p0.1 * p0.2.2.2.1)) - (IntKind.wrap .i64 (p0.2.1 * p0.2.2.1))))
 let v25:=(v23 == 0)
 let v29:=(IntKind.wrap .i64 (p0.2.2.2.1 * 4294967296))
 let v31:=(f97 v29 v23)
 let v35:=(IntKind.wrap .i64 ((IntKind.wrap .i64 (Int.sub 0 p0.2.1)) * 4294967296))
 let v37:=(f97 v35 v23)
 let v41:=(IntKind.wrap .i64 ((IntKind.wrap .i64 (Int.sub 0 p0.2.2.1)) * 4294967296))
 let v43:=(f97 v41 v23)
 let v46:=(IntKind.wrap .i64 (p0.1 * 4294967296))
 let v48:=(f97 v46 v23)
 let s_2:=(v31,v37,v43,v48,(0:Int),(0:Int),())
 let v52:=((f77 s_2) != 0)
 let v56:=(IntKind.wrap .i64 (Int.sub 0 v31))
 let v61:=(IntKind.wrap .i64 (Int.sub 0 v43))
 let v68:=(IntKind.wrap .i64 (Int.sub 0 v37))
 let v73:=(IntKind.wrap .i64 (Int.sub 0 v48))
 let s_5:=(v31,v37,v43,v48,(f98 v56 p0.2.2.2.2.1 v61 p0.2.2.2.2.2.1),(f98 v68 p0.2.2.2.2.1 v73 p0.2.2.2.2.2.1),())
 let v80:=((f77 s_5) != 0)
 let m2_2:=(bif v25 then ((0:Int),(0:Int),(0:Int),(0:Int),(0:Int),(0:Int),()) else (bif v52 then ((0:Int),(0:Int),(0:Int),(0:Int),(0:Int),(0:Int),()) else (bif v80 then ((0:Int),(0:Int),(0:Int),(0:Int),(0:Int),(0:Int),()) else s_5)))
 (((vY6 p0) ∧ ((!v10) = true → ((!v25) = true → ((wC9 v29 v23) ∧ ((wC9 v35 v23) ∧ ((wC9 v41 v23) ∧ ((wC9 v46 v23) ∧ ((vY6 s_2) ∧ ((!v52) = true → ((uT6 v56 p0.2.2.2.2.1 v61 p0.2.2.2.2.2.1) ∧ ((uT6 v68 p0.2.2.2.2.1 v73 p0.2.2.2.2.2.1) ∧ (vY6 s_5)))))))))))),((bif v10 then ((0:Int),(0:Int),(0:Int),(0:Int),(0:Int),(0:Int),()) else m2_2),(bif v10 then v8 else (bif v25 then (17:Int) else (bif v52 then (17:Int) else (bif v80 then (17:Int) else (0:Int))))),()))
def sN6 (p0:D45):Prop:=(f78t p0).1
def f78 (p0:D45):(D45 × Int × Unit):=(f78t p0).2
instance (p0:D45):Decidable (sN6 p0):=by
 unfold sN6 f78t
 try dsimp only
 infer_instance
def rK9:Am.Spec:=fnSpec [(0,(.val T45))] (.tup (.cons (.val T45) (.cons vI .nl))) [] (fun x=>sN6 x.1) (fun x=>f78 x.1) (fun _=>())
def oD4:Ctx:=Cx tys [(77,uE8),(97,wL1),(98,sD4)] [] [] true 83 [] []
theorem oD5:CtxOk Tryz.prog oD4:=xV6 tys_ok rfl ⟨rK8,vN8,pS2,trivial⟩ rfl (by kernel_rfl)
theorem nB4:SpecOk Tryz.prog 78 rK9:=xX4 oD5 mixed Tryz.func78 (by kernel_rfl) (bs:=[]) (by kernel_rfl) trivial fun x=>by kernel_rfl
def f79t (p0:Int):Prop × Bool :=
 let v5:=(p0 == 2)
 let v6:=(p0 == 9)
 let v7:=(p0 == 10)
 (True,(bif (bif v5 then v5 else (bif v6 then v6 else (bif v7 then v7 else (p0 == 11)))) then true else false))
def tW0 (p0:Int):Prop:=(f79t p0).1
def f79 (p0:Int):Bool:=(f79t p0).2
instance (p0:Int):Decidable (tW0 p0):=by
 unfold tW0 f79t
 try dsimp only
 infer_instance
def sD5:Am.Spec:=fnSpec [(0,vI)] vB [] (fun x=>tW0 x.1) (fun x=>f79 x.1) (fun _=>())
def oD6:Ctx:=Cx tys [] [] [] false 9 [] []
theorem oD7:CtxOk Tryz.prog oD6:=xV6 tys_ok rfl trivial rfl (by kernel_rfl)
theorem pS3:SpecOk Tryz.prog 79 sD5:=xX4 oD7 mixed Tryz.func79 (by kernel_rfl) (bs:=[]) (by kernel_rfl) trivial fun x=>by kernel_rfl
def f80t (p0:Int):Prop × Bool :=
 (True,(bif (decide (p0 ≥ 0)) then (decide (p0 ≤ 4)) else false))
def sN7 (p0:Int):Prop:=(f80t p0).1
def f80 (p0:Int):Bool:=(f80t p0).2
instance (p0:Int):Decidable (sN7 p0):=by
 unfold sN7 f80t
 try dsimp only
 infer_instance
def rL:Am.Spec:=fnSpec [(0,vI)] vB [] (fun x=>sN7 x.1) (fun x=>f80 x.1) (fun _=>())
def oD8:Ctx:=Cx tys [] [] [] false 9 [] []
theorem oD9:CtxOk Tryz.prog oD8:=xV6 tys_ok rfl trivial rfl (by kernel_rfl)
theorem nB5:SpecOk Tryz.prog 80 rL:=xX4 oD9 mixed Tryz.func80 (by kernel_rfl) (bs:=[]) (by kernel_rfl) trivial fun x=>by kernel_rfl
def f84t (p0:Int) (p1:Int):Prop × Bool :=
 (True,(bif (bif (bif (bif (decide (p0 ≥ 0)) then (decide (p0 ≤ 256)) else false) then (decide (p1 ≥ 0)) else false) then (decide (p1 ≤ 256)) else false) then (Ty.eqb .bool (p0 == 0) (p1 == 0)) else false))
def sN8 (p0:Int) (p1:Int):Prop:=(f84t p0 p1).1
def f84 (p0:Int) (p1:Int):Bool:=(f84t p0 p1).2
instance (p0:Int) (p1:Int):Decidable (sN8 p0 p1):=by
 unfold sN8 f84t
 try dsimp only
 infer_instance
def rL0:Am.Spec:=fnSpec [(0,vI),(1,vI)] vB [] (fun x=>sN8 x.1 x.2.1) (fun x=>f84 x.1 x.2.1) (fun _=>())
def oE:Ctx:=Cx tys [] [] [] false 26 [] []
theorem oE0:CtxOk Tryz.prog oE:=xV6 tys_ok rfl trivial rfl (by kernel_rfl)
theorem nB6:SpecOk Tryz.prog 84 rL0:=xX4 oE0 mixed Tryz.func84 (by kernel_rfl) (bs:=[]) (by kernel_rfl) trivial fun x=>by kernel_rfl
def oE1 (p0:Int):Prop × Int :=
 ((uA5 p0 (0:Int) (65535:Int)),(f126 p0 (0:Int) (65535:Int)))
def vO2 (p0:Int):Prop:=(oE1 p0).1
def f125 (p0:Int):Int:=(oE1 p0).2
instance (p0:Int):Decidable (vO2 p0):=by
 unfold vO2 oE1
 try dsimp only
 infer_instance
def sN9:Am.Spec:=fnSpec [(0,vI)] vI [] (fun x=>vO2 x.1) (fun x=>f125 x.1) (fun _=>())
def pA5:Ctx:=Cx tys [(126,uE7)] [] [] false 5 [] []
theorem pA6:CtxOk Tryz.prog pA5:=xV6 tys_ok rfl ⟨sZ3,trivial⟩ rfl (by kernel_rfl)
theorem oE2:SpecOk Tryz.prog 125 sN9:=xX4 pA6 mixed Tryz.func125 (by kernel_rfl) (bs:=[]) (by kernel_rfl) trivial fun x=>by kernel_rfl
def oE3 (p0:D50):Prop × D50 :=
 (((vO2 p0.1) ∧ ((vO2 p0.2.1) ∧ ((vO2 p0.2.2.1) ∧ (vO2 p0.2.2.2.1)))),((f125 p0.1),(f125 p0.2.1),(f125 p0.2.2.1),(f125 p0.2.2.2.1),()))
def tG5 (p0:D50):Prop:=(oE3 p0).1
def f106 (p0:D50):D50:=(oE3 p0).2
instance (p0:D50):Decidable (tG5 p0):=by
 unfold tG5 oE3
 try dsimp only
 infer_instance
def sO:Am.Spec:=fnSpec [(0,(.val T50))] (.val T50) [] (fun x=>tG5 x.1) (fun x=>f106 x.1) (fun _=>())
def pA7:Ctx:=Cx tys [(125,sN9)] [] [] false 16 [] []
theorem pA8:CtxOk Tryz.prog pA7:=xV6 tys_ok rfl ⟨oE2,trivial⟩ rfl (by kernel_rfl)
theorem oE4:SpecOk Tryz.prog 106 sO:=xX4 pA8 mixed Tryz.func106 (by kernel_rfl) (bs:=[]) (by kernel_rfl) trivial fun x=>by kernel_rfl
def f85t (p0:D50):Prop × Bool :=
 ((tG5 p0),(Ty.eqb T50 p0 (f106 p0)))
def uT7 (p0:D50):Prop:=(f85t p0).1
def f85 (p0:D50):Bool:=(f85t p0).2
instance (p0:D50):Decidable (uT7 p0):=by
 unfold uT7 f85t
 try dsimp only
 infer_instance
def uE9:Am.Spec:=fnSpec [(0,(.val T50))] vB [] (fun x=>uT7 x.1) (fun x=>f85 x.1) (fun _=>())
def oE5:Ctx:=Cx tys [(106,sO)] [] [] false 7 [] []
theorem oE6:CtxOk Tryz.prog oE5:=xV6 tys_ok rfl ⟨oE4,trivial⟩ rfl (by kernel_rfl)
theorem rL1:SpecOk Tryz.prog 85 uE9:=xX4 oE6 mixed Tryz.func85 (by kernel_rfl) (bs:=[]) (by kernel_rfl) trivial fun x=>by kernel_rfl
abbrev vC0:Type:=((List D50) × Int × Unit)
abbrev wQ5:Type:=(Int × Unit)
def uP1 (y:vC0) (x:wQ5):Prop × Bool × wQ5 × Bool × Bool :=
 let a23:=y.1
 let a25:=x.1
 let v26:=(decide (a25 < y.2.1))
 let v27:=(nth a23 a25 Z50)
 let v31:=(!(f85 v27))
 ((v26 = true → (InB a25 (len a23) ∧ ((uT7 v27) ∧ ((!v31) = true → InR (a25 + 1))))),(v26 && (!v31)),((a25 + 1),()),(v26 && v31),(!v26))
def uF (y:vC0) (x:wQ5):Prop:=(uP1 y x).1
def sD6 (y:vC0) (x:wQ5):Bool:=(uP1 y x).2.1
def uA6 (y:vC0) (x:wQ5):wQ5:=(uP1 y x).2.2.1
def sO0 (y:vC0) (x:wQ5):Bool:=(uP1 y x).2.2.2.1
def qF2 (y:vC0) (x:wQ5):Bool:=(uP1 y x).2.2.2.2
instance (y:vC0) (x:wQ5):Decidable (uF y x):=by
 unfold uF uP1
 try dsimp only
 infer_instance
def tG6 (y:vC0) (x:wQ5):Int :=
 (2:Int)
def tG7:St → Option Out:=xO8 [(23,(.val (.sl T50))),(24,vI)] [(25,vI)] sD6 uA6 uF fun y x=>[ex 1 (some (sO0 y x)) [(2,vI)] ((tG6 y x),()),ex 2 (some (qF2 y x)) [] ()]
def f58t (p0:D48):Prop × Int :=
 let v10:=(!(f84 p0.1 p0.2.1))
 let v21:=(bif v10 then true else ((len p0.2.2.1) != (p0.1 * p0.2.1)))
 let y4:=(p0.2.2.1,(len p0.2.2.1),())
 let x4:=((0:Int),())
 let e4:=(zB9 (sD6 y4) (uA6 y4) x4)
 (((sN8 p0.1 p0.2.1) ∧ (((!v10) = true → InR (p0.1 * p0.2.1)) ∧ ((!v21) = true → (Am.Ends (sD6 y4) (uA6 y4) (uF y4) x4)))),(bif v21 then (15:Int) else (bif (sO0 y4 e4) then (tG6 y4 e4) else (0:Int))))
def tW1 (p0:D48):Prop:=(f58t p0).1
def f58 (p0:D48):Int:=(f58t p0).2
instance (p0:D48):Decidable (tW1 p0):=by
 unfold tW1 f58t
 try dsimp only
 infer_instance
def sD7:Am.Spec:=fnSpec [(0,(.val T48))] vI [] (fun x=>tW1 x.1) (fun x=>f58 x.1) (fun _=>())
def qF3:Ctx:=Cx tys [(84,rL0),(85,uE9)] [(4,tG7)] [] false 33 [] []
theorem qF4:CtxOk Tryz.prog qF3:=xV6 tys_ok rfl ⟨nB6,rL1,trivial⟩ rfl (by kernel_rfl)
noncomputable def pA9:Code:=Tryz.f58.body.getD .skip
noncomputable def pS4:Code:=xW5 pA9 0
theorem qF5:yU1 Tryz.prog qF3 pS4:=xX3 qF4 mixed (sp:=tG7) rfl [[(2,vI)],[]] (bs:=[]) (by kernel_rfl) trivial (by kernel_rfl) (by kernel_rfl) fun y x=>by kernel_rfl
theorem pS5:SpecOk Tryz.prog 58 sD7:=xX4 qF4 mixed Tryz.func58 (by kernel_rfl) (bs:=[pS4]) (by kernel_rfl) ⟨qF5,trivial⟩ fun x=>by kernel_rfl
def f99t (p0:D50):Prop × Int :=
 ((uT7 p0),(bif (!(f85 p0)) then (2:Int) else (0:Int)))
def tG8 (p0:D50):Prop:=(f99t p0).1
def f99 (p0:D50):Int:=(f99t p0).2
instance (p0:D50):Decidable (tG8 p0):=by
 unfold tG8 f99t
 try dsimp only
 infer_instance
def tB3:Am.Spec:=fnSpec [(0,(.val T50))] vI [] (fun x=>tG8 x.1) (fun x=>f99 x.1) (fun _=>())
def oE7:Ctx:=Cx tys [(85,uE9)] [] [] false 6 [] []
theorem oE8:CtxOk Tryz.prog oE7:=xV6 tys_ok rfl ⟨rL1,trivial⟩ rfl (by kernel_rfl)
theorem qF6:SpecOk Tryz.prog 99 tB3:=xX4 oE8 mixed Tryz.func99 (by kernel_rfl) (bs:=[]) (by kernel_rfl) trivial fun x=>by kernel_rfl
def pB (p0:Int) (p1:Int):Prop × Bool :=
 (True,(bif (p0 == 1) then (p1 == 4) else (p1 == 3)))
def tG9 (p0:Int) (p1:Int):Prop:=(pB p0 p1).1
def f127 (p0:Int) (p1:Int):Bool:=(pB p0 p1).2
instance (p0:Int) (p1:Int):Decidable (tG9 p0 p1):=by
 unfold tG9 pB
 try dsimp only
 infer_instance
def sO1:Am.Spec:=fnSpec [(0,vI),(1,vI)] vB [] (fun x=>tG9 x.1 x.2.1) (fun x=>f127 x.1 x.2.1) (fun _=>())
def pB0:Ctx:=Cx tys [] [] [] false 11 [] []
theorem pB1:CtxOk Tryz.prog pB0:=xV6 tys_ok rfl trivial rfl (by kernel_rfl)
theorem oE9:SpecOk Tryz.prog 127 sO1:=xX4 pB1 mixed Tryz.func127 (by kernel_rfl) (bs:=[]) (by kernel_rfl) trivial fun x=>by kernel_rfl
abbrev wS1:Type:=(Int × (List Int) × (List Int) × Int × Unit)
abbrev wJ1:Type:=(Int × Unit)
def vT9 (y:wS1) (x:wJ1):Prop × Bool × wJ1 × Bool × Bool :=
 let a36:=y.2.2.1
 let a38:=x.1
 let v39:=(decide (a38 < y.2.2.2.1))
 let v40:=(nth a36 a38 (0:Int))
 let v47:=(bif (decide (v40 < (-1048576))) then true else (decide (v40 > 1048576)))
 ((v39 = true → (InB a38 (len a36) ∧ ((!v47) = true → InR (a38 + 1)))),(v39 && (!v47)),((a38 + 1),()),(v39 && v47),(!v39))
def vU (y:wS1) (x:wJ1):Prop:=(vT9 y x).1
def tH (y:wS1) (x:wJ1):Bool:=(vT9 y x).2.1
def vO3 (y:wS1) (x:wJ1):wJ1:=(vT9 y x).2.2.1
def tW2 (y:wS1) (x:wJ1):Bool:=(vT9 y x).2.2.2.1
def tW3 (y:wS1) (x:wJ1):Bool:=(vT9 y x).2.2.2.2
instance (y:wS1) (x:wJ1):Decidable (vU y x):=by
 unfold vU vT9
 try dsimp only
 infer_instance
def uT8 (y:wS1) (x:wJ1):Int :=
 (2:Int)
def tW4:List (Nat × Sh):=[(0,vI),(1,(.val (.sl (.int .i64))))]
def uT9:St → Option Out:=xO8 [(0,vI),(1,(.val (.sl (.int .i64)))),(36,(.val (.sl (.int .i64)))),(37,vI)] [(38,vI)] tH vO3 vU fun y x=>[ex 1 (some (tW2 y x)) [(8,vI)] ((uT8 y x),()),ex 2 (some (tW3 y x)) tW4 (y.1,y.2.1,())]
def oF (p0:Int) (p1:(List Int)) (p2:Int) (p3:Int):Prop × Int :=
 let v24:=(bif (bif (bif (decide (p0 < 1)) then true else (decide (p0 > 4))) then true else (decide (p2 < 0))) then true else (decide (p2 > 2)))
 let v27:=(len p1)
 let v33:=(bif (!(f127 p0 v27)) then true else (p3 == 0))
 let v35:=(decide (p3 > 16))
 let y8:=(p0,p1,p1,(len p1),())
 let x8:=((0:Int),())
 let e8:=(zB9 (tH y8) (vO3 y8) x8)
 let v54:=(bif (p0 == 2) then true else (p0 == 4))
 let m8_3:=(bif v33 then (1:Int) else (bif v35 then (3:Int) else (bif (tW2 y8 e8) then (uT8 y8 e8) else (bif (bif v54 then (decide ((nth p1 (2:Int) (0:Int)) < 0)) else false) then (2:Int) else (0:Int)))))
 (((!v24) = true → ((tG9 p0 v27) ∧ ((!v33) = true → ((!v35) = true → ((Am.Ends (tH y8) (vO3 y8) (vU y8) x8) ∧ ((tW3 y8 e8) = true → (v54 = true → InB (2:Int) (len p1)))))))),(bif v24 then (8:Int) else m8_3))
def tH0 (p0:Int) (p1:(List Int)) (p2:Int) (p3:Int):Prop:=(oF p0 p1 p2 p3).1
def f111 (p0:Int) (p1:(List Int)) (p2:Int) (p3:Int):Int:=(oF p0 p1 p2 p3).2
instance (p0:Int) (p1:(List Int)) (p2:Int) (p3:Int):Decidable (tH0 p0 p1 p2 p3):=by
 unfold tH0 oF
 try dsimp only
 infer_instance
def sO2:Am.Spec:=fnSpec [(0,vI),(1,(.val (.sl (.int .i64)))),(2,vI),(3,vI)] vI [] (fun x=>tH0 x.1 x.2.1 x.2.2.1 x.2.2.2.1) (fun x=>f111 x.1 x.2.1 x.2.2.1 x.2.2.2.1) (fun _=>())
def rL2:Ctx:=Cx tys [(127,sO1)] [(8,uT9)] [] false 61 [] []
theorem rL3:CtxOk Tryz.prog rL2:=xV6 tys_ok rfl ⟨oE9,trivial⟩ rfl (by kernel_rfl)
noncomputable def qF7:Code:=Tryz.f111.body.getD .skip
noncomputable def qF8:Code:=xW5 qF7 0
theorem rV6:yU1 Tryz.prog rL2 qF8:=xX3 rL3 mixed (sp:=uT9) rfl [[(8,vI)],tW4] (bs:=[]) (by kernel_rfl) trivial (by kernel_rfl) (by kernel_rfl) fun y x=>by kernel_rfl
theorem oF0:SpecOk Tryz.prog 111 sO2:=xX4 rL3 mixed Tryz.func111 (by kernel_rfl) (bs:=[qF8]) (by kernel_rfl) ⟨rV6,trivial⟩ fun x=>by kernel_rfl
abbrev wS2:Type:=((List D91) × (List D91) × Int × Unit)
abbrev wJ2:Type:=(Int × Unit)
def vU0 (y:wS2) (x:wJ2):Prop × Bool × wJ2 × Bool × Bool :=
 let a0:=y.1
 let a5:=y.2.1
 let a7:=x.1
 let v8:=(decide (a7 < y.2.2.1))
 let v10:=(nth a5 a7 Z91)
 let v19:=(bif (decide (v10.1 < 0)) then true else (decide (v10.1 > 65535)))
 let v25:=(bif v19 then true else (!(f85 v10.2.1)))
 let v27:=(decide (a7 > 0))
 let v33:=(a7 - 1)
 let v38:=(bif v27 then (decide (v10.1 ≤ (nth a0 v33 Z91).1)) else false)
 let c_2:=((!v25) && (!v38))
 ((v8 = true → (InB a7 (len a5) ∧ (((!v19) = true → (uT7 v10.2.1)) ∧ (((!v25) = true → ((v27 = true → InR (a7 - 1)) ∧ (v27 = true → InB v33 (len a0)))) ∧ (c_2 = true → InR (a7 + 1)))))),(v8 && c_2),((a7 + 1),()),(v8 && (v25 || ((!v25) && v38))),(!v8))
def vU1 (y:wS2) (x:wJ2):Prop:=(vU0 y x).1
def tH1 (y:wS2) (x:wJ2):Bool:=(vU0 y x).2.1
def vO4 (y:wS2) (x:wJ2):wJ2:=(vU0 y x).2.2.1
def tW5 (y:wS2) (x:wJ2):Bool:=(vU0 y x).2.2.2.1
def rV7 (y:wS2) (x:wJ2):Bool:=(vU0 y x).2.2.2.2
instance (y:wS2) (x:wJ2):Decidable (vU1 y x):=by
 unfold vU1 vU0
 try dsimp only
 infer_instance
def uU (y:wS2) (x:wJ2):Int :=
 let v10:=(nth y.2.1 x.1 Z91)
 (bif (bif (bif (decide (v10.1 < 0)) then true else (decide (v10.1 > 65535))) then true else (!(f85 v10.2.1))) then (2:Int) else (24:Int))
def uU0:St → Option Out:=xO8 [(0,(.val (.sl T91))),(5,(.val (.sl T91))),(6,vI)] [(7,vI)] tH1 vO4 vU1 fun y x=>[ex 1 (some (tW5 y x)) [(2,vI)] ((uU y x),()),ex 2 (some (rV7 y x)) [] ()]
def oF1 (p0:(List D91)):Prop × Int :=
 let y2:=(p0,p0,(len p0),())
 let x2:=((0:Int),())
 let e2:=(zB9 (tH1 y2) (vO4 y2) x2)
 ((Am.Ends (tH1 y2) (vO4 y2) (vU1 y2) x2),(bif (tW5 y2 e2) then (uU y2 e2) else (0:Int)))
def tH2 (p0:(List D91)):Prop:=(oF1 p0).1
def f112 (p0:(List D91)):Int:=(oF1 p0).2
instance (p0:(List D91)):Decidable (tH2 p0):=by
 unfold tH2 oF1
 try dsimp only
 infer_instance
def sO3:Am.Spec:=fnSpec [(0,(.val (.sl T91)))] vI [] (fun x=>tH2 x.1) (fun x=>f112 x.1) (fun _=>())
def rL4:Ctx:=Cx tys [(85,uE9)] [(2,uU0)] [] false 40 [] []
theorem rL5:CtxOk Tryz.prog rL4:=xV6 tys_ok rfl ⟨rL1,trivial⟩ rfl (by kernel_rfl)
noncomputable def qF9:Code:=Tryz.f112.body.getD .skip
noncomputable def qG:Code:=xW5 qF9 0
theorem rV8:yU1 Tryz.prog rL4 qG:=xX3 rL5 mixed (sp:=uU0) rfl [[(2,vI)],[]] (bs:=[]) (by kernel_rfl) trivial (by kernel_rfl) (by kernel_rfl) fun y x=>by kernel_rfl
theorem oF2:SpecOk Tryz.prog 112 sO3:=xX4 rL5 mixed Tryz.func112 (by kernel_rfl) (bs:=[qG]) (by kernel_rfl) ⟨rV8,trivial⟩ fun x=>by kernel_rfl
def oF3 (p0:Int) (p1:(List Int)) (p2:Int) (p3:(List D91)):Prop × Int :=
 let v14:=(len p3)
 let v15:=(f111 p0 p1 p2 v14)
 let v17:=(v15 != 0)
 (((tH0 p0 p1 p2 v14) ∧ ((!v17) = true → (tH2 p3))),(bif v17 then v15 else (f112 p3)))
def tH3 (p0:Int) (p1:(List Int)) (p2:Int) (p3:(List D91)):Prop:=(oF3 p0 p1 p2 p3).1
def f100 (p0:Int) (p1:(List Int)) (p2:Int) (p3:(List D91)):Int:=(oF3 p0 p1 p2 p3).2
instance (p0:Int) (p1:(List Int)) (p2:Int) (p3:(List D91)):Decidable (tH3 p0 p1 p2 p3):=by
 unfold tH3 oF3
 try dsimp only
 infer_instance
def sO4:Am.Spec:=fnSpec [(0,vI),(1,(.val (.sl (.int .i64)))),(2,vI),(3,(.val (.sl T91)))] vI [] (fun x=>tH3 x.1 x.2.1 x.2.2.1 x.2.2.2.1) (fun x=>f100 x.1 x.2.1 x.2.2.1 x.2.2.2.1) (fun _=>())
def pB2:Ctx:=Cx tys [(111,sO2),(112,sO3)] [] [] false 21 [] []
theorem pB3:CtxOk Tryz.prog pB2:=xV6 tys_ok rfl ⟨oF0,oF2,trivial⟩ rfl (by kernel_rfl)
theorem oF4:SpecOk Tryz.prog 100 sO4:=xX4 pB3 mixed Tryz.func100 (by kernel_rfl) (bs:=[]) (by kernel_rfl) trivial fun x=>by kernel_rfl
def pB4 (p0:Int):Prop × Int :=
 let v5:=(p0 == 3)
 let v7:=(p0 == 4)
 (True,(bif (bif v5 then true else (bif v7 then true else (p0 == 5))) then (bif v5 then (2:Int) else (bif v7 then (3:Int) else (0:Int))) else (1:Int)))
def uP2 (p0:Int):Prop:=(pB4 p0).1
def f129 (p0:Int):Int:=(pB4 p0).2
instance (p0:Int):Decidable (uP2 p0):=by
 unfold uP2 pB4
 try dsimp only
 infer_instance
def tH4:Am.Spec:=fnSpec [(0,vI)] vI [] (fun x=>uP2 x.1) (fun x=>f129 x.1) (fun _=>())
def pB5:Ctx:=Cx tys [] [] [] false 10 [] []
theorem pB6:CtxOk Tryz.prog pB5:=xV6 tys_ok rfl trivial rfl (by kernel_rfl)
theorem qG0:SpecOk Tryz.prog 129 tH4:=xX4 pB6 mixed Tryz.func129 (by kernel_rfl) (bs:=[]) (by kernel_rfl) trivial fun x=>by kernel_rfl
def oF5 (p0:D94):Prop × Bool :=
 (True,(bif (bif (bif (decide (p0.1 < (-16777216))) then true else (decide (p0.1 > 16777216))) then true else (decide (p0.2.1 < (-16777216)))) then true else (decide (p0.2.1 > 16777216))))
def vO5 (p0:D94):Prop:=(oF5 p0).1
def f131 (p0:D94):Bool:=(oF5 p0).2
instance (p0:D94):Decidable (vO5 p0):=by
 unfold vO5 oF5
 try dsimp only
 infer_instance
def uF0:Am.Spec:=fnSpec [(0,(.val T94))] vB [] (fun x=>vO5 x.1) (fun x=>f131 x.1) (fun _=>())
def pB7:Ctx:=Cx tys [] [] [] false 21 [] []
theorem pB8:CtxOk Tryz.prog pB7:=xV6 tys_ok rfl trivial rfl (by kernel_rfl)
theorem sZ4:SpecOk Tryz.prog 131 uF0:=xX4 pB8 mixed Tryz.func131 (by kernel_rfl) (bs:=[]) (by kernel_rfl) trivial fun x=>by kernel_rfl
abbrev wN3:Type:=((List D97) × Int × D97 × (List D97) × Int × Int × (List D94) × Unit)
abbrev wJ3:Type:=(Int × Unit)
def vC1 (y:wN3) (x:wJ3):Prop × Bool × wJ3 × Bool × Bool :=
 let a4:=y.2.2.1
 let a27:=x.1
 let v28:=(decide (a27 < 3))
 let v30:=(nth y.2.2.2.2.2.2.1 a27 Z94)
 let v32:=(f131 v30)
 let v44:=(bif v32 then true else (bif (decide (a27 ≥ (f129 a4.1))) then (!(Ty.eqb T94 v30 ((0:Int),(0:Int),()))) else false))
 ((v28 = true → (InB a27 3 ∧ ((vO5 v30) ∧ (((!v32) = true → (uP2 a4.1)) ∧ ((!v44) = true → InR (a27 + 1)))))),(v28 && (!v44)),((a27 + 1),()),(v28 && v44),(!v28))
def wW8 (y:wN3) (x:wJ3):Prop:=(vC1 y x).1
def wJ4 (y:wN3) (x:wJ3):Bool:=(vC1 y x).2.1
def wD5 (y:wN3) (x:wJ3):wJ3:=(vC1 y x).2.2.1
def wW9 (y:wN3) (x:wJ3):Bool:=(vC1 y x).2.2.2.1
def uP3 (y:wN3) (x:wJ3):Bool:=(vC1 y x).2.2.2.2
instance (y:wN3) (x:wJ3):Decidable (wW8 y x):=by
 unfold wW8 vC1
 try dsimp only
 infer_instance
def vO6 (y:wN3) (x:wJ3):Int :=
 (2:Int)
def tW6:List (Nat × Sh):=[(0,(.val (.sl T97))),(3,vI),(4,(.box T97 (.val T97))),(10,(.val (.sl T97))),(11,vI),(12,vI)]
def uU1:St → Option Out:=xO8 [(0,(.val (.sl T97))),(3,vI),(4,(.box T97 (.val T97))),(10,(.val (.sl T97))),(11,vI),(12,vI),(26,(.val (.arr 3 T94)))] [(27,vI)] wJ4 wD5 wW8 fun y x=>[ex 1 (some (wW9 y x)) [(2,vI)] ((vO6 y x),()),ex 4 (some (uP3 y x)) tW6 (y.1,y.2.1,y.2.2.1,y.2.2.2.1,y.2.2.2.2.1,y.2.2.2.2.2.1,())]
abbrev wS3:Type:=((List D97) × (List D97) × Int × Unit)
abbrev wG1:Type:=(Int × Unit)
def wV5 (y:wS3) (x:wG1):Prop × Bool × wG1 × Bool × Bool :=
 let a0:=y.1
 let a10:=y.2.1
 let a11:=y.2.2.1
 let a12:=x.1
 let v13:=(decide (a12 < a11))
 let v15:=(nth a10 a12 Z97)
 let v24:=(bif (decide (v15.1 < 1)) then true else (decide (v15.1 > 5)))
 let y9:=(a0,a12,v15,a10,a11,a12,v15.2.1,())
 let x9:=((0:Int),())
 let e9:=(zB9 (wJ4 y9) (wD5 y9) x9)
 let q9_4:=(uP3 y9 e9)
 let v48:=(v15.1 != 1)
 let v51:=(a12 == 0)
 let v55:=(a12 - 1)
 let v61:=(bif v48 then (bif v51 then true else ((nth a0 v55 Z97).1 == 5)) else false)
 let c_5:=((!v24) && (q9_4 && (!v61)))
 ((v13 = true → (InB a12 (len a10) ∧ (((!v24) = true → ((Am.Ends (wJ4 y9) (wD5 y9) (wW8 y9) x9) ∧ (q9_4 = true → (((v48 && (!v51)) = true → InR (a12 - 1)) ∧ ((v48 && (!v51)) = true → InB v55 (len a0)))))) ∧ (c_5 = true → InR (a12 + 1))))),(v13 && c_5),((a12 + 1),()),(v13 && (v24 || ((!v24) && ((wW9 y9 e9) || (q9_4 && v61))))),(!v13))
def vG2 (y:wS3) (x:wG1):Prop:=(wV5 y x).1
def wG2 (y:wS3) (x:wG1):Bool:=(wV5 y x).2.1
def wD6 (y:wS3) (x:wG1):wG1:=(wV5 y x).2.2.1
def vG3 (y:wS3) (x:wG1):Bool:=(wV5 y x).2.2.2.1
def rV9 (y:wS3) (x:wG1):Bool:=(wV5 y x).2.2.2.2
instance (y:wS3) (x:wG1):Decidable (vG2 y x):=by
 unfold vG2 wV5
 try dsimp only
 infer_instance
def vO7 (y:wS3) (x:wG1):Int :=
 let a10:=y.2.1
 let a12:=x.1
 let v15:=(nth a10 a12 Z97)
 let y9:=(y.1,a12,v15,a10,y.2.2.1,a12,v15.2.1,())
 let e9:=(zB9 (wJ4 y9) (wD5 y9) ((0:Int),()))
 (bif (bif (decide (v15.1 < 1)) then true else (decide (v15.1 > 5))) then (8:Int) else (bif (wW9 y9 e9) then (vO6 y9 e9) else (24:Int)))
def uU2:St → Option Out:=xO8 [(0,(.val (.sl T97))),(10,(.val (.sl T97))),(11,vI)] [(12,vI)] wG2 wD6 vG2 fun y x=>[ex 1 (some (vG3 y x)) [(2,vI)] ((vO7 y x),()),ex 2 (some (rV9 y x)) [] ()]
def pB9 (p0:(List D97)):Prop × Int :=
 let v9:=(decide ((len p0) > 128))
 let y4:=(p0,p0,(len p0),())
 let x4:=((0:Int),())
 let e4:=(zB9 (wG2 y4) (wD6 y4) x4)
 (((!v9) = true → (Am.Ends (wG2 y4) (wD6 y4) (vG2 y4) x4)),(bif v9 then (3:Int) else (bif (vG3 y4 e4) then (vO7 y4 e4) else (0:Int))))
def vO8 (p0:(List D97)):Prop:=(pB9 p0).1
def f128 (p0:(List D97)):Int:=(pB9 p0).2
instance (p0:(List D97)):Decidable (vO8 p0):=by
 unfold vO8 pB9
 try dsimp only
 infer_instance
def vO9:Am.Spec:=fnSpec [(0,(.val (.sl T97)))] vI [] (fun x=>vO8 x.1) (fun x=>f128 x.1) (fun _=>())
def sD8:Ctx:=Cx tys [(129,tH4),(131,uF0)] [(9,uU1),(4,uU2)] [] false 63 [] []
theorem sD9:CtxOk Tryz.prog sD8:=xV6 tys_ok rfl ⟨qG0,sZ4,trivial⟩ rfl (by kernel_rfl)
noncomputable def qG1:Code:=Tryz.f128.body.getD .skip
noncomputable def sZ5:Code:=xW5 qG1 0
noncomputable def qG2:Code:=xW5 sZ5 0
theorem rW:yU1 Tryz.prog sD8 qG2:=xX3 sD9 mixed (sp:=uU1) rfl [[(2,vI)],tW6] (bs:=[]) (by kernel_rfl) trivial (by kernel_rfl) (by kernel_rfl) fun y x=>by kernel_rfl
theorem rW0:yU1 Tryz.prog sD8 sZ5:=xX3 sD9 mixed (sp:=uU2) rfl [[(2,vI)],[]] (bs:=[qG2]) (by kernel_rfl) ⟨rW,trivial⟩ (by kernel_rfl) (by kernel_rfl) fun y x=>by kernel_rfl
theorem sE:SpecOk Tryz.prog 128 vO9:=xX4 sD9 mixed Tryz.func128 (by kernel_rfl) (bs:=[sZ5]) (by kernel_rfl) ⟨rW0,trivial⟩ fun x=>by kernel_rfl
def oF6 (p0:D45) (p1:D94):Prop × D94 :=
 let v8:=(f96 p0)
 let v11:=(f109 p1.1)
 let v14:=(f109 p1.2.1)
 let v24:=(IntKind.wrap .i64 ((f98 v8.1 v11 v8.2.2.1 v14) + v8.2.2.2.2.1))
 let v35:=(IntKind.wrap .i64 ((f98 v8.2.1 v11 v8.2.2.2.1 v14) + v8.2.2.2.2.2.1))
 (((tW p0) ∧ ((vF1 p1.1) ∧ ((vF1 p1.2.1) ∧ ((uT6 v8.1 v11 v8.2.2.1 v14) ∧ ((vF1 v24) ∧ ((uT6 v8.2.1 v11 v8.2.2.2.1 v14) ∧ (vF1 v35))))))),((f109 v24),(f109 v35),()))
def tH5 (p0:D45) (p1:D94):Prop:=(oF6 p0 p1).1
def f143 (p0:D45) (p1:D94):D94:=(oF6 p0 p1).2
instance (p0:D45) (p1:D94):Decidable (tH5 p0 p1):=by
 unfold tH5 oF6
 try dsimp only
 infer_instance
def sO5:Am.Spec:=fnSpec [(0,(.val T45)),(1,(.val T94))] (.val T94) [] (fun x=>tH5 x.1 x.2.1) (fun x=>f143 x.1 x.2.1) (fun _=>())
def pC:Ctx:=Cx tys [(96,sD3),(98,sD4),(109,tG4)] [] [] true 38 [] []
theorem pC0:CtxOk Tryz.prog pC:=xV6 tys_ok rfl ⟨pS1,pS2,qF1,trivial⟩ rfl (by kernel_rfl)
theorem oF7:SpecOk Tryz.prog 143 sO5:=xX4 pC0 mixed Tryz.func143 (by kernel_rfl) (bs:=[]) (by kernel_rfl) trivial fun x=>by kernel_rfl
def oF8 (p0:D45) (p1:D94):Prop × D94 :=
 let s:=((IntKind.wrap .i64 (4096 * p1.1)),(IntKind.wrap .i64 (4096 * p1.2.1)),())
 let v14:=(f143 p0 s)
 (((tH5 p0 s) ∧ ((wC9 v14.1 (4096:Int)) ∧ (wC9 v14.2.1 (4096:Int)))),((f97 v14.1 (4096:Int)),(f97 v14.2.1 (4096:Int)),()))
def uP4 (p0:D45) (p1:D94):Prop:=(oF8 p0 p1).1
def f130 (p0:D45) (p1:D94):D94:=(oF8 p0 p1).2
instance (p0:D45) (p1:D94):Decidable (uP4 p0 p1):=by
 unfold uP4 oF8
 try dsimp only
 infer_instance
def tH6:Am.Spec:=fnSpec [(0,(.val T45)),(1,(.val T94))] (.val T94) [] (fun x=>uP4 x.1 x.2.1) (fun x=>f130 x.1 x.2.1) (fun _=>())
def pC1:Ctx:=Cx tys [(97,wL1),(143,sO5)] [] [] true 22 [] []
theorem pC2:CtxOk Tryz.prog pC1:=xV6 tys_ok rfl ⟨vN8,oF7,trivial⟩ rfl (by kernel_rfl)
theorem qG3:SpecOk Tryz.prog 130 tH6:=xX4 pC2 mixed Tryz.func130 (by kernel_rfl) (bs:=[]) (by kernel_rfl) trivial fun x=>by kernel_rfl
abbrev wD1:Type:=(D45 × Int × D97 × (List D97) × Int × Int × Int × Unit)
abbrev wB5:Type:=((List D97) × Int × Unit)
def vG4 (y:wD1) (x:wB5):Prop × Bool × wB5 × Bool × Bool :=
 let a3:=y.1
 let a9:=y.2.1
 let a8:=x.1
 let a42:=x.2.1
 let v43:=(decide (a42 < y.2.2.2.2.2.2.1))
 let v49:=(nth y.2.2.1.2.1 a42 Z94)
 let v50:=(f130 a3 v49)
 let v52:=(f131 v50)
 ((v43 = true → (InB a42 3 ∧ ((uP4 a3 v49) ∧ ((vO5 v50) ∧ (((!v52) = true → (InB a9 (len a8) ∧ (InB a42 3 ∧ a9 < len a8))) ∧ ((!v52) = true → InR (a42 + 1))))))),(v43 && (!v52)),((List.set a8 (Int.toNat a9) ((nth a8 a9 Z97).1,(List.set (nth a8 a9 Z97).2.1 (Int.toNat a42) v50),())),(a42 + 1),()),(v43 && v52),(!v43))
def wO3 (y:wD1) (x:wB5):Prop:=(vG4 y x).1
def wI2 (y:wD1) (x:wB5):Bool:=(vG4 y x).2.1
def wA6 (y:wD1) (x:wB5):wB5:=(vG4 y x).2.2.1
def tH7 (y:wD1) (x:wB5):Bool:=(vG4 y x).2.2.2.1
def tH8 (y:wD1) (x:wB5):Bool:=(vG4 y x).2.2.2.2
instance (y:wD1) (x:wB5):Decidable (wO3 y x):=by
 unfold wO3 vG4
 try dsimp only
 infer_instance
def vK7 (y:wD1) (x:wB5):(List D97) :=
 ([]:List D97)
def uF1 (y:wD1) (x:wB5):Int :=
 (2:Int)
def tH9:List (Nat × Sh):=[(4,(.own T97 0 false)),(5,vI)]
def uF2 (y:wD1) (x:wB5):(List D97) :=
 x.1
def tI:List (Nat × Sh):=[(3,(.box T45 (.val T45))),(8,(.own T97 1008 true)),(26,(.val (.sl T97))),(27,vI),(28,vI)]
def uF3:St → Option Out:=xO8 [(3,(.box T45 (.val T45))),(9,vI),(10,(.box T97 (.val T97))),(26,(.val (.sl T97))),(27,vI),(28,vI),(41,vI)] [(8,(.own T97 1008 true)),(42,vI)] wI2 wA6 wO3 fun y x=>[ex 1 (some (tH7 y x)) tH9 ((vK7 y x),(uF1 y x),()),ex 4 (some (tH8 y x)) tI (y.1,(uF2 y x),y.2.2.2.1,y.2.2.2.2.1,y.2.2.2.2.2.1,())]
abbrev wJ5:Type:=(D45 × (List D97) × Int × Unit)
abbrev wD2:Type:=((List D97) × Int × Unit)
def vU2 (y:wJ5) (x:wD2):Prop × Bool × wD2 × Bool × Bool :=
 let a26:=y.2.1
 let a27:=y.2.2.1
 let a8:=x.1
 let a28:=x.2.1
 let v29:=(decide (a28 < a27))
 let v31:=(nth a26 a28 Z97)
 let y13:=(y.1,a28,v31,a26,a27,a28,(f129 v31.1),())
 let x13:=((List.set a8 (Int.toNat a28) (v31.1,(nth a8 a28 Z97).2.1,())),(0:Int),())
 let e13:=(zB9 (wI2 y13) (wA6 y13) x13)
 let q13_4:=(tH8 y13 e13)
 ((v29 = true → (InB a28 (len a26) ∧ (InB a28 (len a8) ∧ (a28 < len a8 ∧ ((uP2 v31.1) ∧ ((Am.Ends (wI2 y13) (wA6 y13) (wO3 y13) x13) ∧ (q13_4 = true → InR (a28 + 1)))))))),(v29 && q13_4),((uF2 y13 e13),(a28 + 1),()),(v29 && (tH7 y13 e13)),(!v29))
def wX (y:wJ5) (x:wD2):Prop:=(vU2 y x).1
def vG5 (y:wJ5) (x:wD2):Bool:=(vU2 y x).2.1
def wG3 (y:wJ5) (x:wD2):wD2:=(vU2 y x).2.2.1
def uP5 (y:wJ5) (x:wD2):Bool:=(vU2 y x).2.2.2.1
def rW1 (y:wJ5) (x:wD2):Bool:=(vU2 y x).2.2.2.2
instance (y:wJ5) (x:wD2):Decidable (wX y x):=by
 unfold wX vU2
 try dsimp only
 infer_instance
def vP (y:wJ5) (x:wD2):(List D97) :=
 let a26:=y.2.1
 let a8:=x.1
 let a28:=x.2.1
 let v31:=(nth a26 a28 Z97)
 let y13:=(y.1,a28,v31,a26,y.2.2.1,a28,(f129 v31.1),())
 (vK7 y13 (zB9 (wI2 y13) (wA6 y13) ((List.set a8 (Int.toNat a28) (v31.1,(nth a8 a28 Z97).2.1,())),(0:Int),())))
def uU3 (y:wJ5) (x:wD2):Int :=
 let a26:=y.2.1
 let a8:=x.1
 let a28:=x.2.1
 let v31:=(nth a26 a28 Z97)
 let y13:=(y.1,a28,v31,a26,y.2.2.1,a28,(f129 v31.1),())
 (uF1 y13 (zB9 (wI2 y13) (wA6 y13) ((List.set a8 (Int.toNat a28) (v31.1,(nth a8 a28 Z97).2.1,())),(0:Int),())))
def tW7:List (Nat × Sh):=[(4,(.own T97 0 false)),(5,vI)]
def vP0 (y:wJ5) (x:wD2):(List D97) :=
 x.1
def uU4:St → Option Out:=xO8 [(3,(.box T45 (.val T45))),(26,(.val (.sl T97))),(27,vI)] [(8,(.own T97 1008 true)),(28,vI)] vG5 wG3 wX fun y x=>[ex 1 (some (uP5 y x)) tW7 ((vP y x),(uU3 y x),()),ex 2 (some (rW1 y x)) [(8,(.own T97 1008 true))] ((vP0 y x),())]
def pC3 (p0:(List D97)) (p1:D45):Prop × ((List D97) × Int × Unit) :=
 let v14:=(f128 p0)
 let v16:=(v14 != 0)
 let v19:=(f77 p1)
 let v21:=(v19 != 0)
 let v24:=(len p0)
 let y9:=(p1,p0,(len p0),())
 let x9:=((List.replicate (Int.toNat v24) Z97),(0:Int),())
 let e9:=(zB9 (vG5 y9) (wG3 y9) x9)
 let q9_1:=(uP5 y9 e9)
 (((vO8 p0) ∧ ((!v16) = true → ((vY6 p1) ∧ ((!v21) = true → ((0 ≤ v24 ∧ v24 ≤ v24 ∧ v24 ≤ 4294967296) ∧ (Am.Ends (vG5 y9) (wG3 y9) (wX y9) x9)))))),((bif v16 then [] else (bif v21 then [] else (bif q9_1 then (vP y9 e9) else (vP0 y9 e9)))),(bif v16 then v14 else (bif v21 then v19 else (bif q9_1 then (uU3 y9 e9) else (0:Int)))),()))
def tI0 (p0:(List D97)) (p1:D45):Prop:=(pC3 p0 p1).1
def f113 (p0:(List D97)) (p1:D45):((List D97) × Int × Unit):=(pC3 p0 p1).2
instance (p0:(List D97)) (p1:D45):Decidable (tI0 p0 p1):=by
 unfold tI0 pC3
 try dsimp only
 infer_instance
def sO6:Am.Spec:=fnSpec [(0,(.val (.sl T97))),(1,(.val T45))] (.tup (.cons (.val (.sl T97)) (.cons vI .nl))) [] (fun x=>tI0 x.1 x.2.1) (fun x=>f113 x.1 x.2.1) (fun _=>())
def sE0:Ctx:=Cx tys [(77,uE8),(128,vO9),(129,tH4),(130,tH6),(131,uF0)] [(13,uF3),(9,uU4)] [(15,[(4,0,25,1008)]),(43,[(1,4,0,0),(4,0,1008,0)])] false 63 [] [25]
theorem sE1:CtxOk Tryz.prog sE0:=xV6 tys_ok rfl ⟨rK8,sE,qG0,qG3,sZ4,trivial⟩ rfl (by kernel_rfl)
noncomputable def qG4:Code:=Tryz.f113.body.getD .skip
noncomputable def sZ6:Code:=xW5 qG4 0
noncomputable def rL6:Code:=xW5 sZ6 0
theorem sZ7:yU1 Tryz.prog sE0 rL6:=xX3 sE1 mixed (sp:=uF3) rfl [tH9,tI] (bs:=[]) (by kernel_rfl) trivial (by kernel_rfl) (by kernel_rfl) fun y x=>by kernel_rfl
theorem rW2:yU1 Tryz.prog sE0 sZ6:=xX3 sE1 mixed (sp:=uU4) rfl [tW7,[(8,(.own T97 1008 true))]] (bs:=[rL6]) (by kernel_rfl) ⟨sZ7,trivial⟩ (by kernel_rfl) (by kernel_rfl) fun y x=>by kernel_rfl
theorem oF9:SpecOk Tryz.prog 113 sO6:=xX4 sE1 mixed Tryz.func113 (by kernel_rfl) (bs:=[sZ6]) (by kernel_rfl) ⟨rW2,trivial⟩ fun x=>by kernel_rfl
def uF4 (p0:D94) (p1:(List D94)):Prop × (Unit) × ((List D94) × Unit) :=
 let v7:=(IntKind.wrap .i64 ((len p1) - 1))
 let v10:=(!(Ty.eqb T94 p0 (nth p1 v7 Z94)))
 let v13:=([p0]:List D94)
 ((InB v7 (len p1) ∧ (v10 = true → ((List.length p1 + List.length v13:Nat):Int) ≤ 4294967296)),(),((bif v10 then (p1 ++ v13) else p1),()))
def wO4 (p0:D94) (p1:(List D94)):Prop:=(uF4 p0 p1).1
def oG (p0:D94) (p1:(List D94)):(Unit):=(uF4 p0 p1).2.1
def wG4 (p0:D94) (p1:(List D94)):((List D94) × Unit):=(uF4 p0 p1).2.2
instance (p0:D94) (p1:(List D94)):Decidable (wO4 p0 p1):=by
 unfold wO4 uF4
 try dsimp only
 infer_instance
def uU5:Am.Spec:=fnSpec [(0,(.val T94)),(1,(.box (.sl T94) (.own T94 400100 false)))] (.tup .nl) [(1,(.box (.sl T94) (.own T94 400100 false)))] (fun x=>wO4 x.1 x.2.1) (fun x=>oG x.1 x.2.1) (fun x=>wG4 x.1 x.2.1)
def sZ8:Ctx:=Cx tys [] [] [(5,[(4,0,14,400100)])] true 15 [1] []
theorem sZ9:CtxOk Tryz.prog sZ8:=xV6 tys_ok rfl trivial rfl (by kernel_rfl)
theorem rW3:SpecOk Tryz.prog 144 uU5:=xX4 sZ9 mixed Tryz.func144 (by kernel_rfl) (bs:=[]) (by kernel_rfl) trivial fun x=>by kernel_rfl
abbrev wG5:Type:=(D97 × D94 × (Unit × Unit) × Unit)
abbrev wD7:Type:=((List D94) × Int × Unit)
def wZ3 (y:wG5) (x:wD7):Prop × Bool × wD7 :=
 let a3:=y.1
 let a5:=y.2.1
 let a2:=x.1
 let a7:=x.2.1
 let v37:=(decide (a7 ≤ 8))
 let v41:=(IntKind.wrap .i64 (8 - a7))
 let v44:=(IntKind.wrap .i64 (v41 * v41))
 let v48:=(IntKind.wrap .i64 ((IntKind.wrap .i64 (2 * a7)) * v41))
 let v51:=(IntKind.wrap .i64 (a7 * a7))
 let v70:=(IntKind.wrap .i64 ((IntKind.wrap .i64 ((IntKind.wrap .i64 (v44 * a5.1)) + (IntKind.wrap .i64 (v48 * ((nth a3.2.1 (0:Int) Z94).1))))) + (IntKind.wrap .i64 (v51 * ((nth a3.2.1 (1:Int) Z94).1)))))
 let v89:=(IntKind.wrap .i64 ((IntKind.wrap .i64 ((IntKind.wrap .i64 (v44 * a5.2.1)) + (IntKind.wrap .i64 (v48 * ((nth a3.2.1 (0:Int) Z94).2.1))))) + (IntKind.wrap .i64 (v51 * ((nth a3.2.1 (1:Int) Z94).2.1)))))
 let s:=((f97 v70 (64:Int)),(f97 v89 (64:Int)),())
 ((v37 = true → (InB (0:Int) 3 ∧ (InB (1:Int) 3 ∧ ((wC9 v70 (64:Int)) ∧ (InB (0:Int) 3 ∧ (InB (1:Int) 3 ∧ ((wC9 v89 (64:Int)) ∧ (wO4 s a2)))))))),v37,((wG4 s a2).1,(IntKind.wrap .i64 (a7 + 1)),()))
def wI3 (y:wG5) (x:wD7):Prop:=(wZ3 y x).1
def wG6 (y:wG5) (x:wD7):Bool:=(wZ3 y x).2.1
def wA1 (y:wG5) (x:wD7):wD7:=(wZ3 y x).2.2
instance (y:wG5) (x:wD7):Decidable (wI3 y x):=by
 unfold wI3 wZ3
 try dsimp only
 infer_instance
def wZ4 (y:wG5) (x:wD7):(List D94) :=
 x.1
def uF5:List (Nat × Sh):=[(2,(.box (.sl T94) (.own T94 400200 false)))]
def vP1:St → Option Out:=xO8 [(3,(.box T97 (.val T97))),(5,(.box T94 (.val T94))),(6,(.fn 144 (.cons (.ref 2 (.sl T94)) .nl)))] [(2,(.box (.sl T94) (.own T94 400200 false))),(7,vI)] wG6 wA1 wI3 fun y x=>[ex 3 none uF5 ((wZ4 y x),())]
abbrev wE1:Type:=(D97 × D94 × (Unit × Unit) × Unit)
abbrev wB7:Type:=((List D94) × Int × Unit)
def wS4 (y:wE1) (x:wB7):Prop × Bool × wB7 :=
 let a3:=y.1
 let a5:=y.2.1
 let a2:=x.1
 let a12:=x.2.1
 let v96:=(decide (a12 ≤ 16))
 let v100:=(IntKind.wrap .i64 (16 - a12))
 let v105:=(IntKind.wrap .i64 ((IntKind.wrap .i64 (v100 * v100)) * v100))
 let v111:=(IntKind.wrap .i64 ((IntKind.wrap .i64 ((IntKind.wrap .i64 (3 * a12)) * v100)) * v100))
 let v117:=(IntKind.wrap .i64 ((IntKind.wrap .i64 ((IntKind.wrap .i64 (3 * a12)) * a12)) * v100))
 let v122:=(IntKind.wrap .i64 ((IntKind.wrap .i64 (a12 * a12)) * a12))
 let v141:=(IntKind.wrap .i64 ((IntKind.wrap .i64 ((IntKind.wrap .i64 (v105 * a5.1)) + (IntKind.wrap .i64 (v111 * ((nth a3.2.1 (0:Int) Z94).1))))) + (IntKind.wrap .i64 (v117 * ((nth a3.2.1 (1:Int) Z94).1)))))
 let v148:=(IntKind.wrap .i64 (v141 + (IntKind.wrap .i64 (v122 * ((nth a3.2.1 (2:Int) Z94).1)))))
 let v167:=(IntKind.wrap .i64 ((IntKind.wrap .i64 ((IntKind.wrap .i64 (v105 * a5.2.1)) + (IntKind.wrap .i64 (v111 * ((nth a3.2.1 (0:Int) Z94).2.1))))) + (IntKind.wrap .i64 (v117 * ((nth a3.2.1 (1:Int) Z94).2.1)))))
 let v174:=(IntKind.wrap .i64 (v167 + (IntKind.wrap .i64 (v122 * ((nth a3.2.1 (2:Int) Z94).2.1)))))
 let s:=((f97 v148 (4096:Int)),(f97 v174 (4096:Int)),())
 ((v96 = true → (InB (0:Int) 3 ∧ (InB (1:Int) 3 ∧ (InB (2:Int) 3 ∧ ((wC9 v148 (4096:Int)) ∧ (InB (0:Int) 3 ∧ (InB (1:Int) 3 ∧ (InB (2:Int) 3 ∧ ((wC9 v174 (4096:Int)) ∧ (wO4 s a2)))))))))),v96,((wG4 s a2).1,(IntKind.wrap .i64 (a12 + 1)),()))
def wF1 (y:wE1) (x:wB7):Prop:=(wS4 y x).1
def wE2 (y:wE1) (x:wB7):Bool:=(wS4 y x).2.1
def xZ7 (y:wE1) (x:wB7):wB7:=(wS4 y x).2.2
instance (y:wE1) (x:wB7):Decidable (wF1 y x):=by
 unfold wF1 wS4
 try dsimp only
 infer_instance
def wV (y:wE1) (x:wB7):(List D94) :=
 x.1
def vY7:List (Nat × Sh):=[(2,(.box (.sl T94) (.own T94 400200 false)))]
def vN6:St → Option Out:=xO8 [(3,(.box T97 (.val T97))),(5,(.box T94 (.val T94))),(6,(.fn 144 (.cons (.ref 2 (.sl T94)) .nl)))] [(2,(.box (.sl T94) (.own T94 400200 false))),(12,vI)] wE2 xZ7 wF1 fun y x=>[ex 5 none vY7 ((wV y x),())]
def tB4 (p0:(List D94)) (p1:D97):Prop × (List D94) :=
 let v21:=(IntKind.wrap .i64 ((len p0) - 1))
 let v22:=(nth p0 v21 Z94)
 let v28:=(p1.1 == 2)
 let v32:=(nth p1.2.1 (0:Int) Z94)
 let v35:=(p1.1 == 3)
 let y8:=(p1,v22,((),()),())
 let x8:=(p0,(1:Int),())
 let v94:=(p1.1 == 4)
 let y15:=(p1,v22,((),()),())
 let x15:=(p0,(1:Int),())
 let m2_2:=(bif v28 then (wG4 v32 p0).1 else (bif v35 then (wZ4 y8 (zB9 (wG6 y8) (wA1 y8) x8)) else (bif v94 then (wV y15 (zB9 (wE2 y15) (xZ7 y15) x15)) else p0)))
 ((InB v21 (len p0) ∧ ((v28 = true → (InB (0:Int) 3 ∧ (wO4 v32 p0))) ∧ (v28 = false → ((v35 = true → (Am.Ends (wG6 y8) (wA1 y8) (wI3 y8) x8)) ∧ (v35 = false → (v94 = true → (Am.Ends (wE2 y15) (xZ7 y15) (wF1 y15) x15))))))),m2_2)
def vG6 (p0:(List D94)) (p1:D97):Prop:=(tB4 p0 p1).1
def uA7 (p0:(List D94)) (p1:D97):(List D94):=(tB4 p0 p1).2
instance (p0:(List D94)) (p1:D97):Decidable (vG6 p0 p1):=by
 unfold vG6 tB4
 try dsimp only
 infer_instance
def uU6:Am.Spec:=fnSpec [(0,(.own T94 400000 false)),(1,(.val T97))] (.own T94 0 false) [] (fun x=>vG6 x.1 x.2.1) (fun x=>uA7 x.1 x.2.1) (fun _=>())
def uA8:Ctx:={ Cx tys [(97,wL1),(144,uU5)] [(8,vP1),(15,vN6)] [(1,[(4,0,400000,400200)]),(41,[(4,0,400200,0)])] true 179 [] [] with wants:=[(144,[])] }
theorem uA9:CtxOk Tryz.prog uA8:=xV6 tys_ok rfl ⟨vN8,rW3,trivial⟩ rfl (by kernel_rfl)
noncomputable def uU7:Code:=Tryz.f132.body.getD .skip
noncomputable def tW8:Code:=xW5 uU7 0
theorem sE2:yU1 Tryz.prog uA8 tW8:=xX3 uA9 mixed (sp:=vP1) rfl [uF5] (bs:=[]) (by kernel_rfl) trivial (by kernel_rfl) (by kernel_rfl) fun y x=>by kernel_rfl
noncomputable def tI1:Code:=xW5 uU7 1
theorem tV1:yU1 Tryz.prog uA8 tI1:=xX3 uA9 mixed (sp:=vN6) rfl [vY7] (bs:=[]) (by kernel_rfl) trivial (by kernel_rfl) (by kernel_rfl) fun y x=>by kernel_rfl
theorem rW4:SpecOk Tryz.prog 132 uU6:=xX4 uA9 mixed Tryz.func132 (by kernel_rfl) (bs:=[tW8,tI1]) (by kernel_rfl) ⟨sE2,tV1,trivial⟩ fun x=>by kernel_rfl
abbrev vG7:Type:=((List D97) × (List D97) × Int × Unit)
abbrev wN4:Type:=((List (List D94)) × (List D94) × Int × Unit)
def vU3 (y:vG7) (x:wN4):Prop × Bool × wN4 :=
 let a0:=y.1
 let a14:=y.2.1
 let a5:=x.1
 let a6:=x.2.1
 let a16:=x.2.2.1
 let v17:=(decide (a16 < y.2.2.1))
 let v19:=(nth a14 a16 Z97)
 let v23:=(v19.1 == 1)
 let m6:=(bif v23 then ([(nth v19.2.1 (0:Int) Z94)]:List D94) else (uA7 a6 v19))
 let v33:=(len a0)
 let v35:=(a16 == (v33 - 1))
 let v39:=(a16 + 1)
 let v44:=(bif v35 then true else ((nth a0 v39 Z97).1 == 1))
 let v47:=([m6]:List (List D94))
 ((v17 = true → (InB a16 (len a14) ∧ ((v23 = true → InB (0:Int) 3) ∧ ((v23 = false → (vG6 a6 v19)) ∧ (InR (v33 - 1) ∧ (((!v35) = true → InR (a16 + 1)) ∧ (((!v35) = true → InB v39 (len a0)) ∧ ((v44 = true → ((List.length a5 + List.length v47:Nat):Int) ≤ 4294967296) ∧ InR (a16 + 1))))))))),v17,((bif v44 then (a5 ++ v47) else a5),m6,(a16 + 1),()))
def wX0 (y:vG7) (x:wN4):Prop:=(vU3 y x).1
def vG8 (y:vG7) (x:wN4):Bool:=(vU3 y x).2.1
def wD8 (y:vG7) (x:wN4):wN4:=(vU3 y x).2.2
instance (y:vG7) (x:wN4):Decidable (wX0 y x):=by
 unfold wX0 vU3
 try dsimp only
 infer_instance
def vP2 (y:vG7) (x:wN4):(List (List D94)) :=
 x.1
def tW9:List (Nat × Sh):=[(5,(.own (.sl T94) 1005 false))]
def uU8:St → Option Out:=xO8 [(0,(.val (.sl T97))),(14,(.val (.sl T97))),(15,vI)] [(5,(.own (.sl T94) 1005 false)),(6,(.own T94 1006 false)),(16,vI)] vG8 wD8 wX0 fun y x=>[ex 2 none tW9 ((vP2 y x),())]
def pC4 (p0:(List D97)):Prop × ((List (List D94)) × Int × Unit) :=
 let v10:=(f128 p0)
 let v12:=(v10 != 0)
 let y7:=(p0,p0,(len p0),())
 let x7:=(([]:List (List D94)),([]:List D94),(0:Int),())
 (((vO8 p0) ∧ ((!v12) = true → (Am.Ends (vG8 y7) (wD8 y7) (wX0 y7) x7))),((bif v12 then [] else (vP2 y7 (zB9 (vG8 y7) (wD8 y7) x7))),(bif v12 then v10 else (0:Int)),()))
def vP3 (p0:(List D97)):Prop:=(pC4 p0).1
def f114 (p0:(List D97)):((List (List D94)) × Int × Unit):=(pC4 p0).2
instance (p0:(List D97)):Decidable (vP3 p0):=by
 unfold vP3 pC4
 try dsimp only
 infer_instance
def tI2:Am.Spec:=fnSpec [(0,(.val (.sl T97)))] (.tup (.cons (.own (.sl T94) 0 false) (.cons vI .nl))) [] (fun x=>vP3 x.1) (fun x=>f114 x.1) (fun _=>())
def rL7:Ctx:={ Cx tys [(128,vO9),(132,uU6)] [(7,uU8)] [(21,[(4,0,27,1006)]),(23,[(4,0,30,1006)]),(27,[(4,0,48,1005)]),(31,[(4,0,1005,0)])] false 51 [] [] with wants:=[(132,[0])] }
theorem rL8:CtxOk Tryz.prog rL7:=xV6 tys_ok rfl ⟨sE,rW4,trivial⟩ rfl (by kernel_rfl)
noncomputable def qG5:Code:=Tryz.f114.body.getD .skip
noncomputable def qG6:Code:=xW5 qG5 0
theorem rW5:yU1 Tryz.prog rL7 qG6:=xX3 rL8 mixed (sp:=uU8) rfl [tW9] (bs:=[]) (by kernel_rfl) trivial (by kernel_rfl) (by kernel_rfl) fun y x=>by kernel_rfl
theorem qG7:SpecOk Tryz.prog 114 tI2:=xX4 rL8 mixed Tryz.func114 (by kernel_rfl) (bs:=[qG6]) (by kernel_rfl) ⟨rW5,trivial⟩ fun x=>by kernel_rfl
abbrev vG9:Type:=((List D97) × (List D97) × Int × Unit)
abbrev wS5:Type:=((List Bool) × Int × Unit)
def uF6 (y:vG9) (x:wS5):Prop × Bool × wS5 :=
 let a0:=y.1
 let a13:=y.2.1
 let a5:=x.1
 let a15:=x.2.1
 let v16:=(decide (a15 < y.2.2.1))
 let v22:=(len a0)
 let v24:=(a15 == (v22 - 1))
 let v28:=(a15 + 1)
 let v33:=(bif v24 then true else ((nth a0 v28 Z97).1 == 1))
 let v38:=([((nth a13 a15 Z97).1 != 5)]:List Bool)
 ((v16 = true → (InB a15 (len a13) ∧ (InR (v22 - 1) ∧ (((!v24) = true → InR (a15 + 1)) ∧ (((!v24) = true → InB v28 (len a0)) ∧ ((v33 = true → ((List.length a5 + List.length v38:Nat):Int) ≤ 4294967296) ∧ InR (a15 + 1))))))),v16,((bif v33 then (a5 ++ v38) else a5),(a15 + 1),()))
def vU4 (y:vG9) (x:wS5):Prop:=(uF6 y x).1
def tI3 (y:vG9) (x:wS5):Bool:=(uF6 y x).2.1
def vC2 (y:vG9) (x:wS5):wS5:=(uF6 y x).2.2
instance (y:vG9) (x:wS5):Decidable (vU4 y x):=by
 unfold vU4 uF6
 try dsimp only
 infer_instance
def uU9 (y:vG9) (x:wS5):(List Bool) :=
 x.1
def uV:St → Option Out:=xO8 [(0,(.val (.sl T97))),(13,(.val (.sl T97))),(14,vI)] [(5,(.own .bool 1005 false)),(15,vI)] tI3 vC2 vU4 fun y x=>[ex 2 none [(5,(.own .bool 1005 false))] ((uU9 y x),())]
def oG0 (p0:(List D97)):Prop × ((List Bool) × Int × Unit) :=
 let v9:=(f128 p0)
 let v11:=(v9 != 0)
 let y6:=(p0,p0,(len p0),())
 let x6:=(([]:List Bool),(0:Int),())
 (((vO8 p0) ∧ ((!v11) = true → (Am.Ends (tI3 y6) (vC2 y6) (vU4 y6) x6))),((bif v11 then [] else (uU9 y6 (zB9 (tI3 y6) (vC2 y6) x6))),(bif v11 then v9 else (0:Int)),()))
def tI4 (p0:(List D97)):Prop:=(oG0 p0).1
def f115 (p0:(List D97)):((List Bool) × Int × Unit):=(oG0 p0).2
instance (p0:(List D97)):Decidable (tI4 p0):=by
 unfold tI4 oG0
 try dsimp only
 infer_instance
def sO7:Am.Spec:=fnSpec [(0,(.val (.sl T97)))] (.tup (.cons (.own .bool 0 false) (.cons vI .nl))) [] (fun x=>tI4 x.1) (fun x=>f115 x.1) (fun _=>())
def rL9:Ctx:=Cx tys [(128,vO9)] [(6,uV)] [(19,[(4,0,39,1005)]),(23,[(4,0,1005,0)])] false 42 [] []
theorem rM:CtxOk Tryz.prog rL9:=xV6 tys_ok rfl ⟨sE,trivial⟩ rfl (by kernel_rfl)
noncomputable def qG8:Code:=Tryz.f115.body.getD .skip
noncomputable def qG9:Code:=xW5 qG8 0
theorem rW6:yU1 Tryz.prog rL9 qG9:=xX3 rM mixed (sp:=uV) rfl [[(5,(.own .bool 1005 false))]] (bs:=[]) (by kernel_rfl) trivial (by kernel_rfl) (by kernel_rfl) fun y x=>by kernel_rfl
theorem oG1:SpecOk Tryz.prog 115 sO7:=xX4 rM mixed Tryz.func115 (by kernel_rfl) (bs:=[qG9]) (by kernel_rfl) ⟨rW6,trivial⟩ fun x=>by kernel_rfl
abbrev wS6:Type:=((List (List D94)) × (List (List D94)) × Int × Unit)
abbrev wJ6:Type:=(Int × Int × Unit)
def vU5 (y:wS6) (x:wJ6):Prop × Bool × wJ6 × Bool × Bool :=
 let a18:=y.2.1
 let a5:=x.1
 let a20:=x.2.1
 let v21:=(decide (a20 < y.2.2.1))
 let v26:=(len (nth a18 a20 ([]:List D94)))
 let v27:=(a5 + v26)
 let v29:=(decide (v27 > 4096))
 ((v21 = true → (InB a20 (len a18) ∧ (InR (a5 + v26) ∧ ((!v29) = true → InR (a20 + 1))))),(v21 && (!v29)),(v27,(a20 + 1),()),(v21 && v29),(!v21))
def vU6 (y:wS6) (x:wJ6):Prop:=(vU5 y x).1
def tI5 (y:wS6) (x:wJ6):Bool:=(vU5 y x).2.1
def vP4 (y:wS6) (x:wJ6):wJ6:=(vU5 y x).2.2.1
def tX (y:wS6) (x:wJ6):Bool:=(vU5 y x).2.2.2.1
def tX0 (y:wS6) (x:wJ6):Bool:=(vU5 y x).2.2.2.2
instance (y:wS6) (x:wJ6):Decidable (vU6 y x):=by
 unfold vU6 vU5
 try dsimp only
 infer_instance
def uV0 (y:wS6) (x:wJ6):Int :=
 (3:Int)
def uV1:St → Option Out:=xO8 [(0,(.val (.sl (.sl T94)))),(18,(.val (.sl (.sl T94)))),(19,vI)] [(5,vI),(20,vI)] tI5 vP4 vU6 fun y x=>[ex 1 (some (tX y x)) [(4,vI)] ((uV0 y x),()),ex 2 (some (tX0 y x)) [(0,(.val (.sl (.sl T94))))] (y.1,())]
abbrev wM:Type:=((List (List D94)) × Int × Int × (List D94) × Int × Unit)
abbrev wF2:Type:=(Int × Unit)
def vH (y:wM) (x:wF2):Prop × Bool × wF2 × Bool × Bool :=
 let a37:=y.2.2.2.1
 let a39:=x.1
 let v40:=(decide (a39 < y.2.2.2.2.1))
 let v41:=(nth a37 a39 Z94)
 let v60:=(bif (bif (bif (decide (v41.1 < (-16777216))) then true else (decide (v41.1 > 16777216))) then true else (decide (v41.2.1 < (-16777216)))) then true else (decide (v41.2.1 > 16777216)))
 ((v40 = true → (InB a39 (len a37) ∧ ((!v60) = true → InR (a39 + 1)))),(v40 && (!v60)),((a39 + 1),()),(v40 && v60),(!v40))
def vK8 (y:wM) (x:wF2):Prop:=(vH y x).1
def vU7 (y:wM) (x:wF2):Bool:=(vH y x).2.1
def wV6 (y:wM) (x:wF2):wF2:=(vH y x).2.2.1
def tI6 (y:wM) (x:wF2):Bool:=(vH y x).2.2.2.1
def tI7 (y:wM) (x:wF2):Bool:=(vH y x).2.2.2.2
instance (y:wM) (x:wF2):Decidable (vK8 y x):=by
 unfold vK8 vH
 try dsimp only
 infer_instance
def uF7 (y:wM) (x:wF2):Int :=
 (2:Int)
def tI8:List (Nat × Sh):=[(31,(.val (.sl (.sl T94)))),(32,vI),(33,vI)]
def uF8:St → Option Out:=xO8 [(31,(.val (.sl (.sl T94)))),(32,vI),(33,vI),(37,(.val (.sl T94))),(38,vI)] [(39,vI)] vU7 wV6 vK8 fun y x=>[ex 1 (some (tI6 y x)) [(4,vI)] ((uF7 y x),()),ex 6 (some (tI7 y x)) tI8 (y.1,y.2.1,y.2.2.1,())]
abbrev wM0:Type:=((List (List D94)) × Int × Unit)
abbrev wF3:Type:=(Int × Unit)
def vH0 (y:wM0) (x:wF3):Prop × Bool × wF3 × Bool × Bool :=
 let a31:=y.1
 let a32:=y.2.1
 let a33:=x.1
 let v34:=(decide (a33 < a32))
 let v35:=(nth a31 a33 ([]:List D94))
 let y15:=(a31,a32,a33,v35,(len v35),())
 let x15:=((0:Int),())
 let e15:=(zB9 (vU7 y15) (wV6 y15) x15)
 let q15_6:=(tI7 y15 e15)
 ((v34 = true → (InB a33 (len a31) ∧ ((Am.Ends (vU7 y15) (wV6 y15) (vK8 y15) x15) ∧ (q15_6 = true → InR (a33 + 1))))),(v34 && q15_6),((a33 + 1),()),(v34 && (tI6 y15 e15)),(!v34))
def vK9 (y:wM0) (x:wF3):Prop:=(vH0 y x).1
def uP6 (y:wM0) (x:wF3):Bool:=(vH0 y x).2.1
def vL (y:wM0) (x:wF3):wF3:=(vH0 y x).2.2.1
def tI9 (y:wM0) (x:wF3):Bool:=(vH0 y x).2.2.2.1
def rA (y:wM0) (x:wF3):Bool:=(vH0 y x).2.2.2.2
instance (y:wM0) (x:wF3):Decidable (vK9 y x):=by
 unfold vK9 vH0
 try dsimp only
 infer_instance
def uF9 (y:wM0) (x:wF3):Int :=
 let a31:=y.1
 let a33:=x.1
 let v35:=(nth a31 a33 ([]:List D94))
 let y15:=(a31,y.2.1,a33,v35,(len v35),())
 (uF7 y15 (zB9 (vU7 y15) (wV6 y15) ((0:Int),())))
def uG:St → Option Out:=xO8 [(31,(.val (.sl (.sl T94)))),(32,vI)] [(33,vI)] uP6 vL vK9 fun y x=>[ex 1 (some (tI9 y x)) [(4,vI)] ((uF9 y x),()),ex 4 (some (rA y x)) [] ()]
def oG2 (p0:(List (List D94))) (p1:Int):Prop × Int :=
 let v17:=(bif (p1 != 0) then (p1 != 1) else false)
 let y5:=(p0,p0,(len p0),())
 let x5:=((0:Int),(0:Int),())
 let e5:=(zB9 (tI5 y5) (vP4 y5) x5)
 let y12:=(p0,(len p0),())
 let x12:=((0:Int),())
 let e12:=(zB9 (uP6 y12) (vL y12) x12)
 (((!v17) = true → ((Am.Ends (tI5 y5) (vP4 y5) (vU6 y5) x5) ∧ ((tX0 y5 e5) = true → (Am.Ends (uP6 y12) (vL y12) (vK9 y12) x12)))),(bif v17 then (8:Int) else (bif (tX y5 e5) then (uV0 y5 e5) else (bif (tI9 y12 e12) then (uF9 y12 e12) else (0:Int)))))
def uB (p0:(List (List D94))) (p1:Int):Prop:=(oG2 p0 p1).1
def f117 (p0:(List (List D94))) (p1:Int):Int:=(oG2 p0 p1).2
instance (p0:(List (List D94))) (p1:Int):Decidable (uB p0 p1):=by
 unfold uB oG2
 try dsimp only
 infer_instance
def uG0:Am.Spec:=fnSpec [(0,(.val (.sl (.sl T94)))),(1,vI)] vI [] (fun x=>uB x.1 x.2.1) (fun x=>f117 x.1 x.2.1) (fun _=>())
def tB5:Ctx:=Cx tys [] [(5,uV1),(15,uF8),(12,uG)] [] false 63 [] []
theorem tB6:CtxOk Tryz.prog tB5:=xV6 tys_ok rfl trivial rfl (by kernel_rfl)
noncomputable def sO8:Code:=Tryz.f117.body.getD .skip
noncomputable def qH:Code:=xW5 sO8 0
theorem rW7:yU1 Tryz.prog tB5 qH:=xX3 tB6 mixed (sp:=uV1) rfl [[(4,vI)],[(0,(.val (.sl (.sl T94))))]] (bs:=[]) (by kernel_rfl) trivial (by kernel_rfl) (by kernel_rfl) fun y x=>by kernel_rfl
noncomputable def sE3:Code:=xW5 sO8 1
noncomputable def rM0:Code:=xW5 sE3 0
theorem rA0:yU1 Tryz.prog tB5 rM0:=xX3 tB6 mixed (sp:=uF8) rfl [[(4,vI)],tI8] (bs:=[]) (by kernel_rfl) trivial (by kernel_rfl) (by kernel_rfl) fun y x=>by kernel_rfl
theorem rA1:yU1 Tryz.prog tB5 sE3:=xX3 tB6 mixed (sp:=uG) rfl [[(4,vI)],[]] (bs:=[rM0]) (by kernel_rfl) ⟨rA0,trivial⟩ (by kernel_rfl) (by kernel_rfl) fun y x=>by kernel_rfl
theorem rA2:SpecOk Tryz.prog 117 uG0:=xX4 tB6 mixed Tryz.func117 (by kernel_rfl) (bs:=[qH,sE3]) (by kernel_rfl) ⟨rW7,rA1,trivial⟩ fun x=>by kernel_rfl
def oG3 (p0:Int) (p1:Int) (p2:Int):Prop × Int :=
 let m6_2:=(bif (bif (decide (p0 < 1)) then true else (decide (p0 > 4096))) then (2:Int) else (bif (bif (decide (p1 < 0)) then true else (decide (p1 > 2))) then (8:Int) else (bif (bif (decide (p2 < 0)) then true else (decide (p2 > 2))) then (8:Int) else (0:Int))))
 (True,m6_2)
def tJ (p0:Int) (p1:Int) (p2:Int):Prop:=(oG3 p0 p1 p2).1
def f133 (p0:Int) (p1:Int) (p2:Int):Int:=(oG3 p0 p1 p2).2
instance (p0:Int) (p1:Int) (p2:Int):Decidable (tJ p0 p1 p2):=by
 unfold tJ oG3
 try dsimp only
 infer_instance
def sO9:Am.Spec:=fnSpec [(0,vI),(1,vI),(2,vI)] vI [] (fun x=>tJ x.1 x.2.1 x.2.2.1) (fun x=>f133 x.1 x.2.1 x.2.2.1) (fun _=>())
def pC5:Ctx:=Cx tys [] [] [] false 25 [] []
theorem pC6:CtxOk Tryz.prog pC5:=xV6 tys_ok rfl trivial rfl (by kernel_rfl)
theorem oG4:SpecOk Tryz.prog 133 sO9:=xX4 pC6 mixed Tryz.func133 (by kernel_rfl) (bs:=[]) (by kernel_rfl) trivial fun x=>by kernel_rfl
abbrev vH1:Type:=(Bool × (List D94) × Int × Unit)
abbrev wS7:Type:=((List D94) × Int × Unit)
def uG1 (y:vH1) (x:wS7):Prop × Bool × wS7 :=
 let a8:=y.2.1
 let a5:=x.1
 let a10:=x.2.1
 let v11:=(decide (a10 < y.2.2.1))
 let v12:=(nth a8 a10 Z94)
 let v16:=((len a5) == 0)
 let v21:=(len a5)
 let v22:=(v21 - 1)
 let v26:=(bif v16 then true else (!(Ty.eqb T94 v12 (nth a5 v22 Z94))))
 let v29:=([v12]:List D94)
 ((v11 = true → (InB a10 (len a8) ∧ (((!v16) = true → InR (v21 - 1)) ∧ (((!v16) = true → InB v22 (len a5)) ∧ ((v26 = true → ((List.length a5 + List.length v29:Nat):Int) ≤ 4294967296) ∧ InR (a10 + 1)))))),v11,((bif v26 then (a5 ++ v29) else a5),(a10 + 1),()))
def wX1 (y:vH1) (x:wS7):Prop:=(uG1 y x).1
def wZ5 (y:vH1) (x:wS7):Bool:=(uG1 y x).2.1
def wD9 (y:vH1) (x:wS7):wS7:=(uG1 y x).2.2
instance (y:vH1) (x:wS7):Decidable (wX1 y x):=by
 unfold wX1 uG1
 try dsimp only
 infer_instance
def uV2 (y:vH1) (x:wS7):(List D94) :=
 x.1
def tX1:List (Nat × Sh):=[(1,vB),(5,(.own T94 1005 false))]
def uV3:St → Option Out:=xO8 [(1,vB),(8,(.val (.sl T94))),(9,vI)] [(5,(.own T94 1005 false)),(10,vI)] wZ5 wD9 wX1 fun y x=>[ex 2 none tX1 (y.1,(uV2 y x),())]
abbrev vH2:Type:=(Bool × Unit)
abbrev wJ7:Type:=((List D94) × Unit)
def tB7 (y:vH2) (x:wJ7):Prop × Bool × wJ7 :=
 let a5:=x.1
 let v38:=(bif (!y.1) then (decide ((len a5) > 1)) else false)
 let v42:=(len a5)
 let v43:=(v42 - 1)
 let v50:=(bif v38 then (Ty.eqb T94 (nth a5 v43 Z94) (nth a5 (0:Int) Z94)) else false)
 let v53:=(len a5)
 let v54:=(v53 - 1)
 (((v38 = true → InR (v42 - 1)) ∧ ((v38 = true → InB v43 (len a5)) ∧ ((v38 = true → InB (0:Int) (len a5)) ∧ (v50 = true → (InR (v53 - 1) ∧ (0 ≤ v54 ∧ v54 ≤ len a5)))))),v50,((List.take (Int.toNat v54) a5),()))
def wX2 (y:vH2) (x:wJ7):Prop:=(tB7 y x).1
def vH3 (y:vH2) (x:wJ7):Bool:=(tB7 y x).2.1
def wG7 (y:vH2) (x:wJ7):wJ7:=(tB7 y x).2.2
instance (y:vH2) (x:wJ7):Decidable (wX2 y x):=by
 unfold wX2 tB7
 try dsimp only
 infer_instance
def uV4 (y:vH2) (x:wJ7):(List D94) :=
 x.1
def uV5:St → Option Out:=xO8 [(1,vB)] [(5,(.val (.sl T94)))] vH3 wG7 wX2 fun y x=>[ex 4 none [(5,(.val (.sl T94)))] ((uV4 y x),())]
def oG5 (p0:(List D94)) (p1:Bool):Prop × (List D94) :=
 let y3:=(p1,p0,(len p0),())
 let x3:=(([]:List D94),(0:Int),())
 let y8:=(p1,())
 let x8:=((uV2 y3 (zB9 (wZ5 y3) (wD9 y3) x3)),())
 (((Am.Ends (wZ5 y3) (wD9 y3) (wX1 y3) x3) ∧ (Am.Ends (vH3 y8) (wG7 y8) (wX2 y8) x8)),(uV4 y8 (zB9 (vH3 y8) (wG7 y8) x8)))
def tJ0 (p0:(List D94)) (p1:Bool):Prop:=(oG5 p0 p1).1
def f145 (p0:(List D94)) (p1:Bool):(List D94):=(oG5 p0 p1).2
instance (p0:(List D94)) (p1:Bool):Decidable (tJ0 p0 p1):=by
 unfold tJ0 oG5
 try dsimp only
 infer_instance
def sP:Am.Spec:=fnSpec [(0,(.val (.sl T94))),(1,vB)] (.val (.sl T94)) [] (fun x=>tJ0 x.1 x.2.1) (fun x=>f145 x.1 x.2.1) (fun _=>())
def sE4:Ctx:=Cx tys [] [(3,uV3),(8,uV5)] [(13,[(4,0,30,1005)])] false 57 [] []
theorem sE5:CtxOk Tryz.prog sE4:=xV6 tys_ok rfl trivial rfl (by kernel_rfl)
noncomputable def sP0:Code:=Tryz.f145.body.getD .skip
noncomputable def qH0:Code:=xW5 sP0 0
theorem rW8:yU1 Tryz.prog sE4 qH0:=xX3 sE5 mixed (sp:=uV3) rfl [tX1] (bs:=[]) (by kernel_rfl) trivial (by kernel_rfl) (by kernel_rfl) fun y x=>by kernel_rfl
noncomputable def qH1:Code:=xW5 sP0 1
theorem rW9:yU1 Tryz.prog sE4 qH1:=xX3 sE5 mixed (sp:=uV5) rfl [[(5,(.val (.sl T94)))]] (bs:=[]) (by kernel_rfl) trivial (by kernel_rfl) (by kernel_rfl) fun y x=>by kernel_rfl
theorem oG6:SpecOk Tryz.prog 145 sP:=xX4 sE5 mixed Tryz.func145 (by kernel_rfl) (bs:=[qH0,qH1]) (by kernel_rfl) ⟨rW8,rW9,trivial⟩ fun x=>by kernel_rfl
def oG7 (p0:D94) (p1:D94):Prop × D94 :=
 (True,((IntKind.wrap .i64 (p0.1 - p1.1)),(IntKind.wrap .i64 (p0.2.1 - p1.2.1)),()))
def wG8 (p0:D94) (p1:D94):Prop:=(oG7 p0 p1).1
def f150 (p0:D94) (p1:D94):D94:=(oG7 p0 p1).2
instance (p0:D94) (p1:D94):Decidable (wG8 p0 p1):=by
 unfold wG8 oG7
 try dsimp only
 infer_instance
def vP5:Am.Spec:=fnSpec [(0,(.val T94)),(1,(.val T94))] (.val T94) [] (fun x=>wG8 x.1 x.2.1) (fun x=>f150 x.1 x.2.1) (fun _=>())
def pC7:Ctx:=Cx tys [] [] [] true 16 [] []
theorem pC8:CtxOk Tryz.prog pC7:=xV6 tys_ok rfl trivial rfl (by kernel_rfl)
theorem sE6:SpecOk Tryz.prog 150 vP5:=xX4 pC8 mixed Tryz.func150 (by kernel_rfl) (bs:=[]) (by kernel_rfl) trivial fun x=>by kernel_rfl
def oG8 (p0:Int) (p1:Int):Prop × (Int × Int × Unit) :=
 let v15:=(xX5 .u64 p0 (4294967295:Int))
 let v17:=(xX6 p0 (32:Int) 64)
 let v19:=(xX5 .u64 p1 (4294967295:Int))
 let v21:=(xX6 p1 (32:Int) 64)
 let v30:=(IntKind.wrap .u64 ((IntKind.wrap .u64 (v17 * v19)) + (xX6 (IntKind.wrap .u64 (v15 * v19)) (32:Int) 64)))
 let v47:=(IntKind.wrap .u64 ((IntKind.wrap .u64 ((IntKind.wrap .u64 (v17 * v21)) + (xX6 v30 (32:Int) 64))) + (xX6 (IntKind.wrap .u64 ((xX5 .u64 v30 (4294967295:Int)) + (IntKind.wrap .u64 (v15 * v21)))) (32:Int) 64)))
 (True,(v47,(IntKind.wrap .u64 (p0 * p1)),()))
def uB0 (p0:Int) (p1:Int):Prop:=(oG8 p0 p1).1
def f175 (p0:Int) (p1:Int):(Int × Int × Unit):=(oG8 p0 p1).2
instance (p0:Int) (p1:Int):Decidable (uB0 p0 p1):=by
 unfold uB0 oG8
 try dsimp only
 infer_instance
def sP1:Am.Spec:=fnSpec [(0,(.val (.int .u64))),(1,(.val (.int .u64)))] (.tup (.cons (.val (.int .u64)) (.cons (.val (.int .u64)) .nl))) [] (fun x=>uB0 x.1 x.2.1) (fun x=>f175 x.1 x.2.1) (fun _=>())
def pC9:Ctx:=Cx tys [] [] [] true 51 [] []
theorem pD:CtxOk Tryz.prog pC9:=xV6 tys_ok rfl trivial rfl (by kernel_rfl)
theorem oG9:SpecOk Tryz.prog 175 sP1:=xX4 pD mixed Tryz.func175 (by kernel_rfl) (bs:=[]) (by kernel_rfl) trivial fun x=>by kernel_rfl
def oH (p0:Int):Prop × Int :=
 (True,(bif (decide (p0 < 0)) then (IntKind.wrap .u64 (Int.sub 0 (IntKind.wrap .u64 p0))) else (IntKind.wrap .u64 p0)))
def vP6 (p0:Int):Prop:=(oH p0).1
def f176 (p0:Int):Int:=(oH p0).2
instance (p0:Int):Decidable (vP6 p0):=by
 unfold vP6 oH
 try dsimp only
 infer_instance
def sP2:Am.Spec:=fnSpec [(0,vI)] (.val (.int .u64)) [] (fun x=>vP6 x.1) (fun x=>f176 x.1) (fun _=>())
def pD0:Ctx:=Cx tys [] [] [] true 10 [] []
theorem pD1:CtxOk Tryz.prog pD0:=xV6 tys_ok rfl trivial rfl (by kernel_rfl)
theorem oH0:SpecOk Tryz.prog 176 sP2:=xX4 pD1 mixed Tryz.func176 (by kernel_rfl) (bs:=[]) (by kernel_rfl) trivial fun x=>by kernel_rfl
abbrev wZ6:Type:=(Int × Int × Unit)
abbrev wS8:Type:=(Int × Int × Unit)
def tB8 (y:wZ6) (x:wS8):Prop × Bool × wS8 :=
 let a5:=y.1
 let a10:=x.1
 let a11:=x.2.1
 let v43:=(a11 != 0)
 let v48:=(ior .u64 a10 a11)
 let v52:=(f175 v48 v48)
 ((v43 = true → (uB0 v48 v48)),v43,((bif (bif (decide (v52.1 < a5)) then true else (bif (v52.1 == a5) then (decide (v52.2.1 ≤ y.2.1)) else false)) then v48 else a10),(xX6 a11 (1:Int) 64),()))
def vH4 (y:wZ6) (x:wS8):Prop:=(tB8 y x).1
def uG2 (y:wZ6) (x:wS8):Bool:=(tB8 y x).2.1
def wS9 (y:wZ6) (x:wS8):wS8:=(tB8 y x).2.2
instance (y:wZ6) (x:wS8):Decidable (vH4 y x):=by
 unfold vH4 tB8
 try dsimp only
 infer_instance
def uV6 (y:wZ6) (x:wS8):Int :=
 x.1
def uV7:St → Option Out:=xO8 [(5,(.val (.int .u64))),(6,(.val (.int .u64)))] [(10,(.val (.int .u64))),(11,(.val (.int .u64)))] uG2 wS9 vH4 fun y x=>[ex 2 none [(10,(.val (.int .u64)))] ((uV6 y x),())]
def oH1 (p0:Int) (p1:Int):Prop × Int :=
 let v15:=(f176 p0)
 let v17:=(f176 p0)
 let v18:=(f175 v15 v17)
 let v23:=(f176 p1)
 let v25:=(f176 p1)
 let v26:=(f175 v23 v25)
 let v34:=(((Int.toNat v18.2.1 + Int.toNat v26.2.1 + Int.toNat (0:Int)) / 18446744073709551616:Nat):Int)
 let y7:=((((Int.toNat v18.1 + Int.toNat v26.1 + Int.toNat v34) % 18446744073709551616:Nat):Int),(((Int.toNat v18.2.1 + Int.toNat v26.2.1 + Int.toNat (0:Int)) % 18446744073709551616:Nat):Int),())
 let x7:=((0:Int),(9223372036854775808:Int),())
 let r7_2_0:=(uV6 y7 (zB9 (uG2 y7) (wS9 y7) x7))
 (((vP6 p0) ∧ ((vP6 p0) ∧ ((uB0 v15 v17) ∧ ((vP6 p1) ∧ ((vP6 p1) ∧ ((uB0 v23 v25) ∧ ((0 ≤ (0:Int) ∧ (0:Int) ≤ 1) ∧ ((0 ≤ v34 ∧ v34 ≤ 1) ∧ (Am.Ends (uG2 y7) (wS9 y7) (vH4 y7) x7))))))))),(bif (decide (r7_2_0 > 9223372036854775807)) then (9223372036854775807:Int) else (IntKind.wrap .i64 r7_2_0)))
def uP7 (p0:Int) (p1:Int):Prop:=(oH1 p0 p1).1
def f167 (p0:Int) (p1:Int):Int:=(oH1 p0 p1).2
instance (p0:Int) (p1:Int):Decidable (uP7 p0 p1):=by
 unfold uP7 oH1
 try dsimp only
 infer_instance
def tJ1:Am.Spec:=fnSpec [(0,vI),(1,vI)] vI [] (fun x=>uP7 x.1 x.2.1) (fun x=>f167 x.1 x.2.1) (fun _=>())
def rM1:Ctx:={ Cx tys [(175,sP1),(176,sP2)] [(7,uV7)] [] true 73 [] [] with exts:=[(177,yX2)] }
theorem rM2:CtxOk Tryz.prog rM1:=xU2 tys_ok rfl ⟨oG9,oH0,trivial⟩ ⟨x177_ok,trivial⟩ (by kernel_rfl)
noncomputable def qH2:Code:=Tryz.f167.body.getD .skip
noncomputable def qH3:Code:=xW5 qH2 0
theorem rX:yU1 Tryz.prog rM1 qH3:=xX3 rM2 mixed (sp:=uV7) rfl [[(10,(.val (.int .u64)))]] (bs:=[]) (by kernel_rfl) trivial (by kernel_rfl) (by kernel_rfl) fun y x=>by kernel_rfl
theorem qH4:SpecOk Tryz.prog 167 tJ1:=xX4 rM2 mixed Tryz.func167 (by kernel_rfl) (bs:=[qH3]) (by kernel_rfl) ⟨rX,trivial⟩ fun x=>by kernel_rfl
def oH2 (p0:D94) (p1:D94) (p2:Int):Prop × D197 :=
 let v11:=(f150 p1 p0)
 let v14:=(IntKind.wrap .i64 (16 * v11.1))
 let v17:=(IntKind.wrap .i64 (16 * v11.2.1))
 let v18:=(f167 v14 v17)
 let v26:=(IntKind.wrap .i64 ((IntKind.wrap .i64 ((-8) * p2)) * v11.2.1))
 let v33:=(IntKind.wrap .i64 ((IntKind.wrap .i64 (8 * p2)) * v11.1))
 let v41:=(IntKind.wrap .i64 ((IntKind.wrap .i64 (8 * p2)) * v11.1))
 let v48:=(IntKind.wrap .i64 ((IntKind.wrap .i64 (8 * p2)) * v11.2.1))
 (((wG8 p1 p0) ∧ ((uP7 v14 v17) ∧ ((wC9 v26 v18) ∧ ((wC9 v33 v18) ∧ ((wC9 v41 v18) ∧ (wC9 v48 v18)))))),(p0,p1,v11,((f97 v26 v18),(f97 v33 v18),()),((f97 v41 v18),(f97 v48 v18),()),()))
def uP8 (p0:D94) (p1:D94) (p2:Int):Prop:=(oH2 p0 p1 p2).1
def f163 (p0:D94) (p1:D94) (p2:Int):D197:=(oH2 p0 p1 p2).2
instance (p0:D94) (p1:D94) (p2:Int):Decidable (uP8 p0 p1 p2):=by
 unfold uP8 oH2
 try dsimp only
 infer_instance
def sP3:Am.Spec:=fnSpec [(0,(.val T94)),(1,(.val T94)),(2,vI)] (.val T197) [] (fun x=>uP8 x.1 x.2.1 x.2.2.1) (fun x=>f163 x.1 x.2.1 x.2.2.1) (fun _=>())
def pD2:Ctx:=Cx tys [(97,wL1),(150,vP5),(167,tJ1)] [] [] true 53 [] []
theorem pD3:CtxOk Tryz.prog pD2:=xV6 tys_ok rfl ⟨vN8,sE6,qH4,trivial⟩ rfl (by kernel_rfl)
theorem oH3:SpecOk Tryz.prog 163 sP3:=xX4 pD3 mixed Tryz.func163 (by kernel_rfl) (bs:=[]) (by kernel_rfl) trivial fun x=>by kernel_rfl
abbrev vH5:Type:=((List D94) × Bool × Int × Unit)
abbrev wT:Type:=((List D197) × Int × Unit)
def uG3 (y:vH5) (x:wT):Prop × Bool × wT :=
 let a0:=y.1
 let a2:=y.2.2.1
 let a7:=x.1
 let a8:=x.2.1
 let v12:=(decide (a8 < (len a0)))
 let v18:=(a8 - 1)
 let v19:=(nth a0 v18 Z94)
 let v23:=(nth a0 a8 Z94)
 let v27:=([(f163 v19 v23 a2)]:List D197)
 ((v12 = true → (InR (a8 - 1) ∧ (InB v18 (len a0) ∧ (InB a8 (len a0) ∧ ((uP8 v19 v23 a2) ∧ (((List.length a7 + List.length v27:Nat):Int) ≤ 4294967296 ∧ InR (a8 + 1))))))),v12,((a7 ++ v27),(a8 + 1),()))
def wX3 (y:vH5) (x:wT):Prop:=(uG3 y x).1
def vH6 (y:vH5) (x:wT):Bool:=(uG3 y x).2.1
def wG9 (y:vH5) (x:wT):wT:=(uG3 y x).2.2
instance (y:vH5) (x:wT):Decidable (wX3 y x):=by
 unfold wX3 uG3
 try dsimp only
 infer_instance
def vC3 (y:vH5) (x:wT):(List D197) :=
 x.1
def tX2:List (Nat × Sh):=[(0,(.val (.sl T94))),(1,vB),(2,vI),(7,(.own T197 1007 false))]
def uV8:St → Option Out:=xO8 [(0,(.val (.sl T94))),(1,vB),(2,vI)] [(7,(.own T197 1007 false)),(8,vI)] vH6 wG9 wX3 fun y x=>[ex 2 none tX2 (y.1,y.2.1,y.2.2.1,(vC3 y x),())]
def pD4 (p0:(List D94)) (p1:Bool) (p2:Int):Prop × (List D197) :=
 let y3:=(p0,p1,p2,())
 let x3:=(([]:List D197),(1:Int),())
 let r3_2_0:=(vC3 y3 (zB9 (vH6 y3) (wG9 y3) x3))
 let v35:=(bif (!p1) then (decide ((len p0) > 1)) else false)
 let v39:=(len p0)
 let v40:=(v39 - 1)
 let v41:=(nth p0 v40 Z94)
 let v44:=(nth p0 (0:Int) Z94)
 let v48:=([(f163 v41 v44 p2)]:List D197)
 (((Am.Ends (vH6 y3) (wG9 y3) (wX3 y3) x3) ∧ (v35 = true → (InR (v39 - 1) ∧ (InB v40 (len p0) ∧ (InB (0:Int) (len p0) ∧ ((uP8 v41 v44 p2) ∧ ((List.length r3_2_0 + List.length v48:Nat):Int) ≤ 4294967296)))))),(bif v35 then (r3_2_0 ++ v48) else r3_2_0))
def tJ2 (p0:(List D94)) (p1:Bool) (p2:Int):Prop:=(pD4 p0 p1 p2).1
def f146 (p0:(List D94)) (p1:Bool) (p2:Int):(List D197):=(pD4 p0 p1 p2).2
instance (p0:(List D94)) (p1:Bool) (p2:Int):Decidable (tJ2 p0 p1 p2):=by
 unfold tJ2 pD4
 try dsimp only
 infer_instance
def sP4:Am.Spec:=fnSpec [(0,(.val (.sl T94))),(1,vB),(2,vI)] (.own T197 0 false) [] (fun x=>tJ2 x.1 x.2.1 x.2.2.1) (fun x=>f146 x.1 x.2.1 x.2.2.1) (fun _=>())
def rM3:Ctx:=Cx tys [(163,sP3)] [(3,uV8)] [(11,[(4,0,28,1007)]),(15,[(4,0,49,1007)]),(17,[(4,0,1007,0)])] false 51 [] []
theorem rM4:CtxOk Tryz.prog rM3:=xV6 tys_ok rfl ⟨oH3,trivial⟩ rfl (by kernel_rfl)
noncomputable def qH5:Code:=Tryz.f146.body.getD .skip
noncomputable def qH6:Code:=xW5 qH5 0
theorem rX0:yU1 Tryz.prog rM3 qH6:=xX3 rM4 mixed (sp:=uV8) rfl [tX2] (bs:=[]) (by kernel_rfl) trivial (by kernel_rfl) (by kernel_rfl) fun y x=>by kernel_rfl
theorem oH4:SpecOk Tryz.prog 146 sP4:=xX4 rM4 mixed Tryz.func146 (by kernel_rfl) (bs:=[qH6]) (by kernel_rfl) ⟨rX0,trivial⟩ fun x=>by kernel_rfl
abbrev vH7:Type:=((List D94) × (List D94) × Int × Unit)
abbrev wT0:Type:=(Int × Int × Unit)
def uG4 (y:vH7) (x:wT0):Prop × Bool × wT0 :=
 let a0:=y.1
 let a7:=y.2.1
 let a9:=x.2.1
 let v10:=(decide (a9 < y.2.2.1))
 let v12:=(nth a7 a9 Z94)
 let v18:=(len a0)
 let v19:=(Int.tmod (IntKind.wrap .i64 (a9 + 1)) v18)
 let v20:=(nth a0 v19 Z94)
 ((v10 = true → (InB a9 (len a7) ∧ (v18 ≠ 0 ∧ InB v19 (len a0)))),v10,((IntKind.wrap .i64 (x.1 + (IntKind.wrap .i64 ((IntKind.wrap .i64 (v12.1 * v20.2.1)) - (IntKind.wrap .i64 (v20.1 * v12.2.1)))))),(IntKind.wrap .i64 (a9 + 1)),()))
def vU8 (y:vH7) (x:wT0):Prop:=(uG4 y x).1
def tJ3 (y:vH7) (x:wT0):Bool:=(uG4 y x).2.1
def vC4 (y:vH7) (x:wT0):wT0:=(uG4 y x).2.2
instance (y:vH7) (x:wT0):Decidable (vU8 y x):=by
 unfold vU8 uG4
 try dsimp only
 infer_instance
def uV9 (y:vH7) (x:wT0):Int :=
 x.1
def uW:St → Option Out:=xO8 [(0,(.val (.sl T94))),(7,(.val (.sl T94))),(8,vI)] [(3,vI),(9,vI)] tJ3 vC4 vU8 fun y x=>[ex 2 none [(3,vI)] ((uV9 y x),())]
def oH5 (p0:(List D94)):Prop × Int :=
 let y3:=(p0,p0,(len p0),())
 let x3:=((0:Int),(0:Int),())
 ((Am.Ends (tJ3 y3) (vC4 y3) (vU8 y3) x3),(uV9 y3 (zB9 (tJ3 y3) (vC4 y3) x3)))
def tJ4 (p0:(List D94)):Prop:=(oH5 p0).1
def f165 (p0:(List D94)):Int:=(oH5 p0).2
instance (p0:(List D94)):Decidable (tJ4 p0):=by
 unfold tJ4 oH5
 try dsimp only
 infer_instance
def sP5:Am.Spec:=fnSpec [(0,(.val (.sl T94)))] vI [] (fun x=>tJ4 x.1) (fun x=>f165 x.1) (fun _=>())
def rM5:Ctx:=Cx tys [] [(3,uW)] [] true 37 [] []
theorem rM6:CtxOk Tryz.prog rM5:=xV6 tys_ok rfl trivial rfl (by kernel_rfl)
noncomputable def qH7:Code:=Tryz.f165.body.getD .skip
noncomputable def qH8:Code:=xW5 qH7 0
theorem rX1:yU1 Tryz.prog rM5 qH8:=xX3 rM6 mixed (sp:=uW) rfl [[(3,vI)]] (bs:=[]) (by kernel_rfl) trivial (by kernel_rfl) (by kernel_rfl) fun y x=>by kernel_rfl
theorem oH6:SpecOk Tryz.prog 165 sP5:=xX4 rM6 mixed Tryz.func165 (by kernel_rfl) (bs:=[qH8]) (by kernel_rfl) ⟨rX1,trivial⟩ fun x=>by kernel_rfl
def f166 (_p0:(List D94)):Unit:=()
def rM7 (p0:(List D94)):(List D94) × Unit:=(List.reverse p0,())
def rA3 (_p0:(List D94)):Prop:=True
instance (p0:(List D94)):Decidable (rA3 p0):=isTrue trivial
def oH7:List (Nat × Sh):=[(0,(.own T94 400000 true))]
def oH8:Sh:=(.tup .nl)
def oH9:List (Nat × Sh):=[(0,(.own T94 400000 true))]
def sP6:Am.Spec:=fnSpec oH7 oH8 oH9 (fun x=>rA3 x.1) (fun x=>f166 x.1) (fun x=>rM7 x.1)
theorem oI:SpecOk Tryz.prog 166 sP6:=spec_rev (by decide) rfl ⟨_,Tryz.func166,by kernel_rfl,by decide⟩ rev_ok
def oI0 (p0:D94) (p1:D94):Prop × D94 :=
 (True,((IntKind.wrap .i64 (p0.1 + p1.1)),(IntKind.wrap .i64 (p0.2.1 + p1.2.1)),()))
def wC2 (p0:D94) (p1:D94):Prop:=(oI0 p0 p1).1
def f149 (p0:D94) (p1:D94):D94:=(oI0 p0 p1).2
instance (p0:D94) (p1:D94):Decidable (wC2 p0 p1):=by
 unfold wC2 oI0
 try dsimp only
 infer_instance
def vH8:Am.Spec:=fnSpec [(0,(.val T94)),(1,(.val T94))] (.val T94) [] (fun x=>wC2 x.1 x.2.1) (fun x=>f149 x.1 x.2.1) (fun _=>())
def pD5:Ctx:=Cx tys [] [] [] true 16 [] []
theorem pD6:CtxOk Tryz.prog pD5:=xV6 tys_ok rfl trivial rfl (by kernel_rfl)
theorem tJ5:SpecOk Tryz.prog 149 vH8:=xX4 pD6 mixed Tryz.func149 (by kernel_rfl) (bs:=[]) (by kernel_rfl) trivial fun x=>by kernel_rfl
def oI1 (p0:Int):Prop × Int :=
 let v5:=(IntKind.wrap .i64 (Int.tdiv p0 (256:Int)))
 let v7:=(decide (v5 ≥ 64))
 let v14:=(IntKind.wrap .i64 (v5 + 1))
 let v25:=(IntKind.wrap .i64 ((IntKind.wrap .i64 ((nth G5 v14 (0:Int)) - (nth G5 v5 (0:Int)))) * (IntKind.wrap .i64 (p0 - (IntKind.wrap .i64 (256 * v5))))))
 (((v7 = true → InB (64:Int) 65) ∧ ((!v7) = true → (InB v5 65 ∧ (InB v14 65 ∧ (InB v5 65 ∧ (wC9 v25 (256:Int))))))),(bif v7 then (nth G5 (64:Int) (0:Int)) else (IntKind.wrap .i64 ((nth G5 v5 (0:Int)) + (f97 v25 (256:Int))))))
def vP7 (p0:Int):Prop:=(oI1 p0).1
def f190 (p0:Int):Int:=(oI1 p0).2
instance (p0:Int):Decidable (vP7 p0):=by
 unfold vP7 oI1
 try dsimp only
 infer_instance
def sP7:Am.Spec:=fnSpec [(0,vI)] vI [] (fun x=>vP7 x.1) (fun x=>f190 x.1) (fun _=>())
def pD7:Ctx:=Cx tys [(97,wL1)] [] [] true 28 [] []
theorem pD8:CtxOk Tryz.prog pD7:=xV6 tys_ok rfl ⟨vN8,trivial⟩ rfl (by kernel_rfl)
theorem oI2:SpecOk Tryz.prog 190 sP7:=xX4 pD8 mixed Tryz.func190 (by kernel_rfl) (bs:=[]) (by kernel_rfl) trivial fun x=>by kernel_rfl
def pD9 (p0:Int):Prop × Int :=
 let v6:=(IntKind.wrap .i64 (Int.tdiv p0 (16384:Int)))
 let v10:=(IntKind.wrap .i64 (p0 - (IntKind.wrap .i64 (16384 * v6))))
 let v13:=(v6 == 0)
 let v17:=(v6 == 1)
 let v19:=(IntKind.wrap .i64 (16384 - v10))
 let v22:=(v6 == 2)
 let v27:=(IntKind.wrap .i64 (16384 - v10))
 let m2_2:=(bif (bif v13 then true else (bif v17 then true else v22)) then (bif v13 then (f190 v10) else (bif v17 then (f190 v19) else (IntKind.wrap .i64 (Int.sub 0 (f190 v10))))) else (IntKind.wrap .i64 (Int.sub 0 (f190 v27))))
 (((v13 = true → (vP7 v10)) ∧ ((v13 = false → ((v17 = true → (vP7 v19)) ∧ (v17 = false → (v22 = true → (vP7 v10))))) ∧ ((((!v22) && (!v17)) && (!v13)) = true → (vP7 v27)))),m2_2)
def vP8 (p0:Int):Prop:=(pD9 p0).1
def f185 (p0:Int):Int:=(pD9 p0).2
instance (p0:Int):Decidable (vP8 p0):=by
 unfold vP8 pD9
 try dsimp only
 infer_instance
def sP8:Am.Spec:=fnSpec [(0,vI)] vI [] (fun x=>vP8 x.1) (fun x=>f185 x.1) (fun _=>())
def pE:Ctx:=Cx tys [(190,sP7)] [] [] true 30 [] []
theorem pE0:CtxOk Tryz.prog pE:=xV6 tys_ok rfl ⟨oI2,trivial⟩ rfl (by kernel_rfl)
theorem oI3:SpecOk Tryz.prog 185 sP8:=xX4 pE0 mixed Tryz.func185 (by kernel_rfl) (bs:=[]) (by kernel_rfl) trivial fun x=>by kernel_rfl
def oI4 (p0:Int):Prop × (Int × Int × Unit) :=
 let v6:=(xX5 .i64 p0 (65535:Int))
 let v11:=(Int.tmod (IntKind.wrap .i64 (v6 + 16384)) (65536:Int))
 (((vP8 v6) ∧ (vP8 v11)),((f185 v6),(f185 v11),()))
def tJ6 (p0:Int):Prop:=(oI4 p0).1
def f174 (p0:Int):(Int × Int × Unit):=(oI4 p0).2
instance (p0:Int):Decidable (tJ6 p0):=by
 unfold tJ6 oI4
 try dsimp only
 infer_instance
def sP9:Am.Spec:=fnSpec [(0,vI)] (.tup (.cons vI (.cons vI .nl))) [] (fun x=>tJ6 x.1) (fun x=>f174 x.1) (fun _=>())
def pE1:Ctx:=Cx tys [(185,sP8)] [] [] true 13 [] []
theorem pE2:CtxOk Tryz.prog pE1:=xV6 tys_ok rfl ⟨oI3,trivial⟩ rfl (by kernel_rfl)
theorem oI5:SpecOk Tryz.prog 174 sP9:=xX4 pE2 mixed Tryz.func174 (by kernel_rfl) (bs:=[]) (by kernel_rfl) trivial fun x=>by kernel_rfl
abbrev vH9:Type:=(Int × D94 × Int × Unit)
abbrev wT1:Type:=((List D94) × Int × Unit)
def uG5 (y:vH9) (x:wT1):Prop × Bool × wT1 :=
 let a1:=y.1
 let a2:=y.2.1
 let a5:=x.1
 let a12:=x.2.1
 let v13:=(decide (a12 < y.2.2.1))
 let v17:=(IntKind.wrap .i64 (4096 * a12))
 let v18:=(f174 v17)
 let v26:=(IntKind.wrap .i64 (a1 * v18.2.1))
 let v30:=(IntKind.wrap .i64 (a1 * v18.1))
 let s:=((f97 v26 (131072:Int)),(f97 v30 (131072:Int)),())
 ((v13 = true → ((tJ6 v17) ∧ ((wC9 v26 (131072:Int)) ∧ ((wC9 v30 (131072:Int)) ∧ ((wC2 a2 s) ∧ (InB a12 (len a5) ∧ a12 < len a5)))))),v13,((List.set a5 (Int.toNat a12) (f149 a2 s)),(IntKind.wrap .i64 (a12 + 1)),()))
def wX4 (y:vH9) (x:wT1):Prop:=(uG5 y x).1
def vI0 (y:vH9) (x:wT1):Bool:=(uG5 y x).2.1
def wH (y:vH9) (x:wT1):wT1:=(uG5 y x).2.2
instance (y:vH9) (x:wT1):Decidable (wX4 y x):=by
 unfold wX4 uG5
 try dsimp only
 infer_instance
def vP9 (y:vH9) (x:wT1):(List D94) :=
 x.1
def uW0:St → Option Out:=xO8 [(1,vI),(2,(.box T94 (.val T94))),(11,vI)] [(5,(.own T94 1005 true)),(12,vI)] vI0 wH wX4 fun y x=>[ex 2 none [(5,(.own T94 1005 true))] ((vP9 y x),())]
def pE3 (p0:D94) (p1:Int):Prop × (List D94) :=
 let v9:=(List.replicate (Int.toNat (16:Int)) Z94)
 let y3:=(p1,p0,(len v9),())
 let x3:=(v9,(0:Int),())
 (((0 ≤ (16:Int) ∧ (16:Int) ≤ (16:Int) ∧ (16:Int) ≤ 4294967296) ∧ (Am.Ends (vI0 y3) (wH y3) (wX4 y3) x3)),(vP9 y3 (zB9 (vI0 y3) (wH y3) x3)))
def vQ (p0:D94) (p1:Int):Prop:=(pE3 p0 p1).1
def f164 (p0:D94) (p1:Int):(List D94):=(pE3 p0 p1).2
instance (p0:D94) (p1:Int):Decidable (vQ p0 p1):=by
 unfold vQ pE3
 try dsimp only
 infer_instance
def uG6:Am.Spec:=fnSpec [(0,(.val T94)),(1,vI)] (.own T94 0 true) [] (fun x=>vQ x.1 x.2.1) (fun x=>f164 x.1 x.2.1) (fun _=>())
def rM8:Ctx:=Cx tys [(97,wL1),(149,vH8),(174,sP9)] [(3,uW0)] [(3,[(4,0,9,1005)]),(17,[(4,0,1005,0)])] true 37 [] [9]
theorem rM9:CtxOk Tryz.prog rM8:=xV6 tys_ok rfl ⟨vN8,tJ5,oI5,trivial⟩ rfl (by kernel_rfl)
noncomputable def qH9:Code:=Tryz.f164.body.getD .skip
noncomputable def qI:Code:=xW5 qH9 0
theorem rX2:yU1 Tryz.prog rM8 qI:=xX3 rM9 mixed (sp:=uW0) rfl [[(5,(.own T94 1005 true))]] (bs:=[]) (by kernel_rfl) trivial (by kernel_rfl) (by kernel_rfl) fun y x=>by kernel_rfl
theorem rA4:SpecOk Tryz.prog 164 uG6:=xX4 rM9 mixed Tryz.func164 (by kernel_rfl) (bs:=[qI]) (by kernel_rfl) ⟨rX2,trivial⟩ fun x=>by kernel_rfl
def uG7 (p0:(Int × Int × Int × (List (List D94)) × Int × Unit)) (p1:(List D94)):Prop × (Unit) × ((Int × Int × Int × (List (List D94)) × Int × Unit) × Unit) :=
 let v6:=(f165 p1)
 let v8:=(v6 == 0)
 let v10:=(decide (v6 < 0))
 let m1:=(bif v10 then (rM7 p1).1 else p1)
 let v19:=([m1]:List (List D94))
 let s:=((bif v8 then p0.1 else p0.1),(bif v8 then p0.2.1 else p0.2.1),(bif v8 then p0.2.2.1 else p0.2.2.1),(bif v8 then p0.2.2.2.1 else (p0.2.2.2.1 ++ v19)),(bif v8 then p0.2.2.2.2.1 else (IntKind.wrap .i64 (p0.2.2.2.2.1 + (len m1)))),())
 (((tJ4 p1) ∧ ((!v8) = true → ((v10 = true → ((rA3 p1) ∧ (0 < List.length p1 ∧ (List.length p1 = List.length p1 ∧ (List.length p1 = List.length p1 ∧ List.length p1 = List.length p1))))) ∧ ((List.length p0.2.2.2.1 + List.length v19:Nat):Int) ≤ 4294967296))),(),(s,()))
def xY6 (p0:(Int × Int × Int × (List (List D94)) × Int × Unit)) (p1:(List D94)):Prop:=(uG7 p0 p1).1
def oI6 (p0:(Int × Int × Int × (List (List D94)) × Int × Unit)) (p1:(List D94)):(Unit):=(uG7 p0 p1).2.1
def xY0 (p0:(Int × Int × Int × (List (List D94)) × Int × Unit)) (p1:(List D94)):((Int × Int × Int × (List (List D94)) × Int × Unit) × Unit):=(uG7 p0 p1).2.2
instance (p0:(Int × Int × Int × (List (List D94)) × Int × Unit)) (p1:(List D94)):Decidable (xY6 p0 p1):=by
 unfold xY6 uG7
 try dsimp only
 infer_instance
def wT2:Am.Spec:=fnSpec [(0,(.box T171 (.agg (.cons (.int .i64) (.cons (.int .i64) (.cons (.int .i64) (.cons (.sl (.sl T94)) (.cons (.int .i64) .nl))))) (.cons vI (.cons vI (.cons vI (.cons (.own (.sl T94) 400000 false) (.cons vI .nl)))))))),(1,(.own T94 400100 true))] (.tup .nl) [(0,(.box T171 (.agg (.cons (.int .i64) (.cons (.int .i64) (.cons (.int .i64) (.cons (.sl (.sl T94)) (.cons (.int .i64) .nl))))) (.cons vI (.cons vI (.cons vI (.cons (.own (.sl T94) 400000 false) (.cons vI .nl))))))))] (fun x=>xY6 x.1 x.2.1) (fun x=>oI6 x.1 x.2.1) (fun x=>xY0 x.1 x.2.1)
def rA5:Ctx:={ Cx tys [(165,sP5),(166,sP6)] [] [(8,[(1,1,0,0)]),(9,[(4,0,20,400000)])] true 32 [0] [] with wants:=[(166,[0])] }
theorem rA6:CtxOk Tryz.prog rA5:=xV6 tys_ok rfl ⟨oH6,oI,trivial⟩ rfl (by kernel_rfl)
theorem vU9:SpecOk Tryz.prog 148 wT2:=xX4 rA6 mixed Tryz.func148 (by kernel_rfl) (bs:=[]) (by kernel_rfl) trivial fun x=>by kernel_rfl
def uG8 (p0:(Int × Int × Int × (List (List D94)) × Int × Unit)) (p1:D94):Prop × (Unit) × ((Int × Int × Int × (List (List D94)) × Int × Unit) × Unit) :=
 let v10:=(p0.2.2.1 == 1)
 let v17:=(f164 p1 p0.1)
 let s_1:=(p0.1,p0.2.1,p0.2.2.1,p0.2.2.2.1,p0.2.2.2.2.1,())
 let v18o:=(xY0 s_1 v17)
 let v20:=(p0.2.2.1 == 2)
 let v25:=(f97 p0.1 (2:Int))
 let s_2:=((IntKind.wrap .i64 (Int.sub 0 v25)),(IntKind.wrap .i64 (Int.sub 0 v25)),())
 let s_3:=(v25,(IntKind.wrap .i64 (Int.sub 0 v25)),())
 let s_4:=(v25,v25,())
 let s_5:=((IntKind.wrap .i64 (Int.sub 0 v25)),v25,())
 let v51:=([(f149 p1 s_2),(f149 p1 s_3),(f149 p1 s_4),(f149 p1 s_5)]:List D94)
 let s_7:=(p0.1,p0.2.1,p0.2.2.1,p0.2.2.2.1,p0.2.2.2.2.1,())
 let v52o:=(xY0 s_7 v51)
 let s_8:=((bif v10 then v18o.1.1 else (bif v20 then v52o.1.1 else p0.1)),(bif v10 then v18o.1.2.1 else (bif v20 then v52o.1.2.1 else p0.2.1)),(bif v10 then v18o.1.2.2.1 else (bif v20 then v52o.1.2.2.1 else p0.2.2.1)),(bif v10 then v18o.1.2.2.2.1 else (bif v20 then v52o.1.2.2.2.1 else p0.2.2.2.1)),(bif v10 then v18o.1.2.2.2.2.1 else (bif v20 then v52o.1.2.2.2.2.1 else p0.2.2.2.2.1)),())
 (((v10 = true → ((vQ p1 p0.1) ∧ (xY6 s_1 v17))) ∧ (v10 = false → (v20 = true → ((wC9 p0.1 (2:Int)) ∧ ((wC2 p1 s_2) ∧ ((wC2 p1 s_3) ∧ ((wC2 p1 s_4) ∧ ((wC2 p1 s_5) ∧ (xY6 s_7 v51))))))))),(),(s_8,()))
def vI1 (p0:(Int × Int × Int × (List (List D94)) × Int × Unit)) (p1:D94):Prop:=(uG8 p0 p1).1
def oI7 (p0:(Int × Int × Int × (List (List D94)) × Int × Unit)) (p1:D94):(Unit):=(uG8 p0 p1).2.1
def uG9 (p0:(Int × Int × Int × (List (List D94)) × Int × Unit)) (p1:D94):((Int × Int × Int × (List (List D94)) × Int × Unit) × Unit):=(uG8 p0 p1).2.2
instance (p0:(Int × Int × Int × (List (List D94)) × Int × Unit)) (p1:D94):Decidable (vI1 p0 p1):=by
 unfold vI1 uG8
 try dsimp only
 infer_instance
def uW1:Am.Spec:=fnSpec [(0,(.box T171 (.agg (.cons (.int .i64) (.cons (.int .i64) (.cons (.int .i64) (.cons (.sl (.sl T94)) (.cons (.int .i64) .nl))))) (.cons vI (.cons vI (.cons vI (.cons (.own (.sl T94) 400000 false) (.cons vI .nl)))))))),(1,(.val T94))] (.tup .nl) [(0,(.box T171 (.agg (.cons (.int .i64) (.cons (.int .i64) (.cons (.int .i64) (.cons (.sl (.sl T94)) (.cons (.int .i64) .nl))))) (.cons vI (.cons vI (.cons vI (.cons (.own (.sl T94) 400000 false) (.cons vI .nl))))))))] (fun x=>vI1 x.1 x.2.1) (fun x=>oI7 x.1 x.2.1) (fun x=>uG9 x.1 x.2.1)
def rA7:Ctx:={ Cx tys [(97,wL1),(148,wT2),(149,vH8),(164,uG6)] [] [] true 53 [0] [51] with wants:=[(148,[1])] }
theorem rA8:CtxOk Tryz.prog rA7:=xV6 tys_ok rfl ⟨vN8,vU9,tJ5,rA4,trivial⟩ rfl (by kernel_rfl)
theorem rX3:SpecOk Tryz.prog 147 uW1:=xX4 rA8 mixed Tryz.func147 (by kernel_rfl) (bs:=[]) (by kernel_rfl) trivial fun x=>by kernel_rfl
def uH (p0:(Int × Int × Int × (List (List D94)) × Int × Unit)) (p1:D197) (p2:D197):Prop × (Unit) × ((Int × Int × Int × (List (List D94)) × Int × Unit) × Unit) :=
 let v23:=(p0.2.1 == 1)
 let v30:=(f164 p2.1 p0.1)
 let s_1:=(p0.1,p0.2.1,p0.2.2.1,p0.2.2.2.1,p0.2.2.2.2.1,())
 let v31o:=(xY0 s_1 v30)
 let v40:=([p2.1,(f149 p2.1 p1.2.2.2.1),(f149 p2.1 p2.2.2.2.1)]:List D94)
 let s_3:=(p0.1,p0.2.1,p0.2.2.1,p0.2.2.2.1,p0.2.2.2.2.1,())
 let v41o:=(xY0 s_3 v40)
 let v50:=([p2.1,(f150 p2.1 p1.2.2.2.1),(f150 p2.1 p2.2.2.2.1)]:List D94)
 let s_5:=(v41o.1.1,v41o.1.2.1,v41o.1.2.2.1,v41o.1.2.2.2.1,v41o.1.2.2.2.2.1,())
 let v51o:=(xY0 s_5 v50)
 let v66:=(IntKind.wrap .i64 ((IntKind.wrap .i64 (p1.2.2.1.1 * p2.2.2.1.2.1)) - (IntKind.wrap .i64 (p1.2.2.1.2.1 * p2.2.2.1.1))))
 let v75:=(IntKind.wrap .i64 (v51o.1.1 * v51o.1.1))
 let v89:=(IntKind.wrap .i64 (v75 + (IntKind.wrap .i64 (4 * (IntKind.wrap .i64 ((IntKind.wrap .i64 (p1.2.2.2.1.1 * p2.2.2.2.1.1)) + (IntKind.wrap .i64 (p1.2.2.2.1.2.1 * p2.2.2.2.1.2.1))))))))
 let v102:=(bif (bif (v51o.1.2.1 == 2) then true else (v66 == 0)) then true else (decide (v89 ≤ 0)))
 let v109:=(IntKind.wrap .i64 (v75 * (IntKind.wrap .i64 (p1.2.2.2.1.1 + p2.2.2.2.1.1))))
 let v111:=(f97 v109 v89)
 let v118:=(IntKind.wrap .i64 (v75 * (IntKind.wrap .i64 (p1.2.2.2.1.2.1 + p2.2.2.2.1.2.1))))
 let v120:=(f97 v118 v89)
 let s_6:=(v111,v120,())
 let v132:=(decide ((f167 v111 v120) > (IntKind.wrap .i64 (4 * v51o.1.1))))
 let v134:=(decide (v66 > 0))
 let v146:=([p2.1,(f150 p2.1 p1.2.2.2.1),(f150 p2.1 s_6),(f150 p2.1 p2.2.2.2.1)]:List D94)
 let s_8:=(v51o.1.1,v51o.1.2.1,v51o.1.2.2.1,v51o.1.2.2.2.1,v51o.1.2.2.2.2.1,())
 let v147o:=(xY0 s_8 v146)
 let v159:=([p2.1,(f149 p2.1 p1.2.2.2.1),(f149 p2.1 s_6),(f149 p2.1 p2.2.2.2.1)]:List D94)
 let s_10:=(v51o.1.1,v51o.1.2.1,v51o.1.2.2.1,v51o.1.2.2.2.1,v51o.1.2.2.2.2.1,())
 let v160o:=(xY0 s_10 v159)
 let c_5:=(v23 || ((!v23) && (v102 || ((!v102) && v132))))
 let s_11:=((bif c_5 then (bif v23 then v31o.1.1 else v51o.1.1) else (bif v134 then v147o.1.1 else v160o.1.1)),(bif c_5 then (bif v23 then v31o.1.2.1 else v51o.1.2.1) else (bif v134 then v147o.1.2.1 else v160o.1.2.1)),(bif c_5 then (bif v23 then v31o.1.2.2.1 else v51o.1.2.2.1) else (bif v134 then v147o.1.2.2.1 else v160o.1.2.2.1)),(bif c_5 then (bif v23 then v31o.1.2.2.2.1 else v51o.1.2.2.2.1) else (bif v134 then v147o.1.2.2.2.1 else v160o.1.2.2.2.1)),(bif c_5 then (bif v23 then v31o.1.2.2.2.2.1 else v51o.1.2.2.2.2.1) else (bif v134 then v147o.1.2.2.2.2.1 else v160o.1.2.2.2.2.1)),())
 (((v23 = true → ((vQ p2.1 p0.1) ∧ (xY6 s_1 v30))) ∧ ((!v23) = true → ((wC2 p2.1 p1.2.2.2.1) ∧ ((wC2 p2.1 p2.2.2.2.1) ∧ ((xY6 s_3 v40) ∧ ((wG8 p2.1 p1.2.2.2.1) ∧ ((wG8 p2.1 p2.2.2.2.1) ∧ ((xY6 s_5 v50) ∧ ((!v102) = true → ((wC9 v109 v89) ∧ ((wC9 v118 v89) ∧ ((uP7 v111 v120) ∧ ((!v132) = true → ((v134 = true → ((wG8 p2.1 p1.2.2.2.1) ∧ ((wG8 p2.1 s_6) ∧ ((wG8 p2.1 p2.2.2.2.1) ∧ (xY6 s_8 v146))))) ∧ (v134 = false → ((wC2 p2.1 p1.2.2.2.1) ∧ ((wC2 p2.1 s_6) ∧ ((wC2 p2.1 p2.2.2.2.1) ∧ (xY6 s_10 v159))))))))))))))))))),(),(s_11,()))
def wM1 (p0:(Int × Int × Int × (List (List D94)) × Int × Unit)) (p1:D197) (p2:D197):Prop:=(uH p0 p1 p2).1
def oI8 (p0:(Int × Int × Int × (List (List D94)) × Int × Unit)) (p1:D197) (p2:D197):(Unit):=(uH p0 p1 p2).2.1
def wN5 (p0:(Int × Int × Int × (List (List D94)) × Int × Unit)) (p1:D197) (p2:D197):((Int × Int × Int × (List (List D94)) × Int × Unit) × Unit):=(uH p0 p1 p2).2.2
instance (p0:(Int × Int × Int × (List (List D94)) × Int × Unit)) (p1:D197) (p2:D197):Decidable (wM1 p0 p1 p2):=by
 unfold wM1 uH
 try dsimp only
 infer_instance
def uW2:Am.Spec:=fnSpec [(0,(.box T171 (.agg (.cons (.int .i64) (.cons (.int .i64) (.cons (.int .i64) (.cons (.sl (.sl T94)) (.cons (.int .i64) .nl))))) (.cons vI (.cons vI (.cons vI (.cons (.own (.sl T94) 400000 false) (.cons vI .nl)))))))),(1,(.val T197)),(2,(.val T197))] (.tup .nl) [(0,(.box T171 (.agg (.cons (.int .i64) (.cons (.int .i64) (.cons (.int .i64) (.cons (.sl (.sl T94)) (.cons (.int .i64) .nl))))) (.cons vI (.cons vI (.cons vI (.cons (.own (.sl T94) 400000 false) (.cons vI .nl))))))))] (fun x=>wM1 x.1 x.2.1 x.2.2.1) (fun x=>oI8 x.1 x.2.1 x.2.2.1) (fun x=>wN5 x.1 x.2.1 x.2.2.1)
def rA9:Ctx:={ Cx tys [(97,wL1),(148,wT2),(149,vH8),(150,vP5),(164,uG6),(167,tJ1)] [] [] true 161 [0] [40,50,146,159] with wants:=[(148,[1])] }
theorem rB:CtxOk Tryz.prog rA9:=xV6 tys_ok rfl ⟨vN8,vU9,tJ5,sE6,rA4,qH4,trivial⟩ rfl (by kernel_rfl)
theorem rX4:SpecOk Tryz.prog 151 uW2:=xX4 rB mixed Tryz.func151 (by kernel_rfl) (bs:=[]) (by kernel_rfl) trivial fun x=>by kernel_rfl
def uH0 (p0:(Int × Int × Int × (List (List D94)) × Int × Unit)) (p1:D197) (p2:D197):Prop × (Unit) × ((Int × Int × Int × (List (List D94)) × Int × Unit) × Unit) :=
 let v12:=(p0.2.2.1 == 1)
 let v20:=(f164 p1.1 p0.1)
 let s_1:=(p0.1,p0.2.1,p0.2.2.1,p0.2.2.2.1,p0.2.2.2.2.1,())
 let v21o:=(xY0 s_1 v20)
 let v29:=(f164 p2.2.1 v21o.1.1)
 let s_3:=(v21o.1.1,v21o.1.2.1,v21o.1.2.2.1,v21o.1.2.2.2.1,v21o.1.2.2.2.2.1,())
 let v30o:=(xY0 s_3 v29)
 let v32:=(p0.2.2.1 == 2)
 let v37:=(f150 p1.1 p1.2.2.2.2.1)
 let v57:=([(f149 v37 p1.2.2.2.1),(f149 p1.1 p1.2.2.2.1),(f150 p1.1 p1.2.2.2.1),(f150 v37 p1.2.2.2.1)]:List D94)
 let s_5:=(p0.1,p0.2.1,p0.2.2.1,p0.2.2.2.1,p0.2.2.2.2.1,())
 let v58o:=(xY0 s_5 v57)
 let v63:=(f149 p2.2.1 p2.2.2.2.2.1)
 let v83:=([(f149 p2.2.1 p2.2.2.2.1),(f149 v63 p2.2.2.2.1),(f150 v63 p2.2.2.2.1),(f150 p2.2.1 p2.2.2.2.1)]:List D94)
 let s_7:=(v58o.1.1,v58o.1.2.1,v58o.1.2.2.1,v58o.1.2.2.2.1,v58o.1.2.2.2.2.1,())
 let v84o:=(xY0 s_7 v83)
 let s_8:=((bif v12 then v30o.1.1 else (bif v32 then v84o.1.1 else p0.1)),(bif v12 then v30o.1.2.1 else (bif v32 then v84o.1.2.1 else p0.2.1)),(bif v12 then v30o.1.2.2.1 else (bif v32 then v84o.1.2.2.1 else p0.2.2.1)),(bif v12 then v30o.1.2.2.2.1 else (bif v32 then v84o.1.2.2.2.1 else p0.2.2.2.1)),(bif v12 then v30o.1.2.2.2.2.1 else (bif v32 then v84o.1.2.2.2.2.1 else p0.2.2.2.2.1)),())
 (((v12 = true → ((vQ p1.1 p0.1) ∧ ((xY6 s_1 v20) ∧ ((vQ p2.2.1 v21o.1.1) ∧ (xY6 s_3 v29))))) ∧ (v12 = false → (v32 = true → ((wG8 p1.1 p1.2.2.2.2.1) ∧ ((wC2 v37 p1.2.2.2.1) ∧ ((wC2 p1.1 p1.2.2.2.1) ∧ ((wG8 p1.1 p1.2.2.2.1) ∧ ((wG8 v37 p1.2.2.2.1) ∧ ((xY6 s_5 v57) ∧ ((wC2 p2.2.1 p2.2.2.2.2.1) ∧ ((wC2 p2.2.1 p2.2.2.2.1) ∧ ((wC2 v63 p2.2.2.2.1) ∧ ((wG8 v63 p2.2.2.2.1) ∧ ((wG8 p2.2.1 p2.2.2.2.1) ∧ (xY6 s_7 v83))))))))))))))),(),(s_8,()))
def wX5 (p0:(Int × Int × Int × (List (List D94)) × Int × Unit)) (p1:D197) (p2:D197):Prop:=(uH0 p0 p1 p2).1
def oI9 (p0:(Int × Int × Int × (List (List D94)) × Int × Unit)) (p1:D197) (p2:D197):(Unit):=(uH0 p0 p1 p2).2.1
def uH1 (p0:(Int × Int × Int × (List (List D94)) × Int × Unit)) (p1:D197) (p2:D197):((Int × Int × Int × (List (List D94)) × Int × Unit) × Unit):=(uH0 p0 p1 p2).2.2
instance (p0:(Int × Int × Int × (List (List D94)) × Int × Unit)) (p1:D197) (p2:D197):Decidable (wX5 p0 p1 p2):=by
 unfold wX5 uH0
 try dsimp only
 infer_instance
def uW3:Am.Spec:=fnSpec [(0,(.box T171 (.agg (.cons (.int .i64) (.cons (.int .i64) (.cons (.int .i64) (.cons (.sl (.sl T94)) (.cons (.int .i64) .nl))))) (.cons vI (.cons vI (.cons vI (.cons (.own (.sl T94) 400000 false) (.cons vI .nl)))))))),(1,(.val T197)),(2,(.val T197))] (.tup .nl) [(0,(.box T171 (.agg (.cons (.int .i64) (.cons (.int .i64) (.cons (.int .i64) (.cons (.sl (.sl T94)) (.cons (.int .i64) .nl))))) (.cons vI (.cons vI (.cons vI (.cons (.own (.sl T94) 400000 false) (.cons vI .nl))))))))] (fun x=>wX5 x.1 x.2.1 x.2.2.1) (fun x=>oI9 x.1 x.2.1 x.2.2.1) (fun x=>uH1 x.1 x.2.1 x.2.2.1)
def rB0:Ctx:={ Cx tys [(148,wT2),(149,vH8),(150,vP5),(164,uG6)] [] [] true 85 [0] [57,83] with wants:=[(148,[1])] }
theorem rB1:CtxOk Tryz.prog rB0:=xV6 tys_ok rfl ⟨vU9,tJ5,sE6,rA4,trivial⟩ rfl (by kernel_rfl)
theorem rX5:SpecOk Tryz.prog 152 uW3:=xX4 rB1 mixed Tryz.func152 (by kernel_rfl) (bs:=[]) (by kernel_rfl) trivial fun x=>by kernel_rfl
abbrev wM2:Type:=(Bool × (List D197) × (List D197) × Int × Unit)
abbrev wB8:Type:=((Int × Int × Int × (List (List D94)) × Int × Unit) × Int × Unit)
def vL0 (y:wM2) (x:wB8):Prop × Bool × wB8 :=
 let a32:=y.2.2.1
 let a0:=x.1
 let a34:=x.2.1
 let v35:=(decide (a34 < y.2.2.2.1))
 let v36:=(nth a32 a34 Z197)
 let v59:=([(f149 v36.1 v36.2.2.2.1),(f149 v36.2.1 v36.2.2.2.1),(f150 v36.2.1 v36.2.2.2.1),(f150 v36.1 v36.2.2.2.1)]:List D94)
 let s_1:=(a0.1,a0.2.1,a0.2.2.1,a0.2.2.2.1,a0.2.2.2.2.1,())
 let v60o:=(xY0 s_1 v59)
 ((v35 = true → (InB a34 (len a32) ∧ ((wC2 v36.1 v36.2.2.2.1) ∧ ((wC2 v36.2.1 v36.2.2.2.1) ∧ ((wG8 v36.2.1 v36.2.2.2.1) ∧ ((wG8 v36.1 v36.2.2.2.1) ∧ ((xY6 s_1 v59) ∧ InR (a34 + 1)))))))),v35,((v60o.1.1,v60o.1.2.1,v60o.1.2.2.1,v60o.1.2.2.2.1,v60o.1.2.2.2.2.1,()),(a34 + 1),()))
def wI4 (y:wM2) (x:wB8):Prop:=(vL0 y x).1
def wH0 (y:wM2) (x:wB8):Bool:=(vL0 y x).2.1
def wB2 (y:wM2) (x:wB8):wB8:=(vL0 y x).2.2
instance (y:wM2) (x:wB8):Decidable (wI4 y x):=by
 unfold wI4 vL0
 try dsimp only
 infer_instance
def wZ7 (y:wM2) (x:wB8):(Int × Int × Int × (List (List D94)) × Int × Unit) :=
 let a0:=x.1
 (a0.1,a0.2.1,a0.2.2.1,a0.2.2.2.1,a0.2.2.2.2.1,())
def uH2:List (Nat × Sh):=[(0,(.box T171 (.agg (.cons (.int .i64) (.cons (.int .i64) (.cons (.int .i64) (.cons (.sl (.sl T94)) (.cons (.int .i64) .nl))))) (.cons vI (.cons vI (.cons vI (.cons (.own (.sl T94) 400000 false) (.cons vI .nl)))))))),(2,vB),(7,(.own T197 1007 false))]
def vQ0:St → Option Out:=xO8 [(2,vB),(7,(.own T197 1007 false)),(32,(.own T197 1007 false)),(33,vI)] [(0,(.box T171 (.agg (.cons (.int .i64) (.cons (.int .i64) (.cons (.int .i64) (.cons (.sl (.sl T94)) (.cons (.int .i64) .nl))))) (.cons vI (.cons vI (.cons vI (.cons (.own (.sl T94) 400000 false) (.cons vI .nl)))))))),(34,vI)] wH0 wB2 wI4 fun y x=>[ex 2 none uH2 ((wZ7 y x),y.1,y.2.1,())]
abbrev wI5:Type:=(Bool × (List D197) × Unit)
abbrev wA7:Type:=((Int × Int × Int × (List (List D94)) × Int × Unit) × Int × Unit)
def vC5 (y:wI5) (x:wA7):Prop × Bool × wA7 :=
 let a7:=y.2.1
 let a0:=x.1
 let a10:=x.2.1
 let v78:=(decide (a10 < (len a7)))
 let v84:=(a10 - 1)
 let v85:=(nth a7 v84 Z197)
 let v89:=(nth a7 a10 Z197)
 let s_1:=(a0.1,a0.2.1,a0.2.2.1,a0.2.2.2.1,a0.2.2.2.2.1,())
 let v91o:=(wN5 s_1 v85 v89)
 ((v78 = true → (InR (a10 - 1) ∧ (InB v84 (len a7) ∧ (InB a10 (len a7) ∧ ((wM1 s_1 v85 v89) ∧ InR (a10 + 1)))))),v78,((v91o.1.1,v91o.1.2.1,v91o.1.2.2.1,v91o.1.2.2.2.1,v91o.1.2.2.2.2.1,()),(a10 + 1),()))
def wF4 (y:wI5) (x:wA7):Prop:=(vC5 y x).1
def wB9 (y:wI5) (x:wA7):Bool:=(vC5 y x).2.1
def xZ8 (y:wI5) (x:wA7):wA7:=(vC5 y x).2.2
instance (y:wI5) (x:wA7):Decidable (wF4 y x):=by
 unfold wF4 vC5
 try dsimp only
 infer_instance
def wV0 (y:wI5) (x:wA7):(Int × Int × Int × (List (List D94)) × Int × Unit) :=
 let a0:=x.1
 (a0.1,a0.2.1,a0.2.2.1,a0.2.2.2.1,a0.2.2.2.2.1,())
def vY8:List (Nat × Sh):=[(0,(.box T171 (.agg (.cons (.int .i64) (.cons (.int .i64) (.cons (.int .i64) (.cons (.sl (.sl T94)) (.cons (.int .i64) .nl))))) (.cons vI (.cons vI (.cons vI (.cons (.own (.sl T94) 400000 false) (.cons vI .nl)))))))),(2,vB),(7,(.own T197 1007 false))]
def vN7:St → Option Out:=xO8 [(2,vB),(7,(.own T197 1007 false))] [(0,(.box T171 (.agg (.cons (.int .i64) (.cons (.int .i64) (.cons (.int .i64) (.cons (.sl (.sl T94)) (.cons (.int .i64) .nl))))) (.cons vI (.cons vI (.cons vI (.cons (.own (.sl T94) 400000 false) (.cons vI .nl)))))))),(10,vI)] wB9 xZ8 wF4 fun y x=>[ex 4 none vY8 ((wV0 y x),y.1,y.2.1,())]
def uH3 (p0:(Int × Int × Int × (List (List D94)) × Int × Unit)) (p1:(List D94)) (p2:Bool):Prop × (Unit) × ((Int × Int × Int × (List (List D94)) × Int × Unit) × Unit) :=
 let v13:=(f145 p1 p2)
 let v20:=(f146 v13 p2 p0.1)
 let v23:=((len v20) == 0)
 let v26:=((len v13) == 1)
 let v29:=(nth v13 (0:Int) Z94)
 let s_1:=(p0.1,p0.2.1,p0.2.2.1,p0.2.2.2.1,p0.2.2.2.2.1,())
 let v31o:=(uG9 s_1 v29)
 let y6:=(p2,v20,v20,(len v20),())
 let x6:=((p0.1,p0.2.1,p0.2.2.1,p0.2.2.2.1,p0.2.2.2.2.1,()),(0:Int),())
 let r6_2_0:=(wZ7 y6 (zB9 (wH0 y6) (wB2 y6) x6))
 let v63:=(!p2)
 let v67:=(len v20)
 let v68:=(v67 - 1)
 let v69:=(nth v20 v68 Z197)
 let v72:=(nth v20 (0:Int) Z197)
 let s_4:=(r6_2_0.1,r6_2_0.2.1,r6_2_0.2.2.1,r6_2_0.2.2.2.1,r6_2_0.2.2.2.2.1,())
 let v74o:=(wN5 s_4 v69 v72)
 let s_5:=((bif v63 then v74o.1.1 else r6_2_0.1),(bif v63 then v74o.1.2.1 else r6_2_0.2.1),(bif v63 then v74o.1.2.2.1 else r6_2_0.2.2.1),(bif v63 then v74o.1.2.2.2.1 else r6_2_0.2.2.2.1),(bif v63 then v74o.1.2.2.2.2.1 else r6_2_0.2.2.2.2.1),())
 let y13:=(p2,v20,())
 let x13:=(s_5,(1:Int),())
 let r13_4_0:=(wV0 y13 (zB9 (wB9 y13) (xZ8 y13) x13))
 let v95:=(nth v20 (0:Int) Z197)
 let v99:=(len v20)
 let v100:=(v99 - 1)
 let v101:=(nth v20 v100 Z197)
 let s_7:=(r13_4_0.1,r13_4_0.2.1,r13_4_0.2.2.1,r13_4_0.2.2.2.1,r13_4_0.2.2.2.2.1,())
 let v103o:=(uH1 s_7 v95 v101)
 let s_8:=((bif v23 then (bif v26 then v31o.1.1 else p0.1) else (bif p2 then v103o.1.1 else r13_4_0.1)),(bif v23 then (bif v26 then v31o.1.2.1 else p0.2.1) else (bif p2 then v103o.1.2.1 else r13_4_0.2.1)),(bif v23 then (bif v26 then v31o.1.2.2.1 else p0.2.2.1) else (bif p2 then v103o.1.2.2.1 else r13_4_0.2.2.1)),(bif v23 then (bif v26 then v31o.1.2.2.2.1 else p0.2.2.2.1) else (bif p2 then v103o.1.2.2.2.1 else r13_4_0.2.2.2.1)),(bif v23 then (bif v26 then v31o.1.2.2.2.2.1 else p0.2.2.2.2.1) else (bif p2 then v103o.1.2.2.2.2.1 else r13_4_0.2.2.2.2.1)),())
 (((tJ0 p1 p2) ∧ ((tJ2 v13 p2 p0.1) ∧ ((v23 = true → (v26 = true → (InB (0:Int) (len v13) ∧ (vI1 s_1 v29)))) ∧ ((!v23) = true → ((Am.Ends (wH0 y6) (wB2 y6) (wI4 y6) x6) ∧ ((v63 = true → (InR (v67 - 1) ∧ (InB v68 (len v20) ∧ (InB (0:Int) (len v20) ∧ (wM1 s_4 v69 v72))))) ∧ ((Am.Ends (wB9 y13) (xZ8 y13) (wF4 y13) x13) ∧ (p2 = true → (InB (0:Int) (len v20) ∧ (InR (v99 - 1) ∧ (InB v100 (len v20) ∧ (wX5 s_7 v95 v101)))))))))))),(),(s_8,()))
def wO5 (p0:(Int × Int × Int × (List (List D94)) × Int × Unit)) (p1:(List D94)) (p2:Bool):Prop:=(uH3 p0 p1 p2).1
def oJ (p0:(Int × Int × Int × (List (List D94)) × Int × Unit)) (p1:(List D94)) (p2:Bool):(Unit):=(uH3 p0 p1 p2).2.1
def vI2 (p0:(Int × Int × Int × (List (List D94)) × Int × Unit)) (p1:(List D94)) (p2:Bool):((Int × Int × Int × (List (List D94)) × Int × Unit) × Unit):=(uH3 p0 p1 p2).2.2
instance (p0:(Int × Int × Int × (List (List D94)) × Int × Unit)) (p1:(List D94)) (p2:Bool):Decidable (wO5 p0 p1 p2):=by
 unfold wO5 uH3
 try dsimp only
 infer_instance
def uW4:Am.Spec:=fnSpec [(0,(.box T171 (.agg (.cons (.int .i64) (.cons (.int .i64) (.cons (.int .i64) (.cons (.sl (.sl T94)) (.cons (.int .i64) .nl))))) (.cons vI (.cons vI (.cons vI (.cons (.own (.sl T94) 400000 false) (.cons vI .nl)))))))),(1,(.val (.sl T94))),(2,vB)] (.tup .nl) [(0,(.box T171 (.agg (.cons (.int .i64) (.cons (.int .i64) (.cons (.int .i64) (.cons (.sl (.sl T94)) (.cons (.int .i64) .nl))))) (.cons vI (.cons vI (.cons vI (.cons (.own (.sl T94) 400000 false) (.cons vI .nl))))))))] (fun x=>wO5 x.1 x.2.1 x.2.2.1) (fun x=>oJ x.1 x.2.1 x.2.2.1) (fun x=>vI2 x.1 x.2.1 x.2.2.1)
def uB1:Ctx:={ Cx tys [(145,sP),(146,sP4),(147,uW1),(148,wT2),(149,vH8),(150,vP5),(151,uW2),(152,uW3)] [(6,vQ0),(13,vN7)] [(3,[(4,0,20,1007)])] false 104 [0] [59] with wants:=[(147,[]),(148,[1]),(151,[]),(152,[])] }
theorem uB2:CtxOk Tryz.prog uB1:=xV6 tys_ok rfl ⟨oG6,oH4,rX3,vU9,tJ5,sE6,rX4,rX5,trivial⟩ rfl (by kernel_rfl)
noncomputable def uW5:Code:=Tryz.f134.body.getD .skip
noncomputable def tX3:Code:=xW5 uW5 0
theorem sE7:yU1 Tryz.prog uB1 tX3:=xX3 uB2 mixed (sp:=vQ0) rfl [uH2] (bs:=[]) (by kernel_rfl) trivial (by kernel_rfl) (by kernel_rfl) fun y x=>by kernel_rfl
noncomputable def tJ7:Code:=xW5 uW5 1
theorem tV2:yU1 Tryz.prog uB1 tJ7:=xX3 uB2 mixed (sp:=vN7) rfl [vY8] (bs:=[]) (by kernel_rfl) trivial (by kernel_rfl) (by kernel_rfl) fun y x=>by kernel_rfl
theorem rX6:SpecOk Tryz.prog 134 uW4:=xX4 uB2 mixed Tryz.func134 (by kernel_rfl) (bs:=[tX3,tJ7]) (by kernel_rfl) ⟨sE7,tV2,trivial⟩ fun x=>by kernel_rfl
abbrev wF5:Type:=((List Bool) × Unit × (List (List D94)) × Int × Unit)
abbrev wB:Type:=((Int × Int × Int × (List (List D94)) × Int × Unit) × Int × Unit)
def vI3 (y:wF5) (x:wB):Prop × Bool × wB × Bool × Bool :=
 let a1:=y.1
 let a39:=y.2.2.1
 let a38:=x.1
 let a41:=x.2.1
 let v42:=(decide (a41 < y.2.2.2.1))
 let v44:=(nth a39 a41 ([]:List D94))
 let v50:=(nth a1 a41 false)
 let s_1:=(a38.1,a38.2.1,a38.2.2.1,a38.2.2.2.1,a38.2.2.2.2.1,())
 let v52o:=(vI2 s_1 v44 v50)
 let v57:=(decide (v52o.1.2.2.2.2.1 > 4096))
 ((v42 = true → (InB a41 (len a39) ∧ (InB a41 (len a1) ∧ ((wO5 s_1 v44 v50) ∧ ((!v57) = true → InR (a41 + 1)))))),(v42 && (!v57)),((v52o.1.1,v52o.1.2.1,v52o.1.2.2.1,v52o.1.2.2.2.1,v52o.1.2.2.2.2.1,()),(a41 + 1),()),(v42 && v57),(!v42))
def wO6 (y:wF5) (x:wB):Prop:=(vI3 y x).1
def wX6 (y:wF5) (x:wB):Bool:=(vI3 y x).2.1
def wI6 (y:wF5) (x:wB):wB:=(vI3 y x).2.2.1
def uB3 (y:wF5) (x:wB):Bool:=(vI3 y x).2.2.2.1
def rB2 (y:wF5) (x:wB):Bool:=(vI3 y x).2.2.2.2
instance (y:wF5) (x:wB):Decidable (wO6 y x):=by
 unfold wO6 vI3
 try dsimp only
 infer_instance
def vL1 (y:wF5) (x:wB):(List (List D94)) :=
 ([]:List (List D94))
def uH4 (y:wF5) (x:wB):Int :=
 (3:Int)
def tJ8:List (Nat × Sh):=[(10,(.own (.sl T94) 0 false)),(11,vI)]
def vL2 (y:wF5) (x:wB):(Int × Int × Int × (List (List D94)) × Int × Unit) :=
 let a38:=x.1
 (a38.1,a38.2.1,a38.2.2.1,a38.2.2.2.1,a38.2.2.2.2.1,())
def tJ9:List (Nat × Sh):=[(14,(.ref 38 T171)),(38,(.box T171 (.agg (.cons (.int .i64) (.cons (.int .i64) (.cons (.int .i64) (.cons (.sl (.sl T94)) (.cons (.int .i64) .nl))))) (.cons vI (.cons vI (.cons vI (.cons (.own (.sl T94) 403800 false) (.cons vI .nl))))))))]
def uH5:St → Option Out:=xO8 [(1,(.val (.sl .bool))),(14,(.ref 38 T171)),(39,(.val (.sl (.sl T94)))),(40,vI)] [(38,(.box T171 (.agg (.cons (.int .i64) (.cons (.int .i64) (.cons (.int .i64) (.cons (.sl (.sl T94)) (.cons (.int .i64) .nl))))) (.cons vI (.cons vI (.cons vI (.cons (.own (.sl T94) 403800 false) (.cons vI .nl)))))))),(41,vI)] wX6 wI6 wO6 fun y x=>[ex 1 (some (uB3 y x)) tJ8 ((vL1 y x),(uH4 y x),()),ex 2 (some (rB2 y x)) tJ9 (y.2.1,(vL2 y x),())]
def pE4 (p0:(List (List D94))) (p1:(List Bool)) (p2:Int) (p3:Int) (p4:Int):Prop × ((List (List D94)) × Int × Unit) :=
 let v20:=(f133 p2 p3 p4)
 let v22:=(v20 != 0)
 let v25:=(f117 p0 (0:Int))
 let v27:=(v25 != 0)
 let v33:=((len p1) != (len p0))
 let y11:=(p1,(),p0,(len p0),())
 let x11:=((p2,p3,p4,([]:List (List D94)),(0:Int),()),(0:Int),())
 let e11:=(zB9 (wX6 y11) (wI6 y11) x11)
 let q11_1:=(uB3 y11 e11)
 (((tJ p2 p3 p4) ∧ ((!v22) = true → ((uB p0 (0:Int)) ∧ ((!v27) = true → ((!v33) = true → (Am.Ends (wX6 y11) (wI6 y11) (wO6 y11) x11)))))),((bif v22 then [] else (bif v27 then [] else (bif v33 then [] else (bif q11_1 then (vL1 y11 e11) else (vL2 y11 e11).2.2.2.1)))),(bif v22 then v20 else (bif v27 then v25 else (bif v33 then (15:Int) else (bif q11_1 then (uH4 y11 e11) else (0:Int))))),()))
def tK (p0:(List (List D94))) (p1:(List Bool)) (p2:Int) (p3:Int) (p4:Int):Prop:=(pE4 p0 p1 p2 p3 p4).1
def f116 (p0:(List (List D94))) (p1:(List Bool)) (p2:Int) (p3:Int) (p4:Int):((List (List D94)) × Int × Unit):=(pE4 p0 p1 p2 p3 p4).2
instance (p0:(List (List D94))) (p1:(List Bool)) (p2:Int) (p3:Int) (p4:Int):Decidable (tK p0 p1 p2 p3 p4):=by
 unfold tK pE4
 try dsimp only
 infer_instance
def sQ:Am.Spec:=fnSpec [(0,(.val (.sl (.sl T94)))),(1,(.val (.sl .bool))),(2,vI),(3,vI),(4,vI)] (.tup (.cons (.own (.sl T94) 0 false) (.cons vI .nl))) [] (fun x=>tK x.1 x.2.1 x.2.2.1 x.2.2.2.1 x.2.2.2.2.1) (fun x=>f116 x.1 x.2.1 x.2.2.1 x.2.2.2.1 x.2.2.2.2.1) (fun _=>())
def rN:Ctx:={ Cx tys [(117,uG0),(133,sO9),(134,uW4)] [(11,uH5)] [(35,[(4,0,403800,0)])] false 63 [] [] with wants:=[(134,[])] }
theorem rN0:CtxOk Tryz.prog rN:=xV6 tys_ok rfl ⟨rA2,oG4,rX6,trivial⟩ rfl (by kernel_rfl)
noncomputable def qI0:Code:=Tryz.f116.body.getD .skip
noncomputable def rN1:Code:=xW5 qI0 0
theorem rB3:yU1 Tryz.prog rN rN1:=xX3 rN0 mixed (sp:=uH5) rfl [tJ8,tJ9] (bs:=[]) (by kernel_rfl) trivial (by kernel_rfl) (by kernel_rfl) fun y x=>by kernel_rfl
theorem oJ0:SpecOk Tryz.prog 116 sQ:=xX4 rN0 mixed Tryz.func116 (by kernel_rfl) (bs:=[rN1]) (by kernel_rfl) ⟨rB3,trivial⟩ fun x=>by kernel_rfl
def oJ1 (p0:D57):Prop × Int :=
 let v15:=(f113 p0.2.2.2.2.2.2.2.2.2.2.2.2.2.2.2.2.2.2.1 p0.2.2.2.2.2.2.2.2.2.2.1)
 let v19:=(v15.2.1 != 0)
 let v28:=(bif (p0.2.2.2.2.2.2.2.2.2.2.2.2.2.2.2.2.2.2.2.1 != 0) then (p0.2.2.2.2.2.2.2.2.2.2.2.2.2.2.2.2.2.2.2.1 != 1) else false)
 let v41:=(bif (p0.2.2.2.2.2.2.2.2.2.2.2.2.2.2.2.2.2.2.2.2.1 == 0) then (bif (p0.2.2.2.2.2.2.2.2.2.2.2.2.2.2.2.2.2.2.2.2.2.1 != 0) then true else (p0.2.2.2.2.2.2.2.2.2.2.2.2.2.2.2.2.2.2.2.2.2.2.1 != 0)) else false)
 let v44:=(f114 v15.1)
 let v48:=(v44.2.1 != 0)
 let v54:=(p0.2.2.2.2.2.2.2.2.2.2.2.2.2.2.2.2.2.2.2.2.1 != 0)
 let v57:=(f115 v15.1)
 let v61:=(v57.2.1 != 0)
 let v72:=(f116 v44.1 v57.1 p0.2.2.2.2.2.2.2.2.2.2.2.2.2.2.2.2.2.2.2.2.1 p0.2.2.2.2.2.2.2.2.2.2.2.2.2.2.2.2.2.2.2.2.2.1 p0.2.2.2.2.2.2.2.2.2.2.2.2.2.2.2.2.2.2.2.2.2.2.1)
 let v76:=(v72.2.1 != 0)
 let m5_1:=(bif v54 then v72.1 else v44.1)
 let m6:=(bif v54 then (0:Int) else p0.2.2.2.2.2.2.2.2.2.2.2.2.2.2.2.2.2.2.2.1)
 let v80:=(f117 m5_1 m6)
 let v82:=(v80 != 0)
 let m2_4:=(bif v41 then (1:Int) else (bif v48 then v44.2.1 else (bif ((v61 || ((!v61) && v76)) && v54) then (bif v61 then v57.2.1 else v72.2.1) else (bif v82 then v80 else (f99 p0.2.2.2.2.2.2.2.2.2.2.2.2.2.1)))))
 (((tI0 p0.2.2.2.2.2.2.2.2.2.2.2.2.2.2.2.2.2.2.1 p0.2.2.2.2.2.2.2.2.2.2.1) ∧ ((!v19) = true → ((!v28) = true → ((!v41) = true → ((vP3 v15.1) ∧ ((!v48) = true → ((v54 = true → ((tI4 v15.1) ∧ ((!v61) = true → (tK v44.1 v57.1 p0.2.2.2.2.2.2.2.2.2.2.2.2.2.2.2.2.2.2.2.2.1 p0.2.2.2.2.2.2.2.2.2.2.2.2.2.2.2.2.2.2.2.2.2.1 p0.2.2.2.2.2.2.2.2.2.2.2.2.2.2.2.2.2.2.2.2.2.2.1)))) ∧ ((bif v54 then ((!v61) && (!v76)) else true) = true → ((uB m5_1 m6) ∧ ((!v82) = true → (tG8 p0.2.2.2.2.2.2.2.2.2.2.2.2.2.1))))))))))),(bif v19 then v15.2.1 else (bif v28 then (8:Int) else m2_4)))
def tK0 (p0:D57):Prop:=(oJ1 p0).1
def f101 (p0:D57):Int:=(oJ1 p0).2
instance (p0:D57):Decidable (tK0 p0):=by
 unfold tK0 oJ1
 try dsimp only
 infer_instance
def sQ0:Am.Spec:=fnSpec [(0,(.val T57))] vI [] (fun x=>tK0 x.1) (fun x=>f101 x.1) (fun _=>())
def pE5:Ctx:=Cx tys [(99,tB3),(113,sO6),(114,tI2),(115,sO7),(116,sQ),(117,uG0)] [] [(17,[(4,0,44,1005)]),(27,[(4,0,57,1007)]),(33,[(5,0,1005,0),(4,0,72,1005)])] false 87 [] []
theorem pE6:CtxOk Tryz.prog pE5:=xV6 tys_ok rfl ⟨qF6,oF9,qG7,oG1,oJ0,rA2,trivial⟩ rfl (by kernel_rfl)
theorem oJ2:SpecOk Tryz.prog 101 sQ0:=xX4 pE6 mixed Tryz.func101 (by kernel_rfl) (bs:=[]) (by kernel_rfl) trivial fun x=>by kernel_rfl
def oJ3 (p0:Int) (p1:Int) (p2:Int):Prop × Bool :=
 (True,(bif (decide (p0 ≥ p1)) then (decide (p0 ≤ p2)) else false))
def wO7 (p0:Int) (p1:Int) (p2:Int):Prop:=(oJ3 p0 p1 p2).1
def f154 (p0:Int) (p1:Int) (p2:Int):Bool:=(oJ3 p0 p1 p2).2
instance (p0:Int) (p1:Int) (p2:Int):Decidable (wO7 p0 p1 p2):=by
 unfold wO7 oJ3
 try dsimp only
 infer_instance
def uH6:Am.Spec:=fnSpec [(0,vI),(1,vI),(2,vI)] vB [] (fun x=>wO7 x.1 x.2.1 x.2.2.1) (fun x=>f154 x.1 x.2.1 x.2.2.1) (fun _=>())
def pE7:Ctx:=Cx tys [] [] [] false 15 [] []
theorem pE8:CtxOk Tryz.prog pE7:=xV6 tys_ok rfl trivial rfl (by kernel_rfl)
theorem rB4:SpecOk Tryz.prog 154 uH6:=xX4 pE8 mixed Tryz.func154 (by kernel_rfl) (bs:=[]) (by kernel_rfl) trivial fun x=>by kernel_rfl
abbrev wM3:Type:=((List D97) × Int × Int × (List D94) × Unit)
abbrev wF6:Type:=(Int × Unit)
def vI4 (y:wM3) (x:wF6):Prop × Bool × wF6 × Bool × Bool :=
 let a27:=x.1
 let v28:=(decide (a27 < 3))
 let v29:=(nth y.2.2.2.1 a27 Z94)
 let v33:=(!(f154 v29.1 (-65536:Int) (65536:Int)))
 let v39:=(bif v33 then true else (!(f154 v29.2.1 (-65536:Int) (65536:Int))))
 ((v28 = true → (InB a27 3 ∧ ((wO7 v29.1 (-65536:Int) (65536:Int)) ∧ (((!v33) = true → (wO7 v29.2.1 (-65536:Int) (65536:Int))) ∧ ((!v39) = true → InR (a27 + 1)))))),(v28 && (!v39)),((a27 + 1),()),(v28 && v39),(!v28))
def vL3 (y:wM3) (x:wF6):Prop:=(vI4 y x).1
def vV (y:wM3) (x:wF6):Bool:=(vI4 y x).2.1
def wV7 (y:wM3) (x:wF6):wF6:=(vI4 y x).2.2.1
def tK1 (y:wM3) (x:wF6):Bool:=(vI4 y x).2.2.2.1
def tK2 (y:wM3) (x:wF6):Bool:=(vI4 y x).2.2.2.2
instance (y:wM3) (x:wF6):Decidable (vL3 y x):=by
 unfold vL3 vI4
 try dsimp only
 infer_instance
def uH7 (y:wM3) (x:wF6):Int :=
 (2:Int)
def tK3:List (Nat × Sh):=[(19,(.val (.sl T97))),(20,vI),(21,vI)]
def uH8:St → Option Out:=xO8 [(19,(.val (.sl T97))),(20,vI),(21,vI),(26,(.val (.arr 3 T94)))] [(27,vI)] vV wV7 vL3 fun y x=>[ex 1 (some (tK1 y x)) [(2,vI)] ((uH7 y x),()),ex 4 (some (tK2 y x)) tK3 (y.1,y.2.1,y.2.2.1,())]
abbrev wT3:Type:=((List D97) × Int × Unit)
abbrev wJ8:Type:=(Int × Unit)
def vV0 (y:wT3) (x:wJ8):Prop × Bool × wJ8 × Bool × Bool :=
 let a19:=y.1
 let a20:=y.2.1
 let a21:=x.1
 let v22:=(decide (a21 < a20))
 let y10:=(a19,a20,a21,(nth a19 a21 Z97).2.1,())
 let x10:=((0:Int),())
 let e10:=(zB9 (vV y10) (wV7 y10) x10)
 let q10_4:=(tK2 y10 e10)
 ((v22 = true → (InB a21 (len a19) ∧ ((Am.Ends (vV y10) (wV7 y10) (vL3 y10) x10) ∧ (q10_4 = true → InR (a21 + 1))))),(v22 && q10_4),((a21 + 1),()),(v22 && (tK1 y10 e10)),(!v22))
def vV1 (y:wT3) (x:wJ8):Prop:=(vV0 y x).1
def tK4 (y:wT3) (x:wJ8):Bool:=(vV0 y x).2.1
def vQ1 (y:wT3) (x:wJ8):wJ8:=(vV0 y x).2.2.1
def tX4 (y:wT3) (x:wJ8):Bool:=(vV0 y x).2.2.2.1
def rX7 (y:wT3) (x:wJ8):Bool:=(vV0 y x).2.2.2.2
instance (y:wT3) (x:wJ8):Decidable (vV1 y x):=by
 unfold vV1 vV0
 try dsimp only
 infer_instance
def uW6 (y:wT3) (x:wJ8):Int :=
 let a19:=y.1
 let a21:=x.1
 let y10:=(a19,y.2.1,a21,(nth a19 a21 Z97).2.1,())
 (uH7 y10 (zB9 (vV y10) (wV7 y10) ((0:Int),())))
def uW7:St → Option Out:=xO8 [(19,(.val (.sl T97))),(20,vI)] [(21,vI)] tK4 vQ1 vV1 fun y x=>[ex 1 (some (tX4 y x)) [(2,vI)] ((uW6 y x),()),ex 2 (some (rX7 y x)) [] ()]
def oJ4 (p0:D184):Prop × Int :=
 let v11:=(!(f154 p0.2.1 (0:Int) (65536:Int)))
 let v14:=(f128 p0.2.2.1)
 let v16:=(v14 != 0)
 let y7:=(p0.2.2.1,(len p0.2.2.1),())
 let x7:=((0:Int),())
 let e7:=(zB9 (tK4 y7) (vQ1 y7) x7)
 (((wO7 p0.2.1 (0:Int) (65536:Int)) ∧ ((!v11) = true → ((vO8 p0.2.2.1) ∧ ((!v16) = true → (Am.Ends (tK4 y7) (vQ1 y7) (vV1 y7) x7))))),(bif v11 then (2:Int) else (bif v16 then v14 else (bif (tX4 y7 e7) then (uW6 y7 e7) else (0:Int)))))
def sE8 (p0:D184):Prop:=(oJ4 p0).1
def f168 (p0:D184):Int:=(oJ4 p0).2
instance (p0:D184):Decidable (sE8 p0):=by
 unfold sE8 oJ4
 try dsimp only
 infer_instance
def sQ1:Am.Spec:=fnSpec [(0,(.val T184))] vI [] (fun x=>sE8 x.1) (fun x=>f168 x.1) (fun _=>())
def sE9:Ctx:=Cx tys [(128,vO9),(154,uH6)] [(10,uH8),(7,uW7)] [] false 42 [] []
theorem sF:CtxOk Tryz.prog sE9:=xV6 tys_ok rfl ⟨sE,rB4,trivial⟩ rfl (by kernel_rfl)
noncomputable def qI1:Code:=Tryz.f168.body.getD .skip
noncomputable def rB5:Code:=xW5 qI1 0
noncomputable def rN2:Code:=xW5 rB5 0
theorem rB6:yU1 Tryz.prog sE9 rN2:=xX3 sF mixed (sp:=uH8) rfl [[(2,vI)],tK3] (bs:=[]) (by kernel_rfl) trivial (by kernel_rfl) (by kernel_rfl) fun y x=>by kernel_rfl
theorem rX8:yU1 Tryz.prog sE9 rB5:=xX3 sF mixed (sp:=uW7) rfl [[(2,vI)],[]] (bs:=[rN2]) (by kernel_rfl) ⟨rB6,trivial⟩ (by kernel_rfl) (by kernel_rfl) fun y x=>by kernel_rfl
theorem oJ5:SpecOk Tryz.prog 168 sQ1:=xX4 sF mixed Tryz.func168 (by kernel_rfl) (bs:=[rB5]) (by kernel_rfl) ⟨rX8,trivial⟩ fun x=>by kernel_rfl
def oJ6 (p0:D189) (p1:D189):Prop × Bool :=
 (True,(bif (decide (p0.1 > p1.1)) then true else (bif (p0.1 == p1.1) then (decide (p0.2.1 > p1.2.1)) else false)))
def sF0 (p0:D189) (p1:D189):Prop:=(oJ6 p0 p1).1
def f169 (p0:D189) (p1:D189):Bool:=(oJ6 p0 p1).2
instance (p0:D189) (p1:D189):Decidable (sF0 p0 p1):=by
 unfold sF0 oJ6
 try dsimp only
 infer_instance
def sQ2:Am.Spec:=fnSpec [(0,(.val T189)),(1,(.val T189))] vB [] (fun x=>sF0 x.1 x.2.1) (fun x=>f169 x.1 x.2.1) (fun _=>())
def pE9:Ctx:=Cx tys [] [] [] false 24 [] []
theorem pF:CtxOk Tryz.prog pE9:=xV6 tys_ok rfl trivial rfl (by kernel_rfl)
theorem oJ7:SpecOk Tryz.prog 169 sQ2:=xX4 pF mixed Tryz.func169 (by kernel_rfl) (bs:=[]) (by kernel_rfl) trivial fun x=>by kernel_rfl
abbrev wT4:Type:=(D155 × (List D184) × Int × Unit)
abbrev wJ9:Type:=(Int × Unit)
def vV2 (y:wT4) (x:wJ9):Prop × Bool × wJ9 × Bool × Bool :=
 let a1:=y.1
 let a35:=y.2.1
 let a37:=x.1
 let v38:=(decide (a37 < y.2.2.1))
 let v40:=(nth a35 a37 Z184)
 let v43:=(decide (a37 > 0))
 let v50:=(a37 - 1)
 let v55:=(bif v43 then (decide (v40.1 ≤ (nth a1.2.2.2.1 v50 Z184).1)) else false)
 let v59:=((f168 v40) != 0)
 let c_2:=((!v55) && (!v59))
 ((v38 = true → (InB a37 (len a35) ∧ ((v43 = true → InR (a37 - 1)) ∧ ((v43 = true → InB v50 (len a1.2.2.2.1)) ∧ (((!v55) = true → (sE8 v40)) ∧ (c_2 = true → InR (a37 + 1))))))),(v38 && c_2),((a37 + 1),()),(v38 && (v55 || ((!v55) && v59))),(!v38))
def vV3 (y:wT4) (x:wJ9):Prop:=(vV2 y x).1
def tK5 (y:wT4) (x:wJ9):Bool:=(vV2 y x).2.1
def vQ2 (y:wT4) (x:wJ9):wJ9:=(vV2 y x).2.2.1
def tX5 (y:wT4) (x:wJ9):Bool:=(vV2 y x).2.2.2.1
def tX6 (y:wT4) (x:wJ9):Bool:=(vV2 y x).2.2.2.2
instance (y:wT4) (x:wJ9):Decidable (vV3 y x):=by
 unfold vV3 vV2
 try dsimp only
 infer_instance
def uW8 (y:wT4) (x:wJ9):Int :=
 let a37:=x.1
 let v40:=(nth y.2.1 a37 Z184)
 (bif (bif (decide (a37 > 0)) then (decide (v40.1 ≤ (nth y.1.2.2.2.1 (a37 - 1) Z184).1)) else false) then (24:Int) else (f168 v40))
def uW9:St → Option Out:=xO8 [(1,(.box T155 (.val T155))),(35,(.val (.sl T184))),(36,vI)] [(37,vI)] tK5 vQ2 vV3 fun y x=>[ex 1 (some (tX5 y x)) [(2,vI)] ((uW8 y x),()),ex 2 (some (tX6 y x)) [(1,(.box T155 (.val T155)))] (y.1,())]
abbrev wM4:Type:=(D155 × (List D189) × Int × Unit)
abbrev wF7:Type:=(Int × Unit)
def vI5 (y:wM4) (x:wF7):Prop × Bool × wF7 × Bool × Bool :=
 let a1:=y.1
 let a63:=y.2.1
 let a65:=x.1
 let v66:=(decide (a65 < y.2.2.1))
 let v68:=(nth a63 a65 Z189)
 let v71:=(decide (a65 > 0))
 let v77:=(a65 - 1)
 let v78:=(nth a1.2.2.2.2.1 v77 Z189)
 let v82:=(bif v71 then (!(f169 v68 v78)) else false)
 let v86:=(!(f154 v68.2.2.1 (-65536:Int) (65536:Int)))
 let c_2:=((!v82) && (!v86))
 ((v66 = true → (InB a65 (len a63) ∧ ((v71 = true → InR (a65 - 1)) ∧ ((v71 = true → InB v77 (len a1.2.2.2.2.1)) ∧ ((v71 = true → (sF0 v68 v78)) ∧ (((!v82) = true → (wO7 v68.2.2.1 (-65536:Int) (65536:Int))) ∧ (c_2 = true → InR (a65 + 1)))))))),(v66 && c_2),((a65 + 1),()),(v66 && (v82 || ((!v82) && v86))),(!v66))
def vL4 (y:wM4) (x:wF7):Prop:=(vI5 y x).1
def uP9 (y:wM4) (x:wF7):Bool:=(vI5 y x).2.1
def vL5 (y:wM4) (x:wF7):wF7:=(vI5 y x).2.2.1
def tK6 (y:wM4) (x:wF7):Bool:=(vI5 y x).2.2.2.1
def rB7 (y:wM4) (x:wF7):Bool:=(vI5 y x).2.2.2.2
instance (y:wM4) (x:wF7):Decidable (vL4 y x):=by
 unfold vL4 vI5
 try dsimp only
 infer_instance
def uH9 (y:wM4) (x:wF7):Int :=
 let a65:=x.1
 (bif (bif (decide (a65 > 0)) then (!(f169 (nth y.2.1 a65 Z189) (nth y.1.2.2.2.2.1 (a65 - 1) Z189))) else false) then (24:Int) else (2:Int))
def uI:St → Option Out:=xO8 [(1,(.box T155 (.val T155))),(63,(.val (.sl T189))),(64,vI)] [(65,vI)] uP9 vL5 vL4 fun y x=>[ex 1 (some (tK6 y x)) [(2,vI)] ((uH9 y x),()),ex 4 (some (rB7 y x)) [] ()]
def oJ8 (p0:D155):Prop × Int :=
 let v11:=(!(f154 p0.1 (1:Int) (65536:Int)))
 let v17:=(bif v11 then true else (!(f154 p0.2.1 (0:Int) (65536:Int))))
 let v23:=(bif v17 then true else (!(f154 p0.2.2.1 (0:Int) (65536:Int))))
 let v33:=(bif (decide ((len p0.2.2.2.1) > 256)) then true else (decide ((len p0.2.2.2.2.1) > 256)))
 let y6:=(p0,p0.2.2.2.1,(len p0.2.2.2.1),())
 let x6:=((0:Int),())
 let e6:=(zB9 (tK5 y6) (vQ2 y6) x6)
 let y15:=(p0,p0.2.2.2.2.1,(len p0.2.2.2.2.1),())
 let x15:=((0:Int),())
 let e15:=(zB9 (uP9 y15) (vL5 y15) x15)
 (((wO7 p0.1 (1:Int) (65536:Int)) ∧ (((!v11) = true → (wO7 p0.2.1 (0:Int) (65536:Int))) ∧ (((!v17) = true → (wO7 p0.2.2.1 (0:Int) (65536:Int))) ∧ ((!v23) = true → ((!v33) = true → ((Am.Ends (tK5 y6) (vQ2 y6) (vV3 y6) x6) ∧ ((tX6 y6 e6) = true → (Am.Ends (uP9 y15) (vL5 y15) (vL4 y15) x15)))))))),(bif v23 then (2:Int) else (bif v33 then (3:Int) else (bif (tX5 y6 e6) then (uW8 y6 e6) else (bif (tK6 y15 e15) then (uH9 y15 e15) else (0:Int))))))
def tK7 (p0:D155):Prop:=(oJ8 p0).1
def f153 (p0:D155):Int:=(oJ8 p0).2
instance (p0:D155):Decidable (tK7 p0):=by
 unfold tK7 oJ8
 try dsimp only
 infer_instance
def sQ3:Am.Spec:=fnSpec [(0,(.val T155))] vI [] (fun x=>tK7 x.1) (fun x=>f153 x.1) (fun _=>())
def sF1:Ctx:=Cx tys [(154,uH6),(168,sQ1),(169,sQ2)] [(6,uW9),(15,uI)] [] false 88 [] []
theorem sF2:CtxOk Tryz.prog sF1:=xV6 tys_ok rfl ⟨rB4,oJ5,oJ7,trivial⟩ rfl (by kernel_rfl)
noncomputable def sQ4:Code:=Tryz.f153.body.getD .skip
noncomputable def qI2:Code:=xW5 sQ4 0
theorem rX9:yU1 Tryz.prog sF1 qI2:=xX3 sF2 mixed (sp:=uW9) rfl [[(2,vI)],[(1,(.box T155 (.val T155)))]] (bs:=[]) (by kernel_rfl) trivial (by kernel_rfl) (by kernel_rfl) fun y x=>by kernel_rfl
noncomputable def rN3:Code:=xW5 sQ4 1
theorem rB8:yU1 Tryz.prog sF1 rN3:=xX3 sF2 mixed (sp:=uI) rfl [[(2,vI)],[]] (bs:=[]) (by kernel_rfl) trivial (by kernel_rfl) (by kernel_rfl) fun y x=>by kernel_rfl
theorem oJ9:SpecOk Tryz.prog 153 sQ3:=xX4 sF2 mixed Tryz.func153 (by kernel_rfl) (bs:=[qI2,rN3]) (by kernel_rfl) ⟨rX9,rB8,trivial⟩ fun x=>by kernel_rfl
abbrev wT5:Type:=((List UInt8) × Int × Int × Int × Unit)
abbrev wK:Type:=(Int × Unit)
def vV4 (y:wT5) (x:wK):Prop × Bool × wK × Bool × Bool :=
 let a1:=y.1
 let a18:=x.1
 let v19:=(decide (a18 < y.2.2.2.1))
 let v24:=(decide ((xW8 a1 a18) < 32))
 let v30:=(bif v24 then true else (decide ((xW8 a1 a18) > 126)))
 let v36:=(bif v30 then ((xW8 a1 a18) != 10) else false)
 ((v19 = true → (InB a18 (len a1) ∧ (((!v24) = true → InB a18 (len a1)) ∧ ((v30 = true → InB a18 (len a1)) ∧ ((!v36) = true → InR (a18 + 1)))))),(v19 && (!v36)),((a18 + 1),()),(v19 && v36),(!v19))
def vV5 (y:wT5) (x:wK):Prop:=(vV4 y x).1
def tK8 (y:wT5) (x:wK):Bool:=(vV4 y x).2.1
def vQ3 (y:wT5) (x:wK):wK:=(vV4 y x).2.2.1
def uQ (y:wT5) (x:wK):Bool:=(vV4 y x).2.2.2.1
def tX7 (y:wT5) (x:wK):Bool:=(vV4 y x).2.2.2.2
instance (y:wT5) (x:wK):Decidable (vV5 y x):=by
 unfold vV5 vV4
 try dsimp only
 infer_instance
def vQ4 (y:wT5) (x:wK):Int :=
 (4:Int)
def uX:St → Option Out:=xO8 [(1,vS),(2,vI),(3,vI),(17,vI)] [(18,vI)] tK8 vQ3 vV5 fun y x=>[ex 1 (some (uQ y x)) [(8,vI)] ((vQ4 y x),()),ex 2 (some (tX7 y x)) [(1,vS),(2,vI),(3,vI)] (y.1,y.2.1,y.2.2.1,())]
def pF0 (p0:D155) (p1:(List UInt8)) (p2:Int) (p3:Int):Prop × Int :=
 let v12:=(f153 p0)
 let v14:=(v12 != 0)
 let y5:=(p1,p2,p3,(len p1),())
 let x5:=((0:Int),())
 let e5:=(zB9 (tK8 y5) (vQ3 y5) x5)
 let v40:=(decide ((len p1) > 128))
 let v43:=(!(f154 p2 (1:Int) (1048576:Int)))
 let m8_3:=(bif v14 then v12 else (bif (uQ y5 e5) then (vQ4 y5 e5) else (bif v40 then (3:Int) else (bif (bif v43 then true else (!(f154 p3 (0:Int) (1048576:Int)))) then (2:Int) else (0:Int)))))
 (((tK7 p0) ∧ ((!v14) = true → ((Am.Ends (tK8 y5) (vQ3 y5) (vV5 y5) x5) ∧ ((tX7 y5 e5) = true → ((!v40) = true → ((wO7 p2 (1:Int) (1048576:Int)) ∧ ((!v43) = true → (wO7 p3 (0:Int) (1048576:Int))))))))),m8_3)
def tK9 (p0:D155) (p1:(List UInt8)) (p2:Int) (p3:Int):Prop:=(pF0 p0 p1 p2 p3).1
def f135 (p0:D155) (p1:(List UInt8)) (p2:Int) (p3:Int):Int:=(pF0 p0 p1 p2 p3).2
instance (p0:D155) (p1:(List UInt8)) (p2:Int) (p3:Int):Decidable (tK9 p0 p1 p2 p3):=by
 unfold tK9 pF0
 try dsimp only
 infer_instance
def sQ5:Am.Spec:=fnSpec [(0,(.val T155)),(1,vS),(2,vI),(3,vI)] vI [] (fun x=>tK9 x.1 x.2.1 x.2.2.1 x.2.2.2.1) (fun x=>f135 x.1 x.2.1 x.2.2.1 x.2.2.2.1) (fun _=>())
def rN4:Ctx:=Cx tys [(153,sQ3),(154,uH6)] [(5,uX)] [] false 49 [] []
theorem rN5:CtxOk Tryz.prog rN4:=xV6 tys_ok rfl ⟨oJ9,rB4,trivial⟩ rfl (by kernel_rfl)
noncomputable def qI3:Code:=Tryz.f135.body.getD .skip
noncomputable def qI4:Code:=xW5 qI3 0
theorem rY:yU1 Tryz.prog rN4 qI4:=xX3 rN5 mixed (sp:=uX) rfl [[(8,vI)],[(1,vS),(2,vI),(3,vI)]] (bs:=[]) (by kernel_rfl) trivial (by kernel_rfl) (by kernel_rfl) fun y x=>by kernel_rfl
theorem oK:SpecOk Tryz.prog 135 sQ5:=xX4 rN5 mixed Tryz.func135 (by kernel_rfl) (bs:=[qI4]) (by kernel_rfl) ⟨rY,trivial⟩ fun x=>by kernel_rfl
abbrev vI6:Type:=(D155 × Unit × (D155 × (List Int) × Unit) × (List D184) × Int × Unit)
abbrev wT6:Type:=(Int × Int × Unit)
def tB9 (y:vI6) (x:wT6):Prop × Bool × wT6 :=
 let a14:=y.2.2.2.1
 let a16:=x.2.1
 let v17:=(decide (a16 < y.2.2.2.2.1))
 ((v17 = true → (InB a16 (len a14) ∧ InR (a16 + 1))),v17,((bif ((nth a14 a16 Z184).1 == 63) then a16 else x.1),(a16 + 1),()))
def vV6 (y:vI6) (x:wT6):Prop:=(tB9 y x).1
def tL (y:vI6) (x:wT6):Bool:=(tB9 y x).2.1
def vQ5 (y:vI6) (x:wT6):wT6:=(tB9 y x).2.2
instance (y:vI6) (x:wT6):Decidable (vV6 y x):=by
 unfold vV6 tB9
 try dsimp only
 infer_instance
def uX0 (y:vI6) (x:wT6):Int :=
 x.1
def tX8:List (Nat × Sh):=[(1,(.box T155 (.val T155))),(3,(.ref 12 T205)),(4,vI),(12,(.box T205 (.agg (.cons T155 (.cons (.arr 256 (.int .i64)) .nl)) (.cons (.val T155) (.cons (.val (.arr 256 (.int .i64))) .nl)))))]
def uX1:St → Option Out:=xO8 [(1,(.box T155 (.val T155))),(3,(.ref 12 T205)),(12,(.box T205 (.agg (.cons T155 (.cons (.arr 256 (.int .i64)) .nl)) (.cons (.val T155) (.cons (.val (.arr 256 (.int .i64))) .nl))))),(14,(.val (.sl T184))),(15,vI)] [(4,vI),(16,vI)] tL vQ5 vV6 fun y x=>[ex 2 none tX8 (y.1,y.2.1,(uX0 y x),y.2.2.1,())]
abbrev wX7:Type:=(D155 × Unit × Int × Unit)
abbrev wM5:Type:=((D155 × (List Int) × Unit) × Int × Unit)
def uI0 (y:wX7) (x:wM5):Prop × Bool × wM5 :=
 let a12:=x.1
 let a26:=x.2.1
 let v27:=(decide (a26 < 256))
 ((v27 = true → (InB a26 256 ∧ InR (a26 + 1))),v27,((a12.1,(List.set a12.2.1 (Int.toNat a26) y.2.2.1),()),(a26 + 1),()))
def vL6 (y:wX7) (x:wM5):Prop:=(uI0 y x).1
def uQ0 (y:wX7) (x:wM5):Bool:=(uI0 y x).2.1
def vL7 (y:wX7) (x:wM5):wM5:=(uI0 y x).2.2
instance (y:wX7) (x:wM5):Decidable (vL6 y x):=by
 unfold vL6 uI0
 try dsimp only
 infer_instance
def uI1 (y:wX7) (x:wM5):(D155 × (List Int) × Unit) :=
 let a12:=x.1
 (a12.1,a12.2.1,())
def tL0:List (Nat × Sh):=[(1,(.box T155 (.val T155))),(3,(.ref 12 T205)),(12,(.box T205 (.agg (.cons T155 (.cons (.arr 256 (.int .i64)) .nl)) (.cons (.val T155) (.cons (.val (.arr 256 (.int .i64))) .nl)))))]
def uI2:St → Option Out:=xO8 [(1,(.box T155 (.val T155))),(3,(.ref 12 T205)),(4,vI)] [(12,(.box T205 (.agg (.cons T155 (.cons (.arr 256 (.int .i64)) .nl)) (.cons (.val T155) (.cons (.val (.arr 256 (.int .i64))) .nl))))),(26,vI)] uQ0 vL7 vL6 fun y x=>[ex 4 none tL0 (y.1,y.2.1,(uI1 y x),())]
abbrev wX8:Type:=(Unit × (List D184) × Int × Unit)
abbrev wM6:Type:=((D155 × (List Int) × Unit) × Int × Unit)
def uI3 (y:wX8) (x:wM6):Prop × Bool × wM6 :=
 let a37:=y.2.1
 let a12:=x.1
 let a39:=x.2.1
 let v40:=(decide (a39 < y.2.2.1))
 let v42:=(nth a37 a39 Z184)
 ((v40 = true → (InB a39 (len a37) ∧ (InB v42.1 256 ∧ InR (a39 + 1)))),v40,((a12.1,(List.set a12.2.1 (Int.toNat v42.1) a39),()),(a39 + 1),()))
def vL8 (y:wX8) (x:wM6):Prop:=(uI3 y x).1
def uQ1 (y:wX8) (x:wM6):Bool:=(uI3 y x).2.1
def vL9 (y:wX8) (x:wM6):wM6:=(uI3 y x).2.2
instance (y:wX8) (x:wM6):Decidable (vL8 y x):=by
 unfold vL8 uI3
 try dsimp only
 infer_instance
def uI4 (y:wX8) (x:wM6):(D155 × (List Int) × Unit) :=
 let a12:=x.1
 (a12.1,a12.2.1,())
def tL1:List (Nat × Sh):=[(3,(.ref 12 T205)),(12,(.box T205 (.agg (.cons T155 (.cons (.arr 256 (.int .i64)) .nl)) (.cons (.val T155) (.cons (.val (.arr 256 (.int .i64))) .nl)))))]
def uI5:St → Option Out:=xO8 [(3,(.ref 12 T205)),(37,(.val (.sl T184))),(38,vI)] [(12,(.box T205 (.agg (.cons T155 (.cons (.arr 256 (.int .i64)) .nl)) (.cons (.val T155) (.cons (.val (.arr 256 (.int .i64))) .nl))))),(39,vI)] uQ1 vL9 vL8 fun y x=>[ex 6 none tL1 (y.1,(uI4 y x),())]
def oK0 (p0:D155):Prop × D205 :=
 let y4:=(p0,(),(p0,(List.replicate 256 (0:Int)),()),p0.2.2.2.1,(len p0.2.2.2.1),())
 let x4:=((-1:Int),(0:Int),())
 let y10:=(p0,(),(uX0 y4 (zB9 (tL y4) (vQ5 y4) x4)),())
 let x10:=((p0,(List.replicate 256 (0:Int)),()),(0:Int),())
 let r10_4_0:=(uI1 y10 (zB9 (uQ0 y10) (vL7 y10) x10))
 let y15:=((),p0.2.2.2.1,(len p0.2.2.2.1),())
 let x15:=((r10_4_0.1,r10_4_0.2.1,()),(0:Int),())
 let r15_6_0:=(uI4 y15 (zB9 (uQ1 y15) (vL9 y15) x15))
 (((Am.Ends (tL y4) (vQ5 y4) (vV6 y4) x4) ∧ ((Am.Ends (uQ0 y10) (vL7 y10) (vL6 y10) x10) ∧ (Am.Ends (uQ1 y15) (vL9 y15) (vL8 y15) x15))),(r15_6_0.1,r15_6_0.2.1,()))
def tL2 (p0:D155):Prop:=(oK0 p0).1
def f136 (p0:D155):D205:=(oK0 p0).2
instance (p0:D155):Decidable (tL2 p0):=by
 unfold tL2 oK0
 try dsimp only
 infer_instance
def sQ6:Am.Spec:=fnSpec [(0,(.val T155))] (.val (.ptr T205)) [] (fun x=>tL2 x.1) (fun x=>f136 x.1) (fun _=>())
def tC:Ctx:=Cx tys [] [(4,uX1),(10,uI2),(15,uI5)] [(39,[(3,12,0,0)])] false 53 [] []
theorem tC0:CtxOk Tryz.prog tC:=xV6 tys_ok rfl trivial rfl (by kernel_rfl)
noncomputable def tL3:Code:=Tryz.f136.body.getD .skip
noncomputable def qI5:Code:=xW5 tL3 0
theorem rY0:yU1 Tryz.prog tC qI5:=xX3 tC0 mixed (sp:=uX1) rfl [tX8] (bs:=[]) (by kernel_rfl) trivial (by kernel_rfl) (by kernel_rfl) fun y x=>by kernel_rfl
noncomputable def rN6:Code:=xW5 tL3 1
theorem rB9:yU1 Tryz.prog tC rN6:=xX3 tC0 mixed (sp:=uI2) rfl [tL0] (bs:=[]) (by kernel_rfl) trivial (by kernel_rfl) (by kernel_rfl) fun y x=>by kernel_rfl
noncomputable def rN7:Code:=xW5 tL3 2
theorem rC:yU1 Tryz.prog tC rN7:=xX3 tC0 mixed (sp:=uI5) rfl [tL1] (bs:=[]) (by kernel_rfl) trivial (by kernel_rfl) (by kernel_rfl) fun y x=>by kernel_rfl
theorem oK1:SpecOk Tryz.prog 136 sQ6:=xX4 tC0 mixed Tryz.func136 (by kernel_rfl) (bs:=[qI5,rN6,rN7]) (by kernel_rfl) ⟨rY0,rB9,rC,trivial⟩ fun x=>by kernel_rfl
abbrev wO8:Type:=(Int × D155 × D205 × (List (List D94)) × Int × Int × D94 × (List (List UInt8)) × Int × Int × (List D94) × Int × Int × (List (List D94)) × Int × Int × (List D94) × Int × Unit)
abbrev wM7:Type:=((List D94) × Int × Unit)
def uI6 (y:wO8) (x:wM7):Prop × Bool × wM7 :=
 let a2:=y.1
 let a4:=y.2.1
 let a89:=y.2.2.2.2.2.2.2.2.2.2.2.2.2.2.2.2.1
 let a24:=x.1
 let a91:=x.2.1
 let v92:=(decide (a91 < y.2.2.2.2.2.2.2.2.2.2.2.2.2.2.2.2.2.1))
 let v94:=(nth a89 a91 Z94)
 let v104:=(IntKind.wrap .i64 ((IntKind.wrap .i64 (y.2.2.2.2.2.2.1.2.1 + v94.1)) * a2))
 let v119:=(IntKind.wrap .i64 ((IntKind.wrap .i64 ((IntKind.wrap .i64 (a4.2.1 + (IntKind.wrap .i64 (y.2.2.2.2.2.1 * a4.2.2.1)))) - v94.2.1)) * a2))
 ((v92 = true → (InB a91 (len a89) ∧ ((wC9 v104 a4.1) ∧ ((wC9 v119 a4.1) ∧ (InB a91 (len a24) ∧ a91 < len a24))))),v92,((List.set a24 (Int.toNat a91) ((f97 v104 a4.1),(f97 v119 a4.1),())),(IntKind.wrap .i64 (a91 + 1)),()))
def wO9 (y:wO8) (x:wM7):Prop:=(uI6 y x).1
def wX9 (y:wO8) (x:wM7):Bool:=(uI6 y x).2.1
def wI7 (y:wO8) (x:wM7):wM7:=(uI6 y x).2.2
instance (y:wO8) (x:wM7):Decidable (wO9 y x):=by
 unfold wO9 uI6
 try dsimp only
 infer_instance
def uI7 (y:wO8) (x:wM7):(List D94) :=
 x.1
def tL4:List (Nat × Sh):=[(2,vI),(4,(.box T155 (.val T155))),(11,(.val (.ptr T205))),(12,(.own (.sl T94) 1012 false)),(13,vI),(14,vI),(19,(.box T94 (.val T94))),(24,(.own T94 1024 true)),(41,(.val (.sl .str))),(42,vI),(43,vI),(54,(.own T94 1016 false)),(55,vI),(56,vI),(74,(.own (.sl T94) 1020 false)),(75,vI),(76,vI)]
def uI8:St → Option Out:=xO8 [(2,vI),(4,(.box T155 (.val T155))),(11,(.val (.ptr T205))),(12,(.own (.sl T94) 1012 false)),(13,vI),(14,vI),(19,(.box T94 (.val T94))),(41,(.val (.sl .str))),(42,vI),(43,vI),(54,(.own T94 1016 false)),(55,vI),(56,vI),(74,(.own (.sl T94) 1020 false)),(75,vI),(76,vI),(89,(.val (.sl T94))),(90,vI)] [(24,(.own T94 1024 true)),(91,vI)] wX9 wI7 wO9 fun y x=>[ex 8 none tL4 (y.1,y.2.1,y.2.2.1,y.2.2.2.1,y.2.2.2.2.1,y.2.2.2.2.2.1,y.2.2.2.2.2.2.1,(uI7 y x),y.2.2.2.2.2.2.2.1,y.2.2.2.2.2.2.2.2.1,y.2.2.2.2.2.2.2.2.2.1,y.2.2.2.2.2.2.2.2.2.2.1,y.2.2.2.2.2.2.2.2.2.2.2.1,y.2.2.2.2.2.2.2.2.2.2.2.2.1,y.2.2.2.2.2.2.2.2.2.2.2.2.2.1,y.2.2.2.2.2.2.2.2.2.2.2.2.2.2.1,y.2.2.2.2.2.2.2.2.2.2.2.2.2.2.2.1,())]
abbrev wA2:Type:=(Int × D155 × D205 × Int × D94 × (List (List UInt8)) × Int × Int × (List D94) × Int × Int × (List (List D94)) × Int × Unit)
abbrev wB0:Type:=((List (List D94)) × Int × Int × Unit)
def wZ8 (y:wA2) (x:wB0):Prop × Bool × wB0 × Bool × Bool :=
 let a74:=y.2.2.2.2.2.2.2.2.2.2.2.1
 let a75:=y.2.2.2.2.2.2.2.2.2.2.2.2.1
 let a12:=x.1
 let a76:=x.2.2.1
 let v77:=(decide (a76 < a75))
 let v78:=(nth a74 a76 ([]:List D94))
 let v83:=(IntKind.wrap .i64 (x.2.1 + (len v78)))
 let v85:=(decide (v83 > 4096))
 let v87:=(len v78)
 let y25:=(y.1,y.2.1,y.2.2.1,a12,v83,y.2.2.2.1,y.2.2.2.2.1,y.2.2.2.2.2.1,y.2.2.2.2.2.2.1,y.2.2.2.2.2.2.2.1,y.2.2.2.2.2.2.2.2.1,y.2.2.2.2.2.2.2.2.2.1,y.2.2.2.2.2.2.2.2.2.2.1,a74,a75,a76,v78,(len v78),())
 let x25:=((List.replicate (Int.toNat v87) Z94),(0:Int),())
 let v128:=([(uI7 y25 (zB9 (wX9 y25) (wI7 y25) x25))]:List (List D94))
 ((v77 = true → (InB a76 (len a74) ∧ ((!v85) = true → ((0 ≤ v87 ∧ v87 ≤ v87 ∧ v87 ≤ 4294967296) ∧ ((Am.Ends (wX9 y25) (wI7 y25) (wO9 y25) x25) ∧ ((List.length a12 + List.length v128:Nat):Int) ≤ 4294967296))))),(v77 && (!v85)),((a12 ++ v128),v83,(IntKind.wrap .i64 (a76 + 1)),()),(v77 && v85),(!v77))
def wH1 (y:wA2) (x:wB0):Prop:=(wZ8 y x).1
def xZ6 (y:wA2) (x:wB0):Bool:=(wZ8 y x).2.1
def xY3 (y:wA2) (x:wB0):wB0:=(wZ8 y x).2.2.1
def tL5 (y:wA2) (x:wB0):Bool:=(wZ8 y x).2.2.2.1
def tL6 (y:wA2) (x:wB0):Bool:=(wZ8 y x).2.2.2.2
instance (y:wA2) (x:wB0):Decidable (wH1 y x):=by
 unfold wH1 wZ8
 try dsimp only
 infer_instance
def vM (y:wA2) (x:wB0):(List (List D94)) :=
 ([]:List (List D94))
def uI9 (y:wA2) (x:wB0):Int :=
 (3:Int)
def tL7:List (Nat × Sh):=[(8,(.own (.sl T94) 0 false)),(9,vI)]
def uJ (y:wA2) (x:wB0):(List (List D94)) :=
 x.1
def uJ0 (y:wA2) (x:wB0):Int :=
 x.2.1
def tL8:List (Nat × Sh):=[(2,vI),(4,(.box T155 (.val T155))),(11,(.val (.ptr T205))),(12,(.own (.sl T94) 1012 false)),(13,vI),(14,vI),(41,(.val (.sl .str))),(42,vI),(43,vI),(54,(.own T94 1016 false)),(55,vI),(56,vI)]
def uJ1:St → Option Out:=xO8 [(2,vI),(4,(.box T155 (.val T155))),(11,(.val (.ptr T205))),(14,vI),(19,(.box T94 (.val T94))),(41,(.val (.sl .str))),(42,vI),(43,vI),(54,(.own T94 1016 false)),(55,vI),(56,vI),(74,(.own (.sl T94) 1020 false)),(75,vI)] [(12,(.own (.sl T94) 1012 false)),(13,vI),(76,vI)] xZ6 xY3 wH1 fun y x=>[ex 1 (some (tL5 y x)) tL7 ((vM y x),(uI9 y x),()),ex 6 (some (tL6 y x)) tL8 (y.1,y.2.1,y.2.2.1,(uJ y x),(uJ0 y x),y.2.2.2.1,y.2.2.2.2.2.1,y.2.2.2.2.2.2.1,y.2.2.2.2.2.2.2.1,y.2.2.2.2.2.2.2.2.1,y.2.2.2.2.2.2.2.2.2.1,y.2.2.2.2.2.2.2.2.2.2.1,())]
abbrev xZ:Type:=(Int × D155 × D205 × Int × (List (List UInt8)) × Int × Int × (List D94) × Int × Unit)
abbrev xZ0:Type:=((List (List D94)) × Int × Int × Unit)
def vI7 (y:xZ) (x:xZ0):Prop × Bool × xZ0 × Bool × Bool :=
 let a4:=y.2.1
 let a54:=y.2.2.2.2.2.2.2.1
 let a55:=y.2.2.2.2.2.2.2.2.1
 let a56:=x.2.2.1
 let v57:=(decide (a56 < a55))
 let v58:=(nth a54 a56 Z94)
 let v65:=(nth a4.2.2.2.1 v58.1 Z184)
 let v68:=(f114 v65.2.2.1)
 let v72:=(v68.2.1 != 0)
 let y18:=(y.1,a4,y.2.2.1,y.2.2.2.1,v58,y.2.2.2.2.1,y.2.2.2.2.2.1,y.2.2.2.2.2.2.1,a54,a55,a56,v68.1,(len v68.1),())
 let x18:=(x.1,x.2.1,(0:Int),())
 let e18:=(zB9 (xZ6 y18) (xY3 y18) x18)
 ((v57 = true → (InB a56 (len a54) ∧ (InB v58.1 (len a4.2.2.2.1) ∧ ((vP3 v65.2.2.1) ∧ ((!v72) = true → (Am.Ends (xZ6 y18) (xY3 y18) (wH1 y18) x18)))))),(v57 && ((!v72) && (tL6 y18 e18))),((uJ y18 e18),(uJ0 y18 e18),(IntKind.wrap .i64 (a56 + 1)),()),(v57 && (v72 || ((!v72) && (tL5 y18 e18)))),(!v57))
def wE3 (y:xZ) (x:xZ0):Prop:=(vI7 y x).1
def wA0 (y:xZ) (x:xZ0):Bool:=(vI7 y x).2.1
def xY1 (y:xZ) (x:xZ0):xZ0:=(vI7 y x).2.2.1
def tL9 (y:xZ) (x:xZ0):Bool:=(vI7 y x).2.2.2.1
def tM (y:xZ) (x:xZ0):Bool:=(vI7 y x).2.2.2.2
instance (y:xZ) (x:xZ0):Decidable (wE3 y x):=by
 unfold wE3 vI7
 try dsimp only
 infer_instance
def vM0 (y:xZ) (x:xZ0):(List (List D94)) :=
 let a4:=y.2.1
 let a54:=y.2.2.2.2.2.2.2.1
 let a56:=x.2.2.1
 let v58:=(nth a54 a56 Z94)
 let v68:=(f114 (nth a4.2.2.2.1 v58.1 Z184).2.2.1)
 let y18:=(y.1,a4,y.2.2.1,y.2.2.2.1,v58,y.2.2.2.2.1,y.2.2.2.2.2.1,y.2.2.2.2.2.2.1,a54,y.2.2.2.2.2.2.2.2.1,a56,v68.1,(len v68.1),())
 (bif (v68.2.1 != 0) then [] else (vM y18 (zB9 (xZ6 y18) (xY3 y18) (x.1,x.2.1,(0:Int),()))))
def uJ2 (y:xZ) (x:xZ0):Int :=
 let a4:=y.2.1
 let a54:=y.2.2.2.2.2.2.2.1
 let a56:=x.2.2.1
 let v58:=(nth a54 a56 Z94)
 let v68:=(f114 (nth a4.2.2.2.1 v58.1 Z184).2.2.1)
 let y18:=(y.1,a4,y.2.2.1,y.2.2.2.1,v58,y.2.2.2.2.1,y.2.2.2.2.2.1,y.2.2.2.2.2.2.1,a54,y.2.2.2.2.2.2.2.2.1,a56,v68.1,(len v68.1),())
 (bif (v68.2.1 != 0) then v68.2.1 else (uI9 y18 (zB9 (xZ6 y18) (xY3 y18) (x.1,x.2.1,(0:Int),()))))
def tM0:List (Nat × Sh):=[(8,(.own (.sl T94) 0 false)),(9,vI)]
def uJ3 (y:xZ) (x:xZ0):(List (List D94)) :=
 x.1
def uJ4 (y:xZ) (x:xZ0):Int :=
 x.2.1
def tM1:List (Nat × Sh):=[(2,vI),(4,(.box T155 (.val T155))),(11,(.val (.ptr T205))),(12,(.own (.sl T94) 1012 false)),(13,vI),(41,(.val (.sl .str))),(42,vI),(43,vI)]
def uJ5:St → Option Out:=xO8 [(2,vI),(4,(.box T155 (.val T155))),(11,(.val (.ptr T205))),(14,vI),(41,(.val (.sl .str))),(42,vI),(43,vI),(54,(.own T94 1016 false)),(55,vI)] [(12,(.own (.sl T94) 1012 false)),(13,vI),(56,vI)] wA0 xY1 wE3 fun y x=>[ex 1 (some (tL9 y x)) tM0 ((vM0 y x),(uJ2 y x),()),ex 4 (some (tM y x)) tM1 (y.1,y.2.1,y.2.2.1,(uJ3 y x),(uJ4 y x),y.2.2.2.2.1,y.2.2.2.2.2.1,y.2.2.2.2.2.2.1,())]
abbrev wD3:Type:=(Int × D155 × D205 × (List (List UInt8)) × Int × Unit)
abbrev wA5:Type:=((List (List D94)) × Int × Int × Unit)
def vV7 (y:wD3) (x:wA5):Prop × Bool × wA5 × Bool × Bool :=
 let a11:=y.2.2.1
 let a41:=y.2.2.2.1
 let a42:=y.2.2.2.2.1
 let a43:=x.2.2.1
 let v44:=(decide (a43 < a42))
 let v46:=(nth a41 a43 ([]:List UInt8))
 let v51:=(f138 a11 v46)
 let y12:=(y.1,y.2.1,a11,a43,a41,a42,a43,v51.1,(len v51.1),())
 let x12:=(x.1,x.2.1,(0:Int),())
 let e12:=(zB9 (wA0 y12) (xY1 y12) x12)
 ((v44 = true → (InB a43 (len a41) ∧ ((vN9 a11 v46) ∧ (Am.Ends (wA0 y12) (xY1 y12) (wE3 y12) x12)))),(v44 && (tM y12 e12)),((uJ3 y12 e12),(uJ4 y12 e12),(IntKind.wrap .i64 (a43 + 1)),()),(v44 && (tL9 y12 e12)),(!v44))
def wP (y:wD3) (x:wA5):Prop:=(vV7 y x).1
def wZ9 (y:wD3) (x:wA5):Bool:=(vV7 y x).2.1
def wE (y:wD3) (x:wA5):wA5:=(vV7 y x).2.2.1
def uQ2 (y:wD3) (x:wA5):Bool:=(vV7 y x).2.2.2.1
def rY1 (y:wD3) (x:wA5):Bool:=(vV7 y x).2.2.2.2
instance (y:wD3) (x:wA5):Decidable (wP y x):=by
 unfold wP vV7
 try dsimp only
 infer_instance
def vQ6 (y:wD3) (x:wA5):(List (List D94)) :=
 let a11:=y.2.2.1
 let a41:=y.2.2.2.1
 let a43:=x.2.2.1
 let v51:=(f138 a11 (nth a41 a43 ([]:List UInt8)))
 let y12:=(y.1,y.2.1,a11,a43,a41,y.2.2.2.2.1,a43,v51.1,(len v51.1),())
 (vM0 y12 (zB9 (wA0 y12) (xY1 y12) (x.1,x.2.1,(0:Int),())))
def uX2 (y:wD3) (x:wA5):Int :=
 let a11:=y.2.2.1
 let a41:=y.2.2.2.1
 let a43:=x.2.2.1
 let v51:=(f138 a11 (nth a41 a43 ([]:List UInt8)))
 let y12:=(y.1,y.2.1,a11,a43,a41,y.2.2.2.2.1,a43,v51.1,(len v51.1),())
 (uJ2 y12 (zB9 (wA0 y12) (xY1 y12) (x.1,x.2.1,(0:Int),())))
def tX9:List (Nat × Sh):=[(8,(.own (.sl T94) 0 false)),(9,vI)]
def vQ7 (y:wD3) (x:wA5):(List (List D94)) :=
 x.1
def tY:List (Nat × Sh):=[(12,(.own (.sl T94) 1012 false))]
def uX3:St → Option Out:=xO8 [(2,vI),(4,(.box T155 (.val T155))),(11,(.val (.ptr T205))),(41,(.val (.sl .str))),(42,vI)] [(12,(.own (.sl T94) 1012 false)),(13,vI),(43,vI)] wZ9 wE wP fun y x=>[ex 1 (some (uQ2 y x)) tX9 ((vQ6 y x),(uX2 y x),()),ex 2 (some (rY1 y x)) tY ((vQ7 y x),())]
def pF1 (p0:D155) (p1:(List UInt8)) (p2:Int) (p3:Int):Prop × ((List (List D94)) × Int × Unit) :=
 let v31:=(f135 p0 p1 p2 p3)
 let v33:=(v31 != 0)
 let v36:=(f136 p0)
 let v41:=(f137 v36 p1 p2 p3)
 let y8:=(p2,p0,v36,v41,(len v41),())
 let x8:=(([]:List (List D94)),(0:Int),(0:Int),())
 let e8:=(zB9 (wZ9 y8) (wE y8) x8)
 let q8_1:=(uQ2 y8 e8)
 (((tK9 p0 p1 p2 p3) ∧ ((!v33) = true → ((tL2 p0) ∧ ((vK6 v36 p1 p2 p3) ∧ (Am.Ends (wZ9 y8) (wE y8) (wP y8) x8))))),((bif v33 then [] else (bif q8_1 then (vQ6 y8 e8) else (vQ7 y8 e8))),(bif v33 then v31 else (bif q8_1 then (uX2 y8 e8) else (0:Int))),()))
def tM2 (p0:D155) (p1:(List UInt8)) (p2:Int) (p3:Int):Prop:=(pF1 p0 p1 p2 p3).1
def f118 (p0:D155) (p1:(List UInt8)) (p2:Int) (p3:Int):((List (List D94)) × Int × Unit):=(pF1 p0 p1 p2 p3).2
instance (p0:D155) (p1:(List UInt8)) (p2:Int) (p3:Int):Decidable (tM2 p0 p1 p2 p3):=by
 unfold tM2 pF1
 try dsimp only
 infer_instance
def sQ7:Am.Spec:=fnSpec [(0,(.val T155)),(1,vS),(2,vI),(3,vI)] (.tup (.cons (.own (.sl T94) 0 false) (.cons vI .nl))) [] (fun x=>tM2 x.1 x.2.1 x.2.2.1 x.2.2.2.1) (fun x=>f118 x.1 x.2.1 x.2.2.1 x.2.2.2.1) (fun _=>())
def uJ6:Ctx:=Cx tys [(97,wL1),(114,tI2),(135,sQ5),(136,sQ6),(137,sL7),(138,tE7)] [(25,uI8),(18,uJ1),(12,uJ5),(8,uX3)] [(21,[(4,0,51,1016)]),(29,[(4,0,68,1020)]),(47,[(4,0,88,1024)]),(58,[(1,24,0,0)]),(59,[(4,0,129,1012)]),(67,[(4,0,1012,0)])] true 134 [] [88]
theorem uJ7:CtxOk Tryz.prog uJ6:=xV6 tys_ok rfl ⟨vN8,qG7,oK,oK1,oA0,qC,trivial⟩ rfl (by kernel_rfl)
noncomputable def qI6:Code:=Tryz.f118.body.getD .skip
noncomputable def rC0:Code:=xW5 qI6 0
noncomputable def sF3:Code:=xW5 rC0 0
noncomputable def sF4:Code:=xW5 sF3 0
noncomputable def rN8:Code:=xW5 sF4 0
theorem rC1:yU1 Tryz.prog uJ6 rN8:=xX3 uJ7 mixed (sp:=uI8) rfl [tL4] (bs:=[]) (by kernel_rfl) trivial (by kernel_rfl) (by kernel_rfl) fun y x=>by kernel_rfl
theorem rC2:yU1 Tryz.prog uJ6 sF4:=xX3 uJ7 mixed (sp:=uJ1) rfl [tL7,tL8] (bs:=[rN8]) (by kernel_rfl) ⟨rC1,trivial⟩ (by kernel_rfl) (by kernel_rfl) fun y x=>by kernel_rfl
theorem rC3:yU1 Tryz.prog uJ6 sF3:=xX3 uJ7 mixed (sp:=uJ5) rfl [tM0,tM1] (bs:=[sF4]) (by kernel_rfl) ⟨rC2,trivial⟩ (by kernel_rfl) (by kernel_rfl) fun y x=>by kernel_rfl
theorem rY2:yU1 Tryz.prog uJ6 rC0:=xX3 uJ7 mixed (sp:=uX3) rfl [tX9,tY] (bs:=[sF3]) (by kernel_rfl) ⟨rC3,trivial⟩ (by kernel_rfl) (by kernel_rfl) fun y x=>by kernel_rfl
theorem oK2:SpecOk Tryz.prog 118 sQ7:=xX4 uJ7 mixed Tryz.func118 (by kernel_rfl) (bs:=[rC0]) (by kernel_rfl) ⟨rY2,trivial⟩ fun x=>by kernel_rfl
def f139 (p0:List UInt8):List (List UInt8):=Lib.fields p0
def tM3 (p0:List UInt8):Prop:=(List.length p0:Int) ≤ 4294967280 ∧ (p0.all fun b=>decide (b.toNat < 128)) = true
instance (p0:List UInt8):Decidable (tM3 p0):=by
  unfold tM3
  infer_instance
def oK3:List (Nat × Sh):=[(0,(.val .str))]
def oK4:Sh:=(.val (.sl .str))
def oK5:List (Nat × Sh):=[]
def sQ8:Am.Spec:=fnSpec oK3 oK4 oK5 (fun x=>tM3 x.1) (fun x=>f139 x.1) (fun _=>())
theorem tab0:G0 = Lib.asciiSpaceTab:=by kernel_rfl
theorem oK6:SpecOk Tryz.prog 139 sQ8:=xU9 (F:=f139) (e:=9) (ok:=tM3) ⟨_,Tryz.func139,by kernel_rfl,by decide⟩ fun s w χ hok hg =>
  Any.strings_Fields_core Tryz.lays157 (by kernel_rfl) s w (by have h1:=hok.1; rw [Array.length_toList] at h1; have h2:s.data.size = s.size:=rfl; omega)
    (fun j b hj=>by have:=List.all_eq_true.1 hok.2 b (List.mem_of_getElem? hj); simpa using this)
    (fun c hc=>by
      have h1:=xV9 hg (g:=0) (n:=256) (k:=.u8) (l:=G0) (List.mem_cons_self ..) c hc
      rw [tab0,Lib.asciiSpaceTab_at c hc] at h1
      exact h1)
def oK7 (p0:(List UInt8)) (p1:Int):Prop × Int :=
 ((sC5 p0 p1),(f161 p0 p1))
def tM4 (p0:(List UInt8)) (p1:Int):Prop:=(oK7 p0 p1).1
def f140 (p0:(List UInt8)) (p1:Int):Int:=(oK7 p0 p1).2
instance (p0:(List UInt8)) (p1:Int):Decidable (tM4 p0 p1):=by
 unfold tM4 oK7
 try dsimp only
 infer_instance
def sQ9:Am.Spec:=fnSpec [(0,vS),(1,(.val (.int .u8)))] vI [] (fun x=>tM4 x.1 x.2.1) (fun x=>f140 x.1 x.2.1) (fun _=>())
def pF2:Ctx:=Cx tys [(161,sK8)] [] [] false 8 [] []
theorem pF3:CtxOk Tryz.prog pF2:=xV6 tys_ok rfl ⟨pX7,trivial⟩ rfl (by kernel_rfl)
theorem oK8:SpecOk Tryz.prog 140 sQ9:=xX4 pF3 mixed Tryz.func140 (by kernel_rfl) (bs:=[]) (by kernel_rfl) trivial fun x=>by kernel_rfl
def oK9 (p0:Int) (p1:Int) (p2:Int) (p3:Int):Prop × (List D97) :=
 let v30:=([((1:Int),([(p0,p1,()),Z94,Z94]:List D94),()),((2:Int),([(p2,p1,()),Z94,Z94]:List D94),()),((2:Int),([(p2,p3,()),Z94,Z94]:List D94),()),((2:Int),([(p0,p3,()),Z94,Z94]:List D94),()),((5:Int),(List.replicate 3 Z94),())]:List D97)
 (True,v30)
def sF5 (p0:Int) (p1:Int) (p2:Int) (p3:Int):Prop:=(oK9 p0 p1 p2 p3).1
def f162 (p0:Int) (p1:Int) (p2:Int) (p3:Int):(List D97):=(oK9 p0 p1 p2 p3).2
instance (p0:Int) (p1:Int) (p2:Int) (p3:Int):Decidable (sF5 p0 p1 p2 p3):=by
 unfold sF5 oK9
 try dsimp only
 infer_instance
def sR:Am.Spec:=fnSpec [(0,vI),(1,vI),(2,vI),(3,vI)] (.own T97 0 false) [] (fun x=>sF5 x.1 x.2.1 x.2.2.1 x.2.2.2.1) (fun x=>f162 x.1 x.2.1 x.2.2.1 x.2.2.2.1) (fun _=>())
def pF4:Ctx:=Cx tys [] [] [(3,[(4,0,30,0)])] false 31 [] []
theorem pF5:CtxOk Tryz.prog pF4:=xV6 tys_ok rfl trivial rfl (by kernel_rfl)
theorem oL:SpecOk Tryz.prog 162 sR:=xX4 pF5 mixed Tryz.func162 (by kernel_rfl) (bs:=[]) (by kernel_rfl) trivial fun x=>by kernel_rfl
abbrev vI8:Type:=(Int × Int × (List D97) × Int × Unit)
abbrev wT7:Type:=(Int × Unit)
def tC1 (y:vI8) (x:wT7):Prop × Bool × wT7 :=
 let a7:=x.1
 let v20:=(decide ((a7 + 1) < 7))
 let v24:=(a7 + 1)
 let v28:=(bif v20 then ((xX5 .i64 (xX6 y.2.1 v24 64) (1:Int)) == 1) else false)
 ((InR (a7 + 1) ∧ ((v20 = true → InR (a7 + 1)) ∧ ((v20 = true → 0 ≤ v24) ∧ (v28 = true → InR (a7 + 1))))),v28,((a7 + 1),()))
def vV8 (y:vI8) (x:wT7):Prop:=(tC1 y x).1
def tM5 (y:vI8) (x:wT7):Bool:=(tC1 y x).2.1
def vQ8 (y:vI8) (x:wT7):wT7:=(tC1 y x).2.2
instance (y:vI8) (x:wT7):Decidable (vV8 y x):=by
 unfold vV8 tC1
 try dsimp only
 infer_instance
def uX4 (y:vI8) (x:wT7):Int :=
 x.1
def tY0:List (Nat × Sh):=[(0,vI),(1,vI),(5,(.own T97 1005 false)),(6,vI),(7,vI)]
def uX5:St → Option Out:=xO8 [(0,vI),(1,vI),(5,(.own T97 1005 false)),(6,vI)] [(7,vI)] tM5 vQ8 vV8 fun y x=>[ex 4 none tY0 (y.1,y.2.1,y.2.2.1,y.2.2.2.1,(uX4 y x),())]
abbrev vI9:Type:=(Unit)
abbrev wT8:Type:=(Int × Int × (List D97) × Int × Unit)
def tC2 (y:vI9) (x:wT8):Prop × Bool × wT8 :=
 let a0:=x.1
 let a1:=x.2.1
 let a5:=x.2.2.1
 let a6:=x.2.2.2.1
 let v9:=(decide (a6 < 7))
 let v16:=((xX5 .i64 (xX6 a1 a6 64) (1:Int)) == 0)
 let y7:=(a0,a1,a5,a6,())
 let x7:=(a6,())
 let r7_4_0:=(uX4 y7 (zB9 (tM5 y7) (vQ8 y7) x7))
 let v33:=(100 * a0)
 let v35:=(100 * a6)
 let v36:=(700 - v35)
 let v38:=(100 * a0)
 let v39:=(v38 + 100)
 let v41:=(100 * r7_4_0)
 let v42:=(600 - v41)
 let v43:=(f162 v33 v36 v39 v42)
 let c:=(v16 || (!v16))
 let m6:=(bif v16 then a6 else r7_4_0)
 ((v9 = true → (0 ≤ a6 ∧ (((!v16) = true → ((Am.Ends (tM5 y7) (vQ8 y7) (vV8 y7) x7) ∧ (InR (100 * a0) ∧ (InR (100 * a6) ∧ (InR (700 - v35) ∧ (InR (100 * a0) ∧ (InR (v38 + 100) ∧ (InR (100 * r7_4_0) ∧ (InR (600 - v41) ∧ ((sF5 v33 v36 v39 v42) ∧ ((List.length a5 + List.length v43:Nat):Int) ≤ 4294967296)))))))))) ∧ (c = true → InR (m6 + 1))))),(v9 && c),((bif v16 then a0 else a0),(bif v16 then a1 else a1),(bif v16 then a5 else (a5 ++ v43)),(m6 + 1),()))
def vV9 (y:vI9) (x:wT8):Prop:=(tC2 y x).1
def tM6 (y:vI9) (x:wT8):Bool:=(tC2 y x).2.1
def vQ9 (y:vI9) (x:wT8):wT8:=(tC2 y x).2.2
instance (y:vI9) (x:wT8):Decidable (vV9 y x):=by
 unfold vV9 tC2
 try dsimp only
 infer_instance
def uX6 (y:vI9) (x:wT8):(List D97) :=
 x.2.2.1
def uX7:St → Option Out:=xO8 [] [(0,vI),(1,vI),(5,(.own T97 1005 false)),(6,vI)] tM6 vQ9 vV9 fun y x=>[ex 2 none [(5,(.own T97 1005 false))] ((uX6 y x),())]
def oL0 (p0:Int) (p1:Int):Prop × (List D97) :=
 let x3:=(p0,p1,([]:List D97),(0:Int),())
 ((Am.Ends (tM6 ()) (vQ9 ()) (vV9 ()) x3),(uX6 () (zB9 (tM6 ()) (vQ9 ()) x3)))
def sF6 (p0:Int) (p1:Int):Prop:=(oL0 p0 p1).1
def f141 (p0:Int) (p1:Int):(List D97):=(oL0 p0 p1).2
instance (p0:Int) (p1:Int):Decidable (sF6 p0 p1):=by
 unfold sF6 oL0
 try dsimp only
 infer_instance
def sR0:Am.Spec:=fnSpec [(0,vI),(1,vI)] (.own T97 0 false) [] (fun x=>sF6 x.1 x.2.1) (fun x=>f141 x.1 x.2.1) (fun _=>())
def sF7:Ctx:=Cx tys [(162,sR)] [(7,uX5),(3,uX7)] [(19,[(4,0,44,1005)]),(23,[(4,0,1005,0)])] false 47 [] []
theorem sF8:CtxOk Tryz.prog sF7:=xV6 tys_ok rfl ⟨oL,trivial⟩ rfl (by kernel_rfl)
noncomputable def qI7:Code:=Tryz.f141.body.getD .skip
noncomputable def rC4:Code:=xW5 qI7 0
noncomputable def qI8:Code:=xW5 rC4 0
theorem rY3:yU1 Tryz.prog sF7 qI8:=xX3 sF8 mixed (sp:=uX5) rfl [tY0] (bs:=[]) (by kernel_rfl) trivial (by kernel_rfl) (by kernel_rfl) fun y x=>by kernel_rfl
theorem rY4:yU1 Tryz.prog sF7 rC4:=xX3 sF8 mixed (sp:=uX7) rfl [[(5,(.own T97 1005 false))]] (bs:=[qI8]) (by kernel_rfl) ⟨rY3,trivial⟩ (by kernel_rfl) (by kernel_rfl) fun y x=>by kernel_rfl
theorem oL1:SpecOk Tryz.prog 141 sR0:=xX4 sF8 mixed Tryz.func141 (by kernel_rfl) (bs:=[rC4]) (by kernel_rfl) ⟨rY4,trivial⟩ fun x=>by kernel_rfl
abbrev wT9:Type:=((List UInt8) × (List (List UInt8)) × Int × Int × Int × Unit)
abbrev wK0:Type:=((Int × Int × Int × (List D184) × (List D189) × Unit) × (Int × Int × Int × (List D184) × (List D189) × Unit) × (Int × Int × (List D97) × Unit) × Int × Unit)
def tC3 (y:wT9) (x:wK0):Prop × Bool × wK0 :=
 let a3:=y.1
 let a0:=x.1
 let a1:=x.2.1
 let a4:=x.2.2.1
 let a22:=x.2.2.2.1
 let v23:=(decide (a22 < y.2.2.2.2.1))
 let v27:=(2 * a22)
 let v28:=(xW8 a3 v27)
 let v29:=(f140 ([48,49,50,51,52,53,54,55,56,57,97,98,99,100,101,102]:List UInt8) v28)
 let v30:=(16 * v29)
 let v33:=(2 * a22)
 let v34:=(v33 + 1)
 let v35:=(xW8 a3 v34)
 let v36:=(f140 ([48,49,50,51,52,53,54,55,56,57,97,98,99,100,101,102]:List UInt8) v35)
 let v37:=(v30 + v36)
 let v42:=(f141 a22 v37)
 ((v23 = true → (InR (2 * a22) ∧ (InB v27 (len a3) ∧ ((tM4 ([48,49,50,51,52,53,54,55,56,57,97,98,99,100,101,102]:List UInt8) v28) ∧ (InR (16 * v29) ∧ (InR (2 * a22) ∧ (InR (v33 + 1) ∧ (InB v34 (len a3) ∧ ((tM4 ([48,49,50,51,52,53,54,55,56,57,97,98,99,100,101,102]:List UInt8) v35) ∧ (InR (v30 + v36) ∧ ((sF6 a22 v37) ∧ (((List.length a4.2.2.1 + List.length v42:Nat):Int) ≤ 4294967296 ∧ InR (a22 + 1))))))))))))),v23,((a0.1,a0.2.1,a0.2.2.1,a0.2.2.2.1,a0.2.2.2.2.1,()),(a1.1,a1.2.1,a1.2.2.1,a1.2.2.2.1,a1.2.2.2.2.1,()),(a4.1,a4.2.1,(a4.2.2.1 ++ v42),()),(a22 + 1),()))
def vW (y:wT9) (x:wK0):Prop:=(tC3 y x).1
def tM7 (y:wT9) (x:wK0):Bool:=(tC3 y x).2.1
def vR (y:wT9) (x:wK0):wK0:=(tC3 y x).2.2
instance (y:wT9) (x:wK0):Decidable (vW y x):=by
 unfold vW tC3
 try dsimp only
 infer_instance
def uX8 (y:wT9) (x:wK0):(Int × Int × Int × (List D184) × (List D189) × Unit) :=
 let a0:=x.1
 (a0.1,a0.2.1,a0.2.2.1,a0.2.2.2.1,a0.2.2.2.2.1,())
def uX9 (y:wT9) (x:wK0):(Int × Int × Int × (List D184) × (List D189) × Unit) :=
 let a1:=x.2.1
 (a1.1,a1.2.1,a1.2.2.1,a1.2.2.2.1,a1.2.2.2.2.1,())
def uY (y:wT9) (x:wK0):(Int × Int × (List D97) × Unit) :=
 let a4:=x.2.2.1
 (a4.1,a4.2.1,a4.2.2.1,())
def tY1:List (Nat × Sh):=[(0,(.box T155 (.agg (.cons (.int .i64) (.cons (.int .i64) (.cons (.int .i64) (.cons (.sl T184) (.cons (.sl T189) .nl))))) (.cons vI (.cons vI (.cons vI (.cons (.own T184 400000 false) (.cons (.own T189 400001 false) .nl)))))))),(1,(.box T155 (.agg (.cons (.int .i64) (.cons (.int .i64) (.cons (.int .i64) (.cons (.sl T184) (.cons (.sl T189) .nl))))) (.cons vI (.cons vI (.cons vI (.cons (.own T184 400100 false) (.cons (.own T189 400101 false) .nl)))))))),(4,(.box T184 (.agg (.cons (.int .u8) (.cons (.int .i64) (.cons (.sl T97) .nl))) (.cons (.val (.int .u8)) (.cons vI (.cons (.own T97 400400 false) .nl)))))),(8,(.val (.sl .str))),(9,vI),(10,vI)]
def uY0:St → Option Out:=xO8 [(3,vS),(8,(.val (.sl .str))),(9,vI),(10,vI),(21,vI)] [(0,(.box T155 (.agg (.cons (.int .i64) (.cons (.int .i64) (.cons (.int .i64) (.cons (.sl T184) (.cons (.sl T189) .nl))))) (.cons vI (.cons vI (.cons vI (.cons (.own T184 400000 false) (.cons (.own T189 400001 false) .nl)))))))),(1,(.box T155 (.agg (.cons (.int .i64) (.cons (.int .i64) (.cons (.int .i64) (.cons (.sl T184) (.cons (.sl T189) .nl))))) (.cons vI (.cons vI (.cons vI (.cons (.own T184 400100 false) (.cons (.own T189 400101 false) .nl)))))))),(4,(.box T184 (.agg (.cons (.int .u8) (.cons (.int .i64) (.cons (.sl T97) .nl))) (.cons (.val (.int .u8)) (.cons vI (.cons (.own T97 400400 false) .nl)))))),(22,vI)] tM7 vR vW fun y x=>[ex 4 none tY1 ((uX8 y x),(uX9 y x),(uY y x),y.2.1,y.2.2.1,y.2.2.2.1,())]
abbrev vA:Type:=((List (List UInt8)) × Int × Unit)
abbrev wN6:Type:=((Int × Int × Int × (List D184) × (List D189) × Unit) × (Int × Int × Int × (List D184) × (List D189) × Unit) × Int × Unit)
def tC4 (y:vA) (x:wN6):Prop × Bool × wN6 :=
 let a8:=y.1
 let a9:=y.2.1
 let a0:=x.1
 let a1:=x.2.1
 let a10:=x.2.2.1
 let v11:=(decide (a10 < a9))
 let v13:=(nth a8 a10 ([]:List UInt8))
 let v20:=(len v13)
 let y7:=(v13,a8,a9,a10,(Int.tdiv v20 (2:Int)),())
 let x7:=((a0.1,a0.2.1,a0.2.2.1,a0.2.2.2.1,a0.2.2.2.2.1,()),(a1.1,a1.2.1,a1.2.2.1,a1.2.2.2.1,a1.2.2.2.2.1,()),((IntKind.wrap .u8 (32 + a10)),(600:Int),([]:List D97),()),(0:Int),())
 let e7:=(zB9 (tM7 y7) (vR y7) x7)
 let r7_4_0:=(uX8 y7 e7)
 let r7_4_1:=(uX9 y7 e7)
 let r7_4_2:=(uY y7 e7)
 let v49:=([(r7_4_2.1,r7_4_2.2.1,r7_4_2.2.2.1,())]:List D184)
 ((v11 = true → (InB a10 (len a8) ∧ (InR (32 + a10) ∧ (InR (Int.tdiv v20 (2:Int)) ∧ ((Am.Ends (tM7 y7) (vR y7) (vW y7) x7) ∧ (((List.length r7_4_1.2.2.2.1 + List.length v49:Nat):Int) ≤ 4294967296 ∧ InR (a10 + 1))))))),v11,((r7_4_0.1,r7_4_0.2.1,r7_4_0.2.2.1,r7_4_0.2.2.2.1,r7_4_0.2.2.2.2.1,()),(r7_4_1.1,r7_4_1.2.1,r7_4_1.2.2.1,(r7_4_1.2.2.2.1 ++ v49),r7_4_1.2.2.2.2.1,()),(a10 + 1),()))
def vW0 (y:vA) (x:wN6):Prop:=(tC4 y x).1
def tM8 (y:vA) (x:wN6):Bool:=(tC4 y x).2.1
def vR0 (y:vA) (x:wN6):wN6:=(tC4 y x).2.2
instance (y:vA) (x:wN6):Decidable (vW0 y x):=by
 unfold vW0 tC4
 try dsimp only
 infer_instance
def sR1 (y:vA) (x:wN6):(Int × Int × Int × (List D184) × (List D189) × Unit) :=
 let a0:=x.1
 (a0.1,a0.2.1,a0.2.2.1,a0.2.2.2.1,a0.2.2.2.2.1,())
def uY1 (y:vA) (x:wN6):(Int × Int × Int × (List D184) × (List D189) × Unit) :=
 let a1:=x.2.1
 (a1.1,a1.2.1,a1.2.2.1,a1.2.2.2.1,a1.2.2.2.2.1,())
def tY2:List (Nat × Sh):=[(0,(.box T155 (.agg (.cons (.int .i64) (.cons (.int .i64) (.cons (.int .i64) (.cons (.sl T184) (.cons (.sl T189) .nl))))) (.cons vI (.cons vI (.cons vI (.cons (.own T184 400000 false) (.cons (.own T189 400001 false) .nl)))))))),(1,(.box T155 (.agg (.cons (.int .i64) (.cons (.int .i64) (.cons (.int .i64) (.cons (.sl T184) (.cons (.sl T189) .nl))))) (.cons vI (.cons vI (.cons vI (.cons (.own T184 400100 false) (.cons (.own T189 400101 false) .nl))))))))]
def uY2:St → Option Out:=xO8 [(8,(.val (.sl .str))),(9,vI)] [(0,(.box T155 (.agg (.cons (.int .i64) (.cons (.int .i64) (.cons (.int .i64) (.cons (.sl T184) (.cons (.sl T189) .nl))))) (.cons vI (.cons vI (.cons vI (.cons (.own T184 400000 false) (.cons (.own T189 400001 false) .nl)))))))),(1,(.box T155 (.agg (.cons (.int .i64) (.cons (.int .i64) (.cons (.int .i64) (.cons (.sl T184) (.cons (.sl T189) .nl))))) (.cons vI (.cons vI (.cons vI (.cons (.own T184 400100 false) (.cons (.own T189 400101 false) .nl)))))))),(10,vI)] tM8 vR0 vW0 fun y x=>[ex 2 none tY2 ((sR1 y x),(uY1 y x),())]
def oL2 :Prop × D155 :=
 let v8:=(f139 lit0)
 let y3:=(v8,(len v8),())
 let x3:=(((0:Int),(0:Int),(0:Int),([]:List D184),([]:List D189),()),((1000:Int),(800:Int),(1200:Int),([]:List D184),([]:List D189),()),(0:Int),())
 let r3_2_1:=(uY1 y3 (zB9 (tM8 y3) (vR0 y3) x3))
 let s_6:=(r3_2_1.1,r3_2_1.2.1,r3_2_1.2.2.1,r3_2_1.2.2.2.1,([((65:Int),(86:Int),(-100:Int),()),((76:Int),(84:Int),(-100:Int),()),((84:Int),(97:Int),(-100:Int),()),((86:Int),(65:Int),(-100:Int),())]:List D189),())
 (((tM3 lit0) ∧ (Am.Ends (tM8 y3) (vR0 y3) (vW0 y3) x3)),s_6)
def tM9 :Prop:=(oL2).1
def f119 :D155:=(oL2).2
instance :Decidable (tM9):=by
 unfold tM9 oL2
 try dsimp only
 infer_instance
def sR2:Am.Spec:=fnSpec [] (.val T155) [] (fun x=>tM9 ) (fun x=>f119 ) (fun _=>())
def sF9:Ctx:=Cx tys [(139,sQ8),(140,sQ9),(141,sR0)] [(7,uY0),(3,uY2)] [(21,[(4,0,43,400400)]),(25,[(4,0,50,400100)]),(29,[(4,0,57,400101)]),(31,[(4,0,400100,400000),(4,0,400101,400001)])] false 60 [] []
theorem sG:CtxOk Tryz.prog sF9:=xV6 tys_ok rfl ⟨oK6,oK8,oL1,trivial⟩ rfl (by kernel_rfl)
noncomputable def qI9:Code:=Tryz.f119.body.getD .skip
noncomputable def rC5:Code:=xW5 qI9 0
noncomputable def qJ:Code:=xW5 rC5 0
theorem rY5:yU1 Tryz.prog sF9 qJ:=xX3 sG mixed (sp:=uY0) rfl [tY1] (bs:=[]) (by kernel_rfl) trivial (by kernel_rfl) (by kernel_rfl) fun y x=>by kernel_rfl
theorem rY6:yU1 Tryz.prog sF9 rC5:=xX3 sG mixed (sp:=uY2) rfl [tY2] (bs:=[qJ]) (by kernel_rfl) ⟨rY5,trivial⟩ (by kernel_rfl) (by kernel_rfl) fun y x=>by kernel_rfl
theorem oL3:SpecOk Tryz.prog 119 sR2:=xX4 sG mixed Tryz.func119 (by kernel_rfl) (bs:=[rC5]) (by kernel_rfl) ⟨rY6,trivial⟩ fun x=>by kernel_rfl
end Go.Proofs.YtigpekbhmpfcoaaGreatDoor.Am
