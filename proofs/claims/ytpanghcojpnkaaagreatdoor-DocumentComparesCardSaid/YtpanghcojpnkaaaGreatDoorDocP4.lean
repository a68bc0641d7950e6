/- Printed by program, part 4. No condition. -/
import Derived.Test.YtpanghcojpnkaaaGreatDoorDocP3
set_option linter.unusedVariables false
set_option synthInstance.maxSize 4000
set_option synthInstance.maxHeartbeats 400000
namespace Go.Proofs.YtpanghcojpnkaaaGreatDoor.Am
open Go Go.Am Go.Proofs
abbrev wV1:Type:=((List D122) × (List D122) × Unit)
abbrev wK4:Type:=(Int × Unit)
def uI7 (y:wV1) (x:wK4):Prop × Bool × wK4 × Bool × Bool :=
 let a0:=y.1
 let a1:=y.2.1
 let a5:=x.1
 let v14:=(decide (a5 < (len a0)))
 let v25:=(!(Ty.eqb T122 (nth a0 a5 Z122) (nth a1 a5 Z122)))
 ((v14 = true → (InB a5 (len a0) ∧ (InB a5 (len a1) ∧ ((!v25) = true → InR (a5 + 1))))),(v14 && (!v25)),((a5 + 1),()),(v14 && v25),(!v14))
def uE8 (y:wV1) (x:wK4):Prop:=(uI7 y x).1
def uE9 (y:wV1) (x:wK4):Bool:=(uI7 y x).2.1
def wR5 (y:wV1) (x:wK4):wK4:=(uI7 y x).2.2.1
def sS0 (y:wV1) (x:wK4):Bool:=(uI7 y x).2.2.2.1
def qO4 (y:wV1) (x:wK4):Bool:=(uI7 y x).2.2.2.2
instance (y:wV1) (x:wK4):Decidable (uE8 y x):=by
 unfold uE8 uI7
 try dsimp only
 infer_instance
def tM0 (y:wV1) (x:wK4):Bool :=
 false
def tM1:St → Option Out:=xP4 [(0,(.val (.sl T122))),(1,(.val (.sl T122)))] [(5,vI)] uE9 wR5 uE8 fun y x=>[ex 1 (some (sS0 y x)) [(4,vB)] ((tM0 y x),()),ex 2 (some (qO4 y x)) [] ()]
def f99t (p0:(List D122)) (p1:(List D122)):Prop × Bool :=
 let v10:=((len p0) != (len p1))
 let y4:=(p0,p1,())
 let x4:=((0:Int),())
 let e4:=(zC1 (uE9 y4) (wR5 y4) x4)
 (((!v10) = true → (Am.Ends (uE9 y4) (wR5 y4) (uE8 y4) x4)),(bif v10 then false else (bif (sS0 y4 e4) then (tM0 y4 e4) else true)))
def sS1 (p0:(List D122)) (p1:(List D122)):Prop:=(f99t p0 p1).1
def f99 (p0:(List D122)) (p1:(List D122)):Bool:=(f99t p0 p1).2
instance (p0:(List D122)) (p1:(List D122)):Decidable (sS1 p0 p1):=by
 unfold sS1 f99t
 try dsimp only
 infer_instance
def rO4:Am.Spec:=fnSpec [(0,(.val (.sl T122))),(1,(.val (.sl T122)))] vB [] (fun x=>sS1 x.1 x.2.1) (fun x=>f99 x.1 x.2.1) (fun _=>())
def qO5:Ctx:=Cx tys [] [(4,tM1)] [] false 26 [] []
theorem qO6:CtxOk Tryz.prog qO5:=xW4 tys_ok rfl trivial rfl (by kernel_rfl)
noncomputable def pF6:Code:=Tryz.f99.body.getD .skip
noncomputable def pL9:Code:=xX3 pF6 0
theorem qO7:yV Tryz.prog qO5 pL9:=xY2 qO6 mixed (sp:=tM1) rfl [[(4,vB)],[]] (bs:=[]) (by kernel_rfl) trivial (by kernel_rfl) (by kernel_rfl) fun y x=>by kernel_rfl
theorem oU3:SpecOk Tryz.prog 99 rO4:=xY3 qO6 mixed Tryz.func99 (by kernel_rfl) (bs:=[pL9]) (by kernel_rfl) ⟨qO7,trivial⟩ fun x=>by kernel_rfl
abbrev wN6:Type:=((List D128) × (List D128) × Unit)
abbrev wF6:Type:=(Int × Unit)
def vO (y:wN6) (x:wF6):Prop × Bool × wF6 × Bool × Bool :=
 let a0:=y.1
 let a1:=y.2.1
 let a5:=x.1
 let v14:=(decide (a5 < (len a0)))
 let v25:=(!(Ty.eqb T128 (nth a0 a5 Z128) (nth a1 a5 Z128)))
 ((v14 = true → (InB a5 (len a0) ∧ (InB a5 (len a1) ∧ ((!v25) = true → InR (a5 + 1))))),(v14 && (!v25)),((a5 + 1),()),(v14 && v25),(!v14))
def vO0 (y:wN6) (x:wF6):Prop:=(vO y x).1
def vH2 (y:wN6) (x:wF6):Bool:=(vO y x).2.1
def wN7 (y:wN6) (x:wF6):wF6:=(vO y x).2.2.1
def tU (y:wN6) (x:wF6):Bool:=(vO y x).2.2.2.1
def rV3 (y:wN6) (x:wF6):Bool:=(vO y x).2.2.2.2
instance (y:wN6) (x:wF6):Decidable (vO0 y x):=by
 unfold vO0 vO
 try dsimp only
 infer_instance
def uS1 (y:wN6) (x:wF6):Bool :=
 false
def uS2:St → Option Out:=xP4 [(0,(.val (.sl T128))),(1,(.val (.sl T128)))] [(5,vI)] vH2 wN7 vO0 fun y x=>[ex 1 (some (tU y x)) [(4,vB)] ((uS1 y x),()),ex 2 (some (rV3 y x)) [] ()]
def oK7 (p0:(List D128)) (p1:(List D128)):Prop × Bool :=
 let v10:=((len p0) != (len p1))
 let y4:=(p0,p1,())
 let x4:=((0:Int),())
 let e4:=(zC1 (vH2 y4) (wN7 y4) x4)
 (((!v10) = true → (Am.Ends (vH2 y4) (wN7 y4) (vO0 y4) x4)),(bif v10 then false else (bif (tU y4 e4) then (uS1 y4 e4) else true)))
def tM2 (p0:(List D128)) (p1:(List D128)):Prop:=(oK7 p0 p1).1
def f100 (p0:(List D128)) (p1:(List D128)):Bool:=(oK7 p0 p1).2
instance (p0:(List D128)) (p1:(List D128)):Decidable (tM2 p0 p1):=by
 unfold tM2 oK7
 try dsimp only
 infer_instance
def sS2:Am.Spec:=fnSpec [(0,(.val (.sl T128))),(1,(.val (.sl T128)))] vB [] (fun x=>tM2 x.1 x.2.1) (fun x=>f100 x.1 x.2.1) (fun _=>())
def rO5:Ctx:=Cx tys [] [(4,uS2)] [] false 26 [] []
theorem rO6:CtxOk Tryz.prog rO5:=xW4 tys_ok rfl trivial rfl (by kernel_rfl)
noncomputable def qO8:Code:=Tryz.f100.body.getD .skip
noncomputable def qO9:Code:=xX3 qO8 0
theorem rV4:yV Tryz.prog rO5 qO9:=xY2 rO6 mixed (sp:=uS2) rfl [[(4,vB)],[]] (bs:=[]) (by kernel_rfl) trivial (by kernel_rfl) (by kernel_rfl) fun y x=>by kernel_rfl
theorem oK8:SpecOk Tryz.prog 100 sS2:=xY3 rO6 mixed Tryz.func100 (by kernel_rfl) (bs:=[qO9]) (by kernel_rfl) ⟨rV4,trivial⟩ fun x=>by kernel_rfl
abbrev wN8:Type:=(D47 × D47 × Unit)
abbrev wF7:Type:=(Int × Unit)
def vO1 (y:wN8) (x:wF7):Prop × Bool × wF7 × Bool × Bool :=
 let a2:=y.1
 let a3:=y.2.1
 let a5:=x.1
 let v38:=(decide (a5 < (len a2.2.2.2.1)))
 let v51:=(!(Ty.eqb T125 (nth a2.2.2.2.1 a5 Z125) (nth a3.2.2.2.1 a5 Z125)))
 ((v38 = true → (InB a5 (len a2.2.2.2.1) ∧ (InB a5 (len a3.2.2.2.1) ∧ ((!v51) = true → InR (a5 + 1))))),(v38 && (!v51)),((a5 + 1),()),(v38 && v51),(!v38))
def vO2 (y:wN8) (x:wF7):Prop:=(vO1 y x).1
def wH9 (y:wN8) (x:wF7):Bool:=(vO1 y x).2.1
def wA (y:wN8) (x:wF7):wF7:=(vO1 y x).2.2.1
def vO3 (y:wN8) (x:wF7):Bool:=(vO1 y x).2.2.2.1
def rV5 (y:wN8) (x:wF7):Bool:=(vO1 y x).2.2.2.2
instance (y:wN8) (x:wF7):Decidable (vO2 y x):=by
 unfold vO2 vO1
 try dsimp only
 infer_instance
def uS3 (y:wN8) (x:wF7):Bool :=
 false
def uS4:St → Option Out:=xP4 [(2,(.box T47 (.val T47))),(3,(.box T47 (.val T47)))] [(5,vI)] wH9 wA vO2 fun y x=>[ex 1 (some (vO3 y x)) [(4,vB)] ((uS3 y x),()),ex 2 (some (rV5 y x)) [] ()]
def oK9 (p0:D47) (p1:D47):Prop × Bool :=
 let v33:=(bif (bif (bif (p0.1 != p1.1) then true else (p0.2.1 != p1.2.1)) then true else (p0.2.2.1 != p1.2.2.1)) then true else ((len p0.2.2.2.1) != (len p1.2.2.2.1)))
 let y4:=(p0,p1,())
 let x4:=((0:Int),())
 let e4:=(zC1 (wH9 y4) (wA y4) x4)
 (((!v33) = true → (Am.Ends (wH9 y4) (wA y4) (vO2 y4) x4)),(bif v33 then false else (bif (vO3 y4 e4) then (uS3 y4 e4) else true)))
def tM3 (p0:D47) (p1:D47):Prop:=(oK9 p0 p1).1
def f101 (p0:D47) (p1:D47):Bool:=(oK9 p0 p1).2
instance (p0:D47) (p1:D47):Decidable (tM3 p0 p1):=by
 unfold tM3 oK9
 try dsimp only
 infer_instance
def sS3:Am.Spec:=fnSpec [(0,(.val T47)),(1,(.val T47))] vB [] (fun x=>tM3 x.1 x.2.1) (fun x=>f101 x.1 x.2.1) (fun _=>())
def rO7:Ctx:=Cx tys [] [(4,uS4)] [] false 52 [] []
theorem rO8:CtxOk Tryz.prog rO7:=xW4 tys_ok rfl trivial rfl (by kernel_rfl)
noncomputable def qP:Code:=Tryz.f101.body.getD .skip
noncomputable def qP0:Code:=xX3 qP 0
theorem rV6:yV Tryz.prog rO7 qP0:=xY2 rO8 mixed (sp:=uS4) rfl [[(4,vB)],[]] (bs:=[]) (by kernel_rfl) trivial (by kernel_rfl) (by kernel_rfl) fun y x=>by kernel_rfl
theorem oL:SpecOk Tryz.prog 101 sS3:=xY3 rO8 mixed Tryz.func101 (by kernel_rfl) (bs:=[qP0]) (by kernel_rfl) ⟨rV6,trivial⟩ fun x=>by kernel_rfl
def f74t (p0:D49) (p1:D49):Prop × Bool :=
 let v23:=(bif (bif (f98 p0.2.2.2.2.2.2.2.2.2.2.2.2.1 p1.2.2.2.2.2.2.2.2.2.2.2.2.1) then (Ty.eqb T42 p0.2.2.2.2.2.2.2.2.2.2.2.2.2.1 p1.2.2.2.2.2.2.2.2.2.2.2.2.2.1) else false) then (p0.2.2.2.2.2.2.2.2.2.2.2.2.2.2.1 == p1.2.2.2.2.2.2.2.2.2.2.2.2.2.2.1) else false)
 let v37:=(bif (bif v23 then (f97 p0.2.2.2.2.2.2.2.2.2.2.2.2.2.2.2.1 p1.2.2.2.2.2.2.2.2.2.2.2.2.2.2.2.1) else false) then (p0.2.2.2.2.2.2.2.2.2.2.2.2.2.2.2.2.1 == p1.2.2.2.2.2.2.2.2.2.2.2.2.2.2.2.2.1) else false)
 let v44:=(bif v37 then (f99 p0.2.2.2.2.2.2.2.2.2.2.2.2.2.2.2.2.2.1 p1.2.2.2.2.2.2.2.2.2.2.2.2.2.2.2.2.2.1) else false)
 let v58:=(bif (bif v44 then (f100 p0.2.2.2.2.2.2.2.2.2.2.2.2.2.2.2.2.2.2.1 p1.2.2.2.2.2.2.2.2.2.2.2.2.2.2.2.2.2.2.1) else false) then (p0.2.2.2.2.2.2.2.2.2.2.2.2.2.2.2.2.2.2.2.1 == p1.2.2.2.2.2.2.2.2.2.2.2.2.2.2.2.2.2.2.2.1) else false)
 let v72:=(bif (bif v58 then (p0.2.2.2.2.2.2.2.2.2.2.2.2.2.2.2.2.2.2.2.2.1 == p1.2.2.2.2.2.2.2.2.2.2.2.2.2.2.2.2.2.2.2.2.1) else false) then (p0.2.2.2.2.2.2.2.2.2.2.2.2.2.2.2.2.2.2.2.2.2.1 == p1.2.2.2.2.2.2.2.2.2.2.2.2.2.2.2.2.2.2.2.2.2.1) else false)
 let v86:=(bif (bif v72 then (p0.2.2.2.2.2.2.2.2.2.2.2.2.2.2.2.2.2.2.2.2.2.2.1 == p1.2.2.2.2.2.2.2.2.2.2.2.2.2.2.2.2.2.2.2.2.2.2.1) else false) then (p0.2.2.2.2.2.2.2.2.2.2.2.2.2.2.2.2.2.2.2.2.2.2.2.1 == p1.2.2.2.2.2.2.2.2.2.2.2.2.2.2.2.2.2.2.2.2.2.2.2.1) else false)
 let v100:=(bif (bif v86 then (p0.2.2.2.2.2.2.2.2.2.2.2.2.2.2.2.2.2.2.2.2.2.2.2.2.1 == p1.2.2.2.2.2.2.2.2.2.2.2.2.2.2.2.2.2.2.2.2.2.2.2.2.1) else false) then (p0.2.2.2.2.2.2.2.2.2.2.2.2.2.2.2.2.2.2.2.2.2.2.2.2.2.1 == p1.2.2.2.2.2.2.2.2.2.2.2.2.2.2.2.2.2.2.2.2.2.2.2.2.2.1) else false)
 let v107:=(bif v100 then (p0.2.2.2.2.2.2.2.2.2.2.2.2.2.2.2.2.2.2.2.2.2.2.2.2.2.2.1 == p1.2.2.2.2.2.2.2.2.2.2.2.2.2.2.2.2.2.2.2.2.2.2.2.2.2.2.1) else false)
 (((sS p0.2.2.2.2.2.2.2.2.2.2.2.2.1 p1.2.2.2.2.2.2.2.2.2.2.2.2.1) ∧ ((v23 = true → (tT9 p0.2.2.2.2.2.2.2.2.2.2.2.2.2.2.2.1 p1.2.2.2.2.2.2.2.2.2.2.2.2.2.2.2.1)) ∧ ((v37 = true → (sS1 p0.2.2.2.2.2.2.2.2.2.2.2.2.2.2.2.2.2.1 p1.2.2.2.2.2.2.2.2.2.2.2.2.2.2.2.2.2.1)) ∧ ((v44 = true → (tM2 p0.2.2.2.2.2.2.2.2.2.2.2.2.2.2.2.2.2.2.1 p1.2.2.2.2.2.2.2.2.2.2.2.2.2.2.2.2.2.2.1)) ∧ (v107 = true → (tM3 p0.2.2.2.2.2.2.2.2.2.2.2.2.2.2.2.2.2.2.2.2.2.2.2.2.2.2.2.1 p1.2.2.2.2.2.2.2.2.2.2.2.2.2.2.2.2.2.2.2.2.2.2.2.2.2.2.2.1)))))),(bif v107 then (f101 p0.2.2.2.2.2.2.2.2.2.2.2.2.2.2.2.2.2.2.2.2.2.2.2.2.2.2.2.1 p1.2.2.2.2.2.2.2.2.2.2.2.2.2.2.2.2.2.2.2.2.2.2.2.2.2.2.2.1) else false))
def sS4 (p0:D49) (p1:D49):Prop:=(f74t p0 p1).1
def f74 (p0:D49) (p1:D49):Bool:=(f74t p0 p1).2
instance (p0:D49) (p1:D49):Decidable (sS4 p0 p1):=by
 unfold sS4 f74t
 try dsimp only
 infer_instance
def rO9:Am.Spec:=fnSpec [(0,(.val T49)),(1,(.val T49))] vB [] (fun x=>sS4 x.1 x.2.1) (fun x=>f74 x.1 x.2.1) (fun _=>())
def oL0:Ctx:=Cx tys [(97,sE7),(98,rO3),(99,rO4),(100,sS2),(101,sS3)] [] [] false 115 [] []
theorem oL1:CtxOk Tryz.prog oL0:=xW4 tys_ok rfl ⟨pL7,oU2,oU3,oK8,oL,trivial⟩ rfl (by kernel_rfl)
theorem oU4:SpecOk Tryz.prog 74 rO9:=xY3 oL1 mixed Tryz.func74 (by kernel_rfl) (bs:=[]) (by kernel_rfl) trivial fun x=>by kernel_rfl
def f49t (p0:D49) (p1:D49):Prop × Bool :=
 let v37:=(bif (bif (bif (bif (p0.1 == p1.1) then (p0.2.1 == p1.2.1) else false) then (p0.2.2.1 == p1.2.2.1) else false) then (p0.2.2.2.1 == p1.2.2.2.1) else false) then (Ty.eqb .bool p0.2.2.2.2.1 p1.2.2.2.2.1) else false)
 let v58:=(bif (bif (bif v37 then (Ty.eqb .bool p0.2.2.2.2.2.1 p1.2.2.2.2.2.1) else false) then (Ty.eqb .bool p0.2.2.2.2.2.2.1 p1.2.2.2.2.2.2.1) else false) then (p0.2.2.2.2.2.2.2.1 == p1.2.2.2.2.2.2.2.1) else false)
 let v65:=(bif v58 then (p0.2.2.2.2.2.2.2.2.1 == p1.2.2.2.2.2.2.2.2.1) else false)
 let v86:=(bif (bif (bif v65 then (f73 p0.2.2.2.2.2.2.2.2.2.1 p1.2.2.2.2.2.2.2.2.2.1) else false) then (Ty.eqb T37 p0.2.2.2.2.2.2.2.2.2.2.1 p1.2.2.2.2.2.2.2.2.2.2.1) else false) then (p0.2.2.2.2.2.2.2.2.2.2.2.1 == p1.2.2.2.2.2.2.2.2.2.2.2.1) else false)
 (((v65 = true → (sR9 p0.2.2.2.2.2.2.2.2.2.1 p1.2.2.2.2.2.2.2.2.2.1)) ∧ (v86 = true → (sS4 p0 p1))),(bif v86 then (f74 p0 p1) else false))
def tU0 (p0:D49) (p1:D49):Prop:=(f49t p0 p1).1
def f49 (p0:D49) (p1:D49):Bool:=(f49t p0 p1).2
instance (p0:D49) (p1:D49):Decidable (tU0 p0 p1):=by
 unfold tU0 f49t
 try dsimp only
 infer_instance
def rP:Am.Spec:=fnSpec [(0,(.val T49)),(1,(.val T49))] vB [] (fun x=>tU0 x.1 x.2.1) (fun x=>f49 x.1 x.2.1) (fun _=>())
def oL2:Ctx:=Cx tys [(73,rO2),(74,rO9)] [] [] false 92 [] []
theorem oL3:CtxOk Tryz.prog oL2:=xW4 tys_ok rfl ⟨oU1,oU4,trivial⟩ rfl (by kernel_rfl)
theorem oU5:SpecOk Tryz.prog 49 rP:=xY3 oL3 mixed Tryz.func49 (by kernel_rfl) (bs:=[]) (by kernel_rfl) trivial fun x=>by kernel_rfl
abbrev wV2:Type:=(D40 × D40 × Unit)
abbrev wK5:Type:=(Int × Unit)
def uI8 (y:wV2) (x:wK5):Prop × Bool × wK5 × Bool × Bool :=
 let a2:=y.1
 let a3:=y.2.1
 let a5:=x.1
 let v31:=(decide (a5 < (len a2.2.2.1)))
 let v44:=(!(Ty.eqb T42 (nth a2.2.2.1 a5 Z42) (nth a3.2.2.1 a5 Z42)))
 ((v31 = true → (InB a5 (len a2.2.2.1) ∧ (InB a5 (len a3.2.2.1) ∧ ((!v44) = true → InR (a5 + 1))))),(v31 && (!v44)),((a5 + 1),()),(v31 && v44),(!v31))
def uF (y:wV2) (x:wK5):Prop:=(uI8 y x).1
def wP1 (y:wV2) (x:wK5):Bool:=(uI8 y x).2.1
def wB2 (y:wV2) (x:wK5):wK5:=(uI8 y x).2.2.1
def uF0 (y:wV2) (x:wK5):Bool:=(uI8 y x).2.2.2.1
def qP1 (y:wV2) (x:wK5):Bool:=(uI8 y x).2.2.2.2
instance (y:wV2) (x:wK5):Decidable (uF y x):=by
 unfold uF uI8
 try dsimp only
 infer_instance
def tM4 (y:wV2) (x:wK5):Bool :=
 false
def tM5:St → Option Out:=xP4 [(2,(.box T40 (.val T40))),(3,(.box T40 (.val T40)))] [(5,vI)] wP1 wB2 uF fun y x=>[ex 1 (some (uF0 y x)) [(4,vB)] ((tM4 y x),()),ex 2 (some (qP1 y x)) [] ()]
def f50t (p0:D40) (p1:D40):Prop × Bool :=
 let v26:=(bif (bif (p0.1 != p1.1) then true else (p0.2.1 != p1.2.1)) then true else ((len p0.2.2.1) != (len p1.2.2.1)))
 let y4:=(p0,p1,())
 let x4:=((0:Int),())
 let e4:=(zC1 (wP1 y4) (wB2 y4) x4)
 (((!v26) = true → (Am.Ends (wP1 y4) (wB2 y4) (uF y4) x4)),(bif v26 then false else (bif (uF0 y4 e4) then (tM4 y4 e4) else true)))
def sS5 (p0:D40) (p1:D40):Prop:=(f50t p0 p1).1
def f50 (p0:D40) (p1:D40):Bool:=(f50t p0 p1).2
instance (p0:D40) (p1:D40):Decidable (sS5 p0 p1):=by
 unfold sS5 f50t
 try dsimp only
 infer_instance
def rP0:Am.Spec:=fnSpec [(0,(.val T40)),(1,(.val T40))] vB [] (fun x=>sS5 x.1 x.2.1) (fun x=>f50 x.1 x.2.1) (fun _=>())
def qP2:Ctx:=Cx tys [] [(4,tM5)] [] false 45 [] []
theorem qP3:CtxOk Tryz.prog qP2:=xW4 tys_ok rfl trivial rfl (by kernel_rfl)
noncomputable def pF7:Code:=Tryz.f50.body.getD .skip
noncomputable def pM:Code:=xX3 pF7 0
theorem qP4:yV Tryz.prog qP2 pM:=xY2 qP3 mixed (sp:=tM5) rfl [[(4,vB)],[]] (bs:=[]) (by kernel_rfl) trivial (by kernel_rfl) (by kernel_rfl) fun y x=>by kernel_rfl
theorem oU6:SpecOk Tryz.prog 50 rP0:=xY3 qP3 mixed Tryz.func50 (by kernel_rfl) (bs:=[pM]) (by kernel_rfl) ⟨qP4,trivial⟩ fun x=>by kernel_rfl
abbrev wV3:Type:=(D28 × D28 × Int × Unit)
abbrev wK6:Type:=(Int × Unit)
def uI9 (y:wV3) (x:wK6):Prop × Bool × wK6 × Bool × Bool :=
 let a2:=y.1
 let a3:=y.2.1
 let a74:=x.1
 let v75:=(decide (a74 < y.2.2.1))
 let v80:=(nth a2.2.2.2.1 a74 Z49)
 let v85:=(nth a3.2.2.2.1 a74 Z49)
 let v88:=(!(f49 v80 v85))
 ((v75 = true → (InB a74 (len a2.2.2.2.1) ∧ (InB a74 (len a3.2.2.2.1) ∧ ((tU0 v80 v85) ∧ ((!v88) = true → InR (a74 + 1)))))),(v75 && (!v88)),((a74 + 1),()),(v75 && v88),(!v75))
def uF1 (y:wV3) (x:wK6):Prop:=(uI9 y x).1
def vO4 (y:wV3) (x:wK6):Bool:=(uI9 y x).2.1
def wI2 (y:wV3) (x:wK6):wK6:=(uI9 y x).2.2.1
def tM6 (y:wV3) (x:wK6):Bool:=(uI9 y x).2.2.2.1
def sS6 (y:wV3) (x:wK6):Bool:=(uI9 y x).2.2.2.2
instance (y:wV3) (x:wK6):Decidable (uF1 y x):=by
 unfold uF1 uI9
 try dsimp only
 infer_instance
def vU2 (y:wV3) (x:wK6):Bool :=
 false
def sS7:List (Nat × Sh):=[(2,(.box T28 (.val T28))),(3,(.box T28 (.val T28)))]
def tM7:St → Option Out:=xP4 [(2,(.box T28 (.val T28))),(3,(.box T28 (.val T28))),(73,vI)] [(74,vI)] vO4 wI2 uF1 fun y x=>[ex 1 (some (tM6 y x)) [(4,vB)] ((vU2 y x),()),ex 2 (some (sS6 y x)) sS7 (y.1,y.2.1,())]
abbrev wN9:Type:=(D28 × D28 × Int × Unit)
abbrev wF8:Type:=(Int × Unit)
def vO5 (y:wN9) (x:wF8):Prop × Bool × wF8 × Bool × Bool :=
 let a2:=y.1
 let a3:=y.2.1
 let a93:=x.1
 let v94:=(decide (a93 < y.2.2.1))
 let v106:=(!(Ty.eqb T87 (nth a2.2.2.2.2.2.2.1 a93 Z87) (nth a3.2.2.2.2.2.2.1 a93 Z87)))
 ((v94 = true → (InB a93 (len a2.2.2.2.2.2.2.1) ∧ (InB a93 (len a3.2.2.2.2.2.2.1) ∧ ((!v106) = true → InR (a93 + 1))))),(v94 && (!v106)),((a93 + 1),()),(v94 && v106),(!v94))
def vO6 (y:wN9) (x:wF8):Prop:=(vO5 y x).1
def wY9 (y:wN9) (x:wF8):Bool:=(vO5 y x).2.1
def wH0 (y:wN9) (x:wF8):wF8:=(vO5 y x).2.2.1
def uJ (y:wN9) (x:wF8):Bool:=(vO5 y x).2.2.2.1
def tU1 (y:wN9) (x:wF8):Bool:=(vO5 y x).2.2.2.2
instance (y:wN9) (x:wF8):Decidable (vO6 y x):=by
 unfold vO6 vO5
 try dsimp only
 infer_instance
def vH3 (y:wN9) (x:wF8):Bool :=
 false
def tU2:List (Nat × Sh):=[(2,(.box T28 (.val T28))),(3,(.box T28 (.val T28)))]
def uS5:St → Option Out:=xP4 [(2,(.box T28 (.val T28))),(3,(.box T28 (.val T28))),(92,vI)] [(93,vI)] wY9 wH0 vO6 fun y x=>[ex 1 (some (uJ y x)) [(4,vB)] ((vH3 y x),()),ex 4 (some (tU1 y x)) tU2 (y.1,y.2.1,())]
abbrev wO:Type:=(D28 × D28 × Int × Unit)
abbrev wF9:Type:=(Int × Unit)
def vO7 (y:wO) (x:wF9):Prop × Bool × wF9 × Bool × Bool :=
 let a2:=y.1
 let a3:=y.2.1
 let a111:=x.1
 let v112:=(decide (a111 < y.2.2.1))
 let v117:=(nth a2.2.2.2.2.2.2.2.1 a111 Z90)
 let v122:=(nth a3.2.2.2.2.2.2.2.1 a111 Z90)
 let v149:=(bif (bif (bif (v117.1 != v122.1) then true else (!(v117.2.1 == v122.2.1))) then true else (v117.2.2.1 != v122.2.2.1)) then true else (v117.2.2.2.1 != v122.2.2.2.1))
 let v157:=(bif v149 then true else (!(f50 v117.2.2.2.2.1 v122.2.2.2.2.1)))
 ((v112 = true → (InB a111 (len a2.2.2.2.2.2.2.2.1) ∧ (InB a111 (len a3.2.2.2.2.2.2.2.1) ∧ (((!v149) = true → (sS5 v117.2.2.2.2.1 v122.2.2.2.2.1)) ∧ ((!v157) = true → InR (a111 + 1)))))),(v112 && (!v157)),((a111 + 1),()),(v112 && v157),(!v112))
def vO8 (y:wO) (x:wF9):Prop:=(vO7 y x).1
def wZ (y:wO) (x:wF9):Bool:=(vO7 y x).2.1
def wH1 (y:wO) (x:wF9):wF9:=(vO7 y x).2.2.1
def uJ0 (y:wO) (x:wF9):Bool:=(vO7 y x).2.2.2.1
def rV7 (y:wO) (x:wF9):Bool:=(vO7 y x).2.2.2.2
instance (y:wO) (x:wF9):Decidable (vO8 y x):=by
 unfold vO8 vO7
 try dsimp only
 infer_instance
def vH4 (y:wO) (x:wF9):Bool :=
 false
def uS6:St → Option Out:=xP4 [(2,(.box T28 (.val T28))),(3,(.box T28 (.val T28))),(110,vI)] [(111,vI)] wZ wH1 vO8 fun y x=>[ex 1 (some (uJ0 y x)) [(4,vB)] ((vH4 y x),()),ex 6 (some (rV7 y x)) [] ()]
def f19t (p0:D28) (p1:D28):Prop × Bool :=
 let v44:=(bif (bif (bif (bif (p0.1 != p1.1) then true else (p0.2.1 != p1.2.1)) then true else (p0.2.2.1 != p1.2.2.1)) then true else (p0.2.2.2.2.1 != p1.2.2.2.2.1)) then true else ((len p0.2.2.2.1) != (len p1.2.2.2.1)))
 let v62:=(bif (bif v44 then true else ((len p0.2.2.2.2.2.2.1) != (len p1.2.2.2.2.2.2.1))) then true else ((len p0.2.2.2.2.2.2.2.1) != (len p1.2.2.2.2.2.2.2.1)))
 let v70:=(bif v62 then true else (!(f48 p0.2.2.2.2.2.1 p1.2.2.2.2.2.1)))
 let y4:=(p0,p1,(len p0.2.2.2.1),())
 let x4:=((0:Int),())
 let e4:=(zC1 (vO4 y4) (wI2 y4) x4)
 let y10:=(p0,p1,(len p0.2.2.2.2.2.2.1),())
 let x10:=((0:Int),())
 let e10:=(zC1 (wY9 y10) (wH0 y10) x10)
 let y16:=(p0,p1,(len p0.2.2.2.2.2.2.2.1),())
 let x16:=((0:Int),())
 let e16:=(zC1 (wZ y16) (wH1 y16) x16)
 let m4_3:=(bif v70 then false else (bif (tM6 y4 e4) then (vU2 y4 e4) else (bif (uJ y10 e10) then (vH3 y10 e10) else (bif (uJ0 y16 e16) then (vH4 y16 e16) else true))))
 ((((!v62) = true → (sR7 p0.2.2.2.2.2.1 p1.2.2.2.2.2.1)) ∧ ((!v70) = true → ((Am.Ends (vO4 y4) (wI2 y4) (uF1 y4) x4) ∧ ((sS6 y4 e4) = true → ((Am.Ends (wY9 y10) (wH0 y10) (vO6 y10) x10) ∧ ((tU1 y10 e10) = true → (Am.Ends (wZ y16) (wH1 y16) (vO8 y16) x16))))))),m4_3)
def sS8 (p0:D28) (p1:D28):Prop:=(f19t p0 p1).1
def f19 (p0:D28) (p1:D28):Bool:=(f19t p0 p1).2
instance (p0:D28) (p1:D28):Decidable (sS8 p0 p1):=by
 unfold sS8 f19t
 try dsimp only
 infer_instance
def rP1:Am.Spec:=fnSpec [(0,(.val T28)),(1,(.val T28))] vB [] (fun x=>sS8 x.1 x.2.1) (fun x=>f19 x.1 x.2.1) (fun _=>())
def sE8:Ctx:=Cx tys [(48,rO1),(49,rP),(50,rP0)] [(4,tM7),(10,uS5),(16,uS6)] [] false 159 [] []
theorem sE9:CtxOk Tryz.prog sE8:=xW4 tys_ok rfl ⟨oU0,oU5,oU6,trivial⟩ rfl (by kernel_rfl)
noncomputable def sF:Code:=Tryz.f19.body.getD .skip
noncomputable def pM0:Code:=xX3 sF 0
theorem qP5:yV Tryz.prog sE8 pM0:=xY2 sE9 mixed (sp:=tM7) rfl [[(4,vB)],sS7] (bs:=[]) (by kernel_rfl) trivial (by kernel_rfl) (by kernel_rfl) fun y x=>by kernel_rfl
noncomputable def qP6:Code:=xX3 sF 1
theorem rV8:yV Tryz.prog sE8 qP6:=xY2 sE9 mixed (sp:=uS5) rfl [[(4,vB)],tU2] (bs:=[]) (by kernel_rfl) trivial (by kernel_rfl) (by kernel_rfl) fun y x=>by kernel_rfl
noncomputable def qP7:Code:=xX3 sF 2
theorem rV9:yV Tryz.prog sE8 qP7:=xY2 sE9 mixed (sp:=uS6) rfl [[(4,vB)],[]] (bs:=[]) (by kernel_rfl) trivial (by kernel_rfl) (by kernel_rfl) fun y x=>by kernel_rfl
theorem oU7:SpecOk Tryz.prog 19 rP1:=xY3 sE9 mixed Tryz.func19 (by kernel_rfl) (bs:=[pM0,qP6,qP7]) (by kernel_rfl) ⟨qP5,rV8,rV9,trivial⟩ fun x=>by kernel_rfl
def f5t (p0:D28) (p1:D28):Prop × Bool :=
 let v11:=(Ty.eqb .bool (f18 p0 p1) (f19 p0 p1))
 let v16:=(bif v11 then (f18 p0 p0) else false)
 (((tT8 p0 p1) ∧ ((sS8 p0 p1) ∧ ((v11 = true → (tT8 p0 p0)) ∧ (v16 = true → sP9)))),(bif v16 then f10 else false))
def f5_ok (p0:D28) (p1:D28):Prop:=(f5t p0 p1).1
def f5 (p0:D28) (p1:D28):Bool:=(f5t p0 p1).2
instance (p0:D28) (p1:D28):Decidable (f5_ok p0 p1):=by
 unfold f5_ok f5t
 try dsimp only
 infer_instance
def oL4:Am.Spec:=fnSpec [(0,(.val T28)),(1,(.val T28))] vB [] (fun x=>f5_ok x.1 x.2.1) (fun x=>f5 x.1 x.2.1) (fun _=>())
def oU8:Ctx:=Cx tys [(10,rN0),(18,rO0),(19,rP1)] [] [] false 20 [] []
theorem oU9:CtxOk Tryz.prog oU8:=xW4 tys_ok rfl ⟨oT1,oU,oU7,trivial⟩ rfl (by kernel_rfl)
theorem f5_is:SpecOk Tryz.prog 5 oL4:=xY3 oU9 mixed Tryz.func5 (by kernel_rfl) (bs:=[]) (by kernel_rfl) trivial fun x=>by kernel_rfl
end Go.Proofs.YtpanghcojpnkaaaGreatDoor.Am
