/- Printed by program, part 4. No condition. -/
import Derived.Test.YtpanghcojpnkaaaGreatDoorDocP3
set_option linter.unusedVariables false
set_option synthInstance.maxSize 4000
set_option synthInstance.maxHeartbeats 400000
namespace Go.Proofs.YtpanghcojpnkaaaGreatDoor.Am
open Go Go.Am Go.Proofs
abbrev vM1:Type:=(D40×D40×Unit)
abbrev wW3:Type:=(Int×Unit)
def tS6 (y:vM1)(x:wW3):Prop×Bool×wW3×Bool×Bool:=
 let a2:=y.1
 let a3:=y.2.1
 let a5:=x.1
 let v31:=(decide (a5<(len a2.2.2.1)))
 let v44:=(!(Ty.eqb T42 (nth a2.2.2.1 a5 Z42) (nth a3.2.2.1 a5 Z42)))
 ((v31=true→(InB a5 (len a2.2.2.1)∧(InB a5 (len a3.2.2.1)∧((!v44)=true→InR (a5+1))))),(v31&&(!v44)),((a5+1),()),(v31&&v44),(!v31))
def tS7 (y:vM1)(x:wW3):Prop:=(tS6 y x).1
def vM2 (y:vM1)(x:wW3):Bool:=(tS6 y x).2.1
def wM3 (y:vM1)(x:wW3):wW3:=(tS6 y x).2.2.1
def tS8 (y:vM1)(x:wW3):Bool:=(tS6 y x).2.2.2.1
instance (y:vM1)(x:wW3):Decidable (tS7 y x):=by
 unfold tS7 tS6
 try dsimp only
 infer_instance
def rG3 (y:vM1)(x:wW3):Bool:=
 false
def f98t (p0:D40)(p1:D40):Prop×Bool:=
 let v26:=(bif (bif (p0.1 !=p1.1) then true else (p0.2.1 !=p1.2.1)) then true else ((len p0.2.2.1)!=(len p1.2.2.1)))
 let y4:=(p0,p1,())
 let x4:=((0:Int),())
 let e4:=(zC1 (vM2 y4) (wM3 y4) x4)
 (((!v26)=true→(Am.Ends (vM2 y4) (wM3 y4) (tS7 y4) x4)),(bif v26 then false else (bif (tS8 y4 e4) then (rG3 y4 e4) else true)))
def qT (p0:D40)(p1:D40):Prop:=(f98t p0 p1).1
def f98 (p0:D40)(p1:D40):Bool:=(f98t p0 p1).2
instance (p0:D40)(p1:D40):Decidable (qT p0 p1):=by
 unfold qT f98t
 try dsimp only
 infer_instance
abbrev vM3:Type:=((List D122)×(List D122)×Unit)
abbrev wW4:Type:=(Int×Unit)
def tS9 (y:vM3)(x:wW4):Prop×Bool×wW4×Bool×Bool:=
 let a0:=y.1
 let a1:=y.2.1
 let a5:=x.1
 let v14:=(decide (a5<(len a0)))
 let v25:=(!(Ty.eqb T122 (nth a0 a5 Z122) (nth a1 a5 Z122)))
 ((v14=true→(InB a5 (len a0)∧(InB a5 (len a1)∧((!v25)=true→InR (a5+1))))),(v14&&(!v25)),((a5+1),()),(v14&&v25),(!v14))
def tT (y:vM3)(x:wW4):Prop:=(tS9 y x).1
def sH4 (y:vM3)(x:wW4):Bool:=(tS9 y x).2.1
def uC8 (y:vM3)(x:wW4):wW4:=(tS9 y x).2.2.1
def qT0 (y:vM3)(x:wW4):Bool:=(tS9 y x).2.2.2.1
instance (y:vM3)(x:wW4):Decidable (tT y x):=by
 unfold tT tS9
 try dsimp only
 infer_instance
def rG4 (y:vM3)(x:wW4):Bool:=
 false
def f99t (p0:List D122)(p1:List D122):Prop×Bool:=
 let v10:=((len p0)!=(len p1))
 let y4:=(p0,p1,())
 let x4:=((0:Int),())
 let e4:=(zC1 (sH4 y4) (uC8 y4) x4)
 (((!v10)=true→(Am.Ends (sH4 y4) (uC8 y4) (tT y4) x4)),(bif v10 then false else (bif (qT0 y4 e4) then (rG4 y4 e4) else true)))
def qT1 (p0:List D122)(p1:List D122):Prop:=(f99t p0 p1).1
def f99 (p0:List D122)(p1:List D122):Bool:=(f99t p0 p1).2
instance (p0:List D122)(p1:List D122):Decidable (qT1 p0 p1):=by
 unfold qT1 f99t
 try dsimp only
 infer_instance
abbrev vA5:Type:=((List D128)×(List D128)×Unit)
abbrev wO4:Type:=(Int×Unit)
def uL9 (y:vA5)(x:wO4):Prop×Bool×wO4×Bool×Bool:=
 let a0:=y.1
 let a1:=y.2.1
 let a5:=x.1
 let v14:=(decide (a5<(len a0)))
 let v25:=(!(Ty.eqb T128 (nth a0 a5 Z128) (nth a1 a5 Z128)))
 ((v14=true→(InB a5 (len a0)∧(InB a5 (len a1)∧((!v25)=true→InR (a5+1))))),(v14&&(!v25)),((a5+1),()),(v14&&v25),(!v14))
def uQ (y:vA5)(x:wO4):Prop:=(uL9 y x).1
def tT0 (y:vA5)(x:wO4):Bool:=(uL9 y x).2.1
def vS5 (y:vA5)(x:wO4):wO4:=(uL9 y x).2.2.1
def qB (y:vA5)(x:wO4):Bool:=(uL9 y x).2.2.2.1
instance (y:vA5)(x:wO4):Decidable (uQ y x):=by
 unfold uQ uL9
 try dsimp only
 infer_instance
def sW5 (y:vA5)(x:wO4):Bool:=
 false
def oW4 (p0:List D128)(p1:List D128):Prop×Bool:=
 let v10:=((len p0)!=(len p1))
 let y4:=(p0,p1,())
 let x4:=((0:Int),())
 let e4:=(zC1 (tT0 y4) (vS5 y4) x4)
 (((!v10)=true→(Am.Ends (tT0 y4) (vS5 y4) (uQ y4) x4)),(bif v10 then false else (bif (qB y4 e4) then (sW5 y4 e4) else true)))
def rG5 (p0:List D128)(p1:List D128):Prop:=(oW4 p0 p1).1
def f100 (p0:List D128)(p1:List D128):Bool:=(oW4 p0 p1).2
instance (p0:List D128)(p1:List D128):Decidable (rG5 p0 p1):=by
 unfold rG5 oW4
 try dsimp only
 infer_instance
abbrev vA6:Type:=(D47×D47×Unit)
abbrev wO5:Type:=(Int×Unit)
def uM (y:vA6)(x:wO5):Prop×Bool×wO5×Bool×Bool:=
 let a2:=y.1
 let a3:=y.2.1
 let a5:=x.1
 let v38:=(decide (a5<(len a2.2.2.2.1)))
 let v51:=(!(Ty.eqb T125 (nth a2.2.2.2.1 a5 Z125) (nth a3.2.2.2.1 a5 Z125)))
 ((v38=true→(InB a5 (len a2.2.2.2.1)∧(InB a5 (len a3.2.2.2.1)∧((!v51)=true→InR (a5+1))))),(v38&&(!v51)),((a5+1),()),(v38&&v51),(!v38))
def uQ0 (y:vA6)(x:wO5):Prop:=(uM y x).1
def vA7 (y:vA6)(x:wO5):Bool:=(uM y x).2.1
def wI6 (y:vA6)(x:wO5):wO5:=(uM y x).2.2.1
def uQ1 (y:vA6)(x:wO5):Bool:=(uM y x).2.2.2.1
instance (y:vA6)(x:wO5):Decidable (uQ0 y x):=by
 unfold uQ0 uM
 try dsimp only
 infer_instance
def sW6 (y:vA6)(x:wO5):Bool:=
 false
def oW5 (p0:D47)(p1:D47):Prop×Bool:=
 let v33:=(bif (bif (bif (p0.1 !=p1.1) then true else (p0.2.1 !=p1.2.1)) then true else (p0.2.2.1 !=p1.2.2.1)) then true else ((len p0.2.2.2.1)!=(len p1.2.2.2.1)))
 let y4:=(p0,p1,())
 let x4:=((0:Int),())
 let e4:=(zC1 (vA7 y4) (wI6 y4) x4)
 (((!v33)=true→(Am.Ends (vA7 y4) (wI6 y4) (uQ0 y4) x4)),(bif v33 then false else (bif (uQ1 y4 e4) then (sW6 y4 e4) else true)))
def rG6 (p0:D47)(p1:D47):Prop:=(oW5 p0 p1).1
def f101 (p0:D47)(p1:D47):Bool:=(oW5 p0 p1).2
instance (p0:D47)(p1:D47):Decidable (rG6 p0 p1):=by
 unfold rG6 oW5
 try dsimp only
 infer_instance
def f74t (p0:D49)(p1:D49):Prop×Bool:=
 let v23:=(bif (bif (f98 p0.2.2.2.2.2.2.2.2.2.2.2.2.1 p1.2.2.2.2.2.2.2.2.2.2.2.2.1) then (Ty.eqb T42 p0.2.2.2.2.2.2.2.2.2.2.2.2.2.1 p1.2.2.2.2.2.2.2.2.2.2.2.2.2.1) else false) then (p0.2.2.2.2.2.2.2.2.2.2.2.2.2.2.1==p1.2.2.2.2.2.2.2.2.2.2.2.2.2.2.1) else false)
 let v37:=(bif (bif v23 then (f97 p0.2.2.2.2.2.2.2.2.2.2.2.2.2.2.2.1 p1.2.2.2.2.2.2.2.2.2.2.2.2.2.2.2.1) else false) then (p0.2.2.2.2.2.2.2.2.2.2.2.2.2.2.2.2.1==p1.2.2.2.2.2.2.2.2.2.2.2.2.2.2.2.2.1) else false)
 let v44:=(bif v37 then (f99 p0.2.2.2.2.2.2.2.2.2.2.2.2.2.2.2.2.2.1 p1.2.2.2.2.2.2.2.2.2.2.2.2.2.2.2.2.2.1) else false)
 let v58:=(bif (bif v44 then (f100 p0.2.2.2.2.2.2.2.2.2.2.2.2.2.2.2.2.2.2.1 p1.2.2.2.2.2.2.2.2.2.2.2.2.2.2.2.2.2.2.1) else false) then (p0.2.2.2.2.2.2.2.2.2.2.2.2.2.2.2.2.2.2.2.1==p1.2.2.2.2.2.2.2.2.2.2.2.2.2.2.2.2.2.2.2.1) else false)
 let v72:=(bif (bif v58 then (p0.2.2.2.2.2.2.2.2.2.2.2.2.2.2.2.2.2.2.2.2.1==p1.2.2.2.2.2.2.2.2.2.2.2.2.2.2.2.2.2.2.2.2.1) else false) then (p0.2.2.2.2.2.2.2.2.2.2.2.2.2.2.2.2.2.2.2.2.2.1==p1.2.2.2.2.2.2.2.2.2.2.2.2.2.2.2.2.2.2.2.2.2.1) else false)
 let v86:=(bif (bif v72 then (p0.2.2.2.2.2.2.2.2.2.2.2.2.2.2.2.2.2.2.2.2.2.2.1==p1.2.2.2.2.2.2.2.2.2.2.2.2.2.2.2.2.2.2.2.2.2.2.1) else false) then (p0.2.2.2.2.2.2.2.2.2.2.2.2.2.2.2.2.2.2.2.2.2.2.2.1==p1.2.2.2.2.2.2.2.2.2.2.2.2.2.2.2.2.2.2.2.2.2.2.2.1) else false)
 let v100:=(bif (bif v86 then (p0.2.2.2.2.2.2.2.2.2.2.2.2.2.2.2.2.2.2.2.2.2.2.2.2.1==p1.2.2.2.2.2.2.2.2.2.2.2.2.2.2.2.2.2.2.2.2.2.2.2.2.1) else false) then (p0.2.2.2.2.2.2.2.2.2.2.2.2.2.2.2.2.2.2.2.2.2.2.2.2.2.1==p1.2.2.2.2.2.2.2.2.2.2.2.2.2.2.2.2.2.2.2.2.2.2.2.2.2.1) else false)
 let v107:=(bif v100 then (p0.2.2.2.2.2.2.2.2.2.2.2.2.2.2.2.2.2.2.2.2.2.2.2.2.2.2.1==p1.2.2.2.2.2.2.2.2.2.2.2.2.2.2.2.2.2.2.2.2.2.2.2.2.2.2.1) else false)
 (((qT p0.2.2.2.2.2.2.2.2.2.2.2.2.1 p1.2.2.2.2.2.2.2.2.2.2.2.2.1)∧((v23=true→(rS5 p0.2.2.2.2.2.2.2.2.2.2.2.2.2.2.2.1 p1.2.2.2.2.2.2.2.2.2.2.2.2.2.2.2.1))∧((v37=true→(qT1 p0.2.2.2.2.2.2.2.2.2.2.2.2.2.2.2.2.2.1 p1.2.2.2.2.2.2.2.2.2.2.2.2.2.2.2.2.2.1))∧((v44=true→(rG5 p0.2.2.2.2.2.2.2.2.2.2.2.2.2.2.2.2.2.2.1 p1.2.2.2.2.2.2.2.2.2.2.2.2.2.2.2.2.2.2.1))∧(v107=true→(rG6 p0.2.2.2.2.2.2.2.2.2.2.2.2.2.2.2.2.2.2.2.2.2.2.2.2.2.2.2.1 p1.2.2.2.2.2.2.2.2.2.2.2.2.2.2.2.2.2.2.2.2.2.2.2.2.2.2.2.1)))))),(bif v107 then (f101 p0.2.2.2.2.2.2.2.2.2.2.2.2.2.2.2.2.2.2.2.2.2.2.2.2.2.2.2.1 p1.2.2.2.2.2.2.2.2.2.2.2.2.2.2.2.2.2.2.2.2.2.2.2.2.2.2.2.1) else false))
def qT2 (p0:D49)(p1:D49):Prop:=(f74t p0 p1).1
def f74 (p0:D49)(p1:D49):Bool:=(f74t p0 p1).2
instance (p0:D49)(p1:D49):Decidable (qT2 p0 p1):=by
 unfold qT2 f74t
 try dsimp only
 infer_instance
def f49t (p0:D49)(p1:D49):Prop×Bool:=
 let v37:=(bif (bif (bif (bif (p0.1==p1.1) then (p0.2.1==p1.2.1) else false) then (p0.2.2.1==p1.2.2.1) else false) then (p0.2.2.2.1==p1.2.2.2.1) else false) then (Ty.eqb .bool p0.2.2.2.2.1 p1.2.2.2.2.1) else false)
 let v58:=(bif (bif (bif v37 then (Ty.eqb .bool p0.2.2.2.2.2.1 p1.2.2.2.2.2.1) else false) then (Ty.eqb .bool p0.2.2.2.2.2.2.1 p1.2.2.2.2.2.2.1) else false) then (p0.2.2.2.2.2.2.2.1==p1.2.2.2.2.2.2.2.1) else false)
 let v65:=(bif v58 then (p0.2.2.2.2.2.2.2.2.1==p1.2.2.2.2.2.2.2.2.1) else false)
 let v86:=(bif (bif (bif v65 then (f73 p0.2.2.2.2.2.2.2.2.2.1 p1.2.2.2.2.2.2.2.2.2.1) else false) then (Ty.eqb T37 p0.2.2.2.2.2.2.2.2.2.2.1 p1.2.2.2.2.2.2.2.2.2.2.1) else false) then (p0.2.2.2.2.2.2.2.2.2.2.2.1==p1.2.2.2.2.2.2.2.2.2.2.2.1) else false)
 (((v65=true→(qS9 p0.2.2.2.2.2.2.2.2.2.1 p1.2.2.2.2.2.2.2.2.2.1))∧(v86=true→(qT2 p0 p1))),(bif v86 then (f74 p0 p1) else false))
def pY8 (p0:D49)(p1:D49):Prop:=(f49t p0 p1).1
def f49 (p0:D49)(p1:D49):Bool:=(f49t p0 p1).2
instance (p0:D49)(p1:D49):Decidable (pY8 p0 p1):=by
 unfold pY8 f49t
 try dsimp only
 infer_instance
end Go.Proofs.YtpanghcojpnkaaaGreatDoor.Am
