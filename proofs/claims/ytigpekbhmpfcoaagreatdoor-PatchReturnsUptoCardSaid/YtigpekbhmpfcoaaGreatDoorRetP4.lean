/- Printed by program, part 4. No condition. -/
import Derived.Test.YtigpekbhmpfcoaaGreatDoorRetP3
set_option linter.unusedVariables false
set_option synthInstance.maxSize 4000
set_option synthInstance.maxHeartbeats 400000
namespace Go.Proofs.YtigpekbhmpfcoaaGreatDoor.Am
open Go Go.Am Go.Proofs
abbrev vE9:Type:=(D28 × D28 × Int × Unit)
abbrev wS:Type:=(Int × Unit)
def uS2 (y:vE9) (x:wS):Prop × Bool × wS × Bool × Bool :=
 let a2:=y.1
 let a3:=y.2.1
 let a74:=x.1
 let v75:=(decide (a74 < y.2.2.1))
 let v80:=(nth a2.2.2.2.1 a74 Z57)
 let v85:=(nth a3.2.2.2.1 a74 Z57)
 let v88:=(!(f27 v80 v85))
 ((v75 = true → (InB a74 (len a2.2.2.2.1) ∧ (InB a74 (len a3.2.2.2.1) ∧ ((sB3 v80 v85) ∧ ((!v88) = true → InR (a74 + 1)))))),(v75 && (!v88)),((a74 + 1),()),(v75 && v88),(!v75))
def uN9 (y:vE9) (x:wS):Prop:=(uS2 y x).1
def vY (y:vE9) (x:wS):Bool:=(uS2 y x).2.1
def wP7 (y:vE9) (x:wS):wS:=(uS2 y x).2.2.1
def tT8 (y:vE9) (x:wS):Bool:=(uS2 y x).2.2.2.1
def sY0 (y:vE9) (x:wS):Bool:=(uS2 y x).2.2.2.2
instance (y:vE9) (x:wS):Decidable (uN9 y x):=by
 unfold uN9 uS2
 try dsimp only
 infer_instance
def uC7 (y:vE9) (x:wS):Bool :=
 false
def sY1:List (Nat × Sh):=[(2,(.box T28 (.val T28))),(3,(.box T28 (.val T28)))]
def tT9:St → Option Out:=xO8 [(2,(.box T28 (.val T28))),(3,(.box T28 (.val T28))),(73,vI)] [(74,vI)] vY wP7 uN9 fun y x=>[ex 1 (some (tT8 y x)) [(4,vB)] ((uC7 y x),()),ex 2 (some (sY0 y x)) sY1 (y.1,y.2.1,())]
abbrev wU8:Type:=(D28 × D28 × Int × Unit)
abbrev wL:Type:=(Int × Unit)
def vY0 (y:wU8) (x:wL):Prop × Bool × wL × Bool × Bool :=
 let a2:=y.1
 let a3:=y.2.1
 let a93:=x.1
 let v94:=(decide (a93 < y.2.2.1))
 let v106:=(!(Ty.eqb T66 (nth a2.2.2.2.2.2.2.1 a93 Z66) (nth a3.2.2.2.2.2.2.1 a93 Z66)))
 ((v94 = true → (InB a93 (len a2.2.2.2.2.2.2.1) ∧ (InB a93 (len a3.2.2.2.2.2.2.1) ∧ ((!v106) = true → InR (a93 + 1))))),(v94 && (!v106)),((a93 + 1),()),(v94 && v106),(!v94))
def vY1 (y:wU8) (x:wL):Prop:=(vY0 y x).1
def vK (y:wU8) (x:wL):Bool:=(vY0 y x).2.1
def wN0 (y:wU8) (x:wL):wL:=(vY0 y x).2.2.1
def uS3 (y:wU8) (x:wL):Bool:=(vY0 y x).2.2.2.1
def sB4 (y:wU8) (x:wL):Bool:=(vY0 y x).2.2.2.2
instance (y:wU8) (x:wL):Decidable (vY1 y x):=by
 unfold vY1 vY0
 try dsimp only
 infer_instance
def vT0 (y:wU8) (x:wL):Bool :=
 false
def sB5:List (Nat × Sh):=[(2,(.box T28 (.val T28))),(3,(.box T28 (.val T28)))]
def tA5:St → Option Out:=xO8 [(2,(.box T28 (.val T28))),(3,(.box T28 (.val T28))),(92,vI)] [(93,vI)] vK wN0 vY1 fun y x=>[ex 1 (some (uS3 y x)) [(4,vB)] ((vT0 y x),()),ex 4 (some (sB4 y x)) sB5 (y.1,y.2.1,())]
abbrev wU9:Type:=(D28 × D28 × Int × Unit)
abbrev wL0:Type:=(Int × Unit)
def vY2 (y:wU9) (x:wL0):Prop × Bool × wL0 × Bool × Bool :=
 let a2:=y.1
 let a3:=y.2.1
 let a111:=x.1
 let v112:=(decide (a111 < y.2.2.1))
 let v117:=(nth a2.2.2.2.2.2.2.2.1 a111 Z74)
 let v122:=(nth a3.2.2.2.2.2.2.2.1 a111 Z74)
 let v149:=(bif (bif (bif (v117.1 != v122.1) then true else (!(v117.2.1 == v122.2.1))) then true else (v117.2.2.1 != v122.2.2.1)) then true else (v117.2.2.2.1 != v122.2.2.2.1))
 let v157:=(bif v149 then true else (!(f28 v117.2.2.2.2.1 v122.2.2.2.2.1)))
 ((v112 = true → (InB a111 (len a2.2.2.2.2.2.2.2.1) ∧ (InB a111 (len a3.2.2.2.2.2.2.2.1) ∧ (((!v149) = true → (sY v117.2.2.2.2.1 v122.2.2.2.2.1)) ∧ ((!v157) = true → InR (a111 + 1)))))),(v112 && (!v157)),((a111 + 1),()),(v112 && v157),(!v112))
def vY3 (y:wU9) (x:wL0):Prop:=(vY2 y x).1
def vK0 (y:wU9) (x:wL0):Bool:=(vY2 y x).2.1
def wN1 (y:wU9) (x:wL0):wL0:=(vY2 y x).2.2.1
def uS4 (y:wU9) (x:wL0):Bool:=(vY2 y x).2.2.2.1
def qA2 (y:wU9) (x:wL0):Bool:=(vY2 y x).2.2.2.2
instance (y:wU9) (x:wL0):Decidable (vY3 y x):=by
 unfold vY3 vY2
 try dsimp only
 infer_instance
def vT1 (y:wU9) (x:wL0):Bool :=
 false
def tA6:St → Option Out:=xO8 [(2,(.box T28 (.val T28))),(3,(.box T28 (.val T28))),(110,vI)] [(111,vI)] vK0 wN1 vY3 fun y x=>[ex 1 (some (uS4 y x)) [(4,vB)] ((vT1 y x),()),ex 6 (some (qA2 y x)) [] ()]
def f10t (p0:D28) (p1:D28):Prop × Bool :=
 let v44:=(bif (bif (bif (bif (p0.1 != p1.1) then true else (p0.2.1 != p1.2.1)) then true else (p0.2.2.1 != p1.2.2.1)) then true else (p0.2.2.2.2.1 != p1.2.2.2.2.1)) then true else ((len p0.2.2.2.1) != (len p1.2.2.2.1)))
 let v62:=(bif (bif v44 then true else ((len p0.2.2.2.2.2.2.1) != (len p1.2.2.2.2.2.2.1))) then true else ((len p0.2.2.2.2.2.2.2.1) != (len p1.2.2.2.2.2.2.2.1)))
 let v70:=(bif v62 then true else (!(f26 p0.2.2.2.2.2.1 p1.2.2.2.2.2.1)))
 let y4:=(p0,p1,(len p0.2.2.2.1),())
 let x4:=((0:Int),())
 let e4:=(zB9 (vY y4) (wP7 y4) x4)
 let y10:=(p0,p1,(len p0.2.2.2.2.2.2.1),())
 let x10:=((0:Int),())
 let e10:=(zB9 (vK y10) (wN0 y10) x10)
 let y16:=(p0,p1,(len p0.2.2.2.2.2.2.2.1),())
 let x16:=((0:Int),())
 let e16:=(zB9 (vK0 y16) (wN1 y16) x16)
 let m4_3:=(bif v70 then false else (bif (tT8 y4 e4) then (uC7 y4 e4) else (bif (uS3 y10 e10) then (vT0 y10 e10) else (bif (uS4 y16 e16) then (vT1 y16 e16) else true))))
 ((((!v62) = true → (sX0 p0.2.2.2.2.2.1 p1.2.2.2.2.2.1)) ∧ ((!v70) = true → ((Am.Ends (vY y4) (wP7 y4) (uN9 y4) x4) ∧ ((sY0 y4 e4) = true → ((Am.Ends (vK y10) (wN0 y10) (vY1 y10) x10) ∧ ((sB4 y10 e10) = true → (Am.Ends (vK0 y16) (wN1 y16) (vY3 y16) x16))))))),m4_3)
def uO (p0:D28) (p1:D28):Prop:=(f10t p0 p1).1
def f10 (p0:D28) (p1:D28):Bool:=(f10t p0 p1).2
instance (p0:D28) (p1:D28):Decidable (uO p0 p1):=by
 unfold uO f10t
 try dsimp only
 infer_instance
def sI1:Am.Spec:=fnSpec [(0,(.val T28)),(1,(.val T28))] vB [] (fun x=>uO x.1 x.2.1) (fun x=>f10 x.1 x.2.1) (fun _=>())
def sI2:Ctx:=Cx tys [(26,rR8),(27,rS4),(28,rS5)] [(4,tT9),(10,tA5),(16,tA6)] [] false 159 [] []
theorem sI3:CtxOk Tryz.prog sI2:=xV6 tys_ok rfl ⟨nG2,nG9,nH,trivial⟩ rfl (by kernel_rfl)
noncomputable def sI4:Code:=Tryz.f10.body.getD .skip
noncomputable def pW1:Code:=xW5 sI4 0
theorem qT9:yU1 Tryz.prog sI2 pW1:=xX3 sI3 mixed (sp:=tT9) rfl [[(4,vB)],sY1] (bs:=[]) (by kernel_rfl) trivial (by kernel_rfl) (by kernel_rfl) fun y x=>by kernel_rfl
noncomputable def qU:Code:=xW5 sI4 1
theorem qA3:yU1 Tryz.prog sI2 qU:=xX3 sI3 mixed (sp:=tA5) rfl [[(4,vB)],sB5] (bs:=[]) (by kernel_rfl) trivial (by kernel_rfl) (by kernel_rfl) fun y x=>by kernel_rfl
noncomputable def qU0:Code:=xW5 sI4 2
theorem qA4:yU1 Tryz.prog sI2 qU0:=xX3 sI3 mixed (sp:=tA6) rfl [[(4,vB)],[]] (bs:=[]) (by kernel_rfl) trivial (by kernel_rfl) (by kernel_rfl) fun y x=>by kernel_rfl
theorem pW2:SpecOk Tryz.prog 10 sI1:=xX4 sI3 mixed Tryz.func10 (by kernel_rfl) (bs:=[pW1,qU,qU0]) (by kernel_rfl) ⟨qT9,qA3,qA4,trivial⟩ fun x=>by kernel_rfl
def f11t (p0:D32):Prop × Bool :=
 let v7:=(!(Ty.eqb T50 p0.1 p0.2.1))
 let v15:=(bif v7 then true else (!(uA p0.2.2.2.1 p0.2.2.2.2.1 ())))
 let v20:=(f16 p0.2.2.2.2.2.1 p0.2.2.2.2.2.2.1)
 let v27:=(bif v20 then (f18 p0.2.2.2.2.2.2.2.1 p0.2.2.2.2.2.2.2.2.1) else false)
 ((((!v7) = true → (vJ7 p0.2.2.2.1 p0.2.2.2.2.1 ())) ∧ ((!v15) = true → ((uL5 p0.2.2.2.2.2.1 p0.2.2.2.2.2.2.1) ∧ ((v20 = true → (uM p0.2.2.2.2.2.2.2.1 p0.2.2.2.2.2.2.2.2.1)) ∧ (v27 = true → (uM2 p0.2.2.2.2.2.2.2.2.2.1 p0.2.2.2.2.2.2.2.2.2.2.1)))))),(bif v15 then false else (bif v27 then (f20 p0.2.2.2.2.2.2.2.2.2.1 p0.2.2.2.2.2.2.2.2.2.2.1) else false)))
def tA7 (p0:D32):Prop:=(f11t p0).1
def f11 (p0:D32):Bool:=(f11t p0).2
instance (p0:D32):Decidable (tA7 p0):=by
 unfold tA7 f11t
 try dsimp only
 infer_instance
def sI5:Am.Spec:=fnSpec [(0,(.val T32))] vB [] (fun x=>tA7 x.1) (fun x=>f11 x.1) (fun _=>())
def oU5:Ctx:=Cx tys [(16,uL6),(18,uM0),(20,uM3),(29,uC6)] [] [] false 35 [] []
theorem oU6:CtxOk Tryz.prog oU5:=xV6 tys_ok rfl ⟨rQ6,rQ7,rR,sW7,trivial⟩ rfl (by kernel_rfl)
theorem pW3:SpecOk Tryz.prog 11 sI5:=xX4 oU6 mixed Tryz.func11 (by kernel_rfl) (bs:=[]) (by kernel_rfl) trivial fun x=>by kernel_rfl
abbrev vN1:Type:=((List Int) × Unit)
abbrev wW4:Type:=((Int × Int × Int × (List D57) × Int × (Int × Int × (List Int) × Unit) × (List D66) × (List D74) × Unit) × (Int × Int × Int × (List D57) × Int × (Int × Int × (List Int) × Unit) × (List D66) × (List D74) × Unit) × Int × Unit)
def sI6 (y:vN1) (x:wW4):Prop × Bool × wW4 :=
 let a0:=y.1
 let a2:=x.1
 let a3:=x.2.1
 let a4:=x.2.2.1
 let v10:=(decide ((a4 + 1) < (len a0)))
 let v21:=(a4 + 1)
 let s_3:=((nth a0 a4 (0:Int)),(3:Int),(0:Int),([102,105,108,108]:List UInt8),false,false,false,(nth a0 v21 (0:Int)),(0:Int),((0:Int),(0:Int),([]:List Int),()),Z45,(0:Int),((0:Int),(0:Int),([]:List D50),()),Z50,(0:Int),([]:List Int),(0:Int),([]:List D91),([]:List D97),(0:Int),(0:Int),(0:Int),(0:Int),([]:List UInt8),(0:Int),(0:Int),(0:Int),((0:Int),(0:Int),(0:Int),([]:List D94),()),())
 let v25:=([s_3]:List D57)
 ((InR (a4 + 1) ∧ (v10 = true → (InB a4 (len a0) ∧ (InR (a4 + 1) ∧ (InB v21 (len a0) ∧ (((List.length a3.2.2.2.1 + List.length v25:Nat):Int) ≤ 4294967296 ∧ InR (a4 + 2))))))),v10,((a2.1,a2.2.1,a2.2.2.1,a2.2.2.2.1,a2.2.2.2.2.1,(a2.2.2.2.2.2.1.1,a2.2.2.2.2.2.1.2.1,a2.2.2.2.2.2.1.2.2.1,()),a2.2.2.2.2.2.2.1,a2.2.2.2.2.2.2.2.1,()),(a3.1,a3.2.1,a3.2.2.1,(a3.2.2.2.1 ++ v25),a3.2.2.2.2.1,(a3.2.2.2.2.2.1.1,a3.2.2.2.2.2.1.2.1,a3.2.2.2.2.2.1.2.2.1,()),a3.2.2.2.2.2.2.1,a3.2.2.2.2.2.2.2.1,()),(a4 + 2),()))
def uO0 (y:vN1) (x:wW4):Prop:=(sI6 y x).1
def sI7 (y:vN1) (x:wW4):Bool:=(sI6 y x).2.1
def uC8 (y:vN1) (x:wW4):wW4:=(sI6 y x).2.2
instance (y:vN1) (x:wW4):Decidable (uO0 y x):=by
 unfold uO0 sI6
 try dsimp only
 infer_instance
def rH2 (y:vN1) (x:wW4):(Int × Int × Int × (List D57) × Int × (Int × Int × (List Int) × Unit) × (List D66) × (List D74) × Unit) :=
 let a2:=x.1
 (a2.1,a2.2.1,a2.2.2.1,a2.2.2.2.1,a2.2.2.2.2.1,(a2.2.2.2.2.2.1.1,a2.2.2.2.2.2.1.2.1,a2.2.2.2.2.2.1.2.2.1,()),a2.2.2.2.2.2.2.1,a2.2.2.2.2.2.2.2.1,())
def tU (y:vN1) (x:wW4):(Int × Int × Int × (List D57) × Int × (Int × Int × (List Int) × Unit) × (List D66) × (List D74) × Unit) :=
 let a3:=x.2.1
 (a3.1,a3.2.1,a3.2.2.1,a3.2.2.2.1,a3.2.2.2.2.1,(a3.2.2.2.2.2.1.1,a3.2.2.2.2.2.1.2.1,a3.2.2.2.2.2.1.2.2.1,()),a3.2.2.2.2.2.2.1,a3.2.2.2.2.2.2.2.1,())
def sY2:List (Nat × Sh):=[(2,(.box T28 (.agg (.cons (.int .i64) (.cons (.int .i64) (.cons (.int .i64) (.cons (.sl T57) (.cons (.int .i64) (.cons T24 (.cons (.sl T66) (.cons (.sl T74) .nl)))))))) (.cons vI (.cons vI (.cons vI (.cons (.own T57 400200 false) (.cons vI (.cons (.agg (.cons (.int .i64) (.cons (.int .i64) (.cons (.sl (.int .i64)) .nl))) (.cons vI (.cons vI (.cons (.own (.int .i64) 400201 false) .nl)))) (.cons (.own T66 400202 false) (.cons (.own T74 400203 false) .nl))))))))))),(3,(.box T28 (.agg (.cons (.int .i64) (.cons (.int .i64) (.cons (.int .i64) (.cons (.sl T57) (.cons (.int .i64) (.cons T24 (.cons (.sl T66) (.cons (.sl T74) .nl)))))))) (.cons vI (.cons vI (.cons vI (.cons (.own T57 400300 false) (.cons vI (.cons (.agg (.cons (.int .i64) (.cons (.int .i64) (.cons (.sl (.int .i64)) .nl))) (.cons vI (.cons vI (.cons (.own (.int .i64) 400301 false) .nl)))) (.cons (.own T66 400302 false) (.cons (.own T74 400303 false) .nl)))))))))))]
def tU0:St → Option Out:=xO8 [(0,(.val (.sl (.int .i64))))] [(2,(.box T28 (.agg (.cons (.int .i64) (.cons (.int .i64) (.cons (.int .i64) (.cons (.sl T57) (.cons (.int .i64) (.cons T24 (.cons (.sl T66) (.cons (.sl T74) .nl)))))))) (.cons vI (.cons vI (.cons vI (.cons (.own T57 400200 false) (.cons vI (.cons (.agg (.cons (.int .i64) (.cons (.int .i64) (.cons (.sl (.int .i64)) .nl))) (.cons vI (.cons vI (.cons (.own (.int .i64) 400201 false) .nl)))) (.cons (.own T66 400202 false) (.cons (.own T74 400203 false) .nl))))))))))),(3,(.box T28 (.agg (.cons (.int .i64) (.cons (.int .i64) (.cons (.int .i64) (.cons (.sl T57) (.cons (.int .i64) (.cons T24 (.cons (.sl T66) (.cons (.sl T74) .nl)))))))) (.cons vI (.cons vI (.cons vI (.cons (.own T57 400300 false) (.cons vI (.cons (.agg (.cons (.int .i64) (.cons (.int .i64) (.cons (.sl (.int .i64)) .nl))) (.cons vI (.cons vI (.cons (.own (.int .i64) 400301 false) .nl)))) (.cons (.own T66 400302 false) (.cons (.own T74 400303 false) .nl))))))))))),(4,vI)] sI7 uC8 uO0 fun y x=>[ex 2 none sY2 ((rH2 y x),(tU y x),())]
def f22t (p0:(List Int)):Prop × D28 :=
 let y3:=(p0,())
 let x3:=(((0:Int),(0:Int),(0:Int),([]:List D57),(0:Int),((0:Int),(0:Int),([]:List Int),()),([]:List D66),([]:List D74),()),((4:Int),(4:Int),(0:Int),([]:List D57),(9:Int),((0:Int),(0:Int),([]:List Int),()),([]:List D66),([]:List D74),()),(0:Int),())
 let r3_2_1:=(tU y3 (zB9 (sI7 y3) (uC8 y3) x3))
 ((Am.Ends (sI7 y3) (uC8 y3) (uO0 y3) x3),(r3_2_1.1,r3_2_1.2.1,r3_2_1.2.2.1,r3_2_1.2.2.2.1,r3_2_1.2.2.2.2.1,(r3_2_1.2.2.2.2.2.1.1,r3_2_1.2.2.2.2.2.1.2.1,r3_2_1.2.2.2.2.2.1.2.2.1,()),r3_2_1.2.2.2.2.2.2.1,r3_2_1.2.2.2.2.2.2.2.1,()))
def sB6 (p0:(List Int)):Prop:=(f22t p0).1
def f22 (p0:(List Int)):D28:=(f22t p0).2
instance (p0:(List Int)):Decidable (sB6 p0):=by
 unfold sB6 f22t
 try dsimp only
 infer_instance
def rS6:Am.Spec:=fnSpec [(0,(.val (.sl (.int .i64))))] (.val T28) [] (fun x=>sB6 x.1) (fun x=>f22 x.1) (fun _=>())
def qU1:Ctx:=Cx tys [] [(3,tU0)] [(11,[(4,0,26,400300)]),(13,[(4,0,400300,400200),(4,0,400301,400201),(4,0,400302,400202),(4,0,400303,400203)])] false 29 [] []
theorem qU2:CtxOk Tryz.prog qU1:=xV6 tys_ok rfl trivial rfl (by kernel_rfl)
noncomputable def pM2:Code:=Tryz.f22.body.getD .skip
noncomputable def pW4:Code:=xW5 pM2 0
theorem qU3:yU1 Tryz.prog qU1 pW4:=xX3 qU2 mixed (sp:=tU0) rfl [sY2] (bs:=[]) (by kernel_rfl) trivial (by kernel_rfl) (by kernel_rfl) fun y x=>by kernel_rfl
theorem nH0:SpecOk Tryz.prog 22 rS6:=xX4 qU2 mixed Tryz.func22 (by kernel_rfl) (bs:=[pW4]) (by kernel_rfl) ⟨qU3,trivial⟩ fun x=>by kernel_rfl
def f23t (p0:D32) (p1:D32) (p2:D28):Prop × (D32 × Int × Unit) :=
 let v13:=(f8 p2 p0)
 let v17:=(v13.2.1 != 0)
 let v23:=(f8 v13.1 p1)
 let v27:=(v23.2.1 != 0)
 let v32:=(f5 p2 v23.1)
 let s_2:=(Z50,Z50,(0:Int),([]:List D57),([]:List D57),((0:Int),(0:Int),([]:List Int),()),((0:Int),(0:Int),([]:List Int),()),([]:List D66),([]:List D66),([]:List D74),([]:List D74),())
 let s_5:=(Z50,Z50,(0:Int),([]:List D57),([]:List D57),((0:Int),(0:Int),([]:List Int),()),((0:Int),(0:Int),([]:List Int),()),([]:List D66),([]:List D66),([]:List D74),([]:List D74),())
 (((tA9 p2 p0) ∧ ((!v17) = true → ((tA9 v13.1 p1) ∧ ((!v27) = true → (uR5 p2 v23.1))))),((bif v17 then s_5 else (bif v27 then s_2 else v32.1)),(bif v17 then v13.2.1 else (bif v27 then v23.2.1 else v32.2.1)),()))
def rS7 (p0:D32) (p1:D32) (p2:D28):Prop:=(f23t p0 p1 p2).1
def f23 (p0:D32) (p1:D32) (p2:D28):(D32 × Int × Unit):=(f23t p0 p1 p2).2
instance (p0:D32) (p1:D32) (p2:D28):Decidable (rS7 p0 p1 p2):=by
 unfold rS7 f23t
 try dsimp only
 infer_instance
def rS8:Am.Spec:=fnSpec [(0,(.val T32)),(1,(.val T32)),(2,(.val T28))] (.tup (.cons (.val T32) (.cons vI .nl))) [] (fun x=>rS7 x.1 x.2.1 x.2.2.1) (fun x=>f23 x.1 x.2.1 x.2.2.1) (fun _=>())
def oU7:Ctx:=Cx tys [(5,sH8),(8,sI)] [] [] false 35 [] []
theorem oU8:CtxOk Tryz.prog oU7:=xV6 tys_ok rfl ⟨oT6,oT9,trivial⟩ rfl (by kernel_rfl)
theorem nH1:SpecOk Tryz.prog 23 rS8:=xX4 oU8 mixed Tryz.func23 (by kernel_rfl) (bs:=[]) (by kernel_rfl) trivial fun x=>by kernel_rfl
def f7t :Prop × Bool :=
 let v20:=([(1:Int),(5:Int),(2:Int),(6:Int),(3:Int),(7:Int)]:List Int)
 let v21:=(f22 v20)
 let v22:=([(1:Int),(5:Int),(2:Int),(9:Int),(3:Int),(7:Int)]:List Int)
 let v23:=(f22 v22)
 let v24:=([(1:Int),(5:Int),(3:Int),(7:Int)]:List Int)
 let v25:=(f22 v24)
 let v29:=(f5 v21 v23)
 let v35:=(f5 v21 v25)
 let v41:=(f5 v21 v21)
 let v47:=(f8 v21 v29.1)
 let v59:=(f9 v29.1)
 let v60:=(f8 v47.1 v59)
 let v66:=(f9 v29.1)
 let v68:=(f23 v29.1 v66 v21)
 let s_1:=((0:Int),(0:Int),(0:Int),([]:List D57),(0:Int),((0:Int),(0:Int),([]:List Int),()),([]:List D66),([]:List D74),())
 let v95:=(bif (bif (bif (v29.2.1 == 0) then (v29.1.2.2.1 == 1) else false) then ((len v29.1.2.2.2.1) == 1) else false) then ((len v29.1.2.2.2.2.1) == 1) else false)
 let v100:=(bif v95 then ((f6 v29.1) == 2) else false)
 let v126:=(bif (bif (bif (bif (bif v100 then (!(f11 v29.1)) else false) then (v35.2.1 == 0) else false) then (v35.1.2.2.1 == 1) else false) then ((len v35.1.2.2.2.1) == 1) else false) then ((len v35.1.2.2.2.2.1) == 0) else false)
 let v135:=(bif (bif v126 then (v41.2.1 == 0) else false) then (v41.1.2.2.1 == 3) else false)
 let v140:=(bif v135 then ((f6 v41.1) == 0) else false)
 let v148:=(bif (bif v140 then (f11 v41.1) else false) then (v47.2.1 == 0) else false)
 let v161:=(bif (bif (bif v148 then (f10 v47.1 v23) else false) then ((f8 v47.1 v29.1).2.1 == 14) else false) then (v60.2.1 == 0) else false)
 let v170:=(bif (bif v161 then (f10 v60.1 v21) else false) then (v68.2.1 == 0) else false)
 (((sB6 v20) ∧ ((sB6 v22) ∧ ((sB6 v24) ∧ ((uR5 v21 v23) ∧ ((uR5 v21 v25) ∧ ((uR5 v21 v21) ∧ ((tA9 v21 v29.1) ∧ ((tA9 v47.1 v29.1) ∧ ((rH0 v29.1) ∧ ((tA9 v47.1 v59) ∧ ((rH0 v29.1) ∧ ((rS7 v29.1 v66 v21) ∧ ((uR5 s_1 v21) ∧ ((v95 = true → (sW3 v29.1)) ∧ ((v100 = true → (tA7 v29.1)) ∧ ((v135 = true → (sW3 v41.1)) ∧ ((v140 = true → (tA7 v41.1)) ∧ ((v148 = true → (uO v47.1 v23)) ∧ ((v161 = true → (uO v60.1 v21)) ∧ (v170 = true → (tA7 v68.1))))))))))))))))))))),(bif (bif v170 then (f11 v68.1) else false) then ((f5 s_1 v21).2.1 == 15) else false))
def qA5 :Prop:=(f7t).1
def f7 :Bool:=(f7t).2
instance :Decidable (qA5):=by
 unfold qA5 f7t
 try dsimp only
 infer_instance
def qU4:Am.Spec:=fnSpec [] vB [] (fun x=>qA5 ) (fun x=>f7 ) (fun _=>())
def nH2:Ctx:=Cx tys [(5,sH8),(6,rG6),(8,sI),(9,rH1),(10,sI1),(11,sI5),(22,rS6),(23,rS8)] [] [] false 179 [] []
theorem nH3:CtxOk Tryz.prog nH2:=xV6 tys_ok rfl ⟨oT6,nF1,oT9,nG1,pW2,pW3,nH0,nH1,trivial⟩ rfl (by kernel_rfl)
theorem nK0:SpecOk Tryz.prog 7 qU4:=xX4 nH3 mixed Tryz.func7 (by kernel_rfl) (bs:=[]) (by kernel_rfl) trivial fun x=>by kernel_rfl
def f3t (p0:D28) (p1:D28):Prop × Bool :=
 let v14:=(f5 p0 p1)
 let v18:=(v14.2.1 != 0)
 let v21:=((f6 v14.1) == 0)
 let v28:=(f8 p0 v14.1)
 let v34:=(f9 v14.1)
 let v35:=(f8 p1 v34)
 let v43:=(bif (v28.2.1 != 0) then true else (v35.2.1 != 0))
 let v49:=(bif v43 then true else (!(f10 v28.1 p1)))
 let v55:=(bif v49 then true else (!(f10 v35.1 p0)))
 let v63:=(bif v55 then true else (!(Ty.eqb .bool (f11 v14.1) (f10 p0 p1))))
 let v73:=(bif (decide ((len v14.1.2.2.2.1) > 0)) then (decide ((len v14.1.2.2.2.2.1) > 0)) else false)
 let v77:=(nth v14.1.2.2.2.1 (0:Int) Z57)
 let v81:=(nth v14.1.2.2.2.2.1 (0:Int) Z57)
 let v83:=(f12 v77 v81)
 let v89:=(len v14.1.2.2.2.1)
 let v90:=(v89 - 1)
 let v91:=(nth v14.1.2.2.2.1 v90 Z57)
 let v97:=(len v14.1.2.2.2.2.1)
 let v98:=(v97 - 1)
 let v99:=(nth v14.1.2.2.2.2.1 v98 Z57)
 let v103:=(bif v73 then (bif v83 then true else (f12 v91 v99)) else false)
 (((uR5 p0 p1) ∧ ((v18 = true → ((sW3 v14.1) ∧ (v21 = true → qA5))) ∧ ((!v18) = true → ((tA9 p0 v14.1) ∧ ((rH0 v14.1) ∧ ((tA9 p1 v34) ∧ (((!v43) = true → (uO v28.1 p1)) ∧ (((!v49) = true → (uO v35.1 p0)) ∧ (((!v55) = true → (tA7 v14.1)) ∧ (((!v55) = true → (uO p0 p1)) ∧ ((!v63) = true → ((v73 = true → InB (0:Int) (len v14.1.2.2.2.1)) ∧ ((v73 = true → InB (0:Int) (len v14.1.2.2.2.2.1)) ∧ ((v73 = true → (vY5 v77 v81)) ∧ (((v73 && (!v83)) = true → InR (v89 - 1)) ∧ (((v73 && (!v83)) = true → InB v90 (len v14.1.2.2.2.1)) ∧ (((v73 && (!v83)) = true → InR (v97 - 1)) ∧ (((v73 && (!v83)) = true → InB v98 (len v14.1.2.2.2.2.1)) ∧ (((v73 && (!v83)) = true → (vY5 v91 v99)) ∧ ((!v103) = true → qA5)))))))))))))))))))),(bif v18 then (bif v21 then f7 else false) else (bif v63 then false else (bif v103 then false else f7))))
def f3_ok (p0:D28) (p1:D28):Prop:=(f3t p0 p1).1
def f3 (p0:D28) (p1:D28):Bool:=(f3t p0 p1).2
instance (p0:D28) (p1:D28):Decidable (f3_ok p0 p1):=by
 unfold f3_ok f3t
 try dsimp only
 infer_instance
def oU9:Am.Spec:=fnSpec [(0,(.val T28)),(1,(.val T28))] vB [] (fun x=>f3_ok x.1 x.2.1) (fun x=>f3 x.1 x.2.1) (fun _=>())
def nH4:Ctx:=Cx tys [(5,sH8),(6,rG6),(7,qU4),(8,sI),(9,rH1),(10,sI1),(11,sI5),(12,tB1)] [] [] false 105 [] []
theorem nH5:CtxOk Tryz.prog nH4:=xV6 tys_ok rfl ⟨oT6,nF1,nK0,oT9,nG1,pW2,pW3,qE2,trivial⟩ rfl (by kernel_rfl)
theorem f3_is:SpecOk Tryz.prog 3 oU9:=xX4 nH5 mixed Tryz.func3 (by kernel_rfl) (bs:=[]) (by kernel_rfl) trivial fun x=>by kernel_rfl
end Go.Proofs.YtigpekbhmpfcoaaGreatDoor.Am
