/- Printed by program, part 4. No condition. -/
import Derived.Test.YtigpekbhmpfcoaaGreatDoorRetP3
set_option linter.unusedVariables false
set_option synthInstance.maxSize 4000
set_option synthInstance.maxHeartbeats 400000
namespace Go.Proofs.YtigpekbhmpfcoaaGreatDoor.Am
open Go Go.Am Go.Proofs
abbrev vE:Type:=(D28 × D28 × Int × Unit)
abbrev wR1:Type:=(Int × Unit)
def uQ (y:vE) (x:wR1):Prop × Bool × wR1 × Bool × Bool :=
 let a2:=y.1
 let a3:=y.2.1
 let a74:=x.1
 let v75:=(decide (a74 < y.2.2.1))
 let v80:=(nth a2.2.2.2.1 a74 Z57)
 let v85:=(nth a3.2.2.2.1 a74 Z57)
 let v88:=(!(f27 v80 v85))
 ((v75 = true → (InB a74 (len a2.2.2.2.1) ∧ (InB a74 (len a3.2.2.2.1) ∧ ((tZ4 v80 v85) ∧ ((!v88) = true → InR (a74 + 1)))))),(v75 && (!v88)),((a74 + 1),()),(v75 && v88),(!v75))
def uL9 (y:vE) (x:wR1):Prop:=(uQ y x).1
def vW2 (y:vE) (x:wR1):Bool:=(uQ y x).2.1
def wP (y:vE) (x:wR1):wR1:=(uQ y x).2.2.1
def tR9 (y:vE) (x:wR1):Bool:=(uQ y x).2.2.2.1
def sW3 (y:vE) (x:wR1):Bool:=(uQ y x).2.2.2.2
instance (y:vE) (x:wR1):Decidable (uL9 y x):=by
 unfold uL9 uQ
 try dsimp only
 infer_instance
def uA9 (y:vE) (x:wR1):Bool :=
 false
def sW4:List (Nat × Sh):=[(2,(.box T28 (.val T28))),(3,(.box T28 (.val T28)))]
def tS:St → Option Out:=xO8 [(2,(.box T28 (.val T28))),(3,(.box T28 (.val T28))),(73,vI)] [(74,vI)] vW2 wP uL9 fun y x=>[ex 1 (some (tR9 y x)) [(4,vB)] ((uA9 y x),()),ex 2 (some (sW3 y x)) sW4 (y.1,y.2.1,())]
abbrev wU:Type:=(D28 × D28 × Int × Unit)
abbrev wK6:Type:=(Int × Unit)
def vW3 (y:wU) (x:wK6):Prop × Bool × wK6 × Bool × Bool :=
 let a2:=y.1
 let a3:=y.2.1
 let a93:=x.1
 let v94:=(decide (a93 < y.2.2.1))
 let v106:=(!(Ty.eqb T66 (nth a2.2.2.2.2.2.2.1 a93 Z66) (nth a3.2.2.2.2.2.2.1 a93 Z66)))
 ((v94 = true → (InB a93 (len a2.2.2.2.2.2.2.1) ∧ (InB a93 (len a3.2.2.2.2.2.2.1) ∧ ((!v106) = true → InR (a93 + 1))))),(v94 && (!v106)),((a93 + 1),()),(v94 && v106),(!v94))
def vW4 (y:wU) (x:wK6):Prop:=(vW3 y x).1
def vI9 (y:wU) (x:wK6):Bool:=(vW3 y x).2.1
def wM5 (y:wU) (x:wK6):wK6:=(vW3 y x).2.2.1
def uQ0 (y:wU) (x:wK6):Bool:=(vW3 y x).2.2.2.1
def tZ5 (y:wU) (x:wK6):Bool:=(vW3 y x).2.2.2.2
instance (y:wU) (x:wK6):Decidable (vW4 y x):=by
 unfold vW4 vW3
 try dsimp only
 infer_instance
def vR4 (y:wU) (x:wK6):Bool :=
 false
def tZ6:List (Nat × Sh):=[(2,(.box T28 (.val T28))),(3,(.box T28 (.val T28)))]
def uY2:St → Option Out:=xO8 [(2,(.box T28 (.val T28))),(3,(.box T28 (.val T28))),(92,vI)] [(93,vI)] vI9 wM5 vW4 fun y x=>[ex 1 (some (uQ0 y x)) [(4,vB)] ((vR4 y x),()),ex 4 (some (tZ5 y x)) tZ6 (y.1,y.2.1,())]
abbrev wU0:Type:=(D28 × D28 × Int × Unit)
abbrev wK7:Type:=(Int × Unit)
def vW5 (y:wU0) (x:wK7):Prop × Bool × wK7 × Bool × Bool :=
 let a2:=y.1
 let a3:=y.2.1
 let a111:=x.1
 let v112:=(decide (a111 < y.2.2.1))
 let v117:=(nth a2.2.2.2.2.2.2.2.1 a111 Z74)
 let v122:=(nth a3.2.2.2.2.2.2.2.1 a111 Z74)
 let v149:=(bif (bif (bif (v117.1 != v122.1) then true else (!(v117.2.1 == v122.2.1))) then true else (v117.2.2.1 != v122.2.2.1)) then true else (v117.2.2.2.1 != v122.2.2.2.1))
 let v157:=(bif v149 then true else (!(f28 v117.2.2.2.2.1 v122.2.2.2.2.1)))
 ((v112 = true → (InB a111 (len a2.2.2.2.2.2.2.2.1) ∧ (InB a111 (len a3.2.2.2.2.2.2.2.1) ∧ (((!v149) = true → (sW2 v117.2.2.2.2.1 v122.2.2.2.2.1)) ∧ ((!v157) = true → InR (a111 + 1)))))),(v112 && (!v157)),((a111 + 1),()),(v112 && v157),(!v112))
def vW6 (y:wU0) (x:wK7):Prop:=(vW5 y x).1
def vJ (y:wU0) (x:wK7):Bool:=(vW5 y x).2.1
def wM6 (y:wU0) (x:wK7):wK7:=(vW5 y x).2.2.1
def uQ1 (y:wU0) (x:wK7):Bool:=(vW5 y x).2.2.2.1
def rZ1 (y:wU0) (x:wK7):Bool:=(vW5 y x).2.2.2.2
instance (y:wU0) (x:wK7):Decidable (vW6 y x):=by
 unfold vW6 vW5
 try dsimp only
 infer_instance
def vR5 (y:wU0) (x:wK7):Bool :=
 false
def uY3:St → Option Out:=xO8 [(2,(.box T28 (.val T28))),(3,(.box T28 (.val T28))),(110,vI)] [(111,vI)] vJ wM6 vW6 fun y x=>[ex 1 (some (uQ1 y x)) [(4,vB)] ((vR5 y x),()),ex 6 (some (rZ1 y x)) [] ()]
def f10t (p0:D28) (p1:D28):Prop × Bool :=
 let v44:=(bif (bif (bif (bif (p0.1 != p1.1) then true else (p0.2.1 != p1.2.1)) then true else (p0.2.2.1 != p1.2.2.1)) then true else (p0.2.2.2.2.1 != p1.2.2.2.2.1)) then true else ((len p0.2.2.2.1) != (len p1.2.2.2.1)))
 let v62:=(bif (bif v44 then true else ((len p0.2.2.2.2.2.2.1) != (len p1.2.2.2.2.2.2.1))) then true else ((len p0.2.2.2.2.2.2.2.1) != (len p1.2.2.2.2.2.2.2.1)))
 let v70:=(bif v62 then true else (!(f26 p0.2.2.2.2.2.1 p1.2.2.2.2.2.1)))
 let y4:=(p0,p1,(len p0.2.2.2.1),())
 let x4:=((0:Int),())
 let e4:=(zB9 (vW2 y4) (wP y4) x4)
 let y10:=(p0,p1,(len p0.2.2.2.2.2.2.1),())
 let x10:=((0:Int),())
 let e10:=(zB9 (vI9 y10) (wM5 y10) x10)
 let y16:=(p0,p1,(len p0.2.2.2.2.2.2.2.1),())
 let x16:=((0:Int),())
 let e16:=(zB9 (vJ y16) (wM6 y16) x16)
 let m4_3:=(bif v70 then false else (bif (tR9 y4 e4) then (uA9 y4 e4) else (bif (uQ0 y10 e10) then (vR4 y10 e10) else (bif (uQ1 y16 e16) then (vR5 y16 e16) else true))))
 ((((!v62) = true → (sV3 p0.2.2.2.2.2.1 p1.2.2.2.2.2.1)) ∧ ((!v70) = true → ((Am.Ends (vW2 y4) (wP y4) (uL9 y4) x4) ∧ ((sW3 y4 e4) = true → ((Am.Ends (vI9 y10) (wM5 y10) (vW4 y10) x10) ∧ ((tZ5 y10 e10) = true → (Am.Ends (vJ y16) (wM6 y16) (vW6 y16) x16))))))),m4_3)
def tS0 (p0:D28) (p1:D28):Prop:=(f10t p0 p1).1
def f10 (p0:D28) (p1:D28):Bool:=(f10t p0 p1).2
instance (p0:D28) (p1:D28):Decidable (tS0 p0 p1):=by
 unfold tS0 f10t
 try dsimp only
 infer_instance
def sG2:Am.Spec:=fnSpec [(0,(.val T28)),(1,(.val T28))] vB [] (fun x=>tS0 x.1 x.2.1) (fun x=>f10 x.1 x.2.1) (fun _=>())
def sG3:Ctx:=Cx tys [(26,rQ6),(27,rR2),(28,rR3)] [(4,tS),(10,uY2),(16,uY3)] [] false 159 [] []
theorem sG4:CtxOk Tryz.prog sG3:=xV6 tys_ok rfl ⟨nE9,nF5,nF6,trivial⟩ rfl (by kernel_rfl)
noncomputable def sG5:Code:=Tryz.f10.body.getD .skip
noncomputable def pV:Code:=xW5 sG5 0
theorem qS7:yU1 Tryz.prog sG3 pV:=xX3 sG4 mixed (sp:=tS) rfl [[(4,vB)],sW4] (bs:=[]) (by kernel_rfl) trivial (by kernel_rfl) (by kernel_rfl) fun y x=>by kernel_rfl
noncomputable def qS8:Code:=xW5 sG5 1
theorem rZ2:yU1 Tryz.prog sG3 qS8:=xX3 sG4 mixed (sp:=uY2) rfl [[(4,vB)],tZ6] (bs:=[]) (by kernel_rfl) trivial (by kernel_rfl) (by kernel_rfl) fun y x=>by kernel_rfl
noncomputable def qS9:Code:=xW5 sG5 2
theorem rZ3:yU1 Tryz.prog sG3 qS9:=xX3 sG4 mixed (sp:=uY3) rfl [[(4,vB)],[]] (bs:=[]) (by kernel_rfl) trivial (by kernel_rfl) (by kernel_rfl) fun y x=>by kernel_rfl
theorem pV0:SpecOk Tryz.prog 10 sG2:=xX4 sG4 mixed Tryz.func10 (by kernel_rfl) (bs:=[pV,qS8,qS9]) (by kernel_rfl) ⟨qS7,rZ2,rZ3,trivial⟩ fun x=>by kernel_rfl
def f11t (p0:D32):Prop × Bool :=
 let v7:=(!(Ty.eqb T50 p0.1 p0.2.1))
 let v15:=(bif v7 then true else (!(tQ3 p0.2.2.2.1 p0.2.2.2.2.1 ())))
 let v20:=(f16 p0.2.2.2.2.2.1 p0.2.2.2.2.2.2.1)
 let v27:=(bif v20 then (f18 p0.2.2.2.2.2.2.2.1 p0.2.2.2.2.2.2.2.2.1) else false)
 ((((!v7) = true → (vI6 p0.2.2.2.1 p0.2.2.2.2.1 ())) ∧ ((!v15) = true → ((uJ5 p0.2.2.2.2.2.1 p0.2.2.2.2.2.2.1) ∧ ((v20 = true → (uK p0.2.2.2.2.2.2.2.1 p0.2.2.2.2.2.2.2.2.1)) ∧ (v27 = true → (uK2 p0.2.2.2.2.2.2.2.2.2.1 p0.2.2.2.2.2.2.2.2.2.2.1)))))),(bif v15 then false else (bif v27 then (f20 p0.2.2.2.2.2.2.2.2.2.1 p0.2.2.2.2.2.2.2.2.2.2.1) else false)))
def tZ7 (p0:D32):Prop:=(f11t p0).1
def f11 (p0:D32):Bool:=(f11t p0).2
instance (p0:D32):Decidable (tZ7 p0):=by
 unfold tZ7 f11t
 try dsimp only
 infer_instance
def rR4:Am.Spec:=fnSpec [(0,(.val T32))] vB [] (fun x=>tZ7 x.1) (fun x=>f11 x.1) (fun _=>())
def oT3:Ctx:=Cx tys [(16,uJ6),(18,uK0),(20,uK3),(29,uA8)] [] [] false 35 [] []
theorem oT4:CtxOk Tryz.prog oT3:=xV6 tys_ok rfl ⟨rP4,rP5,rP8,sV,trivial⟩ rfl (by kernel_rfl)
theorem nF7:SpecOk Tryz.prog 11 rR4:=xX4 oT4 mixed Tryz.func11 (by kernel_rfl) (bs:=[]) (by kernel_rfl) trivial fun x=>by kernel_rfl
abbrev vM:Type:=((List Int) × Unit)
abbrev wV7:Type:=((Int × Int × Int × (List D57) × Int × (Int × Int × (List Int) × Unit) × (List D66) × (List D74) × Unit) × (Int × Int × Int × (List D57) × Int × (Int × Int × (List Int) × Unit) × (List D66) × (List D74) × Unit) × Int × Unit)
def sG6 (y:vM) (x:wV7):Prop × Bool × wV7 :=
 let a0:=y.1
 let a2:=x.1
 let a3:=x.2.1
 let a4:=x.2.2.1
 let v10:=(decide ((a4 + 1) < (len a0)))
 let v21:=(a4 + 1)
 let s_3:=((nth a0 a4 (0:Int)),(3:Int),(0:Int),([102,105,108,108]:List UInt8),false,false,false,(nth a0 v21 (0:Int)),(0:Int),((0:Int),(0:Int),([]:List Int),()),Z45,(0:Int),((0:Int),(0:Int),([]:List D50),()),Z50,(0:Int),([]:List Int),(0:Int),([]:List D91),([]:List D97),(0:Int),(0:Int),(0:Int),(0:Int),([]:List UInt8),(0:Int),(0:Int),(0:Int),((0:Int),(0:Int),(0:Int),([]:List D94),()),())
 let v25:=([s_3]:List D57)
 ((InR (a4 + 1) ∧ (v10 = true → (InB a4 (len a0) ∧ (InR (a4 + 1) ∧ (InB v21 (len a0) ∧ (((List.length a3.2.2.2.1 + List.length v25:Nat):Int) ≤ 4294967296 ∧ InR (a4 + 2))))))),v10,((a2.1,a2.2.1,a2.2.2.1,a2.2.2.2.1,a2.2.2.2.2.1,(a2.2.2.2.2.2.1.1,a2.2.2.2.2.2.1.2.1,a2.2.2.2.2.2.1.2.2.1,()),a2.2.2.2.2.2.2.1,a2.2.2.2.2.2.2.2.1,()),(a3.1,a3.2.1,a3.2.2.1,(a3.2.2.2.1 ++ v25),a3.2.2.2.2.1,(a3.2.2.2.2.2.1.1,a3.2.2.2.2.2.1.2.1,a3.2.2.2.2.2.1.2.2.1,()),a3.2.2.2.2.2.2.1,a3.2.2.2.2.2.2.2.1,()),(a4 + 2),()))
def uM (y:vM) (x:wV7):Prop:=(sG6 y x).1
def sG7 (y:vM) (x:wV7):Bool:=(sG6 y x).2.1
def uB (y:vM) (x:wV7):wV7:=(sG6 y x).2.2
instance (y:vM) (x:wV7):Decidable (uM y x):=by
 unfold uM sG6
 try dsimp only
 infer_instance
def rF6 (y:vM) (x:wV7):(Int × Int × Int × (List D57) × Int × (Int × Int × (List Int) × Unit) × (List D66) × (List D74) × Unit) :=
 let a2:=x.1
 (a2.1,a2.2.1,a2.2.2.1,a2.2.2.2.1,a2.2.2.2.2.1,(a2.2.2.2.2.2.1.1,a2.2.2.2.2.2.1.2.1,a2.2.2.2.2.2.1.2.2.1,()),a2.2.2.2.2.2.2.1,a2.2.2.2.2.2.2.2.1,())
def tS1 (y:vM) (x:wV7):(Int × Int × Int × (List D57) × Int × (Int × Int × (List Int) × Unit) × (List D66) × (List D74) × Unit) :=
 let a3:=x.2.1
 (a3.1,a3.2.1,a3.2.2.1,a3.2.2.2.1,a3.2.2.2.2.1,(a3.2.2.2.2.2.1.1,a3.2.2.2.2.2.1.2.1,a3.2.2.2.2.2.1.2.2.1,()),a3.2.2.2.2.2.2.1,a3.2.2.2.2.2.2.2.1,())
def sW5:List (Nat × Sh):=[(2,(.box T28 (.agg (.cons (.int .i64) (.cons (.int .i64) (.cons (.int .i64) (.cons (.sl T57) (.cons (.int .i64) (.cons T24 (.cons (.sl T66) (.cons (.sl T74) .nl)))))))) (.cons vI (.cons vI (.cons vI (.cons (.own T57 400200 false) (.cons vI (.cons (.agg (.cons (.int .i64) (.cons (.int .i64) (.cons (.sl (.int .i64)) .nl))) (.cons vI (.cons vI (.cons (.own (.int .i64) 400201 false) .nl)))) (.cons (.own T66 400202 false) (.cons (.own T74 400203 false) .nl))))))))))),(3,(.box T28 (.agg (.cons (.int .i64) (.cons (.int .i64) (.cons (.int .i64) (.cons (.sl T57) (.cons (.int .i64) (.cons T24 (.cons (.sl T66) (.cons (.sl T74) .nl)))))))) (.cons vI (.cons vI (.cons vI (.cons (.own T57 400300 false) (.cons vI (.cons (.agg (.cons (.int .i64) (.cons (.int .i64) (.cons (.sl (.int .i64)) .nl))) (.cons vI (.cons vI (.cons (.own (.int .i64) 400301 false) .nl)))) (.cons (.own T66 400302 false) (.cons (.own T74 400303 false) .nl)))))))))))]
def tS2:St → Option Out:=xO8 [(0,(.val (.sl (.int .i64))))] [(2,(.box T28 (.agg (.cons (.int .i64) (.cons (.int .i64) (.cons (.int .i64) (.cons (.sl T57) (.cons (.int .i64) (.cons T24 (.cons (.sl T66) (.cons (.sl T74) .nl)))))))) (.cons vI (.cons vI (.cons vI (.cons (.own T57 400200 false) (.cons vI (.cons (.agg (.cons (.int .i64) (.cons (.int .i64) (.cons (.sl (.int .i64)) .nl))) (.cons vI (.cons vI (.cons (.own (.int .i64) 400201 false) .nl)))) (.cons (.own T66 400202 false) (.cons (.own T74 400203 false) .nl))))))))))),(3,(.box T28 (.agg (.cons (.int .i64) (.cons (.int .i64) (.cons (.int .i64) (.cons (.sl T57) (.cons (.int .i64) (.cons T24 (.cons (.sl T66) (.cons (.sl T74) .nl)))))))) (.cons vI (.cons vI (.cons vI (.cons (.own T57 400300 false) (.cons vI (.cons (.agg (.cons (.int .i64) (.cons (.int .i64) (.cons (.sl (.int .i64)) .nl))) (.cons vI (.cons vI (.cons (.own (.int .i64) 400301 false) .nl)))) (.cons (.own T66 400302 false) (.cons (.own T74 400303 false) .nl))))))))))),(4,vI)] sG7 uB uM fun y x=>[ex 2 none sW5 ((rF6 y x),(tS1 y x),())]
def f22t (p0:(List Int)):Prop × D28 :=
 let y3:=(p0,())
 let x3:=(((0:Int),(0:Int),(0:Int),([]:List D57),(0:Int),((0:Int),(0:Int),([]:List Int),()),([]:List D66),([]:List D74),()),((4:Int),(4:Int),(0:Int),([]:List D57),(9:Int),((0:Int),(0:Int),([]:List Int),()),([]:List D66),([]:List D74),()),(0:Int),())
 let r3_2_1:=(tS1 y3 (zB9 (sG7 y3) (uB y3) x3))
 ((Am.Ends (sG7 y3) (uB y3) (uM y3) x3),(r3_2_1.1,r3_2_1.2.1,r3_2_1.2.2.1,r3_2_1.2.2.2.1,r3_2_1.2.2.2.2.1,(r3_2_1.2.2.2.2.2.1.1,r3_2_1.2.2.2.2.2.1.2.1,r3_2_1.2.2.2.2.2.1.2.2.1,()),r3_2_1.2.2.2.2.2.2.1,r3_2_1.2.2.2.2.2.2.2.1,()))
def tZ8 (p0:(List Int)):Prop:=(f22t p0).1
def f22 (p0:(List Int)):D28:=(f22t p0).2
instance (p0:(List Int)):Decidable (tZ8 p0):=by
 unfold tZ8 f22t
 try dsimp only
 infer_instance
def rR5:Am.Spec:=fnSpec [(0,(.val (.sl (.int .i64))))] (.val T28) [] (fun x=>tZ8 x.1) (fun x=>f22 x.1) (fun _=>())
def qT:Ctx:=Cx tys [] [(3,tS2)] [(11,[(4,0,26,400300)]),(13,[(4,0,400300,400200),(4,0,400301,400201),(4,0,400302,400202),(4,0,400303,400203)])] false 29 [] []
theorem qT0:CtxOk Tryz.prog qT:=xV6 tys_ok rfl trivial rfl (by kernel_rfl)
noncomputable def pL:Code:=Tryz.f22.body.getD .skip
noncomputable def pV1:Code:=xW5 pL 0
theorem qT1:yU1 Tryz.prog qT pV1:=xX3 qT0 mixed (sp:=tS2) rfl [sW5] (bs:=[]) (by kernel_rfl) trivial (by kernel_rfl) (by kernel_rfl) fun y x=>by kernel_rfl
theorem nF8:SpecOk Tryz.prog 22 rR5:=xX4 qT0 mixed Tryz.func22 (by kernel_rfl) (bs:=[pV1]) (by kernel_rfl) ⟨qT1,trivial⟩ fun x=>by kernel_rfl
def f23t (p0:D32) (p1:D32) (p2:D28):Prop × (D32 × Int × Unit) :=
 let v13:=(f8 p2 p0)
 let v17:=(v13.2.1 != 0)
 let v23:=(f8 v13.1 p1)
 let v27:=(v23.2.1 != 0)
 let v32:=(f5 p2 v23.1)
 let s_2:=(Z50,Z50,(0:Int),([]:List D57),([]:List D57),((0:Int),(0:Int),([]:List Int),()),((0:Int),(0:Int),([]:List Int),()),([]:List D66),([]:List D66),([]:List D74),([]:List D74),())
 let s_5:=(Z50,Z50,(0:Int),([]:List D57),([]:List D57),((0:Int),(0:Int),([]:List Int),()),((0:Int),(0:Int),([]:List Int),()),([]:List D66),([]:List D66),([]:List D74),([]:List D74),())
 (((uY5 p2 p0) ∧ ((!v17) = true → ((uY5 v13.1 p1) ∧ ((!v27) = true → (sU6 p2 v23.1))))),((bif v17 then s_5 else (bif v27 then s_2 else v32.1)),(bif v17 then v13.2.1 else (bif v27 then v23.2.1 else v32.2.1)),()))
def rR6 (p0:D32) (p1:D32) (p2:D28):Prop:=(f23t p0 p1 p2).1
def f23 (p0:D32) (p1:D32) (p2:D28):(D32 × Int × Unit):=(f23t p0 p1 p2).2
instance (p0:D32) (p1:D32) (p2:D28):Decidable (rR6 p0 p1 p2):=by
 unfold rR6 f23t
 try dsimp only
 infer_instance
def rR7:Am.Spec:=fnSpec [(0,(.val T32)),(1,(.val T32)),(2,(.val T28))] (.tup (.cons (.val T32) (.cons vI .nl))) [] (fun x=>rR6 x.1 x.2.1 x.2.2.1) (fun x=>f23 x.1 x.2.1 x.2.2.1) (fun _=>())
def oT5:Ctx:=Cx tys [(5,rF),(8,sG0)] [] [] false 35 [] []
theorem oT6:CtxOk Tryz.prog oT5:=xV6 tys_ok rfl ⟨nD6,oS7,trivial⟩ rfl (by kernel_rfl)
theorem nF9:SpecOk Tryz.prog 23 rR7:=xX4 oT6 mixed Tryz.func23 (by kernel_rfl) (bs:=[]) (by kernel_rfl) trivial fun x=>by kernel_rfl
def f7t :Prop × Bool :=
 let v20:=([(1:Int),(5:Int),(2:Int),(6:Int),(3:Int),(7:Int)]:List Int)
 let v21:=(f22 v20)
 let v22:=([(1:Int),(5:Int),(2:Int),(9:Int),(3:Int),(7:Int)]:List Int)
 let v23:=(f22 v22)
 let v24:=([(1:Int),(5:Int),(3:Int),(7:Int)]:List Int)
 let v25:=(f22 v24)
 let v29:=(f5 v21 v23)
 let v35:=(f5 v21 v25)
 let v41:=(f5 v21 v21)
 let v47:=(f8 v21 v29.1)
 let v59:=(f9 v29.1)
 let v60:=(f8 v47.1 v59)
 let v66:=(f9 v29.1)
 let v68:=(f23 v29.1 v66 v21)
 let s_1:=((0:Int),(0:Int),(0:Int),([]:List D57),(0:Int),((0:Int),(0:Int),([]:List Int),()),([]:List D66),([]:List D74),())
 let v95:=(bif (bif (bif (v29.2.1 == 0) then (v29.1.2.2.1 == 1) else false) then ((len v29.1.2.2.2.1) == 1) else false) then ((len v29.1.2.2.2.2.1) == 1) else false)
 let v100:=(bif v95 then ((f6 v29.1) == 2) else false)
 let v126:=(bif (bif (bif (bif (bif v100 then (!(f11 v29.1)) else false) then (v35.2.1 == 0) else false) then (v35.1.2.2.1 == 1) else false) then ((len v35.1.2.2.2.1) == 1) else false) then ((len v35.1.2.2.2.2.1) == 0) else false)
 let v135:=(bif (bif v126 then (v41.2.1 == 0) else false) then (v41.1.2.2.1 == 3) else false)
 let v140:=(bif v135 then ((f6 v41.1) == 0) else false)
 let v148:=(bif (bif v140 then (f11 v41.1) else false) then (v47.2.1 == 0) else false)
 let v161:=(bif (bif (bif v148 then (f10 v47.1 v23) else false) then ((f8 v47.1 v29.1).2.1 == 14) else false) then (v60.2.1 == 0) else false)
 let v170:=(bif (bif v161 then (f10 v60.1 v21) else false) then (v68.2.1 == 0) else false)
 (((tZ8 v20) ∧ ((tZ8 v22) ∧ ((tZ8 v24) ∧ ((sU6 v21 v23) ∧ ((sU6 v21 v25) ∧ ((sU6 v21 v21) ∧ ((uY5 v21 v29.1) ∧ ((uY5 v47.1 v29.1) ∧ ((rF4 v29.1) ∧ ((uY5 v47.1 v59) ∧ ((rF4 v29.1) ∧ ((rR6 v29.1 v66 v21) ∧ ((sU6 s_1 v21) ∧ ((v95 = true → (qP8 v29.1)) ∧ ((v100 = true → (tZ7 v29.1)) ∧ ((v135 = true → (qP8 v41.1)) ∧ ((v140 = true → (tZ7 v41.1)) ∧ ((v148 = true → (tS0 v47.1 v23)) ∧ ((v161 = true → (tS0 v60.1 v21)) ∧ (v170 = true → (tZ7 v68.1))))))))))))))))))))),(bif (bif v170 then (f11 v68.1) else false) then ((f5 s_1 v21).2.1 == 15) else false))
def rZ4 :Prop:=(f7t).1
def f7 :Bool:=(f7t).2
instance :Decidable (rZ4):=by
 unfold rZ4 f7t
 try dsimp only
 infer_instance
def qT2:Am.Spec:=fnSpec [] vB [] (fun x=>rZ4 ) (fun x=>f7 ) (fun _=>())
def nG:Ctx:=Cx tys [(5,rF),(6,qP9),(8,sG0),(9,rF5),(10,sG2),(11,rR4),(22,rR5),(23,rR7)] [] [] false 179 [] []
theorem nG0:CtxOk Tryz.prog nG:=xV6 tys_ok rfl ⟨nD6,nI8,oS7,nE8,pV0,nF7,nF8,nF9,trivial⟩ rfl (by kernel_rfl)
theorem nI9:SpecOk Tryz.prog 7 qT2:=xX4 nG0 mixed Tryz.func7 (by kernel_rfl) (bs:=[]) (by kernel_rfl) trivial fun x=>by kernel_rfl
def f4t (p0:D28) (p1:D32):Prop × Bool :=
 let v12:=(f8 p0 p1)
 let v16:=(v12.2.1 != 0)
 let v25:=(bif ((len v12.1.2.2.2.1) == 0) then (v12.1.1 == 0) else false)
 let v32:=(f9 p1)
 let v33:=(f8 v12.1 v32)
 let v37:=(v33.2.1 == 0)
 let v42:=(bif v37 then (f10 v33.1 p0) else false)
 (((uY5 p0 p1) ∧ ((v16 = true → (v25 = true → rZ4)) ∧ ((!v16) = true → ((rF4 p1) ∧ ((uY5 v12.1 v32) ∧ ((v37 = true → (tS0 v33.1 p0)) ∧ (v42 = true → rZ4))))))),(bif v16 then (bif v25 then f7 else false) else (bif v42 then f7 else false)))
def f4_ok (p0:D28) (p1:D32):Prop:=(f4t p0 p1).1
def f4 (p0:D28) (p1:D32):Bool:=(f4t p0 p1).2
instance (p0:D28) (p1:D32):Decidable (f4_ok p0 p1):=by
 unfold f4_ok f4t
 try dsimp only
 infer_instance
def oT7:Am.Spec:=fnSpec [(0,(.val T28)),(1,(.val T32))] vB [] (fun x=>f4_ok x.1 x.2.1) (fun x=>f4 x.1 x.2.1) (fun _=>())
def nG1:Ctx:=Cx tys [(7,qT2),(8,sG0),(9,rF5),(10,sG2)] [] [] false 46 [] []
theorem nG2:CtxOk Tryz.prog nG1:=xV6 tys_ok rfl ⟨nI9,oS7,nE8,pV0,trivial⟩ rfl (by kernel_rfl)
theorem f4_is:SpecOk Tryz.prog 4 oT7:=xX4 nG2 mixed Tryz.func4 (by kernel_rfl) (bs:=[]) (by kernel_rfl) trivial fun x=>by kernel_rfl
end Go.Proofs.YtigpekbhmpfcoaaGreatDoor.Am
