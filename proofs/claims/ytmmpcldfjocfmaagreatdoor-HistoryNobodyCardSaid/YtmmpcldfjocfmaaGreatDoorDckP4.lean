/- Printed by program, part 4. No condition. -/
import Derived.Test.YtmmpcldfjocfmaaGreatDoorDckP3
set_option linter.unusedVariables false
set_option synthInstance.maxSize 4000
set_option synthInstance.maxHeartbeats 400000
namespace Go.Proofs.YtmmpcldfjocfmaaGreatDoor.Am
open Go Go.Am Go.Proofs
def rU9 (p0:Unit):Prop×(List D85):=
 (((!true)=true→((List.length ([]:List D85)+List.length ([]:List D85):Nat):Int)≤4294967296),(bif true then [] else (([]:List D85)++([]:List D85))))
def sD p0:=(rU9 p0).1
def f49a p0:=(rU9 p0).2
instance (p0):Decidable (sD p0):=by unfold sD rU9;dsimp only;infer_instance
theorem rV:SK 49 (sp1 (.nn true) (.own T85 0 false) sD f49a):=fb Tryz.func49 8 [] [] [(7,[(4,0,7,0)])]
def rV0 (p0:Unit):Prop×(List D85):=
 (((!false)=true→((List.length ([]:List D85)+List.length ([]:List D85):Nat):Int)≤4294967296),(bif false then [] else (([]:List D85)++([]:List D85))))
def sD0 p0:=(rV0 p0).1
def f49b p0:=(rV0 p0).2
instance (p0):Decidable (sD0 p0):=by unfold sD0 rV0;dsimp only;infer_instance
theorem rV1:SK 49 (sp1 (.nn false) (.own T85 0 false) sD0 f49b):=fb Tryz.func49 8 [] [] [(7,[(4,0,7,0)])]
def rV2 (p0:List D85):Prop×(List D85):=
 ((0<List.length p0∧((!false)=true→((List.length ([]:List D85)+List.length p0:Nat):Int)≤4294967296)),(bif false then [] else (([]:List D85)++p0)))
def sD1 p0:=(rV2 p0).1
def f49c p0:=(rV2 p0).2
instance (p0):Decidable (sD1 p0):=by unfold sD1 rV2;dsimp only;infer_instance
theorem rV3:SK 49 (sp1 (.val (.sl T85)) (.own T85 0 false) sD1 f49c):=fb Tryz.func49 8 [] [] [(7,[(4,0,7,0)])]
def f49 (p0:List D85):List D85:=p0
def tJ6 (p0:List D85):Prop:=(List.length p0:Int)≤4294967296
instance (p0:List D85):Decidable (tJ6 p0):=by
  unfold tJ6
  infer_instance
def qC6:List (Nat×Sh):=[(0,(.val (.sl T85)))]
def rD6:Sh:=(.own T85 0 false)
def qC7:List (Nat×Sh):=[]
def sZ7:Am.Spec:=fnSpec qC6 rD6 qC7 (fun x=>tJ6 x.1) (fun x=>f49 x.1) (fun _=>())
theorem qC8:SpecOk Tryz.prog 49 sZ7:=wI0 (rs:=rD6) (F:=f49) (ok:=tJ6) rV rV1 rV3 (of_decide_eq_true (by kernel_rfl)) (of_decide_eq_true (by kernel_rfl)) (fun l h hp=>⟨hp,fun _=>by simpa[tJ6] using h⟩) rfl rfl (fun _=>rfl)
def rV4 (p0:Unit):Prop×(List D88):=
 (((!true)=true→((List.length ([]:List D88)+List.length ([]:List D88):Nat):Int)≤4294967296),(bif true then [] else (([]:List D88)++([]:List D88))))
def sD2 p0:=(rV4 p0).1
def f50a p0:=(rV4 p0).2
instance (p0):Decidable (sD2 p0):=by unfold sD2 rV4;dsimp only;infer_instance
theorem rV5:SK 50 (sp1 (.nn true) (.own T88 0 true) sD2 f50a):=fb Tryz.func50 8 [] [] [(7,[(4,0,7,0)])] false [] [5,7]
def rV6 (p0:Unit):Prop×(List D88):=
 (((!false)=true→((List.length ([]:List D88)+List.length ([]:List D88):Nat):Int)≤4294967296),(bif false then [] else (([]:List D88)++([]:List D88))))
def sD3 p0:=(rV6 p0).1
def f50b p0:=(rV6 p0).2
instance (p0):Decidable (sD3 p0):=by unfold sD3 rV6;dsimp only;infer_instance
theorem rV7:SK 50 (sp1 (.nn false) (.own T88 0 true) sD3 f50b):=fb Tryz.func50 8 [] [] [(7,[(4,0,7,0)])] false [] [5,7]
def rV8 (p0:List D88):Prop×(List D88):=
 ((0<List.length p0∧((!false)=true→((List.length ([]:List D88)+List.length p0:Nat):Int)≤4294967296)),(bif false then [] else (([]:List D88)++p0)))
def sD4 p0:=(rV8 p0).1
def f50c p0:=(rV8 p0).2
instance (p0):Decidable (sD4 p0):=by unfold sD4 rV8;dsimp only;infer_instance
theorem rV9:SK 50 (sp1 (.val (.sl T88)) (.own T88 0 true) sD4 f50c):=fb Tryz.func50 8 [] [] [(7,[(4,0,7,0)])] false [] [5,7]
def f50 (p0:List D88):List D88:=p0
def tJ7 (p0:List D88):Prop:=(List.length p0:Int)≤4294967296
instance (p0:List D88):Decidable (tJ7 p0):=by
  unfold tJ7
  infer_instance
def qC9:List (Nat×Sh):=[(0,(.val (.sl T88)))]
def rD7:Sh:=(.own T88 0 true)
def qD:List (Nat×Sh):=[]
def sZ8:Am.Spec:=fnSpec qC9 rD7 qD (fun x=>tJ7 x.1) (fun x=>f50 x.1) (fun _=>())
theorem qD0:SpecOk Tryz.prog 50 sZ8:=wI0 (rs:=rD7) (F:=f50) (ok:=tJ7) rV5 rV7 rV9 (of_decide_eq_true (by kernel_rfl)) (of_decide_eq_true (by kernel_rfl)) (fun l h hp=>⟨hp,fun _=>by simpa[tJ7] using h⟩) rfl rfl (fun _=>rfl)
abbrev uG7:Type:=(D28×(Int×Int×Int×(List D80)×Int×(Int×Int×(List Int)×Unit)×(List D85)×(List D88)×Unit)×(List D80)×Int×Unit)
abbrev vJ6:Type:=((Int×Int×Int×(List D80)×Int×D24×(List D85)×(List D88)×Unit)×Int×Unit)
def tP4 (y:uG7)(x:vJ6):Prop×Bool×vJ6:=
 let a15:=y.2.2.1
 let a3:=x.1
 let a17:=x.2.1
 let v18:=(decide (a17<y.2.2.2.1))
 let v20:=(nth a15 a17 Z80)
 ((v18=true→(InB a17 (len a15)∧((sH1 v20 v20)∧(InB a17 (len a3.2.2.2.1)∧(a17<len a3.2.2.2.1∧InR (a17+1)))))),v18,((a3.1,a3.2.1,a3.2.2.1,(List.set a3.2.2.2.1 (Int.toNat a17) (f47 v20 v20).1),a3.2.2.2.2),(a17+1),()))
def uG8 y x:=(tP4 y x).1
def tP5 y x:=(tP4 y x).2.1
def vZ1 y x:=(tP4 y x).2.2
instance (y x):Decidable (uG8 y x):=by unfold uG8 tP4;dsimp only;infer_instance
def tD4 (y:uG7)(x:vJ6):(Int×Int×Int×(List D80)×Int×D24×(List D85)×(List D88)×Unit):=
 let a3:=x.1
 (a3.1,a3.2.1,a3.2.2.1,a3.2.2.2.1,a3.2.2.2.2.1,a3.2.2.2.2.2.1,a3.2.2.2.2.2.2.1,a3.2.2.2.2.2.2.2.1,())
def tV8:List (Nat×Sh):=[(1,(.box T28 (.val T28))),(2,(.box T28 (.agg (.cons (.int .i64) (.cons (.int .i64) (.cons (.int .i64) (.cons (.sl T80) (.cons (.int .i64) (.cons T24 (.cons (.sl T85) (.cons (.sl T88) .nl)))))))) (.cons vI (.cons vI (.cons vI (.cons (.val (.sl T80)) (.cons vI (.cons (.agg (.cons (.int .i64) (.cons (.int .i64) (.cons (.sl (.int .i64)) .nl))) (.cons vI (.cons vI (.cons (.val (.sl (.int .i64))) .nl)))) (.cons (.val (.sl T85)) (.cons (.val (.sl T88)) .nl))))))))))),(3,(.box T28 (.agg (.cons (.int .i64) (.cons (.int .i64) (.cons (.int .i64) (.cons (.sl T80) (.cons (.int .i64) (.cons T24 (.cons (.sl T85) (.cons (.sl T88) .nl)))))))) (.cons vI (.cons vI (.cons vI (.cons (.own T80 400300 true) (.cons vI (.cons (.val T24) (.cons (.val (.sl T85)) (.cons (.val (.sl T88)) .nl)))))))))))]
def sU2:=li [(1,(.box T28 (.val T28))),(2,(.box T28 (.agg (.cons (.int .i64) (.cons (.int .i64) (.cons (.int .i64) (.cons (.sl T80) (.cons (.int .i64) (.cons T24 (.cons (.sl T85) (.cons (.sl T88) .nl)))))))) (.cons vI (.cons vI (.cons vI (.cons (.val (.sl T80)) (.cons vI (.cons (.agg (.cons (.int .i64) (.cons (.int .i64) (.cons (.sl (.int .i64)) .nl))) (.cons vI (.cons vI (.cons (.val (.sl (.int .i64))) .nl)))) (.cons (.val (.sl T85)) (.cons (.val (.sl T88)) .nl))))))))))),(15,(.val (.sl T80))),(16,vI)] [(3,(.box T28 (.agg (.cons (.int .i64) (.cons (.int .i64) (.cons (.int .i64) (.cons (.sl T80) (.cons (.int .i64) (.cons T24 (.cons (.sl T85) (.cons (.sl T88) .nl)))))))) (.cons vI (.cons vI (.cons vI (.cons (.own T80 400300 true) (.cons vI (.cons (.val T24) (.cons (.val (.sl T85)) (.cons (.val (.sl T88)) .nl))))))))))),(17,vI)] tP5 vZ1 uG8 (fun y x=>[ex 2 none tV8 (y.1,y.2.1,(tD4 y x),())]) [tV8]
abbrev vP6:Type:=((Int×Int×Int×(List D80)×Int×(Int×Int×(List Int)×Unit)×(List D85)×(List D88)×Unit)×(List D88)×Int×Unit)
abbrev vA3:Type:=((Int×Int×Int×(List D80)×Int×D24×(List D85)×(List D88)×Unit)×Int×Unit)
def uT7 (y:vP6)(x:vA3):Prop×Bool×vA3:=
 let a48:=y.2.1
 let a3:=x.1
 let a50:=x.2.1
 let v51:=(decide (a50<y.2.2.1))
 let v53:=(nth a48 a50 Z88)
 let s_1:=((nth a3.2.2.2.2.2.2.2.1 a50 Z88).1,(nth a3.2.2.2.2.2.2.2.1 a50 Z88).2.1,(nth a3.2.2.2.2.2.2.2.1 a50 Z88).2.2.1,(nth a3.2.2.2.2.2.2.2.1 a50 Z88).2.2.2.1,((nth a3.2.2.2.2.2.2.2.1 a50 Z88).2.2.2.2.1.1,(nth a3.2.2.2.2.2.2.2.1 a50 Z88).2.2.2.2.1.2.1,(f51 v53.2.2.2.2.1.2.2.1),()),())
 ((v51=true→(InB a50 (len a48)∧((tD3 v53.2.2.2.2.1.2.2.1)∧(InB a50 (len a3.2.2.2.2.2.2.2.1)∧(a50<len a3.2.2.2.2.2.2.2.1∧InR (a50+1)))))),v51,((a3.1,a3.2.1,a3.2.2.1,a3.2.2.2.1,a3.2.2.2.2.1,a3.2.2.2.2.2.1,a3.2.2.2.2.2.2.1,(List.set a3.2.2.2.2.2.2.2.1 (Int.toNat a50) s_1),()),(a50+1),()))
def vV0 y x:=(uT7 y x).1
def tD5 y x:=(uT7 y x).2.1
def vP7 y x:=(uT7 y x).2.2
instance (y x):Decidable (vV0 y x):=by unfold vV0 uT7;dsimp only;infer_instance
def uR0 (y:vP6)(x:vA3):(Int×Int×Int×(List D80)×Int×D24×(List D85)×(List D88)×Unit):=
 let a3:=x.1
 (a3.1,a3.2.1,a3.2.2.1,a3.2.2.2.1,a3.2.2.2.2.1,a3.2.2.2.2.2.1,a3.2.2.2.2.2.2.1,a3.2.2.2.2.2.2.2.1,())
def tJ8:List (Nat×Sh):=[(2,(.box T28 (.agg (.cons (.int .i64) (.cons (.int .i64) (.cons (.int .i64) (.cons (.sl T80) (.cons (.int .i64) (.cons T24 (.cons (.sl T85) (.cons (.sl T88) .nl)))))))) (.cons vI (.cons vI (.cons vI (.cons (.val (.sl T80)) (.cons vI (.cons (.agg (.cons (.int .i64) (.cons (.int .i64) (.cons (.sl (.int .i64)) .nl))) (.cons vI (.cons vI (.cons (.val (.sl (.int .i64))) .nl)))) (.cons (.val (.sl T85)) (.cons (.val (.sl T88)) .nl))))))))))),(3,(.box T28 (.agg (.cons (.int .i64) (.cons (.int .i64) (.cons (.int .i64) (.cons (.sl T80) (.cons (.int .i64) (.cons T24 (.cons (.sl T85) (.cons (.sl T88) .nl)))))))) (.cons vI (.cons vI (.cons vI (.cons (.own T80 400300 true) (.cons vI (.cons (.val T24) (.cons (.own T85 400302 false) (.cons (.own T88 400303 true) .nl)))))))))))]
def sO:=li [(2,(.box T28 (.agg (.cons (.int .i64) (.cons (.int .i64) (.cons (.int .i64) (.cons (.sl T80) (.cons (.int .i64) (.cons T24 (.cons (.sl T85) (.cons (.sl T88) .nl)))))))) (.cons vI (.cons vI (.cons vI (.cons (.val (.sl T80)) (.cons vI (.cons (.agg (.cons (.int .i64) (.cons (.int .i64) (.cons (.sl (.int .i64)) .nl))) (.cons vI (.cons vI (.cons (.val (.sl (.int .i64))) .nl)))) (.cons (.val (.sl T85)) (.cons (.val (.sl T88)) .nl))))))))))),(48,(.val (.sl T88))),(49,vI)] [(3,(.box T28 (.agg (.cons (.int .i64) (.cons (.int .i64) (.cons (.int .i64) (.cons (.sl T80) (.cons (.int .i64) (.cons T24 (.cons (.sl T85) (.cons (.sl T88) .nl)))))))) (.cons vI (.cons vI (.cons vI (.cons (.own T80 400300 true) (.cons vI (.cons (.val T24) (.cons (.own T85 400302 false) (.cons (.own T88 400303 true) .nl))))))))))),(50,vI)] tD5 vP7 vV0 (fun y x=>[ex 4 none tJ8 (y.1,(uR0 y x),())]) [tJ8]
def f23t (p0:D28):Prop×D28:=
 let v11:=(len p0.2.2.2.1)
 let y4:=(p0,((0:Int),(0:Int),(0:Int),([]:List D80),(0:Int),((0:Int),(0:Int),([]:List Int),()),([]:List D85),([]:List D88),()),p0.2.2.2.1,(len p0.2.2.2.1),())
 let x4:=((p0.1,p0.2.1,p0.2.2.1,(List.replicate (Int.toNat v11) Z80),p0.2.2.2.2),(0:Int),())
 let r4_2_0:=(tD4 y4 (zD9 (tP5 y4) (vZ1 y4) x4))
 let s_6:=(r4_2_0.1,r4_2_0.2.1,r4_2_0.2.2.1,r4_2_0.2.2.2.1,r4_2_0.2.2.2.2.1,(r4_2_0.2.2.2.2.2.1.1,r4_2_0.2.2.2.2.2.1.2.1,(f48 p0.2.2.2.2.2.1.2.2.1),()),(f49 p0.2.2.2.2.2.2.1),(f50 p0.2.2.2.2.2.2.2.1),())
 let y12:=(((0:Int),(0:Int),(0:Int),([]:List D80),(0:Int),((0:Int),(0:Int),([]:List Int),()),([]:List D85),([]:List D88),()),p0.2.2.2.2.2.2.2.1,(len p0.2.2.2.2.2.2.2.1),())
 let x12:=(s_6,(0:Int),())
 let r12_4_0:=(uR0 y12 (zD9 (tD5 y12) (vP7 y12) x12))
 (((0≤v11∧v11≤v11∧v11≤4294967296)∧((wB6 (tP5 y4) (vZ1 y4) (uG8 y4) x4)∧((uR p0.2.2.2.2.2.1.2.2.1)∧((tJ6 p0.2.2.2.2.2.2.1)∧((tJ7 p0.2.2.2.2.2.2.2.1)∧(wB6 (tD5 y12) (vP7 y12) (vV0 y12) x12)))))),(r12_4_0.1,r12_4_0.2.1,r12_4_0.2.2.1,r12_4_0.2.2.2.1,r12_4_0.2.2.2.2.1,r12_4_0.2.2.2.2.2.1,r12_4_0.2.2.2.2.2.2.1,r12_4_0.2.2.2.2.2.2.2.1,()))
def tJ9 p0:=(f23t p0).1
def f23 p0:=(f23t p0).2
instance (p0):Decidable (tJ9 p0):=by unfold tJ9 f23t;dsimp only;infer_instance
theorem sU3:SK 23 (sp1 (.val T28) (.val T28) tJ9 f23):=fx (fun c=>{ c with dead:=[30] }) Tryz.func23 67 [kb qC5,kb rD0,kb qC8,kb qD0,kb rD2] [(4,sU2),(12,sO)] [(5,[(4,0,12,400300)]),(19,[(4,0,41,400302)]),(21,[(4,0,45,400303)]),(32,[(1,3,3,0),(1,3,7,0)]),(33,[(4,0,400300,400200),(4,0,400302,400202),(4,0,400303,400203)])] false [] [12]
def sD5 (p0:D61)(p1:Int):Prop×Bool:=
 (True,(p0.1.1==p1))
def uG9 p0 p1:=(sD5 p0 p1).1
def rD8 p0 p1:=(sD5 p0 p1).2
instance (p0 p1):Decidable (uG9 p0 p1):=by unfold uG9 sD5;dsimp only;infer_instance
theorem sU4:SK 46 (sp2 (.val T61) (.val (.ptr (.int .i64))) vB uG9 rD8):=fb Tryz.func46 9
abbrev wQ:Type:=((List D61)×(Int×Unit)×Int×Unit)
abbrev wN5:Type:=(Int×Unit)
def wX4 (y:wQ)(x:wN5):Prop×Bool×wN5×Bool×Bool:=
 let a0:=y.1
 let a1:=y.2.1
 let a8:=x.1
 let v9:=(decide (a8<y.2.2.1))
 let v14:=(nth a0 a8 Z61)
 let v16:=(rD8 v14 a1.1)
 ((v9=true→(InB a8 (len a0)∧((uG9 v14 a1.1)∧((!v16)=true→InR (a8+1))))),(v9&&(!v16)),((a8+1),()),(v9&&v16),(!v9))
def vB6 y x:=(wX4 y x).1
def vZ2 y x:=(wX4 y x).2.1
def vC4 y x:=(wX4 y x).2.2.1
def uR1 y x:=(wX4 y x).2.2.2.1
def tV9 y x:=(wX4 y x).2.2.2.2
instance (y x):Decidable (vB6 y x):=by unfold vB6 wX4;dsimp only;infer_instance
def vW4 (y:wQ)(x:wN5):Int:=
 x.1
def tW:=li [(0,(.val (.sl T61))),(1,(.fn 46 (.cons (.val (.ptr (.int .i64))) .nl))),(7,vI)] [(8,vI)] vZ2 vC4 vB6 (fun y x=>[ex 1 (some (uR1 y x)) [(4,vI)] ((vW4 y x),()),ex 2 (some (tV9 y x)) [] ()]) [[(4,vI)],[]]
def sD6 (p0:List D61)(p1:(Int×Unit)):Prop×Int:=
 let y2:=(p0,(p1.1,()),(len p0),())
 let x2:=((0:Int),())
 let e2:=(zD9 (vZ2 y2) (vC4 y2) x2)
 ((wB6 (vZ2 y2) (vC4 y2) (vB6 y2) x2),(bif (uR1 y2 e2) then (vW4 y2 e2) else (-1:Int)))
def uH p0 p1:=(sD6 p0 p1).1
def rD9 p0 p1:=(sD6 p0 p1).2
instance (p0 p1):Decidable (uH p0 p1):=by unfold uH sD6;dsimp only;infer_instance
theorem sU5:SK 45 (sp2 (.val (.sl T61)) (.fn 46 (.cons (.val (.ptr (.int .i64))) .nl)) vI uH rD9):=fb Tryz.func45 19 [kb sU4] [(2,tW)]
def f22t (p0:D34)(p1:Int):Prop×Int:=
 let s:=(p1,())
 ((uH p0.1 s),(rD9 p0.1 s))
def uH0 p0 p1:=(f22t p0 p1).1
def f22 p0 p1:=(f22t p0 p1).2
instance (p0 p1):Decidable (uH0 p0 p1):=by unfold uH0 f22t;dsimp only;infer_instance
theorem tK:SK 22 (sp2 (.val (.ptr T34)) vI vI uH0 f22):=fb Tryz.func22 11 [kb sU5] [] [(2,[(3,3,0,0)])]
abbrev uH1:Type:=(Int×(List D61)×Int×Unit)
abbrev vJ7:Type:=((List Int)×Int×Unit)
def tP6 (y:uH1)(x:vJ7):Prop×Bool×vJ7:=
 let a20:=y.2.1
 let a5:=x.1
 let a22:=x.2.1
 let v23:=(decide (a22<y.2.2.1))
 let v24:=(nth a20 a22 Z61)
 let v30:=(v24.1.2.1==y.1)
 let v35:=([v24.1.1]:List Int)
 ((v23=true→(InB a22 (len a20)∧((v30=true→((List.length a5+List.length v35:Nat):Int)≤4294967296)∧InR (a22+1)))),v23,((bif v30 then (a5++v35) else a5),(a22+1),()))
def uH2 y x:=(tP6 y x).1
def tP7 y x:=(tP6 y x).2.1
def vZ3 y x:=(tP6 y x).2.2
instance (y x):Decidable (uH2 y x):=by unfold uH2 tP6;dsimp only;infer_instance
def tD6 (y:uH1)(x:vJ7):(List Int):=
 x.1
def tW0:List (Nat×Sh):=[(5,(.own (.int .i64) 1005 false))]
def sU6:=li [(1,vI),(20,(.val (.sl T61))),(21,vI)] [(5,(.own (.int .i64) 1005 false)),(22,vI)] tP7 vZ3 uH2 (fun y x=>[ex 2 none tW0 ((tD6 y x),())]) [tW0]
def f13t (p0:D34)(p1:Int):Prop×(List Int):=
 let v10:=(!(f18 p0))
 let v16:=(bif v10 then true else (decide ((f22 p0 p1)<0)))
 let y5:=(p1,p0.1,(len p0.1),())
 let x5:=(([]:List Int),(0:Int),())
 (((vA8 p0)∧(((!v10)=true→(uH0 p0 p1))∧((!v16)=true→(wB6 (tP7 y5) (vZ3 y5) (uH2 y5) x5)))),(bif v16 then [] else (tD6 y5 (zD9 (tP7 y5) (vZ3 y5) x5))))
def sH2 p0 p1:=(f13t p0 p1).1
def f13 p0 p1:=(f13t p0 p1).2
instance (p0 p1):Decidable (sH2 p0 p1):=by unfold sH2 f13t;dsimp only;infer_instance
theorem sU7:SK 13 (sp2 (.val (.ptr T34)) vI (.own (.int .i64) 0 false) sH2 f13):=fb Tryz.func13 39 [kb vL5,kb tK] [(5,sU6)] [(17,[(4,0,36,1005)]),(21,[(4,0,1005,0)])]
abbrev vB7:Type:=(D34×(List D61)×Int×Unit)
abbrev wT9:Type:=(Int×Int×Unit)
def uL6 (y:vB7)(x:wT9):Prop×Bool×wT9×Bool×Bool:=
 let a0:=y.1
 let a9:=y.2.1
 let a11:=x.2.1
 let v12:=(decide (a11<y.2.2.1))
 let v14:=(nth a9 a11 Z61)
 let v23:=(v14.1.1 !=a0.2.1)
 let v32:=(bif v23 then ((len (f13 a0 v14.1.1))==0) else false)
 ((v12=true→(InB a11 (len a9)∧((v23=true→(sH2 a0 v14.1.1))∧((!v32)=true→InR (a11+1))))),(v12&&(!v32)),((bif (v14.1.2.1==0) then a11 else x.1),(a11+1),()),(v12&&v32),(!v12))
def uH3 y x:=(uL6 y x).1
def tP8 y x:=(uL6 y x).2.1
def vZ4 y x:=(uL6 y x).2.2.1
def tW1 y x:=(uL6 y x).2.2.2.1
def sU8 y x:=(uL6 y x).2.2.2.2
instance (y x):Decidable (uH3 y x):=by unfold uH3 uL6;dsimp only;infer_instance
def tD7 (y:vB7)(x:wT9):Int:=
 x.2.1
def tD8 (y:vB7)(x:wT9):Int:=
 x.1
def sU9:=li [(0,(.val (.ptr T34))),(9,(.val (.sl T61))),(10,vI)] [(3,vI),(11,vI)] tP8 vZ4 uH3 (fun y x=>[ex 1 (some (tW1 y x)) [(2,vI)] ((tD7 y x),()),ex 2 (some (sU8 y x)) [(3,vI)] ((tD8 y x),())]) [[(2,vI)],[(3,vI)]]
def f24t (p0:D34):Prop×Int:=
 let y3:=(p0,p0.1,(len p0.1),())
 let x3:=((0:Int),(0:Int),())
 let e3:=(zD9 (tP8 y3) (vZ4 y3) x3)
 ((wB6 (tP8 y3) (vZ4 y3) (uH3 y3) x3),(bif (tW1 y3 e3) then (tD7 y3 e3) else (tD8 y3 e3)))
def sH3 p0:=(f24t p0).1
def f24 p0:=(f24t p0).2
instance (p0):Decidable (sH3 p0):=by unfold sH3 f24t;dsimp only;infer_instance
theorem qD1:SK 24 (sp1 (.val (.ptr T34)) vI sH3 f24):=fb Tryz.func24 41 [kb sU7] [(3,sU9)]
def f25 (p0:List D61)(p1 p2:Int):List D61:=List.take (Int.toNat p1) p0++List.drop (Int.toNat p2) p0
def sH4 (p0:List D61)(p1 p2:Int):Prop:=0≤p1∧p1<p2∧p2≤(List.length p0:Int)
instance (p0:List D61)(p1 p2:Int):Decidable (sH4 p0 p1 p2):=by
  unfold sH4
  infer_instance
def qD2:List (Nat×Sh):=[(0,(.own T61 400000 true)),(1,(.val (.int .i64))),(2,(.val (.int .i64)))]
def qD3:Sh:=(.own T61 0 true)
def qD4:List (Nat×Sh):=[]
def sZ9:Am.Spec:=fnSpec qD2 qD3 qD4 (fun x=>sH4 x.1 x.2.1 x.2.2.1) (fun x=>f25 x.1 x.2.1 x.2.2.1) (fun _=>())
theorem qD5:SpecOk Tryz.prog 25 sZ9:=sY2 rfl ⟨_,Tryz.func25,by kernel_rfl,by decide⟩ rF2
abbrev vJ8:Type:=((List Int)×(List Int)×Int×Unit)
abbrev wW2:Type:=(Int×Unit)
def uL7 (y:vJ8)(x:wW2):Prop×Bool×wW2×Bool×Bool:=
 let a0:=y.1
 let a1:=y.2.1
 let a13:=x.1
 let v14:=(decide (a13<y.2.2.1))
 let v24:=((nth a0 a13 (0:Int))!=(nth a1 a13 (0:Int)))
 ((v14=true→(InB a13 (len a0)∧(InB a13 (len a1)∧((!v24)=true→InR (a13+1))))),(v14&&(!v24)),((a13+1),()),(v14&&v24),(!v14))
def uH4 y x:=(uL7 y x).1
def tP9 y x:=(uL7 y x).2.1
def vZ5 y x:=(uL7 y x).2.2.1
def tW2 y x:=(uL7 y x).2.2.2.1
def sV y x:=(uL7 y x).2.2.2.2
instance (y x):Decidable (uH4 y x):=by unfold uH4 uL7;dsimp only;infer_instance
def tD9 (y:vJ8)(x:wW2):Bool:=
 false
def sV0:=li [(0,(.val (.sl (.int .i64)))),(1,(.val (.sl (.int .i64)))),(12,vI)] [(13,vI)] tP9 vZ5 uH4 (fun y x=>[ex 1 (some (tW2 y x)) [(4,vB)] ((tD9 y x),()),ex 2 (some (sV y x)) [] ()]) [[(4,vB)],[]]
def f30t (p0:List Int)(p1:List Int):Prop×Bool:=
 let v10:=((len p0)!=(len p1))
 let y4:=(p0,p1,(len p0),())
 let x4:=((0:Int),())
 let e4:=(zD9 (tP9 y4) (vZ5 y4) x4)
 (((!v10)=true→(wB6 (tP9 y4) (vZ5 y4) (uH4 y4) x4)),(bif v10 then false else (bif (tW2 y4 e4) then (tD9 y4 e4) else true)))
def tK0 p0 p1:=(f30t p0 p1).1
def f30 p0 p1:=(f30t p0 p1).2
instance (p0 p1):Decidable (tK0 p0 p1):=by unfold tK0 f30t;dsimp only;infer_instance
theorem sV1:SK 30 (sp2 (.val (.sl (.int .i64))) (.val (.sl (.int .i64))) vB tK0 f30):=fb Tryz.func30 26 [] [(4,sV0)]
abbrev vJ9:Type:=((List D73)×(List D73)×Int×Unit)
abbrev wW3:Type:=(Int×Unit)
def uL8 (y:vJ9)(x:wW3):Prop×Bool×wW3×Bool×Bool:=
 let a0:=y.1
 let a1:=y.2.1
 let a13:=x.1
 let v14:=(decide (a13<y.2.2.1))
 let v24:=(!(Ty.eqb T73 (nth a0 a13 Z73) (nth a1 a13 Z73)))
 ((v14=true→(InB a13 (len a0)∧(InB a13 (len a1)∧((!v24)=true→InR (a13+1))))),(v14&&(!v24)),((a13+1),()),(v14&&v24),(!v14))
def uH5 y x:=(uL8 y x).1
def tQ y x:=(uL8 y x).2.1
def vZ6 y x:=(uL8 y x).2.2.1
def tW3 y x:=(uL8 y x).2.2.2.1
def sV2 y x:=(uL8 y x).2.2.2.2
instance (y x):Decidable (uH5 y x):=by unfold uH5 uL8;dsimp only;infer_instance
def tE (y:vJ9)(x:wW3):Bool:=
 false
def sV3:=li [(0,(.val (.sl T73))),(1,(.val (.sl T73))),(12,vI)] [(13,vI)] tQ vZ6 uH5 (fun y x=>[ex 1 (some (tW3 y x)) [(4,vB)] ((tE y x),()),ex 2 (some (sV2 y x)) [] ()]) [[(4,vB)],[]]
def f73t (p0:List D73)(p1:List D73):Prop×Bool:=
 let v10:=((len p0)!=(len p1))
 let y4:=(p0,p1,(len p0),())
 let x4:=((0:Int),())
 let e4:=(zD9 (tQ y4) (vZ6 y4) x4)
 (((!v10)=true→(wB6 (tQ y4) (vZ6 y4) (uH5 y4) x4)),(bif v10 then false else (bif (tW3 y4 e4) then (tE y4 e4) else true)))
def sH5 p0 p1:=(f73t p0 p1).1
def f73 p0 p1:=(f73t p0 p1).2
instance (p0 p1):Decidable (sH5 p0 p1):=by unfold sH5 f73t;dsimp only;infer_instance
theorem qD6:SK 73 (sp2 (.val (.sl T73)) (.val (.sl T73)) vB sH5 f73):=fb Tryz.func73 26 [] [(4,sV3)]
def f53t (p0:D71)(p1:D71):Prop×Bool:=
 let v16:=(bif (p0.1==p1.1) then (p0.2.1==p1.2.1) else false)
 ((v16=true→(sH5 p0.2.2.1 p1.2.2.1)),(bif v16 then (f73 p0.2.2.1 p1.2.2.1) else false))
def tW4 p0 p1:=(f53t p0 p1).1
def f53 p0 p1:=(f53t p0 p1).2
instance (p0 p1):Decidable (tW4 p0 p1):=by unfold tW4 f53t;dsimp only;infer_instance
theorem rE:SK 53 (sp2 (.val T71) (.val T71) vB tW4 f53):=fb Tryz.func53 24 [kb qD6]
abbrev vK:Type:=((List D120)×(List D120)×Int×Unit)
abbrev wW4:Type:=(Int×Unit)
def uL9 (y:vK)(x:wW4):Prop×Bool×wW4×Bool×Bool:=
 let a0:=y.1
 let a1:=y.2.1
 let a13:=x.1
 let v14:=(decide (a13<y.2.2.1))
 let v24:=(!(Ty.eqb T120 (nth a0 a13 Z120) (nth a1 a13 Z120)))
 ((v14=true→(InB a13 (len a0)∧(InB a13 (len a1)∧((!v24)=true→InR (a13+1))))),(v14&&(!v24)),((a13+1),()),(v14&&v24),(!v14))
def uH6 y x:=(uL9 y x).1
def tQ0 y x:=(uL9 y x).2.1
def vZ7 y x:=(uL9 y x).2.2.1
def tW5 y x:=(uL9 y x).2.2.2.1
def sV4 y x:=(uL9 y x).2.2.2.2
instance (y x):Decidable (uH6 y x):=by unfold uH6 uL9;dsimp only;infer_instance
def tE0 (y:vK)(x:wW4):Bool:=
 false
def sV5:=li [(0,(.val (.sl T120))),(1,(.val (.sl T120))),(12,vI)] [(13,vI)] tQ0 vZ7 uH6 (fun y x=>[ex 1 (some (tW5 y x)) [(4,vB)] ((tE0 y x),()),ex 2 (some (sV4 y x)) [] ()]) [[(4,vB)],[]]
def f70t (p0:List D120)(p1:List D120):Prop×Bool:=
 let v10:=((len p0)!=(len p1))
 let y4:=(p0,p1,(len p0),())
 let x4:=((0:Int),())
 let e4:=(zD9 (tQ0 y4) (vZ7 y4) x4)
 (((!v10)=true→(wB6 (tQ0 y4) (vZ7 y4) (uH6 y4) x4)),(bif v10 then false else (bif (tW5 y4 e4) then (tE0 y4 e4) else true)))
def sH6 p0 p1:=(f70t p0 p1).1
def f70 p0 p1:=(f70t p0 p1).2
instance (p0 p1):Decidable (sH6 p0 p1):=by unfold sH6 f70t;dsimp only;infer_instance
theorem qD7:SK 70 (sp2 (.val (.sl T120)) (.val (.sl T120)) vB sH6 f70):=fb Tryz.func70 26 [] [(4,sV5)]
abbrev vK0:Type:=((List D126)×(List D126)×Int×Unit)
abbrev wW5:Type:=(Int×Unit)
def uM (y:vK0)(x:wW5):Prop×Bool×wW5×Bool×Bool:=
 let a0:=y.1
 let a1:=y.2.1
 let a13:=x.1
 let v14:=(decide (a13<y.2.2.1))
 let v24:=(!(Ty.eqb T126 (nth a0 a13 Z126) (nth a1 a13 Z126)))
 ((v14=true→(InB a13 (len a0)∧(InB a13 (len a1)∧((!v24)=true→InR (a13+1))))),(v14&&(!v24)),((a13+1),()),(v14&&v24),(!v14))
def uH7 y x:=(uM y x).1
def tQ1 y x:=(uM y x).2.1
def vZ8 y x:=(uM y x).2.2.1
def tW6 y x:=(uM y x).2.2.2.1
def sV6 y x:=(uM y x).2.2.2.2
instance (y x):Decidable (uH7 y x):=by unfold uH7 uM;dsimp only;infer_instance
def tE1 (y:vK0)(x:wW5):Bool:=
 false
def sV7:=li [(0,(.val (.sl T126))),(1,(.val (.sl T126))),(12,vI)] [(13,vI)] tQ1 vZ8 uH7 (fun y x=>[ex 1 (some (tW6 y x)) [(4,vB)] ((tE1 y x),()),ex 2 (some (sV6 y x)) [] ()]) [[(4,vB)],[]]
def f71t (p0:List D126)(p1:List D126):Prop×Bool:=
 let v10:=((len p0)!=(len p1))
 let y4:=(p0,p1,(len p0),())
 let x4:=((0:Int),())
 let e4:=(zD9 (tQ1 y4) (vZ8 y4) x4)
 (((!v10)=true→(wB6 (tQ1 y4) (vZ8 y4) (uH7 y4) x4)),(bif v10 then false else (bif (tW6 y4 e4) then (tE1 y4 e4) else true)))
def sH7 p0 p1:=(f71t p0 p1).1
def f71 p0 p1:=(f71t p0 p1).2
instance (p0 p1):Decidable (sH7 p0 p1):=by unfold sH7 f71t;dsimp only;infer_instance
theorem qD8:SK 71 (sp2 (.val (.sl T126)) (.val (.sl T126)) vB sH7 f71):=fb Tryz.func71 26 [] [(4,sV7)]
abbrev vK1:Type:=((List D123)×(List D123)×Int×Unit)
abbrev wW6:Type:=(Int×Unit)
def uM0 (y:vK1)(x:wW6):Prop×Bool×wW6×Bool×Bool:=
 let a0:=y.1
 let a1:=y.2.1
 let a13:=x.1
 let v14:=(decide (a13<y.2.2.1))
 let v24:=(!(Ty.eqb T123 (nth a0 a13 Z123) (nth a1 a13 Z123)))
 ((v14=true→(InB a13 (len a0)∧(InB a13 (len a1)∧((!v24)=true→InR (a13+1))))),(v14&&(!v24)),((a13+1),()),(v14&&v24),(!v14))
def uH8 y x:=(uM0 y x).1
def tQ2 y x:=(uM0 y x).2.1
def vZ9 y x:=(uM0 y x).2.2.1
def tW7 y x:=(uM0 y x).2.2.2.1
def sV8 y x:=(uM0 y x).2.2.2.2
instance (y x):Decidable (uH8 y x):=by unfold uH8 uM0;dsimp only;infer_instance
def tE2 (y:vK1)(x:wW6):Bool:=
 false
def sV9:=li [(0,(.val (.sl T123))),(1,(.val (.sl T123))),(12,vI)] [(13,vI)] tQ2 vZ9 uH8 (fun y x=>[ex 1 (some (tW7 y x)) [(4,vB)] ((tE2 y x),()),ex 2 (some (sV8 y x)) [] ()]) [[(4,vB)],[]]
def f72t (p0:List D123)(p1:List D123):Prop×Bool:=
 let v10:=((len p0)!=(len p1))
 let y4:=(p0,p1,(len p0),())
 let x4:=((0:Int),())
 let e4:=(zD9 (tQ2 y4) (vZ9 y4) x4)
 (((!v10)=true→(wB6 (tQ2 y4) (vZ9 y4) (uH8 y4) x4)),(bif v10 then false else (bif (tW7 y4 e4) then (tE2 y4 e4) else true)))
def sH8 p0 p1:=(f72t p0 p1).1
def f72 p0 p1:=(f72t p0 p1).2
instance (p0 p1):Decidable (sH8 p0 p1):=by unfold sH8 f72t;dsimp only;infer_instance
theorem qD9:SK 72 (sp2 (.val (.sl T123)) (.val (.sl T123)) vB sH8 f72):=fb Tryz.func72 26 [] [(4,sV9)]
def f52t (p0:D80)(p1:D80):Prop×Bool:=
 let v17:=(bif (!(f53 p0.2.2.2.2.2.2.2.2.2.2.2.2.1 p1.2.2.2.2.2.2.2.2.2.2.2.2.1)) then true else (!(Ty.eqb T73 p0.2.2.2.2.2.2.2.2.2.2.2.2.2.1 p1.2.2.2.2.2.2.2.2.2.2.2.2.2.1)))
 let v29:=(bif (p0.2.2.2.2.2.2.2.2.2.2.2.2.2.2.1 !=p1.2.2.2.2.2.2.2.2.2.2.2.2.2.2.1) then true else (p0.2.2.2.2.2.2.2.2.2.2.2.2.2.2.2.2.1 !=p1.2.2.2.2.2.2.2.2.2.2.2.2.2.2.2.2.1))
 let v35:=(!(f30 p0.2.2.2.2.2.2.2.2.2.2.2.2.2.2.2.1 p1.2.2.2.2.2.2.2.2.2.2.2.2.2.2.2.1))
 let v43:=(bif v35 then true else (!(f70 p0.2.2.2.2.2.2.2.2.2.2.2.2.2.2.2.2.2.1 p1.2.2.2.2.2.2.2.2.2.2.2.2.2.2.2.2.2.1)))
 let v51:=(bif v43 then true else (!(f71 p0.2.2.2.2.2.2.2.2.2.2.2.2.2.2.2.2.2.2.1 p1.2.2.2.2.2.2.2.2.2.2.2.2.2.2.2.2.2.2.1)))
 let v63:=(bif (p0.2.2.2.2.2.2.2.2.2.2.2.2.2.2.2.2.2.2.2.1 !=p1.2.2.2.2.2.2.2.2.2.2.2.2.2.2.2.2.2.2.2.1) then true else (p0.2.2.2.2.2.2.2.2.2.2.2.2.2.2.2.2.2.2.2.2.1 !=p1.2.2.2.2.2.2.2.2.2.2.2.2.2.2.2.2.2.2.2.2.1))
 let v77:=(bif (bif v63 then true else (p0.2.2.2.2.2.2.2.2.2.2.2.2.2.2.2.2.2.2.2.2.2.1 !=p1.2.2.2.2.2.2.2.2.2.2.2.2.2.2.2.2.2.2.2.2.2.1)) then true else (p0.2.2.2.2.2.2.2.2.2.2.2.2.2.2.2.2.2.2.2.2.2.2.1 !=p1.2.2.2.2.2.2.2.2.2.2.2.2.2.2.2.2.2.2.2.2.2.2.1))
 let v89:=(bif (!(p0.2.2.2.2.2.2.2.2.2.2.2.2.2.2.2.2.2.2.2.2.2.2.2.1==p1.2.2.2.2.2.2.2.2.2.2.2.2.2.2.2.2.2.2.2.2.2.2.2.1)) then true else (p0.2.2.2.2.2.2.2.2.2.2.2.2.2.2.2.2.2.2.2.2.2.2.2.2.1 !=p1.2.2.2.2.2.2.2.2.2.2.2.2.2.2.2.2.2.2.2.2.2.2.2.2.1))
 let v103:=(bif (bif v89 then true else (p0.2.2.2.2.2.2.2.2.2.2.2.2.2.2.2.2.2.2.2.2.2.2.2.2.2.1 !=p1.2.2.2.2.2.2.2.2.2.2.2.2.2.2.2.2.2.2.2.2.2.2.2.2.2.1)) then true else (p0.2.2.2.2.2.2.2.2.2.2.2.2.2.2.2.2.2.2.2.2.2.2.2.2.2.2.1 !=p1.2.2.2.2.2.2.2.2.2.2.2.2.2.2.2.2.2.2.2.2.2.2.2.2.2.2.1))
 let v119:=(bif (p0.2.2.2.2.2.2.2.2.2.2.2.2.2.2.2.2.2.2.2.2.2.2.2.2.2.2.2.1.1 !=p1.2.2.2.2.2.2.2.2.2.2.2.2.2.2.2.2.2.2.2.2.2.2.2.2.2.2.2.1.1) then true else (p0.2.2.2.2.2.2.2.2.2.2.2.2.2.2.2.2.2.2.2.2.2.2.2.2.2.2.2.1.2.1 !=p1.2.2.2.2.2.2.2.2.2.2.2.2.2.2.2.2.2.2.2.2.2.2.2.2.2.2.2.1.2.1))
 let v128:=(bif v119 then true else (p0.2.2.2.2.2.2.2.2.2.2.2.2.2.2.2.2.2.2.2.2.2.2.2.2.2.2.2.1.2.2.1 !=p1.2.2.2.2.2.2.2.2.2.2.2.2.2.2.2.2.2.2.2.2.2.2.2.2.2.2.2.1.2.2.1))
 let m4_2:=(bif v77 then false else (bif v103 then false else (bif v128 then false else (f72 p0.2.2.2.2.2.2.2.2.2.2.2.2.2.2.2.2.2.2.2.2.2.2.2.2.2.2.2.1.2.2.2.1 p1.2.2.2.2.2.2.2.2.2.2.2.2.2.2.2.2.2.2.2.2.2.2.2.2.2.2.2.1.2.2.2.1))))
 (((tW4 p0.2.2.2.2.2.2.2.2.2.2.2.2.1 p1.2.2.2.2.2.2.2.2.2.2.2.2.1)∧((!v17)=true→((!v29)=true→((tK0 p0.2.2.2.2.2.2.2.2.2.2.2.2.2.2.2.1 p1.2.2.2.2.2.2.2.2.2.2.2.2.2.2.2.1)∧(((!v35)=true→(sH6 p0.2.2.2.2.2.2.2.2.2.2.2.2.2.2.2.2.2.1 p1.2.2.2.2.2.2.2.2.2.2.2.2.2.2.2.2.2.1))∧(((!v43)=true→(sH7 p0.2.2.2.2.2.2.2.2.2.2.2.2.2.2.2.2.2.2.1 p1.2.2.2.2.2.2.2.2.2.2.2.2.2.2.2.2.2.2.1))∧((!v51)=true→((!v77)=true→((!v103)=true→((!v128)=true→(sH8 p0.2.2.2.2.2.2.2.2.2.2.2.2.2.2.2.2.2.2.2.2.2.2.2.2.2.2.2.1.2.2.2.1 p1.2.2.2.2.2.2.2.2.2.2.2.2.2.2.2.2.2.2.2.2.2.2.2.2.2.2.2.1.2.2.2.1))))))))))),(bif v17 then false else (bif v29 then false else (bif v51 then false else m4_2))))
def sH9 p0 p1:=(f52t p0 p1).1
def f52 p0 p1:=(f52t p0 p1).2
instance (p0 p1):Decidable (sH9 p0 p1):=by unfold sH9 f52t;dsimp only;infer_instance
theorem qE:SK 52 (sp2 (.val T80) (.val T80) vB sH9 f52):=fb Tryz.func52 136 [kb sV1,kb rE,kb qD7,kb qD8,kb qD9]
def f29t (p0:D80)(p1:D80):Prop×Bool:=
 let v30:=(bif (bif (bif (p0.1 !=p1.1) then true else (p0.2.1 !=p1.2.1)) then true else (p0.2.2.1 !=p1.2.2.1)) then true else (!(p0.2.2.2.1==p1.2.2.2.1)))
 let v49:=(bif (bif (!(Ty.eqb .bool p0.2.2.2.2.1 p1.2.2.2.2.1)) then true else (!(Ty.eqb .bool p0.2.2.2.2.2.1 p1.2.2.2.2.2.1))) then true else (!(Ty.eqb .bool p0.2.2.2.2.2.2.1 p1.2.2.2.2.2.2.1)))
 let v75:=(bif (bif (bif (p0.2.2.2.2.2.2.2.1 !=p1.2.2.2.2.2.2.2.1) then true else (p0.2.2.2.2.2.2.2.2.1 !=p1.2.2.2.2.2.2.2.2.1)) then true else (!(Ty.eqb T68 p0.2.2.2.2.2.2.2.2.2.2.1 p1.2.2.2.2.2.2.2.2.2.2.1))) then true else (p0.2.2.2.2.2.2.2.2.2.2.2.1 !=p1.2.2.2.2.2.2.2.2.2.2.2.1))
 let v91:=(bif (p0.2.2.2.2.2.2.2.2.2.1.1 !=p1.2.2.2.2.2.2.2.2.2.1.1) then true else (p0.2.2.2.2.2.2.2.2.2.1.2.1 !=p1.2.2.2.2.2.2.2.2.2.1.2.1))
 let v101:=(bif v91 then true else (!(f30 p0.2.2.2.2.2.2.2.2.2.1.2.2.1 p1.2.2.2.2.2.2.2.2.2.1.2.2.1)))
 (((!v30)=true→((!v49)=true→((!v75)=true→(((!v91)=true→(tK0 p0.2.2.2.2.2.2.2.2.2.1.2.2.1 p1.2.2.2.2.2.2.2.2.2.1.2.2.1))∧((!v101)=true→(sH9 p0 p1)))))),(bif v30 then false else (bif v49 then false else (bif v75 then false else (bif v101 then false else (f52 p0 p1))))))
def sI p0 p1:=(f29t p0 p1).1
def f29 p0 p1:=(f29t p0 p1).2
instance (p0 p1):Decidable (sI p0 p1):=by unfold sI f29t;dsimp only;infer_instance
theorem qE0:SK 29 (sp2 (.val T80) (.val T80) vB sI f29):=fb Tryz.func29 105 [kb sV1,kb qE]
abbrev vK2:Type:=((List D85)×(List D85)×Int×Unit)
abbrev wW7:Type:=(Int×Unit)
def uM1 (y:vK2)(x:wW7):Prop×Bool×wW7×Bool×Bool:=
 let a0:=y.1
 let a1:=y.2.1
 let a13:=x.1
 let v14:=(decide (a13<y.2.2.1))
 let v24:=(!(Ty.eqb T85 (nth a0 a13 Z85) (nth a1 a13 Z85)))
 ((v14=true→(InB a13 (len a0)∧(InB a13 (len a1)∧((!v24)=true→InR (a13+1))))),(v14&&(!v24)),((a13+1),()),(v14&&v24),(!v14))
def uH9 y x:=(uM1 y x).1
def tQ3 y x:=(uM1 y x).2.1
def uA y x:=(uM1 y x).2.2.1
def tW8 y x:=(uM1 y x).2.2.2.1
def sW y x:=(uM1 y x).2.2.2.2
instance (y x):Decidable (uH9 y x):=by unfold uH9 uM1;dsimp only;infer_instance
def tE3 (y:vK2)(x:wW7):Bool:=
 false
def sW0:=li [(0,(.val (.sl T85))),(1,(.val (.sl T85))),(12,vI)] [(13,vI)] tQ3 uA uH9 (fun y x=>[ex 1 (some (tW8 y x)) [(4,vB)] ((tE3 y x),()),ex 2 (some (sW y x)) [] ()]) [[(4,vB)],[]]
def f31t (p0:List D85)(p1:List D85):Prop×Bool:=
 let v10:=((len p0)!=(len p1))
 let y4:=(p0,p1,(len p0),())
 let x4:=((0:Int),())
 let e4:=(zD9 (tQ3 y4) (uA y4) x4)
 (((!v10)=true→(wB6 (tQ3 y4) (uA y4) (uH9 y4) x4)),(bif v10 then false else (bif (tW8 y4 e4) then (tE3 y4 e4) else true)))
def sI0 p0 p1:=(f31t p0 p1).1
def f31 p0 p1:=(f31t p0 p1).2
instance (p0 p1):Decidable (sI0 p0 p1):=by unfold sI0 f31t;dsimp only;infer_instance
theorem qE1:SK 31 (sp2 (.val (.sl T85)) (.val (.sl T85)) vB sI0 f31):=fb Tryz.func31 26 [] [(4,sW0)]
def f33t (p0:D88)(p1:D88):Prop×Bool:=
 let v30:=(bif (bif (bif (p0.1 !=p1.1) then true else (!(p0.2.1==p1.2.1))) then true else (p0.2.2.1 !=p1.2.2.1)) then true else (p0.2.2.2.1 !=p1.2.2.2.1))
 (((!v30)=true→(tW4 p0.2.2.2.2.1 p1.2.2.2.2.1)),(bif v30 then false else (f53 p0.2.2.2.2.1 p1.2.2.2.2.1)))
def sI1 p0 p1:=(f33t p0 p1).1
def f33 p0 p1:=(f33t p0 p1).2
instance (p0 p1):Decidable (sI1 p0 p1):=by unfold sI1 f33t;dsimp only;infer_instance
theorem qE2:SK 33 (sp2 (.val T88) (.val T88) vB sI1 f33):=fb Tryz.func33 36 [kb rE]
abbrev wQ0:Type:=((List D80)×(Unit)×(List D80)×Int×Unit)
abbrev wN6:Type:=(Int×Unit)
def wX5 (y:wQ0)(x:wN6):Prop×Bool×wN6×Bool×Bool:=
 let a1:=y.1
 let a15:=y.2.2.1
 let a17:=x.1
 let v18:=(decide (a17<y.2.2.2.1))
 let v20:=(nth a15 a17 Z80)
 let v24:=(nth a1 a17 Z80)
 let v30:=(!(f29 v20 v24))
 ((v18=true→(InB a17 (len a15)∧(InB a17 (len a1)∧((sI v20 v24)∧((!v30)=true→InR (a17+1)))))),(v18&&(!v30)),((a17+1),()),(v18&&v30),(!v18))
def vB8 y x:=(wX5 y x).1
def uA0 y x:=(wX5 y x).2.1
def vC5 y x:=(wX5 y x).2.2.1
def uR2 y x:=(wX5 y x).2.2.2.1
def tW9 y x:=(wX5 y x).2.2.2.2
instance (y x):Decidable (vB8 y x):=by unfold vB8 wX5;dsimp only;infer_instance
def vW5 (y:wQ0)(x:wN6):Bool:=
 false
def tX:=li [(1,(.val (.sl T80))),(2,(.fn 29 .nl)),(15,(.val (.sl T80))),(16,vI)] [(17,vI)] uA0 vC5 vB8 (fun y x=>[ex 1 (some (uR2 y x)) [(6,vB)] ((vW5 y x),()),ex 2 (some (tW9 y x)) [] ()]) [[(6,vB)],[]]
def sD7 (p0:List D80)(p1:List D80)(p2:(Unit)):Prop×Bool:=
 let v14:=((len p0)!=(len p1))
 let y4:=(p1,(),p0,(len p0),())
 let x4:=((0:Int),())
 let e4:=(zD9 (uA0 y4) (vC5 y4) x4)
 (((!v14)=true→(wB6 (uA0 y4) (vC5 y4) (vB8 y4) x4)),(bif v14 then false else (bif (uR2 y4 e4) then (vW5 y4 e4) else true)))
def uI p0 p1 p2:=(sD7 p0 p1 p2).1
def rE0 p0 p1 p2:=(sD7 p0 p1 p2).2
instance (p0 p1 p2):Decidable (uI p0 p1 p2):=by unfold uI sD7;dsimp only;infer_instance
theorem sW1:SK 28 (sp3 (.val (.sl T80)) (.val (.sl T80)) (.fn 29 .nl) vB uI rE0):=fb Tryz.func28 32 [kb qE0] [(4,tX)]
abbrev wQ1:Type:=((List D88)×(Unit)×(List D88)×Int×Unit)
abbrev wN7:Type:=(Int×Unit)
def wX6 (y:wQ1)(x:wN7):Prop×Bool×wN7×Bool×Bool:=
 let a1:=y.1
 let a15:=y.2.2.1
 let a17:=x.1
 let v18:=(decide (a17<y.2.2.2.1))
 let v20:=(nth a15 a17 Z88)
 let v24:=(nth a1 a17 Z88)
 let v30:=(!(f33 v20 v24))
 ((v18=true→(InB a17 (len a15)∧(InB a17 (len a1)∧((sI1 v20 v24)∧((!v30)=true→InR (a17+1)))))),(v18&&(!v30)),((a17+1),()),(v18&&v30),(!v18))
def vB9 y x:=(wX6 y x).1
def uA1 y x:=(wX6 y x).2.1
def vC6 y x:=(wX6 y x).2.2.1
def uR3 y x:=(wX6 y x).2.2.2.1
def tX0 y x:=(wX6 y x).2.2.2.2
instance (y x):Decidable (vB9 y x):=by unfold vB9 wX6;dsimp only;infer_instance
def vW6 (y:wQ1)(x:wN7):Bool:=
 false
def tX1:=li [(1,(.val (.sl T88))),(2,(.fn 33 .nl)),(15,(.val (.sl T88))),(16,vI)] [(17,vI)] uA1 vC6 vB9 (fun y x=>[ex 1 (some (uR3 y x)) [(6,vB)] ((vW6 y x),()),ex 2 (some (tX0 y x)) [] ()]) [[(6,vB)],[]]
def sD8 (p0:List D88)(p1:List D88)(p2:(Unit)):Prop×Bool:=
 let v14:=((len p0)!=(len p1))
 let y4:=(p1,(),p0,(len p0),())
 let x4:=((0:Int),())
 let e4:=(zD9 (uA1 y4) (vC6 y4) x4)
 (((!v14)=true→(wB6 (uA1 y4) (vC6 y4) (vB9 y4) x4)),(bif v14 then false else (bif (uR3 y4 e4) then (vW6 y4 e4) else true)))
def uI0 p0 p1 p2:=(sD8 p0 p1 p2).1
def rE1 p0 p1 p2:=(sD8 p0 p1 p2).2
instance (p0 p1 p2):Decidable (uI0 p0 p1 p2):=by unfold uI0 sD8;dsimp only;infer_instance
theorem sW2:SK 32 (sp3 (.val (.sl T88)) (.val (.sl T88)) (.fn 33 .nl) vB uI0 rE1):=fb Tryz.func32 32 [kb qE2] [(4,tX1)]
def f15t (p0:D28)(p1:D28):Prop×Bool:=
 let v30:=(bif (bif (bif (p0.1 !=p1.1) then true else (p0.2.1 !=p1.2.1)) then true else (p0.2.2.1 !=p1.2.2.1)) then true else (p0.2.2.2.2.1 !=p1.2.2.2.2.1))
 let v36:=(!(rE0 p0.2.2.2.1 p1.2.2.2.1 ()))
 let v52:=(bif (p0.2.2.2.2.2.1.1 !=p1.2.2.2.2.2.1.1) then true else (p0.2.2.2.2.2.1.2.1 !=p1.2.2.2.2.2.1.2.1))
 let v62:=(bif v52 then true else (!(f30 p0.2.2.2.2.2.1.2.2.1 p1.2.2.2.2.2.1.2.2.1)))
 let v67:=(f31 p0.2.2.2.2.2.2.1 p1.2.2.2.2.2.2.1)
 (((!v30)=true→((uI p0.2.2.2.1 p1.2.2.2.1 ())∧((!v36)=true→(((!v52)=true→(tK0 p0.2.2.2.2.2.1.2.2.1 p1.2.2.2.2.2.1.2.2.1))∧((!v62)=true→((sI0 p0.2.2.2.2.2.2.1 p1.2.2.2.2.2.2.1)∧(v67=true→(uI0 p0.2.2.2.2.2.2.2.1 p1.2.2.2.2.2.2.2.1 ())))))))),(bif v30 then false else (bif v36 then false else (bif v62 then false else (bif v67 then (rE1 p0.2.2.2.2.2.2.2.1 p1.2.2.2.2.2.2.2.1 ()) else false)))))
def sI2 p0 p1:=(f15t p0 p1).1
def f15 p0 p1:=(f15t p0 p1).2
instance (p0 p1):Decidable (sI2 p0 p1):=by unfold sI2 f15t;dsimp only;infer_instance
theorem sW3:SK 15 (sp2 (.val T28) (.val T28) vB sI2 f15):=fb Tryz.func15 75 [kb sW1,kb sV1,kb qE1,kb sW2]
def f7t (p0:D30)(p1:D30):Prop×Bool:=
 let v23:=(bif (bif (p0.1==p1.1) then (p0.2.1==p1.2.1) else false) then (p0.2.2.1==p1.2.2.1) else false)
 ((v23=true→(sI2 p0.2.2.2.1 p1.2.2.2.1)),(bif v23 then (f15 p0.2.2.2.1 p1.2.2.2.1) else false))
def rW p0 p1:=(f7t p0 p1).1
def f7 p0 p1:=(f7t p0 p1).2
instance (p0 p1):Decidable (rW p0 p1):=by unfold rW f7t;dsimp only;infer_instance
theorem qE3:SK 7 (sp2 (.val T30) (.val T30) vB rW f7):=fb Tryz.func7 31 [kb sW3]
def f11t (p0:D34):Prop×Int:=
 ((vA8 p0),(bif (!(f18 p0)) then (0:Int) else p0.2.1))
def sW4 p0:=(f11t p0).1
def f11 p0:=(f11t p0).2
instance (p0):Decidable (sW4 p0):=by unfold sW4 f11t;dsimp only;infer_instance
theorem rE2:SK 11 (sp1 (.val (.ptr T34)) vI sW4 f11):=fb Tryz.func11 10 [kb vL5]
abbrev uI1:Type:=((List D61)×Int×Unit)
abbrev vK3:Type:=((List Int)×Int×Unit)
def tQ4 (y:uI1)(x:vK3):Prop×Bool×vK3:=
 let a12:=y.1
 let a3:=x.1
 let a14:=x.2.1
 let v15:=(decide (a14<y.2.1))
 let v22:=([(nth a12 a14 Z61).1.1]:List Int)
 ((v15=true→(InB a14 (len a12)∧(((List.length a3+List.length v22:Nat):Int)≤4294967296∧InR (a14+1)))),v15,((a3++v22),(a14+1),()))
def uI2 y x:=(tQ4 y x).1
def tQ5 y x:=(tQ4 y x).2.1
def uA2 y x:=(tQ4 y x).2.2
instance (y x):Decidable (uI2 y x):=by unfold uI2 tQ4;dsimp only;infer_instance
def tE4 (y:uI1)(x:vK3):(List Int):=
 x.1
def tX2:List (Nat×Sh):=[(3,(.own (.int .i64) 1003 false))]
def sW5:=li [(12,(.val (.sl T61))),(13,vI)] [(3,(.own (.int .i64) 1003 false)),(14,vI)] tQ5 uA2 uI2 (fun y x=>[ex 2 none tX2 ((tE4 y x),())]) [tX2]
def f12t (p0:D34):Prop×(List Int):=
 let v8:=(!(f18 p0))
 let y5:=(p0.1,(len p0.1),())
 let x5:=(([]:List Int),(0:Int),())
 (((vA8 p0)∧((!v8)=true→(wB6 (tQ5 y5) (uA2 y5) (uI2 y5) x5))),(bif v8 then [] else (tE4 y5 (zD9 (tQ5 y5) (uA2 y5) x5))))
def sW6 p0:=(f12t p0).1
def f12 p0:=(f12t p0).2
instance (p0):Decidable (sW6 p0):=by unfold sW6 f12t;dsimp only;infer_instance
theorem rE3:SK 12 (sp1 (.val (.ptr T34)) (.own (.int .i64) 0 false) sW6 f12):=fb Tryz.func12 26 [kb vL5] [(5,sW5)] [(15,[(4,0,23,1003)]),(19,[(4,0,1003,0)])]
def tQ6 (p0:((List D61)×Int×Int×Int×Unit))(p1:Int):Prop×(Unit)×(((List D61)×Int×Int×Int×Unit)×Unit):=
 let v8:=(p0.2.2.2.1+1)
 let s:=(p0.1,p1,p0.2.2.1,v8,())
 let v21:=(f22 s p1)
 ((InR (p0.2.2.2.1+1)∧((uH0 s p1)∧(InB v21 (len p0.1)∧v21<len p0.1))),(),(((List.set p0.1 (Int.toNat v21) ((nth p0.1 v21 Z61).1,v8,())),p1,p0.2.2.1,v8,()),()))
def vA4 p0 p1:=(tQ6 p0 p1).1
def qE4 p0 p1:=(tQ6 p0 p1).2.1
def uI3 p0 p1:=(tQ6 p0 p1).2.2
instance (p0 p1):Decidable (vA4 p0 p1):=by unfold vA4 tQ6;dsimp only;infer_instance
theorem uI4:SK 26 (fnSpec [(0,(.box T34 (.agg (.cons (.sl T61) (.cons (.int .i64) (.cons (.int .i64) (.cons (.int .i64) .nl)))) (.cons (.own T61 400000 true) (.cons vI (.cons vI (.cons vI .nl))))))),(1,vI)] (.tup .nl) [(0,(.box T34 (.agg (.cons (.sl T61) (.cons (.int .i64) (.cons (.int .i64) (.cons (.int .i64) .nl)))) (.cons (.own T61 400000 true) (.cons vI (.cons vI (.cons vI .nl)))))))] (fun x=>vA4 x.1 x.2.1) (fun x=>qE4 x.1 x.2.1) (fun x=>uI3 x.1 x.2.1)):=fb Tryz.func26 28 [kb tK] [] [] false [0]
def tQ7 (p0:((List D61)×Int×Int×Int×Unit))(p1:List UInt8)(p2:D28):Prop×(Unit)×(((List D61)×Int×Int×Int×Unit)×Unit):=
 let v26:=([((p0.2.2.1,p0.2.1,p1,(f23 p2),()),(0:Int),())]:List D61)
 let s_3:=((p0.1++v26),p0.2.1,(p0.2.2.1+1),p0.2.2.2.1,())
 let v40o:=(uI3 s_3 p0.2.2.1)
 (((tJ9 p2)∧(((List.length p0.1+List.length v26:Nat):Int)≤4294967296∧(InR (p0.2.2.1+1)∧(vA4 s_3 p0.2.2.1)))),(),((v40o.1.1,v40o.1.2.1,v40o.1.2.2.1,v40o.1.2.2.2.1,()),()))
def vP8 p0 p1 p2:=(tQ7 p0 p1 p2).1
def qE5 p0 p1 p2:=(tQ7 p0 p1 p2).2.1
def tQ8 p0 p1 p2:=(tQ7 p0 p1 p2).2.2
instance (p0 p1 p2):Decidable (vP8 p0 p1 p2):=by unfold vP8 tQ7;dsimp only;infer_instance
theorem tX3:SK 21 (fnSpec [(0,(.box T34 (.agg (.cons (.sl T61) (.cons (.int .i64) (.cons (.int .i64) (.cons (.int .i64) .nl)))) (.cons (.own T61 400000 true) (.cons vI (.cons vI (.cons vI .nl))))))),(1,vS),(2,(.val T28))] (.tup .nl) [(0,(.box T34 (.agg (.cons (.sl T61) (.cons (.int .i64) (.cons (.int .i64) (.cons (.int .i64) .nl)))) (.cons (.own T61 400000 true) (.cons vI (.cons vI (.cons vI .nl)))))))] (fun x=>vP8 x.1 x.2.1 x.2.2.1) (fun x=>qE5 x.1 x.2.1 x.2.2.1) (fun x=>tQ8 x.1 x.2.1 x.2.2.1)):=fx (fun c=>{ c with wants:=[(26,[])] }) Tryz.func21 41 [kb sU3,kb uI4] [] [(5,[(4,0,27,400000)])] false [0] [27]
def f34t (p0:D28):Prop×(Bool×Int×Unit)×((Bool×((List D61)×Int×Int×Int×Unit))×Unit):=
 let v7:=(f20 p0)
 let v9:=(v7 !=0)
 let s_1:=(([]:List D61),(0:Int),(1:Int),(0:Int),())
 let v15o:=(tQ8 s_1 ([]:List UInt8) p0)
 (((tV7 p0)∧((!v9)=true→(vP8 s_1 ([]:List UInt8) p0))),(v9,(bif v9 then v7 else (0:Int)),()),(((!v9),(v15o.1.1,v15o.1.2.1,v15o.1.2.2.1,v15o.1.2.2.2.1,())),()))
def sW7 p0:=(f34t p0).1
def f34 p0:=(f34t p0).2.1
def qG0 p0:=(f34t p0).2.2
instance (p0):Decidable (sW7 p0):=by unfold sW7 f34t;dsimp only;infer_instance
theorem qE6:SK 34 (fnSpec [(0,(.val T28))] (.tup (.cons (.pn 900000 T34) (.cons vI .nl))) [(900000,(.may T34 (.agg (.cons (.sl T61) (.cons (.int .i64) (.cons (.int .i64) (.cons (.int .i64) .nl)))) (.cons (.own T61 0 true) (.cons vI (.cons vI (.cons vI .nl)))))))] (fun x=>sW7 x.1) (fun x=>f34 x.1) (fun x=>qG0 x.1)):=fx (fun c=>{ c with wants:=[(21,[])] }) Tryz.func34 17 [kb rC9,kb tX3] [] [(9,[(6,12,0,910005)]),(13,[(6,910005,0,900000),(4,0,91400500,0)])] false [900000]
def f35t (p0:Int):Prop×D28:=
 (True,(p0,(1:Int),(1:Int),([]:List D80),(1:Int),((0:Int),(0:Int),([]:List Int),()),([]:List D85),([]:List D88),()))
def sW8 p0:=(f35t p0).1
def f35 p0:=(f35t p0).2
instance (p0):Decidable (sW8 p0):=by unfold sW8 f35t;dsimp only;infer_instance
theorem qE7:SK 35 (sp1 vI (.val T28) sW8 f35):=fb Tryz.func35 5
abbrev vK4:Type:=((List Int)×(List Int)×Int×Unit)
abbrev wW8:Type:=(Int×Unit)
def uM2 (y:vK4)(x:wW8):Prop×Bool×wW8×Bool×Bool:=
 let a0:=y.1
 let a1:=y.2.1
 let a13:=x.1
 let v14:=(decide (a13<y.2.2.1))
 let v24:=((nth a0 a13 (0:Int))!=(nth a1 a13 (0:Int)))
 ((v14=true→(InB a13 (len a0)∧(InB a13 (len a1)∧((!v24)=true→InR (a13+1))))),(v14&&(!v24)),((a13+1),()),(v14&&v24),(!v14))
def uI5 y x:=(uM2 y x).1
def tQ9 y x:=(uM2 y x).2.1
def uA3 y x:=(uM2 y x).2.2.1
def tX4 y x:=(uM2 y x).2.2.2.1
def sW9 y x:=(uM2 y x).2.2.2.2
instance (y x):Decidable (uI5 y x):=by unfold uI5 uM2;dsimp only;infer_instance
def tE5 (y:vK4)(x:wW8):Bool:=
 false
def sX:=li [(0,(.val (.sl (.int .i64)))),(1,(.val (.sl (.int .i64)))),(12,vI)] [(13,vI)] tQ9 uA3 uI5 (fun y x=>[ex 1 (some (tX4 y x)) [(4,vB)] ((tE5 y x),()),ex 2 (some (sW9 y x)) [] ()]) [[(4,vB)],[]]
def f36t (p0:List Int)(p1:List Int):Prop×Bool:=
 let v10:=((len p0)!=(len p1))
 let y4:=(p0,p1,(len p0),())
 let x4:=((0:Int),())
 let e4:=(zD9 (tQ9 y4) (uA3 y4) x4)
 (((!v10)=true→(wB6 (tQ9 y4) (uA3 y4) (uI5 y4) x4)),(bif v10 then false else (bif (tX4 y4 e4) then (tE5 y4 e4) else true)))
def sX0 p0 p1:=(f36t p0 p1).1
def f36 p0 p1:=(f36t p0 p1).2
instance (p0 p1):Decidable (sX0 p0 p1):=by unfold sX0 f36t;dsimp only;infer_instance
theorem qE8:SK 36 (sp2 (.val (.sl (.int .i64))) (.val (.sl (.int .i64))) vB sX0 f36):=fb Tryz.func36 26 [] [(4,sX)]
def sI3 (p0:((List D61)×Int×Int×Int×Unit))(p1:List UInt8)(p2:D28):Prop×(Int×Int×Unit)×(((List D61)×Int×Int×Int×Unit)×Unit):=
 let s:=(p0.1,p0.2.1,p0.2.2.1,p0.2.2.2.1,())
 let v11:=(!(f18 s))
 let v14:=(!(f19 p1))
 let v16:=(f20 p2)
 let v18:=(v16 !=0)
 let v25:=(decide ((len p0.1)≥128))
 let v30:=(decide (p0.2.2.1>1073741824))
 let s_2:=(p0.1,p0.2.1,p0.2.2.1,p0.2.2.2.1,())
 let v34o:=(tQ8 s_2 p1 p2)
 let s_3:=((bif v11 then p0.1 else (bif v14 then p0.1 else (bif v18 then p0.1 else (bif v25 then p0.1 else (bif v30 then p0.1 else v34o.1.1))))),(bif v11 then p0.2.1 else (bif v14 then p0.2.1 else (bif v18 then p0.2.1 else (bif v25 then p0.2.1 else (bif v30 then p0.2.1 else v34o.1.2.1))))),(bif v11 then p0.2.2.1 else (bif v14 then p0.2.2.1 else (bif v18 then p0.2.2.1 else (bif v25 then p0.2.2.1 else (bif v30 then p0.2.2.1 else v34o.1.2.2.1))))),(bif v11 then p0.2.2.2.1 else (bif v14 then p0.2.2.2.1 else (bif v18 then p0.2.2.2.1 else (bif v25 then p0.2.2.2.1 else (bif v30 then p0.2.2.2.1 else v34o.1.2.2.2.1))))),())
 (((vA8 s)∧((!v11)=true→((sE2 p1)∧((!v14)=true→((tV7 p2)∧((!v18)=true→((!v25)=true→((!v30)=true→(vP8 s_2 p1 p2))))))))),((bif v11 then (0:Int) else (bif v14 then (0:Int) else (bif v18 then (0:Int) else (bif v25 then (0:Int) else (bif v30 then (0:Int) else v34o.1.2.1))))),(bif v11 then (14:Int) else (bif v14 then (13:Int) else (bif v18 then v16 else (bif v25 then (22:Int) else (bif v30 then (3:Int) else (0:Int)))))),()),(s_3,()))
def tR p0 p1 p2:=(sI3 p0 p1 p2).1
def qG1 p0 p1 p2:=(sI3 p0 p1 p2).2.1
def rW0 p0 p1 p2:=(sI3 p0 p1 p2).2.2
instance (p0 p1 p2):Decidable (tR p0 p1 p2):=by unfold tR sI3;dsimp only;infer_instance
theorem sI4:SK 4 (fnSpec [(0,(.box T34 (.agg (.cons (.sl T61) (.cons (.int .i64) (.cons (.int .i64) (.cons (.int .i64) .nl)))) (.cons (.own T61 400000 true) (.cons vI (.cons vI (.cons vI .nl))))))),(1,vS),(2,(.val T28))] (.tup (.cons vI (.cons vI .nl))) [(0,(.box T34 (.agg (.cons (.sl T61) (.cons (.int .i64) (.cons (.int .i64) (.cons (.int .i64) .nl)))) (.cons (.own T61 400000 true) (.cons vI (.cons vI (.cons vI .nl)))))))] (fun x=>tR x.1 x.2.1 x.2.2.1) (fun x=>qG1 x.1 x.2.1 x.2.2.1) (fun x=>rW0 x.1 x.2.1 x.2.2.1)):=fx (fun c=>{ c with wants:=[(21,[])] }) Tryz.func4 39 [kb vL5,kb rY7,kb rC9,kb tX3] [] [] false [0]
def sI5 (p0:((List D61)×Int×Int×Int×Unit)):Prop×Int×(((List D61)×Int×Int×Int×Unit)×Unit):=
 let s:=(p0.1,p0.2.1,p0.2.2.1,p0.2.2.2.1,())
 let v6:=(!(f18 s))
 let s_1:=(p0.1,p0.2.1,p0.2.2.1,p0.2.2.2.1,())
 let v16:=(f22 s_1 p0.2.1)
 let v20:=(nth p0.1 v16 Z61).1.2.1
 let v22:=(v20==0)
 let s_3:=(p0.1,p0.2.1,p0.2.2.1,p0.2.2.2.1,())
 let v25o:=(uI3 s_3 v20)
 let s_4:=((bif v6 then p0.1 else (bif v22 then p0.1 else v25o.1.1)),(bif v6 then p0.2.1 else (bif v22 then p0.2.1 else v25o.1.2.1)),(bif v6 then p0.2.2.1 else (bif v22 then p0.2.2.1 else v25o.1.2.2.1)),(bif v6 then p0.2.2.2.1 else (bif v22 then p0.2.2.2.1 else v25o.1.2.2.2.1)),())
 (((vA8 s)∧((!v6)=true→((uH0 s_1 p0.2.1)∧(InB v16 (len p0.1)∧(v16<len p0.1∧((!v22)=true→(vA4 s_3 v20))))))),(bif v6 then (14:Int) else (bif v22 then (14:Int) else (0:Int))),(s_4,()))
def tR0 p0:=(sI5 p0).1
def qG2 p0:=(sI5 p0).2.1
def rW1 p0:=(sI5 p0).2.2
instance (p0):Decidable (tR0 p0):=by unfold tR0 sI5;dsimp only;infer_instance
theorem sI6:SK 8 (fnSpec [(0,(.box T34 (.agg (.cons (.sl T61) (.cons (.int .i64) (.cons (.int .i64) (.cons (.int .i64) .nl)))) (.cons (.own T61 400000 true) (.cons vI (.cons vI (.cons vI .nl)))))))] vI [(0,(.box T34 (.agg (.cons (.sl T61) (.cons (.int .i64) (.cons (.int .i64) (.cons (.int .i64) .nl)))) (.cons (.own T61 400000 true) (.cons vI (.cons vI (.cons vI .nl)))))))] (fun x=>tR0 x.1) (fun x=>qG2 x.1) (fun x=>rW1 x.1)):=fx (fun c=>{ c with wants:=[(26,[])] }) Tryz.func8 26 [kb vL5,kb tK,kb uI4] [] [] false [0]
abbrev vF:Type:=(((List D61)×Int×Int×Int×Unit)×(List D61)×Int×Unit)
abbrev wT6:Type:=(Int×Int×Int×Unit)
def uI6 (y:vF)(x:wT6):Prop×Bool×wT6:=
 let a13:=y.2.1
 let a4:=x.2.1
 let a15:=x.2.2.1
 let v16:=(decide (a15<y.2.2.1))
 let v18:=(nth a13 a15 Z61)
 let v32:=(bif (v18.1.2.1==y.1.2.1) then (decide (v18.2.1>a4)) else false)
 ((v16=true→(InB a15 (len a13)∧(a15<len a13∧InR (a15+1)))),v16,((bif v32 then v18.1.1 else x.1),(bif v32 then v18.2.1 else a4),(a15+1),()))
def vK5 y x:=(uI6 y x).1
def uM3 y x:=(uI6 y x).2.1
def vK6 y x:=(uI6 y x).2.2
instance (y x):Decidable (vK5 y x):=by unfold vK5 uI6;dsimp only;infer_instance
def uI7 (y:vF)(x:wT6):Int:=
 x.1
def tE6:List (Nat×Sh):=[(0,(.box T34 (.agg (.cons (.sl T61) (.cons (.int .i64) (.cons (.int .i64) (.cons (.int .i64) .nl)))) (.cons (.own T61 400000 true) (.cons vI (.cons vI (.cons vI .nl))))))),(3,vI)]
def sD9:=li [(0,(.box T34 (.agg (.cons (.sl T61) (.cons (.int .i64) (.cons (.int .i64) (.cons (.int .i64) .nl)))) (.cons (.own T61 400000 true) (.cons vI (.cons vI (.cons vI .nl))))))),(13,(.own T61 400000 true)),(14,vI)] [(3,vI),(4,vI),(15,vI)] uM3 vK6 vK5 (fun y x=>[ex 2 none tE6 (y.1,(uI7 y x),())]) [tE6]
def sI7 (p0:((List D61)×Int×Int×Int×Unit)):Prop×Int×(((List D61)×Int×Int×Int×Unit)×Unit):=
 let s:=(p0.1,p0.2.1,p0.2.2.1,p0.2.2.2.1,())
 let v9:=(!(f18 s))
 let y5:=((p0.1,p0.2.1,p0.2.2.1,p0.2.2.2.1,()),p0.1,(len p0.1),())
 let x5:=((0:Int),(0:Int),(0:Int),())
 let r5_2_0:=(uI7 y5 (zD9 (uM3 y5) (vK6 y5) x5))
 let v40:=(r5_2_0==0)
 let s_3:=(p0.1,p0.2.1,p0.2.2.1,p0.2.2.2.1,())
 let v43o:=(uI3 s_3 r5_2_0)
 let s_4:=((bif v9 then p0.1 else (bif v40 then p0.1 else v43o.1.1)),(bif v9 then p0.2.1 else (bif v40 then p0.2.1 else v43o.1.2.1)),(bif v9 then p0.2.2.1 else (bif v40 then p0.2.2.1 else v43o.1.2.2.1)),(bif v9 then p0.2.2.2.1 else (bif v40 then p0.2.2.2.1 else v43o.1.2.2.2.1)),())
 (((vA8 s)∧((!v9)=true→((wB6 (uM3 y5) (vK6 y5) (vK5 y5) x5)∧((!v40)=true→(vA4 s_3 r5_2_0))))),(bif v9 then (14:Int) else (bif v40 then (14:Int) else (0:Int))),(s_4,()))
def tR1 p0:=(sI7 p0).1
def qG3 p0:=(sI7 p0).2.1
def rW2 p0:=(sI7 p0).2.2
instance (p0):Decidable (tR1 p0):=by unfold tR1 sI7;dsimp only;infer_instance
theorem sI8:SK 9 (fnSpec [(0,(.box T34 (.agg (.cons (.sl T61) (.cons (.int .i64) (.cons (.int .i64) (.cons (.int .i64) .nl)))) (.cons (.own T61 400000 true) (.cons vI (.cons vI (.cons vI .nl)))))))] vI [(0,(.box T34 (.agg (.cons (.sl T61) (.cons (.int .i64) (.cons (.int .i64) (.cons (.int .i64) .nl)))) (.cons (.own T61 400000 true) (.cons vI (.cons vI (.cons vI .nl)))))))] (fun x=>tR1 x.1) (fun x=>qG3 x.1) (fun x=>rW2 x.1)):=fx (fun c=>{ c with wants:=[(26,[])] }) Tryz.func9 44 [kb vL5,kb uI4] [(5,sD9)] [] false [0]
def sI9 (p0:((List D61)×Int×Int×Int×Unit))(p1:Int):Prop×(D30×Int×Unit)×(((List D61)×Int×Int×Int×Unit)×Unit):=
 let s:=(p0.1,p0.2.1,p0.2.2.1,p0.2.2.2.1,())
 let v10:=(!(f18 s))
 let s_1:=(p0.1,p0.2.1,p0.2.2.1,p0.2.2.2.1,())
 let v14:=(f22 s_1 p1)
 let v16:=(decide (v14<0))
 let v25:=(nth p0.1 v14 Z61).1
 let m4:=(bif v16 then ((0:Int),(0:Int),([]:List UInt8),((0:Int),(0:Int),(0:Int),([]:List D80),(0:Int),((0:Int),(0:Int),([]:List Int),()),([]:List D85),([]:List D88),()),()) else (v25.1,v25.2.1,v25.2.2.1,(f23 v25.2.2.2.1),()))
 let m4_1:=(bif v10 then ((0:Int),(0:Int),([]:List UInt8),((0:Int),(0:Int),(0:Int),([]:List D80),(0:Int),((0:Int),(0:Int),([]:List Int),()),([]:List D85),([]:List D88),()),()) else m4)
 (((vA8 s)∧((!v10)=true→((uH0 s_1 p1)∧((!v16)=true→(InB v14 (len p0.1)∧(v14<len p0.1∧(tJ9 v25.2.2.2.1))))))),(m4_1,(bif v10 then (14:Int) else (bif v16 then (9:Int) else (0:Int))),()),((p0.1,p0.2.1,p0.2.2.1,p0.2.2.2.1,()),()))
def tR2 p0 p1:=(sI9 p0 p1).1
def qG4 p0 p1:=(sI9 p0 p1).2.1
def rW3 p0 p1:=(sI9 p0 p1).2.2
instance (p0 p1):Decidable (tR2 p0 p1):=by unfold tR2 sI9;dsimp only;infer_instance
theorem sJ:SK 5 (fnSpec [(0,(.box T34 (.agg (.cons (.sl T61) (.cons (.int .i64) (.cons (.int .i64) (.cons (.int .i64) .nl)))) (.cons (.own T61 400000 true) (.cons vI (.cons vI (.cons vI .nl))))))),(1,vI)] (.tup (.cons (.val T30) (.cons vI .nl))) [(0,(.box T34 (.agg (.cons (.sl T61) (.cons (.int .i64) (.cons (.int .i64) (.cons (.int .i64) .nl)))) (.cons (.own T61 400000 true) (.cons vI (.cons vI (.cons vI .nl)))))))] (fun x=>tR2 x.1 x.2.1) (fun x=>qG4 x.1 x.2.1) (fun x=>rW3 x.1 x.2.1)):=fb Tryz.func5 31 [kb vL5,kb tK,kb sU3] [] [] false [0]
def tR3 (p0:((List D61)×Int×Int×Int×Unit))(p1:Int):Prop×Int×(((List D61)×Int×Int×Int×Unit)×Unit):=
 let s:=(p0.1,p0.2.1,p0.2.2.1,p0.2.2.2.1,())
 let v7:=(!(f18 s))
 let s_1:=(p0.1,p0.2.1,p0.2.2.1,p0.2.2.2.1,())
 let v11:=(decide ((f22 s_1 p1)<0))
 let s_3:=(p0.1,p0.2.1,p0.2.2.1,p0.2.2.2.1,())
 let v14o:=(uI3 s_3 p1)
 let s_4:=((bif v7 then p0.1 else (bif v11 then p0.1 else v14o.1.1)),(bif v7 then p0.2.1 else (bif v11 then p0.2.1 else v14o.1.2.1)),(bif v7 then p0.2.2.1 else (bif v11 then p0.2.2.1 else v14o.1.2.2.1)),(bif v7 then p0.2.2.2.1 else (bif v11 then p0.2.2.2.1 else v14o.1.2.2.2.1)),())
 (((vA8 s)∧((!v7)=true→((uH0 s_1 p1)∧((!v11)=true→(vA4 s_3 p1))))),(bif v7 then (14:Int) else (bif v11 then (9:Int) else (0:Int))),(s_4,()))
def tE7 p0 p1:=(tR3 p0 p1).1
def qE9 p0 p1:=(tR3 p0 p1).2.1
def rA p0 p1:=(tR3 p0 p1).2.2
instance (p0 p1):Decidable (tE7 p0 p1):=by unfold tE7 tR3;dsimp only;infer_instance
theorem tX5:SK 10 (fnSpec [(0,(.box T34 (.agg (.cons (.sl T61) (.cons (.int .i64) (.cons (.int .i64) (.cons (.int .i64) .nl)))) (.cons (.own T61 400000 true) (.cons vI (.cons vI (.cons vI .nl))))))),(1,vI)] vI [(0,(.box T34 (.agg (.cons (.sl T61) (.cons (.int .i64) (.cons (.int .i64) (.cons (.int .i64) .nl)))) (.cons (.own T61 400000 true) (.cons vI (.cons vI (.cons vI .nl)))))))] (fun x=>tE7 x.1 x.2.1) (fun x=>qE9 x.1 x.2.1) (fun x=>rA x.1 x.2.1)):=fx (fun c=>{ c with wants:=[(26,[])] }) Tryz.func10 15 [kb vL5,kb tK,kb uI4] [] [] false [0]
def tR4 (p0:((List D61)×Int×Int×Int×Unit)):Prop×D28×(((List D61)×Int×Int×Int×Unit)×Unit):=
 let s:=(p0.1,p0.2.1,p0.2.2.1,p0.2.2.2.1,())
 let v5:=(!(f18 s))
 let s_1:=(p0.1,p0.2.1,p0.2.2.1,p0.2.2.2.1,())
 let v16:=(f22 s_1 p0.2.1)
 let v20:=(nth p0.1 v16 Z61).1.2.2.2.1
 (((vA8 s)∧((!v5)=true→((uH0 s_1 p0.2.1)∧(InB v16 (len p0.1)∧(v16<len p0.1∧(tJ9 v20)))))),(bif v5 then ((0:Int),(0:Int),(0:Int),([]:List D80),(0:Int),((0:Int),(0:Int),([]:List Int),()),([]:List D85),([]:List D88),()) else (f23 v20)),((p0.1,p0.2.1,p0.2.2.1,p0.2.2.2.1,()),()))
def tE8 p0:=(tR4 p0).1
def qF p0:=(tR4 p0).2.1
def rA0 p0:=(tR4 p0).2.2
instance (p0):Decidable (tE8 p0):=by unfold tE8 tR4;dsimp only;infer_instance
theorem tX6:SK 16 (fnSpec [(0,(.box T34 (.agg (.cons (.sl T61) (.cons (.int .i64) (.cons (.int .i64) (.cons (.int .i64) .nl)))) (.cons (.own T61 400000 true) (.cons vI (.cons vI (.cons vI .nl)))))))] (.val T28) [(0,(.box T34 (.agg (.cons (.sl T61) (.cons (.int .i64) (.cons (.int .i64) (.cons (.int .i64) .nl)))) (.cons (.own T61 400000 true) (.cons vI (.cons vI (.cons vI .nl)))))))] (fun x=>tE8 x.1) (fun x=>qF x.1) (fun x=>rA0 x.1)):=fb Tryz.func16 22 [kb vL5,kb tK,kb sU3] [] [] false [0]
abbrev vA5:Type:=(Int×(List Int)×Int×Int×Unit)
abbrev wQ2:Type:=(((List D61)×Int×Int×Int×Unit)×Int×Unit)
def vV1 (y:vA5)(x:wQ2):Prop×Bool×wQ2:=
 let a0:=x.1
 let a49:=x.2.1
 let v50:=(decide (a49<y.2.2.2.1))
 let v62:=(((nth a0.1 a49 Z61).1.2.1)==y.2.2.1)
 let s_2:=((bif v62 then (List.set a0.1 (Int.toNat a49) (((nth a0.1 a49 Z61).1.1,(0:Int),(nth a0.1 a49 Z61).1.2.2.1,(nth a0.1 a49 Z61).1.2.2.2.1,()),(nth a0.1 a49 Z61).2.1,())) else a0.1),(bif v62 then a0.2.1 else a0.2.1),(bif v62 then a0.2.2.1 else a0.2.2.1),(bif v62 then a0.2.2.2.1 else a0.2.2.2.1),())
 ((v50=true→(InB a49 (len a0.1)∧(a49<len a0.1∧((v62=true→(InB a49 (len a0.1)∧a49<len a0.1))∧InR (a49+1))))),v50,(s_2,(a49+1),()))
def vC y x:=(vV1 y x).1
def uA4 y x:=(vV1 y x).2.1
def vC7 y x:=(vV1 y x).2.2
instance (y x):Decidable (vC y x):=by unfold vC vV1;dsimp only;infer_instance
def vW7 (y:vA5)(x:wQ2):((List D61)×Int×Int×Int×Unit):=
 let a0:=x.1
 (a0.1,a0.2.1,a0.2.2.1,a0.2.2.2.1,())
def uR4:List (Nat×Sh):=[(0,(.box T34 (.agg (.cons (.sl T61) (.cons (.int .i64) (.cons (.int .i64) (.cons (.int .i64) .nl)))) (.cons (.own T61 400000 true) (.cons vI (.cons vI (.cons vI .nl))))))),(1,vI),(6,(.own (.int .i64) 1006 false)),(8,vI)]
def tX7:=li [(1,vI),(6,(.own (.int .i64) 1006 false)),(8,vI),(48,vI)] [(0,(.box T34 (.agg (.cons (.sl T61) (.cons (.int .i64) (.cons (.int .i64) (.cons (.int .i64) .nl)))) (.cons (.own T61 400000 true) (.cons vI (.cons vI (.cons vI .nl))))))),(49,vI)] uA4 vC7 vC (fun y x=>[ex 4 none uR4 ((vW7 y x),y.1,y.2.1,y.2.2.1,())]) [uR4]
abbrev wX7:Type:=(Int×Unit)
abbrev wQ5:Type:=(((List D61)×Int×Int×Int×Unit)×(List Int)×Unit)
def uI8 (y:wX7)(x:wQ5):Prop×Bool×wQ5:=
 let a1:=y.1
 let a0:=x.1
 let a6:=x.2.1
 let v21:=(decide ((len a0.1)>a1))
 let s:=(a0.1,a0.2.1,a0.2.2.1,a0.2.2.2.1,())
 let v23:=(f24 s)
 let v32:=(nth a0.1 v23 Z61).1.1
 let v40:=(v23+1)
 let v41:=(f25 a0.1 v23 v40)
 let y11:=(a1,a6,v32,(len v41),())
 let x11:=((v41,a0.2.1,a0.2.2.1,a0.2.2.2.1,()),(0:Int),())
 let r11_4_0:=(vW7 y11 (zD9 (uA4 y11) (vC7 y11) x11))
 let v74:=([v32]:List Int)
 ((v21=true→((sH3 s)∧(InB v23 (len a0.1)∧(v23<len a0.1∧(InR (v23+1)∧((sH4 a0.1 v23 v40)∧((wB6 (uA4 y11) (vC7 y11) (vC y11) x11)∧((List.length a6+List.length v74:Nat):Int)≤4294967296))))))),v21,((r11_4_0.1,r11_4_0.2.1,r11_4_0.2.2.1,r11_4_0.2.2.2.1,()),(a6++v74),()))
def vK7 y x:=(uI8 y x).1
def uM4 y x:=(uI8 y x).2.1
def vK8 y x:=(uI8 y x).2.2
instance (y x):Decidable (vK7 y x):=by unfold vK7 uI8;dsimp only;infer_instance
def uI9 (y:wX7)(x:wQ5):((List D61)×Int×Int×Int×Unit):=
 let a0:=x.1
 (a0.1,a0.2.1,a0.2.2.1,a0.2.2.2.1,())
def uJ (y:wX7)(x:wQ5):(List Int):=
 x.2.1
def tE9:List (Nat×Sh):=[(0,(.box T34 (.agg (.cons (.sl T61) (.cons (.int .i64) (.cons (.int .i64) (.cons (.int .i64) .nl)))) (.cons (.own T61 400000 true) (.cons vI (.cons vI (.cons vI .nl))))))),(6,(.own (.int .i64) 1006 false))]
def sE:=li [(1,vI)] [(0,(.box T34 (.agg (.cons (.sl T61) (.cons (.int .i64) (.cons (.int .i64) (.cons (.int .i64) .nl)))) (.cons (.own T61 400000 true) (.cons vI (.cons vI (.cons vI .nl))))))),(6,(.own (.int .i64) 1006 false))] uM4 vK8 vK7 (fun y x=>[ex 2 none tE9 ((uI9 y x),(uJ y x),())]) [tE9]
def sJ0 (p0:((List D61)×Int×Int×Int×Unit))(p1:Int):Prop×((List Int)×Int×Unit)×(((List D61)×Int×Int×Int×Unit)×Unit):=
 let s:=(p0.1,p0.2.1,p0.2.2.1,p0.2.2.2.1,())
 let v12:=(!(f18 s))
 let v14:=(decide (p1<1))
 let y6:=(p1,())
 let x6:=((p0.1,p0.2.1,p0.2.2.1,p0.2.2.2.1,()),([]:List Int),())
 let e6:=(zD9 (uM4 y6) (vK8 y6) x6)
 let r6_2_0:=(uI9 y6 e6)
 let s_2:=((bif v12 then p0.1 else (bif v14 then p0.1 else r6_2_0.1)),(bif v12 then p0.2.1 else (bif v14 then p0.2.1 else r6_2_0.2.1)),(bif v12 then p0.2.2.1 else (bif v14 then p0.2.2.1 else r6_2_0.2.2.1)),(bif v12 then p0.2.2.2.1 else (bif v14 then p0.2.2.2.1 else r6_2_0.2.2.2.1)),())
 (((vA8 s)∧((!v12)=true→((!v14)=true→(wB6 (uM4 y6) (vK8 y6) (vK7 y6) x6)))),((bif v12 then [] else (bif v14 then [] else (uJ y6 e6))),(bif v12 then (14:Int) else (bif v14 then (1:Int) else (0:Int))),()),(s_2,()))
def tR5 p0 p1:=(sJ0 p0 p1).1
def qG5 p0 p1:=(sJ0 p0 p1).2.1
def rW4 p0 p1:=(sJ0 p0 p1).2.2
instance (p0 p1):Decidable (tR5 p0 p1):=by unfold tR5 sJ0;dsimp only;infer_instance
theorem sJ1:SK 6 (fnSpec [(0,(.box T34 (.agg (.cons (.sl T61) (.cons (.int .i64) (.cons (.int .i64) (.cons (.int .i64) .nl)))) (.cons (.own T61 400000 true) (.cons vI (.cons vI (.cons vI .nl))))))),(1,vI)] (.tup (.cons (.own (.int .i64) 0 false) (.cons vI .nl))) [(0,(.box T34 (.agg (.cons (.sl T61) (.cons (.int .i64) (.cons (.int .i64) (.cons (.int .i64) .nl)))) (.cons (.own T61 400000 true) (.cons vI (.cons vI (.cons vI .nl)))))))] (fun x=>tR5 x.1 x.2.1) (fun x=>qG5 x.1 x.2.1) (fun x=>rW4 x.1 x.2.1)):=fx (fun c=>{ c with wants:=[(25,[0])] }) Tryz.func6 77 [kb vL5,kb qD1,kb qD5] [(6,sE),(11,tX7)] [(19,[(4,0,41,400000)]),(33,[(4,0,75,1006)]),(35,[(4,0,1006,0)])] false [0]
end Go.Proofs.YtmmpcldfjocfmaaGreatDoor.Am
