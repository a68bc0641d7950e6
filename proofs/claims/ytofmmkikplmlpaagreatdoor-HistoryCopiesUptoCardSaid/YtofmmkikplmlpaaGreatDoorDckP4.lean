/- Printed by program, part 4. No condition. -/
import Derived.Test.YtofmmkikplmlpaaGreatDoorDckP3
set_option linter.unusedVariables false
set_option synthInstance.maxSize 4000
set_option synthInstance.maxHeartbeats 400000
namespace Go.Proofs.YtofmmkikplmlpaaGreatDoor.Am
open Go Go.Am Go.Proofs
def f65t (p0:D91)(p1:D91):Prop×(D91×Int×Unit):=
 let v10:=(p0.2.1 !=p1.2.1)
 let s_20:=(p1.2.2.2.2.2.2.2.2.2.2.2.2.2.2.2.2.2.2.2.2.2.2.2.2.2.2.2.1.1,p1.2.2.2.2.2.2.2.2.2.2.2.2.2.2.2.2.2.2.2.2.2.2.2.2.2.2.2.1.2.1,p1.2.2.2.2.2.2.2.2.2.2.2.2.2.2.2.2.2.2.2.2.2.2.2.2.2.2.2.1.2.2.1,(f92 p1.2.2.2.2.2.2.2.2.2.2.2.2.2.2.2.2.2.2.2.2.2.2.2.2.2.2.2.1.2.2.2.1),())
 let s_21:=(p0.1,p0.2.1,p0.2.2.1,p0.2.2.2.1,p0.2.2.2.2.1,p0.2.2.2.2.2.1,p0.2.2.2.2.2.2.1,p0.2.2.2.2.2.2.2.1,p0.2.2.2.2.2.2.2.2.1,(p0.2.2.2.2.2.2.2.2.2.1.1,p0.2.2.2.2.2.2.2.2.2.1.2.1,(f66 p0.2.2.2.2.2.2.2.2.2.1.2.2.1),()),p0.2.2.2.2.2.2.2.2.2.2.1,p0.2.2.2.2.2.2.2.2.2.2.2.1,(p1.2.2.2.2.2.2.2.2.2.2.2.2.1.1,p1.2.2.2.2.2.2.2.2.2.2.2.2.1.2.1,(f69 p1.2.2.2.2.2.2.2.2.2.2.2.2.1.2.2.1),()),p1.2.2.2.2.2.2.2.2.2.2.2.2.2.1,p1.2.2.2.2.2.2.2.2.2.2.2.2.2.2.1,(f66 p1.2.2.2.2.2.2.2.2.2.2.2.2.2.2.2.1),p1.2.2.2.2.2.2.2.2.2.2.2.2.2.2.2.2.1,(f90 p1.2.2.2.2.2.2.2.2.2.2.2.2.2.2.2.2.2.1),(f91 p1.2.2.2.2.2.2.2.2.2.2.2.2.2.2.2.2.2.2.1),p1.2.2.2.2.2.2.2.2.2.2.2.2.2.2.2.2.2.2.2.1,p1.2.2.2.2.2.2.2.2.2.2.2.2.2.2.2.2.2.2.2.2.1,p1.2.2.2.2.2.2.2.2.2.2.2.2.2.2.2.2.2.2.2.2.2.1,p1.2.2.2.2.2.2.2.2.2.2.2.2.2.2.2.2.2.2.2.2.2.2.1,p1.2.2.2.2.2.2.2.2.2.2.2.2.2.2.2.2.2.2.2.2.2.2.2.1,p1.2.2.2.2.2.2.2.2.2.2.2.2.2.2.2.2.2.2.2.2.2.2.2.2.1,p1.2.2.2.2.2.2.2.2.2.2.2.2.2.2.2.2.2.2.2.2.2.2.2.2.2.1,p1.2.2.2.2.2.2.2.2.2.2.2.2.2.2.2.2.2.2.2.2.2.2.2.2.2.2.1,s_20,())
 let s_25:=((0:Int),(0:Int),(0:Int),([]:List UInt8),false,false,false,(0:Int),(0:Int),((0:Int),(0:Int),([]:List Int),()),Z79,(0:Int),((0:Int),(0:Int),([]:List D84),()),Z84,(0:Int),([]:List Int),(0:Int),([]:List D137),([]:List D143),(0:Int),(0:Int),(0:Int),(0:Int),([]:List UInt8),(0:Int),(0:Int),(0:Int),((0:Int),(0:Int),(0:Int),([]:List D140),()),())
 (((!v10)=true→((tK5 p0.2.2.2.2.2.2.2.2.2.1.2.2.1)∧((tX5 p1.2.2.2.2.2.2.2.2.2.2.2.2.1.2.2.1)∧((tK5 p1.2.2.2.2.2.2.2.2.2.2.2.2.2.2.2.1)∧((sH0 p1.2.2.2.2.2.2.2.2.2.2.2.2.2.2.2.2.2.1)∧((sH1 p1.2.2.2.2.2.2.2.2.2.2.2.2.2.2.2.2.2.2.1)∧(sH2 p1.2.2.2.2.2.2.2.2.2.2.2.2.2.2.2.2.2.2.2.2.2.2.2.2.2.2.2.1.2.2.2.1))))))),((bif v10 then s_25 else s_21),(bif v10 then (8:Int) else (0:Int)),()))
def sH3 p0 p1:=(f65t p0 p1).1
def f65 p0 p1:=(f65t p0 p1).2
instance (p0 p1):Decidable (sH3 p0 p1):=by unfold sH3 f65t;dsimp only;infer_instance
theorem pR1:SK 65 (sp2 (.val T91) (.val T91) (.tup (.cons (.val T91) (.cons vI .nl))) sH3 f65):=fb Tryz.func65 82 [kb qP0,kb qP2,kb pQ5,kb pQ8,kb pR0]
def pH1 (p0:Unit):Prop×(List D95):=
 (((!true)=true→((List.length ([]:List D95)+List.length ([]:List D95):Nat):Int)≤4294967296),(bif true then [] else (([]:List D95)++([]:List D95))))
def rD7 p0:=(pH1 p0).1
def f67a p0:=(pH1 p0).2
instance (p0):Decidable (rD7 p0):=by unfold rD7 pH1;dsimp only;infer_instance
theorem pH2:SK 67 (sp1 (.nn true) (.own T95 0 false) rD7 f67a):=fb Tryz.func67 8 [] [] [(7,[(4,0,7,0)])]
def pH3 (p0:Unit):Prop×(List D95):=
 (((!false)=true→((List.length ([]:List D95)+List.length ([]:List D95):Nat):Int)≤4294967296),(bif false then [] else (([]:List D95)++([]:List D95))))
def rD8 p0:=(pH3 p0).1
def f67b p0:=(pH3 p0).2
instance (p0):Decidable (rD8 p0):=by unfold rD8 pH3;dsimp only;infer_instance
theorem pH4:SK 67 (sp1 (.nn false) (.own T95 0 false) rD8 f67b):=fb Tryz.func67 8 [] [] [(7,[(4,0,7,0)])]
def pH5 (p0:List D95):Prop×(List D95):=
 ((0<List.length p0∧((!false)=true→((List.length ([]:List D95)+List.length p0:Nat):Int)≤4294967296)),(bif false then [] else (([]:List D95)++p0)))
def rD9 p0:=(pH5 p0).1
def f67c p0:=(pH5 p0).2
instance (p0):Decidable (rD9 p0):=by unfold rD9 pH5;dsimp only;infer_instance
theorem pH6:SK 67 (sp1 (.val (.sl T95)) (.own T95 0 false) rD9 f67c):=fb Tryz.func67 8 [] [] [(7,[(4,0,7,0)])]
def f67 (p0:List D95):List D95:=p0
def sH4 (p0:List D95):Prop:=(List.length p0:Int)≤4294967296
instance (p0:List D95):Decidable (sH4 p0):=by
  unfold sH4
  infer_instance
def pR2:List (Nat×Sh):=[(0,(.val (.sl T95)))]
def qP6:Sh:=(.own T95 0 false)
def pR3:List (Nat×Sh):=[]
def qH2:Am.Spec:=fnSpec pR2 qP6 pR3 (fun x=>sH4 x.1) (fun x=>f67 x.1) (fun _=>())
theorem pR4:SpecOk Tryz.prog 67 qH2:=wH0 (rs:=qP6) (F:=f67) (ok:=sH4) pH2 pH4 pH6 (of_decide_eq_true (by kernel_rfl)) (of_decide_eq_true (by kernel_rfl)) (fun l h hp=>⟨hp,fun _=>by simpa[sH4] using h⟩) rfl rfl (fun _=>rfl)
def pH7 (p0:Unit):Prop×(List D98):=
 (((!true)=true→((List.length ([]:List D98)+List.length ([]:List D98):Nat):Int)≤4294967296),(bif true then [] else (([]:List D98)++([]:List D98))))
def rE p0:=(pH7 p0).1
def f68a p0:=(pH7 p0).2
instance (p0):Decidable (rE p0):=by unfold rE pH7;dsimp only;infer_instance
theorem pH8:SK 68 (sp1 (.nn true) (.own T98 0 true) rE f68a):=fb Tryz.func68 8 [] [] [(7,[(4,0,7,0)])] false [] [5,7]
def pH9 (p0:Unit):Prop×(List D98):=
 (((!false)=true→((List.length ([]:List D98)+List.length ([]:List D98):Nat):Int)≤4294967296),(bif false then [] else (([]:List D98)++([]:List D98))))
def rE0 p0:=(pH9 p0).1
def f68b p0:=(pH9 p0).2
instance (p0):Decidable (rE0 p0):=by unfold rE0 pH9;dsimp only;infer_instance
theorem pI:SK 68 (sp1 (.nn false) (.own T98 0 true) rE0 f68b):=fb Tryz.func68 8 [] [] [(7,[(4,0,7,0)])] false [] [5,7]
def pI0 (p0:List D98):Prop×(List D98):=
 ((0<List.length p0∧((!false)=true→((List.length ([]:List D98)+List.length p0:Nat):Int)≤4294967296)),(bif false then [] else (([]:List D98)++p0)))
def rE1 p0:=(pI0 p0).1
def f68c p0:=(pI0 p0).2
instance (p0):Decidable (rE1 p0):=by unfold rE1 pI0;dsimp only;infer_instance
theorem pI1:SK 68 (sp1 (.val (.sl T98)) (.own T98 0 true) rE1 f68c):=fb Tryz.func68 8 [] [] [(7,[(4,0,7,0)])] false [] [5,7]
def f68 (p0:List D98):List D98:=p0
def sH5 (p0:List D98):Prop:=(List.length p0:Int)≤4294967296
instance (p0:List D98):Decidable (sH5 p0):=by
  unfold sH5
  infer_instance
def pR5:List (Nat×Sh):=[(0,(.val (.sl T98)))]
def qP7:Sh:=(.own T98 0 true)
def pR6:List (Nat×Sh):=[]
def qH3:Am.Spec:=fnSpec pR5 qP7 pR6 (fun x=>sH5 x.1) (fun x=>f68 x.1) (fun _=>())
theorem pR7:SpecOk Tryz.prog 68 qH3:=wH0 (rs:=qP7) (F:=f68) (ok:=sH5) pH8 pI pI1 (of_decide_eq_true (by kernel_rfl)) (of_decide_eq_true (by kernel_rfl)) (fun l h hp=>⟨hp,fun _=>by simpa[sH5] using h⟩) rfl rfl (fun _=>rfl)
abbrev uY8:Type:=(D28×(Int×Int×Int×(List D91)×Int×(Int×Int×(List Int)×Unit)×(List D95)×(List D98)×Unit)×(List D91)×Int×Unit)
abbrev vR5:Type:=((Int×Int×Int×(List D91)×Int×D24×(List D95)×(List D98)×Unit)×Int×Unit)
def sL7 (y:uY8)(x:vR5):Prop×Bool×vR5:=
 let a15:=y.2.2.1
 let a3:=x.1
 let a17:=x.2.1
 let v18:=(decide (a17<y.2.2.2.1))
 let v20:=(nth a15 a17 Z91)
 ((v18=true→(InB a17 (len a15)∧((sH3 v20 v20)∧(InB a17 (len a3.2.2.2.1)∧(a17<len a3.2.2.2.1∧InR (a17+1)))))),v18,((a3.1,a3.2.1,a3.2.2.1,(List.set a3.2.2.2.1 (Int.toNat a17) (f65 v20 v20).1),a3.2.2.2.2),(a17+1),()))
def uI3 y x:=(sL7 y x).1
def vR6 y x:=(sL7 y x).2.1
def wR2 y x:=(sL7 y x).2.2
instance (y x):Decidable (uI3 y x):=by unfold uI3 sL7;dsimp only;infer_instance
def uR7 (y:uY8)(x:vR5):(Int×Int×Int×(List D91)×Int×D24×(List D95)×(List D98)×Unit):=
 let a3:=x.1
 (a3.1,a3.2.1,a3.2.2.1,a3.2.2.2.1,a3.2.2.2.2.1,a3.2.2.2.2.2.1,a3.2.2.2.2.2.2.1,a3.2.2.2.2.2.2.2.1,())
def sT6:List (Nat×Sh):=[(1,(.box T28 (.val T28))),(2,(.box T28 (.agg (.cons (.int .i64) (.cons (.int .i64) (.cons (.int .i64) (.cons (.sl T91) (.cons (.int .i64) (.cons T24 (.cons (.sl T95) (.cons (.sl T98) .nl)))))))) (.cons vI (.cons vI (.cons vI (.cons (.val (.sl T91)) (.cons vI (.cons (.agg (.cons (.int .i64) (.cons (.int .i64) (.cons (.sl (.int .i64)) .nl))) (.cons vI (.cons vI (.cons (.val (.sl (.int .i64))) .nl)))) (.cons (.val (.sl T95)) (.cons (.val (.sl T98)) .nl))))))))))),(3,(.box T28 (.agg (.cons (.int .i64) (.cons (.int .i64) (.cons (.int .i64) (.cons (.sl T91) (.cons (.int .i64) (.cons T24 (.cons (.sl T95) (.cons (.sl T98) .nl)))))))) (.cons vI (.cons vI (.cons vI (.cons (.own T91 400300 true) (.cons vI (.cons (.val T24) (.cons (.val (.sl T95)) (.cons (.val (.sl T98)) .nl)))))))))))]
def rW3:=li [(1,(.box T28 (.val T28))),(2,(.box T28 (.agg (.cons (.int .i64) (.cons (.int .i64) (.cons (.int .i64) (.cons (.sl T91) (.cons (.int .i64) (.cons T24 (.cons (.sl T95) (.cons (.sl T98) .nl)))))))) (.cons vI (.cons vI (.cons vI (.cons (.val (.sl T91)) (.cons vI (.cons (.agg (.cons (.int .i64) (.cons (.int .i64) (.cons (.sl (.int .i64)) .nl))) (.cons vI (.cons vI (.cons (.val (.sl (.int .i64))) .nl)))) (.cons (.val (.sl T95)) (.cons (.val (.sl T98)) .nl))))))))))),(15,(.val (.sl T91))),(16,vI)] [(3,(.box T28 (.agg (.cons (.int .i64) (.cons (.int .i64) (.cons (.int .i64) (.cons (.sl T91) (.cons (.int .i64) (.cons T24 (.cons (.sl T95) (.cons (.sl T98) .nl)))))))) (.cons vI (.cons vI (.cons vI (.cons (.own T91 400300 true) (.cons vI (.cons (.val T24) (.cons (.val (.sl T95)) (.cons (.val (.sl T98)) .nl))))))))))),(17,vI)] vR6 wR2 uI3 (fun y x=>[ex 2 none sT6 (y.1,y.2.1,(uR7 y x),())]) [sT6]
abbrev uI4:Type:=((Int×Int×Int×(List D91)×Int×(Int×Int×(List Int)×Unit)×(List D95)×(List D98)×Unit)×(List D98)×Int×Unit)
abbrev vP0:Type:=((Int×Int×Int×(List D91)×Int×D24×(List D95)×(List D98)×Unit)×Int×Unit)
def tN (y:uI4)(x:vP0):Prop×Bool×vP0:=
 let a48:=y.2.1
 let a3:=x.1
 let a50:=x.2.1
 let v51:=(decide (a50<y.2.2.1))
 let v53:=(nth a48 a50 Z98)
 let s_1:=((nth a3.2.2.2.2.2.2.2.1 a50 Z98).1,(nth a3.2.2.2.2.2.2.2.1 a50 Z98).2.1,(nth a3.2.2.2.2.2.2.2.1 a50 Z98).2.2.1,(nth a3.2.2.2.2.2.2.2.1 a50 Z98).2.2.2.1,((nth a3.2.2.2.2.2.2.2.1 a50 Z98).2.2.2.2.1.1,(nth a3.2.2.2.2.2.2.2.1 a50 Z98).2.2.2.2.1.2.1,(f69 v53.2.2.2.2.1.2.2.1),()),())
 ((v51=true→(InB a50 (len a48)∧((tX5 v53.2.2.2.2.1.2.2.1)∧(InB a50 (len a3.2.2.2.2.2.2.2.1)∧(a50<len a3.2.2.2.2.2.2.2.1∧InR (a50+1)))))),v51,((a3.1,a3.2.1,a3.2.2.1,a3.2.2.2.1,a3.2.2.2.2.1,a3.2.2.2.2.2.1,a3.2.2.2.2.2.2.1,(List.set a3.2.2.2.2.2.2.2.1 (Int.toNat a50) s_1),()),(a50+1),()))
def uN8 y x:=(tN y x).1
def uI5 y x:=(tN y x).2.1
def vG2 y x:=(tN y x).2.2
instance (y x):Decidable (uN8 y x):=by unfold uN8 tN;dsimp only;infer_instance
def tK6 (y:uI4)(x:vP0):(Int×Int×Int×(List D91)×Int×D24×(List D95)×(List D98)×Unit):=
 let a3:=x.1
 (a3.1,a3.2.1,a3.2.2.1,a3.2.2.2.1,a3.2.2.2.2.1,a3.2.2.2.2.2.1,a3.2.2.2.2.2.2.1,a3.2.2.2.2.2.2.2.1,())
def sH6:List (Nat×Sh):=[(2,(.box T28 (.agg (.cons (.int .i64) (.cons (.int .i64) (.cons (.int .i64) (.cons (.sl T91) (.cons (.int .i64) (.cons T24 (.cons (.sl T95) (.cons (.sl T98) .nl)))))))) (.cons vI (.cons vI (.cons vI (.cons (.val (.sl T91)) (.cons vI (.cons (.agg (.cons (.int .i64) (.cons (.int .i64) (.cons (.sl (.int .i64)) .nl))) (.cons vI (.cons vI (.cons (.val (.sl (.int .i64))) .nl)))) (.cons (.val (.sl T95)) (.cons (.val (.sl T98)) .nl))))))))))),(3,(.box T28 (.agg (.cons (.int .i64) (.cons (.int .i64) (.cons (.int .i64) (.cons (.sl T91) (.cons (.int .i64) (.cons T24 (.cons (.sl T95) (.cons (.sl T98) .nl)))))))) (.cons vI (.cons vI (.cons vI (.cons (.own T91 400300 true) (.cons vI (.cons (.val T24) (.cons (.own T95 400302 false) (.cons (.own T98 400303 true) .nl)))))))))))]
def rP1:=li [(2,(.box T28 (.agg (.cons (.int .i64) (.cons (.int .i64) (.cons (.int .i64) (.cons (.sl T91) (.cons (.int .i64) (.cons T24 (.cons (.sl T95) (.cons (.sl T98) .nl)))))))) (.cons vI (.cons vI (.cons vI (.cons (.val (.sl T91)) (.cons vI (.cons (.agg (.cons (.int .i64) (.cons (.int .i64) (.cons (.sl (.int .i64)) .nl))) (.cons vI (.cons vI (.cons (.val (.sl (.int .i64))) .nl)))) (.cons (.val (.sl T95)) (.cons (.val (.sl T98)) .nl))))))))))),(48,(.val (.sl T98))),(49,vI)] [(3,(.box T28 (.agg (.cons (.int .i64) (.cons (.int .i64) (.cons (.int .i64) (.cons (.sl T91) (.cons (.int .i64) (.cons T24 (.cons (.sl T95) (.cons (.sl T98) .nl)))))))) (.cons vI (.cons vI (.cons vI (.cons (.own T91 400300 true) (.cons vI (.cons (.val T24) (.cons (.own T95 400302 false) (.cons (.own T98 400303 true) .nl))))))))))),(50,vI)] uI5 vG2 uN8 (fun y x=>[ex 4 none sH6 (y.1,(tK6 y x),())]) [sH6]
def f37t (p0:D28):Prop×D28:=
 let v11:=(len p0.2.2.2.1)
 let y4:=(p0,((0:Int),(0:Int),(0:Int),([]:List D91),(0:Int),((0:Int),(0:Int),([]:List Int),()),([]:List D95),([]:List D98),()),p0.2.2.2.1,(len p0.2.2.2.1),())
 let x4:=((p0.1,p0.2.1,p0.2.2.1,(List.replicate (Int.toNat v11) Z91),p0.2.2.2.2),(0:Int),())
 let r4_2_0:=(uR7 y4 (zB9 (vR6 y4) (wR2 y4) x4))
 let s_6:=(r4_2_0.1,r4_2_0.2.1,r4_2_0.2.2.1,r4_2_0.2.2.2.1,r4_2_0.2.2.2.2.1,(r4_2_0.2.2.2.2.2.1.1,r4_2_0.2.2.2.2.2.1.2.1,(f66 p0.2.2.2.2.2.1.2.2.1),()),(f67 p0.2.2.2.2.2.2.1),(f68 p0.2.2.2.2.2.2.2.1),())
 let y12:=(((0:Int),(0:Int),(0:Int),([]:List D91),(0:Int),((0:Int),(0:Int),([]:List Int),()),([]:List D95),([]:List D98),()),p0.2.2.2.2.2.2.2.1,(len p0.2.2.2.2.2.2.2.1),())
 let x12:=(s_6,(0:Int),())
 let r12_4_0:=(tK6 y12 (zB9 (uI5 y12) (vG2 y12) x12))
 (((0≤v11∧v11≤v11∧v11≤4294967296)∧((xB7 (vR6 y4) (wR2 y4) (uI3 y4) x4)∧((tK5 p0.2.2.2.2.2.1.2.2.1)∧((sH4 p0.2.2.2.2.2.2.1)∧((sH5 p0.2.2.2.2.2.2.2.1)∧(xB7 (uI5 y12) (vG2 y12) (uN8 y12) x12)))))),(r12_4_0.1,r12_4_0.2.1,r12_4_0.2.2.1,r12_4_0.2.2.2.1,r12_4_0.2.2.2.2.1,r12_4_0.2.2.2.2.2.1,r12_4_0.2.2.2.2.2.2.1,r12_4_0.2.2.2.2.2.2.2.1,()))
def uI6 p0:=(f37t p0).1
def f37 p0:=(f37t p0).2
instance (p0):Decidable (uI6 p0):=by unfold uI6 f37t;dsimp only;infer_instance
theorem rW4:SK 37 (sp1 (.val T28) (.val T28) uI6 f37):=fx (fun c=>{ c with dead:=[30] }) Tryz.func37 67 [kb pR1,kb qP0,kb pR4,kb pR7,kb qP2] [(4,rW3),(12,rP1)] [(5,[(4,0,12,400300)]),(19,[(4,0,41,400302)]),(21,[(4,0,45,400303)]),(32,[(1,3,3,0),(1,3,7,0)]),(33,[(4,0,400300,400200),(4,0,400302,400202),(4,0,400303,400203)])] false [] [12]
def rE2 (p0:D73)(p1:Int):Prop×Bool:=
 (True,(p0.1.1==p1))
def uY9 p0 p1:=(rE2 p0 p1).1
def qP8 p0 p1:=(rE2 p0 p1).2
instance (p0 p1):Decidable (uY9 p0 p1):=by unfold uY9 rE2;dsimp only;infer_instance
theorem rW5:SK 71 (sp2 (.val T73) (.val (.ptr (.int .i64))) vB uY9 qP8):=fb Tryz.func71 9
abbrev wY3:Type:=((List D73)×(Int×Unit)×Int×Unit)
abbrev wR3:Type:=(Int×Unit)
def vL6 (y:wY3)(x:wR3):Prop×Bool×wR3×Bool×Bool:=
 let a0:=y.1
 let a1:=y.2.1
 let a8:=x.1
 let v9:=(decide (a8<y.2.2.1))
 let v14:=(nth a0 a8 Z73)
 let v16:=(qP8 v14 a1.1)
 ((v9=true→(InB a8 (len a0)∧((uY9 v14 a1.1)∧((!v16)=true→InR (a8+1))))),(v9&&(!v16)),((a8+1),()),(v9&&v16),(!v9))
def vR7 y x:=(vL6 y x).1
def vE0 y x:=(vL6 y x).2.1
def wS3 y x:=(vL6 y x).2.2.1
def uI7 y x:=(vL6 y x).2.2.2.1
def sT7 y x:=(vL6 y x).2.2.2.2
instance (y x):Decidable (vR7 y x):=by unfold vR7 vL6;dsimp only;infer_instance
def vU0 (y:wY3)(x:wR3):Int:=
 x.1
def sT8:=li [(0,(.val (.sl T73))),(1,(.fn 71 (.cons (.val (.ptr (.int .i64))) .nl))),(7,vI)] [(8,vI)] vE0 wS3 vR7 (fun y x=>[ex 1 (some (uI7 y x)) [(4,vI)] ((vU0 y x),()),ex 2 (some (sT7 y x)) [] ()]) [[(4,vI)],[]]
def rE3 (p0:List D73)(p1:(Int×Unit)):Prop×Int:=
 let y2:=(p0,(p1.1,()),(len p0),())
 let x2:=((0:Int),())
 let e2:=(zB9 (vE0 y2) (wS3 y2) x2)
 ((xB7 (vE0 y2) (wS3 y2) (vR7 y2) x2),(bif (uI7 y2 e2) then (vU0 y2 e2) else (-1:Int)))
def uI8 p0 p1:=(rE3 p0 p1).1
def vB1 p0 p1:=(rE3 p0 p1).2
instance (p0 p1):Decidable (uI8 p0 p1):=by unfold uI8 rE3;dsimp only;infer_instance
theorem rW6:SK 70 (sp2 (.val (.sl T73)) (.fn 71 (.cons (.val (.ptr (.int .i64))) .nl)) vI uI8 vB1):=fb Tryz.func70 19 [kb rW5] [(2,sT8)]
def f38t (p0:D70)(p1:Int):Prop×Int:=
 let s:=(p1,())
 ((uI8 p0.1 s),(vB1 p0.1 s))
def uI9 p0 p1:=(f38t p0 p1).1
def f38 p0 p1:=(f38t p0 p1).2
instance (p0 p1):Decidable (uI9 p0 p1):=by unfold uI9 f38t;dsimp only;infer_instance
theorem sH7:SK 38 (sp2 (.val (.ptr T70)) vI vI uI9 f38):=fb Tryz.func38 11 [kb rW6] [] [(2,[(3,3,0,0)])]
abbrev uZ:Type:=(Int×(List D73)×Int×Unit)
abbrev uB3:Type:=((List Int)×Int×Unit)
def sL8 (y:uZ)(x:uB3):Prop×Bool×uB3:=
 let a20:=y.2.1
 let a5:=x.1
 let a22:=x.2.1
 let v23:=(decide (a22<y.2.2.1))
 let v24:=(nth a20 a22 Z73)
 let v30:=(v24.1.2.1==y.1)
 let v35:=([v24.1.1]:List Int)
 ((v23=true→(InB a22 (len a20)∧((v30=true→((List.length a5+List.length v35:Nat):Int)≤4294967296)∧InR (a22+1)))),v23,((bif v30 then (a5++v35) else a5),(a22+1),()))
def uZ0 y x:=(sL8 y x).1
def uN9 y x:=(sL8 y x).2.1
def vE1 y x:=(sL8 y x).2.2
instance (y x):Decidable (uZ0 y x):=by unfold uZ0 sL8;dsimp only;infer_instance
def tX6 (y:uZ)(x:uB3):(List Int):=
 x.1
def sT9:List (Nat×Sh):=[(5,(.own (.int .i64) 1005 false))]
def rW7:=li [(1,vI),(20,(.val (.sl T73))),(21,vI)] [(5,(.own (.int .i64) 1005 false)),(22,vI)] uN9 vE1 uZ0 (fun y x=>[ex 2 none sT9 ((tX6 y x),())]) [sT9]
def f23t (p0:D70)(p1:Int):Prop×(List Int):=
 let v10:=(!(f36 p0))
 let v16:=(bif v10 then true else (decide ((f38 p0 p1)<0)))
 let y5:=(p1,p0.1,(len p0.1),())
 let x5:=(([]:List Int),(0:Int),())
 (((vP p0)∧(((!v10)=true→(uI9 p0 p1))∧((!v16)=true→(xB7 (uN9 y5) (vE1 y5) (uZ0 y5) x5)))),(bif v16 then [] else (tX6 y5 (zB9 (uN9 y5) (vE1 y5) x5))))
def tK7 p0 p1:=(f23t p0 p1).1
def f23 p0 p1:=(f23t p0 p1).2
instance (p0 p1):Decidable (tK7 p0 p1):=by unfold tK7 f23t;dsimp only;infer_instance
def qH4:=sp2 (.val (.ptr T70)) vI (.own (.int .i64) 0 false) tK7 f23
theorem rW8:SK 23 (sp2 (.val (.ptr T70)) vI (.own (.int .i64) 0 false) tK7 f23):=fb Tryz.func23 39 [kb uI2,kb sH7] [(5,rW7)] [(17,[(4,0,36,1005)]),(21,[(4,0,1005,0)])]
abbrev vR8:Type:=(D70×(List D73)×Int×Unit)
abbrev vE8:Type:=(Int×Int×Unit)
def tF2 (y:vR8)(x:vE8):Prop×Bool×vE8×Bool×Bool:=
 let a0:=y.1
 let a9:=y.2.1
 let a11:=x.2.1
 let v12:=(decide (a11<y.2.2.1))
 let v14:=(nth a9 a11 Z73)
 let v23:=(v14.1.1 !=a0.2.1)
 let v32:=(bif v23 then ((len (f23 a0 v14.1.1))==0) else false)
 ((v12=true→(InB a11 (len a9)∧((v23=true→(tK7 a0 v14.1.1))∧((!v32)=true→InR (a11+1))))),(v12&&(!v32)),((bif (v14.1.2.1==0) then a11 else x.1),(a11+1),()),(v12&&v32),(!v12))
def uJ y x:=(tF2 y x).1
def vR9 y x:=(tF2 y x).2.1
def wU0 y x:=(tF2 y x).2.2.1
def uJ0 y x:=(tF2 y x).2.2.2.1
def rW9 y x:=(tF2 y x).2.2.2.2
instance (y x):Decidable (uJ y x):=by unfold uJ tF2;dsimp only;infer_instance
def uR8 (y:vR8)(x:vE8):Int:=
 x.2.1
def uR9 (y:vR8)(x:vE8):Int:=
 x.1
def rX:=li [(0,(.val (.ptr T70))),(9,(.val (.sl T73))),(10,vI)] [(3,vI),(11,vI)] vR9 wU0 uJ (fun y x=>[ex 1 (some (uJ0 y x)) [(2,vI)] ((uR8 y x),()),ex 2 (some (rW9 y x)) [(3,vI)] ((uR9 y x),())]) [[(2,vI)],[(3,vI)]]
def f48t (p0:D70):Prop×Int:=
 let y3:=(p0,p0.1,(len p0.1),())
 let x3:=((0:Int),(0:Int),())
 let e3:=(zB9 (vR9 y3) (wU0 y3) x3)
 ((xB7 (vR9 y3) (wU0 y3) (uJ y3) x3),(bif (uJ0 y3 e3) then (uR8 y3 e3) else (uR9 y3 e3)))
def sH8 p0:=(f48t p0).1
def f48 p0:=(f48t p0).2
instance (p0):Decidable (sH8 p0):=by unfold sH8 f48t;dsimp only;infer_instance
theorem pR8:SK 48 (sp1 (.val (.ptr T70)) vI sH8 f48):=fb Tryz.func48 41 [kb rW8] [(3,rX)]
def f49 (p0:List D73)(p1 p2:Int):List D73:=List.take (Int.toNat p1) p0++List.drop (Int.toNat p2) p0
def sU (p0:List D73)(p1 p2:Int):Prop:=0≤p1∧p1<p2∧p2≤(List.length p0:Int)
instance (p0:List D73)(p1 p2:Int):Decidable (sU p0 p1 p2):=by
  unfold sU
  infer_instance
def pR9:List (Nat×Sh):=[(0,(.own T73 400000 true)),(1,(.val (.int .i64))),(2,(.val (.int .i64)))]
def pS:Sh:=(.own T73 0 true)
def pS0:List (Nat×Sh):=[]
def qH5:Am.Spec:=fnSpec pR9 pS pS0 (fun x=>sU x.1 x.2.1 x.2.2.1) (fun x=>f49 x.1 x.2.1 x.2.2.1) (fun _=>())
theorem pS1:SpecOk Tryz.prog 49 qH5:=qE7 rfl ⟨_,Tryz.func49,by kernel_rfl,by decide⟩ qR6
def sL9 (p0:((List D73)×Int×Int×Int×Unit))(p1:Int):Prop×(Unit)×(((List D73)×Int×Int×Int×Unit)×Unit):=
 let v8:=(p0.2.2.2.1+1)
 let s:=(p0.1,p1,p0.2.2.1,v8,())
 let v21:=(f38 s p1)
 ((InR (p0.2.2.2.1+1)∧((uI9 s p1)∧(InB v21 (len p0.1)∧v21<len p0.1))),(),(((List.set p0.1 (Int.toNat v21) ((nth p0.1 v21 Z73).1,v8,())),p1,p0.2.2.1,v8,()),()))
def wS p0 p1:=(sL9 p0 p1).1
def pS2 p0 p1:=(sL9 p0 p1).2.1
def wS5 p0 p1:=(sL9 p0 p1).2.2
instance (p0 p1):Decidable (wS p0 p1):=by unfold wS sL9;dsimp only;infer_instance
theorem uZ1:SK 47 (fnSpec [(0,(.box T70 (.agg (.cons (.sl T73) (.cons (.int .i64) (.cons (.int .i64) (.cons (.int .i64) .nl)))) (.cons (.own T73 400000 true) (.cons vI (.cons vI (.cons vI .nl))))))),(1,vI)] (.tup .nl) [(0,(.box T70 (.agg (.cons (.sl T73) (.cons (.int .i64) (.cons (.int .i64) (.cons (.int .i64) .nl)))) (.cons (.own T73 400000 true) (.cons vI (.cons vI (.cons vI .nl)))))))] (fun x=>wS x.1 x.2.1) (fun x=>pS2 x.1 x.2.1) (fun x=>wS5 x.1 x.2.1)):=fb Tryz.func47 28 [kb sH7] [] [] false [0]
def sM (p0:((List D73)×Int×Int×Int×Unit))(p1:List UInt8)(p2:D28):Prop×(Unit)×(((List D73)×Int×Int×Int×Unit)×Unit):=
 let v26:=([((p0.2.2.1,p0.2.1,p1,(f37 p2),()),(0:Int),())]:List D73)
 let s_3:=((p0.1++v26),p0.2.1,(p0.2.2.1+1),p0.2.2.2.1,())
 let v40o:=(wS5 s_3 p0.2.2.1)
 (((uI6 p2)∧(((List.length p0.1+List.length v26:Nat):Int)≤4294967296∧(InR (p0.2.2.1+1)∧(wS s_3 p0.2.2.1)))),(),((v40o.1.1,v40o.1.2.1,v40o.1.2.2.1,v40o.1.2.2.2.1,()),()))
def vG3 p0 p1 p2:=(sM p0 p1 p2).1
def pS3 p0 p1 p2:=(sM p0 p1 p2).2.1
def vS0 p0 p1 p2:=(sM p0 p1 p2).2.2
instance (p0 p1 p2):Decidable (vG3 p0 p1 p2):=by unfold vG3 sM;dsimp only;infer_instance
theorem sU0:SK 40 (fnSpec [(0,(.box T70 (.agg (.cons (.sl T73) (.cons (.int .i64) (.cons (.int .i64) (.cons (.int .i64) .nl)))) (.cons (.own T73 400000 true) (.cons vI (.cons vI (.cons vI .nl))))))),(1,vS),(2,(.val T28))] (.tup .nl) [(0,(.box T70 (.agg (.cons (.sl T73) (.cons (.int .i64) (.cons (.int .i64) (.cons (.int .i64) .nl)))) (.cons (.own T73 400000 true) (.cons vI (.cons vI (.cons vI .nl)))))))] (fun x=>vG3 x.1 x.2.1 x.2.2.1) (fun x=>pS3 x.1 x.2.1 x.2.2.1) (fun x=>vS0 x.1 x.2.1 x.2.2.1)):=fx (fun c=>{ c with wants:=[(47,[])] }) Tryz.func40 41 [kb rW4,kb uZ1] [] [(5,[(4,0,27,400000)])] false [0] [27]
def f25t (p0:D28):Prop×(Bool×Int×Unit)×((Bool×((List D73)×Int×Int×Int×Unit))×Unit):=
 let v7:=(f9 p0)
 let v9:=(v7 !=0)
 let s_1:=(([]:List D73),(0:Int),(1:Int),(0:Int),())
 let v15o:=(vS0 s_1 ([]:List UInt8) p0)
 (((sC6 p0)∧((!v9)=true→(vG3 s_1 ([]:List UInt8) p0))),(v9,(bif v9 then v7 else (0:Int)),()),(((!v9),(v15o.1.1,v15o.1.2.1,v15o.1.2.2.1,v15o.1.2.2.2.1,())),()))
def sU1 p0:=(f25t p0).1
def f25 p0:=(f25t p0).2.1
def qH6 p0:=(f25t p0).2.2
instance (p0):Decidable (sU1 p0):=by unfold sU1 f25t;dsimp only;infer_instance
theorem qP9:SK 25 (fnSpec [(0,(.val T28))] (.tup (.cons (.pn 900000 T70) (.cons vI .nl))) [(900000,(.may T70 (.agg (.cons (.sl T73) (.cons (.int .i64) (.cons (.int .i64) (.cons (.int .i64) .nl)))) (.cons (.own T73 0 true) (.cons vI (.cons vI (.cons vI .nl)))))))] (fun x=>sU1 x.1) (fun x=>f25 x.1) (fun x=>qH6 x.1)):=fx (fun c=>{ c with wants:=[(40,[])] }) Tryz.func25 17 [kb pE3,kb sU0] [] [(9,[(6,12,0,910005)]),(13,[(6,910005,0,900000),(4,0,91400500,0)])] false [900000]
def vU1 (p0:((List D73)×Int×Int×Int×Unit))(p1:List UInt8)(p2:D28):Prop×(Int×Int×Unit)×(((List D73)×Int×Int×Int×Unit)×Unit):=
 let s:=(p0.1,p0.2.1,p0.2.2.1,p0.2.2.2.1,())
 let v11:=(!(f36 s))
 let v14:=(!(f39 p1))
 let v16:=(f9 p2)
 let v18:=(v16 !=0)
 let v25:=(decide ((len p0.1)≥128))
 let v30:=(decide (p0.2.2.1>1073741824))
 let s_2:=(p0.1,p0.2.1,p0.2.2.1,p0.2.2.2.1,())
 let v34o:=(vS0 s_2 p1 p2)
 let s_3:=((bif v11 then p0.1 else (bif v14 then p0.1 else (bif v18 then p0.1 else (bif v25 then p0.1 else (bif v30 then p0.1 else v34o.1.1))))),(bif v11 then p0.2.1 else (bif v14 then p0.2.1 else (bif v18 then p0.2.1 else (bif v25 then p0.2.1 else (bif v30 then p0.2.1 else v34o.1.2.1))))),(bif v11 then p0.2.2.1 else (bif v14 then p0.2.2.1 else (bif v18 then p0.2.2.1 else (bif v25 then p0.2.2.1 else (bif v30 then p0.2.2.1 else v34o.1.2.2.1))))),(bif v11 then p0.2.2.2.1 else (bif v14 then p0.2.2.2.1 else (bif v18 then p0.2.2.2.1 else (bif v25 then p0.2.2.2.1 else (bif v30 then p0.2.2.2.1 else v34o.1.2.2.2.1))))),())
 (((vP s)∧((!v11)=true→((sT5 p1)∧((!v14)=true→((sC6 p2)∧((!v18)=true→((!v25)=true→((!v30)=true→(vG3 s_2 p1 p2))))))))),((bif v11 then (0:Int) else (bif v14 then (0:Int) else (bif v18 then (0:Int) else (bif v25 then (0:Int) else (bif v30 then (0:Int) else v34o.1.2.1))))),(bif v11 then (14:Int) else (bif v14 then (13:Int) else (bif v18 then v16 else (bif v25 then (22:Int) else (bif v30 then (3:Int) else (0:Int)))))),()),(s_3,()))
def vP1 p0 p1 p2:=(vU1 p0 p1 p2).1
def vB2 p0 p1 p2:=(vU1 p0 p1 p2).2.1
def wW7 p0 p1 p2:=(vU1 p0 p1 p2).2.2
instance (p0 p1 p2):Decidable (vP1 p0 p1 p2):=by unfold vP1 vU1;dsimp only;infer_instance
def rE4:Am.Spec:=fnSpec [(0,(.box T70 (.agg (.cons (.sl T73) (.cons (.int .i64) (.cons (.int .i64) (.cons (.int .i64) .nl)))) (.cons (.own T73 400000 true) (.cons vI (.cons vI (.cons vI .nl))))))),(1,vS),(2,(.val T28))] (.tup (.cons vI (.cons vI .nl))) [(0,(.box T70 (.agg (.cons (.sl T73) (.cons (.int .i64) (.cons (.int .i64) (.cons (.int .i64) .nl)))) (.cons (.own T73 400000 true) (.cons vI (.cons vI (.cons vI .nl)))))))] (fun x=>vP1 x.1 x.2.1 x.2.2.1) (fun x=>vB2 x.1 x.2.1 x.2.2.1) (fun x=>wW7 x.1 x.2.1 x.2.2.1)
theorem tX7:SK 12 (fnSpec [(0,(.box T70 (.agg (.cons (.sl T73) (.cons (.int .i64) (.cons (.int .i64) (.cons (.int .i64) .nl)))) (.cons (.own T73 400000 true) (.cons vI (.cons vI (.cons vI .nl))))))),(1,vS),(2,(.val T28))] (.tup (.cons vI (.cons vI .nl))) [(0,(.box T70 (.agg (.cons (.sl T73) (.cons (.int .i64) (.cons (.int .i64) (.cons (.int .i64) .nl)))) (.cons (.own T73 400000 true) (.cons vI (.cons vI (.cons vI .nl)))))))] (fun x=>vP1 x.1 x.2.1 x.2.2.1) (fun x=>vB2 x.1 x.2.1 x.2.2.1) (fun x=>wW7 x.1 x.2.1 x.2.2.1)):=fx (fun c=>{ c with wants:=[(40,[])] }) Tryz.func12 39 [kb pE3,kb uI2,kb pP9,kb sU0] [] [] false [0]
def uJ1 (p0:((List D73)×Int×Int×Int×Unit)):Prop×Int×(((List D73)×Int×Int×Int×Unit)×Unit):=
 let s:=(p0.1,p0.2.1,p0.2.2.1,p0.2.2.2.1,())
 let v6:=(!(f36 s))
 let s_1:=(p0.1,p0.2.1,p0.2.2.1,p0.2.2.2.1,())
 let v16:=(f38 s_1 p0.2.1)
 let v20:=(nth p0.1 v16 Z73).1.2.1
 let v22:=(v20==0)
 let s_3:=(p0.1,p0.2.1,p0.2.2.1,p0.2.2.2.1,())
 let v25o:=(wS5 s_3 v20)
 let s_4:=((bif v6 then p0.1 else (bif v22 then p0.1 else v25o.1.1)),(bif v6 then p0.2.1 else (bif v22 then p0.2.1 else v25o.1.2.1)),(bif v6 then p0.2.2.1 else (bif v22 then p0.2.2.1 else v25o.1.2.2.1)),(bif v6 then p0.2.2.2.1 else (bif v22 then p0.2.2.2.1 else v25o.1.2.2.2.1)),())
 (((vP s)∧((!v6)=true→((uI9 s_1 p0.2.1)∧(InB v16 (len p0.1)∧(v16<len p0.1∧((!v22)=true→(wS s_3 v20))))))),(bif v6 then (14:Int) else (bif v22 then (14:Int) else (0:Int))),(s_4,()))
def vP2 p0:=(uJ1 p0).1
def uP3 p0:=(uJ1 p0).2.1
def wX6 p0:=(uJ1 p0).2.2
instance (p0):Decidable (vP2 p0):=by unfold vP2 uJ1;dsimp only;infer_instance
def rE5:Am.Spec:=fnSpec [(0,(.box T70 (.agg (.cons (.sl T73) (.cons (.int .i64) (.cons (.int .i64) (.cons (.int .i64) .nl)))) (.cons (.own T73 400000 true) (.cons vI (.cons vI (.cons vI .nl)))))))] vI [(0,(.box T70 (.agg (.cons (.sl T73) (.cons (.int .i64) (.cons (.int .i64) (.cons (.int .i64) .nl)))) (.cons (.own T73 400000 true) (.cons vI (.cons vI (.cons vI .nl)))))))] (fun x=>vP2 x.1) (fun x=>uP3 x.1) (fun x=>wX6 x.1)
theorem tX8:SK 14 (fnSpec [(0,(.box T70 (.agg (.cons (.sl T73) (.cons (.int .i64) (.cons (.int .i64) (.cons (.int .i64) .nl)))) (.cons (.own T73 400000 true) (.cons vI (.cons vI (.cons vI .nl)))))))] vI [(0,(.box T70 (.agg (.cons (.sl T73) (.cons (.int .i64) (.cons (.int .i64) (.cons (.int .i64) .nl)))) (.cons (.own T73 400000 true) (.cons vI (.cons vI (.cons vI .nl)))))))] (fun x=>vP2 x.1) (fun x=>uP3 x.1) (fun x=>wX6 x.1)):=fx (fun c=>{ c with wants:=[(47,[])] }) Tryz.func14 26 [kb uI2,kb sH7,kb uZ1] [] [] false [0]
abbrev vP3:Type:=(((List D73)×Int×Int×Int×Unit)×(List D73)×Int×Unit)
abbrev wY4:Type:=(Int×Int×Int×Unit)
def uO (y:vP3)(x:wY4):Prop×Bool×wY4:=
 let a13:=y.2.1
 let a4:=x.2.1
 let a15:=x.2.2.1
 let v16:=(decide (a15<y.2.2.1))
 let v18:=(nth a13 a15 Z73)
 let v32:=(bif (v18.1.2.1==y.1.2.1) then (decide (v18.2.1>a4)) else false)
 ((v16=true→(InB a15 (len a13)∧(a15<len a13∧InR (a15+1)))),v16,((bif v32 then v18.1.1 else x.1),(bif v32 then v18.2.1 else a4),(a15+1),()))
def vG4 y x:=(uO y x).1
def wU1 y x:=(uO y x).2.1
def wN8 y x:=(uO y x).2.2
instance (y x):Decidable (vG4 y x):=by unfold vG4 uO;dsimp only;infer_instance
def wX2 (y:vP3)(x:wY4):Int:=
 x.1
def tK8:List (Nat×Sh):=[(0,(.box T70 (.agg (.cons (.sl T73) (.cons (.int .i64) (.cons (.int .i64) (.cons (.int .i64) .nl)))) (.cons (.own T73 400000 true) (.cons vI (.cons vI (.cons vI .nl))))))),(3,vI)]
def sU2:=li [(0,(.box T70 (.agg (.cons (.sl T73) (.cons (.int .i64) (.cons (.int .i64) (.cons (.int .i64) .nl)))) (.cons (.own T73 400000 true) (.cons vI (.cons vI (.cons vI .nl))))))),(13,(.own T73 400000 true)),(14,vI)] [(3,vI),(4,vI),(15,vI)] wU1 wN8 vG4 (fun y x=>[ex 2 none tK8 (y.1,(wX2 y x),())]) [tK8]
def uJ2 (p0:((List D73)×Int×Int×Int×Unit)):Prop×Int×(((List D73)×Int×Int×Int×Unit)×Unit):=
 let s:=(p0.1,p0.2.1,p0.2.2.1,p0.2.2.2.1,())
 let v9:=(!(f36 s))
 let y5:=((p0.1,p0.2.1,p0.2.2.1,p0.2.2.2.1,()),p0.1,(len p0.1),())
 let x5:=((0:Int),(0:Int),(0:Int),())
 let r5_2_0:=(wX2 y5 (zB9 (wU1 y5) (wN8 y5) x5))
 let v40:=(r5_2_0==0)
 let s_3:=(p0.1,p0.2.1,p0.2.2.1,p0.2.2.2.1,())
 let v43o:=(wS5 s_3 r5_2_0)
 let s_4:=((bif v9 then p0.1 else (bif v40 then p0.1 else v43o.1.1)),(bif v9 then p0.2.1 else (bif v40 then p0.2.1 else v43o.1.2.1)),(bif v9 then p0.2.2.1 else (bif v40 then p0.2.2.1 else v43o.1.2.2.1)),(bif v9 then p0.2.2.2.1 else (bif v40 then p0.2.2.2.1 else v43o.1.2.2.2.1)),())
 (((vP s)∧((!v9)=true→((xB7 (wU1 y5) (wN8 y5) (vG4 y5) x5)∧((!v40)=true→(wS s_3 r5_2_0))))),(bif v9 then (14:Int) else (bif v40 then (14:Int) else (0:Int))),(s_4,()))
def vP4 p0:=(uJ2 p0).1
def uP4 p0:=(uJ2 p0).2.1
def wX7 p0:=(uJ2 p0).2.2
instance (p0):Decidable (vP4 p0):=by unfold vP4 uJ2;dsimp only;infer_instance
def rE6:Am.Spec:=fnSpec [(0,(.box T70 (.agg (.cons (.sl T73) (.cons (.int .i64) (.cons (.int .i64) (.cons (.int .i64) .nl)))) (.cons (.own T73 400000 true) (.cons vI (.cons vI (.cons vI .nl)))))))] vI [(0,(.box T70 (.agg (.cons (.sl T73) (.cons (.int .i64) (.cons (.int .i64) (.cons (.int .i64) .nl)))) (.cons (.own T73 400000 true) (.cons vI (.cons vI (.cons vI .nl)))))))] (fun x=>vP4 x.1) (fun x=>uP4 x.1) (fun x=>wX7 x.1)
theorem tX9:SK 15 (fnSpec [(0,(.box T70 (.agg (.cons (.sl T73) (.cons (.int .i64) (.cons (.int .i64) (.cons (.int .i64) .nl)))) (.cons (.own T73 400000 true) (.cons vI (.cons vI (.cons vI .nl)))))))] vI [(0,(.box T70 (.agg (.cons (.sl T73) (.cons (.int .i64) (.cons (.int .i64) (.cons (.int .i64) .nl)))) (.cons (.own T73 400000 true) (.cons vI (.cons vI (.cons vI .nl)))))))] (fun x=>vP4 x.1) (fun x=>uP4 x.1) (fun x=>wX7 x.1)):=fx (fun c=>{ c with wants:=[(47,[])] }) Tryz.func15 44 [kb uI2,kb uZ1] [(5,sU2)] [] false [0]
def uJ3 (p0:((List D73)×Int×Int×Int×Unit))(p1:Int):Prop×Int×(((List D73)×Int×Int×Int×Unit)×Unit):=
 let s:=(p0.1,p0.2.1,p0.2.2.1,p0.2.2.2.1,())
 let v7:=(!(f36 s))
 let s_1:=(p0.1,p0.2.1,p0.2.2.1,p0.2.2.2.1,())
 let v11:=(decide ((f38 s_1 p1)<0))
 let s_3:=(p0.1,p0.2.1,p0.2.2.1,p0.2.2.2.1,())
 let v14o:=(wS5 s_3 p1)
 let s_4:=((bif v7 then p0.1 else (bif v11 then p0.1 else v14o.1.1)),(bif v7 then p0.2.1 else (bif v11 then p0.2.1 else v14o.1.2.1)),(bif v7 then p0.2.2.1 else (bif v11 then p0.2.2.1 else v14o.1.2.2.1)),(bif v7 then p0.2.2.2.1 else (bif v11 then p0.2.2.2.1 else v14o.1.2.2.2.1)),())
 (((vP s)∧((!v7)=true→((uI9 s_1 p1)∧((!v11)=true→(wS s_3 p1))))),(bif v7 then (14:Int) else (bif v11 then (9:Int) else (0:Int))),(s_4,()))
def uJ4 p0 p1:=(uJ3 p0 p1).1
def sH9 p0 p1:=(uJ3 p0 p1).2.1
def vS1 p0 p1:=(uJ3 p0 p1).2.2
instance (p0 p1):Decidable (uJ4 p0 p1):=by unfold uJ4 uJ3;dsimp only;infer_instance
theorem sU3:SK 27 (fnSpec [(0,(.box T70 (.agg (.cons (.sl T73) (.cons (.int .i64) (.cons (.int .i64) (.cons (.int .i64) .nl)))) (.cons (.own T73 400000 true) (.cons vI (.cons vI (.cons vI .nl))))))),(1,vI)] vI [(0,(.box T70 (.agg (.cons (.sl T73) (.cons (.int .i64) (.cons (.int .i64) (.cons (.int .i64) .nl)))) (.cons (.own T73 400000 true) (.cons vI (.cons vI (.cons vI .nl)))))))] (fun x=>uJ4 x.1 x.2.1) (fun x=>sH9 x.1 x.2.1) (fun x=>vS1 x.1 x.2.1)):=fx (fun c=>{ c with wants:=[(47,[])] }) Tryz.func27 15 [kb uI2,kb sH7,kb uZ1] [] [] false [0]
abbrev vG5:Type:=(Int×(List Int)×Int×Int×Unit)
abbrev wU2:Type:=(((List D73)×Int×Int×Int×Unit)×Int×Unit)
def uB4 (y:vG5)(x:wU2):Prop×Bool×wU2:=
 let a0:=x.1
 let a49:=x.2.1
 let v50:=(decide (a49<y.2.2.2.1))
 let v62:=(((nth a0.1 a49 Z73).1.2.1)==y.2.2.1)
 let s_2:=((bif v62 then (List.set a0.1 (Int.toNat a49) (((nth a0.1 a49 Z73).1.1,(0:Int),(nth a0.1 a49 Z73).1.2.2.1,(nth a0.1 a49 Z73).1.2.2.2.1,()),(nth a0.1 a49 Z73).2.1,())) else a0.1),(bif v62 then a0.2.1 else a0.2.1),(bif v62 then a0.2.2.1 else a0.2.2.1),(bif v62 then a0.2.2.2.1 else a0.2.2.2.1),())
 ((v50=true→(InB a49 (len a0.1)∧(a49<len a0.1∧((v62=true→(InB a49 (len a0.1)∧a49<len a0.1))∧InR (a49+1))))),v50,(s_2,(a49+1),()))
def vB3 y x:=(uB4 y x).1
def wQ5 y x:=(uB4 y x).2.1
def wN5 y x:=(uB4 y x).2.2
instance (y x):Decidable (vB3 y x):=by unfold vB3 uB4;dsimp only;infer_instance
def vB4 (y:vG5)(x:wU2):((List D73)×Int×Int×Int×Unit):=
 let a0:=x.1
 (a0.1,a0.2.1,a0.2.2.1,a0.2.2.2.1,())
def uZ2:List (Nat×Sh):=[(0,(.box T70 (.agg (.cons (.sl T73) (.cons (.int .i64) (.cons (.int .i64) (.cons (.int .i64) .nl)))) (.cons (.own T73 400000 true) (.cons vI (.cons vI (.cons vI .nl))))))),(1,vI),(6,(.own (.int .i64) 1006 false)),(8,vI)]
def sM0:=li [(1,vI),(6,(.own (.int .i64) 1006 false)),(8,vI),(48,vI)] [(0,(.box T70 (.agg (.cons (.sl T73) (.cons (.int .i64) (.cons (.int .i64) (.cons (.int .i64) .nl)))) (.cons (.own T73 400000 true) (.cons vI (.cons vI (.cons vI .nl))))))),(49,vI)] wQ5 wN5 vB3 (fun y x=>[ex 4 none uZ2 ((vB4 y x),y.1,y.2.1,y.2.2.1,())]) [uZ2]
abbrev vE2:Type:=(Int×Unit)
abbrev wU3:Type:=(((List D73)×Int×Int×Int×Unit)×(List Int)×Unit)
def uO0 (y:vE2)(x:wU3):Prop×Bool×wU3:=
 let a1:=y.1
 let a0:=x.1
 let a6:=x.2.1
 let v21:=(decide ((len a0.1)>a1))
 let s:=(a0.1,a0.2.1,a0.2.2.1,a0.2.2.2.1,())
 let v23:=(f48 s)
 let v32:=(nth a0.1 v23 Z73).1.1
 let v40:=(v23+1)
 let v41:=(f49 a0.1 v23 v40)
 let y11:=(a1,a6,v32,(len v41),())
 let x11:=((v41,a0.2.1,a0.2.2.1,a0.2.2.2.1,()),(0:Int),())
 let r11_4_0:=(vB4 y11 (zB9 (wQ5 y11) (wN5 y11) x11))
 let v74:=([v32]:List Int)
 ((v21=true→((sH8 s)∧(InB v23 (len a0.1)∧(v23<len a0.1∧(InR (v23+1)∧((sU a0.1 v23 v40)∧((xB7 (wQ5 y11) (wN5 y11) (vB3 y11) x11)∧((List.length a6+List.length v74:Nat):Int)≤4294967296))))))),v21,((r11_4_0.1,r11_4_0.2.1,r11_4_0.2.2.1,r11_4_0.2.2.2.1,()),(a6++v74),()))
def vG6 y x:=(uO0 y x).1
def vE3 y x:=(uO0 y x).2.1
def wN9 y x:=(uO0 y x).2.2
instance (y x):Decidable (vG6 y x):=by unfold vG6 uO0;dsimp only;infer_instance
def uP5 (y:vE2)(x:wU3):((List D73)×Int×Int×Int×Unit):=
 let a0:=x.1
 (a0.1,a0.2.1,a0.2.2.1,a0.2.2.2.1,())
def uP6 (y:vE2)(x:wU3):(List Int):=
 x.2.1
def tK9:List (Nat×Sh):=[(0,(.box T70 (.agg (.cons (.sl T73) (.cons (.int .i64) (.cons (.int .i64) (.cons (.int .i64) .nl)))) (.cons (.own T73 400000 true) (.cons vI (.cons vI (.cons vI .nl))))))),(6,(.own (.int .i64) 1006 false))]
def sU4:=li [(1,vI)] [(0,(.box T70 (.agg (.cons (.sl T73) (.cons (.int .i64) (.cons (.int .i64) (.cons (.int .i64) .nl)))) (.cons (.own T73 400000 true) (.cons vI (.cons vI (.cons vI .nl))))))),(6,(.own (.int .i64) 1006 false))] vE3 wN9 vG6 (fun y x=>[ex 2 none tK9 ((uP5 y x),(uP6 y x),())]) [tK9]
def uJ5 (p0:((List D73)×Int×Int×Int×Unit))(p1:Int):Prop×((List Int)×Int×Unit)×(((List D73)×Int×Int×Int×Unit)×Unit):=
 let s:=(p0.1,p0.2.1,p0.2.2.1,p0.2.2.2.1,())
 let v12:=(!(f36 s))
 let v14:=(decide (p1<1))
 let y6:=(p1,())
 let x6:=((p0.1,p0.2.1,p0.2.2.1,p0.2.2.2.1,()),([]:List Int),())
 let e6:=(zB9 (vE3 y6) (wN9 y6) x6)
 let r6_2_0:=(uP5 y6 e6)
 let s_2:=((bif v12 then p0.1 else (bif v14 then p0.1 else r6_2_0.1)),(bif v12 then p0.2.1 else (bif v14 then p0.2.1 else r6_2_0.2.1)),(bif v12 then p0.2.2.1 else (bif v14 then p0.2.2.1 else r6_2_0.2.2.1)),(bif v12 then p0.2.2.2.1 else (bif v14 then p0.2.2.2.1 else r6_2_0.2.2.2.1)),())
 (((vP s)∧((!v12)=true→((!v14)=true→(xB7 (vE3 y6) (wN9 y6) (vG6 y6) x6)))),((bif v12 then [] else (bif v14 then [] else (uP6 y6 e6))),(bif v12 then (14:Int) else (bif v14 then (1:Int) else (0:Int))),()),(s_2,()))
def vP5 p0 p1:=(uJ5 p0 p1).1
def tL p0 p1:=(uJ5 p0 p1).2.1
def vE9 p0 p1:=(uJ5 p0 p1).2.2
instance (p0 p1):Decidable (vP5 p0 p1):=by unfold vP5 uJ5;dsimp only;infer_instance
def rE7:Am.Spec:=fnSpec [(0,(.box T70 (.agg (.cons (.sl T73) (.cons (.int .i64) (.cons (.int .i64) (.cons (.int .i64) .nl)))) (.cons (.own T73 400000 true) (.cons vI (.cons vI (.cons vI .nl))))))),(1,vI)] (.tup (.cons (.own (.int .i64) 0 false) (.cons vI .nl))) [(0,(.box T70 (.agg (.cons (.sl T73) (.cons (.int .i64) (.cons (.int .i64) (.cons (.int .i64) .nl)))) (.cons (.own T73 400000 true) (.cons vI (.cons vI (.cons vI .nl)))))))] (fun x=>vP5 x.1 x.2.1) (fun x=>tL x.1 x.2.1) (fun x=>vE9 x.1 x.2.1)
theorem tY:SK 20 (fnSpec [(0,(.box T70 (.agg (.cons (.sl T73) (.cons (.int .i64) (.cons (.int .i64) (.cons (.int .i64) .nl)))) (.cons (.own T73 400000 true) (.cons vI (.cons vI (.cons vI .nl))))))),(1,vI)] (.tup (.cons (.own (.int .i64) 0 false) (.cons vI .nl))) [(0,(.box T70 (.agg (.cons (.sl T73) (.cons (.int .i64) (.cons (.int .i64) (.cons (.int .i64) .nl)))) (.cons (.own T73 400000 true) (.cons vI (.cons vI (.cons vI .nl)))))))] (fun x=>vP5 x.1 x.2.1) (fun x=>tL x.1 x.2.1) (fun x=>vE9 x.1 x.2.1)):=fx (fun c=>{ c with wants:=[(49,[0])] }) Tryz.func20 77 [kb uI2,kb pR8,kb pS1] [(6,sU4),(11,sM0)] [(19,[(4,0,41,400000)]),(33,[(4,0,75,1006)]),(35,[(4,0,1006,0)])] false [0]
def sM1 (p0:List D73):Prop×(List D73)×((List D73)×Unit):=
 ((0<List.length p0∧((!false)=true→((List.length ([]:List D73)+List.length p0:Nat):Int)≤4294967296)),(bif false then [] else (([]:List D73)++p0)),(p0,()))
def uZ3 p0:=(sM1 p0).1
def qQ p0:=(sM1 p0).2.1
def rH3 p0:=(sM1 p0).2.2
instance (p0):Decidable (uZ3 p0):=by unfold uZ3 sM1;dsimp only;infer_instance
theorem rX0:SK 51 (fnSpec [(0,(.own T73 400000 true))] (.own T73 0 true) [(0,(.own T73 400000 true))] (fun x=>uZ3 x.1) (fun x=>qQ x.1) (fun x=>rH3 x.1)):=fb Tryz.func51 8 [] [] [(7,[(4,0,7,0)])] false [0] [5,7]
def tF3 (p0:((List D73)×Int×Int×Int×Unit)):Prop×Bool×(((List D73)×Int×Int×Int×Unit)×(Bool×((List D73)×Int×Int×Int×Unit))×Unit):=
 let s:=(p0.1,p0.2.1,p0.2.2.1,p0.2.2.2.1,())
 let v6:=(!(f36 s))
 (((vP s)∧((!v6)=true→((uZ3 p0.1)∧(0<List.length p0.1∧(List.length p0.1=List.length p0.1∧(List.length p0.1=List.length p0.1∧(List.length p0.1=List.length p0.1∧List.length p0.1=List.length p0.1))))))),v6,(((bif v6 then p0.1 else (rH3 p0.1).1),(bif v6 then p0.2.1 else p0.2.1),(bif v6 then p0.2.2.1 else p0.2.2.1),(bif v6 then p0.2.2.2.1 else p0.2.2.2.1),()),((!v6),((qQ p0.1),p0.2.1,p0.2.2.1,p0.2.2.2.1,())),()))
def vG7 p0:=(tF3 p0).1
def tL0 p0:=(tF3 p0).2.1
def vS2 p0:=(tF3 p0).2.2
instance (p0):Decidable (vG7 p0):=by unfold vG7 tF3;dsimp only;infer_instance
def rE8:Am.Spec:=fnSpec [(0,(.box T70 (.agg (.cons (.sl T73) (.cons (.int .i64) (.cons (.int .i64) (.cons (.int .i64) .nl)))) (.cons (.own T73 400000 true) (.cons vI (.cons vI (.cons vI .nl)))))))] (.pn 900000 T70) [(0,(.box T70 (.agg (.cons (.sl T73) (.cons (.int .i64) (.cons (.int .i64) (.cons (.int .i64) .nl)))) (.cons (.own T73 400000 true) (.cons vI (.cons vI (.cons vI .nl))))))),(900000,(.may T70 (.agg (.cons (.sl T73) (.cons (.int .i64) (.cons (.int .i64) (.cons (.int .i64) .nl)))) (.cons (.own T73 0 true) (.cons vI (.cons vI (.cons vI .nl)))))))] (fun x=>vG7 x.1) (fun x=>tL0 x.1) (fun x=>vS2 x.1)
theorem sU5:SK 24 (fnSpec [(0,(.box T70 (.agg (.cons (.sl T73) (.cons (.int .i64) (.cons (.int .i64) (.cons (.int .i64) .nl)))) (.cons (.own T73 400000 true) (.cons vI (.cons vI (.cons vI .nl)))))))] (.pn 900000 T70) [(0,(.box T70 (.agg (.cons (.sl T73) (.cons (.int .i64) (.cons (.int .i64) (.cons (.int .i64) .nl)))) (.cons (.own T73 400000 true) (.cons vI (.cons vI (.cons vI .nl))))))),(900000,(.may T70 (.agg (.cons (.sl T73) (.cons (.int .i64) (.cons (.int .i64) (.cons (.int .i64) .nl)))) (.cons (.own T73 0 true) (.cons vI (.cons vI (.cons vI .nl)))))))] (fun x=>vG7 x.1) (fun x=>tL0 x.1) (fun x=>vS2 x.1)):=fx (fun c=>{ c with wants:=[(51,[0])] }) Tryz.func24 16 [kb uI2,kb rX0] [] [(7,[(4,0,400000,400300)]),(9,[(4,0,400300,400000),(4,0,14,400300)]),(11,[(6,3,0,900000),(4,0,400300,0)])] false [0,900000]
def wU4 (p0:((List D73)×Int×Int×Int×Unit))(p1:D50):Prop×(Bool×Int×(List Int)×Int×Unit)×((Bool×((List D73)×Int×Int×Int×Unit))×Unit):=
 let v15:=(p1.1==1)
 let s_1:=(p0.1,p0.2.1,p0.2.2.1,p0.2.2.2.1,())
 let v22:=(vB2 s_1 p1.2.2.1 p1.2.2.2.1)
 let v22o:=(wW7 s_1 p1.2.2.1 p1.2.2.2.1)
 let v29:=(p1.1==2)
 let s_3:=(p0.1,p0.2.1,p0.2.2.1,p0.2.2.2.1,())
 let v32o:=(wX6 s_3)
 let v34:=(p1.1==3)
 let s_5:=(p0.1,p0.2.1,p0.2.2.1,p0.2.2.2.1,())
 let v37o:=(wX7 s_5)
 let v39:=(p1.1==4)
 let s_7:=(p0.1,p0.2.1,p0.2.2.1,p0.2.2.2.1,())
 let v44o:=(vS1 s_7 p1.2.1)
 let v46:=(p1.1==5)
 let s_9:=(p0.1,p0.2.1,p0.2.2.1,p0.2.2.2.1,())
 let v51:=(tL s_9 p1.2.1)
 let v51o:=(vE9 s_9 p1.2.1)
 let v58:=(p1.1==6)
 let s_11:=(p0.1,p0.2.1,p0.2.2.1,p0.2.2.2.1,())
 let v60o:=(vS2 s_11)
 let c_8:=(bif v15 then true else (bif v29 then true else (bif v34 then true else (bif v39 then true else (bif v46 then true else v58)))))
 let m7_5:=(bif c_8 then (bif v15 then v22.2.1 else (bif v29 then (uP3 s_3) else (bif v34 then (uP4 s_5) else (bif v39 then (sH9 s_7 p1.2.1) else (bif v46 then v51.2.1 else (0:Int)))))) else (0:Int))
 let m900000_22:=(bif c_8 then (bif v15 then v22o.1.2.2.1 else (bif v29 then v32o.1.2.2.1 else (bif v34 then v37o.1.2.2.1 else (bif v39 then v44o.1.2.2.1 else (bif v46 then v51o.1.2.2.1 else v60o.2.1.2.2.2.1))))) else p0.2.2.1)
 let m900000_23:=(bif c_8 then (bif v15 then v22o.1.2.2.2.1 else (bif v29 then v32o.1.2.2.2.1 else (bif v34 then v37o.1.2.2.2.1 else (bif v39 then v44o.1.2.2.2.1 else (bif v46 then v51o.1.2.2.2.1 else v60o.2.1.2.2.2.2.1))))) else p0.2.2.2.1)
 let s_12:=((bif c_8 then (bif v15 then v22o.1.1 else (bif v29 then v32o.1.1 else (bif v34 then v37o.1.1 else (bif v39 then v44o.1.1 else (bif v46 then v51o.1.1 else v60o.2.1.2.1))))) else p0.1),(bif c_8 then (bif v15 then v22o.1.2.1 else (bif v29 then v32o.1.2.1 else (bif v34 then v37o.1.2.1 else (bif v39 then v44o.1.2.1 else (bif v46 then v51o.1.2.1 else v60o.2.1.2.2.1))))) else p0.2.1),m900000_22,m900000_23,())
 (((v15=true→(vP1 s_1 p1.2.2.1 p1.2.2.2.1))∧(v15=false→((v29=true→(vP2 s_3))∧(v29=false→((v34=true→(vP4 s_5))∧(v34=false→((v39=true→(uJ4 s_7 p1.2.1))∧(v39=false→((v46=true→(vP5 s_9 p1.2.1))∧(v46=false→(v58=true→(vG7 s_11)))))))))))),((bif c_8 then (bif v15 then false else (bif v29 then false else (bif v34 then false else (bif v39 then false else (bif v46 then false else (tL0 s_11)))))) else false),(bif c_8 then (bif v15 then v22.1 else (bif v29 then (0:Int) else (bif v34 then (0:Int) else (bif v39 then (0:Int) else (bif v46 then (0:Int) else (0:Int)))))) else (0:Int)),(bif c_8 then (bif v15 then [] else (bif v29 then [] else (bif v34 then [] else (bif v39 then [] else (bif v46 then v51.1 else []))))) else []),m7_5,()),(((bif c_8 then (bif v15 then true else (bif v29 then true else (bif v34 then true else (bif v39 then true else (bif v46 then true else v60o.2.1.1))))) else true),s_12),()))
def wX3 p0 p1:=(wU4 p0 p1).1
def vG8 p0 p1:=(wU4 p0 p1).2.1
def wR4 p0 p1:=(wU4 p0 p1).2.2
instance (p0 p1):Decidable (wX3 p0 p1):=by unfold wX3 wU4;dsimp only;infer_instance
def tY0:Am.Spec:=fnSpec [(0,(.box T70 (.agg (.cons (.sl T73) (.cons (.int .i64) (.cons (.int .i64) (.cons (.int .i64) .nl)))) (.cons (.own T73 400000 true) (.cons vI (.cons vI (.cons vI .nl))))))),(1,(.val T50))] (.tup (.cons (.pn 900000 T70) (.cons vI (.cons (.own (.int .i64) 2 false) (.cons vI .nl))))) [(900000,(.may T70 (.agg (.cons (.sl T73) (.cons (.int .i64) (.cons (.int .i64) (.cons (.int .i64) .nl)))) (.cons (.own T73 0 true) (.cons vI (.cons vI (.cons vI .nl)))))))] (fun x=>wX3 x.1 x.2.1) (fun x=>vG8 x.1 x.2.1) (fun x=>wR4 x.1 x.2.1)
theorem tY1:SK 18 (fnSpec [(0,(.box T70 (.agg (.cons (.sl T73) (.cons (.int .i64) (.cons (.int .i64) (.cons (.int .i64) .nl)))) (.cons (.own T73 400000 true) (.cons vI (.cons vI (.cons vI .nl))))))),(1,(.val T50))] (.tup (.cons (.pn 900000 T70) (.cons vI (.cons (.own (.int .i64) 2 false) (.cons vI .nl))))) [(900000,(.may T70 (.agg (.cons (.sl T73) (.cons (.int .i64) (.cons (.int .i64) (.cons (.int .i64) .nl)))) (.cons (.own T73 0 true) (.cons vI (.cons vI (.cons vI .nl)))))))] (fun x=>wX3 x.1 x.2.1) (fun x=>vG8 x.1 x.2.1) (fun x=>wR4 x.1 x.2.1)):=fx (fun c=>{ c with wants:=[(12,[]),(14,[]),(15,[]),(20,[]),(24,[]),(27,[])] }) Tryz.func18 62 [kb tX7,kb tX8,kb tX9,kb tY,kb sU5,kb sU3] [] [(9,[(6,0,0,900000),(4,0,400000,0)]),(13,[(6,0,0,900000),(4,0,400000,0)]),(17,[(6,0,0,900000),(4,0,400000,0)]),(21,[(6,0,0,900000),(4,0,400000,0)]),(25,[(4,0,51,1010)]),(27,[(6,0,0,900000),(4,0,1010,2),(4,0,400000,0)]),(31,[(6,900244,0,900000),(4,0,60,0)]),(33,[(6,0,0,900000),(4,0,400000,0)])] false [900000]
abbrev vU2:Type:=((List D50)×Int×Unit)
abbrev vH1:Type:=(Bool×Int×(Bool×((List D73)×Int×Int×Int×Unit))×Unit)
def sI (y:vU2)(x:vH1):Prop×Bool×vH1×Bool×Bool:=
 let a22:=y.1
 let a24:=x.2.1
 let a910006:=x.2.2.1
 let v25:=(decide (a24<y.2.1))
 let v26:=(nth a22 a24 Z50)
 let s_1:=(a910006.2.1,a910006.2.2.1,a910006.2.2.2.1,a910006.2.2.2.2.1,())
 let v31:=(vG8 s_1 v26)
 let v31o:=(wR4 s_1 v26)
 ((v25=true→(InB a24 (len a22)∧(x.1=false∧(a910006.1=true∧((wX3 s_1 v26)∧((!v31.1)=true→InR (a24+1))))))),(v25&&(!v31.1)),(v31.1,(a24+1),(v31o.1.1,(v31o.1.2.1,v31o.1.2.2.1,v31o.1.2.2.2.1,v31o.1.2.2.2.2.1,())),()),(v25&&v31.1),(!v25))
def uZ4 y x:=(sI y x).1
def sM2 y x:=(sI y x).2.1
def uO1 y x:=(sI y x).2.2.1
def sM3 y x:=(sI y x).2.2.2.1
def qH7 y x:=(sI y x).2.2.2.2
instance (y x):Decidable (uZ4 y x):=by unfold uZ4 sI;dsimp only;infer_instance
def rP2 (y:vU2)(x:vH1):Unit:=
 ()
def sI0 (y:vU2)(x:vH1):Int:=
 (0:Int)
def sI1 (y:vU2)(x:vH1):Bool:=
 x.1
def sI2 (y:vU2)(x:vH1):(Bool×((List D73)×Int×Int×Int×Unit)):=
 let a910006:=x.2.2.1
 (a910006.1,(a910006.2.1,a910006.2.2.1,a910006.2.2.2.1,a910006.2.2.2.2.1,()))
def rH4:List (Nat×Sh):=[(6,(.pn 910006 T70)),(910006,(.may T70 (.agg (.cons (.sl T73) (.cons (.int .i64) (.cons (.int .i64) (.cons (.int .i64) .nl)))) (.cons (.own T73 91400600 true) (.cons vI (.cons vI (.cons vI .nl)))))))]
def qH8:=li [(22,(.val (.sl T50))),(23,vI)] [(6,(.pn 910006 T70)),(24,vI),(910006,(.may T70 (.agg (.cons (.sl T73) (.cons (.int .i64) (.cons (.int .i64) (.cons (.int .i64) .nl)))) (.cons (.own T73 91400600 true) (.cons vI (.cons vI (.cons vI .nl)))))))] sM2 uO1 uZ4 (fun y x=>[ex 1 (some (sM3 y x)) [(4,.nilp),(5,vI)] ((rP2 y x),(sI0 y x),()),ex 2 (some (qH7 y x)) rH4 ((sI1 y x),(sI2 y x),())]) [[(4,.nilp),(5,vI)],rH4]
def f7t (p0:D28)(p1:List D50):Prop×(Bool×Int×Unit)×((Bool×((List D73)×Int×Int×Int×Unit))×Unit):=
 let v12:=(f25 p0)
 let v12o:=(qH6 p0)
 let v20:=(bif (v12.2.1 !=0) then true else v12.1)
 let y5:=(p1,(len p1),())
 let x5:=(v12.1,(0:Int),(v12o.1.1,(v12o.1.2.1,v12o.1.2.2.1,v12o.1.2.2.2.1,v12o.1.2.2.2.2.1,())),())
 let e5:=(zB9 (sM2 y5) (uO1 y5) x5)
 let q5_1:=(sM3 y5 e5)
 let r5_2_1:=(sI2 y5 e5)
 (((sU1 p0)∧((!v20)=true→(xB7 (sM2 y5) (uO1 y5) (uZ4 y5) x5))),((bif v20 then true else (bif q5_1 then true else (sI1 y5 e5))),(bif v20 then v12.2.1 else (bif q5_1 then (sI0 y5 e5) else (0:Int))),()),(((bif v20 then false else (bif q5_1 then false else r5_2_1.1)),(r5_2_1.2.1,r5_2_1.2.2.1,r5_2_1.2.2.2.1,r5_2_1.2.2.2.2.1,())),()))
def sM4 p0 p1:=(f7t p0 p1).1
def f7 p0 p1:=(f7t p0 p1).2.1
def f7_o p0 p1:=(f7t p0 p1).2.2
instance (p0 p1):Decidable (sM4 p0 p1):=by unfold sM4 f7t;dsimp only;infer_instance
def sM5:Am.Spec:=fnSpec [(0,(.val T28)),(1,(.val (.sl T50)))] (.tup (.cons (.pn 900000 T70) (.cons vI .nl))) [(900000,(.may T70 (.agg (.cons (.sl T73) (.cons (.int .i64) (.cons (.int .i64) (.cons (.int .i64) .nl)))) (.cons (.own T73 0 true) (.cons vI (.cons vI (.cons vI .nl)))))))] (fun x=>sM4 x.1 x.2.1) (fun x=>f7 x.1 x.2.1) (fun x=>f7_o x.1 x.2.1)
theorem qH9:SK 7 (fnSpec [(0,(.val T28)),(1,(.val (.sl T50)))] (.tup (.cons (.pn 900000 T70) (.cons vI .nl))) [(900000,(.may T70 (.agg (.cons (.sl T73) (.cons (.int .i64) (.cons (.int .i64) (.cons (.int .i64) .nl)))) (.cons (.own T73 0 true) (.cons vI (.cons vI (.cons vI .nl)))))))] (fun x=>sM4 x.1 x.2.1) (fun x=>f7 x.1 x.2.1) (fun x=>f7_o x.1 x.2.1)):=fx (fun c=>{ c with wants:=[(18,[]),(25,[])] }) Tryz.func7 40 [kb tY1,kb qP9] [(5,qH8)] [(3,[(6,900052,0,910006),(4,0,12,91400600)]),(14,[(8,6,0,0),(7,910006,0,0)]),(15,[(9,910006,0,0),(6,900128,0,910006),(4,0,31,91400600)]),(23,[(6,910006,0,900000),(4,0,91400600,0)])] false [900000]
def f10t (p0:D70):Prop×Int:=
 ((vP p0),(bif (!(f36 p0)) then (0:Int) else p0.2.1))
def vG9 p0:=(f10t p0).1
def f10 p0:=(f10t p0).2
instance (p0):Decidable (vG9 p0):=by unfold vG9 f10t;dsimp only;infer_instance
def sM6:=sp1 (.val (.ptr T70)) vI vG9 f10
theorem rH5:SK 10 (sp1 (.val (.ptr T70)) vI vG9 f10):=fb Tryz.func10 10 [kb uI2]
abbrev uB5:Type:=((List Int)×(List Int)×Int×Unit)
abbrev vJ0:Type:=(Int×Unit)
def tF4 (y:uB5)(x:vJ0):Prop×Bool×vJ0×Bool×Bool:=
 let a0:=y.1
 let a1:=y.2.1
 let a13:=x.1
 let v14:=(decide (a13<y.2.2.1))
 let v24:=((nth a0 a13 (0:Int))!=(nth a1 a13 (0:Int)))
 ((v14=true→(InB a13 (len a0)∧(InB a13 (len a1)∧((!v24)=true→InR (a13+1))))),(v14&&(!v24)),((a13+1),()),(v14&&v24),(!v14))
def uZ5 y x:=(tF4 y x).1
def uZ6 y x:=(tF4 y x).2.1
def vP6 y x:=(tF4 y x).2.2.1
def sU6 y x:=(tF4 y x).2.2.2.1
def rX1 y x:=(tF4 y x).2.2.2.2
instance (y x):Decidable (uZ5 y x):=by unfold uZ5 tF4;dsimp only;infer_instance
def tY2 (y:uB5)(x:vJ0):Bool:=
 false
def rX2:=li [(0,(.val (.sl (.int .i64)))),(1,(.val (.sl (.int .i64)))),(12,vI)] [(13,vI)] uZ6 vP6 uZ5 (fun y x=>[ex 1 (some (sU6 y x)) [(4,vB)] ((tY2 y x),()),ex 2 (some (rX1 y x)) [] ()]) [[(4,vB)],[]]
def f43t (p0:List Int)(p1:List Int):Prop×Bool:=
 let v10:=((len p0)!=(len p1))
 let y4:=(p0,p1,(len p0),())
 let x4:=((0:Int),())
 let e4:=(zB9 (uZ6 y4) (vP6 y4) x4)
 (((!v10)=true→(xB7 (uZ6 y4) (vP6 y4) (uZ5 y4) x4)),(bif v10 then false else (bif (sU6 y4 e4) then (tY2 y4 e4) else true)))
def tY3 p0 p1:=(f43t p0 p1).1
def f43 p0 p1:=(f43t p0 p1).2
instance (p0 p1):Decidable (tY3 p0 p1):=by unfold tY3 f43t;dsimp only;infer_instance
theorem rX3:SK 43 (sp2 (.val (.sl (.int .i64))) (.val (.sl (.int .i64))) vB tY3 f43):=fb Tryz.func43 26 [] [(4,rX2)]
abbrev uB6:Type:=((List D84)×(List D84)×Int×Unit)
abbrev vJ1:Type:=(Int×Unit)
def tF5 (y:uB6)(x:vJ1):Prop×Bool×vJ1×Bool×Bool:=
 let a0:=y.1
 let a1:=y.2.1
 let a13:=x.1
 let v14:=(decide (a13<y.2.2.1))
 let v24:=(!(Ty.eqb T84 (nth a0 a13 Z84) (nth a1 a13 Z84)))
 ((v14=true→(InB a13 (len a0)∧(InB a13 (len a1)∧((!v24)=true→InR (a13+1))))),(v14&&(!v24)),((a13+1),()),(v14&&v24),(!v14))
def uZ7 y x:=(tF5 y x).1
def uZ8 y x:=(tF5 y x).2.1
def vP7 y x:=(tF5 y x).2.2.1
def sU7 y x:=(tF5 y x).2.2.2.1
def rX4 y x:=(tF5 y x).2.2.2.2
instance (y x):Decidable (uZ7 y x):=by unfold uZ7 tF5;dsimp only;infer_instance
def tY4 (y:uB6)(x:vJ1):Bool:=
 false
def rX5:=li [(0,(.val (.sl T84))),(1,(.val (.sl T84))),(12,vI)] [(13,vI)] uZ8 vP7 uZ7 (fun y x=>[ex 1 (some (sU7 y x)) [(4,vB)] ((tY4 y x),()),ex 2 (some (rX4 y x)) [] ()]) [[(4,vB)],[]]
def f96t (p0:List D84)(p1:List D84):Prop×Bool:=
 let v10:=((len p0)!=(len p1))
 let y4:=(p0,p1,(len p0),())
 let x4:=((0:Int),())
 let e4:=(zB9 (uZ8 y4) (vP7 y4) x4)
 (((!v10)=true→(xB7 (uZ8 y4) (vP7 y4) (uZ7 y4) x4)),(bif v10 then false else (bif (sU7 y4 e4) then (tY4 y4 e4) else true)))
def sU8 p0 p1:=(f96t p0 p1).1
def f96 p0 p1:=(f96t p0 p1).2
instance (p0 p1):Decidable (sU8 p0 p1):=by unfold sU8 f96t;dsimp only;infer_instance
theorem pS4:SK 96 (sp2 (.val (.sl T84)) (.val (.sl T84)) vB sU8 f96):=fb Tryz.func96 26 [] [(4,rX5)]
def f73t (p0:D82)(p1:D82):Prop×Bool:=
 let v16:=(bif (p0.1==p1.1) then (p0.2.1==p1.2.1) else false)
 ((v16=true→(sU8 p0.2.2.1 p1.2.2.1)),(bif v16 then (f96 p0.2.2.1 p1.2.2.1) else false))
def sI3 p0 p1:=(f73t p0 p1).1
def f73 p0 p1:=(f73t p0 p1).2
instance (p0 p1):Decidable (sI3 p0 p1):=by unfold sI3 f73t;dsimp only;infer_instance
theorem qQ0:SK 73 (sp2 (.val T82) (.val T82) vB sI3 f73):=fb Tryz.func73 24 [kb pS4]
abbrev uB7:Type:=((List D137)×(List D137)×Int×Unit)
abbrev vJ2:Type:=(Int×Unit)
def tF6 (y:uB7)(x:vJ2):Prop×Bool×vJ2×Bool×Bool:=
 let a0:=y.1
 let a1:=y.2.1
 let a13:=x.1
 let v14:=(decide (a13<y.2.2.1))
 let v24:=(!(Ty.eqb T137 (nth a0 a13 Z137) (nth a1 a13 Z137)))
 ((v14=true→(InB a13 (len a0)∧(InB a13 (len a1)∧((!v24)=true→InR (a13+1))))),(v14&&(!v24)),((a13+1),()),(v14&&v24),(!v14))
def uZ9 y x:=(tF6 y x).1
def tA y x:=(tF6 y x).2.1
def vP8 y x:=(tF6 y x).2.2.1
def sU9 y x:=(tF6 y x).2.2.2.1
def rX6 y x:=(tF6 y x).2.2.2.2
instance (y x):Decidable (uZ9 y x):=by unfold uZ9 tF6;dsimp only;infer_instance
def tY5 (y:uB7)(x:vJ2):Bool:=
 false
def rX7:=li [(0,(.val (.sl T137))),(1,(.val (.sl T137))),(12,vI)] [(13,vI)] tA vP8 uZ9 (fun y x=>[ex 1 (some (sU9 y x)) [(4,vB)] ((tY5 y x),()),ex 2 (some (rX6 y x)) [] ()]) [[(4,vB)],[]]
def f93t (p0:List D137)(p1:List D137):Prop×Bool:=
 let v10:=((len p0)!=(len p1))
 let y4:=(p0,p1,(len p0),())
 let x4:=((0:Int),())
 let e4:=(zB9 (tA y4) (vP8 y4) x4)
 (((!v10)=true→(xB7 (tA y4) (vP8 y4) (uZ9 y4) x4)),(bif v10 then false else (bif (sU9 y4 e4) then (tY5 y4 e4) else true)))
def sV p0 p1:=(f93t p0 p1).1
def f93 p0 p1:=(f93t p0 p1).2
instance (p0 p1):Decidable (sV p0 p1):=by unfold sV f93t;dsimp only;infer_instance
theorem pS5:SK 93 (sp2 (.val (.sl T137)) (.val (.sl T137)) vB sV f93):=fb Tryz.func93 26 [] [(4,rX7)]
abbrev uB8:Type:=((List D143)×(List D143)×Int×Unit)
abbrev vJ3:Type:=(Int×Unit)
def tF7 (y:uB8)(x:vJ3):Prop×Bool×vJ3×Bool×Bool:=
 let a0:=y.1
 let a1:=y.2.1
 let a13:=x.1
 let v14:=(decide (a13<y.2.2.1))
 let v24:=(!(Ty.eqb T143 (nth a0 a13 Z143) (nth a1 a13 Z143)))
 ((v14=true→(InB a13 (len a0)∧(InB a13 (len a1)∧((!v24)=true→InR (a13+1))))),(v14&&(!v24)),((a13+1),()),(v14&&v24),(!v14))
def tA0 y x:=(tF7 y x).1
def tA1 y x:=(tF7 y x).2.1
def vP9 y x:=(tF7 y x).2.2.1
def sV0 y x:=(tF7 y x).2.2.2.1
def rX8 y x:=(tF7 y x).2.2.2.2
instance (y x):Decidable (tA0 y x):=by unfold tA0 tF7;dsimp only;infer_instance
def tY6 (y:uB8)(x:vJ3):Bool:=
 false
def rX9:=li [(0,(.val (.sl T143))),(1,(.val (.sl T143))),(12,vI)] [(13,vI)] tA1 vP9 tA0 (fun y x=>[ex 1 (some (sV0 y x)) [(4,vB)] ((tY6 y x),()),ex 2 (some (rX8 y x)) [] ()]) [[(4,vB)],[]]
def f94t (p0:List D143)(p1:List D143):Prop×Bool:=
 let v10:=((len p0)!=(len p1))
 let y4:=(p0,p1,(len p0),())
 let x4:=((0:Int),())
 let e4:=(zB9 (tA1 y4) (vP9 y4) x4)
 (((!v10)=true→(xB7 (tA1 y4) (vP9 y4) (tA0 y4) x4)),(bif v10 then false else (bif (sV0 y4 e4) then (tY6 y4 e4) else true)))
def sV1 p0 p1:=(f94t p0 p1).1
def f94 p0 p1:=(f94t p0 p1).2
instance (p0 p1):Decidable (sV1 p0 p1):=by unfold sV1 f94t;dsimp only;infer_instance
theorem pS6:SK 94 (sp2 (.val (.sl T143)) (.val (.sl T143)) vB sV1 f94):=fb Tryz.func94 26 [] [(4,rX9)]
abbrev uB9:Type:=((List D140)×(List D140)×Int×Unit)
abbrev vJ4:Type:=(Int×Unit)
def tF8 (y:uB9)(x:vJ4):Prop×Bool×vJ4×Bool×Bool:=
 let a0:=y.1
 let a1:=y.2.1
 let a13:=x.1
 let v14:=(decide (a13<y.2.2.1))
 let v24:=(!(Ty.eqb T140 (nth a0 a13 Z140) (nth a1 a13 Z140)))
 ((v14=true→(InB a13 (len a0)∧(InB a13 (len a1)∧((!v24)=true→InR (a13+1))))),(v14&&(!v24)),((a13+1),()),(v14&&v24),(!v14))
def tA2 y x:=(tF8 y x).1
def tA3 y x:=(tF8 y x).2.1
def vQ y x:=(tF8 y x).2.2.1
def sV2 y x:=(tF8 y x).2.2.2.1
def rY y x:=(tF8 y x).2.2.2.2
instance (y x):Decidable (tA2 y x):=by unfold tA2 tF8;dsimp only;infer_instance
def tY7 (y:uB9)(x:vJ4):Bool:=
 false
def rY0:=li [(0,(.val (.sl T140))),(1,(.val (.sl T140))),(12,vI)] [(13,vI)] tA3 vQ tA2 (fun y x=>[ex 1 (some (sV2 y x)) [(4,vB)] ((tY7 y x),()),ex 2 (some (rY y x)) [] ()]) [[(4,vB)],[]]
def f95t (p0:List D140)(p1:List D140):Prop×Bool:=
 let v10:=((len p0)!=(len p1))
 let y4:=(p0,p1,(len p0),())
 let x4:=((0:Int),())
 let e4:=(zB9 (tA3 y4) (vQ y4) x4)
 (((!v10)=true→(xB7 (tA3 y4) (vQ y4) (tA2 y4) x4)),(bif v10 then false else (bif (sV2 y4 e4) then (tY7 y4 e4) else true)))
def sV3 p0 p1:=(f95t p0 p1).1
def f95 p0 p1:=(f95t p0 p1).2
instance (p0 p1):Decidable (sV3 p0 p1):=by unfold sV3 f95t;dsimp only;infer_instance
theorem pS7:SK 95 (sp2 (.val (.sl T140)) (.val (.sl T140)) vB sV3 f95):=fb Tryz.func95 26 [] [(4,rY0)]
def f72t (p0:D91)(p1:D91):Prop×Bool:=
 let v17:=(bif (!(f73 p0.2.2.2.2.2.2.2.2.2.2.2.2.1 p1.2.2.2.2.2.2.2.2.2.2.2.2.1)) then true else (!(Ty.eqb T84 p0.2.2.2.2.2.2.2.2.2.2.2.2.2.1 p1.2.2.2.2.2.2.2.2.2.2.2.2.2.1)))
 let v29:=(bif (p0.2.2.2.2.2.2.2.2.2.2.2.2.2.2.1 !=p1.2.2.2.2.2.2.2.2.2.2.2.2.2.2.1) then true else (p0.2.2.2.2.2.2.2.2.2.2.2.2.2.2.2.2.1 !=p1.2.2.2.2.2.2.2.2.2.2.2.2.2.2.2.2.1))
 let v35:=(!(f43 p0.2.2.2.2.2.2.2.2.2.2.2.2.2.2.2.1 p1.2.2.2.2.2.2.2.2.2.2.2.2.2.2.2.1))
 let v43:=(bif v35 then true else (!(f93 p0.2.2.2.2.2.2.2.2.2.2.2.2.2.2.2.2.2.1 p1.2.2.2.2.2.2.2.2.2.2.2.2.2.2.2.2.2.1)))
 let v51:=(bif v43 then true else (!(f94 p0.2.2.2.2.2.2.2.2.2.2.2.2.2.2.2.2.2.2.1 p1.2.2.2.2.2.2.2.2.2.2.2.2.2.2.2.2.2.2.1)))
 let v63:=(bif (p0.2.2.2.2.2.2.2.2.2.2.2.2.2.2.2.2.2.2.2.1 !=p1.2.2.2.2.2.2.2.2.2.2.2.2.2.2.2.2.2.2.2.1) then true else (p0.2.2.2.2.2.2.2.2.2.2.2.2.2.2.2.2.2.2.2.2.1 !=p1.2.2.2.2.2.2.2.2.2.2.2.2.2.2.2.2.2.2.2.2.1))
 let v77:=(bif (bif v63 then true else (p0.2.2.2.2.2.2.2.2.2.2.2.2.2.2.2.2.2.2.2.2.2.1 !=p1.2.2.2.2.2.2.2.2.2.2.2.2.2.2.2.2.2.2.2.2.2.1)) then true else (p0.2.2.2.2.2.2.2.2.2.2.2.2.2.2.2.2.2.2.2.2.2.2.1 !=p1.2.2.2.2.2.2.2.2.2.2.2.2.2.2.2.2.2.2.2.2.2.2.1))
 let v89:=(bif (!(p0.2.2.2.2.2.2.2.2.2.2.2.2.2.2.2.2.2.2.2.2.2.2.2.1==p1.2.2.2.2.2.2.2.2.2.2.2.2.2.2.2.2.2.2.2.2.2.2.2.1)) then true else (p0.2.2.2.2.2.2.2.2.2.2.2.2.2.2.2.2.2.2.2.2.2.2.2.2.1 !=p1.2.2.2.2.2.2.2.2.2.2.2.2.2.2.2.2.2.2.2.2.2.2.2.2.1))
 let v103:=(bif (bif v89 then true else (p0.2.2.2.2.2.2.2.2.2.2.2.2.2.2.2.2.2.2.2.2.2.2.2.2.2.1 !=p1.2.2.2.2.2.2.2.2.2.2.2.2.2.2.2.2.2.2.2.2.2.2.2.2.2.1)) then true else (p0.2.2.2.2.2.2.2.2.2.2.2.2.2.2.2.2.2.2.2.2.2.2.2.2.2.2.1 !=p1.2.2.2.2.2.2.2.2.2.2.2.2.2.2.2.2.2.2.2.2.2.2.2.2.2.2.1))
 let v119:=(bif (p0.2.2.2.2.2.2.2.2.2.2.2.2.2.2.2.2.2.2.2.2.2.2.2.2.2.2.2.1.1 !=p1.2.2.2.2.2.2.2.2.2.2.2.2.2.2.2.2.2.2.2.2.2.2.2.2.2.2.2.1.1) then true else (p0.2.2.2.2.2.2.2.2.2.2.2.2.2.2.2.2.2.2.2.2.2.2.2.2.2.2.2.1.2.1 !=p1.2.2.2.2.2.2.2.2.2.2.2.2.2.2.2.2.2.2.2.2.2.2.2.2.2.2.2.1.2.1))
 let v128:=(bif v119 then true else (p0.2.2.2.2.2.2.2.2.2.2.2.2.2.2.2.2.2.2.2.2.2.2.2.2.2.2.2.1.2.2.1 !=p1.2.2.2.2.2.2.2.2.2.2.2.2.2.2.2.2.2.2.2.2.2.2.2.2.2.2.2.1.2.2.1))
 let m4_2:=(bif v77 then false else (bif v103 then false else (bif v128 then false else (f95 p0.2.2.2.2.2.2.2.2.2.2.2.2.2.2.2.2.2.2.2.2.2.2.2.2.2.2.2.1.2.2.2.1 p1.2.2.2.2.2.2.2.2.2.2.2.2.2.2.2.2.2.2.2.2.2.2.2.2.2.2.2.1.2.2.2.1))))
 (((sI3 p0.2.2.2.2.2.2.2.2.2.2.2.2.1 p1.2.2.2.2.2.2.2.2.2.2.2.2.1)∧((!v17)=true→((!v29)=true→((tY3 p0.2.2.2.2.2.2.2.2.2.2.2.2.2.2.2.1 p1.2.2.2.2.2.2.2.2.2.2.2.2.2.2.2.1)∧(((!v35)=true→(sV p0.2.2.2.2.2.2.2.2.2.2.2.2.2.2.2.2.2.1 p1.2.2.2.2.2.2.2.2.2.2.2.2.2.2.2.2.2.1))∧(((!v43)=true→(sV1 p0.2.2.2.2.2.2.2.2.2.2.2.2.2.2.2.2.2.2.1 p1.2.2.2.2.2.2.2.2.2.2.2.2.2.2.2.2.2.2.1))∧((!v51)=true→((!v77)=true→((!v103)=true→((!v128)=true→(sV3 p0.2.2.2.2.2.2.2.2.2.2.2.2.2.2.2.2.2.2.2.2.2.2.2.2.2.2.2.1.2.2.2.1 p1.2.2.2.2.2.2.2.2.2.2.2.2.2.2.2.2.2.2.2.2.2.2.2.2.2.2.2.1.2.2.2.1))))))))))),(bif v17 then false else (bif v29 then false else (bif v51 then false else m4_2))))
def sV4 p0 p1:=(f72t p0 p1).1
def f72 p0 p1:=(f72t p0 p1).2
instance (p0 p1):Decidable (sV4 p0 p1):=by unfold sV4 f72t;dsimp only;infer_instance
theorem pS8:SK 72 (sp2 (.val T91) (.val T91) vB sV4 f72):=fb Tryz.func72 136 [kb rX3,kb qQ0,kb pS5,kb pS6,kb pS7]
def f42t (p0:D91)(p1:D91):Prop×Bool:=
 let v30:=(bif (bif (bif (p0.1 !=p1.1) then true else (p0.2.1 !=p1.2.1)) then true else (p0.2.2.1 !=p1.2.2.1)) then true else (!(p0.2.2.2.1==p1.2.2.2.1)))
 let v49:=(bif (bif (!(Ty.eqb .bool p0.2.2.2.2.1 p1.2.2.2.2.1)) then true else (!(Ty.eqb .bool p0.2.2.2.2.2.1 p1.2.2.2.2.2.1))) then true else (!(Ty.eqb .bool p0.2.2.2.2.2.2.1 p1.2.2.2.2.2.2.1)))
 let v75:=(bif (bif (bif (p0.2.2.2.2.2.2.2.1 !=p1.2.2.2.2.2.2.2.1) then true else (p0.2.2.2.2.2.2.2.2.1 !=p1.2.2.2.2.2.2.2.2.1)) then true else (!(Ty.eqb T79 p0.2.2.2.2.2.2.2.2.2.2.1 p1.2.2.2.2.2.2.2.2.2.2.1))) then true else (p0.2.2.2.2.2.2.2.2.2.2.2.1 !=p1.2.2.2.2.2.2.2.2.2.2.2.1))
 let v91:=(bif (p0.2.2.2.2.2.2.2.2.2.1.1 !=p1.2.2.2.2.2.2.2.2.2.1.1) then true else (p0.2.2.2.2.2.2.2.2.2.1.2.1 !=p1.2.2.2.2.2.2.2.2.2.1.2.1))
 let v101:=(bif v91 then true else (!(f43 p0.2.2.2.2.2.2.2.2.2.1.2.2.1 p1.2.2.2.2.2.2.2.2.2.1.2.2.1)))
 (((!v30)=true→((!v49)=true→((!v75)=true→(((!v91)=true→(tY3 p0.2.2.2.2.2.2.2.2.2.1.2.2.1 p1.2.2.2.2.2.2.2.2.2.1.2.2.1))∧((!v101)=true→(sV4 p0 p1)))))),(bif v30 then false else (bif v49 then false else (bif v75 then false else (bif v101 then false else (f72 p0 p1))))))
def sI4 p0 p1:=(f42t p0 p1).1
def f42 p0 p1:=(f42t p0 p1).2
instance (p0 p1):Decidable (sI4 p0 p1):=by unfold sI4 f42t;dsimp only;infer_instance
theorem pS9:SK 42 (sp2 (.val T91) (.val T91) vB sI4 f42):=fb Tryz.func42 105 [kb rX3,kb pS8]
abbrev uC:Type:=((List D95)×(List D95)×Int×Unit)
abbrev vJ5:Type:=(Int×Unit)
def tF9 (y:uC)(x:vJ5):Prop×Bool×vJ5×Bool×Bool:=
 let a0:=y.1
 let a1:=y.2.1
 let a13:=x.1
 let v14:=(decide (a13<y.2.2.1))
 let v24:=(!(Ty.eqb T95 (nth a0 a13 Z95) (nth a1 a13 Z95)))
 ((v14=true→(InB a13 (len a0)∧(InB a13 (len a1)∧((!v24)=true→InR (a13+1))))),(v14&&(!v24)),((a13+1),()),(v14&&v24),(!v14))
def tA4 y x:=(tF9 y x).1
def tA5 y x:=(tF9 y x).2.1
def vQ0 y x:=(tF9 y x).2.2.1
def sV5 y x:=(tF9 y x).2.2.2.1
def rY1 y x:=(tF9 y x).2.2.2.2
instance (y x):Decidable (tA4 y x):=by unfold tA4 tF9;dsimp only;infer_instance
def tY8 (y:uC)(x:vJ5):Bool:=
 false
def rY2:=li [(0,(.val (.sl T95))),(1,(.val (.sl T95))),(12,vI)] [(13,vI)] tA5 vQ0 tA4 (fun y x=>[ex 1 (some (sV5 y x)) [(4,vB)] ((tY8 y x),()),ex 2 (some (rY1 y x)) [] ()]) [[(4,vB)],[]]
def f44t (p0:List D95)(p1:List D95):Prop×Bool:=
 let v10:=((len p0)!=(len p1))
 let y4:=(p0,p1,(len p0),())
 let x4:=((0:Int),())
 let e4:=(zB9 (tA5 y4) (vQ0 y4) x4)
 (((!v10)=true→(xB7 (tA5 y4) (vQ0 y4) (tA4 y4) x4)),(bif v10 then false else (bif (sV5 y4 e4) then (tY8 y4 e4) else true)))
def sV6 p0 p1:=(f44t p0 p1).1
def f44 p0 p1:=(f44t p0 p1).2
instance (p0 p1):Decidable (sV6 p0 p1):=by unfold sV6 f44t;dsimp only;infer_instance
theorem pT:SK 44 (sp2 (.val (.sl T95)) (.val (.sl T95)) vB sV6 f44):=fb Tryz.func44 26 [] [(4,rY2)]
def f46t (p0:D98)(p1:D98):Prop×Bool:=
 let v30:=(bif (bif (bif (p0.1 !=p1.1) then true else (!(p0.2.1==p1.2.1))) then true else (p0.2.2.1 !=p1.2.2.1)) then true else (p0.2.2.2.1 !=p1.2.2.2.1))
 (((!v30)=true→(sI3 p0.2.2.2.2.1 p1.2.2.2.2.1)),(bif v30 then false else (f73 p0.2.2.2.2.1 p1.2.2.2.2.1)))
def sV7 p0 p1:=(f46t p0 p1).1
def f46 p0 p1:=(f46t p0 p1).2
instance (p0 p1):Decidable (sV7 p0 p1):=by unfold sV7 f46t;dsimp only;infer_instance
theorem pT0:SK 46 (sp2 (.val T98) (.val T98) vB sV7 f46):=fb Tryz.func46 36 [kb qQ0]
abbrev wY5:Type:=((List D91)×(Unit)×(List D91)×Int×Unit)
abbrev wR5:Type:=(Int×Unit)
def vL7 (y:wY5)(x:wR5):Prop×Bool×wR5×Bool×Bool:=
 let a1:=y.1
 let a15:=y.2.2.1
 let a17:=x.1
 let v18:=(decide (a17<y.2.2.2.1))
 let v20:=(nth a15 a17 Z91)
 let v24:=(nth a1 a17 Z91)
 let v30:=(!(f42 v20 v24))
 ((v18=true→(InB a17 (len a15)∧(InB a17 (len a1)∧((sI4 v20 v24)∧((!v30)=true→InR (a17+1)))))),(v18&&(!v30)),((a17+1),()),(v18&&v30),(!v18))
def vS3 y x:=(vL7 y x).1
def vQ1 y x:=(vL7 y x).2.1
def wX4 y x:=(vL7 y x).2.2.1
def tL1 y x:=(vL7 y x).2.2.2.1
def sV8 y x:=(vL7 y x).2.2.2.2
instance (y x):Decidable (vS3 y x):=by unfold vS3 vL7;dsimp only;infer_instance
def uP7 (y:wY5)(x:wR5):Bool:=
 false
def sV9:=li [(1,(.val (.sl T91))),(2,(.fn 42 .nl)),(15,(.val (.sl T91))),(16,vI)] [(17,vI)] vQ1 wX4 vS3 (fun y x=>[ex 1 (some (tL1 y x)) [(6,vB)] ((uP7 y x),()),ex 2 (some (sV8 y x)) [] ()]) [[(6,vB)],[]]
def rE9 (p0:List D91)(p1:List D91)(p2:(Unit)):Prop×Bool:=
 let v14:=((len p0)!=(len p1))
 let y4:=(p1,(),p0,(len p0),())
 let x4:=((0:Int),())
 let e4:=(zB9 (vQ1 y4) (wX4 y4) x4)
 (((!v14)=true→(xB7 (vQ1 y4) (wX4 y4) (vS3 y4) x4)),(bif v14 then false else (bif (tL1 y4 e4) then (uP7 y4 e4) else true)))
def uJ6 p0 p1 p2:=(rE9 p0 p1 p2).1
def rY3 p0 p1 p2:=(rE9 p0 p1 p2).2
instance (p0 p1 p2):Decidable (uJ6 p0 p1 p2):=by unfold uJ6 rE9;dsimp only;infer_instance
theorem rY4:SK 41 (sp3 (.val (.sl T91)) (.val (.sl T91)) (.fn 42 .nl) vB uJ6 rY3):=fb Tryz.func41 32 [kb pS9] [(4,sV9)]
abbrev wY6:Type:=((List D98)×(Unit)×(List D98)×Int×Unit)
abbrev wR6:Type:=(Int×Unit)
def vL8 (y:wY6)(x:wR6):Prop×Bool×wR6×Bool×Bool:=
 let a1:=y.1
 let a15:=y.2.2.1
 let a17:=x.1
 let v18:=(decide (a17<y.2.2.2.1))
 let v20:=(nth a15 a17 Z98)
 let v24:=(nth a1 a17 Z98)
 let v30:=(!(f46 v20 v24))
 ((v18=true→(InB a17 (len a15)∧(InB a17 (len a1)∧((sV7 v20 v24)∧((!v30)=true→InR (a17+1)))))),(v18&&(!v30)),((a17+1),()),(v18&&v30),(!v18))
def vS4 y x:=(vL8 y x).1
def vQ2 y x:=(vL8 y x).2.1
def wX5 y x:=(vL8 y x).2.2.1
def tL2 y x:=(vL8 y x).2.2.2.1
def sW y x:=(vL8 y x).2.2.2.2
instance (y x):Decidable (vS4 y x):=by unfold vS4 vL8;dsimp only;infer_instance
def uP8 (y:wY6)(x:wR6):Bool:=
 false
def sW0:=li [(1,(.val (.sl T98))),(2,(.fn 46 .nl)),(15,(.val (.sl T98))),(16,vI)] [(17,vI)] vQ2 wX5 vS4 (fun y x=>[ex 1 (some (tL2 y x)) [(6,vB)] ((uP8 y x),()),ex 2 (some (sW y x)) [] ()]) [[(6,vB)],[]]
def rF (p0:List D98)(p1:List D98)(p2:(Unit)):Prop×Bool:=
 let v14:=((len p0)!=(len p1))
 let y4:=(p1,(),p0,(len p0),())
 let x4:=((0:Int),())
 let e4:=(zB9 (vQ2 y4) (wX5 y4) x4)
 (((!v14)=true→(xB7 (vQ2 y4) (wX5 y4) (vS4 y4) x4)),(bif v14 then false else (bif (tL2 y4 e4) then (uP8 y4 e4) else true)))
def uJ7 p0 p1 p2:=(rF p0 p1 p2).1
def rY5 p0 p1 p2:=(rF p0 p1 p2).2
instance (p0 p1 p2):Decidable (uJ7 p0 p1 p2):=by unfold uJ7 rF;dsimp only;infer_instance
theorem rY6:SK 45 (sp3 (.val (.sl T98)) (.val (.sl T98)) (.fn 46 .nl) vB uJ7 rY5):=fb Tryz.func45 32 [kb pT0] [(4,sW0)]
def f13t (p0:D28)(p1:D28):Prop×Bool:=
 let v30:=(bif (bif (bif (p0.1 !=p1.1) then true else (p0.2.1 !=p1.2.1)) then true else (p0.2.2.1 !=p1.2.2.1)) then true else (p0.2.2.2.2.1 !=p1.2.2.2.2.1))
 let v36:=(!(rY3 p0.2.2.2.1 p1.2.2.2.1 ()))
 let v52:=(bif (p0.2.2.2.2.2.1.1 !=p1.2.2.2.2.2.1.1) then true else (p0.2.2.2.2.2.1.2.1 !=p1.2.2.2.2.2.1.2.1))
 let v62:=(bif v52 then true else (!(f43 p0.2.2.2.2.2.1.2.2.1 p1.2.2.2.2.2.1.2.2.1)))
 let v67:=(f44 p0.2.2.2.2.2.2.1 p1.2.2.2.2.2.2.1)
 (((!v30)=true→((uJ6 p0.2.2.2.1 p1.2.2.2.1 ())∧((!v36)=true→(((!v52)=true→(tY3 p0.2.2.2.2.2.1.2.2.1 p1.2.2.2.2.2.1.2.2.1))∧((!v62)=true→((sV6 p0.2.2.2.2.2.2.1 p1.2.2.2.2.2.2.1)∧(v67=true→(uJ7 p0.2.2.2.2.2.2.2.1 p1.2.2.2.2.2.2.2.1 ())))))))),(bif v30 then false else (bif v36 then false else (bif v62 then false else (bif v67 then (rY5 p0.2.2.2.2.2.2.2.1 p1.2.2.2.2.2.2.2.1 ()) else false)))))
def vS5 p0 p1:=(f13t p0 p1).1
def f13 p0 p1:=(f13t p0 p1).2
instance (p0 p1):Decidable (vS5 p0 p1):=by unfold vS5 f13t;dsimp only;infer_instance
def sM7:=sp2 (.val T28) (.val T28) vB vS5 f13
theorem sW1:SK 13 (sp2 (.val T28) (.val T28) vB vS5 f13):=fb Tryz.func13 75 [kb rY4,kb rX3,kb pT,kb rY6]
abbrev tA6:Type:=((List D73)×Int×Unit)
abbrev uC0:Type:=((List Int)×Int×Unit)
def sM8 (y:tA6)(x:uC0):Prop×Bool×uC0:=
 let a12:=y.1
 let a3:=x.1
 let a14:=x.2.1
 let v15:=(decide (a14<y.2.1))
 let v22:=([(nth a12 a14 Z73).1.1]:List Int)
 ((v15=true→(InB a14 (len a12)∧(((List.length a3+List.length v22:Nat):Int)≤4294967296∧InR (a14+1)))),v15,((a3++v22),(a14+1),()))
def tA7 y x:=(sM8 y x).1
def uO2 y x:=(sM8 y x).2.1
def vE4 y x:=(sM8 y x).2.2
instance (y x):Decidable (tA7 y x):=by unfold tA7 sM8;dsimp only;infer_instance
def tY9 (y:tA6)(x:uC0):(List Int):=
 x.1
def sW2:List (Nat×Sh):=[(3,(.own (.int .i64) 1003 false))]
def rY7:=li [(12,(.val (.sl T73))),(13,vI)] [(3,(.own (.int .i64) 1003 false)),(14,vI)] uO2 vE4 tA7 (fun y x=>[ex 2 none sW2 ((tY9 y x),())]) [sW2]
def f16t (p0:D70):Prop×(List Int):=
 let v8:=(!(f36 p0))
 let y5:=(p0.1,(len p0.1),())
 let x5:=(([]:List Int),(0:Int),())
 (((vP p0)∧((!v8)=true→(xB7 (uO2 y5) (vE4 y5) (tA7 y5) x5))),(bif v8 then [] else (tY9 y5 (zB9 (uO2 y5) (vE4 y5) x5))))
def vS6 p0:=(f16t p0).1
def f16 p0:=(f16t p0).2
instance (p0):Decidable (vS6 p0):=by unfold vS6 f16t;dsimp only;infer_instance
def sM9:=sp1 (.val (.ptr T70)) (.own (.int .i64) 0 false) vS6 f16
theorem rH6:SK 16 (sp1 (.val (.ptr T70)) (.own (.int .i64) 0 false) vS6 f16):=fb Tryz.func16 26 [kb uI2] [(5,rY7)] [(15,[(4,0,23,1003)]),(19,[(4,0,1003,0)])]
def f19t (p0:D50)(p1:D50):Prop×Bool:=
 let v23:=(bif (bif (p0.1==p1.1) then (p0.2.1==p1.2.1) else false) then (p0.2.2.1==p1.2.2.1) else false)
 ((v23=true→(vS5 p0.2.2.2.1 p1.2.2.2.1)),(bif v23 then (f13 p0.2.2.2.1 p1.2.2.2.1) else false))
def tZ p0 p1:=(f19t p0 p1).1
def f19 p0 p1:=(f19t p0 p1).2
instance (p0 p1):Decidable (tZ p0 p1):=by unfold tZ f19t;dsimp only;infer_instance
def qI:=sp2 (.val T50) (.val T50) vB tZ f19
theorem qQ1:SK 19 (sp2 (.val T50) (.val T50) vB tZ f19):=fb Tryz.func19 31 [kb sW1]
abbrev uC1:Type:=((List Int)×(List Int)×Int×Unit)
abbrev vJ6:Type:=(Int×Unit)
def tG (y:uC1)(x:vJ6):Prop×Bool×vJ6×Bool×Bool:=
 let a0:=y.1
 let a1:=y.2.1
 let a13:=x.1
 let v14:=(decide (a13<y.2.2.1))
 let v24:=((nth a0 a13 (0:Int))!=(nth a1 a13 (0:Int)))
 ((v14=true→(InB a13 (len a0)∧(InB a13 (len a1)∧((!v24)=true→InR (a13+1))))),(v14&&(!v24)),((a13+1),()),(v14&&v24),(!v14))
def tA8 y x:=(tG y x).1
def tA9 y x:=(tG y x).2.1
def vQ3 y x:=(tG y x).2.2.1
def tZ0 y x:=(tG y x).2.2.2.1
def rY8 y x:=(tG y x).2.2.2.2
instance (y x):Decidable (tA8 y x):=by unfold tA8 tG;dsimp only;infer_instance
def tZ1 (y:uC1)(x:vJ6):Bool:=
 false
def rY9:=li [(0,(.val (.sl (.int .i64)))),(1,(.val (.sl (.int .i64)))),(12,vI)] [(13,vI)] tA9 vQ3 tA8 (fun y x=>[ex 1 (some (tZ0 y x)) [(4,vB)] ((tZ1 y x),()),ex 2 (some (rY8 y x)) [] ()]) [[(4,vB)],[]]
def f21t (p0:List Int)(p1:List Int):Prop×Bool:=
 let v10:=((len p0)!=(len p1))
 let y4:=(p0,p1,(len p0),())
 let x4:=((0:Int),())
 let e4:=(zB9 (tA9 y4) (vQ3 y4) x4)
 (((!v10)=true→(xB7 (tA9 y4) (vQ3 y4) (tA8 y4) x4)),(bif v10 then false else (bif (tZ0 y4 e4) then (tZ1 y4 e4) else true)))
def tB p0 p1:=(f21t p0 p1).1
def f21 p0 p1:=(f21t p0 p1).2
instance (p0 p1):Decidable (tB p0 p1):=by unfold tB f21t;dsimp only;infer_instance
def rH7:=sp2 (.val (.sl (.int .i64))) (.val (.sl (.int .i64))) vB tB f21
theorem rZ:SK 21 (sp2 (.val (.sl (.int .i64))) (.val (.sl (.int .i64))) vB tB f21):=fb Tryz.func21 26 [] [(4,rY9)]
def f26t (p0:Int):Prop×D28:=
 (True,(p0,(1:Int),(1:Int),([]:List D91),(1:Int),((0:Int),(0:Int),([]:List Int),()),([]:List D95),([]:List D98),()))
def rZ0 p0:=(f26t p0).1
def f26 p0:=(f26t p0).2
instance (p0):Decidable (rZ0 p0):=by unfold rZ0 f26t;dsimp only;infer_instance
theorem pT1:SK 26 (sp1 vI (.val T28) rZ0 f26):=fb Tryz.func26 5
def tG0 (p0:((List D73)×Int×Int×Int×Unit))(p1:Int):Prop×(D50×Int×Unit)×(((List D73)×Int×Int×Int×Unit)×Unit):=
 let s:=(p0.1,p0.2.1,p0.2.2.1,p0.2.2.2.1,())
 let v10:=(!(f36 s))
 let s_1:=(p0.1,p0.2.1,p0.2.2.1,p0.2.2.2.1,())
 let v14:=(f38 s_1 p1)
 let v16:=(decide (v14<0))
 let v25:=(nth p0.1 v14 Z73).1
 let m4:=(bif v16 then ((0:Int),(0:Int),([]:List UInt8),((0:Int),(0:Int),(0:Int),([]:List D91),(0:Int),((0:Int),(0:Int),([]:List Int),()),([]:List D95),([]:List D98),()),()) else (v25.1,v25.2.1,v25.2.2.1,(f37 v25.2.2.2.1),()))
 let m4_1:=(bif v10 then ((0:Int),(0:Int),([]:List UInt8),((0:Int),(0:Int),(0:Int),([]:List D91),(0:Int),((0:Int),(0:Int),([]:List Int),()),([]:List D95),([]:List D98),()),()) else m4)
 (((vP s)∧((!v10)=true→((uI9 s_1 p1)∧((!v16)=true→(InB v14 (len p0.1)∧(v14<len p0.1∧(uI6 v25.2.2.2.1))))))),(m4_1,(bif v10 then (14:Int) else (bif v16 then (9:Int) else (0:Int))),()),((p0.1,p0.2.1,p0.2.2.1,p0.2.2.2.1,()),()))
def wP8 p0 p1:=(tG0 p0 p1).1
def wM0 p0 p1:=(tG0 p0 p1).2.1
def wM5 p0 p1:=(tG0 p0 p1).2.2
instance (p0 p1):Decidable (wP8 p0 p1):=by unfold wP8 tG0;dsimp only;infer_instance
def tZ2:Am.Spec:=fnSpec [(0,(.box T70 (.agg (.cons (.sl T73) (.cons (.int .i64) (.cons (.int .i64) (.cons (.int .i64) .nl)))) (.cons (.own T73 400000 true) (.cons vI (.cons vI (.cons vI .nl))))))),(1,vI)] (.tup (.cons (.val T50) (.cons vI .nl))) [(0,(.box T70 (.agg (.cons (.sl T73) (.cons (.int .i64) (.cons (.int .i64) (.cons (.int .i64) .nl)))) (.cons (.own T73 400000 true) (.cons vI (.cons vI (.cons vI .nl)))))))] (fun x=>wP8 x.1 x.2.1) (fun x=>wM0 x.1 x.2.1) (fun x=>wM5 x.1 x.2.1)
theorem tZ3:SK 17 (fnSpec [(0,(.box T70 (.agg (.cons (.sl T73) (.cons (.int .i64) (.cons (.int .i64) (.cons (.int .i64) .nl)))) (.cons (.own T73 400000 true) (.cons vI (.cons vI (.cons vI .nl))))))),(1,vI)] (.tup (.cons (.val T50) (.cons vI .nl))) [(0,(.box T70 (.agg (.cons (.sl T73) (.cons (.int .i64) (.cons (.int .i64) (.cons (.int .i64) .nl)))) (.cons (.own T73 400000 true) (.cons vI (.cons vI (.cons vI .nl)))))))] (fun x=>wP8 x.1 x.2.1) (fun x=>wM0 x.1 x.2.1) (fun x=>wM5 x.1 x.2.1)):=fb Tryz.func17 31 [kb uI2,kb rW4,kb sH7] [] [] false [0]
def tZ4 (p0:((List D73)×Int×Int×Int×Unit)):Prop×D28×(((List D73)×Int×Int×Int×Unit)×Unit):=
 let s:=(p0.1,p0.2.1,p0.2.2.1,p0.2.2.2.1,())
 let v5:=(!(f36 s))
 let s_1:=(p0.1,p0.2.1,p0.2.2.1,p0.2.2.2.1,())
 let v16:=(f38 s_1 p0.2.1)
 let v20:=(nth p0.1 v16 Z73).1.2.2.2.1
 (((vP s)∧((!v5)=true→((uI9 s_1 p0.2.1)∧(InB v16 (len p0.1)∧(v16<len p0.1∧(uI6 v20)))))),(bif v5 then ((0:Int),(0:Int),(0:Int),([]:List D91),(0:Int),((0:Int),(0:Int),([]:List Int),()),([]:List D95),([]:List D98),()) else (f37 v20)),((p0.1,p0.2.1,p0.2.2.1,p0.2.2.2.1,()),()))
def wN6 p0:=(tZ4 p0).1
def wO6 p0:=(tZ4 p0).2.1
def vF p0:=(tZ4 p0).2.2
instance (p0):Decidable (wN6 p0):=by unfold wN6 tZ4;dsimp only;infer_instance
def uS:Am.Spec:=fnSpec [(0,(.box T70 (.agg (.cons (.sl T73) (.cons (.int .i64) (.cons (.int .i64) (.cons (.int .i64) .nl)))) (.cons (.own T73 400000 true) (.cons vI (.cons vI (.cons vI .nl)))))))] (.val T28) [(0,(.box T70 (.agg (.cons (.sl T73) (.cons (.int .i64) (.cons (.int .i64) (.cons (.int .i64) .nl)))) (.cons (.own T73 400000 true) (.cons vI (.cons vI (.cons vI .nl)))))))] (fun x=>wN6 x.1) (fun x=>wO6 x.1) (fun x=>vF x.1)
theorem tB0:SK 11 (fnSpec [(0,(.box T70 (.agg (.cons (.sl T73) (.cons (.int .i64) (.cons (.int .i64) (.cons (.int .i64) .nl)))) (.cons (.own T73 400000 true) (.cons vI (.cons vI (.cons vI .nl)))))))] (.val T28) [(0,(.box T70 (.agg (.cons (.sl T73) (.cons (.int .i64) (.cons (.int .i64) (.cons (.int .i64) .nl)))) (.cons (.own T73 400000 true) (.cons vI (.cons vI (.cons vI .nl)))))))] (fun x=>wN6 x.1) (fun x=>wO6 x.1) (fun x=>vF x.1)):=fb Tryz.func11 22 [kb uI2,kb rW4,kb sH7] [] [] false [0]
end Go.Proofs.YtofmmkikplmlpaaGreatDoor.Am
