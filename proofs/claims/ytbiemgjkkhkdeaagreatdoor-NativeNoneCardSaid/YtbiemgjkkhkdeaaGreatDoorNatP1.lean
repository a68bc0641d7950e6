/- Printed by program: the functions that the statements reach, as plain functions, and their contracts. No condition. -/
import Derived.Test.YtbiemgjkkhkdeaaGreatDoorMach5
import Derived.Test.YtbiemgjkkhkdeaaGreatDoorMach2
import Derived.Test.YtbiemgjkkhkdeaaGreatDoorNatB
import Derived.Test.YtbiemgjkkhkdeaaGreatDoorProg
set_option linter.unusedVariables false
set_option synthInstance.maxSize 4000
set_option synthInstance.maxHeartbeats 400000
namespace Go.Proofs.YtbiemgjkkhkdeaaGreatDoor.Am
open Go Go.Am Go.Proofs
abbrev T45:Ty:=.st (.cons (.int .i64) (.cons (.int .i64) (.cons (.int .i64) (.cons (.int .i64) .nl))))
abbrev D45:Type:=Int×Int×Int×Int×Unit
abbrev Z45:D45:=((0:Int),(0:Int),(0:Int),(0:Int),())
abbrev T23:Ty:=.st (.cons (.int .i64) (.cons (.int .i64) (.cons (.sl T45) .nl)))
abbrev D23:Type:=Int×Int×(List D45)×Unit
abbrev T26:Ty:=.st (.cons (.int .i64) (.cons (.int .i64) (.cons (.sl (.int .i64)) .nl)))
abbrev D26:Type:=Int×Int×(List Int)×Unit
abbrev T43:Ty:=.st (.cons (.int .i64) (.cons (.int .i64) (.cons (.int .i64) (.cons (.int .i64) (.cons (.int .i64) (.cons (.int .i64) .nl))))))
abbrev D43:Type:=Int×Int×Int×Int×Int×Int×Unit
abbrev T111:Ty:=.st (.cons (.int .i64) (.cons T45 .nl))
abbrev D111:Type:=Int×D45×Unit
abbrev Z111:D111:=((0:Int),Z45,())
abbrev T106:Ty:=.st (.cons (.int .i64) (.cons (.int .i64) .nl))
abbrev D106:Type:=Int×Int×Unit
abbrev Z106:D106:=((0:Int),(0:Int),())
abbrev T114:Ty:=.st (.cons (.int .i64) (.cons (.arr 3 T106) .nl))
abbrev D114:Type:=Int×(List D106)×Unit
abbrev Z114:D114:=((0:Int),(List.replicate 3 Z106),())
abbrev T50:Ty:=.st (.cons (.int .i64) (.cons (.int .i64) (.cons (.int .i64) (.cons (.sl T106) .nl))))
abbrev D50:Type:=Int×Int×Int×(List D106)×Unit
abbrev T52:Ty:=.st (.cons (.int .i64) (.cons (.int .i64) (.cons (.int .i64) (.cons .str (.cons .bool (.cons .bool (.cons .bool (.cons (.int .i64) (.cons (.int .i64) (.cons T26 (.cons T43 (.cons (.int .i64) (.cons T23 (.cons T45 (.cons (.int .i64) (.cons (.sl (.int .i64)) (.cons (.int .i64) (.cons (.sl T111) (.cons (.sl T114) (.cons (.int .i64) (.cons (.int .i64) (.cons (.int .i64) (.cons (.int .i64) (.cons .str (.cons (.int .i64) (.cons (.int .i64) (.cons (.int .i64) (.cons T50 .nl))))))))))))))))))))))))))))
abbrev D52:Type:=Int×Int×Int×(List UInt8)×Bool×Bool×Bool×Int×Int×D26×D43×Int×D23×D45×Int×(List Int)×Int×(List D111)×(List D114)×Int×Int×Int×Int×(List UInt8)×Int×Int×Int×D50×Unit
abbrev T60:Ty:=.st (.cons .bool (.cons .str (.cons (.int .i64) (.cons (.int .i64) .nl))))
abbrev D60:Type:=Bool×(List UInt8)×Int×Int×Unit
abbrev T147:Ty:=.st (.cons .str (.cons .str .nl))
abbrev T149:Ty:=.st (.cons (.int .i64) (.cons .str (.cons (.int .i64) (.cons (.int .i64) (.cons T23 .nl)))))
abbrev T90:Ty:=.st (.cons (.int .i64) (.cons (.int .i64) (.cons (.int .i64) (.cons (.sl T52) (.cons (.int .i64) (.cons T26 (.cons (.sl T147) (.cons (.sl T149) .nl))))))))
instance:GlobTab:=⟨⟨[]⟩⟩
theorem glob_of (W:World){L:Prop}(_:L):GlobOk (fun b _=>if b<W.heap.size then 0 else 2) W:=fun _ _ _ h=>(List.not_mem_nil h).elim
def tys:List (Nat×Ty):=[(3,(.int .i64)),(4,.bool),(5,(.int .u8)),(9,.str),(22,(.sl T45)),(24,T23),(25,(.sl (.int .i64))),(27,T26),(30,(.ptr T60)),(44,T43),(46,T45),(47,(.sl T111)),(48,(.sl T114)),(49,(.sl T106)),(51,T50),(53,T52),(59,(.int .i64)),(61,T60),(62,(.sl (.ptr T60))),(75,(.ptr (.int .i64))),(76,(.sl (.ptr (.int .i64)))),(91,T90),(95,(.sl (.int .u8))),(107,T106),(112,T111),(113,(.arr 3 T106)),(115,T114),(118,(.ptr .bool)),(120,(.ptr T52)),(129,(.int .u64)),(137,(.sl .bool)),(140,(.ptr (.int .u8))),(141,(.sl (.ptr .bool)))]
theorem wU5:zM5 Tryz.prog tys=true:=by kernel_rfl
theorem mixed:Tryz.prog.follows .mixedOrders=true:=by kernel_rfl
theorem fl {c:Ctx}{f:Nat}{fn:Func}{ps:List (Nat×Sh)}{rs:Sh}{os:List (Nat×Sh)}{ok:zB5 ps→Prop}{F:zB5 ps→rs.den}{o:zB5 ps→yC7 os}(hc:CtxOk Tryz.prog c)(hf:Tryz.prog.funcs[f]?=some fn){bs:List Code}(hL:zQ8 Tryz.prog c bs)(hk:yO2 fn c ps os=true:=by kernel_rfl)(hbs:zI5 (fn.body.getD .skip)=bs:=by kernel_rfl)(hsum:∀ x,wB5 c (fn.body.getD .skip) fn.results.toList ps rs os x=some (ok x,F x,o x):=by intro x;kernel_rfl):SpecOk Tryz.prog f (fnSpec ps rs os ok F o):=wT hc mixed hf hk hbs hL hsum
@[reducible] def kb {n:Nat}{s:Am.Spec}(h:SpecOk Tryz.prog n s):Fb Tryz.prog:=⟨n,s,h⟩
@[reducible] def li:=Li.mk
theorem fx (X:Ctx→Ctx){f:Nat}{fn:Func}(hf:Tryz.prog.funcs[f]?=some fn)(n:Nat)(cs:List (Fb Tryz.prog):=[])(ls:List (Nat×Li):=[])(gh:List (Nat×List (Nat×Nat×Nat×Nat)):=[])(w:Bool:=false)(kp wr:List Nat:=[]){ps:List (Nat×Sh)}{rs:Sh}{os:List (Nat×Sh)}{ok:zB5 ps→Prop}{F:zB5 ps→rs.den}{o:zB5 ps→yC7 os}(hX:(X (Cx tys (Fb.l cs) (Li.l ls) gh w n kp wr)).fns=Fb.l cs:=by rfl)(hk:yO2 fn (X (Cx tys (Fb.l cs) (Li.l ls) gh w n kp wr)) ps os=true:=by kernel_rfl)(hl:wJ (X (Cx tys (Fb.l cs) (Li.l ls) gh w n kp wr)) (zP1 (fn.body.getD .skip)) ls=wJ0 ls:=by kernel_rfl)(hsum:∀ x,wB5 (X (Cx tys (Fb.l cs) (Li.l ls) gh w n kp wr)) (fn.body.getD .skip) fn.results.toList ps rs os x=some (ok x,F x,o x):=by intro x;kernel_rfl)(hmp:(yL8 Tryz.prog (X (Cx tys (Fb.l cs) (Li.l ls) gh w n kp wr)).maps&&yX4 Tryz.prog (X (Cx tys (Fb.l cs) (Li.l ls) gh w n kp wr)).fts)=true:=by kernel_rfl)(he:(X (Cx tys (Fb.l cs) (Li.l ls) gh w n kp wr)).exts=[]:=by rfl)(ht:zM5 Tryz.prog (X (Cx tys (Fb.l cs) (Li.l ls) gh w n kp wr)).tys=true:=by exact wU5)(hn:Nat.ble (X (Cx tys (Fb.l cs) (Li.l ls) gh w n kp wr)).n vNo=true:=by kernel_rfl)(hcl:(X (Cx tys (Fb.l cs) (Li.l ls) gh w n kp wr)).clones=[]:=by rfl)(hbl:(X (Cx tys (Fb.l cs) (Li.l ls) gh w n kp wr)).blds=[]:=by rfl):SpecOk Tryz.prog f (fnSpec ps rs os ok F o):=wT0 (wI7 ht hmp (by rw[hX];exact Fb.all cs) he hn hcl hbl) mixed hf hk hl hsum
theorem fy (X:Ctx→Ctx){f:Nat}{fn:Func}(hf:Tryz.prog.funcs[f]?=some fn)(n:Nat)(cs:List (Fb Tryz.prog):=[])(ls:List (Nat×Li):=[])(gh:List (Nat×List (Nat×Nat×Nat×Nat)):=[])(w:Bool:=false)(kp wr:List Nat:=[]){ps:List (Nat×Sh)}{rs:Sh}{os:List (Nat×Sh)}{ok:zB5 ps→Prop}{F:zB5 ps→rs.den}{o:zB5 ps→yC7 os}(hX:(X (Cx tys (Fb.l cs) (Li.l ls) gh w n kp wr)).fns=Fb.l cs:=by rfl)(hk:yO2 fn (X (Cx tys (Fb.l cs) (Li.l ls) gh w n kp wr)) ps os=true:=by kernel_rfl)(hl:wJ (X (Cx tys (Fb.l cs) (Li.l ls) gh w n kp wr)) (zP1 (fn.body.getD .skip)) ls=wJ0 ls:=by kernel_rfl)(hsum:∀ x,wB5 (X (Cx tys (Fb.l cs) (Li.l ls) gh w n kp wr)) (fn.body.getD .skip) fn.results.toList ps rs os x=some (ok x,F x,o x):=by intro x;kernel_rfl)(hmp:(yL8 Tryz.prog (X (Cx tys (Fb.l cs) (Li.l ls) gh w n kp wr)).maps&&yX4 Tryz.prog (X (Cx tys (Fb.l cs) (Li.l ls) gh w n kp wr)).fts)=true:=by kernel_rfl)(he:(X (Cx tys (Fb.l cs) (Li.l ls) gh w n kp wr)).exts=[]:=by rfl)(ht:zM5 Tryz.prog (X (Cx tys (Fb.l cs) (Li.l ls) gh w n kp wr)).tys=true:=by exact wU5)(hn:Nat.ble (X (Cx tys (Fb.l cs) (Li.l ls) gh w n kp wr)).n vNo=true:=by kernel_rfl)(hcl:(X (Cx tys (Fb.l cs) (Li.l ls) gh w n kp wr)).clones=[]:=by rfl)(hbl:(X (Cx tys (Fb.l cs) (Li.l ls) gh w n kp wr)).blds=[(97,5,50,57)]:=by rfl):SpecOk Tryz.prog f (fnSpec ps rs os ok F o):=wT0 (wO9 ht hmp (by rw[hX];exact Fb.all cs) he hn tY hbl hcl) mixed hf hk hl hsum
theorem fb {f:Nat}{fn:Func}(hf:Tryz.prog.funcs[f]?=some fn)(n:Nat)(cs:List (Fb Tryz.prog):=[])(ls:List (Nat×Li):=[])(gh:List (Nat×List (Nat×Nat×Nat×Nat)):=[])(w:Bool:=false)(kp wr:List Nat:=[]){ps:List (Nat×Sh)}{rs:Sh}{os:List (Nat×Sh)}{ok:zB5 ps→Prop}{F:zB5 ps→rs.den}{o:zB5 ps→yC7 os}(hk:yO2 fn (Cx tys (Fb.l cs) (Li.l ls) gh w n kp wr) ps os=true:=by kernel_rfl)(hl:wJ (Cx tys (Fb.l cs) (Li.l ls) gh w n kp wr) (zP1 (fn.body.getD .skip)) ls=wJ0 ls:=by kernel_rfl)(hsum:∀ x,wB5 (Cx tys (Fb.l cs) (Li.l ls) gh w n kp wr) (fn.body.getD .skip) fn.results.toList ps rs os x=some (ok x,F x,o x):=by intro x;kernel_rfl)(hmp:(yL8 Tryz.prog (Cx tys (Fb.l cs) (Li.l ls) gh w n kp wr).maps&&yX4 Tryz.prog (Cx tys (Fb.l cs) (Li.l ls) gh w n kp wr).fts)=true:=by kernel_rfl)(he:(Cx tys (Fb.l cs) (Li.l ls) gh w n kp wr).exts=[]:=by rfl)(ht:zM5 Tryz.prog (Cx tys (Fb.l cs) (Li.l ls) gh w n kp wr).tys=true:=by exact wU5)(hn:Nat.ble (Cx tys (Fb.l cs) (Li.l ls) gh w n kp wr).n vNo=true:=by kernel_rfl)(hcl:(Cx tys (Fb.l cs) (Li.l ls) gh w n kp wr).clones=[]:=by rfl)(hbl:(Cx tys (Fb.l cs) (Li.l ls) gh w n kp wr).blds=[]:=by rfl):SpecOk Tryz.prog f (fnSpec ps rs os ok F o):=wT0 (wI7 ht hmp (Fb.all cs) he hn hcl hbl) mixed hf hk hl hsum
abbrev SK (n:Nat)(s:Am.Spec):Prop:=SpecOk Tryz.prog n s
@[reducible] def sp1 (A R:Sh) (ok:A.den→Prop) (f:A.den→R.den):Am.Spec:=fnSpec [(0,A)] R [] (fun x=>ok x.1) (fun x=>f x.1) (fun _=>())
@[reducible] def sp2 (A B R:Sh) (ok:A.den→B.den→Prop) (f:A.den→B.den→R.den):Am.Spec:=fnSpec [(0,A),(1,B)] R [] (fun x=>ok x.1 x.2.1) (fun x=>f x.1 x.2.1) (fun _=>())
@[reducible] def sp3 (A B C R:Sh) (ok:A.den→B.den→C.den→Prop) (f:A.den→B.den→C.den→R.den):Am.Spec:=fnSpec [(0,A),(1,B),(2,C)] R [] (fun x=>ok x.1 x.2.1 x.2.2.1) (fun x=>f x.1 x.2.1 x.2.2.1) (fun _=>())
@[reducible] def sp4 (A B C D R:Sh) (ok:A.den→B.den→C.den→D.den→Prop) (f:A.den→B.den→C.den→D.den→R.den):Am.Spec:=fnSpec [(0,A),(1,B),(2,C),(3,D)] R [] (fun x=>ok x.1 x.2.1 x.2.2.1 x.2.2.2.1) (fun x=>f x.1 x.2.1 x.2.2.1 x.2.2.2.1) (fun _=>())
def tT5 (p0:List UInt8)(p1:List UInt8):Prop×Bool:=
 let v9:=(decide ((len p0)≥(len p1)))
 let v13:=(len p1)
 ((v9=true→(0≤v13∧v13≤len p0)),(bif v9 then ((List.take (Int.toNat v13) p0)==p1) else false))
def uJ2 p0 p1:=(tT5 p0 p1).1
def f114 p0 p1:=(tT5 p0 p1).2
instance (p0 p1):Decidable (uJ2 p0 p1):=by unfold uJ2 tT5;dsimp only;infer_instance
theorem tT6:SK 114 (sp2 vS vS vB uJ2 f114):=fb Tryz.func114 18
def tT7 (p0:List UInt8)(p1:List UInt8):Prop×((List UInt8)×Bool×Unit):=
 let v9:=(!(f114 p0 p1))
 let v13:=(len p1)
 (((uJ2 p0 p1)∧((!v9)=true→(0≤v13∧v13≤len p0))),((bif v9 then p0 else (List.drop (Int.toNat v13) p0)),(bif v9 then false else true),()))
def uJ3 p0 p1:=(tT7 p0 p1).1
def f102 p0 p1:=(tT7 p0 p1).2
instance (p0 p1):Decidable (uJ3 p0 p1):=by unfold uJ3 tT7;dsimp only;infer_instance
theorem tT8:SK 102 (sp2 vS vS (.tup (.cons vS (.cons vB .nl))) uJ3 f102):=fb Tryz.func102 15 [kb tT6]
def f87t (p0:List UInt8)(p1:List UInt8):Prop×((List UInt8)×Bool×Unit):=
 let v8:=(f102 p0 p1)
 ((uJ3 p0 p1),(v8.1,v8.2.1,()))
def tC6 p0 p1:=(f87t p0 p1).1
def f87 p0 p1:=(f87t p0 p1).2
instance (p0 p1):Decidable (tC6 p0 p1):=by unfold tC6 f87t;dsimp only;infer_instance
theorem tR4:SK 87 (sp2 vS vS (.tup (.cons vS (.cons vB .nl))) tC6 f87):=fb Tryz.func87 11 [kb tT8]
def uJ4 (p0:D60):Prop×Bool×(D60×Unit):=
 (True,(bif (bif (!false) then p0.1 else false) then (p0.2.2.2.1==0) else false),(p0,()))
def wZ6 p0:=(uJ4 p0).1
def vZ8 p0:=(uJ4 p0).2.1
def vF8 p0:=(uJ4 p0).2.2
instance (p0):Decidable (wZ6 p0):=by unfold wZ6 uJ4;dsimp only;infer_instance
theorem vH5:SK 84 (fnSpec [(0,(.box T60 (.val T60)))] vB [(0,(.box T60 (.val T60)))] (fun x=>wZ6 x.1) (fun x=>vZ8 x.1) (fun x=>vF8 x.1)):=fb Tryz.func84 18 [] [] [] false [0]
abbrev vA0:Type:=(Unit)
abbrev wW8:Type:=(D60×Int×Int×Unit)
def vN9 (y:vA0)(x:wW8):Prop×Bool×wW8:=
 let a0:=x.1
 let a4:=x.2.2.1
 let v20:=(decide (a0.2.2.1≥(len a0.2.1)))
 let v32:=(wR9 a0.2.1 a0.2.2.1)
 let v46:=(bif (bif (a4==9) then (decide (v32>1)) else false) then true else (bif (decide (a4>0)) then (v32==0) else false))
 let v62:=(IntKind.wrap .i64 (7*a4))
 (((!v20)=true→(InB a0.2.2.1 (len a0.2.1)∧((!v46)=true→0≤v62))),((!v20)&&((!v46)&&(!(decide (v32<128))))),((a0.1,a0.2.1,(IntKind.wrap .i64 (a0.2.2.1+1)),a0.2.2.2.1,()),(ior .u64 x.2.1 (IntKind.wrap .u64 (wT4 (IntKind.wrap .u64 (wT2 .u8 v32 (127:Int))) v62 64))),(IntKind.wrap .i64 (a4+1)),()))
def vF9 y x:=(vN9 y x).1
def vR1 y x:=(vN9 y x).2.1
def vH y x:=(vN9 y x).2.2
instance (y x):Decidable (vF9 y x):=by unfold vF9 vN9;dsimp only;infer_instance
def vP2 (y:vA0)(x:wW8):D60:=
 let a0:=x.1
 let a4:=x.2.2.1
 let v32:=(wR9 a0.2.1 a0.2.2.1)
 let m0:=(bif (bif (bif (a4==9) then (decide (v32>1)) else false) then true else (bif (decide (a4>0)) then (v32==0) else false)) then (a0.1,a0.2.1,a0.2.2.1,(4:Int),()) else (a0.1,a0.2.1,(IntKind.wrap .i64 (a0.2.2.1+1)),a0.2.2.2.1,()))
 (bif (decide (a0.2.2.1≥(len a0.2.1))) then (a0.1,a0.2.1,a0.2.2.1,(5:Int),()) else m0)
def vP3 (y:vA0)(x:wW8):Int:=
 let a0:=x.1
 let a4:=x.2.2.1
 let v32:=(wR9 a0.2.1 a0.2.2.1)
 let m2:=(bif (bif (bif (a4==9) then (decide (v32>1)) else false) then true else (bif (decide (a4>0)) then (v32==0) else false)) then (0:Int) else (ior .u64 x.2.1 (IntKind.wrap .u64 (wT4 (IntKind.wrap .u64 (wT2 .u8 v32 (127:Int))) (IntKind.wrap .i64 (7*a4)) 64))))
 (bif (decide (a0.2.2.1≥(len a0.2.1))) then (0:Int) else m2)
def vX1:List (Nat×Sh):=[(0,(.box T60 (.val T60))),(2,(.val (.int .u64)))]
def uN5:=li [] [(0,(.box T60 (.val T60))),(3,(.val (.int .u64))),(4,vI)] vR1 vH vF9 (fun y x=>[ex 1 none vX1 ((vP2 y x),(vP3 y x),())]) [vX1]
def uJ5 (p0:D60):Prop×Int×(D60×Unit):=
 let v7o:=(vF8 p0)
 let v8:=(!(vZ8 p0))
 let x6:=(v7o.1,(0:Int),(0:Int),())
 let e6:=(zC5 (vR1 ()) (vH ()) x6)
 (((wZ6 p0)∧((!v8)=true→(xQ6 (vR1 ()) (vH ()) (vF9 ()) x6))),(bif v8 then (0:Int) else (vP3 () e6)),((bif v8 then v7o.1 else (vP2 () e6)),()))
def vB1 p0:=(uJ5 p0).1
def uG1 p0:=(uJ5 p0).2.1
def vO p0:=(uJ5 p0).2.2
instance (p0):Decidable (vB1 p0):=by unfold vB1 uJ5;dsimp only;infer_instance
theorem vZ9:SK 83 (fnSpec [(0,(.box T60 (.val T60)))] (.val (.int .u64)) [(0,(.box T60 (.val T60)))] (fun x=>vB1 x.1) (fun x=>uG1 x.1) (fun x=>vO x.1)):=fb Tryz.func83 68 [kb vH5] [(6,uN5)] [] true [0]
def uJ6 (p0:D60)(p1:Int):Prop×Int×(D60×Unit):=
 let v7:=(uG1 p0)
 let v7o:=(vO p0)
 let v9o:=(vF8 v7o.1)
 let v10:=(!(vZ8 v7o.1))
 let v15:=(decide (v7>(IntKind.wrap .u64 (wQ6 p1 (0:Int)))))
 (((vB1 p0)∧(wZ6 v7o.1)),(bif v10 then (0:Int) else (bif v15 then (0:Int) else (IntKind.wrap .i64 v7))),((bif v10 then v9o.1 else (bif v15 then (v9o.1.1,v9o.1.2.1,v9o.1.2.2.1,(3:Int),()) else v9o.1)),()))
def wV1 p0 p1:=(uJ6 p0 p1).1
def vC2 p0 p1:=(uJ6 p0 p1).2.1
def wV5 p0 p1:=(uJ6 p0 p1).2.2
instance (p0 p1):Decidable (wV1 p0 p1):=by unfold wV1 uJ6;dsimp only;infer_instance
theorem vB2:SK 36 (fnSpec [(0,(.box T60 (.val T60))),(1,vI)] vI [(0,(.box T60 (.val T60)))] (fun x=>wV1 x.1 x.2.1) (fun x=>vC2 x.1 x.2.1) (fun x=>wV5 x.1 x.2.1)):=fb Tryz.func36 21 [kb vZ9,kb vH5] [] [] true [0]
def uJ7 (p0:D60):Prop×Int×(D60×Unit):=
 let v4o:=(vF8 p0)
 let v5:=(!(vZ8 p0))
 ((wZ6 p0),(bif v5 then (0:Int) else (IntKind.wrap .i64 ((len v4o.1.2.1)-v4o.1.2.2.1))),((bif v5 then v4o.1 else v4o.1),()))
def vS8 p0:=(uJ7 p0).1
def tR5 p0:=(uJ7 p0).2.1
def uW p0:=(uJ7 p0).2.2
instance (p0):Decidable (vS8 p0):=by unfold vS8 uJ7;dsimp only;infer_instance
theorem uN6:SK 45 (fnSpec [(0,(.box T60 (.val T60)))] vI [(0,(.box T60 (.val T60)))] (fun x=>vS8 x.1) (fun x=>tR5 x.1) (fun x=>uW x.1)):=fb Tryz.func45 16 [kb vH5] [] [] true [0]
def uJ8 (p0:D60)(p1:Int):Prop×(List UInt8)×(D60×Unit):=
 let v9:=(vC2 p0 p1)
 let v9o:=(wV5 p0 p1)
 let v11o:=(vF8 v9o.1)
 let v12:=(!(vZ8 v9o.1))
 let v15o:=(uW v11o.1)
 let v16:=(decide (v9>(tR5 v11o.1)))
 let v33:=(IntKind.wrap .i64 (v15o.1.2.2.1+v9))
 (((wV1 p0 p1)∧((wZ6 v9o.1)∧((!v12)=true→((vS8 v11o.1)∧((!v16)=true→(0≤v15o.1.2.2.1∧v15o.1.2.2.1≤v33∧v33≤len v15o.1.2.1)))))),(bif v12 then ([]:List UInt8) else (bif v16 then ([]:List UInt8) else (List.drop (Int.toNat v15o.1.2.2.1) (List.take (Int.toNat v33) v15o.1.2.1)))),((bif v12 then v11o.1 else (bif v16 then (v15o.1.1,v15o.1.2.1,v15o.1.2.2.1,(5:Int),()) else (v15o.1.1,v15o.1.2.1,(IntKind.wrap .i64 (v15o.1.2.2.1+v9)),v15o.1.2.2.2.1,()))),()))
def uA p0 p1:=(uJ8 p0 p1).1
def tY0 p0 p1:=(uJ8 p0 p1).2.1
def tL4 p0 p1:=(uJ8 p0 p1).2.2
instance (p0 p1):Decidable (uA p0 p1):=by unfold uA uJ8;dsimp only;infer_instance
theorem uN7:SK 64 (fnSpec [(0,(.box T60 (.val T60))),(1,vI)] vS [(0,(.box T60 (.val T60)))] (fun x=>uA x.1 x.2.1) (fun x=>tY0 x.1 x.2.1) (fun x=>tL4 x.1 x.2.1)):=fb Tryz.func64 44 [kb vB2,kb uN6,kb vH5] [] [] true [0]
def f77t (p0:Int)(p1:Int):Prop×Bool:=
 (True,(bif (bif (bif (bif (decide (p0≥0)) then (decide (p0≤256)) else false) then (decide (p1≥0)) else false) then (decide (p1≤256)) else false) then (Ty.eqb .bool (p0==0) (p1==0)) else false))
def uW0 p0 p1:=(f77t p0 p1).1
def f77 p0 p1:=(f77t p0 p1).2
instance (p0 p1):Decidable (uW0 p0 p1):=by unfold uW0 f77t;dsimp only;infer_instance
theorem tY1:SK 77 (sp2 vI vI vB uW0 f77):=fb Tryz.func77 26
def tT9 (p0:Int)(p1:Int)(p2:Int):Prop×Int:=
 (True,(wQ7 p2 (wQ6 p0 p1)))
def uJ9 p0 p1 p2:=(tT9 p0 p1 p2).1
def f127 p0 p1 p2:=(tT9 p0 p1 p2).2
instance (p0 p1 p2):Decidable (uJ9 p0 p1 p2):=by unfold uJ9 tT9;dsimp only;infer_instance
theorem tU:SK 127 (sp3 vI vI vI vI uJ9 f127):=fb Tryz.func127 12
def tU0 (p0:Int):Prop×Int:=
 ((uJ9 p0 (0:Int) (65535:Int)),(f127 p0 (0:Int) (65535:Int)))
def vR2 p0:=(tU0 p0).1
def f112 p0:=(tU0 p0).2
instance (p0):Decidable (vR2 p0):=by unfold vR2 tU0;dsimp only;infer_instance
theorem tU1:SK 112 (sp1 vI vI vR2 f112):=fb Tryz.func112 5 [kb tU]
def tU2 (p0:D45):Prop×D45:=
 (((vR2 p0.1)∧((vR2 p0.2.1)∧((vR2 p0.2.2.1)∧(vR2 p0.2.2.2.1)))),((f112 p0.1),(f112 p0.2.1),(f112 p0.2.2.1),(f112 p0.2.2.2.1),()))
def uK p0:=(tU2 p0).1
def f100 p0:=(tU2 p0).2
instance (p0):Decidable (uK p0):=by unfold uK tU2;dsimp only;infer_instance
theorem tU3:SK 100 (sp1 (.val T45) (.val T45) uK f100):=fb Tryz.func100 16 [kb tU1]
def f78t (p0:D45):Prop×Bool:=
 ((uK p0),(Ty.eqb T45 p0 (f100 p0)))
def uN8 p0:=(f78t p0).1
def f78 p0:=(f78t p0).2
instance (p0):Decidable (uN8 p0):=by unfold uN8 f78t;dsimp only;infer_instance
theorem tY2:SK 78 (sp1 (.val T45) vB uN8 f78):=fb Tryz.func78 7 [kb tU3]
abbrev vJ0:Type:=((List D45)×Int×Unit)
abbrev vC3:Type:=(Int×Unit)
def vV8 (y:vJ0)(x:vC3):Prop×Bool×vC3×Bool×Bool:=
 let a23:=y.1
 let a25:=x.1
 let v26:=(decide (a25<y.2.1))
 let v27:=(nth a23 a25 Z45)
 let v31:=(!(f78 v27))
 ((v26=true→(InB a25 (len a23)∧((uN8 v27)∧((!v31)=true→InR (a25+1))))),(v26&&(!v31)),((a25+1),()),(v26&&v31),(!v26))
def vH6 y x:=(vV8 y x).1
def vS9 y x:=(vV8 y x).2.1
def vE0 y x:=(vV8 y x).2.2.1
def uN9 y x:=(vV8 y x).2.2.2.1
def tC7 y x:=(vV8 y x).2.2.2.2
instance (y x):Decidable (vH6 y x):=by unfold vH6 vV8;dsimp only;infer_instance
def uA0 (y:vJ0)(x:vC3):Int:=
 (2:Int)
def tC8:=li [(23,(.val (.sl T45))),(24,vI)] [(25,vI)] vS9 vE0 vH6 (fun y x=>[ex 1 (some (uN9 y x)) [(2,vI)] ((uA0 y x),()),ex 2 (some (tC7 y x)) [] ()]) [[(2,vI)],[]]
def f25t (p0:D23):Prop×Int:=
 let v10:=(!(f77 p0.1 p0.2.1))
 let v21:=(bif v10 then true else ((len p0.2.2.1)!=(p0.1*p0.2.1)))
 let y4:=(p0.2.2.1,(len p0.2.2.1),())
 let x4:=((0:Int),())
 let e4:=(zC5 (vS9 y4) (vE0 y4) x4)
 (((uW0 p0.1 p0.2.1)∧(((!v10)=true→InR (p0.1*p0.2.1))∧((!v21)=true→(xQ6 (vS9 y4) (vE0 y4) (vH6 y4) x4)))),(bif v21 then (15:Int) else (bif (uN9 y4 e4) then (uA0 y4 e4) else (0:Int))))
def uO p0:=(f25t p0).1
def f25 p0:=(f25t p0).2
instance (p0):Decidable (uO p0):=by unfold uO f25t;dsimp only;infer_instance
theorem tY3:SK 25 (sp1 (.val T23) vI uO f25):=fb Tryz.func25 33 [kb tY1,kb tY2] [(4,tC8)]
abbrev vA1:Type:=(Unit)
abbrev wW9:Type:=((List Int)×Int×Unit)
def vO0 (y:vA1)(x:wW9):Prop×Bool×wW9:=
 let a0:=x.1
 let a1:=x.2.1
 let v6:=(decide (a1≥128))
 let v11:=([(ior .u8 (IntKind.wrap .u8 a1) (128:Int))]:List Int)
 ((v6=true→((List.length a0+List.length v11:Nat):Int)≤4294967296),v6,((a0++v11),(wT5 a1 (7:Int) 64),()))
def vB3 y x:=(vO0 y x).1
def wU9 y x:=(vO0 y x).2.1
def wU4 y x:=(vO0 y x).2.2
instance (y x):Decidable (vB3 y x):=by unfold vB3 vO0;dsimp only;infer_instance
def vP4 (y:vA1)(x:wW9):(List Int):=
 x.1
def vP5 (y:vA1)(x:wW9):Int:=
 x.2.1
def vX2:List (Nat×Sh):=[(0,(.own (.int .u8) 400000 false)),(1,(.val (.int .u64)))]
def uO0:=li [] [(0,(.own (.int .u8) 400000 false)),(1,(.val (.int .u64)))] wU9 wU4 vB3 (fun y x=>[ex 2 none vX2 ((vP4 y x),(vP5 y x),())]) [vX2]
def uT3 (p0:List Int)(p1:Int):Prop×(List Int):=
 let x1:=(p0,p1,())
 let e1:=(zC5 (wU9 ()) (wU4 ()) x1)
 let r1_2_0:=(vP4 () e1)
 let v18:=([(IntKind.wrap .u8 (vP5 () e1))]:List Int)
 (((xQ6 (wU9 ()) (wU4 ()) (vB3 ()) x1)∧((List.length r1_2_0+List.length v18:Nat):Int)≤4294967296),(r1_2_0++v18))
def wZ7 p0 p1:=(uT3 p0 p1).1
def vH7 p0 p1:=(uT3 p0 p1).2
instance (p0 p1):Decidable (wZ7 p0 p1):=by unfold wZ7 uT3;dsimp only;infer_instance
theorem uO1:SK 94 (sp2 (.own (.int .u8) 400000 false) (.val (.int .u64)) (.own (.int .u8) 0 false) wZ7 vH7):=fb Tryz.func94 20 [] [(1,uO0)] [(5,[(4,0,12,400000)]),(9,[(4,0,19,0)])] true
def f93t (p0:Int):Prop×(List UInt8):=
 ((wZ7 ([]:List Int) p0),(xC9 (vH7 ([]:List Int) p0)))
def vT p0:=(f93t p0).1
def f93 p0:=(f93t p0).2
instance (p0):Decidable (vT p0):=by unfold vT f93t;dsimp only;infer_instance
theorem tC9:SK 93 (sp1 (.val (.int .u64)) vS vT f93):=fb Tryz.func93 6 [kb uO1]
def f56t (p0:Int):Prop×(List UInt8):=
 let v4:=(IntKind.wrap .u64 p0)
 ((vT v4),(f93 v4))
def vA p0:=(f56t p0).1
def f56 p0:=(f56t p0).2
instance (p0):Decidable (vA p0):=by unfold vA f56t;dsimp only;infer_instance
theorem uO2:SK 56 (sp1 vI vS vA f56):=fb Tryz.func56 6 [kb tC9]
def f27t (p0:D45):Prop×(List Int):=
 (True,([p0.1,p0.2.1,p0.2.2.1,p0.2.2.2.1]:List Int))
def uO3 p0:=(f27t p0).1
def f27 p0:=(f27t p0).2
instance (p0):Decidable (uO3 p0):=by unfold uO3 f27t;dsimp only;infer_instance
theorem tY4:SK 27 (sp1 (.val T45) (.own (.int .i64) 0 false) uO3 f27):=fb Tryz.func27 12 [] [] [(3,[(4,0,11,0)])]
abbrev vE1:Type:=((List D45)×(Unit)×(List UInt8)×Int×Unit)
abbrev wZ:Type:=(Int×Unit)
def vO1 (y:vE1)(x:wZ):Prop×Bool×wZ:=
 let a2:=y.1
 let a10:=y.2.2.2.1
 let a11:=x.1
 let v29:=(decide (a11<(len a2)))
 let v40:=(bif v29 then (Ty.eqb T45 (nth a2 a11 Z45) (nth a2 a10 Z45)) else false)
 (((v29=true→InB a11 (len a2))∧((v29=true→InB a10 (len a2))∧(v40=true→InR (a11+1)))),v40,((a11+1),()))
def vB4 y x:=(vO1 y x).1
def wU6 y x:=(vO1 y x).2.1
def wU2 y x:=(vO1 y x).2.2
instance (y x):Decidable (vB4 y x):=by unfold vB4 vO1;dsimp only;infer_instance
def vP6 (y:vE1)(x:wZ):Int:=
 x.1
def vX3:List (Nat×Sh):=[(2,(.val (.sl T45))),(3,(.fn 27 .nl)),(9,(.bld 97 5 9)),(10,vI),(11,vI)]
def uO4:=li [(2,(.val (.sl T45))),(3,(.fn 27 .nl)),(9,(.bld 97 5 9)),(10,vI)] [(11,vI)] wU6 wU2 vB4 (fun y x=>[ex 4 none vX3 (y.1,y.2.1,y.2.2.1,y.2.2.2.1,(vP6 y x),())]) [vX3]
abbrev vB5:Type:=((List D45)×(Unit)×Int×(List Int)×Int×Unit)
abbrev wX:Type:=((List UInt8)×Int×Unit)
def vJ1 (y:vB5)(x:wX):Prop×Bool×wX:=
 let a54:=y.2.2.2.1
 let a9:=x.1
 let a56:=x.2.1
 let v57:=(decide (a56<y.2.2.2.2.1))
 let v58:=(nth a54 a56 (0:Int))
 let v61:=(f56 v58)
 ((v57=true→(InB a56 (len a54)∧((vA v58)∧(((List.length a9+List.length v61:Nat):Int)≤4294967296∧InR (a56+1))))),v57,((a9++v61),(a56+1),()))
def wW3 y x:=(vJ1 y x).1
def wX0 y x:=(vJ1 y x).2.1
def wV3 y x:=(vJ1 y x).2.2
instance (y x):Decidable (wW3 y x):=by unfold wW3 vJ1;dsimp only;infer_instance
def vL3 (y:vB5)(x:wX):(List UInt8):=
 x.1
def vT0:List (Nat×Sh):=[(2,(.val (.sl T45))),(3,(.fn 27 .nl)),(9,(.bld 97 5 9)),(11,vI)]
def uK0:=li [(2,(.val (.sl T45))),(3,(.fn 27 .nl)),(11,vI),(54,(.own (.int .i64) 54 false)),(55,vI)] [(9,(.bld 97 5 9)),(56,vI)] wX0 wV3 wW3 (fun y x=>[ex 6 none vT0 (y.1,y.2.1,(vL3 y x),y.2.2.1,())]) [vT0]
abbrev vE2:Type:=((List D45)×(Unit)×Unit)
abbrev wZ0:Type:=((List UInt8)×Int×Unit)
def vO2 (y:vE2)(x:wZ0):Prop×Bool×wZ0:=
 let a2:=y.1
 let a9:=x.1
 let a10:=x.2.1
 let v23:=(decide (a10<(len a2)))
 let y7:=(a2,(),a9,a10,())
 let x7:=((a10+1),())
 let r7_4_0:=(vP6 y7 (zC5 (wU6 y7) (wU2 y7) x7))
 let v45:=(r7_4_0-a10)
 let v46:=(v45-1)
 let v47:=(f56 v46)
 let v52:=(nth a2 a10 Z45)
 let v54:=(f27 v52)
 let y11:=(a2,(),r7_4_0,v54,(len v54),())
 let x11:=((a9++v47),(0:Int),())
 ((v23=true→(InR (a10+1)∧((xQ6 (wU6 y7) (wU2 y7) (vB4 y7) x7)∧(InR (r7_4_0-a10)∧(InR (v45-1)∧((vA v46)∧(((List.length a9+List.length v47:Nat):Int)≤4294967296∧(InB a10 (len a2)∧((uO3 v52)∧(xQ6 (wX0 y11) (wV3 y11) (wW3 y11) x11)))))))))),v23,((vL3 y11 (zC5 (wX0 y11) (wV3 y11) x11)),r7_4_0,()))
def wX1 y x:=(vO2 y x).1
def wV7 y x:=(vO2 y x).2.1
def wV8 y x:=(vO2 y x).2.2
instance (y x):Decidable (wX1 y x):=by unfold wX1 vO2;dsimp only;infer_instance
def vP7 (y:vE2)(x:wZ0):(List UInt8):=
 x.1
def uO5:=li [(2,(.val (.sl T45))),(3,(.fn 27 .nl))] [(9,(.bld 97 5 9)),(10,vI)] wV7 wV8 wX1 (fun y x=>[ex 2 none [(9,(.bld 97 5 9))] ((vP7 y x),())]) [[(9,(.bld 97 5 9))]]
def uT4 (p0:Int)(p1:Int)(p2:List D45)(p3:(Unit)):Prop×(List UInt8):=
 let v15:=(f56 p0)
 let b9:=(([]:List UInt8)++v15)
 let v18:=(f56 p1)
 let y5:=(p2,(),())
 let x5:=((b9++v18),(0:Int),())
 (((vA p0)∧(((List.length ([]:List UInt8)+List.length v15:Nat):Int)≤4294967296∧((vA p1)∧(((List.length b9+List.length v18:Nat):Int)≤4294967296∧(xQ6 (wV7 y5) (wV8 y5) (wX1 y5) x5))))),(vP7 y5 (zC5 (wV7 y5) (wV8 y5) x5)))
def vH8 p0 p1 p2 p3:=(uT4 p0 p1 p2 p3).1
def uO6 p0 p1 p2 p3:=(uT4 p0 p1 p2 p3).2
instance (p0 p1 p2 p3):Decidable (vH8 p0 p1 p2 p3):=by unfold vH8 uT4;dsimp only;infer_instance
theorem tD:SK 26 (sp4 vI vI (.val (.sl T45)) (.fn 27 .nl) vS vH8 uO6):=fy (fun c=>{ c with blds:=[(97,5,50,57)] }) Tryz.func26 66 [kb tY4,kb uO2] [(5,uO5),(7,uO4),(11,uK0)]
def f6t (p0:D23):Prop×(List UInt8):=
 let m1:=(bif ((f25 p0)!=0) then ((0:Int),(0:Int),([]:List D45),()) else p0)
 (((uO p0)∧(vH8 m1.1 m1.2.1 m1.2.2.1 ())),(uO6 m1.1 m1.2.1 m1.2.2.1 ()))
def tD0 p0:=(f6t p0).1
def f6 p0:=(f6t p0).2
instance (p0):Decidable (tD0 p0):=by unfold tD0 f6t;dsimp only;infer_instance
theorem tY5:SK 6 (sp1 (.val T23) vS tD0 f6):=fb Tryz.func6 14 [kb tY3,kb tD]
def f81t (p0:Int):Prop×Bool:=
 (True,(bif (decide (p0≥0)) then (decide (p0≤65535)) else false))
def uW1 p0:=(f81t p0).1
def f81 p0:=(f81t p0).2
instance (p0):Decidable (uW1 p0):=by unfold uW1 f81t;dsimp only;infer_instance
theorem tY6:SK 81 (sp1 vI vB uW1 f81):=fb Tryz.func81 9
abbrev vJ2:Type:=((List Int)×Int×Unit)
abbrev vC4:Type:=(Int×Unit)
def vV9 (y:vJ2)(x:vC4):Prop×Bool×vC4×Bool×Bool:=
 let a42:=y.1
 let a44:=x.1
 let v45:=(decide (a44<y.2.1))
 let v46:=(nth a42 a44 (0:Int))
 let v50:=(!(f81 v46))
 ((v45=true→(InB a44 (len a42)∧((uW1 v46)∧((!v50)=true→InR (a44+1))))),(v45&&(!v50)),((a44+1),()),(v45&&v50),(!v45))
def vH9 y x:=(vV9 y x).1
def vT1 y x:=(vV9 y x).2.1
def vE3 y x:=(vV9 y x).2.2.1
def uO7 y x:=(vV9 y x).2.2.2.1
def tD1 y x:=(vV9 y x).2.2.2.2
instance (y x):Decidable (vH9 y x):=by unfold vH9 vV9;dsimp only;infer_instance
def uA1 (y:vJ2)(x:vC4):Int:=
 (2:Int)
def tD2:=li [(42,(.val (.sl (.int .i64)))),(43,vI)] [(44,vI)] vT1 vE3 vH9 (fun y x=>[ex 1 (some (uO7 y x)) [(2,vI)] ((uA1 y x),()),ex 2 (some (tD1 y x)) [] ()]) [[(2,vI)],[]]
def f30t (p0:D26):Prop×Int:=
 let v22:=(bif (bif (bif (decide (p0.1<0)) then true else (decide (p0.1>256))) then true else (decide (p0.2.1<0))) then true else (decide (p0.2.1>256)))
 let v29:=(!(Ty.eqb .bool (p0.1==0) (p0.2.1==0)))
 let v40:=(bif v29 then true else ((len p0.2.2.1)!=(p0.1*p0.2.1)))
 let y6:=(p0.2.2.1,(len p0.2.2.1),())
 let x6:=((0:Int),())
 let e6:=(zC5 (vT1 y6) (vE3 y6) x6)
 (((!v22)=true→(((!v29)=true→InR (p0.1*p0.2.1))∧((!v40)=true→(xQ6 (vT1 y6) (vE3 y6) (vH9 y6) x6)))),(bif v22 then (15:Int) else (bif v40 then (15:Int) else (bif (uO7 y6 e6) then (uA1 y6 e6) else (0:Int)))))
def uO8 p0:=(f30t p0).1
def f30 p0:=(f30t p0).2
instance (p0):Decidable (uO8 p0):=by unfold uO8 f30t;dsimp only;infer_instance
theorem tY7:SK 30 (sp1 (.val T26) vI uO8 f30):=fb Tryz.func30 52 [kb tY6] [(6,tD2)]
def f32t (p0:Int):Prop×(List Int):=
 (True,([p0]:List Int))
def uO9 p0:=(f32t p0).1
def f32 p0:=(f32t p0).2
instance (p0):Decidable (uO9 p0):=by unfold uO9 f32t;dsimp only;infer_instance
theorem tY8:SK 32 (sp1 vI (.own (.int .i64) 0 false) uO9 f32):=fb Tryz.func32 5 [] [] [(3,[(4,0,4,0)])]
abbrev vE4:Type:=((List Int)×(Unit)×(List UInt8)×Int×Unit)
abbrev wZ1:Type:=(Int×Unit)
def vO3 (y:vE4)(x:wZ1):Prop×Bool×wZ1:=
 let a2:=y.1
 let a10:=y.2.2.2.1
 let a11:=x.1
 let v29:=(decide (a11<(len a2)))
 let v40:=(bif v29 then ((nth a2 a11 (0:Int))==(nth a2 a10 (0:Int))) else false)
 (((v29=true→InB a11 (len a2))∧((v29=true→InB a10 (len a2))∧(v40=true→InR (a11+1)))),v40,((a11+1),()))
def vB6 y x:=(vO3 y x).1
def wU7 y x:=(vO3 y x).2.1
def wU3 y x:=(vO3 y x).2.2
instance (y x):Decidable (vB6 y x):=by unfold vB6 vO3;dsimp only;infer_instance
def vP8 (y:vE4)(x:wZ1):Int:=
 x.1
def vX4:List (Nat×Sh):=[(2,(.val (.sl (.int .i64)))),(3,(.fn 32 .nl)),(9,(.bld 97 5 9)),(10,vI),(11,vI)]
def uP:=li [(2,(.val (.sl (.int .i64)))),(3,(.fn 32 .nl)),(9,(.bld 97 5 9)),(10,vI)] [(11,vI)] wU7 wU3 vB6 (fun y x=>[ex 4 none vX4 (y.1,y.2.1,y.2.2.1,y.2.2.2.1,(vP8 y x),())]) [vX4]
abbrev vB7:Type:=((List Int)×(Unit)×Int×(List Int)×Int×Unit)
abbrev wX2:Type:=((List UInt8)×Int×Unit)
def vJ3 (y:vB7)(x:wX2):Prop×Bool×wX2:=
 let a54:=y.2.2.2.1
 let a9:=x.1
 let a56:=x.2.1
 let v57:=(decide (a56<y.2.2.2.2.1))
 let v58:=(nth a54 a56 (0:Int))
 let v61:=(f56 v58)
 ((v57=true→(InB a56 (len a54)∧((vA v58)∧(((List.length a9+List.length v61:Nat):Int)≤4294967296∧InR (a56+1))))),v57,((a9++v61),(a56+1),()))
def wW4 y x:=(vJ3 y x).1
def wX3 y x:=(vJ3 y x).2.1
def wV4 y x:=(vJ3 y x).2.2
instance (y x):Decidable (wW4 y x):=by unfold wW4 vJ3;dsimp only;infer_instance
def vL4 (y:vB7)(x:wX2):(List UInt8):=
 x.1
def vT2:List (Nat×Sh):=[(2,(.val (.sl (.int .i64)))),(3,(.fn 32 .nl)),(9,(.bld 97 5 9)),(11,vI)]
def uK1:=li [(2,(.val (.sl (.int .i64)))),(3,(.fn 32 .nl)),(11,vI),(54,(.own (.int .i64) 54 false)),(55,vI)] [(9,(.bld 97 5 9)),(56,vI)] wX3 wV4 wW4 (fun y x=>[ex 6 none vT2 (y.1,y.2.1,(vL4 y x),y.2.2.1,())]) [vT2]
abbrev vE5:Type:=((List Int)×(Unit)×Unit)
abbrev wZ2:Type:=((List UInt8)×Int×Unit)
def vO4 (y:vE5)(x:wZ2):Prop×Bool×wZ2:=
 let a2:=y.1
 let a9:=x.1
 let a10:=x.2.1
 let v23:=(decide (a10<(len a2)))
 let y7:=(a2,(),a9,a10,())
 let x7:=((a10+1),())
 let r7_4_0:=(vP8 y7 (zC5 (wU7 y7) (wU3 y7) x7))
 let v45:=(r7_4_0-a10)
 let v46:=(v45-1)
 let v47:=(f56 v46)
 let v52:=(nth a2 a10 (0:Int))
 let v54:=(f32 v52)
 let y11:=(a2,(),r7_4_0,v54,(len v54),())
 let x11:=((a9++v47),(0:Int),())
 ((v23=true→(InR (a10+1)∧((xQ6 (wU7 y7) (wU3 y7) (vB6 y7) x7)∧(InR (r7_4_0-a10)∧(InR (v45-1)∧((vA v46)∧(((List.length a9+List.length v47:Nat):Int)≤4294967296∧(InB a10 (len a2)∧((uO9 v52)∧(xQ6 (wX3 y11) (wV4 y11) (wW4 y11) x11)))))))))),v23,((vL4 y11 (zC5 (wX3 y11) (wV4 y11) x11)),r7_4_0,()))
def wX4 y x:=(vO4 y x).1
def wV9 y x:=(vO4 y x).2.1
def wW y x:=(vO4 y x).2.2
instance (y x):Decidable (wX4 y x):=by unfold wX4 vO4;dsimp only;infer_instance
def vP9 (y:vE5)(x:wZ2):(List UInt8):=
 x.1
def uP0:=li [(2,(.val (.sl (.int .i64)))),(3,(.fn 32 .nl))] [(9,(.bld 97 5 9)),(10,vI)] wV9 wW wX4 (fun y x=>[ex 2 none [(9,(.bld 97 5 9))] ((vP9 y x),())]) [[(9,(.bld 97 5 9))]]
def uT5 (p0:Int)(p1:Int)(p2:List Int)(p3:(Unit)):Prop×(List UInt8):=
 let v15:=(f56 p0)
 let b9:=(([]:List UInt8)++v15)
 let v18:=(f56 p1)
 let y5:=(p2,(),())
 let x5:=((b9++v18),(0:Int),())
 (((vA p0)∧(((List.length ([]:List UInt8)+List.length v15:Nat):Int)≤4294967296∧((vA p1)∧(((List.length b9+List.length v18:Nat):Int)≤4294967296∧(xQ6 (wV9 y5) (wW y5) (wX4 y5) x5))))),(vP9 y5 (zC5 (wV9 y5) (wW y5) x5)))
def vI0 p0 p1 p2 p3:=(uT5 p0 p1 p2 p3).1
def uP1 p0 p1 p2 p3:=(uT5 p0 p1 p2 p3).2
instance (p0 p1 p2 p3):Decidable (vI0 p0 p1 p2 p3):=by unfold vI0 uT5;dsimp only;infer_instance
theorem tD3:SK 31 (sp4 vI vI (.val (.sl (.int .i64))) (.fn 32 .nl) vS vI0 uP1):=fy (fun c=>{ c with blds:=[(97,5,50,57)] }) Tryz.func31 66 [kb tY8,kb uO2] [(5,uP0),(7,uP),(11,uK1)]
def f8t (p0:D26):Prop×(List UInt8):=
 let m1:=(bif ((f30 p0)!=0) then ((0:Int),(0:Int),([]:List Int),()) else p0)
 (((uO8 p0)∧(vI0 m1.1 m1.2.1 m1.2.2.1 ())),(uP1 m1.1 m1.2.1 m1.2.2.1 ()))
def tD4 p0:=(f8t p0).1
def f8 p0:=(f8t p0).2
instance (p0):Decidable (tD4 p0):=by unfold tD4 f8t;dsimp only;infer_instance
theorem tY9:SK 8 (sp1 (.val T26) vS tD4 f8):=fb Tryz.func8 14 [kb tY7,kb tD3]
def f95t (p0:Int):Prop×Int:=
 (True,(bif (decide (p0<0)) then (wT3 .u64 (IntKind.wrap .u64 (wT4 (IntKind.wrap .u64 p0) (1:Int) 64))) else (IntKind.wrap .u64 (wT4 (IntKind.wrap .u64 p0) (1:Int) 64))))
def uP2 p0:=(f95t p0).1
def f95 p0:=(f95t p0).2
instance (p0):Decidable (uP2 p0):=by unfold uP2 f95t;dsimp only;infer_instance
theorem tR6:SK 95 (sp1 vI (.val (.int .u64)) uP2 f95):=fb Tryz.func95 12 [] [] [] true
def f92t (p0:Int):Prop×(List UInt8):=
 let v4:=(f95 p0)
 (((uP2 p0)∧(vT v4)),(f93 v4))
def uP3 p0:=(f92t p0).1
def f92 p0:=(f92t p0).2
instance (p0):Decidable (uP3 p0):=by unfold uP3 f92t;dsimp only;infer_instance
theorem tZ:SK 92 (sp1 vI vS uP3 f92):=fb Tryz.func92 6 [kb tC9,kb tR6]
abbrev vT3:Type:=((List Int)×Int×Unit)
abbrev vJ4:Type:=((List UInt8)×Int×Unit)
def uK2 (y:vT3)(x:vJ4):Prop×Bool×vJ4:=
 let a6:=y.1
 let a3:=x.1
 let a8:=x.2.1
 let v9:=(decide (a8<y.2.1))
 let v10:=(nth a6 a8 (0:Int))
 let v13:=(f92 v10)
 ((v9=true→(InB a8 (len a6)∧((uP3 v10)∧(((List.length a3+List.length v13:Nat):Int)≤4294967296∧InR (a8+1))))),v9,((a3++v13),(a8+1),()))
def vL5 y x:=(uK2 y x).1
def vY8 y x:=(uK2 y x).2.1
def vJ5 y x:=(uK2 y x).2.2
instance (y x):Decidable (vL5 y x):=by unfold vL5 uK2;dsimp only;infer_instance
def uA2 (y:vT3)(x:vJ4):(List UInt8):=
 x.1
def tD5:=li [(6,(.val (.sl (.int .i64)))),(7,vI)] [(3,(.bld 97 5 3)),(8,vI)] vY8 vJ5 vL5 (fun y x=>[ex 2 none [(3,(.bld 97 5 3))] ((uA2 y x),())]) [[(3,(.bld 97 5 3))]]
def f51t (p0:List Int):Prop×(List UInt8):=
 let y3:=(p0,(len p0),())
 let x3:=(([]:List UInt8),(0:Int),())
 ((xQ6 (vY8 y3) (vJ5 y3) (vL5 y3) x3),(uA2 y3 (zC5 (vY8 y3) (vJ5 y3) x3)))
def wW6 p0:=(f51t p0).1
def f51 p0:=(f51t p0).2
instance (p0):Decidable (wW6 p0):=by unfold wW6 f51t;dsimp only;infer_instance
theorem tR7:SK 51 (sp1 (.val (.sl (.int .i64))) vS wW6 f51):=fy (fun c=>{ c with blds:=[(97,5,50,57)] }) Tryz.func51 17 [kb tZ] [(3,tD5)]
def f52t (p0:List UInt8):Prop×(List UInt8):=
 let v5:=(IntKind.wrap .u64 (len p0))
 let v6:=(f93 v5)
 (((vT v5)∧((List.length v6+List.length p0:Nat):Int)≤9223372036854775807),(v6++p0))
def uG2 p0:=(f52t p0).1
def f52 p0:=(f52t p0).2
instance (p0):Decidable (uG2 p0):=by unfold uG2 f52t;dsimp only;infer_instance
theorem tZ0:SK 52 (sp1 vS vS uG2 f52):=fb Tryz.func52 9 [kb tC9]
abbrev vT4:Type:=((List Bool)×Int×Unit)
abbrev vJ6:Type:=((List UInt8)×Int×Unit)
def uK3 (y:vT4)(x:vJ6):Prop×Bool×vJ6:=
 let a7:=y.1
 let a3:=x.1
 let a9:=x.2.1
 let v10:=(decide (a9<y.2.1))
 let m6:=(bif (nth a7 a9 false) then (1:Int) else (0:Int))
 let v15:=(f56 m6)
 ((v10=true→(InB a9 (len a7)∧((vA m6)∧(((List.length a3+List.length v15:Nat):Int)≤4294967296∧InR (a9+1))))),v10,((a3++v15),(a9+1),()))
def vL6 y x:=(uK3 y x).1
def vY9 y x:=(uK3 y x).2.1
def vJ7 y x:=(uK3 y x).2.2
instance (y x):Decidable (vL6 y x):=by unfold vL6 uK3;dsimp only;infer_instance
def uA3 (y:vT4)(x:vJ6):(List UInt8):=
 x.1
def tD6:=li [(7,(.val (.sl .bool))),(8,vI)] [(3,(.bld 97 5 3)),(9,vI)] vY9 vJ7 vL6 (fun y x=>[ex 2 none [(3,(.bld 97 5 3))] ((uA3 y x),())]) [[(3,(.bld 97 5 3))]]
def f53t (p0:List Bool):Prop×(List UInt8):=
 let y3:=(p0,(len p0),())
 let x3:=(([]:List UInt8),(0:Int),())
 ((xQ6 (vY9 y3) (vJ7 y3) (vL6 y3) x3),(uA3 y3 (zC5 (vY9 y3) (vJ7 y3) x3)))
def uG3 p0:=(f53t p0).1
def f53 p0:=(f53t p0).2
instance (p0):Decidable (uG3 p0):=by unfold uG3 f53t;dsimp only;infer_instance
theorem tZ1:SK 53 (sp1 (.val (.sl .bool)) vS uG3 f53):=fy (fun c=>{ c with blds:=[(97,5,50,57)] }) Tryz.func53 19 [kb uO2] [(3,tD6)]
abbrev vT5:Type:=((List Int)×Int×Unit)
abbrev vJ8:Type:=((List Int)×Int×Unit)
def uK4 (y:vT5)(x:vJ8):Prop×Bool×vJ8:=
 let a10:=y.1
 let a3:=x.1
 let a12:=x.2.1
 let v13:=(decide (a12<y.2.1))
 let v14:=(nth a10 a12 (0:Int))
 let v18:=(f95 v14)
 ((v13=true→(InB a12 (len a10)∧((uP2 v14)∧(wZ7 a3 v18)))),v13,((vH7 a3 v18),(IntKind.wrap .i64 (a12+1)),()))
def vI1 y x:=(uK4 y x).1
def vC5 y x:=(uK4 y x).2.1
def wX5 y x:=(uK4 y x).2.2
instance (y x):Decidable (vI1 y x):=by unfold vI1 uK4;dsimp only;infer_instance
def uA4 (y:vT5)(x:vJ8):(List Int):=
 x.1
def uP4:List (Nat×Sh):=[(3,(.own (.int .u8) 1003 false))]
def tD7:=li [(10,(.val (.sl (.int .i64)))),(11,vI)] [(3,(.own (.int .u8) 1003 false)),(12,vI)] vC5 wX5 vI1 (fun y x=>[ex 2 none uP4 ((uA4 y x),())]) [uP4]
def f54t (p0:List Int):Prop×(List UInt8):=
 let v8:=(IntKind.wrap .u64 (len p0))
 let y3:=(p0,(len p0),())
 let x3:=((vH7 ([]:List Int) v8),(0:Int),())
 (((wZ7 ([]:List Int) v8)∧(xQ6 (vC5 y3) (wX5 y3) (vI1 y3) x3)),(xC9 (uA4 y3 (zC5 (vC5 y3) (wX5 y3) x3))))
def uP5 p0:=(f54t p0).1
def f54 p0:=(f54t p0).2
instance (p0):Decidable (uP5 p0):=by unfold uP5 f54t;dsimp only;infer_instance
theorem tZ2:SK 54 (sp1 (.val (.sl (.int .i64))) vS uP5 f54):=fx (fun c=>{ c with wants:=[(94,[0])] }) Tryz.func54 23 [kb uO1,kb tR6] [(3,tD7)] [(3,[(4,0,9,1003)]),(11,[(4,0,19,1003)])] true
abbrev vT6:Type:=(D52×(List D111)×Int×Unit)
abbrev vJ9:Type:=((List UInt8)×Int×Unit)
def uK5 (y:vT6)(x:vJ9):Prop×Bool×vJ9:=
 let a16:=y.2.1
 let a3:=x.1
 let a18:=x.2.1
 let v19:=(decide (a18<y.2.2.1))
 let v20:=(nth a16 a18 Z111)
 let v36:=([v20.1,v20.2.1.1,v20.2.1.2.1,v20.2.1.2.2.1,v20.2.1.2.2.2.1]:List Int)
 let v37:=(f51 v36)
 ((v19=true→(InB a18 (len a16)∧((wW6 v36)∧(((List.length a3+List.length v37:Nat):Int)≤4294967296∧InR (a18+1))))),v19,((a3++v37),(a18+1),()))
def vI2 y x:=(uK5 y x).1
def vC6 y x:=(uK5 y x).2.1
def wW5 y x:=(uK5 y x).2.2
instance (y x):Decidable (vI2 y x):=by unfold vI2 uK5;dsimp only;infer_instance
def uA5 (y:vT6)(x:vJ9):(List UInt8):=
 x.1
def uP6:List (Nat×Sh):=[(1,(.box T52 (.val T52))),(3,(.bld 97 5 3))]
def tD8:=li [(1,(.box T52 (.val T52))),(16,(.val (.sl T111))),(17,vI)] [(3,(.bld 97 5 3)),(18,vI)] vC6 wW5 vI2 (fun y x=>[ex 2 none uP6 (y.1,(uA5 y x),())]) [uP6]
abbrev vL7:Type:=((List D114)×Int×Int×(List D106)×Unit)
abbrev vE6:Type:=((List UInt8)×Int×Unit)
def vZ (y:vL7)(x:vE6):Prop×Bool×vE6:=
 let a3:=x.1
 let a59:=x.2.1
 let v60:=(decide (a59<3))
 let v61:=(nth y.2.2.2.1 a59 Z106)
 let v66:=([v61.1,v61.2.1]:List Int)
 let v67:=(f51 v66)
 ((v60=true→(InB a59 3∧((wW6 v66)∧(((List.length a3+List.length v67:Nat):Int)≤4294967296∧InR (a59+1))))),v60,((a3++v67),(a59+1),()))
def vD7 y x:=(vZ y x).1
def vE7 y x:=(vZ y x).2.1
def wX6 y x:=(vZ y x).2.2
instance (y x):Decidable (vD7 y x):=by unfold vD7 vZ;dsimp only;infer_instance
def vX5 (y:vL7)(x:vE6):(List UInt8):=
 x.1
def uG4:List (Nat×Sh):=[(3,(.bld 97 5 3)),(46,(.val (.sl T114))),(47,vI),(48,vI)]
def uZ:=li [(46,(.val (.sl T114))),(47,vI),(48,vI),(58,(.val (.arr 3 T106)))] [(3,(.bld 97 5 3)),(59,vI)] vE7 wX6 vD7 (fun y x=>[ex 6 none uG4 ((vX5 y x),y.1,y.2.1,y.2.2.1,())]) [uG4]
abbrev vL8:Type:=((List D114)×Int×Unit)
abbrev vE8:Type:=((List UInt8)×Int×Unit)
def vZ0 (y:vL8)(x:vE8):Prop×Bool×vE8:=
 let a46:=y.1
 let a47:=y.2.1
 let a3:=x.1
 let a48:=x.2.1
 let v49:=(decide (a48<a47))
 let v50:=(nth a46 a48 Z114)
 let v54:=([v50.1]:List Int)
 let v55:=(f51 v54)
 let y14:=(a46,a47,a48,v50.2.1,())
 let x14:=((a3++v55),(0:Int),())
 ((v49=true→(InB a48 (len a46)∧((wW6 v54)∧(((List.length a3+List.length v55:Nat):Int)≤4294967296∧((xQ6 (vE7 y14) (wX6 y14) (vD7 y14) x14)∧InR (a48+1)))))),v49,((vX5 y14 (zC5 (vE7 y14) (wX6 y14) x14)),(a48+1),()))
def vA2 y x:=(vZ0 y x).1
def wY8 y x:=(vZ0 y x).2.1
def wV6 y x:=(vZ0 y x).2.2
instance (y x):Decidable (vA2 y x):=by unfold vA2 vZ0;dsimp only;infer_instance
def vX6 (y:vL8)(x:vE8):(List UInt8):=
 x.1
def uZ0:=li [(46,(.val (.sl T114))),(47,vI)] [(3,(.bld 97 5 3)),(48,vI)] wY8 wV6 vA2 (fun y x=>[ex 4 none [(3,(.bld 97 5 3))] ((vX6 y x),())]) [[(3,(.bld 97 5 3))]]
def f55t (p0:D52):Prop×(List UInt8):=
 let v12:=(len p0.2.2.2.2.2.2.2.2.2.2.2.2.2.2.2.2.2.1)
 let v13:=(f56 v12)
 let y4:=(p0,p0.2.2.2.2.2.2.2.2.2.2.2.2.2.2.2.2.2.1,(len p0.2.2.2.2.2.2.2.2.2.2.2.2.2.2.2.2.2.1),())
 let x4:=((([]:List UInt8)++v13),(0:Int),())
 let r4_2_0:=(uA5 y4 (zC5 (vC6 y4) (wW5 y4) x4))
 let v42:=(len p0.2.2.2.2.2.2.2.2.2.2.2.2.2.2.2.2.2.2.1)
 let v43:=(f56 v42)
 let y10:=(p0.2.2.2.2.2.2.2.2.2.2.2.2.2.2.2.2.2.2.1,(len p0.2.2.2.2.2.2.2.2.2.2.2.2.2.2.2.2.2.2.1),())
 let x10:=((r4_2_0++v43),(0:Int),())
 (((vA v12)∧(((List.length ([]:List UInt8)+List.length v13:Nat):Int)≤4294967296∧((xQ6 (vC6 y4) (wW5 y4) (vI2 y4) x4)∧((vA v42)∧(((List.length r4_2_0+List.length v43:Nat):Int)≤4294967296∧(xQ6 (wY8 y10) (wV6 y10) (vA2 y10) x10)))))),(vX6 y10 (zC5 (wY8 y10) (wV6 y10) x10)))
def uP7 p0:=(f55t p0).1
def f55 p0:=(f55t p0).2
instance (p0):Decidable (uP7 p0):=by unfold uP7 f55t;dsimp only;infer_instance
theorem tZ3:SK 55 (sp1 (.val T52) vS uP7 f55):=fy (fun c=>{ c with blds:=[(97,5,50,57)] }) Tryz.func55 72 [kb tR7,kb uO2] [(4,tD8),(10,uZ0),(14,uZ)]
abbrev vL9:Type:=((List D106)×Int×Unit)
abbrev vE9:Type:=((List UInt8)×Int×Unit)
def vZ1 (y:vL9)(x:vE9):Prop×Bool×vE9:=
 let a136:=y.1
 let a3:=x.1
 let a138:=x.2.1
 let v139:=(decide (a138<y.2.1))
 let v140:=(nth a136 a138 Z106)
 let v146:=([v140.1,v140.2.1]:List Int)
 let v147:=(f51 v146)
 ((v139=true→(InB a138 (len a136)∧((wW6 v146)∧(((List.length a3+List.length v147:Nat):Int)≤4294967296∧InR (a138+1))))),v139,((a3++v147),(a138+1),()))
def vI3 y x:=(vZ1 y x).1
def vM y x:=(vZ1 y x).2.1
def vB8 y x:=(vZ1 y x).2.2
instance (y x):Decidable (vI3 y x):=by unfold vI3 vZ1;dsimp only;infer_instance
def vM0 (y:vL9)(x:vE9):(List UInt8):=
 x.1
def uZ1:=li [(136,(.val (.sl T106))),(137,vI)] [(3,(.bld 97 5 3)),(138,vI)] vM vB8 vI3 (fun y x=>[ex 2 none [(3,(.bld 97 5 3))] ((vM0 y x),())]) [[(3,(.bld 97 5 3))]]
def f20t (p0:D52):Prop×(List UInt8):=
 let v12:=([p0.1,p0.2.1,p0.2.2.1]:List Int)
 let v13:=(f51 v12)
 let b3:=(([]:List UInt8)++v13)
 let v17:=(f52 p0.2.2.2.1)
 let b3_1:=(b3++v17)
 let v25:=([p0.2.2.2.2.1,p0.2.2.2.2.2.1,p0.2.2.2.2.2.2.1]:List Bool)
 let v26:=(f53 v25)
 let b3_2:=(b3_1++v26)
 let v32:=([p0.2.2.2.2.2.2.2.1,p0.2.2.2.2.2.2.2.2.1]:List Int)
 let v33:=(f51 v32)
 let b3_3:=(b3_2++v33)
 let v37:=(f8 p0.2.2.2.2.2.2.2.2.2.1)
 let b3_4:=(b3_3++v37)
 let v59:=([p0.2.2.2.2.2.2.2.2.2.2.1.1,p0.2.2.2.2.2.2.2.2.2.2.1.2.1,p0.2.2.2.2.2.2.2.2.2.2.1.2.2.1,p0.2.2.2.2.2.2.2.2.2.2.1.2.2.2.1,p0.2.2.2.2.2.2.2.2.2.2.1.2.2.2.2.1,p0.2.2.2.2.2.2.2.2.2.2.1.2.2.2.2.2.1,p0.2.2.2.2.2.2.2.2.2.2.2.1]:List Int)
 let v60:=(f51 v59)
 let b3_5:=(b3_4++v60)
 let v64:=(f6 p0.2.2.2.2.2.2.2.2.2.2.2.2.1)
 let b3_6:=(b3_5++v64)
 let v80:=([p0.2.2.2.2.2.2.2.2.2.2.2.2.2.1.1,p0.2.2.2.2.2.2.2.2.2.2.2.2.2.1.2.1,p0.2.2.2.2.2.2.2.2.2.2.2.2.2.1.2.2.1,p0.2.2.2.2.2.2.2.2.2.2.2.2.2.1.2.2.2.1,p0.2.2.2.2.2.2.2.2.2.2.2.2.2.2.1]:List Int)
 let v81:=(f51 v80)
 let b3_7:=(b3_6++v81)
 let v85:=(f54 p0.2.2.2.2.2.2.2.2.2.2.2.2.2.2.2.1)
 let b3_8:=(b3_7++v85)
 let v89:=([p0.2.2.2.2.2.2.2.2.2.2.2.2.2.2.2.2.1]:List Int)
 let v90:=(f51 v89)
 let b3_9:=(b3_8++v90)
 let v93:=(f55 p0)
 let b3_10:=(b3_9++v93)
 let v103:=([p0.2.2.2.2.2.2.2.2.2.2.2.2.2.2.2.2.2.2.2.1,p0.2.2.2.2.2.2.2.2.2.2.2.2.2.2.2.2.2.2.2.2.1,p0.2.2.2.2.2.2.2.2.2.2.2.2.2.2.2.2.2.2.2.2.2.1,p0.2.2.2.2.2.2.2.2.2.2.2.2.2.2.2.2.2.2.2.2.2.2.1]:List Int)
 let v104:=(f51 v103)
 let b3_11:=(b3_10++v104)
 let v108:=(f52 p0.2.2.2.2.2.2.2.2.2.2.2.2.2.2.2.2.2.2.2.2.2.2.2.1)
 let b3_12:=(b3_11++v108)
 let v125:=([p0.2.2.2.2.2.2.2.2.2.2.2.2.2.2.2.2.2.2.2.2.2.2.2.2.1,p0.2.2.2.2.2.2.2.2.2.2.2.2.2.2.2.2.2.2.2.2.2.2.2.2.2.1,p0.2.2.2.2.2.2.2.2.2.2.2.2.2.2.2.2.2.2.2.2.2.2.2.2.2.2.1,p0.2.2.2.2.2.2.2.2.2.2.2.2.2.2.2.2.2.2.2.2.2.2.2.2.2.2.2.1.1,p0.2.2.2.2.2.2.2.2.2.2.2.2.2.2.2.2.2.2.2.2.2.2.2.2.2.2.2.1.2.1,p0.2.2.2.2.2.2.2.2.2.2.2.2.2.2.2.2.2.2.2.2.2.2.2.2.2.2.2.1.2.2.1]:List Int)
 let v126:=(f51 v125)
 let b3_13:=(b3_12++v126)
 let v131:=(len p0.2.2.2.2.2.2.2.2.2.2.2.2.2.2.2.2.2.2.2.2.2.2.2.2.2.2.2.1.2.2.2.1)
 let v132:=(f56 v131)
 let y18:=(p0.2.2.2.2.2.2.2.2.2.2.2.2.2.2.2.2.2.2.2.2.2.2.2.2.2.2.2.1.2.2.2.1,(len p0.2.2.2.2.2.2.2.2.2.2.2.2.2.2.2.2.2.2.2.2.2.2.2.2.2.2.2.1.2.2.2.1),())
 let x18:=((b3_13++v132),(0:Int),())
 (((wW6 v12)∧(((List.length ([]:List UInt8)+List.length v13:Nat):Int)≤4294967296∧((uG2 p0.2.2.2.1)∧(((List.length b3+List.length v17:Nat):Int)≤4294967296∧((uG3 v25)∧(((List.length b3_1+List.length v26:Nat):Int)≤4294967296∧((wW6 v32)∧(((List.length b3_2+List.length v33:Nat):Int)≤4294967296∧((tD4 p0.2.2.2.2.2.2.2.2.2.1)∧(((List.length b3_3+List.length v37:Nat):Int)≤4294967296∧((wW6 v59)∧(((List.length b3_4+List.length v60:Nat):Int)≤4294967296∧((tD0 p0.2.2.2.2.2.2.2.2.2.2.2.2.1)∧(((List.length b3_5+List.length v64:Nat):Int)≤4294967296∧((wW6 v80)∧(((List.length b3_6+List.length v81:Nat):Int)≤4294967296∧((uP5 p0.2.2.2.2.2.2.2.2.2.2.2.2.2.2.2.1)∧(((List.length b3_7+List.length v85:Nat):Int)≤4294967296∧((wW6 v89)∧(((List.length b3_8+List.length v90:Nat):Int)≤4294967296∧((uP7 p0)∧(((List.length b3_9+List.length v93:Nat):Int)≤4294967296∧((wW6 v103)∧(((List.length b3_10+List.length v104:Nat):Int)≤4294967296∧((uG2 p0.2.2.2.2.2.2.2.2.2.2.2.2.2.2.2.2.2.2.2.2.2.2.2.1)∧(((List.length b3_11+List.length v108:Nat):Int)≤4294967296∧((wW6 v125)∧(((List.length b3_12+List.length v126:Nat):Int)≤4294967296∧((vA v131)∧(((List.length b3_13+List.length v132:Nat):Int)≤4294967296∧(xQ6 (vM y18) (vB8 y18) (vI3 y18) x18))))))))))))))))))))))))))))))),(vM0 y18 (zC5 (vM y18) (vB8 y18) x18)))
def vX7 p0:=(f20t p0).1
def f20 p0:=(f20t p0).2
instance (p0):Decidable (vX7 p0):=by unfold vX7 f20t;dsimp only;infer_instance
theorem tZ4:SK 20 (sp1 (.val T52) vS vX7 f20):=fy (fun c=>{ c with blds:=[(97,5,50,57)] }) Tryz.func20 151 [kb tY5,kb tY9,kb tR7,kb tZ0,kb tZ1,kb tZ2,kb tZ3,kb uO2] [(18,uZ1)]
def tU4 (p0:Int)(p1:Int)(p2:Int):Prop×Int:=
 (True,(wQ7 p2 (wQ6 p0 p1)))
def uK6 p0 p1 p2:=(tU4 p0 p1 p2).1
def f128 p0 p1 p2:=(tU4 p0 p1 p2).2
instance (p0 p1 p2):Decidable (uK6 p0 p1 p2):=by unfold uK6 tU4;dsimp only;infer_instance
theorem tU5:SK 128 (sp3 vI vI vI vI uK6 f128):=fb Tryz.func128 12
def tU6 (p0:Int):Prop×Int:=
 ((uK6 p0 (0:Int) (65535:Int)),(f128 p0 (0:Int) (65535:Int)))
def vR3 p0:=(tU6 p0).1
def f113 p0:=(tU6 p0).2
instance (p0):Decidable (vR3 p0):=by unfold vR3 tU6;dsimp only;infer_instance
theorem tU7:SK 113 (sp1 vI vI vR3 f113):=fb Tryz.func113 5 [kb tU5]
def tU8 (p0:D45):Prop×D45:=
 (((vR3 p0.1)∧((vR3 p0.2.1)∧((vR3 p0.2.2.1)∧(vR3 p0.2.2.2.1)))),((f113 p0.1),(f113 p0.2.1),(f113 p0.2.2.1),(f113 p0.2.2.2.1),()))
def uK7 p0:=(tU8 p0).1
def f101 p0:=(tU8 p0).2
instance (p0):Decidable (uK7 p0):=by unfold uK7 tU8;dsimp only;infer_instance
theorem tU9:SK 101 (sp1 (.val T45) (.val T45) uK7 f101):=fb Tryz.func101 16 [kb tU7]
def f79t (p0:D45):Prop×Bool:=
 ((uK7 p0),(Ty.eqb T45 (f101 p0) p0))
def uP8 p0:=(f79t p0).1
def f79 p0:=(f79t p0).2
instance (p0):Decidable (uP8 p0):=by unfold uP8 f79t;dsimp only;infer_instance
theorem tZ5:SK 79 (sp1 (.val T45) vB uP8 f79):=fb Tryz.func79 7 [kb tU9]
abbrev vK:Type:=(D23×Unit)
abbrev vC7:Type:=(Int×Unit)
def vW (y:vK)(x:vC7):Prop×Bool×vC7×Bool×Bool:=
 let a1:=y.1
 let a3:=x.1
 let v44:=(decide (a3<(len a1.2.2.1)))
 let v50:=(nth a1.2.2.1 a3 Z45)
 let v53:=(!(f79 v50))
 ((v44=true→(InB a3 (len a1.2.2.1)∧((uP8 v50)∧((!v53)=true→InR (a3+1))))),(v44&&(!v53)),((a3+1),()),(v44&&v53),(!v44))
def vI4 y x:=(vW y x).1
def vT7 y x:=(vW y x).2.1
def vF y x:=(vW y x).2.2.1
def uP9 y x:=(vW y x).2.2.2.1
def tD9 y x:=(vW y x).2.2.2.2
instance (y x):Decidable (vI4 y x):=by unfold vI4 vW;dsimp only;infer_instance
def uA6 (y:vK)(x:vC7):Int:=
 (2:Int)
def tE:=li [(1,(.box T23 (.val T23)))] [(3,vI)] vT7 vF vI4 (fun y x=>[ex 1 (some (uP9 y x)) [(2,vI)] ((uA6 y x),()),ex 2 (some (tD9 y x)) [] ()]) [[(2,vI)],[]]
def f28t (p0:D23):Prop×Int:=
 let v21:=(bif (bif (bif (decide (p0.1<0)) then true else (decide (p0.1>256))) then true else (decide (p0.2.1<0))) then true else (decide (p0.2.1>256)))
 let v28:=(!(Ty.eqb .bool (p0.1==0) (p0.2.1==0)))
 let v39:=(bif v28 then true else ((len p0.2.2.1)!=(p0.1*p0.2.1)))
 let y6:=(p0,())
 let x6:=((0:Int),())
 let e6:=(zC5 (vT7 y6) (vF y6) x6)
 (((!v21)=true→(((!v28)=true→InR (p0.1*p0.2.1))∧((!v39)=true→(xQ6 (vT7 y6) (vF y6) (vI4 y6) x6)))),(bif v21 then (15:Int) else (bif v39 then (15:Int) else (bif (uP9 y6 e6) then (uA6 y6 e6) else (0:Int)))))
def uQ p0:=(f28t p0).1
def f28 p0:=(f28t p0).2
instance (p0):Decidable (uQ p0):=by unfold uQ f28t;dsimp only;infer_instance
theorem tZ6:SK 28 (sp1 (.val T23) vI uQ f28):=fb Tryz.func28 54 [kb tZ5] [(6,tE)]
abbrev vO5:Type:=(Unit)
abbrev vG:Type:=(Int×(List UInt8)×Unit)
def uK8 (y:vO5)(x:vG):Prop×Bool×vG:=
 let a0:=x.1
 let a3:=x.2.1
 let v5:=(decide (a0≥128))
 let v12:=(xC9 ([(IntKind.wrap .u8 (ior .u64 (wT2 .u64 a0 (127:Int)) (128:Int)))]:List Int))
 ((v5=true→((List.length a3+List.length v12:Nat):Int)≤9223372036854775807),v5,((wT5 a0 (7:Int) 64),(a3++v12),()))
def vM1 y x:=(uK8 y x).1
def vA9 y x:=(uK8 y x).2.1
def wX7 y x:=(uK8 y x).2.2
instance (y x):Decidable (vM1 y x):=by unfold vM1 uK8;dsimp only;infer_instance
def uA7 (y:vO5)(x:vG):Int:=
 x.1
def uA8 (y:vO5)(x:vG):(List UInt8):=
 x.2.1
def uQ0:List (Nat×Sh):=[(0,(.val (.int .u64))),(3,vS)]
def tE0:=li [] [(0,(.val (.int .u64))),(3,vS)] vA9 wX7 vM1 (fun y x=>[ex 2 none uQ0 ((uA7 y x),(uA8 y x),())]) [uQ0]
def f80t (p0:Int):Prop×(List UInt8):=
 let x2:=(p0,([]:List UInt8),())
 let e2:=(zC5 (vA9 ()) (wX7 ()) x2)
 let r2_2_1:=(uA8 () e2)
 let v20:=(xC9 ([(IntKind.wrap .u8 (uA7 () e2))]:List Int))
 (((xQ6 (vA9 ()) (wX7 ()) (vM1 ()) x2)∧((List.length r2_2_1+List.length v20:Nat):Int)≤9223372036854775807),(r2_2_1++v20))
def vI5 p0:=(f80t p0).1
def f80 p0:=(f80t p0).2
instance (p0):Decidable (vI5 p0):=by unfold vI5 f80t;dsimp only;infer_instance
theorem uW2:SK 80 (sp1 (.val (.int .u64)) vS vI5 f80):=fb Tryz.func80 22 [] [(2,tE0)] [] true
def f29t (p0:Int):Prop×(List UInt8):=
 let v4:=(IntKind.wrap .u64 p0)
 ((vI5 v4),(f80 v4))
def wW7 p0:=(f29t p0).1
def f29 p0:=(f29t p0).2
instance (p0):Decidable (wW7 p0):=by unfold wW7 f29t;dsimp only;infer_instance
theorem uW3:SK 29 (sp1 vI vS wW7 f29):=fb Tryz.func29 6 [kb uW2]
abbrev uA9:Type:=(D23×Unit)
abbrev vR4:Type:=((List UInt8)×Int×Int×Unit)
def uW4 (y:uA9)(x:vR4):Prop×Bool×vR4:=
 let a1:=y.1
 let a3:=x.1
 let a4:=x.2.1
 let a5:=x.2.2.1
 let v22:=(decide (a5<(len a1.2.2.1)))
 let v28:=(nth a1.2.2.1 a5 Z45)
 let v35:=((a5+1)==(len a1.2.2.1))
 let v40:=(a5+1)
 let v45:=(bif v35 then true else (!(Ty.eqb T45 (nth a1.2.2.1 v40 Z45) v28)))
 let v49:=(a5-a4)
 let v50:=(f29 v49)
 let v51:=(a3++v50)
 let v54:=(f29 v28.1)
 let v55:=(v51++v54)
 let v58:=(f29 v28.2.1)
 let v59:=(v55++v58)
 let v62:=(f29 v28.2.2.1)
 let v63:=(v59++v62)
 let v66:=(f29 v28.2.2.2.1)
 ((v22=true→(InB a5 (len a1.2.2.1)∧(InR (a5+1)∧(((!v35)=true→InR (a5+1))∧(((!v35)=true→InB v40 (len a1.2.2.1))∧((v45=true→(InR (a5-a4)∧((wW7 v49)∧(((List.length a3+List.length v50:Nat):Int)≤9223372036854775807∧((wW7 v28.1)∧(((List.length v51+List.length v54:Nat):Int)≤9223372036854775807∧((wW7 v28.2.1)∧(((List.length v55+List.length v58:Nat):Int)≤9223372036854775807∧((wW7 v28.2.2.1)∧(((List.length v59+List.length v62:Nat):Int)≤9223372036854775807∧((wW7 v28.2.2.2.1)∧(((List.length v63+List.length v66:Nat):Int)≤9223372036854775807∧InR (a5+1)))))))))))))∧InR (a5+1))))))),v22,((bif v45 then (v63++v66) else a3),(bif v45 then (a5+1) else a4),(a5+1),()))
def vG0 y x:=(uW4 y x).1
def vM2 y x:=(uW4 y x).2.1
def wZ3 y x:=(uW4 y x).2.2
instance (y x):Decidable (vG0 y x):=by unfold vG0 uW4;dsimp only;infer_instance
def uG5 (y:uA9)(x:vR4):(List UInt8):=
 x.1
def tL5:=li [(1,(.box T23 (.val T23)))] [(3,vS),(4,vI),(5,vI)] vM2 wZ3 vG0 (fun y x=>[ex 2 none [(3,vS)] ((uG5 y x),())]) [[(3,vS)]]
def f7t (p0:D23):Prop×(List UInt8):=
 let m1:=(bif ((f28 p0)!=0) then ((0:Int),(0:Int),([]:List D45),()) else p0)
 let v13:=(f29 m1.1)
 let v16:=(f29 m1.2.1)
 let y6:=(m1,())
 let x6:=((v13++v16),(0:Int),(0:Int),())
 (((uQ p0)∧((wW7 m1.1)∧((wW7 m1.2.1)∧(((List.length v13+List.length v16:Nat):Int)≤9223372036854775807∧(xQ6 (vM2 y6) (wZ3 y6) (vG0 y6) x6))))),(uG5 y6 (zC5 (vM2 y6) (wZ3 y6) x6)))
def tE1 p0:=(f7t p0).1
def f7 p0:=(f7t p0).2
instance (p0):Decidable (tE1 p0):=by unfold tE1 f7t;dsimp only;infer_instance
theorem sC7:SK 7 (sp1 (.val T23) vS tE1 f7):=fb Tryz.func7 71 [kb tZ6,kb uW3] [(6,tL5)]
abbrev vK0:Type:=(D26×Unit)
abbrev vC8:Type:=(Int×Unit)
def vW0 (y:vK0)(x:vC8):Prop×Bool×vC8×Bool×Bool:=
 let a1:=y.1
 let a3:=x.1
 let v44:=(decide (a3<(len a1.2.2.1)))
 let v52:=(decide ((nth a1.2.2.1 a3 (0:Int))<0))
 let v60:=(bif v52 then true else (decide ((nth a1.2.2.1 a3 (0:Int))>65535)))
 ((v44=true→(InB a3 (len a1.2.2.1)∧(((!v52)=true→InB a3 (len a1.2.2.1))∧((!v60)=true→InR (a3+1))))),(v44&&(!v60)),((a3+1),()),(v44&&v60),(!v44))
def vI6 y x:=(vW0 y x).1
def vO6 y x:=(vW0 y x).2.1
def vA3 y x:=(vW0 y x).2.2.1
def uQ1 y x:=(vW0 y x).2.2.2.1
def tE2 y x:=(vW0 y x).2.2.2.2
instance (y x):Decidable (vI6 y x):=by unfold vI6 vW0;dsimp only;infer_instance
def uB (y:vK0)(x:vC8):Int:=
 (2:Int)
def tE3:=li [(1,(.box T26 (.val T26)))] [(3,vI)] vO6 vA3 vI6 (fun y x=>[ex 1 (some (uQ1 y x)) [(2,vI)] ((uB y x),()),ex 2 (some (tE2 y x)) [] ()]) [[(2,vI)],[]]
def f33t (p0:D26):Prop×Int:=
 let v21:=(bif (bif (bif (decide (p0.1<0)) then true else (decide (p0.1>256))) then true else (decide (p0.2.1<0))) then true else (decide (p0.2.1>256)))
 let v28:=(!(Ty.eqb .bool (p0.1==0) (p0.2.1==0)))
 let v39:=(bif v28 then true else ((len p0.2.2.1)!=(p0.1*p0.2.1)))
 let y6:=(p0,())
 let x6:=((0:Int),())
 let e6:=(zC5 (vO6 y6) (vA3 y6) x6)
 (((!v21)=true→(((!v28)=true→InR (p0.1*p0.2.1))∧((!v39)=true→(xQ6 (vO6 y6) (vA3 y6) (vI6 y6) x6)))),(bif v21 then (15:Int) else (bif v39 then (15:Int) else (bif (uQ1 y6 e6) then (uB y6 e6) else (0:Int)))))
def uQ2 p0:=(f33t p0).1
def f33 p0:=(f33t p0).2
instance (p0):Decidable (uQ2 p0):=by unfold uQ2 f33t;dsimp only;infer_instance
theorem tZ7:SK 33 (sp1 (.val T26) vI uQ2 f33):=fb Tryz.func33 61 [] [(6,tE3)]
abbrev uB0:Type:=(D26×Unit)
abbrev vR5:Type:=((List UInt8)×Int×Int×Unit)
def uW5 (y:uB0)(x:vR5):Prop×Bool×vR5:=
 let a1:=y.1
 let a3:=x.1
 let a4:=x.2.1
 let a5:=x.2.2.1
 let v21:=(decide (a5<(len a1.2.2.1)))
 let v29:=((a5+1)==(len a1.2.2.1))
 let v34:=(a5+1)
 let v43:=(bif v29 then true else ((nth a1.2.2.1 v34 (0:Int))!=(nth a1.2.2.1 a5 (0:Int))))
 let v47:=(a5-a4)
 let v48:=(f29 v47)
 let v49:=(a3++v48)
 let v53:=(nth a1.2.2.1 a5 (0:Int))
 let v55:=(f29 v53)
 ((v21=true→(InR (a5+1)∧(((!v29)=true→InR (a5+1))∧(((!v29)=true→InB v34 (len a1.2.2.1))∧(((!v29)=true→InB a5 (len a1.2.2.1))∧((v43=true→(InR (a5-a4)∧((wW7 v47)∧(((List.length a3+List.length v48:Nat):Int)≤9223372036854775807∧(InB a5 (len a1.2.2.1)∧((wW7 v53)∧(((List.length v49+List.length v55:Nat):Int)≤9223372036854775807∧InR (a5+1))))))))∧InR (a5+1))))))),v21,((bif v43 then (v49++v55) else a3),(bif v43 then (a5+1) else a4),(a5+1),()))
def vG1 y x:=(uW5 y x).1
def vM3 y x:=(uW5 y x).2.1
def wZ4 y x:=(uW5 y x).2.2
instance (y x):Decidable (vG1 y x):=by unfold vG1 uW5;dsimp only;infer_instance
def uG6 (y:uB0)(x:vR5):(List UInt8):=
 x.1
def tL6:=li [(1,(.box T26 (.val T26)))] [(3,vS),(4,vI),(5,vI)] vM3 wZ4 vG1 (fun y x=>[ex 2 none [(3,vS)] ((uG6 y x),())]) [[(3,vS)]]
def f9t (p0:D26):Prop×(List UInt8):=
 let m1:=(bif ((f33 p0)!=0) then ((0:Int),(0:Int),([]:List Int),()) else p0)
 let v12:=(f29 m1.1)
 let v15:=(f29 m1.2.1)
 let y6:=(m1,())
 let x6:=((v12++v15),(0:Int),(0:Int),())
 (((uQ2 p0)∧((wW7 m1.1)∧((wW7 m1.2.1)∧(((List.length v12+List.length v15:Nat):Int)≤9223372036854775807∧(xQ6 (vM3 y6) (wZ4 y6) (vG1 y6) x6))))),(uG6 y6 (zC5 (vM3 y6) (wZ4 y6) x6)))
def tE4 p0:=(f9t p0).1
def f9 p0:=(f9t p0).2
instance (p0):Decidable (tE4 p0):=by unfold tE4 f9t;dsimp only;infer_instance
theorem sC8:SK 9 (sp1 (.val T26) vS tE4 f9):=fb Tryz.func9 60 [kb uW3,kb tZ7] [(6,tL6)]
def f58t (p0:Int):Prop×(List UInt8):=
 let v4:=(decide (p0≥0))
 let v7:=(IntKind.wrap .u64 ((IntKind.wrap .u64 p0)*2))
 let v14:=(IntKind.wrap .u64 ((IntKind.wrap .u64 ((IntKind.wrap .u64 (IntKind.wrap .i64 (Int.sub 0 (IntKind.wrap .i64 (p0+1)))))*2))+1))
 (((v4=true→(vI5 v7))∧((!v4)=true→(vI5 v14))),(bif v4 then (f80 v7) else (f80 v14)))
def wV p0:=(f58t p0).1
def f58 p0:=(f58t p0).2
instance (p0):Decidable (wV p0):=by unfold wV f58t;dsimp only;infer_instance
theorem tE5:SK 58 (sp1 vI vS wV f58):=fb Tryz.func58 16 [kb uW2] [] [] true
def f59t (p0:List UInt8):Prop×(List UInt8):=
 let v5:=(IntKind.wrap .u64 (len p0))
 let v6:=(f80 v5)
 (((vI5 v5)∧((List.length v6+List.length p0:Nat):Int)≤9223372036854775807),(v6++p0))
def uG7 p0:=(f59t p0).1
def f59 p0:=(f59t p0).2
instance (p0):Decidable (uG7 p0):=by unfold uG7 f59t;dsimp only;infer_instance
theorem tZ8:SK 59 (sp1 vS vS uG7 f59):=fb Tryz.func59 9 [kb uW2]
def f60t (p0:Bool):Prop×(List UInt8):=
 (((p0=true→(wW7 (1:Int)))∧((!p0)=true→(wW7 (0:Int)))),(bif p0 then (f29 (1:Int)) else (f29 (0:Int))))
def uB1 p0:=(f60t p0).1
def f60 p0:=(f60t p0).2
instance (p0):Decidable (uB1 p0):=by unfold uB1 f60t;dsimp only;infer_instance
theorem tZ9:SK 60 (sp1 vB vS uB1 f60):=fb Tryz.func60 6 [kb uW3]
def f61t (p0:D45):Prop×(List UInt8):=
 let v5:=(f58 p0.1)
 let v8:=(f58 p0.2.1)
 let v9:=(v5++v8)
 let v12:=(f58 p0.2.2.1)
 let v13:=(v9++v12)
 let v16:=(f58 p0.2.2.2.1)
 (((wV p0.1)∧((wV p0.2.1)∧(((List.length v5+List.length v8:Nat):Int)≤9223372036854775807∧((wV p0.2.2.1)∧(((List.length v9+List.length v12:Nat):Int)≤9223372036854775807∧((wV p0.2.2.2.1)∧((List.length v13+List.length v16:Nat):Int)≤9223372036854775807)))))),(v13++v16))
def uB2 p0:=(f61t p0).1
def f61 p0:=(f61t p0).2
instance (p0):Decidable (uB2 p0):=by unfold uB2 f61t;dsimp only;infer_instance
theorem sA:SK 61 (sp1 (.val T45) vS uB2 f61):=fb Tryz.func61 18 [kb tE5]
abbrev vT8:Type:=((List Int)×Unit)
abbrev vK1:Type:=((List UInt8)×Int×Unit)
def uK9 (y:vT8)(x:vK1):Prop×Bool×vK1:=
 let a0:=y.1
 let a3:=x.1
 let a4:=x.2.1
 let v12:=(decide (a4<(len a0)))
 let v18:=(nth a0 a4 (0:Int))
 let v20:=(f58 v18)
 ((v12=true→(InB a4 (len a0)∧((wV v18)∧((List.length a3+List.length v20:Nat):Int)≤9223372036854775807))),v12,((a3++v20),(IntKind.wrap .i64 (a4+1)),()))
def vI7 y x:=(uK9 y x).1
def vO7 y x:=(uK9 y x).2.1
def vA4 y x:=(uK9 y x).2.2
instance (y x):Decidable (vI7 y x):=by unfold vI7 uK9;dsimp only;infer_instance
def uB3 (y:vT8)(x:vK1):(List UInt8):=
 x.1
def tE6:=li [(0,(.val (.sl (.int .i64))))] [(3,vS),(4,vI)] vO7 vA4 vI7 (fun y x=>[ex 2 none [(3,vS)] ((uB3 y x),())]) [[(3,vS)]]
def f62t (p0:List Int):Prop×(List UInt8):=
 let v7:=(IntKind.wrap .u64 (len p0))
 let y3:=(p0,())
 let x3:=((f80 v7),(0:Int),())
 (((vI5 v7)∧(xQ6 (vO7 y3) (vA4 y3) (vI7 y3) x3)),(uB3 y3 (zC5 (vO7 y3) (vA4 y3) x3)))
def uQ3 p0:=(f62t p0).1
def f62 p0:=(f62t p0).2
instance (p0):Decidable (uQ3 p0):=by unfold uQ3 f62t;dsimp only;infer_instance
theorem sA0:SK 62 (sp1 (.val (.sl (.int .i64))) vS uQ3 f62):=fb Tryz.func62 23 [kb tE5,kb uW2] [(3,tE6)] [] true
end Go.Proofs.YtbiemgjkkhkdeaaGreatDoor.Am
