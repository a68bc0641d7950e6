/- Printed by program: the functions that the statements reach, as plain functions, and their contracts. No condition. -/
import Derived.Test.YtbiemgjkkhkdeaaGreatDoorMach5
import Derived.Test.YtbiemgjkkhkdeaaGreatDoorMach2
import Derived.Test.YtbiemgjkkhkdeaaGreatDoorNatB
import Derived.Test.YtbiemgjkkhkdeaaGreatDoorProg
set_option linter.unusedVariables false
set_option synthInstance.maxSize 4000
set_option synthInstance.maxHeartbeats 400000
namespace Go.Proofs.YtbiemgjkkhkdeaaGreatDoor.Am
open Go Go.Am Go.Proofs
abbrev T45:Ty:=.st (.cons (.int .i64) (.cons (.int .i64) (.cons (.int .i64) (.cons (.int .i64) .nl))))
abbrev D45:Type:=Int×Int×Int×Int×Unit
abbrev Z45:D45:=((0:Int),(0:Int),(0:Int),(0:Int),())
abbrev T23:Ty:=.st (.cons (.int .i64) (.cons (.int .i64) (.cons (.sl T45) .nl)))
abbrev D23:Type:=Int×Int×(List D45)×Unit
abbrev T26:Ty:=.st (.cons (.int .i64) (.cons (.int .i64) (.cons (.sl (.int .i64)) .nl)))
abbrev D26:Type:=Int×Int×(List Int)×Unit
abbrev T43:Ty:=.st (.cons (.int .i64) (.cons (.int .i64) (.cons (.int .i64) (.cons (.int .i64) (.cons (.int .i64) (.cons (.int .i64) .nl))))))
abbrev T111:Ty:=.st (.cons (.int .i64) (.cons T45 .nl))
abbrev T106:Ty:=.st (.cons (.int .i64) (.cons (.int .i64) .nl))
abbrev T114:Ty:=.st (.cons (.int .i64) (.cons (.arr 3 T106) .nl))
abbrev T50:Ty:=.st (.cons (.int .i64) (.cons (.int .i64) (.cons (.int .i64) (.cons (.sl T106) .nl))))
abbrev T52:Ty:=.st (.cons (.int .i64) (.cons (.int .i64) (.cons (.int .i64) (.cons .str (.cons .bool (.cons .bool (.cons .bool (.cons (.int .i64) (.cons (.int .i64) (.cons T26 (.cons T43 (.cons (.int .i64) (.cons T23 (.cons T45 (.cons (.int .i64) (.cons (.sl (.int .i64)) (.cons (.int .i64) (.cons (.sl T111) (.cons (.sl T114) (.cons (.int .i64) (.cons (.int .i64) (.cons (.int .i64) (.cons (.int .i64) (.cons .str (.cons (.int .i64) (.cons (.int .i64) (.cons (.int .i64) (.cons T50 .nl))))))))))))))))))))))))))))
abbrev T60:Ty:=.st (.cons .bool (.cons .str (.cons (.int .i64) (.cons (.int .i64) .nl))))
abbrev D60:Type:=Bool×(List UInt8)×Int×Int×Unit
abbrev T71:Ty:=.st (.cons .str (.cons (.int .i64) (.cons (.int .i64) (.cons .bool .nl))))
abbrev D71:Type:=(List UInt8)×Int×Int×Bool×Unit
abbrev T147:Ty:=.st (.cons .str (.cons .str .nl))
abbrev T149:Ty:=.st (.cons (.int .i64) (.cons .str (.cons (.int .i64) (.cons (.int .i64) (.cons T23 .nl)))))
abbrev T90:Ty:=.st (.cons (.int .i64) (.cons (.int .i64) (.cons (.int .i64) (.cons (.sl T52) (.cons (.int .i64) (.cons T26 (.cons (.sl T147) (.cons (.sl T149) .nl))))))))
instance:GlobTab:=⟨⟨[]⟩⟩
theorem glob_of (W:World){L:Prop}(_:L):GlobOk (fun b _=>if b<W.heap.size then 0 else 2) W:=fun _ _ _ h=>(List.not_mem_nil h).elim
def tys:List (Nat×Ty):=[(3,(.int .i64)),(4,.bool),(5,(.int .u8)),(9,.str),(22,(.sl T45)),(24,T23),(25,(.sl (.int .i64))),(27,T26),(30,(.ptr T60)),(32,(.ptr T71)),(46,T45),(59,(.int .i64)),(61,T60),(72,T71),(75,(.ptr (.int .i64))),(76,(.sl (.ptr (.int .i64)))),(91,T90),(95,(.sl (.int .u8))),(129,(.int .u64)),(140,(.ptr (.int .u8)))]
theorem vM2:zM4 Tryz.prog tys=true:=by kernel_rfl
theorem mixed:Tryz.prog.follows .mixedOrders=true:=by kernel_rfl
theorem fq {c:Ctx}{f:Nat}{fn:Func}{ps:List (Nat×Sh)}{rs:Sh}{os:List (Nat×Sh)}{ok:zB4 ps→Prop}{F:zB4 ps→rs.den}{o:zB4 ps→yH2 os}(hf:Tryz.prog.funcs[f]?=some fn)(hs:xQ5 Tryz.prog c.fns)(hmp:(yL4 Tryz.prog c.maps&&yW8 Tryz.prog c.fts)=true:=by kernel_rfl)(he:c.exts=[]:=by rfl)(ht:zM4 Tryz.prog c.tys=true:=by exact vM2)(hn:Nat.ble c.n vNo=true:=by kernel_rfl)(hcl:c.clones=[]:=by rfl)(hbl:c.blds=[]:=by rfl)(hk:xH7 fn c ps os=true:=by kernel_rfl)(hbs:zI3 (fn.body.getD .skip)=[]:=by kernel_rfl)(hsum:∀ x,wB c (fn.body.getD .skip) fn.results.toList ps rs os x=some (ok x,F x,o x):=by intro x;kernel_rfl):SpecOk Tryz.prog f (fnSpec ps rs os ok F o):=wS1 (wI0 ht hmp hs he hn hcl hbl) mixed hf hk hbs trivial hsum
theorem fl {c:Ctx}{f:Nat}{fn:Func}{ps:List (Nat×Sh)}{rs:Sh}{os:List (Nat×Sh)}{ok:zB4 ps→Prop}{F:zB4 ps→rs.den}{o:zB4 ps→yH2 os}(hc:CtxOk Tryz.prog c)(hf:Tryz.prog.funcs[f]?=some fn){bs:List Code}(hL:zQ5 Tryz.prog c bs)(hk:xH7 fn c ps os=true:=by kernel_rfl)(hbs:zI3 (fn.body.getD .skip)=bs:=by kernel_rfl)(hsum:∀ x,wB c (fn.body.getD .skip) fn.results.toList ps rs os x=some (ok x,F x,o x):=by intro x;kernel_rfl):SpecOk Tryz.prog f (fnSpec ps rs os ok F o):=wS1 hc mixed hf hk hbs hL hsum
@[reducible] def kb {n:Nat}{s:Am.Spec}(h:SpecOk Tryz.prog n s):Fb Tryz.prog:=⟨n,s,h⟩
@[reducible] def li:=Li.mk
theorem fx (X:Ctx→Ctx){f:Nat}{fn:Func}(hf:Tryz.prog.funcs[f]?=some fn)(n:Nat)(cs:List (Fb Tryz.prog):=[])(ls:List (Nat×Li):=[])(gh:List (Nat×List (Nat×Nat×Nat×Nat)):=[])(w:Bool:=false)(kp wr:List Nat:=[]){ps:List (Nat×Sh)}{rs:Sh}{os:List (Nat×Sh)}{ok:zB4 ps→Prop}{F:zB4 ps→rs.den}{o:zB4 ps→yH2 os}(hX:(X (Cx tys (Fb.l cs) (Li.l ls) gh w n kp wr)).fns=Fb.l cs:=by rfl)(hk:xH7 fn (X (Cx tys (Fb.l cs) (Li.l ls) gh w n kp wr)) ps os=true:=by kernel_rfl)(hl:wI3 (X (Cx tys (Fb.l cs) (Li.l ls) gh w n kp wr)) (zP (fn.body.getD .skip)) ls=wI4 ls:=by kernel_rfl)(hsum:∀ x,wB (X (Cx tys (Fb.l cs) (Li.l ls) gh w n kp wr)) (fn.body.getD .skip) fn.results.toList ps rs os x=some (ok x,F x,o x):=by intro x;kernel_rfl)(hmp:(yL4 Tryz.prog (X (Cx tys (Fb.l cs) (Li.l ls) gh w n kp wr)).maps&&yW8 Tryz.prog (X (Cx tys (Fb.l cs) (Li.l ls) gh w n kp wr)).fts)=true:=by kernel_rfl)(he:(X (Cx tys (Fb.l cs) (Li.l ls) gh w n kp wr)).exts=[]:=by rfl)(ht:zM4 Tryz.prog (X (Cx tys (Fb.l cs) (Li.l ls) gh w n kp wr)).tys=true:=by exact vM2)(hn:Nat.ble (X (Cx tys (Fb.l cs) (Li.l ls) gh w n kp wr)).n vNo=true:=by kernel_rfl)(hcl:(X (Cx tys (Fb.l cs) (Li.l ls) gh w n kp wr)).clones=[]:=by rfl)(hbl:(X (Cx tys (Fb.l cs) (Li.l ls) gh w n kp wr)).blds=[]:=by rfl):SpecOk Tryz.prog f (fnSpec ps rs os ok F o):=wS2 (wI0 ht hmp (by rw[hX];exact Fb.all cs) he hn hcl hbl) mixed hf hk hl hsum
theorem fy (X:Ctx→Ctx){f:Nat}{fn:Func}(hf:Tryz.prog.funcs[f]?=some fn)(n:Nat)(cs:List (Fb Tryz.prog):=[])(ls:List (Nat×Li):=[])(gh:List (Nat×List (Nat×Nat×Nat×Nat)):=[])(w:Bool:=false)(kp wr:List Nat:=[]){ps:List (Nat×Sh)}{rs:Sh}{os:List (Nat×Sh)}{ok:zB4 ps→Prop}{F:zB4 ps→rs.den}{o:zB4 ps→yH2 os}(hX:(X (Cx tys (Fb.l cs) (Li.l ls) gh w n kp wr)).fns=Fb.l cs:=by rfl)(hk:xH7 fn (X (Cx tys (Fb.l cs) (Li.l ls) gh w n kp wr)) ps os=true:=by kernel_rfl)(hl:wI3 (X (Cx tys (Fb.l cs) (Li.l ls) gh w n kp wr)) (zP (fn.body.getD .skip)) ls=wI4 ls:=by kernel_rfl)(hsum:∀ x,wB (X (Cx tys (Fb.l cs) (Li.l ls) gh w n kp wr)) (fn.body.getD .skip) fn.results.toList ps rs os x=some (ok x,F x,o x):=by intro x;kernel_rfl)(hmp:(yL4 Tryz.prog (X (Cx tys (Fb.l cs) (Li.l ls) gh w n kp wr)).maps&&yW8 Tryz.prog (X (Cx tys (Fb.l cs) (Li.l ls) gh w n kp wr)).fts)=true:=by kernel_rfl)(he:(X (Cx tys (Fb.l cs) (Li.l ls) gh w n kp wr)).exts=[]:=by rfl)(ht:zM4 Tryz.prog (X (Cx tys (Fb.l cs) (Li.l ls) gh w n kp wr)).tys=true:=by exact vM2)(hn:Nat.ble (X (Cx tys (Fb.l cs) (Li.l ls) gh w n kp wr)).n vNo=true:=by kernel_rfl)(hcl:(X (Cx tys (Fb.l cs) (Li.l ls) gh w n kp wr)).clones=[]:=by rfl)(hbl:(X (Cx tys (Fb.l cs) (Li.l ls) gh w n kp wr)).blds=[(97,5,50,57)]:=by rfl):SpecOk Tryz.prog f (fnSpec ps rs os ok F o):=wS2 (wO2 ht hmp (by rw[hX];exact Fb.all cs) he hn uT7 hbl hcl) mixed hf hk hl hsum
theorem fb {f:Nat}{fn:Func}(hf:Tryz.prog.funcs[f]?=some fn)(n:Nat)(cs:List (Fb Tryz.prog):=[])(ls:List (Nat×Li):=[])(gh:List (Nat×List (Nat×Nat×Nat×Nat)):=[])(w:Bool:=false)(kp wr:List Nat:=[]){ps:List (Nat×Sh)}{rs:Sh}{os:List (Nat×Sh)}{ok:zB4 ps→Prop}{F:zB4 ps→rs.den}{o:zB4 ps→yH2 os}(hk:xH7 fn (Cx tys (Fb.l cs) (Li.l ls) gh w n kp wr) ps os=true:=by kernel_rfl)(hl:wI3 (Cx tys (Fb.l cs) (Li.l ls) gh w n kp wr) (zP (fn.body.getD .skip)) ls=wI4 ls:=by kernel_rfl)(hsum:∀ x,wB (Cx tys (Fb.l cs) (Li.l ls) gh w n kp wr) (fn.body.getD .skip) fn.results.toList ps rs os x=some (ok x,F x,o x):=by intro x;kernel_rfl)(hmp:(yL4 Tryz.prog (Cx tys (Fb.l cs) (Li.l ls) gh w n kp wr).maps&&yW8 Tryz.prog (Cx tys (Fb.l cs) (Li.l ls) gh w n kp wr).fts)=true:=by kernel_rfl)(he:(Cx tys (Fb.l cs) (Li.l ls) gh w n kp wr).exts=[]:=by rfl)(ht:zM4 Tryz.prog (Cx tys (Fb.l cs) (Li.l ls) gh w n kp wr).tys=true:=by exact vM2)(hn:Nat.ble (Cx tys (Fb.l cs) (Li.l ls) gh w n kp wr).n vNo=true:=by kernel_rfl)(hcl:(Cx tys (Fb.l cs) (Li.l ls) gh w n kp wr).clones=[]:=by rfl)(hbl:(Cx tys (Fb.l cs) (Li.l ls) gh w n kp wr).blds=[]:=by rfl):SpecOk Tryz.prog f (fnSpec ps rs os ok F o):=wS2 (wI0 ht hmp (Fb.all cs) he hn hcl hbl) mixed hf hk hl hsum
abbrev SK (n:Nat)(s:Am.Spec):Prop:=SpecOk Tryz.prog n s
@[reducible] def sp1 (A R:Sh) (ok:A.den→Prop) (f:A.den→R.den):Am.Spec:=fnSpec [(0,A)] R [] (fun x=>ok x.1) (fun x=>f x.1) (fun _=>())
@[reducible] def sp2 (A B R:Sh) (ok:A.den→B.den→Prop) (f:A.den→B.den→R.den):Am.Spec:=fnSpec [(0,A),(1,B)] R [] (fun x=>ok x.1 x.2.1) (fun x=>f x.1 x.2.1) (fun _=>())
@[reducible] def sp3 (A B C R:Sh) (ok:A.den→B.den→C.den→Prop) (f:A.den→B.den→C.den→R.den):Am.Spec:=fnSpec [(0,A),(1,B),(2,C)] R [] (fun x=>ok x.1 x.2.1 x.2.2.1) (fun x=>f x.1 x.2.1 x.2.2.1) (fun _=>())
@[reducible] def sp4 (A B C D R:Sh) (ok:A.den→B.den→C.den→D.den→Prop) (f:A.den→B.den→C.den→D.den→R.den):Am.Spec:=fnSpec [(0,A),(1,B),(2,C),(3,D)] R [] (fun x=>ok x.1 x.2.1 x.2.2.1 x.2.2.2.1) (fun x=>f x.1 x.2.1 x.2.2.1 x.2.2.2.1) (fun _=>())
def uP5 (p0:List UInt8)(p1:List UInt8):Prop×Bool:=
 let v9:=(decide ((len p0)≥(len p1)))
 let v13:=(len p1)
 ((v9=true→(0≤v13∧v13≤len p0)),(bif v9 then ((List.take (Int.toNat v13) p0)==p1) else false))
def vX0 p0 p1:=(uP5 p0 p1).1
def f114 p0 p1:=(uP5 p0 p1).2
instance (p0 p1):Decidable (vX0 p0 p1):=by unfold vX0 uP5;dsimp only;infer_instance
theorem uP6:SK 114 (sp2 vS vS vB vX0 f114):=fb Tryz.func114 18
def uP7 (p0:List UInt8)(p1:List UInt8):Prop×((List UInt8)×Bool×Unit):=
 let v9:=(!(f114 p0 p1))
 let v13:=(len p1)
 (((vX0 p0 p1)∧((!v9)=true→(0≤v13∧v13≤len p0))),((bif v9 then p0 else (List.drop (Int.toNat v13) p0)),(bif v9 then false else true),()))
def vX1 p0 p1:=(uP7 p0 p1).1
def f102 p0 p1:=(uP7 p0 p1).2
instance (p0 p1):Decidable (vX1 p0 p1):=by unfold vX1 uP7;dsimp only;infer_instance
theorem uP8:SK 102 (sp2 vS vS (.tup (.cons vS (.cons vB .nl))) vX1 f102):=fb Tryz.func102 15 [kb uP6]
def f87t (p0:List UInt8)(p1:List UInt8):Prop×((List UInt8)×Bool×Unit):=
 let v8:=(f102 p0 p1)
 ((vX1 p0 p1),(v8.1,v8.2.1,()))
def uG2 p0 p1:=(f87t p0 p1).1
def f87 p0 p1:=(f87t p0 p1).2
instance (p0 p1):Decidable (uG2 p0 p1):=by unfold uG2 f87t;dsimp only;infer_instance
theorem uO4:SK 87 (sp2 vS vS (.tup (.cons vS (.cons vB .nl))) uG2 f87):=fb Tryz.func87 11 [kb uP8]
def vX2 (p0:D60):Prop×Bool×(D60×Unit):=
 (True,(bif (bif (!false) then p0.1 else false) then (p0.2.2.2.1==0) else false),(p0,()))
def vC8 p0:=(vX2 p0).1
def vR2 p0:=(vX2 p0).2.1
def vL0 p0:=(vX2 p0).2.2
instance (p0):Decidable (vC8 p0):=by unfold vC8 vX2;dsimp only;infer_instance
theorem vJ2:SK 84 (fnSpec [(0,(.box T60 (.val T60)))] vB [(0,(.box T60 (.val T60)))] (fun x=>vC8 x.1) (fun x=>vR2 x.1) (fun x=>vL0 x.1)):=fb Tryz.func84 18 [] [] [] false [0]
abbrev vB4:Type:=(Unit)
abbrev wX6:Type:=(D60×Int×Int×Unit)
def vE7 (y:vB4)(x:wX6):Prop×Bool×wX6:=
 let a0:=x.1
 let a4:=x.2.2.1
 let v20:=(decide (a0.2.2.1≥(len a0.2.1)))
 let v32:=(wR1 a0.2.1 a0.2.2.1)
 let v46:=(bif (bif (a4==9) then (decide (v32>1)) else false) then true else (bif (decide (a4>0)) then (v32==0) else false))
 let v62:=(IntKind.wrap .i64 (7*a4))
 (((!v20)=true→(InB a0.2.2.1 (len a0.2.1)∧((!v46)=true→0≤v62))),((!v20)&&((!v46)&&(!(decide (v32<128))))),((a0.1,a0.2.1,(IntKind.wrap .i64 (a0.2.2.1+1)),a0.2.2.2.1,()),(ior .u64 x.2.1 (IntKind.wrap .u64 (wS5 (IntKind.wrap .u64 (wS4 .u8 v32 (127:Int))) v62 64))),(IntKind.wrap .i64 (a4+1)),()))
def vA0 y x:=(vE7 y x).1
def wX7 y x:=(vE7 y x).2.1
def wX3 y x:=(vE7 y x).2.2
instance (y x):Decidable (vA0 y x):=by unfold vA0 vE7;dsimp only;infer_instance
def vC3 (y:vB4)(x:wX6):D60:=
 let a0:=x.1
 let a4:=x.2.2.1
 let v32:=(wR1 a0.2.1 a0.2.2.1)
 let m0:=(bif (bif (bif (a4==9) then (decide (v32>1)) else false) then true else (bif (decide (a4>0)) then (v32==0) else false)) then (a0.1,a0.2.1,a0.2.2.1,(4:Int),()) else (a0.1,a0.2.1,(IntKind.wrap .i64 (a0.2.2.1+1)),a0.2.2.2.1,()))
 (bif (decide (a0.2.2.1≥(len a0.2.1))) then (a0.1,a0.2.1,a0.2.2.1,(5:Int),()) else m0)
def vC4 (y:vB4)(x:wX6):Int:=
 let a0:=x.1
 let a4:=x.2.2.1
 let v32:=(wR1 a0.2.1 a0.2.2.1)
 let m2:=(bif (bif (bif (a4==9) then (decide (v32>1)) else false) then true else (bif (decide (a4>0)) then (v32==0) else false)) then (0:Int) else (ior .u64 x.2.1 (IntKind.wrap .u64 (wS5 (IntKind.wrap .u64 (wS4 .u8 v32 (127:Int))) (IntKind.wrap .i64 (7*a4)) 64))))
 (bif (decide (a0.2.2.1≥(len a0.2.1))) then (0:Int) else m2)
def vR3:List (Nat×Sh):=[(0,(.box T60 (.val T60))),(2,(.val (.int .u64)))]
def vZ1:=li [] [(0,(.box T60 (.val T60))),(3,(.val (.int .u64))),(4,vI)] wX7 wX3 vA0 (fun y x=>[ex 1 none vR3 ((vC3 y x),(vC4 y x),())]) [vR3]
def vQ0 (p0:D60):Prop×Int×(D60×Unit):=
 let v7o:=(vL0 p0)
 let v8:=(!(vR2 p0))
 let x6:=(v7o.1,(0:Int),(0:Int),())
 let e6:=(zC4 (wX7 ()) (wX3 ()) x6)
 (((vC8 p0)∧((!v8)=true→(xQ1 (wX7 ()) (wX3 ()) (vA0 ()) x6))),(bif v8 then (0:Int) else (vC4 () e6)),((bif v8 then v7o.1 else (vC3 () e6)),()))
def vG5 p0:=(vQ0 p0).1
def vM3 p0:=(vQ0 p0).2.1
def vH7 p0:=(vQ0 p0).2.2
instance (p0):Decidable (vG5 p0):=by unfold vG5 vQ0;dsimp only;infer_instance
theorem uG3:SK 83 (fnSpec [(0,(.box T60 (.val T60)))] (.val (.int .u64)) [(0,(.box T60 (.val T60)))] (fun x=>vG5 x.1) (fun x=>vM3 x.1) (fun x=>vH7 x.1)):=fb Tryz.func83 68 [kb vJ2] [(6,vZ1)] [] true [0]
def vT (p0:D60)(p1:Int):Prop×Int×(D60×Unit):=
 let v7:=(vM3 p0)
 let v7o:=(vH7 p0)
 let v9o:=(vL0 v7o.1)
 let v10:=(!(vR2 v7o.1))
 let v15:=(decide (v7>(IntKind.wrap .u64 (wP9 p1 (0:Int)))))
 (((vG5 p0)∧(vC8 v7o.1)),(bif v10 then (0:Int) else (bif v15 then (0:Int) else (IntKind.wrap .i64 v7))),((bif v10 then v9o.1 else (bif v15 then (v9o.1.1,v9o.1.2.1,v9o.1.2.2.1,(3:Int),()) else v9o.1)),()))
def wU1 p0 p1:=(vT p0 p1).1
def wS8 p0 p1:=(vT p0 p1).2.1
def wS7 p0 p1:=(vT p0 p1).2.2
instance (p0 p1):Decidable (wU1 p0 p1):=by unfold wU1 vT;dsimp only;infer_instance
theorem vJ3:SK 36 (fnSpec [(0,(.box T60 (.val T60))),(1,vI)] vI [(0,(.box T60 (.val T60)))] (fun x=>wU1 x.1 x.2.1) (fun x=>wS8 x.1 x.2.1) (fun x=>wS7 x.1 x.2.1)):=fb Tryz.func36 21 [kb uG3,kb vJ2] [] [] true [0]
def vT0 (p0:D60):Prop×Int×(D60×Unit):=
 let v4o:=(vL0 p0)
 let v5:=(!(vR2 p0))
 ((vC8 p0),(bif v5 then (0:Int) else (IntKind.wrap .i64 ((len v4o.1.2.1)-v4o.1.2.2.1))),((bif v5 then v4o.1 else v4o.1),()))
def vF0 p0:=(vT0 p0).1
def vN6 p0:=(vT0 p0).2.1
def vL1 p0:=(vT0 p0).2.2
instance (p0):Decidable (vF0 p0):=by unfold vF0 vT0;dsimp only;infer_instance
theorem vN7:SK 45 (fnSpec [(0,(.box T60 (.val T60)))] vI [(0,(.box T60 (.val T60)))] (fun x=>vF0 x.1) (fun x=>vN6 x.1) (fun x=>vL1 x.1)):=fb Tryz.func45 16 [kb vJ2] [] [] true [0]
def vX3 (p0:D60)(p1:Int):Prop×(List UInt8)×(D60×Unit):=
 let v9:=(wS8 p0 p1)
 let v9o:=(wS7 p0 p1)
 let v11o:=(vL0 v9o.1)
 let v12:=(!(vR2 v9o.1))
 let v15o:=(vL1 v11o.1)
 let v16:=(decide (v9>(vN6 v11o.1)))
 let v33:=(IntKind.wrap .i64 (v15o.1.2.2.1+v9))
 (((wU1 p0 p1)∧((vC8 v9o.1)∧((!v12)=true→((vF0 v11o.1)∧((!v16)=true→(0≤v15o.1.2.2.1∧v15o.1.2.2.1≤v33∧v33≤len v15o.1.2.1)))))),(bif v12 then ([]:List UInt8) else (bif v16 then ([]:List UInt8) else (List.drop (Int.toNat v15o.1.2.2.1) (List.take (Int.toNat v33) v15o.1.2.1)))),((bif v12 then v11o.1 else (bif v16 then (v15o.1.1,v15o.1.2.1,v15o.1.2.2.1,(5:Int),()) else (v15o.1.1,v15o.1.2.1,(IntKind.wrap .i64 (v15o.1.2.2.1+v9)),v15o.1.2.2.2.1,()))),()))
def vT1 p0 p1:=(vX3 p0 p1).1
def uT8 p0 p1:=(vX3 p0 p1).2.1
def uL6 p0 p1:=(vX3 p0 p1).2.2
instance (p0 p1):Decidable (vT1 p0 p1):=by unfold vT1 vX3;dsimp only;infer_instance
theorem uG4:SK 64 (fnSpec [(0,(.box T60 (.val T60))),(1,vI)] vS [(0,(.box T60 (.val T60)))] (fun x=>vT1 x.1 x.2.1) (fun x=>uT8 x.1 x.2.1) (fun x=>uL6 x.1 x.2.1)):=fb Tryz.func64 44 [kb vJ3,kb vN7,kb vJ2] [] [] true [0]
def f77t (p0:Int)(p1:Int):Prop×Bool:=
 (True,(bif (bif (bif (bif (decide (p0≥0)) then (decide (p0≤256)) else false) then (decide (p1≥0)) else false) then (decide (p1≤256)) else false) then (Ty.eqb .bool (p0==0) (p1==0)) else false))
def uD9 p0 p1:=(f77t p0 p1).1
def f77 p0 p1:=(f77t p0 p1).2
instance (p0 p1):Decidable (uD9 p0 p1):=by unfold uD9 f77t;dsimp only;infer_instance
theorem uT9:SK 77 (sp2 vI vI vB uD9 f77):=fb Tryz.func77 26
def uP9 (p0:Int)(p1:Int)(p2:Int):Prop×Int:=
 (True,(wQ p2 (wP9 p0 p1)))
def vX4 p0 p1 p2:=(uP9 p0 p1 p2).1
def f127 p0 p1 p2:=(uP9 p0 p1 p2).2
instance (p0 p1 p2):Decidable (vX4 p0 p1 p2):=by unfold vX4 uP9;dsimp only;infer_instance
theorem uQ:SK 127 (sp3 vI vI vI vI vX4 f127):=fb Tryz.func127 12
def uQ0 (p0:Int):Prop×Int:=
 ((vX4 p0 (0:Int) (65535:Int)),(f127 p0 (0:Int) (65535:Int)))
def vN2 p0:=(uQ0 p0).1
def f112 p0:=(uQ0 p0).2
instance (p0):Decidable (vN2 p0):=by unfold vN2 uQ0;dsimp only;infer_instance
theorem uQ1:SK 112 (sp1 vI vI vN2 f112):=fb Tryz.func112 5 [kb uQ]
def uQ2 (p0:D45):Prop×D45:=
 (((vN2 p0.1)∧((vN2 p0.2.1)∧((vN2 p0.2.2.1)∧(vN2 p0.2.2.2.1)))),((f112 p0.1),(f112 p0.2.1),(f112 p0.2.2.1),(f112 p0.2.2.2.1),()))
def vX5 p0:=(uQ2 p0).1
def f100 p0:=(uQ2 p0).2
instance (p0):Decidable (vX5 p0):=by unfold vX5 uQ2;dsimp only;infer_instance
theorem uQ3:SK 100 (sp1 (.val T45) (.val T45) vX5 f100):=fb Tryz.func100 16 [kb uQ1]
def f78t (p0:D45):Prop×Bool:=
 ((vX5 p0),(Ty.eqb T45 p0 (f100 p0)))
def vZ2 p0:=(f78t p0).1
def f78 p0:=(f78t p0).2
instance (p0):Decidable (vZ2 p0):=by unfold vZ2 f78t;dsimp only;infer_instance
theorem uU:SK 78 (sp1 (.val T45) vB vZ2 f78):=fb Tryz.func78 7 [kb uQ3]
abbrev vH8:Type:=((List D45)×Int×Unit)
abbrev vE1:Type:=(Int×Unit)
def vQ1 (y:vH8)(x:vE1):Prop×Bool×vE1×Bool×Bool:=
 let a23:=y.1
 let a25:=x.1
 let v26:=(decide (a25<y.2.1))
 let v27:=(nth a23 a25 Z45)
 let v31:=(!(f78 v27))
 ((v26=true→(InB a25 (len a23)∧((vZ2 v27)∧((!v31)=true→InR (a25+1))))),(v26&&(!v31)),((a25+1),()),(v26&&v31),(!v26))
def vG6 y x:=(vQ1 y x).1
def vN8 y x:=(vQ1 y x).2.1
def vF1 y x:=(vQ1 y x).2.2.1
def vZ3 y x:=(vQ1 y x).2.2.2.1
def uG5 y x:=(vQ1 y x).2.2.2.2
instance (y x):Decidable (vG6 y x):=by unfold vG6 vQ1;dsimp only;infer_instance
def vT2 (y:vH8)(x:vE1):Int:=
 (2:Int)
def uG6:=li [(23,(.val (.sl T45))),(24,vI)] [(25,vI)] vN8 vF1 vG6 (fun y x=>[ex 1 (some (vZ3 y x)) [(2,vI)] ((vT2 y x),()),ex 2 (some (uG5 y x)) [] ()]) [[(2,vI)],[]]
def f25t (p0:D23):Prop×Int:=
 let v10:=(!(f77 p0.1 p0.2.1))
 let v21:=(bif v10 then true else ((len p0.2.2.1)!=(p0.1*p0.2.1)))
 let y4:=(p0.2.2.1,(len p0.2.2.1),())
 let x4:=((0:Int),())
 let e4:=(zC4 (vN8 y4) (vF1 y4) x4)
 (((uD9 p0.1 p0.2.1)∧(((!v10)=true→InR (p0.1*p0.2.1))∧((!v21)=true→(xQ1 (vN8 y4) (vF1 y4) (vG6 y4) x4)))),(bif v21 then (15:Int) else (bif (vZ3 y4 e4) then (vT2 y4 e4) else (0:Int))))
def vZ4 p0:=(f25t p0).1
def f25 p0:=(f25t p0).2
instance (p0):Decidable (vZ4 p0):=by unfold vZ4 f25t;dsimp only;infer_instance
theorem uU0:SK 25 (sp1 (.val T23) vI vZ4 f25):=fb Tryz.func25 33 [kb uT9,kb uU] [(4,uG6)]
abbrev vB5:Type:=(Unit)
abbrev wX8:Type:=((List Int)×Int×Unit)
def vL2 (y:vB5)(x:wX8):Prop×Bool×wX8:=
 let a0:=x.1
 let a1:=x.2.1
 let v6:=(decide (a1≥128))
 let v11:=([(ior .u8 (IntKind.wrap .u8 a1) (128:Int))]:List Int)
 ((v6=true→((List.length a0+List.length v11:Nat):Int)≤4294967296),v6,((a0++v11),(wS6 a1 (7:Int) 64),()))
def vC9 y x:=(vL2 y x).1
def wV4 y x:=(vL2 y x).2.1
def wU2 y x:=(vL2 y x).2.2
instance (y x):Decidable (vC9 y x):=by unfold vC9 vL2;dsimp only;infer_instance
def vM4 (y:vB5)(x:wX8):(List Int):=
 x.1
def vM5 (y:vB5)(x:wX8):Int:=
 x.2.1
def vR4:List (Nat×Sh):=[(0,(.own (.int .u8) 400000 false)),(1,(.val (.int .u64)))]
def vZ5:=li [] [(0,(.own (.int .u8) 400000 false)),(1,(.val (.int .u64)))] wV4 wU2 vC9 (fun y x=>[ex 2 none vR4 ((vM4 y x),(vM5 y x),())]) [vR4]
def uD (p0:List Int)(p1:Int):Prop×(List Int):=
 let x1:=(p0,p1,())
 let e1:=(zC4 (wV4 ()) (wU2 ()) x1)
 let r1_2_0:=(vM4 () e1)
 let v18:=([(IntKind.wrap .u8 (vM5 () e1))]:List Int)
 (((xQ1 (wV4 ()) (wU2 ()) (vC9 ()) x1)∧((List.length r1_2_0+List.length v18:Nat):Int)≤4294967296),(r1_2_0++v18))
def vN9 p0 p1:=(uD p0 p1).1
def uO5 p0 p1:=(uD p0 p1).2
instance (p0 p1):Decidable (vN9 p0 p1):=by unfold vN9 uD;dsimp only;infer_instance
theorem uG7:SK 94 (sp2 (.own (.int .u8) 400000 false) (.val (.int .u64)) (.own (.int .u8) 0 false) vN9 uO5):=fb Tryz.func94 20 [] [(1,vZ5)] [(5,[(4,0,12,400000)]),(9,[(4,0,19,0)])] true
def f93t (p0:Int):Prop×(List UInt8):=
 ((vN9 ([]:List Int) p0),(xC2 (uO5 ([]:List Int) p0)))
def vZ6 p0:=(f93t p0).1
def f93 p0:=(f93t p0).2
instance (p0):Decidable (vZ6 p0):=by unfold vZ6 f93t;dsimp only;infer_instance
theorem uU1:SK 93 (sp1 (.val (.int .u64)) vS vZ6 f93):=fb Tryz.func93 6 [kb uG7]
def f56t (p0:Int):Prop×(List UInt8):=
 let v4:=(IntKind.wrap .u64 p0)
 ((vZ6 v4),(f93 v4))
def vG0 p0:=(f56t p0).1
def f56 p0:=(f56t p0).2
instance (p0):Decidable (vG0 p0):=by unfold vG0 f56t;dsimp only;infer_instance
theorem uO6:SK 56 (sp1 vI vS vG0 f56):=fb Tryz.func56 6 [kb uU1]
def f27t (p0:D45):Prop×(List Int):=
 (True,([p0.1,p0.2.1,p0.2.2.1,p0.2.2.2.1]:List Int))
def vZ7 p0:=(f27t p0).1
def f27 p0:=(f27t p0).2
instance (p0):Decidable (vZ7 p0):=by unfold vZ7 f27t;dsimp only;infer_instance
theorem uU2:SK 27 (sp1 (.val T45) (.own (.int .i64) 0 false) vZ7 f27):=fb Tryz.func27 12 [] [] [(3,[(4,0,11,0)])]
abbrev vF2:Type:=((List D45)×(Unit)×(List UInt8)×Int×Unit)
abbrev wZ4:Type:=(Int×Unit)
def vL3 (y:vF2)(x:wZ4):Prop×Bool×wZ4:=
 let a2:=y.1
 let a10:=y.2.2.2.1
 let a11:=x.1
 let v29:=(decide (a11<(len a2)))
 let v40:=(bif v29 then (Ty.eqb T45 (nth a2 a11 Z45) (nth a2 a10 Z45)) else false)
 (((v29=true→InB a11 (len a2))∧((v29=true→InB a10 (len a2))∧(v40=true→InR (a11+1)))),v40,((a11+1),()))
def vD y x:=(vL3 y x).1
def wT5 y x:=(vL3 y x).2.1
def wT1 y x:=(vL3 y x).2.2
instance (y x):Decidable (vD y x):=by unfold vD vL3;dsimp only;infer_instance
def vM6 (y:vF2)(x:wZ4):Int:=
 x.1
def vR5:List (Nat×Sh):=[(2,(.val (.sl T45))),(3,(.fn 27 .nl)),(9,(.bld 97 5 9)),(10,vI),(11,vI)]
def vZ8:=li [(2,(.val (.sl T45))),(3,(.fn 27 .nl)),(9,(.bld 97 5 9)),(10,vI)] [(11,vI)] wT5 wT1 vD (fun y x=>[ex 4 none vR5 (y.1,y.2.1,y.2.2.1,y.2.2.2.1,(vM6 y x),())]) [vR5]
abbrev vD0:Type:=((List D45)×(Unit)×Int×(List Int)×Int×Unit)
abbrev wX9:Type:=((List UInt8)×Int×Unit)
def vH9 (y:vD0)(x:wX9):Prop×Bool×wX9:=
 let a54:=y.2.2.2.1
 let a9:=x.1
 let a56:=x.2.1
 let v57:=(decide (a56<y.2.2.2.2.1))
 let v58:=(nth a54 a56 (0:Int))
 let v61:=(f56 v58)
 ((v57=true→(InB a56 (len a54)∧((vG0 v58)∧(((List.length a9+List.length v61:Nat):Int)≤4294967296∧InR (a56+1))))),v57,((a9++v61),(a56+1),()))
def wW9 y x:=(vH9 y x).1
def wY y x:=(vH9 y x).2.1
def wU5 y x:=(vH9 y x).2.2
instance (y x):Decidable (wW9 y x):=by unfold wW9 vH9;dsimp only;infer_instance
def vJ4 (y:vD0)(x:wX9):(List UInt8):=
 x.1
def vO:List (Nat×Sh):=[(2,(.val (.sl T45))),(3,(.fn 27 .nl)),(9,(.bld 97 5 9)),(11,vI)]
def vX6:=li [(2,(.val (.sl T45))),(3,(.fn 27 .nl)),(11,vI),(54,(.own (.int .i64) 54 false)),(55,vI)] [(9,(.bld 97 5 9)),(56,vI)] wY wU5 wW9 (fun y x=>[ex 6 none vO (y.1,y.2.1,(vJ4 y x),y.2.2.1,())]) [vO]
abbrev vF3:Type:=((List D45)×(Unit)×Unit)
abbrev wZ5:Type:=((List UInt8)×Int×Unit)
def vL4 (y:vF3)(x:wZ5):Prop×Bool×wZ5:=
 let a2:=y.1
 let a9:=x.1
 let a10:=x.2.1
 let v23:=(decide (a10<(len a2)))
 let y7:=(a2,(),a9,a10,())
 let x7:=((a10+1),())
 let r7_4_0:=(vM6 y7 (zC4 (wT5 y7) (wT1 y7) x7))
 let v45:=(r7_4_0-a10)
 let v46:=(v45-1)
 let v47:=(f56 v46)
 let v52:=(nth a2 a10 Z45)
 let v54:=(f27 v52)
 let y11:=(a2,(),r7_4_0,v54,(len v54),())
 let x11:=((a9++v47),(0:Int),())
 ((v23=true→(InR (a10+1)∧((xQ1 (wT5 y7) (wT1 y7) (vD y7) x7)∧(InR (r7_4_0-a10)∧(InR (v45-1)∧((vG0 v46)∧(((List.length a9+List.length v47:Nat):Int)≤4294967296∧(InB a10 (len a2)∧((vZ7 v52)∧(xQ1 (wY y11) (wU5 y11) (wW9 y11) x11)))))))))),v23,((vJ4 y11 (zC4 (wY y11) (wU5 y11) x11)),r7_4_0,()))
def wY0 y x:=(vL4 y x).1
def wV5 y x:=(vL4 y x).2.1
def wV6 y x:=(vL4 y x).2.2
instance (y x):Decidable (wY0 y x):=by unfold wY0 vL4;dsimp only;infer_instance
def vM7 (y:vF3)(x:wZ5):(List UInt8):=
 x.1
def vZ9:=li [(2,(.val (.sl T45))),(3,(.fn 27 .nl))] [(9,(.bld 97 5 9)),(10,vI)] wV5 wV6 wY0 (fun y x=>[ex 2 none [(9,(.bld 97 5 9))] ((vM7 y x),())]) [[(9,(.bld 97 5 9))]]
def uD0 (p0:Int)(p1:Int)(p2:List D45)(p3:(Unit)):Prop×(List UInt8):=
 let v15:=(f56 p0)
 let b9:=(([]:List UInt8)++v15)
 let v18:=(f56 p1)
 let y5:=(p2,(),())
 let x5:=((b9++v18),(0:Int),())
 (((vG0 p0)∧(((List.length ([]:List UInt8)+List.length v15:Nat):Int)≤4294967296∧((vG0 p1)∧(((List.length b9+List.length v18:Nat):Int)≤4294967296∧(xQ1 (wV5 y5) (wV6 y5) (wY0 y5) x5))))),(vM7 y5 (zC4 (wV5 y5) (wV6 y5) x5)))
def vG7 p0 p1 p2 p3:=(uD0 p0 p1 p2 p3).1
def uE p0 p1 p2 p3:=(uD0 p0 p1 p2 p3).2
instance (p0 p1 p2 p3):Decidable (vG7 p0 p1 p2 p3):=by unfold vG7 uD0;dsimp only;infer_instance
theorem uG8:SK 26 (sp4 vI vI (.val (.sl T45)) (.fn 27 .nl) vS vG7 uE):=fy (fun c=>{ c with blds:=[(97,5,50,57)] }) Tryz.func26 66 [kb uU2,kb uO6] [(5,vZ9),(7,vZ8),(11,vX6)]
def f6t (p0:D23):Prop×(List UInt8):=
 let m1:=(bif ((f25 p0)!=0) then ((0:Int),(0:Int),([]:List D45),()) else p0)
 (((vZ4 p0)∧(vG7 m1.1 m1.2.1 m1.2.2.1 ())),(uE m1.1 m1.2.1 m1.2.2.1 ()))
def uF3 p0:=(f6t p0).1
def f6 p0:=(f6t p0).2
instance (p0):Decidable (uF3 p0):=by unfold uF3 f6t;dsimp only;infer_instance
def uQ4:=sp1 (.val T23) vS uF3 f6
theorem uU3:SK 6 (sp1 (.val T23) vS uF3 f6):=fb Tryz.func6 14 [kb uU0,kb uG8]
def uQ5 (p0:Int)(p1:Int)(p2:Int):Prop×Int:=
 (True,(wQ p2 (wP9 p0 p1)))
def vX7 p0 p1 p2:=(uQ5 p0 p1 p2).1
def f128 p0 p1 p2:=(uQ5 p0 p1 p2).2
instance (p0 p1 p2):Decidable (vX7 p0 p1 p2):=by unfold vX7 uQ5;dsimp only;infer_instance
theorem uQ6:SK 128 (sp3 vI vI vI vI vX7 f128):=fb Tryz.func128 12
def uQ7 (p0:Int):Prop×Int:=
 ((vX7 p0 (0:Int) (65535:Int)),(f128 p0 (0:Int) (65535:Int)))
def vN3 p0:=(uQ7 p0).1
def f113 p0:=(uQ7 p0).2
instance (p0):Decidable (vN3 p0):=by unfold vN3 uQ7;dsimp only;infer_instance
theorem uQ8:SK 113 (sp1 vI vI vN3 f113):=fb Tryz.func113 5 [kb uQ6]
def uQ9 (p0:D45):Prop×D45:=
 (((vN3 p0.1)∧((vN3 p0.2.1)∧((vN3 p0.2.2.1)∧(vN3 p0.2.2.2.1)))),((f113 p0.1),(f113 p0.2.1),(f113 p0.2.2.1),(f113 p0.2.2.2.1),()))
def vX8 p0:=(uQ9 p0).1
def f101 p0:=(uQ9 p0).2
instance (p0):Decidable (vX8 p0):=by unfold vX8 uQ9;dsimp only;infer_instance
theorem uR:SK 101 (sp1 (.val T45) (.val T45) vX8 f101):=fb Tryz.func101 16 [kb uQ8]
def f79t (p0:D45):Prop×Bool:=
 ((vX8 p0),(Ty.eqb T45 (f101 p0) p0))
def uA p0:=(f79t p0).1
def f79 p0:=(f79t p0).2
instance (p0):Decidable (uA p0):=by unfold uA f79t;dsimp only;infer_instance
theorem uU4:SK 79 (sp1 (.val T45) vB uA f79):=fb Tryz.func79 7 [kb uR]
abbrev vI0:Type:=(D23×Unit)
abbrev vE2:Type:=(Int×Unit)
def vQ2 (y:vI0)(x:vE2):Prop×Bool×vE2×Bool×Bool:=
 let a1:=y.1
 let a3:=x.1
 let v44:=(decide (a3<(len a1.2.2.1)))
 let v50:=(nth a1.2.2.1 a3 Z45)
 let v53:=(!(f79 v50))
 ((v44=true→(InB a3 (len a1.2.2.1)∧((uA v50)∧((!v53)=true→InR (a3+1))))),(v44&&(!v53)),((a3+1),()),(v44&&v53),(!v44))
def vG8 y x:=(vQ2 y x).1
def vO0 y x:=(vQ2 y x).2.1
def vF4 y x:=(vQ2 y x).2.2.1
def uA0 y x:=(vQ2 y x).2.2.2.1
def uG9 y x:=(vQ2 y x).2.2.2.2
instance (y x):Decidable (vG8 y x):=by unfold vG8 vQ2;dsimp only;infer_instance
def vT3 (y:vI0)(x:vE2):Int:=
 (2:Int)
def uH:=li [(1,(.box T23 (.val T23)))] [(3,vI)] vO0 vF4 vG8 (fun y x=>[ex 1 (some (uA0 y x)) [(2,vI)] ((vT3 y x),()),ex 2 (some (uG9 y x)) [] ()]) [[(2,vI)],[]]
def f28t (p0:D23):Prop×Int:=
 let v21:=(bif (bif (bif (decide (p0.1<0)) then true else (decide (p0.1>256))) then true else (decide (p0.2.1<0))) then true else (decide (p0.2.1>256)))
 let v28:=(!(Ty.eqb .bool (p0.1==0) (p0.2.1==0)))
 let v39:=(bif v28 then true else ((len p0.2.2.1)!=(p0.1*p0.2.1)))
 let y6:=(p0,())
 let x6:=((0:Int),())
 let e6:=(zC4 (vO0 y6) (vF4 y6) x6)
 (((!v21)=true→(((!v28)=true→InR (p0.1*p0.2.1))∧((!v39)=true→(xQ1 (vO0 y6) (vF4 y6) (vG8 y6) x6)))),(bif v21 then (15:Int) else (bif v39 then (15:Int) else (bif (uA0 y6 e6) then (vT3 y6 e6) else (0:Int)))))
def uA1 p0:=(f28t p0).1
def f28 p0:=(f28t p0).2
instance (p0):Decidable (uA1 p0):=by unfold uA1 f28t;dsimp only;infer_instance
theorem uU5:SK 28 (sp1 (.val T23) vI uA1 f28):=fb Tryz.func28 54 [kb uU4] [(6,uH)]
abbrev vL5:Type:=(Unit)
abbrev vG1:Type:=(Int×(List UInt8)×Unit)
def vX9 (y:vL5)(x:vG1):Prop×Bool×vG1:=
 let a0:=x.1
 let a3:=x.2.1
 let v5:=(decide (a0≥128))
 let v12:=(xC2 ([(IntKind.wrap .u8 (ior .u64 (wS4 .u64 a0 (127:Int)) (128:Int)))]:List Int))
 ((v5=true→((List.length a3+List.length v12:Nat):Int)≤9223372036854775807),v5,((wS6 a0 (7:Int) 64),(a3++v12),()))
def vJ5 y x:=(vX9 y x).1
def vC5 y x:=(vX9 y x).2.1
def wY1 y x:=(vX9 y x).2.2
instance (y x):Decidable (vJ5 y x):=by unfold vJ5 vX9;dsimp only;infer_instance
def vT4 (y:vL5)(x:vG1):Int:=
 x.1
def vT5 (y:vL5)(x:vG1):(List UInt8):=
 x.2.1
def uA2:List (Nat×Sh):=[(0,(.val (.int .u64))),(3,vS)]
def uH0:=li [] [(0,(.val (.int .u64))),(3,vS)] vC5 wY1 vJ5 (fun y x=>[ex 2 none uA2 ((vT4 y x),(vT5 y x),())]) [uA2]
def f80t (p0:Int):Prop×(List UInt8):=
 let x2:=(p0,([]:List UInt8),())
 let e2:=(zC4 (vC5 ()) (wY1 ()) x2)
 let r2_2_1:=(vT5 () e2)
 let v20:=(xC2 ([(IntKind.wrap .u8 (vT4 () e2))]:List Int))
 (((xQ1 (vC5 ()) (wY1 ()) (vJ5 ()) x2)∧((List.length r2_2_1+List.length v20:Nat):Int)≤9223372036854775807),(r2_2_1++v20))
def uA3 p0:=(f80t p0).1
def f80 p0:=(f80t p0).2
instance (p0):Decidable (uA3 p0):=by unfold uA3 f80t;dsimp only;infer_instance
theorem uU6:SK 80 (sp1 (.val (.int .u64)) vS uA3 f80):=fb Tryz.func80 22 [] [(2,uH0)] [] true
def f29t (p0:Int):Prop×(List UInt8):=
 let v4:=(IntKind.wrap .u64 p0)
 ((uA3 v4),(f80 v4))
def vA6 p0:=(f29t p0).1
def f29 p0:=(f29t p0).2
instance (p0):Decidable (vA6 p0):=by unfold vA6 f29t;dsimp only;infer_instance
theorem uO7:SK 29 (sp1 vI vS vA6 f29):=fb Tryz.func29 6 [kb uU6]
abbrev vT6:Type:=(D23×Unit)
abbrev vN4:Type:=((List UInt8)×Int×Int×Unit)
def uE0 (y:vT6)(x:vN4):Prop×Bool×vN4:=
 let a1:=y.1
 let a3:=x.1
 let a4:=x.2.1
 let a5:=x.2.2.1
 let v22:=(decide (a5<(len a1.2.2.1)))
 let v28:=(nth a1.2.2.1 a5 Z45)
 let v35:=((a5+1)==(len a1.2.2.1))
 let v40:=(a5+1)
 let v45:=(bif v35 then true else (!(Ty.eqb T45 (nth a1.2.2.1 v40 Z45) v28)))
 let v49:=(a5-a4)
 let v50:=(f29 v49)
 let v51:=(a3++v50)
 let v54:=(f29 v28.1)
 let v55:=(v51++v54)
 let v58:=(f29 v28.2.1)
 let v59:=(v55++v58)
 let v62:=(f29 v28.2.2.1)
 let v63:=(v59++v62)
 let v66:=(f29 v28.2.2.2.1)
 ((v22=true→(InB a5 (len a1.2.2.1)∧(InR (a5+1)∧(((!v35)=true→InR (a5+1))∧(((!v35)=true→InB v40 (len a1.2.2.1))∧((v45=true→(InR (a5-a4)∧((vA6 v49)∧(((List.length a3+List.length v50:Nat):Int)≤9223372036854775807∧((vA6 v28.1)∧(((List.length v51+List.length v54:Nat):Int)≤9223372036854775807∧((vA6 v28.2.1)∧(((List.length v55+List.length v58:Nat):Int)≤9223372036854775807∧((vA6 v28.2.2.1)∧(((List.length v59+List.length v62:Nat):Int)≤9223372036854775807∧((vA6 v28.2.2.2.1)∧(((List.length v63+List.length v66:Nat):Int)≤9223372036854775807∧InR (a5+1)))))))))))))∧InR (a5+1))))))),v22,((bif v45 then (v63++v66) else a3),(bif v45 then (a5+1) else a4),(a5+1),()))
def vG2 y x:=(uE0 y x).1
def vJ6 y x:=(uE0 y x).2.1
def vA1 y x:=(uE0 y x).2.2
instance (y x):Decidable (vG2 y x):=by unfold vG2 uE0;dsimp only;infer_instance
def vW0 (y:vT6)(x:vN4):(List UInt8):=
 x.1
def uL7:=li [(1,(.box T23 (.val T23)))] [(3,vS),(4,vI),(5,vI)] vJ6 vA1 vG2 (fun y x=>[ex 2 none [(3,vS)] ((vW0 y x),())]) [[(3,vS)]]
def f7t (p0:D23):Prop×(List UInt8):=
 let m1:=(bif ((f28 p0)!=0) then ((0:Int),(0:Int),([]:List D45),()) else p0)
 let v13:=(f29 m1.1)
 let v16:=(f29 m1.2.1)
 let y6:=(m1,())
 let x6:=((v13++v16),(0:Int),(0:Int),())
 (((uA1 p0)∧((vA6 m1.1)∧((vA6 m1.2.1)∧(((List.length v13+List.length v16:Nat):Int)≤9223372036854775807∧(xQ1 (vJ6 y6) (vA1 y6) (vG2 y6) x6))))),(vW0 y6 (zC4 (vJ6 y6) (vA1 y6) x6)))
def uF4 p0:=(f7t p0).1
def f7 p0:=(f7t p0).2
instance (p0):Decidable (uF4 p0):=by unfold uF4 f7t;dsimp only;infer_instance
def uR0:=sp1 (.val T23) vS uF4 f7
theorem uW7:SK 7 (sp1 (.val T23) vS uF4 f7):=fb Tryz.func7 71 [kb uU5,kb uO7] [(6,uL7)]
def f81t (p0:Int):Prop×Bool:=
 (True,(bif (decide (p0≥0)) then (decide (p0≤65535)) else false))
def uE1 p0:=(f81t p0).1
def f81 p0:=(f81t p0).2
instance (p0):Decidable (uE1 p0):=by unfold uE1 f81t;dsimp only;infer_instance
theorem uU7:SK 81 (sp1 vI vB uE1 f81):=fb Tryz.func81 9
abbrev vI1:Type:=((List Int)×Int×Unit)
abbrev vE3:Type:=(Int×Unit)
def vQ3 (y:vI1)(x:vE3):Prop×Bool×vE3×Bool×Bool:=
 let a42:=y.1
 let a44:=x.1
 let v45:=(decide (a44<y.2.1))
 let v46:=(nth a42 a44 (0:Int))
 let v50:=(!(f81 v46))
 ((v45=true→(InB a44 (len a42)∧((uE1 v46)∧((!v50)=true→InR (a44+1))))),(v45&&(!v50)),((a44+1),()),(v45&&v50),(!v45))
def vG9 y x:=(vQ3 y x).1
def vO1 y x:=(vQ3 y x).2.1
def vF5 y x:=(vQ3 y x).2.2.1
def uA4 y x:=(vQ3 y x).2.2.2.1
def uH1 y x:=(vQ3 y x).2.2.2.2
instance (y x):Decidable (vG9 y x):=by unfold vG9 vQ3;dsimp only;infer_instance
def vT7 (y:vI1)(x:vE3):Int:=
 (2:Int)
def uH2:=li [(42,(.val (.sl (.int .i64)))),(43,vI)] [(44,vI)] vO1 vF5 vG9 (fun y x=>[ex 1 (some (uA4 y x)) [(2,vI)] ((vT7 y x),()),ex 2 (some (uH1 y x)) [] ()]) [[(2,vI)],[]]
def f30t (p0:D26):Prop×Int:=
 let v22:=(bif (bif (bif (decide (p0.1<0)) then true else (decide (p0.1>256))) then true else (decide (p0.2.1<0))) then true else (decide (p0.2.1>256)))
 let v29:=(!(Ty.eqb .bool (p0.1==0) (p0.2.1==0)))
 let v40:=(bif v29 then true else ((len p0.2.2.1)!=(p0.1*p0.2.1)))
 let y6:=(p0.2.2.1,(len p0.2.2.1),())
 let x6:=((0:Int),())
 let e6:=(zC4 (vO1 y6) (vF5 y6) x6)
 (((!v22)=true→(((!v29)=true→InR (p0.1*p0.2.1))∧((!v40)=true→(xQ1 (vO1 y6) (vF5 y6) (vG9 y6) x6)))),(bif v22 then (15:Int) else (bif v40 then (15:Int) else (bif (uA4 y6 e6) then (vT7 y6 e6) else (0:Int)))))
def uA5 p0:=(f30t p0).1
def f30 p0:=(f30t p0).2
instance (p0):Decidable (uA5 p0):=by unfold uA5 f30t;dsimp only;infer_instance
theorem uU8:SK 30 (sp1 (.val T26) vI uA5 f30):=fb Tryz.func30 52 [kb uU7] [(6,uH2)]
def f32t (p0:Int):Prop×(List Int):=
 (True,([p0]:List Int))
def uA6 p0:=(f32t p0).1
def f32 p0:=(f32t p0).2
instance (p0):Decidable (uA6 p0):=by unfold uA6 f32t;dsimp only;infer_instance
theorem uU9:SK 32 (sp1 vI (.own (.int .i64) 0 false) uA6 f32):=fb Tryz.func32 5 [] [] [(3,[(4,0,4,0)])]
abbrev vF6:Type:=((List Int)×(Unit)×(List UInt8)×Int×Unit)
abbrev wZ6:Type:=(Int×Unit)
def vL6 (y:vF6)(x:wZ6):Prop×Bool×wZ6:=
 let a2:=y.1
 let a10:=y.2.2.2.1
 let a11:=x.1
 let v29:=(decide (a11<(len a2)))
 let v40:=(bif v29 then ((nth a2 a11 (0:Int))==(nth a2 a10 (0:Int))) else false)
 (((v29=true→InB a11 (len a2))∧((v29=true→InB a10 (len a2))∧(v40=true→InR (a11+1)))),v40,((a11+1),()))
def vD1 y x:=(vL6 y x).1
def wT6 y x:=(vL6 y x).2.1
def wT2 y x:=(vL6 y x).2.2
instance (y x):Decidable (vD1 y x):=by unfold vD1 vL6;dsimp only;infer_instance
def vM8 (y:vF6)(x:wZ6):Int:=
 x.1
def vR6:List (Nat×Sh):=[(2,(.val (.sl (.int .i64)))),(3,(.fn 32 .nl)),(9,(.bld 97 5 9)),(10,vI),(11,vI)]
def uA7:=li [(2,(.val (.sl (.int .i64)))),(3,(.fn 32 .nl)),(9,(.bld 97 5 9)),(10,vI)] [(11,vI)] wT6 wT2 vD1 (fun y x=>[ex 4 none vR6 (y.1,y.2.1,y.2.2.1,y.2.2.2.1,(vM8 y x),())]) [vR6]
abbrev vD2:Type:=((List Int)×(Unit)×Int×(List Int)×Int×Unit)
abbrev wY2:Type:=((List UInt8)×Int×Unit)
def vI2 (y:vD2)(x:wY2):Prop×Bool×wY2:=
 let a54:=y.2.2.2.1
 let a9:=x.1
 let a56:=x.2.1
 let v57:=(decide (a56<y.2.2.2.2.1))
 let v58:=(nth a54 a56 (0:Int))
 let v61:=(f56 v58)
 ((v57=true→(InB a56 (len a54)∧((vG0 v58)∧(((List.length a9+List.length v61:Nat):Int)≤4294967296∧InR (a56+1))))),v57,((a9++v61),(a56+1),()))
def wX y x:=(vI2 y x).1
def wY3 y x:=(vI2 y x).2.1
def wU6 y x:=(vI2 y x).2.2
instance (y x):Decidable (wX y x):=by unfold wX vI2;dsimp only;infer_instance
def vJ7 (y:vD2)(x:wY2):(List UInt8):=
 x.1
def vO2:List (Nat×Sh):=[(2,(.val (.sl (.int .i64)))),(3,(.fn 32 .nl)),(9,(.bld 97 5 9)),(11,vI)]
def vY:=li [(2,(.val (.sl (.int .i64)))),(3,(.fn 32 .nl)),(11,vI),(54,(.own (.int .i64) 54 false)),(55,vI)] [(9,(.bld 97 5 9)),(56,vI)] wY3 wU6 wX (fun y x=>[ex 6 none vO2 (y.1,y.2.1,(vJ7 y x),y.2.2.1,())]) [vO2]
abbrev vF7:Type:=((List Int)×(Unit)×Unit)
abbrev wZ7:Type:=((List UInt8)×Int×Unit)
def vL7 (y:vF7)(x:wZ7):Prop×Bool×wZ7:=
 let a2:=y.1
 let a9:=x.1
 let a10:=x.2.1
 let v23:=(decide (a10<(len a2)))
 let y7:=(a2,(),a9,a10,())
 let x7:=((a10+1),())
 let r7_4_0:=(vM8 y7 (zC4 (wT6 y7) (wT2 y7) x7))
 let v45:=(r7_4_0-a10)
 let v46:=(v45-1)
 let v47:=(f56 v46)
 let v52:=(nth a2 a10 (0:Int))
 let v54:=(f32 v52)
 let y11:=(a2,(),r7_4_0,v54,(len v54),())
 let x11:=((a9++v47),(0:Int),())
 ((v23=true→(InR (a10+1)∧((xQ1 (wT6 y7) (wT2 y7) (vD1 y7) x7)∧(InR (r7_4_0-a10)∧(InR (v45-1)∧((vG0 v46)∧(((List.length a9+List.length v47:Nat):Int)≤4294967296∧(InB a10 (len a2)∧((uA6 v52)∧(xQ1 (wY3 y11) (wU6 y11) (wX y11) x11)))))))))),v23,((vJ7 y11 (zC4 (wY3 y11) (wU6 y11) x11)),r7_4_0,()))
def wY4 y x:=(vL7 y x).1
def wV7 y x:=(vL7 y x).2.1
def wV8 y x:=(vL7 y x).2.2
instance (y x):Decidable (wY4 y x):=by unfold wY4 vL7;dsimp only;infer_instance
def vM9 (y:vF7)(x:wZ7):(List UInt8):=
 x.1
def uA8:=li [(2,(.val (.sl (.int .i64)))),(3,(.fn 32 .nl))] [(9,(.bld 97 5 9)),(10,vI)] wV7 wV8 wY4 (fun y x=>[ex 2 none [(9,(.bld 97 5 9))] ((vM9 y x),())]) [[(9,(.bld 97 5 9))]]
def uD1 (p0:Int)(p1:Int)(p2:List Int)(p3:(Unit)):Prop×(List UInt8):=
 let v15:=(f56 p0)
 let b9:=(([]:List UInt8)++v15)
 let v18:=(f56 p1)
 let y5:=(p2,(),())
 let x5:=((b9++v18),(0:Int),())
 (((vG0 p0)∧(((List.length ([]:List UInt8)+List.length v15:Nat):Int)≤4294967296∧((vG0 p1)∧(((List.length b9+List.length v18:Nat):Int)≤4294967296∧(xQ1 (wV7 y5) (wV8 y5) (wY4 y5) x5))))),(vM9 y5 (zC4 (wV7 y5) (wV8 y5) x5)))
def vH p0 p1 p2 p3:=(uD1 p0 p1 p2 p3).1
def uE2 p0 p1 p2 p3:=(uD1 p0 p1 p2 p3).2
instance (p0 p1 p2 p3):Decidable (vH p0 p1 p2 p3):=by unfold vH uD1;dsimp only;infer_instance
theorem uH3:SK 31 (sp4 vI vI (.val (.sl (.int .i64))) (.fn 32 .nl) vS vH uE2):=fy (fun c=>{ c with blds:=[(97,5,50,57)] }) Tryz.func31 66 [kb uU9,kb uO6] [(5,uA8),(7,uA7),(11,vY)]
def f8t (p0:D26):Prop×(List UInt8):=
 let m1:=(bif ((f30 p0)!=0) then ((0:Int),(0:Int),([]:List Int),()) else p0)
 (((uA5 p0)∧(vH m1.1 m1.2.1 m1.2.2.1 ())),(uE2 m1.1 m1.2.1 m1.2.2.1 ()))
def uF5 p0:=(f8t p0).1
def f8 p0:=(f8t p0).2
instance (p0):Decidable (uF5 p0):=by unfold uF5 f8t;dsimp only;infer_instance
def uR1:=sp1 (.val T26) vS uF5 f8
theorem uV:SK 8 (sp1 (.val T26) vS uF5 f8):=fb Tryz.func8 14 [kb uU8,kb uH3]
abbrev vI3:Type:=(D26×Unit)
abbrev vE4:Type:=(Int×Unit)
def vQ4 (y:vI3)(x:vE4):Prop×Bool×vE4×Bool×Bool:=
 let a1:=y.1
 let a3:=x.1
 let v44:=(decide (a3<(len a1.2.2.1)))
 let v52:=(decide ((nth a1.2.2.1 a3 (0:Int))<0))
 let v60:=(bif v52 then true else (decide ((nth a1.2.2.1 a3 (0:Int))>65535)))
 ((v44=true→(InB a3 (len a1.2.2.1)∧(((!v52)=true→InB a3 (len a1.2.2.1))∧((!v60)=true→InR (a3+1))))),(v44&&(!v60)),((a3+1),()),(v44&&v60),(!v44))
def vH0 y x:=(vQ4 y x).1
def vL8 y x:=(vQ4 y x).2.1
def vB6 y x:=(vQ4 y x).2.2.1
def uA9 y x:=(vQ4 y x).2.2.2.1
def uH4 y x:=(vQ4 y x).2.2.2.2
instance (y x):Decidable (vH0 y x):=by unfold vH0 vQ4;dsimp only;infer_instance
def vT8 (y:vI3)(x:vE4):Int:=
 (2:Int)
def uH5:=li [(1,(.box T26 (.val T26)))] [(3,vI)] vL8 vB6 vH0 (fun y x=>[ex 1 (some (uA9 y x)) [(2,vI)] ((vT8 y x),()),ex 2 (some (uH4 y x)) [] ()]) [[(2,vI)],[]]
def f33t (p0:D26):Prop×Int:=
 let v21:=(bif (bif (bif (decide (p0.1<0)) then true else (decide (p0.1>256))) then true else (decide (p0.2.1<0))) then true else (decide (p0.2.1>256)))
 let v28:=(!(Ty.eqb .bool (p0.1==0) (p0.2.1==0)))
 let v39:=(bif v28 then true else ((len p0.2.2.1)!=(p0.1*p0.2.1)))
 let y6:=(p0,())
 let x6:=((0:Int),())
 let e6:=(zC4 (vL8 y6) (vB6 y6) x6)
 (((!v21)=true→(((!v28)=true→InR (p0.1*p0.2.1))∧((!v39)=true→(xQ1 (vL8 y6) (vB6 y6) (vH0 y6) x6)))),(bif v21 then (15:Int) else (bif v39 then (15:Int) else (bif (uA9 y6 e6) then (vT8 y6 e6) else (0:Int)))))
def uB p0:=(f33t p0).1
def f33 p0:=(f33t p0).2
instance (p0):Decidable (uB p0):=by unfold uB f33t;dsimp only;infer_instance
theorem uV0:SK 33 (sp1 (.val T26) vI uB f33):=fb Tryz.func33 61 [] [(6,uH5)]
abbrev vT9:Type:=(D26×Unit)
abbrev vN5:Type:=((List UInt8)×Int×Int×Unit)
def uE3 (y:vT9)(x:vN5):Prop×Bool×vN5:=
 let a1:=y.1
 let a3:=x.1
 let a4:=x.2.1
 let a5:=x.2.2.1
 let v21:=(decide (a5<(len a1.2.2.1)))
 let v29:=((a5+1)==(len a1.2.2.1))
 let v34:=(a5+1)
 let v43:=(bif v29 then true else ((nth a1.2.2.1 v34 (0:Int))!=(nth a1.2.2.1 a5 (0:Int))))
 let v47:=(a5-a4)
 let v48:=(f29 v47)
 let v49:=(a3++v48)
 let v53:=(nth a1.2.2.1 a5 (0:Int))
 let v55:=(f29 v53)
 ((v21=true→(InR (a5+1)∧(((!v29)=true→InR (a5+1))∧(((!v29)=true→InB v34 (len a1.2.2.1))∧(((!v29)=true→InB a5 (len a1.2.2.1))∧((v43=true→(InR (a5-a4)∧((vA6 v47)∧(((List.length a3+List.length v48:Nat):Int)≤9223372036854775807∧(InB a5 (len a1.2.2.1)∧((vA6 v53)∧(((List.length v49+List.length v55:Nat):Int)≤9223372036854775807∧InR (a5+1))))))))∧InR (a5+1))))))),v21,((bif v43 then (v49++v55) else a3),(bif v43 then (a5+1) else a4),(a5+1),()))
def vG3 y x:=(uE3 y x).1
def vJ8 y x:=(uE3 y x).2.1
def vA2 y x:=(uE3 y x).2.2
instance (y x):Decidable (vG3 y x):=by unfold vG3 uE3;dsimp only;infer_instance
def vW1 (y:vT9)(x:vN5):(List UInt8):=
 x.1
def uL8:=li [(1,(.box T26 (.val T26)))] [(3,vS),(4,vI),(5,vI)] vJ8 vA2 vG3 (fun y x=>[ex 2 none [(3,vS)] ((vW1 y x),())]) [[(3,vS)]]
def f9t (p0:D26):Prop×(List UInt8):=
 let m1:=(bif ((f33 p0)!=0) then ((0:Int),(0:Int),([]:List Int),()) else p0)
 let v12:=(f29 m1.1)
 let v15:=(f29 m1.2.1)
 let y6:=(m1,())
 let x6:=((v12++v15),(0:Int),(0:Int),())
 (((uB p0)∧((vA6 m1.1)∧((vA6 m1.2.1)∧(((List.length v12+List.length v15:Nat):Int)≤9223372036854775807∧(xQ1 (vJ8 y6) (vA2 y6) (vG3 y6) x6))))),(vW1 y6 (zC4 (vJ8 y6) (vA2 y6) x6)))
def uF6 p0:=(f9t p0).1
def f9 p0:=(f9t p0).2
instance (p0):Decidable (uF6 p0):=by unfold uF6 f9t;dsimp only;infer_instance
def uR2:=sp1 (.val T26) vS uF6 f9
theorem uW8:SK 9 (sp1 (.val T26) vS uF6 f9):=fb Tryz.func9 60 [kb uO7,kb uV0] [(6,uL8)]
def f10t (p0:List UInt8):Prop×Unit×(D60×Unit):=
 (True,(),((true,p0,(0:Int),(0:Int),()),()))
def vW2 p0:=(f10t p0).1
def f10 p0:=(f10t p0).2.1
def uH6 p0:=(f10t p0).2.2
instance (p0):Decidable (vW2 p0):=by unfold vW2 f10t;dsimp only;infer_instance
def uL9:Am.Spec:=fnSpec [(0,vS)] (.ref 900000 T60) [(900000,(.box T60 (.val T60)))] (fun x=>vW2 x.1) (fun x=>f10 x.1) (fun x=>uH6 x.1)
theorem uH7:SK 10 (fnSpec [(0,vS)] (.ref 900000 T60) [(900000,(.box T60 (.val T60)))] (fun x=>vW2 x.1) (fun x=>f10 x.1) (fun x=>uH6 x.1)):=fb Tryz.func10 6 [] [] [(3,[(6,5,0,900000)])] false [900000]
def f11t (p0:List UInt8):Prop×Unit×(D71×Unit):=
 (True,(),((p0,(0:Int),(0:Int),true,()),()))
def vW3 p0:=(f11t p0).1
def f11 p0:=(f11t p0).2.1
def uH8 p0:=(f11t p0).2.2
instance (p0):Decidable (vW3 p0):=by unfold vW3 f11t;dsimp only;infer_instance
def uM:Am.Spec:=fnSpec [(0,vS)] (.ref 900000 T71) [(900000,(.box T71 (.val T71)))] (fun x=>vW3 x.1) (fun x=>f11 x.1) (fun x=>uH8 x.1)
theorem uV1:SK 11 (fnSpec [(0,vS)] (.ref 900000 T71) [(900000,(.box T71 (.val T71)))] (fun x=>vW3 x.1) (fun x=>f11 x.1) (fun x=>uH8 x.1)):=fb Tryz.func11 6 [] [] [(3,[(6,5,0,900000)])] false [900000]
def vY0 (p0:D60):Prop×Int×(D60×Unit):=
 (True,(bif (bif false then true else (!p0.1)) then (14:Int) else p0.2.2.2.1),(p0,()))
def wY5 p0:=(vY0 p0).1
def wU7 p0:=(vY0 p0).2.1
def wX0 p0:=(vY0 p0).2.2
instance (p0):Decidable (wY5 p0):=by unfold wY5 vY0;dsimp only;infer_instance
theorem vH1:SK 44 (fnSpec [(0,(.box T60 (.val T60)))] vI [(0,(.box T60 (.val T60)))] (fun x=>wY5 x.1) (fun x=>wU7 x.1) (fun x=>wX0 x.1)):=fb Tryz.func44 16 [] [] [] false [0]
def vQ5 (p0:D60)(p1:Int):Prop×(Unit)×(D60×Unit):=
 let v5o:=(vL0 p0)
 ((vC8 p0),(),((bif (vR2 p0) then (v5o.1.1,v5o.1.2.1,v5o.1.2.2.1,p1,()) else v5o.1),()))
def vD3 p0 p1:=(vQ5 p0 p1).1
def uV2 p0 p1:=(vQ5 p0 p1).2.1
def wV1 p0 p1:=(vQ5 p0 p1).2.2
instance (p0 p1):Decidable (vD3 p0 p1):=by unfold vD3 vQ5;dsimp only;infer_instance
theorem uB0:SK 82 (fnSpec [(0,(.box T60 (.val T60))),(1,vI)] (.tup .nl) [(0,(.box T60 (.val T60)))] (fun x=>vD3 x.1 x.2.1) (fun x=>uV2 x.1 x.2.1) (fun x=>wV1 x.1 x.2.1)):=fb Tryz.func82 10 [kb vJ2] [] [] false [0]
def vU (p0:Unit)(p1:D60):List Prop×D45×(Unit×D60×Unit):=
 let v17o:=(wS7 p1 (65535:Int))
 let v17o_1:=(wS7 v17o.1 (65535:Int))
 let v17o_2:=(wS7 v17o_1.1 (65535:Int))
 ([InB (0:Int) 4,(wU1 p1 (65535:Int)),InB (1:Int) 4,(wU1 v17o.1 (65535:Int)),InB (2:Int) 4,(wU1 v17o_1.1 (65535:Int)),InB (3:Int) 4,(wU1 v17o_2.1 (65535:Int))],((wS8 p1 (65535:Int)),(wS8 v17o.1 (65535:Int)),(wS8 v17o_1.1 (65535:Int)),(wS8 v17o_2.1 (65535:Int)),()),((),(wS7 v17o_2.1 (65535:Int)).1,()))
def vJ9 (p0:Unit)(p1:D60):Prop:=xI5 (vU p0 p1).1
def uE4 p0 p1:=(vU p0 p1).2.1
def vS6 p0 p1:=(vU p0 p1).2.2
instance (p0:Unit)(p1:D60):Decidable (vJ9 p0 p1):=by
 unfold vJ9 vU;dsimp only[xI5]
 infer_instance
noncomputable def uB1:List (Fb Tryz.prog):=[kb vJ3]
noncomputable def uF7:Ctx:={ Cx tys (Fb.l uB1) [] [] true 21 [0] [] with skip:=true,dead:=[999999] }
theorem uF8:CtxOk Tryz.prog uF7:=wI0 vM2 (by kernel_rfl) (Fb.all uB1) rfl (by kernel_rfl)
@[reducible] def vU0:List (Nat×Sh):=[(0,(.ptrs true [some (990000,T60,[])])),(990000,(.box T60 (.val T60)))]
theorem uH9:SK 35 (xH8 vU0 (.val T45) vU0 (fun x=>vJ9 x.1 x.2.1) (fun x=>uE4 x.1 x.2.1) (fun x=>vS6 x.1 x.2.1)):=wO7 (ps:=vU0) (p:=fun x=>(vU x.1 x.2.1).1) (lv:=[(0,[0,1,990000]),(1,[0,1,2,990000]),(2,[0,1,2,9,10,11,990000]),(3,[0,1,2,9,10,11,12,990000]),(4,[0,1,2,4,9,10,11,990000]),(5,[0,1,2,9,10,11,990000]),(6,[0,1,2,9,10,11,990000]),(7,[0,1,990000])]) uF8 mixed Tryz.func35 (fun _ h=>h) (by kernel_rfl) (fun x=>by kernel_rfl)
abbrev vD4:Type:=(D60×(Unit×Unit)×Int×Int×D45×Int×Unit)
abbrev wY6:Type:=((List D45)×Int×Unit)
def vI4 (y:vD4)(x:wY6):Prop×Bool×wY6:=
 let a6:=x.1
 let a62:=x.2.1
 let v63:=(decide (a62<y.2.2.2.2.2.1))
 let v66:=([y.2.2.2.2.1]:List D45)
 ((v63=true→(((List.length a6+List.length v66:Nat):Int)≤4294967296∧InR (a62+1))),v63,((a6++v66),(a62+1),()))
def vA7 y x:=(vI4 y x).1
def vD5 y x:=(vI4 y x).2.1
def wY7 y x:=(vI4 y x).2.2
instance (y x):Decidable (vA7 y x):=by unfold vA7 vI4;dsimp only;infer_instance
def vK (y:vD4)(x:wY6):(List D45):=
 x.1
def vO3:List (Nat×Sh):=[(0,(.box T60 (.val T60))),(1,(.fn 35 (.cons (.ptrs true [some (0,T60,[])]) .nl))),(4,vI),(5,vI),(6,(.own T45 2 false))]
def vY1:=li [(0,(.box T60 (.val T60))),(1,(.fn 35 (.cons (.ptrs true [some (0,T60,[])]) .nl))),(4,vI),(5,vI),(8,(.box T45 (.val T45))),(61,vI)] [(6,(.own T45 2 false)),(62,vI)] vD5 wY7 vA7 (fun y x=>[ex 4 none vO3 (y.1,y.2.1,y.2.2.1,y.2.2.2.1,(vK y x),())]) [vO3]
abbrev vB7:Type:=((Unit×Unit)×Int×Int×Unit)
abbrev wV9:Type:=(D60×(List D45)×Unit)
def vB8 (y:vB7)(x:wV9):Prop×Bool×wV9:=
 let a4:=y.2.1
 let a5:=y.2.2.1
 let a0:=x.1
 let a6:=x.2.1
 let v25:=(decide ((len a6)<(a4*a5)))
 let g0:=(bif v25 then (wX0 a0).1 else a0)
 let v30:=(bif v25 then ((wU7 a0)==0) else false)
 let v34:=(a4*a5)
 let v36:=(len a6)
 let v37:=(v34-v36)
 let v38:=(v37-1)
 let v39:=(wS8 g0 v38)
 let v39o:=(wS7 g0 v38)
 let v41:=(uE4 () v39o.1)
 let v41o:=(vS6 () v39o.1)
 let v44:=(decide ((len a6)>0))
 let v48:=(len a6)
 let v49:=(v48-1)
 let v54:=(bif v44 then (Ty.eqb T45 (nth a6 v49 Z45) v41) else false)
 let m0:=(bif v54 then (wV1 v41o.2.1 (4:Int)).1 else v41o.2.1)
 let v58o:=(wX0 m0)
 let v59:=((wU7 m0)!=0)
 let y12:=(v58o.1,((),()),a4,a5,v41,(v39+1),())
 let x12:=(a6,(0:Int),())
 ((InR (a4*a5)∧((v25=true→(wY5 a0))∧(v30=true→(InR (a4*a5)∧(InR (v34-v36)∧(InR (v37-1)∧((wU1 g0 v38)∧((vJ9 () v39o.1)∧((v44=true→InR (v48-1))∧((v44=true→InB v49 (len a6))∧((v54=true→(vD3 v41o.2.1 (4:Int)))∧((wY5 m0)∧((!v59)=true→(InR (v39+1)∧(xQ1 (vD5 y12) (wY7 y12) (vA7 y12) x12))))))))))))))),(v30&&(!v59)),(v58o.1,(vK y12 (zC4 (vD5 y12) (wY7 y12) x12)),()))
def wW5 y x:=(vB8 y x).1
def wU8 y x:=(vB8 y x).2.1
def wW y x:=(vB8 y x).2.2
instance (y x):Decidable (wW5 y x):=by unfold wW5 vB8;dsimp only;infer_instance
def wT (y:vB7)(x:wV9):D60:=
 let a4:=y.2.1
 let a5:=y.2.2.1
 let a0:=x.1
 let a6:=x.2.1
 let v25:=(decide ((len a6)<(a4*a5)))
 let g0:=(bif v25 then (wX0 a0).1 else a0)
 let v39o:=(wS7 g0 (((a4*a5)-(len a6))-1))
 let v41o:=(vS6 () v39o.1)
 let m0_1:=(bif (!(bif v25 then ((wU7 a0)==0) else false)) then g0 else (wX0 (bif (bif (decide ((len a6)>0)) then (Ty.eqb T45 (nth a6 ((len a6)-1) Z45) (uE4 () v39o.1)) else false) then (wV1 v41o.2.1 (4:Int)).1 else v41o.2.1)).1)
 m0_1
def wW0 (y:vB7)(x:wV9):(List D45):=
 x.2.1
def vR7:List (Nat×Sh):=[(0,(.box T60 (.val T60))),(4,vI),(5,vI),(6,(.own T45 2 false))]
def uB2:=li [(1,(.fn 35 (.cons (.ptrs true [some (0,T60,[])]) .nl))),(4,vI),(5,vI)] [(0,(.box T60 (.val T60))),(6,(.own T45 2 false))] wU8 wW wW5 (fun y x=>[ex 2 none vR7 ((wT y x),y.2.1,y.2.2.1,(wW0 y x),())]) [vR7]
def vU1 (p0:D60)(p1:(Unit×Unit)):Prop×(Int×Int×(List D45)×Unit)×(D60×Unit):=
 let v10:=(wS8 p0 (256:Int))
 let v10o:=(wS7 p0 (256:Int))
 let v12:=(wS8 v10o.1 (256:Int))
 let v12o:=(wS7 v10o.1 (256:Int))
 let v17:=(!(Ty.eqb .bool (v10==0) (v12==0)))
 let y5:=(((),()),v10,v12,())
 let x5:=((bif v17 then (wV1 v12o.1 (4:Int)).1 else v12o.1),([]:List D45),())
 let e5:=(zC4 (wU8 y5) (wW y5) x5)
 let r5_2_0:=(wT y5 e5)
 let v70o:=(wX0 r5_2_0)
 let v71:=((wU7 r5_2_0)!=0)
 (((wU1 p0 (256:Int))∧((wU1 v10o.1 (256:Int))∧((v17=true→(vD3 v12o.1 (4:Int)))∧((xQ1 (wU8 y5) (wW y5) (wW5 y5) x5)∧(wY5 r5_2_0))))),((bif v71 then (0:Int) else v10),(bif v71 then (0:Int) else v12),(bif v71 then [] else (wW0 y5 e5)),()),((bif v71 then v70o.1 else v70o.1),()))
def vH2 p0 p1:=(vU1 p0 p1).1
def uI p0 p1:=(vU1 p0 p1).2.1
def vY2 p0 p1:=(vU1 p0 p1).2.2
instance (p0 p1):Decidable (vH2 p0 p1):=by unfold vH2 vU1;dsimp only;infer_instance
theorem uI0:SK 34 (fnSpec [(0,(.box T60 (.val T60))),(1,(.fn 35 (.cons (.ptrs true [some (0,T60,[])]) .nl)))] (.tup (.cons vI (.cons vI (.cons (.own T45 2 false) .nl)))) [(0,(.box T60 (.val T60)))] (fun x=>vH2 x.1 x.2.1) (fun x=>uI x.1 x.2.1) (fun x=>vY2 x.1 x.2.1)):=fx (fun c=>{ c with wants:=[(35,[]),(44,[])] }) Tryz.func34 75 [kb uH9,kb vJ3,kb vH1,kb uB0] [(5,uB2),(12,vY1)] [(27,[(4,0,67,2)])] false [0]
def vU2 (p0:D60):Prop×D23×(D60×Unit):=
 let s:=((),())
 let v9:=(uI p0 s)
 ((vH2 p0 s),(v9.1,v9.2.1,v9.2.2.1,()),((vY2 p0 s).1,()))
def vH3 p0:=(vU2 p0).1
def vW4 p0:=(vU2 p0).2.1
def vO4 p0:=(vU2 p0).2.2
instance (p0):Decidable (vH3 p0):=by unfold vH3 vU2;dsimp only;infer_instance
def uD2:Am.Spec:=fnSpec [(0,(.box T60 (.val T60)))] (.val T23) [(0,(.box T60 (.val T60)))] (fun x=>vH3 x.1) (fun x=>vW4 x.1) (fun x=>vO4 x.1)
theorem uB3:SK 12 (fnSpec [(0,(.box T60 (.val T60)))] (.val T23) [(0,(.box T60 (.val T60)))] (fun x=>vH3 x.1) (fun x=>vW4 x.1) (fun x=>vO4 x.1)):=fx (fun c=>{ c with wants:=[(34,[])] }) Tryz.func12 17 [kb uI0] [] [(3,[(4,0,200009,1005)]),(5,[(4,0,1005,400200)])] false [0]
def vY3 (p0:D71):Prop×Bool×(D71×Unit):=
 (True,(bif (bif (!false) then p0.2.2.2.1 else false) then (p0.2.2.1==0) else false),(p0,()))
def vF8 p0:=(vY3 p0).1
def vR8 p0:=(vY3 p0).2.1
def vO5 p0:=(vY3 p0).2.2
instance (p0):Decidable (vF8 p0):=by unfold vF8 vY3;dsimp only;infer_instance
theorem vO6:SK 86 (fnSpec [(0,(.box T71 (.val T71)))] vB [(0,(.box T71 (.val T71)))] (fun x=>vF8 x.1) (fun x=>vR8 x.1) (fun x=>vO5 x.1)):=fb Tryz.func86 18 [] [] [] false [0]
def vU3 (p0:D71)(p1:Int):Prop×(Unit)×(D71×Unit):=
 let v5o:=(vO5 p0)
 ((vF8 p0),(),((bif (vR8 p0) then (v5o.1.1,v5o.1.2.1,p1,v5o.1.2.2.2.1,()) else v5o.1),()))
def vD6 p0 p1:=(vU3 p0 p1).1
def uV3 p0 p1:=(vU3 p0 p1).2.1
def wZ1 p0 p1:=(vU3 p0 p1).2.2
instance (p0 p1):Decidable (vD6 p0 p1):=by unfold vD6 vU3;dsimp only;infer_instance
theorem vO7:SK 40 (fnSpec [(0,(.box T71 (.val T71))),(1,vI)] (.tup .nl) [(0,(.box T71 (.val T71)))] (fun x=>vD6 x.1 x.2.1) (fun x=>uV3 x.1 x.2.1) (fun x=>wZ1 x.1 x.2.1)):=fb Tryz.func40 10 [kb vO6] [] [] false [0]
abbrev vB9:Type:=(D71×Unit)
abbrev wY8:Type:=(Int×Int×Unit)
def vE8 (y:vB9)(x:wY8):Prop×Bool×wY8:=
 let a0:=y.1
 let a4:=x.2.1
 let v22:=(decide ((IntKind.wrap .i64 (a0.2.1+a4))≥(len a0.1)))
 let v35:=(IntKind.wrap .i64 (a0.2.1+a4))
 let v36:=(wR1 a0.1 v35)
 let v50:=(bif (bif (a4==9) then (decide (v36>1)) else false) then true else (bif (decide (a4>0)) then (v36==0) else false))
 let v59:=(IntKind.wrap .i64 (7*a4))
 (((!v22)=true→(InB v35 (len a0.1)∧((!v50)=true→0≤v59))),((!v22)&&((!v50)&&(!(decide (v36<128))))),((ior .u64 x.1 (IntKind.wrap .u64 (wS5 (IntKind.wrap .u64 (wS4 .u8 v36 (127:Int))) v59 64))),(IntKind.wrap .i64 (a4+1)),()))
def vA3 y x:=(vE8 y x).1
def vC y x:=(vE8 y x).2.1
def wX4 y x:=(vE8 y x).2.2
instance (y x):Decidable (vA3 y x):=by unfold vA3 vE8;dsimp only;infer_instance
def vC6 (y:vB9)(x:wY8):D71:=
 let a0:=y.1
 let a4:=x.2.1
 let v36:=(wR1 a0.1 (IntKind.wrap .i64 (a0.2.1+a4)))
 let m0:=(bif (bif (bif (a4==9) then (decide (v36>1)) else false) then true else (bif (decide (a4>0)) then (v36==0) else false)) then (a0.1,a0.2.1,(4:Int),a0.2.2.2.1,()) else (a0.1,(IntKind.wrap .i64 ((IntKind.wrap .i64 (a0.2.1+a4))+1)),a0.2.2.1,a0.2.2.2.1,()))
 (bif (decide ((IntKind.wrap .i64 (a0.2.1+a4))≥(len a0.1))) then (a0.1,a0.2.1,(5:Int),a0.2.2.2.1,()) else m0)
def vC7 (y:vB9)(x:wY8):Int:=
 let a0:=y.1
 let a4:=x.2.1
 let v36:=(wR1 a0.1 (IntKind.wrap .i64 (a0.2.1+a4)))
 let m2:=(bif (bif (bif (a4==9) then (decide (v36>1)) else false) then true else (bif (decide (a4>0)) then (v36==0) else false)) then (0:Int) else (ior .u64 x.1 (IntKind.wrap .u64 (wS5 (IntKind.wrap .u64 (wS4 .u8 v36 (127:Int))) (IntKind.wrap .i64 (7*a4)) 64))))
 (bif (decide ((IntKind.wrap .i64 (a0.2.1+a4))≥(len a0.1))) then (0:Int) else m2)
def vR9:List (Nat×Sh):=[(0,(.box T71 (.val T71))),(2,(.val (.int .u64)))]
def uB4:=li [(0,(.box T71 (.val T71)))] [(3,(.val (.int .u64))),(4,vI)] vC wX4 vA3 (fun y x=>[ex 1 none vR9 ((vC6 y x),(vC7 y x),())]) [vR9]
def vQ6 (p0:D71):Prop×Int×(D71×Unit):=
 let v7o:=(vO5 p0)
 let v8:=(!(vR8 p0))
 let y6:=(v7o.1,())
 let x6:=((0:Int),(0:Int),())
 let e6:=(zC4 (vC y6) (wX4 y6) x6)
 (((vF8 p0)∧((!v8)=true→(xQ1 (vC y6) (wX4 y6) (vA3 y6) x6))),(bif v8 then (0:Int) else (vC7 y6 e6)),((bif v8 then v7o.1 else (vC6 y6 e6)),()))
def vH4 p0:=(vQ6 p0).1
def uB5 p0:=(vQ6 p0).2.1
def vO8 p0:=(vQ6 p0).2.2
instance (p0):Decidable (vH4 p0):=by unfold vH4 vQ6;dsimp only;infer_instance
theorem uI1:SK 85 (fnSpec [(0,(.box T71 (.val T71)))] (.val (.int .u64)) [(0,(.box T71 (.val T71)))] (fun x=>vH4 x.1) (fun x=>uB5 x.1) (fun x=>vO8 x.1)):=fb Tryz.func85 75 [kb vO6] [(6,uB4)] [] true [0]
def vU4 (p0:D71)(p1:Int):Prop×Int×(D71×Unit):=
 let v7:=(uB5 p0)
 let v7o:=(vO8 p0)
 let v12:=(decide (v7>(IntKind.wrap .u64 (wP9 p1 (0:Int)))))
 (((vH4 p0)∧(v12=true→(vD6 v7o.1 (3:Int)))),(bif v12 then (0:Int) else (IntKind.wrap .i64 v7)),((bif v12 then (wZ1 v7o.1 (3:Int)).1 else v7o.1),()))
def wU0 p0 p1:=(vU4 p0 p1).1
def wW6 p0 p1:=(vU4 p0 p1).2.1
def wS9 p0 p1:=(vU4 p0 p1).2.2
instance (p0 p1):Decidable (wU0 p0 p1):=by unfold wU0 vU4;dsimp only;infer_instance
theorem vU5:SK 39 (fnSpec [(0,(.box T71 (.val T71))),(1,vI)] vI [(0,(.box T71 (.val T71)))] (fun x=>wU0 x.1 x.2.1) (fun x=>wW6 x.1 x.2.1) (fun x=>wS9 x.1 x.2.1)):=fb Tryz.func39 17 [kb vO7,kb uI1] [] [] true [0]
def vY4 (p0:D71):Prop×(Int×Int×Unit)×(D71×Unit):=
 let v7:=(wW6 p0 (256:Int))
 let v7o:=(wS9 p0 (256:Int))
 let v9:=(wW6 v7o.1 (256:Int))
 let v9o:=(wS9 v7o.1 (256:Int))
 let v14:=(!(Ty.eqb .bool (v7==0) (v9==0)))
 (((wU0 p0 (256:Int))∧((wU0 v7o.1 (256:Int))∧(v14=true→(vD6 v9o.1 (4:Int))))),(v7,v9,()),((bif v14 then (wZ1 v9o.1 (4:Int)).1 else v9o.1),()))
def vK0 p0:=(vY4 p0).1
def wZ3 p0:=(vY4 p0).2.1
def vI5 p0:=(vY4 p0).2.2
instance (p0):Decidable (vK0 p0):=by unfold vK0 vY4;dsimp only;infer_instance
theorem uB6:SK 37 (fnSpec [(0,(.box T71 (.val T71)))] (.tup (.cons vI (.cons vI .nl))) [(0,(.box T71 (.val T71)))] (fun x=>vK0 x.1) (fun x=>wZ3 x.1) (fun x=>vI5 x.1)):=fb Tryz.func37 19 [kb vU5,kb vO7] [] [] false [0]
def vY5 (p0:D71):Prop×Int×(D71×Unit):=
 (True,(bif (bif false then true else (!p0.2.2.2.1)) then (14:Int) else p0.2.2.1),(p0,()))
def vA8 p0:=(vY5 p0).1
def wW7 p0:=(vY5 p0).2.1
def vA9 p0:=(vY5 p0).2.2
instance (p0):Decidable (vA8 p0):=by unfold vA8 vY5;dsimp only;infer_instance
theorem vO9:SK 38 (fnSpec [(0,(.box T71 (.val T71)))] vI [(0,(.box T71 (.val T71)))] (fun x=>vA8 x.1) (fun x=>wW7 x.1) (fun x=>vA9 x.1)):=fb Tryz.func38 16 [] [] [] false [0]
abbrev vD7:Type:=(D71×(Int×Int×(List D45)×Unit)×Int×Int×Int×D45×Unit)
abbrev wY9:Type:=((Int×Int×(List D45)×Unit)×Int×Unit)
def vI6 (y:vD7)(x:wY9):Prop×Bool×wY9:=
 let a5:=x.1
 let a8:=x.2.1
 let v73:=(decide (a8<y.2.2.2.2.1))
 let v79:=([y.2.2.2.2.2.1]:List D45)
 ((v73=true→(((List.length a5.2.2.1+List.length v79:Nat):Int)≤4294967296∧InR (a8+1))),v73,((a5.1,a5.2.1,(a5.2.2.1++v79),()),(a8+1),()))
def wZ2 y x:=(vI6 y x).1
def vA4 y x:=(vI6 y x).2.1
def wW4 y x:=(vI6 y x).2.2
instance (y x):Decidable (wZ2 y x):=by unfold wZ2 vI6;dsimp only;infer_instance
def vK1 (y:vD7)(x:wY9):(Int×Int×(List D45)×Unit):=
 let a5:=x.1
 (a5.1,a5.2.1,a5.2.2.1,())
def vP0:List (Nat×Sh):=[(0,(.box T71 (.val T71))),(2,(.box T23 (.agg (.cons (.int .i64) (.cons (.int .i64) (.cons (.sl T45) .nl))) (.cons vI (.cons vI (.cons (.own T45 400200 false) .nl)))))),(3,vI),(4,vI),(5,(.box T23 (.agg (.cons (.int .i64) (.cons (.int .i64) (.cons (.sl T45) .nl))) (.cons vI (.cons vI (.cons (.own T45 400500 false) .nl))))))]
def vY6:=li [(0,(.box T71 (.val T71))),(2,(.box T23 (.agg (.cons (.int .i64) (.cons (.int .i64) (.cons (.sl T45) .nl))) (.cons vI (.cons vI (.cons (.own T45 400200 false) .nl)))))),(3,vI),(4,vI),(6,vI),(7,(.box T45 (.val T45)))] [(5,(.box T23 (.agg (.cons (.int .i64) (.cons (.int .i64) (.cons (.sl T45) .nl))) (.cons vI (.cons vI (.cons (.own T45 400500 false) .nl)))))),(8,vI)] vA4 wW4 wZ2 (fun y x=>[ex 4 none vP0 (y.1,y.2.1,y.2.2.1,y.2.2.2.1,(vK1 y x),())]) [vP0]
abbrev wZ8:Type:=(Int×Int×Unit)
abbrev wU9:Type:=(D71×(Int×Int×(List D45)×Unit)×(Int×Int×(List D45)×Unit)×Unit)
def vE9 (y:wZ8)(x:wU9):Prop×Bool×wU9:=
 let a3:=y.1
 let a4:=y.2.1
 let a0:=x.1
 let a2:=x.2.1
 let a5:=x.2.2.1
 let v18o:=(vA9 a0)
 let v19:=((wW7 a0)==0)
 let v28:=(bif v19 then (decide ((len a5.2.2.1)<(a3*a4))) else false)
 let v32:=(a3*a4)
 let v35:=(len a5.2.2.1)
 let v36:=(v32-v35)
 let v37:=(v36-1)
 let v38:=(wW6 v18o.1 v37)
 let v38o:=(wS9 v18o.1 v37)
 let v42o:=(wS9 v38o.1 (65535:Int))
 let v45o:=(wS9 v42o.1 (65535:Int))
 let v48o:=(wS9 v45o.1 (65535:Int))
 let v51o:=(wS9 v48o.1 (65535:Int))
 let s_4:=((wW6 v38o.1 (65535:Int)),(wW6 v42o.1 (65535:Int)),(wW6 v45o.1 (65535:Int)),(wW6 v48o.1 (65535:Int)),())
 let v56:=(decide ((len a5.2.2.1)>0))
 let v62:=(len a5.2.2.1)
 let v63:=(v62-1)
 let v68:=(bif v56 then (Ty.eqb T45 (nth a5.2.2.1 v63 Z45) s_4) else false)
 let m0:=(bif v68 then (wZ1 v51o.1 (4:Int)).1 else v51o.1)
 let y13:=(m0,(a2.1,a2.2.1,a2.2.2.1,()),a3,a4,(v38+1),s_4,())
 let x13:=((a5.1,a5.2.1,a5.2.2.1,()),(0:Int),())
 let r13_4_0:=(vK1 y13 (zC4 (vA4 y13) (wW4 y13) x13))
 (((vA8 a0)∧((v19=true→InR (a3*a4))∧(v28=true→(InR (a3*a4)∧(InR (v32-v35)∧(InR (v36-1)∧((wU0 v18o.1 v37)∧(InR (v38+1)∧((wU0 v38o.1 (65535:Int))∧((wU0 v42o.1 (65535:Int))∧((wU0 v45o.1 (65535:Int))∧((wU0 v48o.1 (65535:Int))∧((v56=true→InR (v62-1))∧((v56=true→InB v63 (len a5.2.2.1))∧((v68=true→(vD6 v51o.1 (4:Int)))∧(xQ1 (vA4 y13) (wW4 y13) (wZ2 y13) x13)))))))))))))))),v28,(m0,(a2.1,a2.2.1,a2.2.2.1,()),(r13_4_0.1,r13_4_0.2.1,r13_4_0.2.2.1,()),()))
def wV2 y x:=(vE9 y x).1
def wX1 y x:=(vE9 y x).2.1
def wU3 y x:=(vE9 y x).2.2
instance (y x):Decidable (wV2 y x):=by unfold wV2 vE9;dsimp only;infer_instance
def wT9 (y:wZ8)(x:wU9):D71:=
 (vA9 x.1).1
def vV9 (y:wZ8)(x:wU9):(Int×Int×(List D45)×Unit):=
 let a2:=x.2.1
 (a2.1,a2.2.1,a2.2.2.1,())
def wT7 (y:wZ8)(x:wU9):(Int×Int×(List D45)×Unit):=
 let a5:=x.2.2.1
 (a5.1,a5.2.1,a5.2.2.1,())
def vS0:List (Nat×Sh):=[(0,(.box T71 (.val T71))),(2,(.box T23 (.agg (.cons (.int .i64) (.cons (.int .i64) (.cons (.sl T45) .nl))) (.cons vI (.cons vI (.cons (.own T45 400200 false) .nl)))))),(5,(.box T23 (.agg (.cons (.int .i64) (.cons (.int .i64) (.cons (.sl T45) .nl))) (.cons vI (.cons vI (.cons (.own T45 400500 false) .nl))))))]
def uB7:=li [(3,vI),(4,vI)] [(0,(.box T71 (.val T71))),(2,(.box T23 (.agg (.cons (.int .i64) (.cons (.int .i64) (.cons (.sl T45) .nl))) (.cons vI (.cons vI (.cons (.own T45 400200 false) .nl)))))),(5,(.box T23 (.agg (.cons (.int .i64) (.cons (.int .i64) (.cons (.sl T45) .nl))) (.cons vI (.cons vI (.cons (.own T45 400500 false) .nl))))))] wX1 wU3 wV2 (fun y x=>[ex 2 none vS0 ((wT9 y x),(vV9 y x),(wT7 y x),())]) [vS0]
def vQ7 (p0:D71):Prop×D23×(D71×Unit):=
 let v11:=(wZ3 p0)
 let y3:=(v11.1,v11.2.1,())
 let x3:=((vI5 p0).1,((0:Int),(0:Int),([]:List D45),()),(v11.1,v11.2.1,([]:List D45),()),())
 let e3:=(zC4 (wX1 y3) (wU3 y3) x3)
 let r3_2_0:=(wT9 y3 e3)
 let r3_2_2:=(wT7 y3 e3)
 let v83o:=(vA9 r3_2_0)
 let v84:=((wW7 r3_2_0)!=0)
 (((vK0 p0)∧((xQ1 (wX1 y3) (wU3 y3) (wV2 y3) x3)∧(vA8 r3_2_0))),((bif v84 then (0:Int) else r3_2_2.1),(bif v84 then (0:Int) else r3_2_2.2.1),(bif v84 then [] else r3_2_2.2.2.1),()),((bif v84 then v83o.1 else v83o.1),()))
def vB0 p0:=(vQ7 p0).1
def uB8 p0:=(vQ7 p0).2.1
def vP1 p0:=(vQ7 p0).2.2
instance (p0):Decidable (vB0 p0):=by unfold vB0 vQ7;dsimp only;infer_instance
def uD3:Am.Spec:=fnSpec [(0,(.box T71 (.val T71)))] (.val T23) [(0,(.box T71 (.val T71)))] (fun x=>vB0 x.1) (fun x=>uB8 x.1) (fun x=>vP1 x.1)
theorem uI2:SK 13 (fnSpec [(0,(.box T71 (.val T71)))] (.val T23) [(0,(.box T71 (.val T71)))] (fun x=>vB0 x.1) (fun x=>uB8 x.1) (fun x=>vP1 x.1)):=fb Tryz.func13 87 [kb uB6,kb vO9,kb vU5,kb vO7] [(3,uB7),(13,vY6)] [(31,[(4,0,80,400500)]),(37,[(4,0,400500,400200)])] false [0]
end Go.Proofs.YtbiemgjkkhkdeaaGreatDoor.Am
