/- Printed by program: the functions that the statements reach, as plain functions, and their contracts. No condition. -/
import Derived.Test.YtbiemgjkkhkdeaaGreatDoorMach5
import Derived.Test.YtbiemgjkkhkdeaaGreatDoorMach2
import Derived.Test.YtbiemgjkkhkdeaaGreatDoorNatB
import Derived.Test.YtbiemgjkkhkdeaaGreatDoorProg
set_option linter.unusedVariables false
set_option synthInstance.maxSize 4000
set_option synthInstance.maxHeartbeats 400000
namespace Go.Proofs.YtbiemgjkkhkdeaaGreatDoor.Am
open Go Go.Am Go.Proofs
abbrev T45:Ty:=.st (.cons (.int .i64) (.cons (.int .i64) (.cons (.int .i64) (.cons (.int .i64) .nl))))
abbrev D45:Type:=Int×Int×Int×Int×Unit
abbrev Z45:D45:=((0:Int),(0:Int),(0:Int),(0:Int),())
abbrev T23:Ty:=.st (.cons (.int .i64) (.cons (.int .i64) (.cons (.sl T45) .nl)))
abbrev D23:Type:=Int×Int×(List D45)×Unit
abbrev T26:Ty:=.st (.cons (.int .i64) (.cons (.int .i64) (.cons (.sl (.int .i64)) .nl)))
abbrev D26:Type:=Int×Int×(List Int)×Unit
abbrev T43:Ty:=.st (.cons (.int .i64) (.cons (.int .i64) (.cons (.int .i64) (.cons (.int .i64) (.cons (.int .i64) (.cons (.int .i64) .nl))))))
abbrev D43:Type:=Int×Int×Int×Int×Int×Int×Unit
abbrev Z43:D43:=((0:Int),(0:Int),(0:Int),(0:Int),(0:Int),(0:Int),())
abbrev T111:Ty:=.st (.cons (.int .i64) (.cons T45 .nl))
abbrev D111:Type:=Int×D45×Unit
abbrev Z111:D111:=((0:Int),Z45,())
abbrev T106:Ty:=.st (.cons (.int .i64) (.cons (.int .i64) .nl))
abbrev D106:Type:=Int×Int×Unit
abbrev Z106:D106:=((0:Int),(0:Int),())
abbrev T114:Ty:=.st (.cons (.int .i64) (.cons (.arr 3 T106) .nl))
abbrev D114:Type:=Int×(List D106)×Unit
abbrev Z114:D114:=((0:Int),(List.replicate 3 Z106),())
abbrev T50:Ty:=.st (.cons (.int .i64) (.cons (.int .i64) (.cons (.int .i64) (.cons (.sl T106) .nl))))
abbrev D50:Type:=Int×Int×Int×(List D106)×Unit
abbrev T52:Ty:=.st (.cons (.int .i64) (.cons (.int .i64) (.cons (.int .i64) (.cons .str (.cons .bool (.cons .bool (.cons .bool (.cons (.int .i64) (.cons (.int .i64) (.cons T26 (.cons T43 (.cons (.int .i64) (.cons T23 (.cons T45 (.cons (.int .i64) (.cons (.sl (.int .i64)) (.cons (.int .i64) (.cons (.sl T111) (.cons (.sl T114) (.cons (.int .i64) (.cons (.int .i64) (.cons (.int .i64) (.cons (.int .i64) (.cons .str (.cons (.int .i64) (.cons (.int .i64) (.cons (.int .i64) (.cons T50 .nl))))))))))))))))))))))))))))
abbrev D52:Type:=Int×Int×Int×(List UInt8)×Bool×Bool×Bool×Int×Int×D26×D43×Int×D23×D45×Int×(List Int)×Int×(List D111)×(List D114)×Int×Int×Int×Int×(List UInt8)×Int×Int×Int×D50×Unit
abbrev T60:Ty:=.st (.cons .bool (.cons .str (.cons (.int .i64) (.cons (.int .i64) .nl))))
abbrev D60:Type:=Bool×(List UInt8)×Int×Int×Unit
abbrev T71:Ty:=.st (.cons .str (.cons (.int .i64) (.cons (.int .i64) (.cons .bool .nl))))
abbrev D71:Type:=(List UInt8)×Int×Int×Bool×Unit
abbrev T147:Ty:=.st (.cons .str (.cons .str .nl))
abbrev T149:Ty:=.st (.cons (.int .i64) (.cons .str (.cons (.int .i64) (.cons (.int .i64) (.cons T23 .nl)))))
abbrev T90:Ty:=.st (.cons (.int .i64) (.cons (.int .i64) (.cons (.int .i64) (.cons (.sl T52) (.cons (.int .i64) (.cons T26 (.cons (.sl T147) (.cons (.sl T149) .nl))))))))
instance:GlobTab:=⟨⟨[]⟩⟩
theorem glob_of (W:World){L:Prop}(_:L):GlobOk (fun b _=>if b<W.heap.size then 0 else 2) W:=fun _ _ _ h=>(List.not_mem_nil h).elim
def tys:List (Nat×Ty):=[(3,(.int .i64)),(4,.bool),(5,(.int .u8)),(9,.str),(22,(.sl T45)),(24,T23),(25,(.sl (.int .i64))),(27,T26),(30,(.ptr T60)),(32,(.ptr T71)),(44,T43),(46,T45),(47,(.sl T111)),(48,(.sl T114)),(49,(.sl T106)),(51,T50),(53,T52),(59,(.int .i64)),(61,T60),(72,T71),(75,(.ptr (.int .i64))),(76,(.sl (.ptr (.int .i64)))),(91,T90),(95,(.sl (.int .u8))),(107,T106),(112,T111),(113,(.arr 3 T106)),(115,T114),(118,(.ptr .bool)),(120,(.ptr T52)),(129,(.int .u64)),(137,(.sl .bool)),(140,(.ptr (.int .u8))),(141,(.sl (.ptr .bool)))]
theorem vD8:zM4 Tryz.prog tys=true:=by kernel_rfl
theorem mixed:Tryz.prog.follows .mixedOrders=true:=by kernel_rfl
theorem fq {c:Ctx}{f:Nat}{fn:Func}{ps:List (Nat×Sh)}{rs:Sh}{os:List (Nat×Sh)}{ok:zB5 ps→Prop}{F:zB5 ps→rs.den}{o:zB5 ps→yE4 os}(hf:Tryz.prog.funcs[f]?=some fn)(hs:xQ9 Tryz.prog c.fns)(hmp:(yL6 Tryz.prog c.maps&&yX3 Tryz.prog c.fts)=true:=by kernel_rfl)(he:c.exts=[]:=by rfl)(ht:zM4 Tryz.prog c.tys=true:=by exact vD8)(hn:Nat.ble c.n vNo=true:=by kernel_rfl)(hcl:c.clones=[]:=by rfl)(hbl:c.blds=[]:=by rfl)(hk:yV6 fn c ps os=true:=by kernel_rfl)(hbs:zI5 (fn.body.getD .skip)=[]:=by kernel_rfl)(hsum:∀ x,wB3 c (fn.body.getD .skip) fn.results.toList ps rs os x=some (ok x,F x,o x):=by intro x;kernel_rfl):SpecOk Tryz.prog f (fnSpec ps rs os ok F o):=wS6 (wI7 ht hmp hs he hn hcl hbl) mixed hf hk hbs trivial hsum
theorem fl {c:Ctx}{f:Nat}{fn:Func}{ps:List (Nat×Sh)}{rs:Sh}{os:List (Nat×Sh)}{ok:zB5 ps→Prop}{F:zB5 ps→rs.den}{o:zB5 ps→yE4 os}(hc:CtxOk Tryz.prog c)(hf:Tryz.prog.funcs[f]?=some fn){bs:List Code}(hL:zQ6 Tryz.prog c bs)(hk:yV6 fn c ps os=true:=by kernel_rfl)(hbs:zI5 (fn.body.getD .skip)=bs:=by kernel_rfl)(hsum:∀ x,wB3 c (fn.body.getD .skip) fn.results.toList ps rs os x=some (ok x,F x,o x):=by intro x;kernel_rfl):SpecOk Tryz.prog f (fnSpec ps rs os ok F o):=wS6 hc mixed hf hk hbs hL hsum
theorem lm {c:Ctx}{body:Code}{sp:St→Option Out}{ly lx:List (Nat×Sh)}{g:zB5 ly→zB5 lx→Bool}{next:zB5 ly→zB5 lx→zB5 lx}{ok:zB5 ly→zB5 lx→Prop}{es:zB5 ly→zB5 lx→List Comp}(hc:CtxOk Tryz.prog c)(hs:sp=wB1 ly lx g next ok es)(les:List (List (Nat×Sh))){bs:List Code}(hL:zQ6 Tryz.prog c bs)(hb:zI5 body=bs:=by kernel_rfl)(hw:zC4 c.keep body=true:=by kernel_rfl)(hl:Go.Am.look (fun _=>none) c.loops (zE2 body)=sp:=by kernel_rfl)(hsum:∀ y x,yE5 c body ly lx les y x=some (ok y x,g y x,y,next y x,es y x):=by intro y x;kernel_rfl):xI0 Tryz.prog c body:=wS5 hc mixed hs les hb hL hw hl hsum
@[reducible] def kb {n:Nat}{s:Am.Spec}(h:SpecOk Tryz.prog n s):Fb Tryz.prog:=⟨n,s,h⟩
@[reducible] def li:=Li.mk
theorem fx (X:Ctx→Ctx){f:Nat}{fn:Func}(hf:Tryz.prog.funcs[f]?=some fn)(n:Nat)(cs:List (Fb Tryz.prog):=[])(ls:List (Nat×Li):=[])(gh:List (Nat×List (Nat×Nat×Nat×Nat)):=[])(w:Bool:=false)(kp wr:List Nat:=[]){ps:List (Nat×Sh)}{rs:Sh}{os:List (Nat×Sh)}{ok:zB5 ps→Prop}{F:zB5 ps→rs.den}{o:zB5 ps→yE4 os}(hX:(X (Cx tys (Fb.l cs) (Li.l ls) gh w n kp wr)).fns=Fb.l cs:=by rfl)(hk:yV6 fn (X (Cx tys (Fb.l cs) (Li.l ls) gh w n kp wr)) ps os=true:=by kernel_rfl)(hl:wB7 (X (Cx tys (Fb.l cs) (Li.l ls) gh w n kp wr)) (zM8 (fn.body.getD .skip)) ls=wB8 ls:=by kernel_rfl)(hsum:∀ x,wB3 (X (Cx tys (Fb.l cs) (Li.l ls) gh w n kp wr)) (fn.body.getD .skip) fn.results.toList ps rs os x=some (ok x,F x,o x):=by intro x;kernel_rfl)(hmp:(yL6 Tryz.prog (X (Cx tys (Fb.l cs) (Li.l ls) gh w n kp wr)).maps&&yX3 Tryz.prog (X (Cx tys (Fb.l cs) (Li.l ls) gh w n kp wr)).fts)=true:=by kernel_rfl)(he:(X (Cx tys (Fb.l cs) (Li.l ls) gh w n kp wr)).exts=[]:=by rfl)(ht:zM4 Tryz.prog (X (Cx tys (Fb.l cs) (Li.l ls) gh w n kp wr)).tys=true:=by exact vD8)(hn:Nat.ble (X (Cx tys (Fb.l cs) (Li.l ls) gh w n kp wr)).n vNo=true:=by kernel_rfl)(hcl:(X (Cx tys (Fb.l cs) (Li.l ls) gh w n kp wr)).clones=[]:=by rfl)(hbl:(X (Cx tys (Fb.l cs) (Li.l ls) gh w n kp wr)).blds=[]:=by rfl):SpecOk Tryz.prog f (fnSpec ps rs os ok F o):=wS7 (wI7 ht hmp (by rw[hX];exact Fb.all cs) he hn hcl hbl) mixed hf hk hl hsum
theorem fy (X:Ctx→Ctx){f:Nat}{fn:Func}(hf:Tryz.prog.funcs[f]?=some fn)(n:Nat)(cs:List (Fb Tryz.prog):=[])(ls:List (Nat×Li):=[])(gh:List (Nat×List (Nat×Nat×Nat×Nat)):=[])(w:Bool:=false)(kp wr:List Nat:=[]){ps:List (Nat×Sh)}{rs:Sh}{os:List (Nat×Sh)}{ok:zB5 ps→Prop}{F:zB5 ps→rs.den}{o:zB5 ps→yE4 os}(hX:(X (Cx tys (Fb.l cs) (Li.l ls) gh w n kp wr)).fns=Fb.l cs:=by rfl)(hk:yV6 fn (X (Cx tys (Fb.l cs) (Li.l ls) gh w n kp wr)) ps os=true:=by kernel_rfl)(hl:wB7 (X (Cx tys (Fb.l cs) (Li.l ls) gh w n kp wr)) (zM8 (fn.body.getD .skip)) ls=wB8 ls:=by kernel_rfl)(hsum:∀ x,wB3 (X (Cx tys (Fb.l cs) (Li.l ls) gh w n kp wr)) (fn.body.getD .skip) fn.results.toList ps rs os x=some (ok x,F x,o x):=by intro x;kernel_rfl)(hmp:(yL6 Tryz.prog (X (Cx tys (Fb.l cs) (Li.l ls) gh w n kp wr)).maps&&yX3 Tryz.prog (X (Cx tys (Fb.l cs) (Li.l ls) gh w n kp wr)).fts)=true:=by kernel_rfl)(he:(X (Cx tys (Fb.l cs) (Li.l ls) gh w n kp wr)).exts=[]:=by rfl)(ht:zM4 Tryz.prog (X (Cx tys (Fb.l cs) (Li.l ls) gh w n kp wr)).tys=true:=by exact vD8)(hn:Nat.ble (X (Cx tys (Fb.l cs) (Li.l ls) gh w n kp wr)).n vNo=true:=by kernel_rfl)(hcl:(X (Cx tys (Fb.l cs) (Li.l ls) gh w n kp wr)).clones=[]:=by rfl)(hbl:(X (Cx tys (Fb.l cs) (Li.l ls) gh w n kp wr)).blds=[(97,5,50,57)]:=by rfl):SpecOk Tryz.prog f (fnSpec ps rs os ok F o):=wS7 (wO5 ht hmp (by rw[hX];exact Fb.all cs) he hn sP7 hbl hcl) mixed hf hk hl hsum
theorem ft (lv:List (Nat×List Nat))(m:Nat)(X:Ctx→Ctx){f:Nat}{fn:Func}(hf:Tryz.prog.funcs[f]?=some fn)(n:Nat)(cs:List (Fb Tryz.prog):=[])(ls:List (Nat×Li):=[])(gh:List (Nat×List (Nat×Nat×Nat×Nat)):=[])(w:Bool:=false)(kp wr:List Nat:=[]){ps:List (Nat×Sh)}{rs:Sh}{os:List (Nat×Sh)}{ok:zB5 ps→Prop}{F:zB5 ps→rs.den}{o:zB5 ps→yE4 os}(hX:(X (Cx tys (Fb.l cs) (Li.l ls) gh w n kp wr)).fns=Fb.l cs:=by rfl)(hk:yV6 fn (X (Cx tys (Fb.l cs) (Li.l ls) gh w n kp wr)) ps os=true:=by kernel_rfl)(hl:wB7 (X (Cx tys (Fb.l cs) (Li.l ls) gh w n kp wr)) (zM8 (fn.body.getD .skip)) ls=wB8 ls:=by kernel_rfl)(hsum:∀ x,wR8 (X (Cx tys (Fb.l cs) (Li.l ls) gh w n kp wr)) lv m (fn.body.getD .skip) fn.results.toList ps rs os x=some (ok x,F x,o x):=by intro x;kernel_rfl)(hmp:(yL6 Tryz.prog (X (Cx tys (Fb.l cs) (Li.l ls) gh w n kp wr)).maps&&yX3 Tryz.prog (X (Cx tys (Fb.l cs) (Li.l ls) gh w n kp wr)).fts)=true:=by kernel_rfl)(he:(X (Cx tys (Fb.l cs) (Li.l ls) gh w n kp wr)).exts=[]:=by rfl)(ht:zM4 Tryz.prog (X (Cx tys (Fb.l cs) (Li.l ls) gh w n kp wr)).tys=true:=by exact vD8)(hn:Nat.ble (X (Cx tys (Fb.l cs) (Li.l ls) gh w n kp wr)).n vNo=true:=by kernel_rfl)(hcl:(X (Cx tys (Fb.l cs) (Li.l ls) gh w n kp wr)).clones=[]:=by rfl)(hbl:(X (Cx tys (Fb.l cs) (Li.l ls) gh w n kp wr)).blds=[]:=by rfl):SpecOk Tryz.prog f (fnSpec ps rs os ok F o):=wR0 (lv:=lv) (n:=m) (wI7 ht hmp (by rw[hX];exact Fb.all cs) he hn hcl hbl) mixed hf hk hl hsum
theorem fb {f:Nat}{fn:Func}(hf:Tryz.prog.funcs[f]?=some fn)(n:Nat)(cs:List (Fb Tryz.prog):=[])(ls:List (Nat×Li):=[])(gh:List (Nat×List (Nat×Nat×Nat×Nat)):=[])(w:Bool:=false)(kp wr:List Nat:=[]){ps:List (Nat×Sh)}{rs:Sh}{os:List (Nat×Sh)}{ok:zB5 ps→Prop}{F:zB5 ps→rs.den}{o:zB5 ps→yE4 os}(hk:yV6 fn (Cx tys (Fb.l cs) (Li.l ls) gh w n kp wr) ps os=true:=by kernel_rfl)(hl:wB7 (Cx tys (Fb.l cs) (Li.l ls) gh w n kp wr) (zM8 (fn.body.getD .skip)) ls=wB8 ls:=by kernel_rfl)(hsum:∀ x,wB3 (Cx tys (Fb.l cs) (Li.l ls) gh w n kp wr) (fn.body.getD .skip) fn.results.toList ps rs os x=some (ok x,F x,o x):=by intro x;kernel_rfl)(hmp:(yL6 Tryz.prog (Cx tys (Fb.l cs) (Li.l ls) gh w n kp wr).maps&&yX3 Tryz.prog (Cx tys (Fb.l cs) (Li.l ls) gh w n kp wr).fts)=true:=by kernel_rfl)(he:(Cx tys (Fb.l cs) (Li.l ls) gh w n kp wr).exts=[]:=by rfl)(ht:zM4 Tryz.prog (Cx tys (Fb.l cs) (Li.l ls) gh w n kp wr).tys=true:=by exact vD8)(hn:Nat.ble (Cx tys (Fb.l cs) (Li.l ls) gh w n kp wr).n vNo=true:=by kernel_rfl)(hcl:(Cx tys (Fb.l cs) (Li.l ls) gh w n kp wr).clones=[]:=by rfl)(hbl:(Cx tys (Fb.l cs) (Li.l ls) gh w n kp wr).blds=[]:=by rfl):SpecOk Tryz.prog f (fnSpec ps rs os ok F o):=wS7 (wI7 ht hmp (Fb.all cs) he hn hcl hbl) mixed hf hk hl hsum
abbrev SK (n:Nat)(s:Am.Spec):Prop:=SpecOk Tryz.prog n s
@[reducible] def sp1 (A R:Sh) (ok:A.den→Prop) (f:A.den→R.den):Am.Spec:=fnSpec [(0,A)] R [] (fun x=>ok x.1) (fun x=>f x.1) (fun _=>())
@[reducible] def sp2 (A B R:Sh) (ok:A.den→B.den→Prop) (f:A.den→B.den→R.den):Am.Spec:=fnSpec [(0,A),(1,B)] R [] (fun x=>ok x.1 x.2.1) (fun x=>f x.1 x.2.1) (fun _=>())
@[reducible] def sp3 (A B C R:Sh) (ok:A.den→B.den→C.den→Prop) (f:A.den→B.den→C.den→R.den):Am.Spec:=fnSpec [(0,A),(1,B),(2,C)] R [] (fun x=>ok x.1 x.2.1 x.2.2.1) (fun x=>f x.1 x.2.1 x.2.2.1) (fun _=>())
@[reducible] def sp4 (A B C D R:Sh) (ok:A.den→B.den→C.den→D.den→Prop) (f:A.den→B.den→C.den→D.den→R.den):Am.Spec:=fnSpec [(0,A),(1,B),(2,C),(3,D)] R [] (fun x=>ok x.1 x.2.1 x.2.2.1 x.2.2.2.1) (fun x=>f x.1 x.2.1 x.2.2.1 x.2.2.2.1) (fun _=>())
def sL6 (p0:List UInt8)(p1:List UInt8):Prop×Bool:=
 let v9:=(decide ((len p0)≥(len p1)))
 let v13:=(len p1)
 ((v9=true→(0≤v13∧v13≤len p0)),(bif v9 then ((List.take (Int.toNat v13) p0)==p1) else false))
def tC8 p0 p1:=(sL6 p0 p1).1
def f114 p0 p1:=(sL6 p0 p1).2
instance (p0 p1):Decidable (tC8 p0 p1):=by unfold tC8 sL6;dsimp only;infer_instance
theorem sL7:SK 114 (sp2 vS vS vB tC8 f114):=fb Tryz.func114 18
def sL8 (p0:List UInt8)(p1:List UInt8):Prop×((List UInt8)×Bool×Unit):=
 let v9:=(!(f114 p0 p1))
 let v13:=(len p1)
 (((tC8 p0 p1)∧((!v9)=true→(0≤v13∧v13≤len p0))),((bif v9 then p0 else (List.drop (Int.toNat v13) p0)),(bif v9 then false else true),()))
def tC9 p0 p1:=(sL8 p0 p1).1
def f102 p0 p1:=(sL8 p0 p1).2
instance (p0 p1):Decidable (tC9 p0 p1):=by unfold tC9 sL8;dsimp only;infer_instance
theorem sL9:SK 102 (sp2 vS vS (.tup (.cons vS (.cons vB .nl))) tC9 f102):=fb Tryz.func102 15 [kb sL7]
def f87t (p0:List UInt8)(p1:List UInt8):Prop×((List UInt8)×Bool×Unit):=
 let v8:=(f102 p0 p1)
 ((tC9 p0 p1),(v8.1,v8.2.1,()))
def tW2 p0 p1:=(f87t p0 p1).1
def f87 p0 p1:=(f87t p0 p1).2
instance (p0 p1):Decidable (tW2 p0 p1):=by unfold tW2 f87t;dsimp only;infer_instance
theorem sJ9:SK 87 (sp2 vS vS (.tup (.cons vS (.cons vB .nl))) tW2 f87):=fb Tryz.func87 11 [kb sL9]
def tD (p0:D60):Prop×Bool×(D60×Unit):=
 (True,(bif (bif (!false) then p0.1 else false) then (p0.2.2.2.1==0) else false),(p0,()))
def vK5 p0:=(tD p0).1
def uK1 p0:=(tD p0).2.1
def vN5 p0:=(tD p0).2.2
instance (p0):Decidable (vK5 p0):=by unfold vK5 tD;dsimp only;infer_instance
theorem vV7:SK 84 (fnSpec [(0,(.box T60 (.val T60)))] vB [(0,(.box T60 (.val T60)))] (fun x=>vK5 x.1) (fun x=>uK1 x.1) (fun x=>vN5 x.1)):=fb Tryz.func84 18 [] [] [] false [0]
abbrev vL7:Type:=(Unit)
abbrev vD9:Type:=(D60×Int×Int×Unit)
def vR6 (y:vL7)(x:vD9):Prop×Bool×vD9:=
 let a0:=x.1
 let a4:=x.2.2.1
 let v20:=(decide (a0.2.2.1≥(len a0.2.1)))
 let v32:=(wR5 a0.2.1 a0.2.2.1)
 let v46:=(bif (bif (a4==9) then (decide (v32>1)) else false) then true else (bif (decide (a4>0)) then (v32==0) else false))
 let v62:=(IntKind.wrap .i64 (7*a4))
 (((!v20)=true→(InB a0.2.2.1 (len a0.2.1)∧((!v46)=true→0≤v62))),((!v20)&&((!v46)&&(!(decide (v32<128))))),((a0.1,a0.2.1,(IntKind.wrap .i64 (a0.2.2.1+1)),a0.2.2.2.1,()),(ior .u64 x.2.1 (IntKind.wrap .u64 (wT0 (IntKind.wrap .u64 (wS9 .u8 v32 (127:Int))) v62 64))),(IntKind.wrap .i64 (a4+1)),()))
def vJ4 y x:=(vR6 y x).1
def vE y x:=(vR6 y x).2.1
def vD3 y x:=(vR6 y x).2.2
instance (y x):Decidable (vJ4 y x):=by unfold vJ4 vR6;dsimp only;infer_instance
def vN6 (y:vL7)(x:vD9):D60:=
 let a0:=x.1
 let a4:=x.2.2.1
 let v32:=(wR5 a0.2.1 a0.2.2.1)
 let m0:=(bif (bif (bif (a4==9) then (decide (v32>1)) else false) then true else (bif (decide (a4>0)) then (v32==0) else false)) then (a0.1,a0.2.1,a0.2.2.1,(4:Int),()) else (a0.1,a0.2.1,(IntKind.wrap .i64 (a0.2.2.1+1)),a0.2.2.2.1,()))
 (bif (decide (a0.2.2.1≥(len a0.2.1))) then (a0.1,a0.2.1,a0.2.2.1,(5:Int),()) else m0)
def vN7 (y:vL7)(x:vD9):Int:=
 let a0:=x.1
 let a4:=x.2.2.1
 let v32:=(wR5 a0.2.1 a0.2.2.1)
 let m2:=(bif (bif (bif (a4==9) then (decide (v32>1)) else false) then true else (bif (decide (a4>0)) then (v32==0) else false)) then (0:Int) else (ior .u64 x.2.1 (IntKind.wrap .u64 (wT0 (IntKind.wrap .u64 (wS9 .u8 v32 (127:Int))) (IntKind.wrap .i64 (7*a4)) 64))))
 (bif (decide (a0.2.2.1≥(len a0.2.1))) then (0:Int) else m2)
def uQ:List (Nat×Sh):=[(0,(.box T60 (.val T60))),(2,(.val (.int .u64)))]
def tG8:=li [] [(0,(.box T60 (.val T60))),(3,(.val (.int .u64))),(4,vI)] vE vD3 vJ4 (fun y x=>[ex 1 none uQ ((vN6 y x),(vN7 y x),())]) [uQ]
def uO0 (p0:D60):Prop×Int×(D60×Unit):=
 let v7o:=(vN5 p0)
 let v8:=(!(uK1 p0))
 let x6:=(v7o.1,(0:Int),(0:Int),())
 let e6:=(zC5 (vE ()) (vD3 ()) x6)
 (((vK5 p0)∧((!v8)=true→(xQ5 (vE ()) (vD3 ()) (vJ4 ()) x6))),(bif v8 then (0:Int) else (vN7 () e6)),((bif v8 then v7o.1 else (vN6 () e6)),()))
def wW3 p0:=(uO0 p0).1
def wV2 p0:=(uO0 p0).2.1
def vC p0:=(uO0 p0).2.2
instance (p0):Decidable (wW3 p0):=by unfold wW3 uO0;dsimp only;infer_instance
theorem uU:SK 83 (fnSpec [(0,(.box T60 (.val T60)))] (.val (.int .u64)) [(0,(.box T60 (.val T60)))] (fun x=>wW3 x.1) (fun x=>wV2 x.1) (fun x=>vC x.1)):=fb Tryz.func83 68 [kb vV7] [(6,tG8)] [] true [0]
def uU0 (p0:D60)(p1:Int):Prop×Int×(D60×Unit):=
 let v7:=(wV2 p0)
 let v7o:=(vC p0)
 let v9o:=(vN5 v7o.1)
 let v10:=(!(uK1 v7o.1))
 let v15:=(decide (v7>(IntKind.wrap .u64 (wQ1 p1 (0:Int)))))
 (((wW3 p0)∧(vK5 v7o.1)),(bif v10 then (0:Int) else (bif v15 then (0:Int) else (IntKind.wrap .i64 v7))),((bif v10 then v9o.1 else (bif v15 then (v9o.1.1,v9o.1.2.1,v9o.1.2.2.1,(3:Int),()) else v9o.1)),()))
def wV p0 p1:=(uU0 p0 p1).1
def wT6 p0 p1:=(uU0 p0 p1).2.1
def wT3 p0 p1:=(uU0 p0 p1).2.2
instance (p0 p1):Decidable (wV p0 p1):=by unfold wV uU0;dsimp only;infer_instance
theorem vO0:SK 36 (fnSpec [(0,(.box T60 (.val T60))),(1,vI)] vI [(0,(.box T60 (.val T60)))] (fun x=>wV x.1 x.2.1) (fun x=>wT6 x.1 x.2.1) (fun x=>wT3 x.1 x.2.1)):=fb Tryz.func36 21 [kb uU,kb vV7] [] [] true [0]
def uU1 (p0:D60):Prop×Int×(D60×Unit):=
 let v4o:=(vN5 p0)
 let v5:=(!(uK1 p0))
 ((vK5 p0),(bif v5 then (0:Int) else (IntKind.wrap .i64 ((len v4o.1.2.1)-v4o.1.2.2.1))),((bif v5 then v4o.1 else v4o.1),()))
def vS3 p0:=(uU1 p0).1
def uK2 p0:=(uU1 p0).2.1
def uF0 p0:=(uU1 p0).2.2
instance (p0):Decidable (vS3 p0):=by unfold vS3 uU1;dsimp only;infer_instance
theorem uK3:SK 45 (fnSpec [(0,(.box T60 (.val T60)))] vI [(0,(.box T60 (.val T60)))] (fun x=>vS3 x.1) (fun x=>uK2 x.1) (fun x=>uF0 x.1)):=fb Tryz.func45 16 [kb vV7] [] [] true [0]
def uU2 (p0:D60)(p1:Int):Prop×(List UInt8)×(D60×Unit):=
 let v9:=(wT6 p0 p1)
 let v9o:=(wT3 p0 p1)
 let v11o:=(vN5 v9o.1)
 let v12:=(!(uK1 v9o.1))
 let v15o:=(uF0 v11o.1)
 let v16:=(decide (v9>(uK2 v11o.1)))
 let v33:=(IntKind.wrap .i64 (v15o.1.2.2.1+v9))
 (((wV p0 p1)∧((vK5 v9o.1)∧((!v12)=true→((vS3 v11o.1)∧((!v16)=true→(0≤v15o.1.2.2.1∧v15o.1.2.2.1≤v33∧v33≤len v15o.1.2.1)))))),(bif v12 then ([]:List UInt8) else (bif v16 then ([]:List UInt8) else (List.drop (Int.toNat v15o.1.2.2.1) (List.take (Int.toNat v33) v15o.1.2.1)))),((bif v12 then v11o.1 else (bif v16 then (v15o.1.1,v15o.1.2.1,v15o.1.2.2.1,(5:Int),()) else (v15o.1.1,v15o.1.2.1,(IntKind.wrap .i64 (v15o.1.2.2.1+v9)),v15o.1.2.2.2.1,()))),()))
def wV8 p0 p1:=(uU2 p0 p1).1
def vH0 p0 p1:=(uU2 p0 p1).2.1
def wV5 p0 p1:=(uU2 p0 p1).2.2
instance (p0 p1):Decidable (wV8 p0 p1):=by unfold wV8 uU2;dsimp only;infer_instance
theorem tG9:SK 64 (fnSpec [(0,(.box T60 (.val T60))),(1,vI)] vS [(0,(.box T60 (.val T60)))] (fun x=>wV8 x.1 x.2.1) (fun x=>vH0 x.1 x.2.1) (fun x=>wV5 x.1 x.2.1)):=fb Tryz.func64 44 [kb vO0,kb uK3,kb vV7] [] [] true [0]
def f10t (p0:List UInt8):Prop×Unit×(D60×Unit):=
 (True,(),((true,p0,(0:Int),(0:Int),()),()))
def tH p0:=(f10t p0).1
def f10 p0:=(f10t p0).2.1
def sG p0:=(f10t p0).2.2
instance (p0):Decidable (tH p0):=by unfold tH f10t;dsimp only;infer_instance
def sG0:Am.Spec:=fnSpec [(0,vS)] (.ref 900000 T60) [(900000,(.box T60 (.val T60)))] (fun x=>tH x.1) (fun x=>f10 x.1) (fun x=>sG x.1)
theorem tW3:SK 10 (fnSpec [(0,vS)] (.ref 900000 T60) [(900000,(.box T60 (.val T60)))] (fun x=>tH x.1) (fun x=>f10 x.1) (fun x=>sG x.1)):=fb Tryz.func10 6 [] [] [(3,[(6,5,0,900000)])] false [900000]
def f11t (p0:List UInt8):Prop×Unit×(D71×Unit):=
 (True,(),((p0,(0:Int),(0:Int),true,()),()))
def tH0 p0:=(f11t p0).1
def f11 p0:=(f11t p0).2.1
def sG1 p0:=(f11t p0).2.2
instance (p0):Decidable (tH0 p0):=by unfold tH0 f11t;dsimp only;infer_instance
def sG2:Am.Spec:=fnSpec [(0,vS)] (.ref 900000 T71) [(900000,(.box T71 (.val T71)))] (fun x=>tH0 x.1) (fun x=>f11 x.1) (fun x=>sG1 x.1)
theorem sP8:SK 11 (fnSpec [(0,vS)] (.ref 900000 T71) [(900000,(.box T71 (.val T71)))] (fun x=>tH0 x.1) (fun x=>f11 x.1) (fun x=>sG1 x.1)):=fb Tryz.func11 6 [] [] [(3,[(6,5,0,900000)])] false [900000]
def tD0 (p0:D71):Prop×Int×(D71×Unit):=
 (True,(bif (bif false then true else (!p0.2.2.2.1)) then (14:Int) else p0.2.2.1),(p0,()))
def vE0 p0:=(tD0 p0).1
def wZ1 p0:=(tD0 p0).2.1
def vI4 p0:=(tD0 p0).2.2
instance (p0):Decidable (vE0 p0):=by unfold vE0 tD0;dsimp only;infer_instance
theorem uB1:SK 38 (fnSpec [(0,(.box T71 (.val T71)))] vI [(0,(.box T71 (.val T71)))] (fun x=>vE0 x.1) (fun x=>wZ1 x.1) (fun x=>vI4 x.1)):=fb Tryz.func38 16 [] [] [] false [0]
def tD1 (p0:D60):Prop×Int×(D60×Unit):=
 (True,(bif (bif false then true else (!p0.1)) then (14:Int) else p0.2.2.2.1),(p0,()))
def wX1 p0:=(tD1 p0).1
def wW0 p0:=(tD1 p0).2.1
def wZ3 p0:=(tD1 p0).2.2
instance (p0):Decidable (wX1 p0):=by unfold wX1 tD1;dsimp only;infer_instance
theorem vS4:SK 44 (fnSpec [(0,(.box T60 (.val T60)))] vI [(0,(.box T60 (.val T60)))] (fun x=>wX1 x.1) (fun x=>wW0 x.1) (fun x=>wZ3 x.1)):=fb Tryz.func44 16 [] [] [] false [0]
def tD2 (p0:D71):Prop×Bool×(D71×Unit):=
 (True,(bif (bif (!false) then p0.2.2.2.1 else false) then (p0.2.2.1==0) else false),(p0,()))
def vH2 p0:=(tD2 p0).1
def vU7 p0:=(tD2 p0).2.1
def vK6 p0:=(tD2 p0).2.2
instance (p0):Decidable (vH2 p0):=by unfold vH2 tD2;dsimp only;infer_instance
theorem vV8:SK 86 (fnSpec [(0,(.box T71 (.val T71)))] vB [(0,(.box T71 (.val T71)))] (fun x=>vH2 x.1) (fun x=>vU7 x.1) (fun x=>vK6 x.1)):=fb Tryz.func86 18 [] [] [] false [0]
def uU3 (p0:D71):Prop×Int×(D71×Unit):=
 let v4o:=(vK6 p0)
 let v5:=(!(vU7 p0))
 ((vH2 p0),(bif v5 then (0:Int) else (IntKind.wrap .i64 ((len v4o.1.1)-v4o.1.2.1))),((bif v5 then v4o.1 else v4o.1),()))
def uB2 p0:=(uU3 p0).1
def tH1 p0:=(uU3 p0).2.1
def uS3 p0:=(uU3 p0).2.2
instance (p0):Decidable (uB2 p0):=by unfold uB2 uU3;dsimp only;infer_instance
theorem tW4:SK 46 (fnSpec [(0,(.box T71 (.val T71)))] vI [(0,(.box T71 (.val T71)))] (fun x=>uB2 x.1) (fun x=>tH1 x.1) (fun x=>uS3 x.1)):=fb Tryz.func46 16 [kb vV8] [] [] true [0]
def tD3 (p0:D60):Prop×Int×(D60×Unit):=
 let v5:=(wW0 p0)
 let v5o:=(wZ3 p0)
 let v7:=(v5 !=0)
 let v10o:=(uF0 v5o.1)
 let v11:=(decide ((uK2 v5o.1)>0))
 (((wX1 p0)∧((!v7)=true→(vS3 v5o.1))),(bif v7 then v5 else (bif v11 then (6:Int) else (0:Int))),((bif v7 then v5o.1 else (bif v11 then v10o.1 else v10o.1)),()))
def uB3 p0:=(tD3 p0).1
def tW5 p0:=(tD3 p0).2.1
def tQ5 p0:=(tD3 p0).2.2
instance (p0):Decidable (uB3 p0):=by unfold uB3 tD3;dsimp only;infer_instance
theorem tW6:SK 47 (fnSpec [(0,(.box T60 (.val T60)))] vI [(0,(.box T60 (.val T60)))] (fun x=>uB3 x.1) (fun x=>tW5 x.1) (fun x=>tQ5 x.1)):=fb Tryz.func47 12 [kb vS4,kb uK3] [] [] false [0]
def tD4 (p0:D71):Prop×Int×(D71×Unit):=
 let v4o:=(vK6 p0)
 let v16:=(bif (vU7 p0) then (decide (v4o.1.2.1<(len v4o.1.1))) else false)
 (((vH2 p0)∧((!v16)=true→(vE0 v4o.1))),(bif v16 then (6:Int) else (wZ1 v4o.1)),((bif v16 then v4o.1 else (vI4 v4o.1).1),()))
def uB4 p0:=(tD4 p0).1
def tW7 p0:=(tD4 p0).2.1
def tQ6 p0:=(tD4 p0).2.2
instance (p0):Decidable (uB4 p0):=by unfold uB4 tD4;dsimp only;infer_instance
theorem tW8:SK 48 (fnSpec [(0,(.box T71 (.val T71)))] vI [(0,(.box T71 (.val T71)))] (fun x=>uB4 x.1) (fun x=>tW7 x.1) (fun x=>tQ6 x.1)):=fb Tryz.func48 19 [kb uB1,kb vV8] [] [] false [0]
def uO1 (p0:D60)(p1:D71):Prop×Bool×(D60×D71×Unit):=
 let v6o:=(wZ3 p0)
 let v8o:=(vI4 p1)
 let v9:=((wW0 p0)==(wZ1 p1))
 let g0:=(bif v9 then (uF0 v6o.1).1 else v6o.1)
 let g1:=(bif v9 then (uS3 v8o.1).1 else v8o.1)
 let v16:=(bif v9 then ((uK2 v6o.1)==(tH1 v8o.1)) else false)
 (((wX1 p0)∧((vE0 p1)∧((v9=true→(vS3 v6o.1))∧((v9=true→(uB2 v8o.1))∧((v16=true→(uB3 g0))∧(v16=true→(uB4 g1))))))),(bif v16 then ((tW5 g0)==(tW7 g1)) else false),((bif v16 then (tQ5 g0).1 else g0),(bif v16 then (tQ6 g1).1 else g1),()))
def vS5 p0 p1:=(uO1 p0 p1).1
def tH2 p0 p1:=(uO1 p0 p1).2.1
def tQ7 p0 p1:=(uO1 p0 p1).2.2
instance (p0 p1):Decidable (vS5 p0 p1):=by unfold vS5 uO1;dsimp only;infer_instance
def tO3:Am.Spec:=fnSpec [(0,(.box T60 (.val T60))),(1,(.box T71 (.val T71)))] vB [(0,(.box T60 (.val T60))),(1,(.box T71 (.val T71)))] (fun x=>vS5 x.1 x.2.1) (fun x=>tH2 x.1 x.2.1) (fun x=>tQ7 x.1 x.2.1)
theorem tW9:SK 18 (fnSpec [(0,(.box T60 (.val T60))),(1,(.box T71 (.val T71)))] vB [(0,(.box T60 (.val T60))),(1,(.box T71 (.val T71)))] (fun x=>vS5 x.1 x.2.1) (fun x=>tH2 x.1 x.2.1) (fun x=>tQ7 x.1 x.2.1)):=fx (fun c=>{ c with wants:=[(45,[]),(46,[]),(47,[]),(48,[])] }) Tryz.func18 24 [kb uB1,kb vS4,kb uK3,kb tW4,kb tW6,kb tW8] [] [] false [0,1]
def f77t (p0:Int)(p1:Int):Prop×Bool:=
 (True,(bif (bif (bif (bif (decide (p0≥0)) then (decide (p0≤256)) else false) then (decide (p1≥0)) else false) then (decide (p1≤256)) else false) then (Ty.eqb .bool (p0==0) (p1==0)) else false))
def tQ8 p0 p1:=(f77t p0 p1).1
def f77 p0 p1:=(f77t p0 p1).2
instance (p0 p1):Decidable (tQ8 p0 p1):=by unfold tQ8 f77t;dsimp only;infer_instance
theorem sP9:SK 77 (sp2 vI vI vB tQ8 f77):=fb Tryz.func77 26
def sM (p0:Int)(p1:Int)(p2:Int):Prop×Int:=
 (True,(wQ2 p2 (wQ1 p0 p1)))
def tD5 p0 p1 p2:=(sM p0 p1 p2).1
def f127 p0 p1 p2:=(sM p0 p1 p2).2
instance (p0 p1 p2):Decidable (tD5 p0 p1 p2):=by unfold tD5 sM;dsimp only;infer_instance
theorem sM0:SK 127 (sp3 vI vI vI vI tD5 f127):=fb Tryz.func127 12
def sM1 (p0:Int):Prop×Int:=
 ((tD5 p0 (0:Int) (65535:Int)),(f127 p0 (0:Int) (65535:Int)))
def uJ5 p0:=(sM1 p0).1
def f112 p0:=(sM1 p0).2
instance (p0):Decidable (uJ5 p0):=by unfold uJ5 sM1;dsimp only;infer_instance
theorem sM2:SK 112 (sp1 vI vI uJ5 f112):=fb Tryz.func112 5 [kb sM0]
def sM3 (p0:D45):Prop×D45:=
 (((uJ5 p0.1)∧((uJ5 p0.2.1)∧((uJ5 p0.2.2.1)∧(uJ5 p0.2.2.2.1)))),((f112 p0.1),(f112 p0.2.1),(f112 p0.2.2.1),(f112 p0.2.2.2.1),()))
def tD6 p0:=(sM3 p0).1
def f100 p0:=(sM3 p0).2
instance (p0):Decidable (tD6 p0):=by unfold tD6 sM3;dsimp only;infer_instance
theorem sM4:SK 100 (sp1 (.val T45) (.val T45) tD6 f100):=fb Tryz.func100 16 [kb sM2]
def f78t (p0:D45):Prop×Bool:=
 ((tD6 p0),(Ty.eqb T45 p0 (f100 p0)))
def tH3 p0:=(f78t p0).1
def f78 p0:=(f78t p0).2
instance (p0):Decidable (tH3 p0):=by unfold tH3 f78t;dsimp only;infer_instance
theorem sQ:SK 78 (sp1 (.val T45) vB tH3 f78):=fb Tryz.func78 7 [kb sM4]
abbrev vY:Type:=((List D45)×Int×Unit)
abbrev vQ2:Type:=(Int×Unit)
def uO2 (y:vY)(x:vQ2):Prop×Bool×vQ2×Bool×Bool:=
 let a23:=y.1
 let a25:=x.1
 let v26:=(decide (a25<y.2.1))
 let v27:=(nth a23 a25 Z45)
 let v31:=(!(f78 v27))
 ((v26=true→(InB a25 (len a23)∧((tH3 v27)∧((!v31)=true→InR (a25+1))))),(v26&&(!v31)),((a25+1),()),(v26&&v31),(!v26))
def vV9 y x:=(uO2 y x).1
def uK4 y x:=(uO2 y x).2.1
def vS6 y x:=(uO2 y x).2.2.1
def tH4 y x:=(uO2 y x).2.2.2.1
def tX y x:=(uO2 y x).2.2.2.2
instance (y x):Decidable (vV9 y x):=by unfold vV9 uO2;dsimp only;infer_instance
def uU4 (y:vY)(x:vQ2):Int:=
 (2:Int)
def tX0:=li [(23,(.val (.sl T45))),(24,vI)] [(25,vI)] uK4 vS6 vV9 (fun y x=>[ex 1 (some (tH4 y x)) [(2,vI)] ((uU4 y x),()),ex 2 (some (tX y x)) [] ()]) [[(2,vI)],[]]
def f25t (p0:D23):Prop×Int:=
 let v10:=(!(f77 p0.1 p0.2.1))
 let v21:=(bif v10 then true else ((len p0.2.2.1)!=(p0.1*p0.2.1)))
 let y4:=(p0.2.2.1,(len p0.2.2.1),())
 let x4:=((0:Int),())
 let e4:=(zC5 (uK4 y4) (vS6 y4) x4)
 (((tQ8 p0.1 p0.2.1)∧(((!v10)=true→InR (p0.1*p0.2.1))∧((!v21)=true→(xQ5 (uK4 y4) (vS6 y4) (vV9 y4) x4)))),(bif v21 then (15:Int) else (bif (tH4 y4 e4) then (uU4 y4 e4) else (0:Int))))
def tH5 p0:=(f25t p0).1
def f25 p0:=(f25t p0).2
instance (p0):Decidable (tH5 p0):=by unfold tH5 f25t;dsimp only;infer_instance
theorem sQ0:SK 25 (sp1 (.val T23) vI tH5 f25):=fb Tryz.func25 33 [kb sP9,kb sQ] [(4,tX0)]
abbrev vL8:Type:=(Unit)
abbrev vE1:Type:=((List Int)×Int×Unit)
def uF1 (y:vL8)(x:vE1):Prop×Bool×vE1:=
 let a0:=x.1
 let a1:=x.2.1
 let v6:=(decide (a1≥128))
 let v11:=([(ior .u8 (IntKind.wrap .u8 a1) (128:Int))]:List Int)
 ((v6=true→((List.length a0+List.length v11:Nat):Int)≤4294967296),v6,((a0++v11),(wT1 a1 (7:Int) 64),()))
def vO1 y x:=(uF1 y x).1
def wW1 y x:=(uF1 y x).2.1
def wV3 y x:=(uF1 y x).2.2
instance (y x):Decidable (vO1 y x):=by unfold vO1 uF1;dsimp only;infer_instance
def uH2 (y:vL8)(x:vE1):(List Int):=
 x.1
def uH3 (y:vL8)(x:vE1):Int:=
 x.2.1
def uQ0:List (Nat×Sh):=[(0,(.own (.int .u8) 400000 false)),(1,(.val (.int .u64)))]
def tH6:=li [] [(0,(.own (.int .u8) 400000 false)),(1,(.val (.int .u64)))] wW1 wV3 vO1 (fun y x=>[ex 2 none uQ0 ((uH2 y x),(uH3 y x),())]) [uQ0]
def tO4 (p0:List Int)(p1:Int):Prop×(List Int):=
 let x1:=(p0,p1,())
 let e1:=(zC5 (wW1 ()) (wV3 ()) x1)
 let r1_2_0:=(uH2 () e1)
 let v18:=([(IntKind.wrap .u8 (uH3 () e1))]:List Int)
 (((xQ5 (wW1 ()) (wV3 ()) (vO1 ()) x1)∧((List.length r1_2_0+List.length v18:Nat):Int)≤4294967296),(r1_2_0++v18))
def vK7 p0 p1:=(tO4 p0 p1).1
def vW p0 p1:=(tO4 p0 p1).2
instance (p0 p1):Decidable (vK7 p0 p1):=by unfold vK7 tO4;dsimp only;infer_instance
theorem tH7:SK 94 (sp2 (.own (.int .u8) 400000 false) (.val (.int .u64)) (.own (.int .u8) 0 false) vK7 vW):=fb Tryz.func94 20 [] [(1,tH6)] [(5,[(4,0,12,400000)]),(9,[(4,0,19,0)])] true
def f93t (p0:Int):Prop×(List UInt8):=
 ((vK7 ([]:List Int) p0),(xC8 (vW ([]:List Int) p0)))
def uK5 p0:=(f93t p0).1
def f93 p0:=(f93t p0).2
instance (p0):Decidable (uK5 p0):=by unfold uK5 f93t;dsimp only;infer_instance
theorem tX1:SK 93 (sp1 (.val (.int .u64)) vS uK5 f93):=fb Tryz.func93 6 [kb tH7]
def f56t (p0:Int):Prop×(List UInt8):=
 let v4:=(IntKind.wrap .u64 p0)
 ((uK5 v4),(f93 v4))
def vL6 p0:=(f56t p0).1
def f56 p0:=(f56t p0).2
instance (p0):Decidable (vL6 p0):=by unfold vL6 f56t;dsimp only;infer_instance
theorem tH8:SK 56 (sp1 vI vS vL6 f56):=fb Tryz.func56 6 [kb tX1]
def f27t (p0:D45):Prop×(List Int):=
 (True,([p0.1,p0.2.1,p0.2.2.1,p0.2.2.2.1]:List Int))
def tH9 p0:=(f27t p0).1
def f27 p0:=(f27t p0).2
instance (p0):Decidable (tH9 p0):=by unfold tH9 f27t;dsimp only;infer_instance
theorem sQ1:SK 27 (sp1 (.val T45) (.own (.int .i64) 0 false) tH9 f27):=fb Tryz.func27 12 [] [] [(3,[(4,0,11,0)])]
abbrev vS7:Type:=((List D45)×(Unit)×(List UInt8)×Int×Unit)
abbrev vI6:Type:=(Int×Unit)
def uF2 (y:vS7)(x:vI6):Prop×Bool×vI6:=
 let a2:=y.1
 let a10:=y.2.2.2.1
 let a11:=x.1
 let v29:=(decide (a11<(len a2)))
 let v40:=(bif v29 then (Ty.eqb T45 (nth a2 a11 Z45) (nth a2 a10 Z45)) else false)
 (((v29=true→InB a11 (len a2))∧((v29=true→InB a10 (len a2))∧(v40=true→InR (a11+1)))),v40,((a11+1),()))
def vO2 y x:=(uF2 y x).1
def wV6 y x:=(uF2 y x).2.1
def wU8 y x:=(uF2 y x).2.2
instance (y x):Decidable (vO2 y x):=by unfold vO2 uF2;dsimp only;infer_instance
def uH4 (y:vS7)(x:vI6):Int:=
 x.1
def uQ1:List (Nat×Sh):=[(2,(.val (.sl T45))),(3,(.fn 27 .nl)),(9,(.bld 97 5 9)),(10,vI),(11,vI)]
def tI:=li [(2,(.val (.sl T45))),(3,(.fn 27 .nl)),(9,(.bld 97 5 9)),(10,vI)] [(11,vI)] wV6 wU8 vO2 (fun y x=>[ex 4 none uQ1 (y.1,y.2.1,y.2.2.1,y.2.2.2.1,(uH4 y x),())]) [uQ1]
abbrev vO3:Type:=((List D45)×(Unit)×Int×(List Int)×Int×Unit)
abbrev vE2:Type:=((List UInt8)×Int×Unit)
def vY0 (y:vO3)(x:vE2):Prop×Bool×vE2:=
 let a54:=y.2.2.2.1
 let a9:=x.1
 let a56:=x.2.1
 let v57:=(decide (a56<y.2.2.2.2.1))
 let v58:=(nth a54 a56 (0:Int))
 let v61:=(f56 v58)
 ((v57=true→(InB a56 (len a54)∧((vL6 v58)∧(((List.length a9+List.length v61:Nat):Int)≤4294967296∧InR (a56+1))))),v57,((a9++v61),(a56+1),()))
def vC0 y x:=(vY0 y x).1
def vE3 y x:=(vY0 y x).2.1
def wY5 y x:=(vY0 y x).2.2
instance (y x):Decidable (vC0 y x):=by unfold vC0 vY0;dsimp only;infer_instance
def uB5 (y:vO3)(x:vE2):(List UInt8):=
 x.1
def uK6:List (Nat×Sh):=[(2,(.val (.sl T45))),(3,(.fn 27 .nl)),(9,(.bld 97 5 9)),(11,vI)]
def tD7:=li [(2,(.val (.sl T45))),(3,(.fn 27 .nl)),(11,vI),(54,(.own (.int .i64) 54 false)),(55,vI)] [(9,(.bld 97 5 9)),(56,vI)] vE3 wY5 vC0 (fun y x=>[ex 6 none uK6 (y.1,y.2.1,(uB5 y x),y.2.2.1,())]) [uK6]
abbrev vS8:Type:=((List D45)×(Unit)×Unit)
abbrev vI7:Type:=((List UInt8)×Int×Unit)
def uF3 (y:vS8)(x:vI7):Prop×Bool×vI7:=
 let a2:=y.1
 let a9:=x.1
 let a10:=x.2.1
 let v23:=(decide (a10<(len a2)))
 let y7:=(a2,(),a9,a10,())
 let x7:=((a10+1),())
 let r7_4_0:=(uH4 y7 (zC5 (wV6 y7) (wU8 y7) x7))
 let v45:=(r7_4_0-a10)
 let v46:=(v45-1)
 let v47:=(f56 v46)
 let v52:=(nth a2 a10 Z45)
 let v54:=(f27 v52)
 let y11:=(a2,(),r7_4_0,v54,(len v54),())
 let x11:=((a9++v47),(0:Int),())
 ((v23=true→(InR (a10+1)∧((xQ5 (wV6 y7) (wU8 y7) (vO2 y7) x7)∧(InR (r7_4_0-a10)∧(InR (v45-1)∧((vL6 v46)∧(((List.length a9+List.length v47:Nat):Int)≤4294967296∧(InB a10 (len a2)∧((tH9 v52)∧(xQ5 (vE3 y11) (wY5 y11) (vC0 y11) x11)))))))))),v23,((uB5 y11 (zC5 (vE3 y11) (wY5 y11) x11)),r7_4_0,()))
def vE4 y x:=(uF3 y x).1
def wZ8 y x:=(uF3 y x).2.1
def wZ9 y x:=(uF3 y x).2.2
instance (y x):Decidable (vE4 y x):=by unfold vE4 uF3;dsimp only;infer_instance
def uH5 (y:vS8)(x:vI7):(List UInt8):=
 x.1
def tI0:=li [(2,(.val (.sl T45))),(3,(.fn 27 .nl))] [(9,(.bld 97 5 9)),(10,vI)] wZ8 wZ9 vE4 (fun y x=>[ex 2 none [(9,(.bld 97 5 9))] ((uH5 y x),())]) [[(9,(.bld 97 5 9))]]
def tO5 (p0:Int)(p1:Int)(p2:List D45)(p3:(Unit)):Prop×(List UInt8):=
 let v15:=(f56 p0)
 let b9:=(([]:List UInt8)++v15)
 let v18:=(f56 p1)
 let y5:=(p2,(),())
 let x5:=((b9++v18),(0:Int),())
 (((vL6 p0)∧(((List.length ([]:List UInt8)+List.length v15:Nat):Int)≤4294967296∧((vL6 p1)∧(((List.length b9+List.length v18:Nat):Int)≤4294967296∧(xQ5 (wZ8 y5) (wZ9 y5) (vE4 y5) x5))))),(uH5 y5 (zC5 (wZ8 y5) (wZ9 y5) x5)))
def vW0 p0 p1 p2 p3:=(tO5 p0 p1 p2 p3).1
def tI1 p0 p1 p2 p3:=(tO5 p0 p1 p2 p3).2
instance (p0 p1 p2 p3):Decidable (vW0 p0 p1 p2 p3):=by unfold vW0 tO5;dsimp only;infer_instance
theorem tX2:SK 26 (sp4 vI vI (.val (.sl T45)) (.fn 27 .nl) vS vW0 tI1):=fy (fun c=>{ c with blds:=[(97,5,50,57)] }) Tryz.func26 66 [kb sQ1,kb tH8] [(5,tI0),(7,tI),(11,tD7)]
def f6t (p0:D23):Prop×(List UInt8):=
 let m1:=(bif ((f25 p0)!=0) then ((0:Int),(0:Int),([]:List D45),()) else p0)
 (((tH5 p0)∧(vW0 m1.1 m1.2.1 m1.2.2.1 ())),(tI1 m1.1 m1.2.1 m1.2.2.1 ()))
def tX3 p0:=(f6t p0).1
def f6 p0:=(f6t p0).2
instance (p0):Decidable (tX3 p0):=by unfold tX3 f6t;dsimp only;infer_instance
theorem sQ2:SK 6 (sp1 (.val T23) vS tX3 f6):=fb Tryz.func6 14 [kb sQ0,kb tX2]
def f81t (p0:Int):Prop×Bool:=
 (True,(bif (decide (p0≥0)) then (decide (p0≤65535)) else false))
def tQ9 p0:=(f81t p0).1
def f81 p0:=(f81t p0).2
instance (p0):Decidable (tQ9 p0):=by unfold tQ9 f81t;dsimp only;infer_instance
theorem sQ3:SK 81 (sp1 vI vB tQ9 f81):=fb Tryz.func81 9
abbrev vY1:Type:=((List Int)×Int×Unit)
abbrev vQ3:Type:=(Int×Unit)
def uO3 (y:vY1)(x:vQ3):Prop×Bool×vQ3×Bool×Bool:=
 let a42:=y.1
 let a44:=x.1
 let v45:=(decide (a44<y.2.1))
 let v46:=(nth a42 a44 (0:Int))
 let v50:=(!(f81 v46))
 ((v45=true→(InB a44 (len a42)∧((tQ9 v46)∧((!v50)=true→InR (a44+1))))),(v45&&(!v50)),((a44+1),()),(v45&&v50),(!v45))
def vW1 y x:=(uO3 y x).1
def uK7 y x:=(uO3 y x).2.1
def vS9 y x:=(uO3 y x).2.2.1
def tI2 y x:=(uO3 y x).2.2.2.1
def tX4 y x:=(uO3 y x).2.2.2.2
instance (y x):Decidable (vW1 y x):=by unfold vW1 uO3;dsimp only;infer_instance
def uU5 (y:vY1)(x:vQ3):Int:=
 (2:Int)
def tX5:=li [(42,(.val (.sl (.int .i64)))),(43,vI)] [(44,vI)] uK7 vS9 vW1 (fun y x=>[ex 1 (some (tI2 y x)) [(2,vI)] ((uU5 y x),()),ex 2 (some (tX4 y x)) [] ()]) [[(2,vI)],[]]
def f30t (p0:D26):Prop×Int:=
 let v22:=(bif (bif (bif (decide (p0.1<0)) then true else (decide (p0.1>256))) then true else (decide (p0.2.1<0))) then true else (decide (p0.2.1>256)))
 let v29:=(!(Ty.eqb .bool (p0.1==0) (p0.2.1==0)))
 let v40:=(bif v29 then true else ((len p0.2.2.1)!=(p0.1*p0.2.1)))
 let y6:=(p0.2.2.1,(len p0.2.2.1),())
 let x6:=((0:Int),())
 let e6:=(zC5 (uK7 y6) (vS9 y6) x6)
 (((!v22)=true→(((!v29)=true→InR (p0.1*p0.2.1))∧((!v40)=true→(xQ5 (uK7 y6) (vS9 y6) (vW1 y6) x6)))),(bif v22 then (15:Int) else (bif v40 then (15:Int) else (bif (tI2 y6 e6) then (uU5 y6 e6) else (0:Int)))))
def tI3 p0:=(f30t p0).1
def f30 p0:=(f30t p0).2
instance (p0):Decidable (tI3 p0):=by unfold tI3 f30t;dsimp only;infer_instance
theorem sQ4:SK 30 (sp1 (.val T26) vI tI3 f30):=fb Tryz.func30 52 [kb sQ3] [(6,tX5)]
def f32t (p0:Int):Prop×(List Int):=
 (True,([p0]:List Int))
def tI4 p0:=(f32t p0).1
def f32 p0:=(f32t p0).2
instance (p0):Decidable (tI4 p0):=by unfold tI4 f32t;dsimp only;infer_instance
theorem sQ5:SK 32 (sp1 vI (.own (.int .i64) 0 false) tI4 f32):=fb Tryz.func32 5 [] [] [(3,[(4,0,4,0)])]
abbrev vT:Type:=((List Int)×(Unit)×(List UInt8)×Int×Unit)
abbrev vI8:Type:=(Int×Unit)
def uF4 (y:vT)(x:vI8):Prop×Bool×vI8:=
 let a2:=y.1
 let a10:=y.2.2.2.1
 let a11:=x.1
 let v29:=(decide (a11<(len a2)))
 let v40:=(bif v29 then ((nth a2 a11 (0:Int))==(nth a2 a10 (0:Int))) else false)
 (((v29=true→InB a11 (len a2))∧((v29=true→InB a10 (len a2))∧(v40=true→InR (a11+1)))),v40,((a11+1),()))
def vO4 y x:=(uF4 y x).1
def wV7 y x:=(uF4 y x).2.1
def wU9 y x:=(uF4 y x).2.2
instance (y x):Decidable (vO4 y x):=by unfold vO4 uF4;dsimp only;infer_instance
def uH6 (y:vT)(x:vI8):Int:=
 x.1
def uQ2:List (Nat×Sh):=[(2,(.val (.sl (.int .i64)))),(3,(.fn 32 .nl)),(9,(.bld 97 5 9)),(10,vI),(11,vI)]
def tI5:=li [(2,(.val (.sl (.int .i64)))),(3,(.fn 32 .nl)),(9,(.bld 97 5 9)),(10,vI)] [(11,vI)] wV7 wU9 vO4 (fun y x=>[ex 4 none uQ2 (y.1,y.2.1,y.2.2.1,y.2.2.2.1,(uH6 y x),())]) [uQ2]
abbrev vO5:Type:=((List Int)×(Unit)×Int×(List Int)×Int×Unit)
abbrev vE5:Type:=((List UInt8)×Int×Unit)
def vY2 (y:vO5)(x:vE5):Prop×Bool×vE5:=
 let a54:=y.2.2.2.1
 let a9:=x.1
 let a56:=x.2.1
 let v57:=(decide (a56<y.2.2.2.2.1))
 let v58:=(nth a54 a56 (0:Int))
 let v61:=(f56 v58)
 ((v57=true→(InB a56 (len a54)∧((vL6 v58)∧(((List.length a9+List.length v61:Nat):Int)≤4294967296∧InR (a56+1))))),v57,((a9++v61),(a56+1),()))
def vC1 y x:=(vY2 y x).1
def vE6 y x:=(vY2 y x).2.1
def wY6 y x:=(vY2 y x).2.2
instance (y x):Decidable (vC1 y x):=by unfold vC1 vY2;dsimp only;infer_instance
def uB6 (y:vO5)(x:vE5):(List UInt8):=
 x.1
def uK8:List (Nat×Sh):=[(2,(.val (.sl (.int .i64)))),(3,(.fn 32 .nl)),(9,(.bld 97 5 9)),(11,vI)]
def tD8:=li [(2,(.val (.sl (.int .i64)))),(3,(.fn 32 .nl)),(11,vI),(54,(.own (.int .i64) 54 false)),(55,vI)] [(9,(.bld 97 5 9)),(56,vI)] vE6 wY6 vC1 (fun y x=>[ex 6 none uK8 (y.1,y.2.1,(uB6 y x),y.2.2.1,())]) [uK8]
abbrev vT0:Type:=((List Int)×(Unit)×Unit)
abbrev vI9:Type:=((List UInt8)×Int×Unit)
def uF5 (y:vT0)(x:vI9):Prop×Bool×vI9:=
 let a2:=y.1
 let a9:=x.1
 let a10:=x.2.1
 let v23:=(decide (a10<(len a2)))
 let y7:=(a2,(),a9,a10,())
 let x7:=((a10+1),())
 let r7_4_0:=(uH6 y7 (zC5 (wV7 y7) (wU9 y7) x7))
 let v45:=(r7_4_0-a10)
 let v46:=(v45-1)
 let v47:=(f56 v46)
 let v52:=(nth a2 a10 (0:Int))
 let v54:=(f32 v52)
 let y11:=(a2,(),r7_4_0,v54,(len v54),())
 let x11:=((a9++v47),(0:Int),())
 ((v23=true→(InR (a10+1)∧((xQ5 (wV7 y7) (wU9 y7) (vO4 y7) x7)∧(InR (r7_4_0-a10)∧(InR (v45-1)∧((vL6 v46)∧(((List.length a9+List.length v47:Nat):Int)≤4294967296∧(InB a10 (len a2)∧((tI4 v52)∧(xQ5 (vE6 y11) (wY6 y11) (vC1 y11) x11)))))))))),v23,((uB6 y11 (zC5 (vE6 y11) (wY6 y11) x11)),r7_4_0,()))
def vE7 y x:=(uF5 y x).1
def vA y x:=(uF5 y x).2.1
def vA0 y x:=(uF5 y x).2.2
instance (y x):Decidable (vE7 y x):=by unfold vE7 uF5;dsimp only;infer_instance
def uH7 (y:vT0)(x:vI9):(List UInt8):=
 x.1
def tI6:=li [(2,(.val (.sl (.int .i64)))),(3,(.fn 32 .nl))] [(9,(.bld 97 5 9)),(10,vI)] vA vA0 vE7 (fun y x=>[ex 2 none [(9,(.bld 97 5 9))] ((uH7 y x),())]) [[(9,(.bld 97 5 9))]]
def tO6 (p0:Int)(p1:Int)(p2:List Int)(p3:(Unit)):Prop×(List UInt8):=
 let v15:=(f56 p0)
 let b9:=(([]:List UInt8)++v15)
 let v18:=(f56 p1)
 let y5:=(p2,(),())
 let x5:=((b9++v18),(0:Int),())
 (((vL6 p0)∧(((List.length ([]:List UInt8)+List.length v15:Nat):Int)≤4294967296∧((vL6 p1)∧(((List.length b9+List.length v18:Nat):Int)≤4294967296∧(xQ5 (vA y5) (vA0 y5) (vE7 y5) x5))))),(uH7 y5 (zC5 (vA y5) (vA0 y5) x5)))
def vW2 p0 p1 p2 p3:=(tO6 p0 p1 p2 p3).1
def tI7 p0 p1 p2 p3:=(tO6 p0 p1 p2 p3).2
instance (p0 p1 p2 p3):Decidable (vW2 p0 p1 p2 p3):=by unfold vW2 tO6;dsimp only;infer_instance
theorem tX6:SK 31 (sp4 vI vI (.val (.sl (.int .i64))) (.fn 32 .nl) vS vW2 tI7):=fy (fun c=>{ c with blds:=[(97,5,50,57)] }) Tryz.func31 66 [kb sQ5,kb tH8] [(5,tI6),(7,tI5),(11,tD8)]
def f8t (p0:D26):Prop×(List UInt8):=
 let m1:=(bif ((f30 p0)!=0) then ((0:Int),(0:Int),([]:List Int),()) else p0)
 (((tI3 p0)∧(vW2 m1.1 m1.2.1 m1.2.2.1 ())),(tI7 m1.1 m1.2.1 m1.2.2.1 ()))
def tX7 p0:=(f8t p0).1
def f8 p0:=(f8t p0).2
instance (p0):Decidable (tX7 p0):=by unfold tX7 f8t;dsimp only;infer_instance
theorem sQ6:SK 8 (sp1 (.val T26) vS tX7 f8):=fb Tryz.func8 14 [kb sQ4,kb tX6]
def uO4 (p0:D60)(p1:Int):Prop×(Unit)×(D60×Unit):=
 let v5o:=(vN5 p0)
 ((vK5 p0),(),((bif (uK1 p0) then (v5o.1.1,v5o.1.2.1,v5o.1.2.2.1,p1,()) else v5o.1),()))
def vE8 p0 p1:=(uO4 p0 p1).1
def sQ7 p0 p1:=(uO4 p0 p1).2.1
def wW8 p0 p1:=(uO4 p0 p1).2.2
instance (p0 p1):Decidable (vE8 p0 p1):=by unfold vE8 uO4;dsimp only;infer_instance
theorem uU6:SK 82 (fnSpec [(0,(.box T60 (.val T60))),(1,vI)] (.tup .nl) [(0,(.box T60 (.val T60)))] (fun x=>vE8 x.1 x.2.1) (fun x=>sQ7 x.1 x.2.1) (fun x=>wW8 x.1 x.2.1)):=fb Tryz.func82 10 [kb vV7] [] [] false [0]
def uU7 (p0:Unit)(p1:D60):List Prop×D45×(Unit×D60×Unit):=
 let v17o:=(wT3 p1 (65535:Int))
 let v17o_1:=(wT3 v17o.1 (65535:Int))
 let v17o_2:=(wT3 v17o_1.1 (65535:Int))
 ([InB (0:Int) 4,(wV p1 (65535:Int)),InB (1:Int) 4,(wV v17o.1 (65535:Int)),InB (2:Int) 4,(wV v17o_1.1 (65535:Int)),InB (3:Int) 4,(wV v17o_2.1 (65535:Int))],((wT6 p1 (65535:Int)),(wT6 v17o.1 (65535:Int)),(wT6 v17o_1.1 (65535:Int)),(wT6 v17o_2.1 (65535:Int)),()),((),(wT3 v17o_2.1 (65535:Int)).1,()))
def uB7 (p0:Unit)(p1:D60):Prop:=yW6 (uU7 p0 p1).1
def tR0 p0 p1:=(uU7 p0 p1).2.1
def uS4 p0 p1:=(uU7 p0 p1).2.2
instance (p0:Unit)(p1:D60):Decidable (uB7 p0 p1):=by
 unfold uB7 uU7;dsimp only[yW6]
 infer_instance
noncomputable def tI8:List (Fb Tryz.prog):=[kb vO0]
noncomputable def tT:Ctx:={ Cx tys (Fb.l tI8) [] [] true 21 [0] [] with skip:=true,dead:=[999999] }
theorem tT0:CtxOk Tryz.prog tT:=wI7 vD8 (by kernel_rfl) (Fb.all tI8) rfl (by kernel_rfl)
@[reducible] def uU8:List (Nat×Sh):=[(0,(.ptrs true [some (990000,T60,[])])),(990000,(.box T60 (.val T60)))]
theorem tX8:SK 35 (xI1 uU8 (.val T45) uU8 (fun x=>uB7 x.1 x.2.1) (fun x=>tR0 x.1 x.2.1) (fun x=>uS4 x.1 x.2.1)):=wP (ps:=uU8) (p:=fun x=>(uU7 x.1 x.2.1).1) (lv:=[(0,[0,1,990000]),(1,[0,1,2,990000]),(2,[0,1,2,9,10,11,990000]),(3,[0,1,2,9,10,11,12,990000]),(4,[0,1,2,4,9,10,11,990000]),(5,[0,1,2,9,10,11,990000]),(6,[0,1,2,9,10,11,990000]),(7,[0,1,990000])]) tT0 mixed Tryz.func35 (fun _ h=>h) (by kernel_rfl) (fun x=>by kernel_rfl)
abbrev vO6:Type:=(D60×(Unit×Unit)×Int×Int×D45×Int×Unit)
abbrev vE9:Type:=((List D45)×Int×Unit)
def vY3 (y:vO6)(x:vE9):Prop×Bool×vE9:=
 let a6:=x.1
 let a62:=x.2.1
 let v63:=(decide (a62<y.2.2.2.2.2.1))
 let v66:=([y.2.2.2.2.1]:List D45)
 ((v63=true→(((List.length a6+List.length v66:Nat):Int)≤4294967296∧InR (a62+1))),v63,((a6++v66),(a62+1),()))
def vK8 y x:=(vY3 y x).1
def vO7 y x:=(vY3 y x).2.1
def vF y x:=(vY3 y x).2.2
instance (y x):Decidable (vK8 y x):=by unfold vK8 vY3;dsimp only;infer_instance
def uB8 (y:vO6)(x:vE9):(List D45):=
 x.1
def uK9:List (Nat×Sh):=[(0,(.box T60 (.val T60))),(1,(.fn 35 (.cons (.ptrs true [some (0,T60,[])]) .nl))),(4,vI),(5,vI),(6,(.own T45 2 false))]
def tD9:=li [(0,(.box T60 (.val T60))),(1,(.fn 35 (.cons (.ptrs true [some (0,T60,[])]) .nl))),(4,vI),(5,vI),(8,(.box T45 (.val T45))),(61,vI)] [(6,(.own T45 2 false)),(62,vI)] vO7 vF vK8 (fun y x=>[ex 4 none uK9 (y.1,y.2.1,y.2.2.1,y.2.2.2.1,(uB8 y x),())]) [uK9]
abbrev vL9:Type:=((Unit×Unit)×Int×Int×Unit)
abbrev vA1:Type:=(D60×(List D45)×Unit)
def vM (y:vL9)(x:vA1):Prop×Bool×vA1:=
 let a4:=y.2.1
 let a5:=y.2.2.1
 let a0:=x.1
 let a6:=x.2.1
 let v25:=(decide ((len a6)<(a4*a5)))
 let g0:=(bif v25 then (wZ3 a0).1 else a0)
 let v30:=(bif v25 then ((wW0 a0)==0) else false)
 let v34:=(a4*a5)
 let v36:=(len a6)
 let v37:=(v34-v36)
 let v38:=(v37-1)
 let v39:=(wT6 g0 v38)
 let v39o:=(wT3 g0 v38)
 let v41:=(tR0 () v39o.1)
 let v41o:=(uS4 () v39o.1)
 let v44:=(decide ((len a6)>0))
 let v48:=(len a6)
 let v49:=(v48-1)
 let v54:=(bif v44 then (Ty.eqb T45 (nth a6 v49 Z45) v41) else false)
 let m0:=(bif v54 then (wW8 v41o.2.1 (4:Int)).1 else v41o.2.1)
 let v58o:=(wZ3 m0)
 let v59:=((wW0 m0)!=0)
 let y12:=(v58o.1,((),()),a4,a5,v41,(v39+1),())
 let x12:=(a6,(0:Int),())
 ((InR (a4*a5)∧((v25=true→(wX1 a0))∧(v30=true→(InR (a4*a5)∧(InR (v34-v36)∧(InR (v37-1)∧((wV g0 v38)∧((uB7 () v39o.1)∧((v44=true→InR (v48-1))∧((v44=true→InB v49 (len a6))∧((v54=true→(vE8 v41o.2.1 (4:Int)))∧((wX1 m0)∧((!v59)=true→(InR (v39+1)∧(xQ5 (vO7 y12) (vF y12) (vK8 y12) x12))))))))))))))),(v30&&(!v59)),(v58o.1,(uB8 y12 (zC5 (vO7 y12) (vF y12) x12)),()))
def vB6 y x:=(vM y x).1
def wY7 y x:=(vM y x).2.1
def vA2 y x:=(vM y x).2.2
instance (y x):Decidable (vB6 y x):=by unfold vB6 vM;dsimp only;infer_instance
def wU2 (y:vL9)(x:vA1):D60:=
 let a4:=y.2.1
 let a5:=y.2.2.1
 let a0:=x.1
 let a6:=x.2.1
 let v25:=(decide ((len a6)<(a4*a5)))
 let g0:=(bif v25 then (wZ3 a0).1 else a0)
 let v39o:=(wT3 g0 (((a4*a5)-(len a6))-1))
 let v41o:=(uS4 () v39o.1)
 let m0_1:=(bif (!(bif v25 then ((wW0 a0)==0) else false)) then g0 else (wZ3 (bif (bif (decide ((len a6)>0)) then (Ty.eqb T45 (nth a6 ((len a6)-1) Z45) (tR0 () v39o.1)) else false) then (wW8 v41o.2.1 (4:Int)).1 else v41o.2.1)).1)
 m0_1
def vA3 (y:vL9)(x:vA1):(List D45):=
 x.2.1
def uQ3:List (Nat×Sh):=[(0,(.box T60 (.val T60))),(4,vI),(5,vI),(6,(.own T45 2 false))]
def tI9:=li [(1,(.fn 35 (.cons (.ptrs true [some (0,T60,[])]) .nl))),(4,vI),(5,vI)] [(0,(.box T60 (.val T60))),(6,(.own T45 2 false))] wY7 vA2 vB6 (fun y x=>[ex 2 none uQ3 ((wU2 y x),y.2.1,y.2.2.1,(vA3 y x),())]) [uQ3]
def uU9 (p0:D60)(p1:(Unit×Unit)):Prop×(Int×Int×(List D45)×Unit)×(D60×Unit):=
 let v10:=(wT6 p0 (256:Int))
 let v10o:=(wT3 p0 (256:Int))
 let v12:=(wT6 v10o.1 (256:Int))
 let v12o:=(wT3 v10o.1 (256:Int))
 let v17:=(!(Ty.eqb .bool (v10==0) (v12==0)))
 let y5:=(((),()),v10,v12,())
 let x5:=((bif v17 then (wW8 v12o.1 (4:Int)).1 else v12o.1),([]:List D45),())
 let e5:=(zC5 (wY7 y5) (vA2 y5) x5)
 let r5_2_0:=(wU2 y5 e5)
 let v70o:=(wZ3 r5_2_0)
 let v71:=((wW0 r5_2_0)!=0)
 (((wV p0 (256:Int))∧((wV v10o.1 (256:Int))∧((v17=true→(vE8 v12o.1 (4:Int)))∧((xQ5 (wY7 y5) (vA2 y5) (vB6 y5) x5)∧(wX1 r5_2_0))))),((bif v71 then (0:Int) else v10),(bif v71 then (0:Int) else v12),(bif v71 then [] else (vA3 y5 e5)),()),((bif v71 then v70o.1 else v70o.1),()))
def vW3 p0 p1:=(uU9 p0 p1).1
def tX9 p0 p1:=(uU9 p0 p1).2.1
def tE0 p0 p1:=(uU9 p0 p1).2.2
instance (p0 p1):Decidable (vW3 p0 p1):=by unfold vW3 uU9;dsimp only;infer_instance
theorem tY:SK 34 (fnSpec [(0,(.box T60 (.val T60))),(1,(.fn 35 (.cons (.ptrs true [some (0,T60,[])]) .nl)))] (.tup (.cons vI (.cons vI (.cons (.own T45 2 false) .nl)))) [(0,(.box T60 (.val T60)))] (fun x=>vW3 x.1 x.2.1) (fun x=>tX9 x.1 x.2.1) (fun x=>tE0 x.1 x.2.1)):=fx (fun c=>{ c with wants:=[(35,[]),(44,[])] }) Tryz.func34 75 [kb tX8,kb vO0,kb vS4,kb uU6] [(5,tI9),(12,tD9)] [(27,[(4,0,67,2)])] false [0]
def uV (p0:D60):Prop×D23×(D60×Unit):=
 let s:=((),())
 let v9:=(tX9 p0 s)
 ((vW3 p0 s),(v9.1,v9.2.1,v9.2.2.1,()),((tE0 p0 s).1,()))
def vC9 p0:=(uV p0).1
def vT1 p0:=(uV p0).2.1
def vB1 p0:=(uV p0).2.2
instance (p0):Decidable (vC9 p0):=by unfold vC9 uV;dsimp only;infer_instance
theorem tJ:SK 12 (fnSpec [(0,(.box T60 (.val T60)))] (.val T23) [(0,(.box T60 (.val T60)))] (fun x=>vC9 x.1) (fun x=>vT1 x.1) (fun x=>vB1 x.1)):=fx (fun c=>{ c with wants:=[(34,[])] }) Tryz.func12 17 [kb tY] [] [(3,[(4,0,200009,1005)]),(5,[(4,0,1005,400200)])] false [0]
def uV0 (p0:Unit)(p1:D60):List Prop×Int×(Unit×D60×Unit):=
 ([(wV p1 (65535:Int))],(wT6 p1 (65535:Int)),((),(wT3 p1 (65535:Int)).1,()))
def uB9 (p0:Unit)(p1:D60):Prop:=yW6 (uV0 p0 p1).1
def tR1 p0 p1:=(uV0 p0 p1).2.1
def uS5 p0 p1:=(uV0 p0 p1).2.2
instance (p0:Unit)(p1:D60):Decidable (uB9 p0 p1):=by
 unfold uB9 uV0;dsimp only[yW6]
 infer_instance
noncomputable def tJ0:List (Fb Tryz.prog):=[kb vO0]
noncomputable def tT1:Ctx:={ Cx tys (Fb.l tJ0) [] [] true 4 [0] [] with skip:=true,dead:=[999999] }
theorem tT2:CtxOk Tryz.prog tT1:=wI7 vD8 (by kernel_rfl) (Fb.all tJ0) rfl (by kernel_rfl)
@[reducible] def uV1:List (Nat×Sh):=[(0,(.ptrs true [some (990000,T60,[])])),(990000,(.box T60 (.val T60)))]
theorem tY0:SK 42 (xI1 uV1 vI uV1 (fun x=>uB9 x.1 x.2.1) (fun x=>tR1 x.1 x.2.1) (fun x=>uS5 x.1 x.2.1)):=wP (ps:=uV1) (p:=fun x=>(uV0 x.1 x.2.1).1) (lv:=[(0,[0,990000]),(1,[0,1,990000])]) tT2 mixed Tryz.func42 (fun _ h=>h) (by kernel_rfl) (fun x=>by kernel_rfl)
abbrev vO8:Type:=(D60×(Unit×Unit)×Int×Int×Int×Int×Unit)
abbrev vF0:Type:=((List Int)×Int×Unit)
def vY4 (y:vO8)(x:vF0):Prop×Bool×vF0:=
 let a6:=x.1
 let a62:=x.2.1
 let v63:=(decide (a62<y.2.2.2.2.2.1))
 let v66:=([y.2.2.2.2.1]:List Int)
 ((v63=true→(((List.length a6+List.length v66:Nat):Int)≤4294967296∧InR (a62+1))),v63,((a6++v66),(a62+1),()))
def vK9 y x:=(vY4 y x).1
def vO9 y x:=(vY4 y x).2.1
def vF1 y x:=(vY4 y x).2.2
instance (y x):Decidable (vK9 y x):=by unfold vK9 vY4;dsimp only;infer_instance
def uC (y:vO8)(x:vF0):(List Int):=
 x.1
def uL:List (Nat×Sh):=[(0,(.box T60 (.val T60))),(1,(.fn 42 (.cons (.ptrs true [some (0,T60,[])]) .nl))),(4,vI),(5,vI),(6,(.own (.int .i64) 2 false))]
def tE1:=li [(0,(.box T60 (.val T60))),(1,(.fn 42 (.cons (.ptrs true [some (0,T60,[])]) .nl))),(4,vI),(5,vI),(8,vI),(61,vI)] [(6,(.own (.int .i64) 2 false)),(62,vI)] vO9 vF1 vK9 (fun y x=>[ex 4 none uL (y.1,y.2.1,y.2.2.1,y.2.2.2.1,(uC y x),())]) [uL]
abbrev vM0:Type:=((Unit×Unit)×Int×Int×Unit)
abbrev vA4:Type:=(D60×(List Int)×Unit)
def vM1 (y:vM0)(x:vA4):Prop×Bool×vA4:=
 let a4:=y.2.1
 let a5:=y.2.2.1
 let a0:=x.1
 let a6:=x.2.1
 let v25:=(decide ((len a6)<(a4*a5)))
 let g0:=(bif v25 then (wZ3 a0).1 else a0)
 let v30:=(bif v25 then ((wW0 a0)==0) else false)
 let v34:=(a4*a5)
 let v36:=(len a6)
 let v37:=(v34-v36)
 let v38:=(v37-1)
 let v39:=(wT6 g0 v38)
 let v39o:=(wT3 g0 v38)
 let v41:=(tR1 () v39o.1)
 let v41o:=(uS5 () v39o.1)
 let v44:=(decide ((len a6)>0))
 let v48:=(len a6)
 let v49:=(v48-1)
 let v54:=(bif v44 then ((nth a6 v49 (0:Int))==v41) else false)
 let m0:=(bif v54 then (wW8 v41o.2.1 (4:Int)).1 else v41o.2.1)
 let v58o:=(wZ3 m0)
 let v59:=((wW0 m0)!=0)
 let y12:=(v58o.1,((),()),a4,a5,v41,(v39+1),())
 let x12:=(a6,(0:Int),())
 ((InR (a4*a5)∧((v25=true→(wX1 a0))∧(v30=true→(InR (a4*a5)∧(InR (v34-v36)∧(InR (v37-1)∧((wV g0 v38)∧((uB9 () v39o.1)∧((v44=true→InR (v48-1))∧((v44=true→InB v49 (len a6))∧((v54=true→(vE8 v41o.2.1 (4:Int)))∧((wX1 m0)∧((!v59)=true→(InR (v39+1)∧(xQ5 (vO9 y12) (vF1 y12) (vK9 y12) x12))))))))))))))),(v30&&(!v59)),(v58o.1,(uC y12 (zC5 (vO9 y12) (vF1 y12) x12)),()))
def vB7 y x:=(vM1 y x).1
def wY8 y x:=(vM1 y x).2.1
def vA5 y x:=(vM1 y x).2.2
instance (y x):Decidable (vB7 y x):=by unfold vB7 vM1;dsimp only;infer_instance
def wU3 (y:vM0)(x:vA4):D60:=
 let a4:=y.2.1
 let a5:=y.2.2.1
 let a0:=x.1
 let a6:=x.2.1
 let v25:=(decide ((len a6)<(a4*a5)))
 let g0:=(bif v25 then (wZ3 a0).1 else a0)
 let v39o:=(wT3 g0 (((a4*a5)-(len a6))-1))
 let v41o:=(uS5 () v39o.1)
 let m0_1:=(bif (!(bif v25 then ((wW0 a0)==0) else false)) then g0 else (wZ3 (bif (bif (decide ((len a6)>0)) then ((nth a6 ((len a6)-1) (0:Int))==(tR1 () v39o.1)) else false) then (wW8 v41o.2.1 (4:Int)).1 else v41o.2.1)).1)
 m0_1
def vA6 (y:vM0)(x:vA4):(List Int):=
 x.2.1
def uQ4:List (Nat×Sh):=[(0,(.box T60 (.val T60))),(4,vI),(5,vI),(6,(.own (.int .i64) 2 false))]
def tJ1:=li [(1,(.fn 42 (.cons (.ptrs true [some (0,T60,[])]) .nl))),(4,vI),(5,vI)] [(0,(.box T60 (.val T60))),(6,(.own (.int .i64) 2 false))] wY8 vA5 vB7 (fun y x=>[ex 2 none uQ4 ((wU3 y x),y.2.1,y.2.2.1,(vA6 y x),())]) [uQ4]
def uV2 (p0:D60)(p1:(Unit×Unit)):Prop×(Int×Int×(List Int)×Unit)×(D60×Unit):=
 let v10:=(wT6 p0 (256:Int))
 let v10o:=(wT3 p0 (256:Int))
 let v12:=(wT6 v10o.1 (256:Int))
 let v12o:=(wT3 v10o.1 (256:Int))
 let v17:=(!(Ty.eqb .bool (v10==0) (v12==0)))
 let y5:=(((),()),v10,v12,())
 let x5:=((bif v17 then (wW8 v12o.1 (4:Int)).1 else v12o.1),([]:List Int),())
 let e5:=(zC5 (wY8 y5) (vA5 y5) x5)
 let r5_2_0:=(wU3 y5 e5)
 let v70o:=(wZ3 r5_2_0)
 let v71:=((wW0 r5_2_0)!=0)
 (((wV p0 (256:Int))∧((wV v10o.1 (256:Int))∧((v17=true→(vE8 v12o.1 (4:Int)))∧((xQ5 (wY8 y5) (vA5 y5) (vB7 y5) x5)∧(wX1 r5_2_0))))),((bif v71 then (0:Int) else v10),(bif v71 then (0:Int) else v12),(bif v71 then [] else (vA6 y5 e5)),()),((bif v71 then v70o.1 else v70o.1),()))
def vW4 p0 p1:=(uV2 p0 p1).1
def tY1 p0 p1:=(uV2 p0 p1).2.1
def tE2 p0 p1:=(uV2 p0 p1).2.2
instance (p0 p1):Decidable (vW4 p0 p1):=by unfold vW4 uV2;dsimp only;infer_instance
theorem tY2:SK 41 (fnSpec [(0,(.box T60 (.val T60))),(1,(.fn 42 (.cons (.ptrs true [some (0,T60,[])]) .nl)))] (.tup (.cons vI (.cons vI (.cons (.own (.int .i64) 2 false) .nl)))) [(0,(.box T60 (.val T60)))] (fun x=>vW4 x.1 x.2.1) (fun x=>tY1 x.1 x.2.1) (fun x=>tE2 x.1 x.2.1)):=fx (fun c=>{ c with wants:=[(42,[]),(44,[])] }) Tryz.func41 75 [kb vO0,kb tY0,kb vS4,kb uU6] [(5,tJ1),(12,tE1)] [(27,[(4,0,67,2)])] false [0]
def uV3 (p0:D60):Prop×D26×(D60×Unit):=
 let s:=((),())
 let v9:=(tY1 p0 s)
 ((vW4 p0 s),(v9.1,v9.2.1,v9.2.2.1,()),((tE2 p0 s).1,()))
def vD p0:=(uV3 p0).1
def vP0 p0:=(uV3 p0).2.1
def wZ0 p0:=(uV3 p0).2.2
instance (p0):Decidable (vD p0):=by unfold vD uV3;dsimp only;infer_instance
theorem tJ2:SK 14 (fnSpec [(0,(.box T60 (.val T60)))] (.val T26) [(0,(.box T60 (.val T60)))] (fun x=>vD x.1) (fun x=>vP0 x.1) (fun x=>wZ0 x.1)):=fx (fun c=>{ c with wants:=[(41,[])] }) Tryz.func14 17 [kb tY2] [] [(3,[(4,0,200009,1005)]),(5,[(4,0,1005,400200)])] false [0]
noncomputable def kd {n:Nat}{ps:List (Nat×Sh)}{rs:Sh}{os:List (Nat×Sh)}{ok:zB5 ps→Prop}[DecidablePred ok]{F:zB5 ps→rs.den}{o:zB5 ps→yE4 os}(h:SpecOk Tryz.prog n (fnSpec ps rs os ok F o)):Fb Tryz.prog:=⟨n,wC ps rs os ok F o,wR7 h⟩
noncomputable def tY3:List (Fb Tryz.prog):=[kd tW3,kd tG9,kd vS4,kd uK3]
noncomputable def sG3:Ctx:={ Cx tys (Fb.l tY3) [] [] true 39 [] [] with skip:=true,dead:=[999999],closed:=true }
theorem sG4:CtxOk Tryz.prog sG3:=wI7 vD8 (by kernel_rfl) (Fb.all tY3) rfl (by kernel_rfl)
theorem sM5:SK 88 (fnSpec [(0,vS)] (.tup (.cons vS (.cons vI (.cons vI .nl)))) [] (fun x=>x=([],())) (fun _=>([],0,5,())) (fun _=>())):=wP8 (lv:=[(0,[0]),(1,[0,5]),(2,[0,5,6]),(3,[0,5,6,7]),(4,[0,5,6,7,16]),(5,[2,3,4]),(6,[0,5,6,20]),(7,[2,3,4]),(8,[0,6,8]),(9,[6,8,35]),(10,[2,3,4]),(11,[2,3,4])]) (ps:=[(0,vS)]) (rs:=(.tup (.cons vS (.cons vI (.cons vI .nl))))) (os:=[]) (v:=([],0,5,())) (z:=()) (p:=[]) sG4 mixed Tryz.func88 ([],()) trivial (by kernel_rfl) (by kernel_rfl)
noncomputable def tY4:List (Fb Tryz.prog):=[kd sJ9]
noncomputable def sG5:Ctx:={ Cx tys (Fb.l tY4) [] [] true 57 [] [] with skip:=true,dead:=[999999],closed:=true }
theorem sG6:CtxOk Tryz.prog sG5:=wI7 vD8 (by kernel_rfl) (Fb.all tY4) rfl (by kernel_rfl)
theorem sM6:SK 49 (fnSpec [(0,vS)] (.tup (.cons (.val T90) (.cons vI .nl))) [] (fun x=>x=([73,69,68,50],())) (fun _=>((Ty.dflt T90),4,())) (fun _=>())):=wP8 (lv:=[(0,[0,2]),(1,[0,2,15]),(2,[2,3]),(3,[2,4,5]),(4,[2,4,23]),(5,[2,3]),(6,[2,4,6,7,8]),(7,[2,4,6,7,8,32]),(8,[2,3]),(9,[2,6,38]),(10,[2,3]),(11,[2,9]),(12,[2,9,10]),(13,[2,10,11]),(14,[2,10,11,47]),(15,[2,3]),(16,[2,10,12]),(17,[2,10,12,53]),(18,[2,3]),(19,[2,3])]) (ps:=[(0,vS)]) (rs:=(.tup (.cons (.val T90) (.cons vI .nl)))) (os:=[]) (v:=((Ty.dflt T90),4,())) (z:=()) (p:=[]) sG6 mixed Tryz.func49 ([73,69,68,50],()) trivial (by kernel_rfl) (by kernel_rfl)
noncomputable def tY5:List (Fb Tryz.prog):=[kd sJ9,kd sM5]
noncomputable def sG7:Ctx:={ Cx tys (Fb.l tY5) [] [] true 57 [] [] with skip:=true,dead:=[999999],closed:=true }
theorem sG8:CtxOk Tryz.prog sG7:=wI7 vD8 (by kernel_rfl) (Fb.all tY5) rfl (by kernel_rfl)
theorem sM7:SK 49 (fnSpec [(0,vS)] (.tup (.cons (.val T90) (.cons vI .nl))) [] (fun x=>x=([73,69,68,49],())) (fun _=>((Ty.dflt T90),5,())) (fun _=>())):=wP8 (lv:=[(0,[0,2]),(1,[0,2,15]),(2,[2,3]),(3,[2,4,5]),(4,[2,4,23]),(5,[2,3]),(6,[2,4,6,7,8]),(7,[2,4,6,7,8,32]),(8,[2,3]),(9,[2,6,38]),(10,[2,3]),(11,[2,9]),(12,[2,9,10]),(13,[2,10,11]),(14,[2,10,11,47]),(15,[2,3]),(16,[2,10,12]),(17,[2,10,12,53]),(18,[2,3]),(19,[2,3])]) (ps:=[(0,vS)]) (rs:=(.tup (.cons (.val T90) (.cons vI .nl)))) (os:=[]) (v:=((Ty.dflt T90),5,())) (z:=()) (p:=[]) sG8 mixed Tryz.func49 ([73,69,68,49],()) trivial (by kernel_rfl) (by kernel_rfl)
def sG9:Am.Spec:=fnSpec [] vB [] (fun _=>True) (fun _=>true) (fun _=>())
def tY6:Prop:=True
instance:Decidable tY6:=isTrue trivial
def f19:Bool:=true
noncomputable def sK:List (Fb Tryz.prog):=[kd sQ2,kd sQ6,kd tW3,kd tJ,kd tJ2,kd vS4,kd sM6,kd sM7]
noncomputable def sM8:Ctx:={ Cx tys (Fb.l sK) [] [] true 62 [] [] with skip:=true,dead:=[999999],closed:=true }
theorem sM9:CtxOk Tryz.prog sM8:=wI7 vD8 (by kernel_rfl) (Fb.all sK) rfl (by kernel_rfl)
theorem sQ8:SK 19 (fnSpec [] vB [] (fun _=>tY6) (fun _=>f19) (fun _=>())):=wO7 (lv:=[(0,[]),(1,[1]),(2,[2]),(3,[2,3,4]),(4,[2,3,4]),(5,[2,3,4]),(6,[2,37]),(7,[0]),(8,[2,6]),(9,[2,6,8]),(10,[0])]) (rs:=vB) (p:=[]) (v:=true) sM9 mixed Tryz.func19 (by kernel_rfl) (by kernel_rfl) trivial
def f95t (p0:Int):Prop×Int:=
 (True,(bif (decide (p0<0)) then (wT .u64 (IntKind.wrap .u64 (wT0 (IntKind.wrap .u64 p0) (1:Int) 64))) else (IntKind.wrap .u64 (wT0 (IntKind.wrap .u64 p0) (1:Int) 64))))
def tJ3 p0:=(f95t p0).1
def f95 p0:=(f95t p0).2
instance (p0):Decidable (tJ3 p0):=by unfold tJ3 f95t;dsimp only;infer_instance
theorem sK0:SK 95 (sp1 vI (.val (.int .u64)) tJ3 f95):=fb Tryz.func95 12 [] [] [] true
def f92t (p0:Int):Prop×(List UInt8):=
 let v4:=(f95 p0)
 (((tJ3 p0)∧(uK5 v4)),(f93 v4))
def tJ4 p0:=(f92t p0).1
def f92 p0:=(f92t p0).2
instance (p0):Decidable (tJ4 p0):=by unfold tJ4 f92t;dsimp only;infer_instance
theorem sQ9:SK 92 (sp1 vI vS tJ4 f92):=fb Tryz.func92 6 [kb tX1,kb sK0]
abbrev uL0:Type:=((List Int)×Int×Unit)
abbrev vY5:Type:=((List UInt8)×Int×Unit)
def tE3 (y:uL0)(x:vY5):Prop×Bool×vY5:=
 let a6:=y.1
 let a3:=x.1
 let a8:=x.2.1
 let v9:=(decide (a8<y.2.1))
 let v10:=(nth a6 a8 (0:Int))
 let v13:=(f92 v10)
 ((v9=true→(InB a8 (len a6)∧((tJ4 v10)∧(((List.length a3+List.length v13:Nat):Int)≤4294967296∧InR (a8+1))))),v9,((a3++v13),(a8+1),()))
def uC0 y x:=(tE3 y x).1
def uS6 y x:=(tE3 y x).2.1
def vY6 y x:=(tE3 y x).2.2
instance (y x):Decidable (uC0 y x):=by unfold uC0 tE3;dsimp only;infer_instance
def uV4 (y:uL0)(x:vY5):(List UInt8):=
 x.1
def tY7:=li [(6,(.val (.sl (.int .i64)))),(7,vI)] [(3,(.bld 97 5 3)),(8,vI)] uS6 vY6 uC0 (fun y x=>[ex 2 none [(3,(.bld 97 5 3))] ((uV4 y x),())]) [[(3,(.bld 97 5 3))]]
def f51t (p0:List Int):Prop×(List UInt8):=
 let y3:=(p0,(len p0),())
 let x3:=(([]:List UInt8),(0:Int),())
 ((xQ5 (uS6 y3) (vY6 y3) (uC0 y3) x3),(uV4 y3 (zC5 (uS6 y3) (vY6 y3) x3)))
def vD0 p0:=(f51t p0).1
def f51 p0:=(f51t p0).2
instance (p0):Decidable (vD0 p0):=by unfold vD0 f51t;dsimp only;infer_instance
theorem sK1:SK 51 (sp1 (.val (.sl (.int .i64))) vS vD0 f51):=fy (fun c=>{ c with blds:=[(97,5,50,57)] }) Tryz.func51 17 [kb sQ9] [(3,tY7)]
def f52t (p0:List UInt8):Prop×(List UInt8):=
 let v5:=(IntKind.wrap .u64 (len p0))
 let v6:=(f93 v5)
 (((uK5 v5)∧((List.length v6+List.length p0:Nat):Int)≤9223372036854775807),(v6++p0))
def tB1 p0:=(f52t p0).1
def f52 p0:=(f52t p0).2
instance (p0):Decidable (tB1 p0):=by unfold tB1 f52t;dsimp only;infer_instance
theorem sR:SK 52 (sp1 vS vS tB1 f52):=fb Tryz.func52 9 [kb tX1]
abbrev uL1:Type:=((List Bool)×Int×Unit)
abbrev vY7:Type:=((List UInt8)×Int×Unit)
def tE4 (y:uL1)(x:vY7):Prop×Bool×vY7:=
 let a7:=y.1
 let a3:=x.1
 let a9:=x.2.1
 let v10:=(decide (a9<y.2.1))
 let m6:=(bif (nth a7 a9 false) then (1:Int) else (0:Int))
 let v15:=(f56 m6)
 ((v10=true→(InB a9 (len a7)∧((vL6 m6)∧(((List.length a3+List.length v15:Nat):Int)≤4294967296∧InR (a9+1))))),v10,((a3++v15),(a9+1),()))
def uC1 y x:=(tE4 y x).1
def uS7 y x:=(tE4 y x).2.1
def vY8 y x:=(tE4 y x).2.2
instance (y x):Decidable (uC1 y x):=by unfold uC1 tE4;dsimp only;infer_instance
def uV5 (y:uL1)(x:vY7):(List UInt8):=
 x.1
def tY8:=li [(7,(.val (.sl .bool))),(8,vI)] [(3,(.bld 97 5 3)),(9,vI)] uS7 vY8 uC1 (fun y x=>[ex 2 none [(3,(.bld 97 5 3))] ((uV5 y x),())]) [[(3,(.bld 97 5 3))]]
def f53t (p0:List Bool):Prop×(List UInt8):=
 let y3:=(p0,(len p0),())
 let x3:=(([]:List UInt8),(0:Int),())
 ((xQ5 (uS7 y3) (vY8 y3) (uC1 y3) x3),(uV5 y3 (zC5 (uS7 y3) (vY8 y3) x3)))
def tB2 p0:=(f53t p0).1
def f53 p0:=(f53t p0).2
instance (p0):Decidable (tB2 p0):=by unfold tB2 f53t;dsimp only;infer_instance
theorem sR0:SK 53 (sp1 (.val (.sl .bool)) vS tB2 f53):=fy (fun c=>{ c with blds:=[(97,5,50,57)] }) Tryz.func53 19 [kb tH8] [(3,tY8)]
abbrev uL2:Type:=((List Int)×Int×Unit)
abbrev vY9:Type:=((List Int)×Int×Unit)
def tE5 (y:uL2)(x:vY9):Prop×Bool×vY9:=
 let a10:=y.1
 let a3:=x.1
 let a12:=x.2.1
 let v13:=(decide (a12<y.2.1))
 let v14:=(nth a10 a12 (0:Int))
 let v18:=(f95 v14)
 ((v13=true→(InB a12 (len a10)∧((tJ3 v14)∧(vK7 a3 v18)))),v13,((vW a3 v18),(IntKind.wrap .i64 (a12+1)),()))
def vW5 y x:=(tE5 y x).1
def vQ4 y x:=(tE5 y x).2.1
def vF2 y x:=(tE5 y x).2.2
instance (y x):Decidable (vW5 y x):=by unfold vW5 tE5;dsimp only;infer_instance
def uV6 (y:uL2)(x:vY9):(List Int):=
 x.1
def tJ5:List (Nat×Sh):=[(3,(.own (.int .u8) 1003 false))]
def tY9:=li [(10,(.val (.sl (.int .i64)))),(11,vI)] [(3,(.own (.int .u8) 1003 false)),(12,vI)] vQ4 vF2 vW5 (fun y x=>[ex 2 none tJ5 ((uV6 y x),())]) [tJ5]
def f54t (p0:List Int):Prop×(List UInt8):=
 let v8:=(IntKind.wrap .u64 (len p0))
 let y3:=(p0,(len p0),())
 let x3:=((vW ([]:List Int) v8),(0:Int),())
 (((vK7 ([]:List Int) v8)∧(xQ5 (vQ4 y3) (vF2 y3) (vW5 y3) x3)),(xC8 (uV6 y3 (zC5 (vQ4 y3) (vF2 y3) x3))))
def tJ6 p0:=(f54t p0).1
def f54 p0:=(f54t p0).2
instance (p0):Decidable (tJ6 p0):=by unfold tJ6 f54t;dsimp only;infer_instance
theorem sR1:SK 54 (sp1 (.val (.sl (.int .i64))) vS tJ6 f54):=fx (fun c=>{ c with wants:=[(94,[0])] }) Tryz.func54 23 [kb tH7,kb sK0] [(3,tY9)] [(3,[(4,0,9,1003)]),(11,[(4,0,19,1003)])] true
end Go.Proofs.YtbiemgjkkhkdeaaGreatDoor.Am
