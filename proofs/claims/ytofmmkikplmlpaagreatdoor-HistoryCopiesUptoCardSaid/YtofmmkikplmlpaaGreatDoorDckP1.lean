/- Printed by program: the functions that the statements reach, as plain functions, and their contracts. No condition. -/
import Derived.Test.YtofmmkikplmlpaaGreatDoorMach4
import Derived.Test.YtofmmkikplmlpaaGreatDoorDckI
import Derived.Test.YtofmmkikplmlpaaGreatDoorDckH
import Derived.Test.YtofmmkikplmlpaaGreatDoorProg
set_option linter.unusedVariables false
set_option synthInstance.maxSize 4000
set_option synthInstance.maxHeartbeats 400000
namespace Go.Proofs.YtofmmkikplmlpaaGreatDoor.Am
open Go Go.Am Go.Proofs
abbrev T24:Ty:=.st (.cons (.int .i64) (.cons (.int .i64) (.cons (.sl (.int .i64)) .nl)))
abbrev D24:Type:=Int×Int×(List Int)×Unit
abbrev Z24:D24:=((0:Int),(0:Int),([]:List Int),())
abbrev T79:Ty:=.st (.cons (.int .i64) (.cons (.int .i64) (.cons (.int .i64) (.cons (.int .i64) (.cons (.int .i64) (.cons (.int .i64) .nl))))))
abbrev D79:Type:=Int×Int×Int×Int×Int×Int×Unit
abbrev Z79:D79:=((0:Int),(0:Int),(0:Int),(0:Int),(0:Int),(0:Int),())
abbrev T84:Ty:=.st (.cons (.int .i64) (.cons (.int .i64) (.cons (.int .i64) (.cons (.int .i64) .nl))))
abbrev D84:Type:=Int×Int×Int×Int×Unit
abbrev Z84:D84:=((0:Int),(0:Int),(0:Int),(0:Int),())
abbrev T82:Ty:=.st (.cons (.int .i64) (.cons (.int .i64) (.cons (.sl T84) .nl)))
abbrev D82:Type:=Int×Int×(List D84)×Unit
abbrev Z82:D82:=((0:Int),(0:Int),([]:List D84),())
abbrev T137:Ty:=.st (.cons (.int .i64) (.cons T84 .nl))
abbrev D137:Type:=Int×D84×Unit
abbrev Z137:D137:=((0:Int),Z84,())
abbrev T140:Ty:=.st (.cons (.int .i64) (.cons (.int .i64) .nl))
abbrev D140:Type:=Int×Int×Unit
abbrev Z140:D140:=((0:Int),(0:Int),())
abbrev T143:Ty:=.st (.cons (.int .i64) (.cons (.arr 3 T140) .nl))
abbrev D143:Type:=Int×(List D140)×Unit
abbrev Z143:D143:=((0:Int),(List.replicate 3 Z140),())
abbrev T89:Ty:=.st (.cons (.int .i64) (.cons (.int .i64) (.cons (.int .i64) (.cons (.sl T140) .nl))))
abbrev D89:Type:=Int×Int×Int×(List D140)×Unit
abbrev Z89:D89:=((0:Int),(0:Int),(0:Int),([]:List D140),())
abbrev T91:Ty:=.st (.cons (.int .i64) (.cons (.int .i64) (.cons (.int .i64) (.cons .str (.cons .bool (.cons .bool (.cons .bool (.cons (.int .i64) (.cons (.int .i64) (.cons T24 (.cons T79 (.cons (.int .i64) (.cons T82 (.cons T84 (.cons (.int .i64) (.cons (.sl (.int .i64)) (.cons (.int .i64) (.cons (.sl T137) (.cons (.sl T143) (.cons (.int .i64) (.cons (.int .i64) (.cons (.int .i64) (.cons (.int .i64) (.cons .str (.cons (.int .i64) (.cons (.int .i64) (.cons (.int .i64) (.cons T89 .nl))))))))))))))))))))))))))))
abbrev D91:Type:=Int×Int×Int×(List UInt8)×Bool×Bool×Bool×Int×Int×D24×D79×Int×D82×D84×Int×(List Int)×Int×(List D137)×(List D143)×Int×Int×Int×Int×(List UInt8)×Int×Int×Int×D89×Unit
abbrev Z91:D91:=((0:Int),(0:Int),(0:Int),([]:List UInt8),false,false,false,(0:Int),(0:Int),Z24,Z79,(0:Int),Z82,Z84,(0:Int),([]:List Int),(0:Int),([]:List D137),([]:List D143),(0:Int),(0:Int),(0:Int),(0:Int),([]:List UInt8),(0:Int),(0:Int),(0:Int),Z89,())
abbrev T95:Ty:=.st (.cons .str (.cons .str .nl))
abbrev D95:Type:=(List UInt8)×(List UInt8)×Unit
abbrev Z95:D95:=(([]:List UInt8),([]:List UInt8),())
abbrev T98:Ty:=.st (.cons (.int .i64) (.cons .str (.cons (.int .i64) (.cons (.int .i64) (.cons T82 .nl)))))
abbrev D98:Type:=Int×(List UInt8)×Int×Int×D82×Unit
abbrev Z98:D98:=((0:Int),([]:List UInt8),(0:Int),(0:Int),Z82,())
abbrev T28:Ty:=.st (.cons (.int .i64) (.cons (.int .i64) (.cons (.int .i64) (.cons (.sl T91) (.cons (.int .i64) (.cons T24 (.cons (.sl T95) (.cons (.sl T98) .nl))))))))
abbrev D28:Type:=Int×Int×Int×(List D91)×Int×D24×(List D95)×(List D98)×Unit
abbrev Z28:D28:=((0:Int),(0:Int),(0:Int),([]:List D91),(0:Int),Z24,([]:List D95),([]:List D98),())
abbrev T50:Ty:=.st (.cons (.int .i64) (.cons (.int .i64) (.cons .str (.cons T28 .nl))))
abbrev D50:Type:=Int×Int×(List UInt8)×D28×Unit
abbrev Z50:D50:=((0:Int),(0:Int),([]:List UInt8),Z28,())
abbrev T73:Ty:=.st (.cons T50 (.cons (.int .i64) .nl))
abbrev D73:Type:=D50×Int×Unit
abbrev Z73:D73:=(Z50,(0:Int),())
abbrev T70:Ty:=.st (.cons (.sl T73) (.cons (.int .i64) (.cons (.int .i64) (.cons (.int .i64) .nl))))
abbrev D70:Type:=(List D73)×Int×Int×Int×Unit
abbrev T204:Ty:=.st (.cons (.int .u8) (.cons (.int .i64) (.cons (.sl T143) .nl)))
abbrev D204:Type:=Int×Int×(List D143)×Unit
abbrev Z204:D204:=((0:Int),(0:Int),([]:List D143),())
abbrev T209:Ty:=.st (.cons (.int .u8) (.cons (.int .u8) (.cons (.int .i64) .nl)))
abbrev D209:Type:=Int×Int×Int×Unit
abbrev Z209:D209:=((0:Int),(0:Int),(0:Int),())
abbrev T175:Ty:=.st (.cons (.int .i64) (.cons (.int .i64) (.cons (.int .i64) (.cons (.sl T204) (.cons (.sl T209) .nl)))))
abbrev D175:Type:=Int×Int×Int×(List D204)×(List D209)×Unit
abbrev T191:Ty:=.st (.cons (.int .i64) (.cons (.int .i64) (.cons (.int .i64) (.cons (.sl (.sl T140)) (.cons (.int .i64) .nl)))))
abbrev T225:Ty:=.st (.cons T175 (.cons (.arr 256 (.int .i64)) .nl))
abbrev D225:Type:=D175×(List Int)×Unit
abbrev T217:Ty:=.st (.cons T140 (.cons T140 (.cons T140 (.cons T140 (.cons T140 .nl)))))
abbrev D217:Type:=D140×D140×D140×D140×D140×Unit
abbrev Z217:D217:=(Z140,Z140,Z140,Z140,Z140,())
abbrev T266:Ty:=.st (.cons (.int .u16) (.cons (.int .u16) (.cons (.int .u16) .nl)))
abbrev T269:Ty:=.st (.cons (.int .u32) (.cons (.int .u32) (.cons (.int .u32) .nl)))
abbrev T263:Ty:=.st (.cons (.sl T266) (.cons (.sl T269) (.cons (.int .i64) .nl)))
def G0:List Int:=[0,0,0,0,0,0,0,0,0,1,1,1,1,1,0,0,0,0,0,0,0,0,0,0,0,0,0,0,0,0,0,0,1,0,0,0,0,0,0,0,0,0,0,0,0,0,0,0,0,0,0,0,0,0,0,0,0,0,0,0,0,0,0,0,0,0,0,0,0,0,0,0,0,0,0,0,0,0,0,0,0,0,0,0,0,0,0,0,0,0,0,0,0,0,0,0,0,0,0,0,0,0,0,0,0,0,0,0,0,0,0,0,0,0,0,0,0,0,0,0,0,0,0,0,0,0,0,0,0,0,0,0,0,0,0,0,0,0,0,0,0,0,0,0,0,0,0,0,0,0,0,0,0,0,0,0,0,0,0,0,0,0,0,0,0,0,0,0,0,0,0,0,0,0,0,0,0,0,0,0,0,0,0,0,0,0,0,0,0,0,0,0,0,0,0,0,0,0,0,0,0,0,0,0,0,0,0,0,0,0,0,0,0,0,0,0,0,0,0,0,0,0,0,0,0,0,0,0,0,0,0,0,0,0,0,0,0,0,0,0,0,0,0,0,0,0,0,0,0,0,0,0,0,0,0,0]
def G5:List Int:=[0,1608,3216,4821,6424,8022,9616,11204,12785,14359,15924,17479,19024,20557,22078,23586,25080,26558,28020,29466,30893,32303,33692,35062,36410,37736,39040,40320,41576,42806,44011,45190,46341,47464,48559,49624,50660,51665,52639,53581,54491,55368,56212,57022,57798,58538,59244,59914,60547,61145,61705,62228,62714,63162,63572,63944,64277,64571,64827,65043,65220,65358,65457,65516,65536]
instance:GlobTab:=⟨⟨[(0,⟨(.arr 256 (.int .u8)),G0⟩),(5,⟨(.arr 65 (.int .i64)),G5⟩)]⟩⟩
set_option maxRecDepth 20000 in
def lit0:List UInt8:=[48,48,48,48,48,48,48,48,48,48,32,48,48,48,48,53,102,48,48,48,48,32,48,48,48,55,48,48,48,55,48,48,32,49,52,55,102,49,52,55,102,49,52,32,50,52,50,97,55,102,50,97,49,50,32,50,51,49,51,48,56,54,52,54,50,32,51,54,52,57,53,54,50,48,53,48,32,48,48,48,53,48,51,48,48,48,48,32,48,48,49,99,50,50,52,49,48,48,32,48,48,52,49,50,50,49,99,48,48,32,49,52,48,56,51,101,48,56,49,52,32,48,56,48,56,51,101,48,56,48,56,32,48,48,53,48,51,48,48,48,48,48,32,48,56,48,56,48,56,48,56,48,56,32,48,48,54,48,54,48,48,48,48,48,32,50,48,49,48,48,56,48,52,48,50,32,51,101,53,49,52,57,52,53,51,101,32,48,48,52,50,55,102,52,48,48,48,32,52,50,54,49,53,49,52,57,52,54,32,50,49,52,49,52,53,52,98,51,49,32,49,56,49,52,49,50,55,102,49,48,32,50,55,52,53,52,53,52,53,51,57,32,51,99,52,97,52,57,52,57,51,48,32,48,49,55,49,48,57,48,53,48,51,32,51,54,52,57,52,57,52,57,51,54,32,48,54,52,57,52,57,50,57,49,101,32,48,48,51,54,51,54,48,48,48,48,32,48,48,53,54,51,54,48,48,48,48,32,48,56,49,52,50,50,52,49,48,48,32,49,52,49,52,49,52,49,52,49,52,32,48,48,52,49,50,50,49,52,48,56,32,48,50,48,49,53,49,48,57,48,54,32,51,50,52,57,55,57,52,49,51,101,32,55,101,49,49,49,49,49,49,55,101,32,55,102,52,57,52,57,52,57,51,54,32,51,101,52,49,52,49,52,49,50,50,32,55,102,52,49,52,49,50,50,49,99,32,55,102,52,57,52,57,52,57,52,49,32,55,102,48,57,48,57,48,57,48,49,32,51,101,52,49,52,57,52,57,55,97,32,55,102,48,56,48,56,48,56,55,102,32,48,48,52,49,55,102,52,49,48,48,32,50,48,52,48,52,49,51,102,48,49,32,55,102,48,56,49,52,50,50,52,49,32,55,102,52,48,52,48,52,48,52,48,32,55,102,48,50,48,99,48,50,55,102,32,55,102,48,52,48,56,49,48,55,102,32,51,101,52,49,52,49,52,49,51,101,32,55,102,48,57,48,57,48,57,48,54,32,51,101,52,49,53,49,50,49,53,101,32,55,102,48,57,49,57,50,57,52,54,32,52,54,52,57,52,57,52,57,51,49,32,48,49,48,49,55,102,48,49,48,49,32,51,102,52,48,52,48,52,48,51,102,32,49,102,50,48,52,48,50,48,49,102,32,51,102,52,48,51,56,52,48,51,102,32,54,51,49,52,48,56,49,52,54,51,32,48,55,48,56,55,48,48,56,48,55,32,54,49,53,49,52,57,52,53,52,51,32,48,48,55,102,52,49,52,49,48,48,32,48,50,48,52,48,56,49,48,50,48,32,48,48,52,49,52,49,55,102,48,48,32,48,52,48,50,48,49,48,50,48,52,32,52,48,52,48,52,48,52,48,52,48,32,48,48,48,49,48,50,48,52,48,48,32,50,48,53,52,53,52,53,52,55,56,32,55,102,52,56,52,52,52,52,51,56,32,51,56,52,52,52,52,52,52,50,48,32,51,56,52,52,52,52,52,56,55,102,32,51,56,53,52,53,52,53,52,49,56,32,48,56,55,101,48,57,48,49,48,50,32,48,99,53,50,53,50,53,50,51,101,32,55,102,48,56,48,52,48,52,55,56,32,48,48,52,52,55,100,52,48,48,48,32,50,48,52,48,52,52,51,100,48,48,32,55,102,49,48,50,56,52,52,48,48,32,48,48,52,49,55,102,52,48,48,48,32,55,99,48,52,49,56,48,52,55,56,32,55,99,48,56,48,52,48,52,55,56,32,51,56,52,52,52,52,52,52,51,56,32,55,99,49,52,49,52,49,52,48,56,32,48,56,49,52,49,52,49,56,55,99,32,55,99,48,56,48,52,48,52,48,56,32,52,56,53,52,53,52,53,52,50,48,32,48,52,51,102,52,52,52,48,50,48,32,51,99,52,48,52,48,50,48,55,99,32,49,99,50,48,52,48,50,48,49,99,32,51,99,52,48,51,48,52,48,51,99,32,52,52,50,56,49,48,50,56,52,52,32,48,99,53,48,53,48,53,48,51,99,32,52,52,54,52,53,52,52,99,52,52,32,48,48,48,56,51,54,52,49,48,48,32,48,48,48,48,55,102,48,48,48,48,32,48,48,52,49,51,54,48,56,48,48,32,49,48,48,56,48,56,49,48,48,56]
theorem qR7:xP Tryz.prog 179 yD8:=wC0 Tryz.func179 (by kernel_rfl) (by kernel_rfl) (by kernel_rfl) (by kernel_rfl)
theorem qR8:xP Tryz.prog 183 xF3:=wI0 Tryz.func183 (by kernel_rfl) (by kernel_rfl) (by kernel_rfl) (by kernel_rfl)
def tys:List (Nat×Ty):=[(3,(.int .i64)),(4,.bool),(5,(.int .u8)),(9,.str),(21,(.int .i32)),(22,(.sl T91)),(23,(.sl (.int .i64))),(25,T24),(26,(.sl T95)),(27,(.sl T98)),(29,T28),(30,(.sl T50)),(31,(.ptr T70)),(32,(.int .i64)),(44,(.sl T50)),(47,T50),(51,T50),(69,(.sl T73)),(71,T70),(74,T73),(80,T79),(81,(.sl T84)),(83,T82),(85,T84),(86,(.sl T137)),(87,(.sl T143)),(88,(.sl T140)),(90,T89),(92,T91),(96,T95),(99,T98),(114,(.sl .bool)),(138,T137),(141,T140),(142,(.arr 3 T140)),(144,T143),(165,(.sl (.sl T140))),(173,(.sl T204)),(174,(.sl T209)),(176,T175),(180,(.sl T140)),(183,T140),(190,(.ptr T191)),(192,T191),(195,(.ptr T225)),(197,(.sl .str)),(199,(.sl T140)),(203,T140),(205,T204),(210,T209),(215,(.sl T217)),(218,T217),(224,(.arr 256 (.int .i64))),(226,T225),(232,(.arr 256 (.int .u8))),(244,(.sl T140)),(246,T140),(247,(.int .u32)),(249,(.ptr T263)),(251,(.int .u64)),(278,(.arr 65 (.int .i64)))]
theorem tO2:zM7 Tryz.prog tys=true:=by kernel_rfl
def maps:List (Nat×(Ty×Ty)):=[(105,((.int .i64),(.int .i64)))]
def fts:List Nat:=[115]
theorem mixed:Tryz.prog.follows .mixedOrders=true:=by kernel_rfl
theorem cq {c:Ctx}(hs:xU Tryz.prog c.fns)(hmp:(yI3 Tryz.prog c.maps&&yX3 Tryz.prog c.fts)=true:=by kernel_rfl)(he:c.exts=[]:=by rfl)(ht:zM7 Tryz.prog c.tys=true:=by exact tO2)(hn:Nat.ble c.n vNo=true:=by kernel_rfl)(hcl:c.clones=[]:=by rfl):CtxOk Tryz.prog c:=wI ht hmp hs he hn hcl
theorem fq {c:Ctx}{f:Nat}{fn:Func}{ps:List (Nat×Sh)}{rs:Sh}{os:List (Nat×Sh)}{ok:zB2 ps→Prop}{F:zB2 ps→rs.den}{o:zB2 ps→zX2 os}(hf:Tryz.prog.funcs[f]?=some fn)(hs:xU Tryz.prog c.fns)(hmp:(yI3 Tryz.prog c.maps&&yX3 Tryz.prog c.fts)=true:=by kernel_rfl)(he:c.exts=[]:=by rfl)(ht:zM7 Tryz.prog c.tys=true:=by exact tO2)(hn:Nat.ble c.n vNo=true:=by kernel_rfl)(hcl:c.clones=[]:=by rfl)(hk:xU2 fn c ps os=true:=by kernel_rfl)(hbs:zG6 (fn.body.getD .skip)=[]:=by kernel_rfl)(hsum:∀ x,xC0 c (fn.body.getD .skip) fn.results.toList ps rs os x=some (ok x,F x,o x):=by intro x;kernel_rfl):SpecOk Tryz.prog f (fnSpec ps rs os ok F o):=wK5 (wI ht hmp hs he hn hcl) mixed hf hk hbs trivial hsum
theorem fl {c:Ctx}{f:Nat}{fn:Func}{ps:List (Nat×Sh)}{rs:Sh}{os:List (Nat×Sh)}{ok:zB2 ps→Prop}{F:zB2 ps→rs.den}{o:zB2 ps→zX2 os}(hc:CtxOk Tryz.prog c)(hf:Tryz.prog.funcs[f]?=some fn){bs:List Code}(hL:zN2 Tryz.prog c bs)(hk:xU2 fn c ps os=true:=by kernel_rfl)(hbs:zG6 (fn.body.getD .skip)=bs:=by kernel_rfl)(hsum:∀ x,xC0 c (fn.body.getD .skip) fn.results.toList ps rs os x=some (ok x,F x,o x):=by intro x;kernel_rfl):SpecOk Tryz.prog f (fnSpec ps rs os ok F o):=wK5 hc mixed hf hk hbs hL hsum
theorem lq {c:Ctx}{body:Code}{sp:St→Option Out}{ly lx:List (Nat×Sh)}{g:zB2 ly→zB2 lx→Bool}{next:zB2 ly→zB2 lx→zB2 lx}{ok:zB2 ly→zB2 lx→Prop}{es:zB2 ly→zB2 lx→List Comp}(hc:CtxOk Tryz.prog c)(hs:sp=xT8 ly lx g next ok es)(les:List (List (Nat×Sh)))(hb:zG6 body=[]:=by kernel_rfl)(hw:zC9 c.keep body=true:=by kernel_rfl)(hl:Go.Am.look (fun _=>none) c.loops (zD7 body)=sp:=by kernel_rfl)(hsum:∀ y x,yC5 c body ly lx les y x=some (ok y x,g y x,y,next y x,es y x):=by intro y x;kernel_rfl):xC1 Tryz.prog c body:=wK4 hc mixed hs les hb trivial hw hl hsum
@[reducible] def kb {n:Nat}{s:Am.Spec}(h:SpecOk Tryz.prog n s):Fb Tryz.prog:=⟨n,s,h⟩
@[reducible] def li:=Li.mk
theorem fx (X:Ctx→Ctx){f:Nat}{fn:Func}(hf:Tryz.prog.funcs[f]?=some fn)(n:Nat)(cs:List (Fb Tryz.prog):=[])(ls:List (Nat×Li):=[])(gh:List (Nat×List (Nat×Nat×Nat×Nat)):=[])(w:Bool:=false)(kp wr:List Nat:=[]){ps:List (Nat×Sh)}{rs:Sh}{os:List (Nat×Sh)}{ok:zB2 ps→Prop}{F:zB2 ps→rs.den}{o:zB2 ps→zX2 os}(hX:(X (Cx tys (Fb.l cs) (Li.l ls) gh w n kp wr)).fns=Fb.l cs:=by rfl)(hk:xU2 fn (X (Cx tys (Fb.l cs) (Li.l ls) gh w n kp wr)) ps os=true:=by kernel_rfl)(hl:wB (X (Cx tys (Fb.l cs) (Li.l ls) gh w n kp wr)) (zN3 (fn.body.getD .skip)) ls=wB0 ls:=by kernel_rfl)(hsum:∀ x,xC0 (X (Cx tys (Fb.l cs) (Li.l ls) gh w n kp wr)) (fn.body.getD .skip) fn.results.toList ps rs os x=some (ok x,F x,o x):=by intro x;kernel_rfl)(hmp:(yI3 Tryz.prog (X (Cx tys (Fb.l cs) (Li.l ls) gh w n kp wr)).maps&&yX3 Tryz.prog (X (Cx tys (Fb.l cs) (Li.l ls) gh w n kp wr)).fts)=true:=by kernel_rfl)(he:(X (Cx tys (Fb.l cs) (Li.l ls) gh w n kp wr)).exts=[]:=by rfl)(ht:zM7 Tryz.prog (X (Cx tys (Fb.l cs) (Li.l ls) gh w n kp wr)).tys=true:=by exact tO2)(hn:Nat.ble (X (Cx tys (Fb.l cs) (Li.l ls) gh w n kp wr)).n vNo=true:=by kernel_rfl)(hcl:(X (Cx tys (Fb.l cs) (Li.l ls) gh w n kp wr)).clones=[]:=by rfl):SpecOk Tryz.prog f (fnSpec ps rs os ok F o):=wK6 (wI ht hmp (by rw[hX];exact Fb.all cs) he hn hcl) mixed hf hk hl hsum
theorem fb {f:Nat}{fn:Func}(hf:Tryz.prog.funcs[f]?=some fn)(n:Nat)(cs:List (Fb Tryz.prog):=[])(ls:List (Nat×Li):=[])(gh:List (Nat×List (Nat×Nat×Nat×Nat)):=[])(w:Bool:=false)(kp wr:List Nat:=[]){ps:List (Nat×Sh)}{rs:Sh}{os:List (Nat×Sh)}{ok:zB2 ps→Prop}{F:zB2 ps→rs.den}{o:zB2 ps→zX2 os}(hk:xU2 fn (Cx tys (Fb.l cs) (Li.l ls) gh w n kp wr) ps os=true:=by kernel_rfl)(hl:wB (Cx tys (Fb.l cs) (Li.l ls) gh w n kp wr) (zN3 (fn.body.getD .skip)) ls=wB0 ls:=by kernel_rfl)(hsum:∀ x,xC0 (Cx tys (Fb.l cs) (Li.l ls) gh w n kp wr) (fn.body.getD .skip) fn.results.toList ps rs os x=some (ok x,F x,o x):=by intro x;kernel_rfl)(hmp:(yI3 Tryz.prog (Cx tys (Fb.l cs) (Li.l ls) gh w n kp wr).maps&&yX3 Tryz.prog (Cx tys (Fb.l cs) (Li.l ls) gh w n kp wr).fts)=true:=by kernel_rfl)(he:(Cx tys (Fb.l cs) (Li.l ls) gh w n kp wr).exts=[]:=by rfl)(ht:zM7 Tryz.prog (Cx tys (Fb.l cs) (Li.l ls) gh w n kp wr).tys=true:=by exact tO2)(hn:Nat.ble (Cx tys (Fb.l cs) (Li.l ls) gh w n kp wr).n vNo=true:=by kernel_rfl)(hcl:(Cx tys (Fb.l cs) (Li.l ls) gh w n kp wr).clones=[]:=by rfl):SpecOk Tryz.prog f (fnSpec ps rs os ok F o):=wK6 (wI ht hmp (Fb.all cs) he hn hcl) mixed hf hk hl hsum
abbrev SK (n:Nat)(s:Am.Spec):Prop:=SpecOk Tryz.prog n s
@[reducible] def Cy (f:List (Nat×Am.Spec)) (l:List (Nat×(St→Option Out))) (h:List (Nat×List (Nat×Nat×Nat×Nat))) (n:Nat):Ctx:=Cx tys f l h false n [] []
@[reducible] def sp1 (A R:Sh) (ok:A.den→Prop) (f:A.den→R.den):Am.Spec:=fnSpec [(0,A)] R [] (fun x=>ok x.1) (fun x=>f x.1) (fun _=>())
@[reducible] def sp2 (A B R:Sh) (ok:A.den→B.den→Prop) (f:A.den→B.den→R.den):Am.Spec:=fnSpec [(0,A),(1,B)] R [] (fun x=>ok x.1 x.2.1) (fun x=>f x.1 x.2.1) (fun _=>())
@[reducible] def sp3 (A B C R:Sh) (ok:A.den→B.den→C.den→Prop) (f:A.den→B.den→C.den→R.den):Am.Spec:=fnSpec [(0,A),(1,B),(2,C)] R [] (fun x=>ok x.1 x.2.1 x.2.2.1) (fun x=>f x.1 x.2.1 x.2.2.1) (fun _=>())
@[reducible] def sp4 (A B C D R:Sh) (ok:A.den→B.den→C.den→D.den→Prop) (f:A.den→B.den→C.den→D.den→R.den):Am.Spec:=fnSpec [(0,A),(1,B),(2,C),(3,D)] R [] (fun x=>ok x.1 x.2.1 x.2.2.1 x.2.2.2.1) (fun x=>f x.1 x.2.1 x.2.2.1 x.2.2.2.1) (fun _=>())
@[reducible] def sp5 (A B C D E R:Sh) (ok:A.den→B.den→C.den→D.den→E.den→Prop) (f:A.den→B.den→C.den→D.den→E.den→R.den):Am.Spec:=fnSpec [(0,A),(1,B),(2,C),(3,D),(4,E)] R [] (fun x=>ok x.1 x.2.1 x.2.2.1 x.2.2.2.1 x.2.2.2.2.1) (fun x=>f x.1 x.2.1 x.2.2.1 x.2.2.2.1 x.2.2.2.2.1) (fun _=>())
def qR9 (p0:List UInt8)(p1:Int):Prop×Int:=
 (True,(Lib.indexByte p0 (Int.toNat p1).toUInt8))
def sJ7 p0 p1:=(qR9 p0 p1).1
def f167 p0 p1:=(qR9 p0 p1).2
instance (p0 p1):Decidable (sJ7 p0 p1):=by unfold sJ7 qR9;dsimp only;infer_instance
def rQ0:=sp2 vS (.val (.int .u8)) vI sJ7 f167
def qE9:Ctx:={ Cx tys [] [] [] false 8 [] [] with exts:=[(179,yD8)] }
theorem qF:CtxOk Tryz.prog qE9:=wG3 tO2 rfl trivial ⟨qR7,trivial⟩ (by kernel_rfl)
theorem qS:SK 167 rQ0:=fl qF Tryz.func167 (bs:=[]) trivial
def f186 (p0 p1:List UInt8):Int:=Lib.indexByte p0 (p1.headD 0)
def sJ8 (_p0 p1:List UInt8):Prop:=List.length p1=1
instance (p0 p1:List UInt8):Decidable (sJ8 p0 p1):=by
  unfold sJ8
  infer_instance
def qS0:List (Nat×Sh):=[(0,(.val .str)),(1,(.val .str))]
def qS1:Sh:=(.val (.int .i64))
def qS2:List (Nat×Sh):=[]
def rQ1:Am.Spec:=fnSpec qS0 qS1 qS2 (fun x=>sJ8 x.1 x.2.1) (fun x=>f186 x.1 x.2.1) (fun _=>())
theorem qS3:SpecOk Tryz.prog 186 rQ1:=wH1 (F:=f186) ⟨_,Tryz.func186,by kernel_rfl,by decide⟩ (fun s c w=>Tryz.strings_Index_one s c w)
def f187 (_p0:List UInt8)(_p1:Int):(List (List UInt8)):=([]:List (List UInt8))
def sJ9 (_p0:List UInt8)(_p1:Int):Prop:=False
instance (_p0:List UInt8)(_p1:Int):Decidable (sJ9 _p0 _p1):=by
  unfold sJ9
  infer_instance
def qS4:List (Nat×Sh):=[(0,vS),(1,vI)]
def qS5:Sh:=(.val (.sl .str))
def qS6:List (Nat×Sh):=[]
def rQ2:Am.Spec:=fnSpec qS4 qS5 qS6 (fun x=>sJ9 x.1 x.2.1) (fun x=>f187 x.1 x.2.1) (fun _=>())
theorem qS7:SpecOk Tryz.prog 187 rQ2:=wE9 Tryz.func187 (by kernel_rfl) (by decide)
def f188 (p0 p1:List UInt8):Int:=((Lib.countByte p0 (p1.headD 0):Nat):Int)
def sK (_p0 p1:List UInt8):Prop:=List.length p1=1
instance (p0 p1:List UInt8):Decidable (sK p0 p1):=by
  unfold sK
  infer_instance
def qS8:List (Nat×Sh):=[(0,(.val .str)),(1,(.val .str))]
def qS9:Sh:=(.val (.int .i64))
def qT:List (Nat×Sh):=[]
def rQ3:Am.Spec:=fnSpec qS8 qS9 qT (fun x=>sK x.1 x.2.1) (fun x=>f188 x.1 x.2.1) (fun _=>())
theorem qT0:SpecOk Tryz.prog 188 rQ3:=wH1 (F:=f188) ⟨_,Tryz.func188,by kernel_rfl,by decide⟩ (fun s c w=>Tryz.strings_Count_one s c w)
abbrev vB9:Type:=((List UInt8)×Int×Int×Unit)
abbrev wV1:Type:=((List UInt8)×(List (List UInt8))×Int×Unit)
def vL9 (y:vB9)(x:wV1):Prop×Bool×wV1:=
 let a1:=y.1
 let a2:=y.2.1
 let a0:=x.1
 let a9:=x.2.1
 let a10:=x.2.2.1
 let v36:=(decide (a10<y.2.2.1))
 let v39:=(f186 a0 a1)
 let v41:=(decide (v39<0))
 let v47:=(v39+a2)
 let v53:=(len a1)
 let v54:=(v39+v53)
 ((v36=true→((sJ8 a0 a1)∧((!v41)=true→(InR (v39+a2)∧((0≤v47∧v47≤len a0)∧(InB a10 (len a9)∧(a10<len a9∧(InR (v39+v53)∧((0≤v54∧v54≤len a0)∧InR (a10+1)))))))))),(v36&&(!v41)),((List.drop (Int.toNat v54) a0),(List.set a9 (Int.toNat a10) (List.take (Int.toNat v47) a0)),(a10+1),()))
def vM y x:=(vL9 y x).1
def wP5 y x:=(vL9 y x).2.1
def wM3 y x:=(vL9 y x).2.2
instance (y x):Decidable (vM y x):=by unfold vM vL9;dsimp only;infer_instance
def vH2 (y:vB9)(x:wV1):(List UInt8):=
 x.1
def vH3 (y:vB9)(x:wV1):(List (List UInt8)):=
 x.2.1
def vH4 (y:vB9)(x:wV1):Int:=
 x.2.2.1
def tO3:List (Nat×Sh):=[(0,vS),(9,(.own .str 1009 true)),(10,vI)]
def sY7:=li [(1,vS),(2,vI),(3,vI)] [(0,vS),(9,(.own .str 1009 true)),(10,vI)] wP5 wM3 vM (fun y x=>[ex 2 none tO3 ((vH2 y x),(vH3 y x),(vH4 y x),())]) [tO3]
def rQ4 (p0:List UInt8)(p1:List UInt8)(p2:Int)(p3:Int):Prop×(List (List UInt8)):=
 let v13:=(p3==0)
 let v15:=(p1==([]:List UInt8))
 let v20:=(decide (p3<0))
 let v23:=(f188 p0 p1)
 let v27:=(len p0)
 let v29:=(wI6 (bif v20 then (v23+1) else p3) (v27+1))
 let y11:=(p1,p2,(v29-1),())
 let x11:=(p0,(List.replicate (Int.toNat v29) ([]:List UInt8)),(0:Int),())
 let e11:=(zB9 (wP5 y11) (wM3 y11) x11)
 let r11_2_1:=(vH3 y11 e11)
 let r11_2_2:=(vH4 y11 e11)
 let l1009:=(List.set r11_2_1 (Int.toNat r11_2_2) (vH2 y11 e11))
 let v64:=(r11_2_2+1)
 (((!v13)=true→((v15=true→(sJ9 p0 p3))∧((!v15)=true→((v20=true→((sK p0 p1)∧InR (v23+1)))∧(InR (v27+1)∧((0≤v29∧v29≤v29∧v29≤4294967296)∧(InR (v29-1)∧((xB7 (wP5 y11) (wM3 y11) (vM y11) x11)∧(InB r11_2_2 (len r11_2_1)∧(r11_2_2<len r11_2_1∧(InR (r11_2_2+1)∧(0≤v64∧v64≤len l1009)))))))))))),(bif v13 then [] else (bif v15 then (f187 p0 p3) else (List.take (Int.toNat v64) l1009))))
def tO4 p0 p1 p2 p3:=(rQ4 p0 p1 p2 p3).1
def f177 p0 p1 p2 p3:=(rQ4 p0 p1 p2 p3).2
instance (p0 p1 p2 p3):Decidable (tO4 p0 p1 p2 p3):=by unfold tO4 rQ4;dsimp only;infer_instance
theorem qT1:SK 177 (sp4 vS vS vI vI (.val (.sl .str)) tO4 f177):=fb Tryz.func177 66 [kb qS3,kb qS7,kb qT0] [(11,sY7)] [(17,[(4,0,31,1009)]),(36,[(1,9,0,0)])] false [] [31]
def rQ5 (p0:List UInt8)(p1:List UInt8):Prop×(List (List UInt8)):=
 ((tO4 p0 p1 (0:Int) (-1:Int)),(f177 p0 p1 (0:Int) (-1:Int)))
def uC7 p0 p1:=(rQ5 p0 p1).1
def f162 p0 p1:=(rQ5 p0 p1).2
instance (p0 p1):Decidable (uC7 p0 p1):=by unfold uC7 rQ5;dsimp only;infer_instance
def rQ6:=sp2 vS vS (.val (.sl .str)) uC7 f162
theorem qT2:SK 162 (sp2 vS vS (.val (.sl .str)) uC7 f162):=fb Tryz.func162 8 [kb qT1]
def qT3 (p0:Int)(p1:Int):Prop×Int:=
 let v7:=(p1==0)
 let v13:=(bif (p0==(-9223372036854775808)) then (p1==(-1)) else false)
 let v16:=(IntKind.wrap .i64 (Int.tdiv p0 p1))
 let m4_1:=(bif v7 then (0:Int) else (bif v13 then (9223372036854775807:Int) else (bif (bif ((Int.tmod p0 p1)!=0) then (!(Ty.eqb .bool (decide (p0<0)) (decide (p1<0)))) else false) then (IntKind.wrap .i64 (v16-1)) else v16)))
 (((!v7)=true→((!v13)=true→(p1≠0∧p1≠0))),m4_1)
def uQ p0 p1:=(qT3 p0 p1).1
def f116 p0 p1:=(qT3 p0 p1).2
instance (p0 p1):Decidable (uQ p0 p1):=by unfold uQ qT3;dsimp only;infer_instance
theorem rQ7:SK 116 (sp2 vI vI vI uQ f116):=fb Tryz.func116 31 [] [] [] true
def qT4 (p0:Int)(p1:Int):Prop×Int:=
 let v8:=(p1==0)
 let v14:=(bif (p0==(-9223372036854775808)) then (p1==(-1)) else false)
 let v17:=(f116 p0 p1)
 let v22:=(IntKind.wrap .i64 (p0-(IntKind.wrap .i64 (p1*v17))))
 let m5:=(bif (bif (bif (decide (p1>0)) then (decide (v22≥(IntKind.wrap .i64 (p1-v22)))) else false) then true else (bif (decide (p1<0)) then (decide (v22≤(IntKind.wrap .i64 (p1-v22)))) else false)) then (IntKind.wrap .i64 (v17+1)) else v17)
 (((!v8)=true→((!v14)=true→(uQ p0 p1))),(bif v8 then (0:Int) else (bif v14 then (9223372036854775807:Int) else m5)))
def wN1 p0 p1:=(qT4 p0 p1).1
def f103 p0 p1:=(qT4 p0 p1).2
instance (p0 p1):Decidable (wN1 p0 p1):=by unfold wN1 qT4;dsimp only;infer_instance
theorem vM0:SK 103 (sp2 vI vI vI wN1 f103):=fb Tryz.func103 46 [kb rQ7] [] [] true
abbrev vM1:Type:=(Int×Int×(List D209)×Int×Unit)
abbrev wZ2:Type:=(Int×Unit)
def uK0 (y:vM1)(x:wZ2):Prop×Bool×wZ2×Bool×Bool:=
 let a33:=y.2.2.1
 let a35:=x.1
 let v36:=(decide (a35<y.2.2.2.1))
 let v37:=(nth a33 a35 Z209)
 let v48:=(bif (v37.1==y.1) then (v37.2.1==y.2.1) else false)
 ((v36=true→InB a35 (len a33)),(v36&&(!v48)),((IntKind.wrap .i64 (a35+1)),()),(v36&&v48),(!v36))
def vU4 y x:=(uK0 y x).1
def uT5 y x:=(uK0 y x).2.1
def vQ8 y x:=(uK0 y x).2.2.1
def sC8 y x:=(uK0 y x).2.2.2.1
def rK8 y x:=(uK0 y x).2.2.2.2
instance (y x):Decidable (vU4 y x):=by unfold vU4 uK0;dsimp only;infer_instance
def tH2 (y:vM1)(x:wZ2):Int:=
 (nth y.2.2.1 x.1 Z209).2.2.1
def rK9:=li [(7,(.val (.int .u8))),(8,(.val (.int .u8))),(33,(.val (.sl T209))),(34,vI)] [(35,vI)] uT5 vQ8 vU4 (fun y x=>[ex 1 (some (sC8 y x)) [(6,vI)] ((tH2 y x),()),ex 2 (some (rK8 y x)) [] ()]) [[(6,vI)],[]]
def qT5 (p0:D225)(p1:Int)(p2:Int):Prop×Int:=
 let y3:=((nth p0.1.2.2.2.1 p1 Z204).1,(nth p0.1.2.2.2.1 p2 Z204).1,p0.1.2.2.2.2.1,(len p0.1.2.2.2.2.1),())
 let x3:=((0:Int),())
 let e3:=(zB9 (uT5 y3) (vQ8 y3) x3)
 ((InB p1 (len p0.1.2.2.2.1)∧(InB p2 (len p0.1.2.2.2.1)∧(xB7 (uT5 y3) (vQ8 y3) (vU4 y3) x3))),(bif (sC8 y3 e3) then (tH2 y3 e3) else (0:Int)))
def tO5 p0 p1 p2:=(qT5 p0 p1 p2).1
def f164 p0 p1 p2:=(qT5 p0 p1 p2).2
instance (p0 p1 p2):Decidable (tO5 p0 p1 p2):=by unfold tO5 qT5;dsimp only;infer_instance
theorem qT6:SK 164 (sp3 (.val (.ptr T225)) vI vI vI tO5 f164):=fb Tryz.func164 52 [] [(3,rK9)] [] true
abbrev vU5:Type:=(D225×(List UInt8)×Int×Unit)
abbrev wZ3:Type:=((List D140)×Int×Int×Unit)
def tL7 (y:vU5)(x:wZ3):Prop×Bool×wZ3:=
 let a0:=y.1
 let a1:=y.2.1
 let a6:=x.1
 let a7:=x.2.1
 let a12:=x.2.2.1
 let v13:=(decide (a12<y.2.2.1))
 let v18:=(wJ5 a1 a12)
 let v21:=(nth a0.2.1 v18 (0:Int))
 let v24:=(decide (v21<0))
 let v27:=(decide ((len a6)>0))
 let v33:=(IntKind.wrap .i64 ((len a6)-1))
 let v34:=(nth a6 v33 Z140)
 let m7:=(bif v27 then (IntKind.wrap .i64 (a7+(f164 a0 v34.1 v21))) else a7)
 let v44:=([(v21,m7,())]:List D140)
 ((v13=true→(InB a12 (len a1)∧(InB v18 256∧((!v24)=true→((v27=true→(InB v33 (len a6)∧(tO5 a0 v34.1 v21)))∧(((List.length a6+List.length v44:Nat):Int)≤4294967296∧InB v21 (len a0.1.2.2.2.1))))))),(v13&&(v24||(!v24))),((bif v24 then a6 else (a6++v44)),(bif v24 then a7 else (IntKind.wrap .i64 (m7+(nth a0.1.2.2.2.1 v21 Z204).2.1))),(IntKind.wrap .i64 (a12+1)),()))
def vK y x:=(tL7 y x).1
def vU6 y x:=(tL7 y x).2.1
def wY8 y x:=(tL7 y x).2.2
instance (y x):Decidable (vK y x):=by unfold vK tL7;dsimp only;infer_instance
def tH3 (y:vU5)(x:wZ3):(List D140):=
 x.1
def tH4 (y:vU5)(x:wZ3):Int:=
 x.2.1
def sC9:List (Nat×Sh):=[(6,(.own T140 1006 false)),(7,vI)]
def rL:=li [(0,(.val (.ptr T225))),(1,vS),(11,vI)] [(6,(.own T140 1006 false)),(7,vI),(12,vI)] vU6 wY8 vK (fun y x=>[ex 2 none sC9 ((tH3 y x),(tH4 y x),())]) [sC9]
def qT7 (p0:D225)(p1:List UInt8):Prop×((List D140)×Int×Unit):=
 let y4:=(p0,p1,(len p1),())
 let x4:=(([]:List D140),(0:Int),(0:Int),())
 let e4:=(zB9 (vU6 y4) (wY8 y4) x4)
 ((xB7 (vU6 y4) (wY8 y4) (vK y4) x4),((tH3 y4 e4),(tH4 y4 e4),()))
def uC8 p0 p1:=(qT7 p0 p1).1
def f144 p0 p1:=(qT7 p0 p1).2
instance (p0 p1):Decidable (uC8 p0 p1):=by unfold uC8 qT7;dsimp only;infer_instance
theorem rQ8:SK 144 (sp2 (.val (.ptr T225)) vS (.tup (.cons (.own T140 0 false) (.cons vI .nl))) uC8 f144):=fb Tryz.func144 60 [kb qT6] [(4,rL)] [(21,[(4,0,45,1006)]),(27,[(4,0,1006,0)])] true
def qT8 (p0:D225)(p1:List UInt8)(p2:Int):Prop×Int:=
 let v17:=(IntKind.wrap .i64 (p2*(f144 p0 p1).2.1))
 (((uC8 p0 p1)∧(wN1 v17 p0.1.1)),(f103 v17 p0.1.1))
def tC3 p0 p1 p2:=(qT8 p0 p1 p2).1
def f163 p0 p1 p2:=(qT8 p0 p1 p2).2
instance (p0 p1 p2):Decidable (tC3 p0 p1 p2):=by unfold tC3 qT8;dsimp only;infer_instance
def rQ9:=sp3 (.val (.ptr T225)) vS vI vI tC3 f163
theorem qT9:SK 163 (sp3 (.val (.ptr T225)) vS vI vI tC3 f163):=fb Tryz.func163 24 [kb vM0,kb rQ8] [] [(3,[(4,0,12,1007)])] true
abbrev vK0:Type:=(D225×Int×Int×(List (List UInt8))×Int×Unit)
abbrev wV2:Type:=((List (List UInt8))×(List UInt8)×Int×Unit)
def uT6 (y:vK0)(x:wV2):Prop×Bool×wV2:=
 let a4:=y.1
 let a6:=y.2.1
 let a7:=y.2.2.1
 let a25:=y.2.2.2.1
 let a9:=x.1
 let a12:=x.2.1
 let a27:=x.2.2.1
 let v28:=(decide (a27<y.2.2.2.2.1))
 let v29:=(nth a25 a27 ([]:List UInt8))
 let v32:=(a12++([32]:List UInt8))
 let v34:=(v32++v29)
 let v36:=(a7==0)
 let v44:=(bif v36 then true else (decide ((f163 a4 v34 a6)≤a7)))
 let v48:=([a12]:List (List UInt8))
 ((v28=true→(InB a27 (len a25)∧(((List.length a12+List.length ([32]:List UInt8):Nat):Int)≤9223372036854775807∧(((List.length v32+List.length v29:Nat):Int)≤9223372036854775807∧(((!v36)=true→(tC3 a4 v34 a6))∧((v44=false→((List.length a9+List.length v48:Nat):Int)≤4294967296)∧InR (a27+1))))))),v28,((bif v44 then a9 else (a9++v48)),(bif v44 then v34 else v29),(a27+1),()))
def vC y x:=(uT6 y x).1
def vC0 y x:=(uT6 y x).2.1
def wQ6 y x:=(uT6 y x).2.2
instance (y x):Decidable (vC y x):=by unfold vC uT6;dsimp only;infer_instance
def vX6 (y:vK0)(x:wV2):(List (List UInt8)):=
 x.1
def vX7 (y:vK0)(x:wV2):(List UInt8):=
 x.2.1
def tO6:List (Nat×Sh):=[(4,(.box (.ptr T225) (.val (.ptr T225)))),(6,(.box (.int .i64) vI)),(7,(.box (.int .i64) vI)),(9,(.box (.sl .str) (.own .str 400900 false))),(12,vS)]
def uT7:St→Option Out:=xT8 [(4,(.box (.ptr T225) (.val (.ptr T225)))),(6,(.box (.int .i64) vI)),(7,(.box (.int .i64) vI)),(25,(.val (.sl .str))),(26,vI)] [(9,(.box (.sl .str) (.own .str 400900 false))),(12,vS),(27,vI)] vC0 wQ6 vC fun y x=>[ex 4 none tO6 (y.1,y.2.1,y.2.2.1,(vX6 y x),(vX7 y x),())]
def rG4 (p0:D225)(p1:Int)(p2:Int)(p3:(List (List UInt8)))(p4:List UInt8):Prop×(Unit)×(D225×Int×Int×(List (List UInt8))×Unit):=
 let v20:=(f162 p4 ([32]:List UInt8))
 let v25:=(List.drop (Int.toNat (1:Int)) v20)
 let y7:=(p0,p1,p2,v25,(len v25),())
 let x7:=(p3,(nth v20 (0:Int) ([]:List UInt8)),(0:Int),())
 let e7:=(zB9 (vC0 y7) (wQ6 y7) x7)
 let r7_4_0:=(vX6 y7 e7)
 let v54:=([(vX7 y7 e7)]:List (List UInt8))
 (((uC7 p4 ([32]:List UInt8))∧(InB (0:Int) (len v20)∧((0≤(1:Int)∧(1:Int)≤len v20)∧((xB7 (vC0 y7) (wQ6 y7) (vC y7) x7)∧((List.length r7_4_0+List.length v54:Nat):Int)≤4294967296)))),(),(p0,p1,p2,(r7_4_0++v54),()))
def vH5 p0 p1 p2 p3 p4:=(rG4 p0 p1 p2 p3 p4).1
def tC4 p0 p1 p2 p3 p4:=(rG4 p0 p1 p2 p3 p4).2.2
instance (p0 p1 p2 p3 p4):Decidable (vH5 p0 p1 p2 p3 p4):=by unfold vH5 rG4;dsimp only;infer_instance
def uT8:List (Nat×Sh):=[(4,(.box (.ptr T225) (.val (.ptr T225)))),(6,(.box (.int .i64) vI)),(7,(.box (.int .i64) vI)),(9,(.box (.sl .str) (.own .str 400900 false))),(10,vS)]
def rG5:Sh:=(.tup .nl)
def tL8:List (Nat×Sh):=[(4,(.box (.ptr T225) (.val (.ptr T225)))),(6,(.box (.int .i64) vI)),(7,(.box (.int .i64) vI)),(9,(.box (.sl .str) (.own .str 400900 false)))]
def uC9:Ctx:=Cx tys [(162,rQ6),(163,rQ9)] [(7,uT7)] [(25,[(4,0,49,400900)]),(31,[(4,0,55,400900)])] false 57 [4,6,7,9] []
theorem sP4:CtxOk Tryz.prog uC9:=cq ⟨qT2,qT9,trivial⟩
noncomputable def wV3:Code:=(xV3 (Tryz.f143.body.getD .skip)).getD .skip
noncomputable def rG6:Code:=wI9 wV3 0
theorem sY8:xC1 Tryz.prog uC9 rG6:=wK4 sP4 mixed (sp:=uT7) rfl [tO6] (bs:=[]) (by kernel_rfl) trivial (by kernel_rfl) (by kernel_rfl) fun y x=>by kernel_rfl
theorem qF0:∀ x,wC1 uC9 wV3 (zC1 uT8 x)=true:=fun x=>by kernel_rfl
theorem rR:∀ x,xC0 uC9 wV3 [] uT8 rG5 tL8 x=some (vH5 x.1 x.2.1 x.2.2.1 x.2.2.2.1 x.2.2.2.2.1,(),tC4 x.1 x.2.1 x.2.2.1 x.2.2.2.1 x.2.2.2.2.1):=fun x=>by kernel_rfl
theorem qF1:wE0 Tryz.prog uC9 wV3 uT8 tL8 (fun x=>vH5 x.1 x.2.1 x.2.2.1 x.2.2.2.1 x.2.2.2.2.1) (fun x=>tC4 x.1 x.2.1 x.2.2.1 x.2.2.2.1 x.2.2.2.2.1):=wH3 (rs:=rG5) (F:=fun _=>()) sP4 mixed (bs:=[rG6]) (by kernel_rfl) ⟨sY8,trivial⟩ (by kernel_rfl) qF0 rR
end Go.Proofs.YtofmmkikplmlpaaGreatDoor.Am
