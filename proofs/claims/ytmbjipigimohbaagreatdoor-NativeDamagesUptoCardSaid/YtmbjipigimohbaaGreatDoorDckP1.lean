/- Printed by program: the functions that the statements reach, as plain functions, and their contracts. No condition. -/
import Derived.Test.YtmbjipigimohbaaGreatDoorMach5
import Derived.Test.YtmbjipigimohbaaGreatDoorMach2
import Derived.Test.YtmbjipigimohbaaGreatDoorNatB
import Derived.Test.YtmbjipigimohbaaGreatDoorDckI
import Derived.Test.YtmbjipigimohbaaGreatDoorDckH
import Derived.Test.YtmbjipigimohbaaGreatDoorProg
set_option linter.unusedVariables false
set_option synthInstance.maxSize 4000
set_option synthInstance.maxHeartbeats 400000
namespace Go.Proofs.YtmbjipigimohbaaGreatDoor.Am
open Go Go.Am Go.Proofs
abbrev T24:Ty:=.st (.cons (.int .i64) (.cons (.int .i64) (.cons (.sl (.int .i64)) .nl)))
abbrev D24:Type:=Int×Int×(List Int)×Unit
abbrev Z24:D24:=((0:Int),(0:Int),([]:List Int),())
abbrev T40:Ty:=.st (.cons (.int .i64) (.cons (.int .i64) (.cons (.int .i64) (.cons (.int .i64) (.cons (.int .i64) (.cons (.int .i64) .nl))))))
abbrev D40:Type:=Int×Int×Int×Int×Int×Int×Unit
abbrev Z40:D40:=((0:Int),(0:Int),(0:Int),(0:Int),(0:Int),(0:Int),())
abbrev T45:Ty:=.st (.cons (.int .i64) (.cons (.int .i64) (.cons (.int .i64) (.cons (.int .i64) .nl))))
abbrev D45:Type:=Int×Int×Int×Int×Unit
abbrev Z45:D45:=((0:Int),(0:Int),(0:Int),(0:Int),())
abbrev T43:Ty:=.st (.cons (.int .i64) (.cons (.int .i64) (.cons (.sl T45) .nl)))
abbrev D43:Type:=Int×Int×(List D45)×Unit
abbrev Z43:D43:=((0:Int),(0:Int),([]:List D45),())
abbrev T127:Ty:=.st (.cons (.int .i64) (.cons T45 .nl))
abbrev D127:Type:=Int×D45×Unit
abbrev Z127:D127:=((0:Int),Z45,())
abbrev T99:Ty:=.st (.cons (.int .i64) (.cons (.int .i64) .nl))
abbrev D99:Type:=Int×Int×Unit
abbrev Z99:D99:=((0:Int),(0:Int),())
abbrev T130:Ty:=.st (.cons (.int .i64) (.cons (.arr 3 T99) .nl))
abbrev D130:Type:=Int×(List D99)×Unit
abbrev Z130:D130:=((0:Int),(List.replicate 3 Z99),())
abbrev T50:Ty:=.st (.cons (.int .i64) (.cons (.int .i64) (.cons (.int .i64) (.cons (.sl T99) .nl))))
abbrev D50:Type:=Int×Int×Int×(List D99)×Unit
abbrev Z50:D50:=((0:Int),(0:Int),(0:Int),([]:List D99),())
abbrev T52:Ty:=.st (.cons (.int .i64) (.cons (.int .i64) (.cons (.int .i64) (.cons .str (.cons .bool (.cons .bool (.cons .bool (.cons (.int .i64) (.cons (.int .i64) (.cons T24 (.cons T40 (.cons (.int .i64) (.cons T43 (.cons T45 (.cons (.int .i64) (.cons (.sl (.int .i64)) (.cons (.int .i64) (.cons (.sl T127) (.cons (.sl T130) (.cons (.int .i64) (.cons (.int .i64) (.cons (.int .i64) (.cons (.int .i64) (.cons .str (.cons (.int .i64) (.cons (.int .i64) (.cons (.int .i64) (.cons T50 .nl))))))))))))))))))))))))))))
abbrev D52:Type:=Int×Int×Int×(List UInt8)×Bool×Bool×Bool×Int×Int×D24×D40×Int×D43×D45×Int×(List Int)×Int×(List D127)×(List D130)×Int×Int×Int×Int×(List UInt8)×Int×Int×Int×D50×Unit
abbrev Z52:D52:=((0:Int),(0:Int),(0:Int),([]:List UInt8),false,false,false,(0:Int),(0:Int),Z24,Z40,(0:Int),Z43,Z45,(0:Int),([]:List Int),(0:Int),([]:List D127),([]:List D130),(0:Int),(0:Int),(0:Int),(0:Int),([]:List UInt8),(0:Int),(0:Int),(0:Int),Z50,())
abbrev T80:Ty:=.st (.cons .str (.cons .str .nl))
abbrev D80:Type:=(List UInt8)×(List UInt8)×Unit
abbrev Z80:D80:=(([]:List UInt8),([]:List UInt8),())
abbrev T82:Ty:=.st (.cons (.int .i64) (.cons .str (.cons (.int .i64) (.cons (.int .i64) (.cons T43 .nl)))))
abbrev D82:Type:=Int×(List UInt8)×Int×Int×D43×Unit
abbrev Z82:D82:=((0:Int),([]:List UInt8),(0:Int),(0:Int),Z43,())
abbrev T28:Ty:=.st (.cons (.int .i64) (.cons (.int .i64) (.cons (.int .i64) (.cons (.sl T52) (.cons (.int .i64) (.cons T24 (.cons (.sl T80) (.cons (.sl T82) .nl))))))))
abbrev D28:Type:=Int×Int×Int×(List D52)×Int×D24×(List D80)×(List D82)×Unit
abbrev Z28:D28:=((0:Int),(0:Int),(0:Int),([]:List D52),(0:Int),Z24,([]:List D80),([]:List D82),())
abbrev T68:Ty:=.st (.cons (.int .u64) (.cons (.int .u8) .nl))
abbrev D68:Type:=Int×Int×Unit
abbrev T85:Ty:=.st (.cons .bool (.cons .str (.cons (.int .i64) (.cons (.int .i64) .nl))))
abbrev D85:Type:=Bool×(List UInt8)×Int×Int×Unit
abbrev T218:Ty:=.st (.cons (.int .u8) (.cons (.int .i64) (.cons (.sl T130) .nl)))
abbrev D218:Type:=Int×Int×(List D130)×Unit
abbrev Z218:D218:=((0:Int),(0:Int),([]:List D130),())
abbrev T223:Ty:=.st (.cons (.int .u8) (.cons (.int .u8) (.cons (.int .i64) .nl)))
abbrev D223:Type:=Int×Int×Int×Unit
abbrev Z223:D223:=((0:Int),(0:Int),(0:Int),())
abbrev T190:Ty:=.st (.cons (.int .i64) (.cons (.int .i64) (.cons (.int .i64) (.cons (.sl T218) (.cons (.sl T223) .nl)))))
abbrev D190:Type:=Int×Int×Int×(List D218)×(List D223)×Unit
abbrev T205:Ty:=.st (.cons (.int .i64) (.cons (.int .i64) (.cons (.int .i64) (.cons (.sl (.sl T99)) (.cons (.int .i64) .nl)))))
abbrev T239:Ty:=.st (.cons T190 (.cons (.arr 256 (.int .i64)) .nl))
abbrev D239:Type:=D190×(List Int)×Unit
abbrev T231:Ty:=.st (.cons T99 (.cons T99 (.cons T99 (.cons T99 (.cons T99 .nl)))))
abbrev D231:Type:=D99×D99×D99×D99×D99×Unit
abbrev Z231:D231:=(Z99,Z99,Z99,Z99,Z99,())
abbrev T276:Ty:=.st (.cons (.int .u16) (.cons (.int .u16) (.cons (.int .u16) .nl)))
abbrev T279:Ty:=.st (.cons (.int .u32) (.cons (.int .u32) (.cons (.int .u32) .nl)))
abbrev T273:Ty:=.st (.cons (.sl T276) (.cons (.sl T279) (.cons (.int .i64) .nl)))
def G0:List Int:=[0,0,0,0,0,0,0,0,0,1,1,1,1,1,0,0,0,0,0,0,0,0,0,0,0,0,0,0,0,0,0,0,1,0,0,0,0,0,0,0,0,0,0,0,0,0,0,0,0,0,0,0,0,0,0,0,0,0,0,0,0,0,0,0,0,0,0,0,0,0,0,0,0,0,0,0,0,0,0,0,0,0,0,0,0,0,0,0,0,0,0,0,0,0,0,0,0,0,0,0,0,0,0,0,0,0,0,0,0,0,0,0,0,0,0,0,0,0,0,0,0,0,0,0,0,0,0,0,0,0,0,0,0,0,0,0,0,0,0,0,0,0,0,0,0,0,0,0,0,0,0,0,0,0,0,0,0,0,0,0,0,0,0,0,0,0,0,0,0,0,0,0,0,0,0,0,0,0,0,0,0,0,0,0,0,0,0,0,0,0,0,0,0,0,0,0,0,0,0,0,0,0,0,0,0,0,0,0,0,0,0,0,0,0,0,0,0,0,0,0,0,0,0,0,0,0,0,0,0,0,0,0,0,0,0,0,0,0,0,0,0,0,0,0,0,0,0,0,0,0,0,0,0,0,0,0]
def G5:List Int:=[0,1608,3216,4821,6424,8022,9616,11204,12785,14359,15924,17479,19024,20557,22078,23586,25080,26558,28020,29466,30893,32303,33692,35062,36410,37736,39040,40320,41576,42806,44011,45190,46341,47464,48559,49624,50660,51665,52639,53581,54491,55368,56212,57022,57798,58538,59244,59914,60547,61145,61705,62228,62714,63162,63572,63944,64277,64571,64827,65043,65220,65358,65457,65516,65536]
instance:GlobTab:=⟨⟨[(0,⟨(.arr 256 (.int .u8)),G0⟩),(5,⟨(.arr 65 (.int .i64)),G5⟩)]⟩⟩
set_option maxRecDepth 20000 in
def lit0:List UInt8:=[48,48,48,48,48,48,48,48,48,48,32,48,48,48,48,53,102,48,48,48,48,32,48,48,48,55,48,48,48,55,48,48,32,49,52,55,102,49,52,55,102,49,52,32,50,52,50,97,55,102,50,97,49,50,32,50,51,49,51,48,56,54,52,54,50,32,51,54,52,57,53,54,50,48,53,48,32,48,48,48,53,48,51,48,48,48,48,32,48,48,49,99,50,50,52,49,48,48,32,48,48,52,49,50,50,49,99,48,48,32,49,52,48,56,51,101,48,56,49,52,32,48,56,48,56,51,101,48,56,48,56,32,48,48,53,48,51,48,48,48,48,48,32,48,56,48,56,48,56,48,56,48,56,32,48,48,54,48,54,48,48,48,48,48,32,50,48,49,48,48,56,48,52,48,50,32,51,101,53,49,52,57,52,53,51,101,32,48,48,52,50,55,102,52,48,48,48,32,52,50,54,49,53,49,52,57,52,54,32,50,49,52,49,52,53,52,98,51,49,32,49,56,49,52,49,50,55,102,49,48,32,50,55,52,53,52,53,52,53,51,57,32,51,99,52,97,52,57,52,57,51,48,32,48,49,55,49,48,57,48,53,48,51,32,51,54,52,57,52,57,52,57,51,54,32,48,54,52,57,52,57,50,57,49,101,32,48,48,51,54,51,54,48,48,48,48,32,48,48,53,54,51,54,48,48,48,48,32,48,56,49,52,50,50,52,49,48,48,32,49,52,49,52,49,52,49,52,49,52,32,48,48,52,49,50,50,49,52,48,56,32,48,50,48,49,53,49,48,57,48,54,32,51,50,52,57,55,57,52,49,51,101,32,55,101,49,49,49,49,49,49,55,101,32,55,102,52,57,52,57,52,57,51,54,32,51,101,52,49,52,49,52,49,50,50,32,55,102,52,49,52,49,50,50,49,99,32,55,102,52,57,52,57,52,57,52,49,32,55,102,48,57,48,57,48,57,48,49,32,51,101,52,49,52,57,52,57,55,97,32,55,102,48,56,48,56,48,56,55,102,32,48,48,52,49,55,102,52,49,48,48,32,50,48,52,48,52,49,51,102,48,49,32,55,102,48,56,49,52,50,50,52,49,32,55,102,52,48,52,48,52,48,52,48,32,55,102,48,50,48,99,48,50,55,102,32,55,102,48,52,48,56,49,48,55,102,32,51,101,52,49,52,49,52,49,51,101,32,55,102,48,57,48,57,48,57,48,54,32,51,101,52,49,53,49,50,49,53,101,32,55,102,48,57,49,57,50,57,52,54,32,52,54,52,57,52,57,52,57,51,49,32,48,49,48,49,55,102,48,49,48,49,32,51,102,52,48,52,48,52,48,51,102,32,49,102,50,48,52,48,50,48,49,102,32,51,102,52,48,51,56,52,48,51,102,32,54,51,49,52,48,56,49,52,54,51,32,48,55,48,56,55,48,48,56,48,55,32,54,49,53,49,52,57,52,53,52,51,32,48,48,55,102,52,49,52,49,48,48,32,48,50,48,52,48,56,49,48,50,48,32,48,48,52,49,52,49,55,102,48,48,32,48,52,48,50,48,49,48,50,48,52,32,52,48,52,48,52,48,52,48,52,48,32,48,48,48,49,48,50,48,52,48,48,32,50,48,53,52,53,52,53,52,55,56,32,55,102,52,56,52,52,52,52,51,56,32,51,56,52,52,52,52,52,52,50,48,32,51,56,52,52,52,52,52,56,55,102,32,51,56,53,52,53,52,53,52,49,56,32,48,56,55,101,48,57,48,49,48,50,32,48,99,53,50,53,50,53,50,51,101,32,55,102,48,56,48,52,48,52,55,56,32,48,48,52,52,55,100,52,48,48,48,32,50,48,52,48,52,52,51,100,48,48,32,55,102,49,48,50,56,52,52,48,48,32,48,48,52,49,55,102,52,48,48,48,32,55,99,48,52,49,56,48,52,55,56,32,55,99,48,56,48,52,48,52,55,56,32,51,56,52,52,52,52,52,52,51,56,32,55,99,49,52,49,52,49,52,48,56,32,48,56,49,52,49,52,49,56,55,99,32,55,99,48,56,48,52,48,52,48,56,32,52,56,53,52,53,52,53,52,50,48,32,48,52,51,102,52,52,52,48,50,48,32,51,99,52,48,52,48,50,48,55,99,32,49,99,50,48,52,48,50,48,49,99,32,51,99,52,48,51,48,52,48,51,99,32,52,52,50,56,49,48,50,56,52,52,32,48,99,53,48,53,48,53,48,51,99,32,52,52,54,52,53,52,52,99,52,52,32,48,48,48,56,51,54,52,49,48,48,32,48,48,48,48,55,102,48,48,48,48,32,48,48,52,49,51,54,48,56,48,48,32,49,48,48,56,48,56,49,48,48,56]
theorem qT2:xV6 Tryz.prog 198 yG6:=wL2 Tryz.func198 (by kernel_rfl) (by kernel_rfl) (by kernel_rfl) (by kernel_rfl)
theorem qT3:xV6 Tryz.prog 202 xL:=wR7 Tryz.func202 (by kernel_rfl) (by kernel_rfl) (by kernel_rfl) (by kernel_rfl)
def tys:List (Nat×Ty):=[(3,(.int .i64)),(4,.bool),(5,(.int .u8)),(9,.str),(21,(.int .i32)),(22,(.sl T52)),(23,(.sl (.int .i64))),(25,T24),(26,(.sl T80)),(27,(.sl T82)),(29,T28),(30,(.int .i64)),(37,(.ptr T85)),(41,T40),(42,(.sl T45)),(44,T43),(46,T45),(47,(.sl T127)),(48,(.sl T130)),(49,(.sl T99)),(51,T50),(53,T52),(67,(.int .u64)),(69,T68),(70,(.sl (.int .u8))),(81,T80),(83,T82),(86,T85),(100,T99),(105,(.ptr (.int .i64))),(107,(.ptr .bool)),(109,(.ptr T52)),(116,(.sl (.ptr (.int .i64)))),(123,(.int .u64)),(124,(.sl .bool)),(128,T127),(129,(.arr 3 T99)),(131,T130),(132,(.ptr (.int .u8))),(134,(.sl (.ptr .bool))),(152,(.int .u32)),(164,(.arr 256 (.int .u32))),(180,(.sl (.sl T99))),(188,(.sl T218)),(189,(.sl T223)),(191,T190),(195,(.sl T99)),(198,T99),(204,(.ptr T205)),(206,T205),(209,(.ptr T239)),(211,(.sl .str)),(213,(.sl T99)),(217,T99),(219,T218),(224,T223),(229,(.sl T231)),(232,T231),(238,(.arr 256 (.int .i64))),(240,T239),(246,(.arr 256 (.int .u8))),(258,(.sl T99)),(260,T99),(262,(.ptr T273)),(288,(.arr 65 (.int .i64)))]
theorem uD9:zM6 Tryz.prog tys=true:=by kernel_rfl
def maps:List (Nat×(Ty×Ty)):=[(142,((.int .i64),(.int .i64)))]
def fts:List Nat:=[133]
theorem mixed:Tryz.prog.follows .mixedOrders=true:=by kernel_rfl
theorem cq {c:Ctx}(hs:xQ9 Tryz.prog c.fns)(hmp:(yL6 Tryz.prog c.maps&&yX Tryz.prog c.fts)=true:=by kernel_rfl)(he:c.exts=[]:=by rfl)(ht:zM6 Tryz.prog c.tys=true:=by exact uD9)(hn:Nat.ble c.n vNo=true:=by kernel_rfl)(hcl:c.clones=[]:=by rfl)(hbl:c.blds=[]:=by rfl):CtxOk Tryz.prog c:=wJ3 ht hmp hs he hn hcl hbl
theorem fq {c:Ctx}{f:Nat}{fn:Func}{ps:List (Nat×Sh)}{rs:Sh}{os:List (Nat×Sh)}{ok:zB3 ps→Prop}{F:zB3 ps→rs.den}{o:zB3 ps→zW4 os}(hf:Tryz.prog.funcs[f]?=some fn)(hs:xQ9 Tryz.prog c.fns)(hmp:(yL6 Tryz.prog c.maps&&yX Tryz.prog c.fts)=true:=by kernel_rfl)(he:c.exts=[]:=by rfl)(ht:zM6 Tryz.prog c.tys=true:=by exact uD9)(hn:Nat.ble c.n vNo=true:=by kernel_rfl)(hcl:c.clones=[]:=by rfl)(hbl:c.blds=[]:=by rfl)(hk:xH9 fn c ps os=true:=by kernel_rfl)(hbs:zH4 (fn.body.getD .skip)=[]:=by kernel_rfl)(hsum:∀ x,xH7 c (fn.body.getD .skip) fn.results.toList ps rs os x=some (ok x,F x,o x):=by intro x;kernel_rfl):SpecOk Tryz.prog f (fnSpec ps rs os ok F o):=wU5 (wJ3 ht hmp hs he hn hcl hbl) mixed hf hk hbs trivial hsum
theorem fl {c:Ctx}{f:Nat}{fn:Func}{ps:List (Nat×Sh)}{rs:Sh}{os:List (Nat×Sh)}{ok:zB3 ps→Prop}{F:zB3 ps→rs.den}{o:zB3 ps→zW4 os}(hc:CtxOk Tryz.prog c)(hf:Tryz.prog.funcs[f]?=some fn){bs:List Code}(hL:zP Tryz.prog c bs)(hk:xH9 fn c ps os=true:=by kernel_rfl)(hbs:zH4 (fn.body.getD .skip)=bs:=by kernel_rfl)(hsum:∀ x,xH7 c (fn.body.getD .skip) fn.results.toList ps rs os x=some (ok x,F x,o x):=by intro x;kernel_rfl):SpecOk Tryz.prog f (fnSpec ps rs os ok F o):=wU5 hc mixed hf hk hbs hL hsum
theorem lq {c:Ctx}{body:Code}{sp:St→Option Out}{ly lx:List (Nat×Sh)}{g:zB3 ly→zB3 lx→Bool}{next:zB3 ly→zB3 lx→zB3 lx}{ok:zB3 ly→zB3 lx→Prop}{es:zB3 ly→zB3 lx→List Comp}(hc:CtxOk Tryz.prog c)(hs:sp=wB4 ly lx g next ok es)(les:List (List (Nat×Sh)))(hb:zH4 body=[]:=by kernel_rfl)(hw:zC9 c.keep body=true:=by kernel_rfl)(hl:Go.Am.look (fun _=>none) c.loops (zE5 body)=sp:=by kernel_rfl)(hsum:∀ y x,yE7 c body ly lx les y x=some (ok y x,g y x,y,next y x,es y x):=by intro y x;kernel_rfl):xH8 Tryz.prog c body:=wU4 hc mixed hs les hb trivial hw hl hsum
@[reducible] def kb {n:Nat}{s:Am.Spec}(h:SpecOk Tryz.prog n s):Fb Tryz.prog:=⟨n,s,h⟩
@[reducible] def li:=Li.mk
theorem fx (X:Ctx→Ctx){f:Nat}{fn:Func}(hf:Tryz.prog.funcs[f]?=some fn)(n:Nat)(cs:List (Fb Tryz.prog):=[])(ls:List (Nat×Li):=[])(gh:List (Nat×List (Nat×Nat×Nat×Nat)):=[])(w:Bool:=false)(kp wr:List Nat:=[]){ps:List (Nat×Sh)}{rs:Sh}{os:List (Nat×Sh)}{ok:zB3 ps→Prop}{F:zB3 ps→rs.den}{o:zB3 ps→zW4 os}(hX:(X (Cx tys (Fb.l cs) (Li.l ls) gh w n kp wr)).fns=Fb.l cs:=by rfl)(hk:xH9 fn (X (Cx tys (Fb.l cs) (Li.l ls) gh w n kp wr)) ps os=true:=by kernel_rfl)(hl:wJ6 (X (Cx tys (Fb.l cs) (Li.l ls) gh w n kp wr)) (zP0 (fn.body.getD .skip)) ls=wJ7 ls:=by kernel_rfl)(hsum:∀ x,xH7 (X (Cx tys (Fb.l cs) (Li.l ls) gh w n kp wr)) (fn.body.getD .skip) fn.results.toList ps rs os x=some (ok x,F x,o x):=by intro x;kernel_rfl)(hmp:(yL6 Tryz.prog (X (Cx tys (Fb.l cs) (Li.l ls) gh w n kp wr)).maps&&yX Tryz.prog (X (Cx tys (Fb.l cs) (Li.l ls) gh w n kp wr)).fts)=true:=by kernel_rfl)(he:(X (Cx tys (Fb.l cs) (Li.l ls) gh w n kp wr)).exts=[]:=by rfl)(ht:zM6 Tryz.prog (X (Cx tys (Fb.l cs) (Li.l ls) gh w n kp wr)).tys=true:=by exact uD9)(hn:Nat.ble (X (Cx tys (Fb.l cs) (Li.l ls) gh w n kp wr)).n vNo=true:=by kernel_rfl)(hcl:(X (Cx tys (Fb.l cs) (Li.l ls) gh w n kp wr)).clones=[]:=by rfl)(hbl:(X (Cx tys (Fb.l cs) (Li.l ls) gh w n kp wr)).blds=[]:=by rfl):SpecOk Tryz.prog f (fnSpec ps rs os ok F o):=wU6 (wJ3 ht hmp (by rw[hX];exact Fb.all cs) he hn hcl hbl) mixed hf hk hl hsum
theorem fy (X:Ctx→Ctx){f:Nat}{fn:Func}(hf:Tryz.prog.funcs[f]?=some fn)(n:Nat)(cs:List (Fb Tryz.prog):=[])(ls:List (Nat×Li):=[])(gh:List (Nat×List (Nat×Nat×Nat×Nat)):=[])(w:Bool:=false)(kp wr:List Nat:=[]){ps:List (Nat×Sh)}{rs:Sh}{os:List (Nat×Sh)}{ok:zB3 ps→Prop}{F:zB3 ps→rs.den}{o:zB3 ps→zW4 os}(hX:(X (Cx tys (Fb.l cs) (Li.l ls) gh w n kp wr)).fns=Fb.l cs:=by rfl)(hk:xH9 fn (X (Cx tys (Fb.l cs) (Li.l ls) gh w n kp wr)) ps os=true:=by kernel_rfl)(hl:wJ6 (X (Cx tys (Fb.l cs) (Li.l ls) gh w n kp wr)) (zP0 (fn.body.getD .skip)) ls=wJ7 ls:=by kernel_rfl)(hsum:∀ x,xH7 (X (Cx tys (Fb.l cs) (Li.l ls) gh w n kp wr)) (fn.body.getD .skip) fn.results.toList ps rs os x=some (ok x,F x,o x):=by intro x;kernel_rfl)(hmp:(yL6 Tryz.prog (X (Cx tys (Fb.l cs) (Li.l ls) gh w n kp wr)).maps&&yX Tryz.prog (X (Cx tys (Fb.l cs) (Li.l ls) gh w n kp wr)).fts)=true:=by kernel_rfl)(he:(X (Cx tys (Fb.l cs) (Li.l ls) gh w n kp wr)).exts=[]:=by rfl)(ht:zM6 Tryz.prog (X (Cx tys (Fb.l cs) (Li.l ls) gh w n kp wr)).tys=true:=by exact uD9)(hn:Nat.ble (X (Cx tys (Fb.l cs) (Li.l ls) gh w n kp wr)).n vNo=true:=by kernel_rfl)(hcl:(X (Cx tys (Fb.l cs) (Li.l ls) gh w n kp wr)).clones=[]:=by rfl)(hbl:(X (Cx tys (Fb.l cs) (Li.l ls) gh w n kp wr)).blds=[(89,5,32,39)]:=by rfl):SpecOk Tryz.prog f (fnSpec ps rs os ok F o):=wU6 (wP9 ht hmp (by rw[hX];exact Fb.all cs) he hn pM5 hbl hcl) mixed hf hk hl hsum
theorem fb {f:Nat}{fn:Func}(hf:Tryz.prog.funcs[f]?=some fn)(n:Nat)(cs:List (Fb Tryz.prog):=[])(ls:List (Nat×Li):=[])(gh:List (Nat×List (Nat×Nat×Nat×Nat)):=[])(w:Bool:=false)(kp wr:List Nat:=[]){ps:List (Nat×Sh)}{rs:Sh}{os:List (Nat×Sh)}{ok:zB3 ps→Prop}{F:zB3 ps→rs.den}{o:zB3 ps→zW4 os}(hk:xH9 fn (Cx tys (Fb.l cs) (Li.l ls) gh w n kp wr) ps os=true:=by kernel_rfl)(hl:wJ6 (Cx tys (Fb.l cs) (Li.l ls) gh w n kp wr) (zP0 (fn.body.getD .skip)) ls=wJ7 ls:=by kernel_rfl)(hsum:∀ x,xH7 (Cx tys (Fb.l cs) (Li.l ls) gh w n kp wr) (fn.body.getD .skip) fn.results.toList ps rs os x=some (ok x,F x,o x):=by intro x;kernel_rfl)(hmp:(yL6 Tryz.prog (Cx tys (Fb.l cs) (Li.l ls) gh w n kp wr).maps&&yX Tryz.prog (Cx tys (Fb.l cs) (Li.l ls) gh w n kp wr).fts)=true:=by kernel_rfl)(he:(Cx tys (Fb.l cs) (Li.l ls) gh w n kp wr).exts=[]:=by rfl)(ht:zM6 Tryz.prog (Cx tys (Fb.l cs) (Li.l ls) gh w n kp wr).tys=true:=by exact uD9)(hn:Nat.ble (Cx tys (Fb.l cs) (Li.l ls) gh w n kp wr).n vNo=true:=by kernel_rfl)(hcl:(Cx tys (Fb.l cs) (Li.l ls) gh w n kp wr).clones=[]:=by rfl)(hbl:(Cx tys (Fb.l cs) (Li.l ls) gh w n kp wr).blds=[]:=by rfl):SpecOk Tryz.prog f (fnSpec ps rs os ok F o):=wU6 (wJ3 ht hmp (Fb.all cs) he hn hcl hbl) mixed hf hk hl hsum
abbrev SK (n:Nat)(s:Am.Spec):Prop:=SpecOk Tryz.prog n s
@[reducible] def Cy (f:List (Nat×Am.Spec)) (l:List (Nat×(St→Option Out))) (h:List (Nat×List (Nat×Nat×Nat×Nat))) (n:Nat):Ctx:=Cx tys f l h false n [] []
@[reducible] def sp1 (A R:Sh) (ok:A.den→Prop) (f:A.den→R.den):Am.Spec:=fnSpec [(0,A)] R [] (fun x=>ok x.1) (fun x=>f x.1) (fun _=>())
@[reducible] def sp2 (A B R:Sh) (ok:A.den→B.den→Prop) (f:A.den→B.den→R.den):Am.Spec:=fnSpec [(0,A),(1,B)] R [] (fun x=>ok x.1 x.2.1) (fun x=>f x.1 x.2.1) (fun _=>())
@[reducible] def sp3 (A B C R:Sh) (ok:A.den→B.den→C.den→Prop) (f:A.den→B.den→C.den→R.den):Am.Spec:=fnSpec [(0,A),(1,B),(2,C)] R [] (fun x=>ok x.1 x.2.1 x.2.2.1) (fun x=>f x.1 x.2.1 x.2.2.1) (fun _=>())
@[reducible] def sp4 (A B C D R:Sh) (ok:A.den→B.den→C.den→D.den→Prop) (f:A.den→B.den→C.den→D.den→R.den):Am.Spec:=fnSpec [(0,A),(1,B),(2,C),(3,D)] R [] (fun x=>ok x.1 x.2.1 x.2.2.1 x.2.2.2.1) (fun x=>f x.1 x.2.1 x.2.2.1 x.2.2.2.1) (fun _=>())
@[reducible] def sp5 (A B C D E R:Sh) (ok:A.den→B.den→C.den→D.den→E.den→Prop) (f:A.den→B.den→C.den→D.den→E.den→R.den):Am.Spec:=fnSpec [(0,A),(1,B),(2,C),(3,D),(4,E)] R [] (fun x=>ok x.1 x.2.1 x.2.2.1 x.2.2.2.1 x.2.2.2.2.1) (fun x=>f x.1 x.2.1 x.2.2.1 x.2.2.2.1 x.2.2.2.2.1) (fun _=>())
def qT4 (p0:List UInt8)(p1:Int):Prop×Int:=
 (True,(Lib.indexByte p0 (Int.toNat p1).toUInt8))
def sQ p0 p1:=(qT4 p0 p1).1
def f186 p0 p1:=(qT4 p0 p1).2
instance (p0 p1):Decidable (sQ p0 p1):=by unfold sQ qT4;dsimp only;infer_instance
def rT2:=sp2 vS (.val (.int .u8)) vI sQ f186
def qH0:Ctx:={ Cx tys [] [] [] false 8 [] [] with exts:=[(198,yG6)] }
theorem qH1:CtxOk Tryz.prog qH0:=wB8 uD9 rfl trivial ⟨qT2,trivial⟩ (by kernel_rfl)
theorem qT5:SK 186 rT2:=fl qH1 Tryz.func186 (bs:=[]) trivial
def f205 (p0 p1:List UInt8):Int:=Lib.indexByte p0 (p1.headD 0)
def sQ0 (_p0 p1:List UInt8):Prop:=List.length p1=1
instance (p0 p1:List UInt8):Decidable (sQ0 p0 p1):=by
  unfold sQ0
  infer_instance
def qT6:List (Nat×Sh):=[(0,(.val .str)),(1,(.val .str))]
def qT7:Sh:=(.val (.int .i64))
def qT8:List (Nat×Sh):=[]
def rT3:Am.Spec:=fnSpec qT6 qT7 qT8 (fun x=>sQ0 x.1 x.2.1) (fun x=>f205 x.1 x.2.1) (fun _=>())
theorem qT9:SpecOk Tryz.prog 205 rT3:=wQ9 (F:=f205) ⟨_,Tryz.func205,by kernel_rfl,by decide⟩ (fun s c w=>Tryz.strings_Index_one s c w)
def f206 (_p0:List UInt8)(_p1:Int):(List (List UInt8)):=([]:List (List UInt8))
def sQ1 (_p0:List UInt8)(_p1:Int):Prop:=False
instance (_p0:List UInt8)(_p1:Int):Decidable (sQ1 _p0 _p1):=by
  unfold sQ1
  infer_instance
def qU:List (Nat×Sh):=[(0,vS),(1,vI)]
def qU0:Sh:=(.val (.sl .str))
def qU1:List (Nat×Sh):=[]
def rT4:Am.Spec:=fnSpec qU qU0 qU1 (fun x=>sQ1 x.1 x.2.1) (fun x=>f206 x.1 x.2.1) (fun _=>())
theorem qU2:SpecOk Tryz.prog 206 rT4:=wO3 Tryz.func206 (by kernel_rfl) (by decide)
def f207 (p0 p1:List UInt8):Int:=((Lib.countByte p0 (p1.headD 0):Nat):Int)
def sQ2 (_p0 p1:List UInt8):Prop:=List.length p1=1
instance (p0 p1:List UInt8):Decidable (sQ2 p0 p1):=by
  unfold sQ2
  infer_instance
def qU3:List (Nat×Sh):=[(0,(.val .str)),(1,(.val .str))]
def qU4:Sh:=(.val (.int .i64))
def qU5:List (Nat×Sh):=[]
def rT5:Am.Spec:=fnSpec qU3 qU4 qU5 (fun x=>sQ2 x.1 x.2.1) (fun x=>f207 x.1 x.2.1) (fun _=>())
theorem qU6:SpecOk Tryz.prog 207 rT5:=wQ9 (F:=f207) ⟨_,Tryz.func207,by kernel_rfl,by decide⟩ (fun s c w=>Tryz.strings_Count_one s c w)
abbrev vN2:Type:=((List UInt8)×Int×Int×Unit)
abbrev vH0:Type:=((List UInt8)×(List (List UInt8))×Int×Unit)
def vW5 (y:vN2)(x:vH0):Prop×Bool×vH0:=
 let a1:=y.1
 let a2:=y.2.1
 let a0:=x.1
 let a9:=x.2.1
 let a10:=x.2.2.1
 let v36:=(decide (a10<y.2.2.1))
 let v39:=(f205 a0 a1)
 let v41:=(decide (v39<0))
 let v47:=(v39+a2)
 let v53:=(len a1)
 let v54:=(v39+v53)
 ((v36=true→((sQ0 a0 a1)∧((!v41)=true→(InR (v39+a2)∧((0≤v47∧v47≤len a0)∧(InB a10 (len a9)∧(a10<len a9∧(InR (v39+v53)∧((0≤v54∧v54≤len a0)∧InR (a10+1)))))))))),(v36&&(!v41)),((List.drop (Int.toNat v54) a0),(List.set a9 (Int.toNat a10) (List.take (Int.toNat v47) a0)),(a10+1),()))
def vW6 y x:=(vW5 y x).1
def vB3 y x:=(vW5 y x).2.1
def wX3 y x:=(vW5 y x).2.2
instance (y x):Decidable (vW6 y x):=by unfold vW6 vW5;dsimp only;infer_instance
def vS8 (y:vN2)(x:vH0):(List UInt8):=
 x.1
def vS9 (y:vN2)(x:vH0):(List (List UInt8)):=
 x.2.1
def vT (y:vN2)(x:vH0):Int:=
 x.2.2.1
def tX5:List (Nat×Sh):=[(0,vS),(9,(.own .str 1009 true)),(10,vI)]
def rC9:=li [(1,vS),(2,vI),(3,vI)] [(0,vS),(9,(.own .str 1009 true)),(10,vI)] vB3 wX3 vW6 (fun y x=>[ex 2 none tX5 ((vS8 y x),(vS9 y x),(vT y x),())]) [tX5]
def rT6 (p0:List UInt8)(p1:List UInt8)(p2:Int)(p3:Int):Prop×(List (List UInt8)):=
 let v13:=(p3==0)
 let v15:=(p1==([]:List UInt8))
 let v20:=(decide (p3<0))
 let v23:=(f207 p0 p1)
 let v27:=(len p0)
 let v29:=(wS2 (bif v20 then (v23+1) else p3) (v27+1))
 let y11:=(p1,p2,(v29-1),())
 let x11:=(p0,(List.replicate (Int.toNat v29) ([]:List UInt8)),(0:Int),())
 let e11:=(zC4 (vB3 y11) (wX3 y11) x11)
 let r11_2_1:=(vS9 y11 e11)
 let r11_2_2:=(vT y11 e11)
 let l1009:=(List.set r11_2_1 (Int.toNat r11_2_2) (vS8 y11 e11))
 let v64:=(r11_2_2+1)
 (((!v13)=true→((v15=true→(sQ1 p0 p3))∧((!v15)=true→((v20=true→((sQ2 p0 p1)∧InR (v23+1)))∧(InR (v27+1)∧((0≤v29∧v29≤v29∧v29≤4294967296)∧(InR (v29-1)∧((xQ5 (vB3 y11) (wX3 y11) (vW6 y11) x11)∧(InB r11_2_2 (len r11_2_1)∧(r11_2_2<len r11_2_1∧(InR (r11_2_2+1)∧(0≤v64∧v64≤len l1009)))))))))))),(bif v13 then [] else (bif v15 then (f206 p0 p3) else (List.take (Int.toNat v64) l1009))))
def tX6 p0 p1 p2 p3:=(rT6 p0 p1 p2 p3).1
def f196 p0 p1 p2 p3:=(rT6 p0 p1 p2 p3).2
instance (p0 p1 p2 p3):Decidable (tX6 p0 p1 p2 p3):=by unfold tX6 rT6;dsimp only;infer_instance
theorem qU7:SK 196 (sp4 vS vS vI vI (.val (.sl .str)) tX6 f196):=fb Tryz.func196 66 [kb qT9,kb qU2,kb qU6] [(11,rC9)] [(17,[(4,0,31,1009)]),(36,[(1,9,0,0)])] false [] [31]
def rT7 (p0:List UInt8)(p1:List UInt8):Prop×(List (List UInt8)):=
 ((tX6 p0 p1 (0:Int) (-1:Int)),(f196 p0 p1 (0:Int) (-1:Int)))
def uN2 p0 p1:=(rT7 p0 p1).1
def f181 p0 p1:=(rT7 p0 p1).2
instance (p0 p1):Decidable (uN2 p0 p1):=by unfold uN2 rT7;dsimp only;infer_instance
def rT8:=sp2 vS vS (.val (.sl .str)) uN2 f181
theorem qU8:SK 181 (sp2 vS vS (.val (.sl .str)) uN2 f181):=fb Tryz.func181 8 [kb qU7]
def qU9 (p0:Int)(p1:Int):Prop×Int:=
 let v7:=(p1==0)
 let v13:=(bif (p0==(-9223372036854775808)) then (p1==(-1)) else false)
 let v16:=(IntKind.wrap .i64 (Int.tdiv p0 p1))
 let m4_1:=(bif v7 then (0:Int) else (bif v13 then (9223372036854775807:Int) else (bif (bif ((Int.tmod p0 p1)!=0) then (!(Ty.eqb .bool (decide (p0<0)) (decide (p1<0)))) else false) then (IntKind.wrap .i64 (v16-1)) else v16)))
 (((!v7)=true→((!v13)=true→(p1≠0∧p1≠0))),m4_1)
def tC5 p0 p1:=(qU9 p0 p1).1
def f137 p0 p1:=(qU9 p0 p1).2
instance (p0 p1):Decidable (tC5 p0 p1):=by unfold tC5 qU9;dsimp only;infer_instance
theorem rT9:SK 137 (sp2 vI vI vI tC5 f137):=fb Tryz.func137 31 [] [] [] true
def qV (p0:Int)(p1:Int):Prop×Int:=
 let v8:=(p1==0)
 let v14:=(bif (p0==(-9223372036854775808)) then (p1==(-1)) else false)
 let v17:=(f137 p0 p1)
 let v22:=(IntKind.wrap .i64 (p0-(IntKind.wrap .i64 (p1*v17))))
 let m5:=(bif (bif (bif (decide (p1>0)) then (decide (v22≥(IntKind.wrap .i64 (p1-v22)))) else false) then true else (bif (decide (p1<0)) then (decide (v22≤(IntKind.wrap .i64 (p1-v22)))) else false)) then (IntKind.wrap .i64 (v17+1)) else v17)
 (((!v8)=true→((!v14)=true→(tC5 p0 p1))),(bif v8 then (0:Int) else (bif v14 then (9223372036854775807:Int) else m5)))
def wY0 p0 p1:=(qV p0 p1).1
def f124 p0 p1:=(qV p0 p1).2
instance (p0 p1):Decidable (wY0 p0 p1):=by unfold wY0 qV;dsimp only;infer_instance
theorem vW7:SK 124 (sp2 vI vI vI wY0 f124):=fb Tryz.func124 46 [kb rT9] [] [] true
abbrev vW8:Type:=(Int×Int×(List D223)×Int×Unit)
abbrev vL:Type:=(Int×Unit)
def uV5 (y:vW8)(x:vL):Prop×Bool×vL×Bool×Bool:=
 let a33:=y.2.2.1
 let a35:=x.1
 let v36:=(decide (a35<y.2.2.2.1))
 let v37:=(nth a33 a35 Z223)
 let v48:=(bif (v37.1==y.1) then (v37.2.1==y.2.1) else false)
 ((v36=true→InB a35 (len a33)),(v36&&(!v48)),((IntKind.wrap .i64 (a35+1)),()),(v36&&v48),(!v36))
def uE y x:=(uV5 y x).1
def tE5 y x:=(uV5 y x).2.1
def uB9 y x:=(uV5 y x).2.2.1
def sK4 y x:=(uV5 y x).2.2.2.1
def rM6 y x:=(uV5 y x).2.2.2.2
instance (y x):Decidable (uE y x):=by unfold uE uV5;dsimp only;infer_instance
def tP8 (y:vW8)(x:vL):Int:=
 (nth y.2.2.1 x.1 Z223).2.2.1
def rM7:=li [(7,(.val (.int .u8))),(8,(.val (.int .u8))),(33,(.val (.sl T223))),(34,vI)] [(35,vI)] tE5 uB9 uE (fun y x=>[ex 1 (some (sK4 y x)) [(6,vI)] ((tP8 y x),()),ex 2 (some (rM6 y x)) [] ()]) [[(6,vI)],[]]
def qV0 (p0:D239)(p1:Int)(p2:Int):Prop×Int:=
 let y3:=((nth p0.1.2.2.2.1 p1 Z218).1,(nth p0.1.2.2.2.1 p2 Z218).1,p0.1.2.2.2.2.1,(len p0.1.2.2.2.2.1),())
 let x3:=((0:Int),())
 let e3:=(zC4 (tE5 y3) (uB9 y3) x3)
 ((InB p1 (len p0.1.2.2.2.1)∧(InB p2 (len p0.1.2.2.2.1)∧(xQ5 (tE5 y3) (uB9 y3) (uE y3) x3))),(bif (sK4 y3 e3) then (tP8 y3 e3) else (0:Int)))
def tX7 p0 p1 p2:=(qV0 p0 p1 p2).1
def f183 p0 p1 p2:=(qV0 p0 p1 p2).2
instance (p0 p1 p2):Decidable (tX7 p0 p1 p2):=by unfold tX7 qV0;dsimp only;infer_instance
theorem qV1:SK 183 (sp3 (.val (.ptr T239)) vI vI vI tX7 f183):=fb Tryz.func183 52 [] [(3,rM7)] [] true
abbrev uE0:Type:=(D239×(List UInt8)×Int×Unit)
abbrev vL0:Type:=((List D99)×Int×Int×Unit)
def tU5 (y:uE0)(x:vL0):Prop×Bool×vL0:=
 let a0:=y.1
 let a1:=y.2.1
 let a6:=x.1
 let a7:=x.2.1
 let a12:=x.2.2.1
 let v13:=(decide (a12<y.2.2.1))
 let v18:=(wT5 a1 a12)
 let v21:=(nth a0.2.1 v18 (0:Int))
 let v24:=(decide (v21<0))
 let v27:=(decide ((len a6)>0))
 let v33:=(IntKind.wrap .i64 ((len a6)-1))
 let v34:=(nth a6 v33 Z99)
 let m7:=(bif v27 then (IntKind.wrap .i64 (a7+(f183 a0 v34.1 v21))) else a7)
 let v44:=([(v21,m7,())]:List D99)
 ((v13=true→(InB a12 (len a1)∧(InB v18 256∧((!v24)=true→((v27=true→(InB v33 (len a6)∧(tX7 a0 v34.1 v21)))∧(((List.length a6+List.length v44:Nat):Int)≤4294967296∧InB v21 (len a0.1.2.2.2.1))))))),(v13&&(v24||(!v24))),((bif v24 then a6 else (a6++v44)),(bif v24 then a7 else (IntKind.wrap .i64 (m7+(nth a0.1.2.2.2.1 v21 Z218).2.1))),(IntKind.wrap .i64 (a12+1)),()))
def vU9 y x:=(tU5 y x).1
def uE1 y x:=(tU5 y x).2.1
def vK5 y x:=(tU5 y x).2.2
instance (y x):Decidable (vU9 y x):=by unfold vU9 tU5;dsimp only;infer_instance
def tP9 (y:uE0)(x:vL0):(List D99):=
 x.1
def tQ (y:uE0)(x:vL0):Int:=
 x.2.1
def sK5:List (Nat×Sh):=[(6,(.own T99 1006 false)),(7,vI)]
def rM8:=li [(0,(.val (.ptr T239))),(1,vS),(11,vI)] [(6,(.own T99 1006 false)),(7,vI),(12,vI)] uE1 vK5 vU9 (fun y x=>[ex 2 none sK5 ((tP9 y x),(tQ y x),())]) [sK5]
def qV2 (p0:D239)(p1:List UInt8):Prop×((List D99)×Int×Unit):=
 let y4:=(p0,p1,(len p1),())
 let x4:=(([]:List D99),(0:Int),(0:Int),())
 let e4:=(zC4 (uE1 y4) (vK5 y4) x4)
 ((xQ5 (uE1 y4) (vK5 y4) (vU9 y4) x4),((tP9 y4 e4),(tQ y4 e4),()))
def uN3 p0 p1:=(qV2 p0 p1).1
def f163 p0 p1:=(qV2 p0 p1).2
instance (p0 p1):Decidable (uN3 p0 p1):=by unfold uN3 qV2;dsimp only;infer_instance
theorem rU:SK 163 (sp2 (.val (.ptr T239)) vS (.tup (.cons (.own T99 0 false) (.cons vI .nl))) uN3 f163):=fb Tryz.func163 60 [kb qV1] [(4,rM8)] [(21,[(4,0,45,1006)]),(27,[(4,0,1006,0)])] true
def qV3 (p0:D239)(p1:List UInt8)(p2:Int):Prop×Int:=
 let v17:=(IntKind.wrap .i64 (p2*(f163 p0 p1).2.1))
 (((uN3 p0 p1)∧(wY0 v17 p0.1.1)),(f124 v17 p0.1.1))
def tM1 p0 p1 p2:=(qV3 p0 p1 p2).1
def f182 p0 p1 p2:=(qV3 p0 p1 p2).2
instance (p0 p1 p2):Decidable (tM1 p0 p1 p2):=by unfold tM1 qV3;dsimp only;infer_instance
def rU0:=sp3 (.val (.ptr T239)) vS vI vI tM1 f182
theorem qV4:SK 182 (sp3 (.val (.ptr T239)) vS vI vI tM1 f182):=fb Tryz.func182 24 [kb vW7,kb rU] [] [(3,[(4,0,12,1007)])] true
abbrev vV:Type:=(D239×Int×Int×(List (List UInt8))×Int×Unit)
abbrev vH1:Type:=((List (List UInt8))×(List UInt8)×Int×Unit)
def tE6 (y:vV)(x:vH1):Prop×Bool×vH1:=
 let a4:=y.1
 let a6:=y.2.1
 let a7:=y.2.2.1
 let a25:=y.2.2.2.1
 let a9:=x.1
 let a12:=x.2.1
 let a27:=x.2.2.1
 let v28:=(decide (a27<y.2.2.2.2.1))
 let v29:=(nth a25 a27 ([]:List UInt8))
 let v32:=(a12++([32]:List UInt8))
 let v34:=(v32++v29)
 let v36:=(a7==0)
 let v44:=(bif v36 then true else (decide ((f182 a4 v34 a6)≤a7)))
 let v48:=([a12]:List (List UInt8))
 ((v28=true→(InB a27 (len a25)∧(((List.length a12+List.length ([32]:List UInt8):Nat):Int)≤9223372036854775807∧(((List.length v32+List.length v29:Nat):Int)≤9223372036854775807∧(((!v36)=true→(tM1 a4 v34 a6))∧((v44=false→((List.length a9+List.length v48:Nat):Int)≤4294967296)∧InR (a27+1))))))),v28,((bif v44 then a9 else (a9++v48)),(bif v44 then v34 else v29),(a27+1),()))
def vN3 y x:=(tE6 y x).1
def vN4 y x:=(tE6 y x).2.1
def vC4 y x:=(tE6 y x).2.2
instance (y x):Decidable (vN3 y x):=by unfold vN3 tE6;dsimp only;infer_instance
def uI3 (y:vV)(x:vH1):(List (List UInt8)):=
 x.1
def uI4 (y:vV)(x:vH1):(List UInt8):=
 x.2.1
def tX8:List (Nat×Sh):=[(4,(.box (.ptr T239) (.val (.ptr T239)))),(6,(.box (.int .i64) vI)),(7,(.box (.int .i64) vI)),(9,(.box (.sl .str) (.own .str 400900 false))),(12,vS)]
def tE7:St→Option Out:=wB4 [(4,(.box (.ptr T239) (.val (.ptr T239)))),(6,(.box (.int .i64) vI)),(7,(.box (.int .i64) vI)),(25,(.val (.sl .str))),(26,vI)] [(9,(.box (.sl .str) (.own .str 400900 false))),(12,vS),(27,vI)] vN4 vC4 vN3 fun y x=>[ex 4 none tX8 (y.1,y.2.1,y.2.2.1,(uI3 y x),(uI4 y x),())]
def rI1 (p0:D239)(p1:Int)(p2:Int)(p3:(List (List UInt8)))(p4:List UInt8):Prop×(Unit)×(D239×Int×Int×(List (List UInt8))×Unit):=
 let v20:=(f181 p4 ([32]:List UInt8))
 let v25:=(List.drop (Int.toNat (1:Int)) v20)
 let y7:=(p0,p1,p2,v25,(len v25),())
 let x7:=(p3,(nth v20 (0:Int) ([]:List UInt8)),(0:Int),())
 let e7:=(zC4 (vN4 y7) (vC4 y7) x7)
 let r7_4_0:=(uI3 y7 e7)
 let v54:=([(uI4 y7 e7)]:List (List UInt8))
 (((uN2 p4 ([32]:List UInt8))∧(InB (0:Int) (len v20)∧((0≤(1:Int)∧(1:Int)≤len v20)∧((xQ5 (vN4 y7) (vC4 y7) (vN3 y7) x7)∧((List.length r7_4_0+List.length v54:Nat):Int)≤4294967296)))),(),(p0,p1,p2,(r7_4_0++v54),()))
def vT0 p0 p1 p2 p3 p4:=(rI1 p0 p1 p2 p3 p4).1
def tM2 p0 p1 p2 p3 p4:=(rI1 p0 p1 p2 p3 p4).2.2
instance (p0 p1 p2 p3 p4):Decidable (vT0 p0 p1 p2 p3 p4):=by unfold vT0 rI1;dsimp only;infer_instance
def tE8:List (Nat×Sh):=[(4,(.box (.ptr T239) (.val (.ptr T239)))),(6,(.box (.int .i64) vI)),(7,(.box (.int .i64) vI)),(9,(.box (.sl .str) (.own .str 400900 false))),(10,vS)]
def rI2:Sh:=(.tup .nl)
def tU6:List (Nat×Sh):=[(4,(.box (.ptr T239) (.val (.ptr T239)))),(6,(.box (.int .i64) vI)),(7,(.box (.int .i64) vI)),(9,(.box (.sl .str) (.own .str 400900 false)))]
def uN4:Ctx:=Cx tys [(181,rT8),(182,rU0)] [(7,tE7)] [(25,[(4,0,49,400900)]),(31,[(4,0,55,400900)])] false 57 [4,6,7,9] []
theorem sW8:CtxOk Tryz.prog uN4:=cq ⟨qU8,qV4,trivial⟩
noncomputable def vH2:Code:=(wD4 (Tryz.f162.body.getD .skip)).getD .skip
noncomputable def rI3:Code:=wS9 vH2 0
theorem rD:xH8 Tryz.prog uN4 rI3:=wU4 sW8 mixed (sp:=tE7) rfl [tX8] (bs:=[]) (by kernel_rfl) trivial (by kernel_rfl) (by kernel_rfl) fun y x=>by kernel_rfl
theorem qH2:∀ x,wL3 uN4 vH2 (zB5 tE8 x)=true:=fun x=>by kernel_rfl
theorem rU1:∀ x,xH7 uN4 vH2 [] tE8 rI2 tU6 x=some (vT0 x.1 x.2.1 x.2.2.1 x.2.2.2.1 x.2.2.2.2.1,(),tM2 x.1 x.2.1 x.2.2.1 x.2.2.2.1 x.2.2.2.2.1):=fun x=>by kernel_rfl
theorem qH3:wN6 Tryz.prog uN4 vH2 tE8 tU6 (fun x=>vT0 x.1 x.2.1 x.2.2.1 x.2.2.2.1 x.2.2.2.2.1) (fun x=>tM2 x.1 x.2.1 x.2.2.1 x.2.2.2.1 x.2.2.2.2.1):=wR0 (rs:=rI2) (F:=fun _=>()) sW8 mixed (bs:=[rI3]) (by kernel_rfl) ⟨rD,trivial⟩ (by kernel_rfl) qH2 rU1
end Go.Proofs.YtmbjipigimohbaaGreatDoor.Am
