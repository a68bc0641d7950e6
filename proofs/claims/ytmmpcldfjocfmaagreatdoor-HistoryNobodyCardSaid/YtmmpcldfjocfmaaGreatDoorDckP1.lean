/- Printed by program: the functions that the statements reach, as plain functions, and their contracts. No condition. -/
import Derived.Test.YtmmpcldfjocfmaaGreatDoorMach5
import Derived.Test.YtmmpcldfjocfmaaGreatDoorDckI
import Derived.Test.YtmmpcldfjocfmaaGreatDoorDckH
import Derived.Test.YtmmpcldfjocfmaaGreatDoorProg
set_option linter.unusedVariables false
set_option synthInstance.maxSize 4000
set_option synthInstance.maxHeartbeats 400000
namespace Go.Proofs.YtmmpcldfjocfmaaGreatDoor.Am
open Go Go.Am Go.Proofs
abbrev T24:Ty:=.st (.cons (.int .i64) (.cons (.int .i64) (.cons (.sl (.int .i64)) .nl)))
abbrev D24:Type:=Int×Int×(List Int)×Unit
abbrev Z24:D24:=((0:Int),(0:Int),([]:List Int),())
abbrev T68:Ty:=.st (.cons (.int .i64) (.cons (.int .i64) (.cons (.int .i64) (.cons (.int .i64) (.cons (.int .i64) (.cons (.int .i64) .nl))))))
abbrev D68:Type:=Int×Int×Int×Int×Int×Int×Unit
abbrev Z68:D68:=((0:Int),(0:Int),(0:Int),(0:Int),(0:Int),(0:Int),())
abbrev T73:Ty:=.st (.cons (.int .i64) (.cons (.int .i64) (.cons (.int .i64) (.cons (.int .i64) .nl))))
abbrev D73:Type:=Int×Int×Int×Int×Unit
abbrev Z73:D73:=((0:Int),(0:Int),(0:Int),(0:Int),())
abbrev T71:Ty:=.st (.cons (.int .i64) (.cons (.int .i64) (.cons (.sl T73) .nl)))
abbrev D71:Type:=Int×Int×(List D73)×Unit
abbrev Z71:D71:=((0:Int),(0:Int),([]:List D73),())
abbrev T120:Ty:=.st (.cons (.int .i64) (.cons T73 .nl))
abbrev D120:Type:=Int×D73×Unit
abbrev Z120:D120:=((0:Int),Z73,())
abbrev T123:Ty:=.st (.cons (.int .i64) (.cons (.int .i64) .nl))
abbrev D123:Type:=Int×Int×Unit
abbrev Z123:D123:=((0:Int),(0:Int),())
abbrev T126:Ty:=.st (.cons (.int .i64) (.cons (.arr 3 T123) .nl))
abbrev D126:Type:=Int×(List D123)×Unit
abbrev Z126:D126:=((0:Int),(List.replicate 3 Z123),())
abbrev T78:Ty:=.st (.cons (.int .i64) (.cons (.int .i64) (.cons (.int .i64) (.cons (.sl T123) .nl))))
abbrev D78:Type:=Int×Int×Int×(List D123)×Unit
abbrev Z78:D78:=((0:Int),(0:Int),(0:Int),([]:List D123),())
abbrev T80:Ty:=.st (.cons (.int .i64) (.cons (.int .i64) (.cons (.int .i64) (.cons .str (.cons .bool (.cons .bool (.cons .bool (.cons (.int .i64) (.cons (.int .i64) (.cons T24 (.cons T68 (.cons (.int .i64) (.cons T71 (.cons T73 (.cons (.int .i64) (.cons (.sl (.int .i64)) (.cons (.int .i64) (.cons (.sl T120) (.cons (.sl T126) (.cons (.int .i64) (.cons (.int .i64) (.cons (.int .i64) (.cons (.int .i64) (.cons .str (.cons (.int .i64) (.cons (.int .i64) (.cons (.int .i64) (.cons T78 .nl))))))))))))))))))))))))))))
abbrev D80:Type:=Int×Int×Int×(List UInt8)×Bool×Bool×Bool×Int×Int×D24×D68×Int×D71×D73×Int×(List Int)×Int×(List D120)×(List D126)×Int×Int×Int×Int×(List UInt8)×Int×Int×Int×D78×Unit
abbrev Z80:D80:=((0:Int),(0:Int),(0:Int),([]:List UInt8),false,false,false,(0:Int),(0:Int),Z24,Z68,(0:Int),Z71,Z73,(0:Int),([]:List Int),(0:Int),([]:List D120),([]:List D126),(0:Int),(0:Int),(0:Int),(0:Int),([]:List UInt8),(0:Int),(0:Int),(0:Int),Z78,())
abbrev T85:Ty:=.st (.cons .str (.cons .str .nl))
abbrev D85:Type:=(List UInt8)×(List UInt8)×Unit
abbrev Z85:D85:=(([]:List UInt8),([]:List UInt8),())
abbrev T88:Ty:=.st (.cons (.int .i64) (.cons .str (.cons (.int .i64) (.cons (.int .i64) (.cons T71 .nl)))))
abbrev D88:Type:=Int×(List UInt8)×Int×Int×D71×Unit
abbrev Z88:D88:=((0:Int),([]:List UInt8),(0:Int),(0:Int),Z71,())
abbrev T28:Ty:=.st (.cons (.int .i64) (.cons (.int .i64) (.cons (.int .i64) (.cons (.sl T80) (.cons (.int .i64) (.cons T24 (.cons (.sl T85) (.cons (.sl T88) .nl))))))))
abbrev D28:Type:=Int×Int×Int×(List D80)×Int×D24×(List D85)×(List D88)×Unit
abbrev Z28:D28:=((0:Int),(0:Int),(0:Int),([]:List D80),(0:Int),Z24,([]:List D85),([]:List D88),())
abbrev T30:Ty:=.st (.cons (.int .i64) (.cons (.int .i64) (.cons .str (.cons T28 .nl))))
abbrev D30:Type:=Int×Int×(List UInt8)×D28×Unit
abbrev Z30:D30:=((0:Int),(0:Int),([]:List UInt8),Z28,())
abbrev T61:Ty:=.st (.cons T30 (.cons (.int .i64) .nl))
abbrev D61:Type:=D30×Int×Unit
abbrev Z61:D61:=(Z30,(0:Int),())
abbrev T34:Ty:=.st (.cons (.sl T61) (.cons (.int .i64) (.cons (.int .i64) (.cons (.int .i64) .nl))))
abbrev D34:Type:=(List D61)×Int×Int×Int×Unit
abbrev T196:Ty:=.st (.cons (.int .u8) (.cons (.int .i64) (.cons (.sl T126) .nl)))
abbrev D196:Type:=Int×Int×(List D126)×Unit
abbrev Z196:D196:=((0:Int),(0:Int),([]:List D126),())
abbrev T201:Ty:=.st (.cons (.int .u8) (.cons (.int .u8) (.cons (.int .i64) .nl)))
abbrev D201:Type:=Int×Int×Int×Unit
abbrev Z201:D201:=((0:Int),(0:Int),(0:Int),())
abbrev T167:Ty:=.st (.cons (.int .i64) (.cons (.int .i64) (.cons (.int .i64) (.cons (.sl T196) (.cons (.sl T201) .nl)))))
abbrev D167:Type:=Int×Int×Int×(List D196)×(List D201)×Unit
abbrev T183:Ty:=.st (.cons (.int .i64) (.cons (.int .i64) (.cons (.int .i64) (.cons (.sl (.sl T123)) (.cons (.int .i64) .nl)))))
abbrev T217:Ty:=.st (.cons T167 (.cons (.arr 256 (.int .i64)) .nl))
abbrev D217:Type:=D167×(List Int)×Unit
abbrev T209:Ty:=.st (.cons T123 (.cons T123 (.cons T123 (.cons T123 (.cons T123 .nl)))))
abbrev D209:Type:=D123×D123×D123×D123×D123×Unit
abbrev Z209:D209:=(Z123,Z123,Z123,Z123,Z123,())
abbrev T258:Ty:=.st (.cons (.int .u16) (.cons (.int .u16) (.cons (.int .u16) .nl)))
abbrev T261:Ty:=.st (.cons (.int .u32) (.cons (.int .u32) (.cons (.int .u32) .nl)))
abbrev T255:Ty:=.st (.cons (.sl T258) (.cons (.sl T261) (.cons (.int .i64) .nl)))
def G0:List Int:=[0,0,0,0,0,0,0,0,0,1,1,1,1,1,0,0,0,0,0,0,0,0,0,0,0,0,0,0,0,0,0,0,1,0,0,0,0,0,0,0,0,0,0,0,0,0,0,0,0,0,0,0,0,0,0,0,0,0,0,0,0,0,0,0,0,0,0,0,0,0,0,0,0,0,0,0,0,0,0,0,0,0,0,0,0,0,0,0,0,0,0,0,0,0,0,0,0,0,0,0,0,0,0,0,0,0,0,0,0,0,0,0,0,0,0,0,0,0,0,0,0,0,0,0,0,0,0,0,0,0,0,0,0,0,0,0,0,0,0,0,0,0,0,0,0,0,0,0,0,0,0,0,0,0,0,0,0,0,0,0,0,0,0,0,0,0,0,0,0,0,0,0,0,0,0,0,0,0,0,0,0,0,0,0,0,0,0,0,0,0,0,0,0,0,0,0,0,0,0,0,0,0,0,0,0,0,0,0,0,0,0,0,0,0,0,0,0,0,0,0,0,0,0,0,0,0,0,0,0,0,0,0,0,0,0,0,0,0,0,0,0,0,0,0,0,0,0,0,0,0,0,0,0,0,0,0]
def G5:List Int:=[0,1608,3216,4821,6424,8022,9616,11204,12785,14359,15924,17479,19024,20557,22078,23586,25080,26558,28020,29466,30893,32303,33692,35062,36410,37736,39040,40320,41576,42806,44011,45190,46341,47464,48559,49624,50660,51665,52639,53581,54491,55368,56212,57022,57798,58538,59244,59914,60547,61145,61705,62228,62714,63162,63572,63944,64277,64571,64827,65043,65220,65358,65457,65516,65536]
instance:GlobTab:=⟨⟨[(0,⟨(.arr 256 (.int .u8)),G0⟩),(5,⟨(.arr 65 (.int .i64)),G5⟩)]⟩⟩
set_option maxRecDepth 20000 in
def lit0:List UInt8:=[48,48,48,48,48,48,48,48,48,48,32,48,48,48,48,53,102,48,48,48,48,32,48,48,48,55,48,48,48,55,48,48,32,49,52,55,102,49,52,55,102,49,52,32,50,52,50,97,55,102,50,97,49,50,32,50,51,49,51,48,56,54,52,54,50,32,51,54,52,57,53,54,50,48,53,48,32,48,48,48,53,48,51,48,48,48,48,32,48,48,49,99,50,50,52,49,48,48,32,48,48,52,49,50,50,49,99,48,48,32,49,52,48,56,51,101,48,56,49,52,32,48,56,48,56,51,101,48,56,48,56,32,48,48,53,48,51,48,48,48,48,48,32,48,56,48,56,48,56,48,56,48,56,32,48,48,54,48,54,48,48,48,48,48,32,50,48,49,48,48,56,48,52,48,50,32,51,101,53,49,52,57,52,53,51,101,32,48,48,52,50,55,102,52,48,48,48,32,52,50,54,49,53,49,52,57,52,54,32,50,49,52,49,52,53,52,98,51,49,32,49,56,49,52,49,50,55,102,49,48,32,50,55,52,53,52,53,52,53,51,57,32,51,99,52,97,52,57,52,57,51,48,32,48,49,55,49,48,57,48,53,48,51,32,51,54,52,57,52,57,52,57,51,54,32,48,54,52,57,52,57,50,57,49,101,32,48,48,51,54,51,54,48,48,48,48,32,48,48,53,54,51,54,48,48,48,48,32,48,56,49,52,50,50,52,49,48,48,32,49,52,49,52,49,52,49,52,49,52,32,48,48,52,49,50,50,49,52,48,56,32,48,50,48,49,53,49,48,57,48,54,32,51,50,52,57,55,57,52,49,51,101,32,55,101,49,49,49,49,49,49,55,101,32,55,102,52,57,52,57,52,57,51,54,32,51,101,52,49,52,49,52,49,50,50,32,55,102,52,49,52,49,50,50,49,99,32,55,102,52,57,52,57,52,57,52,49,32,55,102,48,57,48,57,48,57,48,49,32,51,101,52,49,52,57,52,57,55,97,32,55,102,48,56,48,56,48,56,55,102,32,48,48,52,49,55,102,52,49,48,48,32,50,48,52,48,52,49,51,102,48,49,32,55,102,48,56,49,52,50,50,52,49,32,55,102,52,48,52,48,52,48,52,48,32,55,102,48,50,48,99,48,50,55,102,32,55,102,48,52,48,56,49,48,55,102,32,51,101,52,49,52,49,52,49,51,101,32,55,102,48,57,48,57,48,57,48,54,32,51,101,52,49,53,49,50,49,53,101,32,55,102,48,57,49,57,50,57,52,54,32,52,54,52,57,52,57,52,57,51,49,32,48,49,48,49,55,102,48,49,48,49,32,51,102,52,48,52,48,52,48,51,102,32,49,102,50,48,52,48,50,48,49,102,32,51,102,52,48,51,56,52,48,51,102,32,54,51,49,52,48,56,49,52,54,51,32,48,55,48,56,55,48,48,56,48,55,32,54,49,53,49,52,57,52,53,52,51,32,48,48,55,102,52,49,52,49,48,48,32,48,50,48,52,48,56,49,48,50,48,32,48,48,52,49,52,49,55,102,48,48,32,48,52,48,50,48,49,48,50,48,52,32,52,48,52,48,52,48,52,48,52,48,32,48,48,48,49,48,50,48,52,48,48,32,50,48,53,52,53,52,53,52,55,56,32,55,102,52,56,52,52,52,52,51,56,32,51,56,52,52,52,52,52,52,50,48,32,51,56,52,52,52,52,52,56,55,102,32,51,56,53,52,53,52,53,52,49,56,32,48,56,55,101,48,57,48,49,48,50,32,48,99,53,50,53,50,53,50,51,101,32,55,102,48,56,48,52,48,52,55,56,32,48,48,52,52,55,100,52,48,48,48,32,50,48,52,48,52,52,51,100,48,48,32,55,102,49,48,50,56,52,52,48,48,32,48,48,52,49,55,102,52,48,48,48,32,55,99,48,52,49,56,48,52,55,56,32,55,99,48,56,48,52,48,52,55,56,32,51,56,52,52,52,52,52,52,51,56,32,55,99,49,52,49,52,49,52,48,56,32,48,56,49,52,49,52,49,56,55,99,32,55,99,48,56,48,52,48,52,48,56,32,52,56,53,52,53,52,53,52,50,48,32,48,52,51,102,52,52,52,48,50,48,32,51,99,52,48,52,48,50,48,55,99,32,49,99,50,48,52,48,50,48,49,99,32,51,99,52,48,51,48,52,48,51,99,32,52,52,50,56,49,48,50,56,52,52,32,48,99,53,48,53,48,53,48,51,99,32,52,52,54,52,53,52,52,99,52,52,32,48,48,48,56,51,54,52,49,48,48,32,48,48,48,48,55,102,48,48,48,48,32,48,48,52,49,51,54,48,56,48,48,32,49,48,48,56,48,56,49,48,48,56]
theorem rF3:xQ0 Tryz.prog 172 yE5:=wD2 Tryz.func172 (by kernel_rfl) (by kernel_rfl) (by kernel_rfl) (by kernel_rfl)
theorem rF4:xQ0 Tryz.prog 176 xG4:=wJ1 Tryz.func176 (by kernel_rfl) (by kernel_rfl) (by kernel_rfl) (by kernel_rfl)
def tys:List (Nat×Ty):=[(3,(.int .i64)),(4,.bool),(5,(.int .u8)),(9,.str),(21,(.int .i32)),(22,(.sl T80)),(23,(.sl (.int .i64))),(25,T24),(26,(.sl T85)),(27,(.sl T88)),(29,T28),(31,T30),(32,(.ptr T34)),(33,(.sl T61)),(35,T34),(36,(.sl (.ptr T34))),(37,(.int .i64)),(41,T30),(62,T61),(69,T68),(70,(.sl T73)),(72,T71),(74,T73),(75,(.sl T120)),(76,(.sl T126)),(77,(.sl T123)),(79,T78),(81,T80),(86,T85),(89,T88),(115,(.sl .bool)),(121,T120),(124,T123),(125,(.arr 3 T123)),(127,T126),(157,(.sl (.sl T123))),(165,(.sl T196)),(166,(.sl T201)),(168,T167),(172,(.sl T123)),(175,T123),(182,(.ptr T183)),(184,T183),(187,(.ptr T217)),(189,(.sl .str)),(191,(.sl T123)),(195,T123),(197,T196),(202,T201),(207,(.sl T209)),(210,T209),(216,(.arr 256 (.int .i64))),(218,T217),(224,(.arr 256 (.int .u8))),(236,(.sl T123)),(238,T123),(239,(.int .u32)),(241,(.ptr T255)),(243,(.int .u64)),(270,(.arr 65 (.int .i64)))]
theorem wQ3:zM1 Tryz.prog tys=true:=by kernel_rfl
def maps:List (Nat×(Ty×Ty)):=[(106,((.int .i64),(.int .i64)))]
def fts:List Nat:=[116]
theorem mixed:Tryz.prog.follows .mixedOrders=true:=by kernel_rfl
theorem cq {c:Ctx}(hs:xV0 Tryz.prog c.fns)(hmp:(yJ4 Tryz.prog c.maps&&yY4 Tryz.prog c.fts)=true:=by kernel_rfl)(he:c.exts=[]:=by rfl)(ht:zM1 Tryz.prog c.tys=true:=by exact wQ3)(hn:Nat.ble c.n vNo=true:=by kernel_rfl)(hcl:c.clones=[]:=by rfl):CtxOk Tryz.prog c:=wJ ht hmp hs he hn hcl
theorem fq {c:Ctx}{f:Nat}{fn:Func}{ps:List (Nat×Sh)}{rs:Sh}{os:List (Nat×Sh)}{ok:zB3 ps→Prop}{F:zB3 ps→rs.den}{o:zB3 ps→zT8 os}(hf:Tryz.prog.funcs[f]?=some fn)(hs:xV0 Tryz.prog c.fns)(hmp:(yJ4 Tryz.prog c.maps&&yY4 Tryz.prog c.fts)=true:=by kernel_rfl)(he:c.exts=[]:=by rfl)(ht:zM1 Tryz.prog c.tys=true:=by exact wQ3)(hn:Nat.ble c.n vNo=true:=by kernel_rfl)(hcl:c.clones=[]:=by rfl)(hk:xD4 fn c ps os=true:=by kernel_rfl)(hbs:zG9 (fn.body.getD .skip)=[]:=by kernel_rfl)(hsum:∀ x,xD2 c (fn.body.getD .skip) fn.results.toList ps rs os x=some (ok x,F x,o x):=by intro x;kernel_rfl):SpecOk Tryz.prog f (fnSpec ps rs os ok F o):=wL5 (wJ ht hmp hs he hn hcl) mixed hf hk hbs trivial hsum
theorem fl {c:Ctx}{f:Nat}{fn:Func}{ps:List (Nat×Sh)}{rs:Sh}{os:List (Nat×Sh)}{ok:zB3 ps→Prop}{F:zB3 ps→rs.den}{o:zB3 ps→zT8 os}(hc:CtxOk Tryz.prog c)(hf:Tryz.prog.funcs[f]?=some fn){bs:List Code}(hL:zO0 Tryz.prog c bs)(hk:xD4 fn c ps os=true:=by kernel_rfl)(hbs:zG9 (fn.body.getD .skip)=bs:=by kernel_rfl)(hsum:∀ x,xD2 c (fn.body.getD .skip) fn.results.toList ps rs os x=some (ok x,F x,o x):=by intro x;kernel_rfl):SpecOk Tryz.prog f (fnSpec ps rs os ok F o):=wL5 hc mixed hf hk hbs hL hsum
theorem lq {c:Ctx}{body:Code}{sp:St→Option Out}{ly lx:List (Nat×Sh)}{g:zB3 ly→zB3 lx→Bool}{next:zB3 ly→zB3 lx→zB3 lx}{ok:zB3 ly→zB3 lx→Prop}{es:zB3 ly→zB3 lx→List Comp}(hc:CtxOk Tryz.prog c)(hs:sp=xU9 ly lx g next ok es)(les:List (List (Nat×Sh)))(hb:zG9 body=[]:=by kernel_rfl)(hw:zC8 c.keep body=true:=by kernel_rfl)(hl:Go.Am.look (fun _=>none) c.loops (zE body)=sp:=by kernel_rfl)(hsum:∀ y x,yD2 c body ly lx les y x=some (ok y x,g y x,y,next y x,es y x):=by intro y x;kernel_rfl):xD3 Tryz.prog c body:=wL4 hc mixed hs les hb trivial hw hl hsum
@[reducible] def kb {n:Nat}{s:Am.Spec}(h:SpecOk Tryz.prog n s):Fb Tryz.prog:=⟨n,s,h⟩
@[reducible] def li:=Li.mk
theorem fx (X:Ctx→Ctx){f:Nat}{fn:Func}(hf:Tryz.prog.funcs[f]?=some fn)(n:Nat)(cs:List (Fb Tryz.prog):=[])(ls:List (Nat×Li):=[])(gh:List (Nat×List (Nat×Nat×Nat×Nat)):=[])(w:Bool:=false)(kp wr:List Nat:=[]){ps:List (Nat×Sh)}{rs:Sh}{os:List (Nat×Sh)}{ok:zB3 ps→Prop}{F:zB3 ps→rs.den}{o:zB3 ps→zT8 os}(hX:(X (Cx tys (Fb.l cs) (Li.l ls) gh w n kp wr)).fns=Fb.l cs:=by rfl)(hk:xD4 fn (X (Cx tys (Fb.l cs) (Li.l ls) gh w n kp wr)) ps os=true:=by kernel_rfl)(hl:wC0 (X (Cx tys (Fb.l cs) (Li.l ls) gh w n kp wr)) (zO1 (fn.body.getD .skip)) ls=wC1 ls:=by kernel_rfl)(hsum:∀ x,xD2 (X (Cx tys (Fb.l cs) (Li.l ls) gh w n kp wr)) (fn.body.getD .skip) fn.results.toList ps rs os x=some (ok x,F x,o x):=by intro x;kernel_rfl)(hmp:(yJ4 Tryz.prog (X (Cx tys (Fb.l cs) (Li.l ls) gh w n kp wr)).maps&&yY4 Tryz.prog (X (Cx tys (Fb.l cs) (Li.l ls) gh w n kp wr)).fts)=true:=by kernel_rfl)(he:(X (Cx tys (Fb.l cs) (Li.l ls) gh w n kp wr)).exts=[]:=by rfl)(ht:zM1 Tryz.prog (X (Cx tys (Fb.l cs) (Li.l ls) gh w n kp wr)).tys=true:=by exact wQ3)(hn:Nat.ble (X (Cx tys (Fb.l cs) (Li.l ls) gh w n kp wr)).n vNo=true:=by kernel_rfl)(hcl:(X (Cx tys (Fb.l cs) (Li.l ls) gh w n kp wr)).clones=[]:=by rfl):SpecOk Tryz.prog f (fnSpec ps rs os ok F o):=wL6 (wJ ht hmp (by rw[hX];exact Fb.all cs) he hn hcl) mixed hf hk hl hsum
theorem fb {f:Nat}{fn:Func}(hf:Tryz.prog.funcs[f]?=some fn)(n:Nat)(cs:List (Fb Tryz.prog):=[])(ls:List (Nat×Li):=[])(gh:List (Nat×List (Nat×Nat×Nat×Nat)):=[])(w:Bool:=false)(kp wr:List Nat:=[]){ps:List (Nat×Sh)}{rs:Sh}{os:List (Nat×Sh)}{ok:zB3 ps→Prop}{F:zB3 ps→rs.den}{o:zB3 ps→zT8 os}(hk:xD4 fn (Cx tys (Fb.l cs) (Li.l ls) gh w n kp wr) ps os=true:=by kernel_rfl)(hl:wC0 (Cx tys (Fb.l cs) (Li.l ls) gh w n kp wr) (zO1 (fn.body.getD .skip)) ls=wC1 ls:=by kernel_rfl)(hsum:∀ x,xD2 (Cx tys (Fb.l cs) (Li.l ls) gh w n kp wr) (fn.body.getD .skip) fn.results.toList ps rs os x=some (ok x,F x,o x):=by intro x;kernel_rfl)(hmp:(yJ4 Tryz.prog (Cx tys (Fb.l cs) (Li.l ls) gh w n kp wr).maps&&yY4 Tryz.prog (Cx tys (Fb.l cs) (Li.l ls) gh w n kp wr).fts)=true:=by kernel_rfl)(he:(Cx tys (Fb.l cs) (Li.l ls) gh w n kp wr).exts=[]:=by rfl)(ht:zM1 Tryz.prog (Cx tys (Fb.l cs) (Li.l ls) gh w n kp wr).tys=true:=by exact wQ3)(hn:Nat.ble (Cx tys (Fb.l cs) (Li.l ls) gh w n kp wr).n vNo=true:=by kernel_rfl)(hcl:(Cx tys (Fb.l cs) (Li.l ls) gh w n kp wr).clones=[]:=by rfl):SpecOk Tryz.prog f (fnSpec ps rs os ok F o):=wL6 (wJ ht hmp (Fb.all cs) he hn hcl) mixed hf hk hl hsum
abbrev SK (n:Nat)(s:Am.Spec):Prop:=SpecOk Tryz.prog n s
@[reducible] def Cy (f:List (Nat×Am.Spec)) (l:List (Nat×(St→Option Out))) (h:List (Nat×List (Nat×Nat×Nat×Nat))) (n:Nat):Ctx:=Cx tys f l h false n [] []
@[reducible] def sp1 (A R:Sh) (ok:A.den→Prop) (f:A.den→R.den):Am.Spec:=fnSpec [(0,A)] R [] (fun x=>ok x.1) (fun x=>f x.1) (fun _=>())
@[reducible] def sp2 (A B R:Sh) (ok:A.den→B.den→Prop) (f:A.den→B.den→R.den):Am.Spec:=fnSpec [(0,A),(1,B)] R [] (fun x=>ok x.1 x.2.1) (fun x=>f x.1 x.2.1) (fun _=>())
@[reducible] def sp3 (A B C R:Sh) (ok:A.den→B.den→C.den→Prop) (f:A.den→B.den→C.den→R.den):Am.Spec:=fnSpec [(0,A),(1,B),(2,C)] R [] (fun x=>ok x.1 x.2.1 x.2.2.1) (fun x=>f x.1 x.2.1 x.2.2.1) (fun _=>())
@[reducible] def sp4 (A B C D R:Sh) (ok:A.den→B.den→C.den→D.den→Prop) (f:A.den→B.den→C.den→D.den→R.den):Am.Spec:=fnSpec [(0,A),(1,B),(2,C),(3,D)] R [] (fun x=>ok x.1 x.2.1 x.2.2.1 x.2.2.2.1) (fun x=>f x.1 x.2.1 x.2.2.1 x.2.2.2.1) (fun _=>())
@[reducible] def sp5 (A B C D E R:Sh) (ok:A.den→B.den→C.den→D.den→E.den→Prop) (f:A.den→B.den→C.den→D.den→E.den→R.den):Am.Spec:=fnSpec [(0,A),(1,B),(2,C),(3,D),(4,E)] R [] (fun x=>ok x.1 x.2.1 x.2.2.1 x.2.2.2.1 x.2.2.2.2.1) (fun x=>f x.1 x.2.1 x.2.2.1 x.2.2.2.1 x.2.2.2.2.1) (fun _=>())
def rF5 (p0:List UInt8)(p1:Int):Prop×Int:=
 (True,(Lib.indexByte p0 (Int.toNat p1).toUInt8))
def tK3 p0 p1:=(rF5 p0 p1).1
def f160 p0 p1:=(rF5 p0 p1).2
instance (p0 p1):Decidable (tK3 p0 p1):=by unfold tK3 rF5;dsimp only;infer_instance
def sO1:=sp2 vS (.val (.int .u8)) vI tK3 f160
def sY4:Ctx:={ Cx tys [] [] [] false 8 [] [] with exts:=[(172,yE5)] }
theorem sY5:CtxOk Tryz.prog sY4:=wH5 wQ3 rfl trivial ⟨rF3,trivial⟩ (by kernel_rfl)
theorem rF6:SK 160 sO1:=fl sY5 Tryz.func160 (bs:=[]) trivial
def f179 (p0 p1:List UInt8):Int:=Lib.indexByte p0 (p1.headD 0)
def tK4 (_p0 p1:List UInt8):Prop:=List.length p1=1
instance (p0 p1:List UInt8):Decidable (tK4 p0 p1):=by
  unfold tK4
  infer_instance
def rF7:List (Nat×Sh):=[(0,(.val .str)),(1,(.val .str))]
def rF8:Sh:=(.val (.int .i64))
def rF9:List (Nat×Sh):=[]
def sO2:Am.Spec:=fnSpec rF7 rF8 rF9 (fun x=>tK4 x.1 x.2.1) (fun x=>f179 x.1 x.2.1) (fun _=>())
theorem rG:SpecOk Tryz.prog 179 sO2:=wI1 (F:=f179) ⟨_,Tryz.func179,by kernel_rfl,by decide⟩ (fun s c w=>Tryz.strings_Index_one s c w)
def f180 (_p0:List UInt8)(_p1:Int):(List (List UInt8)):=([]:List (List UInt8))
def tK5 (_p0:List UInt8)(_p1:Int):Prop:=False
instance (_p0:List UInt8)(_p1:Int):Decidable (tK5 _p0 _p1):=by
  unfold tK5
  infer_instance
def rG0:List (Nat×Sh):=[(0,vS),(1,vI)]
def rG1:Sh:=(.val (.sl .str))
def rG2:List (Nat×Sh):=[]
def sO3:Am.Spec:=fnSpec rG0 rG1 rG2 (fun x=>tK5 x.1 x.2.1) (fun x=>f180 x.1 x.2.1) (fun _=>())
theorem rG3:SpecOk Tryz.prog 180 sO3:=wG1 Tryz.func180 (by kernel_rfl) (by decide)
def f181 (p0 p1:List UInt8):Int:=((Lib.countByte p0 (p1.headD 0):Nat):Int)
def tK6 (_p0 p1:List UInt8):Prop:=List.length p1=1
instance (p0 p1:List UInt8):Decidable (tK6 p0 p1):=by
  unfold tK6
  infer_instance
def rG4:List (Nat×Sh):=[(0,(.val .str)),(1,(.val .str))]
def rG5:Sh:=(.val (.int .i64))
def rG6:List (Nat×Sh):=[]
def sO4:Am.Spec:=fnSpec rG4 rG5 rG6 (fun x=>tK6 x.1 x.2.1) (fun x=>f181 x.1 x.2.1) (fun _=>())
theorem rG7:SpecOk Tryz.prog 181 sO4:=wI1 (F:=f181) ⟨_,Tryz.func181,by kernel_rfl,by decide⟩ (fun s c w=>Tryz.strings_Count_one s c w)
abbrev wS7:Type:=((List UInt8)×Int×Int×Unit)
abbrev wO4:Type:=((List UInt8)×(List (List UInt8))×Int×Unit)
def uA5 (y:wS7)(x:wO4):Prop×Bool×wO4:=
 let a1:=y.1
 let a2:=y.2.1
 let a0:=x.1
 let a9:=x.2.1
 let a10:=x.2.2.1
 let v36:=(decide (a10<y.2.2.1))
 let v39:=(f179 a0 a1)
 let v41:=(decide (v39<0))
 let v47:=(v39+a2)
 let v53:=(len a1)
 let v54:=(v39+v53)
 ((v36=true→((tK4 a0 a1)∧((!v41)=true→(InR (v39+a2)∧((0≤v47∧v47≤len a0)∧(InB a10 (len a9)∧(a10<len a9∧(InR (v39+v53)∧((0≤v54∧v54≤len a0)∧InR (a10+1)))))))))),(v36&&(!v41)),((List.drop (Int.toNat v54) a0),(List.set a9 (Int.toNat a10) (List.take (Int.toNat v47) a0)),(a10+1),()))
def vF0 y x:=(uA5 y x).1
def uJ2 y x:=(uA5 y x).2.1
def vF1 y x:=(uA5 y x).2.2
instance (y x):Decidable (vF0 y x):=by unfold vF0 uA5;dsimp only;infer_instance
def uA6 (y:wS7)(x:wO4):(List UInt8):=
 x.1
def uA7 (y:wS7)(x:wO4):(List (List UInt8)):=
 x.2.1
def uA8 (y:wS7)(x:wO4):Int:=
 x.2.2.1
def uT9:List (Nat×Sh):=[(0,vS),(9,(.own .str 1009 true)),(10,vI)]
def tY0:=li [(1,vS),(2,vI),(3,vI)] [(0,vS),(9,(.own .str 1009 true)),(10,vI)] uJ2 vF1 vF0 (fun y x=>[ex 2 none uT9 ((uA6 y x),(uA7 y x),(uA8 y x),())]) [uT9]
def rG8 (p0:List UInt8)(p1:List UInt8)(p2:Int)(p3:Int):Prop×(List (List UInt8)):=
 let v13:=(p3==0)
 let v15:=(p1==([]:List UInt8))
 let v20:=(decide (p3<0))
 let v23:=(f181 p0 p1)
 let v27:=(len p0)
 let v29:=(wJ6 (bif v20 then (v23+1) else p3) (v27+1))
 let y11:=(p1,p2,(v29-1),())
 let x11:=(p0,(List.replicate (Int.toNat v29) ([]:List UInt8)),(0:Int),())
 let e11:=(zD9 (uJ2 y11) (vF1 y11) x11)
 let r11_2_1:=(uA7 y11 e11)
 let r11_2_2:=(uA8 y11 e11)
 let l1009:=(List.set r11_2_1 (Int.toNat r11_2_2) (uA6 y11 e11))
 let v64:=(r11_2_2+1)
 (((!v13)=true→((v15=true→(tK5 p0 p3))∧((!v15)=true→((v20=true→((tK6 p0 p1)∧InR (v23+1)))∧(InR (v27+1)∧((0≤v29∧v29≤v29∧v29≤4294967296)∧(InR (v29-1)∧((wB6 (uJ2 y11) (vF1 y11) (vF0 y11) x11)∧(InB r11_2_2 (len r11_2_1)∧(r11_2_2<len r11_2_1∧(InR (r11_2_2+1)∧(0≤v64∧v64≤len l1009)))))))))))),(bif v13 then [] else (bif v15 then (f180 p0 p3) else (List.take (Int.toNat v64) l1009))))
def tK7 p0 p1 p2 p3:=(rG8 p0 p1 p2 p3).1
def f170 p0 p1 p2 p3:=(rG8 p0 p1 p2 p3).2
instance (p0 p1 p2 p3):Decidable (tK7 p0 p1 p2 p3):=by unfold tK7 rG8;dsimp only;infer_instance
theorem rG9:SK 170 (sp4 vS vS vI vI (.val (.sl .str)) tK7 f170):=fb Tryz.func170 66 [kb rG,kb rG3,kb rG7] [(11,tY0)] [(17,[(4,0,31,1009)]),(36,[(1,9,0,0)])] false [] [31]
def rH (p0:List UInt8)(p1:List UInt8):Prop×(List (List UInt8)):=
 ((tK7 p0 p1 (0:Int) (-1:Int)),(f170 p0 p1 (0:Int) (-1:Int)))
def uU p0 p1:=(rH p0 p1).1
def f155 p0 p1:=(rH p0 p1).2
instance (p0 p1):Decidable (uU p0 p1):=by unfold uU rH;dsimp only;infer_instance
def sO5:=sp2 vS vS (.val (.sl .str)) uU f155
theorem rH0:SK 155 (sp2 vS vS (.val (.sl .str)) uU f155):=fb Tryz.func155 8 [kb rG9]
def rH1 (p0:Int)(p1:Int):Prop×Int:=
 let v7:=(p1==0)
 let v13:=(bif (p0==(-9223372036854775808)) then (p1==(-1)) else false)
 let v16:=(IntKind.wrap .i64 (Int.tdiv p0 p1))
 let m4_1:=(bif v7 then (0:Int) else (bif v13 then (9223372036854775807:Int) else (bif (bif ((Int.tmod p0 p1)!=0) then (!(Ty.eqb .bool (decide (p0<0)) (decide (p1<0)))) else false) then (IntKind.wrap .i64 (v16-1)) else v16)))
 (((!v7)=true→((!v13)=true→(p1≠0∧p1≠0))),m4_1)
def uJ3 p0 p1:=(rH1 p0 p1).1
def f109 p0 p1:=(rH1 p0 p1).2
instance (p0 p1):Decidable (uJ3 p0 p1):=by unfold uJ3 rH1;dsimp only;infer_instance
theorem sO6:SK 109 (sp2 vI vI vI uJ3 f109):=fb Tryz.func109 31 [] [] [] true
def f96t (p0:Int)(p1:Int):Prop×Int:=
 let v8:=(p1==0)
 let v14:=(bif (p0==(-9223372036854775808)) then (p1==(-1)) else false)
 let v17:=(f109 p0 p1)
 let v22:=(IntKind.wrap .i64 (p0-(IntKind.wrap .i64 (p1*v17))))
 let m5:=(bif (bif (bif (decide (p1>0)) then (decide (v22≥(IntKind.wrap .i64 (p1-v22)))) else false) then true else (bif (decide (p1<0)) then (decide (v22≤(IntKind.wrap .i64 (p1-v22)))) else false)) then (IntKind.wrap .i64 (v17+1)) else v17)
 (((!v8)=true→((!v14)=true→(uJ3 p0 p1))),(bif v8 then (0:Int) else (bif v14 then (9223372036854775807:Int) else m5)))
def wM4 p0 p1:=(f96t p0 p1).1
def f96 p0 p1:=(f96t p0 p1).2
instance (p0 p1):Decidable (wM4 p0 p1):=by unfold wM4 f96t;dsimp only;infer_instance
theorem vL0:SK 96 (sp2 vI vI vI wM4 f96):=fb Tryz.func96 46 [kb sO6] [] [] true
abbrev wX8:Type:=(Int×Int×(List D201)×Int×Unit)
abbrev wQ6:Type:=(Int×Unit)
def vP9 (y:wX8)(x:wQ6):Prop×Bool×wQ6×Bool×Bool:=
 let a33:=y.2.2.1
 let a35:=x.1
 let v36:=(decide (a35<y.2.2.2.1))
 let v37:=(nth a33 a35 Z201)
 let v48:=(bif (v37.1==y.1) then (v37.2.1==y.2.1) else false)
 ((v36=true→InB a35 (len a33)),(v36&&(!v48)),((IntKind.wrap .i64 (a35+1)),()),(v36&&v48),(!v36))
def vQ y x:=(vP9 y x).1
def uU0 y x:=(vP9 y x).2.1
def vL1 y x:=(vP9 y x).2.2.1
def tF2 y x:=(vP9 y x).2.2.2.1
def sJ7 y x:=(vP9 y x).2.2.2.2
instance (y x):Decidable (vQ y x):=by unfold vQ vP9;dsimp only;infer_instance
def uM5 (y:wX8)(x:wQ6):Int:=
 (nth y.2.2.1 x.1 Z201).2.2.1
def sJ8:=li [(7,(.val (.int .u8))),(8,(.val (.int .u8))),(33,(.val (.sl T201))),(34,vI)] [(35,vI)] uU0 vL1 vQ (fun y x=>[ex 1 (some (tF2 y x)) [(6,vI)] ((uM5 y x),()),ex 2 (some (sJ7 y x)) [] ()]) [[(6,vI)],[]]
def rH2 (p0:D217)(p1:Int)(p2:Int):Prop×Int:=
 let y3:=((nth p0.1.2.2.2.1 p1 Z196).1,(nth p0.1.2.2.2.1 p2 Z196).1,p0.1.2.2.2.2.1,(len p0.1.2.2.2.2.1),())
 let x3:=((0:Int),())
 let e3:=(zD9 (uU0 y3) (vL1 y3) x3)
 ((InB p1 (len p0.1.2.2.2.1)∧(InB p2 (len p0.1.2.2.2.1)∧(wB6 (uU0 y3) (vL1 y3) (vQ y3) x3))),(bif (tF2 y3 e3) then (uM5 y3 e3) else (0:Int)))
def tK8 p0 p1 p2:=(rH2 p0 p1 p2).1
def f157 p0 p1 p2:=(rH2 p0 p1 p2).2
instance (p0 p1 p2):Decidable (tK8 p0 p1 p2):=by unfold tK8 rH2;dsimp only;infer_instance
theorem rH3:SK 157 (sp3 (.val (.ptr T217)) vI vI vI tK8 f157):=fb Tryz.func157 52 [] [(3,sJ8)] [] true
abbrev vC8:Type:=(D217×(List UInt8)×Int×Unit)
abbrev wU:Type:=((List D123)×Int×Int×Unit)
def uR5 (y:vC8)(x:wU):Prop×Bool×wU:=
 let a0:=y.1
 let a1:=y.2.1
 let a6:=x.1
 let a7:=x.2.1
 let a12:=x.2.2.1
 let v13:=(decide (a12<y.2.2.1))
 let v18:=(wK5 a1 a12)
 let v21:=(nth a0.2.1 v18 (0:Int))
 let v24:=(decide (v21<0))
 let v27:=(decide ((len a6)>0))
 let v33:=(IntKind.wrap .i64 ((len a6)-1))
 let v34:=(nth a6 v33 Z123)
 let m7:=(bif v27 then (IntKind.wrap .i64 (a7+(f157 a0 v34.1 v21))) else a7)
 let v44:=([(v21,m7,())]:List D123)
 ((v13=true→(InB a12 (len a1)∧(InB v18 256∧((!v24)=true→((v27=true→(InB v33 (len a6)∧(tK8 a0 v34.1 v21)))∧(((List.length a6+List.length v44:Nat):Int)≤4294967296∧InB v21 (len a0.1.2.2.2.1))))))),(v13&&(v24||(!v24))),((bif v24 then a6 else (a6++v44)),(bif v24 then a7 else (IntKind.wrap .i64 (m7+(nth a0.1.2.2.2.1 v21 Z196).2.1))),(IntKind.wrap .i64 (a12+1)),()))
def vQ0 y x:=(uR5 y x).1
def uU1 y x:=(uR5 y x).2.1
def vL2 y x:=(uR5 y x).2.2
instance (y x):Decidable (vQ0 y x):=by unfold vQ0 uR5;dsimp only;infer_instance
def uM6 (y:vC8)(x:wU):(List D123):=
 x.1
def uM7 (y:vC8)(x:wU):Int:=
 x.2.1
def tF3:List (Nat×Sh):=[(6,(.own T123 1006 false)),(7,vI)]
def sJ9:=li [(0,(.val (.ptr T217))),(1,vS),(11,vI)] [(6,(.own T123 1006 false)),(7,vI),(12,vI)] uU1 vL2 vQ0 (fun y x=>[ex 2 none tF3 ((uM6 y x),(uM7 y x),())]) [tF3]
def rH4 (p0:D217)(p1:List UInt8):Prop×((List D123)×Int×Unit):=
 let y4:=(p0,p1,(len p1),())
 let x4:=(([]:List D123),(0:Int),(0:Int),())
 let e4:=(zD9 (uU1 y4) (vL2 y4) x4)
 ((wB6 (uU1 y4) (vL2 y4) (vQ0 y4) x4),((uM6 y4 e4),(uM7 y4 e4),()))
def uU2 p0 p1:=(rH4 p0 p1).1
def f137 p0 p1:=(rH4 p0 p1).2
instance (p0 p1):Decidable (uU2 p0 p1):=by unfold uU2 rH4;dsimp only;infer_instance
theorem sO7:SK 137 (sp2 (.val (.ptr T217)) vS (.tup (.cons (.own T123 0 false) (.cons vI .nl))) uU2 f137):=fb Tryz.func137 60 [kb rH3] [(4,sJ9)] [(21,[(4,0,45,1006)]),(27,[(4,0,1006,0)])] true
def rH5 (p0:D217)(p1:List UInt8)(p2:Int):Prop×Int:=
 let v17:=(IntKind.wrap .i64 (p2*(f137 p0 p1).2.1))
 (((uU2 p0 p1)∧(wM4 v17 p0.1.1)),(f96 v17 p0.1.1))
def uU3 p0 p1 p2:=(rH5 p0 p1 p2).1
def f156 p0 p1 p2:=(rH5 p0 p1 p2).2
instance (p0 p1 p2):Decidable (uU3 p0 p1 p2):=by unfold uU3 rH5;dsimp only;infer_instance
def sO8:=sp3 (.val (.ptr T217)) vS vI vI uU3 f156
theorem rH6:SK 156 (sp3 (.val (.ptr T217)) vS vI vI uU3 f156):=fb Tryz.func156 24 [kb vL0,kb sO7] [] [(3,[(4,0,12,1007)])] true
abbrev wW9:Type:=(D217×Int×Int×(List (List UInt8))×Int×Unit)
abbrev wQ4:Type:=((List (List UInt8))×(List UInt8)×Int×Unit)
def uA9 (y:wW9)(x:wQ4):Prop×Bool×wQ4:=
 let a4:=y.1
 let a6:=y.2.1
 let a7:=y.2.2.1
 let a25:=y.2.2.2.1
 let a9:=x.1
 let a12:=x.2.1
 let a27:=x.2.2.1
 let v28:=(decide (a27<y.2.2.2.2.1))
 let v29:=(nth a25 a27 ([]:List UInt8))
 let v32:=(a12++([32]:List UInt8))
 let v34:=(v32++v29)
 let v36:=(a7==0)
 let v44:=(bif v36 then true else (decide ((f156 a4 v34 a6)≤a7)))
 let v48:=([a12]:List (List UInt8))
 ((v28=true→(InB a27 (len a25)∧(((List.length a12+List.length ([32]:List UInt8):Nat):Int)≤9223372036854775807∧(((List.length v32+List.length v29:Nat):Int)≤9223372036854775807∧(((!v36)=true→(uU3 a4 v34 a6))∧((v44=false→((List.length a9+List.length v48:Nat):Int)≤4294967296)∧InR (a27+1))))))),v28,((bif v44 then a9 else (a9++v48)),(bif v44 then v34 else v29),(a27+1),()))
def vF2 y x:=(uA9 y x).1
def uJ4 y x:=(uA9 y x).2.1
def vF3 y x:=(uA9 y x).2.2
instance (y x):Decidable (vF2 y x):=by unfold vF2 uA9;dsimp only;infer_instance
def uB (y:wW9)(x:wQ4):(List (List UInt8)):=
 x.1
def uB0 (y:wW9)(x:wQ4):(List UInt8):=
 x.2.1
def uU4:List (Nat×Sh):=[(4,(.box (.ptr T217) (.val (.ptr T217)))),(6,(.box (.int .i64) vI)),(7,(.box (.int .i64) vI)),(9,(.box (.sl .str) (.own .str 400900 false))),(12,vS)]
def uB1:St→Option Out:=xU9 [(4,(.box (.ptr T217) (.val (.ptr T217)))),(6,(.box (.int .i64) vI)),(7,(.box (.int .i64) vI)),(25,(.val (.sl .str))),(26,vI)] [(9,(.box (.sl .str) (.own .str 400900 false))),(12,vS),(27,vI)] uJ4 vF3 vF2 fun y x=>[ex 4 none uU4 (y.1,y.2.1,y.2.2.1,(uB y x),(uB0 y x),())]
def sO9 (p0:D217)(p1:Int)(p2:Int)(p3:(List (List UInt8)))(p4:List UInt8):Prop×(Unit)×(D217×Int×Int×(List (List UInt8))×Unit):=
 let v20:=(f155 p4 ([32]:List UInt8))
 let v25:=(List.drop (Int.toNat (1:Int)) v20)
 let y7:=(p0,p1,p2,v25,(len v25),())
 let x7:=(p3,(nth v20 (0:Int) ([]:List UInt8)),(0:Int),())
 let e7:=(zD9 (uJ4 y7) (vF3 y7) x7)
 let r7_4_0:=(uB y7 e7)
 let v54:=([(uB0 y7 e7)]:List (List UInt8))
 (((uU p4 ([32]:List UInt8))∧(InB (0:Int) (len v20)∧((0≤(1:Int)∧(1:Int)≤len v20)∧((wB6 (uJ4 y7) (vF3 y7) (vF2 y7) x7)∧((List.length r7_4_0+List.length v54:Nat):Int)≤4294967296)))),(),(p0,p1,p2,(r7_4_0++v54),()))
def vQ1 p0 p1 p2 p3 p4:=(sO9 p0 p1 p2 p3 p4).1
def uU5 p0 p1 p2 p3 p4:=(sO9 p0 p1 p2 p3 p4).2.2
instance (p0 p1 p2 p3 p4):Decidable (vQ1 p0 p1 p2 p3 p4):=by unfold vQ1 sO9;dsimp only;infer_instance
def uB2:List (Nat×Sh):=[(4,(.box (.ptr T217) (.val (.ptr T217)))),(6,(.box (.int .i64) vI)),(7,(.box (.int .i64) vI)),(9,(.box (.sl .str) (.own .str 400900 false))),(10,vS)]
def sE0:Sh:=(.tup .nl)
def uR6:List (Nat×Sh):=[(4,(.box (.ptr T217) (.val (.ptr T217)))),(6,(.box (.int .i64) vI)),(7,(.box (.int .i64) vI)),(9,(.box (.sl .str) (.own .str 400900 false)))]
def vL3:Ctx:=Cx tys [(155,sO5),(156,sO8)] [(7,uB1)] [(25,[(4,0,49,400900)]),(31,[(4,0,55,400900)])] false 57 [4,6,7,9] []
theorem tS2:CtxOk Tryz.prog vL3:=cq ⟨rH0,rH6,trivial⟩
noncomputable def wO5:Code:=(xW2 (Tryz.f136.body.getD .skip)).getD .skip
noncomputable def sE1:Code:=wJ9 wO5 0
theorem tY1:xD3 Tryz.prog vL3 sE1:=wL4 tS2 mixed (sp:=uB1) rfl [uU4] (bs:=[]) (by kernel_rfl) trivial (by kernel_rfl) (by kernel_rfl) fun y x=>by kernel_rfl
theorem sY6:∀ x,wD3 vL3 wO5 (zB7 uB2 x)=true:=fun x=>by kernel_rfl
theorem sP:∀ x,xD2 vL3 wO5 [] uB2 sE0 uR6 x=some (vQ1 x.1 x.2.1 x.2.2.1 x.2.2.2.1 x.2.2.2.2.1,(),uU5 x.1 x.2.1 x.2.2.1 x.2.2.2.1 x.2.2.2.2.1):=fun x=>by kernel_rfl
theorem sY7:wF4 Tryz.prog vL3 wO5 uB2 uR6 (fun x=>vQ1 x.1 x.2.1 x.2.2.1 x.2.2.2.1 x.2.2.2.2.1) (fun x=>uU5 x.1 x.2.1 x.2.2.1 x.2.2.2.1 x.2.2.2.2.1):=wI3 (rs:=sE0) (F:=fun _=>()) tS2 mixed (bs:=[sE1]) (by kernel_rfl) ⟨tY1,trivial⟩ (by kernel_rfl) sY6 sP
end Go.Proofs.YtmmpcldfjocfmaaGreatDoor.Am
