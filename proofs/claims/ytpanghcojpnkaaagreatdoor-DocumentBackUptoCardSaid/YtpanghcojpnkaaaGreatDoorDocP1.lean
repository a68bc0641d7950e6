/- Printed by program: the functions that the statements reach, as plain functions, and their contracts. No condition. -/
import Derived.Test.YtpanghcojpnkaaaGreatDoorMach4
import Derived.Test.YtpanghcojpnkaaaGreatDoorDocI
import Derived.Test.YtpanghcojpnkaaaGreatDoorDocH
import Derived.Test.YtpanghcojpnkaaaGreatDoorProg
set_option linter.unusedVariables false
set_option synthInstance.maxSize 4000
set_option synthInstance.maxHeartbeats 400000
namespace Go.Proofs.YtpanghcojpnkaaaGreatDoor.Am
open Go Go.Am Go.Proofs
abbrev T24:Ty:=.st (.cons (.int .i64) (.cons (.int .i64) (.cons (.sl (.int .i64)) .nl)))
abbrev D24:Type:=Int×Int×(List Int)×Unit
abbrev Z24:D24:=((0:Int),(0:Int),([]:List Int),())
abbrev T37:Ty:=.st (.cons (.int .i64) (.cons (.int .i64) (.cons (.int .i64) (.cons (.int .i64) (.cons (.int .i64) (.cons (.int .i64) .nl))))))
abbrev D37:Type:=Int×Int×Int×Int×Int×Int×Unit
abbrev Z37:D37:=((0:Int),(0:Int),(0:Int),(0:Int),(0:Int),(0:Int),())
abbrev T42:Ty:=.st (.cons (.int .i64) (.cons (.int .i64) (.cons (.int .i64) (.cons (.int .i64) .nl))))
abbrev D42:Type:=Int×Int×Int×Int×Unit
abbrev Z42:D42:=((0:Int),(0:Int),(0:Int),(0:Int),())
abbrev T40:Ty:=.st (.cons (.int .i64) (.cons (.int .i64) (.cons (.sl T42) .nl)))
abbrev D40:Type:=Int×Int×(List D42)×Unit
abbrev Z40:D40:=((0:Int),(0:Int),([]:List D42),())
abbrev T122:Ty:=.st (.cons (.int .i64) (.cons T42 .nl))
abbrev D122:Type:=Int×D42×Unit
abbrev Z122:D122:=((0:Int),Z42,())
abbrev T125:Ty:=.st (.cons (.int .i64) (.cons (.int .i64) .nl))
abbrev D125:Type:=Int×Int×Unit
abbrev Z125:D125:=((0:Int),(0:Int),())
abbrev T128:Ty:=.st (.cons (.int .i64) (.cons (.arr 3 T125) .nl))
abbrev D128:Type:=Int×(List D125)×Unit
abbrev Z128:D128:=((0:Int),(List.replicate 3 Z125),())
abbrev T47:Ty:=.st (.cons (.int .i64) (.cons (.int .i64) (.cons (.int .i64) (.cons (.sl T125) .nl))))
abbrev D47:Type:=Int×Int×Int×(List D125)×Unit
abbrev Z47:D47:=((0:Int),(0:Int),(0:Int),([]:List D125),())
abbrev T49:Ty:=.st (.cons (.int .i64) (.cons (.int .i64) (.cons (.int .i64) (.cons .str (.cons .bool (.cons .bool (.cons .bool (.cons (.int .i64) (.cons (.int .i64) (.cons T24 (.cons T37 (.cons (.int .i64) (.cons T40 (.cons T42 (.cons (.int .i64) (.cons (.sl (.int .i64)) (.cons (.int .i64) (.cons (.sl T122) (.cons (.sl T128) (.cons (.int .i64) (.cons (.int .i64) (.cons (.int .i64) (.cons (.int .i64) (.cons .str (.cons (.int .i64) (.cons (.int .i64) (.cons (.int .i64) (.cons T47 .nl))))))))))))))))))))))))))))
abbrev D49:Type:=Int×Int×Int×(List UInt8)×Bool×Bool×Bool×Int×Int×D24×D37×Int×D40×D42×Int×(List Int)×Int×(List D122)×(List D128)×Int×Int×Int×Int×(List UInt8)×Int×Int×Int×D47×Unit
abbrev Z49:D49:=((0:Int),(0:Int),(0:Int),([]:List UInt8),false,false,false,(0:Int),(0:Int),Z24,Z37,(0:Int),Z40,Z42,(0:Int),([]:List Int),(0:Int),([]:List D122),([]:List D128),(0:Int),(0:Int),(0:Int),(0:Int),([]:List UInt8),(0:Int),(0:Int),(0:Int),Z47,())
abbrev T87:Ty:=.st (.cons .str (.cons .str .nl))
abbrev D87:Type:=(List UInt8)×(List UInt8)×Unit
abbrev Z87:D87:=(([]:List UInt8),([]:List UInt8),())
abbrev T90:Ty:=.st (.cons (.int .i64) (.cons .str (.cons (.int .i64) (.cons (.int .i64) (.cons T40 .nl)))))
abbrev D90:Type:=Int×(List UInt8)×Int×Int×D40×Unit
abbrev Z90:D90:=((0:Int),([]:List UInt8),(0:Int),(0:Int),Z40,())
abbrev T28:Ty:=.st (.cons (.int .i64) (.cons (.int .i64) (.cons (.int .i64) (.cons (.sl T49) (.cons (.int .i64) (.cons T24 (.cons (.sl T87) (.cons (.sl T90) .nl))))))))
abbrev D28:Type:=Int×Int×Int×(List D49)×Int×D24×(List D87)×(List D90)×Unit
abbrev Z28:D28:=((0:Int),(0:Int),(0:Int),([]:List D49),(0:Int),Z24,([]:List D87),([]:List D90),())
abbrev T52:Ty:=.st (.cons T49 (.cons (.int .i64) (.cons (.int .i64) .nl)))
abbrev D52:Type:=D49×Int×Int×Unit
abbrev T54:Ty:=.st (.cons (.int .i64) (.cons (.int .i64) (.cons (.int .i64) .nl)))
abbrev D54:Type:=Int×Int×Int×Unit
abbrev T192:Ty:=.st (.cons (.int .u8) (.cons (.int .i64) (.cons (.sl T128) .nl)))
abbrev D192:Type:=Int×Int×(List D128)×Unit
abbrev Z192:D192:=((0:Int),(0:Int),([]:List D128),())
abbrev T197:Ty:=.st (.cons (.int .u8) (.cons (.int .u8) (.cons (.int .i64) .nl)))
abbrev D197:Type:=Int×Int×Int×Unit
abbrev Z197:D197:=((0:Int),(0:Int),(0:Int),())
abbrev T163:Ty:=.st (.cons (.int .i64) (.cons (.int .i64) (.cons (.int .i64) (.cons (.sl T192) (.cons (.sl T197) .nl)))))
abbrev D163:Type:=Int×Int×Int×(List D192)×(List D197)×Unit
abbrev T179:Ty:=.st (.cons (.int .i64) (.cons (.int .i64) (.cons (.int .i64) (.cons (.sl (.sl T125)) (.cons (.int .i64) .nl)))))
abbrev T213:Ty:=.st (.cons T163 (.cons (.arr 256 (.int .i64)) .nl))
abbrev D213:Type:=D163×(List Int)×Unit
abbrev T205:Ty:=.st (.cons T125 (.cons T125 (.cons T125 (.cons T125 (.cons T125 .nl)))))
abbrev D205:Type:=D125×D125×D125×D125×D125×Unit
abbrev Z205:D205:=(Z125,Z125,Z125,Z125,Z125,())
abbrev T254:Ty:=.st (.cons (.int .u16) (.cons (.int .u16) (.cons (.int .u16) .nl)))
abbrev T257:Ty:=.st (.cons (.int .u32) (.cons (.int .u32) (.cons (.int .u32) .nl)))
abbrev T251:Ty:=.st (.cons (.sl T254) (.cons (.sl T257) (.cons (.int .i64) .nl)))
def G0:List Int:=[0,0,0,0,0,0,0,0,0,1,1,1,1,1,0,0,0,0,0,0,0,0,0,0,0,0,0,0,0,0,0,0,1,0,0,0,0,0,0,0,0,0,0,0,0,0,0,0,0,0,0,0,0,0,0,0,0,0,0,0,0,0,0,0,0,0,0,0,0,0,0,0,0,0,0,0,0,0,0,0,0,0,0,0,0,0,0,0,0,0,0,0,0,0,0,0,0,0,0,0,0,0,0,0,0,0,0,0,0,0,0,0,0,0,0,0,0,0,0,0,0,0,0,0,0,0,0,0,0,0,0,0,0,0,0,0,0,0,0,0,0,0,0,0,0,0,0,0,0,0,0,0,0,0,0,0,0,0,0,0,0,0,0,0,0,0,0,0,0,0,0,0,0,0,0,0,0,0,0,0,0,0,0,0,0,0,0,0,0,0,0,0,0,0,0,0,0,0,0,0,0,0,0,0,0,0,0,0,0,0,0,0,0,0,0,0,0,0,0,0,0,0,0,0,0,0,0,0,0,0,0,0,0,0,0,0,0,0,0,0,0,0,0,0,0,0,0,0,0,0,0,0,0,0,0,0]
def G5:List Int:=[0,1608,3216,4821,6424,8022,9616,11204,12785,14359,15924,17479,19024,20557,22078,23586,25080,26558,28020,29466,30893,32303,33692,35062,36410,37736,39040,40320,41576,42806,44011,45190,46341,47464,48559,49624,50660,51665,52639,53581,54491,55368,56212,57022,57798,58538,59244,59914,60547,61145,61705,62228,62714,63162,63572,63944,64277,64571,64827,65043,65220,65358,65457,65516,65536]
instance:GlobTab:=⟨⟨[(0,⟨(.arr 256 (.int .u8)),G0⟩),(5,⟨(.arr 65 (.int .i64)),G5⟩)]⟩⟩
set_option maxRecDepth 20000 in
def lit0:List UInt8:=[48,48,48,48,48,48,48,48,48,48,32,48,48,48,48,53,102,48,48,48,48,32,48,48,48,55,48,48,48,55,48,48,32,49,52,55,102,49,52,55,102,49,52,32,50,52,50,97,55,102,50,97,49,50,32,50,51,49,51,48,56,54,52,54,50,32,51,54,52,57,53,54,50,48,53,48,32,48,48,48,53,48,51,48,48,48,48,32,48,48,49,99,50,50,52,49,48,48,32,48,48,52,49,50,50,49,99,48,48,32,49,52,48,56,51,101,48,56,49,52,32,48,56,48,56,51,101,48,56,48,56,32,48,48,53,48,51,48,48,48,48,48,32,48,56,48,56,48,56,48,56,48,56,32,48,48,54,48,54,48,48,48,48,48,32,50,48,49,48,48,56,48,52,48,50,32,51,101,53,49,52,57,52,53,51,101,32,48,48,52,50,55,102,52,48,48,48,32,52,50,54,49,53,49,52,57,52,54,32,50,49,52,49,52,53,52,98,51,49,32,49,56,49,52,49,50,55,102,49,48,32,50,55,52,53,52,53,52,53,51,57,32,51,99,52,97,52,57,52,57,51,48,32,48,49,55,49,48,57,48,53,48,51,32,51,54,52,57,52,57,52,57,51,54,32,48,54,52,57,52,57,50,57,49,101,32,48,48,51,54,51,54,48,48,48,48,32,48,48,53,54,51,54,48,48,48,48,32,48,56,49,52,50,50,52,49,48,48,32,49,52,49,52,49,52,49,52,49,52,32,48,48,52,49,50,50,49,52,48,56,32,48,50,48,49,53,49,48,57,48,54,32,51,50,52,57,55,57,52,49,51,101,32,55,101,49,49,49,49,49,49,55,101,32,55,102,52,57,52,57,52,57,51,54,32,51,101,52,49,52,49,52,49,50,50,32,55,102,52,49,52,49,50,50,49,99,32,55,102,52,57,52,57,52,57,52,49,32,55,102,48,57,48,57,48,57,48,49,32,51,101,52,49,52,57,52,57,55,97,32,55,102,48,56,48,56,48,56,55,102,32,48,48,52,49,55,102,52,49,48,48,32,50,48,52,48,52,49,51,102,48,49,32,55,102,48,56,49,52,50,50,52,49,32,55,102,52,48,52,48,52,48,52,48,32,55,102,48,50,48,99,48,50,55,102,32,55,102,48,52,48,56,49,48,55,102,32,51,101,52,49,52,49,52,49,51,101,32,55,102,48,57,48,57,48,57,48,54,32,51,101,52,49,53,49,50,49,53,101,32,55,102,48,57,49,57,50,57,52,54,32,52,54,52,57,52,57,52,57,51,49,32,48,49,48,49,55,102,48,49,48,49,32,51,102,52,48,52,48,52,48,51,102,32,49,102,50,48,52,48,50,48,49,102,32,51,102,52,48,51,56,52,48,51,102,32,54,51,49,52,48,56,49,52,54,51,32,48,55,48,56,55,48,48,56,48,55,32,54,49,53,49,52,57,52,53,52,51,32,48,48,55,102,52,49,52,49,48,48,32,48,50,48,52,48,56,49,48,50,48,32,48,48,52,49,52,49,55,102,48,48,32,48,52,48,50,48,49,48,50,48,52,32,52,48,52,48,52,48,52,48,52,48,32,48,48,48,49,48,50,48,52,48,48,32,50,48,53,52,53,52,53,52,55,56,32,55,102,52,56,52,52,52,52,51,56,32,51,56,52,52,52,52,52,52,50,48,32,51,56,52,52,52,52,52,56,55,102,32,51,56,53,52,53,52,53,52,49,56,32,48,56,55,101,48,57,48,49,48,50,32,48,99,53,50,53,50,53,50,51,101,32,55,102,48,56,48,52,48,52,55,56,32,48,48,52,52,55,100,52,48,48,48,32,50,48,52,48,52,52,51,100,48,48,32,55,102,49,48,50,56,52,52,48,48,32,48,48,52,49,55,102,52,48,48,48,32,55,99,48,52,49,56,48,52,55,56,32,55,99,48,56,48,52,48,52,55,56,32,51,56,52,52,52,52,52,52,51,56,32,55,99,49,52,49,52,49,52,48,56,32,48,56,49,52,49,52,49,56,55,99,32,55,99,48,56,48,52,48,52,48,56,32,52,56,53,52,53,52,53,52,50,48,32,48,52,51,102,52,52,52,48,50,48,32,51,99,52,48,52,48,50,48,55,99,32,49,99,50,48,52,48,50,48,49,99,32,51,99,52,48,51,48,52,48,51,99,32,52,52,50,56,49,48,50,56,52,52,32,48,99,53,48,53,48,53,48,51,99,32,52,52,54,52,53,52,52,99,52,52,32,48,48,48,56,51,54,52,49,48,48,32,48,48,48,48,55,102,48,48,48,48,32,48,48,52,49,51,54,48,56,48,48,32,49,48,48,56,48,56,49,48,48,56]
theorem pJ2:xG1 Tryz.prog 185 zZ0:=xQ7 Tryz.func185 (by kernel_rfl) (by kernel_rfl) (by kernel_rfl) (by kernel_rfl)
theorem pJ3:xG1 Tryz.prog 189 yX5:=xW4 Tryz.func189 (by kernel_rfl) (by kernel_rfl) (by kernel_rfl) (by kernel_rfl)
def tys:List (Nat×Ty):=[(3,(.int .i64)),(4,.bool),(5,(.int .u8)),(9,.str),(21,(.int .i32)),(22,(.sl T49)),(23,(.sl (.int .i64))),(25,T24),(26,(.sl T87)),(27,(.sl T90)),(29,T28),(31,(.int .i64)),(38,T37),(39,(.sl T42)),(41,T40),(43,T42),(44,(.sl T122)),(45,(.sl T128)),(46,(.sl T125)),(48,T47),(50,T49),(53,T52),(55,T54),(88,T87),(91,T90),(102,(.sl .bool)),(123,T122),(126,T125),(127,(.arr 3 T125)),(129,T128),(153,(.sl (.sl T125))),(161,(.sl T192)),(162,(.sl T197)),(164,T163),(168,(.sl T125)),(171,T125),(178,(.ptr T179)),(180,T179),(183,(.ptr T213)),(185,(.sl .str)),(187,(.sl T125)),(191,T125),(193,T192),(198,T197),(203,(.sl T205)),(206,T205),(212,(.arr 256 (.int .i64))),(214,T213),(220,(.arr 256 (.int .u8))),(232,(.sl T125)),(234,T125),(235,(.int .u32)),(237,(.ptr T251)),(239,(.int .u64)),(266,(.arr 65 (.int .i64)))]
theorem sE3:zL4 Tryz.prog tys=true:=by kernel_rfl
def maps:List (Nat×(Ty×Ty)):=[(72,((.int .i64),.bool)),(82,((.int .i64),(.int .i64)))]
def fts:List Nat:=[103]
theorem mixed:Tryz.prog.follows .mixedOrders=true:=by kernel_rfl
theorem cq {c:Ctx}(hs:xK3 Tryz.prog c.fns)(hmp:(zY1 Tryz.prog c.maps&&yN1 Tryz.prog c.fts)=true:=by kernel_rfl)(he:c.exts=[]:=by rfl)(ht:zL4 Tryz.prog c.tys=true:=by exact sE3)(hn:Nat.ble c.n zA9=true:=by kernel_rfl)(hcl:c.clones=[]:=by rfl):CtxOk Tryz.prog c:=xW3 ht hmp hs he hn hcl
theorem fq {c:Ctx}{f:Nat}{fn:Func}{ps:List (Nat×Sh)}{rs:Sh}{os:List (Nat×Sh)}{ok:zB7 ps→Prop}{F:zB7 ps→rs.den}{o:zB7 ps→yA os}(hf:Tryz.prog.funcs[f]?=some fn)(hs:xK3 Tryz.prog c.fns)(hmp:(zY1 Tryz.prog c.maps&&yN1 Tryz.prog c.fts)=true:=by kernel_rfl)(he:c.exts=[]:=by rfl)(ht:zL4 Tryz.prog c.tys=true:=by exact sE3)(hn:Nat.ble c.n zA9=true:=by kernel_rfl)(hcl:c.clones=[]:=by rfl)(hk:xV2 fn c ps os=true:=by kernel_rfl)(hbs:zF6 (fn.body.getD .skip)=[]:=by kernel_rfl)(hsum:∀ x,xC4 c (fn.body.getD .skip) fn.results.toList ps rs os x=some (ok x,F x,o x):=by intro x;kernel_rfl):SpecOk Tryz.prog f (fnSpec ps rs os ok F o):=xY (xW3 ht hmp hs he hn hcl) mixed hf hk hbs trivial hsum
theorem fl {c:Ctx}{f:Nat}{fn:Func}{ps:List (Nat×Sh)}{rs:Sh}{os:List (Nat×Sh)}{ok:zB7 ps→Prop}{F:zB7 ps→rs.den}{o:zB7 ps→yA os}(hc:CtxOk Tryz.prog c)(hf:Tryz.prog.funcs[f]?=some fn){bs:List Code}(hL:zS8 Tryz.prog c bs)(hk:xV2 fn c ps os=true:=by kernel_rfl)(hbs:zF6 (fn.body.getD .skip)=bs:=by kernel_rfl)(hsum:∀ x,xC4 c (fn.body.getD .skip) fn.results.toList ps rs os x=some (ok x,F x,o x):=by intro x;kernel_rfl):SpecOk Tryz.prog f (fnSpec ps rs os ok F o):=xY hc mixed hf hk hbs hL hsum
theorem lq {c:Ctx}{body:Code}{sp:St→Option Out}{ly lx:List (Nat×Sh)}{g:zB7 ly→zB7 lx→Bool}{next:zB7 ly→zB7 lx→zB7 lx}{ok:zB7 ly→zB7 lx→Prop}{es:zB7 ly→zB7 lx→List Comp}(hc:CtxOk Tryz.prog c)(hs:sp=xP4 ly lx g next ok es)(les:List (List (Nat×Sh)))(hb:zF6 body=[]:=by kernel_rfl)(hw:zE3 c.keep body=true:=by kernel_rfl)(hl:Go.Am.look (fun _=>none) c.loops (zE4 body)=sp:=by kernel_rfl)(hsum:∀ y x,yL6 c body ly lx les y x=some (ok y x,g y x,y,next y x,es y x):=by intro y x;kernel_rfl):yU8 Tryz.prog c body:=xX9 hc mixed hs les hb trivial hw hl hsum
def pJ4 (p0:List UInt8)(p1:Int):Prop×Int:=
 (True,(Lib.indexByte p0 (Int.toNat p1).toUInt8))
def tW3 p0 p1:=(pJ4 p0 p1).1
def f173 p0 p1:=(pJ4 p0 p1).2
instance (p0:List UInt8)(p1:Int):Decidable (tW3 p0 p1):=by
 unfold tW3 pJ4
 try dsimp only
 infer_instance
def sE4:Am.Spec:=fnSpec [(0,vS),(1,(.val (.int .u8)))] vI [] (fun x=>tW3 x.1 x.2.1) (fun x=>f173 x.1 x.2.1) (fun _=>())
def qO4:Ctx:={ Cx tys [] [] [] false 8 [] [] with exts:=[(185,zZ0)] }
theorem qO5:CtxOk Tryz.prog qO4:=xV sE3 rfl trivial ⟨pJ2,trivial⟩ (by kernel_rfl)
theorem pJ5:SpecOk Tryz.prog 173 sE4:=fl qO5 Tryz.func173 (bs:=[]) trivial
def f192 (p0 p1:List UInt8):Int:=Lib.indexByte p0 (p1.headD 0)
def tW4 (_p0 p1:List UInt8):Prop:=List.length p1=1
instance (p0 p1:List UInt8):Decidable (tW4 p0 p1):=by
  unfold tW4
  infer_instance
def pJ6:List (Nat×Sh):=[(0,(.val .str)),(1,(.val .str))]
def pJ7:Sh:=(.val (.int .i64))
def pJ8:List (Nat×Sh):=[]
def sE5:Am.Spec:=fnSpec pJ6 pJ7 pJ8 (fun x=>tW4 x.1 x.2.1) (fun x=>f192 x.1 x.2.1) (fun _=>())
theorem pJ9:SpecOk Tryz.prog 192 sE5:=xV6 (F:=f192) ⟨_,Tryz.func192,by kernel_rfl,by decide⟩ (fun s c w=>Tryz.strings_Index_one s c w)
def f193 (_p0:List UInt8)(_p1:Int):(List (List UInt8)):=([]:List (List UInt8))
def tW5 (_p0:List UInt8)(_p1:Int):Prop:=False
instance (_p0:List UInt8)(_p1:Int):Decidable (tW5 _p0 _p1):=by
  unfold tW5
  infer_instance
def pK:List (Nat×Sh):=[(0,vS),(1,vI)]
def pK0:Sh:=(.val (.sl .str))
def pK1:List (Nat×Sh):=[]
def sE6:Am.Spec:=fnSpec pK pK0 pK1 (fun x=>tW5 x.1 x.2.1) (fun x=>f193 x.1 x.2.1) (fun _=>())
theorem pK2:SpecOk Tryz.prog 193 sE6:=xT6 Tryz.func193 (by kernel_rfl) (by decide)
def f194 (p0 p1:List UInt8):Int:=((Lib.countByte p0 (p1.headD 0):Nat):Int)
def tW6 (_p0 p1:List UInt8):Prop:=List.length p1=1
instance (p0 p1:List UInt8):Decidable (tW6 p0 p1):=by
  unfold tW6
  infer_instance
def pK3:List (Nat×Sh):=[(0,(.val .str)),(1,(.val .str))]
def pK4:Sh:=(.val (.int .i64))
def pK5:List (Nat×Sh):=[]
def sE7:Am.Spec:=fnSpec pK3 pK4 pK5 (fun x=>tW6 x.1 x.2.1) (fun x=>f194 x.1 x.2.1) (fun _=>())
theorem pK6:SpecOk Tryz.prog 194 sE7:=xV6 (F:=f194) ⟨_,Tryz.func194,by kernel_rfl,by decide⟩ (fun s c w=>Tryz.strings_Count_one s c w)
abbrev wM7:Type:=((List UInt8)×Int×Int×Unit)
abbrev wF8:Type:=((List UInt8)×(List (List UInt8))×Int×Unit)
def wZ0 (y:wM7)(x:wF8):Prop×Bool×wF8:=
 let a1:=y.1
 let a2:=y.2.1
 let a0:=x.1
 let a9:=x.2.1
 let a10:=x.2.2.1
 let v36:=(decide (a10<y.2.2.1))
 let v39:=(f192 a0 a1)
 let v41:=(decide (v39<0))
 let v47:=(v39+a2)
 let v53:=(len a1)
 let v54:=(v39+v53)
 ((v36=true→((tW4 a0 a1)∧((!v41)=true→(InR (v39+a2)∧((0≤v47∧v47≤len a0)∧(InB a10 (len a9)∧(a10<len a9∧(InR (v39+v53)∧((0≤v54∧v54≤len a0)∧InR (a10+1)))))))))),(v36&&(!v41)),((List.drop (Int.toNat v54) a0),(List.set a9 (Int.toNat a10) (List.take (Int.toNat v47) a0)),(a10+1),()))
def wZ1 y x:=(wZ0 y x).1
def wE1 y x:=(wZ0 y x).2.1
def wA4 y x:=(wZ0 y x).2.2
instance (y:wM7)(x:wF8):Decidable (wZ1 y x):=by
 unfold wZ1 wZ0
 try dsimp only
 infer_instance
def wV2 (y:wM7)(x:wF8):(List UInt8):=
 x.1
def wV3 (y:wM7)(x:wF8):(List (List UInt8)):=
 x.2.1
def wV4 (y:wM7)(x:wF8):Int:=
 x.2.2.1
def uY1:List (Nat×Sh):=[(0,vS),(9,(.own .str 1009 true)),(10,vI)]
def uB1:St→Option Out:=xP4 [(1,vS),(2,vI),(3,vI)] [(0,vS),(9,(.own .str 1009 true)),(10,vI)] wE1 wA4 wZ1 fun y x=>[ex 2 none uY1 ((wV2 y x),(wV3 y x),(wV4 y x),())]
def rT5 (p0:List UInt8)(p1:List UInt8)(p2:Int)(p3:Int):Prop×(List (List UInt8)):=
 let v13:=(p3==0)
 let v15:=(p1==([]:List UInt8))
 let v20:=(decide (p3<0))
 let v23:=(f194 p0 p1)
 let v27:=(len p0)
 let v29:=(xW9 (bif v20 then (v23+1) else p3) (v27+1))
 let y11:=(p1,p2,(v29-1),())
 let x11:=(p0,(List.replicate (Int.toNat v29) ([]:List UInt8)),(0:Int),())
 let e11:=(zC3 (wE1 y11) (wA4 y11) x11)
 let r11_2_1:=(wV3 y11 e11)
 let r11_2_2:=(wV4 y11 e11)
 let l1009:=(List.set r11_2_1 (Int.toNat r11_2_2) (wV2 y11 e11))
 let v64:=(r11_2_2+1)
 (((!v13)=true→((v15=true→(tW5 p0 p3))∧((!v15)=true→((v20=true→((tW6 p0 p1)∧InR (v23+1)))∧(InR (v27+1)∧((0≤v29∧v29≤v29∧v29≤4294967296)∧(InR (v29-1)∧((Am.Ends (wE1 y11) (wA4 y11) (wZ1 y11) x11)∧(InB r11_2_2 (len r11_2_1)∧(r11_2_2<len r11_2_1∧(InR (r11_2_2+1)∧(0≤v64∧v64≤len l1009)))))))))))),(bif v13 then [] else (bif v15 then (f193 p0 p3) else (List.take (Int.toNat v64) l1009))))
def uY2 p0 p1 p2 p3:=(rT5 p0 p1 p2 p3).1
def f183 p0 p1 p2 p3:=(rT5 p0 p1 p2 p3).2
instance (p0:List UInt8)(p1:List UInt8)(p2:Int)(p3:Int):Decidable (uY2 p0 p1 p2 p3):=by
 unfold uY2 rT5
 try dsimp only
 infer_instance
def sE8:Am.Spec:=fnSpec [(0,vS),(1,vS),(2,vI),(3,vI)] (.val (.sl .str)) [] (fun x=>uY2 x.1 x.2.1 x.2.2.1 x.2.2.2.1) (fun x=>f183 x.1 x.2.1 x.2.2.1 x.2.2.2.1) (fun _=>())
def rA8:Ctx:=Cx tys [(192,sE5),(193,sE6),(194,sE7)] [(11,uB1)] [(17,[(4,0,31,1009)]),(36,[(1,9,0,0)])] false 66 [] [31]
theorem rA9:CtxOk Tryz.prog rA8:=cq ⟨pJ9,pK2,pK6,trivial⟩
noncomputable def rT6:Code:=Tryz.f183.body.getD .skip
noncomputable def rB:Code:=xX1 rT6 0
theorem sQ4:yU8 Tryz.prog rA8 rB:=lq rA9 (sp:=uB1) rfl [uY1]
theorem pK7:SpecOk Tryz.prog 183 sE8:=fl rA9 Tryz.func183 (bs:=[rB]) ⟨sQ4,trivial⟩
def rT7 (p0:List UInt8)(p1:List UInt8):Prop×(List (List UInt8)):=
 ((uY2 p0 p1 (0:Int) (-1:Int)),(f183 p0 p1 (0:Int) (-1:Int)))
def vY7 p0 p1:=(rT7 p0 p1).1
def f168 p0 p1:=(rT7 p0 p1).2
instance (p0:List UInt8)(p1:List UInt8):Decidable (vY7 p0 p1):=by
 unfold vY7 rT7
 try dsimp only
 infer_instance
def sE9:Am.Spec:=fnSpec [(0,vS),(1,vS)] (.val (.sl .str)) [] (fun x=>vY7 x.1 x.2.1) (fun x=>f168 x.1 x.2.1) (fun _=>())
def qO6:Ctx:=Cx tys [(183,sE8)] [] [] false 8 [] []
theorem pK8:SpecOk Tryz.prog 168 sE9:=fq (c:=qO6) Tryz.func168 ⟨pK7,trivial⟩
def pK9 (p0:Int)(p1:Int):Prop×Int:=
 let v7:=(p1==0)
 let v13:=(bif (p0==(-9223372036854775808)) then (p1==(-1)) else false)
 let v16:=(IntKind.wrap .i64 (Int.tdiv p0 p1))
 let m4_1:=(bif v7 then (0:Int) else (bif v13 then (9223372036854775807:Int) else (bif (bif ((Int.tmod p0 p1)!=0) then (!(Ty.eqb .bool (decide (p0<0)) (decide (p1<0)))) else false) then (IntKind.wrap .i64 (v16-1)) else v16)))
 (((!v7)=true→((!v13)=true→(p1≠0∧p1≠0))),m4_1)
def vY8 p0 p1:=(pK9 p0 p1).1
def f122 p0 p1:=(pK9 p0 p1).2
instance (p0:Int)(p1:Int):Decidable (vY8 p0 p1):=by
 unfold vY8 pK9
 try dsimp only
 infer_instance
def uY3:Am.Spec:=fnSpec [(0,vI),(1,vI)] vI [] (fun x=>vY8 x.1 x.2.1) (fun x=>f122 x.1 x.2.1) (fun _=>())
def qO7:Ctx:=Cx tys [] [] [] true 31 [] []
theorem rT8:SpecOk Tryz.prog 122 uY3:=fq (c:=qO7) Tryz.func122 trivial
def pL (p0:Int)(p1:Int):Prop×Int:=
 let v8:=(p1==0)
 let v14:=(bif (p0==(-9223372036854775808)) then (p1==(-1)) else false)
 let v17:=(f122 p0 p1)
 let v22:=(IntKind.wrap .i64 (p0-(IntKind.wrap .i64 (p1*v17))))
 let m5:=(bif (bif (bif (decide (p1>0)) then (decide (v22≥(IntKind.wrap .i64 (p1-v22)))) else false) then true else (bif (decide (p1<0)) then (decide (v22≤(IntKind.wrap .i64 (p1-v22)))) else false)) then (IntKind.wrap .i64 (v17+1)) else v17)
 (((!v8)=true→((!v14)=true→(vY8 p0 p1))),(bif v8 then (0:Int) else (bif v14 then (9223372036854775807:Int) else m5)))
def wB p0 p1:=(pL p0 p1).1
def f108 p0 p1:=(pL p0 p1).2
instance (p0:Int)(p1:Int):Decidable (wB p0 p1):=by
 unfold wB pL
 try dsimp only
 infer_instance
def wF7:Am.Spec:=fnSpec [(0,vI),(1,vI)] vI [] (fun x=>wB x.1 x.2.1) (fun x=>f108 x.1 x.2.1) (fun _=>())
def qO8:Ctx:=Cx tys [(122,uY3)] [] [] true 46 [] []
theorem wZ2:SpecOk Tryz.prog 108 wF7:=fq (c:=qO8) Tryz.func108 ⟨rT8,trivial⟩
abbrev wR7:Type:=(Int×Int×(List D197)×Int×Unit)
abbrev wJ9:Type:=(Int×Unit)
def vS8 (y:wR7)(x:wJ9):Prop×Bool×wJ9×Bool×Bool:=
 let a33:=y.2.2.1
 let a35:=x.1
 let v36:=(decide (a35<y.2.2.2.1))
 let v37:=(nth a33 a35 Z197)
 let v48:=(bif (v37.1==y.1) then (v37.2.1==y.2.1) else false)
 ((v36=true→InB a35 (len a33)),(v36&&(!v48)),((IntKind.wrap .i64 (a35+1)),()),(v36&&v48),(!v36))
def vE6 y x:=(vS8 y x).1
def uB2 y x:=(vS8 y x).2.1
def vB6 y x:=(vS8 y x).2.2.1
def tP6 y x:=(vS8 y x).2.2.2.1
def rN4 y x:=(vS8 y x).2.2.2.2
instance (y:wR7)(x:wJ9):Decidable (vE6 y x):=by
 unfold vE6 vS8
 try dsimp only
 infer_instance
def uN4 (y:wR7)(x:wJ9):Int:=
 (nth y.2.2.1 x.1 Z197).2.2.1
def uN5:St→Option Out:=xP4 [(7,(.val (.int .u8))),(8,(.val (.int .u8))),(33,(.val (.sl T197))),(34,vI)] [(35,vI)] uB2 vB6 vE6 fun y x=>[ex 1 (some (tP6 y x)) [(6,vI)] ((uN4 y x),()),ex 2 (some (rN4 y x)) [] ()]
def pL0 (p0:D213)(p1:Int)(p2:Int):Prop×Int:=
 let y3:=((nth p0.1.2.2.2.1 p1 Z192).1,(nth p0.1.2.2.2.1 p2 Z192).1,p0.1.2.2.2.2.1,(len p0.1.2.2.2.2.1),())
 let x3:=((0:Int),())
 let e3:=(zC3 (uB2 y3) (vB6 y3) x3)
 ((InB p1 (len p0.1.2.2.2.1)∧(InB p2 (len p0.1.2.2.2.1)∧(Am.Ends (uB2 y3) (vB6 y3) (vE6 y3) x3))),(bif (tP6 y3 e3) then (uN4 y3 e3) else (0:Int)))
def uY4 p0 p1 p2:=(pL0 p0 p1 p2).1
def f170 p0 p1 p2:=(pL0 p0 p1 p2).2
instance (p0:D213)(p1:Int)(p2:Int):Decidable (uY4 p0 p1 p2):=by
 unfold uY4 pL0
 try dsimp only
 infer_instance
def sF:Am.Spec:=fnSpec [(0,(.val (.ptr T213))),(1,vI),(2,vI)] vI [] (fun x=>uY4 x.1 x.2.1 x.2.2.1) (fun x=>f170 x.1 x.2.1 x.2.2.1) (fun _=>())
def rB0:Ctx:=Cx tys [] [(3,uN5)] [] true 52 [] []
theorem rB1:CtxOk Tryz.prog rB0:=cq trivial
noncomputable def rT9:Code:=Tryz.f170.body.getD .skip
noncomputable def rU:Code:=xX1 rT9 0
theorem rN5:yU8 Tryz.prog rB0 rU:=lq rB1 (sp:=uN5) rfl [[(6,vI)],[]]
theorem pL1:SpecOk Tryz.prog 170 sF:=fl rB1 Tryz.func170 (bs:=[rU]) ⟨rN5,trivial⟩
abbrev wZ3:Type:=(D213×(List UInt8)×Int×Unit)
abbrev wK:Type:=((List D125)×Int×Int×Unit)
def uV3 (y:wZ3)(x:wK):Prop×Bool×wK:=
 let a0:=y.1
 let a1:=y.2.1
 let a6:=x.1
 let a7:=x.2.1
 let a12:=x.2.2.1
 let v13:=(decide (a12<y.2.2.1))
 let v18:=(xX4 a1 a12)
 let v21:=(nth a0.2.1 v18 (0:Int))
 let v24:=(decide (v21<0))
 let v27:=(decide ((len a6)>0))
 let v33:=(IntKind.wrap .i64 ((len a6)-1))
 let v34:=(nth a6 v33 Z125)
 let m7:=(bif v27 then (IntKind.wrap .i64 (a7+(f170 a0 v34.1 v21))) else a7)
 let v44:=([(v21,m7,())]:List D125)
 ((v13=true→(InB a12 (len a1)∧(InB v18 256∧((!v24)=true→((v27=true→(InB v33 (len a6)∧(uY4 a0 v34.1 v21)))∧(((List.length a6+List.length v44:Nat):Int)≤4294967296∧InB v21 (len a0.1.2.2.2.1))))))),(v13&&(v24||(!v24))),((bif v24 then a6 else (a6++v44)),(bif v24 then a7 else (IntKind.wrap .i64 (m7+(nth a0.1.2.2.2.1 v21 Z192).2.1))),(IntKind.wrap .i64 (a12+1)),()))
def wX3 y x:=(uV3 y x).1
def vE7 y x:=(uV3 y x).2.1
def wM8 y x:=(uV3 y x).2.2
instance (y:wZ3)(x:wK):Decidable (wX3 y x):=by
 unfold wX3 uV3
 try dsimp only
 infer_instance
def uN6 (y:wZ3)(x:wK):(List D125):=
 x.1
def uN7 (y:wZ3)(x:wK):Int:=
 x.2.1
def tP7:List (Nat×Sh):=[(6,(.own T125 1006 false)),(7,vI)]
def uN8:St→Option Out:=xP4 [(0,(.val (.ptr T213))),(1,vS),(11,vI)] [(6,(.own T125 1006 false)),(7,vI),(12,vI)] vE7 wM8 wX3 fun y x=>[ex 2 none tP7 ((uN6 y x),(uN7 y x),())]
def pL2 (p0:D213)(p1:List UInt8):Prop×((List D125)×Int×Unit):=
 let y4:=(p0,p1,(len p1),())
 let x4:=(([]:List D125),(0:Int),(0:Int),())
 let e4:=(zC3 (vE7 y4) (wM8 y4) x4)
 ((Am.Ends (vE7 y4) (wM8 y4) (wX3 y4) x4),((uN6 y4 e4),(uN7 y4 e4),()))
def vN2 p0 p1:=(pL2 p0 p1).1
def f150 p0 p1:=(pL2 p0 p1).2
instance (p0:D213)(p1:List UInt8):Decidable (vN2 p0 p1):=by
 unfold vN2 pL2
 try dsimp only
 infer_instance
def uY5:Am.Spec:=fnSpec [(0,(.val (.ptr T213))),(1,vS)] (.tup (.cons (.own T125 0 false) (.cons vI .nl))) [] (fun x=>vN2 x.1 x.2.1) (fun x=>f150 x.1 x.2.1) (fun _=>())
def rB2:Ctx:=Cx tys [(170,sF)] [(4,uN8)] [(21,[(4,0,45,1006)]),(27,[(4,0,1006,0)])] true 60 [] []
theorem rB3:CtxOk Tryz.prog rB2:=cq ⟨pL1,trivial⟩
noncomputable def rU0:Code:=Tryz.f150.body.getD .skip
noncomputable def rU1:Code:=xX1 rU0 0
theorem rN6:yU8 Tryz.prog rB2 rU1:=lq rB3 (sp:=uN8) rfl [tP7]
theorem rU2:SpecOk Tryz.prog 150 uY5:=fl rB3 Tryz.func150 (bs:=[rU1]) ⟨rN6,trivial⟩
def pL3 (p0:D213)(p1:List UInt8)(p2:Int):Prop×Int:=
 let v17:=(IntKind.wrap .i64 (p2*(f150 p0 p1).2.1))
 (((vN2 p0 p1)∧(wB v17 p0.1.1)),(f108 v17 p0.1.1))
def uY6 p0 p1 p2:=(pL3 p0 p1 p2).1
def f169 p0 p1 p2:=(pL3 p0 p1 p2).2
instance (p0:D213)(p1:List UInt8)(p2:Int):Decidable (uY6 p0 p1 p2):=by
 unfold uY6 pL3
 try dsimp only
 infer_instance
def sF0:Am.Spec:=fnSpec [(0,(.val (.ptr T213))),(1,vS),(2,vI)] vI [] (fun x=>uY6 x.1 x.2.1 x.2.2.1) (fun x=>f169 x.1 x.2.1 x.2.2.1) (fun _=>())
def qO9:Ctx:=Cx tys [(108,wF7),(150,uY5)] [] [(3,[(4,0,12,1007)])] true 24 [] []
theorem pL4:SpecOk Tryz.prog 169 sF0:=fq (c:=qO9) Tryz.func169 ⟨wZ2,rU2,trivial⟩
abbrev wP3:Type:=(D213×Int×Int×(List (List UInt8))×Int×Unit)
abbrev wF9:Type:=((List (List UInt8))×(List UInt8)×Int×Unit)
def uB3 (y:wP3)(x:wF9):Prop×Bool×wF9:=
 let a4:=y.1
 let a6:=y.2.1
 let a7:=y.2.2.1
 let a25:=y.2.2.2.1
 let a9:=x.1
 let a12:=x.2.1
 let a27:=x.2.2.1
 let v28:=(decide (a27<y.2.2.2.2.1))
 let v29:=(nth a25 a27 ([]:List UInt8))
 let v32:=(a12++([32]:List UInt8))
 let v34:=(v32++v29)
 let v36:=(a7==0)
 let v44:=(bif v36 then true else (decide ((f169 a4 v34 a6)≤a7)))
 let v48:=([a12]:List (List UInt8))
 ((v28=true→(InB a27 (len a25)∧(((List.length a12+List.length ([32]:List UInt8):Nat):Int)≤9223372036854775807∧(((List.length v32+List.length v29:Nat):Int)≤9223372036854775807∧(((!v36)=true→(uY6 a4 v34 a6))∧((v44=false→((List.length a9+List.length v48:Nat):Int)≤4294967296)∧InR (a27+1))))))),v28,((bif v44 then a9 else (a9++v48)),(bif v44 then v34 else v29),(a27+1),()))
def wP4 y x:=(uB3 y x).1
def wP5 y x:=(uB3 y x).2.1
def wF3 y x:=(uB3 y x).2.2
instance (y:wP3)(x:wF9):Decidable (wP4 y x):=by
 unfold wP4 uB3
 try dsimp only
 infer_instance
def vI8 (y:wP3)(x:wF9):(List (List UInt8)):=
 x.1
def vI9 (y:wP3)(x:wF9):(List UInt8):=
 x.2.1
def uY7:List (Nat×Sh):=[(4,(.box (.ptr T213) (.val (.ptr T213)))),(6,(.box (.int .i64) vI)),(7,(.box (.int .i64) vI)),(9,(.box (.sl .str) (.own .str 400900 false))),(12,vS)]
def uB4:St→Option Out:=xP4 [(4,(.box (.ptr T213) (.val (.ptr T213)))),(6,(.box (.int .i64) vI)),(7,(.box (.int .i64) vI)),(25,(.val (.sl .str))),(26,vI)] [(9,(.box (.sl .str) (.own .str 400900 false))),(12,vS),(27,vI)] wP5 wF3 wP4 fun y x=>[ex 4 none uY7 (y.1,y.2.1,y.2.2.1,(vI8 y x),(vI9 y x),())]
def rB4 (p0:D213)(p1:Int)(p2:Int)(p3:(List (List UInt8)))(p4:List UInt8):Prop×(Unit)×(D213×Int×Int×(List (List UInt8))×Unit):=
 let v20:=(f168 p4 ([32]:List UInt8))
 let v25:=(List.drop (Int.toNat (1:Int)) v20)
 let y7:=(p0,p1,p2,v25,(len v25),())
 let x7:=(p3,(nth v20 (0:Int) ([]:List UInt8)),(0:Int),())
 let e7:=(zC3 (wP5 y7) (wF3 y7) x7)
 let r7_4_0:=(vI8 y7 e7)
 let v54:=([(vI9 y7 e7)]:List (List UInt8))
 (((vY7 p4 ([32]:List UInt8))∧(InB (0:Int) (len v20)∧((0≤(1:Int)∧(1:Int)≤len v20)∧((Am.Ends (wP5 y7) (wF3 y7) (wP4 y7) x7)∧((List.length r7_4_0+List.length v54:Nat):Int)≤4294967296)))),(),(p0,p1,p2,(r7_4_0++v54),()))
def wV5 p0 p1 p2 p3 p4:=(rB4 p0 p1 p2 p3 p4).1
def vJ p0 p1 p2 p3 p4:=(rB4 p0 p1 p2 p3 p4).2.2
instance (p0:D213)(p1:Int)(p2:Int)(p3:(List (List UInt8)))(p4:List UInt8):Decidable (wV5 p0 p1 p2 p3 p4):=by
 unfold wV5 rB4
 try dsimp only
 infer_instance
def vS9:List (Nat×Sh):=[(4,(.box (.ptr T213) (.val (.ptr T213)))),(6,(.box (.int .i64) vI)),(7,(.box (.int .i64) vI)),(9,(.box (.sl .str) (.own .str 400900 false))),(10,vS)]
def rB5:Sh:=(.tup .nl)
def vJ0:List (Nat×Sh):=[(4,(.box (.ptr T213) (.val (.ptr T213)))),(6,(.box (.int .i64) vI)),(7,(.box (.int .i64) vI)),(9,(.box (.sl .str) (.own .str 400900 false)))]
def vN3:Ctx:=Cx tys [(168,sE9),(169,sF0)] [(7,uB4)] [(25,[(4,0,49,400900)]),(31,[(4,0,55,400900)])] false 57 [4,6,7,9] []
theorem sF1:CtxOk Tryz.prog vN3:=cq ⟨pK8,pL4,trivial⟩
noncomputable def wI8:Code:=(xL4 (Tryz.f149.body.getD .skip)).getD .skip
noncomputable def rB6:Code:=xX1 wI8 0
theorem sQ5:yU8 Tryz.prog vN3 rB6:=xX9 sF1 mixed (sp:=uB4) rfl [uY7] (bs:=[]) (by kernel_rfl) trivial (by kernel_rfl) (by kernel_rfl) fun y x=>by kernel_rfl
theorem qP:∀ x,xQ8 vN3 wI8 (zC2 vS9 x)=true:=fun x=>by kernel_rfl
theorem rU3:∀ x,xC4 vN3 wI8 [] vS9 rB5 vJ0 x=some (wV5 x.1 x.2.1 x.2.2.1 x.2.2.2.1 x.2.2.2.2.1,(),vJ x.1 x.2.1 x.2.2.1 x.2.2.2.1 x.2.2.2.2.1):=fun x=>by kernel_rfl
theorem qP0:xS8 Tryz.prog vN3 wI8 vS9 vJ0 (fun x=>wV5 x.1 x.2.1 x.2.2.1 x.2.2.2.1 x.2.2.2.2.1) (fun x=>vJ x.1 x.2.1 x.2.2.1 x.2.2.2.1 x.2.2.2.2.1):=xV8 (rs:=rB5) (F:=fun _=>()) sF1 mixed (bs:=[rB6]) (by kernel_rfl) ⟨sQ5,trivial⟩ (by kernel_rfl) qP rU3
end Go.Proofs.YtpanghcojpnkaaaGreatDoor.Am
