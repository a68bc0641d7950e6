/- Printed by program: the functions that the statements reach, as plain functions, and their contracts. No condition. -/
import Derived.Test.YtgjkpohjjmkkgaaGreatDoorMach4
import Derived.Test.YtgjkpohjjmkkgaaGreatDoorAllI
import Derived.Test.YtgjkpohjjmkkgaaGreatDoorAllH
import Derived.Test.YtgjkpohjjmkkgaaGreatDoorProg
set_option linter.unusedVariables false
set_option synthInstance.maxSize 4000
set_option synthInstance.maxHeartbeats 400000
namespace Go.Proofs.YtgjkpohjjmkkgaaGreatDoor.Am
open Go Go.Am Go.Proofs
abbrev T23:Ty:=.st (.cons (.int .i64) (.cons (.int .i64) (.cons (.sl (.int .i64)) .nl)))
abbrev D23:Type:=Int×Int×(List Int)×Unit
abbrev T25:Ty:=.st (.cons (.int .i64) (.cons (.int .i64) (.cons (.int .i64) (.cons (.int .i64) (.cons (.int .i64) (.cons (.int .i64) .nl))))))
abbrev D25:Type:=Int×Int×Int×Int×Int×Int×Unit
abbrev Z25:D25:=((0:Int),(0:Int),(0:Int),(0:Int),(0:Int),(0:Int),())
abbrev T30:Ty:=.st (.cons (.int .i64) (.cons (.int .i64) (.cons (.int .i64) (.cons (.int .i64) .nl))))
abbrev D30:Type:=Int×Int×Int×Int×Unit
abbrev Z30:D30:=((0:Int),(0:Int),(0:Int),(0:Int),())
abbrev T28:Ty:=.st (.cons (.int .i64) (.cons (.int .i64) (.cons (.sl T30) .nl)))
abbrev D28:Type:=Int×Int×(List D30)×Unit
abbrev T69:Ty:=.st (.cons (.int .i64) (.cons T30 .nl))
abbrev D69:Type:=Int×D30×Unit
abbrev Z69:D69:=((0:Int),Z30,())
abbrev T71:Ty:=.st (.cons (.int .i64) (.cons (.int .i64) .nl))
abbrev D71:Type:=Int×Int×Unit
abbrev Z71:D71:=((0:Int),(0:Int),())
abbrev T74:Ty:=.st (.cons (.int .i64) (.cons (.arr 3 T71) .nl))
abbrev D74:Type:=Int×(List D71)×Unit
abbrev Z74:D74:=((0:Int),(List.replicate 3 Z71),())
abbrev T35:Ty:=.st (.cons (.int .i64) (.cons (.int .i64) (.cons (.int .i64) (.cons (.sl T71) .nl))))
abbrev D35:Type:=Int×Int×Int×(List D71)×Unit
abbrev T37:Ty:=.st (.cons (.int .i64) (.cons (.int .i64) (.cons (.int .i64) (.cons .str (.cons .bool (.cons .bool (.cons .bool (.cons (.int .i64) (.cons (.int .i64) (.cons T23 (.cons T25 (.cons (.int .i64) (.cons T28 (.cons T30 (.cons (.int .i64) (.cons (.sl (.int .i64)) (.cons (.int .i64) (.cons (.sl T69) (.cons (.sl T74) (.cons (.int .i64) (.cons (.int .i64) (.cons (.int .i64) (.cons (.int .i64) (.cons .str (.cons (.int .i64) (.cons (.int .i64) (.cons (.int .i64) (.cons T35 .nl))))))))))))))))))))))))))))
abbrev D37:Type:=Int×Int×Int×(List UInt8)×Bool×Bool×Bool×Int×Int×D23×D25×Int×D28×D30×Int×(List Int)×Int×(List D69)×(List D74)×Int×Int×Int×Int×(List UInt8)×Int×Int×Int×D35×Unit
abbrev T137:Ty:=.st (.cons (.int .u8) (.cons (.int .i64) (.cons (.sl T74) .nl)))
abbrev D137:Type:=Int×Int×(List D74)×Unit
abbrev Z137:D137:=((0:Int),(0:Int),([]:List D74),())
abbrev T142:Ty:=.st (.cons (.int .u8) (.cons (.int .u8) (.cons (.int .i64) .nl)))
abbrev D142:Type:=Int×Int×Int×Unit
abbrev Z142:D142:=((0:Int),(0:Int),(0:Int),())
abbrev T96:Ty:=.st (.cons (.int .i64) (.cons (.int .i64) (.cons (.int .i64) (.cons (.sl T137) (.cons (.sl T142) .nl)))))
abbrev D96:Type:=Int×Int×Int×(List D137)×(List D142)×Unit
abbrev T125:Ty:=.st (.cons (.int .i64) (.cons (.int .i64) (.cons (.int .i64) (.cons (.sl (.sl T71)) (.cons (.int .i64) .nl)))))
abbrev T163:Ty:=.st (.cons T96 (.cons (.arr 256 (.int .i64)) .nl))
abbrev D163:Type:=D96×(List Int)×Unit
abbrev T156:Ty:=.st (.cons T71 (.cons T71 (.cons T71 (.cons T71 (.cons T71 .nl)))))
abbrev D156:Type:=D71×D71×D71×D71×D71×Unit
abbrev Z156:D156:=(Z71,Z71,Z71,Z71,Z71,())
abbrev T216:Ty:=.st (.cons (.int .u16) (.cons (.int .u16) (.cons (.int .u16) .nl)))
abbrev T219:Ty:=.st (.cons (.int .u32) (.cons (.int .u32) (.cons (.int .u32) .nl)))
abbrev T213:Ty:=.st (.cons (.sl T216) (.cons (.sl T219) (.cons (.int .i64) .nl)))
abbrev Ab:Ty:=.int .i64
abbrev Ac:Ty:=.sl T71
abbrev Ag:Sh:=.val (.sl T74)
abbrev Ai:Sh:=.val (.sl Ac)
abbrev Aj:Sh:=.val (.sl Ab)
abbrev Ak:Sh:=.val (.sl T69)
abbrev Al:Sh:=.val T71
abbrev An:Sh:=.val (.int .u64)
abbrev Ao:Sh:=.own Ac 0 false
abbrev Ap:Sh:=.own Ac 1012 false
abbrev Aq:Sh:=.val T25
abbrev Ar:Sh:=.val (.ptr T163)
abbrev As:Sh:=.val Ac
abbrev Au:Sh:=.val (.sl .str)
abbrev Av:Sh:=.own Ac 400000 false
abbrev Aa:Sh:=.box T125 (.agg (.cons Ab (.cons Ab (.cons Ab (.cons (.sl Ac) (.cons Ab .nl))))) (.cons vI (.cons vI (.cons vI (.cons Av (.cons vI .nl))))))
abbrev Aw:Sh:=.val T37
abbrev Ax:Sh:=.own T71 400000 true
abbrev Az:Sh:=.box T125 (.agg (.cons Ab (.cons Ab (.cons Ab (.cons (.sl Ac) (.cons Ab .nl))))) (.cons vI (.cons vI (.cons vI (.cons (.own Ac 403800 false) (.cons vI .nl))))))
abbrev Ba:Sh:=.box T25 Aq
abbrev Bb:Sh:=.own T71 1005 false
abbrev Bc:Sh:=.val T96
abbrev Af:Sh:=.box T96 Bc
abbrev Ah:Sh:=.box T163 (.agg (.cons T96 (.cons (.arr 256 Ab) .nl)) (.cons Bc (.cons (.val (.arr 256 Ab)) .nl)))
abbrev Be:Sh:=.box (.sl .str) (.own .str 400900 false)
abbrev Bf:Sh:=.own T156 1007 false
abbrev Bg:Sh:=.own .str 1010 false
abbrev Bh:Sh:=.own T74 1004 false
abbrev Bi:Sh:=.own T74 0 false
abbrev Bj:Sh:=.box T71 Al
abbrev Bk:Sh:=.box Ac (.own T71 400200 false)
abbrev Bl:Sh:=.own .str 1012 false
abbrev Bm:Sh:=.own T71 1006 false
abbrev Bn:Sh:=.own T71 1016 false
abbrev Bo:Sh:=.own T74 1005 false
abbrev Bp:Sh:=.own T74 1008 false
abbrev Bq:Sh:=.own T74 1008 true
abbrev Br:Sh:=.own Ab 1014 false
abbrev Bs:Sh:=.own Ab 1015 false
abbrev Bt:Sh:=.box Ab vI
abbrev Bu:Sh:=.val (.sl .bool)
abbrev Bv:Sh:=.ref 12 T163
abbrev Bw:Sh:=.box (.ptr T163) Ar
abbrev Bx:Sh:=.val T30
abbrev By:Sh:=.val T35
abbrev Bz:Sh:=.own Ab 1005 false
abbrev Ca:Sh:=.own Ac 1007 false
abbrev Cb:Sh:=.own T71 0 false
abbrev Cc:Sh:=.val T28
abbrev Cd:Sh:=.own .bool 1005 false
abbrev Ce:Ty:=.sl T137
abbrev Cf:Sh:=.own .bool 1005 true
abbrev Cg:Sh:=.own .str 1005 false
abbrev Ch:Sh:=.own .str 1013 false
abbrev Ci:Sh:=.val .str
abbrev Cj:Sh:=.val T156
abbrev Ck:Sh:=.own T71 1005 true
abbrev Cl:Sh:=.own Ac 1020 false
abbrev Cm:Sh:=.own .str 0 false
abbrev Cn:Ty:=.int .u8
abbrev At:Sh:=.val Cn
abbrev Bd:Sh:=.box T137 (.agg (.cons Cn (.cons Ab (.cons (.sl T74) .nl))) (.cons At (.cons vI (.cons (.own T74 400400 false) .nl))))
abbrev Co:Ty:=.sl T142
abbrev Ad:Sh:=.box T96 (.agg (.cons Ab (.cons Ab (.cons Ab (.cons Ce (.cons Co .nl))))) (.cons vI (.cons vI (.cons vI (.cons (.own T137 400000 false) (.cons (.own T142 400001 false) .nl))))))
abbrev Ae:Sh:=.box T96 (.agg (.cons Ab (.cons Ab (.cons Ab (.cons Ce (.cons Co .nl))))) (.cons vI (.cons vI (.cons vI (.cons (.own T137 400100 false) (.cons (.own T142 400101 false) .nl))))))
abbrev Cp:Sh:=.val T23
abbrev Cq:Sh:=.val T74
abbrev Ay:Sh:=.box T74 Cq
abbrev Cr:Sh:=.box Ac (.own T71 400100 false)
abbrev Cs:Sh:=.own T71 0 true
def G0:List Int:=[0,0,0,0,0,0,0,0,0,1,1,1,1,1,0,0,0,0,0,0,0,0,0,0,0,0,0,0,0,0,0,0,1,0,0,0,0,0,0,0,0,0,0,0,0,0,0,0,0,0,0,0,0,0,0,0,0,0,0,0,0,0,0,0,0,0,0,0,0,0,0,0,0,0,0,0,0,0,0,0,0,0,0,0,0,0,0,0,0,0,0,0,0,0,0,0,0,0,0,0,0,0,0,0,0,0,0,0,0,0,0,0,0,0,0,0,0,0,0,0,0,0,0,0,0,0,0,0,0,0,0,0,0,0,0,0,0,0,0,0,0,0,0,0,0,0,0,0,0,0,0,0,0,0,0,0,0,0,0,0,0,0,0,0,0,0,0,0,0,0,0,0,0,0,0,0,0,0,0,0,0,0,0,0,0,0,0,0,0,0,0,0,0,0,0,0,0,0,0,0,0,0,0,0,0,0,0,0,0,0,0,0,0,0,0,0,0,0,0,0,0,0,0,0,0,0,0,0,0,0,0,0,0,0,0,0,0,0,0,0,0,0,0,0,0,0,0,0,0,0,0,0,0,0,0,0]
def G5:List Int:=[0,1608,3216,4821,6424,8022,9616,11204,12785,14359,15924,17479,19024,20557,22078,23586,25080,26558,28020,29466,30893,32303,33692,35062,36410,37736,39040,40320,41576,42806,44011,45190,46341,47464,48559,49624,50660,51665,52639,53581,54491,55368,56212,57022,57798,58538,59244,59914,60547,61145,61705,62228,62714,63162,63572,63944,64277,64571,64827,65043,65220,65358,65457,65516,65536]
instance:GlobTab:=⟨⟨[(0,⟨(.arr 256 Cn),G0⟩),(5,⟨(.arr 65 Ab),G5⟩)]⟩⟩
set_option maxRecDepth 20000 in
def lit0:List UInt8:=[48,48,48,48,48,48,48,48,48,48,32,48,48,48,48,53,102,48,48,48,48,32,48,48,48,55,48,48,48,55,48,48,32,49,52,55,102,49,52,55,102,49,52,32,50,52,50,97,55,102,50,97,49,50,32,50,51,49,51,48,56,54,52,54,50,32,51,54,52,57,53,54,50,48,53,48,32,48,48,48,53,48,51,48,48,48,48,32,48,48,49,99,50,50,52,49,48,48,32,48,48,52,49,50,50,49,99,48,48,32,49,52,48,56,51,101,48,56,49,52,32,48,56,48,56,51,101,48,56,48,56,32,48,48,53,48,51,48,48,48,48,48,32,48,56,48,56,48,56,48,56,48,56,32,48,48,54,48,54,48,48,48,48,48,32,50,48,49,48,48,56,48,52,48,50,32,51,101,53,49,52,57,52,53,51,101,32,48,48,52,50,55,102,52,48,48,48,32,52,50,54,49,53,49,52,57,52,54,32,50,49,52,49,52,53,52,98,51,49,32,49,56,49,52,49,50,55,102,49,48,32,50,55,52,53,52,53,52,53,51,57,32,51,99,52,97,52,57,52,57,51,48,32,48,49,55,49,48,57,48,53,48,51,32,51,54,52,57,52,57,52,57,51,54,32,48,54,52,57,52,57,50,57,49,101,32,48,48,51,54,51,54,48,48,48,48,32,48,48,53,54,51,54,48,48,48,48,32,48,56,49,52,50,50,52,49,48,48,32,49,52,49,52,49,52,49,52,49,52,32,48,48,52,49,50,50,49,52,48,56,32,48,50,48,49,53,49,48,57,48,54,32,51,50,52,57,55,57,52,49,51,101,32,55,101,49,49,49,49,49,49,55,101,32,55,102,52,57,52,57,52,57,51,54,32,51,101,52,49,52,49,52,49,50,50,32,55,102,52,49,52,49,50,50,49,99,32,55,102,52,57,52,57,52,57,52,49,32,55,102,48,57,48,57,48,57,48,49,32,51,101,52,49,52,57,52,57,55,97,32,55,102,48,56,48,56,48,56,55,102,32,48,48,52,49,55,102,52,49,48,48,32,50,48,52,48,52,49,51,102,48,49,32,55,102,48,56,49,52,50,50,52,49,32,55,102,52,48,52,48,52,48,52,48,32,55,102,48,50,48,99,48,50,55,102,32,55,102,48,52,48,56,49,48,55,102,32,51,101,52,49,52,49,52,49,51,101,32,55,102,48,57,48,57,48,57,48,54,32,51,101,52,49,53,49,50,49,53,101,32,55,102,48,57,49,57,50,57,52,54,32,52,54,52,57,52,57,52,57,51,49,32,48,49,48,49,55,102,48,49,48,49,32,51,102,52,48,52,48,52,48,51,102,32,49,102,50,48,52,48,50,48,49,102,32,51,102,52,48,51,56,52,48,51,102,32,54,51,49,52,48,56,49,52,54,51,32,48,55,48,56,55,48,48,56,48,55,32,54,49,53,49,52,57,52,53,52,51,32,48,48,55,102,52,49,52,49,48,48,32,48,50,48,52,48,56,49,48,50,48,32,48,48,52,49,52,49,55,102,48,48,32,48,52,48,50,48,49,48,50,48,52,32,52,48,52,48,52,48,52,48,52,48,32,48,48,48,49,48,50,48,52,48,48,32,50,48,53,52,53,52,53,52,55,56,32,55,102,52,56,52,52,52,52,51,56,32,51,56,52,52,52,52,52,52,50,48,32,51,56,52,52,52,52,52,56,55,102,32,51,56,53,52,53,52,53,52,49,56,32,48,56,55,101,48,57,48,49,48,50,32,48,99,53,50,53,50,53,50,51,101,32,55,102,48,56,48,52,48,52,55,56,32,48,48,52,52,55,100,52,48,48,48,32,50,48,52,48,52,52,51,100,48,48,32,55,102,49,48,50,56,52,52,48,48,32,48,48,52,49,55,102,52,48,48,48,32,55,99,48,52,49,56,48,52,55,56,32,55,99,48,56,48,52,48,52,55,56,32,51,56,52,52,52,52,52,52,51,56,32,55,99,49,52,49,52,49,52,48,56,32,48,56,49,52,49,52,49,56,55,99,32,55,99,48,56,48,52,48,52,48,56,32,52,56,53,52,53,52,53,52,50,48,32,48,52,51,102,52,52,52,48,50,48,32,51,99,52,48,52,48,50,48,55,99,32,49,99,50,48,52,48,50,48,49,99,32,51,99,52,48,51,48,52,48,51,99,32,52,52,50,56,49,48,50,56,52,52,32,48,99,53,48,53,48,53,48,51,99,32,52,52,54,52,53,52,52,99,52,52,32,48,48,48,56,51,54,52,49,48,48,32,48,48,48,48,55,102,48,48,48,48,32,48,48,52,49,51,54,48,56,48,48,32,49,48,48,56,48,56,49,48,48,56]
set_option maxRecDepth 20000 in
def wB8:List UInt8:=[48,48,48,48,48,48,48,48,48,48,48,48,48,48,53,102,48,48,48,48,48,48,48,55,48,48,48,55,48,48,49,52,55,102,49,52,55,102,49,52,50,52,50,97,55,102,50,97,49,50,50,51,49,51,48,56,54,52,54,50,51,54,52,57,53,54,50,48,53,48,48,48,48,53,48,51,48,48,48,48,48,48,49,99,50,50,52,49,48,48,48,48,52,49,50,50,49,99,48,48,49,52,48,56,51,101,48,56,49,52,48,56,48,56,51,101,48,56,48,56,48,48,53,48,51,48,48,48,48,48,48,56,48,56,48,56,48,56,48,56,48,48,54,48,54,48,48,48,48,48,50,48,49,48,48,56,48,52,48,50,51,101,53,49,52,57,52,53,51,101,48,48,52,50,55,102,52,48,48,48,52,50,54,49,53,49,52,57,52,54,50,49,52,49,52,53,52,98,51,49,49,56,49,52,49,50,55,102,49,48,50,55,52,53,52,53,52,53,51,57,51,99,52,97,52,57,52,57,51,48,48,49,55,49,48,57,48,53,48,51,51,54,52,57,52,57,52,57,51,54,48,54,52,57,52,57,50,57,49,101,48,48,51,54,51,54,48,48,48,48,48,48,53,54,51,54,48,48,48,48,48,56,49,52,50,50,52,49,48,48,49,52,49,52,49,52,49,52,49,52,48,48,52,49,50,50,49,52,48,56,48,50,48,49,53,49,48,57,48,54,51,50,52,57,55,57,52,49,51,101,55,101,49,49,49,49,49,49,55,101,55,102,52,57,52,57,52,57,51,54,51,101,52,49,52,49,52,49,50,50,55,102,52,49,52,49,50,50,49,99,55,102,52,57,52,57,52,57,52,49,55,102,48,57,48,57,48,57,48,49,51,101,52,49,52,57,52,57,55,97,55,102,48,56,48,56,48,56,55,102,48,48,52,49,55,102,52,49,48,48,50,48,52,48,52,49,51,102,48,49,55,102,48,56,49,52,50,50,52,49,55,102,52,48,52,48,52,48,52,48,55,102,48,50,48,99,48,50,55,102,55,102,48,52,48,56,49,48,55,102,51,101,52,49,52,49,52,49,51,101,55,102,48,57,48,57,48,57,48,54,51,101,52,49,53,49,50,49,53,101,55,102,48,57,49,57,50,57,52,54,52,54,52,57,52,57,52,57,51,49,48,49,48,49,55,102,48,49,48,49,51,102,52,48,52,48,52,48,51,102,49,102,50,48,52,48,50,48,49,102,51,102,52,48,51,56,52,48,51,102,54,51,49,52,48,56,49,52,54,51,48,55,48,56,55,48,48,56,48,55,54,49,53,49,52,57,52,53,52,51,48,48,55,102,52,49,52,49,48,48,48,50,48,52,48,56,49,48,50,48,48,48,52,49,52,49,55,102,48,48,48,52,48,50,48,49,48,50,48,52,52,48,52,48,52,48,52,48,52,48,48,48,48,49,48,50,48,52,48,48,50,48,53,52,53,52,53,52,55,56,55,102,52,56,52,52,52,52,51,56,51,56,52,52,52,52,52,52,50,48,51,56,52,52,52,52,52,56,55,102,51,56,53,52,53,52,53,52,49,56,48,56,55,101,48,57,48,49,48,50,48,99,53,50,53,50,53,50,51,101,55,102,48,56,48,52,48,52,55,56,48,48,52,52,55,100,52,48,48,48,50,48,52,48,52,52,51,100,48,48,55,102,49,48,50,56,52,52,48,48,48,48,52,49,55,102,52,48,48,48,55,99,48,52,49,56,48,52,55,56,55,99,48,56,48,52,48,52,55,56,51,56,52,52,52,52,52,52,51,56,55,99,49,52,49,52,49,52,48,56,48,56,49,52,49,52,49,56,55,99,55,99,48,56,48,52,48,52,48,56,52,56,53,52,53,52,53,52,50,48,48,52,51,102,52,52,52,48,50,48,51,99,52,48,52,48,50,48,55,99,49,99,50,48,52,48,50,48,49,99,51,99,52,48,51,48,52,48,51,99,52,52,50,56,49,48,50,56,52,52,48,99,53,48,53,48,53,48,51,99,52,52,54,52,53,52,52,99,52,52,48,48,48,56,51,54,52,49,48,48,48,48,48,48,55,102,48,48,48,48,48,48,52,49,51,54,48,56,48,48,49,48,48,56,48,56,49,48,48,56]
theorem nN0:xJ7 Tryz.prog 200 yA5:=xU7 Tryz.func200 (by kernel_rfl) (by kernel_rfl) (by kernel_rfl) (by kernel_rfl)
theorem nN1:xJ7 Tryz.prog 208 xA6:=wA6 Tryz.func208 (by kernel_rfl) (by kernel_rfl) (by kernel_rfl) (by kernel_rfl)
def tys:List (Nat×Ty):=[(3,Ab),(4,.bool),(5,Cn),(9,.str),(21,(.int .i32)),(22,(.sl Ab)),(24,T23),(26,T25),(27,(.sl T30)),(29,T28),(31,T30),(32,(.sl T69)),(33,(.sl T74)),(34,Ac),(36,T35),(38,T37),(39,Ab),(70,T69),(72,T71),(73,(.arr 3 T71)),(75,T74),(85,(.sl Ac)),(88,(.sl .bool)),(94,Ce),(95,Co),(97,T96),(101,Ac),(104,T71),(105,(.sl .str)),(106,(.int .u64)),(124,(.ptr T125)),(126,T125),(129,(.ptr T163)),(132,Ac),(136,T71),(138,T137),(143,T142),(154,(.sl T156)),(157,T156),(162,(.arr 256 Ab)),(164,T163),(170,(.arr 256 Cn)),(196,Ac),(198,T71),(199,(.int .u32)),(201,(.ptr T213)),(229,(.arr 65 Ab))]
theorem qN6:zM4 Tryz.prog tys=true:=by kernel_rfl
theorem mixed:Tryz.prog.follows .mixedOrders=true:=by kernel_rfl
theorem cq {c:Ctx}(hs:xT6 Tryz.prog c.fns)(uo:(yF3 Tryz.prog c.maps&&yT4 Tryz.prog c.fts)=true:=by kernel_rfl)(he:c.exts=[]:=by rfl)(ht:zM4 Tryz.prog c.tys=true:=by exact qN6)(hn:Nat.ble c.n zA9=true:=by kernel_rfl)(kK:c.clones=[]:=by rfl):CtxOk Tryz.prog c:=wA5 ht uo hs he hn kK
theorem fq {c:Ctx}{f:Nat}{fn:Func}{ps:List (Nat×Sh)}{rs:Sh}{os:List (Nat×Sh)}{ok:zC2 ps->Prop}{F:zC2 ps->rs.den}{o:zC2 ps->yN6 os}(hf:Tryz.prog.funcs[f]?=some fn)(hs:xT6 Tryz.prog c.fns)(uo:(yF3 Tryz.prog c.maps&&yT4 Tryz.prog c.fts)=true:=by kernel_rfl)(he:c.exts=[]:=by rfl)(ht:zM4 Tryz.prog c.tys=true:=by exact qN6)(hn:Nat.ble c.n zA9=true:=by kernel_rfl)(kK:c.clones=[]:=by rfl)(hk:xZ0 fn c ps os=true:=by kernel_rfl)(qx:zG1 (fn.body.getD .skip)=[]:=by kernel_rfl)(kI:∀x,xF8 c (fn.body.getD .skip) fn.results.toList ps rs os x=some (ok x,F x,o x):=by intro x;kernel_rfl):SpecOk Tryz.prog f (fnSpec ps rs os ok F o):=wC3 (wA5 ht uo hs he hn kK) mixed hf hk qx trivial kI
theorem fl {c:Ctx}{f:Nat}{fn:Func}{ps:List (Nat×Sh)}{rs:Sh}{os:List (Nat×Sh)}{ok:zC2 ps->Prop}{F:zC2 ps->rs.den}{o:zC2 ps->yN6 os}(hc:CtxOk Tryz.prog c)(hf:Tryz.prog.funcs[f]?=some fn){bs:List Code}(hL:zU Tryz.prog c bs)(hk:xZ0 fn c ps os=true:=by kernel_rfl)(qx:zG1 (fn.body.getD .skip)=bs:=by kernel_rfl)(kI:∀x,xF8 c (fn.body.getD .skip) fn.results.toList ps rs os x=some (ok x,F x,o x):=by intro x;kernel_rfl):SpecOk Tryz.prog f (fnSpec ps rs os ok F o):=wC3 hc mixed hf hk qx hL kI
theorem lq {c:Ctx}{body:Code}{sp:St->Option Out}{ly lx:List (Nat×Sh)}{g:zC2 ly->zC2 lx->Bool}{next:zC2 ly->zC2 lx->zC2 lx}{ok:zC2 ly->zC2 lx->Prop}{es:zC2 ly->zC2 lx->List Comp}(hc:CtxOk Tryz.prog c)(hs:sp=xT3 ly lx g next ok es)(les:List (List (Nat×Sh)))(hb:zG1 body=[]:=by kernel_rfl)(hw:zE7 c.keep body=true:=by kernel_rfl)(hl:Go.Am.look (λ_=>none) c.loops (zE8 body)=sp:=by kernel_rfl)(kI:∀y x,yN7 c body ly lx les y x=some (ok y x,g y x,y,next y x,es y x):=by intro y x;kernel_rfl):yX7 Tryz.prog c body:=wC2 hc mixed hs les hb trivial hw hl kI
theorem lm {c:Ctx}{body:Code}{sp:St->Option Out}{ly lx:List (Nat×Sh)}{g:zC2 ly->zC2 lx->Bool}{next:zC2 ly->zC2 lx->zC2 lx}{ok:zC2 ly->zC2 lx->Prop}{es:zC2 ly->zC2 lx->List Comp}(hc:CtxOk Tryz.prog c)(hs:sp=xT3 ly lx g next ok es)(les:List (List (Nat×Sh))){bs:List Code}(hL:zU Tryz.prog c bs)(hb:zG1 body=bs:=by kernel_rfl)(hw:zE7 c.keep body=true:=by kernel_rfl)(hl:Go.Am.look (λ_=>none) c.loops (zE8 body)=sp:=by kernel_rfl)(kI:∀y x,yN7 c body ly lx les y x=some (ok y x,g y x,y,next y x,es y x):=by intro y x;kernel_rfl):yX7 Tryz.prog c body:=wC2 hc mixed hs les hb hL hw hl kI
abbrev SK (n:Nat)(s:Am.Spec):Prop:=SpecOk Tryz.prog n s
@[reducible] def Cy (f:List (Nat×Am.Spec)) (l:List (Nat×(St->Option Out))) (h:List (Nat×List (Nat×Nat×Nat×Nat))) (n:Nat):Ctx:=Cx tys f l h false n [] []
@[reducible] def Cz (f:List (Nat×Am.Spec)) (l:List (Nat×(St->Option Out))) (h:List (Nat×List (Nat×Nat×Nat×Nat))) (n:Nat):Ctx:=Cx tys f l h true n [] []
@[reducible] def sp1 (A R:Sh) (ok:A.den->Prop) (f:A.den->R.den):Am.Spec:=fnSpec [(0,A)] R [] (λx=>ok x.1) (λx=>f x.1) (λ_=>())
@[reducible] def sp2 (A B R:Sh) (ok:A.den->B.den->Prop) (f:A.den->B.den->R.den):Am.Spec:=fnSpec [(0,A),(1,B)] R [] (λx=>ok x.1 x.2.1) (λx=>f x.1 x.2.1) (λ_=>())
@[reducible] def sp3 (A B C R:Sh) (ok:A.den->B.den->C.den->Prop) (f:A.den->B.den->C.den->R.den):Am.Spec:=fnSpec [(0,A),(1,B),(2,C)] R [] (λx=>ok x.1 x.2.1 x.2.2.1) (λx=>f x.1 x.2.1 x.2.2.1) (λ_=>())
@[reducible] def sp4 (A B C D R:Sh) (ok:A.den->B.den->C.den->D.den->Prop) (f:A.den->B.den->C.den->D.den->R.den):Am.Spec:=fnSpec [(0,A),(1,B),(2,C),(3,D)] R [] (λx=>ok x.1 x.2.1 x.2.2.1 x.2.2.2.1) (λx=>f x.1 x.2.1 x.2.2.1 x.2.2.2.1) (λ_=>())
@[reducible] def sp5 (A B C D E R:Sh) (ok:A.den->B.den->C.den->D.den->E.den->Prop) (f:A.den->B.den->C.den->D.den->E.den->R.den):Am.Spec:=fnSpec [(0,A),(1,B),(2,C),(3,D),(4,E)] R [] (λx=>ok x.1 x.2.1 x.2.2.1 x.2.2.2.1 x.2.2.2.2.1) (λx=>f x.1 x.2.1 x.2.2.1 x.2.2.2.1 x.2.2.2.2.1) (λ_=>())
@[reducible] def sp6 (A B C D E F R:Sh) (ok:A.den->B.den->C.den->D.den->E.den->F.den->Prop) (f:A.den->B.den->C.den->D.den->E.den->F.den->R.den):Am.Spec:=fnSpec [(0,A),(1,B),(2,C),(3,D),(4,E),(5,F)] R [] (λx=>ok x.1 x.2.1 x.2.2.1 x.2.2.2.1 x.2.2.2.2.1 x.2.2.2.2.2.1) (λx=>f x.1 x.2.1 x.2.2.1 x.2.2.2.1 x.2.2.2.2.1 x.2.2.2.2.2.1) (λ_=>())
def nN2 (p0:List UInt8)(p1:Int):Prop×Int:=
 (True,Lib.indexByte p0 (Int.toNat p1).toUInt8)
def rC1 p0 p1:=(nN2 p0 p1).1
def f167 p0 p1:=(nN2 p0 p1).2
instance (p0:List UInt8)(p1:Int):Decidable (rC1 p0 p1):=by
 unfold rC1 nN2
 try dsimp only
 infer_instance
def rP2:=sp2 vS At vI rC1 f167
def oU1:Ctx:={ Cx tys [] [] [] false 8 [] [] with exts:=[(200,yA5)] }
theorem oU2:CtxOk Tryz.prog oU1:=xZ qN6 rfl trivial ⟨nN0,trivial⟩ (by kernel_rfl)
theorem nN3:SK 167 rP2:=fl oU2 Tryz.func167 (bs:=[]) trivial
def f211 (p0 p1:List UInt8):Int:=Lib.indexByte p0 (p1.headD 0)
def pR6 (_p0 p1:List UInt8):Prop:=List.length p1=1
def nN4:List (Nat×Sh):=[(0,Ci),(1,Ci)]
def nN5:Sh:=(.val Ab)
def nN6:List (Nat×Sh):=[]
def rP3:Am.Spec:=fnSpec nN4 nN5 nN6 (λx=>pR6 x.1 x.2.1) (λx=>f211 x.1 x.2.1) (λ_=>())
theorem nN7:SpecOk Tryz.prog 211 rP3:=xZ7 (F:=f211) ⟨_,Tryz.func211,by kernel_rfl,by decide⟩ (λs c w=>Tryz.strings_Index_one s c w)
def f212 (_p0:List UInt8)(_p1:Int):(List (List UInt8)):=([]:List (List UInt8))
def pR7 (_p0:List UInt8)(_p1:Int):Prop:=False
def nN8:List (Nat×Sh):=[(0,vS),(1,vI)]
def nN9:Sh:=Au
def nO:List (Nat×Sh):=[]
def rP4:Am.Spec:=fnSpec nN8 nN9 nO (λx=>pR7 x.1 x.2.1) (λx=>f212 x.1 x.2.1) (λ_=>())
theorem nO0:SpecOk Tryz.prog 212 rP4:=xX6 Tryz.func212 (by kernel_rfl) (by decide)
def f213 (p0 p1:List UInt8):Int:=((Lib.countByte p0 (p1.headD 0):Nat):Int)
def pR8 (_p0 p1:List UInt8):Prop:=List.length p1=1
def nO1:List (Nat×Sh):=[(0,Ci),(1,Ci)]
def nO2:Sh:=(.val Ab)
def nO3:List (Nat×Sh):=[]
def rP5:Am.Spec:=fnSpec nO1 nO2 nO3 (λx=>pR8 x.1 x.2.1) (λx=>f213 x.1 x.2.1) (λ_=>())
theorem nO4:SpecOk Tryz.prog 213 rP5:=xZ7 (F:=f213) ⟨_,Tryz.func213,by kernel_rfl,by decide⟩ (λs c w=>Tryz.strings_Count_one s c w)
abbrev wZ:Type:=((List UInt8)×Int×Int×Unit)
abbrev wP5:Type:=((List UInt8)×(List (List UInt8))×Int×Unit)
def vT4 (y:wZ)(x:wP5):Prop×Bool×wP5:=
 let i:=y.1
 let k:=y.2.1
 let e:=x.1
 let j:=x.2.1
 let a:=x.2.2.1
 let f:=decide (a<y.2.2.1)
 let b:=f211 e i
 let g:=decide (b<0)
 let d:=b+k
 let h:=len i
 let c:=b+h
 (f=true->pR6 e i/\((!g)=true->InR (b+k)/\(0<=d/\d<=len e)/\InB a (len j)/\a<len j/\InR (b+h)/\(0<=c/\c<=len e)/\InR (a+1)),f&&(!g),(List.drop (Int.toNat c) e,List.set j (Int.toNat a) (List.take (Int.toNat d) e),a+1,()))
def uP6 y x:=(vT4 y x).1
def wK2 y x:=(vT4 y x).2.1
def wF0 y x:=(vT4 y x).2.2
def uU2 (y:wZ)(x:wP5):(List UInt8):=
 x.1
def uU3 (y:wZ)(x:wP5):(List (List UInt8)):=
 x.2.1
def uU4 (y:wZ)(x:wP5):Int:=
 x.2.2.1
def sB6:List (Nat×Sh):=[(0,vS),(9,(.own .str 1009 true)),(10,vI)]
def uU5:St->Option Out:=xT3 [(1,vS),(2,vI),(3,vI)] [(0,vS),(9,(.own .str 1009 true)),(10,vI)] wK2 wF0 uP6 λy x=>[ex 2 none sB6 ((uU2 y x),(uU3 y x),(uU4 y x),())]
def oU3 (p0:List UInt8)(p1:List UInt8)(p2:Int)(p3:Int):Prop×(List (List UInt8)):=
 let i:=p3==0
 let g:=p1==([]:List UInt8)
 let l:=decide (p3<0)
 let j:=f213 p0 p1
 let m:=len p0
 let d:=wB1 (cond l (j+1) p3) (m+1)
 let c:=(p1,p2,d-1,())
 let k:=(p0,List.replicate (Int.toNat d) ([]:List UInt8),(0:Int),())
 let f:=zB9 (wK2 c) (wF0 c) k
 let b:=uU3 c f
 let a:=uU4 c f
 let e:=List.set b (Int.toNat a) (uU2 c f)
 let h:=a+1
 ((!i)=true->(g=true->pR7 p0 p3)/\((!g)=true->(l=true->pR8 p0 p1/\InR (j+1))/\InR (m+1)/\(0<=d/\d<=d/\d<=4294967296)/\InR (d-1)/\Am.Ends (wK2 c) (wF0 c) (uP6 c) k/\InB a (len b)/\a<len b/\InR (a+1)/\0<=h/\h<=len e),cond i [] (cond g (f212 p0 p3) (List.take (Int.toNat h) e)))
def qD3 p0 p1 p2 p3:=(oU3 p0 p1 p2 p3).1
def f198 p0 p1 p2 p3:=(oU3 p0 p1 p2 p3).2
def rP6:=sp4 vS vS vI vI Au qD3 f198
def qN7:Ctx:=Cx tys [(211,rP3),(212,rP4),(213,rP5)] [(11,uU5)] [(17,[(4,0,31,1009)]),(36,[(1,9,0,0)])] false 66 [] [31]
theorem qN8:CtxOk Tryz.prog qN7:=cq ⟨nN7,nO0,nO4,trivial⟩
noncomputable def pR9:Code:=Tryz.f198.body.getD .skip
noncomputable def qN9:Code:=wB4 pR9 0
theorem qD4:yX7 Tryz.prog qN7 qN9:=lq qN8 (sp:=uU5) rfl [sB6]
theorem nO5:SK 198 rP6:=fl qN8 Tryz.func198 (bs:=[qN9]) ⟨qD4,trivial⟩
def oU4 (p0:List UInt8)(p1:List UInt8):Prop×(List (List UInt8)):=
 (qD3 p0 p1 (0:Int) (-1:Int),f198 p0 p1 (0:Int) (-1:Int))
def rC2 p0 p1:=(oU4 p0 p1).1
def f162 p0 p1:=(oU4 p0 p1).2
def rP7:=sp2 vS vS Au rC2 f162
def oU5:=Cy [(198,rP6)] [] [] 8
theorem nO6:SK 162 rP7:=fq (c:=oU5) Tryz.func162 ⟨nO5,trivial⟩
def f71t (p0:Int)(p1:Int):Prop×Int:=
 let d:=p1==0
 let a:=cond (p0==(-9223372036854775808)) (p1==(-1)) false
 let c:=IntKind.wrap .i64 (Int.tdiv p0 p1)
 let b:=cond d (0:Int) (cond a (9223372036854775807:Int) (cond (cond (Int.tmod p0 p1 !=0) (!(Ty.eqb .bool (decide (p0<0)) (decide (p1<0)))) false) (IntKind.wrap .i64 (c-1)) c))
 ((!d)=true->(!a)=true->p1≠0/\p1≠0,b)
def sB7 p0 p1:=(f71t p0 p1).1
def f71 p0 p1:=(f71t p0 p1).2
def rC3:=sp2 vI vI vI sB7 f71
def nO7:=Cz [] [] [] 31
theorem nH1:SK 71 rC3:=fq (c:=nO7) Tryz.func71 trivial
def f35t (p0:Int)(p1:Int):Prop×Int:=
 let d:=p1==0
 let c:=cond (p0==(-9223372036854775808)) (p1==(-1)) false
 let b:=f71 p0 p1
 let a:=IntKind.wrap .i64 (p0-(IntKind.wrap .i64 (p1*b)))
 let e:=cond (cond (cond (decide (p1>0)) (decide (a≥IntKind.wrap .i64 (p1-a))) false) true (cond (decide (p1<0)) (decide (a<=IntKind.wrap .i64 (p1-a))) false)) (IntKind.wrap .i64 (b+1)) b
 ((!d)=true->(!c)=true->sB7 p0 p1,cond d (0:Int) (cond c (9223372036854775807:Int) e))
def wH8 p0 p1:=(f35t p0 p1).1
def f35 p0 p1:=(f35t p0 p1).2
def wS0:=sp2 vI vI vI wH8 f35
def nO8:=Cz [(71,rC3)] [] [] 46
theorem uD9:SK 35 wS0:=fq (c:=nO8) Tryz.func35 ⟨nH1,trivial⟩
abbrev vK5:Type:=(Int×Int×(List D142)×Int×Unit)
abbrev wU3:Type:=(Int×Unit)
def uK1 (y:vK5)(x:wU3):Prop×Bool×wU3×Bool×Bool:=
 let d:=y.2.2.1
 let a:=x.1
 let b:=decide (a<y.2.2.2.1)
 let e:=nth d a Z142
 let c:=cond (e.1==y.1) (e.2.1==y.2.1) false
 (b=true->InB a (len d)/\((!c)=true->InR (a+1)),b&&(!c),(a+1,()),b&&c,!b)
def sT5 y x:=(uK1 y x).1
def uU6 y x:=(uK1 y x).2.1
def uE y x:=(uK1 y x).2.2.1
def sT6 y x:=(uK1 y x).2.2.2.1
def pH3 y x:=(uK1 y x).2.2.2.2
def tJ6 (y:vK5)(x:wU3):Int:=
 (nth y.2.2.1 x.1 Z142).2.2.1
def tJ7:St->Option Out:=xT3 [(7,At),(8,At),(33,(.val Co)),(34,vI)] [(35,vI)] uU6 uE sT5 λy x=>[ex 1 (some (sT6 y x)) [(6,vI)] ((tJ6 y x),()),ex 2 (some (pH3 y x)) [] ()]
def mM0 (p0:D163)(p1:Int)(p2:Int):Prop×Int:=
 let a:=((nth p0.1.2.2.2.1 p1 Z137).1,(nth p0.1.2.2.2.1 p2 Z137).1,p0.1.2.2.2.2.1,len p0.1.2.2.2.2.1,())
 let b:=((0:Int),())
 let c:=zB9 (uU6 a) (uE a) b
 (InB p1 (len p0.1.2.2.2.1)/\InB p2 (len p0.1.2.2.2.1)/\Am.Ends (uU6 a) (uE a) (sT5 a) b,cond (sT6 a c) (tJ6 a c) (0:Int))
def rC4 p0 p1 p2:=(mM0 p0 p1 p2).1
def f164 p0 p1 p2:=(mM0 p0 p1 p2).2
def rP8:=sp3 Ar vI vI vI rC4 f164
def qO:=Cy [] [(3,tJ7)] [] 52
theorem qO0:CtxOk Tryz.prog qO:=cq trivial
noncomputable def pS:Code:=Tryz.f164.body.getD .skip
noncomputable def pS0:Code:=wB4 pS 0
theorem pH4:yX7 Tryz.prog qO pS0:=lq qO0 (sp:=tJ7) rfl [[(6,vI)],[]]
theorem nO9:SK 164 rP8:=fl qO0 Tryz.func164 (bs:=[pS0]) ⟨pH4,trivial⟩
abbrev vT5:Type:=(D163×(List UInt8)×Int×Unit)
abbrev vB6:Type:=((List D71)×Int×Int×Unit)
def rC5 (y:vT5)(x:vB6):Prop×Bool×vB6:=
 let o:=y.1
 let s:=y.2.1
 let e:=x.1
 let q:=x.2.1
 let b:=x.2.2.1
 let f:=decide (b<y.2.2.1)
 let m:=wB7 s b
 let a:=nth o.2.1 m (0:Int)
 let d:=decide (a<0)
 let k:=decide (len e>0)
 let h:=len e
 let i:=h-1
 let g:=nth e i Z71
 let j:=f164 o g.1 a
 let r:=cond k (q+j) q
 let n:=([(a,r,())]:List D71)
 let l:=nth o.1.2.2.2.1 a Z137
 let c:=d||(!d)
 (f=true->InB b (len s)/\InB m 256/\((!d)=true->(k=true->InR (h-1)/\InB i (len e)/\rC4 o g.1 a/\InR (q+j))/\((List.length e+List.length n:Nat):Int)<=4294967296/\InB a (len o.1.2.2.2.1)/\InR (r+l.2.1))/\(c=true->InR (b+1)),f&&c,(cond d e (e++n),cond d q (r+l.2.1),b+1,()))
def sT7 y x:=(rC5 y x).1
def vT6 y x:=(rC5 y x).2.1
def wS8 y x:=(rC5 y x).2.2
def uE0 (y:vT5)(x:vB6):(List D71):=
 x.1
def uE1 (y:vT5)(x:vB6):Int:=
 x.2.1
def sT8:List (Nat×Sh):=[(6,Bm),(7,vI)]
def tJ8:St->Option Out:=xT3 [(0,Ar),(1,vS),(11,vI)] [(6,Bm),(7,vI),(12,vI)] vT6 wS8 sT7 λy x=>[ex 2 none sT8 ((uE0 y x),(uE1 y x),())]
def mM1 (p0:D163)(p1:List UInt8):Prop×((List D71)×Int×Unit):=
 let a:=(p0,p1,len p1,())
 let b:=(([]:List D71),(0:Int),(0:Int),())
 let c:=zB9 (vT6 a) (wS8 a) b
 (Am.Ends (vT6 a) (wS8 a) (sT7 a) b,(uE0 a c,uE1 a c,()))
def sB8 p0 p1:=(mM1 p0 p1).1
def f127 p0 p1:=(mM1 p0 p1).2
def sB9:=sp2 Ar vS (.tup (.cons Cb (.cons vI .nl))) sB8 f127
def qO1:=Cy [(164,rP8)] [(4,tJ8)] [(21,[(4,0,45,1006)]),(27,[(4,0,1006,0)])] 60
theorem qO2:CtxOk Tryz.prog qO1:=cq ⟨nO9,trivial⟩
noncomputable def pS1:Code:=Tryz.f127.body.getD .skip
noncomputable def pS2:Code:=wB4 pS1 0
theorem pH5:yX7 Tryz.prog qO1 pS2:=lq qO2 (sp:=tJ8) rfl [sT8]
theorem pS3:SK 127 sB9:=fl qO2 Tryz.func127 (bs:=[pS2]) ⟨pH5,trivial⟩
def mM2 (p0:D163)(p1:List UInt8)(p2:Int):Prop×Int:=
 let b:=f127 p0 p1
 let a:=p2*b.2.1
 (sB8 p0 p1/\InR (p2*b.2.1)/\wH8 a p0.1.1,f35 a p0.1.1)
def tD9 p0 p1 p2:=(mM2 p0 p1 p2).1
def f163 p0 p1 p2:=(mM2 p0 p1 p2).2
def rP9:=sp3 Ar vS vI vI tD9 f163
def oU6:=Cy [(35,wS0),(127,sB9)] [] [(3,[(4,0,12,1007)])] 24
theorem nP:SK 163 rP9:=fq (c:=oU6) Tryz.func163 ⟨uD9,pS3,trivial⟩
abbrev vI9:Type:=(D163×Int×Int×(List (List UInt8))×Int×Unit)
abbrev wS9:Type:=((List (List UInt8))×(List UInt8)×Int×Unit)
def sC (y:vI9)(x:wS9):Prop×Bool×wS9:=
 let m:=y.1
 let n:=y.2.1
 let l:=y.2.2.1
 let g:=y.2.2.2.1
 let k:=x.1
 let d:=x.2.1
 let a:=x.2.2.1
 let h:=decide (a<y.2.2.2.2.1)
 let c:=nth g a ([]:List UInt8)
 let f:=d++([32]:List UInt8)
 let b:=f++c
 let i:=l==0
 let e:=cond i true (decide (f163 m b n<=l))
 let j:=([d]:List (List UInt8))
 (h=true->InB a (len g)/\((List.length d+List.length ([32]:List UInt8):Nat):Int)<=9223372036854775807/\((List.length f+List.length c:Nat):Int)<=9223372036854775807/\((!i)=true->tD9 m b n)/\(e=false->((List.length k+List.length j:Nat):Int)<=4294967296)/\InR (a+1),h,(cond e k (k++j),cond e b c,a+1,()))
def uP7 y x:=(sC y x).1
def wP6 y x:=(sC y x).2.1
def wG8 y x:=(sC y x).2.2
def vF7 (y:vI9)(x:wS9):(List (List UInt8)):=
 x.1
def vX6 (y:vI9)(x:wS9):(List UInt8):=
 x.2.1
def sC0:List (Nat×Sh):=[(4,Bw),(6,Bt),(7,Bt),(9,Be),(12,vS)]
def uU7:St->Option Out:=xT3 [(4,Bw),(6,Bt),(7,Bt),(25,Au),(26,vI)] [(9,Be),(12,vS),(27,vI)] wP6 wG8 uP7 λy x=>[ex 4 none sC0 (y.1,y.2.1,y.2.2.1,(vF7 y x),(vX6 y x),())]
def pS4 (p0:D163)(p1:Int)(p2:Int)(p3:(List (List UInt8)))(p4:List UInt8):Prop×(Unit)×(D163×Int×Int×(List (List UInt8))×Unit):=
 let b:=f162 p4 ([32]:List UInt8)
 let d:=List.drop (Int.toNat (1:Int)) b
 let c:=(p0,p1,p2,d,len d,())
 let g:=(p3,nth b (0:Int) ([]:List UInt8),(0:Int),())
 let f:=zB9 (wP6 c) (wG8 c) g
 let a:=vF7 c f
 let e:=([vX6 c f]:List (List UInt8))
 (rC2 p4 ([32]:List UInt8)/\InB (0:Int) (len b)/\(0<=(1:Int)/\(1:Int)<=len b)/\Am.Ends (wP6 c) (wG8 c) (uP7 c) g/\((List.length a+List.length e:Nat):Int)<=4294967296,(),(p0,p1,p2,a++e,()))
def uK2 p0 p1 p2 p3 p4:=(pS4 p0 p1 p2 p3 p4).1
def vX7 p0 p1 p2 p3 p4:=(pS4 p0 p1 p2 p3 p4).2.2
def uK3:List (Nat×Sh):=[(4,Bw),(6,Bt),(7,Bt),(9,Be),(10,vS)]
def qO3:Sh:=(.tup .nl)
def vX8:List (Nat×Sh):=[(4,Bw),(6,Bt),(7,Bt),(9,Be)]
def uE2:Ctx:=Cx tys [(162,rP7),(163,rP9)] [(7,uU7)] [(25,[(4,0,49,400900)]),(31,[(4,0,55,400900)])] false 57 [4,6,7,9] []
theorem rQ:CtxOk Tryz.prog uE2:=cq ⟨nO6,nP,trivial⟩
noncomputable def wP7:Code:=(xP3 (Tryz.f126.body.getD .skip)).getD .skip
noncomputable def qO4:Code:=wB4 wP7 0
theorem qD5:yX7 Tryz.prog uE2 qO4:=wC2 rQ mixed (sp:=uU7) rfl [sC0] (bs:=[]) (by kernel_rfl) trivial (by kernel_rfl) (by kernel_rfl) λy x=>by kernel_rfl
theorem oU7:∀x,xU8 uE2 wP7 (zC1 uK3 x)=true:=λx=>by kernel_rfl
theorem pS5:∀x,xF8 uE2 wP7 [] uK3 qO3 vX8 x=some (uK2 x.1 x.2.1 x.2.2.1 x.2.2.2.1 x.2.2.2.2.1,(),vX7 x.1 x.2.1 x.2.2.1 x.2.2.2.1 x.2.2.2.2.1):=λx=>by kernel_rfl
theorem oU8:xX Tryz.prog uE2 wP7 uK3 vX8 (λx=>uK2 x.1 x.2.1 x.2.2.1 x.2.2.2.1 x.2.2.2.2.1) (λx=>vX7 x.1 x.2.1 x.2.2.1 x.2.2.2.1 x.2.2.2.2.1):=xZ9 (rs:=qO3) (F:=λ_=>()) rQ mixed (bs:=[qO4]) (by kernel_rfl) ⟨qD5,trivial⟩ (by kernel_rfl) oU7 pS5
end Go.Proofs.YtgjkpohjjmkkgaaGreatDoor.Am
