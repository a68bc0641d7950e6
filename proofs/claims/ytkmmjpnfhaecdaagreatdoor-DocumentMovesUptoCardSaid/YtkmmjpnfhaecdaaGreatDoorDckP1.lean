/- Printed by program: the functions that the statements reach, as plain functions, and their contracts. No condition. -/
import Derived.Test.YtkmmjpnfhaecdaaGreatDoorMach4
import Derived.Test.YtkmmjpnfhaecdaaGreatDoorDckI
import Derived.Test.YtkmmjpnfhaecdaaGreatDoorDckH
import Derived.Test.YtkmmjpnfhaecdaaGreatDoorProg
set_option linter.unusedVariables false
set_option synthInstance.maxSize 4000
set_option synthInstance.maxHeartbeats 400000
namespace Go.Proofs.YtkmmjpnfhaecdaaGreatDoor.Am
open Go Go.Am Go.Proofs
open Go.IntKind (wrap)
open _root_.Int (toNat)
open _root_.List (drop length set take)
abbrev Vm(a:Type):Type:=Prop×Bool×a×Bool×Bool
abbrev Vn(a:Type):Type:=Prop×Bool×a
abbrev Hy:Ty:=.st (.cons (.int .i64) (.cons (.int .i64) (.cons (.sl (.int .i64)) .nl)))
abbrev FN:Type:=Int×Int×(List Int)×Unit
abbrev Z24:FN:=((0:Int),(0:Int),([]:List Int),())
abbrev Hz:Ty:=.st (.cons (.int .i64) (.cons (.int .i64) (.cons (.int .i64) (.cons (.int .i64) (.cons (.int .i64) (.cons (.int .i64) .nl))))))
abbrev C1:Type:=Int×Int×Int×Int×Int×Int×Unit
abbrev Lv:C1:=((0:Int),(0:Int),(0:Int),(0:Int),(0:Int),(0:Int),())
abbrev EP:Ty:=.st (.cons (.int .i64) (.cons (.int .i64) (.cons (.int .i64) (.cons (.int .i64) .nl))))
abbrev CP:Type:=Int×Int×Int×Int×Unit
abbrev G6:CP:=((0:Int),(0:Int),(0:Int),(0:Int),())
abbrev Xp:Ty:=.st (.cons (.int .i64) (.cons (.int .i64) (.cons (.sl EP) .nl)))
abbrev Hg:Type:=Int×Int×(List CP)×Unit
abbrev Z48:Hg:=((0:Int),(0:Int),([]:List CP),())
abbrev FO:Ty:=.st (.cons (.int .i64) (.cons EP .nl))
abbrev B4:Type:=Int×CP×Unit
abbrev CG:B4:=((0:Int),G6,())
abbrev AQ:Ty:=.st (.cons (.int .i64) (.cons (.int .i64) .nl))
abbrev A0:Type:=Int×Int×Unit
abbrev A1:A0:=((0:Int),(0:Int),())
abbrev DS:Ty:=.st (.cons (.int .i64) (.cons (.arr 3 AQ) .nl))
abbrev AA:Type:=Int×(List A0)×Unit
abbrev A5:AA:=((0:Int),(List.replicate 3 A1),())
abbrev Tn:Ty:=.st (.cons (.int .i64) (.cons (.int .i64) (.cons (.int .i64) (.cons (.sl AQ) .nl))))
abbrev I8:Type:=Int×Int×Int×(List A0)×Unit
abbrev Z55:I8:=((0:Int),(0:Int),(0:Int),([]:List A0),())
abbrev DD:Ty:=.st (.cons (.int .i64) (.cons (.int .i64) (.cons (.int .i64) (.cons .str (.cons .bool (.cons .bool (.cons .bool (.cons (.int .i64) (.cons (.int .i64) (.cons Hy (.cons Hz (.cons (.int .i64) (.cons Xp (.cons EP (.cons (.int .i64) (.cons (.sl (.int .i64)) (.cons (.int .i64) (.cons (.sl FO) (.cons (.sl DS) (.cons (.int .i64) (.cons (.int .i64) (.cons (.int .i64) (.cons (.int .i64) (.cons .str (.cons (.int .i64) (.cons (.int .i64) (.cons (.int .i64) (.cons Tn .nl))))))))))))))))))))))))))))
abbrev AI:Type:=Int×Int×Int×(List UInt8)×Bool×Bool×Bool×Int×Int×FN×C1×Int×Hg×CP×Int×(List Int)×Int×(List B4)×(List AA)×Int×Int×Int×Int×(List UInt8)×Int×Int×Int×I8×Unit
abbrev A9:AI:=((0:Int),(0:Int),(0:Int),([]:List UInt8),false,false,false,(0:Int),(0:Int),Z24,Lv,(0:Int),Z48,G6,(0:Int),([]:List Int),(0:Int),([]:List B4),([]:List AA),(0:Int),(0:Int),(0:Int),(0:Int),([]:List UInt8),(0:Int),(0:Int),(0:Int),Z55,())
abbrev I9:Ty:=.st (.cons .str (.cons .str .nl))
abbrev C3:Type:=(List UInt8)×(List UInt8)×Unit
abbrev DE:C3:=(([]:List UInt8),([]:List UInt8),())
abbrev H0:Ty:=.st (.cons (.int .i64) (.cons .str (.cons (.int .i64) (.cons (.int .i64) (.cons Xp .nl)))))
abbrev C4:Type:=Int×(List UInt8)×Int×Int×Hg×Unit
abbrev CS:C4:=((0:Int),([]:List UInt8),(0:Int),(0:Int),Z48,())
abbrev T28:Ty:=.st (.cons (.int .i64) (.cons (.int .i64) (.cons (.int .i64) (.cons (.sl DD) (.cons (.int .i64) (.cons Hy (.cons (.sl I9) (.cons (.sl H0) .nl))))))))
abbrev AJ:Type:=Int×Int×Int×(List AI)×Int×FN×(List C3)×(List C4)×Unit
abbrev Z28:AJ:=((0:Int),(0:Int),(0:Int),([]:List AI),(0:Int),Z24,([]:List C3),([]:List C4),())
abbrev T30:Ty:=.st (.cons (.int .i64) (.cons (.int .i64) (.cons (.int .i64) .nl)))
abbrev D30:Type:=Int×Int×Int×Unit
abbrev H2:Ty:=.st (.cons (.int .u8) (.cons (.int .i64) (.cons (.sl DS) .nl)))
abbrev C7:Type:=Int×Int×(List AA)×Unit
abbrev BH:C7:=((0:Int),(0:Int),([]:List AA),())
abbrev H3:Ty:=.st (.cons (.int .u8) (.cons (.int .u8) (.cons (.int .i64) .nl)))
abbrev DH:Type:=Int×Int×Int×Unit
abbrev BU:DH:=((0:Int),(0:Int),(0:Int),())
abbrev H4:Ty:=.st (.cons (.int .i64) (.cons (.int .i64) (.cons (.int .i64) (.cons (.sl H2) (.cons (.sl H3) .nl)))))
abbrev A8:Type:=Int×Int×Int×(List C7)×(List DH)×Unit
abbrev IA:Ty:=.st (.cons (.int .i64) (.cons (.int .i64) (.cons (.int .i64) (.cons (.sl (.sl AQ)) (.cons (.int .i64) .nl)))))
abbrev E0:Ty:=.st (.cons H4 (.cons (.arr 256 (.int .i64)) .nl))
abbrev AX:Type:=A8×(List Int)×Unit
abbrev Kh:Ty:=.st (.cons AQ (.cons AQ (.cons AQ (.cons AQ (.cons AQ .nl)))))
abbrev CZ:Type:=A0×A0×A0×A0×A0×Unit
abbrev BX:CZ:=(A1,A1,A1,A1,A1,())
abbrev T272:Ty:=.st (.cons (.int .u16) (.cons (.int .u16) (.cons (.int .u16) .nl)))
abbrev T275:Ty:=.st (.cons (.int .u32) (.cons (.int .u32) (.cons (.int .u32) .nl)))
abbrev T269:Ty:=.st (.cons (.sl T272) (.cons (.sl T275) (.cons (.int .i64) .nl)))
abbrev Q1{a b c d e f:Type}(y':a×b×c×d×e×f):f:=y'.2.2.2.2.2
abbrev Q3{a b c d e f g:Type}(y':a×b×c×d×e×f×g):g:=y'.2.2.2.2.2.2
abbrev Q0{a b c d e f g h:Type}(y':a×b×c×d×e×f×g×h):h:=y'.2.2.2.2.2.2.2
abbrev Q5{a b c d e f g h i:Type}(y':a×b×c×d×e×f×g×h×i):i:=y'.2.2.2.2.2.2.2.2
abbrev Q4{a b c d e f g h i j:Type}(y':a×b×c×d×e×f×g×h×i×j):j:=y'.2.2.2.2.2.2.2.2.2
abbrev Q2{a b c d e f g h i j k:Type}(y':a×b×c×d×e×f×g×h×i×j×k):k:=y'.2.2.2.2.2.2.2.2.2.2
abbrev Q7{a b c d e f g h i j k l:Type}(y':a×b×c×d×e×f×g×h×i×j×k×l):l:=y'.2.2.2.2.2.2.2.2.2.2.2
abbrev Q6{a b c d e f g h i j k l m:Type}(y':a×b×c×d×e×f×g×h×i×j×k×l×m):m:=y'.2.2.2.2.2.2.2.2.2.2.2.2
abbrev Q9{a b c d e f g h i j k l m n:Type}(y':a×b×c×d×e×f×g×h×i×j×k×l×m×n):n:=y'.2.2.2.2.2.2.2.2.2.2.2.2.2
abbrev Qb{a b c d e f g h i j k l m n o:Type}(y':a×b×c×d×e×f×g×h×i×j×k×l×m×n×o):o:=y'.2.2.2.2.2.2.2.2.2.2.2.2.2.2
abbrev Qa{a b c d e f g h i j k l m n o p:Type}(y':a×b×c×d×e×f×g×h×i×j×k×l×m×n×o×p):p:=y'.2.2.2.2.2.2.2.2.2.2.2.2.2.2.2
abbrev Qe{a b c d e f g h i j k l m n o p q:Type}(y':a×b×c×d×e×f×g×h×i×j×k×l×m×n×o×p×q):q:=y'.2.2.2.2.2.2.2.2.2.2.2.2.2.2.2.2
abbrev Qd{a b c d e f g h i j k l m n o p q r:Type}(y':a×b×c×d×e×f×g×h×i×j×k×l×m×n×o×p×q×r):r:=y'.2.2.2.2.2.2.2.2.2.2.2.2.2.2.2.2.2
abbrev Q8{a b c d e f g h i j k l m n o p q r s:Type}(y':a×b×c×d×e×f×g×h×i×j×k×l×m×n×o×p×q×r×s):s:=y'.2.2.2.2.2.2.2.2.2.2.2.2.2.2.2.2.2.2
abbrev Qi{a b c d e f g h i j k l m n o p q r s t:Type}(y':a×b×c×d×e×f×g×h×i×j×k×l×m×n×o×p×q×r×s×t):t:=y'.2.2.2.2.2.2.2.2.2.2.2.2.2.2.2.2.2.2.2
abbrev Qc{a b c d e f g h i j k l m n o p q r s t u:Type}(y':a×b×c×d×e×f×g×h×i×j×k×l×m×n×o×p×q×r×s×t×u):u:=y'.2.2.2.2.2.2.2.2.2.2.2.2.2.2.2.2.2.2.2.2
abbrev Qf{a b c d e f g h i j k l m n o p q r s t u v:Type}(y':a×b×c×d×e×f×g×h×i×j×k×l×m×n×o×p×q×r×s×t×u×v):v:=y'.2.2.2.2.2.2.2.2.2.2.2.2.2.2.2.2.2.2.2.2.2
abbrev Qg{a b c d e f g h i j k l m n o p q r s t u v w:Type}(y':a×b×c×d×e×f×g×h×i×j×k×l×m×n×o×p×q×r×s×t×u×v×w):w:=y'.2.2.2.2.2.2.2.2.2.2.2.2.2.2.2.2.2.2.2.2.2.2
abbrev Qk{a b c d e f g h i j k l m n o p q r s t u v w x:Type}(y':a×b×c×d×e×f×g×h×i×j×k×l×m×n×o×p×q×r×s×t×u×v×w×x):x:=y'.2.2.2.2.2.2.2.2.2.2.2.2.2.2.2.2.2.2.2.2.2.2.2
abbrev Ql{a b c d e f g h i j k l m n o p q r s t u v w x y:Type}(y':a×b×c×d×e×f×g×h×i×j×k×l×m×n×o×p×q×r×s×t×u×v×w×x×y):y:=y'.2.2.2.2.2.2.2.2.2.2.2.2.2.2.2.2.2.2.2.2.2.2.2.2
abbrev Qm{a b c d e f g h i j k l m n o p q r s t u v w x y z:Type}(y':a×b×c×d×e×f×g×h×i×j×k×l×m×n×o×p×q×r×s×t×u×v×w×x×y×z):z:=y'.2.2.2.2.2.2.2.2.2.2.2.2.2.2.2.2.2.2.2.2.2.2.2.2.2
abbrev Qh{a b c d e f g h i j k l m n o p q r s t u v w x y z A:Type}(y':a×b×c×d×e×f×g×h×i×j×k×l×m×n×o×p×q×r×s×t×u×v×w×x×y×z×A):A:=y'.2.2.2.2.2.2.2.2.2.2.2.2.2.2.2.2.2.2.2.2.2.2.2.2.2.2
abbrev Qj{a b c d e f g h i j k l m n o p q r s t u v w x y z A B:Type}(y':a×b×c×d×e×f×g×h×i×j×k×l×m×n×o×p×q×r×s×t×u×v×w×x×y×z×A×B):B:=y'.2.2.2.2.2.2.2.2.2.2.2.2.2.2.2.2.2.2.2.2.2.2.2.2.2.2.2
abbrev Vz{a b c d e:Type}(y:a×b×c×List d×e):=(y,y.2.2.2.1,len y.2.2.2.1,())
abbrev Va(y:AI)(a b):=((y.1,y.2.1,y.2.2.1,y.2.2.2.1,y.2.2.2.2.1,(Q1 y).1,(Q3 y).1,(Q0 y).1,(Q5 y).1,(Q4 y).1,a,b):AI)
abbrev Vb(y:AI)(a b):=((y.1,y.2.1,y.2.2.1,y.2.2.2.1,y.2.2.2.2.1,(Q1 y).1,(Q3 y).1,(Q0 y).1,(Q5 y).1,(Q4 y).1,(Q2 y).1,a,b):AI)
abbrev Vc(y:AI)(a b):=((y.1,y.2.1,y.2.2.1,y.2.2.2.1,y.2.2.2.2.1,(Q1 y).1,(Q3 y).1,(Q0 y).1,(Q5 y).1,(Q4 y).1,(Q2 y).1,(Q7 y).1,a,b):AI)
abbrev Vd(y:AI)(a b):=((y.1,y.2.1,y.2.2.1,y.2.2.2.1,y.2.2.2.2.1,(Q1 y).1,(Q3 y).1,(Q0 y).1,(Q5 y).1,(Q4 y).1,(Q2 y).1,(Q7 y).1,(Q6 y).1,a,b):AI)
abbrev Ve(y:AI)(a b):=((y.1,y.2.1,y.2.2.1,y.2.2.2.1,y.2.2.2.2.1,(Q1 y).1,(Q3 y).1,(Q0 y).1,(Q5 y).1,(Q4 y).1,(Q2 y).1,(Q7 y).1,(Q6 y).1,(Q9 y).1,a,b):AI)
abbrev Vf(y:AI)(a b):=((y.1,y.2.1,y.2.2.1,y.2.2.2.1,y.2.2.2.2.1,(Q1 y).1,(Q3 y).1,(Q0 y).1,(Q5 y).1,(Q4 y).1,(Q2 y).1,(Q7 y).1,(Q6 y).1,(Q9 y).1,(Qb y).1,(Qa y).1,(Qe y).1,(Qd y).1,(Q8 y).1,(Qi y).1,(Qc y).1,(Qf y).1,(Qg y).1,(Qk y).1,(Ql y).1,(Qm y).1,a,b):AI)
abbrev Vg(y:AI)(a b):=((y.1,y.2.1,y.2.2.1,y.2.2.2.1,y.2.2.2.2.1,(Q1 y).1,(Q3 y).1,(Q0 y).1,(Q5 y).1,(Q4 y).1,(Q2 y).1,(Q7 y).1,(Q6 y).1,(Q9 y).1,(Qb y).1,(Qa y).1,(Qe y).1,(Qd y).1,(Q8 y).1,(Qi y).1,(Qc y).1,(Qf y).1,(Qg y).1,(Qk y).1,(Ql y).1,(Qm y).1,(Qh y).1,a,b):AI)
abbrev Ab:Ty:=.int .i64
abbrev Ad:Ty:=.sl AQ
abbrev Ai:Sh:=.val (.sl DS)
abbrev Aj:Sh:=.val (.sl Ad)
abbrev Ak:Sh:=.val (.sl Ab)
abbrev Al:Sh:=.val T28
abbrev Ae:Sh:=.box T28 Al
abbrev Ao:Sh:=.val (.sl FO)
abbrev Ap:Sh:=.val (.int .u64)
abbrev Aq:Sh:=.val AQ
abbrev Au:Sh:=.own Ab 1005 false
abbrev Av:Sh:=.own Ad 0 false
abbrev Ay:Sh:=.own Ad 1012 false
abbrev Az:Sh:=.val Hz
abbrev Ba:Sh:=.val (.ptr E0)
abbrev Bc:Sh:=.val DD
abbrev Bd:Sh:=.val Ad
abbrev Be:Sh:=.val (.sl .str)
abbrev Bg:Sh:=.own Ab 0 false
abbrev Bh:Sh:=.own Ad 400000 false
abbrev Ac:Sh:=.box IA (.agg (.cons Ab (.cons Ab (.cons Ab (.cons (.sl Ad) (.cons Ab .nl))))) (.cons vI (.cons vI (.cons vI (.cons Bh (.cons vI .nl))))))
abbrev Bj:Sh:=.own AQ 400000 true
abbrev Bk:Sh:=.own DS 0 false
abbrev Bl:Ty:=.sl .bool
abbrev As:Sh:=.box Bl (.own .bool 400100 true)
abbrev At:Sh:=.box Bl (.own .bool 400200 true)
abbrev Bm:Sh:=.val H4
abbrev Ah:Sh:=.box H4 Bm
abbrev An:Sh:=.box E0 (.agg (.cons H4 (.cons (.arr 256 Ab) .nl)) (.cons Bm (.cons (.val (.arr 256 Ab)) .nl)))
abbrev Bo:Sh:=.box IA (.agg (.cons Ab (.cons Ab (.cons Ab (.cons (.sl Ad) (.cons Ab .nl))))) (.cons vI (.cons vI (.cons vI (.cons (.own Ad 403800 false) (.cons vI .nl))))))
abbrev Bp:Sh:=.box Hz Az
abbrev Bq:Sh:=.own AQ 1005 false
abbrev Br:Sh:=.own .bool 1003 true
abbrev Bt:Sh:=.box (.sl .str) (.own .str 400900 false)
abbrev Bu:Sh:=.own Kh 1007 false
abbrev Bv:Sh:=.own .str 1010 false
abbrev Bw:Sh:=.own DS 1004 false
abbrev Bx:Sh:=.own AQ 0 false
abbrev By:Sh:=.own (Hq Ab Ab) 400100 true
abbrev Bz:Sh:=.box AQ Aq
abbrev Ca:Sh:=.val Hy
abbrev Cb:Sh:=.box Ad (.own AQ 400200 false)
abbrev Cc:Sh:=.own AQ 1006 false
abbrev Cd:Sh:=.val Xp
abbrev Ce:Sh:=.own AQ 1016 false
abbrev Cf:Sh:=.own DS 1005 false
abbrev Cg:Sh:=.own DS 1008 false
abbrev Ch:Sh:=.own .str 1012 false
abbrev Ci:Sh:=.own DS 1008 true
abbrev Cj:Sh:=.val EP
abbrev Ck:Sh:=.own Ab 1014 false
abbrev Cl:Sh:=.own Ab 1015 false
abbrev Cm:Sh:=.box Ab vI
abbrev Cn:Sh:=.ref 12 E0
abbrev Co:Sh:=.own DD 0 true
abbrev Cp:Sh:=.box (.ptr E0) Ba
abbrev Cq:Sh:=.box H0 (.val H0)
abbrev Cr:Ty:=.sl DD
abbrev Ar:Sh:=.val Cr
abbrev Cs:Ty:=.sl I9
abbrev Bn:Sh:=.val Cs
abbrev Ct:Ty:=.sl H0
abbrev Aw:Sh:=.box T28 (.agg (.cons Ab (.cons Ab (.cons Ab (.cons Cr (.cons Ab (.cons Hy (.cons Cs (.cons Ct .nl)))))))) (.cons vI (.cons vI (.cons vI (.cons (.own DD 400300 true) (.cons vI (.cons Ca (.cons (.own I9 400302 false) (.cons (.own H0 400303 true) .nl)))))))))
abbrev Bf:Sh:=.val Ct
abbrev Aa:Sh:=.box T28 (.agg (.cons Ab (.cons Ab (.cons Ab (.cons Cr (.cons Ab (.cons Hy (.cons Cs (.cons Ct .nl)))))))) (.cons vI (.cons vI (.cons vI (.cons Ar (.cons vI (.cons (.agg (.cons Ab (.cons Ab (.cons (.sl Ab) .nl))) (.cons vI (.cons vI (.cons Ak .nl)))) (.cons Bn (.cons Bf .nl)))))))))
abbrev Ax:Sh:=.box T28 (.agg (.cons Ab (.cons Ab (.cons Ab (.cons Cr (.cons Ab (.cons Hy (.cons Cs (.cons Ct .nl)))))))) (.cons vI (.cons vI (.cons vI (.cons (.own DD 400300 true) (.cons vI (.cons Ca (.cons Bn (.cons Bf .nl)))))))))
abbrev Cu:Sh:=.own Ad 1007 false
abbrev Cv:Sh:=.own (Hq Ab Ab) 1010 true
abbrev Cw:Sh:=.own FO 0 false
abbrev Da:Sh:=.val Tn
abbrev Db:Sh:=.own EP 0 false
abbrev Dc:Sh:=.own I9 0 false
abbrev Dd:Sh:=.val DS
abbrev Bi:Sh:=.box DS Dd
abbrev De:Sh:=.val (.ptr DD)
abbrev Df:Sh:=.own H0 0 true
abbrev Dg:Sh:=.box Xp Cd
abbrev Dh:Sh:=.own .bool 1005 false
abbrev Di:Ty:=.sl H2
abbrev Dj:Sh:=.own DD 400200 true
abbrev Dk:Sh:=.own .bool 1005 true
abbrev Dl:Sh:=.own .str 1005 false
abbrev Dm:Sh:=.own .str 1013 false
abbrev Dn:Sh:=.own AQ 1005 true
abbrev Do:Sh:=.val .str
abbrev Dp:Sh:=.val Kh
abbrev Dq:Sh:=.own Ad 1020 false
abbrev Dr:Sh:=.own .str 0 false
abbrev Ds:Ty:=.int .u8
abbrev Bb:Sh:=.val Ds
abbrev Bs:Sh:=.box H2 (.agg (.cons Ds (.cons Ab (.cons (.sl DS) .nl))) (.cons Bb (.cons vI (.cons (.own DS 400400 false) .nl))))
abbrev Dt:Ty:=.sl H3
abbrev Af:Sh:=.box H4 (.agg (.cons Ab (.cons Ab (.cons Ab (.cons Di (.cons Dt .nl))))) (.cons vI (.cons vI (.cons vI (.cons (.own H2 400000 false) (.cons (.own H3 400001 false) .nl))))))
abbrev Ag:Sh:=.box H4 (.agg (.cons Ab (.cons Ab (.cons Ab (.cons Di (.cons Dt .nl))))) (.cons vI (.cons vI (.cons vI (.cons (.own H2 400100 false) (.cons (.own H3 400101 false) .nl))))))
abbrev Du:Sh:=.box Ad (.own AQ 400100 false)
abbrev Dv:Sh:=.own AQ 0 true
abbrev Dw:Ty:=.arr 65 Ab
abbrev Dx:Sh:=.own H0 3 true
abbrev Dy:Sh:=.val Ab
abbrev Dz:Sh:=.val (.sl EP)
abbrev Ea:Sh:=.val Bl
abbrev Eb:Sh:=.val (.ptr Ab)
def G0:List Int:=[0,0,0,0,0,0,0,0,0,1,1,1,1,1,0,0,0,0,0,0,0,0,0,0,0,0,0,0,0,0,0,0,1,0,0,0,0,0,0,0,0,0,0,0,0,0,0,0,0,0,0,0,0,0,0,0,0,0,0,0,0,0,0,0,0,0,0,0,0,0,0,0,0,0,0,0,0,0,0,0,0,0,0,0,0,0,0,0,0,0,0,0,0,0,0,0,0,0,0,0,0,0,0,0,0,0,0,0,0,0,0,0,0,0,0,0,0,0,0,0,0,0,0,0,0,0,0,0,0,0,0,0,0,0,0,0,0,0,0,0,0,0,0,0,0,0,0,0,0,0,0,0,0,0,0,0,0,0,0,0,0,0,0,0,0,0,0,0,0,0,0,0,0,0,0,0,0,0,0,0,0,0,0,0,0,0,0,0,0,0,0,0,0,0,0,0,0,0,0,0,0,0,0,0,0,0,0,0,0,0,0,0,0,0,0,0,0,0,0,0,0,0,0,0,0,0,0,0,0,0,0,0,0,0,0,0,0,0,0,0,0,0,0,0,0,0,0,0,0,0,0,0,0,0,0,0]
def G5:List Int:=[0,1608,3216,4821,6424,8022,9616,11204,12785,14359,15924,17479,19024,20557,22078,23586,25080,26558,28020,29466,30893,32303,33692,35062,36410,37736,39040,40320,41576,42806,44011,45190,46341,47464,48559,49624,50660,51665,52639,53581,54491,55368,56212,57022,57798,58538,59244,59914,60547,61145,61705,62228,62714,63162,63572,63944,64277,64571,64827,65043,65220,65358,65457,65516,65536]
instance:GlobTab:=⟨⟨[(0,⟨(.arr 256 Ds),G0⟩),(5,⟨Dw,G5⟩)]⟩⟩
set_option maxRecDepth 20000 in
def Xq:List UInt8:=[48,48,48,48,48,48,48,48,48,48,32,48,48,48,48,53,102,48,48,48,48,32,48,48,48,55,48,48,48,55,48,48,32,49,52,55,102,49,52,55,102,49,52,32,50,52,50,97,55,102,50,97,49,50,32,50,51,49,51,48,56,54,52,54,50,32,51,54,52,57,53,54,50,48,53,48,32,48,48,48,53,48,51,48,48,48,48,32,48,48,49,99,50,50,52,49,48,48,32,48,48,52,49,50,50,49,99,48,48,32,49,52,48,56,51,101,48,56,49,52,32,48,56,48,56,51,101,48,56,48,56,32,48,48,53,48,51,48,48,48,48,48,32,48,56,48,56,48,56,48,56,48,56,32,48,48,54,48,54,48,48,48,48,48,32,50,48,49,48,48,56,48,52,48,50,32,51,101,53,49,52,57,52,53,51,101,32,48,48,52,50,55,102,52,48,48,48,32,52,50,54,49,53,49,52,57,52,54,32,50,49,52,49,52,53,52,98,51,49,32,49,56,49,52,49,50,55,102,49,48,32,50,55,52,53,52,53,52,53,51,57,32,51,99,52,97,52,57,52,57,51,48,32,48,49,55,49,48,57,48,53,48,51,32,51,54,52,57,52,57,52,57,51,54,32,48,54,52,57,52,57,50,57,49,101,32,48,48,51,54,51,54,48,48,48,48,32,48,48,53,54,51,54,48,48,48,48,32,48,56,49,52,50,50,52,49,48,48,32,49,52,49,52,49,52,49,52,49,52,32,48,48,52,49,50,50,49,52,48,56,32,48,50,48,49,53,49,48,57,48,54,32,51,50,52,57,55,57,52,49,51,101,32,55,101,49,49,49,49,49,49,55,101,32,55,102,52,57,52,57,52,57,51,54,32,51,101,52,49,52,49,52,49,50,50,32,55,102,52,49,52,49,50,50,49,99,32,55,102,52,57,52,57,52,57,52,49,32,55,102,48,57,48,57,48,57,48,49,32,51,101,52,49,52,57,52,57,55,97,32,55,102,48,56,48,56,48,56,55,102,32,48,48,52,49,55,102,52,49,48,48,32,50,48,52,48,52,49,51,102,48,49,32,55,102,48,56,49,52,50,50,52,49,32,55,102,52,48,52,48,52,48,52,48,32,55,102,48,50,48,99,48,50,55,102,32,55,102,48,52,48,56,49,48,55,102,32,51,101,52,49,52,49,52,49,51,101,32,55,102,48,57,48,57,48,57,48,54,32,51,101,52,49,53,49,50,49,53,101,32,55,102,48,57,49,57,50,57,52,54,32,52,54,52,57,52,57,52,57,51,49,32,48,49,48,49,55,102,48,49,48,49,32,51,102,52,48,52,48,52,48,51,102,32,49,102,50,48,52,48,50,48,49,102,32,51,102,52,48,51,56,52,48,51,102,32,54,51,49,52,48,56,49,52,54,51,32,48,55,48,56,55,48,48,56,48,55,32,54,49,53,49,52,57,52,53,52,51,32,48,48,55,102,52,49,52,49,48,48,32,48,50,48,52,48,56,49,48,50,48,32,48,48,52,49,52,49,55,102,48,48,32,48,52,48,50,48,49,48,50,48,52,32,52,48,52,48,52,48,52,48,52,48,32,48,48,48,49,48,50,48,52,48,48,32,50,48,53,52,53,52,53,52,55,56,32,55,102,52,56,52,52,52,52,51,56,32,51,56,52,52,52,52,52,52,50,48,32,51,56,52,52,52,52,52,56,55,102,32,51,56,53,52,53,52,53,52,49,56,32,48,56,55,101,48,57,48,49,48,50,32,48,99,53,50,53,50,53,50,51,101,32,55,102,48,56,48,52,48,52,55,56,32,48,48,52,52,55,100,52,48,48,48,32,50,48,52,48,52,52,51,100,48,48,32,55,102,49,48,50,56,52,52,48,48,32,48,48,52,49,55,102,52,48,48,48,32,55,99,48,52,49,56,48,52,55,56,32,55,99,48,56,48,52,48,52,55,56,32,51,56,52,52,52,52,52,52,51,56,32,55,99,49,52,49,52,49,52,48,56,32,48,56,49,52,49,52,49,56,55,99,32,55,99,48,56,48,52,48,52,48,56,32,52,56,53,52,53,52,53,52,50,48,32,48,52,51,102,52,52,52,48,50,48,32,51,99,52,48,52,48,50,48,55,99,32,49,99,50,48,52,48,50,48,49,99,32,51,99,52,48,51,48,52,48,51,99,32,52,52,50,56,49,48,50,56,52,52,32,48,99,53,48,53,48,53,48,51,99,32,52,52,54,52,53,52,52,99,52,52,32,48,48,48,56,51,54,52,49,48,48,32,48,48,48,48,55,102,48,48,48,48,32,48,48,52,49,51,54,48,56,48,48,32,49,48,48,56,48,56,49,48,48,56]
set_option maxRecDepth 20000 in
def wD0:List UInt8:=[48,48,48,48,48,48,48,48,48,48,48,48,48,48,53,102,48,48,48,48,48,48,48,55,48,48,48,55,48,48,49,52,55,102,49,52,55,102,49,52,50,52,50,97,55,102,50,97,49,50,50,51,49,51,48,56,54,52,54,50,51,54,52,57,53,54,50,48,53,48,48,48,48,53,48,51,48,48,48,48,48,48,49,99,50,50,52,49,48,48,48,48,52,49,50,50,49,99,48,48,49,52,48,56,51,101,48,56,49,52,48,56,48,56,51,101,48,56,48,56,48,48,53,48,51,48,48,48,48,48,48,56,48,56,48,56,48,56,48,56,48,48,54,48,54,48,48,48,48,48,50,48,49,48,48,56,48,52,48,50,51,101,53,49,52,57,52,53,51,101,48,48,52,50,55,102,52,48,48,48,52,50,54,49,53,49,52,57,52,54,50,49,52,49,52,53,52,98,51,49,49,56,49,52,49,50,55,102,49,48,50,55,52,53,52,53,52,53,51,57,51,99,52,97,52,57,52,57,51,48,48,49,55,49,48,57,48,53,48,51,51,54,52,57,52,57,52,57,51,54,48,54,52,57,52,57,50,57,49,101,48,48,51,54,51,54,48,48,48,48,48,48,53,54,51,54,48,48,48,48,48,56,49,52,50,50,52,49,48,48,49,52,49,52,49,52,49,52,49,52,48,48,52,49,50,50,49,52,48,56,48,50,48,49,53,49,48,57,48,54,51,50,52,57,55,57,52,49,51,101,55,101,49,49,49,49,49,49,55,101,55,102,52,57,52,57,52,57,51,54,51,101,52,49,52,49,52,49,50,50,55,102,52,49,52,49,50,50,49,99,55,102,52,57,52,57,52,57,52,49,55,102,48,57,48,57,48,57,48,49,51,101,52,49,52,57,52,57,55,97,55,102,48,56,48,56,48,56,55,102,48,48,52,49,55,102,52,49,48,48,50,48,52,48,52,49,51,102,48,49,55,102,48,56,49,52,50,50,52,49,55,102,52,48,52,48,52,48,52,48,55,102,48,50,48,99,48,50,55,102,55,102,48,52,48,56,49,48,55,102,51,101,52,49,52,49,52,49,51,101,55,102,48,57,48,57,48,57,48,54,51,101,52,49,53,49,50,49,53,101,55,102,48,57,49,57,50,57,52,54,52,54,52,57,52,57,52,57,51,49,48,49,48,49,55,102,48,49,48,49,51,102,52,48,52,48,52,48,51,102,49,102,50,48,52,48,50,48,49,102,51,102,52,48,51,56,52,48,51,102,54,51,49,52,48,56,49,52,54,51,48,55,48,56,55,48,48,56,48,55,54,49,53,49,52,57,52,53,52,51,48,48,55,102,52,49,52,49,48,48,48,50,48,52,48,56,49,48,50,48,48,48,52,49,52,49,55,102,48,48,48,52,48,50,48,49,48,50,48,52,52,48,52,48,52,48,52,48,52,48,48,48,48,49,48,50,48,52,48,48,50,48,53,52,53,52,53,52,55,56,55,102,52,56,52,52,52,52,51,56,51,56,52,52,52,52,52,52,50,48,51,56,52,52,52,52,52,56,55,102,51,56,53,52,53,52,53,52,49,56,48,56,55,101,48,57,48,49,48,50,48,99,53,50,53,50,53,50,51,101,55,102,48,56,48,52,48,52,55,56,48,48,52,52,55,100,52,48,48,48,50,48,52,48,52,52,51,100,48,48,55,102,49,48,50,56,52,52,48,48,48,48,52,49,55,102,52,48,48,48,55,99,48,52,49,56,48,52,55,56,55,99,48,56,48,52,48,52,55,56,51,56,52,52,52,52,52,52,51,56,55,99,49,52,49,52,49,52,48,56,48,56,49,52,49,52,49,56,55,99,55,99,48,56,48,52,48,52,48,56,52,56,53,52,53,52,53,52,50,48,48,52,51,102,52,52,52,48,50,48,51,99,52,48,52,48,50,48,55,99,49,99,50,48,52,48,50,48,49,99,51,99,52,48,51,48,52,48,51,99,52,52,50,56,49,48,50,56,52,52,48,99,53,48,53,48,53,48,51,99,52,52,54,52,53,52,52,99,52,52,48,48,48,56,51,54,52,49,48,48,48,48,48,48,55,102,48,48,48,48,48,48,52,49,51,54,48,56,48,48,49,48,48,56,48,56,49,48,48,56]
theorem mN8:P1 Tryz.prog 277 z8:=xV3 Tryz.func277 (by kernel_rfl) (by kernel_rfl) (by kernel_rfl) (by kernel_rfl)
theorem mN9:P1 Tryz.prog 285 y8:=wB6 Tryz.func285 (by kernel_rfl) (by kernel_rfl) (by kernel_rfl) (by kernel_rfl)
def tys:List (Nat×Ty):=[(3,Ab),(4,.bool),(5,Ds),(9,.str),(21,(.int .i32)),(22,Cr),(23,(.sl Ab)),(25,Hy),(26,Cs),(27,Ct),(29,T28),(31,T30),(32,Ab),(46,Hz),(47,(.sl EP)),(49,Xp),(51,EP),(52,(.sl FO)),(53,(.sl DS)),(54,Ad),(56,Tn),(58,DD),(86,I9),(89,H0),(105,Bl),(120,FO),(123,AQ),(124,(.arr 3 AQ)),(126,DS),(149,(.sl Ad)),(157,Di),(158,Dt),(160,H4),(164,Ad),(167,AQ),(168,(.sl .str)),(169,(.int .u64)),(180,(.ptr IA)),(182,IA),(185,(.ptr E0)),(188,Ad),(192,AQ),(194,H2),(199,H3),(210,(.sl Kh)),(213,Kh),(218,(.arr 256 Ab)),(220,E0),(226,(.arr 256 Ds)),(252,Ad),(254,AQ),(255,(.int .u32)),(257,(.ptr T269)),(285,Dw)]
theorem PE:ED Tryz.prog tys:=by kernel_rfl
def maps:List (Nat×(Ty×Ty)):=[(80,(Ab,.bool)),(96,(Ab,Ab))]
def fts:List Nat:=[106]
theorem mixed:Tryz.prog.follows .mixedOrders:=by kernel_rfl
theorem cq {c:Ctx}(hs:NV Tryz.prog c.fns)(iu:(Jy Tryz.prog c.maps&&yP Tryz.prog c.fts):=by kernel_rfl)(he:c.exts=[]:=by rfl)(ht:ED Tryz.prog c.tys:=by exact PE)(hn:Nat.ble c.n BP:=by kernel_rfl)(ko:c.clones=[]:=by rfl):CtxOk Tryz.prog c:=wY ht iu hs he hn ko
theorem fq {c:Ctx}{f:Nat}{fn:Func}{ps:List (Nat×Sh)}{rs:Sh}{os:List (Nat×Sh)}{ok:AK ps->Prop}{F:AK ps->rs.den}{o:AK ps->En os}(hf:Tryz.prog.funcs[f]?=some fn)(hs:NV Tryz.prog c.fns)(iu:(Jy Tryz.prog c.maps&&yP Tryz.prog c.fts):=by kernel_rfl)(he:c.exts=[]:=by rfl)(ht:ED Tryz.prog c.tys:=by exact PE)(hn:Nat.ble c.n BP:=by kernel_rfl)(ko:c.clones=[]:=by rfl)(hk:PC fn c ps os:=by kernel_rfl)(iO:Fx (fn.body.getD .skip)=[]:=by kernel_rfl)(kt:∀x,I7 c (fn.body.getD .skip) fn.results.toList ps rs os x=some (ok x,F x,o x):=by intro x;kernel_rfl):SpecOk Tryz.prog f (fnSpec ps rs os ok F o):=Xl (wY ht iu hs he hn ko) mixed hf hk iO trivial kt
theorem fl {c:Ctx}{f:Nat}{fn:Func}{ps:List (Nat×Sh)}{rs:Sh}{os:List (Nat×Sh)}{ok:AK ps->Prop}{F:AK ps->rs.den}{o:AK ps->En os}(hc:CtxOk Tryz.prog c)(hf:Tryz.prog.funcs[f]?=some fn){bs:List Code}(hL:He Tryz.prog c bs)(hk:PC fn c ps os:=by kernel_rfl)(iO:Fx (fn.body.getD .skip)=bs:=by kernel_rfl)(kt:∀x,I7 c (fn.body.getD .skip) fn.results.toList ps rs os x=some (ok x,F x,o x):=by intro x;kernel_rfl):SpecOk Tryz.prog f (fnSpec ps rs os ok F o):=Xl hc mixed hf hk iO hL kt
theorem lq {c:Ctx}{body:Code}{sp:St->Option Out}{ly lx:List (Nat×Sh)}{g:AK ly->AK lx->Bool}{next:AK ly->AK lx->AK lx}{ok:AK ly->AK lx->Prop}{es:AK ly->AK lx->List Comp}(hc:CtxOk Tryz.prog c)(hs:sp=I6 ly lx g next ok es)(les:List (List (Nat×Sh)))(hb:Fx body=[]:=by kernel_rfl)(hw:Fu c.keep body:=by kernel_rfl)(hl:Go.Am.look (λ_=>none) c.loops (Iy body)=sp:=by kernel_rfl)(kt:∀y x,NU c body ly lx les y x=some (ok y x,g y x,y,next y x,es y x):=by intro y x;kernel_rfl):yY Tryz.prog c body:=y5 hc mixed hs les hb trivial hw hl kt
theorem lm {c:Ctx}{body:Code}{sp:St->Option Out}{ly lx:List (Nat×Sh)}{g:AK ly->AK lx->Bool}{next:AK ly->AK lx->AK lx}{ok:AK ly->AK lx->Prop}{es:AK ly->AK lx->List Comp}(hc:CtxOk Tryz.prog c)(hs:sp=I6 ly lx g next ok es)(les:List (List (Nat×Sh))){bs:List Code}(hL:He Tryz.prog c bs)(hb:Fx body=bs:=by kernel_rfl)(hw:Fu c.keep body:=by kernel_rfl)(hl:Go.Am.look (λ_=>none) c.loops (Iy body)=sp:=by kernel_rfl)(kt:∀y x,NU c body ly lx les y x=some (ok y x,g y x,y,next y x,es y x):=by intro y x;kernel_rfl):yY Tryz.prog c body:=y5 hc mixed hs les hb hL hw hl kt
@[reducible] def kb {n:Nat}{s:Am.Spec}(h:SpecOk Tryz.prog n s):Fb Tryz.prog:=⟨n,s,h⟩
@[reducible] def li:=Li.mk
theorem fx (X:Ctx->Ctx){f:Nat}{fn:Func}(hf:Tryz.prog.funcs[f]?=some fn)(n:Nat)(cs:List (Fb Tryz.prog):=[])(ls:List (Nat×Li):=[])(gh:List (Nat×List (Nat×Nat×Nat×Nat)):=[])(w:Bool:=false)(kp wr:List Nat:=[]){ps:List (Nat×Sh)}{rs:Sh}{os:List (Nat×Sh)}{ok:AK ps->Prop}{F:AK ps->rs.den}{o:AK ps->En os}(hX:(X (Cx tys (Fb.l cs) (Li.l ls) gh w n kp wr)).fns=Fb.l cs:=by rfl)(hk:PC fn (X (Cx tys (Fb.l cs) (Li.l ls) gh w n kp wr)) ps os:=by kernel_rfl)(hl:Tk (X (Cx tys (Fb.l cs) (Li.l ls) gh w n kp wr)) (Lu (fn.body.getD .skip)) ls=Tl ls:=by kernel_rfl)(kt:∀x,I7 (X (Cx tys (Fb.l cs) (Li.l ls) gh w n kp wr)) (fn.body.getD .skip) fn.results.toList ps rs os x=some (ok x,F x,o x):=by intro x;kernel_rfl)(iu:(Jy Tryz.prog (X (Cx tys (Fb.l cs) (Li.l ls) gh w n kp wr)).maps&&yP Tryz.prog (X (Cx tys (Fb.l cs) (Li.l ls) gh w n kp wr)).fts):=by kernel_rfl)(he:(X (Cx tys (Fb.l cs) (Li.l ls) gh w n kp wr)).exts=[]:=by rfl)(ht:ED Tryz.prog (X (Cx tys (Fb.l cs) (Li.l ls) gh w n kp wr)).tys:=by exact PE)(hn:Nat.ble (X (Cx tys (Fb.l cs) (Li.l ls) gh w n kp wr)).n BP:=by kernel_rfl)(ko:(X (Cx tys (Fb.l cs) (Li.l ls) gh w n kp wr)).clones=[]:=by rfl):SpecOk Tryz.prog f (fnSpec ps rs os ok F o):=wD6 (wY ht iu (by rw[hX];exact Fb.all cs) he hn ko) mixed hf hk hl kt
theorem fb {f:Nat}{fn:Func}(hf:Tryz.prog.funcs[f]?=some fn)(n:Nat)(cs:List (Fb Tryz.prog):=[])(ls:List (Nat×Li):=[])(gh:List (Nat×List (Nat×Nat×Nat×Nat)):=[])(w:Bool:=false)(kp wr:List Nat:=[]){ps:List (Nat×Sh)}{rs:Sh}{os:List (Nat×Sh)}{ok:AK ps->Prop}{F:AK ps->rs.den}{o:AK ps->En os}(hk:PC fn (Cx tys (Fb.l cs) (Li.l ls) gh w n kp wr) ps os:=by kernel_rfl)(hl:Tk (Cx tys (Fb.l cs) (Li.l ls) gh w n kp wr) (Lu (fn.body.getD .skip)) ls=Tl ls:=by kernel_rfl)(kt:∀x,I7 (Cx tys (Fb.l cs) (Li.l ls) gh w n kp wr) (fn.body.getD .skip) fn.results.toList ps rs os x=some (ok x,F x,o x):=by intro x;kernel_rfl)(iu:(Jy Tryz.prog (Cx tys (Fb.l cs) (Li.l ls) gh w n kp wr).maps&&yP Tryz.prog (Cx tys (Fb.l cs) (Li.l ls) gh w n kp wr).fts):=by kernel_rfl)(he:(Cx tys (Fb.l cs) (Li.l ls) gh w n kp wr).exts=[]:=by rfl)(ht:ED Tryz.prog (Cx tys (Fb.l cs) (Li.l ls) gh w n kp wr).tys:=by exact PE)(hn:Nat.ble (Cx tys (Fb.l cs) (Li.l ls) gh w n kp wr).n BP:=by kernel_rfl)(ko:(Cx tys (Fb.l cs) (Li.l ls) gh w n kp wr).clones=[]:=by rfl):SpecOk Tryz.prog f (fnSpec ps rs os ok F o):=wD6 (wY ht iu (Fb.all cs) he hn ko) mixed hf hk hl kt
abbrev SK (n:Nat)(s:Am.Spec):Prop:=SpecOk Tryz.prog n s
@[reducible] def Cy (f:List (Nat×Am.Spec)) (l:List (Nat×(St->Option Out))) (h:List (Nat×List (Nat×Nat×Nat×Nat))) (n:Nat):Ctx:=Cx tys f l h false n [] []
@[reducible] def Cz (f:List (Nat×Am.Spec)) (l:List (Nat×(St->Option Out))) (h:List (Nat×List (Nat×Nat×Nat×Nat))) (n:Nat):Ctx:=Cx tys f l h true n [] []
@[reducible] def AU (A R:Sh) (ok:A.den->Prop) (f:A.den->R.den):Am.Spec:=fnSpec [(0,A)] R [] (λx=>ok x.1) (λx=>f x.1) (λ_=>())
@[reducible] def BG (A B R:Sh) (ok:A.den->B.den->Prop) (f:A.den->B.den->R.den):Am.Spec:=fnSpec [(0,A),(1,B)] R [] (λx=>ok x.1 x.2.1) (λx=>f x.1 x.2.1) (λ_=>())
@[reducible] def DT (A B C R:Sh) (ok:A.den->B.den->C.den->Prop) (f:A.den->B.den->C.den->R.den):Am.Spec:=fnSpec [(0,A),(1,B),(2,C)] R [] (λx=>ok x.1 x.2.1 x.2.2.1) (λx=>f x.1 x.2.1 x.2.2.1) (λ_=>())
@[reducible] def Fy (A B C D R:Sh) (ok:A.den->B.den->C.den->D.den->Prop) (f:A.den->B.den->C.den->D.den->R.den):Am.Spec:=fnSpec [(0,A),(1,B),(2,C),(3,D)] R [] (λx=>ok x.1 x.2.1 x.2.2.1 x.2.2.2.1) (λx=>f x.1 x.2.1 x.2.2.1 x.2.2.2.1) (λ_=>())
@[reducible] def sp5 (A B C D E R:Sh) (ok:A.den->B.den->C.den->D.den->E.den->Prop) (f:A.den->B.den->C.den->D.den->E.den->R.den):Am.Spec:=fnSpec [(0,A),(1,B),(2,C),(3,D),(4,E)] R [] (λx=>ok x.1 x.2.1 x.2.2.1 x.2.2.2.1 x.2.2.2.2.1) (λx=>f x.1 x.2.1 x.2.2.1 x.2.2.2.1 x.2.2.2.2.1) (λ_=>())
@[reducible] def sp6 (A B C D E F R:Sh) (ok:A.den->B.den->C.den->D.den->E.den->F.den->Prop) (f:A.den->B.den->C.den->D.den->E.den->F.den->R.den):Am.Spec:=fnSpec [(0,A),(1,B),(2,C),(3,D),(4,E),(5,F)] R [] (λx=>ok x.1 x.2.1 x.2.2.1 x.2.2.2.1 x.2.2.2.2.1 (Q1 x).1) (λx=>f x.1 x.2.1 x.2.2.1 x.2.2.2.1 x.2.2.2.2.1 (Q1 x).1) (λ_=>())
def mO (a:List UInt8)(b:Int):Prop×Int:=
 (True,Lib.indexByte a (toNat b).toUInt8)
def qJ1 a b:=(mO a b).1
def Xr a b:=(mO a b).2
instance (a b):Decidable (qJ1 a b):=by unfold qJ1 mO;dsimp only;infer_instance
def oS9:=BG vS Bb vI qJ1 Xr
def nV8:Ctx:={ Cx tys [] [] [] false 8 [] [] with exts:=[(277,z8)] }
theorem nV9:CtxOk Tryz.prog nV8:=xZ8 PE rfl trivial ⟨mN8,trivial⟩ (by kernel_rfl)
theorem mO0:SK 245 oS9:=fl nV9 Tryz.func245 (bs:=[]) trivial
def Ki (a b:List UInt8):Int:=Lib.indexByte a (b.headD 0)
def oT (_p0 a:List UInt8):Prop:=length a=1
def mO1:List (Nat×Sh):=[(0,Do),(1,Do)]
def mO2:Sh:=Dy
def mO3:List (Nat×Sh):=[]
def oT0:Am.Spec:=fnSpec mO1 mO2 mO3 (λx=>oT x.1 x.2.1) (λx=>Ki x.1 x.2.1) (λ_=>())
theorem mO4:SpecOk Tryz.prog 288 oT0:=wA7 (F:=Ki) ⟨_,Tryz.func288,by kernel_rfl,by decide⟩ (λs c w=>Tryz.strings_Index_one s c w)
def Xs (_p0:List UInt8)(_p1:Int):(List (List UInt8)):=([]:List (List UInt8))
def oT1 (_p0:List UInt8)(_p1:Int):Prop:=False
def mO5:List (Nat×Sh):=[(0,vS),(1,vI)]
def mO6:Sh:=Be
def mO7:List (Nat×Sh):=[]
def oT2:Am.Spec:=fnSpec mO5 mO6 mO7 (λx=>oT1 x.1 x.2.1) (λx=>Xs x.1 x.2.1) (λ_=>())
theorem mO8:SpecOk Tryz.prog 289 oT2:=xY5 Tryz.func289 (by kernel_rfl) (by decide)
def Kj (a b:List UInt8):Int:=((Lib.countByte a (b.headD 0):Nat):Int)
def oT3 (_p0 a:List UInt8):Prop:=length a=1
def mO9:List (Nat×Sh):=[(0,Do),(1,Do)]
def mP:Sh:=Dy
def mP0:List (Nat×Sh):=[]
def oT4:Am.Spec:=fnSpec mO9 mP mP0 (λx=>oT3 x.1 x.2.1) (λx=>Kj x.1 x.2.1) (λ_=>())
theorem mP1:SpecOk Tryz.prog 290 oT4:=wA7 (F:=Kj) ⟨_,Tryz.func290,by kernel_rfl,by decide⟩ (λs c w=>Tryz.strings_Count_one s c w)
abbrev To:Type:=((List UInt8)×Int×Int×Unit)
abbrev Xt:Type:=((List UInt8)×(List (List UInt8))×Int×Unit)
def Tp (y:To)(x:Xt):Vn Xt:=
 let i:=y.1
 let k:=y.2.1
 let e:=x.1
 let j:=x.2.1
 let a:=x.2.2.1
 let f:Bool:=a<y.2.2.1
 let b:=Ki e i
 let g:Bool:=b<0
 let c:=b+k
 let h:=len i
 let d:=b+h
 (f->oT e i/\(!g->A6 (b+k)/\(0<=c/\c<=len e)/\A7 a (len j)/\a<len j/\A6 (b+h)/\(0<=d/\d<=len e)/\A6 (a+1)),f&&(!g),(drop (toNat d) e,set j (toNat a) (take (toNat c) e),a+1,()))
def tS7 y x:=(Tp y x).1
def Kk y x:=(Tp y x).2.1
def Kl y x:=(Tp y x).2.2
def tX2 (y:To)(x:Xt):(List UInt8):=
 x.1
def tX3 (y:To)(x:Xt):(List (List UInt8)):=
 x.2.1
def tX4 (y:To)(x:Xt):Int:=
 x.2.2.1
def rF7:List (Nat×Sh):=[(0,vS),(9,(.own .str 1009 true)),(10,vI)]
def pF9:=li [(1,vS),(2,vI),(3,vI)] [(0,vS),(9,(.own .str 1009 true)),(10,vI)] Kk Kl tS7 (λy x=>[ex 2 none rF7 ((tX2 y x),(tX3 y x),(tX4 y x),())]) [rF7]
def nW (n o:List UInt8)(p q:Int):Prop×(List (List UInt8)):=
 let i:=q==0
 let g:=o==[]
 let j:Bool:=q<0
 let k:=Kj n o
 let l:=len n
 let d:=GX (cond j (k+1) q) (l+1)
 let c:=(o,p,d-1,())
 let m:=(n,List.replicate (toNat d) ([]:List UInt8),(0:Int),())
 let f:=A3 (Kk c) (Kl c) m
 let b:=tX3 c f
 let a:=tX4 c f
 let e:=set b (toNat a) (tX2 c f)
 let h:=a+1
 (!i->(g->oT1 n q)/\(!g->(j->oT3 n o/\A6 (k+1))/\A6 (l+1)/\(0<=d/\d<=d/\d<=4294967296)/\A6 (d-1)/\AB (Kk c) (Kl c) (tS7 c) m/\A7 a (len b)/\a<len b/\A6 (a+1)/\0<=h/\h<=len e),cond i [] (cond g (Xs n q) (take (toNat h) e)))
def pG a b c d:=(nW a b c d).1
def PF a b c d:=(nW a b c d).2
theorem mP2:SK 275 (Fy vS vS vI vI Be pG PF):=fb Tryz.func275 66 [kb mO4,kb mO8,kb mP1] [(11,pF9)] [(17,[(4,0,31,1009)]),(36,[(1,9,0,0)])] false [] [31]
def nW0 (a b:List UInt8):Prop×(List (List UInt8)):=
 (pG a b 0 (-1:Int),PF a b 0 (-1:Int))
def Xu a b:=(nW0 a b).1
def H5 a b:=(nW0 a b).2
def oT5:=BG vS vS Be Xu H5
theorem mP3:SK 240 (BG vS vS Be Xu H5):=fb Tryz.func240 8 [kb mP2]
def Xv (e f:Int):Prop×Int:=
 let d:=f==0
 let b:=cond (e==(-9223372036854775808)) (f==(-1)) false
 let c:=wrap .i64 (Int.tdiv e f)
 let a:=cond d 0 (cond b 9223372036854775807 (cond (cond (Int.tmod e f !=0) (!(Ty.eqb .bool (decide (e<0)) (decide (f<0)))) false) (wrap .i64 (c-1)) c))
 (!d->!b->f≠0/\f≠0,a)
def PG a b:=(Xv a b).1
def DJ a b:=(Xv a b).2
theorem oT7:SK 159 (BG vI vI vI PG DJ):=fb Tryz.func159 31 [] [] [] true
def nW1 (f g:Int):Prop×Int:=
 let d:=g==0
 let c:=cond (f==(-9223372036854775808)) (g==(-1)) false
 let b:=DJ f g
 let a:=wrap .i64 (f-(wrap .i64 (g*b)))
 let e:=cond (cond (cond (g>0) (decide (a≥wrap .i64 (g-a))) false) true (cond (g<0) (decide (a<=wrap .i64 (g-a))) false)) (wrap .i64 (b+1)) b
 (!d->!c->PG f g,cond d 0 (cond c 9223372036854775807 e))
def Ep a b:=(nW1 a b).1
def AS a b:=(nW1 a b).2
theorem Km:SK 130 (BG vI vI vI Ep AS):=fb Tryz.func130 46 [kb oT7] [] [] true
abbrev vX1:Type:=(Int×Int×(List DH)×Int×Unit)
abbrev AD:Type:=(Int×Unit)
def Tq (y:vX1)(x:AD):Vm AD:=
 let d:=y.2.2.1
 let a:=x.1
 let b:Bool:=a<y.2.2.2.1
 let e:=nth d a BU
 let c:=cond (e.1==y.1) (e.2.1==y.2.1) false
 (b->A7 a (len d)/\(!c->A6 (a+1)),b&&(!c),(a+1,()),b&&c,!b)
def rZ2 y x:=(Tq y x).1
def tX5 y x:=(Tq y x).2.1
def uZ2 y x:=(Tq y x).2.2.1
def rZ3 y x:=(Tq y x).2.2.2.1
def oF7 y x:=(Tq y x).2.2.2.2
def sS5 (y:vX1)(x:AD):Int:=
 (nth y.2.2.1 x.1 BU).2.2.1
def oF8:=li [(7,Bb),(8,Bb),(33,(.val Dt)),(34,vI)] [(35,vI)] tX5 uZ2 rZ2 (λy x=>[ex 1 (some (rZ3 y x)) [(6,vI)] ((sS5 y x),()),ex 2 (some (oF7 y x)) [] ()]) [[(6,vI)],[]]
def lS6 (d:AX)(e f:Int):Prop×Int:=
 let a:=((nth d.1.2.2.2.1 e BH).1,(nth d.1.2.2.2.1 f BH).1,d.1.2.2.2.2.1,len d.1.2.2.2.2.1,())
 let c:=((0:Int),())
 let b:=A3 (tX5 a) (uZ2 a) c
 (A7 e (len d.1.2.2.2.1)/\A7 f (len d.1.2.2.2.1)/\AB (tX5 a) (uZ2 a) (rZ2 a) c,cond (rZ3 a b) (sS5 a b) 0)
def qJ2 a b c:=(lS6 a b c).1
def Kn a b c:=(lS6 a b c).2
theorem mP4:SK 242 (DT Ba vI vI vI qJ2 Kn):=fb Tryz.func242 52 [] [(3,oF8)]
abbrev uK1:Type:=(AX×(List UInt8)×Int×Unit)
abbrev vN1:Type:=((List A0)×Int×Int×Unit)
def qJ3 (y:uK1)(x:vN1):Vn vN1:=
 let f:=y.1
 let s:=y.2.1
 let e:=x.1
 let q:=x.2.1
 let b:=x.2.2.1
 let g:Bool:=b<y.2.2.1
 let h:=wD s b
 let a:=nth f.2.1 h 0
 let d:Bool:=a<0
 let i:Bool:=len e>0
 let j:=len e
 let k:=j-1
 let l:=nth e k A1
 let m:=Kn f l.1 a
 let r:=cond i (q+m) q
 let n:=([(a,r,())]:List A0)
 let o:=nth f.1.2.2.2.1 a BH
 let c:=d||(!d)
 (g->A7 b (len s)/\A7 h 256/\(!d->(i->A6 (j-1)/\A7 k (len e)/\qJ2 f l.1 a/\A6 (q+m))/\((length e+length n:Nat):Int)<=4294967296/\A7 a (len f.1.2.2.2.1)/\A6 (r+o.2.1))/\(c->A6 (b+1)),g&&c,(cond d e (e++n),cond d q (r+o.2.1),b+1,()))
def rZ4 y x:=(qJ3 y x).1
def Tt y x:=(qJ3 y x).2.1
def vA y x:=(qJ3 y x).2.2
def uZ3 (y:uK1)(x:vN1):(List A0):=
 x.1
def uZ4 (y:uK1)(x:vN1):Int:=
 x.2.1
def rZ5:List (Nat×Sh):=[(6,Cc),(7,vI)]
def oF9:=li [(0,Ba),(1,vS),(11,vI)] [(6,Cc),(7,vI),(12,vI)] Tt vA rZ4 (λy x=>[ex 2 none rZ5 ((uZ3 y x),(uZ4 y x),())]) [rZ5]
def lS7 (d:AX)(e:List UInt8):Prop×((List A0)×Int×Unit):=
 let a:=(d,e,len e,())
 let c:=(([]:List A0),(0:Int),(0:Int),())
 let b:=A3 (Tt a) (vA a) c
 (AB (Tt a) (vA a) (rZ4 a) c,(uZ3 a b,uZ4 a b,()))
def Xw a b:=(lS7 a b).1
def BZ a b:=(lS7 a b).2
theorem oT8:SK 207 (BG Ba vS (.tup (.cons Bx (.cons vI .nl))) Xw BZ):=fb Tryz.func207 60 [kb mP4] [(4,oF9)] [(21,[(4,0,45,1006)]),(27,[(4,0,1006,0)])]
def lS8 (c:AX)(d:List UInt8)(e:Int):Prop×Int:=
 let a:=BZ c d
 let b:=e*a.2.1
 (Xw c d/\A6 (e*a.2.1)/\Ep b c.1.1,AS b c.1.1)
def PH a b c:=(lS8 a b c).1
def G7 a b c:=(lS8 a b c).2
def oT9:=DT Ba vS vI vI PH G7
theorem mP5:SK 241 (DT Ba vS vI vI PH G7):=fb Tryz.func241 24 [kb Km,kb oT8] [] [(3,[(4,0,12,1007)])]
abbrev vV2:Type:=(AX×Int×Int×(List (List UInt8))×Int×Unit)
abbrev NY:Type:=((List (List UInt8))×(List UInt8)×Int×Unit)
def rG (y:vV2)(x:NY):Vn NY:=
 let l:=y.1
 let m:=y.2.1
 let n:=y.2.2.1
 let f:=y.2.2.2.1
 let k:=x.1
 let b:=x.2.1
 let a:=x.2.2.1
 let g:Bool:=a<y.2.2.2.2.1
 let c:=nth f a []
 let h:=b++([32]:List UInt8)
 let d:=h++c
 let i:=n==0
 let e:=cond i true (G7 l d m<=n)
 let j:=([b]:List (List UInt8))
 (g->A7 a (len f)/\((length b+length ([32]:List UInt8):Nat):Int)<=9223372036854775807/\((length h+length c:Nat):Int)<=9223372036854775807/\(!i->PH l d m)/\(e=false->((length k+length j:Nat):Int)<=4294967296)/\A6 (a+1),g,(cond e k (k++j),cond e d c,a+1,()))
def rG0 y x:=(rG y x).1
def NZ y x:=(rG y x).2.1
def Oa y x:=(rG y x).2.2
def vR5 (y:vV2)(x:NY):(List (List UInt8)):=
 x.1
def uP (y:vV2)(x:NY):(List UInt8):=
 x.2.1
def rG1:List (Nat×Sh):=[(4,Cp),(6,Cm),(7,Cm),(9,Bt),(12,vS)]
def tX6:St->Option Out:=I6 [(4,Cp),(6,Cm),(7,Cm),(25,Be),(26,vI)] [(9,Bt),(12,vS),(27,vI)] NZ Oa rG0 λy x=>[ex 4 none rG1 (y.1,y.2.1,y.2.2.1,(vR5 y x),(uP y x),())]
def oU (h:AX)(i j:Int)(k:(List (List UInt8)))(l:List UInt8):Prop×(Unit)×(AX×Int×Int×(List (List UInt8))×Unit):=
 let b:=H5 l ([32]:List UInt8)
 let d:=drop (toNat 1) b
 let c:=(h,i,j,d,len d,())
 let g:=(k,nth b 0 [],(0:Int),())
 let f:=A3 (NZ c) (Oa c) g
 let a:=vR5 c f
 let e:=([uP c f]:List (List UInt8))
 (Xu l ([32]:List UInt8)/\A7 0 (len b)/\(0<=(1:Int)/\(1:Int)<=len b)/\AB (NZ c) (Oa c) (rG0 c) g/\((length a+length e:Nat):Int)<=4294967296,(),(h,i,j,a++e,()))
def Tu a b c d e:=(oU a b c d e).1
def Tv a b c d e:=(oU a b c d e).2.2
def Xx:List (Nat×Sh):=[(4,Cp),(6,Cm),(7,Cm),(9,Bt),(10,vS)]
def pV:Sh:=(.tup .nl)
def rA6:List (Nat×Sh):=[(4,Cp),(6,Cm),(7,Cm),(9,Bt)]
def Xy:Ctx:=Cx tys [(240,oT5),(241,oT9)] [(7,tX6)] [(25,[(4,0,49,400900)]),(31,[(4,0,55,400900)])] false 57 [4,6,7,9] []
theorem qW7:CtxOk Tryz.prog Xy:=cq ⟨mP3,mP5,trivial⟩
noncomputable def Mh:Code:=(xQ (Tryz.f206.body.getD .skip)).getD .skip
noncomputable def pV0:Code:=Tj Mh 0
theorem pG0:yY Tryz.prog Xy pV0:=y5 qW7 mixed (sp:=tX6) rfl [rG1] (bs:=[]) (by kernel_rfl) trivial (by kernel_rfl) (by kernel_rfl) λy x=>by kernel_rfl
theorem nW2:∀x,xV4 Xy Mh (Eo Xx x):=λx=>by kernel_rfl
theorem oU0:∀x,I7 Xy Mh [] Xx pV rA6 x=some (Tu x.1 x.2.1 x.2.2.1 x.2.2.2.1 x.2.2.2.2.1,(),Tv x.1 x.2.1 x.2.2.1 x.2.2.2.1 x.2.2.2.2.1):=λx=>by kernel_rfl
theorem nW3:xX7 Tryz.prog Xy Mh Xx rA6 (λx=>Tu x.1 x.2.1 x.2.2.1 x.2.2.2.1 x.2.2.2.2.1) (λx=>Tv x.1 x.2.1 x.2.2.1 x.2.2.2.1 x.2.2.2.2.1):=wA9 (rs:=pV) (F:=λ_=>()) qW7 mixed (bs:=[pV0]) (by kernel_rfl) ⟨pG0,trivial⟩ (by kernel_rfl) nW2 oU0
end Go.Proofs.YtkmmjpnfhaecdaaGreatDoor.Am
