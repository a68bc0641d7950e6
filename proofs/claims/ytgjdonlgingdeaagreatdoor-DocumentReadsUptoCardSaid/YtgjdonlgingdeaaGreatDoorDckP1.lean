/- Printed by program: the functions that the statements reach, as plain functions, and their contracts. No condition. -/
import Derived.Test.YtgjdonlgingdeaaGreatDoorMach4
import Derived.Test.YtgjdonlgingdeaaGreatDoorDckI
import Derived.Test.YtgjdonlgingdeaaGreatDoorDckH
import Derived.Test.YtgjdonlgingdeaaGreatDoorProg
set_option linter.unusedVariables false
set_option synthInstance.maxSize 4000
set_option synthInstance.maxHeartbeats 400000
namespace Go.Proofs.YtgjdonlgingdeaaGreatDoor.Am
open Go Go.Am Go.Proofs
open Go.IntKind (wrap)
open _root_.Int (toNat)
open _root_.List (drop length set take)
abbrev Vm(a:Type):Type:=Prop×Bool×a×Bool×Bool
abbrev Vn(a:Type):Type:=Prop×Bool×a
abbrev JJ:Ty:=.st (.cons (.int .i64) (.cons (.int .i64) (.cons (.sl (.int .i64)) .nl)))
abbrev HG:Type:=Int×Int×(List Int)×Unit
abbrev Z24:HG:=((0:Int),(0:Int),([]:List Int),())
abbrev HH:Ty:=.st (.cons (.int .i64) (.cons (.int .i64) (.cons (.int .i64) (.cons (.int .i64) (.cons (.int .i64) (.cons (.int .i64) .nl))))))
abbrev C3:Type:=Int×Int×Int×Int×Int×Int×Unit
abbrev La:C3:=((0:Int),(0:Int),(0:Int),(0:Int),(0:Int),(0:Int),())
abbrev GM:Ty:=.st (.cons (.int .i64) (.cons (.int .i64) (.cons (.int .i64) (.cons (.int .i64) .nl))))
abbrev CE:Type:=Int×Int×Int×Int×Unit
abbrev JK:CE:=((0:Int),(0:Int),(0:Int),(0:Int),())
abbrev Pm:Ty:=.st (.cons (.int .i64) (.cons (.int .i64) (.cons (.sl GM) .nl)))
abbrev Im:Type:=Int×Int×(List CE)×Unit
abbrev Z48:Im:=((0:Int),(0:Int),([]:List CE),())
abbrev Io:Ty:=.st (.cons (.int .i64) (.cons GM .nl))
abbrev AX:Type:=Int×CE×Unit
abbrev CO:AX:=((0:Int),JK,())
abbrev AQ:Ty:=.st (.cons (.int .i64) (.cons (.int .i64) .nl))
abbrev A0:Type:=Int×Int×Unit
abbrev A1:A0:=((0:Int),(0:Int),())
abbrev Ef:Ty:=.st (.cons (.int .i64) (.cons (.arr 3 AQ) .nl))
abbrev A8:Type:=Int×(List A0)×Unit
abbrev A4:A8:=((0:Int),(List.replicate 3 A1),())
abbrev SU:Ty:=.st (.cons (.int .i64) (.cons (.int .i64) (.cons (.int .i64) (.cons (.sl AQ) .nl))))
abbrev Jd:Type:=Int×Int×Int×(List A0)×Unit
abbrev Z55:Jd:=((0:Int),(0:Int),(0:Int),([]:List A0),())
abbrev Ff:Ty:=.st (.cons (.int .i64) (.cons (.int .i64) (.cons (.int .i64) (.cons .str (.cons .bool (.cons .bool (.cons .bool (.cons (.int .i64) (.cons (.int .i64) (.cons JJ (.cons HH (.cons (.int .i64) (.cons Pm (.cons GM (.cons (.int .i64) (.cons (.sl (.int .i64)) (.cons (.int .i64) (.cons (.sl Io) (.cons (.sl Ef) (.cons (.int .i64) (.cons (.int .i64) (.cons (.int .i64) (.cons (.int .i64) (.cons .str (.cons (.int .i64) (.cons (.int .i64) (.cons (.int .i64) (.cons SU .nl))))))))))))))))))))))))))))
abbrev AK:Type:=Int×Int×Int×(List UInt8)×Bool×Bool×Bool×Int×Int×HG×C3×Int×Im×CE×Int×(List Int)×Int×(List AX)×(List A8)×Int×Int×Int×Int×(List UInt8)×Int×Int×Int×Jd×Unit
abbrev A9:AK:=((0:Int),(0:Int),(0:Int),([]:List UInt8),false,false,false,(0:Int),(0:Int),Z24,La,(0:Int),Z48,JK,(0:Int),([]:List Int),(0:Int),([]:List AX),([]:List A8),(0:Int),(0:Int),(0:Int),(0:Int),([]:List UInt8),(0:Int),(0:Int),(0:Int),Z55,())
abbrev SV:Ty:=.st (.cons .str (.cons .str .nl))
abbrev C4:Type:=(List UInt8)×(List UInt8)×Unit
abbrev DO:C4:=(([]:List UInt8),([]:List UInt8),())
abbrev LU:Ty:=.st (.cons (.int .i64) (.cons .str (.cons (.int .i64) (.cons (.int .i64) (.cons Pm .nl)))))
abbrev C5:Type:=Int×(List UInt8)×Int×Int×Im×Unit
abbrev FR:C5:=((0:Int),([]:List UInt8),(0:Int),(0:Int),Z48,())
abbrev T28:Ty:=.st (.cons (.int .i64) (.cons (.int .i64) (.cons (.int .i64) (.cons (.sl Ff) (.cons (.int .i64) (.cons JJ (.cons (.sl SV) (.cons (.sl LU) .nl))))))))
abbrev AN:Type:=Int×Int×Int×(List AK)×Int×HG×(List C4)×(List C5)×Unit
abbrev Z28:AN:=((0:Int),(0:Int),(0:Int),([]:List AK),(0:Int),Z24,([]:List C4),([]:List C5),())
abbrev Hb:Ty:=.st (.cons (.int .u8) (.cons (.int .i64) (.cons (.sl Ef) .nl)))
abbrev C6:Type:=Int×Int×(List A8)×Unit
abbrev BG:C6:=((0:Int),(0:Int),([]:List A8),())
abbrev Hc:Ty:=.st (.cons (.int .u8) (.cons (.int .u8) (.cons (.int .i64) .nl)))
abbrev DD:Type:=Int×Int×Int×Unit
abbrev BV:DD:=((0:Int),(0:Int),(0:Int),())
abbrev Hd:Ty:=.st (.cons (.int .i64) (.cons (.int .i64) (.cons (.int .i64) (.cons (.sl Hb) (.cons (.sl Hc) .nl)))))
abbrev A7:Type:=Int×Int×Int×(List C6)×(List DD)×Unit
abbrev Ip:Ty:=.st (.cons (.int .i64) (.cons (.int .i64) (.cons (.int .i64) (.cons (.sl (.sl AQ)) (.cons (.int .i64) .nl)))))
abbrev Eg:Ty:=.st (.cons Hd (.cons (.arr 256 (.int .i64)) .nl))
abbrev AU:Type:=A7×(List Int)×Unit
abbrev JL:Ty:=.st (.cons AQ (.cons AQ (.cons AQ (.cons AQ (.cons AQ .nl)))))
abbrev CW:Type:=A0×A0×A0×A0×A0×Unit
abbrev BY:CW:=(A1,A1,A1,A1,A1,())
abbrev T266:Ty:=.st (.cons (.int .u16) (.cons (.int .u16) (.cons (.int .u16) .nl)))
abbrev T269:Ty:=.st (.cons (.int .u32) (.cons (.int .u32) (.cons (.int .u32) .nl)))
abbrev T263:Ty:=.st (.cons (.sl T266) (.cons (.sl T269) (.cons (.int .i64) .nl)))
abbrev Q1{a b c d e f:Type}(y':a×b×c×d×e×f):f:=y'.2.2.2.2.2
abbrev Q3{a b c d e f g:Type}(y':a×b×c×d×e×f×g):g:=y'.2.2.2.2.2.2
abbrev Q0{a b c d e f g h:Type}(y':a×b×c×d×e×f×g×h):h:=y'.2.2.2.2.2.2.2
abbrev Q5{a b c d e f g h i:Type}(y':a×b×c×d×e×f×g×h×i):i:=y'.2.2.2.2.2.2.2.2
abbrev Q4{a b c d e f g h i j:Type}(y':a×b×c×d×e×f×g×h×i×j):j:=y'.2.2.2.2.2.2.2.2.2
abbrev Q2{a b c d e f g h i j k:Type}(y':a×b×c×d×e×f×g×h×i×j×k):k:=y'.2.2.2.2.2.2.2.2.2.2
abbrev Q7{a b c d e f g h i j k l:Type}(y':a×b×c×d×e×f×g×h×i×j×k×l):l:=y'.2.2.2.2.2.2.2.2.2.2.2
abbrev Q6{a b c d e f g h i j k l m:Type}(y':a×b×c×d×e×f×g×h×i×j×k×l×m):m:=y'.2.2.2.2.2.2.2.2.2.2.2.2
abbrev Q9{a b c d e f g h i j k l m n:Type}(y':a×b×c×d×e×f×g×h×i×j×k×l×m×n):n:=y'.2.2.2.2.2.2.2.2.2.2.2.2.2
abbrev Qc{a b c d e f g h i j k l m n o:Type}(y':a×b×c×d×e×f×g×h×i×j×k×l×m×n×o):o:=y'.2.2.2.2.2.2.2.2.2.2.2.2.2.2
abbrev Qa{a b c d e f g h i j k l m n o p:Type}(y':a×b×c×d×e×f×g×h×i×j×k×l×m×n×o×p):p:=y'.2.2.2.2.2.2.2.2.2.2.2.2.2.2.2
abbrev Qe{a b c d e f g h i j k l m n o p q:Type}(y':a×b×c×d×e×f×g×h×i×j×k×l×m×n×o×p×q):q:=y'.2.2.2.2.2.2.2.2.2.2.2.2.2.2.2.2
abbrev Qd{a b c d e f g h i j k l m n o p q r:Type}(y':a×b×c×d×e×f×g×h×i×j×k×l×m×n×o×p×q×r):r:=y'.2.2.2.2.2.2.2.2.2.2.2.2.2.2.2.2.2
abbrev Q8{a b c d e f g h i j k l m n o p q r s:Type}(y':a×b×c×d×e×f×g×h×i×j×k×l×m×n×o×p×q×r×s):s:=y'.2.2.2.2.2.2.2.2.2.2.2.2.2.2.2.2.2.2
abbrev Qi{a b c d e f g h i j k l m n o p q r s t:Type}(y':a×b×c×d×e×f×g×h×i×j×k×l×m×n×o×p×q×r×s×t):t:=y'.2.2.2.2.2.2.2.2.2.2.2.2.2.2.2.2.2.2.2
abbrev Qb{a b c d e f g h i j k l m n o p q r s t u:Type}(y':a×b×c×d×e×f×g×h×i×j×k×l×m×n×o×p×q×r×s×t×u):u:=y'.2.2.2.2.2.2.2.2.2.2.2.2.2.2.2.2.2.2.2.2
abbrev Qf{a b c d e f g h i j k l m n o p q r s t u v:Type}(y':a×b×c×d×e×f×g×h×i×j×k×l×m×n×o×p×q×r×s×t×u×v):v:=y'.2.2.2.2.2.2.2.2.2.2.2.2.2.2.2.2.2.2.2.2.2
abbrev Qg{a b c d e f g h i j k l m n o p q r s t u v w:Type}(y':a×b×c×d×e×f×g×h×i×j×k×l×m×n×o×p×q×r×s×t×u×v×w):w:=y'.2.2.2.2.2.2.2.2.2.2.2.2.2.2.2.2.2.2.2.2.2.2
abbrev Qj{a b c d e f g h i j k l m n o p q r s t u v w x:Type}(y':a×b×c×d×e×f×g×h×i×j×k×l×m×n×o×p×q×r×s×t×u×v×w×x):x:=y'.2.2.2.2.2.2.2.2.2.2.2.2.2.2.2.2.2.2.2.2.2.2.2
abbrev Ql{a b c d e f g h i j k l m n o p q r s t u v w x y:Type}(y':a×b×c×d×e×f×g×h×i×j×k×l×m×n×o×p×q×r×s×t×u×v×w×x×y):y:=y'.2.2.2.2.2.2.2.2.2.2.2.2.2.2.2.2.2.2.2.2.2.2.2.2
abbrev Qm{a b c d e f g h i j k l m n o p q r s t u v w x y z:Type}(y':a×b×c×d×e×f×g×h×i×j×k×l×m×n×o×p×q×r×s×t×u×v×w×x×y×z):z:=y'.2.2.2.2.2.2.2.2.2.2.2.2.2.2.2.2.2.2.2.2.2.2.2.2.2
abbrev Qh{a b c d e f g h i j k l m n o p q r s t u v w x y z A:Type}(y':a×b×c×d×e×f×g×h×i×j×k×l×m×n×o×p×q×r×s×t×u×v×w×x×y×z×A):A:=y'.2.2.2.2.2.2.2.2.2.2.2.2.2.2.2.2.2.2.2.2.2.2.2.2.2.2
abbrev Qk{a b c d e f g h i j k l m n o p q r s t u v w x y z A B:Type}(y':a×b×c×d×e×f×g×h×i×j×k×l×m×n×o×p×q×r×s×t×u×v×w×x×y×z×A×B):B:=y'.2.2.2.2.2.2.2.2.2.2.2.2.2.2.2.2.2.2.2.2.2.2.2.2.2.2.2
abbrev Vz{a b c d e:Type}(y:a×b×c×List d×e):=(y,y.2.2.2.1,len y.2.2.2.1,())
abbrev Va(y:AK)(a b):=((y.1,y.2.1,y.2.2.1,y.2.2.2.1,y.2.2.2.2.1,(Q1 y).1,(Q3 y).1,(Q0 y).1,(Q5 y).1,(Q4 y).1,a,b):AK)
abbrev Vb(y:AK)(a b):=((y.1,y.2.1,y.2.2.1,y.2.2.2.1,y.2.2.2.2.1,(Q1 y).1,(Q3 y).1,(Q0 y).1,(Q5 y).1,(Q4 y).1,(Q2 y).1,a,b):AK)
abbrev Vc(y:AK)(a b):=((y.1,y.2.1,y.2.2.1,y.2.2.2.1,y.2.2.2.2.1,(Q1 y).1,(Q3 y).1,(Q0 y).1,(Q5 y).1,(Q4 y).1,(Q2 y).1,(Q7 y).1,a,b):AK)
abbrev Vd(y:AK)(a b):=((y.1,y.2.1,y.2.2.1,y.2.2.2.1,y.2.2.2.2.1,(Q1 y).1,(Q3 y).1,(Q0 y).1,(Q5 y).1,(Q4 y).1,(Q2 y).1,(Q7 y).1,(Q6 y).1,a,b):AK)
abbrev Ve(y:AK)(a b):=((y.1,y.2.1,y.2.2.1,y.2.2.2.1,y.2.2.2.2.1,(Q1 y).1,(Q3 y).1,(Q0 y).1,(Q5 y).1,(Q4 y).1,(Q2 y).1,(Q7 y).1,(Q6 y).1,(Q9 y).1,a,b):AK)
abbrev Vf(y:AK)(a b):=((y.1,y.2.1,y.2.2.1,y.2.2.2.1,y.2.2.2.2.1,(Q1 y).1,(Q3 y).1,(Q0 y).1,(Q5 y).1,(Q4 y).1,(Q2 y).1,(Q7 y).1,(Q6 y).1,(Q9 y).1,(Qc y).1,(Qa y).1,(Qe y).1,(Qd y).1,(Q8 y).1,(Qi y).1,(Qb y).1,(Qf y).1,(Qg y).1,(Qj y).1,(Ql y).1,(Qm y).1,a,b):AK)
abbrev Vg(y:AK)(a b):=((y.1,y.2.1,y.2.2.1,y.2.2.2.1,y.2.2.2.2.1,(Q1 y).1,(Q3 y).1,(Q0 y).1,(Q5 y).1,(Q4 y).1,(Q2 y).1,(Q7 y).1,(Q6 y).1,(Q9 y).1,(Qc y).1,(Qa y).1,(Qe y).1,(Qd y).1,(Q8 y).1,(Qi y).1,(Qb y).1,(Qf y).1,(Qg y).1,(Qj y).1,(Ql y).1,(Qm y).1,(Qh y).1,a,b):AK)
abbrev Aa:Ty:=.int .i64
abbrev Ad:Ty:=.sl AQ
abbrev Ag:Sh:=.val T28
abbrev Ah:Sh:=.val (.sl Aa)
abbrev Aj:Sh:=.val (.sl Ef)
abbrev Ak:Sh:=.val (.sl Ad)
abbrev An:Sh:=.box T28 Ag
abbrev Ao:Sh:=.own Aa 1005 false
abbrev Ap:Sh:=.val (.sl Io)
abbrev Aq:Sh:=.val (.int .u64)
abbrev Ar:Sh:=.val AQ
abbrev Av:Sh:=.own Ad 0 false
abbrev Ay:Sh:=.own Ad 1012 false
abbrev Az:Sh:=.val HH
abbrev Ba:Sh:=.val (.ptr Eg)
abbrev Bc:Sh:=.val Ff
abbrev Bd:Sh:=.val Ad
abbrev Be:Sh:=.val (.sl .str)
abbrev Bg:Sh:=.own Ad 400000 false
abbrev Ac:Sh:=.box Ip (.agg (.cons Aa (.cons Aa (.cons Aa (.cons (.sl Ad) (.cons Aa .nl))))) (.cons vI (.cons vI (.cons vI (.cons Bg (.cons vI .nl))))))
abbrev Bh:Sh:=.own Aa 0 false
abbrev Bj:Sh:=.own AQ 400000 true
abbrev Bk:Sh:=.own Ef 0 false
abbrev Bl:Ty:=.sl .bool
abbrev At:Sh:=.box Bl (.own .bool 400100 true)
abbrev Au:Sh:=.box Bl (.own .bool 400200 true)
abbrev Bm:Sh:=.val Hd
abbrev Ai:Sh:=.box Hd Bm
abbrev Al:Sh:=.box Eg (.agg (.cons Hd (.cons (.arr 256 Aa) .nl)) (.cons Bm (.cons (.val (.arr 256 Aa)) .nl)))
abbrev Bo:Sh:=.box Ip (.agg (.cons Aa (.cons Aa (.cons Aa (.cons (.sl Ad) (.cons Aa .nl))))) (.cons vI (.cons vI (.cons vI (.cons (.own Ad 403800 false) (.cons vI .nl))))))
abbrev Bp:Sh:=.box HH Az
abbrev Bq:Sh:=.own AQ 1005 false
abbrev Br:Sh:=.own .bool 1003 true
abbrev Bt:Sh:=.box (.sl .str) (.own .str 400900 false)
abbrev Bu:Sh:=.own JL 1007 false
abbrev Bv:Sh:=.own .str 1010 false
abbrev Bw:Sh:=.own Ef 1004 false
abbrev Bx:Sh:=.own AQ 0 false
abbrev By:Sh:=.own (GW Aa Aa) 400100 true
abbrev Bz:Sh:=.box AQ Ar
abbrev Ca:Sh:=.box Ad (.own AQ 400200 false)
abbrev Cb:Sh:=.own AQ 1006 false
abbrev Cc:Sh:=.own AQ 1016 false
abbrev Cd:Sh:=.own Ef 1005 false
abbrev Ce:Sh:=.own Ef 1008 false
abbrev Cf:Sh:=.own .str 1012 false
abbrev Cg:Sh:=.own Ef 1008 true
abbrev Ch:Sh:=.val JJ
abbrev Ci:Sh:=.val GM
abbrev Cj:Sh:=.own Aa 1014 false
abbrev Ck:Sh:=.own Aa 1015 false
abbrev Cl:Sh:=.box Aa vI
abbrev Cm:Sh:=.ref 12 Eg
abbrev Cn:Sh:=.own Ff 0 true
abbrev Co:Sh:=.box (.ptr Eg) Ba
abbrev Cp:Sh:=.box LU (.val LU)
abbrev Cq:Sh:=.own Ad 1007 false
abbrev Cr:Sh:=.own (GW Aa Aa) 1010 true
abbrev Cs:Sh:=.own Io 0 false
abbrev Ct:Ty:=.sl Ff
abbrev As:Sh:=.val Ct
abbrev Cu:Ty:=.sl SV
abbrev Bn:Sh:=.val Cu
abbrev Cv:Ty:=.sl LU
abbrev Aw:Sh:=.box T28 (.agg (.cons Aa (.cons Aa (.cons Aa (.cons Ct (.cons Aa (.cons JJ (.cons Cu (.cons Cv .nl)))))))) (.cons vI (.cons vI (.cons vI (.cons (.own Ff 400300 true) (.cons vI (.cons Ch (.cons (.own SV 400302 false) (.cons (.own LU 400303 true) .nl)))))))))
abbrev Bf:Sh:=.val Cv
abbrev Ab:Sh:=.box T28 (.agg (.cons Aa (.cons Aa (.cons Aa (.cons Ct (.cons Aa (.cons JJ (.cons Cu (.cons Cv .nl)))))))) (.cons vI (.cons vI (.cons vI (.cons As (.cons vI (.cons (.agg (.cons Aa (.cons Aa (.cons (.sl Aa) .nl))) (.cons vI (.cons vI (.cons Ah .nl)))) (.cons Bn (.cons Bf .nl)))))))))
abbrev Ax:Sh:=.box T28 (.agg (.cons Aa (.cons Aa (.cons Aa (.cons Ct (.cons Aa (.cons JJ (.cons Cu (.cons Cv .nl)))))))) (.cons vI (.cons vI (.cons vI (.cons (.own Ff 400300 true) (.cons vI (.cons Ch (.cons Bn (.cons Bf .nl)))))))))
abbrev Cw:Sh:=.val Pm
abbrev Da:Sh:=.val SU
abbrev Db:Sh:=.own GM 0 false
abbrev Dc:Sh:=.own SV 0 false
abbrev Dd:Sh:=.val Ef
abbrev Bi:Sh:=.box Ef Dd
abbrev De:Sh:=.val (.ptr Ff)
abbrev Df:Sh:=.own LU 0 true
abbrev Dg:Sh:=.own .bool 1005 false
abbrev Dh:Ty:=.sl Hb
abbrev Di:Sh:=.own .bool 1005 true
abbrev Dj:Sh:=.own .str 1005 false
abbrev Dk:Sh:=.own .str 1013 false
abbrev Dl:Sh:=.own AQ 1005 true
abbrev Dm:Sh:=.val .str
abbrev Dn:Sh:=.val JL
abbrev Do:Sh:=.own Ad 1020 false
abbrev Dp:Sh:=.own .str 0 false
abbrev Dq:Ty:=.int .u8
abbrev Bb:Sh:=.val Dq
abbrev Bs:Sh:=.box Hb (.agg (.cons Dq (.cons Aa (.cons (.sl Ef) .nl))) (.cons Bb (.cons vI (.cons (.own Ef 400400 false) .nl))))
abbrev Dr:Ty:=.sl Hc
abbrev Ae:Sh:=.box Hd (.agg (.cons Aa (.cons Aa (.cons Aa (.cons Dh (.cons Dr .nl))))) (.cons vI (.cons vI (.cons vI (.cons (.own Hb 400000 false) (.cons (.own Hc 400001 false) .nl))))))
abbrev Af:Sh:=.box Hd (.agg (.cons Aa (.cons Aa (.cons Aa (.cons Dh (.cons Dr .nl))))) (.cons vI (.cons vI (.cons vI (.cons (.own Hb 400100 false) (.cons (.own Hc 400101 false) .nl))))))
abbrev Ds:Sh:=.box Ad (.own AQ 400100 false)
abbrev Dt:Sh:=.own AQ 0 true
abbrev Du:Ty:=.arr 65 Aa
abbrev Dv:Sh:=.own LU 3 true
abbrev Dw:Sh:=.own (GW Aa .bool) 1006 true
abbrev Dx:Sh:=.val Aa
abbrev Dy:Sh:=.val (.sl GM)
abbrev Dz:Sh:=.val Bl
abbrev Ea:Sh:=.val (.ptr Aa)
def G0:List Int:=[0,0,0,0,0,0,0,0,0,1,1,1,1,1,0,0,0,0,0,0,0,0,0,0,0,0,0,0,0,0,0,0,1,0,0,0,0,0,0,0,0,0,0,0,0,0,0,0,0,0,0,0,0,0,0,0,0,0,0,0,0,0,0,0,0,0,0,0,0,0,0,0,0,0,0,0,0,0,0,0,0,0,0,0,0,0,0,0,0,0,0,0,0,0,0,0,0,0,0,0,0,0,0,0,0,0,0,0,0,0,0,0,0,0,0,0,0,0,0,0,0,0,0,0,0,0,0,0,0,0,0,0,0,0,0,0,0,0,0,0,0,0,0,0,0,0,0,0,0,0,0,0,0,0,0,0,0,0,0,0,0,0,0,0,0,0,0,0,0,0,0,0,0,0,0,0,0,0,0,0,0,0,0,0,0,0,0,0,0,0,0,0,0,0,0,0,0,0,0,0,0,0,0,0,0,0,0,0,0,0,0,0,0,0,0,0,0,0,0,0,0,0,0,0,0,0,0,0,0,0,0,0,0,0,0,0,0,0,0,0,0,0,0,0,0,0,0,0,0,0,0,0,0,0,0,0]
def G5:List Int:=[0,1608,3216,4821,6424,8022,9616,11204,12785,14359,15924,17479,19024,20557,22078,23586,25080,26558,28020,29466,30893,32303,33692,35062,36410,37736,39040,40320,41576,42806,44011,45190,46341,47464,48559,49624,50660,51665,52639,53581,54491,55368,56212,57022,57798,58538,59244,59914,60547,61145,61705,62228,62714,63162,63572,63944,64277,64571,64827,65043,65220,65358,65457,65516,65536]
instance:GlobTab:=⟨⟨[(0,⟨(.arr 256 Dq),G0⟩),(5,⟨Du,G5⟩)]⟩⟩
set_option maxRecDepth 20000 in
def WR:List UInt8:=[48,48,48,48,48,48,48,48,48,48,32,48,48,48,48,53,102,48,48,48,48,32,48,48,48,55,48,48,48,55,48,48,32,49,52,55,102,49,52,55,102,49,52,32,50,52,50,97,55,102,50,97,49,50,32,50,51,49,51,48,56,54,52,54,50,32,51,54,52,57,53,54,50,48,53,48,32,48,48,48,53,48,51,48,48,48,48,32,48,48,49,99,50,50,52,49,48,48,32,48,48,52,49,50,50,49,99,48,48,32,49,52,48,56,51,101,48,56,49,52,32,48,56,48,56,51,101,48,56,48,56,32,48,48,53,48,51,48,48,48,48,48,32,48,56,48,56,48,56,48,56,48,56,32,48,48,54,48,54,48,48,48,48,48,32,50,48,49,48,48,56,48,52,48,50,32,51,101,53,49,52,57,52,53,51,101,32,48,48,52,50,55,102,52,48,48,48,32,52,50,54,49,53,49,52,57,52,54,32,50,49,52,49,52,53,52,98,51,49,32,49,56,49,52,49,50,55,102,49,48,32,50,55,52,53,52,53,52,53,51,57,32,51,99,52,97,52,57,52,57,51,48,32,48,49,55,49,48,57,48,53,48,51,32,51,54,52,57,52,57,52,57,51,54,32,48,54,52,57,52,57,50,57,49,101,32,48,48,51,54,51,54,48,48,48,48,32,48,48,53,54,51,54,48,48,48,48,32,48,56,49,52,50,50,52,49,48,48,32,49,52,49,52,49,52,49,52,49,52,32,48,48,52,49,50,50,49,52,48,56,32,48,50,48,49,53,49,48,57,48,54,32,51,50,52,57,55,57,52,49,51,101,32,55,101,49,49,49,49,49,49,55,101,32,55,102,52,57,52,57,52,57,51,54,32,51,101,52,49,52,49,52,49,50,50,32,55,102,52,49,52,49,50,50,49,99,32,55,102,52,57,52,57,52,57,52,49,32,55,102,48,57,48,57,48,57,48,49,32,51,101,52,49,52,57,52,57,55,97,32,55,102,48,56,48,56,48,56,55,102,32,48,48,52,49,55,102,52,49,48,48,32,50,48,52,48,52,49,51,102,48,49,32,55,102,48,56,49,52,50,50,52,49,32,55,102,52,48,52,48,52,48,52,48,32,55,102,48,50,48,99,48,50,55,102,32,55,102,48,52,48,56,49,48,55,102,32,51,101,52,49,52,49,52,49,51,101,32,55,102,48,57,48,57,48,57,48,54,32,51,101,52,49,53,49,50,49,53,101,32,55,102,48,57,49,57,50,57,52,54,32,52,54,52,57,52,57,52,57,51,49,32,48,49,48,49,55,102,48,49,48,49,32,51,102,52,48,52,48,52,48,51,102,32,49,102,50,48,52,48,50,48,49,102,32,51,102,52,48,51,56,52,48,51,102,32,54,51,49,52,48,56,49,52,54,51,32,48,55,48,56,55,48,48,56,48,55,32,54,49,53,49,52,57,52,53,52,51,32,48,48,55,102,52,49,52,49,48,48,32,48,50,48,52,48,56,49,48,50,48,32,48,48,52,49,52,49,55,102,48,48,32,48,52,48,50,48,49,48,50,48,52,32,52,48,52,48,52,48,52,48,52,48,32,48,48,48,49,48,50,48,52,48,48,32,50,48,53,52,53,52,53,52,55,56,32,55,102,52,56,52,52,52,52,51,56,32,51,56,52,52,52,52,52,52,50,48,32,51,56,52,52,52,52,52,56,55,102,32,51,56,53,52,53,52,53,52,49,56,32,48,56,55,101,48,57,48,49,48,50,32,48,99,53,50,53,50,53,50,51,101,32,55,102,48,56,48,52,48,52,55,56,32,48,48,52,52,55,100,52,48,48,48,32,50,48,52,48,52,52,51,100,48,48,32,55,102,49,48,50,56,52,52,48,48,32,48,48,52,49,55,102,52,48,48,48,32,55,99,48,52,49,56,48,52,55,56,32,55,99,48,56,48,52,48,52,55,56,32,51,56,52,52,52,52,52,52,51,56,32,55,99,49,52,49,52,49,52,48,56,32,48,56,49,52,49,52,49,56,55,99,32,55,99,48,56,48,52,48,52,48,56,32,52,56,53,52,53,52,53,52,50,48,32,48,52,51,102,52,52,52,48,50,48,32,51,99,52,48,52,48,50,48,55,99,32,49,99,50,48,52,48,50,48,49,99,32,51,99,52,48,51,48,52,48,51,99,32,52,52,50,56,49,48,50,56,52,52,32,48,99,53,48,53,48,53,48,51,99,32,52,52,54,52,53,52,52,99,52,52,32,48,48,48,56,51,54,52,49,48,48,32,48,48,48,48,55,102,48,48,48,48,32,48,48,52,49,51,54,48,56,48,48,32,49,48,48,56,48,56,49,48,48,56]
set_option maxRecDepth 20000 in
def wD:List UInt8:=[48,48,48,48,48,48,48,48,48,48,48,48,48,48,53,102,48,48,48,48,48,48,48,55,48,48,48,55,48,48,49,52,55,102,49,52,55,102,49,52,50,52,50,97,55,102,50,97,49,50,50,51,49,51,48,56,54,52,54,50,51,54,52,57,53,54,50,48,53,48,48,48,48,53,48,51,48,48,48,48,48,48,49,99,50,50,52,49,48,48,48,48,52,49,50,50,49,99,48,48,49,52,48,56,51,101,48,56,49,52,48,56,48,56,51,101,48,56,48,56,48,48,53,48,51,48,48,48,48,48,48,56,48,56,48,56,48,56,48,56,48,48,54,48,54,48,48,48,48,48,50,48,49,48,48,56,48,52,48,50,51,101,53,49,52,57,52,53,51,101,48,48,52,50,55,102,52,48,48,48,52,50,54,49,53,49,52,57,52,54,50,49,52,49,52,53,52,98,51,49,49,56,49,52,49,50,55,102,49,48,50,55,52,53,52,53,52,53,51,57,51,99,52,97,52,57,52,57,51,48,48,49,55,49,48,57,48,53,48,51,51,54,52,57,52,57,52,57,51,54,48,54,52,57,52,57,50,57,49,101,48,48,51,54,51,54,48,48,48,48,48,48,53,54,51,54,48,48,48,48,48,56,49,52,50,50,52,49,48,48,49,52,49,52,49,52,49,52,49,52,48,48,52,49,50,50,49,52,48,56,48,50,48,49,53,49,48,57,48,54,51,50,52,57,55,57,52,49,51,101,55,101,49,49,49,49,49,49,55,101,55,102,52,57,52,57,52,57,51,54,51,101,52,49,52,49,52,49,50,50,55,102,52,49,52,49,50,50,49,99,55,102,52,57,52,57,52,57,52,49,55,102,48,57,48,57,48,57,48,49,51,101,52,49,52,57,52,57,55,97,55,102,48,56,48,56,48,56,55,102,48,48,52,49,55,102,52,49,48,48,50,48,52,48,52,49,51,102,48,49,55,102,48,56,49,52,50,50,52,49,55,102,52,48,52,48,52,48,52,48,55,102,48,50,48,99,48,50,55,102,55,102,48,52,48,56,49,48,55,102,51,101,52,49,52,49,52,49,51,101,55,102,48,57,48,57,48,57,48,54,51,101,52,49,53,49,50,49,53,101,55,102,48,57,49,57,50,57,52,54,52,54,52,57,52,57,52,57,51,49,48,49,48,49,55,102,48,49,48,49,51,102,52,48,52,48,52,48,51,102,49,102,50,48,52,48,50,48,49,102,51,102,52,48,51,56,52,48,51,102,54,51,49,52,48,56,49,52,54,51,48,55,48,56,55,48,48,56,48,55,54,49,53,49,52,57,52,53,52,51,48,48,55,102,52,49,52,49,48,48,48,50,48,52,48,56,49,48,50,48,48,48,52,49,52,49,55,102,48,48,48,52,48,50,48,49,48,50,48,52,52,48,52,48,52,48,52,48,52,48,48,48,48,49,48,50,48,52,48,48,50,48,53,52,53,52,53,52,55,56,55,102,52,56,52,52,52,52,51,56,51,56,52,52,52,52,52,52,50,48,51,56,52,52,52,52,52,56,55,102,51,56,53,52,53,52,53,52,49,56,48,56,55,101,48,57,48,49,48,50,48,99,53,50,53,50,53,50,51,101,55,102,48,56,48,52,48,52,55,56,48,48,52,52,55,100,52,48,48,48,50,48,52,48,52,52,51,100,48,48,55,102,49,48,50,56,52,52,48,48,48,48,52,49,55,102,52,48,48,48,55,99,48,52,49,56,48,52,55,56,55,99,48,56,48,52,48,52,55,56,51,56,52,52,52,52,52,52,51,56,55,99,49,52,49,52,49,52,48,56,48,56,49,52,49,52,49,56,55,99,55,99,48,56,48,52,48,52,48,56,52,56,53,52,53,52,53,52,50,48,48,52,51,102,52,52,52,48,50,48,51,99,52,48,52,48,50,48,55,99,49,99,50,48,52,48,50,48,49,99,51,99,52,48,51,48,52,48,51,99,52,52,50,56,49,48,50,56,52,52,48,99,53,48,53,48,53,48,51,99,52,52,54,52,53,52,52,99,52,52,48,48,48,56,51,54,52,49,48,48,48,48,48,48,55,102,48,48,48,48,48,48,52,49,51,54,48,56,48,48,49,48,48,56,48,56,49,48,48,56]
theorem mG0:OX Tryz.prog 276 fK:=xV3 Tryz.func276 (by kernel_rfl) (by kernel_rfl) (by kernel_rfl) (by kernel_rfl)
theorem mG1:OX Tryz.prog 284 fJ:=wB6 Tryz.func284 (by kernel_rfl) (by kernel_rfl) (by kernel_rfl) (by kernel_rfl)
def tys:List (Nat×Ty):=[(3,Aa),(4,.bool),(5,Dq),(9,.str),(21,(.int .i32)),(22,Ct),(23,(.sl Aa)),(25,JJ),(26,Cu),(27,Cv),(29,T28),(30,Aa),(46,HH),(47,(.sl GM)),(49,Pm),(51,GM),(52,(.sl Io)),(53,(.sl Ef)),(54,Ad),(56,SU),(58,Ff),(72,LU),(77,Bl),(80,SV),(128,Io),(131,AQ),(132,(.arr 3 AQ)),(134,Ef),(141,(.sl Ad)),(149,Dh),(150,Dr),(152,Hd),(156,Ad),(159,AQ),(160,(.sl .str)),(161,(.int .u64)),(174,(.ptr Ip)),(176,Ip),(179,(.ptr Eg)),(182,Ad),(186,AQ),(188,Hb),(193,Hc),(204,(.sl JL)),(207,JL),(212,(.arr 256 Aa)),(214,Eg),(220,(.arr 256 Dq)),(246,Ad),(248,AQ),(249,(.int .u32)),(251,(.ptr T263)),(279,Du)]
theorem Pn:E1 Tryz.prog tys:=by kernel_rfl
def maps:List (Nat×(Ty×Ty)):=[(66,(Aa,.bool)),(67,(Aa,Aa))]
def fts:List Nat:=[78]
theorem mixed:Tryz.prog.follows .mixedOrders:=by kernel_rfl
theorem cq {c:Ctx}(hs:N4 Tryz.prog c.fns)(ia:(IY Tryz.prog c.maps&&yP Tryz.prog c.fts):=by kernel_rfl)(he:c.exts=[]:=by rfl)(ht:E1 Tryz.prog c.tys:=by exact Pn)(hn:Nat.ble c.n BN:=by kernel_rfl)(ko:c.clones=[]:=by rfl):CtxOk Tryz.prog c:=fH ht ia hs he hn ko
theorem fq {c:Ctx}{f:Nat}{fn:Func}{ps:List (Nat×Sh)}{rs:Sh}{os:List (Nat×Sh)}{ok:AH ps->Prop}{F:AH ps->rs.den}{o:AH ps->Eb os}(hf:Tryz.prog.funcs[f]?=some fn)(hs:N4 Tryz.prog c.fns)(ia:(IY Tryz.prog c.maps&&yP Tryz.prog c.fts):=by kernel_rfl)(he:c.exts=[]:=by rfl)(ht:E1 Tryz.prog c.tys:=by exact Pn)(hn:Nat.ble c.n BN:=by kernel_rfl)(ko:c.clones=[]:=by rfl)(hk:Pk fn c ps os:=by kernel_rfl)(iQ:zG (fn.body.getD .skip)=[]:=by kernel_rfl)(hsum:∀x,Il c (fn.body.getD .skip) fn.results.toList ps rs os x=some (ok x,F x,o x):=by intro x;kernel_rfl):SpecOk Tryz.prog f (fnSpec ps rs os ok F o):=WL (fH ht ia hs he hn ko) mixed hf hk iQ trivial hsum
theorem fl {c:Ctx}{f:Nat}{fn:Func}{ps:List (Nat×Sh)}{rs:Sh}{os:List (Nat×Sh)}{ok:AH ps->Prop}{F:AH ps->rs.den}{o:AH ps->Eb os}(hc:CtxOk Tryz.prog c)(hf:Tryz.prog.funcs[f]?=some fn){bs:List Code}(hL:GK Tryz.prog c bs)(hk:Pk fn c ps os:=by kernel_rfl)(iQ:zG (fn.body.getD .skip)=bs:=by kernel_rfl)(hsum:∀x,Il c (fn.body.getD .skip) fn.results.toList ps rs os x=some (ok x,F x,o x):=by intro x;kernel_rfl):SpecOk Tryz.prog f (fnSpec ps rs os ok F o):=WL hc mixed hf hk iQ hL hsum
theorem lq {c:Ctx}{body:Code}{sp:St->Option Out}{ly lx:List (Nat×Sh)}{g:AH ly->AH lx->Bool}{next:AH ly->AH lx->AH lx}{ok:AH ly->AH lx->Prop}{es:AH ly->AH lx->List Comp}(hc:CtxOk Tryz.prog c)(hs:sp=Ik ly lx g next ok es)(les:List (List (Nat×Sh)))(hb:zG body=[]:=by kernel_rfl)(hw:ER c.keep body:=by kernel_rfl)(hl:Go.Am.look (λ_=>none) c.loops (HY body)=sp:=by kernel_rfl)(hsum:∀y x,N3 c body ly lx les y x=some (ok y x,g y x,y,next y x,es y x):=by intro y x;kernel_rfl):JG Tryz.prog c body:=fI hc mixed hs les hb trivial hw hl hsum
theorem lm {c:Ctx}{body:Code}{sp:St->Option Out}{ly lx:List (Nat×Sh)}{g:AH ly->AH lx->Bool}{next:AH ly->AH lx->AH lx}{ok:AH ly->AH lx->Prop}{es:AH ly->AH lx->List Comp}(hc:CtxOk Tryz.prog c)(hs:sp=Ik ly lx g next ok es)(les:List (List (Nat×Sh))){bs:List Code}(hL:GK Tryz.prog c bs)(hb:zG body=bs:=by kernel_rfl)(hw:ER c.keep body:=by kernel_rfl)(hl:Go.Am.look (λ_=>none) c.loops (HY body)=sp:=by kernel_rfl)(hsum:∀y x,N3 c body ly lx les y x=some (ok y x,g y x,y,next y x,es y x):=by intro y x;kernel_rfl):JG Tryz.prog c body:=fI hc mixed hs les hb hL hw hl hsum
@[reducible] def kb {n:Nat}{s:Am.Spec}(h:SpecOk Tryz.prog n s):Fb Tryz.prog:=⟨n,s,h⟩
@[reducible] def li:=Li.mk
theorem fx (X:Ctx->Ctx){f:Nat}{fn:Func}(hf:Tryz.prog.funcs[f]?=some fn)(n:Nat)(cs:List (Fb Tryz.prog):=[])(ls:List (Nat×Li):=[])(gh:List (Nat×List (Nat×Nat×Nat×Nat)):=[])(w:Bool:=false)(kp wr:List Nat:=[]){ps:List (Nat×Sh)}{rs:Sh}{os:List (Nat×Sh)}{ok:AH ps->Prop}{F:AH ps->rs.den}{o:AH ps->Eb os}(hX:(X (Cx tys (Fb.l cs) (Li.l ls) gh w n kp wr)).fns=Fb.l cs:=by rfl)(hk:Pk fn (X (Cx tys (Fb.l cs) (Li.l ls) gh w n kp wr)) ps os:=by kernel_rfl)(hl:SQ (X (Cx tys (Fb.l cs) (Li.l ls) gh w n kp wr)) (KZ (fn.body.getD .skip)) ls=SR ls:=by kernel_rfl)(hsum:∀x,Il (X (Cx tys (Fb.l cs) (Li.l ls) gh w n kp wr)) (fn.body.getD .skip) fn.results.toList ps rs os x=some (ok x,F x,o x):=by intro x;kernel_rfl)(ia:(IY Tryz.prog (X (Cx tys (Fb.l cs) (Li.l ls) gh w n kp wr)).maps&&yP Tryz.prog (X (Cx tys (Fb.l cs) (Li.l ls) gh w n kp wr)).fts):=by kernel_rfl)(he:(X (Cx tys (Fb.l cs) (Li.l ls) gh w n kp wr)).exts=[]:=by rfl)(ht:E1 Tryz.prog (X (Cx tys (Fb.l cs) (Li.l ls) gh w n kp wr)).tys:=by exact Pn)(hn:Nat.ble (X (Cx tys (Fb.l cs) (Li.l ls) gh w n kp wr)).n BN:=by kernel_rfl)(ko:(X (Cx tys (Fb.l cs) (Li.l ls) gh w n kp wr)).clones=[]:=by rfl):SpecOk Tryz.prog f (fnSpec ps rs os ok F o):=wD5 (fH ht ia (by rw[hX];exact Fb.all cs) he hn ko) mixed hf hk hl hsum
theorem fb {f:Nat}{fn:Func}(hf:Tryz.prog.funcs[f]?=some fn)(n:Nat)(cs:List (Fb Tryz.prog):=[])(ls:List (Nat×Li):=[])(gh:List (Nat×List (Nat×Nat×Nat×Nat)):=[])(w:Bool:=false)(kp wr:List Nat:=[]){ps:List (Nat×Sh)}{rs:Sh}{os:List (Nat×Sh)}{ok:AH ps->Prop}{F:AH ps->rs.den}{o:AH ps->Eb os}(hk:Pk fn (Cx tys (Fb.l cs) (Li.l ls) gh w n kp wr) ps os:=by kernel_rfl)(hl:SQ (Cx tys (Fb.l cs) (Li.l ls) gh w n kp wr) (KZ (fn.body.getD .skip)) ls=SR ls:=by kernel_rfl)(hsum:∀x,Il (Cx tys (Fb.l cs) (Li.l ls) gh w n kp wr) (fn.body.getD .skip) fn.results.toList ps rs os x=some (ok x,F x,o x):=by intro x;kernel_rfl)(ia:(IY Tryz.prog (Cx tys (Fb.l cs) (Li.l ls) gh w n kp wr).maps&&yP Tryz.prog (Cx tys (Fb.l cs) (Li.l ls) gh w n kp wr).fts):=by kernel_rfl)(he:(Cx tys (Fb.l cs) (Li.l ls) gh w n kp wr).exts=[]:=by rfl)(ht:E1 Tryz.prog (Cx tys (Fb.l cs) (Li.l ls) gh w n kp wr).tys:=by exact Pn)(hn:Nat.ble (Cx tys (Fb.l cs) (Li.l ls) gh w n kp wr).n BN:=by kernel_rfl)(ko:(Cx tys (Fb.l cs) (Li.l ls) gh w n kp wr).clones=[]:=by rfl):SpecOk Tryz.prog f (fnSpec ps rs os ok F o):=wD5 (fH ht ia (Fb.all cs) he hn ko) mixed hf hk hl hsum
abbrev SK (n:Nat)(s:Am.Spec):Prop:=SpecOk Tryz.prog n s
@[reducible] def Cy (f:List (Nat×Am.Spec)) (l:List (Nat×(St->Option Out))) (h:List (Nat×List (Nat×Nat×Nat×Nat))) (n:Nat):Ctx:=Cx tys f l h false n [] []
@[reducible] def Cz (f:List (Nat×Am.Spec)) (l:List (Nat×(St->Option Out))) (h:List (Nat×List (Nat×Nat×Nat×Nat))) (n:Nat):Ctx:=Cx tys f l h true n [] []
@[reducible] def AS (A R:Sh) (ok:A.den->Prop) (f:A.den->R.den):Am.Spec:=fnSpec [(0,A)] R [] (λx=>ok x.1) (λx=>f x.1) (λ_=>())
@[reducible] def BD (A B R:Sh) (ok:A.den->B.den->Prop) (f:A.den->B.den->R.den):Am.Spec:=fnSpec [(0,A),(1,B)] R [] (λx=>ok x.1 x.2.1) (λx=>f x.1 x.2.1) (λ_=>())
@[reducible] def DR (A B C R:Sh) (ok:A.den->B.den->C.den->Prop) (f:A.den->B.den->C.den->R.den):Am.Spec:=fnSpec [(0,A),(1,B),(2,C)] R [] (λx=>ok x.1 x.2.1 x.2.2.1) (λx=>f x.1 x.2.1 x.2.2.1) (λ_=>())
@[reducible] def Gi (A B C D R:Sh) (ok:A.den->B.den->C.den->D.den->Prop) (f:A.den->B.den->C.den->D.den->R.den):Am.Spec:=fnSpec [(0,A),(1,B),(2,C),(3,D)] R [] (λx=>ok x.1 x.2.1 x.2.2.1 x.2.2.2.1) (λx=>f x.1 x.2.1 x.2.2.1 x.2.2.2.1) (λ_=>())
@[reducible] def sp5 (A B C D E R:Sh) (ok:A.den->B.den->C.den->D.den->E.den->Prop) (f:A.den->B.den->C.den->D.den->E.den->R.den):Am.Spec:=fnSpec [(0,A),(1,B),(2,C),(3,D),(4,E)] R [] (λx=>ok x.1 x.2.1 x.2.2.1 x.2.2.2.1 x.2.2.2.2.1) (λx=>f x.1 x.2.1 x.2.2.1 x.2.2.2.1 x.2.2.2.2.1) (λ_=>())
@[reducible] def sp6 (A B C D E F R:Sh) (ok:A.den->B.den->C.den->D.den->E.den->F.den->Prop) (f:A.den->B.den->C.den->D.den->E.den->F.den->R.den):Am.Spec:=fnSpec [(0,A),(1,B),(2,C),(3,D),(4,E),(5,F)] R [] (λx=>ok x.1 x.2.1 x.2.2.1 x.2.2.2.1 x.2.2.2.2.1 (Q1 x).1) (λx=>f x.1 x.2.1 x.2.2.1 x.2.2.2.1 x.2.2.2.2.1 (Q1 x).1) (λ_=>())
def mG2 (a:List UInt8)(b:Int):Prop×Int:=
 (True,Lib.indexByte a (toNat b).toUInt8)
def qF a b:=(mG2 a b).1
def WS a b:=(mG2 a b).2
instance (a b):Decidable (qF a b):=by unfold qF mG2;dsimp only;infer_instance
def oM0:=BD vS Bb vI qF WS
def nP0:Ctx:={ Cx tys [] [] [] false 8 [] [] with exts:=[(276,fK)] }
theorem nP1:CtxOk Tryz.prog nP0:=xZ8 Pn rfl trivial ⟨mG0,trivial⟩ (by kernel_rfl)
theorem mG3:SK 244 oM0:=fl nP1 Tryz.func244 (bs:=[]) trivial
def JM (a b:List UInt8):Int:=Lib.indexByte a (b.headD 0)
def oM1 (_p0 a:List UInt8):Prop:=length a=1
def mG4:List (Nat×Sh):=[(0,Dm),(1,Dm)]
def mG5:Sh:=Dx
def mG6:List (Nat×Sh):=[]
def oM2:Am.Spec:=fnSpec mG4 mG5 mG6 (λx=>oM1 x.1 x.2.1) (λx=>JM x.1 x.2.1) (λ_=>())
theorem mG7:SpecOk Tryz.prog 287 oM2:=wA7 (F:=JM) ⟨_,Tryz.func287,by kernel_rfl,by decide⟩ (λs c w=>Tryz.strings_Index_one s c w)
def WT (_p0:List UInt8)(_p1:Int):(List (List UInt8)):=([]:List (List UInt8))
def oM3 (_p0:List UInt8)(_p1:Int):Prop:=False
def mG8:List (Nat×Sh):=[(0,vS),(1,vI)]
def mG9:Sh:=Be
def mH:List (Nat×Sh):=[]
def oM4:Am.Spec:=fnSpec mG8 mG9 mH (λx=>oM3 x.1 x.2.1) (λx=>WT x.1 x.2.1) (λ_=>())
theorem mH0:SpecOk Tryz.prog 288 oM4:=xY4 Tryz.func288 (by kernel_rfl) (by decide)
def JN (a b:List UInt8):Int:=((Lib.countByte a (b.headD 0):Nat):Int)
def oM5 (_p0 a:List UInt8):Prop:=length a=1
def mH1:List (Nat×Sh):=[(0,Dm),(1,Dm)]
def mH2:Sh:=Dx
def mH3:List (Nat×Sh):=[]
def oM6:Am.Spec:=fnSpec mH1 mH2 mH3 (λx=>oM5 x.1 x.2.1) (λx=>JN x.1 x.2.1) (λ_=>())
theorem mH4:SpecOk Tryz.prog 289 oM6:=wA7 (F:=JN) ⟨_,Tryz.func289,by kernel_rfl,by decide⟩ (λs c w=>Tryz.strings_Count_one s c w)
abbrev SW:Type:=((List UInt8)×Int×Int×Unit)
abbrev WU:Type:=((List UInt8)×(List (List UInt8))×Int×Unit)
def SX (y:SW)(x:WU):Vn WU:=
 let i:=y.1
 let k:=y.2.1
 let e:=x.1
 let j:=x.2.1
 let a:=x.2.2.1
 let f:Bool:=a<y.2.2.1
 let b:=JM e i
 let g:Bool:=b<0
 let c:=b+k
 let h:=len i
 let d:=b+h
 (f->oM1 e i/\(!g->A5 (b+k)/\(0<=c/\c<=len e)/\A6 a (len j)/\a<len j/\A5 (b+h)/\(0<=d/\d<=len e)/\A5 (a+1)),f&&(!g),(drop (toNat d) e,set j (toNat a) (take (toNat c) e),a+1,()))
def tQ8 y x:=(SX y x).1
def JO y x:=(SX y x).2.1
def JP y x:=(SX y x).2.2
def tW (y:SW)(x:WU):(List UInt8):=
 x.1
def tW0 (y:SW)(x:WU):(List (List UInt8)):=
 x.2.1
def tW1 (y:SW)(x:WU):Int:=
 x.2.2.1
def rD9:List (Nat×Sh):=[(0,vS),(9,(.own .str 1009 true)),(10,vI)]
def pA9:=li [(1,vS),(2,vI),(3,vI)] [(0,vS),(9,(.own .str 1009 true)),(10,vI)] JO JP tQ8 (λy x=>[ex 2 none rD9 ((tW y x),(tW0 y x),(tW1 y x),())]) [rD9]
def fV (n o:List UInt8)(p q:Int):Prop×(List (List UInt8)):=
 let i:=q==0
 let g:=o==([]:List UInt8)
 let j:Bool:=q<0
 let k:=JN n o
 let l:=len n
 let d:=G9 (cond j (k+1) q) (l+1)
 let c:=(o,p,d-1,())
 let m:=(n,List.replicate (toNat d) ([]:List UInt8),(0:Int),())
 let f:=A3 (JO c) (JP c) m
 let b:=tW0 c f
 let a:=tW1 c f
 let e:=set b (toNat a) (tW c f)
 let h:=a+1
 (!i->(g->oM3 n q)/\(!g->(j->oM5 n o/\A5 (k+1))/\A5 (l+1)/\(0<=d/\d<=d/\d<=4294967296)/\A5 (d-1)/\AA (JO c) (JP c) (tQ8 c) m/\A6 a (len b)/\a<len b/\A5 (a+1)/\0<=h/\h<=len e),cond i [] (cond g (WT n q) (take (toNat h) e)))
def pB0 a b c d:=(fV a b c d).1
def Po a b c d:=(fV a b c d).2
theorem mH5:SK 274 (Gi vS vS vI vI Be pB0 Po):=fb Tryz.func274 66 [kb mG7,kb mH0,kb mH4] [(11,pA9)] [(17,[(4,0,31,1009)]),(36,[(1,9,0,0)])] false [] [31]
def fX (a b:List UInt8):Prop×(List (List UInt8)):=
 (pB0 a b (0:Int) (-1:Int),Po a b (0:Int) (-1:Int))
def rE a b:=(fX a b).1
def He a b:=(fX a b).2
def oM7:=BD vS vS Be rE He
theorem mH6:SK 239 (BD vS vS Be rE He):=fb Tryz.func239 8 [kb mH5]
def WV (e f:Int):Prop×Int:=
 let d:=f==0
 let b:=cond (e==(-9223372036854775808)) (f==(-1)) false
 let c:=wrap .i64 (Int.tdiv e f)
 let a:=cond d (0:Int) (cond b (9223372036854775807:Int) (cond (cond (Int.tmod e f !=0) (!(Ty.eqb .bool (decide (e<0)) (decide (f<0)))) false) (wrap .i64 (c-1)) c))
 (!d->!b->f≠0/\f≠0,a)
def Pp a b:=(WV a b).1
def f157 a b:=(WV a b).2
theorem oM9:SK 157 (BD vI vI vI Pp f157):=fb Tryz.func157 31 [] [] [] true
def fY (f g:Int):Prop×Int:=
 let d:=g==0
 let c:=cond (f==(-9223372036854775808)) (g==(-1)) false
 let b:=f157 f g
 let a:=wrap .i64 (f-(wrap .i64 (g*b)))
 let e:=cond (cond (cond (g>0) (decide (a≥wrap .i64 (g-a))) false) true (cond (g<0) (decide (a<=wrap .i64 (g-a))) false)) (wrap .i64 (b+1)) b
 (!d->!c->Pp f g,cond d (0:Int) (cond c (9223372036854775807:Int) e))
def Eh a b:=(fY a b).1
def AO a b:=(fY a b).2
theorem JQ:SK 119 (BD vI vI vI Eh AO):=fb Tryz.func119 46 [kb oM9] [] [] true
abbrev vW6:Type:=(Int×Int×(List DD)×Int×Unit)
abbrev AF:Type:=(Int×Unit)
def SY (y:vW6)(x:AF):Vm AF:=
 let d:=y.2.2.1
 let a:=x.1
 let b:Bool:=a<y.2.2.2.1
 let e:=nth d a BV
 let c:=cond (e.1==y.1) (e.2.1==y.2.1) false
 (b->A6 a (len d)/\(!c->A5 (a+1)),b&&(!c),(a+1,()),b&&c,!b)
def rU4 y x:=(SY y x).1
def fZ y x:=(SY y x).2.1
def uX6 y x:=(SY y x).2.2.1
def rU5 y x:=(SY y x).2.2.2.1
def pZ7 y x:=(SY y x).2.2.2.2
def sQ4 (y:vW6)(x:AF):Int:=
 (nth y.2.2.1 x.1 BV).2.2.1
def pZ8:=li [(7,Bb),(8,Bb),(33,(.val Dr)),(34,vI)] [(35,vI)] fZ uX6 rU4 (λy x=>[ex 1 (some (rU5 y x)) [(6,vI)] ((sQ4 y x),()),ex 2 (some (pZ7 y x)) [] ()]) [[(6,vI)],[]]
def lI3 (d:AU)(e f:Int):Prop×Int:=
 let a:=((nth d.1.2.2.2.1 e BG).1,(nth d.1.2.2.2.1 f BG).1,d.1.2.2.2.2.1,len d.1.2.2.2.2.1,())
 let c:=((0:Int),())
 let b:=A3 (fZ a) (uX6 a) c
 (A6 e (len d.1.2.2.2.1)/\A6 f (len d.1.2.2.2.1)/\AA (fZ a) (uX6 a) (rU4 a) c,cond (rU5 a b) (sQ4 a b) (0:Int))
def jU a b c:=(lI3 a b c).1
def Hf a b c:=(lI3 a b c).2
theorem mH7:SK 241 (DR Ba vI vI vI jU Hf):=fb Tryz.func241 52 [] [(3,pZ8)]
abbrev uJ7:Type:=(AU×(List UInt8)×Int×Unit)
abbrev jV:Type:=((List A0)×Int×Int×Unit)
def qF1 (y:uJ7)(x:jV):Vn jV:=
 let f:=y.1
 let s:=y.2.1
 let e:=x.1
 let q:=x.2.1
 let b:=x.2.2.1
 let g:Bool:=b<y.2.2.1
 let h:=BP s b
 let a:=nth f.2.1 h (0:Int)
 let d:Bool:=a<0
 let i:Bool:=len e>0
 let j:=len e
 let k:=j-1
 let l:=nth e k A1
 let m:=Hf f l.1 a
 let r:=cond i (q+m) q
 let n:=([(a,r,())]:List A0)
 let o:=nth f.1.2.2.2.1 a BG
 let c:=d||(!d)
 (g->A6 b (len s)/\A6 h 256/\(!d->(i->A5 (j-1)/\A6 k (len e)/\jU f l.1 a/\A5 (q+m))/\((length e+length n:Nat):Int)<=4294967296/\A6 a (len f.1.2.2.2.1)/\A5 (r+o.2.1))/\(c->A5 (b+1)),g&&c,(cond d e (e++n),cond d q (r+o.2.1),b+1,()))
def rU6 y x:=(qF1 y x).1
def SZ y x:=(qF1 y x).2.1
def Ta y x:=(qF1 y x).2.2
def uX7 (y:uJ7)(x:jV):(List A0):=
 x.1
def uX8 (y:uJ7)(x:jV):Int:=
 x.2.1
def rU7:List (Nat×Sh):=[(6,Cb),(7,vI)]
def pZ9:=li [(0,Ba),(1,vS),(11,vI)] [(6,Cb),(7,vI),(12,vI)] SZ Ta rU6 (λy x=>[ex 2 none rU7 ((uX7 y x),(uX8 y x),())]) [rU7]
def lI4 (d:AU)(e:List UInt8):Prop×((List A0)×Int×Unit):=
 let a:=(d,e,len e,())
 let c:=(([]:List A0),(0:Int),(0:Int),())
 let b:=A3 (SZ a) (Ta a) c
 (AA (SZ a) (Ta a) (rU6 a) c,(uX7 a b,uX8 a b,()))
def WW a b:=(lI4 a b).1
def C0 a b:=(lI4 a b).2
theorem oN:SK 206 (BD Ba vS (.tup (.cons Bx (.cons vI .nl))) WW C0):=fb Tryz.func206 60 [kb mH7] [(4,pZ9)] [(21,[(4,0,45,1006)]),(27,[(4,0,1006,0)])]
def lI5 (c:AU)(d:List UInt8)(e:Int):Prop×Int:=
 let a:=C0 c d
 let b:=e*a.2.1
 (WW c d/\A5 (e*a.2.1)/\Eh b c.1.1,AO b c.1.1)
def tR a b c:=(lI5 a b c).1
def Gj a b c:=(lI5 a b c).2
def oN0:=DR Ba vS vI vI tR Gj
theorem mH8:SK 240 (DR Ba vS vI vI tR Gj):=fb Tryz.func240 24 [kb JQ,kb oN] [] [(3,[(4,0,12,1007)])]
abbrev vU6:Type:=(AU×Int×Int×(List (List UInt8))×Int×Unit)
abbrev N5:Type:=((List (List UInt8))×(List UInt8)×Int×Unit)
def rE1 (y:vU6)(x:N5):Vn N5:=
 let l:=y.1
 let m:=y.2.1
 let n:=y.2.2.1
 let f:=y.2.2.2.1
 let k:=x.1
 let b:=x.2.1
 let a:=x.2.2.1
 let g:Bool:=a<y.2.2.2.2.1
 let c:=nth f a ([]:List UInt8)
 let h:=b++([32]:List UInt8)
 let d:=h++c
 let i:=n==0
 let e:=cond i true (Gj l d m<=n)
 let j:=([b]:List (List UInt8))
 (g->A6 a (len f)/\((length b+length ([32]:List UInt8):Nat):Int)<=9223372036854775807/\((length h+length c:Nat):Int)<=9223372036854775807/\(!i->tR l d m)/\(e=false->((length k+length j:Nat):Int)<=4294967296)/\A5 (a+1),g,(cond e k (k++j),cond e d c,a+1,()))
def rE2 y x:=(rE1 y x).1
def N6 y x:=(rE1 y x).2.1
def N7 y x:=(rE1 y x).2.2
def jW (y:vU6)(x:N5):(List (List UInt8)):=
 x.1
def uN5 (y:vU6)(x:N5):(List UInt8):=
 x.2.1
def rE3:List (Nat×Sh):=[(4,Co),(6,Cl),(7,Cl),(9,Bt),(12,vS)]
def tW3:St->Option Out:=Ik [(4,Co),(6,Cl),(7,Cl),(25,Be),(26,vI)] [(9,Bt),(12,vS),(27,vI)] N6 N7 rE2 λy x=>[ex 4 none rE3 (y.1,y.2.1,y.2.2.1,(jW y x),(uN5 y x),())]
def oN1 (h:AU)(i j:Int)(k:(List (List UInt8)))(l:List UInt8):Prop×(Unit)×(AU×Int×Int×(List (List UInt8))×Unit):=
 let b:=He l ([32]:List UInt8)
 let d:=drop (toNat (1:Int)) b
 let c:=(h,i,j,d,len d,())
 let g:=(k,nth b (0:Int) ([]:List UInt8),(0:Int),())
 let f:=A3 (N6 c) (N7 c) g
 let a:=jW c f
 let e:=([uN5 c f]:List (List UInt8))
 (rE l ([32]:List UInt8)/\A6 (0:Int) (len b)/\(0<=(1:Int)/\(1:Int)<=len b)/\AA (N6 c) (N7 c) (rE2 c) g/\((length a+length e:Nat):Int)<=4294967296,(),(h,i,j,a++e,()))
def Tb a b c d e:=(oN1 a b c d e).1
def LV a b c d e:=(oN1 a b c d e).2.2
def tJ:List (Nat×Sh):=[(4,Co),(6,Cl),(7,Cl),(9,Bt),(10,vS)]
def pP3:Sh:=(.tup .nl)
def Pq:List (Nat×Sh):=[(4,Co),(6,Cl),(7,Cl),(9,Bt)]
def WX:Ctx:=Cx tys [(239,oM7),(240,oN0)] [(7,tW3)] [(25,[(4,0,49,400900)]),(31,[(4,0,55,400900)])] false 57 [4,6,7,9] []
theorem qS5:CtxOk Tryz.prog WX:=cq ⟨mH6,mH8,trivial⟩
noncomputable def LW:Code:=(fO (Tryz.f205.body.getD .skip)).getD .skip
noncomputable def pP4:Code:=SP LW 0
theorem pB1:JG Tryz.prog WX pP4:=fI qS5 mixed (sp:=tW3) rfl [rE3] (bs:=[]) (by kernel_rfl) trivial (by kernel_rfl) (by kernel_rfl) λy x=>by kernel_rfl
theorem nP5:∀x,xV4 WX LW (Ec tJ x):=λx=>by kernel_rfl
theorem oN2:∀x,Il WX LW [] tJ pP3 Pq x=some (Tb x.1 x.2.1 x.2.2.1 x.2.2.2.1 x.2.2.2.2.1,(),LV x.1 x.2.1 x.2.2.1 x.2.2.2.1 x.2.2.2.2.1):=λx=>by kernel_rfl
theorem nP6:xX6 Tryz.prog WX LW tJ Pq (λx=>Tb x.1 x.2.1 x.2.2.1 x.2.2.2.1 x.2.2.2.2.1) (λx=>LV x.1 x.2.1 x.2.2.1 x.2.2.2.1 x.2.2.2.2.1):=wA9 (rs:=pP3) (F:=λ_=>()) qS5 mixed (bs:=[pP4]) (by kernel_rfl) ⟨pB1,trivial⟩ (by kernel_rfl) nP5 oN2
end Go.Proofs.YtgjdonlgingdeaaGreatDoor.Am
