/- Printed by program: the functions that the statements reach, as plain functions, and their contracts. No condition. -/
import Derived.Test.YtadggmnllfgjcaaGreatDoorMach4
import Derived.Test.YtadggmnllfgjcaaGreatDoorDckI
import Derived.Test.YtadggmnllfgjcaaGreatDoorDckH
import Derived.Test.YtadggmnllfgjcaaGreatDoorProg
set_option linter.unusedVariables false
set_option synthInstance.maxSize 4000
set_option synthInstance.maxHeartbeats 400000
namespace Go.Proofs.YtadggmnllfgjcaaGreatDoor.Am
open Go Go.Am Go.Proofs
open Go.IntKind (wrap)
open _root_.Int (toNat)
open _root_.List (drop length set take)
abbrev Vm(a:Type):Type:=Prop×Bool×a×Bool×Bool
abbrev Vn(a:Type):Type:=Prop×Bool×a
abbrev FR:Ty:=.st (.cons (.int .i64) (.cons (.int .i64) (.cons (.sl (.int .i64)) .nl)))
abbrev EO:Type:=Int×Int×(List Int)×Unit
abbrev Z24:EO:=((0:Int),(0:Int),([]:List Int),())
abbrev He:Ty:=.st (.cons (.int .i64) (.cons (.int .i64) (.cons (.int .i64) (.cons (.int .i64) (.cons (.int .i64) (.cons (.int .i64) .nl))))))
abbrev C8:Type:=Int×Int×Int×Int×Int×Int×Unit
abbrev PY:C8:=((0:Int),(0:Int),(0:Int),(0:Int),(0:Int),(0:Int),())
abbrev CC:Ty:=.st (.cons (.int .i64) (.cons (.int .i64) (.cons (.int .i64) (.cons (.int .i64) .nl))))
abbrev BY:Type:=Int×Int×Int×Int×Unit
abbrev C4:BY:=((0:Int),(0:Int),(0:Int),(0:Int),())
abbrev XK:Ty:=.st (.cons (.int .i64) (.cons (.int .i64) (.cons (.sl CC) .nl)))
abbrev Gn:Type:=Int×Int×(List BY)×Unit
abbrev Z51:Gn:=((0:Int),(0:Int),([]:List BY),())
abbrev Ep:Ty:=.st (.cons (.int .i64) (.cons CC .nl))
abbrev B4:Type:=Int×BY×Unit
abbrev BZ:B4:=((0:Int),C4,())
abbrev AL:Ty:=.st (.cons (.int .i64) (.cons (.int .i64) .nl))
abbrev A0:Type:=Int×Int×Unit
abbrev A1:A0:=((0:Int),(0:Int),())
abbrev CM:Ty:=.st (.cons (.int .i64) (.cons (.arr 3 AL) .nl))
abbrev A8:Type:=Int×(List A0)×Unit
abbrev Z116:A8:=((0:Int),(List.replicate 3 A1),())
abbrev TD:Ty:=.st (.cons (.int .i64) (.cons (.int .i64) (.cons (.int .i64) (.cons (.sl AL) .nl))))
abbrev Hw:Type:=Int×Int×Int×(List A0)×Unit
abbrev Z58:Hw:=((0:Int),(0:Int),(0:Int),([]:List A0),())
abbrev DG:Ty:=.st (.cons (.int .i64) (.cons (.int .i64) (.cons (.int .i64) (.cons .str (.cons .bool (.cons .bool (.cons .bool (.cons (.int .i64) (.cons (.int .i64) (.cons FR (.cons He (.cons (.int .i64) (.cons XK (.cons CC (.cons (.int .i64) (.cons (.sl (.int .i64)) (.cons (.int .i64) (.cons (.sl Ep) (.cons (.sl CM) (.cons (.int .i64) (.cons (.int .i64) (.cons (.int .i64) (.cons (.int .i64) (.cons .str (.cons (.int .i64) (.cons (.int .i64) (.cons (.int .i64) (.cons TD .nl))))))))))))))))))))))))))))
abbrev AD:Type:=Int×Int×Int×(List UInt8)×Bool×Bool×Bool×Int×Int×EO×C8×Int×Gn×BY×Int×(List Int)×Int×(List B4)×(List A8)×Int×Int×Int×Int×(List UInt8)×Int×Int×Int×Hw×Unit
abbrev A9:AD:=((0:Int),(0:Int),(0:Int),([]:List UInt8),false,false,false,(0:Int),(0:Int),Z24,PY,(0:Int),Z51,C4,(0:Int),([]:List Int),(0:Int),([]:List B4),([]:List A8),(0:Int),(0:Int),(0:Int),(0:Int),([]:List UInt8),(0:Int),(0:Int),(0:Int),Z58,())
abbrev Er:Ty:=.st (.cons .str (.cons .str .nl))
abbrev B0:Type:=(List UInt8)×(List UInt8)×Unit
abbrev CO:B0:=(([]:List UInt8),([]:List UInt8),())
abbrev T77:Ty:=.st (.cons (.int .i64) (.cons .str (.cons (.int .i64) (.cons (.int .i64) (.cons XK .nl)))))
abbrev AQ:Type:=Int×(List UInt8)×Int×Int×Gn×Unit
abbrev CE:AQ:=((0:Int),([]:List UInt8),(0:Int),(0:Int),Z51,())
abbrev T28:Ty:=.st (.cons (.int .i64) (.cons (.int .i64) (.cons (.int .i64) (.cons (.sl DG) (.cons (.int .i64) (.cons FR (.cons (.sl Er) (.cons (.sl T77) .nl))))))))
abbrev AS:Type:=Int×Int×Int×(List AD)×Int×EO×(List B0)×(List AQ)×Unit
abbrev Z28:AS:=((0:Int),(0:Int),(0:Int),([]:List AD),(0:Int),Z24,([]:List B0),([]:List AQ),())
abbrev T32:Ty:=.st (.cons CC (.cons CC (.cons (.int .i64) (.cons (.sl DG) (.cons (.sl DG) (.cons FR (.cons FR (.cons (.sl Er) (.cons (.sl Er) (.cons (.sl T77) (.cons (.sl T77) .nl)))))))))))
abbrev Hy:Type:=BY×BY×Int×(List AD)×(List AD)×EO×EO×(List B0)×(List B0)×(List AQ)×(List AQ)×Unit
abbrev Hz:Ty:=.st (.cons (.int .u8) (.cons (.int .i64) (.cons (.sl CM) .nl)))
abbrev CD:Type:=Int×Int×(List A8)×Unit
abbrev BI:CD:=((0:Int),(0:Int),([]:List A8),())
abbrev H2:Ty:=.st (.cons (.int .u8) (.cons (.int .u8) (.cons (.int .i64) .nl)))
abbrev DJ:Type:=Int×Int×Int×Unit
abbrev BX:DJ:=((0:Int),(0:Int),(0:Int),())
abbrev H3:Ty:=.st (.cons (.int .i64) (.cons (.int .i64) (.cons (.int .i64) (.cons (.sl Hz) (.cons (.sl H2) .nl)))))
abbrev A7:Type:=Int×Int×Int×(List CD)×(List DJ)×Unit
abbrev ID:Ty:=.st (.cons (.int .i64) (.cons (.int .i64) (.cons (.int .i64) (.cons (.sl (.sl AL)) (.cons (.int .i64) .nl)))))
abbrev E5:Ty:=.st (.cons H3 (.cons (.arr 256 (.int .i64)) .nl))
abbrev AW:Type:=A7×(List Int)×Unit
abbrev Kz:Ty:=.st (.cons AL (.cons AL (.cons AL (.cons AL (.cons AL .nl)))))
abbrev DA:Type:=A0×A0×A0×A0×A0×Unit
abbrev C2:DA:=(A1,A1,A1,A1,A1,())
abbrev T275:Ty:=.st (.cons (.int .u16) (.cons (.int .u16) (.cons (.int .u16) .nl)))
abbrev T278:Ty:=.st (.cons (.int .u32) (.cons (.int .u32) (.cons (.int .u32) .nl)))
abbrev T272:Ty:=.st (.cons (.sl T275) (.cons (.sl T278) (.cons (.int .i64) .nl)))
abbrev Q1{a b c d e f:Type}(y':a×b×c×d×e×f):f:=y'.2.2.2.2.2
abbrev Q2{a b c d e f g:Type}(y':a×b×c×d×e×f×g):g:=y'.2.2.2.2.2.2
abbrev Q0{a b c d e f g h:Type}(y':a×b×c×d×e×f×g×h):h:=y'.2.2.2.2.2.2.2
abbrev Q5{a b c d e f g h i:Type}(y':a×b×c×d×e×f×g×h×i):i:=y'.2.2.2.2.2.2.2.2
abbrev Q4{a b c d e f g h i j:Type}(y':a×b×c×d×e×f×g×h×i×j):j:=y'.2.2.2.2.2.2.2.2.2
abbrev Q3{a b c d e f g h i j k:Type}(y':a×b×c×d×e×f×g×h×i×j×k):k:=y'.2.2.2.2.2.2.2.2.2.2
abbrev Q7{a b c d e f g h i j k l:Type}(y':a×b×c×d×e×f×g×h×i×j×k×l):l:=y'.2.2.2.2.2.2.2.2.2.2.2
abbrev Q6{a b c d e f g h i j k l m:Type}(y':a×b×c×d×e×f×g×h×i×j×k×l×m):m:=y'.2.2.2.2.2.2.2.2.2.2.2.2
abbrev Q9{a b c d e f g h i j k l m n:Type}(y':a×b×c×d×e×f×g×h×i×j×k×l×m×n):n:=y'.2.2.2.2.2.2.2.2.2.2.2.2.2
abbrev Qc{a b c d e f g h i j k l m n o:Type}(y':a×b×c×d×e×f×g×h×i×j×k×l×m×n×o):o:=y'.2.2.2.2.2.2.2.2.2.2.2.2.2.2
abbrev Qa{a b c d e f g h i j k l m n o p:Type}(y':a×b×c×d×e×f×g×h×i×j×k×l×m×n×o×p):p:=y'.2.2.2.2.2.2.2.2.2.2.2.2.2.2.2
abbrev Qf{a b c d e f g h i j k l m n o p q:Type}(y':a×b×c×d×e×f×g×h×i×j×k×l×m×n×o×p×q):q:=y'.2.2.2.2.2.2.2.2.2.2.2.2.2.2.2.2
abbrev Qb{a b c d e f g h i j k l m n o p q r:Type}(y':a×b×c×d×e×f×g×h×i×j×k×l×m×n×o×p×q×r):r:=y'.2.2.2.2.2.2.2.2.2.2.2.2.2.2.2.2.2
abbrev Q8{a b c d e f g h i j k l m n o p q r s:Type}(y':a×b×c×d×e×f×g×h×i×j×k×l×m×n×o×p×q×r×s):s:=y'.2.2.2.2.2.2.2.2.2.2.2.2.2.2.2.2.2.2
abbrev Qi{a b c d e f g h i j k l m n o p q r s t:Type}(y':a×b×c×d×e×f×g×h×i×j×k×l×m×n×o×p×q×r×s×t):t:=y'.2.2.2.2.2.2.2.2.2.2.2.2.2.2.2.2.2.2.2
abbrev Qd{a b c d e f g h i j k l m n o p q r s t u:Type}(y':a×b×c×d×e×f×g×h×i×j×k×l×m×n×o×p×q×r×s×t×u):u:=y'.2.2.2.2.2.2.2.2.2.2.2.2.2.2.2.2.2.2.2.2
abbrev Qg{a b c d e f g h i j k l m n o p q r s t u v:Type}(y':a×b×c×d×e×f×g×h×i×j×k×l×m×n×o×p×q×r×s×t×u×v):v:=y'.2.2.2.2.2.2.2.2.2.2.2.2.2.2.2.2.2.2.2.2.2
abbrev Qh{a b c d e f g h i j k l m n o p q r s t u v w:Type}(y':a×b×c×d×e×f×g×h×i×j×k×l×m×n×o×p×q×r×s×t×u×v×w):w:=y'.2.2.2.2.2.2.2.2.2.2.2.2.2.2.2.2.2.2.2.2.2.2
abbrev Qk{a b c d e f g h i j k l m n o p q r s t u v w x:Type}(y':a×b×c×d×e×f×g×h×i×j×k×l×m×n×o×p×q×r×s×t×u×v×w×x):x:=y'.2.2.2.2.2.2.2.2.2.2.2.2.2.2.2.2.2.2.2.2.2.2.2
abbrev Ql{a b c d e f g h i j k l m n o p q r s t u v w x y:Type}(y':a×b×c×d×e×f×g×h×i×j×k×l×m×n×o×p×q×r×s×t×u×v×w×x×y):y:=y'.2.2.2.2.2.2.2.2.2.2.2.2.2.2.2.2.2.2.2.2.2.2.2.2
abbrev Qm{a b c d e f g h i j k l m n o p q r s t u v w x y z:Type}(y':a×b×c×d×e×f×g×h×i×j×k×l×m×n×o×p×q×r×s×t×u×v×w×x×y×z):z:=y'.2.2.2.2.2.2.2.2.2.2.2.2.2.2.2.2.2.2.2.2.2.2.2.2.2
abbrev Qj{a b c d e f g h i j k l m n o p q r s t u v w x y z A:Type}(y':a×b×c×d×e×f×g×h×i×j×k×l×m×n×o×p×q×r×s×t×u×v×w×x×y×z×A):A:=y'.2.2.2.2.2.2.2.2.2.2.2.2.2.2.2.2.2.2.2.2.2.2.2.2.2.2
abbrev Qe{a b c d e f g h i j k l m n o p q r s t u v w x y z A B:Type}(y':a×b×c×d×e×f×g×h×i×j×k×l×m×n×o×p×q×r×s×t×u×v×w×x×y×z×A×B):B:=y'.2.2.2.2.2.2.2.2.2.2.2.2.2.2.2.2.2.2.2.2.2.2.2.2.2.2.2
abbrev Vz{a b c d e:Type}(y:a×b×c×List d×e):=(y,y.2.2.2.1,len y.2.2.2.1,())
abbrev Vc(y:AD)(a b):=((y.1,y.2.1,y.2.2.1,y.2.2.2.1,y.2.2.2.2.1,(Q1 y).1,(Q2 y).1,(Q0 y).1,(Q5 y).1,(Q4 y).1,a,b):AD)
abbrev Ve(y:AD)(a b):=((y.1,y.2.1,y.2.2.1,y.2.2.2.1,y.2.2.2.2.1,(Q1 y).1,(Q2 y).1,(Q0 y).1,(Q5 y).1,(Q4 y).1,(Q3 y).1,a,b):AD)
abbrev Vf(y:AD)(a b):=((y.1,y.2.1,y.2.2.1,y.2.2.2.1,y.2.2.2.2.1,(Q1 y).1,(Q2 y).1,(Q0 y).1,(Q5 y).1,(Q4 y).1,(Q3 y).1,(Q7 y).1,a,b):AD)
abbrev Vg(y:AD)(a b):=((y.1,y.2.1,y.2.2.1,y.2.2.2.1,y.2.2.2.2.1,(Q1 y).1,(Q2 y).1,(Q0 y).1,(Q5 y).1,(Q4 y).1,(Q3 y).1,(Q7 y).1,(Q6 y).1,a,b):AD)
abbrev Vh(y:AD)(a b):=((y.1,y.2.1,y.2.2.1,y.2.2.2.1,y.2.2.2.2.1,(Q1 y).1,(Q2 y).1,(Q0 y).1,(Q5 y).1,(Q4 y).1,(Q3 y).1,(Q7 y).1,(Q6 y).1,(Q9 y).1,a,b):AD)
abbrev Vi(y:AD)(a b):=((y.1,y.2.1,y.2.2.1,y.2.2.2.1,y.2.2.2.2.1,(Q1 y).1,(Q2 y).1,(Q0 y).1,(Q5 y).1,(Q4 y).1,(Q3 y).1,(Q7 y).1,(Q6 y).1,(Q9 y).1,(Qc y).1,(Qa y).1,(Qf y).1,(Qb y).1,(Q8 y).1,(Qi y).1,(Qd y).1,(Qg y).1,(Qh y).1,(Qk y).1,(Ql y).1,(Qm y).1,a,b):AD)
abbrev Vj(y:AD)(a b):=((y.1,y.2.1,y.2.2.1,y.2.2.2.1,y.2.2.2.2.1,(Q1 y).1,(Q2 y).1,(Q0 y).1,(Q5 y).1,(Q4 y).1,(Q3 y).1,(Q7 y).1,(Q6 y).1,(Q9 y).1,(Qc y).1,(Qa y).1,(Qf y).1,(Qb y).1,(Q8 y).1,(Qi y).1,(Qd y).1,(Qg y).1,(Qh y).1,(Qk y).1,(Ql y).1,(Qm y).1,(Qj y).1,a,b):AD)
abbrev Ab:Ty:=.int .i64
abbrev Af:Ty:=.sl AL
abbrev Ak:Sh:=.val (.sl CM)
abbrev Al:Sh:=.val (.sl Af)
abbrev Aq:Sh:=.val (.sl Ep)
abbrev Ar:Sh:=.val T28
abbrev Ag:Sh:=.box T28 Ar
abbrev As:Sh:=.val (.int .u64)
abbrev Au:Sh:=.val AL
abbrev Az:Sh:=.own Af 0 false
abbrev Ba:Sh:=.own Af 1012 false
abbrev Bb:Sh:=.val He
abbrev Bc:Sh:=.val Af
abbrev Bd:Sh:=.val (.ptr E5)
abbrev Be:Sh:=.val T32
abbrev Bg:Sh:=.val DG
abbrev Bi:Sh:=.val (.sl .str)
abbrev Bj:Sh:=.own Af 400000 false
abbrev Ac:Sh:=.box ID (.agg (.cons Ab (.cons Ab (.cons Ab (.cons (.sl Af) (.cons Ab .nl))))) (.cons vI (.cons vI (.cons vI (.cons Bj (.cons vI .nl))))))
abbrev Bl:Sh:=.own AL 400000 true
abbrev Bm:Sh:=.own CM 0 false
abbrev Bn:Ty:=.sl .bool
abbrev Ax:Sh:=.box Bn (.own .bool 400100 true)
abbrev Ay:Sh:=.box Bn (.own .bool 400200 true)
abbrev Bo:Sh:=.val H3
abbrev Aj:Sh:=.box H3 Bo
abbrev Ap:Sh:=.box E5 (.agg (.cons H3 (.cons (.arr 256 Ab) .nl)) (.cons Bo (.cons (.val (.arr 256 Ab)) .nl)))
abbrev Bp:Sh:=.box ID (.agg (.cons Ab (.cons Ab (.cons Ab (.cons (.sl Af) (.cons Ab .nl))))) (.cons vI (.cons vI (.cons vI (.cons (.own Af 403800 false) (.cons vI .nl))))))
abbrev Bq:Sh:=.box He Bb
abbrev Br:Sh:=.own AL 1005 false
abbrev Bs:Sh:=.own .bool 1003 true
abbrev Bt:Sh:=.val CC
abbrev Bu:Sh:=.val FR
abbrev Bw:Sh:=.box (.sl .str) (.own .str 400900 false)
abbrev Bx:Sh:=.own Kz 1007 false
abbrev By:Sh:=.own .str 1010 false
abbrev Bz:Sh:=.own CM 1004 false
abbrev Ca:Sh:=.own AL 0 false
abbrev Cb:Sh:=.box AL Au
abbrev Cc:Sh:=.own (xH Ab Ab) 400100 true
abbrev Cd:Ty:=.sl DG
abbrev An:Sh:=.val Cd
abbrev Ce:Sh:=.own Ab 0 false
abbrev Cf:Sh:=.val XK
abbrev Cg:Sh:=.box Af (.own AL 400200 false)
abbrev Ci:Sh:=.own Ab 1005 false
abbrev Cj:Sh:=.val (.sl CC)
abbrev Ck:Sh:=.own AL 1006 false
abbrev Cl:Sh:=.own AL 1016 false
abbrev Cm:Sh:=.own CM 1005 false
abbrev Cn:Sh:=.own CM 1008 false
abbrev Co:Sh:=.own .str 1012 false
abbrev Cp:Sh:=.own CM 1008 true
abbrev Cq:Sh:=.own Ab 1014 false
abbrev Cr:Sh:=.own Ab 1015 false
abbrev Cs:Sh:=.box Ab vI
abbrev Ct:Ty:=.sl Er
abbrev Bh:Sh:=.val Ct
abbrev Cu:Ty:=.sl T77
abbrev At:Sh:=.val Cu
abbrev Cv:Sh:=.ref 12 E5
abbrev Cw:Sh:=.box (.ptr E5) Bd
abbrev Da:Ty:=.sl Ab
abbrev Ad:Sh:=.box T32 (.agg (.cons CC (.cons CC (.cons Ab (.cons Cd (.cons Cd (.cons FR (.cons FR (.cons Ct (.cons Ct (.cons Cu (.cons Cu .nl))))))))))) (.cons Bt (.cons Bt (.cons vI (.cons (.own DG 400800 false) (.cons (.own DG 400801 false) (.cons (.agg (.cons Ab (.cons Ab (.cons Da .nl))) (.cons vI (.cons vI (.cons (.own Ab 400802 false) .nl)))) (.cons (.agg (.cons Ab (.cons Ab (.cons Da .nl))) (.cons vI (.cons vI (.cons (.own Ab 400803 false) .nl)))) (.cons (.own Er 400804 false) (.cons (.own Er 400805 false) (.cons (.own T77 400806 false) (.cons (.own T77 400807 false) .nl))))))))))))
abbrev Ae:Sh:=.box T32 (.agg (.cons CC (.cons CC (.cons Ab (.cons Cd (.cons Cd (.cons FR (.cons FR (.cons Ct (.cons Ct (.cons Cu (.cons Cu .nl))))))))))) (.cons Bt (.cons Bt (.cons vI (.cons (.own DG 400700 false) (.cons (.own DG 400701 false) (.cons (.agg (.cons Ab (.cons Ab (.cons Da .nl))) (.cons vI (.cons vI (.cons (.own Ab 400702 false) .nl)))) (.cons (.agg (.cons Ab (.cons Ab (.cons Da .nl))) (.cons vI (.cons vI (.cons (.own Ab 400703 false) .nl)))) (.cons (.own Er 400704 false) (.cons (.own Er 400705 false) (.cons (.own T77 400706 false) (.cons (.own T77 400707 false) .nl))))))))))))
abbrev Ao:Sh:=.val Da
abbrev Aa:Sh:=.box T32 (.agg (.cons CC (.cons CC (.cons Ab (.cons Cd (.cons Cd (.cons FR (.cons FR (.cons Ct (.cons Ct (.cons Cu (.cons Cu .nl))))))))))) (.cons Bt (.cons Bt (.cons vI (.cons An (.cons An (.cons (.agg (.cons Ab (.cons Ab (.cons Da .nl))) (.cons vI (.cons vI (.cons Ao .nl)))) (.cons (.agg (.cons Ab (.cons Ab (.cons Da .nl))) (.cons vI (.cons vI (.cons Ao .nl)))) (.cons Bh (.cons Bh (.cons At (.cons At .nl))))))))))))
abbrev Av:Sh:=.box T28 (.agg (.cons Ab (.cons Ab (.cons Ab (.cons Cd (.cons Ab (.cons FR (.cons Ct (.cons Cu .nl)))))))) (.cons vI (.cons vI (.cons vI (.cons (.own DG 400200 false) (.cons vI (.cons (.agg (.cons Ab (.cons Ab (.cons Da .nl))) (.cons vI (.cons vI (.cons (.own Ab 400201 false) .nl)))) (.cons (.own Er 400202 false) (.cons (.own T77 400203 false) .nl)))))))))
abbrev Aw:Sh:=.box T28 (.agg (.cons Ab (.cons Ab (.cons Ab (.cons Cd (.cons Ab (.cons FR (.cons Ct (.cons Cu .nl)))))))) (.cons vI (.cons vI (.cons vI (.cons (.own DG 400300 false) (.cons vI (.cons (.agg (.cons Ab (.cons Ab (.cons Da .nl))) (.cons vI (.cons vI (.cons (.own Ab 400301 false) .nl)))) (.cons (.own Er 400302 false) (.cons (.own T77 400303 false) .nl)))))))))
abbrev Db:Sh:=.own Af 1007 false
abbrev Dc:Sh:=.val (.sl Cd)
abbrev Dd:Sh:=.own Ep 0 false
abbrev De:Sh:=.val TD
abbrev Df:Sh:=.own CC 0 false
abbrev Dg:Sh:=.own Er 0 false
abbrev Dh:Sh:=.val CM
abbrev Bk:Sh:=.box CM Dh
abbrev Di:Sh:=.val (.ptr DG)
abbrev Dj:Sh:=.own T77 0 true
abbrev Dk:Sh:=.box XK Cf
abbrev Dl:Sh:=.box FR Bu
abbrev Dm:Sh:=.own .bool 1005 false
abbrev Dn:Ty:=.sl Hz
abbrev Do:Sh:=.own .bool 1005 true
abbrev Dp:Sh:=.own .str 1005 false
abbrev Dq:Sh:=.own .str 1013 false
abbrev Dr:Sh:=.own AL 1005 true
abbrev Ds:Sh:=.val .str
abbrev Dt:Sh:=.val Kz
abbrev Du:Sh:=.own Af 1020 false
abbrev Dv:Sh:=.own DG 1003 true
abbrev Dw:Sh:=.own T77 1003 true
abbrev Dx:Sh:=.own DG 1006 true
abbrev Dy:Sh:=.own .str 0 false
abbrev Dz:Ty:=.int .u8
abbrev Bf:Sh:=.val Dz
abbrev Bv:Sh:=.box Hz (.agg (.cons Dz (.cons Ab (.cons (.sl CM) .nl))) (.cons Bf (.cons vI (.cons (.own CM 400400 false) .nl))))
abbrev Ea:Ty:=.sl H2
abbrev Ah:Sh:=.box H3 (.agg (.cons Ab (.cons Ab (.cons Ab (.cons Dn (.cons Ea .nl))))) (.cons vI (.cons vI (.cons vI (.cons (.own Hz 400000 false) (.cons (.own H2 400001 false) .nl))))))
abbrev Ai:Sh:=.box H3 (.agg (.cons Ab (.cons Ab (.cons Ab (.cons Dn (.cons Ea .nl))))) (.cons vI (.cons vI (.cons vI (.cons (.own Hz 400100 false) (.cons (.own H2 400101 false) .nl))))))
abbrev Eb:Sh:=.box Af (.own AL 400100 false)
abbrev Ec:Sh:=.own AL 0 true
abbrev Ed:Ty:=.arr 65 Ab
abbrev Ee:Sh:=.val Bn
abbrev Ef:Sh:=.val (.ptr Ab)
abbrev Eg:Sh:=.val T77
abbrev Ch:Sh:=.box T77 Eg
def G0:List Int:=[0,0,0,0,0,0,0,0,0,1,1,1,1,1,0,0,0,0,0,0,0,0,0,0,0,0,0,0,0,0,0,0,1,0,0,0,0,0,0,0,0,0,0,0,0,0,0,0,0,0,0,0,0,0,0,0,0,0,0,0,0,0,0,0,0,0,0,0,0,0,0,0,0,0,0,0,0,0,0,0,0,0,0,0,0,0,0,0,0,0,0,0,0,0,0,0,0,0,0,0,0,0,0,0,0,0,0,0,0,0,0,0,0,0,0,0,0,0,0,0,0,0,0,0,0,0,0,0,0,0,0,0,0,0,0,0,0,0,0,0,0,0,0,0,0,0,0,0,0,0,0,0,0,0,0,0,0,0,0,0,0,0,0,0,0,0,0,0,0,0,0,0,0,0,0,0,0,0,0,0,0,0,0,0,0,0,0,0,0,0,0,0,0,0,0,0,0,0,0,0,0,0,0,0,0,0,0,0,0,0,0,0,0,0,0,0,0,0,0,0,0,0,0,0,0,0,0,0,0,0,0,0,0,0,0,0,0,0,0,0,0,0,0,0,0,0,0,0,0,0,0,0,0,0,0,0]
def G5:List Int:=[0,1608,3216,4821,6424,8022,9616,11204,12785,14359,15924,17479,19024,20557,22078,23586,25080,26558,28020,29466,30893,32303,33692,35062,36410,37736,39040,40320,41576,42806,44011,45190,46341,47464,48559,49624,50660,51665,52639,53581,54491,55368,56212,57022,57798,58538,59244,59914,60547,61145,61705,62228,62714,63162,63572,63944,64277,64571,64827,65043,65220,65358,65457,65516,65536]
instance:GlobTab:=⟨⟨[(0,⟨(.arr 256 Dz),G0⟩),(5,⟨Ed,G5⟩)]⟩⟩
set_option maxRecDepth 20000 in
def XL:List UInt8:=[48,48,48,48,48,48,48,48,48,48,32,48,48,48,48,53,102,48,48,48,48,32,48,48,48,55,48,48,48,55,48,48,32,49,52,55,102,49,52,55,102,49,52,32,50,52,50,97,55,102,50,97,49,50,32,50,51,49,51,48,56,54,52,54,50,32,51,54,52,57,53,54,50,48,53,48,32,48,48,48,53,48,51,48,48,48,48,32,48,48,49,99,50,50,52,49,48,48,32,48,48,52,49,50,50,49,99,48,48,32,49,52,48,56,51,101,48,56,49,52,32,48,56,48,56,51,101,48,56,48,56,32,48,48,53,48,51,48,48,48,48,48,32,48,56,48,56,48,56,48,56,48,56,32,48,48,54,48,54,48,48,48,48,48,32,50,48,49,48,48,56,48,52,48,50,32,51,101,53,49,52,57,52,53,51,101,32,48,48,52,50,55,102,52,48,48,48,32,52,50,54,49,53,49,52,57,52,54,32,50,49,52,49,52,53,52,98,51,49,32,49,56,49,52,49,50,55,102,49,48,32,50,55,52,53,52,53,52,53,51,57,32,51,99,52,97,52,57,52,57,51,48,32,48,49,55,49,48,57,48,53,48,51,32,51,54,52,57,52,57,52,57,51,54,32,48,54,52,57,52,57,50,57,49,101,32,48,48,51,54,51,54,48,48,48,48,32,48,48,53,54,51,54,48,48,48,48,32,48,56,49,52,50,50,52,49,48,48,32,49,52,49,52,49,52,49,52,49,52,32,48,48,52,49,50,50,49,52,48,56,32,48,50,48,49,53,49,48,57,48,54,32,51,50,52,57,55,57,52,49,51,101,32,55,101,49,49,49,49,49,49,55,101,32,55,102,52,57,52,57,52,57,51,54,32,51,101,52,49,52,49,52,49,50,50,32,55,102,52,49,52,49,50,50,49,99,32,55,102,52,57,52,57,52,57,52,49,32,55,102,48,57,48,57,48,57,48,49,32,51,101,52,49,52,57,52,57,55,97,32,55,102,48,56,48,56,48,56,55,102,32,48,48,52,49,55,102,52,49,48,48,32,50,48,52,48,52,49,51,102,48,49,32,55,102,48,56,49,52,50,50,52,49,32,55,102,52,48,52,48,52,48,52,48,32,55,102,48,50,48,99,48,50,55,102,32,55,102,48,52,48,56,49,48,55,102,32,51,101,52,49,52,49,52,49,51,101,32,55,102,48,57,48,57,48,57,48,54,32,51,101,52,49,53,49,50,49,53,101,32,55,102,48,57,49,57,50,57,52,54,32,52,54,52,57,52,57,52,57,51,49,32,48,49,48,49,55,102,48,49,48,49,32,51,102,52,48,52,48,52,48,51,102,32,49,102,50,48,52,48,50,48,49,102,32,51,102,52,48,51,56,52,48,51,102,32,54,51,49,52,48,56,49,52,54,51,32,48,55,48,56,55,48,48,56,48,55,32,54,49,53,49,52,57,52,53,52,51,32,48,48,55,102,52,49,52,49,48,48,32,48,50,48,52,48,56,49,48,50,48,32,48,48,52,49,52,49,55,102,48,48,32,48,52,48,50,48,49,48,50,48,52,32,52,48,52,48,52,48,52,48,52,48,32,48,48,48,49,48,50,48,52,48,48,32,50,48,53,52,53,52,53,52,55,56,32,55,102,52,56,52,52,52,52,51,56,32,51,56,52,52,52,52,52,52,50,48,32,51,56,52,52,52,52,52,56,55,102,32,51,56,53,52,53,52,53,52,49,56,32,48,56,55,101,48,57,48,49,48,50,32,48,99,53,50,53,50,53,50,51,101,32,55,102,48,56,48,52,48,52,55,56,32,48,48,52,52,55,100,52,48,48,48,32,50,48,52,48,52,52,51,100,48,48,32,55,102,49,48,50,56,52,52,48,48,32,48,48,52,49,55,102,52,48,48,48,32,55,99,48,52,49,56,48,52,55,56,32,55,99,48,56,48,52,48,52,55,56,32,51,56,52,52,52,52,52,52,51,56,32,55,99,49,52,49,52,49,52,48,56,32,48,56,49,52,49,52,49,56,55,99,32,55,99,48,56,48,52,48,52,48,56,32,52,56,53,52,53,52,53,52,50,48,32,48,52,51,102,52,52,52,48,50,48,32,51,99,52,48,52,48,50,48,55,99,32,49,99,50,48,52,48,50,48,49,99,32,51,99,52,48,51,48,52,48,51,99,32,52,52,50,56,49,48,50,56,52,52,32,48,99,53,48,53,48,53,48,51,99,32,52,52,54,52,53,52,52,99,52,52,32,48,48,48,56,51,54,52,49,48,48,32,48,48,48,48,55,102,48,48,48,48,32,48,48,52,49,51,54,48,56,48,48,32,49,48,48,56,48,56,49,48,48,56]
set_option maxRecDepth 20000 in
def wD1:List UInt8:=[48,48,48,48,48,48,48,48,48,48,48,48,48,48,53,102,48,48,48,48,48,48,48,55,48,48,48,55,48,48,49,52,55,102,49,52,55,102,49,52,50,52,50,97,55,102,50,97,49,50,50,51,49,51,48,56,54,52,54,50,51,54,52,57,53,54,50,48,53,48,48,48,48,53,48,51,48,48,48,48,48,48,49,99,50,50,52,49,48,48,48,48,52,49,50,50,49,99,48,48,49,52,48,56,51,101,48,56,49,52,48,56,48,56,51,101,48,56,48,56,48,48,53,48,51,48,48,48,48,48,48,56,48,56,48,56,48,56,48,56,48,48,54,48,54,48,48,48,48,48,50,48,49,48,48,56,48,52,48,50,51,101,53,49,52,57,52,53,51,101,48,48,52,50,55,102,52,48,48,48,52,50,54,49,53,49,52,57,52,54,50,49,52,49,52,53,52,98,51,49,49,56,49,52,49,50,55,102,49,48,50,55,52,53,52,53,52,53,51,57,51,99,52,97,52,57,52,57,51,48,48,49,55,49,48,57,48,53,48,51,51,54,52,57,52,57,52,57,51,54,48,54,52,57,52,57,50,57,49,101,48,48,51,54,51,54,48,48,48,48,48,48,53,54,51,54,48,48,48,48,48,56,49,52,50,50,52,49,48,48,49,52,49,52,49,52,49,52,49,52,48,48,52,49,50,50,49,52,48,56,48,50,48,49,53,49,48,57,48,54,51,50,52,57,55,57,52,49,51,101,55,101,49,49,49,49,49,49,55,101,55,102,52,57,52,57,52,57,51,54,51,101,52,49,52,49,52,49,50,50,55,102,52,49,52,49,50,50,49,99,55,102,52,57,52,57,52,57,52,49,55,102,48,57,48,57,48,57,48,49,51,101,52,49,52,57,52,57,55,97,55,102,48,56,48,56,48,56,55,102,48,48,52,49,55,102,52,49,48,48,50,48,52,48,52,49,51,102,48,49,55,102,48,56,49,52,50,50,52,49,55,102,52,48,52,48,52,48,52,48,55,102,48,50,48,99,48,50,55,102,55,102,48,52,48,56,49,48,55,102,51,101,52,49,52,49,52,49,51,101,55,102,48,57,48,57,48,57,48,54,51,101,52,49,53,49,50,49,53,101,55,102,48,57,49,57,50,57,52,54,52,54,52,57,52,57,52,57,51,49,48,49,48,49,55,102,48,49,48,49,51,102,52,48,52,48,52,48,51,102,49,102,50,48,52,48,50,48,49,102,51,102,52,48,51,56,52,48,51,102,54,51,49,52,48,56,49,52,54,51,48,55,48,56,55,48,48,56,48,55,54,49,53,49,52,57,52,53,52,51,48,48,55,102,52,49,52,49,48,48,48,50,48,52,48,56,49,48,50,48,48,48,52,49,52,49,55,102,48,48,48,52,48,50,48,49,48,50,48,52,52,48,52,48,52,48,52,48,52,48,48,48,48,49,48,50,48,52,48,48,50,48,53,52,53,52,53,52,55,56,55,102,52,56,52,52,52,52,51,56,51,56,52,52,52,52,52,52,50,48,51,56,52,52,52,52,52,56,55,102,51,56,53,52,53,52,53,52,49,56,48,56,55,101,48,57,48,49,48,50,48,99,53,50,53,50,53,50,51,101,55,102,48,56,48,52,48,52,55,56,48,48,52,52,55,100,52,48,48,48,50,48,52,48,52,52,51,100,48,48,55,102,49,48,50,56,52,52,48,48,48,48,52,49,55,102,52,48,48,48,55,99,48,52,49,56,48,52,55,56,55,99,48,56,48,52,48,52,55,56,51,56,52,52,52,52,52,52,51,56,55,99,49,52,49,52,49,52,48,56,48,56,49,52,49,52,49,56,55,99,55,99,48,56,48,52,48,52,48,56,52,56,53,52,53,52,53,52,50,48,48,52,51,102,52,52,52,48,50,48,51,99,52,48,52,48,50,48,55,99,49,99,50,48,52,48,50,48,49,99,51,99,52,48,51,48,52,48,51,99,52,52,50,56,49,48,50,56,52,52,48,99,53,48,53,48,53,48,51,99,52,52,54,52,53,52,52,99,52,52,48,48,48,56,51,54,52,49,48,48,48,48,48,48,55,102,48,48,48,48,48,48,52,49,51,54,48,56,48,48,49,48,48,56,48,56,49,48,48,56]
theorem mV1:PJ Tryz.prog 285 yA6:=xV4 Tryz.func285 (by kernel_rfl) (by kernel_rfl) (by kernel_rfl) (by kernel_rfl)
theorem mV2:PJ Tryz.prog 293 xB1:=wB7 Tryz.func293 (by kernel_rfl) (by kernel_rfl) (by kernel_rfl) (by kernel_rfl)
def tys:List (Nat×Ty):=[(3,Ab),(4,.bool),(5,Dz),(9,.str),(21,(.int .i32)),(22,Cd),(23,Da),(25,FR),(26,Ct),(27,Cu),(29,T28),(31,CC),(33,T32),(34,Ab),(49,He),(50,(.sl CC)),(52,XK),(54,CC),(55,(.sl Ep)),(56,(.sl CM)),(57,Af),(59,TD),(61,DG),(67,Er),(78,T77),(92,(.sl Cd)),(105,Bn),(111,Ep),(114,AL),(115,(.arr 3 AL)),(117,CM),(151,(.sl Af)),(159,Dn),(160,Ea),(162,H3),(166,Af),(169,AL),(170,(.sl .str)),(171,(.int .u64)),(183,(.ptr ID)),(185,ID),(188,(.ptr E5)),(191,Af),(195,AL),(197,Hz),(202,H2),(213,(.sl Kz)),(216,Kz),(221,(.arr 256 Ab)),(223,E5),(229,(.arr 256 Dz)),(255,Af),(257,AL),(258,(.int .u32)),(260,(.ptr T272)),(288,Ed)]
theorem qD8:EM Tryz.prog tys:=by kernel_rfl
def maps:List (Nat×(Ty×Ty)):=[(95,(Ab,Ab))]
def fts:List Nat:=[106]
theorem mixed:Tryz.prog.follows .mixedOrders:=by kernel_rfl
theorem cq {c:Ctx}(hs:PU Tryz.prog c.fns)(iu:(Kt Tryz.prog c.maps&&Kr Tryz.prog c.fts):=by kernel_rfl)(he:c.exts=[]:=by rfl)(ht:EM Tryz.prog c.tys:=by exact qD8)(hn:Nat.ble c.n BQ:=by kernel_rfl)(ko:c.clones=[]:=by rfl):CtxOk Tryz.prog c:=wB6 ht iu hs he hn ko
theorem fq {c:Ctx}{f:Nat}{fn:Func}{ps:List (Nat×Sh)}{rs:Sh}{os:List (Nat×Sh)}{ok:AI ps->Prop}{F:AI ps->rs.den}{o:AI ps->Ev os}(hf:Tryz.prog.funcs[f]?=some fn)(hs:PU Tryz.prog c.fns)(iu:(Kt Tryz.prog c.maps&&Kr Tryz.prog c.fts):=by kernel_rfl)(he:c.exts=[]:=by rfl)(ht:EM Tryz.prog c.tys:=by exact qD8)(hn:Nat.ble c.n BQ:=by kernel_rfl)(ko:c.clones=[]:=by rfl)(hk:PV fn c ps os:=by kernel_rfl)(iO:Fx (fn.body.getD .skip)=[]:=by kernel_rfl)(kt:∀x,IC c (fn.body.getD .skip) fn.results.toList ps rs os x=some (ok x,F x,o x):=by intro x;kernel_rfl):SpecOk Tryz.prog f (fnSpec ps rs os ok F o):=XG (wB6 ht iu hs he hn ko) mixed hf hk iO trivial kt
theorem fl {c:Ctx}{f:Nat}{fn:Func}{ps:List (Nat×Sh)}{rs:Sh}{os:List (Nat×Sh)}{ok:AI ps->Prop}{F:AI ps->rs.den}{o:AI ps->Ev os}(hc:CtxOk Tryz.prog c)(hf:Tryz.prog.funcs[f]?=some fn){bs:List Code}(hL:Hd Tryz.prog c bs)(hk:PV fn c ps os:=by kernel_rfl)(iO:Fx (fn.body.getD .skip)=bs:=by kernel_rfl)(kt:∀x,IC c (fn.body.getD .skip) fn.results.toList ps rs os x=some (ok x,F x,o x):=by intro x;kernel_rfl):SpecOk Tryz.prog f (fnSpec ps rs os ok F o):=XG hc mixed hf hk iO hL kt
theorem lq {c:Ctx}{body:Code}{sp:St->Option Out}{ly lx:List (Nat×Sh)}{g:AI ly->AI lx->Bool}{next:AI ly->AI lx->AI lx}{ok:AI ly->AI lx->Prop}{es:AI ly->AI lx->List Comp}(hc:CtxOk Tryz.prog c)(hs:sp=IB ly lx g next ok es)(les:List (List (Nat×Sh)))(hb:Fx body=[]:=by kernel_rfl)(hw:Fu c.keep body:=by kernel_rfl)(hl:Go.Am.look (λ_=>none) c.loops (I3 body)=sp:=by kernel_rfl)(kt:∀y x,Oq c body ly lx les y x=some (ok y x,g y x,y,next y x,es y x):=by intro y x;kernel_rfl):Kw Tryz.prog c body:=wD5 hc mixed hs les hb trivial hw hl kt
theorem lm {c:Ctx}{body:Code}{sp:St->Option Out}{ly lx:List (Nat×Sh)}{g:AI ly->AI lx->Bool}{next:AI ly->AI lx->AI lx}{ok:AI ly->AI lx->Prop}{es:AI ly->AI lx->List Comp}(hc:CtxOk Tryz.prog c)(hs:sp=IB ly lx g next ok es)(les:List (List (Nat×Sh))){bs:List Code}(hL:Hd Tryz.prog c bs)(hb:Fx body=bs:=by kernel_rfl)(hw:Fu c.keep body:=by kernel_rfl)(hl:Go.Am.look (λ_=>none) c.loops (I3 body)=sp:=by kernel_rfl)(kt:∀y x,Oq c body ly lx les y x=some (ok y x,g y x,y,next y x,es y x):=by intro y x;kernel_rfl):Kw Tryz.prog c body:=wD5 hc mixed hs les hb hL hw hl kt
@[reducible] def kb {n:Nat}{s:Am.Spec}(h:SpecOk Tryz.prog n s):Fb Tryz.prog:=⟨n,s,h⟩
@[reducible] def li:=Li.mk
theorem fx (X:Ctx->Ctx){f:Nat}{fn:Func}(hf:Tryz.prog.funcs[f]?=some fn)(n:Nat)(cs:List (Fb Tryz.prog):=[])(ls:List (Nat×Li):=[])(gh:List (Nat×List (Nat×Nat×Nat×Nat)):=[])(w:Bool:=false)(kp wr:List Nat:=[]){ps:List (Nat×Sh)}{rs:Sh}{os:List (Nat×Sh)}{ok:AI ps->Prop}{F:AI ps->rs.den}{o:AI ps->Ev os}(hX:(X (Cx tys (Fb.l cs) (Li.l ls) gh w n kp wr)).fns=Fb.l cs:=by rfl)(hk:PV fn (X (Cx tys (Fb.l cs) (Li.l ls) gh w n kp wr)) ps os:=by kernel_rfl)(hl:TA (X (Cx tys (Fb.l cs) (Li.l ls) gh w n kp wr)) (LD (fn.body.getD .skip)) ls=TB ls:=by kernel_rfl)(kt:∀x,IC (X (Cx tys (Fb.l cs) (Li.l ls) gh w n kp wr)) (fn.body.getD .skip) fn.results.toList ps rs os x=some (ok x,F x,o x):=by intro x;kernel_rfl)(iu:(Kt Tryz.prog (X (Cx tys (Fb.l cs) (Li.l ls) gh w n kp wr)).maps&&Kr Tryz.prog (X (Cx tys (Fb.l cs) (Li.l ls) gh w n kp wr)).fts):=by kernel_rfl)(he:(X (Cx tys (Fb.l cs) (Li.l ls) gh w n kp wr)).exts=[]:=by rfl)(ht:EM Tryz.prog (X (Cx tys (Fb.l cs) (Li.l ls) gh w n kp wr)).tys:=by exact qD8)(hn:Nat.ble (X (Cx tys (Fb.l cs) (Li.l ls) gh w n kp wr)).n BQ:=by kernel_rfl)(ko:(X (Cx tys (Fb.l cs) (Li.l ls) gh w n kp wr)).clones=[]:=by rfl):SpecOk Tryz.prog f (fnSpec ps rs os ok F o):=wD7 (wB6 ht iu (by rw[hX];exact Fb.all cs) he hn ko) mixed hf hk hl kt
theorem fb {f:Nat}{fn:Func}(hf:Tryz.prog.funcs[f]?=some fn)(n:Nat)(cs:List (Fb Tryz.prog):=[])(ls:List (Nat×Li):=[])(gh:List (Nat×List (Nat×Nat×Nat×Nat)):=[])(w:Bool:=false)(kp wr:List Nat:=[]){ps:List (Nat×Sh)}{rs:Sh}{os:List (Nat×Sh)}{ok:AI ps->Prop}{F:AI ps->rs.den}{o:AI ps->Ev os}(hk:PV fn (Cx tys (Fb.l cs) (Li.l ls) gh w n kp wr) ps os:=by kernel_rfl)(hl:TA (Cx tys (Fb.l cs) (Li.l ls) gh w n kp wr) (LD (fn.body.getD .skip)) ls=TB ls:=by kernel_rfl)(kt:∀x,IC (Cx tys (Fb.l cs) (Li.l ls) gh w n kp wr) (fn.body.getD .skip) fn.results.toList ps rs os x=some (ok x,F x,o x):=by intro x;kernel_rfl)(iu:(Kt Tryz.prog (Cx tys (Fb.l cs) (Li.l ls) gh w n kp wr).maps&&Kr Tryz.prog (Cx tys (Fb.l cs) (Li.l ls) gh w n kp wr).fts):=by kernel_rfl)(he:(Cx tys (Fb.l cs) (Li.l ls) gh w n kp wr).exts=[]:=by rfl)(ht:EM Tryz.prog (Cx tys (Fb.l cs) (Li.l ls) gh w n kp wr).tys:=by exact qD8)(hn:Nat.ble (Cx tys (Fb.l cs) (Li.l ls) gh w n kp wr).n BQ:=by kernel_rfl)(ko:(Cx tys (Fb.l cs) (Li.l ls) gh w n kp wr).clones=[]:=by rfl):SpecOk Tryz.prog f (fnSpec ps rs os ok F o):=wD7 (wB6 ht iu (Fb.all cs) he hn ko) mixed hf hk hl kt
abbrev SK (n:Nat)(s:Am.Spec):Prop:=SpecOk Tryz.prog n s
@[reducible] def Cy (f:List (Nat×Am.Spec)) (l:List (Nat×(St->Option Out))) (h:List (Nat×List (Nat×Nat×Nat×Nat))) (n:Nat):Ctx:=Cx tys f l h false n [] []
@[reducible] def Cz (f:List (Nat×Am.Spec)) (l:List (Nat×(St->Option Out))) (h:List (Nat×List (Nat×Nat×Nat×Nat))) (n:Nat):Ctx:=Cx tys f l h true n [] []
@[reducible] def AR (A R:Sh) (ok:A.den->Prop) (f:A.den->R.den):Am.Spec:=fnSpec [(0,A)] R [] (λx=>ok x.1) (λx=>f x.1) (λ_=>())
@[reducible] def BC (A B R:Sh) (ok:A.den->B.den->Prop) (f:A.den->B.den->R.den):Am.Spec:=fnSpec [(0,A),(1,B)] R [] (λx=>ok x.1 x.2.1) (λx=>f x.1 x.2.1) (λ_=>())
@[reducible] def DZ (A B C R:Sh) (ok:A.den->B.den->C.den->Prop) (f:A.den->B.den->C.den->R.den):Am.Spec:=fnSpec [(0,A),(1,B),(2,C)] R [] (λx=>ok x.1 x.2.1 x.2.2.1) (λx=>f x.1 x.2.1 x.2.2.1) (λ_=>())
@[reducible] def H4 (A B C D R:Sh) (ok:A.den->B.den->C.den->D.den->Prop) (f:A.den->B.den->C.den->D.den->R.den):Am.Spec:=fnSpec [(0,A),(1,B),(2,C),(3,D)] R [] (λx=>ok x.1 x.2.1 x.2.2.1 x.2.2.2.1) (λx=>f x.1 x.2.1 x.2.2.1 x.2.2.2.1) (λ_=>())
@[reducible] def sp5 (A B C D E R:Sh) (ok:A.den->B.den->C.den->D.den->E.den->Prop) (f:A.den->B.den->C.den->D.den->E.den->R.den):Am.Spec:=fnSpec [(0,A),(1,B),(2,C),(3,D),(4,E)] R [] (λx=>ok x.1 x.2.1 x.2.2.1 x.2.2.2.1 x.2.2.2.2.1) (λx=>f x.1 x.2.1 x.2.2.1 x.2.2.2.1 x.2.2.2.2.1) (λ_=>())
@[reducible] def sp6 (A B C D E F R:Sh) (ok:A.den->B.den->C.den->D.den->E.den->F.den->Prop) (f:A.den->B.den->C.den->D.den->E.den->F.den->R.den):Am.Spec:=fnSpec [(0,A),(1,B),(2,C),(3,D),(4,E),(5,F)] R [] (λx=>ok x.1 x.2.1 x.2.2.1 x.2.2.2.1 x.2.2.2.2.1 (Q1 x).1) (λx=>f x.1 x.2.1 x.2.2.1 x.2.2.2.1 x.2.2.2.2.1 (Q1 x).1) (λ_=>())
def mV3 (a:List UInt8)(b:Int):Prop×Int:=
 (True,Lib.indexByte a (toNat b).toUInt8)
def qO7 a b:=(mV3 a b).1
def XM a b:=(mV3 a b).2
instance (a b):Decidable (qO7 a b):=by unfold qO7 mV3;dsimp only;infer_instance
def nB7:=BC vS Bf vI qO7 XM
def mD9:Ctx:={ Cx tys [] [] [] false 8 [] [] with exts:=[(285,yA6)] }
theorem mE:CtxOk Tryz.prog mD9:=xZ9 qD8 rfl trivial ⟨mV1,trivial⟩ (by kernel_rfl)
theorem mV4:SK 253 nB7:=fl mE Tryz.func253 (bs:=[]) trivial
def K0 (a b:List UInt8):Int:=Lib.indexByte a (b.headD 0)
def nB8 (_p0 a:List UInt8):Prop:=length a=1
def mV5:List (Nat×Sh):=[(0,Ds),(1,Ds)]
def mV6:Sh:=(.val Ab)
def mV7:List (Nat×Sh):=[]
def nB9:Am.Spec:=fnSpec mV5 mV6 mV7 (λx=>nB8 x.1 x.2.1) (λx=>K0 x.1 x.2.1) (λ_=>())
theorem mV8:SpecOk Tryz.prog 296 nB9:=wA7 (F:=K0) ⟨_,Tryz.func296,by kernel_rfl,by decide⟩ (λs c w=>Tryz.strings_Index_one s c w)
def XN (_p0:List UInt8)(_p1:Int):(List (List UInt8)):=([]:List (List UInt8))
def nC (_p0:List UInt8)(_p1:Int):Prop:=False
def mV9:List (Nat×Sh):=[(0,vS),(1,vI)]
def mW:Sh:=Bi
def mW0:List (Nat×Sh):=[]
def nC0:Am.Spec:=fnSpec mV9 mW mW0 (λx=>nC x.1 x.2.1) (λx=>XN x.1 x.2.1) (λ_=>())
theorem mW1:SpecOk Tryz.prog 297 nC0:=xY6 Tryz.func297 (by kernel_rfl) (by decide)
def K1 (a b:List UInt8):Int:=((Lib.countByte a (b.headD 0):Nat):Int)
def nC1 (_p0 a:List UInt8):Prop:=length a=1
def mW2:List (Nat×Sh):=[(0,Ds),(1,Ds)]
def mW3:Sh:=(.val Ab)
def mW4:List (Nat×Sh):=[]
def nC2:Am.Spec:=fnSpec mW2 mW3 mW4 (λx=>nC1 x.1 x.2.1) (λx=>K1 x.1 x.2.1) (λ_=>())
theorem mW5:SpecOk Tryz.prog 298 nC2:=wA7 (F:=K1) ⟨_,Tryz.func298,by kernel_rfl,by decide⟩ (λs c w=>Tryz.strings_Count_one s c w)
abbrev vJ5:Type:=((List UInt8)×Int×Int×Unit)
abbrev wV6:Type:=((List UInt8)×(List (List UInt8))×Int×Unit)
def uO2 (y:vJ5)(x:wV6):Vn wV6:=
 let i:=y.1
 let k:=y.2.1
 let e:=x.1
 let j:=x.2.1
 let a:=x.2.2.1
 let f:Bool:=a<y.2.2.1
 let b:=K0 e i
 let g:Bool:=b<0
 let c:=b+k
 let h:=len i
 let d:=b+h
 (f->nB8 e i/\(!g->A5 (b+k)/\(0<=c/\c<=len e)/\A6 a (len j)/\a<len j/\A5 (b+h)/\(0<=d/\d<=len e)/\A5 (a+1)),f&&(!g),(drop (toNat d) e,set j (toNat a) (take (toNat c) e),a+1,()))
def RO y x:=(uO2 y x).1
def IH y x:=(uO2 y x).2.1
def Nk y x:=(uO2 y x).2.2
def sC3 (y:vJ5)(x:wV6):(List UInt8):=
 x.1
def sC4 (y:vJ5)(x:wV6):(List (List UInt8)):=
 x.2.1
def sC5 (y:vJ5)(x:wV6):Int:=
 x.2.2.1
def rM3:List (Nat×Sh):=[(0,vS),(9,(.own .str 1009 true)),(10,vI)]
def pL9:=li [(1,vS),(2,vI),(3,vI)] [(0,vS),(9,(.own .str 1009 true)),(10,vI)] IH Nk RO (λy x=>[ex 2 none rM3 ((sC3 y x),(sC4 y x),(sC5 y x),())]) [rM3]
def mE0 (n o:List UInt8)(p q:Int):Prop×(List (List UInt8)):=
 let i:=q==0
 let g:=o==[]
 let j:Bool:=q<0
 let k:=K1 n o
 let l:=len n
 let d:=GX (cond j (k+1) q) (l+1)
 let c:=(o,p,d-1,())
 let m:=(n,List.replicate (toNat d) ([]:List UInt8),(0:Int),())
 let f:=A3 (IH c) (Nk c) m
 let b:=sC4 c f
 let a:=sC5 c f
 let e:=set b (toNat a) (sC3 c f)
 let h:=a+1
 (!i->(g->nC n q)/\(!g->(j->nC1 n o/\A5 (k+1))/\A5 (l+1)/\(0<=d/\d<=d/\d<=4294967296)/\A5 (d-1)/\AB (IH c) (Nk c) (RO c) m/\A6 a (len b)/\a<len b/\A5 (a+1)/\0<=h/\h<=len e),cond i [] (cond g (XN n q) (take (toNat h) e)))
def pM a b c d:=(mE0 a b c d).1
def PZ a b c d:=(mE0 a b c d).2
theorem mW6:SK 283 (H4 vS vS vI vI Bi pM PZ):=fb Tryz.func283 66 [kb mV8,kb mW1,kb mW5] [(11,pL9)] [(17,[(4,0,31,1009)]),(36,[(1,9,0,0)])] false [] [31]
def mE1 (a b:List UInt8):Prop×(List (List UInt8)):=
 (pM a b 0 (-1:Int),PZ a b 0 (-1:Int))
def rM4 a b:=(mE1 a b).1
def H5 a b:=(mE1 a b).2
def nC3:=BC vS vS Bi rM4 H5
theorem mW7:SK 248 (BC vS vS Bi rM4 H5):=fb Tryz.func248 8 [kb mW6]
def nC4 (e f:Int):Prop×Int:=
 let d:=f==0
 let b:=cond (e==(-9223372036854775808)) (f==(-1)) false
 let c:=wrap .i64 (Int.tdiv e f)
 let a:=cond d 0 (cond b 9223372036854775807 (cond (cond (Int.tmod e f !=0) (!(Ty.eqb .bool (decide (e<0)) (decide (f<0)))) false) (wrap .i64 (c-1)) c))
 (!d->!b->f≠0/\f≠0,a)
def tX7 a b:=(nC4 a b).1
def DL a b:=(nC4 a b).2
theorem nC5:SK 167 (BC vI vI vI tX7 DL):=fb Tryz.func167 31 [] [] [] true
def mE2 (f g:Int):Prop×Int:=
 let d:=g==0
 let c:=cond (f==(-9223372036854775808)) (g==(-1)) false
 let b:=DL f g
 let a:=wrap .i64 (f-(wrap .i64 (g*b)))
 let e:=cond (cond (cond (g>0) (decide (a≥wrap .i64 (g-a))) false) true (cond (g<0) (decide (a<=wrap .i64 (g-a))) false)) (wrap .i64 (b+1)) b
 (!d->!c->tX7 f g,cond d 0 (cond c 9223372036854775807 e))
def HE a b:=(mE2 a b).1
def f138 a b:=(mE2 a b).2
theorem QJ:SK 138 (BC vI vI vI HE f138):=fb Tryz.func138 46 [kb nC5] [] [] true
abbrev vZ9:Type:=(Int×Int×(List DJ)×Int×Unit)
abbrev CW:Type:=(Int×Unit)
def Vu (y:vZ9)(x:CW):Vm CW:=
 let d:=y.2.2.1
 let a:=x.1
 let b:Bool:=a<y.2.2.2.1
 let e:=nth d a BX
 let c:=cond (e.1==y.1) (e.2.1==y.2.1) false
 (b->A6 a (len d)/\(!c->A5 (a+1)),b&&(!c),(a+1,()),b&&c,!b)
def qD9 y x:=(Vu y x).1
def sC6 y x:=(Vu y x).2.1
def tE y x:=(Vu y x).2.2.1
def qE y x:=(Vu y x).2.2.2.1
def oO5 y x:=(Vu y x).2.2.2.2
def sZ3 (y:vZ9)(x:CW):Int:=
 (nth y.2.2.1 x.1 BX).2.2.1
def oO6:=li [(7,Bf),(8,Bf),(33,(.val Ea)),(34,vI)] [(35,vI)] sC6 tE qD9 (λy x=>[ex 1 (some (qE y x)) [(6,vI)] ((sZ3 y x),()),ex 2 (some (oO5 y x)) [] ()]) [[(6,vI)],[]]
def kC1 (d:AW)(e f:Int):Prop×Int:=
 let a:=((nth d.1.2.2.2.1 e BI).1,(nth d.1.2.2.2.1 f BI).1,d.1.2.2.2.2.1,len d.1.2.2.2.2.1,())
 let c:=((0:Int),())
 let b:=A3 (sC6 a) (tE a) c
 (A6 e (len d.1.2.2.2.1)/\A6 f (len d.1.2.2.2.1)/\AB (sC6 a) (tE a) (qD9 a) c,cond (qE a b) (sZ3 a b) 0)
def qO8 a b c:=(kC1 a b c).1
def K7 a b c:=(kC1 a b c).2
theorem mW8:SK 250 (DZ Bd vI vI vI qO8 K7):=fb Tryz.func250 52 [] [(3,oO6)]
abbrev Yz:Type:=(AW×(List UInt8)×Int×Unit)
abbrev vP:Type:=((List A0)×Int×Int×Unit)
def qO9 (y:Yz)(x:vP):Vn vP:=
 let f:=y.1
 let s:=y.2.1
 let e:=x.1
 let q:=x.2.1
 let b:=x.2.2.1
 let g:Bool:=b<y.2.2.1
 let h:=BU s b
 let a:=nth f.2.1 h 0
 let d:Bool:=a<0
 let i:Bool:=len e>0
 let j:=len e
 let k:=j-1
 let l:=nth e k A1
 let m:=K7 f l.1 a
 let r:=cond i (q+m) q
 let n:=([(a,r,())]:List A0)
 let o:=nth f.1.2.2.2.1 a BI
 let c:=d||(!d)
 (g->A6 b (len s)/\A6 h 256/\(!d->(i->A5 (j-1)/\A6 k (len e)/\qO8 f l.1 a/\A5 (q+m))/\((length e+length n:Nat):Int)<=4294967296/\A6 a (len f.1.2.2.2.1)/\A5 (r+o.2.1))/\(c->A5 (b+1)),g&&c,(cond d e (e++n),cond d q (r+o.2.1),b+1,()))
def qE0 y x:=(qO9 y x).1
def uO4 y x:=(qO9 y x).2.1
def OM y x:=(qO9 y x).2.2
def Yv (y:Yz)(x:vP):(List A0):=
 x.1
def tE1 (y:Yz)(x:vP):Int:=
 x.2.1
def qE1:List (Nat×Sh):=[(6,Ck),(7,vI)]
def oO7:=li [(0,Bd),(1,vS),(11,vI)] [(6,Ck),(7,vI),(12,vI)] uO4 OM qE0 (λy x=>[ex 2 none qE1 ((Yv y x),(tE1 y x),())]) [qE1]
def kC2 (d:AW)(e:List UInt8):Prop×((List A0)×Int×Unit):=
 let a:=(d,e,len e,())
 let c:=(([]:List A0),(0:Int),(0:Int),())
 let b:=A3 (uO4 a) (OM a) c
 (AB (uO4 a) (OM a) (qE0 a) c,(Yv a b,tE1 a b,()))
def rM5 a b:=(kC2 a b).1
def C5 a b:=(kC2 a b).2
theorem nC6:SK 215 (BC Bd vS (.tup (.cons Ca (.cons vI .nl))) rM5 C5):=fb Tryz.func215 60 [kb mW8] [(4,oO7)] [(21,[(4,0,45,1006)]),(27,[(4,0,1006,0)])]
def kC3 (c:AW)(d:List UInt8)(e:Int):Prop×Int:=
 let a:=C5 c d
 let b:=e*a.2.1
 (rM5 c d/\A5 (e*a.2.1)/\HE b c.1.1,f138 b c.1.1)
def tX8 a b c:=(kC3 a b c).1
def G7 a b c:=(kC3 a b c).2
def nC7:=DZ Bd vS vI vI tX8 G7
theorem mW9:SK 249 (DZ Bd vS vI vI tX8 G7):=fb Tryz.func249 24 [kb QJ,kb nC6] [] [(3,[(4,0,12,1007)])]
abbrev Vv:Type:=(AW×Int×Int×(List (List UInt8))×Int×Unit)
abbrev Ut:Type:=((List (List UInt8))×(List UInt8)×Int×Unit)
def rM6 (y:Vv)(x:Ut):Vn Ut:=
 let l:=y.1
 let m:=y.2.1
 let n:=y.2.2.1
 let f:=y.2.2.2.1
 let k:=x.1
 let b:=x.2.1
 let a:=x.2.2.1
 let g:Bool:=a<y.2.2.2.2.1
 let c:=nth f a []
 let h:=b++([32]:List UInt8)
 let d:=h++c
 let i:=n==0
 let e:=cond i true (G7 l d m<=n)
 let j:=([b]:List (List UInt8))
 (g->A6 a (len f)/\((length b+length ([32]:List UInt8):Nat):Int)<=9223372036854775807/\((length h+length c:Nat):Int)<=9223372036854775807/\(!i->tX8 l d m)/\(e=false->((length k+length j:Nat):Int)<=4294967296)/\A5 (a+1),g,(cond e k (k++j),cond e d c,a+1,()))
def rM7 y x:=(rM6 y x).1
def vC y x:=(rM6 y x).2.1
def M1 y x:=(rM6 y x).2.2
def vT1 (y:Vv)(x:Ut):(List (List UInt8)):=
 x.1
def uT1 (y:Vv)(x:Ut):(List UInt8):=
 x.2.1
def rM8:List (Nat×Sh):=[(4,Cw),(6,Cs),(7,Cs),(9,Bw),(12,vS)]
def sC7:St->Option Out:=IB [(4,Cw),(6,Cs),(7,Cs),(25,Bi),(26,vI)] [(9,Bw),(12,vS),(27,vI)] vC M1 rM7 λy x=>[ex 4 none rM8 (y.1,y.2.1,y.2.2.1,(vT1 y x),(uT1 y x),())]
def nC8 (h:AW)(i j:Int)(k:(List (List UInt8)))(l:List UInt8):Prop×(Unit)×(AW×Int×Int×(List (List UInt8))×Unit):=
 let b:=H5 l ([32]:List UInt8)
 let d:=drop (toNat 1) b
 let c:=(h,i,j,d,len d,())
 let g:=(k,nth b 0 [],(0:Int),())
 let f:=A3 (vC c) (M1 c) g
 let a:=vT1 c f
 let e:=([uT1 c f]:List (List UInt8))
 (rM4 l ([32]:List UInt8)/\A6 0 (len b)/\(0<=(1:Int)/\(1:Int)<=len b)/\AB (vC c) (M1 c) (rM7 c) g/\((length a+length e:Nat):Int)<=4294967296,(),(h,i,j,a++e,()))
def Vw a b c d e:=(nC8 a b c d e).1
def U4 a b c d e:=(nC8 a b c d e).2.2
def sC8:List (Nat×Sh):=[(4,Cw),(6,Cs),(7,Cs),(9,Bw),(10,vS)]
def oC8:Sh:=(.tup .nl)
def rH3:List (Nat×Sh):=[(4,Cw),(6,Cs),(7,Cs),(9,Bw)]
def Y3:Ctx:=Cx tys [(248,nC3),(249,nC7)] [(7,sC7)] [(25,[(4,0,49,400900)]),(31,[(4,0,55,400900)])] false 57 [4,6,7,9] []
theorem pB9:CtxOk Tryz.prog Y3:=cq ⟨mW7,mW9,trivial⟩
noncomputable def wV7:Code:=(xQ0 (Tryz.f214.body.getD .skip)).getD .skip
noncomputable def oC9:Code:=Tz wV7 0
theorem pM0:Kw Tryz.prog Y3 oC9:=wD5 pB9 mixed (sp:=sC7) rfl [rM8] (bs:=[]) (by kernel_rfl) trivial (by kernel_rfl) (by kernel_rfl) λy x=>by kernel_rfl
theorem mE3:∀x,xV5 Y3 wV7 (Ew sC8 x):=λx=>by kernel_rfl
theorem nC9:∀x,IC Y3 wV7 [] sC8 oC8 rH3 x=some (Vw x.1 x.2.1 x.2.2.1 x.2.2.2.1 x.2.2.2.2.1,(),U4 x.1 x.2.1 x.2.2.1 x.2.2.2.1 x.2.2.2.2.1):=λx=>by kernel_rfl
theorem mE4:xX9 Tryz.prog Y3 wV7 sC8 rH3 (λx=>Vw x.1 x.2.1 x.2.2.1 x.2.2.2.1 x.2.2.2.2.1) (λx=>U4 x.1 x.2.1 x.2.2.1 x.2.2.2.1 x.2.2.2.2.1):=wA9 (rs:=oC8) (F:=λ_=>()) pB9 mixed (bs:=[oC9]) (by kernel_rfl) ⟨pM0,trivial⟩ (by kernel_rfl) mE3 nC9
end Go.Proofs.YtadggmnllfgjcaaGreatDoor.Am
