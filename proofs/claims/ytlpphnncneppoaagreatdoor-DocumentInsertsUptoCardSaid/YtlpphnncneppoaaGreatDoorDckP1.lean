/- Printed by program: the functions that the statements reach, as plain functions, and their contracts. No condition. -/
import Derived.Test.YtlpphnncneppoaaGreatDoorMach4
import Derived.Test.YtlpphnncneppoaaGreatDoorDckI
import Derived.Test.YtlpphnncneppoaaGreatDoorDckH
import Derived.Test.YtlpphnncneppoaaGreatDoorProg
set_option linter.unusedVariables false
set_option synthInstance.maxSize 4000
set_option synthInstance.maxHeartbeats 400000
namespace Go.Proofs.YtlpphnncneppoaaGreatDoor.Am
open Go Go.Am Go.Proofs
open Go.IntKind (wrap)
open _root_.Int (toNat)
open _root_.List (drop length set take)
abbrev Vm(a:Type):Type:=Prop×Bool×a×Bool×Bool
abbrev Vn(a:Type):Type:=Prop×Bool×a
abbrev Hj:Ty:=.st (.cons (.int .i64) (.cons (.int .i64) (.cons (.sl (.int .i64)) .nl)))
abbrev Fs:Type:=Int×Int×(List Int)×Unit
abbrev Z24:Fs:=((0:Int),(0:Int),([]:List Int),())
abbrev Hk:Ty:=.st (.cons (.int .i64) (.cons (.int .i64) (.cons (.int .i64) (.cons (.int .i64) (.cons (.int .i64) (.cons (.int .i64) .nl))))))
abbrev C3:Type:=Int×Int×Int×Int×Int×Int×Unit
abbrev Lk:C3:=((0:Int),(0:Int),(0:Int),(0:Int),(0:Int),(0:Int),())
abbrev EG:Ty:=.st (.cons (.int .i64) (.cons (.int .i64) (.cons (.int .i64) (.cons (.int .i64) .nl))))
abbrev CP:Type:=Int×Int×Int×Int×Unit
abbrev Gn:CP:=((0:Int),(0:Int),(0:Int),(0:Int),())
abbrev WO:Ty:=.st (.cons (.int .i64) (.cons (.int .i64) (.cons (.sl EG) .nl)))
abbrev GV:Type:=Int×Int×(List CP)×Unit
abbrev Z33:GV:=((0:Int),(0:Int),([]:List CP),())
abbrev F9:Ty:=.st (.cons (.int .i64) (.cons EG .nl))
abbrev B0:Type:=Int×CP×Unit
abbrev CG:B0:=((0:Int),Gn,())
abbrev AQ:Ty:=.st (.cons (.int .i64) (.cons (.int .i64) .nl))
abbrev A0:Type:=Int×Int×Unit
abbrev A1:A0:=((0:Int),(0:Int),())
abbrev DQ:Ty:=.st (.cons (.int .i64) (.cons (.arr 3 AQ) .nl))
abbrev A9:Type:=Int×(List A0)×Unit
abbrev A5:A9:=((0:Int),(List.replicate 3 A1),())
abbrev SS:Ty:=.st (.cons (.int .i64) (.cons (.int .i64) (.cons (.int .i64) (.cons (.sl AQ) .nl))))
abbrev Iw:Type:=Int×Int×Int×(List A0)×Unit
abbrev Z40:Iw:=((0:Int),(0:Int),(0:Int),([]:List A0),())
abbrev T42:Ty:=.st (.cons (.int .i64) (.cons (.int .i64) (.cons (.int .i64) (.cons .str (.cons .bool (.cons .bool (.cons .bool (.cons (.int .i64) (.cons (.int .i64) (.cons Hj (.cons Hk (.cons (.int .i64) (.cons WO (.cons EG (.cons (.int .i64) (.cons (.sl (.int .i64)) (.cons (.int .i64) (.cons (.sl F9) (.cons (.sl DQ) (.cons (.int .i64) (.cons (.int .i64) (.cons (.int .i64) (.cons (.int .i64) (.cons .str (.cons (.int .i64) (.cons (.int .i64) (.cons (.int .i64) (.cons SS .nl))))))))))))))))))))))))))))
abbrev AJ:Type:=Int×Int×Int×(List UInt8)×Bool×Bool×Bool×Int×Int×Fs×C3×Int×GV×CP×Int×(List Int)×Int×(List B0)×(List A9)×Int×Int×Int×Int×(List UInt8)×Int×Int×Int×Iw×Unit
abbrev AA:AJ:=((0:Int),(0:Int),(0:Int),([]:List UInt8),false,false,false,(0:Int),(0:Int),Z24,Lk,(0:Int),Z33,Gn,(0:Int),([]:List Int),(0:Int),([]:List B0),([]:List A9),(0:Int),(0:Int),(0:Int),(0:Int),([]:List UInt8),(0:Int),(0:Int),(0:Int),Z40,())
abbrev Jw:Ty:=.st (.cons .str (.cons .str .nl))
abbrev C8:Type:=(List UInt8)×(List UInt8)×Unit
abbrev DD:C8:=(([]:List UInt8),([]:List UInt8),())
abbrev HU:Ty:=.st (.cons (.int .i64) (.cons .str (.cons (.int .i64) (.cons (.int .i64) (.cons WO .nl)))))
abbrev C9:Type:=Int×(List UInt8)×Int×Int×GV×Unit
abbrev CT:C9:=((0:Int),([]:List UInt8),(0:Int),(0:Int),Z33,())
abbrev T28:Ty:=.st (.cons (.int .i64) (.cons (.int .i64) (.cons (.int .i64) (.cons (.sl T42) (.cons (.int .i64) (.cons Hj (.cons (.sl Jw) (.cons (.sl HU) .nl))))))))
abbrev AM:Type:=Int×Int×Int×(List AJ)×Int×Fs×(List C8)×(List C9)×Unit
abbrev Z28:AM:=((0:Int),(0:Int),(0:Int),([]:List AJ),(0:Int),Z24,([]:List C8),([]:List C9),())
abbrev T52:Ty:=.st (.cons T42 (.cons (.int .i64) (.cons (.int .i64) .nl)))
abbrev D52:Type:=AJ×Int×Int×Unit
abbrev Hl:Ty:=.st (.cons (.int .u8) (.cons (.int .i64) (.cons (.sl DQ) .nl)))
abbrev C5:Type:=Int×Int×(List A9)×Unit
abbrev BG:C5:=((0:Int),(0:Int),([]:List A9),())
abbrev Hm:Ty:=.st (.cons (.int .u8) (.cons (.int .u8) (.cons (.int .i64) .nl)))
abbrev DG:Type:=Int×Int×Int×Unit
abbrev BV:DG:=((0:Int),(0:Int),(0:Int),())
abbrev Ho:Ty:=.st (.cons (.int .i64) (.cons (.int .i64) (.cons (.int .i64) (.cons (.sl Hl) (.cons (.sl Hm) .nl)))))
abbrev A8:Type:=Int×Int×Int×(List C5)×(List DG)×Unit
abbrev Ix:Ty:=.st (.cons (.int .i64) (.cons (.int .i64) (.cons (.int .i64) (.cons (.sl (.sl AQ)) (.cons (.int .i64) .nl)))))
abbrev Es:Ty:=.st (.cons Ho (.cons (.arr 256 (.int .i64)) .nl))
abbrev AV:Type:=A8×(List Int)×Unit
abbrev Kc:Ty:=.st (.cons AQ (.cons AQ (.cons AQ (.cons AQ (.cons AQ .nl)))))
abbrev CY:Type:=A0×A0×A0×A0×A0×Unit
abbrev BY:CY:=(A1,A1,A1,A1,A1,())
abbrev T276:Ty:=.st (.cons (.int .u16) (.cons (.int .u16) (.cons (.int .u16) .nl)))
abbrev T279:Ty:=.st (.cons (.int .u32) (.cons (.int .u32) (.cons (.int .u32) .nl)))
abbrev T273:Ty:=.st (.cons (.sl T276) (.cons (.sl T279) (.cons (.int .i64) .nl)))
abbrev Q1{a b c d e f:Type}(y':a×b×c×d×e×f):f:=y'.2.2.2.2.2
abbrev Q3{a b c d e f g:Type}(y':a×b×c×d×e×f×g):g:=y'.2.2.2.2.2.2
abbrev Q0{a b c d e f g h:Type}(y':a×b×c×d×e×f×g×h):h:=y'.2.2.2.2.2.2.2
abbrev Q5{a b c d e f g h i:Type}(y':a×b×c×d×e×f×g×h×i):i:=y'.2.2.2.2.2.2.2.2
abbrev Q4{a b c d e f g h i j:Type}(y':a×b×c×d×e×f×g×h×i×j):j:=y'.2.2.2.2.2.2.2.2.2
abbrev Q2{a b c d e f g h i j k:Type}(y':a×b×c×d×e×f×g×h×i×j×k):k:=y'.2.2.2.2.2.2.2.2.2.2
abbrev Q7{a b c d e f g h i j k l:Type}(y':a×b×c×d×e×f×g×h×i×j×k×l):l:=y'.2.2.2.2.2.2.2.2.2.2.2
abbrev Q6{a b c d e f g h i j k l m:Type}(y':a×b×c×d×e×f×g×h×i×j×k×l×m):m:=y'.2.2.2.2.2.2.2.2.2.2.2.2
abbrev Q9{a b c d e f g h i j k l m n:Type}(y':a×b×c×d×e×f×g×h×i×j×k×l×m×n):n:=y'.2.2.2.2.2.2.2.2.2.2.2.2.2
abbrev Qb{a b c d e f g h i j k l m n o:Type}(y':a×b×c×d×e×f×g×h×i×j×k×l×m×n×o):o:=y'.2.2.2.2.2.2.2.2.2.2.2.2.2.2
abbrev Qa{a b c d e f g h i j k l m n o p:Type}(y':a×b×c×d×e×f×g×h×i×j×k×l×m×n×o×p):p:=y'.2.2.2.2.2.2.2.2.2.2.2.2.2.2.2
abbrev Qe{a b c d e f g h i j k l m n o p q:Type}(y':a×b×c×d×e×f×g×h×i×j×k×l×m×n×o×p×q):q:=y'.2.2.2.2.2.2.2.2.2.2.2.2.2.2.2.2
abbrev Qd{a b c d e f g h i j k l m n o p q r:Type}(y':a×b×c×d×e×f×g×h×i×j×k×l×m×n×o×p×q×r):r:=y'.2.2.2.2.2.2.2.2.2.2.2.2.2.2.2.2.2
abbrev Q8{a b c d e f g h i j k l m n o p q r s:Type}(y':a×b×c×d×e×f×g×h×i×j×k×l×m×n×o×p×q×r×s):s:=y'.2.2.2.2.2.2.2.2.2.2.2.2.2.2.2.2.2.2
abbrev Qi{a b c d e f g h i j k l m n o p q r s t:Type}(y':a×b×c×d×e×f×g×h×i×j×k×l×m×n×o×p×q×r×s×t):t:=y'.2.2.2.2.2.2.2.2.2.2.2.2.2.2.2.2.2.2.2
abbrev Qc{a b c d e f g h i j k l m n o p q r s t u:Type}(y':a×b×c×d×e×f×g×h×i×j×k×l×m×n×o×p×q×r×s×t×u):u:=y'.2.2.2.2.2.2.2.2.2.2.2.2.2.2.2.2.2.2.2.2
abbrev Qf{a b c d e f g h i j k l m n o p q r s t u v:Type}(y':a×b×c×d×e×f×g×h×i×j×k×l×m×n×o×p×q×r×s×t×u×v):v:=y'.2.2.2.2.2.2.2.2.2.2.2.2.2.2.2.2.2.2.2.2.2
abbrev Qg{a b c d e f g h i j k l m n o p q r s t u v w:Type}(y':a×b×c×d×e×f×g×h×i×j×k×l×m×n×o×p×q×r×s×t×u×v×w):w:=y'.2.2.2.2.2.2.2.2.2.2.2.2.2.2.2.2.2.2.2.2.2.2
abbrev Qk{a b c d e f g h i j k l m n o p q r s t u v w x:Type}(y':a×b×c×d×e×f×g×h×i×j×k×l×m×n×o×p×q×r×s×t×u×v×w×x):x:=y'.2.2.2.2.2.2.2.2.2.2.2.2.2.2.2.2.2.2.2.2.2.2.2
abbrev Ql{a b c d e f g h i j k l m n o p q r s t u v w x y:Type}(y':a×b×c×d×e×f×g×h×i×j×k×l×m×n×o×p×q×r×s×t×u×v×w×x×y):y:=y'.2.2.2.2.2.2.2.2.2.2.2.2.2.2.2.2.2.2.2.2.2.2.2.2
abbrev Qm{a b c d e f g h i j k l m n o p q r s t u v w x y z:Type}(y':a×b×c×d×e×f×g×h×i×j×k×l×m×n×o×p×q×r×s×t×u×v×w×x×y×z):z:=y'.2.2.2.2.2.2.2.2.2.2.2.2.2.2.2.2.2.2.2.2.2.2.2.2.2
abbrev Qh{a b c d e f g h i j k l m n o p q r s t u v w x y z A:Type}(y':a×b×c×d×e×f×g×h×i×j×k×l×m×n×o×p×q×r×s×t×u×v×w×x×y×z×A):A:=y'.2.2.2.2.2.2.2.2.2.2.2.2.2.2.2.2.2.2.2.2.2.2.2.2.2.2
abbrev Qj{a b c d e f g h i j k l m n o p q r s t u v w x y z A B:Type}(y':a×b×c×d×e×f×g×h×i×j×k×l×m×n×o×p×q×r×s×t×u×v×w×x×y×z×A×B):B:=y'.2.2.2.2.2.2.2.2.2.2.2.2.2.2.2.2.2.2.2.2.2.2.2.2.2.2.2
abbrev Vz{a b c d e:Type}(y:a×b×c×List d×e):=(y,y.2.2.2.1,len y.2.2.2.1,())
abbrev Va(y:AJ)(a b):=((y.1,y.2.1,y.2.2.1,y.2.2.2.1,y.2.2.2.2.1,(Q1 y).1,(Q3 y).1,(Q0 y).1,(Q5 y).1,(Q4 y).1,a,b):AJ)
abbrev Vb(y:AJ)(a b):=((y.1,y.2.1,y.2.2.1,y.2.2.2.1,y.2.2.2.2.1,(Q1 y).1,(Q3 y).1,(Q0 y).1,(Q5 y).1,(Q4 y).1,(Q2 y).1,a,b):AJ)
abbrev Vc(y:AJ)(a b):=((y.1,y.2.1,y.2.2.1,y.2.2.2.1,y.2.2.2.2.1,(Q1 y).1,(Q3 y).1,(Q0 y).1,(Q5 y).1,(Q4 y).1,(Q2 y).1,(Q7 y).1,a,b):AJ)
abbrev Vd(y:AJ)(a b):=((y.1,y.2.1,y.2.2.1,y.2.2.2.1,y.2.2.2.2.1,(Q1 y).1,(Q3 y).1,(Q0 y).1,(Q5 y).1,(Q4 y).1,(Q2 y).1,(Q7 y).1,(Q6 y).1,a,b):AJ)
abbrev Ve(y:AJ)(a b):=((y.1,y.2.1,y.2.2.1,y.2.2.2.1,y.2.2.2.2.1,(Q1 y).1,(Q3 y).1,(Q0 y).1,(Q5 y).1,(Q4 y).1,(Q2 y).1,(Q7 y).1,(Q6 y).1,(Q9 y).1,a,b):AJ)
abbrev Vf(y:AJ)(a b):=((y.1,y.2.1,y.2.2.1,y.2.2.2.1,y.2.2.2.2.1,(Q1 y).1,(Q3 y).1,(Q0 y).1,(Q5 y).1,(Q4 y).1,(Q2 y).1,(Q7 y).1,(Q6 y).1,(Q9 y).1,(Qb y).1,(Qa y).1,(Qe y).1,(Qd y).1,(Q8 y).1,(Qi y).1,(Qc y).1,(Qf y).1,(Qg y).1,(Qk y).1,(Ql y).1,(Qm y).1,a,b):AJ)
abbrev Vg(y:AJ)(a b):=((y.1,y.2.1,y.2.2.1,y.2.2.2.1,y.2.2.2.2.1,(Q1 y).1,(Q3 y).1,(Q0 y).1,(Q5 y).1,(Q4 y).1,(Q2 y).1,(Q7 y).1,(Q6 y).1,(Q9 y).1,(Qb y).1,(Qa y).1,(Qe y).1,(Qd y).1,(Q8 y).1,(Qi y).1,(Qc y).1,(Qf y).1,(Qg y).1,(Qk y).1,(Ql y).1,(Qm y).1,(Qh y).1,a,b):AJ)
abbrev Aa:Ty:=.int .i64
abbrev Ad:Ty:=.sl AQ
abbrev Ai:Sh:=.val (.sl DQ)
abbrev Aj:Sh:=.val (.sl Ad)
abbrev Ak:Sh:=.val (.sl Aa)
abbrev Al:Sh:=.val T28
abbrev Ae:Sh:=.box T28 Al
abbrev Ao:Sh:=.val (.sl F9)
abbrev Ap:Sh:=.val (.int .u64)
abbrev Aq:Sh:=.val AQ
abbrev Au:Sh:=.own Ad 0 false
abbrev Aw:Sh:=.own Aa 1005 false
abbrev Ay:Sh:=.val T42
abbrev Az:Sh:=.own Ad 1012 false
abbrev Ba:Sh:=.val Hk
abbrev Bb:Sh:=.val (.ptr Es)
abbrev Bd:Sh:=.val Ad
abbrev Be:Sh:=.val (.sl .str)
abbrev Bg:Sh:=.own Ad 400000 false
abbrev Ac:Sh:=.box Ix (.agg (.cons Aa (.cons Aa (.cons Aa (.cons (.sl Ad) (.cons Aa .nl))))) (.cons vI (.cons vI (.cons vI (.cons Bg (.cons vI .nl))))))
abbrev Bh:Sh:=.own Aa 0 false
abbrev Bj:Sh:=.own AQ 400000 true
abbrev Bk:Sh:=.own DQ 0 false
abbrev Bl:Ty:=.sl .bool
abbrev As:Sh:=.box Bl (.own .bool 400100 true)
abbrev At:Sh:=.box Bl (.own .bool 400200 true)
abbrev Bm:Sh:=.val Ho
abbrev Ah:Sh:=.box Ho Bm
abbrev An:Sh:=.box Es (.agg (.cons Ho (.cons (.arr 256 Aa) .nl)) (.cons Bm (.cons (.val (.arr 256 Aa)) .nl)))
abbrev Bo:Sh:=.box Ix (.agg (.cons Aa (.cons Aa (.cons Aa (.cons (.sl Ad) (.cons Aa .nl))))) (.cons vI (.cons vI (.cons vI (.cons (.own Ad 403800 false) (.cons vI .nl))))))
abbrev Bp:Sh:=.box Hk Ba
abbrev Bq:Sh:=.own AQ 1005 false
abbrev Br:Sh:=.own .bool 1003 true
abbrev Bt:Sh:=.box (.sl .str) (.own .str 400900 false)
abbrev Bu:Sh:=.own Kc 1007 false
abbrev Bv:Sh:=.own .str 1010 false
abbrev Bw:Sh:=.own DQ 1004 false
abbrev Bx:Sh:=.own AQ 0 false
abbrev By:Sh:=.own (Hd Aa Aa) 400100 true
abbrev Bz:Sh:=.box AQ Aq
abbrev Ca:Sh:=.val Hj
abbrev Cb:Sh:=.box Ad (.own AQ 400200 false)
abbrev Cc:Sh:=.own AQ 1006 false
abbrev Cd:Sh:=.val WO
abbrev Ce:Sh:=.own AQ 1016 false
abbrev Cf:Sh:=.own DQ 1005 false
abbrev Cg:Sh:=.own DQ 1008 false
abbrev Ch:Sh:=.own .str 1012 false
abbrev Ci:Sh:=.own DQ 1008 true
abbrev Cj:Sh:=.val EG
abbrev Ck:Sh:=.own Aa 1014 false
abbrev Cl:Sh:=.own Aa 1015 false
abbrev Cm:Sh:=.box Aa vI
abbrev Cn:Sh:=.ref 12 Es
abbrev Co:Sh:=.own T42 0 true
abbrev Cp:Sh:=.box (.ptr Es) Bb
abbrev Cq:Sh:=.box HU (.val HU)
abbrev Cr:Sh:=.own Ad 1007 false
abbrev Cs:Sh:=.own (Hd Aa Aa) 1010 true
abbrev Ct:Sh:=.own F9 0 false
abbrev Cu:Ty:=.sl T42
abbrev Ar:Sh:=.val Cu
abbrev Cv:Ty:=.sl Jw
abbrev Bn:Sh:=.val Cv
abbrev Cw:Ty:=.sl HU
abbrev Av:Sh:=.box T28 (.agg (.cons Aa (.cons Aa (.cons Aa (.cons Cu (.cons Aa (.cons Hj (.cons Cv (.cons Cw .nl)))))))) (.cons vI (.cons vI (.cons vI (.cons (.own T42 400300 true) (.cons vI (.cons Ca (.cons (.own Jw 400302 false) (.cons (.own HU 400303 true) .nl)))))))))
abbrev Bf:Sh:=.val Cw
abbrev Ab:Sh:=.box T28 (.agg (.cons Aa (.cons Aa (.cons Aa (.cons Cu (.cons Aa (.cons Hj (.cons Cv (.cons Cw .nl)))))))) (.cons vI (.cons vI (.cons vI (.cons Ar (.cons vI (.cons (.agg (.cons Aa (.cons Aa (.cons (.sl Aa) .nl))) (.cons vI (.cons vI (.cons Ak .nl)))) (.cons Bn (.cons Bf .nl)))))))))
abbrev Ax:Sh:=.box T28 (.agg (.cons Aa (.cons Aa (.cons Aa (.cons Cu (.cons Aa (.cons Hj (.cons Cv (.cons Cw .nl)))))))) (.cons vI (.cons vI (.cons vI (.cons (.own T42 400300 true) (.cons vI (.cons Ca (.cons Bn (.cons Bf .nl)))))))))
abbrev Da:Sh:=.val SS
abbrev Db:Sh:=.own EG 0 false
abbrev Dc:Sh:=.own Jw 0 false
abbrev Dd:Sh:=.val DQ
abbrev Bi:Sh:=.box DQ Dd
abbrev De:Sh:=.val (.ptr T42)
abbrev Df:Sh:=.own HU 0 true
abbrev Dg:Sh:=.box WO Cd
abbrev Dh:Sh:=.own .bool 1005 false
abbrev Di:Ty:=.sl Hl
abbrev Dj:Sh:=.own .bool 1005 true
abbrev Dk:Sh:=.own .str 1005 false
abbrev Dl:Sh:=.own .str 1013 false
abbrev Dm:Sh:=.own AQ 1005 true
abbrev Dn:Sh:=.val .str
abbrev Do:Sh:=.val Kc
abbrev Dp:Sh:=.own Ad 1020 false
abbrev Dq:Sh:=.own .str 0 false
abbrev Dr:Ty:=.int .u8
abbrev Bc:Sh:=.val Dr
abbrev Bs:Sh:=.box Hl (.agg (.cons Dr (.cons Aa (.cons (.sl DQ) .nl))) (.cons Bc (.cons vI (.cons (.own DQ 400400 false) .nl))))
abbrev Ds:Ty:=.sl Hm
abbrev Af:Sh:=.box Ho (.agg (.cons Aa (.cons Aa (.cons Aa (.cons Di (.cons Ds .nl))))) (.cons vI (.cons vI (.cons vI (.cons (.own Hl 400000 false) (.cons (.own Hm 400001 false) .nl))))))
abbrev Ag:Sh:=.box Ho (.agg (.cons Aa (.cons Aa (.cons Aa (.cons Di (.cons Ds .nl))))) (.cons vI (.cons vI (.cons vI (.cons (.own Hl 400100 false) (.cons (.own Hm 400101 false) .nl))))))
abbrev Dt:Sh:=.box Ad (.own AQ 400100 false)
abbrev Du:Sh:=.own AQ 0 true
abbrev Dv:Ty:=.arr 65 Aa
abbrev Dw:Sh:=.own HU 3 true
abbrev Dx:Sh:=.val Aa
abbrev Dy:Sh:=.val (.sl EG)
abbrev Dz:Sh:=.val Bl
abbrev Ea:Sh:=.val (.ptr Aa)
def G0:List Int:=[0,0,0,0,0,0,0,0,0,1,1,1,1,1,0,0,0,0,0,0,0,0,0,0,0,0,0,0,0,0,0,0,1,0,0,0,0,0,0,0,0,0,0,0,0,0,0,0,0,0,0,0,0,0,0,0,0,0,0,0,0,0,0,0,0,0,0,0,0,0,0,0,0,0,0,0,0,0,0,0,0,0,0,0,0,0,0,0,0,0,0,0,0,0,0,0,0,0,0,0,0,0,0,0,0,0,0,0,0,0,0,0,0,0,0,0,0,0,0,0,0,0,0,0,0,0,0,0,0,0,0,0,0,0,0,0,0,0,0,0,0,0,0,0,0,0,0,0,0,0,0,0,0,0,0,0,0,0,0,0,0,0,0,0,0,0,0,0,0,0,0,0,0,0,0,0,0,0,0,0,0,0,0,0,0,0,0,0,0,0,0,0,0,0,0,0,0,0,0,0,0,0,0,0,0,0,0,0,0,0,0,0,0,0,0,0,0,0,0,0,0,0,0,0,0,0,0,0,0,0,0,0,0,0,0,0,0,0,0,0,0,0,0,0,0,0,0,0,0,0,0,0,0,0,0,0]
def G5:List Int:=[0,1608,3216,4821,6424,8022,9616,11204,12785,14359,15924,17479,19024,20557,22078,23586,25080,26558,28020,29466,30893,32303,33692,35062,36410,37736,39040,40320,41576,42806,44011,45190,46341,47464,48559,49624,50660,51665,52639,53581,54491,55368,56212,57022,57798,58538,59244,59914,60547,61145,61705,62228,62714,63162,63572,63944,64277,64571,64827,65043,65220,65358,65457,65516,65536]
instance:GlobTab:=⟨⟨[(0,⟨(.arr 256 Dr),G0⟩),(5,⟨Dv,G5⟩)]⟩⟩
set_option maxRecDepth 20000 in
def WQ:List UInt8:=[48,48,48,48,48,48,48,48,48,48,32,48,48,48,48,53,102,48,48,48,48,32,48,48,48,55,48,48,48,55,48,48,32,49,52,55,102,49,52,55,102,49,52,32,50,52,50,97,55,102,50,97,49,50,32,50,51,49,51,48,56,54,52,54,50,32,51,54,52,57,53,54,50,48,53,48,32,48,48,48,53,48,51,48,48,48,48,32,48,48,49,99,50,50,52,49,48,48,32,48,48,52,49,50,50,49,99,48,48,32,49,52,48,56,51,101,48,56,49,52,32,48,56,48,56,51,101,48,56,48,56,32,48,48,53,48,51,48,48,48,48,48,32,48,56,48,56,48,56,48,56,48,56,32,48,48,54,48,54,48,48,48,48,48,32,50,48,49,48,48,56,48,52,48,50,32,51,101,53,49,52,57,52,53,51,101,32,48,48,52,50,55,102,52,48,48,48,32,52,50,54,49,53,49,52,57,52,54,32,50,49,52,49,52,53,52,98,51,49,32,49,56,49,52,49,50,55,102,49,48,32,50,55,52,53,52,53,52,53,51,57,32,51,99,52,97,52,57,52,57,51,48,32,48,49,55,49,48,57,48,53,48,51,32,51,54,52,57,52,57,52,57,51,54,32,48,54,52,57,52,57,50,57,49,101,32,48,48,51,54,51,54,48,48,48,48,32,48,48,53,54,51,54,48,48,48,48,32,48,56,49,52,50,50,52,49,48,48,32,49,52,49,52,49,52,49,52,49,52,32,48,48,52,49,50,50,49,52,48,56,32,48,50,48,49,53,49,48,57,48,54,32,51,50,52,57,55,57,52,49,51,101,32,55,101,49,49,49,49,49,49,55,101,32,55,102,52,57,52,57,52,57,51,54,32,51,101,52,49,52,49,52,49,50,50,32,55,102,52,49,52,49,50,50,49,99,32,55,102,52,57,52,57,52,57,52,49,32,55,102,48,57,48,57,48,57,48,49,32,51,101,52,49,52,57,52,57,55,97,32,55,102,48,56,48,56,48,56,55,102,32,48,48,52,49,55,102,52,49,48,48,32,50,48,52,48,52,49,51,102,48,49,32,55,102,48,56,49,52,50,50,52,49,32,55,102,52,48,52,48,52,48,52,48,32,55,102,48,50,48,99,48,50,55,102,32,55,102,48,52,48,56,49,48,55,102,32,51,101,52,49,52,49,52,49,51,101,32,55,102,48,57,48,57,48,57,48,54,32,51,101,52,49,53,49,50,49,53,101,32,55,102,48,57,49,57,50,57,52,54,32,52,54,52,57,52,57,52,57,51,49,32,48,49,48,49,55,102,48,49,48,49,32,51,102,52,48,52,48,52,48,51,102,32,49,102,50,48,52,48,50,48,49,102,32,51,102,52,48,51,56,52,48,51,102,32,54,51,49,52,48,56,49,52,54,51,32,48,55,48,56,55,48,48,56,48,55,32,54,49,53,49,52,57,52,53,52,51,32,48,48,55,102,52,49,52,49,48,48,32,48,50,48,52,48,56,49,48,50,48,32,48,48,52,49,52,49,55,102,48,48,32,48,52,48,50,48,49,48,50,48,52,32,52,48,52,48,52,48,52,48,52,48,32,48,48,48,49,48,50,48,52,48,48,32,50,48,53,52,53,52,53,52,55,56,32,55,102,52,56,52,52,52,52,51,56,32,51,56,52,52,52,52,52,52,50,48,32,51,56,52,52,52,52,52,56,55,102,32,51,56,53,52,53,52,53,52,49,56,32,48,56,55,101,48,57,48,49,48,50,32,48,99,53,50,53,50,53,50,51,101,32,55,102,48,56,48,52,48,52,55,56,32,48,48,52,52,55,100,52,48,48,48,32,50,48,52,48,52,52,51,100,48,48,32,55,102,49,48,50,56,52,52,48,48,32,48,48,52,49,55,102,52,48,48,48,32,55,99,48,52,49,56,48,52,55,56,32,55,99,48,56,48,52,48,52,55,56,32,51,56,52,52,52,52,52,52,51,56,32,55,99,49,52,49,52,49,52,48,56,32,48,56,49,52,49,52,49,56,55,99,32,55,99,48,56,48,52,48,52,48,56,32,52,56,53,52,53,52,53,52,50,48,32,48,52,51,102,52,52,52,48,50,48,32,51,99,52,48,52,48,50,48,55,99,32,49,99,50,48,52,48,50,48,49,99,32,51,99,52,48,51,48,52,48,51,99,32,52,52,50,56,49,48,50,56,52,52,32,48,99,53,48,53,48,53,48,51,99,32,52,52,54,52,53,52,52,99,52,52,32,48,48,48,56,51,54,52,49,48,48,32,48,48,48,48,55,102,48,48,48,48,32,48,48,52,49,51,54,48,56,48,48,32,49,48,48,56,48,56,49,48,48,56]
set_option maxRecDepth 20000 in
def wD0:List UInt8:=[48,48,48,48,48,48,48,48,48,48,48,48,48,48,53,102,48,48,48,48,48,48,48,55,48,48,48,55,48,48,49,52,55,102,49,52,55,102,49,52,50,52,50,97,55,102,50,97,49,50,50,51,49,51,48,56,54,52,54,50,51,54,52,57,53,54,50,48,53,48,48,48,48,53,48,51,48,48,48,48,48,48,49,99,50,50,52,49,48,48,48,48,52,49,50,50,49,99,48,48,49,52,48,56,51,101,48,56,49,52,48,56,48,56,51,101,48,56,48,56,48,48,53,48,51,48,48,48,48,48,48,56,48,56,48,56,48,56,48,56,48,48,54,48,54,48,48,48,48,48,50,48,49,48,48,56,48,52,48,50,51,101,53,49,52,57,52,53,51,101,48,48,52,50,55,102,52,48,48,48,52,50,54,49,53,49,52,57,52,54,50,49,52,49,52,53,52,98,51,49,49,56,49,52,49,50,55,102,49,48,50,55,52,53,52,53,52,53,51,57,51,99,52,97,52,57,52,57,51,48,48,49,55,49,48,57,48,53,48,51,51,54,52,57,52,57,52,57,51,54,48,54,52,57,52,57,50,57,49,101,48,48,51,54,51,54,48,48,48,48,48,48,53,54,51,54,48,48,48,48,48,56,49,52,50,50,52,49,48,48,49,52,49,52,49,52,49,52,49,52,48,48,52,49,50,50,49,52,48,56,48,50,48,49,53,49,48,57,48,54,51,50,52,57,55,57,52,49,51,101,55,101,49,49,49,49,49,49,55,101,55,102,52,57,52,57,52,57,51,54,51,101,52,49,52,49,52,49,50,50,55,102,52,49,52,49,50,50,49,99,55,102,52,57,52,57,52,57,52,49,55,102,48,57,48,57,48,57,48,49,51,101,52,49,52,57,52,57,55,97,55,102,48,56,48,56,48,56,55,102,48,48,52,49,55,102,52,49,48,48,50,48,52,48,52,49,51,102,48,49,55,102,48,56,49,52,50,50,52,49,55,102,52,48,52,48,52,48,52,48,55,102,48,50,48,99,48,50,55,102,55,102,48,52,48,56,49,48,55,102,51,101,52,49,52,49,52,49,51,101,55,102,48,57,48,57,48,57,48,54,51,101,52,49,53,49,50,49,53,101,55,102,48,57,49,57,50,57,52,54,52,54,52,57,52,57,52,57,51,49,48,49,48,49,55,102,48,49,48,49,51,102,52,48,52,48,52,48,51,102,49,102,50,48,52,48,50,48,49,102,51,102,52,48,51,56,52,48,51,102,54,51,49,52,48,56,49,52,54,51,48,55,48,56,55,48,48,56,48,55,54,49,53,49,52,57,52,53,52,51,48,48,55,102,52,49,52,49,48,48,48,50,48,52,48,56,49,48,50,48,48,48,52,49,52,49,55,102,48,48,48,52,48,50,48,49,48,50,48,52,52,48,52,48,52,48,52,48,52,48,48,48,48,49,48,50,48,52,48,48,50,48,53,52,53,52,53,52,55,56,55,102,52,56,52,52,52,52,51,56,51,56,52,52,52,52,52,52,50,48,51,56,52,52,52,52,52,56,55,102,51,56,53,52,53,52,53,52,49,56,48,56,55,101,48,57,48,49,48,50,48,99,53,50,53,50,53,50,51,101,55,102,48,56,48,52,48,52,55,56,48,48,52,52,55,100,52,48,48,48,50,48,52,48,52,52,51,100,48,48,55,102,49,48,50,56,52,52,48,48,48,48,52,49,55,102,52,48,48,48,55,99,48,52,49,56,48,52,55,56,55,99,48,56,48,52,48,52,55,56,51,56,52,52,52,52,52,52,51,56,55,99,49,52,49,52,49,52,48,56,48,56,49,52,49,52,49,56,55,99,55,99,48,56,48,52,48,52,48,56,52,56,53,52,53,52,53,52,50,48,48,52,51,102,52,52,52,48,50,48,51,99,52,48,52,48,50,48,55,99,49,99,50,48,52,48,50,48,49,99,51,99,52,48,51,48,52,48,51,99,52,52,50,56,49,48,50,56,52,52,48,99,53,48,53,48,53,48,51,99,52,52,54,52,53,52,52,99,52,52,48,48,48,56,51,54,52,49,48,48,48,48,48,48,55,102,48,48,48,48,48,48,52,49,51,54,48,56,48,48,49,48,48,56,48,56,49,48,48,56]
theorem mD0:Pg Tryz.prog 283 k7:=xV4 Tryz.func283 (by kernel_rfl) (by kernel_rfl) (by kernel_rfl) (by kernel_rfl)
theorem mD1:Pg Tryz.prog 291 xB:=wB7 Tryz.func291 (by kernel_rfl) (by kernel_rfl) (by kernel_rfl) (by kernel_rfl)
def tys:List (Nat×Ty):=[(3,Aa),(4,.bool),(5,Dr),(9,.str),(21,(.int .i32)),(22,Cu),(23,(.sl Aa)),(25,Hj),(26,Cv),(27,Cw),(29,T28),(31,Hk),(32,(.sl EG)),(34,WO),(36,EG),(37,(.sl F9)),(38,(.sl DQ)),(39,Ad),(41,SS),(43,T42),(44,Aa),(53,T52),(86,Jw),(89,HU),(110,Bl),(115,F9),(118,AQ),(119,(.arr 3 AQ)),(121,DQ),(153,(.sl Ad)),(161,Di),(162,Ds),(164,Ho),(168,Ad),(171,AQ),(172,(.sl .str)),(173,(.int .u64)),(184,(.ptr Ix)),(186,Ix),(189,(.ptr Es)),(192,Ad),(196,AQ),(198,Hl),(203,Hm),(214,(.sl Kc)),(217,Kc),(222,(.arr 256 Aa)),(224,Es),(230,(.arr 256 Dr)),(256,Ad),(258,AQ),(259,(.int .u32)),(261,(.ptr T273)),(289,Dv)]
theorem Pu:E3 Tryz.prog tys:=by kernel_rfl
def maps:List (Nat×(Ty×Ty)):=[(98,(Aa,Aa)),(100,(Aa,.bool))]
def fts:List Nat:=[111]
theorem mixed:Tryz.prog.follows .mixedOrders:=by kernel_rfl
theorem cq {c:Ctx}(hs:NG Tryz.prog c.fns)(ia:(Jq Tryz.prog c.maps&&Jp Tryz.prog c.fts):=by kernel_rfl)(he:c.exts=[]:=by rfl)(ht:E3 Tryz.prog c.tys:=by exact Pu)(hn:Nat.ble c.n BO:=by kernel_rfl)(kt:c.clones=[]:=by rfl):CtxOk Tryz.prog c:=j8 ht ia hs he hn kt
theorem fq {c:Ctx}{f:Nat}{fn:Func}{ps:List (Nat×Sh)}{rs:Sh}{os:List (Nat×Sh)}{ok:AI ps->Prop}{F:AI ps->rs.den}{o:AI ps->Eh os}(hf:Tryz.prog.funcs[f]?=some fn)(hs:NG Tryz.prog c.fns)(ia:(Jq Tryz.prog c.maps&&Jp Tryz.prog c.fts):=by kernel_rfl)(he:c.exts=[]:=by rfl)(ht:E3 Tryz.prog c.tys:=by exact Pu)(hn:Nat.ble c.n BO:=by kernel_rfl)(kt:c.clones=[]:=by rfl)(hk:Ps fn c ps os:=by kernel_rfl)(iF:zG (fn.body.getD .skip)=[]:=by kernel_rfl)(kx:∀x,Iv c (fn.body.getD .skip) fn.results.toList ps rs os x=some (ok x,F x,o x):=by intro x;kernel_rfl):SpecOk Tryz.prog f (fnSpec ps rs os ok F o):=WK (j8 ht ia hs he hn kt) mixed hf hk iF trivial kx
theorem fl {c:Ctx}{f:Nat}{fn:Func}{ps:List (Nat×Sh)}{rs:Sh}{os:List (Nat×Sh)}{ok:AI ps->Prop}{F:AI ps->rs.den}{o:AI ps->Eh os}(hc:CtxOk Tryz.prog c)(hf:Tryz.prog.funcs[f]?=some fn){bs:List Code}(hL:GS Tryz.prog c bs)(hk:Ps fn c ps os:=by kernel_rfl)(iF:zG (fn.body.getD .skip)=bs:=by kernel_rfl)(kx:∀x,Iv c (fn.body.getD .skip) fn.results.toList ps rs os x=some (ok x,F x,o x):=by intro x;kernel_rfl):SpecOk Tryz.prog f (fnSpec ps rs os ok F o):=WK hc mixed hf hk iF hL kx
theorem lq {c:Ctx}{body:Code}{sp:St->Option Out}{ly lx:List (Nat×Sh)}{g:AI ly->AI lx->Bool}{next:AI ly->AI lx->AI lx}{ok:AI ly->AI lx->Prop}{es:AI ly->AI lx->List Comp}(hc:CtxOk Tryz.prog c)(hs:sp=Iu ly lx g next ok es)(les:List (List (Nat×Sh)))(hb:zG body=[]:=by kernel_rfl)(hw:ES c.keep body:=by kernel_rfl)(hl:Go.Am.look (λ_=>none) c.loops (Ij body)=sp:=by kernel_rfl)(kx:∀y x,NF c body ly lx les y x=some (ok y x,g y x,y,next y x,es y x):=by intro y x;kernel_rfl):yY Tryz.prog c body:=j9 hc mixed hs les hb trivial hw hl kx
theorem lm {c:Ctx}{body:Code}{sp:St->Option Out}{ly lx:List (Nat×Sh)}{g:AI ly->AI lx->Bool}{next:AI ly->AI lx->AI lx}{ok:AI ly->AI lx->Prop}{es:AI ly->AI lx->List Comp}(hc:CtxOk Tryz.prog c)(hs:sp=Iu ly lx g next ok es)(les:List (List (Nat×Sh))){bs:List Code}(hL:GS Tryz.prog c bs)(hb:zG body=bs:=by kernel_rfl)(hw:ES c.keep body:=by kernel_rfl)(hl:Go.Am.look (λ_=>none) c.loops (Ij body)=sp:=by kernel_rfl)(kx:∀y x,NF c body ly lx les y x=some (ok y x,g y x,y,next y x,es y x):=by intro y x;kernel_rfl):yY Tryz.prog c body:=j9 hc mixed hs les hb hL hw hl kx
@[reducible] def kb {n:Nat}{s:Am.Spec}(h:SpecOk Tryz.prog n s):Fb Tryz.prog:=⟨n,s,h⟩
@[reducible] def li:=Li.mk
theorem fx (X:Ctx->Ctx){f:Nat}{fn:Func}(hf:Tryz.prog.funcs[f]?=some fn)(n:Nat)(cs:List (Fb Tryz.prog):=[])(ls:List (Nat×Li):=[])(gh:List (Nat×List (Nat×Nat×Nat×Nat)):=[])(w:Bool:=false)(kp wr:List Nat:=[]){ps:List (Nat×Sh)}{rs:Sh}{os:List (Nat×Sh)}{ok:AI ps->Prop}{F:AI ps->rs.den}{o:AI ps->Eh os}(hX:(X (Cx tys (Fb.l cs) (Li.l ls) gh w n kp wr)).fns=Fb.l cs:=by rfl)(hk:Ps fn (X (Cx tys (Fb.l cs) (Li.l ls) gh w n kp wr)) ps os:=by kernel_rfl)(hl:SO (X (Cx tys (Fb.l cs) (Li.l ls) gh w n kp wr)) (Lj (fn.body.getD .skip)) ls=SP ls:=by kernel_rfl)(kx:∀x,Iv (X (Cx tys (Fb.l cs) (Li.l ls) gh w n kp wr)) (fn.body.getD .skip) fn.results.toList ps rs os x=some (ok x,F x,o x):=by intro x;kernel_rfl)(ia:(Jq Tryz.prog (X (Cx tys (Fb.l cs) (Li.l ls) gh w n kp wr)).maps&&Jp Tryz.prog (X (Cx tys (Fb.l cs) (Li.l ls) gh w n kp wr)).fts):=by kernel_rfl)(he:(X (Cx tys (Fb.l cs) (Li.l ls) gh w n kp wr)).exts=[]:=by rfl)(ht:E3 Tryz.prog (X (Cx tys (Fb.l cs) (Li.l ls) gh w n kp wr)).tys:=by exact Pu)(hn:Nat.ble (X (Cx tys (Fb.l cs) (Li.l ls) gh w n kp wr)).n BO:=by kernel_rfl)(kt:(X (Cx tys (Fb.l cs) (Li.l ls) gh w n kp wr)).clones=[]:=by rfl):SpecOk Tryz.prog f (fnSpec ps rs os ok F o):=wD6 (j8 ht ia (by rw[hX];exact Fb.all cs) he hn kt) mixed hf hk hl kx
theorem fb {f:Nat}{fn:Func}(hf:Tryz.prog.funcs[f]?=some fn)(n:Nat)(cs:List (Fb Tryz.prog):=[])(ls:List (Nat×Li):=[])(gh:List (Nat×List (Nat×Nat×Nat×Nat)):=[])(w:Bool:=false)(kp wr:List Nat:=[]){ps:List (Nat×Sh)}{rs:Sh}{os:List (Nat×Sh)}{ok:AI ps->Prop}{F:AI ps->rs.den}{o:AI ps->Eh os}(hk:Ps fn (Cx tys (Fb.l cs) (Li.l ls) gh w n kp wr) ps os:=by kernel_rfl)(hl:SO (Cx tys (Fb.l cs) (Li.l ls) gh w n kp wr) (Lj (fn.body.getD .skip)) ls=SP ls:=by kernel_rfl)(kx:∀x,Iv (Cx tys (Fb.l cs) (Li.l ls) gh w n kp wr) (fn.body.getD .skip) fn.results.toList ps rs os x=some (ok x,F x,o x):=by intro x;kernel_rfl)(ia:(Jq Tryz.prog (Cx tys (Fb.l cs) (Li.l ls) gh w n kp wr).maps&&Jp Tryz.prog (Cx tys (Fb.l cs) (Li.l ls) gh w n kp wr).fts):=by kernel_rfl)(he:(Cx tys (Fb.l cs) (Li.l ls) gh w n kp wr).exts=[]:=by rfl)(ht:E3 Tryz.prog (Cx tys (Fb.l cs) (Li.l ls) gh w n kp wr).tys:=by exact Pu)(hn:Nat.ble (Cx tys (Fb.l cs) (Li.l ls) gh w n kp wr).n BO:=by kernel_rfl)(kt:(Cx tys (Fb.l cs) (Li.l ls) gh w n kp wr).clones=[]:=by rfl):SpecOk Tryz.prog f (fnSpec ps rs os ok F o):=wD6 (j8 ht ia (Fb.all cs) he hn kt) mixed hf hk hl kx
abbrev SK (n:Nat)(s:Am.Spec):Prop:=SpecOk Tryz.prog n s
@[reducible] def Cy (f:List (Nat×Am.Spec)) (l:List (Nat×(St->Option Out))) (h:List (Nat×List (Nat×Nat×Nat×Nat))) (n:Nat):Ctx:=Cx tys f l h false n [] []
@[reducible] def Cz (f:List (Nat×Am.Spec)) (l:List (Nat×(St->Option Out))) (h:List (Nat×List (Nat×Nat×Nat×Nat))) (n:Nat):Ctx:=Cx tys f l h true n [] []
@[reducible] def AU (A R:Sh) (ok:A.den->Prop) (f:A.den->R.den):Am.Spec:=fnSpec [(0,A)] R [] (λx=>ok x.1) (λx=>f x.1) (λ_=>())
@[reducible] def BF (A B R:Sh) (ok:A.den->B.den->Prop) (f:A.den->B.den->R.den):Am.Spec:=fnSpec [(0,A),(1,B)] R [] (λx=>ok x.1 x.2.1) (λx=>f x.1 x.2.1) (λ_=>())
@[reducible] def DU (A B C R:Sh) (ok:A.den->B.den->C.den->Prop) (f:A.den->B.den->C.den->R.den):Am.Spec:=fnSpec [(0,A),(1,B),(2,C)] R [] (λx=>ok x.1 x.2.1 x.2.2.1) (λx=>f x.1 x.2.1 x.2.2.1) (λ_=>())
@[reducible] def FA (A B C D R:Sh) (ok:A.den->B.den->C.den->D.den->Prop) (f:A.den->B.den->C.den->D.den->R.den):Am.Spec:=fnSpec [(0,A),(1,B),(2,C),(3,D)] R [] (λx=>ok x.1 x.2.1 x.2.2.1 x.2.2.2.1) (λx=>f x.1 x.2.1 x.2.2.1 x.2.2.2.1) (λ_=>())
@[reducible] def sp5 (A B C D E R:Sh) (ok:A.den->B.den->C.den->D.den->E.den->Prop) (f:A.den->B.den->C.den->D.den->E.den->R.den):Am.Spec:=fnSpec [(0,A),(1,B),(2,C),(3,D),(4,E)] R [] (λx=>ok x.1 x.2.1 x.2.2.1 x.2.2.2.1 x.2.2.2.2.1) (λx=>f x.1 x.2.1 x.2.2.1 x.2.2.2.1 x.2.2.2.2.1) (λ_=>())
@[reducible] def sp6 (A B C D E F R:Sh) (ok:A.den->B.den->C.den->D.den->E.den->F.den->Prop) (f:A.den->B.den->C.den->D.den->E.den->F.den->R.den):Am.Spec:=fnSpec [(0,A),(1,B),(2,C),(3,D),(4,E),(5,F)] R [] (λx=>ok x.1 x.2.1 x.2.2.1 x.2.2.2.1 x.2.2.2.2.1 (Q1 x).1) (λx=>f x.1 x.2.1 x.2.2.1 x.2.2.2.1 x.2.2.2.2.1 (Q1 x).1) (λ_=>())
def mD2 (a:List UInt8)(b:Int):Prop×Int:=
 (True,Lib.indexByte a (toNat b).toUInt8)
def o6 a b:=(mD2 a b).1
def WR a b:=(mD2 a b).2
instance (a b):Decidable (o6 a b):=by unfold o6 mD2;dsimp only;infer_instance
def oM4:=BF vS Bc vI o6 WR
def nL7:Ctx:={ Cx tys [] [] [] false 8 [] [] with exts:=[(283,k7)] }
theorem nL8:CtxOk Tryz.prog nL7:=xZ9 Pu rfl trivial ⟨mD0,trivial⟩ (by kernel_rfl)
theorem mD3:SK 251 oM4:=fl nL8 Tryz.func251 (bs:=[]) trivial
def Kd (a b:List UInt8):Int:=Lib.indexByte a (b.headD 0)
def oM5 (_p0 a:List UInt8):Prop:=length a=1
def mD4:List (Nat×Sh):=[(0,Dn),(1,Dn)]
def mD5:Sh:=Dx
def mD6:List (Nat×Sh):=[]
def oM6:Am.Spec:=fnSpec mD4 mD5 mD6 (λx=>oM5 x.1 x.2.1) (λx=>Kd x.1 x.2.1) (λ_=>())
theorem mD7:SpecOk Tryz.prog 294 oM6:=wA8 (F:=Kd) ⟨_,Tryz.func294,by kernel_rfl,by decide⟩ (λs c w=>Tryz.strings_Index_one s c w)
def WS (_p0:List UInt8)(_p1:Int):(List (List UInt8)):=([]:List (List UInt8))
def oM7 (_p0:List UInt8)(_p1:Int):Prop:=False
def mD8:List (Nat×Sh):=[(0,vS),(1,vI)]
def mD9:Sh:=Be
def mE:List (Nat×Sh):=[]
def oM8:Am.Spec:=fnSpec mD8 mD9 mE (λx=>oM7 x.1 x.2.1) (λx=>WS x.1 x.2.1) (λ_=>())
theorem mE0:SpecOk Tryz.prog 295 oM8:=xY5 Tryz.func295 (by kernel_rfl) (by decide)
def Ke (a b:List UInt8):Int:=((Lib.countByte a (b.headD 0):Nat):Int)
def oM9 (_p0 a:List UInt8):Prop:=length a=1
def mE1:List (Nat×Sh):=[(0,Dn),(1,Dn)]
def mE2:Sh:=Dx
def mE3:List (Nat×Sh):=[]
def oN:Am.Spec:=fnSpec mE1 mE2 mE3 (λx=>oM9 x.1 x.2.1) (λx=>Ke x.1 x.2.1) (λ_=>())
theorem mE4:SpecOk Tryz.prog 296 oN:=wA8 (F:=Ke) ⟨_,Tryz.func296,by kernel_rfl,by decide⟩ (λs c w=>Tryz.strings_Count_one s c w)
abbrev SU:Type:=((List UInt8)×Int×Int×Unit)
abbrev WT:Type:=((List UInt8)×(List (List UInt8))×Int×Unit)
def SV (y:SU)(x:WT):Vn WT:=
 let i:=y.1
 let k:=y.2.1
 let e:=x.1
 let j:=x.2.1
 let a:=x.2.2.1
 let f:Bool:=a<y.2.2.1
 let b:=Kd e i
 let g:Bool:=b<0
 let c:=b+k
 let h:=len i
 let d:=b+h
 (f->oM5 e i/\(!g->A6 (b+k)/\(0<=c/\c<=len e)/\A7 a (len j)/\a<len j/\A6 (b+h)/\(0<=d/\d<=len e)/\A6 (a+1)),f&&(!g),(drop (toNat d) e,set j (toNat a) (take (toNat c) e),a+1,()))
def tQ0 y x:=(SV y x).1
def Kf y x:=(SV y x).2.1
def Kg y x:=(SV y x).2.2
def tU7 (y:SU)(x:WT):(List UInt8):=
 x.1
def tU8 (y:SU)(x:WT):(List (List UInt8)):=
 x.2.1
def tU9 (y:SU)(x:WT):Int:=
 x.2.2.1
def rC1:List (Nat×Sh):=[(0,vS),(9,(.own .str 1009 true)),(10,vI)]
def qZ:=li [(1,vS),(2,vI),(3,vI)] [(0,vS),(9,(.own .str 1009 true)),(10,vI)] Kf Kg tQ0 (λy x=>[ex 2 none rC1 ((tU7 y x),(tU8 y x),(tU9 y x),())]) [rC1]
def o7 (n o:List UInt8)(p q:Int):Prop×(List (List UInt8)):=
 let i:=q==0
 let g:=o==[]
 let j:Bool:=q<0
 let k:=Ke n o
 let l:=len n
 let d:=GJ (cond j (k+1) q) (l+1)
 let c:=(o,p,d-1,())
 let m:=(n,List.replicate (toNat d) ([]:List UInt8),(0:Int),())
 let f:=A3 (Kf c) (Kg c) m
 let b:=tU8 c f
 let a:=tU9 c f
 let e:=set b (toNat a) (tU7 c f)
 let h:=a+1
 (!i->(g->oM7 n q)/\(!g->(j->oM9 n o/\A6 (k+1))/\A6 (l+1)/\(0<=d/\d<=d/\d<=4294967296)/\A6 (d-1)/\AB (Kf c) (Kg c) (tQ0 c) m/\A7 a (len b)/\a<len b/\A6 (a+1)/\0<=h/\h<=len e),cond i [] (cond g (WS n q) (take (toNat h) e)))
def qZ0 a b c d:=(o7 a b c d).1
def Pv a b c d:=(o7 a b c d).2
theorem mE5:SK 281 (FA vS vS vI vI Be qZ0 Pv):=fb Tryz.func281 66 [kb mD7,kb mE0,kb mE4] [(11,qZ)] [(17,[(4,0,31,1009)]),(36,[(1,9,0,0)])] false [] [31]
def nM (a b:List UInt8):Prop×(List (List UInt8)):=
 (qZ0 a b 0 (-1:Int),Pv a b 0 (-1:Int))
def WU a b:=(nM a b).1
def Hp a b:=(nM a b).2
def oN0:=BF vS vS Be WU Hp
theorem mE6:SK 246 (BF vS vS Be WU Hp):=fb Tryz.func246 8 [kb mE5]
def WV (e f:Int):Prop×Int:=
 let d:=f==0
 let b:=cond (e==(-9223372036854775808)) (f==(-1)) false
 let c:=wrap .i64 (Int.tdiv e f)
 let a:=cond d 0 (cond b 9223372036854775807 (cond (cond (Int.tmod e f !=0) (!(Ty.eqb .bool (decide (e<0)) (decide (f<0)))) false) (wrap .i64 (c-1)) c))
 (!d->!b->f≠0/\f≠0,a)
def Pw a b:=(WV a b).1
def DH a b:=(WV a b).2
theorem oN2:SK 165 (BF vI vI vI Pw DH):=fb Tryz.func165 31 [] [] [] true
def o8 (f g:Int):Prop×Int:=
 let d:=g==0
 let c:=cond (f==(-9223372036854775808)) (g==(-1)) false
 let b:=DH f g
 let a:=wrap .i64 (f-(wrap .i64 (g*b)))
 let e:=cond (cond (cond (g>0) (decide (a≥wrap .i64 (g-a))) false) true (cond (g<0) (decide (a<=wrap .i64 (g-a))) false)) (wrap .i64 (b+1)) b
 (!d->!c->Pw f g,cond d 0 (cond c 9223372036854775807 e))
def Ej a b:=(o8 a b).1
def AS a b:=(o8 a b).2
theorem Kh:SK 136 (BF vI vI vI Ej AS):=fb Tryz.func136 46 [kb oN2] [] [] true
abbrev vV6:Type:=(Int×Int×(List DG)×Int×Unit)
abbrev AD:Type:=(Int×Unit)
def SW (y:vV6)(x:AD):Vm AD:=
 let d:=y.2.2.1
 let a:=x.1
 let b:Bool:=a<y.2.2.2.1
 let e:=nth d a BV
 let c:=cond (e.1==y.1) (e.2.1==y.2.1) false
 (b->A7 a (len d)/\(!c->A6 (a+1)),b&&(!c),(a+1,()),b&&c,!b)
def rT9 y x:=(SW y x).1
def tV y x:=(SW y x).2.1
def uX1 y x:=(SW y x).2.2.1
def rU y x:=(SW y x).2.2.2.1
def pZ5 y x:=(SW y x).2.2.2.2
def sP (y:vV6)(x:AD):Int:=
 (nth y.2.2.1 x.1 BV).2.2.1
def pZ6:=li [(7,Bc),(8,Bc),(33,(.val Ds)),(34,vI)] [(35,vI)] tV uX1 rT9 (λy x=>[ex 1 (some (rU y x)) [(6,vI)] ((sP y x),()),ex 2 (some (pZ5 y x)) [] ()]) [[(6,vI)],[]]
def lJ (d:AV)(e f:Int):Prop×Int:=
 let a:=((nth d.1.2.2.2.1 e BG).1,(nth d.1.2.2.2.1 f BG).1,d.1.2.2.2.2.1,len d.1.2.2.2.2.1,())
 let c:=((0:Int),())
 let b:=A3 (tV a) (uX1 a) c
 (A7 e (len d.1.2.2.2.1)/\A7 f (len d.1.2.2.2.1)/\AB (tV a) (uX1 a) (rT9 a) c,cond (rU a b) (sP a b) 0)
def o9 a b c:=(lJ a b c).1
def Ki a b c:=(lJ a b c).2
theorem mE7:SK 248 (DU Bb vI vI vI o9 Ki):=fb Tryz.func248 52 [] [(3,pZ6)]
abbrev uI3:Type:=(AV×(List UInt8)×Int×Unit)
abbrev p7:Type:=((List A0)×Int×Int×Unit)
def qE3 (y:uI3)(x:p7):Vn p7:=
 let f:=y.1
 let s:=y.2.1
 let e:=x.1
 let q:=x.2.1
 let b:=x.2.2.1
 let g:Bool:=b<y.2.2.1
 let h:=wD s b
 let a:=nth f.2.1 h 0
 let d:Bool:=a<0
 let i:Bool:=len e>0
 let j:=len e
 let k:=j-1
 let l:=nth e k A1
 let m:=Ki f l.1 a
 let r:=cond i (q+m) q
 let n:=([(a,r,())]:List A0)
 let o:=nth f.1.2.2.2.1 a BG
 let c:=d||(!d)
 (g->A7 b (len s)/\A7 h 256/\(!d->(i->A6 (j-1)/\A7 k (len e)/\o9 f l.1 a/\A6 (q+m))/\((length e+length n:Nat):Int)<=4294967296/\A7 a (len f.1.2.2.2.1)/\A6 (r+o.2.1))/\(c->A6 (b+1)),g&&c,(cond d e (e++n),cond d q (r+o.2.1),b+1,()))
def rU0 y x:=(qE3 y x).1
def SX y x:=(qE3 y x).2.1
def SY y x:=(qE3 y x).2.2
def uX2 (y:uI3)(x:p7):(List A0):=
 x.1
def uX3 (y:uI3)(x:p7):Int:=
 x.2.1
def rU1:List (Nat×Sh):=[(6,Cc),(7,vI)]
def pZ7:=li [(0,Bb),(1,vS),(11,vI)] [(6,Cc),(7,vI),(12,vI)] SX SY rU0 (λy x=>[ex 2 none rU1 ((uX2 y x),(uX3 y x),())]) [rU1]
def lJ0 (d:AV)(e:List UInt8):Prop×((List A0)×Int×Unit):=
 let a:=(d,e,len e,())
 let c:=(([]:List A0),(0:Int),(0:Int),())
 let b:=A3 (SX a) (SY a) c
 (AB (SX a) (SY a) (rU0 a) c,(uX2 a b,uX3 a b,()))
def WW a b:=(lJ0 a b).1
def C0 a b:=(lJ0 a b).2
theorem oN3:SK 213 (BF Bb vS (.tup (.cons Bx (.cons vI .nl))) WW C0):=fb Tryz.func213 60 [kb mE7] [(4,pZ7)] [(21,[(4,0,45,1006)]),(27,[(4,0,1006,0)])]
def lJ1 (c:AV)(d:List UInt8)(e:Int):Prop×Int:=
 let a:=C0 c d
 let b:=e*a.2.1
 (WW c d/\A6 (e*a.2.1)/\Ej b c.1.1,AS b c.1.1)
def Px a b c:=(lJ1 a b c).1
def Gp a b c:=(lJ1 a b c).2
def oN4:=DU Bb vS vI vI Px Gp
theorem mE8:SK 247 (DU Bb vS vI vI Px Gp):=fb Tryz.func247 24 [kb Kh,kb oN3] [] [(3,[(4,0,12,1007)])]
abbrev vT7:Type:=(AV×Int×Int×(List (List UInt8))×Int×Unit)
abbrev NH:Type:=((List (List UInt8))×(List UInt8)×Int×Unit)
def rC4 (y:vT7)(x:NH):Vn NH:=
 let l:=y.1
 let m:=y.2.1
 let n:=y.2.2.1
 let f:=y.2.2.2.1
 let k:=x.1
 let b:=x.2.1
 let a:=x.2.2.1
 let g:Bool:=a<y.2.2.2.2.1
 let c:=nth f a []
 let h:=b++([32]:List UInt8)
 let d:=h++c
 let i:=n==0
 let e:=cond i true (Gp l d m<=n)
 let j:=([b]:List (List UInt8))
 (g->A7 a (len f)/\((length b+length ([32]:List UInt8):Nat):Int)<=9223372036854775807/\((length h+length c:Nat):Int)<=9223372036854775807/\(!i->Px l d m)/\(e=false->((length k+length j:Nat):Int)<=4294967296)/\A6 (a+1),g,(cond e k (k++j),cond e d c,a+1,()))
def rC5 y x:=(rC4 y x).1
def NI y x:=(rC4 y x).2.1
def NJ y x:=(rC4 y x).2.2
def p8 (y:vT7)(x:NH):(List (List UInt8)):=
 x.1
def uN0 (y:vT7)(x:NH):(List UInt8):=
 x.2.1
def rC6:List (Nat×Sh):=[(4,Cp),(6,Cm),(7,Cm),(9,Bt),(12,vS)]
def tV0:St->Option Out:=Iu [(4,Cp),(6,Cm),(7,Cm),(25,Be),(26,vI)] [(9,Bt),(12,vS),(27,vI)] NI NJ rC5 λy x=>[ex 4 none rC6 (y.1,y.2.1,y.2.2.1,(p8 y x),(uN0 y x),())]
def oN5 (h:AV)(i j:Int)(k:(List (List UInt8)))(l:List UInt8):Prop×(Unit)×(AV×Int×Int×(List (List UInt8))×Unit):=
 let b:=Hp l ([32]:List UInt8)
 let d:=drop (toNat 1) b
 let c:=(h,i,j,d,len d,())
 let g:=(k,nth b 0 [],(0:Int),())
 let f:=A3 (NI c) (NJ c) g
 let a:=p8 c f
 let e:=([uN0 c f]:List (List UInt8))
 (WU l ([32]:List UInt8)/\A7 0 (len b)/\(0<=(1:Int)/\(1:Int)<=len b)/\AB (NI c) (NJ c) (rC5 c) g/\((length a+length e:Nat):Int)<=4294967296,(),(h,i,j,a++e,()))
def SZ a b c d e:=(oN5 a b c d e).1
def Ta a b c d e:=(oN5 a b c d e).2.2
def WX:List (Nat×Sh):=[(4,Cp),(6,Cm),(7,Cm),(9,Bt),(10,vS)]
def pO8:Sh:=(.tup .nl)
def p9:List (Nat×Sh):=[(4,Cp),(6,Cm),(7,Cm),(9,Bt)]
def WY:Ctx:=Cx tys [(246,oN0),(247,oN4)] [(7,tV0)] [(25,[(4,0,49,400900)]),(31,[(4,0,55,400900)])] false 57 [4,6,7,9] []
theorem qQ8:CtxOk Tryz.prog WY:=cq ⟨mE6,mE8,trivial⟩
noncomputable def LU:Code:=(l6 (Tryz.f212.body.getD .skip)).getD .skip
noncomputable def pO9:Code:=SN LU 0
theorem qZ1:yY Tryz.prog WY pO9:=j9 qQ8 mixed (sp:=tV0) rfl [rC6] (bs:=[]) (by kernel_rfl) trivial (by kernel_rfl) (by kernel_rfl) λy x=>by kernel_rfl
theorem nM1:∀x,xV5 WY LU (Ei WX x):=λx=>by kernel_rfl
theorem oN6:∀x,Iv WY LU [] WX pO8 p9 x=some (SZ x.1 x.2.1 x.2.2.1 x.2.2.2.1 x.2.2.2.2.1,(),Ta x.1 x.2.1 x.2.2.1 x.2.2.2.1 x.2.2.2.2.1):=λx=>by kernel_rfl
theorem nM2:xX7 Tryz.prog WY LU WX p9 (λx=>SZ x.1 x.2.1 x.2.2.1 x.2.2.2.1 x.2.2.2.2.1) (λx=>Ta x.1 x.2.1 x.2.2.1 x.2.2.2.1 x.2.2.2.2.1):=wB (rs:=pO8) (F:=λ_=>()) qQ8 mixed (bs:=[pO9]) (by kernel_rfl) ⟨qZ1,trivial⟩ (by kernel_rfl) nM1 oN6
end Go.Proofs.YtlpphnncneppoaaGreatDoor.Am
