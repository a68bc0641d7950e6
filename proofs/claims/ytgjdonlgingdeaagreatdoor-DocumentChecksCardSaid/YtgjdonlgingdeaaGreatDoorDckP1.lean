/- Printed by program: the functions that the statements reach, as plain functions, and their contracts. No condition. -/
import Derived.Test.YtgjdonlgingdeaaGreatDoorMach4
import Derived.Test.YtgjdonlgingdeaaGreatDoorDckI
import Derived.Test.YtgjdonlgingdeaaGreatDoorDckH
import Derived.Test.YtgjdonlgingdeaaGreatDoorProg
set_option linter.unusedVariables false
set_option synthInstance.maxSize 4000
set_option synthInstance.maxHeartbeats 400000
namespace Go.Proofs.YtgjdonlgingdeaaGreatDoor.Am
open Go Go.Am Go.Proofs
open Go.IntKind (wrap)
open _root_.Int (toNat)
open _root_.List (drop length set take)
abbrev Ij:Ty:=.st (.cons (.int .i64) (.cons (.int .i64) (.cons (.sl (.int .i64)) .nl)))
abbrev Ge:Type:=Int×Int×(List Int)×Unit
abbrev Z24:Ge:=((0:Int),(0:Int),([]:List Int),())
abbrev H9:Ty:=.st (.cons (.int .i64) (.cons (.int .i64) (.cons (.int .i64) (.cons (.int .i64) (.cons (.int .i64) (.cons (.int .i64) .nl))))))
abbrev C4:Type:=Int×Int×Int×Int×Int×Int×Unit
abbrev KU:C4:=((0:Int),(0:Int),(0:Int),(0:Int),(0:Int),(0:Int),())
abbrev Gf:Ty:=.st (.cons (.int .i64) (.cons (.int .i64) (.cons (.int .i64) (.cons (.int .i64) .nl))))
abbrev CE:Type:=Int×Int×Int×Int×Unit
abbrev Ik:CE:=((0:Int),(0:Int),(0:Int),(0:Int),())
abbrev Wt:Ty:=.st (.cons (.int .i64) (.cons (.int .i64) (.cons (.sl Gf) .nl)))
abbrev HD:Type:=Int×Int×(List CE)×Unit
abbrev Z48:HD:=((0:Int),(0:Int),([]:List CE),())
abbrev Il:Ty:=.st (.cons (.int .i64) (.cons Gf .nl))
abbrev AW:Type:=Int×CE×Unit
abbrev CO:AW:=((0:Int),Ik,())
abbrev AN:Ty:=.st (.cons (.int .i64) (.cons (.int .i64) .nl))
abbrev A0:Type:=Int×Int×Unit
abbrev A1:A0:=((0:Int),(0:Int),())
abbrev Eb:Ty:=.st (.cons (.int .i64) (.cons (.arr 3 AN) .nl))
abbrev A8:Type:=Int×(List A0)×Unit
abbrev A4:A8:=((0:Int),(List.replicate 3 A1),())
abbrev S9:Ty:=.st (.cons (.int .i64) (.cons (.int .i64) (.cons (.int .i64) (.cons (.sl AN) .nl))))
abbrev Jd:Type:=Int×Int×Int×(List A0)×Unit
abbrev Z55:Jd:=((0:Int),(0:Int),(0:Int),([]:List A0),())
abbrev Fv:Ty:=.st (.cons (.int .i64) (.cons (.int .i64) (.cons (.int .i64) (.cons .str (.cons .bool (.cons .bool (.cons .bool (.cons (.int .i64) (.cons (.int .i64) (.cons Ij (.cons H9 (.cons (.int .i64) (.cons Wt (.cons Gf (.cons (.int .i64) (.cons (.sl (.int .i64)) (.cons (.int .i64) (.cons (.sl Il) (.cons (.sl Eb) (.cons (.int .i64) (.cons (.int .i64) (.cons (.int .i64) (.cons (.int .i64) (.cons .str (.cons (.int .i64) (.cons (.int .i64) (.cons (.int .i64) (.cons S9 .nl))))))))))))))))))))))))))))
abbrev AK:Type:=Int×Int×Int×(List UInt8)×Bool×Bool×Bool×Int×Int×Ge×C4×Int×HD×CE×Int×(List Int)×Int×(List AW)×(List A8)×Int×Int×Int×Int×(List UInt8)×Int×Int×Int×Jd×Unit
abbrev A9:AK:=((0:Int),(0:Int),(0:Int),([]:List UInt8),false,false,false,(0:Int),(0:Int),Z24,KU,(0:Int),Z48,Ik,(0:Int),([]:List Int),(0:Int),([]:List AW),([]:List A8),(0:Int),(0:Int),(0:Int),(0:Int),([]:List UInt8),(0:Int),(0:Int),(0:Int),Z55,())
abbrev OU:Ty:=.st (.cons .str (.cons .str .nl))
abbrev BZ:Type:=(List UInt8)×(List UInt8)×Unit
abbrev DI:BZ:=(([]:List UInt8),([]:List UInt8),())
abbrev LA:Ty:=.st (.cons (.int .i64) (.cons .str (.cons (.int .i64) (.cons (.int .i64) (.cons Wt .nl)))))
abbrev C0:Type:=Int×(List UInt8)×Int×Int×HD×Unit
abbrev Fj:C0:=((0:Int),([]:List UInt8),(0:Int),(0:Int),Z48,())
abbrev T28:Ty:=.st (.cons (.int .i64) (.cons (.int .i64) (.cons (.int .i64) (.cons (.sl Fv) (.cons (.int .i64) (.cons Ij (.cons (.sl OU) (.cons (.sl LA) .nl))))))))
abbrev AS:Type:=Int×Int×Int×(List AK)×Int×Ge×(List BZ)×(List C0)×Unit
abbrev Z28:AS:=((0:Int),(0:Int),(0:Int),([]:List AK),(0:Int),Z24,([]:List BZ),([]:List C0),())
abbrev GX:Ty:=.st (.cons (.int .u8) (.cons (.int .i64) (.cons (.sl Eb) .nl)))
abbrev C5:Type:=Int×Int×(List A8)×Unit
abbrev BC:C5:=((0:Int),(0:Int),([]:List A8),())
abbrev GY:Ty:=.st (.cons (.int .u8) (.cons (.int .u8) (.cons (.int .i64) .nl)))
abbrev DB:Type:=Int×Int×Int×Unit
abbrev BT:DB:=((0:Int),(0:Int),(0:Int),())
abbrev GZ:Ty:=.st (.cons (.int .i64) (.cons (.int .i64) (.cons (.int .i64) (.cons (.sl GX) (.cons (.sl GY) .nl)))))
abbrev A7:Type:=Int×Int×Int×(List C5)×(List DB)×Unit
abbrev Im:Ty:=.st (.cons (.int .i64) (.cons (.int .i64) (.cons (.int .i64) (.cons (.sl (.sl AN)) (.cons (.int .i64) .nl)))))
abbrev Ec:Ty:=.st (.cons GZ (.cons (.arr 256 (.int .i64)) .nl))
abbrev AQ:Type:=A7×(List Int)×Unit
abbrev JG:Ty:=.st (.cons AN (.cons AN (.cons AN (.cons AN (.cons AN .nl)))))
abbrev CV:Type:=A0×A0×A0×A0×A0×Unit
abbrev BX:CV:=(A1,A1,A1,A1,A1,())
abbrev T266:Ty:=.st (.cons (.int .u16) (.cons (.int .u16) (.cons (.int .u16) .nl)))
abbrev T269:Ty:=.st (.cons (.int .u32) (.cons (.int .u32) (.cons (.int .u32) .nl)))
abbrev T263:Ty:=.st (.cons (.sl T266) (.cons (.sl T269) (.cons (.int .i64) .nl)))
abbrev Q1{a b c d e f:Type}(y':a×b×c×d×e×f):f:=y'.2.2.2.2.2
abbrev Q3{a b c d e f g:Type}(y':a×b×c×d×e×f×g):g:=y'.2.2.2.2.2.2
abbrev Q0{a b c d e f g h:Type}(y':a×b×c×d×e×f×g×h):h:=y'.2.2.2.2.2.2.2
abbrev Q5{a b c d e f g h i:Type}(y':a×b×c×d×e×f×g×h×i):i:=y'.2.2.2.2.2.2.2.2
abbrev Q4{a b c d e f g h i j:Type}(y':a×b×c×d×e×f×g×h×i×j):j:=y'.2.2.2.2.2.2.2.2.2
abbrev Q2{a b c d e f g h i j k:Type}(y':a×b×c×d×e×f×g×h×i×j×k):k:=y'.2.2.2.2.2.2.2.2.2.2
abbrev Q7{a b c d e f g h i j k l:Type}(y':a×b×c×d×e×f×g×h×i×j×k×l):l:=y'.2.2.2.2.2.2.2.2.2.2.2
abbrev Q6{a b c d e f g h i j k l m:Type}(y':a×b×c×d×e×f×g×h×i×j×k×l×m):m:=y'.2.2.2.2.2.2.2.2.2.2.2.2
abbrev Q9{a b c d e f g h i j k l m n:Type}(y':a×b×c×d×e×f×g×h×i×j×k×l×m×n):n:=y'.2.2.2.2.2.2.2.2.2.2.2.2.2
abbrev Qc{a b c d e f g h i j k l m n o:Type}(y':a×b×c×d×e×f×g×h×i×j×k×l×m×n×o):o:=y'.2.2.2.2.2.2.2.2.2.2.2.2.2.2
abbrev Qa{a b c d e f g h i j k l m n o p:Type}(y':a×b×c×d×e×f×g×h×i×j×k×l×m×n×o×p):p:=y'.2.2.2.2.2.2.2.2.2.2.2.2.2.2.2
abbrev Qe{a b c d e f g h i j k l m n o p q:Type}(y':a×b×c×d×e×f×g×h×i×j×k×l×m×n×o×p×q):q:=y'.2.2.2.2.2.2.2.2.2.2.2.2.2.2.2.2
abbrev Qd{a b c d e f g h i j k l m n o p q r:Type}(y':a×b×c×d×e×f×g×h×i×j×k×l×m×n×o×p×q×r):r:=y'.2.2.2.2.2.2.2.2.2.2.2.2.2.2.2.2.2
abbrev Q8{a b c d e f g h i j k l m n o p q r s:Type}(y':a×b×c×d×e×f×g×h×i×j×k×l×m×n×o×p×q×r×s):s:=y'.2.2.2.2.2.2.2.2.2.2.2.2.2.2.2.2.2.2
abbrev Qi{a b c d e f g h i j k l m n o p q r s t:Type}(y':a×b×c×d×e×f×g×h×i×j×k×l×m×n×o×p×q×r×s×t):t:=y'.2.2.2.2.2.2.2.2.2.2.2.2.2.2.2.2.2.2.2
abbrev Qb{a b c d e f g h i j k l m n o p q r s t u:Type}(y':a×b×c×d×e×f×g×h×i×j×k×l×m×n×o×p×q×r×s×t×u):u:=y'.2.2.2.2.2.2.2.2.2.2.2.2.2.2.2.2.2.2.2.2
abbrev Qf{a b c d e f g h i j k l m n o p q r s t u v:Type}(y':a×b×c×d×e×f×g×h×i×j×k×l×m×n×o×p×q×r×s×t×u×v):v:=y'.2.2.2.2.2.2.2.2.2.2.2.2.2.2.2.2.2.2.2.2.2
abbrev Qg{a b c d e f g h i j k l m n o p q r s t u v w:Type}(y':a×b×c×d×e×f×g×h×i×j×k×l×m×n×o×p×q×r×s×t×u×v×w):w:=y'.2.2.2.2.2.2.2.2.2.2.2.2.2.2.2.2.2.2.2.2.2.2
abbrev Qj{a b c d e f g h i j k l m n o p q r s t u v w x:Type}(y':a×b×c×d×e×f×g×h×i×j×k×l×m×n×o×p×q×r×s×t×u×v×w×x):x:=y'.2.2.2.2.2.2.2.2.2.2.2.2.2.2.2.2.2.2.2.2.2.2.2
abbrev Ql{a b c d e f g h i j k l m n o p q r s t u v w x y:Type}(y':a×b×c×d×e×f×g×h×i×j×k×l×m×n×o×p×q×r×s×t×u×v×w×x×y):y:=y'.2.2.2.2.2.2.2.2.2.2.2.2.2.2.2.2.2.2.2.2.2.2.2.2
abbrev Qm{a b c d e f g h i j k l m n o p q r s t u v w x y z:Type}(y':a×b×c×d×e×f×g×h×i×j×k×l×m×n×o×p×q×r×s×t×u×v×w×x×y×z):z:=y'.2.2.2.2.2.2.2.2.2.2.2.2.2.2.2.2.2.2.2.2.2.2.2.2.2
abbrev Qh{a b c d e f g h i j k l m n o p q r s t u v w x y z A:Type}(y':a×b×c×d×e×f×g×h×i×j×k×l×m×n×o×p×q×r×s×t×u×v×w×x×y×z×A):A:=y'.2.2.2.2.2.2.2.2.2.2.2.2.2.2.2.2.2.2.2.2.2.2.2.2.2.2
abbrev Qk{a b c d e f g h i j k l m n o p q r s t u v w x y z A B:Type}(y':a×b×c×d×e×f×g×h×i×j×k×l×m×n×o×p×q×r×s×t×u×v×w×x×y×z×A×B):B:=y'.2.2.2.2.2.2.2.2.2.2.2.2.2.2.2.2.2.2.2.2.2.2.2.2.2.2.2
abbrev Vz{a b c d e:Type}(y:a×b×c×List d×e):=(y,y.2.2.2.1,len y.2.2.2.1,())
abbrev Va(y:AK)(a b):=((y.1,y.2.1,y.2.2.1,y.2.2.2.1,y.2.2.2.2.1,(Q1 y).1,(Q3 y).1,(Q0 y).1,(Q5 y).1,(Q4 y).1,a,b):AK)
abbrev Vb(y:AK)(a b):=((y.1,y.2.1,y.2.2.1,y.2.2.2.1,y.2.2.2.2.1,(Q1 y).1,(Q3 y).1,(Q0 y).1,(Q5 y).1,(Q4 y).1,(Q2 y).1,a,b):AK)
abbrev Vc(y:AK)(a b):=((y.1,y.2.1,y.2.2.1,y.2.2.2.1,y.2.2.2.2.1,(Q1 y).1,(Q3 y).1,(Q0 y).1,(Q5 y).1,(Q4 y).1,(Q2 y).1,(Q7 y).1,a,b):AK)
abbrev Vd(y:AK)(a b):=((y.1,y.2.1,y.2.2.1,y.2.2.2.1,y.2.2.2.2.1,(Q1 y).1,(Q3 y).1,(Q0 y).1,(Q5 y).1,(Q4 y).1,(Q2 y).1,(Q7 y).1,(Q6 y).1,a,b):AK)
abbrev Ve(y:AK)(a b):=((y.1,y.2.1,y.2.2.1,y.2.2.2.1,y.2.2.2.2.1,(Q1 y).1,(Q3 y).1,(Q0 y).1,(Q5 y).1,(Q4 y).1,(Q2 y).1,(Q7 y).1,(Q6 y).1,(Q9 y).1,a,b):AK)
abbrev Vf(y:AK)(a b):=((y.1,y.2.1,y.2.2.1,y.2.2.2.1,y.2.2.2.2.1,(Q1 y).1,(Q3 y).1,(Q0 y).1,(Q5 y).1,(Q4 y).1,(Q2 y).1,(Q7 y).1,(Q6 y).1,(Q9 y).1,(Qc y).1,(Qa y).1,(Qe y).1,(Qd y).1,(Q8 y).1,(Qi y).1,(Qb y).1,(Qf y).1,(Qg y).1,(Qj y).1,(Ql y).1,(Qm y).1,a,b):AK)
abbrev Vg(y:AK)(a b):=((y.1,y.2.1,y.2.2.1,y.2.2.2.1,y.2.2.2.2.1,(Q1 y).1,(Q3 y).1,(Q0 y).1,(Q5 y).1,(Q4 y).1,(Q2 y).1,(Q7 y).1,(Q6 y).1,(Q9 y).1,(Qc y).1,(Qa y).1,(Qe y).1,(Qd y).1,(Q8 y).1,(Qi y).1,(Qb y).1,(Qf y).1,(Qg y).1,(Qj y).1,(Ql y).1,(Qm y).1,(Qh y).1,a,b):AK)
abbrev Aa:Ty:=.int .i64
abbrev Ad:Ty:=.sl AN
abbrev Ai:Sh:=.val (.sl Eb)
abbrev Aj:Sh:=.val (.sl Ad)
abbrev Ak:Sh:=.val (.sl Aa)
abbrev An:Sh:=.val (.sl Il)
abbrev Ao:Sh:=.val T28
abbrev Ag:Sh:=.box T28 Ao
abbrev Ap:Sh:=.val (.int .u64)
abbrev Aq:Sh:=.val AN
abbrev At:Sh:=.own Ad 0 false
abbrev Ax:Sh:=.own Ad 1012 false
abbrev Ay:Sh:=.val H9
abbrev Az:Sh:=.val (.ptr Ec)
abbrev Bb:Sh:=.val Fv
abbrev Bc:Sh:=.val Ad
abbrev Bd:Sh:=.val (.sl .str)
abbrev Bf:Sh:=.own Ad 400000 false
abbrev Ac:Sh:=.box Im (.agg (.cons Aa (.cons Aa (.cons Aa (.cons (.sl Ad) (.cons Aa .nl))))) (.cons vI (.cons vI (.cons vI (.cons Bf (.cons vI .nl))))))
abbrev Bg:Sh:=.own Aa 1005 false
abbrev Bi:Sh:=.own AN 400000 true
abbrev Bj:Sh:=.own Eb 0 false
abbrev Bk:Sh:=.own Aa 0 false
abbrev Bl:Ty:=.sl .bool
abbrev Ar:Sh:=.box Bl (.own .bool 400100 true)
abbrev As:Sh:=.box Bl (.own .bool 400200 true)
abbrev Bm:Sh:=.val GZ
abbrev Ah:Sh:=.box GZ Bm
abbrev Al:Sh:=.box Ec (.agg (.cons GZ (.cons (.arr 256 Aa) .nl)) (.cons Bm (.cons (.val (.arr 256 Aa)) .nl)))
abbrev Bo:Sh:=.box Im (.agg (.cons Aa (.cons Aa (.cons Aa (.cons (.sl Ad) (.cons Aa .nl))))) (.cons vI (.cons vI (.cons vI (.cons (.own Ad 403800 false) (.cons vI .nl))))))
abbrev Bp:Sh:=.box H9 Ay
abbrev Bq:Sh:=.own AN 1005 false
abbrev Br:Sh:=.own .bool 1003 true
abbrev Bt:Sh:=.box (.sl .str) (.own .str 400900 false)
abbrev Bu:Sh:=.own JG 1007 false
abbrev Bv:Sh:=.own .str 1010 false
abbrev Bw:Sh:=.own Eb 1004 false
abbrev Bx:Sh:=.own AN 0 false
abbrev By:Sh:=.own (GR Aa Aa) 400100 true
abbrev Bz:Sh:=.box AN Aq
abbrev Ca:Sh:=.val Ij
abbrev Cb:Sh:=.box Ad (.own AN 400200 false)
abbrev Cc:Sh:=.own AN 1006 false
abbrev Cd:Sh:=.val Wt
abbrev Ce:Sh:=.own AN 1016 false
abbrev Cf:Sh:=.own Eb 1005 false
abbrev Cg:Sh:=.own Eb 1008 false
abbrev Ch:Sh:=.own .str 1012 false
abbrev Ci:Sh:=.own Eb 1008 true
abbrev Cj:Sh:=.val Gf
abbrev Ck:Sh:=.own Aa 1014 false
abbrev Cl:Sh:=.own Aa 1015 false
abbrev Cm:Sh:=.box Aa vI
abbrev Cn:Sh:=.ref 12 Ec
abbrev Co:Sh:=.own Fv 0 true
abbrev Cp:Sh:=.box (.ptr Ec) Az
abbrev Cq:Sh:=.box LA (.val LA)
abbrev Cr:Sh:=.own Ad 1007 false
abbrev Cs:Sh:=.own (GR Aa Aa) 1010 true
abbrev Ct:Sh:=.own Il 0 false
abbrev Cu:Ty:=.sl Fv
abbrev Au:Sh:=.val Cu
abbrev Cv:Ty:=.sl OU
abbrev Bn:Sh:=.val Cv
abbrev Cw:Ty:=.sl LA
abbrev Av:Sh:=.box T28 (.agg (.cons Aa (.cons Aa (.cons Aa (.cons Cu (.cons Aa (.cons Ij (.cons Cv (.cons Cw .nl)))))))) (.cons vI (.cons vI (.cons vI (.cons (.own Fv 400300 true) (.cons vI (.cons Ca (.cons (.own OU 400302 false) (.cons (.own LA 400303 true) .nl)))))))))
abbrev Be:Sh:=.val Cw
abbrev Ab:Sh:=.box T28 (.agg (.cons Aa (.cons Aa (.cons Aa (.cons Cu (.cons Aa (.cons Ij (.cons Cv (.cons Cw .nl)))))))) (.cons vI (.cons vI (.cons vI (.cons Au (.cons vI (.cons (.agg (.cons Aa (.cons Aa (.cons (.sl Aa) .nl))) (.cons vI (.cons vI (.cons Ak .nl)))) (.cons Bn (.cons Be .nl)))))))))
abbrev Aw:Sh:=.box T28 (.agg (.cons Aa (.cons Aa (.cons Aa (.cons Cu (.cons Aa (.cons Ij (.cons Cv (.cons Cw .nl)))))))) (.cons vI (.cons vI (.cons vI (.cons (.own Fv 400300 true) (.cons vI (.cons Ca (.cons Bn (.cons Be .nl)))))))))
abbrev Da:Sh:=.val S9
abbrev Db:Sh:=.own Gf 0 false
abbrev Dc:Sh:=.own OU 0 false
abbrev Dd:Sh:=.val Eb
abbrev Bh:Sh:=.box Eb Dd
abbrev De:Sh:=.val (.ptr Fv)
abbrev Df:Sh:=.own LA 0 true
abbrev Dg:Sh:=.box Wt Cd
abbrev Dh:Sh:=.own .bool 1005 false
abbrev Di:Ty:=.sl GX
abbrev Dj:Sh:=.own .bool 1005 true
abbrev Dk:Sh:=.own .str 1005 false
abbrev Dl:Sh:=.own .str 1013 false
abbrev Dm:Sh:=.own AN 1005 true
abbrev Dn:Sh:=.val .str
abbrev Do:Sh:=.val JG
abbrev Dp:Sh:=.own Ad 1020 false
abbrev Dq:Sh:=.own .str 0 false
abbrev Dr:Ty:=.int .u8
abbrev Ba:Sh:=.val Dr
abbrev Bs:Sh:=.box GX (.agg (.cons Dr (.cons Aa (.cons (.sl Eb) .nl))) (.cons Ba (.cons vI (.cons (.own Eb 400400 false) .nl))))
abbrev Ds:Ty:=.sl GY
abbrev Ae:Sh:=.box GZ (.agg (.cons Aa (.cons Aa (.cons Aa (.cons Di (.cons Ds .nl))))) (.cons vI (.cons vI (.cons vI (.cons (.own GX 400000 false) (.cons (.own GY 400001 false) .nl))))))
abbrev Af:Sh:=.box GZ (.agg (.cons Aa (.cons Aa (.cons Aa (.cons Di (.cons Ds .nl))))) (.cons vI (.cons vI (.cons vI (.cons (.own GX 400100 false) (.cons (.own GY 400101 false) .nl))))))
abbrev Dt:Sh:=.box Ad (.own AN 400100 false)
abbrev Du:Sh:=.own AN 0 true
abbrev Dv:Ty:=.arr 65 Aa
abbrev Dw:Sh:=.own LA 3 true
abbrev Dx:Sh:=.val Aa
abbrev Dy:Sh:=.val (.sl Gf)
abbrev Dz:Sh:=.val Bl
abbrev Ea:Sh:=.val (.ptr Aa)
def G0:List Int:=[0,0,0,0,0,0,0,0,0,1,1,1,1,1,0,0,0,0,0,0,0,0,0,0,0,0,0,0,0,0,0,0,1,0,0,0,0,0,0,0,0,0,0,0,0,0,0,0,0,0,0,0,0,0,0,0,0,0,0,0,0,0,0,0,0,0,0,0,0,0,0,0,0,0,0,0,0,0,0,0,0,0,0,0,0,0,0,0,0,0,0,0,0,0,0,0,0,0,0,0,0,0,0,0,0,0,0,0,0,0,0,0,0,0,0,0,0,0,0,0,0,0,0,0,0,0,0,0,0,0,0,0,0,0,0,0,0,0,0,0,0,0,0,0,0,0,0,0,0,0,0,0,0,0,0,0,0,0,0,0,0,0,0,0,0,0,0,0,0,0,0,0,0,0,0,0,0,0,0,0,0,0,0,0,0,0,0,0,0,0,0,0,0,0,0,0,0,0,0,0,0,0,0,0,0,0,0,0,0,0,0,0,0,0,0,0,0,0,0,0,0,0,0,0,0,0,0,0,0,0,0,0,0,0,0,0,0,0,0,0,0,0,0,0,0,0,0,0,0,0,0,0,0,0,0,0]
def G5:List Int:=[0,1608,3216,4821,6424,8022,9616,11204,12785,14359,15924,17479,19024,20557,22078,23586,25080,26558,28020,29466,30893,32303,33692,35062,36410,37736,39040,40320,41576,42806,44011,45190,46341,47464,48559,49624,50660,51665,52639,53581,54491,55368,56212,57022,57798,58538,59244,59914,60547,61145,61705,62228,62714,63162,63572,63944,64277,64571,64827,65043,65220,65358,65457,65516,65536]
instance:GlobTab:=⟨⟨[(0,⟨(.arr 256 Dr),G0⟩),(5,⟨Dv,G5⟩)]⟩⟩
set_option maxRecDepth 20000 in
def Wu:List UInt8:=[48,48,48,48,48,48,48,48,48,48,32,48,48,48,48,53,102,48,48,48,48,32,48,48,48,55,48,48,48,55,48,48,32,49,52,55,102,49,52,55,102,49,52,32,50,52,50,97,55,102,50,97,49,50,32,50,51,49,51,48,56,54,52,54,50,32,51,54,52,57,53,54,50,48,53,48,32,48,48,48,53,48,51,48,48,48,48,32,48,48,49,99,50,50,52,49,48,48,32,48,48,52,49,50,50,49,99,48,48,32,49,52,48,56,51,101,48,56,49,52,32,48,56,48,56,51,101,48,56,48,56,32,48,48,53,48,51,48,48,48,48,48,32,48,56,48,56,48,56,48,56,48,56,32,48,48,54,48,54,48,48,48,48,48,32,50,48,49,48,48,56,48,52,48,50,32,51,101,53,49,52,57,52,53,51,101,32,48,48,52,50,55,102,52,48,48,48,32,52,50,54,49,53,49,52,57,52,54,32,50,49,52,49,52,53,52,98,51,49,32,49,56,49,52,49,50,55,102,49,48,32,50,55,52,53,52,53,52,53,51,57,32,51,99,52,97,52,57,52,57,51,48,32,48,49,55,49,48,57,48,53,48,51,32,51,54,52,57,52,57,52,57,51,54,32,48,54,52,57,52,57,50,57,49,101,32,48,48,51,54,51,54,48,48,48,48,32,48,48,53,54,51,54,48,48,48,48,32,48,56,49,52,50,50,52,49,48,48,32,49,52,49,52,49,52,49,52,49,52,32,48,48,52,49,50,50,49,52,48,56,32,48,50,48,49,53,49,48,57,48,54,32,51,50,52,57,55,57,52,49,51,101,32,55,101,49,49,49,49,49,49,55,101,32,55,102,52,57,52,57,52,57,51,54,32,51,101,52,49,52,49,52,49,50,50,32,55,102,52,49,52,49,50,50,49,99,32,55,102,52,57,52,57,52,57,52,49,32,55,102,48,57,48,57,48,57,48,49,32,51,101,52,49,52,57,52,57,55,97,32,55,102,48,56,48,56,48,56,55,102,32,48,48,52,49,55,102,52,49,48,48,32,50,48,52,48,52,49,51,102,48,49,32,55,102,48,56,49,52,50,50,52,49,32,55,102,52,48,52,48,52,48,52,48,32,55,102,48,50,48,99,48,50,55,102,32,55,102,48,52,48,56,49,48,55,102,32,51,101,52,49,52,49,52,49,51,101,32,55,102,48,57,48,57,48,57,48,54,32,51,101,52,49,53,49,50,49,53,101,32,55,102,48,57,49,57,50,57,52,54,32,52,54,52,57,52,57,52,57,51,49,32,48,49,48,49,55,102,48,49,48,49,32,51,102,52,48,52,48,52,48,51,102,32,49,102,50,48,52,48,50,48,49,102,32,51,102,52,48,51,56,52,48,51,102,32,54,51,49,52,48,56,49,52,54,51,32,48,55,48,56,55,48,48,56,48,55,32,54,49,53,49,52,57,52,53,52,51,32,48,48,55,102,52,49,52,49,48,48,32,48,50,48,52,48,56,49,48,50,48,32,48,48,52,49,52,49,55,102,48,48,32,48,52,48,50,48,49,48,50,48,52,32,52,48,52,48,52,48,52,48,52,48,32,48,48,48,49,48,50,48,52,48,48,32,50,48,53,52,53,52,53,52,55,56,32,55,102,52,56,52,52,52,52,51,56,32,51,56,52,52,52,52,52,52,50,48,32,51,56,52,52,52,52,52,56,55,102,32,51,56,53,52,53,52,53,52,49,56,32,48,56,55,101,48,57,48,49,48,50,32,48,99,53,50,53,50,53,50,51,101,32,55,102,48,56,48,52,48,52,55,56,32,48,48,52,52,55,100,52,48,48,48,32,50,48,52,48,52,52,51,100,48,48,32,55,102,49,48,50,56,52,52,48,48,32,48,48,52,49,55,102,52,48,48,48,32,55,99,48,52,49,56,48,52,55,56,32,55,99,48,56,48,52,48,52,55,56,32,51,56,52,52,52,52,52,52,51,56,32,55,99,49,52,49,52,49,52,48,56,32,48,56,49,52,49,52,49,56,55,99,32,55,99,48,56,48,52,48,52,48,56,32,52,56,53,52,53,52,53,52,50,48,32,48,52,51,102,52,52,52,48,50,48,32,51,99,52,48,52,48,50,48,55,99,32,49,99,50,48,52,48,50,48,49,99,32,51,99,52,48,51,48,52,48,51,99,32,52,52,50,56,49,48,50,56,52,52,32,48,99,53,48,53,48,53,48,51,99,32,52,52,54,52,53,52,52,99,52,52,32,48,48,48,56,51,54,52,49,48,48,32,48,48,48,48,55,102,48,48,48,48,32,48,48,52,49,51,54,48,56,48,48,32,49,48,48,56,48,56,49,48,48,56]
set_option maxRecDepth 20000 in
def wC9:List UInt8:=[48,48,48,48,48,48,48,48,48,48,48,48,48,48,53,102,48,48,48,48,48,48,48,55,48,48,48,55,48,48,49,52,55,102,49,52,55,102,49,52,50,52,50,97,55,102,50,97,49,50,50,51,49,51,48,56,54,52,54,50,51,54,52,57,53,54,50,48,53,48,48,48,48,53,48,51,48,48,48,48,48,48,49,99,50,50,52,49,48,48,48,48,52,49,50,50,49,99,48,48,49,52,48,56,51,101,48,56,49,52,48,56,48,56,51,101,48,56,48,56,48,48,53,48,51,48,48,48,48,48,48,56,48,56,48,56,48,56,48,56,48,48,54,48,54,48,48,48,48,48,50,48,49,48,48,56,48,52,48,50,51,101,53,49,52,57,52,53,51,101,48,48,52,50,55,102,52,48,48,48,52,50,54,49,53,49,52,57,52,54,50,49,52,49,52,53,52,98,51,49,49,56,49,52,49,50,55,102,49,48,50,55,52,53,52,53,52,53,51,57,51,99,52,97,52,57,52,57,51,48,48,49,55,49,48,57,48,53,48,51,51,54,52,57,52,57,52,57,51,54,48,54,52,57,52,57,50,57,49,101,48,48,51,54,51,54,48,48,48,48,48,48,53,54,51,54,48,48,48,48,48,56,49,52,50,50,52,49,48,48,49,52,49,52,49,52,49,52,49,52,48,48,52,49,50,50,49,52,48,56,48,50,48,49,53,49,48,57,48,54,51,50,52,57,55,57,52,49,51,101,55,101,49,49,49,49,49,49,55,101,55,102,52,57,52,57,52,57,51,54,51,101,52,49,52,49,52,49,50,50,55,102,52,49,52,49,50,50,49,99,55,102,52,57,52,57,52,57,52,49,55,102,48,57,48,57,48,57,48,49,51,101,52,49,52,57,52,57,55,97,55,102,48,56,48,56,48,56,55,102,48,48,52,49,55,102,52,49,48,48,50,48,52,48,52,49,51,102,48,49,55,102,48,56,49,52,50,50,52,49,55,102,52,48,52,48,52,48,52,48,55,102,48,50,48,99,48,50,55,102,55,102,48,52,48,56,49,48,55,102,51,101,52,49,52,49,52,49,51,101,55,102,48,57,48,57,48,57,48,54,51,101,52,49,53,49,50,49,53,101,55,102,48,57,49,57,50,57,52,54,52,54,52,57,52,57,52,57,51,49,48,49,48,49,55,102,48,49,48,49,51,102,52,48,52,48,52,48,51,102,49,102,50,48,52,48,50,48,49,102,51,102,52,48,51,56,52,48,51,102,54,51,49,52,48,56,49,52,54,51,48,55,48,56,55,48,48,56,48,55,54,49,53,49,52,57,52,53,52,51,48,48,55,102,52,49,52,49,48,48,48,50,48,52,48,56,49,48,50,48,48,48,52,49,52,49,55,102,48,48,48,52,48,50,48,49,48,50,48,52,52,48,52,48,52,48,52,48,52,48,48,48,48,49,48,50,48,52,48,48,50,48,53,52,53,52,53,52,55,56,55,102,52,56,52,52,52,52,51,56,51,56,52,52,52,52,52,52,50,48,51,56,52,52,52,52,52,56,55,102,51,56,53,52,53,52,53,52,49,56,48,56,55,101,48,57,48,49,48,50,48,99,53,50,53,50,53,50,51,101,55,102,48,56,48,52,48,52,55,56,48,48,52,52,55,100,52,48,48,48,50,48,52,48,52,52,51,100,48,48,55,102,49,48,50,56,52,52,48,48,48,48,52,49,55,102,52,48,48,48,55,99,48,52,49,56,48,52,55,56,55,99,48,56,48,52,48,52,55,56,51,56,52,52,52,52,52,52,51,56,55,99,49,52,49,52,49,52,48,56,48,56,49,52,49,52,49,56,55,99,55,99,48,56,48,52,48,52,48,56,52,56,53,52,53,52,53,52,50,48,48,52,51,102,52,52,52,48,50,48,51,99,52,48,52,48,50,48,55,99,49,99,50,48,52,48,50,48,49,99,51,99,52,48,51,48,52,48,51,99,52,52,50,56,49,48,50,56,52,52,48,99,53,48,53,48,53,48,51,99,52,52,54,52,53,52,52,99,52,52,48,48,48,56,51,54,52,49,48,48,48,48,48,48,55,102,48,48,48,48,48,48,52,49,51,54,48,56,48,48,49,48,48,56,48,56,49,48,48,56]
theorem mC:OG Tryz.prog 276 fE:=xV2 Tryz.func276 (by kernel_rfl) (by kernel_rfl) (by kernel_rfl) (by kernel_rfl)
theorem mC0:OG Tryz.prog 284 fB:=wB5 Tryz.func284 (by kernel_rfl) (by kernel_rfl) (by kernel_rfl) (by kernel_rfl)
def tys:List (Nat×Ty):=[(3,Aa),(4,.bool),(5,Dr),(9,.str),(21,(.int .i32)),(22,Cu),(23,(.sl Aa)),(25,Ij),(26,Cv),(27,Cw),(29,T28),(30,Aa),(46,H9),(47,(.sl Gf)),(49,Wt),(51,Gf),(52,(.sl Il)),(53,(.sl Eb)),(54,Ad),(56,S9),(58,Fv),(72,LA),(77,Bl),(80,OU),(128,Il),(131,AN),(132,(.arr 3 AN)),(134,Eb),(141,(.sl Ad)),(149,Di),(150,Ds),(152,GZ),(156,Ad),(159,AN),(160,(.sl .str)),(161,(.int .u64)),(174,(.ptr Im)),(176,Im),(179,(.ptr Ec)),(182,Ad),(186,AN),(188,GX),(193,GY),(204,(.sl JG)),(207,JG),(212,(.arr 256 Aa)),(214,Ec),(220,(.arr 256 Dr)),(246,Ad),(248,AN),(249,(.int .u32)),(251,(.ptr T263)),(279,Dv)]
theorem OV:Ev Tryz.prog tys=true:=by kernel_rfl
def maps:List (Nat×(Ty×Ty)):=[(66,(Aa,.bool)),(67,(Aa,Aa))]
def fts:List Nat:=[78]
theorem mixed:Tryz.prog.follows .mixedOrders=true:=by kernel_rfl
theorem cq {c:Ctx}(hs:Nn Tryz.prog c.fns)(ia:(IY Tryz.prog c.maps&&IX Tryz.prog c.fts)=true:=by kernel_rfl)(he:c.exts=[]:=by rfl)(ht:Ev Tryz.prog c.tys=true:=by exact OV)(hn:Nat.ble c.n BL=true:=by kernel_rfl)(ko:c.clones=[]:=by rfl):CtxOk Tryz.prog c:=eZ ht ia hs he hn ko
theorem fq {c:Ctx}{f:Nat}{fn:Func}{ps:List (Nat×Sh)}{rs:Sh}{os:List (Nat×Sh)}{ok:AF ps->Prop}{F:AF ps->rs.den}{o:AF ps->DX os}(hf:Tryz.prog.funcs[f]?=some fn)(hs:Nn Tryz.prog c.fns)(ia:(IY Tryz.prog c.maps&&IX Tryz.prog c.fts)=true:=by kernel_rfl)(he:c.exts=[]:=by rfl)(ht:Ev Tryz.prog c.tys=true:=by exact OV)(hn:Nat.ble c.n BL=true:=by kernel_rfl)(ko:c.clones=[]:=by rfl)(hk:OR fn c ps os=true:=by kernel_rfl)(iQ:zG (fn.body.getD .skip)=[]:=by kernel_rfl)(kA:∀x,Ii c (fn.body.getD .skip) fn.results.toList ps rs os x=some (ok x,F x,o x):=by intro x;kernel_rfl):SpecOk Tryz.prog f (fnSpec ps rs os ok F o):=Wn (eZ ht ia hs he hn ko) mixed hf hk iQ trivial kA
theorem fl {c:Ctx}{f:Nat}{fn:Func}{ps:List (Nat×Sh)}{rs:Sh}{os:List (Nat×Sh)}{ok:AF ps->Prop}{F:AF ps->rs.den}{o:AF ps->DX os}(hc:CtxOk Tryz.prog c)(hf:Tryz.prog.funcs[f]?=some fn){bs:List Code}(hL:GH Tryz.prog c bs)(hk:OR fn c ps os=true:=by kernel_rfl)(iQ:zG (fn.body.getD .skip)=bs:=by kernel_rfl)(kA:∀x,Ii c (fn.body.getD .skip) fn.results.toList ps rs os x=some (ok x,F x,o x):=by intro x;kernel_rfl):SpecOk Tryz.prog f (fnSpec ps rs os ok F o):=Wn hc mixed hf hk iQ hL kA
theorem lq {c:Ctx}{body:Code}{sp:St->Option Out}{ly lx:List (Nat×Sh)}{g:AF ly->AF lx->Bool}{next:AF ly->AF lx->AF lx}{ok:AF ly->AF lx->Prop}{es:AF ly->AF lx->List Comp}(hc:CtxOk Tryz.prog c)(hs:sp=Ih ly lx g next ok es)(les:List (List (Nat×Sh)))(hb:zG body=[]:=by kernel_rfl)(hw:EL c.keep body=true:=by kernel_rfl)(hl:Go.Am.look (λ_=>none) c.loops (HU body)=sp:=by kernel_rfl)(kA:∀y x,Nl c body ly lx les y x=some (ok y x,g y x,y,next y x,es y x):=by intro y x;kernel_rfl):JD Tryz.prog c body:=fA hc mixed hs les hb trivial hw hl kA
theorem lm {c:Ctx}{body:Code}{sp:St->Option Out}{ly lx:List (Nat×Sh)}{g:AF ly->AF lx->Bool}{next:AF ly->AF lx->AF lx}{ok:AF ly->AF lx->Prop}{es:AF ly->AF lx->List Comp}(hc:CtxOk Tryz.prog c)(hs:sp=Ih ly lx g next ok es)(les:List (List (Nat×Sh))){bs:List Code}(hL:GH Tryz.prog c bs)(hb:zG body=bs:=by kernel_rfl)(hw:EL c.keep body=true:=by kernel_rfl)(hl:Go.Am.look (λ_=>none) c.loops (HU body)=sp:=by kernel_rfl)(kA:∀y x,Nl c body ly lx les y x=some (ok y x,g y x,y,next y x,es y x):=by intro y x;kernel_rfl):JD Tryz.prog c body:=fA hc mixed hs les hb hL hw hl kA
@[reducible] def kb {n:Nat}{s:Am.Spec}(h:SpecOk Tryz.prog n s):Fb Tryz.prog:=⟨n,s,h⟩
@[reducible] def li:=Li.mk
theorem fx (X:Ctx->Ctx){f:Nat}{fn:Func}(hf:Tryz.prog.funcs[f]?=some fn)(n:Nat)(cs:List (Fb Tryz.prog):=[])(ls:List (Nat×Li):=[])(gh:List (Nat×List (Nat×Nat×Nat×Nat)):=[])(w:Bool:=false)(kp wr:List Nat:=[]){ps:List (Nat×Sh)}{rs:Sh}{os:List (Nat×Sh)}{ok:AF ps->Prop}{F:AF ps->rs.den}{o:AF ps->DX os}(hX:(X (Cx tys (Fb.l cs) (Li.l ls) gh w n kp wr)).fns=Fb.l cs:=by rfl)(hk:OR fn (X (Cx tys (Fb.l cs) (Li.l ls) gh w n kp wr)) ps os=true:=by kernel_rfl)(hl:S7 (X (Cx tys (Fb.l cs) (Li.l ls) gh w n kp wr)) (KS (fn.body.getD .skip)) ls=S8 ls:=by kernel_rfl)(kA:∀x,Ii (X (Cx tys (Fb.l cs) (Li.l ls) gh w n kp wr)) (fn.body.getD .skip) fn.results.toList ps rs os x=some (ok x,F x,o x):=by intro x;kernel_rfl)(ia:(IY Tryz.prog (X (Cx tys (Fb.l cs) (Li.l ls) gh w n kp wr)).maps&&IX Tryz.prog (X (Cx tys (Fb.l cs) (Li.l ls) gh w n kp wr)).fts)=true:=by kernel_rfl)(he:(X (Cx tys (Fb.l cs) (Li.l ls) gh w n kp wr)).exts=[]:=by rfl)(ht:Ev Tryz.prog (X (Cx tys (Fb.l cs) (Li.l ls) gh w n kp wr)).tys=true:=by exact OV)(hn:Nat.ble (X (Cx tys (Fb.l cs) (Li.l ls) gh w n kp wr)).n BL=true:=by kernel_rfl)(ko:(X (Cx tys (Fb.l cs) (Li.l ls) gh w n kp wr)).clones=[]:=by rfl):SpecOk Tryz.prog f (fnSpec ps rs os ok F o):=wD4 (eZ ht ia (by rw[hX];exact Fb.all cs) he hn ko) mixed hf hk hl kA
theorem fb {f:Nat}{fn:Func}(hf:Tryz.prog.funcs[f]?=some fn)(n:Nat)(cs:List (Fb Tryz.prog):=[])(ls:List (Nat×Li):=[])(gh:List (Nat×List (Nat×Nat×Nat×Nat)):=[])(w:Bool:=false)(kp wr:List Nat:=[]){ps:List (Nat×Sh)}{rs:Sh}{os:List (Nat×Sh)}{ok:AF ps->Prop}{F:AF ps->rs.den}{o:AF ps->DX os}(hk:OR fn (Cx tys (Fb.l cs) (Li.l ls) gh w n kp wr) ps os=true:=by kernel_rfl)(hl:S7 (Cx tys (Fb.l cs) (Li.l ls) gh w n kp wr) (KS (fn.body.getD .skip)) ls=S8 ls:=by kernel_rfl)(kA:∀x,Ii (Cx tys (Fb.l cs) (Li.l ls) gh w n kp wr) (fn.body.getD .skip) fn.results.toList ps rs os x=some (ok x,F x,o x):=by intro x;kernel_rfl)(ia:(IY Tryz.prog (Cx tys (Fb.l cs) (Li.l ls) gh w n kp wr).maps&&IX Tryz.prog (Cx tys (Fb.l cs) (Li.l ls) gh w n kp wr).fts)=true:=by kernel_rfl)(he:(Cx tys (Fb.l cs) (Li.l ls) gh w n kp wr).exts=[]:=by rfl)(ht:Ev Tryz.prog (Cx tys (Fb.l cs) (Li.l ls) gh w n kp wr).tys=true:=by exact OV)(hn:Nat.ble (Cx tys (Fb.l cs) (Li.l ls) gh w n kp wr).n BL=true:=by kernel_rfl)(ko:(Cx tys (Fb.l cs) (Li.l ls) gh w n kp wr).clones=[]:=by rfl):SpecOk Tryz.prog f (fnSpec ps rs os ok F o):=wD4 (eZ ht ia (Fb.all cs) he hn ko) mixed hf hk hl kA
abbrev SK (n:Nat)(s:Am.Spec):Prop:=SpecOk Tryz.prog n s
@[reducible] def Cy (f:List (Nat×Am.Spec)) (l:List (Nat×(St->Option Out))) (h:List (Nat×List (Nat×Nat×Nat×Nat))) (n:Nat):Ctx:=Cx tys f l h false n [] []
@[reducible] def Cz (f:List (Nat×Am.Spec)) (l:List (Nat×(St->Option Out))) (h:List (Nat×List (Nat×Nat×Nat×Nat))) (n:Nat):Ctx:=Cx tys f l h true n [] []
@[reducible] def AP (A R:Sh) (ok:A.den->Prop) (f:A.den->R.den):Am.Spec:=fnSpec [(0,A)] R [] (λx=>ok x.1) (λx=>f x.1) (λ_=>())
@[reducible] def BG (A B R:Sh) (ok:A.den->B.den->Prop) (f:A.den->B.den->R.den):Am.Spec:=fnSpec [(0,A),(1,B)] R [] (λx=>ok x.1 x.2.1) (λx=>f x.1 x.2.1) (λ_=>())
@[reducible] def DN (A B C R:Sh) (ok:A.den->B.den->C.den->Prop) (f:A.den->B.den->C.den->R.den):Am.Spec:=fnSpec [(0,A),(1,B),(2,C)] R [] (λx=>ok x.1 x.2.1 x.2.2.1) (λx=>f x.1 x.2.1 x.2.2.1) (λ_=>())
@[reducible] def Fw (A B C D R:Sh) (ok:A.den->B.den->C.den->D.den->Prop) (f:A.den->B.den->C.den->D.den->R.den):Am.Spec:=fnSpec [(0,A),(1,B),(2,C),(3,D)] R [] (λx=>ok x.1 x.2.1 x.2.2.1 x.2.2.2.1) (λx=>f x.1 x.2.1 x.2.2.1 x.2.2.2.1) (λ_=>())
@[reducible] def sp5 (A B C D E R:Sh) (ok:A.den->B.den->C.den->D.den->E.den->Prop) (f:A.den->B.den->C.den->D.den->E.den->R.den):Am.Spec:=fnSpec [(0,A),(1,B),(2,C),(3,D),(4,E)] R [] (λx=>ok x.1 x.2.1 x.2.2.1 x.2.2.2.1 x.2.2.2.2.1) (λx=>f x.1 x.2.1 x.2.2.1 x.2.2.2.1 x.2.2.2.2.1) (λ_=>())
@[reducible] def sp6 (A B C D E F R:Sh) (ok:A.den->B.den->C.den->D.den->E.den->F.den->Prop) (f:A.den->B.den->C.den->D.den->E.den->F.den->R.den):Am.Spec:=fnSpec [(0,A),(1,B),(2,C),(3,D),(4,E),(5,F)] R [] (λx=>ok x.1 x.2.1 x.2.2.1 x.2.2.2.1 x.2.2.2.2.1 (Q1 x).1) (λx=>f x.1 x.2.1 x.2.2.1 x.2.2.2.1 x.2.2.2.2.1 (Q1 x).1) (λ_=>())
def mC1 (a:List UInt8)(b:Int):Prop×Int:=
 (True,Lib.indexByte a (toNat b).toUInt8)
def fN a b:=(mC1 a b).1
def Wv a b:=(mC1 a b).2
instance (a b):Decidable (fN a b):=by unfold fN mC1;dsimp only;infer_instance
def oJ0:=BG vS Ba vI fN Wv
def nL5:Ctx:={ Cx tys [] [] [] false 8 [] [] with exts:=[(276,fE)] }
theorem nL6:CtxOk Tryz.prog nL5:=xZ7 OV rfl trivial ⟨mC,trivial⟩ (by kernel_rfl)
theorem mC2:SK 244 oJ0:=fl nL6 Tryz.func244 (bs:=[]) trivial
def JH (a b:List UInt8):Int:=Lib.indexByte a (b.headD 0)
def oJ1 (_p0 a:List UInt8):Prop:=length a=1
def mC3:List (Nat×Sh):=[(0,Dn),(1,Dn)]
def mC4:Sh:=Dx
def mC5:List (Nat×Sh):=[]
def oJ2:Am.Spec:=fnSpec mC3 mC4 mC5 (λx=>oJ1 x.1 x.2.1) (λx=>JH x.1 x.2.1) (λ_=>())
theorem mC6:SpecOk Tryz.prog 287 oJ2:=wA6 (F:=JH) ⟨_,Tryz.func287,by kernel_rfl,by decide⟩ (λs c w=>Tryz.strings_Index_one s c w)
def Ww (_p0:List UInt8)(_p1:Int):(List (List UInt8)):=([]:List (List UInt8))
def oJ3 (_p0:List UInt8)(_p1:Int):Prop:=False
def mC7:List (Nat×Sh):=[(0,vS),(1,vI)]
def mC8:Sh:=Bd
def mC9:List (Nat×Sh):=[]
def oJ4:Am.Spec:=fnSpec mC7 mC8 mC9 (λx=>oJ3 x.1 x.2.1) (λx=>Ww x.1 x.2.1) (λ_=>())
theorem mD:SpecOk Tryz.prog 288 oJ4:=xY3 Tryz.func288 (by kernel_rfl) (by decide)
def JI (a b:List UInt8):Int:=((Lib.countByte a (b.headD 0):Nat):Int)
def oJ5 (_p0 a:List UInt8):Prop:=length a=1
def mD0:List (Nat×Sh):=[(0,Dn),(1,Dn)]
def mD1:Sh:=Dx
def mD2:List (Nat×Sh):=[]
def oJ6:Am.Spec:=fnSpec mD0 mD1 mD2 (λx=>oJ5 x.1 x.2.1) (λx=>JI x.1 x.2.1) (λ_=>())
theorem mD3:SpecOk Tryz.prog 289 oJ6:=wA6 (F:=JI) ⟨_,Tryz.func289,by kernel_rfl,by decide⟩ (λs c w=>Tryz.strings_Count_one s c w)
abbrev SA:Type:=((List UInt8)×Int×Int×Unit)
abbrev Wx:Type:=((List UInt8)×(List (List UInt8))×Int×Unit)
def SB (y:SA)(x:Wx):Prop×Bool×Wx:=
 let i:=y.1
 let k:=y.2.1
 let e:=x.1
 let j:=x.2.1
 let a:=x.2.2.1
 let f:=decide (a<y.2.2.1)
 let b:=JH e i
 let g:=decide (b<0)
 let c:=b+k
 let h:=len i
 let d:=b+h
 (f=true->oJ1 e i/\((!g)=true->A5 (b+k)/\(0<=c/\c<=len e)/\A6 a (len j)/\a<len j/\A5 (b+h)/\(0<=d/\d<=len e)/\A5 (a+1)),f&&(!g),(drop (toNat d) e,set j (toNat a) (take (toNat c) e),a+1,()))
def tO3 y x:=(SB y x).1
def JJ y x:=(SB y x).2.1
def JK y x:=(SB y x).2.2
def tT5 (y:SA)(x:Wx):(List UInt8):=
 x.1
def tT6 (y:SA)(x:Wx):(List (List UInt8)):=
 x.2.1
def tT7 (y:SA)(x:Wx):Int:=
 x.2.2.1
def rA6:List (Nat×Sh):=[(0,vS),(9,(.own .str 1009 true)),(10,vI)]
def qX9:=li [(1,vS),(2,vI),(3,vI)] [(0,vS),(9,(.own .str 1009 true)),(10,vI)] JJ JK tO3 (λy x=>[ex 2 none rA6 ((tT5 y x),(tT6 y x),(tT7 y x),())]) [rA6]
def fO (n o:List UInt8)(p q:Int):Prop×(List (List UInt8)):=
 let i:=q==0
 let g:=o==([]:List UInt8)
 let j:=decide (q<0)
 let k:=JI n o
 let l:=len n
 let d:=G7 (cond j (k+1) q) (l+1)
 let c:=(o,p,d-1,())
 let m:=(n,List.replicate (toNat d) ([]:List UInt8),(0:Int),())
 let f:=A3 (JJ c) (JK c) m
 let b:=tT6 c f
 let a:=tT7 c f
 let e:=set b (toNat a) (tT5 c f)
 let h:=a+1
 ((!i)=true->(g=true->oJ3 n q)/\((!g)=true->(j=true->oJ5 n o/\A5 (k+1))/\A5 (l+1)/\(0<=d/\d<=d/\d<=4294967296)/\A5 (d-1)/\Am.Ends (JJ c) (JK c) (tO3 c) m/\A6 a (len b)/\a<len b/\A5 (a+1)/\0<=h/\h<=len e),cond i [] (cond g (Ww n q) (take (toNat h) e)))
def qY a b c d:=(fO a b c d).1
def OW a b c d:=(fO a b c d).2
theorem mD4:SK 274 (Fw vS vS vI vI Bd qY OW):=fb Tryz.func274 66 [kb mC6,kb mD,kb mD3] [(11,qX9)] [(17,[(4,0,31,1009)]),(36,[(1,9,0,0)])] false [] [31]
def fP (a b:List UInt8):Prop×(List (List UInt8)):=
 (qY a b (0:Int) (-1:Int),OW a b (0:Int) (-1:Int))
def Wy a b:=(fP a b).1
def Ha a b:=(fP a b).2
def oJ7:=BG vS vS Bd Wy Ha
theorem mD5:SK 239 (BG vS vS Bd Wy Ha):=fb Tryz.func239 8 [kb mD4]
def Wz (e f:Int):Prop×Int:=
 let d:=f==0
 let b:=cond (e==(-9223372036854775808)) (f==(-1)) false
 let c:=wrap .i64 (Int.tdiv e f)
 let a:=cond d (0:Int) (cond b (9223372036854775807:Int) (cond (cond (Int.tmod e f !=0) (!(Ty.eqb .bool (decide (e<0)) (decide (f<0)))) false) (wrap .i64 (c-1)) c))
 ((!d)=true->(!b)=true->f≠0/\f≠0,a)
def OX a b:=(Wz a b).1
def f157 a b:=(Wz a b).2
theorem oJ9:SK 157 (BG vI vI vI OX f157):=fb Tryz.func157 31 [] [] [] true
def fQ (f g:Int):Prop×Int:=
 let d:=g==0
 let c:=cond (f==(-9223372036854775808)) (g==(-1)) false
 let b:=f157 f g
 let a:=wrap .i64 (f-(wrap .i64 (g*b)))
 let e:=cond (cond (cond (decide (g>0)) (decide (a≥wrap .i64 (g-a))) false) true (cond (decide (g<0)) (decide (a<=wrap .i64 (g-a))) false)) (wrap .i64 (b+1)) b
 ((!d)=true->(!c)=true->OX f g,cond d (0:Int) (cond c (9223372036854775807:Int) e))
def Ed a b:=(fQ a b).1
def AM a b:=(fQ a b).2
theorem JL:SK 119 (BG vI vI vI Ed AM):=fb Tryz.func119 46 [kb oJ9] [] [] true
abbrev vV4:Type:=(Int×Int×(List DB)×Int×Unit)
abbrev AA:Type:=(Int×Unit)
def SC (y:vV4)(x:AA):Prop×Bool×AA×Bool×Bool:=
 let d:=y.2.2.1
 let a:=x.1
 let b:=decide (a<y.2.2.2.1)
 let e:=nth d a BT
 let c:=cond (e.1==y.1) (e.2.1==y.2.1) false
 (b=true->A6 a (len d)/\((!c)=true->A5 (a+1)),b&&(!c),(a+1,()),b&&c,!b)
def rR5 y x:=(SC y x).1
def fR y x:=(SC y x).2.1
def uW y x:=(SC y x).2.2.1
def rR6 y x:=(SC y x).2.2.2.1
def pW4 y x:=(SC y x).2.2.2.2
def sN8 (y:vV4)(x:AA):Int:=
 (nth y.2.2.1 x.1 BT).2.2.1
def pW5:=li [(7,Ba),(8,Ba),(33,(.val Ds)),(34,vI)] [(35,vI)] fR uW rR5 (λy x=>[ex 1 (some (rR6 y x)) [(6,vI)] ((sN8 y x),()),ex 2 (some (pW4 y x)) [] ()]) [[(6,vI)],[]]
def lD8 (d:AQ)(e f:Int):Prop×Int:=
 let a:=((nth d.1.2.2.2.1 e BC).1,(nth d.1.2.2.2.1 f BC).1,d.1.2.2.2.2.1,len d.1.2.2.2.2.1,())
 let c:=((0:Int),())
 let b:=A3 (fR a) (uW a) c
 (A6 e (len d.1.2.2.2.1)/\A6 f (len d.1.2.2.2.1)/\Am.Ends (fR a) (uW a) (rR5 a) c,cond (rR6 a b) (sN8 a b) (0:Int))
def fS a b c:=(lD8 a b c).1
def Hb a b c:=(lD8 a b c).2
theorem mD6:SK 241 (DN Az vI vI vI fS Hb):=fb Tryz.func241 52 [] [(3,pW5)]
abbrev uI2:Type:=(AQ×(List UInt8)×Int×Unit)
abbrev fT:Type:=((List A0)×Int×Int×Unit)
def qC2 (y:uI2)(x:fT):Prop×Bool×fT:=
 let f:=y.1
 let s:=y.2.1
 let e:=x.1
 let q:=x.2.1
 let b:=x.2.2.1
 let g:=decide (b<y.2.2.1)
 let h:=BN s b
 let a:=nth f.2.1 h (0:Int)
 let d:=decide (a<0)
 let i:=decide (len e>0)
 let j:=len e
 let k:=j-1
 let l:=nth e k A1
 let m:=Hb f l.1 a
 let r:=cond i (q+m) q
 let n:=([(a,r,())]:List A0)
 let o:=nth f.1.2.2.2.1 a BC
 let c:=d||(!d)
 (g=true->A6 b (len s)/\A6 h 256/\((!d)=true->(i=true->A5 (j-1)/\A6 k (len e)/\fS f l.1 a/\A5 (q+m))/\((length e+length n:Nat):Int)<=4294967296/\A6 a (len f.1.2.2.2.1)/\A5 (r+o.2.1))/\(c=true->A5 (b+1)),g&&c,(cond d e (e++n),cond d q (r+o.2.1),b+1,()))
def rR7 y x:=(qC2 y x).1
def SD y x:=(qC2 y x).2.1
def SE y x:=(qC2 y x).2.2
def uW0 (y:uI2)(x:fT):(List A0):=
 x.1
def uW1 (y:uI2)(x:fT):Int:=
 x.2.1
def rR8:List (Nat×Sh):=[(6,Cc),(7,vI)]
def pW6:=li [(0,Az),(1,vS),(11,vI)] [(6,Cc),(7,vI),(12,vI)] SD SE rR7 (λy x=>[ex 2 none rR8 ((uW0 y x),(uW1 y x),())]) [rR8]
def lD9 (d:AQ)(e:List UInt8):Prop×((List A0)×Int×Unit):=
 let a:=(d,e,len e,())
 let c:=(([]:List A0),(0:Int),(0:Int),())
 let b:=A3 (SD a) (SE a) c
 (Am.Ends (SD a) (SE a) (rR7 a) c,(uW0 a b,uW1 a b,()))
def W2 a b:=(lD9 a b).1
def C1 a b:=(lD9 a b).2
theorem oK:SK 206 (BG Az vS (.tup (.cons Bx (.cons vI .nl))) W2 C1):=fb Tryz.func206 60 [kb mD6] [(4,pW6)] [(21,[(4,0,45,1006)]),(27,[(4,0,1006,0)])]
def lE (c:AQ)(d:List UInt8)(e:Int):Prop×Int:=
 let a:=C1 c d
 let b:=e*a.2.1
 (W2 c d/\A5 (e*a.2.1)/\Ed b c.1.1,AM b c.1.1)
def OY a b c:=(lE a b c).1
def Gg a b c:=(lE a b c).2
def oK0:=DN Az vS vI vI OY Gg
theorem mD7:SK 240 (DN Az vS vI vI OY Gg):=fb Tryz.func240 24 [kb JL,kb oK] [] [(3,[(4,0,12,1007)])]
abbrev vT4:Type:=(AQ×Int×Int×(List (List UInt8))×Int×Unit)
abbrev Np:Type:=((List (List UInt8))×(List UInt8)×Int×Unit)
def rA9 (y:vT4)(x:Np):Prop×Bool×Np:=
 let l:=y.1
 let m:=y.2.1
 let n:=y.2.2.1
 let f:=y.2.2.2.1
 let k:=x.1
 let b:=x.2.1
 let a:=x.2.2.1
 let g:=decide (a<y.2.2.2.2.1)
 let c:=nth f a ([]:List UInt8)
 let h:=b++([32]:List UInt8)
 let d:=h++c
 let i:=n==0
 let e:=cond i true (decide (Gg l d m<=n))
 let j:=([b]:List (List UInt8))
 (g=true->A6 a (len f)/\((length b+length ([32]:List UInt8):Nat):Int)<=9223372036854775807/\((length h+length c:Nat):Int)<=9223372036854775807/\((!i)=true->OY l d m)/\(e=false->((length k+length j:Nat):Int)<=4294967296)/\A5 (a+1),g,(cond e k (k++j),cond e d c,a+1,()))
def rB y x:=(rA9 y x).1
def Nq y x:=(rA9 y x).2.1
def wM y x:=(rA9 y x).2.2
def fU (y:vT4)(x:Np):(List (List UInt8)):=
 x.1
def uM0 (y:vT4)(x:Np):(List UInt8):=
 x.2.1
def rB0:List (Nat×Sh):=[(4,Cp),(6,Cm),(7,Cm),(9,Bt),(12,vS)]
def tT9:St->Option Out:=Ih [(4,Cp),(6,Cm),(7,Cm),(25,Bd),(26,vI)] [(9,Bt),(12,vS),(27,vI)] Nq wM rB λy x=>[ex 4 none rB0 (y.1,y.2.1,y.2.2.1,(fU y x),(uM0 y x),())]
def oK1 (h:AQ)(i j:Int)(k:(List (List UInt8)))(l:List UInt8):Prop×(Unit)×(AQ×Int×Int×(List (List UInt8))×Unit):=
 let b:=Ha l ([32]:List UInt8)
 let d:=drop (toNat (1:Int)) b
 let c:=(h,i,j,d,len d,())
 let g:=(k,nth b (0:Int) ([]:List UInt8),(0:Int),())
 let f:=A3 (Nq c) (wM c) g
 let a:=fU c f
 let e:=([uM0 c f]:List (List UInt8))
 (Wy l ([32]:List UInt8)/\A6 (0:Int) (len b)/\(0<=(1:Int)/\(1:Int)<=len b)/\Am.Ends (Nq c) (wM c) (rB c) g/\((length a+length e:Nat):Int)<=4294967296,(),(h,i,j,a++e,()))
def SF a b c d e:=(oK1 a b c d e).1
def LB a b c d e:=(oK1 a b c d e).2.2
def SG:List (Nat×Sh):=[(4,Cp),(6,Cm),(7,Cm),(9,Bt),(10,vS)]
def pM:Sh:=(.tup .nl)
def OZ:List (Nat×Sh):=[(4,Cp),(6,Cm),(7,Cm),(9,Bt)]
def W3:Ctx:=Cx tys [(239,oJ7),(240,oK0)] [(7,tT9)] [(25,[(4,0,49,400900)]),(31,[(4,0,55,400900)])] false 57 [4,6,7,9] []
theorem qP7:CtxOk Tryz.prog W3:=cq ⟨mD5,mD7,trivial⟩
noncomputable def LC:Code:=(fG (Tryz.f205.body.getD .skip)).getD .skip
noncomputable def pM0:Code:=S6 LC 0
theorem qY0:JD Tryz.prog W3 pM0:=fA qP7 mixed (sp:=tT9) rfl [rB0] (bs:=[]) (by kernel_rfl) trivial (by kernel_rfl) (by kernel_rfl) λy x=>by kernel_rfl
theorem nM:∀x,xV3 W3 LC (DY SG x)=true:=λx=>by kernel_rfl
theorem oK2:∀x,Ii W3 LC [] SG pM OZ x=some (SF x.1 x.2.1 x.2.2.1 x.2.2.2.1 x.2.2.2.2.1,(),LB x.1 x.2.1 x.2.2.1 x.2.2.2.1 x.2.2.2.2.1):=λx=>by kernel_rfl
theorem nM0:xX5 Tryz.prog W3 LC SG OZ (λx=>SF x.1 x.2.1 x.2.2.1 x.2.2.2.1 x.2.2.2.2.1) (λx=>LB x.1 x.2.1 x.2.2.1 x.2.2.2.1 x.2.2.2.2.1):=wA8 (rs:=pM) (F:=λ_=>()) qP7 mixed (bs:=[pM0]) (by kernel_rfl) ⟨qY0,trivial⟩ (by kernel_rfl) nM oK2
end Go.Proofs.YtgjdonlgingdeaaGreatDoor.Am
