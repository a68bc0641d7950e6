/- Printed by program, part 2. No condition. -/
import Derived.Test.YtadggmnllfgjcaaGreatDoorDckL
set_option linter.unusedVariables false
set_option synthInstance.maxSize 4000
set_option synthInstance.maxHeartbeats 400000
namespace Go.Proofs.YtadggmnllfgjcaaGreatDoor.Am
open Go Go.Am Go.Proofs
open Go.IntKind (wrap)
open _root_.Int (sub tdiv tmod toNat)
open _root_.List (length replicate set)
def Qp :Prop×Int:=
 (True,4)
def qE2 :Prop:=(Qp).1
def f70 :Int:=(Qp).2
def mE5:Am.Spec:=fnSpec [] vI [] (λx=>qE2 ) (λx=>f70 ) (λ_=>())
theorem kC4:SK 70 (fnSpec [] vI [] (λx=>qE2 ) (λx=>f70 ) (λ_=>())):=fb Tryz.func70 1
def Mx (c:AS):Prop×Int:=
 let a:=cond (cond (cond (c.1<1) true (c.1>256)) true (c.2.1<1)) true (c.2.1>256)
 let b:Bool:=c.2.2.1<0
 (!a->!b->qE2,cond a (15:Int) (cond (cond b true (c.2.2.1≥f70)) 2 0))
def qE3 a:=(Mx a).1
def TO a:=(Mx a).2
def mE6:=AR Ar vI qE3 TO
def mX3:=Cy [(70,mE5)] [] [] 30
theorem kC5:SK 41 mE6:=fq (c:=mX3) Tryz.func41 ⟨kC4,trivial⟩
def Qq (a:Int):Prop×Bool:=
 (True,cond (a≥0) (decide (a<=65535)) false)
def pC0 a:=(Qq a).1
def f81 a:=(Qq a).2
theorem kC6:SK 81 (AR vI vB pC0 f81):=fb Tryz.func81 9
abbrev uT2:Type:=((List Int)×Int×Unit)
def UB (y:uT2)(x:CW):Vm CW:=
 let d:=y.1
 let a:=x.1
 let b:Bool:=a<y.2.1
 let e:=nth d a 0
 let c:=!(f81 e)
 (b->A6 a (len d)/\pC0 e/\(!c->A5 (a+1)),b&&(!c),(a+1,()),b&&c,!b)
def tE4 y x:=(UB y x).1
def rH4 y x:=(UB y x).2.1
def uT3 y x:=(UB y x).2.2.1
def pC1 y x:=(UB y x).2.2.2.1
def nD2 y x:=(UB y x).2.2.2.2
def rM9 (y:uT2)(x:CW):Int:=
 2
def nD3:=li [(42,Ao),(43,vI)] [(44,vI)] rH4 uT3 tE4 (λy x=>[ex 1 (some (pC1 y x)) [(2,vI)] ((rM9 y x),()),ex 2 (some (nD2 y x)) [] ()]) [[(2,vI)],[]]
def Qr (g:EO):Prop×Int:=
 let b:=cond (cond (cond (g.1<0) true (g.1>256)) true (g.2.1<0)) true (g.2.1>256)
 let c:=!(Ty.eqb .bool (g.1==0) (g.2.1==0))
 let d:=cond c true (len g.2.2.1!=(g.1*g.2.1))
 let a:=(g.2.2.1,len g.2.2.1,())
 let f:=((0:Int),())
 let e:=A3 (rH4 a) (uT3 a) f
 (!b->(!c->A5 (g.1*g.2.1))/\(!d->AB (rH4 a) (uT3 a) (tE4 a) f),cond b 15 (cond d 15 (cond (pC1 a e) (rM9 a e) 0)))
def sZ4 a:=(Qr a).1
def TP a:=(Qr a).2
theorem mQ2:SK 47 (AR Bu vI sZ4 TP):=fb Tryz.func47 52 [kb kC6] [(6,nD3)]
def Qs (a:AD):Prop×Bool:=
 (True,cond (cond (a.2.1==7) true (a.2.1==8)) true (a.2.1==11))
def rN a:=(Qs a).1
def JH a:=(Qs a).2
theorem nD4:SK 73 (AR Bg vB rN JH):=fb Tryz.func73 16
def mE7 (o:Int):Prop×(List UInt8):=
 let l:=o==1
 let m:=o==2
 let n:=o==3
 let e:=o==4
 let f:=o==5
 let g:=o==6
 let h:=o==7
 let i:=o==8
 let j:=o==9
 let k:=o==10
 let c:=cond i ([102,105,108,116,101,114]:List UInt8) (cond j ([108,105,110,107]:List UInt8) (cond k ([99,108,111,110,101]:List UInt8) ([119,97,114,112]:List UInt8)))
 let d:=cond e ([103,114,97,100,105,101,110,116]:List UInt8) (cond f ([112,97,116,104]:List UInt8) (cond g ([116,101,120,116]:List UInt8) (cond h ([97,100,106,117,115,116]:List UInt8) c)))
 let b:=cond n true (cond e true (cond f true (cond g true (cond h true (cond i true (cond j true (cond k true (o==11))))))))
 let a:=cond (cond l true (cond m true b)) (cond l ([103,114,111,117,112]:List UInt8) (cond m ([105,109,97,103,101]:List UInt8) (cond n ([102,105,108,108]:List UInt8) d))) []
 (True,a)
def pM3 a:=(mE7 a).1
def H6 a:=(mE7 a).2
theorem mX4:SK 132 (AR vI vS pM3 H6):=fb Tryz.func132 26
abbrev uA:Type:=((List UInt8)×Int×Unit)
def sC9 (y:uA)(x:CW):Vm CW:=
 let e:=y.1
 let a:=x.1
 let b:Bool:=a<y.2.1
 let d:Bool:=BU e a<33
 let c:=cond d true (BU e a>126)
 (b->A6 a (len e)/\(!d->A6 a (len e))/\(!c->A5 (a+1)),b&&(!c),(a+1,()),b&&c,!b)
def U9 y x:=(sC9 y x).1
def YB y x:=(sC9 y x).2.1
def V7 y x:=(sC9 y x).2.2.1
def UE y x:=(sC9 y x).2.2.2.1
def oO9 y x:=(sC9 y x).2.2.2.2
def sZ5 (y:uA)(x:CW):Bool:=
 false
def oP:=li [(0,vS),(13,vI)] [(14,vI)] YB V7 U9 (λy x=>[ex 1 (some (UE y x)) [(2,vB)] ((sZ5 y x),()),ex 2 (some (oO9 y x)) [] ()]) [[(2,vB)],[]]
def kC7 (e:List UInt8):Prop×Bool:=
 let b:=cond (len e<1) true (len e>32)
 let a:=(e,len e,())
 let d:=((0:Int),())
 let c:=A3 (YB a) (V7 a) d
 (!b->AB (YB a) (V7 a) (U9 a) d,cond b false (cond (UE a c) (sZ5 a c) true))
def pM4 a:=(kC7 a).1
def My a:=(kC7 a).2
theorem mX5:SK 133 (AR vS vB pM4 My):=fb Tryz.func133 28 [] [(4,oP)]
def kC8 (a:Int):Prop×Bool:=
 (True,cond (a≥0) (decide (a<=1073741824)) false)
def qP a:=(kC8 a).1
def Qt a:=(kC8 a).2
theorem mX6:SK 134 (AR vI vB qP Qt):=fb Tryz.func134 9
def kC9 (a:Int):Prop×Bool:=
 (True,cond (a≥0) (decide (a<=65535)) false)
def pM5 a:=(kC9 a).1
def XW a:=(kC9 a).2
theorem mX7:SK 135 (AR vI vB pM5 XW):=fb Tryz.func135 9
def kD (a:Int):Prop×Bool:=
 (True,cond (a≥0) (decide (a<18)) false)
def pM6 a:=(kD a).1
def Qu a:=(kD a).2
theorem mX8:SK 136 (AR vI vB pM6 Qu):=fb Tryz.func136 9
def mX9 (k:AD)(l m:Int):Prop×Int:=
 let b:=cond (cond (cond (l<1) true (l>256)) true (m<1)) true (m>256)
 let c:=H6 k.2.1==[]
 let d:=!(My k.2.2.2.1)
 let e:=!(Qt k.1)
 let f:=cond e true (!(Qt k.2.2.1))
 let g:=cond f true (!(XW (Q0 k).1))
 let h:=!(Qu (Q5 k).1)
 let i:=cond h true (cond (JH k) ((Q5 k).1 !=0) false)
 let j:=TP (Q4 k).1
 let a:=cond (j !=0) j (cond (cond ((Q4 k).1.1 !=0) (cond ((Q4 k).1.1 !=l) true ((Q4 k).1.2.1 !=m)) false) 15 0)
 (!b->pM3 k.2.1/\(!c->pM4 k.2.2.2.1/\(!d->qP k.1/\(!e->qP k.2.2.1)/\(!f->pM5 (Q0 k).1)/\(!g->pM6 (Q5 k).1/\(!h->rN k)/\(!i->sZ4 (Q4 k).1)))),cond b 15 (cond c 8 (cond d 13 (cond g 2 (cond i 8 a)))))
def pM7 a b c:=(mX9 a b c).1
def Fz a b c:=(mX9 a b c).2
theorem mY:SK 107 (DZ Bg vI vI vI pM7 Fz):=fb Tryz.func107 83 [kb mQ2,kb nD4,kb mX4,kb mX5,kb mX6,kb mX7,kb mX8]
def mY0 (e:Int):Prop×Bool:=
 let a:=e==2
 let b:=e==5
 let c:=e==6
 let d:=e==9
 (True,cond (cond a a (cond b b (cond c c (cond d d (e==10))))) true false)
def qP0 a:=(mY0 a).1
def G8 a:=(mY0 a).2
theorem nD5:SK 108 (AR vI vB qP0 G8):=fb Tryz.func108 10
def nD6 (a b c:Int):Prop×Int:=
 (True,GX c (GW a b))
def YE a b c:=(nD6 a b c).1
def DS a b c:=(nD6 a b c).2
theorem pM8:SK 203 (DZ vI vI vI vI YE DS):=fb Tryz.func203 12 [] [] [] true
def kD0 (a:Int):Prop×Int:=
 (YE a (-16777216:Int) 16777216,DS a (-16777216:Int) 16777216)
def UH a:=(kD0 a).1
def K9 a:=(kD0 a).2
theorem mY1:SK 165 (AR vI vI UH K9):=fb Tryz.func165 5 [kb pM8]
def kD1 (a:Int):Prop×Int:=
 (YE a (-1099511627776:Int) 1099511627776,DS a (-1099511627776:Int) 1099511627776)
def tE6 a:=(kD1 a).1
def G9 a:=(kD1 a).2
theorem nD7:SK 166 (AR vI vI tE6 G9):=fb Tryz.func166 5 [kb pM8] [] [] true
def kD2 (a:C8):Prop×C8:=
 (UH a.1/\UH a.2.1/\UH a.2.2.1/\UH a.2.2.2.1/\tE6 a.2.2.2.2.1/\tE6 (Q1 a).1,(K9 a.1,K9 a.2.1,K9 a.2.2.1,K9 a.2.2.2.1,G9 a.2.2.2.2.1,G9 (Q1 a).1,()))
def qP1 a:=(kD2 a).1
def KA a:=(kD2 a).2
theorem nD8:SK 137 (AR Bb Bb qP1 KA):=fb Tryz.func137 22 [kb mY1,kb nD7] [] [] true
def kD3 (a:C8):Prop×Int:=
 (qP1 a,cond (!(Ty.eqb He a (KA a))) (2:Int) 0)
def Iu a:=(kD3 a).1
def CQ a:=(kD3 a).2
theorem qP2:SK 109 (AR Bb vI Iu CQ):=fb Tryz.func109 7 [kb nD8]
def mY2 (d e f g:Int):Prop×Int:=
 let a:=DL e 65536
 let b:=DL g 65536
 let c:=wrap .i64 (wrap .i64 (d*wrap .i64 (e-(wrap .i64 (a*65536))))+wrap .i64 (f*wrap .i64 (g-(wrap .i64 (b*65536)))))
 (tX7 e 65536/\tX7 g 65536/\HE c 65536,wrap .i64 (wrap .i64 (wrap .i64 (d*a)+wrap .i64 (f*b))+f138 c 65536))
def UM a b c d:=(mY2 a b c d).1
def H7 a b c d:=(mY2 a b c d).2
theorem nD9:SK 139 (H4 vI vI vI vI vI UM H7):=fb Tryz.func139 37 [kb QJ,kb nC5] [] [] true
def mY3 (p:C8):Prop×(C8×Int×Unit):=
 let v:=CQ p
 let c:=v !=0
 let a:=wrap .i64 (wrap .i64 (p.1*p.2.2.2.1)-(wrap .i64 (p.2.1*p.2.2.1)))
 let d:=a==0
 let l:=wrap .i64 (p.2.2.2.1*4294967296)
 let e:=f138 l a
 let m:=wrap .i64 (wrap .i64 (sub 0 p.2.1)*4294967296)
 let f:=f138 m a
 let n:=wrap .i64 (wrap .i64 (sub 0 p.2.2.1)*4294967296)
 let g:=f138 n a
 let o:=wrap .i64 (p.1*4294967296)
 let h:=f138 o a
 let k:=(e,f,g,h,(0:Int),(0:Int),())
 let i:=CQ k !=0
 let q:=wrap .i64 (sub 0 e)
 let r:=wrap .i64 (sub 0 g)
 let s:=wrap .i64 (sub 0 f)
 let t:=wrap .i64 (sub 0 h)
 let b:=(e,f,g,h,H7 q p.2.2.2.2.1 r (Q1 p).1,H7 s p.2.2.2.2.1 t (Q1 p).1,())
 let u:=CQ b !=0
 let j:=cond d (0,0,0,0,0,0,()) (cond i (0,0,0,0,0,0,()) (cond u (0,0,0,0,0,0,()) b))
 (Iu p/\(!c->!d->HE l a/\HE m a/\HE n a/\HE o a/\Iu k/\(!i->UM q p.2.2.2.2.1 r (Q1 p).1/\UM s p.2.2.2.2.1 t (Q1 p).1/\Iu b)),(cond c (0,0,0,0,0,0,()) j,cond c v (cond d 17 (cond i 17 (cond u 17 0))),()))
def pM9 a:=(mY3 a).1
def IE a:=(mY3 a).2
theorem mY4:SK 110 (AR Bb (.tup (.cons Bb (.cons vI .nl))) pM9 IE):=fb Tryz.func110 83 [kb qP2,kb QJ,kb nD9] [] [] true
def mY5 (d:Int):Prop×Bool:=
 let a:=d==2
 let b:=d==9
 let c:=d==10
 (True,cond (cond a a (cond b b (cond c c (d==11)))) true false)
def qP3 a:=(mY5 a).1
def GA a:=(mY5 a).2
theorem nE:SK 111 (AR vI vB qP3 GA):=fb Tryz.func111 9
def kD4 (a:Int):Prop×Bool:=
 (True,cond (a≥0) (decide (a<=4)) false)
def pN a:=(kD4 a).1
def Mz a:=(kD4 a).2
theorem mY6:SK 112 (AR vI vB pN Mz):=fb Tryz.func112 9
def mE8 (a b:Int):Prop×Bool:=
 (True,cond (cond (cond (cond (a≥0) (decide (a<=256)) false) (decide (b≥0)) false) (decide (b<=256)) false) (Ty.eqb .bool (a==0) (b==0)) false)
def YC a b:=(mE8 a b).1
def IF a b:=(mE8 a b).2
theorem mY7:SK 116 (BC vI vI vB YC IF):=fb Tryz.func116 26
def mY8 (a:Int):Prop×Int:=
 (YE a 0 65535,DS a 0 65535)
def tE8 a:=(mY8 a).1
def KB a:=(mY8 a).2
theorem mY9:SK 182 (AR vI vI tE8 KB):=fb Tryz.func182 5 [kb pM8]
def mZ (a:BY):Prop×BY:=
 (tE8 a.1/\tE8 a.2.1/\tE8 a.2.2.1/\tE8 a.2.2.2.1,(KB a.1,KB a.2.1,KB a.2.2.1,KB a.2.2.2.1,()))
def rN1 a:=(mZ a).1
def Ya a:=(mZ a).2
theorem mZ0:SK 147 (AR Bt Bt rN1 Ya):=fb Tryz.func147 16 [kb mY9]
def mZ1 (a:BY):Prop×Bool:=
 (rN1 a,Ty.eqb CC a (Ya a))
def tE9 a:=(mZ1 a).1
def GB a:=(mZ1 a).2
theorem qP4:SK 117 (AR Bt vB tE9 GB):=fb Tryz.func117 7 [kb mZ0]
abbrev uT4:Type:=((List BY)×Int×Unit)
def UO (y:uT4)(x:CW):Vm CW:=
 let d:=y.1
 let a:=x.1
 let b:Bool:=a<y.2.1
 let e:=nth d a C4
 let c:=!(GB e)
 (b->A6 a (len d)/\tE9 e/\(!c->A5 (a+1)),b&&(!c),(a+1,()),b&&c,!b)
def tF y x:=(UO y x).1
def rH5 y x:=(UO y x).2.1
def uT5 y x:=(UO y x).2.2.1
def pC2 y x:=(UO y x).2.2.2.1
def nE0 y x:=(UO y x).2.2.2.2
def rN2 (y:uT4)(x:CW):Int:=
 2
def nE1:=li [(23,Cj),(24,vI)] [(25,vI)] rH5 uT5 tF (λy x=>[ex 1 (some (pC2 y x)) [(2,vI)] ((rN2 y x),()),ex 2 (some (nE0 y x)) [] ()]) [[(2,vI)],[]]
def Qv (f:Gn):Prop×Int:=
 let b:=!(IF f.1 f.2.1)
 let c:=cond b true (len f.2.2.1!=(f.1*f.2.1))
 let a:=(f.2.2.1,len f.2.2.1,())
 let e:=((0:Int),())
 let d:=A3 (rH5 a) (uT5 a) e
 (YC f.1 f.2.1/\(!b->A5 (f.1*f.2.1))/\(!c->AB (rH5 a) (uT5 a) (tF a) e),cond c 15 (cond (pC2 a d) (rN2 a d) 0))
def rN3 a:=(Qv a).1
def LG a:=(Qv a).2
theorem mQ3:SK 75 (AR Cf vI rN3 LG):=fb Tryz.func75 33 [kb mY7,kb qP4] [(4,nE1)]
def kD5 (a:BY):Prop×Int:=
 (tE9 a,cond (!(GB a)) (2:Int) 0)
def UQ a:=(kD5 a).1
def H8 a:=(kD5 a).2
def nE2:=AR Bt vI UQ H8
theorem pN0:SK 140 (AR Bt vI UQ H8):=fb Tryz.func140 6 [kb qP4]
def mZ2 (a b:Int):Prop×Bool:=
 (True,cond (a==1) (b==4) (b==3))
def pN1 a b:=(mZ2 a b).1
def H9 a b:=(mZ2 a b).2
theorem mZ3:SK 204 (BC vI vI vB pN1 H9):=fb Tryz.func204 11
abbrev QL:Type:=(Int×(List Int)×(List Int)×Int×Unit)
def sD (y:QL)(x:CW):Vm CW:=
 let d:=y.2.2.1
 let a:=x.1
 let b:Bool:=a<y.2.2.2.1
 let e:=nth d a 0
 let c:=cond (e<(-1048576)) true (e>1048576)
 (b->A6 a (len d)/\(!c->A5 (a+1)),b&&(!c),(a+1,()),b&&c,!b)
def qE6 y x:=(sD y x).1
def sD0 y x:=(sD y x).2.1
def Zc y x:=(sD y x).2.2.1
def qE7 y x:=(sD y x).2.2.2.1
def qE8 y x:=(sD y x).2.2.2.2
def sZ6 (y:QL)(x:CW):Int:=
 2
def UG:List (Nat×Sh):=[(0,vI),(1,Ao)]
def oP0:=li [(0,vI),(1,Ao),(36,Ao),(37,vI)] [(38,vI)] sD0 Zc qE6 (λy x=>[ex 1 (some (qE7 y x)) [(8,vI)] ((sZ6 y x),()),ex 2 (some (qE8 y x)) UG (y.1,y.2.1,())]) [[(8,vI)],UG]
def kD6 (j:Int)(k:List Int)(l m:Int):Prop×Int:=
 let c:=cond (cond (cond (j<1) true (j>4)) true (l<0)) true (l>2)
 let d:=len k
 let e:=cond (!(H9 j d)) true (m==0)
 let f:Bool:=m>16
 let a:=(j,k,k,len k,())
 let i:=((0:Int),())
 let h:=A3 (sD0 a) (Zc a) i
 let g:=cond (j==2) true (j==4)
 let b:=cond e 1 (cond f 3 (cond (qE7 a h) (sZ6 a h) (cond (cond g (decide (nth k 2 0<0)) false) 2 0)))
 (!c->pN1 j d/\(!e->!f->AB (sD0 a) (Zc a) (qE6 a) i/\(qE8 a h->g->A6 2 (len k))),cond c 8 b)
def pN2 a b c d:=(kD6 a b c d).1
def KC a b c d:=(kD6 a b c d).2
theorem mZ4:SK 168 (H4 vI Ao vI vI vI pN2 KC):=fb Tryz.func168 61 [kb mZ3] [(8,oP0)]
abbrev uA1:Type:=((List B4)×(List B4)×Int×Unit)
def uT6 (y:uA1)(x:CW):Vm CW:=
 let j:=y.1
 let k:=y.2.1
 let c:=x.1
 let i:Bool:=c<y.2.2.1
 let a:=nth k c BZ
 let f:=cond (a.1<0) true (a.1>65535)
 let b:=cond f true (!(GB a.2.1))
 let d:Bool:=c>0
 let g:=c-1
 let h:=cond d (decide (a.1<=(nth j g BZ).1)) false
 let e:=(!b)&&(!h)
 (i->A6 c (len k)/\(!f->tE9 a.2.1)/\(!b->(d->A5 (c-1))/\(d->A6 g (len j)))/\(e->A5 (c+1)),i&&e,(c+1,()),i&&(b||((!b)&&h)),!i)
def qF y x:=(uT6 y x).1
def sD1 y x:=(uT6 y x).2.1
def tF0 y x:=(uT6 y x).2.2.1
def UR y x:=(uT6 y x).2.2.2.1
def oP1 y x:=(uT6 y x).2.2.2.2
def YH (y:uA1)(x:CW):Int:=
 let a:=nth y.2.1 x.1 BZ
 (cond (cond (cond (a.1<0) true (a.1>65535)) true (!(GB a.2.1))) (2:Int) 24)
def oP2:=li [(0,Aq),(5,Aq),(6,vI)] [(7,vI)] sD1 tF0 qF (λy x=>[ex 1 (some (UR y x)) [(2,vI)] ((YH y x),()),ex 2 (some (oP1 y x)) [] ()]) [[(2,vI)],[]]
def mZ5 (d:List B4):Prop×Int:=
 let a:=(d,d,len d,())
 let c:=((0:Int),())
 let b:=A3 (sD1 a) (tF0 a) c
 (AB (sD1 a) (tF0 a) (qF a) c,cond (UR a b) (YH a b) 0)
def qP5 a:=(mZ5 a).1
def KD a:=(mZ5 a).2
theorem mZ6:SK 169 (AR Aq vI qP5 KD):=fb Tryz.func169 40 [kb qP4] [(2,oP2)]
def kD7 (d:Int)(e:List Int)(f:Int)(g:List B4):Prop×Int:=
 let a:=len g
 let b:=KC d e f a
 let c:=b !=0
 (pN2 d e f a/\(!c->qP5 g),cond c b (KD g))
def pN3 a b c d:=(kD7 a b c d).1
def M0 a b c d:=(kD7 a b c d).2
theorem mZ7:SK 141 (H4 vI Ao vI Aq vI pN3 M0):=fb Tryz.func141 21 [kb mZ4,kb mZ6]
def mZ8 (c:Int):Prop×Int:=
 let a:=c==3
 let b:=c==4
 (True,cond (cond a true (cond b true (c==5))) (cond a (2:Int) (cond b 3 0)) 1)
def qP6 a:=(mZ8 a).1
def BO a:=(mZ8 a).2
theorem nE3:SK 206 (AR vI vI qP6 BO):=fb Tryz.func206 10
def nE4 (a:A0):Prop×Bool:=
 (True,cond (cond (cond (a.1<(-16777216)) true (a.1>16777216)) true (a.2.1<(-16777216))) true (a.2.1>16777216))
def UT a:=(nE4 a).1
def C6 a:=(nE4 a).2
theorem pN4:SK 208 (AR Au vB UT C6):=fb Tryz.func208 21
abbrev Yw:Type:=((List A8)×Int×A8×(List A8)×Int×Int×(List A0)×Unit)
def uT7 (y:Yw)(x:CW):Vm CW:=
 let f:=y.2.2.1
 let a:=x.1
 let b:Bool:=a<3
 let c:=nth (Q2 y).1 a A1
 let e:=C6 c
 let d:=cond e true (cond (a≥BO f.1) (!(Ty.eqb AL c (0,0,()))) false)
 (b->A6 a 3/\UT c/\(!e->qP6 f.1)/\(!d->A5 (a+1)),b&&(!d),(a+1,()),b&&d,!b)
def Vy y x:=(uT7 y x).1
def TX y x:=(uT7 y x).2.1
def LJ y x:=(uT7 y x).2.2.1
def Uo y x:=(uT7 y x).2.2.2.1
def tQ y x:=(uT7 y x).2.2.2.2
def OO (y:Yw)(x:CW):Int:=
 2
def qF0:List (Nat×Sh):=[(0,Ak),(3,vI),(4,Bk),(10,Ak),(11,vI),(12,vI)]
def oP3:=li [(0,Ak),(3,vI),(4,Bk),(10,Ak),(11,vI),(12,vI),(26,(.val (.arr 3 AL)))] [(27,vI)] TX LJ Vy (λy x=>[ex 1 (some (Uo y x)) [(2,vI)] ((OO y x),()),ex 4 (some (tQ y x)) qF0 (y.1,y.2.1,y.2.2.1,y.2.2.2.1,y.2.2.2.2.1,(Q1 y).1,())]) [[(2,vI)],qF0]
abbrev QM:Type:=((List A8)×(List A8)×Int×Unit)
def Me (y:QM)(x:CW):Vm CW:=
 let n:=y.1
 let f:=y.2.1
 let j:=y.2.2.1
 let a:=x.1
 let d:Bool:=a<j
 let c:=nth f a Z116
 let e:=cond (c.1<1) true (c.1>5)
 let i:=(n,a,c,f,j,a,c.2.1,())
 let q:=((0:Int),())
 let o:=A3 (TX i) (LJ i) q
 let b:=tQ i o
 let g:=c.1 !=1
 let h:=a==0
 let l:=a-1
 let m:=cond g (cond h true ((nth n l Z116).1==5)) false
 let k:=(!e)&&(b&&(!m))
 (d->A6 a (len f)/\(!e->AB (TX i) (LJ i) (Vy i) q/\(b->((g&&(!h))->A5 (a-1))/\((g&&(!h))->A6 l (len n))))/\(k->A5 (a+1)),d&&k,(a+1,()),d&&(e||((!e)&&(Uo i o||(b&&m)))),!d)
def UU y x:=(Me y x).1
def IJ y x:=(Me y x).2.1
def M7 y x:=(Me y x).2.2.1
def vJ6 y x:=(Me y x).2.2.2.1
def oP4 y x:=(Me y x).2.2.2.2
def OI (y:QM)(x:CW):Int:=
 let c:=y.2.1
 let b:=x.1
 let a:=nth c b Z116
 let d:=(y.1,b,a,c,y.2.2.1,b,a.2.1,())
 let e:=A3 (TX d) (LJ d) (0,())
 (cond (cond (a.1<1) true (a.1>5)) 8 (cond (Uo d e) (OO d e) 24))
def V8:=li [(0,Ak),(10,Ak),(11,vI)] [(12,vI)] IJ M7 UU (λy x=>[ex 1 (some (vJ6 y x)) [(2,vI)] ((OI y x),()),ex 2 (some (oP4 y x)) [] ()]) [[(2,vI)],[]]
def mZ9 (e:List A8):Prop×Int:=
 let c:Bool:=len e>128
 let a:=(e,e,len e,())
 let d:=((0:Int),())
 let b:=A3 (IJ a) (M7 a) d
 (!c->AB (IJ a) (M7 a) (UU a) d,cond c 3 (cond (vJ6 a b) (OI a b) 0))
def RU a:=(mZ9 a).1
def BJ a:=(mZ9 a).2
theorem qP7:SK 205 (AR Ak vI RU BJ):=fb Tryz.func205 63 [kb nE3,kb pN4] [(4,V8),(9,oP3)]
def kD8 (f:C8)(g:A0):Prop×A0:=
 let a:=KA f
 let b:=G9 g.1
 let c:=G9 g.2.1
 let d:=wrap .i64 (H7 a.1 b a.2.2.1 c+a.2.2.2.2.1)
 let e:=wrap .i64 (H7 a.2.1 b a.2.2.2.1 c+(Q1 a).1)
 (qP1 f/\tE6 g.1/\tE6 g.2.1/\UM a.1 b a.2.2.1 c/\tE6 d/\UM a.2.1 b a.2.2.2.1 c/\tE6 e,(G9 d,G9 e,()))
def pN5 a b:=(kD8 a b).1
def KE a b:=(kD8 a b).2
theorem lA:SK 235 (BC Bb Au Au pN5 KE):=fb Tryz.func235 38 [kb nD8,kb nD9,kb nD7] [] [] true
def lA0 (b:C8)(c:A0):Prop×A0:=
 let s:=(wrap .i64 (4096*c.1),wrap .i64 (4096*c.2.1),())
 let a:=KE b s
 (pN5 b s/\HE a.1 4096/\HE a.2.1 4096,(f138 a.1 4096,f138 a.2.1 4096,()))
def qP8 a b:=(lA0 a b).1
def Es a b:=(lA0 a b).2
theorem nE5:SK 207 (BC Bb Au Au qP8 Es):=fb Tryz.func207 22 [kb QJ,kb lA] [] [] true
abbrev IM:Type:=(C8×Int×A8×(List A8)×Int×Int×Int×Unit)
abbrev OK:Type:=((List A8)×Int×Unit)
def YJ (y:IM)(x:OK):Vm OK:=
 let h:=y.1
 let f:=y.2.1
 let e:=x.1
 let a:=x.2.1
 let b:Bool:=a<(Q2 y).1
 let g:=nth y.2.2.1.2.1 a A1
 let d:=Es h g
 let c:=C6 d
 (b->A6 a 3/\qP8 h g/\UT d/\(!c->A6 f (len e)/\A6 a 3/\f<len e)/\(!c->A5 (a+1)),b&&(!c),(set e (toNat f) ((nth e f Z116).1,set (nth e f Z116).2.1 (toNat a) d,()),a+1,()),b&&c,!b)
def vJ7 y x:=(YJ y x).1
def E6 y x:=(YJ y x).2.1
def EG y x:=(YJ y x).2.2.1
def uA3 y x:=(YJ y x).2.2.2.1
def wQ y x:=(YJ y x).2.2.2.2
def uT8 (y:IM)(x:OK):(List A8):=
 []
def YA (y:IM)(x:OK):Int:=
 2
def rN4:List (Nat×Sh):=[(4,Bm),(5,vI)]
def YG (y:IM)(x:OK):(List A8):=
 x.1
def rN5:List (Nat×Sh):=[(3,Bq),(8,Cp),(26,Ak),(27,vI),(28,vI)]
def pN6:=li [(3,Bq),(9,vI),(10,Bk),(26,Ak),(27,vI),(28,vI),(41,vI)] [(8,Cp),(42,vI)] E6 EG vJ7 (λy x=>[ex 1 (some (uA3 y x)) rN4 ((uT8 y x),(YA y x),()),ex 4 (some (wQ y x)) rN5 (y.1,(YG y x),y.2.2.2.1,y.2.2.2.2.1,(Q1 y).1,())]) [rN4,rN5]
abbrev aY:Type:=(C8×(List A8)×Int×Unit)
def sD4 (y:aY)(x:OK):Vm OK:=
 let f:=y.2.1
 let h:=y.2.2.1
 let j:=x.1
 let a:=x.2.1
 let d:Bool:=a<h
 let e:=nth f a Z116
 let b:=(y.1,a,e,f,h,a,BO e.1,())
 let i:=(set j (toNat a) (e.1,(nth j a Z116).2.1,()),(0:Int),())
 let g:=A3 (E6 b) (EG b) i
 let c:=wQ b g
 (d->A6 a (len f)/\A6 a (len j)/\a<len j/\qP6 e.1/\AB (E6 b) (EG b) (vJ7 b) i/\(c->A5 (a+1)),d&&c,(YG b g,a+1,()),d&&uA3 b g,!d)
def VL y x:=(sD4 y x).1
def KG y x:=(sD4 y x).2.1
def FT y x:=(sD4 y x).2.2.1
def VN y x:=(sD4 y x).2.2.2.1
def oP6 y x:=(sD4 y x).2.2.2.2
def OQ (y:aY)(x:OK):(List A8):=
 let d:=y.2.1
 let e:=x.1
 let a:=x.2.1
 let b:=nth d a Z116
 let c:=(y.1,a,b,d,y.2.2.1,a,BO b.1,())
 (uT8 c (A3 (E6 c) (EG c) (set e (toNat a) (b.1,(nth e a Z116).2.1,()),0,())))
def YN (y:aY)(x:OK):Int:=
 let d:=y.2.1
 let e:=x.1
 let a:=x.2.1
 let b:=nth d a Z116
 let c:=(y.1,a,b,d,y.2.2.1,a,BO b.1,())
 (YA c (A3 (E6 c) (EG c) (set e (toNat a) (b.1,(nth e a Z116).2.1,()),0,())))
def UP:List (Nat×Sh):=[(4,Bm),(5,vI)]
def QS (y:aY)(x:OK):(List A8):=
 x.1
def oP7:=li [(3,Bq),(26,Ak),(27,vI)] [(8,Cp),(28,vI)] KG FT VL (λy x=>[ex 1 (some (VN y x)) UP ((OQ y x),(YN y x),()),ex 2 (some (oP6 y x)) [(8,Cp)] ((QS y x),())]) [UP,[(8,Cp)]]
def qP9 (j:List A8)(k:C8):Prop×((List A8)×Int×Unit):=
 let f:=BJ j
 let d:=f !=0
 let g:=CQ k
 let e:=g !=0
 let a:=len j
 let b:=(k,j,len j,())
 let i:=(replicate (toNat a) Z116,(0:Int),())
 let h:=A3 (KG b) (FT b) i
 let c:=VN b h
 (RU j/\(!d->Iu k/\(!e->(0<=a/\a<=a/\a<=4294967296)/\AB (KG b) (FT b) (VL b) i)),(cond d [] (cond e [] (cond c (OQ b h) (QS b h))),cond d f (cond e g (cond c (YN b h) 0)),()))
def pN7 a b:=(qP9 a b).1
def BP a b:=(qP9 a b).2
theorem lA1:SK 170 (BC Ak Bb (.tup (.cons Ak (.cons vI .nl))) pN7 BP):=fb Tryz.func170 63 [kb qP2,kb qP7,kb nE3,kb nE5,kb pN4] [(9,oP7),(13,pN6)] [(15,[(4,0,25,1008)]),(43,[(1,4,0,0),(4,0,1008,0)])] false [] [25]
def qQ (e:A0)(f:List A0):Prop×(Unit)×((List A0)×Unit):=
 let c:=len f
 let d:=c-1
 let a:=!(Ty.eqb AL e (nth f d A1))
 let b:=([e]:List A0)
 (A5 (c-1)/\A6 d (len f)/\(a->((length f+length b:Nat):Int)<=4294967296),(),(cond a (f++b) f,()))
def Vx a b:=(qQ a b).1
def lA2 a b:=(qQ a b).2.1
def wT3 a b:=(qQ a b).2.2
theorem oP8:SK 236 (fnSpec [(0,Au),(1,Eb)] (.tup .nl) [(1,Eb)] (λx=>Vx x.1 x.2.1) (λx=>lA2 x.1 x.2.1) (λx=>wT3 x.1 x.2.1)):=fb Tryz.func236 15 [] [] [(5,[(4,0,14,400100)])] false [1]
abbrev YT:Type:=(A8×A0×(Unit×Unit)×Unit)
abbrev Zj:Type:=((List A0)×Int×Unit)
def tY (y:YT)(x:Zj):Vn Zj:=
 let z:=y.1
 let A:=y.2.1
 let B:=x.1
 let b:=x.2.1
 let f:Bool:=b<=8
 let a:=8-b
 let c:=a*a
 let g:=2*b
 let d:=g*a
 let e:=b*b
 let h:=c*A.1
 let i:=(nth z.2.1 0 A1).1
 let j:=d*i
 let k:=h+j
 let l:=(nth z.2.1 1 A1).1
 let m:=e*l
 let n:=k+m
 let o:=c*A.2.1
 let q:=(nth z.2.1 0 A1).2.1
 let r:=d*q
 let t:=o+r
 let u:=(nth z.2.1 1 A1).2.1
 let v:=e*u
 let w:=t+v
 let s:=(f138 n 64,f138 w 64,())
 (f->A5 (8-b)/\A5 (a*a)/\A5 (2*b)/\A5 (g*a)/\A5 (b*b)/\A5 (c*A.1)/\A6 0 3/\A5 (d*i)/\A5 (h+j)/\A6 1 3/\A5 (e*l)/\A5 (k+m)/\HE n 64/\A5 (c*A.2.1)/\A6 0 3/\A5 (d*q)/\A5 (o+r)/\A6 1 3/\A5 (e*u)/\A5 (t+v)/\HE w 64/\Vx s B/\A5 (b+1),f,((wT3 s B).1,b+1,()))
def sD5 y x:=(tY y x).1
def wT5 y x:=(tY y x).2.1
def CV y x:=(tY y x).2.2
def YV (y:YT)(x:Zj):(List A0):=
 x.1
def sD6:List (Nat×Sh):=[(2,Cg)]
def qQ0:=li [(3,Bk),(5,Cb),(6,(.fn 236 (.cons (.ref 2 Af) .nl)))] [(2,Cg),(7,vI)] wT5 CV sD5 (λy x=>[ex 3 none sD6 ((YV y x),())]) [sD6]
def ON (y:YT)(x:Zj):Vn Zj:=
 let N:=y.1
 let Q:=y.2.1
 let R:=x.1
 let b:=x.2.1
 let O:Bool:=b<=16
 let a:=16-b
 let g:=a*a
 let c:=g*a
 let h:=3*b
 let i:=h*a
 let d:=i*a
 let j:=3*b
 let k:=j*b
 let e:=k*a
 let l:=b*b
 let f:=l*b
 let m:=c*Q.1
 let n:=(nth N.2.1 0 A1).1
 let o:=d*n
 let q:=m+o
 let r:=(nth N.2.1 1 A1).1
 let t:=e*r
 let u:=q+t
 let v:=(nth N.2.1 2 A1).1
 let w:=f*v
 let z:=u+w
 let A:=c*Q.2.1
 let B:=(nth N.2.1 0 A1).2.1
 let C:=d*B
 let E:=A+C
 let F:=(nth N.2.1 1 A1).2.1
 let H:=e*F
 let J:=E+H
 let K:=(nth N.2.1 2 A1).2.1
 let L:=f*K
 let M:=J+L
 let s:=(f138 z 4096,f138 M 4096,())
 (O->A5 (16-b)/\A5 (a*a)/\A5 (g*a)/\A5 (3*b)/\A5 (h*a)/\A5 (i*a)/\A5 (3*b)/\A5 (j*b)/\A5 (k*a)/\A5 (b*b)/\A5 (l*b)/\A5 (c*Q.1)/\A6 0 3/\A5 (d*n)/\A5 (m+o)/\A6 1 3/\A5 (e*r)/\A5 (q+t)/\A6 2 3/\A5 (f*v)/\A5 (u+w)/\HE z 4096/\A5 (c*Q.2.1)/\A6 0 3/\A5 (d*B)/\A5 (A+C)/\A6 1 3/\A5 (e*F)/\A5 (E+H)/\A6 2 3/\A5 (f*K)/\A5 (J+L)/\HE M 4096/\Vx s R/\A5 (b+1),O,((wT3 s R).1,b+1,()))
def QI y x:=(ON y x).1
def MF y x:=(ON y x).2.1
def wK y x:=(ON y x).2.2
def tD3 (y:YT)(x:Zj):(List A0):=
 x.1
def tV9:List (Nat×Sh):=[(2,Cg)]
def qD2:=li [(3,Bk),(5,Cb),(6,(.fn 236 (.cons (.ref 2 Af) .nl)))] [(2,Cg),(12,vI)] MF wK QI (λy x=>[ex 5 none tV9 ((tD3 y x),())]) [tV9]
def oD (m:List A0)(n:A8):Prop×(List A0):=
 let f:=len m
 let g:=f-1
 let h:=nth m g A1
 let b:=n.1==2
 let i:=nth n.2.1 0 A1
 let c:=n.1==3
 let d:=(n,h,((),()),())
 let l:=(m,(1:Int),())
 let j:=n.1==4
 let a:=(n,h,((),()),())
 let k:=(m,(1:Int),())
 let e:=cond b (wT3 i m).1 (cond c (YV d (A3 (wT5 d) (CV d) l)) (cond j (tD3 a (A3 (MF a) (wK a) k)) m))
 (A5 (f-1)/\A6 g (len m)/\(b->A6 0 3/\Vx i m)/\(b=false->(c->AB (wT5 d) (CV d) (sD5 d) l)/\(c=false->j->AB (MF a) (wK a) (QI a) k)),e)
def V2 a b:=(oD a b).1
def Y9 a b:=(oD a b).2
theorem oP9:SK 209 (BC (.own AL 400000 false) Dh Ca V2 Y9):=fx (λc=>{ c with wants:=[(236,[])] }) Tryz.func209 179 [kb QJ,kb oP8] [(8,qQ0),(15,qD2)] [(1,[(4,0,400000,400200)]),(41,[(4,0,400200,0)])]
abbrev uA4:Type:=((List (List A0))×(List A0)×Int×Unit)
def qQ1 (y:QM)(x:uA4):Vn uA4:=
 let k:=y.1
 let e:=y.2.1
 let l:=x.1
 let m:=x.2.1
 let a:=x.2.2.1
 let f:Bool:=a<y.2.2.1
 let b:=nth e a Z116
 let c:=b.1==1
 let n:=cond c ([nth b.2.1 0 A1]:List A0) (Y9 m b)
 let g:=len k
 let d:=a==(g-1)
 let h:=a+1
 let i:=cond d true ((nth k h Z116).1==1)
 let j:=([n]:List (List A0))
 (f->A6 a (len e)/\(c->A6 0 3)/\(c=false->V2 m b)/\A5 (g-1)/\(!d->A5 (a+1))/\(!d->A6 h (len k))/\(i->((length l+length j:Nat):Int)<=4294967296)/\A5 (a+1),f,(cond i (l++j) l,n,a+1,()))
def US y x:=(qQ1 y x).1
def vE0 y x:=(qQ1 y x).2.1
def wL y x:=(qQ1 y x).2.2
def uK3 (y:QM)(x:uA4):(List (List A0)):=
 x.1
def UX:List (Nat×Sh):=[(5,(.own Af 1005 false))]
def oQ:=li [(0,Ak),(14,Ak),(15,vI)] [(5,(.own Af 1005 false)),(6,Ck),(16,vI)] vE0 wL US (λy x=>[ex 2 none UX ((uK3 y x),())]) [UX]
def lA3 (e:List A8):Prop×((List (List A0))×Int×Unit):=
 let c:=BJ e
 let a:=c !=0
 let b:=(e,e,len e,())
 let d:=(([]:List (List A0)),([]:List A0),(0:Int),())
 (RU e/\(!a->AB (vE0 b) (wL b) (US b) d),(cond a [] (uK3 b (A3 (vE0 b) (wL b) d)),cond a c 0,()))
def rN6 a:=(lA3 a).1
def BK a:=(lA3 a).2
theorem nE6:SK 171 (AR Ak (.tup (.cons Az (.cons vI .nl))) rN6 BK):=fx (λc=>{ c with wants:=[(209,[0])] }) Tryz.func171 51 [kb qP7,kb oP9] [(7,oQ)] [(21,[(4,0,27,1006)]),(23,[(4,0,30,1006)]),(27,[(4,0,48,1005)]),(31,[(4,0,1005,0)])]
abbrev Yy:Type:=((List Bool)×Int×Unit)
def rH6 (y:QM)(x:Yy):Vn Yy:=
 let i:=y.1
 let c:=y.2.1
 let j:=x.1
 let a:=x.2.1
 let d:Bool:=a<y.2.2.1
 let e:=len i
 let b:=a==(e-1)
 let f:=a+1
 let g:=cond b true ((nth i f Z116).1==1)
 let h:=([(nth c a Z116).1 !=5]:List Bool)
 (d->A6 a (len c)/\A5 (e-1)/\(!b->A5 (a+1))/\(!b->A6 f (len i))/\(g->((length j+length h:Nat):Int)<=4294967296)/\A5 (a+1),d,(cond g (j++h) j,a+1,()))
def UW y x:=(rH6 y x).1
def YM y x:=(rH6 y x).2.1
def R9 y x:=(rH6 y x).2.2
def OR (y:QM)(x:Yy):(List Bool):=
 x.1
def oQ0:=li [(0,Ak),(13,Ak),(14,vI)] [(5,Dm),(15,vI)] YM R9 UW (λy x=>[ex 2 none [(5,Dm)] ((OR y x),())]) [[(5,Dm)]]
def lA4 (e:List A8):Prop×((List Bool)×Int×Unit):=
 let c:=BJ e
 let a:=c !=0
 let b:=(e,e,len e,())
 let d:=(([]:List Bool),(0:Int),())
 (RU e/\(!a->AB (YM b) (R9 b) (UW b) d),(cond a [] (OR b (A3 (YM b) (R9 b) d)),cond a c 0,()))
def pN8 a:=(lA4 a).1
def EK a:=(lA4 a).2
theorem lA5:SK 172 (AR Ak (.tup (.cons (.own .bool 0 false) (.cons vI .nl))) pN8 EK):=fb Tryz.func172 42 [kb qP7] [(6,oQ0)] [(19,[(4,0,39,1005)]),(23,[(4,0,1005,0)])]
abbrev uA5:Type:=((List (List A0))×(List (List A0))×Int×Unit)
abbrev Y0:Type:=(Int×Int×Unit)
def sD7 (y:uA5)(x:Y0):Vm Y0:=
 let d:=y.2.1
 let g:=x.1
 let a:=x.2.1
 let b:Bool:=a<y.2.2.1
 let e:=len (nth d a [])
 let f:=g+e
 let c:Bool:=f>4096
 (b->A6 a (len d)/\A5 (g+e)/\(!c->A5 (a+1)),b&&(!c),(f,a+1,()),b&&c,!b)
def UY y x:=(sD7 y x).1
def Y8 y x:=(sD7 y x).2.1
def O7 y x:=(sD7 y x).2.2.1
def Ux y x:=(sD7 y x).2.2.2.1
def VC y x:=(sD7 y x).2.2.2.2
def OS (y:uA5)(x:Y0):Int:=
 3
def oQ1:=li [(0,Al),(18,Al),(19,vI)] [(5,vI),(20,vI)] Y8 O7 UY (λy x=>[ex 1 (some (Ux y x)) [(4,vI)] ((OS y x),()),ex 2 (some (VC y x)) [(0,Al)] (y.1,())]) [[(4,vI)],[(0,Al)]]
abbrev vJ8:Type:=((List (List A0))×Int×Int×(List A0)×Int×Unit)
def Zg (y:vJ8)(x:CW):Vm CW:=
 let e:=y.2.2.2.1
 let a:=x.1
 let b:Bool:=a<y.2.2.2.2.1
 let c:=nth e a A1
 let d:=cond (cond (cond (c.1<(-16777216)) true (c.1>16777216)) true (c.2.1<(-16777216))) true (c.2.1>16777216)
 (b->A6 a (len e)/\(!d->A5 (a+1)),b&&(!d),(a+1,()),b&&d,!b)
def tY0 y x:=(Zg y x).1
def V0 y x:=(Zg y x).2.1
def wV9 y x:=(Zg y x).2.2.1
def rN7 y x:=(Zg y x).2.2.2.1
def rN8 y x:=(Zg y x).2.2.2.2
def sD8 (y:vJ8)(x:CW):Int:=
 2
def YU:List (Nat×Sh):=[(31,Al),(32,vI),(33,vI)]
def pN9:=li [(31,Al),(32,vI),(33,vI),(37,Bc),(38,vI)] [(39,vI)] V0 wV9 tY0 (λy x=>[ex 1 (some (rN7 y x)) [(4,vI)] ((sD8 y x),()),ex 6 (some (rN8 y x)) YU (y.1,y.2.1,y.2.2.1,())]) [[(4,vI)],YU]
abbrev QY:Type:=((List (List A0))×Int×Unit)
def tF9 (y:QY)(x:CW):Vm CW:=
 let e:=y.1
 let f:=y.2.1
 let b:=x.1
 let d:Bool:=b<f
 let h:=nth e b []
 let a:=(e,f,b,h,len h,())
 let i:=((0:Int),())
 let g:=A3 (V0 a) (wV9 a) i
 let c:=rN8 a g
 (d->A6 b (len e)/\AB (V0 a) (wV9 a) (tY0 a) i/\(c->A5 (b+1)),d&&c,(b+1,()),d&&rN7 a g,!d)
def UN y x:=(tF9 y x).1
def VQ y x:=(tF9 y x).2.1
def M8 y x:=(tF9 y x).2.2.1
def uU y x:=(tF9 y x).2.2.2.1
def pO y x:=(tF9 y x).2.2.2.2
def YQ (y:QY)(x:CW):Int:=
 let b:=y.1
 let c:=x.1
 let d:=nth b c []
 let a:=(b,y.2.1,c,d,len d,())
 (sD8 a (A3 (V0 a) (wV9 a) (0,())))
def pO0:=li [(31,Al),(32,vI)] [(33,vI)] VQ M8 UN (λy x=>[ex 1 (some (uU y x)) [(4,vI)] ((YQ y x),()),ex 4 (some (pO y x)) [] ()]) [[(4,vI)],[]]
def lA6 (h:(List (List A0)))(i:Int):Prop×Int:=
 let d:=cond (i !=0) (i !=1) false
 let b:=(h,h,len h,())
 let g:=((0:Int),(0:Int),())
 let f:=A3 (Y8 b) (O7 b) g
 let a:=(h,len h,())
 let e:=((0:Int),())
 let c:=A3 (VQ a) (M8 a) e
 (!d->AB (Y8 b) (O7 b) (UY b) g/\(VC b f->AB (VQ a) (M8 a) (UN a) e),cond d 8 (cond (Ux b f) (OS b f) (cond (uU a c) (YQ a c) 0)))
def tY1 a b:=(lA6 a b).1
def Ei a b:=(lA6 a b).2
def nE7:=BC Al vI vI tY1 Ei
theorem pO1:SK 174 (BC Al vI vI tY1 Ei):=fb Tryz.func174 63 [] [(5,oQ1),(12,pO0),(15,pN9)]
def kD9 (b c d:Int):Prop×Int:=
 let a:=cond (cond (b<1) true (b>4096)) (2:Int) (cond (cond (c<0) true (c>2)) 8 (cond (cond (d<0) true (d>2)) 8 0))
 (True,a)
def pO2 a b c:=(kD9 a b c).1
def FU a b c:=(kD9 a b c).2
theorem lA7:SK 210 (DZ vI vI vI vI pO2 FU):=fb Tryz.func210 25
abbrev tG:Type:=(Bool×(List A0)×Int×Unit)
def rH7 (y:tG)(x:Zj):Vn Zj:=
 let j:=y.2.1
 let b:=x.1
 let a:=x.2.1
 let d:Bool:=a<y.2.2.1
 let e:=nth j a A1
 let c:=len b==0
 let f:=len b
 let g:=f-1
 let h:=cond c true (!(Ty.eqb AL e (nth b g A1)))
 let i:=([e]:List A0)
 (d->A6 a (len j)/\(!c->A5 (f-1))/\(!c->A6 g (len b))/\(h->((length b+length i:Nat):Int)<=4294967296)/\A5 (a+1),d,(cond h (b++i) b,a+1,()))
def tQ2 y x:=(rH7 y x).1
def Zu y x:=(rH7 y x).2.1
def M9 y x:=(rH7 y x).2.2
def sZ9 (y:tG)(x:Zj):(List A0):=
 x.1
def UZ:List (Nat×Sh):=[(1,vB),(5,Br)]
def oQ2:=li [(1,vB),(8,Bc),(9,vI)] [(5,Br),(10,vI)] Zu M9 tQ2 (λy x=>[ex 2 none UZ (y.1,(sZ9 y x),())]) [UZ]
abbrev OP:Type:=(Bool×Unit)
abbrev YF:Type:=((List A0)×Unit)
def qQ2 (y:OP)(x:YF):Vn YF:=
 let a:=x.1
 let b:=cond (!y.1) (decide (len a>1)) false
 let d:=len a
 let e:=d-1
 let f:=cond b (Ty.eqb AL (nth a e A1) (nth a 0 A1)) false
 let g:=len a
 let c:=g-1
 ((b->A5 (d-1))/\(b->A6 e (len a))/\(b->A6 0 (len a))/\(f->A5 (g-1)/\0<=c/\c<=len a),f,(List.take (toNat c) a,()))
def tQ3 y x:=(qQ2 y x).1
def uA7 y x:=(qQ2 y x).2.1
def OL y x:=(qQ2 y x).2.2
def rA (y:OP)(x:YF):(List A0):=
 x.1
def oQ3:=li [(1,vB)] [(5,Bc)] uA7 OL tQ3 (λy x=>[ex 4 none [(5,Bc)] ((rA y x),())]) [[(5,Bc)]]
def kE (e:List A0)(f:Bool):Prop×(List A0):=
 let a:=(f,e,len e,())
 let c:=(([]:List A0),(0:Int),())
 let b:=(f,())
 let d:=(sZ9 a (A3 (Zu a) (M9 a) c),())
 (AB (Zu a) (M9 a) (tQ2 a) c/\AB (uA7 b) (OL b) (tQ3 b) d,rA b (A3 (uA7 b) (OL b) d))
def pO3 a b:=(kE a b).1
def CR a b:=(kE a b).2
theorem lA8:SK 237 (BC Bc vB Bc pO3 CR):=fb Tryz.func237 57 [] [(3,oQ2),(8,oQ3)] [(13,[(4,0,30,1005)])]
def kE0 (a b:A0):Prop×A0:=
 (True,(wrap .i64 (a.1-b.1),wrap .i64 (a.2.1-b.2.1),()))
def Sa a b:=(kE0 a b).1
def AO a b:=(kE0 a b).2
theorem qQ3:SK 242 (BC Au Au Au Sa AO):=fb Tryz.func242 16 [] [] [] true
def lA9 (g h:Int):Prop×(Int×Int×Unit):=
 let a:=FP .u64 g 4294967295
 let b:=wE g 32 64
 let c:=FP .u64 h 4294967295
 let d:=wE h 32 64
 let e:=wrap .u64 (wrap .u64 (b*c)+wE (wrap .u64 (a*c)) 32 64)
 let f:=wrap .u64 (wrap .u64 (wrap .u64 (b*d)+wE e 32 64)+wE (wrap .u64 (FP .u64 e 4294967295+wrap .u64 (a*d))) 32 64)
 (True,(f,wrap .u64 (g*h),()))
def Vo a b:=(lA9 a b).1
def B9 a b:=(lA9 a b).2
def nE8:=BC As As (.tup (.cons As (.cons As .nl))) Vo B9
theorem lB:SK 291 (BC As As (.tup (.cons As (.cons As .nl))) Vo B9):=fb Tryz.func291 51 [] [] [] true
def kE1 (a:Int):Prop×Int:=
 (True,cond (a<0) (wrap .u64 (sub 0 (wrap .u64 a))) (wrap .u64 a))
def tY2 a:=(kE1 a).1
def AE a:=(kE1 a).2
def nE9:=AR vI As tY2 AE
theorem lB0:SK 292 (AR vI As tY2 AE):=fb Tryz.func292 10 [] [] [] true
def qQ4 (y x:Y0):Vn Y0:=
 let f:=y.1
 let d:=x.1
 let b:=x.2.1
 let e:=b !=0
 let a:=ior .u64 d b
 let c:=B9 a a
 (e->Vo a a,e,(cond (cond (c.1<f) true (cond (c.1==f) (decide (c.2.1<=y.2.1)) false)) a d,wE b 1 64,()))
def tQ4 y x:=(qQ4 y x).1
def uA9 y x:=(qQ4 y x).2.1
def Iq y x:=(qQ4 y x).2.2
def OZ (y x:Y0):Int:=
 x.1
def rA1:St->Option Out:=IB [(5,As),(6,As)] [(10,As),(11,As)] uA9 Iq tQ4 λy x=>[ex 2 none [(10,As)] ((OZ y x),())]
def lB1 (k l:Int):Prop×Int:=
 let f:=AE k
 let g:=AE k
 let b:=B9 f g
 let h:=AE l
 let i:=AE l
 let c:=B9 h i
 let d:=(((toNat b.2.1+toNat c.2.1+toNat 0) / 18446744073709551616:Nat):Int)
 let e:=((((toNat b.1+toNat c.1+toNat d) % 18446744073709551616:Nat):Int),(((toNat b.2.1+toNat c.2.1+toNat 0) % 18446744073709551616:Nat):Int),())
 let j:=((0:Int),(9223372036854775808:Int),())
 let a:=OZ e (A3 (uA9 e) (Iq e) j)
 (tY2 k/\tY2 k/\Vo f g/\tY2 l/\tY2 l/\Vo h i/\(0<=(0:Int)/\(0:Int)<=1)/\(0<=d/\d<=1)/\AB (uA9 e) (Iq e) (tQ4 e) j,cond (a>9223372036854775807) 9223372036854775807 (wrap .i64 a))
def qQ5 a b:=(lB1 a b).1
def f279 a b:=(lB1 a b).2
def nF:=BC vI vI vI qQ5 f279
def oD0:Ctx:={ Cx tys [(291,nE8),(292,nE9)] [(7,rA1)] [] true 73 [] [] with exts:=[(293,xB1)] }
theorem oD1:CtxOk Tryz.prog oD0:=xZ9 qD8 rfl ⟨lB,lB0,trivial⟩ ⟨mV2,trivial⟩ (by kernel_rfl)
noncomputable def nF0:Code:=Tryz.f279.body.getD .skip
noncomputable def nF1:Code:=Tz nF0 0
theorem oQ4:Kw Tryz.prog oD0 nF1:=lq oD1 (sp:=rA1) rfl [[(10,As)]]
theorem nF2:SK 279 nF:=fl oD1 Tryz.func279 (bs:=[nF1]) ⟨oQ4,trivial⟩
def kE2 (i j:A0)(k:Int):Prop×DA:=
 let b:=AO j i
 let c:=wrap .i64 (16*b.1)
 let d:=wrap .i64 (16*b.2.1)
 let a:=f279 c d
 let e:=wrap .i64 (wrap .i64 ((-8)*k)*b.2.1)
 let f:=wrap .i64 (wrap .i64 (8*k)*b.1)
 let g:=wrap .i64 (wrap .i64 (8*k)*b.1)
 let h:=wrap .i64 (wrap .i64 (8*k)*b.2.1)
 (Sa j i/\qQ5 c d/\HE e a/\HE f a/\HE g a/\HE h a,(i,j,b,(f138 e a,f138 f a,()),(f138 g a,f138 h a,()),()))
def qQ6 a b c:=(kE2 a b c).1
def AH a b c:=(kE2 a b c).2
theorem lB2:SK 275 (DZ Au Au vI Dt qQ6 AH):=fb Tryz.func275 53 [kb QJ,kb qQ3,kb nF2] [] [] true
abbrev Zl:Type:=((List A0)×Bool×Int×Unit)
abbrev uB:Type:=((List DA)×Int×Unit)
def rH8 (y:Zl)(x:uB):Vn uB:=
 let b:=y.1
 let h:=y.2.2.1
 let i:=x.1
 let a:=x.2.1
 let c:Bool:=a<len b
 let d:=a-1
 let e:=nth b d A1
 let f:=nth b a A1
 let g:=([AH e f h]:List DA)
 (c->A5 (a-1)/\A6 d (len b)/\A6 a (len b)/\qQ6 e f h/\((length i+length g:Nat):Int)<=4294967296/\A5 (a+1),c,(i++g,a+1,()))
def tQ5 y x:=(rH8 y x).1
def Ir y x:=(rH8 y x).2.1
def KH y x:=(rH8 y x).2.2
def uK4 (y:Zl)(x:uB):(List DA):=
 x.1
def Vq:List (Nat×Sh):=[(0,Bc),(1,vB),(2,vI),(7,Bx)]
def oQ5:=li [(0,Bc),(1,vB),(2,vI)] [(7,Bx),(8,vI)] Ir KH tQ5 (λy x=>[ex 2 none Vq (y.1,y.2.1,y.2.2.1,(uK4 y x),())]) [Vq]
def lB3 (j:List A0)(k:Bool)(l:Int):Prop×(List DA):=
 let b:=(j,k,l,())
 let i:=(([]:List DA),(1:Int),())
 let a:=uK4 b (A3 (Ir b) (KH b) i)
 let c:=cond (!k) (decide (len j>1)) false
 let d:=len j
 let e:=d-1
 let f:=nth j e A1
 let g:=nth j 0 A1
 let h:=([AH f g l]:List DA)
 (AB (Ir b) (KH b) (tQ5 b) i/\(c->A5 (d-1)/\A6 e (len j)/\A6 0 (len j)/\qQ6 f g l/\((length a+length h:Nat):Int)<=4294967296),cond c (a++h) a)
def pO4 a b c:=(lB3 a b c).1
def BG a b c:=(lB3 a b c).2
theorem lB4:SK 238 (DZ Bc vB vI (.own Kz 0 false) pO4 BG):=fb Tryz.func238 51 [kb lB2] [(3,oQ5)] [(11,[(4,0,28,1007)]),(15,[(4,0,49,1007)]),(17,[(4,0,1007,0)])]
abbrev Zm:Type:=((List A0)×(List A0)×Int×Unit)
def rH9 (y:Zm)(x:Y0):Vn Y0:=
 let g:=y.1
 let h:=y.2.1
 let a:=x.2.1
 let b:Bool:=a<y.2.2.1
 let c:=nth h a A1
 let d:=len g
 let e:=tmod (wrap .i64 (a+1)) d
 let f:=nth g e A1
 (b->A6 a (len h)/\d≠0/\A6 e (len g),b,(wrap .i64 (x.1+wrap .i64 (wrap .i64 (c.1*f.2.1)-(wrap .i64 (f.1*c.2.1)))),wrap .i64 (a+1),()))
def qF7 y x:=(rH9 y x).1
def rO y x:=(rH9 y x).2.1
def uK5 y x:=(rH9 y x).2.2
def rA2 (y:Zm)(x:Y0):Int:=
 x.1
def oQ6:=li [(0,Bc),(7,Bc),(8,vI)] [(3,vI),(9,vI)] rO uK5 qF7 (λy x=>[ex 2 none [(3,vI)] ((rA2 y x),())]) [[(3,vI)]]
def kE3 (c:List A0):Prop×Int:=
 let a:=(c,c,len c,())
 let b:=((0:Int),(0:Int),())
 (AB (rO a) (uK5 a) (qF7 a) b,rA2 a (A3 (rO a) (uK5 a) b))
def pO5 a:=(kE3 a).1
def DT a:=(kE3 a).2
theorem lB5:SK 277 (AR Bc vI pO5 DT):=fb Tryz.func277 37 [] [(3,oQ6)] [] true
def f278 (_p0:List A0):Unit:=()
def oD2 (a:List A0):(List A0)×Unit:=(List.reverse a,())
def pO6 (_p0:List A0):Prop:=True
instance (a:List A0):Decidable (pO6 a):=isTrue trivial
def lB6:List (Nat×Sh):=[(0,Bl)]
def lB7:Sh:=(.tup .nl)
def lB8:List (Nat×Sh):=[(0,Bl)]
def nF3:Am.Spec:=fnSpec lB6 lB7 lB8 (λx=>pO6 x.1) (λx=>f278 x.1) (λx=>oD2 x.1)
theorem lB9:SpecOk Tryz.prog 278 nF3:=mD8 (by decide) rfl ⟨_,Tryz.func278,by kernel_rfl,by decide⟩ kC0
def kE4 (a b:A0):Prop×A0:=
 (True,(wrap .i64 (a.1+b.1),wrap .i64 (a.2.1+b.2.1),()))
def QW a b:=(kE4 a b).1
def AK a b:=(kE4 a b).2
theorem rO0:SK 241 (BC Au Au Au QW AK):=fb Tryz.func241 16 [] [] [] true
def kE5 (e:Int):Prop×Int:=
 let a:=wrap .i64 (tdiv e 256)
 let d:Bool:=a≥64
 let b:=wrap .i64 (a+1)
 let c:=wrap .i64 (wrap .i64 (nth G5 b 0-(nth G5 a 0))*wrap .i64 (e-(wrap .i64 (256*a))))
 ((d->A6 64 65)/\(!d->A6 a 65/\A6 b 65/\A6 a 65/\HE c 256),cond d (nth G5 64 0) (wrap .i64 (nth G5 a 0+f138 c 256)))
def sR a:=(kE5 a).1
def KF a:=(kE5 a).2
theorem lC:SK 310 (AR vI vI sR KF):=fb Tryz.func310 28 [kb QJ] [] [] true
def lC0 (i:Int):Prop×Int:=
 let h:=wrap .i64 (tdiv i 16384)
 let a:=wrap .i64 (i-(wrap .i64 (16384*h)))
 let b:=h==0
 let c:=h==1
 let f:=wrap .i64 (16384-a)
 let d:=h==2
 let g:=wrap .i64 (16384-a)
 let e:=cond (cond b true (cond c true d)) (cond b (KF a) (cond c (KF f) (wrap .i64 (sub 0 (KF a))))) (wrap .i64 (sub 0 (KF g)))
 ((b->sR a)/\(b=false->(c->sR f)/\(c=false->d->sR a))/\((((!d)&&(!c))&&(!b))->sR g),e)
def sR0 a:=(lC0 a).1
def QK a:=(lC0 a).2
theorem lC1:SK 304 (AR vI vI sR0 QK):=fb Tryz.func304 30 [kb lC] [] [] true
def kE6 (c:Int):Prop×(Int×Int×Unit):=
 let b:=FP .i64 c 65535
 let a:=tmod (wrap .i64 (b+16384)) 65536
 (sR0 b/\sR0 a,(QK b,QK a,()))
def pO7 a:=(kE6 a).1
def II a:=(kE6 a).2
theorem lC2:SK 290 (AR vI (.tup (.cons vI (.cons vI .nl))) pO7 II):=fb Tryz.func290 13 [kb lC1] [] [] true
abbrev Zq:Type:=(Int×A0×Int×Unit)
def rI (y:Zq)(x:Zj):Vn Zj:=
 let h:=y.1
 let i:=y.2.1
 let g:=x.1
 let a:=x.2.1
 let b:Bool:=a<y.2.2.1
 let c:=wrap .i64 (4096*a)
 let d:=II c
 let e:=wrap .i64 (h*d.2.1)
 let f:=wrap .i64 (h*d.1)
 let s:=(f138 e 131072,f138 f 131072,())
 (b->pO7 c/\HE e 131072/\HE f 131072/\QW i s/\A6 a (len g)/\a<len g,b,(set g (toNat a) (AK i s),wrap .i64 (a+1),()))
def V1 y x:=(rI y x).1
def bV y x:=(rI y x).2.1
def JO y x:=(rI y x).2.2
def Ph (y:Zq)(x:Zj):(List A0):=
 x.1
def oQ7:=li [(1,vI),(2,Cb),(11,vI)] [(5,Dr),(12,vI)] bV JO V1 (λy x=>[ex 2 none [(5,Dr)] ((Ph y x),())]) [[(5,Dr)]]
def mE9 (d:A0)(e:Int):Prop×(List A0):=
 let b:=replicate (toNat (16:Int)) A1
 let a:=(e,d,len b,())
 let c:=(b,(0:Int),())
 ((0<=(16:Int)/\(16:Int)<=(16:Int)/\(16:Int)<=4294967296)/\AB (bV a) (JO a) (V1 a) c,Ph a (A3 (bV a) (JO a) c))
def sR1 a b:=(mE9 a b).1
def BW a b:=(mE9 a b).2
theorem pO8:SK 276 (BC Au vI Ec sR1 BW):=fb Tryz.func276 37 [kb QJ,kb rO0,kb lC2] [(3,oQ7)] [(3,[(4,0,9,1005)]),(17,[(4,0,1005,0)])] true [] [9]
def rI0 (f:(Int×Int×Int×(List (List A0))×Int×Unit))(g:List A0):Prop×(Unit)×((Int×Int×Int×(List (List A0))×Int×Unit)×Unit):=
 let e:=DT g
 let a:=e==0
 let b:Bool:=e<0
 let d:=cond b (oD2 g).1 g
 let c:=([d]:List (List A0))
 let s:=(cond a f.1 f.1,cond a f.2.1 f.2.1,cond a f.2.2.1 f.2.2.1,cond a f.2.2.2.1 (f.2.2.2.1++c),cond a f.2.2.2.2.1 (wrap .i64 (f.2.2.2.2.1+len d)),())
 (pO5 g/\(!a->(b->pO6 g/\0<length g/\length g=length g/\length g=length g/\length g=length g)/\((length f.2.2.2.1+length c:Nat):Int)<=4294967296),(),(s,()))
def wG5 a b:=(rI0 a b).1
def lC3 a b:=(rI0 a b).2.1
def CF a b:=(rI0 a b).2.2
theorem tQ6:SK 240 (fnSpec [(0,Ac),(1,(.own AL 400100 true))] (.tup .nl) [(0,Ac)] (λx=>wG5 x.1 x.2.1) (λx=>lC3 x.1 x.2.1) (λx=>CF x.1 x.2.1)):=fx (λc=>{ c with wants:=[(278,[0])] }) Tryz.func240 32 [kb lB5,kb lB9] [] [(8,[(1,1,0,0)]),(9,[(4,0,20,400000)])] true [0]
def rI1 (o:(Int×Int×Int×(List (List A0))×Int×Unit))(p:A0):Prop×(Unit)×((Int×Int×Int×(List (List A0))×Int×Unit)×Unit):=
 let d:=o.2.2.1==1
 let l:=BW p o.1
 let f:=o
 let a:=CF f l
 let e:=o.2.2.1==2
 let b:=f138 o.1 2
 let g:=(wrap .i64 (sub 0 b),wrap .i64 (sub 0 b),())
 let h:=(b,wrap .i64 (sub 0 b),())
 let i:=(b,b,())
 let j:=(wrap .i64 (sub 0 b),b,())
 let m:=([AK p g,AK p h,AK p i,AK p j]:List A0)
 let k:=o
 let c:=CF k m
 let n:=(cond d a.1.1 (cond e c.1.1 o.1),cond d a.1.2.1 (cond e c.1.2.1 o.2.1),cond d a.1.2.2.1 (cond e c.1.2.2.1 o.2.2.1),cond d a.1.2.2.2.1 (cond e c.1.2.2.2.1 o.2.2.2.1),cond d a.1.2.2.2.2.1 (cond e c.1.2.2.2.2.1 o.2.2.2.2.1),())
 ((d->sR1 p o.1/\wG5 f l)/\(d=false->e->HE o.1 2/\QW p g/\QW p h/\QW p i/\QW p j/\wG5 k m),(),(n,()))
def sR2 a b:=(rI1 a b).1
def lC4 a b:=(rI1 a b).2.1
def YI a b:=(rI1 a b).2.2
theorem oQ8:SK 239 (fnSpec [(0,Ac),(1,Au)] (.tup .nl) [(0,Ac)] (λx=>sR2 x.1 x.2.1) (λx=>lC4 x.1 x.2.1) (λx=>YI x.1 x.2.1)):=fx (λc=>{ c with wants:=[(240,[1])] }) Tryz.func239 53 [kb QJ,kb tQ6,kb rO0,kb pO8] [] [] true [0] [51]
def rI2 (p:(Int×Int×Int×(List (List A0))×Int×Unit))(D G:DA):Prop×(Unit)×((Int×Int×Int×(List (List A0))×Int×Unit)×Unit):=
 let e:=p.2.1==1
 let C:=BW G.1 p.1
 let v:=p
 let f:=CF v C
 let E:=([G.1,AK G.1 D.2.2.2.1,AK G.1 G.2.2.2.1]:List A0)
 let z:=p
 let g:=CF z E
 let F:=([G.1,AO G.1 D.2.2.2.1,AO G.1 G.2.2.2.1]:List A0)
 let A:=(g.1.1,g.1.2.1,g.1.2.2.1,g.1.2.2.2.1,g.1.2.2.2.2.1,())
 let a:=CF A F
 let H:=wrap .i64 (wrap .i64 (D.2.2.1.1*G.2.2.1.2.1)-(wrap .i64 (D.2.2.1.2.1*G.2.2.1.1)))
 let u:=wrap .i64 (a.1.1*a.1.1)
 let l:=wrap .i64 (u+wrap .i64 (4*wrap .i64 (wrap .i64 (D.2.2.2.1.1*G.2.2.2.1.1)+wrap .i64 (D.2.2.2.1.2.1*G.2.2.2.1.2.1))))
 let i:=cond (cond (a.1.2.1==2) true (H==0)) true (l<=0)
 let o:=wrap .i64 (u*wrap .i64 (D.2.2.2.1.1+G.2.2.2.1.1))
 let j:=f138 o l
 let q:=wrap .i64 (u*wrap .i64 (D.2.2.2.1.2.1+G.2.2.2.1.2.1))
 let k:=f138 q l
 let m:=(j,k,())
 let r:Bool:=f279 j k>wrap .i64 (4*a.1.1)
 let b:Bool:=H>0
 let s:=([G.1,AO G.1 D.2.2.2.1,AO G.1 m,AO G.1 G.2.2.2.1]:List A0)
 let B:=(a.1.1,a.1.2.1,a.1.2.2.1,a.1.2.2.2.1,a.1.2.2.2.2.1,())
 let c:=CF B s
 let t:=([G.1,AK G.1 D.2.2.2.1,AK G.1 m,AK G.1 G.2.2.2.1]:List A0)
 let n:=(a.1.1,a.1.2.1,a.1.2.2.1,a.1.2.2.2.1,a.1.2.2.2.2.1,())
 let d:=CF n t
 let h:=e||((!e)&&(i||((!i)&&r)))
 let w:=(cond h (cond e f.1.1 a.1.1) (cond b c.1.1 d.1.1),cond h (cond e f.1.2.1 a.1.2.1) (cond b c.1.2.1 d.1.2.1),cond h (cond e f.1.2.2.1 a.1.2.2.1) (cond b c.1.2.2.1 d.1.2.2.1),cond h (cond e f.1.2.2.2.1 a.1.2.2.2.1) (cond b c.1.2.2.2.1 d.1.2.2.2.1),cond h (cond e f.1.2.2.2.2.1 a.1.2.2.2.2.1) (cond b c.1.2.2.2.2.1 d.1.2.2.2.2.1),())
 ((e->sR1 G.1 p.1/\wG5 v C)/\(!e->QW G.1 D.2.2.2.1/\QW G.1 G.2.2.2.1/\wG5 z E/\Sa G.1 D.2.2.2.1/\Sa G.1 G.2.2.2.1/\wG5 A F/\(!i->HE o l/\HE q l/\qQ5 j k/\(!r->(b->Sa G.1 D.2.2.2.1/\Sa G.1 m/\Sa G.1 G.2.2.2.1/\wG5 B s)/\(b=false->QW G.1 D.2.2.2.1/\QW G.1 m/\QW G.1 G.2.2.2.1/\wG5 n t)))),(),(w,()))
def V3 a b c:=(rI2 a b c).1
def lC5 a b c:=(rI2 a b c).2.1
def wN a b c:=(rI2 a b c).2.2
theorem oQ9:SK 243 (fnSpec [(0,Ac),(1,Dt),(2,Dt)] (.tup .nl) [(0,Ac)] (λx=>V3 x.1 x.2.1 x.2.2.1) (λx=>lC5 x.1 x.2.1 x.2.2.1) (λx=>wN x.1 x.2.1 x.2.2.1)):=fx (λc=>{ c with wants:=[(240,[1])] }) Tryz.func243 161 [kb QJ,kb tQ6,kb rO0,kb qQ3,kb pO8,kb nF2] [] [] true [0] [40,50,146,159]
def sE (p:(Int×Int×Int×(List (List A0))×Int×Unit))(s t:DA):Prop×(Unit)×((Int×Int×Int×(List (List A0))×Int×Unit)×Unit):=
 let e:=p.2.2.1==1
 let m:=BW s.1 p.1
 let i:=p
 let a:=CF i m
 let n:=BW t.2.1 a.1.1
 let j:=(a.1.1,a.1.2.1,a.1.2.2.1,a.1.2.2.2.1,a.1.2.2.2.2.1,())
 let b:=CF j n
 let f:=p.2.2.1==2
 let g:=AO s.1 s.2.2.2.2.1
 let o:=([AK g s.2.2.2.1,AK s.1 s.2.2.2.1,AO s.1 s.2.2.2.1,AO g s.2.2.2.1]:List A0)
 let k:=p
 let c:=CF k o
 let h:=AK t.2.1 t.2.2.2.2.1
 let q:=([AK t.2.1 t.2.2.2.1,AK h t.2.2.2.1,AO h t.2.2.2.1,AO t.2.1 t.2.2.2.1]:List A0)
 let l:=(c.1.1,c.1.2.1,c.1.2.2.1,c.1.2.2.2.1,c.1.2.2.2.2.1,())
 let d:=CF l q
 let r:=(cond e b.1.1 (cond f d.1.1 p.1),cond e b.1.2.1 (cond f d.1.2.1 p.2.1),cond e b.1.2.2.1 (cond f d.1.2.2.1 p.2.2.1),cond e b.1.2.2.2.1 (cond f d.1.2.2.2.1 p.2.2.2.1),cond e b.1.2.2.2.2.1 (cond f d.1.2.2.2.2.1 p.2.2.2.2.1),())
 ((e->sR1 s.1 p.1/\wG5 i m/\sR1 t.2.1 a.1.1/\wG5 j n)/\(e=false->f->Sa s.1 s.2.2.2.2.1/\QW g s.2.2.2.1/\QW s.1 s.2.2.2.1/\Sa s.1 s.2.2.2.1/\Sa g s.2.2.2.1/\wG5 k o/\QW t.2.1 t.2.2.2.2.1/\QW t.2.1 t.2.2.2.1/\QW h t.2.2.2.1/\Sa h t.2.2.2.1/\Sa t.2.1 t.2.2.2.1/\wG5 l q),(),(r,()))
def VS a b c:=(sE a b c).1
def lC6 a b c:=(sE a b c).2.1
def vP6 a b c:=(sE a b c).2.2
theorem oR:SK 244 (fnSpec [(0,Ac),(1,Dt),(2,Dt)] (.tup .nl) [(0,Ac)] (λx=>VS x.1 x.2.1 x.2.2.1) (λx=>lC6 x.1 x.2.1 x.2.2.1) (λx=>vP6 x.1 x.2.1 x.2.2.1)):=fx (λc=>{ c with wants:=[(240,[1])] }) Tryz.func244 85 [kb tQ6,kb rO0,kb qQ3,kb pO8] [] [] true [0] [57,83]
abbrev bC:Type:=(Bool×(List DA)×(List DA)×Int×Unit)
abbrev Po:Type:=((Int×Int×Int×(List (List A0))×Int×Unit)×Int×Unit)
def tY3 (y:bC)(x:Po):Vn Po:=
 let e:=y.2.2.1
 let d:=x.1
 let c:=x.2.1
 let g:Bool:=c<y.2.2.2.1
 let a:=nth e c C2
 let h:=([AK a.1 a.2.2.2.1,AK a.2.1 a.2.2.2.1,AO a.2.1 a.2.2.2.1,AO a.1 a.2.2.2.1]:List A0)
 let f:=d
 let b:=CF f h
 (g->A6 c (len e)/\QW a.1 a.2.2.2.1/\QW a.2.1 a.2.2.2.1/\Sa a.2.1 a.2.2.2.1/\Sa a.1 a.2.2.2.1/\wG5 f h/\A5 (c+1),g,((b.1.1,b.1.2.1,b.1.2.2.1,b.1.2.2.2.1,b.1.2.2.2.2.1,()),c+1,()))
def vT4 y x:=(tY3 y x).1
def Lf y x:=(tY3 y x).2.1
def CY y x:=(tY3 y x).2.2
def uB2 (y:bC)(x:Po):(Int×Int×Int×(List (List A0))×Int×Unit):=
 let a:=x.1
 a
def sE0:List (Nat×Sh):=[(0,Ac),(2,vB),(7,Bx)]
def qQ7:=li [(2,vB),(7,Bx),(32,Bx),(33,vI)] [(0,Ac),(34,vI)] Lf CY vT4 (λy x=>[ex 2 none sE0 ((uB2 y x),y.1,y.2.1,())]) [sE0]
abbrev YK:Type:=(Bool×(List DA)×Unit)
def Zs (y:YK)(x:Po):Vn Po:=
 let d:=y.2.1
 let c:=x.1
 let b:=x.2.1
 let f:Bool:=b<len d
 let g:=b-1
 let h:=nth d g C2
 let i:=nth d b C2
 let e:=c
 let a:=wN e h i
 (f->A5 (b-1)/\A6 g (len d)/\A6 b (len d)/\V3 e h i/\A5 (b+1),f,((a.1.1,a.1.2.1,a.1.2.2.1,a.1.2.2.2.1,a.1.2.2.2.2.1,()),b+1,()))
def vO y x:=(Zs y x).1
def EW y x:=(Zs y x).2.1
def JK y x:=(Zs y x).2.2
def vS9 (y:YK)(x:Po):(Int×Int×Int×(List (List A0))×Int×Unit):=
 let a:=x.1
 a
def tW:List (Nat×Sh):=[(0,Ac),(2,vB),(7,Bx)]
def qD3:=li [(2,vB),(7,Bx)] [(0,Ac),(10,vI)] EW JK vO (λy x=>[ex 4 none tW ((vS9 y x),y.1,y.2.1,())]) [tW]
def MK (p:(Int×Int×Int×(List (List A0))×Int×Unit))(D:List A0)(G:Bool):Prop×(Unit)×((Int×Int×Int×(List (List A0))×Int×Unit)×Unit):=
 let k:=CR D G
 let c:=BG k G p.1
 let g:=len c==0
 let h:=len k==1
 let s:=nth k 0 A1
 let o:=p
 let e:=YI o s
 let n:=(G,c,c,len c,())
 let F:=(p,(0:Int),())
 let b:=uB2 n (A3 (Lf n) (CY n) F)
 let i:=!G
 let t:=len c
 let u:=t-1
 let v:=nth c u C2
 let w:=nth c 0 C2
 let q:=b
 let f:=wN q v w
 let C:=(cond i f.1.1 b.1,cond i f.1.2.1 b.2.1,cond i f.1.2.2.1 b.2.2.1,cond i f.1.2.2.2.1 b.2.2.2.1,cond i f.1.2.2.2.2.1 b.2.2.2.2.1,())
 let j:=(G,c,())
 let B:=(C,(1:Int),())
 let a:=vS9 j (A3 (EW j) (JK j) B)
 let z:=nth c 0 C2
 let A:=len c
 let l:=A-1
 let m:=nth c l C2
 let r:=a
 let d:=vP6 r z m
 let E:=(cond g (cond h e.1.1 p.1) (cond G d.1.1 a.1),cond g (cond h e.1.2.1 p.2.1) (cond G d.1.2.1 a.2.1),cond g (cond h e.1.2.2.1 p.2.2.1) (cond G d.1.2.2.1 a.2.2.1),cond g (cond h e.1.2.2.2.1 p.2.2.2.1) (cond G d.1.2.2.2.1 a.2.2.2.1),cond g (cond h e.1.2.2.2.2.1 p.2.2.2.2.1) (cond G d.1.2.2.2.2.1 a.2.2.2.2.1),())
 (pO3 D G/\pO4 k G p.1/\(g->h->A6 0 (len k)/\sR2 o s)/\(!g->AB (Lf n) (CY n) (vT4 n) F/\(i->A5 (t-1)/\A6 u (len c)/\A6 0 (len c)/\V3 q v w)/\AB (EW j) (JK j) (vO j) B/\(G->A6 0 (len c)/\A5 (A-1)/\A6 l (len c)/\VS r z m)),(),(E,()))
def uP a b c:=(MK a b c).1
def lC7 a b c:=(MK a b c).2.1
def Uq a b c:=(MK a b c).2.2
theorem oR0:SK 211 (fnSpec [(0,Ac),(1,Bc),(2,vB)] (.tup .nl) [(0,Ac)] (λx=>uP x.1 x.2.1 x.2.2.1) (λx=>lC7 x.1 x.2.1 x.2.2.1) (λx=>Uq x.1 x.2.1 x.2.2.1)):=fx (λc=>{ c with wants:=[(239,[]),(240,[1]),(243,[]),(244,[])] }) Tryz.func211 104 [kb lA8,kb lB4,kb oQ8,kb tQ6,kb rO0,kb qQ3,kb oQ9,kb oR] [(6,qQ7),(13,qD3)] [(3,[(4,0,20,1007)])] false [0] [59]
abbrev MA:Type:=((List Bool)×Unit×(List (List A0))×Int×Unit)
def QV (y:MA)(x:Po):Vm Po:=
 let j:=y.1
 let f:=y.2.2.1
 let c:=x.1
 let b:=x.2.1
 let d:Bool:=b<y.2.2.2.1
 let h:=nth f b []
 let i:=nth j b false
 let g:=c
 let a:=Uq g h i
 let e:Bool:=a.1.2.2.2.2.1>4096
 (d->A6 b (len f)/\A6 b (len j)/\uP g h i/\(!e->A5 (b+1)),d&&(!e),((a.1.1,a.1.2.1,a.1.2.2.1,a.1.2.2.2.1,a.1.2.2.2.2.1,()),b+1,()),d&&e,!d)
def vK y x:=(QV y x).1
def FH y x:=(QV y x).2.1
def wG y x:=(QV y x).2.2.1
def Sq y x:=(QV y x).2.2.2.1
def pO9 y x:=(QV y x).2.2.2.2
def uU0 (y:MA)(x:Po):(List (List A0)):=
 []
def sE2 (y:MA)(x:Po):Int:=
 3
def rO1:List (Nat×Sh):=[(10,Az),(11,vI)]
def uU1 (y:MA)(x:Po):(Int×Int×Int×(List (List A0))×Int×Unit):=
 let a:=x.1
 a
def rO2:List (Nat×Sh):=[(14,(.ref 38 ID)),(38,Bp)]
def pP:=li [(1,Ee),(14,(.ref 38 ID)),(39,Al),(40,vI)] [(38,Bp),(41,vI)] FH wG vK (λy x=>[ex 1 (some (Sq y x)) rO1 ((uU0 y x),(sE2 y x),()),ex 2 (some (pO9 y x)) rO2 (y.2.1,(uU1 y x),())]) [rO1,rO2]
def lC8 (j:(List (List A0)))(k:List Bool)(l m n:Int):Prop×((List (List A0))×Int×Unit):=
 let g:=FU l m n
 let d:=g !=0
 let h:=Ei j 0
 let e:=h !=0
 let f:=len k !=len j
 let a:=(k,(),j,len j,())
 let i:=((l,m,n,([]:List (List A0)),(0:Int),()),(0:Int),())
 let c:=A3 (FH a) (wG a) i
 let b:=Sq a c
 (pO2 l m n/\(!d->tY1 j 0/\(!e->!f->AB (FH a) (wG a) (vK a) i)),(cond d [] (cond e [] (cond f [] (cond b (uU0 a c) (uU1 a c).2.2.2.1))),cond d g (cond e h (cond f 15 (cond b (sE2 a c) 0))),()))
def pP0 a b c d e:=(lC8 a b c d e).1
def FV a b c d e:=(lC8 a b c d e).2
theorem lC9:SK 173 (sp5 Al Ee vI vI vI (.tup (.cons Az (.cons vI .nl))) pP0 FV):=fx (λc=>{ c with wants:=[(211,[])] }) Tryz.func173 63 [kb pO1,kb lA7,kb oR0] [(11,pP)] [(35,[(4,0,403800,0)])]
def kE7 (p:AD):Prop×Int:=
 let a:=BP (Q8 p).1 (Q3 p).1
 let i:=a.2.1 !=0
 let j:=cond ((Qi p).1 !=0) ((Qi p).1 !=1) false
 let k:=cond ((Qd p).1==0) (cond ((Qg p).1 !=0) true ((Qh p).1 !=0)) false
 let b:=BK a.1
 let l:=b.2.1 !=0
 let c:=(Qd p).1 !=0
 let e:=EK a.1
 let d:=e.2.1 !=0
 let g:=FV b.1 e.1 (Qd p).1 (Qg p).1 (Qh p).1
 let m:=g.2.1 !=0
 let f:=cond c g.1 b.1
 let q:=cond c 0 (Qi p).1
 let n:=Ei f q
 let o:=n !=0
 let h:=cond k 1 (cond l b.2.1 (cond ((d||((!d)&&m))&&c) (cond d e.2.1 g.2.1) (cond o n (H8 (Q9 p).1))))
 (pN7 (Q8 p).1 (Q3 p).1/\(!i->!j->!k->rN6 a.1/\(!l->(c->pN8 a.1/\(!d->pP0 b.1 e.1 (Qd p).1 (Qg p).1 (Qh p).1))/\((cond c ((!d)&&(!m)) true)=true->tY1 f q/\(!o->UQ (Q9 p).1)))),cond i a.2.1 (cond j 8 h))
def pP1 a:=(kE7 a).1
def KI a:=(kE7 a).2
theorem lD:SK 142 (AR Bg vI pP1 KI):=fb Tryz.func142 87 [kb pN0,kb lA1,kb nE6,kb lA5,kb lC9,kb pO1] [] [(17,[(4,0,44,1005)]),(27,[(4,0,57,1007)]),(33,[(5,0,1005,0),(4,0,72,1005)])]
def rH1 (a b c:Int):Prop×Bool:=
 (True,cond (a≥b) (decide (a<=c)) false)
def uO0 a b c:=(rH1 a b c).1
def BM a b c:=(rH1 a b c).2
theorem pP2:SK 246 (DZ vI vI vI vB uO0 BM):=fb Tryz.func246 15
abbrev Uz:Type:=((List A8)×Int×Int×(List A0)×Unit)
def Zk (y:Uz)(x:CW):Vm CW:=
 let a:=x.1
 let b:Bool:=a<3
 let c:=nth y.2.2.2.1 a A1
 let e:=!(BM c.1 (-65536:Int) 65536)
 let d:=cond e true (!(BM c.2.1 (-65536:Int) 65536))
 (b->A6 a 3/\uO0 c.1 (-65536:Int) 65536/\(!e->uO0 c.2.1 (-65536:Int) 65536)/\(!d->A5 (a+1)),b&&(!d),(a+1,()),b&&d,!b)
def rO3 y x:=(Zk y x).1
def U5 y x:=(Zk y x).2.1
def wW2 y x:=(Zk y x).2.2.1
def tY4 y x:=(Zk y x).2.2.2.1
def tY5 y x:=(Zk y x).2.2.2.2
def sE3 (y:Uz)(x:CW):Int:=
 2
def rO4:List (Nat×Sh):=[(19,Ak),(20,vI),(21,vI)]
def pP3:=li [(19,Ak),(20,vI),(21,vI),(26,(.val (.arr 3 AL)))] [(27,vI)] U5 wW2 rO3 (λy x=>[ex 1 (some (tY4 y x)) [(2,vI)] ((sE3 y x),()),ex 4 (some (tY5 y x)) rO4 (y.1,y.2.1,y.2.2.1,())]) [[(2,vI)],rO4]
def uK7 (y:OK)(x:CW):Vm CW:=
 let e:=y.1
 let f:=y.2.1
 let b:=x.1
 let d:Bool:=b<f
 let a:=(e,f,b,(nth e b Z116).2.1,())
 let h:=((0:Int),())
 let g:=A3 (U5 a) (wW2 a) h
 let c:=tY5 a g
 (d->A6 b (len e)/\AB (U5 a) (wW2 a) (rO3 a) h/\(c->A5 (b+1)),d&&c,(b+1,()),d&&tY4 a g,!d)
def qF8 y x:=(uK7 y x).1
def wZ y x:=(uK7 y x).2.1
def Pu y x:=(uK7 y x).2.2.1
def UD y x:=(uK7 y x).2.2.2.1
def oR1 y x:=(uK7 y x).2.2.2.2
def rA3 (y:OK)(x:CW):Int:=
 let b:=y.1
 let c:=x.1
 let a:=(b,y.2.1,c,(nth b c Z116).2.1,())
 (sE3 a (A3 (U5 a) (wW2 a) (0,())))
def oR2:=li [(19,Ak),(20,vI)] [(21,vI)] wZ Pu qF8 (λy x=>[ex 1 (some (UD y x)) [(2,vI)] ((rA3 y x),()),ex 2 (some (oR1 y x)) [] ()]) [[(2,vI)],[]]
def kE8 (g:CD):Prop×Int:=
 let b:=!(BM g.2.1 0 65536)
 let c:=BJ g.2.2.1
 let d:=c !=0
 let a:=(g.2.2.1,len g.2.2.1,())
 let f:=((0:Int),())
 let e:=A3 (wZ a) (Pu a) f
 (uO0 g.2.1 0 65536/\(!b->RU g.2.2.1/\(!d->AB (wZ a) (Pu a) (qF8 a) f)),cond b 2 (cond d c (cond (UD a e) (rA3 a e) 0)))
def pP4 a:=(kE8 a).1
def FW a:=(kE8 a).2
theorem lD0:SK 280 (AR (.val Hz) vI pP4 FW):=fb Tryz.func280 42 [kb qP7,kb pP2] [(7,oR2),(10,pP3)]
def lD1 (a b:DJ):Prop×Bool:=
 (True,cond (a.1>b.1) true (cond (a.1==b.1) (decide (a.2.1>b.2.1)) false))
def nF4 a b:=(lD1 a b).1
def IK a b:=(lD1 a b).2
theorem lD2:SK 281 (BC (.val H2) (.val H2) vB nF4 IK):=fb Tryz.func281 24
abbrev uB5:Type:=(A7×(List CD)×Int×Unit)
def uK8 (y:uB5)(x:CW):Vm CW:=
 let j:=y.1
 let f:=y.2.1
 let a:=x.1
 let b:Bool:=a<y.2.2.1
 let d:=nth f a BI
 let e:Bool:=a>0
 let h:=a-1
 let c:=cond e (decide (d.1<=(nth j.2.2.2.1 h BI).1)) false
 let i:=FW d !=0
 let g:=(!c)&&(!i)
 (b->A6 a (len f)/\(e->A5 (a-1))/\(e->A6 h (len j.2.2.2.1))/\(!c->pP4 d)/\(g->A5 (a+1)),b&&g,(a+1,()),b&&(c||((!c)&&i)),!b)
def VB y x:=(uK8 y x).1
def UF y x:=(uK8 y x).2.1
def uK9 y x:=(uK8 y x).2.2.1
def tQ8 y x:=(uK8 y x).2.2.2.1
def qG y x:=(uK8 y x).2.2.2.2
def Zt (y:uB5)(x:CW):Int:=
 let a:=x.1
 let b:=nth y.2.1 a BI
 (cond (cond (a>0) (decide (b.1<=(nth y.1.2.2.2.1 (a-1) BI).1)) false) 24 (FW b))
def oR3:=li [(1,Aj),(35,(.val Dn)),(36,vI)] [(37,vI)] UF uK9 VB (λy x=>[ex 1 (some (tQ8 y x)) [(2,vI)] ((Zt y x),()),ex 2 (some (qG y x)) [(1,Aj)] (y.1,())]) [[(2,vI)],[(1,Aj)]]
abbrev U6:Type:=(A7×(List DJ)×Int×Unit)
def bG (y:U6)(x:CW):Vm CW:=
 let k:=y.1
 let f:=y.2.1
 let a:=x.1
 let b:Bool:=a<y.2.2.1
 let c:=nth f a BX
 let d:Bool:=a>0
 let h:=a-1
 let i:=nth k.2.2.2.2.1 h BX
 let e:=cond d (!(IK c i)) false
 let j:=!(BM c.2.2.1 (-65536:Int) 65536)
 let g:=(!e)&&(!j)
 (b->A6 a (len f)/\(d->A5 (a-1))/\(d->A6 h (len k.2.2.2.2.1))/\(d->nF4 c i)/\(!e->uO0 c.2.2.1 (-65536:Int) 65536)/\(g->A5 (a+1)),b&&g,(a+1,()),b&&(e||((!e)&&j)),!b)
def rO5 y x:=(bG y x).1
def VH y x:=(bG y x).2.1
def vT5 y x:=(bG y x).2.2.1
def uU2 y x:=(bG y x).2.2.2.1
def pP5 y x:=(bG y x).2.2.2.2
def vT6 (y:U6)(x:CW):Int:=
 let a:=x.1
 (cond (cond (a>0) (!(IK (nth y.2.1 a BX) (nth y.1.2.2.2.2.1 (a-1) BX))) false) (24:Int) 2)
def pP6:=li [(1,Aj),(63,(.val Ea)),(64,vI)] [(65,vI)] VH vT5 rO5 (λy x=>[ex 1 (some (uU2 y x)) [(2,vI)] ((vT6 y x),()),ex 4 (some (pP5 y x)) [] ()]) [[(2,vI)],[]]
def kE9 (k:A7):Prop×Int:=
 let d:=!(BM k.1 1 65536)
 let e:=cond d true (!(BM k.2.1 0 65536))
 let f:=cond e true (!(BM k.2.2.1 0 65536))
 let g:=cond (len k.2.2.2.1>256) true (len k.2.2.2.2.1>256)
 let b:=(k,k.2.2.2.1,len k.2.2.2.1,())
 let j:=((0:Int),())
 let i:=A3 (UF b) (uK9 b) j
 let a:=(k,k.2.2.2.2.1,len k.2.2.2.2.1,())
 let h:=((0:Int),())
 let c:=A3 (VH a) (vT5 a) h
 (uO0 k.1 1 65536/\(!d->uO0 k.2.1 0 65536)/\(!e->uO0 k.2.2.1 0 65536)/\(!f->!g->AB (UF b) (uK9 b) (VB b) j/\(qG b i->AB (VH a) (vT5 a) (rO5 a) h)),cond f 2 (cond g 3 (cond (tQ8 b i) (Zt b i) (cond (uU2 a c) (vT6 a c) 0))))
def qQ8 a:=(kE9 a).1
def CU a:=(kE9 a).2
theorem lD3:SK 245 (AR Bo vI qQ8 CU):=fb Tryz.func245 88 [kb pP2,kb lD0,kb lD2] [(6,oR3),(15,pP6)]
abbrev QX:Type:=((List UInt8)×Int×Int×Int×Unit)
def uL (y:QX)(x:CW):Vm CW:=
 let d:=y.1
 let a:=x.1
 let b:Bool:=a<y.2.2.2.1
 let e:Bool:=BU d a<32
 let f:=cond e true (BU d a>126)
 let c:=cond f (BU d a !=10) false
 (b->A6 a (len d)/\(!e->A6 a (len d))/\(f->A6 a (len d))/\(!c->A5 (a+1)),b&&(!c),(a+1,()),b&&c,!b)
def qG0 y x:=(uL y x).1
def YO y x:=(uL y x).2.1
def bM y x:=(uL y x).2.2.1
def VW y x:=(uL y x).2.2.2.1
def qG1 y x:=(uL y x).2.2.2.2
def rA4 (y:QX)(x:CW):Int:=
 4
def oR4:=li [(1,vS),(2,vI),(3,vI),(17,vI)] [(18,vI)] YO bM qG0 (λy x=>[ex 1 (some (VW y x)) [(8,vI)] ((rA4 y x),()),ex 2 (some (qG1 y x)) [(1,vS),(2,vI),(3,vI)] (y.1,y.2.1,y.2.2.1,())]) [[(8,vI)],[(1,vS),(2,vI),(3,vI)]]
def lD4 (i:A7)(j:List UInt8)(k l:Int):Prop×Int:=
 let c:=CU i
 let d:=c !=0
 let a:=(j,k,l,len j,())
 let h:=((0:Int),())
 let g:=A3 (YO a) (bM a) h
 let e:Bool:=len j>128
 let f:=!(BM k 1 1048576)
 let b:=cond d c (cond (VW a g) (rA4 a g) (cond e 3 (cond (cond f true (!(BM l 0 1048576))) 2 0)))
 (qQ8 i/\(!d->AB (YO a) (bM a) (qG0 a) h/\(qG1 a g->!e->uO0 k 1 1048576/\(!f->uO0 l 0 1048576))),b)
def qQ9 a b c d:=(lD4 a b c d).1
def KJ a b c d:=(lD4 a b c d).2
theorem lD5:SK 212 (H4 Bo vS vI vI vI qQ9 KJ):=fb Tryz.func212 49 [kb lD3,kb pP2] [(5,oR4)]
abbrev Zw:Type:=(A7×Unit×(A7×(List Int)×Unit)×(List CD)×Int×Unit)
def qR (y:Zw)(x:Y0):Vn Y0:=
 let b:=y.2.2.2.1
 let a:=x.2.1
 let c:Bool:=a<y.2.2.2.2.1
 (c->A6 a (len b)/\A5 (a+1),c,(cond ((nth b a BI).1==63) a x.1,a+1,()))
def qG2 y x:=(qR y x).1
def ZR y x:=(qR y x).2.1
def vQ y x:=(qR y x).2.2
def KP (y:Zw)(x:Y0):Int:=
 x.1
def qG3:List (Nat×Sh):=[(1,Aj),(3,Cv),(4,vI),(12,Ap)]
def oR5:=li [(1,Aj),(3,Cv),(12,Ap),(14,(.val Dn)),(15,vI)] [(4,vI),(16,vI)] ZR vQ qG2 (λy x=>[ex 2 none qG3 (y.1,y.2.1,(KP y x),y.2.2.1,())]) [qG3]
abbrev V6:Type:=(A7×Unit×Int×Unit)
abbrev UA:Type:=((A7×(List Int)×Unit)×Int×Unit)
def Rs (y:V6)(x:UA):Vn UA:=
 let b:=x.1
 let a:=x.2.1
 let c:Bool:=a<256
 (c->A6 a 256/\A5 (a+1),c,((b.1,set b.2.1 (toNat a) y.2.2.1,()),a+1,()))
def rO7 y x:=(Rs y x).1
def VD y x:=(Rs y x).2.1
def vE9 y x:=(Rs y x).2.2
def uU3 (y:V6)(x:UA):(A7×(List Int)×Unit):=
 let a:=x.1
 (a.1,a.2.1,())
def rO8:List (Nat×Sh):=[(1,Aj),(3,Cv),(12,Ap)]
def pP7:=li [(1,Aj),(3,Cv),(4,vI)] [(12,Ap),(26,vI)] VD vE9 rO7 (λy x=>[ex 4 none rO8 (y.1,y.2.1,(uU3 y x),())]) [rO8]
abbrev bB:Type:=(Unit×(List CD)×Int×Unit)
def rO9 (y:bB)(x:UA):Vn UA:=
 let c:=y.2.1
 let b:=x.1
 let a:=x.2.1
 let d:Bool:=a<y.2.2.1
 let e:=nth c a BI
 (d->A6 a (len c)/\A6 e.1 256/\A5 (a+1),d,((b.1,set b.2.1 (toNat e.1) a,()),a+1,()))
def rP y x:=(rO9 y x).1
def VP y x:=(rO9 y x).2.1
def vF y x:=(rO9 y x).2.2
def uU4 (y:bB)(x:UA):(A7×(List Int)×Unit):=
 let a:=x.1
 (a.1,a.2.1,())
def Rx:List (Nat×Sh):=[(3,Cv),(12,Ap)]
def pP8:=li [(3,Cv),(37,(.val Dn)),(38,vI)] [(12,Ap),(39,vI)] VP vF rP (λy x=>[ex 6 none Rx (y.1,(uU4 y x),())]) [Rx]
def lD6 (i:A7):Prop×AW:=
 let e:=(i,(),(i,replicate 256 (0:Int),()),i.2.2.2.1,len i.2.2.2.1,())
 let h:=((-1:Int),(0:Int),())
 let c:=(i,(),KP e (A3 (ZR e) (vQ e) h),())
 let f:=((i,replicate 256 (0:Int),()),(0:Int),())
 let a:=uU3 c (A3 (VD c) (vE9 c) f)
 let d:=((),i.2.2.2.1,len i.2.2.2.1,())
 let g:=((a.1,a.2.1,()),(0:Int),())
 let b:=uU4 d (A3 (VP d) (vF d) g)
 (AB (ZR e) (vQ e) (qG2 e) h/\AB (VD c) (vE9 c) (rO7 c) f/\AB (VP d) (vF d) (rP d) g,(b.1,b.2.1,()))
def rP1 a:=(lD6 a).1
def BD a:=(lD6 a).2
theorem lD7:SK 213 (AR Bo Bd rP1 BD):=fb Tryz.func213 53 [] [(4,oR5),(10,pP7),(15,pP8)] [(39,[(3,12,0,0)])]
end Go.Proofs.YtadggmnllfgjcaaGreatDoor.Am
