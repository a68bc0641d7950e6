/- Printed by program, part 6. No condition. -/
import Derived.Test.YtadggmnllfgjcaaGreatDoorDckP5
set_option linter.unusedVariables false
set_option synthInstance.maxSize 4000
set_option synthInstance.maxHeartbeats 400000
namespace Go.Proofs.YtadggmnllfgjcaaGreatDoor.Am
open Go Go.Am Go.Proofs
open _root_.Int (toNat)
open _root_.List (drop length set take)
def rY4 (y:uL3)(x:CW):Vm CW:=
 let f:=y.2.1
 let d:=(Q1 y).1
 let a:=x.1
 let b:Bool:=a<(Q2 y).1
 let e:=nth d a CE
 let c:=cond (e.1==f.1) true (e.2.1==f.2.1)
 (b->A6 a (len d)/\(!c->A5 (a+1)),b&&(!c),(a+1,()),b&&c,!b)
def pG0 y x:=(rY4 y x).1
def rJ6 y x:=(rY4 y x).2.1
def S8 y x:=(rY4 y x).2.2.1
def rY5 y x:=(rY4 y x).2.2.2.1
def fJ y x:=(rY4 y x).2.2.2.2
def fA (y:uL3)(x:CW):Int:=
 10
def pG2:List (Nat×Sh):=[(1,Ag),(4,Ch),(9,At),(10,vI),(11,vI)]
def nQ3:=li [(1,Ag),(4,Ch),(9,At),(10,vI),(11,vI),(53,At),(54,vI)] [(55,vI)] rJ6 S8 pG0 (λy x=>[ex 1 (some (rY5 y x)) [(2,vI)] ((fA y x),()),ex 4 (some (fJ y x)) pG2 (y.1,y.2.1,y.2.2.1,y.2.2.2.1,y.2.2.2.2.1,())]) [[(2,vI)],pG2]
def rY7 (y:uV2)(x:CW):Vm CW:=
 let l:=y.1
 let m:=y.2.1
 let h:=y.2.2.1
 let b:=x.1
 let d:Bool:=b<h
 let a:=nth m b CE
 let e:=!(f97 a.2.1)
 let n:=cond (cond (cond (cond (a.1<1) true (a.1≥l.2.2.2.2.1)) true (a.2.2.1<0)) true (a.2.2.1>2)) true (a.2.2.2.1<1)
 let f:=cond n true (a.2.2.2.1>1073741824)
 let j:=take (toNat b) (Q0 l).1
 let g:=(l,a,m,h,b,j,len j,())
 let q:=((0:Int),())
 let o:=A3 (rJ6 g) (S8 g) q
 let c:=fJ g o
 let k:=LU a.2.2.2.2.1!=0
 let i:=(!e)&&((!f)&&(c&&(!k)))
 (d->A6 b (len m)/\mS3 a.2.1/\(!e->!f->(0<=b/\b<=len (Q0 l).1)/\AB (rJ6 g) (S8 g) (pG0 g) q/\(c->qJ a.2.2.2.2.1))/\(i->A5 (b+1)),d&&i,(b+1,()),d&&(e||((!e)&&(f||((!f)&&(rY5 g o||(c&&k)))))),!d)
def rY8 y x:=(rY7 y x).1
def uN0 y x:=(rY7 y x).2.1
def vN2 y x:=(rY7 y x).2.2.1
def eZ y x:=(rY7 y x).2.2.2.1
def nQ4 y x:=(rY7 y x).2.2.2.2
def SA (y:uV2)(x:CW):Int:=
 let f:=y.1
 let h:=y.2.1
 let b:=x.1
 let a:=nth h b CE
 let g:=cond (cond (cond (cond (a.1<1) true (a.1≥f.2.2.2.2.1)) true (a.2.2.1<0)) true (a.2.2.1>2)) true (a.2.2.2.1<1)
 let d:=take (toNat b) (Q0 f).1
 let e:=(f,a,h,y.2.2.1,b,d,len d,())
 let i:=A3 (rJ6 e) (S8 e) (0,())
 let c:=cond (!(f97 a.2.1)) 13 (cond (cond g true (a.2.2.2.1>1073741824)) 2 (cond (rY5 e i) (fA e i) (LU a.2.2.2.2.1)))
 c
def nQ5:=li [(1,Ag),(9,At),(10,vI)] [(11,vI)] uN0 vN2 rY8 (λy x=>[ex 1 (some (eZ y x)) [(2,vI)] ((SA y x),()),ex 2 (some (nQ4 y x)) [] ()]) [[(2,vI)],[]]
def dE (d:AS):Prop×Int:=
 let a:=(d,(Q0 d).1,len (Q0 d).1,())
 let c:=((0:Int),())
 let b:=A3 (uN0 a) (vN2 a) c
 (AB (uN0 a) (vN2 a) (rY8 a) c,cond (eZ a b) (SA a b) 0)
def nQ6 a:=(dE a).1
def Sr a:=(dE a).2
theorem kO:SK 61 (AR Ar vI nQ6 Sr):=fb Tryz.func61 79 [kb kN9,kb mS1] [(2,nQ5),(9,nQ3)]
abbrev tA1:Type:=(Int×(List AQ)×Int×Unit)
def rY9 (y:tA1)(x:CW):Vm CW:=
 let d:=y.2.1
 let a:=x.1
 let b:Bool:=a<y.2.2.1
 let c:=(nth d a CE).1==y.1
 (b->A6 a (len d)/\(!c->A5 (a+1)),b&&(!c),(a+1,()),b&&c,!b)
def pG3 y x:=(rY9 y x).1
def ND y x:=(rY9 y x).2.1
def sB4 y x:=(rY9 y x).2.2.1
def pG4 y x:=(rY9 y x).2.2.2.1
def nQ7 y x:=(rY9 y x).2.2.2.2
def rZ (y:tA1)(x:CW):Int:=
 x.1
def nQ8:=li [(1,vI),(8,At),(9,vI)] [(10,vI)] ND sB4 pG3 (λy x=>[ex 1 (some (pG4 y x)) [(4,vI)] ((rZ y x),()),ex 2 (some (nQ7 y x)) [] ()]) [[(4,vI)],[]]
def dG (d:AS)(e:Int):Prop×Int:=
 let a:=(e,(Q0 d).1,len (Q0 d).1,())
 let c:=((0:Int),())
 let b:=A3 (ND a) (sB4 a) c
 (AB (ND a) (sB4 a) (pG3 a) c,cond (pG4 a b) (rZ a b) (-1:Int))
def nQ9 a b:=(dG a b).1
def f99 a b:=(dG a b).2
theorem kO0:SK 99 (BC Ar vI vI nQ9 f99):=fb Tryz.func99 21 [] [(2,nQ8)]
def SE (y:uU9)(x:CW):Vm CW:=
 let g:=y.1
 let m:=y.2.1
 let h:=x.1
 let b:Bool:=h<y.2.2.1
 let a:=nth m h A9
 let j:=a.2.1==9
 let c:=cond j (decide (f99 g (Qj a).1<0)) false
 let e:=a.2.1==10
 let f:=Nu g (Qj a).1
 let d:Bool:=f<0
 let k:=nth g.2.2.2.1 f A9
 let l:=!(Kb k.2.1)
 let i:=(!c)&&(cond e ((!d)&&(!l)) true)
 (b->A6 h (len m)/\(j->nQ9 g (Qj a).1)/\(!c->e->rX g (Qj a).1/\(!d->A6 f (len g.2.2.2.1)/\nP8 k.2.1))/\(i->A5 (h+1)),b&&i,(h+1,()),b&&(c||((!c)&&((d||((!d)&&l))&&e))),!b)
def fI y x:=(SE y x).1
def TH y x:=(SE y x).2.1
def vN3 y x:=(SE y x).2.2.1
def tO1 y x:=(SE y x).2.2.2.1
def nR y x:=(SE y x).2.2.2.2
def Lp (y:uU9)(x:CW):Int:=
 let c:=y.1
 let a:=nth y.2.1 x.1 A9
 let b:=cond (cond (a.2.1==9) (decide (f99 c (Qj a).1<0)) false) (9:Int) (cond (Nu c (Qj a).1<0) 9 8)
 b
def nR0:=li [(1,Ag),(7,An),(8,vI)] [(9,vI)] TH vN3 fI (λy x=>[ex 1 (some (tO1 y x)) [(2,vI)] ((Lp y x),()),ex 2 (some (nR y x)) [] ()]) [[(2,vI)],[]]
def dK (d:AS):Prop×Int:=
 let a:=(d,d.2.2.2.1,len d.2.2.2.1,())
 let c:=((0:Int),())
 let b:=A3 (TH a) (vN3 a) c
 (AB (TH a) (vN3 a) (fI a) c,cond (tO1 a b) (Lp a b) 0)
def nR1 a:=(dK a).1
def dL a:=(dK a).2
theorem kO1:SK 62 (AR Ar vI nR1 dL):=fb Tryz.func62 41 [kb oE8,kb mS2,kb kO0] [(2,nR0)]
abbrev sM5:Type:=(AS×(List Bool)×Int×AD×Int×Int×(List AD)×Int×Int×(List AD)×Int×Unit)
abbrev tA3:Type:=(Bool×Int×Unit)
def pY0 (y:sM5)(x:tA3):Vn tA3:=
 let f:=y.2.1
 let e:=y.2.2.2.1
 let b:=(Q4 y).1
 let a:=x.2.1
 let c:Bool:=a<(Q3 y).1
 let d:=nth b a A9
 let g:=cond (!(nth f a false)) (cond (cond (e.2.1==1) (d.2.2.1==e.1) false) true (cond (e.2.1==10) (d.1==(Qj e).1) false)) false
 (c->A6 a (len b)/\A6 a (len f)/\a<len f/\A5 (a+1),c,(cond g false x.1,a+1,()))
def sM6 y x:=(pY0 y x).1
def vW1 y x:=(pY0 y x).2.1
def wR5 y x:=(pY0 y x).2.2
def rZ2 (y:sM5)(x:tA3):Bool:=
 x.1
def pG5:List (Nat×Sh):=[(1,Ag),(3,Bs),(4,vI),(6,vB),(17,vI),(18,vI),(21,An),(22,vI),(23,vI)]
def nR2:=li [(1,Ag),(3,Bs),(4,vI),(5,(.box DG Bg)),(17,vI),(18,vI),(21,An),(22,vI),(23,vI),(29,An),(30,vI)] [(6,vB),(31,vI)] vW1 wR5 sM6 (λy x=>[ex 6 none pG5 (y.1,y.2.1,y.2.2.1,(rZ2 y x),y.2.2.2.2.1,(Q1 y).1,(Q2 y).1,(Q0 y).1,(Q5 y).1,())]) [pG5]
abbrev sM7:Type:=(AS×Int×Int×(List AD)×Int×Unit)
def pY1 (y:sM7)(x:Yy):Vn Yy:=
 let h:=y.1
 let c:=y.2.2.2.1
 let e:=y.2.2.2.2.1
 let f:=x.1
 let a:=x.2.1
 let g:Bool:=a<e
 let d:=(h,f,a,nth c a A9,y.2.1,y.2.2.1,c,e,a,h.2.2.2.1,len h.2.2.2.1,())
 let i:=(true,(0:Int),())
 let b:=rZ2 d (A3 (vW1 d) (wR5 d) i)
 (g->A6 a (len c)/\AB (vW1 d) (wR5 d) (sM6 d) i/\(b->A6 a (len f)/\a<len f)/\A5 (a+1),g,(cond b (set f (toNat a) true) f,a+1,()))
def sM8 y x:=(pY1 y x).1
def SG y x:=(pY1 y x).2.1
def wV3 y x:=(pY1 y x).2.2
def Lq (y:sM7)(x:Yy):(List Bool):=
 x.1
def pG6:List (Nat×Sh):=[(1,Ag),(3,Bs),(17,vI),(18,vI)]
def nR3:=li [(1,Ag),(17,vI),(18,vI),(21,An),(22,vI)] [(3,Bs),(23,vI)] SG wV3 sM8 (λy x=>[ex 4 none pG6 (y.1,(Lq y x),y.2.1,y.2.2.1,())]) [pG6]
abbrev sM9:Type:=(AS×Int×Unit)
def pY2 (y:sM9)(x:Yy):Vn Yy:=
 let e:=y.1
 let c:=y.2.1
 let a:=x.2.1
 let d:Bool:=a<c
 let b:=(e,c,a,e.2.2.2.1,len e.2.2.2.1,())
 let f:=(x.1,(0:Int),())
 (d->AB (SG b) (wV3 b) (sM8 b) f/\A5 (a+1),d,(Lq b (A3 (SG b) (wV3 b) f),a+1,()))
def sN y x:=(pY2 y x).1
def LH y x:=(pY2 y x).2.1
def FI y x:=(pY2 y x).2.2
def rZ4 (y:sM9)(x:Yy):(List Bool):=
 x.1
def nR4:=li [(1,Ag),(17,vI)] [(3,Bs),(18,vI)] LH FI sN (λy x=>[ex 2 none [(3,Bs)] ((rZ4 y x),())]) [[(3,Bs)]]
def sN0 (y:Yy)(x:CW):Vm CW:=
 let c:=y.1
 let a:=x.1
 let b:Bool:=a<y.2.1
 let d:=!(nth c a false)
 (b->A6 a (len c)/\a<len c/\(!d->A5 (a+1)),b&&(!d),(a+1,()),b&&d,!b)
def sX1 y x:=(sN0 y x).1
def Lt y x:=(sN0 y x).2.1
def GP y x:=(sN0 y x).2.2.1
def tU1 y x:=(sN0 y x).2.2.2.1
def oY6 y x:=(sN0 y x).2.2.2.2
def rF9 (y:Yy)(x:CW):Bool:=
 true
def oY7:=li [(72,Bs),(73,vI)] [(74,vI)] Lt GP sX1 (λy x=>[ex 1 (some (tU1 y x)) [(2,vB)] ((rF9 y x),()),ex 8 (some (oY6 y x)) [] ()]) [[(2,vB)],[]]
def dN (h:AS):Prop×Bool:=
 let c:=len h.2.2.2.1
 let d:=(h,len h.2.2.2.1,())
 let g:=(List.replicate (toNat c) false,(0:Int),())
 let b:=rZ4 d (A3 (LH d) (FI d) g)
 let a:=(b,len b,())
 let f:=((0:Int),())
 let e:=A3 (Lt a) (GP a) f
 ((0<=c/\c<=c/\c<=4294967296)/\AB (LH d) (FI d) (sN d) g/\AB (Lt a) (GP a) (sX1 a) f,cond (tU1 a e) (rF9 a e) false)
def oF0 a:=(dN a).1
def dO a:=(dN a).2
theorem kO2:SK 63 (AR Ar vB oF0 dO):=fb Tryz.func63 81 [] [(3,nR4),(5,nR3),(9,nR2),(19,oY7)] [(3,[(4,0,14,1003)])] false [] [14]
def fK (y:uF2)(x:CW):Vm CW:=
 let c:=y.1
 let a:=x.1
 let e:Bool:=a<len c
 let d:Bool:=BU c a<33
 let b:=cond d true (BU c a>126)
 (e->A6 a (len c)/\(!d->A6 a (len c))/\(!b->A5 (a+1)),e&&(!b),(a+1,()),e&&b,!e)
def qM y x:=(fK y x).1
def fQ y x:=(fK y x).2.1
def TQ y x:=(fK y x).2.2.1
def qM0 y x:=(fK y x).2.2.2.1
def XX y x:=(fK y x).2.2.2.2
def rG (y:uF2)(x:CW):Bool:=
 false
def oY9:=li [(0,vS)] [(3,vI)] fQ TQ qM (λy x=>[ex 1 (some (qM0 y x)) [(2,vB)] ((rG y x),()),ex 2 (some (XX y x)) [(0,vS)] (y.1,())]) [[(2,vB)],[(0,vS)]]
def kO3 (d:List UInt8):Prop×Bool:=
 let a:=(d,())
 let c:=((0:Int),())
 let b:=A3 (fQ a) (TQ a) c
 (AB (fQ a) (TQ a) (qM a) c,cond (qM0 a b) (rG a b) (cond (len d≥1) (decide (len d<=32)) false))
def pY3 a:=(kO3 a).1
def Jk a:=(kO3 a).2
theorem lT5:SK 100 (AR vS vB pY3 Jk):=fb Tryz.func100 28 [] [(2,oY9)]
def sN3 (y:uF2)(x:CW):Vm CW:=
 let c:=y.1
 let a:=x.1
 let e:Bool:=a<len c
 let d:Bool:=BU c a<32
 let b:=cond d true (BU c a>126)
 (e->A6 a (len c)/\(!d->A6 a (len c))/\(!b->A5 (a+1)),e&&(!b),(a+1,()),e&&b,!e)
def qM1 y x:=(sN3 y x).1
def NF y x:=(sN3 y x).2.1
def Ye y x:=(sN3 y x).2.2.1
def qM2 y x:=(sN3 y x).2.2.2.1
def oZ y x:=(sN3 y x).2.2.2.2
def rG0 (y:uF2)(x:CW):Bool:=
 false
def oZ0:=li [(0,vS)] [(3,vI)] NF Ye qM1 (λy x=>[ex 1 (some (qM2 y x)) [(2,vB)] ((rG0 y x),()),ex 2 (some (oZ y x)) [(0,vS)] (y.1,())]) [[(2,vB)],[(0,vS)]]
def kO4 (d:List UInt8):Prop×Bool:=
 let a:=(d,())
 let c:=((0:Int),())
 let b:=A3 (NF a) (Ye a) c
 (AB (NF a) (Ye a) (qM1 a) c,cond (qM2 a b) (rG0 a b) (cond (len d≥1) (decide (len d<=256)) false))
def pY4 a:=(kO4 a).1
def Jl a:=(kO4 a).2
theorem lT6:SK 101 (AR vS vB pY4 Jl):=fb Tryz.func101 28 [] [(2,oZ0)]
abbrev tA7:Type:=((List B0)×Int×Unit)
def rZ5 (y:tA7)(x:CW):Vm CW:=
 let f:=y.1
 let a:=x.1
 let b:Bool:=a<y.2.1
 let h:=nth f a CO
 let c:=!(Jk h.1)
 let i:=nth f a CO
 let d:=!(Jl i.2.1)
 let e:Bool:=a>0
 let j:=nth f a CO
 let k:=a-1
 let l:=nth f k CO
 let m:=cond e (Op.bytesLess j.1 l.1||j.1==l.1) false
 let g:=(!c)&&((!d)&&(!m))
 (b->A6 a (len f)/\pY3 h.1/\(!c->A6 a (len f)/\pY4 i.2.1/\(!d->(e->A6 a (len f))/\(e->A5 (a-1))/\(e->A6 k (len f))))/\(g->A5 (a+1)),b&&g,(a+1,()),b&&(c||((!c)&&(d||((!d)&&m)))),!b)
def fX y x:=(rZ5 y x).1
def tU2 y x:=(rZ5 y x).2.1
def vN4 y x:=(rZ5 y x).2.2.1
def rZ7 y x:=(rZ5 y x).2.2.2.1
def nR5 y x:=(rZ5 y x).2.2.2.2
def tA8 (y:tA7)(x:CW):Int:=
 let a:=y.1
 let b:=x.1
 (cond (!(Jk (nth a b CO).1)) (13:Int) (cond (!(Jl (nth a b CO).2.1)) 4 24))
def nR6:=li [(0,Bh),(8,vI)] [(9,vI)] tU2 vN4 fX (λy x=>[ex 1 (some (rZ7 y x)) [(2,vI)] ((tA8 y x),()),ex 2 (some (nR5 y x)) [] ()]) [[(2,vI)],[]]
def dU (e:List B0):Prop×Int:=
 let c:Bool:=len e>16
 let a:=(e,len e,())
 let d:=((0:Int),())
 let b:=A3 (tU2 a) (vN4 a) d
 (!c->AB (tU2 a) (vN4 a) (fX a) d,cond c 3 (cond (rZ7 a b) (tA8 a b) 0))
def nR7 a:=(dU a).1
def f65 a:=(dU a).2
theorem kO5:SK 65 (AR Bh vI nR7 f65):=fb Tryz.func65 43 [kb lT5,kb lT6] [(4,nR6)]
def dV (p:AS):Prop×Int:=
 let d:=aF p.1 p.2.1 p.2.2.1
 let e:=d.2.1 !=0
 let f:=cond (len p.2.2.2.1>64) true (len (Q0 p).1>8)
 let g:=cond (p.2.2.2.2.1<1) true (p.2.2.2.2.1>1073741824)
 let h:=EZ p
 let i:=h==0
 let r:=cond i (f60 p) h
 let j:=r==0
 let a:=cond j (Sr p) r
 let k:=a==0
 let b:=cond k (dL p) a
 let l:=b !=0
 let m:=dO p
 let n:=V4 (Q1 p).1
 let o:=n !=0
 let q:=cond ((Q1 p).1.1 !=0) (cond ((Q1 p).1.1 !=p.1) true ((Q1 p).1.2.1 !=p.2.1)) false
 let c:=cond e d.2.1 (cond f 3 (cond g 2 (cond l b (cond m 11 (cond o n (cond q 15 (f65 (Q2 p).1)))))))
 (mS p.1 p.2.1 p.2.2.1/\(!e->!f->!g->nP5 p/\(i->nQ0 p)/\(j->nQ6 p)/\(k->nR1 p)/\(!l->oF0 p/\(!m->oD9 (Q1 p).1/\(!o->!q->nR7 (Q2 p).1)))),c)
def j6 a:=(dV a).1
def Kc a:=(dV a).2
theorem mS4:SK 25 (AR Ar vI j6 Kc):=fb Tryz.func25 84 [kb kI7,kb kN6,kb kN8,kb kO,kb kO1,kb kO2,kb mS0,kb kO5]
def dW (a:AS):Prop×BY:=
 (True,(a.1,a.2.1,a.2.2.1,a.2.2.2.2.1,()))
def oF1 a:=(dW a).1
def dX a:=(dW a).2
theorem mS5:SK 26 (AR Ar Bt oF1 dX):=fb Tryz.func26 12
abbrev Ke:Type:=(EO×EO×Int×Unit)
def k7 (y:Ke)(x:CW):Vm CW:=
 let d:=y.1
 let e:=y.2.1
 let a:=x.1
 let b:Bool:=a<y.2.2.1
 let c:=nth d.2.2.1 a 0!=nth e.2.2.1 a 0
 (b->A6 a (len d.2.2.1)/\A6 a (len e.2.2.1)/\(!c->A5 (a+1)),b&&(!c),(a+1,()),b&&c,!b)
def pG7 y x:=(k7 y x).1
def Uf y x:=(k7 y x).2.1
def JN y x:=(k7 y x).2.2.1
def fY y x:=(k7 y x).2.2.2.1
def nR8 y x:=(k7 y x).2.2.2.2
def qA (y:Ke)(x:CW):Bool:=
 false
def nR9:=li [(2,Dl),(3,Dl),(29,vI)] [(30,vI)] Uf JN pG7 (λy x=>[ex 1 (some (fY y x)) [(4,vB)] ((qA y x),()),ex 2 (some (nR8 y x)) [] ()]) [[(4,vB)],[]]
def dZ (e f:EO):Prop×Bool:=
 let b:=cond (cond (e.1 !=f.1) true (e.2.1 !=f.2.1)) true (len e.2.2.1!=len f.2.2.1)
 let a:=(e,f,len e.2.2.1,())
 let d:=((0:Int),())
 let c:=A3 (Uf a) (JN a) d
 (!b->AB (Uf a) (JN a) (pG7 a) d,cond b false (cond (fY a c) (qA a c) true))
def rG1 a b:=(dZ a b).1
def N4 a b:=(dZ a b).2
theorem oF2:SK 28 (BC Bu Bu vB rG1 N4):=fb Tryz.func28 45 [] [(4,nR9)]
def qA0 (y:Ni)(x:CW):Vm CW:=
 let d:=y.1
 let e:=y.2.1
 let a:=x.1
 let b:Bool:=a<y.2.2.1
 let c:=!(Ty.eqb Er (nth d a CO) (nth e a CO))
 (b->A6 a (len d)/\A6 a (len e)/\(!c->A5 (a+1)),b&&(!c),(a+1,()),b&&c,!b)
def pG8 y x:=(qA0 y x).1
def jZ y x:=(qA0 y x).2.1
def uI8 y x:=(qA0 y x).2.2.1
def pG9 y x:=(qA0 y x).2.2.2.1
def nS y x:=(qA0 y x).2.2.2.2
def qA1 (y:Ni)(x:CW):Bool:=
 false
def nS0:=li [(0,Bh),(1,Bh),(12,vI)] [(13,vI)] jZ uI8 pG8 (λy x=>[ex 1 (some (pG9 y x)) [(4,vB)] ((qA1 y x),()),ex 2 (some (nS y x)) [] ()]) [[(4,vB)],[]]
def eE (e f:List B0):Prop×Bool:=
 let b:=len e !=len f
 let a:=(e,f,len e,())
 let d:=((0:Int),())
 let c:=A3 (jZ a) (uI8 a) d
 (!b->AB (jZ a) (uI8 a) (pG8 a) d,cond b false (cond (pG9 a c) (qA1 a c) true))
def rG2 a b:=(eE a b).1
def N5 a b:=(eE a b).2
theorem oF3:SK 29 (BC Bh Bh vB rG2 N5):=fb Tryz.func29 26 [] [(4,nS0)]
abbrev uI9:Type:=((List AQ)×(List AQ)×AQ×AQ×Int×Int×Int×Unit)
def sN7 (y:uI9)(x:CW):Vm CW:=
 let d:=y.2.2.1
 let e:=y.2.2.2.1
 let a:=x.1
 let c:Bool:=a<(Q2 y).1
 let b:=!(Ty.eqb CC (nth d.2.2.2.2.1.2.2.1 a C4) (nth e.2.2.2.2.1.2.2.1 a C4))
 (c->A6 a (len d.2.2.2.2.1.2.2.1)/\A6 a (len e.2.2.2.2.1.2.2.1)/\(!b->A5 (a+1)),c&&(!b),(a+1,()),c&&b,!c)
def sX2 y x:=(sN7 y x).1
def vA y x:=(sN7 y x).2.1
def RQ y x:=(sN7 y x).2.2.1
def sX3 y x:=(sN7 y x).2.2.2.1
def sX4 y x:=(sN7 y x).2.2.2.2
def tO2 (y:uI9)(x:CW):Bool:=
 false
def qM3:List (Nat×Sh):=[(0,At),(1,At),(15,vI),(16,vI)]
def oZ1:=li [(0,At),(1,At),(6,Ch),(7,Ch),(15,vI),(16,vI),(85,vI)] [(86,vI)] vA RQ sX2 (λy x=>[ex 1 (some (sX3 y x)) [(4,vB)] ((tO2 y x),()),ex 4 (some (sX4 y x)) qM3 (y.1,y.2.1,y.2.2.2.2.1,(Q1 y).1,())]) [[(4,vB)],qM3]
abbrev Gu:Type:=((List AQ)×(List AQ)×Int×Unit)
def Gv (y:Gu)(x:CW):Vm CW:=
 let k:=y.1
 let l:=y.2.1
 let h:=y.2.2.1
 let b:=x.1
 let f:Bool:=b<h
 let a:=nth k b CE
 let d:=nth l b CE
 let m:=cond (cond (cond (cond (a.1 !=d.1) true (!(a.2.1==d.2.1))) true (a.2.2.1 !=d.2.2.1)) true (a.2.2.2.1 !=d.2.2.2.1)) true (a.2.2.2.2.1.1 !=d.2.2.2.2.1.1)
 let g:=cond (cond m true (a.2.2.2.2.1.2.1 !=d.2.2.2.2.1.2.1)) true (len a.2.2.2.2.1.2.2.1!=len d.2.2.2.2.1.2.2.1)
 let e:=(k,l,a,d,h,b,len a.2.2.2.2.1.2.2.1,())
 let j:=((0:Int),())
 let i:=A3 (vA e) (RQ e) j
 let c:=(!g)&&sX4 e i
 (f->A6 b (len k)/\A6 b (len l)/\(!g->AB (vA e) (RQ e) (sX2 e) j)/\(c->A5 (b+1)),f&&c,(b+1,()),f&&(g||((!g)&&sX3 e i)),!f)
def qA2 y x:=(Gv y x).1
def OB y x:=(Gv y x).2.1
def O5 y x:=(Gv y x).2.2.1
def uS0 y x:=(Gv y x).2.2.2.1
def nS1 y x:=(Gv y x).2.2.2.2
def uJ (y:Gu)(x:CW):Bool:=
 let f:=y.1
 let g:=y.2.1
 let c:=x.1
 let a:=nth f c CE
 let b:=nth g c CE
 let e:=cond (cond (cond (cond (a.1 !=b.1) true (!(a.2.1==b.2.1))) true (a.2.2.1 !=b.2.2.1)) true (a.2.2.2.1 !=b.2.2.2.1)) true (a.2.2.2.2.1.1 !=b.2.2.2.2.1.1)
 let d:=(f,g,a,b,y.2.2.1,c,len a.2.2.2.2.1.2.2.1,())
 let h:=cond (cond (cond e true (a.2.2.2.2.1.2.1 !=b.2.2.2.2.1.2.1)) true (len a.2.2.2.2.1.2.2.1!=len b.2.2.2.2.1.2.2.1)) false (tO2 d (A3 (vA d) (RQ d) (0,())))
 h
def nS2:=li [(0,At),(1,At),(15,vI)] [(16,vI)] OB O5 qA2 (λy x=>[ex 1 (some (uS0 y x)) [(4,vB)] ((uJ y x),()),ex 2 (some (nS1 y x)) [] ()]) [[(4,vB)],[]]
def eL (e f:List AQ):Prop×Bool:=
 let b:=len e !=len f
 let a:=(e,f,len e,())
 let d:=((0:Int),())
 let c:=A3 (OB a) (O5 a) d
 (!b->AB (OB a) (O5 a) (qA2 a) d,cond b false (cond (uS0 a c) (uJ a c) true))
def rG3 a b:=(eL a b).1
def N7 a b:=(eL a b).2
theorem oF4:SK 30 (BC At At vB rG3 N7):=fb Tryz.func30 104 [] [(4,nS2),(10,oZ1)]
abbrev qA3:Type:=(AS×AS×(BY×BY×Int×(List AD)×(List AD)×(Int×Int×(List Int)×Unit)×(Int×Int×(List Int)×Unit)×(List B0)×(List B0)×(List AQ)×(List AQ)×Unit)×Unit)
def nS3 (y:qA3)(x:vT):Vn vT:=
 let f:=y.1
 let g:=y.2.1
 let a:=x.1
 let b:=cond (a.2.2.1<len f.2.2.2.1) (decide (a.2.2.1<len g.2.2.2.1)) false
 let c:=nth f.2.2.2.1 a.2.2.1 A9
 let d:=nth g.2.2.2.1 a.2.2.1 A9
 let e:=cond b (Fk c d) false
 let h:=(a.1,a.2.1,a.2.2.1+1,a.2.2.2.1,a.2.2.2.2.1,((Q1 a).1.1,(Q1 a).1.2.1,(Q1 a).1.2.2.1,()),((Q2 a).1.1,(Q2 a).1.2.1,(Q2 a).1.2.2.1,()),(Q0 a).1,(Q5 a).1,(Q4 a).1,(Q3 a).1,())
 ((b->A6 a.2.2.1 (len f.2.2.2.1))/\(b->A6 a.2.2.1 (len g.2.2.2.1))/\(b->vQ4 c d)/\(e->A5 (a.2.2.1+1)),e,(h,()))
def qW1 y x:=(nS3 y x).1
def Gx y x:=(nS3 y x).2.1
def Yi y x:=(nS3 y x).2.2
def tU3 (y:qA3)(x:vT):(BY×BY×Int×(List AD)×(List AD)×(Int×Int×(List Int)×Unit)×(Int×Int×(List Int)×Unit)×(List B0)×(List B0)×(List AQ)×(List AQ)×Unit):=
 let a:=x.1
 let b:=(a.1,a.2.1,a.2.2.1,a.2.2.2.1,a.2.2.2.2.1,((Q1 a).1.1,(Q1 a).1.2.1,(Q1 a).1.2.2.1,()),((Q2 a).1.1,(Q2 a).1.2.1,(Q2 a).1.2.2.1,()),(Q0 a).1,(Q5 a).1,(Q4 a).1,(Q3 a).1,())
 b
def oF5:List (Nat×Sh):=[(2,Ag),(3,Ag),(4,Aa),(7,Ae)]
def mG7:=li [(2,Ag),(3,Ag),(4,Aa)] [(7,Ae)] Gx Yi qW1 (λy x=>[ex 2 none oF5 (y.1,y.2.1,y.2.2.1,(tU3 y x),())]) [oF5]
def pY5 (y:tS2)(x:QB):Vn QB:=
 let d:=x.1
 let e:=x.2.1
 let a:=cond (len d>0) (decide (len e>0)) false
 let g:=len d
 let h:=g-1
 let i:=nth d h A9
 let j:=len e
 let k:=j-1
 let l:=nth e k A9
 let m:=cond a (Fk i l) false
 let n:=len d
 let f:=n-1
 let c:=len e
 let b:=c-1
 ((a->A5 (g-1))/\(a->A6 h (len d))/\(a->A5 (j-1))/\(a->A6 k (len e))/\(a->vQ4 i l)/\(m->A5 (n-1)/\(0<=f/\f<=len d)/\A5 (c-1)/\0<=b/\b<=len e),m,(take (toNat f) d,take (toNat b) e,()))
def qA4 y x:=(pY5 y x).1
def vO8 y x:=(pY5 y x).2.1
def K4 y x:=(pY5 y x).2.2
def tB4 (y:tS2)(x:QB):(List AD):=
 x.1
def tB5 (y:tS2)(x:QB):(List AD):=
 x.2.1
def pH:List (Nat×Sh):=[(2,Ag),(3,Ag),(4,Aa),(7,Ae),(8,An),(9,An)]
def nS4:=li [(2,Ag),(3,Ag),(4,Aa),(7,Ae)] [(8,An),(9,An)] vO8 K4 qA4 (λy x=>[ex 4 none pH (y.1,y.2.1,y.2.2.1,y.2.2.2.1,(tB4 y x),(tB5 y x),())]) [pH]
def Sv (p D:AS):Prop×(Hy×Int×Unit):=
 let K:=Kc p
 let e:=K !=0
 let L:=Kc D
 let f:=L !=0
 let N:=(C4,C4,(0:Int),([]:List AD),([]:List AD),((0:Int),(0:Int),([]:List Int),()),((0:Int),(0:Int),([]:List Int),()),([]:List B0),([]:List B0),([]:List AQ),([]:List AQ),())
 let O:=(dX p,dX D,(0:Int),([]:List AD),([]:List AD),((0:Int),(0:Int),([]:List Int),()),((0:Int),(0:Int),([]:List Int),()),([]:List B0),([]:List B0),([]:List AQ),([]:List AQ),())
 let E:=(p,D,N,())
 let U:=(O,())
 let a:=tU3 E (A3 (Gx E) (Yi E) U)
 let Q:=(C4,C4,(0:Int),([]:List AD),([]:List AD),((0:Int),(0:Int),([]:List Int),()),((0:Int),(0:Int),([]:List Int),()),([]:List B0),([]:List B0),([]:List AQ),([]:List AQ),())
 let H:=(a.1,a.2.1,a.2.2.1,a.2.2.2.1,a.2.2.2.2.1,((Q1 a).1.1,(Q1 a).1.2.1,(Q1 a).1.2.2.1,()),((Q2 a).1.1,(Q2 a).1.2.1,(Q2 a).1.2.2.1,()),(Q0 a).1,(Q5 a).1,(Q4 a).1,(Q3 a).1,())
 let i:=(p,D,Q,H,())
 let M:=(drop (toNat a.2.2.1) p.2.2.2.1,drop (toNat a.2.2.1) D.2.2.2.1,())
 let F:=A3 (vO8 i) (K4 i) M
 let g:=tB4 i F
 let h:=tB5 i F
 let b:=!(N4 (Q1 p).1 (Q1 D).1)
 let R:=cond b a.1 a.1
 let u:=cond b a.2.1 a.2.1
 let v:=cond b a.2.2.1 a.2.2.1
 let w:=cond b g g
 let z:=cond b h h
 let A:=cond b (Q1 p).1 ((Q1 a).1.1,(Q1 a).1.2.1,(Q1 a).1.2.2.1,())
 let B:=cond b (Q1 D).1 ((Q2 a).1.1,(Q2 a).1.2.1,(Q2 a).1.2.2.1,())
 let C:=cond b (Q4 a).1 (Q4 a).1
 let j:=cond b (Q3 a).1 (Q3 a).1
 let c:=!(N5 (Q2 p).1 (Q2 D).1)
 let k:=cond c R R
 let l:=cond c u u
 let m:=cond c v v
 let n:=cond c w w
 let o:=cond c z z
 let q:=cond c A A
 let r:=cond c B B
 let s:=cond c (Q2 p).1 (cond b (Q0 a).1 (Q0 a).1)
 let t:=cond c (Q2 D).1 (cond b (Q5 a).1 (Q5 a).1)
 let d:=!(N7 (Q0 p).1 (Q0 D).1)
 let J:=(cond e C4 (cond f C4 (cond d k k)),cond e C4 (cond f C4 (cond d l l)),cond e 0 (cond f 0 (cond d m m)),cond e [] (cond f [] (cond d n n)),cond e [] (cond f [] (cond d o o)),cond e (0,0,[],()) (cond f (0,0,[],()) (cond d q q)),cond e (0,0,[],()) (cond f (0,0,[],()) (cond d r r)),cond e [] (cond f [] (cond d s s)),cond e [] (cond f [] (cond d t t)),cond e [] (cond f [] (cond d (Q0 p).1 (cond c C C))),cond e [] (cond f [] (cond d (Q0 D).1 (cond c j j))),())
 (j6 p/\(!e->j6 D/\(!f->oF1 p/\oF1 D/\AB (Gx E) (Yi E) (qW1 E) U/\(0<=a.2.2.1/\a.2.2.1<=len p.2.2.2.1)/\(0<=a.2.2.1/\a.2.2.1<=len D.2.2.2.1)/\AB (vO8 i) (K4 i) (qA4 i) M/\rG1 (Q1 p).1 (Q1 D).1/\rG2 (Q2 p).1 (Q2 D).1/\rG3 (Q0 p).1 (Q0 D).1)),(J,cond e K (cond f L 0),()))
def pY6 a b:=(Sv a b).1
def f7 a b:=(Sv a b).2
def lT7:=BC Ar Ar (.tup (.cons Be (.cons vI .nl))) pY6 f7
theorem kO6:SK 7 (BC Ar Ar (.tup (.cons Be (.cons vI .nl))) pY6 f7):=fb Tryz.func7 144 [kb mS4,kb mS5,kb oD8,kb oF2,kb oF3,kb oF4] [(8,mG7),(11,nS4)]
abbrev XT:Type:=((List AD)×(List AD)×Int×Unit)
def Mf (y:XT)(x:CW):Vm CW:=
 let f:=y.1
 let g:=y.2.1
 let a:=x.1
 let b:Bool:=a<y.2.2.1
 let d:=nth f a A9
 let e:=nth g a A9
 let c:=!(Fk d e)
 (b->A6 a (len f)/\A6 a (len g)/\vQ4 d e/\(!c->A5 (a+1)),b&&(!c),(a+1,()),b&&c,!b)
def pH0 y x:=(Mf y x).1
def TK y x:=(Mf y x).2.1
def uJ0 y x:=(Mf y x).2.2.1
def pH1 y x:=(Mf y x).2.2.2.1
def nS5 y x:=(Mf y x).2.2.2.2
def Mj (y:XT)(x:CW):Bool:=
 false
def nS6:=li [(0,An),(1,An),(12,vI)] [(13,vI)] TK uJ0 pH0 (λy x=>[ex 1 (some (pH1 y x)) [(4,vB)] ((Mj y x),()),ex 2 (some (nS5 y x)) [] ()]) [[(4,vB)],[]]
def eR (e f:List AD):Prop×Bool:=
 let b:=len e !=len f
 let a:=(e,f,len e,())
 let d:=((0:Int),())
 let c:=A3 (TK a) (uJ0 a) d
 (!b->AB (TK a) (uJ0 a) (pH0 a) d,cond b false (cond (pH1 a c) (Mj a c) true))
def pH2 a b:=(eR a b).1
def eU a b:=(eR a b).2
theorem mS6:SK 31 (BC An An vB pH2 eU):=fb Tryz.func31 27 [kb oD8] [(4,nS6)]
def f8t (i j:Hy):Prop×Bool:=
 let a:=cond (cond (Ty.eqb CC i.1 j.1) (Ty.eqb CC i.2.1 j.2.1) false) (i.2.2.1==j.2.2.1) false
 let b:=cond a (eU i.2.2.2.1 j.2.2.2.1) false
 let c:=cond b (eU i.2.2.2.2.1 j.2.2.2.2.1) false
 let d:=cond c (N4 (Q1 i).1 (Q1 j).1) false
 let e:=cond d (N4 (Q2 i).1 (Q2 j).1) false
 let f:=cond e (N5 (Q0 i).1 (Q0 j).1) false
 let g:=cond f (N5 (Q5 i).1 (Q5 j).1) false
 let h:=cond g (N7 (Q4 i).1 (Q4 j).1) false
 ((a->pH2 i.2.2.2.1 j.2.2.2.1)/\(b->pH2 i.2.2.2.2.1 j.2.2.2.2.1)/\(c->rG1 (Q1 i).1 (Q1 j).1)/\(d->rG1 (Q2 i).1 (Q2 j).1)/\(e->rG2 (Q0 i).1 (Q0 j).1)/\(f->rG2 (Q5 i).1 (Q5 j).1)/\(g->rG3 (Q4 i).1 (Q4 j).1)/\(h->rG3 (Q3 i).1 (Q3 j).1),cond h (N7 (Q3 i).1 (Q3 j).1) false)
def pH3 a b:=(f8t a b).1
def f8 a b:=(f8t a b).2
def nS7:=BC Be Be vB pH3 f8
theorem kO7:SK 8 (BC Be Be vB pH3 f8):=fb Tryz.func8 80 [kb oF2,kb oF3,kb oF4,kb mS6]
abbrev O6:Type:=((List AD)×(Unit)×(List AD)×Int×Unit)
def vZ3 (y:O6)(x:CW):Vm CW:=
 let g:=y.1
 let d:=y.2.2.1
 let a:=x.1
 let b:Bool:=a<y.2.2.2.1
 let e:=nth d a A9
 let f:=nth g a A9
 let c:=!(KO e f)
 (b->A6 a (len d)/\A6 a (len g)/\tW9 e f/\(!c->A5 (a+1)),b&&(!c),(a+1,()),b&&c,!b)
def Ua y x:=(vZ3 y x).1
def uJ1 y x:=(vZ3 y x).2.1
def QT y x:=(vZ3 y x).2.2.1
def rG4 y x:=(vZ3 y x).2.2.2.1
def jY y x:=(vZ3 y x).2.2.2.2
def RJ (y:O6)(x:CW):Bool:=
 false
def pH5:=li [(1,An),(2,(.fn 17 .nl)),(15,An),(16,vI)] [(17,vI)] uJ1 QT Ua (λy x=>[ex 1 (some (rG4 y x)) [(6,vB)] ((RJ y x),()),ex 2 (some (jY y x)) [] ()]) [[(6,vB)],[]]
def pY7 (e f:List AD)(g:(Unit)):Prop×Bool:=
 let b:=len e !=len f
 let a:=(f,(),e,len e,())
 let d:=((0:Int),())
 let c:=A3 (uJ1 a) (QT a) d
 (!b->AB (uJ1 a) (QT a) (Ua a) d,cond b false (cond (rG4 a c) (RJ a c) true))
def uS1 a b c:=(pY7 a b c).1
def qM4 a b c:=(pY7 a b c).2
theorem pH6:SK 68 (DZ An An (.fn 17 .nl) vB uS1 qM4):=fb Tryz.func68 32 [kb mR] [(4,pH5)]
def Sw (m:AS)(n:Hy):Prop×Bool:=
 let b:=cond (cond (!(Ty.eqb CC (Ej m) n.1)) true (n.2.2.1<0)) true (n.2.2.1>len m.2.2.2.1)
 let c:=len m.2.2.2.1
 let d:=cond b true ((c-n.2.2.1)<len n.2.2.2.1)
 let e:=len n.2.2.2.1
 let a:=n.2.2.1+e
 let f:=drop (toNat n.2.2.1) (take (toNat a) m.2.2.2.1)
 let g:=!(qM4 f n.2.2.2.1 ())
 let h:=!(OU (Q1 n).1 (Q2 n).1)
 let i:=cond h (!(OU (Q1 n).1 (Q1 m).1)) false
 let j:=!(OW (Q0 n).1 (Q5 n).1)
 let k:=cond j (!(OW (Q0 n).1 (Q2 m).1)) false
 let l:=MZ (Q4 n).1 (Q3 n).1
 (qI2 m/\(!b->A5 (c-n.2.2.1))/\(!d->A5 (n.2.2.1+e)/\(0<=n.2.2.1/\n.2.2.1<=a/\a<=len m.2.2.2.1)/\uS1 f n.2.2.2.1 ()/\(!g->sI3 (Q1 n).1 (Q2 n).1/\(h->sI3 (Q1 n).1 (Q1 m).1)/\(!i->sI7 (Q0 n).1 (Q5 n).1/\(j->sI7 (Q0 n).1 (Q2 m).1)/\(!k->sI9 (Q4 n).1 (Q3 n).1/\(!l->sI9 (Q4 n).1 (Q0 m).1))))),cond d false (cond g false (cond i false (cond k false (cond l true (MZ (Q4 n).1 (Q0 m).1))))))
def pH7 a b:=(Sw a b).1
def f36 a b:=(Sw a b).2
theorem kO8:SK 36 (BC Ar Be vB pH7 f36):=fb Tryz.func36 90 [kb mQ8,kb oD3,kb oD4,kb oD5,kb pH6]
def f69 (_p0:Unit)(_p1:Int):List AD:=[]
def oF6 (_p0:Unit)(a:Int):Prop:=0<=a/\a<=4294967296
def kO9:List (Nat×Sh):=[(0,.nil),(1,(.val Ab))]
def kP:Sh:=(.own DG 0 true)
def kP0:List (Nat×Sh):=[]
def mG8:Am.Spec:=fnSpec kO9 kP kP0 (λx=>oF6 x.1 x.2.1) (λx=>f69 x.1 x.2.1) (λ_=>())
theorem kP1:SpecOk Tryz.prog 69 mG8:=wB0 ⟨by kernel_rfl,by kernel_rfl⟩ ⟨_,Tryz.func69,by kernel_rfl,by decide⟩ nB5 nB6
abbrev TL:Type:=((List (List AD))×(List (List AD))×Int×Unit)
def qW2 (y:TL)(x:Y0):Vn Y0:=
 let f:=y.2.1
 let e:=x.1
 let a:=x.2.1
 let b:Bool:=a<y.2.2.1
 let c:=len (nth f a [])
 let d:=e+c
 (b->A6 a (len f)/\A5 (e+c)/\(decide (d<0)->False/\False)/\A5 (a+1),b,(d,a+1,()))
def tO3 y x:=(qW2 y x).1
def LR y x:=(qW2 y x).2.1
def vN5 y x:=(qW2 y x).2.2
def TE (y:TL)(x:Y0):Int:=
 x.1
def pH8:List (Nat×Sh):=[(0,Dc),(3,vI)]
def nS8:=li [(0,Dc),(9,Dc),(10,vI)] [(3,vI),(11,vI)] LR vN5 tO3 (λy x=>[ex 2 none pH8 (y.1,(TE y x),())]) [pH8]
abbrev tO4:Type:=((List (List AD))×Int×Unit)
def rJ7 (y:tO4)(x:sI1):Vn sI1:=
 let b:=y.1
 let e:=x.1
 let a:=x.2.1
 let c:Bool:=a<y.2.1
 let d:=nth b a []
 (c->A6 a (len b)/\((length e+length d:Nat):Int)<=4294967296/\A5 (a+1),c,(e++d,a+1,()))
def uS2 y x:=(rJ7 y x).1
def vS5 y x:=(rJ7 y x).2.1
def EB y x:=(rJ7 y x).2.2
def rG5 (y:tO4)(x:sI1):(List AD):=
 x.1
def oZ2:=li [(25,Dc),(26,vI)] [(6,Dx),(27,vI)] vS5 EB uS2 (λy x=>[ex 4 none [(6,Dx)] ((rG5 y x),())]) [[(6,Dx)]]
def Sx (f:(List (List AD))):Prop×(List AD):=
 let c:=(f,f,len f,())
 let e:=((0:Int),(0:Int),())
 let a:=TE c (A3 (LR c) (vN5 c) e)
 let b:=(f,len f,())
 let d:=(f69 () a,(0:Int),())
 (AB (LR c) (vN5 c) (tO3 c) e/\oF6 () a/\AB (vS5 b) (EB b) (uS2 b) d,rG5 b (A3 (vS5 b) (EB b) d))
def pH9 a:=(Sx a).1
def f37 a:=(Sx a).2
theorem kP2:SK 37 (AR Dc An pH9 f37):=fb Tryz.func37 36 [kb kP1] [(3,nS8),(11,oZ2)] [(19,[(4,0,24,1006)]),(27,[(4,0,33,1006)]),(31,[(1,2,0,0),(4,0,1006,0)])] false [] [33]
def Sy (p:AS)(D:Hy):Prop×(AS×Int×Unit):=
 let J:=Hh p
 let a:=J !=0
 let b:=!(f36 p D)
 let K:=len D.2.2.2.1
 let H:=D.2.2.1+K
 let L:=([take (toNat D.2.2.1) p.2.2.2.1,D.2.2.2.2.1,drop (toNat H) p.2.2.2.1]:List (List AD))
 let M:=f37 L
 let N:=R1 M
 let O:=MW (Q2 p).1
 let Q:=OX (Q0 p).1
 let c:=!(OU (Q1 D).1 (Q2 D).1)
 let V:=cond c D.2.1.1 D.2.1.1
 let v:=cond c D.2.1.2.1 D.2.1.2.1
 let w:=cond c D.2.1.2.2.1 D.2.1.2.2.1
 let z:=cond c N N
 let A:=cond c D.2.1.2.2.2.1 D.2.1.2.2.2.1
 let B:=cond c (OV (Q2 D).1) (OV (Q1 p).1)
 let C:=cond c Q Q
 let d:=!(OW (Q0 D).1 (Q5 D).1)
 let E:=cond d V V
 let F:=cond d v v
 let g:=cond d w w
 let h:=cond d z z
 let i:=cond d A A
 let j:=cond d B B
 let k:=cond d (MW (Q5 D).1) (cond c O O)
 let e:=!(MZ (Q4 D).1 (Q3 D).1)
 let l:=cond e E E
 let m:=cond e F F
 let n:=cond e g g
 let o:=cond e h h
 let q:=cond e i i
 let r:=cond e j j
 let t:=cond e k k
 let u:=cond e (OX (Q3 D).1) (cond d C C)
 let s:=(l,m,n,o,q,r,t,u,())
 let R:=Hh s
 let f:=R !=0
 let U:=(cond a 0 (cond b 0 (cond f 0 l)),cond a 0 (cond b 0 (cond f 0 m)),cond a 0 (cond b 0 (cond f 0 n)),cond a [] (cond b [] (cond f [] o)),cond a 0 (cond b 0 (cond f 0 q)),cond a (0,0,[],()) (cond b (0,0,[],()) (cond f (0,0,[],()) r)),cond a [] (cond b [] (cond f [] t)),cond a [] (cond b [] (cond f [] u)),())
 (aA p/\(!a->pH7 p D/\(!b->(0<=D.2.2.1/\D.2.2.1<=len p.2.2.2.1)/\A5 (D.2.2.1+K)/\(0<=H/\H<=len p.2.2.2.1)/\pH9 L/\sI2 M/\sI4 (Q1 p).1/\tJ4 (Q2 p).1/\tX0 (Q0 p).1/\sI3 (Q1 D).1 (Q2 D).1/\(c->sI4 (Q2 D).1)/\sI7 (Q0 D).1 (Q5 D).1/\(d->tJ4 (Q5 D).1)/\sI9 (Q4 D).1 (Q3 D).1/\(e->tX0 (Q3 D).1)/\aA s)),(U,cond a J (cond b 14 (cond f R 0)),()))
def QF a b:=(Sy a b).1
def Ww a b:=(Sy a b).2
def oF7:=BC Ar Be (.tup (.cons Ar (.cons vI .nl))) QF Ww
theorem oF8:SK 10 (BC Ar Be (.tup (.cons Ar (.cons vI .nl))) QF Ww):=fb Tryz.func10 102 [kb mQ7,kb nJ3,kb oD3,kb nJ4,kb oD4,kb nJ7,kb oD5,kb nK,kb kO8,kb kP2] [] [(17,[(4,0,58,400702)]),(25,[(5,0,400702,0),(4,0,83,400702)]),(37,[(4,0,400702,400402)])]
def sX5 (y:Ke)(x:CW):Vm CW:=
 let d:=y.1
 let e:=y.2.1
 let a:=x.1
 let b:Bool:=a<y.2.2.1
 let c:=nth d.2.2.1 a 0!=nth e.2.2.1 a 0
 (b->A6 a (len d.2.2.1)/\A6 a (len e.2.2.1)/\(!c->A5 (a+1)),b&&(!c),(a+1,()),b&&c,!b)
def tO5 y x:=(sX5 y x).1
def rJ8 y x:=(sX5 y x).2.1
def Oz y x:=(sX5 y x).2.2.1
def qA8 y x:=(sX5 y x).2.2.2.1
def nS9 y x:=(sX5 y x).2.2.2.2
def qA9 (y:Ke)(x:CW):Bool:=
 false
def nT:=li [(2,Dl),(3,Dl),(29,vI)] [(30,vI)] rJ8 Oz tO5 (λy x=>[ex 1 (some (qA8 y x)) [(4,vB)] ((qA9 y x),()),ex 2 (some (nS9 y x)) [] ()]) [[(4,vB)],[]]
def Sz (e f:EO):Prop×Bool:=
 let b:=cond (cond (e.1 !=f.1) true (e.2.1 !=f.2.1)) true (len e.2.2.1!=len f.2.2.1)
 let a:=(e,f,len e.2.2.1,())
 let d:=((0:Int),())
 let c:=A3 (rJ8 a) (Oz a) d
 (!b->AB (rJ8 a) (Oz a) (tO5 a) d,cond b false (cond (qA8 a c) (qA9 a c) true))
def pI a b:=(Sz a b).1
def f39 a b:=(Sz a b).2
theorem kP3:SK 39 (BC Bu Bu vB pI f39):=fb Tryz.func39 45 [] [(4,nT)]
def sX6 (y:uE7)(x:CW):Vm CW:=
 let d:=y.1
 let e:=y.2.1
 let b:=x.1
 let a:Bool:=b<len d.2.2.1
 let c:=!(Ty.eqb CC (nth d.2.2.1 b C4) (nth e.2.2.1 b C4))
 (a->A6 b (len d.2.2.1)/\A6 b (len e.2.2.1)/\(!c->A5 (b+1)),a&&(!c),(b+1,()),a&&c,!a)
def tO6 y x:=(sX6 y x).1
def rJ9 y x:=(sX6 y x).2.1
def O0 y x:=(sX6 y x).2.2.1
def qB y x:=(sX6 y x).2.2.2.1
def nT0 y x:=(sX6 y x).2.2.2.2
def qB0 (y:uE7)(x:CW):Bool:=
 false
def nT1:=li [(2,Dk),(3,Dk)] [(5,vI)] rJ9 O0 tO6 (λy x=>[ex 1 (some (qB y x)) [(4,vB)] ((qB0 y x),()),ex 2 (some (nT0 y x)) [] ()]) [[(4,vB)],[]]
def S0 (e f:Gn):Prop×Bool:=
 let b:=cond (cond (e.1 !=f.1) true (e.2.1 !=f.2.1)) true (len e.2.2.1!=len f.2.2.1)
 let a:=(e,f,())
 let d:=((0:Int),())
 let c:=A3 (rJ9 a) (O0 a) d
 (!b->AB (rJ9 a) (O0 a) (tO6 a) d,cond b false (cond (qB a c) (qB0 a c) true))
def qM5 a b:=(S0 a b).1
def f40 a b:=(S0 a b).2
theorem kP4:SK 40 (BC Cf Cf vB qM5 f40):=fb Tryz.func40 45 [] [(4,nT1)]
abbrev O1:Type:=(AS×AS×Int×Unit)
def sB6 (y:O1)(x:CW):Vm CW:=
 let f:=y.1
 let g:=y.2.1
 let a:=x.1
 let b:Bool:=a<y.2.2.1
 let d:=nth f.2.2.2.1 a A9
 let e:=nth g.2.2.2.1 a A9
 let c:=!(Fk d e)
 (b->A6 a (len f.2.2.2.1)/\A6 a (len g.2.2.2.1)/\vQ4 d e/\(!c->A5 (a+1)),b&&(!c),(a+1,()),b&&c,!b)
def tO7 y x:=(sB6 y x).1
def sO y x:=(sB6 y x).2.1
def uJ2 y x:=(sB6 y x).2.2.1
def TM y x:=(sB6 y x).2.2.2.1
def TN y x:=(sB6 y x).2.2.2.2
def qB3 (y:O1)(x:CW):Bool:=
 false
def pI0:List (Nat×Sh):=[(2,Ag),(3,Ag)]
def nT2:=li [(2,Ag),(3,Ag),(73,vI)] [(74,vI)] sO uJ2 tO7 (λy x=>[ex 1 (some (TM y x)) [(4,vB)] ((qB3 y x),()),ex 2 (some (TN y x)) pI0 (y.1,y.2.1,())]) [[(4,vB)],pI0]
def O2 (y:O1)(x:CW):Vm CW:=
 let d:=y.1
 let e:=y.2.1
 let a:=x.1
 let c:Bool:=a<y.2.2.1
 let b:=!(Ty.eqb Er (nth (Q2 d).1 a CO) (nth (Q2 e).1 a CO))
 (c->A6 a (len (Q2 d).1)/\A6 a (len (Q2 e).1)/\(!b->A5 (a+1)),c&&(!b),(a+1,()),c&&b,!c)
def uS3 y x:=(O2 y x).1
def tO8 y x:=(O2 y x).2.1
def vS6 y x:=(O2 y x).2.2.1
def sX7 y x:=(O2 y x).2.2.2.1
def sX8 y x:=(O2 y x).2.2.2.2
def rG6 (y:O1)(x:CW):Bool:=
 false
def qM6:List (Nat×Sh):=[(2,Ag),(3,Ag)]
def oZ3:=li [(2,Ag),(3,Ag),(92,vI)] [(93,vI)] tO8 vS6 uS3 (λy x=>[ex 1 (some (sX7 y x)) [(4,vB)] ((rG6 y x),()),ex 4 (some (sX8 y x)) qM6 (y.1,y.2.1,())]) [[(4,vB)],qM6]
def Yb (y:O1)(x:CW):Vm CW:=
 let g:=y.1
 let h:=y.2.1
 let a:=x.1
 let d:Bool:=a<y.2.2.1
 let b:=nth (Q0 g).1 a CE
 let c:=nth (Q0 h).1 a CE
 let f:=cond (cond (cond (b.1 !=c.1) true (!(b.2.1==c.2.1))) true (b.2.2.1 !=c.2.2.1)) true (b.2.2.2.1 !=c.2.2.2.1)
 let e:=cond f true (!(f40 b.2.2.2.2.1 c.2.2.2.2.1))
 (d->A6 a (len (Q0 g).1)/\A6 a (len (Q0 h).1)/\(!f->qM5 b.2.2.2.2.1 c.2.2.2.2.1)/\(!e->A5 (a+1)),d&&(!e),(a+1,()),d&&e,!d)
def uS4 y x:=(Yb y x).1
def Uv y x:=(Yb y x).2.1
def vS7 y x:=(Yb y x).2.2.1
def sX9 y x:=(Yb y x).2.2.2.1
def oZ4 y x:=(Yb y x).2.2.2.2
def rG7 (y:O1)(x:CW):Bool:=
 false
def oZ5:=li [(2,Ag),(3,Ag),(110,vI)] [(111,vI)] Uv vS7 uS4 (λy x=>[ex 1 (some (sX9 y x)) [(4,vB)] ((rG7 y x),()),ex 6 (some (oZ4 y x)) [] ()]) [[(4,vB)],[]]
def S1 (n o:AS):Prop×Bool:=
 let l:=cond (cond (cond (cond (n.1 !=o.1) true (n.2.1 !=o.2.1)) true (n.2.2.1 !=o.2.2.1)) true (n.2.2.2.2.1 !=o.2.2.2.2.1)) true (len n.2.2.2.1!=len o.2.2.2.1)
 let g:=cond (cond l true (len (Q2 n).1!=len (Q2 o).1)) true (len (Q0 n).1!=len (Q0 o).1)
 let h:=cond g true (!(f39 (Q1 n).1 (Q1 o).1))
 let c:=(n,o,len n.2.2.2.1,())
 let m:=((0:Int),())
 let k:=A3 (sO c) (uJ2 c) m
 let a:=(n,o,len (Q2 n).1,())
 let i:=((0:Int),())
 let d:=A3 (tO8 a) (vS6 a) i
 let b:=(n,o,len (Q0 n).1,())
 let j:=((0:Int),())
 let e:=A3 (Uv b) (vS7 b) j
 let f:=cond h false (cond (TM c k) (qB3 c k) (cond (sX7 a d) (rG6 a d) (cond (sX9 b e) (rG7 b e) true)))
 ((!g->pI (Q1 n).1 (Q1 o).1)/\(!h->AB (sO c) (uJ2 c) (tO7 c) m/\(TN c k->AB (tO8 a) (vS6 a) (uS3 a) i/\(sX8 a d->AB (Uv b) (vS7 b) (uS4 b) j))),f)
def uS5 a b:=(S1 a b).1
def f12 a b:=(S1 a b).2
def oF9:=BC Ar Ar vB uS5 f12
theorem nT3:SK 12 (BC Ar Ar vB uS5 f12):=fb Tryz.func12 159 [kb oD8,kb kP3,kb kP4] [(4,nT2),(10,oZ3),(16,oZ5)]
def S3 (h i:Hy)(j:AS):Prop×(Hy×Int×Unit):=
 let a:=Ww j h
 let c:=a.2.1 !=0
 let b:=Ww a.1 i
 let d:=b.2.1 !=0
 let e:=f6 j b.1
 let f:=(C4,C4,(0:Int),([]:List AD),([]:List AD),((0:Int),(0:Int),([]:List Int),()),((0:Int),(0:Int),([]:List Int),()),([]:List B0),([]:List B0),([]:List AQ),([]:List AQ),())
 let g:=(C4,C4,(0:Int),([]:List AD),([]:List AD),((0:Int),(0:Int),([]:List Int),()),((0:Int),(0:Int),([]:List Int),()),([]:List B0),([]:List B0),([]:List AQ),([]:List AQ),())
 (QF j h/\(!c->QF a.1 i/\(!d->sT2 j b.1)),(cond c g (cond d f e.1),cond c a.2.1 (cond d b.2.1 e.2.1),()))
def TS a b c:=(S3 a b c).1
def f13 a b c:=(S3 a b c).2
def mG9:=DZ Be Be Ar (.tup (.cons Be (.cons vI .nl))) TS f13
theorem mS7:SK 13 (DZ Be Be Ar (.tup (.cons Be (.cons vI .nl))) TS f13):=fb Tryz.func13 35 [kb lL,kb oF8]
abbrev tU5:Type:=((List Int)×Unit)
abbrev Yn:Type:=((Int×Int×Int×(List AD)×Int×(Int×Int×(List Int)×Unit)×(List B0)×(List AQ)×Unit)×(Int×Int×Int×(List AD)×Int×(Int×Int×(List Int)×Unit)×(List B0)×(List AQ)×Unit)×Int×Unit)
def qW3 (y:tU5)(x:Yn):Vn Yn:=
 let d:=y.1
 let b:=x.1
 let a:=x.2.1
 let c:=x.2.2.1
 let e:Bool:=(c+1)<len d
 let f:=c+1
 let h:=(nth d c 0,(3:Int),(0:Int),([102,105,108,108]:List UInt8),false,false,false,nth d f 0,(0:Int),((0:Int),(0:Int),([]:List Int),()),PY,(0:Int),((0:Int),(0:Int),([]:List BY),()),C4,(0:Int),([]:List Int),(0:Int),([]:List B4),([]:List A8),(0:Int),(0:Int),(0:Int),(0:Int),([]:List UInt8),(0:Int),(0:Int),(0:Int),((0:Int),(0:Int),(0:Int),([]:List A0),()),())
 let g:=([h]:List AD)
 (A5 (c+1)/\(e->A6 c (len d)/\A5 (c+1)/\A6 f (len d)/\((length a.2.2.2.1+length g:Nat):Int)<=4294967296/\A5 (c+2)),e,((b.1,b.2.1,b.2.2.1,b.2.2.2.1,b.2.2.2.2.1,((Q1 b).1.1,(Q1 b).1.2.1,(Q1 b).1.2.2.1,()),(Q2 b)),(a.1,a.2.1,a.2.2.1,a.2.2.2.1++g,a.2.2.2.2.1,((Q1 a).1.1,(Q1 a).1.2.1,(Q1 a).1.2.2.1,()),(Q2 a)),c+2,()))
def TT y x:=(qW3 y x).1
def qW4 y x:=(qW3 y x).2.1
def sB7 y x:=(qW3 y x).2.2
def pY8 (y:tU5)(x:Yn):(Int×Int×Int×(List AD)×Int×(Int×Int×(List Int)×Unit)×(List B0)×(List AQ)×Unit):=
 let a:=x.1
 (a.1,a.2.1,a.2.2.1,a.2.2.2.1,a.2.2.2.2.1,((Q1 a).1.1,(Q1 a).1.2.1,(Q1 a).1.2.2.1,()),(Q2 a))
def qB4 (y:tU5)(x:Yn):(Int×Int×Int×(List AD)×Int×(Int×Int×(List Int)×Unit)×(List B0)×(List AQ)×Unit):=
 let a:=x.2.1
 (a.1,a.2.1,a.2.2.1,a.2.2.2.1,a.2.2.2.2.1,((Q1 a).1.1,(Q1 a).1.2.1,(Q1 a).1.2.2.1,()),(Q2 a))
def pI1:List (Nat×Sh):=[(2,Av),(3,Aw)]
def nT4:=li [(0,Ao)] [(2,Av),(3,Aw),(4,vI)] qW4 sB7 TT (λy x=>[ex 2 none pI1 ((pY8 y x),(qB4 y x),())]) [pI1]
def S4 (d:List Int):Prop×AS:=
 let b:=(d,())
 let c:=(((0:Int),(0:Int),(0:Int),([]:List AD),(0:Int),((0:Int),(0:Int),([]:List Int),()),([]:List B0),([]:List AQ),()),((4:Int),(4:Int),(0:Int),([]:List AD),(9:Int),((0:Int),(0:Int),([]:List Int),()),([]:List B0),([]:List AQ),()),(0:Int),())
 let a:=qB4 b (A3 (qW4 b) (sB7 b) c)
 (AB (qW4 b) (sB7 b) (TT b) c,(a.1,a.2.1,a.2.2.1,a.2.2.2.1,a.2.2.2.2.1,((Q1 a).1.1,(Q1 a).1.2.1,(Q1 a).1.2.2.1,()),(Q2 a)))
def M4 a:=(S4 a).1
def f32 a:=(S4 a).2
theorem kP5:SK 32 (AR Ao Ar M4 f32):=fb Tryz.func32 29 [] [(3,nT4)] [(11,[(4,0,26,400300)]),(13,[(4,0,400300,400200),(4,0,400301,400201),(4,0,400302,400202),(4,0,400303,400203)])]
def S5 (a:Hy):Prop×Hy:=
 let s:=(a.2.1,a.1,a.2.2.1,R1 a.2.2.2.2.1,R1 a.2.2.2.1,OV (Q2 a).1,OV (Q1 a).1,MW (Q5 a).1,MW (Q0 a).1,OX (Q3 a).1,OX (Q4 a).1,())
 (sI2 a.2.2.2.2.1/\sI2 a.2.2.2.1/\sI4 (Q2 a).1/\sI4 (Q1 a).1/\tJ4 (Q5 a).1/\tJ4 (Q0 a).1/\tX0 (Q3 a).1/\tX0 (Q4 a).1,s)
def pI2 a:=(S5 a).1
def f33 a:=(S5 a).2
theorem kP6:SK 33 (AR Be Be pI2 f33):=fb Tryz.func33 34 [kb nJ3,kb nJ4,kb nJ7,kb nK] [] [(3,[(4,0,23,400204),(4,0,26,400205)])]
def S6 (c:Hy):Prop×Int:=
 let a:=len c.2.2.2.1
 let b:=len c.2.2.2.2.1
 (A5 (a+b),a+b)
def pI3 a:=(S6 a).1
def f34 a:=(S6 a).2
theorem kP7:SK 34 (AR Be vI pI3 f34):=fb Tryz.func34 10
def S7 (e:Hy):Prop×Bool:=
 let d:=!(Ty.eqb CC e.1 e.2.1)
 let a:=cond d true (!(qM4 e.2.2.2.1 e.2.2.2.2.1 ()))
 let b:=OU (Q1 e).1 (Q2 e).1
 let c:=cond b (OW (Q0 e).1 (Q5 e).1) false
 ((!d->uS1 e.2.2.2.1 e.2.2.2.2.1 ())/\(!a->sI3 (Q1 e).1 (Q2 e).1/\(b->sI7 (Q0 e).1 (Q5 e).1)/\(c->sI9 (Q4 e).1 (Q3 e).1)),cond a false (cond c (MZ (Q4 e).1 (Q3 e).1) false))
def qM8 a:=(S7 a).1
def f35 a:=(S7 a).2
theorem kP8:SK 35 (AR Be vB qM8 f35):=fb Tryz.func35 35 [kb oD3,kb oD4,kb oD5,kb pH6]
def f9t :Prop×Bool:=
 let r:=([(1:Int),(5:Int),(2:Int),(6:Int),(3:Int),(7:Int)]:List Int)
 let b:=f32 r
 let s:=([(1:Int),(5:Int),(2:Int),(9:Int),(3:Int),(7:Int)]:List Int)
 let e:=f32 s
 let t:=([(1:Int),(5:Int),(3:Int),(7:Int)]:List Int)
 let u:=f32 t
 let a:=f6 b e
 let f:=f6 b u
 let d:=f6 b b
 let c:=Ww b a.1
 let v:=f33 a.1
 let m:=Ww c.1 v
 let w:=f33 a.1
 let n:=f13 a.1 w b
 let o:=((0:Int),(0:Int),(0:Int),([]:List AD),(0:Int),((0:Int),(0:Int),([]:List Int),()),([]:List B0),([]:List AQ),())
 let z:=cond (cond (cond (a.2.1==0) (a.1.2.2.1==1) false) (len a.1.2.2.2.1==1) false) (len a.1.2.2.2.2.1==1) false
 let g:=cond z (f34 a.1==2) false
 let q:=cond (cond (cond (cond (cond g (!(f35 a.1)) false) (f.2.1==0) false) (f.1.2.2.1==1) false) (len f.1.2.2.2.1==1) false) (len f.1.2.2.2.2.1==0) false
 let h:=cond (cond q (d.2.1==0) false) (d.1.2.2.1==3) false
 let i:=cond h (f34 d.1==0) false
 let j:=cond (cond i (f35 d.1) false) (c.2.1==0) false
 let k:=cond (cond (cond j (f12 c.1 e) false) ((Ww c.1 a.1).2.1==14) false) (m.2.1==0) false
 let l:=cond (cond k (f12 m.1 b) false) (n.2.1==0) false
 (M4 r/\M4 s/\M4 t/\sT2 b e/\sT2 b u/\sT2 b b/\QF b a.1/\QF c.1 a.1/\pI2 a.1/\QF c.1 v/\pI2 a.1/\TS a.1 w b/\sT2 o b/\(z->pI3 a.1)/\(g->qM8 a.1)/\(h->pI3 d.1)/\(i->qM8 d.1)/\(j->uS5 c.1 e)/\(k->uS5 m.1 b)/\(l->qM8 n.1),cond (cond l (f35 n.1) false) ((f6 o b).2.1==15) false)
def pI4 :Prop:=(f9t).1
def f9 :Bool:=(f9t).2
def pY9:Am.Spec:=fnSpec [] vB [] (λx=>pI4 ) (λx=>f9 ) (λ_=>())
theorem lT8:SK 9 (fnSpec [] vB [] (λx=>pI4 ) (λx=>f9 ) (λ_=>())):=fb Tryz.func9 179 [kb lL,kb oF8,kb nT3,kb mS7,kb kP5,kb kP6,kb kP7,kb kP8]
def f3t (d e:AS):Prop×Bool:=
 let a:=f6 d e
 let b:=f7 d e
 let c:=cond (f8 a.1 b.1) (a.2.1==b.2.1) false
 (sT2 d e/\pY6 d e/\pH3 a.1 b.1/\(c->pI4),cond c f9 false)
def f3_ok a b:=(f3t a b).1
def f3 a b:=(f3t a b).2
def lT9:=BC Ar Ar vB f3_ok f3
def kP9:=Cy [(6,lK9),(7,lT7),(8,nS7),(9,pY9)] [] [] 32
theorem f3_is:SK 3 lT9:=fq (c:=kP9) Tryz.func3 ⟨lL,kO6,kO7,lT8,trivial⟩
def f38t (m:AS)(n:Hy):Prop×Bool:=
 let b:=cond (cond (!(Ty.eqb CC (dX m) n.1)) true (n.2.2.1<0)) true (n.2.2.1>len m.2.2.2.1)
 let c:=len m.2.2.2.1
 let d:=cond b true (len n.2.2.2.1>(c-n.2.2.1))
 let e:=len n.2.2.2.1
 let a:=n.2.2.1+e
 let f:=drop (toNat n.2.2.1) (take (toNat a) m.2.2.2.1)
 let g:=!(eU f n.2.2.2.1)
 let h:=!(N4 (Q1 n).1 (Q2 n).1)
 let i:=cond h (!(N4 (Q1 n).1 (Q1 m).1)) false
 let j:=!(N5 (Q0 n).1 (Q5 n).1)
 let k:=cond j (!(N5 (Q0 n).1 (Q2 m).1)) false
 let l:=N7 (Q4 n).1 (Q3 n).1
 (oF1 m/\(!b->A5 (c-n.2.2.1))/\(!d->A5 (n.2.2.1+e)/\(0<=n.2.2.1/\n.2.2.1<=a/\a<=len m.2.2.2.1)/\pH2 f n.2.2.2.1/\(!g->rG1 (Q1 n).1 (Q2 n).1/\(h->rG1 (Q1 n).1 (Q1 m).1)/\(!i->rG2 (Q0 n).1 (Q5 n).1/\(j->rG2 (Q0 n).1 (Q2 m).1)/\(!k->rG3 (Q4 n).1 (Q3 n).1/\(!l->rG3 (Q4 n).1 (Q0 m).1))))),cond d false (cond g false (cond i false (cond k false (cond l true (N7 (Q4 n).1 (Q0 m).1))))))
def nT5 a b:=(f38t a b).1
def f38 a b:=(f38t a b).2
theorem kQ:SK 38 (BC Ar Be vB nT5 f38):=fb Tryz.func38 90 [kb mS5,kb oF2,kb oF3,kb oF4,kb mS6]
def f11t (p:AS)(D:Hy):Prop×(AS×Int×Unit):=
 let U:=Kc p
 let a:=U !=0
 let b:=!(f38 p D)
 let H:=take (toNat D.2.2.1) p.2.2.2.1
 let K:=H++D.2.2.2.2.1
 let L:=len D.2.2.2.1
 let J:=D.2.2.1+L
 let M:=drop (toNat J) p.2.2.2.1
 let N:=K++M
 let d:=!(N4 (Q1 D).1 (Q2 D).1)
 let R:=cond d D.2.1.1 D.2.1.1
 let v:=cond d D.2.1.2.1 D.2.1.2.1
 let w:=cond d D.2.1.2.2.1 D.2.1.2.2.1
 let z:=cond d N N
 let A:=cond d D.2.1.2.2.2.1 D.2.1.2.2.2.1
 let B:=cond d (Q2 D).1 (Q1 p).1
 let C:=cond d (Q0 p).1 (Q0 p).1
 let e:=!(N5 (Q0 D).1 (Q5 D).1)
 let E:=cond e R R
 let F:=cond e v v
 let g:=cond e w w
 let h:=cond e z z
 let i:=cond e A A
 let j:=cond e B B
 let k:=cond e (Q5 D).1 (cond d (Q2 p).1 (Q2 p).1)
 let f:=!(N7 (Q4 D).1 (Q3 D).1)
 let l:=cond f E E
 let m:=cond f F F
 let n:=cond f g g
 let o:=cond f h h
 let q:=cond f i i
 let r:=cond f j j
 let t:=cond f k k
 let u:=cond f (Q3 D).1 (cond e C C)
 let s:=(l,m,n,o,q,r,t,u,())
 let O:=Kc s
 let c:=O !=0
 let Q:=(cond a 0 (cond b 0 (cond c 0 l)),cond a 0 (cond b 0 (cond c 0 m)),cond a 0 (cond b 0 (cond c 0 n)),cond a [] (cond b [] (cond c [] o)),cond a 0 (cond b 0 (cond c 0 q)),cond a (0,0,[],()) (cond b (0,0,[],()) (cond c (0,0,[],()) r)),cond a [] (cond b [] (cond c [] t)),cond a [] (cond b [] (cond c [] u)),())
 (j6 p/\(!a->nT5 p D/\(!b->(0<=D.2.2.1/\D.2.2.1<=len p.2.2.2.1)/\(length H:Int)<=4294967296/\((length H+length D.2.2.2.2.1:Nat):Int)<=4294967296/\A5 (D.2.2.1+L)/\(0<=J/\J<=len p.2.2.2.1)/\((length K+length M:Nat):Int)<=4294967296/\rG1 (Q1 D).1 (Q2 D).1/\rG2 (Q0 D).1 (Q5 D).1/\rG3 (Q4 D).1 (Q3 D).1/\j6 s)),(Q,cond a U (cond b 14 (cond c O 0)),()))
def uS6 a b:=(f11t a b).1
def f11 a b:=(f11t a b).2
def mH:=BC Ar Be (.tup (.cons Ar (.cons vI .nl))) uS6 f11
theorem mS8:SK 11 (BC Ar Be (.tup (.cons Ar (.cons vI .nl))) uS6 f11):=fb Tryz.func11 100 [kb mS4,kb oF2,kb oF3,kb oF4,kb kQ] [] [(15,[(4,0,45,400700)]),(17,[(4,0,51,400700)]),(19,[(4,0,64,400700)]),(39,[(4,0,400700,400400)])]
def f4t (d:AS)(e:Hy):Prop×Bool:=
 let a:=Ww d e
 let b:=f11 d e
 let c:=cond (f12 a.1 b.1) (a.2.1==b.2.1) false
 (QF d e/\uS6 d e/\uS5 a.1 b.1/\(c->pI4),cond c f9 false)
def f4_ok a b:=(f4t a b).1
def f4 a b:=(f4t a b).2
def lU:=BC Ar Be vB f4_ok f4
def kQ0:=Cy [(9,pY9),(10,oF7),(11,mH),(12,oF9)] [] [] 32
theorem f4_is:SK 4 lU:=fq (c:=kQ0) Tryz.func4 ⟨lT8,oF8,mS8,nT3,trivial⟩
def f14t (h i:Hy)(j:AS):Prop×(Hy×Int×Unit):=
 let a:=f11 j h
 let c:=a.2.1 !=0
 let b:=f11 a.1 i
 let d:=b.2.1 !=0
 let e:=f7 j b.1
 let f:=(C4,C4,(0:Int),([]:List AD),([]:List AD),((0:Int),(0:Int),([]:List Int),()),((0:Int),(0:Int),([]:List Int),()),([]:List B0),([]:List B0),([]:List AQ),([]:List AQ),())
 let g:=(C4,C4,(0:Int),([]:List AD),([]:List AD),((0:Int),(0:Int),([]:List Int),()),((0:Int),(0:Int),([]:List Int),()),([]:List B0),([]:List B0),([]:List AQ),([]:List AQ),())
 (uS6 j h/\(!c->uS6 a.1 i/\(!d->pY6 j b.1)),(cond c g (cond d f e.1),cond c a.2.1 (cond d b.2.1 e.2.1),()))
def qM9 a b c:=(f14t a b c).1
def f14 a b c:=(f14t a b c).2
def mH0:=DZ Be Be Ar (.tup (.cons Be (.cons vI .nl))) qM9 f14
theorem kQ1:SK 14 (DZ Be Be Ar (.tup (.cons Be (.cons vI .nl))) qM9 f14):=fb Tryz.func14 36 [kb kO6,kb mS8]
def f5t (j:AS)(k l:Hy):Prop×Bool:=
 let a:=f13 k l j
 let b:=f14 k l j
 let f:=cond (!(f8 a.1 b.1)) true (a.2.1 !=b.2.1)
 let g:=cond f true (!f9)
 let h:=a.2.1 !=0
 let c:=Ww j k
 let d:=Ww c.1 l
 let e:=Ww j a.1
 let i:=cond (cond (c.2.1==0) (d.2.1==0) false) (e.2.1==0) false
 (TS k l j/\qM9 k l j/\pH3 a.1 b.1/\(!f->pI4)/\(!g->!h->QF j k/\QF c.1 l/\QF j a.1/\(i->uS5 d.1 e.1)),cond g false (cond h true (cond i (f12 d.1 e.1) false)))
def f5_ok a b c:=(f5t a b c).1
def f5 a b c:=(f5t a b c).2
def lU0:=DZ Ar Be Be vB f5_ok f5
def kQ2:=Cy [(8,nS7),(9,pY9),(10,oF7),(12,oF9),(13,mG9),(14,mH0)] [] [] 79
theorem f5_is:SK 5 lU0:=fq (c:=kQ2) Tryz.func5 ⟨kO7,lT8,oF8,nT3,mS7,kQ1,trivial⟩
end Go.Proofs.YtadggmnllfgjcaaGreatDoor.Am
