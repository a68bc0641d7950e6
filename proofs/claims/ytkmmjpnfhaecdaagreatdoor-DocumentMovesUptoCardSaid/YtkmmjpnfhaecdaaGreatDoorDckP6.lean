/- Printed by program, part 6. No condition. -/
import Derived.Test.YtkmmjpnfhaecdaaGreatDoorDckP5
set_option linter.unusedVariables false
set_option synthInstance.maxSize 4000
set_option synthInstance.maxHeartbeats 400000
namespace Go.Proofs.YtkmmjpnfhaecdaaGreatDoor.Am
open Go Go.Am Go.Proofs
open _root_.Int (toNat)
open _root_.List (drop length set take)
abbrev sG7:Type:=(AJ×(List Bool)×Int×AI×Int×Int×(List AI)×Int×Int×(List AI)×Int×Unit)
abbrev VM:Type:=(Bool×Int×Unit)
def pR1 (y:sG7)(x:VM):Vn VM:=
 let f:=y.2.1
 let e:=y.2.2.2.1
 let b:=(Q4 y).1
 let a:=x.2.1
 let c:Bool:=a<(Q2 y).1
 let d:=nth b a A9
 let g:=cond (!(nth f a false)) (cond (cond (e.2.1==1) (d.2.2.1==e.1) false) true (cond (e.2.1==10) (d.1==(Qh e).1) false)) false
 (c->A7 a (len b)/\A7 a (len f)/\a<len f/\A6 (a+1),c,(cond g false x.1,a+1,()))
def sG8 y x:=(pR1 y x).1
def Nc y x:=(pR1 y x).2.1
def Nd y x:=(pR1 y x).2.2
def rS7 (y:sG7)(x:VM):Bool:=
 x.1
def pA9:List (Nat×Sh):=[(1,Ae),(3,Br),(4,vI),(6,vB),(17,vI),(18,vI),(21,Ar),(22,vI),(23,vI)]
def nJ2:=li [(1,Ae),(3,Br),(4,vI),(5,(.box DD Bc)),(17,vI),(18,vI),(21,Ar),(22,vI),(23,vI),(29,Ar),(30,vI)] [(6,vB),(31,vI)] Nc Nd sG8 (λy x=>[ex 6 none pA9 (y.1,y.2.1,y.2.2.1,(rS7 y x),y.2.2.2.2.1,(Q1 y).1,(Q3 y).1,(Q0 y).1,(Q5 y).1,())]) [pA9]
abbrev sG9:Type:=(AJ×Int×Int×(List AI)×Int×Unit)
def pR2 (y:sG9)(x:Gq):Vn Gq:=
 let h:=y.1
 let c:=y.2.2.2.1
 let e:=y.2.2.2.2.1
 let f:=x.1
 let a:=x.2.1
 let g:Bool:=a<e
 let d:=(h,f,a,nth c a A9,y.2.1,y.2.2.1,c,e,a,h.2.2.2.1,len h.2.2.2.1,())
 let i:=(true,(0:Int),())
 let b:=rS7 d (A3 (Nc d) (Nd d) i)
 (g->A7 a (len c)/\AB (Nc d) (Nd d) (sG8 d) i/\(b->A7 a (len f)/\a<len f)/\A6 (a+1),g,(cond b (set f (toNat a) true) f,a+1,()))
def sH y x:=(pR2 y x).1
def uW y x:=(pR2 y x).2.1
def Pf y x:=(pR2 y x).2.2
def rS8 (y:sG9)(x:Gq):(List Bool):=
 x.1
def pB0:List (Nat×Sh):=[(1,Ae),(3,Br),(17,vI),(18,vI)]
def nJ3:=li [(1,Ae),(17,vI),(18,vI),(21,Ar),(22,vI)] [(3,Br),(23,vI)] uW Pf sH (λy x=>[ex 4 none pB0 (y.1,(rS8 y x),y.2.1,y.2.2.1,())]) [pB0]
abbrev sH0:Type:=(AJ×Int×Unit)
def pR3 (y:sH0)(x:Gq):Vn Gq:=
 let e:=y.1
 let c:=y.2.1
 let a:=x.2.1
 let d:Bool:=a<c
 let b:=(e,c,a,e.2.2.2.1,len e.2.2.2.1,())
 let f:=(x.1,(0:Int),())
 (d->AB (uW b) (Pf b) (sH b) f/\A6 (a+1),d,(rS8 b (A3 (uW b) (Pf b) f),a+1,()))
def sH1 y x:=(pR3 y x).1
def Gb y x:=(pR3 y x).2.1
def FF y x:=(pR3 y x).2.2
def rS9 (y:sH0)(x:Gq):(List Bool):=
 x.1
def nJ4:=li [(1,Ae),(17,vI)] [(3,Br),(18,vI)] Gb FF sH1 (λy x=>[ex 2 none [(3,Br)] ((rS9 y x),())]) [[(3,Br)]]
def cF (y:Gq)(x:AD):Vm AD:=
 let c:=y.1
 let a:=x.1
 let b:Bool:=a<y.2.1
 let d:=!(nth c a false)
 (b->A7 a (len c)/\a<len c/\(!d->A6 (a+1)),b&&(!d),(a+1,()),b&&d,!b)
def sQ6 y x:=(cF y x).1
def vH y x:=(cF y x).2.1
def Nf y x:=(cF y x).2.2.1
def tP4 y x:=(cF y x).2.2.2.1
def oP8 y x:=(cF y x).2.2.2.2
def sZ5 (y:Gq)(x:AD):Bool:=
 true
def oP9:=li [(72,Br),(73,vI)] [(74,vI)] vH Nf sQ6 (λy x=>[ex 1 (some (tP4 y x)) [(2,vB)] ((sZ5 y x),()),ex 8 (some (oP8 y x)) [] ()]) [[(2,vB)],[]]
def cG (h:AJ):Prop×Bool:=
 let c:=len h.2.2.2.1
 let d:=(h,len h.2.2.2.1,())
 let g:=(List.replicate (toNat c) false,(0:Int),())
 let b:=rS9 d (A3 (Gb d) (FF d) g)
 let a:=(b,len b,())
 let f:=((0:Int),())
 let e:=A3 (vH a) (Nf a) f
 ((0<=c/\c<=c/\c<=4294967296)/\AB (Gb d) (FF d) (sH1 d) g/\AB (vH a) (Nf a) (sQ6 a) f,cond (tP4 a e) (sZ5 a e) false)
def pX3 a:=(cG a).1
def cH a:=(cG a).2
theorem kF1:SK 58 (AU Al vB pX3 cH):=fb Tryz.func58 81 [] [(3,nJ4),(5,nJ3),(9,nJ2),(19,oP9)] [(3,[(4,0,14,1003)])] false [] [14]
def rT (y:UY)(x:AD):Vm AD:=
 let c:=y.1
 let a:=x.1
 let e:Bool:=a<len c
 let d:Bool:=wD c a<33
 let b:=cond d true (wD c a>126)
 (e->A7 a (len c)/\(!d->A7 a (len c))/\(!b->A6 (a+1)),e&&(!b),(a+1,()),e&&b,!e)
def pB1 y x:=(rT y x).1
def rD0 y x:=(rT y x).2.1
def uW2 y x:=(rT y x).2.2.1
def pB2 y x:=(rT y x).2.2.2.1
def nJ5 y x:=(rT y x).2.2.2.2
def rT0 (y:UY)(x:AD):Bool:=
 false
def nJ6:=li [(0,vS)] [(3,vI)] rD0 uW2 pB1 (λy x=>[ex 1 (some (pB2 y x)) [(2,vB)] ((rT0 y x),()),ex 2 (some (nJ5 y x)) [(0,vS)] (y.1,())]) [[(2,vB)],[(0,vS)]]
def cI (d:List UInt8):Prop×Bool:=
 let a:=(d,())
 let c:=((0:Int),())
 let b:=A3 (rD0 a) (uW2 a) c
 (AB (rD0 a) (uW2 a) (pB1 a) c,cond (pB2 a b) (rT0 a b) (cond (len d≥1) (decide (len d<=32)) false))
def nJ7 a:=(cI a).1
def VN a:=(cI a).2
theorem kF2:SK 88 (AU vS vB nJ7 VN):=fb Tryz.func88 28 [] [(2,nJ6)]
def cJ (y:UY)(x:AD):Vm AD:=
 let c:=y.1
 let a:=x.1
 let e:Bool:=a<len c
 let d:Bool:=wD c a<32
 let b:=cond d true (wD c a>126)
 (e->A7 a (len c)/\(!d->A7 a (len c))/\(!b->A6 (a+1)),e&&(!b),(a+1,()),e&&b,!e)
def pB3 y x:=(cJ y x).1
def rD1 y x:=(cJ y x).2.1
def uW4 y x:=(cJ y x).2.2.1
def pB4 y x:=(cJ y x).2.2.2.1
def nJ8 y x:=(cJ y x).2.2.2.2
def rT2 (y:UY)(x:AD):Bool:=
 false
def nJ9:=li [(0,vS)] [(3,vI)] rD1 uW4 pB3 (λy x=>[ex 1 (some (pB4 y x)) [(2,vB)] ((rT2 y x),()),ex 2 (some (nJ8 y x)) [(0,vS)] (y.1,())]) [[(2,vB)],[(0,vS)]]
def cK (d:List UInt8):Prop×Bool:=
 let a:=(d,())
 let c:=((0:Int),())
 let b:=A3 (rD1 a) (uW4 a) c
 (AB (rD1 a) (uW4 a) (pB3 a) c,cond (pB4 a b) (rT2 a b) (cond (len d≥1) (decide (len d<=256)) false))
def nK a:=(cK a).1
def VO a:=(cK a).2
theorem kF3:SK 89 (AU vS vB nK VO):=fb Tryz.func89 28 [] [(2,nJ9)]
abbrev uW5:Type:=((List C3)×Int×Unit)
def cL (y:uW5)(x:AD):Vm AD:=
 let f:=y.1
 let a:=x.1
 let b:Bool:=a<y.2.1
 let h:=nth f a DE
 let c:=!(VN h.1)
 let i:=nth f a DE
 let d:=!(VO i.2.1)
 let e:Bool:=a>0
 let j:=nth f a DE
 let k:=a-1
 let l:=nth f k DE
 let m:=cond e (Op.bytesLess j.1 l.1||j.1==l.1) false
 let g:=(!c)&&((!d)&&(!m))
 (b->A7 a (len f)/\nJ7 h.1/\(!c->A7 a (len f)/\nK i.2.1/\(!d->(e->A7 a (len f))/\(e->A6 (a-1))/\(e->A7 k (len f))))/\(g->A6 (a+1)),b&&g,(a+1,()),b&&(c||((!c)&&(d||((!d)&&m)))),!b)
def rT4 y x:=(cL y x).1
def VP y x:=(cL y x).2.1
def VQ y x:=(cL y x).2.2.1
def rT5 y x:=(cL y x).2.2.2.1
def nK0 y x:=(cL y x).2.2.2.2
def uW6 (y:uW5)(x:AD):Int:=
 let a:=y.1
 let b:=x.1
 (cond (!(VN (nth a b DE).1)) (13:Int) (cond (!(VO (nth a b DE).2.1)) 4 24))
def nK1:=li [(0,Bn),(8,vI)] [(9,vI)] VP VQ rT4 (λy x=>[ex 1 (some (rT5 y x)) [(2,vI)] ((uW6 y x),()),ex 2 (some (nK0 y x)) [] ()]) [[(2,vI)],[]]
def cM (e:List C3):Prop×Int:=
 let c:Bool:=len e>16
 let a:=(e,len e,())
 let d:=((0:Int),())
 let b:=A3 (VP a) (VQ a) d
 (!c->AB (VP a) (VQ a) (rT4 a) d,cond c 3 (cond (rT5 a b) (uW6 a b) 0))
def nK2 a:=(cM a).1
def f60 a:=(cM a).2
theorem kF4:SK 60 (AU Bn vI nK2 f60):=fb Tryz.func60 43 [kb kF2,kb kF3] [(4,nK1)]
def cN (p:AJ):Prop×Int:=
 let d:=Zf p.1 p.2.1 p.2.2.1
 let e:=d.2.1 !=0
 let f:=cond (len p.2.2.2.1>64) true (len (Q0 p).1>8)
 let g:=cond (p.2.2.2.2.1<1) true (p.2.2.2.2.1>1073741824)
 let h:=EW p
 let i:=h==0
 let r:=cond i (KQ p) h
 let j:=r==0
 let a:=cond j (RZ p) r
 let k:=a==0
 let b:=cond k (cE p) a
 let l:=b !=0
 let m:=cH p
 let n:=UX (Q1 p).1
 let o:=n !=0
 let q:=cond ((Q1 p).1.1 !=0) (cond ((Q1 p).1.1 !=p.1) true ((Q1 p).1.2.1 !=p.2.1)) false
 let c:=cond e d.2.1 (cond f 3 (cond g 2 (cond l b (cond m 11 (cond o n (cond q 15 (f60 (Q3 p).1)))))))
 (mK3 p.1 p.2.1 p.2.2.1/\(!e->!f->!g->nH5 p/\(i->nI0 p)/\(j->nI6 p)/\(k->nJ1 p)/\(!l->pX3 p/\(!m->pW2 (Q1 p).1/\(!o->!q->nK2 (Q3 p).1)))),c)
def pX4 a:=(cN a).1
def Fm a:=(cN a).2
theorem mK9:SK 20 (AU Al vI pX4 Fm):=fb Tryz.func20 84 [kb lZ1,kb kE5,kb kE7,kb kE9,kb kF0,kb kF1,kb mK5,kb kF4]
def cO (d:AJ)(e:Int):Prop×Int:=
 let c:=e==0
 let a:=DU d e
 let b:Bool:=a<0
 (!c->LB d e/\(!b->A7 a (len d.2.2.2.1)),cond c (0:Int) (cond b 9 (cond ((nth d.2.2.2.1 a A9).2.1 !=1) 8 0)))
def nK3 a b:=(cO a b).1
def cQ a b:=(cO a b).2
theorem kF5:SK 22 (BG Al vI vI nK3 cQ):=fb Tryz.func22 20 [kb R1]
abbrev sH3:Type:=(Int×AJ×(List Int)×Int×AI×(List AI)×Int×Int×(List Int)×Int×Unit)
def pR4 (y:sH3)(x:VM):Vn VM:=
 let e:=y.2.1
 let b:=(Q5 y).1
 let a:=x.2.1
 let c:Bool:=a<(Q4 y).1
 let d:=nth b a 0
 (c->A7 a (len b)/\A7 d (len e.2.2.2.1)/\A6 (a+1),c,(cond ((nth e.2.2.2.1 d A9).1==y.2.2.2.2.1.2.2.1) true x.1,a+1,()))
def sH4 y x:=(pR4 y x).1
def KR y x:=(pR4 y x).2.1
def KS y x:=(pR4 y x).2.2
def rT6 (y:sH3)(x:VM):Bool:=
 x.1
def pB5:List (Nat×Sh):=[(1,vI),(2,Ae),(5,Au),(6,vI),(8,vB),(12,Ar),(13,vI),(14,vI)]
def nK4:=li [(1,vI),(2,Ae),(5,Au),(6,vI),(7,(.box DD Bc)),(12,Ar),(13,vI),(14,vI),(23,Au),(24,vI)] [(8,vB),(25,vI)] KR KS sH4 (λy x=>[ex 4 none pB5 (y.1,y.2.1,y.2.2.1,y.2.2.2.1,(rT6 y x),(Q1 y).1,(Q3 y).1,(Q0 y).1,())]) [pB5]
def pR5 (y:sC)(x:Fj):Vn Fj:=
 let j:=y.1
 let c:=y.2.2.1
 let f:=y.2.2.2.1
 let d:=x.1
 let a:=x.2.1
 let g:Bool:=a<f
 let h:=nth c a A9
 let e:=(j,y.2.1,d,a,h,c,f,a,d,len d,())
 let k:=(h.2.2.1==j,(0:Int),())
 let b:=rT6 e (A3 (KR e) (KS e) k)
 let i:=([a]:List Int)
 (g->A7 a (len c)/\AB (KR e) (KS e) (sH4 e) k/\(b->((length d+length i:Nat):Int)<=4294967296)/\A6 (a+1),g,(cond b (d++i) d,a+1,()))
def rT7 y x:=(pR5 y x).1
def VR y x:=(pR5 y x).2.1
def VS y x:=(pR5 y x).2.2
def rT8 (y:sC)(x:Fj):(List Int):=
 x.1
def pB6:List (Nat×Sh):=[(5,Au)]
def nK5:=li [(1,vI),(2,Ae),(12,Ar),(13,vI)] [(5,Au),(14,vI)] VR VS rT7 (λy x=>[ex 2 none pB6 ((rT8 y x),())]) [pB6]
def cR (c:AJ)(d:Int):Prop×(List Int):=
 let a:=(d,c,c.2.2.2.1,len c.2.2.2.1,())
 let b:=(([]:List Int),(0:Int),())
 (AB (VR a) (VS a) (rT7 a) b,rT8 a (A3 (VR a) (VS a) b))
def Sa a b:=(cR a b).1
def EG a b:=(cR a b).2
theorem nK6:SK 61 (BG Al vI Bg Sa EG):=fb Tryz.func61 46 [] [(3,nK5),(7,nK4)] [(27,[(4,0,43,1005)]),(31,[(4,0,1005,0)])]
abbrev sH6:Type:=(AJ×(List Int)×Int×Unit)
def pR6 (y:sH6)(x:Fj):Vn Fj:=
 let f:=y.1
 let b:=y.2.1
 let g:=x.1
 let a:=x.2.1
 let c:Bool:=a<y.2.2.1
 let d:=nth b a 0
 let e:=([(nth f.2.2.2.1 d A9).1]:List Int)
 (c->A7 a (len b)/\A7 d (len f.2.2.2.1)/\((length g+length e:Nat):Int)<=4294967296/\A6 (a+1),c,(g++e,a+1,()))
def rU y x:=(pR6 y x).1
def cS y x:=(pR6 y x).2.1
def cT y x:=(pR6 y x).2.2
def rU0 (y:sH6)(x:Fj):(List Int):=
 x.1
def pB7:List (Nat×Sh):=[(5,Au)]
def nK7:=li [(2,Ae),(10,(.own Ab 10 false)),(11,vI)] [(5,Au),(12,vI)] cS cT rU (λy x=>[ex 2 none pB7 ((rU0 y x),())]) [pB7]
def cU (d:AJ)(e:Int):Prop×(List Int):=
 let b:=EG d e
 let a:=(d,b,len b,())
 let c:=(([]:List Int),(0:Int),())
 (Sa d e/\AB (cS a) (cT a) (rU a) c,rU0 a (A3 (cS a) (cT a) c))
def nK8 a b:=(cU a b).1
def KU a b:=(cU a b).2
theorem kF6:SK 23 (BG Al vI Bg nK8 KU):=fb Tryz.func23 27 [kb nK6] [(3,nK7)] [(11,[(4,0,24,1005)]),(15,[(4,0,1005,0)])]
def Sb (j:AJ)(k:Int):Prop×(AJ×(List AI)×Unit):=
 let d:=nth j.2.2.2.1 k A9
 let e:=len (EG j d.1)
 let a:=1+e
 let b:=k+a
 let f:=drop (toNat k) (take (toNat b) j.2.2.2.1)
 let g:=take (toNat k) j.2.2.2.1
 let h:=([]:List AI)++g
 let c:=k+a
 let i:=drop (toNat c) j.2.2.2.1
 (A7 k (len j.2.2.2.1)/\Sa j d.1/\A6 (1+e)/\A6 (k+a)/\(0<=k/\k<=b/\b<=len j.2.2.2.1)/\((length ([]:List AI)+length f:Nat):Int)<=4294967296/\(0<=k/\k<=len j.2.2.2.1)/\((length ([]:List AI)+length g:Nat):Int)<=4294967296/\A6 (k+a)/\(0<=c/\c<=len j.2.2.2.1)/\((length h+length i:Nat):Int)<=4294967296,((j.1,j.2.1,j.2.2.1,h++i,j.2.2.2.2),[]++f,()))
def cV a b:=(Sb a b).1
def GO a b:=(Sb a b).2
theorem kF7:SK 24 (BG Al vI (.tup (.cons Al (.cons (.own DD 1 true) .nl))) cV GO):=fb Tryz.func24 45 [kb nK6] [] [(5,[(4,0,27,1007)]),(7,[(4,0,33,1008)]),(11,[(4,0,1007,1)])] false [] [19,27]
abbrev tP7:Type:=(Int×Int×AJ×(List AI)×Int×Unit)
abbrev uJ4:Type:=(Int×Int×Int×Unit)
def pR7 (y:tP7)(x:uJ4):Vn uJ4:=
 let c:=y.2.2.2.1
 let e:=x.1
 let f:=x.2.1
 let a:=x.2.2.1
 let d:Bool:=a<y.2.2.2.2.1
 let b:=(nth c a A9).2.2.1==y.1
 (d->A7 a (len c)/\(b->A6 (e+1))/\A6 (a+1),d,(cond b (e+1) e,cond b (cond (e==y.2.1) a f) f,a+1,()))
def rU1 y x:=(pR7 y x).1
def KV y x:=(pR7 y x).2.1
def JN y x:=(pR7 y x).2.2
def rU2 (y:tP7)(x:uJ4):Int:=
 x.1
def rU3 (y:tP7)(x:uJ4):Int:=
 x.2.1
def pB9:List (Nat×Sh):=[(1,vI),(2,vI),(3,Ae),(8,vI),(9,vI)]
def nK9:=li [(1,vI),(2,vI),(3,Ae),(16,Ar),(17,vI)] [(8,vI),(9,vI),(18,vI)] KV JN rU1 (λy x=>[ex 2 none pB9 (y.1,y.2.1,y.2.2.1,(rU2 y x),(rU3 y x),())]) [pB9]
def cW (i:AJ)(j k:Int):Prop×(Int×Int×Unit):=
 let b:=(j,k,i,i.2.2.2.1,len i.2.2.2.1,())
 let h:=((0:Int),len i.2.2.2.1,(0:Int),())
 let g:=A3 (KV b) (JN b) h
 let a:=rU2 b g
 let c:=cond (k≥a) (j !=0) false
 let d:=DU i j
 let e:=d+1
 let f:=len (EG i j)
 (AB (KV b) (JN b) (rU1 b) h/\(c->LB i j/\A6 (d+1)/\Sa i j/\A6 (e+f)),(cond c (e+f) (rU3 b g),a,()))
def nL a b c:=(cW a b c).1
def Pg a b c:=(cW a b c).2
theorem kF8:SK 25 (DT Al vI vI (.tup (.cons vI (.cons vI .nl))) nL Pg):=fb Tryz.func25 52 [kb R1,kb nK6] [(4,nK9)]
def cX (c:AJ):Prop×(AJ×Int×Unit):=
 let a:=Fm c
 let b:=a !=0
 (pX4 c,(cond b (0,0,0,[],0,(0,0,[],()),[],[],()) c,cond b a 0,()))
def nL0 a:=(cX a).1
def cY a:=(cX a).2
theorem kF9:SK 26 (AU Al (.tup (.cons Al (.cons vI .nl))) nL0 cY):=fb Tryz.func26 12 [kb mK9]
def pR8 (d:AJ)(e:Int)(f:List AI):Prop×AJ×((List AI)×Unit):=
 let a:=take (toNat e) d.2.2.2.1
 let b:=a++f
 let c:=drop (toNat e) d.2.2.2.1
 ((0<=e/\e<=len d.2.2.2.1)/\(length a:Int)<=4294967296/\((length a+length f:Nat):Int)<=4294967296/\(0<=e/\e<=len d.2.2.2.1)/\((length b+length c:Nat):Int)<=4294967296,(d.1,d.2.1,d.2.2.1,b++c,d.2.2.2.2),(f,()))
def pC0 a b c:=(pR8 a b c).1
def nL1 a b c:=(pR8 a b c).2.1
def nZ7 a b c:=(pR8 a b c).2.2
theorem nL2:SK 27 (fnSpec [(0,Al),(1,vI),(2,Dj)] Al [(2,Dj)] (λx=>pC0 x.1 x.2.1 x.2.2.1) (λx=>nL1 x.1 x.2.1 x.2.2.1) (λx=>nZ7 x.1 x.2.1 x.2.2.1)):=fb Tryz.func27 25 [] [] [(5,[(4,0,13,1007)]),(7,[(4,0,16,1007)])] false [2]
abbrev uJ5:Type:=(Int×Int×AJ×(Int×Int×Int×(List AI)×Int×(Int×Int×(List Int)×Unit)×(List C3)×(List C4)×Unit)×Int×(List Int)×Int×Unit)
def cZ (y:uJ5)(x:AD):Vm AD:=
 let d:=(Q1 y).1
 let a:=x.1
 let b:Bool:=a<(Q3 y).1
 let c:=nth d a 0==y.1
 (b->A7 a (len d)/\(!c->A6 (a+1)),b&&(!c),(a+1,()),b&&c,!b)
def rU5 y x:=(cZ y x).1
def Ng y x:=(cZ y x).2.1
def Nh y x:=(cZ y x).2.2.1
def c0 y x:=(cZ y x).2.2.2.1
def rU6 y x:=(cZ y x).2.2.2.2
def rU7 (y:uJ5)(x:AD):(Int×Int×Int×(List AI)×Int×(Int×Int×(List Int)×Unit)×(List C3)×(List C4)×Unit):=
 (0,0,0,[],0,(0,0,[],()),[],[],())
def rU8 (y:uJ5)(x:AD):Int:=
 11
def pC1:List (Nat×Sh):=[(8,(.box T28 (.agg (.cons Ab (.cons Ab (.cons Ab (.cons Cr (.cons Ab (.cons Hy (.cons Cs (.cons Ct .nl)))))))) (.cons vI (.cons vI (.cons vI (.cons (.own DD 400800 false) (.cons vI (.cons (.agg (.cons Ab (.cons Ab (.cons (.sl Ab) .nl))) (.cons vI (.cons vI (.cons (.own Ab 400801 false) .nl)))) (.cons (.own I9 400802 false) (.cons (.own H0 400803 false) .nl))))))))))),(9,vI)]
def pC2:List (Nat×Sh):=[(2,vI),(3,vI),(4,Ae),(8,Aa),(11,vI)]
def nL3:=li [(2,vI),(3,vI),(4,Ae),(8,Aa),(11,vI),(43,(.own Ab 43 false)),(44,vI)] [(45,vI)] Ng Nh rU5 (λy x=>[ex 1 (some (c0 y x)) pC1 ((rU7 y x),(rU8 y x),()),ex 2 (some (rU6 y x)) pC2 (y.1,y.2.1,y.2.2.1,y.2.2.2.1,y.2.2.2.2.1,())]) [pC1,pC2]
def Ni (p:AJ)(A B C:Int):Prop×(AJ×Int×Unit):=
 let q:=Fm p
 let h:=q !=0
 let g:=DU p A
 let i:Bool:=g<0
 let r:=cQ p B
 let j:=r !=0
 let k:=B==A
 let s:=KU p A
 let d:=(B,C,p,((0:Int),(0:Int),(0:Int),([]:List AI),(0:Int),((0:Int),(0:Int),([]:List Int),()),([]:List C3),([]:List C4),()),g,s,len s,())
 let v:=((0:Int),())
 let f:=A3 (Ng d) (Nh d) v
 let b:=rU7 d f
 let e:=c0 d f
 let c:=GO p g
 let l:=Pg c.1 B C
 let m:=cond (C<0) true (C>l.2.1)
 let w:=((nth c.2.1 0 A9).1,(nth c.2.1 0 A9).2.1,B,(nth c.2.1 0 A9).2.2.2)
 let a:=set c.2.1 (toNat 0) w
 let t:=nL1 c.1 l.1 a
 let u:=cY t
 let z:=(b.1,b.2.1,b.2.2.1,b.2.2.2.1,b.2.2.2.2.1,((Q1 b).1.1,(Q1 b).1.2.1,(Q1 b).1.2.2.1,()),(Q3 b))
 let n:=cond k (0,0,0,[],0,(0,0,[],()),[],[],()) (cond e z (cond m (0,0,0,[],0,(0,0,[],()),[],[],()) u.1))
 let o:=cond i (0,0,0,[],0,(0,0,[],()),[],[],()) (cond j (0,0,0,[],0,(0,0,[],()),[],[],()) n)
 (pX4 p/\(!h->LB p A/\(!i->nK3 p B/\(!j->!k->nK8 p A/\AB (Ng d) (Nh d) (rU5 d) v/\(rU6 d f->cV p g/\nL c.1 B C/\(!m->A7 0 (len c.2.1)/\(0:Int)<len c.2.1/\pC0 c.1 l.1 a/\0<length a/\length a=length a/\length a=length a/\length a=length a/\length a=length a/\length a=length a/\length a=length a/\nL0 t))))),(cond h (0,0,0,[],0,(0,0,[],()),[],[],()) o,cond h q (cond i 9 (cond j r (cond k 11 (cond e (rU8 d f) (cond m 2 u.2.1))))),()))
def c6 a b c d:=(Ni a b c d).1
def f5 a b c d:=(Ni a b c d).2
def lJ9:=Fy Al vI vI vI (.tup (.cons Al (.cons vI .nl))) c6 f5
theorem kM3:SK 5 (Fy Al vI vI vI (.tup (.cons Al (.cons vI .nl))) c6 f5):=fx (λc=>{ c with wants:=[(27,[2])] }) Tryz.func5 86 [kb mK9,kb R1,kb kF5,kb kF6,kb kF7,kb kF8,kb kF9,kb nL2] [(13,nL3)] [(37,[(4,0,100057,1015)])]
abbrev uX:Type:=(FN×FN×Int×Unit)
def c7 (y:uX)(x:AD):Vm AD:=
 let d:=y.1
 let e:=y.2.1
 let a:=x.1
 let b:Bool:=a<y.2.2.1
 let c:=nth d.2.2.1 a 0!=nth e.2.2.1 a 0
 (b->A7 a (len d.2.2.1)/\A7 a (len e.2.2.1)/\(!c->A6 (a+1)),b&&(!c),(a+1,()),b&&c,!b)
def rV y x:=(c7 y x).1
def rD2 y x:=(c7 y x).2.1
def uX0 y x:=(c7 y x).2.2.1
def rV0 y x:=(c7 y x).2.2.2.1
def nL5 y x:=(c7 y x).2.2.2.2
def rV1 (y:uX)(x:AD):Bool:=
 false
def nL6:=li [(2,(.box Hy Ca)),(3,(.box Hy Ca)),(29,vI)] [(30,vI)] rD2 uX0 rV (λy x=>[ex 1 (some (rV0 y x)) [(4,vB)] ((rV1 y x),()),ex 2 (some (nL5 y x)) [] ()]) [[(4,vB)],[]]
def c8 (e f:FN):Prop×Bool:=
 let b:=cond (cond (e.1 !=f.1) true (e.2.1 !=f.2.1)) true (len e.2.2.1!=len f.2.2.1)
 let a:=(e,f,len e.2.2.1,())
 let d:=((0:Int),())
 let c:=A3 (rD2 a) (uX0 a) d
 (!b->AB (rD2 a) (uX0 a) (rV a) d,cond b false (cond (rV0 a c) (rV1 a c) true))
def nL7 a b:=(c8 a b).1
def f62 a b:=(c8 a b).2
theorem kG:SK 62 (BG Ca Ca vB nL7 f62):=fb Tryz.func62 45 [] [(4,nL6)]
def dA (y:uB4)(x:AD):Vm AD:=
 let d:=y.1
 let e:=y.2.1
 let b:=x.1
 let a:Bool:=b<len d.2.2.1
 let c:=!(Ty.eqb EP (nth d.2.2.1 b G6) (nth e.2.2.1 b G6))
 (a->A7 b (len d.2.2.1)/\A7 b (len e.2.2.1)/\(!c->A6 (b+1)),a&&(!c),(b+1,()),a&&c,!a)
def rV3 y x:=(dA y x).1
def rD3 y x:=(dA y x).2.1
def uX2 y x:=(dA y x).2.2.1
def rV4 y x:=(dA y x).2.2.2.1
def nL8 y x:=(dA y x).2.2.2.2
def rV5 (y:uB4)(x:AD):Bool:=
 false
def nL9:=li [(2,Dg),(3,Dg)] [(5,vI)] rD3 uX2 rV3 (λy x=>[ex 1 (some (rV4 y x)) [(4,vB)] ((rV5 y x),()),ex 2 (some (nL8 y x)) [] ()]) [[(4,vB)],[]]
def dB (e f:Hg):Prop×Bool:=
 let b:=cond (cond (e.1 !=f.1) true (e.2.1 !=f.2.1)) true (len e.2.2.1!=len f.2.2.1)
 let a:=(e,f,())
 let d:=((0:Int),())
 let c:=A3 (rD3 a) (uX2 a) d
 (!b->AB (rD3 a) (uX2 a) (rV3 a) d,cond b false (cond (rV4 a c) (rV5 a c) true))
def pX5 a b:=(dB a b).1
def VT a b:=(dB a b).2
theorem kG0:SK 64 (BG Cd Cd vB pX5 VT):=fb Tryz.func64 45 [] [(4,nL9)]
abbrev VU:Type:=(AJ×AJ×Int×Unit)
def VV (y:VU)(x:AD):Vm AD:=
 let f:=y.1
 let g:=y.2.1
 let a:=x.1
 let b:Bool:=a<y.2.2.1
 let d:=nth f.2.2.2.1 a A9
 let e:=nth g.2.2.2.1 a A9
 let c:=!(JG d e)
 (b->A7 a (len f.2.2.2.1)/\A7 a (len g.2.2.2.1)/\OD d e/\(!c->A6 (a+1)),b&&(!c),(a+1,()),b&&c,!b)
def rV6 y x:=(VV y x).1
def dC y x:=(VV y x).2.1
def dD y x:=(VV y x).2.2.1
def rV7 y x:=(VV y x).2.2.2.1
def rV8 y x:=(VV y x).2.2.2.2
def rV9 (y:VU)(x:AD):Bool:=
 false
def pC3:List (Nat×Sh):=[(2,Ae),(3,Ae)]
def nM:=li [(2,Ae),(3,Ae),(73,vI)] [(74,vI)] dC dD rV6 (λy x=>[ex 1 (some (rV7 y x)) [(4,vB)] ((rV9 y x),()),ex 2 (some (rV8 y x)) pC3 (y.1,y.2.1,())]) [[(4,vB)],pC3]
def VW (y:VU)(x:AD):Vm AD:=
 let d:=y.1
 let e:=y.2.1
 let a:=x.1
 let c:Bool:=a<y.2.2.1
 let b:=!(Ty.eqb I9 (nth (Q3 d).1 a DE) (nth (Q3 e).1 a DE))
 (c->A7 a (len (Q3 d).1)/\A7 a (len (Q3 e).1)/\(!b->A6 (a+1)),c&&(!b),(a+1,()),c&&b,!c)
def sQ8 y x:=(VW y x).1
def dE y x:=(VW y x).2.1
def vR y x:=(VW y x).2.2.1
def sQ9 y x:=(VW y x).2.2.2.1
def sR y x:=(VW y x).2.2.2.2
def sZ6 (y:VU)(x:AD):Bool:=
 false
def qH:List (Nat×Sh):=[(2,Ae),(3,Ae)]
def oQ:=li [(2,Ae),(3,Ae),(92,vI)] [(93,vI)] dE vR sQ8 (λy x=>[ex 1 (some (sQ9 y x)) [(4,vB)] ((sZ6 y x),()),ex 4 (some (sR y x)) qH (y.1,y.2.1,())]) [[(4,vB)],qH]
def VX (y:VU)(x:AD):Vm AD:=
 let g:=y.1
 let h:=y.2.1
 let a:=x.1
 let d:Bool:=a<y.2.2.1
 let b:=nth (Q0 g).1 a CS
 let c:=nth (Q0 h).1 a CS
 let f:=cond (cond (cond (b.1 !=c.1) true (!(b.2.1==c.2.1))) true (b.2.2.1 !=c.2.2.1)) true (b.2.2.2.1 !=c.2.2.2.1)
 let e:=cond f true (!(VT b.2.2.2.2.1 c.2.2.2.2.1))
 (d->A7 a (len (Q0 g).1)/\A7 a (len (Q0 h).1)/\(!f->pX5 b.2.2.2.2.1 c.2.2.2.2.1)/\(!e->A6 (a+1)),d&&(!e),(a+1,()),d&&e,!d)
def sR0 y x:=(VX y x).1
def dF y x:=(VX y x).2.1
def dG y x:=(VX y x).2.2.1
def sR1 y x:=(VX y x).2.2.2.1
def oQ0 y x:=(VX y x).2.2.2.2
def sZ7 (y:VU)(x:AD):Bool:=
 false
def oQ1:=li [(2,Ae),(3,Ae),(110,vI)] [(111,vI)] dF dG sR0 (λy x=>[ex 1 (some (sR1 y x)) [(4,vB)] ((sZ7 y x),()),ex 6 (some (oQ0 y x)) [] ()]) [[(4,vB)],[]]
def Sc (n o:AJ):Prop×Bool:=
 let l:=cond (cond (cond (cond (n.1 !=o.1) true (n.2.1 !=o.2.1)) true (n.2.2.1 !=o.2.2.1)) true (n.2.2.2.2.1 !=o.2.2.2.2.1)) true (len n.2.2.2.1!=len o.2.2.2.1)
 let g:=cond (cond l true (len (Q3 n).1!=len (Q3 o).1)) true (len (Q0 n).1!=len (Q0 o).1)
 let h:=cond g true (!(f62 (Q1 n).1 (Q1 o).1))
 let c:=(n,o,len n.2.2.2.1,())
 let m:=((0:Int),())
 let k:=A3 (dC c) (dD c) m
 let a:=(n,o,len (Q3 n).1,())
 let i:=((0:Int),())
 let d:=A3 (dE a) (vR a) i
 let b:=(n,o,len (Q0 n).1,())
 let j:=((0:Int),())
 let e:=A3 (dF b) (dG b) j
 let f:=cond h false (cond (rV7 c k) (rV9 c k) (cond (sQ9 a d) (sZ6 a d) (cond (sR1 b e) (sZ7 b e) true)))
 ((!g->nL7 (Q1 n).1 (Q1 o).1)/\(!h->AB (dC c) (dD c) (rV6 c) m/\(rV8 c k->AB (dE a) (vR a) (sQ8 a) i/\(sR a d->AB (dF b) (dG b) (sR0 b) j))),f)
def dH a b:=(Sc a b).1
def VY a b:=(Sc a b).2
theorem kG1:SK 28 (BG Al Al vB dH VY):=fb Tryz.func28 159 [kb kG,kb mK4,kb kG0] [(4,nM),(10,oQ),(16,oQ1)]
def f6t (b:AJ)(c:Int)(d:AJ)(e:Int):Prop×Bool:=
 let a:=c==e
 (a->dH b d,cond a (VY b d) false)
def VZ a b c d:=(f6t a b c d).1
def f6 a b c d:=(f6t a b c d).2
def lK:=Fy Al vI Al vI vB VZ f6
theorem kM4:SK 6 (Fy Al vI Al vI vB VZ f6):=fb Tryz.func6 17 [kb kG1]
def Sd (e f g:Int):Prop×(AJ×Int×Unit):=
 let b:=(e,f,g,([]:List AI),(1:Int),((0:Int),(0:Int),([]:List Int),()),([]:List C3),([]:List C4),())
 let c:=f35 b
 let a:=c !=0
 let d:=(cond a 0 e,cond a 0 f,cond a 0 g,([]:List AI),cond a 0 1,(cond a 0 0,cond a 0 0,([]:List Int),()),([]:List C3),([]:List C4),())
 (PJ b,(d,cond a c 0,()))
def pX6 a b c:=(Sd a b c).1
def f29 a b c:=(Sd a b c).2
theorem kG2:SK 29 (DT vI vI vI (.tup (.cons Al (.cons vI .nl))) pX6 f29):=fb Tryz.func29 21 [kb mI6]
def Se (p:AJ)(s:AI)(t u:Int):Prop×(AJ×Int×Int×Unit):=
 let k:=f8 p
 let b:=k !=0
 let l:=Iq p t
 let c:=l !=0
 let m:Bool:=u<0
 let d:=cond m true (u>len (pW0 p t))
 let e:=cond (len p.2.2.2.1≥64) true (p.2.2.2.2.1==1073741824)
 let a:=E3 p
 let n:=UL s
 let r:=(p.2.2.2.2.1,n.2.1,t,n.2.2.2)
 let o:=OB p t u
 let q:=([r]:List AI)
 let j:=(a.1,a.2.1,a.2.2.1,UP a.2.2.2.1 o q,a.2.2.2.2.1+1,(Q1 a))
 let f:=UQ j
 let g:=f.2.1 !=0
 let h:=cond e (0,0,0,[],0,(0,0,[],()),[],[],()) (cond g (0,0,0,[],0,(0,0,[],()),[],[],()) f.1)
 let i:=cond c (0,0,0,[],0,(0,0,[],()),[],[],()) (cond d (0,0,0,[],0,(0,0,[],()),[],[],()) h)
 (rL p/\(!b->Ri p t/\(!c->(!m->UO p t)/\(!d->!e->OA p/\Rs s/\Rw p t u/\sW a.2.2.2.1 o q/\A6 (a.2.2.2.2.1+1)/\Ry j))),(cond b (0,0,0,[],0,(0,0,[],()),[],[],()) i,cond b 0 (cond c 0 (cond d 0 (cond e 0 (cond g 0 p.2.2.2.2.1)))),cond b k (cond c l (cond d 2 (cond e 3 (cond g f.2.1 0)))),()))
def rW a b c d:=(Se a b c d).1
def dI a b c d:=(Se a b c d).2
theorem kG3:SK 30 (Fy Al Bc vI vI (.tup (.cons Al (.cons vI (.cons vI .nl)))) rW dI):=fx (λc=>{ c with wants:=[(17,[0,2])] }) Tryz.func30 84 [kb UB,kb mJ4,kb nB8,kb qZ4,kb nC,kb mK1,kb mK2,kb nB6] [] [(23,[(4,0,50,401300),(4,0,300050,401303)]),(31,[(4,0,66,401300)]),(34,[(1,13,3,0),(1,13,7,0)])] false [] [65]
abbrev uX4:Type:=((List Int)×(List Int)×Int×Unit)
def Wa (y:uX4)(x:AD):Vm AD:=
 let d:=y.1
 let e:=y.2.1
 let a:=x.1
 let b:Bool:=a<y.2.2.1
 let c:=nth d a 0!=nth e a 0
 (b->A7 a (len d)/\A7 a (len e)/\(!c->A6 (a+1)),b&&(!c),(a+1,()),b&&c,!b)
def sH9 y x:=(Wa y x).1
def qR3 y x:=(Wa y x).2.1
def tW4 y x:=(Wa y x).2.2.1
def pC5 y x:=(Wa y x).2.2.2.1
def nM0 y x:=(Wa y x).2.2.2.2
def rW0 (y:uX4)(x:AD):Bool:=
 false
def nM1:=li [(0,Ak),(1,Ak),(12,vI)] [(13,vI)] qR3 tW4 sH9 (λy x=>[ex 1 (some (pC5 y x)) [(4,vB)] ((rW0 y x),()),ex 2 (some (nM0 y x)) [] ()]) [[(4,vB)],[]]
def Sf (e f:List Int):Prop×Bool:=
 let b:=len e !=len f
 let a:=(e,f,len e,())
 let d:=((0:Int),())
 let c:=A3 (qR3 a) (tW4 a) d
 (!b->AB (qR3 a) (tW4 a) (sH9 a) d,cond b false (cond (pC5 a c) (rW0 a c) true))
def Sg a b:=(Sf a b).1
def dJ a b:=(Sf a b).2
theorem kG4:SK 31 (BG Ak Ak vB Sg dJ):=fb Tryz.func31 26 [] [(4,nM1)]
abbrev sI:Type:=((List AI)×Int×Unit)
def qR4 (y:sI)(x:Fj):Vn Fj:=
 let e:=y.1
 let d:=x.1
 let a:=x.2.1
 let b:Bool:=a<y.2.1
 let c:=([(nth e a A9).1]:List Int)
 (b->A7 a (len e)/\((length d+length c:Nat):Int)<=4294967296/\A6 (a+1),b,(d++c,a+1,()))
def sI0 y x:=(qR4 y x).1
def qR5 y x:=(qR4 y x).2.1
def tW5 y x:=(qR4 y x).2.2
def rW2 (y:sI)(x:Fj):(List Int):=
 x.1
def pC6:List (Nat×Sh):=[(3,(.own Ab 1003 false))]
def nM2:=li [(7,Ar),(8,vI)] [(3,(.own Ab 1003 false)),(9,vI)] qR5 tW5 sI0 (λy x=>[ex 2 none pC6 ((rW2 y x),())]) [pC6]
def Si (c:AJ):Prop×(List Int):=
 let a:=(c.2.2.2.1,len c.2.2.2.1,())
 let b:=(([]:List Int),(0:Int),())
 (AB (qR5 a) (tW5 a) (sI0 a) b,rW2 a (A3 (qR5 a) (tW5 a) b))
def Wb a:=(Si a).1
def f32 a:=(Si a).2
theorem kG5:SK 32 (AU Al Bg Wb f32):=fb Tryz.func32 20 [] [(3,nM2)] [(11,[(4,0,17,1003)]),(15,[(4,0,1003,0)])]
def qR6 (y:uJ)(x:CT):Vn CT:=
 let a:=y.1
 let d:=x.1
 let e:=x.2.1
 let b:=(nth a.2.2.2.1 d A9).2.2.1 !=0
 let c:=nth a.2.2.2.1 d A9
 (A7 d (len a.2.2.2.1)/\(b->A7 d (len a.2.2.2.1)/\Io a c.2.2.1/\A6 (e+1)),b,(f9 a c.2.2.1,e+1,()))
def sI2 y x:=(qR6 y x).1
def qR7 y x:=(qR6 y x).2.1
def tW6 y x:=(qR6 y x).2.2
def rW3 (y:uJ)(x:CT):Int:=
 x.2.1
def nM3:=li [(2,Ae)] [(5,vI),(6,vI)] qR7 tW6 sI2 (λy x=>[ex 2 none [(6,vI)] ((rW3 y x),())]) [[(6,vI)]]
def Sj (f:AJ)(g:Int):Prop×Int:=
 let d:=f9 f g
 let b:Bool:=d<0
 let c:=cond b true (f8 f !=0)
 let a:=(f,())
 let e:=(d,(1:Int),())
 (Io f g/\(!b->rL f)/\(!c->AB (qR7 a) (tW6 a) (sI2 a) e),cond c 0 (rW3 a (A3 (qR7 a) (tW6 a) e)))
def pX7 a b:=(Sj a b).1
def f33 a b:=(Sj a b).2
theorem kG6:SK 33 (BG Al vI vI pX7 f33):=fb Tryz.func33 35 [kb UB,kb QV] [(5,nM3)]
abbrev tJ8:Type:=(AJ×(Int×Int×Int×(List AI)×Int×(Int×Int×(List Int)×Unit)×(List C3)×(List C4)×Unit)×Int×Int×Int×Unit)
abbrev uF5:Type:=((List (Int×Int×Unit))×Int×Unit)
def rD4 (y:tJ8)(x:uF5):Vn uF5:=
 let d:=y.1
 let e:=y.2.2.1
 let a:=x.2.1
 let b:Bool:=a<y.2.2.2.2.1
 let c:=e+a
 (b->A6 (e+a)/\A7 c (len d.2.2.2.1)/\A6 (d.2.2.2.2.1+a)/\A6 (a+1),b,(GV Ab Ab (nth d.2.2.2.1 c A9).1 (d.2.2.2.2.1+a) x.1,a+1,()))
def tQ y x:=(rD4 y x).1
def rW4 y x:=(rD4 y x).2.1
def tJ9 y x:=(rD4 y x).2.2
def sZ8 (y:tJ8)(x:uF5):(List (Int×Int×Unit)):=
 x.1
def qH1:List (Nat×Sh):=[(2,Ae),(4,Aa),(8,vI),(9,vI),(10,Cv)]
def oQ3:=li [(2,Ae),(4,Aa),(8,vI),(9,vI),(52,vI)] [(10,Cv),(53,vI)] rW4 tJ9 tQ (λy x=>[ex 2 none qH1 (y.1,y.2.1,y.2.2.1,y.2.2.2.1,(sZ8 y x),())]) [qH1]
abbrev tK:Type:=(AJ×(Int×Int×Int×(List AI)×Int×(Int×Int×(List Int)×Unit)×(List C3)×(List C4)×Unit)×Int×Int×(List (Int×Int×Unit))×Int×Unit)
def rD5 (y:tK)(x:sI):Vn sI:=
 let m:=y.1
 let n:=y.2.2.1
 let d:=y.2.2.2.2.1
 let e:=x.1
 let b:=x.2.1
 let g:Bool:=b<(Q1 y).1
 let h:=n+b
 let i:=nth m.2.2.2.1 h A9
 let c:=UL i
 let j:=Option.getD (Ey Ab Ab c.1 d) 0
 let s:=(j,c.2)
 let k:=(j,c.2.1,Option.getD (Ey Ab Ab c.2.2.1 d) 0,c.2.2.2)
 let a:=cond (Option.isSome (Ey Ab Ab c.2.2.1 d)) k s
 let l:=(Vf a (Option.getD (Ey Ab Ab (Qh a).1 d) 0) ((Qj a).1,()))
 let f:=set e (toNat b) (cond (cond (Option.isSome (Ey Ab Ab (Qh a).1 d)) (a.2.1==10) false) l a)
 (g->A6 (n+b)/\A7 h (len m.2.2.2.1)/\Rs i/\A7 b (len e)/\b<len e/\A6 (b+1),g,(f,b+1,()))
def tQ0 y x:=(rD5 y x).1
def rW5 y x:=(rD5 y x).2.1
def tK0 y x:=(rD5 y x).2.2
def sZ9 (y:tK)(x:sI):(List AI):=
 x.1
def qH2:List (Nat×Sh):=[(2,Ae),(4,Aa),(8,vI),(9,vI),(12,(.own DD 1012 true))]
def oQ4:=li [(2,Ae),(4,Aa),(8,vI),(9,vI),(10,Cv),(73,vI)] [(12,(.own DD 1012 true)),(74,vI)] rW5 tK0 tQ0 (λy x=>[ex 4 none qH2 (y.1,y.2.1,y.2.2.1,y.2.2.2.1,(sZ9 y x),())]) [qH2]
def Sk (p:AJ)(u:Int):Prop×((Int×Int×Int×(List AI)×Int×FN×(List C3)×(List C4)×Unit)×Int×Int×Unit):=
 let l:=f8 p
 let c:=l !=0
 let i:=f9 p u
 let d:Bool:=i<0
 let m:=len (CJ p u)
 let a:=1+m
 let n:=len p.2.2.2.1
 let o:Bool:=(n+a)>64
 let e:=cond o true ((p.2.2.2.2.1+a)>1073741824)
 let g:=(p,((0:Int),(0:Int),(0:Int),([]:List AI),(0:Int),((0:Int),(0:Int),([]:List Int),()),([]:List C3),([]:List C4),()),i,a,a,())
 let r:=(([]:List (Int×Int×Unit)),(0:Int),())
 let q:=List.replicate (toNat a) A9
 let h:=(p,((0:Int),(0:Int),(0:Int),([]:List AI),(0:Int),((0:Int),(0:Int),([]:List Int),()),([]:List C3),([]:List C4),()),i,a,sZ8 g (A3 (rW4 g) (tJ9 g) r),len q,())
 let s:=(q,(0:Int),())
 let f:=sZ9 h (A3 (rW5 h) (tK0 h) s)
 let b:=E3 p
 let j:=i+a
 let k:=cond c (0,0,[],()) (cond d (0,0,[],()) (cond e (0,0,[],()) (Q1 b).1))
 let t:=(cond c 0 (cond d 0 (cond e 0 b.1)),cond c 0 (cond d 0 (cond e 0 b.2.1)),cond c 0 (cond d 0 (cond e 0 b.2.2.1)),cond c [] (cond d [] (cond e [] (UP b.2.2.2.1 j f))),cond c 0 (cond d 0 (cond e 0 (b.2.2.2.2.1+a))),k,cond c [] (cond d [] (cond e [] (Q3 b).1)),cond c [] (cond d [] (cond e [] (Q0 b).1)),())
 (rL p/\(!c->Io p u/\(!d->M9 p u/\A6 (1+m)/\A6 (n+a)/\(!o->A6 (p.2.2.2.2.1+a))/\(!e->AB (rW4 g) (tJ9 g) (tQ g) r/\(0<=a/\a<=a/\a<=4294967296)/\AB (rW5 h) (tK0 h) (tQ0 h) s/\OA p/\A6 (i+a)/\sW b.2.2.2.1 j f/\A6 (b.2.2.2.2.1+a)))),(t,cond c 0 (cond d 0 (cond e 0 p.2.2.2.2.1)),cond c l (cond d 9 (cond e 3 0)),()))
def pX8 a b:=(Sk a b).1
def f34 a b:=(Sk a b).2
theorem kG7:SK 34 (BG Al vI (.tup (.cons (.agg (.cons Ab (.cons Ab (.cons Ab (.cons Cr (.cons Ab (.cons Hy (.cons Cs (.cons Ct .nl)))))))) (.cons vI (.cons vI (.cons vI (.cons Co (.cons vI (.cons Ca (.cons Bn (.cons Dx .nl))))))))) (.cons vI (.cons vI .nl)))) pX8 f34):=fx (λc=>{ c with wants:=[(17,[0,2])],maps:=maps }) Tryz.func34 138 [kb UB,kb QV,kb oZ8,kb nB8,kb nC,kb nB6] [(12,oQ3),(18,oQ4)] [(21,[(4,0,51,1010)]),(33,[(4,0,71,1012)]),(61,[(4,0,121,401900),(4,0,300121,401903)]),(63,[(4,0,128,401900)]),(67,[(4,0,401900,0),(4,0,401903,3)])] false [] [71]
def f7t :Prop×Bool:=
 let s:=((5:Int),(0:Int),(0:Int),(9:Int),())
 let c:=f29 4 4 0
 let C:=cond (cond (cond (c.2.1 !=0) true (c.1.1 !=4)) true (c.1.2.1 !=4)) true (c.1.2.2.2.2.1 !=1)
 let A:=((0:Int),(1:Int),(0:Int),([103]:List UInt8),false,false,false,(65535:Int),(0:Int),((0:Int),(0:Int),([]:List Int),()),Lv,(0:Int),((0:Int),(0:Int),([]:List CP),()),G6,(0:Int),([]:List Int),(0:Int),([]:List B4),([]:List AA),(0:Int),(0:Int),(0:Int),(0:Int),([]:List UInt8),(0:Int),(0:Int),(0:Int),((0:Int),(0:Int),(0:Int),([]:List A0),()),())
 let h:=dI c.1 A 0 0
 let E:=cond (h.2.2.1 !=0) true (h.2.1 !=1)
 let B:=((0:Int),(3:Int),(0:Int),([102]:List UInt8),false,false,false,(65535:Int),(0:Int),((0:Int),(0:Int),([]:List Int),()),Lv,(0:Int),((0:Int),(0:Int),([]:List CP),()),s,(0:Int),([]:List Int),(0:Int),([]:List B4),([]:List AA),(0:Int),(0:Int),(0:Int),(0:Int),([]:List UInt8),(0:Int),(0:Int),(0:Int),((0:Int),(0:Int),(0:Int),([]:List A0),()),())
 let i:=dI h.1 B 1 0
 let F:=cond (i.2.2.1 !=0) true (i.2.1 !=2)
 let j:=((0:Int),(3:Int),(0:Int),([102]:List UInt8),false,false,false,(65535:Int),(0:Int),((0:Int),(0:Int),([]:List Int),()),Lv,(0:Int),((0:Int),(0:Int),([]:List CP),()),s,(0:Int),([]:List Int),(0:Int),([]:List B4),([]:List AA),(0:Int),(0:Int),(0:Int),(0:Int),([]:List UInt8),(0:Int),(0:Int),(0:Int),((0:Int),(0:Int),(0:Int),([]:List A0),()),())
 let b:=dI i.1 j 0 0
 let v:=cond (b.2.2.1 !=0) true (b.2.1 !=3)
 let H:=f32 b.1
 let J:=([(3:Int),(1:Int),(2:Int)]:List Int)
 let w:=cond v true (!(dJ H J))
 let K:=pW0 b.1 0
 let L:=([(3:Int),(1:Int)]:List Int)
 let M:=cond w true (!(dJ K L))
 let N:=cond M true (f33 b.1 2!=2)
 let O:=cond N true (f8 b.1!=0)
 let d:=f4 b.1 3 1 1
 let e:=d.2.1 !=0
 let m:=f32 d.1
 let n:=([(1:Int),(2:Int),(3:Int)]:List Int)
 let o:=cond e true (!(dJ m n))
 let q:=(f4 b.1 1 1 0).2.1 !=11
 let k:=((0:Int),(3:Int),(0:Int),([102]:List UInt8),false,false,true,(65535:Int),(0:Int),((0:Int),(0:Int),([]:List Int),()),Lv,(0:Int),((0:Int),(0:Int),([]:List CP),()),s,(0:Int),([]:List Int),(0:Int),([]:List B4),([]:List AA),(0:Int),(0:Int),(0:Int),(0:Int),([]:List UInt8),(0:Int),(0:Int),(0:Int),((0:Int),(0:Int),(0:Int),([]:List A0),()),())
 let r:=(dI b.1 k 0 0).2.2.1 !=14
 let a:=f34 b.1 1
 let f:=cond (a.2.2.1==0) (a.2.1==4) false
 let l:=(a.1.1,a.1.2.1,a.1.2.2.1,a.1.2.2.2.1,a.1.2.2.2.2.1,(Q1 a.1).1,(Q3 a.1).1,(Q0 a.1).1,())
 let t:=f32 l
 let u:=([(3:Int),(1:Int),(2:Int),(4:Int),(5:Int)]:List Int)
 let g:=cond (cond f (dJ t u) false) (a.1.2.2.2.2.1==6) false
 let z:=cond F false (cond O false (cond o false (cond q false (cond r false (cond g ((nth a.1.2.2.2.1 4 A9).2.2.1==4) false)))))
 (pX6 4 4 0/\((!C)->rW c.1 A 0 0/\((!E)->rW h.1 B 1 0/\((!F)->rW i.1 j 0 0/\(!v->Wb b.1)/\(!v->Sg H J)/\(!w->UO b.1 0)/\(!w->Sg K L)/\((!M)->pX7 b.1 2)/\((!N)->rL b.1)/\((!O)->Rz b.1 3 1 1/\(!e->Wb d.1)/\(!e->Sg m n)/\(!o->Rz b.1 1 1 0/\(!q->rW b.1 k 0 0/\(!r->pX8 b.1 1/\(f->Wb l)/\(f->Sg t u)/\(g->A7 4 (len a.1.2.2.2.1))/\(g->4<len a.1.2.2.2.1)))))))),cond C false (cond E false z))
def Wc :Prop:=(f7t).1
def f7 :Bool:=(f7t).2
def lK0:Am.Spec:=fnSpec [] vB [] (λx=>Wc ) (λx=>f7 ) (λ_=>())
theorem kM5:SK 7 (fnSpec [] vB [] (λx=>Wc ) (λx=>f7 ) (λ_=>())):=fb Tryz.func7 160 [kb lZ,kb UB,kb qZ4,kb kG2,kb kG3,kb kG4,kb kG5,kb kG6,kb kG7] [] [(51,[(4,0,131,400900),(4,0,300131,400903)])]
def f3t (d:AJ)(e:D30):Prop×Bool:=
 let a:=f4 d e.1 e.2.1 e.2.2.1
 let b:=f5 d e.1 e.2.1 e.2.2.1
 let c:=f6 a.1 a.2.1 b.1 b.2.1
 (Rz d e.1 e.2.1 e.2.2.1/\c6 d e.1 e.2.1 e.2.2.1/\VZ a.1 a.2.1 b.1 b.2.1/\(c->Wc),cond c f7 false)
def f3_ok a b:=(f3t a b).1
def f3 a b:=(f3t a b).2
def lK1:=BG Al (.val T30) vB f3_ok f3
def kG8:=Cy [(4,nC0),(5,lJ9),(6,lK),(7,lK0)] [] [] 39
theorem f3_is:SK 3 lK1:=fq (c:=kG8) Tryz.func3 ⟨lZ,kM3,kM4,kM5,trivial⟩
end Go.Proofs.YtkmmjpnfhaecdaaGreatDoor.Am
