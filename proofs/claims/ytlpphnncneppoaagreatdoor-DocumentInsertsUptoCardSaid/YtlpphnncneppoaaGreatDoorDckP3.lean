/- Printed by program, part 3. No condition. -/
import Derived.Test.YtlpphnncneppoaaGreatDoorDckP2
set_option linter.unusedVariables false
set_option synthInstance.maxSize 4000
set_option synthInstance.maxHeartbeats 400000
namespace Go.Proofs.YtlpphnncneppoaaGreatDoor.Am
open Go Go.Am Go.Proofs
open _root_.Int (tdiv toNat)
open _root_.List (length replicate set take)
open _root_.Option (getD isSome)
def J2 (a b c:Int):Prop×Bool:=
 (True,cond (a≥b) (decide (a<=c)) false)
def uI a b c:=(J2 a b c).1
def BK a b c:=(J2 a b c).2
theorem pC6:SK 244 (DU vI vI vI vB uI BK):=fb Tryz.func244 15
abbrev vH2:Type:=((List A9)×Int×Int×(List A0)×Unit)
def Tz (y:vH2)(x:AD):Vm AD:=
 let a:=x.1
 let b:Bool:=a<3
 let c:=nth y.2.2.2.1 a A1
 let e:=!(BK c.1 (-65536:Int) 65536)
 let d:=cond e true (!(BK c.2.1 (-65536:Int) 65536))
 (b->A7 a 3/\uI c.1 (-65536:Int) 65536/\(!e->uI c.2.1 (-65536:Int) 65536)/\(!d->A6 (a+1)),b&&(!d),(a+1,()),b&&d,!b)
def rE2 y x:=(Tz y x).1
def PO y x:=(Tz y x).2.1
def TA y x:=(Tz y x).2.2.1
def tQ9 y x:=(Tz y x).2.2.2.1
def tR y x:=(Tz y x).2.2.2.2
def tW7 (y:vH2)(x:AD):Int:=
 2
def rE3:List (Nat×Sh):=[(19,Ai),(20,vI),(21,vI)]
def pC7:=li [(19,Ai),(20,vI),(21,vI),(26,(.val (.arr 3 AQ)))] [(27,vI)] PO TA rE2 (λy x=>[ex 1 (some (tQ9 y x)) [(2,vI)] ((tW7 y x),()),ex 4 (some (tR y x)) rE3 (y.1,y.2.1,y.2.2.1,())]) [[(2,vI)],rE3]
def NY (y:Ek)(x:AD):Vm AD:=
 let e:=y.1
 let f:=y.2.1
 let b:=x.1
 let d:Bool:=b<f
 let a:=(e,f,b,(nth e b A5).2.1,())
 let h:=((0:Int),())
 let g:=A3 (PO a) (TA a) h
 let c:=tR a g
 (d->A7 b (len e)/\AB (PO a) (TA a) (rE2 a) h/\(c->A6 (b+1)),d&&c,(b+1,()),d&&tQ9 a g,!d)
def rV7 y x:=(NY y x).1
def Lq y x:=(NY y x).2.1
def NZ y x:=(NY y x).2.2.1
def Xv y x:=(NY y x).2.2.2.1
def oC1 y x:=(NY y x).2.2.2.2
def sQ (y:Ek)(x:AD):Int:=
 let b:=y.1
 let c:=x.1
 let a:=(b,y.2.1,c,(nth b c A5).2.1,())
 (tW7 a (A3 (PO a) (TA a) (0,())))
def oC2:=li [(19,Ai),(20,vI)] [(21,vI)] Lq NZ rV7 (λy x=>[ex 1 (some (Xv y x)) [(2,vI)] ((sQ y x),()),ex 2 (some (oC1 y x)) [] ()]) [[(2,vI)],[]]
def lL5 (g:C5):Prop×Int:=
 let b:=!(BK g.2.1 0 65536)
 let c:=BH g.2.2.1
 let d:=c !=0
 let a:=(g.2.2.1,len g.2.2.1,())
 let f:=((0:Int),())
 let e:=A3 (Lq a) (NZ a) f
 (uI g.2.1 0 65536/\(!b->PB g.2.2.1/\(!d->AB (Lq a) (NZ a) (rV7 a) f)),cond b 2 (cond d c (cond (Xv a e) (sQ a e) 0)))
def pC8 a:=(lL5 a).1
def FF a:=(lL5 a).2
theorem mL:SK 278 (AU (.val Hl) vI pC8 FF):=fb Tryz.func278 42 [kb vR,kb pC6] [(7,oC2),(10,pC7)]
def mL0 (a b:DG):Prop×Bool:=
 (True,cond (a.1>b.1) true (cond (a.1==b.1) (decide (a.2.1>b.2.1)) false))
def oQ1 a b:=(mL0 a b).1
def I3 a b:=(mL0 a b).2
theorem mL1:SK 279 (BF (.val Hm) (.val Hm) vB oQ1 I3):=fb Tryz.func279 24
abbrev vX2:Type:=(A8×(List C5)×Int×Unit)
def Oa (y:vX2)(x:AD):Vm AD:=
 let j:=y.1
 let f:=y.2.1
 let a:=x.1
 let b:Bool:=a<y.2.2.1
 let d:=nth f a BG
 let e:Bool:=a>0
 let h:=a-1
 let c:=cond e (decide (d.1<=(nth j.2.2.2.1 h BG).1)) false
 let i:=FF d !=0
 let g:=(!c)&&(!i)
 (b->A7 a (len f)/\(e->A6 (a-1))/\(e->A7 h (len j.2.2.2.1))/\(!c->pC8 d)/\(g->A6 (a+1)),b&&g,(a+1,()),b&&(c||((!c)&&i)),!b)
def rV8 y x:=(Oa y x).1
def TB y x:=(Oa y x).2.1
def uF2 y x:=(Oa y x).2.2.1
def tJ9 y x:=(Oa y x).2.2.2.1
def rV9 y x:=(Oa y x).2.2.2.2
def uZ7 (y:vX2)(x:AD):Int:=
 let a:=x.1
 let b:=nth y.2.1 a BG
 (cond (cond (a>0) (decide (b.1<=(nth y.1.2.2.2.1 (a-1) BG).1)) false) 24 (FF b))
def oC3:=li [(1,Ah),(35,(.val Di)),(36,vI)] [(37,vI)] TB uF2 rV8 (λy x=>[ex 1 (some (tJ9 y x)) [(2,vI)] ((uZ7 y x),()),ex 2 (some (rV9 y x)) [(1,Ah)] (y.1,())]) [[(2,vI)],[(1,Ah)]]
abbrev vH4:Type:=(A8×(List DG)×Int×Unit)
def Ob (y:vH4)(x:AD):Vm AD:=
 let k:=y.1
 let f:=y.2.1
 let a:=x.1
 let b:Bool:=a<y.2.2.1
 let c:=nth f a BV
 let d:Bool:=a>0
 let h:=a-1
 let i:=nth k.2.2.2.2.1 h BV
 let e:=cond d (!(I3 c i)) false
 let j:=!(BK c.2.2.1 (-65536:Int) 65536)
 let g:=(!e)&&(!j)
 (b->A7 a (len f)/\(d->A6 (a-1))/\(d->A7 h (len k.2.2.2.2.1))/\(d->oQ1 c i)/\(!e->uI c.2.2.1 (-65536:Int) 65536)/\(g->A6 (a+1)),b&&g,(a+1,()),b&&(e||((!e)&&j)),!b)
def rE4 y x:=(Ob y x).1
def TC y x:=(Ob y x).2.1
def vQ4 y x:=(Ob y x).2.2.1
def uO1 y x:=(Ob y x).2.2.2.1
def pC9 y x:=(Ob y x).2.2.2.2
def vQ5 (y:vH4)(x:AD):Int:=
 let a:=x.1
 (cond (cond (a>0) (!(I3 (nth y.2.1 a BV) (nth y.1.2.2.2.2.1 (a-1) BV))) false) (24:Int) 2)
def pD:=li [(1,Ah),(63,(.val Ds)),(64,vI)] [(65,vI)] TC vQ4 rE4 (λy x=>[ex 1 (some (uO1 y x)) [(2,vI)] ((vQ5 y x),()),ex 4 (some (pC9 y x)) [] ()]) [[(2,vI)],[]]
def lL6 (k:A8):Prop×Int:=
 let d:=!(BK k.1 1 65536)
 let e:=cond d true (!(BK k.2.1 0 65536))
 let f:=cond e true (!(BK k.2.2.1 0 65536))
 let g:=cond (len k.2.2.2.1>256) true (len k.2.2.2.2.1>256)
 let b:=(k,k.2.2.2.1,len k.2.2.2.1,())
 let j:=((0:Int),())
 let i:=A3 (TB b) (uF2 b) j
 let a:=(k,k.2.2.2.2.1,len k.2.2.2.2.1,())
 let h:=((0:Int),())
 let c:=A3 (TC a) (vQ4 a) h
 (uI k.1 1 65536/\(!d->uI k.2.1 0 65536)/\(!e->uI k.2.2.1 0 65536)/\(!f->!g->AB (TB b) (uF2 b) (rV8 b) j/\(rV9 b i->AB (TC a) (vQ4 a) (rE4 a) h)),cond f 2 (cond g 3 (cond (tJ9 b i) (uZ7 b i) (cond (uO1 a c) (vQ5 a c) 0))))
def qG2 a:=(lL6 a).1
def CQ a:=(lL6 a).2
theorem mL2:SK 243 (AU Bm vI qG2 CQ):=fb Tryz.func243 88 [kb pC6,kb mL,kb mL1] [(6,oC3),(15,pD)]
abbrev vX3:Type:=((List UInt8)×Int×Int×Int×Unit)
def Oc (y:vX3)(x:AD):Vm AD:=
 let d:=y.1
 let a:=x.1
 let b:Bool:=a<y.2.2.2.1
 let e:Bool:=wD d a<32
 let f:=cond e true (wD d a>126)
 let c:=cond f (wD d a !=10) false
 (b->A7 a (len d)/\(!e->A7 a (len d))/\(f->A7 a (len d))/\(!c->A6 (a+1)),b&&(!c),(a+1,()),b&&c,!b)
def rW y x:=(Oc y x).1
def PQ y x:=(Oc y x).2.1
def Xw y x:=(Oc y x).2.2.1
def tK y x:=(Oc y x).2.2.2.1
def rW0 y x:=(Oc y x).2.2.2.2
def sQ0 (y:vX3)(x:AD):Int:=
 4
def oC4:=li [(1,vS),(2,vI),(3,vI),(17,vI)] [(18,vI)] PQ Xw rW (λy x=>[ex 1 (some (tK y x)) [(8,vI)] ((sQ0 y x),()),ex 2 (some (rW0 y x)) [(1,vS),(2,vI),(3,vI)] (y.1,y.2.1,y.2.2.1,())]) [[(8,vI)],[(1,vS),(2,vI),(3,vI)]]
def mL3 (i:A8)(j:List UInt8)(k l:Int):Prop×Int:=
 let c:=CQ i
 let d:=c !=0
 let a:=(j,k,l,len j,())
 let h:=((0:Int),())
 let g:=A3 (PQ a) (Xw a) h
 let e:Bool:=len j>128
 let f:=!(BK k 1 1048576)
 let b:=cond d c (cond (tK a g) (sQ0 a g) (cond e 3 (cond (cond f true (!(BK l 0 1048576))) 2 0)))
 (qG2 i/\(!d->AB (PQ a) (Xw a) (rW a) h/\(rW0 a g->!e->uI k 1 1048576/\(!f->uI l 0 1048576))),b)
def qG3 a b c d:=(mL3 a b c d).1
def Ku a b c d:=(mL3 a b c d).2
theorem mL4:SK 210 (FA Bm vS vI vI vI qG3 Ku):=fb Tryz.func210 49 [kb mL2,kb pC6] [(5,oC4)]
abbrev uZ8:Type:=(A8×Unit×(A8×(List Int)×Unit)×(List C5)×Int×Unit)
def qG4 (y:uZ8)(x:CU):Vn CU:=
 let b:=y.2.2.2.1
 let a:=x.2.1
 let c:Bool:=a<y.2.2.2.2.1
 (c->A7 a (len b)/\A6 (a+1),c,(cond ((nth b a BG).1==63) a x.1,a+1,()))
def rW1 y x:=(qG4 y x).1
def Xx y x:=(qG4 y x).2.1
def Xy y x:=(qG4 y x).2.2
def tA (y:uZ8)(x:CU):Int:=
 x.1
def rW2:List (Nat×Sh):=[(1,Ah),(3,Cn),(4,vI),(12,An)]
def oC5:=li [(1,Ah),(3,Cn),(12,An),(14,(.val Di)),(15,vI)] [(4,vI),(16,vI)] Xx Xy rW1 (λy x=>[ex 2 none rW2 (y.1,y.2.1,(tA y x),y.2.2.1,())]) [rW2]
abbrev uJ3:Type:=(A8×Unit×Int×Unit)
abbrev TD:Type:=((A8×(List Int)×Unit)×Int×Unit)
def rE5 (y:uJ3)(x:TD):Vn TD:=
 let b:=x.1
 let a:=x.2.1
 let c:Bool:=a<256
 (c->A7 a 256/\A6 (a+1),c,((b.1,set b.2.1 (toNat a) y.2.2.1,()),a+1,()))
def rE6 y x:=(rE5 y x).1
def Xz y x:=(rE5 y x).2.1
def X0 y x:=(rE5 y x).2.2
def uO2 (y:uJ3)(x:TD):(A8×(List Int)×Unit):=
 let a:=x.1
 (a.1,a.2.1,())
def rE7:List (Nat×Sh):=[(1,Ah),(3,Cn),(12,An)]
def pD0:=li [(1,Ah),(3,Cn),(4,vI)] [(12,An),(26,vI)] Xz X0 rE6 (λy x=>[ex 4 none rE7 (y.1,y.2.1,(uO2 y x),())]) [rE7]
abbrev uJ5:Type:=(Unit×(List C5)×Int×Unit)
def rE8 (y:uJ5)(x:TD):Vn TD:=
 let c:=y.2.1
 let b:=x.1
 let a:=x.2.1
 let d:Bool:=a<y.2.2.1
 let e:=nth c a BG
 (d->A7 a (len c)/\A7 e.1 256/\A6 (a+1),d,((b.1,set b.2.1 (toNat e.1) a,()),a+1,()))
def rE9 y x:=(rE8 y x).1
def X1 y x:=(rE8 y x).2.1
def X2 y x:=(rE8 y x).2.2
def uO3 (y:uJ5)(x:TD):(A8×(List Int)×Unit):=
 let a:=x.1
 (a.1,a.2.1,())
def rF:List (Nat×Sh):=[(3,Cn),(12,An)]
def pD1:=li [(3,Cn),(37,(.val Di)),(38,vI)] [(12,An),(39,vI)] X1 X2 rE9 (λy x=>[ex 6 none rF (y.1,(uO3 y x),())]) [rF]
def mL5 (i:A8):Prop×AV:=
 let e:=(i,(),(i,replicate 256 (0:Int),()),i.2.2.2.1,len i.2.2.2.1,())
 let h:=((-1:Int),(0:Int),())
 let c:=(i,(),tA e (A3 (Xx e) (Xy e) h),())
 let f:=((i,replicate 256 (0:Int),()),(0:Int),())
 let a:=uO2 c (A3 (Xz c) (X0 c) f)
 let d:=((),i.2.2.2.1,len i.2.2.2.1,())
 let g:=((a.1,a.2.1,()),(0:Int),())
 let b:=uO3 d (A3 (X1 d) (X2 d) g)
 (AB (Xx e) (Xy e) (rW1 e) h/\AB (Xz c) (X0 c) (rE6 c) f/\AB (X1 d) (X2 d) (rE9 d) g,(b.1,b.2.1,()))
def X3 a:=(mL5 a).1
def B9 a:=(mL5 a).2
theorem mL6:SK 211 (AU Bm Bb X3 B9):=fb Tryz.func211 53 [] [(4,oC5),(10,pD0),(15,pD1)] [(39,[(3,12,0,0)])]
abbrev uJ7:Type:=(Int×A8×AV×(List (List A0))×Int×Int×A0×(List (List UInt8))×Int×Int×(List A0)×Int×Int×(List (List A0))×Int×Int×(List A0)×Int×Unit)
def rF1 (y:uJ7)(x:CZ):Vn CZ:=
 let o:=y.1
 let c:=y.2.1
 let k:=(Q1 y).1
 let l:=(Q3 y).1
 let m:=(Qe y).1
 let j:=x.1
 let a:=x.2.1
 let n:Bool:=a<(Qd y).1
 let b:=nth m a A1
 let d:=l.2.1+b.1
 let e:=d*o
 let f:=k*c.2.2.1
 let g:=c.2.1+f
 let h:=g-b.2.1
 let i:=h*o
 (n->A7 a (len m)/\A6 (l.2.1+b.1)/\A6 (d*o)/\Ej e c.1/\A6 (k*c.2.2.1)/\A6 (c.2.1+f)/\A6 (g-b.2.1)/\A6 (h*o)/\Ej i c.1/\A7 a (len j)/\a<len j/\A6 (a+1),n,(set j (toNat a) (AS e c.1,AS i c.1,()),a+1,()))
def tR0 y x:=(rF1 y x).1
def TE y x:=(rF1 y x).2.1
def TF y x:=(rF1 y x).2.2
def tW8 (y:uJ7)(x:CZ):(List A0):=
 x.1
def rF2:List (Nat×Sh):=[(2,vI),(4,Ah),(11,Bb),(12,Az),(13,vI),(14,vI),(19,Bz),(24,(.own AQ 1024 true)),(41,Be),(42,vI),(43,vI),(54,Ce),(55,vI),(56,vI),(74,Dp),(75,vI),(76,vI)]
def pD2:=li [(2,vI),(4,Ah),(11,Bb),(12,Az),(13,vI),(14,vI),(19,Bz),(41,Be),(42,vI),(43,vI),(54,Ce),(55,vI),(56,vI),(74,Dp),(75,vI),(76,vI),(89,Bd),(90,vI)] [(24,(.own AQ 1024 true)),(91,vI)] TE TF tR0 (λy x=>[ex 8 none rF2 (y.1,y.2.1,y.2.2.1,y.2.2.2.1,y.2.2.2.2.1,(Q1 y).1,(Q3 y).1,(tW8 y x),(Q0 y).1,(Q5 y).1,(Q4 y).1,(Q2 y).1,(Q7 y).1,(Q6 y).1,(Q9 y).1,(Qb y).1,(Qa y).1,())]) [rF2]
abbrev X4:Type:=(Int×A8×AV×Int×A0×(List (List UInt8))×Int×Int×(List A0)×Int×Int×(List (List A0))×Int×Unit)
abbrev Ft:Type:=((List (List A0))×Int×Int×Unit)
def X5 (y:X4)(x:Ft):Vm Ft:=
 let i:=(Q7 y).1
 let l:=(Q6 y).1
 let h:=x.1
 let k:=x.2.1
 let a:=x.2.2.1
 let d:Bool:=a<l
 let e:=nth i a []
 let m:=len e
 let j:=k+m
 let f:Bool:=j>4096
 let c:=len e
 let b:=(y.1,y.2.1,y.2.2.1,h,j,y.2.2.2.1,y.2.2.2.2.1,(Q1 y).1,(Q3 y).1,(Q0 y).1,(Q5 y).1,(Q4 y).1,(Q2 y).1,i,l,a,e,len e,())
 let n:=(replicate (toNat c) A1,(0:Int),())
 let g:=([tW8 b (A3 (TE b) (TF b) n)]:List (List A0))
 (d->A7 a (len i)/\A6 (k+m)/\(!f->(0<=c/\c<=c/\c<=4294967296)/\AB (TE b) (TF b) (tR0 b) n/\((length h+length g:Nat):Int)<=4294967296)/\(!f->A6 (a+1)),d&&(!f),(h++g,j,a+1,()),d&&f,!d)
def tR1 y x:=(X5 y x).1
def Mg y x:=(X5 y x).2.1
def Od y x:=(X5 y x).2.2.1
def tR2 y x:=(X5 y x).2.2.2.1
def rF3 y x:=(X5 y x).2.2.2.2
def tW9 (y:X4)(x:Ft):(List (List A0)):=
 []
def tX (y:X4)(x:Ft):Int:=
 3
def rF4:List (Nat×Sh):=[(8,Au),(9,vI)]
def tX0 (y:X4)(x:Ft):(List (List A0)):=
 x.1
def tX1 (y:X4)(x:Ft):Int:=
 x.2.1
def rF5:List (Nat×Sh):=[(2,vI),(4,Ah),(11,Bb),(12,Az),(13,vI),(14,vI),(41,Be),(42,vI),(43,vI),(54,Ce),(55,vI),(56,vI)]
def pD3:=li [(2,vI),(4,Ah),(11,Bb),(14,vI),(19,Bz),(41,Be),(42,vI),(43,vI),(54,Ce),(55,vI),(56,vI),(74,Dp),(75,vI)] [(12,Az),(13,vI),(76,vI)] Mg Od tR1 (λy x=>[ex 1 (some (tR2 y x)) rF4 ((tW9 y x),(tX y x),()),ex 6 (some (rF3 y x)) rF5 (y.1,y.2.1,y.2.2.1,(tX0 y x),(tX1 y x),y.2.2.2.1,(Q1 y).1,(Q3 y).1,(Q0 y).1,(Q5 y).1,(Q4 y).1,(Q2 y).1,())]) [rF4,rF5]
abbrev X6:Type:=(Int×A8×AV×Int×(List (List UInt8))×Int×Int×(List A0)×Int×Unit)
def X7 (y:X6)(x:Ft):Vm Ft:=
 let m:=y.2.1
 let g:=(Q0 y).1
 let j:=(Q5 y).1
 let b:=x.2.2.1
 let e:Bool:=b<j
 let h:=nth g b A1
 let k:=nth m.2.2.2.1 h.1 BG
 let i:=BI k.2.2.1
 let f:=i.2.1 !=0
 let a:=(y.1,m,y.2.2.1,y.2.2.2.1,h,y.2.2.2.2.1,(Q1 y).1,(Q3 y).1,g,j,b,i.1,len i.1,())
 let l:=(x.1,x.2.1,(0:Int),())
 let d:=A3 (Mg a) (Od a) l
 let c:=(!f)&&rF3 a d
 (e->A7 b (len g)/\A7 h.1 (len m.2.2.2.1)/\Xp k.2.2.1/\(!f->AB (Mg a) (Od a) (tR1 a) l)/\(c->A6 (b+1)),e&&c,(tX0 a d,tX1 a d,b+1,()),e&&(f||((!f)&&tR2 a d)),!e)
def tR3 y x:=(X7 y x).1
def Mh y x:=(X7 y x).2.1
def wK y x:=(X7 y x).2.2.1
def X8 y x:=(X7 y x).2.2.2.1
def rF6 y x:=(X7 y x).2.2.2.2
def tX2 (y:X6)(x:Ft):(List (List A0)):=
 let f:=y.2.1
 let c:=(Q0 y).1
 let d:=x.2.2.1
 let e:=nth c d A1
 let a:=BI (nth f.2.2.2.1 e.1 BG).2.2.1
 let b:=(y.1,f,y.2.2.1,y.2.2.2.1,e,y.2.2.2.2.1,(Q1 y).1,(Q3 y).1,c,(Q5 y).1,d,a.1,len a.1,())
 (cond (a.2.1 !=0) [] (tW9 b (A3 (Mg b) (Od b) (x.1,x.2.1,0,()))))
def X9 (y:X6)(x:Ft):Int:=
 let f:=y.2.1
 let c:=(Q0 y).1
 let d:=x.2.2.1
 let e:=nth c d A1
 let a:=BI (nth f.2.2.2.1 e.1 BG).2.2.1
 let b:=(y.1,f,y.2.2.1,y.2.2.2.1,e,y.2.2.2.2.1,(Q1 y).1,(Q3 y).1,c,(Q5 y).1,d,a.1,len a.1,())
 (cond (a.2.1 !=0) a.2.1 (tX b (A3 (Mg b) (Od b) (x.1,x.2.1,0,()))))
def rF7:List (Nat×Sh):=[(8,Au),(9,vI)]
def tX3 (y:X6)(x:Ft):(List (List A0)):=
 x.1
def tX4 (y:X6)(x:Ft):Int:=
 x.2.1
def rF8:List (Nat×Sh):=[(2,vI),(4,Ah),(11,Bb),(12,Az),(13,vI),(41,Be),(42,vI),(43,vI)]
def pD4:=li [(2,vI),(4,Ah),(11,Bb),(14,vI),(41,Be),(42,vI),(43,vI),(54,Ce),(55,vI)] [(12,Az),(13,vI),(56,vI)] Mh wK tR3 (λy x=>[ex 1 (some (X8 y x)) rF7 ((tX2 y x),(X9 y x),()),ex 4 (some (rF6 y x)) rF8 (y.1,y.2.1,y.2.2.1,(tX3 y x),(tX4 y x),y.2.2.2.2.1,(Q1 y).1,(Q3 y).1,())]) [rF7,rF8]
abbrev wX:Type:=(Int×A8×AV×(List (List UInt8))×Int×Unit)
def XA (y:wX)(x:Ft):Vm Ft:=
 let f:=y.2.2.1
 let g:=y.2.2.2.1
 let h:=y.2.2.2.2.1
 let b:=x.2.2.1
 let e:Bool:=b<h
 let i:=nth g b []
 let j:=C0 f i
 let a:=(y.1,y.2.1,f,b,g,h,b,j.1,len j.1,())
 let k:=(x.1,x.2.1,(0:Int),())
 let d:=A3 (Mh a) (wK a) k
 let c:=rF6 a d
 (e->A7 b (len g)/\WW f i/\AB (Mh a) (wK a) (tR3 a) k/\(c->A6 (b+1)),e&&c,(tX3 a d,tX4 a d,b+1,()),e&&X8 a d,!e)
def sI0 y x:=(XA y x).1
def wR y x:=(XA y x).2.1
def J3 y x:=(XA y x).2.2.1
def XB y x:=(XA y x).2.2.2.1
def oC6 y x:=(XA y x).2.2.2.2
def tA2 (y:wX)(x:Ft):(List (List A0)):=
 let c:=y.2.2.1
 let d:=y.2.2.2.1
 let a:=x.2.2.1
 let e:=C0 c (nth d a [])
 let b:=(y.1,y.2.1,c,a,d,y.2.2.2.2.1,a,e.1,len e.1,())
 (tX2 b (A3 (Mh b) (wK b) (x.1,x.2.1,0,())))
def uF4 (y:wX)(x:Ft):Int:=
 let c:=y.2.2.1
 let d:=y.2.2.2.1
 let a:=x.2.2.1
 let e:=C0 c (nth d a [])
 let b:=(y.1,y.2.1,c,a,d,y.2.2.2.2.1,a,e.1,len e.1,())
 (X9 b (A3 (Mh b) (wK b) (x.1,x.2.1,0,())))
def rW3:List (Nat×Sh):=[(8,Au),(9,vI)]
def sQ1 (y:wX)(x:Ft):(List (List A0)):=
 x.1
def rW4:List (Nat×Sh):=[(12,Az)]
def oC7:=li [(2,vI),(4,Ah),(11,Bb),(41,Be),(42,vI)] [(12,Az),(13,vI),(43,vI)] wR J3 sI0 (λy x=>[ex 1 (some (XB y x)) rW3 ((tA2 y x),(uF4 y x),()),ex 2 (some (oC6 y x)) rW4 ((sQ1 y x),())]) [rW3,rW4]
def Mi (i:A8)(j:List UInt8)(k l:Int):Prop×((List (List A0))×Int×Unit):=
 let e:=Ku i j k l
 let c:=e !=0
 let d:=B9 i
 let f:=f212 d j k l
 let a:=(k,i,d,f,len f,())
 let h:=(([]:List (List A0)),(0:Int),(0:Int),())
 let g:=A3 (wR a) (J3 a) h
 let b:=XB a g
 (qG3 i j k l/\(!c->X3 i/\Tb d j k l/\AB (wR a) (J3 a) (sI0 a) h),(cond c [] (cond b (tA2 a g) (sQ1 a g)),cond c e (cond b (uF4 a g) 0),()))
def PR a b c d:=(Mi a b c d).1
def DI a b c d:=(Mi a b c d).2
def oQ2:=FA Bm vS vI vI (.tup (.cons Au (.cons vI .nl))) PR DI
theorem mL7:SK 173 (FA Bm vS vI vI (.tup (.cons Au (.cons vI .nl))) PR DI):=fb Tryz.func173 134 [kb Kh,kb oP3,kb mL4,kb mL6,kb mF1,kb oN3] [(8,oC7),(12,pD4),(18,pD3),(25,pD2)] [(21,[(4,0,51,1016)]),(29,[(4,0,68,1020)]),(47,[(4,0,88,1024)]),(58,[(1,24,0,0)]),(59,[(4,0,129,1012)]),(67,[(4,0,1012,0)])] false [] [88]
def PS (a:List UInt8):List (List UInt8):=Lib.fields a
def XC (a:List UInt8):Prop:=(length a:Int)<=4294967280/\(a.all λb=>decide (b.toNat<128))=true
instance (a:List UInt8):Decidable (XC a):=by
  unfold XC
  infer_instance
def mL8:List (Nat×Sh):=[(0,Dn)]
def mL9:Sh:=Be
def mM:List (Nat×Sh):=[]
def oQ3:Am.Spec:=fnSpec mL8 mL9 mM (λx=>XC x.1) (λx=>PS x.1) (λ_=>())
theorem tab0:G0=Lib.asciiSpaceTab:=by kernel_rfl
theorem mM0:SpecOk Tryz.prog 214 oQ3:=wA9 (F:=PS) (e:=9) (ok:=XC) ⟨_,Tryz.func214,by kernel_rfl,by decide⟩ λs w χ kg hg =>
  Any.strings_Fields_core Tryz.lays157 (by kernel_rfl) s w (by have h1:=kg.1;rw[jN] at h1;have h2:s.data.size=s.size:=rfl;omega)
    (λj b hj=>by have:=List.all_eq_true.1 kg.2 b (List.mem_of_getElem? hj);simpa using this)
    (λc hc=>by
      have h1:=wB9 hg (g:=0) (n:=256) (k:=.u8) (l:=G0) (jQ ..) c hc;rw[tab0,Lib.asciiSpaceTab_at c hc] at h1;exact h1)
def mM1 (a:List UInt8)(b:Int):Prop×Int:=
 (o6 a b,WR a b)
def rG a b:=(mM1 a b).1
def PT a b:=(mM1 a b).2
instance (a b):Decidable (rG a b):=by unfold rG mM1;dsimp only;infer_instance
theorem mM2:SK 215 (BF vS Bc vI rG PT):=fb Tryz.func215 8 [kb mD3]
def mM3 (b c d e:Int):Prop×(List A9):=
 let a:=([((1:Int),([(b,c,()),A1,A1]:List A0),()),((2:Int),([(d,c,()),A1,A1]:List A0),()),((2:Int),([(d,e,()),A1,A1]:List A0),()),((2:Int),([(b,e,()),A1,A1]:List A0),()),((5:Int),replicate 3 A1,())]:List A9)
 (True,a)
def qG6 a b c d:=(mM3 a b c d).1
def XD a b c d:=(mM3 a b c d).2
instance (a b c d):Decidable (qG6 a b c d):=by unfold qG6 mM3;dsimp only;infer_instance
theorem mM4:SK 252 (FA vI vI vI vI Bk qG6 XD):=fb Tryz.func252 31 [] [] [(3,[(4,0,30,0)])]
abbrev XE:Type:=(Int×Int×(List A9)×Int×Unit)
def sY0 (y:XE)(x:AD):Vn AD:=
 let b:=x.1
 let a:Bool:=(b+1)<7
 let c:=b+1
 let d:=cond a (F5 .i64 (EW y.2.1 c 64) 1==1) false
 (A6 (b+1)/\(a->A6 (b+1))/\(a->0<=c)/\(d->A6 (b+1)),d,(b+1,()))
def tK0 y x:=(sY0 y x).1
def rG0 y x:=(sY0 y x).2.1
def tA4 y x:=(sY0 y x).2.2
instance (y x):Decidable (tK0 y x):=by unfold tK0 sY0;dsimp only;infer_instance
def sQ2 (y:XE)(x:AD):Int:=
 x.1
def rW5:List (Nat×Sh):=[(0,vI),(1,vI),(5,Cf),(6,vI),(7,vI)]
def oC8:=li [(0,vI),(1,vI),(5,Cf),(6,vI)] [(7,vI)] rG0 tA4 tK0 (λy x=>[ex 4 none rW5 (y.1,y.2.1,y.2.2.1,y.2.2.2.1,(sQ2 y x),())]) [rW5]
abbrev HZ:Type:=(Unit)
def sY1 (y:HZ)(x:XE):Vn XE:=
 let e:=x.1
 let o:=x.2.1
 let q:=x.2.2.1
 let d:=x.2.2.2.1
 let s:Bool:=d<7
 let b:=F5 .i64 (EW o d 64) 1==0
 let f:=(e,o,q,d,())
 let t:=(d,())
 let a:=sQ2 f (A3 (rG0 f) (tA4 f) t)
 let g:=100*e
 let h:=100*d
 let i:=700-h
 let j:=100*e
 let k:=j+100
 let l:=100*a
 let m:=600-l
 let n:=XD g i k m
 let c:=b||(!b)
 let r:=cond b d a
 (s->0<=d/\(!b->AB (rG0 f) (tA4 f) (tK0 f) t/\A6 (100*e)/\A6 (100*d)/\A6 (700-h)/\A6 (100*e)/\A6 (j+100)/\A6 (100*a)/\A6 (600-l)/\qG6 g i k m/\((length q+length n:Nat):Int)<=4294967296)/\(c->A6 (r+1)),s&&c,(cond b e e,cond b o o,cond b q (q++n),r+1,()))
def tK1 y x:=(sY1 y x).1
def rG1 y x:=(sY1 y x).2.1
def tA6 y x:=(sY1 y x).2.2
instance (y x):Decidable (tK1 y x):=by unfold tK1 sY1;dsimp only;infer_instance
def sQ3 (y:HZ)(x:XE):(List A9):=
 x.2.2.1
def oC9:=li [] [(0,vI),(1,vI),(5,Cf),(6,vI)] rG1 tA6 tK1 (λy x=>[ex 2 none [(5,Cf)] ((sQ3 y x),())]) [[(5,Cf)]]
def mM5 (b c:Int):Prop×(List A9):=
 let a:=(b,c,([]:List A9),(0:Int),())
 (AB (rG1 ()) (tA6 ()) (tK1 ()) a,sQ3 () (A3 (rG1 ()) (tA6 ()) a))
def qG7 a b:=(mM5 a b).1
def XF a b:=(mM5 a b).2
instance (a b):Decidable (qG7 a b):=by unfold qG7 mM5;dsimp only;infer_instance
theorem mM6:SK 216 (BF vI vI Bk qG7 XF):=fb Tryz.func216 47 [kb mM4] [(3,oC9),(7,oC8)] [(19,[(4,0,44,1005)]),(23,[(4,0,1005,0)])]
abbrev vX9:Type:=((List UInt8)×(List (List UInt8))×Int×Int×Int×Unit)
abbrev vD:Type:=((Int×Int×Int×(List C5)×(List DG)×Unit)×(Int×Int×Int×(List C5)×(List DG)×Unit)×(Int×Int×(List A9)×Unit)×Int×Unit)
def sY2 (y:vX9)(x:vD):Vn vD:=
 let o:=y.1
 let b:=x.1
 let c:=x.2.1
 let q:=x.2.2.1
 let a:=x.2.2.2.1
 let d:Bool:=a<y.2.2.2.2.1
 let e:=2*a
 let f:=wD o e
 let g:=PT ([48,49,50,51,52,53,54,55,56,57,97,98,99,100,101,102]:List UInt8) f
 let h:=16*g
 let i:=2*a
 let j:=i+1
 let k:=wD o j
 let l:=PT ([48,49,50,51,52,53,54,55,56,57,97,98,99,100,101,102]:List UInt8) k
 let m:=h+l
 let n:=XF a m
 (d->A6 (2*a)/\A7 e (len o)/\rG ([48,49,50,51,52,53,54,55,56,57,97,98,99,100,101,102]:List UInt8) f/\A6 (16*g)/\A6 (2*a)/\A6 (i+1)/\A7 j (len o)/\rG ([48,49,50,51,52,53,54,55,56,57,97,98,99,100,101,102]:List UInt8) k/\A6 (h+l)/\qG7 a m/\((length q.2.2.1+length n:Nat):Int)<=4294967296/\A6 (a+1),d,(b,c,(q.1,q.2.1,q.2.2.1++n,()),a+1,()))
def tK2 y x:=(sY2 y x).1
def rG2 y x:=(sY2 y x).2.1
def tA7 y x:=(sY2 y x).2.2
instance (y x):Decidable (tK2 y x):=by unfold tK2 sY2;dsimp only;infer_instance
def sQ4 (y:vX9)(x:vD):(Int×Int×Int×(List C5)×(List DG)×Unit):=
 let a:=x.1
 a
def sQ5 (y:vX9)(x:vD):(Int×Int×Int×(List C5)×(List DG)×Unit):=
 let a:=x.2.1
 a
def sQ6 (y:vX9)(x:vD):(Int×Int×(List A9)×Unit):=
 let a:=x.2.2.1
 (a.1,a.2.1,a.2.2.1,())
def rW6:List (Nat×Sh):=[(0,Af),(1,Ag),(4,Bs),(8,Be),(9,vI),(10,vI)]
def oD:=li [(3,vS),(8,Be),(9,vI),(10,vI),(21,vI)] [(0,Af),(1,Ag),(4,Bs),(22,vI)] rG2 tA7 tK2 (λy x=>[ex 4 none rW6 ((sQ4 y x),(sQ5 y x),(sQ6 y x),y.2.1,y.2.2.1,y.2.2.2.1,())]) [rW6]
abbrev TG:Type:=((List (List UInt8))×Int×Unit)
abbrev vN:Type:=((Int×Int×Int×(List C5)×(List DG)×Unit)×(Int×Int×Int×(List C5)×(List DG)×Unit)×Int×Unit)
def sY3 (y:TG)(x:vN):Vn vN:=
 let l:=y.1
 let n:=y.2.1
 let f:=x.1
 let g:=x.2.1
 let d:=x.2.2.1
 let h:Bool:=d<n
 let i:=nth l d []
 let j:=len i
 let e:=(i,l,n,d,tdiv j 2,())
 let o:=(f,g,(IntKind.wrap .u8 (32+d),(600:Int),([]:List A9),()),(0:Int),())
 let m:=A3 (rG2 e) (tA7 e) o
 let b:=sQ4 e m
 let a:=sQ5 e m
 let c:=sQ6 e m
 let k:=([(c.1,c.2.1,c.2.2.1,())]:List C5)
 (h->A7 d (len l)/\A6 (32+d)/\A6 (tdiv j 2)/\AB (rG2 e) (tA7 e) (tK2 e) o/\((length a.2.2.2.1+length k:Nat):Int)<=4294967296/\A6 (d+1),h,(b,(a.1,a.2.1,a.2.2.1,a.2.2.2.1++k,a.2.2.2.2.1,()),d+1,()))
def tK3 y x:=(sY3 y x).1
def rG3 y x:=(sY3 y x).2.1
def tA8 y x:=(sY3 y x).2.2
instance (y x):Decidable (tK3 y x):=by unfold tK3 sY3;dsimp only;infer_instance
def qR2 (y:TG)(x:vN):(Int×Int×Int×(List C5)×(List DG)×Unit):=
 let a:=x.1
 a
def sQ7 (y:TG)(x:vN):(Int×Int×Int×(List C5)×(List DG)×Unit):=
 let a:=x.2.1
 a
def rW7:List (Nat×Sh):=[(0,Af),(1,Ag)]
def oD0:=li [(8,Be),(9,vI)] [(0,Af),(1,Ag),(10,vI)] rG3 tA8 tK3 (λy x=>[ex 2 none rW7 ((qR2 y x),(sQ7 y x),())]) [rW7]
def mM7 :Prop×A8:=
 let d:=PS WQ
 let b:=(d,len d,())
 let e:=(((0:Int),(0:Int),(0:Int),([]:List C5),([]:List DG),()),((1000:Int),(800:Int),(1200:Int),([]:List C5),([]:List DG),()),(0:Int),())
 let a:=sQ7 b (A3 (rG3 b) (tA8 b) e)
 let c:=(a.1,a.2.1,a.2.2.1,a.2.2.2.1,([((65:Int),(86:Int),(-100:Int),()),((76:Int),(84:Int),(-100:Int),()),((84:Int),(97:Int),(-100:Int),()),((86:Int),(65:Int),(-100:Int),())]:List DG),())
 (XC WQ/\AB (rG3 b) (tA8 b) (tK3 b) e,c)
def TH :Prop:=(mM7).1
def I4 :A8:=(mM7).2
instance:Decidable TH:=by unfold TH mM7;dsimp only;infer_instance
def oQ4:Am.Spec:=fnSpec [] Bm [] (λx=>TH ) (λx=>I4 ) (λ_=>())
theorem mM8:SK 174 (fnSpec [] Bm [] (λx=>TH ) (λx=>I4 ) (λ_=>())):=fb Tryz.func174 60 [kb mM0,kb mM2,kb mM6] [(3,oD0),(7,oD)] [(21,[(4,0,43,400400)]),(25,[(4,0,50,400100)]),(29,[(4,0,57,400101)]),(31,[(4,0,400100,400000),(4,0,400101,400001)])]
abbrev PU:Type:=((List (List A0))×C3×(List (List A0))×Int×Unit)
def XG (y:PU)(x:CU):Vm CU:=
 let d:=y.2.2.1
 let g:=x.1
 let a:=x.2.1
 let b:Bool:=a<y.2.2.2.1
 let e:=len (nth d a [])
 let f:=g+e
 let c:Bool:=f>4096
 (b->A7 a (len d)/\A6 (g+e)/\(!c->A6 (a+1)),b&&(!c),(f,a+1,()),b&&c,!b)
def tK4 y x:=(XG y x).1
def I5 y x:=(XG y x).2.1
def I6 y x:=(XG y x).2.2.1
def Oe y x:=(XG y x).2.2.2.1
def sI2 y x:=(XG y x).2.2.2.2
def tA9 (y:PU)(x:CU):(List (List A0)):=
 []
def sQ8 (y:PU)(x:CU):Int:=
 3
def rW8:List (Nat×Sh):=[(4,Au),(5,vI)]
def rW9:List (Nat×Sh):=[(0,Aj),(3,Bp)]
def oD1:=li [(0,Aj),(3,Bp),(21,Aj),(22,vI)] [(7,vI),(23,vI)] I5 I6 tK4 (λy x=>[ex 1 (some (Oe y x)) rW8 ((tA9 y x),(sQ8 y x),()),ex 2 (some (sI2 y x)) rW9 (y.1,y.2.1,())]) [rW8,rW9]
abbrev TI:Type:=(C3×Int×(List (List A0))×Int×Int×(List A0)×Int×Unit)
abbrev Of:Type:=(((List (List A0))×Nat)×Int×Unit)
def tB (y:TI)(x:Of):Vm Of:=
 let l:=y.1
 let g:=y.2.1
 let j:=(Q1 y).1
 let a:=x.1
 let b:=x.2.1
 let d:Bool:=b<(Q3 y).1
 let e:=nth j b A1
 let f:=C1 e
 let h:=Ee l e
 let i:=C1 h
 let k:=List.getD a.1 a.2 []
 let c:=(!f)&&(!i)
 (d->A7 b (len j)/\Tj e/\(!f->vT l e/\Tj h/\(!i->A7 g (len a.1)/\(toNat g=a.2/\g<len a.1)/\A7 b (len k)/\b<len k))/\(c->A6 (b+1)),d&&c,((set a.1 a.2 (set (List.getD a.1 a.2 []) (toNat b) h),a.2),b+1,()),d&&(f||((!f)&&i)),!d)
def PV y x:=(tB y x).1
def Ep y x:=(tB y x).2.1
def Eu y x:=(tB y x).2.2.1
def vY y x:=(tB y x).2.2.2.1
def Mj y x:=(tB y x).2.2.2.2
def uO4 (y:TI)(x:Of):(List (List A0)):=
 []
def tX7 (y:TI)(x:Of):Int:=
 (cond (C1 (nth (Q1 y).1 x.2.1 A1)) (2:Int) 2)
def rG4:List (Nat×Sh):=[(4,Au),(5,vI)]
def tX8 (y:TI)(x:Of):((List (List A0))×Nat):=
 let a:=x.1
 (a.1,a.2)
def rG5:List (Nat×Sh):=[(3,Bp),(10,(.ownh AQ 1010 48 true)),(37,Aj),(38,vI),(39,vI)]
def pD5:=li [(3,Bp),(11,vI),(37,Aj),(38,vI),(39,vI),(50,Bd),(51,vI)] [(10,(.ownh AQ 1010 48 true)),(52,vI)] Ep Eu PV (λy x=>[ex 1 (some (vY y x)) rG4 ((uO4 y x),(tX7 y x),()),ex 6 (some (Mj y x)) rG5 (y.1,(tX8 y x),y.2.2.1,y.2.2.2.1,y.2.2.2.2.1,())]) [rG4,rG5]
abbrev PW:Type:=(C3×(List (List A0))×Int×Unit)
def XH (y:PW)(x:CL):Vm CL:=
 let g:=y.2.1
 let j:=y.2.2.1
 let f:=x.1
 let a:=x.2.1
 let e:Bool:=a<j
 let i:=nth g a []
 let d:=len i
 let b:=(y.1,a,g,j,a,i,len i,())
 let k:=((set f (toNat a) (replicate (toNat d) A1),toNat a),(0:Int),())
 let h:=A3 (Ep b) (Eu b) k
 let c:=Mj b h
 (e->A7 a (len g)/\(0<=d/\d<=d/\d<=4294967296)/\A7 a (len f)/\a<len f/\AB (Ep b) (Eu b) (PV b) k/\(c->A6 (a+1)),e&&c,((tX8 b h).1,a+1,()),e&&vY b h,!e)
def PX y x:=(XH y x).1
def Gw y x:=(XH y x).2.1
def Gx y x:=(XH y x).2.2.1
def Mk y x:=(XH y x).2.2.2.1
def pD6 y x:=(XH y x).2.2.2.2
def XI (y:PW)(x:CL):(List (List A0)):=
 let d:=y.2.1
 let a:=x.2.1
 let b:=nth d a []
 let c:=(y.1,a,d,y.2.2.1,a,b,len b,())
 (uO4 c (A3 (Ep c) (Eu c) ((set x.1 (toNat a) (replicate (toNat (len b)) A1),toNat a),0,())))
def vQ6 (y:PW)(x:CL):Int:=
 let d:=y.2.1
 let a:=x.2.1
 let b:=nth d a []
 let c:=(y.1,a,d,y.2.2.1,a,b,len b,())
 (tX7 c (A3 (Ep c) (Eu c) ((set x.1 (toNat a) (replicate (toNat (len b)) A1),toNat a),0,())))
def rG6:List (Nat×Sh):=[(4,Au),(5,vI)]
def tX9 (y:PW)(x:CL):(List (List A0)):=
 x.1
def rG7:List (Nat×Sh):=[(10,(.own Ad 1010 true))]
def pD7:=li [(3,Bp),(37,Aj),(38,vI)] [(10,(.own Ad 1010 true)),(39,vI)] Gw Gx PX (λy x=>[ex 1 (some (Mk y x)) rG6 ((XI y x),(vQ6 y x),()),ex 4 (some (pD6 y x)) rG7 ((tX9 y x),())]) [rG6,rG7]
def mM9 (l:(List (List A0)))(m:C3):Prop×((List (List A0))×Int×Unit):=
 let h:=CK m
 let g:=h !=0
 let e:=(l,m,l,len l,())
 let k:=((0:Int),(0:Int),())
 let j:=A3 (I5 e) (I6 e) k
 let f:=Oe e j
 let c:=len l
 let a:=(m,l,len l,())
 let i:=(replicate (toNat c) ([]:List A0),(0:Int),())
 let d:=A3 (Gw a) (Gx a) i
 let b:=Mk a d
 (NO m/\(!g->AB (I5 e) (I6 e) (tK4 e) k/\(sI2 e j->(0<=c/\c<=c/\c<=4294967296)/\AB (Gw a) (Gx a) (PX a) i)),(cond g [] (cond f (tA9 e j) (cond b (XI a d) (tX9 a d))),cond g h (cond f (sQ8 e j) (cond b (vQ6 a d) 0)),()))
def qG8 a b:=(mM9 a b).1
def FG a b:=(mM9 a b).2
def oQ5:=BF Aj Ba (.tup (.cons Aj (.cons vI .nl))) qG8 FG
theorem mN:SK 175 (BF Aj Ba (.tup (.cons Aj (.cons vI .nl))) qG8 FG):=fb Tryz.func175 74 [kb s9,kb oP2,kb pA6] [(6,oD1),(14,pD7),(18,pD5)] [(25,[(4,0,36,1010)]),(54,[(1,10,0,0)]),(57,[(1,4,0,0),(4,0,1010,0)])] false [] [36,48]
def nM8 (g:AJ):Prop×Int:=
 let a:=DI I4 (Qk g).1 (Ql g).1 (Qm g).1
 let c:=a.2.1 !=0
 let b:=FG a.1 (Q2 g).1
 let d:=b.2.1 !=0
 let e:=DW b.1 0
 let f:=e !=0
 (TH/\PR I4 (Qk g).1 (Ql g).1 (Qm g).1/\(!c->qG8 a.1 (Q2 g).1/\(!d->PG b.1 0/\(!f->Ti (Q9 g).1))),cond c a.2.1 (cond d b.2.1 (cond f e (f138 (Q9 g).1))))
def qG9 a:=(nM8 a).1
def Ml a:=(nM8 a).2
def oQ6:=AU Ay vI qG9 Ml
def nM9:=Cy [(138,oP),(172,oP4),(173,oQ2),(174,oQ4),(175,oQ5)] [] [(3,[(4,0,14,1003)])] 38
theorem mN0:SK 141 oQ6:=fq (c:=nM9) Tryz.func141 ⟨pA2,pB4,mL7,mM8,mN,trivial⟩
def TJ (j k:Int):Prop×Bool:=
 let i:=j==2
 let e:=j==3
 let f:=j==4
 let a:=cond f f (j==11)
 let g:=j==5
 let b:=cond g g (j==9)
 let h:=j==6
 let c:=cond h h (j==7)
 let d:=cond e (cond (cond (k≥4) (decide (k<=16)) false) (Int.tmod k 2==0) false) (cond a (k==2) (cond b (k==3) (cond c (k==1) (k==9))))
 (True,cond (cond i true (cond e true (cond a true (cond b true (cond c true (j==8)))))) (cond i (k==5) d) (k==0))
def pD8 a b:=(TJ a b).1
def Gy a b:=(TJ a b).2
theorem mN1:SK 176 (BF vI vI vB pD8 Gy):=fb Tryz.func176 44
def mN2 (k l:Int):Prop×(Int×Int×Unit):=
 let b:=cond (k==2) (l==2) false
 let i:=k==4
 let j:=cond (k==5) (decide (l>0)) false
 let a:=cond i i (cond j j (cond (k==11) (l==1) false))
 let c:=k==5
 let d:=k==7
 let e:=k==8
 let f:=cond b true (cond a true (cond c true (cond d true (cond e true (k==11)))))
 let g:=cond f (cond b 1 (cond a (-65535:Int) (cond c (-32768:Int) (cond d 2 (cond e (-262140:Int) (-128:Int)))))) 0
 let h:=cond f (cond b (256:Int) (cond a 65535 (cond c 32768 (cond d 256 (cond e 262140 128))))) 65535
 (True,(g,h,()))
def pD9 a b:=(mN2 a b).1
def f217 a b:=(mN2 a b).2
theorem mN3:SK 217 (BF vI vI (.tup (.cons vI (.cons vI .nl))) pD9 f217):=fb Tryz.func217 40
abbrev vY0:Type:=(Int×(List Int)×(List B0)×(List Int)×Int×Unit)
def PY (y:vY0)(x:AD):Vm AD:=
 let g:=y.1
 let d:=y.2.2.2.1
 let a:=x.1
 let b:Bool:=a<y.2.2.2.2.1
 let e:=nth d a 0
 let f:=f217 g a
 let c:=cond (e<f.1) true (e>f.2.1)
 (b->A7 a (len d)/\pD9 g a/\(!c->A6 (a+1)),b&&(!c),(a+1,()),b&&c,!b)
def rX y x:=(PY y x).1
def Mm y x:=(PY y x).2.1
def Og y x:=(PY y x).2.2.1
def TK y x:=(PY y x).2.2.2.1
def tK5 y x:=(PY y x).2.2.2.2
def sQ9 (y:vY0)(x:AD):Bool:=
 false
def rX0:List (Nat×Sh):=[(0,vI),(1,Ak),(2,Ao)]
def oD3:=li [(0,vI),(1,Ak),(2,Ao),(13,Ak),(14,vI)] [(15,vI)] Mm Og rX (λy x=>[ex 1 (some (TK y x)) [(6,vB)] ((sQ9 y x),()),ex 2 (some (tK5 y x)) rX0 (y.1,y.2.1,y.2.2.1,())]) [[(6,vB)],rX0]
abbrev vH8:Type:=((List B0)×Int×Unit)
def PZ (y:vH8)(x:AD):Vm AD:=
 let e:=y.1
 let a:=x.1
 let b:Bool:=a<y.2.1
 let c:=nth e a CG
 let f:=cond (c.1<0) true (c.1>65535)
 let d:=cond f true (!(Gu c.2.1))
 (b->A7 a (len e)/\(!f->NP c.2.1)/\(!d->A6 (a+1)),b&&(!d),(a+1,()),b&&d,!b)
def uO6 y x:=(PZ y x).1
def Oh y x:=(PZ y x).2.1
def Qn y x:=(PZ y x).2.2.1
def XJ y x:=(PZ y x).2.2.2.1
def pE y x:=(PZ y x).2.2.2.2
def tY (y:vH8)(x:AD):Bool:=
 false
def pE0:=li [(55,Ao),(56,vI)] [(57,vI)] Oh Qn uO6 (λy x=>[ex 1 (some (XJ y x)) [(6,vB)] ((tY y x),()),ex 4 (some (pE y x)) [] ()]) [[(6,vB)],[]]
def lL7 (k:Int)(l:List Int)(m:List B0):Prop×Bool:=
 let b:=(k,l,m,l,len l,())
 let j:=((0:Int),())
 let i:=A3 (Mm b) (Og b) j
 let d:=k==9
 let e:=cond d (nth l 0 0==0) false
 let f:=cond e (nth l 1 0==0) false
 let g:=cond f (nth l 2 0==0) false
 let a:=(m,len m,())
 let h:=((0:Int),())
 let c:=A3 (Oh a) (Qn a) h
 (AB (Mm b) (Og b) (rX b) j/\(tK5 b i->(d->A7 0 (len l))/\(e->A7 1 (len l))/\(f->A7 2 (len l))/\(!g->AB (Oh a) (Qn a) (uO6 a) h)),cond (TK b i) (sQ9 b i) (cond g false (cond (XJ a c) (tY a c) true)))
def pE1 a b c:=(lL7 a b c).1
def Mn a b c:=(lL7 a b c).2
theorem mN4:SK 177 (DU vI Ak Ao vB pE1 Mn):=fb Tryz.func177 76 [kb uP,kb mN3] [(2,oD3),(11,pE0)]
abbrev vY3:Type:=((List Int)×(List B0)×Unit)
def Qo (y:vY3)(x:AD):Vm AD:=
 let d:=y.1
 let b:=x.1
 let a:Bool:=b<len d
 let e:=b-2
 let c:Bool:=nth d b 0<=nth d e 0
 (a->A7 b (len d)/\A6 (b-2)/\A7 e (len d)/\(!c->A6 (b+2)),a&&(!c),(b+2,()),a&&c,!a)
def sI3 y x:=(Qo y x).1
def Qp y x:=(Qo y x).2.1
def TL y x:=(Qo y x).2.2.1
def uK y x:=(Qo y x).2.2.2.1
def rX1 y x:=(Qo y x).2.2.2.2
def sR (y:vY3)(x:AD):Bool:=
 false
def oD4:=li [(1,Ak),(2,Ao)] [(7,vI)] Qp TL sI3 (λy x=>[ex 1 (some (uK y x)) [(6,vB)] ((sR y x),()),ex 2 (some (rX1 y x)) [(2,Ao)] (y.2.1,())]) [[(6,vB)],[(2,Ao)]]
abbrev vH9:Type:=((List B0)×Unit)
def XK (y:vH9)(x:AD):Vm AD:=
 let d:=y.1
 let b:=x.1
 let a:Bool:=b<len d
 let e:=b-1
 let c:Bool:=(nth d b CG).1<=(nth d e CG).1
 (a->A7 b (len d)/\A6 (b-1)/\A7 e (len d)/\(!c->A6 (b+1)),a&&(!c),(b+1,()),a&&c,!a)
def tR5 y x:=(XK y x).1
def Qq y x:=(XK y x).2.1
def Qr y x:=(XK y x).2.2.1
def XL y x:=(XK y x).2.2.2.1
def pE2 y x:=(XK y x).2.2.2.2
def tY0 (y:vH9)(x:AD):Bool:=
 false
def pE3:=li [(2,Ao)] [(8,vI)] Qq Qr tR5 (λy x=>[ex 1 (some (XL y x)) [(6,vB)] ((tY0 y x),()),ex 4 (some (pE2 y x)) [] ()]) [[(6,vB)],[]]
def lL8 (j:Int)(k:List Int)(l:List B0):Prop×Bool:=
 let d:=j==2
 let f:=cond d (decide (nth k 1 0<=nth k 0 0)) false
 let b:=j==3
 let c:=(k,l,())
 let i:=((2:Int),())
 let h:=A3 (Qp c) (TL c) i
 let a:=(cond b l l,())
 let g:=((1:Int),())
 let e:=A3 (Qq a) (Qr a) g
 ((d->A7 1 (len k))/\(d->A7 0 (len k))/\(!f->(b->AB (Qp c) (TL c) (sI3 c) i)/\((cond b (rX1 c h) true)=true->AB (Qq a) (Qr a) (tR5 a) g)),cond f false (cond (uK c h&&b) (sR c h) (cond (XL a e) (tY0 a e) true)))
def pE4 a b c:=(lL8 a b c).1
def Mo a b c:=(lL8 a b c).2
theorem mN5:SK 178 (DU vI Ak Ao vB pE4 Mo):=fb Tryz.func178 56 [] [(5,oD4),(10,pE3)]
def XM (g:Int)(h:List Int)(i:List B0):Prop×Int:=
 let a:=cond (g<1) true (g>11)
 let f:=len h
 let b:=cond (!(Gy g f)) true (!(Ty.eqb .bool (decide (len i>0)) (g==10)))
 let c:Bool:=len i>16
 let d:=!(Mn g h i)
 let e:=cond (cond a true (cond b true (cond c true (cond d true (!(Mo g h i)))))) (cond a (8:Int) (cond b 1 (cond c 3 (cond d 2 24)))) 0
 (a=false->pD8 g f/\(b=false->c=false->pE1 g h i/\(d=false->pE4 g h i)),e)
def pE5 a b c:=(XM a b c).1
def Hw a b c:=(XM a b c).2
theorem mN6:SK 142 (DU vI Ak Ao vI pE5 Hw):=fb Tryz.func142 44 [kb mN1,kb mN4,kb mN5]
def lL9 (j:Int):Prop×(List A0):=
 let h:=j==1
 let i:=j==7
 let a:=cond h h (cond i i (j==8))
 let d:=j==2
 let e:=j==4
 let f:=j==3
 let g:=j==9
 let b:=cond f ([((0:Int),(16:Int),()),((0:Int),(262140:Int),())]:List A0) (cond g ([((-16:Int),(16:Int),()),((-16:Int),(16:Int),())]:List A0) ([((1:Int),(16:Int),())]:List A0))
 let c:=cond (cond a true (cond d true (cond e true (cond f true (cond g true (j==10)))))) (cond a ([((0:Int),(16:Int),())]:List A0) (cond d ([((0:Int),(7:Int),())]:List A0) (cond e ([((0:Int),(4:Int),())]:List A0) b))) []
 (True,c)
def pE6 a:=(lL9 a).1
def DA a:=(lL9 a).2
theorem mN7:SK 179 (AU vI Bx pE6 DA):=fb Tryz.func179 32 [] [] [(11,[(4,0,9,0)]),(15,[(4,0,13,0)]),(19,[(4,0,17,0)]),(23,[(4,0,22,0)]),(27,[(4,0,27,0)]),(31,[(4,0,31,0)])]
abbrev vY6:Type:=((List A0)×(List Int)×Int×Unit)
def XN (y:vY6)(x:AD):Vm AD:=
 let g:=y.1
 let d:=y.2.1
 let a:=x.1
 let b:Bool:=a<y.2.2.1
 let e:=nth d a 0
 let f:Bool:=e<(nth g a A1).1
 let c:=cond f true (e>(nth g a A1).2.1)
 (b->A7 a (len d)/\A7 a (len g)/\(!f->A7 a (len g))/\(!c->A6 (a+1)),b&&(!c),(a+1,()),b&&c,!b)
def rX2 y x:=(XN y x).1
def J4 y x:=(XN y x).2.1
def J5 y x:=(XN y x).2.2.1
def Lr y x:=(XN y x).2.2.2.1
def oD5 y x:=(XN y x).2.2.2.2
def sR0 (y:vY6)(x:AD):Int:=
 2
def oD6:=li [(5,Bq),(21,Ak),(22,vI)] [(23,vI)] J4 J5 rX2 (λy x=>[ex 1 (some (Lr y x)) [(4,vI)] ((sR0 y x),()),ex 2 (some (oD5 y x)) [] ()]) [[(4,vI)],[]]
def mN8 (g:Int)(h:List Int):Prop×Int:=
 let b:=cond (g<1) true (g>10)
 let c:=DA g
 let d:=len h !=len c
 let a:=(c,h,len h,())
 let f:=((0:Int),())
 let e:=A3 (J4 a) (J5 a) f
 (!b->pE6 g/\(!d->AB (J4 a) (J5 a) (rX2 a) f),cond b 8 (cond d 1 (cond (Lr a e) (sR0 a e) 0)))
def pE7 a b:=(mN8 a b).1
def f143 a b:=(mN8 a b).2
theorem mN9:SK 143 (BF vI Ak vI pE7 f143):=fb Tryz.func143 45 [kb mN7] [(7,oD6)] [(7,[(4,0,15,1005)])]
def XO (y:CZ)(x:AD):Vm AD:=
 let e:=y.1
 let a:=x.1
 let b:Bool:=a<y.2.1
 let c:=nth e a A1
 let d:=cond (cond (cond (c.1<(-1048576)) true (c.1>1048576)) true (c.2.1<(-1048576))) true (c.2.1>1048576)
 (b->A7 a (len e)/\(!d->A6 (a+1)),b&&(!d),(a+1,()),b&&d,!b)
def sI4 y x:=(XO y x).1
def tY3 y x:=(XO y x).2.1
def uF5 y x:=(XO y x).2.2.1
def rX3 y x:=(XO y x).2.2.2.1
def oD7 y x:=(XO y x).2.2.2.2
def sR1 (y:CZ)(x:AD):Int:=
 2
def oD8:=li [(43,Bd),(44,vI)] [(45,vI)] tY3 uF5 sI4 (λy x=>[ex 1 (some (rX3 y x)) [(2,vI)] ((sR1 y x),()),ex 2 (some (oD7 y x)) [] ()]) [[(2,vI)],[]]
def lM (g:Iw):Prop×Int:=
 let b:=cond (cond (cond (g.1<2) true (g.1>8)) true (g.2.1<2)) true (g.2.1>8)
 let c:=cond (g.2.2.1<1) true (g.2.2.1>256)
 let d:=cond c true (len g.2.2.2.1!=(g.1*g.2.1))
 let a:=(g.2.2.2.1,len g.2.2.2.1,())
 let f:=((0:Int),())
 let e:=A3 (tY3 a) (uF5 a) f
 (!b->(!c->A6 (g.1*g.2.1))/\(!d->AB (tY3 a) (uF5 a) (sI4 a) f),cond b 15 (cond d 15 (cond (rX3 a e) (sR1 a e) 0)))
def qH a:=(lM a).1
def Mp a:=(lM a).2
theorem mO:SK 144 (AU Da vI qH Mp):=fb Tryz.func144 68 [] [(6,oD8)]
def mO0 (o:AJ):Prop×Int:=
 let m:=o.2.1==2
 let a:=o.2.1==3
 let b:=o.2.1==4
 let c:=o.2.1==5
 let d:=o.2.1==6
 let e:=o.2.1==7
 let f:=o.2.1==8
 let k:=o.2.1==9
 let g:=cond k k (o.2.1==10)
 let l:=o.2.1==11
 let n:=cond f true (cond g (cond ((Qh o).1<1) true ((Qh o).1>1073741824)) l)
 let h:=cond e (Hw (Qb o).1 (Qa o).1 (Qd o).1) (cond f (f143 (Qb o).1 (Qa o).1) (cond g 2 (Mp (Qj o).1)))
 let i:=cond b (LY (Qb o).1 (Qa o).1 (Qe o).1 (Qd o).1) (cond c (Kt o) (cond d (Ml o) h))
 let j:=cond (cond m true (cond a true (cond b true (cond c true (cond d true (cond e true n)))))) (cond m (Lm (Q6 o).1) (cond a (f138 (Q9 o).1) i)) 0
 ((m->P7 (Q6 o).1)/\(m=false->(a->Ti (Q9 o).1)/\(a=false->(b->pA5 (Qb o).1 (Qa o).1 (Qe o).1 (Qd o).1)/\(b=false->(c->pC5 o)/\(c=false->(d->qG9 o)/\(d=false->(e->pE5 (Qb o).1 (Qa o).1 (Qd o).1)/\(e=false->(f->pE7 (Qb o).1 (Qa o).1)/\(f=false->g=false->l->qH (Qj o).1))))))),j)
def pE8 a:=(mO0 a).1
def I7 a:=(mO0 a).2
theorem mO1:SK 107 (AU Ay vI pE8 I7):=fb Tryz.func107 66 [kb nY3,kb pA2,kb mH6,kb mK9,kb mN0,kb mN6,kb mN9,kb mO]
def mO2 (h:AJ):Prop×Bool:=
 let c:=cond (cond (!(Ty.eqb Hk (Q2 h).1 (0,0,0,0,0,0,()))) true ((Q7 h).1 !=0)) true (!(Ty.eqb EG (Q9 h).1 (0,0,0,0,())))
 let d:=cond (cond (cond ((Qb h).1 !=0) true (len (Qa h).1!=0)) true ((Qe h).1 !=0)) true (len (Qd h).1!=0)
 let e:=cond (cond (cond (len (Q8 h).1!=0) true ((Qi h).1 !=0)) true ((Qc h).1 !=0)) true ((Qf h).1 !=0)
 let f:=cond (cond (!((Qk h).1==[])) true ((Ql h).1 !=0)) true ((Qm h).1 !=0)
 let b:=cond (cond ((Qj h).1.1==0) ((Qj h).1.2.1==0) false) ((Qj h).1.2.2.1==0) false
 let g:=cond (cond f true ((Qh h).1 !=0)) false (cond b (len (Qj h).1.2.2.2.1==0) false)
 let a:=cond (cond (cond ((Q6 h).1.1 !=0) true ((Q6 h).1.2.1 !=0)) true (len (Q6 h).1.2.2.1!=0)) false (cond d false (cond (cond e true ((Qg h).1 !=0)) false g))
 (True,cond c false a)
def pE9 a:=(mO2 a).1
def Kv a:=(mO2 a).2
theorem mO3:SK 108 (AU Ay vB pE9 Kv):=fb Tryz.func108 120
def lM0 (p:AJ):Prop×AJ:=
 let l:=(Va p (0,0,0,0,0,0,()) (Q7 p))
 let b:=cond (Gr p.2.1) l p
 let m:=(Vb b 0 (Q6 b))
 let a:=cond (Gt b.2.1) m b
 let n:=(Vc a (0,0,[],()) (Q9 a))
 let o:=(Vd a (0,0,0,0,()) (Qb a))
 let d:=(Ve a 0 ([],0,[],(Q8 a)))
 let e:=(Vd a (0,0,0,0,()) ((Qb a).1,(Qa a).1,(Qe a).1,(Qd a).1,[],0,0,0,0,(Qk a)))
 let f:=(Vd a (0,0,0,0,()) ((Qb a).1,(Qa a).1,(Qe a).1,(Qd a).1,(Q8 a).1,(Qi a).1,(Qc a).1,(Qf a).1,(Qg a).1,[],0,0,(Qh a)))
 let g:=(Ve a 0 ([],(Qe a).1,[],(Q8 a)))
 let h:=(Ve a 0 ([],(Qe a)))
 let k:=a.2.1==9
 let i:=(Vf a 0 ((Qj a).1,()))
 let j:=(Vg a (0,0,0,[],()) ())
 let c:=cond (a.2.1==6) f (cond (a.2.1==7) g (cond (a.2.1==8) h (cond (cond k k (a.2.1==10)) i (cond (a.2.1==11) j a))))
 (s7 p.2.1/\tE b.2.1,cond (a.2.1==2) n (cond (a.2.1==3) o (cond (a.2.1==4) d (cond (a.2.1==5) e c))))
def qH0 a:=(lM0 a).1
def I8 a:=(lM0 a).2
theorem mO4:SK 109 (AU Ay Ay qH0 I8):=fb Tryz.func109 62 [kb oO2,kb oO7]
def XP (n:AJ)(o p:Int):Prop×Int:=
 let d:=Fh n o p
 let e:=d !=0
 let b:=Gr n.2.1
 let f:=CK (Q2 n).1
 let a:=f !=0
 let g:=Iy (Q2 n).1
 let h:=g.2.1 !=0
 let i:=Gt n.2.1
 let j:=cond i (!(LX (Q7 n).1)) false
 let k:=I7 n
 let l:=k !=0
 let m:=I8 n
 let c:=cond e d (cond ((a||((!a)&&h))&&b) (cond a f g.2.1) (cond j 8 (cond l k (cond (!(Kv m)) 1 0))))
 (qZ8 n o p/\(!e->s7 n.2.1/\(b->NO (Q2 n).1/\(!a->pA0 (Q2 n).1))/\((cond b ((!a)&&(!h)) true)=true->tE n.2.1/\(i->pA1 (Q7 n).1)/\(!j->pE8 n/\(!l->qH0 n/\pE9 m)))),c)
def pP3 a b c:=(XP a b c).1
def GX a b c:=(XP a b c).2
theorem lM1:SK 72 (DU Ay vI vI vI pP3 GX):=fb Tryz.func72 55 [kb mF9,kb oO2,kb s9,kb mG3,kb oO7,kb mG5,kb mO1,kb mO3,kb mO4]
abbrev wY5:Type:=((List (Int×Int×Unit))×Int×AM×Unit)
def TM (y:wY5)(x:AD):Vm AD:=
 let f:=y.2.1
 let d:=y.2.2.1
 let e:=x.1
 let a:=e !=0
 let b:=e==(nth d.2.2.2.1 f AA).2.2.1
 let c:=getD (E7 Aa Aa e y.1) 0
 (a->A7 f (len d.2.2.2.1)/\(!b->A7 c (len d.2.2.2.1)),a&&(!b),((nth d.2.2.2.1 c AA).2.2.1,()),a&&b,!a)
def XQ y x:=(TM y x).1
def TN y x:=(TM y x).2.1
def Qs y x:=(TM y x).2.2.1
def uF6 y x:=(TM y x).2.2.2.1
def qR3 y x:=(TM y x).2.2.2.2
def tO7 (y:wY5)(x:AD):Bool:=
 true
def sR2:List (Nat×Sh):=[(1,By),(6,vB)]
def sR3:List (Nat×Sh):=[(1,By)]
def qR4:=li [(1,By),(2,vI),(3,Ae)] [(7,vI)] TN Qs XQ (λy x=>[ex 1 (some (uF6 y x)) sR2 (y.1,(tO7 y x),()),ex 2 (some (qR3 y x)) sR3 (y.1,())]) [sR2,sR3]
def XR (f:AM)(g:(List (Int×Int×Unit)))(h:Int):Vn ((List (Int×Int×Unit))×Unit):=
 let c:=h-1
 let b:=(g,h,f,())
 let e:=((nth f.2.2.2.1 c AA).1,())
 let d:=A3 (TN b) (Qs b) e
 let a:=uF6 b d
 (A6 (h-1)/\A7 c (len f.2.2.2.1)/\AB (TN b) (Qs b) (XQ b) e,cond a (tO7 b d) false,(cond a g g,()))
def XS a b c:=(XR a b c).1
def Mq a b c:=(XR a b c).2.1
def TO a b c:=(XR a b c).2.2
theorem oQ8:SK 73 (fnSpec [(0,Al),(1,By),(2,vI)] vB [(1,By)] (λx=>XS x.1 x.2.1 x.2.2.1) (λx=>Mq x.1 x.2.1 x.2.2.1) (λx=>TO x.1 x.2.1 x.2.2.1)):=fx (λc=>{ c with maps:=maps }) Tryz.func73 33 [] [(2,qR4)] [] false [1]
abbrev Ls:Type:=(AM×(List AJ)×Int×Unit)
abbrev XT:Type:=((List (Int×Int×Unit))×(List Int)×Int×Unit)
def TP (y:Ls)(x:XT):Vm XT:=
 let g:=y.1
 let q:=y.2.1
 let d:=x.1
 let v:=x.2.1
 let a:=x.2.2.1
 let h:Bool:=a<y.2.2.1
 let c:=nth q a AA
 let i:=GX c g.1 g.2.1!=0
 let j:=cond (c.1<1) true (c.1≥g.2.2.2.2.1)
 let k:=isSome (E7 Aa Aa c.1 d)
 let b:=set v (toNat a) 1
 let e:=c.2.2.1 !=0
 let f:=getD (E7 Aa Aa c.2.2.1 d) 0
 let r:=!(isSome (E7 Aa Aa c.2.2.1 d))
 let l:=cond r true ((nth g.2.2.2.1 f AA).2.1 !=1)
 let o:=!(Mq g d a)
 let s:=nth b f 0
 let n:=cond e ((!l)&&(!o)) true
 let u:=cond e (set b (toNat a) (s+1)) b
 let t:Bool:=nth u a 0>8
 let m:=(!i)&&((!j)&&((!k)&&(n&&(!t))))
 (h->A7 a (len q)/\pP3 c g.1 g.2.1/\(!i->!j->!k->A7 a (len v)/\a<len v/\(e->(!r->A7 f (len g.2.2.2.1))/\(!l->XS g d a/\0<length d/\length d=length d/\length d=length d/\length d=length d/\length d=length d/\(!o->A7 f (len b)/\f<len b/\A6 (s+1)/\A7 a (len b)/\a<len b)))/\(n->A7 a (len u)/\a<len u))/\(m->A6 (a+1)),h&&m,(He Aa Aa c.1 a (cond e (TO g d a).1 d),u,a+1,()),h&&(i||((!i)&&(j||((!j)&&(k||((!k)&&(((l||((!l)&&o))&&e)||(n&&t)))))))),!h)
def TQ y x:=(TP y x).1
def GY y x:=(TP y x).2.1
def EH y x:=(TP y x).2.2.1
def TR y x:=(TP y x).2.2.2.1
def oQ9 y x:=(TP y x).2.2.2.2
def TS (y:Ls)(x:XT):Int:=
 let c:=y.1
 let g:=x.1
 let d:=x.2.2.1
 let a:=nth y.2.1 d AA
 let f:=GX a c.1 c.2.1
 let b:=cond (!(isSome (E7 Aa Aa a.2.2.1 g))) true ((nth c.2.2.2.1 (getD (E7 Aa Aa a.2.2.1 g) 0) AA).2.1 !=1)
 let e:=cond (isSome (E7 Aa Aa a.1 g)) (10:Int) (cond ((b||((!b)&&(!(Mq c g d))))&&(a.2.2.1 !=0)) (cond b 9 24) 12)
 (cond (f !=0) f (cond (cond (a.1<1) true (a.1≥c.2.2.2.2.1)) 2 e))
def oR:=li [(1,Ae),(18,Ar),(19,vI)] [(3,(.own (Hd Aa Aa) 1003 true)),(4,(.own Aa 1004 true)),(20,vI)] GY EH TQ (λy x=>[ex 1 (some (TR y x)) [(2,vI)] ((TS y x),()),ex 2 (some (oQ9 y x)) [] ()]) [[(2,vI)],[]]
def Qt (e:AM):Prop×Int:=
 let a:=len e.2.2.2.1
 let b:=(e,e.2.2.2.1,len e.2.2.2.1,())
 let d:=(([]:List (Int×Int×Unit)),replicate (toNat a) (0:Int),(0:Int),())
 let c:=A3 (GY b) (EH b) d
 ((0<=a/\a<=a/\a<=4294967296)/\AB (GY b) (EH b) (TQ b) d,cond (TR b c) (TS b c) 0)
def XU a:=(Qt a).1
def Kw a:=(Qt a).2
theorem lM2:SK 41 (AU Al vI XU Kw):=fx (λc=>{ c with wants:=[(73,[1])],maps:=maps }) Tryz.func41 99 [kb lM1,kb oQ8] [(4,oR)] [(3,[(4,0,12,1003)]),(5,[(4,0,16,1004)])] false [] [16]
abbrev tK7:Type:=(AM×AJ×(List AJ)×Int×Int×Unit)
def XV (y:tK7)(x:AD):Vn AD:=
 let e:=y.1
 let a:=x.1
 let b:Bool:=a≥0
 let c:=(nth e.2.2.2.1 a AA).2.2.1 !=y.2.1.2.2.1
 let d:=cond b (cond c true (Q3 (nth e.2.2.2.1 a AA)).1) false
 ((b->A7 a (len e.2.2.2.1))/\((b&&(!c))->A7 a (len e.2.2.2.1))/\(d->A6 (a-1)),d,(a-1,()))
def TT y x:=(XV y x).1
def FH y x:=(XV y x).2.1
def Gc y x:=(XV y x).2.2
def tR6 (y:tK7)(x:AD):Int:=
 x.1
def qR6:List (Nat×Sh):=[(1,Ae),(5,vI),(7,Ar),(8,vI),(9,vI)]
def oR0:=li [(1,Ae),(4,(.box T42 Ay)),(7,Ar),(8,vI),(9,vI)] [(5,vI)] FH Gc TT (λy x=>[ex 4 none qR6 (y.1,(tR6 y x),y.2.2.1,y.2.2.2.1,y.2.2.2.2.1,())]) [qR6]
abbrev vQ7:Type:=(AM×(List AJ)×Int×Int×Unit)
def Oi (y:HZ)(x:vQ7):Vm vQ7:=
 let g:=x.1
 let h:=x.2.1
 let m:=x.2.2.1
 let e:=x.2.2.2.1
 let c:Bool:=e<m
 let j:=nth h e AA
 let b:=!(Q3 j).1
 let f:=(g,j,h,m,e,())
 let o:=(e-1,())
 let a:=tR6 f (A3 (FH f) (Gc f) o)
 let d:Bool:=a<0
 let k:=nth g.2.2.2.1 a AA
 let l:=Jy k
 let i:=b||((!b)&&((!d)&&(!l)))
 let n:=cond b e e
 (c->A7 e (len h)/\(!b->A6 (e-1)/\AB (FH f) (Gc f) (TT f) o/\(!d->A7 a (len g.2.2.2.1)/\P3 k))/\(i->A6 (n+1)),c&&i,(cond b g g,cond b h h,cond b m m,n+1,()),c&&((!b)&&(d||((!d)&&l))),!c)
def Qu y x:=(Oi y x).1
def Kx y x:=(Oi y x).2.1
def J6 y x:=(Oi y x).2.2.1
def XW y x:=(Oi y x).2.2.2.1
def oR1 y x:=(Oi y x).2.2.2.2
def XX (y:HZ)(x:vQ7):Int:=
 let c:=x.2.1
 let a:=x.2.2.2.1
 let b:=(x.1,nth c a AA,c,x.2.2.1,a,())
 (cond (tR6 b (A3 (FH b) (Gc b) (a-1,()))<0) (14:Int) 8)
def oR2:=li [] [(1,Ae),(7,Ar),(8,vI),(9,vI)] Kx J6 Qu (λy x=>[ex 1 (some (XW y x)) [(2,vI)] ((XX y x),()),ex 2 (some (oR1 y x)) [] ()]) [[(2,vI)],[]]
def Qv (c:AM):Prop×Int:=
 let b:=(c,c.2.2.2.1,len c.2.2.2.1,(0:Int),())
 let a:=A3 (Kx ()) (J6 ()) b
 (AB (Kx ()) (J6 ()) (Qu ()) b,cond (XW () a) (XX () a) 0)
def XY a:=(Qv a).1
def Lt a:=(Qv a).2
theorem lM3:SK 42 (AU Al vI XY Lt):=fb Tryz.func42 51 [kb oO1] [(2,oR2),(6,oR0)]
def TU (y:NL)(x:AD):Vm AD:=
 let e:=y.1
 let a:=x.1
 let b:Bool:=a<y.2.1
 let d:Bool:=wD e a<33
 let c:=cond d true (wD e a>126)
 (b->A7 a (len e)/\(!d->A7 a (len e))/\(!c->A6 (a+1)),b&&(!c),(a+1,()),b&&c,!b)
def tY5 y x:=(TU y x).1
def qH1 y x:=(TU y x).2.1
def tR7 y x:=(TU y x).2.2.1
def qR8 y x:=(TU y x).2.2.2.1
def oR3 y x:=(TU y x).2.2.2.2
def rH (y:NL)(x:AD):Bool:=
 false
def oR4:=li [(0,vS),(13,vI)] [(14,vI)] qH1 tR7 tY5 (λy x=>[ex 1 (some (qR8 y x)) [(2,vB)] ((rH y x),()),ex 2 (some (oR3 y x)) [] ()]) [[(2,vB)],[]]
def Qw (e:List UInt8):Prop×Bool:=
 let b:=cond (len e<1) true (len e>32)
 let a:=(e,len e,())
 let d:=((0:Int),())
 let c:=A3 (qH1 a) (tR7 a) d
 (!b->AB (qH1 a) (tR7 a) (tY5 a) d,cond b false (cond (qR8 a c) (rH a c) true))
def XZ a:=(Qw a).1
def Qx a:=(Qw a).2
theorem lM4:SK 75 (AU vS vB XZ Qx):=fb Tryz.func75 28 [] [(4,oR4)]
abbrev Ya:Type:=(AM×C9×(List C9)×Int×Int×(List C9)×Int×Unit)
def TV (y:Ya)(x:AD):Vm AD:=
 let f:=y.2.1
 let d:=(Q1 y).1
 let a:=x.1
 let b:Bool:=a<(Q3 y).1
 let e:=nth d a CT
 let c:=cond (e.1==f.1) true (e.2.1==f.2.1)
 (b->A7 a (len d)/\(!c->A6 (a+1)),b&&(!c),(a+1,()),b&&c,!b)
def tY6 y x:=(TV y x).1
def Yb y x:=(TV y x).2.1
def vZ y x:=(TV y x).2.2.1
def Yc y x:=(TV y x).2.2.2.1
def tY8 y x:=(TV y x).2.2.2.2
def rH0 (y:Ya)(x:AD):Int:=
 10
def qS:List (Nat×Sh):=[(1,Ae),(4,Cq),(9,Bf),(10,vI),(11,vI)]
def oR5:=li [(1,Ae),(4,Cq),(9,Bf),(10,vI),(11,vI),(53,Bf),(54,vI)] [(55,vI)] Yb vZ tY6 (λy x=>[ex 1 (some (Yc y x)) [(2,vI)] ((rH0 y x),()),ex 4 (some (tY8 y x)) qS (y.1,y.2.1,y.2.2.1,y.2.2.2.1,y.2.2.2.2.1,())]) [[(2,vI)],qS]
abbrev uP1:Type:=(AM×(List C9)×Int×Unit)
def TW (y:uP1)(x:AD):Vm AD:=
 let l:=y.1
 let m:=y.2.1
 let h:=y.2.2.1
 let b:=x.1
 let d:Bool:=b<h
 let a:=nth m b CT
 let e:=!(Qx a.2.1)
 let n:=cond (cond (cond (cond (a.1<1) true (a.1≥l.2.2.2.2.1)) true (a.2.2.1<0)) true (a.2.2.1>2)) true (a.2.2.2.1<1)
 let f:=cond n true (a.2.2.2.1>1073741824)
 let j:=take (toNat b) (Q0 l).1
 let g:=(l,a,m,h,b,j,len j,())
 let q:=((0:Int),())
 let o:=A3 (Yb g) (vZ g) q
 let c:=tY8 g o
 let k:=Lm a.2.2.2.2.1!=0
 let i:=(!e)&&((!f)&&(c&&(!k)))
 (d->A7 b (len m)/\XZ a.2.1/\(!e->!f->(0<=b/\b<=len (Q0 l).1)/\AB (Yb g) (vZ g) (tY6 g) q/\(c->P7 a.2.2.2.2.1))/\(i->A6 (b+1)),d&&i,(b+1,()),d&&(e||((!e)&&(f||((!f)&&(Yc g o||(c&&k)))))),!d)
def Yd y x:=(TW y x).1
def Oj y x:=(TW y x).2.1
def TX y x:=(TW y x).2.2.1
def tY9 y x:=(TW y x).2.2.2.1
def oR6 y x:=(TW y x).2.2.2.2
def uP2 (y:uP1)(x:AD):Int:=
 let f:=y.1
 let h:=y.2.1
 let b:=x.1
 let a:=nth h b CT
 let g:=cond (cond (cond (cond (a.1<1) true (a.1≥f.2.2.2.2.1)) true (a.2.2.1<0)) true (a.2.2.1>2)) true (a.2.2.2.1<1)
 let d:=take (toNat b) (Q0 f).1
 let e:=(f,a,h,y.2.2.1,b,d,len d,())
 let i:=A3 (Yb e) (vZ e) (0,())
 let c:=cond (!(Qx a.2.1)) 13 (cond (cond g true (a.2.2.2.1>1073741824)) 2 (cond (Yc e i) (rH0 e i) (Lm a.2.2.2.2.1)))
 c
def oR7:=li [(1,Ae),(9,Bf),(10,vI)] [(11,vI)] Oj TX Yd (λy x=>[ex 1 (some (tY9 y x)) [(2,vI)] ((uP2 y x),()),ex 2 (some (oR6 y x)) [] ()]) [[(2,vI)],[]]
def Qy (d:AM):Prop×Int:=
 let a:=(d,(Q0 d).1,len (Q0 d).1,())
 let c:=((0:Int),())
 let b:=A3 (Oj a) (TX a) c
 (AB (Oj a) (TX a) (Yd a) c,cond (tY9 a b) (uP2 a b) 0)
def Ye a:=(Qy a).1
def Lu a:=(Qy a).2
theorem lM5:SK 43 (AU Al vI Ye Lu):=fb Tryz.func43 79 [kb lM4,kb nY3] [(2,oR7),(9,oR5)]
def pF (a:AJ)(b:Int):Prop×Bool:=
 (True,a.1==b)
def tZ a b:=(pF a b).1
def nY4 a b:=(pF a b).2
instance (a b):Decidable (tZ a b):=by unfold tZ pF;dsimp only;infer_instance
theorem oR8:SK 49 (BF Ay Ea vB tZ nY4):=fb Tryz.func49 8
abbrev wY6:Type:=((List AJ)×(Int×Unit)×Int×Unit)
def TY (y:wY6)(x:AD):Vm AD:=
 let e:=y.1
 let f:=y.2.1
 let b:=x.1
 let d:Bool:=b<y.2.2.1
 let c:=nth e b AA
 let a:=nY4 c f.1
 (d->A7 b (len e)/\tZ c f.1/\(!a->A6 (b+1)),d&&(!a),(b+1,()),d&&a,!d)
def vA y x:=(TY y x).1
def Ia y x:=(TY y x).2.1
def Ib y x:=(TY y x).2.2.1
def TZ y x:=(TY y x).2.2.2.1
def qS1 y x:=(TY y x).2.2.2.2
instance (y x):Decidable (vA y x):=by unfold vA TY;dsimp only;infer_instance
def Yf (y:wY6)(x:AD):Int:=
 x.1
def qS2:=li [(0,Ar),(1,(.fn 49 (.cons Ea .nl))),(7,vI)] [(8,vI)] Ia Ib vA (λy x=>[ex 1 (some (TZ y x)) [(4,vI)] ((Yf y x),()),ex 2 (some (qS1 y x)) [] ()]) [[(4,vI)],[]]
def pF0 (d:List AJ)(e:(Int×Unit)):Prop×Int:=
 let a:=(d,(e.1,()),len d,())
 let c:=((0:Int),())
 let b:=A3 (Ia a) (Ib a) c
 (AB (Ia a) (Ib a) (vA a) c,cond (TZ a b) (Yf a b) (-1:Int))
def tZ0 a b:=(pF0 a b).1
def nY5 a b:=(pF0 a b).2
instance (a b):Decidable (tZ0 a b):=by unfold tZ0 pF0;dsimp only;infer_instance
theorem oR9:SK 48 (BF Ar (.fn 49 (.cons Ea .nl)) vI tZ0 nY5):=fb Tryz.func48 19 [kb oR8] [(2,qS2)]
def Qz (a:AM)(b:Int):Prop×Int:=
 let s:=(b,())
 (tZ0 a.2.2.2.1 s,nY5 a.2.2.2.1 s)
def Hy a b:=(Qz a b).1
def BN a b:=(Qz a b).2
instance (a b):Decidable (Hy a b):=by unfold Hy Qz;dsimp only;infer_instance
def nN:=BF Al vI vI Hy BN
theorem Ok:SK 15 (BF Al vI vI Hy BN):=fb Tryz.func15 9 [kb oR9] [] [(2,[(3,3,0,0)])]
def pF1 (a:C9)(b:AJ):Prop×Bool:=
 (True,a.1==(Qh b).1)
def tZ1 a b:=(pF1 a b).1
def nY6 a b:=(pF1 a b).2
theorem oS:SK 78 (BF (.val HU) De vB tZ1 nY6):=fb Tryz.func78 9
abbrev wS4:Type:=((List C9)×(AJ×Unit)×Int×Unit)
def Ua (y:wS4)(x:AD):Vm AD:=
 let e:=y.1
 let f:=y.2.1
 let b:=x.1
 let d:Bool:=b<y.2.2.1
 let c:=nth e b CT
 let a:=nY6 c f.1
 (d->A7 b (len e)/\tZ1 c f.1/\(!a->A6 (b+1)),d&&(!a),(b+1,()),d&&a,!d)
def vQ9 y x:=(Ua y x).1
def tB7 y x:=(Ua y x).2.1
def vZ1 y x:=(Ua y x).2.2.1
def tZ2 y x:=(Ua y x).2.2.2.1
def qH2 y x:=(Ua y x).2.2.2.2
def tB8 (y:wS4)(x:AD):Int:=
 x.1
def qH3:=li [(0,Bf),(1,(.fn 78 (.cons De .nl))),(7,vI)] [(8,vI)] tB7 vZ1 vQ9 (λy x=>[ex 1 (some (tZ2 y x)) [(4,vI)] ((tB8 y x),()),ex 2 (some (qH2 y x)) [] ()]) [[(4,vI)],[]]
def qH4 (d:List C9)(e:(AJ×Unit)):Prop×Int:=
 let a:=(d,(e.1,()),len d,())
 let c:=((0:Int),())
 let b:=A3 (tB7 a) (vZ1 a) c
 (AB (tB7 a) (vZ1 a) (vQ9 a) c,cond (tZ2 a b) (tB8 a b) (-1:Int))
def Yg a b:=(qH4 a b).1
def Ol a b:=(qH4 a b).2
theorem oD9:SK 112 (BF Bf (.fn 78 (.cons De .nl)) vI Yg Ol):=fb Tryz.func112 19 [kb oS] [(2,qH3)]
def pF2 (a:List C9)(b:(AJ×Unit)):Prop×Bool:=
 let s:=(b.1,())
 (Yg a s,decide (Ol a s≥0))
def tC a b:=(pF2 a b).1
def nY7 a b:=(pF2 a b).2
theorem oS0:SK 77 (BF Bf (.fn 78 (.cons De .nl)) vB tC nY7):=fb Tryz.func77 9 [kb oD9]
def Ub (y:Ls)(x:AD):Vm AD:=
 let g:=y.1
 let m:=y.2.1
 let h:=x.1
 let b:Bool:=h<y.2.2.1
 let a:=nth m h AA
 let c:=a.2.1==9
 let s:=(a,())
 let j:=!(nY7 (Q0 g).1 s)
 let e:=a.2.1==10
 let f:=BN g (Qh a).1
 let d:Bool:=f<0
 let k:=nth g.2.2.2.1 f AA
 let l:=Jy k
 let i:=cond c (!j) (cond e ((!d)&&(!l)) true)
 (b->A7 h (len m)/\(c->tC (Q0 g).1 s)/\(c=false->e->Hy g (Qh a).1/\(!d->A7 f (len g.2.2.2.1)/\P3 k))/\(i->A6 (h+1)),b&&i,(h+1,()),b&&(cond c j ((d||((!d)&&l))&&e)),!b)
def Yh y x:=(Ub y x).1
def Om y x:=(Ub y x).2.1
def Uc y x:=(Ub y x).2.2.1
def Ud y x:=(Ub y x).2.2.2.1
def oS1 y x:=(Ub y x).2.2.2.2
def Yi (y:Ls)(x:AD):Int:=
 let a:=nth y.2.1 x.1 AA
 (cond (a.2.1==9) (9:Int) (cond (BN y.1 (Qh a).1<0) 9 8))
def oS2:=li [(1,Ae),(7,Ar),(8,vI)] [(9,vI)] Om Uc Yh (λy x=>[ex 1 (some (Ud y x)) [(2,vI)] ((Yi y x),()),ex 2 (some (oS1 y x)) [] ()]) [[(2,vI)],[]]
def QA (d:AM):Prop×Int:=
 let a:=(d,d.2.2.2.1,len d.2.2.2.1,())
 let c:=((0:Int),())
 let b:=A3 (Om a) (Uc a) c
 (AB (Om a) (Uc a) (Yh a) c,cond (Ud a b) (Yi a b) 0)
def Yj a:=(QA a).1
def Lv a:=(QA a).2
theorem lM6:SK 44 (AU Al vI Yj Lv):=fb Tryz.func44 37 [kb Ok,kb oO1,kb oS0] [(2,oS2)] [(12,[(3,4,0,0)])]
abbrev tZ3:Type:=(Int×AM×(List AJ)×Int×Unit)
def qH5 (y:tZ3)(x:Gq):Vn Gq:=
 let g:=y.1
 let h:=y.2.1
 let b:=y.2.2.1
 let f:=x.1
 let a:=x.2.1
 let c:Bool:=a<y.2.2.2.1
 let d:=(nth b a AA).2.2.1==(nth h.2.2.2.1 g AA).1
 let e:=([a]:List Int)
 (c->A7 a (len b)/\A7 g (len h.2.2.2.1)/\(d->((length f+length e:Nat):Int)<=4294967296)/\A6 (a+1),c,(cond d (f++e) f,a+1,()))
def Yk y x:=(qH5 y x).1
def Yl y x:=(qH5 y x).2.1
def Ym y x:=(qH5 y x).2.2
instance (y x):Decidable (Yk y x):=by unfold Yk qH5;dsimp only;infer_instance
def rH1 (y:tZ3)(x:Gq):(List Int):=
 x.1
def qS4:List (Nat×Sh):=[(5,Aw)]
def oS3:=li [(1,vI),(2,Ae),(18,Ar),(19,vI)] [(5,Aw),(20,vI)] Yl Ym Yk (λy x=>[ex 3 none qS4 ((rH1 y x),())]) [qS4]
def QB (j:AM)(k:Int):Prop×(List Int):=
 let c:=nth j.2.2.2.1 k AA
 let a:=c.2.1==1
 let b:=(k,j,j.2.2.2.1,len j.2.2.2.1,())
 let i:=(([]:List Int),(0:Int),())
 let d:=c.2.1==10
 let e:=nth j.2.2.2.1 k AA
 let f:=BN j (Qh e).1
 let g:Bool:=f≥0
 let h:=([f]:List Int)
 (A7 k (len j.2.2.2.1)/\(a->AB (Yl b) (Ym b) (Yk b) i)/\(a=false->d->A7 k (len j.2.2.2.1)/\Hy j (Qh e).1/\(g->(length h:Int)<=4294967296)),cond a (rH1 b (A3 (Yl b) (Ym b) i)) (cond d (cond g h []) []))
def Ue a b:=(QB a b).1
def BX a b:=(QB a b).2
instance (a b):Decidable (Ue a b):=by unfold Ue QB;dsimp only;infer_instance
def nN0:=BF Al vI Bh Ue BX
theorem lM7:SK 80 (BF Al vI Bh Ue BX):=fb Tryz.func80 56 [kb Ok] [(5,oS3)] [(17,[(4,0,37,1005)]),(27,[(4,0,54,1005)]),(29,[(4,0,1005,0)])]
abbrev EI:Type:=Int->(List Bool)->(List Bool)->AM->Unit->Prop×Bool×((List Bool)×(List Bool)×AM×Unit)
def Uf (r:EI):Am.Spec:=fnSpec [(0,vI),(1,As),(2,At),(3,Ae),(4,(.fptr 79 [some (1,Bl),some (2,Bl),some (3,T28),none]))] vB [(1,As),(2,At),(3,Ae)] (λx=>(r x.1 x.2.1 x.2.2.1 x.2.2.2.1 x.2.2.2.2.1).1) (λx=>(r x.1 x.2.1 x.2.2.1 x.2.2.2.1 x.2.2.2.2.1).2.1) (λx=>(r x.1 x.2.1 x.2.2.1 x.2.2.2.1 x.2.2.2.2.1).2.2)
abbrev Hz:Type:=(Int×Unit×(List Int)×Int×Unit)
abbrev Ge:Type:=((List Bool)×(List Bool)×AM×Int×Unit)
def Ug (r:EI)(y:Hz)(x:Ge):Vm Ge:=
 let f:=y.2.2.1
 let g:=x.1
 let h:=x.2.1
 let i:=x.2.2.1
 let a:=x.2.2.2.1
 let c:Bool:=a<y.2.2.2.1
 let d:=nth f a 0
 let e:=(r d g h i ()).2.1
 let b:=(r d g h i ()).2.2
 (c->A7 a (len f)/\(r d g h i ()).1/\(!e->A6 (a+1)),c&&(!e),(b.1,b.2.1,b.2.2.1,a+1,()),c&&e,!c)
def Uh (r:EI)(y:Hz)(x:Ge):Prop:=((Ug r) y x).1
def Lw (r:EI)(y:Hz)(x:Ge):Bool:=((Ug r) y x).2.1
def Mr (r:EI)(y:Hz)(x:Ge):Ge:=((Ug r) y x).2.2.1
def Ms (r:EI)(y:Hz)(x:Ge):Bool:=((Ug r) y x).2.2.2.1
def sR5 (r:EI)(y:Hz)(x:Ge):Bool:=((Ug r) y x).2.2.2.2
instance (r:EI) [∀q0 q1 q2 q3 q4,Decidable (r q0 q1 q2 q3 q4).1] (y:Hz)(x:Ge):Decidable ((Uh r) y x):=by
 unfold Uh Ug
 try dsimp only
 infer_instance
def tO8 (r:EI)(y:Hz)(x:Ge):(List Bool):=
 (r (nth y.2.2.1 x.2.2.2.1 0) x.1 x.2.1 x.2.2.1 ()).2.2.1
def tO9 (r:EI)(y:Hz)(x:Ge):(List Bool):=
 (r (nth y.2.2.1 x.2.2.2.1 0) x.1 x.2.1 x.2.2.1 ()).2.2.2.1
def tP (r:EI)(y:Hz)(x:Ge):AM:=
 (r (nth y.2.2.1 x.2.2.2.1 0) x.1 x.2.1 x.2.2.1 ()).2.2.2.2.1
def tP0 (r:EI)(y:Hz)(x:Ge):Bool:=
 true
def sR6:List (Nat×Sh):=[(1,As),(2,At),(3,Ae),(6,vB)]
def tP1 (r:EI)(y:Hz)(x:Ge):(List Bool):=
 x.1
def tP2 (r:EI)(y:Hz)(x:Ge):(List Bool):=
 x.2.1
def tP3 (r:EI)(y:Hz)(x:Ge):AM:=
 x.2.2.1
def sR7:List (Nat×Sh):=[(0,vI),(1,As),(2,At),(3,Ae)]
def tP4 (r:EI):St->Option Out:=Iu [(0,vI),(4,(.fptr 79 [some (1,Bl),some (2,Bl),some (3,T28),none])),(29,(.own Aa 29 false)),(30,vI)] [(1,As),(2,At),(3,Ae),(31,vI)] (Lw r) (Mr r) (Uh r) λy x=>[ex 1 (some ((Ms r) y x)) sR6 (((tO8 r) y x),((tO9 r) y x),((tP r) y x),((tP0 r) y x),()),ex 2 (some ((sR5 r) y x)) sR7 (y.1,((tP1 r) y x),((tP2 r) y x),((tP3 r) y x),())]
def FI (r:EI)(i:Int)(j k:List Bool)(l:AM)(m:Unit):Vn ((List Bool)×(List Bool)×AM×Unit):=
 let f:=nth j i false
 let d:=cond f true (nth k i false)
 let g:=BX l i
 let c:=(i,(),g,len g,())
 let h:=(j,set k (toNat i) true,l,(0:Int),())
 let e:=A3 ((Lw r) c) ((Mr r) c) h
 let b:=(Ms r) c e
 let a:=(tP1 r) c e
 (A7 i (len j)/\i<len j/\(!f->A7 i (len k))/\(!f->i<len k)/\(d->A7 i (len j)/\i<len j)/\(!d->A7 i (len k)/\i<len k/\Ue l i/\AB ((Lw r) c) ((Mr r) c) ((Uh r) c) h/\((sR5 r) c e->A7 i (len a)/\i<len a)),cond d (!(nth j i false)) (cond b ((tP0 r) c e) false),(cond d j (cond b ((tO8 r) c e) (set a (toNat i) true)),cond d k (cond b ((tO9 r) c e) ((tP2 r) c e)),cond d l (cond b ((tP r) c e) ((tP3 r) c e)),()))
def rX5 (r:EI):Ctx:={ Cx tys [(79,Uf r),(80,nN0)] [(5,(tP4 r))] [] false 42 [1,2,3] [] with wants:=[(79,[])],fts:=fts }
theorem rX6 (r:EI)(hr:SpecOk Tryz.prog 79 (Uf r)):CtxOk Tryz.prog (rX5 r):=cq ⟨hr,lM7,trivial⟩
noncomputable def pF3:Code:=Tryz.f79.body.getD .skip
noncomputable def qS5:Code:=SN pF3 0
theorem qS6 (r:EI)(hr:SpecOk Tryz.prog 79 (Uf r)):yY Tryz.prog (rX5 r) qS5:=lq (rX6 r hr) (sp:=(tP4 r)) rfl [sR6,sR7]
instance (r:EI) [∀q0 q1 q2 q3 q4,Decidable (r q0 q1 q2 q3 q4).1] (a:Int)(b c:List Bool)(d:AM)(e:Unit):Decidable (FI r a b c d e).1:=by
 unfold FI
 try dsimp only
 infer_instance
theorem pF4 (r:EI)(hr:SpecOk Tryz.prog 79 (Uf r)):SpecOk Tryz.prog 79 (Uf (FI r)):=WK (rX6 r hr) mixed Tryz.func79 (by kernel_rfl) (bs:=[qS5]) (by kernel_rfl) ⟨qS6 r hr,trivial⟩ λx=>by kernel_rfl
def wS:Nat->EI
 |0=>λ_ _ _ _ _=>(False,false,([],[],Z28,()))
 |k+1=>FI (wS k)
theorem rX7:∀k,SpecOk Tryz.prog 79 (Uf (wS k))
 |0=>xY5 Tryz.func79 (by kernel_rfl) (by decide)
 |k+1=>pF4 _ (rX7 k)
def sY4 (a:Int)(b c:List Bool)(d:AM)(e:Unit):Nat:=(length b+1)
def tZ5 (a:Int)(b c:List Bool)(d:AM)(e:Unit):Prop:=(wS (sY4 a b c d e) a b c d e).1
def Ui (a:Int)(b c:List Bool)(d:AM)(e:Unit):Bool:=(wS (sY4 a b c d e) a b c d e).2.1
def sY5 (a:Int)(b c:List Bool)(d:AM)(e:Unit):((List Bool)×(List Bool)×AM×Unit):=(wS (sY4 a b c d e) a b c d e).2.2
def rX9:∀(k:Nat) (a:Int) (b c:List Bool) (d:AM) (e:Unit),Decidable (wS k a b c d e).1
 |0,_,_,_,_,_=>isFalse id
 |k+1,a,b,c,d,e=>by
  have:∀(q0:Int) (q1 q2:List Bool) (q3:AM) (q4:Unit),Decidable (wS k q0 q1 q2 q3 q4).1:=rX9 k;exact inferInstanceAs (Decidable (FI (wS k) a b c d e).1)
instance (a:Int)(b c:List Bool)(d:AM)(e:Unit):Decidable (tZ5 a b c d e):=rX9 _ a b c d e
def pF5:Am.Spec:=fnSpec [(0,vI),(1,As),(2,At),(3,Ae),(4,(.fptr 79 [some (1,Bl),some (2,Bl),some (3,T28),none]))] vB [(1,As),(2,At),(3,Ae)] (λx=>tZ5 x.1 x.2.1 x.2.2.1 x.2.2.2.1 x.2.2.2.2.1) (λx=>Ui x.1 x.2.1 x.2.2.1 x.2.2.2.1 x.2.2.2.2.1) (λx=>sY5 x.1 x.2.1 x.2.2.1 x.2.2.2.1 x.2.2.2.2.1)
theorem oS4:SpecOk Tryz.prog 79 pF5:=wA0 (ps:=[(0,vI),(1,As),(2,At),(3,Ae),(4,(.fptr 79 [some (1,Bl),some (2,Bl),some (3,T28),none]))]) (rs:=vB) (os:=[(1,As),(2,At),(3,Ae)]) (R:=λk x=>wS k x.1 x.2.1 x.2.2.1 x.2.2.2.1 x.2.2.2.2.1) rX7 λx=>sY4 x.1 x.2.1 x.2.2.1 x.2.2.2.1 x.2.2.2.2.1
abbrev uP5:Type:=(Unit×Int×Unit)
abbrev vL3:Type:=(AM×(List Bool)×(List Bool)×Int×Unit)
def sJ (y:uP5)(x:vL3):Vm vL3:=
 let e:=x.1
 let f:=x.2.1
 let g:=x.2.2.1
 let a:=x.2.2.2.1
 let c:Bool:=a<y.2.1
 let d:=Ui a g f e ()
 let b:=sY5 a g f e ()
 (c->tZ5 a g f e ()/\(!d->A6 (a+1)),c&&(!d),(b.2.2.1,b.2.1,b.1,a+1,()),c&&d,!c)
def Yn y x:=(sJ y x).1
def Uj y x:=(sJ y x).2.1
def Uk y x:=(sJ y x).2.2.1
def tZ6 y x:=(sJ y x).2.2.2.1
def oS5 y x:=(sJ y x).2.2.2.2
def rH2 (y:uP5)(x:vL3):Bool:=
 true
def oS6:=li [(5,(.fptr 79 [some (4,Bl),some (3,Bl),some (1,T28),none])),(18,vI)] [(1,Ae),(3,(.box Bl (.own .bool 400300 true))),(4,(.box Bl (.own .bool 400400 true))),(19,vI)] Uj Uk Yn (λy x=>[ex 1 (some (tZ6 y x)) [(2,vB)] ((rH2 y x),()),ex 2 (some (oS5 y x)) [] ()]) [[(2,vB)],[]]
def QC (f:AM):Prop×Bool:=
 let c:=len f.2.2.2.1
 let a:=len f.2.2.2.1
 let b:=((),len f.2.2.2.1,())
 let e:=(f,replicate (toNat c) false,replicate (toNat a) false,(0:Int),())
 let d:=A3 (Uj b) (Uk b) e
 ((0<=c/\c<=c/\c<=4294967296)/\(0<=a/\a<=a/\a<=4294967296)/\AB (Uj b) (Uk b) (Yn b) e,cond (tZ6 b d) (rH2 b d) false)
def Yo a:=(QC a).1
def Mt a:=(QC a).2
theorem lM8:SK 45 (AU Al vB Yo Mt):=fx (λc=>{ c with wants:=[(79,[])],fts:=fts }) Tryz.func45 26 [kb oS4] [(6,oS6)] [(3,[(4,0,10,400300)]),(5,[(4,0,14,400400)])] false [] [10,14]
def Ul (y:SU)(x:AD):Vm AD:=
 let e:=y.1
 let a:=x.1
 let b:Bool:=a<y.2.2.1
 let d:Bool:=wD e a<y.2.1
 let c:=cond d true (wD e a>126)
 (b->A7 a (len e)/\(!d->A7 a (len e))/\(!c->A6 (a+1)),b&&(!c),(a+1,()),b&&c,!b)
def tL y x:=(Ul y x).1
def Yp y x:=(Ul y x).2.1
def Yq y x:=(Ul y x).2.2.1
def rY y x:=(Ul y x).2.2.2.1
def oE y x:=(Ul y x).2.2.2.2
def sR8 (y:SU)(x:AD):Bool:=
 false
def oE0:=li [(0,vS),(2,Bc),(18,vI)] [(19,vI)] Yp Yq tL (λy x=>[ex 1 (some (rY y x)) [(6,vB)] ((sR8 y x),()),ex 2 (some (oE y x)) [] ()]) [[(6,vB)],[]]
def mO5 (e:List UInt8)(f g:Int):Prop×Bool:=
 let b:=cond (len e<1) true (len e>f)
 let a:=(e,g,len e,())
 let d:=((0:Int),())
 let c:=A3 (Yp a) (Yq a) d
 (!b->AB (Yp a) (Yq a) (tL a) d,cond b false (cond (rY a c) (sR8 a c) true))
def Um a b c:=(mO5 a b c).1
def QD a b c:=(mO5 a b c).2
theorem oS7:SK 146 (DU vS vI Bc vB Um QD):=fb Tryz.func146 34 [] [(4,oE0)]
def mO6 (a:List UInt8):Prop×Bool:=
 (Um a 32 33,QD a 32 33)
def qH6 a:=(mO6 a).1
def Mu a:=(mO6 a).2
theorem mO7:SK 113 (AU vS vB qH6 Mu):=fb Tryz.func113 5 [kb oS7]
def mO8 (a:List UInt8):Prop×Bool:=
 (Um a 256 32,QD a 256 32)
def qH7 a:=(mO8 a).1
def Mv a:=(mO8 a).2
theorem mO9:SK 114 (AU vS vB qH7 Mv):=fb Tryz.func114 5 [kb oS7]
def QE (g:List C8)(h:C8):Prop×Int:=
 let f:=!(Mu h.1)
 let b:=!(Mv h.2.1)
 let a:Bool:=len g>0
 let c:=len g
 let d:=c-1
 let e:=nth g d DD
 (qH6 h.1/\(!f->qH7 h.2.1/\(!b->(a->A6 (c-1))/\(a->A7 d (len g)))),cond f (13:Int) (cond b 4 (cond (cond a (Op.bytesLess h.1 e.1||h.1==e.1) false) 24 0)))
def Yr a b:=(QE a b).1
def Mw a b:=(QE a b).2
theorem lM9:SK 82 (BF Bn (.val Jw) vI Yr Mw):=fb Tryz.func82 28 [kb mO7,kb mO9]
abbrev uP6:Type:=((List C8)×(List C8)×Int×Unit)
def Un (y:uP6)(x:AD):Vm AD:=
 let f:=y.1
 let g:=y.2.1
 let a:=x.1
 let b:Bool:=a<y.2.2.1
 let d:=nth g a DD
 let e:=take (toNat a) f
 let c:=Mw e d !=0
 (b->A7 a (len g)/\(0<=a/\a<=len f)/\Yr e d/\(!c->A6 (a+1)),b&&(!c),(a+1,()),b&&c,!b)
def Ys y x:=(Un y x).1
def QF y x:=(Un y x).2.1
def QG y x:=(Un y x).2.2.1
def rH3 y x:=(Un y x).2.2.2.1
def oS8 y x:=(Un y x).2.2.2.2
def tR8 (y:uP6)(x:AD):Int:=
 let a:=x.1
 (Mw (take (toNat a) y.1) (nth y.2.1 a DD))
def oS9:=li [(0,Bn),(9,Bn),(10,vI)] [(11,vI)] QF QG Ys (λy x=>[ex 1 (some (rH3 y x)) [(2,vI)] ((tR8 y x),()),ex 2 (some (oS8 y x)) [] ()]) [[(2,vI)],[]]
def QH (e:List C8):Prop×Int:=
 let c:Bool:=len e>16
 let a:=(e,e,len e,())
 let d:=((0:Int),())
 let b:=A3 (QF a) (QG a) d
 (!c->AB (QF a) (QG a) (Ys a) d,cond c 3 (cond (rH3 a b) (tR8 a b) 0))
def Yt a:=(QH a).1
def QI a:=(QH a).2
theorem lN:SK 47 (AU Bn vI Yt QI):=fb Tryz.func47 25 [kb lM9] [(4,oS9)]
end Go.Proofs.YtlpphnncneppoaaGreatDoor.Am
