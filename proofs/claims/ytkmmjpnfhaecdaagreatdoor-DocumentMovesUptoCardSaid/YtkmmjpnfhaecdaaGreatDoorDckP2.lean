/- Printed by program, part 2. No condition. -/
import Derived.Test.YtkmmjpnfhaecdaaGreatDoorDckL
set_option linter.unusedVariables false
set_option synthInstance.maxSize 4000
set_option synthInstance.maxHeartbeats 400000
namespace Go.Proofs.YtkmmjpnfhaecdaaGreatDoor.Am
open Go Go.Am Go.Proofs
open Go.IntKind (wrap)
open _root_.Int (sub tdiv tmod toNat)
open _root_.List (length replicate set)
def PI :Prop×Int:=
 (True,4)
def Tx :Prop:=(PI).1
def f65 :Int:=(PI).2
def nW4:Am.Spec:=fnSpec [] vI [] (λx=>Tx ) (λx=>f65 ) (λ_=>())
theorem lS9:SK 65 (fnSpec [] vI [] (λx=>Tx ) (λx=>f65 ) (λ_=>())):=fb Tryz.func65 1
def Mi (c:AJ):Prop×Int:=
 let a:=cond (cond (cond (c.1<1) true (c.1>256)) true (c.2.1<1)) true (c.2.1>256)
 let b:Bool:=c.2.2.1<0
 (!a->!b->Tx,cond a (15:Int) (cond (cond b true (c.2.2.1≥f65)) 2 0))
def PJ a:=(Mi a).1
def f35 a:=(Mi a).2
def nW5:=AU Al vI PJ f35
def mQ:=Cy [(65,nW4)] [] [] 30
theorem mI6:SK 35 nW5:=fq (c:=mQ) Tryz.func35 ⟨lS9,trivial⟩
def PK (a:Int):Prop×Bool:=
 (True,cond (a≥0) (decide (a<=65535)) false)
def Xz a:=(PK a).1
def f75 a:=(PK a).2
theorem lT:SK 75 (AU vI vB Xz f75):=fb Tryz.func75 9
abbrev Fj:Type:=((List Int)×Int×Unit)
def Tz (y:Fj)(x:AD):Vm AD:=
 let d:=y.1
 let a:=x.1
 let b:Bool:=a<y.2.1
 let e:=nth d a 0
 let c:=!(f75 e)
 (b->A7 a (len d)/\Xz e/\(!c->A6 (a+1)),b&&(!c),(a+1,()),b&&c,!b)
def X0 y x:=(Tz y x).1
def rA7 y x:=(Tz y x).2.1
def uP1 y x:=(Tz y x).2.2.1
def qX y x:=(Tz y x).2.2.2.1
def oU4 y x:=(Tz y x).2.2.2.2
def rG3 (y:Fj)(x:AD):Int:=
 2
def oU5:=li [(42,Ak),(43,vI)] [(44,vI)] rA7 uP1 X0 (λy x=>[ex 1 (some (qX y x)) [(2,vI)] ((rG3 y x),()),ex 2 (some (oU4 y x)) [] ()]) [[(2,vI)],[]]
def PL (g:FN):Prop×Int:=
 let b:=cond (cond (cond (g.1<0) true (g.1>256)) true (g.2.1<0)) true (g.2.1>256)
 let c:=!(Ty.eqb .bool (g.1==0) (g.2.1==0))
 let d:=cond c true (len g.2.2.1!=(g.1*g.2.1))
 let a:=(g.2.2.1,len g.2.2.1,())
 let f:=((0:Int),())
 let e:=A3 (rA7 a) (uP1 a) f
 (!b->(!c->A6 (g.1*g.2.1))/\(!d->AB (rA7 a) (uP1 a) (X0 a) f),cond b 15 (cond d 15 (cond (qX a e) (rG3 a e) 0)))
def Ob a:=(PL a).1
def Kp a:=(PL a).2
theorem mI7:SK 41 (AU Ca vI Ob Kp):=fb Tryz.func41 52 [kb lT] [(6,oU5)]
def PM (a:AI):Prop×Bool:=
 (True,cond (cond (a.2.1==7) true (a.2.1==8)) true (a.2.1==11))
def PN a:=(PM a).1
def J4 a:=(PM a).2
theorem oU6:SK 68 (AU Bc vB PN J4):=fb Tryz.func68 16
def nW6 (o:Int):Prop×(List UInt8):=
 let l:=o==1
 let m:=o==2
 let n:=o==3
 let e:=o==4
 let f:=o==5
 let g:=o==6
 let h:=o==7
 let i:=o==8
 let j:=o==9
 let k:=o==10
 let c:=cond i ([102,105,108,116,101,114]:List UInt8) (cond j ([108,105,110,107]:List UInt8) (cond k ([99,108,111,110,101]:List UInt8) ([119,97,114,112]:List UInt8)))
 let d:=cond e ([103,114,97,100,105,101,110,116]:List UInt8) (cond f ([112,97,116,104]:List UInt8) (cond g ([116,101,120,116]:List UInt8) (cond h ([97,100,106,117,115,116]:List UInt8) c)))
 let b:=cond n true (cond e true (cond f true (cond g true (cond h true (cond i true (cond j true (cond k true (o==11))))))))
 let a:=cond (cond l true (cond m true b)) (cond l ([103,114,111,117,112]:List UInt8) (cond m ([105,109,97,103,101]:List UInt8) (cond n ([102,105,108,108]:List UInt8) d))) []
 (True,a)
def pG3 a:=(nW6 a).1
def H6 a:=(nW6 a).2
theorem mQ0:SK 124 (AU vI vS pG3 H6):=fb Tryz.func124 26
abbrev Oc:Type:=((List UInt8)×Int×Unit)
def X1 (y:Oc)(x:AD):Vm AD:=
 let e:=y.1
 let a:=x.1
 let b:Bool:=a<y.2.1
 let d:Bool:=wD e a<33
 let c:=cond d true (wD e a>126)
 (b->A7 a (len e)/\(!d->A7 a (len e))/\(!c->A6 (a+1)),b&&(!c),(a+1,()),b&&c,!b)
def rZ7 y x:=(X1 y x).1
def TA y x:=(X1 y x).2.1
def TB y x:=(X1 y x).2.2.1
def rZ8 y x:=(X1 y x).2.2.2.1
def oG0 y x:=(X1 y x).2.2.2.2
def sS7 (y:Oc)(x:AD):Bool:=
 false
def oG1:=li [(0,vS),(13,vI)] [(14,vI)] TA TB rZ7 (λy x=>[ex 1 (some (rZ8 y x)) [(2,vB)] ((sS7 y x),()),ex 2 (some (oG0 y x)) [] ()]) [[(2,vB)],[]]
def lT0 (e:List UInt8):Prop×Bool:=
 let b:=cond (len e<1) true (len e>32)
 let a:=(e,len e,())
 let d:=((0:Int),())
 let c:=A3 (TA a) (TB a) d
 (!b->AB (TA a) (TB a) (rZ7 a) d,cond b false (cond (rZ8 a c) (sS7 a c) true))
def pG4 a:=(lT0 a).1
def Mj a:=(lT0 a).2
theorem mQ1:SK 125 (AU vS vB pG4 Mj):=fb Tryz.func125 28 [] [(4,oG1)]
def lT1 (a:Int):Prop×Bool:=
 (True,cond (a≥0) (decide (a<=1073741824)) false)
def qJ4 a:=(lT1 a).1
def PO a:=(lT1 a).2
theorem mQ2:SK 126 (AU vI vB qJ4 PO):=fb Tryz.func126 9
def lT2 (a:Int):Prop×Bool:=
 (True,cond (a≥0) (decide (a<=65535)) false)
def pG5 a:=(lT2 a).1
def X2 a:=(lT2 a).2
theorem mQ3:SK 127 (AU vI vB pG5 X2):=fb Tryz.func127 9
def lT3 (a:Int):Prop×Bool:=
 (True,cond (a≥0) (decide (a<18)) false)
def pG6 a:=(lT3 a).1
def PQ a:=(lT3 a).2
theorem mQ4:SK 128 (AU vI vB pG6 PQ):=fb Tryz.func128 9
def PR (k:AI)(l m:Int):Prop×Int:=
 let b:=cond (cond (cond (l<1) true (l>256)) true (m<1)) true (m>256)
 let c:=H6 k.2.1==[]
 let d:=!(Mj k.2.2.2.1)
 let e:=!(PO k.1)
 let f:=cond e true (!(PO k.2.2.1))
 let g:=cond f true (!(X2 (Q0 k).1))
 let h:=!(PQ (Q5 k).1)
 let i:=cond h true (cond (J4 k) ((Q5 k).1 !=0) false)
 let j:=Kp (Q4 k).1
 let a:=cond (j !=0) j (cond (cond ((Q4 k).1.1 !=0) (cond ((Q4 k).1.1 !=l) true ((Q4 k).1.2.1 !=m)) false) 15 0)
 (!b->pG3 k.2.1/\(!c->pG4 k.2.2.2.1/\(!d->qJ4 k.1/\(!e->qJ4 k.2.2.1)/\(!f->pG5 (Q0 k).1)/\(!g->pG6 (Q5 k).1/\(!h->PN k)/\(!i->Ob (Q4 k).1)))),cond b 15 (cond c 8 (cond d 13 (cond g 2 (cond i 8 a)))))
def oU7 a b c:=(PR a b c).1
def Lx a b c:=(PR a b c).2
theorem lT4:SK 92 (DT Bc vI vI vI oU7 Lx):=fb Tryz.func92 83 [kb mI7,kb oU6,kb mQ0,kb mQ1,kb mQ2,kb mQ3,kb mQ4]
def PS (e:Int):Prop×Bool:=
 let a:=e==2
 let b:=e==5
 let c:=e==6
 let d:=e==9
 (True,cond (cond a a (cond b b (cond c c (cond d d (e==10))))) true false)
def pV1 a:=(PS a).1
def Od a:=(PS a).2
theorem mI8:SK 93 (AU vI vB pV1 Od):=fb Tryz.func93 10
def X3 (a b c:Int):Prop×Int:=
 (True,GX c (GW a b))
def Oe a b c:=(X3 a b c).1
def f195 a b c:=(X3 a b c).2
theorem pG7:SK 195 (DT vI vI vI vI Oe f195):=fb Tryz.func195 12 [] [] [] true
def lT5 (a:Int):Prop×Int:=
 (Oe a (-16777216:Int) 16777216,f195 a (-16777216:Int) 16777216)
def sK a:=(lT5 a).1
def f157 a:=(lT5 a).2
theorem mQ5:SK 157 (AU vI vI sK f157):=fb Tryz.func157 5 [kb pG7]
def lT6 (a:Int):Prop×Int:=
 (Oe a (-1099511627776:Int) 1099511627776,f195 a (-1099511627776:Int) 1099511627776)
def Of a:=(lT6 a).1
def G8 a:=(lT6 a).2
theorem oU9:SK 158 (AU vI vI Of G8):=fb Tryz.func158 5 [kb pG7] [] [] true
def lT7 (a:C1):Prop×C1:=
 (sK a.1/\sK a.2.1/\sK a.2.2.1/\sK a.2.2.2.1/\Of a.2.2.2.2.1/\Of (Q1 a).1,(f157 a.1,f157 a.2.1,f157 a.2.2.1,f157 a.2.2.2.1,G8 a.2.2.2.2.1,G8 (Q1 a).1,()))
def qJ5 a:=(lT7 a).1
def Kq a:=(lT7 a).2
theorem oV:SK 129 (AU Az Az qJ5 Kq):=fb Tryz.func129 22 [kb mQ5,kb oU9] [] [] true
def X4 (a:C1):Prop×Int:=
 (qJ5 a,cond (!(Ty.eqb Hz a (Kq a))) (2:Int) 0)
def Og a:=(X4 a).1
def Fc a:=(X4 a).2
theorem pV2:SK 94 (AU Az vI Og Fc):=fb Tryz.func94 7 [kb oV]
def mQ6 (d e f g:Int):Prop×Int:=
 let a:=DJ e 65536
 let b:=DJ g 65536
 let c:=wrap .i64 (wrap .i64 (d*wrap .i64 (e-(wrap .i64 (a*65536))))+wrap .i64 (f*wrap .i64 (g-(wrap .i64 (b*65536)))))
 (PG e 65536/\PG g 65536/\Ep c 65536,wrap .i64 (wrap .i64 (wrap .i64 (d*a)+wrap .i64 (f*b))+AS c 65536))
def TC a b c d:=(mQ6 a b c d).1
def H7 a b c d:=(mQ6 a b c d).2
theorem oV0:SK 131 (Fy vI vI vI vI vI TC H7):=fb Tryz.func131 37 [kb Km,kb oT7] [] [] true
def PT (p:C1):Prop×(C1×Int×Unit):=
 let v:=Fc p
 let c:=v !=0
 let a:=wrap .i64 (wrap .i64 (p.1*p.2.2.2.1)-(wrap .i64 (p.2.1*p.2.2.1)))
 let d:=a==0
 let l:=wrap .i64 (p.2.2.2.1*4294967296)
 let e:=AS l a
 let m:=wrap .i64 (wrap .i64 (sub 0 p.2.1)*4294967296)
 let f:=AS m a
 let n:=wrap .i64 (wrap .i64 (sub 0 p.2.2.1)*4294967296)
 let g:=AS n a
 let o:=wrap .i64 (p.1*4294967296)
 let h:=AS o a
 let k:=(e,f,g,h,(0:Int),(0:Int),())
 let i:=Fc k !=0
 let q:=wrap .i64 (sub 0 e)
 let r:=wrap .i64 (sub 0 g)
 let s:=wrap .i64 (sub 0 f)
 let t:=wrap .i64 (sub 0 h)
 let b:=(e,f,g,h,H7 q p.2.2.2.2.1 r (Q1 p).1,H7 s p.2.2.2.2.1 t (Q1 p).1,())
 let u:=Fc b !=0
 let j:=cond d (0,0,0,0,0,0,()) (cond i (0,0,0,0,0,0,()) (cond u (0,0,0,0,0,0,()) b))
 (Og p/\(!c->!d->Ep l a/\Ep m a/\Ep n a/\Ep o a/\Og k/\(!i->TC q p.2.2.2.2.1 r (Q1 p).1/\TC s p.2.2.2.2.1 t (Q1 p).1/\Og b)),(cond c (0,0,0,0,0,0,()) j,cond c v (cond d 17 (cond i 17 (cond u 17 0))),()))
def oV1 a:=(PT a).1
def TD a:=(PT a).2
theorem lT8:SK 95 (AU Az (.tup (.cons Az (.cons vI .nl))) oV1 TD):=fb Tryz.func95 83 [kb pV2,kb Km,kb oV0] [] [] true
def PU (d:Int):Prop×Bool:=
 let a:=d==2
 let b:=d==9
 let c:=d==10
 (True,cond (cond a a (cond b b (cond c c (d==11)))) true false)
def pV3 a:=(PU a).1
def Oh a:=(PU a).2
theorem mI9:SK 96 (AU vI vB pV3 Oh):=fb Tryz.func96 9
def X5 (a:Int):Prop×Bool:=
 (True,cond (a≥0) (decide (a<=4)) false)
def oV2 a:=(X5 a).1
def f97 a:=(X5 a).2
theorem lT9:SK 97 (AU vI vB oV2 f97):=fb Tryz.func97 9
def nW7 (a b:Int):Prop×Bool:=
 (True,cond (cond (cond (cond (a≥0) (decide (a<=256)) false) (decide (b≥0)) false) (decide (b<=256)) false) (Ty.eqb .bool (a==0) (b==0)) false)
def X6 a b:=(nW7 a b).1
def IB a b:=(nW7 a b).2
theorem mQ7:SK 101 (BG vI vI vB X6 IB):=fb Tryz.func101 26
def mQ8 (a:Int):Prop×Int:=
 (Oe a 0 65535,f195 a 0 65535)
def tA a:=(mQ8 a).1
def Kr a:=(mQ8 a).2
theorem mQ9:SK 174 (AU vI vI tA Kr):=fb Tryz.func174 5 [kb pG7]
def mR (a:CP):Prop×CP:=
 (tA a.1/\tA a.2.1/\tA a.2.2.1/\tA a.2.2.2.1,(Kr a.1,Kr a.2.1,Kr a.2.2.1,Kr a.2.2.2.1,()))
def X7 a:=(mR a).1
def X8 a:=(mR a).2
theorem mR0:SK 139 (AU Cj Cj X7 X8):=fb Tryz.func139 16 [kb mQ9]
def mR1 (a:CP):Prop×Bool:=
 (X7 a,Ty.eqb EP a (X8 a))
def Oi a:=(mR1 a).1
def G9 a:=(mR1 a).2
theorem qJ6:SK 102 (AU Cj vB Oi G9):=fb Tryz.func102 7 [kb mR0]
abbrev uP2:Type:=((List CP)×Int×Unit)
def TE (y:uP2)(x:AD):Vm AD:=
 let d:=y.1
 let a:=x.1
 let b:Bool:=a<y.2.1
 let e:=nth d a G6
 let c:=!(G9 e)
 (b->A7 a (len d)/\Oi e/\(!c->A6 (a+1)),b&&(!c),(a+1,()),b&&c,!b)
def X9 y x:=(TE y x).1
def rA8 y x:=(TE y x).2.1
def uP3 y x:=(TE y x).2.2.1
def qX0 y x:=(TE y x).2.2.2.1
def oV3 y x:=(TE y x).2.2.2.2
def rG7 (y:uP2)(x:AD):Int:=
 2
def oV4:=li [(23,Dz),(24,vI)] [(25,vI)] rA8 uP3 X9 (λy x=>[ex 1 (some (qX0 y x)) [(2,vI)] ((rG7 y x),()),ex 2 (some (oV3 y x)) [] ()]) [[(2,vI)],[]]
def PV (f:Hg):Prop×Int:=
 let b:=!(IB f.1 f.2.1)
 let c:=cond b true (len f.2.2.1!=(f.1*f.2.1))
 let a:=(f.2.2.1,len f.2.2.1,())
 let e:=((0:Int),())
 let d:=A3 (rA8 a) (uP3 a) e
 (X6 f.1 f.2.1/\(!b->A6 (f.1*f.2.1))/\(!c->AB (rA8 a) (uP3 a) (X9 a) e),cond c 15 (cond (qX0 a d) (rG7 a d) 0))
def PW a:=(PV a).1
def Ly a:=(PV a).2
theorem mJ:SK 70 (AU Cd vI PW Ly):=fb Tryz.func70 33 [kb mQ7,kb qJ6] [(4,oV4)]
def lU (a:CP):Prop×Int:=
 (Oi a,cond (!(G9 a)) (2:Int) 0)
def TF a:=(lU a).1
def H8 a:=(lU a).2
def oV5:=AU Cj vI TF H8
theorem pG8:SK 132 (AU Cj vI TF H8):=fb Tryz.func132 6 [kb qJ6]
def mR2 (a b:Int):Prop×Bool:=
 (True,cond (a==1) (b==4) (b==3))
def pG9 a b:=(mR2 a b).1
def H9 a b:=(mR2 a b).2
theorem mR3:SK 196 (BG vI vI vB pG9 H9):=fb Tryz.func196 11
abbrev vX3:Type:=(Int×(List Int)×(List Int)×Int×Unit)
def XA (y:vX3)(x:AD):Vm AD:=
 let d:=y.2.2.1
 let a:=x.1
 let b:Bool:=a<y.2.2.2.1
 let e:=nth d a 0
 let c:=cond (e<(-1048576)) true (e>1048576)
 (b->A7 a (len d)/\(!c->A6 (a+1)),b&&(!c),(a+1,()),b&&c,!b)
def rZ9 y x:=(XA y x).1
def tY y x:=(XA y x).2.1
def uG1 y x:=(XA y x).2.2.1
def qA y x:=(XA y x).2.2.2.1
def qA0 y x:=(XA y x).2.2.2.2
def sS9 (y:vX3)(x:AD):Int:=
 2
def qA1:List (Nat×Sh):=[(0,vI),(1,Ak)]
def oG2:=li [(0,vI),(1,Ak),(36,Ak),(37,vI)] [(38,vI)] tY uG1 rZ9 (λy x=>[ex 1 (some (qA y x)) [(8,vI)] ((sS9 y x),()),ex 2 (some (qA0 y x)) qA1 (y.1,y.2.1,())]) [[(8,vI)],qA1]
def lU0 (j:Int)(k:List Int)(l m:Int):Prop×Int:=
 let c:=cond (cond (cond (j<1) true (j>4)) true (l<0)) true (l>2)
 let d:=len k
 let e:=cond (!(H9 j d)) true (m==0)
 let f:Bool:=m>16
 let a:=(j,k,k,len k,())
 let i:=((0:Int),())
 let h:=A3 (tY a) (uG1 a) i
 let g:=cond (j==2) true (j==4)
 let b:=cond e 1 (cond f 3 (cond (qA a h) (sS9 a h) (cond (cond g (decide (nth k 2 0<0)) false) 2 0)))
 (!c->pG9 j d/\(!e->!f->AB (tY a) (uG1 a) (rZ9 a) i/\(qA0 a h->g->A7 2 (len k))),cond c 8 b)
def pH a b c d:=(lU0 a b c d).1
def Ks a b c d:=(lU0 a b c d).2
theorem mR4:SK 160 (Fy vI Ak vI vI vI pH Ks):=fb Tryz.func160 61 [kb mR3] [(8,oG2)]
abbrev vX4:Type:=((List B4)×(List B4)×Int×Unit)
def PX (y:vX4)(x:AD):Vm AD:=
 let j:=y.1
 let k:=y.2.1
 let c:=x.1
 let i:Bool:=c<y.2.2.1
 let a:=nth k c CG
 let f:=cond (a.1<0) true (a.1>65535)
 let b:=cond f true (!(G9 a.2.1))
 let d:Bool:=c>0
 let g:=c-1
 let h:=cond d (decide (a.1<=(nth j g CG).1)) false
 let e:=(!b)&&(!h)
 (i->A7 c (len k)/\(!f->Oi a.2.1)/\(!b->(d->A6 (c-1))/\(d->A7 g (len j)))/\(e->A6 (c+1)),i&&e,(c+1,()),i&&(b||((!b)&&h)),!i)
def qA2 y x:=(PX y x).1
def tY0 y x:=(PX y x).2.1
def tA2 y x:=(PX y x).2.2.1
def sK3 y x:=(PX y x).2.2.2.1
def oG3 y x:=(PX y x).2.2.2.2
def tA3 (y:vX4)(x:AD):Int:=
 let a:=nth y.2.1 x.1 CG
 (cond (cond (cond (a.1<0) true (a.1>65535)) true (!(G9 a.2.1))) (2:Int) 24)
def oG4:=li [(0,Ao),(5,Ao),(6,vI)] [(7,vI)] tY0 tA2 qA2 (λy x=>[ex 1 (some (sK3 y x)) [(2,vI)] ((tA3 y x),()),ex 2 (some (oG3 y x)) [] ()]) [[(2,vI)],[]]
def mR5 (d:List B4):Prop×Int:=
 let a:=(d,d,len d,())
 let c:=((0:Int),())
 let b:=A3 (tY0 a) (tA2 a) c
 (AB (tY0 a) (tA2 a) (qA2 a) c,cond (sK3 a b) (tA3 a b) 0)
def qJ7 a:=(mR5 a).1
def Kt a:=(mR5 a).2
theorem mR6:SK 161 (AU Ao vI qJ7 Kt):=fb Tryz.func161 40 [kb qJ6] [(2,oG4)]
def lU1 (d:Int)(e:List Int)(f:Int)(g:List B4):Prop×Int:=
 let a:=len g
 let b:=Ks d e f a
 let c:=b !=0
 (pH d e f a/\(!c->qJ7 g),cond c b (Kt g))
def pH0 a b c d:=(lU1 a b c d).1
def Mk a b c d:=(lU1 a b c d).2
theorem mR7:SK 133 (Fy vI Ak vI Ao vI pH0 Mk):=fb Tryz.func133 21 [kb mR4,kb mR6]
def mR8 (c:Int):Prop×Int:=
 let a:=c==3
 let b:=c==4
 (True,cond (cond a true (cond b true (c==5))) (cond a (2:Int) (cond b 3 0)) 1)
def qJ8 a:=(mR8 a).1
def BN a:=(mR8 a).2
theorem oV6:SK 198 (AU vI vI qJ8 BN):=fb Tryz.func198 10
def XB (a:A0):Prop×Bool:=
 (True,cond (cond (cond (a.1<(-16777216)) true (a.1>16777216)) true (a.2.1<(-16777216))) true (a.2.1>16777216))
def TG a:=(XB a).1
def C0 a:=(XB a).2
theorem pH1:SK 200 (AU Aq vB TG C0):=fb Tryz.func200 21
abbrev vN2:Type:=((List AA)×Int×AA×(List AA)×Int×Int×(List A0)×Unit)
def PY (y:vN2)(x:AD):Vm AD:=
 let f:=y.2.2.1
 let a:=x.1
 let b:Bool:=a<3
 let c:=nth (Q3 y).1 a A1
 let e:=C0 c
 let d:=cond e true (cond (a≥BN f.1) (!(Ty.eqb AQ c (0,0,()))) false)
 (b->A7 a 3/\TG c/\(!e->qJ8 f.1)/\(!d->A6 (a+1)),b&&(!d),(a+1,()),b&&d,!b)
def tL2 y x:=(PY y x).1
def IC y x:=(PY y x).2.1
def L0 y x:=(PY y x).2.2.1
def XC y x:=(PY y x).2.2.2.1
def tL3 y x:=(PY y x).2.2.2.2
def uG2 (y:vN2)(x:AD):Int:=
 2
def qA3:List (Nat×Sh):=[(0,Ai),(3,vI),(4,Bi),(10,Ai),(11,vI),(12,vI)]
def oG5:=li [(0,Ai),(3,vI),(4,Bi),(10,Ai),(11,vI),(12,vI),(26,(.val (.arr 3 AQ)))] [(27,vI)] IC L0 tL2 (λy x=>[ex 1 (some (XC y x)) [(2,vI)] ((uG2 y x),()),ex 4 (some (tL3 y x)) qA3 (y.1,y.2.1,y.2.2.1,y.2.2.2.1,y.2.2.2.2.1,(Q1 y).1,())]) [[(2,vI)],qA3]
abbrev TH:Type:=((List AA)×(List AA)×Int×Unit)
def L1 (y:TH)(x:AD):Vm AD:=
 let n:=y.1
 let f:=y.2.1
 let j:=y.2.2.1
 let a:=x.1
 let d:Bool:=a<j
 let c:=nth f a A5
 let e:=cond (c.1<1) true (c.1>5)
 let i:=(n,a,c,f,j,a,c.2.1,())
 let q:=((0:Int),())
 let o:=A3 (IC i) (L0 i) q
 let b:=tL3 i o
 let g:=c.1 !=1
 let h:=a==0
 let l:=a-1
 let m:=cond g (cond h true ((nth n l A5).1==5)) false
 let k:=(!e)&&(b&&(!m))
 (d->A7 a (len f)/\(!e->AB (IC i) (L0 i) (tL2 i) q/\(b->((g&&(!h))->A6 (a-1))/\((g&&(!h))->A7 l (len n))))/\(k->A6 (a+1)),d&&k,(a+1,()),d&&(e||((!e)&&(XC i o||(b&&m)))),!d)
def sK5 y x:=(L1 y x).1
def ID y x:=(L1 y x).2.1
def Ml y x:=(L1 y x).2.2.1
def PZ y x:=(L1 y x).2.2.2.1
def oG6 y x:=(L1 y x).2.2.2.2
def XD (y:TH)(x:AD):Int:=
 let c:=y.2.1
 let b:=x.1
 let a:=nth c b A5
 let d:=(y.1,b,a,c,y.2.2.1,b,a.2.1,())
 let e:=A3 (IC d) (L0 d) (0,())
 (cond (cond (a.1<1) true (a.1>5)) 8 (cond (XC d e) (uG2 d e) 24))
def oG7:=li [(0,Ai),(10,Ai),(11,vI)] [(12,vI)] ID Ml sK5 (λy x=>[ex 1 (some (PZ y x)) [(2,vI)] ((XD y x),()),ex 2 (some (oG6 y x)) [] ()]) [[(2,vI)],[]]
def mR9 (e:List AA):Prop×Int:=
 let c:Bool:=len e>128
 let a:=(e,e,len e,())
 let d:=((0:Int),())
 let b:=A3 (ID a) (Ml a) d
 (!c->AB (ID a) (Ml a) (sK5 a) d,cond c 3 (cond (PZ a b) (XD a b) 0))
def tT a:=(mR9 a).1
def BI a:=(mR9 a).2
theorem qJ9:SK 197 (AU Ai vI tT BI):=fb Tryz.func197 63 [kb oV6,kb pH1] [(4,oG7),(9,oG5)]
def lU2 (f:C1)(g:A0):Prop×A0:=
 let a:=Kq f
 let b:=G8 g.1
 let c:=G8 g.2.1
 let d:=wrap .i64 (H7 a.1 b a.2.2.1 c+a.2.2.2.2.1)
 let e:=wrap .i64 (H7 a.2.1 b a.2.2.2.1 c+(Q1 a).1)
 (qJ5 f/\Of g.1/\Of g.2.1/\TC a.1 b a.2.2.1 c/\Of d/\TC a.2.1 b a.2.2.2.1 c/\Of e,(G8 d,G8 e,()))
def pH2 a b:=(lU2 a b).1
def Ku a b:=(lU2 a b).2
theorem mS:SK 227 (BG Az Aq Aq pH2 Ku):=fb Tryz.func227 38 [kb oV,kb oV0,kb oU9] [] [] true
def mS0 (b:C1)(c:A0):Prop×A0:=
 let s:=(wrap .i64 (4096*c.1),wrap .i64 (4096*c.2.1),())
 let a:=Ku b s
 (pH2 b s/\Ep a.1 4096/\Ep a.2.1 4096,(AS a.1 4096,AS a.2.1 4096,()))
def qK a b:=(mS0 a b).1
def f199 a b:=(mS0 a b).2
theorem oV8:SK 199 (BG Az Aq Aq qK f199):=fb Tryz.func199 22 [kb Km,kb mS] [] [] true
abbrev TI:Type:=(C1×Int×AA×(List AA)×Int×Int×Int×Unit)
abbrev Er:Type:=((List AA)×Int×Unit)
def XE (y:TI)(x:Er):Vm Er:=
 let h:=y.1
 let f:=y.2.1
 let e:=x.1
 let a:=x.2.1
 let b:Bool:=a<(Q3 y).1
 let g:=nth y.2.2.1.2.1 a A1
 let d:=f199 h g
 let c:=C0 d
 (b->A7 a 3/\qK h g/\TG d/\(!c->A7 f (len e)/\A7 a 3/\f<len e)/\(!c->A6 (a+1)),b&&(!c),(set e (toNat f) ((nth e f A5).1,set (nth e f A5).2.1 (toNat a) d,()),a+1,()),b&&c,!b)
def TJ y x:=(XE y x).1
def E1 y x:=(XE y x).2.1
def EA y x:=(XE y x).2.2.1
def XF y x:=(XE y x).2.2.2.1
def Mm y x:=(XE y x).2.2.2.2
def uP6 (y:TI)(x:Er):(List AA):=
 []
def tY1 (y:TI)(x:Er):Int:=
 2
def rG9:List (Nat×Sh):=[(4,Bk),(5,vI)]
def tY2 (y:TI)(x:Er):(List AA):=
 x.1
def rH:List (Nat×Sh):=[(3,Bp),(8,Ci),(26,Ai),(27,vI),(28,vI)]
def pH3:=li [(3,Bp),(9,vI),(10,Bi),(26,Ai),(27,vI),(28,vI),(41,vI)] [(8,Ci),(42,vI)] E1 EA TJ (λy x=>[ex 1 (some (XF y x)) rG9 ((uP6 y x),(tY1 y x),()),ex 4 (some (Mm y x)) rH (y.1,(tY2 y x),y.2.2.2.1,y.2.2.2.2.1,(Q1 y).1,())]) [rG9,rH]
abbrev XG:Type:=(C1×(List AA)×Int×Unit)
def XH (y:XG)(x:Er):Vm Er:=
 let f:=y.2.1
 let h:=y.2.2.1
 let j:=x.1
 let a:=x.2.1
 let d:Bool:=a<h
 let e:=nth f a A5
 let b:=(y.1,a,e,f,h,a,BN e.1,())
 let i:=(set j (toNat a) (e.1,(nth j a A5).2.1,()),(0:Int),())
 let g:=A3 (E1 b) (EA b) i
 let c:=Mm b g
 (d->A7 a (len f)/\A7 a (len j)/\a<len j/\qJ8 e.1/\AB (E1 b) (EA b) (TJ b) i/\(c->A6 (a+1)),d&&c,(tY2 b g,a+1,()),d&&XF b g,!d)
def Oj y x:=(XH y x).1
def GA y x:=(XH y x).2.1
def FP y x:=(XH y x).2.2.1
def Ok y x:=(XH y x).2.2.2.1
def oG8 y x:=(XH y x).2.2.2.2
def uG3 (y:XG)(x:Er):(List AA):=
 let d:=y.2.1
 let e:=x.1
 let a:=x.2.1
 let b:=nth d a A5
 let c:=(y.1,a,b,d,y.2.2.1,a,BN b.1,())
 (uP6 c (A3 (E1 c) (EA c) (set e (toNat a) (b.1,(nth e a A5).2.1,()),0,())))
def tA5 (y:XG)(x:Er):Int:=
 let d:=y.2.1
 let e:=x.1
 let a:=x.2.1
 let b:=nth d a A5
 let c:=(y.1,a,b,d,y.2.2.1,a,BN b.1,())
 (tY1 c (A3 (E1 c) (EA c) (set e (toNat a) (b.1,(nth e a A5).2.1,()),0,())))
def qA4:List (Nat×Sh):=[(4,Bk),(5,vI)]
def XI (y:XG)(x:Er):(List AA):=
 x.1
def oG9:=li [(3,Bp),(26,Ai),(27,vI)] [(8,Ci),(28,vI)] GA FP Oj (λy x=>[ex 1 (some (Ok y x)) qA4 ((uG3 y x),(tA5 y x),()),ex 2 (some (oG8 y x)) [(8,Ci)] ((XI y x),())]) [qA4,[(8,Ci)]]
def Mn (j:List AA)(k:C1):Prop×((List AA)×Int×Unit):=
 let f:=BI j
 let d:=f !=0
 let g:=Fc k
 let e:=g !=0
 let a:=len j
 let b:=(k,j,len j,())
 let i:=(replicate (toNat a) A5,(0:Int),())
 let h:=A3 (GA b) (FP b) i
 let c:=Ok b h
 (tT j/\(!d->Og k/\(!e->(0<=a/\a<=a/\a<=4294967296)/\AB (GA b) (FP b) (Oj b) i)),(cond d [] (cond e [] (cond c (uG3 b h) (XI b h))),cond d f (cond e g (cond c (tA5 b h) 0)),()))
def pH4 a b:=(Mn a b).1
def BO a b:=(Mn a b).2
theorem mS1:SK 162 (BG Ai Az (.tup (.cons Ai (.cons vI .nl))) pH4 BO):=fb Tryz.func162 63 [kb pV2,kb qJ9,kb oV6,kb oV8,kb pH1] [(9,oG9),(13,pH3)] [(15,[(4,0,25,1008)]),(43,[(1,4,0,0),(4,0,1008,0)])] false [] [25]
def qK1 (e:A0)(f:List A0):Prop×(Unit)×((List A0)×Unit):=
 let c:=len f
 let d:=c-1
 let a:=!(Ty.eqb AQ e (nth f d A1))
 let b:=([e]:List A0)
 (A6 (c-1)/\A7 d (len f)/\(a->((length f+length b:Nat):Int)<=4294967296),(),(cond a (f++b) f,()))
def TK a b:=(qK1 a b).1
def mS2 a b:=(qK1 a b).2.1
def Kv a b:=(qK1 a b).2.2
theorem oH:SK 228 (fnSpec [(0,Aq),(1,Du)] (.tup .nl) [(1,Du)] (λx=>TK x.1 x.2.1) (λx=>mS2 x.1 x.2.1) (λx=>Kv x.1 x.2.1)):=fb Tryz.func228 15 [] [] [(5,[(4,0,14,400100)])] false [1]
abbrev vN5:Type:=(AA×A0×(Unit×Unit)×Unit)
abbrev DA:Type:=((List A0)×Int×Unit)
def tT0 (y:vN5)(x:DA):Vn DA:=
 let z:=y.1
 let A:=y.2.1
 let B:=x.1
 let b:=x.2.1
 let f:Bool:=b<=8
 let a:=8-b
 let c:=a*a
 let g:=2*b
 let d:=g*a
 let e:=b*b
 let h:=c*A.1
 let i:=(nth z.2.1 0 A1).1
 let j:=d*i
 let k:=h+j
 let l:=(nth z.2.1 1 A1).1
 let m:=e*l
 let n:=k+m
 let o:=c*A.2.1
 let q:=(nth z.2.1 0 A1).2.1
 let r:=d*q
 let t:=o+r
 let u:=(nth z.2.1 1 A1).2.1
 let v:=e*u
 let w:=t+v
 let s:=(AS n 64,AS w 64,())
 (f->A6 (8-b)/\A6 (a*a)/\A6 (2*b)/\A6 (g*a)/\A6 (b*b)/\A6 (c*A.1)/\A7 0 3/\A6 (d*i)/\A6 (h+j)/\A7 1 3/\A6 (e*l)/\A6 (k+m)/\Ep n 64/\A6 (c*A.2.1)/\A7 0 3/\A6 (d*q)/\A6 (o+r)/\A7 1 3/\A6 (e*u)/\A6 (t+v)/\Ep w 64/\TK s B/\A6 (b+1),f,((Kv s B).1,b+1,()))
def tY4 y x:=(tT0 y x).1
def Qn y x:=(tT0 y x).2.1
def Qo y x:=(tT0 y x).2.2
def tA6 (y:vN5)(x:DA):(List A0):=
 x.1
def tY5:List (Nat×Sh):=[(2,Cb)]
def qK2:=li [(3,Bi),(5,Bz),(6,(.fn 228 (.cons (.ref 2 Ad) .nl)))] [(2,Cb),(7,vI)] Qn Qo tY4 (λy x=>[ex 3 none tY5 ((tA6 y x),())]) [tY5]
def tA7 (y:vN5)(x:DA):Vn DA:=
 let N:=y.1
 let Q:=y.2.1
 let R:=x.1
 let b:=x.2.1
 let O:Bool:=b<=16
 let a:=16-b
 let g:=a*a
 let c:=g*a
 let h:=3*b
 let i:=h*a
 let d:=i*a
 let j:=3*b
 let k:=j*b
 let e:=k*a
 let l:=b*b
 let f:=l*b
 let m:=c*Q.1
 let n:=(nth N.2.1 0 A1).1
 let o:=d*n
 let q:=m+o
 let r:=(nth N.2.1 1 A1).1
 let t:=e*r
 let u:=q+t
 let v:=(nth N.2.1 2 A1).1
 let w:=f*v
 let z:=u+w
 let A:=c*Q.2.1
 let B:=(nth N.2.1 0 A1).2.1
 let C:=d*B
 let E:=A+C
 let F:=(nth N.2.1 1 A1).2.1
 let H:=e*F
 let J:=E+H
 let K:=(nth N.2.1 2 A1).2.1
 let L:=f*K
 let M:=J+L
 let s:=(AS z 4096,AS M 4096,())
 (O->A6 (16-b)/\A6 (a*a)/\A6 (g*a)/\A6 (3*b)/\A6 (h*a)/\A6 (i*a)/\A6 (3*b)/\A6 (j*b)/\A6 (k*a)/\A6 (b*b)/\A6 (l*b)/\A6 (c*Q.1)/\A7 0 3/\A6 (d*n)/\A6 (m+o)/\A7 1 3/\A6 (e*r)/\A6 (q+t)/\A7 2 3/\A6 (f*v)/\A6 (u+w)/\Ep z 4096/\A6 (c*Q.2.1)/\A7 0 3/\A6 (d*B)/\A6 (A+C)/\A7 1 3/\A6 (e*F)/\A6 (E+H)/\A7 2 3/\A6 (f*K)/\A6 (J+L)/\Ep M 4096/\TK s R/\A6 (b+1),O,((Kv s R).1,b+1,()))
def tR y x:=(tA7 y x).1
def Qp y x:=(tA7 y x).2.1
def Qq y x:=(tA7 y x).2.2
def uY5 (y:vN5)(x:DA):(List A0):=
 x.1
def tR0:List (Nat×Sh):=[(2,Cb)]
def rY4:=li [(3,Bi),(5,Bz),(6,(.fn 228 (.cons (.ref 2 Ad) .nl)))] [(2,Cb),(12,vI)] Qp Qq tR (λy x=>[ex 5 none tR0 ((uY5 y x),())]) [tR0]
def pV4 (m:List A0)(n:AA):Prop×(List A0):=
 let f:=len m
 let g:=f-1
 let h:=nth m g A1
 let b:=n.1==2
 let i:=nth n.2.1 0 A1
 let c:=n.1==3
 let d:=(n,h,((),()),())
 let l:=(m,(1:Int),())
 let j:=n.1==4
 let a:=(n,h,((),()),())
 let k:=(m,(1:Int),())
 let e:=cond b (Kv i m).1 (cond c (tA6 d (A3 (Qn d) (Qo d) l)) (cond j (uY5 a (A3 (Qp a) (Qq a) k)) m))
 (A6 (f-1)/\A7 g (len m)/\(b->A7 0 3/\TK i m)/\(b=false->(c->AB (Qn d) (Qo d) (tY4 d) l)/\(c=false->j->AB (Qp a) (Qq a) (tR a) k)),e)
def tL4 a b:=(pV4 a b).1
def Hh a b:=(pV4 a b).2
theorem oH0:SK 201 (BG (.own AQ 400000 false) Dd Bx tL4 Hh):=fx (λc=>{ c with wants:=[(228,[])] }) Tryz.func201 179 [kb Km,kb oH] [(8,qK2),(15,rY4)] [(1,[(4,0,400000,400200)]),(41,[(4,0,400200,0)])]
abbrev vX7:Type:=((List (List A0))×(List A0)×Int×Unit)
def qK3 (y:TH)(x:vX7):Vn vX7:=
 let k:=y.1
 let e:=y.2.1
 let l:=x.1
 let m:=x.2.1
 let a:=x.2.2.1
 let f:Bool:=a<y.2.2.1
 let b:=nth e a A5
 let c:=b.1==1
 let n:=cond c ([nth b.2.1 0 A1]:List A0) (Hh m b)
 let g:=len k
 let d:=a==(g-1)
 let h:=a+1
 let i:=cond d true ((nth k h A5).1==1)
 let j:=([n]:List (List A0))
 (f->A7 a (len e)/\(c->A7 0 3)/\(c=false->tL4 m b)/\A6 (g-1)/\(!d->A6 (a+1))/\(!d->A7 h (len k))/\(i->((length l+length j:Nat):Int)<=4294967296)/\A6 (a+1),f,(cond i (l++j) l,n,a+1,()))
def qA5 y x:=(qK3 y x).1
def Mo y x:=(qK3 y x).2.1
def wL y x:=(qK3 y x).2.2
def uG4 (y:TH)(x:vX7):(List (List A0)):=
 x.1
def qA6:List (Nat×Sh):=[(5,(.own Ad 1005 false))]
def oH1:=li [(0,Ai),(14,Ai),(15,vI)] [(5,(.own Ad 1005 false)),(6,Cc),(16,vI)] Mo wL qA5 (λy x=>[ex 2 none qA6 ((uG4 y x),())]) [qA6]
def mS3 (e:List AA):Prop×((List (List A0))×Int×Unit):=
 let c:=BI e
 let a:=c !=0
 let b:=(e,e,len e,())
 let d:=(([]:List (List A0)),([]:List A0),(0:Int),())
 (tT e/\(!a->AB (Mo b) (wL b) (qA5 b) d),(cond a [] (uG4 b (A3 (Mo b) (wL b) d)),cond a c 0,()))
def XJ a:=(mS3 a).1
def BJ a:=(mS3 a).2
theorem oV9:SK 163 (AU Ai (.tup (.cons Av (.cons vI .nl))) XJ BJ):=fx (λc=>{ c with wants:=[(201,[0])] }) Tryz.func163 51 [kb qJ9,kb oH0] [(7,oH1)] [(21,[(4,0,27,1006)]),(23,[(4,0,30,1006)]),(27,[(4,0,48,1005)]),(31,[(4,0,1005,0)])]
abbrev Gq:Type:=((List Bool)×Int×Unit)
def rA9 (y:TH)(x:Gq):Vn Gq:=
 let i:=y.1
 let c:=y.2.1
 let j:=x.1
 let a:=x.2.1
 let d:Bool:=a<y.2.2.1
 let e:=len i
 let b:=a==(e-1)
 let f:=a+1
 let g:=cond b true ((nth i f A5).1==1)
 let h:=([(nth c a A5).1 !=5]:List Bool)
 (d->A7 a (len c)/\A6 (e-1)/\(!b->A6 (a+1))/\(!b->A7 f (len i))/\(g->((length j+length h:Nat):Int)<=4294967296)/\A6 (a+1),d,(cond g (j++h) j,a+1,()))
def sK6 y x:=(rA9 y x).1
def TL y x:=(rA9 y x).2.1
def wT y x:=(rA9 y x).2.2
def sT0 (y:TH)(x:Gq):(List Bool):=
 x.1
def oH2:=li [(0,Ai),(13,Ai),(14,vI)] [(5,Dh),(15,vI)] TL wT sK6 (λy x=>[ex 2 none [(5,Dh)] ((sT0 y x),())]) [[(5,Dh)]]
def mS4 (e:List AA):Prop×((List Bool)×Int×Unit):=
 let c:=BI e
 let a:=c !=0
 let b:=(e,e,len e,())
 let d:=(([]:List Bool),(0:Int),())
 (tT e/\(!a->AB (TL b) (wT b) (sK6 b) d),(cond a [] (sT0 b (A3 (TL b) (wT b) d)),cond a c 0,()))
def pH5 a:=(mS4 a).1
def EF a:=(mS4 a).2
theorem mS5:SK 164 (AU Ai (.tup (.cons (.own .bool 0 false) (.cons vI .nl))) pH5 EF):=fb Tryz.func164 42 [kb qJ9] [(6,oH2)] [(19,[(4,0,39,1005)]),(23,[(4,0,1005,0)])]
abbrev vX8:Type:=((List (List A0))×(List (List A0))×Int×Unit)
abbrev CT:Type:=(Int×Int×Unit)
def XK (y:vX8)(x:CT):Vm CT:=
 let d:=y.2.1
 let g:=x.1
 let a:=x.2.1
 let b:Bool:=a<y.2.2.1
 let e:=len (nth d a [])
 let f:=g+e
 let c:Bool:=f>4096
 (b->A7 a (len d)/\A6 (g+e)/\(!c->A6 (a+1)),b&&(!c),(f,a+1,()),b&&c,!b)
def qA7 y x:=(XK y x).1
def vD y x:=(XK y x).2.1
def Mp y x:=(XK y x).2.2.1
def XL y x:=(XK y x).2.2.2.1
def tL5 y x:=(XK y x).2.2.2.2
def sT1 (y:vX8)(x:CT):Int:=
 3
def oH3:=li [(0,Aj),(18,Aj),(19,vI)] [(5,vI),(20,vI)] vD Mp qA7 (λy x=>[ex 1 (some (XL y x)) [(4,vI)] ((sT1 y x),()),ex 2 (some (tL5 y x)) [(0,Aj)] (y.1,())]) [[(4,vI)],[(0,Aj)]]
abbrev vI2:Type:=((List (List A0))×Int×Int×(List A0)×Int×Unit)
def tB (y:vI2)(x:AD):Vm AD:=
 let e:=y.2.2.2.1
 let a:=x.1
 let b:Bool:=a<y.2.2.2.2.1
 let c:=nth e a A1
 let d:=cond (cond (cond (c.1<(-16777216)) true (c.1>16777216)) true (c.2.1<(-16777216))) true (c.2.1>16777216)
 (b->A7 a (len e)/\(!d->A6 (a+1)),b&&(!d),(a+1,()),b&&d,!b)
def tT1 y x:=(tB y x).1
def TM y x:=(tB y x).2.1
def TN y x:=(tB y x).2.2.1
def rH1 y x:=(tB y x).2.2.2.1
def rH2 y x:=(tB y x).2.2.2.2
def tY7 (y:vI2)(x:AD):Int:=
 2
def rH3:List (Nat×Sh):=[(31,Aj),(32,vI),(33,vI)]
def pH6:=li [(31,Aj),(32,vI),(33,vI),(37,Bd),(38,vI)] [(39,vI)] TM TN tT1 (λy x=>[ex 1 (some (rH1 y x)) [(4,vI)] ((tY7 y x),()),ex 6 (some (rH2 y x)) rH3 (y.1,y.2.1,y.2.2.1,())]) [[(4,vI)],rH3]
abbrev CM:Type:=((List (List A0))×Int×Unit)
def XM (y:CM)(x:AD):Vm AD:=
 let e:=y.1
 let f:=y.2.1
 let b:=x.1
 let d:Bool:=b<f
 let h:=nth e b []
 let a:=(e,f,b,h,len h,())
 let i:=((0:Int),())
 let g:=A3 (TM a) (TN a) i
 let c:=rH2 a g
 (d->A7 b (len e)/\AB (TM a) (TN a) (tT1 a) i/\(c->A6 (b+1)),d&&c,(b+1,()),d&&rH1 a g,!d)
def uP7 y x:=(XM y x).1
def Ol y x:=(XM y x).2.1
def Om y x:=(XM y x).2.2.1
def uP8 y x:=(XM y x).2.2.2.1
def pH7 y x:=(XM y x).2.2.2.2
def tY8 (y:CM)(x:AD):Int:=
 let b:=y.1
 let c:=x.1
 let d:=nth b c []
 let a:=(b,y.2.1,c,d,len d,())
 (tY7 a (A3 (TM a) (TN a) (0,())))
def pH8:=li [(31,Aj),(32,vI)] [(33,vI)] Ol Om uP7 (λy x=>[ex 1 (some (uP8 y x)) [(4,vI)] ((tY8 y x),()),ex 4 (some (pH7 y x)) [] ()]) [[(4,vI)],[]]
def mS6 (h:(List (List A0)))(i:Int):Prop×Int:=
 let d:=cond (i !=0) (i !=1) false
 let b:=(h,h,len h,())
 let g:=((0:Int),(0:Int),())
 let f:=A3 (vD b) (Mp b) g
 let a:=(h,len h,())
 let e:=((0:Int),())
 let c:=A3 (Ol a) (Om a) e
 (!d->AB (vD b) (Mp b) (qA7 b) g/\(tL5 b f->AB (Ol a) (Om a) (uP7 a) e),cond d 8 (cond (XL b f) (sT1 b f) (cond (uP8 a c) (tY8 a c) 0)))
def Qr a b:=(mS6 a b).1
def DZ a b:=(mS6 a b).2
def oW:=BG Aj vI vI Qr DZ
theorem pH9:SK 166 (BG Aj vI vI Qr DZ):=fb Tryz.func166 63 [] [(5,oH3),(12,pH8),(15,pH6)]
def lU3 (b c d:Int):Prop×Int:=
 let a:=cond (cond (b<1) true (b>4096)) (2:Int) (cond (cond (c<0) true (c>2)) 8 (cond (cond (d<0) true (d>2)) 8 0))
 (True,a)
def pI a b c:=(lU3 a b c).1
def FQ a b c:=(lU3 a b c).2
theorem mS7:SK 202 (DT vI vI vI vI pI FQ):=fb Tryz.func202 25
abbrev tB1:Type:=(Bool×(List A0)×Int×Unit)
def rB (y:tB1)(x:DA):Vn DA:=
 let j:=y.2.1
 let b:=x.1
 let a:=x.2.1
 let d:Bool:=a<y.2.2.1
 let e:=nth j a A1
 let c:=len b==0
 let f:=len b
 let g:=f-1
 let h:=cond c true (!(Ty.eqb AQ e (nth b g A1)))
 let i:=([e]:List A0)
 (d->A7 a (len j)/\(!c->A6 (f-1))/\(!c->A7 g (len b))/\(h->((length b+length i:Nat):Int)<=4294967296)/\A6 (a+1),d,(cond h (b++i) b,a+1,()))
def tL6 y x:=(rB y x).1
def Oo y x:=(rB y x).2.1
def Mq y x:=(rB y x).2.2
def sT2 (y:tB1)(x:DA):(List A0):=
 x.1
def qA8:List (Nat×Sh):=[(1,vB),(5,Bq)]
def oH4:=li [(1,vB),(8,Bd),(9,vI)] [(5,Bq),(10,vI)] Oo Mq tL6 (λy x=>[ex 2 none qA8 (y.1,(sT2 y x),())]) [qA8]
abbrev tB2:Type:=(Bool×Unit)
abbrev Oq:Type:=((List A0)×Unit)
def qK4 (y:tB2)(x:Oq):Vn Oq:=
 let a:=x.1
 let b:=cond (!y.1) (decide (len a>1)) false
 let d:=len a
 let e:=d-1
 let f:=cond b (Ty.eqb AQ (nth a e A1) (nth a 0 A1)) false
 let g:=len a
 let c:=g-1
 ((b->A6 (d-1))/\(b->A7 e (len a))/\(b->A7 0 (len a))/\(f->A6 (g-1)/\0<=c/\c<=len a),f,(List.take (toNat c) a,()))
def tL7 y x:=(qK4 y x).1
def vY y x:=(qK4 y x).2.1
def wP y x:=(qK4 y x).2.2
def sT3 (y:tB2)(x:Oq):(List A0):=
 x.1
def oH5:=li [(1,vB)] [(5,Bd)] vY wP tL7 (λy x=>[ex 4 none [(5,Bd)] ((sT3 y x),())]) [[(5,Bd)]]
def lU4 (e:List A0)(f:Bool):Prop×(List A0):=
 let a:=(f,e,len e,())
 let c:=(([]:List A0),(0:Int),())
 let b:=(f,())
 let d:=(sT2 a (A3 (Oo a) (Mq a) c),())
 (AB (Oo a) (Mq a) (tL6 a) c/\AB (vY b) (wP b) (tL7 b) d,sT3 b (A3 (vY b) (wP b) d))
def pI0 a b:=(lU4 a b).1
def f229 a b:=(lU4 a b).2
theorem mS8:SK 229 (BG Bd vB Bd pI0 f229):=fb Tryz.func229 57 [] [(3,oH4),(8,oH5)] [(13,[(4,0,30,1005)])]
def lU5 (a b:A0):Prop×A0:=
 (True,(wrap .i64 (a.1-b.1),wrap .i64 (a.2.1-b.2.1),()))
def HA a b:=(lU5 a b).1
def AR a b:=(lU5 a b).2
theorem qK5:SK 234 (BG Aq Aq Aq HA AR):=fb Tryz.func234 16 [] [] [] true
def mS9 (g h:Int):Prop×(Int×Int×Unit):=
 let a:=FM .u64 g 4294967295
 let b:=Fi g 32 64
 let c:=FM .u64 h 4294967295
 let d:=Fi h 32 64
 let e:=wrap .u64 (wrap .u64 (b*c)+Fi (wrap .u64 (a*c)) 32 64)
 let f:=wrap .u64 (wrap .u64 (wrap .u64 (b*d)+Fi e 32 64)+Fi (wrap .u64 (FM .u64 e 4294967295+wrap .u64 (a*d))) 32 64)
 (True,(f,wrap .u64 (g*h),()))
def TO a b:=(mS9 a b).1
def B9 a b:=(mS9 a b).2
def oW0:=BG Ap Ap (.tup (.cons Ap (.cons Ap .nl))) TO B9
theorem mT:SK 283 (BG Ap Ap (.tup (.cons Ap (.cons Ap .nl))) TO B9):=fb Tryz.func283 51 [] [] [] true
def lU6 (a:Int):Prop×Int:=
 (True,cond (a<0) (wrap .u64 (sub 0 (wrap .u64 a))) (wrap .u64 a))
def Qs a:=(lU6 a).1
def AE a:=(lU6 a).2
def oW1:=AU vI Ap Qs AE
theorem mT0:SK 284 (AU vI Ap Qs AE):=fb Tryz.func284 10 [] [] [] true
def qK6 (y x:CT):Vn CT:=
 let f:=y.1
 let d:=x.1
 let b:=x.2.1
 let e:=b !=0
 let a:=ior .u64 d b
 let c:=B9 a a
 (e->TO a a,e,(cond (cond (c.1<f) true (cond (c.1==f) (decide (c.2.1<=y.2.1)) false)) a d,Fi b 1 64,()))
def tL8 y x:=(qK6 y x).1
def Qt y x:=(qK6 y x).2.1
def Mr y x:=(qK6 y x).2.2
def sT4 (y x:CT):Int:=
 x.1
def sT5:St->Option Out:=I6 [(5,Ap),(6,Ap)] [(10,Ap),(11,Ap)] Qt Mr tL8 λy x=>[ex 2 none [(10,Ap)] ((sT4 y x),())]
def mT1 (k l:Int):Prop×Int:=
 let f:=AE k
 let g:=AE k
 let b:=B9 f g
 let h:=AE l
 let i:=AE l
 let c:=B9 h i
 let d:=(((toNat b.2.1+toNat c.2.1+toNat 0) / 18446744073709551616:Nat):Int)
 let e:=((((toNat b.1+toNat c.1+toNat d) % 18446744073709551616:Nat):Int),(((toNat b.2.1+toNat c.2.1+toNat 0) % 18446744073709551616:Nat):Int),())
 let j:=((0:Int),(9223372036854775808:Int),())
 let a:=sT4 e (A3 (Qt e) (Mr e) j)
 (Qs k/\Qs k/\TO f g/\Qs l/\Qs l/\TO h i/\(0<=(0:Int)/\(0:Int)<=1)/\(0<=d/\d<=1)/\AB (Qt e) (Mr e) (tL8 e) j,cond (a>9223372036854775807) 9223372036854775807 (wrap .i64 a))
def qK7 a b:=(mT1 a b).1
def f271 a b:=(mT1 a b).2
def oW2:=BG vI vI vI qK7 f271
def pV5:Ctx:={ Cx tys [(283,oW0),(284,oW1)] [(7,sT5)] [] true 73 [] [] with exts:=[(285,y8)] }
theorem pV6:CtxOk Tryz.prog pV5:=xZ8 PE rfl ⟨mT,mT0,trivial⟩ ⟨mN9,trivial⟩ (by kernel_rfl)
noncomputable def oW3:Code:=Tryz.f271.body.getD .skip
noncomputable def oW4:Code:=Tj oW3 0
theorem oH6:yY Tryz.prog pV5 oW4:=lq pV6 (sp:=sT5) rfl [[(10,Ap)]]
theorem oW5:SK 271 oW2:=fl pV6 Tryz.func271 (bs:=[oW4]) ⟨oH6,trivial⟩
def lU7 (i j:A0)(k:Int):Prop×CZ:=
 let b:=AR j i
 let c:=wrap .i64 (16*b.1)
 let d:=wrap .i64 (16*b.2.1)
 let a:=f271 c d
 let e:=wrap .i64 (wrap .i64 ((-8)*k)*b.2.1)
 let f:=wrap .i64 (wrap .i64 (8*k)*b.1)
 let g:=wrap .i64 (wrap .i64 (8*k)*b.1)
 let h:=wrap .i64 (wrap .i64 (8*k)*b.2.1)
 (HA j i/\qK7 c d/\Ep e a/\Ep f a/\Ep g a/\Ep h a,(i,j,b,(AS e a,AS f a,()),(AS g a,AS h a,()),()))
def qK8 a b c:=(lU7 a b c).1
def f267 a b c:=(lU7 a b c).2
theorem mT2:SK 267 (DT Aq Aq vI Dp qK8 f267):=fb Tryz.func267 53 [kb Km,kb qK5,kb oW5] [] [] true
abbrev tB3:Type:=((List A0)×Bool×Int×Unit)
abbrev vY2:Type:=((List CZ)×Int×Unit)
def rB0 (y:tB3)(x:vY2):Vn vY2:=
 let b:=y.1
 let h:=y.2.2.1
 let i:=x.1
 let a:=x.2.1
 let c:Bool:=a<len b
 let d:=a-1
 let e:=nth b d A1
 let f:=nth b a A1
 let g:=([f267 e f h]:List CZ)
 (c->A6 (a-1)/\A7 d (len b)/\A7 a (len b)/\qK8 e f h/\((length i+length g:Nat):Int)<=4294967296/\A6 (a+1),c,(i++g,a+1,()))
def tL9 y x:=(rB0 y x).1
def Ii y x:=(rB0 y x).2.1
def HD y x:=(rB0 y x).2.2
def uG5 (y:tB3)(x:vY2):(List CZ):=
 x.1
def qA9:List (Nat×Sh):=[(0,Bd),(1,vB),(2,vI),(7,Bu)]
def oH7:=li [(0,Bd),(1,vB),(2,vI)] [(7,Bu),(8,vI)] Ii HD tL9 (λy x=>[ex 2 none qA9 (y.1,y.2.1,y.2.2.1,(uG5 y x),())]) [qA9]
def mT3 (j:List A0)(k:Bool)(l:Int):Prop×(List CZ):=
 let b:=(j,k,l,())
 let i:=(([]:List CZ),(1:Int),())
 let a:=uG5 b (A3 (Ii b) (HD b) i)
 let c:=cond (!k) (decide (len j>1)) false
 let d:=len j
 let e:=d-1
 let f:=nth j e A1
 let g:=nth j 0 A1
 let h:=([f267 f g l]:List CZ)
 (AB (Ii b) (HD b) (tL9 b) i/\(c->A6 (d-1)/\A7 e (len j)/\A7 0 (len j)/\qK8 f g l/\((length a+length h:Nat):Int)<=4294967296),cond c (a++h) a)
def pI1 a b c:=(mT3 a b c).1
def BF a b c:=(mT3 a b c).2
theorem mT4:SK 230 (DT Bd vB vI (.own Kh 0 false) pI1 BF):=fb Tryz.func230 51 [kb mT2] [(3,oH7)] [(11,[(4,0,28,1007)]),(15,[(4,0,49,1007)]),(17,[(4,0,1007,0)])]
abbrev tB4:Type:=((List A0)×(List A0)×Int×Unit)
def rB1 (y:tB4)(x:CT):Vn CT:=
 let g:=y.1
 let h:=y.2.1
 let a:=x.2.1
 let b:Bool:=a<y.2.2.1
 let c:=nth h a A1
 let d:=len g
 let e:=tmod (wrap .i64 (a+1)) d
 let f:=nth g e A1
 (b->A7 a (len h)/\d≠0/\A7 e (len g),b,(wrap .i64 (x.1+wrap .i64 (wrap .i64 (c.1*f.2.1)-(wrap .i64 (f.1*c.2.1)))),wrap .i64 (a+1),()))
def qB y x:=(rB1 y x).1
def rH4 y x:=(rB1 y x).2.1
def uG6 y x:=(rB1 y x).2.2
def sT6 (y:tB4)(x:CT):Int:=
 x.1
def oH8:=li [(0,Bd),(7,Bd),(8,vI)] [(3,vI),(9,vI)] rH4 uG6 qB (λy x=>[ex 2 none [(3,vI)] ((sT6 y x),())]) [[(3,vI)]]
def lU8 (c:List A0):Prop×Int:=
 let a:=(c,c,len c,())
 let b:=((0:Int),(0:Int),())
 (AB (rH4 a) (uG6 a) (qB a) b,sT6 a (A3 (rH4 a) (uG6 a) b))
def pI2 a:=(lU8 a).1
def DO a:=(lU8 a).2
theorem mT5:SK 269 (AU Bd vI pI2 DO):=fb Tryz.func269 37 [] [(3,oH8)] [] true
def f270 (_p0:List A0):Unit:=()
def pV7 (a:List A0):(List A0)×Unit:=(List.reverse a,())
def pI3 (_p0:List A0):Prop:=True
instance (a:List A0):Decidable (pI3 a):=isTrue trivial
def mT6:List (Nat×Sh):=[(0,Bj)]
def mT7:Sh:=(.tup .nl)
def mT8:List (Nat×Sh):=[(0,Bj)]
def oW6:Am.Spec:=fnSpec mT6 mT7 mT8 (λx=>pI3 x.1) (λx=>f270 x.1) (λx=>pV7 x.1)
theorem mT9:SpecOk Tryz.prog 270 oW6:=nV (by decide) rfl ⟨_,Tryz.func270,by kernel_rfl,by decide⟩ lS5
def lU9 (a b:A0):Prop×A0:=
 (True,(wrap .i64 (a.1+b.1),wrap .i64 (a.2.1+b.2.1),()))
def FR a b:=(lU9 a b).1
def AL a b:=(lU9 a b).2
theorem XN:SK 233 (BG Aq Aq Aq FR AL):=fb Tryz.func233 16 [] [] [] true
def lV (e:Int):Prop×Int:=
 let a:=wrap .i64 (tdiv e 256)
 let d:Bool:=a≥64
 let b:=wrap .i64 (a+1)
 let c:=wrap .i64 (wrap .i64 (nth G5 b 0-(nth G5 a 0))*wrap .i64 (e-(wrap .i64 (256*a))))
 ((d->A7 64 65)/\(!d->A7 a 65/\A7 b 65/\A7 a 65/\Ep c 256),cond d (nth G5 64 0) (wrap .i64 (nth G5 a 0+AS c 256)))
def TP a:=(lV a).1
def Kw a:=(lV a).2
theorem mU:SK 302 (AU vI vI TP Kw):=fb Tryz.func302 28 [kb Km] [] [] true
def mU0 (i:Int):Prop×Int:=
 let h:=wrap .i64 (tdiv i 16384)
 let a:=wrap .i64 (i-(wrap .i64 (16384*h)))
 let b:=h==0
 let c:=h==1
 let f:=wrap .i64 (16384-a)
 let d:=h==2
 let g:=wrap .i64 (16384-a)
 let e:=cond (cond b true (cond c true d)) (cond b (Kw a) (cond c (Kw f) (wrap .i64 (sub 0 (Kw a))))) (wrap .i64 (sub 0 (Kw g)))
 ((b->TP a)/\(b=false->(c->TP f)/\(c=false->d->TP a))/\((((!d)&&(!c))&&(!b))->TP g),e)
def TQ a:=(mU0 a).1
def Qu a:=(mU0 a).2
theorem mU1:SK 296 (AU vI vI TQ Qu):=fb Tryz.func296 30 [kb mU] [] [] true
def lV0 (c:Int):Prop×(Int×Int×Unit):=
 let b:=FM .i64 c 65535
 let a:=tmod (wrap .i64 (b+16384)) 65536
 (TQ b/\TQ a,(Qu b,Qu a,()))
def pI4 a:=(lV0 a).1
def IE a:=(lV0 a).2
theorem mU2:SK 282 (AU vI (.tup (.cons vI (.cons vI .nl))) pI4 IE):=fb Tryz.func282 13 [kb mU1] [] [] true
abbrev tB5:Type:=(Int×A0×Int×Unit)
def rB2 (y:tB5)(x:DA):Vn DA:=
 let h:=y.1
 let i:=y.2.1
 let g:=x.1
 let a:=x.2.1
 let b:Bool:=a<y.2.2.1
 let c:=wrap .i64 (4096*a)
 let d:=IE c
 let e:=wrap .i64 (h*d.2.1)
 let f:=wrap .i64 (h*d.1)
 let s:=(AS e 131072,AS f 131072,())
 (b->pI4 c/\Ep e 131072/\Ep f 131072/\FR i s/\A7 a (len g)/\a<len g,b,(set g (toNat a) (AL i s),wrap .i64 (a+1),()))
def TR y x:=(rB2 y x).1
def L2 y x:=(rB2 y x).2.1
def J5 y x:=(rB2 y x).2.2
def uG7 (y:tB5)(x:DA):(List A0):=
 x.1
def oH9:=li [(1,vI),(2,Bz),(11,vI)] [(5,Dn),(12,vI)] L2 J5 TR (λy x=>[ex 2 none [(5,Dn)] ((uG7 y x),())]) [[(5,Dn)]]
def nW8 (d:A0)(e:Int):Prop×(List A0):=
 let b:=replicate (toNat (16:Int)) A1
 let a:=(e,d,len b,())
 let c:=(b,(0:Int),())
 ((0<=(16:Int)/\(16:Int)<=(16:Int)/\(16:Int)<=4294967296)/\AB (L2 a) (J5 a) (TR a) c,uG7 a (A3 (L2 a) (J5 a) c))
def sL a b:=(nW8 a b).1
def BT a b:=(nW8 a b).2
theorem pI5:SK 268 (BG Aq vI Dv sL BT):=fb Tryz.func268 37 [kb Km,kb XN,kb mU2] [(3,oH9)] [(3,[(4,0,9,1005)]),(17,[(4,0,1005,0)])] true [] [9]
def rB3 (f:(Int×Int×Int×(List (List A0))×Int×Unit))(g:List A0):Prop×(Unit)×((Int×Int×Int×(List (List A0))×Int×Unit)×Unit):=
 let e:=DO g
 let a:=e==0
 let b:Bool:=e<0
 let d:=cond b (pV7 g).1 g
 let c:=([d]:List (List A0))
 let s:=(cond a f.1 f.1,cond a f.2.1 f.2.1,cond a f.2.2.1 f.2.2.1,cond a f.2.2.2.1 (f.2.2.2.1++c),cond a f.2.2.2.2.1 (wrap .i64 (f.2.2.2.2.1+len d)),())
 (pI2 g/\(!a->(b->pI3 g/\0<length g/\length g=length g/\length g=length g/\length g=length g)/\((length f.2.2.2.1+length c:Nat):Int)<=4294967296),(),(s,()))
def Gr a b:=(rB3 a b).1
def mU3 a b:=(rB3 a b).2.1
def CA a b:=(rB3 a b).2.2
theorem tM:SK 232 (fnSpec [(0,Ac),(1,(.own AQ 400100 true))] (.tup .nl) [(0,Ac)] (λx=>Gr x.1 x.2.1) (λx=>mU3 x.1 x.2.1) (λx=>CA x.1 x.2.1)):=fx (λc=>{ c with wants:=[(270,[0])] }) Tryz.func232 32 [kb mT5,kb mT9] [] [(8,[(1,1,0,0)]),(9,[(4,0,20,400000)])] true [0]
def rB4 (o:(Int×Int×Int×(List (List A0))×Int×Unit))(p:A0):Prop×(Unit)×((Int×Int×Int×(List (List A0))×Int×Unit)×Unit):=
 let d:=o.2.2.1==1
 let l:=BT p o.1
 let f:=o
 let a:=CA f l
 let e:=o.2.2.1==2
 let b:=AS o.1 2
 let g:=(wrap .i64 (sub 0 b),wrap .i64 (sub 0 b),())
 let h:=(b,wrap .i64 (sub 0 b),())
 let i:=(b,b,())
 let j:=(wrap .i64 (sub 0 b),b,())
 let m:=([AL p g,AL p h,AL p i,AL p j]:List A0)
 let k:=o
 let c:=CA k m
 let n:=(cond d a.1.1 (cond e c.1.1 o.1),cond d a.1.2.1 (cond e c.1.2.1 o.2.1),cond d a.1.2.2.1 (cond e c.1.2.2.1 o.2.2.1),cond d a.1.2.2.2.1 (cond e c.1.2.2.2.1 o.2.2.2.1),cond d a.1.2.2.2.2.1 (cond e c.1.2.2.2.2.1 o.2.2.2.2.1),())
 ((d->sL p o.1/\Gr f l)/\(d=false->e->Ep o.1 2/\FR p g/\FR p h/\FR p i/\FR p j/\Gr k m),(),(n,()))
def sL0 a b:=(rB4 a b).1
def mU4 a b:=(rB4 a b).2.1
def Qv a b:=(rB4 a b).2.2
theorem oI:SK 231 (fnSpec [(0,Ac),(1,Aq)] (.tup .nl) [(0,Ac)] (λx=>sL0 x.1 x.2.1) (λx=>mU4 x.1 x.2.1) (λx=>Qv x.1 x.2.1)):=fx (λc=>{ c with wants:=[(232,[1])] }) Tryz.func231 53 [kb Km,kb tM,kb XN,kb pI5] [] [] true [0] [51]
def rB5 (p:(Int×Int×Int×(List (List A0))×Int×Unit))(D G:CZ):Prop×(Unit)×((Int×Int×Int×(List (List A0))×Int×Unit)×Unit):=
 let e:=p.2.1==1
 let C:=BT G.1 p.1
 let v:=p
 let f:=CA v C
 let E:=([G.1,AL G.1 D.2.2.2.1,AL G.1 G.2.2.2.1]:List A0)
 let z:=p
 let g:=CA z E
 let F:=([G.1,AR G.1 D.2.2.2.1,AR G.1 G.2.2.2.1]:List A0)
 let A:=(g.1.1,g.1.2.1,g.1.2.2.1,g.1.2.2.2.1,g.1.2.2.2.2.1,())
 let a:=CA A F
 let H:=wrap .i64 (wrap .i64 (D.2.2.1.1*G.2.2.1.2.1)-(wrap .i64 (D.2.2.1.2.1*G.2.2.1.1)))
 let u:=wrap .i64 (a.1.1*a.1.1)
 let l:=wrap .i64 (u+wrap .i64 (4*wrap .i64 (wrap .i64 (D.2.2.2.1.1*G.2.2.2.1.1)+wrap .i64 (D.2.2.2.1.2.1*G.2.2.2.1.2.1))))
 let i:=cond (cond (a.1.2.1==2) true (H==0)) true (l<=0)
 let o:=wrap .i64 (u*wrap .i64 (D.2.2.2.1.1+G.2.2.2.1.1))
 let j:=AS o l
 let q:=wrap .i64 (u*wrap .i64 (D.2.2.2.1.2.1+G.2.2.2.1.2.1))
 let k:=AS q l
 let m:=(j,k,())
 let r:Bool:=f271 j k>wrap .i64 (4*a.1.1)
 let b:Bool:=H>0
 let s:=([G.1,AR G.1 D.2.2.2.1,AR G.1 m,AR G.1 G.2.2.2.1]:List A0)
 let B:=(a.1.1,a.1.2.1,a.1.2.2.1,a.1.2.2.2.1,a.1.2.2.2.2.1,())
 let c:=CA B s
 let t:=([G.1,AL G.1 D.2.2.2.1,AL G.1 m,AL G.1 G.2.2.2.1]:List A0)
 let n:=(a.1.1,a.1.2.1,a.1.2.2.1,a.1.2.2.2.1,a.1.2.2.2.2.1,())
 let d:=CA n t
 let h:=e||((!e)&&(i||((!i)&&r)))
 let w:=(cond h (cond e f.1.1 a.1.1) (cond b c.1.1 d.1.1),cond h (cond e f.1.2.1 a.1.2.1) (cond b c.1.2.1 d.1.2.1),cond h (cond e f.1.2.2.1 a.1.2.2.1) (cond b c.1.2.2.1 d.1.2.2.1),cond h (cond e f.1.2.2.2.1 a.1.2.2.2.1) (cond b c.1.2.2.2.1 d.1.2.2.2.1),cond h (cond e f.1.2.2.2.2.1 a.1.2.2.2.2.1) (cond b c.1.2.2.2.2.1 d.1.2.2.2.2.1),())
 ((e->sL G.1 p.1/\Gr v C)/\(!e->FR G.1 D.2.2.2.1/\FR G.1 G.2.2.2.1/\Gr z E/\HA G.1 D.2.2.2.1/\HA G.1 G.2.2.2.1/\Gr A F/\(!i->Ep o l/\Ep q l/\qK7 j k/\(!r->(b->HA G.1 D.2.2.2.1/\HA G.1 m/\HA G.1 G.2.2.2.1/\Gr B s)/\(b=false->FR G.1 D.2.2.2.1/\FR G.1 m/\FR G.1 G.2.2.2.1/\Gr n t)))),(),(w,()))
def TS a b c:=(rB5 a b c).1
def mU5 a b c:=(rB5 a b c).2.1
def wN a b c:=(rB5 a b c).2.2
theorem oI0:SK 235 (fnSpec [(0,Ac),(1,Dp),(2,Dp)] (.tup .nl) [(0,Ac)] (λx=>TS x.1 x.2.1 x.2.2.1) (λx=>mU5 x.1 x.2.1 x.2.2.1) (λx=>wN x.1 x.2.1 x.2.2.1)):=fx (λc=>{ c with wants:=[(232,[1])] }) Tryz.func235 161 [kb Km,kb tM,kb XN,kb qK5,kb pI5,kb oW5] [] [] true [0] [40,50,146,159]
def XO (p:(Int×Int×Int×(List (List A0))×Int×Unit))(s t:CZ):Prop×(Unit)×((Int×Int×Int×(List (List A0))×Int×Unit)×Unit):=
 let e:=p.2.2.1==1
 let m:=BT s.1 p.1
 let i:=p
 let a:=CA i m
 let n:=BT t.2.1 a.1.1
 let j:=(a.1.1,a.1.2.1,a.1.2.2.1,a.1.2.2.2.1,a.1.2.2.2.2.1,())
 let b:=CA j n
 let f:=p.2.2.1==2
 let g:=AR s.1 s.2.2.2.2.1
 let o:=([AL g s.2.2.2.1,AL s.1 s.2.2.2.1,AR s.1 s.2.2.2.1,AR g s.2.2.2.1]:List A0)
 let k:=p
 let c:=CA k o
 let h:=AL t.2.1 t.2.2.2.2.1
 let q:=([AL t.2.1 t.2.2.2.1,AL h t.2.2.2.1,AR h t.2.2.2.1,AR t.2.1 t.2.2.2.1]:List A0)
 let l:=(c.1.1,c.1.2.1,c.1.2.2.1,c.1.2.2.2.1,c.1.2.2.2.2.1,())
 let d:=CA l q
 let r:=(cond e b.1.1 (cond f d.1.1 p.1),cond e b.1.2.1 (cond f d.1.2.1 p.2.1),cond e b.1.2.2.1 (cond f d.1.2.2.1 p.2.2.1),cond e b.1.2.2.2.1 (cond f d.1.2.2.2.1 p.2.2.2.1),cond e b.1.2.2.2.2.1 (cond f d.1.2.2.2.2.1 p.2.2.2.2.1),())
 ((e->sL s.1 p.1/\Gr i m/\sL t.2.1 a.1.1/\Gr j n)/\(e=false->f->HA s.1 s.2.2.2.2.1/\FR g s.2.2.2.1/\FR s.1 s.2.2.2.1/\HA s.1 s.2.2.2.1/\HA g s.2.2.2.1/\Gr k o/\FR t.2.1 t.2.2.2.2.1/\FR t.2.1 t.2.2.2.1/\FR h t.2.2.2.1/\HA h t.2.2.2.1/\HA t.2.1 t.2.2.2.1/\Gr l q),(),(r,()))
def tM0 a b c:=(XO a b c).1
def mU6 a b c:=(XO a b c).2.1
def Ot a b c:=(XO a b c).2.2
theorem oI1:SK 236 (fnSpec [(0,Ac),(1,Dp),(2,Dp)] (.tup .nl) [(0,Ac)] (λx=>tM0 x.1 x.2.1 x.2.2.1) (λx=>mU6 x.1 x.2.1 x.2.2.1) (λx=>Ot x.1 x.2.1 x.2.2.1)):=fx (λc=>{ c with wants:=[(232,[1])] }) Tryz.func236 85 [kb tM,kb XN,kb qK5,kb pI5] [] [] true [0] [57,83]
abbrev vN9:Type:=(Bool×(List CZ)×(List CZ)×Int×Unit)
abbrev Gs:Type:=((Int×Int×Int×(List (List A0))×Int×Unit)×Int×Unit)
def tT4 (y:vN9)(x:Gs):Vn Gs:=
 let e:=y.2.2.1
 let d:=x.1
 let c:=x.2.1
 let g:Bool:=c<y.2.2.2.1
 let a:=nth e c BX
 let h:=([AL a.1 a.2.2.2.1,AL a.2.1 a.2.2.2.1,AR a.2.1 a.2.2.2.1,AR a.1 a.2.2.2.1]:List A0)
 let f:=d
 let b:=CA f h
 (g->A7 c (len e)/\FR a.1 a.2.2.2.1/\FR a.2.1 a.2.2.2.1/\HA a.2.1 a.2.2.2.1/\HA a.1 a.2.2.2.1/\Gr f h/\A6 (c+1),g,((b.1.1,b.1.2.1,b.1.2.2.1,b.1.2.2.2.1,b.1.2.2.2.2.1,()),c+1,()))
def vR8 y x:=(tT4 y x).1
def Kx y x:=(tT4 y x).2.1
def wG y x:=(tT4 y x).2.2
def vY5 (y:vN9)(x:Gs):(Int×Int×Int×(List (List A0))×Int×Unit):=
 let a:=x.1
 a
def tZ:List (Nat×Sh):=[(0,Ac),(2,vB),(7,Bu)]
def qK9:=li [(2,vB),(7,Bu),(32,Bu),(33,vI)] [(0,Ac),(34,vI)] Kx wG vR8 (λy x=>[ex 2 none tZ ((vY5 y x),y.1,y.2.1,())]) [tZ]
abbrev vD1:Type:=(Bool×(List CZ)×Unit)
def tB6 (y:vD1)(x:Gs):Vn Gs:=
 let d:=y.2.1
 let c:=x.1
 let b:=x.2.1
 let f:Bool:=b<len d
 let g:=b-1
 let h:=nth d g BX
 let i:=nth d b BX
 let e:=c
 let a:=wN e h i
 (f->A6 (b-1)/\A7 g (len d)/\A7 b (len d)/\TS e h i/\A6 (b+1),f,((a.1.1,a.1.2.1,a.1.2.2.1,a.1.2.2.2.1,a.1.2.2.2.2.1,()),b+1,()))
def vM1 y x:=(tB6 y x).1
def J6 y x:=(tB6 y x).2.1
def J7 y x:=(tB6 y x).2.2
def vR1 (y:vD1)(x:Gs):(Int×Int×Int×(List (List A0))×Int×Unit):=
 let a:=x.1
 a
def tR1:List (Nat×Sh):=[(0,Ac),(2,vB),(7,Bu)]
def rY5:=li [(2,vB),(7,Bu)] [(0,Ac),(10,vI)] J6 J7 vM1 (λy x=>[ex 4 none tR1 ((vR1 y x),y.1,y.2.1,())]) [tR1]
def XP (p:(Int×Int×Int×(List (List A0))×Int×Unit))(D:List A0)(G:Bool):Prop×(Unit)×((Int×Int×Int×(List (List A0))×Int×Unit)×Unit):=
 let k:=f229 D G
 let c:=BF k G p.1
 let g:=len c==0
 let h:=len k==1
 let s:=nth k 0 A1
 let o:=p
 let e:=Qv o s
 let n:=(G,c,c,len c,())
 let F:=(p,(0:Int),())
 let b:=vY5 n (A3 (Kx n) (wG n) F)
 let i:=!G
 let t:=len c
 let u:=t-1
 let v:=nth c u BX
 let w:=nth c 0 BX
 let q:=b
 let f:=wN q v w
 let C:=(cond i f.1.1 b.1,cond i f.1.2.1 b.2.1,cond i f.1.2.2.1 b.2.2.1,cond i f.1.2.2.2.1 b.2.2.2.1,cond i f.1.2.2.2.2.1 b.2.2.2.2.1,())
 let j:=(G,c,())
 let B:=(C,(1:Int),())
 let a:=vR1 j (A3 (J6 j) (J7 j) B)
 let z:=nth c 0 BX
 let A:=len c
 let l:=A-1
 let m:=nth c l BX
 let r:=a
 let d:=Ot r z m
 let E:=(cond g (cond h e.1.1 p.1) (cond G d.1.1 a.1),cond g (cond h e.1.2.1 p.2.1) (cond G d.1.2.1 a.2.1),cond g (cond h e.1.2.2.1 p.2.2.1) (cond G d.1.2.2.1 a.2.2.1),cond g (cond h e.1.2.2.2.1 p.2.2.2.1) (cond G d.1.2.2.2.1 a.2.2.2.1),cond g (cond h e.1.2.2.2.2.1 p.2.2.2.2.1) (cond G d.1.2.2.2.2.1 a.2.2.2.2.1),())
 (pI0 D G/\pI1 k G p.1/\(g->h->A7 0 (len k)/\sL0 o s)/\(!g->AB (Kx n) (wG n) (vR8 n) F/\(i->A6 (t-1)/\A7 u (len c)/\A7 0 (len c)/\TS q v w)/\AB (J6 j) (J7 j) (vM1 j) B/\(G->A7 0 (len c)/\A6 (A-1)/\A7 l (len c)/\tM0 r z m)),(),(E,()))
def XQ a b c:=(XP a b c).1
def mU7 a b c:=(XP a b c).2.1
def IF a b c:=(XP a b c).2.2
theorem oI2:SK 203 (fnSpec [(0,Ac),(1,Bd),(2,vB)] (.tup .nl) [(0,Ac)] (λx=>XQ x.1 x.2.1 x.2.2.1) (λx=>mU7 x.1 x.2.1 x.2.2.1) (λx=>IF x.1 x.2.1 x.2.2.1)):=fx (λc=>{ c with wants:=[(231,[]),(232,[1]),(235,[]),(236,[])] }) Tryz.func203 104 [kb mS8,kb mT4,kb oI,kb tM,kb XN,kb qK5,kb oI0,kb oI1] [(6,qK9),(13,rY5)] [(3,[(4,0,20,1007)])] false [0] [59]
abbrev wV0:Type:=((List Bool)×Unit×(List (List A0))×Int×Unit)
def Qw (y:wV0)(x:Gs):Vm Gs:=
 let j:=y.1
 let f:=y.2.2.1
 let c:=x.1
 let b:=x.2.1
 let d:Bool:=b<y.2.2.2.1
 let h:=nth f b []
 let i:=nth j b false
 let g:=c
 let a:=IF g h i
 let e:Bool:=a.1.2.2.2.2.1>4096
 (d->A7 b (len f)/\A7 b (len j)/\XQ g h i/\(!e->A6 (b+1)),d&&(!e),((a.1.1,a.1.2.1,a.1.2.2.1,a.1.2.2.2.1,a.1.2.2.2.2.1,()),b+1,()),d&&e,!d)
def TT y x:=(Qw y x).1
def J8 y x:=(Qw y x).2.1
def Ij y x:=(Qw y x).2.2.1
def Qx y x:=(Qw y x).2.2.2.1
def pI6 y x:=(Qw y x).2.2.2.2
def uP9 (y:wV0)(x:Gs):(List (List A0)):=
 []
def tZ1 (y:wV0)(x:Gs):Int:=
 3
def rH6:List (Nat×Sh):=[(10,Av),(11,vI)]
def uQ (y:wV0)(x:Gs):(Int×Int×Int×(List (List A0))×Int×Unit):=
 let a:=x.1
 a
def rH7:List (Nat×Sh):=[(14,(.ref 38 IA)),(38,Bo)]
def pI7:=li [(1,Ea),(14,(.ref 38 IA)),(39,Aj),(40,vI)] [(38,Bo),(41,vI)] J8 Ij TT (λy x=>[ex 1 (some (Qx y x)) rH6 ((uP9 y x),(tZ1 y x),()),ex 2 (some (pI6 y x)) rH7 (y.2.1,(uQ y x),())]) [rH6,rH7]
def mU8 (j:(List (List A0)))(k:List Bool)(l m n:Int):Prop×((List (List A0))×Int×Unit):=
 let g:=FQ l m n
 let d:=g !=0
 let h:=DZ j 0
 let e:=h !=0
 let f:=len k !=len j
 let a:=(k,(),j,len j,())
 let i:=((l,m,n,([]:List (List A0)),(0:Int),()),(0:Int),())
 let c:=A3 (J8 a) (Ij a) i
 let b:=Qx a c
 (pI l m n/\(!d->Qr j 0/\(!e->!f->AB (J8 a) (Ij a) (TT a) i)),(cond d [] (cond e [] (cond f [] (cond b (uP9 a c) (uQ a c).2.2.2.1))),cond d g (cond e h (cond f 15 (cond b (tZ1 a c) 0))),()))
def pI8 a b c d e:=(mU8 a b c d e).1
def FT a b c d e:=(mU8 a b c d e).2
theorem mU9:SK 165 (sp5 Aj Ea vI vI vI (.tup (.cons Av (.cons vI .nl))) pI8 FT):=fx (λc=>{ c with wants:=[(203,[])] }) Tryz.func165 63 [kb pH9,kb mS7,kb oI2] [(11,pI7)] [(35,[(4,0,403800,0)])]
def lV1 (p:AI):Prop×Int:=
 let a:=BO (Q8 p).1 (Q2 p).1
 let i:=a.2.1 !=0
 let j:=cond ((Qi p).1 !=0) ((Qi p).1 !=1) false
 let k:=cond ((Qc p).1==0) (cond ((Qf p).1 !=0) true ((Qg p).1 !=0)) false
 let b:=BJ a.1
 let l:=b.2.1 !=0
 let c:=(Qc p).1 !=0
 let e:=EF a.1
 let d:=e.2.1 !=0
 let g:=FT b.1 e.1 (Qc p).1 (Qf p).1 (Qg p).1
 let m:=g.2.1 !=0
 let f:=cond c g.1 b.1
 let q:=cond c 0 (Qi p).1
 let n:=DZ f q
 let o:=n !=0
 let h:=cond k 1 (cond l b.2.1 (cond ((d||((!d)&&m))&&c) (cond d e.2.1 g.2.1) (cond o n (H8 (Q9 p).1))))
 (pH4 (Q8 p).1 (Q2 p).1/\(!i->!j->!k->XJ a.1/\(!l->(c->pH5 a.1/\(!d->pI8 b.1 e.1 (Qc p).1 (Qf p).1 (Qg p).1))/\((cond c ((!d)&&(!m)) true)=true->Qr f q/\(!o->TF (Q9 p).1)))),cond i a.2.1 (cond j 8 h))
def pI9 a:=(lV1 a).1
def Ky a:=(lV1 a).2
theorem mV:SK 134 (AU Bc vI pI9 Ky):=fb Tryz.func134 87 [kb pG8,kb mS1,kb oV9,kb mS5,kb mU9,kb pH9] [] [(17,[(4,0,44,1005)]),(27,[(4,0,57,1007)]),(33,[(5,0,1005,0),(4,0,72,1005)])]
def J9 (a b c:Int):Prop×Bool:=
 (True,cond (a≥b) (decide (a<=c)) false)
def L3 a b c:=(J9 a b c).1
def BL a b c:=(J9 a b c).2
theorem pJ:SK 238 (DT vI vI vI vB L3 BL):=fb Tryz.func238 15
abbrev vI5:Type:=((List AA)×Int×Int×(List A0)×Unit)
def TU (y:vI5)(x:AD):Vm AD:=
 let a:=x.1
 let b:Bool:=a<3
 let c:=nth y.2.2.2.1 a A1
 let e:=!(BL c.1 (-65536:Int) 65536)
 let d:=cond e true (!(BL c.2.1 (-65536:Int) 65536))
 (b->A7 a 3/\L3 c.1 (-65536:Int) 65536/\(!e->L3 c.2.1 (-65536:Int) 65536)/\(!d->A6 (a+1)),b&&(!d),(a+1,()),b&&d,!b)
def rH8 y x:=(TU y x).1
def Qy y x:=(TU y x).2.1
def TV y x:=(TU y x).2.2.1
def tT5 y x:=(TU y x).2.2.2.1
def tT6 y x:=(TU y x).2.2.2.2
def tZ2 (y:vI5)(x:AD):Int:=
 2
def rH9:List (Nat×Sh):=[(19,Ai),(20,vI),(21,vI)]
def pJ0:=li [(19,Ai),(20,vI),(21,vI),(26,(.val (.arr 3 AQ)))] [(27,vI)] Qy TV rH8 (λy x=>[ex 1 (some (tT5 y x)) [(2,vI)] ((tZ2 y x),()),ex 4 (some (tT6 y x)) rH9 (y.1,y.2.1,y.2.2.1,())]) [[(2,vI)],rH9]
def Ou (y:Er)(x:AD):Vm AD:=
 let e:=y.1
 let f:=y.2.1
 let b:=x.1
 let d:Bool:=b<f
 let a:=(e,f,b,(nth e b A5).2.1,())
 let h:=((0:Int),())
 let g:=A3 (Qy a) (TV a) h
 let c:=tT6 a g
 (d->A7 b (len e)/\AB (Qy a) (TV a) (rH8 a) h/\(c->A6 (b+1)),d&&c,(b+1,()),d&&tT5 a g,!d)
def qB0 y x:=(Ou y x).1
def L4 y x:=(Ou y x).2.1
def Ov y x:=(Ou y x).2.2.1
def uL y x:=(Ou y x).2.2.2.1
def oI3 y x:=(Ou y x).2.2.2.2
def sT7 (y:Er)(x:AD):Int:=
 let b:=y.1
 let c:=x.1
 let a:=(b,y.2.1,c,(nth b c A5).2.1,())
 (tZ2 a (A3 (Qy a) (TV a) (0,())))
def oI4:=li [(19,Ai),(20,vI)] [(21,vI)] L4 Ov qB0 (λy x=>[ex 1 (some (uL y x)) [(2,vI)] ((sT7 y x),()),ex 2 (some (oI3 y x)) [] ()]) [[(2,vI)],[]]
def lV2 (g:C7):Prop×Int:=
 let b:=!(BL g.2.1 0 65536)
 let c:=BI g.2.2.1
 let d:=c !=0
 let a:=(g.2.2.1,len g.2.2.1,())
 let f:=((0:Int),())
 let e:=A3 (L4 a) (Ov a) f
 (L3 g.2.1 0 65536/\(!b->tT g.2.2.1/\(!d->AB (L4 a) (Ov a) (qB0 a) f)),cond b 2 (cond d c (cond (uL a e) (sT7 a e) 0)))
def pJ1 a:=(lV2 a).1
def FU a:=(lV2 a).2
theorem mV0:SK 272 (AU (.val H2) vI pJ1 FU):=fb Tryz.func272 42 [kb qJ9,kb pJ] [(7,oI4),(10,pJ0)]
def mV1 (a b:DH):Prop×Bool:=
 (True,cond (a.1>b.1) true (cond (a.1==b.1) (decide (a.2.1>b.2.1)) false))
def oW7 a b:=(mV1 a b).1
def IG a b:=(mV1 a b).2
theorem mV2:SK 273 (BG (.val H3) (.val H3) vB oW7 IG):=fb Tryz.func273 24
abbrev vY8:Type:=(A8×(List C7)×Int×Unit)
def Ow (y:vY8)(x:AD):Vm AD:=
 let j:=y.1
 let f:=y.2.1
 let a:=x.1
 let b:Bool:=a<y.2.2.1
 let d:=nth f a BH
 let e:Bool:=a>0
 let h:=a-1
 let c:=cond e (decide (d.1<=(nth j.2.2.2.1 h BH).1)) false
 let i:=FU d !=0
 let g:=(!c)&&(!i)
 (b->A7 a (len f)/\(e->A6 (a-1))/\(e->A7 h (len j.2.2.2.1))/\(!c->pJ1 d)/\(g->A6 (a+1)),b&&g,(a+1,()),b&&(c||((!c)&&i)),!b)
def qB1 y x:=(Ow y x).1
def TW y x:=(Ow y x).2.1
def uH y x:=(Ow y x).2.2.1
def tM1 y x:=(Ow y x).2.2.2.1
def qB2 y x:=(Ow y x).2.2.2.2
def tB7 (y:vY8)(x:AD):Int:=
 let a:=x.1
 let b:=nth y.2.1 a BH
 (cond (cond (a>0) (decide (b.1<=(nth y.1.2.2.2.1 (a-1) BH).1)) false) 24 (FU b))
def oI5:=li [(1,Ah),(35,(.val Di)),(36,vI)] [(37,vI)] TW uH qB1 (λy x=>[ex 1 (some (tM1 y x)) [(2,vI)] ((tB7 y x),()),ex 2 (some (qB2 y x)) [(1,Ah)] (y.1,())]) [[(2,vI)],[(1,Ah)]]
abbrev vI7:Type:=(A8×(List DH)×Int×Unit)
def vO (y:vI7)(x:AD):Vm AD:=
 let k:=y.1
 let f:=y.2.1
 let a:=x.1
 let b:Bool:=a<y.2.2.1
 let c:=nth f a BU
 let d:Bool:=a>0
 let h:=a-1
 let i:=nth k.2.2.2.2.1 h BU
 let e:=cond d (!(IG c i)) false
 let j:=!(BL c.2.2.1 (-65536:Int) 65536)
 let g:=(!e)&&(!j)
 (b->A7 a (len f)/\(d->A6 (a-1))/\(d->A7 h (len k.2.2.2.2.1))/\(d->oW7 c i)/\(!e->L3 c.2.2.1 (-65536:Int) 65536)/\(g->A6 (a+1)),b&&g,(a+1,()),b&&(e||((!e)&&j)),!b)
def rI y x:=(vO y x).1
def TX y x:=(vO y x).2.1
def vR9 y x:=(vO y x).2.2.1
def uQ0 y x:=(vO y x).2.2.2.1
def pJ2 y x:=(vO y x).2.2.2.2
def vS0 (y:vI7)(x:AD):Int:=
 let a:=x.1
 (cond (cond (a>0) (!(IG (nth y.2.1 a BU) (nth y.1.2.2.2.2.1 (a-1) BU))) false) (24:Int) 2)
def pJ3:=li [(1,Ah),(63,(.val Dt)),(64,vI)] [(65,vI)] TX vR9 rI (λy x=>[ex 1 (some (uQ0 y x)) [(2,vI)] ((vS0 y x),()),ex 4 (some (pJ2 y x)) [] ()]) [[(2,vI)],[]]
def lV3 (k:A8):Prop×Int:=
 let d:=!(BL k.1 1 65536)
 let e:=cond d true (!(BL k.2.1 0 65536))
 let f:=cond e true (!(BL k.2.2.1 0 65536))
 let g:=cond (len k.2.2.2.1>256) true (len k.2.2.2.2.1>256)
 let b:=(k,k.2.2.2.1,len k.2.2.2.1,())
 let j:=((0:Int),())
 let i:=A3 (TW b) (uH b) j
 let a:=(k,k.2.2.2.2.1,len k.2.2.2.2.1,())
 let h:=((0:Int),())
 let c:=A3 (TX a) (vR9 a) h
 (L3 k.1 1 65536/\(!d->L3 k.2.1 0 65536)/\(!e->L3 k.2.2.1 0 65536)/\(!f->!g->AB (TW b) (uH b) (qB1 b) j/\(qB2 b i->AB (TX a) (vR9 a) (rI a) h)),cond f 2 (cond g 3 (cond (tM1 b i) (tB7 b i) (cond (uQ0 a c) (vS0 a c) 0))))
def qL a:=(lV3 a).1
def CQ a:=(lV3 a).2
theorem mV3:SK 237 (AU Bm vI qL CQ):=fb Tryz.func237 88 [kb pJ,kb mV0,kb mV2] [(6,oI5),(15,pJ3)]
abbrev vY9:Type:=((List UInt8)×Int×Int×Int×Unit)
def Ox (y:vY9)(x:AD):Vm AD:=
 let d:=y.1
 let a:=x.1
 let b:Bool:=a<y.2.2.2.1
 let e:Bool:=wD d a<32
 let f:=cond e true (wD d a>126)
 let c:=cond f (wD d a !=10) false
 (b->A7 a (len d)/\(!e->A7 a (len d))/\(f->A7 a (len d))/\(!c->A6 (a+1)),b&&(!c),(a+1,()),b&&c,!b)
def qB3 y x:=(Ox y x).1
def vZ y x:=(Ox y x).2.1
def XR y x:=(Ox y x).2.2.1
def tM2 y x:=(Ox y x).2.2.2.1
def qB4 y x:=(Ox y x).2.2.2.2
def sT8 (y:vY9)(x:AD):Int:=
 4
def oI6:=li [(1,vS),(2,vI),(3,vI),(17,vI)] [(18,vI)] vZ XR qB3 (λy x=>[ex 1 (some (tM2 y x)) [(8,vI)] ((sT8 y x),()),ex 2 (some (qB4 y x)) [(1,vS),(2,vI),(3,vI)] (y.1,y.2.1,y.2.2.1,())]) [[(8,vI)],[(1,vS),(2,vI),(3,vI)]]
def mV4 (i:A8)(j:List UInt8)(k l:Int):Prop×Int:=
 let c:=CQ i
 let d:=c !=0
 let a:=(j,k,l,len j,())
 let h:=((0:Int),())
 let g:=A3 (vZ a) (XR a) h
 let e:Bool:=len j>128
 let f:=!(BL k 1 1048576)
 let b:=cond d c (cond (tM2 a g) (sT8 a g) (cond e 3 (cond (cond f true (!(BL l 0 1048576))) 2 0)))
 (qL i/\(!d->AB (vZ a) (XR a) (qB3 a) h/\(qB4 a g->!e->L3 k 1 1048576/\(!f->L3 l 0 1048576))),b)
def qL0 a b c d:=(mV4 a b c d).1
def Kz a b c d:=(mV4 a b c d).2
theorem mV5:SK 204 (Fy Bm vS vI vI vI qL0 Kz):=fb Tryz.func204 49 [kb mV3,kb pJ] [(5,oI6)]
abbrev tB8:Type:=(A8×Unit×(A8×(List Int)×Unit)×(List C7)×Int×Unit)
def qL1 (y:tB8)(x:CT):Vn CT:=
 let b:=y.2.2.2.1
 let a:=x.2.1
 let c:Bool:=a<y.2.2.2.2.1
 (c->A7 a (len b)/\A6 (a+1),c,(cond ((nth b a BH).1==63) a x.1,a+1,()))
def qB5 y x:=(qL1 y x).1
def XS y x:=(qL1 y x).2.1
def XT y x:=(qL1 y x).2.2
def tC (y:tB8)(x:CT):Int:=
 x.1
def qB6:List (Nat×Sh):=[(1,Ah),(3,Cn),(4,vI),(12,An)]
def oI7:=li [(1,Ah),(3,Cn),(12,An),(14,(.val Di)),(15,vI)] [(4,vI),(16,vI)] XS XT qB5 (λy x=>[ex 2 none qB6 (y.1,y.2.1,(tC y x),y.2.2.1,())]) [qB6]
abbrev uL1:Type:=(A8×Unit×Int×Unit)
abbrev TY:Type:=((A8×(List Int)×Unit)×Int×Unit)
def rI0 (y:uL1)(x:TY):Vn TY:=
 let b:=x.1
 let a:=x.2.1
 let c:Bool:=a<256
 (c->A7 a 256/\A6 (a+1),c,((b.1,set b.2.1 (toNat a) y.2.2.1,()),a+1,()))
def rI1 y x:=(rI0 y x).1
def XU y x:=(rI0 y x).2.1
def XV y x:=(rI0 y x).2.2
def uQ1 (y:uL1)(x:TY):(A8×(List Int)×Unit):=
 let a:=x.1
 (a.1,a.2.1,())
def rI2:List (Nat×Sh):=[(1,Ah),(3,Cn),(12,An)]
def pJ4:=li [(1,Ah),(3,Cn),(4,vI)] [(12,An),(26,vI)] XU XV rI1 (λy x=>[ex 4 none rI2 (y.1,y.2.1,(uQ1 y x),())]) [rI2]
abbrev uL3:Type:=(Unit×(List C7)×Int×Unit)
def rI3 (y:uL3)(x:TY):Vn TY:=
 let c:=y.2.1
 let b:=x.1
 let a:=x.2.1
 let d:Bool:=a<y.2.2.1
 let e:=nth c a BH
 (d->A7 a (len c)/\A7 e.1 256/\A6 (a+1),d,((b.1,set b.2.1 (toNat e.1) a,()),a+1,()))
def rI4 y x:=(rI3 y x).1
def XW y x:=(rI3 y x).2.1
def XX y x:=(rI3 y x).2.2
def uQ2 (y:uL3)(x:TY):(A8×(List Int)×Unit):=
 let a:=x.1
 (a.1,a.2.1,())
def rI5:List (Nat×Sh):=[(3,Cn),(12,An)]
def pJ5:=li [(3,Cn),(37,(.val Di)),(38,vI)] [(12,An),(39,vI)] XW XX rI4 (λy x=>[ex 6 none rI5 (y.1,(uQ2 y x),())]) [rI5]
def mV6 (i:A8):Prop×AX:=
 let e:=(i,(),(i,replicate 256 (0:Int),()),i.2.2.2.1,len i.2.2.2.1,())
 let h:=((-1:Int),(0:Int),())
 let c:=(i,(),tC e (A3 (XS e) (XT e) h),())
 let f:=((i,replicate 256 (0:Int),()),(0:Int),())
 let a:=uQ1 c (A3 (XU c) (XV c) f)
 let d:=((),i.2.2.2.1,len i.2.2.2.1,())
 let g:=((a.1,a.2.1,()),(0:Int),())
 let b:=uQ2 d (A3 (XW d) (XX d) g)
 (AB (XS e) (XT e) (qB5 e) h/\AB (XU c) (XV c) (rI1 c) f/\AB (XW d) (XX d) (rI4 d) g,(b.1,b.2.1,()))
def XY a:=(mV6 a).1
def BC a:=(mV6 a).2
theorem mV7:SK 205 (AU Bm Ba XY BC):=fb Tryz.func205 53 [] [(4,oI7),(10,pJ4),(15,pJ5)] [(39,[(3,12,0,0)])]
end Go.Proofs.YtkmmjpnfhaecdaaGreatDoor.Am
