/- Printed by program, part 6. No condition. -/
import Derived.Test.YtgjdonlgingdeaaGreatDoorDckP5
set_option linter.unusedVariables false
set_option synthInstance.maxSize 4000
set_option synthInstance.maxHeartbeats 400000
namespace Go.Proofs.YtgjdonlgingdeaaGreatDoor.Am
open Go Go.Am Go.Proofs
def mZ7 (o:AK):Prop×Int:=
 let m:=o.2.1==2
 let b:=o.2.1==3
 let c:=o.2.1==4
 let d:=o.2.1==5
 let e:=o.2.1==6
 let f:=o.2.1==7
 let g:=o.2.1==8
 let k:=o.2.1==9
 let a:=cond k k (o.2.1==10)
 let l:=o.2.1==11
 let h:=cond f (H0 (Qc o).1 (Qa o).1 (Qd o).1) (cond g (f143 (Qc o).1 (Qa o).1) (cond a (2:Int) (K9 (Qk o).1)))
 let n:=cond d true (cond e true (cond f true (cond g true (cond a (!(Fg (Qh o).1 (1:Int) (1073741824:Int))) l))))
 let i:=cond c (M4 (Qc o).1 (Qa o).1 (Qe o).1 (Qd o).1) (cond d (Kz o) (cond e (f141 o) h))
 let j:=cond (cond m true (cond b true (cond c true n))) (cond m (Ls (Q6 o).1) (cond b (f138 (Q9 o).1) i)) (0:Int)
 ((m->UP (Q6 o).1)/\(m=false->(b->Oq (Q9 o).1)/\(b=false->(c->pI9 (Qc o).1 (Qa o).1 (Qe o).1 (Qd o).1)/\(c=false->(d->pK3 o)/\(d=false->(e->qN5 o)/\(e=false->(f->pM1 (Qc o).1 (Qa o).1 (Qd o).1)/\(f=false->(g->pM2 (Qc o).1 (Qa o).1)/\(g=false->(a->Om (Qh o).1 (1:Int) (1073741824:Int))/\(a=false->l->qN6 (Qk o).1)))))))),j)
def pM3 a:=(mZ7 a).1
def I7 a:=(mZ7 a).2
theorem mZ8:SK 100 (AS Bc vI pM3 I7):=fb Tryz.func100 62 [kb mD2,kb oZ4,kb pI7,kb mU6,kb mX,kb mY8,kb mZ1,kb mZ5,kb mZ6]
def lU (p:AK):Prop×AK:=
 let q:=((0:Int),(0:Int),([]:List Int),())
 let d:=((0:Int),(0:Int),(0:Int),([]:List UInt8),false,false,false,(0:Int),(0:Int),q,(Q2 p))
 let e:=((0:Int),(0:Int),(0:Int),([]:List UInt8),false,false,false,(0:Int),(0:Int),q,((0:Int),(0:Int),(0:Int),(0:Int),(0:Int),(0:Int),()),(Q7 p))
 let b:=cond (Rq p.2.1) e d
 let f:=(Vb b (0:Int) (Q6 b))
 let a:=cond (Rw p.2.1) f b
 let g:=(Vc a ((0:Int),(0:Int),([]:List CE),()) (Q9 a))
 let h:=(Vd a ((0:Int),(0:Int),(0:Int),(0:Int),()) (Qc a))
 let i:=(Ve a (0:Int) (([]:List Int),(0:Int),([]:List AX),(Q8 a)))
 let j:=(Vd a ((0:Int),(0:Int),(0:Int),(0:Int),()) ((Qc a).1,(Qa a).1,(Qe a).1,(Qd a).1,([]:List A8),(0:Int),(0:Int),(0:Int),(0:Int),(Qj a)))
 let k:=(Vd a ((0:Int),(0:Int),(0:Int),(0:Int),()) ((Qc a).1,(Qa a).1,(Qe a).1,(Qd a).1,(Q8 a).1,(Qi a).1,(Qb a).1,(Qf a).1,(Qg a).1,([]:List UInt8),(0:Int),(0:Int),(Qh a)))
 let l:=(Ve a (0:Int) (([]:List Int),(Qe a).1,([]:List AX),(Q8 a)))
 let m:=(Ve a (0:Int) (([]:List Int),(Qe a)))
 let r:=p.2.1==9
 let n:=(Vf a (0:Int) ((Qk a).1,()))
 let o:=(Vg a ((0:Int),(0:Int),(0:Int),([]:List A0),()) ())
 let c:=cond (p.2.1==6) k (cond (p.2.1==7) l (cond (p.2.1==8) m (cond (cond r r (p.2.1==10)) n (cond (p.2.1==11) o a))))
 (oZ8 p.2.1/\nA6 p.2.1,cond (p.2.1==2) g (cond (p.2.1==3) h (cond (p.2.1==4) i (cond (p.2.1==5) j c))))
def pM4 a:=(lU a).1
def I8 a:=(lU a).2
theorem mZ9:SK 101 (AS Bc Bc pM4 I8):=fb Tryz.func101 75 [kb mD,kb mD0]
def ZQ (o:AK)(p q:Int):Prop×Int:=
 let e:=UL o p q
 let f:=e !=0
 let b:=Rq o.2.1
 let g:=Gp (Q2 o).1
 let a:=g !=0
 let h:=UN (Q2 o).1
 let i:=h.2.1 !=0
 let j:=Rw o.2.1
 let k:=cond j (!(f99 (Q7 o).1)) false
 let l:=I7 o
 let m:=l !=0
 let n:=I8 o
 let d:=((0:Int),(0:Int),(0:Int),([]:List UInt8),false,false,false,(0:Int),(0:Int),((0:Int),(0:Int),([]:List Int),()),La,(0:Int),((0:Int),(0:Int),([]:List CE),()),JK,(0:Int),([]:List Int),(0:Int),([]:List AX),([]:List A8),(0:Int),(0:Int),(0:Int),(0:Int),([]:List UInt8),(0:Int),(0:Int),(0:Int),((0:Int),(0:Int),(0:Int),([]:List A0),()),())
 let c:=cond f e (cond ((a||((!a)&&i))&&b) (cond a g h.2.1) (cond k (8:Int) (cond m l (cond (!(UG n d)) (1:Int) (0:Int)))))
 (oZ7 o p q/\(!f->oZ8 o.2.1/\(b->Oo (Q2 o).1/\(!a->nA5 (Q2 o).1))/\((cond b ((!a)&&(!i)) true)=true->nA6 o.2.1/\(j->mD1 (Q7 o).1)/\(!k->pM3 o/\(!m->pM4 o/\pR0 n d)))),c)
def nD5 a b c:=(ZQ a b c).1
def L4 a b c:=(ZQ a b c).2
theorem lU0:SK 59 (DR Bc vI vI vI nD5 L4):=fb Tryz.func59 56 [kb lP0,kb lP5,kb mD,kb pR2,kb lQ,kb mD0,kb lQ0,kb mZ8,kb mZ9]
abbrev uT8:Type:=(Int×AN×Unit)
def ZR (y:uT8)(x:vD):Vm vD:=
 let a:=y.2.1
 let e:=x.1
 let h:=x.2.1
 let b:=cond (e≥0) (decide (h<=len a.2.2.2.1)) false
 let d:=(nth a.2.2.2.1 e A9).1==y.1
 let f:=(nth a.2.2.2.1 e A9).2.2.1==0
 let g:=nth a.2.2.2.1 e A9
 let c:=(!d)&&(!f)
 (b->A6 e (len a.2.2.2.1)/\(!d->A6 e (len a.2.2.2.1)/\(!f->A6 e (len a.2.2.2.1)/\tQ a g.2.2.1))/\(c->A5 (h+1)),b&&c,(Jp a g.2.2.1,h+1,()),b&&(d||((!d)&&f)),!b)
def rP4 y x:=(ZR y x).1
def RM y x:=(ZR y x).2.1
def O9 y x:=(ZR y x).2.2.1
def sG y x:=(ZR y x).2.2.2.1
def nD6 y x:=(ZR y x).2.2.2.2
def uU (y:uT8)(x:vD):Bool:=
 let a:=y.1
 (cond ((nth y.2.1.2.2.2.1 x.1 A9).1==a) true (a==0))
def nD7:=li [(1,vI),(3,An)] [(2,vI),(7,vI)] RM O9 rP4 (λy x=>[ex 1 (some (sG y x)) [(6,vB)] ((uU y x),()),ex 2 (some (nD6 y x)) [(1,vI)] (y.1,())]) [[(6,vB)],[(1,vI)]]
def ZS (d:AN)(e f:Int):Prop×Bool:=
 let a:=(e,d,())
 let c:=(f,(0:Int),())
 let b:=A3 (RM a) (O9 a) c
 (AA (RM a) (O9 a) (rP4 a) c,cond (sG a b) (uU a b) (e==0))
def nD8 a b c:=(ZS a b c).1
def MI a b c:=(ZS a b c).2
theorem lU1:SK 60 (DR Ag vI vI vB nD8 MI):=fb Tryz.func60 46 [kb UB] [(2,nD7)]
def ZT (y:Lk)(x:AF):Vm AF:=
 let c:=y.1
 let q:=y.2.1
 let a:=x.1
 let d:Bool:=a<y.2.2.1
 let b:=nth q a A9
 let e:=L4 b c.1 c.2.1!=0
 let f:=cond (b.1<1) true (b.1≥c.2.2.2.2.1)
 let g:Bool:=Jp c b.1<a
 let h:=Jp c b.2.2.1
 let l:=b.2.2.1 !=0
 let m:=cond (h<0) true (h≥a)
 let i:=cond l (cond m true ((nth c.2.2.2.1 h A9).2.1 !=1)) false
 let n:=a-1
 let j:=!(MI c b.2.2.1 n)
 let o:Bool:=Jr c a>8
 let k:=(!e)&&((!f)&&((!g)&&((!i)&&((!j)&&(!o)))))
 (d->A6 a (len q)/\nD5 b c.1 c.2.1/\(!e->!f->tQ c b.1/\(!g->tQ c b.2.2.1/\((l&&(!m))->A6 h (len c.2.2.2.1))/\(!i->A5 (a-1)/\nD8 c b.2.2.1 n/\(!j->Rm c a))))/\(k->A5 (a+1)),d&&k,(a+1,()),d&&(e||((!e)&&(f||((!f)&&(g||((!g)&&(i||((!i)&&(j||((!j)&&o)))))))))),!d)
def sG0 y x:=(ZT y x).1
def OA y x:=(ZT y x).2.1
def V5 y x:=(ZT y x).2.2.1
def ZU y x:=(ZT y x).2.2.2.1
def nD9 y x:=(ZT y x).2.2.2.2
def ZV (y:Lk)(x:AF):Int:=
 let c:=y.1
 let b:=x.1
 let a:=nth y.2.1 b A9
 let f:=L4 a c.1 c.2.1
 let d:=Jp c a.2.2.1
 let e:=cond (cond (a.2.2.1 !=0) (cond (cond (d<0) true (d≥b)) true ((nth c.2.2.2.1 d A9).2.1 !=1)) false) (9:Int) (cond (!(MI c a.2.2.1 (b-1))) (24:Int) (12:Int))
 (cond (f !=0) f (cond (cond (a.1<1) true (a.1≥c.2.2.2.2.1)) (2:Int) (cond (Jp c a.1<b) (10:Int) e)))
def nE:=li [(1,An),(8,As),(9,vI)] [(10,vI)] OA V5 sG0 (λy x=>[ex 1 (some (ZU y x)) [(2,vI)] ((ZV y x),()),ex 2 (some (nD9 y x)) [] ()]) [[(2,vI)],[]]
def ZW (d:AN):Prop×Int:=
 let a:=(d,d.2.2.2.1,len d.2.2.2.1,())
 let c:=((0:Int),())
 let b:=A3 (OA a) (V5 a) c
 (AA (OA a) (V5 a) (sG0 a) c,cond (ZU a b) (ZV a b) (0:Int))
def nE0 a:=(ZW a).1
def EK a:=(ZW a).2
theorem lU2:SK 31 (AS Ag vI nE0 EK):=fb Tryz.func31 77 [kb UB,kb mC8,kb lU0,kb lU1] [(2,nE)]
def ZX (y:uT8)(x:AF):Vm AF:=
 let f:=y.1
 let c:=y.2.1
 let a:=x.1
 let e:Bool:=a≥0
 let d:=(nth c.2.2.2.1 a A9).2.2.1==(nth c.2.2.2.1 f A9).2.2.1
 let b:=cond d (!(nth c.2.2.2.1 a A9).2.2.2.2.2.2.1) false
 (e->A6 a (len c.2.2.2.1)/\A6 f (len c.2.2.2.1)/\(d->A6 a (len c.2.2.2.1))/\(!b->A5 (a-1)),e&&(!b),(a-1,()),e&&b,!e)
def rP7 y x:=(ZX y x).1
def V6 y x:=(ZX y x).2.1
def V7 y x:=(ZX y x).2.2.1
def rP8 y x:=(ZX y x).2.2.2.1
def nE1 y x:=(ZX y x).2.2.2.2
def tV (y:uT8)(x:AF):Int:=
 x.1
def nE2:=li [(1,vI),(2,An)] [(5,vI)] V6 V7 rP7 (λy x=>[ex 1 (some (rP8 y x)) [(4,vI)] ((tV y x),()),ex 2 (some (nE1 y x)) [] ()]) [[(4,vI)],[]]
def ZY (d:AN)(e:Int):Prop×Int:=
 let a:=(e,d,())
 let c:=(e-1,())
 let b:=A3 (V6 a) (V7 a) c
 (A5 (e-1)/\AA (V6 a) (V7 a) (rP7 a) c,cond (rP8 a b) (tV a b) (-1:Int))
def pS1 a b:=(ZY a b).1
def HR a b:=(ZY a b).2
theorem lU3:SK 61 (BD Ag vI vI pS1 HR):=fb Tryz.func61 35 [] [(2,nE2)]
def ZZ (a:Int):Prop×Bool:=
 (True,cond (cond (cond (a≥1) (decide (a<=6)) false) true (a==9)) true (a==10))
def nE3 a:=(ZZ a).1
def L5 a:=(ZZ a).2
theorem mD3:SK 62 (AS vI vB nE3 L5):=fb Tryz.func62 17
def aA (y:Lk)(x:AF):Vm AF:=
 let i:=y.1
 let j:=y.2.1
 let d:=x.1
 let a:Bool:=d<y.2.2.1
 let b:=!(nth j d A9).2.2.2.2.2.2.1
 let e:=HR i d
 let c:Bool:=e<0
 let g:=nth i.2.2.2.1 e A9
 let h:=!(L5 g.2.1)
 let f:=b||((!b)&&((!c)&&(!h)))
 (a->A6 d (len j)/\(!b->pS1 i d/\(!c->A6 e (len i.2.2.2.1)/\nE3 g.2.1))/\(f->A5 (d+1)),a&&f,(d+1,()),a&&((!b)&&(c||((!c)&&h))),!a)
def rQ y x:=(aA y x).1
def MJ y x:=(aA y x).2.1
def RN y x:=(aA y x).2.2.1
def aB y x:=(aA y x).2.2.2.1
def nE4 y x:=(aA y x).2.2.2.2
def aC (y:Lk)(x:AF):Int:=
 (cond (HR y.1 x.1<0) (14:Int) (8:Int))
def nE5:=li [(1,An),(7,As),(8,vI)] [(9,vI)] MJ RN rQ (λy x=>[ex 1 (some (aB y x)) [(2,vI)] ((aC y x),()),ex 2 (some (nE4 y x)) [] ()]) [[(2,vI)],[]]
def aD (d:AN):Prop×Int:=
 let a:=(d,d.2.2.2.1,len d.2.2.2.1,())
 let c:=((0:Int),())
 let b:=A3 (MJ a) (RN a) c
 (AA (MJ a) (RN a) (rQ a) c,cond (aB a b) (aC a b) (0:Int))
def nE6 a:=(aD a).1
def KA a:=(aD a).2
theorem lU4:SK 32 (AS Ag vI nE6 KA):=fb Tryz.func32 31 [kb lU3,kb mD3] [(2,nE5)]
def aE (y:N9)(x:AF):Vm AF:=
 let e:=y.1
 let a:=x.1
 let b:Bool:=a<y.2.1
 let d:Bool:=BP e a<33
 let c:=cond d true (BP e a>126)
 (b->A6 a (len e)/\(!d->A6 a (len e))/\(!c->A5 (a+1)),b&&(!c),(a+1,()),b&&c,!b)
def qW8 y x:=(aE y x).1
def qN7 y x:=(aE y x).2.1
def tV0 y x:=(aE y x).2.2.1
def qW9 y x:=(aE y x).2.2.2.1
def nE7 y x:=(aE y x).2.2.2.2
def rQ1 (y:N9)(x:AF):Bool:=
 false
def nE8:=li [(0,vS),(13,vI)] [(14,vI)] qN7 tV0 qW8 (λy x=>[ex 1 (some (qW9 y x)) [(2,vB)] ((rQ1 y x),()),ex 2 (some (nE7 y x)) [] ()]) [[(2,vB)],[]]
def aF (e:List UInt8):Prop×Bool:=
 let b:=cond (len e<1) true (len e>32)
 let a:=(e,len e,())
 let d:=((0:Int),())
 let c:=A3 (qN7 a) (tV0 a) d
 (!b->AA (qN7 a) (tV0 a) (qW8 a) d,cond b false (cond (qW9 a c) (rQ1 a c) true))
def mD4 a:=(aF a).1
def f63 a:=(aF a).2
theorem lU5:SK 63 (AS vS vB mD4 f63):=fb Tryz.func63 28 [] [(4,nE8)]
def aG (y:Yd)(x:AF):Vm AF:=
 let f:=y.2.1
 let d:=(Q1 y).1
 let a:=x.1
 let b:Bool:=a<(Q3 y).1
 let e:=nth d a FR
 let c:=cond (e.1==f.1) true (e.2.1==f.2.1)
 (b->A6 a (len d)/\(!c->A5 (a+1)),b&&(!c),(a+1,()),b&&c,!b)
def qX y x:=(aG y x).1
def rB5 y x:=(aG y x).2.1
def uU5 y x:=(aG y x).2.2.1
def rQ3 y x:=(aG y x).2.2.2.1
def qX0 y x:=(aG y x).2.2.2.2
def rQ4 (y:Yd)(x:AF):Int:=
 (10:Int)
def qX1:List (Nat×Sh):=[(1,An),(4,Cp),(9,Bf),(10,vI),(11,vI)]
def nE9:=li [(1,An),(4,Cp),(9,Bf),(10,vI),(11,vI),(53,Bf),(54,vI)] [(55,vI)] rB5 uU5 qX (λy x=>[ex 1 (some (rQ3 y x)) [(2,vI)] ((rQ4 y x),()),ex 4 (some (qX0 y x)) qX1 (y.1,y.2.1,y.2.2.1,y.2.2.2.1,y.2.2.2.2.1,())]) [[(2,vI)],qX1]
def aH (y:uP8)(x:AF):Vm AF:=
 let l:=y.1
 let m:=y.2.1
 let h:=y.2.2.1
 let b:=x.1
 let d:Bool:=b<h
 let a:=nth m b FR
 let e:=!(f63 a.2.1)
 let n:=cond (cond (cond (cond (a.1<1) true (a.1≥l.2.2.2.2.1)) true (a.2.2.1<0)) true (a.2.2.1>2)) true (a.2.2.2.1<1)
 let f:=cond n true (a.2.2.2.1>1073741824)
 let j:=List.take (Int.toNat b) (Q0 l).1
 let g:=(l,a,m,h,b,j,len j,())
 let q:=((0:Int),())
 let o:=A3 (rB5 g) (uU5 g) q
 let c:=qX0 g o
 let k:=Ls a.2.2.2.2.1!=0
 let i:=(!e)&&((!f)&&(c&&(!k)))
 (d->A6 b (len m)/\mD4 a.2.1/\(!e->!f->(0<=b/\b<=len (Q0 l).1)/\AA (rB5 g) (uU5 g) (qX g) q/\(c->UP a.2.2.2.2.1))/\(i->A5 (b+1)),d&&i,(b+1,()),d&&(e||((!e)&&(f||((!f)&&(rQ3 g o||(c&&k)))))),!d)
def rQ6 y x:=(aH y x).1
def OB y x:=(aH y x).2.1
def V8 y x:=(aH y x).2.2.1
def sG1 y x:=(aH y x).2.2.2.1
def nF y x:=(aH y x).2.2.2.2
def uU7 (y:uP8)(x:AF):Int:=
 let f:=y.1
 let h:=y.2.1
 let b:=x.1
 let a:=nth h b FR
 let g:=cond (cond (cond (cond (a.1<1) true (a.1≥f.2.2.2.2.1)) true (a.2.2.1<0)) true (a.2.2.1>2)) true (a.2.2.2.1<1)
 let d:=List.take (Int.toNat b) (Q0 f).1
 let e:=(f,a,h,y.2.2.1,b,d,len d,())
 let i:=A3 (rB5 e) (uU5 e) ((0:Int),())
 let c:=cond (!(f63 a.2.1)) (13:Int) (cond (cond g true (a.2.2.2.1>1073741824)) (2:Int) (cond (rQ3 e i) (rQ4 e i) (Ls a.2.2.2.2.1)))
 c
def nF0:=li [(1,An),(9,Bf),(10,vI)] [(11,vI)] OB V8 rQ6 (λy x=>[ex 1 (some (sG1 y x)) [(2,vI)] ((uU7 y x),()),ex 2 (some (nF y x)) [] ()]) [[(2,vI)],[]]
def aI (d:AN):Prop×Int:=
 let a:=(d,(Q0 d).1,len (Q0 d).1,())
 let c:=((0:Int),())
 let b:=A3 (OB a) (V8 a) c
 (AA (OB a) (V8 a) (rQ6 a) c,cond (sG1 a b) (uU7 a b) (0:Int))
def nF1 a:=(aI a).1
def RO a:=(aI a).2
theorem lU6:SK 33 (AS Ag vI nF1 RO):=fb Tryz.func33 79 [kb lU5,kb mD2] [(2,nF0),(9,nE9)]
abbrev uU8:Type:=(Int×(List C5)×Int×Unit)
def aJ (y:uU8)(x:AF):Vm AF:=
 let d:=y.2.1
 let a:=x.1
 let b:Bool:=a<y.2.2.1
 let c:=(nth d a FR).1==y.1
 (b->A6 a (len d)/\(!c->A5 (a+1)),b&&(!c),(a+1,()),b&&c,!b)
def qX2 y x:=(aJ y x).1
def qN8 y x:=(aJ y x).2.1
def tV1 y x:=(aJ y x).2.2.1
def qX3 y x:=(aJ y x).2.2.2.1
def nF2 y x:=(aJ y x).2.2.2.2
def rQ8 (y:uU8)(x:AF):Int:=
 x.1
def nF3:=li [(1,vI),(8,Bf),(9,vI)] [(10,vI)] qN8 tV1 qX2 (λy x=>[ex 1 (some (qX3 y x)) [(4,vI)] ((rQ8 y x),()),ex 2 (some (nF2 y x)) [] ()]) [[(4,vI)],[]]
def aK (d:AN)(e:Int):Prop×Int:=
 let a:=(e,(Q0 d).1,len (Q0 d).1,())
 let c:=((0:Int),())
 let b:=A3 (qN8 a) (tV1 a) c
 (AA (qN8 a) (tV1 a) (qX2 a) c,cond (qX3 a b) (rQ8 a b) (-1:Int))
def nF4 a b:=(aK a b).1
def f65 a b:=(aK a b).2
theorem lU7:SK 65 (BD Ag vI vI nF4 f65):=fb Tryz.func65 21 [] [(2,nF3)]
def aL (y:Lk)(x:AF):Vm AF:=
 let g:=y.1
 let m:=y.2.1
 let h:=x.1
 let b:Bool:=h<y.2.2.1
 let a:=nth m h A9
 let j:=a.2.1==9
 let c:=cond j (decide (f65 g (Qh a).1<0)) false
 let e:=a.2.1==10
 let f:=Jp g (Qh a).1
 let d:Bool:=f<0
 let k:=nth g.2.2.2.1 f A9
 let l:=!(L5 k.2.1)
 let i:=(!c)&&(cond e ((!d)&&(!l)) true)
 (b->A6 h (len m)/\(j->nF4 g (Qh a).1)/\(!c->e->tQ g (Qh a).1/\(!d->A6 f (len g.2.2.2.1)/\nE3 k.2.1))/\(i->A5 (h+1)),b&&i,(h+1,()),b&&(c||((!c)&&((d||((!d)&&l))&&e))),!b)
def rR y x:=(aL y x).1
def OC y x:=(aL y x).2.1
def V9 y x:=(aL y x).2.2.1
def tI y x:=(aL y x).2.2.2.1
def nF5 y x:=(aL y x).2.2.2.2
def aM (y:Lk)(x:AF):Int:=
 let c:=y.1
 let a:=nth y.2.1 x.1 A9
 let b:=cond (cond (a.2.1==9) (decide (f65 c (Qh a).1<0)) false) (9:Int) (cond (Jp c (Qh a).1<0) (9:Int) (8:Int))
 b
def nF6:=li [(1,An),(7,As),(8,vI)] [(9,vI)] OC V9 rR (λy x=>[ex 1 (some (tI y x)) [(2,vI)] ((aM y x),()),ex 2 (some (nF5 y x)) [] ()]) [[(2,vI)],[]]
def aN (d:AN):Prop×Int:=
 let a:=(d,d.2.2.2.1,len d.2.2.2.1,())
 let c:=((0:Int),())
 let b:=A3 (OC a) (V9 a) c
 (AA (OC a) (V9 a) (rR a) c,cond (tI a b) (aM a b) (0:Int))
def nF7 a:=(aN a).1
def aO a:=(aN a).2
theorem lU8:SK 34 (AS Ag vI nF7 aO):=fb Tryz.func34 41 [kb UB,kb mD3,kb lU7] [(2,nF6)]
abbrev sG2:Type:=(AN×(List Bool)×Int×AK×Int×Int×(List AK)×Int×Int×(List AK)×Int×Unit)
def pM5 (y:sG2)(x:UC):Vn UC:=
 let f:=y.2.1
 let e:=y.2.2.2.1
 let b:=(Q4 y).1
 let a:=x.2.1
 let c:Bool:=a<(Q2 y).1
 let d:=nth b a A9
 let g:=cond (!(nth f a false)) (cond (cond (e.2.1==1) (d.2.2.1==e.1) false) true (cond (e.2.1==10) (d.1==(Qh e).1) false)) false
 (c->A6 a (len b)/\A6 a (len f)/\a<len f/\A5 (a+1),c,(cond g false x.1,a+1,()))
def sG3 y x:=(pM5 y x).1
def MK y x:=(pM5 y x).2.1
def ML y x:=(pM5 y x).2.2
def rR0 (y:sG2)(x:UC):Bool:=
 x.1
def qX4:List (Nat×Sh):=[(1,An),(3,Br),(4,vI),(6,vB),(17,vI),(18,vI),(21,As),(22,vI),(23,vI)]
def nF8:=li [(1,An),(3,Br),(4,vI),(5,(.box Ff Bc)),(17,vI),(18,vI),(21,As),(22,vI),(23,vI),(29,As),(30,vI)] [(6,vB),(31,vI)] MK ML sG3 (λy x=>[ex 6 none qX4 (y.1,y.2.1,y.2.2.1,(rR0 y x),y.2.2.2.2.1,(Q1 y).1,(Q3 y).1,(Q0 y).1,(Q5 y).1,())]) [qX4]
abbrev sG4:Type:=(AN×Int×Int×(List AK)×Int×Unit)
def pM6 (y:sG4)(x:FT):Vn FT:=
 let h:=y.1
 let c:=y.2.2.2.1
 let e:=y.2.2.2.2.1
 let f:=x.1
 let a:=x.2.1
 let g:Bool:=a<e
 let d:=(h,f,a,nth c a A9,y.2.1,y.2.2.1,c,e,a,h.2.2.2.1,len h.2.2.2.1,())
 let i:=(true,(0:Int),())
 let b:=rR0 d (A3 (MK d) (ML d) i)
 (g->A6 a (len c)/\AA (MK d) (ML d) (sG3 d) i/\(b->A6 a (len f)/\a<len f)/\A5 (a+1),g,(cond b (List.set f (Int.toNat a) true) f,a+1,()))
def sG5 y x:=(pM6 y x).1
def RP y x:=(pM6 y x).2.1
def OD y x:=(pM6 y x).2.2
def rR1 (y:sG4)(x:FT):(List Bool):=
 x.1
def qX5:List (Nat×Sh):=[(1,An),(3,Br),(17,vI),(18,vI)]
def nF9:=li [(1,An),(17,vI),(18,vI),(21,As),(22,vI)] [(3,Br),(23,vI)] RP OD sG5 (λy x=>[ex 4 none qX5 (y.1,(rR1 y x),y.2.1,y.2.2.1,())]) [qX5]
abbrev sG6:Type:=(AN×Int×Unit)
def pM7 (y:sG6)(x:FT):Vn FT:=
 let e:=y.1
 let c:=y.2.1
 let a:=x.2.1
 let d:Bool:=a<c
 let b:=(e,c,a,e.2.2.2.1,len e.2.2.2.1,())
 let f:=(x.1,(0:Int),())
 (d->AA (RP b) (OD b) (sG5 b) f/\A5 (a+1),d,(rR1 b (A3 (RP b) (OD b) f),a+1,()))
def sG7 y x:=(pM7 y x).1
def FG y x:=(pM7 y x).2.1
def Ft y x:=(pM7 y x).2.2
def rR2 (y:sG6)(x:FT):(List Bool):=
 x.1
def nG:=li [(1,An),(17,vI)] [(3,Br),(18,vI)] FG Ft sG7 (λy x=>[ex 2 none [(3,Br)] ((rR2 y x),())]) [[(3,Br)]]
def aP (y:FT)(x:AF):Vm AF:=
 let c:=y.1
 let a:=x.1
 let b:Bool:=a<y.2.1
 let d:=!(nth c a false)
 (b->A6 a (len c)/\a<len c/\(!d->A5 (a+1)),b&&(!d),(a+1,()),b&&d,!b)
def sP3 y x:=(aP y x).1
def KB y x:=(aP y x).2.1
def KC y x:=(aP y x).2.2.1
def tN6 y x:=(aP y x).2.2.2.1
def oK y x:=(aP y x).2.2.2.2
def sY4 (y:FT)(x:AF):Bool:=
 true
def oK0:=li [(72,Br),(73,vI)] [(74,vI)] KB KC sP3 (λy x=>[ex 1 (some (tN6 y x)) [(2,vB)] ((sY4 y x),()),ex 8 (some (oK y x)) [] ()]) [[(2,vB)],[]]
def aQ (h:AN):Prop×Bool:=
 let c:=len h.2.2.2.1
 let d:=(h,len h.2.2.2.1,())
 let g:=(List.replicate (Int.toNat c) false,(0:Int),())
 let b:=rR2 d (A3 (FG d) (Ft d) g)
 let a:=(b,len b,())
 let f:=((0:Int),())
 let e:=A3 (KB a) (KC a) f
 ((0<=c/\c<=c/\c<=4294967296)/\AA (FG d) (Ft d) (sG7 d) g/\AA (KB a) (KC a) (sP3 a) f,cond (tN6 a e) (sY4 a e) false)
def pS2 a:=(aQ a).1
def f35 a:=(aQ a).2
theorem lU9:SK 35 (AS Ag vB pS2 f35):=fb Tryz.func35 81 [] [(3,nG),(5,nF9),(9,nF8),(19,oK0)] [(3,[(4,0,14,1003)])] false [] [14]
def aR (y:UI)(x:AF):Vm AF:=
 let c:=y.1
 let a:=x.1
 let e:Bool:=a<len c
 let d:Bool:=BP c a<33
 let b:=cond d true (BP c a>126)
 (e->A6 a (len c)/\(!d->A6 a (len c))/\(!b->A5 (a+1)),e&&(!b),(a+1,()),e&&b,!e)
def qX6 y x:=(aR y x).1
def rB6 y x:=(aR y x).2.1
def uV4 y x:=(aR y x).2.2.1
def qX7 y x:=(aR y x).2.2.2.1
def nG0 y x:=(aR y x).2.2.2.2
def rR4 (y:UI)(x:AF):Bool:=
 false
def nG1:=li [(0,vS)] [(3,vI)] rB6 uV4 qX6 (λy x=>[ex 1 (some (qX7 y x)) [(2,vB)] ((rR4 y x),()),ex 2 (some (nG0 y x)) [(0,vS)] (y.1,())]) [[(2,vB)],[(0,vS)]]
def aS (d:List UInt8):Prop×Bool:=
 let a:=(d,())
 let c:=((0:Int),())
 let b:=A3 (rB6 a) (uV4 a) c
 (AA (rB6 a) (uV4 a) (qX6 a) c,cond (qX7 a b) (rR4 a b) (cond (len d≥1) (decide (len d<=32)) false))
def nG2 a:=(aS a).1
def VA a:=(aS a).2
theorem lV:SK 66 (AS vS vB nG2 VA):=fb Tryz.func66 28 [] [(2,nG1)]
def aT (y:UI)(x:AF):Vm AF:=
 let c:=y.1
 let a:=x.1
 let e:Bool:=a<len c
 let d:Bool:=BP c a<32
 let b:=cond d true (BP c a>126)
 (e->A6 a (len c)/\(!d->A6 a (len c))/\(!b->A5 (a+1)),e&&(!b),(a+1,()),e&&b,!e)
def qX8 y x:=(aT y x).1
def rB7 y x:=(aT y x).2.1
def uV6 y x:=(aT y x).2.2.1
def qX9 y x:=(aT y x).2.2.2.1
def nG3 y x:=(aT y x).2.2.2.2
def rR6 (y:UI)(x:AF):Bool:=
 false
def nG4:=li [(0,vS)] [(3,vI)] rB7 uV6 qX8 (λy x=>[ex 1 (some (qX9 y x)) [(2,vB)] ((rR6 y x),()),ex 2 (some (nG3 y x)) [(0,vS)] (y.1,())]) [[(2,vB)],[(0,vS)]]
def aU (d:List UInt8):Prop×Bool:=
 let a:=(d,())
 let c:=((0:Int),())
 let b:=A3 (rB7 a) (uV6 a) c
 (AA (rB7 a) (uV6 a) (qX8 a) c,cond (qX9 a b) (rR6 a b) (cond (len d≥1) (decide (len d<=256)) false))
def nG5 a:=(aU a).1
def VB a:=(aU a).2
theorem lV0:SK 67 (AS vS vB nG5 VB):=fb Tryz.func67 28 [] [(2,nG4)]
abbrev uV7:Type:=((List C4)×Int×Unit)
def aV (y:uV7)(x:AF):Vm AF:=
 let f:=y.1
 let a:=x.1
 let b:Bool:=a<y.2.1
 let h:=nth f a DO
 let c:=!(VA h.1)
 let i:=nth f a DO
 let d:=!(VB i.2.1)
 let e:Bool:=a>0
 let j:=nth f a DO
 let k:=a-1
 let l:=nth f k DO
 let m:=cond e (Op.bytesLess j.1 l.1||j.1==l.1) false
 let g:=(!c)&&((!d)&&(!m))
 (b->A6 a (len f)/\nG2 h.1/\(!c->A6 a (len f)/\nG5 i.2.1/\(!d->(e->A6 a (len f))/\(e->A5 (a-1))/\(e->A6 k (len f))))/\(g->A5 (a+1)),b&&g,(a+1,()),b&&(c||((!c)&&(d||((!d)&&m)))),!b)
def rR8 y x:=(aV y x).1
def VC y x:=(aV y x).2.1
def VD y x:=(aV y x).2.2.1
def rR9 y x:=(aV y x).2.2.2.1
def nG6 y x:=(aV y x).2.2.2.2
def uV8 (y:uV7)(x:AF):Int:=
 let a:=y.1
 let b:=x.1
 (cond (!(VA (nth a b DO).1)) (13:Int) (cond (!(VB (nth a b DO).2.1)) (4:Int) (24:Int)))
def nG7:=li [(0,Bn),(8,vI)] [(9,vI)] VC VD rR8 (λy x=>[ex 1 (some (rR9 y x)) [(2,vI)] ((uV8 y x),()),ex 2 (some (nG6 y x)) [] ()]) [[(2,vI)],[]]
def aW (e:List C4):Prop×Int:=
 let c:Bool:=len e>16
 let a:=(e,len e,())
 let d:=((0:Int),())
 let b:=A3 (VC a) (VD a) d
 (!c->AA (VC a) (VD a) (rR8 a) d,cond c (3:Int) (cond (rR9 a b) (uV8 a b) (0:Int)))
def nG8 a:=(aW a).1
def f37 a:=(aW a).2
theorem lV1:SK 37 (AS Bn vI nG8 f37):=fb Tryz.func37 43 [kb lV,kb lV0] [(4,nG7)]
def f8t (p:AN):Prop×Int:=
 let d:=f6 p.1 p.2.1 p.2.2.1
 let e:=d.2.1 !=0
 let f:=cond (len p.2.2.2.1>64) true (len (Q0 p).1>8)
 let g:=cond (p.2.2.2.2.1<1) true (p.2.2.2.2.1>1073741824)
 let h:=EK p
 let i:=h==0
 let r:=cond i (KA p) h
 let j:=r==0
 let a:=cond j (RO p) r
 let k:=a==0
 let b:=cond k (aO p) a
 let l:=b !=0
 let m:=f35 p
 let n:=UH (Q1 p).1
 let o:=n !=0
 let q:=cond ((Q1 p).1.1 !=0) (cond ((Q1 p).1.1 !=p.1) true ((Q1 p).1.2.1 !=p.2.1)) false
 let c:=cond e d.2.1 (cond f (3:Int) (cond g (2:Int) (cond l b (cond m (11:Int) (cond o n (cond q (15:Int) (f37 (Q3 p).1)))))))
 (lO3 p.1 p.2.1 p.2.2.1/\(!e->!f->!g->nE0 p/\(i->nE6 p)/\(j->nF1 p)/\(k->nF7 p)/\(!l->pS2 p/\(!m->pR1 (Q1 p).1/\(!o->!q->nG8 (Q3 p).1)))),c)
def lA a:=(f8t a).1
def f8 a:=(f8t a).2
theorem kB5:SK 8 (AS Ag vI lA f8):=fb Tryz.func8 84 [kb kB4,kb lU2,kb lU4,kb lU6,kb lU8,kb lU9,kb mC9,kb lV1]
def aX (d:AN)(e:Int):Prop×Int:=
 let c:=Jp d e
 let a:Bool:=c<0
 let b:=cond a true (f8 d !=0)
 (tQ d e/\(!a->lA d)/\(!b->Rm d c),cond b (0:Int) (Jr d c))
def pS3 a b:=(aX a b).1
def VE a b:=(aX a b).2
def nU1:=BD Ag vI vI pS3 VE
theorem lV2:SK 21 (BD Ag vI vI pS3 VE):=fb Tryz.func21 19 [kb kB5,kb UB,kb mC8]
def f4t (l:AN)(m:Int):Prop×Bool:=
 let a:=BM l m==Jp l m
 let e:=Lq l m
 let f:=oX8 l m
 let b:=cond a (HQ e f) false
 let g:=sU l m
 let h:=UF l m
 let c:=cond b (HQ g h) false
 let i:=Ol l m
 let j:=oY7 l m
 let d:=cond c (HQ i j) false
 let k:=cond d (QN l m==VE l m) false
 (Ho l m/\tQ l m/\(a->Oj l m)/\(a->rK5 l m)/\(a->Jo e f)/\(b->sB6 l m)/\(b->sC1 l m)/\(b->Jo g h)/\(c->sC2 l m)/\(c->rK9 l m)/\(c->Jo i j)/\(d->QM l m)/\(d->pS3 l m)/\(k->UA),cond k Y8 false)
def f4_ok a b:=(f4t a b).1
def f4 a b:=(f4t a b).2
def lA0:=BD Ag vI vB f4_ok f4
def lV3:=Cy [(10,nT2),(11,pQ4),(12,nT3),(13,nQ4),(14,pH2),(15,pH4),(16,pH3),(17,pH7),(18,pH8),(19,pH9),(20,nQ6),(21,nU1)] [] [] 51
theorem f4_is:SK 4 lA0:=fq (c:=lV3) Tryz.func4 ⟨lO0,Oi,UB,mC2,rJ1,oX9,oX3,oY3,oY5,oY8,mC4,lV2,trivial⟩
end Go.Proofs.YtgjdonlgingdeaaGreatDoor.Am
