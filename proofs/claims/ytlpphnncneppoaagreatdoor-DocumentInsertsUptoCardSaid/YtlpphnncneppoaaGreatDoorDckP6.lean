/- Printed by program, part 6. No condition. -/
import Derived.Test.YtlpphnncneppoaaGreatDoorDckP5
set_option linter.unusedVariables false
set_option synthInstance.maxSize 4000
set_option synthInstance.maxHeartbeats 400000
namespace Go.Proofs.YtlpphnncneppoaaGreatDoor.Am
open Go Go.Am Go.Proofs
open _root_.List (length set take)
def lU (p:AJ):Prop×AJ:=
 let q:=((0:Int),(0:Int),([]:List Int),())
 let d:=((0:Int),(0:Int),(0:Int),([]:List UInt8),false,false,false,(0:Int),(0:Int),q,(Q2 p))
 let e:=((0:Int),(0:Int),(0:Int),([]:List UInt8),false,false,false,(0:Int),(0:Int),q,((0:Int),(0:Int),(0:Int),(0:Int),(0:Int),(0:Int),()),(Q7 p))
 let b:=cond (H0 p.2.1) e d
 let f:=(Vb b 0 (Q6 b))
 let a:=cond (H4 p.2.1) f b
 let g:=(Vc a (0,0,[],()) (Q9 a))
 let h:=(Vd a (0,0,0,0,()) (Qb a))
 let i:=(Ve a 0 ([],0,[],(Q8 a)))
 let j:=(Vd a (0,0,0,0,()) ((Qb a).1,(Qa a).1,(Qe a).1,(Qd a).1,[],0,0,0,0,(Qk a)))
 let k:=(Vd a (0,0,0,0,()) ((Qb a).1,(Qa a).1,(Qe a).1,(Qd a).1,(Q8 a).1,(Qi a).1,(Qc a).1,(Qf a).1,(Qg a).1,[],0,0,(Qh a)))
 let l:=(Ve a 0 ([],(Qe a).1,[],(Q8 a)))
 let m:=(Ve a 0 ([],(Qe a)))
 let r:=p.2.1==9
 let n:=(Vf a 0 ((Qj a).1,()))
 let o:=(Vg a (0,0,0,[],()) ())
 let c:=cond (p.2.1==6) k (cond (p.2.1==7) l (cond (p.2.1==8) m (cond (cond r r (p.2.1==10)) n (cond (p.2.1==11) o a))))
 (pH7 p.2.1/\pH9 p.2.1,cond (p.2.1==2) g (cond (p.2.1==3) h (cond (p.2.1==4) i (cond (p.2.1==5) j c))))
def pL4 a:=(lU a).1
def IM a:=(lU a).2
theorem lA8:SK 122 (AU Ay Ay pL4 IM):=fb Tryz.func122 75 [kb oU,kb oU8]
def ZR (o:AJ)(p q:Int):Prop×Int:=
 let e:=IC o p q
 let f:=e !=0
 let b:=H0 o.2.1
 let g:=DX (Q2 o).1
 let a:=g !=0
 let h:=IE (Q2 o).1
 let i:=h.2.1 !=0
 let j:=H4 o.2.1
 let k:=cond j (!(M7 (Q7 o).1)) false
 let l:=IL o
 let m:=l !=0
 let n:=IM o
 let d:=((0:Int),(0:Int),(0:Int),([]:List UInt8),false,false,false,(0:Int),(0:Int),((0:Int),(0:Int),([]:List Int),()),Lk,(0:Int),((0:Int),(0:Int),([]:List CP),()),Gn,(0:Int),([]:List Int),(0:Int),([]:List B0),([]:List A9),(0:Int),(0:Int),(0:Int),(0:Int),([]:List UInt8),(0:Int),(0:Int),(0:Int),((0:Int),(0:Int),(0:Int),([]:List A0),()),())
 let c:=cond f e (cond ((a||((!a)&&i))&&b) (cond a g h.2.1) (cond k 8 (cond m l (cond (!(J8 n d)) 1 0))))
 (pH6 o p q/\(!f->pH7 o.2.1/\(b->Oy (Q2 o).1/\(!a->pH8 (Q2 o).1))/\((cond b ((!a)&&(!i)) true)=true->pH9 o.2.1/\(j->oU9 (Q7 o).1)/\(!k->pL3 o/\(!m->pL4 o/\Ox n d)))),c)
def oX8 a b c:=(ZR a b c).1
def L8 a b c:=(ZR a b c).2
theorem lU0:SK 87 (DU Ay vI vI vI oX8 L8):=fb Tryz.func87 56 [kb nZ7,kb mT8,kb oU,kb qI5,kb mU2,kb oU8,kb mU4,kb lA7,kb lA8]
abbrev uS3:Type:=(Int×AM×Unit)
def ZS (y:uS3)(x:CU):Vm CU:=
 let a:=y.2.1
 let e:=x.1
 let h:=x.2.1
 let b:=cond (e≥0) (decide (h<=len a.2.2.2.1)) false
 let d:=(nth a.2.2.2.1 e AA).1==y.1
 let f:=(nth a.2.2.2.1 e AA).2.2.1==0
 let g:=nth a.2.2.2.1 e AA
 let c:=(!d)&&(!f)
 (b->A7 e (len a.2.2.2.1)/\(!d->A7 e (len a.2.2.2.1)/\(!f->A7 e (len a.2.2.2.1)/\Ov a g.2.2.1))/\(c->A6 (h+1)),b&&c,(Fu a g.2.2.1,h+1,()),b&&(d||((!d)&&f)),!b)
def rM2 y x:=(ZS y x).1
def Rx y x:=(ZS y x).2.1
def OF y x:=(ZS y x).2.2.1
def sD2 y x:=(ZS y x).2.2.2.1
def oX9 y x:=(ZS y x).2.2.2.2
def uS5 (y:uS3)(x:CU):Bool:=
 let a:=y.1
 (cond ((nth y.2.1.2.2.2.1 x.1 AA).1==a) true (a==0))
def oY:=li [(1,vI),(3,Ae)] [(2,vI),(7,vI)] Rx OF rM2 (λy x=>[ex 1 (some (sD2 y x)) [(6,vB)] ((uS5 y x),()),ex 2 (some (oX9 y x)) [(1,vI)] (y.1,())]) [[(6,vB)],[(1,vI)]]
def ZT (d:AM)(e f:Int):Prop×Bool:=
 let a:=(e,d,())
 let c:=(f,(0:Int),())
 let b:=A3 (Rx a) (OF a) c
 (AB (Rx a) (OF a) (rM2 a) c,cond (sD2 a b) (uS5 a b) (e==0))
def oY0 a b c:=(ZT a b c).1
def ML a b c:=(ZT a b c).2
theorem lU1:SK 88 (DU Al vI vI vB oY0 ML):=fb Tryz.func88 46 [kb Y3] [(2,oY)]
def ZV (y:sE9)(x:CU):Vm CU:=
 let b:=y.1
 let f:=x.1
 let g:=x.2.1
 let a:=cond ((nth b.2.2.2.1 f AA).2.2.1 !=0) (decide (g<=len b.2.2.2.1)) false
 let d:=nth b.2.2.2.1 f AA
 let e:=Fu b d.2.2.1
 let c:Bool:=e<0
 (A7 f (len b.2.2.2.1)/\(a->A7 f (len b.2.2.2.1)/\Ov b d.2.2.1/\(!c->A6 (g+1))),a&&(!c),(e,g+1,()),a&&c,!a)
def rM4 y x:=(ZV y x).1
def OG y x:=(ZV y x).2.1
def MM y x:=(ZV y x).2.2.1
def rM5 y x:=(ZV y x).2.2.2.1
def oY1 y x:=(ZV y x).2.2.2.2
def rM6 (y:sE9)(x:CU):Int:=
 x.2.1
def rM7 (y:sE9)(x:CU):Int:=
 x.2.1
def oY2:=li [(2,Ae)] [(1,vI),(5,vI)] OG MM rM4 (λy x=>[ex 1 (some (rM5 y x)) [(4,vI)] ((rM6 y x),()),ex 2 (some (oY1 y x)) [(5,vI)] ((rM7 y x),())]) [[(4,vI)],[(5,vI)]]
def ZW (d:AM)(e:Int):Prop×Int:=
 let a:=(d,())
 let c:=(e,(1:Int),())
 let b:=A3 (OG a) (MM a) c
 (AB (OG a) (MM a) (rM4 a) c,cond (rM5 a b) (rM6 a b) (rM7 a b))
def pQ5 a b:=(ZW a b).1
def OH a b:=(ZW a b).2
theorem lU2:SK 89 (BF Al vI vI pQ5 OH):=fb Tryz.func89 34 [kb Y3] [(2,oY2)]
def ZX (y:Ls)(x:AD):Vm AD:=
 let c:=y.1
 let q:=y.2.1
 let a:=x.1
 let d:Bool:=a<y.2.2.1
 let b:=nth q a AA
 let e:=L8 b c.1 c.2.1!=0
 let f:=cond (b.1<1) true (b.1≥c.2.2.2.2.1)
 let g:Bool:=Fu c b.1<a
 let h:=Fu c b.2.2.1
 let l:=b.2.2.1 !=0
 let m:=cond (h<0) true (h≥a)
 let i:=cond l (cond m true ((nth c.2.2.2.1 h AA).2.1 !=1)) false
 let n:=a-1
 let j:=!(ML c b.2.2.1 n)
 let o:Bool:=OH c a>8
 let k:=(!e)&&((!f)&&((!g)&&((!i)&&((!j)&&(!o)))))
 (d->A7 a (len q)/\oX8 b c.1 c.2.1/\(!e->!f->Ov c b.1/\(!g->Ov c b.2.2.1/\((l&&(!m))->A7 h (len c.2.2.2.1))/\(!i->A6 (a-1)/\oY0 c b.2.2.1 n/\(!j->pQ5 c a))))/\(k->A6 (a+1)),d&&k,(a+1,()),d&&(e||((!e)&&(f||((!f)&&(g||((!g)&&(i||((!i)&&(j||((!j)&&o)))))))))),!d)
def sD3 y x:=(ZX y x).1
def OI y x:=(ZX y x).2.1
def Vp y x:=(ZX y x).2.2.1
def ZY y x:=(ZX y x).2.2.2.1
def oY3 y x:=(ZX y x).2.2.2.2
def ZZ (y:Ls)(x:AD):Int:=
 let c:=y.1
 let b:=x.1
 let a:=nth y.2.1 b AA
 let f:=L8 a c.1 c.2.1
 let d:=Fu c a.2.2.1
 let e:=cond (cond (a.2.2.1 !=0) (cond (cond (d<0) true (d≥b)) true ((nth c.2.2.2.1 d AA).2.1 !=1)) false) (9:Int) (cond (!(ML c a.2.2.1 (b-1))) 24 12)
 (cond (f !=0) f (cond (cond (a.1<1) true (a.1≥c.2.2.2.2.1)) 2 (cond (Fu c a.1<b) 10 e)))
def oY4:=li [(1,Ae),(8,Ar),(9,vI)] [(10,vI)] OI Vp sD3 (λy x=>[ex 1 (some (ZY y x)) [(2,vI)] ((ZZ y x),()),ex 2 (some (oY3 y x)) [] ()]) [[(2,vI)],[]]
def aA (d:AM):Prop×Int:=
 let a:=(d,d.2.2.2.1,len d.2.2.2.1,())
 let c:=((0:Int),())
 let b:=A3 (OI a) (Vp a) c
 (AB (OI a) (Vp a) (sD3 a) c,cond (ZY a b) (ZZ a b) 0)
def oY5 a:=(aA a).1
def EL a:=(aA a).2
theorem lU3:SK 56 (AU Al vI oY5 EL):=fb Tryz.func56 77 [kb Y3,kb lU0,kb lU1,kb lU2] [(2,oY4)]
def aB (y:uS3)(x:AD):Vm AD:=
 let f:=y.1
 let c:=y.2.1
 let a:=x.1
 let e:Bool:=a≥0
 let d:=(nth c.2.2.2.1 a AA).2.2.1==(nth c.2.2.2.1 f AA).2.2.1
 let b:=cond d (!(nth c.2.2.2.1 a AA).2.2.2.2.2.2.1) false
 (e->A7 a (len c.2.2.2.1)/\A7 f (len c.2.2.2.1)/\(d->A7 a (len c.2.2.2.1))/\(!b->A6 (a-1)),e&&(!b),(a-1,()),e&&b,!e)
def rN y x:=(aB y x).1
def Vq y x:=(aB y x).2.1
def Vr y x:=(aB y x).2.2.1
def rN0 y x:=(aB y x).2.2.2.1
def oY6 y x:=(aB y x).2.2.2.2
def tT2 (y:uS3)(x:AD):Int:=
 x.1
def oY7:=li [(1,vI),(2,Ae)] [(5,vI)] Vq Vr rN (λy x=>[ex 1 (some (rN0 y x)) [(4,vI)] ((tT2 y x),()),ex 2 (some (oY6 y x)) [] ()]) [[(4,vI)],[]]
def aC (d:AM)(e:Int):Prop×Int:=
 let a:=(e,d,())
 let c:=(e-1,())
 let b:=A3 (Vq a) (Vr a) c
 (A6 (e-1)/\AB (Vq a) (Vr a) (rN a) c,cond (rN0 a b) (tT2 a b) (-1:Int))
def pQ6 a b:=(aC a b).1
def Ie a b:=(aC a b).2
theorem lU4:SK 90 (BF Al vI vI pQ6 Ie):=fb Tryz.func90 35 [] [(2,oY7)]
def aD (a:Int):Prop×Bool:=
 (True,cond (cond (cond (a≥1) (decide (a<=6)) false) true (a==9)) true (a==10))
def oY8 a:=(aD a).1
def JF a:=(aD a).2
theorem mA:SK 91 (AU vI vB oY8 JF):=fb Tryz.func91 17
def aE (y:Ls)(x:AD):Vm AD:=
 let i:=y.1
 let j:=y.2.1
 let d:=x.1
 let a:Bool:=d<y.2.2.1
 let b:=!(nth j d AA).2.2.2.2.2.2.1
 let e:=Ie i d
 let c:Bool:=e<0
 let g:=nth i.2.2.2.1 e AA
 let h:=!(JF g.2.1)
 let f:=b||((!b)&&((!c)&&(!h)))
 (a->A7 d (len j)/\(!b->pQ6 i d/\(!c->A7 e (len i.2.2.2.1)/\oY8 g.2.1))/\(f->A6 (d+1)),a&&f,(d+1,()),a&&((!b)&&(c||((!c)&&h))),!a)
def rN2 y x:=(aE y x).1
def MN y x:=(aE y x).2.1
def Ry y x:=(aE y x).2.2.1
def aF y x:=(aE y x).2.2.2.1
def oY9 y x:=(aE y x).2.2.2.2
def aG (y:Ls)(x:AD):Int:=
 (cond (Ie y.1 x.1<0) (14:Int) 8)
def oZ:=li [(1,Ae),(7,Ar),(8,vI)] [(9,vI)] MN Ry rN2 (λy x=>[ex 1 (some (aF y x)) [(2,vI)] ((aG y x),()),ex 2 (some (oY9 y x)) [] ()]) [[(2,vI)],[]]
def aH (d:AM):Prop×Int:=
 let a:=(d,d.2.2.2.1,len d.2.2.2.1,())
 let c:=((0:Int),())
 let b:=A3 (MN a) (Ry a) c
 (AB (MN a) (Ry a) (rN2 a) c,cond (aF a b) (aG a b) 0)
def oZ0 a:=(aH a).1
def KJ a:=(aH a).2
theorem lU5:SK 57 (AU Al vI oZ0 KJ):=fb Tryz.func57 31 [kb lU4,kb mA] [(2,oZ)]
def aI (y:NL)(x:AD):Vm AD:=
 let e:=y.1
 let a:=x.1
 let b:Bool:=a<y.2.1
 let d:Bool:=wD e a<33
 let c:=cond d true (wD e a>126)
 (b->A7 a (len e)/\(!d->A7 a (len e))/\(!c->A6 (a+1)),b&&(!c),(a+1,()),b&&c,!b)
def qT9 y x:=(aI y x).1
def qL2 y x:=(aI y x).2.1
def tT3 y x:=(aI y x).2.2.1
def qU y x:=(aI y x).2.2.2.1
def oZ1 y x:=(aI y x).2.2.2.2
def rN4 (y:NL)(x:AD):Bool:=
 false
def oZ2:=li [(0,vS),(13,vI)] [(14,vI)] qL2 tT3 qT9 (λy x=>[ex 1 (some (qU y x)) [(2,vB)] ((rN4 y x),()),ex 2 (some (oZ1 y x)) [] ()]) [[(2,vB)],[]]
def aJ (e:List UInt8):Prop×Bool:=
 let b:=cond (len e<1) true (len e>32)
 let a:=(e,len e,())
 let d:=((0:Int),())
 let c:=A3 (qL2 a) (tT3 a) d
 (!b->AB (qL2 a) (tT3 a) (qT9 a) d,cond b false (cond (qU a c) (rN4 a c) true))
def mA0 a:=(aJ a).1
def f92 a:=(aJ a).2
theorem lU6:SK 92 (AU vS vB mA0 f92):=fb Tryz.func92 28 [] [(4,oZ2)]
def aK (y:Ya)(x:AD):Vm AD:=
 let f:=y.2.1
 let d:=(Q1 y).1
 let a:=x.1
 let b:Bool:=a<(Q3 y).1
 let e:=nth d a CT
 let c:=cond (e.1==f.1) true (e.2.1==f.2.1)
 (b->A7 a (len d)/\(!c->A6 (a+1)),b&&(!c),(a+1,()),b&&c,!b)
def qU0 y x:=(aK y x).1
def sZ4 y x:=(aK y x).2.1
def uT0 y x:=(aK y x).2.2.1
def rN6 y x:=(aK y x).2.2.2.1
def qU1 y x:=(aK y x).2.2.2.2
def rN7 (y:Ya)(x:AD):Int:=
 10
def qU2:List (Nat×Sh):=[(1,Ae),(4,Cq),(9,Bf),(10,vI),(11,vI)]
def oZ3:=li [(1,Ae),(4,Cq),(9,Bf),(10,vI),(11,vI),(53,Bf),(54,vI)] [(55,vI)] sZ4 uT0 qU0 (λy x=>[ex 1 (some (rN6 y x)) [(2,vI)] ((rN7 y x),()),ex 4 (some (qU1 y x)) qU2 (y.1,y.2.1,y.2.2.1,y.2.2.2.1,y.2.2.2.2.1,())]) [[(2,vI)],qU2]
def aL (y:uP1)(x:AD):Vm AD:=
 let l:=y.1
 let m:=y.2.1
 let h:=y.2.2.1
 let b:=x.1
 let d:Bool:=b<h
 let a:=nth m b CT
 let e:=!(f92 a.2.1)
 let n:=cond (cond (cond (cond (a.1<1) true (a.1≥l.2.2.2.2.1)) true (a.2.2.1<0)) true (a.2.2.1>2)) true (a.2.2.2.1<1)
 let f:=cond n true (a.2.2.2.1>1073741824)
 let j:=take (Int.toNat b) (Q0 l).1
 let g:=(l,a,m,h,b,j,len j,())
 let q:=((0:Int),())
 let o:=A3 (sZ4 g) (uT0 g) q
 let c:=qU1 g o
 let k:=Ly a.2.2.2.2.1!=0
 let i:=(!e)&&((!f)&&(c&&(!k)))
 (d->A7 b (len m)/\mA0 a.2.1/\(!e->!f->(0<=b/\b<=len (Q0 l).1)/\AB (sZ4 g) (uT0 g) (qU0 g) q/\(c->U8 a.2.2.2.2.1))/\(i->A6 (b+1)),d&&i,(b+1,()),d&&(e||((!e)&&(f||((!f)&&(rN6 g o||(c&&k)))))),!d)
def rN9 y x:=(aL y x).1
def OJ y x:=(aL y x).2.1
def Vs y x:=(aL y x).2.2.1
def sD4 y x:=(aL y x).2.2.2.1
def oZ4 y x:=(aL y x).2.2.2.2
def uT2 (y:uP1)(x:AD):Int:=
 let f:=y.1
 let h:=y.2.1
 let b:=x.1
 let a:=nth h b CT
 let g:=cond (cond (cond (cond (a.1<1) true (a.1≥f.2.2.2.2.1)) true (a.2.2.1<0)) true (a.2.2.1>2)) true (a.2.2.2.1<1)
 let d:=take (Int.toNat b) (Q0 f).1
 let e:=(f,a,h,y.2.2.1,b,d,len d,())
 let i:=A3 (sZ4 e) (uT0 e) (0,())
 let c:=cond (!(f92 a.2.1)) 13 (cond (cond g true (a.2.2.2.1>1073741824)) 2 (cond (rN6 e i) (rN7 e i) (Ly a.2.2.2.2.1)))
 c
def oZ5:=li [(1,Ae),(9,Bf),(10,vI)] [(11,vI)] OJ Vs rN9 (λy x=>[ex 1 (some (sD4 y x)) [(2,vI)] ((uT2 y x),()),ex 2 (some (oZ4 y x)) [] ()]) [[(2,vI)],[]]
def aM (d:AM):Prop×Int:=
 let a:=(d,(Q0 d).1,len (Q0 d).1,())
 let c:=((0:Int),())
 let b:=A3 (OJ a) (Vs a) c
 (AB (OJ a) (Vs a) (rN9 a) c,cond (sD4 a b) (uT2 a b) 0)
def oZ6 a:=(aM a).1
def Rz a:=(aM a).2
theorem lU7:SK 58 (AU Al vI oZ6 Rz):=fb Tryz.func58 79 [kb lU6,kb nZ9] [(2,oZ5),(9,oZ3)]
abbrev uT3:Type:=(Int×(List C9)×Int×Unit)
def rO (y:uT3)(x:AD):Vm AD:=
 let d:=y.2.1
 let a:=x.1
 let b:Bool:=a<y.2.2.1
 let c:=(nth d a CT).1==y.1
 (b->A7 a (len d)/\(!c->A6 (a+1)),b&&(!c),(a+1,()),b&&c,!b)
def qU3 y x:=(rO y x).1
def qL3 y x:=(rO y x).2.1
def tT4 y x:=(rO y x).2.2.1
def qU4 y x:=(rO y x).2.2.2.1
def oZ7 y x:=(rO y x).2.2.2.2
def rO0 (y:uT3)(x:AD):Int:=
 x.1
def oZ8:=li [(1,vI),(8,Bf),(9,vI)] [(10,vI)] qL3 tT4 qU3 (λy x=>[ex 1 (some (qU4 y x)) [(4,vI)] ((rO0 y x),()),ex 2 (some (oZ7 y x)) [] ()]) [[(4,vI)],[]]
def aN (d:AM)(e:Int):Prop×Int:=
 let a:=(e,(Q0 d).1,len (Q0 d).1,())
 let c:=((0:Int),())
 let b:=A3 (qL3 a) (tT4 a) c
 (AB (qL3 a) (tT4 a) (qU3 a) c,cond (qU4 a b) (rO0 a b) (-1:Int))
def oZ9 a b:=(aN a b).1
def f94 a b:=(aN a b).2
theorem lU8:SK 94 (BF Al vI vI oZ9 f94):=fb Tryz.func94 21 [] [(2,oZ8)]
def aO (y:Ls)(x:AD):Vm AD:=
 let g:=y.1
 let m:=y.2.1
 let h:=x.1
 let b:Bool:=h<y.2.2.1
 let a:=nth m h AA
 let j:=a.2.1==9
 let c:=cond j (decide (f94 g (Qh a).1<0)) false
 let e:=a.2.1==10
 let f:=Fu g (Qh a).1
 let d:Bool:=f<0
 let k:=nth g.2.2.2.1 f AA
 let l:=!(JF k.2.1)
 let i:=(!c)&&(cond e ((!d)&&(!l)) true)
 (b->A7 h (len m)/\(j->oZ9 g (Qh a).1)/\(!c->e->Ov g (Qh a).1/\(!d->A7 f (len g.2.2.2.1)/\oY8 k.2.1))/\(i->A6 (h+1)),b&&i,(h+1,()),b&&(c||((!c)&&((d||((!d)&&l))&&e))),!b)
def rO2 y x:=(aO y x).1
def OK y x:=(aO y x).2.1
def Vt y x:=(aO y x).2.2.1
def aP y x:=(aO y x).2.2.2.1
def nA y x:=(aO y x).2.2.2.2
def aQ (y:Ls)(x:AD):Int:=
 let c:=y.1
 let a:=nth y.2.1 x.1 AA
 let b:=cond (cond (a.2.1==9) (decide (f94 c (Qh a).1<0)) false) (9:Int) (cond (Fu c (Qh a).1<0) 9 8)
 b
def nA0:=li [(1,Ae),(7,Ar),(8,vI)] [(9,vI)] OK Vt rO2 (λy x=>[ex 1 (some (aP y x)) [(2,vI)] ((aQ y x),()),ex 2 (some (nA y x)) [] ()]) [[(2,vI)],[]]
def aR (d:AM):Prop×Int:=
 let a:=(d,d.2.2.2.1,len d.2.2.2.1,())
 let c:=((0:Int),())
 let b:=A3 (OK a) (Vt a) c
 (AB (OK a) (Vt a) (rO2 a) c,cond (aP a b) (aQ a b) 0)
def nA1 a:=(aR a).1
def aS a:=(aR a).2
theorem lU9:SK 59 (AU Al vI nA1 aS):=fb Tryz.func59 41 [kb Y3,kb mA,kb lU8] [(2,nA0)]
abbrev sD5:Type:=(AM×(List Bool)×Int×AJ×Int×Int×(List AJ)×Int×Int×(List AJ)×Int×Unit)
abbrev uT5:Type:=(Bool×Int×Unit)
def pL5 (y:sD5)(x:uT5):Vn uT5:=
 let f:=y.2.1
 let e:=y.2.2.2.1
 let b:=(Q4 y).1
 let a:=x.2.1
 let c:Bool:=a<(Q2 y).1
 let d:=nth b a AA
 let g:=cond (!(nth f a false)) (cond (cond (e.2.1==1) (d.2.2.1==e.1) false) true (cond (e.2.1==10) (d.1==(Qh e).1) false)) false
 (c->A7 a (len b)/\A7 a (len f)/\a<len f/\A6 (a+1),c,(cond g false x.1,a+1,()))
def sD6 y x:=(pL5 y x).1
def MO y x:=(pL5 y x).2.1
def MP y x:=(pL5 y x).2.2
def rO3 (y:sD5)(x:uT5):Bool:=
 x.1
def qU5:List (Nat×Sh):=[(1,Ae),(3,Br),(4,vI),(6,vB),(17,vI),(18,vI),(21,Ar),(22,vI),(23,vI)]
def nA2:=li [(1,Ae),(3,Br),(4,vI),(5,(.box T42 Ay)),(17,vI),(18,vI),(21,Ar),(22,vI),(23,vI),(29,Ar),(30,vI)] [(6,vB),(31,vI)] MO MP sD6 (λy x=>[ex 6 none qU5 (y.1,y.2.1,y.2.2.1,(rO3 y x),y.2.2.2.2.1,(Q1 y).1,(Q3 y).1,(Q0 y).1,(Q5 y).1,())]) [qU5]
abbrev sD7:Type:=(AM×Int×Int×(List AJ)×Int×Unit)
def pL6 (y:sD7)(x:vC):Vn vC:=
 let h:=y.1
 let c:=y.2.2.2.1
 let e:=y.2.2.2.2.1
 let f:=x.1
 let a:=x.2.1
 let g:Bool:=a<e
 let d:=(h,f,a,nth c a AA,y.2.1,y.2.2.1,c,e,a,h.2.2.2.1,len h.2.2.2.1,())
 let i:=(true,(0:Int),())
 let b:=rO3 d (A3 (MO d) (MP d) i)
 (g->A7 a (len c)/\AB (MO d) (MP d) (sD6 d) i/\(b->A7 a (len f)/\a<len f)/\A6 (a+1),g,(cond b (set f (Int.toNat a) true) f,a+1,()))
def sD8 y x:=(pL6 y x).1
def R1 y x:=(pL6 y x).2.1
def OL y x:=(pL6 y x).2.2
def rO4 (y:sD7)(x:vC):(List Bool):=
 x.1
def qU6:List (Nat×Sh):=[(1,Ae),(3,Br),(17,vI),(18,vI)]
def nA3:=li [(1,Ae),(17,vI),(18,vI),(21,Ar),(22,vI)] [(3,Br),(23,vI)] R1 OL sD8 (λy x=>[ex 4 none qU6 (y.1,(rO4 y x),y.2.1,y.2.2.1,())]) [qU6]
abbrev sD9:Type:=(AM×Int×Unit)
def pL7 (y:sD9)(x:vC):Vn vC:=
 let e:=y.1
 let c:=y.2.1
 let a:=x.2.1
 let d:Bool:=a<c
 let b:=(e,c,a,e.2.2.2.1,len e.2.2.2.1,())
 let f:=(x.1,(0:Int),())
 (d->AB (R1 b) (OL b) (sD8 b) f/\A6 (a+1),d,(rO4 b (A3 (R1 b) (OL b) f),a+1,()))
def sE y x:=(pL7 y x).1
def FM y x:=(pL7 y x).2.1
def Fv y x:=(pL7 y x).2.2
def rO5 (y:sD9)(x:vC):(List Bool):=
 x.1
def nA4:=li [(1,Ae),(17,vI)] [(3,Br),(18,vI)] FM Fv sE (λy x=>[ex 2 none [(3,Br)] ((rO5 y x),())]) [[(3,Br)]]
def aT (y:vC)(x:AD):Vm AD:=
 let c:=y.1
 let a:=x.1
 let b:Bool:=a<y.2.1
 let d:=!(nth c a false)
 (b->A7 a (len c)/\a<len c/\(!d->A6 (a+1)),b&&(!d),(a+1,()),b&&d,!b)
def sN0 y x:=(aT y x).1
def MQ y x:=(aT y x).2.1
def MR y x:=(aT y x).2.2.1
def tM9 y x:=(aT y x).2.2.2.1
def oJ5 y x:=(aT y x).2.2.2.2
def sV9 (y:vC)(x:AD):Bool:=
 true
def oJ6:=li [(72,Br),(73,vI)] [(74,vI)] MQ MR sN0 (λy x=>[ex 1 (some (tM9 y x)) [(2,vB)] ((sV9 y x),()),ex 8 (some (oJ5 y x)) [] ()]) [[(2,vB)],[]]
def aU (h:AM):Prop×Bool:=
 let c:=len h.2.2.2.1
 let d:=(h,len h.2.2.2.1,())
 let g:=(List.replicate (Int.toNat c) false,(0:Int),())
 let b:=rO5 d (A3 (FM d) (Fv d) g)
 let a:=(b,len b,())
 let f:=((0:Int),())
 let e:=A3 (MQ a) (MR a) f
 ((0<=c/\c<=c/\c<=4294967296)/\AB (FM d) (Fv d) (sE d) g/\AB (MQ a) (MR a) (sN0 a) f,cond (tM9 a e) (sV9 a e) false)
def pQ7 a:=(aU a).1
def aV a:=(aU a).2
theorem lV:SK 60 (AU Al vB pQ7 aV):=fb Tryz.func60 81 [] [(3,nA4),(5,nA3),(9,nA2),(19,oJ6)] [(3,[(4,0,14,1003)])] false [] [14]
def aW (y:U0)(x:AD):Vm AD:=
 let c:=y.1
 let a:=x.1
 let e:Bool:=a<len c
 let d:Bool:=wD c a<33
 let b:=cond d true (wD c a>126)
 (e->A7 a (len c)/\(!d->A7 a (len c))/\(!b->A6 (a+1)),e&&(!b),(a+1,()),e&&b,!e)
def qU7 y x:=(aW y x).1
def sZ5 y x:=(aW y x).2.1
def uU y x:=(aW y x).2.2.1
def qU8 y x:=(aW y x).2.2.2.1
def nA5 y x:=(aW y x).2.2.2.2
def rO7 (y:U0)(x:AD):Bool:=
 false
def nA6:=li [(0,vS)] [(3,vI)] sZ5 uU qU7 (λy x=>[ex 1 (some (qU8 y x)) [(2,vB)] ((rO7 y x),()),ex 2 (some (nA5 y x)) [(0,vS)] (y.1,())]) [[(2,vB)],[(0,vS)]]
def aX (d:List UInt8):Prop×Bool:=
 let a:=(d,())
 let c:=((0:Int),())
 let b:=A3 (sZ5 a) (uU a) c
 (AB (sZ5 a) (uU a) (qU7 a) c,cond (qU8 a b) (rO7 a b) (cond (len d≥1) (decide (len d<=32)) false))
def nA7 a:=(aX a).1
def Vu a:=(aX a).2
theorem lV0:SK 95 (AU vS vB nA7 Vu):=fb Tryz.func95 28 [] [(2,nA6)]
def aY (y:U0)(x:AD):Vm AD:=
 let c:=y.1
 let a:=x.1
 let e:Bool:=a<len c
 let d:Bool:=wD c a<32
 let b:=cond d true (wD c a>126)
 (e->A7 a (len c)/\(!d->A7 a (len c))/\(!b->A6 (a+1)),e&&(!b),(a+1,()),e&&b,!e)
def qU9 y x:=(aY y x).1
def sZ6 y x:=(aY y x).2.1
def uU1 y x:=(aY y x).2.2.1
def qV y x:=(aY y x).2.2.2.1
def nA8 y x:=(aY y x).2.2.2.2
def rO9 (y:U0)(x:AD):Bool:=
 false
def nA9:=li [(0,vS)] [(3,vI)] sZ6 uU1 qU9 (λy x=>[ex 1 (some (qV y x)) [(2,vB)] ((rO9 y x),()),ex 2 (some (nA8 y x)) [(0,vS)] (y.1,())]) [[(2,vB)],[(0,vS)]]
def aZ (d:List UInt8):Prop×Bool:=
 let a:=(d,())
 let c:=((0:Int),())
 let b:=A3 (sZ6 a) (uU1 a) c
 (AB (sZ6 a) (uU1 a) (qU9 a) c,cond (qV a b) (rO9 a b) (cond (len d≥1) (decide (len d<=256)) false))
def nB a:=(aZ a).1
def Vv a:=(aZ a).2
theorem lV1:SK 96 (AU vS vB nB Vv):=fb Tryz.func96 28 [] [(2,nA9)]
abbrev uU2:Type:=((List C8)×Int×Unit)
def rP (y:uU2)(x:AD):Vm AD:=
 let f:=y.1
 let a:=x.1
 let b:Bool:=a<y.2.1
 let h:=nth f a DD
 let c:=!(Vu h.1)
 let i:=nth f a DD
 let d:=!(Vv i.2.1)
 let e:Bool:=a>0
 let j:=nth f a DD
 let k:=a-1
 let l:=nth f k DD
 let m:=cond e (Op.bytesLess j.1 l.1||j.1==l.1) false
 let g:=(!c)&&((!d)&&(!m))
 (b->A7 a (len f)/\nA7 h.1/\(!c->A7 a (len f)/\nB i.2.1/\(!d->(e->A7 a (len f))/\(e->A6 (a-1))/\(e->A7 k (len f))))/\(g->A6 (a+1)),b&&g,(a+1,()),b&&(c||((!c)&&(d||((!d)&&m)))),!b)
def rP0 y x:=(rP y x).1
def tN y x:=(rP y x).2.1
def Vw y x:=(rP y x).2.2.1
def rP1 y x:=(rP y x).2.2.2.1
def nB0 y x:=(rP y x).2.2.2.2
def uU3 (y:uU2)(x:AD):Int:=
 let a:=y.1
 let b:=x.1
 (cond (!(Vu (nth a b DD).1)) (13:Int) (cond (!(Vv (nth a b DD).2.1)) 4 24))
def nB1:=li [(0,Bn),(8,vI)] [(9,vI)] tN Vw rP0 (λy x=>[ex 1 (some (rP1 y x)) [(2,vI)] ((uU3 y x),()),ex 2 (some (nB0 y x)) [] ()]) [[(2,vI)],[]]
def bA (e:List C8):Prop×Int:=
 let c:Bool:=len e>16
 let a:=(e,len e,())
 let d:=((0:Int),())
 let b:=A3 (tN a) (Vw a) d
 (!c->AB (tN a) (Vw a) (rP0 a) d,cond c 3 (cond (rP1 a b) (uU3 a b) 0))
def nB2 a:=(bA a).1
def f62 a:=(bA a).2
theorem lV2:SK 62 (AU Bn vI nB2 f62):=fb Tryz.func62 43 [kb lV0,kb lV1] [(4,nB1)]
def bB (p:AM):Prop×Int:=
 let d:=Y0 p.1 p.2.1 p.2.2.1
 let e:=d.2.1 !=0
 let f:=cond (len p.2.2.2.1>64) true (len (Q0 p).1>8)
 let g:=cond (p.2.2.2.2.1<1) true (p.2.2.2.2.1>1073741824)
 let h:=EL p
 let i:=h==0
 let r:=cond i (KJ p) h
 let j:=r==0
 let a:=cond j (Rz p) r
 let k:=a==0
 let b:=cond k (aS p) a
 let l:=b !=0
 let m:=aV p
 let n:=Uz (Q1 p).1
 let o:=n !=0
 let q:=cond ((Q1 p).1.1 !=0) (cond ((Q1 p).1.1 !=p.1) true ((Q1 p).1.2.1 !=p.2.1)) false
 let c:=cond e d.2.1 (cond f 3 (cond g 2 (cond l b (cond m 11 (cond o n (cond q 15 (f62 (Q3 p).1)))))))
 (nZ6 p.1 p.2.1 p.2.2.1/\(!e->!f->!g->oY5 p/\(i->oZ0 p)/\(j->oZ6 p)/\(k->nA1 p)/\(!l->pQ7 p/\(!m->pP6 (Q1 p).1/\(!o->!q->nB2 (Q3 p).1)))),c)
def pQ8 a:=(bB a).1
def EZ a:=(bB a).2
theorem mA1:SK 19 (AU Al vI pQ8 EZ):=fb Tryz.func19 84 [kb lP,kb lU3,kb lU5,kb lU7,kb lU9,kb lV,kb nZ8,kb lV2]
def bD (c:AM):Prop×(AM×Int×Unit):=
 let a:=EZ c
 let b:=a !=0
 (pQ8 c,(cond b (0,0,0,[],0,(0,0,[],()),[],[],()) c,cond b a 0,()))
def nB3 a:=(bD a).1
def f22 a:=(bD a).2
theorem lV4:SK 22 (AU Al (.tup (.cons Al (.cons vI .nl))) nB3 f22):=fb Tryz.func22 12 [kb mA1]
def f37t (d:AM)(e:Int):Prop×Int:=
 let c:=e==0
 let a:=Fu d e
 let b:Bool:=a<0
 (!c->Ov d e/\(!b->A7 a (len d.2.2.2.1)),cond c (0:Int) (cond b 9 (cond ((nth d.2.2.2.1 a AA).2.1 !=1) 8 0)))
def hI8 a b:=(f37t a b).1
def f37 a b:=(f37t a b).2
theorem hK8:SK 37 (BF Al vI vI hI8 f37):=fb Tryz.func37 20 [kb Y3]
abbrev hA7:Type:=(Int×AM×(List Int)×Int×AJ×(List AJ)×Int×Int×(List Int)×Int×Unit)
def hB7 (y:hA7)(x:uT5):Vn uT5:=
 let e:=y.2.1
 let b:=(Q5 y).1
 let a:=x.2.1
 let c:Bool:=a<(Q4 y).1
 let d:=nth b a 0
 (c->A7 a (len b)/\A7 d (len e.2.2.2.1)/\A6 (a+1),c,(cond ((nth e.2.2.2.1 d AA).1==y.2.2.2.2.1.2.2.1) true x.1,a+1,()))
def hA8 y x:=(hB7 y x).1
def hA2 y x:=(hB7 y x).2.1
def hA1 y x:=(hB7 y x).2.2
def hB1 (y:hA7)(x:uT5):Bool:=
 x.1
def hB5:List (Nat×Sh):=[(1,vI),(2,Ae),(5,Aw),(6,vI),(8,vB),(12,Ar),(13,vI),(14,vI)]
def hC8:=li [(1,vI),(2,Ae),(5,Aw),(6,vI),(7,(.box T42 Ay)),(12,Ar),(13,vI),(14,vI),(23,Aw),(24,vI)] [(8,vB),(25,vI)] hA2 hA1 hA8 (λy x=>[ex 4 none hB5 (y.1,y.2.1,y.2.2.1,y.2.2.2.1,(hB1 y x),(Q1 y).1,(Q3 y).1,(Q0 y).1,())]) [hB5]
def hB8 (y:tZ3)(x:Gq):Vn Gq:=
 let j:=y.1
 let c:=y.2.2.1
 let f:=y.2.2.2.1
 let d:=x.1
 let a:=x.2.1
 let g:Bool:=a<f
 let h:=nth c a AA
 let e:=(j,y.2.1,d,a,h,c,f,a,d,len d,())
 let k:=(h.2.2.1==j,(0:Int),())
 let b:=hB1 e (A3 (hA2 e) (hA1 e) k)
 let i:=([a]:List Int)
 (g->A7 a (len c)/\AB (hA2 e) (hA1 e) (hA8 e) k/\(b->((length d+length i:Nat):Int)<=4294967296)/\A6 (a+1),g,(cond b (d++i) d,a+1,()))
def hB2 y x:=(hB8 y x).1
def hA6 y x:=(hB8 y x).2.1
def hA3 y x:=(hB8 y x).2.2
def hB3 (y:tZ3)(x:Gq):(List Int):=
 x.1
def hB6:List (Nat×Sh):=[(5,Aw)]
def hC9:=li [(1,vI),(2,Ae),(12,Ar),(13,vI)] [(5,Aw),(14,vI)] hA6 hA3 hB2 (λy x=>[ex 2 none hB6 ((hB3 y x),())]) [hB6]
def f68t (c:AM)(d:Int):Prop×(List Int):=
 let a:=(d,c,c.2.2.2.1,len c.2.2.2.1,())
 let b:=(([]:List Int),(0:Int),())
 (AB (hA6 a) (hA3 a) (hB2 a) b,hB3 a (A3 (hA6 a) (hA3 a) b))
def hC1 a b:=(f68t a b).1
def f68 a b:=(f68t a b).2
theorem hE4:SK 68 (BF Al vI Bh hC1 f68):=fb Tryz.func68 46 [] [(3,hC9),(7,hC8)] [(27,[(4,0,43,1005)]),(31,[(4,0,1005,0)])]
abbrev hH7:Type:=(Int×Int×AM×(List AJ)×Int×Unit)
abbrev hH6:Type:=(Int×Int×Int×Unit)
def hI4 (y:hH7)(x:hH6):Vn hH6:=
 let c:=y.2.2.2.1
 let e:=x.1
 let f:=x.2.1
 let a:=x.2.2.1
 let d:Bool:=a<y.2.2.2.2.1
 let b:=(nth c a AA).2.2.1==y.1
 (d->A7 a (len c)/\(b->A6 (e+1))/\A6 (a+1),d,(cond b (e+1) e,cond b (cond (e==y.2.1) a f) f,a+1,()))
def hH8 y x:=(hI4 y x).1
def hH4 y x:=(hI4 y x).2.1
def hH0 y x:=(hI4 y x).2.2
def hH9 (y:hH7)(x:hH6):Int:=
 x.1
def hI0 (y:hH7)(x:hH6):Int:=
 x.2.1
def hI2:List (Nat×Sh):=[(1,vI),(2,vI),(3,Ae),(8,vI),(9,vI)]
def hI9:=li [(1,vI),(2,vI),(3,Ae),(16,Ar),(17,vI)] [(8,vI),(9,vI),(18,vI)] hH4 hH0 hH8 (λy x=>[ex 2 none hI2 (y.1,y.2.1,y.2.2.1,(hH9 y x),(hI0 y x),())]) [hI2]
def f38t (i:AM)(j k:Int):Prop×(Int×Int×Unit):=
 let b:=(j,k,i,i.2.2.2.1,len i.2.2.2.1,())
 let h:=((0:Int),len i.2.2.2.1,(0:Int),())
 let g:=A3 (hH4 b) (hH0 b) h
 let a:=hH9 b g
 let c:=cond (k≥a) (j !=0) false
 let d:=Fu i j
 let e:=d+1
 let f:=len (f68 i j)
 (AB (hH4 b) (hH0 b) (hH8 b) h/\(c->Ov i j/\A6 (d+1)/\hC1 i j/\A6 (e+f)),(cond c (e+f) (hI0 b g),a,()))
def hJ0 a b c:=(f38t a b c).1
def f38 a b c:=(f38t a b c).2
theorem hK9:SK 38 (DU Al vI vI (.tup (.cons vI (.cons vI .nl))) hJ0 f38):=fb Tryz.func38 52 [kb Y3,kb hE4] [(4,hI9)]
def f39t (d:AM)(e:Int)(f:List AJ):Prop×AM:=
 let a:=take (Int.toNat e) d.2.2.2.1
 let b:=a++f
 let c:=List.drop (Int.toNat e) d.2.2.2.1
 ((0<=e/\e<=len d.2.2.2.1)/\(length a:Int)<=4294967296/\((length a+length f:Nat):Int)<=4294967296/\(0<=e/\e<=len d.2.2.2.1)/\((length b+length c:Nat):Int)<=4294967296,(d.1,d.2.1,d.2.2.1,b++c,d.2.2.2.2))
def hK5 a b c:=(f39t a b c).1
def f39 a b c:=(f39t a b c).2
theorem hL0:SK 39 (DU Al vI Ar Al hK5 f39):=fb Tryz.func39 25 [] [] [(5,[(4,0,13,1007)]),(7,[(4,0,16,1007)])]
def f13t (p:AM)(q:AJ)(r s:Int):Prop×(AM×Int×Int×Unit):=
 let k:=EZ p
 let l:=k==0
 let g:=cond l (f37 p r) k
 let a:=g !=0
 let d:=f38 p r s
 let b:=cond (s<0) true (s>d.2.1)
 let c:=cond (len p.2.2.2.1≥64) true (p.2.2.2.2.1≥1073741824)
 let o:=(p.2.2.2.2.1,q.2.1,r,q.2.2.2)
 let j:=(p.1,p.2.1,p.2.2.1,p.2.2.2.1,p.2.2.2.2.1+1,(Q1 p))
 let m:=([o]:List AJ)
 let n:=f39 j d.1 m
 let e:=f22 n
 let f:=e.2.1 !=0
 let h:=cond c (0,0,0,[],0,(0,0,[],()),[],[],()) (cond f (0,0,0,[],0,(0,0,[],()),[],[],()) e.1)
 let i:=cond a (0,0,0,[],0,(0,0,[],()),[],[],()) (cond b (0,0,0,[],0,(0,0,[],()),[],[],()) h)
 (pQ8 p/\(l->hI8 p r)/\(!a->hJ0 p r s/\(!b->!c->A6 (p.2.2.2.2.1+1)/\hK5 j d.1 m/\nB3 n)),(i,cond a 0 (cond b 0 (cond c 0 (cond f 0 p.2.2.2.2.1))),cond a g (cond b 2 (cond c 3 (cond f e.2.1 0))),()))
def hI6 a b c d:=(f13t a b c d).1
def f13 a b c d:=(f13t a b c d).2
def hJ9:=FA Al Ay vI vI (.tup (.cons Al (.cons vI (.cons vI .nl)))) hI6 f13
theorem hL3:SK 13 (FA Al Ay vI vI (.tup (.cons Al (.cons vI (.cons vI .nl)))) hI6 f13):=fb Tryz.func13 75 [kb mA1,kb lV4,kb hK8,kb hK9,kb hL0]
def f5t (d:AM)(e:D52):Prop×Bool:=
 let a:=bR d e.1 e.2.1 e.2.2.1
 let b:=f13 d e.1 e.2.1 e.2.2.1
 let c:=cond (f8 a.1 a.2.2.1 b.1 b.2.2.1) (a.2.1==b.2.1) false
 (RC d e.1 e.2.1 e.2.2.1/\hI6 d e.1 e.2.1 e.2.2.1/\oK a.1 a.2.2.1 b.1 b.2.2.1/\(c->VA),cond c f9 false)
def f5_ok a b:=(f5t a b).1
def f5 a b:=(f5t a b).2
def hK6:=BF Al (.val T52) vB f5_ok f5
def hL4:=Cy [(8,lB),(9,lB2),(12,hJ8),(13,hJ9)] [] [] 48
theorem f5_is:SK 5 hK6:=fq (c:=hL4) Tryz.func5 ⟨kB6,kB7,lW0,hL3,trivial⟩
end Go.Proofs.YtlpphnncneppoaaGreatDoor.Am
