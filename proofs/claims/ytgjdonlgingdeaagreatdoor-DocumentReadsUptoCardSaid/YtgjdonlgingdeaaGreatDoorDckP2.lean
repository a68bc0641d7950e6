/- Printed by program, part 2. No condition. -/
import Derived.Test.YtgjdonlgingdeaaGreatDoorDckL
set_option linter.unusedVariables false
set_option synthInstance.maxSize 4000
set_option synthInstance.maxHeartbeats 400000
namespace Go.Proofs.YtgjdonlgingdeaaGreatDoor.Am
open Go Go.Am Go.Proofs
open Go.IntKind (wrap)
open _root_.Int (sub tdiv tmod toNat)
open _root_.List (length replicate set)
def Pr :Prop×Int:=
 (True,(4:Int))
def Td :Prop:=(Pr).1
def f47 :Int:=(Pr).2
def nP7:Am.Spec:=fnSpec [] vI [] (λx=>Td ) (λx=>f47 ) (λ_=>())
theorem lI6:SK 47 (fnSpec [] vI [] (λx=>Td ) (λx=>f47 ) (λ_=>())):=fb Tryz.func47 1
def LX (c:AN):Prop×Int:=
 let a:=cond (cond (cond (c.1<1) true (c.1>256)) true (c.2.1<1)) true (c.2.1>256)
 let b:Bool:=c.2.2.1<0
 (!a->!b->Td,cond a (15:Int) (cond (cond b true (c.2.2.1≥f47)) (2:Int) (0:Int)))
def Ps a:=(LX a).1
def Jf a:=(LX a).2
def nP8:=AS Ag vI Ps Jf
def mI2:=Cy [(47,nP7)] [] [] 30
theorem mB4:SK 22 nP8:=fq (c:=mI2) Tryz.func22 ⟨lI6,trivial⟩
def f5t (e f g:Int):Prop×(AN×Int×Unit):=
 let b:=(e,f,g,([]:List AK),(1:Int),((0:Int),(0:Int),([]:List Int),()),([]:List C4),([]:List C5),())
 let c:=Jf b
 let a:=c !=0
 let d:=(cond a (0:Int) e,cond a (0:Int) f,cond a (0:Int) g,([]:List AK),cond a (0:Int) (1:Int),(cond a (0:Int) (0:Int),cond a (0:Int) (0:Int),([]:List Int),()),([]:List C4),([]:List C5),())
 (Ps b,(d,cond a c (0:Int),()))
def jX a b c:=(f5t a b c).1
def f5 a b c:=(f5t a b c).2
theorem lZ4:SK 5 (DR vI vI vI (.tup (.cons Ag (.cons vI .nl))) jX f5):=fb Tryz.func5 21 [kb mB4]
def Pt (a:Int):Prop×Bool:=
 (True,cond (a≥0) (decide (a<=65535)) false)
def WY a:=(Pt a).1
def f57 a:=(Pt a).2
theorem lI7:SK 57 (AS vI vB WY f57):=fb Tryz.func57 9
abbrev Ed:Type:=((List Int)×Int×Unit)
def Te (y:Ed)(x:AF):Vm AF:=
 let d:=y.1
 let a:=x.1
 let b:Bool:=a<y.2.1
 let e:=nth d a (0:Int)
 let c:=!(f57 e)
 (b->A6 a (len d)/\WY e/\(!c->A5 (a+1)),b&&(!c),(a+1,()),b&&c,!b)
def WZ y x:=(Te y x).1
def jY y x:=(Te y x).2.1
def jZ y x:=(Te y x).2.2.1
def qS8 y x:=(Te y x).2.2.2.1
def oN6 y x:=(Te y x).2.2.2.2
def rE5 (y:Ed)(x:AF):Int:=
 (2:Int)
def oN7:=li [(42,Ah),(43,vI)] [(44,vI)] jY jZ WZ (λy x=>[ex 1 (some (qS8 y x)) [(2,vI)] ((rE5 y x),()),ex 2 (some (oN6 y x)) [] ()]) [[(2,vI)],[]]
def Pu (g:HG):Prop×Int:=
 let b:=cond (cond (cond (g.1<0) true (g.1>256)) true (g.2.1<0)) true (g.2.1>256)
 let c:=!(Ty.eqb .bool (g.1==0) (g.2.1==0))
 let d:=cond c true (len g.2.2.1!=(g.1*g.2.1))
 let a:=(g.2.2.1,len g.2.2.1,())
 let f:=((0:Int),())
 let e:=A3 (jY a) (jZ a) f
 (!b->(!c->A5 (g.1*g.2.1))/\(!d->AA (jY a) (jZ a) (WZ a) f),cond b (15:Int) (cond d (15:Int) (cond (qS8 a e) (rE5 a e) (0:Int))))
def N8 a:=(Pu a).1
def JR a:=(Pu a).2
theorem mB5:SK 29 (AS Ch vI N8 JR):=fb Tryz.func29 52 [kb lI7] [(6,oN7)]
def Pv (a:AK):Prop×Bool:=
 (True,cond (cond (a.2.1==7) true (a.2.1==8)) true (a.2.1==11))
def Pw a:=(Pv a).1
def Jg a:=(Pv a).2
theorem oN8:SK 50 (AS Bc vB Pw Jg):=fb Tryz.func50 16
def nQ (o:Int):Prop×(List UInt8):=
 let l:=o==1
 let m:=o==2
 let n:=o==3
 let e:=o==4
 let f:=o==5
 let g:=o==6
 let h:=o==7
 let i:=o==8
 let j:=o==9
 let k:=o==10
 let c:=cond i ([102,105,108,116,101,114]:List UInt8) (cond j ([108,105,110,107]:List UInt8) (cond k ([99,108,111,110,101]:List UInt8) ([119,97,114,112]:List UInt8)))
 let d:=cond e ([103,114,97,100,105,101,110,116]:List UInt8) (cond f ([112,97,116,104]:List UInt8) (cond g ([116,101,120,116]:List UInt8) (cond h ([97,100,106,117,115,116]:List UInt8) c)))
 let b:=cond n true (cond e true (cond f true (cond g true (cond h true (cond i true (cond j true (cond k true (o==11))))))))
 let a:=cond (cond l true (cond m true b)) (cond l ([103,114,111,117,112]:List UInt8) (cond m ([105,109,97,103,101]:List UInt8) (cond n ([102,105,108,108]:List UInt8) d))) ([]:List UInt8)
 (True,a)
def pB5 a:=(nQ a).1
def Hg a:=(nQ a).2
theorem mI3:SK 113 (AS vI vS pB5 Hg):=fb Tryz.func113 26
abbrev N9:Type:=((List UInt8)×Int×Unit)
def Xa (y:N9)(x:AF):Vm AF:=
 let e:=y.1
 let a:=x.1
 let b:Bool:=a<y.2.1
 let d:Bool:=BP e a<33
 let c:=cond d true (BP e a>126)
 (b->A6 a (len e)/\(!d->A6 a (len e))/\(!c->A5 (a+1)),b&&(!c),(a+1,()),b&&c,!b)
def rU9 y x:=(Xa y x).1
def Tf y x:=(Xa y x).2.1
def Tg y x:=(Xa y x).2.2.1
def rV y x:=(Xa y x).2.2.2.1
def oA0 y x:=(Xa y x).2.2.2.2
def sQ6 (y:N9)(x:AF):Bool:=
 false
def oA1:=li [(0,vS),(13,vI)] [(14,vI)] Tf Tg rU9 (λy x=>[ex 1 (some (rV y x)) [(2,vB)] ((sQ6 y x),()),ex 2 (some (oA0 y x)) [] ()]) [[(2,vB)],[]]
def lI8 (e:List UInt8):Prop×Bool:=
 let b:=cond (len e<1) true (len e>32)
 let a:=(e,len e,())
 let d:=((0:Int),())
 let c:=A3 (Tf a) (Tg a) d
 (!b->AA (Tf a) (Tg a) (rU9 a) d,cond b false (cond (rV a c) (sQ6 a c) true))
def pB6 a:=(lI8 a).1
def LY a:=(lI8 a).2
theorem mI4:SK 114 (AS vS vB pB6 LY):=fb Tryz.func114 28 [] [(4,oA1)]
def lI9 (a:Int):Prop×Bool:=
 (True,cond (a≥0) (decide (a<=1073741824)) false)
def j6 a:=(lI9 a).1
def Px a:=(lI9 a).2
theorem mI5:SK 115 (AS vI vB j6 Px):=fb Tryz.func115 9
def lJ (a:Int):Prop×Bool:=
 (True,cond (a≥0) (decide (a<=65535)) false)
def pB7 a:=(lJ a).1
def Xb a:=(lJ a).2
theorem mI6:SK 116 (AS vI vB pB7 Xb):=fb Tryz.func116 9
def lJ0 (a:Int):Prop×Bool:=
 (True,cond (a≥0) (decide (a<18)) false)
def pB8 a:=(lJ0 a).1
def Py a:=(lJ0 a).2
theorem mI7:SK 117 (AS vI vB pB8 Py):=fb Tryz.func117 9
def Pz (k:AK)(l m:Int):Prop×Int:=
 let b:=cond (cond (cond (l<1) true (l>256)) true (m<1)) true (m>256)
 let c:=Hg k.2.1==([]:List UInt8)
 let d:=!(LY k.2.2.2.1)
 let e:=!(Px k.1)
 let f:=cond e true (!(Px k.2.2.1))
 let g:=cond f true (!(Xb (Q0 k).1))
 let h:=!(Py (Q5 k).1)
 let i:=cond h true (cond (Jg k) ((Q5 k).1 !=0) false)
 let j:=JR (Q4 k).1
 let a:=cond (j !=0) j (cond (cond ((Q4 k).1.1 !=0) (cond ((Q4 k).1.1 !=l) true ((Q4 k).1.2.1 !=m)) false) (15:Int) (0:Int))
 (!b->pB5 k.2.1/\(!c->pB6 k.2.2.2.1/\(!d->j6 k.1/\(!e->j6 k.2.2.1)/\(!f->pB7 (Q0 k).1)/\(!g->pB8 (Q5 k).1/\(!h->Pw k)/\(!i->N8 (Q4 k).1)))),cond b (15:Int) (cond c (8:Int) (cond d (13:Int) (cond g (2:Int) (cond i (8:Int) a)))))
def oN9 a b c:=(Pz a b c).1
def Lb a b c:=(Pz a b c).2
theorem lJ1:SK 80 (DR Bc vI vI vI oN9 Lb):=fb Tryz.func80 83 [kb mB5,kb oN8,kb mI3,kb mI4,kb mI5,kb mI6,kb mI7]
def P0 (e:Int):Prop×Bool:=
 let a:=e==2
 let b:=e==5
 let c:=e==6
 let d:=e==9
 (True,cond (cond a a (cond b b (cond c c (cond d d (e==10))))) true false)
def j7 a:=(P0 a).1
def NA a:=(P0 a).2
theorem mB6:SK 81 (AS vI vB j7 NA):=fb Tryz.func81 10
def oO (a b c:Int):Prop×Int:=
 (True,G9 c (G8 a b))
def NB a b c:=(oO a b c).1
def DE a b c:=(oO a b c).2
theorem pB9:SK 194 (DR vI vI vI vI NB DE):=fb Tryz.func194 12 [] [] [] true
def lJ2 (a:Int):Prop×Int:=
 (NB a (-16777216:Int) (16777216:Int),DE a (-16777216:Int) (16777216:Int))
def Th a:=(lJ2 a).1
def JS a:=(lJ2 a).2
theorem mI8:SK 155 (AS vI vI Th JS):=fb Tryz.func155 5 [kb pB9]
def lJ3 (a:Int):Prop×Int:=
 (NB a (-1099511627776:Int) (1099511627776:Int),DE a (-1099511627776:Int) (1099511627776:Int))
def NC a:=(lJ3 a).1
def Gk a:=(lJ3 a).2
theorem oO0:SK 156 (AS vI vI NC Gk):=fb Tryz.func156 5 [kb pB9] [] [] true
def lJ4 (a:C3):Prop×C3:=
 (Th a.1/\Th a.2.1/\Th a.2.2.1/\Th a.2.2.2.1/\NC a.2.2.2.2.1/\NC (Q1 a).1,(JS a.1,JS a.2.1,JS a.2.2.1,JS a.2.2.2.1,Gk a.2.2.2.2.1,Gk (Q1 a).1,()))
def j8 a:=(lJ4 a).1
def JT a:=(lJ4 a).2
theorem oO1:SK 118 (AS Az Az j8 JT):=fb Tryz.func118 22 [kb mI8,kb oO0] [] [] true
def Xc (a:C3):Prop×Int:=
 (j8 a,cond (!(Ty.eqb HH a (JT a))) (2:Int) (0:Int))
def ND a:=(Xc a).1
def ES a:=(Xc a).2
theorem j9:SK 82 (AS Az vI ND ES):=fb Tryz.func82 7 [kb oO1]
def mI9 (d e f g:Int):Prop×Int:=
 let a:=f157 e (65536:Int)
 let b:=f157 g (65536:Int)
 let c:=wrap .i64 (wrap .i64 (d*wrap .i64 (e-(wrap .i64 (a*65536))))+wrap .i64 (f*wrap .i64 (g-(wrap .i64 (b*65536)))))
 (Pp e (65536:Int)/\Pp g (65536:Int)/\Eh c (65536:Int),wrap .i64 (wrap .i64 (wrap .i64 (d*a)+wrap .i64 (f*b))+AO c (65536:Int)))
def Ti a b c d:=(mI9 a b c d).1
def Hh a b c d:=(mI9 a b c d).2
theorem oO2:SK 120 (Gi vI vI vI vI vI Ti Hh):=fb Tryz.func120 37 [kb JQ,kb oM9] [] [] true
def P1 (p:C3):Prop×(C3×Int×Unit):=
 let v:=ES p
 let c:=v !=0
 let a:=wrap .i64 (wrap .i64 (p.1*p.2.2.2.1)-(wrap .i64 (p.2.1*p.2.2.1)))
 let d:=a==0
 let l:=wrap .i64 (p.2.2.2.1*4294967296)
 let e:=AO l a
 let m:=wrap .i64 (wrap .i64 (sub 0 p.2.1)*4294967296)
 let f:=AO m a
 let n:=wrap .i64 (wrap .i64 (sub 0 p.2.2.1)*4294967296)
 let g:=AO n a
 let o:=wrap .i64 (p.1*4294967296)
 let h:=AO o a
 let k:=(e,f,g,h,(0:Int),(0:Int),())
 let i:=ES k !=0
 let q:=wrap .i64 (sub 0 e)
 let r:=wrap .i64 (sub 0 g)
 let s:=wrap .i64 (sub 0 f)
 let t:=wrap .i64 (sub 0 h)
 let b:=(e,f,g,h,Hh q p.2.2.2.2.1 r (Q1 p).1,Hh s p.2.2.2.2.1 t (Q1 p).1,())
 let u:=ES b !=0
 let j:=cond d ((0:Int),(0:Int),(0:Int),(0:Int),(0:Int),(0:Int),()) (cond i ((0:Int),(0:Int),(0:Int),(0:Int),(0:Int),(0:Int),()) (cond u ((0:Int),(0:Int),(0:Int),(0:Int),(0:Int),(0:Int),()) b))
 (ND p/\(!c->!d->Eh l a/\Eh m a/\Eh n a/\Eh o a/\ND k/\(!i->Ti q p.2.2.2.2.1 r (Q1 p).1/\Ti s p.2.2.2.2.1 t (Q1 p).1/\ND b)),(cond c ((0:Int),(0:Int),(0:Int),(0:Int),(0:Int),(0:Int),()) j,cond c v (cond d (17:Int) (cond i (17:Int) (cond u (17:Int) (0:Int)))),()))
def oO3 a:=(P1 a).1
def Tj a:=(P1 a).2
theorem lJ5:SK 83 (AS Az (.tup (.cons Az (.cons vI .nl))) oO3 Tj):=fb Tryz.func83 83 [kb j9,kb JQ,kb oO2] [] [] true
def P2 (d:Int):Prop×Bool:=
 let a:=d==2
 let b:=d==9
 let c:=d==10
 (True,cond (cond a a (cond b b (cond c c (d==11)))) true false)
def k7 a:=(P2 a).1
def NF a:=(P2 a).2
theorem mB7:SK 84 (AS vI vB k7 NF):=fb Tryz.func84 9
def Xd (a:Int):Prop×Bool:=
 (True,cond (a≥0) (decide (a<=4)) false)
def oO4 a:=(Xd a).1
def k8 a:=(Xd a).2
theorem lJ6:SK 85 (AS vI vB oO4 k8):=fb Tryz.func85 9
def LZ (a b:Int):Prop×Bool:=
 (True,cond (cond (cond (cond (a≥0) (decide (a<=256)) false) (decide (b≥0)) false) (decide (b<=256)) false) (Ty.eqb .bool (a==0) (b==0)) false)
def Xe a b:=(LZ a b).1
def Tk a b:=(LZ a b).2
theorem lJ7:SK 89 (BD vI vI vB Xe Tk):=fb Tryz.func89 26
def mJ (a:Int):Prop×Int:=
 (NB a (0:Int) (65535:Int),DE a (0:Int) (65535:Int))
def NG a:=(mJ a).1
def JU a:=(mJ a).2
theorem mJ0:SK 172 (AS vI vI NG JU):=fb Tryz.func172 5 [kb pB9]
def mJ1 (a:CE):Prop×CE:=
 (NG a.1/\NG a.2.1/\NG a.2.2.1/\NG a.2.2.2.1,(JU a.1,JU a.2.1,JU a.2.2.1,JU a.2.2.2.1,()))
def Xf a:=(mJ1 a).1
def Xg a:=(mJ1 a).2
theorem mJ2:SK 128 (AS Ci Ci Xf Xg):=fb Tryz.func128 16 [kb mJ0]
def P3 (a:CE):Prop×Bool:=
 (Xf a,Ty.eqb GM a (Xg a))
def NH a:=(P3 a).1
def NI a:=(P3 a).2
theorem l5:SK 90 (AS Ci vB NH NI):=fb Tryz.func90 7 [kb mJ2]
abbrev uO:Type:=((List CE)×Int×Unit)
def Tl (y:uO)(x:AF):Vm AF:=
 let d:=y.1
 let a:=x.1
 let b:Bool:=a<y.2.1
 let e:=nth d a JK
 let c:=!(NI e)
 (b->A6 a (len d)/\NH e/\(!c->A5 (a+1)),b&&(!c),(a+1,()),b&&c,!b)
def Xh y x:=(Tl y x).1
def l6 y x:=(Tl y x).2.1
def l7 y x:=(Tl y x).2.2.1
def qT y x:=(Tl y x).2.2.2.1
def oO5 y x:=(Tl y x).2.2.2.2
def rE8 (y:uO)(x:AF):Int:=
 (2:Int)
def oO6:=li [(23,Dy),(24,vI)] [(25,vI)] l6 l7 Xh (λy x=>[ex 1 (some (qT y x)) [(2,vI)] ((rE8 y x),()),ex 2 (some (oO5 y x)) [] ()]) [[(2,vI)],[]]
def P4 (f:Im):Prop×Int:=
 let b:=!(Tk f.1 f.2.1)
 let c:=cond b true (len f.2.2.1!=(f.1*f.2.1))
 let a:=(f.2.2.1,len f.2.2.1,())
 let e:=((0:Int),())
 let d:=A3 (l6 a) (l7 a) e
 (Xe f.1 f.2.1/\(!b->A5 (f.1*f.2.1))/\(!c->AA (l6 a) (l7 a) (Xh a) e),cond c (15:Int) (cond (qT a d) (rE8 a d) (0:Int)))
def P5 a:=(P4 a).1
def Lc a:=(P4 a).2
theorem mB8:SK 52 (AS Cw vI P5 Lc):=fb Tryz.func52 33 [kb lJ7,kb l5] [(4,oO6)]
def lJ8 (a:CE):Prop×Int:=
 (NH a,cond (!(NI a)) (2:Int) (0:Int))
def Tm a:=(lJ8 a).1
def Hj a:=(lJ8 a).2
def oO7:=AS Ci vI Tm Hj
theorem pC0:SK 121 (AS Ci vI Tm Hj):=fb Tryz.func121 6 [kb l5]
def mJ3 (a b:Int):Prop×Bool:=
 (True,cond (a==1) (b==4) (b==3))
def pC1 a b:=(mJ3 a b).1
def f195 a b:=(mJ3 a b).2
theorem mJ4:SK 195 (BD vI vI vB pC1 f195):=fb Tryz.func195 11
abbrev vW8:Type:=(Int×(List Int)×(List Int)×Int×Unit)
def Xi (y:vW8)(x:AF):Vm AF:=
 let d:=y.2.2.1
 let a:=x.1
 let b:Bool:=a<y.2.2.2.1
 let e:=nth d a (0:Int)
 let c:=cond (e<(-1048576)) true (e>1048576)
 (b->A6 a (len d)/\(!c->A5 (a+1)),b&&(!c),(a+1,()),b&&c,!b)
def rV0 y x:=(Xi y x).1
def l8 y x:=(Xi y x).2.1
def l9 y x:=(Xi y x).2.2.1
def rV1 y x:=(Xi y x).2.2.2.1
def rV2 y x:=(Xi y x).2.2.2.2
def sQ9 (y:vW8)(x:AF):Int:=
 (2:Int)
def rV3:List (Nat×Sh):=[(0,vI),(1,Ah)]
def oA2:=li [(0,vI),(1,Ah),(36,Ah),(37,vI)] [(38,vI)] l8 l9 rV0 (λy x=>[ex 1 (some (rV1 y x)) [(8,vI)] ((sQ9 y x),()),ex 2 (some (rV2 y x)) rV3 (y.1,y.2.1,())]) [[(8,vI)],rV3]
def lJ9 (j:Int)(k:List Int)(l m:Int):Prop×Int:=
 let c:=cond (cond (cond (j<1) true (j>4)) true (l<0)) true (l>2)
 let d:=len k
 let e:=cond (!(f195 j d)) true (m==0)
 let f:Bool:=m>16
 let a:=(j,k,k,len k,())
 let i:=((0:Int),())
 let h:=A3 (l8 a) (l9 a) i
 let g:=cond (j==2) true (j==4)
 let b:=cond e (1:Int) (cond f (3:Int) (cond (rV1 a h) (sQ9 a h) (cond (cond g (decide (nth k (2:Int) (0:Int)<0)) false) (2:Int) (0:Int))))
 (!c->pC1 j d/\(!e->!f->AA (l8 a) (l9 a) (rV0 a) i/\(rV2 a h->g->A6 (2:Int) (len k))),cond c (8:Int) b)
def pC2 a b c d:=(lJ9 a b c d).1
def JV a b c d:=(lJ9 a b c d).2
theorem mJ5:SK 158 (Gi vI Ah vI vI vI pC2 JV):=fb Tryz.func158 61 [kb mJ4] [(8,oA2)]
abbrev vW9:Type:=((List AX)×(List AX)×Int×Unit)
def P6 (y:vW9)(x:AF):Vm AF:=
 let j:=y.1
 let k:=y.2.1
 let c:=x.1
 let i:Bool:=c<y.2.2.1
 let a:=nth k c CO
 let f:=cond (a.1<0) true (a.1>65535)
 let b:=cond f true (!(NI a.2.1))
 let d:Bool:=c>0
 let g:=c-1
 let h:=cond d (decide (a.1<=(nth j g CO).1)) false
 let e:=(!b)&&(!h)
 (i->A6 c (len k)/\(!f->NH a.2.1)/\(!b->(d->A5 (c-1))/\(d->A6 g (len j)))/\(e->A5 (c+1)),i&&e,(c+1,()),i&&(b||((!b)&&h)),!i)
def rV4 y x:=(P6 y x).1
def n4 y x:=(P6 y x).2.1
def uY5 y x:=(P6 y x).2.2.1
def sI6 y x:=(P6 y x).2.2.2.1
def oA3 y x:=(P6 y x).2.2.2.2
def uY6 (y:vW9)(x:AF):Int:=
 let a:=nth y.2.1 x.1 CO
 (cond (cond (cond (a.1<0) true (a.1>65535)) true (!(NI a.2.1))) (2:Int) (24:Int))
def oA4:=li [(0,Ap),(5,Ap),(6,vI)] [(7,vI)] n4 uY5 rV4 (λy x=>[ex 1 (some (sI6 y x)) [(2,vI)] ((uY6 y x),()),ex 2 (some (oA3 y x)) [] ()]) [[(2,vI)],[]]
def mJ6 (d:List AX):Prop×Int:=
 let a:=(d,d,len d,())
 let c:=((0:Int),())
 let b:=A3 (n4 a) (uY5 a) c
 (AA (n4 a) (uY5 a) (rV4 a) c,cond (sI6 a b) (uY6 a b) (0:Int))
def n5 a:=(mJ6 a).1
def JW a:=(mJ6 a).2
theorem mJ7:SK 159 (AS Ap vI n5 JW):=fb Tryz.func159 40 [kb l5] [(2,oA4)]
def lK (d:Int)(e:List Int)(f:Int)(g:List AX):Prop×Int:=
 let a:=len g
 let b:=JV d e f a
 let c:=b !=0
 (pC2 d e f a/\(!c->n5 g),cond c b (JW g))
def pC3 a b c d:=(lK a b c d).1
def Ma a b c d:=(lK a b c d).2
theorem mJ8:SK 122 (Gi vI Ah vI Ap vI pC3 Ma):=fb Tryz.func122 21 [kb mJ5,kb mJ7]
def mJ9 (c:Int):Prop×Int:=
 let a:=c==3
 let b:=c==4
 (True,cond (cond a true (cond b true (c==5))) (cond a (2:Int) (cond b (3:Int) (0:Int))) (1:Int))
def n9 a:=(mJ9 a).1
def BO a:=(mJ9 a).2
theorem oO8:SK 197 (AS vI vI n9 BO):=fb Tryz.func197 10
def Xj (a:A0):Prop×Bool:=
 (True,cond (cond (cond (a.1<(-16777216)) true (a.1>16777216)) true (a.2.1<(-16777216))) true (a.2.1>16777216))
def Tn a:=(Xj a).1
def f199 a:=(Xj a).2
theorem pC4:SK 199 (AS Ar vB Tn f199):=fb Tryz.func199 21
abbrev vN2:Type:=((List A8)×Int×A8×(List A8)×Int×Int×(List A0)×Unit)
def P7 (y:vN2)(x:AF):Vm AF:=
 let f:=y.2.2.1
 let a:=x.1
 let b:Bool:=a<3
 let c:=nth (Q3 y).1 a A1
 let e:=f199 c
 let d:=cond e true (cond (a≥BO f.1) (!(Ty.eqb AQ c ((0:Int),(0:Int),()))) false)
 (b->A6 a 3/\Tn c/\(!e->n9 f.1)/\(!d->A5 (a+1)),b&&(!d),(a+1,()),b&&d,!b)
def o6 y x:=(P7 y x).1
def Iq y x:=(P7 y x).2.1
def Ld y x:=(P7 y x).2.2.1
def uK y x:=(P7 y x).2.2.2.1
def o7 y x:=(P7 y x).2.2.2.2
def o8 (y:vN2)(x:AF):Int:=
 (2:Int)
def rV5:List (Nat×Sh):=[(0,Aj),(3,vI),(4,Bi),(10,Aj),(11,vI),(12,vI)]
def oA5:=li [(0,Aj),(3,vI),(4,Bi),(10,Aj),(11,vI),(12,vI),(26,(.val (.arr 3 AQ)))] [(27,vI)] Iq Ld o6 (λy x=>[ex 1 (some (uK y x)) [(2,vI)] ((o8 y x),()),ex 4 (some (o7 y x)) rV5 (y.1,y.2.1,y.2.2.1,y.2.2.2.1,y.2.2.2.2.1,(Q1 y).1,())]) [[(2,vI)],rV5]
abbrev vX:Type:=((List A8)×(List A8)×Int×Unit)
def vM (y:vX)(x:AF):Vm AF:=
 let n:=y.1
 let f:=y.2.1
 let j:=y.2.2.1
 let a:=x.1
 let d:Bool:=a<j
 let c:=nth f a A4
 let e:=cond (c.1<1) true (c.1>5)
 let i:=(n,a,c,f,j,a,c.2.1,())
 let q:=((0:Int),())
 let o:=A3 (Iq i) (Ld i) q
 let b:=o7 i o
 let g:=c.1 !=1
 let h:=a==0
 let l:=a-1
 let m:=cond g (cond h true ((nth n l A4).1==5)) false
 let k:=(!e)&&(b&&(!m))
 (d->A6 a (len f)/\(!e->AA (Iq i) (Ld i) (o6 i) q/\(b->((g&&(!h))->A5 (a-1))/\((g&&(!h))->A6 l (len n))))/\(k->A5 (a+1)),d&&k,(a+1,()),d&&(e||((!e)&&(uK i o||(b&&m)))),!d)
def sI8 y x:=(vM y x).1
def Ir y x:=(vM y x).2.1
def Mb y x:=(vM y x).2.2.1
def P8 y x:=(vM y x).2.2.2.1
def oA6 y x:=(vM y x).2.2.2.2
def Xk (y:vX)(x:AF):Int:=
 let c:=y.2.1
 let b:=x.1
 let a:=nth c b A4
 let d:=(y.1,b,a,c,y.2.2.1,b,a.2.1,())
 let e:=A3 (Iq d) (Ld d) ((0:Int),())
 (cond (cond (a.1<1) true (a.1>5)) (8:Int) (cond (uK d e) (o8 d e) (24:Int)))
def oA7:=li [(0,Aj),(10,Aj),(11,vI)] [(12,vI)] Ir Mb sI8 (λy x=>[ex 1 (some (P8 y x)) [(2,vI)] ((Xk y x),()),ex 2 (some (oA6 y x)) [] ()]) [[(2,vI)],[]]
def mK (e:List A8):Prop×Int:=
 let c:Bool:=len e>128
 let a:=(e,e,len e,())
 let d:=((0:Int),())
 let b:=A3 (Ir a) (Mb a) d
 (!c->AA (Ir a) (Mb a) (sI8 a) d,cond c (3:Int) (cond (P8 a b) (Xk a b) (0:Int)))
def P9 a:=(mK a).1
def BH a:=(mK a).2
theorem o9:SK 196 (AS Aj vI P9 BH):=fb Tryz.func196 63 [kb oO8,kb pC4] [(4,oA7),(9,oA5)]
def lK0 (f:C3)(g:A0):Prop×A0:=
 let a:=JT f
 let b:=Gk g.1
 let c:=Gk g.2.1
 let d:=wrap .i64 (Hh a.1 b a.2.2.1 c+a.2.2.2.2.1)
 let e:=wrap .i64 (Hh a.2.1 b a.2.2.2.1 c+(Q1 a).1)
 (j8 f/\NC g.1/\NC g.2.1/\Ti a.1 b a.2.2.1 c/\NC d/\Ti a.2.1 b a.2.2.2.1 c/\NC e,(Gk d,Gk e,()))
def pC5 a b:=(lK0 a b).1
def JX a b:=(lK0 a b).2
theorem mK0:SK 226 (BD Az Ar Ar pC5 JX):=fb Tryz.func226 38 [kb oO1,kb oO2,kb oO0] [] [] true
def mK1 (b:C3)(c:A0):Prop×A0:=
 let s:=(wrap .i64 (4096*c.1),wrap .i64 (4096*c.2.1),())
 let a:=JX b s
 (pC5 b s/\Eh a.1 (4096:Int)/\Eh a.2.1 (4096:Int),(AO a.1 (4096:Int),AO a.2.1 (4096:Int),()))
def p7 a b:=(mK1 a b).1
def DP a b:=(mK1 a b).2
theorem oP:SK 198 (BD Az Ar Ar p7 DP):=fb Tryz.func198 22 [kb JQ,kb mK0] [] [] true
abbrev To:Type:=(C3×Int×A8×(List A8)×Int×Int×Int×Unit)
abbrev Ei:Type:=((List A8)×Int×Unit)
def Xl (y:To)(x:Ei):Vm Ei:=
 let h:=y.1
 let f:=y.2.1
 let e:=x.1
 let a:=x.2.1
 let b:Bool:=a<(Q3 y).1
 let g:=nth y.2.2.1.2.1 a A1
 let d:=DP h g
 let c:=f199 d
 (b->A6 a 3/\p7 h g/\Tn d/\(!c->A6 f (len e)/\A6 a 3/\f<len e)/\(!c->A5 (a+1)),b&&(!c),(set e (toNat f) ((nth e f A4).1,set (nth e f A4).2.1 (toNat a) d,()),a+1,()),b&&c,!b)
def Tp y x:=(Xl y x).1
def Ej y x:=(Xl y x).2.1
def Er y x:=(Xl y x).2.2.1
def Xm y x:=(Xl y x).2.2.2.1
def Le y x:=(Xl y x).2.2.2.2
def uO3 (y:To)(x:Ei):(List A8):=
 ([]:List A8)
def tW8 (y:To)(x:Ei):Int:=
 (2:Int)
def rF:List (Nat×Sh):=[(4,Bk),(5,vI)]
def tW9 (y:To)(x:Ei):(List A8):=
 x.1
def rF0:List (Nat×Sh):=[(3,Bp),(8,Cg),(26,Aj),(27,vI),(28,vI)]
def pC6:=li [(3,Bp),(9,vI),(10,Bi),(26,Aj),(27,vI),(28,vI),(41,vI)] [(8,Cg),(42,vI)] Ej Er Tp (λy x=>[ex 1 (some (Xm y x)) rF ((uO3 y x),(tW8 y x),()),ex 4 (some (Le y x)) rF0 (y.1,(tW9 y x),y.2.2.2.1,y.2.2.2.2.1,(Q1 y).1,())]) [rF,rF0]
abbrev Xn:Type:=(C3×(List A8)×Int×Unit)
def tX (y:Xn)(x:Ei):Vm Ei:=
 let f:=y.2.1
 let h:=y.2.2.1
 let j:=x.1
 let a:=x.2.1
 let d:Bool:=a<h
 let e:=nth f a A4
 let b:=(y.1,a,e,f,h,a,BO e.1,())
 let i:=(set j (toNat a) (e.1,(nth j a A4).2.1,()),(0:Int),())
 let g:=A3 (Ej b) (Er b) i
 let c:=Le b g
 (d->A6 a (len f)/\A6 a (len j)/\a<len j/\n9 e.1/\AA (Ej b) (Er b) (Tp b) i/\(c->A5 (a+1)),d&&c,(tW9 b g,a+1,()),d&&Xm b g,!d)
def NJ y x:=(tX y x).1
def wJ y x:=(tX y x).2.1
def F3 y x:=(tX y x).2.2.1
def NK y x:=(tX y x).2.2.2.1
def oA8 y x:=(tX y x).2.2.2.2
def p8 (y:Xn)(x:Ei):(List A8):=
 let d:=y.2.1
 let e:=x.1
 let a:=x.2.1
 let b:=nth d a A4
 let c:=(y.1,a,b,d,y.2.2.1,a,BO b.1,())
 (uO3 c (A3 (Ej c) (Er c) (set e (toNat a) (b.1,(nth e a A4).2.1,()),(0:Int),())))
def uY8 (y:Xn)(x:Ei):Int:=
 let d:=y.2.1
 let e:=x.1
 let a:=x.2.1
 let b:=nth d a A4
 let c:=(y.1,a,b,d,y.2.2.1,a,BO b.1,())
 (tW8 c (A3 (Ej c) (Er c) (set e (toNat a) (b.1,(nth e a A4).2.1,()),(0:Int),())))
def rV6:List (Nat×Sh):=[(4,Bk),(5,vI)]
def Xo (y:Xn)(x:Ei):(List A8):=
 x.1
def oA9:=li [(3,Bp),(26,Aj),(27,vI)] [(8,Cg),(28,vI)] wJ F3 NJ (λy x=>[ex 1 (some (NK y x)) rV6 ((p8 y x),(uY8 y x),()),ex 2 (some (oA8 y x)) [(8,Cg)] ((Xo y x),())]) [rV6,[(8,Cg)]]
def Mc (j:List A8)(k:C3):Prop×((List A8)×Int×Unit):=
 let f:=BH j
 let d:=f !=0
 let g:=ES k
 let e:=g !=0
 let a:=len j
 let b:=(k,j,len j,())
 let i:=(replicate (toNat a) A4,(0:Int),())
 let h:=A3 (wJ b) (F3 b) i
 let c:=NK b h
 (P9 j/\(!d->ND k/\(!e->(0<=a/\a<=a/\a<=4294967296)/\AA (wJ b) (F3 b) (NJ b) i)),(cond d [] (cond e [] (cond c (p8 b h) (Xo b h))),cond d f (cond e g (cond c (uY8 b h) (0:Int))),()))
def pC7 a b:=(Mc a b).1
def BQ a b:=(Mc a b).2
theorem mK2:SK 160 (BD Aj Az (.tup (.cons Aj (.cons vI .nl))) pC7 BQ):=fb Tryz.func160 63 [kb j9,kb o9,kb oO8,kb oP,kb pC4] [(9,oA9),(13,pC6)] [(15,[(4,0,25,1008)]),(43,[(1,4,0,0),(4,0,1008,0)])] false [] [25]
def qF9 (e:A0)(f:List A0):Prop×(Unit)×((List A0)×Unit):=
 let c:=len f
 let d:=c-1
 let a:=!(Ty.eqb AQ e (nth f d A1))
 let b:=([e]:List A0)
 (A5 (c-1)/\A6 d (len f)/\(a->((length f+length b:Nat):Int)<=4294967296),(),(cond a (f++b) f,()))
def Tq a b:=(qF9 a b).1
def mK3 a b:=(qF9 a b).2.1
def JY a b:=(qF9 a b).2.2
theorem oB:SK 227 (fnSpec [(0,Ar),(1,Ds)] (.tup .nl) [(1,Ds)] (λx=>Tq x.1 x.2.1) (λx=>mK3 x.1 x.2.1) (λx=>JY x.1 x.2.1)):=fb Tryz.func227 15 [] [] [(5,[(4,0,14,400100)])] false [1]
abbrev p9:Type:=(A8×A0×(Unit×Unit)×Unit)
abbrev CX:Type:=((List A0)×Int×Unit)
def tR1 (y:p9)(x:CX):Vn CX:=
 let z:=y.1
 let A:=y.2.1
 let B:=x.1
 let b:=x.2.1
 let f:Bool:=b<=8
 let a:=8-b
 let c:=a*a
 let g:=2*b
 let d:=g*a
 let e:=b*b
 let h:=c*A.1
 let i:=(nth z.2.1 (0:Int) A1).1
 let j:=d*i
 let k:=h+j
 let l:=(nth z.2.1 (1:Int) A1).1
 let m:=e*l
 let n:=k+m
 let o:=c*A.2.1
 let q:=(nth z.2.1 (0:Int) A1).2.1
 let r:=d*q
 let t:=o+r
 let u:=(nth z.2.1 (1:Int) A1).2.1
 let v:=e*u
 let w:=t+v
 let s:=(AO n (64:Int),AO w (64:Int),())
 (f->A5 (8-b)/\A5 (a*a)/\A5 (2*b)/\A5 (g*a)/\A5 (b*b)/\A5 (c*A.1)/\A6 (0:Int) 3/\A5 (d*i)/\A5 (h+j)/\A6 (1:Int) 3/\A5 (e*l)/\A5 (k+m)/\Eh n (64:Int)/\A5 (c*A.2.1)/\A6 (0:Int) 3/\A5 (d*q)/\A5 (o+r)/\A6 (1:Int) 3/\A5 (e*u)/\A5 (t+v)/\Eh w (64:Int)/\Tq s B/\A5 (b+1),f,((JY s B).1,b+1,()))
def tX0 y x:=(tR1 y x).1
def PA y x:=(tR1 y x).2.1
def PB y x:=(tR1 y x).2.2
def uY9 (y:p9)(x:CX):(List A0):=
 x.1
def tX1:List (Nat×Sh):=[(2,Ca)]
def qG:=li [(3,Bi),(5,Bz),(6,(.fn 227 (.cons (.ref 2 Ad) .nl)))] [(2,Ca),(7,vI)] PA PB tX0 (λy x=>[ex 3 none tX1 ((uY9 y x),())]) [tX1]
def uZ (y:p9)(x:CX):Vn CX:=
 let N:=y.1
 let Q:=y.2.1
 let R:=x.1
 let b:=x.2.1
 let O:Bool:=b<=16
 let a:=16-b
 let g:=a*a
 let c:=g*a
 let h:=3*b
 let i:=h*a
 let d:=i*a
 let j:=3*b
 let k:=j*b
 let e:=k*a
 let l:=b*b
 let f:=l*b
 let m:=c*Q.1
 let n:=(nth N.2.1 (0:Int) A1).1
 let o:=d*n
 let q:=m+o
 let r:=(nth N.2.1 (1:Int) A1).1
 let t:=e*r
 let u:=q+t
 let v:=(nth N.2.1 (2:Int) A1).1
 let w:=f*v
 let z:=u+w
 let A:=c*Q.2.1
 let B:=(nth N.2.1 (0:Int) A1).2.1
 let C:=d*B
 let E:=A+C
 let F:=(nth N.2.1 (1:Int) A1).2.1
 let H:=e*F
 let J:=E+H
 let K:=(nth N.2.1 (2:Int) A1).2.1
 let L:=f*K
 let M:=J+L
 let s:=(AO z (4096:Int),AO M (4096:Int),())
 (O->A5 (16-b)/\A5 (a*a)/\A5 (g*a)/\A5 (3*b)/\A5 (h*a)/\A5 (i*a)/\A5 (3*b)/\A5 (j*b)/\A5 (k*a)/\A5 (b*b)/\A5 (l*b)/\A5 (c*Q.1)/\A6 (0:Int) 3/\A5 (d*n)/\A5 (m+o)/\A6 (1:Int) 3/\A5 (e*r)/\A5 (q+t)/\A6 (2:Int) 3/\A5 (f*v)/\A5 (u+w)/\Eh z (4096:Int)/\A5 (c*Q.2.1)/\A6 (0:Int) 3/\A5 (d*B)/\A5 (A+C)/\A6 (1:Int) 3/\A5 (e*F)/\A5 (E+H)/\A6 (2:Int) 3/\A5 (f*K)/\A5 (J+L)/\Eh M (4096:Int)/\Tq s R/\A5 (b+1),O,((JY s R).1,b+1,()))
def tO5 y x:=(uZ y x).1
def PC y x:=(uZ y x).2.1
def PD y x:=(uZ y x).2.2
def uW7 (y:p9)(x:CX):(List A0):=
 x.1
def tO6:List (Nat×Sh):=[(2,Ca)]
def rT7:=li [(3,Bi),(5,Bz),(6,(.fn 227 (.cons (.ref 2 Ad) .nl)))] [(2,Ca),(12,vI)] PC PD tO5 (λy x=>[ex 5 none tO6 ((uW7 y x),())]) [tO6]
def pP9 (m:List A0)(n:A8):Prop×(List A0):=
 let f:=len m
 let g:=f-1
 let h:=nth m g A1
 let b:=n.1==2
 let i:=nth n.2.1 (0:Int) A1
 let c:=n.1==3
 let d:=(n,h,((),()),())
 let l:=(m,(1:Int),())
 let j:=n.1==4
 let a:=(n,h,((),()),())
 let k:=(m,(1:Int),())
 let e:=cond b (JY i m).1 (cond c (uY9 d (A3 (PA d) (PB d) l)) (cond j (uW7 a (A3 (PC a) (PD a) k)) m))
 (A5 (f-1)/\A6 g (len m)/\(b->A6 (0:Int) 3/\Tq i m)/\(b=false->(c->AA (PA d) (PB d) (tX0 d) l)/\(c=false->j->AA (PC a) (PD a) (tO5 a) k)),e)
def r0 a b:=(pP9 a b).1
def GN a b:=(pP9 a b).2
theorem oB0:SK 200 (BD (.own AQ 400000 false) Dd Bx r0 GN):=fx (λc=>{ c with wants:=[(227,[])] }) Tryz.func200 179 [kb JQ,kb oB] [(8,qG),(15,rT7)] [(1,[(4,0,400000,400200)]),(41,[(4,0,400200,0)])]
abbrev vX1:Type:=((List (List A0))×(List A0)×Int×Unit)
def qG0 (y:vX)(x:vX1):Vn vX1:=
 let k:=y.1
 let e:=y.2.1
 let l:=x.1
 let m:=x.2.1
 let a:=x.2.2.1
 let f:Bool:=a<y.2.2.1
 let b:=nth e a A4
 let c:=b.1==1
 let n:=cond c ([nth b.2.1 (0:Int) A1]:List A0) (GN m b)
 let g:=len k
 let d:=a==(g-1)
 let h:=a+1
 let i:=cond d true ((nth k h A4).1==1)
 let j:=([n]:List (List A0))
 (f->A6 a (len e)/\(c->A6 (0:Int) 3)/\(c=false->r0 m b)/\A5 (g-1)/\(!d->A5 (a+1))/\(!d->A6 h (len k))/\(i->((length l+length j:Nat):Int)<=4294967296)/\A5 (a+1),f,(cond i (l++j) l,n,a+1,()))
def rV7 y x:=(qG0 y x).1
def Md y x:=(qG0 y x).2.1
def Lf y x:=(qG0 y x).2.2
def r8 (y:vX)(x:vX1):(List (List A0)):=
 x.1
def rV8:List (Nat×Sh):=[(5,(.own Ad 1005 false))]
def oB1:=li [(0,Aj),(14,Aj),(15,vI)] [(5,(.own Ad 1005 false)),(6,Cb),(16,vI)] Md Lf rV7 (λy x=>[ex 2 none rV8 ((r8 y x),())]) [rV8]
def mK4 (e:List A8):Prop×((List (List A0))×Int×Unit):=
 let c:=BH e
 let a:=c !=0
 let b:=(e,e,len e,())
 let d:=(([]:List (List A0)),([]:List A0),(0:Int),())
 (P9 e/\(!a->AA (Md b) (Lf b) (rV7 b) d),(cond a [] (r8 b (A3 (Md b) (Lf b) d)),cond a c (0:Int),()))
def Xp a:=(mK4 a).1
def BI a:=(mK4 a).2
theorem oP0:SK 161 (AS Aj (.tup (.cons Av (.cons vI .nl))) Xp BI):=fx (λc=>{ c with wants:=[(200,[0])] }) Tryz.func161 51 [kb o9,kb oB0] [(7,oB1)] [(21,[(4,0,27,1006)]),(23,[(4,0,30,1006)]),(27,[(4,0,48,1005)]),(31,[(4,0,1005,0)])]
abbrev FT:Type:=((List Bool)×Int×Unit)
def s7 (y:vX)(x:FT):Vn FT:=
 let i:=y.1
 let c:=y.2.1
 let j:=x.1
 let a:=x.2.1
 let d:Bool:=a<y.2.2.1
 let e:=len i
 let b:=a==(e-1)
 let f:=a+1
 let g:=cond b true ((nth i f A4).1==1)
 let h:=([(nth c a A4).1 !=5]:List Bool)
 (d->A6 a (len c)/\A5 (e-1)/\(!b->A5 (a+1))/\(!b->A6 f (len i))/\(g->((length j+length h:Nat):Int)<=4294967296)/\A5 (a+1),d,(cond g (j++h) j,a+1,()))
def sI9 y x:=(s7 y x).1
def Tt y x:=(s7 y x).2.1
def wT y x:=(s7 y x).2.2
def sR (y:vX)(x:FT):(List Bool):=
 x.1
def oB2:=li [(0,Aj),(13,Aj),(14,vI)] [(5,Dg),(15,vI)] Tt wT sI9 (λy x=>[ex 2 none [(5,Dg)] ((sR y x),())]) [[(5,Dg)]]
def mK5 (e:List A8):Prop×((List Bool)×Int×Unit):=
 let c:=BH e
 let a:=c !=0
 let b:=(e,e,len e,())
 let d:=(([]:List Bool),(0:Int),())
 (P9 e/\(!a->AA (Tt b) (wT b) (sI9 b) d),(cond a [] (sR b (A3 (Tt b) (wT b) d)),cond a c (0:Int),()))
def pC8 a:=(mK5 a).1
def E3 a:=(mK5 a).2
theorem mK6:SK 162 (AS Aj (.tup (.cons (.own .bool 0 false) (.cons vI .nl))) pC8 E3):=fb Tryz.func162 42 [kb o9] [(6,oB2)] [(19,[(4,0,39,1005)]),(23,[(4,0,1005,0)])]
abbrev vX2:Type:=((List (List A0))×(List (List A0))×Int×Unit)
abbrev vD:Type:=(Int×Int×Unit)
def Xq (y:vX2)(x:vD):Vm vD:=
 let d:=y.2.1
 let g:=x.1
 let a:=x.2.1
 let b:Bool:=a<y.2.2.1
 let e:=len (nth d a ([]:List A0))
 let f:=g+e
 let c:Bool:=f>4096
 (b->A6 a (len d)/\A5 (g+e)/\(!c->A5 (a+1)),b&&(!c),(f,a+1,()),b&&c,!b)
def rV9 y x:=(Xq y x).1
def Me y x:=(Xq y x).2.1
def Mf y x:=(Xq y x).2.2.1
def Xr y x:=(Xq y x).2.2.2.1
def s8 y x:=(Xq y x).2.2.2.2
def sR0 (y:vX2)(x:vD):Int:=
 (3:Int)
def oB3:=li [(0,Ak),(18,Ak),(19,vI)] [(5,vI),(20,vI)] Me Mf rV9 (λy x=>[ex 1 (some (Xr y x)) [(4,vI)] ((sR0 y x),()),ex 2 (some (s8 y x)) [(0,Ak)] (y.1,())]) [[(4,vI)],[(0,Ak)]]
abbrev vI1:Type:=((List (List A0))×Int×Int×(List A0)×Int×Unit)
def Xs (y:vI1)(x:AF):Vm AF:=
 let e:=y.2.2.2.1
 let a:=x.1
 let b:Bool:=a<y.2.2.2.2.1
 let c:=nth e a A1
 let d:=cond (cond (cond (c.1<(-16777216)) true (c.1>16777216)) true (c.2.1<(-16777216))) true (c.2.1>16777216)
 (b->A6 a (len e)/\(!d->A5 (a+1)),b&&(!d),(a+1,()),b&&d,!b)
def tR2 y x:=(Xs y x).1
def NL y x:=(Xs y x).2.1
def NM y x:=(Xs y x).2.2.1
def tR3 y x:=(Xs y x).2.2.2.1
def tR4 y x:=(Xs y x).2.2.2.2
def tX3 (y:vI1)(x:AF):Int:=
 (2:Int)
def rF2:List (Nat×Sh):=[(31,Ak),(32,vI),(33,vI)]
def pC9:=li [(31,Ak),(32,vI),(33,vI),(37,Bd),(38,vI)] [(39,vI)] NL NM tR2 (λy x=>[ex 1 (some (tR3 y x)) [(4,vI)] ((tX3 y x),()),ex 6 (some (tR4 y x)) rF2 (y.1,y.2.1,y.2.2.1,())]) [[(4,vI)],rF2]
abbrev CH:Type:=((List (List A0))×Int×Unit)
def Xt (y:CH)(x:AF):Vm AF:=
 let e:=y.1
 let f:=y.2.1
 let b:=x.1
 let d:Bool:=b<f
 let h:=nth e b ([]:List A0)
 let a:=(e,f,b,h,len h,())
 let i:=((0:Int),())
 let g:=A3 (NL a) (NM a) i
 let c:=tR4 a g
 (d->A6 b (len e)/\AA (NL a) (NM a) (tR2 a) i/\(c->A5 (b+1)),d&&c,(b+1,()),d&&tR3 a g,!d)
def s9 y x:=(Xt y x).1
def NN y x:=(Xt y x).2.1
def NO y x:=(Xt y x).2.2.1
def uC y x:=(Xt y x).2.2.2.1
def pD y x:=(Xt y x).2.2.2.2
def tX4 (y:CH)(x:AF):Int:=
 let b:=y.1
 let c:=x.1
 let d:=nth b c ([]:List A0)
 let a:=(b,y.2.1,c,d,len d,())
 (tX3 a (A3 (NL a) (NM a) ((0:Int),())))
def pD0:=li [(31,Ak),(32,vI)] [(33,vI)] NN NO s9 (λy x=>[ex 1 (some (uC y x)) [(4,vI)] ((tX4 y x),()),ex 4 (some (pD y x)) [] ()]) [[(4,vI)],[]]
def mK7 (h:(List (List A0)))(i:Int):Prop×Int:=
 let d:=cond (i !=0) (i !=1) false
 let b:=(h,h,len h,())
 let g:=((0:Int),(0:Int),())
 let f:=A3 (Me b) (Mf b) g
 let a:=(h,len h,())
 let e:=((0:Int),())
 let c:=A3 (NN a) (NO a) e
 (!d->AA (Me b) (Mf b) (rV9 b) g/\(s8 b f->AA (NN a) (NO a) (s9 a) e),cond d (8:Int) (cond (Xr b f) (sR0 b f) (cond (uC a c) (tX4 a c) (0:Int))))
def PE a b:=(mK7 a b).1
def DT a b:=(mK7 a b).2
def oP1:=BD Ak vI vI PE DT
theorem pD1:SK 164 (BD Ak vI vI PE DT):=fb Tryz.func164 63 [] [(5,oB3),(12,pD0),(15,pC9)]
def lK1 (b c d:Int):Prop×Int:=
 let a:=cond (cond (b<1) true (b>4096)) (2:Int) (cond (cond (c<0) true (c>2)) (8:Int) (cond (cond (d<0) true (d>2)) (8:Int) (0:Int)))
 (True,a)
def pD2 a b c:=(lK1 a b c).1
def F4 a b c:=(lK1 a b c).2
theorem mK8:SK 201 (DR vI vI vI vI pD2 F4):=fb Tryz.func201 25
abbrev uZ4:Type:=(Bool×(List A0)×Int×Unit)
def uE (y:uZ4)(x:CX):Vn CX:=
 let j:=y.2.1
 let b:=x.1
 let a:=x.2.1
 let d:Bool:=a<y.2.2.1
 let e:=nth j a A1
 let c:=len b==0
 let f:=len b
 let g:=f-1
 let h:=cond c true (!(Ty.eqb AQ e (nth b g A1)))
 let i:=([e]:List A0)
 (d->A6 a (len j)/\(!c->A5 (f-1))/\(!c->A6 g (len b))/\(h->((length b+length i:Nat):Int)<=4294967296)/\A5 (a+1),d,(cond h (b++i) b,a+1,()))
def uF y x:=(uE y x).1
def NP y x:=(uE y x).2.1
def Mg y x:=(uE y x).2.2
def sR1 (y:uZ4)(x:CX):(List A0):=
 x.1
def rW:List (Nat×Sh):=[(1,vB),(5,Bq)]
def oB4:=li [(1,vB),(8,Bd),(9,vI)] [(5,Bq),(10,vI)] NP Mg uF (λy x=>[ex 2 none rW (y.1,(sR1 y x),())]) [rW]
abbrev uN:Type:=(Bool×Unit)
abbrev NQ:Type:=((List A0)×Unit)
def qG1 (y:uN)(x:NQ):Vn NQ:=
 let a:=x.1
 let b:=cond (!y.1) (decide (len a>1)) false
 let d:=len a
 let e:=d-1
 let f:=cond b (Ty.eqb AQ (nth a e A1) (nth a (0:Int) A1)) false
 let g:=len a
 let c:=g-1
 ((b->A5 (d-1))/\(b->A6 e (len a))/\(b->A6 (0:Int) (len a))/\(f->A5 (g-1)/\0<=c/\c<=len a),f,(List.take (toNat c) a,()))
def uQ y x:=(qG1 y x).1
def PF y x:=(qG1 y x).2.1
def NR y x:=(qG1 y x).2.2
def sR2 (y:uN)(x:NQ):(List A0):=
 x.1
def oB5:=li [(1,vB)] [(5,Bd)] PF NR uQ (λy x=>[ex 4 none [(5,Bd)] ((sR2 y x),())]) [[(5,Bd)]]
def lK2 (e:List A0)(f:Bool):Prop×(List A0):=
 let a:=(f,e,len e,())
 let c:=(([]:List A0),(0:Int),())
 let b:=(f,())
 let d:=(sR1 a (A3 (NP a) (Mg a) c),())
 (AA (NP a) (Mg a) (uF a) c/\AA (PF b) (NR b) (uQ b) d,sR2 b (A3 (PF b) (NR b) d))
def pD3 a b:=(lK2 a b).1
def CK a b:=(lK2 a b).2
theorem mK9:SK 228 (BD Bd vB Bd pD3 CK):=fb Tryz.func228 57 [] [(3,oB4),(8,oB5)] [(13,[(4,0,30,1005)])]
def lK3 (a b:A0):Prop×A0:=
 (True,(wrap .i64 (a.1-b.1),wrap .i64 (a.2.1-b.2.1),()))
def Hk a b:=(lK3 a b).1
def AM a b:=(lK3 a b).2
theorem uR:SK 233 (BD Ar Ar Ar Hk AM):=fb Tryz.func233 16 [] [] [] true
def mL (g h:Int):Prop×(Int×Int×Unit):=
 let a:=Fz .u64 g (4294967295:Int)
 let b:=EW g (32:Int) 64
 let c:=Fz .u64 h (4294967295:Int)
 let d:=EW h (32:Int) 64
 let e:=wrap .u64 (wrap .u64 (b*c)+EW (wrap .u64 (a*c)) (32:Int) 64)
 let f:=wrap .u64 (wrap .u64 (wrap .u64 (b*d)+EW e (32:Int) 64)+EW (wrap .u64 (Fz .u64 e (4294967295:Int)+wrap .u64 (a*d))) (32:Int) 64)
 (True,(f,wrap .u64 (g*h),()))
def sJ a b:=(mL a b).1
def BE a b:=(mL a b).2
def oP2:=BD Aq Aq (.tup (.cons Aq (.cons Aq .nl))) sJ BE
theorem mL0:SK 282 (BD Aq Aq (.tup (.cons Aq (.cons Aq .nl))) sJ BE):=fb Tryz.func282 51 [] [] [] true
def lK4 (a:Int):Prop×Int:=
 (True,cond (a<0) (wrap .u64 (sub 0 (wrap .u64 a))) (wrap .u64 a))
def PG a:=(lK4 a).1
def AD a:=(lK4 a).2
def oP3:=AS vI Aq PG AD
theorem mL1:SK 283 (AS vI Aq PG AD):=fb Tryz.func283 10 [] [] [] true
def qG3 (y x:vD):Vn vD:=
 let f:=y.1
 let d:=x.1
 let b:=x.2.1
 let e:=b !=0
 let a:=ior .u64 d b
 let c:=BE a a
 (e->sJ a a,e,(cond (cond (c.1<f) true (cond (c.1==f) (decide (c.2.1<=y.2.1)) false)) a d,EW b (1:Int) 64,()))
def uV y x:=(qG3 y x).1
def PH y x:=(qG3 y x).2.1
def Mh y x:=(qG3 y x).2.2
def sR3 (y x:vD):Int:=
 x.1
def sR4:St->Option Out:=Ik [(5,Aq),(6,Aq)] [(10,Aq),(11,Aq)] PH Mh uV λy x=>[ex 2 none [(10,Aq)] ((sR3 y x),())]
def mL2 (k l:Int):Prop×Int:=
 let f:=AD k
 let g:=AD k
 let b:=BE f g
 let h:=AD l
 let i:=AD l
 let c:=BE h i
 let d:=(((toNat b.2.1+toNat c.2.1+toNat (0:Int)) / 18446744073709551616:Nat):Int)
 let e:=((((toNat b.1+toNat c.1+toNat d) % 18446744073709551616:Nat):Int),(((toNat b.2.1+toNat c.2.1+toNat (0:Int)) % 18446744073709551616:Nat):Int),())
 let j:=((0:Int),(9223372036854775808:Int),())
 let a:=sR3 e (A3 (PH e) (Mh e) j)
 (PG k/\PG k/\sJ f g/\PG l/\PG l/\sJ h i/\(0<=(0:Int)/\(0:Int)<=1)/\(0<=d/\d<=1)/\AA (PH e) (Mh e) (uV e) j,cond (a>9223372036854775807) (9223372036854775807:Int) (wrap .i64 a))
def u7 a b:=(mL2 a b).1
def f270 a b:=(mL2 a b).2
def oP4:=BD vI vI vI u7 f270
def pQ:Ctx:={ Cx tys [(282,oP2),(283,oP3)] [(7,sR4)] [] true 73 [] [] with exts:=[(284,fJ)] }
theorem pQ0:CtxOk Tryz.prog pQ:=xZ8 Pn rfl ⟨mL0,mL1,trivial⟩ ⟨mG1,trivial⟩ (by kernel_rfl)
noncomputable def oP5:Code:=Tryz.f270.body.getD .skip
noncomputable def oP6:Code:=SP oP5 0
theorem oB6:JG Tryz.prog pQ oP6:=lq pQ0 (sp:=sR4) rfl [[(10,Aq)]]
theorem oP7:SK 270 oP4:=fl pQ0 Tryz.func270 (bs:=[oP6]) ⟨oB6,trivial⟩
def lK5 (i j:A0)(k:Int):Prop×CW:=
 let b:=AM j i
 let c:=wrap .i64 (16*b.1)
 let d:=wrap .i64 (16*b.2.1)
 let a:=f270 c d
 let e:=wrap .i64 (wrap .i64 ((-8)*k)*b.2.1)
 let f:=wrap .i64 (wrap .i64 (8*k)*b.1)
 let g:=wrap .i64 (wrap .i64 (8*k)*b.1)
 let h:=wrap .i64 (wrap .i64 (8*k)*b.2.1)
 (Hk j i/\u7 c d/\Eh e a/\Eh f a/\Eh g a/\Eh h a,(i,j,b,(AO e a,AO f a,()),(AO g a,AO h a,()),()))
def u9 a b c:=(lK5 a b c).1
def f266 a b c:=(lK5 a b c).2
theorem mL3:SK 266 (DR Ar Ar vI Dn u9 f266):=fb Tryz.func266 53 [kb JQ,kb uR,kb oP7] [] [] true
abbrev vA:Type:=((List A0)×Bool×Int×Unit)
abbrev vX7:Type:=((List CW)×Int×Unit)
def vF (y:vA)(x:vX7):Vn vX7:=
 let b:=y.1
 let h:=y.2.2.1
 let i:=x.1
 let a:=x.2.1
 let c:Bool:=a<len b
 let d:=a-1
 let e:=nth b d A1
 let f:=nth b a A1
 let g:=([f266 e f h]:List CW)
 (c->A5 (a-1)/\A6 d (len b)/\A6 a (len b)/\u9 e f h/\((length i+length g:Nat):Int)<=4294967296/\A5 (a+1),c,(i++g,a+1,()))
def vL y x:=(vF y x).1
def HK y x:=(vF y x).2.1
def Hl y x:=(vF y x).2.2
def vN (y:vA)(x:vX7):(List CW):=
 x.1
def rW0:List (Nat×Sh):=[(0,Bd),(1,vB),(2,vI),(7,Bu)]
def oB7:=li [(0,Bd),(1,vB),(2,vI)] [(7,Bu),(8,vI)] HK Hl vL (λy x=>[ex 2 none rW0 (y.1,y.2.1,y.2.2.1,(vN y x),())]) [rW0]
def mL4 (j:List A0)(k:Bool)(l:Int):Prop×(List CW):=
 let b:=(j,k,l,())
 let i:=(([]:List CW),(1:Int),())
 let a:=vN b (A3 (HK b) (Hl b) i)
 let c:=cond (!k) (decide (len j>1)) false
 let d:=len j
 let e:=d-1
 let f:=nth j e A1
 let g:=nth j (0:Int) A1
 let h:=([f266 f g l]:List CW)
 (AA (HK b) (Hl b) (vL b) i/\(c->A5 (d-1)/\A6 e (len j)/\A6 (0:Int) (len j)/\u9 f g l/\((length a+length h:Nat):Int)<=4294967296),cond c (a++h) a)
def pD4 a b c:=(mL4 a b c).1
def f229 a b c:=(mL4 a b c).2
theorem mL5:SK 229 (DR Bd vB vI (.own JL 0 false) pD4 f229):=fb Tryz.func229 51 [kb mL3] [(3,oB7)] [(11,[(4,0,28,1007)]),(15,[(4,0,49,1007)]),(17,[(4,0,1007,0)])]
abbrev uZ7:Type:=((List A0)×(List A0)×Int×Unit)
def vT (y:uZ7)(x:vD):Vn vD:=
 let g:=y.1
 let h:=y.2.1
 let a:=x.2.1
 let b:Bool:=a<y.2.2.1
 let c:=nth h a A1
 let d:=len g
 let e:=tmod (wrap .i64 (a+1)) d
 let f:=nth g e A1
 (b->A6 a (len h)/\d≠0/\A6 e (len g),b,(wrap .i64 (x.1+wrap .i64 (wrap .i64 (c.1*f.2.1)-(wrap .i64 (f.1*c.2.1)))),wrap .i64 (a+1),()))
def rW1 y x:=(vT y x).1
def rF3 y x:=(vT y x).2.1
def vU y x:=(vT y x).2.2
def sR5 (y:uZ7)(x:vD):Int:=
 x.1
def oB8:=li [(0,Bd),(7,Bd),(8,vI)] [(3,vI),(9,vI)] rF3 vU rW1 (λy x=>[ex 2 none [(3,vI)] ((sR5 y x),())]) [[(3,vI)]]
def lK6 (c:List A0):Prop×Int:=
 let a:=(c,c,len c,())
 let b:=((0:Int),(0:Int),())
 (AA (rF3 a) (vU a) (rW1 a) b,sR5 a (A3 (rF3 a) (vU a) b))
def pD5 a:=(lK6 a).1
def DJ a:=(lK6 a).2
theorem mL6:SK 268 (AS Bd vI pD5 DJ):=fb Tryz.func268 37 [] [(3,oB8)] [] true
def f269 (_p0:List A0):Unit:=()
def v7 (a:List A0):(List A0)×Unit:=(List.reverse a,())
def pD6 (_p0:List A0):Prop:=True
instance (a:List A0):Decidable (pD6 a):=isTrue trivial
def mL7:List (Nat×Sh):=[(0,Bj)]
def mL8:Sh:=(.tup .nl)
def mL9:List (Nat×Sh):=[(0,Bj)]
def oP8:Am.Spec:=fnSpec mL7 mL8 mL9 (λx=>pD6 x.1) (λx=>f269 x.1) (λx=>v7 x.1)
theorem mM:SpecOk Tryz.prog 269 oP8:=nO2 (by decide) rfl ⟨_,Tryz.func269,by kernel_rfl,by decide⟩ lI2
def lK7 (a b:A0):Prop×A0:=
 (True,(wrap .i64 (a.1+b.1),wrap .i64 (a.2.1+b.2.1),()))
def F5 a b:=(lK7 a b).1
def AI a b:=(lK7 a b).2
theorem Xu:SK 232 (BD Ar Ar Ar F5 AI):=fb Tryz.func232 16 [] [] [] true
def lK8 (e:Int):Prop×Int:=
 let a:=wrap .i64 (tdiv e (256:Int))
 let d:Bool:=a≥64
 let b:=wrap .i64 (a+1)
 let c:=wrap .i64 (wrap .i64 (nth G5 b (0:Int)-(nth G5 a (0:Int)))*wrap .i64 (e-(wrap .i64 (256*a))))
 ((d->A6 (64:Int) 65)/\(!d->A6 a 65/\A6 b 65/\A6 a 65/\Eh c (256:Int)),cond d (nth G5 (64:Int) (0:Int)) (wrap .i64 (nth G5 a (0:Int)+AO c (256:Int))))
def Tu a:=(lK8 a).1
def JZ a:=(lK8 a).2
theorem mM0:SK 301 (AS vI vI Tu JZ):=fb Tryz.func301 28 [kb JQ] [] [] true
def mM1 (i:Int):Prop×Int:=
 let h:=wrap .i64 (tdiv i (16384:Int))
 let a:=wrap .i64 (i-(wrap .i64 (16384*h)))
 let b:=h==0
 let c:=h==1
 let f:=wrap .i64 (16384-a)
 let d:=h==2
 let g:=wrap .i64 (16384-a)
 let e:=cond (cond b true (cond c true d)) (cond b (JZ a) (cond c (JZ f) (wrap .i64 (sub 0 (JZ a))))) (wrap .i64 (sub 0 (JZ g)))
 ((b->Tu a)/\(b=false->(c->Tu f)/\(c=false->d->Tu a))/\((((!d)&&(!c))&&(!b))->Tu g),e)
def Tv a:=(mM1 a).1
def PI a:=(mM1 a).2
theorem mM2:SK 295 (AS vI vI Tv PI):=fb Tryz.func295 30 [kb mM0] [] [] true
def lK9 (c:Int):Prop×(Int×Int×Unit):=
 let b:=Fz .i64 c (65535:Int)
 let a:=tmod (wrap .i64 (b+16384)) (65536:Int)
 (Tv b/\Tv a,(PI b,PI a,()))
def pD7 a:=(lK9 a).1
def Is a:=(lK9 a).2
theorem mM3:SK 281 (AS vI (.tup (.cons vI (.cons vI .nl))) pD7 Is):=fb Tryz.func281 13 [kb mM2] [] [] true
abbrev uZ8:Type:=(Int×A0×Int×Unit)
def v8 (y:uZ8)(x:CX):Vn CX:=
 let h:=y.1
 let i:=y.2.1
 let g:=x.1
 let a:=x.2.1
 let b:Bool:=a<y.2.2.1
 let c:=wrap .i64 (4096*a)
 let d:=Is c
 let e:=wrap .i64 (h*d.2.1)
 let f:=wrap .i64 (h*d.1)
 let s:=(AO e (131072:Int),AO f (131072:Int),())
 (b->pD7 c/\Eh e (131072:Int)/\Eh f (131072:Int)/\F5 i s/\A6 a (len g)/\a<len g,b,(set g (toNat a) (AI i s),wrap .i64 (a+1),()))
def Tw y x:=(v8 y x).1
def Ka y x:=(v8 y x).2.1
def wF y x:=(v8 y x).2.2
def wM (y:uZ8)(x:CX):(List A0):=
 x.1
def oB9:=li [(1,vI),(2,Bz),(11,vI)] [(5,Dl),(12,vI)] Ka wF Tw (λy x=>[ex 2 none [(5,Dl)] ((wM y x),())]) [[(5,Dl)]]
def wV (d:A0)(e:Int):Prop×(List A0):=
 let b:=replicate (toNat (16:Int)) A1
 let a:=(e,d,len b,())
 let c:=(b,(0:Int),())
 ((0<=(16:Int)/\(16:Int)<=(16:Int)/\(16:Int)<=4294967296)/\AA (Ka a) (wF a) (Tw a) c,wM a (A3 (Ka a) (wF a) c))
def Tx a b:=(wV a b).1
def f267 a b:=(wV a b).2
theorem pD8:SK 267 (BD Ar vI Dt Tx f267):=fb Tryz.func267 37 [kb JQ,kb Xu,kb mM3] [(3,oB9)] [(3,[(4,0,9,1005)]),(17,[(4,0,1005,0)])] true [] [9]
def wW (f:(Int×Int×Int×(List (List A0))×Int×Unit))(g:List A0):Prop×(Unit)×((Int×Int×Int×(List (List A0))×Int×Unit)×Unit):=
 let e:=DJ g
 let a:=e==0
 let b:Bool:=e<0
 let d:=cond b (v7 g).1 g
 let c:=([d]:List (List A0))
 let s:=(cond a f.1 f.1,cond a f.2.1 f.2.1,cond a f.2.2.1 f.2.2.1,cond a f.2.2.2.1 (f.2.2.2.1++c),cond a f.2.2.2.2.1 (wrap .i64 (f.2.2.2.2.1+len d)),())
 (pD5 g/\(!a->(b->pD6 g/\0<length g/\length g=length g/\length g=length g/\length g=length g)/\((length f.2.2.2.1+length c:Nat):Int)<=4294967296),(),(s,()))
def FU a b:=(wW a b).1
def mM4 a b:=(wW a b).2.1
def wE a b:=(wW a b).2.2
theorem y5:SK 231 (fnSpec [(0,Ac),(1,(.own AQ 400100 true))] (.tup .nl) [(0,Ac)] (λx=>FU x.1 x.2.1) (λx=>mM4 x.1 x.2.1) (λx=>wE x.1 x.2.1)):=fx (λc=>{ c with wants:=[(269,[0])] }) Tryz.func231 32 [kb mL6,kb mM] [] [(8,[(1,1,0,0)]),(9,[(4,0,20,400000)])] true [0]
def y8 (o:(Int×Int×Int×(List (List A0))×Int×Unit))(p:A0):Prop×(Unit)×((Int×Int×Int×(List (List A0))×Int×Unit)×Unit):=
 let d:=o.2.2.1==1
 let l:=f267 p o.1
 let f:=o
 let a:=wE f l
 let e:=o.2.2.1==2
 let b:=AO o.1 (2:Int)
 let g:=(wrap .i64 (sub 0 b),wrap .i64 (sub 0 b),())
 let h:=(b,wrap .i64 (sub 0 b),())
 let i:=(b,b,())
 let j:=(wrap .i64 (sub 0 b),b,())
 let m:=([AI p g,AI p h,AI p i,AI p j]:List A0)
 let k:=o
 let c:=wE k m
 let n:=(cond d a.1.1 (cond e c.1.1 o.1),cond d a.1.2.1 (cond e c.1.2.1 o.2.1),cond d a.1.2.2.1 (cond e c.1.2.2.1 o.2.2.1),cond d a.1.2.2.2.1 (cond e c.1.2.2.2.1 o.2.2.2.1),cond d a.1.2.2.2.2.1 (cond e c.1.2.2.2.2.1 o.2.2.2.2.1),())
 ((d->Tx p o.1/\FU f l)/\(d=false->e->Eh o.1 (2:Int)/\F5 p g/\F5 p h/\F5 p i/\F5 p j/\FU k m),(),(n,()))
def sJ3 a b:=(y8 a b).1
def mM5 a b:=(y8 a b).2.1
def PJ a b:=(y8 a b).2.2
theorem oC:SK 230 (fnSpec [(0,Ac),(1,Ar)] (.tup .nl) [(0,Ac)] (λx=>sJ3 x.1 x.2.1) (λx=>mM5 x.1 x.2.1) (λx=>PJ x.1 x.2.1)):=fx (λc=>{ c with wants:=[(231,[1])] }) Tryz.func230 53 [kb JQ,kb y5,kb Xu,kb pD8] [] [] true [0] [51]
def z8 (p:(Int×Int×Int×(List (List A0))×Int×Unit))(D G:CW):Prop×(Unit)×((Int×Int×Int×(List (List A0))×Int×Unit)×Unit):=
 let e:=p.2.1==1
 let C:=f267 G.1 p.1
 let v:=p
 let f:=wE v C
 let E:=([G.1,AI G.1 D.2.2.2.1,AI G.1 G.2.2.2.1]:List A0)
 let z:=p
 let g:=wE z E
 let F:=([G.1,AM G.1 D.2.2.2.1,AM G.1 G.2.2.2.1]:List A0)
 let A:=(g.1.1,g.1.2.1,g.1.2.2.1,g.1.2.2.2.1,g.1.2.2.2.2.1,())
 let a:=wE A F
 let H:=wrap .i64 (wrap .i64 (D.2.2.1.1*G.2.2.1.2.1)-(wrap .i64 (D.2.2.1.2.1*G.2.2.1.1)))
 let u:=wrap .i64 (a.1.1*a.1.1)
 let l:=wrap .i64 (u+wrap .i64 (4*wrap .i64 (wrap .i64 (D.2.2.2.1.1*G.2.2.2.1.1)+wrap .i64 (D.2.2.2.1.2.1*G.2.2.2.1.2.1))))
 let i:=cond (cond (a.1.2.1==2) true (H==0)) true (l<=0)
 let o:=wrap .i64 (u*wrap .i64 (D.2.2.2.1.1+G.2.2.2.1.1))
 let j:=AO o l
 let q:=wrap .i64 (u*wrap .i64 (D.2.2.2.1.2.1+G.2.2.2.1.2.1))
 let k:=AO q l
 let m:=(j,k,())
 let r:Bool:=f270 j k>wrap .i64 (4*a.1.1)
 let b:Bool:=H>0
 let s:=([G.1,AM G.1 D.2.2.2.1,AM G.1 m,AM G.1 G.2.2.2.1]:List A0)
 let B:=(a.1.1,a.1.2.1,a.1.2.2.1,a.1.2.2.2.1,a.1.2.2.2.2.1,())
 let c:=wE B s
 let t:=([G.1,AI G.1 D.2.2.2.1,AI G.1 m,AI G.1 G.2.2.2.1]:List A0)
 let n:=(a.1.1,a.1.2.1,a.1.2.2.1,a.1.2.2.2.1,a.1.2.2.2.2.1,())
 let d:=wE n t
 let h:=e||((!e)&&(i||((!i)&&r)))
 let w:=(cond h (cond e f.1.1 a.1.1) (cond b c.1.1 d.1.1),cond h (cond e f.1.2.1 a.1.2.1) (cond b c.1.2.1 d.1.2.1),cond h (cond e f.1.2.2.1 a.1.2.2.1) (cond b c.1.2.2.1 d.1.2.2.1),cond h (cond e f.1.2.2.2.1 a.1.2.2.2.1) (cond b c.1.2.2.2.1 d.1.2.2.2.1),cond h (cond e f.1.2.2.2.2.1 a.1.2.2.2.2.1) (cond b c.1.2.2.2.2.1 d.1.2.2.2.2.1),())
 ((e->Tx G.1 p.1/\FU v C)/\(!e->F5 G.1 D.2.2.2.1/\F5 G.1 G.2.2.2.1/\FU z E/\Hk G.1 D.2.2.2.1/\Hk G.1 G.2.2.2.1/\FU A F/\(!i->Eh o l/\Eh q l/\u7 j k/\(!r->(b->Hk G.1 D.2.2.2.1/\Hk G.1 m/\Hk G.1 G.2.2.2.1/\FU B s)/\(b=false->F5 G.1 D.2.2.2.1/\F5 G.1 m/\F5 G.1 G.2.2.2.1/\FU n t)))),(),(w,()))
def Tz a b c:=(z8 a b c).1
def mM6 a b c:=(z8 a b c).2.1
def wN a b c:=(z8 a b c).2.2
theorem oC0:SK 234 (fnSpec [(0,Ac),(1,Dn),(2,Dn)] (.tup .nl) [(0,Ac)] (λx=>Tz x.1 x.2.1 x.2.2.1) (λx=>mM6 x.1 x.2.1 x.2.2.1) (λx=>wN x.1 x.2.1 x.2.2.1)):=fx (λc=>{ c with wants:=[(231,[1])] }) Tryz.func234 161 [kb JQ,kb y5,kb Xu,kb uR,kb pD8,kb oP7] [] [] true [0] [40,50,146,159]
def Xv (p:(Int×Int×Int×(List (List A0))×Int×Unit))(s t:CW):Prop×(Unit)×((Int×Int×Int×(List (List A0))×Int×Unit)×Unit):=
 let e:=p.2.2.1==1
 let m:=f267 s.1 p.1
 let i:=p
 let a:=wE i m
 let n:=f267 t.2.1 a.1.1
 let j:=(a.1.1,a.1.2.1,a.1.2.2.1,a.1.2.2.2.1,a.1.2.2.2.2.1,())
 let b:=wE j n
 let f:=p.2.2.1==2
 let g:=AM s.1 s.2.2.2.2.1
 let o:=([AI g s.2.2.2.1,AI s.1 s.2.2.2.1,AM s.1 s.2.2.2.1,AM g s.2.2.2.1]:List A0)
 let k:=p
 let c:=wE k o
 let h:=AI t.2.1 t.2.2.2.2.1
 let q:=([AI t.2.1 t.2.2.2.1,AI h t.2.2.2.1,AM h t.2.2.2.1,AM t.2.1 t.2.2.2.1]:List A0)
 let l:=(c.1.1,c.1.2.1,c.1.2.2.1,c.1.2.2.2.1,c.1.2.2.2.2.1,())
 let d:=wE l q
 let r:=(cond e b.1.1 (cond f d.1.1 p.1),cond e b.1.2.1 (cond f d.1.2.1 p.2.1),cond e b.1.2.2.1 (cond f d.1.2.2.1 p.2.2.1),cond e b.1.2.2.2.1 (cond f d.1.2.2.2.1 p.2.2.2.1),cond e b.1.2.2.2.2.1 (cond f d.1.2.2.2.2.1 p.2.2.2.2.1),())
 ((e->Tx s.1 p.1/\FU i m/\Tx t.2.1 a.1.1/\FU j n)/\(e=false->f->Hk s.1 s.2.2.2.2.1/\F5 g s.2.2.2.1/\F5 s.1 s.2.2.2.1/\Hk s.1 s.2.2.2.1/\Hk g s.2.2.2.1/\FU k o/\F5 t.2.1 t.2.2.2.2.1/\F5 t.2.1 t.2.2.2.1/\F5 h t.2.2.2.1/\Hk h t.2.2.2.1/\Hk t.2.1 t.2.2.2.1/\FU l q),(),(r,()))
def tJ9 a b c:=(Xv a b c).1
def mM7 a b c:=(Xv a b c).2.1
def Mi a b c:=(Xv a b c).2.2
theorem oC1:SK 235 (fnSpec [(0,Ac),(1,Dn),(2,Dn)] (.tup .nl) [(0,Ac)] (λx=>tJ9 x.1 x.2.1 x.2.2.1) (λx=>mM7 x.1 x.2.1 x.2.2.1) (λx=>Mi x.1 x.2.1 x.2.2.1)):=fx (λc=>{ c with wants:=[(231,[1])] }) Tryz.func235 85 [kb y5,kb Xu,kb uR,kb pD8] [] [] true [0] [57,83]
abbrev vN8:Type:=(Bool×(List CW)×(List CW)×Int×Unit)
abbrev FV:Type:=((Int×Int×Int×(List (List A0))×Int×Unit)×Int×Unit)
def tR7 (y:vN8)(x:FV):Vn FV:=
 let e:=y.2.2.1
 let d:=x.1
 let c:=x.2.1
 let g:Bool:=c<y.2.2.2.1
 let a:=nth e c BY
 let h:=([AI a.1 a.2.2.2.1,AI a.2.1 a.2.2.2.1,AM a.2.1 a.2.2.2.1,AM a.1 a.2.2.2.1]:List A0)
 let f:=d
 let b:=wE f h
 (g->A6 c (len e)/\F5 a.1 a.2.2.2.1/\F5 a.2.1 a.2.2.2.1/\Hk a.2.1 a.2.2.2.1/\Hk a.1 a.2.2.2.1/\FU f h/\A5 (c+1),g,((b.1.1,b.1.2.1,b.1.2.2.1,b.1.2.2.2.1,b.1.2.2.2.2.1,()),c+1,()))
def vR8 y x:=(tR7 y x).1
def Kb y x:=(tR7 y x).2.1
def wG y x:=(tR7 y x).2.2
def vY (y:vN8)(x:FV):(Int×Int×Int×(List (List A0))×Int×Unit):=
 let a:=x.1
 a
def tX6:List (Nat×Sh):=[(0,Ac),(2,vB),(7,Bu)]
def qG6:=li [(2,vB),(7,Bu),(32,Bu),(33,vI)] [(0,Ac),(34,vI)] Kb wG vR8 (λy x=>[ex 2 none tX6 ((vY y x),y.1,y.2.1,())]) [tX6]
abbrev vD3:Type:=(Bool×(List CW)×Unit)
def uZ9 (y:vD3)(x:FV):Vn FV:=
 let d:=y.2.1
 let c:=x.1
 let b:=x.2.1
 let f:Bool:=b<len d
 let g:=b-1
 let h:=nth d g BY
 let i:=nth d b BY
 let e:=c
 let a:=wN e h i
 (f->A5 (b-1)/\A6 g (len d)/\A6 b (len d)/\Tz e h i/\A5 (b+1),f,((a.1.1,a.1.2.1,a.1.2.2.1,a.1.2.2.2.1,a.1.2.2.2.2.1,()),b+1,()))
def vM0 y x:=(uZ9 y x).1
def Jh y x:=(uZ9 y x).2.1
def Ji y x:=(uZ9 y x).2.2
def vQ9 (y:vD3)(x:FV):(Int×Int×Int×(List (List A0))×Int×Unit):=
 let a:=x.1
 a
def tO7:List (Nat×Sh):=[(0,Ac),(2,vB),(7,Bu)]
def rT8:=li [(2,vB),(7,Bu)] [(0,Ac),(10,vI)] Jh Ji vM0 (λy x=>[ex 4 none tO7 ((vQ9 y x),y.1,y.2.1,())]) [tO7]
def Xw (p:(Int×Int×Int×(List (List A0))×Int×Unit))(D:List A0)(G:Bool):Prop×(Unit)×((Int×Int×Int×(List (List A0))×Int×Unit)×Unit):=
 let k:=CK D G
 let c:=f229 k G p.1
 let g:=len c==0
 let h:=len k==1
 let s:=nth k (0:Int) A1
 let o:=p
 let e:=PJ o s
 let n:=(G,c,c,len c,())
 let F:=(p,(0:Int),())
 let b:=vY n (A3 (Kb n) (wG n) F)
 let i:=!G
 let t:=len c
 let u:=t-1
 let v:=nth c u BY
 let w:=nth c (0:Int) BY
 let q:=b
 let f:=wN q v w
 let C:=(cond i f.1.1 b.1,cond i f.1.2.1 b.2.1,cond i f.1.2.2.1 b.2.2.1,cond i f.1.2.2.2.1 b.2.2.2.1,cond i f.1.2.2.2.2.1 b.2.2.2.2.1,())
 let j:=(G,c,())
 let B:=(C,(1:Int),())
 let a:=vQ9 j (A3 (Jh j) (Ji j) B)
 let z:=nth c (0:Int) BY
 let A:=len c
 let l:=A-1
 let m:=nth c l BY
 let r:=a
 let d:=Mi r z m
 let E:=(cond g (cond h e.1.1 p.1) (cond G d.1.1 a.1),cond g (cond h e.1.2.1 p.2.1) (cond G d.1.2.1 a.2.1),cond g (cond h e.1.2.2.1 p.2.2.1) (cond G d.1.2.2.1 a.2.2.1),cond g (cond h e.1.2.2.2.1 p.2.2.2.1) (cond G d.1.2.2.2.1 a.2.2.2.1),cond g (cond h e.1.2.2.2.2.1 p.2.2.2.2.1) (cond G d.1.2.2.2.2.1 a.2.2.2.2.1),())
 (pD3 D G/\pD4 k G p.1/\(g->h->A6 (0:Int) (len k)/\sJ3 o s)/\(!g->AA (Kb n) (wG n) (vR8 n) F/\(i->A5 (t-1)/\A6 u (len c)/\A6 (0:Int) (len c)/\Tz q v w)/\AA (Jh j) (Ji j) (vM0 j) B/\(G->A6 (0:Int) (len c)/\A5 (A-1)/\A6 l (len c)/\tJ9 r z m)),(),(E,()))
def Xx a b c:=(Xw a b c).1
def mM8 a b c:=(Xw a b c).2.1
def Iu a b c:=(Xw a b c).2.2
theorem oC2:SK 202 (fnSpec [(0,Ac),(1,Bd),(2,vB)] (.tup .nl) [(0,Ac)] (λx=>Xx x.1 x.2.1 x.2.2.1) (λx=>mM8 x.1 x.2.1 x.2.2.1) (λx=>Iu x.1 x.2.1 x.2.2.1)):=fx (λc=>{ c with wants:=[(230,[]),(231,[1]),(234,[]),(235,[])] }) Tryz.func202 104 [kb mK9,kb mL5,kb oC,kb y5,kb Xu,kb uR,kb oC0,kb oC1] [(6,qG6),(13,rT8)] [(3,[(4,0,20,1007)])] false [0] [59]
abbrev wU9:Type:=((List Bool)×Unit×(List (List A0))×Int×Unit)
def PK (y:wU9)(x:FV):Vm FV:=
 let j:=y.1
 let f:=y.2.2.1
 let c:=x.1
 let b:=x.2.1
 let d:Bool:=b<y.2.2.2.1
 let h:=nth f b ([]:List A0)
 let i:=nth j b false
 let g:=c
 let a:=Iu g h i
 let e:Bool:=a.1.2.2.2.2.1>4096
 (d->A6 b (len f)/\A6 b (len j)/\Xx g h i/\(!e->A5 (b+1)),d&&(!e),((a.1.1,a.1.2.1,a.1.2.2.1,a.1.2.2.2.1,a.1.2.2.2.2.1,()),b+1,()),d&&e,!d)
def TA y x:=(PK y x).1
def Jj y x:=(PK y x).2.1
def HL y x:=(PK y x).2.2.1
def wZ y x:=(PK y x).2.2.2.1
def pD9 y x:=(PK y x).2.2.2.2
def uO6 (y:wU9)(x:FV):(List (List A0)):=
 ([]:List (List A0))
def tX8 (y:wU9)(x:FV):Int:=
 (3:Int)
def rF5:List (Nat×Sh):=[(10,Av),(11,vI)]
def uO7 (y:wU9)(x:FV):(Int×Int×Int×(List (List A0))×Int×Unit):=
 let a:=x.1
 a
def rF6:List (Nat×Sh):=[(14,(.ref 38 Ip)),(38,Bo)]
def pE:=li [(1,Dz),(14,(.ref 38 Ip)),(39,Ak),(40,vI)] [(38,Bo),(41,vI)] Jj HL TA (λy x=>[ex 1 (some (wZ y x)) rF5 ((uO6 y x),(tX8 y x),()),ex 2 (some (pD9 y x)) rF6 (y.2.1,(uO7 y x),())]) [rF5,rF6]
def mM9 (j:(List (List A0)))(k:List Bool)(l m n:Int):Prop×((List (List A0))×Int×Unit):=
 let g:=F4 l m n
 let d:=g !=0
 let h:=DT j (0:Int)
 let e:=h !=0
 let f:=len k !=len j
 let a:=(k,(),j,len j,())
 let i:=((l,m,n,([]:List (List A0)),(0:Int),()),(0:Int),())
 let c:=A3 (Jj a) (HL a) i
 let b:=wZ a c
 (pD2 l m n/\(!d->PE j (0:Int)/\(!e->!f->AA (Jj a) (HL a) (TA a) i)),(cond d [] (cond e [] (cond f [] (cond b (uO6 a c) (uO7 a c).2.2.2.1))),cond d g (cond e h (cond f (15:Int) (cond b (tX8 a c) (0:Int)))),()))
def pE0 a b c d e:=(mM9 a b c d e).1
def F7 a b c d e:=(mM9 a b c d e).2
theorem mN:SK 163 (sp5 Ak Dz vI vI vI (.tup (.cons Av (.cons vI .nl))) pE0 F7):=fx (λc=>{ c with wants:=[(202,[])] }) Tryz.func163 63 [kb pD1,kb mK8,kb oC2] [(11,pE)] [(35,[(4,0,403800,0)])]
def lL (p:AK):Prop×Int:=
 let a:=BQ (Q8 p).1 (Q2 p).1
 let i:=a.2.1 !=0
 let j:=cond ((Qi p).1 !=0) ((Qi p).1 !=1) false
 let k:=cond ((Qb p).1==0) (cond ((Qf p).1 !=0) true ((Qg p).1 !=0)) false
 let b:=BI a.1
 let l:=b.2.1 !=0
 let c:=(Qb p).1 !=0
 let e:=E3 a.1
 let d:=e.2.1 !=0
 let g:=F7 b.1 e.1 (Qb p).1 (Qf p).1 (Qg p).1
 let m:=g.2.1 !=0
 let f:=cond c g.1 b.1
 let q:=cond c (0:Int) (Qi p).1
 let n:=DT f q
 let o:=n !=0
 let h:=cond k (1:Int) (cond l b.2.1 (cond ((d||((!d)&&m))&&c) (cond d e.2.1 g.2.1) (cond o n (Hj (Q9 p).1))))
 (pC7 (Q8 p).1 (Q2 p).1/\(!i->!j->!k->Xp a.1/\(!l->(c->pC8 a.1/\(!d->pE0 b.1 e.1 (Qb p).1 (Qf p).1 (Qg p).1))/\((cond c ((!d)&&(!m)) true)=true->PE f q/\(!o->Tm (Q9 p).1)))),cond i a.2.1 (cond j (8:Int) h))
def pE1 a:=(lL a).1
def Kc a:=(lL a).2
theorem mN0:SK 123 (AS Bc vI pE1 Kc):=fb Tryz.func123 87 [kb pC0,kb mK2,kb oP0,kb mK6,kb mN,kb pD1] [] [(17,[(4,0,44,1005)]),(27,[(4,0,57,1007)]),(33,[(5,0,1005,0),(4,0,72,1005)])]
def Jk (a b c:Int):Prop×Bool:=
 (True,cond (a≥b) (decide (a<=c)) false)
def Lg a b c:=(Jk a b c).1
def BK a b c:=(Jk a b c).2
theorem pE2:SK 237 (DR vI vI vI vB Lg BK):=fb Tryz.func237 15
abbrev vI4:Type:=((List A8)×Int×Int×(List A0)×Unit)
def TB (y:vI4)(x:AF):Vm AF:=
 let a:=x.1
 let b:Bool:=a<3
 let c:=nth y.2.2.2.1 a A1
 let e:=!(BK c.1 (-65536:Int) (65536:Int))
 let d:=cond e true (!(BK c.2.1 (-65536:Int) (65536:Int)))
 (b->A6 a 3/\Lg c.1 (-65536:Int) (65536:Int)/\(!e->Lg c.2.1 (-65536:Int) (65536:Int))/\(!d->A5 (a+1)),b&&(!d),(a+1,()),b&&d,!b)
def rF7 y x:=(TB y x).1
def PL y x:=(TB y x).2.1
def TC y x:=(TB y x).2.2.1
def tR8 y x:=(TB y x).2.2.2.1
def tR9 y x:=(TB y x).2.2.2.2
def tX9 (y:vI4)(x:AF):Int:=
 (2:Int)
def rF8:List (Nat×Sh):=[(19,Aj),(20,vI),(21,vI)]
def pE3:=li [(19,Aj),(20,vI),(21,vI),(26,(.val (.arr 3 AQ)))] [(27,vI)] PL TC rF7 (λy x=>[ex 1 (some (tR8 y x)) [(2,vI)] ((tX9 y x),()),ex 4 (some (tR9 y x)) rF8 (y.1,y.2.1,y.2.2.1,())]) [[(2,vI)],rF8]
def uG (y:Ei)(x:AF):Vm AF:=
 let e:=y.1
 let f:=y.2.1
 let b:=x.1
 let d:Bool:=b<f
 let a:=(e,f,b,(nth e b A4).2.1,())
 let h:=((0:Int),())
 let g:=A3 (PL a) (TC a) h
 let c:=tR9 a g
 (d->A6 b (len e)/\AA (PL a) (TC a) (rF7 a) h/\(c->A5 (b+1)),d&&c,(b+1,()),d&&tR8 a g,!d)
def rW2 y x:=(uG y x).1
def Lh y x:=(uG y x).2.1
def NS y x:=(uG y x).2.2.1
def Xy y x:=(uG y x).2.2.2.1
def oC3 y x:=(uG y x).2.2.2.2
def sR6 (y:Ei)(x:AF):Int:=
 let b:=y.1
 let c:=x.1
 let a:=(b,y.2.1,c,(nth b c A4).2.1,())
 (tX9 a (A3 (PL a) (TC a) ((0:Int),())))
def oC4:=li [(19,Aj),(20,vI)] [(21,vI)] Lh NS rW2 (λy x=>[ex 1 (some (Xy y x)) [(2,vI)] ((sR6 y x),()),ex 2 (some (oC3 y x)) [] ()]) [[(2,vI)],[]]
def lL0 (g:C6):Prop×Int:=
 let b:=!(BK g.2.1 (0:Int) (65536:Int))
 let c:=BH g.2.2.1
 let d:=c !=0
 let a:=(g.2.2.1,len g.2.2.1,())
 let f:=((0:Int),())
 let e:=A3 (Lh a) (NS a) f
 (Lg g.2.1 (0:Int) (65536:Int)/\(!b->P9 g.2.2.1/\(!d->AA (Lh a) (NS a) (rW2 a) f)),cond b (2:Int) (cond d c (cond (Xy a e) (sR6 a e) (0:Int))))
def pE4 a:=(lL0 a).1
def F9 a:=(lL0 a).2
theorem mN1:SK 271 (AS (.val Hb) vI pE4 F9):=fb Tryz.func271 42 [kb o9,kb pE2] [(7,oC4),(10,pE3)]
def mN2 (a b:DD):Prop×Bool:=
 (True,cond (a.1>b.1) true (cond (a.1==b.1) (decide (a.2.1>b.2.1)) false))
def oP9 a b:=(mN2 a b).1
def Iv a b:=(mN2 a b).2
theorem mN3:SK 272 (BD (.val Hc) (.val Hc) vB oP9 Iv):=fb Tryz.func272 24
abbrev vY2:Type:=(A7×(List C6)×Int×Unit)
def NT (y:vY2)(x:AF):Vm AF:=
 let j:=y.1
 let f:=y.2.1
 let a:=x.1
 let b:Bool:=a<y.2.2.1
 let d:=nth f a BG
 let e:Bool:=a>0
 let h:=a-1
 let c:=cond e (decide (d.1<=(nth j.2.2.2.1 h BG).1)) false
 let i:=F9 d !=0
 let g:=(!c)&&(!i)
 (b->A6 a (len f)/\(e->A5 (a-1))/\(e->A6 h (len j.2.2.2.1))/\(!c->pE4 d)/\(g->A5 (a+1)),b&&g,(a+1,()),b&&(c||((!c)&&i)),!b)
def rW3 y x:=(NT y x).1
def TD y x:=(NT y x).2.1
def uG1 y x:=(NT y x).2.2.1
def tK y x:=(NT y x).2.2.2.1
def rW4 y x:=(NT y x).2.2.2.2
def tA (y:vY2)(x:AF):Int:=
 let a:=x.1
 let b:=nth y.2.1 a BG
 (cond (cond (a>0) (decide (b.1<=(nth y.1.2.2.2.1 (a-1) BG).1)) false) (24:Int) (F9 b))
def oC5:=li [(1,Ai),(35,(.val Dh)),(36,vI)] [(37,vI)] TD uG1 rW3 (λy x=>[ex 1 (some (tK y x)) [(2,vI)] ((tA y x),()),ex 2 (some (rW4 y x)) [(1,Ai)] (y.1,())]) [[(2,vI)],[(1,Ai)]]
abbrev vI6:Type:=(A7×(List DD)×Int×Unit)
def NU (y:vI6)(x:AF):Vm AF:=
 let k:=y.1
 let f:=y.2.1
 let a:=x.1
 let b:Bool:=a<y.2.2.1
 let c:=nth f a BV
 let d:Bool:=a>0
 let h:=a-1
 let i:=nth k.2.2.2.2.1 h BV
 let e:=cond d (!(Iv c i)) false
 let j:=!(BK c.2.2.1 (-65536:Int) (65536:Int))
 let g:=(!e)&&(!j)
 (b->A6 a (len f)/\(d->A5 (a-1))/\(d->A6 h (len k.2.2.2.2.1))/\(d->oP9 c i)/\(!e->Lg c.2.2.1 (-65536:Int) (65536:Int))/\(g->A5 (a+1)),b&&g,(a+1,()),b&&(e||((!e)&&j)),!b)
def rF9 y x:=(NU y x).1
def vV y x:=(NU y x).2.1
def vR9 y x:=(NU y x).2.2.1
def uO8 y x:=(NU y x).2.2.2.1
def pE5 y x:=(NU y x).2.2.2.2
def vS0 (y:vI6)(x:AF):Int:=
 let a:=x.1
 (cond (cond (a>0) (!(Iv (nth y.2.1 a BV) (nth y.1.2.2.2.2.1 (a-1) BV))) false) (24:Int) (2:Int))
def pE6:=li [(1,Ai),(63,(.val Dr)),(64,vI)] [(65,vI)] vV vR9 rF9 (λy x=>[ex 1 (some (uO8 y x)) [(2,vI)] ((vS0 y x),()),ex 4 (some (pE5 y x)) [] ()]) [[(2,vI)],[]]
def lL1 (k:A7):Prop×Int:=
 let d:=!(BK k.1 (1:Int) (65536:Int))
 let e:=cond d true (!(BK k.2.1 (0:Int) (65536:Int)))
 let f:=cond e true (!(BK k.2.2.1 (0:Int) (65536:Int)))
 let g:=cond (len k.2.2.2.1>256) true (len k.2.2.2.2.1>256)
 let b:=(k,k.2.2.2.1,len k.2.2.2.1,())
 let j:=((0:Int),())
 let i:=A3 (TD b) (uG1 b) j
 let a:=(k,k.2.2.2.2.1,len k.2.2.2.2.1,())
 let h:=((0:Int),())
 let c:=A3 (vV a) (vR9 a) h
 (Lg k.1 (1:Int) (65536:Int)/\(!d->Lg k.2.1 (0:Int) (65536:Int))/\(!e->Lg k.2.2.1 (0:Int) (65536:Int))/\(!f->!g->AA (TD b) (uG1 b) (rW3 b) j/\(rW4 b i->AA (vV a) (vR9 a) (rF9 a) h)),cond f (2:Int) (cond g (3:Int) (cond (tK b i) (tA b i) (cond (uO8 a c) (vS0 a c) (0:Int)))))
def qG7 a:=(lL1 a).1
def CF a:=(lL1 a).2
theorem mN4:SK 236 (AS Bm vI qG7 CF):=fb Tryz.func236 88 [kb pE2,kb mN1,kb mN3] [(6,oC5),(15,pE6)]
abbrev vY3:Type:=((List UInt8)×Int×Int×Int×Unit)
def NV (y:vY3)(x:AF):Vm AF:=
 let d:=y.1
 let a:=x.1
 let b:Bool:=a<y.2.2.2.1
 let e:Bool:=BP d a<32
 let f:=cond e true (BP d a>126)
 let c:=cond f (BP d a !=10) false
 (b->A6 a (len d)/\(!e->A6 a (len d))/\(f->A6 a (len d))/\(!c->A5 (a+1)),b&&(!c),(a+1,()),b&&c,!b)
def rW5 y x:=(NV y x).1
def PM y x:=(NV y x).2.1
def vO y x:=(NV y x).2.2.1
def tK0 y x:=(NV y x).2.2.2.1
def rW6 y x:=(NV y x).2.2.2.2
def sR7 (y:vY3)(x:AF):Int:=
 (4:Int)
def oC6:=li [(1,vS),(2,vI),(3,vI),(17,vI)] [(18,vI)] PM vO rW5 (λy x=>[ex 1 (some (tK0 y x)) [(8,vI)] ((sR7 y x),()),ex 2 (some (rW6 y x)) [(1,vS),(2,vI),(3,vI)] (y.1,y.2.1,y.2.2.1,())]) [[(8,vI)],[(1,vS),(2,vI),(3,vI)]]
def mN5 (i:A7)(j:List UInt8)(k l:Int):Prop×Int:=
 let c:=CF i
 let d:=c !=0
 let a:=(j,k,l,len j,())
 let h:=((0:Int),())
 let g:=A3 (PM a) (vO a) h
 let e:Bool:=len j>128
 let f:=!(BK k (1:Int) (1048576:Int))
 let b:=cond d c (cond (tK0 a g) (sR7 a g) (cond e (3:Int) (cond (cond f true (!(BK l (0:Int) (1048576:Int)))) (2:Int) (0:Int))))
 (qG7 i/\(!d->AA (PM a) (vO a) (rW5 a) h/\(rW6 a g->!e->Lg k (1:Int) (1048576:Int)/\(!f->Lg l (0:Int) (1048576:Int)))),b)
def qG8 a b c d:=(mN5 a b c d).1
def Kd a b c d:=(mN5 a b c d).2
theorem mN6:SK 203 (Gi Bm vS vI vI vI qG8 Kd):=fb Tryz.func203 49 [kb mN4,kb pE2] [(5,oC6)]
abbrev tA0:Type:=(A7×Unit×(A7×(List Int)×Unit)×(List C6)×Int×Unit)
def qG9 (y:tA0)(x:vD):Vn vD:=
 let b:=y.2.2.2.1
 let a:=x.2.1
 let c:Bool:=a<y.2.2.2.2.1
 (c->A6 a (len b)/\A5 (a+1),c,(cond ((nth b a BG).1==63) a x.1,a+1,()))
def rW7 y x:=(qG9 y x).1
def Xz y x:=(qG9 y x).2.1
def X0 y x:=(qG9 y x).2.2
def tA2 (y:tA0)(x:vD):Int:=
 x.1
def rW8:List (Nat×Sh):=[(1,Ai),(3,Cm),(4,vI),(12,Al)]
def oC7:=li [(1,Ai),(3,Cm),(12,Al),(14,(.val Dh)),(15,vI)] [(4,vI),(16,vI)] Xz X0 rW7 (λy x=>[ex 2 none rW8 (y.1,y.2.1,(tA2 y x),y.2.2.1,())]) [rW8]
abbrev uK7:Type:=(A7×Unit×Int×Unit)
abbrev TE:Type:=((A7×(List Int)×Unit)×Int×Unit)
def rG (y:uK7)(x:TE):Vn TE:=
 let b:=x.1
 let a:=x.2.1
 let c:Bool:=a<256
 (c->A6 a 256/\A5 (a+1),c,((b.1,set b.2.1 (toNat a) y.2.2.1,()),a+1,()))
def rG0 y x:=(rG y x).1
def X1 y x:=(rG y x).2.1
def X2 y x:=(rG y x).2.2
def uO9 (y:uK7)(x:TE):(A7×(List Int)×Unit):=
 let a:=x.1
 (a.1,a.2.1,())
def rG1:List (Nat×Sh):=[(1,Ai),(3,Cm),(12,Al)]
def pE7:=li [(1,Ai),(3,Cm),(4,vI)] [(12,Al),(26,vI)] X1 X2 rG0 (λy x=>[ex 4 none rG1 (y.1,y.2.1,(uO9 y x),())]) [rG1]
abbrev uK9:Type:=(Unit×(List C6)×Int×Unit)
def rG2 (y:uK9)(x:TE):Vn TE:=
 let c:=y.2.1
 let b:=x.1
 let a:=x.2.1
 let d:Bool:=a<y.2.2.1
 let e:=nth c a BG
 (d->A6 a (len c)/\A6 e.1 256/\A5 (a+1),d,((b.1,set b.2.1 (toNat e.1) a,()),a+1,()))
def rG3 y x:=(rG2 y x).1
def uL y x:=(rG2 y x).2.1
def X3 y x:=(rG2 y x).2.2
def uP (y:uK9)(x:TE):(A7×(List Int)×Unit):=
 let a:=x.1
 (a.1,a.2.1,())
def rG4:List (Nat×Sh):=[(3,Cm),(12,Al)]
def pE8:=li [(3,Cm),(37,(.val Dh)),(38,vI)] [(12,Al),(39,vI)] uL X3 rG3 (λy x=>[ex 6 none rG4 (y.1,(uP y x),())]) [rG4]
def mN7 (i:A7):Prop×AU:=
 let e:=(i,(),(i,replicate 256 (0:Int),()),i.2.2.2.1,len i.2.2.2.1,())
 let h:=((-1:Int),(0:Int),())
 let c:=(i,(),tA2 e (A3 (Xz e) (X0 e) h),())
 let f:=((i,replicate 256 (0:Int),()),(0:Int),())
 let a:=uO9 c (A3 (X1 c) (X2 c) f)
 let d:=((),i.2.2.2.1,len i.2.2.2.1,())
 let g:=((a.1,a.2.1,()),(0:Int),())
 let b:=uP d (A3 (uL d) (X3 d) g)
 (AA (Xz e) (X0 e) (rW7 e) h/\AA (X1 c) (X2 c) (rG0 c) f/\AA (uL d) (X3 d) (rG3 d) g,(b.1,b.2.1,()))
def X4 a:=(mN7 a).1
def BC a:=(mN7 a).2
theorem mN8:SK 204 (AS Bm Ba X4 BC):=fb Tryz.func204 53 [] [(4,oC7),(10,pE7),(15,pE8)] [(39,[(3,12,0,0)])]
end Go.Proofs.YtgjdonlgingdeaaGreatDoor.Am
