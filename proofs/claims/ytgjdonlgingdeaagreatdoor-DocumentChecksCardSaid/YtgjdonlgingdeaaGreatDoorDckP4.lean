/- Printed by program, part 4. No condition. -/
import Derived.Test.YtgjdonlgingdeaaGreatDoorDckP3
set_option linter.unusedVariables false
set_option synthInstance.maxSize 4000
set_option synthInstance.maxHeartbeats 400000
namespace Go.Proofs.YtgjdonlgingdeaaGreatDoor.Am
open Go Go.Am Go.Proofs
open Go.IntKind (wrap)
open _root_.Int (sub tdiv tmod toNat)
open _root_.List (length set take)
def mM8 (i j:AK):Prop×Bool:=
 let c:=cond (cond (Kf (Q6 i).1 (Q6 j).1) (Ty.eqb Gf (Q9 i).1 (Q9 j).1) false) ((Qc i).1==(Qc j).1) false
 let d:=cond (cond c (Ke (Qa i).1 (Qa j).1) false) ((Qe i).1==(Qe j).1) false
 let e:=cond d (Mg (Qd i).1 (Qd j).1) false
 let f:=cond (cond e (Mh (Q8 i).1 (Q8 j).1) false) ((Qi i).1==(Qi j).1) false
 let g:=cond (cond f ((Qb i).1==(Qb j).1) false) ((Qf i).1==(Qf j).1) false
 let h:=cond (cond g ((Qg i).1==(Qg j).1) false) ((Qj i).1==(Qj j).1) false
 let b:=cond (cond h ((Ql i).1==(Ql j).1) false) ((Qm i).1==(Qm j).1) false
 let a:=cond b ((Qh i).1==(Qh j).1) false
 (pE5 (Q6 i).1 (Q6 j).1/\(c=true->qE9 (Qa i).1 (Qa j).1)/\(d=true->pE6 (Qd i).1 (Qd j).1)/\(e=true->pE7 (Q8 i).1 (Q8 j).1)/\(a=true->pE8 (Qk i).1 (Qk j).1),cond a (Kg (Qk i).1 (Qk j).1) false)
def pE9 a b:=(mM8 a b).1
def Iy a b:=(mM8 a b).2
theorem mM9:SK 104 (BG Bb Bb vB pE9 Iy):=fb Tryz.func104 115 [kb oQ6,kb mM4,kb mM5,kb mM6,kb mM7]
def Yo (e f:AK):Prop×Bool:=
 let c:=cond (cond (cond (cond (e.1==f.1) (e.2.1==f.2.1) false) (e.2.2.1==f.2.2.1) false) (e.2.2.2.1==f.2.2.2.1) false) (Ty.eqb .bool e.2.2.2.2.1 f.2.2.2.2.1) false
 let d:=cond (cond (cond c (Ty.eqb .bool (Q1 e).1 (Q1 f).1) false) (Ty.eqb .bool (Q3 e).1 (Q3 f).1) false) ((Q0 e).1==(Q0 f).1) false
 let a:=cond d ((Q5 e).1==(Q5 f).1) false
 let b:=cond (cond (cond a (Mf (Q4 e).1 (Q4 f).1) false) (Ty.eqb H9 (Q2 e).1 (Q2 f).1) false) ((Q7 e).1==(Q7 f).1) false
 ((a=true->pE4 (Q4 e).1 (Q4 f).1)/\(b=true->pE9 e f),cond b (Iy e f) false)
def Yp a b:=(Yo a b).1
def Qx a b:=(Yo a b).2
theorem nY3:SK 69 (BG Bb Bb vB Yp Qx):=fb Tryz.func69 92 [kb mM3,kb mM9]
abbrev uP0:Type:=(Ge×Unit)
def Yq (y:uP0)(x:AA):Prop×Bool×AA×Bool×Bool:=
 let d:=y.1
 let b:=x.1
 let a:=decide (b<len d.2.2.1)
 let e:=decide (nth d.2.2.1 b (0:Int)<0)
 let c:=cond e true (decide (nth d.2.2.1 b (0:Int)>65535))
 (a=true->A6 b (len d.2.2.1)/\((!e)=true->A6 b (len d.2.2.1))/\((!c)=true->A5 (b+1)),a&&(!c),(b+1,()),a&&c,!a)
def rG5 y x:=(Yq y x).1
def sX2 y x:=(Yq y x).2.1
def uP1 y x:=(Yq y x).2.2.1
def qS4 y x:=(Yq y x).2.2.2.1
def oQ7 y x:=(Yq y x).2.2.2.2
def rG6 (y:uP0)(x:AA):Int:=
 (2:Int)
def oQ8:=li [(1,(.box Ij Ca))] [(3,vI)] sX2 uP1 rG5 (λy x=>[ex 1 (some (qS4 y x)) [(2,vI)] ((rG6 y x),()),ex 2 (some (oQ7 y x)) [] ()]) [[(2,vI)],[]]
def Yr (g:Ge):Prop×Int:=
 let b:=cond (cond (cond (decide (g.1<0)) true (decide (g.1>256))) true (decide (g.2.1<0))) true (decide (g.2.1>256))
 let c:=!(Ty.eqb .bool (g.1==0) (g.2.1==0))
 let d:=cond c true (len g.2.2.1!=(g.1*g.2.1))
 let a:=(g,())
 let f:=((0:Int),())
 let e:=A3 (sX2 a) (uP1 a) f
 ((!b)=true->((!c)=true->A5 (g.1*g.2.1))/\((!d)=true->Am.Ends (sX2 a) (uP1 a) (rG5 a) f),cond b (15:Int) (cond d (15:Int) (cond (qS4 a e) (rG6 a e) (0:Int))))
def pN4 a:=(Yr a).1
def TY a:=(Yr a).2
theorem nY4:SK 36 (AP Ca vI pN4 TY):=fb Tryz.func36 61 [] [(6,oQ8)]
def lJ4 (a b c:Int):Prop×Bool:=
 (True,cond (decide (a≥b)) (decide (a<=c)) false)
def NS a b c:=(lJ4 a b c).1
def EY a b c:=(lJ4 a b c).2
theorem oQ9:SK 130 (DN vI vI vI vB NS EY):=fb Tryz.func130 15
def mN (d:Int):Prop×(List UInt8):=
 let b:=cond (decide (d<1)) true (decide (d>11))
 let c:=([([103,114,111,117,112]:List UInt8),([105,109,97,103,101]:List UInt8),([102,105,108,108]:List UInt8),([103,114,97,100,105,101,110,116]:List UInt8),([112,97,116,104]:List UInt8),([116,101,120,116]:List UInt8),([97,100,106,117,115,116]:List UInt8),([102,105,108,116,101,114]:List UInt8),([108,105,110,107]:List UInt8),([99,108,111,110,101]:List UInt8),([119,97,114,112]:List UInt8)]:List (List UInt8))
 let a:=d-1
 ((!b)=true->A5 (d-1)/\A6 a (len c),cond b ([]:List UInt8) (nth c a ([]:List UInt8)))
def pF a:=(mN a).1
def Mi a:=(mN a).2
theorem mN0:SK 131 (AP vI vS pF Mi):=fb Tryz.func131 14
abbrev TZ:Type:=((List UInt8)×Unit)
def Ys (y:TZ)(x:AA):Prop×Bool×AA×Bool×Bool:=
 let c:=y.1
 let a:=x.1
 let e:=decide (a<len c)
 let d:=decide (BN c a<33)
 let b:=cond d true (decide (BN c a>126))
 (e=true->A6 a (len c)/\((!d)=true->A6 a (len c))/\((!b)=true->A5 (a+1)),e&&(!b),(a+1,()),e&&b,!e)
def rW y x:=(Ys y x).1
def Ua y x:=(Ys y x).2.1
def Ub y x:=(Ys y x).2.2.1
def rW0 y x:=(Ys y x).2.2.2.1
def oB9 y x:=(Ys y x).2.2.2.2
def sR3 (y:TZ)(x:AA):Bool:=
 false
def oC:=li [(0,vS)] [(3,vI)] Ua Ub rW (λy x=>[ex 1 (some (rW0 y x)) [(2,vB)] ((sR3 y x),()),ex 2 (some (oB9 y x)) [(0,vS)] (y.1,())]) [[(2,vB)],[(0,vS)]]
def lJ5 (d:List UInt8):Prop×Bool:=
 let a:=(d,())
 let c:=((0:Int),())
 let b:=A3 (Ua a) (Ub a) c
 (Am.Ends (Ua a) (Ub a) (rW a) c,cond (rW0 a b) (sR3 a b) (cond (decide (len d>0)) (decide (len d<=32)) false))
def pF0 a:=(lJ5 a).1
def Mj a:=(lJ5 a).2
theorem mN1:SK 132 (AP vS vB pF0 Mj):=fb Tryz.func132 28 [] [(2,oC)]
def lJ6 (a:Int):Prop×Bool:=
 (True,cond (decide (a≥0)) (decide (a<=17)) false)
def oR a:=(lJ6 a).1
def Qy a:=(lJ6 a).2
theorem mN2:SK 133 (AP vI vB oR Qy):=fb Tryz.func133 9
def lJ7 (a:AK):Prop×Bool:=
 (True,cond (cond (a.2.1==7) true (a.2.1==8)) true (a.2.1==11))
def oR0 a:=(lJ7 a).1
def Yt a:=(lJ7 a).2
theorem mN3:SK 134 (AP Bb vB oR0 Yt):=fb Tryz.func134 16
def Qz (l:AK)(m n:Int):Prop×Int:=
 let b:=!(EY m (1:Int) (256:Int))
 let c:=cond b true (!(EY n (1:Int) (256:Int)))
 let d:=Mi l.2.1==([]:List UInt8)
 let e:=!(Mj l.2.2.2.1)
 let f:=!(EY l.1 (0:Int) (1073741824:Int))
 let g:=cond f true (!(EY l.2.2.1 (0:Int) (1073741824:Int)))
 let h:=cond g true (!(EY (Q0 l).1 (0:Int) (65535:Int)))
 let i:=!(Qy (Q5 l).1)
 let j:=cond i true (cond (Yt l) ((Q5 l).1 !=0) false)
 let k:=TY (Q4 l).1
 let a:=cond (k !=0) k (cond (cond ((Q4 l).1.1 !=0) (cond ((Q4 l).1.1 !=m) true ((Q4 l).1.2.1 !=n)) false) (15:Int) (0:Int))
 (NS m (1:Int) (256:Int)/\((!b)=true->NS n (1:Int) (256:Int))/\((!c)=true->pF l.2.1/\((!d)=true->pF0 l.2.2.2.1/\((!e)=true->NS l.1 (0:Int) (1073741824:Int)/\((!f)=true->NS l.2.2.1 (0:Int) (1073741824:Int))/\((!g)=true->NS (Q0 l).1 (0:Int) (65535:Int))/\((!h)=true->oR (Q5 l).1/\((!i)=true->oR0 l)/\((!j)=true->pN4 (Q4 l).1))))),cond c (15:Int) (cond d (8:Int) (cond e (13:Int) (cond h (2:Int) (cond j (8:Int) a)))))
def oR1 a b c:=(Qz a b c).1
def Uc a b c:=(Qz a b c).2
theorem lJ8:SK 94 (DN Bb vI vI vI oR1 Uc):=fb Tryz.func94 77 [kb nY4,kb oQ9,kb mN0,kb mN1,kb mN2,kb mN3]
def QA (a:Int):Prop×Bool:=
 (True,cond (cond (cond (cond (a==2) true (a==5)) true (a==6)) true (a==9)) true (a==10))
def oR2 a:=(QA a).1
def QB a:=(QA a).2
theorem nY5:SK 95 (AP vI vB oR2 QB):=fb Tryz.func95 21
def lJ9 (a b c:Int):Prop×Int:=
 (True,G7 c (wC a b))
def Yu a b c:=(lJ9 a b c).1
def Kh a b c:=(lJ9 a b c).2
theorem qF:SK 211 (DN vI vI vI vI Yu Kh):=fb Tryz.func211 12
def lK (a:Int):Prop×Int:=
 (Yu a (-16777216:Int) (16777216:Int),Kh a (-16777216:Int) (16777216:Int))
def Yv a:=(lK a).1
def Ki a:=(lK a).2
theorem mN4:SK 173 (AP vI vI Yv Ki):=fb Tryz.func173 5 [kb qF]
def lK0 (a:Int):Prop×Int:=
 (Yu a (-1099511627776:Int) (1099511627776:Int),Kh a (-1099511627776:Int) (1099511627776:Int))
def QC a:=(lK0 a).1
def Hk a:=(lK0 a).2
theorem oR3:SK 174 (AP vI vI QC Hk):=fb Tryz.func174 5 [kb qF]
def lK1 (a:C4):Prop×C4:=
 (Yv a.1/\Yv a.2.1/\Yv a.2.2.1/\Yv a.2.2.2.1/\QC a.2.2.2.2.1/\QC (Q1 a).1,(Ki a.1,Ki a.2.1,Ki a.2.2.1,Ki a.2.2.2.1,Hk a.2.2.2.2.1,Hk (Q1 a).1,()))
def qF0 a:=(lK1 a).1
def Kj a:=(lK1 a).2
theorem oR4:SK 135 (AP Ay Ay qF0 Kj):=fb Tryz.func135 22 [kb mN4,kb oR3]
def Yw (a:C4):Prop×Int:=
 (qF0 a,cond (!(Ty.eqb H9 (Kj a) a)) (2:Int) (0:Int))
def NT a:=(Yw a).1
def Gn a:=(Yw a).2
theorem pN5:SK 96 (AP Ay vI NT Gn):=fb Tryz.func96 7 [kb oR4]
def nN0 (f g:Int):Prop×Int:=
 let e:=g==0
 let b:=cond (f==(-9223372036854775808)) (g==(-1)) false
 let c:=wrap .i64 (tdiv f g)
 let d:=tmod f g
 let a:=cond e (0:Int) (cond b (9223372036854775807:Int) (cond (cond (d !=0) (!(Ty.eqb .bool (decide (d<0)) (decide (g<0)))) false) (wrap .i64 (c-1)) c))
 ((!e)=true->(!b)=true->g≠0/\g≠0,a)
def QD a b:=(nN0 a b).1
def ES a b:=(nN0 a b).2
theorem oR5:SK 175 (BG vI vI vI QD ES):=fb Tryz.func175 33 [] [] [] true
def Yx (a:Int):Prop×Int:=
 (True,cond (decide (a<0)) (wrap .u64 (0-(wrap .u64 a))) (wrap .u64 a))
def QE a:=(Yx a).1
def BB a:=(Yx a).2
theorem oR7:SK 176 (AP vI Ap QE BB):=fb Tryz.func176 10 [] [] [] true
def nN1 (f g:Int):Prop×Int:=
 let e:=g==0
 let a:=ES f g
 let b:=cond (f==(-9223372036854775808)) (g==(-1)) false
 let c:=wrap .i64 (f-(wrap .i64 (g*a)))
 let d:=BB c
 ((!e)=true->QD f g/\((!b)=true->QE c/\QE g),cond e (0:Int) (cond b a (cond (decide (d≥wrap .u64 (BB g-d))) (wrap .i64 (a+1)) a)))
def En a b:=(nN1 a b).1
def AZ a b:=(nN1 a b).2
def oR8:=BG vI vI vI En AZ
theorem Iz:SK 136 (BG vI vI vI En AZ):=fb Tryz.func136 34 [kb oR5,kb oR7] [] [] true
def mN5 (d e f g:Int):Prop×Int:=
 let a:=ES f (65536:Int)
 let b:=ES g (65536:Int)
 let c:=wrap .i64 (wrap .i64 (d*wrap .i64 (f-(wrap .i64 (a*65536))))+wrap .i64 (e*wrap .i64 (g-(wrap .i64 (b*65536)))))
 (QD f (65536:Int)/\QD g (65536:Int)/\En c (65536:Int),wrap .i64 (wrap .i64 (wrap .i64 (d*a)+wrap .i64 (e*b))+AZ c (65536:Int)))
def Ud a b c d:=(mN5 a b c d).1
def Hl a b c d:=(mN5 a b c d).2
theorem oR9:SK 137 (Fw vI vI vI vI vI Ud Hl):=fb Tryz.func137 41 [kb Iz,kb oR5] [] [] true
def QF (p:C4):Prop×(C4×Int×Unit):=
 let v:=Gn p
 let c:=v !=0
 let a:=wrap .i64 (wrap .i64 (p.1*p.2.2.2.1)-(wrap .i64 (p.2.1*p.2.2.1)))
 let d:=a==0
 let l:=wrap .i64 (p.2.2.2.1*4294967296)
 let e:=AZ l a
 let m:=wrap .i64 (wrap .i64 (sub 0 p.2.1)*4294967296)
 let f:=AZ m a
 let n:=wrap .i64 (wrap .i64 (sub 0 p.2.2.1)*4294967296)
 let g:=AZ n a
 let o:=wrap .i64 (p.1*4294967296)
 let h:=AZ o a
 let k:=(e,f,g,h,(0:Int),(0:Int),())
 let i:=Gn k !=0
 let q:=wrap .i64 (sub 0 e)
 let r:=wrap .i64 (sub 0 g)
 let s:=wrap .i64 (sub 0 f)
 let t:=wrap .i64 (sub 0 h)
 let b:=(e,f,g,h,Hl q r p.2.2.2.2.1 (Q1 p).1,Hl s t p.2.2.2.2.1 (Q1 p).1,())
 let u:=Gn b !=0
 let j:=cond d ((0:Int),(0:Int),(0:Int),(0:Int),(0:Int),(0:Int),()) (cond i ((0:Int),(0:Int),(0:Int),(0:Int),(0:Int),(0:Int),()) (cond u ((0:Int),(0:Int),(0:Int),(0:Int),(0:Int),(0:Int),()) b))
 (NT p/\((!c)=true->(!d)=true->En l a/\En m a/\En n a/\En o a/\NT k/\((!i)=true->Ud q r p.2.2.2.2.1 (Q1 p).1/\Ud s t p.2.2.2.2.1 (Q1 p).1/\NT b)),(cond c ((0:Int),(0:Int),(0:Int),(0:Int),(0:Int),(0:Int),()) j,cond c v (cond d (17:Int) (cond i (17:Int) (cond u (17:Int) (0:Int)))),()))
def oS a:=(QF a).1
def Ue a:=(QF a).2
theorem lK2:SK 97 (AP Ay (.tup (.cons Ay (.cons vI .nl))) oS Ue):=fb Tryz.func97 88 [kb pN5,kb Iz,kb oR9] [] [] true
def QG (a:Int):Prop×Bool:=
 (True,cond (cond (cond (a==2) true (a==9)) true (a==10)) true (a==11))
def oS0 a:=(QG a).1
def QH a:=(QG a).2
theorem nY6:SK 98 (AP vI vB oS0 QH):=fb Tryz.func98 17
def Yy (a:Int):Prop×Bool:=
 (True,cond (decide (a≥0)) (decide (a<=4)) false)
def nY7 a:=(Yy a).1
def f99 a:=(Yy a).2
theorem lK3:SK 99 (AP vI vB nY7 f99):=fb Tryz.func99 9
def lK4 (a:Int):Prop×Int:=
 (Yu a (0:Int) (65535:Int),Kh a (0:Int) (65535:Int))
def Yz a:=(lK4 a).1
def Kk a:=(lK4 a).2
theorem mN6:SK 192 (AP vI vI Yz Kk):=fb Tryz.func192 5 [kb qF]
def lK5 (a:CE):Prop×CE:=
 (Yz a.1/\Yz a.2.1/\Yz a.2.2.1/\Yz a.2.2.2.1,(Kk a.1,Kk a.2.1,Kk a.2.2.1,Kk a.2.2.2.1,()))
def oS1 a:=(lK5 a).1
def Y0 a:=(lK5 a).2
theorem mN7:SK 145 (AP Cj Cj oS1 Y0):=fb Tryz.func145 16 [kb mN6]
def lK6 (a:CE):Prop×Bool:=
 (oS1 a,Ty.eqb Gf (Y0 a) a)
def Uf a:=(lK6 a).1
def Gp a:=(lK6 a).2
theorem qF1:SK 102 (AP Cj vB Uf Gp):=fb Tryz.func102 7 [kb mN7]
abbrev uP2:Type:=(HD×Unit)
def rH (y:uP2)(x:AA):Prop×Bool×AA×Bool×Bool:=
 let e:=y.1
 let c:=x.1
 let a:=decide (c<len e.2.2.1)
 let d:=nth e.2.2.1 c Ik
 let b:=!(Gp d)
 (a=true->A6 c (len e.2.2.1)/\Uf d/\((!b)=true->A5 (c+1)),a&&(!b),(c+1,()),a&&b,!a)
def rH0 y x:=(rH y x).1
def sX3 y x:=(rH y x).2.1
def uP3 y x:=(rH y x).2.2.1
def qS5 y x:=(rH y x).2.2.2.1
def oS2 y x:=(rH y x).2.2.2.2
def rH1 (y:uP2)(x:AA):Int:=
 (2:Int)
def oS3:=li [(1,Dg)] [(3,vI)] sX3 uP3 rH0 (λy x=>[ex 1 (some (qS5 y x)) [(2,vI)] ((rH1 y x),()),ex 2 (some (oS2 y x)) [] ()]) [[(2,vI)],[]]
def Y1 (g:HD):Prop×Int:=
 let b:=cond (cond (cond (decide (g.1<0)) true (decide (g.1>256))) true (decide (g.2.1<0))) true (decide (g.2.1>256))
 let c:=!(Ty.eqb .bool (g.1==0) (g.2.1==0))
 let d:=cond c true (len g.2.2.1!=(g.1*g.2.1))
 let a:=(g,())
 let f:=((0:Int),())
 let e:=A3 (sX3 a) (uP3 a) f
 ((!b)=true->((!c)=true->A5 (g.1*g.2.1))/\((!d)=true->Am.Ends (sX3 a) (uP3 a) (rH0 a) f),cond b (15:Int) (cond d (15:Int) (cond (qS5 a e) (rH1 a e) (0:Int))))
def Ug a:=(Y1 a).1
def Le a:=(Y1 a).2
theorem nY8:SK 64 (AP Cd vI Ug Le):=fb Tryz.func64 54 [kb qF1] [(6,oS3)]
def lK7 (a:CE):Prop×Int:=
 (Uf a,cond (!(Gp a)) (2:Int) (0:Int))
def NU a:=(lK7 a).1
def f138 a:=(lK7 a).2
def oS4:=AP Cj vI NU f138
theorem pF1:SK 138 (AP Cj vI NU f138):=fb Tryz.func138 6 [kb qF1]
def lK8 (b:Int)(c:List Int)(d:Int):Prop×Int:=
 let a:=cond (cond (cond (cond (decide (b<1)) true (decide (b>4))) true (decide (d<0))) true (decide (d>2))) (8:Int) (cond (cond (cond (b==1) (len c !=4) false) true (cond (b !=1) (len c !=3) false)) (1:Int) (0:Int))
 (True,a)
def oS5 a b c:=(lK8 a b c).1
def I0 a b c:=(lK8 a b c).2
theorem mN8:SK 177 (DN vI Ak vI vI oS5 I0):=fb Tryz.func177 37
abbrev vZ5:Type:=(Int×(List Int)×Int×Unit)
def Y2 (y:vZ5)(x:AA):Prop×Bool×AA×Bool×Bool:=
 let d:=y.2.1
 let a:=x.1
 let e:=decide (a<y.2.2.1)
 let c:=decide (nth d a (0:Int)<(-1048576))
 let b:=cond c true (decide (nth d a (0:Int)>1048576))
 (e=true->A6 a (len d)/\((!c)=true->A6 a (len d))/\((!b)=true->A5 (a+1)),e&&(!b),(a+1,()),e&&b,!e)
def rW2 y x:=(Y2 y x).1
def tZ3 y x:=(Y2 y x).2.1
def uG y x:=(Y2 y x).2.2.1
def rW3 y x:=(Y2 y x).2.2.2.1
def rW4 y x:=(Y2 y x).2.2.2.2
def sR5 (y:vZ5)(x:AA):Int:=
 (2:Int)
def rW5:List (Nat×Sh):=[(0,vI),(1,Ak)]
def oC0:=li [(0,vI),(1,Ak),(7,vI)] [(8,vI)] tZ3 uG rW2 (λy x=>[ex 1 (some (rW3 y x)) [(4,vI)] ((sR5 y x),()),ex 2 (some (rW4 y x)) rW5 (y.1,y.2.1,())]) [[(4,vI)],rW5]
def lK9 (e:Int)(f:List Int):Prop×Int:=
 let a:=(e,f,len f,())
 let d:=((0:Int),())
 let c:=A3 (tZ3 a) (uG a) d
 let b:=cond (e==2) true (e==4)
 (Am.Ends (tZ3 a) (uG a) (rW2 a) d/\(rW4 a c=true->b=true->A6 (2:Int) (len f)),cond (rW3 a c) (sR5 a c) (cond (cond b (decide (nth f (2:Int) (0:Int)<0)) false) (2:Int) (0:Int)))
def oS6 a b:=(lK9 a b).1
def Kl a b:=(lK9 a b).2
theorem mN9:SK 178 (BG vI Ak vI oS6 Kl):=fb Tryz.func178 36 [] [(2,oC0)]
def QI (y:vH9)(x:AA):Prop×Bool×AA×Bool×Bool:=
 let b:=y.1
 let a:=x.1
 let c:=decide (a<y.2.1)
 let h:=decide ((nth b a CO).1<0)
 let f:=cond h true (decide ((nth b a CO).1>65535))
 let i:=nth b a CO
 let d:=cond f true (!(Gp i.2.1))
 let e:=decide (a>0)
 let j:=a-1
 let k:=cond e (decide ((nth b a CO).1<=(nth b j CO).1)) false
 let g:=(!d)&&(!k)
 (c=true->A6 a (len b)/\((!h)=true->A6 a (len b))/\((!f)=true->A6 a (len b))/\((!f)=true->Uf i.2.1)/\((!d)=true->(e=true->A6 a (len b))/\(e=true->A5 (a-1))/\(e=true->A6 j (len b)))/\(g=true->A5 (a+1)),c&&g,(a+1,()),c&&(d||((!d)&&k)),!c)
def sI7 y x:=(QI y x).1
def Y3 y x:=(QI y x).2.1
def uG0 y x:=(QI y x).2.2.1
def sI8 y x:=(QI y x).2.2.2.1
def oC1 y x:=(QI y x).2.2.2.2
def tB4 (y:vH9)(x:AA):Int:=
 let b:=y.1
 let a:=x.1
 (cond (cond (cond (decide ((nth b a CO).1<0)) true (decide ((nth b a CO).1>65535))) true (!(Gp (nth b a CO).2.1))) (2:Int) (24:Int))
def oC2:=li [(0,An),(11,vI)] [(12,vI)] Y3 uG0 sI7 (λy x=>[ex 1 (some (sI8 y x)) [(2,vI)] ((tB4 y x),()),ex 2 (some (oC1 y x)) [] ()]) [[(2,vI)],[]]
def mO (f:List AW):Prop×Int:=
 let c:=len f==0
 let d:=decide (len f>16)
 let a:=(f,len f,())
 let e:=((0:Int),())
 let b:=A3 (Y3 a) (uG0 a) e
 ((!c)=true->(!d)=true->Am.Ends (Y3 a) (uG0 a) (sI7 a) e,cond c (1:Int) (cond d (3:Int) (cond (sI8 a b) (tB4 a b) (0:Int))))
def pF2 a:=(mO a).1
def Km a:=(mO a).2
theorem mO0:SK 179 (AP An vI pF2 Km):=fb Tryz.func179 55 [kb qF1] [(6,oC2)]
def lL (g:Int)(h:List Int)(i:Int)(j:List AW):Prop×Int:=
 let a:=I0 g h i
 let b:=a !=0
 let c:=len j==0
 let d:=decide (len j>16)
 let e:=Kl g h
 let f:=e !=0
 (oS5 g h i/\((!b)=true->(!c)=true->(!d)=true->oS6 g h/\((!f)=true->pF2 j)),cond b a (cond c (1:Int) (cond d (3:Int) (cond f e (Km j)))))
def pF3 a b c d:=(lL a b c d).1
def Mk a b c d:=(lL a b c d).2
theorem mO1:SK 139 (Fw vI Ak vI An vI pF3 Mk):=fb Tryz.func139 31 [kb mN8,kb mN9,kb mO0]
def mO2 (f:Int):Prop×Int:=
 let d:=f==1
 let c:=cond d d (f==2)
 let e:=f==3
 let b:=f==4
 let a:=cond (cond c true (cond e true (cond b true (f==5)))) (cond c (1:Int) (cond e (2:Int) (cond b (3:Int) (0:Int)))) (-1:Int)
 (True,a)
def QJ a:=(mO2 a).1
def B7 a:=(mO2 a).2
theorem Y4:SK 213 (AP vI vI QJ B7):=fb Tryz.func213 13
def mO3 (a:A0):Prop×Bool:=
 (True,cond (cond (cond (decide (a.1≥(-16777216))) (decide (a.1<=16777216)) false) (decide (a.2.1≥(-16777216))) false) (decide (a.2.1<=16777216)) false)
def Y5 a:=(mO3 a).1
def DU a:=(mO3 a).2
theorem pF4:SK 215 (AP Aq vB Y5 DU):=fb Tryz.func215 21
abbrev vZ7:Type:=(A8×Unit)
def Uh (y:vZ7)(x:AA):Prop×Bool×AA×Bool×Bool:=
 let e:=y.1
 let a:=x.1
 let h:=decide (a<3)
 let b:=decide (a<B7 e.1)
 let f:=nth e.2.1 a A1
 let c:=cond b (!(DU f)) false
 let g:=decide (a≥B7 e.1)
 let d:=cond c true (cond g (!(Ty.eqb AN (nth e.2.1 a A1) ((0:Int),(0:Int),()))) false)
 (h=true->QJ e.1/\(b=true->A6 a 3)/\(b=true->Y5 f)/\((!c)=true->QJ e.1)/\(((!c)&&g)=true->A6 a 3)/\((!d)=true->A5 (a+1)),h&&(!d),(a+1,()),h&&d,!h)
def rW6 y x:=(Uh y x).1
def NV y x:=(Uh y x).2.1
def QK y x:=(Uh y x).2.2.1
def sI9 y x:=(Uh y x).2.2.2.1
def oC3 y x:=(Uh y x).2.2.2.2
def sR6 (y:vZ7)(x:AA):Bool:=
 false
def oC4:=li [(1,Bh)] [(3,vI)] NV QK rW6 (λy x=>[ex 1 (some (sI9 y x)) [(2,vB)] ((sR6 y x),()),ex 2 (some (oC3 y x)) [] ()]) [[(2,vB)],[]]
def lL0 (d:A8):Prop×Bool:=
 let a:=(d,())
 let c:=((0:Int),())
 let b:=A3 (NV a) (QK a) c
 (Am.Ends (NV a) (QK a) (rW6 a) c,cond (sI9 a b) (sR6 a b) true)
def pF5 a:=(lL0 a).1
def Hm a:=(lL0 a).2
theorem mO4:SK 246 (AP Dd vB pF5 Hm):=fb Tryz.func246 36 [kb Y4,kb pF4] [(2,oC4)]
abbrev NW:Type:=((List A8)×Unit)
def NX (y:NW)(x:AA):Prop×Bool×AA×Bool×Bool:=
 let b:=y.1
 let a:=x.1
 let c:=decide (a<len b)
 let i:=nth b a A4
 let d:=decide (B7 i.1<0)
 let j:=nth b a A4
 let e:=!(Hm j)
 let f:=(nth b a A4).1 !=1
 let g:=a==0
 let k:=a-1
 let l:=cond f (cond g true ((nth b k A4).1==5)) false
 let h:=(!d)&&((!e)&&(!l))
 (c=true->A6 a (len b)/\QJ i.1/\((!d)=true->A6 a (len b)/\pF5 j/\((!e)=true->A6 a (len b)/\((f&&(!g))=true->A5 (a-1))/\((f&&(!g))=true->A6 k (len b))))/\(h=true->A5 (a+1)),c&&h,(a+1,()),c&&(d||((!d)&&(e||((!e)&&l)))),!c)
def rW7 y x:=(NX y x).1
def Ui y x:=(NX y x).2.1
def uG2 y x:=(NX y x).2.2.1
def tJ8 y x:=(NX y x).2.2.2.1
def oC5 y x:=(NX y x).2.2.2.2
def uG3 (y:NW)(x:AA):Int:=
 let a:=y.1
 let b:=x.1
 (cond (decide (B7 (nth a b A4).1<0)) (8:Int) (cond (!(Hm (nth a b A4))) (2:Int) (24:Int)))
def oC6:=li [(0,Ai)] [(3,vI)] Ui uG2 rW7 (λy x=>[ex 1 (some (tJ8 y x)) [(2,vI)] ((uG3 y x),()),ex 2 (some (oC5 y x)) [] ()]) [[(2,vI)],[]]
def lL1 (e:List A8):Prop×Int:=
 let c:=decide (len e>128)
 let a:=(e,())
 let d:=((0:Int),())
 let b:=A3 (Ui a) (uG2 a) d
 ((!c)=true->Am.Ends (Ui a) (uG2 a) (rW7 a) d,cond c (3:Int) (cond (tJ8 a b) (uG3 a b) (0:Int)))
def sJ a:=(lL1 a).1
def CB a:=(lL1 a).2
theorem qF2:SK 212 (AP Ai vI sJ CB):=fb Tryz.func212 45 [kb Y4,kb mO4] [(4,oC6)]
def mO5 (f:C4)(g:A0):Prop×A0:=
 let a:=Kj f
 let b:=Hk g.1
 let c:=Hk g.2.1
 let d:=wrap .i64 (Hl a.1 a.2.2.1 b c+a.2.2.2.2.1)
 let e:=wrap .i64 (Hl a.2.1 a.2.2.2.1 b c+(Q1 a).1)
 (qF0 f/\QC g.1/\QC g.2.1/\Ud a.1 a.2.2.1 b c/\QC d/\Ud a.2.1 a.2.2.2.1 b c/\QC e,(Hk d,Hk e,()))
def pF6 a b:=(mO5 a b).1
def Ml a b:=(mO5 a b).2
theorem mO6:SK 247 (BG Ay Aq Aq pF6 Ml):=fb Tryz.func247 38 [kb oR4,kb oR9,kb oR3] [] [] true
def mO7 (b:C4)(c:A0):Prop×A0:=
 let s:=(wrap .i64 (4096*c.1),wrap .i64 (4096*c.2.1),())
 let a:=Ml b s
 (pF6 b s/\En a.1 (4096:Int)/\En a.2.1 (4096:Int),(AZ a.1 (4096:Int),AZ a.2.1 (4096:Int),()))
def Y7 a b:=(mO7 a b).1
def DP a b:=(mO7 a b).2
theorem oS7:SK 214 (BG Ay Aq Aq Y7 DP):=fb Tryz.func214 22 [kb Iz,kb mO6] [] [] true
abbrev wV3:Type:=((List A8)×C4×(List A8)×Int×Unit)
abbrev wL:Type:=(A8×Int×Unit)
def Y8 (y:wV3)(x:wL):Prop×Bool×wL×Bool×Bool:=
 let g:=y.2.1
 let b:=x.1
 let a:=x.2.1
 let c:=decide (a<B7 b.1)
 let e:=nth b.2.1 a A1
 let s:=set b.2.1 (toNat a) (DP g e)
 let f:=nth s a A1
 let d:=!(DU f)
 (QJ b.1/\(c=true->A6 a 3/\Y7 g e/\A6 a 3/\A6 a 3/\Y5 f/\((!d)=true->A5 (a+1))),c&&(!d),((b.1,s,()),a+1,()),c&&d,!c)
def uP5 y x:=(Y8 y x).1
def FB y x:=(Y8 y x).2.1
def FC y x:=(Y8 y x).2.2.1
def uP6 y x:=(Y8 y x).2.2.2.1
def uP7 y x:=(Y8 y x).2.2.2.2
def tZ4 (y:wV3)(x:wL):(List A8):=
 ([]:List A8)
def tZ5 (y:wV3)(x:wL):Int:=
 (2:Int)
def rH5:List (Nat×Sh):=[(4,Bj),(5,vI)]
def tZ6 (y:wV3)(x:wL):A8:=
 x.1
def rH6:List (Nat×Sh):=[(0,Ai),(3,Bp),(8,Cg),(9,vI),(10,Bh)]
def pF7:=li [(0,Ai),(3,Bp),(8,Cg),(9,vI)] [(10,Bh),(11,vI)] FB FC uP5 (λy x=>[ex 1 (some (uP6 y x)) rH5 ((tZ4 y x),(tZ5 y x),()),ex 4 (some (uP7 y x)) rH6 (y.1,y.2.1,y.2.2.1,y.2.2.2.1,(tZ6 y x),())]) [rH5,rH6]
abbrev Y9:Type:=((List A8)×C4×Unit)
def YA (y:Y9)(x:Ee):Prop×Bool×Ee×Bool×Bool:=
 let h:=y.1
 let i:=x.1
 let e:=x.2.1
 let c:=decide (e<len h)
 let a:=(h,y.2.1,i,e,())
 let g:=(nth h e A4,(0:Int),())
 let d:=A3 (FB a) (FC a) g
 let b:=uP7 a d
 let f:=([tZ6 a d]:List A8)
 (c=true->A6 e (len h)/\Am.Ends (FB a) (FC a) (uP5 a) g/\(b=true->((length i+length f:Nat):Int)<=4294967296)/\(b=true->A5 (e+1)),c&&b,(i++f,e+1,()),c&&uP6 a d,!c)
def tJ9 y x:=(YA y x).1
def wT y x:=(YA y x).2.1
def Jm y x:=(YA y x).2.2.1
def sJ0 y x:=(YA y x).2.2.2.1
def oC7 y x:=(YA y x).2.2.2.2
def tB6 (y:Y9)(x:Ee):(List A8):=
 let b:=y.1
 let c:=x.2.1
 let a:=(b,y.2.1,x.1,c,())
 (tZ4 a (A3 (FB a) (FC a) (nth b c A4,(0:Int),())))
def tB7 (y:Y9)(x:Ee):Int:=
 let b:=y.1
 let c:=x.2.1
 let a:=(b,y.2.1,x.1,c,())
 (tZ5 a (A3 (FB a) (FC a) (nth b c A4,(0:Int),())))
def rW8:List (Nat×Sh):=[(4,Bj),(5,vI)]
def tB8 (y:Y9)(x:Ee):(List A8):=
 x.1
def oC8:=li [(0,Ai),(3,Bp)] [(8,Cg),(9,vI)] wT Jm tJ9 (λy x=>[ex 1 (some (sJ0 y x)) rW8 ((tB6 y x),(tB7 y x),()),ex 2 (some (oC7 y x)) [(8,Cg)] ((tB8 y x),())]) [rW8,[(8,Cg)]]
def YB (i:List A8)(j:C4):Prop×((List A8)×Int×Unit):=
 let e:=CB i
 let c:=e !=0
 let f:=Gn j
 let d:=f !=0
 let a:=(i,j,())
 let h:=(([]:List A8),(0:Int),())
 let g:=A3 (wT a) (Jm a) h
 let b:=sJ0 a g
 (sJ i/\((!c)=true->NT j/\((!d)=true->Am.Ends (wT a) (Jm a) (tJ9 a) h)),(cond c [] (cond d [] (cond b (tB6 a g) (tB8 a g))),cond c e (cond d f (cond b (tB7 a g) (0:Int))),()))
def qF3 a b:=(YB a b).1
def CY a b:=(YB a b).2
theorem mO8:SK 180 (BG Ai Ay (.tup (.cons Bj (.cons vI .nl))) qF3 CY):=fb Tryz.func180 60 [kb pN5,kb qF2,kb Y4,kb oS7,kb pF4] [(9,oC8),(13,pF7)] [(15,[(4,0,22,1008)]),(37,[(4,0,58,1008)]),(39,[(4,0,1008,0)])]
def lL2 (m n o p:Int):Prop×Int:=
 let a:=8-p
 let b:=8-p
 let c:=a*b
 let d:=c*m
 let e:=2*p
 let f:=8-p
 let g:=e*f
 let h:=g*n
 let i:=d+h
 let j:=p*p
 let k:=j*o
 let l:=i+k
 (A5 (8-p)/\A5 (8-p)/\A5 (a*b)/\A5 (c*m)/\A5 (2*p)/\A5 (8-p)/\A5 (e*f)/\A5 (g*n)/\A5 (d+h)/\A5 (p*p)/\A5 (j*o)/\A5 (i+k)/\En l (64:Int),AZ l (64:Int))
def Uj a b c d:=(lL2 a b c d).1
def Gq a b c d:=(lL2 a b c d).2
theorem mO9:SK 249 (Fw vI vI vI vI vI Uj Gq):=fb Tryz.func249 31 [kb Iz]
def lL3 (p t u v w:Int):Prop×Int:=
 let a:=16-w
 let b:=a*a
 let c:=b*a
 let d:=c*p
 let e:=3*w
 let f:=e*a
 let g:=f*a
 let h:=g*t
 let i:=d+h
 let j:=3*w
 let k:=j*w
 let l:=k*a
 let m:=l*u
 let n:=i+m
 let o:=w*w
 let q:=o*w
 let r:=q*v
 let s:=n+r
 (A5 (16-w)/\A5 (a*a)/\A5 (b*a)/\A5 (c*p)/\A5 (3*w)/\A5 (e*a)/\A5 (f*a)/\A5 (g*t)/\A5 (d+h)/\A5 (3*w)/\A5 (j*w)/\A5 (k*a)/\A5 (l*u)/\A5 (i+m)/\A5 (w*w)/\A5 (o*w)/\A5 (q*v)/\A5 (n+r)/\En s (4096:Int),AZ s (4096:Int))
def Uk a b c d e:=(lL3 a b c d e).1
def Gr a b c d e:=(lL3 a b c d e).2
theorem mP:SK 250 (sp5 vI vI vI vI vI vI Uk Gr):=fb Tryz.func250 48 [kb Iz]
def pN6 (f:List A0)(g:A0):Prop×(List A0):=
 let e:=decide (len f>0)
 let b:=len f
 let a:=b-1
 let c:=cond e (Ty.eqb AN (nth f a A1) g) false
 let d:=([g]:List A0)
 ((e=true->A5 (b-1))/\(e=true->A6 a (len f))/\(e=true->a<len f)/\((!c)=true->((length f+length d:Nat):Int)<=4294967296),cond c f (f++d))
def YC a b:=(pN6 a b).1
def Mm a b:=(pN6 a b).2
theorem oC9:SK 248 (BG Bi Aq Du YC Mm):=fb Tryz.func248 23 [] [] [(5,[(4,0,400000,0)]),(7,[(4,0,22,0)])] false [] [22]
abbrev vN4:Type:=(A0×A8×Unit)
def tQ9 (y:vN4)(x:CW):Prop×Bool×CW:=
 let g:=y.1
 let h:=y.2.1
 let i:=x.1
 let a:=x.2.1
 let b:=decide (a<=8)
 let c:=(nth h.2.1 (0:Int) A1).1
 let d:=(nth h.2.1 (1:Int) A1).1
 let e:=(nth h.2.1 (0:Int) A1).2.1
 let f:=(nth h.2.1 (1:Int) A1).2.1
 let s:=(Gq g.1 c d a,Gq g.2.1 e f a,())
 (b=true->A6 (0:Int) 3/\A6 (1:Int) 3/\Uj g.1 c d a/\A6 (0:Int) 3/\A6 (1:Int) 3/\Uj g.2.1 e f a/\YC i s/\A5 (a+1),b,(Mm i s,a+1,()))
def tZ8 y x:=(tQ9 y x).1
def YD y x:=(tQ9 y x).2.1
def YE y x:=(tQ9 y x).2.2
def tB9 (y:vN4)(x:CW):(List A0):=
 x.1
def qF4:=li [(4,Bz),(5,Bh)] [(0,Bi),(7,vI)] YD YE tZ8 (λy x=>[ex 3 none [(0,Bi)] ((tB9 y x),())]) [[(0,Bi)]]
def tC (y:vN4)(x:CW):Prop×Bool×CW:=
 let j:=y.1
 let b:=y.2.1
 let k:=x.1
 let a:=x.2.1
 let c:=decide (a<=16)
 let d:=(nth b.2.1 (0:Int) A1).1
 let e:=(nth b.2.1 (1:Int) A1).1
 let f:=(nth b.2.1 (2:Int) A1).1
 let g:=(nth b.2.1 (0:Int) A1).2.1
 let h:=(nth b.2.1 (1:Int) A1).2.1
 let i:=(nth b.2.1 (2:Int) A1).2.1
 let s:=(Gr j.1 d e f a,Gr j.2.1 g h i a,())
 (c=true->A6 (0:Int) 3/\A6 (1:Int) 3/\A6 (2:Int) 3/\Uk j.1 d e f a/\A6 (0:Int) 3/\A6 (1:Int) 3/\A6 (2:Int) 3/\Uk j.2.1 g h i a/\YC k s/\A5 (a+1),c,(Mm k s,a+1,()))
def tN9 y x:=(tC y x).1
def YF y x:=(tC y x).2.1
def YG y x:=(tC y x).2.2
def uV2 (y:vN4)(x:CW):(List A0):=
 x.1
def rR0:=li [(4,Bz),(5,Bh)] [(0,Bi),(8,vI)] YF YG tN9 (λy x=>[ex 5 none [(0,Bi)] ((uV2 y x),())]) [[(0,Bi)]]
def pN7 (k:List A0)(l:A0)(m:A8):Prop×(List A0):=
 let f:=m.1==1
 let b:=cond f f (m.1==2)
 let g:=nth m.2.1 (0:Int) A1
 let c:=m.1==3
 let d:=(l,m,())
 let j:=(k,(1:Int),())
 let h:=m.1==4
 let a:=(l,m,())
 let i:=(k,(1:Int),())
 let e:=cond b (Mm k g) (cond c (tB9 d (A3 (YD d) (YE d) j)) (cond h (uV2 a (A3 (YF a) (YG a) i)) k))
 ((b=true->A6 (0:Int) 3/\YC k g)/\(b=false->(c=true->Am.Ends (YD d) (YE d) (tZ8 d) j)/\(c=false->h=true->Am.Ends (YF a) (YG a) (tN9 a) i)),e)
def Ul a b c:=(pN7 a b c).1
def Um a b c:=(pN7 a b c).2
theorem oD:SK 216 (DN Bi Aq Dd Du Ul Um):=fx (λc=>{ c with wants:=[(248,[0])] }) Tryz.func216 94 [kb oC9,kb mO9,kb mP] [(7,qF4),(12,rR0)] [(9,[(4,0,18,400000)]),(19,[(4,0,51,400000)]),(29,[(4,0,92,400000)]),(31,[(4,0,400000,0)])]
abbrev vZ9:Type:=(((List (List A0))×Nat)×A0×Int×Unit)
def qF5 (y:NW)(x:vZ9):Prop×Bool×vZ9:=
 let d:=y.1
 let i:=x.1
 let s:=x.2.1
 let c:=x.2.2.1
 let j:=decide (c<len d)
 let f:=(nth d c A4).1==1
 let e:=cond f (i.1++[[]]) i.1
 let b:=cond f (length i.1) i.2
 let k:=len e
 let a:=k-1
 let l:=len e
 let g:=l-1
 let m:=List.getD e b []
 let n:=nth d c A4
 let o:=nth d c A4
 let h:=B7 o.1
 let q:=decide (h>0)
 let r:=h-1
 (j=true->A6 c (len d)/\(f=true->((length i.1+1:Nat):Int)<=4294967296)/\A5 (k-1)/\A5 (l-1)/\A6 g (len e)/\(toNat g=b/\g<len e)/\A6 c (len d)/\Ul m s n/\A6 a (len e)/\(toNat a=b/\a<len e)/\(toNat a=b/\a<len e)/\A6 c (len d)/\QJ o.1/\(q=true->A5 (h-1)/\A6 c (len d)/\A6 r 3)/\A5 (c+1),j,((set e (toNat a) (Um m s n),toNat a),cond q (nth (nth d c A4).2.1 r A1) s,c+1,()))
def rW9 y x:=(qF5 y x).1
def YH y x:=(qF5 y x).2.1
def YI y x:=(qF5 y x).2.2
def tC2 (y:NW)(x:vZ9):((List (List A0))×Nat):=
 let a:=x.1
 (a.1,a.2)
def rX:List (Nat×Sh):=[(5,(.ownh AN 1005 9000005 true))]
def oD0:=li [(0,Ai)] [(5,(.ownh AN 1005 9000005 true)),(6,Bz),(7,vI)] YH YI rW9 (λy x=>[ex 2 none rX ((tC2 y x),())]) [rX]
def lL4 (e:List A8):Prop×((List (List A0))×Int×Unit):=
 let c:=CB e
 let a:=c !=0
 let b:=(e,())
 let d:=((([]:List (List A0)),length ([]:List (List A0))),((0:Int),(0:Int),()),(0:Int),())
 (sJ e/\((!a)=true->Am.Ends (YH b) (YI b) (rW9 b) d),(cond a [] (tC2 b (A3 (YH b) (YI b) d)).1,cond a c (0:Int),()))
def YJ a:=(lL4 a).1
def CP a:=(lL4 a).2
theorem oS9:SK 181 (AP Ai (.tup (.cons Aj (.cons vI .nl))) YJ CP):=fx (λc=>{ c with wants:=[(216,[0])] }) Tryz.func181 65 [kb qF2,kb Y4,kb oD] [(7,oD0)] [(9,[(4,0,14,1005)]),(20,[(1,5,0,0)]),(21,[(4,0,30,1005),(4,0,100029,9000005)]),(23,[(4,0,46,9000005)]),(31,[(1,2,0,0),(1,2,0,0),(4,0,1005,0)])] false [] [5,14,29,30]
abbrev uA:Type:=((List (List A0))×Unit)
def YK (y:uA)(x:vC):Prop×Bool×vC×Bool×Bool:=
 let f:=y.1
 let g:=x.1
 let c:=x.2.1
 let a:=decide (c<len f)
 let d:=len (nth f c ([]:List A0))
 let e:=g+d
 let b:=decide (e>4096)
 (a=true->A6 c (len f)/\A5 (g+d)/\((!b)=true->A5 (c+1)),a&&(!b),(e,c+1,()),a&&b,!a)
def sJ4 y x:=(YK y x).1
def NY y x:=(YK y x).2.1
def NZ y x:=(YK y x).2.2.1
def tK y x:=(YK y x).2.2.2.1
def tK0 y x:=(YK y x).2.2.2.2
def sR7 (y:uA)(x:vC):Int:=
 (3:Int)
def oD1:=li [(0,Aj)] [(5,vI),(6,vI)] NY NZ sJ4 (λy x=>[ex 1 (some (tK y x)) [(4,vI)] ((sR7 y x),()),ex 2 (some (tK0 y x)) [(0,Aj)] (y.1,())]) [[(4,vI)],[(0,Aj)]]
def YL (y:Fk)(x:AA):Prop×Bool×AA×Bool×Bool:=
 let h:=y.1
 let d:=y.2.1
 let i:=y.2.2.1
 let e:=x.1
 let a:=decide (e<len (nth h i ([]:List A0)))
 let f:=nth h i ([]:List A0)
 let b:=nth f e A1
 let g:=cond (decide (b.1<sub 0 d)) true (decide (b.1>d))
 let c:=cond (cond g true (decide (b.2.1<sub 0 d))) true (decide (b.2.1>d))
 (A6 i (len h)/\(a=true->A6 i (len h)/\A6 e (len f)/\A5 (sub 0 d)/\((!g)=true->A5 (sub 0 d))/\((!c)=true->A5 (e+1))),a&&(!c),(e+1,()),a&&c,!a)
def uP9 y x:=(YL y x).1
def Lf y x:=(YL y x).2.1
def Lg y x:=(YL y x).2.2.1
def tR y x:=(YL y x).2.2.2.1
def uQ y x:=(YL y x).2.2.2.2
def sA (y:Fk)(x:AA):Int:=
 (2:Int)
def rH8:List (Nat×Sh):=[(0,Aj),(7,vI),(8,vI)]
def pF8:=li [(0,Aj),(7,vI),(8,vI)] [(9,vI)] Lf Lg uP9 (λy x=>[ex 1 (some (tR y x)) [(4,vI)] ((sA y x),()),ex 6 (some (uQ y x)) rH8 (y.1,y.2.1,y.2.2.1,())]) [[(4,vI)],rH8]
def YM (y:CH)(x:AA):Prop×Bool×AA×Bool×Bool:=
 let g:=y.1
 let f:=x.1
 let c:=decide (f<len g)
 let a:=(g,y.2.1,f,())
 let e:=((0:Int),())
 let d:=A3 (Lf a) (Lg a) e
 let b:=uQ a d
 (c=true->Am.Ends (Lf a) (Lg a) (uP9 a) e/\(b=true->A5 (f+1)),c&&b,(f+1,()),c&&tR a d,!c)
def tR0 y x:=(YM y x).1
def Un y x:=(YM y x).2.1
def Uo y x:=(YM y x).2.2.1
def uQ0 y x:=(YM y x).2.2.2.1
def pF9 y x:=(YM y x).2.2.2.2
def sA0 (y:CH)(x:AA):Int:=
 let a:=(y.1,y.2.1,x.1,())
 (sA a (A3 (Lf a) (Lg a) ((0:Int),())))
def pG:=li [(0,Aj),(7,vI)] [(8,vI)] Un Uo tR0 (λy x=>[ex 1 (some (uQ0 y x)) [(4,vI)] ((sA0 y x),()),ex 4 (some (pF9 y x)) [] ()]) [[(4,vI)],[]]
def mP0 (h:(List (List A0)))(i:Int):Prop×Int:=
 let d:=cond (i !=0) (i !=1) false
 let b:=(h,())
 let g:=((0:Int),(0:Int),())
 let f:=A3 (NY b) (NZ b) g
 let a:=(h,(16777216:Int),())
 let e:=((0:Int),())
 let c:=A3 (Un a) (Uo a) e
 ((!d)=true->Am.Ends (NY b) (NZ b) (sJ4 b) g/\(tK0 b f=true->Am.Ends (Un a) (Uo a) (tR0 a) e),cond d (8:Int) (cond (tK b f) (sR7 b f) (cond (uQ0 a c) (sA0 a c) (0:Int))))
def Oa a b:=(mP0 a b).1
def Eg a b:=(mP0 a b).2
def oT:=BG Aj vI vI Oa Eg
theorem pG0:SK 182 (BG Aj vI vI Oa Eg):=fb Tryz.func182 78 [] [(5,oD1),(12,pG),(15,pF8)]
def qF6 (y:NW)(x:FP):Prop×Bool×FP:=
 let c:=y.1
 let j:=x.1
 let a:=x.2.1
 let e:=decide (a<len c)
 let f:=(nth c a A4).1==1
 let g:=([true]:List Bool)
 let d:=cond f (j++g) j
 let h:=(nth c a A4).1==5
 let i:=len d
 let b:=i-1
 (e=true->A6 a (len c)/\(f=true->((length j+length g:Nat):Int)<=4294967296)/\A6 a (len c)/\(h=true->A5 (i-1)/\A6 b (len d)/\b<len d)/\A5 (a+1),e,(cond h (set d (toNat b) false) d,a+1,()))
def sJ5 y x:=(qF6 y x).1
def YN y x:=(qF6 y x).2.1
def Up y x:=(qF6 y x).2.2
def sR8 (y:NW)(x:FP):(List Bool):=
 x.1
def oD2:=li [(0,Ai)] [(5,Dj),(6,vI)] YN Up sJ5 (λy x=>[ex 2 none [(5,Dj)] ((sR8 y x),())]) [[(5,Dj)]]
def lL5 (e:List A8):Prop×((List Bool)×Int×Unit):=
 let c:=CB e
 let a:=c !=0
 let b:=(e,())
 let d:=(([]:List Bool),(0:Int),())
 (sJ e/\((!a)=true->Am.Ends (YN b) (Up b) (sJ5 b) d),(cond a [] (sR8 b (A3 (YN b) (Up b) d)),cond a c (0:Int),()))
def qF7 a:=(lL5 a).1
def Gs a:=(lL5 a).2
theorem mP1:SK 183 (AP Ai (.tup (.cons Dz (.cons vI .nl))) qF7 Gs):=fb Tryz.func183 40 [kb qF2] [(6,oD2)] [(9,[(4,0,12,1005)]),(19,[(4,0,27,1005)]),(25,[(1,2,0,0),(4,0,1005,0)])] false [] [12,26,27]
def lL6 (b c d:Int):Prop×Int:=
 let a:=cond (cond (decide (b<1)) true (decide (b>4096))) (2:Int) (cond (cond (cond (cond (decide (c<0)) true (decide (c>2))) true (decide (d<0))) true (decide (d>2))) (8:Int) (0:Int))
 (True,a)
def oT0 a b c:=(lL6 a b c).1
def f217 a b c:=(lL6 a b c).2
theorem mP2:SK 217 (DN vI vI vI vI oT0 f217):=fb Tryz.func217 27
def qF8 (y:CW)(x:vC):Prop×Bool×vC:=
 let a:=y.1
 let c:=x.2.1
 let e:=decide (c<y.2.1)
 let d:=len a
 let b:=tmod (wrap .i64 (c+1)) d
 (e=true->d≠0/\A6 c (len a)/\A6 b (len a)/\A6 c (len a)/\A6 b (len a),e,(wrap .i64 (x.1+wrap .i64 (wrap .i64 ((nth a c A1).1*(nth a b A1).2.1)-(wrap .i64 ((nth a c A1).2.1*(nth a b A1).1)))),wrap .i64 (c+1),()))
def sJ6 y x:=(qF8 y x).1
def YO y x:=(qF8 y x).2.1
def YP y x:=(qF8 y x).2.2
def sR9 (y:CW)(x:vC):Int:=
 x.1
def oD3:=li [(0,Bc),(7,vI)] [(3,vI),(8,vI)] YO YP sJ6 (λy x=>[ex 2 none [(3,vI)] ((sR9 y x),())]) [[(3,vI)]]
def lL7 (c:List A0):Prop×Int:=
 let a:=(c,len c,())
 let b:=((0:Int),(0:Int),())
 (Am.Ends (YO a) (YP a) (sJ6 a) b,sR9 a (A3 (YO a) (YP a) b))
def pG1 a:=(lL7 a).1
def Gt a:=(lL7 a).2
theorem mP3:SK 278 (AP Bc vI pG1 Gt):=fb Tryz.func278 43 [] [(3,oD3)] [] true
def lL8 :Prop×(List Int):=
 let a:=([(0:Int),(1608:Int),(3216:Int),(4821:Int),(6424:Int),(8022:Int),(9616:Int),(11204:Int),(12785:Int),(14359:Int),(15924:Int),(17479:Int),(19024:Int),(20557:Int),(22078:Int),(23586:Int),(25080:Int),(26558:Int),(28020:Int),(29466:Int),(30893:Int),(32303:Int),(33692:Int),(35062:Int),(36410:Int),(37736:Int),(39040:Int),(40320:Int),(41576:Int),(42806:Int),(44011:Int),(45190:Int),(46341:Int),(47464:Int),(48559:Int),(49624:Int),(50660:Int),(51665:Int),(52639:Int),(53581:Int),(54491:Int),(55368:Int),(56212:Int),(57022:Int),(57798:Int),(58538:Int),(59244:Int),(59914:Int),(60547:Int),(61145:Int),(61705:Int),(62228:Int),(62714:Int),(63162:Int),(63572:Int),(63944:Int),(64277:Int),(64571:Int),(64827:Int),(65043:Int),(65220:Int),(65358:Int),(65457:Int),(65516:Int),(65536:Int)]:List Int)
 (True,a)
def pG2 :Prop:=(lL8).1
def I1 :List Int:=(lL8).2
def oT1:Am.Spec:=fnSpec [] (.val Dv) [] (λx=>pG2 ) (λx=>I1 ) (λ_=>())
theorem mP4:SK 305 (fnSpec [] (.val Dv) [] (λx=>pG2 ) (λx=>I1 ) (λ_=>())):=fb Tryz.func305 2
def lL9 (e:Int):Prop×Int:=
 let d:=e==16384
 let a:=wrap .i64 (tdiv e (256:Int))
 let b:=wrap .i64 (a+1)
 let c:=wrap .i64 (wrap .i64 (nth I1 b (0:Int)-(nth I1 a (0:Int)))*wrap .i64 (e-(wrap .i64 (256*a))))
 (pG2/\(d=true->A6 (64:Int) 65)/\((!d)=true->A6 a 65/\A6 b 65/\A6 a 65/\En c (256:Int)),cond d (nth I1 (64:Int) (0:Int)) (wrap .i64 (nth I1 a (0:Int)+AZ c (256:Int))))
def YQ a:=(lL9 a).1
def Kn a:=(lL9 a).2
def oT2:=AP vI vI YQ Kn
def nN2:=Cz [(136,oR8),(305,oT1)] [] [] 30
theorem mP5:SK 300 oT2:=fq (c:=nN2) Tryz.func300 ⟨Iz,mP4,trivial⟩
def lM (h:Int):Prop×Int:=
 let g:=wrap .i64 (tdiv h (16384:Int))
 let a:=wrap .i64 (h-(wrap .i64 (16384*g)))
 let b:=g==0
 let c:=g==1
 let e:=wrap .i64 (16384-a)
 let d:=g==2
 let f:=wrap .i64 (16384-a)
 ((b=true->YQ a)/\((!b)=true->(c=true->YQ e)/\((!c)=true->(d=true->YQ a)/\((!d)=true->YQ f))),cond b (Kn a) (cond c (Kn e) (cond d (wrap .i64 (sub 0 (Kn a))) (wrap .i64 (sub 0 (Kn f))))))
def pG3 a:=(lM a).1
def QL a:=(lM a).2
theorem mP6:SK 294 (AP vI vI pG3 QL):=fb Tryz.func294 29 [kb mP5] [] [] true
def lM0 (d:Int):Prop×(Int×Int×Unit):=
 let c:=tmod d (65536:Int)
 let b:=cond (decide (c<0)) (wrap .i64 (c+65536)) c
 let a:=tmod (wrap .i64 (b+16384)) (65536:Int)
 (pG3 b/\pG3 a,(QL b,QL a,()))
def qF9 a:=(lM0 a).1
def I2 a:=(lM0 a).2
theorem mP7:SK 279 (AP vI (.tup (.cons vI (.cons vI .nl))) qF9 I2):=fb Tryz.func279 17 [kb mP6] [] [] true
abbrev tD:Type:=(Int×A0×Unit)
def qG (y:tD)(x:CW):Prop×Bool×CW:=
 let h:=y.1
 let i:=y.2.1
 let j:=x.1
 let g:=x.2.1
 let a:=decide (g<16)
 let b:=wrap .i64 (4096*g)
 let c:=I2 b
 let d:=wrap .i64 (h*c.2.1)
 let e:=wrap .i64 (h*c.1)
 let f:=([(wrap .i64 (i.1+AZ d (131072:Int)),wrap .i64 (i.2.1+AZ e (131072:Int)),())]:List A0)
 (a=true->qF9 b/\En d (131072:Int)/\En e (131072:Int)/\((length j+length f:Nat):Int)<=4294967296,a,(j++f,wrap .i64 (g+1),()))
def sJ7 y x:=(qG y x).1
def Uq y x:=(qG y x).2.1
def Lh y x:=(qG y x).2.2
def tD0 (y:tD)(x:CW):(List A0):=
 x.1
def oD4:=li [(1,vI),(2,Bz)] [(5,Bq),(6,vI)] Uq Lh sJ7 (λy x=>[ex 2 none [(5,Bq)] ((tD0 y x),())]) [[(5,Bq)]]
def mP8 (c:A0)(d:Int):Prop×(List A0):=
 let a:=(d,c,())
 let b:=(([]:List A0),(0:Int),())
 (Am.Ends (Uq a) (Lh a) (sJ7 a) b,tD0 a (A3 (Uq a) (Lh a) b))
def Ur a b:=(mP8 a b).1
def DV a b:=(mP8 a b).2
theorem pG4:SK 256 (BG Aq vI Bx Ur DV):=fb Tryz.func256 38 [kb Iz,kb mP7] [(3,oD4)] [(13,[(4,0,36,1005)]),(15,[(4,0,1005,0)])] true
def mP9 (g h:Int):Prop×(Int×Int×Unit):=
 let a:=Fu .u64 g (4294967295:Int)
 let b:=ER g (32:Int) 64
 let c:=Fu .u64 h (4294967295:Int)
 let d:=ER h (32:Int) 64
 let e:=wrap .u64 (wrap .u64 (b*c)+ER (wrap .u64 (a*c)) (32:Int) 64)
 let f:=wrap .u64 (wrap .u64 (wrap .u64 (b*d)+ER e (32:Int) 64)+ER (wrap .u64 (wrap .u64 (a*d)+Fu .u64 e (4294967295:Int))) (32:Int) 64)
 (True,(f,wrap .u64 (g*h),()))
def rI a b:=(mP9 a b).1
def C8 a b:=(mP9 a b).2
theorem mQ:SK 292 (BG Ap Ap (.tup (.cons Ap (.cons Ap .nl))) rI C8):=fb Tryz.func292 48 [] [] [] true
def lM1 (c d:Int)(e:Bool):Prop×Int:=
 let a:=cond (decide (c>0)) true (decide (d>9223372036854775808))
 let b:=cond ((a||(!a))&&e) (cond a (-9223372036854775808:Int) (wrap .i64 (wrap .u64 (0-d)))) (cond (cond (decide (c>0)) true (decide (d>9223372036854775807))) (9223372036854775807:Int) (wrap .i64 d))
 (True,b)
def oT3 a b c:=(lM1 a b c).1
def QM a b c:=(lM1 a b c).2
theorem mQ0:SK 293 (DN Ap Ap vB vI oT3 QM):=fb Tryz.func293 25 [] [] [] true
def qG0 (y x:vC):Prop×Bool×vC:=
 let d:=y.2.1
 let b:=x.1
 let a:=x.2.1
 let e:=decide (a>0)
 let f:=ior .u64 b a
 let g:=ior .u64 b a
 let c:=C8 f g
 (e=true->rI f g,e,(cond (cond (decide (c.1<d)) true (cond (c.1==d) (decide (c.2.1<=y.1)) false)) (ior .u64 b a) b,ER a (1:Int) 64,()))
def tK1 y x:=(qG0 y x).1
def QN y x:=(qG0 y x).2.1
def QO y x:=(qG0 y x).2.2
def sS (y x:vC):Int:=
 x.1
def oD5:=li [(9,Ap),(10,Ap)] [(11,Ap),(12,Ap)] QN QO tK1 (λy x=>[ex 2 none [(11,Ap)] ((sS y x),())]) [[(11,Ap)]]
def lM2 (l m:Int):Prop×Int:=
 let d:=BB l
 let e:=BB l
 let b:=C8 d e
 let f:=BB m
 let g:=BB m
 let h:=C8 f g
 let i:=wrap .u64 (b.2.1+h.2.1)
 let j:=wrap .u64 (b.1+h.1)
 let c:=(i,cond (decide (i<b.2.1)) (wrap .u64 (j+1)) j,())
 let k:=((0:Int),(9223372036854775808:Int),())
 let a:=sS c (A3 (QN c) (QO c) k)
 (QE l/\QE l/\rI d e/\QE m/\QE m/\rI f g/\Am.Ends (QN c) (QO c) (tK1 c) k/\oT3 (0:Int) a false,QM (0:Int) a false)
def YR a b:=(lM2 a b).1
def ET a b:=(lM2 a b).2
theorem pG5:SK 277 (BG vI vI vI YR ET):=fb Tryz.func277 74 [kb oR7,kb mQ,kb mQ0] [(9,oD5)] [] true
def lM3 (f g:A0)(h:Int):Prop×A0:=
 let b:=wrap .i64 (16*wrap .i64 (g.1-f.1))
 let c:=wrap .i64 (16*wrap .i64 (g.2.1-f.2.1))
 let a:=ET b c
 let d:=wrap .i64 (wrap .i64 ((-8)*h)*wrap .i64 (g.2.1-f.2.1))
 let e:=wrap .i64 (wrap .i64 (8*h)*wrap .i64 (g.1-f.1))
 (YR b c/\En d a/\En e a,(AZ d a,AZ e a,()))
def QP a b c:=(lM3 a b c).1
def B0 a b c:=(lM3 a b c).2
theorem oT4:SK 252 (DN Aq Aq vI Aq QP B0):=fb Tryz.func252 42 [kb Iz,kb pG5] [] [] true
def lM4 (a b:A0)(c:Int):Prop×A0:=
 (True,(wrap .i64 (a.1+wrap .i64 (c*b.1)),wrap .i64 (a.2.1+wrap .i64 (c*b.2.1)),()))
def EN a b c:=(lM4 a b c).1
def AX a b c:=(lM4 a b c).2
theorem oT5:SK 254 (DN Aq Aq vI Aq EN AX):=fb Tryz.func254 22 [] [] [] true
def lM5 (f g:A0)(h:Int):Prop×A0:=
 let b:=wrap .i64 (16*wrap .i64 (g.1-f.1))
 let c:=wrap .i64 (16*wrap .i64 (g.2.1-f.2.1))
 let a:=ET b c
 let d:=wrap .i64 (wrap .i64 (8*h)*wrap .i64 (g.1-f.1))
 let e:=wrap .i64 (wrap .i64 (8*h)*wrap .i64 (g.2.1-f.2.1))
 (YR b c/\En d a/\En e a,(AZ d a,AZ e a,()))
def qG1 a b c:=(lM5 a b c).1
def FD a b c:=(lM5 a b c).2
theorem mQ1:SK 257 (DN Aq Aq vI Aq qG1 FD):=fb Tryz.func257 42 [kb Iz,kb pG5] [] [] true
def qG2 (y:uY)(x:CW):Prop×Bool×CW:=
 let i:=y.1
 let b:=x.1
 let c:=x.2.1
 let d:=decide (c<y.2.2.1)
 let a:=len b==0
 let e:=len b
 let f:=e-1
 let g:=cond a true (!(Ty.eqb AN (nth b f A1) (nth i c A1)))
 let h:=([nth i c A1]:List A0)
 (d=true->((!a)=true->A5 (e-1))/\((!a)=true->A6 f (len b))/\((!a)=true->A6 c (len i))/\(g=true->A6 c (len i)/\((length b+length h:Nat):Int)<=4294967296)/\A5 (c+1),d,(cond g (b++h) b,c+1,()))
def sJ9 y x:=(qG2 y x).1
def YS y x:=(qG2 y x).2.1
def vO y x:=(qG2 y x).2.2
def sS0 (y:uY)(x:CW):(List A0):=
 x.1
def rX0:List (Nat×Sh):=[(1,vB),(5,Bq)]
def oD6:=li [(0,Bc),(1,vB),(8,vI)] [(5,Bq),(9,vI)] YS vO sJ9 (λy x=>[ex 2 none rX0 (y.2.1,(sS0 y x),())]) [rX0]
def qG3 (y:r0)(x:N8):Prop×Bool×N8:=
 let a:=x.1
 let b:=cond (!y.1) (decide (len a>1)) false
 let d:=len a
 let e:=d-1
 let f:=cond b (Ty.eqb AN (nth a e A1) (nth a (0:Int) A1)) false
 let g:=len a
 let c:=g-1
 ((b=true->A5 (d-1))/\(b=true->A6 e (len a))/\(b=true->A6 (0:Int) (len a))/\(f=true->A5 (g-1)/\0<=c/\c<=len a),f,(take (toNat c) a,()))
def rX1 y x:=(qG3 y x).1
def sA1 y x:=(qG3 y x).2.1
def uG4 y x:=(qG3 y x).2.2
def sS1 (y:r0)(x:N8):(List A0):=
 x.1
def oD7:=li [(1,vB)] [(5,Bc)] sA1 uG4 rX1 (λy x=>[ex 4 none [(5,Bc)] ((sS1 y x),())]) [[(5,Bc)]]
def lM6 (e:List A0)(f:Bool):Prop×(List A0):=
 let a:=(e,f,len e,())
 let c:=(([]:List A0),(0:Int),())
 let b:=(f,())
 let d:=(sS0 a (A3 (YS a) (vO a) c),())
 (Am.Ends (YS a) (vO a) (sJ9 a) c/\Am.Ends (sA1 b) (uG4 b) (rX1 b) d,sS1 b (A3 (sA1 b) (uG4 b) d))
def qG4 a b:=(lM6 a b).1
def f219 a b:=(lM6 a b).2
theorem mQ2:SK 219 (BG Bc vB Bc qG4 f219):=fb Tryz.func219 61 [] [(3,oD6),(8,oD7)] [(13,[(4,0,34,1005)])]
def qG5 (y:CH)(x:vC):Prop×Bool×vC:=
 let b:=y.1
 let a:=x.2.1
 let c:=decide (a<y.2.1)
 (c=true->A6 a (len b),c,(wrap .i64 (x.1+len (nth b a ([]:List A0))),wrap .i64 (a+1),()))
def sK y x:=(qG5 y x).1
def Us y x:=(qG5 y x).2.1
def Ut y x:=(qG5 y x).2.2
def sS2 (y:CH)(x:vC):Int:=
 x.1
def oD8:=li [(0,Aj),(6,vI)] [(3,vI),(7,vI)] Us Ut sK (λy x=>[ex 2 none [(3,vI)] ((sS2 y x),())]) [[(3,vI)]]
def lM7 (c:(List (List A0))):Prop×Int:=
 let a:=(c,len c,())
 let b:=((0:Int),(0:Int),())
 (Am.Ends (Us a) (Ut a) (sK a) b,sS2 a (A3 (Us a) (Ut a) b))
def qG6 a:=(lM7 a).1
def Ho a:=(lM7 a).2
theorem mQ3:SK 220 (AP Aj vI qG6 Ho):=fb Tryz.func220 19 [] [(3,oD8)] [] true
abbrev vO0:Type:=((List (List A0))×(List A0)×Unit)
def tR2 (y:vO0)(x:CW):Prop×Bool×CW:=
 let d:=y.2.1
 let e:=x.1
 let a:=x.2.1
 let b:=decide (a≥0)
 let c:=([nth d a A1]:List A0)
 (b=true->A6 a (len d)/\((length e+length c:Nat):Int)<=4294967296/\A5 (a-1),b,(e++c,a-1,()))
def vR4 y x:=(tR2 y x).1
def Mn y x:=(tR2 y x).2.1
def Mo y x:=(tR2 y x).2.2
def tD6 (y:vO0)(x:CW):(List A0):=
 x.1
def sA2:List (Nat×Sh):=[(0,Bf),(6,Cc)]
def qG7:=li [(0,Bf),(1,Bc)] [(6,Cc),(7,vI)] Mn Mo vR4 (λy x=>[ex 2 none sA2 (y.1,(tD6 y x),())]) [sA2]
def pN8 (i:(List (List A0)))(j:List A0):Prop×(List (List A0)):=
 let g:=Gt j
 let c:=g==0
 let a:=decide (g<0)
 let d:=len j
 let b:=(i,j,())
 let h:=(([]:List A0),d-1,())
 let f:=cond a i i
 let e:=([cond a (tD6 b (A3 (Mn b) (Mo b) h)) j]:List (List A0))
 (pG1 j/\((!c)=true->(a=true->A5 (d-1)/\Am.Ends (Mn b) (Mo b) (vR4 b) h)/\((length f+length e:Nat):Int)<=4294967296),cond c i (f++e))
def I3 a b:=(pN8 a b).1
def CT a b:=(pN8 a b).2
theorem sK0:SK 253 (BG Bf Bc At I3 CT):=fb Tryz.func253 34 [kb mP3] [(7,qG7)] [(7,[(4,0,400000,0)]),(19,[(4,0,28,1006)]),(21,[(4,0,1006,400100)]),(23,[(4,0,33,0)])]
def pN9 (f:(List (List A0)))(g:A0)(h i:Int):Prop×(List (List A0)):=
 let b:=i==1
 let c:=DV g h
 let d:=i==2
 let a:=AZ h (2:Int)
 let e:=([(wrap .i64 (g.1-a),wrap .i64 (g.2.1-a),()),(wrap .i64 (g.1+a),wrap .i64 (g.2.1-a),()),(wrap .i64 (g.1+a),wrap .i64 (g.2.1+a),()),(wrap .i64 (g.1-a),wrap .i64 (g.2.1+a),())]:List A0)
 ((b=true->Ur g h/\I3 f c)/\((!b)=true->d=true->En h (2:Int)/\I3 f e),cond b (CT f c) (cond d (CT f e) f))
def sK1 a b c d:=(pN9 a b c d).1
def Mp a b c d:=(pN9 a b c d).2
theorem oD9:SK 251 (Fw Bf Aq vI vI At sK1 Mp):=fx (λc=>{ c with wants:=[(253,[0])] }) Tryz.func251 61 [kb Iz,kb sK0,kb pG4] [] [(5,[(4,0,16,0)]),(11,[(4,0,59,0)]),(13,[(4,0,400000,0)])] true
def pO (p:(List (List A0)))(u v w:A0)(z A:Int):Prop×(List (List A0)):=
 let m:=A==1
 let n:=DV v z
 let a:=B0 u v z
 let b:=B0 v w z
 let o:=([v,AX v a (1:Int),AX v b (1:Int)]:List A0)
 let q:=CT p o
 let r:=([v,AX v a (-1:Int),AX v b (-1:Int)]:List A0)
 let g:=CT q r
 let t:=wrap .i64 (wrap .i64 (wrap .i64 (v.1-u.1)*wrap .i64 (w.2.1-v.2.1))-(wrap .i64 (wrap .i64 (v.2.1-u.2.1)*wrap .i64 (w.1-v.1))))
 let f:=wrap .i64 (wrap .i64 (z*z)+wrap .i64 (4*wrap .i64 (wrap .i64 (a.1*b.1)+wrap .i64 (a.2.1*b.2.1))))
 let h:=cond (cond (A !=0) true (t==0)) true (decide (f<=0))
 let i:=wrap .i64 (wrap .i64 (z*z)*wrap .i64 (a.1+b.1))
 let d:=AZ i f
 let j:=wrap .i64 (wrap .i64 (z*z)*wrap .i64 (a.2.1+b.2.1))
 let e:=AZ j f
 let s:=(d,e,())
 let k:=decide (ET d e>wrap .i64 (4*z))
 let c:=cond (decide (t>0)) (-1:Int) (1:Int)
 let l:=([v,AX v a c,AX v s c,AX v b c]:List A0)
 ((m=true->Ur v z/\I3 p n)/\((!m)=true->QP u v z/\QP v w z/\EN v a (1:Int)/\EN v b (1:Int)/\I3 p o/\EN v a (-1:Int)/\EN v b (-1:Int)/\I3 q r/\((!h)=true->En i f/\En j f/\YR d e/\((!k)=true->EN v a c/\EN v s c/\EN v b c/\I3 g l))),cond m (CT p n) (cond h g (cond k g (CT g l))))
def sK2 a b c d e f:=(pO a b c d e f).1
def Uu a b c d e f:=(pO a b c d e f).2
theorem oE:SK 255 (sp6 Bf Aq Aq Aq vI vI At sK2 Uu):=fx (λc=>{ c with wants:=[(253,[0])] }) Tryz.func255 154 [kb Iz,kb oT4,kb sK0,kb oT5,kb pG4,kb pG5] [] [(5,[(4,0,25,0)]),(9,[(4,0,43,400000)]),(11,[(4,0,53,400000)]),(19,[(4,0,400000,0)]),(25,[(4,0,400000,0)]),(33,[(4,0,153,0)])] true
abbrev vF1:Type:=((List A0)×Bool×Int×Int×Int×Int×Int×Unit)
def tD7 (y:vF1)(x:CH):Prop×Bool×CH:=
 let i:=y.1
 let k:=y.2.2.1
 let e:=(Q1 y).1
 let j:=x.1
 let b:=x.2.1
 let f:=decide (b<(Q3 y).1)
 let c:=nth i b A1
 let g:=tmod (b+1) e
 let d:=nth i g A1
 let a:=B0 c d k
 let h:=([AX c a (1:Int),AX d a (1:Int),AX d a (-1:Int),AX c a (-1:Int)]:List A0)
 (f=true->A6 b (len i)/\A5 (b+1)/\e≠0/\A6 g (len i)/\QP c d k/\EN c a (1:Int)/\EN d a (1:Int)/\EN d a (-1:Int)/\EN c a (-1:Int)/\I3 j h/\A5 (b+1),f,(CT j h,b+1,()))
def vL3 y x:=(tD7 y x).1
def Jn y x:=(tD7 y x).2.1
def Jo y x:=(tD7 y x).2.2
def YT (y:vF1)(x:CH):(List (List A0)):=
 x.1
def tO:List (Nat×Sh):=[(0,Bf),(1,Bc),(2,vB),(3,vI),(4,vI),(5,vI),(13,vI)]
def rR1:=li [(1,Bc),(2,vB),(3,vI),(4,vI),(5,vI),(13,vI),(14,vI)] [(0,Bf),(15,vI)] Jn Jo vL3 (λy x=>[ex 2 none tO ((YT y x),y.1,y.2.1,y.2.2.1,y.2.2.2.1,y.2.2.2.2.1,(Q1 y).1,())]) [tO]
abbrev vF2:Type:=((List A0)×Bool×Int×Int×Int×Int×Unit)
def tD8 (y:vF2)(x:CH):Prop×Bool×CH:=
 let h:=y.1
 let o:=y.2.2.1
 let q:=y.2.2.2.1
 let b:=(Q1 y).1
 let n:=x.1
 let a:=x.2.1
 let i:=decide (a<b)
 let j:=!y.2.1
 let k:=decide (a>0)
 let l:=cond j true (cond k (decide (a<(b-1))) false)
 let m:=a+b
 let c:=tmod (m-1) b
 let d:=nth h c A1
 let e:=nth h a A1
 let f:=tmod (a+1) b
 let g:=nth h f A1
 (i=true->(((!j)&&k)=true->A5 (b-1))/\(l=true->A5 (a+b)/\A5 (m-1)/\b≠0/\A6 c (len h)/\A6 a (len h)/\A5 (a+1)/\b≠0/\A6 f (len h)/\sK2 n d e g o q)/\A5 (a+1),i,(cond l (Uu n d e g o q) n,a+1,()))
def YU y x:=(tD8 y x).1
def Ko y x:=(tD8 y x).2.1
def Kp y x:=(tD8 y x).2.2
def wY0 (y:vF2)(x:CH):(List (List A0)):=
 x.1
def tO0:List (Nat×Sh):=[(0,Bf),(1,Bc),(2,vB),(3,vI),(5,vI),(13,vI)]
def rR2:=li [(1,Bc),(2,vB),(3,vI),(4,vI),(5,vI),(13,vI)] [(0,Bf),(19,vI)] Ko Kp YU (λy x=>[ex 4 none tO0 ((wY0 y x),y.1,y.2.1,y.2.2.1,y.2.2.2.2.1,(Q1 y).1,())]) [tO0]
def pO0 (p:(List (List A0)))(D:List A0)(G:Bool)(I S T:Int):Prop×(List (List A0)):=
 let d:=len D
 let N:=d==0
 let M:=d==1
 let O:=nth D (0:Int) A1
 let i:=(D,G,I,S,T,d,cond G (d-1) d,())
 let Q:=(p,(0:Int),())
 let j:=(D,G,I,S,T,d,())
 let R:=(YT i (A3 (Jn i) (Jo i) Q),(0:Int),())
 let c:=wY0 j (A3 (Ko j) (Kp j) R)
 let l:=cond (!G) true (T==0)
 let k:=T==1
 let m:=nth D (0:Int) A1
 let n:=DV m I
 let o:=CT c n
 let q:=d-1
 let r:=nth D q A1
 let s:=DV r I
 let a:=nth D (0:Int) A1
 let t:=d-1
 let b:=nth D t A1
 let u:=nth D (1:Int) A1
 let e:=B0 a u I
 let v:=nth D (1:Int) A1
 let g:=FD a v I
 let w:=AX a g (-1:Int)
 let z:=AX a g (-1:Int)
 let A:=([AX w e (1:Int),AX a e (1:Int),AX a e (-1:Int),AX z e (-1:Int)]:List A0)
 let B:=CT c A
 let C:=d-2
 let E:=nth D C A1
 let f:=B0 E b I
 let F:=d-2
 let H:=nth D F A1
 let h:=FD H b I
 let J:=AX b h (1:Int)
 let K:=AX b h (1:Int)
 let L:=([AX b f (1:Int),AX J f (1:Int),AX K f (-1:Int),AX b f (-1:Int)]:List A0)
 ((!N)=true->(M=true->A6 (0:Int) (len D)/\sK1 p O I T)/\((!M)=true->(G=true->A5 (d-1))/\Am.Ends (Jn i) (Jo i) (vL3 i) Q/\Am.Ends (Ko j) (Kp j) (YU j) R/\((!l)=true->(k=true->A6 (0:Int) (len D)/\Ur m I/\I3 c n/\A5 (d-1)/\A6 q (len D)/\Ur r I/\I3 o s)/\((!k)=true->A6 (0:Int) (len D)/\A5 (d-1)/\A6 t (len D)/\A6 (1:Int) (len D)/\QP a u I/\A6 (1:Int) (len D)/\qG1 a v I/\EN a g (-1:Int)/\EN w e (1:Int)/\EN a e (1:Int)/\EN a e (-1:Int)/\EN a g (-1:Int)/\EN z e (-1:Int)/\I3 c A/\A5 (d-2)/\A6 C (len D)/\QP E b I/\A5 (d-2)/\A6 F (len D)/\qG1 H b I/\EN b f (1:Int)/\EN b h (1:Int)/\EN J f (1:Int)/\EN b h (1:Int)/\EN K f (-1:Int)/\EN b f (-1:Int)/\I3 B L))),cond N p (cond M (Mp p O I T) (cond l c (cond k (CT o s) (CT B L)))))
def tK2 a b c d e f:=(pO0 a b c d e f).1
def Kq a b c d e f:=(pO0 a b c d e f).2
theorem oE0:SK 218 (sp6 Bf Bc vB vI vI vI At tK2 Kq):=fx (λc=>{ c with wants:=[(251,[0]),(253,[0]),(255,[0])] }) Tryz.func218 216 [kb oD9,kb oT4,kb sK0,kb oT5,kb oE,kb pG4,kb mQ1] [(10,rR1),(16,rR2)] [(7,[(4,0,400000,0)]),(11,[(4,0,37,0)]),(29,[(4,0,76,400000)]),(39,[(4,0,117,400000)]),(43,[(4,0,400000,0)]),(47,[(4,0,141,0)]),(53,[(4,0,180,400000)]),(57,[(4,0,215,0)])]
abbrev wV7:Type:=((List (List A0))×(List Bool)×Int×Int×Int×Int×Unit)
def QQ (y:wV7)(x:CH):Prop×Bool×CH×Bool×Bool:=
 let k:=y.1
 let j:=y.2.1
 let l:=y.2.2.1
 let m:=y.2.2.2.1
 let n:=y.2.2.2.2.1
 let e:=x.1
 let a:=x.2.1
 let b:=decide (a<(Q1 y).1)
 let f:=nth k a ([]:List A0)
 let g:=nth j a false
 let h:=f219 f g
 let i:=nth j a false
 let c:=Kq e h i l m n
 let d:=decide (Ho c>4096)
 (b=true->A6 a (len k)/\A6 a (len j)/\qG4 f g/\A6 a (len j)/\tK2 e h i l m n/\qG6 c/\((!d)=true->A5 (a+1)),b&&(!d),(c,a+1,()),b&&d,!b)
def tR3 y x:=(QQ y x).1
def Ob y x:=(QQ y x).2.1
def Lj y x:=(QQ y x).2.2.1
def QR y x:=(QQ y x).2.2.2.1
def pG6 y x:=(QQ y x).2.2.2.2
def sA3 (y:wV7)(x:CH):(List (List A0)):=
 ([]:List (List A0))
def sA4 (y:wV7)(x:CH):Int:=
 (3:Int)
def rI1:List (Nat×Sh):=[(10,At),(11,vI)]
def sA5 (y:wV7)(x:CH):(List (List A0)):=
 x.1
def rI2:List (Nat×Sh):=[(13,(.own Ad 1013 false))]
def pG7:=li [(0,Aj),(1,Dz),(2,vI),(3,vI),(4,vI),(33,vI)] [(13,(.own Ad 1013 false)),(34,vI)] Ob Lj tR3 (λy x=>[ex 1 (some (QR y x)) rI1 ((sA3 y x),(sA4 y x),()),ex 2 (some (pG6 y x)) rI2 ((sA5 y x),())]) [rI1,rI2]
def lM8 (j:(List (List A0)))(k:List Bool)(l m n:Int):Prop×((List (List A0))×Int×Unit):=
 let g:=f217 l m n
 let d:=g !=0
 let h:=Eg j (0:Int)
 let e:=h !=0
 let f:=len k !=len j
 let a:=(j,k,l,m,n,len j,())
 let i:=(([]:List (List A0)),(0:Int),())
 let c:=A3 (Ob a) (Lj a) i
 let b:=QR a c
 (oT0 l m n/\((!d)=true->Oa j (0:Int)/\((!e)=true->(!f)=true->Am.Ends (Ob a) (Lj a) (tR3 a) i)),(cond d [] (cond e [] (cond f [] (cond b (sA3 a c) (sA5 a c)))),cond d g (cond e h (cond f (15:Int) (cond b (sA4 a c) (0:Int)))),()))
def qG8 a b c d e:=(lM8 a b c d e).1
def Hp a b c d e:=(lM8 a b c d e).2
theorem mQ4:SK 184 (sp5 Aj Dz vI vI vI (.tup (.cons At (.cons vI .nl))) qG8 Hp):=fx (λc=>{ c with wants:=[(218,[0])] }) Tryz.func184 60 [kb pG0,kb mP2,kb oE0,kb mQ2,kb mQ3] [(11,pG7)] [(27,[(4,0,54,1013)]),(35,[(4,0,1013,0)])]
def lM9 (o:AK):Prop×Int:=
 let a:=CY (Q8 o).1 (Q2 o).1
 let h:=a.2.1 !=0
 let i:=cond ((Qi o).1 !=0) ((Qi o).1 !=1) false
 let b:=CP a.1
 let f:=(Qb o).1==0
 let c:=cond ((Qf o).1 !=0) true ((Qg o).1 !=0)
 let j:=Eg b.1 (Qi o).1
 let d:=j !=0
 let k:=Gs a.1
 let e:=Hp b.1 k.1 (Qb o).1 (Qf o).1 (Qg o).1
 let l:=e.2.1 !=0
 let m:=Eg e.1 (0:Int)
 let n:=m !=0
 let g:=cond ((c||((!c)&&(d||(!d))))&&f) (cond c (1:Int) (cond d j (f138 (Q9 o).1))) (cond l e.2.1 (cond n m (f138 (Q9 o).1)))
 (qF3 (Q8 o).1 (Q2 o).1/\((!h)=true->(!i)=true->YJ a.1/\(f=true->(!c)=true->Oa b.1 (Qi o).1/\((!d)=true->NU (Q9 o).1))/\((!f)=true->qF7 a.1/\qG8 b.1 k.1 (Qb o).1 (Qf o).1 (Qg o).1/\((!l)=true->Oa e.1 (0:Int)/\((!n)=true->NU (Q9 o).1)))),cond h a.2.1 (cond i (8:Int) g))
def pG8 a:=(lM9 a).1
def Kr a:=(lM9 a).2
theorem mQ5:SK 140 (AP Bb vI pG8 Kr):=fb Tryz.func140 85 [kb pF1,kb mO8,kb oS9,kb pG0,kb mP1,kb mQ4] [] [(3,[(4,0,17,1003)]),(31,[(4,0,71,1010)])]
def Uv (y:Ee)(x:AA):Prop×Bool×AA×Bool×Bool:=
 let f:=y.1
 let g:=y.2.1
 let d:=x.1
 let e:=nth f g A4
 let b:=decide (d<B7 e.1)
 let a:=nth (nth f g A4).2.1 d A1
 let c:=decide (wC (wC (wC a.1 (sub 0 a.1)) a.2.1) (sub 0 a.2.1)>65536)
 (A6 g (len f)/\QJ e.1/\(b=true->A6 g (len f)/\A6 d 3/\A5 (sub 0 a.1)/\A5 (sub 0 a.2.1)/\((!c)=true->A5 (d+1))),b&&(!c),(d+1,()),b&&c,!b)
def rX2 y x:=(Uv y x).1
def QS y x:=(Uv y x).2.1
def Uw y x:=(Uv y x).2.2.1
def sK4 y x:=(Uv y x).2.2.2.1
def sK5 y x:=(Uv y x).2.2.2.2
def sS3 (y:Ee)(x:AA):Bool:=
 false
def rX3:List (Nat×Sh):=[(0,Ai),(3,vI)]
def oE1:=li [(0,Ai),(3,vI)] [(4,vI)] QS Uw rX2 (λy x=>[ex 1 (some (sK4 y x)) [(2,vB)] ((sS3 y x),()),ex 4 (some (sK5 y x)) rX3 (y.1,y.2.1,())]) [[(2,vB)],rX3]
def Oc (y:NW)(x:AA):Prop×Bool×AA×Bool×Bool:=
 let e:=y.1
 let c:=x.1
 let d:=decide (c<len e)
 let b:=(e,c,())
 let g:=((0:Int),())
 let f:=A3 (QS b) (Uw b) g
 let a:=sK5 b f
 (d=true->Am.Ends (QS b) (Uw b) (rX2 b) g/\(a=true->A5 (c+1)),d&&a,(c+1,()),d&&sK4 b f,!d)
def rX4 y x:=(Oc y x).1
def wP y x:=(Oc y x).2.1
def wJ y x:=(Oc y x).2.2.1
def YV y x:=(Oc y x).2.2.2.1
def oE2 y x:=(Oc y x).2.2.2.2
def uG6 (y:NW)(x:AA):Bool:=
 let a:=(y.1,x.1,())
 (sS3 a (A3 (QS a) (Uw a) ((0:Int),())))
def oE3:=li [(0,Ai)] [(3,vI)] wP wJ rX4 (λy x=>[ex 1 (some (YV y x)) [(2,vB)] ((uG6 y x),()),ex 2 (some (oE2 y x)) [] ()]) [[(2,vB)],[]]
def lN (d:List A8):Prop×Bool:=
 let a:=(d,())
 let c:=((0:Int),())
 let b:=A3 (wP a) (wJ a) c
 (Am.Ends (wP a) (wJ a) (rX4 a) c,cond (YV a b) (uG6 a b) true)
def pG9 a:=(lN a).1
def Ks a:=(lN a).2
theorem mQ6:SK 280 (AP Ai vB pG9 Ks):=fb Tryz.func280 41 [kb Y4] [(2,oE3),(5,oE1)]
abbrev uB0:Type:=(A7×Unit)
def Od (y:uB0)(x:AA):Prop×Bool×AA×Bool×Bool:=
 let h:=y.1
 let f:=x.1
 let b:=decide (f<len h.2.2.2.1)
 let a:=nth h.2.2.2.1 f BC
 let g:=decide (f>0)
 let j:=f-1
 let c:=cond g (decide (a.1<=(nth h.2.2.2.1 j BC).1)) false
 let d:=cond (decide (a.2.1<0)) true (decide (a.2.1>65536))
 let e:=CB a.2.2.1!=0
 let k:=!(Ks a.2.2.1)
 let i:=(!c)&&((!d)&&((!e)&&(!k)))
 (b=true->A6 f (len h.2.2.2.1)/\(g=true->A5 (f-1))/\(g=true->A6 j (len h.2.2.2.1))/\((!c)=true->(!d)=true->sJ a.2.2.1/\((!e)=true->pG9 a.2.2.1))/\(i=true->A5 (f+1)),b&&i,(f+1,()),b&&(c||((!c)&&(d||((!d)&&(e||((!e)&&k)))))),!b)
def rX5 y x:=(Od y x).1
def Ux y x:=(Od y x).2.1
def uG8 y x:=(Od y x).2.2.1
def tK4 y x:=(Od y x).2.2.2.1
def rX6 y x:=(Od y x).2.2.2.2
def uG9 (y:uB0)(x:AA):Int:=
 let e:=y.1
 let d:=x.1
 let a:=nth e.2.2.2.1 d BC
 let c:=CB a.2.2.1
 let b:=cond (cond (decide (d>0)) (decide (a.1<=(nth e.2.2.2.1 (d-1) BC).1)) false) (24:Int) (cond (cond (decide (a.2.1<0)) true (decide (a.2.1>65536))) (2:Int) (cond (c !=0) c (2:Int)))
 b
def oE4:=li [(1,Ah)] [(3,vI)] Ux uG8 rX5 (λy x=>[ex 1 (some (tK4 y x)) [(2,vI)] ((uG9 y x),()),ex 2 (some (rX6 y x)) [(1,Ah)] (y.1,())]) [[(2,vI)],[(1,Ah)]]
def Oe (y:uB0)(x:AA):Prop×Bool×AA×Bool×Bool:=
 let i:=y.1
 let e:=x.1
 let d:=decide (e<len i.2.2.2.2.1)
 let a:=nth i.2.2.2.2.1 e BT
 let b:=decide (e>0)
 let f:=e-1
 let c:=nth i.2.2.2.2.1 f BT
 let g:=cond (decide (a.1<c.1)) true (cond (a.1==c.1) (decide (a.2.1<=c.2.1)) false)
 let j:=cond b (!g) true
 let h:=cond (decide (a.2.2.1<(-65536))) true (decide (a.2.2.1>65536))
 let k:=j&&(!h)
 (d=true->A6 e (len i.2.2.2.2.1)/\(b=true->A5 (e-1)/\A6 f (len i.2.2.2.2.1))/\(k=true->A5 (e+1)),d&&k,(e+1,()),d&&((g&&b)||(j&&h)),!d)
def rI3 y x:=(Oe y x).1
def Uy y x:=(Oe y x).2.1
def vR5 y x:=(Oe y x).2.2.1
def uQ2 y x:=(Oe y x).2.2.2.1
def pH y x:=(Oe y x).2.2.2.2
def vR6 (y:uB0)(x:AA):Int:=
 let d:=y.1
 let c:=x.1
 let a:=nth d.2.2.2.2.1 c BT
 let b:=nth d.2.2.2.2.1 (c-1) BT
 (cond ((cond (decide (a.1<b.1)) true (cond (a.1==b.1) (decide (a.2.1<=b.2.1)) false))&&decide (c>0)) (24:Int) (2:Int))
def pH0:=li [(1,Ah)] [(6,vI)] Uy vR5 rI3 (λy x=>[ex 1 (some (uQ2 y x)) [(2,vI)] ((vR6 y x),()),ex 4 (some (pH y x)) [] ()]) [[(2,vI)],[]]
def lN0 (i:A7):Prop×Int:=
 let d:=cond (cond (cond (cond (cond (decide (i.1<1)) true (decide (i.1>65536))) true (decide (i.2.1<0))) true (decide (i.2.1>65536))) true (decide (i.2.2.1<0))) true (decide (i.2.2.1>65536))
 let e:=cond (decide (len i.2.2.2.1>256)) true (decide (len i.2.2.2.2.1>256))
 let b:=(i,())
 let h:=((0:Int),())
 let g:=A3 (Ux b) (uG8 b) h
 let a:=(i,())
 let f:=((0:Int),())
 let c:=A3 (Uy a) (vR5 a) f
 ((!d)=true->(!e)=true->Am.Ends (Ux b) (uG8 b) (rX5 b) h/\(rX6 b g=true->Am.Ends (Uy a) (vR5 a) (rI3 a) f),cond d (2:Int) (cond e (3:Int) (cond (tK4 b g) (uG9 b g) (cond (uQ2 a c) (vR6 a c) (0:Int)))))
def qG9 a:=(lN0 a).1
def Ey a:=(lN0 a).2
theorem oT6:SK 258 (AP Bm vI qG9 Ey):=fb Tryz.func258 138 [kb qF2,kb mQ6] [(6,oE4),(19,pH0)]
abbrev uB1:Type:=((List (List UInt8))×Int×Int×Unit)
def sX4 (y:Nt)(x:uB1):Prop×Bool×uB1:=
 let c:=y.1
 let h:=x.1
 let g:=x.2.1
 let a:=x.2.2.1
 let d:=decide (a<=len c)
 let e:=a==len c
 let b:=cond e true (BN c a==y.2.1)
 let f:=([List.drop (toNat g) (take (toNat a) c)]:List (List UInt8))
 (d=true->((!e)=true->A6 a (len c))/\(b=true->(0<=g/\g<=a/\a<=len c)/\((length h+length f:Nat):Int)<=4294967296/\A5 (a+1))/\A5 (a+1),d,(cond b (h++f) h,cond b (a+1) g,a+1,()))
def rX7 y x:=(sX4 y x).1
def Of y x:=(sX4 y x).2.1
def Mq y x:=(sX4 y x).2.2
def sS4 (y:Nt)(x:uB1):(List (List UInt8)):=
 x.1
def oE5:=li [(0,vS),(1,Ba)] [(5,Dk),(6,vI),(7,vI)] Of Mq rX7 (λy x=>[ex 2 none [(5,Dk)] ((sS4 y x),())]) [[(5,Dk)]]
def lN1 (c:List UInt8)(d:Int):Prop×(List (List UInt8)):=
 let a:=(c,d,())
 let b:=(([]:List (List UInt8)),(0:Int),(0:Int),())
 (Am.Ends (Of a) (Mq a) (rX7 a) b,sS4 a (A3 (Of a) (Mq a) b))
def YW a b:=(lN1 a b).1
def Gu a b:=(lN1 a b).2
theorem mQ7:SK 259 (BG vS Ba Dq YW Gu):=fb Tryz.func259 36 [] [(4,oE5)] [(3,[(4,0,8,1005)]),(15,[(4,0,32,1005)]),(19,[(4,0,1005,0)])]
abbrev vO3:Type:=(Int×A7×Unit)
def QT (y:vO3)(x:vC):Prop×Bool×vC×Bool×Bool:=
 let d:=y.2.1
 let c:=x.2.1
 let a:=decide (c<len d.2.2.2.1)
 let b:=(nth d.2.2.2.1 c BC).1==y.1
 (a=true->A6 c (len d.2.2.2.1)/\((!b)=true->A6 c (len d.2.2.2.1))/\((!b)=true->A5 (c+1)),a&&(!b),(cond ((nth d.2.2.2.1 c BC).1==63) c x.1,c+1,()),a&&b,!a)
def rX8 y x:=(QT y x).1
def Lk y x:=(QT y x).2.1
def Og y x:=(QT y x).2.2.1
def YX y x:=(QT y x).2.2.2.1
def oE6 y x:=(QT y x).2.2.2.2
def sS5 (y:vO3)(x:vC):Int:=
 x.2.1
def sS6 (y:vO3)(x:vC):Int:=
 x.1
def oE7:=li [(1,Ba),(2,Ah)] [(5,vI),(6,vI)] Lk Og rX8 (λy x=>[ex 1 (some (YX y x)) [(4,vI)] ((sS5 y x),()),ex 2 (some (oE6 y x)) [(5,vI)] ((sS6 y x),())]) [[(4,vI)],[(5,vI)]]
def lN2 (d:A7)(e:Int):Prop×Int:=
 let a:=(e,d,())
 let c:=((-1:Int),(0:Int),())
 let b:=A3 (Lk a) (Og a) c
 (Am.Ends (Lk a) (Og a) (rX8 a) c,cond (YX a b) (sS5 a b) (sS6 a b))
def pH1 a b:=(lN2 a b).1
def f261 a b:=(lN2 a b).2
theorem mQ8:SK 261 (BG Bm Ba vI pH1 f261):=fb Tryz.func261 32 [] [(3,oE7)]
abbrev tE:Type:=((List UInt8)×A7×Unit)
def qH (y:tE)(x:Gi):Prop×Bool×Gi:=
 let g:=y.1
 let i:=y.2.1
 let h:=x.1
 let a:=x.2.1
 let b:=cond (decide (a<len g)) (decide (a<128)) false
 let c:=BN g a
 let d:=f261 i c
 let e:=decide (d≥0)
 let f:=([d]:List Int)
 (b=true->A6 a (len g)/\pH1 i c/\(e=true->((length h+length f:Nat):Int)<=4294967296)/\A5 (a+1),b,(cond e (h++f) h,a+1,()))
def rX9 y x:=(qH y x).1
def QU y x:=(qH y x).2.1
def YY y x:=(qH y x).2.2
def tE0 (y:tE)(x:Gi):(List Int):=
 x.1
def rY:List (Nat×Sh):=[(5,Bg)]
def oE8:=li [(1,vS),(2,Ah)] [(5,Bg),(6,vI)] QU YY rX9 (λy x=>[ex 2 none rY ((tE0 y x),())]) [rY]
def lN3 (c:A7)(d:List UInt8):Prop×(List Int):=
 let a:=(d,c,())
 let b:=(([]:List Int),(0:Int),())
 (Am.Ends (QU a) (YY a) (rX9 a) b,tE0 a (A3 (QU a) (YY a) b))
def qH0 a b:=(lN3 a b).1
def AO a b:=(lN3 a b).2
theorem oT7:SK 222 (BG Bm vS Bk qH0 AO):=fb Tryz.func222 31 [kb mQ8] [(3,oE8)] [(3,[(4,0,8,1005)]),(15,[(4,0,29,1005)]),(17,[(4,0,1005,0)])]
abbrev uB4:Type:=(Int×Int×A7×Unit)
def Uz (y:uB4)(x:AA):Prop×Bool×AA×Bool×Bool:=
 let d:=y.2.2.1
 let c:=x.1
 let a:=decide (c<len d.2.2.2.2.1)
 let e:=(nth d.2.2.2.2.1 c BT).1==y.1
 let b:=cond e ((nth d.2.2.2.2.1 c BT).2.1==y.2.1) false
 (a=true->A6 c (len d.2.2.2.2.1)/\(e=true->A6 c (len d.2.2.2.2.1))/\(b=true->A6 c (len d.2.2.2.2.1))/\((!b)=true->A5 (c+1)),a&&(!b),(c+1,()),a&&b,!a)
def rY0 y x:=(Uz y x).1
def QV y x:=(Uz y x).2.1
def U0 y x:=(Uz y x).2.2.1
def tK6 y x:=(Uz y x).2.2.2.1
def oE9 y x:=(Uz y x).2.2.2.2
def sS7 (y:uB4)(x:AA):Int:=
 (nth y.2.2.1.2.2.2.2.1 x.1 BT).2.2.1
def oF:=li [(1,Ba),(2,Ba),(3,Ah)] [(7,vI)] QV U0 rY0 (λy x=>[ex 1 (some (tK6 y x)) [(6,vI)] ((sS7 y x),()),ex 2 (some (oE9 y x)) [] ()]) [[(6,vI)],[]]
def lN4 (d:A7)(e f:Int):Prop×Int:=
 let a:=(e,f,d,())
 let c:=((0:Int),())
 let b:=A3 (QV a) (U0 a) c
 (Am.Ends (QV a) (U0 a) (rY0 a) c,cond (tK6 a b) (sS7 a b) (0:Int))
def pH2 a b c:=(lN4 a b c).1
def EF a b c:=(lN4 a b c).2
theorem mQ9:SK 262 (DN Bm Ba Ba vI pH2 EF):=fb Tryz.func262 39 [] [(2,oF)]
abbrev uL:Type:=((List Int)×A7×Unit)
abbrev U1:Type:=((List Int)×Int×Int×Unit)
def qH1 (y:uL)(x:U1):Prop×Bool×U1:=
 let c:=y.1
 let b:=y.2.1
 let r:=x.1
 let o:=x.2.1
 let a:=x.2.2.1
 let d:=decide (a<len c)
 let e:=decide (a>0)
 let f:=a-1
 let g:=nth c f (0:Int)
 let h:=nth b.2.2.2.1 g BC
 let i:=nth c a (0:Int)
 let j:=nth b.2.2.2.1 i BC
 let k:=EF b h.1 j.1
 let q:=cond e (o+k) o
 let l:=([q]:List Int)
 let m:=nth c a (0:Int)
 let n:=nth b.2.2.2.1 m BC
 (d=true->(e=true->A5 (a-1)/\A6 f (len c)/\A6 g (len b.2.2.2.1)/\A6 a (len c)/\A6 i (len b.2.2.2.1)/\pH2 b h.1 j.1/\A5 (o+k))/\((length r+length l:Nat):Int)<=4294967296/\A6 a (len c)/\A6 m (len b.2.2.2.1)/\A5 (q+n.2.1)/\A5 (a+1),d,(r++l,q+n.2.1,a+1,()))
def rY1 y x:=(qH1 y x).1
def Kt y x:=(qH1 y x).2.1
def Ku y x:=(qH1 y x).2.2
def YZ (y:uL)(x:U1):(List Int):=
 x.1
def uH (y:uL)(x:U1):Int:=
 x.2.1
def rY2:List (Nat×Sh):=[(5,Bg),(6,vI)]
def oF0:=li [(1,Ak),(2,Ah)] [(5,Bg),(6,vI),(7,vI)] Kt Ku rY1 (λy x=>[ex 2 none rY2 ((YZ y x),(uH y x),())]) [rY2]
def lN5 (f:A7)(g:List Int):Prop×(List Int):=
 let b:=(g,f,())
 let e:=(([]:List Int),(0:Int),(0:Int),())
 let d:=A3 (Kt b) (Ku b) e
 let a:=YZ b d
 let c:=([uH b d]:List Int)
 (Am.Ends (Kt b) (Ku b) (rY1 b) e/\((length a+length c:Nat):Int)<=4294967296,a++c)
def Za a b:=(lN5 a b).1
def BP a b:=(lN5 a b).2
theorem oT8:SK 223 (BG Bm Ak Bk Za BP):=fb Tryz.func223 59 [kb mQ9] [(4,oF0)] [(3,[(4,0,8,1005)]),(17,[(4,0,43,1005)]),(21,[(4,0,58,0)])]
def lN6 (i:A7)(j:List UInt8)(k:Int):Prop×Int:=
 let b:=Ey i !=0
 let c:=AO i j
 let a:=BP i c
 let d:=len a
 let e:=d-1
 let f:=nth a e (0:Int)
 let g:=Kh k (1:Int) (1048576:Int)
 let h:=f*g
 (qG9 i/\((!b)=true->qH0 i j/\Za i c/\A5 (d-1)/\A6 e (len a)/\Yu k (1:Int) (1048576:Int)/\A5 (f*g)/\En h i.1),cond b (0:Int) (AZ h i.1))
def U4 a b c:=(lN6 a b c).1
def Hq a b c:=(lN6 a b c).2
theorem mR:SK 260 (DN Bm vS vI vI U4 Hq):=fb Tryz.func260 28 [kb Iz,kb qF,kb oT7,kb oT8,kb oT6] [] [(7,[(4,0,15,1007)])]
abbrev vO7:Type:=((List UInt8)×Int×Int×A7×Unit)
def U5 (y:vO7)(x:AA):Prop×Bool×AA×Bool×Bool:=
 let c:=y.1
 let a:=x.1
 let b:=decide (a<len c)
 let d:=BN c a !=10
 let f:=decide (BN c a<32)
 let e:=cond d (cond f true (decide (BN c a>126))) false
 (b=true->A6 a (len c)/\(d=true->A6 a (len c))/\((d&&(!f))=true->A6 a (len c))/\((!e)=true->A5 (a+1)),b&&(!e),(a+1,()),b&&e,!b)
def sK7 y x:=(U5 y x).1
def Oh y x:=(U5 y x).2.1
def QW y x:=(U5 y x).2.2.1
def sK8 y x:=(U5 y x).2.2.2.1
def rY3 y x:=(U5 y x).2.2.2.2
def sS8 (y:vO7)(x:AA):(List (List UInt8)):=
 ([]:List (List UInt8))
def sS9 (y:vO7)(x:AA):Int:=
 (4:Int)
def rY4:List (Nat×Sh):=[(8,Dq),(9,vI)]
def rY5:List (Nat×Sh):=[(1,vS),(2,vI),(3,vI),(4,Ah)]
def oF1:=li [(1,vS),(2,vI),(3,vI),(4,Ah)] [(11,vI)] Oh QW sK7 (λy x=>[ex 1 (some (sK8 y x)) rY4 ((sS8 y x),(sS9 y x),()),ex 2 (some (rY3 y x)) rY5 (y.1,y.2.1,y.2.2.1,y.2.2.2.1,())]) [rY4,rY5]
abbrev vU8:Type:=(Int×Int×A7×(List (List UInt8))×Int×(List (List UInt8))×Unit)
def rI6 (y:vU8)(x:Np):Prop×Bool×Np:=
 let l:=y.1
 let m:=y.2.1
 let n:=y.2.2.1
 let b:=(Q1 y).1
 let e:=x.1
 let f:=x.2.1
 let a:=x.2.2.1
 let h:=decide (a<len b)
 let i:=f++([32]:List UInt8)
 let j:=nth b a ([]:List UInt8)
 let g:=i++j
 let k:=m==0
 let c:=cond k true (decide (Hq n g l<=m))
 let d:=([f]:List (List UInt8))
 (h=true->((length f+length ([32]:List UInt8):Nat):Int)<=9223372036854775807/\A6 a (len b)/\((length i+length j:Nat):Int)<=9223372036854775807/\((!k)=true->U4 n g l)/\(c=false->((length e+length d:Nat):Int)<=4294967296/\A6 a (len b))/\A5 (a+1),h,(cond c e (e++d),cond c g (nth b a ([]:List UInt8)),a+1,()))
def tR4 y x:=(rI6 y x).1
def Mr y x:=(rI6 y x).2.1
def Ms y x:=(rI6 y x).2.2
def vR7 (y:vU8)(x:Np):(List (List UInt8)):=
 x.1
def uQ4 (y:vU8)(x:Np):(List UInt8):=
 x.2.1
def rI7:List (Nat×Sh):=[(2,vI),(3,vI),(4,Ah),(12,Ch),(13,Dl),(14,vI),(16,vS)]
def pH3:=li [(2,vI),(3,vI),(4,Ah),(13,Dl),(14,vI),(15,(.own .str 1015 false))] [(12,Ch),(16,vS),(17,vI)] Mr Ms tR4 (λy x=>[ex 6 none rI7 (y.1,y.2.1,y.2.2.1,(vR7 y x),y.2.2.2.1,y.2.2.2.2.1,(uQ4 y x),())]) [rI7]
abbrev uL0:Type:=(Int×Int×A7×(List (List UInt8))×Unit)
def sA6 (y:uL0)(x:Tm):Prop×Bool×Tm:=
 let d:=y.2.2.2.1
 let c:=x.2.1
 let h:=decide (c<len d)
 let i:=nth d c ([]:List UInt8)
 let f:=Gu i (32:Int)
 let b:=(y.1,y.2.1,y.2.2.1,d,c,f,())
 let j:=(x.1,nth f (0:Int) ([]:List UInt8),(1:Int),())
 let g:=A3 (Mr b) (Ms b) j
 let a:=vR7 b g
 let e:=([uQ4 b g]:List (List UInt8))
 (h=true->A6 c (len d)/\YW i (32:Int)/\A6 (0:Int) (len f)/\Am.Ends (Mr b) (Ms b) (tR4 b) j/\((length a+length e:Nat):Int)<=4294967296/\A5 (c+1),h,(a++e,c+1,()))
def uQ5 y x:=(sA6 y x).1
def U6 y x:=(sA6 y x).2.1
def Mt y x:=(sA6 y x).2.2
def sA7 (y:uL0)(x:Tm):(List (List UInt8)):=
 x.1
def pH4:=li [(2,vI),(3,vI),(4,Ah),(13,Dl)] [(12,Ch),(14,vI)] U6 Mt uQ5 (λy x=>[ex 4 none [(12,Ch)] ((sA7 y x),())]) [[(12,Ch)]]
def nN3 (k:A7)(l:List UInt8)(m n:Int):Prop×((List (List UInt8))×Int×Unit):=
 let g:=Ey k
 let d:=g !=0
 let b:=(l,m,n,k,())
 let j:=((0:Int),())
 let i:=A3 (Oh b) (QW b) j
 let c:=sK8 b i
 let e:=decide (len l>128)
 let f:=cond (cond (cond (decide (m<1)) true (decide (m>1048576))) true (decide (n<0))) true (decide (n>1048576))
 let a:=(m,n,k,Gu l (10:Int),())
 let h:=(([]:List (List UInt8)),(0:Int),())
 (qG9 k/\((!d)=true->Am.Ends (Oh b) (QW b) (sK7 b) j/\(rY3 b i=true->(!e)=true->(!f)=true->YW l (10:Int)/\Am.Ends (U6 a) (Mt a) (uQ5 a) h)),(cond d [] (cond c (sS8 b i) (cond e [] (cond f [] (sA7 a (A3 (U6 a) (Mt a) h))))),cond d g (cond c (sS9 b i) (cond e (3:Int) (cond f (2:Int) (0:Int)))),()))
def qH2 a b c d:=(nN3 a b c d).1
def Mu a b c d:=(nN3 a b c d).2
theorem mR0:SK 221 (Fw Bm vS vI vI (.tup (.cons Dq (.cons vI .nl))) qH2 Mu):=fb Tryz.func221 117 [kb oT6,kb mQ7,kb mR] [(5,oF1),(16,pH4),(21,pH3)] [(27,[(4,0,63,1012)]),(29,[(4,0,65,1013)]),(37,[(4,0,76,1015)]),(53,[(4,0,107,1012)]),(57,[(4,0,115,1012)]),(59,[(4,0,1012,0)])]
def qH3 (y:uA)(x:vC):Prop×Bool×vC:=
 let c:=y.1
 let d:=x.1
 let a:=x.2.1
 let e:=decide (a<len c)
 let b:=len (nth c a ([]:List A0))
 (e=true->A6 a (len c)/\A5 (d+b)/\A5 (a+1),e,(d+b,a+1,()))
def sK9 y x:=(qH3 y x).1
def QX y x:=(qH3 y x).2.1
def QY y x:=(qH3 y x).2.2
def sT0 (y:uA)(x:vC):Int:=
 x.1
def oF2:=li [(0,Aj)] [(3,vI),(4,vI)] QX QY sK9 (λy x=>[ex 2 none [(3,vI)] ((sT0 y x),())]) [[(3,vI)]]
def lN7 (c:(List (List A0))):Prop×Int:=
 let a:=(c,())
 let b:=((0:Int),(0:Int),())
 (Am.Ends (QX a) (QY a) (sK9 a) b,sT0 a (A3 (QX a) (QY a) b))
def sL a:=(lN7 a).1
def f224 a:=(lN7 a).2
theorem oT9:SK 224 (AP Aj vI sL f224):=fb Tryz.func224 19 [] [(3,oF2)]
end Go.Proofs.YtgjdonlgingdeaaGreatDoor.Am
