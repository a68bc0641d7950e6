/- Printed by program, part 5. No condition. -/
import Derived.Test.YtgjdonlgingdeaaGreatDoorDckP4
set_option linter.unusedVariables false
set_option synthInstance.maxSize 4000
set_option synthInstance.maxHeartbeats 400000
namespace Go.Proofs.YtgjdonlgingdeaaGreatDoor.Am
open Go Go.Am Go.Proofs
open Go.IntKind (wrap)
open _root_.Int (sub tdiv tmod toNat)
open _root_.List (length set take)
def pR3 (f:List A0)(g:A0):Prop×(List A0):=
 let e:Bool:=len f>0
 let b:=len f
 let a:=b-1
 let c:=cond e (Ty.eqb AQ (nth f a A1) g) false
 let d:=([g]:List A0)
 ((e->A5 (b-1))/\(e->A6 a (len f))/\(e->a<len f)/\(!c->((length f+length d:Nat):Int)<=4294967296),cond c f (f++d))
def Zj a b:=(pR3 a b).1
def M6 a b:=(pR3 a b).2
theorem oG7:SK 248 (BD Bj Ar Dt Zj M6):=fb Tryz.func248 23 [] [] [(5,[(4,0,400000,0)]),(7,[(4,0,22,0)])] false [] [22]
abbrev vP0:Type:=(A0×A8×Unit)
def tU (y:vP0)(x:CX):Vn CX:=
 let g:=y.1
 let h:=y.2.1
 let i:=x.1
 let a:=x.2.1
 let b:Bool:=a<=8
 let c:=(nth h.2.1 (0:Int) A1).1
 let d:=(nth h.2.1 (1:Int) A1).1
 let e:=(nth h.2.1 (0:Int) A1).2.1
 let f:=(nth h.2.1 (1:Int) A1).2.1
 let s:=(Gr g.1 c d a,Gr g.2.1 e f a,())
 (b->A6 (0:Int) 3/\A6 (1:Int) 3/\UT g.1 c d a/\A6 (0:Int) 3/\A6 (1:Int) 3/\UT g.2.1 e f a/\Zj i s/\A5 (a+1),b,(M6 i s,a+1,()))
def sD7 y x:=(tU y x).1
def Zk y x:=(tU y x).2.1
def Zl y x:=(tU y x).2.2
def tE5 (y:vP0)(x:CX):(List A0):=
 x.1
def qL2:=li [(4,Bz),(5,Bi)] [(0,Bj),(7,vI)] Zk Zl sD7 (λy x=>[ex 3 none [(0,Bj)] ((tE5 y x),())]) [[(0,Bj)]]
def tE6 (y:vP0)(x:CX):Vn CX:=
 let j:=y.1
 let b:=y.2.1
 let k:=x.1
 let a:=x.2.1
 let c:Bool:=a<=16
 let d:=(nth b.2.1 (0:Int) A1).1
 let e:=(nth b.2.1 (1:Int) A1).1
 let f:=(nth b.2.1 (2:Int) A1).1
 let g:=(nth b.2.1 (0:Int) A1).2.1
 let h:=(nth b.2.1 (1:Int) A1).2.1
 let i:=(nth b.2.1 (2:Int) A1).2.1
 let s:=(Gs j.1 d e f a,Gs j.2.1 g h i a,())
 (c->A6 (0:Int) 3/\A6 (1:Int) 3/\A6 (2:Int) 3/\UU j.1 d e f a/\A6 (0:Int) 3/\A6 (1:Int) 3/\A6 (2:Int) 3/\UU j.2.1 g h i a/\Zj k s/\A5 (a+1),c,(M6 k s,a+1,()))
def tQ4 y x:=(tE6 y x).1
def vG y x:=(tE6 y x).2.1
def Zm y x:=(tE6 y x).2.2
def uW9 (y:vP0)(x:CX):(List A0):=
 x.1
def rT9:=li [(4,Bz),(5,Bi)] [(0,Bj),(8,vI)] vG Zm tQ4 (λy x=>[ex 5 none [(0,Bj)] ((uW9 y x),())]) [[(0,Bj)]]
def pR4 (k:List A0)(l:A0)(m:A8):Prop×(List A0):=
 let f:=m.1==1
 let b:=cond f f (m.1==2)
 let g:=nth m.2.1 (0:Int) A1
 let c:=m.1==3
 let d:=(l,m,())
 let j:=(k,(1:Int),())
 let h:=m.1==4
 let a:=(l,m,())
 let i:=(k,(1:Int),())
 let e:=cond b (M6 k g) (cond c (tE5 d (A3 (Zk d) (Zl d) j)) (cond h (uW9 a (A3 (vG a) (Zm a) i)) k))
 ((b->A6 (0:Int) 3/\Zj k g)/\(b=false->(c->AA (Zk d) (Zl d) (sD7 d) j)/\(c=false->h->AA (vG a) (Zm a) (tQ4 a) i)),e)
def UW a b c:=(pR4 a b c).1
def UX a b c:=(pR4 a b c).2
theorem oG8:SK 216 (DR Bj Ar Dd Dt UW UX):=fx (λc=>{ c with wants:=[(248,[0])] }) Tryz.func216 94 [kb oG7,kb mV3,kb mV4] [(7,qL2),(12,rT9)] [(9,[(4,0,18,400000)]),(19,[(4,0,51,400000)]),(29,[(4,0,92,400000)]),(31,[(4,0,400000,0)])]
abbrev uC2:Type:=(((List (List A0))×Nat)×A0×Int×Unit)
def qL3 (y:Ot)(x:uC2):Vn uC2:=
 let d:=y.1
 let i:=x.1
 let s:=x.2.1
 let c:=x.2.2.1
 let j:Bool:=c<len d
 let f:=(nth d c A4).1==1
 let e:=cond f (i.1++[[]]) i.1
 let b:=cond f (length i.1) i.2
 let k:=len e
 let a:=k-1
 let l:=len e
 let g:=l-1
 let m:=List.getD e b []
 let n:=nth d c A4
 let o:=nth d c A4
 let h:=B9 o.1
 let q:Bool:=h>0
 let r:=h-1
 (j->A6 c (len d)/\(f->((length i.1+1:Nat):Int)<=4294967296)/\A5 (k-1)/\A5 (l-1)/\A6 g (len e)/\(toNat g=b/\g<len e)/\A6 c (len d)/\UW m s n/\A6 a (len e)/\(toNat a=b/\a<len e)/\(toNat a=b/\a<len e)/\A6 c (len d)/\Ry o.1/\(q->A5 (h-1)/\A6 c (len d)/\A6 r 3)/\A5 (c+1),j,((set e (toNat a) (UX m s n),toNat a),cond q (nth (nth d c A4).2.1 r A1) s,c+1,()))
def qB0 y x:=(qL3 y x).1
def Zn y x:=(qL3 y x).2.1
def Zo y x:=(qL3 y x).2.2
def tE9 (y:Ot)(x:uC2):((List (List A0))×Nat):=
 let a:=x.1
 (a.1,a.2)
def qB1:List (Nat×Sh):=[(5,(.ownh AQ 1005 9000005 true))]
def oG9:=li [(0,Aj)] [(5,(.ownh AQ 1005 9000005 true)),(6,Bz),(7,vI)] Zn Zo qB0 (λy x=>[ex 2 none qB1 ((tE9 y x),())]) [qB1]
def lR1 (e:List A8):Prop×((List (List A0))×Int×Unit):=
 let c:=CB e
 let a:=c !=0
 let b:=(e,())
 let d:=((([]:List (List A0)),length ([]:List (List A0))),((0:Int),(0:Int),()),(0:Int),())
 (US e/\(!a->AA (Zn b) (Zo b) (qB0 b) d),(cond a [] (tE9 b (A3 (Zn b) (Zo b) d)).1,cond a c (0:Int),()))
def Zp a:=(lR1 a).1
def CP a:=(lR1 a).2
theorem nB4:SK 181 (AS Aj (.tup (.cons Ak (.cons vI .nl))) Zp CP):=fx (λc=>{ c with wants:=[(216,[0])] }) Tryz.func181 65 [kb qL0,kb Zc,kb oG8] [(7,oG9)] [(9,[(4,0,14,1005)]),(20,[(1,5,0,0)]),(21,[(4,0,30,1005),(4,0,100029,9000005)]),(23,[(4,0,46,9000005)]),(31,[(1,2,0,0),(1,2,0,0),(4,0,1005,0)])] false [] [5,14,29,30]
abbrev uC3:Type:=((List (List A0))×Unit)
def Zq (y:uC3)(x:vD):Vm vD:=
 let f:=y.1
 let g:=x.1
 let c:=x.2.1
 let a:Bool:=c<len f
 let d:=len (nth f c ([]:List A0))
 let e:=g+d
 let b:Bool:=e>4096
 (a->A6 c (len f)/\A5 (g+d)/\(!b->A5 (c+1)),a&&(!b),(e,c+1,()),a&&b,!a)
def sN y x:=(Zq y x).1
def Ov y x:=(Zq y x).2.1
def Ow y x:=(Zq y x).2.2.1
def tM3 y x:=(Zq y x).2.2.2.1
def tM4 y x:=(Zq y x).2.2.2.2
def sV8 (y:uC3)(x:vD):Int:=
 (3:Int)
def oH:=li [(0,Ak)] [(5,vI),(6,vI)] Ov Ow sN (λy x=>[ex 1 (some (tM3 y x)) [(4,vI)] ((sV8 y x),()),ex 2 (some (tM4 y x)) [(0,Ak)] (y.1,())]) [[(4,vI)],[(0,Ak)]]
def tF (y:Fs)(x:AF):Vm AF:=
 let h:=y.1
 let d:=y.2.1
 let i:=y.2.2.1
 let e:=x.1
 let a:Bool:=e<len (nth h i ([]:List A0))
 let f:=nth h i ([]:List A0)
 let b:=nth f e A1
 let g:=cond (b.1<sub 0 d) true (b.1>d)
 let c:=cond (cond g true (b.2.1<sub 0 d)) true (b.2.1>d)
 (A6 i (len h)/\(a->A6 i (len h)/\A6 e (len f)/\A5 (sub 0 d)/\(!g->A5 (sub 0 d))/\(!c->A5 (e+1))),a&&(!c),(e+1,()),a&&c,!a)
def uS2 y x:=(tF y x).1
def Lt y x:=(tF y x).2.1
def Lu y x:=(tF y x).2.2.1
def tU0 y x:=(tF y x).2.2.2.1
def uS3 y x:=(tF y x).2.2.2.2
def sD9 (y:Fs)(x:AF):Int:=
 (2:Int)
def rM9:List (Nat×Sh):=[(0,Ak),(7,vI),(8,vI)]
def pJ3:=li [(0,Ak),(7,vI),(8,vI)] [(9,vI)] Lt Lu uS2 (λy x=>[ex 1 (some (tU0 y x)) [(4,vI)] ((sD9 y x),()),ex 6 (some (uS3 y x)) rM9 (y.1,y.2.1,y.2.2.1,())]) [[(4,vI)],rM9]
def Zr (y:CH)(x:AF):Vm AF:=
 let g:=y.1
 let f:=x.1
 let c:Bool:=f<len g
 let a:=(g,y.2.1,f,())
 let e:=((0:Int),())
 let d:=A3 (Lt a) (Lu a) e
 let b:=uS3 a d
 (c->AA (Lt a) (Lu a) (uS2 a) e/\(b->A5 (f+1)),c&&b,(f+1,()),c&&tU0 a d,!c)
def tU1 y x:=(Zr y x).1
def UY y x:=(Zr y x).2.1
def UZ y x:=(Zr y x).2.2.1
def uS4 y x:=(Zr y x).2.2.2.1
def pJ4 y x:=(Zr y x).2.2.2.2
def sE (y:CH)(x:AF):Int:=
 let a:=(y.1,y.2.1,x.1,())
 (sD9 a (A3 (Lt a) (Lu a) ((0:Int),())))
def pJ5:=li [(0,Ak),(7,vI)] [(8,vI)] UY UZ tU1 (λy x=>[ex 1 (some (uS4 y x)) [(4,vI)] ((sE y x),()),ex 4 (some (pJ4 y x)) [] ()]) [[(4,vI)],[]]
def mV5 (h:(List (List A0)))(i:Int):Prop×Int:=
 let d:=cond (i !=0) (i !=1) false
 let b:=(h,())
 let g:=((0:Int),(0:Int),())
 let f:=A3 (Ov b) (Ow b) g
 let a:=(h,(16777216:Int),())
 let e:=((0:Int),())
 let c:=A3 (UY a) (UZ a) e
 (!d->AA (Ov b) (Ow b) (sN b) g/\(tM4 b f->AA (UY a) (UZ a) (tU1 a) e),cond d (8:Int) (cond (tM3 b f) (sV8 b f) (cond (uS4 a c) (sE a c) (0:Int))))
def Ox a b:=(mV5 a b).1
def El a b:=(mV5 a b).2
def nB5:=BD Ak vI vI Ox El
theorem pJ6:SK 182 (BD Ak vI vI Ox El):=fb Tryz.func182 78 [] [(5,oH),(12,pJ5),(15,pJ3)]
def qL4 (y:Ot)(x:FT):Vn FT:=
 let c:=y.1
 let j:=x.1
 let a:=x.2.1
 let e:Bool:=a<len c
 let f:=(nth c a A4).1==1
 let g:=([true]:List Bool)
 let d:=cond f (j++g) j
 let h:=(nth c a A4).1==5
 let i:=len d
 let b:=i-1
 (e->A6 a (len c)/\(f->((length j+length g:Nat):Int)<=4294967296)/\A6 a (len c)/\(h->A5 (i-1)/\A6 b (len d)/\b<len d)/\A5 (a+1),e,(cond h (set d (toNat b) false) d,a+1,()))
def sN0 y x:=(qL4 y x).1
def Zs y x:=(qL4 y x).2.1
def Vh y x:=(qL4 y x).2.2
def sV9 (y:Ot)(x:FT):(List Bool):=
 x.1
def oH0:=li [(0,Aj)] [(5,Di),(6,vI)] Zs Vh sN0 (λy x=>[ex 2 none [(5,Di)] ((sV9 y x),())]) [[(5,Di)]]
def lR2 (e:List A8):Prop×((List Bool)×Int×Unit):=
 let c:=CB e
 let a:=c !=0
 let b:=(e,())
 let d:=(([]:List Bool),(0:Int),())
 (US e/\(!a->AA (Zs b) (Vh b) (sN0 b) d),(cond a [] (sV9 b (A3 (Zs b) (Vh b) d)),cond a c (0:Int),()))
def qL5 a:=(lR2 a).1
def Gt a:=(lR2 a).2
theorem mV6:SK 183 (AS Aj (.tup (.cons Dz (.cons vI .nl))) qL5 Gt):=fb Tryz.func183 40 [kb qL0] [(6,oH0)] [(9,[(4,0,12,1005)]),(19,[(4,0,27,1005)]),(25,[(1,2,0,0),(4,0,1005,0)])] false [] [12,26,27]
def lR3 (b c d:Int):Prop×Int:=
 let a:=cond (cond (b<1) true (b>4096)) (2:Int) (cond (cond (cond (cond (c<0) true (c>2)) true (d<0)) true (d>2)) (8:Int) (0:Int))
 (True,a)
def nB6 a b c:=(lR3 a b c).1
def f217 a b c:=(lR3 a b c).2
theorem mV7:SK 217 (DR vI vI vI vI nB6 f217):=fb Tryz.func217 27
def qL6 (y:CX)(x:vD):Vn vD:=
 let a:=y.1
 let c:=x.2.1
 let e:Bool:=c<y.2.1
 let d:=len a
 let b:=tmod (wrap .i64 (c+1)) d
 (e->d≠0/\A6 c (len a)/\A6 b (len a)/\A6 c (len a)/\A6 b (len a),e,(wrap .i64 (x.1+wrap .i64 (wrap .i64 ((nth a c A1).1*(nth a b A1).2.1)-(wrap .i64 ((nth a c A1).2.1*(nth a b A1).1)))),wrap .i64 (c+1),()))
def sN1 y x:=(qL6 y x).1
def Zt y x:=(qL6 y x).2.1
def Zu y x:=(qL6 y x).2.2
def sW (y:CX)(x:vD):Int:=
 x.1
def oH1:=li [(0,Bd),(7,vI)] [(3,vI),(8,vI)] Zt Zu sN1 (λy x=>[ex 2 none [(3,vI)] ((sW y x),())]) [[(3,vI)]]
def lR4 (c:List A0):Prop×Int:=
 let a:=(c,len c,())
 let b:=((0:Int),(0:Int),())
 (AA (Zt a) (Zu a) (sN1 a) b,sW a (A3 (Zt a) (Zu a) b))
def pJ7 a:=(lR4 a).1
def Gu a:=(lR4 a).2
theorem mV8:SK 278 (AS Bd vI pJ7 Gu):=fb Tryz.func278 43 [] [(3,oH1)] [] true
def lR5 :Prop×(List Int):=
 let a:=([(0:Int),(1608:Int),(3216:Int),(4821:Int),(6424:Int),(8022:Int),(9616:Int),(11204:Int),(12785:Int),(14359:Int),(15924:Int),(17479:Int),(19024:Int),(20557:Int),(22078:Int),(23586:Int),(25080:Int),(26558:Int),(28020:Int),(29466:Int),(30893:Int),(32303:Int),(33692:Int),(35062:Int),(36410:Int),(37736:Int),(39040:Int),(40320:Int),(41576:Int),(42806:Int),(44011:Int),(45190:Int),(46341:Int),(47464:Int),(48559:Int),(49624:Int),(50660:Int),(51665:Int),(52639:Int),(53581:Int),(54491:Int),(55368:Int),(56212:Int),(57022:Int),(57798:Int),(58538:Int),(59244:Int),(59914:Int),(60547:Int),(61145:Int),(61705:Int),(62228:Int),(62714:Int),(63162:Int),(63572:Int),(63944:Int),(64277:Int),(64571:Int),(64827:Int),(65043:Int),(65220:Int),(65358:Int),(65457:Int),(65516:Int),(65536:Int)]:List Int)
 (True,a)
def pJ8 :Prop:=(lR5).1
def I2 :List Int:=(lR5).2
def nB7:Am.Spec:=fnSpec [] (.val Du) [] (λx=>pJ8 ) (λx=>I2 ) (λ_=>())
theorem mV9:SK 305 (fnSpec [] (.val Du) [] (λx=>pJ8 ) (λx=>I2 ) (λ_=>())):=fb Tryz.func305 2
def lR6 (e:Int):Prop×Int:=
 let d:=e==16384
 let a:=wrap .i64 (tdiv e (256:Int))
 let b:=wrap .i64 (a+1)
 let c:=wrap .i64 (wrap .i64 (nth I2 b (0:Int)-(nth I2 a (0:Int)))*wrap .i64 (e-(wrap .i64 (256*a))))
 (pJ8/\(d->A6 (64:Int) 65)/\(!d->A6 a 65/\A6 b 65/\A6 a 65/\Eu c (256:Int)),cond d (nth I2 (64:Int) (0:Int)) (wrap .i64 (nth I2 a (0:Int)+B4 c (256:Int))))
def rN a:=(lR6 a).1
def Kw a:=(lR6 a).2
def nB8:=AS vI vI rN Kw
def nT7:=Cz [(136,nA3),(305,nB7)] [] [] 30
theorem mW:SK 300 nB8:=fq (c:=nT7) Tryz.func300 ⟨vK,mV9,trivial⟩
def lR7 (h:Int):Prop×Int:=
 let g:=wrap .i64 (tdiv h (16384:Int))
 let a:=wrap .i64 (h-(wrap .i64 (16384*g)))
 let b:=g==0
 let c:=g==1
 let e:=wrap .i64 (16384-a)
 let d:=g==2
 let f:=wrap .i64 (16384-a)
 ((b->rN a)/\(!b->(c->rN e)/\(!c->(d->rN a)/\(!d->rN f))),cond b (Kw a) (cond c (Kw e) (cond d (wrap .i64 (sub 0 (Kw a))) (wrap .i64 (sub 0 (Kw f))))))
def pJ9 a:=(lR7 a).1
def R2 a:=(lR7 a).2
theorem mW0:SK 294 (AS vI vI pJ9 R2):=fb Tryz.func294 29 [kb mW] [] [] true
def lR8 (d:Int):Prop×(Int×Int×Unit):=
 let c:=tmod d (65536:Int)
 let b:=cond (c<0) (wrap .i64 (c+65536)) c
 let a:=tmod (wrap .i64 (b+16384)) (65536:Int)
 (pJ9 b/\pJ9 a,(R2 b,R2 a,()))
def qL7 a:=(lR8 a).1
def I3 a:=(lR8 a).2
theorem mW1:SK 279 (AS vI (.tup (.cons vI (.cons vI .nl))) qL7 I3):=fb Tryz.func279 17 [kb mW0] [] [] true
abbrev tF6:Type:=(Int×A0×Unit)
def qL8 (y:tF6)(x:CX):Vn CX:=
 let h:=y.1
 let i:=y.2.1
 let j:=x.1
 let g:=x.2.1
 let a:Bool:=g<16
 let b:=wrap .i64 (4096*g)
 let c:=I3 b
 let d:=wrap .i64 (h*c.2.1)
 let e:=wrap .i64 (h*c.1)
 let f:=([(wrap .i64 (i.1+B4 d (131072:Int)),wrap .i64 (i.2.1+B4 e (131072:Int)),())]:List A0)
 (a->qL7 b/\Eu d (131072:Int)/\Eu e (131072:Int)/\((length j+length f:Nat):Int)<=4294967296,a,(j++f,wrap .i64 (g+1),()))
def sN2 y x:=(qL8 y x).1
def uM y x:=(qL8 y x).2.1
def Lv y x:=(qL8 y x).2.2
def tF7 (y:tF6)(x:CX):(List A0):=
 x.1
def oH2:=li [(1,vI),(2,Bz)] [(5,Bq),(6,vI)] uM Lv sN2 (λy x=>[ex 2 none [(5,Bq)] ((tF7 y x),())]) [[(5,Bq)]]
def mW2 (c:A0)(d:Int):Prop×(List A0):=
 let a:=(d,c,())
 let b:=(([]:List A0),(0:Int),())
 (AA (uM a) (Lv a) (sN2 a) b,tF7 a (A3 (uM a) (Lv a) b))
def Vi a b:=(mW2 a b).1
def DY a b:=(mW2 a b).2
theorem pK:SK 256 (BD Ar vI Bx Vi DY):=fb Tryz.func256 38 [kb vK,kb mW1] [(3,oH2)] [(13,[(4,0,36,1005)]),(15,[(4,0,1005,0)])] true
def mW3 (g h:Int):Prop×(Int×Int×Unit):=
 let a:=Fz .u64 g (4294967295:Int)
 let b:=EW g (32:Int) 64
 let c:=Fz .u64 h (4294967295:Int)
 let d:=EW h (32:Int) 64
 let e:=wrap .u64 (wrap .u64 (b*c)+EW (wrap .u64 (a*c)) (32:Int) 64)
 let f:=wrap .u64 (wrap .u64 (wrap .u64 (b*d)+EW e (32:Int) 64)+EW (wrap .u64 (wrap .u64 (a*d)+Fz .u64 e (4294967295:Int))) (32:Int) 64)
 (True,(f,wrap .u64 (g*h),()))
def Zv a b:=(mW3 a b).1
def C8 a b:=(mW3 a b).2
theorem mW4:SK 292 (BD Aq Aq (.tup (.cons Aq (.cons Aq .nl))) Zv C8):=fb Tryz.func292 48 [] [] [] true
def lR9 (c d:Int)(e:Bool):Prop×Int:=
 let a:=cond (c>0) true (d>9223372036854775808)
 let b:=cond ((a||(!a))&&e) (cond a (-9223372036854775808:Int) (wrap .i64 (wrap .u64 (0-d)))) (cond (cond (c>0) true (d>9223372036854775807)) (9223372036854775807:Int) (wrap .i64 d))
 (True,b)
def nB9 a b c:=(lR9 a b c).1
def R3 a b c:=(lR9 a b c).2
theorem mW5:SK 293 (DR Aq Aq vB vI nB9 R3):=fb Tryz.func293 25 [] [] [] true
def qL9 (y x:vD):Vn vD:=
 let d:=y.2.1
 let b:=x.1
 let a:=x.2.1
 let e:Bool:=a>0
 let f:=ior .u64 b a
 let g:=ior .u64 b a
 let c:=C8 f g
 (e->Zv f g,e,(cond (cond (c.1<d) true (cond (c.1==d) (decide (c.2.1<=y.1)) false)) (ior .u64 b a) b,EW a (1:Int) 64,()))
def tM5 y x:=(qL9 y x).1
def R4 y x:=(qL9 y x).2.1
def R5 y x:=(qL9 y x).2.2
def sW0 (y x:vD):Int:=
 x.1
def oH3:=li [(9,Aq),(10,Aq)] [(11,Aq),(12,Aq)] R4 R5 tM5 (λy x=>[ex 2 none [(11,Aq)] ((sW0 y x),())]) [[(11,Aq)]]
def lS (l m:Int):Prop×Int:=
 let d:=BF l
 let e:=BF l
 let b:=C8 d e
 let f:=BF m
 let g:=BF m
 let h:=C8 f g
 let i:=wrap .u64 (b.2.1+h.2.1)
 let j:=wrap .u64 (b.1+h.1)
 let c:=(i,cond (i<b.2.1) (wrap .u64 (j+1)) j,())
 let k:=((0:Int),(9223372036854775808:Int),())
 let a:=sW0 c (A3 (R4 c) (R5 c) k)
 (Rt l/\Rt l/\Zv d e/\Rt m/\Rt m/\Zv f g/\AA (R4 c) (R5 c) (tM5 c) k/\nB9 (0:Int) a false,R3 (0:Int) a false)
def Zw a b:=(lS a b).1
def EY a b:=(lS a b).2
theorem pK0:SK 277 (BD vI vI vI Zw EY):=fb Tryz.func277 74 [kb nA2,kb mW4,kb mW5] [(9,oH3)] [] true
def lS0 (f g:A0)(h:Int):Prop×A0:=
 let b:=wrap .i64 (16*wrap .i64 (g.1-f.1))
 let c:=wrap .i64 (16*wrap .i64 (g.2.1-f.2.1))
 let a:=EY b c
 let d:=wrap .i64 (wrap .i64 ((-8)*h)*wrap .i64 (g.2.1-f.2.1))
 let e:=wrap .i64 (wrap .i64 (8*h)*wrap .i64 (g.1-f.1))
 (Zw b c/\Eu d a/\Eu e a,(B4 d a,B4 e a,()))
def R7 a b c:=(lS0 a b c).1
def B5 a b c:=(lS0 a b c).2
theorem nC:SK 252 (DR Ar Ar vI Ar R7 B5):=fb Tryz.func252 42 [kb vK,kb pK0] [] [] true
def lS1 (a b:A0)(c:Int):Prop×A0:=
 (True,(wrap .i64 (a.1+wrap .i64 (c*b.1)),wrap .i64 (a.2.1+wrap .i64 (c*b.2.1)),()))
def ET a b c:=(lS1 a b c).1
def AZ a b c:=(lS1 a b c).2
theorem nC0:SK 254 (DR Ar Ar vI Ar ET AZ):=fb Tryz.func254 22 [] [] [] true
def lS2 (f g:A0)(h:Int):Prop×A0:=
 let b:=wrap .i64 (16*wrap .i64 (g.1-f.1))
 let c:=wrap .i64 (16*wrap .i64 (g.2.1-f.2.1))
 let a:=EY b c
 let d:=wrap .i64 (wrap .i64 (8*h)*wrap .i64 (g.1-f.1))
 let e:=wrap .i64 (wrap .i64 (8*h)*wrap .i64 (g.2.1-f.2.1))
 (Zw b c/\Eu d a/\Eu e a,(B4 d a,B4 e a,()))
def qM a b c:=(lS2 a b c).1
def FF a b c:=(lS2 a b c).2
theorem mW6:SK 257 (DR Ar Ar vI Ar qM FF):=fb Tryz.func257 42 [kb vK,kb pK0] [] [] true
def qM0 (y:vA)(x:CX):Vn CX:=
 let i:=y.1
 let b:=x.1
 let c:=x.2.1
 let d:Bool:=c<y.2.2.1
 let a:=len b==0
 let e:=len b
 let f:=e-1
 let g:=cond a true (!(Ty.eqb AQ (nth b f A1) (nth i c A1)))
 let h:=([nth i c A1]:List A0)
 (d->(!a->A5 (e-1))/\(!a->A6 f (len b))/\(!a->A6 c (len i))/\(g->A6 c (len i)/\((length b+length h:Nat):Int)<=4294967296)/\A5 (c+1),d,(cond g (b++h) b,c+1,()))
def sN4 y x:=(qM0 y x).1
def tG y x:=(qM0 y x).2.1
def Zx y x:=(qM0 y x).2.2
def sW1 (y:vA)(x:CX):(List A0):=
 x.1
def qB2:List (Nat×Sh):=[(1,vB),(5,Bq)]
def oH4:=li [(0,Bd),(1,vB),(8,vI)] [(5,Bq),(9,vI)] tG Zx sN4 (λy x=>[ex 2 none qB2 (y.2.1,(sW1 y x),())]) [qB2]
def qM1 (y:uN)(x:NQ):Vn NQ:=
 let a:=x.1
 let b:=cond (!y.1) (decide (len a>1)) false
 let d:=len a
 let e:=d-1
 let f:=cond b (Ty.eqb AQ (nth a e A1) (nth a (0:Int) A1)) false
 let g:=len a
 let c:=g-1
 ((b->A5 (d-1))/\(b->A6 e (len a))/\(b->A6 (0:Int) (len a))/\(f->A5 (g-1)/\0<=c/\c<=len a),f,(take (toNat c) a,()))
def qB3 y x:=(qM1 y x).1
def sE0 y x:=(qM1 y x).2.1
def uH8 y x:=(qM1 y x).2.2
def sW2 (y:uN)(x:NQ):(List A0):=
 x.1
def oH5:=li [(1,vB)] [(5,Bd)] sE0 uH8 qB3 (λy x=>[ex 4 none [(5,Bd)] ((sW2 y x),())]) [[(5,Bd)]]
def lS3 (e:List A0)(f:Bool):Prop×(List A0):=
 let a:=(e,f,len e,())
 let c:=(([]:List A0),(0:Int),())
 let b:=(f,())
 let d:=(sW1 a (A3 (tG a) (Zx a) c),())
 (AA (tG a) (Zx a) (sN4 a) c/\AA (sE0 b) (uH8 b) (qB3 b) d,sW2 b (A3 (sE0 b) (uH8 b) d))
def qM2 a b:=(lS3 a b).1
def f219 a b:=(lS3 a b).2
theorem mW7:SK 219 (BD Bd vB Bd qM2 f219):=fb Tryz.func219 61 [] [(3,oH4),(8,oH5)] [(13,[(4,0,34,1005)])]
def qM3 (y:CH)(x:vD):Vn vD:=
 let b:=y.1
 let a:=x.2.1
 let c:Bool:=a<y.2.1
 (c->A6 a (len b),c,(wrap .i64 (x.1+len (nth b a ([]:List A0))),wrap .i64 (a+1),()))
def sN5 y x:=(qM3 y x).1
def Vj y x:=(qM3 y x).2.1
def Vk y x:=(qM3 y x).2.2
def sW3 (y:CH)(x:vD):Int:=
 x.1
def oH6:=li [(0,Ak),(6,vI)] [(3,vI),(7,vI)] Vj Vk sN5 (λy x=>[ex 2 none [(3,vI)] ((sW3 y x),())]) [[(3,vI)]]
def lS4 (c:(List (List A0))):Prop×Int:=
 let a:=(c,len c,())
 let b:=((0:Int),(0:Int),())
 (AA (Vj a) (Vk a) (sN5 a) b,sW3 a (A3 (Vj a) (Vk a) b))
def qM4 a:=(lS4 a).1
def Ht a:=(lS4 a).2
theorem mW8:SK 220 (AS Ak vI qM4 Ht):=fb Tryz.func220 19 [] [(3,oH6)] [] true
abbrev vP7:Type:=((List (List A0))×(List A0)×Unit)
def tU3 (y:vP7)(x:CX):Vn CX:=
 let d:=y.2.1
 let e:=x.1
 let a:=x.2.1
 let b:Bool:=a≥0
 let c:=([nth d a A1]:List A0)
 (b->A6 a (len d)/\((length e+length c:Nat):Int)<=4294967296/\A5 (a-1),b,(e++c,a-1,()))
def vT0 y x:=(tU3 y x).1
def M7 y x:=(tU3 y x).2.1
def M8 y x:=(tU3 y x).2.2
def tG2 (y:vP7)(x:CX):(List A0):=
 x.1
def sE1:List (Nat×Sh):=[(0,Bg),(6,Cb)]
def qM5:=li [(0,Bg),(1,Bd)] [(6,Cb),(7,vI)] M7 M8 vT0 (λy x=>[ex 2 none sE1 (y.1,(tG2 y x),())]) [sE1]
def pR5 (i:(List (List A0)))(j:List A0):Prop×(List (List A0)):=
 let g:=Gu j
 let c:=g==0
 let a:Bool:=g<0
 let d:=len j
 let b:=(i,j,())
 let h:=(([]:List A0),d-1,())
 let f:=cond a i i
 let e:=([cond a (tG2 b (A3 (M7 b) (M8 b) h)) j]:List (List A0))
 (pJ7 j/\(!c->(a->A5 (d-1)/\AA (M7 b) (M8 b) (vT0 b) h)/\((length f+length e:Nat):Int)<=4294967296),cond c i (f++e))
def I4 a b:=(pR5 a b).1
def CU a b:=(pR5 a b).2
theorem sN6:SK 253 (BD Bg Bd Av I4 CU):=fb Tryz.func253 34 [kb mV8] [(7,qM5)] [(7,[(4,0,400000,0)]),(19,[(4,0,28,1006)]),(21,[(4,0,1006,400100)]),(23,[(4,0,33,0)])]
def pR6 (f:(List (List A0)))(g:A0)(h i:Int):Prop×(List (List A0)):=
 let b:=i==1
 let c:=DY g h
 let d:=i==2
 let a:=B4 h (2:Int)
 let e:=([(wrap .i64 (g.1-a),wrap .i64 (g.2.1-a),()),(wrap .i64 (g.1+a),wrap .i64 (g.2.1-a),()),(wrap .i64 (g.1+a),wrap .i64 (g.2.1+a),()),(wrap .i64 (g.1-a),wrap .i64 (g.2.1+a),())]:List A0)
 ((b->Vi g h/\I4 f c)/\(!b->d->Eu h (2:Int)/\I4 f e),cond b (CU f c) (cond d (CU f e) f))
def sN7 a b c d:=(pR6 a b c d).1
def M9 a b c d:=(pR6 a b c d).2
theorem oH7:SK 251 (Gi Bg Ar vI vI Av sN7 M9):=fx (λc=>{ c with wants:=[(253,[0])] }) Tryz.func251 61 [kb vK,kb sN6,kb pK] [] [(5,[(4,0,16,0)]),(11,[(4,0,59,0)]),(13,[(4,0,400000,0)])] true
def pR7 (p:(List (List A0)))(u v w:A0)(z A:Int):Prop×(List (List A0)):=
 let m:=A==1
 let n:=DY v z
 let a:=B5 u v z
 let b:=B5 v w z
 let o:=([v,AZ v a (1:Int),AZ v b (1:Int)]:List A0)
 let q:=CU p o
 let r:=([v,AZ v a (-1:Int),AZ v b (-1:Int)]:List A0)
 let g:=CU q r
 let t:=wrap .i64 (wrap .i64 (wrap .i64 (v.1-u.1)*wrap .i64 (w.2.1-v.2.1))-(wrap .i64 (wrap .i64 (v.2.1-u.2.1)*wrap .i64 (w.1-v.1))))
 let f:=wrap .i64 (wrap .i64 (z*z)+wrap .i64 (4*wrap .i64 (wrap .i64 (a.1*b.1)+wrap .i64 (a.2.1*b.2.1))))
 let h:=cond (cond (A !=0) true (t==0)) true (f<=0)
 let i:=wrap .i64 (wrap .i64 (z*z)*wrap .i64 (a.1+b.1))
 let d:=B4 i f
 let j:=wrap .i64 (wrap .i64 (z*z)*wrap .i64 (a.2.1+b.2.1))
 let e:=B4 j f
 let s:=(d,e,())
 let k:Bool:=EY d e>wrap .i64 (4*z)
 let c:=cond (t>0) (-1:Int) (1:Int)
 let l:=([v,AZ v a c,AZ v s c,AZ v b c]:List A0)
 ((m->Vi v z/\I4 p n)/\(!m->R7 u v z/\R7 v w z/\ET v a (1:Int)/\ET v b (1:Int)/\I4 p o/\ET v a (-1:Int)/\ET v b (-1:Int)/\I4 q r/\(!h->Eu i f/\Eu j f/\Zw d e/\(!k->ET v a c/\ET v s c/\ET v b c/\I4 g l))),cond m (CU p n) (cond h g (cond k g (CU g l))))
def sN8 a b c d e f:=(pR7 a b c d e f).1
def Vl a b c d e f:=(pR7 a b c d e f).2
theorem oH8:SK 255 (sp6 Bg Ar Ar Ar vI vI Av sN8 Vl):=fx (λc=>{ c with wants:=[(253,[0])] }) Tryz.func255 154 [kb vK,kb nC,kb sN6,kb nC0,kb pK,kb pK0] [] [(5,[(4,0,25,0)]),(9,[(4,0,43,400000)]),(11,[(4,0,53,400000)]),(19,[(4,0,400000,0)]),(25,[(4,0,400000,0)]),(33,[(4,0,153,0)])] true
abbrev vG2:Type:=((List A0)×Bool×Int×Int×Int×Int×Int×Unit)
def tG3 (y:vG2)(x:CH):Vn CH:=
 let i:=y.1
 let k:=y.2.2.1
 let e:=(Q1 y).1
 let j:=x.1
 let b:=x.2.1
 let f:Bool:=b<(Q3 y).1
 let c:=nth i b A1
 let g:=tmod (b+1) e
 let d:=nth i g A1
 let a:=B5 c d k
 let h:=([AZ c a (1:Int),AZ d a (1:Int),AZ d a (-1:Int),AZ c a (-1:Int)]:List A0)
 (f->A6 b (len i)/\A5 (b+1)/\e≠0/\A6 g (len i)/\R7 c d k/\ET c a (1:Int)/\ET d a (1:Int)/\ET d a (-1:Int)/\ET c a (-1:Int)/\I4 j h/\A5 (b+1),f,(CU j h,b+1,()))
def vM8 y x:=(tG3 y x).1
def Jt y x:=(tG3 y x).2.1
def Ju y x:=(tG3 y x).2.2
def Zy (y:vG2)(x:CH):(List (List A0)):=
 x.1
def tQ5:List (Nat×Sh):=[(0,Bg),(1,Bd),(2,vB),(3,vI),(4,vI),(5,vI),(13,vI)]
def rU:=li [(1,Bd),(2,vB),(3,vI),(4,vI),(5,vI),(13,vI),(14,vI)] [(0,Bg),(15,vI)] Jt Ju vM8 (λy x=>[ex 2 none tQ5 ((Zy y x),y.1,y.2.1,y.2.2.1,y.2.2.2.1,y.2.2.2.2.1,(Q1 y).1,())]) [tQ5]
abbrev vG3:Type:=((List A0)×Bool×Int×Int×Int×Int×Unit)
def tG4 (y:vG3)(x:CH):Vn CH:=
 let h:=y.1
 let o:=y.2.2.1
 let q:=y.2.2.2.1
 let b:=(Q1 y).1
 let n:=x.1
 let a:=x.2.1
 let i:Bool:=a<b
 let j:=!y.2.1
 let k:Bool:=a>0
 let l:=cond j true (cond k (decide (a<(b-1))) false)
 let m:=a+b
 let c:=tmod (m-1) b
 let d:=nth h c A1
 let e:=nth h a A1
 let f:=tmod (a+1) b
 let g:=nth h f A1
 (i->(((!j)&&k)->A5 (b-1))/\(l->A5 (a+b)/\A5 (m-1)/\b≠0/\A6 c (len h)/\A6 a (len h)/\A5 (a+1)/\b≠0/\A6 f (len h)/\sN8 n d e g o q)/\A5 (a+1),i,(cond l (Vl n d e g o q) n,a+1,()))
def wY y x:=(tG4 y x).1
def Kx y x:=(tG4 y x).2.1
def Ky y x:=(tG4 y x).2.2
def wY7 (y:vG3)(x:CH):(List (List A0)):=
 x.1
def tQ6:List (Nat×Sh):=[(0,Bg),(1,Bd),(2,vB),(3,vI),(5,vI),(13,vI)]
def rU0:=li [(1,Bd),(2,vB),(3,vI),(4,vI),(5,vI),(13,vI)] [(0,Bg),(19,vI)] Kx Ky wY (λy x=>[ex 4 none tQ6 ((wY7 y x),y.1,y.2.1,y.2.2.1,y.2.2.2.2.1,(Q1 y).1,())]) [tQ6]
def pR8 (p:(List (List A0)))(D:List A0)(G:Bool)(I S T:Int):Prop×(List (List A0)):=
 let d:=len D
 let N:=d==0
 let M:=d==1
 let O:=nth D (0:Int) A1
 let i:=(D,G,I,S,T,d,cond G (d-1) d,())
 let Q:=(p,(0:Int),())
 let j:=(D,G,I,S,T,d,())
 let R:=(Zy i (A3 (Jt i) (Ju i) Q),(0:Int),())
 let c:=wY7 j (A3 (Kx j) (Ky j) R)
 let l:=cond (!G) true (T==0)
 let k:=T==1
 let m:=nth D (0:Int) A1
 let n:=DY m I
 let o:=CU c n
 let q:=d-1
 let r:=nth D q A1
 let s:=DY r I
 let a:=nth D (0:Int) A1
 let t:=d-1
 let b:=nth D t A1
 let u:=nth D (1:Int) A1
 let e:=B5 a u I
 let v:=nth D (1:Int) A1
 let g:=FF a v I
 let w:=AZ a g (-1:Int)
 let z:=AZ a g (-1:Int)
 let A:=([AZ w e (1:Int),AZ a e (1:Int),AZ a e (-1:Int),AZ z e (-1:Int)]:List A0)
 let B:=CU c A
 let C:=d-2
 let E:=nth D C A1
 let f:=B5 E b I
 let F:=d-2
 let H:=nth D F A1
 let h:=FF H b I
 let J:=AZ b h (1:Int)
 let K:=AZ b h (1:Int)
 let L:=([AZ b f (1:Int),AZ J f (1:Int),AZ K f (-1:Int),AZ b f (-1:Int)]:List A0)
 ((!N)->(M->A6 (0:Int) (len D)/\sN7 p O I T)/\((!M)->(G->A5 (d-1))/\AA (Jt i) (Ju i) (vM8 i) Q/\AA (Kx j) (Ky j) (wY j) R/\(!l->(k->A6 (0:Int) (len D)/\Vi m I/\I4 c n/\A5 (d-1)/\A6 q (len D)/\Vi r I/\I4 o s)/\(!k->A6 (0:Int) (len D)/\A5 (d-1)/\A6 t (len D)/\A6 (1:Int) (len D)/\R7 a u I/\A6 (1:Int) (len D)/\qM a v I/\ET a g (-1:Int)/\ET w e (1:Int)/\ET a e (1:Int)/\ET a e (-1:Int)/\ET a g (-1:Int)/\ET z e (-1:Int)/\I4 c A/\A5 (d-2)/\A6 C (len D)/\R7 E b I/\A5 (d-2)/\A6 F (len D)/\qM H b I/\ET b f (1:Int)/\ET b h (1:Int)/\ET J f (1:Int)/\ET b h (1:Int)/\ET K f (-1:Int)/\ET b f (-1:Int)/\I4 B L))),cond N p (cond M (M9 p O I T) (cond l c (cond k (CU o s) (CU B L)))))
def tM6 a b c d e f:=(pR8 a b c d e f).1
def uD a b c d e f:=(pR8 a b c d e f).2
theorem oH9:SK 218 (sp6 Bg Bd vB vI vI vI Av tM6 uD):=fx (λc=>{ c with wants:=[(251,[0]),(253,[0]),(255,[0])] }) Tryz.func218 216 [kb oH7,kb nC,kb sN6,kb nC0,kb oH8,kb pK,kb mW6] [(10,rU),(16,rU0)] [(7,[(4,0,400000,0)]),(11,[(4,0,37,0)]),(29,[(4,0,76,400000)]),(39,[(4,0,117,400000)]),(43,[(4,0,400000,0)]),(47,[(4,0,141,0)]),(53,[(4,0,180,400000)]),(57,[(4,0,215,0)])]
abbrev wW1:Type:=((List (List A0))×(List Bool)×Int×Int×Int×Int×Unit)
def R8 (y:wW1)(x:CH):Vm CH:=
 let k:=y.1
 let j:=y.2.1
 let l:=y.2.2.1
 let m:=y.2.2.2.1
 let n:=y.2.2.2.2.1
 let e:=x.1
 let a:=x.2.1
 let b:Bool:=a<(Q1 y).1
 let f:=nth k a ([]:List A0)
 let g:=nth j a false
 let h:=f219 f g
 let i:=nth j a false
 let c:=uD e h i l m n
 let d:Bool:=Ht c>4096
 (b->A6 a (len k)/\A6 a (len j)/\qM2 f g/\A6 a (len j)/\tM6 e h i l m n/\qM4 c/\(!d->A5 (a+1)),b&&(!d),(c,a+1,()),b&&d,!b)
def tU4 y x:=(R8 y x).1
def Oy y x:=(R8 y x).2.1
def Lw y x:=(R8 y x).2.2.1
def R9 y x:=(R8 y x).2.2.2.1
def pK1 y x:=(R8 y x).2.2.2.2
def sE2 (y:wW1)(x:CH):(List (List A0)):=
 ([]:List (List A0))
def sE3 (y:wW1)(x:CH):Int:=
 (3:Int)
def rN2:List (Nat×Sh):=[(10,Av),(11,vI)]
def sE4 (y:wW1)(x:CH):(List (List A0)):=
 x.1
def rN3:List (Nat×Sh):=[(13,(.own Ad 1013 false))]
def pK2:=li [(0,Ak),(1,Dz),(2,vI),(3,vI),(4,vI),(33,vI)] [(13,(.own Ad 1013 false)),(34,vI)] Oy Lw tU4 (λy x=>[ex 1 (some (R9 y x)) rN2 ((sE2 y x),(sE3 y x),()),ex 2 (some (pK1 y x)) rN3 ((sE4 y x),())]) [rN2,rN3]
def lS5 (j:(List (List A0)))(k:List Bool)(l m n:Int):Prop×((List (List A0))×Int×Unit):=
 let g:=f217 l m n
 let d:=g !=0
 let h:=El j (0:Int)
 let e:=h !=0
 let f:=len k !=len j
 let a:=(j,k,l,m,n,len j,())
 let i:=(([]:List (List A0)),(0:Int),())
 let c:=A3 (Oy a) (Lw a) i
 let b:=R9 a c
 (nB6 l m n/\(!d->Ox j (0:Int)/\(!e->!f->AA (Oy a) (Lw a) (tU4 a) i)),(cond d [] (cond e [] (cond f [] (cond b (sE2 a c) (sE4 a c)))),cond d g (cond e h (cond f (15:Int) (cond b (sE3 a c) (0:Int)))),()))
def qM6 a b c d e:=(lS5 a b c d e).1
def Hu a b c d e:=(lS5 a b c d e).2
theorem mW9:SK 184 (sp5 Ak Dz vI vI vI (.tup (.cons Av (.cons vI .nl))) qM6 Hu):=fx (λc=>{ c with wants:=[(218,[0])] }) Tryz.func184 60 [kb pJ6,kb mV7,kb oH9,kb mW7,kb mW8] [(11,pK2)] [(27,[(4,0,54,1013)]),(35,[(4,0,1013,0)])]
def lS6 (o:AK):Prop×Int:=
 let a:=CZ (Q8 o).1 (Q2 o).1
 let h:=a.2.1 !=0
 let i:=cond ((Qi o).1 !=0) ((Qi o).1 !=1) false
 let b:=CP a.1
 let f:=(Qb o).1==0
 let c:=cond ((Qf o).1 !=0) true ((Qg o).1 !=0)
 let j:=El b.1 (Qi o).1
 let d:=j !=0
 let k:=Gt a.1
 let e:=Hu b.1 k.1 (Qb o).1 (Qf o).1 (Qg o).1
 let l:=e.2.1 !=0
 let m:=El e.1 (0:Int)
 let n:=m !=0
 let g:=cond ((c||((!c)&&(d||(!d))))&&f) (cond c (1:Int) (cond d j (f138 (Q9 o).1))) (cond l e.2.1 (cond n m (f138 (Q9 o).1)))
 (qL1 (Q8 o).1 (Q2 o).1/\(!h->!i->Zp a.1/\(f->!c->Ox b.1 (Qi o).1/\(!d->Oq (Q9 o).1))/\(!f->qL5 a.1/\qM6 b.1 k.1 (Qb o).1 (Qf o).1 (Qg o).1/\(!l->Ox e.1 (0:Int)/\(!n->Oq (Q9 o).1)))),cond h a.2.1 (cond i (8:Int) g))
def pK3 a:=(lS6 a).1
def Kz a:=(lS6 a).2
theorem mX:SK 140 (AS Bc vI pK3 Kz):=fb Tryz.func140 85 [kb pI7,kb mV2,kb nB4,kb pJ6,kb mV6,kb mW9] [] [(3,[(4,0,17,1003)]),(31,[(4,0,71,1010)])]
def Vo (y:Ei)(x:AF):Vm AF:=
 let f:=y.1
 let g:=y.2.1
 let d:=x.1
 let e:=nth f g A4
 let b:Bool:=d<B9 e.1
 let a:=nth (nth f g A4).2.1 d A1
 let c:Bool:=G8 (G8 (G8 a.1 (sub 0 a.1)) a.2.1) (sub 0 a.2.1)>65536
 (A6 g (len f)/\Ry e.1/\(b->A6 g (len f)/\A6 d 3/\A5 (sub 0 a.1)/\A5 (sub 0 a.2.1)/\(!c->A5 (d+1))),b&&(!c),(d+1,()),b&&c,!b)
def qB4 y x:=(Vo y x).1
def RA y x:=(Vo y x).2.1
def vC y x:=(Vo y x).2.2.1
def sO y x:=(Vo y x).2.2.2.1
def sO0 y x:=(Vo y x).2.2.2.2
def sW4 (y:Ei)(x:AF):Bool:=
 false
def qB5:List (Nat×Sh):=[(0,Aj),(3,vI)]
def oI:=li [(0,Aj),(3,vI)] [(4,vI)] RA vC qB4 (λy x=>[ex 1 (some (sO y x)) [(2,vB)] ((sW4 y x),()),ex 4 (some (sO0 y x)) qB5 (y.1,y.2.1,())]) [[(2,vB)],qB5]
def Oz (y:Ot)(x:AF):Vm AF:=
 let e:=y.1
 let c:=x.1
 let d:Bool:=c<len e
 let b:=(e,c,())
 let g:=((0:Int),())
 let f:=A3 (RA b) (vC b) g
 let a:=sO0 b f
 (d->AA (RA b) (vC b) (qB4 b) g/\(a->A5 (c+1)),d&&a,(c+1,()),d&&sO b f,!d)
def qB6 y x:=(Oz y x).1
def I5 y x:=(Oz y x).2.1
def K0 y x:=(Oz y x).2.2.1
def Zz y x:=(Oz y x).2.2.2.1
def oI0 y x:=(Oz y x).2.2.2.2
def uI (y:Ot)(x:AF):Bool:=
 let a:=(y.1,x.1,())
 (sW4 a (A3 (RA a) (vC a) ((0:Int),())))
def oI1:=li [(0,Aj)] [(3,vI)] I5 K0 qB6 (λy x=>[ex 1 (some (Zz y x)) [(2,vB)] ((uI y x),()),ex 2 (some (oI0 y x)) [] ()]) [[(2,vB)],[]]
def lS7 (d:List A8):Prop×Bool:=
 let a:=(d,())
 let c:=((0:Int),())
 let b:=A3 (I5 a) (K0 a) c
 (AA (I5 a) (K0 a) (qB6 a) c,cond (Zz a b) (uI a b) true)
def pK4 a:=(lS7 a).1
def K1 a:=(lS7 a).2
theorem mX0:SK 280 (AS Aj vB pK4 K1):=fb Tryz.func280 41 [kb Zc] [(2,oI1),(5,oI)]
abbrev uD4:Type:=(A7×Unit)
def O0 (y:uD4)(x:AF):Vm AF:=
 let h:=y.1
 let f:=x.1
 let b:Bool:=f<len h.2.2.2.1
 let a:=nth h.2.2.2.1 f BG
 let g:Bool:=f>0
 let j:=f-1
 let c:=cond g (decide (a.1<=(nth h.2.2.2.1 j BG).1)) false
 let d:=cond (a.2.1<0) true (a.2.1>65536)
 let e:=CB a.2.2.1!=0
 let k:=!(K1 a.2.2.1)
 let i:=(!c)&&((!d)&&((!e)&&(!k)))
 (b->A6 f (len h.2.2.2.1)/\(g->A5 (f-1))/\(g->A6 j (len h.2.2.2.1))/\(!c->!d->US a.2.2.1/\(!e->pK4 a.2.2.1))/\(i->A5 (f+1)),b&&i,(f+1,()),b&&(c||((!c)&&(d||((!d)&&(e||((!e)&&k)))))),!b)
def qB7 y x:=(O0 y x).1
def Vp y x:=(O0 y x).2.1
def uI1 y x:=(O0 y x).2.2.1
def tM8 y x:=(O0 y x).2.2.2.1
def qB8 y x:=(O0 y x).2.2.2.2
def uI2 (y:uD4)(x:AF):Int:=
 let e:=y.1
 let d:=x.1
 let a:=nth e.2.2.2.1 d BG
 let c:=CB a.2.2.1
 let b:=cond (cond (d>0) (decide (a.1<=(nth e.2.2.2.1 (d-1) BG).1)) false) (24:Int) (cond (cond (a.2.1<0) true (a.2.1>65536)) (2:Int) (cond (c !=0) c (2:Int)))
 b
def oI2:=li [(1,Ai)] [(3,vI)] Vp uI1 qB7 (λy x=>[ex 1 (some (tM8 y x)) [(2,vI)] ((uI2 y x),()),ex 2 (some (qB8 y x)) [(1,Ai)] (y.1,())]) [[(2,vI)],[(1,Ai)]]
def O1 (y:uD4)(x:AF):Vm AF:=
 let i:=y.1
 let e:=x.1
 let d:Bool:=e<len i.2.2.2.2.1
 let a:=nth i.2.2.2.2.1 e BV
 let b:Bool:=e>0
 let f:=e-1
 let c:=nth i.2.2.2.2.1 f BV
 let g:=cond (a.1<c.1) true (cond (a.1==c.1) (decide (a.2.1<=c.2.1)) false)
 let j:=cond b (!g) true
 let h:=cond (a.2.2.1<(-65536)) true (a.2.2.1>65536)
 let k:=j&&(!h)
 (d->A6 e (len i.2.2.2.2.1)/\(b->A5 (e-1)/\A6 f (len i.2.2.2.2.1))/\(k->A5 (e+1)),d&&k,(e+1,()),d&&((g&&b)||(j&&h)),!d)
def rN4 y x:=(O1 y x).1
def Vq y x:=(O1 y x).2.1
def vT1 y x:=(O1 y x).2.2.1
def uS6 y x:=(O1 y x).2.2.2.1
def pK5 y x:=(O1 y x).2.2.2.2
def vT2 (y:uD4)(x:AF):Int:=
 let d:=y.1
 let c:=x.1
 let a:=nth d.2.2.2.2.1 c BV
 let b:=nth d.2.2.2.2.1 (c-1) BV
 (cond ((cond (a.1<b.1) true (cond (a.1==b.1) (decide (a.2.1<=b.2.1)) false))&&(c>0)) (24:Int) (2:Int))
def pK6:=li [(1,Ai)] [(6,vI)] Vq vT1 rN4 (λy x=>[ex 1 (some (uS6 y x)) [(2,vI)] ((vT2 y x),()),ex 4 (some (pK5 y x)) [] ()]) [[(2,vI)],[]]
def lS8 (i:A7):Prop×Int:=
 let d:=cond (cond (cond (cond (cond (i.1<1) true (i.1>65536)) true (i.2.1<0)) true (i.2.1>65536)) true (i.2.2.1<0)) true (i.2.2.1>65536)
 let e:=cond (len i.2.2.2.1>256) true (len i.2.2.2.2.1>256)
 let b:=(i,())
 let h:=((0:Int),())
 let g:=A3 (Vp b) (uI1 b) h
 let a:=(i,())
 let f:=((0:Int),())
 let c:=A3 (Vq a) (vT1 a) f
 (!d->!e->AA (Vp b) (uI1 b) (qB7 b) h/\(qB8 b g->AA (Vq a) (vT1 a) (rN4 a) f),cond d (2:Int) (cond e (3:Int) (cond (tM8 b g) (uI2 b g) (cond (uS6 a c) (vT2 a c) (0:Int)))))
def qM7 a:=(lS8 a).1
def E4 a:=(lS8 a).2
theorem nC1:SK 258 (AS Bm vI qM7 E4):=fb Tryz.func258 138 [kb qL0,kb mX0] [(6,oI2),(19,pK6)]
abbrev uD5:Type:=((List (List UInt8))×Int×Int×Unit)
def rB (y:N9)(x:uD5):Vn uD5:=
 let c:=y.1
 let h:=x.1
 let g:=x.2.1
 let a:=x.2.2.1
 let d:Bool:=a<=len c
 let e:=a==len c
 let b:=cond e true (BP c a==y.2.1)
 let f:=([List.drop (toNat g) (take (toNat a) c)]:List (List UInt8))
 (d->(!e->A6 a (len c))/\(b->(0<=g/\g<=a/\a<=len c)/\((length h+length f:Nat):Int)<=4294967296/\A5 (a+1))/\A5 (a+1),d,(cond b (h++f) h,cond b (a+1) g,a+1,()))
def qB9 y x:=(rB y x).1
def O2 y x:=(rB y x).2.1
def MA y x:=(rB y x).2.2
def sW5 (y:N9)(x:uD5):(List (List UInt8)):=
 x.1
def oI3:=li [(0,vS),(1,Bb)] [(5,Dj),(6,vI),(7,vI)] O2 MA qB9 (λy x=>[ex 2 none [(5,Dj)] ((sW5 y x),())]) [[(5,Dj)]]
def lS9 (c:List UInt8)(d:Int):Prop×(List (List UInt8)):=
 let a:=(c,d,())
 let b:=(([]:List (List UInt8)),(0:Int),(0:Int),())
 (AA (O2 a) (MA a) (qB9 a) b,sW5 a (A3 (O2 a) (MA a) b))
def ZA a b:=(lS9 a b).1
def Gv a b:=(lS9 a b).2
theorem mX1:SK 259 (BD vS Bb Dp ZA Gv):=fb Tryz.func259 36 [] [(4,oI3)] [(3,[(4,0,8,1005)]),(15,[(4,0,32,1005)]),(19,[(4,0,1005,0)])]
abbrev vQ:Type:=(Int×A7×Unit)
def RB (y:vQ)(x:vD):Vm vD:=
 let d:=y.2.1
 let c:=x.2.1
 let a:Bool:=c<len d.2.2.2.1
 let b:=(nth d.2.2.2.1 c BG).1==y.1
 (a->A6 c (len d.2.2.2.1)/\(!b->A6 c (len d.2.2.2.1))/\(!b->A5 (c+1)),a&&(!b),(cond ((nth d.2.2.2.1 c BG).1==63) c x.1,c+1,()),a&&b,!a)
def qC y x:=(RB y x).1
def Lx y x:=(RB y x).2.1
def wQ y x:=(RB y x).2.2.1
def ZB y x:=(RB y x).2.2.2.1
def oI4 y x:=(RB y x).2.2.2.2
def sW6 (y:vQ)(x:vD):Int:=
 x.2.1
def sW7 (y:vQ)(x:vD):Int:=
 x.1
def oI5:=li [(1,Bb),(2,Ai)] [(5,vI),(6,vI)] Lx wQ qC (λy x=>[ex 1 (some (ZB y x)) [(4,vI)] ((sW6 y x),()),ex 2 (some (oI4 y x)) [(5,vI)] ((sW7 y x),())]) [[(4,vI)],[(5,vI)]]
def lT (d:A7)(e:Int):Prop×Int:=
 let a:=(e,d,())
 let c:=((-1:Int),(0:Int),())
 let b:=A3 (Lx a) (wQ a) c
 (AA (Lx a) (wQ a) (qC a) c,cond (ZB a b) (sW6 a b) (sW7 a b))
def pK7 a b:=(lT a b).1
def f261 a b:=(lT a b).2
theorem mX2:SK 261 (BD Bm Bb vI pK7 f261):=fb Tryz.func261 32 [] [(3,oI5)]
abbrev tG6:Type:=((List UInt8)×A7×Unit)
def qM8 (y:tG6)(x:Ed):Vn Ed:=
 let g:=y.1
 let i:=y.2.1
 let h:=x.1
 let a:=x.2.1
 let b:=cond (a<len g) (decide (a<128)) false
 let c:=BP g a
 let d:=f261 i c
 let e:Bool:=d≥0
 let f:=([d]:List Int)
 (b->A6 a (len g)/\pK7 i c/\(e->((length h+length f:Nat):Int)<=4294967296)/\A5 (a+1),b,(cond e (h++f) h,a+1,()))
def qC0 y x:=(qM8 y x).1
def RC y x:=(qM8 y x).2.1
def ZC y x:=(qM8 y x).2.2
def tG7 (y:tG6)(x:Ed):(List Int):=
 x.1
def qC1:List (Nat×Sh):=[(5,Ao)]
def oI6:=li [(1,vS),(2,Ai)] [(5,Ao),(6,vI)] RC ZC qC0 (λy x=>[ex 2 none qC1 ((tG7 y x),())]) [qC1]
def lT0 (c:A7)(d:List UInt8):Prop×(List Int):=
 let a:=(d,c,())
 let b:=(([]:List Int),(0:Int),())
 (AA (RC a) (ZC a) (qC0 a) b,tG7 a (A3 (RC a) (ZC a) b))
def qM9 a b:=(lT0 a b).1
def AR a b:=(lT0 a b).2
theorem nC2:SK 222 (BD Bm vS Bh qM9 AR):=fb Tryz.func222 31 [kb mX2] [(3,oI6)] [(3,[(4,0,8,1005)]),(15,[(4,0,29,1005)]),(17,[(4,0,1005,0)])]
abbrev uD8:Type:=(Int×Int×A7×Unit)
def Vr (y:uD8)(x:AF):Vm AF:=
 let d:=y.2.2.1
 let c:=x.1
 let a:Bool:=c<len d.2.2.2.2.1
 let e:=(nth d.2.2.2.2.1 c BV).1==y.1
 let b:=cond e ((nth d.2.2.2.2.1 c BV).2.1==y.2.1) false
 (a->A6 c (len d.2.2.2.2.1)/\(e->A6 c (len d.2.2.2.2.1))/\(b->A6 c (len d.2.2.2.2.1))/\(!b->A5 (c+1)),a&&(!b),(c+1,()),a&&b,!a)
def qC2 y x:=(Vr y x).1
def RD y x:=(Vr y x).2.1
def Vs y x:=(Vr y x).2.2.1
def tN y x:=(Vr y x).2.2.2.1
def oI7 y x:=(Vr y x).2.2.2.2
def sW8 (y:uD8)(x:AF):Int:=
 (nth y.2.2.1.2.2.2.2.1 x.1 BV).2.2.1
def oI8:=li [(1,Bb),(2,Bb),(3,Ai)] [(7,vI)] RD Vs qC2 (λy x=>[ex 1 (some (tN y x)) [(6,vI)] ((sW8 y x),()),ex 2 (some (oI7 y x)) [] ()]) [[(6,vI)],[]]
def lT1 (d:A7)(e f:Int):Prop×Int:=
 let a:=(e,f,d,())
 let c:=((0:Int),())
 let b:=A3 (RD a) (Vs a) c
 (AA (RD a) (Vs a) (qC2 a) c,cond (tN a b) (sW8 a b) (0:Int))
def pK8 a b c:=(lT1 a b c).1
def EJ a b c:=(lT1 a b c).2
theorem mX3:SK 262 (DR Bm Bb Bb vI pK8 EJ):=fb Tryz.func262 39 [] [(2,oI8)]
abbrev uM4:Type:=((List Int)×A7×Unit)
def qN (y:uM4)(x:U8):Vn U8:=
 let c:=y.1
 let b:=y.2.1
 let r:=x.1
 let o:=x.2.1
 let a:=x.2.2.1
 let d:Bool:=a<len c
 let e:Bool:=a>0
 let f:=a-1
 let g:=nth c f (0:Int)
 let h:=nth b.2.2.2.1 g BG
 let i:=nth c a (0:Int)
 let j:=nth b.2.2.2.1 i BG
 let k:=EJ b h.1 j.1
 let q:=cond e (o+k) o
 let l:=([q]:List Int)
 let m:=nth c a (0:Int)
 let n:=nth b.2.2.2.1 m BG
 (d->(e->A5 (a-1)/\A6 f (len c)/\A6 g (len b.2.2.2.1)/\A6 a (len c)/\A6 i (len b.2.2.2.1)/\pK8 b h.1 j.1/\A5 (o+k))/\((length r+length l:Nat):Int)<=4294967296/\A6 a (len c)/\A6 m (len b.2.2.2.1)/\A5 (q+n.2.1)/\A5 (a+1),d,(r++l,q+n.2.1,a+1,()))
def qC3 y x:=(qN y x).1
def K4 y x:=(qN y x).2.1
def K5 y x:=(qN y x).2.2
def ZD (y:uM4)(x:U8):(List Int):=
 x.1
def uI3 (y:uM4)(x:U8):Int:=
 x.2.1
def qC4:List (Nat×Sh):=[(5,Ao),(6,vI)]
def oI9:=li [(1,Ah),(2,Ai)] [(5,Ao),(6,vI),(7,vI)] K4 K5 qC3 (λy x=>[ex 2 none qC4 ((ZD y x),(uI3 y x),())]) [qC4]
def lT2 (f:A7)(g:List Int):Prop×(List Int):=
 let b:=(g,f,())
 let e:=(([]:List Int),(0:Int),(0:Int),())
 let d:=A3 (K4 b) (K5 b) e
 let a:=ZD b d
 let c:=([uI3 b d]:List Int)
 (AA (K4 b) (K5 b) (qC3 b) e/\((length a+length c:Nat):Int)<=4294967296,a++c)
def ZE a b:=(lT2 a b).1
def BR a b:=(lT2 a b).2
theorem nC3:SK 223 (BD Bm Ah Bh ZE BR):=fb Tryz.func223 59 [kb mX3] [(4,oI9)] [(3,[(4,0,8,1005)]),(17,[(4,0,43,1005)]),(21,[(4,0,58,0)])]
def lT3 (i:A7)(j:List UInt8)(k:Int):Prop×Int:=
 let b:=E4 i !=0
 let c:=AR i j
 let a:=BR i c
 let d:=len a
 let e:=d-1
 let f:=nth a e (0:Int)
 let g:=Kp k (1:Int) (1048576:Int)
 let h:=f*g
 (qM7 i/\(!b->qM9 i j/\ZE i c/\A5 (d-1)/\A6 e (len a)/\YT k (1:Int) (1048576:Int)/\A5 (f*g)/\Eu h i.1),cond b (0:Int) (B4 h i.1))
def Vt a b c:=(lT3 a b c).1
def Hv a b c:=(lT3 a b c).2
theorem mX4:SK 260 (DR Bm vS vI vI Vt Hv):=fb Tryz.func260 28 [kb vK,kb qK8,kb nC2,kb nC3,kb nC1] [] [(7,[(4,0,15,1007)])]
abbrev vQ3:Type:=((List UInt8)×Int×Int×A7×Unit)
def Vu (y:vQ3)(x:AF):Vm AF:=
 let c:=y.1
 let a:=x.1
 let b:Bool:=a<len c
 let d:=BP c a !=10
 let f:Bool:=BP c a<32
 let e:=cond d (cond f true (BP c a>126)) false
 (b->A6 a (len c)/\(d->A6 a (len c))/\((d&&(!f))->A6 a (len c))/\(!e->A5 (a+1)),b&&(!e),(a+1,()),b&&e,!b)
def sO2 y x:=(Vu y x).1
def O3 y x:=(Vu y x).2.1
def wU y x:=(Vu y x).2.2.1
def sO3 y x:=(Vu y x).2.2.2.1
def qC5 y x:=(Vu y x).2.2.2.2
def sW9 (y:vQ3)(x:AF):(List (List UInt8)):=
 ([]:List (List UInt8))
def sX (y:vQ3)(x:AF):Int:=
 (4:Int)
def qC6:List (Nat×Sh):=[(8,Dp),(9,vI)]
def qC7:List (Nat×Sh):=[(1,vS),(2,vI),(3,vI),(4,Ai)]
def oJ:=li [(1,vS),(2,vI),(3,vI),(4,Ai)] [(11,vI)] O3 wU sO2 (λy x=>[ex 1 (some (sO3 y x)) qC6 ((sW9 y x),(sX y x),()),ex 2 (some (qC5 y x)) qC7 (y.1,y.2.1,y.2.2.1,y.2.2.2.1,())]) [qC6,qC7]
abbrev vW:Type:=(Int×Int×A7×(List (List UInt8))×Int×(List (List UInt8))×Unit)
def rN7 (y:vW)(x:N5):Vn N5:=
 let l:=y.1
 let m:=y.2.1
 let n:=y.2.2.1
 let b:=(Q1 y).1
 let e:=x.1
 let f:=x.2.1
 let a:=x.2.2.1
 let h:Bool:=a<len b
 let i:=f++([32]:List UInt8)
 let j:=nth b a ([]:List UInt8)
 let g:=i++j
 let k:=m==0
 let c:=cond k true (Hv n g l<=m)
 let d:=([f]:List (List UInt8))
 (h->((length f+length ([32]:List UInt8):Nat):Int)<=9223372036854775807/\A6 a (len b)/\((length i+length j:Nat):Int)<=9223372036854775807/\(!k->Vt n g l)/\(c=false->((length e+length d:Nat):Int)<=4294967296/\A6 a (len b))/\A5 (a+1),h,(cond c e (e++d),cond c g (nth b a ([]:List UInt8)),a+1,()))
def tU5 y x:=(rN7 y x).1
def MB y x:=(rN7 y x).2.1
def MC y x:=(rN7 y x).2.2
def vT3 (y:vW)(x:N5):(List (List UInt8)):=
 x.1
def uS8 (y:vW)(x:N5):(List UInt8):=
 x.2.1
def rN8:List (Nat×Sh):=[(2,vI),(3,vI),(4,Ai),(12,Cf),(13,Dk),(14,vI),(16,vS)]
def pK9:=li [(2,vI),(3,vI),(4,Ai),(13,Dk),(14,vI),(15,(.own .str 1015 false))] [(12,Cf),(16,vS),(17,vI)] MB MC tU5 (λy x=>[ex 6 none rN8 (y.1,y.2.1,y.2.2.1,(vT3 y x),y.2.2.2.1,y.2.2.2.2.1,(uS8 y x),())]) [rN8]
abbrev uM5:Type:=(Int×Int×A7×(List (List UInt8))×Unit)
def sE5 (y:uM5)(x:TH):Vn TH:=
 let d:=y.2.2.2.1
 let c:=x.2.1
 let h:Bool:=c<len d
 let i:=nth d c ([]:List UInt8)
 let f:=Gv i (32:Int)
 let b:=(y.1,y.2.1,y.2.2.1,d,c,f,())
 let j:=(x.1,nth f (0:Int) ([]:List UInt8),(1:Int),())
 let g:=A3 (MB b) (MC b) j
 let a:=vT3 b g
 let e:=([uS8 b g]:List (List UInt8))
 (h->A6 c (len d)/\ZA i (32:Int)/\A6 (0:Int) (len f)/\AA (MB b) (MC b) (tU5 b) j/\((length a+length e:Nat):Int)<=4294967296/\A5 (c+1),h,(a++e,c+1,()))
def uS9 y x:=(sE5 y x).1
def Vv y x:=(sE5 y x).2.1
def MD y x:=(sE5 y x).2.2
def sE6 (y:uM5)(x:TH):(List (List UInt8)):=
 x.1
def pL:=li [(2,vI),(3,vI),(4,Ai),(13,Dk)] [(12,Cf),(14,vI)] Vv MD uS9 (λy x=>[ex 4 none [(12,Cf)] ((sE6 y x),())]) [[(12,Cf)]]
def nT8 (k:A7)(l:List UInt8)(m n:Int):Prop×((List (List UInt8))×Int×Unit):=
 let g:=E4 k
 let d:=g !=0
 let b:=(l,m,n,k,())
 let j:=((0:Int),())
 let i:=A3 (O3 b) (wU b) j
 let c:=sO3 b i
 let e:Bool:=len l>128
 let f:=cond (cond (cond (m<1) true (m>1048576)) true (n<0)) true (n>1048576)
 let a:=(m,n,k,Gv l (10:Int),())
 let h:=(([]:List (List UInt8)),(0:Int),())
 (qM7 k/\(!d->AA (O3 b) (wU b) (sO2 b) j/\(qC5 b i->!e->!f->ZA l (10:Int)/\AA (Vv a) (MD a) (uS9 a) h)),(cond d [] (cond c (sW9 b i) (cond e [] (cond f [] (sE6 a (A3 (Vv a) (MD a) h))))),cond d g (cond c (sX b i) (cond e (3:Int) (cond f (2:Int) (0:Int)))),()))
def qN0 a b c d:=(nT8 a b c d).1
def ME a b c d:=(nT8 a b c d).2
theorem mX5:SK 221 (Gi Bm vS vI vI (.tup (.cons Dp (.cons vI .nl))) qN0 ME):=fb Tryz.func221 117 [kb nC1,kb mX1,kb mX4] [(5,oJ),(16,pL),(21,pK9)] [(27,[(4,0,63,1012)]),(29,[(4,0,65,1013)]),(37,[(4,0,76,1015)]),(53,[(4,0,107,1012)]),(57,[(4,0,115,1012)]),(59,[(4,0,1012,0)])]
def qN1 (y:uC3)(x:vD):Vn vD:=
 let c:=y.1
 let d:=x.1
 let a:=x.2.1
 let e:Bool:=a<len c
 let b:=len (nth c a ([]:List A0))
 (e->A6 a (len c)/\A5 (d+b)/\A5 (a+1),e,(d+b,a+1,()))
def sO4 y x:=(qN1 y x).1
def RE y x:=(qN1 y x).2.1
def RF y x:=(qN1 y x).2.2
def sX0 (y:uC3)(x:vD):Int:=
 x.1
def oJ0:=li [(0,Ak)] [(3,vI),(4,vI)] RE RF sO4 (λy x=>[ex 2 none [(3,vI)] ((sX0 y x),())]) [[(3,vI)]]
def lT4 (c:(List (List A0))):Prop×Int:=
 let a:=(c,())
 let b:=((0:Int),(0:Int),())
 (AA (RE a) (RF a) (sO4 a) b,sX0 a (A3 (RE a) (RF a) b))
def Vw a:=(lT4 a).1
def f224 a:=(lT4 a).2
theorem nC4:SK 224 (AS Ak vI Vw f224):=fb Tryz.func224 19 [] [(3,oJ0)]
abbrev uM6:Type:=(Int×A7×(List (List UInt8))×(List (List A0))×Int×(List Int)×(List Int)×Int×(List (List A0))×Int×Unit)
def rN9 (y:uM6)(x:CX):Vn CX:=
 let u:=y.1
 let e:=y.2.1
 let l:=y.2.2.2.2.1
 let m:=(Q3 y).1
 let n:=(Q0 y).1
 let b:=(Q5 y).1
 let c:=(Q4 y).1
 let o:=x.1
 let a:=x.2.1
 let q:Bool:=a<len (nth b c ([]:List A0))
 let r:=nth b c ([]:List A0)
 let d:=nth r a A1
 let s:=nth m n (0:Int)
 let t:=s+d.1
 let f:=t*u
 let g:=l*e.2.2.1
 let h:=e.2.1+g
 let i:=h-d.2.1
 let j:=i*u
 let k:=([(B4 f e.1,B4 j e.1,())]:List A0)
 (A6 c (len b)/\(q->A6 c (len b)/\A6 a (len r)/\A6 n (len m)/\A5 (s+d.1)/\A5 (t*u)/\Eu f e.1/\A5 (l*e.2.2.1)/\A5 (e.2.1+g)/\A5 (h-d.2.1)/\A5 (i*u)/\Eu j e.1/\((length o+length k:Nat):Int)<=4294967296/\A5 (a+1)),q,(o++k,a+1,()))
def tU6 y x:=(rN9 y x).1
def Ly y x:=(rN9 y x).2.1
def L0 y x:=(rN9 y x).2.2
def sE7 (y:uM6)(x:CX):(List A0):=
 x.1
def rO:List (Nat×Sh):=[(2,vI),(4,Ai),(10,Bv),(12,Ay),(13,vI),(14,Cj),(15,Ck),(16,vI),(17,Ak),(19,vI),(20,(.own AQ 1020 false))]
def pL0:=li [(2,vI),(4,Ai),(10,Bv),(12,Ay),(13,vI),(14,Cj),(15,Ck),(16,vI),(17,Ak),(19,vI)] [(20,(.own AQ 1020 false)),(21,vI)] Ly L0 tU6 (λy x=>[ex 8 none rO (y.1,y.2.1,y.2.2.1,y.2.2.2.1,y.2.2.2.2.1,(Q1 y).1,(Q3 y).1,(Q0 y).1,(Q5 y).1,(Q4 y).1,(sE7 y x),())]) [rO]
abbrev uM7:Type:=(Int×A7×(List (List UInt8))×Int×(List Int)×(List Int)×Int×(List (List A0))×Unit)
def rO0 (y:uM7)(x:CH):Vn CH:=
 let e:=(Q0 y).1
 let d:=x.1
 let b:=x.2.1
 let f:Bool:=b<len e
 let a:=(y.1,y.2.1,y.2.2.1,d,y.2.2.2.1,y.2.2.2.2.1,(Q1 y).1,(Q3 y).1,e,b,())
 let g:=(([]:List A0),(0:Int),())
 let c:=([sE7 a (A3 (Ly a) (L0 a) g)]:List (List A0))
 (f->AA (Ly a) (L0 a) (tU6 a) g/\((length d+length c:Nat):Int)<=4294967296/\A5 (b+1),f,(d++c,b+1,()))
def uT y x:=(rO0 y x).1
def Jv y x:=(rO0 y x).2.1
def Jw y x:=(rO0 y x).2.2
def sE8 (y:uM7)(x:CH):(List (List A0)):=
 x.1
def rO1:List (Nat×Sh):=[(2,vI),(4,Ai),(10,Bv),(12,Ay),(13,vI),(14,Cj),(15,Ck),(16,vI)]
def pL1:=li [(2,vI),(4,Ai),(10,Bv),(13,vI),(14,Cj),(15,Ck),(16,vI),(17,Ak)] [(12,Ay),(19,vI)] Jv Jw uT (λy x=>[ex 6 none rO1 (y.1,y.2.1,y.2.2.1,(sE8 y x),y.2.2.2.1,y.2.2.2.2.1,(Q1 y).1,(Q3 y).1,())]) [rO1]
abbrev uM8:Type:=(Int×A7×(List (List UInt8))×Int×(List Int)×(List Int)×Unit)
def rO2 (y:uM8)(x:CH):Vn CH:=
 let h:=y.2.1
 let c:=y.2.2.2.2.1
 let a:=x.2.1
 let d:Bool:=a<len c
 let e:=nth c a (0:Int)
 let f:=nth h.2.2.2.1 e BG
 let b:=(y.1,h,y.2.2.1,y.2.2.2.1,c,(Q1 y).1,a,(CP f.2.2.1).1,())
 let g:=(x.1,(0:Int),())
 (d->A6 a (len c)/\A6 e (len h.2.2.2.1)/\Zp f.2.2.1/\AA (Jv b) (Jw b) (uT b) g/\A5 (a+1),d,(sE8 b (A3 (Jv b) (Jw b) g),a+1,()))
def tU7 y x:=(rO2 y x).1
def K6 y x:=(rO2 y x).2.1
def K7 y x:=(rO2 y x).2.2
def sE9 (y:uM8)(x:CH):(List (List A0)):=
 x.1
def rO3:List (Nat×Sh):=[(2,vI),(4,Ai),(10,Bv),(12,Ay),(13,vI)]
def pL2:=li [(2,vI),(4,Ai),(10,Bv),(13,vI),(14,Cj),(15,Ck)] [(12,Ay),(16,vI)] K6 K7 tU7 (λy x=>[ex 4 none rO3 (y.1,y.2.1,y.2.2.1,(sE9 y x),y.2.2.2.1,())]) [rO3]
abbrev tG9:Type:=(Int×A7×(List (List UInt8))×Unit)
def qN2 (y:tG9)(x:CH):Vn CH:=
 let e:=y.2.1
 let c:=y.2.2.1
 let a:=x.2.1
 let f:Bool:=a<len c
 let g:=nth c a ([]:List UInt8)
 let d:=AR e g
 let b:=(y.1,e,c,a,d,BR e d,())
 let h:=(x.1,(0:Int),())
 (f->A6 a (len c)/\qM9 e g/\ZE e d/\AA (K6 b) (K7 b) (tU7 b) h/\A5 (a+1),f,(sE9 b (A3 (K6 b) (K7 b) h),a+1,()))
def sO6 y x:=(qN2 y x).1
def L1 y x:=(qN2 y x).2.1
def wL y x:=(qN2 y x).2.2
def sX1 (y:tG9)(x:CH):(List (List A0)):=
 x.1
def qC8:List (Nat×Sh):=[(12,Ay)]
def oJ1:=li [(2,vI),(4,Ai),(10,Bv)] [(12,Ay),(13,vI)] L1 wL sO6 (λy x=>[ex 2 none qC8 ((sX1 y x),())]) [qC8]
def ZF (g:A7)(h:List UInt8)(i j:Int):Prop×((List (List A0))×Int×Unit):=
 let c:=ME g h i j
 let d:=c.2.1 !=0
 let e:=(i,g,c.1,())
 let f:=(([]:List (List A0)),(0:Int),())
 let a:=sX1 e (A3 (L1 e) (wL e) f)
 let b:Bool:=f224 a>4096
 (qN0 g h i j/\(!d->AA (L1 e) (wL e) (sO6 e) f/\Vw a),(cond d [] (cond b [] a),cond d c.2.1 (cond b (3:Int) (0:Int)),()))
def tH a b c d:=(ZF a b c d).1
def Gw a b c d:=(ZF a b c d).2
def nC6:=Gi Bm vS vI vI (.tup (.cons Av (.cons vI .nl))) tH Gw
theorem mX6:SK 185 (Gi Bm vS vI vI (.tup (.cons Av (.cons vI .nl))) tH Gw):=fb Tryz.func185 131 [kb vK,kb nB4,kb mX5,kb nC2,kb nC3,kb nC4] [(6,oJ1),(11,pL2),(15,pL1),(19,pL0)] [(3,[(4,0,28,1010)]),(9,[(4,0,34,1012)]),(17,[(4,0,46,1014)]),(19,[(4,0,49,1015)]),(35,[(4,0,75,1020)]),(45,[(4,0,122,1020)]),(47,[(4,0,126,1012)]),(53,[(4,0,1012,0)])]
def mX7 :Prop×(List UInt8):=
 (True,wD)
def ZG :Prop:=(mX7).1
def RG :List UInt8:=(mX7).2
instance:Decidable ZG:=by unfold ZG mX7;dsimp only;infer_instance
def nC7:Am.Spec:=fnSpec [] vS [] (λx=>ZG ) (λx=>RG ) (λ_=>())
theorem mX8:SK 263 (fnSpec [] vS [] (λx=>ZG ) (λx=>RG ) (λ_=>())):=fb Tryz.func263 1
def mX9 (c:Int):Prop×Int:=
 let b:Bool:=c<=57
 let a:=wrap .i64 (wrap .u8 (c-97))
 (!b->A5 (a+10),cond b (wrap .i64 (wrap .u8 (c-48))) (a+10))
def Vx a:=(mX9 a).1
def MF a:=(mX9 a).2
instance (a):Decidable (Vx a):=by unfold Vx mX9;dsimp only;infer_instance
def nC8:=AS Bb vI Vx MF
theorem mY:SK 264 (AS Bb vI Vx MF):=fb Tryz.func264 12
def mY0 (a b c:Int):Prop×A8:=
 (True,(a,([(b,c,()),A1,A1]:List A0),()))
def O4 a b c:=(mY0 a b c).1
def I6 a b c:=(mY0 a b c).2
instance (a b c):Decidable (O4 a b c):=by unfold O4 mY0;dsimp only;infer_instance
def nC9:=DR vI vI vI Dd O4 I6
theorem mY1:SK 265 (DR vI vI vI Dd O4 I6):=fb Tryz.func265 13
abbrev O5:Type:=(Int×(List UInt8)×(List A8)×Int×Int×Int×Unit)
def sF (y:O5)(x:AF):Vn AF:=
 let c:=x.1
 let a:=c+1
 let b:=Fz .i64 (EW y.2.2.2.2.1 a 64) (1:Int)==1
 (A5 (c+1)/\0<=a/\(b->A5 (c+1)),b,(c+1,()))
def uT0 y x:=(sF y x).1
def sO8 y x:=(sF y x).2.1
def uT1 y x:=(sF y x).2.2
instance (y x):Decidable (uT0 y x):=by unfold uT0 sF;dsimp only;infer_instance
def sF0 (y:O5)(x:AF):Int:=
 x.1
def rO5:List (Nat×Sh):=[(0,vI),(3,vS),(4,Bw),(5,vI),(6,vI),(7,vI),(8,vI)]
def sF1:St->Option Out:=Ik [(0,vI),(3,vS),(4,Bw),(5,vI),(6,vI),(7,vI)] [(8,vI)] sO8 uT1 uT0 λy x=>[ex 6 none rO5 (y.1,y.2.1,y.2.2.1,y.2.2.2.1,y.2.2.2.2.1,(Q1 y).1,(sF0 y x),())]
def rB0 (y:HM)(x:O5):Vn O5:=
 let J:=x.1
 let K:=x.2.1
 let H:=x.2.2.1
 let f:=x.2.2.2.1
 let i:=x.2.2.2.2.1
 let d:=(Q1 x).1
 let j:Bool:=d<7
 let k:=Fz .i64 (EW i d 64) (1:Int)==0
 let h:Bool:=d>0
 let g:=!k
 let l:=d-1
 let b:=cond k true (cond h (Fz .i64 (EW i l 64) (1:Int)==1) false)
 let e:=(J,K,H,f,i,d,())
 let F:=(d,())
 let a:=sF0 e (A3 (sO8 e) (uT1 e) F)
 let m:=100*f
 let n:=100*d
 let o:=700-n
 let q:=100*f
 let r:=q+100
 let s:=100*d
 let t:=700-s
 let u:=100*f
 let v:=u+100
 let w:=100*a
 let z:=600-w
 let A:=100*f
 let B:=100*a
 let C:=600-B
 let E:=([I6 (1:Int) m o,I6 (2:Int) r t,I6 (2:Int) v z,I6 (2:Int) A C,((5:Int),List.replicate 3 A1,())]:List A8)
 let c:=b||(!b)
 let L:=cond b d d
 (j->0<=d/\((g&&h)->A5 (d-1))/\((g&&h)->0<=l)/\(!b->AA (sO8 e) (uT1 e) (uT0 e) F/\A5 (100*f)/\A5 (100*d)/\A5 (700-n)/\O4 (1:Int) m o/\A5 (100*f)/\A5 (q+100)/\A5 (100*d)/\A5 (700-s)/\O4 (2:Int) r t/\A5 (100*f)/\A5 (u+100)/\A5 (100*a)/\A5 (600-w)/\O4 (2:Int) v z/\A5 (100*f)/\A5 (100*a)/\A5 (600-B)/\O4 (2:Int) A C/\((length H+length E:Nat):Int)<=4294967296)/\(c->A5 (L+1)),j&&c,(cond b J J,cond b K K,cond b H (H++E),cond b f f,cond b i i,L+1,()))
def tN1 y x:=(rB0 y x).1
def rO6 y x:=(rB0 y x).2.1
def tH1 y x:=(rB0 y x).2.2
instance (y x):Decidable (tN1 y x):=by unfold tN1 rB0;dsimp only;infer_instance
def sX2 (y:HM)(x:O5):Int:=
 x.1
def sX3 (y:HM)(x:O5):(List UInt8):=
 x.2.1
def sX4 (y:HM)(x:O5):(List A8):=
 x.2.2.1
def sX5 (y:HM)(x:O5):Int:=
 x.2.2.2.1
def qC9:List (Nat×Sh):=[(0,vI),(3,vS),(4,Bw),(5,vI)]
def sX6:St->Option Out:=Ik [] [(0,vI),(3,vS),(4,Bw),(5,vI),(6,vI),(7,vI)] rO6 tH1 tN1 λy x=>[ex 4 none qC9 ((sX2 y x),(sX3 y x),(sX4 y x),(sX5 y x),())]
abbrev uE2:Type:=(Int×(List UInt8)×(List A8)×Int×Unit)
def rB1 (y:HM)(x:uE2):Vn uE2:=
 let c:=x.1
 let d:=x.2.1
 let b:=x.2.2.2.1
 let e:Bool:=b<5
 let f:=10*c
 let g:=2*b
 let h:=f+g
 let i:=BP d h
 let j:=MF i
 let k:=16*j
 let l:=10*c
 let m:=2*b
 let n:=l+m
 let o:=n+1
 let q:=BP d o
 let r:=MF q
 let t:=(c,d,x.2.2.1,b,k+r,(0:Int),())
 let s:=A3 (rO6 ()) (tH1 ()) t
 let a:=sX5 () s
 (e->A5 (10*c)/\A5 (2*b)/\A5 (f+g)/\A6 h (len d)/\Vx i/\A5 (16*j)/\A5 (10*c)/\A5 (2*b)/\A5 (l+m)/\A5 (n+1)/\A6 o (len d)/\Vx q/\A5 (k+r)/\AA (rO6 ()) (tH1 ()) (tN1 ()) t/\A5 (a+1),e,(sX2 () s,sX3 () s,sX4 () s,a+1,()))
def tN2 y x:=(rB1 y x).1
def rO7 y x:=(rB1 y x).2.1
def tH3 y x:=(rB1 y x).2.2
instance (y x):Decidable (tN2 y x):=by unfold tN2 rB1;dsimp only;infer_instance
def sX7 (y:HM)(x:uE2):(List A8):=
 x.2.2.1
def sX8:St->Option Out:=Ik [] [(0,vI),(3,vS),(4,Bw),(5,vI)] rO7 tH3 tN2 λy x=>[ex 2 none [(4,Bw)] ((sX7 y x),())]
def mY2 (b:Int):Prop×(List A8):=
 let a:=(b,RG,([]:List A8),(0:Int),())
 (ZG/\AA (rO7 ()) (tH3 ()) (tN2 ()) a,sX7 () (A3 (rO7 ()) (tH3 ()) a))
def qN3 a:=(mY2 a).1
def f225 a:=(mY2 a).2
instance (a):Decidable (qN3 a):=by unfold qN3 mY2;dsimp only;infer_instance
def nD:=AS vI Bk qN3 f225
def rB2:=Cy [(263,nC7),(264,nC8),(265,nC9)] [(12,sF1),(8,sX6),(4,sX8)] [(5,[(4,0,10,1004)]),(29,[(4,0,93,1004)]),(31,[(4,0,1004,0)])] 95
theorem rB3:CtxOk Tryz.prog rB2:=cq ⟨mX8,mY,mY1,trivial⟩
noncomputable def nD0:Code:=Tryz.f225.body.getD .skip
noncomputable def pL3:Code:=SP nD0 0
noncomputable def pL4:Code:=SP pL3 0
noncomputable def pR9:Code:=SP pL4 0
theorem pL5:JG Tryz.prog rB2 pR9:=lq rB3 (sp:=sF1) rfl [rO5]
theorem oJ2:JG Tryz.prog rB2 pL4:=lm rB3 (sp:=sX6) rfl [qC9] (bs:=[pR9]) ⟨pL5,trivial⟩
theorem oJ3:JG Tryz.prog rB2 pL3:=lm rB3 (sp:=sX8) rfl [[(4,Bw)]] (bs:=[pL4]) ⟨oJ2,trivial⟩
theorem mY3:SK 225 nD:=fl rB3 Tryz.func225 (bs:=[pL3]) ⟨oJ3,trivial⟩
def rB4 (y:HM)(x:NX):Vn NX:=
 let c:=x.1
 let b:=x.2.1
 let a:=x.2.2.1
 let d:Bool:=a<95
 let e:=([(wrap .u8 (32+a),(600:Int),f225 a,())]:List C6)
 (d->A5 (32+a)/\qN3 a/\((length b.2.2.2.1+length e:Nat):Int)<=4294967296/\A5 (a+1),d,(c,(b.1,b.2.1,b.2.2.1,b.2.2.2.1++e,b.2.2.2.2.1,()),a+1,()))
def tN3 y x:=(rB4 y x).1
def rO8 y x:=(rB4 y x).2.1
def tH4 y x:=(rB4 y x).2.2
instance (y x):Decidable (tN3 y x):=by unfold tN3 rB4;dsimp only;infer_instance
def qW7 (y:HM)(x:NX):(Int×Int×Int×(List C6)×(List DD)×Unit):=
 let a:=x.1
 a
def sX9 (y:HM)(x:NX):(Int×Int×Int×(List C6)×(List DD)×Unit):=
 let a:=x.2.1
 a
def qD:List (Nat×Sh):=[(0,Ae),(1,Af)]
def oJ4:=li [] [(0,Ae),(1,Af),(2,vI)] rO8 tH4 tN3 (λy x=>[ex 2 none qD ((qW7 y x),(sX9 y x),())]) [qD]
def mY4 :Prop×A7:=
 let b:=((1000:Int),(800:Int),(1200:Int),([]:List C6),([((65:Int),(86:Int),(-100:Int),()),((76:Int),(84:Int),(-100:Int),()),((84:Int),(97:Int),(-100:Int),()),((86:Int),(65:Int),(-100:Int),())]:List DD),())
 let c:=(((0:Int),(0:Int),(0:Int),([]:List C6),([]:List DD),()),b,(0:Int),())
 let a:=sX9 () (A3 (rO8 ()) (tH4 ()) c)
 (AA (rO8 ()) (tH4 ()) (tN3 ()) c,a)
def Vy :Prop:=(mY4).1
def Hw :A7:=(mY4).2
instance:Decidable Vy:=by unfold Vy mY4;dsimp only;infer_instance
theorem mY5:SK 186 (fnSpec [] Bm [] (λx=>Vy ) (λx=>Hw ) (λ_=>())):=fb Tryz.func186 25 [kb mY3] [(3,oJ4)] [(3,[(4,0,7,400101)]),(11,[(4,0,22,400100)]),(13,[(4,0,400100,400000),(4,0,400101,400001)])]
def ZH (y:PR)(x:CX):Vm CX:=
 let e:=y.1
 let o:=y.2.1
 let f:=y.2.2.2.1
 let q:=x.1
 let a:=x.2.1
 let c:Bool:=a<len (nth e f ([]:List A0))
 let g:=nth e f ([]:List A0)
 let h:=nth g a A1
 let b:=!(DX h)
 let i:=nth e f ([]:List A0)
 let j:=nth i a A1
 let k:=DQ o j
 let d:=cond b true (!(DX k))
 let l:=nth e f ([]:List A0)
 let m:=nth l a A1
 let n:=([DQ o m]:List A0)
 (A6 f (len e)/\(c->A6 f (len e)/\A6 a (len g)/\Zd h/\(!b->A6 f (len e))/\(!b->A6 a (len i))/\(!b->Ze o j)/\(!b->Zd k)/\(!d->A6 f (len e)/\A6 a (len l)/\Ze o m/\((length q+length n:Nat):Int)<=4294967296)/\(!d->A5 (a+1))),c&&(!d),(q++n,a+1,()),c&&d,!c)
def uT2 y x:=(ZH y x).1
def Hy y x:=(ZH y x).2.1
def Hz y x:=(ZH y x).2.2.1
def uT3 y x:=(ZH y x).2.2.2.1
def uT4 y x:=(ZH y x).2.2.2.2
def sF2 (y:PR)(x:CX):(List (List A0)):=
 ([]:List (List A0))
def sF3 (y:PR)(x:CX):Int:=
 (2:Int)
def rO9:List (Nat×Sh):=[(4,Av),(5,vI)]
def sF4 (y:PR)(x:CX):(List A0):=
 x.1
def rP:List (Nat×Sh):=[(0,Ak),(3,Bp),(7,Cq),(8,vI),(9,(.own AQ 1009 false))]
def pL6:=li [(0,Ak),(3,Bp),(7,Cq),(8,vI)] [(9,(.own AQ 1009 false)),(10,vI)] Hy Hz uT2 (λy x=>[ex 1 (some (uT3 y x)) rO9 ((sF2 y x),(sF3 y x),()),ex 4 (some (uT4 y x)) rP (y.1,y.2.1,y.2.2.1,y.2.2.2.1,(sF4 y x),())]) [rO9,rP]
abbrev vG8:Type:=((List (List A0))×C3×Unit)
def ZI (y:vG8)(x:CH):Vm CH:=
 let i:=y.1
 let h:=x.1
 let g:=x.2.1
 let c:Bool:=g<len i
 let a:=(i,y.2.1,h,g,())
 let f:=(([]:List A0),(0:Int),())
 let d:=A3 (Hy a) (Hz a) f
 let b:=uT4 a d
 let e:=([sF4 a d]:List (List A0))
 (c->AA (Hy a) (Hz a) (uT2 a) f/\(b->((length h+length e:Nat):Int)<=4294967296)/\(b->A5 (g+1)),c&&b,(h++e,g+1,()),c&&uT3 a d,!c)
def sP y x:=(ZI y x).1
def O6 y x:=(ZI y x).2.1
def O7 y x:=(ZI y x).2.2.1
def ZJ y x:=(ZI y x).2.2.2.1
def oJ5 y x:=(ZI y x).2.2.2.2
def sY (y:vG8)(x:CH):(List (List A0)):=
 let a:=(y.1,y.2.1,x.1,x.2.1,())
 (sF2 a (A3 (Hy a) (Hz a) (([]:List A0),(0:Int),())))
def sY0 (y:vG8)(x:CH):Int:=
 let a:=(y.1,y.2.1,x.1,x.2.1,())
 (sF3 a (A3 (Hy a) (Hz a) (([]:List A0),(0:Int),())))
def qD0:List (Nat×Sh):=[(4,Av),(5,vI)]
def sY1 (y:vG8)(x:CH):(List (List A0)):=
 x.1
def qD1:List (Nat×Sh):=[(7,Cq)]
def oJ6:=li [(0,Ak),(3,Bp)] [(7,Cq),(8,vI)] O6 O7 sP (λy x=>[ex 1 (some (ZJ y x)) qD0 ((sY y x),(sY0 y x),()),ex 2 (some (oJ5 y x)) qD1 ((sY1 y x),())]) [qD0,qD1]
def lT5 (h:(List (List A0)))(i:C3):Prop×((List (List A0))×Int×Unit):=
 let e:=Gp i
 let c:=e !=0
 let d:Bool:=f224 h>4096
 let a:=(h,i,())
 let g:=(([]:List (List A0)),(0:Int),())
 let f:=A3 (O6 a) (O7 a) g
 let b:=ZJ a f
 (Oo i/\(!c->Vw h/\(!d->AA (O6 a) (O7 a) (sP a) g)),(cond c [] (cond d [] (cond b (sY a f) (sY1 a f))),cond c e (cond d (3:Int) (cond b (sY0 a f) (0:Int))),()))
def qN4 a b:=(lT5 a b).1
def K8 a b:=(lT5 a b).2
def nD1:=BD Ak Az (.tup (.cons Ak (.cons vI .nl))) qN4 K8
theorem mY6:SK 187 (BD Ak Az (.tup (.cons Ak (.cons vI .nl))) qN4 K8):=fb Tryz.func187 75 [kb pR2,kb nB2,kb pJ,kb nC4] [(8,oJ6),(12,pL6)] [(13,[(4,0,19,1007)]),(21,[(4,0,26,1009)]),(33,[(4,0,69,1009)]),(35,[(4,0,73,1007)]),(37,[(4,0,1007,0)])]
def pS (k:A7)(g:AK):Prop×Int:=
 let a:=Gw k (Qj g).1 (Ql g).1 (Qm g).1
 let c:=a.2.1 !=0
 let b:=K8 a.1 (Q2 g).1
 let d:=b.2.1 !=0
 let e:=El b.1 (0:Int)
 let f:=e !=0
 (Vy/\tH k (Qj g).1 (Ql g).1 (Qm g).1/\(!c->qN4 a.1 (Q2 g).1/\(!d->Ox b.1 (0:Int)/\(!f->Oq (Q9 g).1))),cond c a.2.1 (cond d b.2.1 (cond f e (f138 (Q9 g).1))))
def mY7 (a:AK):Prop×Int:=pS Hw a
def qN5 a:=(mY7 a).1
def f141 a:=(mY7 a).2
def nD2:Am.Spec:=fnSpec [(0,Bc)] vI [] (λx=>qN5 x.1) (λx=>f141 x.1) (λ_=>())
def pS0 (k:A7):Ctx:=Cx tys [(138,nB),(182,nB5),(185,nC6),(186,fnSpec [] Bm [] (λ_=>Vy) (λ_=>k) (λ_=>())),(187,nD1)] [] [(3,[(4,0,15,1003)])] false 39 [] []
theorem nT9:CtxOk Tryz.prog (pS0 Hw):=cq ⟨pI7,pJ6,mX6,mY5,mY6,trivial⟩
theorem nU:∀(k:A7) x,Il (pS0 k) (Tryz.f141.body.getD .skip) Tryz.f141.results.toList [(0,Bc)] vI [] x=some ((pS k x.1).1,(pS k x.1).2,()):=λk x=>by kernel_rfl
theorem mY8:SpecOk Tryz.prog 141 nD2:=WL nT9 mixed Tryz.func141 (by kernel_rfl) (bs:=[]) (by kernel_rfl) trivial (nU Hw)
def lT6 (c:Int):Prop×(Int×Int×Unit):=
 let a:=([(0:Int),(0:Int),(5:Int),(4:Int),(2:Int),(3:Int),(1:Int),(1:Int),(9:Int),(3:Int),(0:Int),(2:Int)]:List Int)
 let b:=c==3
 (!b->A6 c (len a)/\A6 c (len a),(cond b (4:Int) (nth a c (0:Int)),cond b (16:Int) (nth a c (0:Int)),()))
def pL7 a:=(lT6 a).1
def Fh a:=(lT6 a).2
theorem mY9:SK 188 (AS vI (.tup (.cons vI (.cons vI .nl))) pL7 Fh):=fb Tryz.func188 16 [] [] [(3,[(4,0,5,1004)])]
def mZ (i j:Int):Prop×(Int×Int×Unit):=
 let c:=cond (i==2) (j==2) false
 let d:=cond (cond (i==4) true (cond (i==5) (decide (j>0)) false)) true (cond (i==11) (j==1) false)
 let e:=i==5
 let f:=i==7
 let g:=i==8
 let h:=i==11
 let a:=cond c (1:Int) (cond d (-65535:Int) (cond e (-32768:Int) (cond f (2:Int) (cond g (-262140:Int) (cond h (-128:Int) (0:Int))))))
 let b:=cond c (256:Int) (cond d (65535:Int) (cond e (32768:Int) (cond f (256:Int) (cond g (262140:Int) (cond h (128:Int) (65535:Int))))))
 (True,(a,b,()))
def nD3 a b:=(mZ a b).1
def MG a b:=(mZ a b).2
theorem mZ0:SK 189 (BD vI vI (.tup (.cons vI (.cons vI .nl))) nD3 MG):=fb Tryz.func189 38
abbrev V0:Type:=(Int×(List Int)×(List AX)×Unit)
def RH (y:V0)(x:AF):Vm AF:=
 let g:=y.1
 let d:=y.2.1
 let a:=x.1
 let b:Bool:=a<len d
 let e:=MG g a
 let f:Bool:=nth d a (0:Int)<e.1
 let c:=cond f true (nth d a (0:Int)>e.2.1)
 (b->nD3 g a/\A6 a (len d)/\(!f->A6 a (len d))/\(!c->A5 (a+1)),b&&(!c),(a+1,()),b&&c,!b)
def sP0 y x:=(RH y x).1
def vH y x:=(RH y x).2.1
def O8 y x:=(RH y x).2.2.1
def ZK y x:=(RH y x).2.2.2.1
def tN4 y x:=(RH y x).2.2.2.2
def sY2 (y:V0)(x:AF):Int:=
 (2:Int)
def qD2:List (Nat×Sh):=[(0,vI),(1,Ah),(2,Ap)]
def oJ7:=li [(0,vI),(1,Ah),(2,Ap)] [(9,vI)] vH O8 sP0 (λy x=>[ex 1 (some (ZK y x)) [(6,vI)] ((sY2 y x),()),ex 2 (some (tN4 y x)) qD2 (y.1,y.2.1,y.2.2.1,())]) [[(6,vI)],qD2]
def RI (y:V0)(x:AF):Vm AF:=
 let g:=y.2.2.1
 let a:=x.1
 let b:Bool:=a<len g
 let e:Bool:=(nth g a CO).1<0
 let c:=cond e true ((nth g a CO).1>65535)
 let f:=nth g a CO
 let d:=cond c true (!(Gq f.2.1))
 (b->A6 a (len g)/\(!e->A6 a (len g))/\(!c->A6 a (len g))/\(!c->UO f.2.1)/\(!d->A5 (a+1)),b&&(!d),(a+1,()),b&&d,!b)
def tU8 y x:=(RI y x).1
def RJ y x:=(RI y x).2.1
def V1 y x:=(RI y x).2.2.1
def ZL y x:=(RI y x).2.2.2.1
def rP0 y x:=(RI y x).2.2.2.2
def sF6 (y:V0)(x:AF):Int:=
 (2:Int)
def rP1:List (Nat×Sh):=[(0,vI),(1,Ah),(2,Ap)]
def pL8:=li [(0,vI),(1,Ah),(2,Ap)] [(12,vI)] RJ V1 tU8 (λy x=>[ex 1 (some (ZL y x)) [(6,vI)] ((sF6 y x),()),ex 4 (some (rP0 y x)) rP1 (y.1,y.2.1,y.2.2.1,())]) [[(6,vI)],rP1]
def MH (y:V0)(x:AF):Vm AF:=
 let e:=y.2.1
 let a:=x.1
 let b:=cond (y.1==3) (decide (a<len e)) false
 let d:=a-2
 let c:Bool:=nth e a (0:Int)<=nth e d (0:Int)
 (b->A6 a (len e)/\A5 (a-2)/\A6 d (len e)/\(!c->A5 (a+2)),b&&(!c),(a+2,()),b&&c,!b)
def uT6 y x:=(MH y x).1
def L2 y x:=(MH y x).2.1
def RL y x:=(MH y x).2.2.1
def V2 y x:=(MH y x).2.2.2.1
def rP2 y x:=(MH y x).2.2.2.2
def sF7 (y:V0)(x:AF):Int:=
 (24:Int)
def pL9:=li [(0,vI),(1,Ah),(2,Ap)] [(13,vI)] L2 RL uT6 (λy x=>[ex 1 (some (V2 y x)) [(6,vI)] ((sF7 y x),()),ex 6 (some (rP2 y x)) [(2,Ap)] (y.2.2.1,())]) [[(6,vI)],[(2,Ap)]]
def ZM (y:vJ1)(x:AF):Vm AF:=
 let e:=y.1
 let a:=x.1
 let b:Bool:=a<len e
 let d:=a-1
 let c:Bool:=(nth e a CO).1<=(nth e d CO).1
 (b->A6 a (len e)/\A5 (a-1)/\A6 d (len e)/\(!c->A5 (a+1)),b&&(!c),(a+1,()),b&&c,!b)
def tU9 y x:=(ZM y x).1
def V3 y x:=(ZM y x).2.1
def V4 y x:=(ZM y x).2.2.1
def uT7 y x:=(ZM y x).2.2.2.1
def pM y x:=(ZM y x).2.2.2.2
def sF8 (y:vJ1)(x:AF):Int:=
 (24:Int)
def pM0:=li [(2,Ap)] [(14,vI)] V3 V4 tU9 (λy x=>[ex 1 (some (uT7 y x)) [(6,vI)] ((sF8 y x),()),ex 8 (some (pM y x)) [] ()]) [[(6,vI)],[]]
def nU0 (p:Int)(A:List Int)(B:List AX):Prop×Int:=
 let l:=cond (p<1) true (p>11)
 let m:=Fh p
 let n:=cond (cond (cond (len A<m.1) true (len A>m.2.1)) true (cond (p==3) (tmod (len A) (2:Int)==1) false)) true (!(Ty.eqb .bool (decide (len B>0)) (p==10)))
 let o:Bool:=len B>16
 let g:=(p,A,B,())
 let z:=((0:Int),())
 let w:=A3 (vH g) (O8 g) z
 let q:=p==9
 let r:=cond q (nth A (0:Int) (0:Int)==0) false
 let s:=cond r (nth A (1:Int) (0:Int)==0) false
 let e:=cond s (nth A (2:Int) (0:Int)==0) false
 let a:=(p,A,B,())
 let t:=((0:Int),())
 let h:=A3 (RJ a) (V1 a) t
 let d:=p==2
 let f:=cond d (decide (nth A (1:Int) (0:Int)<=nth A (0:Int) (0:Int))) false
 let b:=(p,A,B,())
 let u:=((2:Int),())
 let i:=A3 (L2 b) (RL b) u
 let c:=(B,())
 let v:=((1:Int),())
 let j:=A3 (V3 c) (V4 c) v
 let k:=cond (ZL a h) (sF6 a h) (cond f (24:Int) (cond (V2 b i) (sF7 b i) (cond (uT7 c j) (sF8 c j) (0:Int))))
 (!l->pL7 p/\(!n->!o->AA (vH g) (O8 g) (sP0 g) z/\(tN4 g w->(q->A6 (0:Int) (len A))/\(r->A6 (1:Int) (len A))/\(s->A6 (2:Int) (len A))/\(!e->AA (RJ a) (V1 a) (tU8 a) t/\(rP0 a h->(d->A6 (1:Int) (len A))/\(d->A6 (0:Int) (len A))/\(!f->AA (L2 b) (RL b) (uT6 b) u/\(rP2 b i->AA (V3 c) (V4 c) (tU9 c) v)))))),cond l (8:Int) (cond n (1:Int) (cond o (3:Int) (cond (ZK g w) (sY2 g w) (cond e (2:Int) k)))))
def pM1 a b c:=(nU0 a b c).1
def H0 a b c:=(nU0 a b c).2
theorem mZ1:SK 142 (DR vI Ah Ap vI pM1 H0):=fb Tryz.func142 181 [kb qL,kb mY9,kb mZ0] [(9,oJ7),(17,pL8),(24,pL9),(29,pM0)]
def lT7 (a b c:Int):Prop×Bool:=
 (True,cond (a≥b) (decide (a<=c)) false)
def L3 a b c:=(lT7 a b c).1
def CQ a b c:=(lT7 a b c).2
theorem mZ2:SK 190 (DR vI vI vI vB L3 CQ):=fb Tryz.func190 15
def lT8 (d:Int):Prop×Int:=
 let b:=d==5
 let a:=cond b b (d==6)
 let c:=d==3
 (True,cond (cond a true (cond c c (d==9))) (cond a (0:Int) (2:Int)) (1:Int))
def nD4 a:=(lT8 a).1
def Fi a:=(lT8 a).2
theorem mZ3:SK 191 (AS vI vI nD4 Fi):=fb Tryz.func191 10
def mZ4 (p:Int)(z:List Int):Prop×Int:=
 let w:=!(CQ p (1:Int) (10:Int))
 let j:=len z !=Fi p
 let k:=p==1
 let l:=p==7
 let a:=cond k k (cond l l (p==8))
 let m:=nth z (0:Int) (0:Int)
 let b:=p==2
 let n:=nth z (0:Int) (0:Int)
 let c:=p==4
 let o:=nth z (0:Int) (0:Int)
 let d:=p==3
 let q:=nth z (0:Int) (0:Int)
 let e:=CQ q (0:Int) (16:Int)
 let r:=nth z (1:Int) (0:Int)
 let f:=p==9
 let s:=nth z (0:Int) (0:Int)
 let g:=CQ s (-16:Int) (16:Int)
 let t:=nth z (1:Int) (0:Int)
 let u:=p==10
 let v:=nth z (0:Int) (0:Int)
 let i:=cond d (cond e (CQ r (0:Int) (262140:Int)) false) (cond f (cond g (CQ t (-16:Int) (16:Int)) false) (cond u (CQ v (1:Int) (16:Int)) true))
 let h:=cond j (1:Int) (cond (!(cond a (CQ m (0:Int) (16:Int)) (cond b (CQ n (0:Int) (7:Int)) (cond c (CQ o (0:Int) (4:Int)) i)))) (2:Int) (0:Int))
 (L3 p (1:Int) (10:Int)/\(!w->nD4 p/\(!j->(a->A6 (0:Int) (len z)/\L3 m (0:Int) (16:Int))/\(a=false->(b->A6 (0:Int) (len z)/\L3 n (0:Int) (7:Int))/\(b=false->(c->A6 (0:Int) (len z)/\L3 o (0:Int) (4:Int))/\(c=false->(d->A6 (0:Int) (len z)/\L3 q (0:Int) (16:Int)/\(e->A6 (1:Int) (len z))/\(e->L3 r (0:Int) (262140:Int)))/\(d=false->(f->A6 (0:Int) (len z)/\L3 s (-16:Int) (16:Int)/\(g->A6 (1:Int) (len z))/\(g->L3 t (-16:Int) (16:Int)))/\(f=false->u->A6 (0:Int) (len z)/\L3 v (1:Int) (16:Int)))))))),cond w (8:Int) h)
def pM2 a b:=(mZ4 a b).1
def f143 a b:=(mZ4 a b).2
theorem mZ5:SK 143 (BD vI Ah vI pM2 f143):=fb Tryz.func143 67 [kb mZ2,kb mZ3]
abbrev uE6:Type:=(Jd×Int×Unit)
def ZN (y:uE6)(x:AF):Vm AF:=
 let c:=y.1
 let a:=x.1
 let b:Bool:=a<y.2.1
 let e:Bool:=(nth c.2.2.2.1 a A1).1<(-1048576)
 let f:=cond e true ((nth c.2.2.2.1 a A1).1>1048576)
 let g:=cond f true ((nth c.2.2.2.1 a A1).2.1<(-1048576))
 let d:=cond g true ((nth c.2.2.2.1 a A1).2.1>1048576)
 (b->A6 a (len c.2.2.2.1)/\(!e->A6 a (len c.2.2.2.1))/\(!f->A6 a (len c.2.2.2.1))/\(!g->A6 a (len c.2.2.2.1))/\(!d->A5 (a+1)),b&&(!d),(a+1,()),b&&d,!b)
def sP1 y x:=(ZN y x).1
def ZO y x:=(ZN y x).2.1
def ZP y x:=(ZN y x).2.2.1
def sP2 y x:=(ZN y x).2.2.2.1
def oJ8 y x:=(ZN y x).2.2.2.2
def sY3 (y:uE6)(x:AF):Int:=
 (2:Int)
def oJ9:=li [(1,(.box SU Da)),(45,vI)] [(46,vI)] ZO ZP sP1 (λy x=>[ex 1 (some (sP2 y x)) [(2,vI)] ((sY3 y x),()),ex 2 (some (oJ8 y x)) [] ()]) [[(2,vI)],[]]
def lT9 (f:Jd):Prop×Int:=
 let b:=cond (cond (cond (cond (cond (f.1<2) true (f.1>8)) true (f.2.1<2)) true (f.2.1>8)) true (f.2.2.1<1)) true (f.2.2.1>256)
 let c:=cond b true (len f.2.2.2.1!=(f.1*f.2.1))
 let a:=(f,len f.2.2.2.1,())
 let e:=((0:Int),())
 let d:=A3 (ZO a) (ZP a) e
 ((!b->A5 (f.1*f.2.1))/\(!c->AA (ZO a) (ZP a) (sP1 a) e),cond c (15:Int) (cond (sP2 a d) (sY3 a d) (0:Int)))
def qN6 a:=(lT9 a).1
def K9 a:=(lT9 a).2
theorem mZ6:SK 144 (AS Da vI qN6 K9):=fb Tryz.func144 84 [] [(4,oJ9)]
end Go.Proofs.YtgjdonlgingdeaaGreatDoor.Am
