/- Printed by program, part 5. No condition. -/
import Derived.Test.YtadggmnllfgjcaaGreatDoorDckP4
set_option linter.unusedVariables false
set_option synthInstance.maxSize 4000
set_option synthInstance.maxHeartbeats 400000
namespace Go.Proofs.YtadggmnllfgjcaaGreatDoor.Am
open Go Go.Am Go.Proofs
open Go.IntKind (wrap)
open _root_.Int (sub tmod toNat)
open _root_.List (length take)
def kL4 (f g:A0)(h:Int):Prop×A0:=
 let b:=wrap .i64 (16*wrap .i64 (g.1-f.1))
 let c:=wrap .i64 (16*wrap .i64 (g.2.1-f.2.1))
 let a:=Fm b c
 let d:=wrap .i64 (wrap .i64 ((-8)*h)*wrap .i64 (g.2.1-f.2.1))
 let e:=wrap .i64 (wrap .i64 (8*h)*wrap .i64 (g.1-f.1))
 (rU5 b c/\IP d a/\IP e a,(B5 d a,B5 e a,()))
def sA4 a b c:=(kL4 a b c).1
def f261 a b c:=(kL4 a b c).2
theorem nN0:SK 261 (DZ Au Au vI Au sA4 f261):=fb Tryz.func261 42 [kb vL7,kb pV7] [] [] true
def kL5 (a b:A0)(c:Int):Prop×A0:=
 (True,(wrap .i64 (a.1+wrap .i64 (c*b.1)),wrap .i64 (a.2.1+wrap .i64 (c*b.2.1)),()))
def Np a b c:=(kL5 a b c).1
def AY a b c:=(kL5 a b c).2
theorem nN1:SK 263 (DZ Au Au vI Au Np AY):=fb Tryz.func263 22 [] [] [] true
def kL6 (f g:A0)(h:Int):Prop×A0:=
 let b:=wrap .i64 (16*wrap .i64 (g.1-f.1))
 let c:=wrap .i64 (16*wrap .i64 (g.2.1-f.2.1))
 let a:=Fm b c
 let d:=wrap .i64 (wrap .i64 (8*h)*wrap .i64 (g.1-f.1))
 let e:=wrap .i64 (wrap .i64 (8*h)*wrap .i64 (g.2.1-f.2.1))
 (rU5 b c/\IP d a/\IP e a,(B5 d a,B5 e a,()))
def N8 a b c:=(kL6 a b c).1
def f266 a b c:=(kL6 a b c).2
theorem lQ0:SK 266 (DZ Au Au vI Au N8 f266):=fb Tryz.func266 42 [kb vL7,kb pV7] [] [] true
def qU2 (y:Zl)(x:Zj):Vn Zj:=
 let i:=y.1
 let b:=x.1
 let c:=x.2.1
 let d:Bool:=c<y.2.2.1
 let a:=len b==0
 let e:=len b
 let f:=e-1
 let g:=cond a true (!(Ty.eqb AL (nth b f A1) (nth i c A1)))
 let h:=([nth i c A1]:List A0)
 (d->(!a->A5 (e-1))/\(!a->A6 f (len b))/\(!a->A6 c (len i))/\(g->A6 c (len i)/\((length b+length h:Nat):Int)<=4294967296)/\A5 (c+1),d,(cond g (b++h) b,c+1,()))
def sV1 y x:=(qU2 y x).1
def fF y x:=(qU2 y x).2.1
def vR0 y x:=(qU2 y x).2.2
def rD6 (y:Zl)(x:Zj):(List A0):=
 x.1
def qJ9:List (Nat×Sh):=[(1,vB),(5,Br)]
def WL:=li [(0,Bc),(1,vB),(8,vI)] [(5,Br),(9,vI)] fF vR0 sV1 (λy x=>[ex 2 none qJ9 (y.2.1,(rD6 y x),())]) [qJ9]
def qU3 (y:OP)(x:YF):Vn YF:=
 let a:=x.1
 let b:=cond (!y.1) (decide (len a>1)) false
 let d:=len a
 let e:=d-1
 let f:=cond b (Ty.eqb AL (nth a e A1) (nth a 0 A1)) false
 let g:=len a
 let c:=g-1
 ((b->A5 (d-1))/\(b->A6 e (len a))/\(b->A6 0 (len a))/\(f->A5 (g-1)/\0<=c/\c<=len a),f,(take (toNat c) a,()))
def qK y x:=(qU3 y x).1
def sK3 y x:=(qU3 y x).2.1
def uM1 y x:=(qU3 y x).2.2
def rD7 (y:OP)(x:YF):(List A0):=
 x.1
def oW1:=li [(1,vB)] [(5,Bc)] sK3 uM1 qK (λy x=>[ex 4 none [(5,Bc)] ((rD7 y x),())]) [[(5,Bc)]]
def kL7 (e:List A0)(f:Bool):Prop×(List A0):=
 let a:=(e,f,len e,())
 let c:=(([]:List A0),(0:Int),())
 let b:=(f,())
 let d:=(rD6 a (A3 (fF a) (vR0 a) c),())
 (AB (fF a) (vR0 a) (sV1 a) c/\AB (sK3 b) (uM1 b) (qK b) d,rD7 b (A3 (sK3 b) (uM1 b) d))
def qU4 a b:=(kL7 a b).1
def F4 a b:=(kL7 a b).2
theorem lQ1:SK 228 (BC Bc vB Bc qU4 F4):=fb Tryz.func228 61 [] [(3,WL),(8,oW1)] [(13,[(4,0,34,1005)])]
def qU5 (y:QY)(x:Y0):Vn Y0:=
 let b:=y.1
 let a:=x.2.1
 let c:Bool:=a<y.2.1
 (c->A6 a (len b),c,(wrap .i64 (x.1+len (nth b a [])),wrap .i64 (a+1),()))
def sV2 y x:=(qU5 y x).1
def fE y x:=(qU5 y x).2.1
def vD0 y x:=(qU5 y x).2.2
def rD8 (y:QY)(x:Y0):Int:=
 x.1
def WQ:=li [(0,Al),(6,vI)] [(3,vI),(7,vI)] fE vD0 sV2 (λy x=>[ex 2 none [(3,vI)] ((rD8 y x),())]) [[(3,vI)]]
def kL8 (c:(List (List A0))):Prop×Int:=
 let a:=(c,len c,())
 let b:=((0:Int),(0:Int),())
 (AB (fE a) (vD0 a) (sV2 a) b,rD8 a (A3 (fE a) (vD0 a) b))
def qU6 a:=(kL8 a).1
def f229 a:=(kL8 a).2
theorem lQ2:SK 229 (AR Al vI qU6 f229):=fb Tryz.func229 19 [] [(3,WQ)] [] true
abbrev Pt:Type:=((List (List A0))×(List A0)×Unit)
def sA5 (y:Pt)(x:Zj):Vn Zj:=
 let d:=y.2.1
 let e:=x.1
 let a:=x.2.1
 let b:Bool:=a≥0
 let c:=([nth d a A1]:List A0)
 (b->A6 a (len d)/\((length e+length c:Nat):Int)<=4294967296/\A5 (a-1),b,(e++c,a-1,()))
def vV y x:=(sA5 y x).1
def Nl y x:=(sA5 y x).2.1
def KZ y x:=(sA5 y x).2.2
def fS (y:Pt)(x:Zj):(List A0):=
 x.1
def sK4:List (Nat×Sh):=[(0,Bj),(6,Ck)]
def qU7:=li [(0,Bj),(1,Bc)] [(6,Ck),(7,vI)] Nl KZ vV (λy x=>[ex 2 none sK4 (y.1,(fS y x),())]) [sK4]
def oE1 (i:(List (List A0)))(j:List A0):Prop×(List (List A0)):=
 let g:=GL j
 let c:=g==0
 let a:Bool:=g<0
 let d:=len j
 let b:=(i,j,())
 let h:=(([]:List A0),d-1,())
 let f:=cond a i i
 let e:=([cond a (fS b (A3 (Nl b) (KZ b) h)) j]:List (List A0))
 (pV5 j/\(!c->(a->A5 (d-1)/\AB (Nl b) (KZ b) (vV b) h)/\((length f+length e:Nat):Int)<=4294967296),cond c i (f++e))
def QC a b:=(oE1 a b).1
def CX a b:=(oE1 a b).2
theorem Wq:SK 262 (BC Bj Bc Az QC CX):=fb Tryz.func262 34 [kb lO9] [(7,qU7)] [(7,[(4,0,400000,0)]),(19,[(4,0,28,1006)]),(21,[(4,0,1006,400100)]),(23,[(4,0,33,0)])]
def oE2 (f:(List (List A0)))(g:A0)(h i:Int):Prop×(List (List A0)):=
 let b:=i==1
 let c:=Et g h
 let d:=i==2
 let a:=B5 h 2
 let e:=([(wrap .i64 (g.1-a),wrap .i64 (g.2.1-a),()),(wrap .i64 (g.1+a),wrap .i64 (g.2.1-a),()),(wrap .i64 (g.1+a),wrap .i64 (g.2.1+a),()),(wrap .i64 (g.1-a),wrap .i64 (g.2.1+a),())]:List A0)
 ((b->sV0 g h/\QC f c)/\(!b->d->IP h 2/\QC f e),cond b (CX f c) (cond d (CX f e) f))
def sV4 a b c d:=(oE2 a b c d).1
def uX8 a b c d:=(oE2 a b c d).2
theorem oW3:SK 260 (H4 Bj Au vI vI Az sV4 uX8):=fx (λc=>{ c with wants:=[(262,[0])] }) Tryz.func260 61 [kb vL7,kb Wq,kb S9] [] [(5,[(4,0,16,0)]),(11,[(4,0,59,0)]),(13,[(4,0,400000,0)])] true
def oE3 (p:(List (List A0)))(u v w:A0)(z A:Int):Prop×(List (List A0)):=
 let m:=A==1
 let n:=Et v z
 let a:=f261 u v z
 let b:=f261 v w z
 let o:=([v,AY v a 1,AY v b 1]:List A0)
 let q:=CX p o
 let r:=([v,AY v a (-1:Int),AY v b (-1:Int)]:List A0)
 let g:=CX q r
 let t:=wrap .i64 (wrap .i64 (wrap .i64 (v.1-u.1)*wrap .i64 (w.2.1-v.2.1))-(wrap .i64 (wrap .i64 (v.2.1-u.2.1)*wrap .i64 (w.1-v.1))))
 let f:=wrap .i64 (wrap .i64 (z*z)+wrap .i64 (4*wrap .i64 (wrap .i64 (a.1*b.1)+wrap .i64 (a.2.1*b.2.1))))
 let h:=cond (cond (A !=0) true (t==0)) true (f<=0)
 let i:=wrap .i64 (wrap .i64 (z*z)*wrap .i64 (a.1+b.1))
 let d:=B5 i f
 let j:=wrap .i64 (wrap .i64 (z*z)*wrap .i64 (a.2.1+b.2.1))
 let e:=B5 j f
 let s:=(d,e,())
 let k:Bool:=Fm d e>wrap .i64 (4*z)
 let c:=cond (t>0) (-1:Int) 1
 let l:=([v,AY v a c,AY v s c,AY v b c]:List A0)
 ((m->sV0 v z/\QC p n)/\(!m->sA4 u v z/\sA4 v w z/\Np v a 1/\Np v b 1/\QC p o/\Np v a (-1:Int)/\Np v b (-1:Int)/\QC q r/\(!h->IP i f/\IP j f/\rU5 d e/\(!k->Np v a c/\Np v s c/\Np v b c/\QC g l))),cond m (CX p n) (cond h g (cond k g (CX g l))))
def Wx a b c d e f:=(oE3 a b c d e f).1
def Wy a b c d e f:=(oE3 a b c d e f).2
theorem oW4:SK 264 (sp6 Bj Au Au Au vI vI Az Wx Wy):=fx (λc=>{ c with wants:=[(262,[0])] }) Tryz.func264 154 [kb vL7,kb nN0,kb Wq,kb nN1,kb S9,kb pV7] [] [(5,[(4,0,25,0)]),(9,[(4,0,43,400000)]),(11,[(4,0,53,400000)]),(19,[(4,0,400000,0)]),(25,[(4,0,400000,0)]),(33,[(4,0,153,0)])] true
abbrev Nt:Type:=((List A0)×Bool×Int×Int×Int×Int×Int×Unit)
def P7 (y:Nt)(x:QY):Vn QY:=
 let i:=y.1
 let k:=y.2.2.1
 let e:=(Q1 y).1
 let j:=x.1
 let b:=x.2.1
 let f:Bool:=b<(Q2 y).1
 let c:=nth i b A1
 let g:=tmod (b+1) e
 let d:=nth i g A1
 let a:=f261 c d k
 let h:=([AY c a 1,AY d a 1,AY d a (-1:Int),AY c a (-1:Int)]:List A0)
 (f->A6 b (len i)/\A5 (b+1)/\e≠0/\A6 g (len i)/\sA4 c d k/\Np c a 1/\Np d a 1/\Np d a (-1:Int)/\Np c a (-1:Int)/\QC j h/\A5 (b+1),f,(CX j h,b+1,()))
def Yk y x:=(P7 y x).1
def Ka y x:=(P7 y x).2.1
def JY y x:=(P7 y x).2.2
def LO (y:Nt)(x:QY):(List (List A0)):=
 x.1
def RF:List (Nat×Sh):=[(0,Bj),(1,Bc),(2,vB),(3,vI),(4,vI),(5,vI),(13,vI)]
def qD5:=li [(1,Bc),(2,vB),(3,vI),(4,vI),(5,vI),(13,vI),(14,vI)] [(0,Bj),(15,vI)] Ka JY Yk (λy x=>[ex 2 none RF ((LO y x),y.1,y.2.1,y.2.2.1,y.2.2.2.1,y.2.2.2.2.1,(Q1 y).1,())]) [RF]
abbrev vH4:Type:=((List A0)×Bool×Int×Int×Int×Int×Unit)
def jW (y:vH4)(x:QY):Vn QY:=
 let h:=y.1
 let o:=y.2.2.1
 let q:=y.2.2.2.1
 let b:=(Q1 y).1
 let n:=x.1
 let a:=x.2.1
 let i:Bool:=a<b
 let j:=!y.2.1
 let k:Bool:=a>0
 let l:=cond j true (cond k (decide (a<(b-1))) false)
 let m:=a+b
 let c:=tmod (m-1) b
 let d:=nth h c A1
 let e:=nth h a A1
 let f:=tmod (a+1) b
 let g:=nth h f A1
 (i->(((!j)&&k)->A5 (b-1))/\(l->A5 (a+b)/\A5 (m-1)/\b≠0/\A6 c (len h)/\A6 a (len h)/\A5 (a+1)/\b≠0/\A6 f (len h)/\Wx n d e g o q)/\A5 (a+1),i,(cond l (Wy n d e g o q) n,a+1,()))
def Mc y x:=(jW y x).1
def Lk y x:=(jW y x).2.1
def Lb y x:=(jW y x).2.2
def Rn (y:vH4)(x:QY):(List (List A0)):=
 x.1
def RH:List (Nat×Sh):=[(0,Bj),(1,Bc),(2,vB),(3,vI),(5,vI),(13,vI)]
def qD6:=li [(1,Bc),(2,vB),(3,vI),(4,vI),(5,vI),(13,vI)] [(0,Bj),(19,vI)] Lk Lb Mc (λy x=>[ex 4 none RH ((Rn y x),y.1,y.2.1,y.2.2.1,y.2.2.2.2.1,(Q1 y).1,())]) [RH]
def oE4 (p:(List (List A0)))(D:List A0)(G:Bool)(I S T:Int):Prop×(List (List A0)):=
 let d:=len D
 let N:=d==0
 let M:=d==1
 let O:=nth D 0 A1
 let i:=(D,G,I,S,T,d,cond G (d-1) d,())
 let Q:=(p,(0:Int),())
 let j:=(D,G,I,S,T,d,())
 let R:=(LO i (A3 (Ka i) (JY i) Q),(0:Int),())
 let c:=Rn j (A3 (Lk j) (Lb j) R)
 let l:=cond (!G) true (T==0)
 let k:=T==1
 let m:=nth D 0 A1
 let n:=Et m I
 let o:=CX c n
 let q:=d-1
 let r:=nth D q A1
 let s:=Et r I
 let a:=nth D 0 A1
 let t:=d-1
 let b:=nth D t A1
 let u:=nth D 1 A1
 let e:=f261 a u I
 let v:=nth D 1 A1
 let g:=f266 a v I
 let w:=AY a g (-1:Int)
 let z:=AY a g (-1:Int)
 let A:=([AY w e 1,AY a e 1,AY a e (-1:Int),AY z e (-1:Int)]:List A0)
 let B:=CX c A
 let C:=d-2
 let E:=nth D C A1
 let f:=f261 E b I
 let F:=d-2
 let H:=nth D F A1
 let h:=f266 H b I
 let J:=AY b h 1
 let K:=AY b h 1
 let L:=([AY b f 1,AY J f 1,AY K f (-1:Int),AY b f (-1:Int)]:List A0)
 ((!N)->(M->A6 0 (len D)/\sV4 p O I T)/\((!M)->(G->A5 (d-1))/\AB (Ka i) (JY i) (Yk i) Q/\AB (Lk j) (Lb j) (Mc j) R/\(!l->(k->A6 0 (len D)/\sV0 m I/\QC c n/\A5 (d-1)/\A6 q (len D)/\sV0 r I/\QC o s)/\(!k->A6 0 (len D)/\A5 (d-1)/\A6 t (len D)/\A6 1 (len D)/\sA4 a u I/\A6 1 (len D)/\N8 a v I/\Np a g (-1:Int)/\Np w e 1/\Np a e 1/\Np a e (-1:Int)/\Np a g (-1:Int)/\Np z e (-1:Int)/\QC c A/\A5 (d-2)/\A6 C (len D)/\sA4 E b I/\A5 (d-2)/\A6 F (len D)/\N8 H b I/\Np b f 1/\Np b h 1/\Np J f 1/\Np b h 1/\Np K f (-1:Int)/\Np b f (-1:Int)/\QC B L))),cond N p (cond M (uX8 p O I T) (cond l c (cond k (CX o s) (CX B L)))))
def Hm a b c d e f:=(oE4 a b c d e f).1
def Sg a b c d e f:=(oE4 a b c d e f).2
theorem oW5:SK 227 (sp6 Bj Bc vB vI vI vI Az Hm Sg):=fx (λc=>{ c with wants:=[(260,[0]),(262,[0]),(264,[0])] }) Tryz.func227 216 [kb oW3,kb nN0,kb Wq,kb nN1,kb oW4,kb S9,kb lQ0] [(10,qD5),(16,qD6)] [(7,[(4,0,400000,0)]),(11,[(4,0,37,0)]),(29,[(4,0,76,400000)]),(39,[(4,0,117,400000)]),(43,[(4,0,400000,0)]),(47,[(4,0,141,0)]),(53,[(4,0,180,400000)]),(57,[(4,0,215,0)])]
abbrev Wf:Type:=((List (List A0))×(List Bool)×Int×Int×Int×Int×Unit)
def uG6 (y:Wf)(x:QY):Vm QY:=
 let k:=y.1
 let j:=y.2.1
 let l:=y.2.2.1
 let m:=y.2.2.2.1
 let n:=y.2.2.2.2.1
 let e:=x.1
 let a:=x.2.1
 let b:Bool:=a<(Q1 y).1
 let f:=nth k a []
 let g:=nth j a false
 let h:=F4 f g
 let i:=nth j a false
 let c:=Sg e h i l m n
 let d:Bool:=f229 c>4096
 (b->A6 a (len k)/\A6 a (len j)/\qU4 f g/\A6 a (len j)/\Hm e h i l m n/\qU6 c/\(!d->A5 (a+1)),b&&(!d),(c,a+1,()),b&&d,!b)
def sA6 y x:=(uG6 y x).1
def vD1 y x:=(uG6 y x).2.1
def LX y x:=(uG6 y x).2.2.1
def TR y x:=(uG6 y x).2.2.2.1
def pV8 y x:=(uG6 y x).2.2.2.2
def sK5 (y:Wf)(x:QY):(List (List A0)):=
 []
def sK6 (y:Wf)(x:QY):Int:=
 3
def rU6:List (Nat×Sh):=[(10,Az),(11,vI)]
def sK7 (y:Wf)(x:QY):(List (List A0)):=
 x.1
def cU:List (Nat×Sh):=[(13,(.own Af 1013 false))]
def pV9:=li [(0,Al),(1,Ee),(2,vI),(3,vI),(4,vI),(33,vI)] [(13,(.own Af 1013 false)),(34,vI)] vD1 LX sA6 (λy x=>[ex 1 (some (TR y x)) rU6 ((sK5 y x),(sK6 y x),()),ex 2 (some (pV8 y x)) cU ((sK7 y x),())]) [rU6,cU]
def kL9 (j:(List (List A0)))(k:List Bool)(l m n:Int):Prop×((List (List A0))×Int×Unit):=
 let g:=Jc l m n
 let d:=g !=0
 let h:=E8 j 0
 let e:=h !=0
 let f:=len k !=len j
 let a:=(j,k,l,m,n,len j,())
 let i:=(([]:List (List A0)),(0:Int),())
 let c:=A3 (vD1 a) (LX a) i
 let b:=TR a c
 (nM7 l m n/\(!d->cK j 0/\(!e->!f->AB (vD1 a) (LX a) (sA6 a) i)),(cond d [] (cond e [] (cond f [] (cond b (sK5 a c) (sK7 a c)))),cond d g (cond e h (cond f 15 (cond b (sK6 a c) 0))),()))
def NC a b c d e:=(kL9 a b c d e).1
def HR a b c d e:=(kL9 a b c d e).2
theorem lQ3:SK 194 (sp5 Al Ee vI vI vI (.tup (.cons Az (.cons vI .nl))) NC HR):=fx (λc=>{ c with wants:=[(227,[0])] }) Tryz.func194 60 [kb pV4,kb lO8,kb oW5,kb lQ1,kb lQ2] [(11,pV9)] [(27,[(4,0,54,1013)]),(35,[(4,0,1013,0)])]
def kM (o:AD):Prop×Int:=
 let a:=El (Q8 o).1 (Q3 o).1
 let h:=a.2.1 !=0
 let i:=cond ((Qi o).1 !=0) ((Qi o).1 !=1) false
 let b:=DD a.1
 let f:=(Qd o).1==0
 let c:=cond ((Qg o).1 !=0) true ((Qh o).1 !=0)
 let j:=E8 b.1 (Qi o).1
 let d:=j !=0
 let k:=HQ a.1
 let e:=HR b.1 k.1 (Qd o).1 (Qg o).1 (Qh o).1
 let l:=e.2.1 !=0
 let m:=E8 e.1 0
 let n:=m !=0
 let g:=cond ((c||((!c)&&(d||(!d))))&&f) (cond c 1 (cond d j (f157 (Q9 o).1))) (cond l e.2.1 (cond n m (f157 (Q9 o).1)))
 (qT4 (Q8 o).1 (Q3 o).1/\(!h->!i->rT9 a.1/\(f->!c->cK b.1 (Qi o).1/\(!d->tK (Q9 o).1))/\(!f->qT8 a.1/\NC b.1 k.1 (Qd o).1 (Qg o).1 (Qh o).1/\(!l->cK e.1 0/\(!n->tK (Q9 o).1)))),cond h a.2.1 (cond i 8 g))
def pW a:=(kM a).1
def Le a:=(kM a).2
theorem lQ4:SK 159 (AR Bg vI pW Le):=fb Tryz.func159 85 [kb pU5,kb lO3,kb nM5,kb pV4,kb lO7,kb lQ3] [] [(3,[(4,0,17,1003)]),(31,[(4,0,71,1010)])]
def tT3 (y:OK)(x:CW):Vm CW:=
 let f:=y.1
 let g:=y.2.1
 let d:=x.1
 let e:=nth f g Z116
 let b:Bool:=d<B8 e.1
 let a:=nth (nth f g Z116).2.1 d A1
 let c:Bool:=GW (GW (GW a.1 (sub 0 a.1)) a.2.1) (sub 0 a.2.1)>65536
 (A6 g (len f)/\Ic e.1/\(b->A6 g (len f)/\A6 d 3/\A5 (sub 0 a.1)/\A5 (sub 0 a.2.1)/\(!c->A5 (d+1))),b&&(!c),(d+1,()),b&&c,!b)
def qK0 y x:=(tT3 y x).1
def We y x:=(tT3 y x).2.1
def vD2 y x:=(tT3 y x).2.2.1
def W2 y x:=(tT3 y x).2.2.2.1
def sV8 y x:=(tT3 y x).2.2.2.2
def rD9 (y:OK)(x:CW):Bool:=
 false
def qK1:List (Nat×Sh):=[(0,Ak),(3,vI)]
def oW6:=li [(0,Ak),(3,vI)] [(4,vI)] We vD2 qK0 (λy x=>[ex 1 (some (W2 y x)) [(2,vB)] ((rD9 y x),()),ex 4 (some (sV8 y x)) qK1 (y.1,y.2.1,())]) [[(2,vB)],qK1]
def uM2 (y:uF6)(x:CW):Vm CW:=
 let e:=y.1
 let c:=x.1
 let d:Bool:=c<len e
 let b:=(e,c,())
 let g:=((0:Int),())
 let f:=A3 (We b) (vD2 b) g
 let a:=sV8 b f
 (d->AB (We b) (vD2 b) (qK0 b) g/\(a->A5 (c+1)),d&&a,(c+1,()),d&&W2 b f,!d)
def qK2 y x:=(uM2 y x).1
def OA y x:=(uM2 y x).2.1
def Lj y x:=(uM2 y x).2.2.1
def uR y x:=(uM2 y x).2.2.2.1
def oW7 y x:=(uM2 y x).2.2.2.2
def uM3 (y:uF6)(x:CW):Bool:=
 let a:=(y.1,x.1,())
 (rD9 a (A3 (We a) (vD2 a) (0,())))
def oW8:=li [(0,Ak)] [(3,vI)] OA Lj qK2 (λy x=>[ex 1 (some (uR y x)) [(2,vB)] ((uM3 y x),()),ex 2 (some (oW7 y x)) [] ()]) [[(2,vB)],[]]
def kM0 (d:List A8):Prop×Bool:=
 let a:=(d,())
 let c:=((0:Int),())
 let b:=A3 (OA a) (Lj a) c
 (AB (OA a) (Lj a) (qK2 a) c,cond (uR a b) (uM3 a b) true)
def pW0 a:=(kM0 a).1
def Lg a:=(kM0 a).2
theorem lQ5:SK 289 (AR Ak vB pW0 Lg):=fb Tryz.func289 41 [kb cG] [(2,oW8),(5,oW6)]
abbrev uH:Type:=(A7×Unit)
def uM4 (y:uH)(x:CW):Vm CW:=
 let h:=y.1
 let f:=x.1
 let b:Bool:=f<len h.2.2.2.1
 let a:=nth h.2.2.2.1 f BI
 let g:Bool:=f>0
 let j:=f-1
 let c:=cond g (decide (a.1<=(nth h.2.2.2.1 j BI).1)) false
 let d:=cond (a.2.1<0) true (a.2.1>65536)
 let e:=CI a.2.2.1!=0
 let k:=!(Lg a.2.2.1)
 let i:=(!c)&&((!d)&&((!e)&&(!k)))
 (b->A6 f (len h.2.2.2.1)/\(g->A5 (f-1))/\(g->A6 j (len h.2.2.2.1))/\(!c->!d->Wb a.2.2.1/\(!e->pW0 a.2.2.1))/\(i->A5 (f+1)),b&&i,(f+1,()),b&&(c||((!c)&&(d||((!d)&&(e||((!e)&&k)))))),!b)
def qK3 y x:=(uM4 y x).1
def FJ y x:=(uM4 y x).2.1
def P2 y x:=(uM4 y x).2.2.1
def tT4 y x:=(uM4 y x).2.2.2.1
def qK4 y x:=(uM4 y x).2.2.2.2
def P3 (y:uH)(x:CW):Int:=
 let e:=y.1
 let d:=x.1
 let a:=nth e.2.2.2.1 d BI
 let c:=CI a.2.2.1
 let b:=cond (cond (d>0) (decide (a.1<=(nth e.2.2.2.1 (d-1) BI).1)) false) 24 (cond (cond (a.2.1<0) true (a.2.1>65536)) 2 (cond (c !=0) c 2))
 b
def oW9:=li [(1,Aj)] [(3,vI)] FJ P2 qK3 (λy x=>[ex 1 (some (tT4 y x)) [(2,vI)] ((P3 y x),()),ex 2 (some (qK4 y x)) [(1,Aj)] (y.1,())]) [[(2,vI)],[(1,Aj)]]
def Pv (y:uH)(x:CW):Vm CW:=
 let i:=y.1
 let e:=x.1
 let d:Bool:=e<len i.2.2.2.2.1
 let a:=nth i.2.2.2.2.1 e BX
 let b:Bool:=e>0
 let f:=e-1
 let c:=nth i.2.2.2.2.1 f BX
 let g:=cond (a.1<c.1) true (cond (a.1==c.1) (decide (a.2.1<=c.2.1)) false)
 let j:=cond b (!g) true
 let h:=cond (a.2.2.1<(-65536)) true (a.2.2.1>65536)
 let k:=j&&(!h)
 (d->A6 e (len i.2.2.2.2.1)/\(b->A5 (e-1)/\A6 f (len i.2.2.2.2.1))/\(k->A5 (e+1)),d&&k,(e+1,()),d&&((g&&b)||(j&&h)),!d)
def cY y x:=(Pv y x).1
def vZ y x:=(Pv y x).2.1
def Ny y x:=(Pv y x).2.2.1
def uX9 y x:=(Pv y x).2.2.2.1
def pW1 y x:=(Pv y x).2.2.2.2
def vV1 (y:uH)(x:CW):Int:=
 let d:=y.1
 let c:=x.1
 let a:=nth d.2.2.2.2.1 c BX
 let b:=nth d.2.2.2.2.1 (c-1) BX
 (cond ((cond (a.1<b.1) true (cond (a.1==b.1) (decide (a.2.1<=b.2.1)) false))&&(c>0)) (24:Int) 2)
def pW2:=li [(1,Aj)] [(6,vI)] vZ Ny cY (λy x=>[ex 1 (some (uX9 y x)) [(2,vI)] ((vV1 y x),()),ex 4 (some (pW1 y x)) [] ()]) [[(2,vI)],[]]
def kM1 (i:A7):Prop×Int:=
 let d:=cond (cond (cond (cond (cond (i.1<1) true (i.1>65536)) true (i.2.1<0)) true (i.2.1>65536)) true (i.2.2.1<0)) true (i.2.2.1>65536)
 let e:=cond (len i.2.2.2.1>256) true (len i.2.2.2.2.1>256)
 let b:=(i,())
 let h:=((0:Int),())
 let g:=A3 (FJ b) (P2 b) h
 let a:=(i,())
 let f:=((0:Int),())
 let c:=A3 (vZ a) (Ny a) f
 (!d->!e->AB (FJ b) (P2 b) (qK3 b) h/\(qK4 b g->AB (vZ a) (Ny a) (cY a) f),cond d 2 (cond e 3 (cond (tT4 b g) (P3 b g) (cond (uX9 a c) (vV1 a c) 0))))
def qU9 a:=(kM1 a).1
def f267 a:=(kM1 a).2
theorem nN2:SK 267 (AR Bo vI qU9 f267):=fb Tryz.func267 138 [kb qT3,kb lQ5] [(6,oW9),(19,pW2)]
abbrev uH0:Type:=((List (List UInt8))×Int×Int×Unit)
def rJ0 (y:uA)(x:uH0):Vn uH0:=
 let c:=y.1
 let h:=x.1
 let g:=x.2.1
 let a:=x.2.2.1
 let d:Bool:=a<=len c
 let e:=a==len c
 let b:=cond e true (BU c a==y.2.1)
 let f:=([List.drop (toNat g) (take (toNat a) c)]:List (List UInt8))
 (d->(!e->A6 a (len c))/\(b->(0<=g/\g<=a/\a<=len c)/\((length h+length f:Nat):Int)<=4294967296/\A5 (a+1))/\A5 (a+1),d,(cond b (h++f) h,cond b (a+1) g,a+1,()))
def qK5 y x:=(rJ0 y x).1
def cL y x:=(rJ0 y x).2.1
def wN6 y x:=(rJ0 y x).2.2
def rE (y:uA)(x:uH0):(List (List UInt8)):=
 x.1
def oX:=li [(0,vS),(1,Bf)] [(5,Dp),(6,vI),(7,vI)] cL wN6 qK5 (λy x=>[ex 2 none [(5,Dp)] ((rE y x),())]) [[(5,Dp)]]
def kM2 (c:List UInt8)(d:Int):Prop×(List (List UInt8)):=
 let a:=(c,d,())
 let b:=(([]:List (List UInt8)),(0:Int),(0:Int),())
 (AB (cL a) (wN6 a) (qK5 a) b,rE a (A3 (cL a) (wN6 a) b))
def rU9 a b:=(kM2 a b).1
def GM a b:=(kM2 a b).2
theorem lQ6:SK 268 (BC vS Bf Dy rU9 GM):=fb Tryz.func268 36 [] [(4,oX)] [(3,[(4,0,8,1005)]),(15,[(4,0,32,1005)]),(19,[(4,0,1005,0)])]
abbrev GU:Type:=(Int×A7×Unit)
def uY (y:GU)(x:Y0):Vm Y0:=
 let d:=y.2.1
 let c:=x.2.1
 let a:Bool:=c<len d.2.2.2.1
 let b:=(nth d.2.2.2.1 c BI).1==y.1
 (a->A6 c (len d.2.2.2.1)/\(!b->A6 c (len d.2.2.2.1))/\(!b->A5 (c+1)),a&&(!b),(cond ((nth d.2.2.2.1 c BI).1==63) c x.1,c+1,()),a&&b,!a)
def qK6 y x:=(uY y x).1
def wZ6 y x:=(uY y x).2.1
def M3 y x:=(uY y x).2.2.1
def Jv y x:=(uY y x).2.2.2.1
def oX0 y x:=(uY y x).2.2.2.2
def rE0 (y:GU)(x:Y0):Int:=
 x.2.1
def rE1 (y:GU)(x:Y0):Int:=
 x.1
def oX1:=li [(1,Bf),(2,Aj)] [(5,vI),(6,vI)] wZ6 M3 qK6 (λy x=>[ex 1 (some (Jv y x)) [(4,vI)] ((rE0 y x),()),ex 2 (some (oX0 y x)) [(5,vI)] ((rE1 y x),())]) [[(4,vI)],[(5,vI)]]
def kM3 (d:A7)(e:Int):Prop×Int:=
 let a:=(e,d,())
 let c:=((-1:Int),(0:Int),())
 let b:=A3 (wZ6 a) (M3 a) c
 (AB (wZ6 a) (M3 a) (qK6 a) c,cond (Jv a b) (rE0 a b) (rE1 a b))
def pW3 a b:=(kM3 a b).1
def Jg a b:=(kM3 a b).2
theorem lQ7:SK 270 (BC Bo Bf vI pW3 Jg):=fb Tryz.func270 32 [] [(3,oX1)]
abbrev jX:Type:=((List UInt8)×A7×Unit)
def qV (y:jX)(x:uT2):Vn uT2:=
 let g:=y.1
 let i:=y.2.1
 let h:=x.1
 let a:=x.2.1
 let b:=cond (a<len g) (decide (a<128)) false
 let c:=BU g a
 let d:=Jg i c
 let e:Bool:=d≥0
 let f:=([d]:List Int)
 (b->A6 a (len g)/\pW3 i c/\(e->((length h+length f:Nat):Int)<=4294967296)/\A5 (a+1),b,(cond e (h++f) h,a+1,()))
def qK7 y x:=(qV y x).1
def c7 y x:=(qV y x).2.1
def vR5 y x:=(qV y x).2.2
def L0 (y:jX)(x:uT2):(List Int):=
 x.1
def qK8:List (Nat×Sh):=[(5,Ci)]
def oX2:=li [(1,vS),(2,Aj)] [(5,Ci),(6,vI)] c7 vR5 qK7 (λy x=>[ex 2 none qK8 ((L0 y x),())]) [qK8]
def kM4 (c:A7)(d:List UInt8):Prop×(List Int):=
 let a:=(d,c,())
 let b:=(([]:List Int),(0:Int),())
 (AB (c7 a) (vR5 a) (qK7 a) b,L0 a (A3 (c7 a) (vR5 a) b))
def qV0 a b:=(kM4 a b).1
def AV a b:=(kM4 a b).2
theorem nN3:SK 231 (BC Bo vS Ce qV0 AV):=fb Tryz.func231 31 [kb lQ7] [(3,oX2)] [(3,[(4,0,8,1005)]),(15,[(4,0,29,1005)]),(17,[(4,0,1005,0)])]
abbrev dJ:Type:=(Int×Int×A7×Unit)
def tT5 (y:dJ)(x:CW):Vm CW:=
 let d:=y.2.2.1
 let c:=x.1
 let a:Bool:=c<len d.2.2.2.2.1
 let e:=(nth d.2.2.2.2.1 c BX).1==y.1
 let b:=cond e ((nth d.2.2.2.2.1 c BX).2.1==y.2.1) false
 (a->A6 c (len d.2.2.2.2.1)/\(e->A6 c (len d.2.2.2.2.1))/\(b->A6 c (len d.2.2.2.2.1))/\(!b->A5 (c+1)),a&&(!b),(c+1,()),a&&b,!a)
def qK9 y x:=(tT5 y x).1
def uH4 y x:=(tT5 y x).2.1
def M5 y x:=(tT5 y x).2.2.1
def tT6 y x:=(tT5 y x).2.2.2.1
def oX3 y x:=(tT5 y x).2.2.2.2
def rE2 (y:dJ)(x:CW):Int:=
 (nth y.2.2.1.2.2.2.2.1 x.1 BX).2.2.1
def oX4:=li [(1,Bf),(2,Bf),(3,Aj)] [(7,vI)] uH4 M5 qK9 (λy x=>[ex 1 (some (tT6 y x)) [(6,vI)] ((rE2 y x),()),ex 2 (some (oX3 y x)) [] ()]) [[(6,vI)],[]]
def kM5 (d:A7)(e f:Int):Prop×Int:=
 let a:=(e,f,d,())
 let c:=((0:Int),())
 let b:=A3 (uH4 a) (M5 a) c
 (AB (uH4 a) (M5 a) (qK9 a) c,cond (tT6 a b) (rE2 a b) 0)
def pW4 a b c:=(kM5 a b c).1
def EX a b c:=(kM5 a b c).2
theorem lQ8:SK 271 (DZ Bo Bf Bf vI pW4 EX):=fb Tryz.func271 39 [] [(2,oX4)]
abbrev uR2:Type:=((List Int)×A7×Unit)
abbrev KQ:Type:=((List Int)×Int×Int×Unit)
def qV1 (y:uR2)(x:KQ):Vn KQ:=
 let c:=y.1
 let b:=y.2.1
 let r:=x.1
 let o:=x.2.1
 let a:=x.2.2.1
 let d:Bool:=a<len c
 let e:Bool:=a>0
 let f:=a-1
 let g:=nth c f 0
 let h:=nth b.2.2.2.1 g BI
 let i:=nth c a 0
 let j:=nth b.2.2.2.1 i BI
 let k:=EX b h.1 j.1
 let q:=cond e (o+k) o
 let l:=([q]:List Int)
 let m:=nth c a 0
 let n:=nth b.2.2.2.1 m BI
 (d->(e->A5 (a-1)/\A6 f (len c)/\A6 g (len b.2.2.2.1)/\A6 a (len c)/\A6 i (len b.2.2.2.1)/\pW4 b h.1 j.1/\A5 (o+k))/\((length r+length l:Nat):Int)<=4294967296/\A6 a (len c)/\A6 m (len b.2.2.2.1)/\A5 (q+n.2.1)/\A5 (a+1),d,(r++l,q+n.2.1,a+1,()))
def qL y x:=(qV1 y x).1
def Pw y x:=(qV1 y x).2.1
def GO y x:=(qV1 y x).2.2
def Kg (y:uR2)(x:KQ):(List Int):=
 x.1
def LM (y:uR2)(x:KQ):Int:=
 x.2.1
def WR:List (Nat×Sh):=[(5,Ci),(6,vI)]
def oX5:=li [(1,Ao),(2,Aj)] [(5,Ci),(6,vI),(7,vI)] Pw GO qL (λy x=>[ex 2 none WR ((Kg y x),(LM y x),())]) [WR]
def kM6 (f:A7)(g:List Int):Prop×(List Int):=
 let b:=(g,f,())
 let e:=(([]:List Int),(0:Int),(0:Int),())
 let d:=A3 (Pw b) (GO b) e
 let a:=Kg b d
 let c:=([LM b d]:List Int)
 (AB (Pw b) (GO b) (qL b) e/\((length a+length c:Nat):Int)<=4294967296,a++c)
def rV a b:=(kM6 a b).1
def BS a b:=(kM6 a b).2
theorem nN4:SK 232 (BC Bo Ao Ce rV BS):=fb Tryz.func232 59 [kb lQ8] [(4,oX5)] [(3,[(4,0,8,1005)]),(17,[(4,0,43,1005)]),(21,[(4,0,58,0)])]
def kM7 (i:A7)(j:List UInt8)(k:Int):Prop×Int:=
 let b:=f267 i !=0
 let c:=AV i j
 let a:=BS i c
 let d:=len a
 let e:=d-1
 let f:=nth a e 0
 let g:=KR k 1 1048576
 let h:=f*g
 (qU9 i/\(!b->qV0 i j/\rV i c/\A5 (d-1)/\A6 e (len a)/\rS9 k 1 1048576/\A5 (f*g)/\IP h i.1),cond b 0 (B5 h i.1))
def WA a b c:=(kM7 a b c).1
def HS a b c:=(kM7 a b c).2
theorem lQ9:SK 269 (DZ Bo vS vI vI WA HS):=fb Tryz.func269 28 [kb vL7,kb qT,kb nN3,kb nN4,kb nN2] [] [(7,[(4,0,15,1007)])]
abbrev Hj:Type:=((List UInt8)×Int×Int×A7×Unit)
def tT7 (y:Hj)(x:CW):Vm CW:=
 let c:=y.1
 let a:=x.1
 let b:Bool:=a<len c
 let d:=BU c a !=10
 let f:Bool:=BU c a<32
 let e:=cond d (cond f true (BU c a>126)) false
 (b->A6 a (len c)/\(d->A6 a (len c))/\((d&&(!f))->A6 a (len c))/\(!e->A5 (a+1)),b&&(!e),(a+1,()),b&&e,!b)
def sW y x:=(tT7 y x).1
def Ho y x:=(tT7 y x).2.1
def wV y x:=(tT7 y x).2.2.1
def WE y x:=(tT7 y x).2.2.2.1
def qL1 y x:=(tT7 y x).2.2.2.2
def rE3 (y:Hj)(x:CW):(List (List UInt8)):=
 []
def rE4 (y:Hj)(x:CW):Int:=
 4
def qL2:List (Nat×Sh):=[(8,Dy),(9,vI)]
def qL3:List (Nat×Sh):=[(1,vS),(2,vI),(3,vI),(4,Aj)]
def XQ:=li [(1,vS),(2,vI),(3,vI),(4,Aj)] [(11,vI)] Ho wV sW (λy x=>[ex 1 (some (WE y x)) qL2 ((rE3 y x),(rE4 y x),()),ex 2 (some (qL1 y x)) qL3 (y.1,y.2.1,y.2.2.1,y.2.2.2.1,())]) [qL2,qL3]
abbrev vZ0:Type:=(Int×Int×A7×(List (List UInt8))×Int×(List (List UInt8))×Unit)
def rV0 (y:vZ0)(x:Ut):Vn Ut:=
 let l:=y.1
 let m:=y.2.1
 let n:=y.2.2.1
 let b:=(Q1 y).1
 let e:=x.1
 let f:=x.2.1
 let a:=x.2.2.1
 let h:Bool:=a<len b
 let i:=f++([32]:List UInt8)
 let j:=nth b a []
 let g:=i++j
 let k:=m==0
 let c:=cond k true (HS n g l<=m)
 let d:=([f]:List (List UInt8))
 (h->((length f+length ([32]:List UInt8):Nat):Int)<=9223372036854775807/\A6 a (len b)/\((length i+length j:Nat):Int)<=9223372036854775807/\(!k->WA n g l)/\(c=false->((length e+length d:Nat):Int)<=4294967296/\A6 a (len b))/\A5 (a+1),h,(cond c e (e++d),cond c g (nth b a []),a+1,()))
def sA7 y x:=(rV0 y x).1
def wX6 y x:=(rV0 y x).2.1
def Nq y x:=(rV0 y x).2.2
def vV2 (y:vZ0)(x:Ut):(List (List UInt8)):=
 x.1
def uY0 (y:vZ0)(x:Ut):(List UInt8):=
 x.2.1
def rV1:List (Nat×Sh):=[(2,vI),(3,vI),(4,Aj),(12,Co),(13,Dq),(14,vI),(16,vS)]
def pW5:=li [(2,vI),(3,vI),(4,Aj),(13,Dq),(14,vI),(15,(.own .str 1015 false))] [(12,Co),(16,vS),(17,vI)] wX6 Nq sA7 (λy x=>[ex 6 none rV1 (y.1,y.2.1,y.2.2.1,(vV2 y x),y.2.2.2.1,y.2.2.2.2.1,(uY0 y x),())]) [rV1]
abbrev uR3:Type:=(Int×Int×A7×(List (List UInt8))×Unit)
def sK8 (y:uR3)(x:bY):Vn bY:=
 let d:=y.2.2.2.1
 let c:=x.2.1
 let h:Bool:=c<len d
 let i:=nth d c []
 let f:=GM i 32
 let b:=(y.1,y.2.1,y.2.2.1,d,c,f,())
 let j:=(x.1,nth f 0 [],(1:Int),())
 let g:=A3 (wX6 b) (Nq b) j
 let a:=vV2 b g
 let e:=([uY0 b g]:List (List UInt8))
 (h->A6 c (len d)/\rU9 i 32/\A6 0 (len f)/\AB (wX6 b) (Nq b) (sA7 b) j/\((length a+length e:Nat):Int)<=4294967296/\A5 (c+1),h,(a++e,c+1,()))
def uY1 y x:=(sK8 y x).1
def O3 y x:=(sK8 y x).2.1
def Gb y x:=(sK8 y x).2.2
def sK9 (y:uR3)(x:bY):(List (List UInt8)):=
 x.1
def pW6:=li [(2,vI),(3,vI),(4,Aj),(13,Dq)] [(12,Co),(14,vI)] O3 Gb uY1 (λy x=>[ex 4 none [(12,Co)] ((sK9 y x),())]) [[(12,Co)]]
def mG3 (k:A7)(l:List UInt8)(m n:Int):Prop×((List (List UInt8))×Int×Unit):=
 let g:=f267 k
 let d:=g !=0
 let b:=(l,m,n,k,())
 let j:=((0:Int),())
 let i:=A3 (Ho b) (wV b) j
 let c:=WE b i
 let e:Bool:=len l>128
 let f:=cond (cond (cond (m<1) true (m>1048576)) true (n<0)) true (n>1048576)
 let a:=(m,n,k,GM l 10,())
 let h:=(([]:List (List UInt8)),(0:Int),())
 (qU9 k/\(!d->AB (Ho b) (wV b) (sW b) j/\(qL1 b i->!e->!f->rU9 l 10/\AB (O3 a) (Gb a) (uY1 a) h)),(cond d [] (cond c (rE3 b i) (cond e [] (cond f [] (sK9 a (A3 (O3 a) (Gb a) h))))),cond d g (cond c (rE4 b i) (cond e 3 (cond f 2 0))),()))
def qV2 a b c d:=(mG3 a b c d).1
def Nr a b c d:=(mG3 a b c d).2
theorem lR:SK 230 (H4 Bo vS vI vI (.tup (.cons Dy (.cons vI .nl))) qV2 Nr):=fb Tryz.func230 117 [kb nN2,kb lQ6,kb lQ9] [(5,XQ),(16,pW6),(21,pW5)] [(27,[(4,0,63,1012)]),(29,[(4,0,65,1013)]),(37,[(4,0,76,1015)]),(53,[(4,0,107,1012)]),(57,[(4,0,115,1012)]),(59,[(4,0,1012,0)])]
def qV3 (y:uF8)(x:Y0):Vn Y0:=
 let c:=y.1
 let d:=x.1
 let a:=x.2.1
 let e:Bool:=a<len c
 let b:=len (nth c a [])
 (e->A6 a (len c)/\A5 (d+b)/\A5 (a+1),e,(d+b,a+1,()))
def sW1 y x:=(qV3 y x).1
def uH6 y x:=(qV3 y x).2.1
def Em y x:=(qV3 y x).2.2
def P6 (y:uF8)(x:Y0):Int:=
 x.1
def oX7:=li [(0,Al)] [(3,vI),(4,vI)] uH6 Em sW1 (λy x=>[ex 2 none [(3,vI)] ((P6 y x),())]) [[(3,vI)]]
def kM8 (c:(List (List A0))):Prop×Int:=
 let a:=(c,())
 let b:=((0:Int),(0:Int),())
 (AB (uH6 a) (Em a) (sW1 a) b,P6 a (A3 (uH6 a) (Em a) b))
def WM a:=(kM8 a).1
def Ga a:=(kM8 a).2
theorem nN5:SK 233 (AR Al vI WM Ga):=fb Tryz.func233 19 [] [(3,oX7)]
abbrev Ox:Type:=(Int×A7×(List (List UInt8))×(List (List A0))×Int×(List Int)×(List Int)×Int×(List (List A0))×Int×Unit)
def dA (y:Ox)(x:Zj):Vn Zj:=
 let u:=y.1
 let e:=y.2.1
 let l:=y.2.2.2.2.1
 let m:=(Q2 y).1
 let n:=(Q0 y).1
 let b:=(Q5 y).1
 let c:=(Q4 y).1
 let o:=x.1
 let a:=x.2.1
 let q:Bool:=a<len (nth b c [])
 let r:=nth b c []
 let d:=nth r a A1
 let s:=nth m n 0
 let t:=s+d.1
 let f:=t*u
 let g:=l*e.2.2.1
 let h:=e.2.1+g
 let i:=h-d.2.1
 let j:=i*u
 let k:=([(B5 f e.1,B5 j e.1,())]:List A0)
 (A6 c (len b)/\(q->A6 c (len b)/\A6 a (len r)/\A6 n (len m)/\A5 (s+d.1)/\A5 (t*u)/\IP f e.1/\A5 (l*e.2.2.1)/\A5 (e.2.1+g)/\A5 (h-d.2.1)/\A5 (i*u)/\IP j e.1/\((length o+length k:Nat):Int)<=4294967296/\A5 (a+1)),q,(o++k,a+1,()))
def sA8 y x:=(dA y x).1
def Ip y x:=(dA y x).2.1
def GC y x:=(dA y x).2.2
def sL (y:Ox)(x:Zj):(List A0):=
 x.1
def rV3:List (Nat×Sh):=[(2,vI),(4,Aj),(10,By),(12,Ba),(13,vI),(14,Cq),(15,Cr),(16,vI),(17,Al),(19,vI),(20,(.own AL 1020 false))]
def pW7:=li [(2,vI),(4,Aj),(10,By),(12,Ba),(13,vI),(14,Cq),(15,Cr),(16,vI),(17,Al),(19,vI)] [(20,(.own AL 1020 false)),(21,vI)] Ip GC sA8 (λy x=>[ex 8 none rV3 (y.1,y.2.1,y.2.2.1,y.2.2.2.1,y.2.2.2.2.1,(Q1 y).1,(Q2 y).1,(Q0 y).1,(Q5 y).1,(Q4 y).1,(sL y x),())]) [rV3]
abbrev uR5:Type:=(Int×A7×(List (List UInt8))×Int×(List Int)×(List Int)×Int×(List (List A0))×Unit)
def dC (y:uR5)(x:QY):Vn QY:=
 let e:=(Q0 y).1
 let d:=x.1
 let b:=x.2.1
 let f:Bool:=b<len e
 let a:=(y.1,y.2.1,y.2.2.1,d,y.2.2.2.1,y.2.2.2.2.1,(Q1 y).1,(Q2 y).1,e,b,())
 let g:=(([]:List A0),(0:Int),())
 let c:=([sL a (A3 (Ip a) (GC a) g)]:List (List A0))
 (f->AB (Ip a) (GC a) (sA8 a) g/\((length d+length c:Nat):Int)<=4294967296/\A5 (b+1),f,(d++c,b+1,()))
def uY2 y x:=(dC y x).1
def wM1 y x:=(dC y x).2.1
def wH y x:=(dC y x).2.2
def dM (y:uR5)(x:QY):(List (List A0)):=
 x.1
def rV5:List (Nat×Sh):=[(2,vI),(4,Aj),(10,By),(12,Ba),(13,vI),(14,Cq),(15,Cr),(16,vI)]
def pW8:=li [(2,vI),(4,Aj),(10,By),(13,vI),(14,Cq),(15,Cr),(16,vI),(17,Al)] [(12,Ba),(19,vI)] wM1 wH uY2 (λy x=>[ex 6 none rV5 (y.1,y.2.1,y.2.2.1,(dM y x),y.2.2.2.1,y.2.2.2.2.1,(Q1 y).1,(Q2 y).1,())]) [rV5]
abbrev uR6:Type:=(Int×A7×(List (List UInt8))×Int×(List Int)×(List Int)×Unit)
def rV6 (y:uR6)(x:QY):Vn QY:=
 let h:=y.2.1
 let c:=y.2.2.2.2.1
 let a:=x.2.1
 let d:Bool:=a<len c
 let e:=nth c a 0
 let f:=nth h.2.2.2.1 e BI
 let b:=(y.1,h,y.2.2.1,y.2.2.2.1,c,(Q1 y).1,a,(DD f.2.2.1).1,())
 let g:=(x.1,(0:Int),())
 (d->A6 a (len c)/\A6 e (len h.2.2.2.1)/\rT9 f.2.2.1/\AB (wM1 b) (wH b) (uY2 b) g/\A5 (a+1),d,(dM b (A3 (wM1 b) (wH b) g),a+1,()))
def XS y x:=(rV6 y x).1
def Gr y x:=(rV6 y x).2.1
def E9 y x:=(rV6 y x).2.2
def dQ (y:uR6)(x:QY):(List (List A0)):=
 x.1
def dD:List (Nat×Sh):=[(2,vI),(4,Aj),(10,By),(12,Ba),(13,vI)]
def pW9:=li [(2,vI),(4,Aj),(10,By),(13,vI),(14,Cq),(15,Cr)] [(12,Ba),(16,vI)] Gr E9 XS (λy x=>[ex 4 none dD (y.1,y.2.1,y.2.2.1,(dQ y x),y.2.2.2.1,())]) [dD]
abbrev TG:Type:=(Int×A7×(List (List UInt8))×Unit)
def qV4 (y:TG)(x:QY):Vn QY:=
 let e:=y.2.1
 let c:=y.2.2.1
 let a:=x.2.1
 let f:Bool:=a<len c
 let g:=nth c a []
 let d:=AV e g
 let b:=(y.1,e,c,a,d,BS e d,())
 let h:=(x.1,(0:Int),())
 (f->A6 a (len c)/\qV0 e g/\rV e d/\AB (Gr b) (E9 b) (XS b) h/\A5 (a+1),f,(dQ b (A3 (Gr b) (E9 b) h),a+1,()))
def WN y x:=(qV4 y x).1
def HA y x:=(qV4 y x).2.1
def Md y x:=(qV4 y x).2.2
def JM (y:TG)(x:QY):(List (List A0)):=
 x.1
def qL4:List (Nat×Sh):=[(12,Ba)]
def oX8:=li [(2,vI),(4,Aj),(10,By)] [(12,Ba),(13,vI)] HA Md WN (λy x=>[ex 2 none qL4 ((JM y x),())]) [qL4]
def nN6 (g:A7)(h:List UInt8)(i j:Int):Prop×((List (List A0))×Int×Unit):=
 let c:=Nr g h i j
 let d:=c.2.1 !=0
 let e:=(i,g,c.1,())
 let f:=(([]:List (List A0)),(0:Int),())
 let a:=JM e (A3 (HA e) (Md e) f)
 let b:Bool:=Ga a>4096
 (qV2 g h i j/\(!d->AB (HA e) (Md e) (WN e) f/\WM a),(cond d [] (cond b [] a),cond d c.2.1 (cond b 3 0),()))
def TJ a b c d:=(nN6 a b c d).1
def f195 a b c d:=(nN6 a b c d).2
def nN7:=H4 Bo vS vI vI (.tup (.cons Az (.cons vI .nl))) TJ f195
theorem lR0:SK 195 (H4 Bo vS vI vI (.tup (.cons Az (.cons vI .nl))) TJ f195):=fb Tryz.func195 131 [kb vL7,kb nM5,kb lR,kb nN3,kb nN4,kb nN5] [(6,oX8),(11,pW9),(15,pW8),(19,pW7)] [(3,[(4,0,28,1010)]),(9,[(4,0,34,1012)]),(17,[(4,0,46,1014)]),(19,[(4,0,49,1015)]),(35,[(4,0,75,1020)]),(45,[(4,0,122,1020)]),(47,[(4,0,126,1012)]),(53,[(4,0,1012,0)])]
def lR1 :Prop×(List UInt8):=
 (True,wD1)
def rV8 :Prop:=(lR1).1
def Sj :List UInt8:=(lR1).2
instance:Decidable rV8:=by unfold rV8 lR1;dsimp only;infer_instance
def eN:Am.Spec:=fnSpec [] vS [] (λx=>rV8 ) (λx=>Sj ) (λ_=>())
theorem lR2:SK 272 (fnSpec [] vS [] (λx=>rV8 ) (λx=>Sj ) (λ_=>())):=fb Tryz.func272 1
def lR3 (c:Int):Prop×Int:=
 let b:Bool:=c<=57
 let a:=wrap .i64 (wrap .u8 (c-97))
 (!b->A5 (a+10),cond b (wrap .i64 (wrap .u8 (c-48))) (a+10))
def sW4 a:=(lR3 a).1
def Ns a:=(lR3 a).2
instance (a):Decidable (sW4 a):=by unfold sW4 lR3;dsimp only;infer_instance
def nN9:=AR Bf vI sW4 Ns
theorem lR4:SK 273 (AR Bf vI sW4 Ns):=fb Tryz.func273 12
def lR5 (a b c:Int):Prop×A8:=
 (True,(a,([(b,c,()),A1,A1]:List A0),()))
def tN2 a b c:=(lR5 a b c).1
def Jh a b c:=(lR5 a b c).2
instance (a b c):Decidable (tN2 a b c):=by unfold tN2 lR5;dsimp only;infer_instance
def nO:=DZ vI vI vI Dh tN2 Jh
theorem lR6:SK 274 (DZ vI vI vI Dh tN2 Jh):=fb Tryz.func274 13
abbrev uR7:Type:=(Int×(List UInt8)×(List A8)×Int×Int×Int×Unit)
def sL2 (y:uR7)(x:CW):Vn CW:=
 let c:=x.1
 let a:=c+1
 let b:=FP .i64 (wE y.2.2.2.2.1 a 64) 1==1
 (A5 (c+1)/\0<=a/\(b->A5 (c+1)),b,(c+1,()))
def uY3 y x:=(sL2 y x).1
def Ju y x:=(sL2 y x).2.1
def uY4 y x:=(sL2 y x).2.2
instance (y x):Decidable (uY3 y x):=by unfold uY3 sL2;dsimp only;infer_instance
def dS (y:uR7)(x:CW):Int:=
 x.1
def dF:List (Nat×Sh):=[(0,vI),(3,vS),(4,Bz),(5,vI),(6,vI),(7,vI),(8,vI)]
def sL4:St->Option Out:=IB [(0,vI),(3,vS),(4,Bz),(5,vI),(6,vI),(7,vI)] [(8,vI)] Ju uY4 uY3 λy x=>[ex 6 none dF (y.1,y.2.1,y.2.2.1,y.2.2.2.1,y.2.2.2.2.1,(Q1 y).1,(dS y x),())]
def rJ1 (y:Pe)(x:uR7):Vn uR7:=
 let J:=x.1
 let K:=x.2.1
 let H:=x.2.2.1
 let f:=x.2.2.2.1
 let i:=x.2.2.2.2.1
 let d:=(Q1 x).1
 let j:Bool:=d<7
 let k:=FP .i64 (wE i d 64) 1==0
 let h:Bool:=d>0
 let g:=!k
 let l:=d-1
 let b:=cond k true (cond h (FP .i64 (wE i l 64) 1==1) false)
 let e:=(J,K,H,f,i,d,())
 let F:=(d,())
 let a:=dS e (A3 (Ju e) (uY4 e) F)
 let m:=100*f
 let n:=100*d
 let o:=700-n
 let q:=100*f
 let r:=q+100
 let s:=100*d
 let t:=700-s
 let u:=100*f
 let v:=u+100
 let w:=100*a
 let z:=600-w
 let A:=100*f
 let B:=100*a
 let C:=600-B
 let E:=([Jh 1 m o,Jh 2 r t,Jh 2 v z,Jh 2 A C,((5:Int),List.replicate 3 A1,())]:List A8)
 let c:=b||(!b)
 let L:=cond b d d
 (j->0<=d/\((g&&h)->A5 (d-1))/\((g&&h)->0<=l)/\(!b->AB (Ju e) (uY4 e) (uY3 e) F/\A5 (100*f)/\A5 (100*d)/\A5 (700-n)/\tN2 1 m o/\A5 (100*f)/\A5 (q+100)/\A5 (100*d)/\A5 (700-s)/\tN2 2 r t/\A5 (100*f)/\A5 (u+100)/\A5 (100*a)/\A5 (600-w)/\tN2 2 v z/\A5 (100*f)/\A5 (100*a)/\A5 (600-B)/\tN2 2 A C/\((length H+length E:Nat):Int)<=4294967296)/\(c->A5 (L+1)),j&&c,(cond b J J,cond b K K,cond b H (H++E),cond b f f,cond b i i,L+1,()))
def tT8 y x:=(rJ1 y x).1
def rW y x:=(rJ1 y x).2.1
def tN3 y x:=(rJ1 y x).2.2
instance (y x):Decidable (tT8 y x):=by unfold tT8 rJ1;dsimp only;infer_instance
def JR (y:Pe)(x:uR7):Int:=
 x.1
def Kf (y:Pe)(x:uR7):(List UInt8):=
 x.2.1
def rE9 (y:Pe)(x:uR7):(List A8):=
 x.2.2.1
def rF (y:Pe)(x:uR7):Int:=
 x.2.2.2.1
def qL5:List (Nat×Sh):=[(0,vI),(3,vS),(4,Bz),(5,vI)]
def rF0:St->Option Out:=IB [] [(0,vI),(3,vS),(4,Bz),(5,vI),(6,vI),(7,vI)] rW tN3 tT8 λy x=>[ex 4 none qL5 ((JR y x),(Kf y x),(rE9 y x),(rF y x),())]
abbrev uH8:Type:=(Int×(List UInt8)×(List A8)×Int×Unit)
def rJ2 (y:Pe)(x:uH8):Vn uH8:=
 let c:=x.1
 let d:=x.2.1
 let b:=x.2.2.2.1
 let e:Bool:=b<5
 let f:=10*c
 let g:=2*b
 let h:=f+g
 let i:=BU d h
 let j:=Ns i
 let k:=16*j
 let l:=10*c
 let m:=2*b
 let n:=l+m
 let o:=n+1
 let q:=BU d o
 let r:=Ns q
 let t:=(c,d,x.2.2.1,b,k+r,(0:Int),())
 let s:=A3 (rW ()) (tN3 ()) t
 let a:=rF () s
 (e->A5 (10*c)/\A5 (2*b)/\A5 (f+g)/\A6 h (len d)/\sW4 i/\A5 (16*j)/\A5 (10*c)/\A5 (2*b)/\A5 (l+m)/\A5 (n+1)/\A6 o (len d)/\sW4 q/\A5 (k+r)/\AB (rW ()) (tN3 ()) (tT8 ()) t/\A5 (a+1),e,(JR () s,Kf () s,rE9 () s,a+1,()))
def tT9 y x:=(rJ2 y x).1
def dH y x:=(rJ2 y x).2.1
def tN5 y x:=(rJ2 y x).2.2
instance (y x):Decidable (tT9 y x):=by unfold tT9 rJ2;dsimp only;infer_instance
def rF1 (y:Pe)(x:uH8):(List A8):=
 x.2.2.1
def rF2:St->Option Out:=IB [] [(0,vI),(3,vS),(4,Bz),(5,vI)] dH tN5 tT9 λy x=>[ex 2 none [(4,Bz)] ((rF1 y x),())]
def lR7 (b:Int):Prop×(List A8):=
 let a:=(b,Sj,([]:List A8),(0:Int),())
 (rV8/\AB (dH ()) (tN5 ()) (tT9 ()) a,rF1 () (A3 (dH ()) (tN5 ()) a))
def qV5 a:=(lR7 a).1
def f234 a:=(lR7 a).2
instance (a):Decidable (qV5 a):=by unfold qV5 lR7;dsimp only;infer_instance
def nO0:=AR vI Bm qV5 f234
def rJ3:=Cy [(272,eN),(273,nN9),(274,nO)] [(12,sL4),(8,rF0),(4,rF2)] [(5,[(4,0,10,1004)]),(29,[(4,0,93,1004)]),(31,[(4,0,1004,0)])] 95
theorem XP:CtxOk Tryz.prog rJ3:=cq ⟨lR2,lR4,lR6,trivial⟩
noncomputable def nO1:Code:=Tryz.f234.body.getD .skip
noncomputable def pX:Code:=Tz nO1 0
noncomputable def pX0:Code:=Tz pX 0
noncomputable def oE5:Code:=Tz pX0 0
theorem pX1:Kw Tryz.prog rJ3 oE5:=lq XP (sp:=sL4) rfl [dF]
theorem oX9:Kw Tryz.prog rJ3 pX0:=lm XP (sp:=rF0) rfl [qL5] (bs:=[oE5]) ⟨pX1,trivial⟩
theorem oY:Kw Tryz.prog rJ3 pX:=lm XP (sp:=rF2) rfl [[(4,Bz)]] (bs:=[pX0]) ⟨oX9,trivial⟩
theorem lR8:SK 234 nO0:=fl XP Tryz.func234 (bs:=[pX]) ⟨oY,trivial⟩
def XR (y:Pe)(x:bT):Vn bT:=
 let c:=x.1
 let b:=x.2.1
 let a:=x.2.2.1
 let d:Bool:=a<95
 let e:=([(wrap .u8 (32+a),(600:Int),f234 a,())]:List CD)
 (d->A5 (32+a)/\qV5 a/\((length b.2.2.2.1+length e:Nat):Int)<=4294967296/\A5 (a+1),d,(c,(b.1,b.2.1,b.2.2.1,b.2.2.2.1++e,b.2.2.2.2.1,()),a+1,()))
def tU y x:=(XR y x).1
def rW1 y x:=(XR y x).2.1
def tN6 y x:=(XR y x).2.2
instance (y x):Decidable (tU y x):=by unfold tU XR;dsimp only;infer_instance
def pF6 (y:Pe)(x:bT):(Int×Int×Int×(List CD)×(List DJ)×Unit):=
 let a:=x.1
 a
def rF3 (y:Pe)(x:bT):(Int×Int×Int×(List CD)×(List DJ)×Unit):=
 let a:=x.2.1
 a
def qL6:List (Nat×Sh):=[(0,Ah),(1,Ai)]
def oY0:=li [] [(0,Ah),(1,Ai),(2,vI)] rW1 tN6 tU (λy x=>[ex 2 none qL6 ((pF6 y x),(rF3 y x),())]) [qL6]
def lR9 :Prop×A7:=
 let b:=((1000:Int),(800:Int),(1200:Int),([]:List CD),([((65:Int),(86:Int),(-100:Int),()),((76:Int),(84:Int),(-100:Int),()),((84:Int),(97:Int),(-100:Int),()),((86:Int),(65:Int),(-100:Int),())]:List DJ),())
 let c:=(((0:Int),(0:Int),(0:Int),([]:List CD),([]:List DJ),()),b,(0:Int),())
 let a:=rF3 () (A3 (rW1 ()) (tN6 ()) c)
 (AB (rW1 ()) (tN6 ()) (tU ()) c,a)
def WS :Prop:=(lR9).1
def HU :A7:=(lR9).2
instance:Decidable WS:=by unfold WS lR9;dsimp only;infer_instance
theorem lS:SK 196 (fnSpec [] Bo [] (λx=>WS ) (λx=>HU ) (λ_=>())):=fb Tryz.func196 25 [kb lR8] [(3,oY0)] [(3,[(4,0,7,400101)]),(11,[(4,0,22,400100)]),(13,[(4,0,400100,400000),(4,0,400101,400001)])]
def tN7 (y:vQ1)(x:Zj):Vm Zj:=
 let e:=y.1
 let o:=y.2.1
 let f:=y.2.2.2.1
 let q:=x.1
 let a:=x.2.1
 let c:Bool:=a<len (nth e f [])
 let g:=nth e f []
 let h:=nth g a A1
 let b:=!(f224 h)
 let i:=nth e f []
 let j:=nth i a A1
 let k:=DW o j
 let d:=cond b true (!(f224 k))
 let l:=nth e f []
 let m:=nth l a A1
 let n:=([DW o m]:List A0)
 (A6 f (len e)/\(c->A6 f (len e)/\A6 a (len g)/\rT5 h/\(!b->A6 f (len e))/\(!b->A6 a (len i))/\(!b->rT6 o j)/\(!b->rT5 k)/\(!d->A6 f (len e)/\A6 a (len l)/\rT6 o m/\((length q+length n:Nat):Int)<=4294967296)/\(!d->A5 (a+1))),c&&(!d),(q++n,a+1,()),c&&d,!c)
def uY5 y x:=(tN7 y x).1
def ML y x:=(tN7 y x).2.1
def HW y x:=(tN7 y x).2.2.1
def uY6 y x:=(tN7 y x).2.2.2.1
def Ss y x:=(tN7 y x).2.2.2.2
def sL5 (y:vQ1)(x:Zj):(List (List A0)):=
 []
def eC (y:vQ1)(x:Zj):Int:=
 2
def rW2:List (Nat×Sh):=[(4,Az),(5,vI)]
def eI (y:vQ1)(x:Zj):(List A0):=
 x.1
def rW3:List (Nat×Sh):=[(0,Al),(3,Bq),(7,Db),(8,vI),(9,(.own AL 1009 false))]
def pX2:=li [(0,Al),(3,Bq),(7,Db),(8,vI)] [(9,(.own AL 1009 false)),(10,vI)] ML HW uY5 (λy x=>[ex 1 (some (uY6 y x)) rW2 ((sL5 y x),(eC y x),()),ex 4 (some (Ss y x)) rW3 (y.1,y.2.1,y.2.2.1,y.2.2.2.1,(eI y x),())]) [rW2,rW3]
abbrev vH9:Type:=((List (List A0))×C8×Unit)
def eQ (y:vH9)(x:QY):Vm QY:=
 let i:=y.1
 let h:=x.1
 let g:=x.2.1
 let c:Bool:=g<len i
 let a:=(i,y.2.1,h,g,())
 let f:=(([]:List A0),(0:Int),())
 let d:=A3 (ML a) (HW a) f
 let b:=Ss a d
 let e:=([eI a d]:List (List A0))
 (c->AB (ML a) (HW a) (uY5 a) f/\(b->((length h+length e:Nat):Int)<=4294967296)/\(b->A5 (g+1)),c&&b,(h++e,g+1,()),c&&uY6 a d,!c)
def WT y x:=(eQ y x).1
def vS2 y x:=(eQ y x).2.1
def wP8 y x:=(eQ y x).2.2.1
def Qy y x:=(eQ y x).2.2.2.1
def oY1 y x:=(eQ y x).2.2.2.2
def rF4 (y:vH9)(x:QY):(List (List A0)):=
 let a:=(y.1,y.2.1,x.1,x.2.1,())
 (sL5 a (A3 (ML a) (HW a) ([],0,())))
def rF5 (y:vH9)(x:QY):Int:=
 let a:=(y.1,y.2.1,x.1,x.2.1,())
 (eC a (A3 (ML a) (HW a) ([],0,())))
def qL7:List (Nat×Sh):=[(4,Az),(5,vI)]
def rF6 (y:vH9)(x:QY):(List (List A0)):=
 x.1
def qL8:List (Nat×Sh):=[(7,Db)]
def oY2:=li [(0,Al),(3,Bq)] [(7,Db),(8,vI)] vS2 wP8 WT (λy x=>[ex 1 (some (Qy y x)) qL7 ((rF4 y x),(rF5 y x),()),ex 2 (some (oY1 y x)) qL8 ((rF6 y x),())]) [qL7,qL8]
def kM9 (h:(List (List A0)))(i:C8):Prop×((List (List A0))×Int×Unit):=
 let e:=Ek i
 let c:=e !=0
 let d:Bool:=Ga h>4096
 let a:=(h,i,())
 let g:=(([]:List (List A0)),(0:Int),())
 let f:=A3 (vS2 a) (wP8 a) g
 let b:=Qy a f
 (tJ9 i/\(!c->WM h/\(!d->AB (vS2 a) (wP8 a) (WT a) g)),(cond c [] (cond d [] (cond b (rF4 a f) (rF6 a f))),cond c e (cond d 3 (cond b (rF5 a f) 0)),()))
def qV6 a b:=(kM9 a b).1
def Ll a b:=(kM9 a b).2
def nO2:=BC Al Bb (.tup (.cons Al (.cons vI .nl))) qV6 Ll
theorem lS0:SK 197 (BC Al Bb (.tup (.cons Al (.cons vI .nl))) qV6 Ll):=fb Tryz.func197 75 [kb qT1,kb nM3,kb pU8,kb nN5] [(8,oY2),(12,pX2)] [(13,[(4,0,19,1007)]),(21,[(4,0,26,1009)]),(33,[(4,0,69,1009)]),(35,[(4,0,73,1007)]),(37,[(4,0,1007,0)])]
def oE6 (k:A7)(g:AD):Prop×Int:=
 let a:=f195 k (Qk g).1 (Ql g).1 (Qm g).1
 let c:=a.2.1 !=0
 let b:=Ll a.1 (Q3 g).1
 let d:=b.2.1 !=0
 let e:=E8 b.1 0
 let f:=e !=0
 (WS/\TJ k (Qk g).1 (Ql g).1 (Qm g).1/\(!c->qV6 a.1 (Q3 g).1/\(!d->cK b.1 0/\(!f->tK (Q9 g).1))),cond c a.2.1 (cond d b.2.1 (cond f e (f157 (Q9 g).1))))
def lS1 (a:AD):Prop×Int:=oE6 HU a
def qV7 a:=(lS1 a).1
def f160 a:=(lS1 a).2
def nO3:Am.Spec:=fnSpec [(0,Bg)] vI [] (λx=>qV7 x.1) (λx=>f160 x.1) (λ_=>())
def oE7 (k:A7):Ctx:=Cx tys [(157,nM0),(192,nM6),(195,nN7),(196,fnSpec [] Bo [] (λ_=>WS) (λ_=>k) (λ_=>())),(197,nO2)] [] [(3,[(4,0,15,1003)])] false 39 [] []
theorem mG4:CtxOk Tryz.prog (oE7 HU):=cq ⟨pU5,pV4,lR0,lS,lS0,trivial⟩
theorem mG5:∀(k:A7) x,IC (oE7 k) (Tryz.f160.body.getD .skip) Tryz.f160.results.toList [(0,Bg)] vI [] x=some ((oE6 k x.1).1,(oE6 k x.1).2,()):=λk x=>by kernel_rfl
theorem lS2:SpecOk Tryz.prog 160 nO3:=XG mG4 mixed Tryz.func160 (by kernel_rfl) (bs:=[]) (by kernel_rfl) trivial (mG5 HU)
def lS3 (c:Int):Prop×(Int×Int×Unit):=
 let a:=([(0:Int),(0:Int),(5:Int),(4:Int),(2:Int),(3:Int),(1:Int),(1:Int),(9:Int),(3:Int),(0:Int),(2:Int)]:List Int)
 let b:=c==3
 (!b->A6 c (len a)/\A6 c (len a),(cond b 4 (nth a c 0),cond b 16 (nth a c 0),()))
def rW4 a:=(lS3 a).1
def GN a:=(lS3 a).2
theorem lS4:SK 198 (AR vI (.tup (.cons vI (.cons vI .nl))) rW4 GN):=fb Tryz.func198 16 [] [] [(3,[(4,0,5,1004)])]
def lS5 (i j:Int):Prop×(Int×Int×Unit):=
 let c:=cond (i==2) (j==2) false
 let d:=cond (cond (i==4) true (cond (i==5) (decide (j>0)) false)) true (cond (i==11) (j==1) false)
 let e:=i==5
 let f:=i==7
 let g:=i==8
 let h:=i==11
 let a:=cond c 1 (cond d (-65535:Int) (cond e (-32768:Int) (cond f 2 (cond g (-262140:Int) (cond h (-128:Int) 0)))))
 let b:=cond c (256:Int) (cond d 65535 (cond e 32768 (cond f 256 (cond g 262140 (cond h 128 65535)))))
 (True,(a,b,()))
def nO4 a b:=(lS5 a b).1
def f199 a b:=(lS5 a b).2
theorem lS6:SK 199 (BC vI vI (.tup (.cons vI (.cons vI .nl))) nO4 f199):=fb Tryz.func199 38
abbrev eJ:Type:=(Int×(List Int)×(List B4)×Unit)
def uY8 (y:eJ)(x:CW):Vm CW:=
 let g:=y.1
 let d:=y.2.1
 let a:=x.1
 let b:Bool:=a<len d
 let e:=f199 g a
 let f:Bool:=nth d a 0<e.1
 let c:=cond f true (nth d a 0>e.2.1)
 (b->nO4 g a/\A6 a (len d)/\(!f->A6 a (len d))/\(!c->A5 (a+1)),b&&(!c),(a+1,()),b&&c,!b)
def WU y x:=(uY8 y x).1
def vS3 y x:=(uY8 y x).2.1
def XO y x:=(uY8 y x).2.2.1
def uS y x:=(uY8 y x).2.2.2.1
def sW9 y x:=(uY8 y x).2.2.2.2
def rF7 (y:eJ)(x:CW):Int:=
 2
def qL9:List (Nat×Sh):=[(0,vI),(1,Ao),(2,Aq)]
def oY3:=li [(0,vI),(1,Ao),(2,Aq)] [(9,vI)] vS3 XO WU (λy x=>[ex 1 (some (uS y x)) [(6,vI)] ((rF7 y x),()),ex 2 (some (sW9 y x)) qL9 (y.1,y.2.1,y.2.2.1,())]) [[(6,vI)],qL9]
def uI (y:eJ)(x:CW):Vm CW:=
 let g:=y.2.2.1
 let a:=x.1
 let b:Bool:=a<len g
 let e:Bool:=(nth g a BZ).1<0
 let c:=cond e true ((nth g a BZ).1>65535)
 let f:=nth g a BZ
 let d:=cond c true (!(GG f.2.1))
 (b->A6 a (len g)/\(!e->A6 a (len g))/\(!c->A6 a (len g))/\(!c->VY f.2.1)/\(!d->A5 (a+1)),b&&(!d),(a+1,()),b&&d,!b)
def sB y x:=(uI y x).1
def Jq y x:=(uI y x).2.1
def Js y x:=(uI y x).2.2.1
def uI0 y x:=(uI y x).2.2.2.1
def dT y x:=(uI y x).2.2.2.2
def sL9 (y:eJ)(x:CW):Int:=
 2
def rW6:List (Nat×Sh):=[(0,vI),(1,Ao),(2,Aq)]
def pX3:=li [(0,vI),(1,Ao),(2,Aq)] [(12,vI)] Jq Js sB (λy x=>[ex 1 (some (uI0 y x)) [(6,vI)] ((sL9 y x),()),ex 4 (some (dT y x)) rW6 (y.1,y.2.1,y.2.2.1,())]) [[(6,vI)],rW6]
def vI1 (y:eJ)(x:CW):Vm CW:=
 let e:=y.2.1
 let a:=x.1
 let b:=cond (y.1==3) (decide (a<len e)) false
 let d:=a-2
 let c:Bool:=nth e a 0<=nth e d 0
 (b->A6 a (len e)/\A5 (a-2)/\A6 d (len e)/\(!c->A5 (a+2)),b&&(!c),(a+2,()),b&&c,!b)
def uY9 y x:=(vI1 y x).1
def Ix y x:=(vI1 y x).2.1
def N3 y x:=(vI1 y x).2.2.1
def Jt y x:=(vI1 y x).2.2.2.1
def rW7 y x:=(vI1 y x).2.2.2.2
def sM (y:eJ)(x:CW):Int:=
 24
def pX4:=li [(0,vI),(1,Ao),(2,Aq)] [(13,vI)] Ix N3 uY9 (λy x=>[ex 1 (some (Jt y x)) [(6,vI)] ((sM y x),()),ex 6 (some (rW7 y x)) [(2,Aq)] (y.2.2.1,())]) [[(6,vI)],[(2,Aq)]]
def tN8 (y:RI)(x:CW):Vm CW:=
 let e:=y.1
 let a:=x.1
 let b:Bool:=a<len e
 let d:=a-1
 let c:Bool:=(nth e a BZ).1<=(nth e d BZ).1
 (b->A6 a (len e)/\A5 (a-1)/\A6 d (len e)/\(!c->A5 (a+1)),b&&(!c),(a+1,()),b&&c,!b)
def Yc y x:=(tN8 y x).1
def Yh y x:=(tN8 y x).2.1
def wY1 y x:=(tN8 y x).2.2.1
def uZ y x:=(tN8 y x).2.2.2.1
def pX5 y x:=(tN8 y x).2.2.2.2
def sM0 (y:RI)(x:CW):Int:=
 24
def pX6:=li [(2,Aq)] [(14,vI)] Yh wY1 Yc (λy x=>[ex 1 (some (uZ y x)) [(6,vI)] ((sM0 y x),()),ex 8 (some (pX5 y x)) [] ()]) [[(6,vI)],[]]
def mG6 (p:Int)(A:List Int)(B:List B4):Prop×Int:=
 let l:=cond (p<1) true (p>11)
 let m:=GN p
 let n:=cond (cond (cond (len A<m.1) true (len A>m.2.1)) true (cond (p==3) (tmod (len A) 2==1) false)) true (!(Ty.eqb .bool (decide (len B>0)) (p==10)))
 let o:Bool:=len B>16
 let g:=(p,A,B,())
 let z:=((0:Int),())
 let w:=A3 (vS3 g) (XO g) z
 let q:=p==9
 let r:=cond q (nth A 0 0==0) false
 let s:=cond r (nth A 1 0==0) false
 let e:=cond s (nth A 2 0==0) false
 let a:=(p,A,B,())
 let t:=((0:Int),())
 let h:=A3 (Jq a) (Js a) t
 let d:=p==2
 let f:=cond d (decide (nth A 1 0<=nth A 0 0)) false
 let b:=(p,A,B,())
 let u:=((2:Int),())
 let i:=A3 (Ix b) (N3 b) u
 let c:=(B,())
 let v:=((1:Int),())
 let j:=A3 (Yh c) (wY1 c) v
 let k:=cond (uI0 a h) (sL9 a h) (cond f 24 (cond (Jt b i) (sM b i) (cond (uZ c j) (sM0 c j) 0)))
 (!l->rW4 p/\(!n->!o->AB (vS3 g) (XO g) (WU g) z/\(sW9 g w->(q->A6 0 (len A))/\(r->A6 1 (len A))/\(s->A6 2 (len A))/\(!e->AB (Jq a) (Js a) (sB a) t/\(dT a h->(d->A6 1 (len A))/\(d->A6 0 (len A))/\(!f->AB (Ix b) (N3 b) (uY9 b) u/\(rW7 b i->AB (Yh c) (wY1 c) (Yc c) v)))))),cond l 8 (cond n 1 (cond o 3 (cond (uS g w) (rF7 g w) (cond e 2 k)))))
def pX7 a b c:=(mG6 a b c).1
def HY a b c:=(mG6 a b c).2
theorem lS7:SK 161 (DZ vI Ao Aq vI pX7 HY):=fb Tryz.func161 181 [kb qT2,kb lS4,kb lS6] [(9,oY3),(17,pX3),(24,pX4),(29,pX6)]
def kN (a b c:Int):Prop×Bool:=
 (True,cond (a≥b) (decide (a<=c)) false)
def Yx a b c:=(kN a b c).1
def DN a b c:=(kN a b c).2
theorem lS8:SK 200 (DZ vI vI vI vB Yx DN):=fb Tryz.func200 15
def kN0 (d:Int):Prop×Int:=
 let b:=d==5
 let a:=cond b b (d==6)
 let c:=d==3
 (True,cond (cond a true (cond c c (d==9))) (cond a (0:Int) 2) 1)
def nO5 a:=(kN0 a).1
def F5 a:=(kN0 a).2
theorem lS9:SK 201 (AR vI vI nO5 F5):=fb Tryz.func201 10
def lT (p:Int)(z:List Int):Prop×Int:=
 let w:=!(DN p 1 10)
 let j:=len z !=F5 p
 let k:=p==1
 let l:=p==7
 let a:=cond k k (cond l l (p==8))
 let m:=nth z 0 0
 let b:=p==2
 let n:=nth z 0 0
 let c:=p==4
 let o:=nth z 0 0
 let d:=p==3
 let q:=nth z 0 0
 let e:=DN q 0 16
 let r:=nth z 1 0
 let f:=p==9
 let s:=nth z 0 0
 let g:=DN s (-16:Int) 16
 let t:=nth z 1 0
 let u:=p==10
 let v:=nth z 0 0
 let i:=cond d (cond e (DN r 0 262140) false) (cond f (cond g (DN t (-16:Int) 16) false) (cond u (DN v 1 16) true))
 let h:=cond j (1:Int) (cond (!(cond a (DN m 0 16) (cond b (DN n 0 7) (cond c (DN o 0 4) i)))) 2 0)
 (Yx p 1 10/\(!w->nO5 p/\(!j->(a->A6 0 (len z)/\Yx m 0 16)/\(a=false->(b->A6 0 (len z)/\Yx n 0 7)/\(b=false->(c->A6 0 (len z)/\Yx o 0 4)/\(c=false->(d->A6 0 (len z)/\Yx q 0 16/\(e->A6 1 (len z))/\(e->Yx r 0 262140))/\(d=false->(f->A6 0 (len z)/\Yx s (-16:Int) 16/\(g->A6 1 (len z))/\(g->Yx t (-16:Int) 16))/\(f=false->u->A6 0 (len z)/\Yx v 1 16))))))),cond w 8 h)
def pX8 a b:=(lT a b).1
def EY a b:=(lT a b).2
theorem lT0:SK 162 (BC vI Ao vI pX8 EY):=fb Tryz.func162 67 [kb lS8,kb lS9]
abbrev uI1:Type:=(Hw×Int×Unit)
def sM1 (y:uI1)(x:CW):Vm CW:=
 let c:=y.1
 let a:=x.1
 let b:Bool:=a<y.2.1
 let e:Bool:=(nth c.2.2.2.1 a A1).1<(-1048576)
 let f:=cond e true ((nth c.2.2.2.1 a A1).1>1048576)
 let g:=cond f true ((nth c.2.2.2.1 a A1).2.1<(-1048576))
 let d:=cond g true ((nth c.2.2.2.1 a A1).2.1>1048576)
 (b->A6 a (len c.2.2.2.1)/\(!e->A6 a (len c.2.2.2.1))/\(!f->A6 a (len c.2.2.2.1))/\(!g->A6 a (len c.2.2.2.1))/\(!d->A5 (a+1)),b&&(!d),(a+1,()),b&&d,!b)
def sX y x:=(sM1 y x).1
def tN9 y x:=(sM1 y x).2.1
def vS4 y x:=(sM1 y x).2.2.1
def sX0 y x:=(sM1 y x).2.2.2.1
def oY4 y x:=(sM1 y x).2.2.2.2
def rF8 (y:uI1)(x:CW):Int:=
 2
def oY5:=li [(1,(.box TD De)),(45,vI)] [(46,vI)] tN9 vS4 sX (λy x=>[ex 1 (some (sX0 y x)) [(2,vI)] ((rF8 y x),()),ex 2 (some (oY4 y x)) [] ()]) [[(2,vI)],[]]
def kN1 (f:Hw):Prop×Int:=
 let b:=cond (cond (cond (cond (cond (f.1<2) true (f.1>8)) true (f.2.1<2)) true (f.2.1>8)) true (f.2.2.1<1)) true (f.2.2.1>256)
 let c:=cond b true (len f.2.2.2.1!=(f.1*f.2.1))
 let a:=(f,len f.2.2.2.1,())
 let e:=((0:Int),())
 let d:=A3 (tN9 a) (vS4 a) e
 ((!b->A5 (f.1*f.2.1))/\(!c->AB (tN9 a) (vS4 a) (sX a) e),cond c 15 (cond (sX0 a d) (rF8 a d) 0))
def qV8 a:=(kN1 a).1
def Lm a:=(kN1 a).2
theorem lT1:SK 163 (AR De vI qV8 Lm):=fb Tryz.func163 84 [] [(4,oY5)]
def lT2 (o:AD):Prop×Int:=
 let m:=o.2.1==2
 let b:=o.2.1==3
 let c:=o.2.1==4
 let d:=o.2.1==5
 let e:=o.2.1==6
 let f:=o.2.1==7
 let g:=o.2.1==8
 let k:=o.2.1==9
 let a:=cond k k (o.2.1==10)
 let l:=o.2.1==11
 let h:=cond f (HY (Qc o).1 (Qa o).1 (Qb o).1) (cond g (EY (Qc o).1 (Qa o).1) (cond a 2 (Lm (Qe o).1)))
 let n:=cond d true (cond e true (cond f true (cond g true (cond a (!(F3 (Qj o).1 1 1073741824)) l))))
 let i:=cond c (Ng (Qc o).1 (Qa o).1 (Qf o).1 (Qb o).1) (cond d (Le o) (cond e (f160 o) h))
 let j:=cond (cond m true (cond b true (cond c true n))) (cond m (LU (Q6 o).1) (cond b (f157 (Q9 o).1) i)) 0
 ((m->qJ (Q6 o).1)/\(m=false->(b->tK (Q9 o).1)/\(b=false->(c->pU7 (Qc o).1 (Qa o).1 (Qf o).1 (Qb o).1)/\(c=false->(d->pW o)/\(d=false->(e->qV7 o)/\(e=false->(f->pX7 (Qc o).1 (Qa o).1 (Qb o).1)/\(f=false->(g->pX8 (Qc o).1 (Qa o).1)/\(g=false->(a->tJ8 (Qj o).1 1 1073741824)/\(a=false->l->qV8 (Qe o).1)))))))),j)
def pX9 a:=(lT2 a).1
def Ji a:=(lT2 a).2
theorem lT3:SK 129 (AR Bg vI pX9 Ji):=fb Tryz.func129 62 [kb mS1,kb nK5,kb pU5,kb lN7,kb lQ4,kb lS2,kb lS7,kb lT0,kb lT1]
def kN2 (p:AD):Prop×AD:=
 let q:=((0:Int),(0:Int),([]:List Int),())
 let d:=((0:Int),(0:Int),(0:Int),([]:List UInt8),false,false,false,(0:Int),(0:Int),q,(Q3 p))
 let e:=((0:Int),(0:Int),(0:Int),([]:List UInt8),false,false,false,(0:Int),(0:Int),q,((0:Int),(0:Int),(0:Int),(0:Int),(0:Int),(0:Int),()),(Q7 p))
 let b:=cond (HL p.2.1) e d
 let f:=(Ve b 0 (Q6 b))
 let a:=cond (HO p.2.1) f b
 let g:=(Vf a (0,0,[],()) (Q9 a))
 let h:=(Vg a (0,0,0,0,()) (Qc a))
 let i:=(Vh a 0 ([],0,[],(Q8 a)))
 let j:=(Vg a (0,0,0,0,()) ((Qc a).1,(Qa a).1,(Qf a).1,(Qb a).1,[],0,0,0,0,(Qk a)))
 let k:=(Vg a (0,0,0,0,()) ((Qc a).1,(Qa a).1,(Qf a).1,(Qb a).1,(Q8 a).1,(Qi a).1,(Qd a).1,(Qg a).1,(Qh a).1,[],0,0,(Qj a)))
 let l:=(Vh a 0 ([],(Qf a).1,[],(Q8 a)))
 let m:=(Vh a 0 ([],(Qf a)))
 let r:=p.2.1==9
 let n:=(Vi a 0 ((Qe a).1,()))
 let o:=(Vj a (0,0,0,[],()) ())
 let c:=cond (p.2.1==6) k (cond (p.2.1==7) l (cond (p.2.1==8) m (cond (cond r r (p.2.1==10)) n (cond (p.2.1==11) o a))))
 (pU2 p.2.1/\pU4 p.2.1,cond (p.2.1==2) g (cond (p.2.1==3) h (cond (p.2.1==4) i (cond (p.2.1==5) j c))))
def pY a:=(kN2 a).1
def Jj a:=(kN2 a).2
theorem lT4:SK 130 (AR Bg Bg pY Jj):=fb Tryz.func130 75 [kb nK8,kb nL6]
def cM (o:AD)(p q:Int):Prop×Int:=
 let e:=IY o p q
 let f:=e !=0
 let b:=HL o.2.1
 let g:=Ek (Q3 o).1
 let a:=g !=0
 let h:=Ja (Q3 o).1
 let i:=h.2.1 !=0
 let j:=HO o.2.1
 let k:=cond j (!(Nf (Q7 o).1)) false
 let l:=Ji o
 let m:=l !=0
 let n:=Jj o
 let d:=((0:Int),(0:Int),(0:Int),([]:List UInt8),false,false,false,(0:Int),(0:Int),((0:Int),(0:Int),([]:List Int),()),PY,(0:Int),((0:Int),(0:Int),([]:List BY),()),C4,(0:Int),([]:List Int),(0:Int),([]:List B4),([]:List A8),(0:Int),(0:Int),(0:Int),(0:Int),([]:List UInt8),(0:Int),(0:Int),(0:Int),((0:Int),(0:Int),(0:Int),([]:List A0),()),())
 let c:=cond f e (cond ((a||((!a)&&i))&&b) (cond a g h.2.1) (cond k 8 (cond m l (cond (!(Fk n d)) 1 0))))
 (pU1 o p q/\(!f->pU2 o.2.1/\(b->tJ9 (Q3 o).1/\(!a->pU3 (Q3 o).1))/\((cond b ((!a)&&(!i)) true)=true->pU4 o.2.1/\(j->nL7 (Q7 o).1)/\(!k->pX9 o/\(!m->pY o/\vQ4 n d)))),c)
def nO6 a b c:=(cM a b c).1
def Mb a b c:=(cM a b c).2
theorem kN3:SK 91 (DZ Bg vI vI vI nO6 Mb):=fb Tryz.func91 56 [kb oD8,kb lM4,kb nK8,kb qT1,kb lM9,kb nL6,kb lN0,kb lT3,kb lT4]
abbrev uZ0:Type:=(Int×(List AD)×Int×Unit)
def dY (y:uZ0)(x:CW):Vm CW:=
 let d:=y.2.1
 let a:=x.1
 let b:Bool:=a<y.2.2.1
 let c:=(nth d a A9).1==y.1
 (b->A6 a (len d)/\(!c->A5 (a+1)),b&&(!c),(a+1,()),b&&c,!b)
def pF7 y x:=(dY y x).1
def qV9 y x:=(dY y x).2.1
def sB1 y x:=(dY y x).2.2.1
def pF8 y x:=(dY y x).2.2.2.1
def nO7 y x:=(dY y x).2.2.2.2
def rW9 (y:uZ0)(x:CW):Int:=
 x.1
def nO8:=li [(1,vI),(8,An),(9,vI)] [(10,vI)] qV9 sB1 pF7 (λy x=>[ex 1 (some (pF8 y x)) [(4,vI)] ((rW9 y x),()),ex 2 (some (nO7 y x)) [] ()]) [[(4,vI)],[]]
def cO (d:AS)(e:Int):Prop×Int:=
 let a:=(e,d.2.2.2.1,len d.2.2.2.1,())
 let c:=((0:Int),())
 let b:=A3 (qV9 a) (sB1 a) c
 (AB (qV9 a) (sB1 a) (pF7 a) c,cond (pF8 a b) (rW9 a b) (-1:Int))
def rX a b:=(cO a b).1
def Nu a b:=(cO a b).2
theorem oE8:SK 92 (BC Ar vI vI rX Nu):=fb Tryz.func92 21 [] [(2,nO8)]
abbrev uZ1:Type:=(Int×AS×Unit)
def rX0 (y:uZ1)(x:Y0):Vm Y0:=
 let a:=y.2.1
 let e:=x.1
 let h:=x.2.1
 let b:=cond (e≥0) (decide (h<=len a.2.2.2.1)) false
 let d:=(nth a.2.2.2.1 e A9).1==y.1
 let f:=(nth a.2.2.2.1 e A9).2.2.1==0
 let g:=nth a.2.2.2.1 e A9
 let c:=(!d)&&(!f)
 (b->A6 e (len a.2.2.2.1)/\(!d->A6 e (len a.2.2.2.1)/\(!f->A6 e (len a.2.2.2.1)/\rX a g.2.2.1))/\(c->A5 (h+1)),b&&c,(Nu a g.2.2.1,h+1,()),b&&(d||((!d)&&f)),!b)
def rX1 y x:=(rX0 y x).1
def uZ2 y x:=(rX0 y x).2.1
def Mw y x:=(rX0 y x).2.2.1
def sM2 y x:=(rX0 y x).2.2.2.1
def nO9 y x:=(rX0 y x).2.2.2.2
def N6 (y:uZ1)(x:Y0):Bool:=
 let a:=y.1
 (cond ((nth y.2.1.2.2.2.1 x.1 A9).1==a) true (a==0))
def nP:=li [(1,vI),(3,Ag)] [(2,vI),(7,vI)] uZ2 Mw rX1 (λy x=>[ex 1 (some (sM2 y x)) [(6,vB)] ((N6 y x),()),ex 2 (some (nO9 y x)) [(1,vI)] (y.1,())]) [[(6,vB)],[(1,vI)]]
def cR (d:AS)(e f:Int):Prop×Bool:=
 let a:=(e,d,())
 let c:=(f,(0:Int),())
 let b:=A3 (uZ2 a) (Mw a) c
 (AB (uZ2 a) (Mw a) (rX1 a) c,cond (sM2 a b) (N6 a b) (e==0))
def nP0 a b c:=(cR a b c).1
def Nv a b c:=(cR a b c).2
theorem kN4:SK 93 (DZ Ar vI vI vB nP0 Nv):=fb Tryz.func93 46 [kb oE8] [(2,nP)]
abbrev Ma:Type:=(AS×Unit)
def rX2 (y:Ma)(x:Y0):Vm Y0:=
 let b:=y.1
 let f:=x.1
 let g:=x.2.1
 let a:=cond ((nth b.2.2.2.1 f A9).2.2.1 !=0) (decide (g<=len b.2.2.2.1)) false
 let d:=nth b.2.2.2.1 f A9
 let e:=Nu b d.2.2.1
 let c:Bool:=e<0
 (A6 f (len b.2.2.2.1)/\(a->A6 f (len b.2.2.2.1)/\rX b d.2.2.1/\(!c->A5 (g+1))),a&&(!c),(e,g+1,()),a&&c,!a)
def rX3 y x:=(rX2 y x).1
def uM9 y x:=(rX2 y x).2.1
def wR4 y x:=(rX2 y x).2.2.1
def eP y x:=(rX2 y x).2.2.2.1
def nP1 y x:=(rX2 y x).2.2.2.2
def rX5 (y:Ma)(x:Y0):Int:=
 x.2.1
def rX6 (y:Ma)(x:Y0):Int:=
 x.2.1
def nP2:=li [(2,Ag)] [(1,vI),(5,vI)] uM9 wR4 rX3 (λy x=>[ex 1 (some (eP y x)) [(4,vI)] ((rX5 y x),()),ex 2 (some (nP1 y x)) [(5,vI)] ((rX6 y x),())]) [[(4,vI)],[(5,vI)]]
def cT (d:AS)(e:Int):Prop×Int:=
 let a:=(d,())
 let c:=(e,(1:Int),())
 let b:=A3 (uM9 a) (wR4 a) c
 (AB (uM9 a) (wR4 a) (rX3 a) c,cond (eP a b) (rX5 a b) (rX6 a b))
def oE9 a b:=(cT a b).1
def Py a b:=(cT a b).2
theorem kN5:SK 94 (BC Ar vI vI oE9 Py):=fb Tryz.func94 34 [kb oE8] [(2,nP2)]
def rX7 (y:uU9)(x:CW):Vm CW:=
 let c:=y.1
 let q:=y.2.1
 let a:=x.1
 let d:Bool:=a<y.2.2.1
 let b:=nth q a A9
 let e:=Mb b c.1 c.2.1!=0
 let f:=cond (b.1<1) true (b.1≥c.2.2.2.2.1)
 let g:Bool:=Nu c b.1<a
 let h:=Nu c b.2.2.1
 let l:=b.2.2.1 !=0
 let m:=cond (h<0) true (h≥a)
 let i:=cond l (cond m true ((nth c.2.2.2.1 h A9).2.1 !=1)) false
 let n:=a-1
 let j:=!(Nv c b.2.2.1 n)
 let o:Bool:=Py c a>8
 let k:=(!e)&&((!f)&&((!g)&&((!i)&&((!j)&&(!o)))))
 (d->A6 a (len q)/\nO6 b c.1 c.2.1/\(!e->!f->rX c b.1/\(!g->rX c b.2.2.1/\((l&&(!m))->A6 h (len c.2.2.2.1))/\(!i->A5 (a-1)/\nP0 c b.2.2.1 n/\(!j->oE9 c a))))/\(k->A5 (a+1)),d&&k,(a+1,()),d&&(e||((!e)&&(f||((!f)&&(g||((!g)&&(i||((!i)&&(j||((!j)&&o)))))))))),!d)
def sM3 y x:=(rX7 y x).1
def uN y x:=(rX7 y x).2.1
def LI y x:=(rX7 y x).2.2.1
def tO y x:=(rX7 y x).2.2.2.1
def nP3 y x:=(rX7 y x).2.2.2.2
def uI2 (y:uU9)(x:CW):Int:=
 let c:=y.1
 let b:=x.1
 let a:=nth y.2.1 b A9
 let f:=Mb a c.1 c.2.1
 let d:=Nu c a.2.2.1
 let e:=cond (cond (a.2.2.1 !=0) (cond (cond (d<0) true (d≥b)) true ((nth c.2.2.2.1 d A9).2.1 !=1)) false) (9:Int) (cond (!(Nv c a.2.2.1 (b-1))) 24 12)
 (cond (f !=0) f (cond (cond (a.1<1) true (a.1≥c.2.2.2.2.1)) 2 (cond (Nu c a.1<b) 10 e)))
def nP4:=li [(1,Ag),(8,An),(9,vI)] [(10,vI)] uN LI sM3 (λy x=>[ex 1 (some (tO y x)) [(2,vI)] ((uI2 y x),()),ex 2 (some (nP3 y x)) [] ()]) [[(2,vI)],[]]
def cX (d:AS):Prop×Int:=
 let a:=(d,d.2.2.2.1,len d.2.2.2.1,())
 let c:=((0:Int),())
 let b:=A3 (uN a) (LI a) c
 (AB (uN a) (LI a) (sM3 a) c,cond (tO a b) (uI2 a b) 0)
def nP5 a:=(cX a).1
def EZ a:=(cX a).2
theorem kN6:SK 59 (AR Ar vI nP5 EZ):=fb Tryz.func59 77 [kb kN3,kb oE8,kb kN4,kb kN5] [(2,nP4)]
def rX8 (y:uZ1)(x:CW):Vm CW:=
 let f:=y.1
 let c:=y.2.1
 let a:=x.1
 let e:Bool:=a≥0
 let d:=(nth c.2.2.2.1 a A9).2.2.1==(nth c.2.2.2.1 f A9).2.2.1
 let b:=cond d (!(nth c.2.2.2.1 a A9).2.2.2.2.2.2.1) false
 (e->A6 a (len c.2.2.2.1)/\A6 f (len c.2.2.2.1)/\(d->A6 a (len c.2.2.2.1))/\(!b->A5 (a-1)),e&&(!b),(a-1,()),e&&b,!e)
def rX9 y x:=(rX8 y x).1
def tU0 y x:=(rX8 y x).2.1
def vN1 y x:=(rX8 y x).2.2.1
def rY y x:=(rX8 y x).2.2.2.1
def nP6 y x:=(rX8 y x).2.2.2.2
def sB2 (y:uZ1)(x:CW):Int:=
 x.1
def fB:=li [(1,vI),(2,Ag)] [(5,vI)] tU0 vN1 rX9 (λy x=>[ex 1 (some (rY y x)) [(4,vI)] ((sB2 y x),()),ex 2 (some (nP6 y x)) [] ()]) [[(4,vI)],[]]
def cZ (d:AS)(e:Int):Prop×Int:=
 let a:=(e,d,())
 let c:=(e-1,())
 let b:=A3 (tU0 a) (vN1 a) c
 (A5 (e-1)/\AB (tU0 a) (vN1 a) (rX9 a) c,cond (rY a b) (sB2 a b) (-1:Int))
def oF a b:=(cZ a b).1
def Iz a b:=(cZ a b).2
theorem kN7:SK 95 (BC Ar vI vI oF Iz):=fb Tryz.func95 35 [] [(2,fB)]
def f96t (a:Int):Prop×Bool:=
 (True,cond (cond (cond (a≥1) (decide (a<=6)) false) true (a==9)) true (a==10))
def nP8 a:=(f96t a).1
def Kb a:=(f96t a).2
theorem mS2:SK 96 (AR vI vB nP8 Kb):=fb Tryz.func96 17
def rY0 (y:uU9)(x:CW):Vm CW:=
 let i:=y.1
 let j:=y.2.1
 let d:=x.1
 let a:Bool:=d<y.2.2.1
 let b:=!(nth j d A9).2.2.2.2.2.2.1
 let e:=Iz i d
 let c:Bool:=e<0
 let g:=nth i.2.2.2.1 e A9
 let h:=!(Kb g.2.1)
 let f:=b||((!b)&&((!c)&&(!h)))
 (a->A6 d (len j)/\(!b->oF i d/\(!c->A6 e (len i.2.2.2.1)/\nP8 g.2.1))/\(f->A5 (d+1)),a&&f,(d+1,()),a&&((!b)&&(c||((!c)&&h))),!a)
def rY1 y x:=(rY0 y x).1
def vV8 y x:=(rY0 y x).2.1
def O4 y x:=(rY0 y x).2.2.1
def tO0 y x:=(rY0 y x).2.2.2.1
def nP9 y x:=(rY0 y x).2.2.2.2
def HZ (y:uU9)(x:CW):Int:=
 (cond (Iz y.1 x.1<0) (14:Int) 8)
def nQ:=li [(1,Ag),(7,An),(8,vI)] [(9,vI)] vV8 O4 rY1 (λy x=>[ex 1 (some (tO0 y x)) [(2,vI)] ((HZ y x),()),ex 2 (some (nP9 y x)) [] ()]) [[(2,vI)],[]]
def c8 (d:AS):Prop×Int:=
 let a:=(d,d.2.2.2.1,len d.2.2.2.1,())
 let c:=((0:Int),())
 let b:=A3 (vV8 a) (O4 a) c
 (AB (vV8 a) (O4 a) (rY1 a) c,cond (tO0 a b) (HZ a b) 0)
def nQ0 a:=(c8 a).1
def f60 a:=(c8 a).2
theorem kN8:SK 60 (AR Ar vI nQ0 f60):=fb Tryz.func60 31 [kb kN7,kb mS2] [(2,nQ)]
def rY2 (y:uA)(x:CW):Vm CW:=
 let e:=y.1
 let a:=x.1
 let b:Bool:=a<y.2.1
 let d:Bool:=BU e a<33
 let c:=cond d true (BU e a>126)
 (b->A6 a (len e)/\(!d->A6 a (len e))/\(!c->A5 (a+1)),b&&(!c),(a+1,()),b&&c,!b)
def pF9 y x:=(rY2 y x).1
def qW y x:=(rY2 y x).2.1
def sB3 y x:=(rY2 y x).2.2.1
def pG y x:=(rY2 y x).2.2.2.1
def nQ1 y x:=(rY2 y x).2.2.2.2
def rY3 (y:uA)(x:CW):Bool:=
 false
def nQ2:=li [(0,vS),(13,vI)] [(14,vI)] qW sB3 pF9 (λy x=>[ex 1 (some (pG y x)) [(2,vB)] ((rY3 y x),()),ex 2 (some (nQ1 y x)) [] ()]) [[(2,vB)],[]]
def dB (e:List UInt8):Prop×Bool:=
 let b:=cond (len e<1) true (len e>32)
 let a:=(e,len e,())
 let d:=((0:Int),())
 let c:=A3 (qW a) (sB3 a) d
 (!b->AB (qW a) (sB3 a) (pF9 a) d,cond b false (cond (pG a c) (rY3 a c) true))
def mS3 a:=(dB a).1
def f97 a:=(dB a).2
theorem kN9:SK 97 (AR vS vB mS3 f97):=fb Tryz.func97 28 [] [(4,nQ2)]
end Go.Proofs.YtadggmnllfgjcaaGreatDoor.Am
