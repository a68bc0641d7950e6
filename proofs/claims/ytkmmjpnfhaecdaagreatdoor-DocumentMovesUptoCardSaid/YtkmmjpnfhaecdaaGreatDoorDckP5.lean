/- Printed by program, part 5. No condition. -/
import Derived.Test.YtkmmjpnfhaecdaaGreatDoorDckP4
set_option linter.unusedVariables false
set_option synthInstance.maxSize 4000
set_option synthInstance.maxHeartbeats 400000
namespace Go.Proofs.YtkmmjpnfhaecdaaGreatDoor.Am
open Go Go.Am Go.Proofs
open Go.IntKind (wrap)
open _root_.Int (sub tmod toNat)
open _root_.List (length take)
def pW6 (f:(List (List A0)))(g:A0)(h i:Int):Prop×(List (List A0)):=
 let b:=i==1
 let c:=Ek g h
 let d:=i==2
 let a:=B3 h 2
 let e:=([(wrap .i64 (g.1-a),wrap .i64 (g.2.1-a),()),(wrap .i64 (g.1+a),wrap .i64 (g.2.1-a),()),(wrap .i64 (g.1+a),wrap .i64 (g.2.1+a),()),(wrap .i64 (g.1-a),wrap .i64 (g.2.1+a),())]:List A0)
 ((b->Vy g h/\IW f c)/\(!b->d->Es h 2/\IW f e),cond b (CU f c) (cond d (CU f e) f))
def sO9 a b c d:=(pW6 a b c d).1
def MQ a b c d:=(pW6 a b c d).2
theorem oN5:SK 252 (Fy Bh Aq vI vI Av sO9 MQ):=fx (λc=>{ c with wants:=[(254,[0])] }) Tryz.func252 61 [kb vK,kb sO8,kb pO7] [] [(5,[(4,0,16,0)]),(11,[(4,0,59,0)]),(13,[(4,0,400000,0)])] true
def pW7 (p:(List (List A0)))(u v w:A0)(z A:Int):Prop×(List (List A0)):=
 let m:=A==1
 let n:=Ek v z
 let a:=B5 u v z
 let b:=B5 v w z
 let o:=([v,AZ v a 1,AZ v b 1]:List A0)
 let q:=CU p o
 let r:=([v,AZ v a (-1:Int),AZ v b (-1:Int)]:List A0)
 let g:=CU q r
 let t:=wrap .i64 (wrap .i64 (wrap .i64 (v.1-u.1)*wrap .i64 (w.2.1-v.2.1))-(wrap .i64 (wrap .i64 (v.2.1-u.2.1)*wrap .i64 (w.1-v.1))))
 let f:=wrap .i64 (wrap .i64 (z*z)+wrap .i64 (4*wrap .i64 (wrap .i64 (a.1*b.1)+wrap .i64 (a.2.1*b.2.1))))
 let h:=cond (cond (A !=0) true (t==0)) true (f<=0)
 let i:=wrap .i64 (wrap .i64 (z*z)*wrap .i64 (a.1+b.1))
 let d:=B3 i f
 let j:=wrap .i64 (wrap .i64 (z*z)*wrap .i64 (a.2.1+b.2.1))
 let e:=B3 j f
 let s:=(d,e,())
 let k:Bool:=Fl d e>wrap .i64 (4*z)
 let c:=cond (t>0) (-1:Int) 1
 let l:=([v,AZ v a c,AZ v s c,AZ v b c]:List A0)
 ((m->Vy v z/\IW p n)/\(!m->RJ u v z/\RJ v w z/\Fe v a 1/\Fe v b 1/\IW p o/\Fe v a (-1:Int)/\Fe v b (-1:Int)/\IW q r/\(!h->Es i f/\Es j f/\aJ d e/\(!k->Fe v a c/\Fe v s c/\Fe v b c/\IW g l))),cond m (CU p n) (cond h g (cond k g (CU g l))))
def sP a b c d e f:=(pW7 a b c d e f).1
def V2 a b c d e f:=(pW7 a b c d e f).2
theorem oN6:SK 256 (sp6 Bh Aq Aq Aq vI vI Av sP V2):=fx (λc=>{ c with wants:=[(254,[0])] }) Tryz.func256 154 [kb vK,kb nF2,kb sO8,kb nF3,kb pO7,kb pO8] [] [(5,[(4,0,25,0)]),(9,[(4,0,43,400000)]),(11,[(4,0,53,400000)]),(19,[(4,0,400000,0)]),(25,[(4,0,400000,0)]),(33,[(4,0,153,0)])] true
abbrev vG:Type:=((List A0)×Bool×Int×Int×Int×Int×Int×Unit)
def tH8 (y:vG)(x:CM):Vn CM:=
 let i:=y.1
 let k:=y.2.2.1
 let e:=(Q1 y).1
 let j:=x.1
 let b:=x.2.1
 let f:Bool:=b<(Q3 y).1
 let c:=nth i b A1
 let g:=tmod (b+1) e
 let d:=nth i g A1
 let a:=B5 c d k
 let h:=([AZ c a 1,AZ d a 1,AZ d a (-1:Int),AZ c a (-1:Int)]:List A0)
 (f->A7 b (len i)/\A6 (b+1)/\e≠0/\A7 g (len i)/\RJ c d k/\Fe c a 1/\Fe d a 1/\Fe d a (-1:Int)/\Fe c a (-1:Int)/\IW j h/\A6 (b+1),f,(CU j h,b+1,()))
def vM6 y x:=(tH8 y x).1
def JI y x:=(tH8 y x).2.1
def JJ y x:=(tH8 y x).2.2
def aM (y:vG)(x:CM):(List (List A0)):=
 x.1
def tS3:List (Nat×Sh):=[(0,Bh),(1,Bd),(2,vB),(3,vI),(4,vI),(5,vI),(13,vI)]
def rY8:=li [(1,Bd),(2,vB),(3,vI),(4,vI),(5,vI),(13,vI),(14,vI)] [(0,Bh),(15,vI)] JI JJ vM6 (λy x=>[ex 2 none tS3 ((aM y x),y.1,y.2.1,y.2.2.1,y.2.2.2.1,y.2.2.2.2.1,(Q1 y).1,())]) [tS3]
abbrev vG0:Type:=((List A0)×Bool×Int×Int×Int×Int×Unit)
def tH9 (y:vG0)(x:CM):Vn CM:=
 let h:=y.1
 let o:=y.2.2.1
 let q:=y.2.2.2.1
 let b:=(Q1 y).1
 let n:=x.1
 let a:=x.2.1
 let i:Bool:=a<b
 let j:=!y.2.1
 let k:Bool:=a>0
 let l:=cond j true (cond k (decide (a<(b-1))) false)
 let m:=a+b
 let c:=tmod (m-1) b
 let d:=nth h c A1
 let e:=nth h a A1
 let f:=tmod (a+1) b
 let g:=nth h f A1
 (i->(((!j)&&k)->A6 (b-1))/\(l->A6 (a+b)/\A6 (m-1)/\b≠0/\A7 c (len h)/\A7 a (len h)/\A6 (a+1)/\b≠0/\A7 f (len h)/\sP n d e g o q)/\A6 (a+1),i,(cond l (V2 n d e g o q) n,a+1,()))
def aN y x:=(tH9 y x).1
def KE y x:=(tH9 y x).2.1
def KF y x:=(tH9 y x).2.2
def wY9 (y:vG0)(x:CM):(List (List A0)):=
 x.1
def tS4:List (Nat×Sh):=[(0,Bh),(1,Bd),(2,vB),(3,vI),(5,vI),(13,vI)]
def rY9:=li [(1,Bd),(2,vB),(3,vI),(4,vI),(5,vI),(13,vI)] [(0,Bh),(19,vI)] KE KF aN (λy x=>[ex 4 none tS4 ((wY9 y x),y.1,y.2.1,y.2.2.1,y.2.2.2.2.1,(Q1 y).1,())]) [tS4]
def pW8 (p:(List (List A0)))(D:List A0)(G:Bool)(I S T:Int):Prop×(List (List A0)):=
 let d:=len D
 let N:=d==0
 let M:=d==1
 let O:=nth D 0 A1
 let i:=(D,G,I,S,T,d,cond G (d-1) d,())
 let Q:=(p,(0:Int),())
 let j:=(D,G,I,S,T,d,())
 let R:=(aM i (A3 (JI i) (JJ i) Q),(0:Int),())
 let c:=wY9 j (A3 (KE j) (KF j) R)
 let l:=cond (!G) true (T==0)
 let k:=T==1
 let m:=nth D 0 A1
 let n:=Ek m I
 let o:=CU c n
 let q:=d-1
 let r:=nth D q A1
 let s:=Ek r I
 let a:=nth D 0 A1
 let t:=d-1
 let b:=nth D t A1
 let u:=nth D 1 A1
 let e:=B5 a u I
 let v:=nth D 1 A1
 let g:=FZ a v I
 let w:=AZ a g (-1:Int)
 let z:=AZ a g (-1:Int)
 let A:=([AZ w e 1,AZ a e 1,AZ a e (-1:Int),AZ z e (-1:Int)]:List A0)
 let B:=CU c A
 let C:=d-2
 let E:=nth D C A1
 let f:=B5 E b I
 let F:=d-2
 let H:=nth D F A1
 let h:=FZ H b I
 let J:=AZ b h 1
 let K:=AZ b h 1
 let L:=([AZ b f 1,AZ J f 1,AZ K f (-1:Int),AZ b f (-1:Int)]:List A0)
 ((!N)->(M->A7 0 (len D)/\sO9 p O I T)/\((!M)->(G->A6 (d-1))/\AB (JI i) (JJ i) (vM6 i) Q/\AB (KE j) (KF j) (aN j) R/\(!l->(k->A7 0 (len D)/\Vy m I/\IW c n/\A6 (d-1)/\A7 q (len D)/\Vy r I/\IW o s)/\(!k->A7 0 (len D)/\A6 (d-1)/\A7 t (len D)/\A7 1 (len D)/\RJ a u I/\A7 1 (len D)/\qP4 a v I/\Fe a g (-1:Int)/\Fe w e 1/\Fe a e 1/\Fe a e (-1:Int)/\Fe a g (-1:Int)/\Fe z e (-1:Int)/\IW c A/\A6 (d-2)/\A7 C (len D)/\RJ E b I/\A6 (d-2)/\A7 F (len D)/\qP4 H b I/\Fe b f 1/\Fe b h 1/\Fe J f 1/\Fe b h 1/\Fe K f (-1:Int)/\Fe b f (-1:Int)/\IW B L))),cond N p (cond M (MQ p O I T) (cond l c (cond k (CU o s) (CU B L)))))
def tO5 a b c d e f:=(pW8 a b c d e f).1
def KG a b c d e f:=(pW8 a b c d e f).2
theorem oN7:SK 219 (sp6 Bh Bd vB vI vI vI Av tO5 KG):=fx (λc=>{ c with wants:=[(252,[0]),(254,[0]),(256,[0])] }) Tryz.func219 216 [kb oN5,kb nF2,kb sO8,kb nF3,kb oN6,kb pO7,kb lG4] [(10,rY8),(16,rY9)] [(7,[(4,0,400000,0)]),(11,[(4,0,37,0)]),(29,[(4,0,76,400000)]),(39,[(4,0,117,400000)]),(43,[(4,0,400000,0)]),(47,[(4,0,141,0)]),(53,[(4,0,180,400000)]),(57,[(4,0,215,0)])]
abbrev wW2:Type:=((List (List A0))×(List Bool)×Int×Int×Int×Int×Unit)
def RL (y:wW2)(x:CM):Vm CM:=
 let k:=y.1
 let j:=y.2.1
 let l:=y.2.2.1
 let m:=y.2.2.2.1
 let n:=y.2.2.2.2.1
 let e:=x.1
 let a:=x.2.1
 let b:Bool:=a<(Q1 y).1
 let f:=nth k a []
 let g:=nth j a false
 let h:=F3 f g
 let i:=nth j a false
 let c:=KG e h i l m n
 let d:Bool:=HO c>4096
 (b->A7 a (len k)/\A7 a (len j)/\qP7 f g/\A7 a (len j)/\tO5 e h i l m n/\qP9 c/\(!d->A6 (a+1)),b&&(!d),(c,a+1,()),b&&d,!b)
def tV6 y x:=(RL y x).1
def OL y x:=(RL y x).2.1
def LD y x:=(RL y x).2.2.1
def RM y x:=(RL y x).2.2.2.1
def pO9 y x:=(RL y x).2.2.2.2
def sE7 (y:wW2)(x:CM):(List (List A0)):=
 []
def sE8 (y:wW2)(x:CM):Int:=
 3
def rO3:List (Nat×Sh):=[(10,Av),(11,vI)]
def sE9 (y:wW2)(x:CM):(List (List A0)):=
 x.1
def rO4:List (Nat×Sh):=[(13,(.own Ad 1013 false))]
def pP:=li [(0,Aj),(1,Ea),(2,vI),(3,vI),(4,vI),(33,vI)] [(13,(.own Ad 1013 false)),(34,vI)] OL LD tV6 (λy x=>[ex 1 (some (RM y x)) rO3 ((sE7 y x),(sE8 y x),()),ex 2 (some (pO9 y x)) rO4 ((sE9 y x),())]) [rO3,rO4]
def kC8 (j:(List (List A0)))(k:List Bool)(l m n:Int):Prop×((List (List A0))×Int×Unit):=
 let g:=f218 l m n
 let d:=g !=0
 let h:=E5 j 0
 let e:=h !=0
 let f:=len k !=len j
 let a:=(j,k,l,m,n,len j,())
 let i:=(([]:List (List A0)),(0:Int),())
 let c:=A3 (OL a) (LD a) i
 let b:=RM a c
 (nE9 l m n/\(!d->OK j 0/\(!e->!f->AB (OL a) (LD a) (tV6 a) i)),(cond d [] (cond e [] (cond f [] (cond b (sE7 a c) (sE9 a c)))),cond d g (cond e h (cond f 15 (cond b (sE8 a c) 0))),()))
def qQ0 a b c d e:=(kC8 a b c d e).1
def HP a b c d e:=(kC8 a b c d e).2
theorem lG7:SK 186 (sp5 Aj Ea vI vI vI (.tup (.cons Av (.cons vI .nl))) qQ0 HP):=fx (λc=>{ c with wants:=[(219,[0])] }) Tryz.func186 60 [kb pO5,kb lF1,kb oN7,kb lG5,kb lG6] [(11,pP)] [(27,[(4,0,54,1013)]),(35,[(4,0,1013,0)])]
def kC9 (o:AI):Prop×Int:=
 let a:=Ee (Q8 o).1 (Q2 o).1
 let h:=a.2.1 !=0
 let i:=cond ((Qi o).1 !=0) ((Qi o).1 !=1) false
 let b:=DC a.1
 let f:=(Qc o).1==0
 let c:=cond ((Qf o).1 !=0) true ((Qg o).1 !=0)
 let j:=E5 b.1 (Qi o).1
 let d:=j !=0
 let k:=HN a.1
 let e:=HP b.1 k.1 (Qc o).1 (Qf o).1 (Qg o).1
 let l:=e.2.1 !=0
 let m:=E5 e.1 0
 let n:=m !=0
 let g:=cond ((c||((!c)&&(d||(!d))))&&f) (cond c 1 (cond d j (GG (Q9 o).1))) (cond l e.2.1 (cond n m (GG (Q9 o).1)))
 (qO7 (Q8 o).1 (Q2 o).1/\(!h->!i->ZZ a.1/\(f->!c->OK b.1 (Qi o).1/\(!d->OG (Q9 o).1))/\(!f->qP0 a.1/\qQ0 b.1 k.1 (Qc o).1 (Qf o).1 (Qg o).1/\(!l->OK e.1 0/\(!n->OG (Q9 o).1)))),cond h a.2.1 (cond i 8 g))
def pP0 a:=(kC9 a).1
def KH a:=(kC9 a).2
theorem lG8:SK 151 (AU Bc vI pP0 KH):=fb Tryz.func151 85 [kb pN6,kb lE7,kb nE7,kb pO5,kb lF0,kb lG7] [] [(3,[(4,0,17,1003)]),(31,[(4,0,71,1010)])]
def V3 (y:Er)(x:AD):Vm AD:=
 let f:=y.1
 let g:=y.2.1
 let d:=x.1
 let e:=nth f g A5
 let b:Bool:=d<B8 e.1
 let a:=nth (nth f g A5).2.1 d A1
 let c:Bool:=GW (GW (GW a.1 (sub 0 a.1)) a.2.1) (sub 0 a.2.1)>65536
 (A7 g (len f)/\R7 e.1/\(b->A7 g (len f)/\A7 d 3/\A6 (sub 0 a.1)/\A6 (sub 0 a.2.1)/\(!c->A6 (d+1))),b&&(!c),(d+1,()),b&&c,!b)
def qF0 y x:=(V3 y x).1
def RN y x:=(V3 y x).2.1
def V4 y x:=(V3 y x).2.2.1
def sP1 y x:=(V3 y x).2.2.2.1
def sP2 y x:=(V3 y x).2.2.2.2
def sX5 (y:Er)(x:AD):Bool:=
 false
def qF1:List (Nat×Sh):=[(0,Ai),(3,vI)]
def oN8:=li [(0,Ai),(3,vI)] [(4,vI)] RN V4 qF0 (λy x=>[ex 1 (some (sP1 y x)) [(2,vB)] ((sX5 y x),()),ex 4 (some (sP2 y x)) qF1 (y.1,y.2.1,())]) [[(2,vB)],qF1]
def OM (y:OI)(x:AD):Vm AD:=
 let e:=y.1
 let c:=x.1
 let d:Bool:=c<len e
 let b:=(e,c,())
 let g:=((0:Int),())
 let f:=A3 (RN b) (V4 b) g
 let a:=sP2 b f
 (d->AB (RN b) (V4 b) (qF0 b) g/\(a->A6 (c+1)),d&&a,(c+1,()),d&&sP1 b f,!d)
def qF2 y x:=(OM y x).1
def IX y x:=(OM y x).2.1
def KI y x:=(OM y x).2.2.1
def aO y x:=(OM y x).2.2.2.1
def oN9 y x:=(OM y x).2.2.2.2
def uI5 (y:OI)(x:AD):Bool:=
 let a:=(y.1,x.1,())
 (sX5 a (A3 (RN a) (V4 a) (0,())))
def oO:=li [(0,Ai)] [(3,vI)] IX KI qF2 (λy x=>[ex 1 (some (aO y x)) [(2,vB)] ((uI5 y x),()),ex 2 (some (oN9 y x)) [] ()]) [[(2,vB)],[]]
def kD (d:List AA):Prop×Bool:=
 let a:=(d,())
 let c:=((0:Int),())
 let b:=A3 (IX a) (KI a) c
 (AB (IX a) (KI a) (qF2 a) c,cond (aO a b) (uI5 a b) true)
def pP1 a:=(kD a).1
def KJ a:=(kD a).2
theorem lG9:SK 281 (AU Ai vB pP1 KJ):=fb Tryz.func281 41 [kb ZL] [(2,oO),(5,oN8)]
abbrev uD5:Type:=(A8×Unit)
def ON (y:uD5)(x:AD):Vm AD:=
 let h:=y.1
 let f:=x.1
 let b:Bool:=f<len h.2.2.2.1
 let a:=nth h.2.2.2.1 f BH
 let g:Bool:=f>0
 let j:=f-1
 let c:=cond g (decide (a.1<=(nth h.2.2.2.1 j BH).1)) false
 let d:=cond (a.2.1<0) true (a.2.1>65536)
 let e:=CD a.2.2.1!=0
 let k:=!(KJ a.2.2.1)
 let i:=(!c)&&((!d)&&((!e)&&(!k)))
 (b->A7 f (len h.2.2.2.1)/\(g->A6 (f-1))/\(g->A7 j (len h.2.2.2.1))/\(!c->!d->Vo a.2.2.1/\(!e->pP1 a.2.2.1))/\(i->A6 (f+1)),b&&i,(f+1,()),b&&(c||((!c)&&(d||((!d)&&(e||((!e)&&k)))))),!b)
def qF3 y x:=(ON y x).1
def V5 y x:=(ON y x).2.1
def uI7 y x:=(ON y x).2.2.1
def tO7 y x:=(ON y x).2.2.2.1
def qF4 y x:=(ON y x).2.2.2.2
def uI8 (y:uD5)(x:AD):Int:=
 let e:=y.1
 let d:=x.1
 let a:=nth e.2.2.2.1 d BH
 let c:=CD a.2.2.1
 let b:=cond (cond (d>0) (decide (a.1<=(nth e.2.2.2.1 (d-1) BH).1)) false) 24 (cond (cond (a.2.1<0) true (a.2.1>65536)) 2 (cond (c !=0) c 2))
 b
def oO0:=li [(1,Ah)] [(3,vI)] V5 uI7 qF3 (λy x=>[ex 1 (some (tO7 y x)) [(2,vI)] ((uI8 y x),()),ex 2 (some (qF4 y x)) [(1,Ah)] (y.1,())]) [[(2,vI)],[(1,Ah)]]
def OO (y:uD5)(x:AD):Vm AD:=
 let i:=y.1
 let e:=x.1
 let d:Bool:=e<len i.2.2.2.2.1
 let a:=nth i.2.2.2.2.1 e BU
 let b:Bool:=e>0
 let f:=e-1
 let c:=nth i.2.2.2.2.1 f BU
 let g:=cond (a.1<c.1) true (cond (a.1==c.1) (decide (a.2.1<=c.2.1)) false)
 let j:=cond b (!g) true
 let h:=cond (a.2.2.1<(-65536)) true (a.2.2.1>65536)
 let k:=j&&(!h)
 (d->A7 e (len i.2.2.2.2.1)/\(b->A6 (e-1)/\A7 f (len i.2.2.2.2.1))/\(k->A6 (e+1)),d&&k,(e+1,()),d&&((g&&b)||(j&&h)),!d)
def rO5 y x:=(OO y x).1
def V6 y x:=(OO y x).2.1
def vT1 y x:=(OO y x).2.2.1
def uT4 y x:=(OO y x).2.2.2.1
def pP2 y x:=(OO y x).2.2.2.2
def vT2 (y:uD5)(x:AD):Int:=
 let d:=y.1
 let c:=x.1
 let a:=nth d.2.2.2.2.1 c BU
 let b:=nth d.2.2.2.2.1 (c-1) BU
 (cond ((cond (a.1<b.1) true (cond (a.1==b.1) (decide (a.2.1<=b.2.1)) false))&&(c>0)) (24:Int) 2)
def pP3:=li [(1,Ah)] [(6,vI)] V6 vT1 rO5 (λy x=>[ex 1 (some (uT4 y x)) [(2,vI)] ((vT2 y x),()),ex 4 (some (pP2 y x)) [] ()]) [[(2,vI)],[]]
def kD0 (i:A8):Prop×Int:=
 let d:=cond (cond (cond (cond (cond (i.1<1) true (i.1>65536)) true (i.2.1<0)) true (i.2.1>65536)) true (i.2.2.1<0)) true (i.2.2.1>65536)
 let e:=cond (len i.2.2.2.1>256) true (len i.2.2.2.2.1>256)
 let b:=(i,())
 let h:=((0:Int),())
 let g:=A3 (V5 b) (uI7 b) h
 let a:=(i,())
 let f:=((0:Int),())
 let c:=A3 (V6 a) (vT1 a) f
 (!d->!e->AB (V5 b) (uI7 b) (qF3 b) h/\(qF4 b g->AB (V6 a) (vT1 a) (rO5 a) f),cond d 2 (cond e 3 (cond (tO7 b g) (uI8 b g) (cond (uT4 a c) (vT2 a c) 0))))
def qQ1 a:=(kD0 a).1
def Ga a:=(kD0 a).2
theorem nF4:SK 259 (AU Bm vI qQ1 Ga):=fb Tryz.func259 138 [kb qO6,kb lG9] [(6,oO0),(19,pP3)]
abbrev uD6:Type:=((List (List UInt8))×Int×Int×Unit)
def rC4 (y:Oc)(x:uD6):Vn uD6:=
 let c:=y.1
 let h:=x.1
 let g:=x.2.1
 let a:=x.2.2.1
 let d:Bool:=a<=len c
 let e:=a==len c
 let b:=cond e true (wD c a==y.2.1)
 let f:=([List.drop (toNat g) (take (toNat a) c)]:List (List UInt8))
 (d->(!e->A7 a (len c))/\(b->(0<=g/\g<=a/\a<=len c)/\((length h+length f:Nat):Int)<=4294967296/\A6 (a+1))/\A6 (a+1),d,(cond b (h++f) h,cond b (a+1) g,a+1,()))
def qF5 y x:=(rC4 y x).1
def OP y x:=(rC4 y x).2.1
def MR y x:=(rC4 y x).2.2
def sX6 (y:Oc)(x:uD6):(List (List UInt8)):=
 x.1
def oO1:=li [(0,vS),(1,Bb)] [(5,Dl),(6,vI),(7,vI)] OP MR qF5 (λy x=>[ex 2 none [(5,Dl)] ((sX6 y x),())]) [[(5,Dl)]]
def kD1 (c:List UInt8)(d:Int):Prop×(List (List UInt8)):=
 let a:=(c,d,())
 let b:=(([]:List (List UInt8)),(0:Int),(0:Int),())
 (AB (OP a) (MR a) (qF5 a) b,sX6 a (A3 (OP a) (MR a) b))
def aP a b:=(kD1 a b).1
def GL a b:=(kD1 a b).2
theorem lH:SK 260 (BG vS Bb Dr aP GL):=fb Tryz.func260 36 [] [(4,oO1)] [(3,[(4,0,8,1005)]),(15,[(4,0,32,1005)]),(19,[(4,0,1005,0)])]
abbrev vQ:Type:=(Int×A8×Unit)
def RO (y:vQ)(x:CT):Vm CT:=
 let d:=y.2.1
 let c:=x.2.1
 let a:Bool:=c<len d.2.2.2.1
 let b:=(nth d.2.2.2.1 c BH).1==y.1
 (a->A7 c (len d.2.2.2.1)/\(!b->A7 c (len d.2.2.2.1))/\(!b->A6 (c+1)),a&&(!b),(cond ((nth d.2.2.2.1 c BH).1==63) c x.1,c+1,()),a&&b,!a)
def qF6 y x:=(RO y x).1
def LF y x:=(RO y x).2.1
def OQ y x:=(RO y x).2.2.1
def aQ y x:=(RO y x).2.2.2.1
def oO2 y x:=(RO y x).2.2.2.2
def sX7 (y:vQ)(x:CT):Int:=
 x.2.1
def sX8 (y:vQ)(x:CT):Int:=
 x.1
def oO3:=li [(1,Bb),(2,Ah)] [(5,vI),(6,vI)] LF OQ qF6 (λy x=>[ex 1 (some (aQ y x)) [(4,vI)] ((sX7 y x),()),ex 2 (some (oO2 y x)) [(5,vI)] ((sX8 y x),())]) [[(4,vI)],[(5,vI)]]
def kD2 (d:A8)(e:Int):Prop×Int:=
 let a:=(e,d,())
 let c:=((-1:Int),(0:Int),())
 let b:=A3 (LF a) (OQ a) c
 (AB (LF a) (OQ a) (qF6 a) c,cond (aQ a b) (sX7 a b) (sX8 a b))
def pP4 a b:=(kD2 a b).1
def IY a b:=(kD2 a b).2
theorem lH0:SK 262 (BG Bm Bb vI pP4 IY):=fb Tryz.func262 32 [] [(3,oO3)]
abbrev tI0:Type:=((List UInt8)×A8×Unit)
def qQ2 (y:tI0)(x:Fj):Vn Fj:=
 let g:=y.1
 let i:=y.2.1
 let h:=x.1
 let a:=x.2.1
 let b:=cond (a<len g) (decide (a<128)) false
 let c:=wD g a
 let d:=IY i c
 let e:Bool:=d≥0
 let f:=([d]:List Int)
 (b->A7 a (len g)/\pP4 i c/\(e->((length h+length f:Nat):Int)<=4294967296)/\A6 (a+1),b,(cond e (h++f) h,a+1,()))
def qF7 y x:=(qQ2 y x).1
def RP y x:=(qQ2 y x).2.1
def aR y x:=(qQ2 y x).2.2
def tI1 (y:tI0)(x:Fj):(List Int):=
 x.1
def qF8:List (Nat×Sh):=[(5,Au)]
def oO4:=li [(1,vS),(2,Ah)] [(5,Au),(6,vI)] RP aR qF7 (λy x=>[ex 2 none qF8 ((tI1 y x),())]) [qF8]
def kD3 (c:A8)(d:List UInt8):Prop×(List Int):=
 let a:=(d,c,())
 let b:=(([]:List Int),(0:Int),())
 (AB (RP a) (aR a) (qF7 a) b,tI1 a (A3 (RP a) (aR a) b))
def qQ3 a b:=(kD3 a b).1
def AW a b:=(kD3 a b).2
theorem nF5:SK 223 (BG Bm vS Bg qQ3 AW):=fb Tryz.func223 31 [kb lH0] [(3,oO4)] [(3,[(4,0,8,1005)]),(15,[(4,0,29,1005)]),(17,[(4,0,1005,0)])]
abbrev uD9:Type:=(Int×Int×A8×Unit)
def V7 (y:uD9)(x:AD):Vm AD:=
 let d:=y.2.2.1
 let c:=x.1
 let a:Bool:=c<len d.2.2.2.2.1
 let e:=(nth d.2.2.2.2.1 c BU).1==y.1
 let b:=cond e ((nth d.2.2.2.2.1 c BU).2.1==y.2.1) false
 (a->A7 c (len d.2.2.2.2.1)/\(e->A7 c (len d.2.2.2.2.1))/\(b->A7 c (len d.2.2.2.2.1))/\(!b->A6 (c+1)),a&&(!b),(c+1,()),a&&b,!a)
def qF9 y x:=(V7 y x).1
def uE y x:=(V7 y x).2.1
def vC y x:=(V7 y x).2.2.1
def tO9 y x:=(V7 y x).2.2.2.1
def oO5 y x:=(V7 y x).2.2.2.2
def sX9 (y:uD9)(x:AD):Int:=
 (nth y.2.2.1.2.2.2.2.1 x.1 BU).2.2.1
def oO6:=li [(1,Bb),(2,Bb),(3,Ah)] [(7,vI)] uE vC qF9 (λy x=>[ex 1 (some (tO9 y x)) [(6,vI)] ((sX9 y x),()),ex 2 (some (oO5 y x)) [] ()]) [[(6,vI)],[]]
def kD4 (d:A8)(e f:Int):Prop×Int:=
 let a:=(e,f,d,())
 let c:=((0:Int),())
 let b:=A3 (uE a) (vC a) c
 (AB (uE a) (vC a) (qF9 a) c,cond (tO9 a b) (sX9 a b) 0)
def pP5 a b c:=(kD4 a b c).1
def EU a b c:=(kD4 a b c).2
theorem lH1:SK 263 (DT Bm Bb Bb vI pP5 EU):=fb Tryz.func263 39 [] [(2,oO6)]
abbrev uN5:Type:=((List Int)×A8×Unit)
def qQ4 (y:uN5)(x:UD):Vn UD:=
 let c:=y.1
 let b:=y.2.1
 let r:=x.1
 let o:=x.2.1
 let a:=x.2.2.1
 let d:Bool:=a<len c
 let e:Bool:=a>0
 let f:=a-1
 let g:=nth c f 0
 let h:=nth b.2.2.2.1 g BH
 let i:=nth c a 0
 let j:=nth b.2.2.2.1 i BH
 let k:=EU b h.1 j.1
 let q:=cond e (o+k) o
 let l:=([q]:List Int)
 let m:=nth c a 0
 let n:=nth b.2.2.2.1 m BH
 (d->(e->A6 (a-1)/\A7 f (len c)/\A7 g (len b.2.2.2.1)/\A7 a (len c)/\A7 i (len b.2.2.2.1)/\pP5 b h.1 j.1/\A6 (o+k))/\((length r+length l:Nat):Int)<=4294967296/\A7 a (len c)/\A7 m (len b.2.2.2.1)/\A6 (q+n.2.1)/\A6 (a+1),d,(r++l,q+n.2.1,a+1,()))
def qG y x:=(qQ4 y x).1
def KK y x:=(qQ4 y x).2.1
def KL y x:=(qQ4 y x).2.2
def aS (y:uN5)(x:UD):(List Int):=
 x.1
def uI9 (y:uN5)(x:UD):Int:=
 x.2.1
def qG0:List (Nat×Sh):=[(5,Au),(6,vI)]
def oO7:=li [(1,Ak),(2,Ah)] [(5,Au),(6,vI),(7,vI)] KK KL qG (λy x=>[ex 2 none qG0 ((aS y x),(uI9 y x),())]) [qG0]
def kD5 (f:A8)(g:List Int):Prop×(List Int):=
 let b:=(g,f,())
 let e:=(([]:List Int),(0:Int),(0:Int),())
 let d:=A3 (KK b) (KL b) e
 let a:=aS b d
 let c:=([uI9 b d]:List Int)
 (AB (KK b) (KL b) (qG b) e/\((length a+length c:Nat):Int)<=4294967296,a++c)
def aT a b:=(kD5 a b).1
def f224 a b:=(kD5 a b).2
theorem nF6:SK 224 (BG Bm Ak Bg aT f224):=fb Tryz.func224 59 [kb lH1] [(4,oO7)] [(3,[(4,0,8,1005)]),(17,[(4,0,43,1005)]),(21,[(4,0,58,0)])]
def kD6 (i:A8)(j:List UInt8)(k:Int):Prop×Int:=
 let b:=Ga i !=0
 let c:=AW i j
 let a:=f224 i c
 let d:=len a
 let e:=d-1
 let f:=nth a e 0
 let g:=K6 k 1 1048576
 let h:=f*g
 (qQ1 i/\(!b->qQ3 i j/\aT i c/\A6 (d-1)/\A7 e (len a)/\ZB k 1 1048576/\A6 (f*g)/\Es h i.1),cond b 0 (B3 h i.1))
def V8 a b c:=(kD6 a b c).1
def f261 a b c:=(kD6 a b c).2
theorem lH2:SK 261 (DT Bm vS vI vI V8 f261):=fb Tryz.func261 28 [kb vK,kb qO2,kb nF5,kb nF6,kb nF4] [] [(7,[(4,0,15,1007)])]
abbrev vQ3:Type:=((List UInt8)×Int×Int×A8×Unit)
def tP (y:vQ3)(x:AD):Vm AD:=
 let c:=y.1
 let a:=x.1
 let b:Bool:=a<len c
 let d:=wD c a !=10
 let f:Bool:=wD c a<32
 let e:=cond d (cond f true (wD c a>126)) false
 (b->A7 a (len c)/\(d->A7 a (len c))/\((d&&(!f))->A7 a (len c))/\(!e->A6 (a+1)),b&&(!e),(a+1,()),b&&e,!b)
def sP4 y x:=(tP y x).1
def OR y x:=(tP y x).2.1
def wU y x:=(tP y x).2.2.1
def sP5 y x:=(tP y x).2.2.2.1
def qG1 y x:=(tP y x).2.2.2.2
def sY (y:vQ3)(x:AD):(List (List UInt8)):=
 []
def sY0 (y:vQ3)(x:AD):Int:=
 4
def qG2:List (Nat×Sh):=[(8,Dr),(9,vI)]
def qG3:List (Nat×Sh):=[(1,vS),(2,vI),(3,vI),(4,Ah)]
def oO8:=li [(1,vS),(2,vI),(3,vI),(4,Ah)] [(11,vI)] OR wU sP4 (λy x=>[ex 1 (some (sP5 y x)) qG2 ((sY y x),(sY0 y x),()),ex 2 (some (qG1 y x)) qG3 (y.1,y.2.1,y.2.2.1,y.2.2.2.1,())]) [qG2,qG3]
abbrev vW5:Type:=(Int×Int×A8×(List (List UInt8))×Int×(List (List UInt8))×Unit)
def rO8 (y:vW5)(x:NY):Vn NY:=
 let l:=y.1
 let m:=y.2.1
 let n:=y.2.2.1
 let b:=(Q1 y).1
 let e:=x.1
 let f:=x.2.1
 let a:=x.2.2.1
 let h:Bool:=a<len b
 let i:=f++([32]:List UInt8)
 let j:=nth b a []
 let g:=i++j
 let k:=m==0
 let c:=cond k true (f261 n g l<=m)
 let d:=([f]:List (List UInt8))
 (h->((length f+length ([32]:List UInt8):Nat):Int)<=9223372036854775807/\A7 a (len b)/\((length i+length j:Nat):Int)<=9223372036854775807/\(!k->V8 n g l)/\(c=false->((length e+length d:Nat):Int)<=4294967296/\A7 a (len b))/\A6 (a+1),h,(cond c e (e++d),cond c g (nth b a []),a+1,()))
def tV7 y x:=(rO8 y x).1
def MS y x:=(rO8 y x).2.1
def MT y x:=(rO8 y x).2.2
def vT3 (y:vW5)(x:NY):(List (List UInt8)):=
 x.1
def uT6 (y:vW5)(x:NY):(List UInt8):=
 x.2.1
def rO9:List (Nat×Sh):=[(2,vI),(3,vI),(4,Ah),(12,Ch),(13,Dm),(14,vI),(16,vS)]
def pP6:=li [(2,vI),(3,vI),(4,Ah),(13,Dm),(14,vI),(15,(.own .str 1015 false))] [(12,Ch),(16,vS),(17,vI)] MS MT tV7 (λy x=>[ex 6 none rO9 (y.1,y.2.1,y.2.2.1,(vT3 y x),y.2.2.2.1,y.2.2.2.2.1,(uT6 y x),())]) [rO9]
abbrev uN6:Type:=(Int×Int×A8×(List (List UInt8))×Unit)
def sF (y:uN6)(x:Ub):Vn Ub:=
 let d:=y.2.2.2.1
 let c:=x.2.1
 let h:Bool:=c<len d
 let i:=nth d c []
 let f:=GL i 32
 let b:=(y.1,y.2.1,y.2.2.1,d,c,f,())
 let j:=(x.1,nth f 0 [],(1:Int),())
 let g:=A3 (MS b) (MT b) j
 let a:=vT3 b g
 let e:=([uT6 b g]:List (List UInt8))
 (h->A7 c (len d)/\aP i 32/\A7 0 (len f)/\AB (MS b) (MT b) (tV7 b) j/\((length a+length e:Nat):Int)<=4294967296/\A6 (c+1),h,(a++e,c+1,()))
def uT7 y x:=(sF y x).1
def V9 y x:=(sF y x).2.1
def MU y x:=(sF y x).2.2
def sF0 (y:uN6)(x:Ub):(List (List UInt8)):=
 x.1
def pP7:=li [(2,vI),(3,vI),(4,Ah),(13,Dm)] [(12,Ch),(14,vI)] V9 MU uT7 (λy x=>[ex 4 none [(12,Ch)] ((sF0 y x),())]) [[(12,Ch)]]
def nZ3 (k:A8)(l:List UInt8)(m n:Int):Prop×((List (List UInt8))×Int×Unit):=
 let g:=Ga k
 let d:=g !=0
 let b:=(l,m,n,k,())
 let j:=((0:Int),())
 let i:=A3 (OR b) (wU b) j
 let c:=sP5 b i
 let e:Bool:=len l>128
 let f:=cond (cond (cond (m<1) true (m>1048576)) true (n<0)) true (n>1048576)
 let a:=(m,n,k,GL l 10,())
 let h:=(([]:List (List UInt8)),(0:Int),())
 (qQ1 k/\(!d->AB (OR b) (wU b) (sP4 b) j/\(qG1 b i->!e->!f->aP l 10/\AB (V9 a) (MU a) (uT7 a) h)),(cond d [] (cond c (sY b i) (cond e [] (cond f [] (sF0 a (A3 (V9 a) (MU a) h))))),cond d g (cond c (sY0 b i) (cond e 3 (cond f 2 0))),()))
def qQ5 a b c d:=(nZ3 a b c d).1
def MV a b c d:=(nZ3 a b c d).2
theorem lH3:SK 222 (Fy Bm vS vI vI (.tup (.cons Dr (.cons vI .nl))) qQ5 MV):=fb Tryz.func222 117 [kb nF4,kb lH,kb lH2] [(5,oO8),(16,pP7),(21,pP6)] [(27,[(4,0,63,1012)]),(29,[(4,0,65,1013)]),(37,[(4,0,76,1015)]),(53,[(4,0,107,1012)]),(57,[(4,0,115,1012)]),(59,[(4,0,1012,0)])]
def qQ6 (y:uC3)(x:CT):Vn CT:=
 let c:=y.1
 let d:=x.1
 let a:=x.2.1
 let e:Bool:=a<len c
 let b:=len (nth c a [])
 (e->A7 a (len c)/\A6 (d+b)/\A6 (a+1),e,(d+b,a+1,()))
def sP6 y x:=(qQ6 y x).1
def RQ y x:=(qQ6 y x).2.1
def RR y x:=(qQ6 y x).2.2
def sY1 (y:uC3)(x:CT):Int:=
 x.1
def oO9:=li [(0,Aj)] [(3,vI),(4,vI)] RQ RR sP6 (λy x=>[ex 2 none [(3,vI)] ((sY1 y x),())]) [[(3,vI)]]
def kD7 (c:(List (List A0))):Prop×Int:=
 let a:=(c,())
 let b:=((0:Int),(0:Int),())
 (AB (RQ a) (RR a) (sP6 a) b,sY1 a (A3 (RQ a) (RR a) b))
def VA a:=(kD7 a).1
def f225 a:=(kD7 a).2
theorem nF7:SK 225 (AU Aj vI VA f225):=fb Tryz.func225 19 [] [(3,oO9)]
abbrev uN7:Type:=(Int×A8×(List (List UInt8))×(List (List A0))×Int×(List Int)×(List Int)×Int×(List (List A0))×Int×Unit)
def rP (y:uN7)(x:DA):Vn DA:=
 let u:=y.1
 let e:=y.2.1
 let l:=y.2.2.2.2.1
 let m:=(Q3 y).1
 let n:=(Q0 y).1
 let b:=(Q5 y).1
 let c:=(Q4 y).1
 let o:=x.1
 let a:=x.2.1
 let q:Bool:=a<len (nth b c [])
 let r:=nth b c []
 let d:=nth r a A1
 let s:=nth m n 0
 let t:=s+d.1
 let f:=t*u
 let g:=l*e.2.2.1
 let h:=e.2.1+g
 let i:=h-d.2.1
 let j:=i*u
 let k:=([(B3 f e.1,B3 j e.1,())]:List A0)
 (A7 c (len b)/\(q->A7 c (len b)/\A7 a (len r)/\A7 n (len m)/\A6 (s+d.1)/\A6 (t*u)/\Es f e.1/\A6 (l*e.2.2.1)/\A6 (e.2.1+g)/\A6 (h-d.2.1)/\A6 (i*u)/\Es j e.1/\((length o+length k:Nat):Int)<=4294967296/\A6 (a+1)),q,(o++k,a+1,()))
def tV8 y x:=(rP y x).1
def LG y x:=(rP y x).2.1
def wJ y x:=(rP y x).2.2
def sF1 (y:uN7)(x:DA):(List A0):=
 x.1
def rP0:List (Nat×Sh):=[(2,vI),(4,Ah),(10,Bv),(12,Ay),(13,vI),(14,Ck),(15,Cl),(16,vI),(17,Aj),(19,vI),(20,(.own AQ 1020 false))]
def pP8:=li [(2,vI),(4,Ah),(10,Bv),(12,Ay),(13,vI),(14,Ck),(15,Cl),(16,vI),(17,Aj),(19,vI)] [(20,(.own AQ 1020 false)),(21,vI)] LG wJ tV8 (λy x=>[ex 8 none rP0 (y.1,y.2.1,y.2.2.1,y.2.2.2.1,y.2.2.2.2.1,(Q1 y).1,(Q3 y).1,(Q0 y).1,(Q5 y).1,(Q4 y).1,(sF1 y x),())]) [rP0]
abbrev uN8:Type:=(Int×A8×(List (List UInt8))×Int×(List Int)×(List Int)×Int×(List (List A0))×Unit)
def rP1 (y:uN8)(x:CM):Vn CM:=
 let e:=(Q0 y).1
 let d:=x.1
 let b:=x.2.1
 let f:Bool:=b<len e
 let a:=(y.1,y.2.1,y.2.2.1,d,y.2.2.2.1,y.2.2.2.2.1,(Q1 y).1,(Q3 y).1,e,b,())
 let g:=(([]:List A0),(0:Int),())
 let c:=([sF1 a (A3 (LG a) (wJ a) g)]:List (List A0))
 (f->AB (LG a) (wJ a) (tV8 a) g/\((length d+length c:Nat):Int)<=4294967296/\A6 (b+1),f,(d++c,b+1,()))
def uT8 y x:=(rP1 y x).1
def JK y x:=(rP1 y x).2.1
def JL y x:=(rP1 y x).2.2
def sF2 (y:uN8)(x:CM):(List (List A0)):=
 x.1
def rP2:List (Nat×Sh):=[(2,vI),(4,Ah),(10,Bv),(12,Ay),(13,vI),(14,Ck),(15,Cl),(16,vI)]
def pP9:=li [(2,vI),(4,Ah),(10,Bv),(13,vI),(14,Ck),(15,Cl),(16,vI),(17,Aj)] [(12,Ay),(19,vI)] JK JL uT8 (λy x=>[ex 6 none rP2 (y.1,y.2.1,y.2.2.1,(sF2 y x),y.2.2.2.1,y.2.2.2.2.1,(Q1 y).1,(Q3 y).1,())]) [rP2]
abbrev uN9:Type:=(Int×A8×(List (List UInt8))×Int×(List Int)×(List Int)×Unit)
def rP3 (y:uN9)(x:CM):Vn CM:=
 let h:=y.2.1
 let c:=y.2.2.2.2.1
 let a:=x.2.1
 let d:Bool:=a<len c
 let e:=nth c a 0
 let f:=nth h.2.2.2.1 e BH
 let b:=(y.1,h,y.2.2.1,y.2.2.2.1,c,(Q1 y).1,a,(DC f.2.2.1).1,())
 let g:=(x.1,(0:Int),())
 (d->A7 a (len c)/\A7 e (len h.2.2.2.1)/\ZZ f.2.2.1/\AB (JK b) (JL b) (uT8 b) g/\A6 (a+1),d,(sF2 b (A3 (JK b) (JL b) g),a+1,()))
def tV9 y x:=(rP3 y x).1
def KM y x:=(rP3 y x).2.1
def KN y x:=(rP3 y x).2.2
def sF3 (y:uN9)(x:CM):(List (List A0)):=
 x.1
def rP4:List (Nat×Sh):=[(2,vI),(4,Ah),(10,Bv),(12,Ay),(13,vI)]
def pQ:=li [(2,vI),(4,Ah),(10,Bv),(13,vI),(14,Ck),(15,Cl)] [(12,Ay),(16,vI)] KM KN tV9 (λy x=>[ex 4 none rP4 (y.1,y.2.1,y.2.2.1,(sF3 y x),y.2.2.2.1,())]) [rP4]
abbrev tI3:Type:=(Int×A8×(List (List UInt8))×Unit)
def qQ7 (y:tI3)(x:CM):Vn CM:=
 let e:=y.2.1
 let c:=y.2.2.1
 let a:=x.2.1
 let f:Bool:=a<len c
 let g:=nth c a []
 let d:=AW e g
 let b:=(y.1,e,c,a,d,f224 e d,())
 let h:=(x.1,(0:Int),())
 (f->A7 a (len c)/\qQ3 e g/\aT e d/\AB (KM b) (KN b) (tV9 b) h/\A6 (a+1),f,(sF3 b (A3 (KM b) (KN b) h),a+1,()))
def sP8 y x:=(qQ7 y x).1
def LH y x:=(qQ7 y x).2.1
def LI y x:=(qQ7 y x).2.2
def sY2 (y:tI3)(x:CM):(List (List A0)):=
 x.1
def qG4:List (Nat×Sh):=[(12,Ay)]
def oP:=li [(2,vI),(4,Ah),(10,Bv)] [(12,Ay),(13,vI)] LH LI sP8 (λy x=>[ex 2 none qG4 ((sY2 y x),())]) [qG4]
def aU (g:A8)(h:List UInt8)(i j:Int):Prop×((List (List A0))×Int×Unit):=
 let c:=MV g h i j
 let d:=c.2.1 !=0
 let e:=(i,g,c.1,())
 let f:=(([]:List (List A0)),(0:Int),())
 let a:=sY2 e (A3 (LH e) (LI e) f)
 let b:Bool:=f225 a>4096
 (qQ5 g h i j/\(!d->AB (LH e) (LI e) (sP8 e) f/\VA a),(cond d [] (cond b [] a),cond d c.2.1 (cond b 3 0),()))
def OS a b c d:=(aU a b c d).1
def GM a b c d:=(aU a b c d).2
def nF9:=Fy Bm vS vI vI (.tup (.cons Av (.cons vI .nl))) OS GM
theorem lH4:SK 187 (Fy Bm vS vI vI (.tup (.cons Av (.cons vI .nl))) OS GM):=fb Tryz.func187 131 [kb vK,kb nE7,kb lH3,kb nF5,kb nF6,kb nF7] [(6,oP),(11,pQ),(15,pP9),(19,pP8)] [(3,[(4,0,28,1010)]),(9,[(4,0,34,1012)]),(17,[(4,0,46,1014)]),(19,[(4,0,49,1015)]),(35,[(4,0,75,1020)]),(45,[(4,0,122,1020)]),(47,[(4,0,126,1012)]),(53,[(4,0,1012,0)])]
def lH5 :Prop×(List UInt8):=
 (True,wD0)
def aV :Prop:=(lH5).1
def RS :List UInt8:=(lH5).2
instance:Decidable aV:=by unfold aV lH5;dsimp only;infer_instance
def nG:Am.Spec:=fnSpec [] vS [] (λx=>aV ) (λx=>RS ) (λ_=>())
theorem lH6:SK 264 (fnSpec [] vS [] (λx=>aV ) (λx=>RS ) (λ_=>())):=fb Tryz.func264 1
def lH7 (c:Int):Prop×Int:=
 let b:Bool:=c<=57
 let a:=wrap .i64 (wrap .u8 (c-97))
 (!b->A6 (a+10),cond b (wrap .i64 (wrap .u8 (c-48))) (a+10))
def VB a:=(lH7 a).1
def MW a:=(lH7 a).2
instance (a):Decidable (VB a):=by unfold VB lH7;dsimp only;infer_instance
def nG0:=AU Bb vI VB MW
theorem lH8:SK 265 (AU Bb vI VB MW):=fb Tryz.func265 12
def lH9 (a b c:Int):Prop×AA:=
 (True,(a,([(b,c,()),A1,A1]:List A0),()))
def OU a b c:=(lH9 a b c).1
def f266 a b c:=(lH9 a b c).2
instance (a b c):Decidable (OU a b c):=by unfold OU lH9;dsimp only;infer_instance
def nG1:=DT vI vI vI Dd OU f266
theorem lI:SK 266 (DT vI vI vI Dd OU f266):=fb Tryz.func266 13
abbrev uO:Type:=(Int×(List UInt8)×(List AA)×Int×Int×Int×Unit)
def sF4 (y:uO)(x:AD):Vn AD:=
 let c:=x.1
 let a:=c+1
 let b:=FM .i64 (Fi y.2.2.2.2.1 a 64) 1==1
 (A6 (c+1)/\0<=a/\(b->A6 (c+1)),b,(c+1,()))
def uT9 y x:=(sF4 y x).1
def sQ y x:=(sF4 y x).2.1
def uU y x:=(sF4 y x).2.2
instance (y x):Decidable (uT9 y x):=by unfold uT9 sF4;dsimp only;infer_instance
def sF5 (y:uO)(x:AD):Int:=
 x.1
def rP6:List (Nat×Sh):=[(0,vI),(3,vS),(4,Bw),(5,vI),(6,vI),(7,vI),(8,vI)]
def sF6:St->Option Out:=I6 [(0,vI),(3,vS),(4,Bw),(5,vI),(6,vI),(7,vI)] [(8,vI)] sQ uU uT9 λy x=>[ex 6 none rP6 (y.1,y.2.1,y.2.2.1,y.2.2.2.1,y.2.2.2.2.1,(Q1 y).1,(sF5 y x),())]
def rC5 (y:Ik)(x:uO):Vn uO:=
 let J:=x.1
 let K:=x.2.1
 let H:=x.2.2.1
 let f:=x.2.2.2.1
 let i:=x.2.2.2.2.1
 let d:=(Q1 x).1
 let j:Bool:=d<7
 let k:=FM .i64 (Fi i d 64) 1==0
 let h:Bool:=d>0
 let g:=!k
 let l:=d-1
 let b:=cond k true (cond h (FM .i64 (Fi i l 64) 1==1) false)
 let e:=(J,K,H,f,i,d,())
 let F:=(d,())
 let a:=sF5 e (A3 (sQ e) (uU e) F)
 let m:=100*f
 let n:=100*d
 let o:=700-n
 let q:=100*f
 let r:=q+100
 let s:=100*d
 let t:=700-s
 let u:=100*f
 let v:=u+100
 let w:=100*a
 let z:=600-w
 let A:=100*f
 let B:=100*a
 let C:=600-B
 let E:=([f266 1 m o,f266 2 r t,f266 2 v z,f266 2 A C,((5:Int),List.replicate 3 A1,())]:List AA)
 let c:=b||(!b)
 let L:=cond b d d
 (j->0<=d/\((g&&h)->A6 (d-1))/\((g&&h)->0<=l)/\(!b->AB (sQ e) (uU e) (uT9 e) F/\A6 (100*f)/\A6 (100*d)/\A6 (700-n)/\OU 1 m o/\A6 (100*f)/\A6 (q+100)/\A6 (100*d)/\A6 (700-s)/\OU 2 r t/\A6 (100*f)/\A6 (u+100)/\A6 (100*a)/\A6 (600-w)/\OU 2 v z/\A6 (100*f)/\A6 (100*a)/\A6 (600-B)/\OU 2 A C/\((length H+length E:Nat):Int)<=4294967296)/\(c->A6 (L+1)),j&&c,(cond b J J,cond b K K,cond b H (H++E),cond b f f,cond b i i,L+1,()))
def tP0 y x:=(rC5 y x).1
def rP7 y x:=(rC5 y x).2.1
def tI6 y x:=(rC5 y x).2.2
instance (y x):Decidable (tP0 y x):=by unfold tP0 rC5;dsimp only;infer_instance
def sY3 (y:Ik)(x:uO):Int:=
 x.1
def sY4 (y:Ik)(x:uO):(List UInt8):=
 x.2.1
def sY5 (y:Ik)(x:uO):(List AA):=
 x.2.2.1
def sY6 (y:Ik)(x:uO):Int:=
 x.2.2.2.1
def qG5:List (Nat×Sh):=[(0,vI),(3,vS),(4,Bw),(5,vI)]
def sY7:St->Option Out:=I6 [] [(0,vI),(3,vS),(4,Bw),(5,vI),(6,vI),(7,vI)] rP7 tI6 tP0 λy x=>[ex 4 none qG5 ((sY3 y x),(sY4 y x),(sY5 y x),(sY6 y x),())]
abbrev uE3:Type:=(Int×(List UInt8)×(List AA)×Int×Unit)
def rC6 (y:Ik)(x:uE3):Vn uE3:=
 let c:=x.1
 let d:=x.2.1
 let b:=x.2.2.2.1
 let e:Bool:=b<5
 let f:=10*c
 let g:=2*b
 let h:=f+g
 let i:=wD d h
 let j:=MW i
 let k:=16*j
 let l:=10*c
 let m:=2*b
 let n:=l+m
 let o:=n+1
 let q:=wD d o
 let r:=MW q
 let t:=(c,d,x.2.2.1,b,k+r,(0:Int),())
 let s:=A3 (rP7 ()) (tI6 ()) t
 let a:=sY6 () s
 (e->A6 (10*c)/\A6 (2*b)/\A6 (f+g)/\A7 h (len d)/\VB i/\A6 (16*j)/\A6 (10*c)/\A6 (2*b)/\A6 (l+m)/\A6 (n+1)/\A7 o (len d)/\VB q/\A6 (k+r)/\AB (rP7 ()) (tI6 ()) (tP0 ()) t/\A6 (a+1),e,(sY3 () s,sY4 () s,sY5 () s,a+1,()))
def tP1 y x:=(rC6 y x).1
def rP8 y x:=(rC6 y x).2.1
def tI8 y x:=(rC6 y x).2.2
instance (y x):Decidable (tP1 y x):=by unfold tP1 rC6;dsimp only;infer_instance
def sY8 (y:Ik)(x:uE3):(List AA):=
 x.2.2.1
def sY9:St->Option Out:=I6 [] [(0,vI),(3,vS),(4,Bw),(5,vI)] rP8 tI8 tP1 λy x=>[ex 2 none [(4,Bw)] ((sY8 y x),())]
def lI0 (b:Int):Prop×(List AA):=
 let a:=(b,RS,([]:List AA),(0:Int),())
 (aV/\AB (rP8 ()) (tI8 ()) (tP1 ()) a,sY8 () (A3 (rP8 ()) (tI8 ()) a))
def qQ8 a:=(lI0 a).1
def f226 a:=(lI0 a).2
instance (a):Decidable (qQ8 a):=by unfold qQ8 lI0;dsimp only;infer_instance
def nG2:=AU vI Bk qQ8 f226
def rC7:=Cy [(264,nG),(265,nG0),(266,nG1)] [(12,sF6),(8,sY7),(4,sY9)] [(5,[(4,0,10,1004)]),(29,[(4,0,93,1004)]),(31,[(4,0,1004,0)])] 95
theorem rC8:CtxOk Tryz.prog rC7:=cq ⟨lH6,lH8,lI,trivial⟩
noncomputable def nG3:Code:=Tryz.f226.body.getD .skip
noncomputable def pQ0:Code:=Tj nG3 0
noncomputable def pQ1:Code:=Tj pQ0 0
noncomputable def pW9:Code:=Tj pQ1 0
theorem pQ2:yY Tryz.prog rC7 pW9:=lq rC8 (sp:=sF6) rfl [rP6]
theorem oP0:yY Tryz.prog rC7 pQ1:=lm rC8 (sp:=sY7) rfl [qG5] (bs:=[pW9]) ⟨pQ2,trivial⟩
theorem oP1:yY Tryz.prog rC7 pQ0:=lm rC8 (sp:=sY9) rfl [[(4,Bw)]] (bs:=[pQ1]) ⟨oP0,trivial⟩
theorem lI1:SK 226 nG2:=fl rC8 Tryz.func226 (bs:=[pQ0]) ⟨oP1,trivial⟩
def rC9 (y:Ik)(x:Oz):Vn Oz:=
 let c:=x.1
 let b:=x.2.1
 let a:=x.2.2.1
 let d:Bool:=a<95
 let e:=([(wrap .u8 (32+a),(600:Int),f226 a,())]:List C7)
 (d->A6 (32+a)/\qQ8 a/\((length b.2.2.2.1+length e:Nat):Int)<=4294967296/\A6 (a+1),d,(c,(b.1,b.2.1,b.2.2.1,b.2.2.2.1++e,b.2.2.2.2.1,()),a+1,()))
def tP2 y x:=(rC9 y x).1
def rP9 y x:=(rC9 y x).2.1
def tI9 y x:=(rC9 y x).2.2
instance (y x):Decidable (tP2 y x):=by unfold tP2 rC9;dsimp only;infer_instance
def pA1 (y:Ik)(x:Oz):(Int×Int×Int×(List C7)×(List DH)×Unit):=
 let a:=x.1
 a
def sZ (y:Ik)(x:Oz):(Int×Int×Int×(List C7)×(List DH)×Unit):=
 let a:=x.2.1
 a
def qG6:List (Nat×Sh):=[(0,Af),(1,Ag)]
def oP2:=li [] [(0,Af),(1,Ag),(2,vI)] rP9 tI9 tP2 (λy x=>[ex 2 none qG6 ((pA1 y x),(sZ y x),())]) [qG6]
def lI2 :Prop×A8:=
 let b:=((1000:Int),(800:Int),(1200:Int),([]:List C7),([((65:Int),(86:Int),(-100:Int),()),((76:Int),(84:Int),(-100:Int),()),((84:Int),(97:Int),(-100:Int),()),((86:Int),(65:Int),(-100:Int),())]:List DH),())
 let c:=(((0:Int),(0:Int),(0:Int),([]:List C7),([]:List DH),()),b,(0:Int),())
 let a:=sZ () (A3 (rP9 ()) (tI9 ()) c)
 (AB (rP9 ()) (tI9 ()) (tP2 ()) c,a)
def VC :Prop:=(lI2).1
def HQ :A8:=(lI2).2
instance:Decidable VC:=by unfold VC lI2;dsimp only;infer_instance
theorem lI3:SK 188 (fnSpec [] Bm [] (λx=>VC ) (λx=>HQ ) (λ_=>())):=fb Tryz.func188 25 [kb lI1] [(3,oP2)] [(3,[(4,0,7,400101)]),(11,[(4,0,22,400100)]),(13,[(4,0,400100,400000),(4,0,400101,400001)])]
def tJ (y:QC)(x:DA):Vm DA:=
 let e:=y.1
 let o:=y.2.1
 let f:=y.2.2.2.1
 let q:=x.1
 let a:=x.2.1
 let c:Bool:=a<len (nth e f [])
 let g:=nth e f []
 let h:=nth g a A1
 let b:=!(Ed h)
 let i:=nth e f []
 let j:=nth i a A1
 let k:=DV o j
 let d:=cond b true (!(Ed k))
 let l:=nth e f []
 let m:=nth l a A1
 let n:=([DV o m]:List A0)
 (A7 f (len e)/\(c->A7 f (len e)/\A7 a (len g)/\ZM h/\(!b->A7 f (len e))/\(!b->A7 a (len i))/\(!b->ZN o j)/\(!b->ZM k)/\(!d->A7 f (len e)/\A7 a (len l)/\ZN o m/\((length q+length n:Nat):Int)<=4294967296)/\(!d->A6 (a+1))),c&&(!d),(q++n,a+1,()),c&&d,!c)
def uU0 y x:=(tJ y x).1
def HR y x:=(tJ y x).2.1
def HS y x:=(tJ y x).2.2.1
def uU1 y x:=(tJ y x).2.2.2.1
def uU2 y x:=(tJ y x).2.2.2.2
def sF7 (y:QC)(x:DA):(List (List A0)):=
 []
def sF8 (y:QC)(x:DA):Int:=
 2
def rQ:List (Nat×Sh):=[(4,Av),(5,vI)]
def sF9 (y:QC)(x:DA):(List A0):=
 x.1
def rQ0:List (Nat×Sh):=[(0,Aj),(3,Bp),(7,Cu),(8,vI),(9,(.own AQ 1009 false))]
def pQ3:=li [(0,Aj),(3,Bp),(7,Cu),(8,vI)] [(9,(.own AQ 1009 false)),(10,vI)] HR HS uU0 (λy x=>[ex 1 (some (uU1 y x)) rQ ((sF7 y x),(sF8 y x),()),ex 4 (some (uU2 y x)) rQ0 (y.1,y.2.1,y.2.2.1,y.2.2.2.1,(sF9 y x),())]) [rQ,rQ0]
abbrev vG5:Type:=((List (List A0))×C1×Unit)
def sG (y:vG5)(x:CM):Vm CM:=
 let i:=y.1
 let h:=x.1
 let g:=x.2.1
 let c:Bool:=g<len i
 let a:=(i,y.2.1,h,g,())
 let f:=(([]:List A0),(0:Int),())
 let d:=A3 (HR a) (HS a) f
 let b:=uU2 a d
 let e:=([sF9 a d]:List (List A0))
 (c->AB (HR a) (HS a) (uU0 a) f/\(b->((length h+length e:Nat):Int)<=4294967296)/\(b->A6 (g+1)),c&&b,(h++e,g+1,()),c&&uU1 a d,!c)
def sQ1 y x:=(sG y x).1
def OV y x:=(sG y x).2.1
def OW y x:=(sG y x).2.2.1
def aW y x:=(sG y x).2.2.2.1
def oP3 y x:=(sG y x).2.2.2.2
def sZ0 (y:vG5)(x:CM):(List (List A0)):=
 let a:=(y.1,y.2.1,x.1,x.2.1,())
 (sF7 a (A3 (HR a) (HS a) ([],0,())))
def sZ1 (y:vG5)(x:CM):Int:=
 let a:=(y.1,y.2.1,x.1,x.2.1,())
 (sF8 a (A3 (HR a) (HS a) ([],0,())))
def qG7:List (Nat×Sh):=[(4,Av),(5,vI)]
def sZ2 (y:vG5)(x:CM):(List (List A0)):=
 x.1
def qG8:List (Nat×Sh):=[(7,Cu)]
def oP4:=li [(0,Aj),(3,Bp)] [(7,Cu),(8,vI)] OV OW sQ1 (λy x=>[ex 1 (some (aW y x)) qG7 ((sZ0 y x),(sZ1 y x),()),ex 2 (some (oP3 y x)) qG8 ((sZ2 y x),())]) [qG7,qG8]
def kD8 (h:(List (List A0)))(i:C1):Prop×((List (List A0))×Int×Unit):=
 let e:=Ec i
 let c:=e !=0
 let d:Bool:=f225 h>4096
 let a:=(h,i,())
 let g:=(([]:List (List A0)),(0:Int),())
 let f:=A3 (OV a) (OW a) g
 let b:=aW a f
 (OF i/\(!c->VA h/\(!d->AB (OV a) (OW a) (sQ1 a) g)),(cond c [] (cond d [] (cond b (sZ0 a f) (sZ2 a f))),cond c e (cond d 3 (cond b (sZ1 a f) 0)),()))
def qQ9 a b:=(kD8 a b).1
def KO a b:=(kD8 a b).2
def nG4:=BG Aj Az (.tup (.cons Aj (.cons vI .nl))) qQ9 KO
theorem lI4:SK 189 (BG Aj Az (.tup (.cons Aj (.cons vI .nl))) qQ9 KO):=fb Tryz.func189 75 [kb qO4,kb nE5,kb pN9,kb nF7] [(8,oP4),(12,pQ3)] [(13,[(4,0,19,1007)]),(21,[(4,0,26,1009)]),(33,[(4,0,69,1009)]),(35,[(4,0,73,1007)]),(37,[(4,0,1007,0)])]
def pX (k:A8)(g:AI):Prop×Int:=
 let a:=GM k (Qk g).1 (Ql g).1 (Qm g).1
 let c:=a.2.1 !=0
 let b:=KO a.1 (Q2 g).1
 let d:=b.2.1 !=0
 let e:=E5 b.1 0
 let f:=e !=0
 (VC/\OS k (Qk g).1 (Ql g).1 (Qm g).1/\(!c->qQ9 a.1 (Q2 g).1/\(!d->OK b.1 0/\(!f->OG (Q9 g).1))),cond c a.2.1 (cond d b.2.1 (cond f e (GG (Q9 g).1))))
def lI5 (a:AI):Prop×Int:=pX HQ a
def qR a:=(lI5 a).1
def f152 a:=(lI5 a).2
def nG5:Am.Spec:=fnSpec [(0,Bc)] vI [] (λx=>qR x.1) (λx=>f152 x.1) (λ_=>())
def pX0 (k:A8):Ctx:=Cx tys [(149,nE2),(184,nE8),(187,nF9),(188,fnSpec [] Bm [] (λ_=>VC) (λ_=>k) (λ_=>())),(189,nG4)] [] [(3,[(4,0,15,1003)])] false 39 [] []
theorem nZ4:CtxOk Tryz.prog (pX0 HQ):=cq ⟨pN6,pO5,lH4,lI3,lI4,trivial⟩
theorem nZ5:∀(k:A8) x,I7 (pX0 k) (Tryz.f152.body.getD .skip) Tryz.f152.results.toList [(0,Bc)] vI [] x=some ((pX k x.1).1,(pX k x.1).2,()):=λk x=>by kernel_rfl
theorem lI6:SpecOk Tryz.prog 152 nG5:=Xl nZ4 mixed Tryz.func152 (by kernel_rfl) (bs:=[]) (by kernel_rfl) trivial (nZ5 HQ)
def lI7 (c:Int):Prop×(Int×Int×Unit):=
 let a:=([(0:Int),(0:Int),(5:Int),(4:Int),(2:Int),(3:Int),(1:Int),(1:Int),(9:Int),(3:Int),(0:Int),(2:Int)]:List Int)
 let b:=c==3
 (!b->A7 c (len a)/\A7 c (len a),(cond b 4 (nth a c 0),cond b 16 (nth a c 0),()))
def aX a:=(lI7 a).1
def GN a:=(lI7 a).2
theorem lI8:SK 190 (AU vI (.tup (.cons vI (.cons vI .nl))) aX GN):=fb Tryz.func190 16 [] [] [(3,[(4,0,5,1004)])]
def lI9 (i j:Int):Prop×(Int×Int×Unit):=
 let c:=cond (i==2) (j==2) false
 let d:=cond (cond (i==4) true (cond (i==5) (decide (j>0)) false)) true (cond (i==11) (j==1) false)
 let e:=i==5
 let f:=i==7
 let g:=i==8
 let h:=i==11
 let a:=cond c 1 (cond d (-65535:Int) (cond e (-32768:Int) (cond f 2 (cond g (-262140:Int) (cond h (-128:Int) 0)))))
 let b:=cond c (256:Int) (cond d 65535 (cond e 32768 (cond f 256 (cond g 262140 (cond h 128 65535)))))
 (True,(a,b,()))
def nG6 a b:=(lI9 a b).1
def MX a b:=(lI9 a b).2
theorem lJ:SK 191 (BG vI vI (.tup (.cons vI (.cons vI .nl))) nG6 MX):=fb Tryz.func191 38
abbrev VD:Type:=(Int×(List Int)×(List B4)×Unit)
def RT (y:VD)(x:AD):Vm AD:=
 let g:=y.1
 let d:=y.2.1
 let a:=x.1
 let b:Bool:=a<len d
 let e:=MX g a
 let f:Bool:=nth d a 0<e.1
 let c:=cond f true (nth d a 0>e.2.1)
 (b->nG6 g a/\A7 a (len d)/\(!f->A7 a (len d))/\(!c->A6 (a+1)),b&&(!c),(a+1,()),b&&c,!b)
def sQ2 y x:=(RT y x).1
def OX y x:=(RT y x).2.1
def RU y x:=(RT y x).2.2.1
def aY y x:=(RT y x).2.2.2.1
def sQ3 y x:=(RT y x).2.2.2.2
def sZ3 (y:VD)(x:AD):Int:=
 2
def qG9:List (Nat×Sh):=[(0,vI),(1,Ak),(2,Ao)]
def oP5:=li [(0,vI),(1,Ak),(2,Ao)] [(9,vI)] OX RU sQ2 (λy x=>[ex 1 (some (aY y x)) [(6,vI)] ((sZ3 y x),()),ex 2 (some (sQ3 y x)) qG9 (y.1,y.2.1,y.2.2.1,())]) [[(6,vI)],qG9]
def RV (y:VD)(x:AD):Vm AD:=
 let g:=y.2.2.1
 let a:=x.1
 let b:Bool:=a<len g
 let e:Bool:=(nth g a CG).1<0
 let c:=cond e true ((nth g a CG).1>65535)
 let f:=nth g a CG
 let d:=cond c true (!(GF f.2.1))
 (b->A7 a (len g)/\(!e->A7 a (len g))/\(!c->A7 a (len g))/\(!c->Vk f.2.1)/\(!d->A6 (a+1)),b&&(!d),(a+1,()),b&&d,!b)
def tW y x:=(RV y x).1
def vL y x:=(RV y x).2.1
def VE y x:=(RV y x).2.2.1
def aZ y x:=(RV y x).2.2.2.1
def rQ2 y x:=(RV y x).2.2.2.2
def sG0 (y:VD)(x:AD):Int:=
 2
def rQ3:List (Nat×Sh):=[(0,vI),(1,Ak),(2,Ao)]
def pQ4:=li [(0,vI),(1,Ak),(2,Ao)] [(12,vI)] vL VE tW (λy x=>[ex 1 (some (aZ y x)) [(6,vI)] ((sG0 y x),()),ex 4 (some (rQ2 y x)) rQ3 (y.1,y.2.1,y.2.2.1,())]) [[(6,vI)],rQ3]
def MY (y:VD)(x:AD):Vm AD:=
 let e:=y.2.1
 let a:=x.1
 let b:=cond (y.1==3) (decide (a<len e)) false
 let d:=a-2
 let c:Bool:=nth e a 0<=nth e d 0
 (b->A7 a (len e)/\A6 (a-2)/\A7 d (len e)/\(!c->A6 (a+2)),b&&(!c),(a+2,()),b&&c,!b)
def uU4 y x:=(MY y x).1
def LJ y x:=(MY y x).2.1
def RW y x:=(MY y x).2.2.1
def VF y x:=(MY y x).2.2.2.1
def rQ4 y x:=(MY y x).2.2.2.2
def sG1 (y:VD)(x:AD):Int:=
 24
def pQ5:=li [(0,vI),(1,Ak),(2,Ao)] [(13,vI)] LJ RW uU4 (λy x=>[ex 1 (some (VF y x)) [(6,vI)] ((sG1 y x),()),ex 6 (some (rQ4 y x)) [(2,Ao)] (y.2.2.1,())]) [[(6,vI)],[(2,Ao)]]
def bA (y:vJ1)(x:AD):Vm AD:=
 let e:=y.1
 let a:=x.1
 let b:Bool:=a<len e
 let d:=a-1
 let c:Bool:=(nth e a CG).1<=(nth e d CG).1
 (b->A7 a (len e)/\A6 (a-1)/\A7 d (len e)/\(!c->A6 (a+1)),b&&(!c),(a+1,()),b&&c,!b)
def tW0 y x:=(bA y x).1
def VG y x:=(bA y x).2.1
def wX y x:=(bA y x).2.2.1
def uU5 y x:=(bA y x).2.2.2.1
def pQ6 y x:=(bA y x).2.2.2.2
def sG2 (y:vJ1)(x:AD):Int:=
 24
def pQ7:=li [(2,Ao)] [(14,vI)] VG wX tW0 (λy x=>[ex 1 (some (uU5 y x)) [(6,vI)] ((sG2 y x),()),ex 8 (some (pQ6 y x)) [] ()]) [[(6,vI)],[]]
def nZ6 (p:Int)(A:List Int)(B:List B4):Prop×Int:=
 let l:=cond (p<1) true (p>11)
 let m:=GN p
 let n:=cond (cond (cond (len A<m.1) true (len A>m.2.1)) true (cond (p==3) (tmod (len A) 2==1) false)) true (!(Ty.eqb .bool (decide (len B>0)) (p==10)))
 let o:Bool:=len B>16
 let g:=(p,A,B,())
 let z:=((0:Int),())
 let w:=A3 (OX g) (RU g) z
 let q:=p==9
 let r:=cond q (nth A 0 0==0) false
 let s:=cond r (nth A 1 0==0) false
 let e:=cond s (nth A 2 0==0) false
 let a:=(p,A,B,())
 let t:=((0:Int),())
 let h:=A3 (vL a) (VE a) t
 let d:=p==2
 let f:=cond d (decide (nth A 1 0<=nth A 0 0)) false
 let b:=(p,A,B,())
 let u:=((2:Int),())
 let i:=A3 (LJ b) (RW b) u
 let c:=(B,())
 let v:=((1:Int),())
 let j:=A3 (VG c) (wX c) v
 let k:=cond (aZ a h) (sG0 a h) (cond f 24 (cond (VF b i) (sG1 b i) (cond (uU5 c j) (sG2 c j) 0)))
 (!l->aX p/\(!n->!o->AB (OX g) (RU g) (sQ2 g) z/\(sQ3 g w->(q->A7 0 (len A))/\(r->A7 1 (len A))/\(s->A7 2 (len A))/\(!e->AB (vL a) (VE a) (tW a) t/\(rQ2 a h->(d->A7 1 (len A))/\(d->A7 0 (len A))/\(!f->AB (LJ b) (RW b) (uU4 b) u/\(rQ4 b i->AB (VG c) (wX c) (tW0 c) v)))))),cond l 8 (cond n 1 (cond o 3 (cond (aY g w) (sZ3 g w) (cond e 2 k)))))
def pQ8 a b c:=(nZ6 a b c).1
def HU a b c:=(nZ6 a b c).2
theorem lJ0:SK 153 (DT vI Ak Ao vI pQ8 HU):=fb Tryz.func153 181 [kb qO5,kb lI8,kb lJ] [(9,oP5),(17,pQ4),(24,pQ5),(29,pQ7)]
def kD9 (a b c:Int):Prop×Bool:=
 (True,cond (a≥b) (decide (a<=c)) false)
def uK a b c:=(kD9 a b c).1
def DL a b c:=(kD9 a b c).2
theorem lJ1:SK 192 (DT vI vI vI vB uK DL):=fb Tryz.func192 15
def kE (d:Int):Prop×Int:=
 let b:=d==5
 let a:=cond b b (d==6)
 let c:=d==3
 (True,cond (cond a true (cond c c (d==9))) (cond a (0:Int) 2) 1)
def nG7 a:=(kE a).1
def F4 a:=(kE a).2
theorem lJ2:SK 193 (AU vI vI nG7 F4):=fb Tryz.func193 10
def lJ3 (p:Int)(z:List Int):Prop×Int:=
 let w:=!(DL p 1 10)
 let j:=len z !=F4 p
 let k:=p==1
 let l:=p==7
 let a:=cond k k (cond l l (p==8))
 let m:=nth z 0 0
 let b:=p==2
 let n:=nth z 0 0
 let c:=p==4
 let o:=nth z 0 0
 let d:=p==3
 let q:=nth z 0 0
 let e:=DL q 0 16
 let r:=nth z 1 0
 let f:=p==9
 let s:=nth z 0 0
 let g:=DL s (-16:Int) 16
 let t:=nth z 1 0
 let u:=p==10
 let v:=nth z 0 0
 let i:=cond d (cond e (DL r 0 262140) false) (cond f (cond g (DL t (-16:Int) 16) false) (cond u (DL v 1 16) true))
 let h:=cond j (1:Int) (cond (!(cond a (DL m 0 16) (cond b (DL n 0 7) (cond c (DL o 0 4) i)))) 2 0)
 (uK p 1 10/\(!w->nG7 p/\(!j->(a->A7 0 (len z)/\uK m 0 16)/\(a=false->(b->A7 0 (len z)/\uK n 0 7)/\(b=false->(c->A7 0 (len z)/\uK o 0 4)/\(c=false->(d->A7 0 (len z)/\uK q 0 16/\(e->A7 1 (len z))/\(e->uK r 0 262140))/\(d=false->(f->A7 0 (len z)/\uK s (-16:Int) 16/\(g->A7 1 (len z))/\(g->uK t (-16:Int) 16))/\(f=false->u->A7 0 (len z)/\uK v 1 16))))))),cond w 8 h)
def pQ9 a b:=(lJ3 a b).1
def EV a b:=(lJ3 a b).2
theorem lJ4:SK 154 (BG vI Ak vI pQ9 EV):=fb Tryz.func154 67 [kb lJ1,kb lJ2]
abbrev uE7:Type:=(I8×Int×Unit)
def bB (y:uE7)(x:AD):Vm AD:=
 let c:=y.1
 let a:=x.1
 let b:Bool:=a<y.2.1
 let e:Bool:=(nth c.2.2.2.1 a A1).1<(-1048576)
 let f:=cond e true ((nth c.2.2.2.1 a A1).1>1048576)
 let g:=cond f true ((nth c.2.2.2.1 a A1).2.1<(-1048576))
 let d:=cond g true ((nth c.2.2.2.1 a A1).2.1>1048576)
 (b->A7 a (len c.2.2.2.1)/\(!e->A7 a (len c.2.2.2.1))/\(!f->A7 a (len c.2.2.2.1))/\(!g->A7 a (len c.2.2.2.1))/\(!d->A6 (a+1)),b&&(!d),(a+1,()),b&&d,!b)
def sQ4 y x:=(bB y x).1
def bC y x:=(bB y x).2.1
def bD y x:=(bB y x).2.2.1
def sQ5 y x:=(bB y x).2.2.2.1
def oP6 y x:=(bB y x).2.2.2.2
def sZ4 (y:uE7)(x:AD):Int:=
 2
def oP7:=li [(1,(.box Tn Da)),(45,vI)] [(46,vI)] bC bD sQ4 (λy x=>[ex 1 (some (sQ5 y x)) [(2,vI)] ((sZ4 y x),()),ex 2 (some (oP6 y x)) [] ()]) [[(2,vI)],[]]
def kE0 (f:I8):Prop×Int:=
 let b:=cond (cond (cond (cond (cond (f.1<2) true (f.1>8)) true (f.2.1<2)) true (f.2.1>8)) true (f.2.2.1<1)) true (f.2.2.1>256)
 let c:=cond b true (len f.2.2.2.1!=(f.1*f.2.1))
 let a:=(f,len f.2.2.2.1,())
 let e:=((0:Int),())
 let d:=A3 (bC a) (bD a) e
 ((!b->A6 (f.1*f.2.1))/\(!c->AB (bC a) (bD a) (sQ4 a) e),cond c 15 (cond (sQ5 a d) (sZ4 a d) 0))
def qR0 a:=(kE0 a).1
def KP a:=(kE0 a).2
theorem lJ5:SK 155 (AU Da vI qR0 KP):=fb Tryz.func155 84 [] [(4,oP7)]
def lJ6 (o:AI):Prop×Int:=
 let m:=o.2.1==2
 let b:=o.2.1==3
 let c:=o.2.1==4
 let d:=o.2.1==5
 let e:=o.2.1==6
 let f:=o.2.1==7
 let g:=o.2.1==8
 let k:=o.2.1==9
 let a:=cond k k (o.2.1==10)
 let l:=o.2.1==11
 let h:=cond f (HU (Qb o).1 (Qa o).1 (Qd o).1) (cond g (EV (Qb o).1 (Qa o).1) (cond a 2 (KP (Qj o).1)))
 let n:=cond d true (cond e true (cond f true (cond g true (cond a (!(Fz (Qh o).1 1 1073741824)) l))))
 let i:=cond c (ML (Qb o).1 (Qa o).1 (Qe o).1 (Qd o).1) (cond d (KH o) (cond e (f152 o) h))
 let j:=cond (cond m true (cond b true (cond c true n))) (cond m (LC (Q6 o).1) (cond b (GG (Q9 o).1) i)) 0
 ((m->qE (Q6 o).1)/\(m=false->(b->OG (Q9 o).1)/\(b=false->(c->pN8 (Qb o).1 (Qa o).1 (Qe o).1 (Qd o).1)/\(c=false->(d->pP0 o)/\(d=false->(e->qR o)/\(e=false->(f->pQ8 (Qb o).1 (Qa o).1 (Qd o).1)/\(f=false->(g->pQ9 (Qb o).1 (Qa o).1)/\(g=false->(a->OE (Qh o).1 1 1073741824)/\(a=false->l->qR0 (Qj o).1)))))))),j)
def pR a:=(lJ6 a).1
def IZ a:=(lJ6 a).2
theorem lJ7:SK 116 (AU Bc vI pR IZ):=fb Tryz.func116 62 [kb mK6,kb nC7,kb pN6,kb lE0,kb lG8,kb lI6,kb lJ0,kb lJ4,kb lJ5]
def kE1 (p:AI):Prop×AI:=
 let q:=((0:Int),(0:Int),([]:List Int),())
 let d:=((0:Int),(0:Int),(0:Int),([]:List UInt8),false,false,false,(0:Int),(0:Int),q,(Q2 p))
 let e:=((0:Int),(0:Int),(0:Int),([]:List UInt8),false,false,false,(0:Int),(0:Int),q,((0:Int),(0:Int),(0:Int),(0:Int),(0:Int),(0:Int),()),(Q7 p))
 let b:=cond (HG p.2.1) e d
 let f:=(Vb b 0 (Q6 b))
 let a:=cond (HL p.2.1) f b
 let g:=(Vc a (0,0,[],()) (Q9 a))
 let h:=(Vd a (0,0,0,0,()) (Qb a))
 let i:=(Ve a 0 ([],0,[],(Q8 a)))
 let j:=(Vd a (0,0,0,0,()) ((Qb a).1,(Qa a).1,(Qe a).1,(Qd a).1,[],0,0,0,0,(Qk a)))
 let k:=(Vd a (0,0,0,0,()) ((Qb a).1,(Qa a).1,(Qe a).1,(Qd a).1,(Q8 a).1,(Qi a).1,(Qc a).1,(Qf a).1,(Qg a).1,[],0,0,(Qh a)))
 let l:=(Ve a 0 ([],(Qe a).1,[],(Q8 a)))
 let m:=(Ve a 0 ([],(Qe a)))
 let r:=p.2.1==9
 let n:=(Vf a 0 ((Qj a).1,()))
 let o:=(Vg a (0,0,0,[],()) ())
 let c:=cond (p.2.1==6) k (cond (p.2.1==7) l (cond (p.2.1==8) m (cond (cond r r (p.2.1==10)) n (cond (p.2.1==11) o a))))
 (pN3 p.2.1/\pN5 p.2.1,cond (p.2.1==2) g (cond (p.2.1==3) h (cond (p.2.1==4) i (cond (p.2.1==5) j c))))
def pR0 a:=(kE1 a).1
def Ja a:=(kE1 a).2
theorem lJ8:SK 117 (AU Bc Bc pR0 Ja):=fb Tryz.func117 75 [kb nD,kb nD8]
def bE (o:AI)(p q:Int):Prop×Int:=
 let e:=IQ o p q
 let f:=e !=0
 let b:=HG o.2.1
 let g:=Ec (Q2 o).1
 let a:=g !=0
 let h:=IS (Q2 o).1
 let i:=h.2.1 !=0
 let j:=HL o.2.1
 let k:=cond j (!(MK (Q7 o).1)) false
 let l:=IZ o
 let m:=l !=0
 let n:=Ja o
 let d:=((0:Int),(0:Int),(0:Int),([]:List UInt8),false,false,false,(0:Int),(0:Int),((0:Int),(0:Int),([]:List Int),()),Lv,(0:Int),((0:Int),(0:Int),([]:List CP),()),G6,(0:Int),([]:List Int),(0:Int),([]:List B4),([]:List AA),(0:Int),(0:Int),(0:Int),(0:Int),([]:List UInt8),(0:Int),(0:Int),(0:Int),((0:Int),(0:Int),(0:Int),([]:List A0),()),())
 let c:=cond f e (cond ((a||((!a)&&i))&&b) (cond a g h.2.1) (cond k 8 (cond m l (cond (!(JG n d)) 1 0))))
 (pN2 o p q/\(!f->pN3 o.2.1/\(b->OF (Q2 o).1/\(!a->pN4 (Q2 o).1))/\((cond b ((!a)&&(!i)) true)=true->pN5 o.2.1/\(j->nD9 (Q7 o).1)/\(!k->pR o/\(!m->pR0 o/\OD n d)))),c)
def nG8 a b c:=(bE a b c).1
def LK a b c:=(bE a b c).2
theorem kE2:SK 80 (DT Bc vI vI vI nG8 LK):=fb Tryz.func80 56 [kb mK4,kb lC8,kb nD,kb qO4,kb lD2,kb nD8,kb lD4,kb lJ7,kb lJ8]
abbrev uU6:Type:=(Int×AJ×Unit)
def bF (y:uU6)(x:CT):Vm CT:=
 let a:=y.2.1
 let e:=x.1
 let h:=x.2.1
 let b:=cond (e≥0) (decide (h<=len a.2.2.2.1)) false
 let d:=(nth a.2.2.2.1 e A9).1==y.1
 let f:=(nth a.2.2.2.1 e A9).2.2.1==0
 let g:=nth a.2.2.2.1 e A9
 let c:=(!d)&&(!f)
 (b->A7 e (len a.2.2.2.1)/\(!d->A7 e (len a.2.2.2.1)/\(!f->A7 e (len a.2.2.2.1)/\LB a g.2.2.1))/\(c->A6 (h+1)),b&&c,(DU a g.2.2.1,h+1,()),b&&(d||((!d)&&f)),!b)
def rQ6 y x:=(bF y x).1
def RX y x:=(bF y x).2.1
def OY y x:=(bF y x).2.2.1
def sG4 y x:=(bF y x).2.2.2.1
def nG9 y x:=(bF y x).2.2.2.2
def uU8 (y:uU6)(x:CT):Bool:=
 let a:=y.1
 (cond ((nth y.2.1.2.2.2.1 x.1 A9).1==a) true (a==0))
def nH:=li [(1,vI),(3,Ae)] [(2,vI),(7,vI)] RX OY rQ6 (λy x=>[ex 1 (some (sG4 y x)) [(6,vB)] ((uU8 y x),()),ex 2 (some (nG9 y x)) [(1,vI)] (y.1,())]) [[(6,vB)],[(1,vI)]]
def bG (d:AJ)(e f:Int):Prop×Bool:=
 let a:=(e,d,())
 let c:=(f,(0:Int),())
 let b:=A3 (RX a) (OY a) c
 (AB (RX a) (OY a) (rQ6 a) c,cond (sG4 a b) (uU8 a b) (e==0))
def nH0 a b c:=(bG a b c).1
def MZ a b c:=(bG a b c).2
theorem kE3:SK 81 (DT Al vI vI vB nH0 MZ):=fb Tryz.func81 46 [kb R1] [(2,nH)]
abbrev uJ:Type:=(AJ×Unit)
def bH (y:uJ)(x:CT):Vm CT:=
 let b:=y.1
 let f:=x.1
 let g:=x.2.1
 let a:=cond ((nth b.2.2.2.1 f A9).2.2.1 !=0) (decide (g<=len b.2.2.2.1)) false
 let d:=nth b.2.2.2.1 f A9
 let e:=DU b d.2.2.1
 let c:Bool:=e<0
 (A7 f (len b.2.2.2.1)/\(a->A7 f (len b.2.2.2.1)/\LB b d.2.2.1/\(!c->A6 (g+1))),a&&(!c),(e,g+1,()),a&&c,!a)
def rQ8 y x:=(bH y x).1
def OZ y x:=(bH y x).2.1
def Na y x:=(bH y x).2.2.1
def rQ9 y x:=(bH y x).2.2.2.1
def nH1 y x:=(bH y x).2.2.2.2
def rR (y:uJ)(x:CT):Int:=
 x.2.1
def rR0 (y:uJ)(x:CT):Int:=
 x.2.1
def nH2:=li [(2,Ae)] [(1,vI),(5,vI)] OZ Na rQ8 (λy x=>[ex 1 (some (rQ9 y x)) [(4,vI)] ((rR y x),()),ex 2 (some (nH1 y x)) [(5,vI)] ((rR0 y x),())]) [[(4,vI)],[(5,vI)]]
def bI (d:AJ)(e:Int):Prop×Int:=
 let a:=(d,())
 let c:=(e,(1:Int),())
 let b:=A3 (OZ a) (Na a) c
 (AB (OZ a) (Na a) (rQ8 a) c,cond (rQ9 a b) (rR a b) (rR0 a b))
def pX1 a b:=(bI a b).1
def Pb a b:=(bI a b).2
theorem kE4:SK 82 (BG Al vI vI pX1 Pb):=fb Tryz.func82 34 [kb R1] [(2,nH2)]
def bJ (y:L6)(x:AD):Vm AD:=
 let c:=y.1
 let q:=y.2.1
 let a:=x.1
 let d:Bool:=a<y.2.2.1
 let b:=nth q a A9
 let e:=LK b c.1 c.2.1!=0
 let f:=cond (b.1<1) true (b.1≥c.2.2.2.2.1)
 let g:Bool:=DU c b.1<a
 let h:=DU c b.2.2.1
 let l:=b.2.2.1 !=0
 let m:=cond (h<0) true (h≥a)
 let i:=cond l (cond m true ((nth c.2.2.2.1 h A9).2.1 !=1)) false
 let n:=a-1
 let j:=!(MZ c b.2.2.1 n)
 let o:Bool:=Pb c a>8
 let k:=(!e)&&((!f)&&((!g)&&((!i)&&((!j)&&(!o)))))
 (d->A7 a (len q)/\nG8 b c.1 c.2.1/\(!e->!f->LB c b.1/\(!g->LB c b.2.2.1/\((l&&(!m))->A7 h (len c.2.2.2.1))/\(!i->A6 (a-1)/\nH0 c b.2.2.1 n/\(!j->pX1 c a))))/\(k->A6 (a+1)),d&&k,(a+1,()),d&&(e||((!e)&&(f||((!f)&&(g||((!g)&&(i||((!i)&&(j||((!j)&&o)))))))))),!d)
def sG5 y x:=(bJ y x).1
def Pc y x:=(bJ y x).2.1
def VH y x:=(bJ y x).2.2.1
def bK y x:=(bJ y x).2.2.2.1
def nH3 y x:=(bJ y x).2.2.2.2
def bL (y:L6)(x:AD):Int:=
 let c:=y.1
 let b:=x.1
 let a:=nth y.2.1 b A9
 let f:=LK a c.1 c.2.1
 let d:=DU c a.2.2.1
 let e:=cond (cond (a.2.2.1 !=0) (cond (cond (d<0) true (d≥b)) true ((nth c.2.2.2.1 d A9).2.1 !=1)) false) (9:Int) (cond (!(MZ c a.2.2.1 (b-1))) 24 12)
 (cond (f !=0) f (cond (cond (a.1<1) true (a.1≥c.2.2.2.2.1)) 2 (cond (DU c a.1<b) 10 e)))
def nH4:=li [(1,Ae),(8,Ar),(9,vI)] [(10,vI)] Pc VH sG5 (λy x=>[ex 1 (some (bK y x)) [(2,vI)] ((bL y x),()),ex 2 (some (nH3 y x)) [] ()]) [[(2,vI)],[]]
def bM (d:AJ):Prop×Int:=
 let a:=(d,d.2.2.2.1,len d.2.2.2.1,())
 let c:=((0:Int),())
 let b:=A3 (Pc a) (VH a) c
 (AB (Pc a) (VH a) (sG5 a) c,cond (bK a b) (bL a b) 0)
def nH5 a:=(bM a).1
def EW a:=(bM a).2
theorem kE5:SK 54 (AU Al vI nH5 EW):=fb Tryz.func54 77 [kb R1,kb kE2,kb kE3,kb kE4] [(2,nH4)]
def bN (y:uU6)(x:AD):Vm AD:=
 let f:=y.1
 let c:=y.2.1
 let a:=x.1
 let e:Bool:=a≥0
 let d:=(nth c.2.2.2.1 a A9).2.2.1==(nth c.2.2.2.1 f A9).2.2.1
 let b:=cond d (!(nth c.2.2.2.1 a A9).2.2.2.2.2.2.1) false
 (e->A7 a (len c.2.2.2.1)/\A7 f (len c.2.2.2.1)/\(d->A7 a (len c.2.2.2.1))/\(!b->A6 (a-1)),e&&(!b),(a-1,()),e&&b,!e)
def rR3 y x:=(bN y x).1
def VI y x:=(bN y x).2.1
def VJ y x:=(bN y x).2.2.1
def rR4 y x:=(bN y x).2.2.2.1
def nH6 y x:=(bN y x).2.2.2.2
def tW1 (y:uU6)(x:AD):Int:=
 x.1
def nH7:=li [(1,vI),(2,Ae)] [(5,vI)] VI VJ rR3 (λy x=>[ex 1 (some (rR4 y x)) [(4,vI)] ((tW1 y x),()),ex 2 (some (nH6 y x)) [] ()]) [[(4,vI)],[]]
def bO (d:AJ)(e:Int):Prop×Int:=
 let a:=(e,d,())
 let c:=(e-1,())
 let b:=A3 (VI a) (VJ a) c
 (A6 (e-1)/\AB (VI a) (VJ a) (rR3 a) c,cond (rR4 a b) (tW1 a b) (-1:Int))
def pX2 a b:=(bO a b).1
def Ir a b:=(bO a b).2
theorem kE6:SK 83 (BG Al vI vI pX2 Ir):=fb Tryz.func83 35 [] [(2,nH7)]
def bP (a:Int):Prop×Bool:=
 (True,cond (cond (cond (a≥1) (decide (a<=6)) false) true (a==9)) true (a==10))
def nH8 a:=(bP a).1
def JM a:=(bP a).2
theorem mK7:SK 84 (AU vI vB nH8 JM):=fb Tryz.func84 17
def bQ (y:L6)(x:AD):Vm AD:=
 let i:=y.1
 let j:=y.2.1
 let d:=x.1
 let a:Bool:=d<y.2.2.1
 let b:=!(nth j d A9).2.2.2.2.2.2.1
 let e:=Ir i d
 let c:Bool:=e<0
 let g:=nth i.2.2.2.1 e A9
 let h:=!(JM g.2.1)
 let f:=b||((!b)&&((!c)&&(!h)))
 (a->A7 d (len j)/\(!b->pX2 i d/\(!c->A7 e (len i.2.2.2.1)/\nH8 g.2.1))/\(f->A6 (d+1)),a&&f,(d+1,()),a&&((!b)&&(c||((!c)&&h))),!a)
def rR6 y x:=(bQ y x).1
def Nb y x:=(bQ y x).2.1
def RY y x:=(bQ y x).2.2.1
def bR y x:=(bQ y x).2.2.2.1
def nH9 y x:=(bQ y x).2.2.2.2
def bS (y:L6)(x:AD):Int:=
 (cond (Ir y.1 x.1<0) (14:Int) 8)
def nI:=li [(1,Ae),(7,Ar),(8,vI)] [(9,vI)] Nb RY rR6 (λy x=>[ex 1 (some (bR y x)) [(2,vI)] ((bS y x),()),ex 2 (some (nH9 y x)) [] ()]) [[(2,vI)],[]]
def bT (d:AJ):Prop×Int:=
 let a:=(d,d.2.2.2.1,len d.2.2.2.1,())
 let c:=((0:Int),())
 let b:=A3 (Nb a) (RY a) c
 (AB (Nb a) (RY a) (rR6 a) c,cond (bR a b) (bS a b) 0)
def nI0 a:=(bT a).1
def KQ a:=(bT a).2
theorem kE7:SK 55 (AU Al vI nI0 KQ):=fb Tryz.func55 31 [kb kE6,kb mK7] [(2,nI)]
def bU (y:Oc)(x:AD):Vm AD:=
 let e:=y.1
 let a:=x.1
 let b:Bool:=a<y.2.1
 let d:Bool:=wD e a<33
 let c:=cond d true (wD e a>126)
 (b->A7 a (len e)/\(!d->A7 a (len e))/\(!c->A6 (a+1)),b&&(!c),(a+1,()),b&&c,!b)
def pA2 y x:=(bU y x).1
def qR1 y x:=(bU y x).2.1
def tW2 y x:=(bU y x).2.2.1
def pA3 y x:=(bU y x).2.2.2.1
def nI1 y x:=(bU y x).2.2.2.2
def rR8 (y:Oc)(x:AD):Bool:=
 false
def nI2:=li [(0,vS),(13,vI)] [(14,vI)] qR1 tW2 pA2 (λy x=>[ex 1 (some (pA3 y x)) [(2,vB)] ((rR8 y x),()),ex 2 (some (nI1 y x)) [] ()]) [[(2,vB)],[]]
def bV (e:List UInt8):Prop×Bool:=
 let b:=cond (len e<1) true (len e>32)
 let a:=(e,len e,())
 let d:=((0:Int),())
 let c:=A3 (qR1 a) (tW2 a) d
 (!b->AB (qR1 a) (tW2 a) (pA2 a) d,cond b false (cond (pA3 a c) (rR8 a c) true))
def mK8 a:=(bV a).1
def f85 a:=(bV a).2
theorem kE8:SK 85 (AU vS vB mK8 f85):=fb Tryz.func85 28 [] [(4,nI2)]
def bW (y:YB)(x:AD):Vm AD:=
 let f:=y.2.1
 let d:=(Q1 y).1
 let a:=x.1
 let b:Bool:=a<(Q3 y).1
 let e:=nth d a CS
 let c:=cond (e.1==f.1) true (e.2.1==f.2.1)
 (b->A7 a (len d)/\(!c->A6 (a+1)),b&&(!c),(a+1,()),b&&c,!b)
def pA4 y x:=(bW y x).1
def rD y x:=(bW y x).2.1
def uV3 y x:=(bW y x).2.2.1
def rS y x:=(bW y x).2.2.2.1
def pA5 y x:=(bW y x).2.2.2.2
def rS0 (y:YB)(x:AD):Int:=
 10
def pA6:List (Nat×Sh):=[(1,Ae),(4,Cq),(9,Bf),(10,vI),(11,vI)]
def nI3:=li [(1,Ae),(4,Cq),(9,Bf),(10,vI),(11,vI),(53,Bf),(54,vI)] [(55,vI)] rD uV3 pA4 (λy x=>[ex 1 (some (rS y x)) [(2,vI)] ((rS0 y x),()),ex 4 (some (pA5 y x)) pA6 (y.1,y.2.1,y.2.2.1,y.2.2.2.1,y.2.2.2.2.1,())]) [[(2,vI)],pA6]
def bX (y:uR0)(x:AD):Vm AD:=
 let l:=y.1
 let m:=y.2.1
 let h:=y.2.2.1
 let b:=x.1
 let d:Bool:=b<h
 let a:=nth m b CS
 let e:=!(f85 a.2.1)
 let n:=cond (cond (cond (cond (a.1<1) true (a.1≥l.2.2.2.2.1)) true (a.2.2.1<0)) true (a.2.2.1>2)) true (a.2.2.2.1<1)
 let f:=cond n true (a.2.2.2.1>1073741824)
 let j:=take (toNat b) (Q0 l).1
 let g:=(l,a,m,h,b,j,len j,())
 let q:=((0:Int),())
 let o:=A3 (rD g) (uV3 g) q
 let c:=pA5 g o
 let k:=LC a.2.2.2.2.1!=0
 let i:=(!e)&&((!f)&&(c&&(!k)))
 (d->A7 b (len m)/\mK8 a.2.1/\(!e->!f->(0<=b/\b<=len (Q0 l).1)/\AB (rD g) (uV3 g) (pA4 g) q/\(c->qE a.2.2.2.2.1))/\(i->A6 (b+1)),d&&i,(b+1,()),d&&(e||((!e)&&(f||((!f)&&(rS g o||(c&&k)))))),!d)
def rS2 y x:=(bX y x).1
def Pd y x:=(bX y x).2.1
def VK y x:=(bX y x).2.2.1
def sG6 y x:=(bX y x).2.2.2.1
def nI4 y x:=(bX y x).2.2.2.2
def uV5 (y:uR0)(x:AD):Int:=
 let f:=y.1
 let h:=y.2.1
 let b:=x.1
 let a:=nth h b CS
 let g:=cond (cond (cond (cond (a.1<1) true (a.1≥f.2.2.2.2.1)) true (a.2.2.1<0)) true (a.2.2.1>2)) true (a.2.2.2.1<1)
 let d:=take (toNat b) (Q0 f).1
 let e:=(f,a,h,y.2.2.1,b,d,len d,())
 let i:=A3 (rD e) (uV3 e) (0,())
 let c:=cond (!(f85 a.2.1)) 13 (cond (cond g true (a.2.2.2.1>1073741824)) 2 (cond (rS e i) (rS0 e i) (LC a.2.2.2.2.1)))
 c
def nI5:=li [(1,Ae),(9,Bf),(10,vI)] [(11,vI)] Pd VK rS2 (λy x=>[ex 1 (some (sG6 y x)) [(2,vI)] ((uV5 y x),()),ex 2 (some (nI4 y x)) [] ()]) [[(2,vI)],[]]
def bY (d:AJ):Prop×Int:=
 let a:=(d,(Q0 d).1,len (Q0 d).1,())
 let c:=((0:Int),())
 let b:=A3 (Pd a) (VK a) c
 (AB (Pd a) (VK a) (rS2 a) c,cond (sG6 a b) (uV5 a b) 0)
def nI6 a:=(bY a).1
def RZ a:=(bY a).2
theorem kE9:SK 56 (AU Al vI nI6 RZ):=fb Tryz.func56 79 [kb kE8,kb mK6] [(2,nI5),(9,nI3)]
abbrev uV6:Type:=(Int×(List C4)×Int×Unit)
def bZ (y:uV6)(x:AD):Vm AD:=
 let d:=y.2.1
 let a:=x.1
 let b:Bool:=a<y.2.2.1
 let c:=(nth d a CS).1==y.1
 (b->A7 a (len d)/\(!c->A6 (a+1)),b&&(!c),(a+1,()),b&&c,!b)
def pA7 y x:=(bZ y x).1
def qR2 y x:=(bZ y x).2.1
def tW3 y x:=(bZ y x).2.2.1
def pA8 y x:=(bZ y x).2.2.2.1
def nI7 y x:=(bZ y x).2.2.2.2
def rS4 (y:uV6)(x:AD):Int:=
 x.1
def nI8:=li [(1,vI),(8,Bf),(9,vI)] [(10,vI)] qR2 tW3 pA7 (λy x=>[ex 1 (some (pA8 y x)) [(4,vI)] ((rS4 y x),()),ex 2 (some (nI7 y x)) [] ()]) [[(4,vI)],[]]
def cA (d:AJ)(e:Int):Prop×Int:=
 let a:=(e,(Q0 d).1,len (Q0 d).1,())
 let c:=((0:Int),())
 let b:=A3 (qR2 a) (tW3 a) c
 (AB (qR2 a) (tW3 a) (pA7 a) c,cond (pA8 a b) (rS4 a b) (-1:Int))
def nI9 a b:=(cA a b).1
def f87 a b:=(cA a b).2
theorem kF:SK 87 (BG Al vI vI nI9 f87):=fb Tryz.func87 21 [] [(2,nI8)]
def cB (y:L6)(x:AD):Vm AD:=
 let g:=y.1
 let m:=y.2.1
 let h:=x.1
 let b:Bool:=h<y.2.2.1
 let a:=nth m h A9
 let j:=a.2.1==9
 let c:=cond j (decide (f87 g (Qh a).1<0)) false
 let e:=a.2.1==10
 let f:=DU g (Qh a).1
 let d:Bool:=f<0
 let k:=nth g.2.2.2.1 f A9
 let l:=!(JM k.2.1)
 let i:=(!c)&&(cond e ((!d)&&(!l)) true)
 (b->A7 h (len m)/\(j->nI9 g (Qh a).1)/\(!c->e->LB g (Qh a).1/\(!d->A7 f (len g.2.2.2.1)/\nH8 k.2.1))/\(i->A6 (h+1)),b&&i,(h+1,()),b&&(c||((!c)&&((d||((!d)&&l))&&e))),!b)
def rS6 y x:=(cB y x).1
def Pe y x:=(cB y x).2.1
def VL y x:=(cB y x).2.2.1
def cC y x:=(cB y x).2.2.2.1
def nJ y x:=(cB y x).2.2.2.2
def uF (y:L6)(x:AD):Int:=
 let c:=y.1
 let a:=nth y.2.1 x.1 A9
 let b:=cond (cond (a.2.1==9) (decide (f87 c (Qh a).1<0)) false) (9:Int) (cond (DU c (Qh a).1<0) 9 8)
 b
def nJ0:=li [(1,Ae),(7,Ar),(8,vI)] [(9,vI)] Pe VL rS6 (λy x=>[ex 1 (some (cC y x)) [(2,vI)] ((uF y x),()),ex 2 (some (nJ y x)) [] ()]) [[(2,vI)],[]]
def cD (d:AJ):Prop×Int:=
 let a:=(d,d.2.2.2.1,len d.2.2.2.1,())
 let c:=((0:Int),())
 let b:=A3 (Pe a) (VL a) c
 (AB (Pe a) (VL a) (rS6 a) c,cond (cC a b) (uF a b) 0)
def nJ1 a:=(cD a).1
def cE a:=(cD a).2
theorem kF0:SK 57 (AU Al vI nJ1 cE):=fb Tryz.func57 41 [kb R1,kb mK7,kb kF] [(2,nJ0)]
end Go.Proofs.YtkmmjpnfhaecdaaGreatDoor.Am
