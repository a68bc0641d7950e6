/- Printed by program, part 6. No condition. -/
import Derived.Test.YtlpphnncneppoaaGreatDoorDckP5
set_option linter.unusedVariables false
set_option synthInstance.maxSize 4000
set_option synthInstance.maxHeartbeats 400000
namespace Go.Proofs.YtlpphnncneppoaaGreatDoor.Am
open Go Go.Am Go.Proofs
open _root_.Int (toNat)
open _root_.List (drop length set take)
open _root_.Option (getD isSome)
abbrev uU4:Type:=(Fs×Fs×Int×Unit)
def bE (y:uU4)(x:AD):Vm AD:=
 let d:=y.1
 let e:=y.2.1
 let a:=x.1
 let b:Bool:=a<y.2.2.1
 let c:=nth d.2.2.1 a 0!=nth e.2.2.1 a 0
 (b->A7 a (len d.2.2.1)/\A7 a (len e.2.2.1)/\(!c->A6 (a+1)),b&&(!c),(a+1,()),b&&c,!b)
def rP3 y x:=(bE y x).1
def sZ7 y x:=(bE y x).2.1
def uU5 y x:=(bE y x).2.2.1
def rP4 y x:=(bE y x).2.2.2.1
def nB4 y x:=(bE y x).2.2.2.2
def rP5 (y:uU4)(x:AD):Bool:=
 false
def nB5:=li [(2,(.box Hj By)),(3,(.box Hj By)),(29,vI)] [(30,vI)] sZ7 uU5 rP3 (λy x=>[ex 1 (some (rP4 y x)) [(4,vB)] ((rP5 y x),()),ex 2 (some (nB4 y x)) [] ()]) [[(4,vB)],[]]
def bF (e f:Fs):Prop×Bool:=
 let b:=cond (cond (e.1 !=f.1) true (e.2.1 !=f.2.1)) true (len e.2.2.1!=len f.2.2.1)
 let a:=(e,f,len e.2.2.1,())
 let d:=((0:Int),())
 let c:=A3 (sZ7 a) (uU5 a) d
 (!b->AB (sZ7 a) (uU5 a) (rP3 a) d,cond b false (cond (rP4 a c) (rP5 a c) true))
def nB6 a b:=(bF a b).1
def f63 a b:=(bF a b).2
theorem lV5:SK 63 (BF By By vB nB6 f63):=fb Tryz.func63 45 [] [(4,nB5)]
def bG (y:vZ7)(x:AD):Vm AD:=
 let d:=y.1
 let e:=y.2.1
 let b:=x.1
 let a:Bool:=b<len d.2.2.1
 let c:=!(Ty.eqb EG (nth d.2.2.1 b Gn) (nth e.2.2.1 b Gn))
 (a->A7 b (len d.2.2.1)/\A7 b (len e.2.2.1)/\(!c->A6 (b+1)),a&&(!c),(b+1,()),a&&c,!a)
def rP7 y x:=(bG y x).1
def sZ8 y x:=(bG y x).2.1
def uU7 y x:=(bG y x).2.2.1
def rP8 y x:=(bG y x).2.2.2.1
def nB7 y x:=(bG y x).2.2.2.2
def rP9 (y:vZ7)(x:AD):Bool:=
 false
def nB8:=li [(2,Dg),(3,Dg)] [(5,vI)] sZ8 uU7 rP7 (λy x=>[ex 1 (some (rP8 y x)) [(4,vB)] ((rP9 y x),()),ex 2 (some (nB7 y x)) [] ()]) [[(4,vB)],[]]
def bH (e f:GV):Prop×Bool:=
 let b:=cond (cond (e.1 !=f.1) true (e.2.1 !=f.2.1)) true (len e.2.2.1!=len f.2.2.1)
 let a:=(e,f,())
 let d:=((0:Int),())
 let c:=A3 (sZ8 a) (uU7 a) d
 (!b->AB (sZ8 a) (uU7 a) (rP7 a) d,cond b false (cond (rP8 a c) (rP9 a c) true))
def pQ9 a b:=(bH a b).1
def Vx a b:=(bH a b).2
theorem lV6:SK 65 (BF Cd Cd vB pQ9 Vx):=fb Tryz.func65 45 [] [(4,nB8)]
abbrev Vy:Type:=(AM×AM×Int×Unit)
def V0 (y:Vy)(x:AD):Vm AD:=
 let f:=y.1
 let g:=y.2.1
 let a:=x.1
 let b:Bool:=a<y.2.2.1
 let d:=nth f.2.2.2.1 a AA
 let e:=nth g.2.2.2.1 a AA
 let c:=!(J8 d e)
 (b->A7 a (len f.2.2.2.1)/\A7 a (len g.2.2.2.1)/\Ox d e/\(!c->A6 (a+1)),b&&(!c),(a+1,()),b&&c,!b)
def rQ y x:=(V0 y x).1
def bI y x:=(V0 y x).2.1
def bJ y x:=(V0 y x).2.2.1
def rQ0 y x:=(V0 y x).2.2.2.1
def rQ1 y x:=(V0 y x).2.2.2.2
def rQ2 (y:Vy)(x:AD):Bool:=
 false
def qV0:List (Nat×Sh):=[(2,Ag),(3,Ag)]
def nB9:=li [(2,Ag),(3,Ag),(73,vI)] [(74,vI)] bI bJ rQ (λy x=>[ex 1 (some (rQ0 y x)) [(4,vB)] ((rQ2 y x),()),ex 2 (some (rQ1 y x)) qV0 (y.1,y.2.1,())]) [[(4,vB)],qV0]
def V1 (y:Vy)(x:AD):Vm AD:=
 let d:=y.1
 let e:=y.2.1
 let a:=x.1
 let c:Bool:=a<y.2.2.1
 let b:=!(Ty.eqb Jw (nth (Q3 d).1 a DD) (nth (Q3 e).1 a DD))
 (c->A7 a (len (Q3 d).1)/\A7 a (len (Q3 e).1)/\(!b->A6 (a+1)),c&&(!b),(a+1,()),c&&b,!c)
def sN2 y x:=(V1 y x).1
def bK y x:=(V1 y x).2.1
def bL y x:=(V1 y x).2.2.1
def sN3 y x:=(V1 y x).2.2.2.1
def sN4 y x:=(V1 y x).2.2.2.2
def sW (y:Vy)(x:AD):Bool:=
 false
def qB8:List (Nat×Sh):=[(2,Ag),(3,Ag)]
def oJ7:=li [(2,Ag),(3,Ag),(92,vI)] [(93,vI)] bK bL sN2 (λy x=>[ex 1 (some (sN3 y x)) [(4,vB)] ((sW y x),()),ex 4 (some (sN4 y x)) qB8 (y.1,y.2.1,())]) [[(4,vB)],qB8]
def V2 (y:Vy)(x:AD):Vm AD:=
 let g:=y.1
 let h:=y.2.1
 let a:=x.1
 let d:Bool:=a<y.2.2.1
 let b:=nth (Q0 g).1 a CT
 let c:=nth (Q0 h).1 a CT
 let f:=cond (cond (cond (b.1 !=c.1) true (!(b.2.1==c.2.1))) true (b.2.2.1 !=c.2.2.1)) true (b.2.2.2.1 !=c.2.2.2.1)
 let e:=cond f true (!(Vx b.2.2.2.2.1 c.2.2.2.2.1))
 (d->A7 a (len (Q0 g).1)/\A7 a (len (Q0 h).1)/\(!f->pQ9 b.2.2.2.2.1 c.2.2.2.2.1)/\(!e->A6 (a+1)),d&&(!e),(a+1,()),d&&e,!d)
def sN5 y x:=(V2 y x).1
def bM y x:=(V2 y x).2.1
def bN y x:=(V2 y x).2.2.1
def sN6 y x:=(V2 y x).2.2.2.1
def oJ8 y x:=(V2 y x).2.2.2.2
def sW0 (y:Vy)(x:AD):Bool:=
 false
def oJ9:=li [(2,Ag),(3,Ag),(110,vI)] [(111,vI)] bM bN sN5 (λy x=>[ex 1 (some (sN6 y x)) [(4,vB)] ((sW0 y x),()),ex 6 (some (oJ8 y x)) [] ()]) [[(4,vB)],[]]
def R4 (n o:AM):Prop×Bool:=
 let l:=cond (cond (cond (cond (n.1 !=o.1) true (n.2.1 !=o.2.1)) true (n.2.2.1 !=o.2.2.1)) true (n.2.2.2.2.1 !=o.2.2.2.2.1)) true (len n.2.2.2.1!=len o.2.2.2.1)
 let g:=cond (cond l true (len (Q3 n).1!=len (Q3 o).1)) true (len (Q0 n).1!=len (Q0 o).1)
 let h:=cond g true (!(f63 (Q1 n).1 (Q1 o).1))
 let c:=(n,o,len n.2.2.2.1,())
 let m:=((0:Int),())
 let k:=A3 (bI c) (bJ c) m
 let a:=(n,o,len (Q3 n).1,())
 let i:=((0:Int),())
 let d:=A3 (bK a) (bL a) i
 let b:=(n,o,len (Q0 n).1,())
 let j:=((0:Int),())
 let e:=A3 (bM b) (bN b) j
 let f:=cond h false (cond (rQ0 c k) (rQ2 c k) (cond (sN3 a d) (sW a d) (cond (sN6 b e) (sW0 b e) true)))
 ((!g->nB6 (Q1 n).1 (Q1 o).1)/\(!h->AB (bI c) (bJ c) (rQ c) m/\(rQ1 c k->AB (bK a) (bL a) (sN2 a) i/\(sN4 a d->AB (bM b) (bN b) (sN5 b) j))),f)
def bO a b:=(R4 a b).1
def V3 a b:=(R4 a b).2
theorem lV7:SK 23 (BF An An vB bO V3):=fb Tryz.func23 159 [kb lV5,kb nZ7,kb lV6] [(4,nB9),(10,oJ7),(16,oJ9)]
def f8t (b:AM)(c:Int)(d:AM)(e:Int):Prop×Bool:=
 let a:=c==e
 (a->bO b d,cond a (V3 b d) false)
def oK a b c d:=(f8t a b c d).1
def f8 a b c d:=(f8t a b c d).2
def lB:=FA An vI An vI vB oK f8
theorem kB6:SK 8 (FA An vI An vI vB oK f8):=fb Tryz.func8 17 [kb lV7]
def qL4 (y:Ou)(x:Gq):Vn Gq:=
 let g:=y.2.1
 let f:=x.1
 let a:=x.2.1
 let b:Bool:=a<y.2.2.1
 let c:=nth g a AA
 let d:=c.2.2.1==y.1
 let e:=([c.1]:List Int)
 (b->A7 a (len g)/\(d->((length f+length e:Nat):Int)<=4294967296)/\A6 (a+1),b,(cond d (f++e) f,a+1,()))
def sE3 y x:=(qL4 y x).1
def qL5 y x:=(qL4 y x).2.1
def tT5 y x:=(qL4 y x).2.2
def rQ3 (y:Ou)(x:Gq):(List Int):=
 x.1
def qV2:List (Nat×Sh):=[(5,Bg)]
def nC:=li [(1,vI),(9,Au),(10,vI)] [(5,Bg),(11,vI)] qL5 tT5 sE3 (λy x=>[ex 2 none qV2 ((rQ3 y x),())]) [qV2]
def R5 (c:AM)(d:Int):Prop×(List Int):=
 let a:=(d,c.2.2.2.1,len c.2.2.2.1,())
 let b:=(([]:List Int),(0:Int),())
 (AB (qL5 a) (tT5 a) (sE3 a) b,rQ3 a (A3 (qL5 a) (tT5 a) b))
def V4 a b:=(R5 a b).1
def f27 a b:=(R5 a b).2
def nP:=BF An vI Bl V4 f27
theorem mA3:SK 27 (BF An vI Bl V4 f27):=fb Tryz.func27 26 [] [(3,nC)] [(13,[(4,0,23,1005)]),(17,[(4,0,1005,0)])]
def tN2 (y:Ou)(x:Gq):Vn Gq:=
 let g:=y.2.1
 let f:=x.1
 let a:=x.2.1
 let b:Bool:=a<y.2.2.1
 let c:=nth g a AA
 let d:=c.2.2.1==y.1
 let e:=([c.1]:List Int)
 (b->A7 a (len g)/\(d->((length f+length e:Nat):Int)<=4294967296)/\A6 (a+1),b,(cond d (f++e) f,a+1,()))
def uH6 y x:=(tN2 y x).1
def tT6 y x:=(tN2 y x).2.1
def uI1 y x:=(tN2 y x).2.2
def tP8 (y:Ou)(x:Gq):(List Int):=
 x.1
def sW1:List (Nat×Sh):=[(5,Bg)]
def qV3:=li [(1,vI),(9,Au),(10,vI)] [(5,Bg),(11,vI)] tT6 uI1 uH6 (λy x=>[ex 2 none sW1 ((tP8 y x),())]) [sW1]
def pL8 (c:AM)(d:Int):Prop×(List Int):=
 let a:=(d,c.2.2.2.1,len c.2.2.2.1,())
 let b:=(([]:List Int),(0:Int),())
 (AB (tT6 a) (uI1 a) (uH6 a) b,tP8 a (A3 (tT6 a) (uI1 a) b))
def bP a b:=(pL8 a b).1
def nC0 a b:=(pL8 a b).2
theorem qV4:SK 27 (BF An vI Ak bP nC0):=fb Tryz.func27 26 [] [(3,qV3)] [(13,[(4,0,23,1005)]),(17,[(4,0,1005,0)])]
def R7 (d:AM)(e:Int):Prop×Int:=
 let c:=e==0
 let a:=BN d e
 let b:Bool:=a<0
 (!c->Hy d e/\(!b->A7 a (len d.2.2.2.1)),cond c (0:Int) (cond b 9 (cond ((nth d.2.2.2.1 a AA).2.1 !=1) 8 0)))
def qC a b:=(R7 a b).1
def f34 a b:=(R7 a b).2
def nP0:=BF An vI vI qC f34
theorem mA4:SK 34 (BF An vI vI qC f34):=fb Tryz.func34 20 [kb Ok]
def f35 (a:List AJ)(b:Int)(c:List AJ):List AJ:=take (toNat b) a++(c++drop (toNat b) a)
def V5 (a:List AJ)(b:Int)(c:List AJ):Prop:=0<=b/\b<=(length a:Int)/\0<length c/\((length a+length c:Nat):Int)<=4294967296
def lV8:List (Nat×Sh):=[(0,(.own T42 400000 true)),(1,Dx),(2,(.own T42 400200 true))]
def lV9:Sh:=Cj
def lW:List (Nat×Sh):=[]
def pR:Am.Spec:=fnSpec lV8 lV9 lW (λx=>V5 x.1 x.2.1 x.2.2.1) (λx=>f35 x.1 x.2.1 x.2.2.1) (λ_=>())
theorem nC1:SpecOk Tryz.prog 35 pR:=nL rfl ⟨_,Tryz.func35,by kernel_rfl,by decide⟩ lI8
abbrev uV:Type:=((List Int)×(List (Int×Bool×Unit))×Int×Unit)
def qL6 (y:Ou)(x:uV):Vn uV:=
 let d:=y.2.1
 let g:=x.1
 let h:=x.2.1
 let a:=x.2.2.1
 let e:Bool:=a<y.2.2.1
 let b:=nth d a AA
 let c:=cond (b.2.2.1==y.1) true (getD (E7 Aa .bool b.2.2.1 h) false)
 let f:=([b.1]:List Int)
 (e->A7 a (len d)/\(c->((length g+length f:Nat):Int)<=4294967296)/\A6 (a+1),e,(cond c (g++f) g,cond c (He Aa .bool b.1 true h) h,a+1,()))
def sE5 y x:=(qL6 y x).1
def qL7 y x:=(qL6 y x).2.1
def tT7 y x:=(qL6 y x).2.2
def rQ4 (y:Ou)(x:uV):(List Int):=
 x.1
def qV5:List (Nat×Sh):=[(5,Bg)]
def nC2:=li [(1,vI),(11,Au),(12,vI)] [(5,Bg),(6,(.own (Hd Aa .bool) 1006 true)),(13,vI)] qL7 tT7 sE5 (λy x=>[ex 2 none qV5 ((rQ4 y x),())]) [qV5]
def R8 (c:AM)(d:Int):Prop×(List Int):=
 let a:=(d,c.2.2.2.1,len c.2.2.2.1,())
 let b:=(([]:List Int),([]:List (Int×Bool×Unit)),(0:Int),())
 (AB (qL7 a) (tT7 a) (sE5 a) b,rQ4 a (A3 (qL7 a) (tT7 a) b))
def R9 a b:=(R8 a b).1
def bQ a b:=(R8 a b).2
def nP1:=BF An vI Bl R9 bQ
theorem nC3:SK 32 (BF An vI Bl R9 bQ):=fx (λc=>{ c with maps:=maps }) Tryz.func32 37 [] [(4,nC2)] [(5,[(4,0,9,1006)]),(17,[(4,0,34,1005)]),(21,[(4,0,1005,0)])]
def RA (h:AM)(i j:Int):Prop×Int:=
 let a:=f27 h i
 let b:Bool:=j<len a
 let c:=nth a j 0
 let d:=i==0
 let e:=BN h i
 let f:=e+1
 let g:=len (bQ h i)
 (V4 h i/\(b->A7 j (len a)/\Hy h c)/\(!b->!d->Hy h i/\A6 (e+1)/\R9 h i/\A6 (f+g)),cond b (BN h c) (cond d (len h.2.2.2.1) (f+g)))
def V6 a b c:=(RA a b c).1
def f36 a b c:=(RA a b c).2
def nP2:=DU An vI vI vI V6 f36
theorem mA5:SK 36 (DU An vI vI vI V6 f36):=fb Tryz.func36 35 [kb Ok,kb mA3,kb nC3] [] [(3,[(4,0,10,1007)])]
def RB (p:AM)(s:AJ)(t u:Int):Prop×(AM×Int×Int×Unit):=
 let k:=GZ p
 let b:=k !=0
 let l:=f34 p t
 let c:=l !=0
 let m:Bool:=u<0
 let d:=cond m true (u>len (nC0 p t))
 let e:=cond (len p.2.2.2.1≥64) true (p.2.2.2.2.1==1073741824)
 let a:=Ic p
 let n:=Oq s
 let r:=(p.2.2.2.2.1,n.2.1,t,n.2.2.2)
 let o:=f36 p t u
 let q:=([r]:List AJ)
 let j:=(a.1,a.2.1,a.2.2.1,f35 a.2.2.2.1 o q,a.2.2.2.2.1+1,(Q1 a))
 let f:=QO j
 let g:=f.2.1 !=0
 let h:=cond e (0,0,0,[],0,(0,0,[],()),[],[],()) (cond g (0,0,0,[],0,(0,0,[],()),[],[],()) f.1)
 let i:=cond c (0,0,0,[],0,(0,0,[],()),[],[],()) (cond d (0,0,0,[],0,(0,0,[],()),[],[],()) h)
 (J7 p/\(!b->qC p t/\(!c->(!m->bP p t)/\(!d->!e->M0 p/\sS s/\V6 p t u/\V5 a.2.2.2.1 o q/\A6 (a.2.2.2.2.1+1)/\Ot j))),(cond b (0,0,0,[],0,(0,0,[],()),[],[],()) i,cond b 0 (cond c 0 (cond d 0 (cond e 0 (cond g 0 p.2.2.2.2.1)))),cond b k (cond c l (cond d 2 (cond e 3 (cond g f.2.1 0)))),()))
def RC a b c d:=(RB a b c d).1
def bR a b c d:=(RB a b c d).2
theorem lW0:SK 12 (FA An Aw vI vI (.tup (.cons An (.cons vI (.cons vI .nl)))) RC bR):=fx (λc=>{ c with wants:=[(35,[0,2])] }) Tryz.func12 84 [kb QK,kb pP5,kb pP4,kb oT0,kb qV4,kb mA4,kb nC1,kb mA5] [] [(23,[(4,0,50,401300),(4,0,300050,401303)]),(31,[(4,0,66,401300)]),(34,[(1,13,3,0),(1,13,7,0)])] false [] [65]
def RD (e f g:Int):Prop×(AM×Int×Unit):=
 let b:=(e,f,g,([]:List AJ),(1:Int),((0:Int),(0:Int),([]:List Int),()),([]:List C8),([]:List C9),())
 let c:=Jx b
 let a:=c !=0
 let d:=(cond a 0 e,cond a 0 f,cond a 0 g,([]:List AJ),cond a 0 1,(cond a 0 0,cond a 0 0,([]:List Int),()),([]:List C8),([]:List C9),())
 (Pz b,(d,cond a c 0,()))
def pR0 a b c:=(RD a b c).1
def f24 a b c:=(RD a b c).2
theorem lW1:SK 24 (DU vI vI vI (.tup (.cons An (.cons vI .nl))) pR0 f24):=fb Tryz.func24 21 [kb nY1]
abbrev uV0:Type:=((List Int)×(List Int)×Int×Unit)
def V7 (y:uV0)(x:AD):Vm AD:=
 let d:=y.1
 let e:=y.2.1
 let a:=x.1
 let b:Bool:=a<y.2.2.1
 let c:=nth d a 0!=nth e a 0
 (b->A7 a (len d)/\A7 a (len e)/\(!c->A6 (a+1)),b&&(!c),(a+1,()),b&&c,!b)
def sE6 y x:=(V7 y x).1
def qL8 y x:=(V7 y x).2.1
def tT8 y x:=(V7 y x).2.2.1
def qV6 y x:=(V7 y x).2.2.2.1
def nC4 y x:=(V7 y x).2.2.2.2
def rQ7 (y:uV0)(x:AD):Bool:=
 false
def nC5:=li [(0,Ak),(1,Ak),(12,vI)] [(13,vI)] qL8 tT8 sE6 (λy x=>[ex 1 (some (qV6 y x)) [(4,vB)] ((rQ7 y x),()),ex 2 (some (nC4 y x)) [] ()]) [[(4,vB)],[]]
def RE (e f:List Int):Prop×Bool:=
 let b:=len e !=len f
 let a:=(e,f,len e,())
 let d:=((0:Int),())
 let c:=A3 (qL8 a) (tT8 a) d
 (!b->AB (qL8 a) (tT8 a) (sE6 a) d,cond b false (cond (qV6 a c) (rQ7 a c) true))
def RF a b:=(RE a b).1
def bS a b:=(RE a b).2
theorem lW2:SK 25 (BF Ak Ak vB RF bS):=fb Tryz.func25 26 [] [(4,nC5)]
abbrev bT:Type:=((List AJ)×Int×Unit)
def qL9 (y:bT)(x:Gq):Vn Gq:=
 let e:=y.1
 let d:=x.1
 let a:=x.2.1
 let b:Bool:=a<y.2.1
 let c:=([(nth e a AA).1]:List Int)
 (b->A7 a (len e)/\((length d+length c:Nat):Int)<=4294967296/\A6 (a+1),b,(d++c,a+1,()))
def sE8 y x:=(qL9 y x).1
def qM y x:=(qL9 y x).2.1
def tT9 y x:=(qL9 y x).2.2
def rQ9 (y:bT)(x:Gq):(List Int):=
 x.1
def qV7:List (Nat×Sh):=[(3,(.own Aa 1003 false))]
def nC6:=li [(7,Au),(8,vI)] [(3,(.own Aa 1003 false)),(9,vI)] qM tT9 sE8 (λy x=>[ex 2 none qV7 ((rQ9 y x),())]) [qV7]
def RG (c:AM):Prop×(List Int):=
 let a:=(c.2.2.2.1,len c.2.2.2.1,())
 let b:=(([]:List Int),(0:Int),())
 (AB (qM a) (tT9 a) (sE8 a) b,rQ9 a (A3 (qM a) (tT9 a) b))
def V8 a:=(RG a).1
def f26 a:=(RG a).2
theorem lW3:SK 26 (AU An Bl V8 f26):=fb Tryz.func26 20 [] [(3,nC6)] [(11,[(4,0,17,1003)]),(15,[(4,0,1003,0)])]
def qM0 (y:ZU)(x:CU):Vn CU:=
 let a:=y.1
 let d:=x.1
 let e:=x.2.1
 let b:=(nth a.2.2.2.1 d AA).2.2.1 !=0
 let c:=nth a.2.2.2.1 d AA
 (A7 d (len a.2.2.2.1)/\(b->A7 d (len a.2.2.2.1)/\Hy a c.2.2.1/\A6 (e+1)),b,(BN a c.2.2.1,e+1,()))
def sF y x:=(qM0 y x).1
def qM1 y x:=(qM0 y x).2.1
def tU y x:=(qM0 y x).2.2
def rR (y:ZU)(x:CU):Int:=
 x.2.1
def nC7:=li [(2,Ag)] [(5,vI),(6,vI)] qM1 tU sF (λy x=>[ex 2 none [(6,vI)] ((rR y x),())]) [[(6,vI)]]
def RH (f:AM)(g:Int):Prop×Int:=
 let d:=BN f g
 let b:Bool:=d<0
 let c:=cond b true (GZ f !=0)
 let a:=(f,())
 let e:=(d,(1:Int),())
 (Hy f g/\(!b->J7 f)/\(!c->AB (qM1 a) (tU a) (sF a) e),cond c 0 (rR a (A3 (qM1 a) (tU a) e)))
def pR1 a b:=(RH a b).1
def f28 a b:=(RH a b).2
theorem lW4:SK 28 (BF An vI vI pR1 f28):=fb Tryz.func28 35 [kb QK,kb Ok] [(5,nC7)]
def f31 (a:List AJ)(b c:Int):List AJ:=take (toNat b) a++drop (toNat c) a
def pR2 (a:List AJ)(b c:Int):Prop:=0<=b/\b<c/\c<=(length a:Int)
def lW5:List (Nat×Sh):=[(0,(.own T42 400000 true)),(1,Dx),(2,Dx)]
def lW6:Sh:=Cj
def lW7:List (Nat×Sh):=[]
def pR3:Am.Spec:=fnSpec lW5 lW6 lW7 (λx=>pR2 x.1 x.2.1 x.2.2.1) (λx=>f31 x.1 x.2.1 x.2.2.1) (λ_=>())
theorem lW8:SpecOk Tryz.prog 31 pR3:=nL0 rfl ⟨_,Tryz.func31,by kernel_rfl,by decide⟩ lI7
def V9 (y:UT)(x:AD):Vm AD:=
 let d:=y.1
 let b:=x.1
 let c:Bool:=b<y.2.2.1
 let a:=y.2.1==nth d b 0
 (c->A7 b (len d)/\(!a->A6 (b+1)),c&&(!a),(b+1,()),c&&a,!c)
def sF0 y x:=(V9 y x).1
def qM2 y x:=(V9 y x).2.1
def tU0 y x:=(V9 y x).2.2.1
def qV8 y x:=(V9 y x).2.2.2.1
def nC8 y x:=(V9 y x).2.2.2.2
def rR0 (y:UT)(x:AD):Int:=
 x.1
def nC9:=li [(0,Ak),(1,vI),(7,vI)] [(8,vI)] qM2 tU0 sF0 (λy x=>[ex 1 (some (qV8 y x)) [(4,vI)] ((rR0 y x),()),ex 2 (some (nC8 y x)) [] ()]) [[(4,vI)],[]]
def RI (d:List Int)(e:Int):Prop×Int:=
 let a:=(d,e,len d,())
 let c:=((0:Int),())
 let b:=A3 (qM2 a) (tU0 a) c
 (AB (qM2 a) (tU0 a) (sF0 a) c,cond (qV8 a b) (rR0 a b) (-1:Int))
def pR4 a b:=(RI a b).1
def f99 a b:=(RI a b).2
theorem lW9:SK 99 (BF Ak vI vI pR4 f99):=fb Tryz.func99 19 [] [(2,nC9)]
def RJ (a:List Int)(b:Int):Prop×Bool:=
 (pR4 a b,decide (f99 a b≥0))
def bU a b:=(RJ a b).1
def f66 a b:=(RJ a b).2
def nP3:=BF Ak vI vB bU f66
theorem lX:SK 66 (BF Ak vI vB bU f66):=fb Tryz.func66 9 [kb lW9]
def RL (p:AM)(D E F:Int):Prop×(AM×Int×Unit):=
 let t:=GZ p
 let g:=t !=0
 let b:=BN p D
 let h:Bool:=b<0
 let u:=f34 p E
 let i:=u !=0
 let j:=bQ p D
 let v:=E==D
 let k:=cond v true (f66 j E)
 let a:=Ic p
 let w:=b+1
 let z:=len j
 let e:=w+z
 let c:=drop (toNat b) (take (toNat e) a.2.2.2.1)
 let s:=((nth c 0 AA).1,(nth c 0 AA).2.1,E,(nth c 0 AA).2.2.2)
 let d:=set c (toNat 0) s
 let f:=f31 a.2.2.2.1 b e
 let A:Bool:=F<0
 let o:=(a.1,a.2.1,a.2.2.1,f,a.2.2.2.2)
 let l:=cond A true (F>len (f27 o E))
 let q:=(a.1,a.2.1,a.2.2.1,f,a.2.2.2.2)
 let B:=f36 q E F
 let r:=(a.1,a.2.1,a.2.2.1,f35 f B d,a.2.2.2.2)
 let C:=QO r
 let m:=cond k (0,0,0,[],0,(0,0,[],()),[],[],()) (cond l (0,0,0,[],0,(0,0,[],()),[],[],()) C.1)
 let n:=cond h (0,0,0,[],0,(0,0,[],()),[],[],()) (cond i (0,0,0,[],0,(0,0,[],()),[],[],()) m)
 (J7 p/\(!g->Hy p D/\(!h->qC p E/\(!i->R9 p D/\(!v->bU j E)/\(!k->M0 p/\A6 (b+1)/\A6 (w+z)/\(0<=b/\b<=e/\e<=len a.2.2.2.1)/\(0<length c/\(length c:Int)<=4294967296)/\A7 0 (len c)/\(0:Int)<len c/\pR2 a.2.2.2.1 b e/\((!A)->V4 o E)/\(!l->V6 q E F/\V5 f B d/\Ot r))))),(cond g (0,0,0,[],0,(0,0,[],()),[],[],()) n,cond g t (cond h 9 (cond i u (cond k 11 (cond l 2 C.2.1)))),()))
def qW a b c d:=(RL a b c d).1
def f29 a b c d:=(RL a b c d).2
def nP4:=FA An vI vI vI (.tup (.cons An (.cons vI .nl))) qW f29
def lB0:Ctx:={ Cx tys [(14,nN1),(15,nN),(16,nN9),(18,nO),(27,nP),(31,pR3),(32,nP1),(34,nP0),(35,pR),(36,nP2),(66,nP3)] [] [(21,[(4,0,38,1013)]),(27,[(4,0,49,401400),(4,0,300049,401403)]),(31,[(4,0,60,1016)]),(35,[(4,0,69,401400)]),(41,[(4,0,89,401400)]),(42,[(1,14,3,0),(1,14,7,0)])] false 95 [] [] with wants:=[(31,[0]),(35,[0,2])],clones:=[(67,43)] }
theorem lB1:CtxOk Tryz.prog lB0:=wA Pu rfl ⟨QK,Ok,pP5,oT0,mA3,lW8,nC3,mA4,nC1,mA5,lX,trivial⟩ rfl (by kernel_rfl) rfl nL6
theorem lX0:SK 29 nP4:=fl lB1 Tryz.func29 (bs:=[]) trivial
abbrev tH7:Type:=(AM×(Int×Int×Int×(List AJ)×Int×(Int×Int×(List Int)×Unit)×(List C8)×(List C9)×Unit)×Int×Int×Int×Unit)
abbrev uD8:Type:=((List (Int×Int×Unit))×Int×Unit)
def sZ9 (y:tH7)(x:uD8):Vn uD8:=
 let d:=y.1
 let e:=y.2.2.1
 let a:=x.2.1
 let b:Bool:=a<y.2.2.2.2.1
 let c:=e+a
 (b->A6 (e+a)/\A7 c (len d.2.2.2.1)/\A6 (d.2.2.2.2.1+a)/\A6 (a+1),b,(He Aa Aa (nth d.2.2.2.1 c AA).1 (d.2.2.2.2.1+a) x.1,a+1,()))
def tN3 y x:=(sZ9 y x).1
def rR1 y x:=(sZ9 y x).2.1
def tH8 y x:=(sZ9 y x).2.2
def sW2 (y:tH7)(x:uD8):(List (Int×Int×Unit)):=
 x.1
def qC3:List (Nat×Sh):=[(2,Ag),(4,Ab),(8,vI),(9,vI),(10,Cv)]
def oK0:=li [(2,Ag),(4,Ab),(8,vI),(9,vI),(52,vI)] [(10,Cv),(53,vI)] rR1 tH8 tN3 (λy x=>[ex 2 none qC3 (y.1,y.2.1,y.2.2.1,y.2.2.2.1,(sW2 y x),())]) [qC3]
abbrev tH9:Type:=(AM×(Int×Int×Int×(List AJ)×Int×(Int×Int×(List Int)×Unit)×(List C8)×(List C9)×Unit)×Int×Int×(List (Int×Int×Unit))×Int×Unit)
def rA (y:tH9)(x:bT):Vn bT:=
 let m:=y.1
 let n:=y.2.2.1
 let d:=y.2.2.2.2.1
 let e:=x.1
 let b:=x.2.1
 let g:Bool:=b<(Q1 y).1
 let h:=n+b
 let i:=nth m.2.2.2.1 h AA
 let c:=Oq i
 let j:=getD (E7 Aa Aa c.1 d) 0
 let s:=(j,c.2)
 let k:=(j,c.2.1,getD (E7 Aa Aa c.2.2.1 d) 0,c.2.2.2)
 let a:=cond (isSome (E7 Aa Aa c.2.2.1 d)) k s
 let l:=(Vf a (getD (E7 Aa Aa (Qh a).1 d) 0) ((Qj a).1,()))
 let f:=set e (toNat b) (cond (cond (isSome (E7 Aa Aa (Qh a).1 d)) (a.2.1==10) false) l a)
 (g->A6 (n+b)/\A7 h (len m.2.2.2.1)/\sS i/\A7 b (len e)/\b<len e/\A6 (b+1),g,(f,b+1,()))
def tN4 y x:=(rA y x).1
def rR2 y x:=(rA y x).2.1
def tI y x:=(rA y x).2.2
def sW3 (y:tH9)(x:bT):(List AJ):=
 x.1
def qC4:List (Nat×Sh):=[(2,Ag),(4,Ab),(8,vI),(9,vI),(12,(.own T42 1012 true))]
def oK1:=li [(2,Ag),(4,Ab),(8,vI),(9,vI),(10,Cv),(73,vI)] [(12,(.own T42 1012 true)),(74,vI)] rR2 tI tN4 (λy x=>[ex 4 none qC4 (y.1,y.2.1,y.2.2.1,y.2.2.2.1,(sW3 y x),())]) [qC4]
def RM (p:AM)(u:Int):Prop×((Int×Int×Int×(List AJ)×Int×Fs×(List C8)×(List C9)×Unit)×Int×Int×Unit):=
 let l:=GZ p
 let c:=l !=0
 let i:=BN p u
 let d:Bool:=i<0
 let m:=len (bQ p u)
 let a:=1+m
 let n:=len p.2.2.2.1
 let o:Bool:=(n+a)>64
 let e:=cond o true ((p.2.2.2.2.1+a)>1073741824)
 let g:=(p,((0:Int),(0:Int),(0:Int),([]:List AJ),(0:Int),((0:Int),(0:Int),([]:List Int),()),([]:List C8),([]:List C9),()),i,a,a,())
 let r:=(([]:List (Int×Int×Unit)),(0:Int),())
 let q:=List.replicate (toNat a) AA
 let h:=(p,((0:Int),(0:Int),(0:Int),([]:List AJ),(0:Int),((0:Int),(0:Int),([]:List Int),()),([]:List C8),([]:List C9),()),i,a,sW2 g (A3 (rR1 g) (tH8 g) r),len q,())
 let s:=(q,(0:Int),())
 let f:=sW3 h (A3 (rR2 h) (tI h) s)
 let b:=Ic p
 let j:=i+a
 let k:=cond c (0,0,[],()) (cond d (0,0,[],()) (cond e (0,0,[],()) (Q1 b).1))
 let t:=(cond c 0 (cond d 0 (cond e 0 b.1)),cond c 0 (cond d 0 (cond e 0 b.2.1)),cond c 0 (cond d 0 (cond e 0 b.2.2.1)),cond c [] (cond d [] (cond e [] (f35 b.2.2.2.1 j f))),cond c 0 (cond d 0 (cond e 0 (b.2.2.2.2.1+a))),k,cond c [] (cond d [] (cond e [] (Q3 b).1)),cond c [] (cond d [] (cond e [] (Q0 b).1)),())
 (J7 p/\(!c->Hy p u/\(!d->R9 p u/\A6 (1+m)/\A6 (n+a)/\(!o->A6 (p.2.2.2.2.1+a))/\(!e->AB (rR1 g) (tH8 g) (tN3 g) r/\(0<=a/\a<=a/\a<=4294967296)/\AB (rR2 h) (tI h) (tN4 h) s/\M0 p/\A6 (i+a)/\V5 b.2.2.2.1 j f/\A6 (b.2.2.2.2.1+a)))),(t,cond c 0 (cond d 0 (cond e 0 p.2.2.2.2.1)),cond c l (cond d 9 (cond e 3 0)),()))
def pR5 a b:=(RM a b).1
def f30 a b:=(RM a b).2
theorem lX1:SK 30 (BF An vI (.tup (.cons (.agg (.cons Aa (.cons Aa (.cons Aa (.cons Cr (.cons Aa (.cons Hj (.cons Cs (.cons Ct .nl)))))))) (.cons vI (.cons vI (.cons vI (.cons Cj (.cons vI (.cons By (.cons Bk (.cons Dw .nl))))))))) (.cons vI (.cons vI .nl)))) pR5 f30):=fx (λc=>{ c with wants:=[(35,[0,2])],maps:=maps }) Tryz.func30 138 [kb QK,kb Ok,kb pP5,kb pP4,kb nC3,kb nC1] [(12,oK0),(18,oK1)] [(21,[(4,0,51,1010)]),(33,[(4,0,71,1012)]),(61,[(4,0,121,401900),(4,0,300121,401903)]),(63,[(4,0,128,401900)]),(67,[(4,0,401900,0),(4,0,401903,3)])] false [] [71]
def f9t :Prop×Bool:=
 let s:=((5:Int),(0:Int),(0:Int),(9:Int),())
 let c:=f24 4 4 0
 let C:=cond (cond (cond (c.2.1 !=0) true (c.1.1 !=4)) true (c.1.2.1 !=4)) true (c.1.2.2.2.2.1 !=1)
 let A:=((0:Int),(1:Int),(0:Int),([103]:List UInt8),false,false,false,(65535:Int),(0:Int),((0:Int),(0:Int),([]:List Int),()),Lk,(0:Int),((0:Int),(0:Int),([]:List CP),()),Gn,(0:Int),([]:List Int),(0:Int),([]:List B0),([]:List A9),(0:Int),(0:Int),(0:Int),(0:Int),([]:List UInt8),(0:Int),(0:Int),(0:Int),((0:Int),(0:Int),(0:Int),([]:List A0),()),())
 let h:=bR c.1 A 0 0
 let E:=cond (h.2.2.1 !=0) true (h.2.1 !=1)
 let B:=((0:Int),(3:Int),(0:Int),([102]:List UInt8),false,false,false,(65535:Int),(0:Int),((0:Int),(0:Int),([]:List Int),()),Lk,(0:Int),((0:Int),(0:Int),([]:List CP),()),s,(0:Int),([]:List Int),(0:Int),([]:List B0),([]:List A9),(0:Int),(0:Int),(0:Int),(0:Int),([]:List UInt8),(0:Int),(0:Int),(0:Int),((0:Int),(0:Int),(0:Int),([]:List A0),()),())
 let i:=bR h.1 B 1 0
 let F:=cond (i.2.2.1 !=0) true (i.2.1 !=2)
 let j:=((0:Int),(3:Int),(0:Int),([102]:List UInt8),false,false,false,(65535:Int),(0:Int),((0:Int),(0:Int),([]:List Int),()),Lk,(0:Int),((0:Int),(0:Int),([]:List CP),()),s,(0:Int),([]:List Int),(0:Int),([]:List B0),([]:List A9),(0:Int),(0:Int),(0:Int),(0:Int),([]:List UInt8),(0:Int),(0:Int),(0:Int),((0:Int),(0:Int),(0:Int),([]:List A0),()),())
 let b:=bR i.1 j 0 0
 let v:=cond (b.2.2.1 !=0) true (b.2.1 !=3)
 let H:=f26 b.1
 let J:=([(3:Int),(1:Int),(2:Int)]:List Int)
 let w:=cond v true (!(bS H J))
 let K:=nC0 b.1 0
 let L:=([(3:Int),(1:Int)]:List Int)
 let M:=cond w true (!(bS K L))
 let N:=cond M true (f28 b.1 2!=2)
 let O:=cond N true (GZ b.1!=0)
 let d:=f29 b.1 3 1 1
 let e:=d.2.1 !=0
 let m:=f26 d.1
 let n:=([(1:Int),(2:Int),(3:Int)]:List Int)
 let o:=cond e true (!(bS m n))
 let q:=(f29 b.1 1 1 0).2.1 !=11
 let k:=((0:Int),(3:Int),(0:Int),([102]:List UInt8),false,false,true,(65535:Int),(0:Int),((0:Int),(0:Int),([]:List Int),()),Lk,(0:Int),((0:Int),(0:Int),([]:List CP),()),s,(0:Int),([]:List Int),(0:Int),([]:List B0),([]:List A9),(0:Int),(0:Int),(0:Int),(0:Int),([]:List UInt8),(0:Int),(0:Int),(0:Int),((0:Int),(0:Int),(0:Int),([]:List A0),()),())
 let r:=(bR b.1 k 0 0).2.2.1 !=14
 let a:=f30 b.1 1
 let f:=cond (a.2.2.1==0) (a.2.1==4) false
 let l:=(a.1.1,a.1.2.1,a.1.2.2.1,a.1.2.2.2.1,a.1.2.2.2.2.1,(Q1 a.1).1,(Q3 a.1).1,(Q0 a.1).1,())
 let t:=f26 l
 let u:=([(3:Int),(1:Int),(2:Int),(4:Int),(5:Int)]:List Int)
 let g:=cond (cond f (bS t u) false) (a.1.2.2.2.2.1==6) false
 let z:=cond F false (cond O false (cond o false (cond q false (cond r false (cond g ((nth a.1.2.2.2.1 4 AA).2.2.1==4) false)))))
 (pR0 4 4 0/\((!C)->RC c.1 A 0 0/\((!E)->RC h.1 B 1 0/\((!F)->RC i.1 j 0 0/\(!v->V8 b.1)/\(!v->RF H J)/\(!w->bP b.1 0)/\(!w->RF K L)/\((!M)->pR1 b.1 2)/\((!N)->J7 b.1)/\((!O)->qW b.1 3 1 1/\(!e->V8 d.1)/\(!e->RF m n)/\(!o->qW b.1 1 1 0/\(!q->RC b.1 k 0 0/\(!r->pR5 b.1 1/\(f->V8 l)/\(f->RF t u)/\(g->A7 4 (len a.1.2.2.2.1))/\(g->4<len a.1.2.2.2.1)))))))),cond C false (cond E false z))
def VA :Prop:=(f9t).1
def f9 :Bool:=(f9t).2
def lB2:Am.Spec:=fnSpec [] vB [] (λx=>VA ) (λx=>f9 ) (λ_=>())
theorem kB7:SK 9 (fnSpec [] vB [] (λx=>VA ) (λx=>f9 ) (λ_=>())):=fb Tryz.func9 160 [kb lW0,kb QK,kb lW1,kb lW2,kb lW3,kb qV4,kb lW4,kb lX0,kb lX1] [] [(51,[(4,0,131,400900),(4,0,300131,400903)])]
def f3t (d:AM)(e:AJ):Prop×Bool:=
 let a:=f6 d e
 let b:=f7 d e
 let c:=f8 a.1 a.2.1 b.1 b.2.1
 (nO0 d e/\nO9 d e/\oK a.1 a.2.1 b.1 b.2.1/\(c->VA),cond c f9 false)
def f3_ok a b:=(f3t a b).1
def f3 a b:=(f3t a b).2
def lB3:=BF An Aw vB f3_ok f3
def lX2:=Cy [(6,mS8),(7,lA9),(8,lB),(9,lB2)] [] [] 29
theorem f3_is:SK 3 lB3:=fq (c:=lX2) Tryz.func3 ⟨kB4,kB5,kB6,kB7,trivial⟩
end Go.Proofs.YtlpphnncneppoaaGreatDoor.Am
