/- Printed by program, part 2. No condition. -/
import Derived.Test.YtlpphnncneppoaaGreatDoorDckL
set_option linter.unusedVariables false
set_option synthInstance.maxSize 4000
set_option synthInstance.maxHeartbeats 400000
namespace Go.Proofs.YtlpphnncneppoaaGreatDoor.Am
open Go Go.Am Go.Proofs
open Go.IntKind (wrap)
open _root_.Int (sub tdiv tmod toNat)
open _root_.List (length set)
abbrev uU4:Type:=(Fs×Fs×Int×Unit)
def bE (y:uU4)(x:AD):Vm AD:=
 let d:=y.1
 let e:=y.2.1
 let a:=x.1
 let b:Bool:=a<y.2.2.1
 let c:=nth d.2.2.1 a 0!=nth e.2.2.1 a 0
 (b->A7 a (len d.2.2.1)/\A7 a (len e.2.2.1)/\(!c->A6 (a+1)),b&&(!c),(a+1,()),b&&c,!b)
def rP3 y x:=(bE y x).1
def sZ7 y x:=(bE y x).2.1
def uU5 y x:=(bE y x).2.2.1
def rP4 y x:=(bE y x).2.2.2.1
def nB4 y x:=(bE y x).2.2.2.2
def rP5 (y:uU4)(x:AD):Bool:=
 false
def nB5:=li [(2,(.box Hj Ca)),(3,(.box Hj Ca)),(29,vI)] [(30,vI)] sZ7 uU5 rP3 (λy x=>[ex 1 (some (rP4 y x)) [(4,vB)] ((rP5 y x),()),ex 2 (some (nB4 y x)) [] ()]) [[(4,vB)],[]]
def bF (e f:Fs):Prop×Bool:=
 let b:=cond (cond (e.1 !=f.1) true (e.2.1 !=f.2.1)) true (len e.2.2.1!=len f.2.2.1)
 let a:=(e,f,len e.2.2.1,())
 let d:=((0:Int),())
 let c:=A3 (sZ7 a) (uU5 a) d
 (!b->AB (sZ7 a) (uU5 a) (rP3 a) d,cond b false (cond (rP4 a c) (rP5 a c) true))
def nB6 a b:=(bF a b).1
def f63 a b:=(bF a b).2
theorem lV5:SK 63 (BF Ca Ca vB nB6 f63):=fb Tryz.func63 45 [] [(4,nB5)]
abbrev vZ6:Type:=((List Int)×(List Int)×Unit)
def Y4 (y:vZ6)(x:AD):Vm AD:=
 let d:=y.1
 let e:=y.2.1
 let b:=x.1
 let a:Bool:=b<len d
 let c:=nth d b 0!=nth e b 0
 (a->A7 b (len d)/\A7 b (len e)/\(!c->A6 (b+1)),a&&(!c),(b+1,()),a&&c,!a)
def tL0 y x:=(Y4 y x).1
def Y5 y x:=(Y4 y x).2.1
def Y7 y x:=(Y4 y x).2.2.1
def sJ2 y x:=(Y4 y x).2.2.2.1
def oE2 y x:=(Y4 y x).2.2.2.2
def sS3 (y:vZ6)(x:AD):Bool:=
 false
def oE3:=li [(0,Ak),(1,Ak)] [(5,vI)] Y5 Y7 tL0 (λy x=>[ex 1 (some (sJ2 y x)) [(4,vB)] ((sS3 y x),()),ex 2 (some (oE2 y x)) [] ()]) [[(4,vB)],[]]
def lP0 (e f:List Int):Prop×Bool:=
 let b:=len e !=len f
 let a:=(e,f,())
 let d:=((0:Int),())
 let c:=A3 (Y5 a) (Y7 a) d
 (!b->AB (Y5 a) (Y7 a) (tL0 a) d,cond b false (cond (sJ2 a c) (sS3 a c) true))
def Y8 a b:=(lP0 a b).1
def I9 a b:=(lP0 a b).2
theorem oT4:SK 124 (BF Ak Ak vB Y8 I9):=fb Tryz.func124 26 [] [(4,oE3)]
def QQ (b c:Fs):Prop×Bool:=
 let a:=cond (b.1==c.1) (b.2.1==c.2.1) false
 (a->Y8 b.2.2.1 c.2.2.1,cond a (I9 b.2.2.1 c.2.2.1) false)
def Y9 a b:=(QQ a b).1
def Uv a b:=(QQ a b).2
theorem lP1:SK 97 (BF Ca Ca vB Y9 Uv):=fb Tryz.func97 24 [kb oT4]
abbrev vZ7:Type:=(GV×GV×Unit)
def sA (y:vZ7)(x:AD):Vm AD:=
 let d:=y.1
 let e:=y.2.1
 let b:=x.1
 let a:Bool:=b<len d.2.2.1
 let c:=!(Ty.eqb EG (nth d.2.2.1 b Gn) (nth e.2.2.1 b Gn))
 (a->A7 b (len d.2.2.1)/\A7 b (len e.2.2.1)/\(!c->A6 (b+1)),a&&(!c),(b+1,()),a&&c,!a)
def tL1 y x:=(sA y x).1
def Uw y x:=(sA y x).2.1
def Ux y x:=(sA y x).2.2.1
def YA y x:=(sA y x).2.2.2.1
def oE4 y x:=(sA y x).2.2.2.2
def sS4 (y:vZ7)(x:AD):Bool:=
 false
def oE5:=li [(2,Dg),(3,Dg)] [(5,vI)] Uw Ux tL1 (λy x=>[ex 1 (some (YA y x)) [(4,vB)] ((sS4 y x),()),ex 2 (some (oE4 y x)) [] ()]) [[(4,vB)],[]]
def lP2 (e f:GV):Prop×Bool:=
 let b:=cond (cond (e.1 !=f.1) true (e.2.1 !=f.2.1)) true (len e.2.2.1!=len f.2.2.1)
 let a:=(e,f,())
 let d:=((0:Int),())
 let c:=A3 (Uw a) (Ux a) d
 (!b->AB (Uw a) (Ux a) (tL1 a) d,cond b false (cond (YA a c) (sS4 a c) true))
def qI a b:=(lP2 a b).1
def IA a b:=(lP2 a b).2
theorem mT:SK 125 (BF Cd Cd vB qI IA):=fb Tryz.func125 45 [] [(4,oE5)]
abbrev vZ8:Type:=((List B0)×(List B0)×Unit)
def YB (y:vZ8)(x:AD):Vm AD:=
 let d:=y.1
 let e:=y.2.1
 let b:=x.1
 let a:Bool:=b<len d
 let c:=!(Ty.eqb F9 (nth d b CG) (nth e b CG))
 (a->A7 b (len d)/\A7 b (len e)/\(!c->A6 (b+1)),a&&(!c),(b+1,()),a&&c,!a)
def tL2 y x:=(YB y x).1
def YC y x:=(YB y x).2.1
def YD y x:=(YB y x).2.2.1
def sJ3 y x:=(YB y x).2.2.2.1
def oE6 y x:=(YB y x).2.2.2.2
def sS5 (y:vZ8)(x:AD):Bool:=
 false
def oE7:=li [(0,Ao),(1,Ao)] [(5,vI)] YC YD tL2 (λy x=>[ex 1 (some (sJ3 y x)) [(4,vB)] ((sS5 y x),()),ex 2 (some (oE6 y x)) [] ()]) [[(4,vB)],[]]
def lP3 (e f:List B0):Prop×Bool:=
 let b:=len e !=len f
 let a:=(e,f,())
 let d:=((0:Int),())
 let c:=A3 (YC a) (YD a) d
 (!b->AB (YC a) (YD a) (tL2 a) d,cond b false (cond (sJ3 a c) (sS5 a c) true))
def qI0 a b:=(lP3 a b).1
def Ky a b:=(lP3 a b).2
theorem mT0:SK 126 (BF Ao Ao vB qI0 Ky):=fb Tryz.func126 26 [] [(4,oE7)]
abbrev vZ9:Type:=((List A9)×(List A9)×Unit)
def YE (y:vZ9)(x:AD):Vm AD:=
 let d:=y.1
 let e:=y.2.1
 let b:=x.1
 let a:Bool:=b<len d
 let c:=!(Ty.eqb DQ (nth d b A5) (nth e b A5))
 (a->A7 b (len d)/\A7 b (len e)/\(!c->A6 (b+1)),a&&(!c),(b+1,()),a&&c,!a)
def tL3 y x:=(YE y x).1
def YF y x:=(YE y x).2.1
def YG y x:=(YE y x).2.2.1
def sJ4 y x:=(YE y x).2.2.2.1
def oE8 y x:=(YE y x).2.2.2.2
def sS6 (y:vZ9)(x:AD):Bool:=
 false
def oE9:=li [(0,Ai),(1,Ai)] [(5,vI)] YF YG tL3 (λy x=>[ex 1 (some (sJ4 y x)) [(4,vB)] ((sS6 y x),()),ex 2 (some (oE8 y x)) [] ()]) [[(4,vB)],[]]
def lP4 (e f:List A9):Prop×Bool:=
 let b:=len e !=len f
 let a:=(e,f,())
 let d:=((0:Int),())
 let c:=A3 (YF a) (YG a) d
 (!b->AB (YF a) (YG a) (tL3 a) d,cond b false (cond (sJ4 a c) (sS6 a c) true))
def qI1 a b:=(lP4 a b).1
def Kz a b:=(lP4 a b).2
theorem mT1:SK 127 (BF Ai Ai vB qI1 Kz):=fb Tryz.func127 26 [] [(4,oE9)]
abbrev uA:Type:=(Iw×Iw×Unit)
def YH (y:uA)(x:AD):Vm AD:=
 let d:=y.1
 let e:=y.2.1
 let b:=x.1
 let a:Bool:=b<len d.2.2.2.1
 let c:=!(Ty.eqb AQ (nth d.2.2.2.1 b A1) (nth e.2.2.2.1 b A1))
 (a->A7 b (len d.2.2.2.1)/\A7 b (len e.2.2.2.1)/\(!c->A6 (b+1)),a&&(!c),(b+1,()),a&&c,!a)
def tL4 y x:=(YH y x).1
def uL y x:=(YH y x).2.1
def Uy y x:=(YH y x).2.2.1
def YI y x:=(YH y x).2.2.2.1
def oF y x:=(YH y x).2.2.2.2
def sS7 (y:uA)(x:AD):Bool:=
 false
def oF0:=li [(2,(.box SS Da)),(3,(.box SS Da))] [(5,vI)] uL Uy tL4 (λy x=>[ex 1 (some (YI y x)) [(4,vB)] ((sS7 y x),()),ex 2 (some (oF y x)) [] ()]) [[(4,vB)],[]]
def lP5 (e f:Iw):Prop×Bool:=
 let b:=cond (cond (cond (e.1 !=f.1) true (e.2.1 !=f.2.1)) true (e.2.2.1 !=f.2.2.1)) true (len e.2.2.2.1!=len f.2.2.2.1)
 let a:=(e,f,())
 let d:=((0:Int),())
 let c:=A3 (uL a) (Uy a) d
 (!b->AB (uL a) (Uy a) (tL4 a) d,cond b false (cond (YI a c) (sS7 a c) true))
def qI2 a b:=(lP5 a b).1
def IB a b:=(lP5 a b).2
theorem mT2:SK 128 (BF Da Da vB qI2 IB):=fb Tryz.func128 52 [] [(4,oF0)]
def M1 (i j:AJ):Prop×Bool:=
 let c:=cond (cond (IA (Q6 i).1 (Q6 j).1) (Ty.eqb EG (Q9 i).1 (Q9 j).1) false) ((Qb i).1==(Qb j).1) false
 let d:=cond (cond c (I9 (Qa i).1 (Qa j).1) false) ((Qe i).1==(Qe j).1) false
 let e:=cond d (Ky (Qd i).1 (Qd j).1) false
 let f:=cond (cond e (Kz (Q8 i).1 (Q8 j).1) false) ((Qi i).1==(Qi j).1) false
 let g:=cond (cond f ((Qc i).1==(Qc j).1) false) ((Qf i).1==(Qf j).1) false
 let h:=cond (cond g ((Qg i).1==(Qg j).1) false) ((Qk i).1==(Qk j).1) false
 let b:=cond (cond h ((Ql i).1==(Ql j).1) false) ((Qm i).1==(Qm j).1) false
 let a:=cond b ((Qh i).1==(Qh j).1) false
 (qI (Q6 i).1 (Q6 j).1/\(c->Y8 (Qa i).1 (Qa j).1)/\(d->qI0 (Qd i).1 (Qd j).1)/\(e->qI1 (Q8 i).1 (Q8 j).1)/\(a->qI2 (Qj i).1 (Qj j).1),cond a (IB (Qj i).1 (Qj j).1) false)
def YJ a b:=(M1 a b).1
def Ow a b:=(M1 a b).2
theorem lP6:SK 98 (BF Ay Ay vB YJ Ow):=fb Tryz.func98 115 [kb oT4,kb mT,kb mT0,kb mT1,kb mT2]
def QR (e f:AJ):Prop×Bool:=
 let c:=cond (cond (cond (cond (e.1==f.1) (e.2.1==f.2.1) false) (e.2.2.1==f.2.2.1) false) (e.2.2.2.1==f.2.2.2.1) false) (Ty.eqb .bool e.2.2.2.2.1 f.2.2.2.2.1) false
 let d:=cond (cond (cond c (Ty.eqb .bool (Q1 e).1 (Q1 f).1) false) (Ty.eqb .bool (Q3 e).1 (Q3 f).1) false) ((Q0 e).1==(Q0 f).1) false
 let a:=cond d ((Q5 e).1==(Q5 f).1) false
 let b:=cond (cond (cond a (Uv (Q4 e).1 (Q4 f).1) false) (Ty.eqb Hk (Q2 e).1 (Q2 f).1) false) ((Q7 e).1==(Q7 f).1) false
 ((a->Y9 (Q4 e).1 (Q4 f).1)/\(b->YJ e f),cond b (Ow e f) false)
def Ox a b:=(QR a b).1
def J8 a b:=(QR a b).2
theorem nZ7:SK 64 (BF Ay Ay vB Ox J8):=fb Tryz.func64 92 [kb lP1,kb lP6]
def bG (y:vZ7)(x:AD):Vm AD:=
 let d:=y.1
 let e:=y.2.1
 let b:=x.1
 let a:Bool:=b<len d.2.2.1
 let c:=!(Ty.eqb EG (nth d.2.2.1 b Gn) (nth e.2.2.1 b Gn))
 (a->A7 b (len d.2.2.1)/\A7 b (len e.2.2.1)/\(!c->A6 (b+1)),a&&(!c),(b+1,()),a&&c,!a)
def rP7 y x:=(bG y x).1
def sZ8 y x:=(bG y x).2.1
def uU7 y x:=(bG y x).2.2.1
def rP8 y x:=(bG y x).2.2.2.1
def nB7 y x:=(bG y x).2.2.2.2
def rP9 (y:vZ7)(x:AD):Bool:=
 false
def nB8:=li [(2,Dg),(3,Dg)] [(5,vI)] sZ8 uU7 rP7 (λy x=>[ex 1 (some (rP8 y x)) [(4,vB)] ((rP9 y x),()),ex 2 (some (nB7 y x)) [] ()]) [[(4,vB)],[]]
def bH (e f:GV):Prop×Bool:=
 let b:=cond (cond (e.1 !=f.1) true (e.2.1 !=f.2.1)) true (len e.2.2.1!=len f.2.2.1)
 let a:=(e,f,())
 let d:=((0:Int),())
 let c:=A3 (sZ8 a) (uU7 a) d
 (!b->AB (sZ8 a) (uU7 a) (rP7 a) d,cond b false (cond (rP8 a c) (rP9 a c) true))
def pQ9 a b:=(bH a b).1
def Vx a b:=(bH a b).2
theorem lV6:SK 65 (BF Cd Cd vB pQ9 Vx):=fb Tryz.func65 45 [] [(4,nB8)]
abbrev Vy:Type:=(AM×AM×Int×Unit)
def V0 (y:Vy)(x:AD):Vm AD:=
 let f:=y.1
 let g:=y.2.1
 let a:=x.1
 let b:Bool:=a<y.2.2.1
 let d:=nth f.2.2.2.1 a AA
 let e:=nth g.2.2.2.1 a AA
 let c:=!(J8 d e)
 (b->A7 a (len f.2.2.2.1)/\A7 a (len g.2.2.2.1)/\Ox d e/\(!c->A6 (a+1)),b&&(!c),(a+1,()),b&&c,!b)
def rQ y x:=(V0 y x).1
def bI y x:=(V0 y x).2.1
def bJ y x:=(V0 y x).2.2.1
def rQ0 y x:=(V0 y x).2.2.2.1
def rQ1 y x:=(V0 y x).2.2.2.2
def rQ2 (y:Vy)(x:AD):Bool:=
 false
def qV0:List (Nat×Sh):=[(2,Ae),(3,Ae)]
def nB9:=li [(2,Ae),(3,Ae),(73,vI)] [(74,vI)] bI bJ rQ (λy x=>[ex 1 (some (rQ0 y x)) [(4,vB)] ((rQ2 y x),()),ex 2 (some (rQ1 y x)) qV0 (y.1,y.2.1,())]) [[(4,vB)],qV0]
def V1 (y:Vy)(x:AD):Vm AD:=
 let d:=y.1
 let e:=y.2.1
 let a:=x.1
 let c:Bool:=a<y.2.2.1
 let b:=!(Ty.eqb Jw (nth (Q3 d).1 a DD) (nth (Q3 e).1 a DD))
 (c->A7 a (len (Q3 d).1)/\A7 a (len (Q3 e).1)/\(!b->A6 (a+1)),c&&(!b),(a+1,()),c&&b,!c)
def sN2 y x:=(V1 y x).1
def bK y x:=(V1 y x).2.1
def bL y x:=(V1 y x).2.2.1
def sN3 y x:=(V1 y x).2.2.2.1
def sN4 y x:=(V1 y x).2.2.2.2
def sW (y:Vy)(x:AD):Bool:=
 false
def qB8:List (Nat×Sh):=[(2,Ae),(3,Ae)]
def oJ7:=li [(2,Ae),(3,Ae),(92,vI)] [(93,vI)] bK bL sN2 (λy x=>[ex 1 (some (sN3 y x)) [(4,vB)] ((sW y x),()),ex 4 (some (sN4 y x)) qB8 (y.1,y.2.1,())]) [[(4,vB)],qB8]
def V2 (y:Vy)(x:AD):Vm AD:=
 let g:=y.1
 let h:=y.2.1
 let a:=x.1
 let d:Bool:=a<y.2.2.1
 let b:=nth (Q0 g).1 a CT
 let c:=nth (Q0 h).1 a CT
 let f:=cond (cond (cond (b.1 !=c.1) true (!(b.2.1==c.2.1))) true (b.2.2.1 !=c.2.2.1)) true (b.2.2.2.1 !=c.2.2.2.1)
 let e:=cond f true (!(Vx b.2.2.2.2.1 c.2.2.2.2.1))
 (d->A7 a (len (Q0 g).1)/\A7 a (len (Q0 h).1)/\(!f->pQ9 b.2.2.2.2.1 c.2.2.2.2.1)/\(!e->A6 (a+1)),d&&(!e),(a+1,()),d&&e,!d)
def sN5 y x:=(V2 y x).1
def bM y x:=(V2 y x).2.1
def bN y x:=(V2 y x).2.2.1
def sN6 y x:=(V2 y x).2.2.2.1
def oJ8 y x:=(V2 y x).2.2.2.2
def sW0 (y:Vy)(x:AD):Bool:=
 false
def oJ9:=li [(2,Ae),(3,Ae),(110,vI)] [(111,vI)] bM bN sN5 (λy x=>[ex 1 (some (sN6 y x)) [(4,vB)] ((sW0 y x),()),ex 6 (some (oJ8 y x)) [] ()]) [[(4,vB)],[]]
def R4 (n o:AM):Prop×Bool:=
 let l:=cond (cond (cond (cond (n.1 !=o.1) true (n.2.1 !=o.2.1)) true (n.2.2.1 !=o.2.2.1)) true (n.2.2.2.2.1 !=o.2.2.2.2.1)) true (len n.2.2.2.1!=len o.2.2.2.1)
 let g:=cond (cond l true (len (Q3 n).1!=len (Q3 o).1)) true (len (Q0 n).1!=len (Q0 o).1)
 let h:=cond g true (!(f63 (Q1 n).1 (Q1 o).1))
 let c:=(n,o,len n.2.2.2.1,())
 let m:=((0:Int),())
 let k:=A3 (bI c) (bJ c) m
 let a:=(n,o,len (Q3 n).1,())
 let i:=((0:Int),())
 let d:=A3 (bK a) (bL a) i
 let b:=(n,o,len (Q0 n).1,())
 let j:=((0:Int),())
 let e:=A3 (bM b) (bN b) j
 let f:=cond h false (cond (rQ0 c k) (rQ2 c k) (cond (sN3 a d) (sW a d) (cond (sN6 b e) (sW0 b e) true)))
 ((!g->nB6 (Q1 n).1 (Q1 o).1)/\(!h->AB (bI c) (bJ c) (rQ c) m/\(rQ1 c k->AB (bK a) (bL a) (sN2 a) i/\(sN4 a d->AB (bM b) (bN b) (sN5 b) j))),f)
def bO a b:=(R4 a b).1
def V3 a b:=(R4 a b).2
theorem lV7:SK 23 (BF Al Al vB bO V3):=fb Tryz.func23 159 [kb lV5,kb nZ7,kb lV6] [(4,nB9),(10,oJ7),(16,oJ9)]
def f8t (b:AM)(c:Int)(d:AM)(e:Int):Prop×Bool:=
 let a:=c==e
 (a->bO b d,cond a (V3 b d) false)
def oK a b c d:=(f8t a b c d).1
def f8 a b c d:=(f8t a b c d).2
def lB:=FA Al vI Al vI vB oK f8
theorem kB6:SK 8 (FA Al vI Al vI vB oK f8):=fb Tryz.func8 17 [kb lV7]
def Py :Prop×Int:=
 (True,4)
def Tc :Prop:=(Py).1
def f71 :Int:=(Py).2
def nM3:Am.Spec:=fnSpec [] vI [] (λx=>Tc ) (λx=>f71 ) (λ_=>())
theorem lJ2:SK 71 (fnSpec [] vI [] (λx=>Tc ) (λx=>f71 ) (λ_=>())):=fb Tryz.func71 1
def LV (c:AM):Prop×Int:=
 let a:=cond (cond (cond (c.1<1) true (c.1>256)) true (c.2.1<1)) true (c.2.1>256)
 let b:Bool:=c.2.2.1<0
 (!a->!b->Tc,cond a (15:Int) (cond (cond b true (c.2.2.1≥f71)) 2 0))
def Pz a:=(LV a).1
def Jx a:=(LV a).2
def nM4:=AU Al vI Pz Jx
def mF2:=Cy [(71,nM3)] [] [] 30
theorem nY1:SK 40 nM4:=fq (c:=mF2) Tryz.func40 ⟨lJ2,trivial⟩
def P0 (a:Int):Prop×Bool:=
 (True,cond (a≥0) (decide (a<=65535)) false)
def qR a:=(P0 a).1
def f81 a:=(P0 a).2
theorem lJ3:SK 81 (AU vI vB qR f81):=fb Tryz.func81 9
abbrev Gq:Type:=((List Int)×Int×Unit)
def Td (y:Gq)(x:AD):Vm AD:=
 let d:=y.1
 let a:=x.1
 let b:Bool:=a<y.2.1
 let e:=nth d a 0
 let c:=!(f81 e)
 (b->A7 a (len d)/\qR e/\(!c->A6 (a+1)),b&&(!c),(a+1,()),b&&c,!b)
def WZ y x:=(Td y x).1
def r0 y x:=(Td y x).2.1
def r7 y x:=(Td y x).2.2.1
def qR0 y x:=(Td y x).2.2.2.1
def oO y x:=(Td y x).2.2.2.2
def rC8 (y:Gq)(x:AD):Int:=
 2
def oO0:=li [(42,Ak),(43,vI)] [(44,vI)] r0 r7 WZ (λy x=>[ex 1 (some (qR0 y x)) [(2,vI)] ((rC8 y x),()),ex 2 (some (oO y x)) [] ()]) [[(2,vI)],[]]
def P1 (g:Fs):Prop×Int:=
 let b:=cond (cond (cond (g.1<0) true (g.1>256)) true (g.2.1<0)) true (g.2.1>256)
 let c:=!(Ty.eqb .bool (g.1==0) (g.2.1==0))
 let d:=cond c true (len g.2.2.1!=(g.1*g.2.1))
 let a:=(g.2.2.1,len g.2.2.1,())
 let f:=((0:Int),())
 let e:=A3 (r0 a) (r7 a) f
 (!b->(!c->A6 (g.1*g.2.1))/\(!d->AB (r0 a) (r7 a) (WZ a) f),cond b 15 (cond d 15 (cond (qR0 a e) (rC8 a e) 0)))
def NK a:=(P1 a).1
def Kk a:=(P1 a).2
theorem nY2:SK 46 (AU Ca vI NK Kk):=fb Tryz.func46 52 [kb lJ3] [(6,oO0)]
def P2 (a:AJ):Prop×Bool:=
 (True,cond (cond (a.2.1==7) true (a.2.1==8)) true (a.2.1==11))
def P3 a:=(P2 a).1
def Jy a:=(P2 a).2
theorem oO1:SK 74 (AU Ay vB P3 Jy):=fb Tryz.func74 16
def r8 (o:Int):Prop×(List UInt8):=
 let l:=o==1
 let m:=o==2
 let n:=o==3
 let e:=o==4
 let f:=o==5
 let g:=o==6
 let h:=o==7
 let i:=o==8
 let j:=o==9
 let k:=o==10
 let c:=cond i ([102,105,108,116,101,114]:List UInt8) (cond j ([108,105,110,107]:List UInt8) (cond k ([99,108,111,110,101]:List UInt8) ([119,97,114,112]:List UInt8)))
 let d:=cond e ([103,114,97,100,105,101,110,116]:List UInt8) (cond f ([112,97,116,104]:List UInt8) (cond g ([116,101,120,116]:List UInt8) (cond h ([97,100,106,117,115,116]:List UInt8) c)))
 let b:=cond n true (cond e true (cond f true (cond g true (cond h true (cond i true (cond j true (cond k true (o==11))))))))
 let a:=cond (cond l true (cond m true b)) (cond l ([103,114,111,117,112]:List UInt8) (cond m ([105,109,97,103,101]:List UInt8) (cond n ([102,105,108,108]:List UInt8) d))) []
 (True,a)
def qZ4 a:=(r8 a).1
def Hq a:=(r8 a).2
theorem mF3:SK 130 (AU vI vS qZ4 Hq):=fb Tryz.func130 26
abbrev NL:Type:=((List UInt8)×Int×Unit)
def Xa (y:NL)(x:AD):Vm AD:=
 let e:=y.1
 let a:=x.1
 let b:Bool:=a<y.2.1
 let d:Bool:=wD e a<33
 let c:=cond d true (wD e a>126)
 (b->A7 a (len e)/\(!d->A7 a (len e))/\(!c->A6 (a+1)),b&&(!c),(a+1,()),b&&c,!b)
def rU3 y x:=(Xa y x).1
def Te y x:=(Xa y x).2.1
def Tf y x:=(Xa y x).2.2.1
def rU4 y x:=(Xa y x).2.2.2.1
def pZ9 y x:=(Xa y x).2.2.2.2
def sP1 (y:NL)(x:AD):Bool:=
 false
def oA:=li [(0,vS),(13,vI)] [(14,vI)] Te Tf rU3 (λy x=>[ex 1 (some (rU4 y x)) [(2,vB)] ((sP1 y x),()),ex 2 (some (pZ9 y x)) [] ()]) [[(2,vB)],[]]
def lJ4 (e:List UInt8):Prop×Bool:=
 let b:=cond (len e<1) true (len e>32)
 let a:=(e,len e,())
 let d:=((0:Int),())
 let c:=A3 (Te a) (Tf a) d
 (!b->AB (Te a) (Tf a) (rU3 a) d,cond b false (cond (rU4 a c) (sP1 a c) true))
def qZ5 a:=(lJ4 a).1
def LW a:=(lJ4 a).2
theorem mF4:SK 131 (AU vS vB qZ5 LW):=fb Tryz.func131 28 [] [(4,oA)]
def lJ5 (a:Int):Prop×Bool:=
 (True,cond (a≥0) (decide (a<=1073741824)) false)
def r9 a:=(lJ5 a).1
def P4 a:=(lJ5 a).2
theorem mF5:SK 132 (AU vI vB r9 P4):=fb Tryz.func132 9
def lJ6 (a:Int):Prop×Bool:=
 (True,cond (a≥0) (decide (a<=65535)) false)
def qZ6 a:=(lJ6 a).1
def Xb a:=(lJ6 a).2
theorem mF6:SK 133 (AU vI vB qZ6 Xb):=fb Tryz.func133 9
def lJ7 (a:Int):Prop×Bool:=
 (True,cond (a≥0) (decide (a<18)) false)
def qZ7 a:=(lJ7 a).1
def P5 a:=(lJ7 a).2
theorem mF7:SK 134 (AU vI vB qZ7 P5):=fb Tryz.func134 9
def mF8 (k:AJ)(l m:Int):Prop×Int:=
 let b:=cond (cond (cond (l<1) true (l>256)) true (m<1)) true (m>256)
 let c:=Hq k.2.1==[]
 let d:=!(LW k.2.2.2.1)
 let e:=!(P4 k.1)
 let f:=cond e true (!(P4 k.2.2.1))
 let g:=cond f true (!(Xb (Q0 k).1))
 let h:=!(P5 (Q5 k).1)
 let i:=cond h true (cond (Jy k) ((Q5 k).1 !=0) false)
 let j:=Kk (Q4 k).1
 let a:=cond (j !=0) j (cond (cond ((Q4 k).1.1 !=0) (cond ((Q4 k).1.1 !=l) true ((Q4 k).1.2.1 !=m)) false) 15 0)
 (!b->qZ4 k.2.1/\(!c->qZ5 k.2.2.2.1/\(!d->r9 k.1/\(!e->r9 k.2.2.1)/\(!f->qZ6 (Q0 k).1)/\(!g->qZ7 (Q5 k).1/\(!h->P3 k)/\(!i->NK (Q4 k).1)))),cond b 15 (cond c 8 (cond d 13 (cond g 2 (cond i 8 a)))))
def qZ8 a b c:=(mF8 a b c).1
def Fh a b c:=(mF8 a b c).2
theorem mF9:SK 101 (DU Ay vI vI vI qZ8 Fh):=fb Tryz.func101 83 [kb nY2,kb oO1,kb mF3,kb mF4,kb mF5,kb mF6,kb mF7]
def mG (e:Int):Prop×Bool:=
 let a:=e==2
 let b:=e==5
 let c:=e==6
 let d:=e==9
 (True,cond (cond a a (cond b b (cond c c (cond d d (e==10))))) true false)
def s7 a:=(mG a).1
def Gr a:=(mG a).2
theorem oO2:SK 102 (AU vI vB s7 Gr):=fb Tryz.func102 10
def Xc (a b c:Int):Prop×Int:=
 (True,GJ c (GI a b))
def NM a b c:=(Xc a b c).1
def DL a b c:=(Xc a b c).2
theorem qZ9:SK 201 (DU vI vI vI vI NM DL):=fb Tryz.func201 12 [] [] [] true
def lJ8 (a:Int):Prop×Int:=
 (NM a (-16777216:Int) 16777216,DL a (-16777216:Int) 16777216)
def Tg a:=(lJ8 a).1
def Kl a:=(lJ8 a).2
theorem mG0:SK 163 (AU vI vI Tg Kl):=fb Tryz.func163 5 [kb qZ9]
def lJ9 (a:Int):Prop×Int:=
 (NM a (-1099511627776:Int) 1099511627776,DL a (-1099511627776:Int) 1099511627776)
def NN a:=(lJ9 a).1
def Gs a:=(lJ9 a).2
theorem oO4:SK 164 (AU vI vI NN Gs):=fb Tryz.func164 5 [kb qZ9] [] [] true
def lK (a:C3):Prop×C3:=
 (Tg a.1/\Tg a.2.1/\Tg a.2.2.1/\Tg a.2.2.2.1/\NN a.2.2.2.2.1/\NN (Q1 a).1,(Kl a.1,Kl a.2.1,Kl a.2.2.1,Kl a.2.2.2.1,Gs a.2.2.2.2.1,Gs (Q1 a).1,()))
def s8 a:=(lK a).1
def Km a:=(lK a).2
theorem oO5:SK 135 (AU Ba Ba s8 Km):=fb Tryz.func135 22 [kb mG0,kb oO4] [] [] true
def lK0 (a:C3):Prop×Int:=
 (s8 a,cond (!(Ty.eqb Hk a (Km a))) (2:Int) 0)
def NO a:=(lK0 a).1
def CK a:=(lK0 a).2
theorem s9:SK 103 (AU Ba vI NO CK):=fb Tryz.func103 7 [kb oO5]
def mG1 (d e f g:Int):Prop×Int:=
 let a:=DH e 65536
 let b:=DH g 65536
 let c:=wrap .i64 (wrap .i64 (d*wrap .i64 (e-(wrap .i64 (a*65536))))+wrap .i64 (f*wrap .i64 (g-(wrap .i64 (b*65536)))))
 (Pw e 65536/\Pw g 65536/\Ej c 65536,wrap .i64 (wrap .i64 (wrap .i64 (d*a)+wrap .i64 (f*b))+AS c 65536))
def sH a b c d:=(mG1 a b c d).1
def Hr a b c d:=(mG1 a b c d).2
theorem oO6:SK 137 (FA vI vI vI vI vI sH Hr):=fb Tryz.func137 37 [kb Kh,kb oN2] [] [] true
def mG2 (p:C3):Prop×(C3×Int×Unit):=
 let v:=CK p
 let c:=v !=0
 let a:=wrap .i64 (wrap .i64 (p.1*p.2.2.2.1)-(wrap .i64 (p.2.1*p.2.2.1)))
 let d:=a==0
 let l:=wrap .i64 (p.2.2.2.1*4294967296)
 let e:=AS l a
 let m:=wrap .i64 (wrap .i64 (sub 0 p.2.1)*4294967296)
 let f:=AS m a
 let n:=wrap .i64 (wrap .i64 (sub 0 p.2.2.1)*4294967296)
 let g:=AS n a
 let o:=wrap .i64 (p.1*4294967296)
 let h:=AS o a
 let k:=(e,f,g,h,(0:Int),(0:Int),())
 let i:=CK k !=0
 let q:=wrap .i64 (sub 0 e)
 let r:=wrap .i64 (sub 0 g)
 let s:=wrap .i64 (sub 0 f)
 let t:=wrap .i64 (sub 0 h)
 let b:=(e,f,g,h,Hr q p.2.2.2.2.1 r (Q1 p).1,Hr s p.2.2.2.2.1 t (Q1 p).1,())
 let u:=CK b !=0
 let j:=cond d (0,0,0,0,0,0,()) (cond i (0,0,0,0,0,0,()) (cond u (0,0,0,0,0,0,()) b))
 (NO p/\(!c->!d->Ej l a/\Ej m a/\Ej n a/\Ej o a/\NO k/\(!i->sH q p.2.2.2.2.1 r (Q1 p).1/\sH s p.2.2.2.2.1 t (Q1 p).1/\NO b)),(cond c (0,0,0,0,0,0,()) j,cond c v (cond d 17 (cond i 17 (cond u 17 0))),()))
def pA0 a:=(mG2 a).1
def Iy a:=(mG2 a).2
theorem mG3:SK 104 (AU Ba (.tup (.cons Ba (.cons vI .nl))) pA0 Iy):=fb Tryz.func104 83 [kb s9,kb Kh,kb oO6] [] [] true
def mG4 (d:Int):Prop×Bool:=
 let a:=d==2
 let b:=d==9
 let c:=d==10
 (True,cond (cond a a (cond b b (cond c c (d==11)))) true false)
def tE a:=(mG4 a).1
def Gt a:=(mG4 a).2
theorem oO7:SK 105 (AU vI vB tE Gt):=fb Tryz.func105 9
def lK1 (a:Int):Prop×Bool:=
 (True,cond (a≥0) (decide (a<=4)) false)
def pA1 a:=(lK1 a).1
def LX a:=(lK1 a).2
theorem mG5:SK 106 (AU vI vB pA1 LX):=fb Tryz.func106 9
def uC (a b:Int):Prop×Bool:=
 (True,cond (cond (cond (cond (a≥0) (decide (a<=256)) false) (decide (b≥0)) false) (decide (b<=256)) false) (Ty.eqb .bool (a==0) (b==0)) false)
def rD a b:=(uC a b).1
def Iz a b:=(uC a b).2
theorem mG6:SK 110 (BF vI vI vB rD Iz):=fb Tryz.func110 26
def mG7 (a:Int):Prop×Int:=
 (NM a 0 65535,DL a 0 65535)
def uY a:=(mG7 a).1
def Kn a:=(mG7 a).2
theorem mG8:SK 180 (AU vI vI uY Kn):=fb Tryz.func180 5 [kb qZ9]
def mG9 (a:CP):Prop×CP:=
 (uY a.1/\uY a.2.1/\uY a.2.2.1/\uY a.2.2.2.1,(Kn a.1,Kn a.2.1,Kn a.2.2.1,Kn a.2.2.2.1,()))
def Xd a:=(mG9 a).1
def Xe a:=(mG9 a).2
theorem mH:SK 145 (AU Cj Cj Xd Xe):=fb Tryz.func145 16 [kb mG8]
def mH0 (a:CP):Prop×Bool:=
 (Xd a,Ty.eqb EG a (Xe a))
def NP a:=(mH0 a).1
def Gu a:=(mH0 a).2
theorem uP:SK 111 (AU Cj vB NP Gu):=fb Tryz.func111 7 [kb mH]
abbrev uN3:Type:=((List CP)×Int×Unit)
def Th (y:uN3)(x:AD):Vm AD:=
 let d:=y.1
 let a:=x.1
 let b:Bool:=a<y.2.1
 let e:=nth d a Gn
 let c:=!(Gu e)
 (b->A7 a (len d)/\NP e/\(!c->A6 (a+1)),b&&(!c),(a+1,()),b&&c,!b)
def Xf y x:=(Th y x).1
def uT y x:=(Th y x).2.1
def u7 y x:=(Th y x).2.2.1
def qR1 y x:=(Th y x).2.2.2.1
def oO8 y x:=(Th y x).2.2.2.2
def rD1 (y:uN3)(x:AD):Int:=
 2
def oO9:=li [(23,Dy),(24,vI)] [(25,vI)] uT u7 Xf (λy x=>[ex 1 (some (qR1 y x)) [(2,vI)] ((rD1 y x),()),ex 2 (some (oO8 y x)) [] ()]) [[(2,vI)],[]]
def P6 (f:GV):Prop×Int:=
 let b:=!(Iz f.1 f.2.1)
 let c:=cond b true (len f.2.2.1!=(f.1*f.2.1))
 let a:=(f.2.2.1,len f.2.2.1,())
 let e:=((0:Int),())
 let d:=A3 (uT a) (u7 a) e
 (rD f.1 f.2.1/\(!b->A6 (f.1*f.2.1))/\(!c->AB (uT a) (u7 a) (Xf a) e),cond c 15 (cond (qR1 a d) (rD1 a d) 0))
def P7 a:=(P6 a).1
def Lm a:=(P6 a).2
theorem nY3:SK 76 (AU Cd vI P7 Lm):=fb Tryz.func76 33 [kb mG6,kb uP] [(4,oO9)]
def lK2 (a:CP):Prop×Int:=
 (NP a,cond (!(Gu a)) (2:Int) 0)
def Ti a:=(lK2 a).1
def f138 a:=(lK2 a).2
def oP:=AU Cj vI Ti f138
theorem pA2:SK 138 (AU Cj vI Ti f138):=fb Tryz.func138 6 [kb uP]
def mH1 (a b:Int):Prop×Bool:=
 (True,cond (a==1) (b==4) (b==3))
def pA3 a b:=(mH1 a b).1
def Ht a b:=(mH1 a b).2
theorem mH2:SK 202 (BF vI vI vB pA3 Ht):=fb Tryz.func202 11
abbrev vV8:Type:=(Int×(List Int)×(List Int)×Int×Unit)
def Xg (y:vV8)(x:AD):Vm AD:=
 let d:=y.2.2.1
 let a:=x.1
 let b:Bool:=a<y.2.2.2.1
 let e:=nth d a 0
 let c:=cond (e<(-1048576)) true (e>1048576)
 (b->A7 a (len d)/\(!c->A6 (a+1)),b&&(!c),(a+1,()),b&&c,!b)
def rU5 y x:=(Xg y x).1
def u9 y x:=(Xg y x).2.1
def vE y x:=(Xg y x).2.2.1
def rU6 y x:=(Xg y x).2.2.2.1
def rU7 y x:=(Xg y x).2.2.2.2
def sP2 (y:vV8)(x:AD):Int:=
 2
def rU8:List (Nat×Sh):=[(0,vI),(1,Ak)]
def oA0:=li [(0,vI),(1,Ak),(36,Ak),(37,vI)] [(38,vI)] u9 vE rU5 (λy x=>[ex 1 (some (rU6 y x)) [(8,vI)] ((sP2 y x),()),ex 2 (some (rU7 y x)) rU8 (y.1,y.2.1,())]) [[(8,vI)],rU8]
def lK3 (j:Int)(k:List Int)(l m:Int):Prop×Int:=
 let c:=cond (cond (cond (j<1) true (j>4)) true (l<0)) true (l>2)
 let d:=len k
 let e:=cond (!(Ht j d)) true (m==0)
 let f:Bool:=m>16
 let a:=(j,k,k,len k,())
 let i:=((0:Int),())
 let h:=A3 (u9 a) (vE a) i
 let g:=cond (j==2) true (j==4)
 let b:=cond e 1 (cond f 3 (cond (rU6 a h) (sP2 a h) (cond (cond g (decide (nth k 2 0<0)) false) 2 0)))
 (!c->pA3 j d/\(!e->!f->AB (u9 a) (vE a) (rU5 a) i/\(rU7 a h->g->A7 2 (len k))),cond c 8 b)
def pA4 a b c d:=(lK3 a b c d).1
def Ko a b c d:=(lK3 a b c d).2
theorem mH3:SK 166 (FA vI Ak vI vI vI pA4 Ko):=fb Tryz.func166 61 [kb mH2] [(8,oA0)]
abbrev vV9:Type:=((List B0)×(List B0)×Int×Unit)
def P8 (y:vV9)(x:AD):Vm AD:=
 let j:=y.1
 let k:=y.2.1
 let c:=x.1
 let i:Bool:=c<y.2.2.1
 let a:=nth k c CG
 let f:=cond (a.1<0) true (a.1>65535)
 let b:=cond f true (!(Gu a.2.1))
 let d:Bool:=c>0
 let g:=c-1
 let h:=cond d (decide (a.1<=(nth j g CG).1)) false
 let e:=(!b)&&(!h)
 (i->A7 c (len k)/\(!f->NP a.2.1)/\(!b->(d->A6 (c-1))/\(d->A7 g (len j)))/\(e->A6 (c+1)),i&&e,(c+1,()),i&&(b||((!b)&&h)),!i)
def rU9 y x:=(P8 y x).1
def vF y x:=(P8 y x).2.1
def uY2 y x:=(P8 y x).2.2.1
def sH2 y x:=(P8 y x).2.2.2.1
def oA1 y x:=(P8 y x).2.2.2.2
def uY3 (y:vV9)(x:AD):Int:=
 let a:=nth y.2.1 x.1 CG
 (cond (cond (cond (a.1<0) true (a.1>65535)) true (!(Gu a.2.1))) (2:Int) 24)
def oA2:=li [(0,Ao),(5,Ao),(6,vI)] [(7,vI)] vF uY2 rU9 (λy x=>[ex 1 (some (sH2 y x)) [(2,vI)] ((uY3 y x),()),ex 2 (some (oA1 y x)) [] ()]) [[(2,vI)],[]]
def mH4 (d:List B0):Prop×Int:=
 let a:=(d,d,len d,())
 let c:=((0:Int),())
 let b:=A3 (vF a) (uY2 a) c
 (AB (vF a) (uY2 a) (rU9 a) c,cond (sH2 a b) (uY3 a b) 0)
def qF a:=(mH4 a).1
def Kp a:=(mH4 a).2
theorem mH5:SK 167 (AU Ao vI qF Kp):=fb Tryz.func167 40 [kb uP] [(2,oA2)]
def lK4 (d:Int)(e:List Int)(f:Int)(g:List B0):Prop×Int:=
 let a:=len g
 let b:=Ko d e f a
 let c:=b !=0
 (pA4 d e f a/\(!c->qF g),cond c b (Kp g))
def pA5 a b c d:=(lK4 a b c d).1
def LY a b c d:=(lK4 a b c d).2
theorem mH6:SK 139 (FA vI Ak vI Ao vI pA5 LY):=fb Tryz.func139 21 [kb mH3,kb mH5]
def mH7 (c:Int):Prop×Int:=
 let a:=c==3
 let b:=c==4
 (True,cond (cond a true (cond b true (c==5))) (cond a (2:Int) (cond b 3 0)) 1)
def vG a:=(mH7 a).1
def BM a:=(mH7 a).2
theorem oP0:SK 204 (AU vI vI vG BM):=fb Tryz.func204 10
def Xh (a:A0):Prop×Bool:=
 (True,cond (cond (cond (a.1<(-16777216)) true (a.1>16777216)) true (a.2.1<(-16777216))) true (a.2.1>16777216))
def Tj a:=(Xh a).1
def C1 a:=(Xh a).2
theorem pA6:SK 206 (AU Aq vB Tj C1):=fb Tryz.func206 21
abbrev vM:Type:=((List A9)×Int×A9×(List A9)×Int×Int×(List A0)×Unit)
def P9 (y:vM)(x:AD):Vm AD:=
 let f:=y.2.2.1
 let a:=x.1
 let b:Bool:=a<3
 let c:=nth (Q3 y).1 a A1
 let e:=C1 c
 let d:=cond e true (cond (a≥BM f.1) (!(Ty.eqb AQ c (0,0,()))) false)
 (b->A7 a 3/\Tj c/\(!e->vG f.1)/\(!d->A6 (a+1)),b&&(!d),(a+1,()),b&&d,!b)
def tJ y x:=(P9 y x).1
def I0 y x:=(P9 y x).2.1
def Ln y x:=(P9 y x).2.2.1
def Xi y x:=(P9 y x).2.2.2.1
def vJ y x:=(P9 y x).2.2.2.2
def vK (y:vM)(x:AD):Int:=
 2
def rV:List (Nat×Sh):=[(0,Ai),(3,vI),(4,Bi),(10,Ai),(11,vI),(12,vI)]
def oA3:=li [(0,Ai),(3,vI),(4,Bi),(10,Ai),(11,vI),(12,vI),(26,(.val (.arr 3 AQ)))] [(27,vI)] I0 Ln tJ (λy x=>[ex 1 (some (Xi y x)) [(2,vI)] ((vK y x),()),ex 4 (some (vJ y x)) rV (y.1,y.2.1,y.2.2.1,y.2.2.2.1,y.2.2.2.2.1,(Q1 y).1,())]) [[(2,vI)],rV]
abbrev vW:Type:=((List A9)×(List A9)×Int×Unit)
def vL (y:vW)(x:AD):Vm AD:=
 let n:=y.1
 let f:=y.2.1
 let j:=y.2.2.1
 let a:=x.1
 let d:Bool:=a<j
 let c:=nth f a A5
 let e:=cond (c.1<1) true (c.1>5)
 let i:=(n,a,c,f,j,a,c.2.1,())
 let q:=((0:Int),())
 let o:=A3 (I0 i) (Ln i) q
 let b:=vJ i o
 let g:=c.1 !=1
 let h:=a==0
 let l:=a-1
 let m:=cond g (cond h true ((nth n l A5).1==5)) false
 let k:=(!e)&&(b&&(!m))
 (d->A7 a (len f)/\(!e->AB (I0 i) (Ln i) (tJ i) q/\(b->((g&&(!h))->A6 (a-1))/\((g&&(!h))->A7 l (len n))))/\(k->A6 (a+1)),d&&k,(a+1,()),d&&(e||((!e)&&(Xi i o||(b&&m)))),!d)
def sH4 y x:=(vL y x).1
def wO y x:=(vL y x).2.1
def wM y x:=(vL y x).2.2.1
def PA y x:=(vL y x).2.2.2.1
def oA4 y x:=(vL y x).2.2.2.2
def Xj (y:vW)(x:AD):Int:=
 let c:=y.2.1
 let b:=x.1
 let a:=nth c b A5
 let d:=(y.1,b,a,c,y.2.2.1,b,a.2.1,())
 let e:=A3 (I0 d) (Ln d) (0,())
 (cond (cond (a.1<1) true (a.1>5)) 8 (cond (Xi d e) (vK d e) 24))
def oA5:=li [(0,Ai),(10,Ai),(11,vI)] [(12,vI)] wO wM sH4 (λy x=>[ex 1 (some (PA y x)) [(2,vI)] ((Xj y x),()),ex 2 (some (oA4 y x)) [] ()]) [[(2,vI)],[]]
def mH8 (e:List A9):Prop×Int:=
 let c:Bool:=len e>128
 let a:=(e,e,len e,())
 let d:=((0:Int),())
 let b:=A3 (wO a) (wM a) d
 (!c->AB (wO a) (wM a) (sH4 a) d,cond c 3 (cond (PA a b) (Xj a b) 0))
def PB a:=(mH8 a).1
def BH a:=(mH8 a).2
theorem vR:SK 203 (AU Ai vI PB BH):=fb Tryz.func203 63 [kb oP0,kb pA6] [(4,oA5),(9,oA3)]
def lK5 (f:C3)(g:A0):Prop×A0:=
 let a:=Km f
 let b:=Gs g.1
 let c:=Gs g.2.1
 let d:=wrap .i64 (Hr a.1 b a.2.2.1 c+a.2.2.2.2.1)
 let e:=wrap .i64 (Hr a.2.1 b a.2.2.2.1 c+(Q1 a).1)
 (s8 f/\NN g.1/\NN g.2.1/\sH a.1 b a.2.2.1 c/\NN d/\sH a.2.1 b a.2.2.2.1 c/\NN e,(Gs d,Gs e,()))
def pA7 a b:=(lK5 a b).1
def Kq a b:=(lK5 a b).2
theorem mH9:SK 233 (BF Ba Aq Aq pA7 Kq):=fb Tryz.func233 38 [kb oO5,kb oO6,kb oO4] [] [] true
def mI (b:C3)(c:A0):Prop×A0:=
 let s:=(wrap .i64 (4096*c.1),wrap .i64 (4096*c.2.1),())
 let a:=Kq b s
 (pA7 b s/\Ej a.1 4096/\Ej a.2.1 4096,(AS a.1 4096,AS a.2.1 4096,()))
def vT a b:=(mI a b).1
def Ee a b:=(mI a b).2
theorem oP2:SK 205 (BF Ba Aq Aq vT Ee):=fb Tryz.func205 22 [kb Kh,kb mH9] [] [] true
abbrev Tk:Type:=(C3×Int×A9×(List A9)×Int×Int×Int×Unit)
abbrev Ek:Type:=((List A9)×Int×Unit)
def Xk (y:Tk)(x:Ek):Vm Ek:=
 let h:=y.1
 let f:=y.2.1
 let e:=x.1
 let a:=x.2.1
 let b:Bool:=a<(Q3 y).1
 let g:=nth y.2.2.1.2.1 a A1
 let d:=Ee h g
 let c:=C1 d
 (b->A7 a 3/\vT h g/\Tj d/\(!c->A7 f (len e)/\A7 a 3/\f<len e)/\(!c->A6 (a+1)),b&&(!c),(set e (toNat f) ((nth e f A5).1,set (nth e f A5).2.1 (toNat a) d,()),a+1,()),b&&c,!b)
def Tl y x:=(Xk y x).1
def Et y x:=(Xk y x).2.1
def E0 y x:=(Xk y x).2.2.1
def Xl y x:=(Xk y x).2.2.2.1
def LZ y x:=(Xk y x).2.2.2.2
def uN7 (y:Tk)(x:Ek):(List A9):=
 []
def tV6 (y:Tk)(x:Ek):Int:=
 2
def rD3:List (Nat×Sh):=[(4,Bk),(5,vI)]
def tV7 (y:Tk)(x:Ek):(List A9):=
 x.1
def rD4:List (Nat×Sh):=[(3,Bp),(8,Ci),(26,Ai),(27,vI),(28,vI)]
def pA8:=li [(3,Bp),(9,vI),(10,Bi),(26,Ai),(27,vI),(28,vI),(41,vI)] [(8,Ci),(42,vI)] Et E0 Tl (λy x=>[ex 1 (some (Xl y x)) rD3 ((uN7 y x),(tV6 y x),()),ex 4 (some (LZ y x)) rD4 (y.1,(tV7 y x),y.2.2.2.1,y.2.2.2.2.1,(Q1 y).1,())]) [rD3,rD4]
abbrev Xm:Type:=(C3×(List A9)×Int×Unit)
def Xn (y:Xm)(x:Ek):Vm Ek:=
 let f:=y.2.1
 let h:=y.2.2.1
 let j:=x.1
 let a:=x.2.1
 let d:Bool:=a<h
 let e:=nth f a A5
 let b:=(y.1,a,e,f,h,a,BM e.1,())
 let i:=(set j (toNat a) (e.1,(nth j a A5).2.1,()),(0:Int),())
 let g:=A3 (Et b) (E0 b) i
 let c:=LZ b g
 (d->A7 a (len f)/\A7 a (len j)/\a<len j/\vG e.1/\AB (Et b) (E0 b) (Tl b) i/\(c->A6 (a+1)),d&&c,(tV7 b g,a+1,()),d&&Xl b g,!d)
def NQ y x:=(Xn y x).1
def Gv y x:=(Xn y x).2.1
def FB y x:=(Xn y x).2.2.1
def NR y x:=(Xn y x).2.2.2.1
def oA6 y x:=(Xn y x).2.2.2.2
def v7 (y:Xm)(x:Ek):(List A9):=
 let d:=y.2.1
 let e:=x.1
 let a:=x.2.1
 let b:=nth d a A5
 let c:=(y.1,a,b,d,y.2.2.1,a,BM b.1,())
 (uN7 c (A3 (Et c) (E0 c) (set e (toNat a) (b.1,(nth e a A5).2.1,()),0,())))
def uY5 (y:Xm)(x:Ek):Int:=
 let d:=y.2.1
 let e:=x.1
 let a:=x.2.1
 let b:=nth d a A5
 let c:=(y.1,a,b,d,y.2.2.1,a,BM b.1,())
 (tV6 c (A3 (Et c) (E0 c) (set e (toNat a) (b.1,(nth e a A5).2.1,()),0,())))
def rV0:List (Nat×Sh):=[(4,Bk),(5,vI)]
def Xo (y:Xm)(x:Ek):(List A9):=
 x.1
def oA7:=li [(3,Bp),(26,Ai),(27,vI)] [(8,Ci),(28,vI)] Gv FB NQ (λy x=>[ex 1 (some (NR y x)) rV0 ((v7 y x),(uY5 y x),()),ex 2 (some (oA6 y x)) [(8,Ci)] ((Xo y x),())]) [rV0,[(8,Ci)]]
def Ma (j:List A9)(k:C3):Prop×((List A9)×Int×Unit):=
 let f:=BH j
 let d:=f !=0
 let g:=CK k
 let e:=g !=0
 let a:=len j
 let b:=(k,j,len j,())
 let i:=(List.replicate (toNat a) A5,(0:Int),())
 let h:=A3 (Gv b) (FB b) i
 let c:=NR b h
 (PB j/\(!d->NO k/\(!e->(0<=a/\a<=a/\a<=4294967296)/\AB (Gv b) (FB b) (NQ b) i)),(cond d [] (cond e [] (cond c (v7 b h) (Xo b h))),cond d f (cond e g (cond c (uY5 b h) 0)),()))
def pA9 a b:=(Ma a b).1
def BP a b:=(Ma a b).2
theorem mI0:SK 168 (BF Ai Ba (.tup (.cons Ai (.cons vI .nl))) pA9 BP):=fb Tryz.func168 63 [kb s9,kb vR,kb oP0,kb oP2,kb pA6] [(9,oA7),(13,pA8)] [(15,[(4,0,25,1008)]),(43,[(1,4,0,0),(4,0,1008,0)])] false [] [25]
def qF4 (e:A0)(f:List A0):Prop×(Unit)×((List A0)×Unit):=
 let c:=len f
 let d:=c-1
 let a:=!(Ty.eqb AQ e (nth f d A1))
 let b:=([e]:List A0)
 (A6 (c-1)/\A7 d (len f)/\(a->((length f+length b:Nat):Int)<=4294967296),(),(cond a (f++b) f,()))
def Tm a b:=(qF4 a b).1
def mI1 a b:=(qF4 a b).2.1
def Kr a b:=(qF4 a b).2.2
theorem oA8:SK 234 (fnSpec [(0,Aq),(1,Dt)] (.tup .nl) [(1,Dt)] (λx=>Tm x.1 x.2.1) (λx=>mI1 x.1 x.2.1) (λx=>Kr x.1 x.2.1)):=fb Tryz.func234 15 [] [] [(5,[(4,0,14,400100)])] false [1]
abbrev v8:Type:=(A9×A0×(Unit×Unit)×Unit)
abbrev CZ:Type:=((List A0)×Int×Unit)
def tQ4 (y:v8)(x:CZ):Vn CZ:=
 let z:=y.1
 let A:=y.2.1
 let B:=x.1
 let b:=x.2.1
 let f:Bool:=b<=8
 let a:=8-b
 let c:=a*a
 let g:=2*b
 let d:=g*a
 let e:=b*b
 let h:=c*A.1
 let i:=(nth z.2.1 0 A1).1
 let j:=d*i
 let k:=h+j
 let l:=(nth z.2.1 1 A1).1
 let m:=e*l
 let n:=k+m
 let o:=c*A.2.1
 let q:=(nth z.2.1 0 A1).2.1
 let r:=d*q
 let t:=o+r
 let u:=(nth z.2.1 1 A1).2.1
 let v:=e*u
 let w:=t+v
 let s:=(AS n 64,AS w 64,())
 (f->A6 (8-b)/\A6 (a*a)/\A6 (2*b)/\A6 (g*a)/\A6 (b*b)/\A6 (c*A.1)/\A7 0 3/\A6 (d*i)/\A6 (h+j)/\A7 1 3/\A6 (e*l)/\A6 (k+m)/\Ej n 64/\A6 (c*A.2.1)/\A7 0 3/\A6 (d*q)/\A6 (o+r)/\A7 1 3/\A6 (e*u)/\A6 (t+v)/\Ej w 64/\Tm s B/\A6 (b+1),f,((Kr s B).1,b+1,()))
def tV9 y x:=(tQ4 y x).1
def PC y x:=(tQ4 y x).2.1
def wL y x:=(tQ4 y x).2.2
def uY6 (y:v8)(x:CZ):(List A0):=
 x.1
def tW:List (Nat×Sh):=[(2,Cb)]
def qF5:=li [(3,Bi),(5,Bz),(6,(.fn 234 (.cons (.ref 2 Ad) .nl)))] [(2,Cb),(7,vI)] PC wL tV9 (λy x=>[ex 3 none tW ((uY6 y x),())]) [tW]
def uY7 (y:v8)(x:CZ):Vn CZ:=
 let N:=y.1
 let Q:=y.2.1
 let R:=x.1
 let b:=x.2.1
 let O:Bool:=b<=16
 let a:=16-b
 let g:=a*a
 let c:=g*a
 let h:=3*b
 let i:=h*a
 let d:=i*a
 let j:=3*b
 let k:=j*b
 let e:=k*a
 let l:=b*b
 let f:=l*b
 let m:=c*Q.1
 let n:=(nth N.2.1 0 A1).1
 let o:=d*n
 let q:=m+o
 let r:=(nth N.2.1 1 A1).1
 let t:=e*r
 let u:=q+t
 let v:=(nth N.2.1 2 A1).1
 let w:=f*v
 let z:=u+w
 let A:=c*Q.2.1
 let B:=(nth N.2.1 0 A1).2.1
 let C:=d*B
 let E:=A+C
 let F:=(nth N.2.1 1 A1).2.1
 let H:=e*F
 let J:=E+H
 let K:=(nth N.2.1 2 A1).2.1
 let L:=f*K
 let M:=J+L
 let s:=(AS z 4096,AS M 4096,())
 (O->A6 (16-b)/\A6 (a*a)/\A6 (g*a)/\A6 (3*b)/\A6 (h*a)/\A6 (i*a)/\A6 (3*b)/\A6 (j*b)/\A6 (k*a)/\A6 (b*b)/\A6 (l*b)/\A6 (c*Q.1)/\A7 0 3/\A6 (d*n)/\A6 (m+o)/\A7 1 3/\A6 (e*r)/\A6 (q+t)/\A7 2 3/\A6 (f*v)/\A6 (u+w)/\Ej z 4096/\A6 (c*Q.2.1)/\A7 0 3/\A6 (d*B)/\A6 (A+C)/\A7 1 3/\A6 (e*F)/\A6 (E+H)/\A7 2 3/\A6 (f*K)/\A6 (J+L)/\Ej M 4096/\Tm s R/\A6 (b+1),O,((Kr s R).1,b+1,()))
def tO4 y x:=(uY7 y x).1
def PD y x:=(uY7 y x).2.1
def PE y x:=(uY7 y x).2.2
def uW3 (y:v8)(x:CZ):(List A0):=
 x.1
def tO5:List (Nat×Sh):=[(2,Cb)]
def rT1:=li [(3,Bi),(5,Bz),(6,(.fn 234 (.cons (.ref 2 Ad) .nl)))] [(2,Cb),(12,vI)] PD PE tO4 (λy x=>[ex 5 none tO5 ((uW3 y x),())]) [tO5]
def pP (m:List A0)(n:A9):Prop×(List A0):=
 let f:=len m
 let g:=f-1
 let h:=nth m g A1
 let b:=n.1==2
 let i:=nth n.2.1 0 A1
 let c:=n.1==3
 let d:=(n,h,((),()),())
 let l:=(m,(1:Int),())
 let j:=n.1==4
 let a:=(n,h,((),()),())
 let k:=(m,(1:Int),())
 let e:=cond b (Kr i m).1 (cond c (uY6 d (A3 (PC d) (wL d) l)) (cond j (uW3 a (A3 (PD a) (PE a) k)) m))
 (A6 (f-1)/\A7 g (len m)/\(b->A7 0 3/\Tm i m)/\(b=false->(c->AB (PC d) (wL d) (tV9 d) l)/\(c=false->j->AB (PD a) (PE a) (tO4 a) k)),e)
def wQ a b:=(pP a b).1
def GW a b:=(pP a b).2
theorem oA9:SK 207 (BF (.own AQ 400000 false) Dd Bx wQ GW):=fx (λc=>{ c with wants:=[(234,[])] }) Tryz.func207 179 [kb Kh,kb oA8] [(8,qF5),(15,rT1)] [(1,[(4,0,400000,400200)]),(41,[(4,0,400200,0)])]
abbrev vW1:Type:=((List (List A0))×(List A0)×Int×Unit)
def qF6 (y:vW)(x:vW1):Vn vW1:=
 let k:=y.1
 let e:=y.2.1
 let l:=x.1
 let m:=x.2.1
 let a:=x.2.2.1
 let f:Bool:=a<y.2.2.1
 let b:=nth e a A5
 let c:=b.1==1
 let n:=cond c ([nth b.2.1 0 A1]:List A0) (GW m b)
 let g:=len k
 let d:=a==(g-1)
 let h:=a+1
 let i:=cond d true ((nth k h A5).1==1)
 let j:=([n]:List (List A0))
 (f->A7 a (len e)/\(c->A7 0 3)/\(c=false->wQ m b)/\A6 (g-1)/\(!d->A6 (a+1))/\(!d->A7 h (len k))/\(i->((length l+length j:Nat):Int)<=4294967296)/\A6 (a+1),f,(cond i (l++j) l,n,a+1,()))
def rV1 y x:=(qF6 y x).1
def Mb y x:=(qF6 y x).2.1
def Lo y x:=(qF6 y x).2.2
def wU (y:vW)(x:vW1):(List (List A0)):=
 x.1
def rV2:List (Nat×Sh):=[(5,(.own Ad 1005 false))]
def oB:=li [(0,Ai),(14,Ai),(15,vI)] [(5,(.own Ad 1005 false)),(6,Cc),(16,vI)] Mb Lo rV1 (λy x=>[ex 2 none rV2 ((wU y x),())]) [rV2]
def mI2 (e:List A9):Prop×((List (List A0))×Int×Unit):=
 let c:=BH e
 let a:=c !=0
 let b:=(e,e,len e,())
 let d:=(([]:List (List A0)),([]:List A0),(0:Int),())
 (PB e/\(!a->AB (Mb b) (Lo b) (rV1 b) d),(cond a [] (wU b (A3 (Mb b) (Lo b) d)),cond a c 0,()))
def Xp a:=(mI2 a).1
def BI a:=(mI2 a).2
theorem oP3:SK 169 (AU Ai (.tup (.cons Au (.cons vI .nl))) Xp BI):=fx (λc=>{ c with wants:=[(207,[0])] }) Tryz.func169 51 [kb vR,kb oA9] [(7,oB)] [(21,[(4,0,27,1006)]),(23,[(4,0,30,1006)]),(27,[(4,0,48,1005)]),(31,[(4,0,1005,0)])]
abbrev vC:Type:=((List Bool)×Int×Unit)
def wV (y:vW)(x:vC):Vn vC:=
 let i:=y.1
 let c:=y.2.1
 let j:=x.1
 let a:=x.2.1
 let d:Bool:=a<y.2.2.1
 let e:=len i
 let b:=a==(e-1)
 let f:=a+1
 let g:=cond b true ((nth i f A5).1==1)
 let h:=([(nth c a A5).1 !=5]:List Bool)
 (d->A7 a (len c)/\A6 (e-1)/\(!b->A6 (a+1))/\(!b->A7 f (len i))/\(g->((length j+length h:Nat):Int)<=4294967296)/\A6 (a+1),d,(cond g (j++h) j,a+1,()))
def sH5 y x:=(wV y x).1
def Tn y x:=(wV y x).2.1
def PF y x:=(wV y x).2.2
def sP3 (y:vW)(x:vC):(List Bool):=
 x.1
def oB0:=li [(0,Ai),(13,Ai),(14,vI)] [(5,Dh),(15,vI)] Tn PF sH5 (λy x=>[ex 2 none [(5,Dh)] ((sP3 y x),())]) [[(5,Dh)]]
def mI3 (e:List A9):Prop×((List Bool)×Int×Unit):=
 let c:=BH e
 let a:=c !=0
 let b:=(e,e,len e,())
 let d:=(([]:List Bool),(0:Int),())
 (PB e/\(!a->AB (Tn b) (PF b) (sH5 b) d),(cond a [] (sP3 b (A3 (Tn b) (PF b) d)),cond a c 0,()))
def pB0 a:=(mI3 a).1
def E6 a:=(mI3 a).2
theorem mI4:SK 170 (AU Ai (.tup (.cons (.own .bool 0 false) (.cons vI .nl))) pB0 E6):=fb Tryz.func170 42 [kb vR] [(6,oB0)] [(19,[(4,0,39,1005)]),(23,[(4,0,1005,0)])]
abbrev vW2:Type:=((List (List A0))×(List (List A0))×Int×Unit)
abbrev CU:Type:=(Int×Int×Unit)
def Xq (y:vW2)(x:CU):Vm CU:=
 let d:=y.2.1
 let g:=x.1
 let a:=x.2.1
 let b:Bool:=a<y.2.2.1
 let e:=len (nth d a [])
 let f:=g+e
 let c:Bool:=f>4096
 (b->A7 a (len d)/\A6 (g+e)/\(!c->A6 (a+1)),b&&(!c),(f,a+1,()),b&&c,!b)
def rV3 y x:=(Xq y x).1
def Mc y x:=(Xq y x).2.1
def Md y x:=(Xq y x).2.2.1
def Xr y x:=(Xq y x).2.2.2.1
def wW y x:=(Xq y x).2.2.2.2
def sP4 (y:vW2)(x:CU):Int:=
 3
def oB1:=li [(0,Aj),(18,Aj),(19,vI)] [(5,vI),(20,vI)] Mc Md rV3 (λy x=>[ex 1 (some (Xr y x)) [(4,vI)] ((sP4 y x),()),ex 2 (some (wW y x)) [(0,Aj)] (y.1,())]) [[(4,vI)],[(0,Aj)]]
abbrev vH:Type:=((List (List A0))×Int×Int×(List A0)×Int×Unit)
def uZ (y:vH)(x:AD):Vm AD:=
 let e:=y.2.2.2.1
 let a:=x.1
 let b:Bool:=a<y.2.2.2.2.1
 let c:=nth e a A1
 let d:=cond (cond (cond (c.1<(-16777216)) true (c.1>16777216)) true (c.2.1<(-16777216))) true (c.2.1>16777216)
 (b->A7 a (len e)/\(!d->A6 (a+1)),b&&(!d),(a+1,()),b&&d,!b)
def tQ5 y x:=(uZ y x).1
def To y x:=(uZ y x).2.1
def Tp y x:=(uZ y x).2.2.1
def rD6 y x:=(uZ y x).2.2.2.1
def rD7 y x:=(uZ y x).2.2.2.2
def tW1 (y:vH)(x:AD):Int:=
 2
def rD8:List (Nat×Sh):=[(31,Aj),(32,vI),(33,vI)]
def pB1:=li [(31,Aj),(32,vI),(33,vI),(37,Bd),(38,vI)] [(39,vI)] To Tp tQ5 (λy x=>[ex 1 (some (rD6 y x)) [(4,vI)] ((tW1 y x),()),ex 6 (some (rD7 y x)) rD8 (y.1,y.2.1,y.2.2.1,())]) [[(4,vI)],rD8]
abbrev CL:Type:=((List (List A0))×Int×Unit)
def Xs (y:CL)(x:AD):Vm AD:=
 let e:=y.1
 let f:=y.2.1
 let b:=x.1
 let d:Bool:=b<f
 let h:=nth e b []
 let a:=(e,f,b,h,len h,())
 let i:=((0:Int),())
 let g:=A3 (To a) (Tp a) i
 let c:=rD7 a g
 (d->A7 b (len e)/\AB (To a) (Tp a) (tQ5 a) i/\(c->A6 (b+1)),d&&c,(b+1,()),d&&rD6 a g,!d)
def wZ y x:=(Xs y x).1
def NS y x:=(Xs y x).2.1
def NT y x:=(Xs y x).2.2.1
def y5 y x:=(Xs y x).2.2.2.1
def pB2 y x:=(Xs y x).2.2.2.2
def tW2 (y:CL)(x:AD):Int:=
 let b:=y.1
 let c:=x.1
 let d:=nth b c []
 let a:=(b,y.2.1,c,d,len d,())
 (tW1 a (A3 (To a) (Tp a) (0,())))
def pB3:=li [(31,Aj),(32,vI)] [(33,vI)] NS NT wZ (λy x=>[ex 1 (some (y5 y x)) [(4,vI)] ((tW2 y x),()),ex 4 (some (pB2 y x)) [] ()]) [[(4,vI)],[]]
def mI5 (h:(List (List A0)))(i:Int):Prop×Int:=
 let d:=cond (i !=0) (i !=1) false
 let b:=(h,h,len h,())
 let g:=((0:Int),(0:Int),())
 let f:=A3 (Mc b) (Md b) g
 let a:=(h,len h,())
 let e:=((0:Int),())
 let c:=A3 (NS a) (NT a) e
 (!d->AB (Mc b) (Md b) (rV3 b) g/\(wW b f->AB (NS a) (NT a) (wZ a) e),cond d 8 (cond (Xr b f) (sP4 b f) (cond (y5 a c) (tW2 a c) 0)))
def PG a b:=(mI5 a b).1
def DW a b:=(mI5 a b).2
def oP4:=BF Aj vI vI PG DW
theorem pB4:SK 172 (BF Aj vI vI PG DW):=fb Tryz.func172 63 [] [(5,oB1),(12,pB3),(15,pB1)]
def lK6 (b c d:Int):Prop×Int:=
 let a:=cond (cond (b<1) true (b>4096)) (2:Int) (cond (cond (c<0) true (c>2)) 8 (cond (cond (d<0) true (d>2)) 8 0))
 (True,a)
def pB5 a b c:=(lK6 a b c).1
def FC a b c:=(lK6 a b c).2
theorem mI6:SK 208 (DU vI vI vI vI pB5 FC):=fb Tryz.func208 25
abbrev uZ1:Type:=(Bool×(List A0)×Int×Unit)
def y8 (y:uZ1)(x:CZ):Vn CZ:=
 let j:=y.2.1
 let b:=x.1
 let a:=x.2.1
 let d:Bool:=a<y.2.2.1
 let e:=nth j a A1
 let c:=len b==0
 let f:=len b
 let g:=f-1
 let h:=cond c true (!(Ty.eqb AQ e (nth b g A1)))
 let i:=([e]:List A0)
 (d->A7 a (len j)/\(!c->A6 (f-1))/\(!c->A7 g (len b))/\(h->((length b+length i:Nat):Int)<=4294967296)/\A6 (a+1),d,(cond h (b++i) b,a+1,()))
def z8 y x:=(y8 y x).1
def NU y x:=(y8 y x).2.1
def Me y x:=(y8 y x).2.2
def sP5 (y:uZ1)(x:CZ):(List A0):=
 x.1
def rV4:List (Nat×Sh):=[(1,vB),(5,Bq)]
def oB2:=li [(1,vB),(8,Bd),(9,vI)] [(5,Bq),(10,vI)] NU Me z8 (λy x=>[ex 2 none rV4 (y.1,(sP5 y x),())]) [rV4]
abbrev uZ2:Type:=(Bool×Unit)
abbrev NV:Type:=((List A0)×Unit)
def qF7 (y:uZ2)(x:NV):Vn NV:=
 let a:=x.1
 let b:=cond (!y.1) (decide (len a>1)) false
 let d:=len a
 let e:=d-1
 let f:=cond b (Ty.eqb AQ (nth a e A1) (nth a 0 A1)) false
 let g:=len a
 let c:=g-1
 ((b->A6 (d-1))/\(b->A7 e (len a))/\(b->A7 0 (len a))/\(f->A6 (g-1)/\0<=c/\c<=len a),f,(List.take (toNat c) a,()))
def tJ4 y x:=(qF7 y x).1
def PH y x:=(qF7 y x).2.1
def NW y x:=(qF7 y x).2.2
def sP6 (y:uZ2)(x:NV):(List A0):=
 x.1
def oB3:=li [(1,vB)] [(5,Bd)] PH NW tJ4 (λy x=>[ex 4 none [(5,Bd)] ((sP6 y x),())]) [[(5,Bd)]]
def lK7 (e:List A0)(f:Bool):Prop×(List A0):=
 let a:=(f,e,len e,())
 let c:=(([]:List A0),(0:Int),())
 let b:=(f,())
 let d:=(sP5 a (A3 (NU a) (Me a) c),())
 (AB (NU a) (Me a) (z8 a) c/\AB (PH b) (NW b) (tJ4 b) d,sP6 b (A3 (PH b) (NW b) d))
def pB6 a b:=(lK7 a b).1
def CM a b:=(lK7 a b).2
theorem mI7:SK 235 (BF Bd vB Bd pB6 CM):=fb Tryz.func235 57 [] [(3,oB2),(8,oB3)] [(13,[(4,0,30,1005)])]
def lK8 (a b:A0):Prop×A0:=
 (True,(wrap .i64 (a.1-b.1),wrap .i64 (a.2.1-b.2.1),()))
def Hu a b:=(lK8 a b).1
def AR a b:=(lK8 a b).2
theorem qF8:SK 240 (BF Aq Aq Aq Hu AR):=fb Tryz.func240 16 [] [] [] true
def mI8 (g h:Int):Prop×(Int×Int×Unit):=
 let a:=F5 .u64 g 4294967295
 let b:=EW g 32 64
 let c:=F5 .u64 h 4294967295
 let d:=EW h 32 64
 let e:=wrap .u64 (wrap .u64 (b*c)+EW (wrap .u64 (a*c)) 32 64)
 let f:=wrap .u64 (wrap .u64 (wrap .u64 (b*d)+EW e 32 64)+EW (wrap .u64 (F5 .u64 e 4294967295+wrap .u64 (a*d))) 32 64)
 (True,(f,wrap .u64 (g*h),()))
def Tq a b:=(mI8 a b).1
def B7 a b:=(mI8 a b).2
def oP5:=BF Ap Ap (.tup (.cons Ap (.cons Ap .nl))) Tq B7
theorem mI9:SK 289 (BF Ap Ap (.tup (.cons Ap (.cons Ap .nl))) Tq B7):=fb Tryz.func289 51 [] [] [] true
def lK9 (a:Int):Prop×Int:=
 (True,cond (a<0) (wrap .u64 (sub 0 (wrap .u64 a))) (wrap .u64 a))
def PI a:=(lK9 a).1
def AE a:=(lK9 a).2
def oP6:=AU vI Ap PI AE
theorem mJ:SK 290 (AU vI Ap PI AE):=fb Tryz.func290 10 [] [] [] true
def qF9 (y x:CU):Vn CU:=
 let f:=y.1
 let d:=x.1
 let b:=x.2.1
 let e:=b !=0
 let a:=ior .u64 d b
 let c:=B7 a a
 (e->Tq a a,e,(cond (cond (c.1<f) true (cond (c.1==f) (decide (c.2.1<=y.2.1)) false)) a d,EW b 1 64,()))
def tJ5 y x:=(qF9 y x).1
def PJ y x:=(qF9 y x).2.1
def Mf y x:=(qF9 y x).2.2
def sP7 (y x:CU):Int:=
 x.1
def sP8:St->Option Out:=Iu [(5,Ap),(6,Ap)] [(10,Ap),(11,Ap)] PJ Mf tJ5 λy x=>[ex 2 none [(10,Ap)] ((sP7 y x),())]
def mJ0 (k l:Int):Prop×Int:=
 let f:=AE k
 let g:=AE k
 let b:=B7 f g
 let h:=AE l
 let i:=AE l
 let c:=B7 h i
 let d:=(((toNat b.2.1+toNat c.2.1+toNat 0) / 18446744073709551616:Nat):Int)
 let e:=((((toNat b.1+toNat c.1+toNat d) % 18446744073709551616:Nat):Int),(((toNat b.2.1+toNat c.2.1+toNat 0) % 18446744073709551616:Nat):Int),())
 let j:=((0:Int),(9223372036854775808:Int),())
 let a:=sP7 e (A3 (PJ e) (Mf e) j)
 (PI k/\PI k/\Tq f g/\PI l/\PI l/\Tq h i/\(0<=(0:Int)/\(0:Int)<=1)/\(0<=d/\d<=1)/\AB (PJ e) (Mf e) (tJ5 e) j,cond (a>9223372036854775807) 9223372036854775807 (wrap .i64 a))
def qG a b:=(mJ0 a b).1
def f277 a b:=(mJ0 a b).2
def oP7:=BF vI vI vI qG f277
def pP0:Ctx:={ Cx tys [(289,oP5),(290,oP6)] [(7,sP8)] [] true 73 [] [] with exts:=[(291,xB)] }
theorem pP1:CtxOk Tryz.prog pP0:=xZ9 Pu rfl ⟨mI9,mJ,trivial⟩ ⟨mD1,trivial⟩ (by kernel_rfl)
noncomputable def oP8:Code:=Tryz.f277.body.getD .skip
noncomputable def oP9:Code:=SN oP8 0
theorem oB4:yY Tryz.prog pP0 oP9:=lq pP1 (sp:=sP8) rfl [[(10,Ap)]]
theorem oQ:SK 277 oP7:=fl pP1 Tryz.func277 (bs:=[oP9]) ⟨oB4,trivial⟩
def lL (i j:A0)(k:Int):Prop×CY:=
 let b:=AR j i
 let c:=wrap .i64 (16*b.1)
 let d:=wrap .i64 (16*b.2.1)
 let a:=f277 c d
 let e:=wrap .i64 (wrap .i64 ((-8)*k)*b.2.1)
 let f:=wrap .i64 (wrap .i64 (8*k)*b.1)
 let g:=wrap .i64 (wrap .i64 (8*k)*b.1)
 let h:=wrap .i64 (wrap .i64 (8*k)*b.2.1)
 (Hu j i/\qG c d/\Ej e a/\Ej f a/\Ej g a/\Ej h a,(i,j,b,(AS e a,AS f a,()),(AS g a,AS h a,()),()))
def qG0 a b c:=(lL a b c).1
def AH a b c:=(lL a b c).2
theorem mJ1:SK 273 (DU Aq Aq vI Do qG0 AH):=fb Tryz.func273 53 [kb Kh,kb qF8,kb oQ] [] [] true
abbrev uZ3:Type:=((List A0)×Bool×Int×Unit)
abbrev vW7:Type:=((List CY)×Int×Unit)
def sX5 (y:uZ3)(x:vW7):Vn vW7:=
 let b:=y.1
 let h:=y.2.2.1
 let i:=x.1
 let a:=x.2.1
 let c:Bool:=a<len b
 let d:=a-1
 let e:=nth b d A1
 let f:=nth b a A1
 let g:=([AH e f h]:List CY)
 (c->A6 (a-1)/\A7 d (len b)/\A7 a (len b)/\qG0 e f h/\((length i+length g:Nat):Int)<=4294967296/\A6 (a+1),c,(i++g,a+1,()))
def tJ6 y x:=(sX5 y x).1
def HV y x:=(sX5 y x).2.1
def Hv y x:=(sX5 y x).2.2
def uE8 (y:uZ3)(x:vW7):(List CY):=
 x.1
def rV5:List (Nat×Sh):=[(0,Bd),(1,vB),(2,vI),(7,Bu)]
def oB5:=li [(0,Bd),(1,vB),(2,vI)] [(7,Bu),(8,vI)] HV Hv tJ6 (λy x=>[ex 2 none rV5 (y.1,y.2.1,y.2.2.1,(uE8 y x),())]) [rV5]
def mJ2 (j:List A0)(k:Bool)(l:Int):Prop×(List CY):=
 let b:=(j,k,l,())
 let i:=(([]:List CY),(1:Int),())
 let a:=uE8 b (A3 (HV b) (Hv b) i)
 let c:=cond (!k) (decide (len j>1)) false
 let d:=len j
 let e:=d-1
 let f:=nth j e A1
 let g:=nth j 0 A1
 let h:=([AH f g l]:List CY)
 (AB (HV b) (Hv b) (tJ6 b) i/\(c->A6 (d-1)/\A7 e (len j)/\A7 0 (len j)/\qG0 f g l/\((length a+length h:Nat):Int)<=4294967296),cond c (a++h) a)
def pB7 a b c:=(mJ2 a b c).1
def BD a b c:=(mJ2 a b c).2
theorem mJ3:SK 236 (DU Bd vB vI (.own Kc 0 false) pB7 BD):=fb Tryz.func236 51 [kb mJ1] [(3,oB5)] [(11,[(4,0,28,1007)]),(15,[(4,0,49,1007)]),(17,[(4,0,1007,0)])]
abbrev uZ4:Type:=((List A0)×(List A0)×Int×Unit)
def sX6 (y:uZ4)(x:CU):Vn CU:=
 let g:=y.1
 let h:=y.2.1
 let a:=x.2.1
 let b:Bool:=a<y.2.2.1
 let c:=nth h a A1
 let d:=len g
 let e:=tmod (wrap .i64 (a+1)) d
 let f:=nth g e A1
 (b->A7 a (len h)/\d≠0/\A7 e (len g),b,(wrap .i64 (x.1+wrap .i64 (wrap .i64 (c.1*f.2.1)-(wrap .i64 (f.1*c.2.1)))),wrap .i64 (a+1),()))
def rV6 y x:=(sX6 y x).1
def rD9 y x:=(sX6 y x).2.1
def uE9 y x:=(sX6 y x).2.2
def sP9 (y:uZ4)(x:CU):Int:=
 x.1
def oB6:=li [(0,Bd),(7,Bd),(8,vI)] [(3,vI),(9,vI)] rD9 uE9 rV6 (λy x=>[ex 2 none [(3,vI)] ((sP9 y x),())]) [[(3,vI)]]
def lL0 (c:List A0):Prop×Int:=
 let a:=(c,c,len c,())
 let b:=((0:Int),(0:Int),())
 (AB (rD9 a) (uE9 a) (rV6 a) b,sP9 a (A3 (rD9 a) (uE9 a) b))
def pB8 a:=(lL0 a).1
def DM a:=(lL0 a).2
theorem mJ4:SK 275 (AU Bd vI pB8 DM):=fb Tryz.func275 37 [] [(3,oB6)] [] true
def f276 (_p0:List A0):Unit:=()
def pP2 (a:List A0):(List A0)×Unit:=(List.reverse a,())
def pB9 (_p0:List A0):Prop:=True
instance (a:List A0):Decidable (pB9 a):=isTrue trivial
def mJ5:List (Nat×Sh):=[(0,Bj)]
def mJ6:Sh:=(.tup .nl)
def mJ7:List (Nat×Sh):=[(0,Bj)]
def oQ0:Am.Spec:=fnSpec mJ5 mJ6 mJ7 (λx=>pB9 x.1) (λx=>f276 x.1) (λx=>pP2 x.1)
theorem mJ8:SpecOk Tryz.prog 276 oQ0:=nK9 (by decide) rfl ⟨_,Tryz.func276,by kernel_rfl,by decide⟩ lI9
def lL1 (a b:A0):Prop×A0:=
 (True,(wrap .i64 (a.1+b.1),wrap .i64 (a.2.1+b.2.1),()))
def FD a b:=(lL1 a b).1
def AK a b:=(lL1 a b).2
theorem rE:SK 239 (BF Aq Aq Aq FD AK):=fb Tryz.func239 16 [] [] [] true
def lL2 (e:Int):Prop×Int:=
 let a:=wrap .i64 (tdiv e 256)
 let d:Bool:=a≥64
 let b:=wrap .i64 (a+1)
 let c:=wrap .i64 (wrap .i64 (nth G5 b 0-(nth G5 a 0))*wrap .i64 (e-(wrap .i64 (256*a))))
 ((d->A7 64 65)/\(!d->A7 a 65/\A7 b 65/\A7 a 65/\Ej c 256),cond d (nth G5 64 0) (wrap .i64 (nth G5 a 0+AS c 256)))
def Tt a:=(lL2 a).1
def Ks a:=(lL2 a).2
theorem mJ9:SK 308 (AU vI vI Tt Ks):=fb Tryz.func308 28 [kb Kh] [] [] true
def mK (i:Int):Prop×Int:=
 let h:=wrap .i64 (tdiv i 16384)
 let a:=wrap .i64 (i-(wrap .i64 (16384*h)))
 let b:=h==0
 let c:=h==1
 let f:=wrap .i64 (16384-a)
 let d:=h==2
 let g:=wrap .i64 (16384-a)
 let e:=cond (cond b true (cond c true d)) (cond b (Ks a) (cond c (Ks f) (wrap .i64 (sub 0 (Ks a))))) (wrap .i64 (sub 0 (Ks g)))
 ((b->Tt a)/\(b=false->(c->Tt f)/\(c=false->d->Tt a))/\((((!d)&&(!c))&&(!b))->Tt g),e)
def Tu a:=(mK a).1
def PK a:=(mK a).2
theorem mK0:SK 302 (AU vI vI Tu PK):=fb Tryz.func302 30 [kb mJ9] [] [] true
def lL3 (c:Int):Prop×(Int×Int×Unit):=
 let b:=F5 .i64 c 65535
 let a:=tmod (wrap .i64 (b+16384)) 65536
 (Tu b/\Tu a,(PK b,PK a,()))
def pC0 a:=(lL3 a).1
def I1 a:=(lL3 a).2
theorem mK1:SK 288 (AU vI (.tup (.cons vI (.cons vI .nl))) pC0 I1):=fb Tryz.func288 13 [kb mK0] [] [] true
abbrev uZ5:Type:=(Int×A0×Int×Unit)
def sX7 (y:uZ5)(x:CZ):Vn CZ:=
 let h:=y.1
 let i:=y.2.1
 let g:=x.1
 let a:=x.2.1
 let b:Bool:=a<y.2.2.1
 let c:=wrap .i64 (4096*a)
 let d:=I1 c
 let e:=wrap .i64 (h*d.2.1)
 let f:=wrap .i64 (h*d.1)
 let s:=(AS e 131072,AS f 131072,())
 (b->pC0 c/\Ej e 131072/\Ej f 131072/\FD i s/\A7 a (len g)/\a<len g,b,(set g (toNat a) (AK i s),wrap .i64 (a+1),()))
def vU y x:=(sX7 y x).1
def Lp y x:=(sX7 y x).2.1
def wI y x:=(sX7 y x).2.2
def uF (y:uZ5)(x:CZ):(List A0):=
 x.1
def oB7:=li [(1,vI),(2,Bz),(11,vI)] [(5,Dm),(12,vI)] Lp wI vU (λy x=>[ex 2 none [(5,Dm)] ((uF y x),())]) [[(5,Dm)]]
def nM7 (d:A0)(e:Int):Prop×(List A0):=
 let b:=List.replicate (toNat (16:Int)) A1
 let a:=(e,d,len b,())
 let c:=(b,(0:Int),())
 ((0<=(16:Int)/\(16:Int)<=(16:Int)/\(16:Int)<=4294967296)/\AB (Lp a) (wI a) (vU a) c,uF a (A3 (Lp a) (wI a) c))
def Tv a b:=(nM7 a b).1
def BU a b:=(nM7 a b).2
theorem pC1:SK 274 (BF Aq vI Du Tv BU):=fb Tryz.func274 37 [kb Kh,kb rE,kb mK1] [(3,oB7)] [(3,[(4,0,9,1005)]),(17,[(4,0,1005,0)])] true [] [9]
def sX8 (f:(Int×Int×Int×(List (List A0))×Int×Unit))(g:List A0):Prop×(Unit)×((Int×Int×Int×(List (List A0))×Int×Unit)×Unit):=
 let e:=DM g
 let a:=e==0
 let b:Bool:=e<0
 let d:=cond b (pP2 g).1 g
 let c:=([d]:List (List A0))
 let s:=(cond a f.1 f.1,cond a f.2.1 f.2.1,cond a f.2.2.1 f.2.2.1,cond a f.2.2.2.1 (f.2.2.2.1++c),cond a f.2.2.2.2.1 (wrap .i64 (f.2.2.2.2.1+len d)),())
 (pB8 g/\(!a->(b->pB9 g/\0<length g/\length g=length g/\length g=length g/\length g=length g)/\((length f.2.2.2.1+length c:Nat):Int)<=4294967296),(),(s,()))
def Ga a b:=(sX8 a b).1
def mK2 a b:=(sX8 a b).2.1
def C7 a b:=(sX8 a b).2.2
theorem tJ7:SK 238 (fnSpec [(0,Ac),(1,(.own AQ 400100 true))] (.tup .nl) [(0,Ac)] (λx=>Ga x.1 x.2.1) (λx=>mK2 x.1 x.2.1) (λx=>C7 x.1 x.2.1)):=fx (λc=>{ c with wants:=[(276,[0])] }) Tryz.func238 32 [kb mJ4,kb mJ8] [] [(8,[(1,1,0,0)]),(9,[(4,0,20,400000)])] true [0]
def sX9 (o:(Int×Int×Int×(List (List A0))×Int×Unit))(p:A0):Prop×(Unit)×((Int×Int×Int×(List (List A0))×Int×Unit)×Unit):=
 let d:=o.2.2.1==1
 let l:=BU p o.1
 let f:=o
 let a:=C7 f l
 let e:=o.2.2.1==2
 let b:=AS o.1 2
 let g:=(wrap .i64 (sub 0 b),wrap .i64 (sub 0 b),())
 let h:=(b,wrap .i64 (sub 0 b),())
 let i:=(b,b,())
 let j:=(wrap .i64 (sub 0 b),b,())
 let m:=([AK p g,AK p h,AK p i,AK p j]:List A0)
 let k:=o
 let c:=C7 k m
 let n:=(cond d a.1.1 (cond e c.1.1 o.1),cond d a.1.2.1 (cond e c.1.2.1 o.2.1),cond d a.1.2.2.1 (cond e c.1.2.2.1 o.2.2.1),cond d a.1.2.2.2.1 (cond e c.1.2.2.2.1 o.2.2.2.1),cond d a.1.2.2.2.2.1 (cond e c.1.2.2.2.2.1 o.2.2.2.2.1),())
 ((d->Tv p o.1/\Ga f l)/\(d=false->e->Ej o.1 2/\FD p g/\FD p h/\FD p i/\FD p j/\Ga k m),(),(n,()))
def sI a b:=(sX9 a b).1
def mK3 a b:=(sX9 a b).2.1
def PL a b:=(sX9 a b).2.2
theorem oB8:SK 237 (fnSpec [(0,Ac),(1,Aq)] (.tup .nl) [(0,Ac)] (λx=>sI x.1 x.2.1) (λx=>mK3 x.1 x.2.1) (λx=>PL x.1 x.2.1)):=fx (λc=>{ c with wants:=[(238,[1])] }) Tryz.func237 53 [kb Kh,kb tJ7,kb rE,kb pC1] [] [] true [0] [51]
def sY (p:(Int×Int×Int×(List (List A0))×Int×Unit))(D G:CY):Prop×(Unit)×((Int×Int×Int×(List (List A0))×Int×Unit)×Unit):=
 let e:=p.2.1==1
 let C:=BU G.1 p.1
 let v:=p
 let f:=C7 v C
 let E:=([G.1,AK G.1 D.2.2.2.1,AK G.1 G.2.2.2.1]:List A0)
 let z:=p
 let g:=C7 z E
 let F:=([G.1,AR G.1 D.2.2.2.1,AR G.1 G.2.2.2.1]:List A0)
 let A:=(g.1.1,g.1.2.1,g.1.2.2.1,g.1.2.2.2.1,g.1.2.2.2.2.1,())
 let a:=C7 A F
 let H:=wrap .i64 (wrap .i64 (D.2.2.1.1*G.2.2.1.2.1)-(wrap .i64 (D.2.2.1.2.1*G.2.2.1.1)))
 let u:=wrap .i64 (a.1.1*a.1.1)
 let l:=wrap .i64 (u+wrap .i64 (4*wrap .i64 (wrap .i64 (D.2.2.2.1.1*G.2.2.2.1.1)+wrap .i64 (D.2.2.2.1.2.1*G.2.2.2.1.2.1))))
 let i:=cond (cond (a.1.2.1==2) true (H==0)) true (l<=0)
 let o:=wrap .i64 (u*wrap .i64 (D.2.2.2.1.1+G.2.2.2.1.1))
 let j:=AS o l
 let q:=wrap .i64 (u*wrap .i64 (D.2.2.2.1.2.1+G.2.2.2.1.2.1))
 let k:=AS q l
 let m:=(j,k,())
 let r:Bool:=f277 j k>wrap .i64 (4*a.1.1)
 let b:Bool:=H>0
 let s:=([G.1,AR G.1 D.2.2.2.1,AR G.1 m,AR G.1 G.2.2.2.1]:List A0)
 let B:=(a.1.1,a.1.2.1,a.1.2.2.1,a.1.2.2.2.1,a.1.2.2.2.2.1,())
 let c:=C7 B s
 let t:=([G.1,AK G.1 D.2.2.2.1,AK G.1 m,AK G.1 G.2.2.2.1]:List A0)
 let n:=(a.1.1,a.1.2.1,a.1.2.2.1,a.1.2.2.2.1,a.1.2.2.2.2.1,())
 let d:=C7 n t
 let h:=e||((!e)&&(i||((!i)&&r)))
 let w:=(cond h (cond e f.1.1 a.1.1) (cond b c.1.1 d.1.1),cond h (cond e f.1.2.1 a.1.2.1) (cond b c.1.2.1 d.1.2.1),cond h (cond e f.1.2.2.1 a.1.2.2.1) (cond b c.1.2.2.1 d.1.2.2.1),cond h (cond e f.1.2.2.2.1 a.1.2.2.2.1) (cond b c.1.2.2.2.1 d.1.2.2.2.1),cond h (cond e f.1.2.2.2.2.1 a.1.2.2.2.2.1) (cond b c.1.2.2.2.2.1 d.1.2.2.2.2.1),())
 ((e->Tv G.1 p.1/\Ga v C)/\(!e->FD G.1 D.2.2.2.1/\FD G.1 G.2.2.2.1/\Ga z E/\Hu G.1 D.2.2.2.1/\Hu G.1 G.2.2.2.1/\Ga A F/\(!i->Ej o l/\Ej q l/\qG j k/\(!r->(b->Hu G.1 D.2.2.2.1/\Hu G.1 m/\Hu G.1 G.2.2.2.1/\Ga B s)/\(b=false->FD G.1 D.2.2.2.1/\FD G.1 m/\FD G.1 G.2.2.2.1/\Ga n t)))),(),(w,()))
def Tw a b c:=(sY a b c).1
def mK4 a b c:=(sY a b c).2.1
def HW a b c:=(sY a b c).2.2
theorem oB9:SK 241 (fnSpec [(0,Ac),(1,Do),(2,Do)] (.tup .nl) [(0,Ac)] (λx=>Tw x.1 x.2.1 x.2.2.1) (λx=>mK4 x.1 x.2.1 x.2.2.1) (λx=>HW x.1 x.2.1 x.2.2.1)):=fx (λc=>{ c with wants:=[(238,[1])] }) Tryz.func241 161 [kb Kh,kb tJ7,kb rE,kb qF8,kb pC1,kb oQ] [] [] true [0] [40,50,146,159]
def Xt (p:(Int×Int×Int×(List (List A0))×Int×Unit))(s t:CY):Prop×(Unit)×((Int×Int×Int×(List (List A0))×Int×Unit)×Unit):=
 let e:=p.2.2.1==1
 let m:=BU s.1 p.1
 let i:=p
 let a:=C7 i m
 let n:=BU t.2.1 a.1.1
 let j:=(a.1.1,a.1.2.1,a.1.2.2.1,a.1.2.2.2.1,a.1.2.2.2.2.1,())
 let b:=C7 j n
 let f:=p.2.2.1==2
 let g:=AR s.1 s.2.2.2.2.1
 let o:=([AK g s.2.2.2.1,AK s.1 s.2.2.2.1,AR s.1 s.2.2.2.1,AR g s.2.2.2.1]:List A0)
 let k:=p
 let c:=C7 k o
 let h:=AK t.2.1 t.2.2.2.2.1
 let q:=([AK t.2.1 t.2.2.2.1,AK h t.2.2.2.1,AR h t.2.2.2.1,AR t.2.1 t.2.2.2.1]:List A0)
 let l:=(c.1.1,c.1.2.1,c.1.2.2.1,c.1.2.2.2.1,c.1.2.2.2.2.1,())
 let d:=C7 l q
 let r:=(cond e b.1.1 (cond f d.1.1 p.1),cond e b.1.2.1 (cond f d.1.2.1 p.2.1),cond e b.1.2.2.1 (cond f d.1.2.2.1 p.2.2.1),cond e b.1.2.2.2.1 (cond f d.1.2.2.2.1 p.2.2.2.1),cond e b.1.2.2.2.2.1 (cond f d.1.2.2.2.2.1 p.2.2.2.2.1),())
 ((e->Tv s.1 p.1/\Ga i m/\Tv t.2.1 a.1.1/\Ga j n)/\(e=false->f->Hu s.1 s.2.2.2.2.1/\FD g s.2.2.2.1/\FD s.1 s.2.2.2.1/\Hu s.1 s.2.2.2.1/\Hu g s.2.2.2.1/\Ga k o/\FD t.2.1 t.2.2.2.2.1/\FD t.2.1 t.2.2.2.1/\FD h t.2.2.2.1/\Hu h t.2.2.2.1/\Hu t.2.1 t.2.2.2.1/\Ga l q),(),(r,()))
def tJ8 a b c:=(Xt a b c).1
def mK5 a b c:=(Xt a b c).2.1
def NX a b c:=(Xt a b c).2.2
theorem oC:SK 242 (fnSpec [(0,Ac),(1,Do),(2,Do)] (.tup .nl) [(0,Ac)] (λx=>tJ8 x.1 x.2.1 x.2.2.1) (λx=>mK5 x.1 x.2.1 x.2.2.1) (λx=>NX x.1 x.2.1 x.2.2.1)):=fx (λc=>{ c with wants:=[(238,[1])] }) Tryz.func242 85 [kb tJ7,kb rE,kb qF8,kb pC1] [] [] true [0] [57,83]
abbrev vM6:Type:=(Bool×(List CY)×(List CY)×Int×Unit)
abbrev Gb:Type:=((Int×Int×Int×(List (List A0))×Int×Unit)×Int×Unit)
def tQ8 (y:vM6)(x:Gb):Vn Gb:=
 let e:=y.2.2.1
 let d:=x.1
 let c:=x.2.1
 let g:Bool:=c<y.2.2.2.1
 let a:=nth e c BY
 let h:=([AK a.1 a.2.2.2.1,AK a.2.1 a.2.2.2.1,AR a.2.1 a.2.2.2.1,AR a.1 a.2.2.2.1]:List A0)
 let f:=d
 let b:=C7 f h
 (g->A7 c (len e)/\FD a.1 a.2.2.2.1/\FD a.2.1 a.2.2.2.1/\Hu a.2.1 a.2.2.2.1/\Hu a.1 a.2.2.2.1/\Ga f h/\A6 (c+1),g,((b.1.1,b.1.2.1,b.1.2.2.1,b.1.2.2.2.1,b.1.2.2.2.2.1,()),c+1,()))
def vQ3 y x:=(tQ8 y x).1
def wJ y x:=(tQ8 y x).2.1
def wG y x:=(tQ8 y x).2.2
def vX (y:vM6)(x:Gb):(Int×Int×Int×(List (List A0))×Int×Unit):=
 let a:=x.1
 a
def tW4:List (Nat×Sh):=[(0,Ac),(2,vB),(7,Bu)]
def qG1:=li [(2,vB),(7,Bu),(32,Bu),(33,vI)] [(0,Ac),(34,vI)] wJ wG vQ3 (λy x=>[ex 2 none tW4 ((vX y x),y.1,y.2.1,())]) [tW4]
abbrev vC3:Type:=(Bool×(List CY)×Unit)
def uZ6 (y:vC3)(x:Gb):Vn Gb:=
 let d:=y.2.1
 let c:=x.1
 let b:=x.2.1
 let f:Bool:=b<len d
 let g:=b-1
 let h:=nth d g BY
 let i:=nth d b BY
 let e:=c
 let a:=HW e h i
 (f->A6 (b-1)/\A7 g (len d)/\A7 b (len d)/\Tw e h i/\A6 (b+1),f,((a.1.1,a.1.2.1,a.1.2.2.1,a.1.2.2.2.1,a.1.2.2.2.2.1,()),b+1,()))
def vL0 y x:=(uZ6 y x).1
def Jz y x:=(uZ6 y x).2.1
def J0 y x:=(uZ6 y x).2.2
def vP7 (y:vC3)(x:Gb):(Int×Int×Int×(List (List A0))×Int×Unit):=
 let a:=x.1
 a
def tO6:List (Nat×Sh):=[(0,Ac),(2,vB),(7,Bu)]
def rT2:=li [(2,vB),(7,Bu)] [(0,Ac),(10,vI)] Jz J0 vL0 (λy x=>[ex 4 none tO6 ((vP7 y x),y.1,y.2.1,())]) [tO6]
def Xu (p:(Int×Int×Int×(List (List A0))×Int×Unit))(D:List A0)(G:Bool):Prop×(Unit)×((Int×Int×Int×(List (List A0))×Int×Unit)×Unit):=
 let k:=CM D G
 let c:=BD k G p.1
 let g:=len c==0
 let h:=len k==1
 let s:=nth k 0 A1
 let o:=p
 let e:=PL o s
 let n:=(G,c,c,len c,())
 let F:=(p,(0:Int),())
 let b:=vX n (A3 (wJ n) (wG n) F)
 let i:=!G
 let t:=len c
 let u:=t-1
 let v:=nth c u BY
 let w:=nth c 0 BY
 let q:=b
 let f:=HW q v w
 let C:=(cond i f.1.1 b.1,cond i f.1.2.1 b.2.1,cond i f.1.2.2.1 b.2.2.1,cond i f.1.2.2.2.1 b.2.2.2.1,cond i f.1.2.2.2.2.1 b.2.2.2.2.1,())
 let j:=(G,c,())
 let B:=(C,(1:Int),())
 let a:=vP7 j (A3 (Jz j) (J0 j) B)
 let z:=nth c 0 BY
 let A:=len c
 let l:=A-1
 let m:=nth c l BY
 let r:=a
 let d:=NX r z m
 let E:=(cond g (cond h e.1.1 p.1) (cond G d.1.1 a.1),cond g (cond h e.1.2.1 p.2.1) (cond G d.1.2.1 a.2.1),cond g (cond h e.1.2.2.1 p.2.2.1) (cond G d.1.2.2.1 a.2.2.1),cond g (cond h e.1.2.2.2.1 p.2.2.2.1) (cond G d.1.2.2.2.1 a.2.2.2.1),cond g (cond h e.1.2.2.2.2.1 p.2.2.2.2.1) (cond G d.1.2.2.2.2.1 a.2.2.2.2.1),())
 (pB6 D G/\pB7 k G p.1/\(g->h->A7 0 (len k)/\sI o s)/\(!g->AB (wJ n) (wG n) (vQ3 n) F/\(i->A6 (t-1)/\A7 u (len c)/\A7 0 (len c)/\Tw q v w)/\AB (Jz j) (J0 j) (vL0 j) B/\(G->A7 0 (len c)/\A6 (A-1)/\A7 l (len c)/\tJ8 r z m)),(),(E,()))
def uJ a b c:=(Xu a b c).1
def mK6 a b c:=(Xu a b c).2.1
def I2 a b c:=(Xu a b c).2.2
theorem oC0:SK 209 (fnSpec [(0,Ac),(1,Bd),(2,vB)] (.tup .nl) [(0,Ac)] (λx=>uJ x.1 x.2.1 x.2.2.1) (λx=>mK6 x.1 x.2.1 x.2.2.1) (λx=>I2 x.1 x.2.1 x.2.2.1)):=fx (λc=>{ c with wants:=[(237,[]),(238,[1]),(241,[]),(242,[])] }) Tryz.func209 104 [kb mI7,kb mJ3,kb oB8,kb tJ7,kb rE,kb qF8,kb oB9,kb oC] [(6,qG1),(13,rT2)] [(3,[(4,0,20,1007)])] false [0] [59]
abbrev wU2:Type:=((List Bool)×Unit×(List (List A0))×Int×Unit)
def PM (y:wU2)(x:Gb):Vm Gb:=
 let j:=y.1
 let f:=y.2.2.1
 let c:=x.1
 let b:=x.2.1
 let d:Bool:=b<y.2.2.2.1
 let h:=nth f b []
 let i:=nth j b false
 let g:=c
 let a:=I2 g h i
 let e:Bool:=a.1.2.2.2.2.1>4096
 (d->A7 b (len f)/\A7 b (len j)/\uJ g h i/\(!e->A6 (b+1)),d&&(!e),((a.1.1,a.1.2.1,a.1.2.2.1,a.1.2.2.2.1,a.1.2.2.2.2.1,()),b+1,()),d&&e,!d)
def Tx y x:=(PM y x).1
def J1 y x:=(PM y x).2.1
def HY y x:=(PM y x).2.2.1
def PN y x:=(PM y x).2.2.2.1
def pC2 y x:=(PM y x).2.2.2.2
def uO (y:wU2)(x:Gb):(List (List A0)):=
 []
def tW6 (y:wU2)(x:Gb):Int:=
 3
def rE0:List (Nat×Sh):=[(10,Au),(11,vI)]
def uO0 (y:wU2)(x:Gb):(Int×Int×Int×(List (List A0))×Int×Unit):=
 let a:=x.1
 a
def rE1:List (Nat×Sh):=[(14,(.ref 38 Ix)),(38,Bo)]
def pC3:=li [(1,Dz),(14,(.ref 38 Ix)),(39,Aj),(40,vI)] [(38,Bo),(41,vI)] J1 HY Tx (λy x=>[ex 1 (some (PN y x)) rE0 ((uO y x),(tW6 y x),()),ex 2 (some (pC2 y x)) rE1 (y.2.1,(uO0 y x),())]) [rE0,rE1]
def mK7 (j:(List (List A0)))(k:List Bool)(l m n:Int):Prop×((List (List A0))×Int×Unit):=
 let g:=FC l m n
 let d:=g !=0
 let h:=DW j 0
 let e:=h !=0
 let f:=len k !=len j
 let a:=(k,(),j,len j,())
 let i:=((l,m,n,([]:List (List A0)),(0:Int),()),(0:Int),())
 let c:=A3 (J1 a) (HY a) i
 let b:=PN a c
 (pB5 l m n/\(!d->PG j 0/\(!e->!f->AB (J1 a) (HY a) (Tx a) i)),(cond d [] (cond e [] (cond f [] (cond b (uO a c) (uO0 a c).2.2.2.1))),cond d g (cond e h (cond f 15 (cond b (tW6 a c) 0))),()))
def pC4 a b c d e:=(mK7 a b c d e).1
def FE a b c d e:=(mK7 a b c d e).2
theorem mK8:SK 171 (sp5 Aj Dz vI vI vI (.tup (.cons Au (.cons vI .nl))) pC4 FE):=fx (λc=>{ c with wants:=[(209,[])] }) Tryz.func171 63 [kb pB4,kb mI6,kb oC0] [(11,pC3)] [(35,[(4,0,403800,0)])]
def lL4 (p:AJ):Prop×Int:=
 let a:=BP (Q8 p).1 (Q2 p).1
 let i:=a.2.1 !=0
 let j:=cond ((Qi p).1 !=0) ((Qi p).1 !=1) false
 let k:=cond ((Qc p).1==0) (cond ((Qf p).1 !=0) true ((Qg p).1 !=0)) false
 let b:=BI a.1
 let l:=b.2.1 !=0
 let c:=(Qc p).1 !=0
 let e:=E6 a.1
 let d:=e.2.1 !=0
 let g:=FE b.1 e.1 (Qc p).1 (Qf p).1 (Qg p).1
 let m:=g.2.1 !=0
 let f:=cond c g.1 b.1
 let q:=cond c 0 (Qi p).1
 let n:=DW f q
 let o:=n !=0
 let h:=cond k 1 (cond l b.2.1 (cond ((d||((!d)&&m))&&c) (cond d e.2.1 g.2.1) (cond o n (f138 (Q9 p).1))))
 (pA9 (Q8 p).1 (Q2 p).1/\(!i->!j->!k->Xp a.1/\(!l->(c->pB0 a.1/\(!d->pC4 b.1 e.1 (Qc p).1 (Qf p).1 (Qg p).1))/\((cond c ((!d)&&(!m)) true)=true->PG f q/\(!o->Ti (Q9 p).1)))),cond i a.2.1 (cond j 8 h))
def pC5 a:=(lL4 a).1
def Kt a:=(lL4 a).2
theorem mK9:SK 140 (AU Ay vI pC5 Kt):=fb Tryz.func140 87 [kb pA2,kb mI0,kb oP3,kb mI4,kb mK8,kb pB4] [] [(17,[(4,0,44,1005)]),(27,[(4,0,57,1007)]),(33,[(5,0,1005,0),(4,0,72,1005)])]
end Go.Proofs.YtlpphnncneppoaaGreatDoor.Am
