/- Printed by program, part 5. No condition. -/
import Derived.Test.YtlpphnncneppoaaGreatDoorDckP4
set_option linter.unusedVariables false
set_option synthInstance.maxSize 4000
set_option synthInstance.maxHeartbeats 400000
namespace Go.Proofs.YtlpphnncneppoaaGreatDoor.Am
open Go Go.Am Go.Proofs
open Go.IntKind (wrap)
open _root_.Int (sub toNat)
open _root_.List (length set take)
def lS7 (o:AJ):Prop×Int:=
 let a:=DZ (Q8 o).1 (Q2 o).1
 let h:=a.2.1 !=0
 let i:=cond ((Qi o).1 !=0) ((Qi o).1 !=1) false
 let b:=DB a.1
 let f:=(Qc o).1==0
 let c:=cond ((Qf o).1 !=0) true ((Qg o).1 !=0)
 let j:=Ev b.1 (Qi o).1
 let d:=j !=0
 let k:=H6 a.1
 let e:=H8 b.1 k.1 (Qc o).1 (Qf o).1 (Qg o).1
 let l:=e.2.1 !=0
 let m:=Ev e.1 0
 let n:=m !=0
 let g:=cond ((c||((!c)&&(d||(!d))))&&f) (cond c 1 (cond d j (G3 (Q9 o).1))) (cond l e.2.1 (cond n m (G3 (Q9 o).1)))
 (qI8 (Q8 o).1 (Q2 o).1/\(!h->!i->Zm a.1/\(f->!c->O3 b.1 (Qi o).1/\(!d->Oz (Q9 o).1))/\(!f->qJ1 a.1/\qK1 b.1 k.1 (Qc o).1 (Qf o).1 (Qg o).1/\(!l->O3 e.1 0/\(!n->Oz (Q9 o).1)))),cond h a.2.1 (cond i 8 g))
def pJ4 a:=(lS7 a).1
def f157 a:=(lS7 a).2
theorem mX8:SK 157 (AU Aw vI pJ4 f157):=fb Tryz.func157 85 [kb pI,kb mV7,kb oV7,kb pI9,kb mW0,kb mX7] [] [(3,[(4,0,17,1003)]),(31,[(4,0,71,1010)])]
def UN (y:Ek)(x:AD):Vm AD:=
 let f:=y.1
 let g:=y.2.1
 let d:=x.1
 let e:=nth f g A5
 let b:Bool:=d<B6 e.1
 let a:=nth (nth f g A5).2.1 d A1
 let c:Bool:=GI (GI (GI a.1 (sub 0 a.1)) a.2.1) (sub 0 a.2.1)>65536
 (A7 g (len f)/\QV e.1/\(b->A7 g (len f)/\A7 d 3/\A6 (sub 0 a.1)/\A6 (sub 0 a.2.1)/\(!c->A6 (d+1))),b&&(!c),(d+1,()),b&&c,!b)
def rZ9 y x:=(UN y x).1
def Rk y x:=(UN y x).2.1
def UO y x:=(UN y x).2.2.1
def sL6 y x:=(UN y x).2.2.2.1
def sL7 y x:=(UN y x).2.2.2.2
def sT9 (y:Ek)(x:AD):Bool:=
 false
def qA:List (Nat×Sh):=[(0,Ai),(3,vI)]
def oH5:=li [(0,Ai),(3,vI)] [(4,vI)] Rk UO rZ9 (λy x=>[ex 1 (some (sL6 y x)) [(2,vB)] ((sT9 y x),()),ex 4 (some (sL7 y x)) qA (y.1,y.2.1,())]) [[(2,vB)],qA]
def O5 (y:O1)(x:AD):Vm AD:=
 let e:=y.1
 let c:=x.1
 let d:Bool:=c<len e
 let b:=(e,c,())
 let g:=((0:Int),())
 let f:=A3 (Rk b) (UO b) g
 let a:=sL7 b f
 (d->AB (Rk b) (UO b) (rZ9 b) g/\(a->A6 (c+1)),d&&a,(c+1,()),d&&sL6 b f,!d)
def qA0 y x:=(O5 y x).1
def II y x:=(O5 y x).2.1
def KC y x:=(O5 y x).2.2.1
def ZA y x:=(O5 y x).2.2.2.1
def oH6 y x:=(O5 y x).2.2.2.2
def uG7 (y:O1)(x:AD):Bool:=
 let a:=(y.1,x.1,())
 (sT9 a (A3 (Rk a) (UO a) (0,())))
def oH7:=li [(0,Ai)] [(3,vI)] II KC qA0 (λy x=>[ex 1 (some (ZA y x)) [(2,vB)] ((uG7 y x),()),ex 2 (some (oH6 y x)) [] ()]) [[(2,vB)],[]]
def lS8 (d:List A9):Prop×Bool:=
 let a:=(d,())
 let c:=((0:Int),())
 let b:=A3 (II a) (KC a) c
 (AB (II a) (KC a) (qA0 a) c,cond (ZA a b) (uG7 a b) true)
def pJ5 a:=(lS8 a).1
def KD a:=(lS8 a).2
theorem mX9:SK 287 (AU Ai vB pJ5 KD):=fb Tryz.func287 41 [kb YZ] [(2,oH7),(5,oH5)]
abbrev uB8:Type:=(A8×Unit)
def O6 (y:uB8)(x:AD):Vm AD:=
 let h:=y.1
 let f:=x.1
 let b:Bool:=f<len h.2.2.2.1
 let a:=nth h.2.2.2.1 f BG
 let g:Bool:=f>0
 let j:=f-1
 let c:=cond g (decide (a.1<=(nth h.2.2.2.1 j BG).1)) false
 let d:=cond (a.2.1<0) true (a.2.1>65536)
 let e:=f219 a.2.2.1!=0
 let k:=!(KD a.2.2.1)
 let i:=(!c)&&((!d)&&((!e)&&(!k)))
 (b->A7 f (len h.2.2.2.1)/\(g->A6 (f-1))/\(g->A7 j (len h.2.2.2.1))/\(!c->!d->sK a.2.2.1/\(!e->pJ5 a.2.2.1))/\(i->A6 (f+1)),b&&i,(f+1,()),b&&(c||((!c)&&(d||((!d)&&(e||((!e)&&k)))))),!b)
def qA1 y x:=(O6 y x).1
def UP y x:=(O6 y x).2.1
def uG9 y x:=(O6 y x).2.2.1
def tM1 y x:=(O6 y x).2.2.2.1
def qA2 y x:=(O6 y x).2.2.2.2
def uH (y:uB8)(x:AD):Int:=
 let e:=y.1
 let d:=x.1
 let a:=nth e.2.2.2.1 d BG
 let c:=f219 a.2.2.1
 let b:=cond (cond (d>0) (decide (a.1<=(nth e.2.2.2.1 (d-1) BG).1)) false) 24 (cond (cond (a.2.1<0) true (a.2.1>65536)) 2 (cond (c !=0) c 2))
 b
def oH8:=li [(1,Ah)] [(3,vI)] UP uG9 qA1 (λy x=>[ex 1 (some (tM1 y x)) [(2,vI)] ((uH y x),()),ex 2 (some (qA2 y x)) [(1,Ah)] (y.1,())]) [[(2,vI)],[(1,Ah)]]
def O7 (y:uB8)(x:AD):Vm AD:=
 let i:=y.1
 let e:=x.1
 let d:Bool:=e<len i.2.2.2.2.1
 let a:=nth i.2.2.2.2.1 e BV
 let b:Bool:=e>0
 let f:=e-1
 let c:=nth i.2.2.2.2.1 f BV
 let g:=cond (a.1<c.1) true (cond (a.1==c.1) (decide (a.2.1<=c.2.1)) false)
 let j:=cond b (!g) true
 let h:=cond (a.2.2.1<(-65536)) true (a.2.2.1>65536)
 let k:=j&&(!h)
 (d->A7 e (len i.2.2.2.2.1)/\(b->A6 (e-1)/\A7 f (len i.2.2.2.2.1))/\(k->A6 (e+1)),d&&k,(e+1,()),d&&((g&&b)||(j&&h)),!d)
def rK1 y x:=(O7 y x).1
def UQ y x:=(O7 y x).2.1
def vR6 y x:=(O7 y x).2.2.1
def uR1 y x:=(O7 y x).2.2.2.1
def pJ6 y x:=(O7 y x).2.2.2.2
def vR7 (y:uB8)(x:AD):Int:=
 let d:=y.1
 let c:=x.1
 let a:=nth d.2.2.2.2.1 c BV
 let b:=nth d.2.2.2.2.1 (c-1) BV
 (cond ((cond (a.1<b.1) true (cond (a.1==b.1) (decide (a.2.1<=b.2.1)) false))&&(c>0)) (24:Int) 2)
def pJ7:=li [(1,Ah)] [(6,vI)] UQ vR6 rK1 (λy x=>[ex 1 (some (uR1 y x)) [(2,vI)] ((vR7 y x),()),ex 4 (some (pJ6 y x)) [] ()]) [[(2,vI)],[]]
def lS9 (i:A8):Prop×Int:=
 let d:=cond (cond (cond (cond (cond (i.1<1) true (i.1>65536)) true (i.2.1<0)) true (i.2.1>65536)) true (i.2.2.1<0)) true (i.2.2.1>65536)
 let e:=cond (len i.2.2.2.1>256) true (len i.2.2.2.2.1>256)
 let b:=(i,())
 let h:=((0:Int),())
 let g:=A3 (UP b) (uG9 b) h
 let a:=(i,())
 let f:=((0:Int),())
 let c:=A3 (UQ a) (vR6 a) f
 (!d->!e->AB (UP b) (uG9 b) (qA1 b) h/\(qA2 b g->AB (UQ a) (vR6 a) (rK1 a) f),cond d 2 (cond e 3 (cond (tM1 b g) (uH b g) (cond (uR1 a c) (vR7 a c) 0))))
def qK2 a:=(lS9 a).1
def FK a:=(lS9 a).2
theorem oW4:SK 265 (AU Bn vI qK2 FK):=fb Tryz.func265 138 [kb qI7,kb mX9] [(6,oH8),(19,pJ7)]
abbrev uB9:Type:=((List (List UInt8))×Int×Int×Unit)
def sY9 (y:NL)(x:uB9):Vn uB9:=
 let c:=y.1
 let h:=x.1
 let g:=x.2.1
 let a:=x.2.2.1
 let d:Bool:=a<=len c
 let e:=a==len c
 let b:=cond e true (wD c a==y.2.1)
 let f:=([List.drop (toNat g) (take (toNat a) c)]:List (List UInt8))
 (d->(!e->A7 a (len c))/\(b->(0<=g/\g<=a/\a<=len c)/\((length h+length f:Nat):Int)<=4294967296/\A6 (a+1))/\A6 (a+1),d,(cond b (h++f) h,cond b (a+1) g,a+1,()))
def qA3 y x:=(sY9 y x).1
def O8 y x:=(sY9 y x).2.1
def MD y x:=(sY9 y x).2.2
def sU (y:NL)(x:uB9):(List (List UInt8)):=
 x.1
def oH9:=li [(0,vS),(1,Bb)] [(5,Dk),(6,vI),(7,vI)] O8 MD qA3 (λy x=>[ex 2 none [(5,Dk)] ((sU y x),())]) [[(5,Dk)]]
def lT (c:List UInt8)(d:Int):Prop×(List (List UInt8)):=
 let a:=(c,d,())
 let b:=(([]:List (List UInt8)),(0:Int),(0:Int),())
 (AB (O8 a) (MD a) (qA3 a) b,sU a (A3 (O8 a) (MD a) b))
def ZB a b:=(lT a b).1
def f266 a b:=(lT a b).2
theorem mY:SK 266 (BF vS Bb Dq ZB f266):=fb Tryz.func266 36 [] [(4,oH9)] [(3,[(4,0,8,1005)]),(15,[(4,0,32,1005)]),(19,[(4,0,1005,0)])]
abbrev vO5:Type:=(Int×A8×Unit)
def Rl (y:vO5)(x:CU):Vm CU:=
 let d:=y.2.1
 let c:=x.2.1
 let a:Bool:=c<len d.2.2.2.1
 let b:=(nth d.2.2.2.1 c BG).1==y.1
 (a->A7 c (len d.2.2.2.1)/\(!b->A7 c (len d.2.2.2.1))/\(!b->A6 (c+1)),a&&(!b),(cond ((nth d.2.2.2.1 c BG).1==63) c x.1,c+1,()),a&&b,!a)
def qA4 y x:=(Rl y x).1
def L1 y x:=(Rl y x).2.1
def wP y x:=(Rl y x).2.2.1
def ZC y x:=(Rl y x).2.2.2.1
def oI y x:=(Rl y x).2.2.2.2
def sU0 (y:vO5)(x:CU):Int:=
 x.2.1
def sU1 (y:vO5)(x:CU):Int:=
 x.1
def oI0:=li [(1,Bb),(2,Ah)] [(5,vI),(6,vI)] L1 wP qA4 (λy x=>[ex 1 (some (ZC y x)) [(4,vI)] ((sU0 y x),()),ex 2 (some (oI y x)) [(5,vI)] ((sU1 y x),())]) [[(4,vI)],[(5,vI)]]
def lT0 (d:A8)(e:Int):Prop×Int:=
 let a:=(e,d,())
 let c:=((-1:Int),(0:Int),())
 let b:=A3 (L1 a) (wP a) c
 (AB (L1 a) (wP a) (qA4 a) c,cond (ZC a b) (sU0 a b) (sU1 a b))
def pJ8 a b:=(lT0 a b).1
def IJ a b:=(lT0 a b).2
theorem mY0:SK 268 (BF Bn Bb vI pJ8 IJ):=fb Tryz.func268 32 [] [(3,oI0)]
abbrev tG:Type:=((List UInt8)×A8×Unit)
def qK3 (y:tG)(x:Gq):Vn Gq:=
 let g:=y.1
 let i:=y.2.1
 let h:=x.1
 let a:=x.2.1
 let b:=cond (a<len g) (decide (a<128)) false
 let c:=wD g a
 let d:=IJ i c
 let e:Bool:=d≥0
 let f:=([d]:List Int)
 (b->A7 a (len g)/\pJ8 i c/\(e->((length h+length f:Nat):Int)<=4294967296)/\A6 (a+1),b,(cond e (h++f) h,a+1,()))
def qA5 y x:=(qK3 y x).1
def Rm y x:=(qK3 y x).2.1
def ZD y x:=(qK3 y x).2.2
def tG0 (y:tG)(x:Gq):(List Int):=
 x.1
def qA6:List (Nat×Sh):=[(5,Bg)]
def oI1:=li [(1,vS),(2,Ah)] [(5,Bg),(6,vI)] Rm ZD qA5 (λy x=>[ex 2 none qA6 ((tG0 y x),())]) [qA6]
def lT1 (c:A8)(d:List UInt8):Prop×(List Int):=
 let a:=(d,c,())
 let b:=(([]:List Int),(0:Int),())
 (AB (Rm a) (ZD a) (qA5 a) b,tG0 a (A3 (Rm a) (ZD a) b))
def qK4 a b:=(lT1 a b).1
def f229 a b:=(lT1 a b).2
theorem oW5:SK 229 (BF Bn vS Bl qK4 f229):=fb Tryz.func229 31 [kb mY0] [(3,oI1)] [(3,[(4,0,8,1005)]),(15,[(4,0,29,1005)]),(17,[(4,0,1005,0)])]
abbrev uC1:Type:=(Int×Int×A8×Unit)
def UR (y:uC1)(x:AD):Vm AD:=
 let d:=y.2.2.1
 let c:=x.1
 let a:Bool:=c<len d.2.2.2.2.1
 let e:=(nth d.2.2.2.2.1 c BV).1==y.1
 let b:=cond e ((nth d.2.2.2.2.1 c BV).2.1==y.2.1) false
 (a->A7 c (len d.2.2.2.2.1)/\(e->A7 c (len d.2.2.2.2.1))/\(b->A7 c (len d.2.2.2.2.1))/\(!b->A6 (c+1)),a&&(!b),(c+1,()),a&&b,!a)
def qA7 y x:=(UR y x).1
def Rn y x:=(UR y x).2.1
def US y x:=(UR y x).2.2.1
def tM3 y x:=(UR y x).2.2.2.1
def oI2 y x:=(UR y x).2.2.2.2
def sU2 (y:uC1)(x:AD):Int:=
 (nth y.2.2.1.2.2.2.2.1 x.1 BV).2.2.1
def oI3:=li [(1,Bb),(2,Bb),(3,Ah)] [(7,vI)] Rn US qA7 (λy x=>[ex 1 (some (tM3 y x)) [(6,vI)] ((sU2 y x),()),ex 2 (some (oI2 y x)) [] ()]) [[(6,vI)],[]]
def lT2 (d:A8)(e f:Int):Prop×Int:=
 let a:=(e,f,d,())
 let c:=((0:Int),())
 let b:=A3 (Rn a) (US a) c
 (AB (Rn a) (US a) (qA7 a) c,cond (tM3 a b) (sU2 a b) 0)
def pJ9 a b c:=(lT2 a b c).1
def EJ a b c:=(lT2 a b c).2
theorem mY1:SK 269 (DU Bn Bb Bb vI pJ9 EJ):=fb Tryz.func269 39 [] [(2,oI3)]
abbrev uL8:Type:=((List Int)×A8×Unit)
abbrev UT:Type:=((List Int)×Int×Int×Unit)
def qK5 (y:uL8)(x:UT):Vn UT:=
 let c:=y.1
 let b:=y.2.1
 let r:=x.1
 let o:=x.2.1
 let a:=x.2.2.1
 let d:Bool:=a<len c
 let e:Bool:=a>0
 let f:=a-1
 let g:=nth c f 0
 let h:=nth b.2.2.2.1 g BG
 let i:=nth c a 0
 let j:=nth b.2.2.2.1 i BG
 let k:=EJ b h.1 j.1
 let q:=cond e (o+k) o
 let l:=([q]:List Int)
 let m:=nth c a 0
 let n:=nth b.2.2.2.1 m BG
 (d->(e->A6 (a-1)/\A7 f (len c)/\A7 g (len b.2.2.2.1)/\A7 a (len c)/\A7 i (len b.2.2.2.1)/\pJ9 b h.1 j.1/\A6 (o+k))/\((length r+length l:Nat):Int)<=4294967296/\A7 a (len c)/\A7 m (len b.2.2.2.1)/\A6 (q+n.2.1)/\A6 (a+1),d,(r++l,q+n.2.1,a+1,()))
def qA8 y x:=(qK5 y x).1
def KE y x:=(qK5 y x).2.1
def KF y x:=(qK5 y x).2.2
def ZE (y:uL8)(x:UT):(List Int):=
 x.1
def uH0 (y:uL8)(x:UT):Int:=
 x.2.1
def qA9:List (Nat×Sh):=[(5,Bg),(6,vI)]
def oI4:=li [(1,Ak),(2,Ah)] [(5,Bg),(6,vI),(7,vI)] KE KF qA8 (λy x=>[ex 2 none qA9 ((ZE y x),(uH0 y x),())]) [qA9]
def lT3 (f:A8)(g:List Int):Prop×(List Int):=
 let b:=(g,f,())
 let e:=(([]:List Int),(0:Int),(0:Int),())
 let d:=A3 (KE b) (KF b) e
 let a:=ZE b d
 let c:=([uH0 b d]:List Int)
 (AB (KE b) (KF b) (qA8 b) e/\((length a+length c:Nat):Int)<=4294967296,a++c)
def ZF a b:=(lT3 a b).1
def BS a b:=(lT3 a b).2
theorem oW6:SK 230 (BF Bn Ak Bl ZF BS):=fb Tryz.func230 59 [kb mY1] [(4,oI4)] [(3,[(4,0,8,1005)]),(17,[(4,0,43,1005)]),(21,[(4,0,58,0)])]
def lT4 (i:A8)(j:List UInt8)(k:Int):Prop×Int:=
 let b:=FK i !=0
 let c:=f229 i j
 let a:=BS i c
 let d:=len a
 let e:=d-1
 let f:=nth a e 0
 let g:=f218 k 1 1048576
 let h:=f*g
 (qK2 i/\(!b->qK4 i j/\ZF i c/\A6 (d-1)/\A7 e (len a)/\YP k 1 1048576/\A6 (f*g)/\wH h i.1),cond b 0 (AZ h i.1))
def UU a b c:=(lT4 a b c).1
def f267 a b c:=(lT4 a b c).2
theorem mY2:SK 267 (DU Bn vS vI vI UU f267):=fb Tryz.func267 28 [kb ID,kb qI3,kb oW5,kb oW6,kb oW4] [] [(7,[(4,0,15,1007)])]
abbrev vO9:Type:=((List UInt8)×Int×Int×A8×Unit)
def UW (y:vO9)(x:AD):Vm AD:=
 let c:=y.1
 let a:=x.1
 let b:Bool:=a<len c
 let d:=wD c a !=10
 let f:Bool:=wD c a<32
 let e:=cond d (cond f true (wD c a>126)) false
 (b->A7 a (len c)/\(d->A7 a (len c))/\((d&&(!f))->A7 a (len c))/\(!e->A6 (a+1)),b&&(!e),(a+1,()),b&&e,!b)
def sL9 y x:=(UW y x).1
def vP y x:=(UW y x).2.1
def Ro y x:=(UW y x).2.2.1
def sM y x:=(UW y x).2.2.2.1
def qB y x:=(UW y x).2.2.2.2
def sU3 (y:vO9)(x:AD):(List (List UInt8)):=
 []
def sU4 (y:vO9)(x:AD):Int:=
 4
def qB0:List (Nat×Sh):=[(8,Dq),(9,vI)]
def qB1:List (Nat×Sh):=[(1,vS),(2,vI),(3,vI),(4,Ah)]
def oI5:=li [(1,vS),(2,vI),(3,vI),(4,Ah)] [(11,vI)] vP Ro sL9 (λy x=>[ex 1 (some (sM y x)) qB0 ((sU3 y x),(sU4 y x),()),ex 2 (some (qB y x)) qB1 (y.1,y.2.1,y.2.2.1,y.2.2.2.1,())]) [qB0,qB1]
abbrev vV:Type:=(Int×Int×A8×(List (List UInt8))×Int×(List (List UInt8))×Unit)
def rK4 (y:vV)(x:NH):Vn NH:=
 let l:=y.1
 let m:=y.2.1
 let n:=y.2.2.1
 let b:=(Q1 y).1
 let e:=x.1
 let f:=x.2.1
 let a:=x.2.2.1
 let h:Bool:=a<len b
 let i:=f++([32]:List UInt8)
 let j:=nth b a []
 let g:=i++j
 let k:=m==0
 let c:=cond k true (f267 n g l<=m)
 let d:=([f]:List (List UInt8))
 (h->((length f+length ([32]:List UInt8):Nat):Int)<=9223372036854775807/\A7 a (len b)/\((length i+length j:Nat):Int)<=9223372036854775807/\(!k->UU n g l)/\(c=false->((length e+length d:Nat):Int)<=4294967296/\A7 a (len b))/\A6 (a+1),h,(cond c e (e++d),cond c g (nth b a []),a+1,()))
def tS8 y x:=(rK4 y x).1
def ME y x:=(rK4 y x).2.1
def MF y x:=(rK4 y x).2.2
def vR8 (y:vV)(x:NH):(List (List UInt8)):=
 x.1
def uR3 (y:vV)(x:NH):(List UInt8):=
 x.2.1
def rK5:List (Nat×Sh):=[(2,vI),(3,vI),(4,Ah),(12,Ch),(13,Dl),(14,vI),(16,vS)]
def pK:=li [(2,vI),(3,vI),(4,Ah),(13,Dl),(14,vI),(15,(.own .str 1015 false))] [(12,Ch),(16,vS),(17,vI)] ME MF tS8 (λy x=>[ex 6 none rK5 (y.1,y.2.1,y.2.2.1,(vR8 y x),y.2.2.2.1,y.2.2.2.2.1,(uR3 y x),())]) [rK5]
abbrev uL9:Type:=(Int×Int×A8×(List (List UInt8))×Unit)
def sB8 (y:uL9)(x:TG):Vn TG:=
 let d:=y.2.2.2.1
 let c:=x.2.1
 let h:Bool:=c<len d
 let i:=nth d c []
 let f:=f266 i 32
 let b:=(y.1,y.2.1,y.2.2.1,d,c,f,())
 let j:=(x.1,nth f 0 [],(1:Int),())
 let g:=A3 (ME b) (MF b) j
 let a:=vR8 b g
 let e:=([uR3 b g]:List (List UInt8))
 (h->A7 c (len d)/\ZB i 32/\A7 0 (len f)/\AB (ME b) (MF b) (tS8 b) j/\((length a+length e:Nat):Int)<=4294967296/\A6 (c+1),h,(a++e,c+1,()))
def uR4 y x:=(sB8 y x).1
def UX y x:=(sB8 y x).2.1
def MG y x:=(sB8 y x).2.2
def sB9 (y:uL9)(x:TG):(List (List UInt8)):=
 x.1
def pK0:=li [(2,vI),(3,vI),(4,Ah),(13,Dl)] [(12,Ch),(14,vI)] UX MG uR4 (λy x=>[ex 4 none [(12,Ch)] ((sB9 y x),())]) [[(12,Ch)]]
def nO5 (k:A8)(l:List UInt8)(m n:Int):Prop×((List (List UInt8))×Int×Unit):=
 let g:=FK k
 let d:=g !=0
 let b:=(l,m,n,k,())
 let j:=((0:Int),())
 let i:=A3 (vP b) (Ro b) j
 let c:=sM b i
 let e:Bool:=len l>128
 let f:=cond (cond (cond (m<1) true (m>1048576)) true (n<0)) true (n>1048576)
 let a:=(m,n,k,f266 l 10,())
 let h:=(([]:List (List UInt8)),(0:Int),())
 (qK2 k/\(!d->AB (vP b) (Ro b) (sL9 b) j/\(qB b i->!e->!f->ZB l 10/\AB (UX a) (MG a) (uR4 a) h)),(cond d [] (cond c (sU3 b i) (cond e [] (cond f [] (sB9 a (A3 (UX a) (MG a) h))))),cond d g (cond c (sU4 b i) (cond e 3 (cond f 2 0))),()))
def qK6 a b c d:=(nO5 a b c d).1
def MH a b c d:=(nO5 a b c d).2
theorem mY3:SK 228 (FA Bn vS vI vI (.tup (.cons Dq (.cons vI .nl))) qK6 MH):=fb Tryz.func228 117 [kb oW4,kb mY,kb mY2] [(5,oI5),(16,pK0),(21,pK)] [(27,[(4,0,63,1012)]),(29,[(4,0,65,1013)]),(37,[(4,0,76,1015)]),(53,[(4,0,107,1012)]),(57,[(4,0,115,1012)]),(59,[(4,0,1012,0)])]
def qK7 (y:uA6)(x:CU):Vn CU:=
 let c:=y.1
 let d:=x.1
 let a:=x.2.1
 let e:Bool:=a<len c
 let b:=len (nth c a [])
 (e->A7 a (len c)/\A6 (d+b)/\A6 (a+1),e,(d+b,a+1,()))
def sM0 y x:=(qK7 y x).1
def Rp y x:=(qK7 y x).2.1
def Rq y x:=(qK7 y x).2.2
def sU5 (y:uA6)(x:CU):Int:=
 x.1
def oI6:=li [(0,Aj)] [(3,vI),(4,vI)] Rp Rq sM0 (λy x=>[ex 2 none [(3,vI)] ((sU5 y x),())]) [[(3,vI)]]
def lT5 (c:(List (List A0))):Prop×Int:=
 let a:=(c,())
 let b:=((0:Int),(0:Int),())
 (AB (Rp a) (Rq a) (sM0 a) b,sU5 a (A3 (Rp a) (Rq a) b))
def UY a:=(lT5 a).1
def FL a:=(lT5 a).2
theorem oW7:SK 231 (AU Aj vI UY FL):=fb Tryz.func231 19 [] [(3,oI6)]
abbrev uM:Type:=(Int×A8×(List (List UInt8))×(List (List A0))×Int×(List Int)×(List Int)×Int×(List (List A0))×Int×Unit)
def rK6 (y:uM)(x:CZ):Vn CZ:=
 let u:=y.1
 let e:=y.2.1
 let l:=y.2.2.2.2.1
 let m:=(Q3 y).1
 let n:=(Q0 y).1
 let b:=(Q5 y).1
 let c:=(Q4 y).1
 let o:=x.1
 let a:=x.2.1
 let q:Bool:=a<len (nth b c [])
 let r:=nth b c []
 let d:=nth r a A1
 let s:=nth m n 0
 let t:=s+d.1
 let f:=t*u
 let g:=l*e.2.2.1
 let h:=e.2.1+g
 let i:=h-d.2.1
 let j:=i*u
 let k:=([(AZ f e.1,AZ j e.1,())]:List A0)
 (A7 c (len b)/\(q->A7 c (len b)/\A7 a (len r)/\A7 n (len m)/\A6 (s+d.1)/\A6 (t*u)/\wH f e.1/\A6 (l*e.2.2.1)/\A6 (e.2.1+g)/\A6 (h-d.2.1)/\A6 (i*u)/\wH j e.1/\((length o+length k:Nat):Int)<=4294967296/\A6 (a+1)),q,(o++k,a+1,()))
def tS9 y x:=(rK6 y x).1
def L2 y x:=(rK6 y x).2.1
def L3 y x:=(rK6 y x).2.2
def sC (y:uM)(x:CZ):(List A0):=
 x.1
def rK7:List (Nat×Sh):=[(2,vI),(4,Ah),(10,Bv),(12,Ay),(13,vI),(14,Cl),(15,Cm),(16,vI),(17,Aj),(19,vI),(20,(.own AQ 1020 false))]
def pK1:=li [(2,vI),(4,Ah),(10,Bv),(12,Ay),(13,vI),(14,Cl),(15,Cm),(16,vI),(17,Aj),(19,vI)] [(20,(.own AQ 1020 false)),(21,vI)] L2 L3 tS9 (λy x=>[ex 8 none rK7 (y.1,y.2.1,y.2.2.1,y.2.2.2.1,y.2.2.2.2.1,(Q1 y).1,(Q3 y).1,(Q0 y).1,(Q5 y).1,(Q4 y).1,(sC y x),())]) [rK7]
abbrev uM0:Type:=(Int×A8×(List (List UInt8))×Int×(List Int)×(List Int)×Int×(List (List A0))×Unit)
def rK8 (y:uM0)(x:CL):Vn CL:=
 let e:=(Q0 y).1
 let d:=x.1
 let b:=x.2.1
 let f:Bool:=b<len e
 let a:=(y.1,y.2.1,y.2.2.1,d,y.2.2.2.1,y.2.2.2.2.1,(Q1 y).1,(Q3 y).1,e,b,())
 let g:=(([]:List A0),(0:Int),())
 let c:=([sC a (A3 (L2 a) (L3 a) g)]:List (List A0))
 (f->AB (L2 a) (L3 a) (tS9 a) g/\((length d+length c:Nat):Int)<=4294967296/\A6 (b+1),f,(d++c,b+1,()))
def uR5 y x:=(rK8 y x).1
def JD y x:=(rK8 y x).2.1
def JE y x:=(rK8 y x).2.2
def sC0 (y:uM0)(x:CL):(List (List A0)):=
 x.1
def rK9:List (Nat×Sh):=[(2,vI),(4,Ah),(10,Bv),(12,Ay),(13,vI),(14,Cl),(15,Cm),(16,vI)]
def pK2:=li [(2,vI),(4,Ah),(10,Bv),(13,vI),(14,Cl),(15,Cm),(16,vI),(17,Aj)] [(12,Ay),(19,vI)] JD JE uR5 (λy x=>[ex 6 none rK9 (y.1,y.2.1,y.2.2.1,(sC0 y x),y.2.2.2.1,y.2.2.2.2.1,(Q1 y).1,(Q3 y).1,())]) [rK9]
abbrev uM1:Type:=(Int×A8×(List (List UInt8))×Int×(List Int)×(List Int)×Unit)
def rL (y:uM1)(x:CL):Vn CL:=
 let h:=y.2.1
 let c:=y.2.2.2.2.1
 let a:=x.2.1
 let d:Bool:=a<len c
 let e:=nth c a 0
 let f:=nth h.2.2.2.1 e BG
 let b:=(y.1,h,y.2.2.1,y.2.2.2.1,c,(Q1 y).1,a,(DB f.2.2.1).1,())
 let g:=(x.1,(0:Int),())
 (d->A7 a (len c)/\A7 e (len h.2.2.2.1)/\Zm f.2.2.1/\AB (JD b) (JE b) (uR5 b) g/\A6 (a+1),d,(sC0 b (A3 (JD b) (JE b) g),a+1,()))
def tT y x:=(rL y x).1
def KG y x:=(rL y x).2.1
def KH y x:=(rL y x).2.2
def sC1 (y:uM1)(x:CL):(List (List A0)):=
 x.1
def rL0:List (Nat×Sh):=[(2,vI),(4,Ah),(10,Bv),(12,Ay),(13,vI)]
def pK3:=li [(2,vI),(4,Ah),(10,Bv),(13,vI),(14,Cl),(15,Cm)] [(12,Ay),(16,vI)] KG KH tT (λy x=>[ex 4 none rL0 (y.1,y.2.1,y.2.2.1,(sC1 y x),y.2.2.2.1,())]) [rL0]
abbrev tG2:Type:=(Int×A8×(List (List UInt8))×Unit)
def qK8 (y:tG2)(x:CL):Vn CL:=
 let e:=y.2.1
 let c:=y.2.2.1
 let a:=x.2.1
 let f:Bool:=a<len c
 let g:=nth c a []
 let d:=f229 e g
 let b:=(y.1,e,c,a,d,BS e d,())
 let h:=(x.1,(0:Int),())
 (f->A7 a (len c)/\qK4 e g/\ZF e d/\AB (KG b) (KH b) (tT b) h/\A6 (a+1),f,(sC1 b (A3 (KG b) (KH b) h),a+1,()))
def sM2 y x:=(qK8 y x).1
def L4 y x:=(qK8 y x).2.1
def L5 y x:=(qK8 y x).2.2
def sU6 (y:tG2)(x:CL):(List (List A0)):=
 x.1
def qB2:List (Nat×Sh):=[(12,Ay)]
def oI7:=li [(2,vI),(4,Ah),(10,Bv)] [(12,Ay),(13,vI)] L4 L5 sM2 (λy x=>[ex 2 none qB2 ((sU6 y x),())]) [qB2]
def ZG (g:A8)(h:List UInt8)(i j:Int):Prop×((List (List A0))×Int×Unit):=
 let c:=MH g h i j
 let d:=c.2.1 !=0
 let e:=(i,g,c.1,())
 let f:=(([]:List (List A0)),(0:Int),())
 let a:=sU6 e (A3 (L4 e) (L5 e) f)
 let b:Bool:=FL a>4096
 (qK6 g h i j/\(!d->AB (L4 e) (L5 e) (sM2 e) f/\UY a),(cond d [] (cond b [] a),cond d c.2.1 (cond b 3 0),()))
def O9 a b c d:=(ZG a b c d).1
def G9 a b c d:=(ZG a b c d).2
def oW9:=FA Bn vS vI vI (.tup (.cons At (.cons vI .nl))) O9 G9
theorem mY4:SK 193 (FA Bn vS vI vI (.tup (.cons At (.cons vI .nl))) O9 G9):=fb Tryz.func193 131 [kb ID,kb oV7,kb mY3,kb oW5,kb oW6,kb oW7] [(6,oI7),(11,pK3),(15,pK2),(19,pK1)] [(3,[(4,0,28,1010)]),(9,[(4,0,34,1012)]),(17,[(4,0,46,1014)]),(19,[(4,0,49,1015)]),(35,[(4,0,75,1020)]),(45,[(4,0,122,1020)]),(47,[(4,0,126,1012)]),(53,[(4,0,1012,0)])]
def mY5 :Prop×(List UInt8):=
 (True,wD0)
def ZH :Prop:=(mY5).1
def Rr :List UInt8:=(mY5).2
instance:Decidable ZH:=by unfold ZH mY5;dsimp only;infer_instance
def oX:Am.Spec:=fnSpec [] vS [] (λx=>ZH ) (λx=>Rr ) (λ_=>())
theorem mY6:SK 270 (fnSpec [] vS [] (λx=>ZH ) (λx=>Rr ) (λ_=>())):=fb Tryz.func270 1
def mY7 (c:Int):Prop×Int:=
 let b:Bool:=c<=57
 let a:=wrap .i64 (wrap .u8 (c-97))
 (!b->A6 (a+10),cond b (wrap .i64 (wrap .u8 (c-48))) (a+10))
def UZ a:=(mY7 a).1
def MI a:=(mY7 a).2
instance (a):Decidable (UZ a):=by unfold UZ mY7;dsimp only;infer_instance
def oX0:=AU Bb vI UZ MI
theorem mY8:SK 271 (AU Bb vI UZ MI):=fb Tryz.func271 12
def mY9 (a b c:Int):Prop×A9:=
 (True,(a,([(b,c,()),A1,A1]:List A0),()))
def OA a b c:=(mY9 a b c).1
def IK a b c:=(mY9 a b c).2
instance (a b c):Decidable (OA a b c):=by unfold OA mY9;dsimp only;infer_instance
def oX1:=DU vI vI vI Dd OA IK
theorem mZ:SK 272 (DU vI vI vI Dd OA IK):=fb Tryz.func272 13
abbrev OB:Type:=(Int×(List UInt8)×(List A9)×Int×Int×Int×Unit)
def sC2 (y:OB)(x:AD):Vn AD:=
 let c:=x.1
 let a:=c+1
 let b:=F5 .i64 (EW y.2.2.2.2.1 a 64) 1==1
 (A6 (c+1)/\0<=a/\(b->A6 (c+1)),b,(c+1,()))
def uR6 y x:=(sC2 y x).1
def sM4 y x:=(sC2 y x).2.1
def uR7 y x:=(sC2 y x).2.2
instance (y x):Decidable (uR6 y x):=by unfold uR6 sC2;dsimp only;infer_instance
def sC3 (y:OB)(x:AD):Int:=
 x.1
def rL2:List (Nat×Sh):=[(0,vI),(3,vS),(4,Bw),(5,vI),(6,vI),(7,vI),(8,vI)]
def sC4:St->Option Out:=Iu [(0,vI),(3,vS),(4,Bw),(5,vI),(6,vI),(7,vI)] [(8,vI)] sM4 uR7 uR6 λy x=>[ex 6 none rL2 (y.1,y.2.1,y.2.2.1,y.2.2.2.1,y.2.2.2.2.1,(Q1 y).1,(sC3 y x),())]
def sZ (y:HZ)(x:OB):Vn OB:=
 let J:=x.1
 let K:=x.2.1
 let H:=x.2.2.1
 let f:=x.2.2.2.1
 let i:=x.2.2.2.2.1
 let d:=(Q1 x).1
 let j:Bool:=d<7
 let k:=F5 .i64 (EW i d 64) 1==0
 let h:Bool:=d>0
 let g:=!k
 let l:=d-1
 let b:=cond k true (cond h (F5 .i64 (EW i l 64) 1==1) false)
 let e:=(J,K,H,f,i,d,())
 let F:=(d,())
 let a:=sC3 e (A3 (sM4 e) (uR7 e) F)
 let m:=100*f
 let n:=100*d
 let o:=700-n
 let q:=100*f
 let r:=q+100
 let s:=100*d
 let t:=700-s
 let u:=100*f
 let v:=u+100
 let w:=100*a
 let z:=600-w
 let A:=100*f
 let B:=100*a
 let C:=600-B
 let E:=([IK 1 m o,IK 2 r t,IK 2 v z,IK 2 A C,((5:Int),List.replicate 3 A1,())]:List A9)
 let c:=b||(!b)
 let L:=cond b d d
 (j->0<=d/\((g&&h)->A6 (d-1))/\((g&&h)->0<=l)/\(!b->AB (sM4 e) (uR7 e) (uR6 e) F/\A6 (100*f)/\A6 (100*d)/\A6 (700-n)/\OA 1 m o/\A6 (100*f)/\A6 (q+100)/\A6 (100*d)/\A6 (700-s)/\OA 2 r t/\A6 (100*f)/\A6 (u+100)/\A6 (100*a)/\A6 (600-w)/\OA 2 v z/\A6 (100*f)/\A6 (100*a)/\A6 (600-B)/\OA 2 A C/\((length H+length E:Nat):Int)<=4294967296)/\(c->A6 (L+1)),j&&c,(cond b J J,cond b K K,cond b H (H++E),cond b f f,cond b i i,L+1,()))
def tM5 y x:=(sZ y x).1
def rL3 y x:=(sZ y x).2.1
def tG5 y x:=(sZ y x).2.2
instance (y x):Decidable (tM5 y x):=by unfold tM5 sZ;dsimp only;infer_instance
def sU7 (y:HZ)(x:OB):Int:=
 x.1
def sU8 (y:HZ)(x:OB):(List UInt8):=
 x.2.1
def sU9 (y:HZ)(x:OB):(List A9):=
 x.2.2.1
def sV (y:HZ)(x:OB):Int:=
 x.2.2.2.1
def qB3:List (Nat×Sh):=[(0,vI),(3,vS),(4,Bw),(5,vI)]
def sV0:St->Option Out:=Iu [] [(0,vI),(3,vS),(4,Bw),(5,vI),(6,vI),(7,vI)] rL3 tG5 tM5 λy x=>[ex 4 none qB3 ((sU7 y x),(sU8 y x),(sU9 y x),(sV y x),())]
abbrev uC6:Type:=(Int×(List UInt8)×(List A9)×Int×Unit)
def sZ0 (y:HZ)(x:uC6):Vn uC6:=
 let c:=x.1
 let d:=x.2.1
 let b:=x.2.2.2.1
 let e:Bool:=b<5
 let f:=10*c
 let g:=2*b
 let h:=f+g
 let i:=wD d h
 let j:=MI i
 let k:=16*j
 let l:=10*c
 let m:=2*b
 let n:=l+m
 let o:=n+1
 let q:=wD d o
 let r:=MI q
 let t:=(c,d,x.2.2.1,b,k+r,(0:Int),())
 let s:=A3 (rL3 ()) (tG5 ()) t
 let a:=sV () s
 (e->A6 (10*c)/\A6 (2*b)/\A6 (f+g)/\A7 h (len d)/\UZ i/\A6 (16*j)/\A6 (10*c)/\A6 (2*b)/\A6 (l+m)/\A6 (n+1)/\A7 o (len d)/\UZ q/\A6 (k+r)/\AB (rL3 ()) (tG5 ()) (tM5 ()) t/\A6 (a+1),e,(sU7 () s,sU8 () s,sU9 () s,a+1,()))
def tM6 y x:=(sZ0 y x).1
def rL4 y x:=(sZ0 y x).2.1
def tG7 y x:=(sZ0 y x).2.2
instance (y x):Decidable (tM6 y x):=by unfold tM6 sZ0;dsimp only;infer_instance
def sV1 (y:HZ)(x:uC6):(List A9):=
 x.2.2.1
def sV2:St->Option Out:=Iu [] [(0,vI),(3,vS),(4,Bw),(5,vI)] rL4 tG7 tM6 λy x=>[ex 2 none [(4,Bw)] ((sV1 y x),())]
def mZ0 (b:Int):Prop×(List A9):=
 let a:=(b,Rr,([]:List A9),(0:Int),())
 (ZH/\AB (rL4 ()) (tG7 ()) (tM6 ()) a,sV1 () (A3 (rL4 ()) (tG7 ()) a))
def qK9 a:=(mZ0 a).1
def f232 a:=(mZ0 a).2
instance (a):Decidable (qK9 a):=by unfold qK9 mZ0;dsimp only;infer_instance
def oX2:=AU vI Bj qK9 f232
def sZ1:=Cy [(270,oX),(271,oX0),(272,oX1)] [(12,sC4),(8,sV0),(4,sV2)] [(5,[(4,0,10,1004)]),(29,[(4,0,93,1004)]),(31,[(4,0,1004,0)])] 95
theorem sZ2:CtxOk Tryz.prog sZ1:=cq ⟨mY6,mY8,mZ,trivial⟩
noncomputable def oX3:Code:=Tryz.f232.body.getD .skip
noncomputable def pK4:Code:=SN oX3 0
noncomputable def pK5:Code:=SN pK4 0
noncomputable def pQ2:Code:=SN pK5 0
theorem pK6:yY Tryz.prog sZ1 pQ2:=lq sZ2 (sp:=sC4) rfl [rL2]
theorem oI8:yY Tryz.prog sZ1 pK5:=lm sZ2 (sp:=sV0) rfl [qB3] (bs:=[pQ2]) ⟨pK6,trivial⟩
theorem oI9:yY Tryz.prog sZ1 pK4:=lm sZ2 (sp:=sV2) rfl [[(4,Bw)]] (bs:=[pK5]) ⟨oI8,trivial⟩
theorem mZ1:SK 232 oX2:=fl sZ2 Tryz.func232 (bs:=[pK4]) ⟨oI9,trivial⟩
def sZ3 (y:HZ)(x:vN):Vn vN:=
 let c:=x.1
 let b:=x.2.1
 let a:=x.2.2.1
 let d:Bool:=a<95
 let e:=([(wrap .u8 (32+a),(600:Int),f232 a,())]:List C5)
 (d->A6 (32+a)/\qK9 a/\((length b.2.2.2.1+length e:Nat):Int)<=4294967296/\A6 (a+1),d,(c,(b.1,b.2.1,b.2.2.1,b.2.2.2.1++e,b.2.2.2.2.1,()),a+1,()))
def tM7 y x:=(sZ3 y x).1
def rL5 y x:=(sZ3 y x).2.1
def tG8 y x:=(sZ3 y x).2.2
instance (y x):Decidable (tM7 y x):=by unfold tM7 sZ3;dsimp only;infer_instance
def qT8 (y:HZ)(x:vN):(Int×Int×Int×(List C5)×(List DG)×Unit):=
 let a:=x.1
 a
def sV3 (y:HZ)(x:vN):(Int×Int×Int×(List C5)×(List DG)×Unit):=
 let a:=x.2.1
 a
def qB4:List (Nat×Sh):=[(0,Ae),(1,Af)]
def oJ:=li [] [(0,Ae),(1,Af),(2,vI)] rL5 tG8 tM7 (λy x=>[ex 2 none qB4 ((qT8 y x),(sV3 y x),())]) [qB4]
def mZ2 :Prop×A8:=
 let b:=((1000:Int),(800:Int),(1200:Int),([]:List C5),([((65:Int),(86:Int),(-100:Int),()),((76:Int),(84:Int),(-100:Int),()),((84:Int),(97:Int),(-100:Int),()),((86:Int),(65:Int),(-100:Int),())]:List DG),())
 let c:=(((0:Int),(0:Int),(0:Int),([]:List C5),([]:List DG),()),b,(0:Int),())
 let a:=sV3 () (A3 (rL5 ()) (tG8 ()) c)
 (AB (rL5 ()) (tG8 ()) (tM7 ()) c,a)
def Vh :Prop:=(mZ2).1
def H9 :A8:=(mZ2).2
instance:Decidable Vh:=by unfold Vh mZ2;dsimp only;infer_instance
theorem mZ3:SK 194 (fnSpec [] Bn [] (λx=>Vh ) (λx=>H9 ) (λ_=>())):=fb Tryz.func194 25 [kb mZ1] [(3,oJ)] [(3,[(4,0,7,400101)]),(11,[(4,0,22,400100)]),(13,[(4,0,400100,400000),(4,0,400101,400001)])]
def ZI (y:PU)(x:CZ):Vm CZ:=
 let e:=y.1
 let o:=y.2.1
 let f:=y.2.2.2.1
 let q:=x.1
 let a:=x.2.1
 let c:Bool:=a<len (nth e f [])
 let g:=nth e f []
 let h:=nth g a A1
 let b:=!(DY h)
 let i:=nth e f []
 let j:=nth i a A1
 let k:=DR o j
 let d:=cond b true (!(DY k))
 let l:=nth e f []
 let m:=nth l a A1
 let n:=([DR o m]:List A0)
 (A7 f (len e)/\(c->A7 f (len e)/\A7 a (len g)/\Za h/\(!b->A7 f (len e))/\(!b->A7 a (len i))/\(!b->rJ o j)/\(!b->Za k)/\(!d->A7 f (len e)/\A7 a (len l)/\rJ o m/\((length q+length n:Nat):Int)<=4294967296)/\(!d->A6 (a+1))),c&&(!d),(q++n,a+1,()),c&&d,!c)
def uR8 y x:=(ZI y x).1
def HA y x:=(ZI y x).2.1
def HD y x:=(ZI y x).2.2.1
def uR9 y x:=(ZI y x).2.2.2.1
def uS y x:=(ZI y x).2.2.2.2
def sC5 (y:PU)(x:CZ):(List (List A0)):=
 []
def sC6 (y:PU)(x:CZ):Int:=
 2
def rL6:List (Nat×Sh):=[(4,At),(5,vI)]
def sC7 (y:PU)(x:CZ):(List A0):=
 x.1
def rL7:List (Nat×Sh):=[(0,Aj),(3,Bp),(7,Cu),(8,vI),(9,(.own AQ 1009 false))]
def pK7:=li [(0,Aj),(3,Bp),(7,Cu),(8,vI)] [(9,(.own AQ 1009 false)),(10,vI)] HA HD uR8 (λy x=>[ex 1 (some (uR9 y x)) rL6 ((sC5 y x),(sC6 y x),()),ex 4 (some (uS y x)) rL7 (y.1,y.2.1,y.2.2.1,y.2.2.2.1,(sC7 y x),())]) [rL6,rL7]
abbrev vF7:Type:=((List (List A0))×C3×Unit)
def ZJ (y:vF7)(x:CL):Vm CL:=
 let i:=y.1
 let h:=x.1
 let g:=x.2.1
 let c:Bool:=g<len i
 let a:=(i,y.2.1,h,g,())
 let f:=(([]:List A0),(0:Int),())
 let d:=A3 (HA a) (HD a) f
 let b:=uS a d
 let e:=([sC7 a d]:List (List A0))
 (c->AB (HA a) (HD a) (uR8 a) f/\(b->((length h+length e:Nat):Int)<=4294967296)/\(b->A6 (g+1)),c&&b,(h++e,g+1,()),c&&uR9 a d,!c)
def sM6 y x:=(ZJ y x).1
def OC y x:=(ZJ y x).2.1
def OD y x:=(ZJ y x).2.2.1
def ZK y x:=(ZJ y x).2.2.2.1
def oJ0 y x:=(ZJ y x).2.2.2.2
def sV4 (y:vF7)(x:CL):(List (List A0)):=
 let a:=(y.1,y.2.1,x.1,x.2.1,())
 (sC5 a (A3 (HA a) (HD a) ([],0,())))
def sV5 (y:vF7)(x:CL):Int:=
 let a:=(y.1,y.2.1,x.1,x.2.1,())
 (sC6 a (A3 (HA a) (HD a) ([],0,())))
def qB5:List (Nat×Sh):=[(4,At),(5,vI)]
def sV6 (y:vF7)(x:CL):(List (List A0)):=
 x.1
def qB6:List (Nat×Sh):=[(7,Cu)]
def oJ1:=li [(0,Aj),(3,Bp)] [(7,Cu),(8,vI)] OC OD sM6 (λy x=>[ex 1 (some (ZK y x)) qB5 ((sV4 y x),(sV5 y x),()),ex 2 (some (oJ0 y x)) qB6 ((sV6 y x),())]) [qB5,qB6]
def lT6 (h:(List (List A0)))(i:C3):Prop×((List (List A0))×Int×Unit):=
 let e:=DX i
 let c:=e !=0
 let d:Bool:=FL h>4096
 let a:=(h,i,())
 let g:=(([]:List (List A0)),(0:Int),())
 let f:=A3 (OC a) (OD a) g
 let b:=ZK a f
 (Oy i/\(!c->UY h/\(!d->AB (OC a) (OD a) (sM6 a) g)),(cond c [] (cond d [] (cond b (sV4 a f) (sV6 a f))),cond c e (cond d 3 (cond b (sV5 a f) 0)),()))
def qL a b:=(lT6 a b).1
def f195 a b:=(lT6 a b).2
def oX4:=BF Aj Az (.tup (.cons Aj (.cons vI .nl))) qL f195
theorem mZ4:SK 195 (BF Aj Az (.tup (.cons Aj (.cons vI .nl))) qL f195):=fb Tryz.func195 75 [kb qI5,kb oV5,kb pI2,kb oW7] [(8,oJ1),(12,pK7)] [(13,[(4,0,19,1007)]),(21,[(4,0,26,1009)]),(33,[(4,0,69,1009)]),(35,[(4,0,73,1007)]),(37,[(4,0,1007,0)])]
def pQ3 (k:A8)(g:AJ):Prop×Int:=
 let a:=G9 k (Qk g).1 (Ql g).1 (Qm g).1
 let c:=a.2.1 !=0
 let b:=f195 a.1 (Q2 g).1
 let d:=b.2.1 !=0
 let e:=Ev b.1 0
 let f:=e !=0
 (Vh/\O9 k (Qk g).1 (Ql g).1 (Qm g).1/\(!c->qL a.1 (Q2 g).1/\(!d->O3 b.1 0/\(!f->Oz (Q9 g).1))),cond c a.2.1 (cond d b.2.1 (cond f e (G3 (Q9 g).1))))
def mZ5 (a:AJ):Prop×Int:=pQ3 H9 a
def qL0 a:=(mZ5 a).1
def f158 a:=(mZ5 a).2
def oX5:Am.Spec:=fnSpec [(0,Aw)] vI [] (λx=>qL0 x.1) (λx=>f158 x.1) (λ_=>())
def pQ4 (k:A8):Ctx:=Cx tys [(155,oV2),(190,oV8),(193,oW9),(194,fnSpec [] Bn [] (λ_=>Vh) (λ_=>k) (λ_=>())),(195,oX4)] [] [(3,[(4,0,15,1003)])] false 39 [] []
theorem nO6:CtxOk Tryz.prog (pQ4 H9):=cq ⟨pI,pI9,mY4,mZ3,mZ4,trivial⟩
theorem nO7:∀(k:A8) x,Iv (pQ4 k) (Tryz.f158.body.getD .skip) Tryz.f158.results.toList [(0,Aw)] vI [] x=some ((pQ3 k x.1).1,(pQ3 k x.1).2,()):=λk x=>by kernel_rfl
theorem mZ6:SpecOk Tryz.prog 158 oX5:=WK nO6 mixed Tryz.func158 (by kernel_rfl) (bs:=[]) (by kernel_rfl) trivial (nO7 H9)
def mZ7 (c:Int):Prop×(Int×Int×Unit):=
 let a:=([(0:Int),(0:Int),(5:Int),(4:Int),(2:Int),(3:Int),(1:Int),(1:Int),(9:Int),(3:Int),(0:Int),(2:Int)]:List Int)
 let b:=c==3
 (!b->A7 c (len a)/\A7 c (len a),(cond b 4 (nth a c 0),cond b 16 (nth a c 0),()))
def ZL a:=(mZ7 a).1
def GA a:=(mZ7 a).2
theorem mZ8:SK 196 (AU vI (.tup (.cons vI (.cons vI .nl))) ZL GA):=fb Tryz.func196 16 [] [] [(3,[(4,0,5,1004)])]
def mZ9 (i j:Int):Prop×(Int×Int×Unit):=
 let c:=cond (i==2) (j==2) false
 let d:=cond (cond (i==4) true (cond (i==5) (decide (j>0)) false)) true (cond (i==11) (j==1) false)
 let e:=i==5
 let f:=i==7
 let g:=i==8
 let h:=i==11
 let a:=cond c 1 (cond d (-65535:Int) (cond e (-32768:Int) (cond f 2 (cond g (-262140:Int) (cond h (-128:Int) 0)))))
 let b:=cond c (256:Int) (cond d 65535 (cond e 32768 (cond f 256 (cond g 262140 (cond h 128 65535)))))
 (True,(a,b,()))
def oX6 a b:=(mZ9 a b).1
def MJ a b:=(mZ9 a b).2
theorem lA:SK 197 (BF vI vI (.tup (.cons vI (.cons vI .nl))) oX6 MJ):=fb Tryz.func197 38
abbrev Vi:Type:=(Int×(List Int)×(List B0)×Unit)
def Rs (y:Vi)(x:AD):Vm AD:=
 let g:=y.1
 let d:=y.2.1
 let a:=x.1
 let b:Bool:=a<len d
 let e:=MJ g a
 let f:Bool:=nth d a 0<e.1
 let c:=cond f true (nth d a 0>e.2.1)
 (b->oX6 g a/\A7 a (len d)/\(!f->A7 a (len d))/\(!c->A6 (a+1)),b&&(!c),(a+1,()),b&&c,!b)
def sM7 y x:=(Rs y x).1
def OE y x:=(Rs y x).2.1
def Rt y x:=(Rs y x).2.2.1
def ZM y x:=(Rs y x).2.2.2.1
def sM8 y x:=(Rs y x).2.2.2.2
def sV7 (y:Vi)(x:AD):Int:=
 2
def qB7:List (Nat×Sh):=[(0,vI),(1,Ak),(2,Ao)]
def oJ2:=li [(0,vI),(1,Ak),(2,Ao)] [(9,vI)] OE Rt sM7 (λy x=>[ex 1 (some (ZM y x)) [(6,vI)] ((sV7 y x),()),ex 2 (some (sM8 y x)) qB7 (y.1,y.2.1,y.2.2.1,())]) [[(6,vI)],qB7]
def Ru (y:Vi)(x:AD):Vm AD:=
 let g:=y.2.2.1
 let a:=x.1
 let b:Bool:=a<len g
 let e:Bool:=(nth g a CG).1<0
 let c:=cond e true ((nth g a CG).1>65535)
 let f:=nth g a CG
 let d:=cond c true (!(Gz f.2.1))
 (b->A7 a (len g)/\(!e->A7 a (len g))/\(!c->A7 a (len g))/\(!c->U7 f.2.1)/\(!d->A6 (a+1)),b&&(!d),(a+1,()),b&&d,!b)
def tT0 y x:=(Ru y x).1
def Rv y x:=(Ru y x).2.1
def Vj y x:=(Ru y x).2.2.1
def ZN y x:=(Ru y x).2.2.2.1
def rL9 y x:=(Ru y x).2.2.2.2
def sC9 (y:Vi)(x:AD):Int:=
 2
def rM:List (Nat×Sh):=[(0,vI),(1,Ak),(2,Ao)]
def pK8:=li [(0,vI),(1,Ak),(2,Ao)] [(12,vI)] Rv Vj tT0 (λy x=>[ex 1 (some (ZN y x)) [(6,vI)] ((sC9 y x),()),ex 4 (some (rL9 y x)) rM (y.1,y.2.1,y.2.2.1,())]) [[(6,vI)],rM]
def MK (y:Vi)(x:AD):Vm AD:=
 let e:=y.2.1
 let a:=x.1
 let b:=cond (y.1==3) (decide (a<len e)) false
 let d:=a-2
 let c:Bool:=nth e a 0<=nth e d 0
 (b->A7 a (len e)/\A6 (a-2)/\A7 d (len e)/\(!c->A6 (a+2)),b&&(!c),(a+2,()),b&&c,!b)
def uS1 y x:=(MK y x).1
def L6 y x:=(MK y x).2.1
def Rw y x:=(MK y x).2.2.1
def Vk y x:=(MK y x).2.2.2.1
def rM0 y x:=(MK y x).2.2.2.2
def sD (y:Vi)(x:AD):Int:=
 24
def pK9:=li [(0,vI),(1,Ak),(2,Ao)] [(13,vI)] L6 Rw uS1 (λy x=>[ex 1 (some (Vk y x)) [(6,vI)] ((sD y x),()),ex 6 (some (rM0 y x)) [(2,Ao)] (y.2.2.1,())]) [[(6,vI)],[(2,Ao)]]
def tH (y:vH9)(x:AD):Vm AD:=
 let e:=y.1
 let a:=x.1
 let b:Bool:=a<len e
 let d:=a-1
 let c:Bool:=(nth e a CG).1<=(nth e d CG).1
 (b->A7 a (len e)/\A6 (a-1)/\A7 d (len e)/\(!c->A6 (a+1)),b&&(!c),(a+1,()),b&&c,!b)
def tT1 y x:=(tH y x).1
def Vl y x:=(tH y x).2.1
def Vo y x:=(tH y x).2.2.1
def uS2 y x:=(tH y x).2.2.2.1
def pL y x:=(tH y x).2.2.2.2
def sD0 (y:vH9)(x:AD):Int:=
 24
def pL0:=li [(2,Ao)] [(14,vI)] Vl Vo tT1 (λy x=>[ex 1 (some (uS2 y x)) [(6,vI)] ((sD0 y x),()),ex 8 (some (pL y x)) [] ()]) [[(6,vI)],[]]
def nO8 (p:Int)(A:List Int)(B:List B0):Prop×Int:=
 let l:=cond (p<1) true (p>11)
 let m:=GA p
 let n:=cond (cond (cond (len A<m.1) true (len A>m.2.1)) true (cond (p==3) (Int.tmod (len A) 2==1) false)) true (!(Ty.eqb .bool (decide (len B>0)) (p==10)))
 let o:Bool:=len B>16
 let g:=(p,A,B,())
 let z:=((0:Int),())
 let w:=A3 (OE g) (Rt g) z
 let q:=p==9
 let r:=cond q (nth A 0 0==0) false
 let s:=cond r (nth A 1 0==0) false
 let e:=cond s (nth A 2 0==0) false
 let a:=(p,A,B,())
 let t:=((0:Int),())
 let h:=A3 (Rv a) (Vj a) t
 let d:=p==2
 let f:=cond d (decide (nth A 1 0<=nth A 0 0)) false
 let b:=(p,A,B,())
 let u:=((2:Int),())
 let i:=A3 (L6 b) (Rw b) u
 let c:=(B,())
 let v:=((1:Int),())
 let j:=A3 (Vl c) (Vo c) v
 let k:=cond (ZN a h) (sC9 a h) (cond f 24 (cond (Vk b i) (sD b i) (cond (uS2 c j) (sD0 c j) 0)))
 (!l->ZL p/\(!n->!o->AB (OE g) (Rt g) (sM7 g) z/\(sM8 g w->(q->A7 0 (len A))/\(r->A7 1 (len A))/\(s->A7 2 (len A))/\(!e->AB (Rv a) (Vj a) (tT0 a) t/\(rL9 a h->(d->A7 1 (len A))/\(d->A7 0 (len A))/\(!f->AB (L6 b) (Rw b) (uS1 b) u/\(rM0 b i->AB (Vl c) (Vo c) (tT1 c) v)))))),cond l 8 (cond n 1 (cond o 3 (cond (ZM g w) (sV7 g w) (cond e 2 k)))))
def pL1 a b c:=(nO8 a b c).1
def HE a b c:=(nO8 a b c).2
theorem lA0:SK 159 (DU vI Ak Ao vI pL1 HE):=fb Tryz.func159 181 [kb qI6,kb mZ8,kb lA] [(9,oJ2),(17,pK8),(24,pK9),(29,pL0)]
def lT7 (a b c:Int):Prop×Bool:=
 (True,cond (a≥b) (decide (a<=c)) false)
def L7 a b c:=(lT7 a b c).1
def DJ a b c:=(lT7 a b c).2
theorem lA1:SK 198 (DU vI vI vI vB L7 DJ):=fb Tryz.func198 15
def lT8 (d:Int):Prop×Int:=
 let b:=d==5
 let a:=cond b b (d==6)
 let c:=d==3
 (True,cond (cond a true (cond c c (d==9))) (cond a (0:Int) 2) 1)
def oX7 a:=(lT8 a).1
def f199 a:=(lT8 a).2
theorem lA2:SK 199 (AU vI vI oX7 f199):=fb Tryz.func199 10
def lA3 (p:Int)(z:List Int):Prop×Int:=
 let w:=!(DJ p 1 10)
 let j:=len z !=f199 p
 let k:=p==1
 let l:=p==7
 let a:=cond k k (cond l l (p==8))
 let m:=nth z 0 0
 let b:=p==2
 let n:=nth z 0 0
 let c:=p==4
 let o:=nth z 0 0
 let d:=p==3
 let q:=nth z 0 0
 let e:=DJ q 0 16
 let r:=nth z 1 0
 let f:=p==9
 let s:=nth z 0 0
 let g:=DJ s (-16:Int) 16
 let t:=nth z 1 0
 let u:=p==10
 let v:=nth z 0 0
 let i:=cond d (cond e (DJ r 0 262140) false) (cond f (cond g (DJ t (-16:Int) 16) false) (cond u (DJ v 1 16) true))
 let h:=cond j (1:Int) (cond (!(cond a (DJ m 0 16) (cond b (DJ n 0 7) (cond c (DJ o 0 4) i)))) 2 0)
 (L7 p 1 10/\(!w->oX7 p/\(!j->(a->A7 0 (len z)/\L7 m 0 16)/\(a=false->(b->A7 0 (len z)/\L7 n 0 7)/\(b=false->(c->A7 0 (len z)/\L7 o 0 4)/\(c=false->(d->A7 0 (len z)/\L7 q 0 16/\(e->A7 1 (len z))/\(e->L7 r 0 262140))/\(d=false->(f->A7 0 (len z)/\L7 s (-16:Int) 16/\(g->A7 1 (len z))/\(g->L7 t (-16:Int) 16))/\(f=false->u->A7 0 (len z)/\L7 v 1 16))))))),cond w 8 h)
def pL2 a b:=(lA3 a b).1
def EK a b:=(lA3 a b).2
theorem lA4:SK 160 (BF vI Ak vI pL2 EK):=fb Tryz.func160 67 [kb lA1,kb lA2]
abbrev uD:Type:=(Iw×Int×Unit)
def ZO (y:uD)(x:AD):Vm AD:=
 let c:=y.1
 let a:=x.1
 let b:Bool:=a<y.2.1
 let e:Bool:=(nth c.2.2.2.1 a A1).1<(-1048576)
 let f:=cond e true ((nth c.2.2.2.1 a A1).1>1048576)
 let g:=cond f true ((nth c.2.2.2.1 a A1).2.1<(-1048576))
 let d:=cond g true ((nth c.2.2.2.1 a A1).2.1>1048576)
 (b->A7 a (len c.2.2.2.1)/\(!e->A7 a (len c.2.2.2.1))/\(!f->A7 a (len c.2.2.2.1))/\(!g->A7 a (len c.2.2.2.1))/\(!d->A6 (a+1)),b&&(!d),(a+1,()),b&&d,!b)
def sM9 y x:=(ZO y x).1
def ZP y x:=(ZO y x).2.1
def ZQ y x:=(ZO y x).2.2.1
def sN y x:=(ZO y x).2.2.2.1
def oJ3 y x:=(ZO y x).2.2.2.2
def sV8 (y:uD)(x:AD):Int:=
 2
def oJ4:=li [(1,(.box SS Da)),(45,vI)] [(46,vI)] ZP ZQ sM9 (λy x=>[ex 1 (some (sN y x)) [(2,vI)] ((sV8 y x),()),ex 2 (some (oJ3 y x)) [] ()]) [[(2,vI)],[]]
def lT9 (f:Iw):Prop×Int:=
 let b:=cond (cond (cond (cond (cond (f.1<2) true (f.1>8)) true (f.2.1<2)) true (f.2.1>8)) true (f.2.2.1<1)) true (f.2.2.1>256)
 let c:=cond b true (len f.2.2.2.1!=(f.1*f.2.1))
 let a:=(f,len f.2.2.2.1,())
 let e:=((0:Int),())
 let d:=A3 (ZP a) (ZQ a) e
 ((!b->A6 (f.1*f.2.1))/\(!c->AB (ZP a) (ZQ a) (sM9 a) e),cond c 15 (cond (sN a d) (sV8 a d) 0))
def qL1 a:=(lT9 a).1
def KI a:=(lT9 a).2
theorem lA5:SK 161 (AU Da vI qL1 KI):=fb Tryz.func161 84 [] [(4,oJ4)]
def lA6 (o:AJ):Prop×Int:=
 let m:=o.2.1==2
 let b:=o.2.1==3
 let c:=o.2.1==4
 let d:=o.2.1==5
 let e:=o.2.1==6
 let f:=o.2.1==7
 let g:=o.2.1==8
 let k:=o.2.1==9
 let a:=cond k k (o.2.1==10)
 let l:=o.2.1==11
 let h:=cond f (HE (Qb o).1 (Qa o).1 (Qd o).1) (cond g (EK (Qb o).1 (Qa o).1) (cond a 2 (KI (Qj o).1)))
 let n:=cond d true (cond e true (cond f true (cond g true (cond a (!(Fi (Qh o).1 1 1073741824)) l))))
 let i:=cond c (M8 (Qb o).1 (Qa o).1 (Qe o).1 (Qd o).1) (cond d (f157 o) (cond e (f158 o) h))
 let j:=cond (cond m true (cond b true (cond c true n))) (cond m (Ly (Q6 o).1) (cond b (G3 (Q9 o).1) i)) 0
 ((m->U8 (Q6 o).1)/\(m=false->(b->Oz (Q9 o).1)/\(b=false->(c->pI1 (Qb o).1 (Qa o).1 (Qe o).1 (Qd o).1)/\(c=false->(d->pJ4 o)/\(d=false->(e->qL0 o)/\(e=false->(f->pL1 (Qb o).1 (Qa o).1 (Qd o).1)/\(f=false->(g->pL2 (Qb o).1 (Qa o).1)/\(g=false->(a->tD (Qh o).1 1 1073741824)/\(a=false->l->qL1 (Qj o).1)))))))),j)
def pL3 a:=(lA6 a).1
def IL a:=(lA6 a).2
theorem lA7:SK 121 (AU Aw vI pL3 IL):=fb Tryz.func121 62 [kb nZ9,kb oT7,kb pI,kb mV0,kb mX8,kb mZ6,kb lA0,kb lA4,kb lA5]
def lU (p:AJ):Prop×AJ:=
 let q:=((0:Int),(0:Int),([]:List Int),())
 let d:=((0:Int),(0:Int),(0:Int),([]:List UInt8),false,false,false,(0:Int),(0:Int),q,(Q2 p))
 let e:=((0:Int),(0:Int),(0:Int),([]:List UInt8),false,false,false,(0:Int),(0:Int),q,((0:Int),(0:Int),(0:Int),(0:Int),(0:Int),(0:Int),()),(Q7 p))
 let b:=cond (H0 p.2.1) e d
 let f:=(Vb b 0 (Q6 b))
 let a:=cond (H4 p.2.1) f b
 let g:=(Vc a (0,0,[],()) (Q9 a))
 let h:=(Vd a (0,0,0,0,()) (Qb a))
 let i:=(Ve a 0 ([],0,[],(Q8 a)))
 let j:=(Vd a (0,0,0,0,()) ((Qb a).1,(Qa a).1,(Qe a).1,(Qd a).1,[],0,0,0,0,(Qk a)))
 let k:=(Vd a (0,0,0,0,()) ((Qb a).1,(Qa a).1,(Qe a).1,(Qd a).1,(Q8 a).1,(Qi a).1,(Qc a).1,(Qf a).1,(Qg a).1,[],0,0,(Qh a)))
 let l:=(Ve a 0 ([],(Qe a).1,[],(Q8 a)))
 let m:=(Ve a 0 ([],(Qe a)))
 let r:=p.2.1==9
 let n:=(Vf a 0 ((Qj a).1,()))
 let o:=(Vg a (0,0,0,[],()) ())
 let c:=cond (p.2.1==6) k (cond (p.2.1==7) l (cond (p.2.1==8) m (cond (cond r r (p.2.1==10)) n (cond (p.2.1==11) o a))))
 (pH7 p.2.1/\pH9 p.2.1,cond (p.2.1==2) g (cond (p.2.1==3) h (cond (p.2.1==4) i (cond (p.2.1==5) j c))))
def pL4 a:=(lU a).1
def IM a:=(lU a).2
theorem lA8:SK 122 (AU Aw Aw pL4 IM):=fb Tryz.func122 75 [kb oU,kb oU8]
def ZR (o:AJ)(p q:Int):Prop×Int:=
 let e:=IC o p q
 let f:=e !=0
 let b:=H0 o.2.1
 let g:=DX (Q2 o).1
 let a:=g !=0
 let h:=IE (Q2 o).1
 let i:=h.2.1 !=0
 let j:=H4 o.2.1
 let k:=cond j (!(M7 (Q7 o).1)) false
 let l:=IL o
 let m:=l !=0
 let n:=IM o
 let d:=((0:Int),(0:Int),(0:Int),([]:List UInt8),false,false,false,(0:Int),(0:Int),((0:Int),(0:Int),([]:List Int),()),Lk,(0:Int),((0:Int),(0:Int),([]:List CP),()),Gn,(0:Int),([]:List Int),(0:Int),([]:List B0),([]:List A9),(0:Int),(0:Int),(0:Int),(0:Int),([]:List UInt8),(0:Int),(0:Int),(0:Int),((0:Int),(0:Int),(0:Int),([]:List A0),()),())
 let c:=cond f e (cond ((a||((!a)&&i))&&b) (cond a g h.2.1) (cond k 8 (cond m l (cond (!(J8 n d)) 1 0))))
 (pH6 o p q/\(!f->pH7 o.2.1/\(b->Oy (Q2 o).1/\(!a->pH8 (Q2 o).1))/\((cond b ((!a)&&(!i)) true)=true->pH9 o.2.1/\(j->oU9 (Q7 o).1)/\(!k->pL3 o/\(!m->pL4 o/\Ox n d)))),c)
def oX8 a b c:=(ZR a b c).1
def L8 a b c:=(ZR a b c).2
theorem lU0:SK 87 (DU Aw vI vI vI oX8 L8):=fb Tryz.func87 56 [kb nZ7,kb mT8,kb oU,kb qI5,kb mU2,kb oU8,kb mU4,kb lA7,kb lA8]
abbrev uS3:Type:=(Int×AM×Unit)
def ZS (y:uS3)(x:CU):Vm CU:=
 let a:=y.2.1
 let e:=x.1
 let h:=x.2.1
 let b:=cond (e≥0) (decide (h<=len a.2.2.2.1)) false
 let d:=(nth a.2.2.2.1 e AA).1==y.1
 let f:=(nth a.2.2.2.1 e AA).2.2.1==0
 let g:=nth a.2.2.2.1 e AA
 let c:=(!d)&&(!f)
 (b->A7 e (len a.2.2.2.1)/\(!d->A7 e (len a.2.2.2.1)/\(!f->A7 e (len a.2.2.2.1)/\Ov a g.2.2.1))/\(c->A6 (h+1)),b&&c,(Fu a g.2.2.1,h+1,()),b&&(d||((!d)&&f)),!b)
def rM2 y x:=(ZS y x).1
def Rx y x:=(ZS y x).2.1
def OF y x:=(ZS y x).2.2.1
def sD2 y x:=(ZS y x).2.2.2.1
def oX9 y x:=(ZS y x).2.2.2.2
def uS5 (y:uS3)(x:CU):Bool:=
 let a:=y.1
 (cond ((nth y.2.1.2.2.2.1 x.1 AA).1==a) true (a==0))
def oY:=li [(1,vI),(3,Ag)] [(2,vI),(7,vI)] Rx OF rM2 (λy x=>[ex 1 (some (sD2 y x)) [(6,vB)] ((uS5 y x),()),ex 2 (some (oX9 y x)) [(1,vI)] (y.1,())]) [[(6,vB)],[(1,vI)]]
def ZT (d:AM)(e f:Int):Prop×Bool:=
 let a:=(e,d,())
 let c:=(f,(0:Int),())
 let b:=A3 (Rx a) (OF a) c
 (AB (Rx a) (OF a) (rM2 a) c,cond (sD2 a b) (uS5 a b) (e==0))
def oY0 a b c:=(ZT a b c).1
def ML a b c:=(ZT a b c).2
theorem lU1:SK 88 (DU An vI vI vB oY0 ML):=fb Tryz.func88 46 [kb Y3] [(2,oY)]
abbrev ZU:Type:=(AM×Unit)
def ZV (y:ZU)(x:CU):Vm CU:=
 let b:=y.1
 let f:=x.1
 let g:=x.2.1
 let a:=cond ((nth b.2.2.2.1 f AA).2.2.1 !=0) (decide (g<=len b.2.2.2.1)) false
 let d:=nth b.2.2.2.1 f AA
 let e:=Fu b d.2.2.1
 let c:Bool:=e<0
 (A7 f (len b.2.2.2.1)/\(a->A7 f (len b.2.2.2.1)/\Ov b d.2.2.1/\(!c->A6 (g+1))),a&&(!c),(e,g+1,()),a&&c,!a)
def rM4 y x:=(ZV y x).1
def OG y x:=(ZV y x).2.1
def MM y x:=(ZV y x).2.2.1
def rM5 y x:=(ZV y x).2.2.2.1
def oY1 y x:=(ZV y x).2.2.2.2
def rM6 (y:ZU)(x:CU):Int:=
 x.2.1
def rM7 (y:ZU)(x:CU):Int:=
 x.2.1
def oY2:=li [(2,Ag)] [(1,vI),(5,vI)] OG MM rM4 (λy x=>[ex 1 (some (rM5 y x)) [(4,vI)] ((rM6 y x),()),ex 2 (some (oY1 y x)) [(5,vI)] ((rM7 y x),())]) [[(4,vI)],[(5,vI)]]
def ZW (d:AM)(e:Int):Prop×Int:=
 let a:=(d,())
 let c:=(e,(1:Int),())
 let b:=A3 (OG a) (MM a) c
 (AB (OG a) (MM a) (rM4 a) c,cond (rM5 a b) (rM6 a b) (rM7 a b))
def pQ5 a b:=(ZW a b).1
def OH a b:=(ZW a b).2
theorem lU2:SK 89 (BF An vI vI pQ5 OH):=fb Tryz.func89 34 [kb Y3] [(2,oY2)]
def ZX (y:Ls)(x:AD):Vm AD:=
 let c:=y.1
 let q:=y.2.1
 let a:=x.1
 let d:Bool:=a<y.2.2.1
 let b:=nth q a AA
 let e:=L8 b c.1 c.2.1!=0
 let f:=cond (b.1<1) true (b.1≥c.2.2.2.2.1)
 let g:Bool:=Fu c b.1<a
 let h:=Fu c b.2.2.1
 let l:=b.2.2.1 !=0
 let m:=cond (h<0) true (h≥a)
 let i:=cond l (cond m true ((nth c.2.2.2.1 h AA).2.1 !=1)) false
 let n:=a-1
 let j:=!(ML c b.2.2.1 n)
 let o:Bool:=OH c a>8
 let k:=(!e)&&((!f)&&((!g)&&((!i)&&((!j)&&(!o)))))
 (d->A7 a (len q)/\oX8 b c.1 c.2.1/\(!e->!f->Ov c b.1/\(!g->Ov c b.2.2.1/\((l&&(!m))->A7 h (len c.2.2.2.1))/\(!i->A6 (a-1)/\oY0 c b.2.2.1 n/\(!j->pQ5 c a))))/\(k->A6 (a+1)),d&&k,(a+1,()),d&&(e||((!e)&&(f||((!f)&&(g||((!g)&&(i||((!i)&&(j||((!j)&&o)))))))))),!d)
def sD3 y x:=(ZX y x).1
def OI y x:=(ZX y x).2.1
def Vp y x:=(ZX y x).2.2.1
def ZY y x:=(ZX y x).2.2.2.1
def oY3 y x:=(ZX y x).2.2.2.2
def ZZ (y:Ls)(x:AD):Int:=
 let c:=y.1
 let b:=x.1
 let a:=nth y.2.1 b AA
 let f:=L8 a c.1 c.2.1
 let d:=Fu c a.2.2.1
 let e:=cond (cond (a.2.2.1 !=0) (cond (cond (d<0) true (d≥b)) true ((nth c.2.2.2.1 d AA).2.1 !=1)) false) (9:Int) (cond (!(ML c a.2.2.1 (b-1))) 24 12)
 (cond (f !=0) f (cond (cond (a.1<1) true (a.1≥c.2.2.2.2.1)) 2 (cond (Fu c a.1<b) 10 e)))
def oY4:=li [(1,Ag),(8,Au),(9,vI)] [(10,vI)] OI Vp sD3 (λy x=>[ex 1 (some (ZY y x)) [(2,vI)] ((ZZ y x),()),ex 2 (some (oY3 y x)) [] ()]) [[(2,vI)],[]]
def aA (d:AM):Prop×Int:=
 let a:=(d,d.2.2.2.1,len d.2.2.2.1,())
 let c:=((0:Int),())
 let b:=A3 (OI a) (Vp a) c
 (AB (OI a) (Vp a) (sD3 a) c,cond (ZY a b) (ZZ a b) 0)
def oY5 a:=(aA a).1
def EL a:=(aA a).2
theorem lU3:SK 56 (AU An vI oY5 EL):=fb Tryz.func56 77 [kb Y3,kb lU0,kb lU1,kb lU2] [(2,oY4)]
def aB (y:uS3)(x:AD):Vm AD:=
 let f:=y.1
 let c:=y.2.1
 let a:=x.1
 let e:Bool:=a≥0
 let d:=(nth c.2.2.2.1 a AA).2.2.1==(nth c.2.2.2.1 f AA).2.2.1
 let b:=cond d (!(nth c.2.2.2.1 a AA).2.2.2.2.2.2.1) false
 (e->A7 a (len c.2.2.2.1)/\A7 f (len c.2.2.2.1)/\(d->A7 a (len c.2.2.2.1))/\(!b->A6 (a-1)),e&&(!b),(a-1,()),e&&b,!e)
def rN y x:=(aB y x).1
def Vq y x:=(aB y x).2.1
def Vr y x:=(aB y x).2.2.1
def rN0 y x:=(aB y x).2.2.2.1
def oY6 y x:=(aB y x).2.2.2.2
def tT2 (y:uS3)(x:AD):Int:=
 x.1
def oY7:=li [(1,vI),(2,Ag)] [(5,vI)] Vq Vr rN (λy x=>[ex 1 (some (rN0 y x)) [(4,vI)] ((tT2 y x),()),ex 2 (some (oY6 y x)) [] ()]) [[(4,vI)],[]]
def aC (d:AM)(e:Int):Prop×Int:=
 let a:=(e,d,())
 let c:=(e-1,())
 let b:=A3 (Vq a) (Vr a) c
 (A6 (e-1)/\AB (Vq a) (Vr a) (rN a) c,cond (rN0 a b) (tT2 a b) (-1:Int))
def pQ6 a b:=(aC a b).1
def Ie a b:=(aC a b).2
theorem lU4:SK 90 (BF An vI vI pQ6 Ie):=fb Tryz.func90 35 [] [(2,oY7)]
def aD (a:Int):Prop×Bool:=
 (True,cond (cond (cond (a≥1) (decide (a<=6)) false) true (a==9)) true (a==10))
def oY8 a:=(aD a).1
def JF a:=(aD a).2
theorem mA:SK 91 (AU vI vB oY8 JF):=fb Tryz.func91 17
def aE (y:Ls)(x:AD):Vm AD:=
 let i:=y.1
 let j:=y.2.1
 let d:=x.1
 let a:Bool:=d<y.2.2.1
 let b:=!(nth j d AA).2.2.2.2.2.2.1
 let e:=Ie i d
 let c:Bool:=e<0
 let g:=nth i.2.2.2.1 e AA
 let h:=!(JF g.2.1)
 let f:=b||((!b)&&((!c)&&(!h)))
 (a->A7 d (len j)/\(!b->pQ6 i d/\(!c->A7 e (len i.2.2.2.1)/\oY8 g.2.1))/\(f->A6 (d+1)),a&&f,(d+1,()),a&&((!b)&&(c||((!c)&&h))),!a)
def rN2 y x:=(aE y x).1
def MN y x:=(aE y x).2.1
def Ry y x:=(aE y x).2.2.1
def aF y x:=(aE y x).2.2.2.1
def oY9 y x:=(aE y x).2.2.2.2
def aG (y:Ls)(x:AD):Int:=
 (cond (Ie y.1 x.1<0) (14:Int) 8)
def oZ:=li [(1,Ag),(7,Au),(8,vI)] [(9,vI)] MN Ry rN2 (λy x=>[ex 1 (some (aF y x)) [(2,vI)] ((aG y x),()),ex 2 (some (oY9 y x)) [] ()]) [[(2,vI)],[]]
def aH (d:AM):Prop×Int:=
 let a:=(d,d.2.2.2.1,len d.2.2.2.1,())
 let c:=((0:Int),())
 let b:=A3 (MN a) (Ry a) c
 (AB (MN a) (Ry a) (rN2 a) c,cond (aF a b) (aG a b) 0)
def oZ0 a:=(aH a).1
def KJ a:=(aH a).2
theorem lU5:SK 57 (AU An vI oZ0 KJ):=fb Tryz.func57 31 [kb lU4,kb mA] [(2,oZ)]
def aI (y:NL)(x:AD):Vm AD:=
 let e:=y.1
 let a:=x.1
 let b:Bool:=a<y.2.1
 let d:Bool:=wD e a<33
 let c:=cond d true (wD e a>126)
 (b->A7 a (len e)/\(!d->A7 a (len e))/\(!c->A6 (a+1)),b&&(!c),(a+1,()),b&&c,!b)
def qT9 y x:=(aI y x).1
def qL2 y x:=(aI y x).2.1
def tT3 y x:=(aI y x).2.2.1
def qU y x:=(aI y x).2.2.2.1
def oZ1 y x:=(aI y x).2.2.2.2
def rN4 (y:NL)(x:AD):Bool:=
 false
def oZ2:=li [(0,vS),(13,vI)] [(14,vI)] qL2 tT3 qT9 (λy x=>[ex 1 (some (qU y x)) [(2,vB)] ((rN4 y x),()),ex 2 (some (oZ1 y x)) [] ()]) [[(2,vB)],[]]
def aJ (e:List UInt8):Prop×Bool:=
 let b:=cond (len e<1) true (len e>32)
 let a:=(e,len e,())
 let d:=((0:Int),())
 let c:=A3 (qL2 a) (tT3 a) d
 (!b->AB (qL2 a) (tT3 a) (qT9 a) d,cond b false (cond (qU a c) (rN4 a c) true))
def mA0 a:=(aJ a).1
def f92 a:=(aJ a).2
theorem lU6:SK 92 (AU vS vB mA0 f92):=fb Tryz.func92 28 [] [(4,oZ2)]
def aK (y:Ya)(x:AD):Vm AD:=
 let f:=y.2.1
 let d:=(Q1 y).1
 let a:=x.1
 let b:Bool:=a<(Q3 y).1
 let e:=nth d a CT
 let c:=cond (e.1==f.1) true (e.2.1==f.2.1)
 (b->A7 a (len d)/\(!c->A6 (a+1)),b&&(!c),(a+1,()),b&&c,!b)
def qU0 y x:=(aK y x).1
def sZ4 y x:=(aK y x).2.1
def uT0 y x:=(aK y x).2.2.1
def rN6 y x:=(aK y x).2.2.2.1
def qU1 y x:=(aK y x).2.2.2.2
def rN7 (y:Ya)(x:AD):Int:=
 10
def qU2:List (Nat×Sh):=[(1,Ag),(4,Cq),(9,Bc),(10,vI),(11,vI)]
def oZ3:=li [(1,Ag),(4,Cq),(9,Bc),(10,vI),(11,vI),(53,Bc),(54,vI)] [(55,vI)] sZ4 uT0 qU0 (λy x=>[ex 1 (some (rN6 y x)) [(2,vI)] ((rN7 y x),()),ex 4 (some (qU1 y x)) qU2 (y.1,y.2.1,y.2.2.1,y.2.2.2.1,y.2.2.2.2.1,())]) [[(2,vI)],qU2]
def aL (y:uP1)(x:AD):Vm AD:=
 let l:=y.1
 let m:=y.2.1
 let h:=y.2.2.1
 let b:=x.1
 let d:Bool:=b<h
 let a:=nth m b CT
 let e:=!(f92 a.2.1)
 let n:=cond (cond (cond (cond (a.1<1) true (a.1≥l.2.2.2.2.1)) true (a.2.2.1<0)) true (a.2.2.1>2)) true (a.2.2.2.1<1)
 let f:=cond n true (a.2.2.2.1>1073741824)
 let j:=take (toNat b) (Q0 l).1
 let g:=(l,a,m,h,b,j,len j,())
 let q:=((0:Int),())
 let o:=A3 (sZ4 g) (uT0 g) q
 let c:=qU1 g o
 let k:=Ly a.2.2.2.2.1!=0
 let i:=(!e)&&((!f)&&(c&&(!k)))
 (d->A7 b (len m)/\mA0 a.2.1/\(!e->!f->(0<=b/\b<=len (Q0 l).1)/\AB (sZ4 g) (uT0 g) (qU0 g) q/\(c->U8 a.2.2.2.2.1))/\(i->A6 (b+1)),d&&i,(b+1,()),d&&(e||((!e)&&(f||((!f)&&(rN6 g o||(c&&k)))))),!d)
def rN9 y x:=(aL y x).1
def OJ y x:=(aL y x).2.1
def Vs y x:=(aL y x).2.2.1
def sD4 y x:=(aL y x).2.2.2.1
def oZ4 y x:=(aL y x).2.2.2.2
def uT2 (y:uP1)(x:AD):Int:=
 let f:=y.1
 let h:=y.2.1
 let b:=x.1
 let a:=nth h b CT
 let g:=cond (cond (cond (cond (a.1<1) true (a.1≥f.2.2.2.2.1)) true (a.2.2.1<0)) true (a.2.2.1>2)) true (a.2.2.2.1<1)
 let d:=take (toNat b) (Q0 f).1
 let e:=(f,a,h,y.2.2.1,b,d,len d,())
 let i:=A3 (sZ4 e) (uT0 e) (0,())
 let c:=cond (!(f92 a.2.1)) 13 (cond (cond g true (a.2.2.2.1>1073741824)) 2 (cond (rN6 e i) (rN7 e i) (Ly a.2.2.2.2.1)))
 c
def oZ5:=li [(1,Ag),(9,Bc),(10,vI)] [(11,vI)] OJ Vs rN9 (λy x=>[ex 1 (some (sD4 y x)) [(2,vI)] ((uT2 y x),()),ex 2 (some (oZ4 y x)) [] ()]) [[(2,vI)],[]]
def aM (d:AM):Prop×Int:=
 let a:=(d,(Q0 d).1,len (Q0 d).1,())
 let c:=((0:Int),())
 let b:=A3 (OJ a) (Vs a) c
 (AB (OJ a) (Vs a) (rN9 a) c,cond (sD4 a b) (uT2 a b) 0)
def oZ6 a:=(aM a).1
def Rz a:=(aM a).2
theorem lU7:SK 58 (AU An vI oZ6 Rz):=fb Tryz.func58 79 [kb lU6,kb nZ9] [(2,oZ5),(9,oZ3)]
abbrev uT3:Type:=(Int×(List C9)×Int×Unit)
def rO (y:uT3)(x:AD):Vm AD:=
 let d:=y.2.1
 let a:=x.1
 let b:Bool:=a<y.2.2.1
 let c:=(nth d a CT).1==y.1
 (b->A7 a (len d)/\(!c->A6 (a+1)),b&&(!c),(a+1,()),b&&c,!b)
def qU3 y x:=(rO y x).1
def qL3 y x:=(rO y x).2.1
def tT4 y x:=(rO y x).2.2.1
def qU4 y x:=(rO y x).2.2.2.1
def oZ7 y x:=(rO y x).2.2.2.2
def rO0 (y:uT3)(x:AD):Int:=
 x.1
def oZ8:=li [(1,vI),(8,Bc),(9,vI)] [(10,vI)] qL3 tT4 qU3 (λy x=>[ex 1 (some (qU4 y x)) [(4,vI)] ((rO0 y x),()),ex 2 (some (oZ7 y x)) [] ()]) [[(4,vI)],[]]
def aN (d:AM)(e:Int):Prop×Int:=
 let a:=(e,(Q0 d).1,len (Q0 d).1,())
 let c:=((0:Int),())
 let b:=A3 (qL3 a) (tT4 a) c
 (AB (qL3 a) (tT4 a) (qU3 a) c,cond (qU4 a b) (rO0 a b) (-1:Int))
def oZ9 a b:=(aN a b).1
def f94 a b:=(aN a b).2
theorem lU8:SK 94 (BF An vI vI oZ9 f94):=fb Tryz.func94 21 [] [(2,oZ8)]
def aO (y:Ls)(x:AD):Vm AD:=
 let g:=y.1
 let m:=y.2.1
 let h:=x.1
 let b:Bool:=h<y.2.2.1
 let a:=nth m h AA
 let j:=a.2.1==9
 let c:=cond j (decide (f94 g (Qh a).1<0)) false
 let e:=a.2.1==10
 let f:=Fu g (Qh a).1
 let d:Bool:=f<0
 let k:=nth g.2.2.2.1 f AA
 let l:=!(JF k.2.1)
 let i:=(!c)&&(cond e ((!d)&&(!l)) true)
 (b->A7 h (len m)/\(j->oZ9 g (Qh a).1)/\(!c->e->Ov g (Qh a).1/\(!d->A7 f (len g.2.2.2.1)/\oY8 k.2.1))/\(i->A6 (h+1)),b&&i,(h+1,()),b&&(c||((!c)&&((d||((!d)&&l))&&e))),!b)
def rO2 y x:=(aO y x).1
def OK y x:=(aO y x).2.1
def Vt y x:=(aO y x).2.2.1
def aP y x:=(aO y x).2.2.2.1
def nA y x:=(aO y x).2.2.2.2
def aQ (y:Ls)(x:AD):Int:=
 let c:=y.1
 let a:=nth y.2.1 x.1 AA
 let b:=cond (cond (a.2.1==9) (decide (f94 c (Qh a).1<0)) false) (9:Int) (cond (Fu c (Qh a).1<0) 9 8)
 b
def nA0:=li [(1,Ag),(7,Au),(8,vI)] [(9,vI)] OK Vt rO2 (λy x=>[ex 1 (some (aP y x)) [(2,vI)] ((aQ y x),()),ex 2 (some (nA y x)) [] ()]) [[(2,vI)],[]]
def aR (d:AM):Prop×Int:=
 let a:=(d,d.2.2.2.1,len d.2.2.2.1,())
 let c:=((0:Int),())
 let b:=A3 (OK a) (Vt a) c
 (AB (OK a) (Vt a) (rO2 a) c,cond (aP a b) (aQ a b) 0)
def nA1 a:=(aR a).1
def aS a:=(aR a).2
theorem lU9:SK 59 (AU An vI nA1 aS):=fb Tryz.func59 41 [kb Y3,kb mA,kb lU8] [(2,nA0)]
abbrev sD5:Type:=(AM×(List Bool)×Int×AJ×Int×Int×(List AJ)×Int×Int×(List AJ)×Int×Unit)
abbrev uT5:Type:=(Bool×Int×Unit)
def pL5 (y:sD5)(x:uT5):Vn uT5:=
 let f:=y.2.1
 let e:=y.2.2.2.1
 let b:=(Q4 y).1
 let a:=x.2.1
 let c:Bool:=a<(Q2 y).1
 let d:=nth b a AA
 let g:=cond (!(nth f a false)) (cond (cond (e.2.1==1) (d.2.2.1==e.1) false) true (cond (e.2.1==10) (d.1==(Qh e).1) false)) false
 (c->A7 a (len b)/\A7 a (len f)/\a<len f/\A6 (a+1),c,(cond g false x.1,a+1,()))
def sD6 y x:=(pL5 y x).1
def MO y x:=(pL5 y x).2.1
def MP y x:=(pL5 y x).2.2
def rO3 (y:sD5)(x:uT5):Bool:=
 x.1
def qU5:List (Nat×Sh):=[(1,Ag),(3,Br),(4,vI),(6,vB),(17,vI),(18,vI),(21,Au),(22,vI),(23,vI)]
def nA2:=li [(1,Ag),(3,Br),(4,vI),(5,(.box T42 Aw)),(17,vI),(18,vI),(21,Au),(22,vI),(23,vI),(29,Au),(30,vI)] [(6,vB),(31,vI)] MO MP sD6 (λy x=>[ex 6 none qU5 (y.1,y.2.1,y.2.2.1,(rO3 y x),y.2.2.2.2.1,(Q1 y).1,(Q3 y).1,(Q0 y).1,(Q5 y).1,())]) [qU5]
abbrev sD7:Type:=(AM×Int×Int×(List AJ)×Int×Unit)
def pL6 (y:sD7)(x:vC):Vn vC:=
 let h:=y.1
 let c:=y.2.2.2.1
 let e:=y.2.2.2.2.1
 let f:=x.1
 let a:=x.2.1
 let g:Bool:=a<e
 let d:=(h,f,a,nth c a AA,y.2.1,y.2.2.1,c,e,a,h.2.2.2.1,len h.2.2.2.1,())
 let i:=(true,(0:Int),())
 let b:=rO3 d (A3 (MO d) (MP d) i)
 (g->A7 a (len c)/\AB (MO d) (MP d) (sD6 d) i/\(b->A7 a (len f)/\a<len f)/\A6 (a+1),g,(cond b (set f (toNat a) true) f,a+1,()))
def sD8 y x:=(pL6 y x).1
def R1 y x:=(pL6 y x).2.1
def OL y x:=(pL6 y x).2.2
def rO4 (y:sD7)(x:vC):(List Bool):=
 x.1
def qU6:List (Nat×Sh):=[(1,Ag),(3,Br),(17,vI),(18,vI)]
def nA3:=li [(1,Ag),(17,vI),(18,vI),(21,Au),(22,vI)] [(3,Br),(23,vI)] R1 OL sD8 (λy x=>[ex 4 none qU6 (y.1,(rO4 y x),y.2.1,y.2.2.1,())]) [qU6]
abbrev sD9:Type:=(AM×Int×Unit)
def pL7 (y:sD9)(x:vC):Vn vC:=
 let e:=y.1
 let c:=y.2.1
 let a:=x.2.1
 let d:Bool:=a<c
 let b:=(e,c,a,e.2.2.2.1,len e.2.2.2.1,())
 let f:=(x.1,(0:Int),())
 (d->AB (R1 b) (OL b) (sD8 b) f/\A6 (a+1),d,(rO4 b (A3 (R1 b) (OL b) f),a+1,()))
def sE y x:=(pL7 y x).1
def FM y x:=(pL7 y x).2.1
def Fv y x:=(pL7 y x).2.2
def rO5 (y:sD9)(x:vC):(List Bool):=
 x.1
def nA4:=li [(1,Ag),(17,vI)] [(3,Br),(18,vI)] FM Fv sE (λy x=>[ex 2 none [(3,Br)] ((rO5 y x),())]) [[(3,Br)]]
def aT (y:vC)(x:AD):Vm AD:=
 let c:=y.1
 let a:=x.1
 let b:Bool:=a<y.2.1
 let d:=!(nth c a false)
 (b->A7 a (len c)/\a<len c/\(!d->A6 (a+1)),b&&(!d),(a+1,()),b&&d,!b)
def sN0 y x:=(aT y x).1
def MQ y x:=(aT y x).2.1
def MR y x:=(aT y x).2.2.1
def tM9 y x:=(aT y x).2.2.2.1
def oJ5 y x:=(aT y x).2.2.2.2
def sV9 (y:vC)(x:AD):Bool:=
 true
def oJ6:=li [(72,Br),(73,vI)] [(74,vI)] MQ MR sN0 (λy x=>[ex 1 (some (tM9 y x)) [(2,vB)] ((sV9 y x),()),ex 8 (some (oJ5 y x)) [] ()]) [[(2,vB)],[]]
def aU (h:AM):Prop×Bool:=
 let c:=len h.2.2.2.1
 let d:=(h,len h.2.2.2.1,())
 let g:=(List.replicate (toNat c) false,(0:Int),())
 let b:=rO5 d (A3 (FM d) (Fv d) g)
 let a:=(b,len b,())
 let f:=((0:Int),())
 let e:=A3 (MQ a) (MR a) f
 ((0<=c/\c<=c/\c<=4294967296)/\AB (FM d) (Fv d) (sE d) g/\AB (MQ a) (MR a) (sN0 a) f,cond (tM9 a e) (sV9 a e) false)
def pQ7 a:=(aU a).1
def aV a:=(aU a).2
theorem lV:SK 60 (AU An vB pQ7 aV):=fb Tryz.func60 81 [] [(3,nA4),(5,nA3),(9,nA2),(19,oJ6)] [(3,[(4,0,14,1003)])] false [] [14]
def aW (y:U0)(x:AD):Vm AD:=
 let c:=y.1
 let a:=x.1
 let e:Bool:=a<len c
 let d:Bool:=wD c a<33
 let b:=cond d true (wD c a>126)
 (e->A7 a (len c)/\(!d->A7 a (len c))/\(!b->A6 (a+1)),e&&(!b),(a+1,()),e&&b,!e)
def qU7 y x:=(aW y x).1
def sZ5 y x:=(aW y x).2.1
def uU y x:=(aW y x).2.2.1
def qU8 y x:=(aW y x).2.2.2.1
def nA5 y x:=(aW y x).2.2.2.2
def rO7 (y:U0)(x:AD):Bool:=
 false
def nA6:=li [(0,vS)] [(3,vI)] sZ5 uU qU7 (λy x=>[ex 1 (some (qU8 y x)) [(2,vB)] ((rO7 y x),()),ex 2 (some (nA5 y x)) [(0,vS)] (y.1,())]) [[(2,vB)],[(0,vS)]]
def aX (d:List UInt8):Prop×Bool:=
 let a:=(d,())
 let c:=((0:Int),())
 let b:=A3 (sZ5 a) (uU a) c
 (AB (sZ5 a) (uU a) (qU7 a) c,cond (qU8 a b) (rO7 a b) (cond (len d≥1) (decide (len d<=32)) false))
def nA7 a:=(aX a).1
def Vu a:=(aX a).2
theorem lV0:SK 95 (AU vS vB nA7 Vu):=fb Tryz.func95 28 [] [(2,nA6)]
def aY (y:U0)(x:AD):Vm AD:=
 let c:=y.1
 let a:=x.1
 let e:Bool:=a<len c
 let d:Bool:=wD c a<32
 let b:=cond d true (wD c a>126)
 (e->A7 a (len c)/\(!d->A7 a (len c))/\(!b->A6 (a+1)),e&&(!b),(a+1,()),e&&b,!e)
def qU9 y x:=(aY y x).1
def sZ6 y x:=(aY y x).2.1
def uU1 y x:=(aY y x).2.2.1
def qV y x:=(aY y x).2.2.2.1
def nA8 y x:=(aY y x).2.2.2.2
def rO9 (y:U0)(x:AD):Bool:=
 false
def nA9:=li [(0,vS)] [(3,vI)] sZ6 uU1 qU9 (λy x=>[ex 1 (some (qV y x)) [(2,vB)] ((rO9 y x),()),ex 2 (some (nA8 y x)) [(0,vS)] (y.1,())]) [[(2,vB)],[(0,vS)]]
def aZ (d:List UInt8):Prop×Bool:=
 let a:=(d,())
 let c:=((0:Int),())
 let b:=A3 (sZ6 a) (uU1 a) c
 (AB (sZ6 a) (uU1 a) (qU9 a) c,cond (qV a b) (rO9 a b) (cond (len d≥1) (decide (len d<=256)) false))
def nB a:=(aZ a).1
def Vv a:=(aZ a).2
theorem lV1:SK 96 (AU vS vB nB Vv):=fb Tryz.func96 28 [] [(2,nA9)]
abbrev uU2:Type:=((List C8)×Int×Unit)
def rP (y:uU2)(x:AD):Vm AD:=
 let f:=y.1
 let a:=x.1
 let b:Bool:=a<y.2.1
 let h:=nth f a DD
 let c:=!(Vu h.1)
 let i:=nth f a DD
 let d:=!(Vv i.2.1)
 let e:Bool:=a>0
 let j:=nth f a DD
 let k:=a-1
 let l:=nth f k DD
 let m:=cond e (Op.bytesLess j.1 l.1||j.1==l.1) false
 let g:=(!c)&&((!d)&&(!m))
 (b->A7 a (len f)/\nA7 h.1/\(!c->A7 a (len f)/\nB i.2.1/\(!d->(e->A7 a (len f))/\(e->A6 (a-1))/\(e->A7 k (len f))))/\(g->A6 (a+1)),b&&g,(a+1,()),b&&(c||((!c)&&(d||((!d)&&m)))),!b)
def rP0 y x:=(rP y x).1
def tN y x:=(rP y x).2.1
def Vw y x:=(rP y x).2.2.1
def rP1 y x:=(rP y x).2.2.2.1
def nB0 y x:=(rP y x).2.2.2.2
def uU3 (y:uU2)(x:AD):Int:=
 let a:=y.1
 let b:=x.1
 (cond (!(Vu (nth a b DD).1)) (13:Int) (cond (!(Vv (nth a b DD).2.1)) 4 24))
def nB1:=li [(0,Bk),(8,vI)] [(9,vI)] tN Vw rP0 (λy x=>[ex 1 (some (rP1 y x)) [(2,vI)] ((uU3 y x),()),ex 2 (some (nB0 y x)) [] ()]) [[(2,vI)],[]]
def bA (e:List C8):Prop×Int:=
 let c:Bool:=len e>16
 let a:=(e,len e,())
 let d:=((0:Int),())
 let b:=A3 (tN a) (Vw a) d
 (!c->AB (tN a) (Vw a) (rP0 a) d,cond c 3 (cond (rP1 a b) (uU3 a b) 0))
def nB2 a:=(bA a).1
def f62 a:=(bA a).2
theorem lV2:SK 62 (AU Bk vI nB2 f62):=fb Tryz.func62 43 [kb lV0,kb lV1] [(4,nB1)]
def bB (p:AM):Prop×Int:=
 let d:=Y0 p.1 p.2.1 p.2.2.1
 let e:=d.2.1 !=0
 let f:=cond (len p.2.2.2.1>64) true (len (Q0 p).1>8)
 let g:=cond (p.2.2.2.2.1<1) true (p.2.2.2.2.1>1073741824)
 let h:=EL p
 let i:=h==0
 let r:=cond i (KJ p) h
 let j:=r==0
 let a:=cond j (Rz p) r
 let k:=a==0
 let b:=cond k (aS p) a
 let l:=b !=0
 let m:=aV p
 let n:=Uz (Q1 p).1
 let o:=n !=0
 let q:=cond ((Q1 p).1.1 !=0) (cond ((Q1 p).1.1 !=p.1) true ((Q1 p).1.2.1 !=p.2.1)) false
 let c:=cond e d.2.1 (cond f 3 (cond g 2 (cond l b (cond m 11 (cond o n (cond q 15 (f62 (Q3 p).1)))))))
 (nZ6 p.1 p.2.1 p.2.2.1/\(!e->!f->!g->oY5 p/\(i->oZ0 p)/\(j->oZ6 p)/\(k->nA1 p)/\(!l->pQ7 p/\(!m->pP6 (Q1 p).1/\(!o->!q->nB2 (Q3 p).1)))),c)
def pQ8 a:=(bB a).1
def EZ a:=(bB a).2
theorem mA1:SK 19 (AU An vI pQ8 EZ):=fb Tryz.func19 84 [kb lP,kb lU3,kb lU5,kb lU7,kb lU9,kb lV,kb nZ8,kb lV2]
def bC (a:AM):Prop×(Int×Int×Int×(List AJ)×Int×Fs×(List C8)×(List C9)×Unit):=
 (((length ([]:List AJ)+length a.2.2.2.1:Nat):Int)<=4294967296,(a.1,a.2.1,a.2.2.1,[]++a.2.2.2.1,a.2.2.2.2))
def mA2 a:=(bC a).1
def R2 a:=(bC a).2
theorem lV3:SK 21 (AU An (.agg (.cons Aa (.cons Aa (.cons Aa (.cons Cr (.cons Aa (.cons Hj (.cons Cs (.cons Ct .nl)))))))) (.cons vI (.cons vI (.cons vI (.cons Cj (.cons vI (.cons By (.cons Bk (.cons Bc .nl))))))))) mA2 R2):=fb Tryz.func21 9 [] [] [(3,[(4,0,6,400100)]),(5,[(4,0,400100,0)])] false [] [3,6]
def bD (c:AM):Prop×(AM×Int×Unit):=
 let a:=EZ c
 let b:=a !=0
 (pQ8 c,(cond b (0,0,0,[],0,(0,0,[],()),[],[],()) c,cond b a 0,()))
def nB3 a:=(bD a).1
def f22 a:=(bD a).2
theorem lV4:SK 22 (AU An (.tup (.cons An (.cons vI .nl))) nB3 f22):=fb Tryz.func22 12 [kb mA1]
def R3 (k:AM)(l:AJ):Prop×(AM×Int×Unit):=
 let j:=EZ k
 let c:=j !=0
 let a:=Fu k l.1
 let d:Bool:=a<0
 let e:=(nth k.2.2.2.1 a AA).2.1 !=l.2.1
 let f:=(nth k.2.2.2.1 a AA).2.2.1 !=l.2.2.1
 let b:=R2 k
 let s:=(b.1,b.2.1,b.2.2.1,set b.2.2.2.1 (toNat a) l,b.2.2.2.2)
 let i:=f22 s
 let g:=cond e (0,0,0,[],0,(0,0,[],()),[],[],()) (cond f (0,0,0,[],0,(0,0,[],()),[],[],()) i.1)
 let h:=cond c (0,0,0,[],0,(0,0,[],()),[],[],()) (cond d (0,0,0,[],0,(0,0,[],()),[],[],()) g)
 (pQ8 k/\(!c->Ov k l.1/\(!d->A7 a (len k.2.2.2.1)/\(!e->A7 a (len k.2.2.2.1)/\(!f->mA2 k/\A7 a (len b.2.2.2.1)/\a<len b.2.2.2.1/\nB3 s)))),(h,cond c j (cond d 9 (cond e 8 (cond f 1 i.2.1))),()))
def nO9 a b:=(R3 a b).1
def f7 a b:=(R3 a b).2
def lA9:=BF An Aw (.tup (.cons An (.cons vI .nl))) nO9 f7
theorem kB5:SK 7 (BF An Aw (.tup (.cons An (.cons vI .nl))) nO9 f7):=fb Tryz.func7 52 [kb mA1,kb Y3,kb lV3,kb lV4] [] [(23,[(4,0,42,400200)]),(26,[(1,2,3,0)])]
end Go.Proofs.YtlpphnncneppoaaGreatDoor.Am
