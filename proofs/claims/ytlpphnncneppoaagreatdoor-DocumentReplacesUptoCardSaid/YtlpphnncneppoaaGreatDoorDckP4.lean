/- Printed by program, part 4. No condition. -/
import Derived.Test.YtlpphnncneppoaaGreatDoorDckP3
set_option linter.unusedVariables false
set_option synthInstance.maxSize 4000
set_option synthInstance.maxHeartbeats 400000
namespace Go.Proofs.YtlpphnncneppoaaGreatDoor.Am
open Go Go.Am Go.Proofs
open Go.IntKind (wrap)
open _root_.Int (sub tdiv tmod toNat)
open _root_.List (length set)
def mR7 (a:Unit):Prop×(List C8):=
 ((!true)->((length ([]:List C8)+length ([]:List C8):Nat):Int)<=4294967296,cond true [] (([]:List C8)++[]))
def pH a:=(mR7 a).1
def f51a a:=(mR7 a).2
instance (a):Decidable (pH a):=by unfold pH mR7;dsimp only;infer_instance
theorem mR8:SK 51 (AU (.nn true) Dc pH f51a):=fb Tryz.func51 8 [] [] [(7,[(4,0,7,0)])]
def mR9 (a:Unit):Prop×(List C8):=
 ((!false)->((length ([]:List C8)+length ([]:List C8):Nat):Int)<=4294967296,cond false [] (([]:List C8)++[]))
def pH0 a:=(mR9 a).1
def f51b a:=(mR9 a).2
instance (a):Decidable (pH0 a):=by unfold pH0 mR9;dsimp only;infer_instance
theorem mS:SK 51 (AU (.nn false) Dc pH0 f51b):=fb Tryz.func51 8 [] [] [(7,[(4,0,7,0)])]
def mS0 (a:List C8):Prop×(List C8):=
 (0<length a/\((!false)->((length ([]:List C8)+length a:Nat):Int)<=4294967296),cond false [] (([]:List C8)++a))
def pH1 a:=(mS0 a).1
def f51c a:=(mS0 a).2
instance (a):Decidable (pH1 a):=by unfold pH1 mS0;dsimp only;infer_instance
theorem mS1:SK 51 (AU Bk Dc pH1 f51c):=fb Tryz.func51 8 [] [] [(7,[(4,0,7,0)])]
def f51 (a:List C8):List C8:=a
def Ur (a:List C8):Prop:=(length a:Int)<=4294967296
def lO3:List (Nat×Sh):=[(0,Bk)]
def nZ4:Sh:=Dc
def lO4:List (Nat×Sh):=[]
def nN7:Am.Spec:=fnSpec lO3 nZ4 lO4 (λx=>Ur x.1) (λx=>f51 x.1) (λ_=>())
theorem lO5:SpecOk Tryz.prog 51 nN7:=Pt (rs:=nZ4) (F:=f51) (ok:=Ur) mR8 mS mS1 (jF (by kernel_rfl)) (jF (by kernel_rfl)) (λl h hp=>⟨hp,λ_=>by simpa[Ur] using h⟩) rfl rfl (λ_=>rfl)
def mS2 (a:Unit):Prop×(List C9):=
 ((!true)->((length ([]:List C9)+length ([]:List C9):Nat):Int)<=4294967296,cond true [] (([]:List C9)++[]))
def pH2 a:=(mS2 a).1
def f52a a:=(mS2 a).2
instance (a):Decidable (pH2 a):=by unfold pH2 mS2;dsimp only;infer_instance
theorem mS3:SK 52 (AU (.nn true) Df pH2 f52a):=fb Tryz.func52 8 [] [] [(7,[(4,0,7,0)])] false [] [5,7]
def mS4 (a:Unit):Prop×(List C9):=
 ((!false)->((length ([]:List C9)+length ([]:List C9):Nat):Int)<=4294967296,cond false [] (([]:List C9)++[]))
def pH3 a:=(mS4 a).1
def f52b a:=(mS4 a).2
instance (a):Decidable (pH3 a):=by unfold pH3 mS4;dsimp only;infer_instance
theorem mS5:SK 52 (AU (.nn false) Df pH3 f52b):=fb Tryz.func52 8 [] [] [(7,[(4,0,7,0)])] false [] [5,7]
def mS6 (a:List C9):Prop×(List C9):=
 (0<length a/\((!false)->((length ([]:List C9)+length a:Nat):Int)<=4294967296),cond false [] (([]:List C9)++a))
def pH4 a:=(mS6 a).1
def f52c a:=(mS6 a).2
instance (a):Decidable (pH4 a):=by unfold pH4 mS6;dsimp only;infer_instance
theorem mS7:SK 52 (AU Bc Df pH4 f52c):=fb Tryz.func52 8 [] [] [(7,[(4,0,7,0)])] false [] [5,7]
def f52 (a:List C9):List C9:=a
def Us (a:List C9):Prop:=(length a:Int)<=4294967296
def lO6:List (Nat×Sh):=[(0,Bc)]
def nZ5:Sh:=Df
def lO7:List (Nat×Sh):=[]
def nN8:Am.Spec:=fnSpec lO6 nZ5 lO7 (λx=>Us x.1) (λx=>f52 x.1) (λ_=>())
theorem lO8:SpecOk Tryz.prog 52 nN8:=Pt (rs:=nZ5) (F:=f52) (ok:=Us) mS3 mS5 mS7 (jF (by kernel_rfl)) (jF (by kernel_rfl)) (λl h hp=>⟨hp,λ_=>by simpa[Us] using h⟩) rfl rfl (λ_=>rfl)
abbrev tZ7:Type:=(AM×(Int×Int×Int×(List AJ)×Int×(Int×Int×(List Int)×Unit)×(List C8)×(List C9)×Unit)×(List AJ)×Int×Unit)
abbrev uG:Type:=((Int×Int×Int×(List AJ)×Int×Fs×(List C8)×(List C9)×Unit)×Int×Unit)
def qH8 (y:tZ7)(x:uG):Vn uG:=
 let c:=y.2.2.1
 let b:=x.1
 let a:=x.2.1
 let d:Bool:=a<y.2.2.2.1
 let e:=nth c a AA
 (d->A7 a (len c)/\sS e/\A7 a (len b.2.2.2.1)/\a<len b.2.2.2.1/\A6 (a+1),d,((b.1,b.2.1,b.2.2.1,set b.2.2.2.1 (toNat a) (Oq e),b.2.2.2.2),a+1,()))
def Yw y x:=(qH8 y x).1
def My y x:=(qH8 y x).2.1
def Lx y x:=(qH8 y x).2.2
def tR9 (y:tZ7)(x:uG):(Int×Int×Int×(List AJ)×Int×Fs×(List C8)×(List C9)×Unit):=
 let a:=x.1
 (a.1,a.2.1,a.2.2.1,a.2.2.2.1,a.2.2.2.2.1,(Q1 a).1,(Q3 a).1,(Q0 a).1,())
def qT0:List (Nat×Sh):=[(1,Ag),(2,Ab),(3,Ax)]
def oT:=li [(1,Ag),(2,Ab),(15,Au),(16,vI)] [(3,Ax),(17,vI)] My Lx Yw (λy x=>[ex 2 none qT0 (y.1,y.2.1,(tR9 y x),())]) [qT0]
abbrev tC6:Type:=((Int×Int×Int×(List AJ)×Int×(Int×Int×(List Int)×Unit)×(List C8)×(List C9)×Unit)×(List C9)×Int×Unit)
def sY6 (y:tC6)(x:uG):Vn uG:=
 let c:=y.2.1
 let b:=x.1
 let a:=x.2.1
 let d:Bool:=a<y.2.2.1
 let e:=nth c a CT
 let f:=((nth (Q0 b).1 a CT).1,(nth (Q0 b).1 a CT).2.1,(nth (Q0 b).1 a CT).2.2.1,(nth (Q0 b).1 a CT).2.2.2.1,((nth (Q0 b).1 a CT).2.2.2.2.1.1,(nth (Q0 b).1 a CT).2.2.2.2.1.2.1,f53 e.2.2.2.2.1.2.2.1,()),())
 (d->A7 a (len c)/\QL e.2.2.2.2.1.2.2.1/\A7 a (len (Q0 b).1)/\a<len (Q0 b).1/\A6 (a+1),d,((b.1,b.2.1,b.2.2.1,b.2.2.2.1,b.2.2.2.2.1,(Q1 b).1,(Q3 b).1,set (Q0 b).1 (toNat a) f,()),a+1,()))
def Yx y x:=(sY6 y x).1
def Ut y x:=(sY6 y x).2.1
def Uu y x:=(sY6 y x).2.2
def sS0 (y:tC6)(x:uG):(Int×Int×Int×(List AJ)×Int×Fs×(List C8)×(List C9)×Unit):=
 let a:=x.1
 (a.1,a.2.1,a.2.2.1,a.2.2.2.1,a.2.2.2.2.1,(Q1 a).1,(Q3 a).1,(Q0 a).1,())
def rY5:List (Nat×Sh):=[(2,Ab),(3,Av)]
def oE1:=li [(2,Ab),(44,Bc),(45,vI)] [(3,Av),(46,vI)] Ut Uu Yx (λy x=>[ex 4 none rY5 (y.1,(sS0 y x),())]) [rY5]
def Mz (i:AM):Prop×(Int×Int×Int×(List AJ)×Int×Fs×(List C8)×(List C9)×Unit):=
 let d:=len i.2.2.2.1
 let e:=(i,((0:Int),(0:Int),(0:Int),([]:List AJ),(0:Int),((0:Int),(0:Int),([]:List Int),()),([]:List C8),([]:List C9),()),i.2.2.2.1,len i.2.2.2.1,())
 let h:=((i.1,i.2.1,i.2.2.1,List.replicate (toNat d) AA,i.2.2.2.2),(0:Int),())
 let b:=tR9 e (A3 (My e) (Lx e) h)
 let g:=(b.1,b.2.1,b.2.2.1,b.2.2.2.1,b.2.2.2.2.1,((Q1 b).1.1,(Q1 b).1.2.1,Yu (Q1 i).1.2.2.1,()),f51 (Q3 i).1,f52 (Q0 i).1,())
 let c:=(((0:Int),(0:Int),(0:Int),([]:List AJ),(0:Int),((0:Int),(0:Int),([]:List Int),()),([]:List C8),([]:List C9),()),(Q0 i).1,len (Q0 i).1,())
 let f:=(g,(0:Int),())
 let a:=sS0 c (A3 (Ut c) (Uu c) f)
 ((0<=d/\d<=d/\d<=4294967296)/\AB (My e) (Lx e) (Yw e) h/\Oo (Q1 i).1.2.2.1/\Ur (Q3 i).1/\Us (Q0 i).1/\AB (Ut c) (Uu c) (Yx c) f,(a.1,a.2.1,a.2.2.1,a.2.2.2.1,a.2.2.2.2.1,(Q1 a).1,(Q3 a).1,(Q0 a).1,()))
def M0 a:=(Mz a).1
def Ic a:=(Mz a).2
def nN9:=AU An (.agg (.cons Aa (.cons Aa (.cons Aa (.cons Cr (.cons Aa (.cons Hj (.cons Cs (.cons Ct .nl)))))))) (.cons vI (.cons vI (.cons vI (.cons Cj (.cons vI (.cons By (.cons Bk (.cons Dw .nl))))))))) M0 Ic
theorem pP5:SK 16 (AU An (.agg (.cons Aa (.cons Aa (.cons Aa (.cons Cr (.cons Aa (.cons Hj (.cons Cs (.cons Ct .nl)))))))) (.cons vI (.cons vI (.cons vI (.cons Cj (.cons vI (.cons By (.cons Bk (.cons Dw .nl))))))))) M0 Ic):=fb Tryz.func16 63 [kb pP4,kb nY9,kb lO5,kb lO8,kb nZ0] [(4,oT),(12,oE1)] [(5,[(4,0,12,400300)]),(19,[(4,0,37,400302)]),(21,[(4,0,41,400303)]),(33,[(4,0,400300,0),(4,0,400302,2),(4,0,400303,3)])] false [] [12]
def QN (c:AM):Prop×(AM×Int×Unit):=
 let a:=GZ c
 let b:=a !=0
 (J7 c,(cond b (0,0,0,[],0,(0,0,[],()),[],[],()) c,cond b a 0,()))
def Ot a:=(QN a).1
def QO a:=(QN a).2
def nO:=AU An (.tup (.cons An (.cons vI .nl))) Ot QO
theorem oT0:SK 18 (AU An (.tup (.cons An (.cons vI .nl))) Ot QO):=fb Tryz.func18 12 [kb QK]
def QP (k:AM)(l:AJ):Prop×(AM×Int×Unit):=
 let i:=GZ k
 let c:=i !=0
 let a:=BN k l.1
 let d:Bool:=a<0
 let e:=(nth k.2.2.2.1 a AA).2.1 !=l.2.1
 let f:=(nth k.2.2.2.1 a AA).2.2.1 !=l.2.2.1
 let b:=Ic k
 let s:=(b.1,b.2.1,b.2.2.1,set b.2.2.2.1 (toNat a) (Oq l),b.2.2.2.2)
 let j:=QO s
 let g:=cond e (0,0,0,[],0,(0,0,[],()),[],[],()) (cond f (0,0,0,[],0,(0,0,[],()),[],[],()) j.1)
 let h:=cond c (0,0,0,[],0,(0,0,[],()),[],[],()) (cond d (0,0,0,[],0,(0,0,[],()),[],[],()) g)
 (J7 k/\(!c->Hy k l.1/\(!d->A7 a (len k.2.2.2.1)/\(!e->A7 a (len k.2.2.2.1)/\(!f->M0 k/\sS l/\A7 a (len b.2.2.2.1)/\a<len b.2.2.2.1/\Ot s)))),(h,cond c i (cond d 9 (cond e 8 (cond f 1 j.2.1))),()))
def nO0 a b:=(QP a b).1
def f6 a b:=(QP a b).2
def mS8:=BF An Aw (.tup (.cons An (.cons vI .nl))) nO0 f6
theorem kB4:SK 6 (BF An Aw (.tup (.cons An (.cons vI .nl))) nO0 f6):=fb Tryz.func6 54 [kb QK,kb Ok,kb pP5,kb pP4,kb oT0] [] [(23,[(4,0,43,400800),(4,0,300043,400803)]),(26,[(1,8,3,0),(1,8,7,0)])]
def Yy :Prop×Int:=
 (True,4)
def oT1 :Prop:=(Yy).1
def f86 :Int:=(Yy).2
def nO1:Am.Spec:=fnSpec [] vI [] (λx=>oT1 ) (λx=>f86 ) (λ_=>())
theorem lO9:SK 86 (fnSpec [] vI [] (λx=>oT1 ) (λx=>f86 ) (λ_=>())):=fb Tryz.func86 1
def Yz (e f g:Int):Prop×(AM×Int×Unit):=
 let a:=cond (cond (cond (e<1) true (e>256)) true (f<1)) true (f>256)
 let c:Bool:=g<0
 let b:=cond c true (g≥f86)
 let d:=(cond a 0 (cond b 0 e),cond a 0 (cond b 0 f),cond a 0 (cond b 0 g),([]:List AJ),cond a (0:Int) (cond b 0 1),(cond a 0 (cond b 0 0),cond a (0:Int) (cond b 0 0),([]:List Int),()),([]:List C8),([]:List C9),())
 (!a->!c->oT1,(d,cond a (15:Int) (cond b 2 0),()))
def nZ6 a b c:=(Yz a b c).1
def Y0 a b c:=(Yz a b c).2
def nO2:=DU vI vI vI (.tup (.cons An (.cons vI .nl))) nZ6 Y0
def mS9:=Cy [(86,nO1)] [] [] 35
theorem lP:SK 55 nO2:=fq (c:=mS9) Tryz.func55 ⟨lO9,trivial⟩
abbrev Ou:Type:=(Int×(List AJ)×Int×Unit)
def Y1 (y:Ou)(x:AD):Vm AD:=
 let d:=y.2.1
 let a:=x.1
 let b:Bool:=a<y.2.2.1
 let c:=(nth d a AA).1==y.1
 (b->A7 a (len d)/\(!c->A6 (a+1)),b&&(!c),(a+1,()),b&&c,!b)
def qT1 y x:=(Y1 y x).1
def qH9 y x:=(Y1 y x).2.1
def tS y x:=(Y1 y x).2.2.1
def qT2 y x:=(Y1 y x).2.2.2.1
def oT2 y x:=(Y1 y x).2.2.2.2
def rH7 (y:Ou)(x:AD):Int:=
 x.1
def oT3:=li [(1,vI),(8,Au),(9,vI)] [(10,vI)] qH9 tS qT1 (λy x=>[ex 1 (some (qT2 y x)) [(4,vI)] ((rH7 y x),()),ex 2 (some (oT2 y x)) [] ()]) [[(4,vI)],[]]
def Y2 (d:AM)(e:Int):Prop×Int:=
 let a:=(e,d.2.2.2.1,len d.2.2.2.1,())
 let c:=((0:Int),())
 let b:=A3 (qH9 a) (tS a) c
 (AB (qH9 a) (tS a) (qT1 a) c,cond (qT2 a b) (rH7 a b) (-1:Int))
def Ov a b:=(Y2 a b).1
def Fu a b:=(Y2 a b).2
theorem Y3:SK 20 (BF An vI vI Ov Fu):=fb Tryz.func20 21 [] [(2,oT3)]
abbrev vZ6:Type:=((List Int)×(List Int)×Unit)
def Y4 (y:vZ6)(x:AD):Vm AD:=
 let d:=y.1
 let e:=y.2.1
 let b:=x.1
 let a:Bool:=b<len d
 let c:=nth d b 0!=nth e b 0
 (a->A7 b (len d)/\A7 b (len e)/\(!c->A6 (b+1)),a&&(!c),(b+1,()),a&&c,!a)
def tL0 y x:=(Y4 y x).1
def Y5 y x:=(Y4 y x).2.1
def Y7 y x:=(Y4 y x).2.2.1
def sJ2 y x:=(Y4 y x).2.2.2.1
def oE2 y x:=(Y4 y x).2.2.2.2
def sS3 (y:vZ6)(x:AD):Bool:=
 false
def oE3:=li [(0,Ak),(1,Ak)] [(5,vI)] Y5 Y7 tL0 (λy x=>[ex 1 (some (sJ2 y x)) [(4,vB)] ((sS3 y x),()),ex 2 (some (oE2 y x)) [] ()]) [[(4,vB)],[]]
def lP0 (e f:List Int):Prop×Bool:=
 let b:=len e !=len f
 let a:=(e,f,())
 let d:=((0:Int),())
 let c:=A3 (Y5 a) (Y7 a) d
 (!b->AB (Y5 a) (Y7 a) (tL0 a) d,cond b false (cond (sJ2 a c) (sS3 a c) true))
def Y8 a b:=(lP0 a b).1
def I9 a b:=(lP0 a b).2
theorem oT4:SK 124 (BF Ak Ak vB Y8 I9):=fb Tryz.func124 26 [] [(4,oE3)]
def QQ (b c:Fs):Prop×Bool:=
 let a:=cond (b.1==c.1) (b.2.1==c.2.1) false
 (a->Y8 b.2.2.1 c.2.2.1,cond a (I9 b.2.2.1 c.2.2.1) false)
def Y9 a b:=(QQ a b).1
def Uv a b:=(QQ a b).2
theorem lP1:SK 97 (BF By By vB Y9 Uv):=fb Tryz.func97 24 [kb oT4]
abbrev vZ7:Type:=(GV×GV×Unit)
def sA (y:vZ7)(x:AD):Vm AD:=
 let d:=y.1
 let e:=y.2.1
 let b:=x.1
 let a:Bool:=b<len d.2.2.1
 let c:=!(Ty.eqb EG (nth d.2.2.1 b Gn) (nth e.2.2.1 b Gn))
 (a->A7 b (len d.2.2.1)/\A7 b (len e.2.2.1)/\(!c->A6 (b+1)),a&&(!c),(b+1,()),a&&c,!a)
def tL1 y x:=(sA y x).1
def Uw y x:=(sA y x).2.1
def Ux y x:=(sA y x).2.2.1
def YA y x:=(sA y x).2.2.2.1
def oE4 y x:=(sA y x).2.2.2.2
def sS4 (y:vZ7)(x:AD):Bool:=
 false
def oE5:=li [(2,Dg),(3,Dg)] [(5,vI)] Uw Ux tL1 (λy x=>[ex 1 (some (YA y x)) [(4,vB)] ((sS4 y x),()),ex 2 (some (oE4 y x)) [] ()]) [[(4,vB)],[]]
def lP2 (e f:GV):Prop×Bool:=
 let b:=cond (cond (e.1 !=f.1) true (e.2.1 !=f.2.1)) true (len e.2.2.1!=len f.2.2.1)
 let a:=(e,f,())
 let d:=((0:Int),())
 let c:=A3 (Uw a) (Ux a) d
 (!b->AB (Uw a) (Ux a) (tL1 a) d,cond b false (cond (YA a c) (sS4 a c) true))
def qI a b:=(lP2 a b).1
def IA a b:=(lP2 a b).2
theorem mT:SK 125 (BF Cd Cd vB qI IA):=fb Tryz.func125 45 [] [(4,oE5)]
abbrev vZ8:Type:=((List B0)×(List B0)×Unit)
def YB (y:vZ8)(x:AD):Vm AD:=
 let d:=y.1
 let e:=y.2.1
 let b:=x.1
 let a:Bool:=b<len d
 let c:=!(Ty.eqb F9 (nth d b CG) (nth e b CG))
 (a->A7 b (len d)/\A7 b (len e)/\(!c->A6 (b+1)),a&&(!c),(b+1,()),a&&c,!a)
def tL2 y x:=(YB y x).1
def YC y x:=(YB y x).2.1
def YD y x:=(YB y x).2.2.1
def sJ3 y x:=(YB y x).2.2.2.1
def oE6 y x:=(YB y x).2.2.2.2
def sS5 (y:vZ8)(x:AD):Bool:=
 false
def oE7:=li [(0,Ao),(1,Ao)] [(5,vI)] YC YD tL2 (λy x=>[ex 1 (some (sJ3 y x)) [(4,vB)] ((sS5 y x),()),ex 2 (some (oE6 y x)) [] ()]) [[(4,vB)],[]]
def lP3 (e f:List B0):Prop×Bool:=
 let b:=len e !=len f
 let a:=(e,f,())
 let d:=((0:Int),())
 let c:=A3 (YC a) (YD a) d
 (!b->AB (YC a) (YD a) (tL2 a) d,cond b false (cond (sJ3 a c) (sS5 a c) true))
def qI0 a b:=(lP3 a b).1
def Ky a b:=(lP3 a b).2
theorem mT0:SK 126 (BF Ao Ao vB qI0 Ky):=fb Tryz.func126 26 [] [(4,oE7)]
abbrev vZ9:Type:=((List A9)×(List A9)×Unit)
def YE (y:vZ9)(x:AD):Vm AD:=
 let d:=y.1
 let e:=y.2.1
 let b:=x.1
 let a:Bool:=b<len d
 let c:=!(Ty.eqb DQ (nth d b A5) (nth e b A5))
 (a->A7 b (len d)/\A7 b (len e)/\(!c->A6 (b+1)),a&&(!c),(b+1,()),a&&c,!a)
def tL3 y x:=(YE y x).1
def YF y x:=(YE y x).2.1
def YG y x:=(YE y x).2.2.1
def sJ4 y x:=(YE y x).2.2.2.1
def oE8 y x:=(YE y x).2.2.2.2
def sS6 (y:vZ9)(x:AD):Bool:=
 false
def oE9:=li [(0,Ai),(1,Ai)] [(5,vI)] YF YG tL3 (λy x=>[ex 1 (some (sJ4 y x)) [(4,vB)] ((sS6 y x),()),ex 2 (some (oE8 y x)) [] ()]) [[(4,vB)],[]]
def lP4 (e f:List A9):Prop×Bool:=
 let b:=len e !=len f
 let a:=(e,f,())
 let d:=((0:Int),())
 let c:=A3 (YF a) (YG a) d
 (!b->AB (YF a) (YG a) (tL3 a) d,cond b false (cond (sJ4 a c) (sS6 a c) true))
def qI1 a b:=(lP4 a b).1
def Kz a b:=(lP4 a b).2
theorem mT1:SK 127 (BF Ai Ai vB qI1 Kz):=fb Tryz.func127 26 [] [(4,oE9)]
abbrev uA:Type:=(Iw×Iw×Unit)
def YH (y:uA)(x:AD):Vm AD:=
 let d:=y.1
 let e:=y.2.1
 let b:=x.1
 let a:Bool:=b<len d.2.2.2.1
 let c:=!(Ty.eqb AQ (nth d.2.2.2.1 b A1) (nth e.2.2.2.1 b A1))
 (a->A7 b (len d.2.2.2.1)/\A7 b (len e.2.2.2.1)/\(!c->A6 (b+1)),a&&(!c),(b+1,()),a&&c,!a)
def tL4 y x:=(YH y x).1
def uL y x:=(YH y x).2.1
def Uy y x:=(YH y x).2.2.1
def YI y x:=(YH y x).2.2.2.1
def oF y x:=(YH y x).2.2.2.2
def sS7 (y:uA)(x:AD):Bool:=
 false
def oF0:=li [(2,(.box SS Da)),(3,(.box SS Da))] [(5,vI)] uL Uy tL4 (λy x=>[ex 1 (some (YI y x)) [(4,vB)] ((sS7 y x),()),ex 2 (some (oF y x)) [] ()]) [[(4,vB)],[]]
def lP5 (e f:Iw):Prop×Bool:=
 let b:=cond (cond (cond (e.1 !=f.1) true (e.2.1 !=f.2.1)) true (e.2.2.1 !=f.2.2.1)) true (len e.2.2.2.1!=len f.2.2.2.1)
 let a:=(e,f,())
 let d:=((0:Int),())
 let c:=A3 (uL a) (Uy a) d
 (!b->AB (uL a) (Uy a) (tL4 a) d,cond b false (cond (YI a c) (sS7 a c) true))
def qI2 a b:=(lP5 a b).1
def IB a b:=(lP5 a b).2
theorem mT2:SK 128 (BF Da Da vB qI2 IB):=fb Tryz.func128 52 [] [(4,oF0)]
def M1 (i j:AJ):Prop×Bool:=
 let c:=cond (cond (IA (Q6 i).1 (Q6 j).1) (Ty.eqb EG (Q9 i).1 (Q9 j).1) false) ((Qb i).1==(Qb j).1) false
 let d:=cond (cond c (I9 (Qa i).1 (Qa j).1) false) ((Qe i).1==(Qe j).1) false
 let e:=cond d (Ky (Qd i).1 (Qd j).1) false
 let f:=cond (cond e (Kz (Q8 i).1 (Q8 j).1) false) ((Qi i).1==(Qi j).1) false
 let g:=cond (cond f ((Qc i).1==(Qc j).1) false) ((Qf i).1==(Qf j).1) false
 let h:=cond (cond g ((Qg i).1==(Qg j).1) false) ((Qk i).1==(Qk j).1) false
 let b:=cond (cond h ((Ql i).1==(Ql j).1) false) ((Qm i).1==(Qm j).1) false
 let a:=cond b ((Qh i).1==(Qh j).1) false
 (qI (Q6 i).1 (Q6 j).1/\(c->Y8 (Qa i).1 (Qa j).1)/\(d->qI0 (Qd i).1 (Qd j).1)/\(e->qI1 (Q8 i).1 (Q8 j).1)/\(a->qI2 (Qj i).1 (Qj j).1),cond a (IB (Qj i).1 (Qj j).1) false)
def YJ a b:=(M1 a b).1
def Ow a b:=(M1 a b).2
theorem lP6:SK 98 (BF Aw Aw vB YJ Ow):=fb Tryz.func98 115 [kb oT4,kb mT,kb mT0,kb mT1,kb mT2]
def QR (e f:AJ):Prop×Bool:=
 let c:=cond (cond (cond (cond (e.1==f.1) (e.2.1==f.2.1) false) (e.2.2.1==f.2.2.1) false) (e.2.2.2.1==f.2.2.2.1) false) (Ty.eqb .bool e.2.2.2.2.1 f.2.2.2.2.1) false
 let d:=cond (cond (cond c (Ty.eqb .bool (Q1 e).1 (Q1 f).1) false) (Ty.eqb .bool (Q3 e).1 (Q3 f).1) false) ((Q0 e).1==(Q0 f).1) false
 let a:=cond d ((Q5 e).1==(Q5 f).1) false
 let b:=cond (cond (cond a (Uv (Q4 e).1 (Q4 f).1) false) (Ty.eqb Hk (Q2 e).1 (Q2 f).1) false) ((Q7 e).1==(Q7 f).1) false
 ((a->Y9 (Q4 e).1 (Q4 f).1)/\(b->YJ e f),cond b (Ow e f) false)
def Ox a b:=(QR a b).1
def J8 a b:=(QR a b).2
theorem nZ7:SK 64 (BF Aw Aw vB Ox J8):=fb Tryz.func64 92 [kb lP1,kb lP6]
abbrev uP9:Type:=(Fs×Unit)
def YK (y:uP9)(x:AD):Vm AD:=
 let d:=y.1
 let b:=x.1
 let a:Bool:=b<len d.2.2.1
 let e:Bool:=nth d.2.2.1 b 0<0
 let c:=cond e true (nth d.2.2.1 b 0>65535)
 (a->A7 b (len d.2.2.1)/\(!e->A7 b (len d.2.2.1))/\(!c->A6 (b+1)),a&&(!c),(b+1,()),a&&c,!a)
def rI y x:=(YK y x).1
def sY7 y x:=(YK y x).2.1
def uQ y x:=(YK y x).2.2.1
def qT6 y x:=(YK y x).2.2.2.1
def oT5 y x:=(YK y x).2.2.2.2
def rI0 (y:uP9)(x:AD):Int:=
 2
def oT6:=li [(1,(.box Hj By))] [(3,vI)] sY7 uQ rI (λy x=>[ex 1 (some (qT6 y x)) [(2,vI)] ((rI0 y x),()),ex 2 (some (oT5 y x)) [] ()]) [[(2,vI)],[]]
def YL (g:Fs):Prop×Int:=
 let b:=cond (cond (cond (g.1<0) true (g.1>256)) true (g.2.1<0)) true (g.2.1>256)
 let c:=!(Ty.eqb .bool (g.1==0) (g.2.1==0))
 let d:=cond c true (len g.2.2.1!=(g.1*g.2.1))
 let a:=(g,())
 let f:=((0:Int),())
 let e:=A3 (sY7 a) (uQ a) f
 (!b->(!c->A6 (g.1*g.2.1))/\(!d->AB (sY7 a) (uQ a) (rI a) f),cond b 15 (cond d 15 (cond (qT6 a e) (rI0 a e) 0)))
def pP6 a:=(YL a).1
def Uz a:=(YL a).2
theorem nZ8:SK 61 (AU By vI pP6 Uz):=fb Tryz.func61 61 [] [(6,oT6)]
def lP7 (a b c:Int):Prop×Bool:=
 (True,cond (a≥b) (decide (a<=c)) false)
def tD a b c:=(lP7 a b c).1
def Fi a b c:=(lP7 a b c).2
theorem oT7:SK 147 (DU vI vI vI vB tD Fi):=fb Tryz.func147 15
def nO3 (d:Int):Prop×(List UInt8):=
 let b:=cond (d<1) true (d>11)
 let c:=([([103,114,111,117,112]:List UInt8),([105,109,97,103,101]:List UInt8),([102,105,108,108]:List UInt8),([103,114,97,100,105,101,110,116]:List UInt8),([112,97,116,104]:List UInt8),([116,101,120,116]:List UInt8),([97,100,106,117,115,116]:List UInt8),([102,105,108,116,101,114]:List UInt8),([108,105,110,107]:List UInt8),([99,108,111,110,101]:List UInt8),([119,97,114,112]:List UInt8)]:List (List UInt8))
 let a:=d-1
 (!b->A6 (d-1)/\A7 a (len c),cond b [] (nth c a []))
def YM a:=(nO3 a).1
def M3 a:=(nO3 a).2
theorem mT3:SK 148 (AU vI vS YM M3):=fb Tryz.func148 14
abbrev U0:Type:=((List UInt8)×Unit)
def YN (y:U0)(x:AD):Vm AD:=
 let c:=y.1
 let a:=x.1
 let e:Bool:=a<len c
 let d:Bool:=wD c a<33
 let b:=cond d true (wD c a>126)
 (e->A7 a (len c)/\(!d->A7 a (len c))/\(!b->A6 (a+1)),e&&(!b),(a+1,()),e&&b,!e)
def rY6 y x:=(YN y x).1
def U1 y x:=(YN y x).2.1
def U4 y x:=(YN y x).2.2.1
def rY7 y x:=(YN y x).2.2.2.1
def oF1 y x:=(YN y x).2.2.2.2
def sS9 (y:U0)(x:AD):Bool:=
 false
def oF2:=li [(0,vS)] [(3,vI)] U1 U4 rY6 (λy x=>[ex 1 (some (rY7 y x)) [(2,vB)] ((sS9 y x),()),ex 2 (some (oF1 y x)) [(0,vS)] (y.1,())]) [[(2,vB)],[(0,vS)]]
def lP8 (d:List UInt8):Prop×Bool:=
 let a:=(d,())
 let c:=((0:Int),())
 let b:=A3 (U1 a) (U4 a) c
 (AB (U1 a) (U4 a) (rY6 a) c,cond (rY7 a b) (sS9 a b) (cond (len d>0) (decide (len d<=32)) false))
def pH5 a:=(lP8 a).1
def M4 a:=(lP8 a).2
theorem mT4:SK 149 (AU vS vB pH5 M4):=fb Tryz.func149 28 [] [(2,oF2)]
def lP9 (a:Int):Prop×Bool:=
 (True,cond (a≥0) (decide (a<=17)) false)
def oT8 a:=(lP9 a).1
def QS a:=(lP9 a).2
theorem mT5:SK 150 (AU vI vB oT8 QS):=fb Tryz.func150 9
def lQ (a:AJ):Prop×Bool:=
 (True,cond (cond (a.2.1==7) true (a.2.1==8)) true (a.2.1==11))
def oT9 a:=(lQ a).1
def YO a:=(lQ a).2
theorem mT6:SK 151 (AU Aw vB oT9 YO):=fb Tryz.func151 16
def mT7 (l:AJ)(m n:Int):Prop×Int:=
 let b:=!(Fi m 1 256)
 let c:=cond b true (!(Fi n 1 256))
 let d:=M3 l.2.1==[]
 let e:=!(M4 l.2.2.2.1)
 let f:=!(Fi l.1 0 1073741824)
 let g:=cond f true (!(Fi l.2.2.1 0 1073741824))
 let h:=cond g true (!(Fi (Q0 l).1 0 65535))
 let i:=!(QS (Q5 l).1)
 let j:=cond i true (cond (YO l) ((Q5 l).1 !=0) false)
 let k:=Uz (Q4 l).1
 let a:=cond (k !=0) k (cond (cond ((Q4 l).1.1 !=0) (cond ((Q4 l).1.1 !=m) true ((Q4 l).1.2.1 !=n)) false) 15 0)
 (tD m 1 256/\(!b->tD n 1 256)/\(!c->YM l.2.1/\(!d->pH5 l.2.2.2.1/\(!e->tD l.1 0 1073741824/\(!f->tD l.2.2.1 0 1073741824)/\(!g->tD (Q0 l).1 0 65535)/\(!h->oT8 (Q5 l).1/\(!i->oT9 l)/\(!j->pP6 (Q4 l).1))))),cond c 15 (cond d 8 (cond e 13 (cond h 2 (cond j 8 a)))))
def pH6 a b c:=(mT7 a b c).1
def IC a b c:=(mT7 a b c).2
theorem mT8:SK 115 (DU Aw vI vI vI pH6 IC):=fb Tryz.func115 77 [kb nZ8,kb oT7,kb mT3,kb mT4,kb mT5,kb mT6]
def mT9 (a:Int):Prop×Bool:=
 (True,cond (cond (cond (cond (a==2) true (a==5)) true (a==6)) true (a==9)) true (a==10))
def pH7 a:=(mT9 a).1
def H0 a:=(mT9 a).2
theorem oU:SK 116 (AU vI vB pH7 H0):=fb Tryz.func116 21
def lQ0 (a b c:Int):Prop×Int:=
 (True,GJ c (GI a b))
def YP a b c:=(lQ0 a b c).1
def f218 a b c:=(lQ0 a b c).2
theorem qI3:SK 218 (DU vI vI vI vI YP f218):=fb Tryz.func218 12
def lQ1 (a:Int):Prop×Int:=
 (YP a (-16777216:Int) 16777216,f218 a (-16777216:Int) 16777216)
def YQ a:=(lQ1 a).1
def K0 a:=(lQ1 a).2
theorem mU:SK 181 (AU vI vI YQ K0):=fb Tryz.func181 5 [kb qI3]
def lQ2 (a:Int):Prop×Int:=
 (YP a (-1099511627776:Int) 1099511627776,f218 a (-1099511627776:Int) 1099511627776)
def QT a:=(lQ2 a).1
def H2 a:=(lQ2 a).2
theorem oU0:SK 182 (AU vI vI QT H2):=fb Tryz.func182 5 [kb qI3]
def lQ3 (a:C3):Prop×C3:=
 (YQ a.1/\YQ a.2.1/\YQ a.2.2.1/\YQ a.2.2.2.1/\QT a.2.2.2.2.1/\QT (Q1 a).1,(K0 a.1,K0 a.2.1,K0 a.2.2.1,K0 a.2.2.2.1,H2 a.2.2.2.2.1,H2 (Q1 a).1,()))
def qI4 a:=(lQ3 a).1
def K1 a:=(lQ3 a).2
theorem oU1:SK 152 (AU Az Az qI4 K1):=fb Tryz.func152 22 [kb mU,kb oU0]
def lQ4 (a:C3):Prop×Int:=
 (qI4 a,cond (!(Ty.eqb Hk (K1 a) a)) (2:Int) 0)
def Oy a:=(lQ4 a).1
def DX a:=(lQ4 a).2
theorem qI5:SK 117 (AU Az vI Oy DX):=fb Tryz.func117 7 [kb oU1]
def YR (f g:Int):Prop×Int:=
 let e:=g==0
 let b:=cond (f==(-9223372036854775808)) (g==(-1)) false
 let c:=wrap .i64 (tdiv f g)
 let d:=tmod f g
 let a:=cond e 0 (cond b 9223372036854775807 (cond (cond (d !=0) (!(Ty.eqb .bool (decide (d<0)) (decide (g<0)))) false) (wrap .i64 (c-1)) c))
 (!e->!b->g≠0/\g≠0,a)
def M5 a b:=(YR a b).1
def EX a b:=(YR a b).2
theorem oU3:SK 183 (BF vI vI vI M5 EX):=fb Tryz.func183 33 [] [] [] true
def U5 (a:Int):Prop×Int:=
 (True,cond (a<0) (wrap .u64 (0-(wrap .u64 a))) (wrap .u64 a))
def M6 a:=(U5 a).1
def BB a:=(U5 a).2
theorem oU4:SK 184 (AU vI Ap M6 BB):=fb Tryz.func184 10 [] [] [] true
def YS (f g:Int):Prop×Int:=
 let e:=g==0
 let a:=EX f g
 let b:=cond (f==(-9223372036854775808)) (g==(-1)) false
 let c:=wrap .i64 (f-(wrap .i64 (g*a)))
 let d:=BB c
 (!e->M5 f g/\(!b->M6 c/\M6 g),cond e 0 (cond b a (cond (d≥wrap .u64 (BB g-d)) (wrap .i64 (a+1)) a)))
def wH a b:=(YS a b).1
def AZ a b:=(YS a b).2
def oU6:=BF vI vI vI wH AZ
theorem ID:SK 153 (BF vI vI vI wH AZ):=fb Tryz.func153 34 [kb oU3,kb oU4] [] [] true
def mU0 (d e f g:Int):Prop×Int:=
 let a:=EX f 65536
 let b:=EX g 65536
 let c:=wrap .i64 (wrap .i64 (d*wrap .i64 (f-(wrap .i64 (a*65536))))+wrap .i64 (e*wrap .i64 (g-(wrap .i64 (b*65536)))))
 (M5 f 65536/\M5 g 65536/\wH c 65536,wrap .i64 (wrap .i64 (wrap .i64 (d*a)+wrap .i64 (e*b))+AZ c 65536))
def U6 a b c d:=(mU0 a b c d).1
def H3 a b c d:=(mU0 a b c d).2
theorem oU7:SK 154 (FA vI vI vI vI vI U6 H3):=fb Tryz.func154 41 [kb ID,kb oU3] [] [] true
def mU1 (p:C3):Prop×(C3×Int×Unit):=
 let v:=DX p
 let c:=v !=0
 let a:=wrap .i64 (wrap .i64 (p.1*p.2.2.2.1)-(wrap .i64 (p.2.1*p.2.2.1)))
 let d:=a==0
 let l:=wrap .i64 (p.2.2.2.1*4294967296)
 let e:=AZ l a
 let m:=wrap .i64 (wrap .i64 (sub 0 p.2.1)*4294967296)
 let f:=AZ m a
 let n:=wrap .i64 (wrap .i64 (sub 0 p.2.2.1)*4294967296)
 let g:=AZ n a
 let o:=wrap .i64 (p.1*4294967296)
 let h:=AZ o a
 let k:=(e,f,g,h,(0:Int),(0:Int),())
 let i:=DX k !=0
 let q:=wrap .i64 (sub 0 e)
 let r:=wrap .i64 (sub 0 g)
 let s:=wrap .i64 (sub 0 f)
 let t:=wrap .i64 (sub 0 h)
 let b:=(e,f,g,h,H3 q r p.2.2.2.2.1 (Q1 p).1,H3 s t p.2.2.2.2.1 (Q1 p).1,())
 let u:=DX b !=0
 let j:=cond d (0,0,0,0,0,0,()) (cond i (0,0,0,0,0,0,()) (cond u (0,0,0,0,0,0,()) b))
 (Oy p/\(!c->!d->wH l a/\wH m a/\wH n a/\wH o a/\Oy k/\(!i->U6 q r p.2.2.2.2.1 (Q1 p).1/\U6 s t p.2.2.2.2.1 (Q1 p).1/\Oy b)),(cond c (0,0,0,0,0,0,()) j,cond c v (cond d 17 (cond i 17 (cond u 17 0))),()))
def pH8 a:=(mU1 a).1
def IE a:=(mU1 a).2
theorem mU2:SK 118 (AU Az (.tup (.cons Az (.cons vI .nl))) pH8 IE):=fb Tryz.func118 88 [kb qI5,kb ID,kb oU7] [] [] true
def mU3 (a:Int):Prop×Bool:=
 (True,cond (cond (cond (a==2) true (a==9)) true (a==10)) true (a==11))
def pH9 a:=(mU3 a).1
def H4 a:=(mU3 a).2
theorem oU8:SK 119 (AU vI vB pH9 H4):=fb Tryz.func119 17
def lQ5 (a:Int):Prop×Bool:=
 (True,cond (a≥0) (decide (a<=4)) false)
def oU9 a:=(lQ5 a).1
def M7 a:=(lQ5 a).2
theorem mU4:SK 120 (AU vI vB oU9 M7):=fb Tryz.func120 9
def lQ6 (a:Int):Prop×Int:=
 (YP a 0 65535,f218 a 0 65535)
def YT a:=(lQ6 a).1
def K4 a:=(lQ6 a).2
theorem mU5:SK 200 (AU vI vI YT K4):=fb Tryz.func200 5 [kb qI3]
def lQ7 (a:CP):Prop×CP:=
 (YT a.1/\YT a.2.1/\YT a.2.2.1/\YT a.2.2.2.1,(K4 a.1,K4 a.2.1,K4 a.2.2.1,K4 a.2.2.2.1,()))
def oV a:=(lQ7 a).1
def YU a:=(lQ7 a).2
theorem mU6:SK 162 (AU Ck Ck oV YU):=fb Tryz.func162 16 [kb mU5]
def lQ8 (a:CP):Prop×Bool:=
 (oV a,Ty.eqb EG (YU a) a)
def U7 a:=(lQ8 a).1
def Gz a:=(lQ8 a).2
theorem qI6:SK 123 (AU Ck vB U7 Gz):=fb Tryz.func123 7 [kb mU6]
abbrev uQ2:Type:=(GV×Unit)
def YV (y:uQ2)(x:AD):Vm AD:=
 let e:=y.1
 let c:=x.1
 let a:Bool:=c<len e.2.2.1
 let d:=nth e.2.2.1 c Gn
 let b:=!(Gz d)
 (a->A7 c (len e.2.2.1)/\U7 d/\(!b->A6 (c+1)),a&&(!b),(c+1,()),a&&b,!a)
def rI6 y x:=(YV y x).1
def sY8 y x:=(YV y x).2.1
def uQ3 y x:=(YV y x).2.2.1
def qT7 y x:=(YV y x).2.2.2.1
def oV0 y x:=(YV y x).2.2.2.2
def rI7 (y:uQ2)(x:AD):Int:=
 2
def oV1:=li [(1,Dg)] [(3,vI)] sY8 uQ3 rI6 (λy x=>[ex 1 (some (qT7 y x)) [(2,vI)] ((rI7 y x),()),ex 2 (some (oV0 y x)) [] ()]) [[(2,vI)],[]]
def YW (g:GV):Prop×Int:=
 let b:=cond (cond (cond (g.1<0) true (g.1>256)) true (g.2.1<0)) true (g.2.1>256)
 let c:=!(Ty.eqb .bool (g.1==0) (g.2.1==0))
 let d:=cond c true (len g.2.2.1!=(g.1*g.2.1))
 let a:=(g,())
 let f:=((0:Int),())
 let e:=A3 (sY8 a) (uQ3 a) f
 (!b->(!c->A6 (g.1*g.2.1))/\(!d->AB (sY8 a) (uQ3 a) (rI6 a) f),cond b 15 (cond d 15 (cond (qT7 a e) (rI7 a e) 0)))
def U8 a:=(YW a).1
def Ly a:=(YW a).2
theorem nZ9:SK 93 (AU Cd vI U8 Ly):=fb Tryz.func93 54 [kb qI6] [(6,oV1)]
def lQ9 (a:CP):Prop×Int:=
 (U7 a,cond (!(Gz a)) (2:Int) 0)
def Oz a:=(lQ9 a).1
def G3 a:=(lQ9 a).2
def oV2:=AU Ck vI Oz G3
theorem pI:SK 155 (AU Ck vI Oz G3):=fb Tryz.func155 6 [kb qI6]
def lR (b:Int)(c:List Int)(d:Int):Prop×Int:=
 let a:=cond (cond (cond (cond (b<1) true (b>4)) true (d<0)) true (d>2)) (8:Int) (cond (cond (cond (b==1) (len c !=4) false) true (cond (b !=1) (len c !=3) false)) 1 0)
 (True,a)
def oV3 a b c:=(lR a b c).1
def IF a b c:=(lR a b c).2
theorem mU7:SK 185 (DU vI Ak vI vI oV3 IF):=fb Tryz.func185 37
abbrev uA1:Type:=(Int×(List Int)×Int×Unit)
def YX (y:uA1)(x:AD):Vm AD:=
 let d:=y.2.1
 let a:=x.1
 let e:Bool:=a<y.2.2.1
 let c:Bool:=nth d a 0<(-1048576)
 let b:=cond c true (nth d a 0>1048576)
 (e->A7 a (len d)/\(!c->A7 a (len d))/\(!b->A6 (a+1)),e&&(!b),(a+1,()),e&&b,!e)
def rY9 y x:=(YX y x).1
def sA5 y x:=(YX y x).2.1
def uG0 y x:=(YX y x).2.2.1
def rZ y x:=(YX y x).2.2.2.1
def rZ0 y x:=(YX y x).2.2.2.2
def sT0 (y:uA1)(x:AD):Int:=
 2
def rZ1:List (Nat×Sh):=[(0,vI),(1,Ak)]
def oF4:=li [(0,vI),(1,Ak),(7,vI)] [(8,vI)] sA5 uG0 rY9 (λy x=>[ex 1 (some (rZ y x)) [(4,vI)] ((sT0 y x),()),ex 2 (some (rZ0 y x)) rZ1 (y.1,y.2.1,())]) [[(4,vI)],rZ1]
def lR0 (e:Int)(f:List Int):Prop×Int:=
 let a:=(e,f,len f,())
 let d:=((0:Int),())
 let c:=A3 (sA5 a) (uG0 a) d
 let b:=cond (e==2) true (e==4)
 (AB (sA5 a) (uG0 a) (rY9 a) d/\(rZ0 a c->b->A7 2 (len f)),cond (rZ a c) (sT0 a c) (cond (cond b (decide (nth f 2 0<0)) false) 2 0))
def oV4 a b:=(lR0 a b).1
def K5 a b:=(lR0 a b).2
theorem mU8:SK 186 (BF vI Ak vI oV4 K5):=fb Tryz.func186 36 [] [(2,oF4)]
def QU (y:vH8)(x:AD):Vm AD:=
 let b:=y.1
 let a:=x.1
 let c:Bool:=a<y.2.1
 let h:Bool:=(nth b a CG).1<0
 let f:=cond h true ((nth b a CG).1>65535)
 let i:=nth b a CG
 let d:=cond f true (!(Gz i.2.1))
 let e:Bool:=a>0
 let j:=a-1
 let k:=cond e (decide ((nth b a CG).1<=(nth b j CG).1)) false
 let g:=(!d)&&(!k)
 (c->A7 a (len b)/\(!h->A7 a (len b))/\(!f->A7 a (len b))/\(!f->U7 i.2.1)/\(!d->(e->A7 a (len b))/\(e->A6 (a-1))/\(e->A7 j (len b)))/\(g->A6 (a+1)),c&&g,(a+1,()),c&&(d||((!d)&&k)),!c)
def sJ7 y x:=(QU y x).1
def YY y x:=(QU y x).2.1
def uG1 y x:=(QU y x).2.2.1
def sJ8 y x:=(QU y x).2.2.2.1
def oF5 y x:=(QU y x).2.2.2.2
def tD3 (y:vH8)(x:AD):Int:=
 let b:=y.1
 let a:=x.1
 (cond (cond (cond ((nth b a CG).1<0) true ((nth b a CG).1>65535)) true (!(Gz (nth b a CG).2.1))) (2:Int) 24)
def oF6:=li [(0,Ao),(11,vI)] [(12,vI)] YY uG1 sJ7 (λy x=>[ex 1 (some (sJ8 y x)) [(2,vI)] ((tD3 y x),()),ex 2 (some (oF5 y x)) [] ()]) [[(2,vI)],[]]
def mU9 (f:List B0):Prop×Int:=
 let c:=len f==0
 let d:Bool:=len f>16
 let a:=(f,len f,())
 let e:=((0:Int),())
 let b:=A3 (YY a) (uG1 a) e
 (!c->!d->AB (YY a) (uG1 a) (sJ7 a) e,cond c 1 (cond d 3 (cond (sJ8 a b) (tD3 a b) 0)))
def pI0 a:=(mU9 a).1
def K6 a:=(mU9 a).2
theorem mV:SK 187 (AU Ao vI pI0 K6):=fb Tryz.func187 55 [kb qI6] [(6,oF6)]
def lR1 (g:Int)(h:List Int)(i:Int)(j:List B0):Prop×Int:=
 let a:=IF g h i
 let b:=a !=0
 let c:=len j==0
 let d:Bool:=len j>16
 let e:=K5 g h
 let f:=e !=0
 (oV3 g h i/\(!b->!c->!d->oV4 g h/\(!f->pI0 j)),cond b a (cond c 1 (cond d 3 (cond f e (K6 j)))))
def pI1 a b c d:=(lR1 a b c d).1
def M8 a b c d:=(lR1 a b c d).2
theorem mV0:SK 156 (FA vI Ak vI Ao vI pI1 M8):=fb Tryz.func156 31 [kb mU7,kb mU8,kb mV]
def mV1 (f:Int):Prop×Int:=
 let d:=f==1
 let c:=cond d d (f==2)
 let e:=f==3
 let b:=f==4
 let a:=cond (cond c true (cond e true (cond b true (f==5)))) (cond c 1 (cond e 2 (cond b 3 0))) (-1:Int)
 (True,a)
def QV a:=(mV1 a).1
def B6 a:=(mV1 a).2
theorem YZ:SK 220 (AU vI vI QV B6):=fb Tryz.func220 13
def mV2 (a:A0):Prop×Bool:=
 (True,cond (cond (cond (a.1≥(-16777216)) (decide (a.1<=16777216)) false) (decide (a.2.1≥(-16777216))) false) (decide (a.2.1<=16777216)) false)
def Za a:=(mV2 a).1
def DY a:=(mV2 a).2
theorem pI2:SK 222 (AU Aq vB Za DY):=fb Tryz.func222 21
abbrev uA3:Type:=(A9×Unit)
def U9 (y:uA3)(x:AD):Vm AD:=
 let e:=y.1
 let a:=x.1
 let h:Bool:=a<3
 let b:Bool:=a<B6 e.1
 let f:=nth e.2.1 a A1
 let c:=cond b (!(DY f)) false
 let g:Bool:=a≥B6 e.1
 let d:=cond c true (cond g (!(Ty.eqb AQ (nth e.2.1 a A1) (0,0,()))) false)
 (h->QV e.1/\(b->A7 a 3)/\(b->Za f)/\(!c->QV e.1)/\(((!c)&&g)->A7 a 3)/\(!d->A6 (a+1)),h&&(!d),(a+1,()),h&&d,!h)
def rZ2 y x:=(U9 y x).1
def O0 y x:=(U9 y x).2.1
def QW y x:=(U9 y x).2.2.1
def sJ9 y x:=(U9 y x).2.2.2.1
def oF7 y x:=(U9 y x).2.2.2.2
def sT1 (y:uA3)(x:AD):Bool:=
 false
def oF8:=li [(1,Bh)] [(3,vI)] O0 QW rZ2 (λy x=>[ex 1 (some (sJ9 y x)) [(2,vB)] ((sT1 y x),()),ex 2 (some (oF7 y x)) [] ()]) [[(2,vB)],[]]
def lR2 (d:A9):Prop×Bool:=
 let a:=(d,())
 let c:=((0:Int),())
 let b:=A3 (O0 a) (QW a) c
 (AB (O0 a) (QW a) (rZ2 a) c,cond (sJ9 a b) (sT1 a b) true)
def pI3 a:=(lR2 a).1
def H5 a:=(lR2 a).2
theorem mV3:SK 253 (AU Dd vB pI3 H5):=fb Tryz.func253 36 [kb YZ,kb pI2] [(2,oF8)]
abbrev O1:Type:=((List A9)×Unit)
def O2 (y:O1)(x:AD):Vm AD:=
 let b:=y.1
 let a:=x.1
 let c:Bool:=a<len b
 let i:=nth b a A5
 let d:Bool:=B6 i.1<0
 let j:=nth b a A5
 let e:=!(H5 j)
 let f:=(nth b a A5).1 !=1
 let g:=a==0
 let k:=a-1
 let l:=cond f (cond g true ((nth b k A5).1==5)) false
 let h:=(!d)&&((!e)&&(!l))
 (c->A7 a (len b)/\QV i.1/\(!d->A7 a (len b)/\pI3 j/\(!e->A7 a (len b)/\((f&&(!g))->A6 (a-1))/\((f&&(!g))->A7 k (len b))))/\(h->A6 (a+1)),c&&h,(a+1,()),c&&(d||((!d)&&(e||((!e)&&l)))),!c)
def rZ3 y x:=(O2 y x).1
def UA y x:=(O2 y x).2.1
def uG3 y x:=(O2 y x).2.2.1
def tL6 y x:=(O2 y x).2.2.2.1
def oF9 y x:=(O2 y x).2.2.2.2
def uG4 (y:O1)(x:AD):Int:=
 let a:=y.1
 let b:=x.1
 (cond (B6 (nth a b A5).1<0) (8:Int) (cond (!(H5 (nth a b A5))) 2 24))
def oG:=li [(0,Ai)] [(3,vI)] UA uG3 rZ3 (λy x=>[ex 1 (some (tL6 y x)) [(2,vI)] ((uG4 y x),()),ex 2 (some (oF9 y x)) [] ()]) [[(2,vI)],[]]
def lR3 (e:List A9):Prop×Int:=
 let c:Bool:=len e>128
 let a:=(e,())
 let d:=((0:Int),())
 let b:=A3 (UA a) (uG3 a) d
 (!c->AB (UA a) (uG3 a) (rZ3 a) d,cond c 3 (cond (tL6 a b) (uG4 a b) 0))
def sK a:=(lR3 a).1
def f219 a:=(lR3 a).2
theorem qI7:SK 219 (AU Ai vI sK f219):=fb Tryz.func219 45 [kb YZ,kb mV3] [(4,oG)]
def mV4 (f:C3)(g:A0):Prop×A0:=
 let a:=K1 f
 let b:=H2 g.1
 let c:=H2 g.2.1
 let d:=wrap .i64 (H3 a.1 a.2.2.1 b c+a.2.2.2.2.1)
 let e:=wrap .i64 (H3 a.2.1 a.2.2.2.1 b c+(Q1 a).1)
 (qI4 f/\QT g.1/\QT g.2.1/\U6 a.1 a.2.2.1 b c/\QT d/\U6 a.2.1 a.2.2.2.1 b c/\QT e,(H2 d,H2 e,()))
def pI4 a b:=(mV4 a b).1
def M9 a b:=(mV4 a b).2
theorem mV5:SK 254 (BF Az Aq Aq pI4 M9):=fb Tryz.func254 38 [kb oU1,kb oU7,kb oU0] [] [] true
def mV6 (b:C3)(c:A0):Prop×A0:=
 let s:=(wrap .i64 (4096*c.1),wrap .i64 (4096*c.2.1),())
 let a:=M9 b s
 (pI4 b s/\wH a.1 4096/\wH a.2.1 4096,(AZ a.1 4096,AZ a.2.1 4096,()))
def rJ a b:=(mV6 a b).1
def DR a b:=(mV6 a b).2
theorem oV5:SK 221 (BF Az Aq Aq rJ DR):=fb Tryz.func221 22 [kb ID,kb mV5] [] [] true
abbrev wV0:Type:=((List A9)×C3×(List A9)×Int×Unit)
abbrev QX:Type:=(A9×Int×Unit)
def Zb (y:wV0)(x:QX):Vm QX:=
 let g:=y.2.1
 let b:=x.1
 let a:=x.2.1
 let c:Bool:=a<B6 b.1
 let e:=nth b.2.1 a A1
 let s:=set b.2.1 (toNat a) (DR g e)
 let f:=nth s a A1
 let d:=!(DY f)
 (QV b.1/\(c->A7 a 3/\rJ g e/\A7 a 3/\A7 a 3/\Za f/\(!d->A6 (a+1))),c&&(!d),((b.1,s,()),a+1,()),c&&d,!c)
def uQ5 y x:=(Zb y x).1
def G4 y x:=(Zb y x).2.1
def wF y x:=(Zb y x).2.2.1
def uQ6 y x:=(Zb y x).2.2.2.1
def uQ7 y x:=(Zb y x).2.2.2.2
def sA6 (y:wV0)(x:QX):(List A9):=
 []
def sA7 (y:wV0)(x:QX):Int:=
 2
def rJ0:List (Nat×Sh):=[(4,Bj),(5,vI)]
def sA8 (y:wV0)(x:QX):A9:=
 x.1
def rJ1:List (Nat×Sh):=[(0,Ai),(3,Bp),(8,Cg),(9,vI),(10,Bh)]
def pI5:=li [(0,Ai),(3,Bp),(8,Cg),(9,vI)] [(10,Bh),(11,vI)] G4 wF uQ5 (λy x=>[ex 1 (some (uQ6 y x)) rJ0 ((sA6 y x),(sA7 y x),()),ex 4 (some (uQ7 y x)) rJ1 (y.1,y.2.1,y.2.2.1,y.2.2.2.1,(sA8 y x),())]) [rJ0,rJ1]
abbrev Zc:Type:=((List A9)×C3×Unit)
def Zd (y:Zc)(x:Ek):Vm Ek:=
 let h:=y.1
 let i:=x.1
 let e:=x.2.1
 let c:Bool:=e<len h
 let a:=(h,y.2.1,i,e,())
 let g:=(nth h e A5,(0:Int),())
 let d:=A3 (G4 a) (wF a) g
 let b:=uQ7 a d
 let f:=([sA8 a d]:List A9)
 (c->A7 e (len h)/\AB (G4 a) (wF a) (uQ5 a) g/\(b->((length i+length f:Nat):Int)<=4294967296)/\(b->A6 (e+1)),c&&b,(i++f,e+1,()),c&&uQ6 a d,!c)
def tL7 y x:=(Zd y x).1
def K7 y x:=(Zd y x).2.1
def J9 y x:=(Zd y x).2.2.1
def sK0 y x:=(Zd y x).2.2.2.1
def oG0 y x:=(Zd y x).2.2.2.2
def tD5 (y:Zc)(x:Ek):(List A9):=
 let b:=y.1
 let c:=x.2.1
 let a:=(b,y.2.1,x.1,c,())
 (sA6 a (A3 (G4 a) (wF a) (nth b c A5,0,())))
def tD6 (y:Zc)(x:Ek):Int:=
 let b:=y.1
 let c:=x.2.1
 let a:=(b,y.2.1,x.1,c,())
 (sA7 a (A3 (G4 a) (wF a) (nth b c A5,0,())))
def rZ4:List (Nat×Sh):=[(4,Bj),(5,vI)]
def tD7 (y:Zc)(x:Ek):(List A9):=
 x.1
def oG1:=li [(0,Ai),(3,Bp)] [(8,Cg),(9,vI)] K7 J9 tL7 (λy x=>[ex 1 (some (sK0 y x)) rZ4 ((tD5 y x),(tD6 y x),()),ex 2 (some (oG0 y x)) [(8,Cg)] ((tD7 y x),())]) [rZ4,[(8,Cg)]]
def Ze (i:List A9)(j:C3):Prop×((List A9)×Int×Unit):=
 let e:=f219 i
 let c:=e !=0
 let f:=DX j
 let d:=f !=0
 let a:=(i,j,())
 let h:=(([]:List A9),(0:Int),())
 let g:=A3 (K7 a) (J9 a) h
 let b:=sK0 a g
 (sK i/\(!c->Oy j/\(!d->AB (K7 a) (J9 a) (tL7 a) h)),(cond c [] (cond d [] (cond b (tD5 a g) (tD7 a g))),cond c e (cond d f (cond b (tD6 a g) 0)),()))
def qI8 a b:=(Ze a b).1
def DZ a b:=(Ze a b).2
theorem mV7:SK 188 (BF Ai Az (.tup (.cons Bj (.cons vI .nl))) qI8 DZ):=fb Tryz.func188 60 [kb qI5,kb qI7,kb YZ,kb oV5,kb pI2] [(9,oG1),(13,pI5)] [(15,[(4,0,22,1008)]),(37,[(4,0,58,1008)]),(39,[(4,0,1008,0)])]
def lR4 (m n o p:Int):Prop×Int:=
 let a:=8-p
 let b:=8-p
 let c:=a*b
 let d:=c*m
 let e:=2*p
 let f:=8-p
 let g:=e*f
 let h:=g*n
 let i:=d+h
 let j:=p*p
 let k:=j*o
 let l:=i+k
 (A6 (8-p)/\A6 (8-p)/\A6 (a*b)/\A6 (c*m)/\A6 (2*p)/\A6 (8-p)/\A6 (e*f)/\A6 (g*n)/\A6 (d+h)/\A6 (p*p)/\A6 (j*o)/\A6 (i+k)/\wH l 64,AZ l 64)
def UB a b c d:=(lR4 a b c d).1
def G6 a b c d:=(lR4 a b c d).2
theorem mV8:SK 256 (FA vI vI vI vI vI UB G6):=fb Tryz.func256 31 [kb ID]
def lR5 (p t u v w:Int):Prop×Int:=
 let a:=16-w
 let b:=a*a
 let c:=b*a
 let d:=c*p
 let e:=3*w
 let f:=e*a
 let g:=f*a
 let h:=g*t
 let i:=d+h
 let j:=3*w
 let k:=j*w
 let l:=k*a
 let m:=l*u
 let n:=i+m
 let o:=w*w
 let q:=o*w
 let r:=q*v
 let s:=n+r
 (A6 (16-w)/\A6 (a*a)/\A6 (b*a)/\A6 (c*p)/\A6 (3*w)/\A6 (e*a)/\A6 (f*a)/\A6 (g*t)/\A6 (d+h)/\A6 (3*w)/\A6 (j*w)/\A6 (k*a)/\A6 (l*u)/\A6 (i+m)/\A6 (w*w)/\A6 (o*w)/\A6 (q*v)/\A6 (n+r)/\wH s 4096,AZ s 4096)
def UC a b c d e:=(lR5 a b c d e).1
def G7 a b c d e:=(lR5 a b c d e).2
theorem mV9:SK 257 (sp5 vI vI vI vI vI vI UC G7):=fb Tryz.func257 48 [kb ID]
def pP7 (f:List A0)(g:A0):Prop×(List A0):=
 let e:Bool:=len f>0
 let b:=len f
 let a:=b-1
 let c:=cond e (Ty.eqb AQ (nth f a A1) g) false
 let d:=([g]:List A0)
 ((e->A6 (b-1))/\(e->A7 a (len f))/\(e->a<len f)/\(!c->((length f+length d:Nat):Int)<=4294967296),cond c f (f++d))
def Zf a b:=(pP7 a b).1
def MA a b:=(pP7 a b).2
theorem oG2:SK 255 (BF Bi Aq Du Zf MA):=fb Tryz.func255 23 [] [] [(5,[(4,0,400000,0)]),(7,[(4,0,22,0)])] false [] [22]
abbrev vN7:Type:=(A0×A9×Unit)
def tS2 (y:vN7)(x:CZ):Vn CZ:=
 let g:=y.1
 let h:=y.2.1
 let i:=x.1
 let a:=x.2.1
 let b:Bool:=a<=8
 let c:=(nth h.2.1 0 A1).1
 let d:=(nth h.2.1 1 A1).1
 let e:=(nth h.2.1 0 A1).2.1
 let f:=(nth h.2.1 1 A1).2.1
 let s:=(G6 g.1 c d a,G6 g.2.1 e f a,())
 (b->A7 0 3/\A7 1 3/\UB g.1 c d a/\A7 0 3/\A7 1 3/\UB g.2.1 e f a/\Zf i s/\A6 (a+1),b,(MA i s,a+1,()))
def sB y x:=(tS2 y x).1
def Zg y x:=(tS2 y x).2.1
def Zh y x:=(tS2 y x).2.2
def tD8 (y:vN7)(x:CZ):(List A0):=
 x.1
def qI9:=li [(4,Ca),(5,Bh)] [(0,Bi),(7,vI)] Zg Zh sB (λy x=>[ex 3 none [(0,Bi)] ((tD8 y x),())]) [[(0,Bi)]]
def tD9 (y:vN7)(x:CZ):Vn CZ:=
 let j:=y.1
 let b:=y.2.1
 let k:=x.1
 let a:=x.2.1
 let c:Bool:=a<=16
 let d:=(nth b.2.1 0 A1).1
 let e:=(nth b.2.1 1 A1).1
 let f:=(nth b.2.1 2 A1).1
 let g:=(nth b.2.1 0 A1).2.1
 let h:=(nth b.2.1 1 A1).2.1
 let i:=(nth b.2.1 2 A1).2.1
 let s:=(G7 j.1 d e f a,G7 j.2.1 g h i a,())
 (c->A7 0 3/\A7 1 3/\A7 2 3/\UC j.1 d e f a/\A7 0 3/\A7 1 3/\A7 2 3/\UC j.2.1 g h i a/\Zf k s/\A6 (a+1),c,(MA k s,a+1,()))
def tP5 y x:=(tD9 y x).1
def Zi y x:=(tD9 y x).2.1
def Zj y x:=(tD9 y x).2.2
def uW5 (y:vN7)(x:CZ):(List A0):=
 x.1
def rT3:=li [(4,Ca),(5,Bh)] [(0,Bi),(8,vI)] Zi Zj tP5 (λy x=>[ex 5 none [(0,Bi)] ((uW5 y x),())]) [[(0,Bi)]]
def pP8 (k:List A0)(l:A0)(m:A9):Prop×(List A0):=
 let f:=m.1==1
 let b:=cond f f (m.1==2)
 let g:=nth m.2.1 0 A1
 let c:=m.1==3
 let d:=(l,m,())
 let j:=(k,(1:Int),())
 let h:=m.1==4
 let a:=(l,m,())
 let i:=(k,(1:Int),())
 let e:=cond b (MA k g) (cond c (tD8 d (A3 (Zg d) (Zh d) j)) (cond h (uW5 a (A3 (Zi a) (Zj a) i)) k))
 ((b->A7 0 3/\Zf k g)/\(b=false->(c->AB (Zg d) (Zh d) (sB d) j)/\(c=false->h->AB (Zi a) (Zj a) (tP5 a) i)),e)
def UD a b c:=(pP8 a b c).1
def UE a b c:=(pP8 a b c).2
theorem oG3:SK 223 (DU Bi Aq Dd Du UD UE):=fx (λc=>{ c with wants:=[(255,[0])] }) Tryz.func223 94 [kb oG2,kb mV8,kb mV9] [(7,qI9),(12,rT3)] [(9,[(4,0,18,400000)]),(19,[(4,0,51,400000)]),(29,[(4,0,92,400000)]),(31,[(4,0,400000,0)])]
abbrev uA5:Type:=(((List (List A0))×Nat)×A0×Int×Unit)
def qJ (y:O1)(x:uA5):Vn uA5:=
 let d:=y.1
 let i:=x.1
 let s:=x.2.1
 let c:=x.2.2.1
 let j:Bool:=c<len d
 let f:=(nth d c A5).1==1
 let e:=cond f (i.1++[[]]) i.1
 let b:=cond f (length i.1) i.2
 let k:=len e
 let a:=k-1
 let l:=len e
 let g:=l-1
 let m:=List.getD e b []
 let n:=nth d c A5
 let o:=nth d c A5
 let h:=B6 o.1
 let q:Bool:=h>0
 let r:=h-1
 (j->A7 c (len d)/\(f->((length i.1+1:Nat):Int)<=4294967296)/\A6 (k-1)/\A6 (l-1)/\A7 g (len e)/\(toNat g=b/\g<len e)/\A7 c (len d)/\UD m s n/\A7 a (len e)/\(toNat a=b/\a<len e)/\(toNat a=b/\a<len e)/\A7 c (len d)/\QV o.1/\(q->A6 (h-1)/\A7 c (len d)/\A7 r 3)/\A6 (c+1),j,((set e (toNat a) (UE m s n),toNat a),cond q (nth (nth d c A5).2.1 r A1) s,c+1,()))
def rZ5 y x:=(qJ y x).1
def Zk y x:=(qJ y x).2.1
def Zl y x:=(qJ y x).2.2
def tE1 (y:O1)(x:uA5):((List (List A0))×Nat):=
 let a:=x.1
 (a.1,a.2)
def rZ6:List (Nat×Sh):=[(5,(.ownh AQ 1005 9000005 true))]
def oG4:=li [(0,Ai)] [(5,(.ownh AQ 1005 9000005 true)),(6,Ca),(7,vI)] Zk Zl rZ5 (λy x=>[ex 2 none rZ6 ((tE1 y x),())]) [rZ6]
def lR6 (e:List A9):Prop×((List (List A0))×Int×Unit):=
 let c:=f219 e
 let a:=c !=0
 let b:=(e,())
 let d:=((([]:List (List A0)),length ([]:List (List A0))),((0:Int),(0:Int),()),(0:Int),())
 (sK e/\(!a->AB (Zk b) (Zl b) (rZ5 b) d),(cond a [] (tE1 b (A3 (Zk b) (Zl b) d)).1,cond a c 0,()))
def Zm a:=(lR6 a).1
def DB a:=(lR6 a).2
theorem oV7:SK 189 (AU Ai (.tup (.cons Aj (.cons vI .nl))) Zm DB):=fx (λc=>{ c with wants:=[(223,[0])] }) Tryz.func189 65 [kb qI7,kb YZ,kb oG3] [(7,oG4)] [(9,[(4,0,14,1005)]),(20,[(1,5,0,0)]),(21,[(4,0,30,1005),(4,0,100029,9000005)]),(23,[(4,0,46,9000005)]),(31,[(1,2,0,0),(1,2,0,0),(4,0,1005,0)])] false [] [5,14,29,30]
abbrev uA6:Type:=((List (List A0))×Unit)
def Zn (y:uA6)(x:CU):Vm CU:=
 let f:=y.1
 let g:=x.1
 let c:=x.2.1
 let a:Bool:=c<len f
 let d:=len (nth f c [])
 let e:=g+d
 let b:Bool:=e>4096
 (a->A7 c (len f)/\A6 (g+d)/\(!b->A6 (c+1)),a&&(!b),(e,c+1,()),a&&b,!a)
def sK4 y x:=(Zn y x).1
def QY y x:=(Zn y x).2.1
def QZ y x:=(Zn y x).2.2.1
def tL8 y x:=(Zn y x).2.2.2.1
def sK5 y x:=(Zn y x).2.2.2.2
def sT2 (y:uA6)(x:CU):Int:=
 3
def oG5:=li [(0,Aj)] [(5,vI),(6,vI)] QY QZ sK4 (λy x=>[ex 1 (some (tL8 y x)) [(4,vI)] ((sT2 y x),()),ex 2 (some (sK5 y x)) [(0,Aj)] (y.1,())]) [[(4,vI)],[(0,Aj)]]
def Zo (y:Ft)(x:AD):Vm AD:=
 let h:=y.1
 let d:=y.2.1
 let i:=y.2.2.1
 let e:=x.1
 let a:Bool:=e<len (nth h i [])
 let f:=nth h i []
 let b:=nth f e A1
 let g:=cond (b.1<sub 0 d) true (b.1>d)
 let c:=cond (cond g true (b.2.1<sub 0 d)) true (b.2.1>d)
 (A7 i (len h)/\(a->A7 i (len h)/\A7 e (len f)/\A6 (sub 0 d)/\(!g->A6 (sub 0 d))/\(!c->A6 (e+1))),a&&(!c),(e+1,()),a&&c,!a)
def uQ9 y x:=(Zo y x).1
def Ra y x:=(Zo y x).2.1
def Rb y x:=(Zo y x).2.2.1
def rJ3 y x:=(Zo y x).2.2.2.1
def rJ4 y x:=(Zo y x).2.2.2.2
def sB1 (y:Ft)(x:AD):Int:=
 2
def rJ5:List (Nat×Sh):=[(0,Aj),(7,vI),(8,vI)]
def pI6:=li [(0,Aj),(7,vI),(8,vI)] [(9,vI)] Ra Rb uQ9 (λy x=>[ex 1 (some (rJ3 y x)) [(4,vI)] ((sB1 y x),()),ex 6 (some (rJ4 y x)) rJ5 (y.1,y.2.1,y.2.2.1,())]) [[(4,vI)],rJ5]
def Zp (y:CL)(x:AD):Vm AD:=
 let g:=y.1
 let f:=x.1
 let c:Bool:=f<len g
 let a:=(g,y.2.1,f,())
 let e:=((0:Int),())
 let d:=A3 (Ra a) (Rb a) e
 let b:=rJ4 a d
 (c->AB (Ra a) (Rb a) (uQ9 a) e/\(b->A6 (f+1)),c&&b,(f+1,()),c&&rJ3 a d,!c)
def tS3 y x:=(Zp y x).1
def UF y x:=(Zp y x).2.1
def UG y x:=(Zp y x).2.2.1
def uR y x:=(Zp y x).2.2.2.1
def pI7 y x:=(Zp y x).2.2.2.2
def sB2 (y:CL)(x:AD):Int:=
 let a:=(y.1,y.2.1,x.1,())
 (sB1 a (A3 (Ra a) (Rb a) (0,())))
def pI8:=li [(0,Aj),(7,vI)] [(8,vI)] UF UG tS3 (λy x=>[ex 1 (some (uR y x)) [(4,vI)] ((sB2 y x),()),ex 4 (some (pI7 y x)) [] ()]) [[(4,vI)],[]]
def mW (h:(List (List A0)))(i:Int):Prop×Int:=
 let d:=cond (i !=0) (i !=1) false
 let b:=(h,())
 let g:=((0:Int),(0:Int),())
 let f:=A3 (QY b) (QZ b) g
 let a:=(h,(16777216:Int),())
 let e:=((0:Int),())
 let c:=A3 (UF a) (UG a) e
 (!d->AB (QY b) (QZ b) (sK4 b) g/\(sK5 b f->AB (UF a) (UG a) (tS3 a) e),cond d 8 (cond (tL8 b f) (sT2 b f) (cond (uR a c) (sB2 a c) 0)))
def O3 a b:=(mW a b).1
def Ev a b:=(mW a b).2
def oV8:=BF Aj vI vI O3 Ev
theorem pI9:SK 190 (BF Aj vI vI O3 Ev):=fb Tryz.func190 78 [] [(5,oG5),(12,pI8),(15,pI6)]
def qJ0 (y:O1)(x:vC):Vn vC:=
 let c:=y.1
 let j:=x.1
 let a:=x.2.1
 let e:Bool:=a<len c
 let f:=(nth c a A5).1==1
 let g:=([true]:List Bool)
 let d:=cond f (j++g) j
 let h:=(nth c a A5).1==5
 let i:=len d
 let b:=i-1
 (e->A7 a (len c)/\(f->((length j+length g:Nat):Int)<=4294967296)/\A7 a (len c)/\(h->A6 (i-1)/\A7 b (len d)/\b<len d)/\A6 (a+1),e,(cond h (set d (toNat b) false) d,a+1,()))
def sK6 y x:=(qJ0 y x).1
def Zq y x:=(qJ0 y x).2.1
def UH y x:=(qJ0 y x).2.2
def sT3 (y:O1)(x:vC):(List Bool):=
 x.1
def oG6:=li [(0,Ai)] [(5,Dj),(6,vI)] Zq UH sK6 (λy x=>[ex 2 none [(5,Dj)] ((sT3 y x),())]) [[(5,Dj)]]
def lR7 (e:List A9):Prop×((List Bool)×Int×Unit):=
 let c:=f219 e
 let a:=c !=0
 let b:=(e,())
 let d:=(([]:List Bool),(0:Int),())
 (sK e/\(!a->AB (Zq b) (UH b) (sK6 b) d),(cond a [] (sT3 b (A3 (Zq b) (UH b) d)),cond a c 0,()))
def qJ1 a:=(lR7 a).1
def H6 a:=(lR7 a).2
theorem mW0:SK 191 (AU Ai (.tup (.cons Dz (.cons vI .nl))) qJ1 H6):=fb Tryz.func191 40 [kb qI7] [(6,oG6)] [(9,[(4,0,12,1005)]),(19,[(4,0,27,1005)]),(25,[(1,2,0,0),(4,0,1005,0)])] false [] [12,26,27]
def lR8 (b c d:Int):Prop×Int:=
 let a:=cond (cond (b<1) true (b>4096)) (2:Int) (cond (cond (cond (cond (c<0) true (c>2)) true (d<0)) true (d>2)) 8 0)
 (True,a)
def oV9 a b c:=(lR8 a b c).1
def f224 a b c:=(lR8 a b c).2
theorem mW1:SK 224 (DU vI vI vI vI oV9 f224):=fb Tryz.func224 27
def qJ2 (y:CZ)(x:CU):Vn CU:=
 let a:=y.1
 let c:=x.2.1
 let e:Bool:=c<y.2.1
 let d:=len a
 let b:=tmod (wrap .i64 (c+1)) d
 (e->d≠0/\A7 c (len a)/\A7 b (len a)/\A7 c (len a)/\A7 b (len a),e,(wrap .i64 (x.1+wrap .i64 (wrap .i64 ((nth a c A1).1*(nth a b A1).2.1)-(wrap .i64 ((nth a c A1).2.1*(nth a b A1).1)))),wrap .i64 (c+1),()))
def sK7 y x:=(qJ2 y x).1
def Zr y x:=(qJ2 y x).2.1
def vO y x:=(qJ2 y x).2.2
def sT4 (y:CZ)(x:CU):Int:=
 x.1
def oG7:=li [(0,Bd),(7,vI)] [(3,vI),(8,vI)] Zr vO sK7 (λy x=>[ex 2 none [(3,vI)] ((sT4 y x),())]) [[(3,vI)]]
def lR9 (c:List A0):Prop×Int:=
 let a:=(c,len c,())
 let b:=((0:Int),(0:Int),())
 (AB (Zr a) (vO a) (sK7 a) b,sT4 a (A3 (Zr a) (vO a) b))
def pJ a:=(lR9 a).1
def G8 a:=(lR9 a).2
theorem mW2:SK 285 (AU Bd vI pJ G8):=fb Tryz.func285 43 [] [(3,oG7)] [] true
def mW3 :Prop×(List Int):=
 let a:=([(0:Int),(1608:Int),(3216:Int),(4821:Int),(6424:Int),(8022:Int),(9616:Int),(11204:Int),(12785:Int),(14359:Int),(15924:Int),(17479:Int),(19024:Int),(20557:Int),(22078:Int),(23586:Int),(25080:Int),(26558:Int),(28020:Int),(29466:Int),(30893:Int),(32303:Int),(33692:Int),(35062:Int),(36410:Int),(37736:Int),(39040:Int),(40320:Int),(41576:Int),(42806:Int),(44011:Int),(45190:Int),(46341:Int),(47464:Int),(48559:Int),(49624:Int),(50660:Int),(51665:Int),(52639:Int),(53581:Int),(54491:Int),(55368:Int),(56212:Int),(57022:Int),(57798:Int),(58538:Int),(59244:Int),(59914:Int),(60547:Int),(61145:Int),(61705:Int),(62228:Int),(62714:Int),(63162:Int),(63572:Int),(63944:Int),(64277:Int),(64571:Int),(64827:Int),(65043:Int),(65220:Int),(65358:Int),(65457:Int),(65516:Int),(65536:Int)]:List Int)
 (True,a)
def Zs :Prop:=(mW3).1
def f312 :List Int:=(mW3).2
def oW:Am.Spec:=fnSpec [] (.val Dv) [] (λx=>Zs ) (λx=>f312 ) (λ_=>())
theorem mW4:SK 312 (fnSpec [] (.val Dv) [] (λx=>Zs ) (λx=>f312 ) (λ_=>())):=fb Tryz.func312 2
def mW5 (e:Int):Prop×Int:=
 let d:=e==16384
 let a:=wrap .i64 (tdiv e 256)
 let b:=wrap .i64 (a+1)
 let c:=wrap .i64 (wrap .i64 (nth f312 b 0-(nth f312 a 0))*wrap .i64 (e-(wrap .i64 (256*a))))
 (Zs/\(d->A7 64 65)/\(!d->A7 a 65/\A7 b 65/\A7 a 65/\wH c 256),cond d (nth f312 64 0) (wrap .i64 (nth f312 a 0+AZ c 256)))
def Rd a:=(mW5 a).1
def K8 a:=(mW5 a).2
def oW0:=AU vI vI Rd K8
def nO4:=Cz [(153,oU6),(312,oW)] [] [] 30
theorem mW6:SK 307 oW0:=fq (c:=nO4) Tryz.func307 ⟨ID,mW4,trivial⟩
def mW7 (h:Int):Prop×Int:=
 let g:=wrap .i64 (tdiv h 16384)
 let a:=wrap .i64 (h-(wrap .i64 (16384*g)))
 let b:=g==0
 let c:=g==1
 let e:=wrap .i64 (16384-a)
 let d:=g==2
 let f:=wrap .i64 (16384-a)
 ((b->Rd a)/\(!b->(c->Rd e)/\(!c->(d->Rd a)/\(!d->Rd f))),cond b (K8 a) (cond c (K8 e) (cond d (wrap .i64 (sub 0 (K8 a))) (wrap .i64 (sub 0 (K8 f))))))
def Zt a:=(mW7 a).1
def Re a:=(mW7 a).2
theorem mW8:SK 301 (AU vI vI Zt Re):=fb Tryz.func301 29 [kb mW6] [] [] true
def mW9 (d:Int):Prop×(Int×Int×Unit):=
 let c:=tmod d 65536
 let b:=cond (c<0) (wrap .i64 (c+65536)) c
 let a:=tmod (wrap .i64 (b+16384)) 65536
 (Zt b/\Zt a,(Re b,Re a,()))
def UI a:=(mW9 a).1
def IG a:=(mW9 a).2
theorem mX:SK 286 (AU vI (.tup (.cons vI (.cons vI .nl))) UI IG):=fb Tryz.func286 17 [kb mW8] [] [] true
abbrev tE9:Type:=(Int×A0×Unit)
def qJ3 (y:tE9)(x:CZ):Vn CZ:=
 let h:=y.1
 let i:=y.2.1
 let j:=x.1
 let g:=x.2.1
 let a:Bool:=g<16
 let b:=wrap .i64 (4096*g)
 let c:=IG b
 let d:=wrap .i64 (h*c.2.1)
 let e:=wrap .i64 (h*c.1)
 let f:=([(wrap .i64 (i.1+AZ d 131072),wrap .i64 (i.2.1+AZ e 131072),())]:List A0)
 (a->UI b/\wH d 131072/\wH e 131072/\((length j+length f:Nat):Int)<=4294967296,a,(j++f,wrap .i64 (g+1),()))
def sK9 y x:=(qJ3 y x).1
def tF y x:=(qJ3 y x).2.1
def UJ y x:=(qJ3 y x).2.2
def tF0 (y:tE9)(x:CZ):(List A0):=
 x.1
def oG8:=li [(1,vI),(2,Ca)] [(5,Bq),(6,vI)] tF UJ sK9 (λy x=>[ex 2 none [(5,Bq)] ((tF0 y x),())]) [[(5,Bq)]]
def mX0 (c:A0)(d:Int):Prop×(List A0):=
 let a:=(d,c,())
 let b:=(([]:List A0),(0:Int),())
 (AB (tF a) (UJ a) (sK9 a) b,tF0 a (A3 (tF a) (UJ a) b))
def sL a b:=(mX0 a b).1
def Ef a b:=(mX0 a b).2
theorem pJ0:SK 263 (BF Aq vI Bx sL Ef):=fb Tryz.func263 38 [kb ID,kb mX] [(3,oG8)] [(13,[(4,0,36,1005)]),(15,[(4,0,1005,0)])] true
def mX1 (g h:Int):Prop×(Int×Int×Unit):=
 let a:=F5 .u64 g 4294967295
 let b:=EW g 32 64
 let c:=F5 .u64 h 4294967295
 let d:=EW h 32 64
 let e:=wrap .u64 (wrap .u64 (b*c)+EW (wrap .u64 (a*c)) 32 64)
 let f:=wrap .u64 (wrap .u64 (wrap .u64 (b*d)+EW e 32 64)+EW (wrap .u64 (wrap .u64 (a*d)+F5 .u64 e 4294967295)) 32 64)
 (True,(f,wrap .u64 (g*h),()))
def Zu a b:=(mX1 a b).1
def CA a b:=(mX1 a b).2
theorem mX2:SK 299 (BF Ap Ap (.tup (.cons Ap (.cons Ap .nl))) Zu CA):=fb Tryz.func299 48 [] [] [] true
def lS (c d:Int)(e:Bool):Prop×Int:=
 let a:=cond (c>0) true (d>9223372036854775808)
 let b:=cond ((a||(!a))&&e) (cond a (-9223372036854775808:Int) (wrap .i64 (wrap .u64 (0-d)))) (cond (cond (c>0) true (d>9223372036854775807)) 9223372036854775807 (wrap .i64 d))
 (True,b)
def oW1 a b c:=(lS a b c).1
def Rf a b c:=(lS a b c).2
theorem mX3:SK 300 (DU Ap Ap vB vI oW1 Rf):=fb Tryz.func300 25 [] [] [] true
def qJ4 (y x:CU):Vn CU:=
 let d:=y.2.1
 let b:=x.1
 let a:=x.2.1
 let e:Bool:=a>0
 let f:=ior .u64 b a
 let g:=ior .u64 b a
 let c:=CA f g
 (e->Zu f g,e,(cond (cond (c.1<d) true (cond (c.1==d) (decide (c.2.1<=y.1)) false)) (ior .u64 b a) b,EW a 1 64,()))
def tL9 y x:=(qJ4 y x).1
def uB y x:=(qJ4 y x).2.1
def wT y x:=(qJ4 y x).2.2
def sT5 (y x:CU):Int:=
 x.1
def oG9:=li [(9,Ap),(10,Ap)] [(11,Ap),(12,Ap)] uB wT tL9 (λy x=>[ex 2 none [(11,Ap)] ((sT5 y x),())]) [[(11,Ap)]]
def lS0 (l m:Int):Prop×Int:=
 let d:=BB l
 let e:=BB l
 let b:=CA d e
 let f:=BB m
 let g:=BB m
 let h:=CA f g
 let i:=wrap .u64 (b.2.1+h.2.1)
 let j:=wrap .u64 (b.1+h.1)
 let c:=(i,cond (i<b.2.1) (wrap .u64 (j+1)) j,())
 let k:=((0:Int),(9223372036854775808:Int),())
 let a:=sT5 c (A3 (uB c) (wT c) k)
 (M6 l/\M6 l/\Zu d e/\M6 m/\M6 m/\Zu f g/\AB (uB c) (wT c) (tL9 c) k/\oW1 0 a false,Rf 0 a false)
def Zv a b:=(lS0 a b).1
def EY a b:=(lS0 a b).2
theorem pJ1:SK 284 (BF vI vI vI Zv EY):=fb Tryz.func284 74 [kb oU4,kb mX2,kb mX3] [(9,oG9)] [] true
def lS1 (f g:A0)(h:Int):Prop×A0:=
 let b:=wrap .i64 (16*wrap .i64 (g.1-f.1))
 let c:=wrap .i64 (16*wrap .i64 (g.2.1-f.2.1))
 let a:=EY b c
 let d:=wrap .i64 (wrap .i64 ((-8)*h)*wrap .i64 (g.2.1-f.2.1))
 let e:=wrap .i64 (wrap .i64 (8*h)*wrap .i64 (g.1-f.1))
 (Zv b c/\wH d a/\wH e a,(AZ d a,AZ e a,()))
def Rh a b c:=(lS1 a b c).1
def B3 a b c:=(lS1 a b c).2
theorem oW2:SK 259 (DU Aq Aq vI Aq Rh B3):=fb Tryz.func259 42 [kb ID,kb pJ1] [] [] true
def lS2 (a b:A0)(c:Int):Prop×A0:=
 (True,(wrap .i64 (a.1+wrap .i64 (c*b.1)),wrap .i64 (a.2.1+wrap .i64 (c*b.2.1)),()))
def ET a b c:=(lS2 a b c).1
def f261 a b c:=(lS2 a b c).2
theorem oW3:SK 261 (DU Aq Aq vI Aq ET f261):=fb Tryz.func261 22 [] [] [] true
def lS3 (f g:A0)(h:Int):Prop×A0:=
 let b:=wrap .i64 (16*wrap .i64 (g.1-f.1))
 let c:=wrap .i64 (16*wrap .i64 (g.2.1-f.2.1))
 let a:=EY b c
 let d:=wrap .i64 (wrap .i64 (8*h)*wrap .i64 (g.1-f.1))
 let e:=wrap .i64 (wrap .i64 (8*h)*wrap .i64 (g.2.1-f.2.1))
 (Zv b c/\wH d a/\wH e a,(AZ d a,AZ e a,()))
def qJ5 a b c:=(lS3 a b c).1
def FJ a b c:=(lS3 a b c).2
theorem mX4:SK 264 (DU Aq Aq vI Aq qJ5 FJ):=fb Tryz.func264 42 [kb ID,kb pJ1] [] [] true
def qJ6 (y:uZ3)(x:CZ):Vn CZ:=
 let i:=y.1
 let b:=x.1
 let c:=x.2.1
 let d:Bool:=c<y.2.2.1
 let a:=len b==0
 let e:=len b
 let f:=e-1
 let g:=cond a true (!(Ty.eqb AQ (nth b f A1) (nth i c A1)))
 let h:=([nth i c A1]:List A0)
 (d->(!a->A6 (e-1))/\(!a->A7 f (len b))/\(!a->A7 c (len i))/\(g->A7 c (len i)/\((length b+length h:Nat):Int)<=4294967296)/\A6 (c+1),d,(cond g (b++h) b,c+1,()))
def sL0 y x:=(qJ6 y x).1
def Zw y x:=(qJ6 y x).2.1
def Zx y x:=(qJ6 y x).2.2
def sT6 (y:uZ3)(x:CZ):(List A0):=
 x.1
def rZ7:List (Nat×Sh):=[(1,vB),(5,Bq)]
def oH:=li [(0,Bd),(1,vB),(8,vI)] [(5,Bq),(9,vI)] Zw Zx sL0 (λy x=>[ex 2 none rZ7 (y.2.1,(sT6 y x),())]) [rZ7]
def qJ7 (y:uZ2)(x:NV):Vn NV:=
 let a:=x.1
 let b:=cond (!y.1) (decide (len a>1)) false
 let d:=len a
 let e:=d-1
 let f:=cond b (Ty.eqb AQ (nth a e A1) (nth a 0 A1)) false
 let g:=len a
 let c:=g-1
 ((b->A6 (d-1))/\(b->A7 e (len a))/\(b->A7 0 (len a))/\(f->A6 (g-1)/\0<=c/\c<=len a),f,(List.take (toNat c) a,()))
def rZ8 y x:=(qJ7 y x).1
def sB3 y x:=(qJ7 y x).2.1
def uG5 y x:=(qJ7 y x).2.2
def sT7 (y:uZ2)(x:NV):(List A0):=
 x.1
def oH0:=li [(1,vB)] [(5,Bd)] sB3 uG5 rZ8 (λy x=>[ex 4 none [(5,Bd)] ((sT7 y x),())]) [[(5,Bd)]]
def lS4 (e:List A0)(f:Bool):Prop×(List A0):=
 let a:=(e,f,len e,())
 let c:=(([]:List A0),(0:Int),())
 let b:=(f,())
 let d:=(sT6 a (A3 (Zw a) (Zx a) c),())
 (AB (Zw a) (Zx a) (sL0 a) c/\AB (sB3 b) (uG5 b) (rZ8 b) d,sT7 b (A3 (sB3 b) (uG5 b) d))
def qJ8 a b:=(lS4 a b).1
def Fj a b:=(lS4 a b).2
theorem mX5:SK 226 (BF Bd vB Bd qJ8 Fj):=fb Tryz.func226 61 [] [(3,oH),(8,oH0)] [(13,[(4,0,34,1005)])]
def qJ9 (y:CL)(x:CU):Vn CU:=
 let b:=y.1
 let a:=x.2.1
 let c:Bool:=a<y.2.1
 (c->A7 a (len b),c,(wrap .i64 (x.1+len (nth b a [])),wrap .i64 (a+1),()))
def sL1 y x:=(qJ9 y x).1
def UK y x:=(qJ9 y x).2.1
def UL y x:=(qJ9 y x).2.2
def sT8 (y:CL)(x:CU):Int:=
 x.1
def oH1:=li [(0,Aj),(6,vI)] [(3,vI),(7,vI)] UK UL sL1 (λy x=>[ex 2 none [(3,vI)] ((sT8 y x),())]) [[(3,vI)]]
def lS5 (c:(List (List A0))):Prop×Int:=
 let a:=(c,len c,())
 let b:=((0:Int),(0:Int),())
 (AB (UK a) (UL a) (sL1 a) b,sT8 a (A3 (UK a) (UL a) b))
def qK a:=(lS5 a).1
def H7 a:=(lS5 a).2
theorem mX6:SK 227 (AU Aj vI qK H7):=fb Tryz.func227 19 [] [(3,oH1)] [] true
abbrev vO2:Type:=((List (List A0))×(List A0)×Unit)
def tS6 (y:vO2)(x:CZ):Vn CZ:=
 let d:=y.2.1
 let e:=x.1
 let a:=x.2.1
 let b:Bool:=a≥0
 let c:=([nth d a A1]:List A0)
 (b->A7 a (len d)/\((length e+length c:Nat):Int)<=4294967296/\A6 (a-1),b,(e++c,a-1,()))
def vR5 y x:=(tS6 y x).1
def wN y x:=(tS6 y x).2.1
def MB y x:=(tS6 y x).2.2
def tF6 (y:vO2)(x:CZ):(List A0):=
 x.1
def sB4:List (Nat×Sh):=[(0,Bf),(6,Cc)]
def qK0:=li [(0,Bf),(1,Bd)] [(6,Cc),(7,vI)] wN MB vR5 (λy x=>[ex 2 none sB4 (y.1,(tF6 y x),())]) [sB4]
def pP9 (i:(List (List A0)))(j:List A0):Prop×(List (List A0)):=
 let g:=G8 j
 let c:=g==0
 let a:Bool:=g<0
 let d:=len j
 let b:=(i,j,())
 let h:=(([]:List A0),d-1,())
 let f:=cond a i i
 let e:=([cond a (tF6 b (A3 (wN b) (MB b) h)) j]:List (List A0))
 (pJ j/\(!c->(a->A6 (d-1)/\AB (wN b) (MB b) (vR5 b) h)/\((length f+length e:Nat):Int)<=4294967296),cond c i (f++e))
def IH a b:=(pP9 a b).1
def CV a b:=(pP9 a b).2
theorem sL2:SK 260 (BF Bf Bd At IH CV):=fb Tryz.func260 34 [kb mW2] [(7,qK0)] [(7,[(4,0,400000,0)]),(19,[(4,0,28,1006)]),(21,[(4,0,1006,400100)]),(23,[(4,0,33,0)])]
def pQ (f:(List (List A0)))(g:A0)(h i:Int):Prop×(List (List A0)):=
 let b:=i==1
 let c:=Ef g h
 let d:=i==2
 let a:=AZ h 2
 let e:=([(wrap .i64 (g.1-a),wrap .i64 (g.2.1-a),()),(wrap .i64 (g.1+a),wrap .i64 (g.2.1-a),()),(wrap .i64 (g.1+a),wrap .i64 (g.2.1+a),()),(wrap .i64 (g.1-a),wrap .i64 (g.2.1+a),())]:List A0)
 ((b->sL g h/\IH f c)/\(!b->d->wH h 2/\IH f e),cond b (CV f c) (cond d (CV f e) f))
def sL3 a b c d:=(pQ a b c d).1
def MC a b c d:=(pQ a b c d).2
theorem oH2:SK 258 (FA Bf Aq vI vI At sL3 MC):=fx (λc=>{ c with wants:=[(260,[0])] }) Tryz.func258 61 [kb ID,kb sL2,kb pJ0] [] [(5,[(4,0,16,0)]),(11,[(4,0,59,0)]),(13,[(4,0,400000,0)])] true
def pQ0 (p:(List (List A0)))(u v w:A0)(z A:Int):Prop×(List (List A0)):=
 let m:=A==1
 let n:=Ef v z
 let a:=B3 u v z
 let b:=B3 v w z
 let o:=([v,f261 v a 1,f261 v b 1]:List A0)
 let q:=CV p o
 let r:=([v,f261 v a (-1:Int),f261 v b (-1:Int)]:List A0)
 let g:=CV q r
 let t:=wrap .i64 (wrap .i64 (wrap .i64 (v.1-u.1)*wrap .i64 (w.2.1-v.2.1))-(wrap .i64 (wrap .i64 (v.2.1-u.2.1)*wrap .i64 (w.1-v.1))))
 let f:=wrap .i64 (wrap .i64 (z*z)+wrap .i64 (4*wrap .i64 (wrap .i64 (a.1*b.1)+wrap .i64 (a.2.1*b.2.1))))
 let h:=cond (cond (A !=0) true (t==0)) true (f<=0)
 let i:=wrap .i64 (wrap .i64 (z*z)*wrap .i64 (a.1+b.1))
 let d:=AZ i f
 let j:=wrap .i64 (wrap .i64 (z*z)*wrap .i64 (a.2.1+b.2.1))
 let e:=AZ j f
 let s:=(d,e,())
 let k:Bool:=EY d e>wrap .i64 (4*z)
 let c:=cond (t>0) (-1:Int) 1
 let l:=([v,f261 v a c,f261 v s c,f261 v b c]:List A0)
 ((m->sL v z/\IH p n)/\(!m->Rh u v z/\Rh v w z/\ET v a 1/\ET v b 1/\IH p o/\ET v a (-1:Int)/\ET v b (-1:Int)/\IH q r/\(!h->wH i f/\wH j f/\Zv d e/\(!k->ET v a c/\ET v s c/\ET v b c/\IH g l))),cond m (CV p n) (cond h g (cond k g (CV g l))))
def sL4 a b c d e f:=(pQ0 a b c d e f).1
def UM a b c d e f:=(pQ0 a b c d e f).2
theorem oH3:SK 262 (sp6 Bf Aq Aq Aq vI vI At sL4 UM):=fx (λc=>{ c with wants:=[(260,[0])] }) Tryz.func262 154 [kb ID,kb oW2,kb sL2,kb oW3,kb pJ0,kb pJ1] [] [(5,[(4,0,25,0)]),(9,[(4,0,43,400000)]),(11,[(4,0,53,400000)]),(19,[(4,0,400000,0)]),(25,[(4,0,400000,0)]),(33,[(4,0,153,0)])] true
abbrev vF1:Type:=((List A0)×Bool×Int×Int×Int×Int×Int×Unit)
def tF7 (y:vF1)(x:CL):Vn CL:=
 let i:=y.1
 let k:=y.2.2.1
 let e:=(Q1 y).1
 let j:=x.1
 let b:=x.2.1
 let f:Bool:=b<(Q3 y).1
 let c:=nth i b A1
 let g:=tmod (b+1) e
 let d:=nth i g A1
 let a:=B3 c d k
 let h:=([f261 c a 1,f261 d a 1,f261 d a (-1:Int),f261 c a (-1:Int)]:List A0)
 (f->A7 b (len i)/\A6 (b+1)/\e≠0/\A7 g (len i)/\Rh c d k/\ET c a 1/\ET d a 1/\ET d a (-1:Int)/\ET c a (-1:Int)/\IH j h/\A6 (b+1),f,(CV j h,b+1,()))
def vL4 y x:=(tF7 y x).1
def JA y x:=(tF7 y x).2.1
def JC y x:=(tF7 y x).2.2
def Zy (y:vF1)(x:CL):(List (List A0)):=
 x.1
def tP6:List (Nat×Sh):=[(0,Bf),(1,Bd),(2,vB),(3,vI),(4,vI),(5,vI),(13,vI)]
def rT4:=li [(1,Bd),(2,vB),(3,vI),(4,vI),(5,vI),(13,vI),(14,vI)] [(0,Bf),(15,vI)] JA JC vL4 (λy x=>[ex 2 none tP6 ((Zy y x),y.1,y.2.1,y.2.2.1,y.2.2.2.1,y.2.2.2.2.1,(Q1 y).1,())]) [tP6]
abbrev vF2:Type:=((List A0)×Bool×Int×Int×Int×Int×Unit)
def tF8 (y:vF2)(x:CL):Vn CL:=
 let h:=y.1
 let o:=y.2.2.1
 let q:=y.2.2.2.1
 let b:=(Q1 y).1
 let n:=x.1
 let a:=x.2.1
 let i:Bool:=a<b
 let j:=!y.2.1
 let k:Bool:=a>0
 let l:=cond j true (cond k (decide (a<(b-1))) false)
 let m:=a+b
 let c:=tmod (m-1) b
 let d:=nth h c A1
 let e:=nth h a A1
 let f:=tmod (a+1) b
 let g:=nth h f A1
 (i->(((!j)&&k)->A6 (b-1))/\(l->A6 (a+b)/\A6 (m-1)/\b≠0/\A7 c (len h)/\A7 a (len h)/\A6 (a+1)/\b≠0/\A7 f (len h)/\sL4 n d e g o q)/\A6 (a+1),i,(cond l (UM n d e g o q) n,a+1,()))
def Zz y x:=(tF8 y x).1
def K9 y x:=(tF8 y x).2.1
def KA y x:=(tF8 y x).2.2
def wY (y:vF2)(x:CL):(List (List A0)):=
 x.1
def tP7:List (Nat×Sh):=[(0,Bf),(1,Bd),(2,vB),(3,vI),(5,vI),(13,vI)]
def rT5:=li [(1,Bd),(2,vB),(3,vI),(4,vI),(5,vI),(13,vI)] [(0,Bf),(19,vI)] K9 KA Zz (λy x=>[ex 4 none tP7 ((wY y x),y.1,y.2.1,y.2.2.1,y.2.2.2.2.1,(Q1 y).1,())]) [tP7]
def pQ1 (p:(List (List A0)))(D:List A0)(G:Bool)(I S T:Int):Prop×(List (List A0)):=
 let d:=len D
 let N:=d==0
 let M:=d==1
 let O:=nth D 0 A1
 let i:=(D,G,I,S,T,d,cond G (d-1) d,())
 let Q:=(p,(0:Int),())
 let j:=(D,G,I,S,T,d,())
 let R:=(Zy i (A3 (JA i) (JC i) Q),(0:Int),())
 let c:=wY j (A3 (K9 j) (KA j) R)
 let l:=cond (!G) true (T==0)
 let k:=T==1
 let m:=nth D 0 A1
 let n:=Ef m I
 let o:=CV c n
 let q:=d-1
 let r:=nth D q A1
 let s:=Ef r I
 let a:=nth D 0 A1
 let t:=d-1
 let b:=nth D t A1
 let u:=nth D 1 A1
 let e:=B3 a u I
 let v:=nth D 1 A1
 let g:=FJ a v I
 let w:=f261 a g (-1:Int)
 let z:=f261 a g (-1:Int)
 let A:=([f261 w e 1,f261 a e 1,f261 a e (-1:Int),f261 z e (-1:Int)]:List A0)
 let B:=CV c A
 let C:=d-2
 let E:=nth D C A1
 let f:=B3 E b I
 let F:=d-2
 let H:=nth D F A1
 let h:=FJ H b I
 let J:=f261 b h 1
 let K:=f261 b h 1
 let L:=([f261 b f 1,f261 J f 1,f261 K f (-1:Int),f261 b f (-1:Int)]:List A0)
 ((!N)->(M->A7 0 (len D)/\sL3 p O I T)/\((!M)->(G->A6 (d-1))/\AB (JA i) (JC i) (vL4 i) Q/\AB (K9 j) (KA j) (Zz j) R/\(!l->(k->A7 0 (len D)/\sL m I/\IH c n/\A6 (d-1)/\A7 q (len D)/\sL r I/\IH o s)/\(!k->A7 0 (len D)/\A6 (d-1)/\A7 t (len D)/\A7 1 (len D)/\Rh a u I/\A7 1 (len D)/\qJ5 a v I/\ET a g (-1:Int)/\ET w e 1/\ET a e 1/\ET a e (-1:Int)/\ET a g (-1:Int)/\ET z e (-1:Int)/\IH c A/\A6 (d-2)/\A7 C (len D)/\Rh E b I/\A6 (d-2)/\A7 F (len D)/\qJ5 H b I/\ET b f 1/\ET b h 1/\ET J f 1/\ET b h 1/\ET K f (-1:Int)/\ET b f (-1:Int)/\IH B L))),cond N p (cond M (MC p O I T) (cond l c (cond k (CV o s) (CV B L)))))
def tM a b c d e f:=(pQ1 a b c d e f).1
def KB a b c d e f:=(pQ1 a b c d e f).2
theorem oH4:SK 225 (sp6 Bf Bd vB vI vI vI At tM KB):=fx (λc=>{ c with wants:=[(258,[0]),(260,[0]),(262,[0])] }) Tryz.func225 216 [kb oH2,kb oW2,kb sL2,kb oW3,kb oH3,kb pJ0,kb mX4] [(10,rT4),(16,rT5)] [(7,[(4,0,400000,0)]),(11,[(4,0,37,0)]),(29,[(4,0,76,400000)]),(39,[(4,0,117,400000)]),(43,[(4,0,400000,0)]),(47,[(4,0,141,0)]),(53,[(4,0,180,400000)]),(57,[(4,0,215,0)])]
abbrev wV4:Type:=((List (List A0))×(List Bool)×Int×Int×Int×Int×Unit)
def Ri (y:wV4)(x:CL):Vm CL:=
 let k:=y.1
 let j:=y.2.1
 let l:=y.2.2.1
 let m:=y.2.2.2.1
 let n:=y.2.2.2.2.1
 let e:=x.1
 let a:=x.2.1
 let b:Bool:=a<(Q1 y).1
 let f:=nth k a []
 let g:=nth j a false
 let h:=Fj f g
 let i:=nth j a false
 let c:=KB e h i l m n
 let d:Bool:=H7 c>4096
 (b->A7 a (len k)/\A7 a (len j)/\qJ8 f g/\A7 a (len j)/\tM e h i l m n/\qK c/\(!d->A6 (a+1)),b&&(!d),(c,a+1,()),b&&d,!b)
def tS7 y x:=(Ri y x).1
def O4 y x:=(Ri y x).2.1
def L0 y x:=(Ri y x).2.2.1
def Rj y x:=(Ri y x).2.2.2.1
def pJ2 y x:=(Ri y x).2.2.2.2
def sB5 (y:wV4)(x:CL):(List (List A0)):=
 []
def sB6 (y:wV4)(x:CL):Int:=
 3
def rK:List (Nat×Sh):=[(10,At),(11,vI)]
def sB7 (y:wV4)(x:CL):(List (List A0)):=
 x.1
def rK0:List (Nat×Sh):=[(13,(.own Ad 1013 false))]
def pJ3:=li [(0,Aj),(1,Dz),(2,vI),(3,vI),(4,vI),(33,vI)] [(13,(.own Ad 1013 false)),(34,vI)] O4 L0 tS7 (λy x=>[ex 1 (some (Rj y x)) rK ((sB5 y x),(sB6 y x),()),ex 2 (some (pJ2 y x)) rK0 ((sB7 y x),())]) [rK,rK0]
def lS6 (j:(List (List A0)))(k:List Bool)(l m n:Int):Prop×((List (List A0))×Int×Unit):=
 let g:=f224 l m n
 let d:=g !=0
 let h:=Ev j 0
 let e:=h !=0
 let f:=len k !=len j
 let a:=(j,k,l,m,n,len j,())
 let i:=(([]:List (List A0)),(0:Int),())
 let c:=A3 (O4 a) (L0 a) i
 let b:=Rj a c
 (oV9 l m n/\(!d->O3 j 0/\(!e->!f->AB (O4 a) (L0 a) (tS7 a) i)),(cond d [] (cond e [] (cond f [] (cond b (sB5 a c) (sB7 a c)))),cond d g (cond e h (cond f 15 (cond b (sB6 a c) 0))),()))
def qK1 a b c d e:=(lS6 a b c d e).1
def H8 a b c d e:=(lS6 a b c d e).2
theorem mX7:SK 192 (sp5 Aj Dz vI vI vI (.tup (.cons At (.cons vI .nl))) qK1 H8):=fx (λc=>{ c with wants:=[(225,[0])] }) Tryz.func192 60 [kb pI9,kb mW1,kb oH4,kb mX5,kb mX6] [(11,pJ3)] [(27,[(4,0,54,1013)]),(35,[(4,0,1013,0)])]
end Go.Proofs.YtlpphnncneppoaaGreatDoor.Am
