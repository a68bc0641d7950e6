/- Printed by program, part 4. No condition. -/
import Derived.Test.YtgjkpohjjmkkgaaGreatDoorAllP3
set_option linter.unusedVariables false
set_option synthInstance.maxSize 4000
set_option synthInstance.maxHeartbeats 400000
namespace Go.Proofs.YtgjkpohjjmkkgaaGreatDoor.Am
open Go Go.Am Go.Proofs
abbrev uA7:Type:=((List (List D71))×Unit)
abbrev vH7:Type:=(Int×Int×Unit)
def sM0 (y:uA7)(x:vH7):Prop×Bool×vH7×Bool×Bool:=
 let f:=y.1
 let g:=x.1
 let e:=x.2.1
 let a:=decide (e<len f)
 let d:=len (nth f e ([]:List D71))
 let c:=g+d
 let b:=decide (c>4096)
 (a=true->InB e (len f)/\InR (g+d)/\((!b)=true->InR (e+1)),a&&(!b),(c,e+1,()),a&&b,!a)
def sM1 y x:=(sM0 y x).1
def vR7 y x:=(sM0 y x).2.1
def wO5 y x:=(sM0 y x).2.2.1
def uY8 y x:=(sM0 y x).2.2.2.1
def uY9 y x:=(sM0 y x).2.2.2.2
def sM2 (y:uA7)(x:vH7):Int:=
 (3:Int)
def sM3:St->Option Out:=xT3 [(0,Ai)] [(5,vI),(6,vI)] vR7 wO5 sM1 λy x=>[ex 1 (some (uY8 y x)) [(4,vI)] ((sM2 y x),()),ex 2 (some (uY9 y x)) [(0,Ai)] (y.1,())]
abbrev vM8:Type:=((List (List D71))×Int×Int×Unit)
abbrev wW9:Type:=(Int×Unit)
def uZ (y:vM8)(x:wW9):Prop×Bool×wW9×Bool×Bool:=
 let i:=y.1
 let d:=y.2.1
 let h:=y.2.2.1
 let e:=x.1
 let a:=decide (e<len (nth i h ([]:List D71)))
 let g:=nth i h ([]:List D71)
 let b:=nth g e Z71
 let f:=cond (decide (b.1<Int.sub 0 d)) true (decide (b.1>d))
 let c:=cond (cond f true (decide (b.2.1<Int.sub 0 d))) true (decide (b.2.1>d))
 (InB h (len i)/\(a=true->InB h (len i)/\InB e (len g)/\InR (Int.sub 0 d)/\((!f)=true->InR (Int.sub 0 d))/\((!c)=true->InR (e+1))),a&&(!c),(e+1,()),a&&c,!a)
def uM8 y x:=(uZ y x).1
def wR2 y x:=(uZ y x).2.1
def wH3 y x:=(uZ y x).2.2.1
def tG0 y x:=(uZ y x).2.2.2.1
def uM9 y x:=(uZ y x).2.2.2.2
def tQ3 (y:vM8)(x:wW9):Int:=
 (2:Int)
def sX8:List (Nat×Sh):=[(0,Ai),(7,vI),(8,vI)]
def tQ4:St->Option Out:=xT3 [(0,Ai),(7,vI),(8,vI)] [(9,vI)] wR2 wH3 uM8 λy x=>[ex 1 (some (tG0 y x)) [(4,vI)] ((tQ3 y x),()),ex 6 (some (uM9 y x)) sX8 (y.1,y.2.1,y.2.2.1,())]
abbrev vM9:Type:=((List (List D71))×Int×Unit)
abbrev wX:Type:=(Int×Unit)
def uZ0 (y:vM9)(x:wX):Prop×Bool×wX×Bool×Bool:=
 let g:=y.1
 let f:=x.1
 let c:=decide (f<len g)
 let a:=(g,y.2.1,f,())
 let e:=((0:Int),())
 let d:=zB9 (wR2 a) (wH3 a) e
 let b:=uM9 a d
 (c=true->Am.Ends (wR2 a) (wH3 a) (uM8 a) e/\(b=true->InR (f+1)),c&&b,(f+1,()),c&&tG0 a d,!c)
def tG1 y x:=(uZ0 y x).1
def vV7 y x:=(uZ0 y x).2.1
def wT4 y x:=(uZ0 y x).2.2.1
def uN y x:=(uZ0 y x).2.2.2.1
def pL8 y x:=(uZ0 y x).2.2.2.2
def tQ5 (y:vM9)(x:wX):Int:=
 let a:=(y.1,y.2.1,x.1,())
 (tQ3 a (zB9 (wR2 a) (wH3 a) ((0:Int),())))
def tQ6:St->Option Out:=xT3 [(0,Ai),(7,vI)] [(8,vI)] vV7 wT4 tG1 λy x=>[ex 1 (some (uN y x)) [(4,vI)] ((tQ5 y x),()),ex 4 (some (pL8 y x)) [] ()]
def f98t (p0:(List (List D71)))(p1:Int):Prop×Int:=
 let d:=cond (p1 !=0) (p1 !=1) false
 let b:=(p0,())
 let g:=((0:Int),(0:Int),())
 let f:=zB9 (vR7 b) (wO5 b) g
 let a:=(p0,(16777216:Int),())
 let e:=((0:Int),())
 let c:=zB9 (vV7 a) (wT4 a) e
 ((!d)=true->Am.Ends (vR7 b) (wO5 b) (sM1 b) g/\(uY9 b f=true->Am.Ends (vV7 a) (wT4 a) (tG1 a) e),cond d (8:Int) (cond (uY8 b f) (sM2 b f) (cond (uN a c) (tQ5 a c) (0:Int))))
def sM4 p0 p1:=(f98t p0 p1).1
def f98 p0 p1:=(f98t p0 p1).2
def tZ1:=sp2 Ai vI vI sM4 f98
def rH7:=Cy [] [(5,sM3),(15,tQ4),(12,tQ6)] [] 78
theorem rH8:CtxOk Tryz.prog rH7:=cq trivial
noncomputable def qW0:Code:=Tryz.f98.body.getD .skip
noncomputable def nL:Code:=wB4 qW0 0
theorem oG:yX7 Tryz.prog rH7 nL:=lq rH8 (sp:=sM3) rfl [[(4,vI)],[(0,Ai)]]
noncomputable def qI6:Code:=wB4 qW0 1
noncomputable def oG0:Code:=wB4 qI6 0
theorem pL9:yX7 Tryz.prog rH7 oG0:=lq rH8 (sp:=tQ4) rfl [[(4,vI)],sX8]
theorem pM:yX7 Tryz.prog rH7 qI6:=lm rH8 (sp:=tQ6) rfl [[(4,vI)],[]] (bs:=[oG0]) ⟨pL9,trivial⟩
theorem oG1:SK 98 tZ1:=fl rH8 Tryz.func98 (bs:=[nL,qI6]) ⟨oG,pM,trivial⟩
abbrev uZ1:Type:=((List D74)×Unit)
abbrev vH8:Type:=((List Bool)×Int×Unit)
def qI7 (y:uZ1)(x:vH8):Prop×Bool×vH8:=
 let i:=y.1
 let j:=x.1
 let b:=x.2.1
 let e:=decide (b<len i)
 let f:=(nth i b Z74).1==1
 let d:=([true]:List Bool)
 let h:=cond f (j++d) j
 let c:=(nth i b Z74).1==5
 let g:=len h
 let a:=g-1
 (e=true->InB b (len i)/\(f=true->((List.length j+List.length d:Nat):Int)<=4294967296)/\InB b (len i)/\(c=true->InR (g-1)/\InB a (len h)/\a<len h)/\InR (b+1),e,(cond c (List.set h (Int.toNat a) false) h,b+1,()))
def sM5 y x:=(qI7 y x).1
def uZ2 y x:=(qI7 y x).2.1
def wZ9 y x:=(qI7 y x).2.2
def sM6 (y:uZ1)(x:vH8):(List Bool):=
 x.1
def sM7:St->Option Out:=xT3 [(0,Ag)] [(5,Cf),(6,vI)] uZ2 wZ9 sM5 λy x=>[ex 2 none [(5,Cf)] ((sM6 y x),())]
def f99t (p0:List D74):Prop×((List Bool)×Int×Unit):=
 let c:=f134 p0
 let a:=c !=0
 let b:=(p0,())
 let d:=(([]:List Bool),(0:Int),())
 (tF7 p0/\((!a)=true->Am.Ends (uZ2 b) (wZ9 b) (sM5 b) d),(cond a [] (sM6 b (zB9 (uZ2 b) (wZ9 b) d)),cond a c (0:Int),()))
def qW1 p0:=(f99t p0).1
def f99 p0:=(f99t p0).2
def qW2:=sp1 Ag (.tup (.cons Bu (.cons vI .nl))) qW1 f99
def oG2:Ctx:=Cx tys [(134,uH)] [(6,sM7)] [(9,[(4,0,12,1005)]),(19,[(4,0,27,1005)]),(25,[(1,2,0,0),(4,0,1005,0)])] false 40 [] [12,26,27]
theorem oG3:CtxOk Tryz.prog oG2:=cq ⟨rH4,trivial⟩
noncomputable def oZ8:Code:=Tryz.f99.body.getD .skip
noncomputable def nL0:Code:=wB4 oZ8 0
theorem oG4:yX7 Tryz.prog oG2 nL0:=lq oG3 (sp:=sM7) rfl [[(5,Cf)]]
theorem mS7:SK 99 qW2:=fl oG3 Tryz.func99 (bs:=[nL0]) ⟨oG4,trivial⟩
def mS8 (p0:Int)(p1:Int)(p2:Int):Prop×Int:=
 let a:=cond (cond (decide (p0<1)) true (decide (p0>4096))) (2:Int) (cond (cond (cond (cond (decide (p1<0)) true (decide (p1>2))) true (decide (p2<0))) true (decide (p2>2))) (8:Int) (0:Int))
 (True,a)
def oG5 p0 p1 p2:=(mS8 p0 p1 p2).1
def f139 p0 p1 p2:=(mS8 p0 p1 p2).2
def rX0:=sp3 vI vI vI vI oG5 f139
def oZ9:=Cy [] [] [] 27
theorem nZ5:SK 139 rX0:=fq (c:=oZ9) Tryz.func139 trivial
abbrev uH3:Type:=((List D71)×Int×Unit)
abbrev vN:Type:=(Int×Int×Unit)
def rH9 (y:uH3)(x:vN):Prop×Bool×vN:=
 let b:=y.1
 let c:=x.2.1
 let e:=decide (c<y.2.1)
 let d:=len b
 let a:=Int.tmod (IntKind.wrap .i64 (c+1)) d
 (e=true->d≠0/\InB c (len b)/\InB a (len b)/\InB c (len b)/\InB a (len b),e,(IntKind.wrap .i64 (x.1+IntKind.wrap .i64 (IntKind.wrap .i64 ((nth b c Z71).1*(nth b a Z71).2.1)-(IntKind.wrap .i64 ((nth b c Z71).2.1*(nth b a Z71).1)))),IntKind.wrap .i64 (c+1),()))
def tG2 y x:=(rH9 y x).1
def uH4 y x:=(rH9 y x).2.1
def vD6 y x:=(rH9 y x).2.2
def tQ7 (y:uH3)(x:vN):Int:=
 x.1
def tQ8:St->Option Out:=xT3 [(0,As),(7,vI)] [(3,vI),(8,vI)] uH4 vD6 tG2 λy x=>[ex 2 none [(3,vI)] ((tQ7 y x),())]
def mS9 (p0:List D71):Prop×Int:=
 let a:=(p0,len p0,())
 let b:=((0:Int),(0:Int),())
 (Am.Ends (uH4 a) (vD6 a) (tG2 a) b,tQ7 a (zB9 (uH4 a) (vD6 a) b))
def qI8 p0:=(mS9 p0).1
def f202 p0:=(mS9 p0).2
def rX1:=sp1 As vI qI8 f202
def qW3:=Cz [] [(3,tQ8)] [] 43
theorem qW4:CtxOk Tryz.prog qW3:=cq trivial
noncomputable def oG6:Code:=Tryz.f202.body.getD .skip
noncomputable def oG7:Code:=wB4 oG6 0
theorem pM0:yX7 Tryz.prog qW3 oG7:=lq qW4 (sp:=tQ8) rfl [[(3,vI)]]
theorem nZ6:SK 202 rX1:=fl qW4 Tryz.func202 (bs:=[oG7]) ⟨pM0,trivial⟩
def nZ7 :Prop×(List Int):=
 let a:=([(0:Int),(1608:Int),(3216:Int),(4821:Int),(6424:Int),(8022:Int),(9616:Int),(11204:Int),(12785:Int),(14359:Int),(15924:Int),(17479:Int),(19024:Int),(20557:Int),(22078:Int),(23586:Int),(25080:Int),(26558:Int),(28020:Int),(29466:Int),(30893:Int),(32303:Int),(33692:Int),(35062:Int),(36410:Int),(37736:Int),(39040:Int),(40320:Int),(41576:Int),(42806:Int),(44011:Int),(45190:Int),(46341:Int),(47464:Int),(48559:Int),(49624:Int),(50660:Int),(51665:Int),(52639:Int),(53581:Int),(54491:Int),(55368:Int),(56212:Int),(57022:Int),(57798:Int),(58538:Int),(59244:Int),(59914:Int),(60547:Int),(61145:Int),(61705:Int),(62228:Int),(62714:Int),(63162:Int),(63572:Int),(63944:Int),(64277:Int),(64571:Int),(64827:Int),(65043:Int),(65220:Int),(65358:Int),(65457:Int),(65516:Int),(65536:Int)]:List Int)
 (True,a)
def rI :Prop:=(nZ7).1
def f229 :List Int:=(nZ7).2
instance :Decidable (rI):=by
 unfold rI nZ7
 try dsimp only
 infer_instance
def rX2:Am.Spec:=fnSpec [] (.val (.arr 65 Ab)) [] (λx=>rI ) (λx=>f229 ) (λ_=>())
def nA:=Cy [] [] [] 2
theorem nA0:CtxOk Tryz.prog nA:=cq trivial
theorem nZ8:SK 229 rX2:=fl nA0 Tryz.func229 (bs:=[]) trivial
def nZ9 (p0:Int):Prop×Int:=
 let d:=p0==16384
 let a:=IntKind.wrap .i64 (Int.tdiv p0 (256:Int))
 let b:=IntKind.wrap .i64 (a+1)
 let c:=IntKind.wrap .i64 (IntKind.wrap .i64 (nth f229 b (0:Int)-(nth f229 a (0:Int)))*IntKind.wrap .i64 (p0-(IntKind.wrap .i64 (256*a))))
 (rI/\(d=true->InB (64:Int) 65)/\((!d)=true->InB a 65/\InB b 65/\InB a 65/\wI3 c (256:Int)),cond d (nth f229 (64:Int) (0:Int)) (IntKind.wrap .i64 (nth f229 a (0:Int)+f52 c (256:Int))))
def uS4 p0:=(nZ9 p0).1
def f224 p0:=(nZ9 p0).2
instance (p0:Int):Decidable (uS4 p0):=by
 unfold uS4 nZ9
 try dsimp only
 infer_instance
def rX3:=sp1 vI vI uS4 f224
def nA1:=Cz [(52,wN4),(229,rX2)] [] [] 30
theorem mA:SK 224 rX3:=fq (c:=nA1) Tryz.func224 ⟨vV3,nZ8,trivial⟩
def mA0 (p0:Int):Prop×Int:=
 let g:=IntKind.wrap .i64 (Int.tdiv p0 (16384:Int))
 let a:=IntKind.wrap .i64 (p0-(IntKind.wrap .i64 (16384*g)))
 let c:=g==0
 let d:=g==1
 let f:=IntKind.wrap .i64 (16384-a)
 let b:=g==2
 let e:=IntKind.wrap .i64 (16384-a)
 ((c=true->uS4 a)/\((!c)=true->(d=true->uS4 f)/\((!d)=true->(b=true->uS4 a)/\((!b)=true->uS4 e))),cond c (f224 a) (cond d (f224 f) (cond b (IntKind.wrap .i64 (Int.sub 0 (f224 a))) (IntKind.wrap .i64 (Int.sub 0 (f224 e))))))
def sM8 p0:=(mA0 p0).1
def f218 p0:=(mA0 p0).2
instance (p0:Int):Decidable (sM8 p0):=by
 unfold sM8 mA0
 try dsimp only
 infer_instance
def rX4:=sp1 vI vI sM8 f218
def nA2:=Cz [(224,rX3)] [] [] 29
theorem mA1:SK 218 rX4:=fq (c:=nA2) Tryz.func218 ⟨mA,trivial⟩
def mA2 (p0:Int):Prop×(Int×Int×Unit):=
 let b:=Int.tmod p0 (65536:Int)
 let c:=cond (decide (b<0)) (IntKind.wrap .i64 (b+65536)) b
 let a:=Int.tmod (IntKind.wrap .i64 (c+16384)) (65536:Int)
 (sM8 c/\sM8 a,(f218 c,f218 a,()))
def tG3 p0:=(mA2 p0).1
def f203 p0:=(mA2 p0).2
instance (p0:Int):Decidable (tG3 p0):=by
 unfold tG3 mA2
 try dsimp only
 infer_instance
def rX5:=sp1 vI (.tup (.cons vI (.cons vI .nl))) tG3 f203
def nA3:=Cz [(218,rX4)] [] [] 17
theorem mA3:SK 203 rX5:=fq (c:=nA3) Tryz.func203 ⟨mA1,trivial⟩
abbrev uH5:Type:=(Int×D71×Unit)
abbrev vD7:Type:=((List D71)×Int×Unit)
def rI0 (y:uH5)(x:vD7):Prop×Bool×vD7:=
 let i:=y.1
 let h:=y.2.1
 let j:=x.1
 let g:=x.2.1
 let a:=decide (g<16)
 let e:=IntKind.wrap .i64 (4096*g)
 let c:=f203 e
 let d:=IntKind.wrap .i64 (i*c.2.1)
 let b:=IntKind.wrap .i64 (i*c.1)
 let f:=([(IntKind.wrap .i64 (h.1+f52 d (131072:Int)),IntKind.wrap .i64 (h.2.1+f52 b (131072:Int)),())]:List D71)
 (a=true->tG3 e/\wI3 d (131072:Int)/\wI3 b (131072:Int)/\((List.length j+List.length f:Nat):Int)<=4294967296,a,(j++f,IntKind.wrap .i64 (g+1),()))
def tG4 y x:=(rI0 y x).1
def vV8 y x:=(rI0 y x).2.1
def wH4 y x:=(rI0 y x).2.2
def uH6 (y:uH5)(x:vD7):(List D71):=
 x.1
def tQ9:St->Option Out:=xT3 [(1,vI),(2,Bj)] [(5,Bb),(6,vI)] vV8 wH4 tG4 λy x=>[ex 2 none [(5,Bb)] ((uH6 y x),())]
def mA4 (p0:D71)(p1:Int):Prop×(List D71):=
 let a:=(p1,p0,())
 let b:=(([]:List D71),(0:Int),())
 (Am.Ends (vV8 a) (wH4 a) (tG4 a) b,uH6 a (zB9 (vV8 a) (wH4 a) b))
def tG5 p0 p1:=(mA4 p0 p1).1
def f180 p0 p1:=(mA4 p0 p1).2
def uZ3:=sp2 Al vI Cb tG5 f180
def qW5:=Cz [(52,wN4),(203,rX5)] [(3,tQ9)] [(13,[(4,0,36,1005)]),(15,[(4,0,1005,0)])] 38
theorem qW6:CtxOk Tryz.prog qW5:=cq ⟨vV3,mA3,trivial⟩
noncomputable def oG8:Code:=Tryz.f180.body.getD .skip
noncomputable def oG9:Code:=wB4 oG8 0
theorem pM1:yX7 Tryz.prog qW5 oG9:=lq qW6 (sp:=tQ9) rfl [[(5,Bb)]]
theorem qI9:SK 180 uZ3:=fl qW6 Tryz.func180 (bs:=[oG9]) ⟨pM1,trivial⟩
def mA5 (p0:Int)(p1:Int):Prop×(Int×Int×Unit):=
 let c:=wC4 .u64 p0 (4294967295:Int)
 let d:=wC5 p0 (32:Int) 64
 let e:=wC4 .u64 p1 (4294967295:Int)
 let b:=wC5 p1 (32:Int) 64
 let a:=IntKind.wrap .u64 (IntKind.wrap .u64 (d*e)+wC5 (IntKind.wrap .u64 (c*e)) (32:Int) 64)
 let f:=IntKind.wrap .u64 (IntKind.wrap .u64 (IntKind.wrap .u64 (d*b)+wC5 a (32:Int) 64)+wC5 (IntKind.wrap .u64 (IntKind.wrap .u64 (c*b)+wC4 .u64 a (4294967295:Int))) (32:Int) 64)
 (True,(f,IntKind.wrap .u64 (p0*p1),()))
def sM9 p0 p1:=(mA5 p0 p1).1
def f216 p0 p1:=(mA5 p0 p1).2
def rX6:=sp2 An An (.tup (.cons An (.cons An .nl))) sM9 f216
def nA4:=Cz [] [] [] 48
theorem mA6:SK 216 rX6:=fq (c:=nA4) Tryz.func216 trivial
def mT (p0:Int)(p1:Int)(p2:Bool):Prop×Int:=
 let a:=cond (decide (p0>0)) true (decide (p1>9223372036854775808))
 let b:=cond ((a||(!a))&&p2) (cond a (-9223372036854775808:Int) (IntKind.wrap .i64 (IntKind.wrap .u64 (0-p1)))) (cond (cond (decide (p0>0)) true (decide (p1>9223372036854775807))) (9223372036854775807:Int) (IntKind.wrap .i64 p1))
 (True,b)
def oH p0 p1 p2:=(mT p0 p1 p2).1
def f217 p0 p1 p2:=(mT p0 p1 p2).2
def rX7:=sp3 An An vB vI oH f217
def nA5:=Cz [] [] [] 25
theorem mA7:SK 217 rX7:=fq (c:=nA5) Tryz.func217 trivial
abbrev uH7:Type:=(Int×Int×Unit)
abbrev vN0:Type:=(Int×Int×Unit)
def rI1 (y:uH7)(x:vN0):Prop×Bool×vN0:=
 let e:=y.2.1
 let b:=x.1
 let a:=x.2.1
 let d:=decide (a>0)
 let f:=ior .u64 b a
 let g:=ior .u64 b a
 let c:=f216 f g
 (d=true->sM9 f g,d,(cond (cond (decide (c.1<e)) true (cond (c.1==e) (decide (c.2.1<=y.1)) false)) (ior .u64 b a) b,wC5 a (1:Int) 64,()))
def uN0 y x:=(rI1 y x).1
def vN1 y x:=(rI1 y x).2.1
def wO6 y x:=(rI1 y x).2.2
def tR (y:uH7)(x:vN0):Int:=
 x.1
def tR0:St->Option Out:=xT3 [(9,An),(10,An)] [(11,An),(12,An)] vN1 wO6 uN0 λy x=>[ex 2 none [(11,An)] ((tR y x),())]
def mT0 (p0:Int)(p1:Int):Prop×Int:=
 let i:=f91 p0
 let h:=f91 p0
 let b:=f216 i h
 let d:=f91 p1
 let j:=f91 p1
 let f:=f216 d j
 let e:=IntKind.wrap .u64 (b.2.1+f.2.1)
 let g:=IntKind.wrap .u64 (b.1+f.1)
 let c:=(e,cond (decide (e<b.2.1)) (IntKind.wrap .u64 (g+1)) g,())
 let k:=((0:Int),(9223372036854775808:Int),())
 let a:=tR c (zB9 (vN1 c) (wO6 c) k)
 (uX9 p0/\uX9 p0/\sM9 i h/\uX9 p1/\uX9 p1/\sM9 d j/\Am.Ends (vN1 c) (wO6 c) (uN0 c) k/\oH (0:Int) a false,f217 (0:Int) a false)
def sN p0 p1:=(mT0 p0 p1).1
def f201 p0 p1:=(mT0 p0 p1).2
def uZ4:=sp2 vI vI vI sN f201
def qW7:=Cz [(91,rH1),(216,rX6),(217,rX7)] [(9,tR0)] [] 74
theorem qW8:CtxOk Tryz.prog qW7:=cq ⟨nK,mA6,mA7,trivial⟩
noncomputable def oH0:Code:=Tryz.f201.body.getD .skip
noncomputable def oH1:Code:=wB4 oH0 0
theorem pM2:yX7 Tryz.prog qW7 oH1:=lq qW8 (sp:=tR0) rfl [[(11,An)]]
theorem qJ:SK 201 uZ4:=fl qW8 Tryz.func201 (bs:=[oH1]) ⟨pM2,trivial⟩
def mT1 (p0:D71)(p1:D71)(p2:Int):Prop×D71:=
 let b:=IntKind.wrap .i64 (16*IntKind.wrap .i64 (p1.1-p0.1))
 let e:=IntKind.wrap .i64 (16*IntKind.wrap .i64 (p1.2.1-p0.2.1))
 let a:=f201 b e
 let d:=IntKind.wrap .i64 (IntKind.wrap .i64 ((-8)*p2)*IntKind.wrap .i64 (p1.2.1-p0.2.1))
 let c:=IntKind.wrap .i64 (IntKind.wrap .i64 (8*p2)*IntKind.wrap .i64 (p1.1-p0.1))
 (sN b e/\wI3 d a/\wI3 c a,(f52 d a,f52 c a,()))
def uS5 p0 p1 p2:=(mT1 p0 p1 p2).1
def f176 p0 p1 p2:=(mT1 p0 p1 p2).2
def sN0:=sp3 Al Al vI Al uS5 f176
def nA6:=Cz [(52,wN4),(201,uZ4)] [] [] 42
theorem oH2:SK 176 sN0:=fq (c:=nA6) Tryz.func176 ⟨vV3,qJ,trivial⟩
def mT2 (p0:D71)(p1:D71)(p2:Int):Prop×D71:=
 (True,(IntKind.wrap .i64 (p0.1+IntKind.wrap .i64 (p2*p1.1)),IntKind.wrap .i64 (p0.2.1+IntKind.wrap .i64 (p2*p1.2.1)),()))
def wG9 p0 p1 p2:=(mT2 p0 p1 p2).1
def f178 p0 p1 p2:=(mT2 p0 p1 p2).2
def sN1:=sp3 Al Al vI Al wG9 f178
def nA7:=Cz [] [] [] 22
theorem oH3:SK 178 sN1:=fq (c:=nA7) Tryz.func178 trivial
def mT3 (p0:D71)(p1:D71)(p2:Int):Prop×D71:=
 let b:=IntKind.wrap .i64 (16*IntKind.wrap .i64 (p1.1-p0.1))
 let e:=IntKind.wrap .i64 (16*IntKind.wrap .i64 (p1.2.1-p0.2.1))
 let a:=f201 b e
 let d:=IntKind.wrap .i64 (IntKind.wrap .i64 (8*p2)*IntKind.wrap .i64 (p1.1-p0.1))
 let c:=IntKind.wrap .i64 (IntKind.wrap .i64 (8*p2)*IntKind.wrap .i64 (p1.2.1-p0.2.1))
 (sN b e/\wI3 d a/\wI3 c a,(f52 d a,f52 c a,()))
def rI2 p0 p1 p2:=(mT3 p0 p1 p2).1
def f181 p0 p1 p2:=(mT3 p0 p1 p2).2
def rX8:=sp3 Al Al vI Al rI2 f181
def nA8:=Cz [(52,wN4),(201,uZ4)] [] [] 42
theorem mA8:SK 181 rX8:=fq (c:=nA8) Tryz.func181 ⟨vV3,qJ,trivial⟩
abbrev uH8:Type:=((List D71)×Bool×Int×Unit)
abbrev vN2:Type:=((List D71)×Int×Unit)
def rI3 (y:uH8)(x:vN2):Prop×Bool×vN2:=
 let i:=y.1
 let c:=x.1
 let b:=x.2.1
 let d:=decide (b<y.2.2.1)
 let a:=len c==0
 let f:=len c
 let g:=f-1
 let h:=cond a true (!(Ty.eqb T71 (nth c g Z71) (nth i b Z71)))
 let e:=([nth i b Z71]:List D71)
 (d=true->((!a)=true->InR (f-1))/\((!a)=true->InB g (len c))/\((!a)=true->InB b (len i))/\(h=true->InB b (len i)/\((List.length c+List.length e:Nat):Int)<=4294967296)/\InR (b+1),d,(cond h (c++e) c,b+1,()))
def tG6 y x:=(rI3 y x).1
def vV9 y x:=(rI3 y x).2.1
def wT5 y x:=(rI3 y x).2.2
def tR1 (y:uH8)(x:vN2):(List D71):=
 x.1
def sX9:List (Nat×Sh):=[(1,vB),(5,Bb)]
def tR2:St->Option Out:=xT3 [(0,As),(1,vB),(8,vI)] [(5,Bb),(9,vI)] vV9 wT5 tG6 λy x=>[ex 2 none sX9 (y.2.1,(tR1 y x),())]
abbrev uH9:Type:=(Bool×Unit)
abbrev vN3:Type:=((List D71)×Unit)
def rI4 (y:uH9)(x:vN3):Prop×Bool×vN3:=
 let b:=x.1
 let a:=cond (!y.1) (decide (len b>1)) false
 let d:=len b
 let g:=d-1
 let e:=cond a (Ty.eqb T71 (nth b g Z71) (nth b (0:Int) Z71)) false
 let f:=len b
 let c:=f-1
 ((a=true->InR (d-1))/\(a=true->InB g (len b))/\(a=true->InB (0:Int) (len b))/\(e=true->InR (f-1)/\0<=c/\c<=len b),e,(List.take (Int.toNat c) b,()))
def tG7 y x:=(rI4 y x).1
def uI y x:=(rI4 y x).2.1
def vD8 y x:=(rI4 y x).2.2
def tR3 (y:uH9)(x:vN3):(List D71):=
 x.1
def tR4:St->Option Out:=xT3 [(1,vB)] [(5,As)] uI vD8 tG7 λy x=>[ex 4 none [(5,As)] ((tR3 y x),())]
def mT4 (p0:List D71)(p1:Bool):Prop×(List D71):=
 let a:=(p0,p1,len p0,())
 let d:=(([]:List D71),(0:Int),())
 let b:=(p1,())
 let c:=(tR1 a (zB9 (vV9 a) (wT5 a) d),())
 (Am.Ends (vV9 a) (wT5 a) (tG6 a) d/\Am.Ends (uI b) (vD8 b) (tG7 b) c,tR3 b (zB9 (uI b) (vD8 b) c))
def rI5 p0 p1:=(mT4 p0 p1).1
def f141 p0 p1:=(mT4 p0 p1).2
def rX9:=sp2 As vB As rI5 f141
def rI6:=Cy [] [(3,tR2),(8,tR4)] [(13,[(4,0,34,1005)])] 61
theorem rI7:CtxOk Tryz.prog rI6:=cq trivial
noncomputable def rY:Code:=Tryz.f141.body.getD .skip
noncomputable def oH4:Code:=wB4 rY 0
theorem pM3:yX7 Tryz.prog rI6 oH4:=lq rI7 (sp:=tR2) rfl [sX9]
noncomputable def oH5:Code:=wB4 rY 1
theorem pM4:yX7 Tryz.prog rI6 oH5:=lq rI7 (sp:=tR4) rfl [[(5,As)]]
theorem mA9:SK 141 rX9:=fl rI7 Tryz.func141 (bs:=[oH4,oH5]) ⟨pM3,pM4,trivial⟩
abbrev uI0:Type:=((List (List D71))×Int×Unit)
abbrev vN4:Type:=(Int×Int×Unit)
def rI8 (y:uI0)(x:vN4):Prop×Bool×vN4:=
 let c:=y.1
 let a:=x.2.1
 let b:=decide (a<y.2.1)
 (b=true->InB a (len c),b,(IntKind.wrap .i64 (x.1+len (nth c a ([]:List D71))),IntKind.wrap .i64 (a+1),()))
def tG8 y x:=(rI8 y x).1
def vW y x:=(rI8 y x).2.1
def wT6 y x:=(rI8 y x).2.2
def tR5 (y:uI0)(x:vN4):Int:=
 x.1
def tR6:St->Option Out:=xT3 [(0,Ai),(6,vI)] [(3,vI),(7,vI)] vW wT6 tG8 λy x=>[ex 2 none [(3,vI)] ((tR5 y x),())]
def mT5 (p0:(List (List D71))):Prop×Int:=
 let a:=(p0,len p0,())
 let b:=((0:Int),(0:Int),())
 (Am.Ends (vW a) (wT6 a) (tG8 a) b,tR5 a (zB9 (vW a) (wT6 a) b))
def rI9 p0:=(mT5 p0).1
def f142 p0:=(mT5 p0).2
def rY0:=sp1 Ai vI rI9 f142
def qW9:=Cz [] [(3,tR6)] [] 19
theorem qX:CtxOk Tryz.prog qW9:=cq trivial
noncomputable def oH6:Code:=Tryz.f142.body.getD .skip
noncomputable def oH7:Code:=wB4 oH6 0
theorem pM5:yX7 Tryz.prog qW9 oH7:=lq qX (sp:=tR6) rfl [[(3,vI)]]
theorem mB:SK 142 rY0:=fl qX Tryz.func142 (bs:=[oH7]) ⟨pM5,trivial⟩
abbrev vD9:Type:=((List (List D71))×(List D71)×Unit)
abbrev wO7:Type:=((List D71)×Int×Unit)
def uS6 (y:vD9)(x:wO7):Prop×Bool×wO7:=
 let e:=y.2.1
 let d:=x.1
 let a:=x.2.1
 let b:=decide (a≥0)
 let c:=([nth e a Z71]:List D71)
 (b=true->InB a (len e)/\((List.length d+List.length c:Nat):Int)<=4294967296/\InR (a-1),b,(d++c,a-1,()))
def vH9 y x:=(uS6 y x).1
def wJ7 y x:=(uS6 y x).2.1
def wF2 y x:=(uS6 y x).2.2
def uI1 (y:vD9)(x:wO7):(List D71):=
 x.1
def uZ5:List (Nat×Sh):=[(0,Av),(6,Bm)]
def uI2:St->Option Out:=xT3 [(0,Av),(1,As)] [(6,Bm),(7,vI)] wJ7 wF2 vH9 λy x=>[ex 2 none uZ5 (y.1,(uI1 y x),())]
def qX0 (p0:(List (List D71)))(p1:List D71):Prop×(List (List D71)):=
 let g:=f202 p1
 let e:=g==0
 let a:=decide (g<0)
 let d:=len p1
 let b:=(p0,p1,())
 let f:=(([]:List D71),d-1,())
 let h:=cond a p0 p0
 let c:=([cond a (uI1 b (zB9 (wJ7 b) (wF2 b) f)) p1]:List (List D71))
 (qI8 p1/\((!e)=true->(a=true->InR (d-1)/\Am.Ends (wJ7 b) (wF2 b) (vH9 b) f)/\((List.length h+List.length c:Nat):Int)<=4294967296),cond e p0 (h++c))
def wH6 p0 p1:=(qX0 p0 p1).1
def wD2 p0 p1:=(qX0 p0 p1).2
def vR8:=sp2 Av As Ao wH6 wD2
def sN2:=Cy [(202,rX1)] [(7,uI2)] [(7,[(4,0,400000,0)]),(19,[(4,0,28,1006)]),(21,[(4,0,1006,400100)]),(23,[(4,0,33,0)])] 34
theorem sN3:CtxOk Tryz.prog sN2:=cq ⟨nZ6,trivial⟩
noncomputable def rY1:Code:=Tryz.f177.body.getD .skip
noncomputable def sY:Code:=wB4 rY1 0
theorem rJ:yX7 Tryz.prog sN2 sY:=lq sN3 (sp:=uI2) rfl [uZ5]
theorem tG9:SK 177 vR8:=fl sN3 Tryz.func177 (bs:=[sY]) ⟨rJ,trivial⟩
def qX1 (p0:(List (List D71)))(p1:D71)(p2:Int)(p3:Int):Prop×(List (List D71)):=
 let b:=p3==1
 let e:=f180 p1 p2
 let d:=p3==2
 let a:=f52 p2 (2:Int)
 let c:=([(IntKind.wrap .i64 (p1.1-a),IntKind.wrap .i64 (p1.2.1-a),()),(IntKind.wrap .i64 (p1.1+a),IntKind.wrap .i64 (p1.2.1-a),()),(IntKind.wrap .i64 (p1.1+a),IntKind.wrap .i64 (p1.2.1+a),()),(IntKind.wrap .i64 (p1.1-a),IntKind.wrap .i64 (p1.2.1+a),())]:List D71)
 ((b=true->tG5 p1 p2/\wH6 p0 e)/\((!b)=true->d=true->wI3 p2 (2:Int)/\wH6 p0 c),cond b (wD2 p0 e) (cond d (wD2 p0 c) p0))
def tH p0 p1 p2 p3:=(qX1 p0 p1 p2 p3).1
def uA8 p0 p1 p2 p3:=(qX1 p0 p1 p2 p3).2
def tR7:=sp4 Av Al vI vI Ao tH uA8
def qJ0:Ctx:={ Cx tys [(52,wN4),(177,vR8),(180,uZ3)] [] [(5,[(4,0,16,0)]),(11,[(4,0,59,0)]),(13,[(4,0,400000,0)])] true 61 [] [] with wants:=[(177,[0])] }
theorem pM6:SK 175 tR7:=fq (c:=qJ0) Tryz.func175 ⟨vV3,tG9,qI9,trivial⟩
def qX2 (p0:(List (List D71)))(p1:D71)(p2:D71)(p3:D71)(p4:Int)(p5:Int):Prop×(List (List D71)):=
 let m:=p5==1
 let t:=f180 p2 p4
 let a:=f176 p1 p2 p4
 let b:=f176 p2 p3 p4
 let n:=([p2,f178 p2 a (1:Int),f178 p2 b (1:Int)]:List D71)
 let o:=wD2 p0 n
 let q:=([p2,f178 p2 a (-1:Int),f178 p2 b (-1:Int)]:List D71)
 let g:=wD2 o q
 let r:=IntKind.wrap .i64 (IntKind.wrap .i64 (IntKind.wrap .i64 (p2.1-p1.1)*IntKind.wrap .i64 (p3.2.1-p2.2.1))-(IntKind.wrap .i64 (IntKind.wrap .i64 (p2.2.1-p1.2.1)*IntKind.wrap .i64 (p3.1-p2.1))))
 let f:=IntKind.wrap .i64 (IntKind.wrap .i64 (p4*p4)+IntKind.wrap .i64 (4*IntKind.wrap .i64 (IntKind.wrap .i64 (a.1*b.1)+IntKind.wrap .i64 (a.2.1*b.2.1))))
 let k:=cond (cond (p5 !=0) true (r==0)) true (decide (f<=0))
 let j:=IntKind.wrap .i64 (IntKind.wrap .i64 (p4*p4)*IntKind.wrap .i64 (a.1+b.1))
 let d:=f52 j f
 let i:=IntKind.wrap .i64 (IntKind.wrap .i64 (p4*p4)*IntKind.wrap .i64 (a.2.1+b.2.1))
 let e:=f52 i f
 let s:=(d,e,())
 let h:=decide (f201 d e>IntKind.wrap .i64 (4*p4))
 let c:=cond (decide (r>0)) (-1:Int) (1:Int)
 let l:=([p2,f178 p2 a c,f178 p2 s c,f178 p2 b c]:List D71)
 ((m=true->tG5 p2 p4/\wH6 p0 t)/\((!m)=true->uS5 p1 p2 p4/\uS5 p2 p3 p4/\wG9 p2 a (1:Int)/\wG9 p2 b (1:Int)/\wH6 p0 n/\wG9 p2 a (-1:Int)/\wG9 p2 b (-1:Int)/\wH6 o q/\((!k)=true->wI3 j f/\wI3 i f/\sN d e/\((!h)=true->wG9 p2 a c/\wG9 p2 s c/\wG9 p2 b c/\wH6 g l))),cond m (wD2 p0 t) (cond k g (cond h g (wD2 g l))))
def tH0 p0 p1 p2 p3 p4 p5:=(qX2 p0 p1 p2 p3 p4 p5).1
def tH1 p0 p1 p2 p3 p4 p5:=(qX2 p0 p1 p2 p3 p4 p5).2
def tR8:=sp6 Av Al Al Al vI vI Ao tH0 tH1
def qJ1:Ctx:={ Cx tys [(52,wN4),(176,sN0),(177,vR8),(178,sN1),(180,uZ3),(201,uZ4)] [] [(5,[(4,0,25,0)]),(9,[(4,0,43,400000)]),(11,[(4,0,53,400000)]),(19,[(4,0,400000,0)]),(25,[(4,0,400000,0)]),(33,[(4,0,153,0)])] true 154 [] [] with wants:=[(177,[0])] }
theorem pM7:SK 179 tR8:=fq (c:=qJ1) Tryz.func179 ⟨vV3,oH2,tG9,oH3,qI9,qJ,trivial⟩
abbrev wX0:Type:=((List D71)×Bool×Int×Int×Int×Int×Int×Unit)
abbrev wM3:Type:=((List (List D71))×Int×Unit)
def uI3 (y:wX0)(x:wM3):Prop×Bool×wM3:=
 let i:=y.1
 let j:=y.2.2.1
 let f:=y.2.2.2.2.2.1
 let k:=x.1
 let b:=x.2.1
 let h:=decide (b<y.2.2.2.2.2.2.1)
 let d:=nth i b Z71
 let e:=Int.tmod (b+1) f
 let c:=nth i e Z71
 let a:=f176 d c j
 let g:=([f178 d a (1:Int),f178 c a (1:Int),f178 c a (-1:Int),f178 d a (-1:Int)]:List D71)
 (h=true->InB b (len i)/\InR (b+1)/\f≠0/\InB e (len i)/\uS5 d c j/\wG9 d a (1:Int)/\wG9 c a (1:Int)/\wG9 c a (-1:Int)/\wG9 d a (-1:Int)/\wH6 k g/\InR (b+1),h,(wD2 k g,b+1,()))
def vB3 y x:=(uI3 y x).1
def wE7 y x:=(uI3 y x).2.1
def wD8 y x:=(uI3 y x).2.2
def wN (y:wX0)(x:wM3):(List (List D71)):=
 x.1
def uP4:List (Nat×Sh):=[(0,Av),(1,As),(2,vB),(3,vI),(4,vI),(5,vI),(13,vI)]
def uD2:St->Option Out:=xT3 [(1,As),(2,vB),(3,vI),(4,vI),(5,vI),(13,vI),(14,vI)] [(0,Av),(15,vI)] wE7 wD8 vB3 λy x=>[ex 2 none uP4 ((wN y x),y.1,y.2.1,y.2.2.1,y.2.2.2.1,y.2.2.2.2.1,y.2.2.2.2.2.1,())]
abbrev wX1:Type:=((List D71)×Bool×Int×Int×Int×Int×Unit)
abbrev wM4:Type:=((List (List D71))×Int×Unit)
def uI4 (y:wX1)(x:wM4):Prop×Bool×wM4:=
 let h:=y.1
 let q:=y.2.2.1
 let o:=y.2.2.2.1
 let b:=y.2.2.2.2.2.1
 let n:=x.1
 let a:=x.2.1
 let k:=decide (a<b)
 let m:=!y.2.1
 let i:=decide (a>0)
 let l:=cond m true (cond i (decide (a<(b-1))) false)
 let j:=a+b
 let g:=Int.tmod (j-1) b
 let e:=nth h g Z71
 let f:=nth h a Z71
 let d:=Int.tmod (a+1) b
 let c:=nth h d Z71
 (k=true->(((!m)&&i)=true->InR (b-1))/\(l=true->InR (a+b)/\InR (j-1)/\b≠0/\InB g (len h)/\InB a (len h)/\InR (a+1)/\b≠0/\InB d (len h)/\tH0 n e f c q o)/\InR (a+1),k,(cond l (tH1 n e f c q o) n,a+1,()))
def wR3 y x:=(uI4 y x).1
def wF3 y x:=(uI4 y x).2.1
def wE0 y x:=(uI4 y x).2.2
def wS3 (y:wX1)(x:wM4):(List (List D71)):=
 x.1
def uP5:List (Nat×Sh):=[(0,Av),(1,As),(2,vB),(3,vI),(5,vI),(13,vI)]
def uD3:St->Option Out:=xT3 [(1,As),(2,vB),(3,vI),(4,vI),(5,vI),(13,vI)] [(0,Av),(19,vI)] wF3 wE0 wR3 λy x=>[ex 4 none uP5 ((wS3 y x),y.1,y.2.1,y.2.2.1,y.2.2.2.2.1,y.2.2.2.2.2.1,())]
def qX3 (p0:(List (List D71)))(p1:List D71)(p2:Bool)(p3:Int)(p4:Int)(p5:Int):Prop×(List (List D71)):=
 let d:=len p1
 let Q:=d==0
 let M:=d==1
 let O:=nth p1 (0:Int) Z71
 let i:=(p1,p2,p3,p4,p5,d,cond p2 (d-1) d,())
 let N:=(p0,(0:Int),())
 let j:=(p1,p2,p3,p4,p5,d,())
 let R:=(wN i (zB9 (wE7 i) (wD8 i) N),(0:Int),())
 let c:=wS3 j (zB9 (wF3 j) (wE0 j) R)
 let u:=cond (!p2) true (p5==0)
 let k:=p5==1
 let r:=nth p1 (0:Int) Z71
 let E:=f180 r p3
 let C:=wD2 c E
 let K:=d-1
 let A:=nth p1 K Z71
 let l:=f180 A p3
 let b:=nth p1 (0:Int) Z71
 let w:=d-1
 let a:=nth p1 w Z71
 let J:=nth p1 (1:Int) Z71
 let e:=f176 b J p3
 let v:=nth p1 (1:Int) Z71
 let g:=f181 b v p3
 let o:=f178 b g (-1:Int)
 let B:=f178 b g (-1:Int)
 let n:=([f178 o e (1:Int),f178 b e (1:Int),f178 b e (-1:Int),f178 B e (-1:Int)]:List D71)
 let t:=wD2 c n
 let F:=d-2
 let z:=nth p1 F Z71
 let f:=f176 z a p3
 let q:=d-2
 let H:=nth p1 q Z71
 let h:=f181 H a p3
 let s:=f178 a h (1:Int)
 let m:=f178 a h (1:Int)
 let L:=([f178 a f (1:Int),f178 s f (1:Int),f178 m f (-1:Int),f178 a f (-1:Int)]:List D71)
 ((!Q)=true->(M=true->InB (0:Int) (len p1)/\tH p0 O p3 p5)/\((!M)=true->(p2=true->InR (d-1))/\Am.Ends (wE7 i) (wD8 i) (vB3 i) N/\Am.Ends (wF3 j) (wE0 j) (wR3 j) R/\((!u)=true->(k=true->InB (0:Int) (len p1)/\tG5 r p3/\wH6 c E/\InR (d-1)/\InB K (len p1)/\tG5 A p3/\wH6 C l)/\((!k)=true->InB (0:Int) (len p1)/\InR (d-1)/\InB w (len p1)/\InB (1:Int) (len p1)/\uS5 b J p3/\InB (1:Int) (len p1)/\rI2 b v p3/\wG9 b g (-1:Int)/\wG9 o e (1:Int)/\wG9 b e (1:Int)/\wG9 b e (-1:Int)/\wG9 b g (-1:Int)/\wG9 B e (-1:Int)/\wH6 c n/\InR (d-2)/\InB F (len p1)/\uS5 z a p3/\InR (d-2)/\InB q (len p1)/\rI2 H a p3/\wG9 a f (1:Int)/\wG9 a h (1:Int)/\wG9 s f (1:Int)/\wG9 a h (1:Int)/\wG9 m f (-1:Int)/\wG9 a f (-1:Int)/\wH6 t L))),cond Q p0 (cond M (uA8 p0 O p3 p5) (cond u c (cond k (wD2 C l) (wD2 t L)))))
def uN1 p0 p1 p2 p3 p4 p5:=(qX3 p0 p1 p2 p3 p4 p5).1
def vN5 p0 p1 p2 p3 p4 p5:=(qX3 p0 p1 p2 p3 p4 p5).2
def tR9:=sp6 Av As vB vI vI vI Ao uN1 vN5
def uS7:Ctx:={ Cx tys [(175,tR7),(176,sN0),(177,vR8),(178,sN1),(179,tR8),(180,uZ3),(181,rX8)] [(10,uD2),(16,uD3)] [(7,[(4,0,400000,0)]),(11,[(4,0,37,0)]),(29,[(4,0,76,400000)]),(39,[(4,0,117,400000)]),(43,[(4,0,400000,0)]),(47,[(4,0,141,0)]),(53,[(4,0,180,400000)]),(57,[(4,0,215,0)])] false 216 [] [] with wants:=[(175,[0]),(177,[0]),(179,[0])] }
theorem uS8:CtxOk Tryz.prog uS7:=cq ⟨pM6,oH2,tG9,oH3,pM7,qI9,mA8,trivial⟩
noncomputable def tS:Code:=Tryz.f140.body.getD .skip
noncomputable def sN4:Code:=wB4 tS 0
theorem sT2:yX7 Tryz.prog uS7 sN4:=lq uS8 (sp:=uD2) rfl [uP4]
noncomputable def sN5:Code:=wB4 tS 1
theorem sT3:yX7 Tryz.prog uS7 sN5:=lq uS8 (sp:=uD3) rfl [uP5]
theorem pM8:SK 140 tR9:=fl uS8 Tryz.func140 (bs:=[sN4,sN5]) ⟨sT2,sT3,trivial⟩
abbrev wQ2:Type:=((List (List D71))×(List Bool)×Int×Int×Int×Int×Unit)
abbrev wF7:Type:=((List (List D71))×Int×Unit)
def vN6 (y:wQ2)(x:wF7):Prop×Bool×wF7×Bool×Bool:=
 let n:=y.1
 let j:=y.2.1
 let k:=y.2.2.1
 let m:=y.2.2.2.1
 let l:=y.2.2.2.2.1
 let f:=x.1
 let a:=x.2.1
 let b:=decide (a<y.2.2.2.2.2.1)
 let g:=nth n a ([]:List D71)
 let i:=nth j a false
 let e:=f141 g i
 let h:=nth j a false
 let c:=vN5 f e h k m l
 let d:=decide (f142 c>4096)
 (b=true->InB a (len n)/\InB a (len j)/\rI5 g i/\InB a (len j)/\uN1 f e h k m l/\rI9 c/\((!d)=true->InR (a+1)),b&&(!d),(c,a+1,()),b&&d,!b)
def uS9 y x:=(vN6 y x).1
def wT7 y x:=(vN6 y x).2.1
def wF9 y x:=(vN6 y x).2.2.1
def wS7 y x:=(vN6 y x).2.2.2.1
def qJ2 y x:=(vN6 y x).2.2.2.2
def uZ6 (y:wQ2)(x:wF7):(List (List D71)):=
 ([]:List (List D71))
def uZ7 (y:wQ2)(x:wF7):Int:=
 (3:Int)
def sN6:List (Nat×Sh):=[(10,Ao),(11,vI)]
def uZ8 (y:wQ2)(x:wF7):(List (List D71)):=
 x.1
def sN7:List (Nat×Sh):=[(13,(.own Ac 1013 false))]
def uZ9:St->Option Out:=xT3 [(0,Ai),(1,Bu),(2,vI),(3,vI),(4,vI),(33,vI)] [(13,(.own Ac 1013 false)),(34,vI)] wT7 wF9 uS9 λy x=>[ex 1 (some (wS7 y x)) sN6 ((uZ6 y x),(uZ7 y x),()),ex 2 (some (qJ2 y x)) sN7 ((uZ8 y x),())]
def mT6 (p0:(List (List D71)))(p1:List Bool)(p2:Int)(p3:Int)(p4:Int):Prop×((List (List D71))×Int×Unit):=
 let i:=f139 p2 p3 p4
 let e:=i !=0
 let g:=f98 p0 (0:Int)
 let d:=g !=0
 let f:=len p1 !=len p0
 let a:=(p0,p1,p2,p3,p4,len p0,())
 let h:=(([]:List (List D71)),(0:Int),())
 let c:=zB9 (wT7 a) (wF9 a) h
 let b:=wS7 a c
 (oG5 p2 p3 p4/\((!e)=true->sM4 p0 (0:Int)/\((!d)=true->(!f)=true->Am.Ends (wT7 a) (wF9 a) (uS9 a) h)),(cond e [] (cond d [] (cond f [] (cond b (uZ6 a c) (uZ8 a c)))),cond e i (cond d g (cond f (15:Int) (cond b (uZ7 a c) (0:Int)))),()))
def rJ0 p0 p1 p2 p3 p4:=(mT6 p0 p1 p2 p3 p4).1
def f100 p0 p1 p2 p3 p4:=(mT6 p0 p1 p2 p3 p4).2
def rY2:=sp5 Ai Bu vI vI vI (.tup (.cons Ao (.cons vI .nl))) rJ0 f100
def qX4:Ctx:={ Cx tys [(98,tZ1),(139,rX0),(140,tR9),(141,rX9),(142,rY0)] [(11,uZ9)] [(27,[(4,0,54,1013)]),(35,[(4,0,1013,0)])] false 60 [] [] with wants:=[(140,[0])] }
theorem qX5:CtxOk Tryz.prog qX4:=cq ⟨oG1,nZ5,pM8,mA9,mB,trivial⟩
noncomputable def oH8:Code:=Tryz.f100.body.getD .skip
noncomputable def qX6:Code:=wB4 oH8 0
theorem qJ3:yX7 Tryz.prog qX4 qX6:=lq qX5 (sp:=uZ9) rfl [sN6,sN7]
theorem mB0:SK 100 rY2:=fl qX5 Tryz.func100 (bs:=[qX6]) ⟨qJ3,trivial⟩
def f57t (p0:D37):Prop×Int:=
 let a:=f96 p0.2.2.2.2.2.2.2.2.2.2.2.2.2.2.2.2.2.2.1 p0.2.2.2.2.2.2.2.2.2.2.1
 let i:=a.2.1 !=0
 let m:=cond (p0.2.2.2.2.2.2.2.2.2.2.2.2.2.2.2.2.2.2.2.1 !=0) (p0.2.2.2.2.2.2.2.2.2.2.2.2.2.2.2.2.2.2.2.1 !=1) false
 let c:=f97 a.1
 let f:=p0.2.2.2.2.2.2.2.2.2.2.2.2.2.2.2.2.2.2.2.2.1==0
 let b:=cond (p0.2.2.2.2.2.2.2.2.2.2.2.2.2.2.2.2.2.2.2.2.2.1 !=0) true (p0.2.2.2.2.2.2.2.2.2.2.2.2.2.2.2.2.2.2.2.2.2.2.1 !=0)
 let k:=f98 c.1 p0.2.2.2.2.2.2.2.2.2.2.2.2.2.2.2.2.2.2.2.1
 let e:=k !=0
 let n:=f99 a.1
 let d:=f100 c.1 n.1 p0.2.2.2.2.2.2.2.2.2.2.2.2.2.2.2.2.2.2.2.2.1 p0.2.2.2.2.2.2.2.2.2.2.2.2.2.2.2.2.2.2.2.2.2.1 p0.2.2.2.2.2.2.2.2.2.2.2.2.2.2.2.2.2.2.2.2.2.2.1
 let j:=d.2.1 !=0
 let g:=f98 d.1 (0:Int)
 let h:=g !=0
 let l:=cond ((b||((!b)&&(e||(!e))))&&f) (cond b (1:Int) (cond e k (f55 p0.2.2.2.2.2.2.2.2.2.2.2.2.2.1))) (cond j d.2.1 (cond h g (f55 p0.2.2.2.2.2.2.2.2.2.2.2.2.2.1)))
 (qV7 p0.2.2.2.2.2.2.2.2.2.2.2.2.2.2.2.2.2.2.1 p0.2.2.2.2.2.2.2.2.2.2.1/\((!i)=true->(!m)=true->rX a.1/\(f=true->(!b)=true->sM4 c.1 p0.2.2.2.2.2.2.2.2.2.2.2.2.2.2.2.2.2.2.2.1/\((!e)=true->sK6 p0.2.2.2.2.2.2.2.2.2.2.2.2.2.1))/\((!f)=true->qW1 a.1/\rJ0 c.1 n.1 p0.2.2.2.2.2.2.2.2.2.2.2.2.2.2.2.2.2.2.2.2.1 p0.2.2.2.2.2.2.2.2.2.2.2.2.2.2.2.2.2.2.2.2.2.1 p0.2.2.2.2.2.2.2.2.2.2.2.2.2.2.2.2.2.2.2.2.2.2.1/\((!j)=true->sM4 d.1 (0:Int)/\((!h)=true->sK6 p0.2.2.2.2.2.2.2.2.2.2.2.2.2.1)))),cond i a.2.1 (cond m (8:Int) l))
def oH9 p0:=(f57t p0).1
def f57 p0:=(f57t p0).2
def qX7:=sp1 Aw vI oH9 f57
def mB1:=Cy [(55,tZ),(96,qV8),(97,rH6),(98,tZ1),(99,qW2),(100,rY2)] [] [(3,[(4,0,17,1003)]),(31,[(4,0,71,1010)])] 85
theorem mT7:SK 57 qX7:=fq (c:=mB1) Tryz.func57 ⟨oE,mS4,nK9,oG1,mS7,mB0,trivial⟩
abbrev vN7:Type:=((List D74)×Int×Unit)
abbrev wX2:Type:=(Int×Unit)
def uN2 (y:vN7)(x:wX2):Prop×Bool×wX2×Bool×Bool:=
 let g:=y.1
 let f:=y.2.1
 let d:=x.1
 let e:=nth g f Z74
 let b:=decide (d<f135 e.1)
 let a:=nth (nth g f Z74).2.1 d Z71
 let c:=decide (wB0 (wB0 (wB0 a.1 (Int.sub 0 a.1)) a.2.1) (Int.sub 0 a.2.1)>65536)
 (InB f (len g)/\uR7 e.1/\(b=true->InB f (len g)/\InB d 3/\InR (Int.sub 0 a.1)/\InR (Int.sub 0 a.2.1)/\((!c)=true->InR (d+1))),b&&(!c),(d+1,()),b&&c,!b)
def sY0 y x:=(uN2 y x).1
def vN8 y x:=(uN2 y x).2.1
def wT8 y x:=(uN2 y x).2.2.1
def tH2 y x:=(uN2 y x).2.2.2.1
def tH3 y x:=(uN2 y x).2.2.2.2
def tS0 (y:vN7)(x:wX2):Bool:=
 false
def sY1:List (Nat×Sh):=[(0,Ag),(3,vI)]
def tS1:St->Option Out:=xT3 [(0,Ag),(3,vI)] [(4,vI)] vN8 wT8 sY0 λy x=>[ex 1 (some (tH2 y x)) [(2,vB)] ((tS0 y x),()),ex 4 (some (tH3 y x)) sY1 (y.1,y.2.1,())]
abbrev vN9:Type:=((List D74)×Unit)
abbrev wX3:Type:=(Int×Unit)
def vR9 (y:vN9)(x:wX3):Prop×Bool×wX3×Bool×Bool:=
 let g:=y.1
 let d:=x.1
 let c:=decide (d<len g)
 let b:=(g,d,())
 let e:=((0:Int),())
 let f:=zB9 (vN8 b) (wT8 b) e
 let a:=tH3 b f
 (c=true->Am.Ends (vN8 b) (wT8 b) (sY0 b) e/\(a=true->InR (d+1)),c&&a,(d+1,()),c&&tH2 b f,!c)
def sY2 y x:=(vR9 y x).1
def wK7 y x:=(vR9 y x).2.1
def wG2 y x:=(vR9 y x).2.2.1
def vW0 y x:=(vR9 y x).2.2.2.1
def pM9 y x:=(vR9 y x).2.2.2.2
def vS0 (y:vN9)(x:wX3):Bool:=
 let a:=(y.1,x.1,())
 (tS0 a (zB9 (vN8 a) (wT8 a) ((0:Int),())))
def tS2:St->Option Out:=xT3 [(0,Ag)] [(3,vI)] wK7 wG2 sY2 λy x=>[ex 1 (some (vW0 y x)) [(2,vB)] ((vS0 y x),()),ex 2 (some (pM9 y x)) [] ()]
def mT8 (p0:List D74):Prop×Bool:=
 let a:=(p0,())
 let c:=((0:Int),())
 let b:=zB9 (wK7 a) (wG2 a) c
 (Am.Ends (wK7 a) (wG2 a) (sY2 a) c,cond (vW0 a b) (vS0 a b) true)
def qJ4 p0:=(mT8 p0).1
def f204 p0:=(mT8 p0).2
def rY3:=sp1 Ag vB qJ4 f204
def rJ1:=Cy [(135,vV4)] [(5,tS1),(2,tS2)] [] 41
theorem rJ2:CtxOk Tryz.prog rJ1:=cq ⟨sL2,trivial⟩
noncomputable def oI:Code:=Tryz.f204.body.getD .skip
noncomputable def qJ5:Code:=wB4 oI 0
noncomputable def oI0:Code:=wB4 qJ5 0
theorem pN:yX7 Tryz.prog rJ1 oI0:=lq rJ2 (sp:=tS1) rfl [[(2,vB)],sY1]
theorem pN0:yX7 Tryz.prog rJ1 qJ5:=lm rJ2 (sp:=tS2) rfl [[(2,vB)],[]] (bs:=[oI0]) ⟨pN,trivial⟩
theorem mB2:SK 204 rY3:=fl rJ2 Tryz.func204 (bs:=[qJ5]) ⟨pN0,trivial⟩
abbrev vO:Type:=(D96×Unit)
abbrev wX4:Type:=(Int×Unit)
def vS1 (y:vO)(x:wX4):Prop×Bool×wX4×Bool×Bool:=
 let j:=y.1
 let f:=x.1
 let e:=decide (f<len j.2.2.2.1)
 let a:=nth j.2.2.2.1 f Z137
 let g:=decide (f>0)
 let i:=f-1
 let d:=cond g (decide (a.1<=(nth j.2.2.2.1 i Z137).1)) false
 let b:=cond (decide (a.2.1<0)) true (decide (a.2.1>65536))
 let c:=f134 a.2.2.1!=0
 let h:=!(f204 a.2.2.1)
 let k:=(!d)&&((!b)&&((!c)&&(!h)))
 (e=true->InB f (len j.2.2.2.1)/\(g=true->InR (f-1))/\(g=true->InB i (len j.2.2.2.1))/\((!d)=true->(!b)=true->tF7 a.2.2.1/\((!c)=true->qJ4 a.2.2.1))/\(k=true->InR (f+1)),e&&k,(f+1,()),e&&(d||((!d)&&(b||((!b)&&(c||((!c)&&h)))))),!e)
def sY3 y x:=(vS1 y x).1
def vW1 y x:=(vS1 y x).2.1
def vS2 y x:=(vS1 y x).2.2.1
def uN3 y x:=(vS1 y x).2.2.2.1
def sY4 y x:=(vS1 y x).2.2.2.2
def vS3 (y:vO)(x:wX4):Int:=
 let e:=y.1
 let d:=x.1
 let a:=nth e.2.2.2.1 d Z137
 let b:=f134 a.2.2.1
 let c:=cond (cond (decide (d>0)) (decide (a.1<=(nth e.2.2.2.1 (d-1) Z137).1)) false) (24:Int) (cond (cond (decide (a.2.1<0)) true (decide (a.2.1>65536))) (2:Int) (cond (b !=0) b (2:Int)))
 c
def tS3:St->Option Out:=xT3 [(1,Af)] [(3,vI)] vW1 vS2 sY3 λy x=>[ex 1 (some (uN3 y x)) [(2,vI)] ((vS3 y x),()),ex 2 (some (sY4 y x)) [(1,Af)] (y.1,())]
abbrev vA:Type:=(D96×Unit)
abbrev wQ3:Type:=(Int×Unit)
def vE (y:vA)(x:wQ3):Prop×Bool×wQ3×Bool×Bool:=
 let i:=y.1
 let g:=x.1
 let d:=decide (g<len i.2.2.2.2.1)
 let a:=nth i.2.2.2.2.1 g Z142
 let b:=decide (g>0)
 let e:=g-1
 let c:=nth i.2.2.2.2.1 e Z142
 let h:=cond (decide (a.1<c.1)) true (cond (a.1==c.1) (decide (a.2.1<=c.2.1)) false)
 let k:=cond b (!h) true
 let f:=cond (decide (a.2.2.1<(-65536))) true (decide (a.2.2.1>65536))
 let j:=k&&(!f)
 (d=true->InB g (len i.2.2.2.2.1)/\(b=true->InR (g-1)/\InB e (len i.2.2.2.2.1))/\(j=true->InR (g+1)),d&&j,(g+1,()),d&&((h&&b)||(k&&f)),!d)
def sN8 y x:=(vE y x).1
def vJ8 y x:=(vE y x).2.1
def vI0 y x:=(vE y x).2.2.1
def uA9 y x:=(vE y x).2.2.2.1
def qJ6 y x:=(vE y x).2.2.2.2
def vI1 (y:vA)(x:wQ3):Int:=
 let d:=y.1
 let c:=x.1
 let a:=nth d.2.2.2.2.1 c Z142
 let b:=nth d.2.2.2.2.1 (c-1) Z142
 (cond ((cond (decide (a.1<b.1)) true (cond (a.1==b.1) (decide (a.2.1<=b.2.1)) false))&&decide (c>0)) (24:Int) (2:Int))
def tA:St->Option Out:=xT3 [(1,Af)] [(6,vI)] vJ8 vI0 sN8 λy x=>[ex 1 (some (uA9 y x)) [(2,vI)] ((vI1 y x),()),ex 4 (some (qJ6 y x)) [] ()]
def mT9 (p0:D96):Prop×Int:=
 let e:=cond (cond (cond (cond (cond (decide (p0.1<1)) true (decide (p0.1>65536))) true (decide (p0.2.1<0))) true (decide (p0.2.1>65536))) true (decide (p0.2.2.1<0))) true (decide (p0.2.2.1>65536))
 let c:=cond (decide (len p0.2.2.2.1>256)) true (decide (len p0.2.2.2.2.1>256))
 let b:=(p0,())
 let h:=((0:Int),())
 let g:=zB9 (vW1 b) (vS2 b) h
 let a:=(p0,())
 let d:=((0:Int),())
 let f:=zB9 (vJ8 a) (vI0 a) d
 ((!e)=true->(!c)=true->Am.Ends (vW1 b) (vS2 b) (sY3 b) h/\(sY4 b g=true->Am.Ends (vJ8 a) (vI0 a) (sN8 a) d),cond e (2:Int) (cond c (3:Int) (cond (uN3 b g) (vS3 b g) (cond (uA9 a f) (vI1 a f) (0:Int)))))
def rJ3 p0:=(mT9 p0).1
def f182 p0:=(mT9 p0).2
def sN9:=sp1 Bc vI rJ3 f182
def rJ4:=Cy [(134,uH),(204,rY3)] [(6,tS3),(19,tA)] [] 138
theorem rJ5:CtxOk Tryz.prog rJ4:=cq ⟨rH4,mB2,trivial⟩
noncomputable def rY4:Code:=Tryz.f182.body.getD .skip
noncomputable def oI1:Code:=wB4 rY4 0
theorem pN1:yX7 Tryz.prog rJ4 oI1:=lq rJ5 (sp:=tS3) rfl [[(2,vI)],[(1,Af)]]
noncomputable def qX8:Code:=wB4 rY4 1
theorem qJ7:yX7 Tryz.prog rJ4 qX8:=lq rJ5 (sp:=tA) rfl [[(2,vI)],[]]
theorem oI2:SK 182 sN9:=fl rJ5 Tryz.func182 (bs:=[oI1,qX8]) ⟨pN1,qJ7,trivial⟩
abbrev uI5:Type:=((List UInt8)×Int×Unit)
abbrev vO0:Type:=((List (List UInt8))×Int×Int×Unit)
def tZ2 (y:uI5)(x:vO0):Prop×Bool×vO0:=
 let c:=y.1
 let h:=x.1
 let g:=x.2.1
 let a:=x.2.2.1
 let d:=decide (a<=len c)
 let f:=a==len c
 let b:=cond f true (wB7 c a==y.2.1)
 let e:=([List.drop (Int.toNat g) (List.take (Int.toNat a) c)]:List (List UInt8))
 (d=true->((!f)=true->InB a (len c))/\(b=true->(0<=g/\g<=a/\a<=len c)/\((List.length h+List.length e:Nat):Int)<=4294967296/\InR (a+1))/\InR (a+1),d,(cond b (h++e) h,cond b (a+1) g,a+1,()))
def sY5 y x:=(tZ2 y x).1
def vE0 y x:=(tZ2 y x).2.1
def wJ8 y x:=(tZ2 y x).2.2
def tS4 (y:uI5)(x:vO0):(List (List UInt8)):=
 x.1
def tS5:St->Option Out:=xT3 [(0,vS),(1,At)] [(5,Cg),(6,vI),(7,vI)] vE0 wJ8 sY5 λy x=>[ex 2 none [(5,Cg)] ((tS4 y x),())]
def mU (p0:List UInt8)(p1:Int):Prop×(List (List UInt8)):=
 let a:=(p0,p1,())
 let b:=(([]:List (List UInt8)),(0:Int),(0:Int),())
 (Am.Ends (vE0 a) (wJ8 a) (sY5 a) b,tS4 a (zB9 (vE0 a) (wJ8 a) b))
def sO p0 p1:=(mU p0 p1).1
def f183 p0 p1:=(mU p0 p1).2
def rY5:=sp2 vS At Cm sO f183
def qX9:=Cy [] [(4,tS5)] [(3,[(4,0,8,1005)]),(15,[(4,0,32,1005)]),(19,[(4,0,1005,0)])] 36
theorem qY:CtxOk Tryz.prog qX9:=cq trivial
noncomputable def oI3:Code:=Tryz.f183.body.getD .skip
noncomputable def oI4:Code:=wB4 oI3 0
theorem pN2:yX7 Tryz.prog qX9 oI4:=lq qY (sp:=tS5) rfl [[(5,Cg)]]
theorem mB3:SK 183 rY5:=fl qY Tryz.func183 (bs:=[oI4]) ⟨pN2,trivial⟩
abbrev vE1:Type:=(Int×D96×Unit)
abbrev wR4:Type:=(Int×Int×Unit)
def uB (y:vE1)(x:wR4):Prop×Bool×wR4×Bool×Bool:=
 let d:=y.2.1
 let c:=x.2.1
 let a:=decide (c<len d.2.2.2.1)
 let b:=(nth d.2.2.2.1 c Z137).1==y.1
 (a=true->InB c (len d.2.2.2.1)/\((!b)=true->InB c (len d.2.2.2.1))/\((!b)=true->InR (c+1)),a&&(!b),(cond ((nth d.2.2.2.1 c Z137).1==63) c x.1,c+1,()),a&&b,!a)
def sY6 y x:=(uB y x).1
def wR5 y x:=(uB y x).2.1
def wL7 y x:=(uB y x).2.2.1
def vW2 y x:=(uB y x).2.2.2.1
def pN3 y x:=(uB y x).2.2.2.2
def tS6 (y:vE1)(x:wR4):Int:=
 x.2.1
def tS7 (y:vE1)(x:wR4):Int:=
 x.1
def tS8:St->Option Out:=xT3 [(1,At),(2,Af)] [(5,vI),(6,vI)] wR5 wL7 sY6 λy x=>[ex 1 (some (vW2 y x)) [(4,vI)] ((tS6 y x),()),ex 2 (some (pN3 y x)) [(5,vI)] ((tS7 y x),())]
def mU0 (p0:D96)(p1:Int):Prop×Int:=
 let a:=(p1,p0,())
 let c:=((-1:Int),(0:Int),())
 let b:=zB9 (wR5 a) (wL7 a) c
 (Am.Ends (wR5 a) (wL7 a) (sY6 a) c,cond (vW2 a b) (tS6 a b) (tS7 a b))
def qJ8 p0 p1:=(mU0 p0 p1).1
def f185 p0 p1:=(mU0 p0 p1).2
def rY6:=sp2 Bc At vI qJ8 f185
def qY0:=Cy [] [(3,tS8)] [] 32
theorem qY1:CtxOk Tryz.prog qY0:=cq trivial
noncomputable def oI5:Code:=Tryz.f185.body.getD .skip
noncomputable def oI6:Code:=wB4 oI5 0
theorem pN4:yX7 Tryz.prog qY0 oI6:=lq qY1 (sp:=tS8) rfl [[(4,vI)],[(5,vI)]]
theorem mB4:SK 185 rY6:=fl qY1 Tryz.func185 (bs:=[oI6]) ⟨pN4,trivial⟩
abbrev uI6:Type:=((List UInt8)×D96×Unit)
abbrev vO1:Type:=((List Int)×Int×Unit)
def rJ6 (y:uI6)(x:vO1):Prop×Bool×vO1:=
 let g:=y.1
 let i:=y.2.1
 let h:=x.1
 let a:=x.2.1
 let f:=cond (decide (a<len g)) (decide (a<128)) false
 let d:=wB7 g a
 let b:=f185 i d
 let c:=decide (b≥0)
 let e:=([b]:List Int)
 (f=true->InB a (len g)/\qJ8 i d/\(c=true->((List.length h+List.length e:Nat):Int)<=4294967296)/\InR (a+1),f,(cond c (h++e) h,a+1,()))
def sY7 y x:=(rJ6 y x).1
def vO2 y x:=(rJ6 y x).2.1
def vE2 y x:=(rJ6 y x).2.2
def uI7 (y:uI6)(x:vO1):(List Int):=
 x.1
def sY8:List (Nat×Sh):=[(5,Bz)]
def tS9:St->Option Out:=xT3 [(1,vS),(2,Af)] [(5,Bz),(6,vI)] vO2 vE2 sY7 λy x=>[ex 2 none sY8 ((uI7 y x),())]
def mU1 (p0:D96)(p1:List UInt8):Prop×(List Int):=
 let a:=(p1,p0,())
 let b:=(([]:List Int),(0:Int),())
 (Am.Ends (vO2 a) (vE2 a) (sY7 a) b,uI7 a (zB9 (vO2 a) (vE2 a) b))
def rJ7 p0 p1:=(mU1 p0 p1).1
def f144 p0 p1:=(mU1 p0 p1).2
def sO0:=sp2 Bc vS (.own Ab 0 false) rJ7 f144
def qY2:=Cy [(185,rY6)] [(3,tS9)] [(3,[(4,0,8,1005)]),(15,[(4,0,29,1005)]),(17,[(4,0,1005,0)])] 31
theorem qY3:CtxOk Tryz.prog qY2:=cq ⟨mB4,trivial⟩
noncomputable def oI7:Code:=Tryz.f144.body.getD .skip
noncomputable def oI8:Code:=wB4 oI7 0
theorem pN5:yX7 Tryz.prog qY2 oI8:=lq qY3 (sp:=tS9) rfl [sY8]
theorem oI9:SK 144 sO0:=fl qY3 Tryz.func144 (bs:=[oI8]) ⟨pN5,trivial⟩
abbrev vO3:Type:=(Int×Int×D96×Unit)
abbrev wX5:Type:=(Int×Unit)
def uN4 (y:vO3)(x:wX5):Prop×Bool×wX5×Bool×Bool:=
 let d:=y.2.2.1
 let c:=x.1
 let b:=decide (c<len d.2.2.2.2.1)
 let e:=(nth d.2.2.2.2.1 c Z142).1==y.1
 let a:=cond e ((nth d.2.2.2.2.1 c Z142).2.1==y.2.1) false
 (b=true->InB c (len d.2.2.2.2.1)/\(e=true->InB c (len d.2.2.2.2.1))/\(a=true->InB c (len d.2.2.2.2.1))/\((!a)=true->InR (c+1)),b&&(!a),(c+1,()),b&&a,!b)
def sY9 y x:=(uN4 y x).1
def vO4 y x:=(uN4 y x).2.1
def wT9 y x:=(uN4 y x).2.2.1
def uN5 y x:=(uN4 y x).2.2.2.1
def pN6 y x:=(uN4 y x).2.2.2.2
def tT (y:vO3)(x:wX5):Int:=
 (nth y.2.2.1.2.2.2.2.1 x.1 Z142).2.2.1
def tT0:St->Option Out:=xT3 [(1,At),(2,At),(3,Af)] [(7,vI)] vO4 wT9 sY9 λy x=>[ex 1 (some (uN5 y x)) [(6,vI)] ((tT y x),()),ex 2 (some (pN6 y x)) [] ()]
def mU2 (p0:D96)(p1:Int)(p2:Int):Prop×Int:=
 let a:=(p1,p2,p0,())
 let c:=((0:Int),())
 let b:=zB9 (vO4 a) (wT9 a) c
 (Am.Ends (vO4 a) (wT9 a) (sY9 a) c,cond (uN5 a b) (tT a b) (0:Int))
def qJ9 p0 p1 p2:=(mU2 p0 p1 p2).1
def f186 p0 p1 p2:=(mU2 p0 p1 p2).2
def rY7:=sp3 Bc At At vI qJ9 f186
def qY4:=Cy [] [(2,tT0)] [] 39
theorem qY5:CtxOk Tryz.prog qY4:=cq trivial
noncomputable def oJ:Code:=Tryz.f186.body.getD .skip
noncomputable def oJ0:Code:=wB4 oJ 0
theorem pN7:yX7 Tryz.prog qY4 oJ0:=lq qY5 (sp:=tT0) rfl [[(6,vI)],[]]
theorem mB5:SK 186 rY7:=fl qY5 Tryz.func186 (bs:=[oJ0]) ⟨pN7,trivial⟩
abbrev vW3:Type:=((List Int)×D96×Unit)
abbrev vE3:Type:=((List Int)×Int×Int×Unit)
def rJ8 (y:vW3)(x:vE3):Prop×Bool×vE3:=
 let c:=y.1
 let b:=y.2.1
 let r:=x.1
 let q:=x.2.1
 let a:=x.2.2.1
 let i:=decide (a<len c)
 let k:=decide (a>0)
 let d:=a-1
 let l:=nth c d (0:Int)
 let h:=nth b.2.2.2.1 l Z137
 let g:=nth c a (0:Int)
 let n:=nth b.2.2.2.1 g Z137
 let f:=f186 b h.1 n.1
 let o:=cond k (q+f) q
 let e:=([o]:List Int)
 let m:=nth c a (0:Int)
 let j:=nth b.2.2.2.1 m Z137
 (i=true->(k=true->InR (a-1)/\InB d (len c)/\InB l (len b.2.2.2.1)/\InB a (len c)/\InB g (len b.2.2.2.1)/\qJ9 b h.1 n.1/\InR (q+f))/\((List.length r+List.length e:Nat):Int)<=4294967296/\InB a (len c)/\InB m (len b.2.2.2.1)/\InR (o+j.2.1)/\InR (a+1),i,(r++e,o+j.2.1,a+1,()))
def sZ y x:=(rJ8 y x).1
def wO8 y x:=(rJ8 y x).2.1
def wG3 y x:=(rJ8 y x).2.2
def vE4 (y:vW3)(x:vE3):(List Int):=
 x.1
def vS4 (y:vW3)(x:vE3):Int:=
 x.2.1
def sZ0:List (Nat×Sh):=[(5,Bz),(6,vI)]
def tT1:St->Option Out:=xT3 [(1,Aj),(2,Af)] [(5,Bz),(6,vI),(7,vI)] wO8 wG3 sZ λy x=>[ex 2 none sZ0 ((vE4 y x),(vS4 y x),())]
def mU3 (p0:D96)(p1:List Int):Prop×(List Int):=
 let b:=(p1,p0,())
 let e:=(([]:List Int),(0:Int),(0:Int),())
 let d:=zB9 (wO8 b) (wG3 b) e
 let a:=vE4 b d
 let c:=([vS4 b d]:List Int)
 (Am.Ends (wO8 b) (wG3 b) (sZ b) e/\((List.length a+List.length c:Nat):Int)<=4294967296,a++c)
def sO1 p0 p1:=(mU3 p0 p1).1
def f145 p0 p1:=(mU3 p0 p1).2
def sO2:=sp2 Bc Aj (.own Ab 0 false) sO1 f145
def qY6:=Cy [(186,rY7)] [(4,tT1)] [(3,[(4,0,8,1005)]),(17,[(4,0,43,1005)]),(21,[(4,0,58,0)])] 59
theorem qY7:CtxOk Tryz.prog qY6:=cq ⟨mB5,trivial⟩
noncomputable def oJ1:Code:=Tryz.f145.body.getD .skip
noncomputable def oJ2:Code:=wB4 oJ1 0
theorem pN8:yX7 Tryz.prog qY6 oJ2:=lq qY7 (sp:=tT1) rfl [sZ0]
theorem oJ3:SK 145 sO2:=fl qY7 Tryz.func145 (bs:=[oJ2]) ⟨pN8,trivial⟩
def mU4 (p0:D96)(p1:List UInt8)(p2:Int):Prop×Int:=
 let c:=f182 p0 !=0
 let e:=f144 p0 p1
 let a:=f145 p0 e
 let g:=len a
 let h:=g-1
 let d:=nth a h (0:Int)
 let b:=f132 p2 (1:Int) (1048576:Int)
 let f:=d*b
 (rJ3 p0/\((!c)=true->rJ7 p0 p1/\sO1 p0 e/\InR (g-1)/\InB h (len a)/\sJ9 p2 (1:Int) (1048576:Int)/\InR (d*b)/\wI3 f p0.1),cond c (0:Int) (f52 f p0.1))
def tH4 p0 p1 p2:=(mU4 p0 p1 p2).1
def f184 p0 p1 p2:=(mU4 p0 p1 p2).2
def rY8:=sp3 Bc vS vI vI tH4 f184
def nA9:=Cy [(52,wN4),(132,uG9),(144,sO0),(145,sO2),(182,sN9)] [] [(7,[(4,0,15,1007)])] 28
theorem mB6:SK 184 rY8:=fq (c:=nA9) Tryz.func184 ⟨vV3,rG8,oI9,oJ3,oI2,trivial⟩
abbrev vE5:Type:=((List UInt8)×Int×Int×D96×Unit)
abbrev wR6:Type:=(Int×Unit)
def uN6 (y:vE5)(x:wR6):Prop×Bool×wR6×Bool×Bool:=
 let d:=y.1
 let a:=x.1
 let b:=decide (a<len d)
 let e:=wB7 d a !=10
 let f:=decide (wB7 d a<32)
 let c:=cond e (cond f true (decide (wB7 d a>126))) false
 (b=true->InB a (len d)/\(e=true->InB a (len d))/\((e&&(!f))=true->InB a (len d))/\((!c)=true->InR (a+1)),b&&(!c),(a+1,()),b&&c,!b)
def tH5 y x:=(uN6 y x).1
def vE6 y x:=(uN6 y x).2.1
def wO9 y x:=(uN6 y x).2.2.1
def tH6 y x:=(uN6 y x).2.2.2.1
def sZ1 y x:=(uN6 y x).2.2.2.2
def tT2 (y:vE5)(x:wR6):(List (List UInt8)):=
 ([]:List (List UInt8))
def tT3 (y:vE5)(x:wR6):Int:=
 (4:Int)
def sZ2:List (Nat×Sh):=[(8,Cm),(9,vI)]
def sZ3:List (Nat×Sh):=[(1,vS),(2,vI),(3,vI),(4,Af)]
def tT4:St->Option Out:=xT3 [(1,vS),(2,vI),(3,vI),(4,Af)] [(11,vI)] vE6 wO9 tH5 λy x=>[ex 1 (some (tH6 y x)) sZ2 ((tT2 y x),(tT3 y x),()),ex 2 (some (sZ1 y x)) sZ3 (y.1,y.2.1,y.2.2.1,y.2.2.2.1,())]
abbrev vJ9:Type:=(Int×Int×D96×(List (List UInt8))×Int×(List (List UInt8))×Unit)
abbrev wU:Type:=((List (List UInt8))×(List UInt8)×Int×Unit)
def sO3 (y:vJ9)(x:wU):Prop×Bool×wU:=
 let l:=y.1
 let n:=y.2.1
 let m:=y.2.2.1
 let c:=y.2.2.2.2.2.1
 let e:=x.1
 let f:=x.2.1
 let a:=x.2.2.1
 let j:=decide (a<len c)
 let h:=f++([32]:List UInt8)
 let i:=nth c a ([]:List UInt8)
 let g:=h++i
 let k:=n==0
 let b:=cond k true (decide (f184 m g l<=n))
 let d:=([f]:List (List UInt8))
 (j=true->((List.length f+List.length ([32]:List UInt8):Nat):Int)<=9223372036854775807/\InB a (len c)/\((List.length h+List.length i:Nat):Int)<=9223372036854775807/\((!k)=true->tH4 m g l)/\(b=false->((List.length e+List.length d:Nat):Int)<=4294967296/\InB a (len c))/\InR (a+1),j,(cond b e (e++d),cond b g (nth c a ([]:List UInt8)),a+1,()))
def uT y x:=(sO3 y x).1
def wQ4 y x:=(sO3 y x).2.1
def wH y x:=(sO3 y x).2.2
def vI2 (y:vJ9)(x:wU):(List (List UInt8)):=
 x.1
def uB0 (y:vJ9)(x:wU):(List UInt8):=
 x.2.1
def sO4:List (Nat×Sh):=[(2,vI),(3,vI),(4,Af),(12,Bl),(13,Ch),(14,vI),(16,vS)]
def tA0:St->Option Out:=xT3 [(2,vI),(3,vI),(4,Af),(13,Ch),(14,vI),(15,(.own .str 1015 false))] [(12,Bl),(16,vS),(17,vI)] wQ4 wH uT λy x=>[ex 6 none sO4 (y.1,y.2.1,y.2.2.1,(vI2 y x),y.2.2.2.1,y.2.2.2.2.1,(uB0 y x),())]
abbrev vW4:Type:=(Int×Int×D96×(List (List UInt8))×Unit)
abbrev vA0:Type:=((List (List UInt8))×Int×Unit)
def tA1 (y:vW4)(x:vA0):Prop×Bool×vA0:=
 let d:=y.2.2.2.1
 let c:=x.2.1
 let h:=decide (c<len d)
 let j:=nth d c ([]:List UInt8)
 let f:=f183 j (32:Int)
 let b:=(y.1,y.2.1,y.2.2.1,d,c,f,())
 let g:=(x.1,nth f (0:Int) ([]:List UInt8),(1:Int),())
 let i:=zB9 (wQ4 b) (wH b) g
 let a:=vI2 b i
 let e:=([uB0 b i]:List (List UInt8))
 (h=true->InB c (len d)/\sO j (32:Int)/\InB (0:Int) (len f)/\Am.Ends (wQ4 b) (wH b) (uT b) g/\((List.length a+List.length e:Nat):Int)<=4294967296/\InR (c+1),h,(a++e,c+1,()))
def uB1 y x:=(tA1 y x).1
def vK y x:=(tA1 y x).2.1
def wH0 y x:=(tA1 y x).2.2
def tA2 (y:vW4)(x:vA0):(List (List UInt8)):=
 x.1
def tA3:St->Option Out:=xT3 [(2,vI),(3,vI),(4,Af),(13,Ch)] [(12,Bl),(14,vI)] vK wH0 uB1 λy x=>[ex 4 none [(12,Bl)] ((tA2 y x),())]
def nB (p0:D96)(p1:List UInt8)(p2:Int)(p3:Int):Prop×((List (List UInt8))×Int×Unit):=
 let g:=f182 p0
 let d:=g !=0
 let b:=(p1,p2,p3,p0,())
 let j:=((0:Int),())
 let i:=zB9 (vE6 b) (wO9 b) j
 let c:=tH6 b i
 let f:=decide (len p1>128)
 let e:=cond (cond (cond (decide (p2<1)) true (decide (p2>1048576))) true (decide (p3<0))) true (decide (p3>1048576))
 let a:=(p2,p3,p0,f183 p1 (10:Int),())
 let h:=(([]:List (List UInt8)),(0:Int),())
 (rJ3 p0/\((!d)=true->Am.Ends (vE6 b) (wO9 b) (tH5 b) j/\(sZ1 b i=true->(!f)=true->(!e)=true->sO p1 (10:Int)/\Am.Ends (vK a) (wH0 a) (uB1 a) h)),(cond d [] (cond c (tT2 b i) (cond f [] (cond e [] (tA2 a (zB9 (vK a) (wH0 a) h))))),cond d g (cond c (tT3 b i) (cond f (3:Int) (cond e (2:Int) (0:Int)))),()))
def rJ9 p0 p1 p2 p3:=(nB p0 p1 p2 p3).1
def f143 p0 p1 p2 p3:=(nB p0 p1 p2 p3).2
def rY9:=sp4 Bc vS vI vI (.tup (.cons Cm (.cons vI .nl))) rJ9 f143
def tZ3:=Cy [(182,sN9),(183,rY5),(184,rY8)] [(5,tT4),(21,tA0),(16,tA3)] [(27,[(4,0,63,1012)]),(29,[(4,0,65,1013)]),(37,[(4,0,76,1015)]),(53,[(4,0,107,1012)]),(57,[(4,0,115,1012)]),(59,[(4,0,1012,0)])] 117
theorem tZ4:CtxOk Tryz.prog tZ3:=cq ⟨oI2,mB3,mB6,trivial⟩
noncomputable def rZ:Code:=Tryz.f143.body.getD .skip
noncomputable def oJ4:Code:=wB4 rZ 0
theorem pN9:yX7 Tryz.prog tZ3 oJ4:=lq tZ4 (sp:=tT4) rfl [sZ2,sZ3]
noncomputable def rK:Code:=wB4 rZ 1
noncomputable def qY8:Code:=wB4 rK 0
theorem qK:yX7 Tryz.prog tZ3 qY8:=lq tZ4 (sp:=tA0) rfl [sO4]
theorem qK0:yX7 Tryz.prog tZ3 rK:=lm tZ4 (sp:=tA3) rfl [[(12,Bl)]] (bs:=[qY8]) ⟨qK,trivial⟩
theorem mB7:SK 143 rY9:=fl tZ4 Tryz.func143 (bs:=[oJ4,rK]) ⟨pN9,qK0,trivial⟩
abbrev uI8:Type:=((List (List D71))×Unit)
abbrev vO5:Type:=(Int×Int×Unit)
def rK0 (y:uI8)(x:vO5):Prop×Bool×vO5:=
 let c:=y.1
 let e:=x.1
 let a:=x.2.1
 let d:=decide (a<len c)
 let b:=len (nth c a ([]:List D71))
 (d=true->InB a (len c)/\InR (e+b)/\InR (a+1),d,(e+b,a+1,()))
def tH7 y x:=(rK0 y x).1
def vO6 y x:=(rK0 y x).2.1
def wP y x:=(rK0 y x).2.2
def tT5 (y:uI8)(x:vO5):Int:=
 x.1
def tT6:St->Option Out:=xT3 [(0,Ai)] [(3,vI),(4,vI)] vO6 wP tH7 λy x=>[ex 2 none [(3,vI)] ((tT5 y x),())]
def mU5 (p0:(List (List D71))):Prop×Int:=
 let a:=(p0,())
 let b:=((0:Int),(0:Int),())
 (Am.Ends (vO6 a) (wP a) (tH7 a) b,tT5 a (zB9 (vO6 a) (wP a) b))
def tH8 p0:=(mU5 p0).1
def f146 p0:=(mU5 p0).2
def sO5:=sp1 Ai vI tH8 f146
def qY9:=Cy [] [(3,tT6)] [] 19
theorem qZ:CtxOk Tryz.prog qY9:=cq trivial
noncomputable def oJ5:Code:=Tryz.f146.body.getD .skip
noncomputable def oJ6:Code:=wB4 oJ5 0
theorem pO:yX7 Tryz.prog qY9 oJ6:=lq qZ (sp:=tT6) rfl [[(3,vI)]]
theorem oJ7:SK 146 sO5:=fl qZ Tryz.func146 (bs:=[oJ6]) ⟨pO,trivial⟩
abbrev vW5:Type:=(Int×D96×(List (List UInt8))×(List (List D71))×Int×(List Int)×(List Int)×Int×(List (List D71))×Int×Unit)
abbrev vA1:Type:=((List D71)×Int×Unit)
def sO6 (y:vW5)(x:vA1):Prop×Bool×vA1:=
 let u:=y.1
 let h:=y.2.1
 let r:=y.2.2.2.2.1
 let q:=y.2.2.2.2.2.2.1
 let o:=y.2.2.2.2.2.2.2.1
 let b:=y.2.2.2.2.2.2.2.2.1
 let d:=y.2.2.2.2.2.2.2.2.2.1
 let t:=x.1
 let a:=x.2.1
 let s:=decide (a<len (nth b d ([]:List D71)))
 let m:=nth b d ([]:List D71)
 let c:=nth m a Z71
 let l:=nth q o (0:Int)
 let n:=l+c.1
 let g:=n*u
 let k:=r*h.2.2.1
 let j:=h.2.1+k
 let e:=j-c.2.1
 let i:=e*u
 let f:=([(f52 g h.1,f52 i h.1,())]:List D71)
 (InB d (len b)/\(s=true->InB d (len b)/\InB a (len m)/\InB o (len q)/\InR (l+c.1)/\InR (n*u)/\wI3 g h.1/\InR (r*h.2.2.1)/\InR (h.2.1+k)/\InR (j-c.2.1)/\InR (e*u)/\wI3 i h.1/\((List.length t+List.length f:Nat):Int)<=4294967296/\InR (a+1)),s,(t++f,a+1,()))
def uT0 y x:=(sO6 y x).1
def wN2 y x:=(sO6 y x).2.1
def wG y x:=(sO6 y x).2.2
def tA4 (y:vW5)(x:vA1):(List D71):=
 x.1
def sO7:List (Nat×Sh):=[(2,vI),(4,Af),(10,Bg),(12,Ap),(13,vI),(14,Br),(15,Bs),(16,vI),(17,Ai),(19,vI),(20,(.own T71 1020 false))]
def tA5:St->Option Out:=xT3 [(2,vI),(4,Af),(10,Bg),(12,Ap),(13,vI),(14,Br),(15,Bs),(16,vI),(17,Ai),(19,vI)] [(20,(.own T71 1020 false)),(21,vI)] wN2 wG uT0 λy x=>[ex 8 none sO7 (y.1,y.2.1,y.2.2.1,y.2.2.2.1,y.2.2.2.2.1,y.2.2.2.2.2.1,y.2.2.2.2.2.2.1,y.2.2.2.2.2.2.2.1,y.2.2.2.2.2.2.2.2.1,y.2.2.2.2.2.2.2.2.2.1,(tA4 y x),())]
abbrev vW6:Type:=(Int×D96×(List (List UInt8))×Int×(List Int)×(List Int)×Int×(List (List D71))×Unit)
abbrev vA2:Type:=((List (List D71))×Int×Unit)
def sO8 (y:vW6)(x:vA2):Prop×Bool×vA2:=
 let g:=y.2.2.2.2.2.2.2.1
 let d:=x.1
 let b:=x.2.1
 let f:=decide (b<len g)
 let a:=(y.1,y.2.1,y.2.2.1,d,y.2.2.2.1,y.2.2.2.2.1,y.2.2.2.2.2.1,y.2.2.2.2.2.2.1,g,b,())
 let e:=(([]:List D71),(0:Int),())
 let c:=([tA4 a (zB9 (wN2 a) (wG a) e)]:List (List D71))
 (f=true->Am.Ends (wN2 a) (wG a) (uT0 a) e/\((List.length d+List.length c:Nat):Int)<=4294967296/\InR (b+1),f,(d++c,b+1,()))
def uB2 y x:=(sO8 y x).1
def wI4 y x:=(sO8 y x).2.1
def wE8 y x:=(sO8 y x).2.2
def tA6 (y:vW6)(x:vA2):(List (List D71)):=
 x.1
def sO9:List (Nat×Sh):=[(2,vI),(4,Af),(10,Bg),(12,Ap),(13,vI),(14,Br),(15,Bs),(16,vI)]
def tA7:St->Option Out:=xT3 [(2,vI),(4,Af),(10,Bg),(13,vI),(14,Br),(15,Bs),(16,vI),(17,Ai)] [(12,Ap),(19,vI)] wI4 wE8 uB2 λy x=>[ex 6 none sO9 (y.1,y.2.1,y.2.2.1,(tA6 y x),y.2.2.2.1,y.2.2.2.2.1,y.2.2.2.2.2.1,y.2.2.2.2.2.2.1,())]
abbrev vW7:Type:=(Int×D96×(List (List UInt8))×Int×(List Int)×(List Int)×Unit)
abbrev vA3:Type:=((List (List D71))×Int×Unit)
def sP (y:vW7)(x:vA3):Prop×Bool×vA3:=
 let h:=y.2.1
 let c:=y.2.2.2.2.1
 let a:=x.2.1
 let f:=decide (a<len c)
 let d:=nth c a (0:Int)
 let e:=nth h.2.2.2.1 d Z137
 let b:=(y.1,h,y.2.2.1,y.2.2.2.1,c,y.2.2.2.2.2.1,a,(f97 e.2.2.1).1,())
 let g:=(x.1,(0:Int),())
 (f=true->InB a (len c)/\InB d (len h.2.2.2.1)/\rX e.2.2.1/\Am.Ends (wI4 b) (wE8 b) (uB2 b) g/\InR (a+1),f,(tA6 b (zB9 (wI4 b) (wE8 b) g),a+1,()))
def uT1 y x:=(sP y x).1
def wK8 y x:=(sP y x).2.1
def wF4 y x:=(sP y x).2.2
def tA8 (y:vW7)(x:vA3):(List (List D71)):=
 x.1
def sP0:List (Nat×Sh):=[(2,vI),(4,Af),(10,Bg),(12,Ap),(13,vI)]
def tA9:St->Option Out:=xT3 [(2,vI),(4,Af),(10,Bg),(13,vI),(14,Br),(15,Bs)] [(12,Ap),(16,vI)] wK8 wF4 uT1 λy x=>[ex 4 none sP0 (y.1,y.2.1,y.2.2.1,(tA8 y x),y.2.2.2.1,())]
abbrev uI9:Type:=(Int×D96×(List (List UInt8))×Unit)
abbrev vO7:Type:=((List (List D71))×Int×Unit)
def rK1 (y:uI9)(x:vO7):Prop×Bool×vO7:=
 let g:=y.2.1
 let c:=y.2.2.1
 let a:=x.2.1
 let e:=decide (a<len c)
 let h:=nth c a ([]:List UInt8)
 let d:=f144 g h
 let b:=(y.1,g,c,a,d,f145 g d,())
 let f:=(x.1,(0:Int),())
 (e=true->InB a (len c)/\rJ7 g h/\sO1 g d/\Am.Ends (wK8 b) (wF4 b) (uT1 b) f/\InR (a+1),e,(tA8 b (zB9 (wK8 b) (wF4 b) f),a+1,()))
def tH9 y x:=(rK1 y x).1
def wR7 y x:=(rK1 y x).2.1
def wH5 y x:=(rK1 y x).2.2
def tT7 (y:uI9)(x:vO7):(List (List D71)):=
 x.1
def sZ4:List (Nat×Sh):=[(12,Ap)]
def tT8:St->Option Out:=xT3 [(2,vI),(4,Af),(10,Bg)] [(12,Ap),(13,vI)] wR7 wH5 tH9 λy x=>[ex 2 none sZ4 ((tT7 y x),())]
def pO0 (p0:D96)(p1:List UInt8)(p2:Int)(p3:Int):Prop×((List (List D71))×Int×Unit):=
 let d:=f143 p0 p1 p2 p3
 let c:=d.2.1 !=0
 let e:=(p2,p0,d.1,())
 let f:=(([]:List (List D71)),(0:Int),())
 let a:=tT7 e (zB9 (wR7 e) (wH5 e) f)
 let b:=decide (f146 a>4096)
 (rJ9 p0 p1 p2 p3/\((!c)=true->Am.Ends (wR7 e) (wH5 e) (tH9 e) f/\tH8 a),(cond c [] (cond b [] a),cond c d.2.1 (cond b (3:Int) (0:Int)),()))
def uT2 p0 p1 p2 p3:=(pO0 p0 p1 p2 p3).1
def f101 p0 p1 p2 p3:=(pO0 p0 p1 p2 p3).2
def rZ0:=sp4 Bc vS vI vI (.tup (.cons Ao (.cons vI .nl))) uT2 f101
def tB:=Cy [(52,wN4),(97,rH6),(143,rY9),(144,sO0),(145,sO2),(146,sO5)] [(19,tA5),(15,tA7),(11,tA9),(6,tT8)] [(3,[(4,0,28,1010)]),(9,[(4,0,34,1012)]),(17,[(4,0,46,1014)]),(19,[(4,0,49,1015)]),(35,[(4,0,75,1020)]),(45,[(4,0,122,1020)]),(47,[(4,0,126,1012)]),(53,[(4,0,1012,0)])] 131
theorem tB0:CtxOk Tryz.prog tB:=cq ⟨vV3,nK9,mB7,oI9,oJ3,oJ7,trivial⟩
noncomputable def oJ8:Code:=Tryz.f101.body.getD .skip
noncomputable def qK1:Code:=wB4 oJ8 0
noncomputable def rK2:Code:=wB4 qK1 0
noncomputable def rK3:Code:=wB4 rK2 0
noncomputable def qZ0:Code:=wB4 rK3 0
theorem qK2:yX7 Tryz.prog tB qZ0:=lq tB0 (sp:=tA5) rfl [sO7]
theorem qK3:yX7 Tryz.prog tB rK3:=lm tB0 (sp:=tA7) rfl [sO9] (bs:=[qZ0]) ⟨qK2,trivial⟩
theorem qK4:yX7 Tryz.prog tB rK2:=lm tB0 (sp:=tA9) rfl [sP0] (bs:=[rK3]) ⟨qK3,trivial⟩
theorem pO1:yX7 Tryz.prog tB qK1:=lm tB0 (sp:=tT8) rfl [sZ4] (bs:=[rK2]) ⟨qK4,trivial⟩
theorem mB8:SK 101 rZ0:=fl tB0 Tryz.func101 (bs:=[qK1]) ⟨pO1,trivial⟩
def mB9 :Prop×(List UInt8):=
 (True,wB8)
def rK4 :Prop:=(mB9).1
def f187 :List UInt8:=(mB9).2
instance :Decidable (rK4):=by
 unfold rK4 mB9
 try dsimp only
 infer_instance
def rZ1:Am.Spec:=fnSpec [] vS [] (λx=>rK4 ) (λx=>f187 ) (λ_=>())
def nB0:=Cy [] [] [] 1
theorem nB1:CtxOk Tryz.prog nB0:=cq trivial
theorem mC:SK 187 rZ1:=fl nB1 Tryz.func187 (bs:=[]) trivial
def mC0 (p0:Int):Prop×Int:=
 let b:=decide (p0<=57)
 let a:=IntKind.wrap .i64 (IntKind.wrap .u8 (p0-97))
 ((!b)=true->InR (a+10),cond b (IntKind.wrap .i64 (IntKind.wrap .u8 (p0-48))) (a+10))
def sP1 p0:=(mC0 p0).1
def f188 p0:=(mC0 p0).2
instance (p0:Int):Decidable (sP1 p0):=by
 unfold sP1 mC0
 try dsimp only
 infer_instance
def rZ2:=sp1 At vI sP1 f188
def nB2:=Cy [] [] [] 12
theorem mC1:SK 188 rZ2:=fq (c:=nB2) Tryz.func188 trivial
def mC2 (p0:Int)(p1:Int)(p2:Int):Prop×D74:=
 (True,(p0,([(p1,p2,()),Z71,Z71]:List D71),()))
def uT3 p0 p1 p2:=(mC2 p0 p1 p2).1
def f189 p0 p1 p2:=(mC2 p0 p1 p2).2
instance (p0:Int)(p1:Int)(p2:Int):Decidable (uT3 p0 p1 p2):=by
 unfold uT3 mC2
 try dsimp only
 infer_instance
def rZ3:=sp3 vI vI vI Cq uT3 f189
def nB3:=Cy [] [] [] 13
theorem mC3:SK 189 rZ3:=fq (c:=nB3) Tryz.func189 trivial
abbrev vK0:Type:=(Int×(List UInt8)×(List D74)×Int×Int×Int×Unit)
abbrev wU0:Type:=(Int×Unit)
def tB1 (y:vK0)(x:wU0):Prop×Bool×wU0:=
 let c:=x.1
 let a:=c+1
 let b:=wC4 .i64 (wC5 y.2.2.2.2.1 a 64) (1:Int)==1
 (InR (c+1)/\0<=a/\(b=true->InR (c+1)),b,(c+1,()))
def uB3 y x:=(tB1 y x).1
def tI y x:=(tB1 y x).2.1
def uB4 y x:=(tB1 y x).2.2
instance (y:vK0)(x:wU0):Decidable (uB3 y x):=by
 unfold uB3 tB1
 try dsimp only
 infer_instance
def tB2 (y:vK0)(x:wU0):Int:=
 x.1
def sP2:List (Nat×Sh):=[(0,vI),(3,vS),(4,Bh),(5,vI),(6,vI),(7,vI),(8,vI)]
def tB3:St->Option Out:=xT3 [(0,vI),(3,vS),(4,Bh),(5,vI),(6,vI),(7,vI)] [(8,vI)] tI uB4 uB3 λy x=>[ex 6 none sP2 (y.1,y.2.1,y.2.2.1,y.2.2.2.1,y.2.2.2.2.1,y.2.2.2.2.2.1,(tB2 y x),())]
abbrev wX6:Type:=(Unit)
abbrev wP0:Type:=(Int×(List UInt8)×(List D74)×Int×Int×Int×Unit)
def tZ5 (y:wX6)(x:wP0):Prop×Bool×wP0:=
 let K:=x.1
 let J:=x.2.1
 let H:=x.2.2.1
 let g:=x.2.2.2.1
 let E:=x.2.2.2.2.1
 let d:=x.2.2.2.2.2.1
 let t:=decide (d<7)
 let i:=wC4 .i64 (wC5 E d 64) (1:Int)==0
 let h:=decide (d>0)
 let f:=!i
 let B:=d-1
 let b:=cond i true (cond h (wC4 .i64 (wC5 E B 64) (1:Int)==1) false)
 let e:=(K,J,H,g,E,d,())
 let m:=(d,())
 let a:=tB2 e (zB9 (tI e) (uB4 e) m)
 let n:=100*g
 let u:=100*d
 let k:=700-u
 let r:=100*g
 let o:=r+100
 let q:=100*d
 let F:=700-q
 let w:=100*g
 let v:=w+100
 let C:=100*a
 let A:=600-C
 let j:=100*g
 let l:=100*a
 let z:=600-l
 let s:=([f189 (1:Int) n k,f189 (2:Int) o F,f189 (2:Int) v A,f189 (2:Int) j z,((5:Int),List.replicate 3 Z71,())]:List D74)
 let c:=b||(!b)
 let L:=cond b d d
 (t=true->0<=d/\((f&&h)=true->InR (d-1))/\((f&&h)=true->0<=B)/\((!b)=true->Am.Ends (tI e) (uB4 e) (uB3 e) m/\InR (100*g)/\InR (100*d)/\InR (700-u)/\uT3 (1:Int) n k/\InR (100*g)/\InR (r+100)/\InR (100*d)/\InR (700-q)/\uT3 (2:Int) o F/\InR (100*g)/\InR (w+100)/\InR (100*a)/\InR (600-C)/\uT3 (2:Int) v A/\InR (100*g)/\InR (100*a)/\InR (600-l)/\uT3 (2:Int) j z/\((List.length H+List.length s:Nat):Int)<=4294967296)/\(c=true->InR (L+1)),t&&c,(cond b K K,cond b J J,cond b H (H++s),cond b g g,cond b E E,L+1,()))
def uN7 y x:=(tZ5 y x).1
def sP3 y x:=(tZ5 y x).2.1
def uJ y x:=(tZ5 y x).2.2
instance (y:wX6)(x:wP0):Decidable (uN7 y x):=by
 unfold uN7 tZ5
 try dsimp only
 infer_instance
def tT9 (y:wX6)(x:wP0):Int:=
 x.1
def tU (y:wX6)(x:wP0):(List UInt8):=
 x.2.1
def tU0 (y:wX6)(x:wP0):(List D74):=
 x.2.2.1
def tU1 (y:wX6)(x:wP0):Int:=
 x.2.2.2.1
def sZ5:List (Nat×Sh):=[(0,vI),(3,vS),(4,Bh),(5,vI)]
def tU2:St->Option Out:=xT3 [] [(0,vI),(3,vS),(4,Bh),(5,vI),(6,vI),(7,vI)] sP3 uJ uN7 λy x=>[ex 4 none sZ5 ((tT9 y x),(tU y x),(tU0 y x),(tU1 y x),())]
abbrev vW8:Type:=(Unit)
abbrev vE7:Type:=(Int×(List UInt8)×(List D74)×Int×Unit)
def tZ6 (y:vW8)(x:vE7):Prop×Bool×vE7:=
 let r:=x.1
 let g:=x.2.1
 let b:=x.2.2.2.1
 let i:=decide (b<5)
 let k:=10*r
 let q:=2*b
 let d:=k+q
 let m:=wB7 g d
 let l:=f188 m
 let c:=16*l
 let e:=10*r
 let n:=2*b
 let h:=e+n
 let f:=h+1
 let o:=wB7 g f
 let j:=f188 o
 let t:=(r,g,x.2.2.1,b,c+j,(0:Int),())
 let s:=zB9 (sP3 ()) (uJ ()) t
 let a:=tU1 () s
 (i=true->InR (10*r)/\InR (2*b)/\InR (k+q)/\InB d (len g)/\sP1 m/\InR (16*l)/\InR (10*r)/\InR (2*b)/\InR (e+n)/\InR (h+1)/\InB f (len g)/\sP1 o/\InR (c+j)/\Am.Ends (sP3 ()) (uJ ()) (uN7 ()) t/\InR (a+1),i,(tT9 () s,tU () s,tU0 () s,a+1,()))
def uN8 y x:=(tZ6 y x).1
def sP4 y x:=(tZ6 y x).2.1
def uJ0 y x:=(tZ6 y x).2.2
instance (y:vW8)(x:vE7):Decidable (uN8 y x):=by
 unfold uN8 tZ6
 try dsimp only
 infer_instance
def tU3 (y:vW8)(x:vE7):(List D74):=
 x.2.2.1
def tU4:St->Option Out:=xT3 [] [(0,vI),(3,vS),(4,Bh),(5,vI)] sP4 uJ0 uN8 λy x=>[ex 2 none [(4,Bh)] ((tU3 y x),())]
def mC4 (p0:Int):Prop×(List D74):=
 let a:=(p0,f187,([]:List D74),(0:Int),())
 (rK4/\Am.Ends (sP4 ()) (uJ0 ()) (uN8 ()) a,tU3 () (zB9 (sP4 ()) (uJ0 ()) a))
def rK5 p0:=(mC4 p0).1
def f147 p0:=(mC4 p0).2
instance (p0:Int):Decidable (rK5 p0):=by
 unfold rK5 mC4
 try dsimp only
 infer_instance
def rZ4:=sp1 vI Bi rK5 f147
def tZ7:=Cy [(187,rZ1),(188,rZ2),(189,rZ3)] [(12,tB3),(8,tU2),(4,tU4)] [(5,[(4,0,10,1004)]),(29,[(4,0,93,1004)]),(31,[(4,0,1004,0)])] 95
theorem tZ8:CtxOk Tryz.prog tZ7:=cq ⟨mC,mC1,mC3,trivial⟩
noncomputable def oJ9:Code:=Tryz.f147.body.getD .skip
noncomputable def qK5:Code:=wB4 oJ9 0
noncomputable def qK6:Code:=wB4 qK5 0
noncomputable def qZ1:Code:=wB4 qK6 0
theorem qK7:yX7 Tryz.prog tZ7 qZ1:=lq tZ8 (sp:=tB3) rfl [sP2]
theorem pO2:yX7 Tryz.prog tZ7 qK6:=lm tZ8 (sp:=tU2) rfl [sZ5] (bs:=[qZ1]) ⟨qK7,trivial⟩
theorem pO3:yX7 Tryz.prog tZ7 qK5:=lm tZ8 (sp:=tU4) rfl [[(4,Bh)]] (bs:=[qK6]) ⟨pO2,trivial⟩
theorem mC5:SK 147 rZ4:=fl tZ8 Tryz.func147 (bs:=[qK5]) ⟨pO3,trivial⟩
abbrev vO8:Type:=(Unit)
abbrev wX7:Type:=((Int×Int×Int×(List D137)×(List D142)×Unit)×(Int×Int×Int×(List D137)×(List D142)×Unit)×Int×Unit)
def tZ9 (y:vO8)(x:wX7):Prop×Bool×wX7:=
 let e:=x.1
 let b:=x.2.1
 let a:=x.2.2.1
 let c:=decide (a<95)
 let d:=([(IntKind.wrap .u8 (32+a),(600:Int),f147 a,())]:List D137)
 (c=true->InR (32+a)/\rK5 a/\((List.length b.2.2.2.1+List.length d:Nat):Int)<=4294967296/\InR (a+1),c,((e.1,e.2.1,e.2.2.1,e.2.2.2.1,e.2.2.2.2.1,()),(b.1,b.2.1,b.2.2.1,b.2.2.2.1++d,b.2.2.2.2.1,()),a+1,()))
def uN9 y x:=(tZ9 y x).1
def sP5 y x:=(tZ9 y x).2.1
def uJ1 y x:=(tZ9 y x).2.2
instance (y:vO8)(x:wX7):Decidable (uN9 y x):=by
 unfold uN9 tZ9
 try dsimp only
 infer_instance
def rZ5 (y:vO8)(x:wX7):(Int×Int×Int×(List D137)×(List D142)×Unit):=
 let a:=x.1
 (a.1,a.2.1,a.2.2.1,a.2.2.2.1,a.2.2.2.2.1,())
def tU5 (y:vO8)(x:wX7):(Int×Int×Int×(List D137)×(List D142)×Unit):=
 let a:=x.2.1
 (a.1,a.2.1,a.2.2.1,a.2.2.2.1,a.2.2.2.2.1,())
def sZ6:List (Nat×Sh):=[(0,Ad),(1,Ae)]
def tU6:St->Option Out:=xT3 [] [(0,Ad),(1,Ae),(2,vI)] sP5 uJ1 uN9 λy x=>[ex 2 none sZ6 ((rZ5 y x),(tU5 y x),())]
def mC6 :Prop×D96:=
 let b:=((1000:Int),(800:Int),(1200:Int),([]:List D137),([((65:Int),(86:Int),(-100:Int),()),((76:Int),(84:Int),(-100:Int),()),((84:Int),(97:Int),(-100:Int),()),((86:Int),(65:Int),(-100:Int),())]:List D142),())
 let c:=(((0:Int),(0:Int),(0:Int),([]:List D137),([]:List D142),()),b,(0:Int),())
 let a:=tU5 () (zB9 (sP5 ()) (uJ1 ()) c)
 (Am.Ends (sP5 ()) (uJ1 ()) (uN9 ()) c,(a.1,a.2.1,a.2.2.1,a.2.2.2.1,a.2.2.2.2.1,()))
def tI0 :Prop:=(mC6).1
def f102 :D96:=(mC6).2
instance :Decidable (tI0):=by
 unfold tI0 mC6
 try dsimp only
 infer_instance
def oK:Am.Spec:=fnSpec [] Bc [] (λx=>tI0 ) (λx=>f102 ) (λ_=>())
def qZ2:=Cy [(147,rZ4)] [(3,tU6)] [(3,[(4,0,7,400101)]),(11,[(4,0,22,400100)]),(13,[(4,0,400100,400000),(4,0,400101,400001)])] 25
theorem qZ3:CtxOk Tryz.prog qZ2:=cq ⟨mC5,trivial⟩
noncomputable def oK0:Code:=Tryz.f102.body.getD .skip
noncomputable def oK1:Code:=wB4 oK0 0
theorem pO4:yX7 Tryz.prog qZ2 oK1:=lq qZ3 (sp:=tU6) rfl [sZ6]
theorem mC7:SK 102 oK:=fl qZ3 Tryz.func102 (bs:=[oK1]) ⟨pO4,trivial⟩
abbrev wQ5:Type:=((List (List D71))×D25×(List (List D71))×Int×Unit)
abbrev wI5:Type:=((List D71)×Int×Unit)
def uJ2 (y:wQ5)(x:wI5):Prop×Bool×wI5×Bool×Bool:=
 let f:=y.1
 let o:=y.2.1
 let e:=y.2.2.2.1
 let q:=x.1
 let a:=x.2.1
 let c:=decide (a<len (nth f e ([]:List D71)))
 let g:=nth f e ([]:List D71)
 let k:=nth g a Z71
 let b:=!(f137 k)
 let l:=nth f e ([]:List D71)
 let n:=nth l a Z71
 let h:=f136 o n
 let d:=cond b true (!(f137 h))
 let j:=nth f e ([]:List D71)
 let i:=nth j a Z71
 let m:=([f136 o i]:List D71)
 (InB e (len f)/\(c=true->InB e (len f)/\InB a (len g)/\sL3 k/\((!b)=true->InB e (len f))/\((!b)=true->InB a (len l))/\((!b)=true->sL4 o n)/\((!b)=true->sL3 h)/\((!d)=true->InB e (len f)/\InB a (len j)/\sL4 o i/\((List.length q+List.length m:Nat):Int)<=4294967296)/\((!d)=true->InR (a+1))),c&&(!d),(q++m,a+1,()),c&&d,!c)
def uB5 y x:=(uJ2 y x).1
def wF8 y x:=(uJ2 y x).2.1
def wE y x:=(uJ2 y x).2.2.1
def uB6 y x:=(uJ2 y x).2.2.2.1
def uB7 y x:=(uJ2 y x).2.2.2.2
def tB4 (y:wQ5)(x:wI5):(List (List D71)):=
 ([]:List (List D71))
def tB5 (y:wQ5)(x:wI5):Int:=
 (2:Int)
def sP6:List (Nat×Sh):=[(4,Ao),(5,vI)]
def tB6 (y:wQ5)(x:wI5):(List D71):=
 x.1
def sP7:List (Nat×Sh):=[(0,Ai),(3,Ba),(7,Ca),(8,vI),(9,(.own T71 1009 false))]
def tB7:St->Option Out:=xT3 [(0,Ai),(3,Ba),(7,Ca),(8,vI)] [(9,(.own T71 1009 false)),(10,vI)] wF8 wE uB5 λy x=>[ex 1 (some (uB6 y x)) sP6 ((tB4 y x),(tB5 y x),()),ex 4 (some (uB7 y x)) sP7 (y.1,y.2.1,y.2.2.1,y.2.2.2.1,(tB6 y x),())]
abbrev wX8:Type:=((List (List D71))×D25×Unit)
abbrev wJ9:Type:=((List (List D71))×Int×Unit)
def tB8 (y:wX8)(x:wJ9):Prop×Bool×wJ9×Bool×Bool:=
 let i:=y.1
 let h:=x.1
 let g:=x.2.1
 let c:=decide (g<len i)
 let a:=(i,y.2.1,h,g,())
 let f:=(([]:List D71),(0:Int),())
 let d:=zB9 (wF8 a) (wE a) f
 let b:=uB7 a d
 let e:=([tB6 a d]:List (List D71))
 (c=true->Am.Ends (wF8 a) (wE a) (uB5 a) f/\(b=true->((List.length h+List.length e:Nat):Int)<=4294967296)/\(b=true->InR (g+1)),c&&b,(h++e,g+1,()),c&&uB6 a d,!c)
def tI1 y x:=(tB8 y x).1
def vE8 y x:=(tB8 y x).2.1
def wL8 y x:=(tB8 y x).2.2.1
def vW9 y x:=(tB8 y x).2.2.2.1
def pO5 y x:=(tB8 y x).2.2.2.2
def tU7 (y:wX8)(x:wJ9):(List (List D71)):=
 let a:=(y.1,y.2.1,x.1,x.2.1,())
 (tB4 a (zB9 (wF8 a) (wE a) (([]:List D71),(0:Int),())))
def tU8 (y:wX8)(x:wJ9):Int:=
 let a:=(y.1,y.2.1,x.1,x.2.1,())
 (tB5 a (zB9 (wF8 a) (wE a) (([]:List D71),(0:Int),())))
def sZ7:List (Nat×Sh):=[(4,Ao),(5,vI)]
def tU9 (y:wX8)(x:wJ9):(List (List D71)):=
 x.1
def sZ8:List (Nat×Sh):=[(7,Ca)]
def tV:St->Option Out:=xT3 [(0,Ai),(3,Ba)] [(7,Ca),(8,vI)] vE8 wL8 tI1 λy x=>[ex 1 (some (vW9 y x)) sZ7 ((tU7 y x),(tU8 y x),()),ex 2 (some (pO5 y x)) sZ8 ((tU9 y x),())]
def mU6 (p0:(List (List D71)))(p1:D25):Prop×((List (List D71))×Int×Unit):=
 let e:=f18 p1
 let c:=e !=0
 let d:=decide (f146 p0>4096)
 let a:=(p0,p1,())
 let g:=(([]:List (List D71)),(0:Int),())
 let f:=zB9 (vE8 a) (wL8 a) g
 let b:=vW9 a f
 (tP3 p1/\((!c)=true->tH8 p0/\((!d)=true->Am.Ends (vE8 a) (wL8 a) (tI1 a) g)),(cond c [] (cond d [] (cond b (tU7 a f) (tU9 a f))),cond c e (cond d (3:Int) (cond b (tU8 a f) (0:Int))),()))
def qK8 p0 p1:=(mU6 p0 p1).1
def f103 p0 p1:=(mU6 p0 p1).2
def rZ6:=sp2 Ai Aq (.tup (.cons Ai (.cons vI .nl))) qK8 f103
def rK6:=Cy [(18,uX7),(136,sL5),(137,uY2),(146,sO5)] [(12,tB7),(8,tV)] [(13,[(4,0,19,1007)]),(21,[(4,0,26,1009)]),(33,[(4,0,69,1009)]),(35,[(4,0,73,1007)]),(37,[(4,0,1007,0)])] 75
theorem rK7:CtxOk Tryz.prog rK6:=cq ⟨qU4,oF2,qI,oJ7,trivial⟩
noncomputable def oK2:Code:=Tryz.f103.body.getD .skip
noncomputable def qK9:Code:=wB4 oK2 0
noncomputable def qZ4:Code:=wB4 qK9 0
theorem qL:yX7 Tryz.prog rK6 qZ4:=lq rK7 (sp:=tB7) rfl [sP6,sP7]
theorem pO6:yX7 Tryz.prog rK6 qK9:=lm rK7 (sp:=tV) rfl [sZ7,sZ8] (bs:=[qZ4]) ⟨qL,trivial⟩
theorem mC8:SK 103 rZ6:=fl rK7 Tryz.func103 (bs:=[qK9]) ⟨pO6,trivial⟩
def nB4 (k:D96)(p0:D37):Prop×Int:=
 let b:=f101 k p0.2.2.2.2.2.2.2.2.2.2.2.2.2.2.2.2.2.2.2.2.2.2.2.1 p0.2.2.2.2.2.2.2.2.2.2.2.2.2.2.2.2.2.2.2.2.2.2.2.2.1 p0.2.2.2.2.2.2.2.2.2.2.2.2.2.2.2.2.2.2.2.2.2.2.2.2.2.1
 let f:=b.2.1 !=0
 let a:=f103 b.1 p0.2.2.2.2.2.2.2.2.2.2.1
 let d:=a.2.1 !=0
 let e:=f98 a.1 (0:Int)
 let c:=e !=0
 (tI0/\uT2 k p0.2.2.2.2.2.2.2.2.2.2.2.2.2.2.2.2.2.2.2.2.2.2.2.1 p0.2.2.2.2.2.2.2.2.2.2.2.2.2.2.2.2.2.2.2.2.2.2.2.2.1 p0.2.2.2.2.2.2.2.2.2.2.2.2.2.2.2.2.2.2.2.2.2.2.2.2.2.1/\((!f)=true->qK8 b.1 p0.2.2.2.2.2.2.2.2.2.2.1/\((!d)=true->sM4 a.1 (0:Int)/\((!c)=true->sK6 p0.2.2.2.2.2.2.2.2.2.2.2.2.2.1))),cond f b.2.1 (cond d a.2.1 (cond c e (f55 p0.2.2.2.2.2.2.2.2.2.2.2.2.2.1))))
def f58t (p0:D37):Prop×Int:=nB4 f102 p0
def qZ5 p0:=(f58t p0).1
def f58 p0:=(f58t p0).2
def qZ6:Am.Spec:=fnSpec [(0,Aw)] vI [] (λx=>qZ5 x.1) (λx=>f58 x.1) (λ_=>())
def oK3 (k:D96):Ctx:=Cx tys [(55,tZ),(98,tZ1),(101,rZ0),(102,fnSpec [] Bc [] (λ_=>tI0) (λ_=>k) (λ_=>())),(103,rZ6)] [] [(3,[(4,0,15,1003)])] false 39 [] []
theorem mC9:CtxOk Tryz.prog (oK3 f102):=cq ⟨oE,oG1,mB8,mC7,mC8,trivial⟩
theorem mD:∀(k:D96) x,xF8 (oK3 k) (Tryz.f58.body.getD .skip) Tryz.f58.results.toList [(0,Aw)] vI [] x=some ((nB4 k x.1).1,(nB4 k x.1).2,()):=λk x=>by kernel_rfl
theorem mU7:SpecOk Tryz.prog 58 qZ6:=wC3 mC9 mixed Tryz.func58 (by kernel_rfl) (bs:=[]) (by kernel_rfl) trivial (mD f102)
def mD0 (p0:Int):Prop×(Int×Int×Unit):=
 let a:=([(0:Int),(0:Int),(5:Int),(4:Int),(2:Int),(3:Int),(1:Int),(1:Int),(9:Int),(3:Int),(0:Int),(2:Int)]:List Int)
 let b:=p0==3
 ((!b)=true->InB p0 (len a)/\InB p0 (len a),(cond b (4:Int) (nth a p0 (0:Int)),cond b (16:Int) (nth a p0 (0:Int)),()))
def sP8 p0:=(mD0 p0).1
def f104 p0:=(mD0 p0).2
instance (p0:Int):Decidable (sP8 p0):=by
 unfold sP8 mD0
 try dsimp only
 infer_instance
def rZ7:=sp1 vI (.tup (.cons vI (.cons vI .nl))) sP8 f104
def nB5:=Cy [] [] [(3,[(4,0,5,1004)])] 16
theorem mD1:SK 104 rZ7:=fq (c:=nB5) Tryz.func104 trivial
def mD2 (p0:Int)(p1:Int):Prop×(Int×Int×Unit):=
 let f:=cond (p0==2) (p1==2) false
 let a:=cond (cond (p0==4) true (cond (p0==5) (decide (p1>0)) false)) true (cond (p0==11) (p1==1) false)
 let d:=p0==5
 let c:=p0==7
 let g:=p0==8
 let e:=p0==11
 let h:=cond f (1:Int) (cond a (-65535:Int) (cond d (-32768:Int) (cond c (2:Int) (cond g (-262140:Int) (cond e (-128:Int) (0:Int))))))
 let b:=cond f (256:Int) (cond a (65535:Int) (cond d (32768:Int) (cond c (256:Int) (cond g (262140:Int) (cond e (128:Int) (65535:Int))))))
 (True,(h,b,()))
def oK4 p0 p1:=(mD2 p0 p1).1
def f105 p0 p1:=(mD2 p0 p1).2
def rZ8:=sp2 vI vI (.tup (.cons vI (.cons vI .nl))) oK4 f105
def nB6:=Cy [] [] [] 38
theorem mD3:SK 105 rZ8:=fq (c:=nB6) Tryz.func105 trivial
abbrev uB8:Type:=(Int×(List Int)×(List D69)×Unit)
abbrev vI3:Type:=(Int×Unit)
def uT4 (y:uB8)(x:vI3):Prop×Bool×vI3×Bool×Bool:=
 let g:=y.1
 let e:=y.2.1
 let a:=x.1
 let b:=decide (a<len e)
 let d:=f105 g a
 let f:=decide (nth e a (0:Int)<d.1)
 let c:=cond f true (decide (nth e a (0:Int)>d.2.1))
 (b=true->oK4 g a/\InB a (len e)/\((!f)=true->InB a (len e))/\((!c)=true->InR (a+1)),b&&(!c),(a+1,()),b&&c,!b)
def sP9 y x:=(uT4 y x).1
def vI4 y x:=(uT4 y x).2.1
def wP1 y x:=(uT4 y x).2.2.1
def uJ3 y x:=(uT4 y x).2.2.2.1
def tB9 y x:=(uT4 y x).2.2.2.2
def sQ (y:uB8)(x:vI3):Int:=
 (2:Int)
def rZ9:List (Nat×Sh):=[(0,vI),(1,Aj),(2,Ak)]
def sQ0:St->Option Out:=xT3 [(0,vI),(1,Aj),(2,Ak)] [(9,vI)] vI4 wP1 sP9 λy x=>[ex 1 (some (uJ3 y x)) [(6,vI)] ((sQ y x),()),ex 2 (some (tB9 y x)) rZ9 (y.1,y.2.1,y.2.2.1,())]
abbrev vO9:Type:=(Int×(List Int)×(List D69)×Unit)
abbrev wX9:Type:=(Int×Unit)
def uB9 (y:vO9)(x:wX9):Prop×Bool×wX9×Bool×Bool:=
 let g:=y.2.2.1
 let a:=x.1
 let b:=decide (a<len g)
 let f:=decide ((nth g a Z69).1<0)
 let d:=cond f true (decide ((nth g a Z69).1>65535))
 let e:=nth g a Z69
 let c:=cond d true (!(f92 e.2.1))
 (b=true->InB a (len g)/\((!f)=true->InB a (len g))/\((!d)=true->InB a (len g))/\((!d)=true->sX2 e.2.1)/\((!c)=true->InR (a+1)),b&&(!c),(a+1,()),b&&c,!b)
def tI2 y x:=(uB9 y x).1
def vP y x:=(uB9 y x).2.1
def wU1 y x:=(uB9 y x).2.2.1
def vX y x:=(uB9 y x).2.2.2.1
def sZ9 y x:=(uB9 y x).2.2.2.2
def tV0 (y:vO9)(x:wX9):Int:=
 (2:Int)
def rA:List (Nat×Sh):=[(0,vI),(1,Aj),(2,Ak)]
def tV1:St->Option Out:=xT3 [(0,vI),(1,Aj),(2,Ak)] [(12,vI)] vP wU1 tI2 λy x=>[ex 1 (some (vX y x)) [(6,vI)] ((tV0 y x),()),ex 4 (some (sZ9 y x)) rA (y.1,y.2.1,y.2.2.1,())]
abbrev vP0:Type:=(Int×(List Int)×(List D69)×Unit)
abbrev wY:Type:=(Int×Unit)
def vI5 (y:vP0)(x:wY):Prop×Bool×wY×Bool×Bool:=
 let e:=y.2.1
 let a:=x.1
 let b:=cond (y.1==3) (decide (a<len e)) false
 let d:=a-2
 let c:=decide (nth e a (0:Int)<=nth e d (0:Int))
 (b=true->InB a (len e)/\InR (a-2)/\InB d (len e)/\((!c)=true->InR (a+2)),b&&(!c),(a+2,()),b&&c,!b)
def uO y x:=(vI5 y x).1
def wR8 y x:=(vI5 y x).2.1
def wP2 y x:=(vI5 y x).2.2.1
def vK1 y x:=(vI5 y x).2.2.2.1
def rA0 y x:=(vI5 y x).2.2.2.2
def tV2 (y:vP0)(x:wY):Int:=
 (24:Int)
def tV3:St->Option Out:=xT3 [(0,vI),(1,Aj),(2,Ak)] [(13,vI)] wR8 wP2 uO λy x=>[ex 1 (some (vK1 y x)) [(6,vI)] ((tV2 y x),()),ex 6 (some (rA0 y x)) [(2,Ak)] (y.2.2.1,())]
abbrev vP1:Type:=((List D69)×Unit)
abbrev wY0:Type:=(Int×Unit)
def tC (y:vP1)(x:wY0):Prop×Bool×wY0×Bool×Bool:=
 let e:=y.1
 let a:=x.1
 let b:=decide (a<len e)
 let d:=a-1
 let c:=decide ((nth e a Z69).1<=(nth e d Z69).1)
 (b=true->InB a (len e)/\InR (a-1)/\InB d (len e)/\((!c)=true->InR (a+1)),b&&(!c),(a+1,()),b&&c,!b)
def tI3 y x:=(tC y x).1
def vX0 y x:=(tC y x).2.1
def wU2 y x:=(tC y x).2.2.1
def uO0 y x:=(tC y x).2.2.2.1
def pO7 y x:=(tC y x).2.2.2.2
def tV4 (y:vP1)(x:wY0):Int:=
 (24:Int)
def tV5:St->Option Out:=xT3 [(2,Ak)] [(14,vI)] vX0 wU2 tI3 λy x=>[ex 1 (some (uO0 y x)) [(6,vI)] ((tV4 y x),()),ex 8 (some (pO7 y x)) [] ()]
def f59t (p0:Int)(p1:List Int)(p2:List D69):Prop×Int:=
 let k:=cond (decide (p0<1)) true (decide (p0>11))
 let j:=f104 p0
 let r:=cond (cond (cond (decide (len p1<j.1)) true (decide (len p1>j.2.1))) true (cond (p0==3) (Int.tmod (len p1) (2:Int)==1) false)) true (!(Ty.eqb .bool (decide (len p2>0)) (p0==10)))
 let n:=decide (len p2>16)
 let g:=(p0,p1,p2,())
 let z:=((0:Int),())
 let w:=zB9 (vI4 g) (wP1 g) z
 let m:=p0==9
 let s:=cond m (nth p1 (0:Int) (0:Int)==0) false
 let l:=cond s (nth p1 (1:Int) (0:Int)==0) false
 let f:=cond l (nth p1 (2:Int) (0:Int)==0) false
 let a:=(p0,p1,p2,())
 let v:=((0:Int),())
 let h:=zB9 (vP a) (wU1 a) v
 let d:=p0==2
 let e:=cond d (decide (nth p1 (1:Int) (0:Int)<=nth p1 (0:Int) (0:Int))) false
 let b:=(p0,p1,p2,())
 let o:=((2:Int),())
 let i:=zB9 (wR8 b) (wP2 b) o
 let c:=(p2,())
 let q:=((1:Int),())
 let u:=zB9 (vX0 c) (wU2 c) q
 let t:=cond (vX a h) (tV0 a h) (cond e (24:Int) (cond (vK1 b i) (tV2 b i) (cond (uO0 c u) (tV4 c u) (0:Int))))
 ((!k)=true->sP8 p0/\((!r)=true->(!n)=true->Am.Ends (vI4 g) (wP1 g) (sP9 g) z/\(tB9 g w=true->(m=true->InB (0:Int) (len p1))/\(s=true->InB (1:Int) (len p1))/\(l=true->InB (2:Int) (len p1))/\((!f)=true->Am.Ends (vP a) (wU1 a) (tI2 a) v/\(sZ9 a h=true->(d=true->InB (1:Int) (len p1))/\(d=true->InB (0:Int) (len p1))/\((!e)=true->Am.Ends (wR8 b) (wP2 b) (uO b) o/\(rA0 b i=true->Am.Ends (vX0 c) (wU2 c) (tI3 c) q)))))),cond k (8:Int) (cond r (1:Int) (cond n (3:Int) (cond (uJ3 g w) (sQ g w) (cond f (2:Int) t)))))
def oK5 p0 p1 p2:=(f59t p0 p1 p2).1
def f59 p0 p1 p2:=(f59t p0 p1 p2).2
def qZ7:=sp3 vI Aj Ak vI oK5 f59
def sQ1:=Cy [(92,uY),(104,rZ7),(105,rZ8)] [(9,sQ0),(17,tV1),(24,tV3),(29,tV5)] [] 181
theorem sQ2:CtxOk Tryz.prog sQ1:=cq ⟨qU7,mD1,mD3,trivial⟩
noncomputable def sA:Code:=Tryz.f59.body.getD .skip
noncomputable def nL1:Code:=wB4 sA 0
theorem oK6:yX7 Tryz.prog sQ1 nL1:=lq sQ2 (sp:=sQ0) rfl [[(6,vI)],rZ9]
noncomputable def oK7:Code:=wB4 sA 1
theorem pO8:yX7 Tryz.prog sQ1 oK7:=lq sQ2 (sp:=tV1) rfl [[(6,vI)],rA]
noncomputable def oK8:Code:=wB4 sA 2
theorem pO9:yX7 Tryz.prog sQ1 oK8:=lq sQ2 (sp:=tV3) rfl [[(6,vI)],[(2,Ak)]]
noncomputable def oK9:Code:=wB4 sA 3
theorem pP:yX7 Tryz.prog sQ1 oK9:=lq sQ2 (sp:=tV5) rfl [[(6,vI)],[]]
theorem mU8:SK 59 qZ7:=fl sQ2 Tryz.func59 (bs:=[nL1,oK7,oK8,oK9]) ⟨oK6,pO8,pO9,pP,trivial⟩
def mU9 (p0:Int)(p1:Int)(p2:Int):Prop×Bool:=
 (True,cond (decide (p0≥p1)) (decide (p0<=p2)) false)
def vT2 p0 p1 p2:=(mU9 p0 p1 p2).1
def f106 p0 p1 p2:=(mU9 p0 p1 p2).2
def qA:=sp3 vI vI vI vB vT2 f106
def nB7:=Cy [] [] [] 15
theorem mD4:SK 106 qA:=fq (c:=nB7) Tryz.func106 trivial
def mV (p0:Int):Prop×Int:=
 let b:=p0==5
 let a:=cond b b (p0==6)
 let c:=p0==3
 (True,cond (cond a true (cond c c (p0==9))) (cond a (0:Int) (2:Int)) (1:Int))
def oL p0:=(mV p0).1
def f107 p0:=(mV p0).2
def qA0:=sp1 vI vI oL f107
def nB8:=Cy [] [] [] 10
theorem mD5:SK 107 qA0:=fq (c:=nB8) Tryz.func107 trivial
def f60t (p0:Int)(p1:List Int):Prop×Int:=
 let w:=!(f106 p0 (1:Int) (10:Int))
 let s:=len p1 !=f107 p0
 let m:=p0==1
 let r:=p0==7
 let a:=cond m m (cond r r (p0==8))
 let i:=nth p1 (0:Int) (0:Int)
 let g:=p0==2
 let j:=nth p1 (0:Int) (0:Int)
 let b:=p0==4
 let n:=nth p1 (0:Int) (0:Int)
 let c:=p0==3
 let h:=nth p1 (0:Int) (0:Int)
 let f:=f106 h (0:Int) (16:Int)
 let k:=nth p1 (1:Int) (0:Int)
 let d:=p0==9
 let l:=nth p1 (0:Int) (0:Int)
 let e:=f106 l (-16:Int) (16:Int)
 let v:=nth p1 (1:Int) (0:Int)
 let u:=p0==10
 let o:=nth p1 (0:Int) (0:Int)
 let q:=cond c (cond f (f106 k (0:Int) (262140:Int)) false) (cond d (cond e (f106 v (-16:Int) (16:Int)) false) (cond u (f106 o (1:Int) (16:Int)) true))
 let t:=cond s (1:Int) (cond (!(cond a (f106 i (0:Int) (16:Int)) (cond g (f106 j (0:Int) (7:Int)) (cond b (f106 n (0:Int) (4:Int)) q)))) (2:Int) (0:Int))
 (vT2 p0 (1:Int) (10:Int)/\((!w)=true->oL p0/\((!s)=true->(a=true->InB (0:Int) (len p1)/\vT2 i (0:Int) (16:Int))/\(a=false->(g=true->InB (0:Int) (len p1)/\vT2 j (0:Int) (7:Int))/\(g=false->(b=true->InB (0:Int) (len p1)/\vT2 n (0:Int) (4:Int))/\(b=false->(c=true->InB (0:Int) (len p1)/\vT2 h (0:Int) (16:Int)/\(f=true->InB (1:Int) (len p1))/\(f=true->vT2 k (0:Int) (262140:Int)))/\(c=false->(d=true->InB (0:Int) (len p1)/\vT2 l (-16:Int) (16:Int)/\(e=true->InB (1:Int) (len p1))/\(e=true->vT2 v (-16:Int) (16:Int)))/\(d=false->u=true->InB (0:Int) (len p1)/\vT2 o (1:Int) (16:Int)))))))),cond w (8:Int) t)
def oL0 p0 p1:=(f60t p0 p1).1
def f60 p0 p1:=(f60t p0 p1).2
def qZ8:=sp2 vI Aj vI oL0 f60
def mD6:=Cy [(106,qA),(107,qA0)] [] [] 67
theorem mV0:SK 60 qZ8:=fq (c:=mD6) Tryz.func60 ⟨mD4,mD5,trivial⟩
abbrev uC:Type:=(D35×Int×Unit)
abbrev vI6:Type:=(Int×Unit)
def sQ3 (y:uC)(x:vI6):Prop×Bool×vI6×Bool×Bool:=
 let c:=y.1
 let a:=x.1
 let b:=decide (a<y.2.1)
 let e:=decide ((nth c.2.2.2.1 a Z71).1<(-1048576))
 let g:=cond e true (decide ((nth c.2.2.2.1 a Z71).1>1048576))
 let f:=cond g true (decide ((nth c.2.2.2.1 a Z71).2.1<(-1048576)))
 let d:=cond f true (decide ((nth c.2.2.2.1 a Z71).2.1>1048576))
 (b=true->InB a (len c.2.2.2.1)/\((!e)=true->InB a (len c.2.2.2.1))/\((!g)=true->InB a (len c.2.2.2.1))/\((!f)=true->InB a (len c.2.2.2.1))/\((!d)=true->InR (a+1)),b&&(!d),(a+1,()),b&&d,!b)
def sQ4 y x:=(sQ3 y x).1
def tC0 y x:=(sQ3 y x).2.1
def vP2 y x:=(sQ3 y x).2.2.1
def sQ5 y x:=(sQ3 y x).2.2.2.1
def oL1 y x:=(sQ3 y x).2.2.2.2
def sQ6 (y:uC)(x:vI6):Int:=
 (2:Int)
def sQ7:St->Option Out:=xT3 [(1,(.box T35 By)),(45,vI)] [(46,vI)] tC0 vP2 sQ4 λy x=>[ex 1 (some (sQ5 y x)) [(2,vI)] ((sQ6 y x),()),ex 2 (some (oL1 y x)) [] ()]
def f61t (p0:D35):Prop×Int:=
 let c:=cond (cond (cond (cond (cond (decide (p0.1<2)) true (decide (p0.1>8))) true (decide (p0.2.1<2))) true (decide (p0.2.1>8))) true (decide (p0.2.2.1<1))) true (decide (p0.2.2.1>256))
 let b:=cond c true (len p0.2.2.2.1!=(p0.1*p0.2.1))
 let a:=(p0,len p0.2.2.2.1,())
 let e:=((0:Int),())
 let d:=zB9 (tC0 a) (vP2 a) e
 (((!c)=true->InR (p0.1*p0.2.1))/\((!b)=true->Am.Ends (tC0 a) (vP2 a) (sQ4 a) e),cond b (15:Int) (cond (sQ5 a d) (sQ6 a d) (0:Int)))
def qZ9 p0:=(f61t p0).1
def f61 p0:=(f61t p0).2
def pA:=sp1 By vI qZ9 f61
def oL2:=Cy [] [(4,sQ7)] [] 84
theorem oL3:CtxOk Tryz.prog oL2:=cq trivial
noncomputable def nB9:Code:=Tryz.f61.body.getD .skip
noncomputable def nL2:Code:=wB4 nB9 0
theorem oL4:yX7 Tryz.prog oL2 nL2:=lq oL3 (sp:=sQ7) rfl [[(2,vI)],[]]
theorem mV1:SK 61 pA:=fl oL3 Tryz.func61 (bs:=[nL2]) ⟨oL4,trivial⟩
end Go.Proofs.YtgjkpohjjmkkgaaGreatDoor.Am
