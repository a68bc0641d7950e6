/- Printed by program, part 5. No condition. -/
import Derived.Test.YtgjkpohjjmkkgaaGreatDoorAllP4
set_option linter.unusedVariables false
set_option synthInstance.maxSize 4000
set_option synthInstance.maxHeartbeats 400000
namespace Go.Proofs.YtgjkpohjjmkkgaaGreatDoor.Am
open Go Go.Am Go.Proofs
def f22t (p0:D37):Prop×Int:=
 let m:=p0.2.1==2
 let d:=p0.2.1==3
 let c:=p0.2.1==4
 let f:=p0.2.1==5
 let b:=p0.2.1==6
 let e:=p0.2.1==7
 let g:=p0.2.1==8
 let j:=p0.2.1==9
 let a:=cond j j (p0.2.1==10)
 let k:=p0.2.1==11
 let l:=cond e (f59 p0.2.2.2.2.2.2.2.2.2.2.2.2.2.2.1 p0.2.2.2.2.2.2.2.2.2.2.2.2.2.2.2.1 p0.2.2.2.2.2.2.2.2.2.2.2.2.2.2.2.2.2.1) (cond g (f60 p0.2.2.2.2.2.2.2.2.2.2.2.2.2.2.1 p0.2.2.2.2.2.2.2.2.2.2.2.2.2.2.2.1) (cond a (2:Int) (f61 p0.2.2.2.2.2.2.2.2.2.2.2.2.2.2.2.2.2.2.2.2.2.2.2.2.2.2.2.1)))
 let n:=cond f true (cond b true (cond e true (cond g true (cond a (!(f45 p0.2.2.2.2.2.2.2.2.2.2.2.2.2.2.2.2.2.2.2.2.2.2.2.2.2.2.1 (1:Int) (1073741824:Int))) k))))
 let h:=cond c (f56 p0.2.2.2.2.2.2.2.2.2.2.2.2.2.2.1 p0.2.2.2.2.2.2.2.2.2.2.2.2.2.2.2.1 p0.2.2.2.2.2.2.2.2.2.2.2.2.2.2.2.2.1 p0.2.2.2.2.2.2.2.2.2.2.2.2.2.2.2.2.2.1) (cond f (f57 p0) (cond b (f58 p0) l))
 let i:=cond (cond m true (cond d true (cond c true n))) (cond m (f54 p0.2.2.2.2.2.2.2.2.2.2.2.2.1) (cond d (f55 p0.2.2.2.2.2.2.2.2.2.2.2.2.2.1) h)) (0:Int)
 ((m=true->qU8 p0.2.2.2.2.2.2.2.2.2.2.2.2.1)/\(m=false->(d=true->sK6 p0.2.2.2.2.2.2.2.2.2.2.2.2.2.1)/\(d=false->(c=true->oE8 p0.2.2.2.2.2.2.2.2.2.2.2.2.2.2.1 p0.2.2.2.2.2.2.2.2.2.2.2.2.2.2.2.1 p0.2.2.2.2.2.2.2.2.2.2.2.2.2.2.2.2.1 p0.2.2.2.2.2.2.2.2.2.2.2.2.2.2.2.2.2.1)/\(c=false->(f=true->oH9 p0)/\(f=false->(b=true->qZ5 p0)/\(b=false->(e=true->oK5 p0.2.2.2.2.2.2.2.2.2.2.2.2.2.2.1 p0.2.2.2.2.2.2.2.2.2.2.2.2.2.2.2.1 p0.2.2.2.2.2.2.2.2.2.2.2.2.2.2.2.2.2.1)/\(e=false->(g=true->oL0 p0.2.2.2.2.2.2.2.2.2.2.2.2.2.2.1 p0.2.2.2.2.2.2.2.2.2.2.2.2.2.2.2.1)/\(g=false->(a=true->tP2 p0.2.2.2.2.2.2.2.2.2.2.2.2.2.2.2.2.2.2.2.2.2.2.2.2.2.2.1 (1:Int) (1073741824:Int))/\(a=false->k=true->qZ9 p0.2.2.2.2.2.2.2.2.2.2.2.2.2.2.2.2.2.2.2.2.2.2.2.2.2.2.2.1)))))))),i)
def oL5 p0:=(f22t p0).1
def f22 p0:=(f22t p0).2
def pA0:=sp1 Aw vI oL5 f22
def mD7:=Cy [(45,rG6),(54,qU9),(55,tZ),(56,qV2),(57,qX7),(58,qZ6),(59,qZ7),(60,qZ8),(61,pA)] [] [] 62
theorem mV2:SK 22 pA0:=fq (c:=mD7) Tryz.func22 ⟨nJ1,mR8,oE,mS1,mT7,mU7,mU8,mV0,mV1,trivial⟩
abbrev vP3:Type:=((List Int)×(List Int)×Unit)
abbrev wY1:Type:=(Int×Unit)
def tC1 (y:vP3)(x:wY1):Prop×Bool×wY1×Bool×Bool:=
 let d:=y.1
 let e:=y.2.1
 let c:=x.1
 let a:=decide (c<len d)
 let b:=nth d c (0:Int)!=nth e c (0:Int)
 (a=true->InB c (len d)/\InB c (len e)/\((!b)=true->InR (c+1)),a&&(!b),(c+1,()),a&&b,!a)
def tI4 y x:=(tC1 y x).1
def tC2 y x:=(tC1 y x).2.1
def vS5 y x:=(tC1 y x).2.2.1
def rA1 y x:=(tC1 y x).2.2.2.1
def pP0 y x:=(tC1 y x).2.2.2.2
def tV6 (y:vP3)(x:wY1):Bool:=
 false
def tV7:St->Option Out:=xT3 [(0,Aj),(1,Aj)] [(5,vI)] tC2 vS5 tI4 λy x=>[ex 1 (some (rA1 y x)) [(4,vB)] ((tV6 y x),()),ex 2 (some (pP0 y x)) [] ()]
def mV3 (p0:List Int)(p1:List Int):Prop×Bool:=
 let b:=len p0 !=len p1
 let a:=(p0,p1,())
 let c:=((0:Int),())
 let d:=zB9 (tC2 a) (vS5 a) c
 ((!b)=true->Am.Ends (tC2 a) (vS5 a) (tI4 a) c,cond b false (cond (rA1 a d) (tV6 a d) true))
def rK8 p0 p1:=(mV3 p0 p1).1
def f108 p0 p1:=(mV3 p0 p1).2
def sQ8:=sp2 Aj Aj vB rK8 f108
def pA1:=Cy [] [(4,tV7)] [] 26
theorem pA2:CtxOk Tryz.prog pA1:=cq trivial
noncomputable def oL6:Code:=Tryz.f108.body.getD .skip
noncomputable def oL7:Code:=wB4 oL6 0
theorem pP1:yX7 Tryz.prog pA1 oL7:=lq pA2 (sp:=tV7) rfl [[(4,vB)],[]]
theorem oL8:SK 108 sQ8:=fl pA2 Tryz.func108 (bs:=[oL7]) ⟨pP1,trivial⟩
def f62t (p0:D23)(p1:D23):Prop×Bool:=
 let a:=cond (p0.1==p1.1) (p0.2.1==p1.2.1) false
 (a=true->rK8 p0.2.2.1 p1.2.2.1,cond a (f108 p0.2.2.1 p1.2.2.1) false)
def oL9 p0 p1:=(f62t p0 p1).1
def f62 p0 p1:=(f62t p0 p1).2
def pA3:=sp2 Cp Cp vB oL9 f62
def mD8:=Cy [(108,sQ8)] [] [] 24
theorem mV4:SK 62 pA3:=fq (c:=mD8) Tryz.func62 ⟨oL8,trivial⟩
abbrev vP4:Type:=(D28×D28×Unit)
abbrev wY2:Type:=(Int×Unit)
def tC3 (y:vP4)(x:wY2):Prop×Bool×wY2×Bool×Bool:=
 let d:=y.1
 let e:=y.2.1
 let b:=x.1
 let a:=decide (b<len d.2.2.1)
 let c:=!(Ty.eqb T30 (nth d.2.2.1 b Z30) (nth e.2.2.1 b Z30))
 (a=true->InB b (len d.2.2.1)/\InB b (len e.2.2.1)/\((!c)=true->InR (b+1)),a&&(!c),(b+1,()),a&&c,!a)
def tI5 y x:=(tC3 y x).1
def uJ4 y x:=(tC3 y x).2.1
def vE9 y x:=(tC3 y x).2.2.1
def uO1 y x:=(tC3 y x).2.2.2.1
def pP2 y x:=(tC3 y x).2.2.2.2
def tV8 (y:vP4)(x:wY2):Bool:=
 false
def tV9:St->Option Out:=xT3 [(2,(.box T28 Cc)),(3,(.box T28 Cc))] [(5,vI)] uJ4 vE9 tI5 λy x=>[ex 1 (some (uO1 y x)) [(4,vB)] ((tV8 y x),()),ex 2 (some (pP2 y x)) [] ()]
def mV5 (p0:D28)(p1:D28):Prop×Bool:=
 let b:=cond (cond (p0.1 !=p1.1) true (p0.2.1 !=p1.2.1)) true (len p0.2.2.1!=len p1.2.2.1)
 let a:=(p0,p1,())
 let c:=((0:Int),())
 let d:=zB9 (uJ4 a) (vE9 a) c
 ((!b)=true->Am.Ends (uJ4 a) (vE9 a) (tI5 a) c,cond b false (cond (uO1 a d) (tV8 a d) true))
def qL0 p0 p1:=(mV5 p0 p1).1
def f109 p0 p1:=(mV5 p0 p1).2
def qA1:=sp2 Cc Cc vB qL0 f109
def pA4:=Cy [] [(4,tV9)] [] 45
theorem pA5:CtxOk Tryz.prog pA4:=cq trivial
noncomputable def oM:Code:=Tryz.f109.body.getD .skip
noncomputable def oM0:Code:=wB4 oM 0
theorem pP3:yX7 Tryz.prog pA4 oM0:=lq pA5 (sp:=tV9) rfl [[(4,vB)],[]]
theorem mD9:SK 109 qA1:=fl pA5 Tryz.func109 (bs:=[oM0]) ⟨pP3,trivial⟩
abbrev vP5:Type:=((List D69)×(List D69)×Unit)
abbrev wY3:Type:=(Int×Unit)
def tC4 (y:vP5)(x:wY3):Prop×Bool×wY3×Bool×Bool:=
 let d:=y.1
 let e:=y.2.1
 let c:=x.1
 let a:=decide (c<len d)
 let b:=!(Ty.eqb T69 (nth d c Z69) (nth e c Z69))
 (a=true->InB c (len d)/\InB c (len e)/\((!b)=true->InR (c+1)),a&&(!b),(c+1,()),a&&b,!a)
def tI6 y x:=(tC4 y x).1
def tC5 y x:=(tC4 y x).2.1
def vS6 y x:=(tC4 y x).2.2.1
def rA2 y x:=(tC4 y x).2.2.2.1
def pP4 y x:=(tC4 y x).2.2.2.2
def tW (y:vP5)(x:wY3):Bool:=
 false
def tW0:St->Option Out:=xT3 [(0,Ak),(1,Ak)] [(5,vI)] tC5 vS6 tI6 λy x=>[ex 1 (some (rA2 y x)) [(4,vB)] ((tW y x),()),ex 2 (some (pP4 y x)) [] ()]
def mV6 (p0:List D69)(p1:List D69):Prop×Bool:=
 let b:=len p0 !=len p1
 let a:=(p0,p1,())
 let c:=((0:Int),())
 let d:=zB9 (tC5 a) (vS6 a) c
 ((!b)=true->Am.Ends (tC5 a) (vS6 a) (tI6 a) c,cond b false (cond (rA2 a d) (tW a d) true))
def qL1 p0 p1:=(mV6 p0 p1).1
def f110 p0 p1:=(mV6 p0 p1).2
def qA2:=sp2 Ak Ak vB qL1 f110
def pA6:=Cy [] [(4,tW0)] [] 26
theorem pA7:CtxOk Tryz.prog pA6:=cq trivial
noncomputable def oM1:Code:=Tryz.f110.body.getD .skip
noncomputable def oM2:Code:=wB4 oM1 0
theorem pP5:yX7 Tryz.prog pA6 oM2:=lq pA7 (sp:=tW0) rfl [[(4,vB)],[]]
theorem mE:SK 110 qA2:=fl pA7 Tryz.func110 (bs:=[oM2]) ⟨pP5,trivial⟩
abbrev vP6:Type:=((List D74)×(List D74)×Unit)
abbrev wY4:Type:=(Int×Unit)
def tC6 (y:vP6)(x:wY4):Prop×Bool×wY4×Bool×Bool:=
 let d:=y.1
 let e:=y.2.1
 let c:=x.1
 let a:=decide (c<len d)
 let b:=!(Ty.eqb T74 (nth d c Z74) (nth e c Z74))
 (a=true->InB c (len d)/\InB c (len e)/\((!b)=true->InR (c+1)),a&&(!b),(c+1,()),a&&b,!a)
def tI7 y x:=(tC6 y x).1
def tC7 y x:=(tC6 y x).2.1
def vS7 y x:=(tC6 y x).2.2.1
def rA3 y x:=(tC6 y x).2.2.2.1
def pP6 y x:=(tC6 y x).2.2.2.2
def tW1 (y:vP6)(x:wY4):Bool:=
 false
def tW2:St->Option Out:=xT3 [(0,Ag),(1,Ag)] [(5,vI)] tC7 vS7 tI7 λy x=>[ex 1 (some (rA3 y x)) [(4,vB)] ((tW1 y x),()),ex 2 (some (pP6 y x)) [] ()]
def mV7 (p0:List D74)(p1:List D74):Prop×Bool:=
 let b:=len p0 !=len p1
 let a:=(p0,p1,())
 let c:=((0:Int),())
 let d:=zB9 (tC7 a) (vS7 a) c
 ((!b)=true->Am.Ends (tC7 a) (vS7 a) (tI7 a) c,cond b false (cond (rA3 a d) (tW1 a d) true))
def qL2 p0 p1:=(mV7 p0 p1).1
def f111 p0 p1:=(mV7 p0 p1).2
def qA3:=sp2 Ag Ag vB qL2 f111
def pA8:=Cy [] [(4,tW2)] [] 26
theorem pA9:CtxOk Tryz.prog pA8:=cq trivial
noncomputable def oM3:Code:=Tryz.f111.body.getD .skip
noncomputable def oM4:Code:=wB4 oM3 0
theorem pP7:yX7 Tryz.prog pA8 oM4:=lq pA9 (sp:=tW2) rfl [[(4,vB)],[]]
theorem mE0:SK 111 qA3:=fl pA9 Tryz.func111 (bs:=[oM4]) ⟨pP7,trivial⟩
abbrev vP7:Type:=(D35×D35×Unit)
abbrev wY5:Type:=(Int×Unit)
def tC8 (y:vP7)(x:wY5):Prop×Bool×wY5×Bool×Bool:=
 let d:=y.1
 let e:=y.2.1
 let b:=x.1
 let a:=decide (b<len d.2.2.2.1)
 let c:=!(Ty.eqb T71 (nth d.2.2.2.1 b Z71) (nth e.2.2.2.1 b Z71))
 (a=true->InB b (len d.2.2.2.1)/\InB b (len e.2.2.2.1)/\((!c)=true->InR (b+1)),a&&(!c),(b+1,()),a&&c,!a)
def tI8 y x:=(tC8 y x).1
def uJ5 y x:=(tC8 y x).2.1
def vF y x:=(tC8 y x).2.2.1
def uO2 y x:=(tC8 y x).2.2.2.1
def pP8 y x:=(tC8 y x).2.2.2.2
def tW3 (y:vP7)(x:wY5):Bool:=
 false
def tW4:St->Option Out:=xT3 [(2,(.box T35 By)),(3,(.box T35 By))] [(5,vI)] uJ5 vF tI8 λy x=>[ex 1 (some (uO2 y x)) [(4,vB)] ((tW3 y x),()),ex 2 (some (pP8 y x)) [] ()]
def mV8 (p0:D35)(p1:D35):Prop×Bool:=
 let b:=cond (cond (cond (p0.1 !=p1.1) true (p0.2.1 !=p1.2.1)) true (p0.2.2.1 !=p1.2.2.1)) true (len p0.2.2.2.1!=len p1.2.2.2.1)
 let a:=(p0,p1,())
 let d:=((0:Int),())
 let c:=zB9 (uJ5 a) (vF a) d
 ((!b)=true->Am.Ends (uJ5 a) (vF a) (tI8 a) d,cond b false (cond (uO2 a c) (tW3 a c) true))
def qL3 p0 p1:=(mV8 p0 p1).1
def f112 p0 p1:=(mV8 p0 p1).2
def qA4:=sp2 By By vB qL3 f112
def pB:=Cy [] [(4,tW4)] [] 52
theorem pB0:CtxOk Tryz.prog pB:=cq trivial
noncomputable def oM5:Code:=Tryz.f112.body.getD .skip
noncomputable def oM6:Code:=wB4 oM5 0
theorem pP9:yX7 Tryz.prog pB oM6:=lq pB0 (sp:=tW4) rfl [[(4,vB)],[]]
theorem mE1:SK 112 qA4:=fl pB0 Tryz.func112 (bs:=[oM6]) ⟨pP9,trivial⟩
def f63t (p0:D37)(p1:D37):Prop×Bool:=
 let b:=cond (cond (f109 p0.2.2.2.2.2.2.2.2.2.2.2.2.1 p1.2.2.2.2.2.2.2.2.2.2.2.2.1) (Ty.eqb T30 p0.2.2.2.2.2.2.2.2.2.2.2.2.2.1 p1.2.2.2.2.2.2.2.2.2.2.2.2.2.1) false) (p0.2.2.2.2.2.2.2.2.2.2.2.2.2.2.1==p1.2.2.2.2.2.2.2.2.2.2.2.2.2.2.1) false
 let d:=cond (cond b (f108 p0.2.2.2.2.2.2.2.2.2.2.2.2.2.2.2.1 p1.2.2.2.2.2.2.2.2.2.2.2.2.2.2.2.1) false) (p0.2.2.2.2.2.2.2.2.2.2.2.2.2.2.2.2.1==p1.2.2.2.2.2.2.2.2.2.2.2.2.2.2.2.2.1) false
 let e:=cond d (f110 p0.2.2.2.2.2.2.2.2.2.2.2.2.2.2.2.2.2.1 p1.2.2.2.2.2.2.2.2.2.2.2.2.2.2.2.2.2.1) false
 let g:=cond (cond e (f111 p0.2.2.2.2.2.2.2.2.2.2.2.2.2.2.2.2.2.2.1 p1.2.2.2.2.2.2.2.2.2.2.2.2.2.2.2.2.2.2.1) false) (p0.2.2.2.2.2.2.2.2.2.2.2.2.2.2.2.2.2.2.2.1==p1.2.2.2.2.2.2.2.2.2.2.2.2.2.2.2.2.2.2.2.1) false
 let h:=cond (cond g (p0.2.2.2.2.2.2.2.2.2.2.2.2.2.2.2.2.2.2.2.2.1==p1.2.2.2.2.2.2.2.2.2.2.2.2.2.2.2.2.2.2.2.2.1) false) (p0.2.2.2.2.2.2.2.2.2.2.2.2.2.2.2.2.2.2.2.2.2.1==p1.2.2.2.2.2.2.2.2.2.2.2.2.2.2.2.2.2.2.2.2.2.1) false
 let f:=cond (cond h (p0.2.2.2.2.2.2.2.2.2.2.2.2.2.2.2.2.2.2.2.2.2.2.1==p1.2.2.2.2.2.2.2.2.2.2.2.2.2.2.2.2.2.2.2.2.2.2.1) false) (p0.2.2.2.2.2.2.2.2.2.2.2.2.2.2.2.2.2.2.2.2.2.2.2.1==p1.2.2.2.2.2.2.2.2.2.2.2.2.2.2.2.2.2.2.2.2.2.2.2.1) false
 let c:=cond (cond f (p0.2.2.2.2.2.2.2.2.2.2.2.2.2.2.2.2.2.2.2.2.2.2.2.2.1==p1.2.2.2.2.2.2.2.2.2.2.2.2.2.2.2.2.2.2.2.2.2.2.2.2.1) false) (p0.2.2.2.2.2.2.2.2.2.2.2.2.2.2.2.2.2.2.2.2.2.2.2.2.2.1==p1.2.2.2.2.2.2.2.2.2.2.2.2.2.2.2.2.2.2.2.2.2.2.2.2.2.1) false
 let a:=cond c (p0.2.2.2.2.2.2.2.2.2.2.2.2.2.2.2.2.2.2.2.2.2.2.2.2.2.2.1==p1.2.2.2.2.2.2.2.2.2.2.2.2.2.2.2.2.2.2.2.2.2.2.2.2.2.2.1) false
 (qL0 p0.2.2.2.2.2.2.2.2.2.2.2.2.1 p1.2.2.2.2.2.2.2.2.2.2.2.2.1/\(b=true->rK8 p0.2.2.2.2.2.2.2.2.2.2.2.2.2.2.2.1 p1.2.2.2.2.2.2.2.2.2.2.2.2.2.2.2.1)/\(d=true->qL1 p0.2.2.2.2.2.2.2.2.2.2.2.2.2.2.2.2.2.1 p1.2.2.2.2.2.2.2.2.2.2.2.2.2.2.2.2.2.1)/\(e=true->qL2 p0.2.2.2.2.2.2.2.2.2.2.2.2.2.2.2.2.2.2.1 p1.2.2.2.2.2.2.2.2.2.2.2.2.2.2.2.2.2.2.1)/\(a=true->qL3 p0.2.2.2.2.2.2.2.2.2.2.2.2.2.2.2.2.2.2.2.2.2.2.2.2.2.2.2.1 p1.2.2.2.2.2.2.2.2.2.2.2.2.2.2.2.2.2.2.2.2.2.2.2.2.2.2.2.1),cond a (f112 p0.2.2.2.2.2.2.2.2.2.2.2.2.2.2.2.2.2.2.2.2.2.2.2.2.2.2.2.1 p1.2.2.2.2.2.2.2.2.2.2.2.2.2.2.2.2.2.2.2.2.2.2.2.2.2.2.2.1) false)
def oM7 p0 p1:=(f63t p0 p1).1
def f63 p0 p1:=(f63t p0 p1).2
def pB1:=sp2 Aw Aw vB oM7 f63
def mE2:=Cy [(108,sQ8),(109,qA1),(110,qA2),(111,qA3),(112,qA4)] [] [] 115
theorem mV9:SK 63 pB1:=fq (c:=mE2) Tryz.func63 ⟨oL8,mD9,mE,mE0,mE1,trivial⟩
def f23t (p0:D37)(p1:D37):Prop×Bool:=
 let d:=cond (cond (cond (cond (p0.1==p1.1) (p0.2.1==p1.2.1) false) (p0.2.2.1==p1.2.2.1) false) (p0.2.2.2.1==p1.2.2.2.1) false) (Ty.eqb .bool p0.2.2.2.2.1 p1.2.2.2.2.1) false
 let c:=cond (cond (cond d (Ty.eqb .bool p0.2.2.2.2.2.1 p1.2.2.2.2.2.1) false) (Ty.eqb .bool p0.2.2.2.2.2.2.1 p1.2.2.2.2.2.2.1) false) (p0.2.2.2.2.2.2.2.1==p1.2.2.2.2.2.2.2.1) false
 let b:=cond c (p0.2.2.2.2.2.2.2.2.1==p1.2.2.2.2.2.2.2.2.1) false
 let a:=cond (cond (cond b (f62 p0.2.2.2.2.2.2.2.2.2.1 p1.2.2.2.2.2.2.2.2.2.1) false) (Ty.eqb T25 p0.2.2.2.2.2.2.2.2.2.2.1 p1.2.2.2.2.2.2.2.2.2.2.1) false) (p0.2.2.2.2.2.2.2.2.2.2.2.1==p1.2.2.2.2.2.2.2.2.2.2.2.1) false
 ((b=true->oL9 p0.2.2.2.2.2.2.2.2.2.1 p1.2.2.2.2.2.2.2.2.2.1)/\(a=true->oM7 p0 p1),cond a (f63 p0 p1) false)
def pB2 p0 p1:=(f23t p0 p1).1
def f23 p0 p1:=(f23t p0 p1).2
def pB3:=sp2 Aw Aw vB pB2 f23
def mE3:=Cy [(62,pA3),(63,pB1)] [] [] 92
theorem mW:SK 23 pB3:=fq (c:=mE3) Tryz.func23 ⟨mV4,mV9,trivial⟩
def f24t (p0:D37):Prop×D37:=
 let l:=((0:Int),(0:Int),([]:List Int),())
 let q:=((0:Int),(0:Int),(0:Int),([]:List UInt8),false,false,false,(0:Int),(0:Int),l,p0.2.2.2.2.2.2.2.2.2.2)
 let g:=((0:Int),(0:Int),(0:Int),([]:List UInt8),false,false,false,(0:Int),(0:Int),l,((0:Int),(0:Int),(0:Int),(0:Int),(0:Int),(0:Int),()),p0.2.2.2.2.2.2.2.2.2.2.2)
 let b:=cond (f17 p0.2.1) g q
 let e:=(b.1,b.2.1,b.2.2.1,b.2.2.2.1,b.2.2.2.2.1,b.2.2.2.2.2.1,b.2.2.2.2.2.2.1,b.2.2.2.2.2.2.2.1,b.2.2.2.2.2.2.2.2.1,b.2.2.2.2.2.2.2.2.2.1,b.2.2.2.2.2.2.2.2.2.2.1,(0:Int),b.2.2.2.2.2.2.2.2.2.2.2.2)
 let a:=cond (f20 p0.2.1) e b
 let i:=(a.1,a.2.1,a.2.2.1,a.2.2.2.1,a.2.2.2.2.1,a.2.2.2.2.2.1,a.2.2.2.2.2.2.1,a.2.2.2.2.2.2.2.1,a.2.2.2.2.2.2.2.2.1,a.2.2.2.2.2.2.2.2.2.1,a.2.2.2.2.2.2.2.2.2.2.1,a.2.2.2.2.2.2.2.2.2.2.2.1,((0:Int),(0:Int),([]:List D30),()),a.2.2.2.2.2.2.2.2.2.2.2.2.2)
 let h:=(a.1,a.2.1,a.2.2.1,a.2.2.2.1,a.2.2.2.2.1,a.2.2.2.2.2.1,a.2.2.2.2.2.2.1,a.2.2.2.2.2.2.2.1,a.2.2.2.2.2.2.2.2.1,a.2.2.2.2.2.2.2.2.2.1,a.2.2.2.2.2.2.2.2.2.2.1,a.2.2.2.2.2.2.2.2.2.2.2.1,a.2.2.2.2.2.2.2.2.2.2.2.2.1,((0:Int),(0:Int),(0:Int),(0:Int),()),a.2.2.2.2.2.2.2.2.2.2.2.2.2.2)
 let f:=(a.1,a.2.1,a.2.2.1,a.2.2.2.1,a.2.2.2.2.1,a.2.2.2.2.2.1,a.2.2.2.2.2.2.1,a.2.2.2.2.2.2.2.1,a.2.2.2.2.2.2.2.2.1,a.2.2.2.2.2.2.2.2.2.1,a.2.2.2.2.2.2.2.2.2.2.1,a.2.2.2.2.2.2.2.2.2.2.2.1,a.2.2.2.2.2.2.2.2.2.2.2.2.1,a.2.2.2.2.2.2.2.2.2.2.2.2.2.1,(0:Int),([]:List Int),(0:Int),([]:List D69),a.2.2.2.2.2.2.2.2.2.2.2.2.2.2.2.2.2.2)
 let r:=(a.1,a.2.1,a.2.2.1,a.2.2.2.1,a.2.2.2.2.1,a.2.2.2.2.2.1,a.2.2.2.2.2.2.1,a.2.2.2.2.2.2.2.1,a.2.2.2.2.2.2.2.2.1,a.2.2.2.2.2.2.2.2.2.1,a.2.2.2.2.2.2.2.2.2.2.1,a.2.2.2.2.2.2.2.2.2.2.2.1,a.2.2.2.2.2.2.2.2.2.2.2.2.1,((0:Int),(0:Int),(0:Int),(0:Int),()),a.2.2.2.2.2.2.2.2.2.2.2.2.2.2.1,a.2.2.2.2.2.2.2.2.2.2.2.2.2.2.2.1,a.2.2.2.2.2.2.2.2.2.2.2.2.2.2.2.2.1,a.2.2.2.2.2.2.2.2.2.2.2.2.2.2.2.2.2.1,([]:List D74),(0:Int),(0:Int),(0:Int),(0:Int),a.2.2.2.2.2.2.2.2.2.2.2.2.2.2.2.2.2.2.2.2.2.2.2)
 let j:=(a.1,a.2.1,a.2.2.1,a.2.2.2.1,a.2.2.2.2.1,a.2.2.2.2.2.1,a.2.2.2.2.2.2.1,a.2.2.2.2.2.2.2.1,a.2.2.2.2.2.2.2.2.1,a.2.2.2.2.2.2.2.2.2.1,a.2.2.2.2.2.2.2.2.2.2.1,a.2.2.2.2.2.2.2.2.2.2.2.1,a.2.2.2.2.2.2.2.2.2.2.2.2.1,((0:Int),(0:Int),(0:Int),(0:Int),()),a.2.2.2.2.2.2.2.2.2.2.2.2.2.2.1,a.2.2.2.2.2.2.2.2.2.2.2.2.2.2.2.1,a.2.2.2.2.2.2.2.2.2.2.2.2.2.2.2.2.1,a.2.2.2.2.2.2.2.2.2.2.2.2.2.2.2.2.2.1,a.2.2.2.2.2.2.2.2.2.2.2.2.2.2.2.2.2.2.1,a.2.2.2.2.2.2.2.2.2.2.2.2.2.2.2.2.2.2.2.1,a.2.2.2.2.2.2.2.2.2.2.2.2.2.2.2.2.2.2.2.2.1,a.2.2.2.2.2.2.2.2.2.2.2.2.2.2.2.2.2.2.2.2.2.1,a.2.2.2.2.2.2.2.2.2.2.2.2.2.2.2.2.2.2.2.2.2.2.1,([]:List UInt8),(0:Int),(0:Int),a.2.2.2.2.2.2.2.2.2.2.2.2.2.2.2.2.2.2.2.2.2.2.2.2.2.2)
 let n:=(a.1,a.2.1,a.2.2.1,a.2.2.2.1,a.2.2.2.2.1,a.2.2.2.2.2.1,a.2.2.2.2.2.2.1,a.2.2.2.2.2.2.2.1,a.2.2.2.2.2.2.2.2.1,a.2.2.2.2.2.2.2.2.2.1,a.2.2.2.2.2.2.2.2.2.2.1,a.2.2.2.2.2.2.2.2.2.2.2.1,a.2.2.2.2.2.2.2.2.2.2.2.2.1,a.2.2.2.2.2.2.2.2.2.2.2.2.2.1,(0:Int),([]:List Int),a.2.2.2.2.2.2.2.2.2.2.2.2.2.2.2.2.1,([]:List D69),a.2.2.2.2.2.2.2.2.2.2.2.2.2.2.2.2.2.2)
 let c:=(a.1,a.2.1,a.2.2.1,a.2.2.2.1,a.2.2.2.2.1,a.2.2.2.2.2.1,a.2.2.2.2.2.2.1,a.2.2.2.2.2.2.2.1,a.2.2.2.2.2.2.2.2.1,a.2.2.2.2.2.2.2.2.2.1,a.2.2.2.2.2.2.2.2.2.2.1,a.2.2.2.2.2.2.2.2.2.2.2.1,a.2.2.2.2.2.2.2.2.2.2.2.2.1,a.2.2.2.2.2.2.2.2.2.2.2.2.2.1,(0:Int),([]:List Int),a.2.2.2.2.2.2.2.2.2.2.2.2.2.2.2.2)
 let d:=p0.2.1==9
 let o:=(a.1,a.2.1,a.2.2.1,a.2.2.2.1,a.2.2.2.2.1,a.2.2.2.2.2.1,a.2.2.2.2.2.2.1,a.2.2.2.2.2.2.2.1,a.2.2.2.2.2.2.2.2.1,a.2.2.2.2.2.2.2.2.2.1,a.2.2.2.2.2.2.2.2.2.2.1,a.2.2.2.2.2.2.2.2.2.2.2.1,a.2.2.2.2.2.2.2.2.2.2.2.2.1,a.2.2.2.2.2.2.2.2.2.2.2.2.2.1,a.2.2.2.2.2.2.2.2.2.2.2.2.2.2.1,a.2.2.2.2.2.2.2.2.2.2.2.2.2.2.2.1,a.2.2.2.2.2.2.2.2.2.2.2.2.2.2.2.2.1,a.2.2.2.2.2.2.2.2.2.2.2.2.2.2.2.2.2.1,a.2.2.2.2.2.2.2.2.2.2.2.2.2.2.2.2.2.2.1,a.2.2.2.2.2.2.2.2.2.2.2.2.2.2.2.2.2.2.2.1,a.2.2.2.2.2.2.2.2.2.2.2.2.2.2.2.2.2.2.2.2.1,a.2.2.2.2.2.2.2.2.2.2.2.2.2.2.2.2.2.2.2.2.2.1,a.2.2.2.2.2.2.2.2.2.2.2.2.2.2.2.2.2.2.2.2.2.2.1,a.2.2.2.2.2.2.2.2.2.2.2.2.2.2.2.2.2.2.2.2.2.2.2.1,a.2.2.2.2.2.2.2.2.2.2.2.2.2.2.2.2.2.2.2.2.2.2.2.2.1,a.2.2.2.2.2.2.2.2.2.2.2.2.2.2.2.2.2.2.2.2.2.2.2.2.2.1,(0:Int),a.2.2.2.2.2.2.2.2.2.2.2.2.2.2.2.2.2.2.2.2.2.2.2.2.2.2.2.1,())
 let k:=(a.1,a.2.1,a.2.2.1,a.2.2.2.1,a.2.2.2.2.1,a.2.2.2.2.2.1,a.2.2.2.2.2.2.1,a.2.2.2.2.2.2.2.1,a.2.2.2.2.2.2.2.2.1,a.2.2.2.2.2.2.2.2.2.1,a.2.2.2.2.2.2.2.2.2.2.1,a.2.2.2.2.2.2.2.2.2.2.2.1,a.2.2.2.2.2.2.2.2.2.2.2.2.1,a.2.2.2.2.2.2.2.2.2.2.2.2.2.1,a.2.2.2.2.2.2.2.2.2.2.2.2.2.2.1,a.2.2.2.2.2.2.2.2.2.2.2.2.2.2.2.1,a.2.2.2.2.2.2.2.2.2.2.2.2.2.2.2.2.1,a.2.2.2.2.2.2.2.2.2.2.2.2.2.2.2.2.2.1,a.2.2.2.2.2.2.2.2.2.2.2.2.2.2.2.2.2.2.1,a.2.2.2.2.2.2.2.2.2.2.2.2.2.2.2.2.2.2.2.1,a.2.2.2.2.2.2.2.2.2.2.2.2.2.2.2.2.2.2.2.2.1,a.2.2.2.2.2.2.2.2.2.2.2.2.2.2.2.2.2.2.2.2.2.1,a.2.2.2.2.2.2.2.2.2.2.2.2.2.2.2.2.2.2.2.2.2.2.1,a.2.2.2.2.2.2.2.2.2.2.2.2.2.2.2.2.2.2.2.2.2.2.2.1,a.2.2.2.2.2.2.2.2.2.2.2.2.2.2.2.2.2.2.2.2.2.2.2.2.1,a.2.2.2.2.2.2.2.2.2.2.2.2.2.2.2.2.2.2.2.2.2.2.2.2.2.1,a.2.2.2.2.2.2.2.2.2.2.2.2.2.2.2.2.2.2.2.2.2.2.2.2.2.2.1,((0:Int),(0:Int),(0:Int),([]:List D71),()),())
 let m:=cond (p0.2.1==6) j (cond (p0.2.1==7) n (cond (p0.2.1==8) c (cond (cond d d (p0.2.1==10)) o (cond (p0.2.1==11) k a))))
 (oD2 p0.2.1/\oD4 p0.2.1,cond (p0.2.1==2) i (cond (p0.2.1==3) h (cond (p0.2.1==4) f (cond (p0.2.1==5) r m))))
def oM8 p0:=(f24t p0).1
def f24 p0:=(f24t p0).2
def pB4:=sp1 Aw Aw oM8 f24
def mE4:=Cy [(17,rG7),(20,rH3)] [] [] 75
theorem mW0:SK 24 pB4:=fq (c:=mE4) Tryz.func24 ⟨nJ6,nK1,trivial⟩
def f5t (p0:D37)(p1:Int)(p2:Int):Prop×Int:=
 let i:=f16 p0 p1 p2
 let j:=i !=0
 let b:=f17 p0.2.1
 let g:=f18 p0.2.2.2.2.2.2.2.2.2.2.1
 let a:=g !=0
 let e:=f19 p0.2.2.2.2.2.2.2.2.2.2.1
 let k:=e.2.1 !=0
 let c:=f20 p0.2.1
 let d:=cond c (!(f21 p0.2.2.2.2.2.2.2.2.2.2.2.1)) false
 let l:=f22 p0
 let h:=l !=0
 let m:=f24 p0
 let f:=((0:Int),(0:Int),(0:Int),([]:List UInt8),false,false,false,(0:Int),(0:Int),((0:Int),(0:Int),([]:List Int),()),Z25,(0:Int),((0:Int),(0:Int),([]:List D30),()),Z30,(0:Int),([]:List Int),(0:Int),([]:List D69),([]:List D74),(0:Int),(0:Int),(0:Int),(0:Int),([]:List UInt8),(0:Int),(0:Int),(0:Int),((0:Int),(0:Int),(0:Int),([]:List D71),()),())
 let n:=cond j i (cond ((a||((!a)&&k))&&b) (cond a g e.2.1) (cond d (8:Int) (cond h l (cond (!(f23 m f)) (1:Int) (0:Int)))))
 (oD1 p0 p1 p2/\((!j)=true->oD2 p0.2.1/\(b=true->tP3 p0.2.2.2.2.2.2.2.2.2.2.1/\((!a)=true->oD3 p0.2.2.2.2.2.2.2.2.2.2.1))/\((cond b ((!a)&&(!k)) true)=true->oD4 p0.2.1/\(c=true->nK2 p0.2.2.2.2.2.2.2.2.2.2.2.1)/\((!d)=true->oL5 p0/\((!h)=true->oM8 p0/\pB2 m f)))),n)
def mE5 p0 p1 p2:=(f5t p0 p1 p2).1
def f5 p0 p1 p2:=(f5t p0 p1 p2).2
def oM9:=sp3 Aw vI vI vI mE5 f5
def mW1:=Cy [(16,qU1),(17,rG7),(18,uX7),(19,qU5),(20,rH3),(21,qU6),(22,pA0),(23,pB3),(24,pB4)] [] [] 56
theorem lB:SK 5 oM9:=fq (c:=mW1) Tryz.func5 ⟨mR1,nJ6,qU4,mR4,nK1,mR5,mV2,mW,mW0,trivial⟩
def f64t :Prop×D25:=
 (True,((65536:Int),(0:Int),(0:Int),(65536:Int),(0:Int),(0:Int),()))
def pB5 :Prop:=(f64t).1
def f64 :D25:=(f64t).2
instance :Decidable (pB5):=by
 unfold pB5 f64t
 try dsimp only
 infer_instance
def pB6:Am.Spec:=fnSpec [] Aq [] (λx=>pB5 ) (λx=>f64 ) (λ_=>())
def mE6:=Cy [] [] [] 2
theorem mE7:CtxOk Tryz.prog mE6:=cq trivial
theorem mW2:SK 64 pB6:=fl mE7 Tryz.func64 (bs:=[]) trivial
def f25t (p0:Int):Prop×(D37×Int×Unit):=
 let v9:=f28 p0
 let a:=v9==([]:List UInt8)
 let s:=((0:Int),(0:Int),(0:Int),(65535:Int),())
 let j:=f8 p0
 let m6:=cond j (0:Int) (0:Int)
 let ck:=cond j p0 p0
 let cd:=cond j (0:Int) (0:Int)
 let ce:=cond j v9 v9
 let ch:=cond j false false
 let cc:=cond j false false
 let cg:=cond j false false
 let ci:=cond j (65535:Int) (65535:Int)
 let cj:=cond j (0:Int) (0:Int)
 let cf:=cond j (0:Int) (0:Int)
 let ar:=cond j (0:Int) (0:Int)
 let ag:=cond j f64 Z25
 let af:=cond j (0:Int) (0:Int)
 let ah:=cond j (0:Int) (0:Int)
 let ak:=cond j Z30 Z30
 let ad:=cond j (0:Int) (0:Int)
 let aq:=cond j (0:Int) (0:Int)
 let au:=cond j (0:Int) (0:Int)
 let ab:=cond j (0:Int) (0:Int)
 let al:=cond j (0:Int) (0:Int)
 let ae:=cond j (0:Int) (0:Int)
 let aj:=cond j ([]:List UInt8) ([]:List UInt8)
 let ai:=cond j (0:Int) (0:Int)
 let ao:=cond j (0:Int) (0:Int)
 let an:=cond j (0:Int) (0:Int)
 let ac:=cond j (0:Int) (0:Int)
 let am:=cond j (0:Int) (0:Int)
 let ap:=cond j (0:Int) (0:Int)
 let k:=f11 p0
 let u:=cond k m6 m6
 let J:=cond k ck ck
 let l:=cond k cd cd
 let K:=cond k ce ce
 let A:=cond k ch ch
 let t:=cond k cc cc
 let E:=cond k cg cg
 let v:=cond k ci ci
 let B:=cond k cj cj
 let w:=cond k cf cf
 let q:=cond k ar ar
 let n:=cond k ag ag
 let C:=cond k (1:Int) (cond j (0:Int) (0:Int))
 let H:=cond k af af
 let L:=cond k ah ah
 let W:=cond k ak ak
 let aa:=cond k ad ad
 let M:=cond k aq aq
 let o:=cond k au au
 let r:=cond k ab ab
 let z:=cond k al al
 let m:=cond k ae ae
 let O:=cond k aj aj
 let N:=cond k ai ai
 let F:=cond k ao ao
 let Q:=cond k an an
 let R:=cond k ac ac
 let V:=cond k am am
 let U:=cond k ap ap
 let b:=p0==3
 let c:=p0==4
 let d:=p0==5
 let cn:=([((1:Int),List.replicate 3 Z71,()),((2:Int),([((256:Int),(0:Int),()),Z71,Z71]:List D71),()),((2:Int),([((256:Int),(256:Int),()),Z71,Z71]:List D71),()),((5:Int),List.replicate 3 Z71,())]:List D74)
 let f:=p0==6
 let g:=p0==7
 let e:=p0==8
 let cl:=p0==9
 let h:=cond cl cl (p0==10)
 let i:=p0==11
 let ba:=cond c O (cond d O (cond f ([116,101,120,116]:List UInt8) (cond g O (cond e O (cond h O (cond i O O))))))
 let aw:=cond c [] (cond d [] (cond f [] (cond g [] (cond e [] (cond h [] (cond i (List.replicate (Int.toNat (4:Int)) Z71) []))))))
 let bz:=cond b u (cond c u (cond d u (cond f u (cond g u (cond e u (cond h u (cond i u u)))))))
 let ax:=cond b J (cond c J (cond d J (cond f J (cond g J (cond e J (cond h J (cond i J J)))))))
 let bc:=cond b l (cond c l (cond d l (cond f l (cond g l (cond e l (cond h l (cond i l l)))))))
 let bn:=cond b K (cond c K (cond d K (cond f K (cond g K (cond e K (cond h K (cond i K K)))))))
 let bo:=cond b A (cond c A (cond d A (cond f A (cond g A (cond e A (cond h A (cond i A A)))))))
 let bl:=cond b t (cond c t (cond d t (cond f t (cond g t (cond e t (cond h t (cond i t t)))))))
 let bd:=cond b E (cond c E (cond d E (cond f E (cond g E (cond e E (cond h E (cond i E E)))))))
 let az:=cond b v (cond c v (cond d v (cond f v (cond g v (cond e v (cond h v (cond i v v)))))))
 let bq:=cond b B (cond c B (cond d B (cond f B (cond g B (cond e B (cond h B (cond i B B)))))))
 let av:=cond b w (cond c w (cond d w (cond f w (cond g w (cond e w (cond h w (cond i w w)))))))
 let bj:=cond b q (cond c q (cond d q (cond f q (cond g q (cond e q (cond h q (cond i q q)))))))
 let bt:=cond b n (cond c n (cond d n (cond f n (cond g n (cond e n (cond h n (cond i n n)))))))
 let br:=cond b C (cond c C (cond d C (cond f C (cond g C (cond e C (cond h C (cond i C C)))))))
 let ay:=cond b H (cond c H (cond d H (cond f H (cond g H (cond e H (cond h H (cond i H H)))))))
 let bu:=cond b L (cond c L (cond d L (cond f L (cond g L (cond e L (cond h L (cond i L L)))))))
 let bv:=cond b s (cond c W (cond d s (cond f s (cond g W (cond e W (cond h W (cond i W W)))))))
 let bm:=cond b aa (cond c (1:Int) (cond d aa (cond f aa (cond g (1:Int) (cond e (1:Int) (cond h aa (cond i aa aa)))))))
 let bx:=cond b [] (cond c ([(0:Int),(0:Int),(256:Int),(0:Int)]:List Int) (cond d [] (cond f [] (cond g [] (cond e ([(1:Int)]:List Int) [])))))
 let bk:=cond b M (cond c M (cond d M (cond f M (cond g M (cond e M (cond h M (cond i M M)))))))
 let bf:=cond b o (cond c o (cond d o (cond f o (cond g o (cond e o (cond h o (cond i o o)))))))
 let bg:=cond b r (cond c r (cond d r (cond f r (cond g r (cond e r (cond h r (cond i r r)))))))
 let bi:=cond b z (cond c z (cond d z (cond f z (cond g z (cond e z (cond h z (cond i z z)))))))
 let ca:=cond b m (cond c m (cond d m (cond f m (cond g m (cond e m (cond h m (cond i m m)))))))
 let cb:=cond b N (cond c N (cond d N (cond f (256:Int) (cond g N (cond e N (cond h N (cond i N N)))))))
 let bh:=cond b F (cond c F (cond d F (cond f F (cond g F (cond e F (cond h F (cond i F F)))))))
 let bs:=cond b Q (cond c Q (cond d Q (cond f Q (cond g Q (cond e Q (cond h (1:Int) (cond i Q Q)))))))
 let bp:=cond b R (cond c R (cond d R (cond f R (cond g R (cond e R (cond h R (cond i (2:Int) R)))))))
 let bb:=cond b V (cond c V (cond d V (cond f V (cond g V (cond e V (cond h V (cond i (2:Int) V)))))))
 let bw:=cond b U (cond c U (cond d U (cond f U (cond g U (cond e U (cond h U (cond i (16:Int) U)))))))
 let cm:=(cond a (0:Int) bz,cond a (0:Int) ax,cond a (0:Int) bc,cond a ([]:List UInt8) bn,cond a false bo,cond a false bl,cond a false bd,cond a (0:Int) az,cond a (0:Int) bq,(cond a (0:Int) av,cond a (0:Int) bj,([]:List Int),()),cond a Z25 bt,cond a (0:Int) br,(cond a (0:Int) ay,cond a (0:Int) bu,([]:List D30),()),cond a Z30 bv,cond a (0:Int) bm,cond a [] bx,cond a (0:Int) bk,cond a [] (cond b [] (cond c ([((0:Int),s,()),((65535:Int),((65535:Int),(65535:Int),(65535:Int),(65535:Int),()),())]:List D69) [])),cond a [] (cond b [] (cond c [] (cond d cn []))),cond a (0:Int) bf,cond a (0:Int) bg,cond a (0:Int) bi,cond a (0:Int) ca,cond a ([]:List UInt8) (cond b O ba),cond a (0:Int) cb,cond a (0:Int) bh,cond a (0:Int) bs,(cond a (0:Int) bp,cond a (0:Int) bb,cond a (0:Int) bw,cond a [] (cond b [] aw),()),())
 (sC1 p0/\((!a)=true->qD9 p0/\(j=true->pB5)/\sD p0/\(b=false->c=false->d=false->f=false->g=false->e=false->h=false->i=true->0<=(4:Int)/\(4:Int)<=(4:Int)/\(4:Int)<=4294967296)),(cm,cond a (8:Int) (0:Int),()))
def tC9 p0:=(f25t p0).1
def f25 p0:=(f25t p0).2
instance (p0:Int):Decidable (tC9 p0):=by
 unfold tC9 f25t
 try dsimp only
 infer_instance
def pB7:=sp1 vI (.tup (.cons Aw (.cons vI .nl))) tC9 f25
def mE8:=Cy [(8,rC7),(11,tX3),(28,tX1),(64,pB6)] [] [(33,[(4,0,33,400602)]),(35,[(4,0,39,400603)]),(41,[(4,0,53,400604)]),(59,[(4,0,67,400602)]),(69,[(4,0,75,400605)]),(71,[(4,0,400602,400202),(4,0,400603,400203),(4,0,400604,400204),(4,0,400605,400205)])] 79
theorem mW3:SK 25 pB7:=fq (c:=mE8) Tryz.func25 ⟨nQ0,pU1,pS8,mW2,trivial⟩
def mE9 (p0:Int):Prop×Int:=
 (InR (Int.sub 0 p0),wB0 p0 (Int.sub 0 p0))
def sQ9 p0:=(mE9 p0).1
def f113 p0:=(mE9 p0).2
instance (p0:Int):Decidable (sQ9 p0):=by
 unfold sQ9 mE9
 try dsimp only
 infer_instance
def qA5:=sp1 vI vI sQ9 f113
def nC:=Cy [] [] [] 7
theorem mF:SK 113 qA5:=fq (c:=nC) Tryz.func113 trivial
def f65t (p0:Int)(p1:List Int):Prop×Int:=
 let i:=f43 p0 p1 !=0
 let f:=p0==5
 let b:=cond f f (p0==6)
 let a:=p0==9
 let e:=nth p1 (0:Int) (0:Int)
 let d:=nth p1 (1:Int) (0:Int)
 let c:=p0==10
 let g:=nth p1 (0:Int) (0:Int)
 let h:=cond i (0:Int) (cond (cond b true (cond a true c)) (cond b (1:Int) (cond a (wB0 (f113 e) (f113 d)) (g-1))) (nth p1 (0:Int) (0:Int)))
 (sX0 p0 p1/\((!i)=true->(b=false->(a=true->InB (0:Int) (len p1)/\sQ9 e/\InB (1:Int) (len p1)/\sQ9 d)/\(a=false->c=true->InB (0:Int) (len p1)/\InR (g-1)))/\((((!c)&&(!a))&&(!b))=true->InB (0:Int) (len p1))),h)
def pB8 p0 p1:=(f65t p0 p1).1
def f65 p0 p1:=(f65t p0 p1).2
instance (p0:Int)(p1:List Int):Decidable (pB8 p0 p1):=by
 unfold pB8 f65t
 try dsimp only
 infer_instance
def pB9:=sp2 vI Aj vI pB8 f65
def mF0:=Cy [(43,rG4),(113,qA5)] [] [] 33
theorem mW4:SK 65 pB9:=fq (c:=mF0) Tryz.func65 ⟨nI9,mF,trivial⟩
abbrev uO3:Type:=((List D71)×Int×Unit)
abbrev vS8:Type:=(Int×Int×Unit)
def rK9 (y:uO3)(x:vS8):Prop×Bool×vS8:=
 let d:=y.1
 let b:=x.2.1
 let c:=decide (b<y.2.1)
 let a:=nth d b Z71
 (c=true->InB b (len d)/\InR (Int.sub 0 a.1)/\InR (Int.sub 0 a.2.1)/\InR (b+1),c,(wB0 (wB0 (wB0 (wB0 x.1 a.1) (Int.sub 0 a.1)) a.2.1) (Int.sub 0 a.2.1),b+1,()))
def tD y x:=(rK9 y x).1
def rL y x:=(rK9 y x).2.1
def uT5 y x:=(rK9 y x).2.2
instance (y:uO3)(x:vS8):Decidable (tD y x):=by
 unfold tD rK9
 try dsimp only
 infer_instance
def sR (y:uO3)(x:vS8):Int:=
 x.1
def sR0:St->Option Out:=xT3 [(10,As),(11,vI)] [(3,vI),(12,vI)] rL uT5 tD λy x=>[ex 2 none [(3,vI)] ((sR y x),())]
def f66t (p0:D35):Prop×Int:=
 let e:=f44 p0 !=0
 let b:=(p0.2.2.2.1,len p0.2.2.2.1,())
 let f:=((0:Int),(0:Int),())
 let a:=sR b (zB9 (rL b) (uT5 b) f)
 let d:=a+65536
 let c:=d-1
 (sJ0 p0/\((!e)=true->Am.Ends (rL b) (uT5 b) (tD b) f/\InR (a+65536)/\InR (d-1)/\InR (Int.tdiv c (65536:Int))),cond e (0:Int) (Int.tdiv c (65536:Int)))
def pC p0:=(f66t p0).1
def f66 p0:=(f66t p0).2
instance (p0:D35):Decidable (pC p0):=by
 unfold pC f66t
 try dsimp only
 infer_instance
def pC0:=sp1 By vI pC f66
def oN:=Cy [(44,rG5)] [(5,sR0)] [] 33
theorem oN0:CtxOk Tryz.prog oN:=cq ⟨nJ0,trivial⟩
noncomputable def nC0:Code:=Tryz.f66.body.getD .skip
noncomputable def nL3:Code:=wB4 nC0 0
theorem oN1:yX7 Tryz.prog oN nL3:=lq oN0 (sp:=sR0) rfl [[(3,vI)]]
theorem mW5:SK 66 pC0:=fl oN0 Tryz.func66 (bs:=[nL3]) ⟨oN1,trivial⟩
def f67t (p0:Int):Prop×Int:=
 let b:=p0==2
 let a:=cond b b (p0==4)
 let d:=p0==0
 let c:=p0==1
 (True,cond (cond a true (cond d d (cond c c (p0==3)))) (cond a (2:Int) (1:Int)) (0:Int))
def pC1 p0:=(f67t p0).1
def f67 p0:=(f67t p0).2
instance (p0:Int):Decidable (pC1 p0):=by
 unfold pC1 f67t
 try dsimp only
 infer_instance
def pC2:=sp1 vI vI pC1 f67
def mF1:=Cy [] [] [] 11
theorem mW6:SK 67 pC2:=fq (c:=mF1) Tryz.func67 trivial
def f26t (p0:D37):Prop×Int:=
 let e:=p0.2.1==8
 let a:=p0.2.1==11
 let c:=f66 p0.2.2.2.2.2.2.2.2.2.2.2.2.2.2.2.2.2.2.2.2.2.2.2.2.2.2.2.1
 let d:=f67 p0.2.2.2.2.2.2.2.2.2.2.2.1
 let b:=c+d
 ((e=true->pB8 p0.2.2.2.2.2.2.2.2.2.2.2.2.2.2.1 p0.2.2.2.2.2.2.2.2.2.2.2.2.2.2.2.1)/\(e=false->a=true->pC p0.2.2.2.2.2.2.2.2.2.2.2.2.2.2.2.2.2.2.2.2.2.2.2.2.2.2.2.1/\pC1 p0.2.2.2.2.2.2.2.2.2.2.2.1/\InR (c+d)/\InR (b+1)),cond (cond e true a) (cond e (f65 p0.2.2.2.2.2.2.2.2.2.2.2.2.2.2.1 p0.2.2.2.2.2.2.2.2.2.2.2.2.2.2.2.1) (b+1)) (0:Int))
def sR1 p0:=(f26t p0).1
def f26 p0:=(f26t p0).2
instance (p0:D37):Decidable (sR1 p0):=by
 unfold sR1 f26t
 try dsimp only
 infer_instance
def pC3:=sp1 Aw vI sR1 f26
def mF2:=Cy [(65,pB9),(66,pC0),(67,pC2)] [] [] 22
theorem mW7:SK 26 pC3:=fq (c:=mF2) Tryz.func26 ⟨mW4,mW5,mW6,trivial⟩
def f6t :Prop×Bool:=
 let b:=f25 (3:Int)
 let a:=f25 (8:Int)
 let g:=cond (b.2.1 !=0) true (a.2.1 !=0)
 let e:=cond g true (f4 b.1 (8:Int) (8:Int)!=0)
 let j:=cond e true (f26 a.1!=1)
 let m:=cond j true (!(f27 a.1))
 let d:=cond m true (f27 b.1)
 let s:=(b.1.1,b.1.2.1,b.1.2.2.1,b.1.2.2.2.1,b.1.2.2.2.2.1,b.1.2.2.2.2.2.1,b.1.2.2.2.2.2.2.1,(65536:Int),b.1.2.2.2.2.2.2.2.2)
 let f:=(a.1.1,a.1.2.1,a.1.2.2.1,a.1.2.2.2.1,a.1.2.2.2.2.1,a.1.2.2.2.2.2.1,a.1.2.2.2.2.2.2.1,a.1.2.2.2.2.2.2.2.1,(1:Int),a.1.2.2.2.2.2.2.2.2.2)
 let c:=f25 (11:Int)
 let l:=c.2.1==0
 let k:=cond l (f4 s (8:Int) (8:Int)==2) false
 let h:=cond k (f4 f (8:Int) (8:Int)==8) false
 let o:=((0:Int),(2:Int),(0:Int),([105]:List UInt8),false,false,false,(0:Int),(0:Int),((0:Int),(0:Int),([]:List Int),()),Z25,(0:Int),((0:Int),(0:Int),([]:List D30),()),Z30,(0:Int),([]:List Int),(0:Int),([]:List D69),([]:List D74),(0:Int),(0:Int),(0:Int),(0:Int),([]:List UInt8),(0:Int),(0:Int),(0:Int),((0:Int),(0:Int),(0:Int),([]:List D71),()),())
 let i:=cond h (f4 o (8:Int) (8:Int)==17) false
 let n:=cond i (f26 c.1==2) false
 (tC9 (3:Int)/\tC9 (8:Int)/\((!g)=true->qH8 b.1 (8:Int) (8:Int))/\((!e)=true->sR1 a.1)/\((!j)=true->rQ2 a.1)/\((!m)=true->rQ2 b.1)/\((!d)=true->tC9 (11:Int)/\(l=true->qH8 s (8:Int) (8:Int))/\(k=true->qH8 f (8:Int) (8:Int))/\(h=true->qH8 o (8:Int) (8:Int))/\(i=true->sR1 c.1)/\(n=true->sC1 (11:Int))),cond d false (cond n (f28 (11:Int)==([119,97,114,112]:List UInt8)) false))
def mF3 :Prop:=(f6t).1
def f6 :Bool:=(f6t).2
def oN2:Am.Spec:=fnSpec [] vB [] (λx=>mF3 ) (λx=>f6 ) (λ_=>())
def mW8:=Cy [(4,qH9),(25,pB7),(26,pC3),(27,rC6),(28,tX1)] [] [] 73
theorem mW9:CtxOk Tryz.prog mW8:=cq ⟨mQ6,mW3,mW7,nH2,pS8,trivial⟩
theorem lB0:SK 6 oN2:=fl mW9 Tryz.func6 (bs:=[]) trivial
def f3t (p0:D37)(p1:Int)(p2:Int):Prop×Bool:=
 let a:=f4 p0 p1 p2==f5 p0 p1 p2
 (qH8 p0 p1 p2/\mE5 p0 p1 p2/\(a=true->mF3),cond a f6 false)
def f3_ok p0 p1 p2:=(f3t p0 p1 p2).1
def f3 p0 p1 p2:=(f3t p0 p1 p2).2
def mF4:=sp3 Aw vI vI vB f3_ok f3
def mX:=Cy [(4,qH9),(5,oM9),(6,oN2)] [] [] 19
theorem f3_is:SK 3 mF4:=fq (c:=mX) Tryz.func3 ⟨mQ6,lB,lB0,trivial⟩
end Go.Proofs.YtgjkpohjjmkkgaaGreatDoor.Am
