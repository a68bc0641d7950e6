/- Printed by program, part 2. No condition. -/
import Derived.Test.YtgjkpohjjmkkgaaGreatDoorAllL
set_option linter.unusedVariables false
set_option synthInstance.maxSize 4000
set_option synthInstance.maxHeartbeats 400000
namespace Go.Proofs.YtgjkpohjjmkkgaaGreatDoor.Am
open Go Go.Am Go.Proofs
def f27t (p0:D37):Prop×Bool:=
 (True,cond (cond (p0.2.1==7) true (p0.2.1==8)) true (p0.2.1==11))
def rQ2 p0:=(f27t p0).1
def f27 p0:=(f27t p0).2
def rC6:=sp1 Aw vB rQ2 f27
def nP4:=Cy [] [] [] 16
theorem nH2:SK 27 rC6:=fq (c:=nP4) Tryz.func27 trivial
def f28t (p0:Int):Prop×(List UInt8):=
 let m:=p0==1
 let l:=p0==2
 let n:=p0==3
 let h:=p0==4
 let b:=p0==5
 let i:=p0==6
 let k:=p0==7
 let j:=p0==8
 let d:=p0==9
 let c:=p0==10
 let g:=cond j ([102,105,108,116,101,114]:List UInt8) (cond d ([108,105,110,107]:List UInt8) (cond c ([99,108,111,110,101]:List UInt8) ([119,97,114,112]:List UInt8)))
 let f:=cond h ([103,114,97,100,105,101,110,116]:List UInt8) (cond b ([112,97,116,104]:List UInt8) (cond i ([116,101,120,116]:List UInt8) (cond k ([97,100,106,117,115,116]:List UInt8) g)))
 let e:=cond n true (cond h true (cond b true (cond i true (cond k true (cond j true (cond d true (cond c true (p0==11))))))))
 let a:=cond (cond m true (cond l true e)) (cond m ([103,114,111,117,112]:List UInt8) (cond l ([105,109,97,103,101]:List UInt8) (cond n ([102,105,108,108]:List UInt8) f))) ([]:List UInt8)
 (True,a)
def sC1 p0:=(f28t p0).1
def f28 p0:=(f28t p0).2
instance (p0:Int):Decidable (sC1 p0):=by
 unfold sC1 f28t
 try dsimp only
 infer_instance
def tX1:=sp1 vI vS sC1 f28
def nP5:=Cy [] [] [] 26
theorem pS8:SK 28 tX1:=fq (c:=nP5) Tryz.func28 trivial
abbrev vX9:Type:=((List UInt8)×Int×Unit)
abbrev vF8:Type:=(Int×Unit)
def sC2 (y:vX9)(x:vF8):Prop×Bool×vF8×Bool×Bool:=
 let e:=y.1
 let a:=x.1
 let b:=decide (a<y.2.1)
 let d:=decide (wB7 e a<33)
 let c:=cond d true (decide (wB7 e a>126))
 (b=true->InB a (len e)/\((!d)=true->InB a (len e))/\((!c)=true->InR (a+1)),b&&(!c),(a+1,()),b&&c,!b)
def rQ3 y x:=(sC2 y x).1
def uK4 y x:=(sC2 y x).2.1
def wZ0 y x:=(sC2 y x).2.2.1
def rQ4 y x:=(sC2 y x).2.2.2.1
def pS9 y x:=(sC2 y x).2.2.2.2
def sC3 (y:vX9)(x:vF8):Bool:=
 false
def sC4:St->Option Out:=xT3 [(0,vS),(13,vI)] [(14,vI)] uK4 wZ0 rQ3 λy x=>[ex 1 (some (rQ4 y x)) [(2,vB)] ((sC3 y x),()),ex 2 (some (pS9 y x)) [] ()]
def f29t (p0:List UInt8):Prop×Bool:=
 let b:=cond (decide (len p0<1)) true (decide (len p0>32))
 let a:=(p0,len p0,())
 let c:=((0:Int),())
 let d:=zB9 (uK4 a) (wZ0 a) c
 ((!b)=true->Am.Ends (uK4 a) (wZ0 a) (rQ3 a) c,cond b false (cond (rQ4 a d) (sC3 a d) true))
def pT p0:=(f29t p0).1
def f29 p0:=(f29t p0).2
def qO5:=sp1 vS vB pT f29
def pT0:=Cy [] [(4,sC4)] [] 28
theorem pT1:CtxOk Tryz.prog pT0:=cq trivial
noncomputable def oU9:Code:=Tryz.f29.body.getD .skip
noncomputable def nH3:Code:=wB4 oU9 0
theorem pT2:yX7 Tryz.prog pT0 nH3:=lq pT1 (sp:=sC4) rfl [[(2,vB)],[]]
theorem mM3:SK 29 qO5:=fl pT1 Tryz.func29 (bs:=[nH3]) ⟨pT2,trivial⟩
def f30t (p0:Int):Prop×Bool:=
 (True,cond (decide (p0≥0)) (decide (p0<=1073741824)) false)
def qO6 p0:=(f30t p0).1
def f30 p0:=(f30t p0).2
def qO7:=sp1 vI vB qO6 f30
def nP6:=Cy [] [] [] 9
theorem mM4:SK 30 qO7:=fq (c:=nP6) Tryz.func30 trivial
def f31t (p0:Int):Prop×Bool:=
 (True,cond (decide (p0≥0)) (decide (p0<=65535)) false)
def pT3 p0:=(f31t p0).1
def f31 p0:=(f31t p0).2
def qO8:=sp1 vI vB pT3 f31
def nP7:=Cy [] [] [] 9
theorem mM5:SK 31 qO8:=fq (c:=nP7) Tryz.func31 trivial
def f32t (p0:Int):Prop×Bool:=
 (True,cond (decide (p0≥0)) (decide (p0<18)) false)
def pT4 p0:=(f32t p0).1
def f32 p0:=(f32t p0).2
def qO9:=sp1 vI vB pT4 f32
def nP8:=Cy [] [] [] 9
theorem mM6:SK 32 qO9:=fq (c:=nP8) Tryz.func32 trivial
def f68t (p0:Int):Prop×Bool:=
 (True,cond (decide (p0≥0)) (decide (p0<=65535)) false)
def pT5 p0:=(f68t p0).1
def f68 p0:=(f68t p0).2
def qP:=sp1 vI vB pT5 f68
def nP9:=Cy [] [] [] 9
theorem mM7:SK 68 qP:=fq (c:=nP9) Tryz.func68 trivial
abbrev vY:Type:=((List Int)×Int×Unit)
abbrev vF9:Type:=(Int×Unit)
def sC5 (y:vY)(x:vF9):Prop×Bool×vF9×Bool×Bool:=
 let e:=y.1
 let a:=x.1
 let b:=decide (a<y.2.1)
 let d:=nth e a (0:Int)
 let c:=!(f68 d)
 (b=true->InB a (len e)/\pT5 d/\((!c)=true->InR (a+1)),b&&(!c),(a+1,()),b&&c,!b)
def sC6 y x:=(sC5 y x).1
def tX2 y x:=(sC5 y x).2.1
def vY0 y x:=(sC5 y x).2.2.1
def rQ5 y x:=(sC5 y x).2.2.2.1
def pT6 y x:=(sC5 y x).2.2.2.2
def sC7 (y:vY)(x:vF9):Int:=
 (2:Int)
def sC8:St->Option Out:=xT3 [(42,Aj),(43,vI)] [(44,vI)] tX2 vY0 sC6 λy x=>[ex 1 (some (rQ5 y x)) [(2,vI)] ((sC7 y x),()),ex 2 (some (pT6 y x)) [] ()]
def f33t (p0:D23):Prop×Int:=
 let c:=cond (cond (cond (decide (p0.1<0)) true (decide (p0.1>256))) true (decide (p0.2.1<0))) true (decide (p0.2.1>256))
 let b:=!(Ty.eqb .bool (p0.1==0) (p0.2.1==0))
 let d:=cond b true (len p0.2.2.1!=(p0.1*p0.2.1))
 let a:=(p0.2.2.1,len p0.2.2.1,())
 let f:=((0:Int),())
 let e:=zB9 (tX2 a) (vY0 a) f
 ((!c)=true->((!b)=true->InR (p0.1*p0.2.1))/\((!d)=true->Am.Ends (tX2 a) (vY0 a) (sC6 a) f),cond c (15:Int) (cond d (15:Int) (cond (rQ5 a e) (sC7 a e) (0:Int))))
def rQ6 p0:=(f33t p0).1
def f33 p0:=(f33t p0).2
def qP0:=sp1 Cp vI rQ6 f33
def pT7:=Cy [(68,qP)] [(6,sC8)] [] 52
theorem pT8:CtxOk Tryz.prog pT7:=cq ⟨mM7,trivial⟩
noncomputable def oV:Code:=Tryz.f33.body.getD .skip
noncomputable def nH4:Code:=wB4 oV 0
theorem pT9:yX7 Tryz.prog pT7 nH4:=lq pT8 (sp:=sC8) rfl [[(2,vI)],[]]
theorem mM8:SK 33 qP0:=fl pT8 Tryz.func33 (bs:=[nH4]) ⟨pT9,trivial⟩
def f7t (p0:D37)(p1:Int)(p2:Int):Prop×Int:=
 let f:=cond (cond (cond (decide (p1<1)) true (decide (p1>256))) true (decide (p2<1))) true (decide (p2>256))
 let b:=f28 p0.2.1==([]:List UInt8)
 let e:=!(f29 p0.2.2.2.1)
 let g:=!(f30 p0.1)
 let a:=cond g true (!(f30 p0.2.2.1))
 let c:=cond a true (!(f31 p0.2.2.2.2.2.2.2.1))
 let i:=!(f32 p0.2.2.2.2.2.2.2.2.1)
 let h:=cond i true (cond (f27 p0) (p0.2.2.2.2.2.2.2.2.1 !=0) false)
 let d:=f33 p0.2.2.2.2.2.2.2.2.2.1
 let j:=cond (d !=0) d (cond (cond (p0.2.2.2.2.2.2.2.2.2.1.1 !=0) (cond (p0.2.2.2.2.2.2.2.2.2.1.1 !=p1) true (p0.2.2.2.2.2.2.2.2.2.1.2.1 !=p2)) false) (15:Int) (0:Int))
 ((!f)=true->sC1 p0.2.1/\((!b)=true->pT p0.2.2.2.1/\((!e)=true->qO6 p0.1/\((!g)=true->qO6 p0.2.2.1)/\((!a)=true->pT3 p0.2.2.2.2.2.2.2.1)/\((!c)=true->pT4 p0.2.2.2.2.2.2.2.2.1/\((!i)=true->rQ2 p0)/\((!h)=true->rQ6 p0.2.2.2.2.2.2.2.2.2.1)))),cond f (15:Int) (cond b (8:Int) (cond e (13:Int) (cond c (2:Int) (cond h (8:Int) j)))))
def nQ p0 p1 p2:=(f7t p0 p1 p2).1
def f7 p0 p1 p2:=(f7t p0 p1 p2).2
def pU:=sp3 Aw vI vI vI nQ f7
def mM9:=Cy [(27,rC6),(28,tX1),(29,qO5),(30,qO7),(31,qO8),(32,qO9),(33,qP0)] [] [] 83
theorem lA9:SK 7 pU:=fq (c:=mM9) Tryz.func7 ⟨nH2,pS8,mM3,mM4,mM5,mM6,mM8,trivial⟩
def f8t (p0:Int):Prop×Bool:=
 let b:=p0==2
 let a:=p0==5
 let c:=p0==6
 let d:=p0==9
 (True,cond (cond b b (cond a a (cond c c (cond d d (p0==10))))) true false)
def qD9 p0:=(f8t p0).1
def f8 p0:=(f8t p0).2
instance (p0:Int):Decidable (qD9 p0):=by
 unfold qD9 f8t
 try dsimp only
 infer_instance
def rC7:=sp1 vI vB qD9 f8
def mN:=Cy [] [] [] 10
theorem nQ0:SK 8 rC7:=fq (c:=mN) Tryz.func8 trivial
def oV0 (p0:Int)(p1:Int)(p2:Int):Prop×Int:=
 (True,wB1 p2 (wB0 p0 p1))
def tE0 p0 p1 p2:=(oV0 p0 p1 p2).1
def f114 p0 p1 p2:=(oV0 p0 p1 p2).2
def uU8:=sp3 vI vI vI vI tE0 f114
def oV1:=Cz [] [] [] 12
theorem qE:SK 114 uU8:=fq (c:=oV1) Tryz.func114 trivial
def f69t (p0:Int):Prop×Int:=
 (tE0 p0 (-16777216:Int) (16777216:Int),f114 p0 (-16777216:Int) (16777216:Int))
def sT9 p0:=(f69t p0).1
def f69 p0:=(f69t p0).2
def qP1:=sp1 vI vI sT9 f69
def nQ1:=Cy [(114,uU8)] [] [] 5
theorem mN0:SK 69 qP1:=fq (c:=nQ1) Tryz.func69 ⟨qE,trivial⟩
def f70t (p0:Int):Prop×Int:=
 (tE0 p0 (-1099511627776:Int) (1099511627776:Int),f114 p0 (-1099511627776:Int) (1099511627776:Int))
def tJ9 p0:=(f70t p0).1
def f70 p0:=(f70t p0).2
def rC8:=sp1 vI vI tJ9 f70
def nQ2:=Cz [(114,uU8)] [] [] 5
theorem nH5:SK 70 rC8:=fq (c:=nQ2) Tryz.func70 ⟨qE,trivial⟩
def f34t (p0:D25):Prop×D25:=
 (sT9 p0.1/\sT9 p0.2.1/\sT9 p0.2.2.1/\sT9 p0.2.2.2.1/\tJ9 p0.2.2.2.2.1/\tJ9 p0.2.2.2.2.2.1,(f69 p0.1,f69 p0.2.1,f69 p0.2.2.1,f69 p0.2.2.2.1,f70 p0.2.2.2.2.1,f70 p0.2.2.2.2.2.1,()))
def qP2 p0:=(f34t p0).1
def f34 p0:=(f34t p0).2
def rC9:=sp1 Aq Aq qP2 f34
def nQ3:=Cz [(69,qP1),(70,rC8)] [] [] 22
theorem nH6:SK 34 rC9:=fq (c:=nQ3) Tryz.func34 ⟨mN0,nH5,trivial⟩
def f9t (p0:D25):Prop×Int:=
 (qP2 p0,cond (!(Ty.eqb T25 p0 (f34 p0))) (2:Int) (0:Int))
def rQ7 p0:=(f9t p0).1
def f9 p0:=(f9t p0).2
def sC9:=sp1 Aq vI rQ7 f9
def mN1:=Cy [(34,rC9)] [] [] 7
theorem oV2:SK 9 sC9:=fq (c:=mN1) Tryz.func9 ⟨nH6,trivial⟩
def f36t (p0:Int)(p1:Int)(p2:Int)(p3:Int):Prop×Int:=
 let b:=f71 p1 (65536:Int)
 let a:=f71 p3 (65536:Int)
 let c:=IntKind.wrap .i64 (IntKind.wrap .i64 (p0*IntKind.wrap .i64 (p1-(IntKind.wrap .i64 (b*65536))))+IntKind.wrap .i64 (p2*IntKind.wrap .i64 (p3-(IntKind.wrap .i64 (a*65536)))))
 (sB7 p1 (65536:Int)/\sB7 p3 (65536:Int)/\wH8 c (65536:Int),IntKind.wrap .i64 (IntKind.wrap .i64 (IntKind.wrap .i64 (p0*b)+IntKind.wrap .i64 (p2*a))+f35 c (65536:Int)))
def sU p0 p1 p2 p3:=(f36t p0 p1 p2 p3).1
def f36 p0 p1 p2 p3:=(f36t p0 p1 p2 p3).2
def rD:=sp4 vI vI vI vI vI sU f36
def nQ4:=Cz [(35,wS0),(71,rC3)] [] [] 37
theorem nH7:SK 36 rD:=fq (c:=nQ4) Tryz.func36 ⟨uD9,nH1,trivial⟩
def f10t (p0:D25):Prop×(D25×Int×Unit):=
 let v:=f9 p0
 let b:=v !=0
 let a:=IntKind.wrap .i64 (IntKind.wrap .i64 (p0.1*p0.2.2.2.1)-(IntKind.wrap .i64 (p0.2.1*p0.2.2.1)))
 let c:=a==0
 let n:=IntKind.wrap .i64 (p0.2.2.2.1*4294967296)
 let i:=f35 n a
 let q:=IntKind.wrap .i64 (IntKind.wrap .i64 (Int.sub 0 p0.2.1)*4294967296)
 let h:=f35 q a
 let k:=IntKind.wrap .i64 (IntKind.wrap .i64 (Int.sub 0 p0.2.2.1)*4294967296)
 let d:=f35 k a
 let j:=IntKind.wrap .i64 (p0.1*4294967296)
 let e:=f35 j a
 let m:=(i,h,d,e,(0:Int),(0:Int),())
 let f:=f9 m !=0
 let l:=IntKind.wrap .i64 (Int.sub 0 i)
 let s:=IntKind.wrap .i64 (Int.sub 0 d)
 let r:=IntKind.wrap .i64 (Int.sub 0 h)
 let o:=IntKind.wrap .i64 (Int.sub 0 e)
 let g:=(i,h,d,e,f36 l p0.2.2.2.2.1 s p0.2.2.2.2.2.1,f36 r p0.2.2.2.2.1 o p0.2.2.2.2.2.1,())
 let t:=f9 g !=0
 let u:=cond c ((0:Int),(0:Int),(0:Int),(0:Int),(0:Int),(0:Int),()) (cond f ((0:Int),(0:Int),(0:Int),(0:Int),(0:Int),(0:Int),()) (cond t ((0:Int),(0:Int),(0:Int),(0:Int),(0:Int),(0:Int),()) g))
 (rQ7 p0/\((!b)=true->(!c)=true->wH8 n a/\wH8 q a/\wH8 k a/\wH8 j a/\rQ7 m/\((!f)=true->sU l p0.2.2.2.2.1 s p0.2.2.2.2.2.1/\sU r p0.2.2.2.2.1 o p0.2.2.2.2.2.1/\rQ7 g)),(cond b ((0:Int),(0:Int),(0:Int),(0:Int),(0:Int),(0:Int),()) u,cond b v (cond c (17:Int) (cond f (17:Int) (cond t (17:Int) (0:Int)))),()))
def pU0 p0:=(f10t p0).1
def f10 p0:=(f10t p0).2
def qP3:=sp1 Aq (.tup (.cons Aq (.cons vI .nl))) pU0 f10
def nQ5:=Cz [(9,sC9),(35,wS0),(36,rD)] [] [] 83
theorem mN2:SK 10 qP3:=fq (c:=nQ5) Tryz.func10 ⟨oV2,uD9,nH7,trivial⟩
def f11t (p0:Int):Prop×Bool:=
 let b:=p0==2
 let a:=p0==9
 let c:=p0==10
 (True,cond (cond b b (cond a a (cond c c (p0==11)))) true false)
def sD p0:=(f11t p0).1
def f11 p0:=(f11t p0).2
instance (p0:Int):Decidable (sD p0):=by
 unfold sD f11t
 try dsimp only
 infer_instance
def tX3:=sp1 vI vB sD f11
def nQ6:=Cy [] [] [] 9
theorem pU1:SK 11 tX3:=fq (c:=nQ6) Tryz.func11 trivial
def f12t (p0:Int):Prop×Bool:=
 (True,cond (decide (p0≥0)) (decide (p0<=4)) false)
def pU2 p0:=(f12t p0).1
def f12 p0:=(f12t p0).2
def qP4:=sp1 vI vB pU2 f12
def nQ7:=Cy [] [] [] 9
theorem mN3:SK 12 qP4:=fq (c:=nQ7) Tryz.func12 trivial
def f72t (p0:Int)(p1:Int):Prop×Bool:=
 (True,cond (cond (cond (cond (decide (p0≥0)) (decide (p0<=256)) false) (decide (p1≥0)) false) (decide (p1<=256)) false) (Ty.eqb .bool (p0==0) (p1==0)) false)
def pU3 p0 p1:=(f72t p0 p1).1
def f72 p0 p1:=(f72t p0 p1).2
def qP5:=sp2 vI vI vB pU3 f72
def nQ8:=Cy [] [] [] 26
theorem mN4:SK 72 qP5:=fq (c:=nQ8) Tryz.func72 trivial
def mN5 (p0:Int):Prop×Int:=
 (tE0 p0 (0:Int) (65535:Int),f114 p0 (0:Int) (65535:Int))
def tE1 p0:=(mN5 p0).1
def f148 p0:=(mN5 p0).2
def rQ8:=sp1 vI vI tE1 f148
def oV3:=Cy [(114,uU8)] [] [] 5
theorem nQ9:SK 148 rQ8:=fq (c:=oV3) Tryz.func148 ⟨qE,trivial⟩
def mN6 (p0:D30):Prop×D30:=
 (tE1 p0.1/\tE1 p0.2.1/\tE1 p0.2.2.1/\tE1 p0.2.2.2.1,(f148 p0.1,f148 p0.2.1,f148 p0.2.2.1,f148 p0.2.2.2.1,()))
def qE0 p0:=(mN6 p0).1
def f115 p0:=(mN6 p0).2
def rQ9:=sp1 Bx Bx qE0 f115
def oV4:=Cy [(148,rQ8)] [] [] 16
theorem nR:SK 115 rQ9:=fq (c:=oV4) Tryz.func115 ⟨nQ9,trivial⟩
def f73t (p0:D30):Prop×Bool:=
 (qE0 p0,Ty.eqb T30 p0 (f115 p0))
def sU0 p0:=(f73t p0).1
def f73 p0:=(f73t p0).2
def uU9:=sp1 Bx vB sU0 f73
def nR0:=Cy [(115,rQ9)] [] [] 7
theorem qP6:SK 73 uU9:=fq (c:=nR0) Tryz.func73 ⟨nR,trivial⟩
abbrev vY1:Type:=((List D30)×Int×Unit)
abbrev vG:Type:=(Int×Unit)
def sD0 (y:vY1)(x:vG):Prop×Bool×vG×Bool×Bool:=
 let d:=y.1
 let a:=x.1
 let b:=decide (a<y.2.1)
 let e:=nth d a Z30
 let c:=!(f73 e)
 (b=true->InB a (len d)/\sU0 e/\((!c)=true->InR (a+1)),b&&(!c),(a+1,()),b&&c,!b)
def sD1 y x:=(sD0 y x).1
def tX4 y x:=(sD0 y x).2.1
def vY2 y x:=(sD0 y x).2.2.1
def rR y x:=(sD0 y x).2.2.2.1
def pU4 y x:=(sD0 y x).2.2.2.2
def sD2 (y:vY1)(x:vG):Int:=
 (2:Int)
def sD3:St->Option Out:=xT3 [(23,(.val (.sl T30))),(24,vI)] [(25,vI)] tX4 vY2 sD1 λy x=>[ex 1 (some (rR y x)) [(2,vI)] ((sD2 y x),()),ex 2 (some (pU4 y x)) [] ()]
def f37t (p0:D28):Prop×Int:=
 let b:=!(f72 p0.1 p0.2.1)
 let c:=cond b true (len p0.2.2.1!=(p0.1*p0.2.1))
 let a:=(p0.2.2.1,len p0.2.2.1,())
 let e:=((0:Int),())
 let d:=zB9 (tX4 a) (vY2 a) e
 (pU3 p0.1 p0.2.1/\((!b)=true->InR (p0.1*p0.2.1))/\((!c)=true->Am.Ends (tX4 a) (vY2 a) (sD1 a) e),cond c (15:Int) (cond (rR a d) (sD2 a d) (0:Int)))
def qP7 p0:=(f37t p0).1
def f37 p0:=(f37t p0).2
def qP8:=sp1 Cc vI qP7 f37
def pU5:=Cy [(72,qP5),(73,uU9)] [(4,sD3)] [] 33
theorem pU6:CtxOk Tryz.prog pU5:=cq ⟨mN4,qP6,trivial⟩
noncomputable def oV5:Code:=Tryz.f37.body.getD .skip
noncomputable def nH8:Code:=wB4 oV5 0
theorem pU7:yX7 Tryz.prog pU5 nH8:=lq pU6 (sp:=sD3) rfl [[(2,vI)],[]]
theorem mN7:SK 37 qP8:=fl pU6 Tryz.func37 (bs:=[nH8]) ⟨pU7,trivial⟩
def f38t (p0:D30):Prop×Int:=
 (sU0 p0,cond (!(f73 p0)) (2:Int) (0:Int))
def rR0 p0:=(f38t p0).1
def f38 p0:=(f38t p0).2
def tX5:=sp1 Bx vI rR0 f38
def nR1:=Cy [(73,uU9)] [] [] 6
theorem pU8:SK 38 tX5:=fq (c:=nR1) Tryz.func38 ⟨qP6,trivial⟩
def nR2 (p0:Int)(p1:Int):Prop×Bool:=
 (True,cond (p0==1) (p1==4) (p1==3))
def qE1 p0 p1:=(nR2 p0 p1).1
def f116 p0 p1:=(nR2 p0 p1).2
def rR1:=sp2 vI vI vB qE1 f116
def oV6:=Cy [] [] [] 11
theorem nR3:SK 116 rR1:=fq (c:=oV6) Tryz.func116 trivial
abbrev vY3:Type:=(Int×(List Int)×(List Int)×Int×Unit)
abbrev vG0:Type:=(Int×Unit)
def sD4 (y:vY3)(x:vG0):Prop×Bool×vG0×Bool×Bool:=
 let e:=y.2.2.1
 let a:=x.1
 let b:=decide (a<y.2.2.2.1)
 let d:=nth e a (0:Int)
 let c:=cond (decide (d<(-1048576))) true (decide (d>1048576))
 (b=true->InB a (len e)/\((!c)=true->InR (a+1)),b&&(!c),(a+1,()),b&&c,!b)
def rR2 y x:=(sD4 y x).1
def tX6 y x:=(sD4 y x).2.1
def vY4 y x:=(sD4 y x).2.2.1
def rR3 y x:=(sD4 y x).2.2.2.1
def rR4 y x:=(sD4 y x).2.2.2.2
def sD5 (y:vY3)(x:vG0):Int:=
 (2:Int)
def rR5:List (Nat×Sh):=[(0,vI),(1,Aj)]
def sD6:St->Option Out:=xT3 [(0,vI),(1,Aj),(36,Aj),(37,vI)] [(38,vI)] tX6 vY4 rR2 λy x=>[ex 1 (some (rR3 y x)) [(8,vI)] ((sD5 y x),()),ex 2 (some (rR4 y x)) rR5 (y.1,y.2.1,())]
def f74t (p0:Int)(p1:List Int)(p2:Int)(p3:Int):Prop×Int:=
 let e:=cond (cond (cond (decide (p0<1)) true (decide (p0>4))) true (decide (p2<0))) true (decide (p2>2))
 let g:=len p1
 let b:=cond (!(f116 p0 g)) true (p3==0)
 let f:=decide (p3>16)
 let a:=(p0,p1,p1,len p1,())
 let i:=((0:Int),())
 let h:=zB9 (tX6 a) (vY4 a) i
 let c:=cond (p0==2) true (p0==4)
 let d:=cond b (1:Int) (cond f (3:Int) (cond (rR3 a h) (sD5 a h) (cond (cond c (decide (nth p1 (2:Int) (0:Int)<0)) false) (2:Int) (0:Int))))
 ((!e)=true->qE1 p0 g/\((!b)=true->(!f)=true->Am.Ends (tX6 a) (vY4 a) (rR2 a) i/\(rR4 a h=true->c=true->InB (2:Int) (len p1))),cond e (8:Int) d)
def pU9 p0 p1 p2 p3:=(f74t p0 p1 p2 p3).1
def f74 p0 p1 p2 p3:=(f74t p0 p1 p2 p3).2
def qP9:=sp4 vI Aj vI vI vI pU9 f74
def pV:=Cy [(116,rR1)] [(8,sD6)] [] 61
theorem pV0:CtxOk Tryz.prog pV:=cq ⟨nR3,trivial⟩
noncomputable def oV7:Code:=Tryz.f74.body.getD .skip
noncomputable def nH9:Code:=wB4 oV7 0
theorem pV1:yX7 Tryz.prog pV nH9:=lq pV0 (sp:=sD6) rfl [[(8,vI)],rR5]
theorem mN8:SK 74 qP9:=fl pV0 Tryz.func74 (bs:=[nH9]) ⟨pV1,trivial⟩
abbrev vY5:Type:=((List D69)×(List D69)×Int×Unit)
abbrev vG1:Type:=(Int×Unit)
def uP8 (y:vY5)(x:vG1):Prop×Bool×vG1×Bool×Bool:=
 let k:=y.1
 let j:=y.2.1
 let c:=x.1
 let i:=decide (c<y.2.2.1)
 let a:=nth j c Z69
 let g:=cond (decide (a.1<0)) true (decide (a.1>65535))
 let b:=cond g true (!(f73 a.2.1))
 let d:=decide (c>0)
 let f:=c-1
 let e:=cond d (decide (a.1<=(nth k f Z69).1)) false
 let h:=(!b)&&(!e)
 (i=true->InB c (len j)/\((!g)=true->sU0 a.2.1)/\((!b)=true->(d=true->InR (c-1))/\(d=true->InB f (len k)))/\(h=true->InR (c+1)),i&&h,(c+1,()),i&&(b||((!b)&&e)),!i)
def rR6 y x:=(uP8 y x).1
def tX7 y x:=(uP8 y x).2.1
def uP9 y x:=(uP8 y x).2.2.1
def sD7 y x:=(uP8 y x).2.2.2.1
def pV2 y x:=(uP8 y x).2.2.2.2
def uQ (y:vY5)(x:vG1):Int:=
 let a:=nth y.2.1 x.1 Z69
 (cond (cond (cond (decide (a.1<0)) true (decide (a.1>65535))) true (!(f73 a.2.1))) (2:Int) (24:Int))
def sD8:St->Option Out:=xT3 [(0,Ak),(5,Ak),(6,vI)] [(7,vI)] tX7 uP9 rR6 λy x=>[ex 1 (some (sD7 y x)) [(2,vI)] ((uQ y x),()),ex 2 (some (pV2 y x)) [] ()]
def f75t (p0:List D69):Prop×Int:=
 let a:=(p0,p0,len p0,())
 let c:=((0:Int),())
 let b:=zB9 (tX7 a) (uP9 a) c
 (Am.Ends (tX7 a) (uP9 a) (rR6 a) c,cond (sD7 a b) (uQ a b) (0:Int))
def qQ p0:=(f75t p0).1
def f75 p0:=(f75t p0).2
def qQ0:=sp1 Ak vI qQ f75
def pV3:=Cy [(73,uU9)] [(2,sD8)] [] 40
theorem pV4:CtxOk Tryz.prog pV3:=cq ⟨qP6,trivial⟩
noncomputable def oV8:Code:=Tryz.f75.body.getD .skip
noncomputable def nI:Code:=wB4 oV8 0
theorem pV5:yX7 Tryz.prog pV3 nI:=lq pV4 (sp:=sD8) rfl [[(2,vI)],[]]
theorem mN9:SK 75 qQ0:=fl pV4 Tryz.func75 (bs:=[nI]) ⟨pV5,trivial⟩
def f39t (p0:Int)(p1:List Int)(p2:Int)(p3:List D69):Prop×Int:=
 let b:=len p3
 let c:=f74 p0 p1 p2 b
 let a:=c !=0
 (pU9 p0 p1 p2 b/\((!a)=true->qQ p3),cond a c (f75 p3))
def pV6 p0 p1 p2 p3:=(f39t p0 p1 p2 p3).1
def f39 p0 p1 p2 p3:=(f39t p0 p1 p2 p3).2
def qQ1:=sp4 vI Aj vI Ak vI pV6 f39
def nR4:=Cy [(74,qP9),(75,qQ0)] [] [] 21
theorem mO:SK 39 qQ1:=fq (c:=nR4) Tryz.func39 ⟨mN8,mN9,trivial⟩
def nR5 (p0:Int):Prop×Int:=
 let b:=p0==3
 let a:=p0==4
 (True,cond (cond b true (cond a true (p0==5))) (cond b (2:Int) (cond a (3:Int) (0:Int))) (1:Int))
def rD0 p0:=(nR5 p0).1
def f118 p0:=(nR5 p0).2
def sD9:=sp1 vI vI rD0 f118
def oV9:=Cy [] [] [] 10
theorem pV7:SK 118 sD9:=fq (c:=oV9) Tryz.func118 trivial
def pV8 (p0:D71):Prop×Bool:=
 (True,cond (cond (cond (decide (p0.1<(-16777216))) true (decide (p0.1>16777216))) true (decide (p0.2.1<(-16777216)))) true (decide (p0.2.1>16777216)))
def tE2 p0:=(pV8 p0).1
def f120 p0:=(pV8 p0).2
def uV:=sp1 Al vB tE2 f120
def oW:=Cy [] [] [] 21
theorem qE2:SK 120 uV:=fq (c:=oW) Tryz.func120 trivial
abbrev vB7:Type:=((List D74)×Int×D74×(List D74)×Int×Int×(List D71)×Unit)
abbrev wU4:Type:=(Int×Unit)
def vQ0 (y:vB7)(x:wU4):Prop×Bool×wU4×Bool×Bool:=
 let f:=y.2.2.1
 let a:=x.1
 let b:=decide (a<3)
 let c:=nth y.2.2.2.2.2.2.1 a Z71
 let e:=f120 c
 let d:=cond e true (cond (decide (a≥f118 f.1)) (!(Ty.eqb T71 c ((0:Int),(0:Int),()))) false)
 (b=true->InB a 3/\tE2 c/\((!e)=true->rD0 f.1)/\((!d)=true->InR (a+1)),b&&(!d),(a+1,()),b&&d,!b)
def uK5 y x:=(vQ0 y x).1
def wK3 y x:=(vQ0 y x).2.1
def wH2 y x:=(vQ0 y x).2.2.1
def wZ1 y x:=(vQ0 y x).2.2.2.1
def uK6 y x:=(vQ0 y x).2.2.2.2
def vQ1 (y:vB7)(x:wU4):Int:=
 (2:Int)
def sU1:List (Nat×Sh):=[(0,Ag),(3,vI),(4,Ay),(10,Ag),(11,vI),(12,vI)]
def tK:St->Option Out:=xT3 [(0,Ag),(3,vI),(4,Ay),(10,Ag),(11,vI),(12,vI),(26,(.val (.arr 3 T71)))] [(27,vI)] wK3 wH2 uK5 λy x=>[ex 1 (some (wZ1 y x)) [(2,vI)] ((vQ1 y x),()),ex 4 (some (uK6 y x)) sU1 (y.1,y.2.1,y.2.2.1,y.2.2.2.1,y.2.2.2.2.1,y.2.2.2.2.2.1,())]
abbrev vK6:Type:=((List D74)×(List D74)×Int×Unit)
abbrev wQ9:Type:=(Int×Unit)
def wU5 (y:vK6)(x:wQ9):Prop×Bool×wQ9×Bool×Bool:=
 let n:=y.1
 let g:=y.2.1
 let m:=y.2.2.1
 let a:=x.1
 let d:=decide (a<m)
 let c:=nth g a Z74
 let e:=cond (decide (c.1<1)) true (decide (c.1>5))
 let i:=(n,a,c,g,m,a,c.2.1,())
 let o:=((0:Int),())
 let q:=zB9 (wK3 i) (wH2 i) o
 let b:=uK6 i q
 let h:=c.1 !=1
 let f:=a==0
 let k:=a-1
 let j:=cond h (cond f true ((nth n k Z74).1==5)) false
 let l:=(!e)&&(b&&(!j))
 (d=true->InB a (len g)/\((!e)=true->Am.Ends (wK3 i) (wH2 i) (uK5 i) o/\(b=true->((h&&(!f))=true->InR (a-1))/\((h&&(!f))=true->InB k (len n))))/\(l=true->InR (a+1)),d&&l,(a+1,()),d&&(e||((!e)&&(wZ1 i q||(b&&j)))),!d)
def tE3 y x:=(wU5 y x).1
def wI6 y x:=(wU5 y x).2.1
def wI7 y x:=(wU5 y x).2.2.1
def wZ2 y x:=(wU5 y x).2.2.2.1
def pH7 y x:=(wU5 y x).2.2.2.2
def vB8 (y:vK6)(x:wQ9):Int:=
 let c:=y.2.1
 let b:=x.1
 let a:=nth c b Z74
 let d:=(y.1,b,a,c,y.2.2.1,b,a.2.1,())
 let e:=zB9 (wK3 d) (wH2 d) ((0:Int),())
 (cond (cond (decide (a.1<1)) true (decide (a.1>5))) (8:Int) (cond (wZ1 d e) (vQ1 d e) (24:Int)))
def tK0:St->Option Out:=xT3 [(0,Ag),(10,Ag),(11,vI)] [(12,vI)] wI6 wI7 tE3 λy x=>[ex 1 (some (wZ2 y x)) [(2,vI)] ((vB8 y x),()),ex 2 (some (pH7 y x)) [] ()]
def nR6 (p0:List D74):Prop×Int:=
 let d:=decide (len p0>128)
 let a:=(p0,p0,len p0,())
 let b:=((0:Int),())
 let c:=zB9 (wI6 a) (wI7 a) b
 ((!d)=true->Am.Ends (wI6 a) (wI7 a) (tE3 a) b,cond d (3:Int) (cond (wZ2 a c) (vB8 a c) (0:Int)))
def uQ0 p0:=(nR6 p0).1
def f117 p0:=(nR6 p0).2
def uE4:=sp1 Ag vI uQ0 f117
def rD1:=Cy [(118,sD9),(120,uV)] [(9,tK),(4,tK0)] [] 63
theorem rD2:CtxOk Tryz.prog rD1:=cq ⟨pV7,qE2,trivial⟩
noncomputable def pV9:Code:=Tryz.f117.body.getD .skip
noncomputable def qE3:Code:=wB4 pV9 0
noncomputable def pW:Code:=wB4 qE3 0
theorem pH8:yX7 Tryz.prog rD1 pW:=lq rD2 (sp:=tK) rfl [[(2,vI)],sU1]
theorem pH9:yX7 Tryz.prog rD1 qE3:=lm rD2 (sp:=tK0) rfl [[(2,vI)],[]] (bs:=[pW]) ⟨pH8,trivial⟩
theorem rD3:SK 117 uE4:=fl rD2 Tryz.func117 (bs:=[qE3]) ⟨pH9,trivial⟩
def nR7 (p0:D25)(p1:D71):Prop×D71:=
 let a:=f34 p0
 let c:=f70 p1.1
 let b:=f70 p1.2.1
 let d:=IntKind.wrap .i64 (f36 a.1 c a.2.2.1 b+a.2.2.2.2.1)
 let e:=IntKind.wrap .i64 (f36 a.2.1 c a.2.2.2.1 b+a.2.2.2.2.2.1)
 (qP2 p0/\tJ9 p1.1/\tJ9 p1.2.1/\sU a.1 c a.2.2.1 b/\tJ9 d/\sU a.2.1 c a.2.2.2.1 b/\tJ9 e,(f70 d,f70 e,()))
def qE4 p0 p1:=(nR7 p0 p1).1
def f149 p0 p1:=(nR7 p0 p1).2
def rR7:=sp2 Aq Al Al qE4 f149
def oW0:=Cz [(34,rC9),(36,rD),(70,rC8)] [] [] 38
theorem nR8:SK 149 rR7:=fq (c:=oW0) Tryz.func149 ⟨nH6,nH7,nH5,trivial⟩
def nR9 (p0:D25)(p1:D71):Prop×D71:=
 let s:=(IntKind.wrap .i64 (4096*p1.1),IntKind.wrap .i64 (4096*p1.2.1),())
 let a:=f149 p0 s
 (qE4 p0 s/\wH8 a.1 (4096:Int)/\wH8 a.2.1 (4096:Int),(f35 a.1 (4096:Int),f35 a.2.1 (4096:Int),()))
def rD4 p0 p1:=(nR9 p0 p1).1
def f119 p0 p1:=(nR9 p0 p1).2
def sE:=sp2 Aq Al Al rD4 f119
def oW1:=Cz [(35,wS0),(149,rR7)] [] [] 22
theorem pW0:SK 119 sE:=fq (c:=oW1) Tryz.func119 ⟨uD9,nR8,trivial⟩
abbrev wN5:Type:=(D25×Int×D74×(List D74)×Int×Int×Int×Unit)
abbrev wI8:Type:=((List D74)×Int×Unit)
def uV0 (y:wN5)(x:wI8):Prop×Bool×wI8×Bool×Bool:=
 let h:=y.1
 let f:=y.2.1
 let e:=x.1
 let a:=x.2.1
 let b:=decide (a<y.2.2.2.2.2.2.1)
 let g:=nth y.2.2.1.2.1 a Z71
 let d:=f119 h g
 let c:=f120 d
 (b=true->InB a 3/\rD4 h g/\tE2 d/\((!c)=true->InB f (len e)/\InB a 3/\f<len e)/\((!c)=true->InR (a+1)),b&&(!c),(List.set e (Int.toNat f) ((nth e f Z74).1,List.set (nth e f Z74).2.1 (Int.toNat a) d,()),a+1,()),b&&c,!b)
def vJ y x:=(uV0 y x).1
def wD1 y x:=(uV0 y x).2.1
def wC9 y x:=(uV0 y x).2.2.1
def vT7 y x:=(uV0 y x).2.2.2.1
def wN0 y x:=(uV0 y x).2.2.2.2
def uE5 (y:wN5)(x:wI8):(List D74):=
 ([]:List D74)
def tK1 (y:wN5)(x:wI8):Int:=
 (2:Int)
def sU2:List (Nat×Sh):=[(4,Bi),(5,vI)]
def tK2 (y:wN5)(x:wI8):(List D74):=
 x.1
def sU3:List (Nat×Sh):=[(3,Ba),(8,Bq),(26,Ag),(27,vI),(28,vI)]
def tK3:St->Option Out:=xT3 [(3,Ba),(9,vI),(10,Ay),(26,Ag),(27,vI),(28,vI),(41,vI)] [(8,Bq),(42,vI)] wD1 wC9 vJ λy x=>[ex 1 (some (vT7 y x)) sU2 ((uE5 y x),(tK1 y x),()),ex 4 (some (wN0 y x)) sU3 (y.1,(tK2 y x),y.2.2.2.1,y.2.2.2.2.1,y.2.2.2.2.2.1,())]
abbrev vA5:Type:=(D25×(List D74)×Int×Unit)
abbrev wI1:Type:=((List D74)×Int×Unit)
def sE0 (y:vA5)(x:wI1):Prop×Bool×wI1×Bool×Bool:=
 let g:=y.2.1
 let h:=y.2.2.1
 let j:=x.1
 let a:=x.2.1
 let d:=decide (a<h)
 let e:=nth g a Z74
 let b:=(y.1,a,e,g,h,a,f118 e.1,())
 let i:=(List.set j (Int.toNat a) (e.1,(nth j a Z74).2.1,()),(0:Int),())
 let f:=zB9 (wD1 b) (wC9 b) i
 let c:=wN0 b f
 (d=true->InB a (len g)/\InB a (len j)/\a<len j/\rD0 e.1/\Am.Ends (wD1 b) (wC9 b) (vJ b) i/\(c=true->InR (a+1)),d&&c,(tK2 b f,a+1,()),d&&vT7 b f,!d)
def vB9 y x:=(sE0 y x).1
def wI2 y x:=(sE0 y x).2.1
def wD9 y x:=(sE0 y x).2.2.1
def wU6 y x:=(sE0 y x).2.2.2.1
def pW1 y x:=(sE0 y x).2.2.2.2
def vY6 (y:vA5)(x:wI1):(List D74):=
 let d:=y.2.1
 let e:=x.1
 let a:=x.2.1
 let b:=nth d a Z74
 let c:=(y.1,a,b,d,y.2.2.1,a,f118 b.1,())
 (uE5 c (zB9 (wD1 c) (wC9 c) (List.set e (Int.toNat a) (b.1,(nth e a Z74).2.1,()),(0:Int),())))
def uQ1 (y:vA5)(x:wI1):Int:=
 let d:=y.2.1
 let e:=x.1
 let a:=x.2.1
 let b:=nth d a Z74
 let c:=(y.1,a,b,d,y.2.2.1,a,f118 b.1,())
 (tK1 c (zB9 (wD1 c) (wC9 c) (List.set e (Int.toNat a) (b.1,(nth e a Z74).2.1,()),(0:Int),())))
def rR8:List (Nat×Sh):=[(4,Bi),(5,vI)]
def vK7 (y:vA5)(x:wI1):(List D74):=
 x.1
def sE1:St->Option Out:=xT3 [(3,Ba),(26,Ag),(27,vI)] [(8,Bq),(28,vI)] wI2 wD9 vB9 λy x=>[ex 1 (some (wU6 y x)) rR8 ((vY6 y x),(uQ1 y x),()),ex 2 (some (pW1 y x)) [(8,Bq)] ((vK7 y x),())]
def f76t (p0:List D74)(p1:D25):Prop×((List D74)×Int×Unit):=
 let f:=f117 p0
 let e:=f !=0
 let g:=f9 p1
 let d:=g !=0
 let a:=len p0
 let b:=(p1,p0,len p0,())
 let i:=(List.replicate (Int.toNat a) Z74,(0:Int),())
 let h:=zB9 (wI2 b) (wD9 b) i
 let c:=wU6 b h
 (uQ0 p0/\((!e)=true->rQ7 p1/\((!d)=true->(0<=a/\a<=a/\a<=4294967296)/\Am.Ends (wI2 b) (wD9 b) (vB9 b) i)),(cond e [] (cond d [] (cond c (vY6 b h) (vK7 b h))),cond e f (cond d g (cond c (uQ1 b h) (0:Int))),()))
def pW2 p0 p1:=(f76t p0 p1).1
def f76 p0 p1:=(f76t p0 p1).2
def qQ2:=sp2 Ag Aq (.tup (.cons Ag (.cons vI .nl))) pW2 f76
def qE5:Ctx:=Cx tys [(9,sC9),(117,uE4),(118,sD9),(119,sE),(120,uV)] [(13,tK3),(9,sE1)] [(15,[(4,0,25,1008)]),(43,[(1,4,0,0),(4,0,1008,0)])] false 63 [] [25]
theorem qE6:CtxOk Tryz.prog qE5:=cq ⟨oV2,rD3,pV7,pW0,qE2,trivial⟩
noncomputable def oW2:Code:=Tryz.f76.body.getD .skip
noncomputable def pW3:Code:=wB4 oW2 0
noncomputable def pW4:Code:=wB4 pW3 0
theorem pI:yX7 Tryz.prog qE5 pW4:=lq qE6 (sp:=tK3) rfl [sU2,sU3]
theorem pW5:yX7 Tryz.prog qE5 pW3:=lm qE6 (sp:=sE1) rfl [rR8,[(8,Bq)]] (bs:=[pW4]) ⟨pI,trivial⟩
theorem mO0:SK 76 qQ2:=fl qE6 Tryz.func76 (bs:=[pW3]) ⟨pW5,trivial⟩
def rD5 (p0:D71)(p1:List D71):Prop×(Unit)×((List D71)×Unit):=
 let c:=len p1
 let d:=c-1
 let a:=!(Ty.eqb T71 p0 (nth p1 d Z71))
 let b:=([p0]:List D71)
 (InR (c-1)/\InB d (len p1)/\(a=true->((List.length p1+List.length b:Nat):Int)<=4294967296),(),(cond a (p1++b) p1,()))
def vJ0 p0 p1:=(rD5 p0 p1).1
def nS p0 p1:=(rD5 p0 p1).2.1
def wN6 p0 p1:=(rD5 p0 p1).2.2
def tK4:Am.Spec:=fnSpec [(0,Al),(1,Cr)] (.tup .nl) [(1,Cr)] (λx=>vJ0 x.1 x.2.1) (λx=>nS x.1 x.2.1) (λx=>wN6 x.1 x.2.1)
def qE7:Ctx:=Cx tys [] [] [(5,[(4,0,14,400100)])] false 15 [1] []
theorem pI0:SK 150 tK4:=fq (c:=qE7) Tryz.func150 trivial
abbrev vC:Type:=(D74×D71×(Unit×Unit)×Unit)
abbrev wN7:Type:=((List D71)×Int×Unit)
def uQ2 (y:vC)(x:wN7):Prop×Bool×wN7:=
 let z:=y.1
 let A:=y.2.1
 let B:=x.1
 let b:=x.2.1
 let v:=decide (b<=8)
 let a:=8-b
 let e:=a*a
 let f:=2*b
 let c:=f*a
 let d:=b*b
 let i:=e*A.1
 let q:=(nth z.2.1 (0:Int) Z71).1
 let u:=c*q
 let l:=i+u
 let o:=(nth z.2.1 (1:Int) Z71).1
 let g:=d*o
 let m:=l+g
 let k:=e*A.2.1
 let r:=(nth z.2.1 (0:Int) Z71).2.1
 let n:=c*r
 let w:=k+n
 let j:=(nth z.2.1 (1:Int) Z71).2.1
 let h:=d*j
 let t:=w+h
 let s:=(f35 m (64:Int),f35 t (64:Int),())
 (v=true->InR (8-b)/\InR (a*a)/\InR (2*b)/\InR (f*a)/\InR (b*b)/\InR (e*A.1)/\InB (0:Int) 3/\InR (c*q)/\InR (i+u)/\InB (1:Int) 3/\InR (d*o)/\InR (l+g)/\wH8 m (64:Int)/\InR (e*A.2.1)/\InB (0:Int) 3/\InR (c*r)/\InR (k+n)/\InB (1:Int) 3/\InR (d*j)/\InR (w+h)/\wH8 t (64:Int)/\vJ0 s B/\InR (b+1),v,((wN6 s B).1,b+1,()))
def uV1 y x:=(uQ2 y x).1
def wN8 y x:=(uQ2 y x).2.1
def wH9 y x:=(uQ2 y x).2.2
def uE6 (y:vC)(x:wN7):(List D71):=
 x.1
def uV2:List (Nat×Sh):=[(2,Bk)]
def uE7:St->Option Out:=xT3 [(3,Ay),(5,Bj),(6,(.fn 150 (.cons (.ref 2 Ac) .nl)))] [(2,Bk),(7,vI)] wN8 wH9 uV1 λy x=>[ex 3 none uV2 ((uE6 y x),())]
abbrev wU7:Type:=(D74×D71×(Unit×Unit)×Unit)
abbrev wL9:Type:=((List D71)×Int×Unit)
def uE8 (y:wU7)(x:wL9):Prop×Bool×wL9:=
 let N:=y.1
 let Q:=y.2.1
 let R:=x.1
 let b:=x.2.1
 let O:=decide (b<=16)
 let a:=16-b
 let u:=a*a
 let f:=u*a
 let g:=3*b
 let k:=g*a
 let e:=k*a
 let J:=3*b
 let M:=J*b
 let d:=M*a
 let l:=b*b
 let c:=l*b
 let B:=f*Q.1
 let E:=(nth N.2.1 (0:Int) Z71).1
 let C:=e*E
 let q:=B+C
 let h:=(nth N.2.1 (1:Int) Z71).1
 let i:=d*h
 let r:=q+i
 let F:=(nth N.2.1 (2:Int) Z71).1
 let A:=c*F
 let j:=r+A
 let n:=f*Q.2.1
 let t:=(nth N.2.1 (0:Int) Z71).2.1
 let K:=e*t
 let v:=n+K
 let m:=(nth N.2.1 (1:Int) Z71).2.1
 let H:=d*m
 let z:=v+H
 let o:=(nth N.2.1 (2:Int) Z71).2.1
 let L:=c*o
 let w:=z+L
 let s:=(f35 j (4096:Int),f35 w (4096:Int),())
 (O=true->InR (16-b)/\InR (a*a)/\InR (u*a)/\InR (3*b)/\InR (g*a)/\InR (k*a)/\InR (3*b)/\InR (J*b)/\InR (M*a)/\InR (b*b)/\InR (l*b)/\InR (f*Q.1)/\InB (0:Int) 3/\InR (e*E)/\InR (B+C)/\InB (1:Int) 3/\InR (d*h)/\InR (q+i)/\InB (2:Int) 3/\InR (c*F)/\InR (r+A)/\wH8 j (4096:Int)/\InR (f*Q.2.1)/\InB (0:Int) 3/\InR (e*t)/\InR (n+K)/\InB (1:Int) 3/\InR (d*m)/\InR (v+H)/\InB (2:Int) 3/\InR (c*o)/\InR (z+L)/\wH8 w (4096:Int)/\vJ0 s R/\InR (b+1),O,((wN6 s R).1,b+1,()))
def uP0 y x:=(uE8 y x).1
def wM y x:=(uE8 y x).2.1
def wG4 y x:=(uE8 y x).2.2
def uC8 (y:wU7)(x:wL9):(List D71):=
 x.1
def uP1:List (Nat×Sh):=[(2,Bk)]
def uC9:St->Option Out:=xT3 [(3,Ay),(5,Bj),(6,(.fn 150 (.cons (.ref 2 Ac) .nl)))] [(2,Bk),(12,vI)] wM wG4 uP0 λy x=>[ex 5 none uP1 ((uC8 y x),())]
def qQ3 (p0:List D71)(p1:D74):Prop×(List D71):=
 let f:=len p0
 let h:=f-1
 let g:=nth p0 h Z71
 let b:=p1.1==2
 let e:=nth p1.2.1 (0:Int) Z71
 let c:=p1.1==3
 let d:=(p1,g,((),()),())
 let l:=(p0,(1:Int),())
 let j:=p1.1==4
 let a:=(p1,g,((),()),())
 let k:=(p0,(1:Int),())
 let i:=cond b (wN6 e p0).1 (cond c (uE6 d (zB9 (wN8 d) (wH9 d) l)) (cond j (uC8 a (zB9 (wM a) (wG4 a) k)) p0))
 (InR (f-1)/\InB h (len p0)/\(b=true->InB (0:Int) 3/\vJ0 e p0)/\(b=false->(c=true->Am.Ends (wN8 d) (wH9 d) (uV1 d) l)/\(c=false->j=true->Am.Ends (wM a) (wG4 a) (uP0 a) k)),i)
def uK7 p0 p1:=(qQ3 p0 p1).1
def wQ8 p0 p1:=(qQ3 p0 p1).2
def tK5:=sp2 (.own T71 400000 false) Cq Cb uK7 wQ8
def uQ3:Ctx:={ Cx tys [(35,wS0),(150,tK4)] [(8,uE7),(15,uC9)] [(1,[(4,0,400000,400200)]),(41,[(4,0,400200,0)])] false 179 [] [] with wants:=[(150,[])] }
theorem uQ4:CtxOk Tryz.prog uQ3:=cq ⟨uD9,pI0,trivial⟩
noncomputable def tK6:Code:=Tryz.f121.body.getD .skip
noncomputable def sU4:Code:=wB4 tK6 0
theorem rD6:yX7 Tryz.prog uQ3 sU4:=lq uQ4 (sp:=uE7) rfl [uV2]
noncomputable def sE2:Code:=wB4 tK6 1
theorem sT:yX7 Tryz.prog uQ3 sE2:=lq uQ4 (sp:=uC9) rfl [uP1]
theorem pI1:SK 121 tK5:=fl uQ4 Tryz.func121 (bs:=[sU4,sE2]) ⟨rD6,sT,trivial⟩
abbrev uV3:Type:=((List D74)×(List D74)×Int×Unit)
abbrev vY7:Type:=((List (List D71))×(List D71)×Int×Unit)
def qE8 (y:uV3)(x:vY7):Prop×Bool×vY7:=
 let l:=y.1
 let e:=y.2.1
 let k:=x.1
 let n:=x.2.1
 let a:=x.2.2.1
 let h:=decide (a<y.2.2.1)
 let b:=nth e a Z74
 let c:=b.1==1
 let m:=cond c ([nth b.2.1 (0:Int) Z71]:List D71) (wQ8 n b)
 let g:=len l
 let d:=a==(g-1)
 let f:=a+1
 let i:=cond d true ((nth l f Z74).1==1)
 let j:=([m]:List (List D71))
 (h=true->InB a (len e)/\(c=true->InB (0:Int) 3)/\(c=false->uK7 n b)/\InR (g-1)/\((!d)=true->InR (a+1))/\((!d)=true->InB f (len l))/\(i=true->((List.length k+List.length j:Nat):Int)<=4294967296)/\InR (a+1),h,(cond i (k++j) k,m,a+1,()))
def rR9 y x:=(qE8 y x).1
def vG2 y x:=(qE8 y x).2.1
def wK0 y x:=(qE8 y x).2.2
def vY8 (y:uV3)(x:vY7):(List (List D71)):=
 x.1
def rS:List (Nat×Sh):=[(5,(.own Ac 1005 false))]
def sE3:St->Option Out:=xT3 [(0,Ag),(14,Ag),(15,vI)] [(5,(.own Ac 1005 false)),(6,Bm),(16,vI)] vG2 wK0 rR9 λy x=>[ex 2 none rS ((vY8 y x),())]
def f77t (p0:List D74):Prop×((List (List D71))×Int×Unit):=
 let c:=f117 p0
 let a:=c !=0
 let b:=(p0,p0,len p0,())
 let d:=(([]:List (List D71)),([]:List D71),(0:Int),())
 (uQ0 p0/\((!a)=true->Am.Ends (vG2 b) (wK0 b) (rR9 b) d),(cond a [] (vY8 b (zB9 (vG2 b) (wK0 b) d)),cond a c (0:Int),()))
def rS0 p0:=(f77t p0).1
def f77 p0:=(f77t p0).2
def rD7:=sp1 Ag (.tup (.cons Ao (.cons vI .nl))) rS0 f77
def pW6:Ctx:={ Cx tys [(117,uE4),(121,tK5)] [(7,sE3)] [(21,[(4,0,27,1006)]),(23,[(4,0,30,1006)]),(27,[(4,0,48,1005)]),(31,[(4,0,1005,0)])] false 51 [] [] with wants:=[(121,[0])] }
theorem pW7:CtxOk Tryz.prog pW6:=cq ⟨rD3,pI1,trivial⟩
noncomputable def oW3:Code:=Tryz.f77.body.getD .skip
noncomputable def nI0:Code:=wB4 oW3 0
theorem pW8:yX7 Tryz.prog pW6 nI0:=lq pW7 (sp:=sE3) rfl [rS]
theorem nI1:SK 77 rD7:=fl pW7 Tryz.func77 (bs:=[nI0]) ⟨pW8,trivial⟩
abbrev uV4:Type:=((List D74)×(List D74)×Int×Unit)
abbrev vG3:Type:=((List Bool)×Int×Unit)
def rD8 (y:uV4)(x:vG3):Prop×Bool×vG3:=
 let j:=y.1
 let e:=y.2.1
 let i:=x.1
 let a:=x.2.1
 let h:=decide (a<y.2.2.1)
 let d:=len j
 let b:=a==(d-1)
 let g:=a+1
 let f:=cond b true ((nth j g Z74).1==1)
 let c:=([(nth e a Z74).1 !=5]:List Bool)
 (h=true->InB a (len e)/\InR (d-1)/\((!b)=true->InR (a+1))/\((!b)=true->InB g (len j))/\(f=true->((List.length i+List.length c:Nat):Int)<=4294967296)/\InR (a+1),h,(cond f (i++c) i,a+1,()))
def sE4 y x:=(rD8 y x).1
def uK8 y x:=(rD8 y x).2.1
def wS4 y x:=(rD8 y x).2.2
def sE5 (y:uV4)(x:vG3):(List Bool):=
 x.1
def sE6:St->Option Out:=xT3 [(0,Ag),(13,Ag),(14,vI)] [(5,Cd),(15,vI)] uK8 wS4 sE4 λy x=>[ex 2 none [(5,Cd)] ((sE5 y x),())]
def f78t (p0:List D74):Prop×((List Bool)×Int×Unit):=
 let d:=f117 p0
 let a:=d !=0
 let b:=(p0,p0,len p0,())
 let c:=(([]:List Bool),(0:Int),())
 (uQ0 p0/\((!a)=true->Am.Ends (uK8 b) (wS4 b) (sE4 b) c),(cond a [] (sE5 b (zB9 (uK8 b) (wS4 b) c)),cond a d (0:Int),()))
def pW9 p0:=(f78t p0).1
def f78 p0:=(f78t p0).2
def qQ4:=sp1 Ag (.tup (.cons (.own .bool 0 false) (.cons vI .nl))) pW9 f78
def pX:=Cy [(117,uE4)] [(6,sE6)] [(19,[(4,0,39,1005)]),(23,[(4,0,1005,0)])] 42
theorem pX0:CtxOk Tryz.prog pX:=cq ⟨rD3,trivial⟩
noncomputable def oW4:Code:=Tryz.f78.body.getD .skip
noncomputable def nI2:Code:=wB4 oW4 0
theorem pX1:yX7 Tryz.prog pX nI2:=lq pX0 (sp:=sE6) rfl [[(5,Cd)]]
theorem mO1:SK 78 qQ4:=fl pX0 Tryz.func78 (bs:=[nI2]) ⟨pX1,trivial⟩
abbrev vY9:Type:=((List (List D71))×(List (List D71))×Int×Unit)
abbrev vG4:Type:=(Int×Int×Unit)
def sE7 (y:vY9)(x:vG4):Prop×Bool×vG4×Bool×Bool:=
 let d:=y.2.1
 let g:=x.1
 let a:=x.2.1
 let b:=decide (a<y.2.2.1)
 let e:=len (nth d a ([]:List D71))
 let f:=g+e
 let c:=decide (f>4096)
 (b=true->InB a (len d)/\InR (g+e)/\((!c)=true->InR (a+1)),b&&(!c),(f,a+1,()),b&&c,!b)
def rS1 y x:=(sE7 y x).1
def vG5 y x:=(sE7 y x).2.1
def wM0 y x:=(sE7 y x).2.2.1
def uE9 y x:=(sE7 y x).2.2.2.1
def uV5 y x:=(sE7 y x).2.2.2.2
def sE8 (y:vY9)(x:vG4):Int:=
 (3:Int)
def sE9:St->Option Out:=xT3 [(0,Ai),(18,Ai),(19,vI)] [(5,vI),(20,vI)] vG5 wM0 rS1 λy x=>[ex 1 (some (uE9 y x)) [(4,vI)] ((sE8 y x),()),ex 2 (some (uV5 y x)) [(0,Ai)] (y.1,())]
abbrev vK8:Type:=((List (List D71))×Int×Int×(List D71)×Int×Unit)
abbrev wU8:Type:=(Int×Unit)
def uV6 (y:vK8)(x:wU8):Prop×Bool×wU8×Bool×Bool:=
 let e:=y.2.2.2.1
 let a:=x.1
 let b:=decide (a<y.2.2.2.2.1)
 let c:=nth e a Z71
 let d:=cond (cond (cond (decide (c.1<(-16777216))) true (decide (c.1>16777216))) true (decide (c.2.1<(-16777216)))) true (decide (c.2.1>16777216))
 (b=true->InB a (len e)/\((!d)=true->InR (a+1)),b&&(!d),(a+1,()),b&&d,!b)
def tE4 y x:=(uV6 y x).1
def vC0 y x:=(uV6 y x).2.1
def wL0 y x:=(uV6 y x).2.2.1
def tE5 y x:=(uV6 y x).2.2.2.1
def tE6 y x:=(uV6 y x).2.2.2.2
def tK7 (y:vK8)(x:wU8):Int:=
 (2:Int)
def sU5:List (Nat×Sh):=[(31,Ai),(32,vI),(33,vI)]
def tK8:St->Option Out:=xT3 [(31,Ai),(32,vI),(33,vI),(37,As),(38,vI)] [(39,vI)] vC0 wL0 tE4 λy x=>[ex 1 (some (tE5 y x)) [(4,vI)] ((tK7 y x),()),ex 6 (some (tE6 y x)) sU5 (y.1,y.2.1,y.2.2.1,())]
abbrev vK9:Type:=((List (List D71))×Int×Unit)
abbrev wU9:Type:=(Int×Unit)
def uV7 (y:vK9)(x:wU9):Prop×Bool×wU9×Bool×Bool:=
 let e:=y.1
 let h:=y.2.1
 let b:=x.1
 let d:=decide (b<h)
 let g:=nth e b ([]:List D71)
 let a:=(e,h,b,g,len g,())
 let i:=((0:Int),())
 let f:=zB9 (vC0 a) (wL0 a) i
 let c:=tE6 a f
 (d=true->InB b (len e)/\Am.Ends (vC0 a) (wL0 a) (tE4 a) i/\(c=true->InR (b+1)),d&&c,(b+1,()),d&&tE5 a f,!d)
def uK9 y x:=(uV7 y x).1
def vC1 y x:=(uV7 y x).2.1
def wL1 y x:=(uV7 y x).2.2.1
def uL y x:=(uV7 y x).2.2.2.1
def pI2 y x:=(uV7 y x).2.2.2.2
def tK9 (y:vK9)(x:wU9):Int:=
 let c:=y.1
 let d:=x.1
 let b:=nth c d ([]:List D71)
 let a:=(c,y.2.1,d,b,len b,())
 (tK7 a (zB9 (vC0 a) (wL0 a) ((0:Int),())))
def tL:St->Option Out:=xT3 [(31,Ai),(32,vI)] [(33,vI)] vC1 wL1 uK9 λy x=>[ex 1 (some (uL y x)) [(4,vI)] ((tK9 y x),()),ex 4 (some (pI2 y x)) [] ()]
def f80t (p0:(List (List D71)))(p1:Int):Prop×Int:=
 let e:=cond (p1 !=0) (p1 !=1) false
 let b:=(p0,p0,len p0,())
 let g:=((0:Int),(0:Int),())
 let f:=zB9 (vG5 b) (wM0 b) g
 let a:=(p0,len p0,())
 let d:=((0:Int),())
 let c:=zB9 (vC1 a) (wL1 a) d
 ((!e)=true->Am.Ends (vG5 b) (wM0 b) (rS1 b) g/\(uV5 b f=true->Am.Ends (vC1 a) (wL1 a) (uK9 a) d),cond e (8:Int) (cond (uE9 b f) (sE8 b f) (cond (uL a c) (tK9 a c) (0:Int))))
def sU6 p0 p1:=(f80t p0 p1).1
def f80 p0 p1:=(f80t p0 p1).2
def tX8:=sp2 Ai vI vI sU6 f80
def rD9:=Cy [] [(5,sE9),(15,tK8),(12,tL)] [] 63
theorem rE:CtxOk Tryz.prog rD9:=cq trivial
noncomputable def qQ5:Code:=Tryz.f80.body.getD .skip
noncomputable def nI3:Code:=wB4 qQ5 0
theorem pX2:yX7 Tryz.prog rD9 nI3:=lq rE (sp:=sE9) rfl [[(4,vI)],[(0,Ai)]]
noncomputable def qE9:Code:=wB4 qQ5 1
noncomputable def pX3:Code:=wB4 qE9 0
theorem pI3:yX7 Tryz.prog rD9 pX3:=lq rE (sp:=tK8) rfl [[(4,vI)],sU5]
theorem pI4:yX7 Tryz.prog rD9 qE9:=lm rE (sp:=tL) rfl [[(4,vI)],[]] (bs:=[pX3]) ⟨pI3,trivial⟩
theorem pX4:SK 80 tX8:=fl rE Tryz.func80 (bs:=[nI3,qE9]) ⟨pX2,pI4,trivial⟩
def mO2 (p0:Int)(p1:Int)(p2:Int):Prop×Int:=
 let a:=cond (cond (decide (p0<1)) true (decide (p0>4096))) (2:Int) (cond (cond (decide (p1<0)) true (decide (p1>2))) (8:Int) (cond (cond (decide (p2<0)) true (decide (p2>2))) (8:Int) (0:Int)))
 (True,a)
def qF p0 p1 p2:=(mO2 p0 p1 p2).1
def f122 p0 p1 p2:=(mO2 p0 p1 p2).2
def rS2:=sp3 vI vI vI vI qF f122
def oW5:=Cy [] [] [] 25
theorem nS0:SK 122 rS2:=fq (c:=oW5) Tryz.func122 trivial
abbrev uF:Type:=(Bool×(List D71)×Int×Unit)
abbrev vL:Type:=((List D71)×Int×Unit)
def tX9 (y:uF)(x:vL):Prop×Bool×vL:=
 let j:=y.2.1
 let b:=x.1
 let a:=x.2.1
 let i:=decide (a<y.2.2.1)
 let h:=nth j a Z71
 let c:=len b==0
 let f:=len b
 let d:=f-1
 let g:=cond c true (!(Ty.eqb T71 h (nth b d Z71)))
 let e:=([h]:List D71)
 (i=true->InB a (len j)/\((!c)=true->InR (f-1))/\((!c)=true->InB d (len b))/\(g=true->((List.length b+List.length e:Nat):Int)<=4294967296)/\InR (a+1),i,(cond g (b++e) b,a+1,()))
def uL0 y x:=(tX9 y x).1
def vC2 y x:=(tX9 y x).2.1
def wI9 y x:=(tX9 y x).2.2
def tL0 (y:uF)(x:vL):(List D71):=
 x.1
def sU7:List (Nat×Sh):=[(1,vB),(5,Bb)]
def tL1:St->Option Out:=xT3 [(1,vB),(8,As),(9,vI)] [(5,Bb),(10,vI)] vC2 wI9 uL0 λy x=>[ex 2 none sU7 (y.1,(tL0 y x),())]
abbrev uF0:Type:=(Bool×Unit)
abbrev wV:Type:=((List D71)×Unit)
def rE0 (y:uF0)(x:wV):Prop×Bool×wV:=
 let b:=x.1
 let a:=cond (!y.1) (decide (len b>1)) false
 let d:=len b
 let e:=d-1
 let f:=cond a (Ty.eqb T71 (nth b e Z71) (nth b (0:Int) Z71)) false
 let g:=len b
 let c:=g-1
 ((a=true->InR (d-1))/\(a=true->InB e (len b))/\(a=true->InB (0:Int) (len b))/\(f=true->InR (g-1)/\0<=c/\c<=len b),f,(List.take (Int.toNat c) b,()))
def uL1 y x:=(rE0 y x).1
def vL0 y x:=(rE0 y x).2.1
def wL2 y x:=(rE0 y x).2.2
def tL2 (y:uF0)(x:wV):(List D71):=
 x.1
def tL3:St->Option Out:=xT3 [(1,vB)] [(5,As)] vL0 wL2 uL1 λy x=>[ex 4 none [(5,As)] ((tL2 y x),())]
def mO3 (p0:List D71)(p1:Bool):Prop×(List D71):=
 let a:=(p1,p0,len p0,())
 let d:=(([]:List D71),(0:Int),())
 let b:=(p1,())
 let c:=(tL0 a (zB9 (vC2 a) (wI9 a) d),())
 (Am.Ends (vC2 a) (wI9 a) (uL0 a) d/\Am.Ends (vL0 b) (wL2 b) (uL1 b) c,tL2 b (zB9 (vL0 b) (wL2 b) c))
def qF0 p0 p1:=(mO3 p0 p1).1
def f151 p0 p1:=(mO3 p0 p1).2
def rS3:=sp2 As vB As qF0 f151
def rE1:=Cy [] [(3,tL1),(8,tL3)] [(13,[(4,0,30,1005)])] 57
theorem rE2:CtxOk Tryz.prog rE1:=cq trivial
noncomputable def rS4:Code:=Tryz.f151.body.getD .skip
noncomputable def pX5:Code:=wB4 rS4 0
theorem pI5:yX7 Tryz.prog rE1 pX5:=lq rE2 (sp:=tL1) rfl [sU7]
noncomputable def pX6:Code:=wB4 rS4 1
theorem pI6:yX7 Tryz.prog rE1 pX6:=lq rE2 (sp:=tL3) rfl [[(5,As)]]
theorem nS1:SK 151 rS3:=fl rE2 Tryz.func151 (bs:=[pX5,pX6]) ⟨pI5,pI6,trivial⟩
def mO4 (p0:D71)(p1:D71):Prop×D71:=
 (True,(IntKind.wrap .i64 (p0.1-p1.1),IntKind.wrap .i64 (p0.2.1-p1.2.1),()))
def wS5 p0 p1:=(mO4 p0 p1).1
def f156 p0 p1:=(mO4 p0 p1).2
def uF1:=sp2 Al Al Al wS5 f156
def oW6:=Cz [] [] [] 16
theorem rE3:SK 156 uF1:=fq (c:=oW6) Tryz.func156 trivial
def nS2 (p0:Int)(p1:Int):Prop×(Int×Int×Unit):=
 let d:=wC4 .u64 p0 (4294967295:Int)
 let e:=wC5 p0 (32:Int) 64
 let c:=wC4 .u64 p1 (4294967295:Int)
 let a:=wC5 p1 (32:Int) 64
 let b:=IntKind.wrap .u64 (IntKind.wrap .u64 (e*c)+wC5 (IntKind.wrap .u64 (d*c)) (32:Int) 64)
 let f:=IntKind.wrap .u64 (IntKind.wrap .u64 (IntKind.wrap .u64 (e*a)+wC5 b (32:Int) 64)+wC5 (IntKind.wrap .u64 (wC4 .u64 b (4294967295:Int)+IntKind.wrap .u64 (d*a))) (32:Int) 64)
 (True,(f,IntKind.wrap .u64 (p0*p1),()))
def sF p0 p1:=(nS2 p0 p1).1
def f206 p0 p1:=(nS2 p0 p1).2
def rS5:=sp2 An An (.tup (.cons An (.cons An .nl))) sF f206
def oW7:=Cz [] [] [] 51
theorem nS3:SK 206 rS5:=fq (c:=oW7) Tryz.func206 trivial
def mO5 (p0:Int):Prop×Int:=
 (True,cond (decide (p0<0)) (IntKind.wrap .u64 (Int.sub 0 (IntKind.wrap .u64 p0))) (IntKind.wrap .u64 p0))
def tE7 p0:=(mO5 p0).1
def f207 p0:=(mO5 p0).2
def rS6:=sp1 vI An tE7 f207
def oW8:=Cz [] [] [] 10
theorem nS4:SK 207 rS6:=fq (c:=oW8) Tryz.func207 trivial
abbrev vT8:Type:=(Int×Int×Unit)
abbrev vL1:Type:=(Int×Int×Unit)
def rE4 (y:vT8)(x:vL1):Prop×Bool×vL1:=
 let f:=y.1
 let e:=x.1
 let b:=x.2.1
 let d:=b !=0
 let a:=ior .u64 e b
 let c:=f206 a a
 (d=true->sF a a,d,(cond (cond (decide (c.1<f)) true (cond (c.1==f) (decide (c.2.1<=y.2.1)) false)) a e,wC5 b (1:Int) 64,()))
def uL2 y x:=(rE4 y x).1
def vL2 y x:=(rE4 y x).2.1
def wJ y x:=(rE4 y x).2.2
def tL4 (y:vT8)(x:vL1):Int:=
 x.1
def tL5:St->Option Out:=xT3 [(5,An),(6,An)] [(10,An),(11,An)] vL2 wJ uL2 λy x=>[ex 2 none [(10,An)] ((tL4 y x),())]
def nS5 (p0:Int)(p1:Int):Prop×Int:=
 let h:=f207 p0
 let i:=f207 p0
 let d:=f206 h i
 let f:=f207 p1
 let g:=f207 p1
 let c:=f206 f g
 let b:=(((Int.toNat d.2.1+Int.toNat c.2.1+Int.toNat (0:Int)) / 18446744073709551616:Nat):Int)
 let e:=((((Int.toNat d.1+Int.toNat c.1+Int.toNat b) % 18446744073709551616:Nat):Int),(((Int.toNat d.2.1+Int.toNat c.2.1+Int.toNat (0:Int)) % 18446744073709551616:Nat):Int),())
 let j:=((0:Int),(9223372036854775808:Int),())
 let a:=tL4 e (zB9 (vL2 e) (wJ e) j)
 (tE7 p0/\tE7 p0/\sF h i/\tE7 p1/\tE7 p1/\sF f g/\(0<=(0:Int)/\(0:Int)<=1)/\(0<=b/\b<=1)/\Am.Ends (vL2 e) (wJ e) (uL2 e) j,cond (decide (a>9223372036854775807)) (9223372036854775807:Int) (IntKind.wrap .i64 a))
def rE5 p0 p1:=(nS5 p0 p1).1
def f194 p0 p1:=(nS5 p0 p1).2
def sF0:=sp2 vI vI vI rE5 f194
def qQ6:Ctx:={ Cx tys [(206,rS5),(207,rS6)] [(7,tL5)] [] true 73 [] [] with exts:=[(208,xA6)] }
theorem qQ7:CtxOk Tryz.prog qQ6:=xZ qN6 rfl ⟨nS3,nS4,trivial⟩ ⟨nN1,trivial⟩ (by kernel_rfl)
noncomputable def pX7:Code:=Tryz.f194.body.getD .skip
noncomputable def pX8:Code:=wB4 pX7 0
theorem pI7:yX7 Tryz.prog qQ6 pX8:=lq qQ7 (sp:=tL5) rfl [[(10,An)]]
theorem pX9:SK 194 sF0:=fl qQ7 Tryz.func194 (bs:=[pX8]) ⟨pI7,trivial⟩
def mO6 (p0:D71)(p1:D71)(p2:Int):Prop×D156:=
 let b:=f156 p1 p0
 let d:=IntKind.wrap .i64 (16*b.1)
 let h:=IntKind.wrap .i64 (16*b.2.1)
 let a:=f194 d h
 let e:=IntKind.wrap .i64 (IntKind.wrap .i64 ((-8)*p2)*b.2.1)
 let c:=IntKind.wrap .i64 (IntKind.wrap .i64 (8*p2)*b.1)
 let g:=IntKind.wrap .i64 (IntKind.wrap .i64 (8*p2)*b.1)
 let f:=IntKind.wrap .i64 (IntKind.wrap .i64 (8*p2)*b.2.1)
 (wS5 p1 p0/\rE5 d h/\wH8 e a/\wH8 c a/\wH8 g a/\wH8 f a,(p0,p1,b,(f35 e a,f35 c a,()),(f35 g a,f35 f a,()),()))
def rE6 p0 p1 p2:=(mO6 p0 p1 p2).1
def f190 p0 p1 p2:=(mO6 p0 p1 p2).2
def rS7:=sp3 Al Al vI Cj rE6 f190
def oW9:=Cz [(35,wS0),(156,uF1),(194,sF0)] [] [] 53
theorem nS6:SK 190 rS7:=fq (c:=oW9) Tryz.func190 ⟨uD9,rE3,pX9,trivial⟩
abbrev uF2:Type:=((List D71)×Bool×Int×Unit)
abbrev vL3:Type:=((List D156)×Int×Unit)
def tY (y:uF2)(x:vL3):Prop×Bool×vL3:=
 let g:=y.1
 let h:=y.2.2.1
 let i:=x.1
 let a:=x.2.1
 let c:=decide (a<len g)
 let e:=a-1
 let f:=nth g e Z71
 let b:=nth g a Z71
 let d:=([f190 f b h]:List D156)
 (c=true->InR (a-1)/\InB e (len g)/\InB a (len g)/\rE6 f b h/\((List.length i+List.length d:Nat):Int)<=4294967296/\InR (a+1),c,(i++d,a+1,()))
def uL3 y x:=(tY y x).1
def wJ0 y x:=(tY y x).2.1
def wE1 y x:=(tY y x).2.2
def vQ2 (y:uF2)(x:vL3):(List D156):=
 x.1
def sU8:List (Nat×Sh):=[(0,As),(1,vB),(2,vI),(7,Bf)]
def tL6:St->Option Out:=xT3 [(0,As),(1,vB),(2,vI)] [(7,Bf),(8,vI)] wJ0 wE1 uL3 λy x=>[ex 2 none sU8 (y.1,y.2.1,y.2.2.1,(vQ2 y x),())]
def nS7 (p0:List D71)(p1:Bool)(p2:Int):Prop×(List D156):=
 let b:=(p0,p1,p2,())
 let i:=(([]:List D156),(1:Int),())
 let a:=vQ2 b (zB9 (wJ0 b) (wE1 b) i)
 let g:=cond (!p1) (decide (len p0>1)) false
 let c:=len p0
 let d:=c-1
 let f:=nth p0 d Z71
 let h:=nth p0 (0:Int) Z71
 let e:=([f190 f h p2]:List D156)
 (Am.Ends (wJ0 b) (wE1 b) (uL3 b) i/\(g=true->InR (c-1)/\InB d (len p0)/\InB (0:Int) (len p0)/\rE6 f h p2/\((List.length a+List.length e:Nat):Int)<=4294967296),cond g (a++e) a)
def qF1 p0 p1 p2:=(nS7 p0 p1 p2).1
def f152 p0 p1 p2:=(nS7 p0 p1 p2).2
def rS8:=sp3 As vB vI (.own T156 0 false) qF1 f152
def qQ8:=Cy [(190,rS7)] [(3,tL6)] [(11,[(4,0,28,1007)]),(15,[(4,0,49,1007)]),(17,[(4,0,1007,0)])] 51
theorem qQ9:CtxOk Tryz.prog qQ8:=cq ⟨nS6,trivial⟩
noncomputable def pY:Code:=Tryz.f152.body.getD .skip
noncomputable def pY0:Code:=wB4 pY 0
theorem pI8:yX7 Tryz.prog qQ8 pY0:=lq qQ9 (sp:=tL6) rfl [sU8]
theorem nS8:SK 152 rS8:=fl qQ9 Tryz.func152 (bs:=[pY0]) ⟨pI8,trivial⟩
abbrev uF3:Type:=((List D71)×(List D71)×Int×Unit)
abbrev vL4:Type:=(Int×Int×Unit)
def tY0 (y:uF3)(x:vL4):Prop×Bool×vL4:=
 let g:=y.1
 let h:=y.2.1
 let d:=x.2.1
 let a:=decide (d<y.2.2.1)
 let c:=nth h d Z71
 let e:=len g
 let f:=Int.tmod (IntKind.wrap .i64 (d+1)) e
 let b:=nth g f Z71
 (a=true->InB d (len h)/\e≠0/\InB f (len g),a,(IntKind.wrap .i64 (x.1+IntKind.wrap .i64 (IntKind.wrap .i64 (c.1*b.2.1)-(IntKind.wrap .i64 (b.1*c.2.1)))),IntKind.wrap .i64 (d+1),()))
def sU9 y x:=(tY0 y x).1
def sF1 y x:=(tY0 y x).2.1
def vQ3 y x:=(tY0 y x).2.2
def tL7 (y:uF3)(x:vL4):Int:=
 x.1
def tL8:St->Option Out:=xT3 [(0,As),(7,As),(8,vI)] [(3,vI),(9,vI)] sF1 vQ3 sU9 λy x=>[ex 2 none [(3,vI)] ((tL7 y x),())]
def mO7 (p0:List D71):Prop×Int:=
 let a:=(p0,p0,len p0,())
 let b:=((0:Int),(0:Int),())
 (Am.Ends (sF1 a) (vQ3 a) (sU9 a) b,tL7 a (zB9 (sF1 a) (vQ3 a) b))
def qF2 p0:=(mO7 p0).1
def f192 p0:=(mO7 p0).2
def rS9:=sp1 As vI qF2 f192
def qR:=Cz [] [(3,tL8)] [] 37
theorem qR0:CtxOk Tryz.prog qR:=cq trivial
noncomputable def pY1:Code:=Tryz.f192.body.getD .skip
noncomputable def pY2:Code:=wB4 pY1 0
theorem pI9:yX7 Tryz.prog qR pY2:=lq qR0 (sp:=tL8) rfl [[(3,vI)]]
theorem nS9:SK 192 rS9:=fl qR0 Tryz.func192 (bs:=[pY2]) ⟨pI9,trivial⟩
def f193 (_p0:List D71):Unit:=()
def qR1 (p0:List D71):(List D71)×Unit:=(List.reverse p0,())
def qF3 (_p0:List D71):Prop:=True
instance (p0:List D71):Decidable (qF3 p0):=isTrue trivial
def nT:List (Nat×Sh):=[(0,Ax)]
def nT0:Sh:=(.tup .nl)
def nT1:List (Nat×Sh):=[(0,Ax)]
def rT:Am.Spec:=fnSpec nT nT0 nT1 (λx=>qF3 x.1) (λx=>f193 x.1) (λx=>qR1 x.1)
theorem nT2:SpecOk Tryz.prog 193 rT:=oU0 (by decide) rfl ⟨_,Tryz.func193,by kernel_rfl,by decide⟩ mM
def mO8 (p0:D71)(p1:D71):Prop×D71:=
 (True,(IntKind.wrap .i64 (p0.1+p1.1),IntKind.wrap .i64 (p0.2.1+p1.2.1),()))
def wM1 p0 p1:=(mO8 p0 p1).1
def f155 p0 p1:=(mO8 p0 p1).2
def vT9:=sp2 Al Al Al wM1 f155
def oX:=Cz [] [] [] 16
theorem sF2:SK 155 vT9:=fq (c:=oX) Tryz.func155 trivial
def mO9 (p0:Int):Prop×Int:=
 let a:=IntKind.wrap .i64 (Int.tdiv p0 (256:Int))
 let d:=decide (a≥64)
 let c:=IntKind.wrap .i64 (a+1)
 let b:=IntKind.wrap .i64 (IntKind.wrap .i64 (nth G5 c (0:Int)-(nth G5 a (0:Int)))*IntKind.wrap .i64 (p0-(IntKind.wrap .i64 (256*a))))
 ((d=true->InB (64:Int) 65)/\((!d)=true->InB a 65/\InB c 65/\InB a 65/\wH8 b (256:Int)),cond d (nth G5 (64:Int) (0:Int)) (IntKind.wrap .i64 (nth G5 a (0:Int)+f35 b (256:Int))))
def tE8 p0:=(mO9 p0).1
def f225 p0:=(mO9 p0).2
def rT0:=sp1 vI vI tE8 f225
def oX0:=Cz [(35,wS0)] [] [] 28
theorem nT3:SK 225 rT0:=fq (c:=oX0) Tryz.func225 ⟨uD9,trivial⟩
def nT4 (p0:Int):Prop×Int:=
 let h:=IntKind.wrap .i64 (Int.tdiv p0 (16384:Int))
 let a:=IntKind.wrap .i64 (p0-(IntKind.wrap .i64 (16384*h)))
 let b:=h==0
 let c:=h==1
 let f:=IntKind.wrap .i64 (16384-a)
 let d:=h==2
 let g:=IntKind.wrap .i64 (16384-a)
 let e:=cond (cond b true (cond c true d)) (cond b (f225 a) (cond c (f225 f) (IntKind.wrap .i64 (Int.sub 0 (f225 a))))) (IntKind.wrap .i64 (Int.sub 0 (f225 g)))
 ((b=true->tE8 a)/\(b=false->(c=true->tE8 f)/\(c=false->d=true->tE8 a))/\((((!d)&&(!c))&&(!b))=true->tE8 g),e)
def tE9 p0:=(nT4 p0).1
def f219 p0:=(nT4 p0).2
def rT1:=sp1 vI vI tE9 f219
def oX1:=Cz [(225,rT0)] [] [] 30
theorem nT5:SK 219 rT1:=fq (c:=oX1) Tryz.func219 ⟨nT3,trivial⟩
def mP (p0:Int):Prop×(Int×Int×Unit):=
 let b:=wC4 .i64 p0 (65535:Int)
 let a:=Int.tmod (IntKind.wrap .i64 (b+16384)) (65536:Int)
 (tE9 b/\tE9 a,(f219 b,f219 a,()))
def qF4 p0:=(mP p0).1
def f205 p0:=(mP p0).2
def rT2:=sp1 vI (.tup (.cons vI (.cons vI .nl))) qF4 f205
def oX2:=Cz [(219,rT1)] [] [] 13
theorem nT6:SK 205 rT2:=fq (c:=oX2) Tryz.func205 ⟨nT5,trivial⟩
abbrev uF4:Type:=(Int×D71×Int×Unit)
abbrev vC3:Type:=((List D71)×Int×Unit)
def tY1 (y:uF4)(x:vC3):Prop×Bool×vC3:=
 let i:=y.1
 let h:=y.2.1
 let g:=x.1
 let a:=x.2.1
 let b:=decide (a<y.2.2.1)
 let f:=IntKind.wrap .i64 (4096*a)
 let e:=f205 f
 let c:=IntKind.wrap .i64 (i*e.2.1)
 let d:=IntKind.wrap .i64 (i*e.1)
 let s:=(f35 c (131072:Int),f35 d (131072:Int),())
 (b=true->qF4 f/\wH8 c (131072:Int)/\wH8 d (131072:Int)/\wM1 h s/\InB a (len g)/\a<len g,b,(List.set g (Int.toNat a) (f155 h s),IntKind.wrap .i64 (a+1),()))
def vJ1 y x:=(tY1 y x).1
def wN9 y x:=(tY1 y x).2.1
def wD3 y x:=(tY1 y x).2.2
def vQ4 (y:uF4)(x:vC3):(List D71):=
 x.1
def tL9:St->Option Out:=xT3 [(1,vI),(2,Bj),(11,vI)] [(5,Ck),(12,vI)] wN9 wD3 vJ1 λy x=>[ex 2 none [(5,Ck)] ((vQ4 y x),())]
def oX3 (p0:D71)(p1:Int):Prop×(List D71):=
 let c:=List.replicate (Int.toNat (16:Int)) Z71
 let a:=(p1,p0,len c,())
 let b:=(c,(0:Int),())
 ((0<=(16:Int)/\(16:Int)<=(16:Int)/\(16:Int)<=4294967296)/\Am.Ends (wN9 a) (wD3 a) (vJ1 a) b,vQ4 a (zB9 (wN9 a) (wD3 a) b))
def tF p0 p1:=(oX3 p0 p1).1
def f191 p0 p1:=(oX3 p0 p1).2
def uV8:=sp2 Al vI Cs tF f191
def qR2:Ctx:=Cx tys [(35,wS0),(155,vT9),(205,rT2)] [(3,tL9)] [(3,[(4,0,9,1005)]),(17,[(4,0,1005,0)])] true 37 [] [9]
theorem qR3:CtxOk Tryz.prog qR2:=cq ⟨uD9,sF2,nT6,trivial⟩
noncomputable def pY3:Code:=Tryz.f191.body.getD .skip
noncomputable def pY4:Code:=wB4 pY3 0
theorem pJ:yX7 Tryz.prog qR2 pY4:=lq qR3 (sp:=tL9) rfl [[(5,Ck)]]
theorem qF5:SK 191 uV8:=fl qR3 Tryz.func191 (bs:=[pY4]) ⟨pJ,trivial⟩
def tY2 (p0:(Int×Int×Int×(List (List D71))×Int×Unit))(p1:List D71):Prop×(Unit)×((Int×Int×Int×(List (List D71))×Int×Unit)×Unit):=
 let e:=f192 p1
 let a:=e==0
 let b:=decide (e<0)
 let d:=cond b (qR1 p1).1 p1
 let c:=([d]:List (List D71))
 let s:=(cond a p0.1 p0.1,cond a p0.2.1 p0.2.1,cond a p0.2.2.1 p0.2.2.1,cond a p0.2.2.2.1 (p0.2.2.2.1++c),cond a p0.2.2.2.2.1 (IntKind.wrap .i64 (p0.2.2.2.2.1+len d)),())
 (qF2 p1/\((!a)=true->(b=true->qF3 p1/\0<List.length p1/\List.length p1=List.length p1/\List.length p1=List.length p1/\List.length p1=List.length p1)/\((List.length p0.2.2.2.1+List.length c:Nat):Int)<=4294967296),(),(s,()))
def wE5 p0 p1:=(tY2 p0 p1).1
def nT7 p0 p1:=(tY2 p0 p1).2.1
def wC7 p0 p1:=(tY2 p0 p1).2.2
def vC4:Am.Spec:=fnSpec [(0,Aa),(1,(.own T71 400100 true))] (.tup .nl) [(0,Aa)] (λx=>wE5 x.1 x.2.1) (λx=>nT7 x.1 x.2.1) (λx=>wC7 x.1 x.2.1)
def qF6:Ctx:={ Cx tys [(192,rS9),(193,rT)] [] [(8,[(1,1,0,0)]),(9,[(4,0,20,400000)])] true 32 [0] [] with wants:=[(193,[0])] }
theorem uL4:SK 154 vC4:=fq (c:=qF6) Tryz.func154 ⟨nS9,nT2,trivial⟩
def tY3 (p0:(Int×Int×Int×(List (List D71))×Int×Unit))(p1:D71):Prop×(Unit)×((Int×Int×Int×(List (List D71))×Int×Unit)×Unit):=
 let d:=p0.2.2.1==1
 let i:=f191 p1 p0.1
 let f:=(p0.1,p0.2.1,p0.2.2.1,p0.2.2.2.1,p0.2.2.2.2.1,())
 let b:=wC7 f i
 let e:=p0.2.2.1==2
 let a:=f35 p0.1 (2:Int)
 let m:=(IntKind.wrap .i64 (Int.sub 0 a),IntKind.wrap .i64 (Int.sub 0 a),())
 let k:=(a,IntKind.wrap .i64 (Int.sub 0 a),())
 let g:=(a,a,())
 let l:=(IntKind.wrap .i64 (Int.sub 0 a),a,())
 let j:=([f155 p1 m,f155 p1 k,f155 p1 g,f155 p1 l]:List D71)
 let h:=(p0.1,p0.2.1,p0.2.2.1,p0.2.2.2.1,p0.2.2.2.2.1,())
 let c:=wC7 h j
 let n:=(cond d b.1.1 (cond e c.1.1 p0.1),cond d b.1.2.1 (cond e c.1.2.1 p0.2.1),cond d b.1.2.2.1 (cond e c.1.2.2.1 p0.2.2.1),cond d b.1.2.2.2.1 (cond e c.1.2.2.2.1 p0.2.2.2.1),cond d b.1.2.2.2.2.1 (cond e c.1.2.2.2.2.1 p0.2.2.2.2.1),())
 ((d=true->tF p1 p0.1/\wE5 f i)/\(d=false->e=true->wH8 p0.1 (2:Int)/\wM1 p1 m/\wM1 p1 k/\wM1 p1 g/\wM1 p1 l/\wE5 h j),(),(n,()))
def tF0 p0 p1:=(tY3 p0 p1).1
def nT8 p0 p1:=(tY3 p0 p1).2.1
def vL5 p0 p1:=(tY3 p0 p1).2.2
def tM:Am.Spec:=fnSpec [(0,Aa),(1,Al)] (.tup .nl) [(0,Aa)] (λx=>tF0 x.1 x.2.1) (λx=>nT8 x.1 x.2.1) (λx=>vL5 x.1 x.2.1)
def qF7:Ctx:={ Cx tys [(35,wS0),(154,vC4),(155,vT9),(191,uV8)] [] [] true 53 [0] [51] with wants:=[(154,[1])] }
theorem pJ0:SK 153 tM:=fq (c:=qF7) Tryz.func153 ⟨uD9,uL4,sF2,qF5,trivial⟩
def tY4 (p0:(Int×Int×Int×(List (List D71))×Int×Unit))(p1:D156)(p2:D156):Prop×(Unit)×((Int×Int×Int×(List (List D71))×Int×Unit)×Unit):=
 let e:=p0.2.1==1
 let w:=f191 p2.1 p0.1
 let E:=(p0.1,p0.2.1,p0.2.2.1,p0.2.2.2.1,p0.2.2.2.2.1,())
 let f:=wC7 E w
 let F:=([p2.1,f155 p2.1 p1.2.2.2.1,f155 p2.1 p2.2.2.2.1]:List D71)
 let H:=(p0.1,p0.2.1,p0.2.2.1,p0.2.2.2.1,p0.2.2.2.2.1,())
 let g:=wC7 H F
 let A:=([p2.1,f156 p2.1 p1.2.2.2.1,f156 p2.1 p2.2.2.2.1]:List D71)
 let B:=(g.1.1,g.1.2.1,g.1.2.2.1,g.1.2.2.2.1,g.1.2.2.2.2.1,())
 let a:=wC7 B A
 let z:=IntKind.wrap .i64 (IntKind.wrap .i64 (p1.2.2.1.1*p2.2.2.1.2.1)-(IntKind.wrap .i64 (p1.2.2.1.2.1*p2.2.2.1.1)))
 let u:=IntKind.wrap .i64 (a.1.1*a.1.1)
 let k:=IntKind.wrap .i64 (u+IntKind.wrap .i64 (4*IntKind.wrap .i64 (IntKind.wrap .i64 (p1.2.2.2.1.1*p2.2.2.2.1.1)+IntKind.wrap .i64 (p1.2.2.2.1.2.1*p2.2.2.2.1.2.1))))
 let i:=cond (cond (a.1.2.1==2) true (z==0)) true (decide (k<=0))
 let n:=IntKind.wrap .i64 (u*IntKind.wrap .i64 (p1.2.2.2.1.1+p2.2.2.2.1.1))
 let j:=f35 n k
 let o:=IntKind.wrap .i64 (u*IntKind.wrap .i64 (p1.2.2.2.1.2.1+p2.2.2.2.1.2.1))
 let h:=f35 o k
 let m:=(j,h,())
 let q:=decide (f194 j h>IntKind.wrap .i64 (4*a.1.1))
 let c:=decide (z>0)
 let r:=([p2.1,f156 p2.1 p1.2.2.2.1,f156 p2.1 m,f156 p2.1 p2.2.2.2.1]:List D71)
 let v:=(a.1.1,a.1.2.1,a.1.2.2.1,a.1.2.2.2.1,a.1.2.2.2.2.1,())
 let b:=wC7 v r
 let t:=([p2.1,f155 p2.1 p1.2.2.2.1,f155 p2.1 m,f155 p2.1 p2.2.2.2.1]:List D71)
 let s:=(a.1.1,a.1.2.1,a.1.2.2.1,a.1.2.2.2.1,a.1.2.2.2.2.1,())
 let d:=wC7 s t
 let l:=e||((!e)&&(i||((!i)&&q)))
 let C:=(cond l (cond e f.1.1 a.1.1) (cond c b.1.1 d.1.1),cond l (cond e f.1.2.1 a.1.2.1) (cond c b.1.2.1 d.1.2.1),cond l (cond e f.1.2.2.1 a.1.2.2.1) (cond c b.1.2.2.1 d.1.2.2.1),cond l (cond e f.1.2.2.2.1 a.1.2.2.2.1) (cond c b.1.2.2.2.1 d.1.2.2.2.1),cond l (cond e f.1.2.2.2.2.1 a.1.2.2.2.2.1) (cond c b.1.2.2.2.2.1 d.1.2.2.2.2.1),())
 ((e=true->tF p2.1 p0.1/\wE5 E w)/\((!e)=true->wM1 p2.1 p1.2.2.2.1/\wM1 p2.1 p2.2.2.2.1/\wE5 H F/\wS5 p2.1 p1.2.2.2.1/\wS5 p2.1 p2.2.2.2.1/\wE5 B A/\((!i)=true->wH8 n k/\wH8 o k/\rE5 j h/\((!q)=true->(c=true->wS5 p2.1 p1.2.2.2.1/\wS5 p2.1 m/\wS5 p2.1 p2.2.2.2.1/\wE5 v r)/\(c=false->wM1 p2.1 p1.2.2.2.1/\wM1 p2.1 m/\wM1 p2.1 p2.2.2.2.1/\wE5 s t)))),(),(C,()))
def vJ2 p0 p1 p2:=(tY4 p0 p1 p2).1
def nT9 p0 p1 p2:=(tY4 p0 p1 p2).2.1
def wJ1 p0 p1 p2:=(tY4 p0 p1 p2).2.2
def tM0:Am.Spec:=fnSpec [(0,Aa),(1,Cj),(2,Cj)] (.tup .nl) [(0,Aa)] (λx=>vJ2 x.1 x.2.1 x.2.2.1) (λx=>nT9 x.1 x.2.1 x.2.2.1) (λx=>wJ1 x.1 x.2.1 x.2.2.1)
def qF8:Ctx:={ Cx tys [(35,wS0),(154,vC4),(155,vT9),(156,uF1),(191,uV8),(194,sF0)] [] [] true 161 [0] [40,50,146,159] with wants:=[(154,[1])] }
theorem pJ1:SK 157 tM0:=fq (c:=qF8) Tryz.func157 ⟨uD9,uL4,sF2,rE3,qF5,pX9,trivial⟩
def uV9 (p0:(Int×Int×Int×(List (List D71))×Int×Unit))(p1:D156)(p2:D156):Prop×(Unit)×((Int×Int×Int×(List (List D71))×Int×Unit)×Unit):=
 let e:=p0.2.2.1==1
 let k:=f191 p1.1 p0.1
 let i:=(p0.1,p0.2.1,p0.2.2.1,p0.2.2.2.1,p0.2.2.2.2.1,())
 let a:=wC7 i k
 let j:=f191 p2.2.1 a.1.1
 let o:=(a.1.1,a.1.2.1,a.1.2.2.1,a.1.2.2.2.1,a.1.2.2.2.2.1,())
 let d:=wC7 o j
 let f:=p0.2.2.1==2
 let h:=f156 p1.1 p1.2.2.2.2.1
 let n:=([f155 h p1.2.2.2.1,f155 p1.1 p1.2.2.2.1,f156 p1.1 p1.2.2.2.1,f156 h p1.2.2.2.1]:List D71)
 let q:=(p0.1,p0.2.1,p0.2.2.1,p0.2.2.2.1,p0.2.2.2.2.1,())
 let b:=wC7 q n
 let g:=f155 p2.2.1 p2.2.2.2.2.1
 let l:=([f155 p2.2.1 p2.2.2.2.1,f155 g p2.2.2.2.1,f156 g p2.2.2.2.1,f156 p2.2.1 p2.2.2.2.1]:List D71)
 let m:=(b.1.1,b.1.2.1,b.1.2.2.1,b.1.2.2.2.1,b.1.2.2.2.2.1,())
 let c:=wC7 m l
 let r:=(cond e d.1.1 (cond f c.1.1 p0.1),cond e d.1.2.1 (cond f c.1.2.1 p0.2.1),cond e d.1.2.2.1 (cond f c.1.2.2.1 p0.2.2.1),cond e d.1.2.2.2.1 (cond f c.1.2.2.2.1 p0.2.2.2.1),cond e d.1.2.2.2.2.1 (cond f c.1.2.2.2.2.1 p0.2.2.2.2.1),())
 ((e=true->tF p1.1 p0.1/\wE5 i k/\tF p2.2.1 a.1.1/\wE5 o j)/\(e=false->f=true->wS5 p1.1 p1.2.2.2.2.1/\wM1 h p1.2.2.2.1/\wM1 p1.1 p1.2.2.2.1/\wS5 p1.1 p1.2.2.2.1/\wS5 h p1.2.2.2.1/\wE5 q n/\wM1 p2.2.1 p2.2.2.2.2.1/\wM1 p2.2.1 p2.2.2.2.1/\wM1 g p2.2.2.2.1/\wS5 g p2.2.2.2.1/\wS5 p2.2.1 p2.2.2.2.1/\wE5 m l),(),(r,()))
def uL5 p0 p1 p2:=(uV9 p0 p1 p2).1
def nU p0 p1 p2:=(uV9 p0 p1 p2).2.1
def wV0 p0 p1 p2:=(uV9 p0 p1 p2).2.2
def tM1:Am.Spec:=fnSpec [(0,Aa),(1,Cj),(2,Cj)] (.tup .nl) [(0,Aa)] (λx=>uL5 x.1 x.2.1 x.2.2.1) (λx=>nU x.1 x.2.1 x.2.2.1) (λx=>wV0 x.1 x.2.1 x.2.2.1)
def qF9:Ctx:={ Cx tys [(154,vC4),(155,vT9),(156,uF1),(191,uV8)] [] [] true 85 [0] [57,83] with wants:=[(154,[1])] }
theorem pJ2:SK 158 tM1:=fq (c:=qF9) Tryz.func158 ⟨uL4,sF2,rE3,qF5,trivial⟩
abbrev vC5:Type:=(Bool×(List D156)×(List D156)×Int×Unit)
abbrev wL3:Type:=((Int×Int×Int×(List (List D71))×Int×Unit)×Int×Unit)
def uQ5 (y:vC5)(x:wL3):Prop×Bool×wL3:=
 let g:=y.2.2.1
 let h:=x.1
 let c:=x.2.1
 let f:=decide (c<y.2.2.2.1)
 let a:=nth g c Z156
 let e:=([f155 a.1 a.2.2.2.1,f155 a.2.1 a.2.2.2.1,f156 a.2.1 a.2.2.2.1,f156 a.1 a.2.2.2.1]:List D71)
 let d:=(h.1,h.2.1,h.2.2.1,h.2.2.2.1,h.2.2.2.2.1,())
 let b:=wC7 d e
 (f=true->InB c (len g)/\wM1 a.1 a.2.2.2.1/\wM1 a.2.1 a.2.2.2.1/\wS5 a.2.1 a.2.2.2.1/\wS5 a.1 a.2.2.2.1/\wE5 d e/\InR (c+1),f,((b.1.1,b.1.2.1,b.1.2.2.1,b.1.2.2.2.1,b.1.2.2.2.2.1,()),c+1,()))
def vG6 y x:=(uQ5 y x).1
def wG0 y x:=(uQ5 y x).2.1
def wE2 y x:=(uQ5 y x).2.2
def vL6 (y:vC5)(x:wL3):(Int×Int×Int×(List (List D71))×Int×Unit):=
 let a:=x.1
 (a.1,a.2.1,a.2.2.1,a.2.2.2.1,a.2.2.2.2.1,())
def uW:List (Nat×Sh):=[(0,Aa),(2,vB),(7,Bf)]
def uF5:St->Option Out:=xT3 [(2,vB),(7,Bf),(32,Bf),(33,vI)] [(0,Aa),(34,vI)] wG0 wE2 vG6 λy x=>[ex 2 none uW ((vL6 y x),y.1,y.2.1,())]
abbrev wV1:Type:=(Bool×(List D156)×Unit)
abbrev wJ2:Type:=((Int×Int×Int×(List (List D71))×Int×Unit)×Int×Unit)
def uF6 (y:wV1)(x:wJ2):Prop×Bool×wJ2:=
 let h:=y.2.1
 let i:=x.1
 let b:=x.2.1
 let d:=decide (b<len h)
 let g:=b-1
 let e:=nth h g Z156
 let f:=nth h b Z156
 let c:=(i.1,i.2.1,i.2.2.1,i.2.2.2.1,i.2.2.2.2.1,())
 let a:=wJ1 c e f
 (d=true->InR (b-1)/\InB g (len h)/\InB b (len h)/\vJ2 c e f/\InR (b+1),d,((a.1.1,a.1.2.1,a.1.2.2.1,a.1.2.2.2.1,a.1.2.2.2.2.1,()),b+1,()))
def vA6 y x:=(uF6 y x).1
def wE6 y x:=(uF6 y x).2.1
def wD7 y x:=(uF6 y x).2.2
def vF3 (y:wV1)(x:wJ2):(Int×Int×Int×(List (List D71))×Int×Unit):=
 let a:=x.1
 (a.1,a.2.1,a.2.2.1,a.2.2.2.1,a.2.2.2.2.1,())
def uP2:List (Nat×Sh):=[(0,Aa),(2,vB),(7,Bf)]
def uD:St->Option Out:=xT3 [(2,vB),(7,Bf)] [(0,Aa),(10,vI)] wE6 wD7 vA6 λy x=>[ex 4 none uP2 ((vF3 y x),y.1,y.2.1,())]
def uW0 (p0:(Int×Int×Int×(List (List D71))×Int×Unit))(p1:List D71)(p2:Bool):Prop×(Unit)×((Int×Int×Int×(List (List D71))×Int×Unit)×Unit):=
 let k:=f151 p1 p2
 let c:=f152 k p2 p0.1
 let g:=len c==0
 let h:=len k==1
 let t:=nth k (0:Int) Z71
 let A:=(p0.1,p0.2.1,p0.2.2.1,p0.2.2.2.1,p0.2.2.2.2.1,())
 let e:=vL5 A t
 let n:=(p2,c,c,len c,())
 let F:=((p0.1,p0.2.1,p0.2.2.1,p0.2.2.2.1,p0.2.2.2.2.1,()),(0:Int),())
 let b:=vL6 n (zB9 (wG0 n) (wE2 n) F)
 let j:=!p2
 let B:=len c
 let v:=B-1
 let o:=nth c v Z156
 let u:=nth c (0:Int) Z156
 let w:=(b.1,b.2.1,b.2.2.1,b.2.2.2.1,b.2.2.2.2.1,())
 let f:=wJ1 w o u
 let E:=(cond j f.1.1 b.1,cond j f.1.2.1 b.2.1,cond j f.1.2.2.1 b.2.2.1,cond j f.1.2.2.2.1 b.2.2.2.1,cond j f.1.2.2.2.2.1 b.2.2.2.2.1,())
 let i:=(p2,c,())
 let z:=(E,(1:Int),())
 let a:=vF3 i (zB9 (wE6 i) (wD7 i) z)
 let r:=nth c (0:Int) Z156
 let s:=len c
 let m:=s-1
 let l:=nth c m Z156
 let q:=(a.1,a.2.1,a.2.2.1,a.2.2.2.1,a.2.2.2.2.1,())
 let d:=wV0 q r l
 let C:=(cond g (cond h e.1.1 p0.1) (cond p2 d.1.1 a.1),cond g (cond h e.1.2.1 p0.2.1) (cond p2 d.1.2.1 a.2.1),cond g (cond h e.1.2.2.1 p0.2.2.1) (cond p2 d.1.2.2.1 a.2.2.1),cond g (cond h e.1.2.2.2.1 p0.2.2.2.1) (cond p2 d.1.2.2.2.1 a.2.2.2.1),cond g (cond h e.1.2.2.2.2.1 p0.2.2.2.2.1) (cond p2 d.1.2.2.2.2.1 a.2.2.2.2.1),())
 (qF0 p1 p2/\qF1 k p2 p0.1/\(g=true->h=true->InB (0:Int) (len k)/\tF0 A t)/\((!g)=true->Am.Ends (wG0 n) (wE2 n) (vG6 n) F/\(j=true->InR (B-1)/\InB v (len c)/\InB (0:Int) (len c)/\vJ2 w o u)/\Am.Ends (wE6 i) (wD7 i) (vA6 i) z/\(p2=true->InB (0:Int) (len c)/\InR (s-1)/\InB m (len c)/\uL5 q r l)),(),(C,()))
def vU p0 p1 p2:=(uW0 p0 p1 p2).1
def nU0 p0 p1 p2:=(uW0 p0 p1 p2).2.1
def wK4 p0 p1 p2:=(uW0 p0 p1 p2).2.2
def tM2:Am.Spec:=fnSpec [(0,Aa),(1,As),(2,vB)] (.tup .nl) [(0,Aa)] (λx=>vU x.1 x.2.1 x.2.2.1) (λx=>nU0 x.1 x.2.1 x.2.2.1) (λx=>wK4 x.1 x.2.1 x.2.2.1)
def uQ6:Ctx:={ Cx tys [(151,rS3),(152,rS8),(153,tM),(154,vC4),(155,vT9),(156,uF1),(157,tM0),(158,tM1)] [(6,uF5),(13,uD)] [(3,[(4,0,20,1007)])] false 104 [0] [59] with wants:=[(153,[]),(154,[1]),(157,[]),(158,[])] }
theorem uQ7:CtxOk Tryz.prog uQ6:=cq ⟨nS1,nS8,pJ0,uL4,sF2,rE3,pJ1,pJ2,trivial⟩
noncomputable def tM3:Code:=Tryz.f123.body.getD .skip
noncomputable def sV:Code:=wB4 tM3 0
theorem rE7:yX7 Tryz.prog uQ6 sV:=lq uQ7 (sp:=uF5) rfl [uW]
noncomputable def sF3:Code:=wB4 tM3 1
theorem sT0:yX7 Tryz.prog uQ6 sF3:=lq uQ7 (sp:=uD) rfl [uP2]
theorem pJ3:SK 123 tM2:=fl uQ7 Tryz.func123 (bs:=[sV,sF3]) ⟨rE7,sT0,trivial⟩
abbrev wV2:Type:=((List Bool)×Unit×(List (List D71))×Int×Unit)
abbrev wG7:Type:=((Int×Int×Int×(List (List D71))×Int×Unit)×Int×Unit)
def vZ (y:wV2)(x:wG7):Prop×Bool×wG7×Bool×Bool:=
 let j:=y.1
 let f:=y.2.2.1
 let c:=x.1
 let b:=x.2.1
 let d:=decide (b<y.2.2.2.1)
 let i:=nth f b ([]:List D71)
 let h:=nth j b false
 let g:=(c.1,c.2.1,c.2.2.1,c.2.2.2.1,c.2.2.2.2.1,())
 let a:=wK4 g i h
 let e:=decide (a.1.2.2.2.2.1>4096)
 (d=true->InB b (len f)/\InB b (len j)/\vU g i h/\((!e)=true->InR (b+1)),d&&(!e),((a.1.1,a.1.2.1,a.1.2.2.1,a.1.2.2.2.1,a.1.2.2.2.2.1,()),b+1,()),d&&e,!d)
def vJ3 y x:=(vZ y x).1
def wM6 y x:=(vZ y x).2.1
def wE4 y x:=(vZ y x).2.2.1
def wT y x:=(vZ y x).2.2.2.1
def pJ4 y x:=(vZ y x).2.2.2.2
def uF7 (y:wV2)(x:wG7):(List (List D71)):=
 ([]:List (List D71))
def tM4 (y:wV2)(x:wG7):Int:=
 (3:Int)
def sV0:List (Nat×Sh):=[(10,Ao),(11,vI)]
def uF8 (y:wV2)(x:wG7):(Int×Int×Int×(List (List D71))×Int×Unit):=
 let a:=x.1
 (a.1,a.2.1,a.2.2.1,a.2.2.2.1,a.2.2.2.2.1,())
def sV1:List (Nat×Sh):=[(14,(.ref 38 T125)),(38,Az)]
def tM5:St->Option Out:=xT3 [(1,Bu),(14,(.ref 38 T125)),(39,Ai),(40,vI)] [(38,Az),(41,vI)] wM6 wE4 vJ3 λy x=>[ex 1 (some (wT y x)) sV0 ((uF7 y x),(tM4 y x),()),ex 2 (some (pJ4 y x)) sV1 (y.2.1,(uF8 y x),())]
def f79t (p0:(List (List D71)))(p1:List Bool)(p2:Int)(p3:Int)(p4:Int):Prop×((List (List D71))×Int×Unit):=
 let i:=f122 p2 p3 p4
 let d:=i !=0
 let g:=f80 p0 (0:Int)
 let f:=g !=0
 let e:=len p1 !=len p0
 let a:=(p1,(),p0,len p0,())
 let h:=((p2,p3,p4,([]:List (List D71)),(0:Int),()),(0:Int),())
 let c:=zB9 (wM6 a) (wE4 a) h
 let b:=wT a c
 (qF p2 p3 p4/\((!d)=true->sU6 p0 (0:Int)/\((!f)=true->(!e)=true->Am.Ends (wM6 a) (wE4 a) (vJ3 a) h)),(cond d [] (cond f [] (cond e [] (cond b (uF7 a c) (uF8 a c).2.2.2.1))),cond d i (cond f g (cond e (15:Int) (cond b (tM4 a c) (0:Int)))),()))
def pY5 p0 p1 p2 p3 p4:=(f79t p0 p1 p2 p3 p4).1
def f79 p0 p1 p2 p3 p4:=(f79t p0 p1 p2 p3 p4).2
def qR4:=sp5 Ai Bu vI vI vI (.tup (.cons Ao (.cons vI .nl))) pY5 f79
def pY6:Ctx:={ Cx tys [(80,tX8),(122,rS2),(123,tM2)] [(11,tM5)] [(35,[(4,0,403800,0)])] false 63 [] [] with wants:=[(123,[])] }
theorem pY7:CtxOk Tryz.prog pY6:=cq ⟨pX4,nS0,pJ3,trivial⟩
noncomputable def oX4:Code:=Tryz.f79.body.getD .skip
noncomputable def pY8:Code:=wB4 oX4 0
theorem pJ5:yX7 Tryz.prog pY6 pY8:=lq pY7 (sp:=tM5) rfl [sV0,sV1]
theorem mP0:SK 79 qR4:=fl pY7 Tryz.func79 (bs:=[pY8]) ⟨pJ5,trivial⟩
def f40t (p0:D37):Prop×Int:=
 let a:=f76 p0.2.2.2.2.2.2.2.2.2.2.2.2.2.2.2.2.2.2.1 p0.2.2.2.2.2.2.2.2.2.2.1
 let n:=a.2.1 !=0
 let j:=cond (p0.2.2.2.2.2.2.2.2.2.2.2.2.2.2.2.2.2.2.2.1 !=0) (p0.2.2.2.2.2.2.2.2.2.2.2.2.2.2.2.2.2.2.2.1 !=1) false
 let m:=cond (p0.2.2.2.2.2.2.2.2.2.2.2.2.2.2.2.2.2.2.2.2.1==0) (cond (p0.2.2.2.2.2.2.2.2.2.2.2.2.2.2.2.2.2.2.2.2.2.1 !=0) true (p0.2.2.2.2.2.2.2.2.2.2.2.2.2.2.2.2.2.2.2.2.2.2.1 !=0)) false
 let d:=f77 a.1
 let l:=d.2.1 !=0
 let c:=p0.2.2.2.2.2.2.2.2.2.2.2.2.2.2.2.2.2.2.2.2.1 !=0
 let e:=f78 a.1
 let b:=e.2.1 !=0
 let g:=f79 d.1 e.1 p0.2.2.2.2.2.2.2.2.2.2.2.2.2.2.2.2.2.2.2.2.1 p0.2.2.2.2.2.2.2.2.2.2.2.2.2.2.2.2.2.2.2.2.2.1 p0.2.2.2.2.2.2.2.2.2.2.2.2.2.2.2.2.2.2.2.2.2.2.1
 let h:=g.2.1 !=0
 let f:=cond c g.1 d.1
 let q:=cond c (0:Int) p0.2.2.2.2.2.2.2.2.2.2.2.2.2.2.2.2.2.2.2.1
 let i:=f80 f q
 let o:=i !=0
 let k:=cond m (1:Int) (cond l d.2.1 (cond ((b||((!b)&&h))&&c) (cond b e.2.1 g.2.1) (cond o i (f38 p0.2.2.2.2.2.2.2.2.2.2.2.2.2.1))))
 (pW2 p0.2.2.2.2.2.2.2.2.2.2.2.2.2.2.2.2.2.2.1 p0.2.2.2.2.2.2.2.2.2.2.1/\((!n)=true->(!j)=true->(!m)=true->rS0 a.1/\((!l)=true->(c=true->pW9 a.1/\((!b)=true->pY5 d.1 e.1 p0.2.2.2.2.2.2.2.2.2.2.2.2.2.2.2.2.2.2.2.2.1 p0.2.2.2.2.2.2.2.2.2.2.2.2.2.2.2.2.2.2.2.2.2.1 p0.2.2.2.2.2.2.2.2.2.2.2.2.2.2.2.2.2.2.2.2.2.2.1))/\((cond c ((!b)&&(!h)) true)=true->sU6 f q/\((!o)=true->rR0 p0.2.2.2.2.2.2.2.2.2.2.2.2.2.1)))),cond n a.2.1 (cond j (8:Int) k))
def pY9 p0:=(f40t p0).1
def f40 p0:=(f40t p0).2
def qR5:=sp1 Aw vI pY9 f40
def nU1:=Cy [(38,tX5),(76,qQ2),(77,rD7),(78,qQ4),(79,qR4),(80,tX8)] [] [(17,[(4,0,44,1005)]),(27,[(4,0,57,1007)]),(33,[(5,0,1005,0),(4,0,72,1005)])] 87
theorem mP1:SK 40 qR5:=fq (c:=nU1) Tryz.func40 ⟨pU8,mO0,nI1,mO1,mP0,pX4,trivial⟩
def tX0 (p0:Int)(p1:Int)(p2:Int):Prop×Bool:=
 (True,cond (decide (p0≥p1)) (decide (p0<=p2)) false)
def vT1 p0 p1 p2:=(tX0 p0 p1 p2).1
def f160 p0 p1 p2:=(tX0 p0 p1 p2).2
def uW1:=sp3 vI vI vI vB vT1 f160
def oX5:=Cy [] [] [] 15
theorem qG:SK 160 uW1:=fq (c:=oX5) Tryz.func160 trivial
abbrev wZ3:Type:=((List D74)×Int×Int×(List D71)×Unit)
abbrev wP8:Type:=(Int×Unit)
def vU0 (y:wZ3)(x:wP8):Prop×Bool×wP8×Bool×Bool:=
 let a:=x.1
 let c:=decide (a<3)
 let b:=nth y.2.2.2.1 a Z71
 let e:=!(f160 b.1 (-65536:Int) (65536:Int))
 let d:=cond e true (!(f160 b.2.1 (-65536:Int) (65536:Int)))
 (c=true->InB a 3/\vT1 b.1 (-65536:Int) (65536:Int)/\((!e)=true->vT1 b.2.1 (-65536:Int) (65536:Int))/\((!d)=true->InR (a+1)),c&&(!d),(a+1,()),c&&d,!c)
def sF4 y x:=(vU0 y x).1
def wZ4 y x:=(vU0 y x).2.1
def wP9 y x:=(vU0 y x).2.2.1
def uQ8 y x:=(vU0 y x).2.2.2.1
def uQ9 y x:=(vU0 y x).2.2.2.2
def uW2 (y:wZ3)(x:wP8):Int:=
 (2:Int)
def sF5:List (Nat×Sh):=[(19,Ag),(20,vI),(21,vI)]
def uW3:St->Option Out:=xT3 [(19,Ag),(20,vI),(21,vI),(26,(.val (.arr 3 T71)))] [(27,vI)] wZ4 wP9 sF4 λy x=>[ex 1 (some (uQ8 y x)) [(2,vI)] ((uW2 y x),()),ex 4 (some (uQ9 y x)) sF5 (y.1,y.2.1,y.2.2.1,())]
abbrev vL7:Type:=((List D74)×Int×Unit)
abbrev wV3:Type:=(Int×Unit)
def vQ5 (y:vL7)(x:wV3):Prop×Bool×wV3×Bool×Bool:=
 let e:=y.1
 let h:=y.2.1
 let b:=x.1
 let d:=decide (b<h)
 let a:=(e,h,b,(nth e b Z74).2.1,())
 let g:=((0:Int),())
 let f:=zB9 (wZ4 a) (wP9 a) g
 let c:=uQ9 a f
 (d=true->InB b (len e)/\Am.Ends (wZ4 a) (wP9 a) (sF4 a) g/\(c=true->InR (b+1)),d&&c,(b+1,()),d&&uQ8 a f,!d)
def sV2 y x:=(vQ5 y x).1
def wR y x:=(vQ5 y x).2.1
def wL4 y x:=(vQ5 y x).2.2.1
def vU1 y x:=(vQ5 y x).2.2.2.1
def pJ6 y x:=(vQ5 y x).2.2.2.2
def tM6 (y:vL7)(x:wV3):Int:=
 let c:=y.1
 let b:=x.1
 let a:=(c,y.2.1,b,(nth c b Z74).2.1,())
 (uW2 a (zB9 (wZ4 a) (wP9 a) ((0:Int),())))
def tM7:St->Option Out:=xT3 [(19,Ag),(20,vI)] [(21,vI)] wR wL4 sV2 λy x=>[ex 1 (some (vU1 y x)) [(2,vI)] ((tM6 y x),()),ex 2 (some (pJ6 y x)) [] ()]
def mP2 (p0:D137):Prop×Int:=
 let d:=!(f160 p0.2.1 (0:Int) (65536:Int))
 let b:=f117 p0.2.2.1
 let c:=b !=0
 let a:=(p0.2.2.1,len p0.2.2.1,())
 let f:=((0:Int),())
 let e:=zB9 (wR a) (wL4 a) f
 (vT1 p0.2.1 (0:Int) (65536:Int)/\((!d)=true->uQ0 p0.2.2.1/\((!c)=true->Am.Ends (wR a) (wL4 a) (sV2 a) f)),cond d (2:Int) (cond c b (cond (vU1 a e) (tM6 a e) (0:Int))))
def qG0 p0:=(mP2 p0).1
def f195 p0:=(mP2 p0).2
def rT3:=sp1 (.val T137) vI qG0 f195
def rE8:=Cy [(117,uE4),(160,uW1)] [(10,uW3),(7,tM7)] [] 42
theorem rE9:CtxOk Tryz.prog rE8:=cq ⟨rD3,qG,trivial⟩
noncomputable def pZ:Code:=Tryz.f195.body.getD .skip
noncomputable def qG1:Code:=wB4 pZ 0
noncomputable def qR6:Code:=wB4 qG1 0
theorem qG2:yX7 Tryz.prog rE8 qR6:=lq rE9 (sp:=uW3) rfl [[(2,vI)],sF5]
theorem pJ7:yX7 Tryz.prog rE8 qG1:=lm rE9 (sp:=tM7) rfl [[(2,vI)],[]] (bs:=[qR6]) ⟨qG2,trivial⟩
theorem nU2:SK 195 rT3:=fl rE9 Tryz.func195 (bs:=[qG1]) ⟨pJ7,trivial⟩
def nU3 (p0:D142)(p1:D142):Prop×Bool:=
 (True,cond (decide (p0.1>p1.1)) true (cond (p0.1==p1.1) (decide (p0.2.1>p1.2.1)) false))
def pZ0 p0 p1:=(nU3 p0 p1).1
def f196 p0 p1:=(nU3 p0 p1).2
def rT4:=sp2 (.val T142) (.val T142) vB pZ0 f196
def oX6:=Cy [] [] [] 24
theorem nU4:SK 196 rT4:=fq (c:=oX6) Tryz.func196 trivial
abbrev vL8:Type:=(D96×(List D137)×Int×Unit)
abbrev wV4:Type:=(Int×Unit)
def vQ6 (y:vL8)(x:wV4):Prop×Bool×wV4×Bool×Bool:=
 let j:=y.1
 let f:=y.2.1
 let a:=x.1
 let b:=decide (a<y.2.2.1)
 let e:=nth f a Z137
 let d:=decide (a>0)
 let h:=a-1
 let c:=cond d (decide (e.1<=(nth j.2.2.2.1 h Z137).1)) false
 let g:=f195 e !=0
 let i:=(!c)&&(!g)
 (b=true->InB a (len f)/\(d=true->InR (a-1))/\(d=true->InB h (len j.2.2.2.1))/\((!c)=true->qG0 e)/\(i=true->InR (a+1)),b&&i,(a+1,()),b&&(c||((!c)&&g)),!b)
def sV3 y x:=(vQ6 y x).1
def vU2 y x:=(vQ6 y x).2.1
def vQ7 y x:=(vQ6 y x).2.2.1
def uL6 y x:=(vQ6 y x).2.2.2.1
def sV4 y x:=(vQ6 y x).2.2.2.2
def uF9 (y:vL8)(x:wV4):Int:=
 let a:=x.1
 let b:=nth y.2.1 a Z137
 (cond (cond (decide (a>0)) (decide (b.1<=(nth y.1.2.2.2.1 (a-1) Z137).1)) false) (24:Int) (f195 b))
def tM8:St->Option Out:=xT3 [(1,Af),(35,(.val Ce)),(36,vI)] [(37,vI)] vU2 vQ7 sV3 λy x=>[ex 1 (some (uL6 y x)) [(2,vI)] ((uF9 y x),()),ex 2 (some (sV4 y x)) [(1,Af)] (y.1,())]
abbrev wZ5:Type:=(D96×(List D142)×Int×Unit)
abbrev wQ:Type:=(Int×Unit)
def vC6 (y:wZ5)(x:wQ):Prop×Bool×wQ×Bool×Bool:=
 let k:=y.1
 let i:=y.2.1
 let a:=x.1
 let b:=decide (a<y.2.2.1)
 let e:=nth i a Z142
 let c:=decide (a>0)
 let f:=a-1
 let g:=nth k.2.2.2.2.1 f Z142
 let d:=cond c (!(f196 e g)) false
 let h:=!(f160 e.2.2.1 (-65536:Int) (65536:Int))
 let j:=(!d)&&(!h)
 (b=true->InB a (len i)/\(c=true->InR (a-1))/\(c=true->InB f (len k.2.2.2.2.1))/\(c=true->pZ0 e g)/\((!d)=true->vT1 e.2.2.1 (-65536:Int) (65536:Int))/\(j=true->InR (a+1)),b&&j,(a+1,()),b&&(d||((!d)&&h)),!b)
def sF6 y x:=(vC6 y x).1
def vJ4 y x:=(vC6 y x).2.1
def vG7 y x:=(vC6 y x).2.2.1
def vZ0 y x:=(vC6 y x).2.2.2.1
def qG3 y x:=(vC6 y x).2.2.2.2
def vG8 (y:wZ5)(x:wQ):Int:=
 let a:=x.1
 (cond (cond (decide (a>0)) (!(f196 (nth y.2.1 a Z142) (nth y.1.2.2.2.2.1 (a-1) Z142))) false) (24:Int) (2:Int))
def uW4:St->Option Out:=xT3 [(1,Af),(63,(.val Co)),(64,vI)] [(65,vI)] vJ4 vG7 sF6 λy x=>[ex 1 (some (vZ0 y x)) [(2,vI)] ((vG8 y x),()),ex 4 (some (qG3 y x)) [] ()]
def mP3 (p0:D96):Prop×Int:=
 let f:=!(f160 p0.1 (1:Int) (65536:Int))
 let g:=cond f true (!(f160 p0.2.1 (0:Int) (65536:Int)))
 let c:=cond g true (!(f160 p0.2.2.1 (0:Int) (65536:Int)))
 let d:=cond (decide (len p0.2.2.2.1>256)) true (decide (len p0.2.2.2.2.1>256))
 let b:=(p0,p0.2.2.2.1,len p0.2.2.2.1,())
 let j:=((0:Int),())
 let i:=zB9 (vU2 b) (vQ7 b) j
 let a:=(p0,p0.2.2.2.2.1,len p0.2.2.2.2.1,())
 let h:=((0:Int),())
 let e:=zB9 (vJ4 a) (vG7 a) h
 (vT1 p0.1 (1:Int) (65536:Int)/\((!f)=true->vT1 p0.2.1 (0:Int) (65536:Int))/\((!g)=true->vT1 p0.2.2.1 (0:Int) (65536:Int))/\((!c)=true->(!d)=true->Am.Ends (vU2 b) (vQ7 b) (sV3 b) j/\(sV4 b i=true->Am.Ends (vJ4 a) (vG7 a) (sF6 a) h)),cond c (2:Int) (cond d (3:Int) (cond (uL6 b i) (uF9 b i) (cond (vZ0 a e) (vG8 a e) (0:Int)))))
def rF p0:=(mP3 p0).1
def f159 p0:=(mP3 p0).2
def rT5:=sp1 Bc vI rF f159
def rF0:=Cy [(160,uW1),(195,rT3),(196,rT4)] [(6,tM8),(15,uW4)] [] 88
theorem rF1:CtxOk Tryz.prog rF0:=cq ⟨qG,nU2,nU4,trivial⟩
noncomputable def rT6:Code:=Tryz.f159.body.getD .skip
noncomputable def pZ1:Code:=wB4 rT6 0
theorem pJ8:yX7 Tryz.prog rF0 pZ1:=lq rF1 (sp:=tM8) rfl [[(2,vI)],[(1,Af)]]
noncomputable def qR7:Code:=wB4 rT6 1
theorem qG4:yX7 Tryz.prog rF0 qR7:=lq rF1 (sp:=uW4) rfl [[(2,vI)],[]]
theorem nU5:SK 159 rT5:=fl rF1 Tryz.func159 (bs:=[pZ1,qR7]) ⟨pJ8,qG4,trivial⟩
abbrev vL9:Type:=((List UInt8)×Int×Int×Int×Unit)
abbrev wV5:Type:=(Int×Unit)
def vQ8 (y:vL9)(x:wV5):Prop×Bool×wV5×Bool×Bool:=
 let d:=y.1
 let a:=x.1
 let b:=decide (a<y.2.2.2.1)
 let f:=decide (wB7 d a<32)
 let e:=cond f true (decide (wB7 d a>126))
 let c:=cond e (wB7 d a !=10) false
 (b=true->InB a (len d)/\((!f)=true->InB a (len d))/\(e=true->InB a (len d))/\((!c)=true->InR (a+1)),b&&(!c),(a+1,()),b&&c,!b)
def sV5 y x:=(vQ8 y x).1
def vC7 y x:=(vQ8 y x).2.1
def wT0 y x:=(vQ8 y x).2.2.1
def uL7 y x:=(vQ8 y x).2.2.2.1
def sV6 y x:=(vQ8 y x).2.2.2.2
def tM9 (y:vL9)(x:wV5):Int:=
 (4:Int)
def tN:St->Option Out:=xT3 [(1,vS),(2,vI),(3,vI),(17,vI)] [(18,vI)] vC7 wT0 sV5 λy x=>[ex 1 (some (uL7 y x)) [(8,vI)] ((tM9 y x),()),ex 2 (some (sV6 y x)) [(1,vS),(2,vI),(3,vI)] (y.1,y.2.1,y.2.2.1,())]
def nU6 (p0:D96)(p1:List UInt8)(p2:Int)(p3:Int):Prop×Int:=
 let d:=f159 p0
 let c:=d !=0
 let a:=(p1,p2,p3,len p1,())
 let h:=((0:Int),())
 let g:=zB9 (vC7 a) (wT0 a) h
 let e:=decide (len p1>128)
 let b:=!(f160 p2 (1:Int) (1048576:Int))
 let f:=cond c d (cond (uL7 a g) (tM9 a g) (cond e (3:Int) (cond (cond b true (!(f160 p3 (0:Int) (1048576:Int)))) (2:Int) (0:Int))))
 (rF p0/\((!c)=true->Am.Ends (vC7 a) (wT0 a) (sV5 a) h/\(sV6 a g=true->(!e)=true->vT1 p2 (1:Int) (1048576:Int)/\((!b)=true->vT1 p3 (0:Int) (1048576:Int)))),f)
def rF2 p0 p1 p2 p3:=(nU6 p0 p1 p2 p3).1
def f124 p0 p1 p2 p3:=(nU6 p0 p1 p2 p3).2
def rT7:=sp4 Bc vS vI vI vI rF2 f124
def qR8:=Cy [(159,rT5),(160,uW1)] [(5,tN)] [] 49
theorem qR9:CtxOk Tryz.prog qR8:=cq ⟨nU5,qG,trivial⟩
noncomputable def pZ2:Code:=Tryz.f124.body.getD .skip
noncomputable def pZ3:Code:=wB4 pZ2 0
theorem pJ9:yX7 Tryz.prog qR8 pZ3:=lq qR9 (sp:=tN) rfl [[(8,vI)],[(1,vS),(2,vI),(3,vI)]]
theorem nU7:SK 124 rT7:=fl qR9 Tryz.func124 (bs:=[pZ3]) ⟨pJ9,trivial⟩
abbrev uG:Type:=(D96×Unit×(D96×(List Int)×Unit)×(List D137)×Int×Unit)
abbrev vM:Type:=(Int×Int×Unit)
def rF3 (y:uG)(x:vM):Prop×Bool×vM:=
 let b:=y.2.2.2.1
 let a:=x.2.1
 let c:=decide (a<y.2.2.2.2.1)
 (c=true->InB a (len b)/\InR (a+1),c,(cond ((nth b a Z137).1==63) a x.1,a+1,()))
def sV7 y x:=(rF3 y x).1
def uG0 y x:=(rF3 y x).2.1
def vC8 y x:=(rF3 y x).2.2
def uG1 (y:uG)(x:vM):Int:=
 x.1
def sV8:List (Nat×Sh):=[(1,Af),(3,Bv),(4,vI),(12,Ah)]
def tN0:St->Option Out:=xT3 [(1,Af),(3,Bv),(12,Ah),(14,(.val Ce)),(15,vI)] [(4,vI),(16,vI)] uG0 vC8 sV7 λy x=>[ex 2 none sV8 (y.1,y.2.1,(uG1 y x),y.2.2.1,())]
abbrev vU3:Type:=(D96×Unit×Int×Unit)
abbrev wZ6:Type:=((D96×(List Int)×Unit)×Int×Unit)
def sF7 (y:vU3)(x:wZ6):Prop×Bool×wZ6:=
 let b:=x.1
 let a:=x.2.1
 let c:=decide (a<256)
 (c=true->InB a 256/\InR (a+1),c,((b.1,List.set b.2.1 (Int.toNat a) y.2.2.1,()),a+1,()))
def sF8 y x:=(sF7 y x).1
def vU4 y x:=(sF7 y x).2.1
def wV6 y x:=(sF7 y x).2.2
def vZ1 (y:vU3)(x:wZ6):(D96×(List Int)×Unit):=
 let a:=x.1
 (a.1,a.2.1,())
def sF9:List (Nat×Sh):=[(1,Af),(3,Bv),(12,Ah)]
def uW5:St->Option Out:=xT3 [(1,Af),(3,Bv),(4,vI)] [(12,Ah),(26,vI)] vU4 wV6 sF8 λy x=>[ex 4 none sF9 (y.1,y.2.1,(vZ1 y x),())]
abbrev vU5:Type:=(Unit×(List D137)×Int×Unit)
abbrev wZ7:Type:=((D96×(List Int)×Unit)×Int×Unit)
def sG (y:vU5)(x:wZ7):Prop×Bool×wZ7:=
 let b:=y.2.1
 let d:=x.1
 let a:=x.2.1
 let e:=decide (a<y.2.2.1)
 let c:=nth b a Z137
 (e=true->InB a (len b)/\InB c.1 256/\InR (a+1),e,((d.1,List.set d.2.1 (Int.toNat c.1) a,()),a+1,()))
def sG0 y x:=(sG y x).1
def vU6 y x:=(sG y x).2.1
def wV7 y x:=(sG y x).2.2
def vZ2 (y:vU5)(x:wZ7):(D96×(List Int)×Unit):=
 let a:=x.1
 (a.1,a.2.1,())
def sG1:List (Nat×Sh):=[(3,Bv),(12,Ah)]
def uW6:St->Option Out:=xT3 [(3,Bv),(37,(.val Ce)),(38,vI)] [(12,Ah),(39,vI)] vU6 wV7 sG0 λy x=>[ex 6 none sG1 (y.1,(vZ2 y x),())]
def nU8 (p0:D96):Prop×D163:=
 let e:=(p0,(),(p0,List.replicate 256 (0:Int),()),p0.2.2.2.1,len p0.2.2.2.1,())
 let h:=((-1:Int),(0:Int),())
 let d:=(p0,(),uG1 e (zB9 (uG0 e) (vC8 e) h),())
 let f:=((p0,List.replicate 256 (0:Int),()),(0:Int),())
 let a:=vZ1 d (zB9 (vU4 d) (wV6 d) f)
 let c:=((),p0.2.2.2.1,len p0.2.2.2.1,())
 let g:=((a.1,a.2.1,()),(0:Int),())
 let b:=vZ2 c (zB9 (vU6 c) (wV7 c) g)
 (Am.Ends (uG0 e) (vC8 e) (sV7 e) h/\Am.Ends (vU4 d) (wV6 d) (sF8 d) f/\Am.Ends (vU6 c) (wV7 c) (sG0 c) g,(b.1,b.2.1,()))
def sG2 p0:=(nU8 p0).1
def f125 p0:=(nU8 p0).2
def rT8:=sp1 Bc Ar sG2 f125
def tY5:=Cy [] [(4,tN0),(10,uW5),(15,uW6)] [(39,[(3,12,0,0)])] 53
theorem tY6:CtxOk Tryz.prog tY5:=cq trivial
noncomputable def sG3:Code:=Tryz.f125.body.getD .skip
noncomputable def pZ4:Code:=wB4 sG3 0
theorem pK:yX7 Tryz.prog tY5 pZ4:=lq tY6 (sp:=tN0) rfl [sV8]
noncomputable def qS:Code:=wB4 sG3 1
theorem qG5:yX7 Tryz.prog tY5 qS:=lq tY6 (sp:=uW5) rfl [sF9]
noncomputable def qS0:Code:=wB4 sG3 2
theorem qG6:yX7 Tryz.prog tY5 qS0:=lq tY6 (sp:=uW6) rfl [sG1]
theorem nU9:SK 125 rT8:=fl tY6 Tryz.func125 (bs:=[pZ4,qS,qS0]) ⟨pK,qG5,qG6,trivial⟩
end Go.Proofs.YtgjkpohjjmkkgaaGreatDoor.Am
