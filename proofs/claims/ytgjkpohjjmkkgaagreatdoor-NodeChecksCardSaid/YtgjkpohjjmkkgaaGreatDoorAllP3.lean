/- Printed by program, part 3. No condition. -/
import Derived.Test.YtgjkpohjjmkkgaaGreatDoorAllP2
set_option linter.unusedVariables false
set_option synthInstance.maxSize 4000
set_option synthInstance.maxHeartbeats 400000
namespace Go.Proofs.YtgjkpohjjmkkgaaGreatDoor.Am
open Go Go.Am Go.Proofs
abbrev uG2:Type:=(Int×D96×D163×(List (List D71))×Int×Int×D71×(List (List UInt8))×Int×Int×(List D71)×Int×Int×(List (List D71))×Int×Int×(List D71)×Int×Unit)
abbrev vM0:Type:=((List D71)×Int×Unit)
def rF4 (y:uG2)(x:vM0):Prop×Bool×vM0:=
 let o:=y.1
 let f:=y.2.1
 let k:=y.2.2.2.2.2.1
 let n:=y.2.2.2.2.2.2.1
 let l:=y.2.2.2.2.2.2.2.2.2.2.2.2.2.2.2.2.1
 let j:=x.1
 let a:=x.2.1
 let m:=decide (a<y.2.2.2.2.2.2.2.2.2.2.2.2.2.2.2.2.2.1)
 let b:=nth l a Z71
 let g:=n.2.1+b.1
 let c:=g*o
 let d:=k*f.2.2.1
 let e:=f.2.1+d
 let i:=e-b.2.1
 let h:=i*o
 (m=true->InB a (len l)/\InR (n.2.1+b.1)/\InR (g*o)/\wH8 c f.1/\InR (k*f.2.2.1)/\InR (f.2.1+d)/\InR (e-b.2.1)/\InR (i*o)/\wH8 h f.1/\InB a (len j)/\a<len j/\InR (a+1),m,(List.set j (Int.toNat a) (f35 c f.1,f35 h f.1,()),a+1,()))
def tF1 y x:=(rF4 y x).1
def vU7 y x:=(rF4 y x).2.1
def wT1 y x:=(rF4 y x).2.2
def tN1 (y:uG2)(x:vM0):(List D71):=
 x.1
def sV9:List (Nat×Sh):=[(2,vI),(4,Af),(11,Ar),(12,Ap),(13,vI),(14,vI),(19,Bj),(24,(.own T71 1024 true)),(41,Au),(42,vI),(43,vI),(54,Bn),(55,vI),(56,vI),(74,Cl),(75,vI),(76,vI)]
def tN2:St->Option Out:=xT3 [(2,vI),(4,Af),(11,Ar),(12,Ap),(13,vI),(14,vI),(19,Bj),(41,Au),(42,vI),(43,vI),(54,Bn),(55,vI),(56,vI),(74,Cl),(75,vI),(76,vI),(89,As),(90,vI)] [(24,(.own T71 1024 true)),(91,vI)] vU7 wT1 tF1 λy x=>[ex 8 none sV9 (y.1,y.2.1,y.2.2.1,y.2.2.2.1,y.2.2.2.2.1,y.2.2.2.2.2.1,y.2.2.2.2.2.2.1,(tN1 y x),y.2.2.2.2.2.2.2.1,y.2.2.2.2.2.2.2.2.1,y.2.2.2.2.2.2.2.2.2.1,y.2.2.2.2.2.2.2.2.2.2.1,y.2.2.2.2.2.2.2.2.2.2.2.1,y.2.2.2.2.2.2.2.2.2.2.2.2.1,y.2.2.2.2.2.2.2.2.2.2.2.2.2.1,y.2.2.2.2.2.2.2.2.2.2.2.2.2.2.1,y.2.2.2.2.2.2.2.2.2.2.2.2.2.2.2.1,())]
abbrev wR0:Type:=(Int×D96×D163×Int×D71×(List (List UInt8))×Int×Int×(List D71)×Int×Int×(List (List D71))×Int×Unit)
abbrev wM7:Type:=((List (List D71))×Int×Int×Unit)
def uW7 (y:wR0)(x:wM7):Prop×Bool×wM7×Bool×Bool:=
 let h:=y.2.2.2.2.2.2.2.2.2.2.2.1
 let n:=y.2.2.2.2.2.2.2.2.2.2.2.2.1
 let j:=x.1
 let k:=x.2.1
 let b:=x.2.2.1
 let d:=decide (b<n)
 let e:=nth h b ([]:List D71)
 let l:=len e
 let i:=k+l
 let f:=decide (i>4096)
 let c:=len e
 let a:=(y.1,y.2.1,y.2.2.1,j,i,y.2.2.2.1,y.2.2.2.2.1,y.2.2.2.2.2.1,y.2.2.2.2.2.2.1,y.2.2.2.2.2.2.2.1,y.2.2.2.2.2.2.2.2.1,y.2.2.2.2.2.2.2.2.2.1,y.2.2.2.2.2.2.2.2.2.2.1,h,n,b,e,len e,())
 let m:=(List.replicate (Int.toNat c) Z71,(0:Int),())
 let g:=([tN1 a (zB9 (vU7 a) (wT1 a) m)]:List (List D71))
 (d=true->InB b (len h)/\InR (k+l)/\((!f)=true->(0<=c/\c<=c/\c<=4294967296)/\Am.Ends (vU7 a) (wT1 a) (tF1 a) m/\((List.length j+List.length g:Nat):Int)<=4294967296)/\((!f)=true->InR (b+1)),d&&(!f),(j++g,i,b+1,()),d&&f,!d)
def tF2 y x:=(uW7 y x).1
def wV8 y x:=(uW7 y x).2.1
def wL5 y x:=(uW7 y x).2.2.1
def uL8 y x:=(uW7 y x).2.2.2.1
def sW y x:=(uW7 y x).2.2.2.2
def tN3 (y:wR0)(x:wM7):(List (List D71)):=
 ([]:List (List D71))
def tN4 (y:wR0)(x:wM7):Int:=
 (3:Int)
def sW0:List (Nat×Sh):=[(8,Ao),(9,vI)]
def tN5 (y:wR0)(x:wM7):(List (List D71)):=
 x.1
def tN6 (y:wR0)(x:wM7):Int:=
 x.2.1
def sW1:List (Nat×Sh):=[(2,vI),(4,Af),(11,Ar),(12,Ap),(13,vI),(14,vI),(41,Au),(42,vI),(43,vI),(54,Bn),(55,vI),(56,vI)]
def tN7:St->Option Out:=xT3 [(2,vI),(4,Af),(11,Ar),(14,vI),(19,Bj),(41,Au),(42,vI),(43,vI),(54,Bn),(55,vI),(56,vI),(74,Cl),(75,vI)] [(12,Ap),(13,vI),(76,vI)] wV8 wL5 tF2 λy x=>[ex 1 (some (uL8 y x)) sW0 ((tN3 y x),(tN4 y x),()),ex 6 (some (sW y x)) sW1 (y.1,y.2.1,y.2.2.1,(tN5 y x),(tN6 y x),y.2.2.2.1,y.2.2.2.2.2.1,y.2.2.2.2.2.2.1,y.2.2.2.2.2.2.2.1,y.2.2.2.2.2.2.2.2.1,y.2.2.2.2.2.2.2.2.2.1,y.2.2.2.2.2.2.2.2.2.2.1,())]
abbrev wR1:Type:=(Int×D96×D163×Int×(List (List UInt8))×Int×Int×(List D71)×Int×Unit)
abbrev wM8:Type:=((List (List D71))×Int×Int×Unit)
def uW8 (y:wR1)(x:wM8):Prop×Bool×wM8×Bool×Bool:=
 let m:=y.2.1
 let h:=y.2.2.2.2.2.2.2.1
 let j:=y.2.2.2.2.2.2.2.2.1
 let b:=x.2.2.1
 let f:=decide (b<j)
 let g:=nth h b Z71
 let l:=nth m.2.2.2.1 g.1 Z137
 let i:=f77 l.2.2.1
 let d:=i.2.1 !=0
 let a:=(y.1,m,y.2.2.1,y.2.2.2.1,g,y.2.2.2.2.1,y.2.2.2.2.2.1,y.2.2.2.2.2.2.1,h,j,b,i.1,len i.1,())
 let k:=(x.1,x.2.1,(0:Int),())
 let e:=zB9 (wV8 a) (wL5 a) k
 let c:=(!d)&&sW a e
 (f=true->InB b (len h)/\InB g.1 (len m.2.2.2.1)/\rS0 l.2.2.1/\((!d)=true->Am.Ends (wV8 a) (wL5 a) (tF2 a) k)/\(c=true->InR (b+1)),f&&c,(tN5 a e,tN6 a e,b+1,()),f&&(d||((!d)&&uL8 a e)),!f)
def tF3 y x:=(uW8 y x).1
def wV9 y x:=(uW8 y x).2.1
def wJ3 y x:=(uW8 y x).2.2.1
def vU8 y x:=(uW8 y x).2.2.2.1
def sW2 y x:=(uW8 y x).2.2.2.2
def tN8 (y:wR1)(x:wM8):(List (List D71)):=
 let f:=y.2.1
 let e:=y.2.2.2.2.2.2.2.1
 let c:=x.2.2.1
 let d:=nth e c Z71
 let b:=f77 (nth f.2.2.2.1 d.1 Z137).2.2.1
 let a:=(y.1,f,y.2.2.1,y.2.2.2.1,d,y.2.2.2.2.1,y.2.2.2.2.2.1,y.2.2.2.2.2.2.1,e,y.2.2.2.2.2.2.2.2.1,c,b.1,len b.1,())
 (cond (b.2.1 !=0) [] (tN3 a (zB9 (wV8 a) (wL5 a) (x.1,x.2.1,(0:Int),()))))
def vC9 (y:wR1)(x:wM8):Int:=
 let f:=y.2.1
 let e:=y.2.2.2.2.2.2.2.1
 let c:=x.2.2.1
 let d:=nth e c Z71
 let a:=f77 (nth f.2.2.2.1 d.1 Z137).2.2.1
 let b:=(y.1,f,y.2.2.1,y.2.2.2.1,d,y.2.2.2.2.1,y.2.2.2.2.2.1,y.2.2.2.2.2.2.1,e,y.2.2.2.2.2.2.2.2.1,c,a.1,len a.1,())
 (cond (a.2.1 !=0) a.2.1 (tN4 b (zB9 (wV8 b) (wL5 b) (x.1,x.2.1,(0:Int),()))))
def sW3:List (Nat×Sh):=[(8,Ao),(9,vI)]
def tN9 (y:wR1)(x:wM8):(List (List D71)):=
 x.1
def tO (y:wR1)(x:wM8):Int:=
 x.2.1
def sW4:List (Nat×Sh):=[(2,vI),(4,Af),(11,Ar),(12,Ap),(13,vI),(41,Au),(42,vI),(43,vI)]
def tO0:St->Option Out:=xT3 [(2,vI),(4,Af),(11,Ar),(14,vI),(41,Au),(42,vI),(43,vI),(54,Bn),(55,vI)] [(12,Ap),(13,vI),(56,vI)] wV9 wJ3 tF3 λy x=>[ex 1 (some (vU8 y x)) sW3 ((tN8 y x),(vC9 y x),()),ex 4 (some (sW2 y x)) sW4 (y.1,y.2.1,y.2.2.1,(tN9 y x),(tO y x),y.2.2.2.2.1,y.2.2.2.2.2.1,y.2.2.2.2.2.2.1,())]
abbrev vA7:Type:=(Int×D96×D163×(List (List UInt8))×Int×Unit)
abbrev wS1:Type:=((List (List D71))×Int×Int×Unit)
def sG4 (y:vA7)(x:wS1):Prop×Bool×wS1×Bool×Bool:=
 let f:=y.2.2.1
 let g:=y.2.2.2.1
 let i:=y.2.2.2.2.1
 let b:=x.2.2.1
 let e:=decide (b<i)
 let h:=nth g b ([]:List UInt8)
 let k:=f127 f h
 let a:=(y.1,y.2.1,f,b,g,i,b,k.1,len k.1,())
 let j:=(x.1,x.2.1,(0:Int),())
 let d:=zB9 (wV9 a) (wJ3 a) j
 let c:=sW2 a d
 (e=true->InB b (len g)/\sB8 f h/\Am.Ends (wV9 a) (wJ3 a) (tF3 a) j/\(c=true->InR (b+1)),e&&c,(tN9 a d,tO a d,b+1,()),e&&vU8 a d,!e)
def sG5 y x:=(sG4 y x).1
def wS2 y x:=(sG4 y x).2.1
def wG5 y x:=(sG4 y x).2.2.1
def uG3 y x:=(sG4 y x).2.2.2.1
def pZ5 y x:=(sG4 y x).2.2.2.2
def uR (y:vA7)(x:wS1):(List (List D71)):=
 let c:=y.2.2.1
 let d:=y.2.2.2.1
 let a:=x.2.2.1
 let e:=f127 c (nth d a ([]:List UInt8))
 let b:=(y.1,y.2.1,c,a,d,y.2.2.2.2.1,a,e.1,len e.1,())
 (tN8 b (zB9 (wV9 b) (wJ3 b) (x.1,x.2.1,(0:Int),())))
def vZ3 (y:vA7)(x:wS1):Int:=
 let c:=y.2.2.1
 let d:=y.2.2.2.1
 let a:=x.2.2.1
 let e:=f127 c (nth d a ([]:List UInt8))
 let b:=(y.1,y.2.1,c,a,d,y.2.2.2.2.1,a,e.1,len e.1,())
 (vC9 b (zB9 (wV9 b) (wJ3 b) (x.1,x.2.1,(0:Int),())))
def rT9:List (Nat×Sh):=[(8,Ao),(9,vI)]
def sG6 (y:vA7)(x:wS1):(List (List D71)):=
 x.1
def rU:List (Nat×Sh):=[(12,Ap)]
def sG7:St->Option Out:=xT3 [(2,vI),(4,Af),(11,Ar),(41,Au),(42,vI)] [(12,Ap),(13,vI),(43,vI)] wS2 wG5 sG5 λy x=>[ex 1 (some (uG3 y x)) rT9 ((uR y x),(vZ3 y x),()),ex 2 (some (pZ5 y x)) rU ((sG6 y x),())]
def f81t (p0:D96)(p1:List UInt8)(p2:Int)(p3:Int):Prop×((List (List D71))×Int×Unit):=
 let e:=f124 p0 p1 p2 p3
 let c:=e !=0
 let d:=f125 p0
 let f:=f126 d p1 p2 p3
 let a:=(p2,p0,d,f,len f,())
 let h:=(([]:List (List D71)),(0:Int),(0:Int),())
 let g:=zB9 (wS2 a) (wG5 a) h
 let b:=uG3 a g
 (rF2 p0 p1 p2 p3/\((!c)=true->sG2 p0/\tE d p1 p2 p3/\Am.Ends (wS2 a) (wG5 a) (sG5 a) h),(cond c [] (cond b (uR a g) (sG6 a g)),cond c e (cond b (vZ3 a g) (0:Int)),()))
def sW5 p0 p1 p2 p3:=(f81t p0 p1 p2 p3).1
def f81 p0 p1 p2 p3:=(f81t p0 p1 p2 p3).2
def qS1:=sp4 Bc vS vI vI (.tup (.cons Ao (.cons vI .nl))) sW5 f81
def sG8:Ctx:=Cx tys [(35,wS0),(77,rD7),(124,rT7),(125,rT8),(126,rQ1),(127,sB9)] [(25,tN2),(18,tN7),(12,tO0),(8,sG7)] [(21,[(4,0,51,1016)]),(29,[(4,0,68,1020)]),(47,[(4,0,88,1024)]),(58,[(1,24,0,0)]),(59,[(4,0,129,1012)]),(67,[(4,0,1012,0)])] false 134 [] [88]
theorem sG9:CtxOk Tryz.prog sG8:=cq ⟨uD9,nI1,nU7,nU9,nP3,pS3,trivial⟩
noncomputable def oX7:Code:=Tryz.f81.body.getD .skip
noncomputable def pZ6:Code:=wB4 oX7 0
noncomputable def qG7:Code:=wB4 pZ6 0
noncomputable def qG8:Code:=wB4 qG7 0
noncomputable def pZ7:Code:=wB4 qG8 0
theorem pK0:yX7 Tryz.prog sG8 pZ7:=lq sG9 (sp:=tN2) rfl [sV9]
theorem pK1:yX7 Tryz.prog sG8 qG8:=lm sG9 (sp:=tN7) rfl [sW0,sW1] (bs:=[pZ7]) ⟨pK0,trivial⟩
theorem pK2:yX7 Tryz.prog sG8 qG7:=lm sG9 (sp:=tO0) rfl [sW3,sW4] (bs:=[qG8]) ⟨pK1,trivial⟩
theorem pZ8:yX7 Tryz.prog sG8 pZ6:=lm sG9 (sp:=sG7) rfl [rT9,rU] (bs:=[qG7]) ⟨pK2,trivial⟩
theorem mP4:SK 81 qS1:=fl sG9 Tryz.func81 (bs:=[pZ6]) ⟨pZ8,trivial⟩
def f128 (p0:List UInt8):List (List UInt8):=Lib.fields p0
def sH (p0:List UInt8):Prop:=(List.length p0:Int)<=4294967280/\(p0.all λb=>decide (b.toNat<128))=true
instance (p0:List UInt8):Decidable (sH p0):=by
  unfold sH
  infer_instance
def nV:List (Nat×Sh):=[(0,Ci)]
def nV0:Sh:=Au
def nV1:List (Nat×Sh):=[]
def rU0:Am.Spec:=fnSpec nV nV0 nV1 (λx=>sH x.1) (λx=>f128 x.1) (λ_=>())
theorem tab0:G0=Lib.asciiSpaceTab:=by kernel_rfl
theorem nV2:SpecOk Tryz.prog 128 rU0:=xZ8 (F:=f128) (e:=9) (ok:=sH) ⟨_,Tryz.func128,by kernel_rfl,by decide⟩ λs w χ kj hg =>
  Any.strings_Fields_core Tryz.lays157 (by kernel_rfl) s w (by have h1:=kj.1;rw[jN] at h1;have h2:s.data.size=s.size:=rfl;omega)
    (λj b hj=>by have:=List.all_eq_true.1 kj.2 b (List.mem_of_getElem? hj);simpa using this)
    (λc hc=>by
      have h1:=wA8 hg (g:=0) (n:=256) (k:=.u8) (l:=G0) (jQ ..) c hc;rw[tab0,Lib.asciiSpaceTab_at c hc] at h1;exact h1)
def nV3 (p0:List UInt8)(p1:Int):Prop×Int:=
 (rC1 p0 p1,f167 p0 p1)
def sH0 p0 p1:=(nV3 p0 p1).1
def f129 p0 p1:=(nV3 p0 p1).2
instance (p0:List UInt8)(p1:Int):Decidable (sH0 p0 p1):=by
 unfold sH0 nV3
 try dsimp only
 infer_instance
def rU1:=sp2 vS At vI sH0 f129
def oX8:=Cy [(167,rP2)] [] [] 8
theorem nV4:SK 129 rU1:=fq (c:=oX8) Tryz.func129 ⟨nN3,trivial⟩
def nV5 (p0:Int)(p1:Int)(p2:Int)(p3:Int):Prop×(List D74):=
 let a:=([((1:Int),([(p0,p1,()),Z71,Z71]:List D71),()),((2:Int),([(p2,p1,()),Z71,Z71]:List D71),()),((2:Int),([(p2,p3,()),Z71,Z71]:List D71),()),((2:Int),([(p0,p3,()),Z71,Z71]:List D71),()),((5:Int),List.replicate 3 Z71,())]:List D74)
 (True,a)
def rF5 p0 p1 p2 p3:=(nV5 p0 p1 p2 p3).1
def f168 p0 p1 p2 p3:=(nV5 p0 p1 p2 p3).2
instance (p0:Int)(p1:Int)(p2:Int)(p3:Int):Decidable (rF5 p0 p1 p2 p3):=by
 unfold rF5 nV5
 try dsimp only
 infer_instance
def rU2:=sp4 vI vI vI vI Bi rF5 f168
def oX9:=Cy [] [] [(3,[(4,0,30,0)])] 31
theorem nV6:SK 168 rU2:=fq (c:=oX9) Tryz.func168 trivial
abbrev vU9:Type:=(Int×Int×(List D74)×Int×Unit)
abbrev vD:Type:=(Int×Unit)
def tY7 (y:vU9)(x:vD):Prop×Bool×vD:=
 let b:=x.1
 let a:=decide ((b+1)<7)
 let c:=b+1
 let d:=cond a (wC4 .i64 (wC5 y.2.1 c 64) (1:Int)==1) false
 (InR (b+1)/\(a=true->InR (b+1))/\(a=true->0<=c)/\(d=true->InR (b+1)),d,(b+1,()))
def uL9 y x:=(tY7 y x).1
def sH1 y x:=(tY7 y x).2.1
def uG4 y x:=(tY7 y x).2.2
instance (y:vU9)(x:vD):Decidable (uL9 y x):=by
 unfold uL9 tY7
 try dsimp only
 infer_instance
def tO1 (y:vU9)(x:vD):Int:=
 x.1
def sW6:List (Nat×Sh):=[(0,vI),(1,vI),(5,Bo),(6,vI),(7,vI)]
def tO2:St->Option Out:=xT3 [(0,vI),(1,vI),(5,Bo),(6,vI)] [(7,vI)] sH1 uG4 uL9 λy x=>[ex 4 none sW6 (y.1,y.2.1,y.2.2.1,y.2.2.2.1,(tO1 y x),())]
abbrev vV:Type:=(Unit)
abbrev vD0:Type:=(Int×Int×(List D74)×Int×Unit)
def tY8 (y:vV)(x:vD0):Prop×Bool×vD0:=
 let e:=x.1
 let o:=x.2.1
 let q:=x.2.2.1
 let d:=x.2.2.2.1
 let t:=decide (d<7)
 let b:=wC4 .i64 (wC5 o d 64) (1:Int)==0
 let f:=(e,o,q,d,())
 let s:=(d,())
 let a:=tO1 f (zB9 (sH1 f) (uG4 f) s)
 let l:=100*e
 let m:=100*d
 let i:=700-m
 let h:=100*e
 let n:=h+100
 let j:=100*a
 let g:=600-j
 let k:=f168 l i n g
 let c:=b||(!b)
 let r:=cond b d a
 (t=true->0<=d/\((!b)=true->Am.Ends (sH1 f) (uG4 f) (uL9 f) s/\InR (100*e)/\InR (100*d)/\InR (700-m)/\InR (100*e)/\InR (h+100)/\InR (100*a)/\InR (600-j)/\rF5 l i n g/\((List.length q+List.length k:Nat):Int)<=4294967296)/\(c=true->InR (r+1)),t&&c,(cond b e e,cond b o o,cond b q (q++k),r+1,()))
def uM y x:=(tY8 y x).1
def sH2 y x:=(tY8 y x).2.1
def uG5 y x:=(tY8 y x).2.2
instance (y:vV)(x:vD0):Decidable (uM y x):=by
 unfold uM tY8
 try dsimp only
 infer_instance
def tO3 (y:vV)(x:vD0):(List D74):=
 x.2.2.1
def tO4:St->Option Out:=xT3 [] [(0,vI),(1,vI),(5,Bo),(6,vI)] sH2 uG5 uM λy x=>[ex 2 none [(5,Bo)] ((tO3 y x),())]
def nV7 (p0:Int)(p1:Int):Prop×(List D74):=
 let a:=(p0,p1,([]:List D74),(0:Int),())
 (Am.Ends (sH2 ()) (uG5 ()) (uM ()) a,tO3 () (zB9 (sH2 ()) (uG5 ()) a))
def rF6 p0 p1:=(nV7 p0 p1).1
def f130 p0 p1:=(nV7 p0 p1).2
instance (p0:Int)(p1:Int):Decidable (rF6 p0 p1):=by
 unfold rF6 nV7
 try dsimp only
 infer_instance
def rU3:=sp2 vI vI Bi rF6 f130
def rF7:=Cy [(168,rU2)] [(7,tO2),(3,tO4)] [(19,[(4,0,44,1005)]),(23,[(4,0,1005,0)])] 47
theorem rF8:CtxOk Tryz.prog rF7:=cq ⟨nV6,trivial⟩
noncomputable def pZ9:Code:=Tryz.f130.body.getD .skip
noncomputable def qG9:Code:=wB4 pZ9 0
noncomputable def oA:Code:=wB4 qG9 0
theorem pK3:yX7 Tryz.prog rF7 oA:=lq rF8 (sp:=tO2) rfl [sW6]
theorem pK4:yX7 Tryz.prog rF7 qG9:=lm rF8 (sp:=tO4) rfl [[(5,Bo)]] (bs:=[oA]) ⟨pK3,trivial⟩
theorem nV8:SK 130 rU3:=fl rF8 Tryz.func130 (bs:=[qG9]) ⟨pK4,trivial⟩
abbrev vQ9:Type:=((List UInt8)×(List (List UInt8))×Int×Int×Int×Unit)
abbrev vA8:Type:=((Int×Int×Int×(List D137)×(List D142)×Unit)×(Int×Int×Int×(List D137)×(List D142)×Unit)×(Int×Int×(List D74)×Unit)×Int×Unit)
def rF9 (y:vQ9)(x:vA8):Prop×Bool×vA8:=
 let q:=y.1
 let i:=x.1
 let f:=x.2.1
 let o:=x.2.2.1
 let a:=x.2.2.2.1
 let b:=decide (a<y.2.2.2.2.1)
 let n:=2*a
 let h:=wB7 q n
 let e:=f129 ([48,49,50,51,52,53,54,55,56,57,97,98,99,100,101,102]:List UInt8) h
 let j:=16*e
 let g:=2*a
 let d:=g+1
 let m:=wB7 q d
 let k:=f129 ([48,49,50,51,52,53,54,55,56,57,97,98,99,100,101,102]:List UInt8) m
 let l:=j+k
 let c:=f130 a l
 (b=true->InR (2*a)/\InB n (len q)/\sH0 ([48,49,50,51,52,53,54,55,56,57,97,98,99,100,101,102]:List UInt8) h/\InR (16*e)/\InR (2*a)/\InR (g+1)/\InB d (len q)/\sH0 ([48,49,50,51,52,53,54,55,56,57,97,98,99,100,101,102]:List UInt8) m/\InR (j+k)/\rF6 a l/\((List.length o.2.2.1+List.length c:Nat):Int)<=4294967296/\InR (a+1),b,((i.1,i.2.1,i.2.2.1,i.2.2.2.1,i.2.2.2.2.1,()),(f.1,f.2.1,f.2.2.1,f.2.2.2.1,f.2.2.2.2.1,()),(o.1,o.2.1,o.2.2.1++c,()),a+1,()))
def uW9 y x:=(rF9 y x).1
def rG y x:=(rF9 y x).2.1
def uR0 y x:=(rF9 y x).2.2
instance (y:vQ9)(x:vA8):Decidable (uW9 y x):=by
 unfold uW9 rF9
 try dsimp only
 infer_instance
def sH3 (y:vQ9)(x:vA8):(Int×Int×Int×(List D137)×(List D142)×Unit):=
 let a:=x.1
 (a.1,a.2.1,a.2.2.1,a.2.2.2.1,a.2.2.2.2.1,())
def sH4 (y:vQ9)(x:vA8):(Int×Int×Int×(List D137)×(List D142)×Unit):=
 let a:=x.2.1
 (a.1,a.2.1,a.2.2.1,a.2.2.2.1,a.2.2.2.2.1,())
def sH5 (y:vQ9)(x:vA8):(Int×Int×(List D74)×Unit):=
 let a:=x.2.2.1
 (a.1,a.2.1,a.2.2.1,())
def rU4:List (Nat×Sh):=[(0,Ad),(1,Ae),(4,Bd),(8,Au),(9,vI),(10,vI)]
def sH6:St->Option Out:=xT3 [(3,vS),(8,Au),(9,vI),(10,vI),(21,vI)] [(0,Ad),(1,Ae),(4,Bd),(22,vI)] rG uR0 uW9 λy x=>[ex 4 none rU4 ((sH3 y x),(sH4 y x),(sH5 y x),y.2.1,y.2.2.1,y.2.2.2.1,())]
abbrev vZ4:Type:=((List (List UInt8))×Int×Unit)
abbrev vG9:Type:=((Int×Int×Int×(List D137)×(List D142)×Unit)×(Int×Int×Int×(List D137)×(List D142)×Unit)×Int×Unit)
def rG0 (y:vZ4)(x:vG9):Prop×Bool×vG9:=
 let l:=y.1
 let o:=y.2.1
 let k:=x.1
 let h:=x.2.1
 let d:=x.2.2.1
 let i:=decide (d<o)
 let f:=nth l d ([]:List UInt8)
 let g:=len f
 let e:=(f,l,o,d,Int.tdiv g (2:Int),())
 let n:=((k.1,k.2.1,k.2.2.1,k.2.2.2.1,k.2.2.2.2.1,()),(h.1,h.2.1,h.2.2.1,h.2.2.2.1,h.2.2.2.2.1,()),(IntKind.wrap .u8 (32+d),(600:Int),([]:List D74),()),(0:Int),())
 let m:=zB9 (rG e) (uR0 e) n
 let b:=sH3 e m
 let a:=sH4 e m
 let c:=sH5 e m
 let j:=([(c.1,c.2.1,c.2.2.1,())]:List D137)
 (i=true->InB d (len l)/\InR (32+d)/\InR (Int.tdiv g (2:Int))/\Am.Ends (rG e) (uR0 e) (uW9 e) n/\((List.length a.2.2.2.1+List.length j:Nat):Int)<=4294967296/\InR (d+1),i,((b.1,b.2.1,b.2.2.1,b.2.2.2.1,b.2.2.2.2.1,()),(a.1,a.2.1,a.2.2.1,a.2.2.2.1++j,a.2.2.2.2.1,()),d+1,()))
def uX y x:=(rG0 y x).1
def rG1 y x:=(rG0 y x).2.1
def uR1 y x:=(rG0 y x).2.2
instance (y:vZ4)(x:vG9):Decidable (uX y x):=by
 unfold uX rG0
 try dsimp only
 infer_instance
def qH (y:vZ4)(x:vG9):(Int×Int×Int×(List D137)×(List D142)×Unit):=
 let a:=x.1
 (a.1,a.2.1,a.2.2.1,a.2.2.2.1,a.2.2.2.2.1,())
def sH7 (y:vZ4)(x:vG9):(Int×Int×Int×(List D137)×(List D142)×Unit):=
 let a:=x.2.1
 (a.1,a.2.1,a.2.2.1,a.2.2.2.1,a.2.2.2.2.1,())
def rU5:List (Nat×Sh):=[(0,Ad),(1,Ae)]
def sH8:St->Option Out:=xT3 [(8,Au),(9,vI)] [(0,Ad),(1,Ae),(10,vI)] rG1 uR1 uX λy x=>[ex 2 none rU5 ((qH y x),(sH7 y x),())]
def f82t :Prop×D96:=
 let d:=f128 lit0
 let b:=(d,len d,())
 let e:=(((0:Int),(0:Int),(0:Int),([]:List D137),([]:List D142),()),((1000:Int),(800:Int),(1200:Int),([]:List D137),([]:List D142),()),(0:Int),())
 let a:=sH7 b (zB9 (rG1 b) (uR1 b) e)
 let c:=(a.1,a.2.1,a.2.2.1,a.2.2.2.1,([((65:Int),(86:Int),(-100:Int),()),((76:Int),(84:Int),(-100:Int),()),((84:Int),(97:Int),(-100:Int),()),((86:Int),(65:Int),(-100:Int),())]:List D142),())
 (sH lit0/\Am.Ends (rG1 b) (uR1 b) (uX b) e,c)
def rU6 :Prop:=(f82t).1
def f82 :D96:=(f82t).2
instance :Decidable (rU6):=by
 unfold rU6 f82t
 try dsimp only
 infer_instance
def qS2:Am.Spec:=fnSpec [] Bc [] (λx=>rU6 ) (λx=>f82 ) (λ_=>())
def qH0:=Cy [(128,rU0),(129,rU1),(130,rU3)] [(7,sH6),(3,sH8)] [(21,[(4,0,43,400400)]),(25,[(4,0,50,400100)]),(29,[(4,0,57,400101)]),(31,[(4,0,400100,400000),(4,0,400101,400001)])] 60
theorem qH1:CtxOk Tryz.prog qH0:=cq ⟨nV2,nV4,nV8,trivial⟩
noncomputable def oY:Code:=Tryz.f82.body.getD .skip
noncomputable def oA0:Code:=wB4 oY 0
noncomputable def nI4:Code:=wB4 oA0 0
theorem oA1:yX7 Tryz.prog qH0 nI4:=lq qH1 (sp:=sH6) rfl [rU4]
theorem oA2:yX7 Tryz.prog qH0 oA0:=lm qH1 (sp:=sH8) rfl [rU5] (bs:=[nI4]) ⟨oA1,trivial⟩
theorem mP5:SK 82 qS2:=fl qH1 Tryz.func82 (bs:=[oA0]) ⟨oA2,trivial⟩
abbrev vR:Type:=((List (List D71))×D25×(List (List D71))×Int×Unit)
abbrev vA9:Type:=(Int×Int×Unit)
def sH9 (y:vR)(x:vA9):Prop×Bool×vA9×Bool×Bool:=
 let e:=y.2.2.1
 let g:=x.1
 let a:=x.2.1
 let b:=decide (a<y.2.2.2.1)
 let d:=len (nth e a ([]:List D71))
 let f:=g+d
 let c:=decide (f>4096)
 (b=true->InB a (len e)/\InR (g+d)/\((!c)=true->InR (a+1)),b&&(!c),(f,a+1,()),b&&c,!b)
def uX0 y x:=(sH9 y x).1
def wQ0 y x:=(sH9 y x).2.1
def wF5 y x:=(sH9 y x).2.2.1
def vD1 y x:=(sH9 y x).2.2.2.1
def sI y x:=(sH9 y x).2.2.2.2
def uR2 (y:vR)(x:vA9):(List (List D71)):=
 ([]:List (List D71))
def sI0 (y:vR)(x:vA9):Int:=
 (3:Int)
def rU7:List (Nat×Sh):=[(4,Ao),(5,vI)]
def rU8:List (Nat×Sh):=[(0,Ai),(3,Ba)]
def sI1:St->Option Out:=xT3 [(0,Ai),(3,Ba),(21,Ai),(22,vI)] [(7,vI),(23,vI)] wQ0 wF5 uX0 λy x=>[ex 1 (some (vD1 y x)) rU7 ((uR2 y x),(sI0 y x),()),ex 2 (some (sI y x)) rU8 (y.1,y.2.1,())]
abbrev wO:Type:=(D25×Int×(List (List D71))×Int×Int×(List D71)×Int×Unit)
abbrev wJ4:Type:=(((List (List D71))×Nat)×Int×Unit)
def uX1 (y:wO)(x:wJ4):Prop×Bool×wJ4×Bool×Bool:=
 let l:=y.1
 let h:=y.2.1
 let k:=y.2.2.2.2.2.1
 let a:=x.1
 let b:=x.2.1
 let e:=decide (b<y.2.2.2.2.2.2.1)
 let f:=nth k b Z71
 let d:=f120 f
 let g:=f119 l f
 let i:=f120 g
 let j:=List.getD a.1 a.2 []
 let c:=(!d)&&(!i)
 (e=true->InB b (len k)/\tE2 f/\((!d)=true->rD4 l f/\tE2 g/\((!i)=true->InB h (len a.1)/\(Int.toNat h=a.2/\h<len a.1)/\InB b (len j)/\b<len j))/\(c=true->InR (b+1)),e&&c,((List.set a.1 a.2 (List.set (List.getD a.1 a.2 []) (Int.toNat b) g),a.2),b+1,()),e&&(d||((!d)&&i)),!e)
def wT2 y x:=(uX1 y x).1
def wD0 y x:=(uX1 y x).2.1
def wC8 y x:=(uX1 y x).2.2.1
def vV0 y x:=(uX1 y x).2.2.2.1
def wK5 y x:=(uX1 y x).2.2.2.2
def uG6 (y:wO)(x:wJ4):(List (List D71)):=
 ([]:List (List D71))
def tO5 (y:wO)(x:wJ4):Int:=
 (cond (f120 (nth y.2.2.2.2.2.1 x.2.1 Z71)) (2:Int) (2:Int))
def sW7:List (Nat×Sh):=[(4,Ao),(5,vI)]
def tO6 (y:wO)(x:wJ4):((List (List D71))×Nat):=
 let a:=x.1
 (a.1,a.2)
def sW8:List (Nat×Sh):=[(3,Ba),(10,(.ownh T71 1010 48 true)),(37,Ai),(38,vI),(39,vI)]
def tO7:St->Option Out:=xT3 [(3,Ba),(11,vI),(37,Ai),(38,vI),(39,vI),(50,As),(51,vI)] [(10,(.ownh T71 1010 48 true)),(52,vI)] wD0 wC8 wT2 λy x=>[ex 1 (some (vV0 y x)) sW7 ((uG6 y x),(tO5 y x),()),ex 6 (some (wK5 y x)) sW8 (y.1,(tO6 y x),y.2.2.1,y.2.2.2.1,y.2.2.2.2.1,())]
abbrev wJ5:Type:=(D25×(List (List D71))×Int×Unit)
abbrev wE9:Type:=((List (List D71))×Int×Unit)
def uX2 (y:wJ5)(x:wE9):Prop×Bool×wE9×Bool×Bool:=
 let f:=y.2.1
 let k:=y.2.2.1
 let h:=x.1
 let a:=x.2.1
 let e:=decide (a<k)
 let g:=nth f a ([]:List D71)
 let c:=len g
 let b:=(y.1,a,f,k,a,g,len g,())
 let j:=((List.set h (Int.toNat a) (List.replicate (Int.toNat c) Z71),Int.toNat a),(0:Int),())
 let i:=zB9 (wD0 b) (wC8 b) j
 let d:=wK5 b i
 (e=true->InB a (len f)/\(0<=c/\c<=c/\c<=4294967296)/\InB a (len h)/\a<len h/\Am.Ends (wD0 b) (wC8 b) (wT2 b) j/\(d=true->InR (a+1)),e&&d,((tO6 b i).1,a+1,()),e&&vV0 b i,!e)
def wT3 y x:=(uX2 y x).1
def wG1 y x:=(uX2 y x).2.1
def wD6 y x:=(uX2 y x).2.2.1
def wN1 y x:=(uX2 y x).2.2.2.1
def pK5 y x:=(uX2 y x).2.2.2.2
def vD2 (y:wJ5)(x:wE9):(List (List D71)):=
 let d:=y.2.1
 let a:=x.2.1
 let b:=nth d a ([]:List D71)
 let c:=(y.1,a,d,y.2.2.1,a,b,len b,())
 (uG6 c (zB9 (wD0 c) (wC8 c) ((List.set x.1 (Int.toNat a) (List.replicate (Int.toNat (len b)) Z71),Int.toNat a),(0:Int),())))
def vR0 (y:wJ5)(x:wE9):Int:=
 let d:=y.2.1
 let a:=x.2.1
 let b:=nth d a ([]:List D71)
 let c:=(y.1,a,d,y.2.2.1,a,b,len b,())
 (tO5 c (zB9 (wD0 c) (wC8 c) ((List.set x.1 (Int.toNat a) (List.replicate (Int.toNat (len b)) Z71),Int.toNat a),(0:Int),())))
def sW9:List (Nat×Sh):=[(4,Ao),(5,vI)]
def uG7 (y:wJ5)(x:wE9):(List (List D71)):=
 x.1
def sX:List (Nat×Sh):=[(10,(.own Ac 1010 true))]
def tO8:St->Option Out:=xT3 [(3,Ba),(37,Ai),(38,vI)] [(10,(.own Ac 1010 true)),(39,vI)] wG1 wD6 wT3 λy x=>[ex 1 (some (wN1 y x)) sW9 ((vD2 y x),(vR0 y x),()),ex 4 (some (pK5 y x)) sX ((uG7 y x),())]
def f83t (p0:(List (List D71)))(p1:D25):Prop×((List (List D71))×Int×Unit):=
 let h:=f9 p1
 let g:=h !=0
 let e:=(p0,p1,p0,len p0,())
 let k:=((0:Int),(0:Int),())
 let j:=zB9 (wQ0 e) (wF5 e) k
 let f:=vD1 e j
 let c:=len p0
 let a:=(p1,p0,len p0,())
 let i:=(List.replicate (Int.toNat c) ([]:List D71),(0:Int),())
 let d:=zB9 (wG1 a) (wD6 a) i
 let b:=wN1 a d
 (rQ7 p1/\((!g)=true->Am.Ends (wQ0 e) (wF5 e) (uX0 e) k/\(sI e j=true->(0<=c/\c<=c/\c<=4294967296)/\Am.Ends (wG1 a) (wD6 a) (wT3 a) i)),(cond g [] (cond f (uR2 e j) (cond b (vD2 a d) (uG7 a d))),cond g h (cond f (sI0 e j) (cond b (vR0 a d) (0:Int))),()))
def oA3 p0 p1:=(f83t p0 p1).1
def f83 p0 p1:=(f83t p0 p1).2
def qS3:=sp2 Ai Aq (.tup (.cons Ai (.cons vI .nl))) oA3 f83
def rG2:Ctx:=Cx tys [(9,sC9),(119,sE),(120,uV)] [(6,sI1),(18,tO7),(14,tO8)] [(25,[(4,0,36,1010)]),(54,[(1,10,0,0)]),(57,[(1,4,0,0),(4,0,1010,0)])] false 74 [] [36,48]
theorem rG3:CtxOk Tryz.prog rG2:=cq ⟨oV2,pW0,qE2,trivial⟩
noncomputable def qS4:Code:=Tryz.f83.body.getD .skip
noncomputable def nI5:Code:=wB4 qS4 0
theorem oA4:yX7 Tryz.prog rG2 nI5:=lq rG3 (sp:=sI1) rfl [rU7,rU8]
noncomputable def qH2:Code:=wB4 qS4 1
noncomputable def oA5:Code:=wB4 qH2 0
theorem pK6:yX7 Tryz.prog rG2 oA5:=lq rG3 (sp:=tO7) rfl [sW7,sW8]
theorem pK7:yX7 Tryz.prog rG2 qH2:=lm rG3 (sp:=tO8) rfl [sW9,sX] (bs:=[oA5]) ⟨pK6,trivial⟩
theorem mP6:SK 83 qS3:=fl rG3 Tryz.func83 (bs:=[nI5,qH2]) ⟨oA4,pK7,trivial⟩
def f41t (p0:D37):Prop×Int:=
 let a:=f81 f82 p0.2.2.2.2.2.2.2.2.2.2.2.2.2.2.2.2.2.2.2.2.2.2.2.1 p0.2.2.2.2.2.2.2.2.2.2.2.2.2.2.2.2.2.2.2.2.2.2.2.2.1 p0.2.2.2.2.2.2.2.2.2.2.2.2.2.2.2.2.2.2.2.2.2.2.2.2.2.1
 let f:=a.2.1 !=0
 let b:=f83 a.1 p0.2.2.2.2.2.2.2.2.2.2.1
 let d:=b.2.1 !=0
 let e:=f80 b.1 (0:Int)
 let c:=e !=0
 (rU6/\sW5 f82 p0.2.2.2.2.2.2.2.2.2.2.2.2.2.2.2.2.2.2.2.2.2.2.2.1 p0.2.2.2.2.2.2.2.2.2.2.2.2.2.2.2.2.2.2.2.2.2.2.2.2.1 p0.2.2.2.2.2.2.2.2.2.2.2.2.2.2.2.2.2.2.2.2.2.2.2.2.2.1/\((!f)=true->oA3 a.1 p0.2.2.2.2.2.2.2.2.2.2.1/\((!d)=true->sU6 b.1 (0:Int)/\((!c)=true->rR0 p0.2.2.2.2.2.2.2.2.2.2.2.2.2.1))),cond f a.2.1 (cond d b.2.1 (cond c e (f38 p0.2.2.2.2.2.2.2.2.2.2.2.2.2.1))))
def qS5 p0:=(f41t p0).1
def f41 p0:=(f41t p0).2
def qS6:=sp1 Aw vI qS5 f41
def nV9:=Cy [(38,tX5),(80,tX8),(81,qS1),(82,qS2),(83,qS3)] [] [(3,[(4,0,14,1003)])] 38
theorem mP7:SK 41 qS6:=fq (c:=nV9) Tryz.func41 ⟨pU8,pX4,mP4,mP5,mP6,trivial⟩
def f84t (p0:Int)(p1:Int):Prop×Bool:=
 let i:=p0==2
 let e:=p0==3
 let d:=p0==4
 let c:=cond d d (p0==11)
 let b:=p0==5
 let g:=cond b b (p0==9)
 let a:=p0==6
 let f:=cond a a (p0==7)
 let h:=cond e (cond (cond (decide (p1≥4)) (decide (p1<=16)) false) (Int.tmod p1 (2:Int)==0) false) (cond c (p1==2) (cond g (p1==3) (cond f (p1==1) (p1==9))))
 (True,cond (cond i true (cond e true (cond c true (cond g true (cond f true (p0==8)))))) (cond i (p1==5) h) (p1==0))
def oA6 p0 p1:=(f84t p0 p1).1
def f84 p0 p1:=(f84t p0 p1).2
def qS7:=sp2 vI vI vB oA6 f84
def nW:=Cy [] [] [] 44
theorem mP8:SK 84 qS7:=fq (c:=nW) Tryz.func84 trivial
def nW0 (p0:Int)(p1:Int):Prop×(Int×Int×Unit):=
 let c:=cond (p0==2) (p1==2) false
 let h:=p0==4
 let g:=cond (p0==5) (decide (p1>0)) false
 let a:=cond h h (cond g g (cond (p0==11) (p1==1) false))
 let d:=p0==5
 let b:=p0==7
 let e:=p0==8
 let j:=cond c true (cond a true (cond d true (cond b true (cond e true (p0==11)))))
 let i:=cond j (cond c (1:Int) (cond a (-65535:Int) (cond d (-32768:Int) (cond b (2:Int) (cond e (-262140:Int) (-128:Int)))))) (0:Int)
 let f:=cond j (cond c (256:Int) (cond a (65535:Int) (cond d (32768:Int) (cond b (256:Int) (cond e (262140:Int) (128:Int)))))) (65535:Int)
 (True,(i,f,()))
def qH3 p0 p1:=(nW0 p0 p1).1
def f131 p0 p1:=(nW0 p0 p1).2
def rU9:=sp2 vI vI (.tup (.cons vI (.cons vI .nl))) qH3 f131
def oY0:=Cy [] [] [] 40
theorem nW1:SK 131 rU9:=fq (c:=oY0) Tryz.func131 trivial
abbrev vZ5:Type:=(Int×(List Int)×(List D69)×(List Int)×Int×Unit)
abbrev vH:Type:=(Int×Unit)
def uR3 (y:vZ5)(x:vH):Prop×Bool×vH×Bool×Bool:=
 let g:=y.1
 let e:=y.2.2.2.1
 let a:=x.1
 let b:=decide (a<y.2.2.2.2.1)
 let f:=nth e a (0:Int)
 let d:=f131 g a
 let c:=cond (decide (f<d.1)) true (decide (f>d.2.1))
 (b=true->InB a (len e)/\qH3 g a/\((!c)=true->InR (a+1)),b&&(!c),(a+1,()),b&&c,!b)
def rV y x:=(uR3 y x).1
def vH0 y x:=(uR3 y x).2.1
def wO0 y x:=(uR3 y x).2.2.1
def vV1 y x:=(uR3 y x).2.2.2.1
def uX3 y x:=(uR3 y x).2.2.2.2
def sI2 (y:vZ5)(x:vH):Bool:=
 false
def rV0:List (Nat×Sh):=[(0,vI),(1,Aj),(2,Ak)]
def sI3:St->Option Out:=xT3 [(0,vI),(1,Aj),(2,Ak),(13,Aj),(14,vI)] [(15,vI)] vH0 wO0 rV λy x=>[ex 1 (some (vV1 y x)) [(6,vB)] ((sI2 y x),()),ex 2 (some (uX3 y x)) rV0 (y.1,y.2.1,y.2.2.1,())]
abbrev vM1:Type:=((List D69)×Int×Unit)
abbrev wW:Type:=(Int×Unit)
def vZ6 (y:vM1)(x:wW):Prop×Bool×wW×Bool×Bool:=
 let e:=y.1
 let a:=x.1
 let b:=decide (a<y.2.1)
 let c:=nth e a Z69
 let f:=cond (decide (c.1<0)) true (decide (c.1>65535))
 let d:=cond f true (!(f73 c.2.1))
 (b=true->InB a (len e)/\((!f)=true->sU0 c.2.1)/\((!d)=true->InR (a+1)),b&&(!d),(a+1,()),b&&d,!b)
def uM0 y x:=(vZ6 y x).1
def wW0 y x:=(vZ6 y x).2.1
def wL6 y x:=(vZ6 y x).2.2.1
def vJ5 y x:=(vZ6 y x).2.2.2.1
def pK8 y x:=(vZ6 y x).2.2.2.2
def tO9 (y:vM1)(x:wW):Bool:=
 false
def tP:St->Option Out:=xT3 [(55,Ak),(56,vI)] [(57,vI)] wW0 wL6 uM0 λy x=>[ex 1 (some (vJ5 y x)) [(6,vB)] ((tO9 y x),()),ex 4 (some (pK8 y x)) [] ()]
def f85t (p0:Int)(p1:List Int)(p2:List D69):Prop×Bool:=
 let b:=(p0,p1,p2,p1,len p1,())
 let j:=((0:Int),())
 let i:=zB9 (vH0 b) (wO0 b) j
 let f:=p0==9
 let c:=cond f (nth p1 (0:Int) (0:Int)==0) false
 let h:=cond c (nth p1 (1:Int) (0:Int)==0) false
 let e:=cond h (nth p1 (2:Int) (0:Int)==0) false
 let a:=(p2,len p2,())
 let d:=((0:Int),())
 let g:=zB9 (wW0 a) (wL6 a) d
 (Am.Ends (vH0 b) (wO0 b) (rV b) j/\(uX3 b i=true->(f=true->InB (0:Int) (len p1))/\(c=true->InB (1:Int) (len p1))/\(h=true->InB (2:Int) (len p1))/\((!e)=true->Am.Ends (wW0 a) (wL6 a) (uM0 a) d)),cond (vV1 b i) (sI2 b i) (cond e false (cond (vJ5 a g) (tO9 a g) true)))
def oA7 p0 p1 p2:=(f85t p0 p1 p2).1
def f85 p0 p1 p2:=(f85t p0 p1 p2).2
def qS8:=sp3 vI Aj Ak vB oA7 f85
def qH4:=Cy [(73,uU9),(131,rU9)] [(2,sI3),(11,tP)] [] 76
theorem qH5:CtxOk Tryz.prog qH4:=cq ⟨qP6,nW1,trivial⟩
noncomputable def qS9:Code:=Tryz.f85.body.getD .skip
noncomputable def nI6:Code:=wB4 qS9 0
theorem oA8:yX7 Tryz.prog qH4 nI6:=lq qH5 (sp:=sI3) rfl [[(6,vB)],rV0]
noncomputable def oA9:Code:=wB4 qS9 1
theorem pK9:yX7 Tryz.prog qH4 oA9:=lq qH5 (sp:=tP) rfl [[(6,vB)],[]]
theorem mP9:SK 85 qS8:=fl qH5 Tryz.func85 (bs:=[nI6,oA9]) ⟨oA8,pK9,trivial⟩
abbrev vZ7:Type:=((List Int)×(List D69)×Unit)
abbrev vH1:Type:=(Int×Unit)
def uR4 (y:vZ7)(x:vH1):Prop×Bool×vH1×Bool×Bool:=
 let e:=y.1
 let c:=x.1
 let a:=decide (c<len e)
 let d:=c-2
 let b:=decide (nth e c (0:Int)<=nth e d (0:Int))
 (a=true->InB c (len e)/\InR (c-2)/\InB d (len e)/\((!b)=true->InR (c+2)),a&&(!b),(c+2,()),a&&b,!a)
def sI4 y x:=(uR4 y x).1
def vR1 y x:=(uR4 y x).2.1
def wS6 y x:=(uR4 y x).2.2.1
def vV2 y x:=(uR4 y x).2.2.2.1
def rV1 y x:=(uR4 y x).2.2.2.2
def sI5 (y:vZ7)(x:vH1):Bool:=
 false
def sI6:St->Option Out:=xT3 [(1,Aj),(2,Ak)] [(7,vI)] vR1 wS6 sI4 λy x=>[ex 1 (some (vV2 y x)) [(6,vB)] ((sI5 y x),()),ex 2 (some (rV1 y x)) [(2,Ak)] (y.2.1,())]
abbrev vM2:Type:=((List D69)×Unit)
abbrev wW1:Type:=(Int×Unit)
def uX4 (y:vM2)(x:wW1):Prop×Bool×wW1×Bool×Bool:=
 let d:=y.1
 let b:=x.1
 let a:=decide (b<len d)
 let e:=b-1
 let c:=decide ((nth d b Z69).1<=(nth d e Z69).1)
 (a=true->InB b (len d)/\InR (b-1)/\InB e (len d)/\((!c)=true->InR (b+1)),a&&(!c),(b+1,()),a&&c,!a)
def uM1 y x:=(uX4 y x).1
def wW2 y x:=(uX4 y x).2.1
def wJ6 y x:=(uX4 y x).2.2.1
def vJ6 y x:=(uX4 y x).2.2.2.1
def pL y x:=(uX4 y x).2.2.2.2
def tP0 (y:vM2)(x:wW1):Bool:=
 false
def tP1:St->Option Out:=xT3 [(2,Ak)] [(8,vI)] wW2 wJ6 uM1 λy x=>[ex 1 (some (vJ6 y x)) [(6,vB)] ((tP0 y x),()),ex 4 (some (pL y x)) [] ()]
def f86t (p0:Int)(p1:List Int)(p2:List D69):Prop×Bool:=
 let d:=p0==2
 let g:=cond d (decide (nth p1 (1:Int) (0:Int)<=nth p1 (0:Int) (0:Int))) false
 let b:=p0==3
 let c:=(p1,p2,())
 let i:=((2:Int),())
 let h:=zB9 (vR1 c) (wS6 c) i
 let a:=(cond b p2 p2,())
 let f:=((1:Int),())
 let e:=zB9 (wW2 a) (wJ6 a) f
 ((d=true->InB (1:Int) (len p1))/\(d=true->InB (0:Int) (len p1))/\((!g)=true->(b=true->Am.Ends (vR1 c) (wS6 c) (sI4 c) i)/\((cond b (rV1 c h) true)=true->Am.Ends (wW2 a) (wJ6 a) (uM1 a) f)),cond g false (cond (vV2 c h&&b) (sI5 c h) (cond (vJ6 a e) (tP0 a e) true)))
def oB p0 p1 p2:=(f86t p0 p1 p2).1
def f86 p0 p1 p2:=(f86t p0 p1 p2).2
def qT:=sp3 vI Aj Ak vB oB f86
def qH6:=Cy [] [(5,sI6),(10,tP1)] [] 56
theorem qH7:CtxOk Tryz.prog qH6:=cq trivial
noncomputable def qT0:Code:=Tryz.f86.body.getD .skip
noncomputable def nI7:Code:=wB4 qT0 0
theorem oB0:yX7 Tryz.prog qH6 nI7:=lq qH7 (sp:=sI6) rfl [[(6,vB)],[(2,Ak)]]
noncomputable def oB1:Code:=wB4 qT0 1
theorem pL0:yX7 Tryz.prog qH6 oB1:=lq qH7 (sp:=tP1) rfl [[(6,vB)],[]]
theorem mQ:SK 86 qT:=fl qH7 Tryz.func86 (bs:=[nI7,oB1]) ⟨oB0,pL0,trivial⟩
def f42t (p0:Int)(p1:List Int)(p2:List D69):Prop×Int:=
 let a:=cond (decide (p0<1)) true (decide (p0>11))
 let e:=len p1
 let d:=cond (!(f84 p0 e)) true (!(Ty.eqb .bool (decide (len p2>0)) (p0==10)))
 let b:=decide (len p2>16)
 let c:=!(f85 p0 p1 p2)
 let f:=cond (cond a true (cond d true (cond b true (cond c true (!(f86 p0 p1 p2)))))) (cond a (8:Int) (cond d (1:Int) (cond b (3:Int) (cond c (2:Int) (24:Int))))) (0:Int)
 (a=false->oA6 p0 e/\(d=false->b=false->oA7 p0 p1 p2/\(c=false->oB p0 p1 p2)),f)
def oB2 p0 p1 p2:=(f42t p0 p1 p2).1
def f42 p0 p1 p2:=(f42t p0 p1 p2).2
def qT1:=sp3 vI Aj Ak vI oB2 f42
def nW2:=Cy [(84,qS7),(85,qS8),(86,qT)] [] [] 44
theorem mQ0:SK 42 qT1:=fq (c:=nW2) Tryz.func42 ⟨mP8,mP9,mQ,trivial⟩
def f87t (p0:Int):Prop×(List D71):=
 let i:=p0==1
 let h:=p0==7
 let a:=cond i i (cond h h (p0==8))
 let d:=p0==2
 let e:=p0==4
 let f:=p0==3
 let c:=p0==9
 let g:=cond f ([((0:Int),(16:Int),()),((0:Int),(262140:Int),())]:List D71) (cond c ([((-16:Int),(16:Int),()),((-16:Int),(16:Int),())]:List D71) ([((1:Int),(16:Int),())]:List D71))
 let b:=cond (cond a true (cond d true (cond e true (cond f true (cond c true (p0==10)))))) (cond a ([((0:Int),(16:Int),())]:List D71) (cond d ([((0:Int),(7:Int),())]:List D71) (cond e ([((0:Int),(4:Int),())]:List D71) g))) []
 (True,b)
def rV2 p0:=(f87t p0).1
def f87 p0:=(f87t p0).2
instance (p0:Int):Decidable (rV2 p0):=by
 unfold rV2 f87t
 try dsimp only
 infer_instance
def qT2:=sp1 vI Cb rV2 f87
def nW3:=Cy [] [] [(11,[(4,0,9,0)]),(15,[(4,0,13,0)]),(19,[(4,0,17,0)]),(23,[(4,0,22,0)]),(27,[(4,0,27,0)]),(31,[(4,0,31,0)])] 32
theorem mQ1:SK 87 qT2:=fq (c:=nW3) Tryz.func87 trivial
abbrev vR2:Type:=((List D71)×(List Int)×Int×Unit)
abbrev vB0:Type:=(Int×Unit)
def tF4 (y:vR2)(x:vB0):Prop×Bool×vB0×Bool×Bool:=
 let g:=y.1
 let e:=y.2.1
 let a:=x.1
 let b:=decide (a<y.2.2.1)
 let f:=nth e a (0:Int)
 let d:=decide (f<(nth g a Z71).1)
 let c:=cond d true (decide (f>(nth g a Z71).2.1))
 (b=true->InB a (len e)/\InB a (len g)/\((!d)=true->InB a (len g))/\((!c)=true->InR (a+1)),b&&(!c),(a+1,()),b&&c,!b)
def uX5 y x:=(tF4 y x).1
def wQ1 y x:=(tF4 y x).2.1
def wF6 y x:=(tF4 y x).2.2.1
def wO1 y x:=(tF4 y x).2.2.2.1
def oB3 y x:=(tF4 y x).2.2.2.2
instance (y:vR2)(x:vB0):Decidable (uX5 y x):=by
 unfold uX5 tF4
 try dsimp only
 infer_instance
def sI7 (y:vR2)(x:vB0):Int:=
 (2:Int)
def sI8:St->Option Out:=xT3 [(5,Bb),(21,Aj),(22,vI)] [(23,vI)] wQ1 wF6 uX5 λy x=>[ex 1 (some (wO1 y x)) [(4,vI)] ((sI7 y x),()),ex 2 (some (oB3 y x)) [] ()]
def f43t (p0:Int)(p1:List Int):Prop×Int:=
 let b:=cond (decide (p0<1)) true (decide (p0>10))
 let d:=f87 p0
 let c:=len p1 !=len d
 let a:=(d,p1,len p1,())
 let f:=((0:Int),())
 let e:=zB9 (wQ1 a) (wF6 a) f
 ((!b)=true->rV2 p0/\((!c)=true->Am.Ends (wQ1 a) (wF6 a) (uX5 a) f),cond b (8:Int) (cond c (1:Int) (cond (wO1 a e) (sI7 a e) (0:Int))))
def sX0 p0 p1:=(f43t p0 p1).1
def f43 p0 p1:=(f43t p0 p1).2
instance (p0:Int)(p1:List Int):Decidable (sX0 p0 p1):=by
 unfold sX0 f43t
 try dsimp only
 infer_instance
def rG4:=sp2 vI Aj vI sX0 f43
def oB4:=Cy [(87,qT2)] [(7,sI8)] [(7,[(4,0,15,1005)])] 45
theorem oB5:CtxOk Tryz.prog oB4:=cq ⟨mQ1,trivial⟩
noncomputable def oY1:Code:=Tryz.f43.body.getD .skip
noncomputable def nI8:Code:=wB4 oY1 0
theorem oB6:yX7 Tryz.prog oB4 nI8:=lq oB5 (sp:=sI8) rfl [[(4,vI)],[]]
theorem nI9:SK 43 rG4:=fl oB5 Tryz.func43 (bs:=[nI8]) ⟨oB6,trivial⟩
abbrev vR3:Type:=((List D71)×Int×Unit)
abbrev vB1:Type:=(Int×Unit)
def tF5 (y:vR3)(x:vB1):Prop×Bool×vB1×Bool×Bool:=
 let e:=y.1
 let a:=x.1
 let b:=decide (a<y.2.1)
 let c:=nth e a Z71
 let d:=cond (cond (cond (decide (c.1<(-1048576))) true (decide (c.1>1048576))) true (decide (c.2.1<(-1048576)))) true (decide (c.2.1>1048576))
 (b=true->InB a (len e)/\((!d)=true->InR (a+1)),b&&(!d),(a+1,()),b&&d,!b)
def uG8 y x:=(tF5 y x).1
def tY9 y x:=(tF5 y x).2.1
def vZ8 y x:=(tF5 y x).2.2.1
def rV3 y x:=(tF5 y x).2.2.2.1
def oB7 y x:=(tF5 y x).2.2.2.2
instance (y:vR3)(x:vB1):Decidable (uG8 y x):=by
 unfold uG8 tF5
 try dsimp only
 infer_instance
def sI9 (y:vR3)(x:vB1):Int:=
 (2:Int)
def sJ:St->Option Out:=xT3 [(43,As),(44,vI)] [(45,vI)] tY9 vZ8 uG8 λy x=>[ex 1 (some (rV3 y x)) [(2,vI)] ((sI9 y x),()),ex 2 (some (oB7 y x)) [] ()]
def f44t (p0:D35):Prop×Int:=
 let b:=cond (cond (cond (decide (p0.1<2)) true (decide (p0.1>8))) true (decide (p0.2.1<2))) true (decide (p0.2.1>8))
 let c:=cond (decide (p0.2.2.1<1)) true (decide (p0.2.2.1>256))
 let d:=cond c true (len p0.2.2.2.1!=(p0.1*p0.2.1))
 let a:=(p0.2.2.2.1,len p0.2.2.2.1,())
 let f:=((0:Int),())
 let e:=zB9 (tY9 a) (vZ8 a) f
 ((!b)=true->((!c)=true->InR (p0.1*p0.2.1))/\((!d)=true->Am.Ends (tY9 a) (vZ8 a) (uG8 a) f),cond b (15:Int) (cond d (15:Int) (cond (rV3 a e) (sI9 a e) (0:Int))))
def sJ0 p0:=(f44t p0).1
def f44 p0:=(f44t p0).2
instance (p0:D35):Decidable (sJ0 p0):=by
 unfold sJ0 f44t
 try dsimp only
 infer_instance
def rG5:=sp1 By vI sJ0 f44
def oB8:=Cy [] [(6,sJ)] [] 68
theorem oB9:CtxOk Tryz.prog oB8:=cq trivial
noncomputable def oY2:Code:=Tryz.f44.body.getD .skip
noncomputable def nJ:Code:=wB4 oY2 0
theorem oC:yX7 Tryz.prog oB8 nJ:=lq oB9 (sp:=sJ) rfl [[(2,vI)],[]]
theorem nJ0:SK 44 rG5:=fl oB9 Tryz.func44 (bs:=[nJ]) ⟨oC,trivial⟩
def f13t (p0:D37):Prop×Int:=
 let m:=p0.2.1==2
 let c:=p0.2.1==3
 let b:=p0.2.1==4
 let e:=p0.2.1==5
 let a:=p0.2.1==6
 let d:=p0.2.1==7
 let f:=p0.2.1==8
 let j:=p0.2.1==9
 let g:=cond j j (p0.2.1==10)
 let k:=p0.2.1==11
 let n:=cond f true (cond g (cond (decide (p0.2.2.2.2.2.2.2.2.2.2.2.2.2.2.2.2.2.2.2.2.2.2.2.2.2.2.1<1)) true (decide (p0.2.2.2.2.2.2.2.2.2.2.2.2.2.2.2.2.2.2.2.2.2.2.2.2.2.2.1>1073741824))) k)
 let l:=cond d (f42 p0.2.2.2.2.2.2.2.2.2.2.2.2.2.2.1 p0.2.2.2.2.2.2.2.2.2.2.2.2.2.2.2.1 p0.2.2.2.2.2.2.2.2.2.2.2.2.2.2.2.2.2.1) (cond f (f43 p0.2.2.2.2.2.2.2.2.2.2.2.2.2.2.1 p0.2.2.2.2.2.2.2.2.2.2.2.2.2.2.2.1) (cond g (2:Int) (f44 p0.2.2.2.2.2.2.2.2.2.2.2.2.2.2.2.2.2.2.2.2.2.2.2.2.2.2.2.1)))
 let h:=cond b (f39 p0.2.2.2.2.2.2.2.2.2.2.2.2.2.2.1 p0.2.2.2.2.2.2.2.2.2.2.2.2.2.2.2.1 p0.2.2.2.2.2.2.2.2.2.2.2.2.2.2.2.2.1 p0.2.2.2.2.2.2.2.2.2.2.2.2.2.2.2.2.2.1) (cond e (f40 p0) (cond a (f41 p0) l))
 let i:=cond (cond m true (cond c true (cond b true (cond e true (cond a true (cond d true n)))))) (cond m (f37 p0.2.2.2.2.2.2.2.2.2.2.2.2.1) (cond c (f38 p0.2.2.2.2.2.2.2.2.2.2.2.2.2.1) h)) (0:Int)
 ((m=true->qP7 p0.2.2.2.2.2.2.2.2.2.2.2.2.1)/\(m=false->(c=true->rR0 p0.2.2.2.2.2.2.2.2.2.2.2.2.2.1)/\(c=false->(b=true->pV6 p0.2.2.2.2.2.2.2.2.2.2.2.2.2.2.1 p0.2.2.2.2.2.2.2.2.2.2.2.2.2.2.2.1 p0.2.2.2.2.2.2.2.2.2.2.2.2.2.2.2.2.1 p0.2.2.2.2.2.2.2.2.2.2.2.2.2.2.2.2.2.1)/\(b=false->(e=true->pY9 p0)/\(e=false->(a=true->qS5 p0)/\(a=false->(d=true->oB2 p0.2.2.2.2.2.2.2.2.2.2.2.2.2.2.1 p0.2.2.2.2.2.2.2.2.2.2.2.2.2.2.2.1 p0.2.2.2.2.2.2.2.2.2.2.2.2.2.2.2.2.2.1)/\(d=false->(f=true->sX0 p0.2.2.2.2.2.2.2.2.2.2.2.2.2.2.1 p0.2.2.2.2.2.2.2.2.2.2.2.2.2.2.2.1)/\(f=false->g=false->k=true->sJ0 p0.2.2.2.2.2.2.2.2.2.2.2.2.2.2.2.2.2.2.2.2.2.2.2.2.2.2.2.1))))))),i)
def oC0 p0:=(f13t p0).1
def f13 p0:=(f13t p0).2
def qT3:=sp1 Aw vI oC0 f13
def nW4:=Cy [(37,qP8),(38,tX5),(39,qQ1),(40,qR5),(41,qS6),(42,qT1),(43,rG4),(44,rG5)] [] [] 66
theorem mQ2:SK 13 qT3:=fq (c:=nW4) Tryz.func13 ⟨mN7,pU8,mO,mP1,mP7,mQ0,nI9,nJ0,trivial⟩
def f14t (p0:D37):Prop×Bool:=
 let f:=cond (cond (!(Ty.eqb T25 p0.2.2.2.2.2.2.2.2.2.2.1 ((0:Int),(0:Int),(0:Int),(0:Int),(0:Int),(0:Int),()))) true (p0.2.2.2.2.2.2.2.2.2.2.2.1 !=0)) true (!(Ty.eqb T30 p0.2.2.2.2.2.2.2.2.2.2.2.2.2.1 ((0:Int),(0:Int),(0:Int),(0:Int),())))
 let c:=cond (cond (cond (p0.2.2.2.2.2.2.2.2.2.2.2.2.2.2.1 !=0) true (len p0.2.2.2.2.2.2.2.2.2.2.2.2.2.2.2.1!=0)) true (p0.2.2.2.2.2.2.2.2.2.2.2.2.2.2.2.2.1 !=0)) true (len p0.2.2.2.2.2.2.2.2.2.2.2.2.2.2.2.2.2.1!=0)
 let d:=cond (cond (cond (len p0.2.2.2.2.2.2.2.2.2.2.2.2.2.2.2.2.2.2.1!=0) true (p0.2.2.2.2.2.2.2.2.2.2.2.2.2.2.2.2.2.2.2.1 !=0)) true (p0.2.2.2.2.2.2.2.2.2.2.2.2.2.2.2.2.2.2.2.2.1 !=0)) true (p0.2.2.2.2.2.2.2.2.2.2.2.2.2.2.2.2.2.2.2.2.2.1 !=0)
 let e:=cond (cond (!(p0.2.2.2.2.2.2.2.2.2.2.2.2.2.2.2.2.2.2.2.2.2.2.2.1==([]:List UInt8))) true (p0.2.2.2.2.2.2.2.2.2.2.2.2.2.2.2.2.2.2.2.2.2.2.2.2.1 !=0)) true (p0.2.2.2.2.2.2.2.2.2.2.2.2.2.2.2.2.2.2.2.2.2.2.2.2.2.1 !=0)
 let a:=cond (cond (p0.2.2.2.2.2.2.2.2.2.2.2.2.2.2.2.2.2.2.2.2.2.2.2.2.2.2.2.1.1==0) (p0.2.2.2.2.2.2.2.2.2.2.2.2.2.2.2.2.2.2.2.2.2.2.2.2.2.2.2.1.2.1==0) false) (p0.2.2.2.2.2.2.2.2.2.2.2.2.2.2.2.2.2.2.2.2.2.2.2.2.2.2.2.1.2.2.1==0) false
 let g:=cond (cond e true (p0.2.2.2.2.2.2.2.2.2.2.2.2.2.2.2.2.2.2.2.2.2.2.2.2.2.2.1 !=0)) false (cond a (len p0.2.2.2.2.2.2.2.2.2.2.2.2.2.2.2.2.2.2.2.2.2.2.2.2.2.2.2.1.2.2.2.1==0) false)
 let b:=cond (cond (cond (p0.2.2.2.2.2.2.2.2.2.2.2.2.1.1 !=0) true (p0.2.2.2.2.2.2.2.2.2.2.2.2.1.2.1 !=0)) true (len p0.2.2.2.2.2.2.2.2.2.2.2.2.1.2.2.1!=0)) false (cond c false (cond (cond d true (p0.2.2.2.2.2.2.2.2.2.2.2.2.2.2.2.2.2.2.2.2.2.2.1 !=0)) false g))
 (True,cond f false b)
def oC1 p0:=(f14t p0).1
def f14 p0:=(f14t p0).2
def qT4:=sp1 Aw vB oC1 f14
def nW5:=Cy [] [] [] 120
theorem mQ3:SK 14 qT4:=fq (c:=nW5) Tryz.func14 trivial
def f15t (p0:D37):Prop×D37:=
 let l:=(p0.1,p0.2.1,p0.2.2.1,p0.2.2.2.1,p0.2.2.2.2.1,p0.2.2.2.2.2.1,p0.2.2.2.2.2.2.1,p0.2.2.2.2.2.2.2.1,p0.2.2.2.2.2.2.2.2.1,p0.2.2.2.2.2.2.2.2.2.1,((0:Int),(0:Int),(0:Int),(0:Int),(0:Int),(0:Int),()),p0.2.2.2.2.2.2.2.2.2.2.2)
 let b:=cond (f8 p0.2.1) l p0
 let n:=(b.1,b.2.1,b.2.2.1,b.2.2.2.1,b.2.2.2.2.1,b.2.2.2.2.2.1,b.2.2.2.2.2.2.1,b.2.2.2.2.2.2.2.1,b.2.2.2.2.2.2.2.2.1,b.2.2.2.2.2.2.2.2.2.1,b.2.2.2.2.2.2.2.2.2.2.1,(0:Int),b.2.2.2.2.2.2.2.2.2.2.2.2)
 let a:=cond (f11 b.2.1) n b
 let o:=(a.1,a.2.1,a.2.2.1,a.2.2.2.1,a.2.2.2.2.1,a.2.2.2.2.2.1,a.2.2.2.2.2.2.1,a.2.2.2.2.2.2.2.1,a.2.2.2.2.2.2.2.2.1,a.2.2.2.2.2.2.2.2.2.1,a.2.2.2.2.2.2.2.2.2.2.1,a.2.2.2.2.2.2.2.2.2.2.2.1,((0:Int),(0:Int),([]:List D30),()),a.2.2.2.2.2.2.2.2.2.2.2.2.2)
 let m:=(a.1,a.2.1,a.2.2.1,a.2.2.2.1,a.2.2.2.2.1,a.2.2.2.2.2.1,a.2.2.2.2.2.2.1,a.2.2.2.2.2.2.2.1,a.2.2.2.2.2.2.2.2.1,a.2.2.2.2.2.2.2.2.2.1,a.2.2.2.2.2.2.2.2.2.2.1,a.2.2.2.2.2.2.2.2.2.2.2.1,a.2.2.2.2.2.2.2.2.2.2.2.2.1,((0:Int),(0:Int),(0:Int),(0:Int),()),a.2.2.2.2.2.2.2.2.2.2.2.2.2.2)
 let j:=(a.1,a.2.1,a.2.2.1,a.2.2.2.1,a.2.2.2.2.1,a.2.2.2.2.2.1,a.2.2.2.2.2.2.1,a.2.2.2.2.2.2.2.1,a.2.2.2.2.2.2.2.2.1,a.2.2.2.2.2.2.2.2.2.1,a.2.2.2.2.2.2.2.2.2.2.1,a.2.2.2.2.2.2.2.2.2.2.2.1,a.2.2.2.2.2.2.2.2.2.2.2.2.1,a.2.2.2.2.2.2.2.2.2.2.2.2.2.1,(0:Int),([]:List Int),(0:Int),([]:List D69),a.2.2.2.2.2.2.2.2.2.2.2.2.2.2.2.2.2.2)
 let h:=(a.1,a.2.1,a.2.2.1,a.2.2.2.1,a.2.2.2.2.1,a.2.2.2.2.2.1,a.2.2.2.2.2.2.1,a.2.2.2.2.2.2.2.1,a.2.2.2.2.2.2.2.2.1,a.2.2.2.2.2.2.2.2.2.1,a.2.2.2.2.2.2.2.2.2.2.1,a.2.2.2.2.2.2.2.2.2.2.2.1,a.2.2.2.2.2.2.2.2.2.2.2.2.1,((0:Int),(0:Int),(0:Int),(0:Int),()),a.2.2.2.2.2.2.2.2.2.2.2.2.2.2.1,a.2.2.2.2.2.2.2.2.2.2.2.2.2.2.2.1,a.2.2.2.2.2.2.2.2.2.2.2.2.2.2.2.2.1,a.2.2.2.2.2.2.2.2.2.2.2.2.2.2.2.2.2.1,([]:List D74),(0:Int),(0:Int),(0:Int),(0:Int),a.2.2.2.2.2.2.2.2.2.2.2.2.2.2.2.2.2.2.2.2.2.2.2)
 let c:=(a.1,a.2.1,a.2.2.1,a.2.2.2.1,a.2.2.2.2.1,a.2.2.2.2.2.1,a.2.2.2.2.2.2.1,a.2.2.2.2.2.2.2.1,a.2.2.2.2.2.2.2.2.1,a.2.2.2.2.2.2.2.2.2.1,a.2.2.2.2.2.2.2.2.2.2.1,a.2.2.2.2.2.2.2.2.2.2.2.1,a.2.2.2.2.2.2.2.2.2.2.2.2.1,((0:Int),(0:Int),(0:Int),(0:Int),()),a.2.2.2.2.2.2.2.2.2.2.2.2.2.2.1,a.2.2.2.2.2.2.2.2.2.2.2.2.2.2.2.1,a.2.2.2.2.2.2.2.2.2.2.2.2.2.2.2.2.1,a.2.2.2.2.2.2.2.2.2.2.2.2.2.2.2.2.2.1,a.2.2.2.2.2.2.2.2.2.2.2.2.2.2.2.2.2.2.1,a.2.2.2.2.2.2.2.2.2.2.2.2.2.2.2.2.2.2.2.1,a.2.2.2.2.2.2.2.2.2.2.2.2.2.2.2.2.2.2.2.2.1,a.2.2.2.2.2.2.2.2.2.2.2.2.2.2.2.2.2.2.2.2.2.1,a.2.2.2.2.2.2.2.2.2.2.2.2.2.2.2.2.2.2.2.2.2.2.1,([]:List UInt8),(0:Int),(0:Int),a.2.2.2.2.2.2.2.2.2.2.2.2.2.2.2.2.2.2.2.2.2.2.2.2.2.2)
 let d:=(a.1,a.2.1,a.2.2.1,a.2.2.2.1,a.2.2.2.2.1,a.2.2.2.2.2.1,a.2.2.2.2.2.2.1,a.2.2.2.2.2.2.2.1,a.2.2.2.2.2.2.2.2.1,a.2.2.2.2.2.2.2.2.2.1,a.2.2.2.2.2.2.2.2.2.2.1,a.2.2.2.2.2.2.2.2.2.2.2.1,a.2.2.2.2.2.2.2.2.2.2.2.2.1,a.2.2.2.2.2.2.2.2.2.2.2.2.2.1,(0:Int),([]:List Int),a.2.2.2.2.2.2.2.2.2.2.2.2.2.2.2.2.1,([]:List D69),a.2.2.2.2.2.2.2.2.2.2.2.2.2.2.2.2.2.2)
 let f:=(a.1,a.2.1,a.2.2.1,a.2.2.2.1,a.2.2.2.2.1,a.2.2.2.2.2.1,a.2.2.2.2.2.2.1,a.2.2.2.2.2.2.2.1,a.2.2.2.2.2.2.2.2.1,a.2.2.2.2.2.2.2.2.2.1,a.2.2.2.2.2.2.2.2.2.2.1,a.2.2.2.2.2.2.2.2.2.2.2.1,a.2.2.2.2.2.2.2.2.2.2.2.2.1,a.2.2.2.2.2.2.2.2.2.2.2.2.2.1,(0:Int),([]:List Int),a.2.2.2.2.2.2.2.2.2.2.2.2.2.2.2.2)
 let g:=a.2.1==9
 let k:=(a.1,a.2.1,a.2.2.1,a.2.2.2.1,a.2.2.2.2.1,a.2.2.2.2.2.1,a.2.2.2.2.2.2.1,a.2.2.2.2.2.2.2.1,a.2.2.2.2.2.2.2.2.1,a.2.2.2.2.2.2.2.2.2.1,a.2.2.2.2.2.2.2.2.2.2.1,a.2.2.2.2.2.2.2.2.2.2.2.1,a.2.2.2.2.2.2.2.2.2.2.2.2.1,a.2.2.2.2.2.2.2.2.2.2.2.2.2.1,a.2.2.2.2.2.2.2.2.2.2.2.2.2.2.1,a.2.2.2.2.2.2.2.2.2.2.2.2.2.2.2.1,a.2.2.2.2.2.2.2.2.2.2.2.2.2.2.2.2.1,a.2.2.2.2.2.2.2.2.2.2.2.2.2.2.2.2.2.1,a.2.2.2.2.2.2.2.2.2.2.2.2.2.2.2.2.2.2.1,a.2.2.2.2.2.2.2.2.2.2.2.2.2.2.2.2.2.2.2.1,a.2.2.2.2.2.2.2.2.2.2.2.2.2.2.2.2.2.2.2.2.1,a.2.2.2.2.2.2.2.2.2.2.2.2.2.2.2.2.2.2.2.2.2.1,a.2.2.2.2.2.2.2.2.2.2.2.2.2.2.2.2.2.2.2.2.2.2.1,a.2.2.2.2.2.2.2.2.2.2.2.2.2.2.2.2.2.2.2.2.2.2.2.1,a.2.2.2.2.2.2.2.2.2.2.2.2.2.2.2.2.2.2.2.2.2.2.2.2.1,a.2.2.2.2.2.2.2.2.2.2.2.2.2.2.2.2.2.2.2.2.2.2.2.2.2.1,(0:Int),a.2.2.2.2.2.2.2.2.2.2.2.2.2.2.2.2.2.2.2.2.2.2.2.2.2.2.2.1,())
 let e:=(a.1,a.2.1,a.2.2.1,a.2.2.2.1,a.2.2.2.2.1,a.2.2.2.2.2.1,a.2.2.2.2.2.2.1,a.2.2.2.2.2.2.2.1,a.2.2.2.2.2.2.2.2.1,a.2.2.2.2.2.2.2.2.2.1,a.2.2.2.2.2.2.2.2.2.2.1,a.2.2.2.2.2.2.2.2.2.2.2.1,a.2.2.2.2.2.2.2.2.2.2.2.2.1,a.2.2.2.2.2.2.2.2.2.2.2.2.2.1,a.2.2.2.2.2.2.2.2.2.2.2.2.2.2.1,a.2.2.2.2.2.2.2.2.2.2.2.2.2.2.2.1,a.2.2.2.2.2.2.2.2.2.2.2.2.2.2.2.2.1,a.2.2.2.2.2.2.2.2.2.2.2.2.2.2.2.2.2.1,a.2.2.2.2.2.2.2.2.2.2.2.2.2.2.2.2.2.2.1,a.2.2.2.2.2.2.2.2.2.2.2.2.2.2.2.2.2.2.2.1,a.2.2.2.2.2.2.2.2.2.2.2.2.2.2.2.2.2.2.2.2.1,a.2.2.2.2.2.2.2.2.2.2.2.2.2.2.2.2.2.2.2.2.2.1,a.2.2.2.2.2.2.2.2.2.2.2.2.2.2.2.2.2.2.2.2.2.2.1,a.2.2.2.2.2.2.2.2.2.2.2.2.2.2.2.2.2.2.2.2.2.2.2.1,a.2.2.2.2.2.2.2.2.2.2.2.2.2.2.2.2.2.2.2.2.2.2.2.2.1,a.2.2.2.2.2.2.2.2.2.2.2.2.2.2.2.2.2.2.2.2.2.2.2.2.2.1,a.2.2.2.2.2.2.2.2.2.2.2.2.2.2.2.2.2.2.2.2.2.2.2.2.2.2.1,((0:Int),(0:Int),(0:Int),([]:List D71),()),())
 let i:=cond (a.2.1==6) c (cond (a.2.1==7) d (cond (a.2.1==8) f (cond (cond g g (a.2.1==10)) k (cond (a.2.1==11) e a))))
 (qD9 p0.2.1/\sD b.2.1,cond (a.2.1==2) o (cond (a.2.1==3) m (cond (a.2.1==4) j (cond (a.2.1==5) h i))))
def qT5 p0:=(f15t p0).1
def f15 p0:=(f15t p0).2
def qT6:=sp1 Aw Aw qT5 f15
def nW6:=Cy [(8,rC7),(11,tX3)] [] [] 62
theorem mQ4:SK 15 qT6:=fq (c:=nW6) Tryz.func15 ⟨nQ0,pU1,trivial⟩
def f4t (p0:D37)(p1:Int)(p2:Int):Prop×Int:=
 let h:=f7 p0 p1 p2
 let i:=h !=0
 let b:=f8 p0.2.1
 let f:=f9 p0.2.2.2.2.2.2.2.2.2.2.1
 let a:=f !=0
 let e:=f10 p0.2.2.2.2.2.2.2.2.2.2.1
 let j:=e.2.1 !=0
 let c:=f11 p0.2.1
 let d:=cond c (!(f12 p0.2.2.2.2.2.2.2.2.2.2.2.1)) false
 let k:=f13 p0
 let g:=k !=0
 let l:=f15 p0
 let m:=cond i h (cond ((a||((!a)&&j))&&b) (cond a f e.2.1) (cond d (8:Int) (cond g k (cond (!(f14 l)) (1:Int) (0:Int)))))
 (nQ p0 p1 p2/\((!i)=true->qD9 p0.2.1/\(b=true->rQ7 p0.2.2.2.2.2.2.2.2.2.2.1/\((!a)=true->pU0 p0.2.2.2.2.2.2.2.2.2.2.1))/\((cond b ((!a)&&(!j)) true)=true->sD p0.2.1/\(c=true->pU2 p0.2.2.2.2.2.2.2.2.2.2.2.1)/\((!d)=true->oC0 p0/\((!g)=true->qT5 p0/\oC1 l)))),m)
def qH8 p0 p1 p2:=(f4t p0 p1 p2).1
def f4 p0 p1 p2:=(f4t p0 p1 p2).2
def qH9:=sp3 Aw vI vI vI qH8 f4
def mQ5:=Cy [(7,pU),(8,rC7),(9,sC9),(10,qP3),(11,tX3),(12,qP4),(13,qT3),(14,qT4),(15,qT6)] [] [] 55
theorem mQ6:SK 4 qH9:=fq (c:=mQ5) Tryz.func4 ⟨lA9,nQ0,oV2,mN2,pU1,mN3,mQ2,mQ3,mQ4,trivial⟩
def f45t (p0:Int)(p1:Int)(p2:Int):Prop×Bool:=
 (True,cond (decide (p0≥p1)) (decide (p0<=p2)) false)
def tP2 p0 p1 p2:=(f45t p0 p1 p2).1
def f45 p0 p1 p2:=(f45t p0 p1 p2).2
def rG6:=sp3 vI vI vI vB tP2 f45
def nW7:=Cy [] [] [] 15
theorem nJ1:SK 45 rG6:=fq (c:=nW7) Tryz.func45 trivial
def f46t (p0:Int):Prop×(List UInt8):=
 let b:=cond (decide (p0<1)) true (decide (p0>11))
 let c:=([([103,114,111,117,112]:List UInt8),([105,109,97,103,101]:List UInt8),([102,105,108,108]:List UInt8),([103,114,97,100,105,101,110,116]:List UInt8),([112,97,116,104]:List UInt8),([116,101,120,116]:List UInt8),([97,100,106,117,115,116]:List UInt8),([102,105,108,116,101,114]:List UInt8),([108,105,110,107]:List UInt8),([99,108,111,110,101]:List UInt8),([119,97,114,112]:List UInt8)]:List (List UInt8))
 let a:=p0-1
 ((!b)=true->InR (p0-1)/\InB a (len c),cond b ([]:List UInt8) (nth c a ([]:List UInt8)))
def rV4 p0:=(f46t p0).1
def f46 p0:=(f46t p0).2
instance (p0:Int):Decidable (rV4 p0):=by
 unfold rV4 f46t
 try dsimp only
 infer_instance
def qT7:=sp1 vI vS rV4 f46
def nW8:=Cy [] [] [] 14
theorem mQ7:SK 46 qT7:=fq (c:=nW8) Tryz.func46 trivial
abbrev vZ9:Type:=((List UInt8)×Unit)
abbrev vH2:Type:=(Int×Unit)
def sJ1 (y:vZ9)(x:vH2):Prop×Bool×vH2×Bool×Bool:=
 let d:=y.1
 let b:=x.1
 let e:=decide (b<len d)
 let c:=decide (wB7 d b<33)
 let a:=cond c true (decide (wB7 d b>126))
 (e=true->InB b (len d)/\((!c)=true->InB b (len d))/\((!a)=true->InR (b+1)),e&&(!a),(b+1,()),e&&a,!e)
def rV5 y x:=(sJ1 y x).1
def uM2 y x:=(sJ1 y x).2.1
def wZ8 y x:=(sJ1 y x).2.2.1
def rV6 y x:=(sJ1 y x).2.2.2.1
def oC2 y x:=(sJ1 y x).2.2.2.2
def sJ2 (y:vZ9)(x:vH2):Bool:=
 false
def sJ3:St->Option Out:=xT3 [(0,vS)] [(3,vI)] uM2 wZ8 rV5 λy x=>[ex 1 (some (rV6 y x)) [(2,vB)] ((sJ2 y x),()),ex 2 (some (oC2 y x)) [(0,vS)] (y.1,())]
def f47t (p0:List UInt8):Prop×Bool:=
 let a:=(p0,())
 let c:=((0:Int),())
 let b:=zB9 (uM2 a) (wZ8 a) c
 (Am.Ends (uM2 a) (wZ8 a) (rV5 a) c,cond (rV6 a b) (sJ2 a b) (cond (decide (len p0>0)) (decide (len p0<=32)) false))
def oC3 p0:=(f47t p0).1
def f47 p0:=(f47t p0).2
def qT8:=sp1 vS vB oC3 f47
def oC4:=Cy [] [(2,sJ3)] [] 28
theorem oC5:CtxOk Tryz.prog oC4:=cq trivial
noncomputable def oY3:Code:=Tryz.f47.body.getD .skip
noncomputable def nJ2:Code:=wB4 oY3 0
theorem oC6:yX7 Tryz.prog oC4 nJ2:=lq oC5 (sp:=sJ3) rfl [[(2,vB)],[(0,vS)]]
theorem mQ8:SK 47 qT8:=fl oC5 Tryz.func47 (bs:=[nJ2]) ⟨oC6,trivial⟩
def f48t (p0:Int):Prop×Bool:=
 (True,cond (decide (p0≥0)) (decide (p0<=17)) false)
def nJ3 p0:=(f48t p0).1
def f48 p0:=(f48t p0).2
def qT9:=sp1 vI vB nJ3 f48
def nW9:=Cy [] [] [] 9
theorem mQ9:SK 48 qT9:=fq (c:=nW9) Tryz.func48 trivial
def f49t (p0:D37):Prop×Bool:=
 (True,cond (cond (p0.2.1==7) true (p0.2.1==8)) true (p0.2.1==11))
def nJ4 p0:=(f49t p0).1
def f49 p0:=(f49t p0).2
def qU:=sp1 Aw vB nJ4 f49
def nX:=Cy [] [] [] 16
theorem mR:SK 49 qU:=fq (c:=nX) Tryz.func49 trivial
abbrev uA:Type:=(D23×Unit)
abbrev vH3:Type:=(Int×Unit)
def sJ4 (y:uA)(x:vH3):Prop×Bool×vH3×Bool×Bool:=
 let d:=y.1
 let c:=x.1
 let a:=decide (c<len d.2.2.1)
 let e:=decide (nth d.2.2.1 c (0:Int)<0)
 let b:=cond e true (decide (nth d.2.2.1 c (0:Int)>65535))
 (a=true->InB c (len d.2.2.1)/\((!e)=true->InB c (len d.2.2.1))/\((!b)=true->InR (c+1)),a&&(!b),(c+1,()),a&&b,!a)
def sJ5 y x:=(sJ4 y x).1
def uX6 y x:=(sJ4 y x).2.1
def vM3 y x:=(sJ4 y x).2.2.1
def sJ6 y x:=(sJ4 y x).2.2.2.1
def oC7 y x:=(sJ4 y x).2.2.2.2
def sJ7 (y:uA)(x:vH3):Int:=
 (2:Int)
def sJ8:St->Option Out:=xT3 [(1,(.box T23 Cp))] [(3,vI)] uX6 vM3 sJ5 λy x=>[ex 1 (some (sJ6 y x)) [(2,vI)] ((sJ7 y x),()),ex 2 (some (oC7 y x)) [] ()]
def f50t (p0:D23):Prop×Int:=
 let c:=cond (cond (cond (decide (p0.1<0)) true (decide (p0.1>256))) true (decide (p0.2.1<0))) true (decide (p0.2.1>256))
 let d:=!(Ty.eqb .bool (p0.1==0) (p0.2.1==0))
 let b:=cond d true (len p0.2.2.1!=(p0.1*p0.2.1))
 let a:=(p0,())
 let f:=((0:Int),())
 let e:=zB9 (uX6 a) (vM3 a) f
 ((!c)=true->((!d)=true->InR (p0.1*p0.2.1))/\((!b)=true->Am.Ends (uX6 a) (vM3 a) (sJ5 a) f),cond c (15:Int) (cond b (15:Int) (cond (sJ6 a e) (sJ7 a e) (0:Int))))
def oC8 p0:=(f50t p0).1
def f50 p0:=(f50t p0).2
def qU0:=sp1 Cp vI oC8 f50
def oC9:=Cy [] [(6,sJ8)] [] 61
theorem oD:CtxOk Tryz.prog oC9:=cq trivial
noncomputable def oY4:Code:=Tryz.f50.body.getD .skip
noncomputable def nJ5:Code:=wB4 oY4 0
theorem oD0:yX7 Tryz.prog oC9 nJ5:=lq oD (sp:=sJ8) rfl [[(2,vI)],[]]
theorem mR0:SK 50 qU0:=fl oD Tryz.func50 (bs:=[nJ5]) ⟨oD0,trivial⟩
def f16t (p0:D37)(p1:Int)(p2:Int):Prop×Int:=
 let d:=!(f45 p1 (1:Int) (256:Int))
 let h:=cond d true (!(f45 p2 (1:Int) (256:Int)))
 let g:=f46 p0.2.1==([]:List UInt8)
 let a:=!(f47 p0.2.2.2.1)
 let i:=!(f45 p0.1 (0:Int) (1073741824:Int))
 let f:=cond i true (!(f45 p0.2.2.1 (0:Int) (1073741824:Int)))
 let b:=cond f true (!(f45 p0.2.2.2.2.2.2.2.1 (0:Int) (65535:Int)))
 let e:=!(f48 p0.2.2.2.2.2.2.2.2.1)
 let j:=cond e true (cond (f49 p0) (p0.2.2.2.2.2.2.2.2.1 !=0) false)
 let k:=f50 p0.2.2.2.2.2.2.2.2.2.1
 let c:=cond (k !=0) k (cond (cond (p0.2.2.2.2.2.2.2.2.2.1.1 !=0) (cond (p0.2.2.2.2.2.2.2.2.2.1.1 !=p1) true (p0.2.2.2.2.2.2.2.2.2.1.2.1 !=p2)) false) (15:Int) (0:Int))
 (tP2 p1 (1:Int) (256:Int)/\((!d)=true->tP2 p2 (1:Int) (256:Int))/\((!h)=true->rV4 p0.2.1/\((!g)=true->oC3 p0.2.2.2.1/\((!a)=true->tP2 p0.1 (0:Int) (1073741824:Int)/\((!i)=true->tP2 p0.2.2.1 (0:Int) (1073741824:Int))/\((!f)=true->tP2 p0.2.2.2.2.2.2.2.1 (0:Int) (65535:Int))/\((!b)=true->nJ3 p0.2.2.2.2.2.2.2.2.1/\((!e)=true->nJ4 p0)/\((!j)=true->oC8 p0.2.2.2.2.2.2.2.2.2.1))))),cond h (15:Int) (cond g (8:Int) (cond a (13:Int) (cond b (2:Int) (cond j (8:Int) c)))))
def oD1 p0 p1 p2:=(f16t p0 p1 p2).1
def f16 p0 p1 p2:=(f16t p0 p1 p2).2
def qU1:=sp3 Aw vI vI vI oD1 f16
def nX0:=Cy [(45,rG6),(46,qT7),(47,qT8),(48,qT9),(49,qU),(50,qU0)] [] [] 77
theorem mR1:SK 16 qU1:=fq (c:=nX0) Tryz.func16 ⟨nJ1,mQ7,mQ8,mQ9,mR,mR0,trivial⟩
def f17t (p0:Int):Prop×Bool:=
 (True,cond (cond (cond (cond (p0==2) true (p0==5)) true (p0==6)) true (p0==9)) true (p0==10))
def oD2 p0:=(f17t p0).1
def f17 p0:=(f17t p0).2
def rG7:=sp1 vI vB oD2 f17
def nX1:=Cy [] [] [] 21
theorem nJ6:SK 17 rG7:=fq (c:=nX1) Tryz.func17 trivial
def mR2 (p0:Int)(p1:Int)(p2:Int):Prop×Int:=
 (True,wB1 p2 (wB0 p0 p1))
def sJ9 p0 p1 p2:=(mR2 p0 p1 p2).1
def f132 p0 p1 p2:=(mR2 p0 p1 p2).2
def uG9:=sp3 vI vI vI vI sJ9 f132
def oY5:=Cy [] [] [] 12
theorem rG8:SK 132 uG9:=fq (c:=oY5) Tryz.func132 trivial
def f88t (p0:Int):Prop×Int:=
 (sJ9 p0 (-16777216:Int) (16777216:Int),f132 p0 (-16777216:Int) (16777216:Int))
def rV7 p0:=(f88t p0).1
def f88 p0:=(f88t p0).2
def qU2:=sp1 vI vI rV7 f88
def nX2:=Cy [(132,uG9)] [] [] 5
theorem mR3:SK 88 qU2:=fq (c:=nX2) Tryz.func88 ⟨rG8,trivial⟩
def f89t (p0:Int):Prop×Int:=
 (sJ9 p0 (-1099511627776:Int) (1099511627776:Int),f132 p0 (-1099511627776:Int) (1099511627776:Int))
def sK p0:=(f89t p0).1
def f89 p0:=(f89t p0).2
def rG9:=sp1 vI vI sK f89
def nX3:=Cy [(132,uG9)] [] [] 5
theorem nJ7:SK 89 rG9:=fq (c:=nX3) Tryz.func89 ⟨rG8,trivial⟩
def f51t (p0:D25):Prop×D25:=
 (rV7 p0.1/\rV7 p0.2.1/\rV7 p0.2.2.1/\rV7 p0.2.2.2.1/\sK p0.2.2.2.2.1/\sK p0.2.2.2.2.2.1,(f88 p0.1,f88 p0.2.1,f88 p0.2.2.1,f88 p0.2.2.2.1,f89 p0.2.2.2.2.1,f89 p0.2.2.2.2.2.1,()))
def qU3 p0:=(f51t p0).1
def f51 p0:=(f51t p0).2
def rH:=sp1 Aq Aq qU3 f51
def nX4:=Cy [(88,qU2),(89,rG9)] [] [] 22
theorem nJ8:SK 51 rH:=fq (c:=nX4) Tryz.func51 ⟨mR3,nJ7,trivial⟩
def f18t (p0:D25):Prop×Int:=
 (qU3 p0,cond (!(Ty.eqb T25 (f51 p0) p0)) (2:Int) (0:Int))
def tP3 p0:=(f18t p0).1
def f18 p0:=(f18t p0).2
def uX7:=sp1 Aq vI tP3 f18
def nX5:=Cy [(51,rH)] [] [] 7
theorem qU4:SK 18 uX7:=fq (c:=nX5) Tryz.func18 ⟨nJ8,trivial⟩
def f90t (p0:Int)(p1:Int):Prop×Int:=
 let e:=p1==0
 let b:=cond (p0==(-9223372036854775808)) (p1==(-1)) false
 let d:=IntKind.wrap .i64 (Int.tdiv p0 p1)
 let a:=Int.tmod p0 p1
 let c:=cond e (0:Int) (cond b (9223372036854775807:Int) (cond (cond (a !=0) (!(Ty.eqb .bool (decide (a<0)) (decide (p1<0)))) false) (IntKind.wrap .i64 (d-1)) d))
 ((!e)=true->(!b)=true->p1≠0/\p1≠0,c)
def uX8 p0 p1:=(f90t p0 p1).1
def f90 p0 p1:=(f90t p0 p1).2
instance (p0:Int)(p1:Int):Decidable (uX8 p0 p1):=by
 unfold uX8 f90t
 try dsimp only
 infer_instance
def rH0:=sp2 vI vI vI uX8 f90
def nX6:=Cz [] [] [] 33
theorem nJ9:SK 90 rH0:=fq (c:=nX6) Tryz.func90 trivial
def f91t (p0:Int):Prop×Int:=
 (True,cond (decide (p0<0)) (IntKind.wrap .u64 (0-(IntKind.wrap .u64 p0))) (IntKind.wrap .u64 p0))
def uX9 p0:=(f91t p0).1
def f91 p0:=(f91t p0).2
instance (p0:Int):Decidable (uX9 p0):=by
 unfold uX9 f91t
 try dsimp only
 infer_instance
def rH1:=sp1 vI An uX9 f91
def nX7:=Cz [] [] [] 10
theorem nK:SK 91 rH1:=fq (c:=nX7) Tryz.func91 trivial
def f52t (p0:Int)(p1:Int):Prop×Int:=
 let e:=p1==0
 let a:=f90 p0 p1
 let d:=cond (p0==(-9223372036854775808)) (p1==(-1)) false
 let b:=IntKind.wrap .i64 (p0-(IntKind.wrap .i64 (p1*a)))
 let c:=f91 b
 ((!e)=true->uX8 p0 p1/\((!d)=true->uX9 b/\uX9 p1),cond e (0:Int) (cond d a (cond (decide (c≥IntKind.wrap .u64 (f91 p1-c))) (IntKind.wrap .i64 (a+1)) a)))
def wI3 p0 p1:=(f52t p0 p1).1
def f52 p0 p1:=(f52t p0 p1).2
instance (p0:Int)(p1:Int):Decidable (wI3 p0 p1):=by
 unfold wI3 f52t
 try dsimp only
 infer_instance
def wN4:=sp2 vI vI vI wI3 f52
def nX8:=Cz [(90,rH0),(91,rH1)] [] [] 34
theorem vV3:SK 52 wN4:=fq (c:=nX8) Tryz.func52 ⟨nJ9,nK,trivial⟩
def f53t (p0:Int)(p1:Int)(p2:Int)(p3:Int):Prop×Int:=
 let a:=f90 p2 (65536:Int)
 let c:=f90 p3 (65536:Int)
 let b:=IntKind.wrap .i64 (IntKind.wrap .i64 (p0*IntKind.wrap .i64 (p2-(IntKind.wrap .i64 (a*65536))))+IntKind.wrap .i64 (p1*IntKind.wrap .i64 (p3-(IntKind.wrap .i64 (c*65536)))))
 (uX8 p2 (65536:Int)/\uX8 p3 (65536:Int)/\wI3 b (65536:Int),IntKind.wrap .i64 (IntKind.wrap .i64 (IntKind.wrap .i64 (p0*a)+IntKind.wrap .i64 (p1*c))+f52 b (65536:Int)))
def sX1 p0 p1 p2 p3:=(f53t p0 p1 p2 p3).1
def f53 p0 p1 p2 p3:=(f53t p0 p1 p2 p3).2
def rH2:=sp4 vI vI vI vI vI sX1 f53
def nX9:=Cz [(52,wN4),(90,rH0)] [] [] 41
theorem nK0:SK 53 rH2:=fq (c:=nX9) Tryz.func53 ⟨vV3,nJ9,trivial⟩
def f19t (p0:D25):Prop×(D25×Int×Unit):=
 let v:=f18 p0
 let i:=v !=0
 let a:=IntKind.wrap .i64 (IntKind.wrap .i64 (p0.1*p0.2.2.2.1)-(IntKind.wrap .i64 (p0.2.1*p0.2.2.1)))
 let b:=a==0
 let t:=IntKind.wrap .i64 (p0.2.2.2.1*4294967296)
 let c:=f52 t a
 let k:=IntKind.wrap .i64 (IntKind.wrap .i64 (Int.sub 0 p0.2.1)*4294967296)
 let g:=f52 k a
 let j:=IntKind.wrap .i64 (IntKind.wrap .i64 (Int.sub 0 p0.2.2.1)*4294967296)
 let e:=f52 j a
 let o:=IntKind.wrap .i64 (p0.1*4294967296)
 let h:=f52 o a
 let l:=(c,g,e,h,(0:Int),(0:Int),())
 let d:=f18 l !=0
 let q:=IntKind.wrap .i64 (Int.sub 0 c)
 let s:=IntKind.wrap .i64 (Int.sub 0 e)
 let n:=IntKind.wrap .i64 (Int.sub 0 g)
 let m:=IntKind.wrap .i64 (Int.sub 0 h)
 let f:=(c,g,e,h,f53 q s p0.2.2.2.2.1 p0.2.2.2.2.2.1,f53 n m p0.2.2.2.2.1 p0.2.2.2.2.2.1,())
 let r:=f18 f !=0
 let u:=cond b ((0:Int),(0:Int),(0:Int),(0:Int),(0:Int),(0:Int),()) (cond d ((0:Int),(0:Int),(0:Int),(0:Int),(0:Int),(0:Int),()) (cond r ((0:Int),(0:Int),(0:Int),(0:Int),(0:Int),(0:Int),()) f))
 (tP3 p0/\((!i)=true->(!b)=true->wI3 t a/\wI3 k a/\wI3 j a/\wI3 o a/\tP3 l/\((!d)=true->sX1 q s p0.2.2.2.2.1 p0.2.2.2.2.2.1/\sX1 n m p0.2.2.2.2.1 p0.2.2.2.2.2.1/\tP3 f)),(cond i ((0:Int),(0:Int),(0:Int),(0:Int),(0:Int),(0:Int),()) u,cond i v (cond b (17:Int) (cond d (17:Int) (cond r (17:Int) (0:Int)))),()))
def oD3 p0:=(f19t p0).1
def f19 p0:=(f19t p0).2
def qU5:=sp1 Aq (.tup (.cons Aq (.cons vI .nl))) oD3 f19
def nY:=Cz [(18,uX7),(52,wN4),(53,rH2)] [] [] 88
theorem mR4:SK 19 qU5:=fq (c:=nY) Tryz.func19 ⟨qU4,vV3,nK0,trivial⟩
def f20t (p0:Int):Prop×Bool:=
 (True,cond (cond (cond (p0==2) true (p0==9)) true (p0==10)) true (p0==11))
def oD4 p0:=(f20t p0).1
def f20 p0:=(f20t p0).2
def rH3:=sp1 vI vB oD4 f20
def nY0:=Cy [] [] [] 17
theorem nK1:SK 20 rH3:=fq (c:=nY0) Tryz.func20 trivial
def f21t (p0:Int):Prop×Bool:=
 (True,cond (decide (p0≥0)) (decide (p0<=4)) false)
def nK2 p0:=(f21t p0).1
def f21 p0:=(f21t p0).2
def qU6:=sp1 vI vB nK2 f21
def nY1:=Cy [] [] [] 9
theorem mR5:SK 21 qU6:=fq (c:=nY1) Tryz.func21 trivial
def mR6 (p0:Int):Prop×Int:=
 (sJ9 p0 (0:Int) (65535:Int),f132 p0 (0:Int) (65535:Int))
def sK0 p0:=(mR6 p0).1
def f169 p0:=(mR6 p0).2
def rV8:=sp1 vI vI sK0 f169
def oY6:=Cy [(132,uG9)] [] [] 5
theorem nY2:SK 169 rV8:=fq (c:=oY6) Tryz.func169 ⟨rG8,trivial⟩
def mR7 (p0:D30):Prop×D30:=
 (sK0 p0.1/\sK0 p0.2.1/\sK0 p0.2.2.1/\sK0 p0.2.2.2.1,(f169 p0.1,f169 p0.2.1,f169 p0.2.2.1,f169 p0.2.2.2.1,()))
def oD5 p0:=(mR7 p0).1
def f133 p0:=(mR7 p0).2
def rV9:=sp1 Bx Bx oD5 f133
def oY7:=Cy [(169,rV8)] [] [] 16
theorem nY3:SK 133 rV9:=fq (c:=oY7) Tryz.func133 ⟨nY2,trivial⟩
def f92t (p0:D30):Prop×Bool:=
 (oD5 p0,Ty.eqb T30 (f133 p0) p0)
def sX2 p0:=(f92t p0).1
def f92 p0:=(f92t p0).2
def uY:=sp1 Bx vB sX2 f92
def nY4:=Cy [(133,rV9)] [] [] 7
theorem qU7:SK 92 uY:=fq (c:=nY4) Tryz.func92 ⟨nY3,trivial⟩
abbrev uA0:Type:=(D28×Unit)
abbrev vH4:Type:=(Int×Unit)
def sK1 (y:uA0)(x:vH4):Prop×Bool×vH4×Bool×Bool:=
 let e:=y.1
 let d:=x.1
 let a:=decide (d<len e.2.2.1)
 let c:=nth e.2.2.1 d Z30
 let b:=!(f92 c)
 (a=true->InB d (len e.2.2.1)/\sX2 c/\((!b)=true->InR (d+1)),a&&(!b),(d+1,()),a&&b,!a)
def sK2 y x:=(sK1 y x).1
def uY0 y x:=(sK1 y x).2.1
def vM4 y x:=(sK1 y x).2.2.1
def sK3 y x:=(sK1 y x).2.2.2.1
def oD6 y x:=(sK1 y x).2.2.2.2
def sK4 (y:uA0)(x:vH4):Int:=
 (2:Int)
def sK5:St->Option Out:=xT3 [(1,(.box T28 Cc))] [(3,vI)] uY0 vM4 sK2 λy x=>[ex 1 (some (sK3 y x)) [(2,vI)] ((sK4 y x),()),ex 2 (some (oD6 y x)) [] ()]
def f54t (p0:D28):Prop×Int:=
 let c:=cond (cond (cond (decide (p0.1<0)) true (decide (p0.1>256))) true (decide (p0.2.1<0))) true (decide (p0.2.1>256))
 let d:=!(Ty.eqb .bool (p0.1==0) (p0.2.1==0))
 let b:=cond d true (len p0.2.2.1!=(p0.1*p0.2.1))
 let a:=(p0,())
 let f:=((0:Int),())
 let e:=zB9 (uY0 a) (vM4 a) f
 ((!c)=true->((!d)=true->InR (p0.1*p0.2.1))/\((!b)=true->Am.Ends (uY0 a) (vM4 a) (sK2 a) f),cond c (15:Int) (cond b (15:Int) (cond (sK3 a e) (sK4 a e) (0:Int))))
def qU8 p0:=(f54t p0).1
def f54 p0:=(f54t p0).2
def qU9:=sp1 Cc vI qU8 f54
def oD7:=Cy [(92,uY)] [(6,sK5)] [] 54
theorem oD8:CtxOk Tryz.prog oD7:=cq ⟨qU7,trivial⟩
noncomputable def oY8:Code:=Tryz.f54.body.getD .skip
noncomputable def nK3:Code:=wB4 oY8 0
theorem oD9:yX7 Tryz.prog oD7 nK3:=lq oD8 (sp:=sK5) rfl [[(2,vI)],[]]
theorem mR8:SK 54 qU9:=fl oD8 Tryz.func54 (bs:=[nK3]) ⟨oD9,trivial⟩
def f55t (p0:D30):Prop×Int:=
 (sX2 p0,cond (!(f92 p0)) (2:Int) (0:Int))
def sK6 p0:=(f55t p0).1
def f55 p0:=(f55t p0).2
def tZ:=sp1 Bx vI sK6 f55
def nY5:=Cy [(92,uY)] [] [] 6
theorem oE:SK 55 tZ:=fq (c:=nY5) Tryz.func55 ⟨qU7,trivial⟩
def f93t (p0:Int)(p1:List Int)(p2:Int):Prop×Int:=
 let a:=cond (cond (cond (cond (decide (p0<1)) true (decide (p0>4))) true (decide (p2<0))) true (decide (p2>2))) (8:Int) (cond (cond (cond (p0==1) (len p1 !=4) false) true (cond (p0 !=1) (len p1 !=3) false)) (1:Int) (0:Int))
 (True,a)
def nK4 p0 p1 p2:=(f93t p0 p1 p2).1
def f93 p0 p1 p2:=(f93t p0 p1 p2).2
def qV:=sp3 vI Aj vI vI nK4 f93
def nY6:=Cy [] [] [] 37
theorem mR9:SK 93 qV:=fq (c:=nY6) Tryz.func93 trivial
abbrev uA1:Type:=(Int×(List Int)×Int×Unit)
abbrev vH5:Type:=(Int×Unit)
def sK7 (y:uA1)(x:vH5):Prop×Bool×vH5×Bool×Bool:=
 let d:=y.2.1
 let a:=x.1
 let e:=decide (a<y.2.2.1)
 let c:=decide (nth d a (0:Int)<(-1048576))
 let b:=cond c true (decide (nth d a (0:Int)>1048576))
 (e=true->InB a (len d)/\((!c)=true->InB a (len d))/\((!b)=true->InR (a+1)),e&&(!b),(a+1,()),e&&b,!e)
def rW y x:=(sK7 y x).1
def tZ0 y x:=(sK7 y x).2.1
def uA2 y x:=(sK7 y x).2.2.1
def rW0 y x:=(sK7 y x).2.2.2.1
def rW1 y x:=(sK7 y x).2.2.2.2
def sK8 (y:uA1)(x:vH5):Int:=
 (2:Int)
def rW2:List (Nat×Sh):=[(0,vI),(1,Aj)]
def sK9:St->Option Out:=xT3 [(0,vI),(1,Aj),(7,vI)] [(8,vI)] tZ0 uA2 rW λy x=>[ex 1 (some (rW0 y x)) [(4,vI)] ((sK8 y x),()),ex 2 (some (rW1 y x)) rW2 (y.1,y.2.1,())]
def f94t (p0:Int)(p1:List Int):Prop×Int:=
 let a:=(p0,p1,len p1,())
 let d:=((0:Int),())
 let c:=zB9 (tZ0 a) (uA2 a) d
 let b:=cond (p0==2) true (p0==4)
 (Am.Ends (tZ0 a) (uA2 a) (rW a) d/\(rW1 a c=true->b=true->InB (2:Int) (len p1)),cond (rW0 a c) (sK8 a c) (cond (cond b (decide (nth p1 (2:Int) (0:Int)<0)) false) (2:Int) (0:Int)))
def nK5 p0 p1:=(f94t p0 p1).1
def f94 p0 p1:=(f94t p0 p1).2
def qV0:=sp2 vI Aj vI nK5 f94
def oE0:=Cy [] [(2,sK9)] [] 36
theorem oE1:CtxOk Tryz.prog oE0:=cq trivial
noncomputable def oY9:Code:=Tryz.f94.body.getD .skip
noncomputable def nK6:Code:=wB4 oY9 0
theorem oE2:yX7 Tryz.prog oE0 nK6:=lq oE1 (sp:=sK9) rfl [[(4,vI)],rW2]
theorem mS:SK 94 qV0:=fl oE1 Tryz.func94 (bs:=[nK6]) ⟨oE2,trivial⟩
abbrev uA3:Type:=((List D69)×Int×Unit)
abbrev vH6:Type:=(Int×Unit)
def uR5 (y:uA3)(x:vH6):Prop×Bool×vH6×Bool×Bool:=
 let b:=y.1
 let a:=x.1
 let c:=decide (a<y.2.1)
 let g:=decide ((nth b a Z69).1<0)
 let f:=cond g true (decide ((nth b a Z69).1>65535))
 let h:=nth b a Z69
 let e:=cond f true (!(f92 h.2.1))
 let d:=decide (a>0)
 let j:=a-1
 let i:=cond d (decide ((nth b a Z69).1<=(nth b j Z69).1)) false
 let k:=(!e)&&(!i)
 (c=true->InB a (len b)/\((!g)=true->InB a (len b))/\((!f)=true->InB a (len b))/\((!f)=true->sX2 h.2.1)/\((!e)=true->(d=true->InB a (len b))/\(d=true->InR (a-1))/\(d=true->InB j (len b)))/\(k=true->InR (a+1)),c&&k,(a+1,()),c&&(e||((!e)&&i)),!c)
def sL y x:=(uR5 y x).1
def uY1 y x:=(uR5 y x).2.1
def uA4 y x:=(uR5 y x).2.2.1
def sL0 y x:=(uR5 y x).2.2.2.1
def oE3 y x:=(uR5 y x).2.2.2.2
def uR6 (y:uA3)(x:vH6):Int:=
 let b:=y.1
 let a:=x.1
 (cond (cond (cond (decide ((nth b a Z69).1<0)) true (decide ((nth b a Z69).1>65535))) true (!(f92 (nth b a Z69).2.1))) (2:Int) (24:Int))
def sL1:St->Option Out:=xT3 [(0,Ak),(11,vI)] [(12,vI)] uY1 uA4 sL λy x=>[ex 1 (some (sL0 y x)) [(2,vI)] ((uR6 y x),()),ex 2 (some (oE3 y x)) [] ()]
def f95t (p0:List D69):Prop×Int:=
 let b:=len p0==0
 let e:=decide (len p0>16)
 let a:=(p0,len p0,())
 let d:=((0:Int),())
 let c:=zB9 (uY1 a) (uA4 a) d
 ((!b)=true->(!e)=true->Am.Ends (uY1 a) (uA4 a) (sL a) d,cond b (1:Int) (cond e (3:Int) (cond (sL0 a c) (uR6 a c) (0:Int))))
def oE4 p0:=(f95t p0).1
def f95 p0:=(f95t p0).2
def qV1:=sp1 Ak vI oE4 f95
def oE5:=Cy [(92,uY)] [(6,sL1)] [] 55
theorem oE6:CtxOk Tryz.prog oE5:=cq ⟨qU7,trivial⟩
noncomputable def oZ:Code:=Tryz.f95.body.getD .skip
noncomputable def nK7:Code:=wB4 oZ 0
theorem oE7:yX7 Tryz.prog oE5 nK7:=lq oE6 (sp:=sL1) rfl [[(2,vI)],[]]
theorem mS0:SK 95 qV1:=fl oE6 Tryz.func95 (bs:=[nK7]) ⟨oE7,trivial⟩
def f56t (p0:Int)(p1:List Int)(p2:Int)(p3:List D69):Prop×Int:=
 let a:=f93 p0 p1 p2
 let e:=a !=0
 let d:=len p3==0
 let c:=decide (len p3>16)
 let b:=f94 p0 p1
 let f:=b !=0
 (nK4 p0 p1 p2/\((!e)=true->(!d)=true->(!c)=true->nK5 p0 p1/\((!f)=true->oE4 p3)),cond e a (cond d (1:Int) (cond c (3:Int) (cond f b (f95 p3)))))
def oE8 p0 p1 p2 p3:=(f56t p0 p1 p2 p3).1
def f56 p0 p1 p2 p3:=(f56t p0 p1 p2 p3).2
def qV2:=sp4 vI Aj vI Ak vI oE8 f56
def nY7:=Cy [(93,qV),(94,qV0),(95,qV1)] [] [] 31
theorem mS1:SK 56 qV2:=fq (c:=nY7) Tryz.func56 ⟨mR9,mS,mS0,trivial⟩
def nY8 (p0:Int):Prop×Int:=
 let e:=p0==1
 let d:=cond e e (p0==2)
 let c:=p0==3
 let a:=p0==4
 let b:=cond (cond d true (cond c true (cond a true (p0==5)))) (cond d (1:Int) (cond c (2:Int) (cond a (3:Int) (0:Int)))) (-1:Int)
 (True,b)
def uR7 p0:=(nY8 p0).1
def f135 p0:=(nY8 p0).2
def vV4:=sp1 vI vI uR7 f135
def oZ0:=Cy [] [] [] 13
theorem sL2:SK 135 vV4:=fq (c:=oZ0) Tryz.func135 trivial
def nY9 (p0:D71):Prop×Bool:=
 (True,cond (cond (cond (decide (p0.1≥(-16777216))) (decide (p0.1<=16777216)) false) (decide (p0.2.1≥(-16777216))) false) (decide (p0.2.1<=16777216)) false)
def sL3 p0:=(nY9 p0).1
def f137 p0:=(nY9 p0).2
def uY2:=sp1 Al vB sL3 f137
def oZ1:=Cy [] [] [] 21
theorem qI:SK 137 uY2:=fq (c:=oZ1) Tryz.func137 trivial
abbrev vM5:Type:=(D74×Unit)
abbrev wW3:Type:=(Int×Unit)
def uM3 (y:vM5)(x:wW3):Prop×Bool×wW3×Bool×Bool:=
 let e:=y.1
 let a:=x.1
 let h:=decide (a<3)
 let c:=decide (a<f135 e.1)
 let g:=nth e.2.1 a Z71
 let b:=cond c (!(f137 g)) false
 let f:=decide (a≥f135 e.1)
 let d:=cond b true (cond f (!(Ty.eqb T71 (nth e.2.1 a Z71) ((0:Int),(0:Int),()))) false)
 (h=true->uR7 e.1/\(c=true->InB a 3)/\(c=true->sL3 g)/\((!b)=true->uR7 e.1)/\(((!b)&&f)=true->InB a 3)/\((!d)=true->InR (a+1)),h&&(!d),(a+1,()),h&&d,!h)
def sX3 y x:=(uM3 y x).1
def vD3 y x:=(uM3 y x).2.1
def wO2 y x:=(uM3 y x).2.2.1
def tF6 y x:=(uM3 y x).2.2.2.1
def pL1 y x:=(uM3 y x).2.2.2.2
def tP4 (y:vM5)(x:wW3):Bool:=
 false
def tP5:St->Option Out:=xT3 [(1,Ay)] [(3,vI)] vD3 wO2 sX3 λy x=>[ex 1 (some (tF6 y x)) [(2,vB)] ((tP4 y x),()),ex 2 (some (pL1 y x)) [] ()]
def mS2 (p0:D74):Prop×Bool:=
 let a:=(p0,())
 let c:=((0:Int),())
 let b:=zB9 (vD3 a) (wO2 a) c
 (Am.Ends (vD3 a) (wO2 a) (sX3 a) c,cond (tF6 a b) (tP4 a b) true)
def qI0 p0:=(mS2 p0).1
def f170 p0:=(mS2 p0).2
def rW3:=sp1 Cq vB qI0 f170
def qV3:=Cy [(135,vV4),(137,uY2)] [(2,tP5)] [] 36
theorem qV4:CtxOk Tryz.prog qV3:=cq ⟨sL2,qI,trivial⟩
noncomputable def oE9:Code:=Tryz.f170.body.getD .skip
noncomputable def oF:Code:=wB4 oE9 0
theorem pL2:yX7 Tryz.prog qV3 oF:=lq qV4 (sp:=tP5) rfl [[(2,vB)],[]]
theorem nZ:SK 170 rW3:=fl qV4 Tryz.func170 (bs:=[oF]) ⟨pL2,trivial⟩
abbrev vM6:Type:=((List D74)×Unit)
abbrev wW4:Type:=(Int×Unit)
def vR4 (y:vM6)(x:wW4):Prop×Bool×wW4×Bool×Bool:=
 let e:=y.1
 let a:=x.1
 let c:=decide (a<len e)
 let k:=nth e a Z74
 let d:=decide (f135 k.1<0)
 let h:=nth e a Z74
 let b:=!(f170 h)
 let g:=(nth e a Z74).1 !=1
 let f:=a==0
 let i:=a-1
 let l:=cond g (cond f true ((nth e i Z74).1==5)) false
 let j:=(!d)&&((!b)&&(!l))
 (c=true->InB a (len e)/\uR7 k.1/\((!d)=true->InB a (len e)/\qI0 h/\((!b)=true->InB a (len e)/\((g&&(!f))=true->InR (a-1))/\((g&&(!f))=true->InB i (len e))))/\(j=true->InR (a+1)),c&&j,(a+1,()),c&&(d||((!d)&&(b||((!b)&&l)))),!c)
def sX4 y x:=(vR4 y x).1
def vV5 y x:=(vR4 y x).2.1
def vR5 y x:=(vR4 y x).2.2.1
def uM4 y x:=(vR4 y x).2.2.2.1
def pL3 y x:=(vR4 y x).2.2.2.2
def vR6 (y:vM6)(x:wW4):Int:=
 let b:=y.1
 let a:=x.1
 (cond (decide (f135 (nth b a Z74).1<0)) (8:Int) (cond (!(f170 (nth b a Z74))) (2:Int) (24:Int)))
def tP6:St->Option Out:=xT3 [(0,Ag)] [(3,vI)] vV5 vR5 sX4 λy x=>[ex 1 (some (uM4 y x)) [(2,vI)] ((vR6 y x),()),ex 2 (some (pL3 y x)) [] ()]
def mS3 (p0:List D74):Prop×Int:=
 let b:=decide (len p0>128)
 let a:=(p0,())
 let d:=((0:Int),())
 let c:=zB9 (vV5 a) (vR5 a) d
 ((!b)=true->Am.Ends (vV5 a) (vR5 a) (sX4 a) d,cond b (3:Int) (cond (uM4 a c) (vR6 a c) (0:Int)))
def tF7 p0:=(mS3 p0).1
def f134 p0:=(mS3 p0).2
def uH:=sp1 Ag vI tF7 f134
def qV5:=Cy [(135,vV4),(170,rW3)] [(4,tP6)] [] 45
theorem qV6:CtxOk Tryz.prog qV5:=cq ⟨sL2,nZ,trivial⟩
noncomputable def oF0:Code:=Tryz.f134.body.getD .skip
noncomputable def oF1:Code:=wB4 oF0 0
theorem pL4:yX7 Tryz.prog qV5 oF1:=lq qV6 (sp:=tP6) rfl [[(2,vI)],[]]
theorem rH4:SK 134 uH:=fl qV6 Tryz.func134 (bs:=[oF1]) ⟨pL4,trivial⟩
def nZ0 (p0:D25)(p1:D71):Prop×D71:=
 let a:=f51 p0
 let c:=f89 p1.1
 let b:=f89 p1.2.1
 let d:=IntKind.wrap .i64 (f53 a.1 a.2.2.1 c b+a.2.2.2.2.1)
 let e:=IntKind.wrap .i64 (f53 a.2.1 a.2.2.2.1 c b+a.2.2.2.2.2.1)
 (qU3 p0/\sK p1.1/\sK p1.2.1/\sX1 a.1 a.2.2.1 c b/\sK d/\sX1 a.2.1 a.2.2.2.1 c b/\sK e,(f89 d,f89 e,()))
def qI1 p0 p1:=(nZ0 p0 p1).1
def f171 p0 p1:=(nZ0 p0 p1).2
def rW4:=sp2 Aq Al Al qI1 f171
def oZ2:=Cz [(51,rH),(53,rH2),(89,rG9)] [] [] 38
theorem nZ1:SK 171 rW4:=fq (c:=oZ2) Tryz.func171 ⟨nJ8,nK0,nJ7,trivial⟩
def nZ2 (p0:D25)(p1:D71):Prop×D71:=
 let s:=(IntKind.wrap .i64 (4096*p1.1),IntKind.wrap .i64 (4096*p1.2.1),())
 let a:=f171 p0 s
 (qI1 p0 s/\wI3 a.1 (4096:Int)/\wI3 a.2.1 (4096:Int),(f52 a.1 (4096:Int),f52 a.2.1 (4096:Int),()))
def sL4 p0 p1:=(nZ2 p0 p1).1
def f136 p0 p1:=(nZ2 p0 p1).2
def sL5:=sp2 Aq Al Al sL4 f136
def oZ3:=Cz [(52,wN4),(171,rW4)] [] [] 22
theorem oF2:SK 136 sL5:=fq (c:=oZ3) Tryz.func136 ⟨vV3,nZ1,trivial⟩
abbrev wW5:Type:=((List D74)×D25×(List D74)×Int×Unit)
abbrev wK6:Type:=(D74×Int×Unit)
def uY3 (y:wW5)(x:wK6):Prop×Bool×wK6×Bool×Bool:=
 let g:=y.2.1
 let b:=x.1
 let a:=x.2.1
 let c:=decide (a<f135 b.1)
 let e:=nth b.2.1 a Z71
 let s:=List.set b.2.1 (Int.toNat a) (f136 g e)
 let f:=nth s a Z71
 let d:=!(f137 f)
 (uR7 b.1/\(c=true->InB a 3/\sL4 g e/\InB a 3/\InB a 3/\sL3 f/\((!d)=true->InR (a+1))),c&&(!d),((b.1,s,()),a+1,()),c&&d,!c)
def uM5 y x:=(uY3 y x).1
def wF1 y x:=(uY3 y x).2.1
def wD4 y x:=(uY3 y x).2.2.1
def uM6 y x:=(uY3 y x).2.2.2.1
def uM7 y x:=(uY3 y x).2.2.2.2
def tP7 (y:wW5)(x:wK6):(List D74):=
 ([]:List D74)
def tP8 (y:wW5)(x:wK6):Int:=
 (2:Int)
def sX5:List (Nat×Sh):=[(4,Bi),(5,vI)]
def tP9 (y:wW5)(x:wK6):D74:=
 x.1
def sX6:List (Nat×Sh):=[(0,Ag),(3,Ba),(8,Bp),(9,vI),(10,Ay)]
def tQ:St->Option Out:=xT3 [(0,Ag),(3,Ba),(8,Bp),(9,vI)] [(10,Ay),(11,vI)] wF1 wD4 uM5 λy x=>[ex 1 (some (uM6 y x)) sX5 ((tP7 y x),(tP8 y x),()),ex 4 (some (uM7 y x)) sX6 (y.1,y.2.1,y.2.2.1,y.2.2.2.1,(tP9 y x),())]
abbrev vB2:Type:=((List D74)×D25×Unit)
abbrev wK1:Type:=((List D74)×Int×Unit)
def sL6 (y:vB2)(x:wK1):Prop×Bool×wK1×Bool×Bool:=
 let h:=y.1
 let i:=x.1
 let e:=x.2.1
 let c:=decide (e<len h)
 let a:=(h,y.2.1,i,e,())
 let g:=(nth h e Z74,(0:Int),())
 let d:=zB9 (wF1 a) (wD4 a) g
 let b:=uM7 a d
 let f:=([tP9 a d]:List D74)
 (c=true->InB e (len h)/\Am.Ends (wF1 a) (wD4 a) (uM5 a) g/\(b=true->((List.length i+List.length f:Nat):Int)<=4294967296)/\(b=true->InR (e+1)),c&&b,(i++f,e+1,()),c&&uM6 a d,!c)
def uY4 y x:=(sL6 y x).1
def wW6 y x:=(sL6 y x).2.1
def wG6 y x:=(sL6 y x).2.2.1
def sL7 y x:=(sL6 y x).2.2.2.1
def oF3 y x:=(sL6 y x).2.2.2.2
def uR8 (y:vB2)(x:wK1):(List D74):=
 let c:=y.1
 let b:=x.2.1
 let a:=(c,y.2.1,x.1,b,())
 (tP7 a (zB9 (wF1 a) (wD4 a) (nth c b Z74,(0:Int),())))
def uR9 (y:vB2)(x:wK1):Int:=
 let c:=y.1
 let b:=x.2.1
 let a:=(c,y.2.1,x.1,b,())
 (tP8 a (zB9 (wF1 a) (wD4 a) (nth c b Z74,(0:Int),())))
def rW5:List (Nat×Sh):=[(4,Bi),(5,vI)]
def uS (y:vB2)(x:wK1):(List D74):=
 x.1
def sL8:St->Option Out:=xT3 [(0,Ag),(3,Ba)] [(8,Bp),(9,vI)] wW6 wG6 uY4 λy x=>[ex 1 (some (sL7 y x)) rW5 ((uR8 y x),(uR9 y x),()),ex 2 (some (oF3 y x)) [(8,Bp)] ((uS y x),())]
def f96t (p0:List D74)(p1:D25):Prop×((List D74)×Int×Unit):=
 let e:=f134 p0
 let d:=e !=0
 let f:=f18 p1
 let c:=f !=0
 let a:=(p0,p1,())
 let h:=(([]:List D74),(0:Int),())
 let g:=zB9 (wW6 a) (wG6 a) h
 let b:=sL7 a g
 (tF7 p0/\((!d)=true->tP3 p1/\((!c)=true->Am.Ends (wW6 a) (wG6 a) (uY4 a) h)),(cond d [] (cond c [] (cond b (uR8 a g) (uS a g))),cond d e (cond c f (cond b (uR9 a g) (0:Int))),()))
def qV7 p0 p1:=(f96t p0 p1).1
def f96 p0 p1:=(f96t p0 p1).2
def qV8:=sp2 Ag Aq (.tup (.cons Bi (.cons vI .nl))) qV7 f96
def qI2:=Cy [(18,uX7),(134,uH),(135,vV4),(136,sL5),(137,uY2)] [(13,tQ),(9,sL8)] [(15,[(4,0,22,1008)]),(37,[(4,0,58,1008)]),(39,[(4,0,1008,0)])] 60
theorem qI3:CtxOk Tryz.prog qI2:=cq ⟨qU4,rH4,sL2,oF2,qI,trivial⟩
noncomputable def oZ4:Code:=Tryz.f96.body.getD .skip
noncomputable def oF4:Code:=wB4 oZ4 0
noncomputable def oF5:Code:=wB4 oF4 0
theorem pL5:yX7 Tryz.prog qI2 oF5:=lq qI3 (sp:=tQ) rfl [sX5,sX6]
theorem oF6:yX7 Tryz.prog qI2 oF4:=lm qI3 (sp:=sL8) rfl [rW5,[(8,Bp)]] (bs:=[oF5]) ⟨pL5,trivial⟩
theorem mS4:SK 96 qV8:=fl qI3 Tryz.func96 (bs:=[oF4]) ⟨oF6,trivial⟩
def mS5 (p0:Int)(p1:Int)(p2:Int)(p3:Int):Prop×Int:=
 let c:=8-p3
 let h:=8-p3
 let a:=c*h
 let j:=a*p0
 let l:=2*p3
 let k:=8-p3
 let d:=l*k
 let e:=d*p1
 let b:=j+e
 let g:=p3*p3
 let i:=g*p2
 let f:=b+i
 (InR (8-p3)/\InR (8-p3)/\InR (c*h)/\InR (a*p0)/\InR (2*p3)/\InR (8-p3)/\InR (l*k)/\InR (d*p1)/\InR (j+e)/\InR (p3*p3)/\InR (g*p2)/\InR (b+i)/\wI3 f (64:Int),f52 f (64:Int))
def tF8 p0 p1 p2 p3:=(mS5 p0 p1 p2 p3).1
def f173 p0 p1 p2 p3:=(mS5 p0 p1 p2 p3).2
def rW6:=sp4 vI vI vI vI vI tF8 f173
def oZ5:=Cy [(52,wN4)] [] [] 31
theorem nZ3:SK 173 rW6:=fq (c:=oZ5) Tryz.func173 ⟨vV3,trivial⟩
def mS6 (p0:Int)(p1:Int)(p2:Int)(p3:Int)(p4:Int):Prop×Int:=
 let a:=16-p4
 let m:=a*a
 let q:=m*a
 let e:=q*p0
 let d:=3*p4
 let n:=d*a
 let h:=n*a
 let j:=h*p1
 let f:=e+j
 let k:=3*p4
 let g:=k*p4
 let s:=g*a
 let o:=s*p2
 let c:=f+o
 let r:=p4*p4
 let i:=r*p4
 let b:=i*p3
 let l:=c+b
 (InR (16-p4)/\InR (a*a)/\InR (m*a)/\InR (q*p0)/\InR (3*p4)/\InR (d*a)/\InR (n*a)/\InR (h*p1)/\InR (e+j)/\InR (3*p4)/\InR (k*p4)/\InR (g*a)/\InR (s*p2)/\InR (f+o)/\InR (p4*p4)/\InR (r*p4)/\InR (i*p3)/\InR (c+b)/\wI3 l (4096:Int),f52 l (4096:Int))
def tF9 p0 p1 p2 p3 p4:=(mS6 p0 p1 p2 p3 p4).1
def f174 p0 p1 p2 p3 p4:=(mS6 p0 p1 p2 p3 p4).2
def rW7:=sp5 vI vI vI vI vI vI tF9 f174
def oZ6:=Cy [(52,wN4)] [] [] 48
theorem nZ4:SK 174 rW7:=fq (c:=oZ6) Tryz.func174 ⟨vV3,trivial⟩
def qV9 (p0:List D71)(p1:D71):Prop×(List D71):=
 let e:=decide (len p0>0)
 let c:=len p0
 let a:=c-1
 let d:=cond e (Ty.eqb T71 (nth p0 a Z71) p1) false
 let b:=([p1]:List D71)
 ((e=true->InR (c-1))/\(e=true->InB a (len p0))/\(e=true->a<len p0)/\((!d)=true->((List.length p0+List.length b:Nat):Int)<=4294967296),cond d p0 (p0++b))
def vV6 p0 p1:=(qV9 p0 p1).1
def uA5 p0 p1:=(qV9 p0 p1).2
def tQ0:=sp2 Ax Al Cs vV6 uA5
def qI4:Ctx:=Cx tys [] [] [(5,[(4,0,400000,0)]),(7,[(4,0,22,0)])] false 23 [] [22]
theorem pL6:SK 172 tQ0:=fq (c:=qI4) Tryz.func172 trivial
abbrev vD4:Type:=(D71×D74×Unit)
abbrev wO3:Type:=((List D71)×Int×Unit)
def uS0 (y:vD4)(x:wO3):Prop×Bool×wO3:=
 let h:=y.1
 let g:=y.2.1
 let i:=x.1
 let a:=x.2.1
 let b:=decide (a<=8)
 let d:=(nth g.2.1 (0:Int) Z71).1
 let e:=(nth g.2.1 (1:Int) Z71).1
 let c:=(nth g.2.1 (0:Int) Z71).2.1
 let f:=(nth g.2.1 (1:Int) Z71).2.1
 let s:=(f173 h.1 d e a,f173 h.2.1 c f a,())
 (b=true->InB (0:Int) 3/\InB (1:Int) 3/\tF8 h.1 d e a/\InB (0:Int) 3/\InB (1:Int) 3/\tF8 h.2.1 c f a/\vV6 i s/\InR (a+1),b,(uA5 i s,a+1,()))
def uY5 y x:=(uS0 y x).1
def vD5 y x:=(uS0 y x).2.1
def wO4 y x:=(uS0 y x).2.2
def uH0 (y:vD4)(x:wO3):(List D71):=
 x.1
def uH1:St->Option Out:=xT3 [(4,Bj),(5,Ay)] [(0,Ax),(7,vI)] vD5 wO4 uY5 λy x=>[ex 3 none [(0,Ax)] ((uH0 y x),())]
abbrev wW7:Type:=(D71×D74×Unit)
abbrev wM2:Type:=((List D71)×Int×Unit)
def uH2 (y:wW7)(x:wM2):Prop×Bool×wM2:=
 let j:=y.1
 let b:=y.2.1
 let k:=x.1
 let a:=x.2.1
 let i:=decide (a<=16)
 let h:=(nth b.2.1 (0:Int) Z71).1
 let f:=(nth b.2.1 (1:Int) Z71).1
 let d:=(nth b.2.1 (2:Int) Z71).1
 let c:=(nth b.2.1 (0:Int) Z71).2.1
 let g:=(nth b.2.1 (1:Int) Z71).2.1
 let e:=(nth b.2.1 (2:Int) Z71).2.1
 let s:=(f174 j.1 h f d a,f174 j.2.1 c g e a,())
 (i=true->InB (0:Int) 3/\InB (1:Int) 3/\InB (2:Int) 3/\tF9 j.1 h f d a/\InB (0:Int) 3/\InB (1:Int) 3/\InB (2:Int) 3/\tF9 j.2.1 c g e a/\vV6 k s/\InR (a+1),i,(uA5 k s,a+1,()))
def uP3 y x:=(uH2 y x).1
def wW8 y x:=(uH2 y x).2.1
def wM9 y x:=(uH2 y x).2.2
def uD0 (y:wW7)(x:wM2):(List D71):=
 x.1
def uD1:St->Option Out:=xT3 [(4,Bj),(5,Ay)] [(0,Ax),(8,vI)] wW8 wM9 uP3 λy x=>[ex 5 none [(0,Ax)] ((uD0 y x),())]
def qW (p0:List D71)(p1:D71)(p2:D74):Prop×(List D71):=
 let e:=p2.1==1
 let c:=cond e e (p2.1==2)
 let i:=nth p2.2.1 (0:Int) Z71
 let b:=p2.1==3
 let d:=(p1,p2,())
 let j:=(p0,(1:Int),())
 let g:=p2.1==4
 let a:=(p1,p2,())
 let h:=(p0,(1:Int),())
 let f:=cond c (uA5 p0 i) (cond b (uH0 d (zB9 (vD5 d) (wO4 d) j)) (cond g (uD0 a (zB9 (wW8 a) (wM9 a) h)) p0))
 ((c=true->InB (0:Int) 3/\vV6 p0 i)/\(c=false->(b=true->Am.Ends (vD5 d) (wO4 d) (uY5 d) j)/\(b=false->g=true->Am.Ends (wW8 a) (wM9 a) (uP3 a) h)),f)
def vJ7 p0 p1 p2:=(qW p0 p1 p2).1
def tG p0 p1 p2:=(qW p0 p1 p2).2
def tQ1:=sp3 Ax Al Cq Cs vJ7 tG
def uS1:Ctx:={ Cx tys [(172,tQ0),(173,rW6),(174,rW7)] [(7,uH1),(12,uD1)] [(9,[(4,0,18,400000)]),(19,[(4,0,51,400000)]),(29,[(4,0,92,400000)]),(31,[(4,0,400000,0)])] false 94 [] [] with wants:=[(172,[0])] }
theorem uS2:CtxOk Tryz.prog uS1:=cq ⟨pL6,nZ3,nZ4,trivial⟩
noncomputable def tQ2:Code:=Tryz.f138.body.getD .skip
noncomputable def sX7:Code:=wB4 tQ2 0
theorem rH5:yX7 Tryz.prog uS1 sX7:=lq uS2 (sp:=uH1) rfl [[(0,Ax)]]
noncomputable def sL9:Code:=wB4 tQ2 1
theorem sT1:yX7 Tryz.prog uS1 sL9:=lq uS2 (sp:=uD1) rfl [[(0,Ax)]]
theorem pL7:SK 138 tQ1:=fl uS2 Tryz.func138 (bs:=[sX7,sL9]) ⟨rH5,sT1,trivial⟩
abbrev uY6:Type:=((List D74)×Unit)
abbrev uA6:Type:=(((List (List D71))×Nat)×D71×Int×Unit)
def qI5 (y:uY6)(x:uA6):Prop×Bool×uA6:=
 let e:=y.1
 let l:=x.1
 let s:=x.2.1
 let c:=x.2.2.1
 let q:=decide (c<len e)
 let g:=(nth e c Z74).1==1
 let d:=cond g (l.1++[[]]) l.1
 let b:=cond g (List.length l.1) l.2
 let k:=len d
 let a:=k-1
 let o:=len d
 let f:=o-1
 let n:=List.getD d b []
 let r:=nth e c Z74
 let m:=nth e c Z74
 let h:=f135 m.1
 let j:=decide (h>0)
 let i:=h-1
 (q=true->InB c (len e)/\(g=true->((List.length l.1+1:Nat):Int)<=4294967296)/\InR (k-1)/\InR (o-1)/\InB f (len d)/\(Int.toNat f=b/\f<len d)/\InB c (len e)/\vJ7 n s r/\InB a (len d)/\(Int.toNat a=b/\a<len d)/\(Int.toNat a=b/\a<len d)/\InB c (len e)/\uR7 m.1/\(j=true->InR (h-1)/\InB c (len e)/\InB i 3)/\InR (c+1),q,((List.set d (Int.toNat a) (tG n s r),Int.toNat a),cond j (nth (nth e c Z74).2.1 i Z71) s,c+1,()))
def rW8 y x:=(qI5 y x).1
def uY7 y x:=(qI5 y x).2.1
def vM7 y x:=(qI5 y x).2.2
def uS3 (y:uY6)(x:uA6):((List (List D71))×Nat):=
 let a:=x.1
 (a.1,a.2)
def rW9:List (Nat×Sh):=[(5,(.ownh T71 1005 9000005 true))]
def sM:St->Option Out:=xT3 [(0,Ag)] [(5,(.ownh T71 1005 9000005 true)),(6,Bj),(7,vI)] uY7 vM7 rW8 λy x=>[ex 2 none rW9 ((uS3 y x),())]
def f97t (p0:List D74):Prop×((List (List D71))×Int×Unit):=
 let c:=f134 p0
 let a:=c !=0
 let b:=(p0,())
 let d:=((([]:List (List D71)),List.length ([]:List (List D71))),((0:Int),(0:Int),()),(0:Int),())
 (tF7 p0/\((!a)=true->Am.Ends (uY7 b) (vM7 b) (rW8 b) d),(cond a [] (uS3 b (zB9 (uY7 b) (vM7 b) d)).1,cond a c (0:Int),()))
def rX p0:=(f97t p0).1
def f97 p0:=(f97t p0).2
def rH6:=sp1 Ag (.tup (.cons Ai (.cons vI .nl))) rX f97
def oF7:Ctx:={ Cx tys [(134,uH),(135,vV4),(138,tQ1)] [(7,sM)] [(9,[(4,0,14,1005)]),(20,[(1,5,0,0)]),(21,[(4,0,30,1005),(4,0,100029,9000005)]),(23,[(4,0,46,9000005)]),(31,[(1,2,0,0),(1,2,0,0),(4,0,1005,0)])] false 65 [] [5,14,29,30] with wants:=[(138,[0])] }
theorem oF8:CtxOk Tryz.prog oF7:=cq ⟨rH4,sL2,pL7,trivial⟩
noncomputable def oZ7:Code:=Tryz.f97.body.getD .skip
noncomputable def nK8:Code:=wB4 oZ7 0
theorem oF9:yX7 Tryz.prog oF7 nK8:=lq oF8 (sp:=sM) rfl [rW9]
theorem nK9:SK 97 rH6:=fl oF8 Tryz.func97 (bs:=[nK8]) ⟨oF9,trivial⟩
end Go.Proofs.YtgjkpohjjmkkgaaGreatDoor.Am
