/- Printed by program, part 3. No condition. -/
import Derived.Test.YtgjdonlgingdeaaGreatDoorDckP2
set_option linter.unusedVariables false
set_option synthInstance.maxSize 4000
set_option synthInstance.maxHeartbeats 400000
namespace Go.Proofs.YtgjdonlgingdeaaGreatDoor.Am
open Go Go.Am Go.Proofs
open _root_.Int (tdiv toNat)
open _root_.List (length replicate set take)
open _root_.Option (getD isSome)
abbrev uJ6:Type:=(Int×A7×AQ×(List (List A0))×Int×Int×A0×(List (List UInt8))×Int×Int×(List A0)×Int×Int×(List (List A0))×Int×Int×(List A0)×Int×Unit)
def rD3 (y:uJ6)(x:CW):Prop×Bool×CW:=
 let o:=y.1
 let c:=y.2.1
 let k:=(Q1 y).1
 let l:=(Q3 y).1
 let m:=(Qe y).1
 let j:=x.1
 let a:=x.2.1
 let n:=decide (a<(Qd y).1)
 let b:=nth m a A1
 let d:=l.2.1+b.1
 let e:=d*o
 let f:=k*c.2.2.1
 let g:=c.2.1+f
 let h:=g-b.2.1
 let i:=h*o
 (n=true->A6 a (len m)/\A5 (l.2.1+b.1)/\A5 (d*o)/\Ed e c.1/\A5 (k*c.2.2.1)/\A5 (c.2.1+f)/\A5 (g-b.2.1)/\A5 (h*o)/\Ed i c.1/\A6 a (len j)/\a<len j/\A5 (a+1),n,(set j (toNat a) (AM e c.1,AM i c.1,()),a+1,()))
def tP5 y x:=(rD3 y x).1
def Tk y x:=(rD3 y x).2.1
def Tl y x:=(rD3 y x).2.2
def tV5 (y:uJ6)(x:CW):(List A0):=
 x.1
def rD4:List (Nat×Sh):=[(2,vI),(4,Ah),(11,Az),(12,Ax),(13,vI),(14,vI),(19,Bz),(24,(.own AN 1024 true)),(41,Bd),(42,vI),(43,vI),(54,Ce),(55,vI),(56,vI),(74,Dp),(75,vI),(76,vI)]
def pC0:=li [(2,vI),(4,Ah),(11,Az),(12,Ax),(13,vI),(14,vI),(19,Bz),(41,Bd),(42,vI),(43,vI),(54,Ce),(55,vI),(56,vI),(74,Dp),(75,vI),(76,vI),(89,Bc),(90,vI)] [(24,(.own AN 1024 true)),(91,vI)] Tk Tl tP5 (λy x=>[ex 8 none rD4 (y.1,y.2.1,y.2.2.1,y.2.2.2.1,y.2.2.2.2.1,(Q1 y).1,(Q3 y).1,(tV5 y x),(Q0 y).1,(Q5 y).1,(Q4 y).1,(Q2 y).1,(Q7 y).1,(Q6 y).1,(Q9 y).1,(Qc y).1,(Qa y).1,())]) [rD4]
abbrev Xi:Type:=(Int×A7×AQ×Int×A0×(List (List UInt8))×Int×Int×(List A0)×Int×Int×(List (List A0))×Int×Unit)
abbrev Fk:Type:=((List (List A0))×Int×Int×Unit)
def Xj (y:Xi)(x:Fk):Prop×Bool×Fk×Bool×Bool:=
 let i:=(Q7 y).1
 let l:=(Q6 y).1
 let h:=x.1
 let k:=x.2.1
 let a:=x.2.2.1
 let d:=decide (a<l)
 let e:=nth i a ([]:List A0)
 let m:=len e
 let j:=k+m
 let f:=decide (j>4096)
 let c:=len e
 let b:=(y.1,y.2.1,y.2.2.1,h,j,y.2.2.2.1,y.2.2.2.2.1,(Q1 y).1,(Q3 y).1,(Q0 y).1,(Q5 y).1,(Q4 y).1,(Q2 y).1,i,l,a,e,len e,())
 let n:=(replicate (toNat c) A1,(0:Int),())
 let g:=([tV5 b (A3 (Tk b) (Tl b) n)]:List (List A0))
 (d=true->A6 a (len i)/\A5 (k+m)/\((!f)=true->(0<=c/\c<=c/\c<=4294967296)/\Am.Ends (Tk b) (Tl b) (tP5 b) n/\((length h+length g:Nat):Int)<=4294967296)/\((!f)=true->A5 (a+1)),d&&(!f),(h++g,j,a+1,()),d&&f,!d)
def tP6 y x:=(Xj y x).1
def LR y x:=(Xj y x).2.1
def NG y x:=(Xj y x).2.2.1
def tP7 y x:=(Xj y x).2.2.2.1
def rD5 y x:=(Xj y x).2.2.2.2
def tV6 (y:Xi)(x:Fk):(List (List A0)):=
 ([]:List (List A0))
def tV7 (y:Xi)(x:Fk):Int:=
 (3:Int)
def rD6:List (Nat×Sh):=[(8,At),(9,vI)]
def tV8 (y:Xi)(x:Fk):(List (List A0)):=
 x.1
def tV9 (y:Xi)(x:Fk):Int:=
 x.2.1
def rD7:List (Nat×Sh):=[(2,vI),(4,Ah),(11,Az),(12,Ax),(13,vI),(14,vI),(41,Bd),(42,vI),(43,vI),(54,Ce),(55,vI),(56,vI)]
def pC1:=li [(2,vI),(4,Ah),(11,Az),(14,vI),(19,Bz),(41,Bd),(42,vI),(43,vI),(54,Ce),(55,vI),(56,vI),(74,Dp),(75,vI)] [(12,Ax),(13,vI),(76,vI)] LR NG tP6 (λy x=>[ex 1 (some (tP7 y x)) rD6 ((tV6 y x),(tV7 y x),()),ex 6 (some (rD5 y x)) rD7 (y.1,y.2.1,y.2.2.1,(tV8 y x),(tV9 y x),y.2.2.2.1,(Q1 y).1,(Q3 y).1,(Q0 y).1,(Q5 y).1,(Q4 y).1,(Q2 y).1,())]) [rD6,rD7]
abbrev Xk:Type:=(Int×A7×AQ×Int×(List (List UInt8))×Int×Int×(List A0)×Int×Unit)
def Xl (y:Xk)(x:Fk):Prop×Bool×Fk×Bool×Bool:=
 let m:=y.2.1
 let g:=(Q0 y).1
 let j:=(Q5 y).1
 let b:=x.2.2.1
 let e:=decide (b<j)
 let h:=nth g b A1
 let k:=nth m.2.2.2.1 h.1 BC
 let i:=BF k.2.2.1
 let f:=i.2.1 !=0
 let a:=(y.1,m,y.2.2.1,y.2.2.2.1,h,y.2.2.2.2.1,(Q1 y).1,(Q3 y).1,g,j,b,i.1,len i.1,())
 let l:=(x.1,x.2.1,(0:Int),())
 let d:=A3 (LR a) (NG a) l
 let c:=(!f)&&rD5 a d
 (e=true->A6 b (len g)/\A6 h.1 (len m.2.2.2.1)/\WQ k.2.2.1/\((!f)=true->Am.Ends (LR a) (NG a) (tP6 a) l)/\(c=true->A5 (b+1)),e&&c,(tV8 a d,tV9 a d,b+1,()),e&&(f||((!f)&&tP7 a d)),!e)
def tP8 y x:=(Xl y x).1
def wV y x:=(Xl y x).2.1
def wK y x:=(Xl y x).2.2.1
def Xm y x:=(Xl y x).2.2.2.1
def rD8 y x:=(Xl y x).2.2.2.2
def tW (y:Xk)(x:Fk):(List (List A0)):=
 let f:=y.2.1
 let c:=(Q0 y).1
 let d:=x.2.2.1
 let e:=nth c d A1
 let a:=BF (nth f.2.2.2.1 e.1 BC).2.2.1
 let b:=(y.1,f,y.2.2.1,y.2.2.2.1,e,y.2.2.2.2.1,(Q1 y).1,(Q3 y).1,c,(Q5 y).1,d,a.1,len a.1,())
 (cond (a.2.1 !=0) [] (tV6 b (A3 (LR b) (NG b) (x.1,x.2.1,(0:Int),()))))
def Xn (y:Xk)(x:Fk):Int:=
 let f:=y.2.1
 let c:=(Q0 y).1
 let d:=x.2.2.1
 let e:=nth c d A1
 let a:=BF (nth f.2.2.2.1 e.1 BC).2.2.1
 let b:=(y.1,f,y.2.2.1,y.2.2.2.1,e,y.2.2.2.2.1,(Q1 y).1,(Q3 y).1,c,(Q5 y).1,d,a.1,len a.1,())
 (cond (a.2.1 !=0) a.2.1 (tV7 b (A3 (LR b) (NG b) (x.1,x.2.1,(0:Int),()))))
def rD9:List (Nat×Sh):=[(8,At),(9,vI)]
def tW0 (y:Xk)(x:Fk):(List (List A0)):=
 x.1
def tW1 (y:Xk)(x:Fk):Int:=
 x.2.1
def rE:List (Nat×Sh):=[(2,vI),(4,Ah),(11,Az),(12,Ax),(13,vI),(41,Bd),(42,vI),(43,vI)]
def pC2:=li [(2,vI),(4,Ah),(11,Az),(14,vI),(41,Bd),(42,vI),(43,vI),(54,Ce),(55,vI)] [(12,Ax),(13,vI),(56,vI)] wV wK tP8 (λy x=>[ex 1 (some (Xm y x)) rD9 ((tW y x),(Xn y x),()),ex 4 (some (rD8 y x)) rE (y.1,y.2.1,y.2.2.1,(tW0 y x),(tW1 y x),y.2.2.2.2.1,(Q1 y).1,(Q3 y).1,())]) [rD9,rE]
abbrev Xo:Type:=(Int×A7×AQ×(List (List UInt8))×Int×Unit)
def Xp (y:Xo)(x:Fk):Prop×Bool×Fk×Bool×Bool:=
 let f:=y.2.2.1
 let g:=y.2.2.2.1
 let h:=y.2.2.2.2.1
 let b:=x.2.2.1
 let e:=decide (b<h)
 let i:=nth g b ([]:List UInt8)
 let j:=C1 f i
 let a:=(y.1,y.2.1,f,b,g,h,b,j.1,len j.1,())
 let k:=(x.1,x.2.1,(0:Int),())
 let d:=A3 (wV a) (wK a) k
 let c:=rD8 a d
 (e=true->A6 b (len g)/\W2 f i/\Am.Ends (wV a) (wK a) (tP8 a) k/\(c=true->A5 (b+1)),e&&c,(tW0 a d,tW1 a d,b+1,()),e&&Xm a d,!e)
def sG9 y x:=(Xp y x).1
def Jj y x:=(Xp y x).2.1
def wI y x:=(Xp y x).2.2.1
def Xq y x:=(Xp y x).2.2.2.1
def pZ5 y x:=(Xp y x).2.2.2.2
def uY9 (y:Xo)(x:Fk):(List (List A0)):=
 let c:=y.2.2.1
 let d:=y.2.2.2.1
 let a:=x.2.2.1
 let e:=C1 c (nth d a ([]:List UInt8))
 let b:=(y.1,y.2.1,c,a,d,y.2.2.2.2.1,a,e.1,len e.1,())
 (tW b (A3 (wV b) (wK b) (x.1,x.2.1,(0:Int),())))
def uE9 (y:Xo)(x:Fk):Int:=
 let c:=y.2.2.1
 let d:=y.2.2.2.1
 let a:=x.2.2.1
 let e:=C1 c (nth d a ([]:List UInt8))
 let b:=(y.1,y.2.1,c,a,d,y.2.2.2.2.1,a,e.1,len e.1,())
 (Xn b (A3 (wV b) (wK b) (x.1,x.2.1,(0:Int),())))
def rU:List (Nat×Sh):=[(8,At),(9,vI)]
def sP1 (y:Xo)(x:Fk):(List (List A0)):=
 x.1
def rU0:List (Nat×Sh):=[(12,Ax)]
def pZ6:=li [(2,vI),(4,Ah),(11,Az),(41,Bd),(42,vI)] [(12,Ax),(13,vI),(43,vI)] Jj wI sG9 (λy x=>[ex 1 (some (Xq y x)) rU ((uY9 y x),(uE9 y x),()),ex 2 (some (pZ5 y x)) rU0 ((sP1 y x),())]) [rU,rU0]
def LS (i:A7)(j:List UInt8)(k l:Int):Prop×((List (List A0))×Int×Unit):=
 let e:=JZ i j k l
 let c:=e !=0
 let d:=B9 i
 let f:=f205 d j k l
 let a:=(k,i,d,f,len f,())
 let h:=(([]:List (List A0)),(0:Int),(0:Int),())
 let g:=A3 (Jj a) (wI a) h
 let b:=Xq a g
 (qD9 i j k l/\((!c)=true->Xh i/\SH d j k l/\Am.Ends (Jj a) (wI a) (sG9 a) h),(cond c [] (cond b (uY9 a g) (sP1 a g)),cond c e (cond b (uE9 a g) (0:Int)),()))
def PB a b c d:=(LS a b c d).1
def DE a b c d:=(LS a b c d).2
def oN1:=Fw Bm vS vI vI (.tup (.cons At (.cons vI .nl))) PB DE
theorem mJ9:SK 165 (Fw Bm vS vI vI (.tup (.cons At (.cons vI .nl))) PB DE):=fb Tryz.func165 134 [kb JL,kb oM2,kb mJ6,kb mJ8,kb mE0,kb oK] [(8,pZ6),(12,pC2),(18,pC1),(25,pC0)] [(21,[(4,0,51,1016)]),(29,[(4,0,68,1020)]),(47,[(4,0,88,1024)]),(58,[(1,24,0,0)]),(59,[(4,0,129,1012)]),(67,[(4,0,1012,0)])] false [] [88]
def PC (a:List UInt8):List (List UInt8):=Lib.fields a
def Xr (a:List UInt8):Prop:=(length a:Int)<=4294967280/\(a.all λb=>decide (b.toNat<128))=true
instance (a:List UInt8):Decidable (Xr a):=by
  unfold Xr
  infer_instance
def mK:List (Nat×Sh):=[(0,Dn)]
def mK0:Sh:=Bd
def mK1:List (Nat×Sh):=[]
def oN2:Am.Spec:=fnSpec mK mK0 mK1 (λx=>Xr x.1) (λx=>PC x.1) (λ_=>())
theorem tab0:G0=Lib.asciiSpaceTab:=by kernel_rfl
theorem mK2:SpecOk Tryz.prog 207 oN2:=wA7 (F:=PC) (e:=9) (ok:=Xr) ⟨_,Tryz.func207,by kernel_rfl,by decide⟩ λs w χ kh hg =>
  Any.strings_Fields_core Tryz.lays157 (by kernel_rfl) s w (by have h1:=kh.1;rw[jN] at h1;have h2:s.data.size=s.size:=rfl;omega)
    (λj b hj=>by have:=List.all_eq_true.1 kh.2 b (List.mem_of_getElem? hj);simpa using this)
    (λc hc=>by
      have h1:=wB7 hg (g:=0) (n:=256) (k:=.u8) (l:=G0) (jQ ..) c hc;rw[tab0,Lib.asciiSpaceTab_at c hc] at h1;exact h1)
def mK3 (a:List UInt8)(b:Int):Prop×Int:=
 (fN a b,Wv a b)
def Xs a b:=(mK3 a b).1
def PD a b:=(mK3 a b).2
instance (a b):Decidable (Xs a b):=by unfold Xs mK3;dsimp only;infer_instance
theorem mK4:SK 208 (BG vS Ba vI Xs PD):=fb Tryz.func208 8 [kb mC2]
def mK5 (b c d e:Int):Prop×(List A8):=
 let a:=([((1:Int),([(b,c,()),A1,A1]:List A0),()),((2:Int),([(d,c,()),A1,A1]:List A0),()),((2:Int),([(d,e,()),A1,A1]:List A0),()),((2:Int),([(b,e,()),A1,A1]:List A0),()),((5:Int),replicate 3 A1,())]:List A8)
 (True,a)
def qE1 a b c d:=(mK5 a b c d).1
def Xt a b c d:=(mK5 a b c d).2
instance (a b c d):Decidable (qE1 a b c d):=by unfold qE1 mK5;dsimp only;infer_instance
theorem mK6:SK 245 (Fw vI vI vI vI Bj qE1 Xt):=fb Tryz.func245 31 [] [] [(3,[(4,0,30,0)])]
abbrev uZ:Type:=(Int×Int×(List A8)×Int×Unit)
def sW7 (y:uZ)(x:AA):Prop×Bool×AA:=
 let b:=x.1
 let a:=decide ((b+1)<7)
 let c:=b+1
 let d:=cond a (Fu .i64 (ER y.2.1 c 64) (1:Int)==1) false
 (A5 (b+1)/\(a=true->A5 (b+1))/\(a=true->0<=c)/\(d=true->A5 (b+1)),d,(b+1,()))
def tI5 y x:=(sW7 y x).1
def rE2 y x:=(sW7 y x).2.1
def uZ0 y x:=(sW7 y x).2.2
instance (y x):Decidable (tI5 y x):=by unfold tI5 sW7;dsimp only;infer_instance
def sP2 (y:uZ)(x:AA):Int:=
 x.1
def rU1:List (Nat×Sh):=[(0,vI),(1,vI),(5,Cf),(6,vI),(7,vI)]
def pZ7:=li [(0,vI),(1,vI),(5,Cf),(6,vI)] [(7,vI)] rE2 uZ0 tI5 (λy x=>[ex 4 none rU1 (y.1,y.2.1,y.2.2.1,y.2.2.2.1,(sP2 y x),())]) [rU1]
abbrev HK:Type:=(Unit)
def sW8 (y:HK)(x:uZ):Prop×Bool×uZ:=
 let e:=x.1
 let o:=x.2.1
 let q:=x.2.2.1
 let d:=x.2.2.2.1
 let s:=decide (d<7)
 let b:=Fu .i64 (ER o d 64) (1:Int)==0
 let f:=(e,o,q,d,())
 let t:=(d,())
 let a:=sP2 f (A3 (rE2 f) (uZ0 f) t)
 let g:=100*e
 let h:=100*d
 let i:=700-h
 let j:=100*e
 let k:=j+100
 let l:=100*a
 let m:=600-l
 let n:=Xt g i k m
 let c:=b||(!b)
 let r:=cond b d a
 (s=true->0<=d/\((!b)=true->Am.Ends (rE2 f) (uZ0 f) (tI5 f) t/\A5 (100*e)/\A5 (100*d)/\A5 (700-h)/\A5 (100*e)/\A5 (j+100)/\A5 (100*a)/\A5 (600-l)/\qE1 g i k m/\((length q+length n:Nat):Int)<=4294967296)/\(c=true->A5 (r+1)),s&&c,(cond b e e,cond b o o,cond b q (q++n),r+1,()))
def tI6 y x:=(sW8 y x).1
def rE3 y x:=(sW8 y x).2.1
def uZ2 y x:=(sW8 y x).2.2
instance (y x):Decidable (tI6 y x):=by unfold tI6 sW8;dsimp only;infer_instance
def sP3 (y:HK)(x:uZ):(List A8):=
 x.2.2.1
def pZ8:=li [] [(0,vI),(1,vI),(5,Cf),(6,vI)] rE3 uZ2 tI6 (λy x=>[ex 2 none [(5,Cf)] ((sP3 y x),())]) [[(5,Cf)]]
def mK7 (b c:Int):Prop×(List A8):=
 let a:=(b,c,([]:List A8),(0:Int),())
 (Am.Ends (rE3 ()) (uZ2 ()) (tI6 ()) a,sP3 () (A3 (rE3 ()) (uZ2 ()) a))
def qE2 a b:=(mK7 a b).1
def Xu a b:=(mK7 a b).2
instance (a b):Decidable (qE2 a b):=by unfold qE2 mK7;dsimp only;infer_instance
theorem mK8:SK 209 (BG vI vI Bj qE2 Xu):=fb Tryz.func209 47 [kb mK6] [(3,pZ8),(7,pZ7)] [(19,[(4,0,44,1005)]),(23,[(4,0,1005,0)])]
abbrev vX7:Type:=((List UInt8)×(List (List UInt8))×Int×Int×Int×Unit)
abbrev vD:Type:=((Int×Int×Int×(List C5)×(List DB)×Unit)×(Int×Int×Int×(List C5)×(List DB)×Unit)×(Int×Int×(List A8)×Unit)×Int×Unit)
def sW9 (y:vX7)(x:vD):Prop×Bool×vD:=
 let o:=y.1
 let b:=x.1
 let c:=x.2.1
 let q:=x.2.2.1
 let a:=x.2.2.2.1
 let d:=decide (a<y.2.2.2.2.1)
 let e:=2*a
 let f:=BN o e
 let g:=PD ([48,49,50,51,52,53,54,55,56,57,97,98,99,100,101,102]:List UInt8) f
 let h:=16*g
 let i:=2*a
 let j:=i+1
 let k:=BN o j
 let l:=PD ([48,49,50,51,52,53,54,55,56,57,97,98,99,100,101,102]:List UInt8) k
 let m:=h+l
 let n:=Xu a m
 (d=true->A5 (2*a)/\A6 e (len o)/\Xs ([48,49,50,51,52,53,54,55,56,57,97,98,99,100,101,102]:List UInt8) f/\A5 (16*g)/\A5 (2*a)/\A5 (i+1)/\A6 j (len o)/\Xs ([48,49,50,51,52,53,54,55,56,57,97,98,99,100,101,102]:List UInt8) k/\A5 (h+l)/\qE2 a m/\((length q.2.2.1+length n:Nat):Int)<=4294967296/\A5 (a+1),d,(b,c,(q.1,q.2.1,q.2.2.1++n,()),a+1,()))
def tI7 y x:=(sW9 y x).1
def rE4 y x:=(sW9 y x).2.1
def uZ3 y x:=(sW9 y x).2.2
instance (y x):Decidable (tI7 y x):=by unfold tI7 sW9;dsimp only;infer_instance
def sP4 (y:vX7)(x:vD):(Int×Int×Int×(List C5)×(List DB)×Unit):=
 let a:=x.1
 a
def sP5 (y:vX7)(x:vD):(Int×Int×Int×(List C5)×(List DB)×Unit):=
 let a:=x.2.1
 a
def sP6 (y:vX7)(x:vD):(Int×Int×(List A8)×Unit):=
 let a:=x.2.2.1
 (a.1,a.2.1,a.2.2.1,())
def rU2:List (Nat×Sh):=[(0,Ae),(1,Af),(4,Bs),(8,Bd),(9,vI),(10,vI)]
def pZ9:=li [(3,vS),(8,Bd),(9,vI),(10,vI),(21,vI)] [(0,Ae),(1,Af),(4,Bs),(22,vI)] rE4 uZ3 tI7 (λy x=>[ex 4 none rU2 ((sP4 y x),(sP5 y x),(sP6 y x),y.2.1,y.2.2.1,y.2.2.2.1,())]) [rU2]
abbrev Tm:Type:=((List (List UInt8))×Int×Unit)
abbrev NH:Type:=((Int×Int×Int×(List C5)×(List DB)×Unit)×(Int×Int×Int×(List C5)×(List DB)×Unit)×Int×Unit)
def sX (y:Tm)(x:NH):Prop×Bool×NH:=
 let l:=y.1
 let n:=y.2.1
 let f:=x.1
 let g:=x.2.1
 let d:=x.2.2.1
 let h:=decide (d<n)
 let i:=nth l d ([]:List UInt8)
 let j:=len i
 let e:=(i,l,n,d,tdiv j (2:Int),())
 let o:=(f,g,(IntKind.wrap .u8 (32+d),(600:Int),([]:List A8),()),(0:Int),())
 let m:=A3 (rE4 e) (uZ3 e) o
 let b:=sP4 e m
 let a:=sP5 e m
 let c:=sP6 e m
 let k:=([(c.1,c.2.1,c.2.2.1,())]:List C5)
 (h=true->A6 d (len l)/\A5 (32+d)/\A5 (tdiv j (2:Int))/\Am.Ends (rE4 e) (uZ3 e) (tI7 e) o/\((length a.2.2.2.1+length k:Nat):Int)<=4294967296/\A5 (d+1),h,(b,(a.1,a.2.1,a.2.2.1,a.2.2.2.1++k,a.2.2.2.2.1,()),d+1,()))
def tI8 y x:=(sX y x).1
def rE5 y x:=(sX y x).2.1
def uZ4 y x:=(sX y x).2.2
instance (y x):Decidable (tI8 y x):=by unfold tI8 sX;dsimp only;infer_instance
def qQ2 (y:Tm)(x:NH):(Int×Int×Int×(List C5)×(List DB)×Unit):=
 let a:=x.1
 a
def sP7 (y:Tm)(x:NH):(Int×Int×Int×(List C5)×(List DB)×Unit):=
 let a:=x.2.1
 a
def rU3:List (Nat×Sh):=[(0,Ae),(1,Af)]
def oA:=li [(8,Bd),(9,vI)] [(0,Ae),(1,Af),(10,vI)] rE5 uZ4 tI8 (λy x=>[ex 2 none rU3 ((qQ2 y x),(sP7 y x),())]) [rU3]
def mK9 :Prop×A7:=
 let d:=PC Wu
 let b:=(d,len d,())
 let e:=(((0:Int),(0:Int),(0:Int),([]:List C5),([]:List DB),()),((1000:Int),(800:Int),(1200:Int),([]:List C5),([]:List DB),()),(0:Int),())
 let a:=sP7 b (A3 (rE5 b) (uZ4 b) e)
 let c:=(a.1,a.2.1,a.2.2.1,a.2.2.2.1,([((65:Int),(86:Int),(-100:Int),()),((76:Int),(84:Int),(-100:Int),()),((84:Int),(97:Int),(-100:Int),()),((86:Int),(65:Int),(-100:Int),())]:List DB),())
 (Xr Wu/\Am.Ends (rE5 b) (uZ4 b) (tI8 b) e,c)
def sH :Prop:=(mK9).1
def Iu :A7:=(mK9).2
instance:Decidable sH:=by unfold sH mK9;dsimp only;infer_instance
def oN3:Am.Spec:=fnSpec [] Bm [] (λx=>sH ) (λx=>Iu ) (λ_=>())
theorem mL:SK 166 (fnSpec [] Bm [] (λx=>sH ) (λx=>Iu ) (λ_=>())):=fb Tryz.func166 60 [kb mK2,kb mK4,kb mK8] [(3,oA),(7,pZ9)] [(21,[(4,0,43,400400)]),(25,[(4,0,50,400100)]),(29,[(4,0,57,400101)]),(31,[(4,0,400100,400000),(4,0,400101,400001)])]
abbrev PE:Type:=((List (List A0))×C4×(List (List A0))×Int×Unit)
def Xv (y:PE)(x:vC):Prop×Bool×vC×Bool×Bool:=
 let d:=y.2.2.1
 let g:=x.1
 let a:=x.2.1
 let b:=decide (a<y.2.2.2.1)
 let e:=len (nth d a ([]:List A0))
 let f:=g+e
 let c:=decide (f>4096)
 (b=true->A6 a (len d)/\A5 (g+e)/\((!c)=true->A5 (a+1)),b&&(!c),(f,a+1,()),b&&c,!b)
def tI9 y x:=(Xv y x).1
def Iv y x:=(Xv y x).2.1
def wH y x:=(Xv y x).2.2.1
def NI y x:=(Xv y x).2.2.2.1
def sH0 y x:=(Xv y x).2.2.2.2
def uZ5 (y:PE)(x:vC):(List (List A0)):=
 ([]:List (List A0))
def sP8 (y:PE)(x:vC):Int:=
 (3:Int)
def rU4:List (Nat×Sh):=[(4,At),(5,vI)]
def rU5:List (Nat×Sh):=[(0,Aj),(3,Bp)]
def oA0:=li [(0,Aj),(3,Bp),(21,Aj),(22,vI)] [(7,vI),(23,vI)] Iv wH tI9 (λy x=>[ex 1 (some (NI y x)) rU4 ((uZ5 y x),(sP8 y x),()),ex 2 (some (sH0 y x)) rU5 (y.1,y.2.1,())]) [rU4,rU5]
abbrev Tn:Type:=(C4×Int×(List (List A0))×Int×Int×(List A0)×Int×Unit)
abbrev NJ:Type:=(((List (List A0))×Nat)×Int×Unit)
def Xw (y:Tn)(x:NJ):Prop×Bool×NJ×Bool×Bool:=
 let l:=y.1
 let g:=y.2.1
 let j:=(Q1 y).1
 let a:=x.1
 let b:=x.2.1
 let d:=decide (b<(Q3 y).1)
 let e:=nth j b A1
 let f:=f199 e
 let h:=DO l e
 let i:=f199 h
 let k:=List.getD a.1 a.2 []
 let c:=(!f)&&(!i)
 (d=true->A6 b (len j)/\SU e/\((!f)=true->n5 l e/\SU h/\((!i)=true->A6 g (len a.1)/\(toNat g=a.2/\g<len a.1)/\A6 b (len k)/\b<len k))/\(c=true->A5 (b+1)),d&&c,((set a.1 a.2 (set (List.getD a.1 a.2 []) (toNat b) h),a.2),b+1,()),d&&(f||((!f)&&i)),!d)
def PF y x:=(Xw y x).1
def DZ y x:=(Xw y x).2.1
def wE y x:=(Xw y x).2.2.1
def Xx y x:=(Xw y x).2.2.2.1
def Lc y x:=(Xw y x).2.2.2.2
def uN6 (y:Tn)(x:NJ):(List (List A0)):=
 ([]:List (List A0))
def tW4 (y:Tn)(x:NJ):Int:=
 (cond (f199 (nth (Q1 y).1 x.2.1 A1)) (2:Int) (2:Int))
def rE6:List (Nat×Sh):=[(4,At),(5,vI)]
def tW5 (y:Tn)(x:NJ):((List (List A0))×Nat):=
 let a:=x.1
 (a.1,a.2)
def rE7:List (Nat×Sh):=[(3,Bp),(10,(.ownh AN 1010 48 true)),(37,Aj),(38,vI),(39,vI)]
def pC3:=li [(3,Bp),(11,vI),(37,Aj),(38,vI),(39,vI),(50,Bc),(51,vI)] [(10,(.ownh AN 1010 48 true)),(52,vI)] DZ wE PF (λy x=>[ex 1 (some (Xx y x)) rE6 ((uN6 y x),(tW4 y x),()),ex 6 (some (Lc y x)) rE7 (y.1,(tW5 y x),y.2.2.1,y.2.2.2.1,y.2.2.2.2.1,())]) [rE6,rE7]
abbrev NK:Type:=(C4×(List (List A0))×Int×Unit)
def Xy (y:NK)(x:CH):Prop×Bool×CH×Bool×Bool:=
 let g:=y.2.1
 let j:=y.2.2.1
 let f:=x.1
 let a:=x.2.1
 let e:=decide (a<j)
 let i:=nth g a ([]:List A0)
 let d:=len i
 let b:=(y.1,a,g,j,a,i,len i,())
 let k:=((set f (toNat a) (replicate (toNat d) A1),toNat a),(0:Int),())
 let h:=A3 (DZ b) (wE b) k
 let c:=Lc b h
 (e=true->A6 a (len g)/\(0<=d/\d<=d/\d<=4294967296)/\A6 a (len f)/\a<len f/\Am.Ends (DZ b) (wE b) (PF b) k/\(c=true->A5 (a+1)),e&&c,((tW5 b h).1,a+1,()),e&&Xx b h,!e)
def PG y x:=(Xy y x).1
def Gl y x:=(Xy y x).2.1
def FT y x:=(Xy y x).2.2.1
def Ld y x:=(Xy y x).2.2.2.1
def pC4 y x:=(Xy y x).2.2.2.2
def Xz (y:NK)(x:CH):(List (List A0)):=
 let d:=y.2.1
 let a:=x.2.1
 let b:=nth d a ([]:List A0)
 let c:=(y.1,a,d,y.2.2.1,a,b,len b,())
 (uN6 c (A3 (DZ c) (wE c) ((set x.1 (toNat a) (replicate (toNat (len b)) A1),toNat a),(0:Int),())))
def vQ6 (y:NK)(x:CH):Int:=
 let d:=y.2.1
 let a:=x.2.1
 let b:=nth d a ([]:List A0)
 let c:=(y.1,a,d,y.2.2.1,a,b,len b,())
 (tW4 c (A3 (DZ c) (wE c) ((set x.1 (toNat a) (replicate (toNat (len b)) A1),toNat a),(0:Int),())))
def rE8:List (Nat×Sh):=[(4,At),(5,vI)]
def tW6 (y:NK)(x:CH):(List (List A0)):=
 x.1
def rE9:List (Nat×Sh):=[(10,(.own Ad 1010 true))]
def pC5:=li [(3,Bp),(37,Aj),(38,vI)] [(10,(.own Ad 1010 true)),(39,vI)] Gl FT PG (λy x=>[ex 1 (some (Ld y x)) rE8 ((Xz y x),(vQ6 y x),()),ex 4 (some (pC4 y x)) rE9 ((tW6 y x),())]) [rE8,rE9]
def mL0 (l:(List (List A0)))(m:C4):Prop×((List (List A0))×Int×Unit):=
 let h:=EM m
 let g:=h !=0
 let e:=(l,m,l,len l,())
 let k:=((0:Int),(0:Int),())
 let j:=A3 (Iv e) (wH e) k
 let f:=NI e j
 let c:=len l
 let a:=(m,l,len l,())
 let i:=(replicate (toNat c) ([]:List A0),(0:Int),())
 let d:=A3 (Gl a) (FT a) i
 let b:=Ld a d
 (Nx m/\((!g)=true->Am.Ends (Iv e) (wH e) (tI9 e) k/\(sH0 e j=true->(0<=c/\c<=c/\c<=4294967296)/\Am.Ends (Gl a) (FT a) (PG a) i)),(cond g [] (cond f (uZ5 e j) (cond b (Xz a d) (tW6 a d))),cond g h (cond f (sP8 e j) (cond b (vQ6 a d) (0:Int))),()))
def qE3 a b:=(mL0 a b).1
def F7 a b:=(mL0 a b).2
def oN4:=BG Aj Ay (.tup (.cons Aj (.cons vI .nl))) qE3 F7
theorem mL1:SK 167 (BG Aj Ay (.tup (.cons Aj (.cons vI .nl))) qE3 F7):=fb Tryz.func167 74 [kb jZ,kb oM1,kb qZ3] [(6,oA0),(14,pC5),(18,pC3)] [(25,[(4,0,36,1010)]),(54,[(1,10,0,0)]),(57,[(1,4,0,0),(4,0,1010,0)])] false [] [36,48]
def nM7 (g:AK):Prop×Int:=
 let a:=DE Iu (Qj g).1 (Ql g).1 (Qm g).1
 let c:=a.2.1 !=0
 let b:=F7 a.1 (Q2 g).1
 let d:=b.2.1 !=0
 let e:=DR b.1 (0:Int)
 let f:=e !=0
 (sH/\PB Iu (Qj g).1 (Ql g).1 (Qm g).1/\((!c)=true->qE3 a.1 (Q2 g).1/\((!d)=true->P1 b.1 (0:Int)/\((!f)=true->sG (Q9 g).1))),cond c a.2.1 (cond d b.2.1 (cond f e (He (Q9 g).1))))
def qE4 a:=(nM7 a).1
def LU a:=(nM7 a).2
def oN5:=AP Bb vI qE4 LU
def nM8:=Cy [(121,oL9),(164,oM3),(165,oN1),(166,oN3),(167,oN4)] [] [(3,[(4,0,14,1003)])] 38
theorem mL2:SK 124 oN5:=fq (c:=nM8) Tryz.func124 ⟨qZ,pA1,mJ9,mL,mL1,trivial⟩
def To (j k:Int):Prop×Bool:=
 let i:=j==2
 let e:=j==3
 let f:=j==4
 let a:=cond f f (j==11)
 let g:=j==5
 let b:=cond g g (j==9)
 let h:=j==6
 let c:=cond h h (j==7)
 let d:=cond e (cond (cond (decide (k≥4)) (decide (k<=16)) false) (Int.tmod k (2:Int)==0) false) (cond a (k==2) (cond b (k==3) (cond c (k==1) (k==9))))
 (True,cond (cond i true (cond e true (cond a true (cond b true (cond c true (j==8)))))) (cond i (k==5) d) (k==0))
def pC6 a b:=(To a b).1
def Gm a b:=(To a b).2
theorem mL3:SK 168 (BG vI vI vB pC6 Gm):=fb Tryz.func168 44
def mL4 (k l:Int):Prop×(Int×Int×Unit):=
 let b:=cond (k==2) (l==2) false
 let i:=k==4
 let j:=cond (k==5) (decide (l>0)) false
 let a:=cond i i (cond j j (cond (k==11) (l==1) false))
 let c:=k==5
 let d:=k==7
 let e:=k==8
 let f:=cond b true (cond a true (cond c true (cond d true (cond e true (k==11)))))
 let g:=cond f (cond b (1:Int) (cond a (-65535:Int) (cond c (-32768:Int) (cond d (2:Int) (cond e (-262140:Int) (-128:Int)))))) (0:Int)
 let h:=cond f (cond b (256:Int) (cond a (65535:Int) (cond c (32768:Int) (cond d (256:Int) (cond e (262140:Int) (128:Int)))))) (65535:Int)
 (True,(g,h,()))
def pC7 a b:=(mL4 a b).1
def LV a b:=(mL4 a b).2
theorem mL5:SK 210 (BG vI vI (.tup (.cons vI (.cons vI .nl))) pC7 LV):=fb Tryz.func210 40
abbrev vX9:Type:=(Int×(List Int)×(List AW)×(List Int)×Int×Unit)
def PH (y:vX9)(x:AA):Prop×Bool×AA×Bool×Bool:=
 let g:=y.1
 let d:=y.2.2.2.1
 let a:=x.1
 let b:=decide (a<y.2.2.2.2.1)
 let e:=nth d a (0:Int)
 let f:=LV g a
 let c:=cond (decide (e<f.1)) true (decide (e>f.2.1))
 (b=true->A6 a (len d)/\pC7 g a/\((!c)=true->A5 (a+1)),b&&(!c),(a+1,()),b&&c,!b)
def rU6 y x:=(PH y x).1
def LW y x:=(PH y x).2.1
def NL y x:=(PH y x).2.2.1
def vU y x:=(PH y x).2.2.2.1
def tJ y x:=(PH y x).2.2.2.2
def sP9 (y:vX9)(x:AA):Bool:=
 false
def rU7:List (Nat×Sh):=[(0,vI),(1,Ak),(2,An)]
def oA2:=li [(0,vI),(1,Ak),(2,An),(13,Ak),(14,vI)] [(15,vI)] LW NL rU6 (λy x=>[ex 1 (some (vU y x)) [(6,vB)] ((sP9 y x),()),ex 2 (some (tJ y x)) rU7 (y.1,y.2.1,y.2.2.1,())]) [[(6,vB)],rU7]
abbrev vH9:Type:=((List AW)×Int×Unit)
def vY (y:vH9)(x:AA):Prop×Bool×AA×Bool×Bool:=
 let e:=y.1
 let a:=x.1
 let b:=decide (a<y.2.1)
 let c:=nth e a CO
 let f:=cond (decide (c.1<0)) true (decide (c.1>65535))
 let d:=cond f true (!(N1 c.2.1))
 (b=true->A6 a (len e)/\((!f)=true->N0 c.2.1)/\((!d)=true->A5 (a+1)),b&&(!d),(a+1,()),b&&d,!b)
def uN8 y x:=(vY y x).1
def LX y x:=(vY y x).2.1
def wN y x:=(vY y x).2.2.1
def Tp y x:=(vY y x).2.2.2.1
def pC8 y x:=(vY y x).2.2.2.2
def tW7 (y:vH9)(x:AA):Bool:=
 false
def pC9:=li [(55,An),(56,vI)] [(57,vI)] LX wN uN8 (λy x=>[ex 1 (some (Tp y x)) [(6,vB)] ((tW7 y x),()),ex 4 (some (pC8 y x)) [] ()]) [[(6,vB)],[]]
def lH0 (k:Int)(l:List Int)(m:List AW):Prop×Bool:=
 let b:=(k,l,m,l,len l,())
 let j:=((0:Int),())
 let i:=A3 (LW b) (NL b) j
 let d:=k==9
 let e:=cond d (nth l (0:Int) (0:Int)==0) false
 let f:=cond e (nth l (1:Int) (0:Int)==0) false
 let g:=cond f (nth l (2:Int) (0:Int)==0) false
 let a:=(m,len m,())
 let h:=((0:Int),())
 let c:=A3 (LX a) (wN a) h
 (Am.Ends (LW b) (NL b) (rU6 b) j/\(tJ b i=true->(d=true->A6 (0:Int) (len l))/\(e=true->A6 (1:Int) (len l))/\(f=true->A6 (2:Int) (len l))/\((!g)=true->Am.Ends (LX a) (wN a) (uN8 a) h)),cond (vU b i) (sP9 b i) (cond g false (cond (Tp a c) (tW7 a c) true)))
def pD a b c:=(lH0 a b c).1
def Ka a b c:=(lH0 a b c).2
theorem mL6:SK 169 (DN vI Ak An vB pD Ka):=fb Tryz.func169 76 [kb j8,kb mL5] [(2,oA2),(11,pC9)]
abbrev vY0:Type:=((List Int)×(List AW)×Unit)
def PI (y:vY0)(x:AA):Prop×Bool×AA×Bool×Bool:=
 let d:=y.1
 let b:=x.1
 let a:=decide (b<len d)
 let e:=b-2
 let c:=decide (nth d b (0:Int)<=nth d e (0:Int))
 (a=true->A6 b (len d)/\A5 (b-2)/\A6 e (len d)/\((!c)=true->A5 (b+2)),a&&(!c),(b+2,()),a&&c,!a)
def sH1 y x:=(PI y x).1
def NM y x:=(PI y x).2.1
def PJ y x:=(PI y x).2.2.1
def Tq y x:=(PI y x).2.2.2.1
def rU8 y x:=(PI y x).2.2.2.2
def sQ (y:vY0)(x:AA):Bool:=
 false
def oA3:=li [(1,Ak),(2,An)] [(7,vI)] NM PJ sH1 (λy x=>[ex 1 (some (Tq y x)) [(6,vB)] ((sQ y x),()),ex 2 (some (rU8 y x)) [(2,An)] (y.2.1,())]) [[(6,vB)],[(2,An)]]
abbrev vI1:Type:=((List AW)×Unit)
def X0 (y:vI1)(x:AA):Prop×Bool×AA×Bool×Bool:=
 let d:=y.1
 let b:=x.1
 let a:=decide (b<len d)
 let e:=b-1
 let c:=decide ((nth d b CO).1<=(nth d e CO).1)
 (a=true->A6 b (len d)/\A5 (b-1)/\A6 e (len d)/\((!c)=true->A5 (b+1)),a&&(!c),(b+1,()),a&&c,!a)
def tQ y x:=(X0 y x).1
def NN y x:=(X0 y x).2.1
def NO y x:=(X0 y x).2.2.1
def Tt y x:=(X0 y x).2.2.2.1
def pD0 y x:=(X0 y x).2.2.2.2
def tW8 (y:vI1)(x:AA):Bool:=
 false
def pD1:=li [(2,An)] [(8,vI)] NN NO tQ (λy x=>[ex 1 (some (Tt y x)) [(6,vB)] ((tW8 y x),()),ex 4 (some (pD0 y x)) [] ()]) [[(6,vB)],[]]
def lH1 (j:Int)(k:List Int)(l:List AW):Prop×Bool:=
 let d:=j==2
 let f:=cond d (decide (nth k (1:Int) (0:Int)<=nth k (0:Int) (0:Int))) false
 let b:=j==3
 let c:=(k,l,())
 let i:=((2:Int),())
 let h:=A3 (NM c) (PJ c) i
 let a:=(cond b l l,())
 let g:=((1:Int),())
 let e:=A3 (NN a) (NO a) g
 ((d=true->A6 (1:Int) (len k))/\(d=true->A6 (0:Int) (len k))/\((!f)=true->(b=true->Am.Ends (NM c) (PJ c) (sH1 c) i)/\((cond b (rU8 c h) true)=true->Am.Ends (NN a) (NO a) (tQ a) g)),cond f false (cond (Tq c h&&b) (sQ c h) (cond (Tt a e) (tW8 a e) true)))
def pD2 a b c:=(lH1 a b c).1
def Kb a b c:=(lH1 a b c).2
theorem mL7:SK 170 (DN vI Ak An vB pD2 Kb):=fb Tryz.func170 56 [] [(5,oA3),(10,pD1)]
def X1 (g:Int)(h:List Int)(i:List AW):Prop×Int:=
 let a:=cond (decide (g<1)) true (decide (g>11))
 let f:=len h
 let b:=cond (!(Gm g f)) true (!(Ty.eqb .bool (decide (len i>0)) (g==10)))
 let c:=decide (len i>16)
 let d:=!(Ka g h i)
 let e:=cond (cond a true (cond b true (cond c true (cond d true (!(Kb g h i)))))) (cond a (8:Int) (cond b (1:Int) (cond c (3:Int) (cond d (2:Int) (24:Int))))) (0:Int)
 (a=false->pC6 g f/\(b=false->c=false->pD g h i/\(d=false->pD2 g h i)),e)
def pD3 a b c:=(X1 a b c).1
def Hh a b c:=(X1 a b c).2
theorem mL8:SK 125 (DN vI Ak An vI pD3 Hh):=fb Tryz.func125 44 [kb mL3,kb mL6,kb mL7]
def lH2 (j:Int):Prop×(List A0):=
 let h:=j==1
 let i:=j==7
 let a:=cond h h (cond i i (j==8))
 let d:=j==2
 let e:=j==4
 let f:=j==3
 let g:=j==9
 let b:=cond f ([((0:Int),(16:Int),()),((0:Int),(262140:Int),())]:List A0) (cond g ([((-16:Int),(16:Int),()),((-16:Int),(16:Int),())]:List A0) ([((1:Int),(16:Int),())]:List A0))
 let c:=cond (cond a true (cond d true (cond e true (cond f true (cond g true (j==10)))))) (cond a ([((0:Int),(16:Int),())]:List A0) (cond d ([((0:Int),(7:Int),())]:List A0) (cond e ([((0:Int),(4:Int),())]:List A0) b))) []
 (True,c)
def pD4 a:=(lH2 a).1
def CX a:=(lH2 a).2
theorem mL9:SK 171 (AP vI Bx pD4 CX):=fb Tryz.func171 32 [] [] [(11,[(4,0,9,0)]),(15,[(4,0,13,0)]),(19,[(4,0,17,0)]),(23,[(4,0,22,0)]),(27,[(4,0,27,0)]),(31,[(4,0,31,0)])]
abbrev vY1:Type:=((List A0)×(List Int)×Int×Unit)
def X2 (y:vY1)(x:AA):Prop×Bool×AA×Bool×Bool:=
 let g:=y.1
 let d:=y.2.1
 let a:=x.1
 let b:=decide (a<y.2.2.1)
 let e:=nth d a (0:Int)
 let f:=decide (e<(nth g a A1).1)
 let c:=cond f true (decide (e>(nth g a A1).2.1))
 (b=true->A6 a (len d)/\A6 a (len g)/\((!f)=true->A6 a (len g))/\((!c)=true->A5 (a+1)),b&&(!c),(a+1,()),b&&c,!b)
def rU9 y x:=(X2 y x).1
def Iw y x:=(X2 y x).2.1
def Ix y x:=(X2 y x).2.2.1
def Kc y x:=(X2 y x).2.2.2.1
def oA4 y x:=(X2 y x).2.2.2.2
def sQ0 (y:vY1)(x:AA):Int:=
 (2:Int)
def oA5:=li [(5,Bq),(21,Ak),(22,vI)] [(23,vI)] Iw Ix rU9 (λy x=>[ex 1 (some (Kc y x)) [(4,vI)] ((sQ0 y x),()),ex 2 (some (oA4 y x)) [] ()]) [[(4,vI)],[]]
def mM (g:Int)(h:List Int):Prop×Int:=
 let b:=cond (decide (g<1)) true (decide (g>10))
 let c:=CX g
 let d:=len h !=len c
 let a:=(c,h,len h,())
 let f:=((0:Int),())
 let e:=A3 (Iw a) (Ix a) f
 ((!b)=true->pD4 g/\((!d)=true->Am.Ends (Iw a) (Ix a) (rU9 a) f),cond b (8:Int) (cond d (1:Int) (cond (Kc a e) (sQ0 a e) (0:Int))))
def pD5 a b:=(mM a b).1
def EC a b:=(mM a b).2
theorem mM0:SK 126 (BG vI Ak vI pD5 EC):=fb Tryz.func126 45 [kb mL9] [(7,oA5)] [(7,[(4,0,15,1005)])]
def tX (y:CW)(x:AA):Prop×Bool×AA×Bool×Bool:=
 let e:=y.1
 let a:=x.1
 let b:=decide (a<y.2.1)
 let c:=nth e a A1
 let d:=cond (cond (cond (decide (c.1<(-1048576))) true (decide (c.1>1048576))) true (decide (c.2.1<(-1048576)))) true (decide (c.2.1>1048576))
 (b=true->A6 a (len e)/\((!d)=true->A5 (a+1)),b&&(!d),(a+1,()),b&&d,!b)
def sH2 y x:=(tX y x).1
def tX0 y x:=(tX y x).2.1
def uF y x:=(tX y x).2.2.1
def rV y x:=(tX y x).2.2.2.1
def oA6 y x:=(tX y x).2.2.2.2
def sQ1 (y:CW)(x:AA):Int:=
 (2:Int)
def oA7:=li [(43,Bc),(44,vI)] [(45,vI)] tX0 uF sH2 (λy x=>[ex 1 (some (rV y x)) [(2,vI)] ((sQ1 y x),()),ex 2 (some (oA6 y x)) [] ()]) [[(2,vI)],[]]
def lH3 (g:Jd):Prop×Int:=
 let b:=cond (cond (cond (decide (g.1<2)) true (decide (g.1>8))) true (decide (g.2.1<2))) true (decide (g.2.1>8))
 let c:=cond (decide (g.2.2.1<1)) true (decide (g.2.2.1>256))
 let d:=cond c true (len g.2.2.2.1!=(g.1*g.2.1))
 let a:=(g.2.2.2.1,len g.2.2.2.1,())
 let f:=((0:Int),())
 let e:=A3 (tX0 a) (uF a) f
 ((!b)=true->((!c)=true->A5 (g.1*g.2.1))/\((!d)=true->Am.Ends (tX0 a) (uF a) (sH2 a) f),cond b (15:Int) (cond d (15:Int) (cond (rV a e) (sQ1 a e) (0:Int))))
def qE5 a:=(lH3 a).1
def LY a:=(lH3 a).2
theorem mM1:SK 127 (AP Da vI qE5 LY):=fb Tryz.func127 68 [] [(6,oA7)]
def PK (o:AK):Prop×Int:=
 let m:=o.2.1==2
 let a:=o.2.1==3
 let b:=o.2.1==4
 let c:=o.2.1==5
 let d:=o.2.1==6
 let e:=o.2.1==7
 let f:=o.2.1==8
 let k:=o.2.1==9
 let g:=cond k k (o.2.1==10)
 let l:=o.2.1==11
 let n:=cond f true (cond g (cond (decide ((Qh o).1<1)) true (decide ((Qh o).1>1073741824))) l)
 let h:=cond e (Hh (Qc o).1 (Qa o).1 (Qd o).1) (cond f (EC (Qc o).1 (Qa o).1) (cond g (2:Int) (LY (Qk o).1)))
 let i:=cond b (LH (Qc o).1 (Qa o).1 (Qe o).1 (Qd o).1) (cond c (JY o) (cond d (LU o) h))
 let j:=cond (cond m true (cond a true (cond b true (cond c true (cond d true (cond e true n)))))) (cond m (KW (Q6 o).1) (cond a (He (Q9 o).1) i)) (0:Int)
 ((m=true->Pr (Q6 o).1)/\(m=false->(a=true->sG (Q9 o).1)/\(a=false->(b=true->qZ2 (Qc o).1 (Qa o).1 (Qe o).1 (Qd o).1)/\(b=false->(c=true->pB2 o)/\(c=false->(d=true->qE4 o)/\(d=false->(e=true->pD3 (Qc o).1 (Qa o).1 (Qd o).1)/\(e=false->(f=true->pD5 (Qc o).1 (Qa o).1)/\(f=false->g=false->l=true->qE5 (Qk o).1))))))),j)
def oN7 a:=(PK a).1
def Tu a:=(PK a).2
theorem lH4:SK 86 (AP Bb vI oN7 Tu):=fb Tryz.func86 66 [kb nX9,kb qZ,kb mF8,kb mJ0,kb mL2,kb mL8,kb mM0,kb mM1]
def PL (h:AK):Prop×Bool:=
 let c:=cond (cond (!(Ty.eqb H9 (Q2 h).1 ((0:Int),(0:Int),(0:Int),(0:Int),(0:Int),(0:Int),()))) true ((Q7 h).1 !=0)) true (!(Ty.eqb Gf (Q9 h).1 ((0:Int),(0:Int),(0:Int),(0:Int),())))
 let d:=cond (cond (cond ((Qc h).1 !=0) true (len (Qa h).1!=0)) true ((Qe h).1 !=0)) true (len (Qd h).1!=0)
 let e:=cond (cond (cond (len (Q8 h).1!=0) true ((Qi h).1 !=0)) true ((Qb h).1 !=0)) true ((Qf h).1 !=0)
 let f:=cond (cond (!((Qj h).1==([]:List UInt8))) true ((Ql h).1 !=0)) true ((Qm h).1 !=0)
 let b:=cond (cond ((Qk h).1.1==0) ((Qk h).1.2.1==0) false) ((Qk h).1.2.2.1==0) false
 let g:=cond (cond f true ((Qh h).1 !=0)) false (cond b (len (Qk h).1.2.2.2.1==0) false)
 let a:=cond (cond (cond ((Q6 h).1.1 !=0) true ((Q6 h).1.2.1 !=0)) true (len (Q6 h).1.2.2.1!=0)) false (cond d false (cond (cond e true ((Qg h).1 !=0)) false g))
 (True,cond c false a)
def oN8 a:=(PL a).1
def X3 a:=(PL a).2
theorem lH5:SK 87 (AP Bb vB oN8 X3):=fb Tryz.func87 120
def X4 (p:AK):Prop×AK:=
 let l:=(Va p ((0:Int),(0:Int),(0:Int),(0:Int),(0:Int),(0:Int),()) (Q7 p))
 let b:=cond (Nu p.2.1) l p
 let m:=(Vb b (0:Int) (Q6 b))
 let a:=cond (Ny b.2.1) m b
 let n:=(Vc a ((0:Int),(0:Int),([]:List CE),()) (Q9 a))
 let o:=(Vd a ((0:Int),(0:Int),(0:Int),(0:Int),()) (Qc a))
 let d:=(Ve a (0:Int) (([]:List Int),(0:Int),([]:List AW),(Q8 a)))
 let e:=(Vd a ((0:Int),(0:Int),(0:Int),(0:Int),()) ((Qc a).1,(Qa a).1,(Qe a).1,(Qd a).1,([]:List A8),(0:Int),(0:Int),(0:Int),(0:Int),(Qj a)))
 let f:=(Vd a ((0:Int),(0:Int),(0:Int),(0:Int),()) ((Qc a).1,(Qa a).1,(Qe a).1,(Qd a).1,(Q8 a).1,(Qi a).1,(Qb a).1,(Qf a).1,(Qg a).1,([]:List UInt8),(0:Int),(0:Int),(Qh a)))
 let g:=(Ve a (0:Int) (([]:List Int),(Qe a).1,([]:List AW),(Q8 a)))
 let h:=(Ve a (0:Int) (([]:List Int),(Qe a)))
 let k:=a.2.1==9
 let i:=(Vf a (0:Int) ((Qk a).1,()))
 let j:=(Vg a ((0:Int),(0:Int),(0:Int),([]:List A0),()) ())
 let c:=cond (a.2.1==6) f (cond (a.2.1==7) g (cond (a.2.1==8) h (cond (cond k k (a.2.1==10)) i (cond (a.2.1==11) j a))))
 (jX p.2.1/\j6 b.2.1,cond (a.2.1==2) n (cond (a.2.1==3) o (cond (a.2.1==4) d (cond (a.2.1==5) e c))))
def pM9 a:=(X4 a).1
def Tv a:=(X4 a).2
theorem lH6:SK 88 (AP Bb Bb pM9 Tv):=fb Tryz.func88 62 [kb nX7,kb nX8]
def X5 (n:AK)(o p:Int):Prop×Int:=
 let d:=KV n o p
 let e:=d !=0
 let b:=Nu n.2.1
 let f:=EM (Q2 n).1
 let a:=f !=0
 let g:=SQ (Q2 n).1
 let h:=g.2.1 !=0
 let i:=Ny n.2.1
 let j:=cond i (!(j7 (Q7 n).1)) false
 let k:=Tu n
 let l:=k !=0
 let m:=Tv n
 let c:=cond e d (cond ((a||((!a)&&h))&&b) (cond a f g.2.1) (cond j (8:Int) (cond l k (cond (!(X3 m)) (1:Int) (0:Int)))))
 (oL0 n o p/\((!e)=true->jX n.2.1/\(b=true->Nx (Q2 n).1/\((!a)=true->oL5 (Q2 n).1))/\((cond b ((!a)&&(!h)) true)=true->j6 n.2.1/\(i=true->oL6 (Q7 n).1)/\((!j)=true->oN7 n/\((!l)=true->pM9 n/\oN8 m)))),c)
def pN a b c:=(X5 a b c).1
def GK a b c:=(X5 a b c).2
theorem lH7:SK 48 (DN Bb vI vI vI pN GK):=fb Tryz.func48 55 [kb lF,kb nX7,kb jZ,kb lF3,kb nX8,kb lF4,kb lH4,kb lH5,kb lH6]
abbrev wY6:Type:=((List (Int×Int×Unit))×Int×AS×Unit)
def Tw (y:wY6)(x:AA):Prop×Bool×AA×Bool×Bool:=
 let f:=y.2.1
 let d:=y.2.2.1
 let e:=x.1
 let a:=e !=0
 let b:=e==(nth d.2.2.2.1 f A9).2.2.1
 let c:=getD (E0 Aa Aa e y.1) (0:Int)
 (a=true->A6 f (len d.2.2.2.1)/\((!b)=true->A6 c (len d.2.2.2.1)),a&&(!b),((nth d.2.2.2.1 c A9).2.2.1,()),a&&b,!a)
def vN y x:=(Tw y x).1
def Tx y x:=(Tw y x).2.1
def PM y x:=(Tw y x).2.2.1
def uF0 y x:=(Tw y x).2.2.2.1
def qQ3 y x:=(Tw y x).2.2.2.2
def tN (y:wY6)(x:AA):Bool:=
 true
def sQ2:List (Nat×Sh):=[(1,By),(6,vB)]
def sQ3:List (Nat×Sh):=[(1,By)]
def qQ4:=li [(1,By),(2,vI),(3,Ag)] [(7,vI)] Tx PM vN (λy x=>[ex 1 (some (uF0 y x)) sQ2 (y.1,(tN y x),()),ex 2 (some (qQ3 y x)) sQ3 (y.1,())]) [sQ2,sQ3]
def rF (f:AS)(g:(List (Int×Int×Unit)))(h:Int):Prop×Bool×((List (Int×Int×Unit))×Unit):=
 let c:=h-1
 let b:=(g,h,f,())
 let e:=((nth f.2.2.2.1 c A9).1,())
 let d:=A3 (Tx b) (PM b) e
 let a:=uF0 b d
 (A5 (h-1)/\A6 c (len f.2.2.2.1)/\Am.Ends (Tx b) (PM b) (vN b) e,cond a (tN b d) false,(cond a g g,()))
def X6 a b c:=(rF a b c).1
def LZ a b c:=(rF a b c).2.1
def Tz a b c:=(rF a b c).2.2
theorem oN9:SK 49 (fnSpec [(0,Ao),(1,By),(2,vI)] vB [(1,By)] (λx=>X6 x.1 x.2.1 x.2.2.1) (λx=>LZ x.1 x.2.1 x.2.2.1) (λx=>Tz x.1 x.2.1 x.2.2.1)):=fx (λc=>{ c with maps:=maps }) Tryz.func49 33 [] [(2,qQ4)] [] false [1]
abbrev uO:Type:=(AS×(List AK)×Int×Unit)
abbrev X7:Type:=((List (Int×Int×Unit))×(List Int)×Int×Unit)
def TA (y:uO)(x:X7):Prop×Bool×X7×Bool×Bool:=
 let g:=y.1
 let q:=y.2.1
 let d:=x.1
 let v:=x.2.1
 let a:=x.2.2.1
 let h:=decide (a<y.2.2.1)
 let c:=nth q a A9
 let i:=GK c g.1 g.2.1!=0
 let j:=cond (decide (c.1<1)) true (decide (c.1≥g.2.2.2.2.1))
 let k:=isSome (E0 Aa Aa c.1 d)
 let b:=set v (toNat a) (1:Int)
 let e:=c.2.2.1 !=0
 let f:=getD (E0 Aa Aa c.2.2.1 d) (0:Int)
 let r:=!(isSome (E0 Aa Aa c.2.2.1 d))
 let l:=cond r true ((nth g.2.2.2.1 f A9).2.1 !=1)
 let o:=!(LZ g d a)
 let s:=nth b f (0:Int)
 let n:=cond e ((!l)&&(!o)) true
 let u:=cond e (set b (toNat a) (s+1)) b
 let t:=decide (nth u a (0:Int)>8)
 let m:=(!i)&&((!j)&&((!k)&&(n&&(!t))))
 (h=true->A6 a (len q)/\pN c g.1 g.2.1/\((!i)=true->(!j)=true->(!k)=true->A6 a (len v)/\a<len v/\(e=true->((!r)=true->A6 f (len g.2.2.2.1))/\((!l)=true->X6 g d a/\0<length d/\length d=length d/\length d=length d/\length d=length d/\length d=length d/\((!o)=true->A6 f (len b)/\f<len b/\A5 (s+1)/\A6 a (len b)/\a<len b)))/\(n=true->A6 a (len u)/\a<len u))/\(m=true->A5 (a+1)),h&&m,(H0 Aa Aa c.1 a (cond e (Tz g d a).1 d),u,a+1,()),h&&(i||((!i)&&(j||((!j)&&(k||((!k)&&(((l||((!l)&&o))&&e)||(n&&t)))))))),!h)
def TB y x:=(TA y x).1
def GL y x:=(TA y x).2.1
def ED y x:=(TA y x).2.2.1
def uK y x:=(TA y x).2.2.2.1
def oO y x:=(TA y x).2.2.2.2
def TC (y:uO)(x:X7):Int:=
 let c:=y.1
 let g:=x.1
 let d:=x.2.2.1
 let a:=nth y.2.1 d A9
 let f:=GK a c.1 c.2.1
 let b:=cond (!(isSome (E0 Aa Aa a.2.2.1 g))) true ((nth c.2.2.2.1 (getD (E0 Aa Aa a.2.2.1 g) (0:Int)) A9).2.1 !=1)
 let e:=cond (isSome (E0 Aa Aa a.1 g)) (10:Int) (cond ((b||((!b)&&(!(LZ c g d))))&&(a.2.2.1 !=0)) (cond b (9:Int) (24:Int)) (12:Int))
 (cond (f !=0) f (cond (cond (decide (a.1<1)) true (decide (a.1≥c.2.2.2.2.1))) (2:Int) e))
def oO0:=li [(1,Ag),(18,Au),(19,vI)] [(3,(.own (GR Aa Aa) 1003 true)),(4,(.own Aa 1004 true)),(20,vI)] GL ED TB (λy x=>[ex 1 (some (uK y x)) [(2,vI)] ((TC y x),()),ex 2 (some (oO y x)) [] ()]) [[(2,vI)],[]]
def PN (e:AS):Prop×Int:=
 let a:=len e.2.2.2.1
 let b:=(e,e.2.2.2.1,len e.2.2.2.1,())
 let d:=(([]:List (Int×Int×Unit)),replicate (toNat a) (0:Int),(0:Int),())
 let c:=A3 (GL b) (ED b) d
 ((0<=a/\a<=a/\a<=4294967296)/\Am.Ends (GL b) (ED b) (TB b) d,cond (uK b c) (TC b c) (0:Int))
def X8 a:=(PN a).1
def TD a:=(PN a).2
theorem lH8:SK 24 (AP Ao vI X8 TD):=fx (λc=>{ c with wants:=[(49,[1])],maps:=maps }) Tryz.func24 99 [kb lH7,kb oN9] [(4,oO0)] [(3,[(4,0,12,1003)]),(5,[(4,0,16,1004)])] false [] [16]
abbrev tJ1:Type:=(AS×AK×(List AK)×Int×Int×Unit)
def X9 (y:tJ1)(x:AA):Prop×Bool×AA:=
 let e:=y.1
 let a:=x.1
 let b:=decide (a≥0)
 let c:=(nth e.2.2.2.1 a A9).2.2.1 !=y.2.1.2.2.1
 let d:=cond b (cond c true (Q3 (nth e.2.2.2.1 a A9)).1) false
 ((b=true->A6 a (len e.2.2.2.1))/\((b&&(!c))=true->A6 a (len e.2.2.2.1))/\(d=true->A5 (a-1)),d,(a-1,()))
def TE y x:=(X9 y x).1
def F9 y x:=(X9 y x).2.1
def FU y x:=(X9 y x).2.2
def tQ0 (y:tJ1)(x:AA):Int:=
 x.1
def qQ6:List (Nat×Sh):=[(1,Ag),(5,vI),(7,Au),(8,vI),(9,vI)]
def oO1:=li [(1,Ag),(4,(.box Fv Bb)),(7,Au),(8,vI),(9,vI)] [(5,vI)] F9 FU TE (λy x=>[ex 4 none qQ6 (y.1,(tQ0 y x),y.2.2.1,y.2.2.2.1,y.2.2.2.2.1,())]) [qQ6]
abbrev vQ7:Type:=(AS×(List AK)×Int×Int×Unit)
def tA (y:HK)(x:vQ7):Prop×Bool×vQ7×Bool×Bool:=
 let g:=x.1
 let h:=x.2.1
 let m:=x.2.2.1
 let e:=x.2.2.2.1
 let c:=decide (e<m)
 let j:=nth h e A9
 let b:=!(Q3 j).1
 let f:=(g,j,h,m,e,())
 let o:=(e-1,())
 let a:=tQ0 f (A3 (F9 f) (FU f) o)
 let d:=decide (a<0)
 let k:=nth g.2.2.2.1 a A9
 let l:=Jf k
 let i:=b||((!b)&&((!d)&&(!l)))
 let n:=cond b e e
 (c=true->A6 e (len h)/\((!b)=true->A5 (e-1)/\Am.Ends (F9 f) (FU f) (TE f) o/\((!d)=true->A6 a (len g.2.2.2.1)/\Ph k))/\(i=true->A5 (n+1)),c&&i,(cond b g g,cond b h h,cond b m m,n+1,()),c&&((!b)&&(d||((!d)&&l))),!c)
def PO y x:=(tA y x).1
def Kd y x:=(tA y x).2.1
def Jk y x:=(tA y x).2.2.1
def XA y x:=(tA y x).2.2.2.1
def oO2 y x:=(tA y x).2.2.2.2
def XB (y:HK)(x:vQ7):Int:=
 let c:=x.2.1
 let a:=x.2.2.2.1
 let b:=(x.1,nth c a A9,c,x.2.2.1,a,())
 (cond (decide (tQ0 b (A3 (F9 b) (FU b) (a-1,()))<0)) (14:Int) (8:Int))
def oO3:=li [] [(1,Ag),(7,Au),(8,vI),(9,vI)] Kd Jk PO (λy x=>[ex 1 (some (XA y x)) [(2,vI)] ((XB y x),()),ex 2 (some (oO2 y x)) [] ()]) [[(2,vI)],[]]
def PQ (c:AS):Prop×Int:=
 let b:=(c,c.2.2.2.1,len c.2.2.2.1,(0:Int),())
 let a:=A3 (Kd ()) (Jk ()) b
 (Am.Ends (Kd ()) (Jk ()) (PO ()) b,cond (XA () a) (XB () a) (0:Int))
def XC a:=(PQ a).1
def XD a:=(PQ a).2
theorem lH9:SK 25 (AP Ao vI XC XD):=fb Tryz.func25 51 [kb oL] [(2,oO3),(6,oO1)]
def TF (y:Nt)(x:AA):Prop×Bool×AA×Bool×Bool:=
 let e:=y.1
 let a:=x.1
 let b:=decide (a<y.2.1)
 let d:=decide (BN e a<33)
 let c:=cond d true (decide (BN e a>126))
 (b=true->A6 a (len e)/\((!d)=true->A6 a (len e))/\((!c)=true->A5 (a+1)),b&&(!c),(a+1,()),b&&c,!b)
def tX2 y x:=(TF y x).1
def qE6 y x:=(TF y x).2.1
def tQ1 y x:=(TF y x).2.2.1
def qQ8 y x:=(TF y x).2.2.2.1
def oO4 y x:=(TF y x).2.2.2.2
def rF1 (y:Nt)(x:AA):Bool:=
 false
def oO5:=li [(0,vS),(13,vI)] [(14,vI)] qE6 tQ1 tX2 (λy x=>[ex 1 (some (qQ8 y x)) [(2,vB)] ((rF1 y x),()),ex 2 (some (oO4 y x)) [] ()]) [[(2,vB)],[]]
def PR (e:List UInt8):Prop×Bool:=
 let b:=cond (decide (len e<1)) true (decide (len e>32))
 let a:=(e,len e,())
 let d:=((0:Int),())
 let c:=A3 (qE6 a) (tQ1 a) d
 ((!b)=true->Am.Ends (qE6 a) (tQ1 a) (tX2 a) d,cond b false (cond (qQ8 a c) (rF1 a c) true))
def XE a:=(PR a).1
def PS a:=(PR a).2
theorem lI:SK 51 (AP vS vB XE PS):=fb Tryz.func51 28 [] [(4,oO5)]
abbrev XF:Type:=(AS×C0×(List C0)×Int×Int×(List C0)×Int×Unit)
def TG (y:XF)(x:AA):Prop×Bool×AA×Bool×Bool:=
 let f:=y.2.1
 let d:=(Q1 y).1
 let a:=x.1
 let b:=decide (a<(Q3 y).1)
 let e:=nth d a Fj
 let c:=cond (e.1==f.1) true (e.2.1==f.2.1)
 (b=true->A6 a (len d)/\((!c)=true->A5 (a+1)),b&&(!c),(a+1,()),b&&c,!b)
def tX3 y x:=(TG y x).1
def XG y x:=(TG y x).2.1
def XH y x:=(TG y x).2.2.1
def XI y x:=(TG y x).2.2.2.1
def tX5 y x:=(TG y x).2.2.2.2
def rF2 (y:XF)(x:AA):Int:=
 (10:Int)
def qR:List (Nat×Sh):=[(1,Ag),(4,Cq),(9,Be),(10,vI),(11,vI)]
def oO6:=li [(1,Ag),(4,Cq),(9,Be),(10,vI),(11,vI),(53,Be),(54,vI)] [(55,vI)] XG XH tX3 (λy x=>[ex 1 (some (XI y x)) [(2,vI)] ((rF2 y x),()),ex 4 (some (tX5 y x)) qR (y.1,y.2.1,y.2.2.1,y.2.2.2.1,y.2.2.2.2.1,())]) [[(2,vI)],qR]
abbrev uO3:Type:=(AS×(List C0)×Int×Unit)
def TH (y:uO3)(x:AA):Prop×Bool×AA×Bool×Bool:=
 let l:=y.1
 let m:=y.2.1
 let h:=y.2.2.1
 let b:=x.1
 let d:=decide (b<h)
 let a:=nth m b Fj
 let e:=!(PS a.2.1)
 let n:=cond (cond (cond (cond (decide (a.1<1)) true (decide (a.1≥l.2.2.2.2.1))) true (decide (a.2.2.1<0))) true (decide (a.2.2.1>2))) true (decide (a.2.2.2.1<1))
 let f:=cond n true (decide (a.2.2.2.1>1073741824))
 let j:=take (toNat b) (Q0 l).1
 let g:=(l,a,m,h,b,j,len j,())
 let q:=((0:Int),())
 let o:=A3 (XG g) (XH g) q
 let c:=tX5 g o
 let k:=KW a.2.2.2.2.1!=0
 let i:=(!e)&&((!f)&&(c&&(!k)))
 (d=true->A6 b (len m)/\XE a.2.1/\((!e)=true->(!f)=true->(0<=b/\b<=len (Q0 l).1)/\Am.Ends (XG g) (XH g) (tX3 g) q/\(c=true->Pr a.2.2.2.2.1))/\(i=true->A5 (b+1)),d&&i,(b+1,()),d&&(e||((!e)&&(f||((!f)&&(XI g o||(c&&k)))))),!d)
def XJ y x:=(TH y x).1
def NP y x:=(TH y x).2.1
def TI y x:=(TH y x).2.2.1
def tX6 y x:=(TH y x).2.2.2.1
def oO7 y x:=(TH y x).2.2.2.2
def uO4 (y:uO3)(x:AA):Int:=
 let f:=y.1
 let h:=y.2.1
 let b:=x.1
 let a:=nth h b Fj
 let g:=cond (cond (cond (cond (decide (a.1<1)) true (decide (a.1≥f.2.2.2.2.1))) true (decide (a.2.2.1<0))) true (decide (a.2.2.1>2))) true (decide (a.2.2.2.1<1))
 let d:=take (toNat b) (Q0 f).1
 let e:=(f,a,h,y.2.2.1,b,d,len d,())
 let i:=A3 (XG e) (XH e) ((0:Int),())
 let c:=cond (!(PS a.2.1)) (13:Int) (cond (cond g true (decide (a.2.2.2.1>1073741824))) (2:Int) (cond (XI e i) (rF2 e i) (KW a.2.2.2.2.1)))
 c
def oO8:=li [(1,Ag),(9,Be),(10,vI)] [(11,vI)] NP TI XJ (λy x=>[ex 1 (some (tX6 y x)) [(2,vI)] ((uO4 y x),()),ex 2 (some (oO7 y x)) [] ()]) [[(2,vI)],[]]
def PT (d:AS):Prop×Int:=
 let a:=(d,(Q0 d).1,len (Q0 d).1,())
 let c:=((0:Int),())
 let b:=A3 (NP a) (TI a) c
 (Am.Ends (NP a) (TI a) (XJ a) c,cond (tX6 a b) (uO4 a b) (0:Int))
def XK a:=(PT a).1
def XL a:=(PT a).2
theorem lI0:SK 26 (AP Ao vI XK XL):=fb Tryz.func26 79 [kb lI,kb nX9] [(2,oO8),(9,oO6)]
def pD6 (a:AK)(b:Int):Prop×Bool:=
 (True,a.1==b)
def tX7 a b:=(pD6 a b).1
def nY a b:=(pD6 a b).2
instance (a b):Decidable (tX7 a b):=by unfold tX7 pD6;dsimp only;infer_instance
theorem oO9:SK 44 (BG Bb Ea vB tX7 nY):=fb Tryz.func44 8
abbrev wY7:Type:=((List AK)×(Int×Unit)×Int×Unit)
def TJ (y:wY7)(x:AA):Prop×Bool×AA×Bool×Bool:=
 let e:=y.1
 let f:=y.2.1
 let b:=x.1
 let d:=decide (b<y.2.2.1)
 let c:=nth e b A9
 let a:=nY c f.1
 (d=true->A6 b (len e)/\tX7 c f.1/\((!a)=true->A5 (b+1)),d&&(!a),(b+1,()),d&&a,!d)
def TK y x:=(TJ y x).1
def HL y x:=(TJ y x).2.1
def HM y x:=(TJ y x).2.2.1
def TL y x:=(TJ y x).2.2.2.1
def qR1 y x:=(TJ y x).2.2.2.2
instance (y x):Decidable (TK y x):=by unfold TK TJ;dsimp only;infer_instance
def XM (y:wY7)(x:AA):Int:=
 x.1
def qR2:=li [(0,Au),(1,(.fn 44 (.cons Ea .nl))),(7,vI)] [(8,vI)] HL HM TK (λy x=>[ex 1 (some (TL y x)) [(4,vI)] ((XM y x),()),ex 2 (some (qR1 y x)) [] ()]) [[(4,vI)],[]]
def pD7 (d:List AK)(e:(Int×Unit)):Prop×Int:=
 let a:=(d,(e.1,()),len d,())
 let c:=((0:Int),())
 let b:=A3 (HL a) (HM a) c
 (Am.Ends (HL a) (HM a) (TK a) c,cond (TL a b) (XM a b) (-1:Int))
def tX8 a b:=(pD7 a b).1
def nY0 a b:=(pD7 a b).2
instance (a b):Decidable (tX8 a b):=by unfold tX8 pD7;dsimp only;infer_instance
theorem oP:SK 43 (BG Au (.fn 44 (.cons Ea .nl)) vI tX8 nY0):=fb Tryz.func43 19 [kb oO9] [(2,qR2)]
def PU (a:AS)(b:Int):Prop×Int:=
 let s:=(b,())
 (tX8 a.2.2.2.1 s,nY0 a.2.2.2.1 s)
def HN a b:=(PU a b).1
def BU a b:=(PU a b).2
instance (a b):Decidable (HN a b):=by unfold HN PU;dsimp only;infer_instance
def nM9:=BG Ao vI vI HN BU
theorem PV:SK 11 (BG Ao vI vI HN BU):=fb Tryz.func11 9 [kb oP] [] [(2,[(3,3,0,0)])]
def pD8 (a:C0)(b:AK):Prop×Bool:=
 (True,a.1==(Qh b).1)
def tX9 a b:=(pD8 a b).1
def nY1 a b:=(pD8 a b).2
theorem oP0:SK 54 (BG (.val LA) De vB tX9 nY1):=fb Tryz.func54 9
abbrev wY8:Type:=((List C0)×(AK×Unit)×Int×Unit)
def TM (y:wY8)(x:AA):Prop×Bool×AA×Bool×Bool:=
 let e:=y.1
 let f:=y.2.1
 let b:=x.1
 let d:=decide (b<y.2.2.1)
 let c:=nth e b Fj
 let a:=nY1 c f.1
 (d=true->A6 b (len e)/\tX9 c f.1/\((!a)=true->A5 (b+1)),d&&(!a),(b+1,()),d&&a,!d)
def uF4 y x:=(TM y x).1
def tQ2 y x:=(TM y x).2.1
def uH9 y x:=(TM y x).2.2.1
def sQ4 y x:=(TM y x).2.2.2.1
def qR3 y x:=(TM y x).2.2.2.2
def tN0 (y:wY8)(x:AA):Int:=
 x.1
def qR4:=li [(0,Be),(1,(.fn 54 (.cons De .nl))),(7,vI)] [(8,vI)] tQ2 uH9 uF4 (λy x=>[ex 1 (some (sQ4 y x)) [(4,vI)] ((tN0 y x),()),ex 2 (some (qR3 y x)) [] ()]) [[(4,vI)],[]]
def pD9 (d:List C0)(e:(AK×Unit)):Prop×Int:=
 let a:=(d,(e.1,()),len d,())
 let c:=((0:Int),())
 let b:=A3 (tQ2 a) (uH9 a) c
 (Am.Ends (tQ2 a) (uH9 a) (uF4 a) c,cond (sQ4 a b) (tN0 a b) (-1:Int))
def XN a b:=(pD9 a b).1
def tY a b:=(pD9 a b).2
theorem oP1:SK 91 (BG Be (.fn 54 (.cons De .nl)) vI XN tY):=fb Tryz.func91 19 [kb oP0] [(2,qR4)]
def pE (a:List C0)(b:(AK×Unit)):Prop×Bool:=
 let s:=(b.1,())
 (XN a s,decide (tY a s≥0))
def XO a b:=(pE a b).1
def nY2 a b:=(pE a b).2
theorem oP2:SK 53 (BG Be (.fn 54 (.cons De .nl)) vB XO nY2):=fb Tryz.func53 9 [kb oP1]
def TN (y:uO)(x:AA):Prop×Bool×AA×Bool×Bool:=
 let g:=y.1
 let m:=y.2.1
 let h:=x.1
 let b:=decide (h<y.2.2.1)
 let a:=nth m h A9
 let c:=a.2.1==9
 let s:=(a,())
 let j:=!(nY2 (Q0 g).1 s)
 let e:=a.2.1==10
 let f:=BU g (Qh a).1
 let d:=decide (f<0)
 let k:=nth g.2.2.2.1 f A9
 let l:=Jf k
 let i:=cond c (!j) (cond e ((!d)&&(!l)) true)
 (b=true->A6 h (len m)/\(c=true->XO (Q0 g).1 s)/\(c=false->e=true->HN g (Qh a).1/\((!d)=true->A6 f (len g.2.2.2.1)/\Ph k))/\(i=true->A5 (h+1)),b&&i,(h+1,()),b&&(cond c j ((d||((!d)&&l))&&e)),!b)
def XP y x:=(TN y x).1
def vR y x:=(TN y x).2.1
def PW y x:=(TN y x).2.2.1
def PX y x:=(TN y x).2.2.2.1
def oP3 y x:=(TN y x).2.2.2.2
def XQ (y:uO)(x:AA):Int:=
 let a:=nth y.2.1 x.1 A9
 (cond (a.2.1==9) (9:Int) (cond (decide (BU y.1 (Qh a).1<0)) (9:Int) (8:Int)))
def oP4:=li [(1,Ag),(7,Au),(8,vI)] [(9,vI)] vR PW XP (λy x=>[ex 1 (some (PX y x)) [(2,vI)] ((XQ y x),()),ex 2 (some (oP3 y x)) [] ()]) [[(2,vI)],[]]
def PY (d:AS):Prop×Int:=
 let a:=(d,d.2.2.2.1,len d.2.2.2.1,())
 let c:=((0:Int),())
 let b:=A3 (vR a) (PW a) c
 (Am.Ends (vR a) (PW a) (XP a) c,cond (PX a b) (XQ a b) (0:Int))
def XR a:=(PY a).1
def XS a:=(PY a).2
theorem lI1:SK 27 (AP Ao vI XR XS):=fb Tryz.func27 37 [kb PV,kb oL,kb oP2] [(2,oP4)] [(12,[(3,4,0,0)])]
abbrev tY0:Type:=(Int×AS×(List AK)×Int×Unit)
def qE7 (y:tY0)(x:Gi):Prop×Bool×Gi:=
 let g:=y.1
 let h:=y.2.1
 let b:=y.2.2.1
 let f:=x.1
 let a:=x.2.1
 let c:=decide (a<y.2.2.2.1)
 let d:=(nth b a A9).2.2.1==(nth h.2.2.2.1 g A9).1
 let e:=([a]:List Int)
 (c=true->A6 a (len b)/\A6 g (len h.2.2.2.1)/\(d=true->((length f+length e:Nat):Int)<=4294967296)/\A5 (a+1),c,(cond d (f++e) f,a+1,()))
def XT y x:=(qE7 y x).1
def XU y x:=(qE7 y x).2.1
def XV y x:=(qE7 y x).2.2
instance (y x):Decidable (XT y x):=by unfold XT qE7;dsimp only;infer_instance
def rF4 (y:tY0)(x:Gi):(List Int):=
 x.1
def qR6:List (Nat×Sh):=[(5,Bg)]
def oP5:=li [(1,vI),(2,Ag),(18,Au),(19,vI)] [(5,Bg),(20,vI)] XU XV XT (λy x=>[ex 3 none qR6 ((rF4 y x),())]) [qR6]
def PZ (j:AS)(k:Int):Prop×(List Int):=
 let c:=nth j.2.2.2.1 k A9
 let a:=c.2.1==1
 let b:=(k,j,j.2.2.2.1,len j.2.2.2.1,())
 let i:=(([]:List Int),(0:Int),())
 let d:=c.2.1==10
 let e:=nth j.2.2.2.1 k A9
 let f:=BU j (Qh e).1
 let g:=decide (f≥0)
 let h:=([f]:List Int)
 (A6 k (len j.2.2.2.1)/\(a=true->Am.Ends (XU b) (XV b) (XT b) i)/\(a=false->d=true->A6 k (len j.2.2.2.1)/\HN j (Qh e).1/\(g=true->(length h:Int)<=4294967296)),cond a (rF4 b (A3 (XU b) (XV b) i)) (cond d (cond g h []) []))
def TO a b:=(PZ a b).1
def BW a b:=(PZ a b).2
instance (a b):Decidable (TO a b):=by unfold TO PZ;dsimp only;infer_instance
def nN:=BG Ao vI Bk TO BW
theorem lI2:SK 56 (BG Ao vI Bk TO BW):=fb Tryz.func56 56 [kb PV] [(5,oP5)] [(17,[(4,0,37,1005)]),(27,[(4,0,54,1005)]),(29,[(4,0,1005,0)])]
abbrev EE:Type:=Int->(List Bool)->(List Bool)->AS->Unit->Prop×Bool×((List Bool)×(List Bool)×AS×Unit)
def TP (r:EE):Am.Spec:=fnSpec [(0,vI),(1,Ar),(2,As),(3,Ag),(4,(.fptr 55 [some (1,Bl),some (2,Bl),some (3,T28),none]))] vB [(1,Ar),(2,As),(3,Ag)] (λx=>(r x.1 x.2.1 x.2.2.1 x.2.2.2.1 x.2.2.2.2.1).1) (λx=>(r x.1 x.2.1 x.2.2.1 x.2.2.2.1 x.2.2.2.2.1).2.1) (λx=>(r x.1 x.2.1 x.2.2.1 x.2.2.2.1 x.2.2.2.2.1).2.2)
abbrev Hj:Type:=(Int×Unit×(List Int)×Int×Unit)
abbrev FV:Type:=((List Bool)×(List Bool)×AS×Int×Unit)
def TQ (r:EE)(y:Hj)(x:FV):Prop×Bool×FV×Bool×Bool:=
 let f:=y.2.2.1
 let g:=x.1
 let h:=x.2.1
 let i:=x.2.2.1
 let a:=x.2.2.2.1
 let c:=decide (a<y.2.2.2.1)
 let d:=nth f a (0:Int)
 let e:=(r d g h i ()).2.1
 let b:=(r d g h i ()).2.2
 (c=true->A6 a (len f)/\(r d g h i ()).1/\((!e)=true->A5 (a+1)),c&&(!e),(b.1,b.2.1,b.2.2.1,a+1,()),c&&e,!c)
def TR (r:EE)(y:Hj)(x:FV):Prop:=((TQ r) y x).1
def wO (r:EE)(y:Hj)(x:FV):Bool:=((TQ r) y x).2.1
def Ma (r:EE)(y:Hj)(x:FV):FV:=((TQ r) y x).2.2.1
def Mb (r:EE)(y:Hj)(x:FV):Bool:=((TQ r) y x).2.2.2.1
def sQ5 (r:EE)(y:Hj)(x:FV):Bool:=((TQ r) y x).2.2.2.2
instance (r:EE) [∀q0 q1 q2 q3 q4,Decidable (r q0 q1 q2 q3 q4).1] (y:Hj)(x:FV):Decidable ((TR r) y x):=by
 unfold TR TQ
 try dsimp only
 infer_instance
def tN1 (r:EE)(y:Hj)(x:FV):(List Bool):=
 (r (nth y.2.2.1 x.2.2.2.1 (0:Int)) x.1 x.2.1 x.2.2.1 ()).2.2.1
def tN2 (r:EE)(y:Hj)(x:FV):(List Bool):=
 (r (nth y.2.2.1 x.2.2.2.1 (0:Int)) x.1 x.2.1 x.2.2.1 ()).2.2.2.1
def tN3 (r:EE)(y:Hj)(x:FV):AS:=
 (r (nth y.2.2.1 x.2.2.2.1 (0:Int)) x.1 x.2.1 x.2.2.1 ()).2.2.2.2.1
def tN4 (r:EE)(y:Hj)(x:FV):Bool:=
 true
def sQ6:List (Nat×Sh):=[(1,Ar),(2,As),(3,Ag),(6,vB)]
def tN5 (r:EE)(y:Hj)(x:FV):(List Bool):=
 x.1
def tN6 (r:EE)(y:Hj)(x:FV):(List Bool):=
 x.2.1
def tN7 (r:EE)(y:Hj)(x:FV):AS:=
 x.2.2.1
def sQ7:List (Nat×Sh):=[(0,vI),(1,Ar),(2,As),(3,Ag)]
def tN8 (r:EE):St->Option Out:=Ih [(0,vI),(4,(.fptr 55 [some (1,Bl),some (2,Bl),some (3,T28),none])),(29,(.own Aa 29 false)),(30,vI)] [(1,Ar),(2,As),(3,Ag),(31,vI)] (wO r) (Ma r) (TR r) λy x=>[ex 1 (some ((Mb r) y x)) sQ6 (((tN1 r) y x),((tN2 r) y x),((tN3 r) y x),((tN4 r) y x),()),ex 2 (some ((sQ5 r) y x)) sQ7 (y.1,((tN5 r) y x),((tN6 r) y x),((tN7 r) y x),())]
def FA (r:EE)(i:Int)(j k:List Bool)(l:AS)(m:Unit):Prop×Bool×((List Bool)×(List Bool)×AS×Unit):=
 let f:=nth j i false
 let d:=cond f true (nth k i false)
 let g:=BW l i
 let c:=(i,(),g,len g,())
 let h:=(j,set k (toNat i) true,l,(0:Int),())
 let e:=A3 ((wO r) c) ((Ma r) c) h
 let b:=(Mb r) c e
 let a:=(tN5 r) c e
 (A6 i (len j)/\i<len j/\((!f)=true->A6 i (len k))/\((!f)=true->i<len k)/\(d=true->A6 i (len j)/\i<len j)/\((!d)=true->A6 i (len k)/\i<len k/\TO l i/\Am.Ends ((wO r) c) ((Ma r) c) ((TR r) c) h/\((sQ5 r) c e=true->A6 i (len a)/\i<len a)),cond d (!(nth j i false)) (cond b ((tN4 r) c e) false),(cond d j (cond b ((tN1 r) c e) (set a (toNat i) true)),cond d k (cond b ((tN2 r) c e) ((tN6 r) c e)),cond d l (cond b ((tN3 r) c e) ((tN7 r) c e)),()))
def rV1 (r:EE):Ctx:={ Cx tys [(55,TP r),(56,nN)] [(5,(tN8 r))] [] false 42 [1,2,3] [] with wants:=[(55,[])],fts:=fts }
theorem rV2 (r:EE)(hr:SpecOk Tryz.prog 55 (TP r)):CtxOk Tryz.prog (rV1 r):=cq ⟨hr,lI2,trivial⟩
noncomputable def pE0:Code:=Tryz.f55.body.getD .skip
noncomputable def qR7:Code:=S6 pE0 0
theorem qR8 (r:EE)(hr:SpecOk Tryz.prog 55 (TP r)):JD Tryz.prog (rV1 r) qR7:=lq (rV2 r hr) (sp:=(tN8 r)) rfl [sQ6,sQ7]
instance (r:EE) [∀q0 q1 q2 q3 q4,Decidable (r q0 q1 q2 q3 q4).1] (a:Int)(b c:List Bool)(d:AS)(e:Unit):Decidable (FA r a b c d e).1:=by
 unfold FA
 try dsimp only
 infer_instance
theorem pE1 (r:EE)(hr:SpecOk Tryz.prog 55 (TP r)):SpecOk Tryz.prog 55 (TP (FA r)):=Wn (rV2 r hr) mixed Tryz.func55 (by kernel_rfl) (bs:=[qR7]) (by kernel_rfl) ⟨qR8 r hr,trivial⟩ λx=>by kernel_rfl
def HO:Nat->EE
 |0=>λ_ _ _ _ _=>(False,false,(([]:List Bool),([]:List Bool),Z28,()))
 |k+1=>FA (HO k)
theorem rV3:∀k,SpecOk Tryz.prog 55 (TP (HO k))
 |0=>xY3 Tryz.func55 (by kernel_rfl) (by decide)
 |k+1=>pE1 _ (rV3 k)
def sX0 (a:Int)(b c:List Bool)(d:AS)(e:Unit):Nat:=(length b+1)
def tY2 (a:Int)(b c:List Bool)(d:AS)(e:Unit):Prop:=(HO (sX0 a b c d e) a b c d e).1
def TS (a:Int)(b c:List Bool)(d:AS)(e:Unit):Bool:=(HO (sX0 a b c d e) a b c d e).2.1
def sX1 (a:Int)(b c:List Bool)(d:AS)(e:Unit):((List Bool)×(List Bool)×AS×Unit):=(HO (sX0 a b c d e) a b c d e).2.2
def rV5:∀(k:Nat) (a:Int) (b c:List Bool) (d:AS) (e:Unit),Decidable (HO k a b c d e).1
 |0,_,_,_,_,_=>isFalse id
 |k+1,a,b,c,d,e=>by
  have:∀(q0:Int) (q1 q2:List Bool) (q3:AS) (q4:Unit),Decidable (HO k q0 q1 q2 q3 q4).1:=rV5 k;exact inferInstanceAs (Decidable (FA (HO k) a b c d e).1)
instance (a:Int)(b c:List Bool)(d:AS)(e:Unit):Decidable (tY2 a b c d e):=rV5 _ a b c d e
def pE2:Am.Spec:=fnSpec [(0,vI),(1,Ar),(2,As),(3,Ag),(4,(.fptr 55 [some (1,Bl),some (2,Bl),some (3,T28),none]))] vB [(1,Ar),(2,As),(3,Ag)] (λx=>tY2 x.1 x.2.1 x.2.2.1 x.2.2.2.1 x.2.2.2.2.1) (λx=>TS x.1 x.2.1 x.2.2.1 x.2.2.2.1 x.2.2.2.2.1) (λx=>sX1 x.1 x.2.1 x.2.2.1 x.2.2.2.1 x.2.2.2.2.1)
theorem oP6:SpecOk Tryz.prog 55 pE2:=xZ9 (ps:=[(0,vI),(1,Ar),(2,As),(3,Ag),(4,(.fptr 55 [some (1,Bl),some (2,Bl),some (3,T28),none]))]) (rs:=vB) (os:=[(1,Ar),(2,As),(3,Ag)]) (R:=λk x=>HO k x.1 x.2.1 x.2.2.1 x.2.2.2.1 x.2.2.2.2.1) rV3 λx=>sX0 x.1 x.2.1 x.2.2.1 x.2.2.2.1 x.2.2.2.2.1
abbrev uO7:Type:=(Unit×Int×Unit)
abbrev vL1:Type:=(AS×(List Bool)×(List Bool)×Int×Unit)
def TT (y:uO7)(x:vL1):Prop×Bool×vL1×Bool×Bool:=
 let e:=x.1
 let f:=x.2.1
 let g:=x.2.2.1
 let a:=x.2.2.2.1
 let c:=decide (a<y.2.1)
 let d:=TS a g f e ()
 let b:=sX1 a g f e ()
 (c=true->tY2 a g f e ()/\((!d)=true->A5 (a+1)),c&&(!d),(b.2.2.1,b.2.1,b.1,a+1,()),c&&d,!c)
def XW y x:=(TT y x).1
def TU y x:=(TT y x).2.1
def TV y x:=(TT y x).2.2.1
def tY3 y x:=(TT y x).2.2.2.1
def oP7 y x:=(TT y x).2.2.2.2
def rF5 (y:uO7)(x:vL1):Bool:=
 true
def oP8:=li [(5,(.fptr 55 [some (4,Bl),some (3,Bl),some (1,T28),none])),(18,vI)] [(1,Ag),(3,(.box Bl (.own .bool 400300 true))),(4,(.box Bl (.own .bool 400400 true))),(19,vI)] TU TV XW (λy x=>[ex 1 (some (tY3 y x)) [(2,vB)] ((rF5 y x),()),ex 2 (some (oP7 y x)) [] ()]) [[(2,vB)],[]]
def Qn (f:AS):Prop×Bool:=
 let c:=len f.2.2.2.1
 let a:=len f.2.2.2.1
 let b:=((),len f.2.2.2.1,())
 let e:=(f,replicate (toNat c) false,replicate (toNat a) false,(0:Int),())
 let d:=A3 (TU b) (TV b) e
 ((0<=c/\c<=c/\c<=4294967296)/\(0<=a/\a<=a/\a<=4294967296)/\Am.Ends (TU b) (TV b) (XW b) e,cond (tY3 b d) (rF5 b d) false)
def XX a:=(Qn a).1
def Qo a:=(Qn a).2
theorem lI3:SK 28 (AP Ao vB XX Qo):=fx (λc=>{ c with wants:=[(55,[])],fts:=fts }) Tryz.func28 26 [kb oP6] [(6,oP8)] [(3,[(4,0,10,400300)]),(5,[(4,0,14,400400)])] false [] [10,14]
def TW (y:SA)(x:AA):Prop×Bool×AA×Bool×Bool:=
 let e:=y.1
 let a:=x.1
 let b:=decide (a<y.2.2.1)
 let d:=decide (BN e a<y.2.1)
 let c:=cond d true (decide (BN e a>126))
 (b=true->A6 a (len e)/\((!d)=true->A6 a (len e))/\((!c)=true->A5 (a+1)),b&&(!c),(a+1,()),b&&c,!b)
def tJ4 y x:=(TW y x).1
def XY y x:=(TW y x).2.1
def XZ y x:=(TW y x).2.2.1
def rV6 y x:=(TW y x).2.2.2.1
def oA8 y x:=(TW y x).2.2.2.2
def sQ8 (y:SA)(x:AA):Bool:=
 false
def oA9:=li [(0,vS),(2,Ba),(18,vI)] [(19,vI)] XY XZ tJ4 (λy x=>[ex 1 (some (rV6 y x)) [(6,vB)] ((sQ8 y x),()),ex 2 (some (oA8 y x)) [] ()]) [[(6,vB)],[]]
def mM2 (e:List UInt8)(f g:Int):Prop×Bool:=
 let b:=cond (decide (len e<1)) true (decide (len e>f))
 let a:=(e,g,len e,())
 let d:=((0:Int),())
 let c:=A3 (XY a) (XZ a) d
 ((!b)=true->Am.Ends (XY a) (XZ a) (tJ4 a) d,cond b false (cond (rV6 a c) (sQ8 a c) true))
def TX a b c:=(mM2 a b c).1
def Qp a b c:=(mM2 a b c).2
theorem oP9:SK 129 (DN vS vI Ba vB TX Qp):=fb Tryz.func129 34 [] [(4,oA9)]
def Qq (a:List UInt8):Prop×Bool:=
 (TX a (32:Int) (33:Int),Qp a (32:Int) (33:Int))
def pN0 a:=(Qq a).1
def f92 a:=(Qq a).2
theorem lI4:SK 92 (AP vS vB pN0 f92):=fb Tryz.func92 5 [kb oP9]
def Qr (a:List UInt8):Prop×Bool:=
 (TX a (256:Int) (32:Int),Qp a (256:Int) (32:Int))
def pN1 a:=(Qr a).1
def f93 a:=(Qr a).2
theorem lI5:SK 93 (AP vS vB pN1 f93):=fb Tryz.func93 5 [kb oP9]
def Qs (g:List BZ)(h:BZ):Prop×Int:=
 let f:=!(f92 h.1)
 let b:=!(f93 h.2.1)
 let a:=decide (len g>0)
 let c:=len g
 let d:=c-1
 let e:=nth g d DI
 (pN0 h.1/\((!f)=true->pN1 h.2.1/\((!b)=true->(a=true->A5 (c-1))/\(a=true->A6 d (len g)))),cond f (13:Int) (cond b (4:Int) (cond (cond a (Op.bytesLess h.1 e.1||h.1==e.1) false) (24:Int) (0:Int))))
def qS a b:=(Qs a b).1
def Mc a b:=(Qs a b).2
theorem lI6:SK 58 (BG Bn (.val OU) vI qS Mc):=fb Tryz.func58 28 [kb lI4,kb lI5]
abbrev uO8:Type:=((List BZ)×(List BZ)×Int×Unit)
def sI (y:uO8)(x:AA):Prop×Bool×AA×Bool×Bool:=
 let f:=y.1
 let g:=y.2.1
 let a:=x.1
 let b:=decide (a<y.2.2.1)
 let d:=nth g a DI
 let e:=take (toNat a) f
 let c:=Mc e d !=0
 (b=true->A6 a (len g)/\(0<=a/\a<=len f)/\qS e d/\((!c)=true->A5 (a+1)),b&&(!c),(a+1,()),b&&c,!b)
def Ya y x:=(sI y x).1
def Qt y x:=(sI y x).2.1
def wZ y x:=(sI y x).2.2.1
def rF6 y x:=(sI y x).2.2.2.1
def oQ y x:=(sI y x).2.2.2.2
def tQ3 (y:uO8)(x:AA):Int:=
 let a:=x.1
 (Mc (take (toNat a) y.1) (nth y.2.1 a DI))
def oQ0:=li [(0,Bn),(9,Bn),(10,vI)] [(11,vI)] Qt wZ Ya (λy x=>[ex 1 (some (rF6 y x)) [(2,vI)] ((tQ3 y x),()),ex 2 (some (oQ y x)) [] ()]) [[(2,vI)],[]]
def Qu (e:List BZ):Prop×Int:=
 let c:=decide (len e>16)
 let a:=(e,e,len e,())
 let d:=((0:Int),())
 let b:=A3 (Qt a) (wZ a) d
 ((!c)=true->Am.Ends (Qt a) (wZ a) (Ya a) d,cond c (3:Int) (cond (rF6 a b) (tQ3 a b) (0:Int)))
def Yb a:=(Qu a).1
def f30 a:=(Qu a).2
theorem lI7:SK 30 (AP Bn vI Yb f30):=fb Tryz.func30 25 [kb lI6] [(4,oQ0)]
def f7t (p:AS):Prop×Int:=
 let b:=Nr p
 let c:=b !=0
 let d:=cond (decide (len p.2.2.2.1>64)) true (decide (len (Q0 p).1>8))
 let e:=cond (decide (p.2.2.2.2.1<1)) true (decide (p.2.2.2.2.1>1073741824))
 let f:=TD p
 let g:=f !=0
 let h:=XD p
 let i:=h !=0
 let j:=XL p
 let k:=j !=0
 let l:=XS p
 let m:=l !=0
 let n:=Qo p
 let o:=SL (Q1 p).1
 let q:=o !=0
 let r:=cond ((Q1 p).1.1 !=0) (cond ((Q1 p).1.1 !=p.1) true ((Q1 p).1.2.1 !=p.2.1)) false
 let a:=cond g f (cond i h (cond k j (cond m l (cond n (11:Int) (cond q o (cond r (15:Int) (f30 (Q3 p).1)))))))
 (Pc p/\((!c)=true->(!d)=true->(!e)=true->X8 p/\((!g)=true->XC p/\((!i)=true->XK p/\((!k)=true->XR p/\((!m)=true->XX p/\((!n)=true->Ns (Q1 p).1/\((!q)=true->(!r)=true->Yb (Q3 p).1))))))),cond c b (cond d (3:Int) (cond e (2:Int) a)))
def Jl a:=(f7t a).1
def f7 a:=(f7t a).2
def oQ1:=AP Ao vI Jl f7
theorem Qv:SK 7 (AP Ao vI Jl f7):=fb Tryz.func7 83 [kb nX5,kb lH8,kb lH9,kb lI0,kb lI1,kb lI3,kb nX6,kb lI7]
abbrev uP:Type:=(Int×(List AK)×Int×Unit)
def Yc (y:uP)(x:AA):Prop×Bool×AA×Bool×Bool:=
 let d:=y.2.1
 let a:=x.1
 let b:=decide (a<y.2.2.1)
 let c:=(nth d a A9).1==y.1
 (b=true->A6 a (len d)/\((!c)=true->A5 (a+1)),b&&(!c),(a+1,()),b&&c,!b)
def qS1 y x:=(Yc y x).1
def qE8 y x:=(Yc y x).2.1
def tQ4 y x:=(Yc y x).2.2.1
def qS2 y x:=(Yc y x).2.2.2.1
def oQ2 y x:=(Yc y x).2.2.2.2
def rF8 (y:uP)(x:AA):Int:=
 x.1
def oQ3:=li [(1,vI),(8,Au),(9,vI)] [(10,vI)] qE8 tQ4 qS1 (λy x=>[ex 1 (some (qS2 y x)) [(4,vI)] ((rF8 y x),()),ex 2 (some (oQ2 y x)) [] ()]) [[(4,vI)],[]]
def Yd (d:AS)(e:Int):Prop×Int:=
 let a:=(e,d.2.2.2.1,len d.2.2.2.1,())
 let c:=((0:Int),())
 let b:=A3 (qE8 a) (tQ4 a) c
 (Am.Ends (qE8 a) (tQ4 a) (qS1 a) c,cond (qS2 a b) (rF8 a b) (-1:Int))
def Qw a b:=(Yd a b).1
def Md a b:=(Yd a b).2
theorem pN2:SK 12 (BG Ao vI vI Qw Md):=fb Tryz.func12 21 [] [(2,oQ3)]
abbrev Ye:Type:=(AS×Unit)
def rG (y:Ye)(x:vC):Prop×Bool×vC×Bool×Bool:=
 let b:=y.1
 let f:=x.1
 let g:=x.2.1
 let a:=cond ((nth b.2.2.2.1 f A9).2.2.1 !=0) (decide (g<=len b.2.2.2.1)) false
 let d:=nth b.2.2.2.1 f A9
 let e:=Md b d.2.2.1
 let c:=decide (e<0)
 (A6 f (len b.2.2.2.1)/\(a=true->A6 f (len b.2.2.2.1)/\Qw b d.2.2.1/\((!c)=true->A5 (g+1))),a&&(!c),(e,g+1,()),a&&c,!a)
def rG0 y x:=(rG y x).1
def NQ y x:=(rG y x).2.1
def Me y x:=(rG y x).2.2.1
def rG1 y x:=(rG y x).2.2.2.1
def oQ4 y x:=(rG y x).2.2.2.2
def rG2 (y:Ye)(x:vC):Int:=
 x.2.1
def rG3 (y:Ye)(x:vC):Int:=
 x.2.1
def oQ5:=li [(2,Ag)] [(1,vI),(5,vI)] NQ Me rG0 (λy x=>[ex 1 (some (rG1 y x)) [(4,vI)] ((rG2 y x),()),ex 2 (some (oQ4 y x)) [(5,vI)] ((rG3 y x),())]) [[(4,vI)],[(5,vI)]]
def Yf (d:AS)(e:Int):Prop×Int:=
 let a:=(d,())
 let c:=(e,(1:Int),())
 let b:=A3 (NQ a) (Me a) c
 (Am.Ends (NQ a) (Me a) (rG0 a) c,cond (rG1 a b) (rG2 a b) (rG3 a b))
def pN3 a b:=(Yf a b).1
def NR a b:=(Yf a b).2
theorem lI8:SK 46 (BG Ao vI vI pN3 NR):=fb Tryz.func46 34 [kb pN2] [(2,oQ5)]
abbrev vZ:Type:=((List Int)×(List Int)×Unit)
def Yg (y:vZ)(x:AA):Prop×Bool×AA×Bool×Bool:=
 let d:=y.1
 let e:=y.2.1
 let b:=x.1
 let a:=decide (b<len d)
 let c:=nth d b (0:Int)!=nth e b (0:Int)
 (a=true->A6 b (len d)/\A6 b (len e)/\((!c)=true->A5 (b+1)),a&&(!c),(b+1,()),a&&c,!a)
def sI0 y x:=(Yg y x).1
def tY5 y x:=(Yg y x).2.1
def uF7 y x:=(Yg y x).2.2.1
def rV7 y x:=(Yg y x).2.2.2.1
def oB y x:=(Yg y x).2.2.2.2
def sQ9 (y:vZ)(x:AA):Bool:=
 false
def oB0:=li [(0,Ak),(1,Ak)] [(5,vI)] tY5 uF7 sI0 (λy x=>[ex 1 (some (rV7 y x)) [(4,vB)] ((sQ9 y x),()),ex 2 (some (oB y x)) [] ()]) [[(4,vB)],[]]
def lI9 (e f:List Int):Prop×Bool:=
 let b:=len e !=len f
 let a:=(e,f,())
 let d:=((0:Int),())
 let c:=A3 (tY5 a) (uF7 a) d
 ((!b)=true->Am.Ends (tY5 a) (uF7 a) (sI0 a) d,cond b false (cond (rV7 a c) (sQ9 a c) true))
def qE9 a b:=(lI9 a b).1
def Ke a b:=(lI9 a b).2
theorem oQ6:SK 146 (BG Ak Ak vB qE9 Ke):=fb Tryz.func146 26 [] [(4,oB0)]
def lJ (b c:Ge):Prop×Bool:=
 let a:=cond (b.1==c.1) (b.2.1==c.2.1) false
 (a=true->qE9 b.2.2.1 c.2.2.1,cond a (Ke b.2.2.1 c.2.2.1) false)
def pE4 a b:=(lJ a b).1
def Mf a b:=(lJ a b).2
theorem mM3:SK 103 (BG Ca Ca vB pE4 Mf):=fb Tryz.func103 24 [kb oQ6]
abbrev vZ0:Type:=(HD×HD×Unit)
def Yh (y:vZ0)(x:AA):Prop×Bool×AA×Bool×Bool:=
 let d:=y.1
 let e:=y.2.1
 let b:=x.1
 let a:=decide (b<len d.2.2.1)
 let c:=!(Ty.eqb Gf (nth d.2.2.1 b Ik) (nth e.2.2.1 b Ik))
 (a=true->A6 b (len d.2.2.1)/\A6 b (len e.2.2.1)/\((!c)=true->A5 (b+1)),a&&(!c),(b+1,()),a&&c,!a)
def sI1 y x:=(Yh y x).1
def tB y x:=(Yh y x).2.1
def Yi y x:=(Yh y x).2.2.1
def tJ5 y x:=(Yh y x).2.2.2.1
def oB1 y x:=(Yh y x).2.2.2.2
def sR (y:vZ0)(x:AA):Bool:=
 false
def oB2:=li [(2,Dg),(3,Dg)] [(5,vI)] tB Yi sI1 (λy x=>[ex 1 (some (tJ5 y x)) [(4,vB)] ((sR y x),()),ex 2 (some (oB1 y x)) [] ()]) [[(4,vB)],[]]
def lJ0 (e f:HD):Prop×Bool:=
 let b:=cond (cond (e.1 !=f.1) true (e.2.1 !=f.2.1)) true (len e.2.2.1!=len f.2.2.1)
 let a:=(e,f,())
 let d:=((0:Int),())
 let c:=A3 (tB a) (Yi a) d
 ((!b)=true->Am.Ends (tB a) (Yi a) (sI1 a) d,cond b false (cond (tJ5 a c) (sR a c) true))
def pE5 a b:=(lJ0 a b).1
def Kf a b:=(lJ0 a b).2
theorem mM4:SK 147 (BG Cd Cd vB pE5 Kf):=fb Tryz.func147 45 [] [(4,oB2)]
abbrev vZ1:Type:=((List AW)×(List AW)×Unit)
def Yj (y:vZ1)(x:AA):Prop×Bool×AA×Bool×Bool:=
 let d:=y.1
 let e:=y.2.1
 let b:=x.1
 let a:=decide (b<len d)
 let c:=!(Ty.eqb Il (nth d b CO) (nth e b CO))
 (a=true->A6 b (len d)/\A6 b (len e)/\((!c)=true->A5 (b+1)),a&&(!c),(b+1,()),a&&c,!a)
def sI2 y x:=(Yj y x).1
def tY8 y x:=(Yj y x).2.1
def uF8 y x:=(Yj y x).2.2.1
def rV8 y x:=(Yj y x).2.2.2.1
def oB3 y x:=(Yj y x).2.2.2.2
def sR0 (y:vZ1)(x:AA):Bool:=
 false
def oB4:=li [(0,An),(1,An)] [(5,vI)] tY8 uF8 sI2 (λy x=>[ex 1 (some (rV8 y x)) [(4,vB)] ((sR0 y x),()),ex 2 (some (oB3 y x)) [] ()]) [[(4,vB)],[]]
def lJ1 (e f:List AW):Prop×Bool:=
 let b:=len e !=len f
 let a:=(e,f,())
 let d:=((0:Int),())
 let c:=A3 (tY8 a) (uF8 a) d
 ((!b)=true->Am.Ends (tY8 a) (uF8 a) (sI2 a) d,cond b false (cond (rV8 a c) (sR0 a c) true))
def pE6 a b:=(lJ1 a b).1
def Mg a b:=(lJ1 a b).2
theorem mM5:SK 148 (BG An An vB pE6 Mg):=fb Tryz.func148 26 [] [(4,oB4)]
abbrev vZ2:Type:=((List A8)×(List A8)×Unit)
def Yk (y:vZ2)(x:AA):Prop×Bool×AA×Bool×Bool:=
 let d:=y.1
 let e:=y.2.1
 let b:=x.1
 let a:=decide (b<len d)
 let c:=!(Ty.eqb Eb (nth d b A4) (nth e b A4))
 (a=true->A6 b (len d)/\A6 b (len e)/\((!c)=true->A5 (b+1)),a&&(!c),(b+1,()),a&&c,!a)
def sI3 y x:=(Yk y x).1
def tZ y x:=(Yk y x).2.1
def uF9 y x:=(Yk y x).2.2.1
def rV9 y x:=(Yk y x).2.2.2.1
def oB5 y x:=(Yk y x).2.2.2.2
def sR1 (y:vZ2)(x:AA):Bool:=
 false
def oB6:=li [(0,Ai),(1,Ai)] [(5,vI)] tZ uF9 sI3 (λy x=>[ex 1 (some (rV9 y x)) [(4,vB)] ((sR1 y x),()),ex 2 (some (oB5 y x)) [] ()]) [[(4,vB)],[]]
def lJ2 (e f:List A8):Prop×Bool:=
 let b:=len e !=len f
 let a:=(e,f,())
 let d:=((0:Int),())
 let c:=A3 (tZ a) (uF9 a) d
 ((!b)=true->Am.Ends (tZ a) (uF9 a) (sI3 a) d,cond b false (cond (rV9 a c) (sR1 a c) true))
def pE7 a b:=(lJ2 a b).1
def Mh a b:=(lJ2 a b).2
theorem mM6:SK 149 (BG Ai Ai vB pE7 Mh):=fb Tryz.func149 26 [] [(4,oB6)]
abbrev vZ3:Type:=(Jd×Jd×Unit)
def Yl (y:vZ3)(x:AA):Prop×Bool×AA×Bool×Bool:=
 let d:=y.1
 let e:=y.2.1
 let b:=x.1
 let a:=decide (b<len d.2.2.2.1)
 let c:=!(Ty.eqb AN (nth d.2.2.2.1 b A1) (nth e.2.2.2.1 b A1))
 (a=true->A6 b (len d.2.2.2.1)/\A6 b (len e.2.2.2.1)/\((!c)=true->A5 (b+1)),a&&(!c),(b+1,()),a&&c,!a)
def sI4 y x:=(Yl y x).1
def Ym y x:=(Yl y x).2.1
def Yn y x:=(Yl y x).2.2.1
def tJ6 y x:=(Yl y x).2.2.2.1
def oB7 y x:=(Yl y x).2.2.2.2
def sR2 (y:vZ3)(x:AA):Bool:=
 false
def oB8:=li [(2,(.box S9 Da)),(3,(.box S9 Da))] [(5,vI)] Ym Yn sI4 (λy x=>[ex 1 (some (tJ6 y x)) [(4,vB)] ((sR2 y x),()),ex 2 (some (oB7 y x)) [] ()]) [[(4,vB)],[]]
def lJ3 (e f:Jd):Prop×Bool:=
 let b:=cond (cond (cond (e.1 !=f.1) true (e.2.1 !=f.2.1)) true (e.2.2.1 !=f.2.2.1)) true (len e.2.2.2.1!=len f.2.2.2.1)
 let a:=(e,f,())
 let d:=((0:Int),())
 let c:=A3 (Ym a) (Yn a) d
 ((!b)=true->Am.Ends (Ym a) (Yn a) (sI4 a) d,cond b false (cond (tJ6 a c) (sR2 a c) true))
def pE8 a b:=(lJ3 a b).1
def Kg a b:=(lJ3 a b).2
theorem mM7:SK 150 (BG Da Da vB pE8 Kg):=fb Tryz.func150 52 [] [(4,oB8)]
end Go.Proofs.YtgjdonlgingdeaaGreatDoor.Am
