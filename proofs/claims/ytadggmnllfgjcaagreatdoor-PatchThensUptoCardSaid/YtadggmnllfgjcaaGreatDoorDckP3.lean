/- Printed by program, part 3. No condition. -/
import Derived.Test.YtadggmnllfgjcaaGreatDoorDckP2
set_option linter.unusedVariables false
set_option synthInstance.maxSize 4000
set_option synthInstance.maxHeartbeats 400000
namespace Go.Proofs.YtadggmnllfgjcaaGreatDoor.Am
open Go Go.Am Go.Proofs
open _root_.Int (tdiv toNat)
open _root_.List (length replicate set take)
open _root_.Option (getD isSome)
abbrev bW:Type:=(Int×A7×AW×(List (List A0))×Int×Int×A0×(List (List UInt8))×Int×Int×(List A0)×Int×Int×(List (List A0))×Int×Int×(List A0)×Int×Unit)
def rP2 (y:bW)(x:Zj):Vn Zj:=
 let o:=y.1
 let c:=y.2.1
 let k:=(Q1 y).1
 let l:=(Q2 y).1
 let m:=(Qf y).1
 let j:=x.1
 let a:=x.2.1
 let n:Bool:=a<(Qb y).1
 let b:=nth m a A1
 let d:=l.2.1+b.1
 let e:=d*o
 let f:=k*c.2.2.1
 let g:=c.2.1+f
 let h:=g-b.2.1
 let i:=h*o
 (n->A6 a (len m)/\A5 (l.2.1+b.1)/\A5 (d*o)/\HE e c.1/\A5 (k*c.2.2.1)/\A5 (c.2.1+f)/\A5 (g-b.2.1)/\A5 (h*o)/\HE i c.1/\A6 a (len j)/\a<len j/\A5 (a+1),n,(set j (toNat a) (f138 e c.1,f138 i c.1,()),a+1,()))
def tY6 y x:=(rP2 y x).1
def VJ y x:=(rP2 y x).2.1
def U7 y x:=(rP2 y x).2.2
def Zd (y:bW)(x:Zj):(List A0):=
 x.1
def rP3:List (Nat×Sh):=[(2,vI),(4,Aj),(11,Bd),(12,Ba),(13,vI),(14,vI),(19,Cb),(24,(.own AL 1024 true)),(41,Bi),(42,vI),(43,vI),(54,Cl),(55,vI),(56,vI),(74,Du),(75,vI),(76,vI)]
def pP9:=li [(2,vI),(4,Aj),(11,Bd),(12,Ba),(13,vI),(14,vI),(19,Cb),(41,Bi),(42,vI),(43,vI),(54,Cl),(55,vI),(56,vI),(74,Du),(75,vI),(76,vI),(89,Bc),(90,vI)] [(24,(.own AL 1024 true)),(91,vI)] VJ U7 tY6 (λy x=>[ex 8 none rP3 (y.1,y.2.1,y.2.2.1,y.2.2.2.1,y.2.2.2.2.1,(Q1 y).1,(Q2 y).1,(Zd y x),(Q0 y).1,(Q5 y).1,(Q4 y).1,(Q3 y).1,(Q7 y).1,(Q6 y).1,(Q9 y).1,(Qc y).1,(Qa y).1,())]) [rP3]
abbrev LW:Type:=(Int×A7×AW×Int×A0×(List (List UInt8))×Int×Int×(List A0)×Int×Int×(List (List A0))×Int×Unit)
abbrev wL9:Type:=((List (List A0))×Int×Int×Unit)
def ZX (y:LW)(x:wL9):Vm wL9:=
 let i:=(Q7 y).1
 let l:=(Q6 y).1
 let h:=x.1
 let k:=x.2.1
 let a:=x.2.2.1
 let d:Bool:=a<l
 let e:=nth i a []
 let m:=len e
 let j:=k+m
 let f:Bool:=j>4096
 let c:=len e
 let b:=(y.1,y.2.1,y.2.2.1,h,j,y.2.2.2.1,y.2.2.2.2.1,(Q1 y).1,(Q2 y).1,(Q0 y).1,(Q5 y).1,(Q4 y).1,(Q3 y).1,i,l,a,e,len e,())
 let n:=(replicate (toNat c) A1,(0:Int),())
 let g:=([Zd b (A3 (VJ b) (U7 b) n)]:List (List A0))
 (d->A6 a (len i)/\A5 (k+m)/\(!f->(0<=c/\c<=c/\c<=4294967296)/\AB (VJ b) (U7 b) (tY6 b) n/\((length h+length g:Nat):Int)<=4294967296)/\(!f->A5 (a+1)),d&&(!f),(h++g,j,a+1,()),d&&f,!d)
def tY7 y x:=(ZX y x).1
def U8 y x:=(ZX y x).2.1
def wN1 y x:=(ZX y x).2.2.1
def tY8 y x:=(ZX y x).2.2.2.1
def rP4 y x:=(ZX y x).2.2.2.2
def sE5 (y:LW)(x:wL9):(List (List A0)):=
 []
def sE6 (y:LW)(x:wL9):Int:=
 3
def aG:List (Nat×Sh):=[(8,Az),(9,vI)]
def sE7 (y:LW)(x:wL9):(List (List A0)):=
 x.1
def sE8 (y:LW)(x:wL9):Int:=
 x.2.1
def rP6:List (Nat×Sh):=[(2,vI),(4,Aj),(11,Bd),(12,Ba),(13,vI),(14,vI),(41,Bi),(42,vI),(43,vI),(54,Cl),(55,vI),(56,vI)]
def pQ:=li [(2,vI),(4,Aj),(11,Bd),(14,vI),(19,Cb),(41,Bi),(42,vI),(43,vI),(54,Cl),(55,vI),(56,vI),(74,Du),(75,vI)] [(12,Ba),(13,vI),(76,vI)] U8 wN1 tY7 (λy x=>[ex 1 (some (tY8 y x)) aG ((sE5 y x),(sE6 y x),()),ex 6 (some (rP4 y x)) rP6 (y.1,y.2.1,y.2.2.1,(sE7 y x),(sE8 y x),y.2.2.2.1,(Q1 y).1,(Q2 y).1,(Q0 y).1,(Q5 y).1,(Q4 y).1,(Q3 y).1,())]) [aG,rP6]
abbrev LZ:Type:=(Int×A7×AW×Int×(List (List UInt8))×Int×Int×(List A0)×Int×Unit)
def tH (y:LZ)(x:wL9):Vm wL9:=
 let m:=y.2.1
 let g:=(Q0 y).1
 let j:=(Q5 y).1
 let b:=x.2.2.1
 let e:Bool:=b<j
 let h:=nth g b A1
 let k:=nth m.2.2.2.1 h.1 BI
 let i:=BK k.2.2.1
 let f:=i.2.1 !=0
 let a:=(y.1,m,y.2.2.1,y.2.2.2.1,h,y.2.2.2.2.1,(Q1 y).1,(Q2 y).1,g,j,b,i.1,len i.1,())
 let l:=(x.1,x.2.1,(0:Int),())
 let d:=A3 (U8 a) (wN1 a) l
 let c:=(!f)&&rP4 a d
 (e->A6 b (len g)/\A6 h.1 (len m.2.2.2.1)/\rN6 k.2.2.1/\(!f->AB (U8 a) (wN1 a) (tY7 a) l)/\(c->A5 (b+1)),e&&c,(sE7 a d,sE8 a d,b+1,()),e&&(f||((!f)&&tY8 a d)),!e)
def tY9 y x:=(tH y x).1
def wW6 y x:=(tH y x).2.1
def FY y x:=(tH y x).2.2.1
def uB9 y x:=(tH y x).2.2.2.1
def rP7 y x:=(tH y x).2.2.2.2
def sE9 (y:LZ)(x:wL9):(List (List A0)):=
 let f:=y.2.1
 let c:=(Q0 y).1
 let d:=x.2.2.1
 let e:=nth c d A1
 let a:=BK (nth f.2.2.2.1 e.1 BI).2.2.1
 let b:=(y.1,f,y.2.2.1,y.2.2.2.1,e,y.2.2.2.2.1,(Q1 y).1,(Q2 y).1,c,(Q5 y).1,d,a.1,len a.1,())
 (cond (a.2.1 !=0) [] (sE5 b (A3 (U8 b) (wN1 b) (x.1,x.2.1,0,()))))
def YW (y:LZ)(x:wL9):Int:=
 let f:=y.2.1
 let c:=(Q0 y).1
 let d:=x.2.2.1
 let e:=nth c d A1
 let a:=BK (nth f.2.2.2.1 e.1 BI).2.2.1
 let b:=(y.1,f,y.2.2.1,y.2.2.2.1,e,y.2.2.2.2.1,(Q1 y).1,(Q2 y).1,c,(Q5 y).1,d,a.1,len a.1,())
 (cond (a.2.1 !=0) a.2.1 (sE6 b (A3 (U8 b) (wN1 b) (x.1,x.2.1,0,()))))
def aI:List (Nat×Sh):=[(8,Az),(9,vI)]
def sF (y:LZ)(x:wL9):(List (List A0)):=
 x.1
def sF0 (y:LZ)(x:wL9):Int:=
 x.2.1
def aL:List (Nat×Sh):=[(2,vI),(4,Aj),(11,Bd),(12,Ba),(13,vI),(41,Bi),(42,vI),(43,vI)]
def pQ0:=li [(2,vI),(4,Aj),(11,Bd),(14,vI),(41,Bi),(42,vI),(43,vI),(54,Cl),(55,vI)] [(12,Ba),(13,vI),(56,vI)] wW6 FY tY9 (λy x=>[ex 1 (some (uB9 y x)) aI ((sE9 y x),(YW y x),()),ex 4 (some (rP7 y x)) aL (y.1,y.2.1,y.2.2.1,(sF y x),(sF0 y x),y.2.2.2.2.1,(Q1 y).1,(Q2 y).1,())]) [aI,aL]
abbrev LV:Type:=(Int×A7×AW×(List (List UInt8))×Int×Unit)
def sF1 (y:LV)(x:wL9):Vm wL9:=
 let f:=y.2.2.1
 let g:=y.2.2.2.1
 let h:=y.2.2.2.2.1
 let b:=x.2.2.1
 let e:Bool:=b<h
 let i:=nth g b []
 let j:=C5 f i
 let a:=(y.1,y.2.1,f,b,g,h,b,j.1,len j.1,())
 let k:=(x.1,x.2.1,(0:Int),())
 let d:=A3 (wW6 a) (FY a) k
 let c:=rP7 a d
 (e->A6 b (len g)/\rM5 f i/\AB (wW6 a) (FY a) (tY9 a) k/\(c->A5 (b+1)),e&&c,(sF a d,sF0 a d,b+1,()),e&&uB9 a d,!e)
def sR3 y x:=(sF1 y x).1
def JU y x:=(sF1 y x).2.1
def JQ y x:=(sF1 y x).2.2.1
def VU y x:=(sF1 y x).2.2.2.1
def oR6 y x:=(sF1 y x).2.2.2.2
def OY (y:LV)(x:wL9):(List (List A0)):=
 let c:=y.2.2.1
 let d:=y.2.2.2.1
 let a:=x.2.2.1
 let e:=C5 c (nth d a [])
 let b:=(y.1,y.2.1,c,a,d,y.2.2.2.2.1,a,e.1,len e.1,())
 (sE9 b (A3 (wW6 b) (FY b) (x.1,x.2.1,0,())))
def uL0 (y:LV)(x:wL9):Int:=
 let c:=y.2.2.1
 let d:=y.2.2.2.1
 let a:=x.2.2.1
 let e:=C5 c (nth d a [])
 let b:=(y.1,y.2.1,c,a,d,y.2.2.2.2.1,a,e.1,len e.1,())
 (YW b (A3 (wW6 b) (FY b) (x.1,x.2.1,0,())))
def qG4:List (Nat×Sh):=[(8,Az),(9,vI)]
def Pb (y:LV)(x:wL9):(List (List A0)):=
 x.1
def qG5:List (Nat×Sh):=[(12,Ba)]
def oR7:=li [(2,vI),(4,Aj),(11,Bd),(41,Bi),(42,vI)] [(12,Ba),(13,vI),(43,vI)] JU JQ sR3 (λy x=>[ex 1 (some (VU y x)) qG4 ((OY y x),(uL0 y x),()),ex 2 (some (oR6 y x)) qG5 ((Pb y x),())]) [qG4,qG5]
def qR0 (i:A7)(j:List UInt8)(k l:Int):Prop×((List (List A0))×Int×Unit):=
 let e:=KJ i j k l
 let c:=e !=0
 let d:=BD i
 let f:=f214 d j k l
 let a:=(k,i,d,f,len f,())
 let h:=(([]:List (List A0)),(0:Int),(0:Int),())
 let g:=A3 (JU a) (JQ a) h
 let b:=VU a g
 (qQ9 i j k l/\(!c->rP1 i/\sQ d j k l/\AB (JU a) (JQ a) (sR3 a) h),(cond c [] (cond b (OY a g) (Pb a g)),cond c e (cond b (uL0 a g) 0),()))
def tZ a b c d:=(qR0 a b c d).1
def DM a b c d:=(qR0 a b c d).2
def nF5:=H4 Bo vS vI vI (.tup (.cons Az (.cons vI .nl))) tZ DM
theorem lD8:SK 175 (H4 Bo vS vI vI (.tup (.cons Az (.cons vI .nl))) tZ DM):=fb Tryz.func175 134 [kb QJ,kb nE6,kb lD5,kb lD7,kb mX2,kb nC6] [(8,oR7),(12,pQ0),(18,pQ),(25,pP9)] [(21,[(4,0,51,1016)]),(29,[(4,0,68,1020)]),(47,[(4,0,88,1024)]),(58,[(1,24,0,0)]),(59,[(4,0,129,1012)]),(67,[(4,0,1012,0)])] false [] [88]
def QR (a:List UInt8):List (List UInt8):=Lib.fields a
def rQ (a:List UInt8):Prop:=(length a:Int)<=4294967280/\(a.all λb=>decide (b.toNat<128))=true
instance (a:List UInt8):Decidable (rQ a):=by
  unfold rQ
  infer_instance
def lD9:List (Nat×Sh):=[(0,Ds)]
def lE:Sh:=Bi
def lE0:List (Nat×Sh):=[]
def nF6:Am.Spec:=fnSpec lD9 lE lE0 (λx=>rQ x.1) (λx=>QR x.1) (λ_=>())
theorem tab0:G0=Lib.asciiSpaceTab:=by kernel_rfl
theorem lE1:SpecOk Tryz.prog 216 nF6:=wA8 (F:=QR) (e:=9) (ok:=rQ) ⟨_,Tryz.func216,by kernel_rfl,by decide⟩ λs w χ kf hg =>
  Any.strings_Fields_core Tryz.lays157 (by kernel_rfl) s w (by have h1:=kf.1;rw[jN] at h1;have h2:s.data.size=s.size:=rfl;omega)
    (λj b hj=>by have:=List.all_eq_true.1 kf.2 b (List.mem_of_getElem? hj);simpa using this)
    (λc hc=>by
      have h1:=wB9 hg (g:=0) (n:=256) (k:=.u8) (l:=G0) (jQ ..) c hc;rw[tab0,Lib.asciiSpaceTab_at c hc] at h1;exact h1)
def lE2 (a:List UInt8)(b:Int):Prop×Int:=
 (qO7 a b,XM a b)
def aO a b:=(lE2 a b).1
def f217 a b:=(lE2 a b).2
instance (a b):Decidable (aO a b):=by unfold aO lE2;dsimp only;infer_instance
theorem lE3:SK 217 (BC vS Bf vI aO f217):=fb Tryz.func217 8 [kb mV4]
def lE4 (b c d e:Int):Prop×(List A8):=
 let a:=([((1:Int),([(b,c,()),A1,A1]:List A0),()),((2:Int),([(d,c,()),A1,A1]:List A0),()),((2:Int),([(d,e,()),A1,A1]:List A0),()),((2:Int),([(b,e,()),A1,A1]:List A0),()),((5:Int),replicate 3 A1,())]:List A8)
 (True,a)
def qR1 a b c d:=(lE4 a b c d).1
def YD a b c d:=(lE4 a b c d).2
instance (a b c d):Decidable (qR1 a b c d):=by unfold qR1 lE4;dsimp only;infer_instance
theorem lE5:SK 254 (H4 vI vI vI vI Bm qR1 YD):=fb Tryz.func254 31 [] [] [(3,[(4,0,30,0)])]
abbrev Pc:Type:=(Int×Int×(List A8)×Int×Unit)
def rI3 (y:Pc)(x:CW):Vn CW:=
 let b:=x.1
 let a:Bool:=(b+1)<7
 let c:=b+1
 let d:=cond a (FP .i64 (wE y.2.1 c 64) 1==1) false
 (A5 (b+1)/\(a->A5 (b+1))/\(a->0<=c)/\(d->A5 (b+1)),d,(b+1,()))
def tR y x:=(rI3 y x).1
def aQ y x:=(rI3 y x).2.1
def Pd y x:=(rI3 y x).2.2
instance (y x):Decidable (tR y x):=by unfold tR rI3;dsimp only;infer_instance
def rA6 (y:Pc)(x:CW):Int:=
 x.1
def qG6:List (Nat×Sh):=[(0,vI),(1,vI),(5,Cm),(6,vI),(7,vI)]
def oR8:=li [(0,vI),(1,vI),(5,Cm),(6,vI)] [(7,vI)] aQ Pd tR (λy x=>[ex 4 none qG6 (y.1,y.2.1,y.2.2.1,y.2.2.2.1,(rA6 y x),())]) [qG6]
abbrev Pe:Type:=(Unit)
def rI4 (y:Pe)(x:Pc):Vn Pc:=
 let e:=x.1
 let o:=x.2.1
 let q:=x.2.2.1
 let d:=x.2.2.2.1
 let s:Bool:=d<7
 let b:=FP .i64 (wE o d 64) 1==0
 let f:=(e,o,q,d,())
 let t:=(d,())
 let a:=rA6 f (A3 (aQ f) (Pd f) t)
 let g:=100*e
 let h:=100*d
 let i:=700-h
 let j:=100*e
 let k:=j+100
 let l:=100*a
 let m:=600-l
 let n:=YD g i k m
 let c:=b||(!b)
 let r:=cond b d a
 (s->0<=d/\(!b->AB (aQ f) (Pd f) (tR f) t/\A5 (100*e)/\A5 (100*d)/\A5 (700-h)/\A5 (100*e)/\A5 (j+100)/\A5 (100*a)/\A5 (600-l)/\qR1 g i k m/\((length q+length n:Nat):Int)<=4294967296)/\(c->A5 (r+1)),s&&c,(cond b e e,cond b o o,cond b q (q++n),r+1,()))
def VZ y x:=(rI4 y x).1
def rQ2 y x:=(rI4 y x).2.1
def aT y x:=(rI4 y x).2.2
instance (y x):Decidable (VZ y x):=by unfold VZ rI4;dsimp only;infer_instance
def rA7 (y:Pe)(x:Pc):(List A8):=
 x.2.2.1
def oR9:=li [] [(0,vI),(1,vI),(5,Cm),(6,vI)] rQ2 aT VZ (λy x=>[ex 2 none [(5,Cm)] ((rA7 y x),())]) [[(5,Cm)]]
def lE6 (b c:Int):Prop×(List A8):=
 let a:=(b,c,([]:List A8),(0:Int),())
 (AB (rQ2 ()) (aT ()) (VZ ()) a,rA7 () (A3 (rQ2 ()) (aT ()) a))
def qR2 a b:=(lE6 a b).1
def f218 a b:=(lE6 a b).2
instance (a b):Decidable (qR2 a b):=by unfold qR2 lE6;dsimp only;infer_instance
theorem lE7:SK 218 (BC vI vI Bm qR2 f218):=fb Tryz.func218 47 [kb lE5] [(3,oR9),(7,oR8)] [(19,[(4,0,44,1005)]),(23,[(4,0,1005,0)])]
abbrev Ze:Type:=((List UInt8)×(List (List UInt8))×Int×Int×Int×Unit)
abbrev KL:Type:=((Int×Int×Int×(List CD)×(List DJ)×Unit)×(Int×Int×Int×(List CD)×(List DJ)×Unit)×(Int×Int×(List A8)×Unit)×Int×Unit)
def rI5 (y:Ze)(x:KL):Vn KL:=
 let o:=y.1
 let b:=x.1
 let c:=x.2.1
 let q:=x.2.2.1
 let a:=x.2.2.2.1
 let d:Bool:=a<y.2.2.2.2.1
 let e:=2*a
 let f:=BU o e
 let g:=f217 ([48,49,50,51,52,53,54,55,56,57,97,98,99,100,101,102]:List UInt8) f
 let h:=16*g
 let i:=2*a
 let j:=i+1
 let k:=BU o j
 let l:=f217 ([48,49,50,51,52,53,54,55,56,57,97,98,99,100,101,102]:List UInt8) k
 let m:=h+l
 let n:=f218 a m
 (d->A5 (2*a)/\A6 e (len o)/\aO ([48,49,50,51,52,53,54,55,56,57,97,98,99,100,101,102]:List UInt8) f/\A5 (16*g)/\A5 (2*a)/\A5 (i+1)/\A6 j (len o)/\aO ([48,49,50,51,52,53,54,55,56,57,97,98,99,100,101,102]:List UInt8) k/\A5 (h+l)/\qR2 a m/\((length q.2.2.1+length n:Nat):Int)<=4294967296/\A5 (a+1),d,(b,c,(q.1,q.2.1,q.2.2.1++n,()),a+1,()))
def tR1 y x:=(rI5 y x).1
def rQ3 y x:=(rI5 y x).2.1
def tH5 y x:=(rI5 y x).2.2
instance (y x):Decidable (tR1 y x):=by unfold tR1 rI5;dsimp only;infer_instance
def rA8 (y:Ze)(x:KL):(Int×Int×Int×(List CD)×(List DJ)×Unit):=
 let a:=x.1
 a
def rA9 (y:Ze)(x:KL):(Int×Int×Int×(List CD)×(List DJ)×Unit):=
 let a:=x.2.1
 a
def rB (y:Ze)(x:KL):(Int×Int×(List A8)×Unit):=
 let a:=x.2.2.1
 (a.1,a.2.1,a.2.2.1,())
def qG7:List (Nat×Sh):=[(0,Ah),(1,Ai),(4,Bv),(8,Bi),(9,vI),(10,vI)]
def oS:=li [(3,vS),(8,Bi),(9,vI),(10,vI),(21,vI)] [(0,Ah),(1,Ai),(4,Bv),(22,vI)] rQ3 tH5 tR1 (λy x=>[ex 4 none qG7 ((rA8 y x),(rA9 y x),(rB y x),y.2.1,y.2.2.1,y.2.2.2.1,())]) [qG7]
abbrev bY:Type:=((List (List UInt8))×Int×Unit)
abbrev bT:Type:=((Int×Int×Int×(List CD)×(List DJ)×Unit)×(Int×Int×Int×(List CD)×(List DJ)×Unit)×Int×Unit)
def rI6 (y:bY)(x:bT):Vn bT:=
 let l:=y.1
 let n:=y.2.1
 let f:=x.1
 let g:=x.2.1
 let d:=x.2.2.1
 let h:Bool:=d<n
 let i:=nth l d []
 let j:=len i
 let e:=(i,l,n,d,tdiv j 2,())
 let o:=(f,g,(IntKind.wrap .u8 (32+d),(600:Int),([]:List A8),()),(0:Int),())
 let m:=A3 (rQ3 e) (tH5 e) o
 let b:=rA8 e m
 let a:=rA9 e m
 let c:=rB e m
 let k:=([(c.1,c.2.1,c.2.2.1,())]:List CD)
 (h->A6 d (len l)/\A5 (32+d)/\A5 (tdiv j 2)/\AB (rQ3 e) (tH5 e) (tR1 e) o/\((length a.2.2.2.1+length k:Nat):Int)<=4294967296/\A5 (d+1),h,(b,(a.1,a.2.1,a.2.2.1,a.2.2.2.1++k,a.2.2.2.2.1,()),d+1,()))
def tR2 y x:=(rI6 y x).1
def aU y x:=(rI6 y x).2.1
def aX y x:=(rI6 y x).2.2
instance (y x):Decidable (tR2 y x):=by unfold tR2 rI6;dsimp only;infer_instance
def pC3 (y:bY)(x:bT):(Int×Int×Int×(List CD)×(List DJ)×Unit):=
 let a:=x.1
 a
def rB0 (y:bY)(x:bT):(Int×Int×Int×(List CD)×(List DJ)×Unit):=
 let a:=x.2.1
 a
def qG8:List (Nat×Sh):=[(0,Ah),(1,Ai)]
def oS0:=li [(8,Bi),(9,vI)] [(0,Ah),(1,Ai),(10,vI)] aU aX tR2 (λy x=>[ex 2 none qG8 ((pC3 y x),(rB0 y x),())]) [qG8]
def lE8 :Prop×A7:=
 let d:=QR XL
 let b:=(d,len d,())
 let e:=(((0:Int),(0:Int),(0:Int),([]:List CD),([]:List DJ),()),((1000:Int),(800:Int),(1200:Int),([]:List CD),([]:List DJ),()),(0:Int),())
 let a:=rB0 b (A3 (aU b) (aX b) e)
 let c:=(a.1,a.2.1,a.2.2.1,a.2.2.2.1,([((65:Int),(86:Int),(-100:Int),()),((76:Int),(84:Int),(-100:Int),()),((84:Int),(97:Int),(-100:Int),()),((86:Int),(65:Int),(-100:Int),())]:List DJ),())
 (rQ XL/\AB (aU b) (aX b) (tR2 b) e,c)
def V9 :Prop:=(lE8).1
def IL :A7:=(lE8).2
instance:Decidable V9:=by unfold V9 lE8;dsimp only;infer_instance
def nF7:Am.Spec:=fnSpec [] Bo [] (λx=>V9 ) (λx=>IL ) (λ_=>())
theorem lE9:SK 176 (fnSpec [] Bo [] (λx=>V9 ) (λx=>IL ) (λ_=>())):=fb Tryz.func176 60 [kb lE1,kb lE3,kb lE7] [(3,oS0),(7,oS)] [(21,[(4,0,43,400400)]),(25,[(4,0,50,400100)]),(29,[(4,0,57,400101)]),(31,[(4,0,400100,400000),(4,0,400101,400001)])]
abbrev vQ1:Type:=((List (List A0))×C8×(List (List A0))×Int×Unit)
def sF2 (y:vQ1)(x:Y0):Vm Y0:=
 let d:=y.2.2.1
 let g:=x.1
 let a:=x.2.1
 let b:Bool:=a<y.2.2.2.1
 let e:=len (nth d a [])
 let f:=g+e
 let c:Bool:=f>4096
 (b->A6 a (len d)/\A5 (g+e)/\(!c->A5 (a+1)),b&&(!c),(f,a+1,()),b&&c,!b)
def tR3 y x:=(sF2 y x).1
def Jf y x:=(sF2 y x).2.1
def GD y x:=(sF2 y x).2.2.1
def Pk y x:=(sF2 y x).2.2.2.1
def VA y x:=(sF2 y x).2.2.2.2
def tH7 (y:vQ1)(x:Y0):(List (List A0)):=
 []
def rB1 (y:vQ1)(x:Y0):Int:=
 3
def qG9:List (Nat×Sh):=[(4,Az),(5,vI)]
def qH:List (Nat×Sh):=[(0,Al),(3,Bq)]
def oS1:=li [(0,Al),(3,Bq),(21,Al),(22,vI)] [(7,vI),(23,vI)] Jf GD tR3 (λy x=>[ex 1 (some (Pk y x)) qG9 ((tH7 y x),(rB1 y x),()),ex 2 (some (VA y x)) qH (y.1,y.2.1,())]) [qG9,qH]
abbrev wP:Type:=(C8×Int×(List (List A0))×Int×Int×(List A0)×Int×Unit)
abbrev QE:Type:=(((List (List A0))×Nat)×Int×Unit)
def tH8 (y:wP)(x:QE):Vm QE:=
 let l:=y.1
 let g:=y.2.1
 let j:=(Q1 y).1
 let a:=x.1
 let b:=x.2.1
 let d:Bool:=b<(Q2 y).1
 let e:=nth j b A1
 let f:=C6 e
 let h:=Es l e
 let i:=C6 h
 let k:=List.getD a.1 a.2 []
 let c:=(!f)&&(!i)
 (d->A6 b (len j)/\UT e/\(!f->qP8 l e/\UT h/\(!i->A6 g (len a.1)/\(toNat g=a.2/\g<len a.1)/\A6 b (len k)/\b<len k))/\(c->A5 (b+1)),d&&c,((set a.1 a.2 (set (List.getD a.1 a.2 []) (toNat b) h),a.2),b+1,()),d&&(f||((!f)&&i)),!d)
def Su y x:=(tH8 y x).1
def E3 y x:=(tH8 y x).2.1
def E7 y x:=(tH8 y x).2.2.1
def uC2 y x:=(tH8 y x).2.2.2.1
def QZ y x:=(tH8 y x).2.2.2.2
def uU5 (y:wP)(x:QE):(List (List A0)):=
 []
def Zy (y:wP)(x:QE):Int:=
 (cond (C6 (nth (Q1 y).1 x.2.1 A1)) (2:Int) 2)
def aV:List (Nat×Sh):=[(4,Az),(5,vI)]
def sF4 (y:wP)(x:QE):((List (List A0))×Nat):=
 let a:=x.1
 (a.1,a.2)
def aW:List (Nat×Sh):=[(3,Bq),(10,(.ownh AL 1010 48 true)),(37,Al),(38,vI),(39,vI)]
def pQ1:=li [(3,Bq),(11,vI),(37,Al),(38,vI),(39,vI),(50,Bc),(51,vI)] [(10,(.ownh AL 1010 48 true)),(52,vI)] E3 E7 Su (λy x=>[ex 1 (some (uC2 y x)) aV ((uU5 y x),(Zy y x),()),ex 6 (some (QZ y x)) aW (y.1,(sF4 y x),y.2.2.1,y.2.2.2.1,y.2.2.2.2.1,())]) [aV,aW]
abbrev JZ:Type:=(C8×(List (List A0))×Int×Unit)
def tH9 (y:JZ)(x:QY):Vm QY:=
 let g:=y.2.1
 let j:=y.2.2.1
 let f:=x.1
 let a:=x.2.1
 let e:Bool:=a<j
 let i:=nth g a []
 let d:=len i
 let b:=(y.1,a,g,j,a,i,len i,())
 let k:=((set f (toNat a) (replicate (toNat d) A1),toNat a),(0:Int),())
 let h:=A3 (E3 b) (E7 b) k
 let c:=QZ b h
 (e->A6 a (len g)/\(0<=d/\d<=d/\d<=4294967296)/\A6 a (len f)/\a<len f/\AB (E3 b) (E7 b) (Su b) k/\(c->A5 (a+1)),e&&c,((sF4 b h).1,a+1,()),e&&uC2 b h,!e)
def vA8 y x:=(tH9 y x).1
def GH y x:=(tH9 y x).2.1
def wF y x:=(tH9 y x).2.2.1
def wQ4 y x:=(tH9 y x).2.2.2.1
def pQ2 y x:=(tH9 y x).2.2.2.2
def vF2 (y:JZ)(x:QY):(List (List A0)):=
 let d:=y.2.1
 let a:=x.2.1
 let b:=nth d a []
 let c:=(y.1,a,d,y.2.2.1,a,b,len b,())
 (uU5 c (A3 (E3 c) (E7 c) ((set x.1 (toNat a) (replicate (toNat (len b)) A1),toNat a),0,())))
def vT7 (y:JZ)(x:QY):Int:=
 let d:=y.2.1
 let a:=x.2.1
 let b:=nth d a []
 let c:=(y.1,a,d,y.2.2.1,a,b,len b,())
 (Zy c (A3 (E3 c) (E7 c) ((set x.1 (toNat a) (replicate (toNat (len b)) A1),toNat a),0,())))
def rQ7:List (Nat×Sh):=[(4,Az),(5,vI)]
def ZB (y:JZ)(x:QY):(List (List A0)):=
 x.1
def rQ8:List (Nat×Sh):=[(10,(.own Af 1010 true))]
def pQ3:=li [(3,Bq),(37,Al),(38,vI)] [(10,(.own Af 1010 true)),(39,vI)] GH wF vA8 (λy x=>[ex 1 (some (wQ4 y x)) rQ7 ((vF2 y x),(vT7 y x),()),ex 4 (some (pQ2 y x)) rQ8 ((ZB y x),())]) [rQ7,rQ8]
def lF (l:(List (List A0)))(m:C8):Prop×((List (List A0))×Int×Unit):=
 let h:=CQ m
 let g:=h !=0
 let e:=(l,m,l,len l,())
 let k:=((0:Int),(0:Int),())
 let j:=A3 (Jf e) (GD e) k
 let f:=Pk e j
 let c:=len l
 let a:=(m,l,len l,())
 let i:=(replicate (toNat c) ([]:List A0),(0:Int),())
 let d:=A3 (GH a) (wF a) i
 let b:=wQ4 a d
 (Iu m/\(!g->AB (Jf e) (GD e) (tR3 e) k/\(VA e j->(0<=c/\c<=c/\c<=4294967296)/\AB (GH a) (wF a) (vA8 a) i)),(cond g [] (cond f (tH7 e j) (cond b (vF2 a d) (ZB a d))),cond g h (cond f (rB1 e j) (cond b (vT7 a d) 0)),()))
def qR3 a b:=(lF a b).1
def FX a b:=(lF a b).2
def nF8:=BC Al Bb (.tup (.cons Al (.cons vI .nl))) qR3 FX
theorem lF0:SK 177 (BC Al Bb (.tup (.cons Al (.cons vI .nl))) qR3 FX):=fb Tryz.func177 74 [kb qP2,kb nE5,kb pN4] [(6,oS1),(14,pQ3),(18,pQ1)] [(25,[(4,0,36,1010)]),(54,[(1,10,0,0)]),(57,[(1,4,0,0),(4,0,1010,0)])] false [] [36,48]
def mF (g:AD):Prop×Int:=
 let a:=DM IL (Qk g).1 (Ql g).1 (Qm g).1
 let c:=a.2.1 !=0
 let b:=FX a.1 (Q3 g).1
 let d:=b.2.1 !=0
 let e:=Ei b.1 0
 let f:=e !=0
 (V9/\tZ IL (Qk g).1 (Ql g).1 (Qm g).1/\(!c->qR3 a.1 (Q3 g).1/\(!d->tY1 b.1 0/\(!f->UQ (Q9 g).1))),cond c a.2.1 (cond d b.2.1 (cond f e (H8 (Q9 g).1))))
def qR4 a:=(mF a).1
def f143 a:=(mF a).2
def nF9:=AR Bg vI qR4 f143
def mF0:=Cy [(140,nE2),(174,nE7),(175,nF5),(176,nF7),(177,nF8)] [] [(3,[(4,0,14,1003)])] 38
theorem lF1:SK 143 nF9:=fq (c:=mF0) Tryz.func143 ⟨pN0,pO1,lD8,lE9,lF0,trivial⟩
def oS2 (j k:Int):Prop×Bool:=
 let i:=j==2
 let e:=j==3
 let f:=j==4
 let a:=cond f f (j==11)
 let g:=j==5
 let b:=cond g g (j==9)
 let h:=j==6
 let c:=cond h h (j==7)
 let d:=cond e (cond (cond (k≥4) (decide (k<=16)) false) (Int.tmod k 2==0) false) (cond a (k==2) (cond b (k==3) (cond c (k==1) (k==9))))
 (True,cond (cond i true (cond e true (cond a true (cond b true (cond c true (j==8)))))) (cond i (k==5) d) (k==0))
def pQ4 a b:=(oS2 a b).1
def GF a b:=(oS2 a b).2
theorem lF2:SK 178 (BC vI vI vB pQ4 GF):=fb Tryz.func178 44
def lF3 (k l:Int):Prop×(Int×Int×Unit):=
 let b:=cond (k==2) (l==2) false
 let i:=k==4
 let j:=cond (k==5) (decide (l>0)) false
 let a:=cond i i (cond j j (cond (k==11) (l==1) false))
 let c:=k==5
 let d:=k==7
 let e:=k==8
 let f:=cond b true (cond a true (cond c true (cond d true (cond e true (k==11)))))
 let g:=cond f (cond b 1 (cond a (-65535:Int) (cond c (-32768:Int) (cond d 2 (cond e (-262140:Int) (-128:Int)))))) 0
 let h:=cond f (cond b (256:Int) (cond a 65535 (cond c 32768 (cond d 256 (cond e 262140 128))))) 65535
 (True,(g,h,()))
def pQ5 a b:=(lF3 a b).1
def f219 a b:=(lF3 a b).2
theorem lF4:SK 219 (BC vI vI (.tup (.cons vI (.cons vI .nl))) pQ5 f219):=fb Tryz.func219 40
abbrev Zn:Type:=(Int×(List Int)×(List B4)×(List Int)×Int×Unit)
def uU6 (y:Zn)(x:CW):Vm CW:=
 let g:=y.1
 let d:=y.2.2.2.1
 let a:=x.1
 let b:Bool:=a<y.2.2.2.2.1
 let e:=nth d a 0
 let f:=f219 g a
 let c:=cond (e<f.1) true (e>f.2.1)
 (b->A6 a (len d)/\pQ5 g a/\(!c->A5 (a+1)),b&&(!c),(a+1,()),b&&c,!b)
def qH0 y x:=(uU6 y x).1
def vF4 y x:=(uU6 y x).2.1
def EP y x:=(uU6 y x).2.2.1
def VV y x:=(uU6 y x).2.2.2.1
def Wj y x:=(uU6 y x).2.2.2.2
def rB2 (y:Zn)(x:CW):Bool:=
 false
def qH1:List (Nat×Sh):=[(0,vI),(1,Ao),(2,Aq)]
def oS3:=li [(0,vI),(1,Ao),(2,Aq),(13,Ao),(14,vI)] [(15,vI)] vF4 EP qH0 (λy x=>[ex 1 (some (VV y x)) [(6,vB)] ((rB2 y x),()),ex 2 (some (Wj y x)) qH1 (y.1,y.2.1,y.2.2.1,())]) [[(6,vB)],qH1]
abbrev RB:Type:=((List B4)×Int×Unit)
def Zr (y:RB)(x:CW):Vm CW:=
 let e:=y.1
 let a:=x.1
 let b:Bool:=a<y.2.1
 let c:=nth e a BZ
 let f:=cond (c.1<0) true (c.1>65535)
 let d:=cond f true (!(GB c.2.1))
 (b->A6 a (len e)/\(!f->tE9 c.2.1)/\(!d->A5 (a+1)),b&&(!d),(a+1,()),b&&d,!b)
def uU7 y x:=(Zr y x).1
def VT y x:=(Zr y x).2.1
def FZ y x:=(Zr y x).2.2.1
def uC5 y x:=(Zr y x).2.2.2.1
def pQ6 y x:=(Zr y x).2.2.2.2
def sF6 (y:RB)(x:CW):Bool:=
 false
def pQ7:=li [(55,Aq),(56,vI)] [(57,vI)] VT FZ uU7 (λy x=>[ex 1 (some (uC5 y x)) [(6,vB)] ((sF6 y x),()),ex 4 (some (pQ6 y x)) [] ()]) [[(6,vB)],[]]
def kF (k:Int)(l:List Int)(m:List B4):Prop×Bool:=
 let b:=(k,l,m,l,len l,())
 let j:=((0:Int),())
 let i:=A3 (vF4 b) (EP b) j
 let d:=k==9
 let e:=cond d (nth l 0 0==0) false
 let f:=cond e (nth l 1 0==0) false
 let g:=cond f (nth l 2 0==0) false
 let a:=(m,len m,())
 let h:=((0:Int),())
 let c:=A3 (VT a) (FZ a) h
 (AB (vF4 b) (EP b) (qH0 b) j/\(Wj b i->(d->A6 0 (len l))/\(e->A6 1 (len l))/\(f->A6 2 (len l))/\(!g->AB (VT a) (FZ a) (uU7 a) h)),cond (VV b i) (rB2 b i) (cond g false (cond (uC5 a c) (sF6 a c) true)))
def pQ8 a b c:=(kF a b c).1
def MH a b c:=(kF a b c).2
theorem lF5:SK 179 (DZ vI Ao Aq vB pQ8 MH):=fb Tryz.func179 76 [kb qP4,kb lF4] [(2,oS3),(11,pQ7)]
abbrev Zz:Type:=((List Int)×(List B4)×Unit)
def uU8 (y:Zz)(x:CW):Vm CW:=
 let d:=y.1
 let b:=x.1
 let a:Bool:=b<len d
 let e:=b-2
 let c:Bool:=nth d b 0<=nth d e 0
 (a->A6 b (len d)/\A5 (b-2)/\A6 e (len d)/\(!c->A5 (b+2)),a&&(!c),(b+2,()),a&&c,!a)
def sR6 y x:=(uU8 y x).1
def ZC y x:=(uU8 y x).2.1
def VX y x:=(uU8 y x).2.2.1
def uQ y x:=(uU8 y x).2.2.2.1
def qH2 y x:=(uU8 y x).2.2.2.2
def rB3 (y:Zz)(x:CW):Bool:=
 false
def oS4:=li [(1,Ao),(2,Aq)] [(7,vI)] ZC VX sR6 (λy x=>[ex 1 (some (uQ y x)) [(6,vB)] ((rB3 y x),()),ex 2 (some (qH2 y x)) [(2,Aq)] (y.2.1,())]) [[(6,vB)],[(2,Aq)]]
abbrev RI:Type:=((List B4)×Unit)
def tI (y:RI)(x:CW):Vm CW:=
 let d:=y.1
 let b:=x.1
 let a:Bool:=b<len d
 let e:=b-1
 let c:Bool:=(nth d b BZ).1<=(nth d e BZ).1
 (a->A6 b (len d)/\A5 (b-1)/\A6 e (len d)/\(!c->A5 (b+1)),a&&(!c),(b+1,()),a&&c,!a)
def tZ0 y x:=(tI y x).1
def IZ y x:=(tI y x).2.1
def wQ6 y x:=(tI y x).2.2.1
def ZG y x:=(tI y x).2.2.2.1
def pQ9 y x:=(tI y x).2.2.2.2
def ZF (y:RI)(x:CW):Bool:=
 false
def pR:=li [(2,Aq)] [(8,vI)] IZ wQ6 tZ0 (λy x=>[ex 1 (some (ZG y x)) [(6,vB)] ((ZF y x),()),ex 4 (some (pQ9 y x)) [] ()]) [[(6,vB)],[]]
def kF0 (j:Int)(k:List Int)(l:List B4):Prop×Bool:=
 let d:=j==2
 let f:=cond d (decide (nth k 1 0<=nth k 0 0)) false
 let b:=j==3
 let c:=(k,l,())
 let i:=((2:Int),())
 let h:=A3 (ZC c) (VX c) i
 let a:=(cond b l l,())
 let g:=((1:Int),())
 let e:=A3 (IZ a) (wQ6 a) g
 ((d->A6 1 (len k))/\(d->A6 0 (len k))/\(!f->(b->AB (ZC c) (VX c) (sR6 c) i)/\((cond b (qH2 c h) true)=true->AB (IZ a) (wQ6 a) (tZ0 a) g)),cond f false (cond (uQ c h&&b) (rB3 c h) (cond (ZG a e) (ZF a e) true)))
def pR0 a b c:=(kF0 a b c).1
def MI a b c:=(kF0 a b c).2
theorem lF6:SK 180 (DZ vI Ao Aq vB pR0 MI):=fb Tryz.func180 56 [] [(5,oS4),(10,pR)]
def nG (g:Int)(h:List Int)(i:List B4):Prop×Int:=
 let a:=cond (g<1) true (g>11)
 let f:=len h
 let b:=cond (!(GF g f)) true (!(Ty.eqb .bool (decide (len i>0)) (g==10)))
 let c:Bool:=len i>16
 let d:=!(MH g h i)
 let e:=cond (cond a true (cond b true (cond c true (cond d true (!(MI g h i)))))) (cond a (8:Int) (cond b 1 (cond c 3 (cond d 2 24)))) 0
 (a=false->pQ4 g f/\(b=false->c=false->pQ8 g h i/\(d=false->pR0 g h i)),e)
def pR1 a b c:=(nG a b c).1
def HD a b c:=(nG a b c).2
theorem lF7:SK 144 (DZ vI Ao Aq vI pR1 HD):=fb Tryz.func144 44 [kb lF2,kb lF5,kb lF6]
def kF1 (j:Int):Prop×(List A0):=
 let h:=j==1
 let i:=j==7
 let a:=cond h h (cond i i (j==8))
 let d:=j==2
 let e:=j==4
 let f:=j==3
 let g:=j==9
 let b:=cond f ([((0:Int),(16:Int),()),((0:Int),(262140:Int),())]:List A0) (cond g ([((-16:Int),(16:Int),()),((-16:Int),(16:Int),())]:List A0) ([((1:Int),(16:Int),())]:List A0))
 let c:=cond (cond a true (cond d true (cond e true (cond f true (cond g true (j==10)))))) (cond a ([((0:Int),(16:Int),())]:List A0) (cond d ([((0:Int),(7:Int),())]:List A0) (cond e ([((0:Int),(4:Int),())]:List A0) b))) []
 (True,c)
def pR2 a:=(kF1 a).1
def DC a:=(kF1 a).2
theorem lF8:SK 181 (AR vI Ca pR2 DC):=fb Tryz.func181 32 [] [] [(11,[(4,0,9,0)]),(15,[(4,0,13,0)]),(19,[(4,0,17,0)]),(23,[(4,0,22,0)]),(27,[(4,0,27,0)]),(31,[(4,0,31,0)])]
abbrev ZJ:Type:=((List A0)×(List Int)×Int×Unit)
def sF8 (y:ZJ)(x:CW):Vm CW:=
 let g:=y.1
 let d:=y.2.1
 let a:=x.1
 let b:Bool:=a<y.2.2.1
 let e:=nth d a 0
 let f:Bool:=e<(nth g a A1).1
 let c:=cond f true (e>(nth g a A1).2.1)
 (b->A6 a (len d)/\A6 a (len g)/\(!f->A6 a (len g))/\(!c->A5 (a+1)),b&&(!c),(a+1,()),b&&c,!b)
def qH3 y x:=(sF8 y x).1
def wS y x:=(sF8 y x).2.1
def JT y x:=(sF8 y x).2.2.1
def Mg y x:=(sF8 y x).2.2.2.1
def oS5 y x:=(sF8 y x).2.2.2.2
def rB4 (y:ZJ)(x:CW):Int:=
 2
def oS6:=li [(5,Br),(21,Ao),(22,vI)] [(23,vI)] wS JT qH3 (λy x=>[ex 1 (some (Mg y x)) [(4,vI)] ((rB4 y x),()),ex 2 (some (oS5 y x)) [] ()]) [[(4,vI)],[]]
def lF9 (g:Int)(h:List Int):Prop×Int:=
 let b:=cond (g<1) true (g>10)
 let c:=DC g
 let d:=len h !=len c
 let a:=(c,h,len h,())
 let f:=((0:Int),())
 let e:=A3 (wS a) (JT a) f
 (!b->pR2 g/\(!d->AB (wS a) (JT a) (qH3 a) f),cond b 8 (cond d 1 (cond (Mg a e) (rB4 a e) 0)))
def pR3 a b:=(lF9 a b).1
def EU a b:=(lF9 a b).2
theorem lG:SK 145 (BC vI Ao vI pR3 EU):=fb Tryz.func145 45 [kb lF8] [(7,oS6)] [(7,[(4,0,15,1005)])]
def ZI (y:Zj)(x:CW):Vm CW:=
 let e:=y.1
 let a:=x.1
 let b:Bool:=a<y.2.1
 let c:=nth e a A1
 let d:=cond (cond (cond (c.1<(-1048576)) true (c.1>1048576)) true (c.2.1<(-1048576))) true (c.2.1>1048576)
 (b->A6 a (len e)/\(!d->A5 (a+1)),b&&(!d),(a+1,()),b&&d,!b)
def sR7 y x:=(ZI y x).1
def sG y x:=(ZI y x).2.1
def Pl y x:=(ZI y x).2.2.1
def qH4 y x:=(ZI y x).2.2.2.1
def oS7 y x:=(ZI y x).2.2.2.2
def rB5 (y:Zj)(x:CW):Int:=
 2
def oS8:=li [(43,Bc),(44,vI)] [(45,vI)] sG Pl sR7 (λy x=>[ex 1 (some (qH4 y x)) [(2,vI)] ((rB5 y x),()),ex 2 (some (oS7 y x)) [] ()]) [[(2,vI)],[]]
def kF2 (g:Hw):Prop×Int:=
 let b:=cond (cond (cond (g.1<2) true (g.1>8)) true (g.2.1<2)) true (g.2.1>8)
 let c:=cond (g.2.2.1<1) true (g.2.2.1>256)
 let d:=cond c true (len g.2.2.2.1!=(g.1*g.2.1))
 let a:=(g.2.2.2.1,len g.2.2.2.1,())
 let f:=((0:Int),())
 let e:=A3 (sG a) (Pl a) f
 (!b->(!c->A5 (g.1*g.2.1))/\(!d->AB (sG a) (Pl a) (sR7 a) f),cond b 15 (cond d 15 (cond (qH4 a e) (rB5 a e) 0)))
def qR5 a:=(kF2 a).1
def MJ a:=(kF2 a).2
theorem lG0:SK 146 (AR De vI qR5 MJ):=fb Tryz.func146 68 [] [(6,oS8)]
def lG1 (o:AD):Prop×Int:=
 let m:=o.2.1==2
 let a:=o.2.1==3
 let b:=o.2.1==4
 let c:=o.2.1==5
 let d:=o.2.1==6
 let e:=o.2.1==7
 let f:=o.2.1==8
 let k:=o.2.1==9
 let g:=cond k k (o.2.1==10)
 let l:=o.2.1==11
 let n:=cond f true (cond g (cond ((Qj o).1<1) true ((Qj o).1>1073741824)) l)
 let h:=cond e (HD (Qc o).1 (Qa o).1 (Qb o).1) (cond f (EU (Qc o).1 (Qa o).1) (cond g 2 (MJ (Qe o).1)))
 let i:=cond b (M0 (Qc o).1 (Qa o).1 (Qf o).1 (Qb o).1) (cond c (KI o) (cond d (f143 o) h))
 let j:=cond (cond m true (cond a true (cond b true (cond c true (cond d true (cond e true n)))))) (cond m (LG (Q6 o).1) (cond a (H8 (Q9 o).1) i)) 0
 ((m->rN3 (Q6 o).1)/\(m=false->(a->UQ (Q9 o).1)/\(a=false->(b->pN3 (Qc o).1 (Qa o).1 (Qf o).1 (Qb o).1)/\(b=false->(c->pP1 o)/\(c=false->(d->qR4 o)/\(d=false->(e->pR1 (Qc o).1 (Qa o).1 (Qb o).1)/\(e=false->(f->pR3 (Qc o).1 (Qa o).1)/\(f=false->g=false->l->qR5 (Qe o).1))))))),j)
def pR4 a:=(lG1 a).1
def IQ a:=(lG1 a).2
theorem lG2:SK 113 (AR Bg vI pR4 IQ):=fb Tryz.func113 66 [kb mQ3,kb pN0,kb mZ7,kb lD,kb lF1,kb lF7,kb lG,kb lG0]
def lG3 (h:AD):Prop×Bool:=
 let c:=cond (cond (!(Ty.eqb He (Q3 h).1 (0,0,0,0,0,0,()))) true ((Q7 h).1 !=0)) true (!(Ty.eqb CC (Q9 h).1 (0,0,0,0,())))
 let d:=cond (cond (cond ((Qc h).1 !=0) true (len (Qa h).1!=0)) true ((Qf h).1 !=0)) true (len (Qb h).1!=0)
 let e:=cond (cond (cond (len (Q8 h).1!=0) true ((Qi h).1 !=0)) true ((Qd h).1 !=0)) true ((Qg h).1 !=0)
 let f:=cond (cond (!((Qk h).1==[])) true ((Ql h).1 !=0)) true ((Qm h).1 !=0)
 let b:=cond (cond ((Qe h).1.1==0) ((Qe h).1.2.1==0) false) ((Qe h).1.2.2.1==0) false
 let g:=cond (cond f true ((Qj h).1 !=0)) false (cond b (len (Qe h).1.2.2.2.1==0) false)
 let a:=cond (cond (cond ((Q6 h).1.1 !=0) true ((Q6 h).1.2.1 !=0)) true (len (Q6 h).1.2.2.1!=0)) false (cond d false (cond (cond e true ((Qh h).1 !=0)) false g))
 (True,cond c false a)
def pR5 a:=(lG3 a).1
def KK a:=(lG3 a).2
theorem lG4:SK 114 (AR Bg vB pR5 KK):=fb Tryz.func114 120
def kF3 (p:AD):Prop×AD:=
 let l:=(Vc p (0,0,0,0,0,0,()) (Q7 p))
 let b:=cond (G8 p.2.1) l p
 let m:=(Ve b 0 (Q6 b))
 let a:=cond (GA b.2.1) m b
 let n:=(Vf a (0,0,[],()) (Q9 a))
 let o:=(Vg a (0,0,0,0,()) (Qc a))
 let d:=(Vh a 0 ([],0,[],(Q8 a)))
 let e:=(Vg a (0,0,0,0,()) ((Qc a).1,(Qa a).1,(Qf a).1,(Qb a).1,[],0,0,0,0,(Qk a)))
 let f:=(Vg a (0,0,0,0,()) ((Qc a).1,(Qa a).1,(Qf a).1,(Qb a).1,(Q8 a).1,(Qi a).1,(Qd a).1,(Qg a).1,(Qh a).1,[],0,0,(Qj a)))
 let g:=(Vh a 0 ([],(Qf a).1,[],(Q8 a)))
 let h:=(Vh a 0 ([],(Qf a)))
 let k:=a.2.1==9
 let i:=(Vi a 0 ((Qe a).1,()))
 let j:=(Vj a (0,0,0,[],()) ())
 let c:=cond (a.2.1==6) f (cond (a.2.1==7) g (cond (a.2.1==8) h (cond (cond k k (a.2.1==10)) i (cond (a.2.1==11) j a))))
 (qP0 p.2.1/\qP3 b.2.1,cond (a.2.1==2) n (cond (a.2.1==3) o (cond (a.2.1==4) d (cond (a.2.1==5) e c))))
def qR6 a:=(kF3 a).1
def IS a:=(kF3 a).2
theorem lG5:SK 115 (AR Bg Bg qR6 IS):=fb Tryz.func115 62 [kb nD5,kb nE]
def YR (n:AD)(o p:Int):Prop×Int:=
 let d:=Fz n o p
 let e:=d !=0
 let b:=G8 n.2.1
 let f:=CQ (Q3 n).1
 let a:=f !=0
 let g:=IE (Q3 n).1
 let h:=g.2.1 !=0
 let i:=GA n.2.1
 let j:=cond i (!(Mz (Q7 n).1)) false
 let k:=IQ n
 let l:=k !=0
 let m:=IS n
 let c:=cond e d (cond ((a||((!a)&&h))&&b) (cond a f g.2.1) (cond j 8 (cond l k (cond (!(KK m)) 1 0))))
 (pM7 n o p/\(!e->qP0 n.2.1/\(b->Iu (Q3 n).1/\(!a->pM9 (Q3 n).1))/\((cond b ((!a)&&(!h)) true)=true->qP3 n.2.1/\(i->pN (Q7 n).1)/\(!j->pR4 n/\(!l->qR6 n/\pR5 m)))),c)
def pC4 a b c:=(YR a b c).1
def Hf a b c:=(YR a b c).2
theorem kF4:SK 71 (DZ Bg vI vI vI pC4 Hf):=fb Tryz.func71 55 [kb mY,kb nD5,kb qP2,kb mY4,kb nE,kb mY6,kb lG2,kb lG4,kb lG5]
abbrev Ib:Type:=((List (Int×Int×Unit))×Int×AS×Unit)
def vY (y:Ib)(x:CW):Vm CW:=
 let f:=y.2.1
 let d:=y.2.2.1
 let e:=x.1
 let a:=e !=0
 let b:=e==(nth d.2.2.2.1 f A9).2.2.1
 let c:=getD (FE Ab Ab e y.1) 0
 (a->A6 f (len d.2.2.2.1)/\(!b->A6 c (len d.2.2.2.1)),a&&(!b),((nth d.2.2.2.1 c A9).2.2.1,()),a&&b,!a)
def Pm y x:=(vY y x).1
def vK9 y x:=(vY y x).2.1
def LQ y x:=(vY y x).2.2.1
def uL2 y x:=(vY y x).2.2.2.1
def pC5 y x:=(vY y x).2.2.2.2
def tW0 (y:Ib)(x:CW):Bool:=
 true
def rB6:List (Nat×Sh):=[(1,Cc),(6,vB)]
def rB7:List (Nat×Sh):=[(1,Cc)]
def pC6:=li [(1,Cc),(2,vI),(3,Ag)] [(7,vI)] vK9 LQ Pm (λy x=>[ex 1 (some (uL2 y x)) rB6 (y.1,(tW0 y x),()),ex 2 (some (pC5 y x)) rB7 (y.1,())]) [rB6,rB7]
def bH (f:AS)(g:(List (Int×Int×Unit)))(h:Int):Vn ((List (Int×Int×Unit))×Unit):=
 let c:=h-1
 let b:=(g,h,f,())
 let e:=((nth f.2.2.2.1 c A9).1,())
 let d:=A3 (vK9 b) (LQ b) e
 let a:=uL2 b d
 (A5 (h-1)/\A6 c (len f.2.2.2.1)/\AB (vK9 b) (LQ b) (Pm b) e,cond a (tW0 b d) false,(cond a g g,()))
def tI0 a b c:=(bH a b c).1
def ZL a b c:=(bH a b c).2.1
def tR5 a b c:=(bH a b c).2.2
theorem nG0:SK 72 (fnSpec [(0,Ar),(1,Cc),(2,vI)] vB [(1,Cc)] (λx=>tI0 x.1 x.2.1 x.2.2.1) (λx=>ZL x.1 x.2.1 x.2.2.1) (λx=>tR5 x.1 x.2.1 x.2.2.1)):=fx (λc=>{ c with maps:=maps }) Tryz.func72 33 [] [(2,pC6)] [] false [1]
abbrev uU9:Type:=(AS×(List AD)×Int×Unit)
abbrev vF8:Type:=((List (Int×Int×Unit))×(List Int)×Int×Unit)
def sR8 (y:uU9)(x:vF8):Vm vF8:=
 let g:=y.1
 let q:=y.2.1
 let d:=x.1
 let v:=x.2.1
 let a:=x.2.2.1
 let h:Bool:=a<y.2.2.1
 let c:=nth q a A9
 let i:=Hf c g.1 g.2.1!=0
 let j:=cond (c.1<1) true (c.1≥g.2.2.2.2.1)
 let k:=isSome (FE Ab Ab c.1 d)
 let b:=set v (toNat a) 1
 let e:=c.2.2.1 !=0
 let f:=getD (FE Ab Ab c.2.2.1 d) 0
 let r:=!(isSome (FE Ab Ab c.2.2.1 d))
 let l:=cond r true ((nth g.2.2.2.1 f A9).2.1 !=1)
 let o:=!(ZL g d a)
 let s:=nth b f 0
 let n:=cond e ((!l)&&(!o)) true
 let u:=cond e (set b (toNat a) (s+1)) b
 let t:Bool:=nth u a 0>8
 let m:=(!i)&&((!j)&&((!k)&&(n&&(!t))))
 (h->A6 a (len q)/\pC4 c g.1 g.2.1/\(!i->!j->!k->A6 a (len v)/\a<len v/\(e->(!r->A6 f (len g.2.2.2.1))/\(!l->tI0 g d a/\0<length d/\length d=length d/\length d=length d/\length d=length d/\length d=length d/\(!o->A6 f (len b)/\f<len b/\A5 (s+1)/\A6 a (len b)/\a<len b)))/\(n->A6 a (len u)/\a<len u))/\(m->A5 (a+1)),h&&m,(Jx Ab Ab c.1 a (cond e (tR5 g d a).1 d),u,a+1,()),h&&(i||((!i)&&(j||((!j)&&(k||((!k)&&(((l||((!l)&&o))&&e)||(n&&t)))))))),!h)
def uQ0 y x:=(sR8 y x).1
def IG y x:=(sR8 y x).2.1
def EV y x:=(sR8 y x).2.2.1
def uQ1 y x:=(sR8 y x).2.2.2.1
def nG1 y x:=(sR8 y x).2.2.2.2
def vL (y:uU9)(x:vF8):Int:=
 let c:=y.1
 let g:=x.1
 let d:=x.2.2.1
 let a:=nth y.2.1 d A9
 let f:=Hf a c.1 c.2.1
 let b:=cond (!(isSome (FE Ab Ab a.2.2.1 g))) true ((nth c.2.2.2.1 (getD (FE Ab Ab a.2.2.1 g) 0) A9).2.1 !=1)
 let e:=cond (isSome (FE Ab Ab a.1 g)) (10:Int) (cond ((b||((!b)&&(!(ZL c g d))))&&(a.2.2.1 !=0)) (cond b 9 24) 12)
 (cond (f !=0) f (cond (cond (a.1<1) true (a.1≥c.2.2.2.2.1)) 2 e))
def aM:=li [(1,Ag),(18,An),(19,vI)] [(3,(.own (xH Ab Ab) 1003 true)),(4,(.own Ab 1004 true)),(20,vI)] IG EV uQ0 (λy x=>[ex 1 (some (uQ1 y x)) [(2,vI)] ((vL y x),()),ex 2 (some (nG1 y x)) [] ()]) [[(2,vI)],[]]
def Ra (e:AS):Prop×Int:=
 let a:=len e.2.2.2.1
 let b:=(e,e.2.2.2.1,len e.2.2.2.1,())
 let d:=(([]:List (Int×Int×Unit)),replicate (toNat a) (0:Int),(0:Int),())
 let c:=A3 (IG b) (EV b) d
 ((0<=a/\a<=a/\a<=4294967296)/\AB (IG b) (EV b) (uQ0 b) d,cond (uQ1 b c) (vL b c) 0)
def pC7 a:=(Ra a).1
def U0 a:=(Ra a).2
theorem kF5:SK 42 (AR Ar vI pC7 U0):=fx (λc=>{ c with wants:=[(72,[1])],maps:=maps }) Tryz.func42 99 [kb kF4,kb nG0] [(4,aM)] [(3,[(4,0,12,1003)]),(5,[(4,0,16,1004)])] false [] [16]
abbrev Wn:Type:=(AS×AD×(List AD)×Int×Int×Unit)
def rR (y:Wn)(x:CW):Vn CW:=
 let e:=y.1
 let a:=x.1
 let b:Bool:=a≥0
 let c:=(nth e.2.2.2.1 a A9).2.2.1 !=y.2.1.2.2.1
 let d:=cond b (cond c true (Q2 (nth e.2.2.2.1 a A9)).1) false
 ((b->A6 a (len e.2.2.2.1))/\((b&&(!c))->A6 a (len e.2.2.2.1))/\(d->A5 (a-1)),d,(a-1,()))
def uQ2 y x:=(rR y x).1
def Fh y x:=(rR y x).2.1
def Gt y x:=(rR y x).2.2
def tZ1 (y:Wn)(x:CW):Int:=
 x.1
def pC8:List (Nat×Sh):=[(1,Ag),(5,vI),(7,An),(8,vI),(9,vI)]
def nG3:=li [(1,Ag),(4,(.box DG Bg)),(7,An),(8,vI),(9,vI)] [(5,vI)] Fh Gt uQ2 (λy x=>[ex 4 none pC8 (y.1,(tZ1 y x),y.2.2.1,y.2.2.2.1,y.2.2.2.2.1,())]) [pC8]
abbrev vT8:Type:=(AS×(List AD)×Int×Int×Unit)
def tI1 (y:Pe)(x:vT8):Vm vT8:=
 let g:=x.1
 let h:=x.2.1
 let m:=x.2.2.1
 let e:=x.2.2.2.1
 let c:Bool:=e<m
 let j:=nth h e A9
 let b:=!(Q2 j).1
 let f:=(g,j,h,m,e,())
 let o:=(e-1,())
 let a:=tZ1 f (A3 (Fh f) (Gt f) o)
 let d:Bool:=a<0
 let k:=nth g.2.2.2.1 a A9
 let l:=JH k
 let i:=b||((!b)&&((!d)&&(!l)))
 let n:=cond b e e
 (c->A6 e (len h)/\(!b->A5 (e-1)/\AB (Fh f) (Gt f) (uQ2 f) o/\(!d->A6 a (len g.2.2.2.1)/\rN k))/\(i->A5 (n+1)),c&&i,(cond b g g,cond b h h,cond b m m,n+1,()),c&&((!b)&&(d||((!d)&&l))),!c)
def ZT y x:=(tI1 y x).1
def vF9 y x:=(tI1 y x).2.1
def Fa y x:=(tI1 y x).2.2.1
def bF y x:=(tI1 y x).2.2.2.1
def nG4 y x:=(tI1 y x).2.2.2.2
def ZV (y:Pe)(x:vT8):Int:=
 let c:=x.2.1
 let a:=x.2.2.2.1
 let b:=(x.1,nth c a A9,c,x.2.2.1,a,())
 (cond (tZ1 b (A3 (Fh b) (Gt b) (a-1,()))<0) (14:Int) 8)
def aN:=li [] [(1,Ag),(7,An),(8,vI),(9,vI)] vF9 Fa ZT (λy x=>[ex 1 (some (bF y x)) [(2,vI)] ((ZV y x),()),ex 2 (some (nG4 y x)) [] ()]) [[(2,vI)],[]]
def Rb (c:AS):Prop×Int:=
 let b:=(c,c.2.2.2.1,len c.2.2.2.1,(0:Int),())
 let a:=A3 (vF9 ()) (Fa ()) b
 (AB (vF9 ()) (Fa ()) (ZT ()) b,cond (bF () a) (ZV () a) 0)
def pC9 a:=(Rb a).1
def Za a:=(Rb a).2
theorem kF6:SK 43 (AR Ar vI pC9 Za):=fb Tryz.func43 51 [kb nD4] [(2,aN),(6,nG3)]
def VE (y:uA)(x:CW):Vm CW:=
 let e:=y.1
 let a:=x.1
 let b:Bool:=a<y.2.1
 let d:Bool:=BU e a<33
 let c:=cond d true (BU e a>126)
 (b->A6 a (len e)/\(!d->A6 a (len e))/\(!c->A5 (a+1)),b&&(!c),(a+1,()),b&&c,!b)
def Vk y x:=(VE y x).1
def qR7 y x:=(VE y x).2.1
def tZ2 y x:=(VE y x).2.2.1
def pD y x:=(VE y x).2.2.2.1
def nG6 y x:=(VE y x).2.2.2.2
def rR0 (y:uA)(x:CW):Bool:=
 false
def nG7:=li [(0,vS),(13,vI)] [(14,vI)] qR7 tZ2 Vk (λy x=>[ex 1 (some (pD y x)) [(2,vB)] ((rR0 y x),()),ex 2 (some (nG6 y x)) [] ()]) [[(2,vB)],[]]
def Rd (e:List UInt8):Prop×Bool:=
 let b:=cond (len e<1) true (len e>32)
 let a:=(e,len e,())
 let d:=((0:Int),())
 let c:=A3 (qR7 a) (tZ2 a) d
 (!b->AB (qR7 a) (tZ2 a) (Vk a) d,cond b false (cond (pD a c) (rR0 a c) true))
def eB a:=(Rd a).1
def Re a:=(Rd a).2
theorem kF7:SK 74 (AR vS vB eB Re):=fb Tryz.func74 28 [] [(4,nG7)]
abbrev uL3:Type:=(AS×AQ×(List AQ)×Int×Int×(List AQ)×Int×Unit)
def sS (y:uL3)(x:CW):Vm CW:=
 let f:=y.2.1
 let d:=(Q1 y).1
 let a:=x.1
 let b:Bool:=a<(Q2 y).1
 let e:=nth d a CE
 let c:=cond (e.1==f.1) true (e.2.1==f.2.1)
 (b->A6 a (len d)/\(!c->A5 (a+1)),b&&(!c),(a+1,()),b&&c,!b)
def MR y x:=(sS y x).1
def MT y x:=(sS y x).2.1
def ZZ y x:=(sS y x).2.2.1
def tI3 y x:=(sS y x).2.2.2.1
def MU y x:=(sS y x).2.2.2.2
def rR1 (y:uL3)(x:CW):Int:=
 10
def pD1:List (Nat×Sh):=[(1,Ag),(4,Ch),(9,At),(10,vI),(11,vI)]
def nG8:=li [(1,Ag),(4,Ch),(9,At),(10,vI),(11,vI),(53,At),(54,vI)] [(55,vI)] MT ZZ MR (λy x=>[ex 1 (some (tI3 y x)) [(2,vI)] ((rR1 y x),()),ex 4 (some (MU y x)) pD1 (y.1,y.2.1,y.2.2.1,y.2.2.2.1,y.2.2.2.2.1,())]) [[(2,vI)],pD1]
abbrev uV2:Type:=(AS×(List AQ)×Int×Unit)
def VF (y:uV2)(x:CW):Vm CW:=
 let l:=y.1
 let m:=y.2.1
 let h:=y.2.2.1
 let b:=x.1
 let d:Bool:=b<h
 let a:=nth m b CE
 let e:=!(Re a.2.1)
 let n:=cond (cond (cond (cond (a.1<1) true (a.1≥l.2.2.2.2.1)) true (a.2.2.1<0)) true (a.2.2.1>2)) true (a.2.2.2.1<1)
 let f:=cond n true (a.2.2.2.1>1073741824)
 let j:=take (toNat b) (Q0 l).1
 let g:=(l,a,m,h,b,j,len j,())
 let q:=((0:Int),())
 let o:=A3 (MT g) (ZZ g) q
 let c:=MU g o
 let k:=LG a.2.2.2.2.1!=0
 let i:=(!e)&&((!f)&&(c&&(!k)))
 (d->A6 b (len m)/\eB a.2.1/\(!e->!f->(0<=b/\b<=len (Q0 l).1)/\AB (MT g) (ZZ g) (MR g) q/\(c->rN3 a.2.2.2.2.1))/\(i->A5 (b+1)),d&&i,(b+1,()),d&&(e||((!e)&&(f||((!f)&&(tI3 g o||(c&&k)))))),!d)
def bJ y x:=(VF y x).1
def uL4 y x:=(VF y x).2.1
def vL0 y x:=(VF y x).2.2.1
def sG5 y x:=(VF y x).2.2.2.1
def nG9 y x:=(VF y x).2.2.2.2
def RN (y:uV2)(x:CW):Int:=
 let f:=y.1
 let h:=y.2.1
 let b:=x.1
 let a:=nth h b CE
 let g:=cond (cond (cond (cond (a.1<1) true (a.1≥f.2.2.2.2.1)) true (a.2.2.1<0)) true (a.2.2.1>2)) true (a.2.2.2.1<1)
 let d:=take (toNat b) (Q0 f).1
 let e:=(f,a,h,y.2.2.1,b,d,len d,())
 let i:=A3 (MT e) (ZZ e) (0,())
 let c:=cond (!(Re a.2.1)) 13 (cond (cond g true (a.2.2.2.1>1073741824)) 2 (cond (tI3 e i) (rR1 e i) (LG a.2.2.2.2.1)))
 c
def nH:=li [(1,Ag),(9,At),(10,vI)] [(11,vI)] uL4 vL0 bJ (λy x=>[ex 1 (some (sG5 y x)) [(2,vI)] ((RN y x),()),ex 2 (some (nG9 y x)) [] ()]) [[(2,vI)],[]]
def Rf (d:AS):Prop×Int:=
 let a:=(d,(Q0 d).1,len (Q0 d).1,())
 let c:=((0:Int),())
 let b:=A3 (uL4 a) (vL0 a) c
 (AB (uL4 a) (vL0 a) (bJ a) c,cond (sG5 a b) (RN a b) 0)
def pD2 a:=(Rf a).1
def Zi a:=(Rf a).2
theorem kF8:SK 44 (AR Ar vI pD2 Zi):=fb Tryz.func44 79 [kb kF7,kb mQ3] [(2,nH),(9,nG8)]
def qR8 (a:AD)(b:Int):Prop×Bool:=
 (True,a.1==b)
def tR7 a b:=(qR8 a b).1
def nH0 a b:=(qR8 a b).2
instance (a b):Decidable (tR7 a b):=by unfold tR7 qR8;dsimp only;infer_instance
theorem oS9:SK 120 (BC Bg Ef vB tR7 nH0):=fb Tryz.func120 8
abbrev RE:Type:=((List AD)×(Int×Unit)×Int×Unit)
def vL1 (y:RE)(x:CW):Vm CW:=
 let e:=y.1
 let f:=y.2.1
 let b:=x.1
 let d:Bool:=b<y.2.2.1
 let c:=nth e b A9
 let a:=nH0 c f.1
 (d->A6 b (len e)/\tR7 c f.1/\(!a->A5 (b+1)),d&&(!a),(b+1,()),d&&a,!d)
def VK y x:=(vL1 y x).1
def ES y x:=(vL1 y x).2.1
def Iw y x:=(vL1 y x).2.2.1
def wX y x:=(vL1 y x).2.2.2.1
def qR9 y x:=(vL1 y x).2.2.2.2
instance (y x):Decidable (VK y x):=by unfold VK vL1;dsimp only;infer_instance
def RG (y:RE)(x:CW):Int:=
 x.1
def qS:=li [(0,An),(1,(.fn 120 (.cons Ef .nl))),(7,vI)] [(8,vI)] ES Iw VK (λy x=>[ex 1 (some (wX y x)) [(4,vI)] ((RG y x),()),ex 2 (some (qR9 y x)) [] ()]) [[(4,vI)],[]]
def qS0 (d:List AD)(e:(Int×Unit)):Prop×Int:=
 let a:=(d,(e.1,()),len d,())
 let c:=((0:Int),())
 let b:=A3 (ES a) (Iw a) c
 (AB (ES a) (Iw a) (VK a) c,cond (wX a b) (RG a b) (-1:Int))
def Ws a b:=(qS0 a b).1
def nH1 a b:=(qS0 a b).2
instance (a b):Decidable (Ws a b):=by unfold Ws qS0;dsimp only;infer_instance
theorem oT:SK 119 (BC An (.fn 120 (.cons Ef .nl)) vI Ws nH1):=fb Tryz.func119 19 [kb oS9] [(2,qS)]
def Rh (a:AS)(b:Int):Prop×Int:=
 let s:=(b,())
 (Ws a.2.2.2.1 s,nH1 a.2.2.2.1 s)
def qH5 a b:=(Rh a b).1
def CB a b:=(Rh a b).2
instance (a b):Decidable (qH5 a b):=by unfold qH5 Rh;dsimp only;infer_instance
theorem mQ4:SK 78 (BC Ar vI vI qH5 CB):=fb Tryz.func78 9 [kb oT] [] [(2,[(3,3,0,0)])]
def pR6 (a:AQ)(b:AD):Prop×Bool:=
 (True,a.1==(Qj b).1)
def ZS a b:=(pR6 a b).1
def mQ5 a b:=(pR6 a b).2
theorem nH2:SK 77 (BC Eg Di vB ZS mQ5):=fb Tryz.func77 9
abbrev RP:Type:=((List AQ)×(AD×Unit)×Int×Unit)
def vL2 (y:RP)(x:CW):Vm CW:=
 let e:=y.1
 let f:=y.2.1
 let b:=x.1
 let d:Bool:=b<y.2.2.1
 let c:=nth e b CE
 let a:=mQ5 c f.1
 (d->A6 b (len e)/\ZS c f.1/\(!a->A5 (b+1)),d&&(!a),(b+1,()),d&&a,!d)
def vU y x:=(vL2 y x).1
def bK y x:=(vL2 y x).2.1
def aC y x:=(vL2 y x).2.2.1
def MV y x:=(vL2 y x).2.2.2.1
def qS1 y x:=(vL2 y x).2.2.2.2
def Pj (y:RP)(x:CW):Int:=
 x.1
def qS2:=li [(0,At),(1,(.fn 77 (.cons Di .nl))),(7,vI)] [(8,vI)] bK aC vU (λy x=>[ex 1 (some (MV y x)) [(4,vI)] ((Pj y x),()),ex 2 (some (qS1 y x)) [] ()]) [[(4,vI)],[]]
def qS3 (d:List AQ)(e:(AD×Unit)):Prop×Int:=
 let a:=(d,(e.1,()),len d,())
 let c:=((0:Int),())
 let b:=A3 (bK a) (aC a) c
 (AB (bK a) (aC a) (vU a) c,cond (MV a b) (Pj a b) (-1:Int))
def uQ3 a b:=(qS3 a b).1
def tI7 a b:=(qS3 a b).2
theorem oT0:SK 118 (BC At (.fn 77 (.cons Di .nl)) vI uQ3 tI7):=fb Tryz.func118 19 [kb nH2] [(2,qS2)]
def pR7 (a:List AQ)(b:(AD×Unit)):Prop×Bool:=
 let s:=(b.1,())
 (uQ3 a s,decide (tI7 a s≥0))
def bL a b:=(pR7 a b).1
def mQ6 a b:=(pR7 a b).2
theorem nH3:SK 76 (BC At (.fn 77 (.cons Di .nl)) vB bL mQ6):=fb Tryz.func76 9 [kb oT0]
def VG (y:uU9)(x:CW):Vm CW:=
 let g:=y.1
 let m:=y.2.1
 let h:=x.1
 let b:Bool:=h<y.2.2.1
 let a:=nth m h A9
 let c:=a.2.1==9
 let s:=(a,())
 let j:=!(mQ6 (Q0 g).1 s)
 let e:=a.2.1==10
 let f:=CB g (Qj a).1
 let d:Bool:=f<0
 let k:=nth g.2.2.2.1 f A9
 let l:=JH k
 let i:=cond c (!j) (cond e ((!d)&&(!l)) true)
 (b->A6 h (len m)/\(c->bL (Q0 g).1 s)/\(c=false->e->qH5 g (Qj a).1/\(!d->A6 f (len g.2.2.2.1)/\rN k))/\(i->A5 (h+1)),b&&i,(h+1,()),b&&(cond c j ((d||((!d)&&l))&&e)),!b)
def tI9 y x:=(VG y x).1
def uL5 y x:=(VG y x).2.1
def vL3 y x:=(VG y x).2.2.1
def Ps y x:=(VG y x).2.2.2.1
def nH4 y x:=(VG y x).2.2.2.2
def uD4 (y:uU9)(x:CW):Int:=
 let a:=nth y.2.1 x.1 A9
 (cond (a.2.1==9) (9:Int) (cond (CB y.1 (Qj a).1<0) 9 8))
def nH5:=li [(1,Ag),(7,An),(8,vI)] [(9,vI)] uL5 vL3 tI9 (λy x=>[ex 1 (some (Ps y x)) [(2,vI)] ((uD4 y x),()),ex 2 (some (nH4 y x)) [] ()]) [[(2,vI)],[]]
def Ri (d:AS):Prop×Int:=
 let a:=(d,d.2.2.2.1,len d.2.2.2.1,())
 let c:=((0:Int),())
 let b:=A3 (uL5 a) (vL3 a) c
 (AB (uL5 a) (vL3 a) (tI9 a) c,cond (Ps a b) (uD4 a b) 0)
def eH a:=(Ri a).1
def Zp a:=(Ri a).2
theorem kF9:SK 45 (AR Ar vI eH Zp):=fb Tryz.func45 37 [kb nD4,kb nH3,kb mQ4] [(2,nH5)] [(12,[(3,4,0,0)])]
abbrev sG8:Type:=(Int×AS×(List AD)×Int×Unit)
def qS4 (y:sG8)(x:uT2):Vn uT2:=
 let g:=y.1
 let h:=y.2.1
 let b:=y.2.2.1
 let f:=x.1
 let a:=x.2.1
 let c:Bool:=a<y.2.2.2.1
 let d:=(nth b a A9).2.2.1==(nth h.2.2.2.1 g A9).1
 let e:=([a]:List Int)
 (c->A6 a (len b)/\A6 g (len h.2.2.2.1)/\(d->((length f+length e:Nat):Int)<=4294967296)/\A5 (a+1),c,(cond d (f++e) f,a+1,()))
def tJ y x:=(qS4 y x).1
def MY y x:=(qS4 y x).2.1
def R8 y x:=(qS4 y x).2.2
instance (y x):Decidable (tJ y x):=by unfold tJ qS4;dsimp only;infer_instance
def bN (y:sG8)(x:uT2):(List Int):=
 x.1
def eM:List (Nat×Sh):=[(5,Ci)]
def bA:=li [(1,vI),(2,Ag),(18,An),(19,vI)] [(5,Ci),(20,vI)] MY R8 tJ (λy x=>[ex 3 none eM ((bN y x),())]) [eM]
def Rj (j:AS)(k:Int):Prop×(List Int):=
 let c:=nth j.2.2.2.1 k A9
 let a:=c.2.1==1
 let b:=(k,j,j.2.2.2.1,len j.2.2.2.1,())
 let i:=(([]:List Int),(0:Int),())
 let d:=c.2.1==10
 let e:=nth j.2.2.2.1 k A9
 let f:=CB j (Qj e).1
 let g:Bool:=f≥0
 let h:=([f]:List Int)
 (A6 k (len j.2.2.2.1)/\(a->AB (MY b) (R8 b) (tJ b) i)/\(a=false->d->A6 k (len j.2.2.2.1)/\qH5 j (Qj e).1/\(g->(length h:Int)<=4294967296)),cond a (bN b (A3 (MY b) (R8 b) i)) (cond d (cond g h []) []))
def qH6 a b:=(Rj a b).1
def C1 a b:=(Rj a b).2
instance (a b):Decidable (qH6 a b):=by unfold qH6 Rj;dsimp only;infer_instance
def mF1:=BC Ar vI Ce qH6 C1
theorem kG:SK 80 (BC Ar vI Ce qH6 C1):=fb Tryz.func80 56 [kb mQ4] [(5,bA)] [(17,[(4,0,37,1005)]),(27,[(4,0,54,1005)]),(29,[(4,0,1005,0)])]
abbrev JX:Type:=Int->(List Bool)->(List Bool)->AS->Unit->Prop×Bool×((List Bool)×(List Bool)×AS×Unit)
def uQ5 (r:JX):Am.Spec:=fnSpec [(0,vI),(1,Ax),(2,Ay),(3,Ag),(4,(.fptr 79 [some (1,Bn),some (2,Bn),some (3,T28),none]))] vB [(1,Ax),(2,Ay),(3,Ag)] (λx=>(r x.1 x.2.1 x.2.2.1 x.2.2.2.1 x.2.2.2.2.1).1) (λx=>(r x.1 x.2.1 x.2.2.1 x.2.2.2.1 x.2.2.2.2.1).2.1) (λx=>(r x.1 x.2.1 x.2.2.1 x.2.2.2.1 x.2.2.2.2.1).2.2)
abbrev Ey:Type:=(Int×Unit×(List Int)×Int×Unit)
abbrev Is:Type:=((List Bool)×(List Bool)×AS×Int×Unit)
def Wa (r:JX)(y:Ey)(x:Is):Vm Is:=
 let f:=y.2.2.1
 let g:=x.1
 let h:=x.2.1
 let i:=x.2.2.1
 let a:=x.2.2.2.1
 let c:Bool:=a<y.2.2.2.1
 let d:=nth f a 0
 let e:=(r d g h i ()).2.1
 let b:=(r d g h i ()).2.2
 (c->A6 a (len f)/\(r d g h i ()).1/\(!e->A5 (a+1)),c&&(!e),(b.1,b.2.1,b.2.2.1,a+1,()),c&&e,!c)
def vC7 (r:JX)(y:Ey)(x:Is):Prop:=((Wa r) y x).1
def Hg (r:JX)(y:Ey)(x:Is):Bool:=((Wa r) y x).2.1
def wJ (r:JX)(y:Ey)(x:Is):Is:=((Wa r) y x).2.2.1
def Nj (r:JX)(y:Ey)(x:Is):Bool:=((Wa r) y x).2.2.2.1
def rB8 (r:JX)(y:Ey)(x:Is):Bool:=((Wa r) y x).2.2.2.2
instance (r:JX) [∀q0 q1 q2 q3 q4,Decidable (r q0 q1 q2 q3 q4).1] (y:Ey)(x:Is):Decidable ((vC7 r) y x):=by
 unfold vC7 Wa
 try dsimp only
 infer_instance
def tW1 (r:JX)(y:Ey)(x:Is):(List Bool):=
 (r (nth y.2.2.1 x.2.2.2.1 0) x.1 x.2.1 x.2.2.1 ()).2.2.1
def tW2 (r:JX)(y:Ey)(x:Is):(List Bool):=
 (r (nth y.2.2.1 x.2.2.2.1 0) x.1 x.2.1 x.2.2.1 ()).2.2.2.1
def tW3 (r:JX)(y:Ey)(x:Is):AS:=
 (r (nth y.2.2.1 x.2.2.2.1 0) x.1 x.2.1 x.2.2.1 ()).2.2.2.2.1
def tW4 (r:JX)(y:Ey)(x:Is):Bool:=
 true
def rB9:List (Nat×Sh):=[(1,Ax),(2,Ay),(3,Ag),(6,vB)]
def QQ (r:JX)(y:Ey)(x:Is):(List Bool):=
 x.1
def tW6 (r:JX)(y:Ey)(x:Is):(List Bool):=
 x.2.1
def tW7 (r:JX)(y:Ey)(x:Is):AS:=
 x.2.2.1
def rC:List (Nat×Sh):=[(0,vI),(1,Ax),(2,Ay),(3,Ag)]
def tW8 (r:JX):St->Option Out:=IB [(0,vI),(4,(.fptr 79 [some (1,Bn),some (2,Bn),some (3,T28),none])),(29,(.own Ab 29 false)),(30,vI)] [(1,Ax),(2,Ay),(3,Ag),(31,vI)] (Hg r) (wJ r) (vC7 r) λy x=>[ex 1 (some ((Nj r) y x)) rB9 (((tW1 r) y x),((tW2 r) y x),((tW3 r) y x),((tW4 r) y x),()),ex 2 (some ((rB8 r) y x)) rC (y.1,((QQ r) y x),((tW6 r) y x),((tW7 r) y x),())]
def RT (r:JX)(i:Int)(j k:List Bool)(l:AS)(m:Unit):Vn ((List Bool)×(List Bool)×AS×Unit):=
 let f:=nth j i false
 let d:=cond f true (nth k i false)
 let g:=C1 l i
 let c:=(i,(),g,len g,())
 let h:=(j,set k (toNat i) true,l,(0:Int),())
 let e:=A3 ((Hg r) c) ((wJ r) c) h
 let b:=(Nj r) c e
 let a:=(QQ r) c e
 (A6 i (len j)/\i<len j/\(!f->A6 i (len k))/\(!f->i<len k)/\(d->A6 i (len j)/\i<len j)/\(!d->A6 i (len k)/\i<len k/\qH6 l i/\AB ((Hg r) c) ((wJ r) c) ((vC7 r) c) h/\((rB8 r) c e->A6 i (len a)/\i<len a)),cond d (!(nth j i false)) (cond b ((tW4 r) c e) false),(cond d j (cond b ((tW1 r) c e) (set a (toNat i) true)),cond d k (cond b ((tW2 r) c e) ((tW6 r) c e)),cond d l (cond b ((tW3 r) c e) ((tW7 r) c e)),()))
def qH7 (r:JX):Ctx:={ Cx tys [(79,uQ5 r),(80,mF1)] [(5,(tW8 r))] [] false 42 [1,2,3] [] with wants:=[(79,[])],fts:=fts }
theorem qH8 (r:JX)(hr:SpecOk Tryz.prog 79 (uQ5 r)):CtxOk Tryz.prog (qH7 r):=cq ⟨hr,kG,trivial⟩
noncomputable def pR8:Code:=Tryz.f79.body.getD .skip
noncomputable def pD5:Code:=Tz pR8 0
theorem pD6 (r:JX)(hr:SpecOk Tryz.prog 79 (uQ5 r)):Kw Tryz.prog (qH7 r) pD5:=lq (qH8 r hr) (sp:=(tW8 r)) rfl [rB9,rC]
instance (r:JX) [∀q0 q1 q2 q3 q4,Decidable (r q0 q1 q2 q3 q4).1] (a:Int)(b c:List Bool)(d:AS)(e:Unit):Decidable (RT r a b c d e).1:=by
 unfold RT
 try dsimp only
 infer_instance
theorem pR9 (r:JX)(hr:SpecOk Tryz.prog 79 (uQ5 r)):SpecOk Tryz.prog 79 (uQ5 (RT r)):=XG (qH8 r hr) mixed Tryz.func79 (by kernel_rfl) (bs:=[pD5]) (by kernel_rfl) ⟨pD6 r hr,trivial⟩ λx=>by kernel_rfl
def DB:Nat->JX
 |0=>λ_ _ _ _ _=>(False,false,([],[],Z28,()))
 |k+1=>RT (DB k)
theorem qH9:∀k,SpecOk Tryz.prog 79 (uQ5 (DB k))
 |0=>xY6 Tryz.func79 (by kernel_rfl) (by decide)
 |k+1=>pR9 _ (qH9 k)
def rI7 (a:Int)(b c:List Bool)(d:AS)(e:Unit):Nat:=(length b+1)
def sH (a:Int)(b c:List Bool)(d:AS)(e:Unit):Prop:=(DB (rI7 a b c d e) a b c d e).1
def qI (a:Int)(b c:List Bool)(d:AS)(e:Unit):Bool:=(DB (rI7 a b c d e) a b c d e).2.1
def rI8 (a:Int)(b c:List Bool)(d:AS)(e:Unit):((List Bool)×(List Bool)×AS×Unit):=(DB (rI7 a b c d e) a b c d e).2.2
def qI0:∀(k:Nat) (a:Int) (b c:List Bool) (d:AS) (e:Unit),Decidable (DB k a b c d e).1
 |0,_,_,_,_,_=>isFalse id
 |k+1,a,b,c,d,e=>by
  have:∀(q0:Int) (q1 q2:List Bool) (q3:AS) (q4:Unit),Decidable (DB k q0 q1 q2 q3 q4).1:=qI0 k;exact inferInstanceAs (Decidable (RT (DB k) a b c d e).1)
instance (a:Int)(b c:List Bool)(d:AS)(e:Unit):Decidable (sH a b c d e):=qI0 _ a b c d e
def pS:Am.Spec:=fnSpec [(0,vI),(1,Ax),(2,Ay),(3,Ag),(4,(.fptr 79 [some (1,Bn),some (2,Bn),some (3,T28),none]))] vB [(1,Ax),(2,Ay),(3,Ag)] (λx=>sH x.1 x.2.1 x.2.2.1 x.2.2.2.1 x.2.2.2.2.1) (λx=>qI x.1 x.2.1 x.2.2.1 x.2.2.2.1 x.2.2.2.2.1) (λx=>rI8 x.1 x.2.1 x.2.2.1 x.2.2.2.1 x.2.2.2.2.1)
theorem nH7:SpecOk Tryz.prog 79 pS:=wA (ps:=[(0,vI),(1,Ax),(2,Ay),(3,Ag),(4,(.fptr 79 [some (1,Bn),some (2,Bn),some (3,T28),none]))]) (rs:=vB) (os:=[(1,Ax),(2,Ay),(3,Ag)]) (R:=λk x=>DB k x.1 x.2.1 x.2.2.1 x.2.2.2.1 x.2.2.2.2.1) qH9 λx=>rI7 x.1 x.2.1 x.2.2.1 x.2.2.2.1 x.2.2.2.2.1
abbrev uV6:Type:=(Unit×Int×Unit)
abbrev Yf:Type:=(AS×(List Bool)×(List Bool)×Int×Unit)
def VI (y:uV6)(x:Yf):Vm Yf:=
 let e:=x.1
 let f:=x.2.1
 let g:=x.2.2.1
 let a:=x.2.2.2.1
 let c:Bool:=a<y.2.1
 let d:=qI a g f e ()
 let b:=rI8 a g f e ()
 (c->sH a g f e ()/\(!d->A5 (a+1)),c&&(!d),(b.2.2.1,b.2.1,b.1,a+1,()),c&&d,!c)
def tJ0 y x:=(VI y x).1
def tR9 y x:=(VI y x).2.1
def vL4 y x:=(VI y x).2.2.1
def ZY y x:=(VI y x).2.2.2.1
def nH8 y x:=(VI y x).2.2.2.2
def bO (y:uV6)(x:Yf):Bool:=
 true
def nH9:=li [(5,(.fptr 79 [some (4,Bn),some (3,Bn),some (1,T28),none])),(18,vI)] [(1,Ag),(3,(.box Bn (.own .bool 400300 true))),(4,(.box Bn (.own .bool 400400 true))),(19,vI)] tR9 vL4 tJ0 (λy x=>[ex 1 (some (ZY y x)) [(2,vB)] ((bO y x),()),ex 2 (some (nH8 y x)) [] ()]) [[(2,vB)],[]]
def Rk (f:AS):Prop×Bool:=
 let c:=len f.2.2.2.1
 let a:=len f.2.2.2.1
 let b:=((),len f.2.2.2.1,())
 let e:=(f,replicate (toNat c) false,replicate (toNat a) false,(0:Int),())
 let d:=A3 (tR9 b) (vL4 b) e
 ((0<=c/\c<=c/\c<=4294967296)/\(0<=a/\a<=a/\a<=4294967296)/\AB (tR9 b) (vL4 b) (tJ0 b) e,cond (ZY b d) (bO b d) false)
def pD7 a:=(Rk a).1
def UK a:=(Rk a).2
theorem kG0:SK 46 (AR Ar vB pD7 UK):=fx (λc=>{ c with wants:=[(79,[])],fts:=fts }) Tryz.func46 26 [kb nH7] [(6,nH9)] [(3,[(4,0,10,400300)]),(5,[(4,0,14,400400)])] false [] [10,14]
def tS (y:vJ5)(x:CW):Vm CW:=
 let e:=y.1
 let a:=x.1
 let b:Bool:=a<y.2.2.1
 let d:Bool:=BU e a<y.2.1
 let c:=cond d true (BU e a>126)
 (b->A6 a (len e)/\(!d->A6 a (len e))/\(!c->A5 (a+1)),b&&(!c),(a+1,()),b&&c,!b)
def tS0 y x:=(tS y x).1
def bP y x:=(tS y x).2.1
def Pn y x:=(tS y x).2.2.1
def qI1 y x:=(tS y x).2.2.2.1
def oT1 y x:=(tS y x).2.2.2.2
def rC0 (y:vJ5)(x:CW):Bool:=
 false
def oT2:=li [(0,vS),(2,Bf),(18,vI)] [(19,vI)] bP Pn tS0 (λy x=>[ex 1 (some (qI1 y x)) [(6,vB)] ((rC0 y x),()),ex 2 (some (oT1 y x)) [] ()]) [[(6,vB)],[]]
def lG6 (e:List UInt8)(f g:Int):Prop×Bool:=
 let b:=cond (len e<1) true (len e>f)
 let a:=(e,g,len e,())
 let d:=((0:Int),())
 let c:=A3 (bP a) (Pn a) d
 (!b->AB (bP a) (Pn a) (tS0 a) d,cond b false (cond (qI1 a c) (rC0 a c) true))
def sS3 a b c:=(lG6 a b c).1
def Rl a b c:=(lG6 a b c).2
theorem nI:SK 148 (DZ vS vI Bf vB sS3 Rl):=fb Tryz.func148 34 [] [(4,oT2)]
def lG7 (a:List UInt8):Prop×Bool:=
 (sS3 a 32 33,Rl a 32 33)
def qS5 a:=(lG7 a).1
def MN a:=(lG7 a).2
theorem lG8:SK 121 (AR vS vB qS5 MN):=fb Tryz.func121 5 [kb nI]
def lG9 (a:List UInt8):Prop×Bool:=
 (sS3 a 256 32,Rl a 256 32)
def qS6 a:=(lG9 a).1
def MO a:=(lG9 a).2
theorem lH:SK 122 (AR vS vB qS6 MO):=fb Tryz.func122 5 [kb nI]
def Rm (g:List B0)(h:B0):Prop×Int:=
 let f:=!(MN h.1)
 let b:=!(MO h.2.1)
 let a:Bool:=len g>0
 let c:=len g
 let d:=c-1
 let e:=nth g d CO
 (qS5 h.1/\(!f->qS6 h.2.1/\(!b->(a->A5 (c-1))/\(a->A6 d (len g)))),cond f (13:Int) (cond b 4 (cond (cond a (Op.bytesLess h.1 e.1||h.1==e.1) false) 24 0)))
def pD8 a b:=(Rm a b).1
def MP a b:=(Rm a b).2
theorem kG1:SK 82 (BC Bh (.val Er) vI pD8 MP):=fb Tryz.func82 28 [kb lG8,kb lH]
abbrev Ni:Type:=((List B0)×(List B0)×Int×Unit)
def sS4 (y:Ni)(x:CW):Vm CW:=
 let f:=y.1
 let g:=y.2.1
 let a:=x.1
 let b:Bool:=a<y.2.2.1
 let d:=nth g a CO
 let e:=take (toNat a) f
 let c:=MP e d !=0
 (b->A6 a (len g)/\(0<=a/\a<=len f)/\pD8 e d/\(!c->A5 (a+1)),b&&(!c),(a+1,()),b&&c,!b)
def tJ2 y x:=(sS4 y x).1
def uV8 y x:=(sS4 y x).2.1
def TI y x:=(sS4 y x).2.2.1
def bQ y x:=(sS4 y x).2.2.2.1
def nI0 y x:=(sS4 y x).2.2.2.2
def tZ3 (y:Ni)(x:CW):Int:=
 let a:=x.1
 (MP (take (toNat a) y.1) (nth y.2.1 a CO))
def nI1:=li [(0,Bh),(9,Bh),(10,vI)] [(11,vI)] uV8 TI tJ2 (λy x=>[ex 1 (some (bQ y x)) [(2,vI)] ((tZ3 y x),()),ex 2 (some (nI0 y x)) [] ()]) [[(2,vI)],[]]
def Ro (e:List B0):Prop×Int:=
 let c:Bool:=len e>16
 let a:=(e,e,len e,())
 let d:=((0:Int),())
 let b:=A3 (uV8 a) (TI a) d
 (!c->AB (uV8 a) (TI a) (tJ2 a) d,cond c 3 (cond (bQ a b) (tZ3 a b) 0))
def pD9 a:=(Ro a).1
def f48 a:=(Ro a).2
theorem kG2:SK 48 (AR Bh vI pD9 f48):=fb Tryz.func48 25 [kb kG1] [(4,nI1)]
def Rp (p:AS):Prop×Int:=
 let b:=TO p
 let c:=b !=0
 let d:=cond (len p.2.2.2.1>64) true (len (Q0 p).1>8)
 let e:=cond (p.2.2.2.2.1<1) true (p.2.2.2.2.1>1073741824)
 let f:=U0 p
 let g:=f !=0
 let h:=Za p
 let i:=h !=0
 let j:=Zi p
 let k:=j !=0
 let l:=Zp p
 let m:=l !=0
 let n:=UK p
 let o:=TP (Q1 p).1
 let q:=o !=0
 let r:=cond ((Q1 p).1.1 !=0) (cond ((Q1 p).1.1 !=p.1) true ((Q1 p).1.2.1 !=p.2.1)) false
 let a:=cond g f (cond i h (cond k j (cond m l (cond n 11 (cond q o (cond r 15 (f48 (Q2 p).1)))))))
 (qE3 p/\(!c->!d->!e->pC7 p/\(!g->pC9 p/\(!i->pD2 p/\(!k->eH p/\(!m->pD7 p/\(!n->sZ4 (Q1 p).1/\(!q->!r->pD9 (Q2 p).1))))))),cond c b (cond d 3 (cond e 2 a)))
def aA a:=(Rp a).1
def Hh a:=(Rp a).2
theorem mQ7:SK 15 (AR Ar vI aA Hh):=fb Tryz.func15 83 [kb kC5,kb kF5,kb kF6,kb kF8,kb kF9,kb kG0,kb mQ2,kb kG2]
def Rq (a:AS):Prop×BY:=
 (True,(a.1,a.2.1,a.2.2.1,a.2.2.2.2.1,()))
def qI2 a:=(Rq a).1
def Ej a:=(Rq a).2
theorem mQ8:SK 16 (AR Ar Bt qI2 Ej):=fb Tryz.func16 12
abbrev uV9:Type:=((List Int)×(List Int)×Int×Unit)
def sS5 (y:uV9)(x:CW):Vm CW:=
 let d:=y.1
 let e:=y.2.1
 let a:=x.1
 let b:Bool:=a<y.2.2.1
 let c:=nth d a 0!=nth e a 0
 (b->A6 a (len d)/\A6 a (len e)/\(!c->A5 (a+1)),b&&(!c),(a+1,()),b&&c,!b)
def aB y x:=(sS5 y x).1
def aJ y x:=(sS5 y x).2.1
def uD7 y x:=(sS5 y x).2.2.1
def pE y x:=(sS5 y x).2.2.2.1
def nI2 y x:=(sS5 y x).2.2.2.2
def bR (y:uV9)(x:CW):Bool:=
 false
def nI3:=li [(0,Ao),(1,Ao),(12,vI)] [(13,vI)] aJ uD7 aB (λy x=>[ex 1 (some (pE y x)) [(4,vB)] ((bR y x),()),ex 2 (some (nI2 y x)) [] ()]) [[(4,vB)],[]]
def Rr (e f:List Int):Prop×Bool:=
 let b:=len e !=len f
 let a:=(e,f,len e,())
 let d:=((0:Int),())
 let c:=A3 (aJ a) (uD7 a) d
 (!b->AB (aJ a) (uD7 a) (aB a) d,cond b false (cond (pE a c) (bR a c) true))
def rR6 a b:=(Rr a b).1
def ZA a b:=(Rr a b).2
theorem nI4:SK 49 (BC Ao Ao vB rR6 ZA):=fb Tryz.func49 26 [] [(4,nI3)]
abbrev uW:Type:=((List BY)×(List BY)×Int×Unit)
def sS6 (y:uW)(x:CW):Vm CW:=
 let d:=y.1
 let e:=y.2.1
 let a:=x.1
 let b:Bool:=a<y.2.2.1
 let c:=!(Ty.eqb CC (nth d a C4) (nth e a C4))
 (b->A6 a (len d)/\A6 a (len e)/\(!c->A5 (a+1)),b&&(!c),(a+1,()),b&&c,!b)
def aS y x:=(sS6 y x).1
def sH5 y x:=(sS6 y x).2.1
def RD y x:=(sS6 y x).2.2.1
def pE0 y x:=(sS6 y x).2.2.2.1
def nI5 y x:=(sS6 y x).2.2.2.2
def rR7 (y:uW)(x:CW):Bool:=
 false
def nI6:=li [(0,Cj),(1,Cj),(12,vI)] [(13,vI)] sH5 RD aS (λy x=>[ex 1 (some (pE0 y x)) [(4,vB)] ((rR7 y x),()),ex 2 (some (nI5 y x)) [] ()]) [[(4,vB)],[]]
def Rt (e f:List BY):Prop×Bool:=
 let b:=len e !=len f
 let a:=(e,f,len e,())
 let d:=((0:Int),())
 let c:=A3 (sH5 a) (RD a) d
 (!b->AB (sH5 a) (RD a) (aS a) d,cond b false (cond (pE0 a c) (rR7 a c) true))
def pE1 a b:=(Rt a b).1
def f89 a b:=(Rt a b).2
theorem kG3:SK 89 (BC Cj Cj vB pE1 f89):=fb Tryz.func89 26 [] [(4,nI6)]
def IT (b c:Gn):Prop×Bool:=
 let a:=cond (b.1==c.1) (b.2.1==c.2.1) false
 (a->pE1 b.2.2.1 c.2.2.1,cond a (f89 b.2.2.1 c.2.2.1) false)
def qI3 a b:=(IT a b).1
def ZE a b:=(IT a b).2
theorem mQ9:SK 55 (BC Cf Cf vB qI3 ZE):=fb Tryz.func55 24 [kb kG3]
def VM (y:uA1)(x:CW):Vm CW:=
 let d:=y.1
 let e:=y.2.1
 let a:=x.1
 let b:Bool:=a<y.2.2.1
 let c:=!(Ty.eqb Ep (nth d a BZ) (nth e a BZ))
 (b->A6 a (len d)/\A6 a (len e)/\(!c->A5 (a+1)),b&&(!c),(a+1,()),b&&c,!b)
def sH6 y x:=(VM y x).1
def sH7 y x:=(VM y x).2.1
def uD9 y x:=(VM y x).2.2.1
def pE2 y x:=(VM y x).2.2.2.1
def nI7 y x:=(VM y x).2.2.2.2
def rR8 (y:uA1)(x:CW):Bool:=
 false
def cB:=li [(0,Aq),(1,Aq),(12,vI)] [(13,vI)] sH7 uD9 sH6 (λy x=>[ex 1 (some (pE2 y x)) [(4,vB)] ((rR8 y x),()),ex 2 (some (nI7 y x)) [] ()]) [[(4,vB)],[]]
def Ru (e f:List B4):Prop×Bool:=
 let b:=len e !=len f
 let a:=(e,f,len e,())
 let d:=((0:Int),())
 let c:=A3 (sH7 a) (uD9 a) d
 (!b->AB (sH7 a) (uD9 a) (sH6 a) d,cond b false (cond (pE2 a c) (rR8 a c) true))
def pE3 a b:=(Ru a b).1
def f83 a b:=(Ru a b).2
theorem kG4:SK 83 (BC Aq Aq vB pE3 f83):=fb Tryz.func83 26 [] [(4,cB)]
def sS8 (y:QM)(x:CW):Vm CW:=
 let d:=y.1
 let e:=y.2.1
 let a:=x.1
 let b:Bool:=a<y.2.2.1
 let c:=!(Ty.eqb CM (nth d a Z116) (nth e a Z116))
 (b->A6 a (len d)/\A6 a (len e)/\(!c->A5 (a+1)),b&&(!c),(a+1,()),b&&c,!b)
def sH8 y x:=(sS8 y x).1
def aZ y x:=(sS8 y x).2.1
def uE y x:=(sS8 y x).2.2.1
def pE4 y x:=(sS8 y x).2.2.2.1
def nI9 y x:=(sS8 y x).2.2.2.2
def bX (y:QM)(x:CW):Bool:=
 false
def nJ:=li [(0,Ak),(1,Ak),(12,vI)] [(13,vI)] aZ uE sH8 (λy x=>[ex 1 (some (pE4 y x)) [(4,vB)] ((bX y x),()),ex 2 (some (nI9 y x)) [] ()]) [[(4,vB)],[]]
def Rv (e f:List A8):Prop×Bool:=
 let b:=len e !=len f
 let a:=(e,f,len e,())
 let d:=((0:Int),())
 let c:=A3 (aZ a) (uE a) d
 (!b->AB (aZ a) (uE a) (sH8 a) d,cond b false (cond (pE4 a c) (bX a c) true))
def pE5 a b:=(Rv a b).1
def f84 a b:=(Rv a b).2
theorem kG5:SK 84 (BC Ak Ak vB pE5 f84):=fb Tryz.func84 26 [] [(4,nJ)]
def VO (y:Zm)(x:CW):Vm CW:=
 let d:=y.1
 let e:=y.2.1
 let a:=x.1
 let b:Bool:=a<y.2.2.1
 let c:=!(Ty.eqb AL (nth d a A1) (nth e a A1))
 (b->A6 a (len d)/\A6 a (len e)/\(!c->A5 (a+1)),b&&(!c),(a+1,()),b&&c,!b)
def sI y x:=(VO y x).1
def bI y x:=(VO y x).2.1
def uE0 y x:=(VO y x).2.2.1
def eW y x:=(VO y x).2.2.2.1
def nJ0 y x:=(VO y x).2.2.2.2
def rS (y:Zm)(x:CW):Bool:=
 false
def nJ1:=li [(0,Bc),(1,Bc),(12,vI)] [(13,vI)] bI uE0 sI (λy x=>[ex 1 (some (eW y x)) [(4,vB)] ((rS y x),()),ex 2 (some (nJ0 y x)) [] ()]) [[(4,vB)],[]]
def Rw (e f:List A0):Prop×Bool:=
 let b:=len e !=len f
 let a:=(e,f,len e,())
 let d:=((0:Int),())
 let c:=A3 (bI a) (uE0 a) d
 (!b->AB (bI a) (uE0 a) (sI a) d,cond b false (cond (eW a c) (rS a c) true))
def pE7 a b:=(Rw a b).1
def f85 a b:=(Rw a b).2
theorem kG6:SK 85 (BC Bc Bc vB pE7 f85):=fb Tryz.func85 26 [] [(4,nJ1)]
def KM (m n:AD):Prop×Bool:=
 let e:=cond (!(ZE (Q6 m).1 (Q6 n).1)) true (!(Ty.eqb CC (Q9 m).1 (Q9 n).1))
 let f:=cond ((Qc m).1 !=(Qc n).1) true ((Qf m).1 !=(Qf n).1)
 let g:=!(ZA (Qa m).1 (Qa n).1)
 let h:=cond g true (!(f83 (Qb m).1 (Qb n).1))
 let i:=cond h true (!(f84 (Q8 m).1 (Q8 n).1))
 let k:=cond ((Qi m).1 !=(Qi n).1) true ((Qd m).1 !=(Qd n).1)
 let j:=cond (cond k true ((Qg m).1 !=(Qg n).1)) true ((Qh m).1 !=(Qh n).1)
 let l:=cond (!((Qk m).1==(Qk n).1)) true ((Ql m).1 !=(Ql n).1)
 let a:=cond (cond l true ((Qm m).1 !=(Qm n).1)) true ((Qj m).1 !=(Qj n).1)
 let d:=cond ((Qe m).1.1 !=(Qe n).1.1) true ((Qe m).1.2.1 !=(Qe n).1.2.1)
 let b:=cond d true ((Qe m).1.2.2.1 !=(Qe n).1.2.2.1)
 let c:=cond j false (cond a false (cond b false (f85 (Qe m).1.2.2.2.1 (Qe n).1.2.2.2.1)))
 (qI3 (Q6 m).1 (Q6 n).1/\(!e->!f->rR6 (Qa m).1 (Qa n).1/\(!g->pE3 (Qb m).1 (Qb n).1)/\(!h->pE5 (Q8 m).1 (Q8 n).1)/\(!i->!j->!a->!b->pE7 (Qe m).1.2.2.2.1 (Qe n).1.2.2.2.1)),cond e false (cond f false (cond i false c)))
def eX a b:=(KM a b).1
def f50 a b:=(KM a b).2
theorem kG7:SK 50 (BC Bg Bg vB eX f50):=fb Tryz.func50 136 [kb nI4,kb mQ9,kb kG4,kb kG5,kb kG6]
def KN (f g:AD):Prop×Bool:=
 let b:=cond (cond (cond (f.1 !=g.1) true (f.2.1 !=g.2.1)) true (f.2.2.1 !=g.2.2.1)) true (!(f.2.2.2.1==g.2.2.2.1))
 let c:=cond (cond (!(Ty.eqb .bool f.2.2.2.2.1 g.2.2.2.2.1)) true (!(Ty.eqb .bool (Q1 f).1 (Q1 g).1))) true (!(Ty.eqb .bool (Q2 f).1 (Q2 g).1))
 let d:=cond (cond (cond ((Q0 f).1 !=(Q0 g).1) true ((Q5 f).1 !=(Q5 g).1)) true (!(Ty.eqb He (Q3 f).1 (Q3 g).1))) true ((Q7 f).1 !=(Q7 g).1)
 let e:=cond ((Q4 f).1.1 !=(Q4 g).1.1) true ((Q4 f).1.2.1 !=(Q4 g).1.2.1)
 let a:=cond e true (!(ZA (Q4 f).1.2.2.1 (Q4 g).1.2.2.1))
 (!b->!c->!d->(!e->rR6 (Q4 f).1.2.2.1 (Q4 g).1.2.2.1)/\(!a->eX f g),cond b false (cond c false (cond d false (cond a false (f50 f g)))))
def tW9 a b:=(KN a b).1
def KO a b:=(KN a b).2
theorem mR:SK 17 (BC Bg Bg vB tW9 KO):=fb Tryz.func17 105 [kb nI4,kb kG7]
end Go.Proofs.YtadggmnllfgjcaaGreatDoor.Am
