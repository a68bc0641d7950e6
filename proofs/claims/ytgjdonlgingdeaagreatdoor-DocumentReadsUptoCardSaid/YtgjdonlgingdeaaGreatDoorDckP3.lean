/- Printed by program, part 3. No condition. -/
import Derived.Test.YtgjdonlgingdeaaGreatDoorDckP2
set_option linter.unusedVariables false
set_option synthInstance.maxSize 4000
set_option synthInstance.maxHeartbeats 400000
namespace Go.Proofs.YtgjdonlgingdeaaGreatDoor.Am
open Go Go.Am Go.Proofs
open _root_.Int (tdiv toNat)
open _root_.List (length replicate set take)
open _root_.Option (getD isSome)
abbrev uL0:Type:=(Int×A7×AU×(List (List A0))×Int×Int×A0×(List (List UInt8))×Int×Int×(List A0)×Int×Int×(List (List A0))×Int×Int×(List A0)×Int×Unit)
def rG6 (y:uL0)(x:CX):Vn CX:=
 let o:=y.1
 let c:=y.2.1
 let k:=(Q1 y).1
 let l:=(Q3 y).1
 let m:=(Qe y).1
 let j:=x.1
 let a:=x.2.1
 let n:Bool:=a<(Qd y).1
 let b:=nth m a A1
 let d:=l.2.1+b.1
 let e:=d*o
 let f:=k*c.2.2.1
 let g:=c.2.1+f
 let h:=g-b.2.1
 let i:=h*o
 (n->A6 a (len m)/\A5 (l.2.1+b.1)/\A5 (d*o)/\Eh e c.1/\A5 (k*c.2.2.1)/\A5 (c.2.1+f)/\A5 (g-b.2.1)/\A5 (h*o)/\Eh i c.1/\A6 a (len j)/\a<len j/\A5 (a+1),n,(set j (toNat a) (AO e c.1,AO i c.1,()),a+1,()))
def tS y x:=(rG6 y x).1
def TF y x:=(rG6 y x).2.1
def TG y x:=(rG6 y x).2.2
def tY (y:uL0)(x:CX):(List A0):=
 x.1
def rG7:List (Nat×Sh):=[(2,vI),(4,Ai),(11,Ba),(12,Ay),(13,vI),(14,vI),(19,Bz),(24,(.own AQ 1024 true)),(41,Be),(42,vI),(43,vI),(54,Cc),(55,vI),(56,vI),(74,Do),(75,vI),(76,vI)]
def pE9:=li [(2,vI),(4,Ai),(11,Ba),(12,Ay),(13,vI),(14,vI),(19,Bz),(41,Be),(42,vI),(43,vI),(54,Cc),(55,vI),(56,vI),(74,Do),(75,vI),(76,vI),(89,Bd),(90,vI)] [(24,(.own AQ 1024 true)),(91,vI)] TF TG tS (λy x=>[ex 8 none rG7 (y.1,y.2.1,y.2.2.1,y.2.2.2.1,y.2.2.2.2.1,(Q1 y).1,(Q3 y).1,(tY y x),(Q0 y).1,(Q5 y).1,(Q4 y).1,(Q2 y).1,(Q7 y).1,(Q6 y).1,(Q9 y).1,(Qc y).1,(Qa y).1,())]) [rG7]
abbrev wS:Type:=(Int×A7×AU×Int×A0×(List (List UInt8))×Int×Int×(List A0)×Int×Int×(List (List A0))×Int×Unit)
abbrev Fs:Type:=((List (List A0))×Int×Int×Unit)
def X5 (y:wS)(x:Fs):Vm Fs:=
 let i:=(Q7 y).1
 let l:=(Q6 y).1
 let h:=x.1
 let k:=x.2.1
 let a:=x.2.2.1
 let d:Bool:=a<l
 let e:=nth i a ([]:List A0)
 let m:=len e
 let j:=k+m
 let f:Bool:=j>4096
 let c:=len e
 let b:=(y.1,y.2.1,y.2.2.1,h,j,y.2.2.2.1,y.2.2.2.2.1,(Q1 y).1,(Q3 y).1,(Q0 y).1,(Q5 y).1,(Q4 y).1,(Q2 y).1,i,l,a,e,len e,())
 let n:=(replicate (toNat c) A1,(0:Int),())
 let g:=([tY b (A3 (TF b) (TG b) n)]:List (List A0))
 (d->A6 a (len i)/\A5 (k+m)/\(!f->(0<=c/\c<=c/\c<=4294967296)/\AA (TF b) (TG b) (tS b) n/\((length h+length g:Nat):Int)<=4294967296)/\(!f->A5 (a+1)),d&&(!f),(h++g,j,a+1,()),d&&f,!d)
def tS0 y x:=(X5 y x).1
def Mj y x:=(X5 y x).2.1
def NW y x:=(X5 y x).2.2.1
def tS1 y x:=(X5 y x).2.2.2.1
def rG8 y x:=(X5 y x).2.2.2.2
def tY0 (y:wS)(x:Fs):(List (List A0)):=
 ([]:List (List A0))
def tY1 (y:wS)(x:Fs):Int:=
 (3:Int)
def rG9:List (Nat×Sh):=[(8,Av),(9,vI)]
def tY2 (y:wS)(x:Fs):(List (List A0)):=
 x.1
def tY3 (y:wS)(x:Fs):Int:=
 x.2.1
def rH:List (Nat×Sh):=[(2,vI),(4,Ai),(11,Ba),(12,Ay),(13,vI),(14,vI),(41,Be),(42,vI),(43,vI),(54,Cc),(55,vI),(56,vI)]
def pF:=li [(2,vI),(4,Ai),(11,Ba),(14,vI),(19,Bz),(41,Be),(42,vI),(43,vI),(54,Cc),(55,vI),(56,vI),(74,Do),(75,vI)] [(12,Ay),(13,vI),(76,vI)] Mj NW tS0 (λy x=>[ex 1 (some (tS1 y x)) rG9 ((tY0 y x),(tY1 y x),()),ex 6 (some (rG8 y x)) rH (y.1,y.2.1,y.2.2.1,(tY2 y x),(tY3 y x),y.2.2.2.1,(Q1 y).1,(Q3 y).1,(Q0 y).1,(Q5 y).1,(Q4 y).1,(Q2 y).1,())]) [rG9,rH]
abbrev X6:Type:=(Int×A7×AU×Int×(List (List UInt8))×Int×Int×(List A0)×Int×Unit)
def X7 (y:X6)(x:Fs):Vm Fs:=
 let m:=y.2.1
 let g:=(Q0 y).1
 let j:=(Q5 y).1
 let b:=x.2.2.1
 let e:Bool:=b<j
 let h:=nth g b A1
 let k:=nth m.2.2.2.1 h.1 BG
 let i:=BI k.2.2.1
 let f:=i.2.1 !=0
 let a:=(y.1,m,y.2.2.1,y.2.2.2.1,h,y.2.2.2.2.1,(Q1 y).1,(Q3 y).1,g,j,b,i.1,len i.1,())
 let l:=(x.1,x.2.1,(0:Int),())
 let d:=A3 (Mj a) (NW a) l
 let c:=(!f)&&rG8 a d
 (e->A6 b (len g)/\A6 h.1 (len m.2.2.2.1)/\Xp k.2.2.1/\(!f->AA (Mj a) (NW a) (tS0 a) l)/\(c->A5 (b+1)),e&&c,(tY2 a d,tY3 a d,b+1,()),e&&(f||((!f)&&tS1 a d)),!e)
def tS2 y x:=(X7 y x).1
def Mk y x:=(X7 y x).2.1
def Ml y x:=(X7 y x).2.2.1
def X8 y x:=(X7 y x).2.2.2.1
def rH0 y x:=(X7 y x).2.2.2.2
def tY4 (y:X6)(x:Fs):(List (List A0)):=
 let f:=y.2.1
 let c:=(Q0 y).1
 let d:=x.2.2.1
 let e:=nth c d A1
 let a:=BI (nth f.2.2.2.1 e.1 BG).2.2.1
 let b:=(y.1,f,y.2.2.1,y.2.2.2.1,e,y.2.2.2.2.1,(Q1 y).1,(Q3 y).1,c,(Q5 y).1,d,a.1,len a.1,())
 (cond (a.2.1 !=0) [] (tY0 b (A3 (Mj b) (NW b) (x.1,x.2.1,(0:Int),()))))
def X9 (y:X6)(x:Fs):Int:=
 let f:=y.2.1
 let c:=(Q0 y).1
 let d:=x.2.2.1
 let e:=nth c d A1
 let a:=BI (nth f.2.2.2.1 e.1 BG).2.2.1
 let b:=(y.1,f,y.2.2.1,y.2.2.2.1,e,y.2.2.2.2.1,(Q1 y).1,(Q3 y).1,c,(Q5 y).1,d,a.1,len a.1,())
 (cond (a.2.1 !=0) a.2.1 (tY1 b (A3 (Mj b) (NW b) (x.1,x.2.1,(0:Int),()))))
def rH1:List (Nat×Sh):=[(8,Av),(9,vI)]
def tY5 (y:X6)(x:Fs):(List (List A0)):=
 x.1
def tY6 (y:X6)(x:Fs):Int:=
 x.2.1
def rH2:List (Nat×Sh):=[(2,vI),(4,Ai),(11,Ba),(12,Ay),(13,vI),(41,Be),(42,vI),(43,vI)]
def pF0:=li [(2,vI),(4,Ai),(11,Ba),(14,vI),(41,Be),(42,vI),(43,vI),(54,Cc),(55,vI)] [(12,Ay),(13,vI),(56,vI)] Mk Ml tS2 (λy x=>[ex 1 (some (X8 y x)) rH1 ((tY4 y x),(X9 y x),()),ex 4 (some (rH0 y x)) rH2 (y.1,y.2.1,y.2.2.1,(tY5 y x),(tY6 y x),y.2.2.2.2.1,(Q1 y).1,(Q3 y).1,())]) [rH1,rH2]
abbrev XA:Type:=(Int×A7×AU×(List (List UInt8))×Int×Unit)
def XB (y:XA)(x:Fs):Vm Fs:=
 let f:=y.2.2.1
 let g:=y.2.2.2.1
 let h:=y.2.2.2.2.1
 let b:=x.2.2.1
 let e:Bool:=b<h
 let i:=nth g b ([]:List UInt8)
 let j:=C0 f i
 let a:=(y.1,y.2.1,f,b,g,h,b,j.1,len j.1,())
 let k:=(x.1,x.2.1,(0:Int),())
 let d:=A3 (Mk a) (Ml a) k
 let c:=rH0 a d
 (e->A6 b (len g)/\WW f i/\AA (Mk a) (Ml a) (tS2 a) k/\(c->A5 (b+1)),e&&c,(tY5 a d,tY6 a d,b+1,()),e&&X8 a d,!e)
def sJ4 y x:=(XB y x).1
def Jl y x:=(XB y x).2.1
def Jm y x:=(XB y x).2.2.1
def XC y x:=(XB y x).2.2.2.1
def oC8 y x:=(XB y x).2.2.2.2
def tA5 (y:XA)(x:Fs):(List (List A0)):=
 let c:=y.2.2.1
 let d:=y.2.2.2.1
 let a:=x.2.2.1
 let e:=C0 c (nth d a ([]:List UInt8))
 let b:=(y.1,y.2.1,c,a,d,y.2.2.2.2.1,a,e.1,len e.1,())
 (tY4 b (A3 (Mk b) (Ml b) (x.1,x.2.1,(0:Int),())))
def uG3 (y:XA)(x:Fs):Int:=
 let c:=y.2.2.1
 let d:=y.2.2.2.1
 let a:=x.2.2.1
 let e:=C0 c (nth d a ([]:List UInt8))
 let b:=(y.1,y.2.1,c,a,d,y.2.2.2.2.1,a,e.1,len e.1,())
 (X9 b (A3 (Mk b) (Ml b) (x.1,x.2.1,(0:Int),())))
def rW9:List (Nat×Sh):=[(8,Av),(9,vI)]
def sR8 (y:XA)(x:Fs):(List (List A0)):=
 x.1
def rX:List (Nat×Sh):=[(12,Ay)]
def oC9:=li [(2,vI),(4,Ai),(11,Ba),(41,Be),(42,vI)] [(12,Ay),(13,vI),(43,vI)] Jl Jm sJ4 (λy x=>[ex 1 (some (XC y x)) rW9 ((tA5 y x),(uG3 y x),()),ex 2 (some (oC8 y x)) rX ((sR8 y x),())]) [rW9,rX]
def qH (i:A7)(j:List UInt8)(k l:Int):Prop×((List (List A0))×Int×Unit):=
 let e:=Kd i j k l
 let c:=e !=0
 let d:=BC i
 let f:=f205 d j k l
 let a:=(k,i,d,f,len f,())
 let h:=(([]:List (List A0)),(0:Int),(0:Int),())
 let g:=A3 (Jl a) (Jm a) h
 let b:=XC a g
 (qG8 i j k l/\(!c->X4 i/\Tc d j k l/\AA (Jl a) (Jm a) (sJ4 a) h),(cond c [] (cond b (tA5 a g) (sR8 a g)),cond c e (cond b (uG3 a g) (0:Int)),()))
def PN a b c d:=(qH a b c d).1
def DF a b c d:=(qH a b c d).2
def oQ:=Gi Bm vS vI vI (.tup (.cons Av (.cons vI .nl))) PN DF
theorem mN9:SK 165 (Gi Bm vS vI vI (.tup (.cons Av (.cons vI .nl))) PN DF):=fb Tryz.func165 134 [kb JQ,kb oP0,kb mN6,kb mN8,kb mI1,kb oN] [(8,oC9),(12,pF0),(18,pF),(25,pE9)] [(21,[(4,0,51,1016)]),(29,[(4,0,68,1020)]),(47,[(4,0,88,1024)]),(58,[(1,24,0,0)]),(59,[(4,0,129,1012)]),(67,[(4,0,1012,0)])] false [] [88]
def PO (a:List UInt8):List (List UInt8):=Lib.fields a
def XD (a:List UInt8):Prop:=(length a:Int)<=4294967280/\(a.all λb=>decide (b.toNat<128))=true
instance (a:List UInt8):Decidable (XD a):=by
  unfold XD
  infer_instance
def mO:List (Nat×Sh):=[(0,Dm)]
def mO0:Sh:=Be
def mO1:List (Nat×Sh):=[]
def oQ0:Am.Spec:=fnSpec mO mO0 mO1 (λx=>XD x.1) (λx=>PO x.1) (λ_=>())
theorem tab0:G0=Lib.asciiSpaceTab:=by kernel_rfl
theorem mO2:SpecOk Tryz.prog 207 oQ0:=wA8 (F:=PO) (e:=9) (ok:=XD) ⟨_,Tryz.func207,by kernel_rfl,by decide⟩ λs w χ kh hg =>
  Any.strings_Fields_core Tryz.lays157 (by kernel_rfl) s w (by have h1:=kh.1;rw[jN] at h1;have h2:s.data.size=s.size:=rfl;omega)
    (λj b hj=>by have:=List.all_eq_true.1 kh.2 b (List.mem_of_getElem? hj);simpa using this)
    (λc hc=>by
      have h1:=wB8 hg (g:=0) (n:=256) (k:=.u8) (l:=G0) (jQ ..) c hc;rw[tab0,Lib.asciiSpaceTab_at c hc] at h1;exact h1)
def mO3 (a:List UInt8)(b:Int):Prop×Int:=
 (qF a b,WS a b)
def XE a b:=(mO3 a b).1
def PQ a b:=(mO3 a b).2
instance (a b):Decidable (XE a b):=by unfold XE mO3;dsimp only;infer_instance
theorem mO4:SK 208 (BD vS Bb vI XE PQ):=fb Tryz.func208 8 [kb mG3]
def mO5 (b c d e:Int):Prop×(List A8):=
 let a:=([((1:Int),([(b,c,()),A1,A1]:List A0),()),((2:Int),([(d,c,()),A1,A1]:List A0),()),((2:Int),([(d,e,()),A1,A1]:List A0),()),((2:Int),([(b,e,()),A1,A1]:List A0),()),((5:Int),replicate 3 A1,())]:List A8)
 (True,a)
def qH0 a b c d:=(mO5 a b c d).1
def XF a b c d:=(mO5 a b c d).2
instance (a b c d):Decidable (qH0 a b c d):=by unfold qH0 mO5;dsimp only;infer_instance
theorem mO6:SK 245 (Gi vI vI vI vI Bk qH0 XF):=fb Tryz.func245 31 [] [] [(3,[(4,0,30,0)])]
abbrev XG:Type:=(Int×Int×(List A8)×Int×Unit)
def rA (y:XG)(x:AF):Vn AF:=
 let b:=x.1
 let a:Bool:=(b+1)<7
 let c:=b+1
 let d:=cond a (Fz .i64 (EW y.2.1 c 64) (1:Int)==1) false
 (A5 (b+1)/\(a->A5 (b+1))/\(a->0<=c)/\(d->A5 (b+1)),d,(b+1,()))
def tK1 y x:=(rA y x).1
def rH5 y x:=(rA y x).2.1
def tA7 y x:=(rA y x).2.2
instance (y x):Decidable (tK1 y x):=by unfold tK1 rA;dsimp only;infer_instance
def sR9 (y:XG)(x:AF):Int:=
 x.1
def rX0:List (Nat×Sh):=[(0,vI),(1,vI),(5,Cd),(6,vI),(7,vI)]
def oD:=li [(0,vI),(1,vI),(5,Cd),(6,vI)] [(7,vI)] rH5 tA7 tK1 (λy x=>[ex 4 none rX0 (y.1,y.2.1,y.2.2.1,y.2.2.2.1,(sR9 y x),())]) [rX0]
abbrev HM:Type:=(Unit)
def rA0 (y:HM)(x:XG):Vn XG:=
 let e:=x.1
 let o:=x.2.1
 let q:=x.2.2.1
 let d:=x.2.2.2.1
 let s:Bool:=d<7
 let b:=Fz .i64 (EW o d 64) (1:Int)==0
 let f:=(e,o,q,d,())
 let t:=(d,())
 let a:=sR9 f (A3 (rH5 f) (tA7 f) t)
 let g:=100*e
 let h:=100*d
 let i:=700-h
 let j:=100*e
 let k:=j+100
 let l:=100*a
 let m:=600-l
 let n:=XF g i k m
 let c:=b||(!b)
 let r:=cond b d a
 (s->0<=d/\(!b->AA (rH5 f) (tA7 f) (tK1 f) t/\A5 (100*e)/\A5 (100*d)/\A5 (700-h)/\A5 (100*e)/\A5 (j+100)/\A5 (100*a)/\A5 (600-l)/\qH0 g i k m/\((length q+length n:Nat):Int)<=4294967296)/\(c->A5 (r+1)),s&&c,(cond b e e,cond b o o,cond b q (q++n),r+1,()))
def tK2 y x:=(rA0 y x).1
def rH6 y x:=(rA0 y x).2.1
def tA9 y x:=(rA0 y x).2.2
instance (y x):Decidable (tK2 y x):=by unfold tK2 rA0;dsimp only;infer_instance
def sS (y:HM)(x:XG):(List A8):=
 x.2.2.1
def oD0:=li [] [(0,vI),(1,vI),(5,Cd),(6,vI)] rH6 tA9 tK2 (λy x=>[ex 2 none [(5,Cd)] ((sS y x),())]) [[(5,Cd)]]
def mO7 (b c:Int):Prop×(List A8):=
 let a:=(b,c,([]:List A8),(0:Int),())
 (AA (rH6 ()) (tA9 ()) (tK2 ()) a,sS () (A3 (rH6 ()) (tA9 ()) a))
def qH1 a b:=(mO7 a b).1
def XH a b:=(mO7 a b).2
instance (a b):Decidable (qH1 a b):=by unfold qH1 mO7;dsimp only;infer_instance
theorem mO8:SK 209 (BD vI vI Bk qH1 XH):=fb Tryz.func209 47 [kb mO6] [(3,oD0),(7,oD)] [(19,[(4,0,44,1005)]),(23,[(4,0,1005,0)])]
abbrev vY9:Type:=((List UInt8)×(List (List UInt8))×Int×Int×Int×Unit)
abbrev vE:Type:=((Int×Int×Int×(List C6)×(List DD)×Unit)×(Int×Int×Int×(List C6)×(List DD)×Unit)×(Int×Int×(List A8)×Unit)×Int×Unit)
def rA1 (y:vY9)(x:vE):Vn vE:=
 let o:=y.1
 let b:=x.1
 let c:=x.2.1
 let q:=x.2.2.1
 let a:=x.2.2.2.1
 let d:Bool:=a<y.2.2.2.2.1
 let e:=2*a
 let f:=BP o e
 let g:=PQ ([48,49,50,51,52,53,54,55,56,57,97,98,99,100,101,102]:List UInt8) f
 let h:=16*g
 let i:=2*a
 let j:=i+1
 let k:=BP o j
 let l:=PQ ([48,49,50,51,52,53,54,55,56,57,97,98,99,100,101,102]:List UInt8) k
 let m:=h+l
 let n:=XH a m
 (d->A5 (2*a)/\A6 e (len o)/\XE ([48,49,50,51,52,53,54,55,56,57,97,98,99,100,101,102]:List UInt8) f/\A5 (16*g)/\A5 (2*a)/\A5 (i+1)/\A6 j (len o)/\XE ([48,49,50,51,52,53,54,55,56,57,97,98,99,100,101,102]:List UInt8) k/\A5 (h+l)/\qH1 a m/\((length q.2.2.1+length n:Nat):Int)<=4294967296/\A5 (a+1),d,(b,c,(q.1,q.2.1,q.2.2.1++n,()),a+1,()))
def tK3 y x:=(rA1 y x).1
def rH7 y x:=(rA1 y x).2.1
def tB y x:=(rA1 y x).2.2
instance (y x):Decidable (tK3 y x):=by unfold tK3 rA1;dsimp only;infer_instance
def sS0 (y:vY9)(x:vE):(Int×Int×Int×(List C6)×(List DD)×Unit):=
 let a:=x.1
 a
def sS1 (y:vY9)(x:vE):(Int×Int×Int×(List C6)×(List DD)×Unit):=
 let a:=x.2.1
 a
def sS2 (y:vY9)(x:vE):(Int×Int×(List A8)×Unit):=
 let a:=x.2.2.1
 (a.1,a.2.1,a.2.2.1,())
def rX1:List (Nat×Sh):=[(0,Ae),(1,Af),(4,Bs),(8,Be),(9,vI),(10,vI)]
def oD1:=li [(3,vS),(8,Be),(9,vI),(10,vI),(21,vI)] [(0,Ae),(1,Af),(4,Bs),(22,vI)] rH7 tB tK3 (λy x=>[ex 4 none rX1 ((sS0 y x),(sS1 y x),(sS2 y x),y.2.1,y.2.2.1,y.2.2.2.1,())]) [rX1]
abbrev TH:Type:=((List (List UInt8))×Int×Unit)
abbrev NX:Type:=((Int×Int×Int×(List C6)×(List DD)×Unit)×(Int×Int×Int×(List C6)×(List DD)×Unit)×Int×Unit)
def rA2 (y:TH)(x:NX):Vn NX:=
 let l:=y.1
 let n:=y.2.1
 let f:=x.1
 let g:=x.2.1
 let d:=x.2.2.1
 let h:Bool:=d<n
 let i:=nth l d ([]:List UInt8)
 let j:=len i
 let e:=(i,l,n,d,tdiv j (2:Int),())
 let o:=(f,g,(IntKind.wrap .u8 (32+d),(600:Int),([]:List A8),()),(0:Int),())
 let m:=A3 (rH7 e) (tB e) o
 let b:=sS0 e m
 let a:=sS1 e m
 let c:=sS2 e m
 let k:=([(c.1,c.2.1,c.2.2.1,())]:List C6)
 (h->A6 d (len l)/\A5 (32+d)/\A5 (tdiv j (2:Int))/\AA (rH7 e) (tB e) (tK3 e) o/\((length a.2.2.2.1+length k:Nat):Int)<=4294967296/\A5 (d+1),h,(b,(a.1,a.2.1,a.2.2.1,a.2.2.2.1++k,a.2.2.2.2.1,()),d+1,()))
def tK4 y x:=(rA2 y x).1
def rH8 y x:=(rA2 y x).2.1
def tB0 y x:=(rA2 y x).2.2
instance (y x):Decidable (tK4 y x):=by unfold tK4 rA2;dsimp only;infer_instance
def qT0 (y:TH)(x:NX):(Int×Int×Int×(List C6)×(List DD)×Unit):=
 let a:=x.1
 a
def sS3 (y:TH)(x:NX):(Int×Int×Int×(List C6)×(List DD)×Unit):=
 let a:=x.2.1
 a
def rX2:List (Nat×Sh):=[(0,Ae),(1,Af)]
def oD2:=li [(8,Be),(9,vI)] [(0,Ae),(1,Af),(10,vI)] rH8 tB0 tK4 (λy x=>[ex 2 none rX2 ((qT0 y x),(sS3 y x),())]) [rX2]
def mO9 :Prop×A7:=
 let d:=PO WR
 let b:=(d,len d,())
 let e:=(((0:Int),(0:Int),(0:Int),([]:List C6),([]:List DD),()),((1000:Int),(800:Int),(1200:Int),([]:List C6),([]:List DD),()),(0:Int),())
 let a:=sS3 b (A3 (rH8 b) (tB0 b) e)
 let c:=(a.1,a.2.1,a.2.2.1,a.2.2.2.1,([((65:Int),(86:Int),(-100:Int),()),((76:Int),(84:Int),(-100:Int),()),((84:Int),(97:Int),(-100:Int),()),((86:Int),(65:Int),(-100:Int),())]:List DD),())
 (XD WR/\AA (rH8 b) (tB0 b) (tK4 b) e,c)
def TI :Prop:=(mO9).1
def Iw :A7:=(mO9).2
instance:Decidable TI:=by unfold TI mO9;dsimp only;infer_instance
def oQ1:Am.Spec:=fnSpec [] Bm [] (λx=>TI ) (λx=>Iw ) (λ_=>())
theorem mP:SK 166 (fnSpec [] Bm [] (λx=>TI ) (λx=>Iw ) (λ_=>())):=fb Tryz.func166 60 [kb mO2,kb mO4,kb mO8] [(3,oD2),(7,oD1)] [(21,[(4,0,43,400400)]),(25,[(4,0,50,400100)]),(29,[(4,0,57,400101)]),(31,[(4,0,400100,400000),(4,0,400101,400001)])]
abbrev PR:Type:=((List (List A0))×C3×(List (List A0))×Int×Unit)
def XI (y:PR)(x:vD):Vm vD:=
 let d:=y.2.2.1
 let g:=x.1
 let a:=x.2.1
 let b:Bool:=a<y.2.2.2.1
 let e:=len (nth d a ([]:List A0))
 let f:=g+e
 let c:Bool:=f>4096
 (b->A6 a (len d)/\A5 (g+e)/\(!c->A5 (a+1)),b&&(!c),(f,a+1,()),b&&c,!b)
def tK5 y x:=(XI y x).1
def wP y x:=(XI y x).2.1
def Ix y x:=(XI y x).2.2.1
def NY y x:=(XI y x).2.2.2.1
def sJ6 y x:=(XI y x).2.2.2.2
def tB1 (y:PR)(x:vD):(List (List A0)):=
 ([]:List (List A0))
def sS4 (y:PR)(x:vD):Int:=
 (3:Int)
def rX3:List (Nat×Sh):=[(4,Av),(5,vI)]
def rX4:List (Nat×Sh):=[(0,Ak),(3,Bp)]
def oD3:=li [(0,Ak),(3,Bp),(21,Ak),(22,vI)] [(7,vI),(23,vI)] wP Ix tK5 (λy x=>[ex 1 (some (NY y x)) rX3 ((tB1 y x),(sS4 y x),()),ex 2 (some (sJ6 y x)) rX4 (y.1,y.2.1,())]) [rX3,rX4]
abbrev TJ:Type:=(C3×Int×(List (List A0))×Int×Int×(List A0)×Int×Unit)
abbrev NZ:Type:=(((List (List A0))×Nat)×Int×Unit)
def XJ (y:TJ)(x:NZ):Vm NZ:=
 let l:=y.1
 let g:=y.2.1
 let j:=(Q1 y).1
 let a:=x.1
 let b:=x.2.1
 let d:Bool:=b<(Q3 y).1
 let e:=nth j b A1
 let f:=f199 e
 let h:=DP l e
 let i:=f199 h
 let k:=List.getD a.1 a.2 []
 let c:=(!f)&&(!i)
 (d->A6 b (len j)/\Tn e/\(!f->p7 l e/\Tn h/\(!i->A6 g (len a.1)/\(toNat g=a.2/\g<len a.1)/\A6 b (len k)/\b<len k))/\(c->A5 (b+1)),d&&c,((set a.1 a.2 (set (List.getD a.1 a.2 []) (toNat b) h),a.2),b+1,()),d&&(f||((!f)&&i)),!d)
def PS y x:=(XJ y x).1
def Ee y x:=(XJ y x).2.1
def Ek y x:=(XJ y x).2.2.1
def vZ y x:=(XJ y x).2.2.2.1
def wO y x:=(XJ y x).2.2.2.2
def uP0 (y:TJ)(x:NZ):(List (List A0)):=
 ([]:List (List A0))
def tY9 (y:TJ)(x:NZ):Int:=
 (cond (f199 (nth (Q1 y).1 x.2.1 A1)) (2:Int) (2:Int))
def rH9:List (Nat×Sh):=[(4,Av),(5,vI)]
def tZ (y:TJ)(x:NZ):((List (List A0))×Nat):=
 let a:=x.1
 (a.1,a.2)
def rI:List (Nat×Sh):=[(3,Bp),(10,(.ownh AQ 1010 48 true)),(37,Ak),(38,vI),(39,vI)]
def pF1:=li [(3,Bp),(11,vI),(37,Ak),(38,vI),(39,vI),(50,Bd),(51,vI)] [(10,(.ownh AQ 1010 48 true)),(52,vI)] Ee Ek PS (λy x=>[ex 1 (some (vZ y x)) rH9 ((uP0 y x),(tY9 y x),()),ex 6 (some (wO y x)) rI (y.1,(tZ y x),y.2.2.1,y.2.2.2.1,y.2.2.2.2.1,())]) [rH9,rI]
abbrev Oa:Type:=(C3×(List (List A0))×Int×Unit)
def XK (y:Oa)(x:CH):Vm CH:=
 let g:=y.2.1
 let j:=y.2.2.1
 let f:=x.1
 let a:=x.2.1
 let e:Bool:=a<j
 let i:=nth g a ([]:List A0)
 let d:=len i
 let b:=(y.1,a,g,j,a,i,len i,())
 let k:=((set f (toNat a) (replicate (toNat d) A1),toNat a),(0:Int),())
 let h:=A3 (Ee b) (Ek b) k
 let c:=wO b h
 (e->A6 a (len g)/\(0<=d/\d<=d/\d<=4294967296)/\A6 a (len f)/\a<len f/\AA (Ee b) (Ek b) (PS b) k/\(c->A5 (a+1)),e&&c,((tZ b h).1,a+1,()),e&&vZ b h,!e)
def PT y x:=(XK y x).1
def Gl y x:=(XK y x).2.1
def FW y x:=(XK y x).2.2.1
def Lj y x:=(XK y x).2.2.2.1
def pF2 y x:=(XK y x).2.2.2.2
def XL (y:Oa)(x:CH):(List (List A0)):=
 let d:=y.2.1
 let a:=x.2.1
 let b:=nth d a ([]:List A0)
 let c:=(y.1,a,d,y.2.2.1,a,b,len b,())
 (uP0 c (A3 (Ee c) (Ek c) ((set x.1 (toNat a) (replicate (toNat (len b)) A1),toNat a),(0:Int),())))
def vS1 (y:Oa)(x:CH):Int:=
 let d:=y.2.1
 let a:=x.2.1
 let b:=nth d a ([]:List A0)
 let c:=(y.1,a,d,y.2.2.1,a,b,len b,())
 (tY9 c (A3 (Ee c) (Ek c) ((set x.1 (toNat a) (replicate (toNat (len b)) A1),toNat a),(0:Int),())))
def rI0:List (Nat×Sh):=[(4,Av),(5,vI)]
def tZ0 (y:Oa)(x:CH):(List (List A0)):=
 x.1
def rI1:List (Nat×Sh):=[(10,(.own Ad 1010 true))]
def pF3:=li [(3,Bp),(37,Ak),(38,vI)] [(10,(.own Ad 1010 true)),(39,vI)] Gl FW PT (λy x=>[ex 1 (some (Lj y x)) rI0 ((XL y x),(vS1 y x),()),ex 4 (some (pF2 y x)) rI1 ((tZ0 y x),())]) [rI0,rI1]
def mP0 (l:(List (List A0)))(m:C3):Prop×((List (List A0))×Int×Unit):=
 let h:=ES m
 let g:=h !=0
 let e:=(l,m,l,len l,())
 let k:=((0:Int),(0:Int),())
 let j:=A3 (wP e) (Ix e) k
 let f:=NY e j
 let c:=len l
 let a:=(m,l,len l,())
 let i:=(replicate (toNat c) ([]:List A0),(0:Int),())
 let d:=A3 (Gl a) (FW a) i
 let b:=Lj a d
 (ND m/\(!g->AA (wP e) (Ix e) (tK5 e) k/\(sJ6 e j->(0<=c/\c<=c/\c<=4294967296)/\AA (Gl a) (FW a) (PT a) i)),(cond g [] (cond f (tB1 e j) (cond b (XL a d) (tZ0 a d))),cond g h (cond f (sS4 e j) (cond b (vS1 a d) (0:Int))),()))
def qH2 a b:=(mP0 a b).1
def FA a b:=(mP0 a b).2
def oQ2:=BD Ak Az (.tup (.cons Ak (.cons vI .nl))) qH2 FA
theorem mP1:SK 167 (BD Ak Az (.tup (.cons Ak (.cons vI .nl))) qH2 FA):=fb Tryz.func167 74 [kb j9,kb oP,kb pC4] [(6,oD3),(14,pF3),(18,pF1)] [(25,[(4,0,36,1010)]),(54,[(1,10,0,0)]),(57,[(1,4,0,0),(4,0,1010,0)])] false [] [36,48]
def nQ1 (g:AK):Prop×Int:=
 let a:=DF Iw (Qj g).1 (Ql g).1 (Qm g).1
 let c:=a.2.1 !=0
 let b:=FA a.1 (Q2 g).1
 let d:=b.2.1 !=0
 let e:=DT b.1 (0:Int)
 let f:=e !=0
 (TI/\PN Iw (Qj g).1 (Ql g).1 (Qm g).1/\(!c->qH2 a.1 (Q2 g).1/\(!d->PE b.1 (0:Int)/\(!f->Tm (Q9 g).1))),cond c a.2.1 (cond d b.2.1 (cond f e (Hj (Q9 g).1))))
def qH3 a:=(nQ1 a).1
def Mm a:=(nQ1 a).2
def oQ3:=AS Bc vI qH3 Mm
def nQ2:=Cy [(121,oO7),(164,oP1),(165,oQ),(166,oQ1),(167,oQ2)] [] [(3,[(4,0,14,1003)])] 38
theorem mP2:SK 124 oQ3:=fq (c:=nQ2) Tryz.func124 ⟨pC0,pD1,mN9,mP,mP1,trivial⟩
def TK (j k:Int):Prop×Bool:=
 let i:=j==2
 let e:=j==3
 let f:=j==4
 let a:=cond f f (j==11)
 let g:=j==5
 let b:=cond g g (j==9)
 let h:=j==6
 let c:=cond h h (j==7)
 let d:=cond e (cond (cond (k≥4) (decide (k<=16)) false) (Int.tmod k (2:Int)==0) false) (cond a (k==2) (cond b (k==3) (cond c (k==1) (k==9))))
 (True,cond (cond i true (cond e true (cond a true (cond b true (cond c true (j==8)))))) (cond i (k==5) d) (k==0))
def pF4 a b:=(TK a b).1
def Gm a b:=(TK a b).2
theorem mP3:SK 168 (BD vI vI vB pF4 Gm):=fb Tryz.func168 44
def mP4 (k l:Int):Prop×(Int×Int×Unit):=
 let b:=cond (k==2) (l==2) false
 let i:=k==4
 let j:=cond (k==5) (decide (l>0)) false
 let a:=cond i i (cond j j (cond (k==11) (l==1) false))
 let c:=k==5
 let d:=k==7
 let e:=k==8
 let f:=cond b true (cond a true (cond c true (cond d true (cond e true (k==11)))))
 let g:=cond f (cond b (1:Int) (cond a (-65535:Int) (cond c (-32768:Int) (cond d (2:Int) (cond e (-262140:Int) (-128:Int)))))) (0:Int)
 let h:=cond f (cond b (256:Int) (cond a (65535:Int) (cond c (32768:Int) (cond d (256:Int) (cond e (262140:Int) (128:Int)))))) (65535:Int)
 (True,(g,h,()))
def pF5 a b:=(mP4 a b).1
def Mn a b:=(mP4 a b).2
theorem mP5:SK 210 (BD vI vI (.tup (.cons vI (.cons vI .nl))) pF5 Mn):=fb Tryz.func210 40
abbrev vZ0:Type:=(Int×(List Int)×(List AX)×(List Int)×Int×Unit)
def PU (y:vZ0)(x:AF):Vm AF:=
 let g:=y.1
 let d:=y.2.2.2.1
 let a:=x.1
 let b:Bool:=a<y.2.2.2.2.1
 let e:=nth d a (0:Int)
 let f:=Mn g a
 let c:=cond (e<f.1) true (e>f.2.1)
 (b->A6 a (len d)/\pF5 g a/\(!c->A5 (a+1)),b&&(!c),(a+1,()),b&&c,!b)
def rX5 y x:=(PU y x).1
def Mo y x:=(PU y x).2.1
def Ob y x:=(PU y x).2.2.1
def TL y x:=(PU y x).2.2.2.1
def tK6 y x:=(PU y x).2.2.2.2
def sS5 (y:vZ0)(x:AF):Bool:=
 false
def rX6:List (Nat×Sh):=[(0,vI),(1,Ah),(2,Ap)]
def oD5:=li [(0,vI),(1,Ah),(2,Ap),(13,Ah),(14,vI)] [(15,vI)] Mo Ob rX5 (λy x=>[ex 1 (some (TL y x)) [(6,vB)] ((sS5 y x),()),ex 2 (some (tK6 y x)) rX6 (y.1,y.2.1,y.2.2.1,())]) [[(6,vB)],rX6]
abbrev vJ:Type:=((List AX)×Int×Unit)
def PV (y:vJ)(x:AF):Vm AF:=
 let e:=y.1
 let a:=x.1
 let b:Bool:=a<y.2.1
 let c:=nth e a CO
 let f:=cond (c.1<0) true (c.1>65535)
 let d:=cond f true (!(NI c.2.1))
 (b->A6 a (len e)/\(!f->NH c.2.1)/\(!d->A5 (a+1)),b&&(!d),(a+1,()),b&&d,!b)
def uP2 y x:=(PV y x).1
def Mp y x:=(PV y x).2.1
def Oc y x:=(PV y x).2.2.1
def TM y x:=(PV y x).2.2.2.1
def pF6 y x:=(PV y x).2.2.2.2
def tZ1 (y:vJ)(x:AF):Bool:=
 false
def pF7:=li [(55,Ap),(56,vI)] [(57,vI)] Mp Oc uP2 (λy x=>[ex 1 (some (TM y x)) [(6,vB)] ((tZ1 y x),()),ex 4 (some (pF6 y x)) [] ()]) [[(6,vB)],[]]
def lL2 (k:Int)(l:List Int)(m:List AX):Prop×Bool:=
 let b:=(k,l,m,l,len l,())
 let j:=((0:Int),())
 let i:=A3 (Mo b) (Ob b) j
 let d:=k==9
 let e:=cond d (nth l (0:Int) (0:Int)==0) false
 let f:=cond e (nth l (1:Int) (0:Int)==0) false
 let g:=cond f (nth l (2:Int) (0:Int)==0) false
 let a:=(m,len m,())
 let h:=((0:Int),())
 let c:=A3 (Mp a) (Oc a) h
 (AA (Mo b) (Ob b) (rX5 b) j/\(tK6 b i->(d->A6 (0:Int) (len l))/\(e->A6 (1:Int) (len l))/\(f->A6 (2:Int) (len l))/\(!g->AA (Mp a) (Oc a) (uP2 a) h)),cond (TL b i) (sS5 b i) (cond g false (cond (TM a c) (tZ1 a c) true)))
def pF8 a b c:=(lL2 a b c).1
def Ke a b c:=(lL2 a b c).2
theorem mP6:SK 169 (DR vI Ah Ap vB pF8 Ke):=fb Tryz.func169 76 [kb l5,kb mP5] [(2,oD5),(11,pF7)]
abbrev vZ2:Type:=((List Int)×(List AX)×Unit)
def PW (y:vZ2)(x:AF):Vm AF:=
 let d:=y.1
 let b:=x.1
 let a:Bool:=b<len d
 let e:=b-2
 let c:Bool:=nth d b (0:Int)<=nth d e (0:Int)
 (a->A6 b (len d)/\A5 (b-2)/\A6 e (len d)/\(!c->A5 (b+2)),a&&(!c),(b+2,()),a&&c,!a)
def sJ7 y x:=(PW y x).1
def Od y x:=(PW y x).2.1
def PX y x:=(PW y x).2.2.1
def TN y x:=(PW y x).2.2.2.1
def rX7 y x:=(PW y x).2.2.2.2
def sS6 (y:vZ2)(x:AF):Bool:=
 false
def oD6:=li [(1,Ah),(2,Ap)] [(7,vI)] Od PX sJ7 (λy x=>[ex 1 (some (TN y x)) [(6,vB)] ((sS6 y x),()),ex 2 (some (rX7 y x)) [(2,Ap)] (y.2.1,())]) [[(6,vB)],[(2,Ap)]]
abbrev vJ1:Type:=((List AX)×Unit)
def XM (y:vJ1)(x:AF):Vm AF:=
 let d:=y.1
 let b:=x.1
 let a:Bool:=b<len d
 let e:=b-1
 let c:Bool:=(nth d b CO).1<=(nth d e CO).1
 (a->A6 b (len d)/\A5 (b-1)/\A6 e (len d)/\(!c->A5 (b+1)),a&&(!c),(b+1,()),a&&c,!a)
def tS4 y x:=(XM y x).1
def Oe y x:=(XM y x).2.1
def Of y x:=(XM y x).2.2.1
def TO y x:=(XM y x).2.2.2.1
def pF9 y x:=(XM y x).2.2.2.2
def tZ2 (y:vJ1)(x:AF):Bool:=
 false
def pG:=li [(2,Ap)] [(8,vI)] Oe Of tS4 (λy x=>[ex 1 (some (TO y x)) [(6,vB)] ((tZ2 y x),()),ex 4 (some (pF9 y x)) [] ()]) [[(6,vB)],[]]
def lL3 (j:Int)(k:List Int)(l:List AX):Prop×Bool:=
 let d:=j==2
 let f:=cond d (decide (nth k (1:Int) (0:Int)<=nth k (0:Int) (0:Int))) false
 let b:=j==3
 let c:=(k,l,())
 let i:=((2:Int),())
 let h:=A3 (Od c) (PX c) i
 let a:=(cond b l l,())
 let g:=((1:Int),())
 let e:=A3 (Oe a) (Of a) g
 ((d->A6 (1:Int) (len k))/\(d->A6 (0:Int) (len k))/\(!f->(b->AA (Od c) (PX c) (sJ7 c) i)/\((cond b (rX7 c h) true)=true->AA (Oe a) (Of a) (tS4 a) g)),cond f false (cond (TN c h&&b) (sS6 c h) (cond (TO a e) (tZ2 a e) true)))
def pG0 a b c:=(lL3 a b c).1
def Kf a b c:=(lL3 a b c).2
theorem mP7:SK 170 (DR vI Ah Ap vB pG0 Kf):=fb Tryz.func170 56 [] [(5,oD6),(10,pG)]
def XN (g:Int)(h:List Int)(i:List AX):Prop×Int:=
 let a:=cond (g<1) true (g>11)
 let f:=len h
 let b:=cond (!(Gm g f)) true (!(Ty.eqb .bool (decide (len i>0)) (g==10)))
 let c:Bool:=len i>16
 let d:=!(Ke g h i)
 let e:=cond (cond a true (cond b true (cond c true (cond d true (!(Kf g h i)))))) (cond a (8:Int) (cond b (1:Int) (cond c (3:Int) (cond d (2:Int) (24:Int))))) (0:Int)
 (a=false->pF4 g f/\(b=false->c=false->pF8 g h i/\(d=false->pG0 g h i)),e)
def pG1 a b c:=(XN a b c).1
def Hm a b c:=(XN a b c).2
theorem mP8:SK 125 (DR vI Ah Ap vI pG1 Hm):=fb Tryz.func125 44 [kb mP3,kb mP6,kb mP7]
def lL4 (j:Int):Prop×(List A0):=
 let h:=j==1
 let i:=j==7
 let a:=cond h h (cond i i (j==8))
 let d:=j==2
 let e:=j==4
 let f:=j==3
 let g:=j==9
 let b:=cond f ([((0:Int),(16:Int),()),((0:Int),(262140:Int),())]:List A0) (cond g ([((-16:Int),(16:Int),()),((-16:Int),(16:Int),())]:List A0) ([((1:Int),(16:Int),())]:List A0))
 let c:=cond (cond a true (cond d true (cond e true (cond f true (cond g true (j==10)))))) (cond a ([((0:Int),(16:Int),())]:List A0) (cond d ([((0:Int),(7:Int),())]:List A0) (cond e ([((0:Int),(4:Int),())]:List A0) b))) []
 (True,c)
def pG2 a:=(lL4 a).1
def CY a:=(lL4 a).2
theorem mP9:SK 171 (AS vI Bx pG2 CY):=fb Tryz.func171 32 [] [] [(11,[(4,0,9,0)]),(15,[(4,0,13,0)]),(19,[(4,0,17,0)]),(23,[(4,0,22,0)]),(27,[(4,0,27,0)]),(31,[(4,0,31,0)])]
abbrev vZ3:Type:=((List A0)×(List Int)×Int×Unit)
def XO (y:vZ3)(x:AF):Vm AF:=
 let g:=y.1
 let d:=y.2.1
 let a:=x.1
 let b:Bool:=a<y.2.2.1
 let e:=nth d a (0:Int)
 let f:Bool:=e<(nth g a A1).1
 let c:=cond f true (e>(nth g a A1).2.1)
 (b->A6 a (len d)/\A6 a (len g)/\(!f->A6 a (len g))/\(!c->A5 (a+1)),b&&(!c),(a+1,()),b&&c,!b)
def rX8 y x:=(XO y x).1
def Iy y x:=(XO y x).2.1
def Iz y x:=(XO y x).2.2.1
def Kg y x:=(XO y x).2.2.2.1
def oD7 y x:=(XO y x).2.2.2.2
def sS7 (y:vZ3)(x:AF):Int:=
 (2:Int)
def oD8:=li [(5,Bq),(21,Ah),(22,vI)] [(23,vI)] Iy Iz rX8 (λy x=>[ex 1 (some (Kg y x)) [(4,vI)] ((sS7 y x),()),ex 2 (some (oD7 y x)) [] ()]) [[(4,vI)],[]]
def mQ (g:Int)(h:List Int):Prop×Int:=
 let b:=cond (g<1) true (g>10)
 let c:=CY g
 let d:=len h !=len c
 let a:=(c,h,len h,())
 let f:=((0:Int),())
 let e:=A3 (Iy a) (Iz a) f
 (!b->pG2 g/\(!d->AA (Iy a) (Iz a) (rX8 a) f),cond b (8:Int) (cond d (1:Int) (cond (Kg a e) (sS7 a e) (0:Int))))
def pG3 a b:=(mQ a b).1
def EG a b:=(mQ a b).2
theorem mQ0:SK 126 (BD vI Ah vI pG3 EG):=fb Tryz.func126 45 [kb mP9] [(7,oD8)] [(7,[(4,0,15,1005)])]
def XP (y:CX)(x:AF):Vm AF:=
 let e:=y.1
 let a:=x.1
 let b:Bool:=a<y.2.1
 let c:=nth e a A1
 let d:=cond (cond (cond (c.1<(-1048576)) true (c.1>1048576)) true (c.2.1<(-1048576))) true (c.2.1>1048576)
 (b->A6 a (len e)/\(!d->A5 (a+1)),b&&(!d),(a+1,()),b&&d,!b)
def sJ8 y x:=(XP y x).1
def tZ5 y x:=(XP y x).2.1
def uG4 y x:=(XP y x).2.2.1
def rX9 y x:=(XP y x).2.2.2.1
def oD9 y x:=(XP y x).2.2.2.2
def sS8 (y:CX)(x:AF):Int:=
 (2:Int)
def oE:=li [(43,Bd),(44,vI)] [(45,vI)] tZ5 uG4 sJ8 (λy x=>[ex 1 (some (rX9 y x)) [(2,vI)] ((sS8 y x),()),ex 2 (some (oD9 y x)) [] ()]) [[(2,vI)],[]]
def lL5 (g:Jd):Prop×Int:=
 let b:=cond (cond (cond (g.1<2) true (g.1>8)) true (g.2.1<2)) true (g.2.1>8)
 let c:=cond (g.2.2.1<1) true (g.2.2.1>256)
 let d:=cond c true (len g.2.2.2.1!=(g.1*g.2.1))
 let a:=(g.2.2.2.1,len g.2.2.2.1,())
 let f:=((0:Int),())
 let e:=A3 (tZ5 a) (uG4 a) f
 (!b->(!c->A5 (g.1*g.2.1))/\(!d->AA (tZ5 a) (uG4 a) (sJ8 a) f),cond b (15:Int) (cond d (15:Int) (cond (rX9 a e) (sS8 a e) (0:Int))))
def qH4 a:=(lL5 a).1
def Mq a:=(lL5 a).2
theorem mQ1:SK 127 (AS Da vI qH4 Mq):=fb Tryz.func127 68 [] [(6,oE)]
def PY (o:AK):Prop×Int:=
 let m:=o.2.1==2
 let a:=o.2.1==3
 let b:=o.2.1==4
 let c:=o.2.1==5
 let d:=o.2.1==6
 let e:=o.2.1==7
 let f:=o.2.1==8
 let k:=o.2.1==9
 let g:=cond k k (o.2.1==10)
 let l:=o.2.1==11
 let n:=cond f true (cond g (cond ((Qh o).1<1) true ((Qh o).1>1073741824)) l)
 let h:=cond e (Hm (Qc o).1 (Qa o).1 (Qd o).1) (cond f (EG (Qc o).1 (Qa o).1) (cond g (2:Int) (Mq (Qk o).1)))
 let i:=cond b (Ma (Qc o).1 (Qa o).1 (Qe o).1 (Qd o).1) (cond c (Kc o) (cond d (Mm o) h))
 let j:=cond (cond m true (cond a true (cond b true (cond c true (cond d true (cond e true n)))))) (cond m (Lc (Q6 o).1) (cond a (Hj (Q9 o).1) i)) (0:Int)
 ((m->P5 (Q6 o).1)/\(m=false->(a->Tm (Q9 o).1)/\(a=false->(b->pC3 (Qc o).1 (Qa o).1 (Qe o).1 (Qd o).1)/\(b=false->(c->pE1 o)/\(c=false->(d->qH3 o)/\(d=false->(e->pG1 (Qc o).1 (Qa o).1 (Qd o).1)/\(e=false->(f->pG3 (Qc o).1 (Qa o).1)/\(f=false->g=false->l->qH4 (Qk o).1))))))),j)
def oQ5 a:=(PY a).1
def TP a:=(PY a).2
theorem lL6:SK 86 (AS Bc vI oQ5 TP):=fb Tryz.func86 66 [kb mB8,kb pC0,kb mJ8,kb mN0,kb mP2,kb mP8,kb mQ0,kb mQ1]
def PZ (h:AK):Prop×Bool:=
 let c:=cond (cond (!(Ty.eqb HH (Q2 h).1 ((0:Int),(0:Int),(0:Int),(0:Int),(0:Int),(0:Int),()))) true ((Q7 h).1 !=0)) true (!(Ty.eqb GM (Q9 h).1 ((0:Int),(0:Int),(0:Int),(0:Int),())))
 let d:=cond (cond (cond ((Qc h).1 !=0) true (len (Qa h).1!=0)) true ((Qe h).1 !=0)) true (len (Qd h).1!=0)
 let e:=cond (cond (cond (len (Q8 h).1!=0) true ((Qi h).1 !=0)) true ((Qb h).1 !=0)) true ((Qf h).1 !=0)
 let f:=cond (cond (!((Qj h).1==([]:List UInt8))) true ((Ql h).1 !=0)) true ((Qm h).1 !=0)
 let b:=cond (cond ((Qk h).1.1==0) ((Qk h).1.2.1==0) false) ((Qk h).1.2.2.1==0) false
 let g:=cond (cond f true ((Qh h).1 !=0)) false (cond b (len (Qk h).1.2.2.2.1==0) false)
 let a:=cond (cond (cond ((Q6 h).1.1 !=0) true ((Q6 h).1.2.1 !=0)) true (len (Q6 h).1.2.2.1!=0)) false (cond d false (cond (cond e true ((Qg h).1 !=0)) false g))
 (True,cond c false a)
def oQ6 a:=(PZ a).1
def XQ a:=(PZ a).2
theorem lL7:SK 87 (AS Bc vB oQ6 XQ):=fb Tryz.func87 120
def XR (p:AK):Prop×AK:=
 let l:=(Va p ((0:Int),(0:Int),(0:Int),(0:Int),(0:Int),(0:Int),()) (Q7 p))
 let b:=cond (NA p.2.1) l p
 let m:=(Vb b (0:Int) (Q6 b))
 let a:=cond (NF b.2.1) m b
 let n:=(Vc a ((0:Int),(0:Int),([]:List CE),()) (Q9 a))
 let o:=(Vd a ((0:Int),(0:Int),(0:Int),(0:Int),()) (Qc a))
 let d:=(Ve a (0:Int) (([]:List Int),(0:Int),([]:List AX),(Q8 a)))
 let e:=(Vd a ((0:Int),(0:Int),(0:Int),(0:Int),()) ((Qc a).1,(Qa a).1,(Qe a).1,(Qd a).1,([]:List A8),(0:Int),(0:Int),(0:Int),(0:Int),(Qj a)))
 let f:=(Vd a ((0:Int),(0:Int),(0:Int),(0:Int),()) ((Qc a).1,(Qa a).1,(Qe a).1,(Qd a).1,(Q8 a).1,(Qi a).1,(Qb a).1,(Qf a).1,(Qg a).1,([]:List UInt8),(0:Int),(0:Int),(Qh a)))
 let g:=(Ve a (0:Int) (([]:List Int),(Qe a).1,([]:List AX),(Q8 a)))
 let h:=(Ve a (0:Int) (([]:List Int),(Qe a)))
 let k:=a.2.1==9
 let i:=(Vf a (0:Int) ((Qk a).1,()))
 let j:=(Vg a ((0:Int),(0:Int),(0:Int),([]:List A0),()) ())
 let c:=cond (a.2.1==6) f (cond (a.2.1==7) g (cond (a.2.1==8) h (cond (cond k k (a.2.1==10)) i (cond (a.2.1==11) j a))))
 (j7 p.2.1/\k7 b.2.1,cond (a.2.1==2) n (cond (a.2.1==3) o (cond (a.2.1==4) d (cond (a.2.1==5) e c))))
def pQ2 a:=(XR a).1
def TQ a:=(XR a).2
theorem lL8:SK 88 (AS Bc Bc pQ2 TQ):=fb Tryz.func88 62 [kb mB6,kb mB7]
def XS (n:AK)(o p:Int):Prop×Int:=
 let d:=Lb n o p
 let e:=d !=0
 let b:=NA n.2.1
 let f:=ES (Q2 n).1
 let a:=f !=0
 let g:=Tj (Q2 n).1
 let h:=g.2.1 !=0
 let i:=NF n.2.1
 let j:=cond i (!(k8 (Q7 n).1)) false
 let k:=TP n
 let l:=k !=0
 let m:=TQ n
 let c:=cond e d (cond ((a||((!a)&&h))&&b) (cond a f g.2.1) (cond j (8:Int) (cond l k (cond (!(XQ m)) (1:Int) (0:Int)))))
 (oN9 n o p/\(!e->j7 n.2.1/\(b->ND (Q2 n).1/\(!a->oO3 (Q2 n).1))/\((cond b ((!a)&&(!h)) true)=true->k7 n.2.1/\(i->oO4 (Q7 n).1)/\(!j->oQ5 n/\(!l->pQ2 n/\oQ6 m)))),c)
def pQ3 a b c:=(XS a b c).1
def GO a b c:=(XS a b c).2
theorem lL9:SK 48 (DR Bc vI vI vI pQ3 GO):=fb Tryz.func48 55 [kb lJ1,kb mB6,kb j9,kb lJ5,kb mB7,kb lJ6,kb lL6,kb lL7,kb lL8]
abbrev wZ2:Type:=((List (Int×Int×Unit))×Int×AN×Unit)
def TR (y:wZ2)(x:AF):Vm AF:=
 let f:=y.2.1
 let d:=y.2.2.1
 let e:=x.1
 let a:=e !=0
 let b:=e==(nth d.2.2.2.1 f A9).2.2.1
 let c:=getD (Es Aa Aa e y.1) (0:Int)
 (a->A6 f (len d.2.2.2.1)/\(!b->A6 c (len d.2.2.2.1)),a&&(!b),((nth d.2.2.2.1 c A9).2.2.1,()),a&&b,!a)
def XT y x:=(TR y x).1
def TS y x:=(TR y x).2.1
def Qn y x:=(TR y x).2.2.1
def uG5 y x:=(TR y x).2.2.2.1
def qT1 y x:=(TR y x).2.2.2.2
def tO8 (y:wZ2)(x:AF):Bool:=
 true
def sS9:List (Nat×Sh):=[(1,By),(6,vB)]
def sT0:List (Nat×Sh):=[(1,By)]
def qT2:=li [(1,By),(2,vI),(3,An)] [(7,vI)] TS Qn XT (λy x=>[ex 1 (some (uG5 y x)) sS9 (y.1,(tO8 y x),()),ex 2 (some (qT1 y x)) sT0 (y.1,())]) [sS9,sT0]
def XU (f:AN)(g:(List (Int×Int×Unit)))(h:Int):Vn ((List (Int×Int×Unit))×Unit):=
 let c:=h-1
 let b:=(g,h,f,())
 let e:=((nth f.2.2.2.1 c A9).1,())
 let d:=A3 (TS b) (Qn b) e
 let a:=uG5 b d
 (A5 (h-1)/\A6 c (len f.2.2.2.1)/\AA (TS b) (Qn b) (XT b) e,cond a (tO8 b d) false,(cond a g g,()))
def XV a b c:=(XU a b c).1
def Mr a b c:=(XU a b c).2.1
def TT a b c:=(XU a b c).2.2
theorem oQ7:SK 49 (fnSpec [(0,Ag),(1,By),(2,vI)] vB [(1,By)] (λx=>XV x.1 x.2.1 x.2.2.1) (λx=>Mr x.1 x.2.1 x.2.2.1) (λx=>TT x.1 x.2.1 x.2.2.1)):=fx (λc=>{ c with maps:=maps }) Tryz.func49 33 [] [(2,qT2)] [] false [1]
abbrev Lk:Type:=(AN×(List AK)×Int×Unit)
abbrev XW:Type:=((List (Int×Int×Unit))×(List Int)×Int×Unit)
def TU (y:Lk)(x:XW):Vm XW:=
 let g:=y.1
 let q:=y.2.1
 let d:=x.1
 let v:=x.2.1
 let a:=x.2.2.1
 let h:Bool:=a<y.2.2.1
 let c:=nth q a A9
 let i:=GO c g.1 g.2.1!=0
 let j:=cond (c.1<1) true (c.1≥g.2.2.2.2.1)
 let k:=isSome (Es Aa Aa c.1 d)
 let b:=set v (toNat a) (1:Int)
 let e:=c.2.2.1 !=0
 let f:=getD (Es Aa Aa c.2.2.1 d) (0:Int)
 let r:=!(isSome (Es Aa Aa c.2.2.1 d))
 let l:=cond r true ((nth g.2.2.2.1 f A9).2.1 !=1)
 let o:=!(Mr g d a)
 let s:=nth b f (0:Int)
 let n:=cond e ((!l)&&(!o)) true
 let u:=cond e (set b (toNat a) (s+1)) b
 let t:Bool:=nth u a (0:Int)>8
 let m:=(!i)&&((!j)&&((!k)&&(n&&(!t))))
 (h->A6 a (len q)/\pQ3 c g.1 g.2.1/\(!i->!j->!k->A6 a (len v)/\a<len v/\(e->(!r->A6 f (len g.2.2.2.1))/\(!l->XV g d a/\0<length d/\length d=length d/\length d=length d/\length d=length d/\length d=length d/\(!o->A6 f (len b)/\f<len b/\A5 (s+1)/\A6 a (len b)/\a<len b)))/\(n->A6 a (len u)/\a<len u))/\(m->A5 (a+1)),h&&m,(G7 Aa Aa c.1 a (cond e (TT g d a).1 d),u,a+1,()),h&&(i||((!i)&&(j||((!j)&&(k||((!k)&&(((l||((!l)&&o))&&e)||(n&&t)))))))),!h)
def TV y x:=(TU y x).1
def GP y x:=(TU y x).2.1
def EH y x:=(TU y x).2.2.1
def TW y x:=(TU y x).2.2.2.1
def oQ8 y x:=(TU y x).2.2.2.2
def TX (y:Lk)(x:XW):Int:=
 let c:=y.1
 let g:=x.1
 let d:=x.2.2.1
 let a:=nth y.2.1 d A9
 let f:=GO a c.1 c.2.1
 let b:=cond (!(isSome (Es Aa Aa a.2.2.1 g))) true ((nth c.2.2.2.1 (getD (Es Aa Aa a.2.2.1 g) (0:Int)) A9).2.1 !=1)
 let e:=cond (isSome (Es Aa Aa a.1 g)) (10:Int) (cond ((b||((!b)&&(!(Mr c g d))))&&(a.2.2.1 !=0)) (cond b (9:Int) (24:Int)) (12:Int))
 (cond (f !=0) f (cond (cond (a.1<1) true (a.1≥c.2.2.2.2.1)) (2:Int) e))
def oQ9:=li [(1,An),(18,As),(19,vI)] [(3,(.own (GW Aa Aa) 1003 true)),(4,(.own Aa 1004 true)),(20,vI)] GP EH TV (λy x=>[ex 1 (some (TW y x)) [(2,vI)] ((TX y x),()),ex 2 (some (oQ8 y x)) [] ()]) [[(2,vI)],[]]
def Qo (e:AN):Prop×Int:=
 let a:=len e.2.2.2.1
 let b:=(e,e.2.2.2.1,len e.2.2.2.1,())
 let d:=(([]:List (Int×Int×Unit)),replicate (toNat a) (0:Int),(0:Int),())
 let c:=A3 (GP b) (EH b) d
 ((0<=a/\a<=a/\a<=4294967296)/\AA (GP b) (EH b) (TV b) d,cond (TW b c) (TX b c) (0:Int))
def XX a:=(Qo a).1
def Kh a:=(Qo a).2
theorem lM:SK 24 (AS Ag vI XX Kh):=fx (λc=>{ c with wants:=[(49,[1])],maps:=maps }) Tryz.func24 99 [kb lL9,kb oQ7] [(4,oQ9)] [(3,[(4,0,12,1003)]),(5,[(4,0,16,1004)])] false [] [16]
abbrev tK8:Type:=(AN×AK×(List AK)×Int×Int×Unit)
def XY (y:tK8)(x:AF):Vn AF:=
 let e:=y.1
 let a:=x.1
 let b:Bool:=a≥0
 let c:=(nth e.2.2.2.1 a A9).2.2.1 !=y.2.1.2.2.1
 let d:=cond b (cond c true (Q3 (nth e.2.2.2.1 a A9)).1) false
 ((b->A6 a (len e.2.2.2.1))/\((b&&(!c))->A6 a (len e.2.2.2.1))/\(d->A5 (a-1)),d,(a-1,()))
def TY y x:=(XY y x).1
def FB y x:=(XY y x).2.1
def FX y x:=(XY y x).2.2
def tS5 (y:tK8)(x:AF):Int:=
 x.1
def qT4:List (Nat×Sh):=[(1,An),(5,vI),(7,As),(8,vI),(9,vI)]
def oR:=li [(1,An),(4,(.box Ff Bc)),(7,As),(8,vI),(9,vI)] [(5,vI)] FB FX TY (λy x=>[ex 4 none qT4 (y.1,(tS5 y x),y.2.2.1,y.2.2.2.1,y.2.2.2.2.1,())]) [qT4]
abbrev vS2:Type:=(AN×(List AK)×Int×Int×Unit)
def Og (y:HM)(x:vS2):Vm vS2:=
 let g:=x.1
 let h:=x.2.1
 let m:=x.2.2.1
 let e:=x.2.2.2.1
 let c:Bool:=e<m
 let j:=nth h e A9
 let b:=!(Q3 j).1
 let f:=(g,j,h,m,e,())
 let o:=(e-1,())
 let a:=tS5 f (A3 (FB f) (FX f) o)
 let d:Bool:=a<0
 let k:=nth g.2.2.2.1 a A9
 let l:=Jg k
 let i:=b||((!b)&&((!d)&&(!l)))
 let n:=cond b e e
 (c->A6 e (len h)/\(!b->A5 (e-1)/\AA (FB f) (FX f) (TY f) o/\(!d->A6 a (len g.2.2.2.1)/\Pw k))/\(i->A5 (n+1)),c&&i,(cond b g g,cond b h h,cond b m m,n+1,()),c&&((!b)&&(d||((!d)&&l))),!c)
def Qp y x:=(Og y x).1
def Ki y x:=(Og y x).2.1
def Jn y x:=(Og y x).2.2.1
def XZ y x:=(Og y x).2.2.2.1
def oR0 y x:=(Og y x).2.2.2.2
def Ya (y:HM)(x:vS2):Int:=
 let c:=x.2.1
 let a:=x.2.2.2.1
 let b:=(x.1,nth c a A9,c,x.2.2.1,a,())
 (cond (tS5 b (A3 (FB b) (FX b) (a-1,()))<0) (14:Int) (8:Int))
def oR1:=li [] [(1,An),(7,As),(8,vI),(9,vI)] Ki Jn Qp (λy x=>[ex 1 (some (XZ y x)) [(2,vI)] ((Ya y x),()),ex 2 (some (oR0 y x)) [] ()]) [[(2,vI)],[]]
def Qq (c:AN):Prop×Int:=
 let b:=(c,c.2.2.2.1,len c.2.2.2.1,(0:Int),())
 let a:=A3 (Ki ()) (Jn ()) b
 (AA (Ki ()) (Jn ()) (Qp ()) b,cond (XZ () a) (Ya () a) (0:Int))
def Yb a:=(Qq a).1
def Ll a:=(Qq a).2
theorem lM0:SK 25 (AS Ag vI Yb Ll):=fb Tryz.func25 51 [kb oN8] [(2,oR1),(6,oR)]
def sK (y:N9)(x:AF):Vm AF:=
 let e:=y.1
 let a:=x.1
 let b:Bool:=a<y.2.1
 let d:Bool:=BP e a<33
 let c:=cond d true (BP e a>126)
 (b->A6 a (len e)/\(!d->A6 a (len e))/\(!c->A5 (a+1)),b&&(!c),(a+1,()),b&&c,!b)
def tZ7 y x:=(sK y x).1
def qH5 y x:=(sK y x).2.1
def tS6 y x:=(sK y x).2.2.1
def qT6 y x:=(sK y x).2.2.2.1
def oR2 y x:=(sK y x).2.2.2.2
def rI4 (y:N9)(x:AF):Bool:=
 false
def oR3:=li [(0,vS),(13,vI)] [(14,vI)] qH5 tS6 tZ7 (λy x=>[ex 1 (some (qT6 y x)) [(2,vB)] ((rI4 y x),()),ex 2 (some (oR2 y x)) [] ()]) [[(2,vB)],[]]
def Qr (e:List UInt8):Prop×Bool:=
 let b:=cond (len e<1) true (len e>32)
 let a:=(e,len e,())
 let d:=((0:Int),())
 let c:=A3 (qH5 a) (tS6 a) d
 (!b->AA (qH5 a) (tS6 a) (tZ7 a) d,cond b false (cond (qT6 a c) (rI4 a c) true))
def Yc a:=(Qr a).1
def Qs a:=(Qr a).2
theorem lM1:SK 51 (AS vS vB Yc Qs):=fb Tryz.func51 28 [] [(4,oR3)]
abbrev Yd:Type:=(AN×C5×(List C5)×Int×Int×(List C5)×Int×Unit)
def TZ (y:Yd)(x:AF):Vm AF:=
 let f:=y.2.1
 let d:=(Q1 y).1
 let a:=x.1
 let b:Bool:=a<(Q3 y).1
 let e:=nth d a FR
 let c:=cond (e.1==f.1) true (e.2.1==f.2.1)
 (b->A6 a (len d)/\(!c->A5 (a+1)),b&&(!c),(a+1,()),b&&c,!b)
def tZ8 y x:=(TZ y x).1
def Ye y x:=(TZ y x).2.1
def Yf y x:=(TZ y x).2.2.1
def Yg y x:=(TZ y x).2.2.2.1
def sA y x:=(TZ y x).2.2.2.2
def rI5 (y:Yd)(x:AF):Int:=
 (10:Int)
def qT8:List (Nat×Sh):=[(1,An),(4,Cp),(9,Bf),(10,vI),(11,vI)]
def oR4:=li [(1,An),(4,Cp),(9,Bf),(10,vI),(11,vI),(53,Bf),(54,vI)] [(55,vI)] Ye Yf tZ8 (λy x=>[ex 1 (some (Yg y x)) [(2,vI)] ((rI5 y x),()),ex 4 (some (sA y x)) qT8 (y.1,y.2.1,y.2.2.1,y.2.2.2.1,y.2.2.2.2.1,())]) [[(2,vI)],qT8]
abbrev uP8:Type:=(AN×(List C5)×Int×Unit)
def Ua (y:uP8)(x:AF):Vm AF:=
 let l:=y.1
 let m:=y.2.1
 let h:=y.2.2.1
 let b:=x.1
 let d:Bool:=b<h
 let a:=nth m b FR
 let e:=!(Qs a.2.1)
 let n:=cond (cond (cond (cond (a.1<1) true (a.1≥l.2.2.2.2.1)) true (a.2.2.1<0)) true (a.2.2.1>2)) true (a.2.2.2.1<1)
 let f:=cond n true (a.2.2.2.1>1073741824)
 let j:=take (toNat b) (Q0 l).1
 let g:=(l,a,m,h,b,j,len j,())
 let q:=((0:Int),())
 let o:=A3 (Ye g) (Yf g) q
 let c:=sA g o
 let k:=Lc a.2.2.2.2.1!=0
 let i:=(!e)&&((!f)&&(c&&(!k)))
 (d->A6 b (len m)/\Yc a.2.1/\(!e->!f->(0<=b/\b<=len (Q0 l).1)/\AA (Ye g) (Yf g) (tZ8 g) q/\(c->P5 a.2.2.2.2.1))/\(i->A5 (b+1)),d&&i,(b+1,()),d&&(e||((!e)&&(f||((!f)&&(Yg g o||(c&&k)))))),!d)
def Yh y x:=(Ua y x).1
def Oh y x:=(Ua y x).2.1
def Ub y x:=(Ua y x).2.2.1
def sA0 y x:=(Ua y x).2.2.2.1
def oR5 y x:=(Ua y x).2.2.2.2
def uP9 (y:uP8)(x:AF):Int:=
 let f:=y.1
 let h:=y.2.1
 let b:=x.1
 let a:=nth h b FR
 let g:=cond (cond (cond (cond (a.1<1) true (a.1≥f.2.2.2.2.1)) true (a.2.2.1<0)) true (a.2.2.1>2)) true (a.2.2.2.1<1)
 let d:=take (toNat b) (Q0 f).1
 let e:=(f,a,h,y.2.2.1,b,d,len d,())
 let i:=A3 (Ye e) (Yf e) ((0:Int),())
 let c:=cond (!(Qs a.2.1)) (13:Int) (cond (cond g true (a.2.2.2.1>1073741824)) (2:Int) (cond (Yg e i) (rI5 e i) (Lc a.2.2.2.2.1)))
 c
def oR6:=li [(1,An),(9,Bf),(10,vI)] [(11,vI)] Oh Ub Yh (λy x=>[ex 1 (some (sA0 y x)) [(2,vI)] ((uP9 y x),()),ex 2 (some (oR5 y x)) [] ()]) [[(2,vI)],[]]
def Qt (d:AN):Prop×Int:=
 let a:=(d,(Q0 d).1,len (Q0 d).1,())
 let c:=((0:Int),())
 let b:=A3 (Oh a) (Ub a) c
 (AA (Oh a) (Ub a) (Yh a) c,cond (sA0 a b) (uP9 a b) (0:Int))
def Yi a:=(Qt a).1
def Lm a:=(Qt a).2
theorem lM2:SK 26 (AS Ag vI Yi Lm):=fb Tryz.func26 79 [kb lM1,kb mB8] [(2,oR6),(9,oR4)]
def pG4 (a:AK)(b:Int):Prop×Bool:=
 (True,a.1==b)
def sA1 a b:=(pG4 a b).1
def mB9 a b:=(pG4 a b).2
instance (a b):Decidable (sA1 a b):=by unfold sA1 pG4;dsimp only;infer_instance
theorem oR7:SK 44 (BD Bc Ea vB sA1 mB9):=fb Tryz.func44 8
abbrev wZ3:Type:=((List AK)×(Int×Unit)×Int×Unit)
def Uc (y:wZ3)(x:AF):Vm AF:=
 let e:=y.1
 let f:=y.2.1
 let b:=x.1
 let d:Bool:=b<y.2.2.1
 let c:=nth e b A9
 let a:=mB9 c f.1
 (d->A6 b (len e)/\sA1 c f.1/\(!a->A5 (b+1)),d&&(!a),(b+1,()),d&&a,!d)
def Ud y x:=(Uc y x).1
def HN y x:=(Uc y x).2.1
def HO y x:=(Uc y x).2.2.1
def Ue y x:=(Uc y x).2.2.2.1
def qU y x:=(Uc y x).2.2.2.2
instance (y x):Decidable (Ud y x):=by unfold Ud Uc;dsimp only;infer_instance
def Yj (y:wZ3)(x:AF):Int:=
 x.1
def qU0:=li [(0,As),(1,(.fn 44 (.cons Ea .nl))),(7,vI)] [(8,vI)] HN HO Ud (λy x=>[ex 1 (some (Ue y x)) [(4,vI)] ((Yj y x),()),ex 2 (some (qU y x)) [] ()]) [[(4,vI)],[]]
def pG5 (d:List AK)(e:(Int×Unit)):Prop×Int:=
 let a:=(d,(e.1,()),len d,())
 let c:=((0:Int),())
 let b:=A3 (HN a) (HO a) c
 (AA (HN a) (HO a) (Ud a) c,cond (Ue a b) (Yj a b) (-1:Int))
def sA2 a b:=(pG5 a b).1
def mC a b:=(pG5 a b).2
instance (a b):Decidable (sA2 a b):=by unfold sA2 pG5;dsimp only;infer_instance
theorem oR8:SK 43 (BD As (.fn 44 (.cons Ea .nl)) vI sA2 mC):=fb Tryz.func43 19 [kb oR7] [(2,qU0)]
def Qu (a:AN)(b:Int):Prop×Int:=
 let s:=(b,())
 (sA2 a.2.2.2.1 s,mC a.2.2.2.1 s)
def Ho a b:=(Qu a b).1
def BM a b:=(Qu a b).2
instance (a b):Decidable (Ho a b):=by unfold Ho Qu;dsimp only;infer_instance
def pQ4:=BD Ag vI vI Ho BM
theorem Oi:SK 11 (BD Ag vI vI Ho BM):=fb Tryz.func11 9 [kb oR8] [] [(2,[(3,3,0,0)])]
def pG6 (a:C5)(b:AK):Prop×Bool:=
 (True,a.1==(Qh b).1)
def sA3 a b:=(pG6 a b).1
def mC0 a b:=(pG6 a b).2
theorem oR9:SK 54 (BD (.val LU) De vB sA3 mC0):=fb Tryz.func54 9
abbrev wZ4:Type:=((List C5)×(AK×Unit)×Int×Unit)
def Uf (y:wZ4)(x:AF):Vm AF:=
 let e:=y.1
 let f:=y.2.1
 let b:=x.1
 let d:Bool:=b<y.2.2.1
 let c:=nth e b FR
 let a:=mC0 c f.1
 (d->A6 b (len e)/\sA3 c f.1/\(!a->A5 (b+1)),d&&(!a),(b+1,()),d&&a,!d)
def uG8 y x:=(Uf y x).1
def tS7 y x:=(Uf y x).2.1
def uJ1 y x:=(Uf y x).2.2.1
def sT2 y x:=(Uf y x).2.2.2.1
def qU1 y x:=(Uf y x).2.2.2.2
def tO9 (y:wZ4)(x:AF):Int:=
 x.1
def qU2:=li [(0,Bf),(1,(.fn 54 (.cons De .nl))),(7,vI)] [(8,vI)] tS7 uJ1 uG8 (λy x=>[ex 1 (some (sT2 y x)) [(4,vI)] ((tO9 y x),()),ex 2 (some (qU1 y x)) [] ()]) [[(4,vI)],[]]
def pG7 (d:List C5)(e:(AK×Unit)):Prop×Int:=
 let a:=(d,(e.1,()),len d,())
 let c:=((0:Int),())
 let b:=A3 (tS7 a) (uJ1 a) c
 (AA (tS7 a) (uJ1 a) (uG8 a) c,cond (sT2 a b) (tO9 a b) (-1:Int))
def tC a b:=(pG7 a b).1
def Ms a b:=(pG7 a b).2
theorem oS:SK 91 (BD Bf (.fn 54 (.cons De .nl)) vI tC Ms):=fb Tryz.func91 19 [kb oR9] [(2,qU2)]
def pG8 (a:List C5)(b:(AK×Unit)):Prop×Bool:=
 let s:=(b.1,())
 (tC a s,decide (Ms a s≥0))
def Yk a b:=(pG8 a b).1
def mC1 a b:=(pG8 a b).2
theorem oS0:SK 53 (BD Bf (.fn 54 (.cons De .nl)) vB Yk mC1):=fb Tryz.func53 9 [kb oS]
def Ug (y:Lk)(x:AF):Vm AF:=
 let g:=y.1
 let m:=y.2.1
 let h:=x.1
 let b:Bool:=h<y.2.2.1
 let a:=nth m h A9
 let c:=a.2.1==9
 let s:=(a,())
 let j:=!(mC1 (Q0 g).1 s)
 let e:=a.2.1==10
 let f:=BM g (Qh a).1
 let d:Bool:=f<0
 let k:=nth g.2.2.2.1 f A9
 let l:=Jg k
 let i:=cond c (!j) (cond e ((!d)&&(!l)) true)
 (b->A6 h (len m)/\(c->Yk (Q0 g).1 s)/\(c=false->e->Ho g (Qh a).1/\(!d->A6 f (len g.2.2.2.1)/\Pw k))/\(i->A5 (h+1)),b&&i,(h+1,()),b&&(cond c j ((d||((!d)&&l))&&e)),!b)
def Yl y x:=(Ug y x).1
def Mt y x:=(Ug y x).2.1
def Qv y x:=(Ug y x).2.2.1
def Qw y x:=(Ug y x).2.2.2.1
def oS1 y x:=(Ug y x).2.2.2.2
def uA (y:Lk)(x:AF):Int:=
 let a:=nth y.2.1 x.1 A9
 (cond (a.2.1==9) (9:Int) (cond (BM y.1 (Qh a).1<0) (9:Int) (8:Int)))
def oS2:=li [(1,An),(7,As),(8,vI)] [(9,vI)] Mt Qv Yl (λy x=>[ex 1 (some (Qw y x)) [(2,vI)] ((uA y x),()),ex 2 (some (oS1 y x)) [] ()]) [[(2,vI)],[]]
def Qx (d:AN):Prop×Int:=
 let a:=(d,d.2.2.2.1,len d.2.2.2.1,())
 let c:=((0:Int),())
 let b:=A3 (Mt a) (Qv a) c
 (AA (Mt a) (Qv a) (Yl a) c,cond (Qw a b) (uA a b) (0:Int))
def Ym a:=(Qx a).1
def Ln a:=(Qx a).2
theorem lM3:SK 27 (AS Ag vI Ym Ln):=fb Tryz.func27 37 [kb Oi,kb oN8,kb oS0] [(2,oS2)] [(12,[(3,4,0,0)])]
abbrev sA5:Type:=(Int×AN×(List AK)×Int×Unit)
def qH6 (y:sA5)(x:Ed):Vn Ed:=
 let g:=y.1
 let h:=y.2.1
 let b:=y.2.2.1
 let f:=x.1
 let a:=x.2.1
 let c:Bool:=a<y.2.2.2.1
 let d:=(nth b a A9).2.2.1==(nth h.2.2.2.1 g A9).1
 let e:=([a]:List Int)
 (c->A6 a (len b)/\A6 g (len h.2.2.2.1)/\(d->((length f+length e:Nat):Int)<=4294967296)/\A5 (a+1),c,(cond d (f++e) f,a+1,()))
def Yn y x:=(qH6 y x).1
def Yo y x:=(qH6 y x).2.1
def Yp y x:=(qH6 y x).2.2
instance (y x):Decidable (Yn y x):=by unfold Yn qH6;dsimp only;infer_instance
def rI6 (y:sA5)(x:Ed):(List Int):=
 x.1
def qU4:List (Nat×Sh):=[(5,Ao)]
def oS3:=li [(1,vI),(2,An),(18,As),(19,vI)] [(5,Ao),(20,vI)] Yo Yp Yn (λy x=>[ex 3 none qU4 ((rI6 y x),())]) [qU4]
def Qy (j:AN)(k:Int):Prop×(List Int):=
 let c:=nth j.2.2.2.1 k A9
 let a:=c.2.1==1
 let b:=(k,j,j.2.2.2.1,len j.2.2.2.1,())
 let i:=(([]:List Int),(0:Int),())
 let d:=c.2.1==10
 let e:=nth j.2.2.2.1 k A9
 let f:=BM j (Qh e).1
 let g:Bool:=f≥0
 let h:=([f]:List Int)
 (A6 k (len j.2.2.2.1)/\(a->AA (Yo b) (Yp b) (Yn b) i)/\(a=false->d->A6 k (len j.2.2.2.1)/\Ho j (Qh e).1/\(g->(length h:Int)<=4294967296)),cond a (rI6 b (A3 (Yo b) (Yp b) i)) (cond d (cond g h []) []))
def rY a b:=(Qy a b).1
def BX a b:=(Qy a b).2
instance (a b):Decidable (rY a b):=by unfold rY Qy;dsimp only;infer_instance
def nQ3:=BD Ag vI Bh rY BX
theorem lM4:SK 56 (BD Ag vI Bh rY BX):=fb Tryz.func56 56 [kb Oi] [(5,oS3)] [(17,[(4,0,37,1005)]),(27,[(4,0,54,1005)]),(29,[(4,0,1005,0)])]
abbrev EI:Type:=Int->(List Bool)->(List Bool)->AN->Unit->Prop×Bool×((List Bool)×(List Bool)×AN×Unit)
def Uh (r:EI):Am.Spec:=fnSpec [(0,vI),(1,At),(2,Au),(3,An),(4,(.fptr 55 [some (1,Bl),some (2,Bl),some (3,T28),none]))] vB [(1,At),(2,Au),(3,An)] (λx=>(r x.1 x.2.1 x.2.2.1 x.2.2.2.1 x.2.2.2.2.1).1) (λx=>(r x.1 x.2.1 x.2.2.1 x.2.2.2.1 x.2.2.2.2.1).2.1) (λx=>(r x.1 x.2.1 x.2.2.1 x.2.2.2.1 x.2.2.2.2.1).2.2)
abbrev wH:Type:=(Int×Unit×(List Int)×Int×Unit)
abbrev FY:Type:=((List Bool)×(List Bool)×AN×Int×Unit)
def Ui (r:EI)(y:wH)(x:FY):Vm FY:=
 let f:=y.2.2.1
 let g:=x.1
 let h:=x.2.1
 let i:=x.2.2.1
 let a:=x.2.2.2.1
 let c:Bool:=a<y.2.2.2.1
 let d:=nth f a (0:Int)
 let e:=(r d g h i ()).2.1
 let b:=(r d g h i ()).2.2
 (c->A6 a (len f)/\(r d g h i ()).1/\(!e->A5 (a+1)),c&&(!e),(b.1,b.2.1,b.2.2.1,a+1,()),c&&e,!c)
def Uj (r:EI)(y:wH)(x:FY):Prop:=((Ui r) y x).1
def Lo (r:EI)(y:wH)(x:FY):Bool:=((Ui r) y x).2.1
def Mu (r:EI)(y:wH)(x:FY):FY:=((Ui r) y x).2.2.1
def Mv (r:EI)(y:wH)(x:FY):Bool:=((Ui r) y x).2.2.2.1
def sT3 (r:EI)(y:wH)(x:FY):Bool:=((Ui r) y x).2.2.2.2
instance (r:EI) [∀q0 q1 q2 q3 q4,Decidable (r q0 q1 q2 q3 q4).1] (y:wH)(x:FY):Decidable ((Uj r) y x):=by
 unfold Uj Ui
 try dsimp only
 infer_instance
def tP (r:EI)(y:wH)(x:FY):(List Bool):=
 (r (nth y.2.2.1 x.2.2.2.1 (0:Int)) x.1 x.2.1 x.2.2.1 ()).2.2.1
def tP0 (r:EI)(y:wH)(x:FY):(List Bool):=
 (r (nth y.2.2.1 x.2.2.2.1 (0:Int)) x.1 x.2.1 x.2.2.1 ()).2.2.2.1
def tP1 (r:EI)(y:wH)(x:FY):AN:=
 (r (nth y.2.2.1 x.2.2.2.1 (0:Int)) x.1 x.2.1 x.2.2.1 ()).2.2.2.2.1
def tP2 (r:EI)(y:wH)(x:FY):Bool:=
 true
def sT4:List (Nat×Sh):=[(1,At),(2,Au),(3,An),(6,vB)]
def tP3 (r:EI)(y:wH)(x:FY):(List Bool):=
 x.1
def tP4 (r:EI)(y:wH)(x:FY):(List Bool):=
 x.2.1
def tP5 (r:EI)(y:wH)(x:FY):AN:=
 x.2.2.1
def sT5:List (Nat×Sh):=[(0,vI),(1,At),(2,Au),(3,An)]
def tP6 (r:EI):St->Option Out:=Ik [(0,vI),(4,(.fptr 55 [some (1,Bl),some (2,Bl),some (3,T28),none])),(29,(.own Aa 29 false)),(30,vI)] [(1,At),(2,Au),(3,An),(31,vI)] (Lo r) (Mu r) (Uj r) λy x=>[ex 1 (some ((Mv r) y x)) sT4 (((tP r) y x),((tP0 r) y x),((tP1 r) y x),((tP2 r) y x),()),ex 2 (some ((sT3 r) y x)) sT5 (y.1,((tP3 r) y x),((tP4 r) y x),((tP5 r) y x),())]
def FC (r:EI)(i:Int)(j k:List Bool)(l:AN)(m:Unit):Vn ((List Bool)×(List Bool)×AN×Unit):=
 let f:=nth j i false
 let d:=cond f true (nth k i false)
 let g:=BX l i
 let c:=(i,(),g,len g,())
 let h:=(j,set k (toNat i) true,l,(0:Int),())
 let e:=A3 ((Lo r) c) ((Mu r) c) h
 let b:=(Mv r) c e
 let a:=(tP3 r) c e
 (A6 i (len j)/\i<len j/\(!f->A6 i (len k))/\(!f->i<len k)/\(d->A6 i (len j)/\i<len j)/\(!d->A6 i (len k)/\i<len k/\rY l i/\AA ((Lo r) c) ((Mu r) c) ((Uj r) c) h/\((sT3 r) c e->A6 i (len a)/\i<len a)),cond d (!(nth j i false)) (cond b ((tP2 r) c e) false),(cond d j (cond b ((tP r) c e) (set a (toNat i) true)),cond d k (cond b ((tP0 r) c e) ((tP4 r) c e)),cond d l (cond b ((tP1 r) c e) ((tP5 r) c e)),()))
def rY0 (r:EI):Ctx:={ Cx tys [(55,Uh r),(56,nQ3)] [(5,(tP6 r))] [] false 42 [1,2,3] [] with wants:=[(55,[])],fts:=fts }
theorem rY1 (r:EI)(hr:SpecOk Tryz.prog 55 (Uh r)):CtxOk Tryz.prog (rY0 r):=cq ⟨hr,lM4,trivial⟩
noncomputable def pG9:Code:=Tryz.f55.body.getD .skip
noncomputable def qU5:Code:=SP pG9 0
theorem qU6 (r:EI)(hr:SpecOk Tryz.prog 55 (Uh r)):JG Tryz.prog (rY0 r) qU5:=lq (rY1 r hr) (sp:=(tP6 r)) rfl [sT4,sT5]
instance (r:EI) [∀q0 q1 q2 q3 q4,Decidable (r q0 q1 q2 q3 q4).1] (a:Int)(b c:List Bool)(d:AN)(e:Unit):Decidable (FC r a b c d e).1:=by
 unfold FC
 try dsimp only
 infer_instance
theorem pH (r:EI)(hr:SpecOk Tryz.prog 55 (Uh r)):SpecOk Tryz.prog 55 (Uh (FC r)):=WL (rY1 r hr) mixed Tryz.func55 (by kernel_rfl) (bs:=[qU5]) (by kernel_rfl) ⟨qU6 r hr,trivial⟩ λx=>by kernel_rfl
def HP:Nat->EI
 |0=>λ_ _ _ _ _=>(False,false,(([]:List Bool),([]:List Bool),Z28,()))
 |k+1=>FC (HP k)
theorem rY2:∀k,SpecOk Tryz.prog 55 (Uh (HP k))
 |0=>xY4 Tryz.func55 (by kernel_rfl) (by decide)
 |k+1=>pH _ (rY2 k)
def rA3 (a:Int)(b c:List Bool)(d:AN)(e:Unit):Nat:=(length b+1)
def sA7 (a:Int)(b c:List Bool)(d:AN)(e:Unit):Prop:=(HP (rA3 a b c d e) a b c d e).1
def Uk (a:Int)(b c:List Bool)(d:AN)(e:Unit):Bool:=(HP (rA3 a b c d e) a b c d e).2.1
def rA4 (a:Int)(b c:List Bool)(d:AN)(e:Unit):((List Bool)×(List Bool)×AN×Unit):=(HP (rA3 a b c d e) a b c d e).2.2
def rY4:∀(k:Nat) (a:Int) (b c:List Bool) (d:AN) (e:Unit),Decidable (HP k a b c d e).1
 |0,_,_,_,_,_=>isFalse id
 |k+1,a,b,c,d,e=>by
  have:∀(q0:Int) (q1 q2:List Bool) (q3:AN) (q4:Unit),Decidable (HP k q0 q1 q2 q3 q4).1:=rY4 k;exact inferInstanceAs (Decidable (FC (HP k) a b c d e).1)
instance (a:Int)(b c:List Bool)(d:AN)(e:Unit):Decidable (sA7 a b c d e):=rY4 _ a b c d e
def pH0:Am.Spec:=fnSpec [(0,vI),(1,At),(2,Au),(3,An),(4,(.fptr 55 [some (1,Bl),some (2,Bl),some (3,T28),none]))] vB [(1,At),(2,Au),(3,An)] (λx=>sA7 x.1 x.2.1 x.2.2.1 x.2.2.2.1 x.2.2.2.2.1) (λx=>Uk x.1 x.2.1 x.2.2.1 x.2.2.2.1 x.2.2.2.2.1) (λx=>rA4 x.1 x.2.1 x.2.2.1 x.2.2.2.1 x.2.2.2.2.1)
theorem oS4:SpecOk Tryz.prog 55 pH0:=wA (ps:=[(0,vI),(1,At),(2,Au),(3,An),(4,(.fptr 55 [some (1,Bl),some (2,Bl),some (3,T28),none]))]) (rs:=vB) (os:=[(1,At),(2,Au),(3,An)]) (R:=λk x=>HP k x.1 x.2.1 x.2.2.1 x.2.2.2.1 x.2.2.2.2.1) rY2 λx=>rA3 x.1 x.2.1 x.2.2.1 x.2.2.2.1 x.2.2.2.2.1
abbrev uQ1:Type:=(Unit×Int×Unit)
abbrev vM3:Type:=(AN×(List Bool)×(List Bool)×Int×Unit)
def Ul (y:uQ1)(x:vM3):Vm vM3:=
 let e:=x.1
 let f:=x.2.1
 let g:=x.2.2.1
 let a:=x.2.2.2.1
 let c:Bool:=a<y.2.1
 let d:=Uk a g f e ()
 let b:=rA4 a g f e ()
 (c->sA7 a g f e ()/\(!d->A5 (a+1)),c&&(!d),(b.2.2.1,b.2.1,b.1,a+1,()),c&&d,!c)
def Yq y x:=(Ul y x).1
def Um y x:=(Ul y x).2.1
def Un y x:=(Ul y x).2.2.1
def sA8 y x:=(Ul y x).2.2.2.1
def oS5 y x:=(Ul y x).2.2.2.2
def rI7 (y:uQ1)(x:vM3):Bool:=
 true
def oS6:=li [(5,(.fptr 55 [some (4,Bl),some (3,Bl),some (1,T28),none])),(18,vI)] [(1,An),(3,(.box Bl (.own .bool 400300 true))),(4,(.box Bl (.own .bool 400400 true))),(19,vI)] Um Un Yq (λy x=>[ex 1 (some (sA8 y x)) [(2,vB)] ((rI7 y x),()),ex 2 (some (oS5 y x)) [] ()]) [[(2,vB)],[]]
def Qz (f:AN):Prop×Bool:=
 let c:=len f.2.2.2.1
 let a:=len f.2.2.2.1
 let b:=((),len f.2.2.2.1,())
 let e:=(f,replicate (toNat c) false,replicate (toNat a) false,(0:Int),())
 let d:=A3 (Um b) (Un b) e
 ((0<=c/\c<=c/\c<=4294967296)/\(0<=a/\a<=a/\a<=4294967296)/\AA (Um b) (Un b) (Yq b) e,cond (sA8 b d) (rI7 b d) false)
def Yr a:=(Qz a).1
def Lp a:=(Qz a).2
theorem lM5:SK 28 (AS Ag vB Yr Lp):=fx (λc=>{ c with wants:=[(55,[])],fts:=fts }) Tryz.func28 26 [kb oS4] [(6,oS6)] [(3,[(4,0,10,400300)]),(5,[(4,0,14,400400)])] false [] [10,14]
def tL (y:SW)(x:AF):Vm AF:=
 let e:=y.1
 let a:=x.1
 let b:Bool:=a<y.2.2.1
 let d:Bool:=BP e a<y.2.1
 let c:=cond d true (BP e a>126)
 (b->A6 a (len e)/\(!d->A6 a (len e))/\(!c->A5 (a+1)),b&&(!c),(a+1,()),b&&c,!b)
def tL0 y x:=(tL y x).1
def Ys y x:=(tL y x).2.1
def Yt y x:=(tL y x).2.2.1
def rY5 y x:=(tL y x).2.2.2.1
def oE0 y x:=(tL y x).2.2.2.2
def sT6 (y:SW)(x:AF):Bool:=
 false
def oE1:=li [(0,vS),(2,Bb),(18,vI)] [(19,vI)] Ys Yt tL0 (λy x=>[ex 1 (some (rY5 y x)) [(6,vB)] ((sT6 y x),()),ex 2 (some (oE0 y x)) [] ()]) [[(6,vB)],[]]
def mQ2 (e:List UInt8)(f g:Int):Prop×Bool:=
 let b:=cond (len e<1) true (len e>f)
 let a:=(e,g,len e,())
 let d:=((0:Int),())
 let c:=A3 (Ys a) (Yt a) d
 (!b->AA (Ys a) (Yt a) (tL0 a) d,cond b false (cond (rY5 a c) (sT6 a c) true))
def Uo a b c:=(mQ2 a b c).1
def QA a b c:=(mQ2 a b c).2
theorem oS7:SK 129 (DR vS vI Bb vB Uo QA):=fb Tryz.func129 34 [] [(4,oE1)]
def QB (a:List UInt8):Prop×Bool:=
 (Uo a (32:Int) (33:Int),QA a (32:Int) (33:Int))
def pQ5 a:=(QB a).1
def f92 a:=(QB a).2
theorem lM6:SK 92 (AS vS vB pQ5 f92):=fb Tryz.func92 5 [kb oS7]
def QC (a:List UInt8):Prop×Bool:=
 (Uo a (256:Int) (32:Int),QA a (256:Int) (32:Int))
def pQ6 a:=(QC a).1
def f93 a:=(QC a).2
theorem lM7:SK 93 (AS vS vB pQ6 f93):=fb Tryz.func93 5 [kb oS7]
def QD (g:List C4)(h:C4):Prop×Int:=
 let f:=!(f92 h.1)
 let b:=!(f93 h.2.1)
 let a:Bool:=len g>0
 let c:=len g
 let d:=c-1
 let e:=nth g d DO
 (pQ5 h.1/\(!f->pQ6 h.2.1/\(!b->(a->A5 (c-1))/\(a->A6 d (len g)))),cond f (13:Int) (cond b (4:Int) (cond (cond a (Op.bytesLess h.1 e.1||h.1==e.1) false) (24:Int) (0:Int))))
def Yu a b:=(QD a b).1
def Mw a b:=(QD a b).2
theorem lM8:SK 58 (BD Bn (.val SV) vI Yu Mw):=fb Tryz.func58 28 [kb lM6,kb lM7]
abbrev uQ2:Type:=((List C4)×(List C4)×Int×Unit)
def Up (y:uQ2)(x:AF):Vm AF:=
 let f:=y.1
 let g:=y.2.1
 let a:=x.1
 let b:Bool:=a<y.2.2.1
 let d:=nth g a DO
 let e:=take (toNat a) f
 let c:=Mw e d !=0
 (b->A6 a (len g)/\(0<=a/\a<=len f)/\Yu e d/\(!c->A5 (a+1)),b&&(!c),(a+1,()),b&&c,!b)
def Yv y x:=(Up y x).1
def QE y x:=(Up y x).2.1
def QF y x:=(Up y x).2.2.1
def rI8 y x:=(Up y x).2.2.2.1
def oS8 y x:=(Up y x).2.2.2.2
def tS8 (y:uQ2)(x:AF):Int:=
 let a:=x.1
 (Mw (take (toNat a) y.1) (nth y.2.1 a DO))
def oS9:=li [(0,Bn),(9,Bn),(10,vI)] [(11,vI)] QE QF Yv (λy x=>[ex 1 (some (rI8 y x)) [(2,vI)] ((tS8 y x),()),ex 2 (some (oS8 y x)) [] ()]) [[(2,vI)],[]]
def QG (e:List C4):Prop×Int:=
 let c:Bool:=len e>16
 let a:=(e,e,len e,())
 let d:=((0:Int),())
 let b:=A3 (QE a) (QF a) d
 (!c->AA (QE a) (QF a) (Yv a) d,cond c (3:Int) (cond (rI8 a b) (tS8 a b) (0:Int)))
def Yw a:=(QG a).1
def QH a:=(QG a).2
theorem lM9:SK 30 (AS Bn vI Yw QH):=fb Tryz.func30 25 [kb lM8] [(4,oS9)]
def f7t (p:AN):Prop×Int:=
 let b:=Jf p
 let c:=b !=0
 let d:=cond (len p.2.2.2.1>64) true (len (Q0 p).1>8)
 let e:=cond (p.2.2.2.2.1<1) true (p.2.2.2.2.1>1073741824)
 let f:=Kh p
 let g:=f !=0
 let h:=Ll p
 let i:=h !=0
 let j:=Lm p
 let k:=j !=0
 let l:=Ln p
 let m:=l !=0
 let n:=Lp p
 let o:=JR (Q1 p).1
 let q:=o !=0
 let r:=cond ((Q1 p).1.1 !=0) (cond ((Q1 p).1.1 !=p.1) true ((Q1 p).1.2.1 !=p.2.1)) false
 let a:=cond g f (cond i h (cond k j (cond m l (cond n (11:Int) (cond q o (cond r (15:Int) (QH (Q3 p).1)))))))
 (Ps p/\(!c->!d->!e->XX p/\(!g->Yb p/\(!i->Yi p/\(!k->Ym p/\(!m->Yr p/\(!n->N8 (Q1 p).1/\(!q->!r->Yw (Q3 p).1))))))),cond c b (cond d (3:Int) (cond e (2:Int) a)))
def Kj a:=(f7t a).1
def f7 a:=(f7t a).2
def mQ3:=AS Ag vI Kj f7
theorem Uq:SK 7 (AS Ag vI Kj f7):=fb Tryz.func7 83 [kb mB4,kb lM,kb lM0,kb lM2,kb lM3,kb lM5,kb mB5,kb lM9]
abbrev uQ4:Type:=((List Int)×(List Int)×Int×Unit)
def Ur (y:uQ4)(x:AF):Vm AF:=
 let d:=y.1
 let e:=y.2.1
 let a:=x.1
 let b:Bool:=a<y.2.2.1
 let c:=nth d a (0:Int)!=nth e a (0:Int)
 (b->A6 a (len d)/\A6 a (len e)/\(!c->A5 (a+1)),b&&(!c),(a+1,()),b&&c,!b)
def sA9 y x:=(Ur y x).1
def Us y x:=(Ur y x).2.1
def Ut y x:=(Ur y x).2.2.1
def qV y x:=(Ur y x).2.2.2.1
def oT y x:=(Ur y x).2.2.2.2
def rJ (y:uQ4)(x:AF):Bool:=
 false
def oT0:=li [(0,Ah),(1,Ah),(12,vI)] [(13,vI)] Us Ut sA9 (λy x=>[ex 1 (some (qV y x)) [(4,vB)] ((rJ y x),()),ex 2 (some (oT y x)) [] ()]) [[(4,vB)],[]]
def QI (e f:List Int):Prop×Bool:=
 let b:=len e !=len f
 let a:=(e,f,len e,())
 let d:=((0:Int),())
 let c:=A3 (Us a) (Ut a) d
 (!b->AA (Us a) (Ut a) (sA9 a) d,cond b false (cond (qV a c) (rJ a c) true))
def Jo a b:=(QI a b).1
def HQ a b:=(QI a b).2
def nQ4:=BD Ah Ah vB Jo HQ
theorem mC2:SK 13 (BD Ah Ah vB Jo HQ):=fb Tryz.func13 26 [] [(4,oT0)]
abbrev sB:Type:=(Int×(List AK)×Int×Unit)
def qH7 (y:sB)(x:Ed):Vn Ed:=
 let g:=y.2.1
 let f:=x.1
 let a:=x.2.1
 let b:Bool:=a<y.2.2.1
 let c:=nth g a A9
 let d:=c.2.2.1==y.1
 let e:=([c.1]:List Int)
 (b->A6 a (len g)/\(d->((length f+length e:Nat):Int)<=4294967296)/\A5 (a+1),b,(cond d (f++e) f,a+1,()))
def sB0 y x:=(qH7 y x).1
def qH8 y x:=(qH7 y x).2.1
def tS9 y x:=(qH7 y x).2.2
def rJ0 (y:sB)(x:Ed):(List Int):=
 x.1
def qV0:List (Nat×Sh):=[(5,Ao)]
def oT1:=li [(1,vI),(9,As),(10,vI)] [(5,Ao),(11,vI)] qH8 tS9 sB0 (λy x=>[ex 2 none qV0 ((rJ0 y x),())]) [qV0]
def QJ (c:AN)(d:Int):Prop×(List Int):=
 let a:=(d,c.2.2.2.1,len c.2.2.2.1,())
 let b:=(([]:List Int),(0:Int),())
 (AA (qH8 a) (tS9 a) (sB0 a) b,rJ0 a (A3 (qH8 a) (tS9 a) b))
def Uu a b:=(QJ a b).1
def f14 a b:=(QJ a b).2
def nQ5:=BD Ag vI Bh Uu f14
theorem mC3:SK 14 (BD Ag vI Bh Uu f14):=fb Tryz.func14 26 [] [(3,oT1)] [(13,[(4,0,23,1005)]),(17,[(4,0,1005,0)])]
def tL2 (y:sB)(x:Ed):Vn Ed:=
 let g:=y.2.1
 let f:=x.1
 let a:=x.2.1
 let b:Bool:=a<y.2.2.1
 let c:=nth g a A9
 let d:=c.2.2.1==y.1
 let e:=([c.1]:List Int)
 (b->A6 a (len g)/\(d->((length f+length e:Nat):Int)<=4294967296)/\A5 (a+1),b,(cond d (f++e) f,a+1,()))
def Yx y x:=(tL2 y x).1
def uQ6 y x:=(tL2 y x).2.1
def vM4 y x:=(tL2 y x).2.2
def tP7 (y:sB)(x:Ed):(List Int):=
 x.1
def sT7:List (Nat×Sh):=[(5,Ao)]
def qV1:=li [(1,vI),(9,As),(10,vI)] [(5,Ao),(11,vI)] uQ6 vM4 Yx (λy x=>[ex 2 none sT7 ((tP7 y x),())]) [sT7]
def pH1 (c:AN)(d:Int):Prop×(List Int):=
 let a:=(d,c.2.2.2.1,len c.2.2.2.1,())
 let b:=(([]:List Int),(0:Int),())
 (AA (uQ6 a) (vM4 a) (Yx a) b,tP7 a (A3 (uQ6 a) (vM4 a) b))
def Oj a b:=(pH1 a b).1
def Lq a b:=(pH1 a b).2
def pH2:=BD Ag vI Ah Oj Lq
theorem rJ1:SK 14 (BD Ag vI Ah Oj Lq):=fb Tryz.func14 26 [] [(3,qV1)] [(13,[(4,0,23,1005)]),(17,[(4,0,1005,0)])]
abbrev Yy:Type:=(AN×Unit)
def qH9 (y:Yy)(x:vD):Vn vD:=
 let a:=y.1
 let d:=x.1
 let e:=x.2.1
 let b:=(nth a.2.2.2.1 d A9).2.2.1 !=0
 let c:=nth a.2.2.2.1 d A9
 (A6 d (len a.2.2.2.1)/\(b->A6 d (len a.2.2.2.1)/\Ho a c.2.2.1/\A5 (e+1)),b,(BM a c.2.2.1,e+1,()))
def QK y x:=(qH9 y x).1
def Lr y x:=(qH9 y x).2.1
def Kk y x:=(qH9 y x).2.2
def rJ2 (y:Yy)(x:vD):Int:=
 x.2.1
def oT2:=li [(2,An)] [(5,vI),(6,vI)] Lr Kk QK (λy x=>[ex 2 none [(6,vI)] ((rJ2 y x),())]) [[(6,vI)]]
def QL (f:AN)(g:Int):Prop×Int:=
 let d:=BM f g
 let b:Bool:=d<0
 let c:=cond b true (f7 f !=0)
 let a:=(f,())
 let e:=(d,(1:Int),())
 (Ho f g/\(!b->Kj f)/\(!c->AA (Lr a) (Kk a) (QK a) e),cond c (0:Int) (rJ2 a (A3 (Lr a) (Kk a) e)))
def QM a b:=(QL a b).1
def QN a b:=(QL a b).2
def nQ6:=BD Ag vI vI QM QN
theorem mC4:SK 20 (BD Ag vI vI QM QN):=fb Tryz.func20 35 [kb Uq,kb Oi] [(5,oT2)]
def QO (d:AN)(e:Int):Prop×Int:=
 let c:=e==0
 let a:=BM d e
 let b:Bool:=a<0
 (!c->Ho d e/\(!b->A6 a (len d.2.2.2.1)),cond c (0:Int) (cond b (9:Int) (cond ((nth d.2.2.2.1 a A9).2.1 !=1) (8:Int) (0:Int))))
def Uv a b:=(QO a b).1
def f71 a b:=(QO a b).2
def nQ7:=BD Ag vI vI Uv f71
theorem mC5:SK 71 (BD Ag vI vI Uv f71):=fb Tryz.func71 20 [kb Oi]
def oT3 (a:Unit):Prop×(List Int):=
 ((!true)->((length ([]:List Int)+length ([]:List Int):Nat):Int)<=4294967296,cond true [] (([]:List Int)++([]:List Int)))
def qI a:=(oT3 a).1
def lZ5 a:=(oT3 a).2
instance (a):Decidable (qI a):=by unfold qI oT3;dsimp only;infer_instance
theorem nQ8:SK 105 (AS (.nn true) Bh qI lZ5):=fb Tryz.func105 8 [] [] [(7,[(4,0,7,0)])]
def oT4 (a:Unit):Prop×(List Int):=
 ((!false)->((length ([]:List Int)+length ([]:List Int):Nat):Int)<=4294967296,cond false [] (([]:List Int)++([]:List Int)))
def qI0 a:=(oT4 a).1
def lZ6 a:=(oT4 a).2
instance (a):Decidable (qI0 a):=by unfold qI0 oT4;dsimp only;infer_instance
theorem nQ9:SK 105 (AS (.nn false) Bh qI0 lZ6):=fb Tryz.func105 8 [] [] [(7,[(4,0,7,0)])]
def oT5 (a:List Int):Prop×(List Int):=
 (0<length a/\((!false)->((length ([]:List Int)+length a:Nat):Int)<=4294967296),cond false [] (([]:List Int)++a))
def qI1 a:=(oT5 a).1
def lZ7 a:=(oT5 a).2
instance (a):Decidable (qI1 a):=by unfold qI1 oT5;dsimp only;infer_instance
theorem nR:SK 105 (AS Ah Bh qI1 lZ7):=fb Tryz.func105 8 [] [] [(7,[(4,0,7,0)])]
def Kl (a:List Int):List Int:=a
def Ok (a:List Int):Prop:=(length a:Int)<=4294967296
def mQ4:List (Nat×Sh):=[(0,Ah)]
def oT6:Sh:=Bh
def mQ5:List (Nat×Sh):=[]
def oT7:Am.Spec:=fnSpec mQ4 oT6 mQ5 (λx=>Ok x.1) (λx=>Kl x.1) (λ_=>())
theorem oT8:SpecOk Tryz.prog 105 oT7:=Pl (rs:=oT6) (F:=Kl) (ok:=Ok) nQ8 nQ9 nR (jF (by kernel_rfl)) (jF (by kernel_rfl)) (λl h hp=>⟨hp,λ_=>by simpa[Ok] using h⟩) rfl rfl (λ_=>rfl)
def oT9 (a:Unit):Prop×(List CE):=
 ((!true)->((length ([]:List CE)+length ([]:List CE):Nat):Int)<=4294967296,cond true [] (([]:List CE)++([]:List CE)))
def qI2 a:=(oT9 a).1
def lZ8 a:=(oT9 a).2
instance (a):Decidable (qI2 a):=by unfold qI2 oT9;dsimp only;infer_instance
theorem nR0:SK 108 (AS (.nn true) Db qI2 lZ8):=fb Tryz.func108 8 [] [] [(7,[(4,0,7,0)])]
def oU (a:Unit):Prop×(List CE):=
 ((!false)->((length ([]:List CE)+length ([]:List CE):Nat):Int)<=4294967296,cond false [] (([]:List CE)++([]:List CE)))
def qI3 a:=(oU a).1
def lZ9 a:=(oU a).2
instance (a):Decidable (qI3 a):=by unfold qI3 oU;dsimp only;infer_instance
theorem nR1:SK 108 (AS (.nn false) Db qI3 lZ9):=fb Tryz.func108 8 [] [] [(7,[(4,0,7,0)])]
def oU0 (a:List CE):Prop×(List CE):=
 (0<length a/\((!false)->((length ([]:List CE)+length a:Nat):Int)<=4294967296),cond false [] (([]:List CE)++a))
def qI4 a:=(oU0 a).1
def kA a:=(oU0 a).2
instance (a):Decidable (qI4 a):=by unfold qI4 oU0;dsimp only;infer_instance
theorem nR2:SK 108 (AS Dy Db qI4 kA):=fb Tryz.func108 8 [] [] [(7,[(4,0,7,0)])]
def Mx (a:List CE):List CE:=a
def tT (a:List CE):Prop:=(length a:Int)<=4294967296
def mQ6:List (Nat×Sh):=[(0,Dy)]
def oU1:Sh:=Db
def mQ7:List (Nat×Sh):=[]
def oU2:Am.Spec:=fnSpec mQ6 oU1 mQ7 (λx=>tT x.1) (λx=>Mx x.1) (λ_=>())
theorem oU3:SpecOk Tryz.prog 108 oU2:=Pl (rs:=oU1) (F:=Mx) (ok:=tT) nR0 nR1 nR2 (jF (by kernel_rfl)) (jF (by kernel_rfl)) (λl h hp=>⟨hp,λ_=>by simpa[tT] using h⟩) rfl rfl (λ_=>rfl)
def oU4 (a:Unit):Prop×(List AX):=
 ((!true)->((length ([]:List AX)+length ([]:List AX):Nat):Int)<=4294967296,cond true [] (([]:List AX)++([]:List AX)))
def qI5 a:=(oU4 a).1
def kA0 a:=(oU4 a).2
instance (a):Decidable (qI5 a):=by unfold qI5 oU4;dsimp only;infer_instance
theorem nR3:SK 151 (AS (.nn true) Cs qI5 kA0):=fb Tryz.func151 8 [] [] [(7,[(4,0,7,0)])]
def oU5 (a:Unit):Prop×(List AX):=
 ((!false)->((length ([]:List AX)+length ([]:List AX):Nat):Int)<=4294967296,cond false [] (([]:List AX)++([]:List AX)))
def qI6 a:=(oU5 a).1
def kA1 a:=(oU5 a).2
instance (a):Decidable (qI6 a):=by unfold qI6 oU5;dsimp only;infer_instance
theorem nR4:SK 151 (AS (.nn false) Cs qI6 kA1):=fb Tryz.func151 8 [] [] [(7,[(4,0,7,0)])]
def oU6 (a:List AX):Prop×(List AX):=
 (0<length a/\((!false)->((length ([]:List AX)+length a:Nat):Int)<=4294967296),cond false [] (([]:List AX)++a))
def qI7 a:=(oU6 a).1
def kA2 a:=(oU6 a).2
instance (a):Decidable (qI7 a):=by unfold qI7 oU6;dsimp only;infer_instance
theorem nR5:SK 151 (AS Ap Cs qI7 kA2):=fb Tryz.func151 8 [] [] [(7,[(4,0,7,0)])]
def QP (a:List AX):List AX:=a
def Uw (a:List AX):Prop:=(length a:Int)<=4294967296
def mQ8:List (Nat×Sh):=[(0,Ap)]
def oU7:Sh:=Cs
def mQ9:List (Nat×Sh):=[]
def oU8:Am.Spec:=fnSpec mQ8 oU7 mQ9 (λx=>Uw x.1) (λx=>QP x.1) (λ_=>())
theorem mR:SpecOk Tryz.prog 151 oU8:=Pl (rs:=oU7) (F:=QP) (ok:=Uw) nR3 nR4 nR5 (jF (by kernel_rfl)) (jF (by kernel_rfl)) (λl h hp=>⟨hp,λ_=>by simpa[Uw] using h⟩) rfl rfl (λ_=>rfl)
end Go.Proofs.YtgjdonlgingdeaaGreatDoor.Am
