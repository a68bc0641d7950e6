/- Printed by program, part 3. No condition. -/
import Derived.Test.YtkmmjpnfhaecdaaGreatDoorDckP2
set_option linter.unusedVariables false
set_option synthInstance.maxSize 4000
set_option synthInstance.maxHeartbeats 400000
namespace Go.Proofs.YtkmmjpnfhaecdaaGreatDoor.Am
open Go Go.Am Go.Proofs
open _root_.Int (tdiv toNat)
open _root_.List (length replicate set take)
open _root_.Option (getD isSome)
abbrev uL5:Type:=(Int×A8×AX×(List (List A0))×Int×Int×A0×(List (List UInt8))×Int×Int×(List A0)×Int×Int×(List (List A0))×Int×Int×(List A0)×Int×Unit)
def rI7 (y:uL5)(x:DA):Vn DA:=
 let o:=y.1
 let c:=y.2.1
 let k:=(Q1 y).1
 let l:=(Q3 y).1
 let m:=(Qe y).1
 let j:=x.1
 let a:=x.2.1
 let n:Bool:=a<(Qd y).1
 let b:=nth m a A1
 let d:=l.2.1+b.1
 let e:=d*o
 let f:=k*c.2.2.1
 let g:=c.2.1+f
 let h:=g-b.2.1
 let i:=h*o
 (n->A7 a (len m)/\A6 (l.2.1+b.1)/\A6 (d*o)/\Ep e c.1/\A6 (k*c.2.2.1)/\A6 (c.2.1+f)/\A6 (g-b.2.1)/\A6 (h*o)/\Ep i c.1/\A7 a (len j)/\a<len j/\A6 (a+1),n,(set j (toNat a) (AS e c.1,AS i c.1,()),a+1,()))
def tT7 y x:=(rI7 y x).1
def TZ y x:=(rI7 y x).2.1
def Ua y x:=(rI7 y x).2.2
def tZ3 (y:uL5)(x:DA):(List A0):=
 x.1
def rI8:List (Nat×Sh):=[(2,vI),(4,Ah),(11,Ba),(12,Ay),(13,vI),(14,vI),(19,Bz),(24,(.own AQ 1024 true)),(41,Be),(42,vI),(43,vI),(54,Ce),(55,vI),(56,vI),(74,Dq),(75,vI),(76,vI)]
def pJ6:=li [(2,vI),(4,Ah),(11,Ba),(12,Ay),(13,vI),(14,vI),(19,Bz),(41,Be),(42,vI),(43,vI),(54,Ce),(55,vI),(56,vI),(74,Dq),(75,vI),(76,vI),(89,Bd),(90,vI)] [(24,(.own AQ 1024 true)),(91,vI)] TZ Ua tT7 (λy x=>[ex 8 none rI8 (y.1,y.2.1,y.2.2.1,y.2.2.2.1,y.2.2.2.2.1,(Q1 y).1,(Q3 y).1,(tZ3 y x),(Q0 y).1,(Q5 y).1,(Q4 y).1,(Q2 y).1,(Q7 y).1,(Q6 y).1,(Q9 y).1,(Qb y).1,(Qa y).1,())]) [rI8]
abbrev XZ:Type:=(Int×A8×AX×Int×A0×(List (List UInt8))×Int×Int×(List A0)×Int×Int×(List (List A0))×Int×Unit)
abbrev FE:Type:=((List (List A0))×Int×Int×Unit)
def Ya (y:XZ)(x:FE):Vm FE:=
 let i:=(Q7 y).1
 let l:=(Q6 y).1
 let h:=x.1
 let k:=x.2.1
 let a:=x.2.2.1
 let d:Bool:=a<l
 let e:=nth i a []
 let m:=len e
 let j:=k+m
 let f:Bool:=j>4096
 let c:=len e
 let b:=(y.1,y.2.1,y.2.2.1,h,j,y.2.2.2.1,y.2.2.2.2.1,(Q1 y).1,(Q3 y).1,(Q0 y).1,(Q5 y).1,(Q4 y).1,(Q2 y).1,i,l,a,e,len e,())
 let n:=(replicate (toNat c) A1,(0:Int),())
 let g:=([tZ3 b (A3 (TZ b) (Ua b) n)]:List (List A0))
 (d->A7 a (len i)/\A6 (k+m)/\(!f->(0<=c/\c<=c/\c<=4294967296)/\AB (TZ b) (Ua b) (tT7 b) n/\((length h+length g:Nat):Int)<=4294967296)/\(!f->A6 (a+1)),d&&(!f),(h++g,j,a+1,()),d&&f,!d)
def tT8 y x:=(Ya y x).1
def Ms y x:=(Ya y x).2.1
def Oy y x:=(Ya y x).2.2.1
def tT9 y x:=(Ya y x).2.2.2.1
def rI9 y x:=(Ya y x).2.2.2.2
def tZ4 (y:XZ)(x:FE):(List (List A0)):=
 []
def tZ5 (y:XZ)(x:FE):Int:=
 3
def rJ:List (Nat×Sh):=[(8,Av),(9,vI)]
def tZ6 (y:XZ)(x:FE):(List (List A0)):=
 x.1
def tZ7 (y:XZ)(x:FE):Int:=
 x.2.1
def rJ0:List (Nat×Sh):=[(2,vI),(4,Ah),(11,Ba),(12,Ay),(13,vI),(14,vI),(41,Be),(42,vI),(43,vI),(54,Ce),(55,vI),(56,vI)]
def pJ7:=li [(2,vI),(4,Ah),(11,Ba),(14,vI),(19,Bz),(41,Be),(42,vI),(43,vI),(54,Ce),(55,vI),(56,vI),(74,Dq),(75,vI)] [(12,Ay),(13,vI),(76,vI)] Ms Oy tT8 (λy x=>[ex 1 (some (tT9 y x)) rJ ((tZ4 y x),(tZ5 y x),()),ex 6 (some (rI9 y x)) rJ0 (y.1,y.2.1,y.2.2.1,(tZ6 y x),(tZ7 y x),y.2.2.2.1,(Q1 y).1,(Q3 y).1,(Q0 y).1,(Q5 y).1,(Q4 y).1,(Q2 y).1,())]) [rJ,rJ0]
abbrev wS:Type:=(Int×A8×AX×Int×(List (List UInt8))×Int×Int×(List A0)×Int×Unit)
def Yb (y:wS)(x:FE):Vm FE:=
 let m:=y.2.1
 let g:=(Q0 y).1
 let j:=(Q5 y).1
 let b:=x.2.2.1
 let e:Bool:=b<j
 let h:=nth g b A1
 let k:=nth m.2.2.2.1 h.1 BH
 let i:=BJ k.2.2.1
 let f:=i.2.1 !=0
 let a:=(y.1,m,y.2.2.1,y.2.2.2.1,h,y.2.2.2.2.1,(Q1 y).1,(Q3 y).1,g,j,b,i.1,len i.1,())
 let l:=(x.1,x.2.1,(0:Int),())
 let d:=A3 (Ms a) (Oy a) l
 let c:=(!f)&&rI9 a d
 (e->A7 b (len g)/\A7 h.1 (len m.2.2.2.1)/\XJ k.2.2.1/\(!f->AB (Ms a) (Oy a) (tT8 a) l)/\(c->A6 (b+1)),e&&c,(tZ6 a d,tZ7 a d,b+1,()),e&&(f||((!f)&&tT9 a d)),!e)
def tU y x:=(Yb y x).1
def Mt y x:=(Yb y x).2.1
def Mu y x:=(Yb y x).2.2.1
def Yc y x:=(Yb y x).2.2.2.1
def rJ1 y x:=(Yb y x).2.2.2.2
def tZ8 (y:wS)(x:FE):(List (List A0)):=
 let f:=y.2.1
 let c:=(Q0 y).1
 let d:=x.2.2.1
 let e:=nth c d A1
 let a:=BJ (nth f.2.2.2.1 e.1 BH).2.2.1
 let b:=(y.1,f,y.2.2.1,y.2.2.2.1,e,y.2.2.2.2.1,(Q1 y).1,(Q3 y).1,c,(Q5 y).1,d,a.1,len a.1,())
 (cond (a.2.1 !=0) [] (tZ4 b (A3 (Ms b) (Oy b) (x.1,x.2.1,0,()))))
def Yd (y:wS)(x:FE):Int:=
 let f:=y.2.1
 let c:=(Q0 y).1
 let d:=x.2.2.1
 let e:=nth c d A1
 let a:=BJ (nth f.2.2.2.1 e.1 BH).2.2.1
 let b:=(y.1,f,y.2.2.1,y.2.2.2.1,e,y.2.2.2.2.1,(Q1 y).1,(Q3 y).1,c,(Q5 y).1,d,a.1,len a.1,())
 (cond (a.2.1 !=0) a.2.1 (tZ5 b (A3 (Ms b) (Oy b) (x.1,x.2.1,0,()))))
def rJ2:List (Nat×Sh):=[(8,Av),(9,vI)]
def tZ9 (y:wS)(x:FE):(List (List A0)):=
 x.1
def sA (y:wS)(x:FE):Int:=
 x.2.1
def rJ3:List (Nat×Sh):=[(2,vI),(4,Ah),(11,Ba),(12,Ay),(13,vI),(41,Be),(42,vI),(43,vI)]
def pJ8:=li [(2,vI),(4,Ah),(11,Ba),(14,vI),(41,Be),(42,vI),(43,vI),(54,Ce),(55,vI)] [(12,Ay),(13,vI),(56,vI)] Mt Mu tU (λy x=>[ex 1 (some (Yc y x)) rJ2 ((tZ8 y x),(Yd y x),()),ex 4 (some (rJ1 y x)) rJ3 (y.1,y.2.1,y.2.2.1,(tZ9 y x),(sA y x),y.2.2.2.2.1,(Q1 y).1,(Q3 y).1,())]) [rJ2,rJ3]
abbrev Ye:Type:=(Int×A8×AX×(List (List UInt8))×Int×Unit)
def Yf (y:Ye)(x:FE):Vm FE:=
 let f:=y.2.2.1
 let g:=y.2.2.2.1
 let h:=y.2.2.2.2.1
 let b:=x.2.2.1
 let e:Bool:=b<h
 let i:=nth g b []
 let j:=BZ f i
 let a:=(y.1,y.2.1,f,b,g,h,b,j.1,len j.1,())
 let k:=(x.1,x.2.1,(0:Int),())
 let d:=A3 (Mt a) (Mu a) k
 let c:=rJ1 a d
 (e->A7 b (len g)/\Xw f i/\AB (Mt a) (Mu a) (tU a) k/\(c->A6 (b+1)),e&&c,(tZ9 a d,sA a d,b+1,()),e&&Yc a d,!e)
def sL1 y x:=(Yf y x).1
def JA y x:=(Yf y x).2.1
def JC y x:=(Yf y x).2.2.1
def Yg y x:=(Yf y x).2.2.2.1
def oI8 y x:=(Yf y x).2.2.2.2
def tC2 (y:Ye)(x:FE):(List (List A0)):=
 let c:=y.2.2.1
 let d:=y.2.2.2.1
 let a:=x.2.2.1
 let e:=BZ c (nth d a [])
 let b:=(y.1,y.2.1,c,a,d,y.2.2.2.2.1,a,e.1,len e.1,())
 (tZ8 b (A3 (Mt b) (Mu b) (x.1,x.2.1,0,())))
def uH1 (y:Ye)(x:FE):Int:=
 let c:=y.2.2.1
 let d:=y.2.2.2.1
 let a:=x.2.2.1
 let e:=BZ c (nth d a [])
 let b:=(y.1,y.2.1,c,a,d,y.2.2.2.2.1,a,e.1,len e.1,())
 (Yd b (A3 (Mt b) (Mu b) (x.1,x.2.1,0,())))
def qB7:List (Nat×Sh):=[(8,Av),(9,vI)]
def sT9 (y:Ye)(x:FE):(List (List A0)):=
 x.1
def qB8:List (Nat×Sh):=[(12,Ay)]
def oI9:=li [(2,vI),(4,Ah),(11,Ba),(41,Be),(42,vI)] [(12,Ay),(13,vI),(43,vI)] JA JC sL1 (λy x=>[ex 1 (some (Yg y x)) qB7 ((tC2 y x),(uH1 y x),()),ex 2 (some (oI8 y x)) qB8 ((sT9 y x),())]) [qB7,qB8]
def Mv (i:A8)(j:List UInt8)(k l:Int):Prop×((List (List A0))×Int×Unit):=
 let e:=Kz i j k l
 let c:=e !=0
 let d:=BC i
 let f:=f206 d j k l
 let a:=(k,i,d,f,len f,())
 let h:=(([]:List (List A0)),(0:Int),(0:Int),())
 let g:=A3 (JA a) (JC a) h
 let b:=Yg a g
 (qL0 i j k l/\(!c->XY i/\Tw d j k l/\AB (JA a) (JC a) (sL1 a) h),(cond c [] (cond b (tC2 a g) (sT9 a g)),cond c e (cond b (uH1 a g) 0),()))
def Qz a b c d:=(Mv a b c d).1
def DK a b c d:=(Mv a b c d).2
def oW8:=Fy Bm vS vI vI (.tup (.cons Av (.cons vI .nl))) Qz DK
theorem mV8:SK 167 (Fy Bm vS vI vI (.tup (.cons Av (.cons vI .nl))) Qz DK):=fb Tryz.func167 134 [kb Km,kb oV9,kb mV5,kb mV7,kb mP9,kb oT8] [(8,oI9),(12,pJ8),(18,pJ7),(25,pJ6)] [(21,[(4,0,51,1016)]),(29,[(4,0,68,1020)]),(47,[(4,0,88,1024)]),(58,[(1,24,0,0)]),(59,[(4,0,129,1012)]),(67,[(4,0,1012,0)])] false [] [88]
def QA (a:List UInt8):List (List UInt8):=Lib.fields a
def Yh (a:List UInt8):Prop:=(length a:Int)<=4294967280/\(a.all λb=>decide (b.toNat<128))=true
instance (a:List UInt8):Decidable (Yh a):=by
  unfold Yh
  infer_instance
def mV9:List (Nat×Sh):=[(0,Do)]
def mW:Sh:=Be
def mW0:List (Nat×Sh):=[]
def oW9:Am.Spec:=fnSpec mV9 mW mW0 (λx=>Yh x.1) (λx=>QA x.1) (λ_=>())
theorem tab0:G0=Lib.asciiSpaceTab:=by kernel_rfl
theorem mW1:SpecOk Tryz.prog 208 oW9:=wA8 (F:=QA) (e:=9) (ok:=Yh) ⟨_,Tryz.func208,by kernel_rfl,by decide⟩ λs w χ kf hg =>
  Any.strings_Fields_core Tryz.lays157 (by kernel_rfl) s w (by have h1:=kf.1;rw[jN] at h1;have h2:s.data.size=s.size:=rfl;omega)
    (λj b hj=>by have:=List.all_eq_true.1 kf.2 b (List.mem_of_getElem? hj);simpa using this)
    (λc hc=>by
      have h1:=wB8 hg (g:=0) (n:=256) (k:=.u8) (l:=G0) (jQ ..) c hc;rw[tab0,Lib.asciiSpaceTab_at c hc] at h1;exact h1)
def mW2 (a:List UInt8)(b:Int):Prop×Int:=
 (qJ1 a b,Xr a b)
def Yi a b:=(mW2 a b).1
def QB a b:=(mW2 a b).2
instance (a b):Decidable (Yi a b):=by unfold Yi mW2;dsimp only;infer_instance
theorem mW3:SK 209 (BG vS Bb vI Yi QB):=fb Tryz.func209 8 [kb mO0]
def mW4 (b c d e:Int):Prop×(List AA):=
 let a:=([((1:Int),([(b,c,()),A1,A1]:List A0),()),((2:Int),([(d,c,()),A1,A1]:List A0),()),((2:Int),([(d,e,()),A1,A1]:List A0),()),((2:Int),([(b,e,()),A1,A1]:List A0),()),((5:Int),replicate 3 A1,())]:List AA)
 (True,a)
def qL3 a b c d:=(mW4 a b c d).1
def Yj a b c d:=(mW4 a b c d).2
instance (a b c d):Decidable (qL3 a b c d):=by unfold qL3 mW4;dsimp only;infer_instance
theorem mW5:SK 246 (Fy vI vI vI vI Bk qL3 Yj):=fb Tryz.func246 31 [] [] [(3,[(4,0,30,0)])]
abbrev Yk:Type:=(Int×Int×(List AA)×Int×Unit)
def rB6 (y:Yk)(x:AD):Vn AD:=
 let b:=x.1
 let a:Bool:=(b+1)<7
 let c:=b+1
 let d:=cond a (FM .i64 (Fi y.2.1 c 64) 1==1) false
 (A6 (b+1)/\(a->A6 (b+1))/\(a->0<=c)/\(d->A6 (b+1)),d,(b+1,()))
def tM3 y x:=(rB6 y x).1
def rJ6 y x:=(rB6 y x).2.1
def tC4 y x:=(rB6 y x).2.2
instance (y x):Decidable (tM3 y x):=by unfold tM3 rB6;dsimp only;infer_instance
def sU (y:Yk)(x:AD):Int:=
 x.1
def qB9:List (Nat×Sh):=[(0,vI),(1,vI),(5,Cf),(6,vI),(7,vI)]
def oJ:=li [(0,vI),(1,vI),(5,Cf),(6,vI)] [(7,vI)] rJ6 tC4 tM3 (λy x=>[ex 4 none qB9 (y.1,y.2.1,y.2.2.1,y.2.2.2.1,(sU y x),())]) [qB9]
abbrev Ik:Type:=(Unit)
def rB7 (y:Ik)(x:Yk):Vn Yk:=
 let e:=x.1
 let o:=x.2.1
 let q:=x.2.2.1
 let d:=x.2.2.2.1
 let s:Bool:=d<7
 let b:=FM .i64 (Fi o d 64) 1==0
 let f:=(e,o,q,d,())
 let t:=(d,())
 let a:=sU f (A3 (rJ6 f) (tC4 f) t)
 let g:=100*e
 let h:=100*d
 let i:=700-h
 let j:=100*e
 let k:=j+100
 let l:=100*a
 let m:=600-l
 let n:=Yj g i k m
 let c:=b||(!b)
 let r:=cond b d a
 (s->0<=d/\(!b->AB (rJ6 f) (tC4 f) (tM3 f) t/\A6 (100*e)/\A6 (100*d)/\A6 (700-h)/\A6 (100*e)/\A6 (j+100)/\A6 (100*a)/\A6 (600-l)/\qL3 g i k m/\((length q+length n:Nat):Int)<=4294967296)/\(c->A6 (r+1)),s&&c,(cond b e e,cond b o o,cond b q (q++n),r+1,()))
def tM4 y x:=(rB7 y x).1
def rJ7 y x:=(rB7 y x).2.1
def tC6 y x:=(rB7 y x).2.2
instance (y x):Decidable (tM4 y x):=by unfold tM4 rB7;dsimp only;infer_instance
def sU0 (y:Ik)(x:Yk):(List AA):=
 x.2.2.1
def oJ0:=li [] [(0,vI),(1,vI),(5,Cf),(6,vI)] rJ7 tC6 tM4 (λy x=>[ex 2 none [(5,Cf)] ((sU0 y x),())]) [[(5,Cf)]]
def mW6 (b c:Int):Prop×(List AA):=
 let a:=(b,c,([]:List AA),(0:Int),())
 (AB (rJ7 ()) (tC6 ()) (tM4 ()) a,sU0 () (A3 (rJ7 ()) (tC6 ()) a))
def qL4 a b:=(mW6 a b).1
def Yl a b:=(mW6 a b).2
instance (a b):Decidable (qL4 a b):=by unfold qL4 mW6;dsimp only;infer_instance
theorem mW7:SK 210 (BG vI vI Bk qL4 Yl):=fb Tryz.func210 47 [kb mW5] [(3,oJ0),(7,oJ)] [(19,[(4,0,44,1005)]),(23,[(4,0,1005,0)])]
abbrev vZ4:Type:=((List UInt8)×(List (List UInt8))×Int×Int×Int×Unit)
abbrev Ym:Type:=((Int×Int×Int×(List C7)×(List DH)×Unit)×(Int×Int×Int×(List C7)×(List DH)×Unit)×(Int×Int×(List AA)×Unit)×Int×Unit)
def rB8 (y:vZ4)(x:Ym):Vn Ym:=
 let o:=y.1
 let b:=x.1
 let c:=x.2.1
 let q:=x.2.2.1
 let a:=x.2.2.2.1
 let d:Bool:=a<y.2.2.2.2.1
 let e:=2*a
 let f:=wD o e
 let g:=QB ([48,49,50,51,52,53,54,55,56,57,97,98,99,100,101,102]:List UInt8) f
 let h:=16*g
 let i:=2*a
 let j:=i+1
 let k:=wD o j
 let l:=QB ([48,49,50,51,52,53,54,55,56,57,97,98,99,100,101,102]:List UInt8) k
 let m:=h+l
 let n:=Yl a m
 (d->A6 (2*a)/\A7 e (len o)/\Yi ([48,49,50,51,52,53,54,55,56,57,97,98,99,100,101,102]:List UInt8) f/\A6 (16*g)/\A6 (2*a)/\A6 (i+1)/\A7 j (len o)/\Yi ([48,49,50,51,52,53,54,55,56,57,97,98,99,100,101,102]:List UInt8) k/\A6 (h+l)/\qL4 a m/\((length q.2.2.1+length n:Nat):Int)<=4294967296/\A6 (a+1),d,(b,c,(q.1,q.2.1,q.2.2.1++n,()),a+1,()))
def tM5 y x:=(rB8 y x).1
def rJ8 y x:=(rB8 y x).2.1
def tC7 y x:=(rB8 y x).2.2
instance (y x):Decidable (tM5 y x):=by unfold tM5 rB8;dsimp only;infer_instance
def sU1 (y:vZ4)(x:Ym):(Int×Int×Int×(List C7)×(List DH)×Unit):=
 let a:=x.1
 a
def sU2 (y:vZ4)(x:Ym):(Int×Int×Int×(List C7)×(List DH)×Unit):=
 let a:=x.2.1
 a
def sU3 (y:vZ4)(x:Ym):(Int×Int×(List AA)×Unit):=
 let a:=x.2.2.1
 (a.1,a.2.1,a.2.2.1,())
def qC:List (Nat×Sh):=[(0,Af),(1,Ag),(4,Bs),(8,Be),(9,vI),(10,vI)]
def oJ1:=li [(3,vS),(8,Be),(9,vI),(10,vI),(21,vI)] [(0,Af),(1,Ag),(4,Bs),(22,vI)] rJ8 tC7 tM5 (λy x=>[ex 4 none qC ((sU1 y x),(sU2 y x),(sU3 y x),y.2.1,y.2.2.1,y.2.2.2.1,())]) [qC]
abbrev Ub:Type:=((List (List UInt8))×Int×Unit)
abbrev Oz:Type:=((Int×Int×Int×(List C7)×(List DH)×Unit)×(Int×Int×Int×(List C7)×(List DH)×Unit)×Int×Unit)
def rB9 (y:Ub)(x:Oz):Vn Oz:=
 let l:=y.1
 let n:=y.2.1
 let f:=x.1
 let g:=x.2.1
 let d:=x.2.2.1
 let h:Bool:=d<n
 let i:=nth l d []
 let j:=len i
 let e:=(i,l,n,d,tdiv j 2,())
 let o:=(f,g,(IntKind.wrap .u8 (32+d),(600:Int),([]:List AA),()),(0:Int),())
 let m:=A3 (rJ8 e) (tC7 e) o
 let b:=sU1 e m
 let a:=sU2 e m
 let c:=sU3 e m
 let k:=([(c.1,c.2.1,c.2.2.1,())]:List C7)
 (h->A7 d (len l)/\A6 (32+d)/\A6 (tdiv j 2)/\AB (rJ8 e) (tC7 e) (tM5 e) o/\((length a.2.2.2.1+length k:Nat):Int)<=4294967296/\A6 (d+1),h,(b,(a.1,a.2.1,a.2.2.1,a.2.2.2.1++k,a.2.2.2.2.1,()),d+1,()))
def tM6 y x:=(rB9 y x).1
def rJ9 y x:=(rB9 y x).2.1
def tC8 y x:=(rB9 y x).2.2
instance (y x):Decidable (tM6 y x):=by unfold tM6 rB9;dsimp only;infer_instance
def qX1 (y:Ub)(x:Oz):(Int×Int×Int×(List C7)×(List DH)×Unit):=
 let a:=x.1
 a
def sU4 (y:Ub)(x:Oz):(Int×Int×Int×(List C7)×(List DH)×Unit):=
 let a:=x.2.1
 a
def qC0:List (Nat×Sh):=[(0,Af),(1,Ag)]
def oJ2:=li [(8,Be),(9,vI)] [(0,Af),(1,Ag),(10,vI)] rJ9 tC8 tM6 (λy x=>[ex 2 none qC0 ((qX1 y x),(sU4 y x),())]) [qC0]
def mW8 :Prop×A8:=
 let d:=QA Xq
 let b:=(d,len d,())
 let e:=(((0:Int),(0:Int),(0:Int),([]:List C7),([]:List DH),()),((1000:Int),(800:Int),(1200:Int),([]:List C7),([]:List DH),()),(0:Int),())
 let a:=sU4 b (A3 (rJ9 b) (tC8 b) e)
 let c:=(a.1,a.2.1,a.2.2.1,a.2.2.2.1,([((65:Int),(86:Int),(-100:Int),()),((76:Int),(84:Int),(-100:Int),()),((84:Int),(97:Int),(-100:Int),()),((86:Int),(65:Int),(-100:Int),())]:List DH),())
 (Yh Xq/\AB (rJ9 b) (tC8 b) (tM6 b) e,c)
def Uc :Prop:=(mW8).1
def IH :A8:=(mW8).2
instance:Decidable Uc:=by unfold Uc mW8;dsimp only;infer_instance
def oX:Am.Spec:=fnSpec [] Bm [] (λx=>Uc ) (λx=>IH ) (λ_=>())
theorem mW9:SK 168 (fnSpec [] Bm [] (λx=>Uc ) (λx=>IH ) (λ_=>())):=fb Tryz.func168 60 [kb mW1,kb mW3,kb mW7] [(3,oJ2),(7,oJ1)] [(21,[(4,0,43,400400)]),(25,[(4,0,50,400100)]),(29,[(4,0,57,400101)]),(31,[(4,0,400100,400000),(4,0,400101,400001)])]
abbrev QC:Type:=((List (List A0))×C1×(List (List A0))×Int×Unit)
def Yn (y:QC)(x:CT):Vm CT:=
 let d:=y.2.2.1
 let g:=x.1
 let a:=x.2.1
 let b:Bool:=a<y.2.2.2.1
 let e:=len (nth d a [])
 let f:=g+e
 let c:Bool:=f>4096
 (b->A7 a (len d)/\A6 (g+e)/\(!c->A6 (a+1)),b&&(!c),(f,a+1,()),b&&c,!b)
def tM7 y x:=(Yn y x).1
def II y x:=(Yn y x).2.1
def IJ y x:=(Yn y x).2.2.1
def O0 y x:=(Yn y x).2.2.2.1
def sL3 y x:=(Yn y x).2.2.2.2
def tC9 (y:QC)(x:CT):(List (List A0)):=
 []
def sU5 (y:QC)(x:CT):Int:=
 3
def qC1:List (Nat×Sh):=[(4,Av),(5,vI)]
def qC2:List (Nat×Sh):=[(0,Aj),(3,Bp)]
def oJ3:=li [(0,Aj),(3,Bp),(21,Aj),(22,vI)] [(7,vI),(23,vI)] II IJ tM7 (λy x=>[ex 1 (some (O0 y x)) qC1 ((tC9 y x),(sU5 y x),()),ex 2 (some (sL3 y x)) qC2 (y.1,y.2.1,())]) [qC1,qC2]
abbrev Ud:Type:=(C1×Int×(List (List A0))×Int×Int×(List A0)×Int×Unit)
abbrev O1:Type:=(((List (List A0))×Nat)×Int×Unit)
def tD (y:Ud)(x:O1):Vm O1:=
 let l:=y.1
 let g:=y.2.1
 let j:=(Q1 y).1
 let a:=x.1
 let b:=x.2.1
 let d:Bool:=b<(Q3 y).1
 let e:=nth j b A1
 let f:=C0 e
 let h:=f199 l e
 let i:=C0 h
 let k:=List.getD a.1 a.2 []
 let c:=(!f)&&(!i)
 (d->A7 b (len j)/\TG e/\(!f->qK l e/\TG h/\(!i->A7 g (len a.1)/\(toNat g=a.2/\g<len a.1)/\A7 b (len k)/\b<len k))/\(c->A6 (b+1)),d&&c,((set a.1 a.2 (set (List.getD a.1 a.2 []) (toNat b) h),a.2),b+1,()),d&&(f||((!f)&&i)),!d)
def QD y x:=(tD y x).1
def Ex y x:=(tD y x).2.1
def E2 y x:=(tD y x).2.2.1
def Yo y x:=(tD y x).2.2.2.1
def wQ y x:=(tD y x).2.2.2.2
def uQ3 (y:Ud)(x:O1):(List (List A0)):=
 []
def sA2 (y:Ud)(x:O1):Int:=
 (cond (C0 (nth (Q1 y).1 x.2.1 A1)) (2:Int) 2)
def rK:List (Nat×Sh):=[(4,Av),(5,vI)]
def sA3 (y:Ud)(x:O1):((List (List A0))×Nat):=
 let a:=x.1
 (a.1,a.2)
def rK0:List (Nat×Sh):=[(3,Bp),(10,(.ownh AQ 1010 48 true)),(37,Aj),(38,vI),(39,vI)]
def pJ9:=li [(3,Bp),(11,vI),(37,Aj),(38,vI),(39,vI),(50,Bd),(51,vI)] [(10,(.ownh AQ 1010 48 true)),(52,vI)] Ex E2 QD (λy x=>[ex 1 (some (Yo y x)) rK ((uQ3 y x),(sA2 y x),()),ex 6 (some (wQ y x)) rK0 (y.1,(sA3 y x),y.2.2.1,y.2.2.2.1,y.2.2.2.2.1,())]) [rK,rK0]
abbrev QE:Type:=(C1×(List (List A0))×Int×Unit)
def Yp (y:QE)(x:CM):Vm CM:=
 let g:=y.2.1
 let j:=y.2.2.1
 let f:=x.1
 let a:=x.2.1
 let e:Bool:=a<j
 let i:=nth g a []
 let d:=len i
 let b:=(y.1,a,g,j,a,i,len i,())
 let k:=((set f (toNat a) (replicate (toNat d) A1),toNat a),(0:Int),())
 let h:=A3 (Ex b) (E2 b) k
 let c:=wQ b h
 (e->A7 a (len g)/\(0<=d/\d<=d/\d<=4294967296)/\A7 a (len f)/\a<len f/\AB (Ex b) (E2 b) (QD b) k/\(c->A6 (a+1)),e&&c,((sA3 b h).1,a+1,()),e&&Yo b h,!e)
def QF y x:=(Yp y x).1
def GB y x:=(Yp y x).2.1
def GC y x:=(Yp y x).2.2.1
def Mw y x:=(Yp y x).2.2.2.1
def pK y x:=(Yp y x).2.2.2.2
def Yq (y:QE)(x:CM):(List (List A0)):=
 let d:=y.2.1
 let a:=x.2.1
 let b:=nth d a []
 let c:=(y.1,a,d,y.2.2.1,a,b,len b,())
 (uQ3 c (A3 (Ex c) (E2 c) ((set x.1 (toNat a) (replicate (toNat (len b)) A1),toNat a),0,())))
def vS1 (y:QE)(x:CM):Int:=
 let d:=y.2.1
 let a:=x.2.1
 let b:=nth d a []
 let c:=(y.1,a,d,y.2.2.1,a,b,len b,())
 (sA2 c (A3 (Ex c) (E2 c) ((set x.1 (toNat a) (replicate (toNat (len b)) A1),toNat a),0,())))
def rK1:List (Nat×Sh):=[(4,Av),(5,vI)]
def sA4 (y:QE)(x:CM):(List (List A0)):=
 x.1
def rK2:List (Nat×Sh):=[(10,(.own Ad 1010 true))]
def pK0:=li [(3,Bp),(37,Aj),(38,vI)] [(10,(.own Ad 1010 true)),(39,vI)] GB GC QF (λy x=>[ex 1 (some (Mw y x)) rK1 ((Yq y x),(vS1 y x),()),ex 4 (some (pK y x)) rK2 ((sA4 y x),())]) [rK1,rK2]
def mX (l:(List (List A0)))(m:C1):Prop×((List (List A0))×Int×Unit):=
 let h:=Fc m
 let g:=h !=0
 let e:=(l,m,l,len l,())
 let k:=((0:Int),(0:Int),())
 let j:=A3 (II e) (IJ e) k
 let f:=O0 e j
 let c:=len l
 let a:=(m,l,len l,())
 let i:=(replicate (toNat c) ([]:List A0),(0:Int),())
 let d:=A3 (GB a) (GC a) i
 let b:=Mw a d
 (Og m/\(!g->AB (II e) (IJ e) (tM7 e) k/\(sL3 e j->(0<=c/\c<=c/\c<=4294967296)/\AB (GB a) (GC a) (QF a) i)),(cond g [] (cond f (tC9 e j) (cond b (Yq a d) (sA4 a d))),cond g h (cond f (sU5 e j) (cond b (vS1 a d) 0)),()))
def qL5 a b:=(mX a b).1
def FV a b:=(mX a b).2
def oX0:=BG Aj Az (.tup (.cons Aj (.cons vI .nl))) qL5 FV
theorem mX0:SK 169 (BG Aj Az (.tup (.cons Aj (.cons vI .nl))) qL5 FV):=fb Tryz.func169 74 [kb pV2,kb oV8,kb pH1] [(6,oJ3),(14,pK0),(18,pJ9)] [(25,[(4,0,36,1010)]),(54,[(1,10,0,0)]),(57,[(1,4,0,0),(4,0,1010,0)])] false [] [36,48]
def nW9 (g:AI):Prop×Int:=
 let a:=DK IH (Qk g).1 (Ql g).1 (Qm g).1
 let c:=a.2.1 !=0
 let b:=FV a.1 (Q2 g).1
 let d:=b.2.1 !=0
 let e:=DZ b.1 0
 let f:=e !=0
 (Uc/\Qz IH (Qk g).1 (Ql g).1 (Qm g).1/\(!c->qL5 a.1 (Q2 g).1/\(!d->Qr b.1 0/\(!f->TF (Q9 g).1))),cond c a.2.1 (cond d b.2.1 (cond f e (H8 (Q9 g).1))))
def qL6 a:=(nW9 a).1
def Mx a:=(nW9 a).2
def oX1:=AU Bc vI qL6 Mx
def nX:=Cy [(132,oV5),(166,oW),(167,oW8),(168,oX),(169,oX0)] [] [(3,[(4,0,14,1003)])] 38
theorem mX1:SK 135 oX1:=fq (c:=nX) Tryz.func135 ⟨pG8,pH9,mV8,mW9,mX0,trivial⟩
def Ue (j k:Int):Prop×Bool:=
 let i:=j==2
 let e:=j==3
 let f:=j==4
 let a:=cond f f (j==11)
 let g:=j==5
 let b:=cond g g (j==9)
 let h:=j==6
 let c:=cond h h (j==7)
 let d:=cond e (cond (cond (k≥4) (decide (k<=16)) false) (Int.tmod k 2==0) false) (cond a (k==2) (cond b (k==3) (cond c (k==1) (k==9))))
 (True,cond (cond i true (cond e true (cond a true (cond b true (cond c true (j==8)))))) (cond i (k==5) d) (k==0))
def pK1 a b:=(Ue a b).1
def GD a b:=(Ue a b).2
theorem mX2:SK 170 (BG vI vI vB pK1 GD):=fb Tryz.func170 44
def mX3 (k l:Int):Prop×(Int×Int×Unit):=
 let b:=cond (k==2) (l==2) false
 let i:=k==4
 let j:=cond (k==5) (decide (l>0)) false
 let a:=cond i i (cond j j (cond (k==11) (l==1) false))
 let c:=k==5
 let d:=k==7
 let e:=k==8
 let f:=cond b true (cond a true (cond c true (cond d true (cond e true (k==11)))))
 let g:=cond f (cond b 1 (cond a (-65535:Int) (cond c (-32768:Int) (cond d 2 (cond e (-262140:Int) (-128:Int)))))) 0
 let h:=cond f (cond b (256:Int) (cond a 65535 (cond c 32768 (cond d 256 (cond e 262140 128))))) 65535
 (True,(g,h,()))
def pK2 a b:=(mX3 a b).1
def My a b:=(mX3 a b).2
theorem mX4:SK 211 (BG vI vI (.tup (.cons vI (.cons vI .nl))) pK2 My):=fb Tryz.func211 40
abbrev vZ6:Type:=(Int×(List Int)×(List B4)×(List Int)×Int×Unit)
def QG (y:vZ6)(x:AD):Vm AD:=
 let g:=y.1
 let d:=y.2.2.2.1
 let a:=x.1
 let b:Bool:=a<y.2.2.2.2.1
 let e:=nth d a 0
 let f:=My g a
 let c:=cond (e<f.1) true (e>f.2.1)
 (b->A7 a (len d)/\pK2 g a/\(!c->A6 (a+1)),b&&(!c),(a+1,()),b&&c,!b)
def qC3 y x:=(QG y x).1
def Mz y x:=(QG y x).2.1
def O2 y x:=(QG y x).2.2.1
def Uf y x:=(QG y x).2.2.2.1
def tM8 y x:=(QG y x).2.2.2.2
def sU6 (y:vZ6)(x:AD):Bool:=
 false
def qC4:List (Nat×Sh):=[(0,vI),(1,Ak),(2,Ao)]
def oJ5:=li [(0,vI),(1,Ak),(2,Ao),(13,Ak),(14,vI)] [(15,vI)] Mz O2 qC3 (λy x=>[ex 1 (some (Uf y x)) [(6,vB)] ((sU6 y x),()),ex 2 (some (tM8 y x)) qC4 (y.1,y.2.1,y.2.2.1,())]) [[(6,vB)],qC4]
abbrev vJ0:Type:=((List B4)×Int×Unit)
def QH (y:vJ0)(x:AD):Vm AD:=
 let e:=y.1
 let a:=x.1
 let b:Bool:=a<y.2.1
 let c:=nth e a CG
 let f:=cond (c.1<0) true (c.1>65535)
 let d:=cond f true (!(G9 c.2.1))
 (b->A7 a (len e)/\(!f->Oi c.2.1)/\(!d->A6 (a+1)),b&&(!d),(a+1,()),b&&d,!b)
def uQ5 y x:=(QH y x).1
def O3 y x:=(QH y x).2.1
def QI y x:=(QH y x).2.2.1
def Yr y x:=(QH y x).2.2.2.1
def pK3 y x:=(QH y x).2.2.2.2
def sA5 (y:vJ0)(x:AD):Bool:=
 false
def pK4:=li [(55,Ao),(56,vI)] [(57,vI)] O3 QI uQ5 (λy x=>[ex 1 (some (Yr y x)) [(6,vB)] ((sA5 y x),()),ex 4 (some (pK3 y x)) [] ()]) [[(6,vB)],[]]
def lV4 (k:Int)(l:List Int)(m:List B4):Prop×Bool:=
 let b:=(k,l,m,l,len l,())
 let j:=((0:Int),())
 let i:=A3 (Mz b) (O2 b) j
 let d:=k==9
 let e:=cond d (nth l 0 0==0) false
 let f:=cond e (nth l 1 0==0) false
 let g:=cond f (nth l 2 0==0) false
 let a:=(m,len m,())
 let h:=((0:Int),())
 let c:=A3 (O3 a) (QI a) h
 (AB (Mz b) (O2 b) (qC3 b) j/\(tM8 b i->(d->A7 0 (len l))/\(e->A7 1 (len l))/\(f->A7 2 (len l))/\(!g->AB (O3 a) (QI a) (uQ5 a) h)),cond (Uf b i) (sU6 b i) (cond g false (cond (Yr a c) (sA5 a c) true)))
def pK5 a b c:=(lV4 a b c).1
def M0 a b c:=(lV4 a b c).2
theorem mX5:SK 171 (DT vI Ak Ao vB pK5 M0):=fb Tryz.func171 76 [kb qJ6,kb mX4] [(2,oJ5),(11,pK4)]
abbrev vZ9:Type:=((List Int)×(List B4)×Unit)
def QJ (y:vZ9)(x:AD):Vm AD:=
 let d:=y.1
 let b:=x.1
 let a:Bool:=b<len d
 let e:=b-2
 let c:Bool:=nth d b 0<=nth d e 0
 (a->A7 b (len d)/\A6 (b-2)/\A7 e (len d)/\(!c->A6 (b+2)),a&&(!c),(b+2,()),a&&c,!a)
def sL4 y x:=(QJ y x).1
def uA y x:=(QJ y x).2.1
def Ug y x:=(QJ y x).2.2.1
def Ys y x:=(QJ y x).2.2.2.1
def qC5 y x:=(QJ y x).2.2.2.2
def sU7 (y:vZ9)(x:AD):Bool:=
 false
def oJ6:=li [(1,Ak),(2,Ao)] [(7,vI)] uA Ug sL4 (λy x=>[ex 1 (some (Ys y x)) [(6,vB)] ((sU7 y x),()),ex 2 (some (qC5 y x)) [(2,Ao)] (y.2.1,())]) [[(6,vB)],[(2,Ao)]]
abbrev vJ1:Type:=((List B4)×Unit)
def Yt (y:vJ1)(x:AD):Vm AD:=
 let d:=y.1
 let b:=x.1
 let a:Bool:=b<len d
 let e:=b-1
 let c:Bool:=(nth d b CG).1<=(nth d e CG).1
 (a->A7 b (len d)/\A6 (b-1)/\A7 e (len d)/\(!c->A6 (b+1)),a&&(!c),(b+1,()),a&&c,!a)
def tU1 y x:=(Yt y x).1
def QK y x:=(Yt y x).2.1
def QL y x:=(Yt y x).2.2.1
def Yu y x:=(Yt y x).2.2.2.1
def pK6 y x:=(Yt y x).2.2.2.2
def sA6 (y:vJ1)(x:AD):Bool:=
 false
def pK7:=li [(2,Ao)] [(8,vI)] QK QL tU1 (λy x=>[ex 1 (some (Yu y x)) [(6,vB)] ((sA6 y x),()),ex 4 (some (pK6 y x)) [] ()]) [[(6,vB)],[]]
def lV5 (j:Int)(k:List Int)(l:List B4):Prop×Bool:=
 let d:=j==2
 let f:=cond d (decide (nth k 1 0<=nth k 0 0)) false
 let b:=j==3
 let c:=(k,l,())
 let i:=((2:Int),())
 let h:=A3 (uA c) (Ug c) i
 let a:=(cond b l l,())
 let g:=((1:Int),())
 let e:=A3 (QK a) (QL a) g
 ((d->A7 1 (len k))/\(d->A7 0 (len k))/\(!f->(b->AB (uA c) (Ug c) (sL4 c) i)/\((cond b (qC5 c h) true)=true->AB (QK a) (QL a) (tU1 a) g)),cond f false (cond (Ys c h&&b) (sU7 c h) (cond (Yu a e) (sA6 a e) true)))
def pK8 a b c:=(lV5 a b c).1
def M1 a b c:=(lV5 a b c).2
theorem mX6:SK 172 (DT vI Ak Ao vB pK8 M1):=fb Tryz.func172 56 [] [(5,oJ6),(10,pK7)]
def Yv (g:Int)(h:List Int)(i:List B4):Prop×Int:=
 let a:=cond (g<1) true (g>11)
 let f:=len h
 let b:=cond (!(GD g f)) true (!(Ty.eqb .bool (decide (len i>0)) (g==10)))
 let c:Bool:=len i>16
 let d:=!(M0 g h i)
 let e:=cond (cond a true (cond b true (cond c true (cond d true (!(M1 g h i)))))) (cond a (8:Int) (cond b 1 (cond c 3 (cond d 2 24)))) 0
 (a=false->pK1 g f/\(b=false->c=false->pK5 g h i/\(d=false->pK8 g h i)),e)
def pK9 a b c:=(Yv a b c).1
def HE a b c:=(Yv a b c).2
theorem mX7:SK 136 (DT vI Ak Ao vI pK9 HE):=fb Tryz.func136 44 [kb mX2,kb mX5,kb mX6]
def lV6 (j:Int):Prop×(List A0):=
 let h:=j==1
 let i:=j==7
 let a:=cond h h (cond i i (j==8))
 let d:=j==2
 let e:=j==4
 let f:=j==3
 let g:=j==9
 let b:=cond f ([((0:Int),(16:Int),()),((0:Int),(262140:Int),())]:List A0) (cond g ([((-16:Int),(16:Int),()),((-16:Int),(16:Int),())]:List A0) ([((1:Int),(16:Int),())]:List A0))
 let c:=cond (cond a true (cond d true (cond e true (cond f true (cond g true (j==10)))))) (cond a ([((0:Int),(16:Int),())]:List A0) (cond d ([((0:Int),(7:Int),())]:List A0) (cond e ([((0:Int),(4:Int),())]:List A0) b))) []
 (True,c)
def pL a:=(lV6 a).1
def DB a:=(lV6 a).2
theorem mX8:SK 173 (AU vI Bx pL DB):=fb Tryz.func173 32 [] [] [(11,[(4,0,9,0)]),(15,[(4,0,13,0)]),(19,[(4,0,17,0)]),(23,[(4,0,22,0)]),(27,[(4,0,27,0)]),(31,[(4,0,31,0)])]
abbrev uA1:Type:=((List A0)×(List Int)×Int×Unit)
def Yw (y:uA1)(x:AD):Vm AD:=
 let g:=y.1
 let d:=y.2.1
 let a:=x.1
 let b:Bool:=a<y.2.2.1
 let e:=nth d a 0
 let f:Bool:=e<(nth g a A1).1
 let c:=cond f true (e>(nth g a A1).2.1)
 (b->A7 a (len d)/\A7 a (len g)/\(!f->A7 a (len g))/\(!c->A6 (a+1)),b&&(!c),(a+1,()),b&&c,!b)
def qC6 y x:=(Yw y x).1
def JD y x:=(Yw y x).2.1
def JE y x:=(Yw y x).2.2.1
def L5 y x:=(Yw y x).2.2.2.1
def oJ7 y x:=(Yw y x).2.2.2.2
def sU8 (y:uA1)(x:AD):Int:=
 2
def oJ8:=li [(5,Bq),(21,Ak),(22,vI)] [(23,vI)] JD JE qC6 (λy x=>[ex 1 (some (L5 y x)) [(4,vI)] ((sU8 y x),()),ex 2 (some (oJ7 y x)) [] ()]) [[(4,vI)],[]]
def mX9 (g:Int)(h:List Int):Prop×Int:=
 let b:=cond (g<1) true (g>10)
 let c:=DB g
 let d:=len h !=len c
 let a:=(c,h,len h,())
 let f:=((0:Int),())
 let e:=A3 (JD a) (JE a) f
 (!b->pL g/\(!d->AB (JD a) (JE a) (qC6 a) f),cond b 8 (cond d 1 (cond (L5 a e) (sU8 a e) 0)))
def pL0 a b:=(mX9 a b).1
def ER a b:=(mX9 a b).2
theorem mY:SK 137 (BG vI Ak vI pL0 ER):=fb Tryz.func137 45 [kb mX8] [(7,oJ8)] [(7,[(4,0,15,1005)])]
def Yx (y:DA)(x:AD):Vm AD:=
 let e:=y.1
 let a:=x.1
 let b:Bool:=a<y.2.1
 let c:=nth e a A1
 let d:=cond (cond (cond (c.1<(-1048576)) true (c.1>1048576)) true (c.2.1<(-1048576))) true (c.2.1>1048576)
 (b->A7 a (len e)/\(!d->A6 (a+1)),b&&(!d),(a+1,()),b&&d,!b)
def sL5 y x:=(Yx y x).1
def sA9 y x:=(Yx y x).2.1
def uH2 y x:=(Yx y x).2.2.1
def qC7 y x:=(Yx y x).2.2.2.1
def oJ9 y x:=(Yx y x).2.2.2.2
def sU9 (y:DA)(x:AD):Int:=
 2
def oK:=li [(43,Bd),(44,vI)] [(45,vI)] sA9 uH2 sL5 (λy x=>[ex 1 (some (qC7 y x)) [(2,vI)] ((sU9 y x),()),ex 2 (some (oJ9 y x)) [] ()]) [[(2,vI)],[]]
def lV7 (g:I8):Prop×Int:=
 let b:=cond (cond (cond (g.1<2) true (g.1>8)) true (g.2.1<2)) true (g.2.1>8)
 let c:=cond (g.2.2.1<1) true (g.2.2.1>256)
 let d:=cond c true (len g.2.2.2.1!=(g.1*g.2.1))
 let a:=(g.2.2.2.1,len g.2.2.2.1,())
 let f:=((0:Int),())
 let e:=A3 (sA9 a) (uH2 a) f
 (!b->(!c->A6 (g.1*g.2.1))/\(!d->AB (sA9 a) (uH2 a) (sL5 a) f),cond b 15 (cond d 15 (cond (qC7 a e) (sU9 a e) 0)))
def qL7 a:=(lV7 a).1
def f138 a:=(lV7 a).2
theorem mY0:SK 138 (AU Da vI qL7 f138):=fb Tryz.func138 68 [] [(6,oK)]
def QM (o:AI):Prop×Int:=
 let m:=o.2.1==2
 let a:=o.2.1==3
 let b:=o.2.1==4
 let c:=o.2.1==5
 let d:=o.2.1==6
 let e:=o.2.1==7
 let f:=o.2.1==8
 let k:=o.2.1==9
 let g:=cond k k (o.2.1==10)
 let l:=o.2.1==11
 let n:=cond f true (cond g (cond ((Qh o).1<1) true ((Qh o).1>1073741824)) l)
 let h:=cond e (HE (Qb o).1 (Qa o).1 (Qd o).1) (cond f (ER (Qb o).1 (Qa o).1) (cond g 2 (f138 (Qj o).1)))
 let i:=cond b (Mk (Qb o).1 (Qa o).1 (Qe o).1 (Qd o).1) (cond c (Ky o) (cond d (Mx o) h))
 let j:=cond (cond m true (cond a true (cond b true (cond c true (cond d true (cond e true n)))))) (cond m (Ly (Q6 o).1) (cond a (H8 (Q9 o).1) i)) 0
 ((m->PW (Q6 o).1)/\(m=false->(a->TF (Q9 o).1)/\(a=false->(b->pH0 (Qb o).1 (Qa o).1 (Qe o).1 (Qd o).1)/\(b=false->(c->pI9 o)/\(c=false->(d->qL6 o)/\(d=false->(e->pK9 (Qb o).1 (Qa o).1 (Qd o).1)/\(e=false->(f->pL0 (Qb o).1 (Qa o).1)/\(f=false->g=false->l->qL7 (Qj o).1))))))),j)
def oX3 a:=(QM a).1
def Uh a:=(QM a).2
theorem lV8:SK 98 (AU Bc vI oX3 Uh):=fb Tryz.func98 66 [kb mJ,kb pG8,kb mR7,kb mV,kb mX1,kb mX7,kb mY,kb mY0]
def QN (h:AI):Prop×Bool:=
 let c:=cond (cond (!(Ty.eqb Hz (Q2 h).1 (0,0,0,0,0,0,()))) true ((Q7 h).1 !=0)) true (!(Ty.eqb EP (Q9 h).1 (0,0,0,0,())))
 let d:=cond (cond (cond ((Qb h).1 !=0) true (len (Qa h).1!=0)) true ((Qe h).1 !=0)) true (len (Qd h).1!=0)
 let e:=cond (cond (cond (len (Q8 h).1!=0) true ((Qi h).1 !=0)) true ((Qc h).1 !=0)) true ((Qf h).1 !=0)
 let f:=cond (cond (!((Qk h).1==[])) true ((Ql h).1 !=0)) true ((Qm h).1 !=0)
 let b:=cond (cond ((Qj h).1.1==0) ((Qj h).1.2.1==0) false) ((Qj h).1.2.2.1==0) false
 let g:=cond (cond f true ((Qh h).1 !=0)) false (cond b (len (Qj h).1.2.2.2.1==0) false)
 let a:=cond (cond (cond ((Q6 h).1.1 !=0) true ((Q6 h).1.2.1 !=0)) true (len (Q6 h).1.2.2.1!=0)) false (cond d false (cond (cond e true ((Qg h).1 !=0)) false g))
 (True,cond c false a)
def oX4 a:=(QN a).1
def Yy a:=(QN a).2
theorem lV9:SK 99 (AU Bc vB oX4 Yy):=fb Tryz.func99 120
def lW (p:AI):Prop×AI:=
 let l:=(Va p (0,0,0,0,0,0,()) (Q7 p))
 let b:=cond (Od p.2.1) l p
 let m:=(Vb b 0 (Q6 b))
 let a:=cond (Oh b.2.1) m b
 let n:=(Vc a (0,0,[],()) (Q9 a))
 let o:=(Vd a (0,0,0,0,()) (Qb a))
 let d:=(Ve a 0 ([],0,[],(Q8 a)))
 let e:=(Vd a (0,0,0,0,()) ((Qb a).1,(Qa a).1,(Qe a).1,(Qd a).1,[],0,0,0,0,(Qk a)))
 let f:=(Vd a (0,0,0,0,()) ((Qb a).1,(Qa a).1,(Qe a).1,(Qd a).1,(Q8 a).1,(Qi a).1,(Qc a).1,(Qf a).1,(Qg a).1,[],0,0,(Qh a)))
 let g:=(Ve a 0 ([],(Qe a).1,[],(Q8 a)))
 let h:=(Ve a 0 ([],(Qe a)))
 let k:=a.2.1==9
 let i:=(Vf a 0 ((Qj a).1,()))
 let j:=(Vg a (0,0,0,[],()) ())
 let c:=cond (a.2.1==6) f (cond (a.2.1==7) g (cond (a.2.1==8) h (cond (cond k k (a.2.1==10)) i (cond (a.2.1==11) j a))))
 (pV1 p.2.1/\pV3 b.2.1,cond (a.2.1==2) n (cond (a.2.1==3) o (cond (a.2.1==4) d (cond (a.2.1==5) e c))))
def qL8 a:=(lW a).1
def IK a:=(lW a).2
theorem mY1:SK 100 (AU Bc Bc qL8 IK):=fb Tryz.func100 62 [kb mI8,kb mI9]
def Yz (n:AI)(o p:Int):Prop×Int:=
 let d:=Lx n o p
 let e:=d !=0
 let b:=Od n.2.1
 let f:=Fc (Q2 n).1
 let a:=f !=0
 let g:=TD (Q2 n).1
 let h:=g.2.1 !=0
 let i:=Oh n.2.1
 let j:=cond i (!(f97 (Q7 n).1)) false
 let k:=Uh n
 let l:=k !=0
 let m:=IK n
 let c:=cond e d (cond ((a||((!a)&&h))&&b) (cond a f g.2.1) (cond j 8 (cond l k (cond (!(Yy m)) 1 0))))
 (oU7 n o p/\(!e->pV1 n.2.1/\(b->Og (Q2 n).1/\(!a->oV1 (Q2 n).1))/\((cond b ((!a)&&(!h)) true)=true->pV3 n.2.1/\(i->oV2 (Q7 n).1)/\(!j->oX3 n/\(!l->qL8 n/\oX4 m)))),c)
def pV8 a b c:=(Yz a b c).1
def Hj a b c:=(Yz a b c).2
theorem lW0:SK 66 (DT Bc vI vI vI pV8 Hj):=fb Tryz.func66 55 [kb lT4,kb mI8,kb pV2,kb lT8,kb mI9,kb lT9,kb lV8,kb lV9,kb mY1]
abbrev wZ4:Type:=((List (Int×Int×Unit))×Int×AJ×Unit)
def vW (y:wZ4)(x:AD):Vm AD:=
 let f:=y.2.1
 let d:=y.2.2.1
 let e:=x.1
 let a:=e !=0
 let b:=e==(nth d.2.2.2.1 f A9).2.2.1
 let c:=getD (Ey Ab Ab e y.1) 0
 (a->A7 f (len d.2.2.2.1)/\(!b->A7 c (len d.2.2.2.1)),a&&(!b),((nth d.2.2.2.1 c A9).2.2.1,()),a&&b,!a)
def Y0 y x:=(vW y x).1
def Ui y x:=(vW y x).2.1
def QO y x:=(vW y x).2.2.1
def uH3 y x:=(vW y x).2.2.2.1
def qX2 y x:=(vW y x).2.2.2.2
def tR2 (y:wZ4)(x:AD):Bool:=
 true
def sV:List (Nat×Sh):=[(1,By),(6,vB)]
def sV0:List (Nat×Sh):=[(1,By)]
def qX3:=li [(1,By),(2,vI),(3,Ae)] [(7,vI)] Ui QO Y0 (λy x=>[ex 1 (some (uH3 y x)) sV (y.1,(tR2 y x),()),ex 2 (some (qX2 y x)) sV0 (y.1,())]) [sV,sV0]
def Y1 (f:AJ)(g:(List (Int×Int×Unit)))(h:Int):Vn ((List (Int×Int×Unit))×Unit):=
 let c:=h-1
 let b:=(g,h,f,())
 let e:=((nth f.2.2.2.1 c A9).1,())
 let d:=A3 (Ui b) (QO b) e
 let a:=uH3 b d
 (A6 (h-1)/\A7 c (len f.2.2.2.1)/\AB (Ui b) (QO b) (Y0 b) e,cond a (tR2 b d) false,(cond a g g,()))
def Y2 a b c:=(Y1 a b c).1
def sB a b c:=(Y1 a b c).2.1
def Uj a b c:=(Y1 a b c).2.2
theorem oX5:SK 67 (fnSpec [(0,Al),(1,By),(2,vI)] vB [(1,By)] (λx=>Y2 x.1 x.2.1 x.2.2.1) (λx=>sB x.1 x.2.1 x.2.2.1) (λx=>Uj x.1 x.2.1 x.2.2.1)):=fx (λc=>{ c with maps:=maps }) Tryz.func67 33 [] [(2,qX3)] [] false [1]
abbrev L6:Type:=(AJ×(List AI)×Int×Unit)
abbrev Y3:Type:=((List (Int×Int×Unit))×(List Int)×Int×Unit)
def Uk (y:L6)(x:Y3):Vm Y3:=
 let g:=y.1
 let q:=y.2.1
 let d:=x.1
 let v:=x.2.1
 let a:=x.2.2.1
 let h:Bool:=a<y.2.2.1
 let c:=nth q a A9
 let i:=Hj c g.1 g.2.1!=0
 let j:=cond (c.1<1) true (c.1≥g.2.2.2.2.1)
 let k:=isSome (Ey Ab Ab c.1 d)
 let b:=set v (toNat a) 1
 let e:=c.2.2.1 !=0
 let f:=getD (Ey Ab Ab c.2.2.1 d) 0
 let r:=!(isSome (Ey Ab Ab c.2.2.1 d))
 let l:=cond r true ((nth g.2.2.2.1 f A9).2.1 !=1)
 let o:=!(sB g d a)
 let s:=nth b f 0
 let n:=cond e ((!l)&&(!o)) true
 let u:=cond e (set b (toNat a) (s+1)) b
 let t:Bool:=nth u a 0>8
 let m:=(!i)&&((!j)&&((!k)&&(n&&(!t))))
 (h->A7 a (len q)/\pV8 c g.1 g.2.1/\(!i->!j->!k->A7 a (len v)/\a<len v/\(e->(!r->A7 f (len g.2.2.2.1))/\(!l->Y2 g d a/\0<length d/\length d=length d/\length d=length d/\length d=length d/\length d=length d/\(!o->A7 f (len b)/\f<len b/\A6 (s+1)/\A7 a (len b)/\a<len b)))/\(n->A7 a (len u)/\a<len u))/\(m->A6 (a+1)),h&&m,(GV Ab Ab c.1 a (cond e (Uj g d a).1 d),u,a+1,()),h&&(i||((!i)&&(j||((!j)&&(k||((!k)&&(((l||((!l)&&o))&&e)||(n&&t)))))))),!h)
def Ul y x:=(Uk y x).1
def Hk y x:=(Uk y x).2.1
def ES y x:=(Uk y x).2.2.1
def uM y x:=(Uk y x).2.2.2.1
def oX6 y x:=(Uk y x).2.2.2.2
def Um (y:L6)(x:Y3):Int:=
 let c:=y.1
 let g:=x.1
 let d:=x.2.2.1
 let a:=nth y.2.1 d A9
 let f:=Hj a c.1 c.2.1
 let b:=cond (!(isSome (Ey Ab Ab a.2.2.1 g))) true ((nth c.2.2.2.1 (getD (Ey Ab Ab a.2.2.1 g) 0) A9).2.1 !=1)
 let e:=cond (isSome (Ey Ab Ab a.1 g)) (10:Int) (cond ((b||((!b)&&(!(sB c g d))))&&(a.2.2.1 !=0)) (cond b 9 24) 12)
 (cond (f !=0) f (cond (cond (a.1<1) true (a.1≥c.2.2.2.2.1)) 2 e))
def oX7:=li [(1,Ae),(18,Ar),(19,vI)] [(3,(.own (Hq Ab Ab) 1003 true)),(4,(.own Ab 1004 true)),(20,vI)] Hk ES Ul (λy x=>[ex 1 (some (uM y x)) [(2,vI)] ((Um y x),()),ex 2 (some (oX6 y x)) [] ()]) [[(2,vI)],[]]
def QP (e:AJ):Prop×Int:=
 let a:=len e.2.2.2.1
 let b:=(e,e.2.2.2.1,len e.2.2.2.1,())
 let d:=(([]:List (Int×Int×Unit)),replicate (toNat a) (0:Int),(0:Int),())
 let c:=A3 (Hk b) (ES b) d
 ((0<=a/\a<=a/\a<=4294967296)/\AB (Hk b) (ES b) (Ul b) d,cond (uM b c) (Um b c) 0)
def Y4 a:=(QP a).1
def K0 a:=(QP a).2
theorem lW1:SK 36 (AU Al vI Y4 K0):=fx (λc=>{ c with wants:=[(67,[1])],maps:=maps }) Tryz.func36 99 [kb lW0,kb oX5] [(4,oX7)] [(3,[(4,0,12,1003)]),(5,[(4,0,16,1004)])] false [] [16]
abbrev tN:Type:=(AJ×AI×(List AI)×Int×Int×Unit)
def Y5 (y:tN)(x:AD):Vn AD:=
 let e:=y.1
 let a:=x.1
 let b:Bool:=a≥0
 let c:=(nth e.2.2.2.1 a A9).2.2.1 !=y.2.1.2.2.1
 let d:=cond b (cond c true (Q3 (nth e.2.2.2.1 a A9)).1) false
 ((b->A7 a (len e.2.2.2.1))/\((b&&(!c))->A7 a (len e.2.2.2.1))/\(d->A6 (a-1)),d,(a-1,()))
def Un y x:=(Y5 y x).1
def FW y x:=(Y5 y x).2.1
def Gt y x:=(Y5 y x).2.2
def tU2 (y:tN)(x:AD):Int:=
 x.1
def qX5:List (Nat×Sh):=[(1,Ae),(5,vI),(7,Ar),(8,vI),(9,vI)]
def oX8:=li [(1,Ae),(4,(.box DD Bc)),(7,Ar),(8,vI),(9,vI)] [(5,vI)] FW Gt Un (λy x=>[ex 4 none qX5 (y.1,(tU2 y x),y.2.2.1,y.2.2.2.1,y.2.2.2.2.1,())]) [qX5]
abbrev vS2:Type:=(AJ×(List AI)×Int×Int×Unit)
def O4 (y:Ik)(x:vS2):Vm vS2:=
 let g:=x.1
 let h:=x.2.1
 let m:=x.2.2.1
 let e:=x.2.2.2.1
 let c:Bool:=e<m
 let j:=nth h e A9
 let b:=!(Q3 j).1
 let f:=(g,j,h,m,e,())
 let o:=(e-1,())
 let a:=tU2 f (A3 (FW f) (Gt f) o)
 let d:Bool:=a<0
 let k:=nth g.2.2.2.1 a A9
 let l:=J4 k
 let i:=b||((!b)&&((!d)&&(!l)))
 let n:=cond b e e
 (c->A7 e (len h)/\(!b->A6 (e-1)/\AB (FW f) (Gt f) (Un f) o/\(!d->A7 a (len g.2.2.2.1)/\PN k))/\(i->A6 (n+1)),c&&i,(cond b g g,cond b h h,cond b m m,n+1,()),c&&((!b)&&(d||((!d)&&l))),!c)
def QQ y x:=(O4 y x).1
def K1 y x:=(O4 y x).2.1
def JF y x:=(O4 y x).2.2.1
def Y7 y x:=(O4 y x).2.2.2.1
def oX9 y x:=(O4 y x).2.2.2.2
def Y8 (y:Ik)(x:vS2):Int:=
 let c:=x.2.1
 let a:=x.2.2.2.1
 let b:=(x.1,nth c a A9,c,x.2.2.1,a,())
 (cond (tU2 b (A3 (FW b) (Gt b) (a-1,()))<0) (14:Int) 8)
def oY:=li [] [(1,Ae),(7,Ar),(8,vI),(9,vI)] K1 JF QQ (λy x=>[ex 1 (some (Y7 y x)) [(2,vI)] ((Y8 y x),()),ex 2 (some (oX9 y x)) [] ()]) [[(2,vI)],[]]
def QR (c:AJ):Prop×Int:=
 let b:=(c,c.2.2.2.1,len c.2.2.2.1,(0:Int),())
 let a:=A3 (K1 ()) (JF ()) b
 (AB (K1 ()) (JF ()) (QQ ()) b,cond (Y7 () a) (Y8 () a) 0)
def Y9 a:=(QR a).1
def L7 a:=(QR a).2
theorem lW2:SK 37 (AU Al vI Y9 L7):=fb Tryz.func37 51 [kb oU6] [(2,oY),(6,oX8)]
def Uo (y:Oc)(x:AD):Vm AD:=
 let e:=y.1
 let a:=x.1
 let b:Bool:=a<y.2.1
 let d:Bool:=wD e a<33
 let c:=cond d true (wD e a>126)
 (b->A7 a (len e)/\(!d->A7 a (len e))/\(!c->A6 (a+1)),b&&(!c),(a+1,()),b&&c,!b)
def sB0 y x:=(Uo y x).1
def qL9 y x:=(Uo y x).2.1
def tU3 y x:=(Uo y x).2.2.1
def qX7 y x:=(Uo y x).2.2.2.1
def oY0 y x:=(Uo y x).2.2.2.2
def rK5 (y:Oc)(x:AD):Bool:=
 false
def oY1:=li [(0,vS),(13,vI)] [(14,vI)] qL9 tU3 sB0 (λy x=>[ex 1 (some (qX7 y x)) [(2,vB)] ((rK5 y x),()),ex 2 (some (oY0 y x)) [] ()]) [[(2,vB)],[]]
def QS (e:List UInt8):Prop×Bool:=
 let b:=cond (len e<1) true (len e>32)
 let a:=(e,len e,())
 let d:=((0:Int),())
 let c:=A3 (qL9 a) (tU3 a) d
 (!b->AB (qL9 a) (tU3 a) (sB0 a) d,cond b false (cond (qX7 a c) (rK5 a c) true))
def YA a:=(QS a).1
def QT a:=(QS a).2
theorem lW3:SK 69 (AU vS vB YA QT):=fb Tryz.func69 28 [] [(4,oY1)]
abbrev YB:Type:=(AJ×C4×(List C4)×Int×Int×(List C4)×Int×Unit)
def Up (y:YB)(x:AD):Vm AD:=
 let f:=y.2.1
 let d:=(Q1 y).1
 let a:=x.1
 let b:Bool:=a<(Q3 y).1
 let e:=nth d a CS
 let c:=cond (e.1==f.1) true (e.2.1==f.2.1)
 (b->A7 a (len d)/\(!c->A6 (a+1)),b&&(!c),(a+1,()),b&&c,!b)
def sB1 y x:=(Up y x).1
def YC y x:=(Up y x).2.1
def YD y x:=(Up y x).2.2.1
def YE y x:=(Up y x).2.2.2.1
def sB3 y x:=(Up y x).2.2.2.2
def rK6 (y:YB)(x:AD):Int:=
 10
def qX9:List (Nat×Sh):=[(1,Ae),(4,Cq),(9,Bf),(10,vI),(11,vI)]
def oY2:=li [(1,Ae),(4,Cq),(9,Bf),(10,vI),(11,vI),(53,Bf),(54,vI)] [(55,vI)] YC YD sB1 (λy x=>[ex 1 (some (YE y x)) [(2,vI)] ((rK6 y x),()),ex 4 (some (sB3 y x)) qX9 (y.1,y.2.1,y.2.2.1,y.2.2.2.1,y.2.2.2.2.1,())]) [[(2,vI)],qX9]
abbrev uR0:Type:=(AJ×(List C4)×Int×Unit)
def Uq (y:uR0)(x:AD):Vm AD:=
 let l:=y.1
 let m:=y.2.1
 let h:=y.2.2.1
 let b:=x.1
 let d:Bool:=b<h
 let a:=nth m b CS
 let e:=!(QT a.2.1)
 let n:=cond (cond (cond (cond (a.1<1) true (a.1≥l.2.2.2.2.1)) true (a.2.2.1<0)) true (a.2.2.1>2)) true (a.2.2.2.1<1)
 let f:=cond n true (a.2.2.2.1>1073741824)
 let j:=take (toNat b) (Q0 l).1
 let g:=(l,a,m,h,b,j,len j,())
 let q:=((0:Int),())
 let o:=A3 (YC g) (YD g) q
 let c:=sB3 g o
 let k:=Ly a.2.2.2.2.1!=0
 let i:=(!e)&&((!f)&&(c&&(!k)))
 (d->A7 b (len m)/\YA a.2.1/\(!e->!f->(0<=b/\b<=len (Q0 l).1)/\AB (YC g) (YD g) (sB1 g) q/\(c->PW a.2.2.2.2.1))/\(i->A6 (b+1)),d&&i,(b+1,()),d&&(e||((!e)&&(f||((!f)&&(YE g o||(c&&k)))))),!d)
def YF y x:=(Uq y x).1
def O5 y x:=(Uq y x).2.1
def Ur y x:=(Uq y x).2.2.1
def sB4 y x:=(Uq y x).2.2.2.1
def oY3 y x:=(Uq y x).2.2.2.2
def uR1 (y:uR0)(x:AD):Int:=
 let f:=y.1
 let h:=y.2.1
 let b:=x.1
 let a:=nth h b CS
 let g:=cond (cond (cond (cond (a.1<1) true (a.1≥f.2.2.2.2.1)) true (a.2.2.1<0)) true (a.2.2.1>2)) true (a.2.2.2.1<1)
 let d:=take (toNat b) (Q0 f).1
 let e:=(f,a,h,y.2.2.1,b,d,len d,())
 let i:=A3 (YC e) (YD e) (0,())
 let c:=cond (!(QT a.2.1)) 13 (cond (cond g true (a.2.2.2.1>1073741824)) 2 (cond (YE e i) (rK6 e i) (Ly a.2.2.2.2.1)))
 c
def oY4:=li [(1,Ae),(9,Bf),(10,vI)] [(11,vI)] O5 Ur YF (λy x=>[ex 1 (some (sB4 y x)) [(2,vI)] ((uR1 y x),()),ex 2 (some (oY3 y x)) [] ()]) [[(2,vI)],[]]
def QU (d:AJ):Prop×Int:=
 let a:=(d,(Q0 d).1,len (Q0 d).1,())
 let c:=((0:Int),())
 let b:=A3 (O5 a) (Ur a) c
 (AB (O5 a) (Ur a) (YF a) c,cond (sB4 a b) (uR1 a b) 0)
def qY a:=(QU a).1
def L8 a:=(QU a).2
theorem lW4:SK 38 (AU Al vI qY L8):=fb Tryz.func38 79 [kb lW3,kb mJ] [(2,oY4),(9,oY2)]
def pL1 (a:AI)(b:Int):Prop×Bool:=
 (True,a.1==b)
def sB5 a b:=(pL1 a b).1
def mJ0 a b:=(pL1 a b).2
instance (a b):Decidable (sB5 a b):=by unfold sB5 pL1;dsimp only;infer_instance
theorem oY5:SK 44 (BG Bc Eb vB sB5 mJ0):=fb Tryz.func44 8
abbrev wZ5:Type:=((List AI)×(Int×Unit)×Int×Unit)
def Us (y:wZ5)(x:AD):Vm AD:=
 let e:=y.1
 let f:=y.2.1
 let b:=x.1
 let d:Bool:=b<y.2.2.1
 let c:=nth e b A9
 let a:=mJ0 c f.1
 (d->A7 b (len e)/\sB5 c f.1/\(!a->A6 (b+1)),d&&(!a),(b+1,()),d&&a,!d)
def Ut y x:=(Us y x).1
def Il y x:=(Us y x).2.1
def Im y x:=(Us y x).2.2.1
def Uu y x:=(Us y x).2.2.2.1
def qY0 y x:=(Us y x).2.2.2.2
instance (y x):Decidable (Ut y x):=by unfold Ut Us;dsimp only;infer_instance
def YG (y:wZ5)(x:AD):Int:=
 x.1
def qY1:=li [(0,Ar),(1,(.fn 44 (.cons Eb .nl))),(7,vI)] [(8,vI)] Il Im Ut (λy x=>[ex 1 (some (Uu y x)) [(4,vI)] ((YG y x),()),ex 2 (some (qY0 y x)) [] ()]) [[(4,vI)],[]]
def pL2 (d:List AI)(e:(Int×Unit)):Prop×Int:=
 let a:=(d,(e.1,()),len d,())
 let c:=((0:Int),())
 let b:=A3 (Il a) (Im a) c
 (AB (Il a) (Im a) (Ut a) c,cond (Uu a b) (YG a b) (-1:Int))
def sB6 a b:=(pL2 a b).1
def mJ1 a b:=(pL2 a b).2
instance (a b):Decidable (sB6 a b):=by unfold sB6 pL2;dsimp only;infer_instance
theorem oY6:SK 43 (BG Ar (.fn 44 (.cons Eb .nl)) vI sB6 mJ1):=fb Tryz.func43 19 [kb oY5] [(2,qY1)]
def f9t (a:AJ)(b:Int):Prop×Int:=
 let s:=(b,())
 (sB6 a.2.2.2.1 s,mJ1 a.2.2.2.1 s)
def Io a b:=(f9t a b).1
def f9 a b:=(f9t a b).2
instance (a b):Decidable (Io a b):=by unfold Io f9t;dsimp only;infer_instance
def mY2:=BG Al vI vI Io f9
theorem QV:SK 9 (BG Al vI vI Io f9):=fb Tryz.func9 9 [kb oY6] [] [(2,[(3,3,0,0)])]
def pL4 (a:C4)(b:AI):Prop×Bool:=
 (True,a.1==(Qh b).1)
def sB8 a b:=(pL4 a b).1
def mJ2 a b:=(pL4 a b).2
theorem oY7:SK 72 (BG (.val H0) De vB sB8 mJ2):=fb Tryz.func72 9
abbrev wT0:Type:=((List C4)×(AI×Unit)×Int×Unit)
def Uv (y:wT0)(x:AD):Vm AD:=
 let e:=y.1
 let f:=y.2.1
 let b:=x.1
 let d:Bool:=b<y.2.2.1
 let c:=nth e b CS
 let a:=mJ2 c f.1
 (d->A7 b (len e)/\sB8 c f.1/\(!a->A6 (b+1)),d&&(!a),(b+1,()),d&&a,!d)
def vS4 y x:=(Uv y x).1
def tD7 y x:=(Uv y x).2.1
def uA6 y x:=(Uv y x).2.2.1
def sB9 y x:=(Uv y x).2.2.2.1
def qM y x:=(Uv y x).2.2.2.2
def tD8 (y:wT0)(x:AD):Int:=
 x.1
def qM0:=li [(0,Bf),(1,(.fn 72 (.cons De .nl))),(7,vI)] [(8,vI)] tD7 uA6 vS4 (λy x=>[ex 1 (some (sB9 y x)) [(4,vI)] ((tD8 y x),()),ex 2 (some (qM y x)) [] ()]) [[(4,vI)],[]]
def qM1 (d:List C4)(e:(AI×Unit)):Prop×Int:=
 let a:=(d,(e.1,()),len d,())
 let c:=((0:Int),())
 let b:=A3 (tD7 a) (uA6 a) c
 (AB (tD7 a) (uA6 a) (vS4 a) c,cond (sB9 a b) (tD8 a b) (-1:Int))
def YH a b:=(qM1 a b).1
def O6 a b:=(qM1 a b).2
theorem oK0:SK 103 (BG Bf (.fn 72 (.cons De .nl)) vI YH O6):=fb Tryz.func103 19 [kb oY7] [(2,qM0)]
def pL5 (a:List C4)(b:(AI×Unit)):Prop×Bool:=
 let s:=(b.1,())
 (YH a s,decide (O6 a s≥0))
def tE a b:=(pL5 a b).1
def mJ3 a b:=(pL5 a b).2
theorem oY8:SK 71 (BG Bf (.fn 72 (.cons De .nl)) vB tE mJ3):=fb Tryz.func71 9 [kb oK0]
def sM (y:L6)(x:AD):Vm AD:=
 let g:=y.1
 let m:=y.2.1
 let h:=x.1
 let b:Bool:=h<y.2.2.1
 let a:=nth m h A9
 let c:=a.2.1==9
 let s:=(a,())
 let j:=!(mJ3 (Q0 g).1 s)
 let e:=a.2.1==10
 let f:=f9 g (Qh a).1
 let d:Bool:=f<0
 let k:=nth g.2.2.2.1 f A9
 let l:=J4 k
 let i:=cond c (!j) (cond e ((!d)&&(!l)) true)
 (b->A7 h (len m)/\(c->tE (Q0 g).1 s)/\(c=false->e->Io g (Qh a).1/\(!d->A7 f (len g.2.2.2.1)/\PN k))/\(i->A6 (h+1)),b&&i,(h+1,()),b&&(cond c j ((d||((!d)&&l))&&e)),!b)
def YI y x:=(sM y x).1
def O7 y x:=(sM y x).2.1
def Uw y x:=(sM y x).2.2.1
def Ux y x:=(sM y x).2.2.2.1
def oY9 y x:=(sM y x).2.2.2.2
def YJ (y:L6)(x:AD):Int:=
 let a:=nth y.2.1 x.1 A9
 (cond (a.2.1==9) (9:Int) (cond (f9 y.1 (Qh a).1<0) 9 8))
def oZ:=li [(1,Ae),(7,Ar),(8,vI)] [(9,vI)] O7 Uw YI (λy x=>[ex 1 (some (Ux y x)) [(2,vI)] ((YJ y x),()),ex 2 (some (oY9 y x)) [] ()]) [[(2,vI)],[]]
def QW (d:AJ):Prop×Int:=
 let a:=(d,d.2.2.2.1,len d.2.2.2.1,())
 let c:=((0:Int),())
 let b:=A3 (O7 a) (Uw a) c
 (AB (O7 a) (Uw a) (YI a) c,cond (Ux a b) (YJ a b) 0)
def YK a:=(QW a).1
def L9 a:=(QW a).2
theorem lW5:SK 39 (AU Al vI YK L9):=fb Tryz.func39 37 [kb QV,kb oU6,kb oY8] [(2,oZ)] [(12,[(3,4,0,0)])]
abbrev sC:Type:=(Int×AJ×(List AI)×Int×Unit)
def qM2 (y:sC)(x:Fj):Vn Fj:=
 let g:=y.1
 let h:=y.2.1
 let b:=y.2.2.1
 let f:=x.1
 let a:=x.2.1
 let c:Bool:=a<y.2.2.2.1
 let d:=(nth b a A9).2.2.1==(nth h.2.2.2.1 g A9).1
 let e:=([a]:List Int)
 (c->A7 a (len b)/\A7 g (len h.2.2.2.1)/\(d->((length f+length e:Nat):Int)<=4294967296)/\A6 (a+1),c,(cond d (f++e) f,a+1,()))
def YL y x:=(qM2 y x).1
def YM y x:=(qM2 y x).2.1
def YN y x:=(qM2 y x).2.2
instance (y x):Decidable (YL y x):=by unfold YL qM2;dsimp only;infer_instance
def rK7 (y:sC)(x:Fj):(List Int):=
 x.1
def qY3:List (Nat×Sh):=[(5,Au)]
def oZ0:=li [(1,vI),(2,Ae),(18,Ar),(19,vI)] [(5,Au),(20,vI)] YM YN YL (λy x=>[ex 3 none qY3 ((rK7 y x),())]) [qY3]
def QX (j:AJ)(k:Int):Prop×(List Int):=
 let c:=nth j.2.2.2.1 k A9
 let a:=c.2.1==1
 let b:=(k,j,j.2.2.2.1,len j.2.2.2.1,())
 let i:=(([]:List Int),(0:Int),())
 let d:=c.2.1==10
 let e:=nth j.2.2.2.1 k A9
 let f:=f9 j (Qh e).1
 let g:Bool:=f≥0
 let h:=([f]:List Int)
 (A7 k (len j.2.2.2.1)/\(a->AB (YM b) (YN b) (YL b) i)/\(a=false->d->A7 k (len j.2.2.2.1)/\Io j (Qh e).1/\(g->(length h:Int)<=4294967296)),cond a (rK7 b (A3 (YM b) (YN b) i)) (cond d (cond g h []) []))
def Uy a b:=(QX a b).1
def BW a b:=(QX a b).2
instance (a b):Decidable (Uy a b):=by unfold Uy QX;dsimp only;infer_instance
def nX0:=BG Al vI Bg Uy BW
theorem lW6:SK 74 (BG Al vI Bg Uy BW):=fb Tryz.func74 56 [kb QV] [(5,oZ0)] [(17,[(4,0,37,1005)]),(27,[(4,0,54,1005)]),(29,[(4,0,1005,0)])]
abbrev ET:Type:=Int->(List Bool)->(List Bool)->AJ->Unit->Prop×Bool×((List Bool)×(List Bool)×AJ×Unit)
def Uz (r:ET):Am.Spec:=fnSpec [(0,vI),(1,As),(2,At),(3,Ae),(4,(.fptr 73 [some (1,Bl),some (2,Bl),some (3,T28),none]))] vB [(1,As),(2,At),(3,Ae)] (λx=>(r x.1 x.2.1 x.2.2.1 x.2.2.2.1 x.2.2.2.2.1).1) (λx=>(r x.1 x.2.1 x.2.2.1 x.2.2.2.1 x.2.2.2.2.1).2.1) (λx=>(r x.1 x.2.1 x.2.2.1 x.2.2.2.1 x.2.2.2.2.1).2.2)
abbrev wH:Type:=(Int×Unit×(List Int)×Int×Unit)
abbrev Gu:Type:=((List Bool)×(List Bool)×AJ×Int×Unit)
def U0 (r:ET)(y:wH)(x:Gu):Vm Gu:=
 let f:=y.2.2.1
 let g:=x.1
 let h:=x.2.1
 let i:=x.2.2.1
 let a:=x.2.2.2.1
 let c:Bool:=a<y.2.2.2.1
 let d:=nth f a 0
 let e:=(r d g h i ()).2.1
 let b:=(r d g h i ()).2.2
 (c->A7 a (len f)/\(r d g h i ()).1/\(!e->A6 (a+1)),c&&(!e),(b.1,b.2.1,b.2.2.1,a+1,()),c&&e,!c)
def U1 (r:ET)(y:wH)(x:Gu):Prop:=((U0 r) y x).1
def wO (r:ET)(y:wH)(x:Gu):Bool:=((U0 r) y x).2.1
def M3 (r:ET)(y:wH)(x:Gu):Gu:=((U0 r) y x).2.2.1
def M4 (r:ET)(y:wH)(x:Gu):Bool:=((U0 r) y x).2.2.2.1
def sV1 (r:ET)(y:wH)(x:Gu):Bool:=((U0 r) y x).2.2.2.2
instance (r:ET) [∀q0 q1 q2 q3 q4,Decidable (r q0 q1 q2 q3 q4).1] (y:wH)(x:Gu):Decidable ((U1 r) y x):=by
 unfold U1 U0
 try dsimp only
 infer_instance
def tR3 (r:ET)(y:wH)(x:Gu):(List Bool):=
 (r (nth y.2.2.1 x.2.2.2.1 0) x.1 x.2.1 x.2.2.1 ()).2.2.1
def tR4 (r:ET)(y:wH)(x:Gu):(List Bool):=
 (r (nth y.2.2.1 x.2.2.2.1 0) x.1 x.2.1 x.2.2.1 ()).2.2.2.1
def tR5 (r:ET)(y:wH)(x:Gu):AJ:=
 (r (nth y.2.2.1 x.2.2.2.1 0) x.1 x.2.1 x.2.2.1 ()).2.2.2.2.1
def tR6 (r:ET)(y:wH)(x:Gu):Bool:=
 true
def sV2:List (Nat×Sh):=[(1,As),(2,At),(3,Ae),(6,vB)]
def tR7 (r:ET)(y:wH)(x:Gu):(List Bool):=
 x.1
def tR8 (r:ET)(y:wH)(x:Gu):(List Bool):=
 x.2.1
def tR9 (r:ET)(y:wH)(x:Gu):AJ:=
 x.2.2.1
def sV3:List (Nat×Sh):=[(0,vI),(1,As),(2,At),(3,Ae)]
def tS (r:ET):St->Option Out:=I6 [(0,vI),(4,(.fptr 73 [some (1,Bl),some (2,Bl),some (3,T28),none])),(29,(.own Ab 29 false)),(30,vI)] [(1,As),(2,At),(3,Ae),(31,vI)] (wO r) (M3 r) (U1 r) λy x=>[ex 1 (some ((M4 r) y x)) sV2 (((tR3 r) y x),((tR4 r) y x),((tR5 r) y x),((tR6 r) y x),()),ex 2 (some ((sV1 r) y x)) sV3 (y.1,((tR7 r) y x),((tR8 r) y x),((tR9 r) y x),())]
def FX (r:ET)(i:Int)(j k:List Bool)(l:AJ)(m:Unit):Vn ((List Bool)×(List Bool)×AJ×Unit):=
 let f:=nth j i false
 let d:=cond f true (nth k i false)
 let g:=BW l i
 let c:=(i,(),g,len g,())
 let h:=(j,set k (toNat i) true,l,(0:Int),())
 let e:=A3 ((wO r) c) ((M3 r) c) h
 let b:=(M4 r) c e
 let a:=(tR7 r) c e
 (A7 i (len j)/\i<len j/\(!f->A7 i (len k))/\(!f->i<len k)/\(d->A7 i (len j)/\i<len j)/\(!d->A7 i (len k)/\i<len k/\Uy l i/\AB ((wO r) c) ((M3 r) c) ((U1 r) c) h/\((sV1 r) c e->A7 i (len a)/\i<len a)),cond d (!(nth j i false)) (cond b ((tR6 r) c e) false),(cond d j (cond b ((tR3 r) c e) (set a (toNat i) true)),cond d k (cond b ((tR4 r) c e) ((tR8 r) c e)),cond d l (cond b ((tR5 r) c e) ((tR9 r) c e)),()))
def qC9 (r:ET):Ctx:={ Cx tys [(73,Uz r),(74,nX0)] [(5,(tS r))] [] false 42 [1,2,3] [] with wants:=[(73,[])],fts:=fts }
theorem qD (r:ET)(hr:SpecOk Tryz.prog 73 (Uz r)):CtxOk Tryz.prog (qC9 r):=cq ⟨hr,lW6,trivial⟩
noncomputable def pL6:Code:=Tryz.f73.body.getD .skip
noncomputable def qY4:Code:=Tj pL6 0
theorem qY5 (r:ET)(hr:SpecOk Tryz.prog 73 (Uz r)):yY Tryz.prog (qC9 r) qY4:=lq (qD r hr) (sp:=(tS r)) rfl [sV2,sV3]
instance (r:ET) [∀q0 q1 q2 q3 q4,Decidable (r q0 q1 q2 q3 q4).1] (a:Int)(b c:List Bool)(d:AJ)(e:Unit):Decidable (FX r a b c d e).1:=by
 unfold FX
 try dsimp only
 infer_instance
theorem pL7 (r:ET)(hr:SpecOk Tryz.prog 73 (Uz r)):SpecOk Tryz.prog 73 (Uz (FX r)):=Xl (qD r hr) mixed Tryz.func73 (by kernel_rfl) (bs:=[qY4]) (by kernel_rfl) ⟨qY5 r hr,trivial⟩ λx=>by kernel_rfl
def Ip:Nat->ET
 |0=>λ_ _ _ _ _=>(False,false,([],[],Z28,()))
 |k+1=>FX (Ip k)
theorem qD0:∀k,SpecOk Tryz.prog 73 (Uz (Ip k))
 |0=>xY5 Tryz.func73 (by kernel_rfl) (by decide)
 |k+1=>pL7 _ (qD0 k)
def rC (a:Int)(b c:List Bool)(d:AJ)(e:Unit):Nat:=(length b+1)
def sC1 (a:Int)(b c:List Bool)(d:AJ)(e:Unit):Prop:=(Ip (rC a b c d e) a b c d e).1
def U4 (a:Int)(b c:List Bool)(d:AJ)(e:Unit):Bool:=(Ip (rC a b c d e) a b c d e).2.1
def rC0 (a:Int)(b c:List Bool)(d:AJ)(e:Unit):((List Bool)×(List Bool)×AJ×Unit):=(Ip (rC a b c d e) a b c d e).2.2
def qD2:∀(k:Nat) (a:Int) (b c:List Bool) (d:AJ) (e:Unit),Decidable (Ip k a b c d e).1
 |0,_,_,_,_,_=>isFalse id
 |k+1,a,b,c,d,e=>by
  have:∀(q0:Int) (q1 q2:List Bool) (q3:AJ) (q4:Unit),Decidable (Ip k q0 q1 q2 q3 q4).1:=qD2 k;exact inferInstanceAs (Decidable (FX (Ip k) a b c d e).1)
instance (a:Int)(b c:List Bool)(d:AJ)(e:Unit):Decidable (sC1 a b c d e):=qD2 _ a b c d e
def pL8:Am.Spec:=fnSpec [(0,vI),(1,As),(2,At),(3,Ae),(4,(.fptr 73 [some (1,Bl),some (2,Bl),some (3,T28),none]))] vB [(1,As),(2,At),(3,Ae)] (λx=>sC1 x.1 x.2.1 x.2.2.1 x.2.2.2.1 x.2.2.2.2.1) (λx=>U4 x.1 x.2.1 x.2.2.1 x.2.2.2.1 x.2.2.2.2.1) (λx=>rC0 x.1 x.2.1 x.2.2.1 x.2.2.2.1 x.2.2.2.2.1)
theorem oZ1:SpecOk Tryz.prog 73 pL8:=wA (ps:=[(0,vI),(1,As),(2,At),(3,Ae),(4,(.fptr 73 [some (1,Bl),some (2,Bl),some (3,T28),none]))]) (rs:=vB) (os:=[(1,As),(2,At),(3,Ae)]) (R:=λk x=>Ip k x.1 x.2.1 x.2.2.1 x.2.2.2.1 x.2.2.2.2.1) qD0 λx=>rC x.1 x.2.1 x.2.2.1 x.2.2.2.1 x.2.2.2.2.1
abbrev uR4:Type:=(Unit×Int×Unit)
abbrev vM4:Type:=(AJ×(List Bool)×(List Bool)×Int×Unit)
def U5 (y:uR4)(x:vM4):Vm vM4:=
 let e:=x.1
 let f:=x.2.1
 let g:=x.2.2.1
 let a:=x.2.2.2.1
 let c:Bool:=a<y.2.1
 let d:=U4 a g f e ()
 let b:=rC0 a g f e ()
 (c->sC1 a g f e ()/\(!d->A6 (a+1)),c&&(!d),(b.2.2.1,b.2.1,b.1,a+1,()),c&&d,!c)
def YO y x:=(U5 y x).1
def U6 y x:=(U5 y x).2.1
def U7 y x:=(U5 y x).2.2.1
def sC2 y x:=(U5 y x).2.2.2.1
def oZ2 y x:=(U5 y x).2.2.2.2
def rK8 (y:uR4)(x:vM4):Bool:=
 true
def oZ3:=li [(5,(.fptr 73 [some (4,Bl),some (3,Bl),some (1,T28),none])),(18,vI)] [(1,Ae),(3,(.box Bl (.own .bool 400300 true))),(4,(.box Bl (.own .bool 400400 true))),(19,vI)] U6 U7 YO (λy x=>[ex 1 (some (sC2 y x)) [(2,vB)] ((rK8 y x),()),ex 2 (some (oZ2 y x)) [] ()]) [[(2,vB)],[]]
def QY (f:AJ):Prop×Bool:=
 let c:=len f.2.2.2.1
 let a:=len f.2.2.2.1
 let b:=((),len f.2.2.2.1,())
 let e:=(f,replicate (toNat c) false,replicate (toNat a) false,(0:Int),())
 let d:=A3 (U6 b) (U7 b) e
 ((0<=c/\c<=c/\c<=4294967296)/\(0<=a/\a<=a/\a<=4294967296)/\AB (U6 b) (U7 b) (YO b) e,cond (sC2 b d) (rK8 b d) false)
def YP a:=(QY a).1
def M5 a:=(QY a).2
theorem lW7:SK 40 (AU Al vB YP M5):=fx (λc=>{ c with wants:=[(73,[])],fts:=fts }) Tryz.func40 26 [kb oZ1] [(6,oZ3)] [(3,[(4,0,10,400300)]),(5,[(4,0,14,400400)])] false [] [10,14]
def U8 (y:To)(x:AD):Vm AD:=
 let e:=y.1
 let a:=x.1
 let b:Bool:=a<y.2.2.1
 let d:Bool:=wD e a<y.2.1
 let c:=cond d true (wD e a>126)
 (b->A7 a (len e)/\(!d->A7 a (len e))/\(!c->A6 (a+1)),b&&(!c),(a+1,()),b&&c,!b)
def tN2 y x:=(U8 y x).1
def YQ y x:=(U8 y x).2.1
def YR y x:=(U8 y x).2.2.1
def qD3 y x:=(U8 y x).2.2.2.1
def oK1 y x:=(U8 y x).2.2.2.2
def sV4 (y:To)(x:AD):Bool:=
 false
def oK2:=li [(0,vS),(2,Bb),(18,vI)] [(19,vI)] YQ YR tN2 (λy x=>[ex 1 (some (qD3 y x)) [(6,vB)] ((sV4 y x),()),ex 2 (some (oK1 y x)) [] ()]) [[(6,vB)],[]]
def mY3 (e:List UInt8)(f g:Int):Prop×Bool:=
 let b:=cond (len e<1) true (len e>f)
 let a:=(e,g,len e,())
 let d:=((0:Int),())
 let c:=A3 (YQ a) (YR a) d
 (!b->AB (YQ a) (YR a) (tN2 a) d,cond b false (cond (qD3 a c) (sV4 a c) true))
def U9 a b c:=(mY3 a b c).1
def QZ a b c:=(mY3 a b c).2
theorem oZ4:SK 140 (DT vS vI Bb vB U9 QZ):=fb Tryz.func140 34 [] [(4,oK2)]
def mY4 (a:List UInt8):Prop×Bool:=
 (U9 a 32 33,QZ a 32 33)
def qM3 a:=(mY4 a).1
def M6 a:=(mY4 a).2
theorem mY5:SK 104 (AU vS vB qM3 M6):=fb Tryz.func104 5 [kb oZ4]
def mY6 (a:List UInt8):Prop×Bool:=
 (U9 a 256 32,QZ a 256 32)
def qM4 a:=(mY6 a).1
def M7 a:=(mY6 a).2
theorem mY7:SK 105 (AU vS vB qM4 M7):=fb Tryz.func105 5 [kb oZ4]
def Ra (g:List C3)(h:C3):Prop×Int:=
 let f:=!(M6 h.1)
 let b:=!(M7 h.2.1)
 let a:Bool:=len g>0
 let c:=len g
 let d:=c-1
 let e:=nth g d DE
 (qM3 h.1/\(!f->qM4 h.2.1/\(!b->(a->A6 (c-1))/\(a->A7 d (len g)))),cond f (13:Int) (cond b 4 (cond (cond a (Op.bytesLess h.1 e.1||h.1==e.1) false) 24 0)))
def YS a b:=(Ra a b).1
def M8 a b:=(Ra a b).2
theorem lW8:SK 76 (BG Bn (.val I9) vI YS M8):=fb Tryz.func76 28 [kb mY5,kb mY7]
abbrev uR5:Type:=((List C3)×(List C3)×Int×Unit)
def UA (y:uR5)(x:AD):Vm AD:=
 let f:=y.1
 let g:=y.2.1
 let a:=x.1
 let b:Bool:=a<y.2.2.1
 let d:=nth g a DE
 let e:=take (toNat a) f
 let c:=M8 e d !=0
 (b->A7 a (len g)/\(0<=a/\a<=len f)/\YS e d/\(!c->A6 (a+1)),b&&(!c),(a+1,()),b&&c,!b)
def YT y x:=(UA y x).1
def Rb y x:=(UA y x).2.1
def Rd y x:=(UA y x).2.2.1
def rK9 y x:=(UA y x).2.2.2.1
def oZ5 y x:=(UA y x).2.2.2.2
def tU4 (y:uR5)(x:AD):Int:=
 let a:=x.1
 (M8 (take (toNat a) y.1) (nth y.2.1 a DE))
def oZ6:=li [(0,Bn),(9,Bn),(10,vI)] [(11,vI)] Rb Rd YT (λy x=>[ex 1 (some (rK9 y x)) [(2,vI)] ((tU4 y x),()),ex 2 (some (oZ5 y x)) [] ()]) [[(2,vI)],[]]
def Re (e:List C3):Prop×Int:=
 let c:Bool:=len e>16
 let a:=(e,e,len e,())
 let d:=((0:Int),())
 let b:=A3 (Rb a) (Rd a) d
 (!c->AB (Rb a) (Rd a) (YT a) d,cond c 3 (cond (rK9 a b) (tU4 a b) 0))
def YU a:=(Re a).1
def Rf a:=(Re a).2
theorem lW9:SK 42 (AU Bn vI YU Rf):=fb Tryz.func42 25 [kb lW8] [(4,oZ6)]
def f8t (p:AJ):Prop×Int:=
 let b:=f35 p
 let c:=b !=0
 let d:=cond (len p.2.2.2.1>64) true (len (Q0 p).1>8)
 let e:=cond (p.2.2.2.2.1<1) true (p.2.2.2.2.1>1073741824)
 let f:=K0 p
 let g:=f !=0
 let h:=L7 p
 let i:=h !=0
 let j:=L8 p
 let k:=j !=0
 let l:=L9 p
 let m:=l !=0
 let n:=M5 p
 let o:=Kp (Q1 p).1
 let q:=o !=0
 let r:=cond ((Q1 p).1.1 !=0) (cond ((Q1 p).1.1 !=p.1) true ((Q1 p).1.2.1 !=p.2.1)) false
 let a:=cond g f (cond i h (cond k j (cond m l (cond n 11 (cond q o (cond r 15 (Rf (Q3 p).1)))))))
 (PJ p/\(!c->!d->!e->Y4 p/\(!g->Y9 p/\(!i->qY p/\(!k->YK p/\(!m->YP p/\(!n->Ob (Q1 p).1/\(!q->!r->YU (Q3 p).1))))))),cond c b (cond d 3 (cond e 2 a)))
def rL a:=(f8t a).1
def f8 a:=(f8t a).2
def mY8:=AU Al vI rL f8
theorem UB:SK 8 (AU Al vI rL f8):=fb Tryz.func8 83 [kb mI6,kb lW1,kb lW2,kb lW4,kb lW5,kb lW7,kb mI7,kb lW9]
def Rh (d:AJ)(e:Int):Prop×Int:=
 let c:=e==0
 let a:=f9 d e
 let b:Bool:=a<0
 (!c->Io d e/\(!b->A7 a (len d.2.2.2.1)),cond c (0:Int) (cond b 9 (cond ((nth d.2.2.2.1 a A9).2.1 !=1) 8 0)))
def Ri a b:=(Rh a b).1
def Iq a b:=(Rh a b).2
def nX1:=BG Al vI vI Ri Iq
theorem mJ4:SK 10 (BG Al vI vI Ri Iq):=fb Tryz.func10 20 [kb QV]
abbrev LA:Type:=(Int×(List AI)×Int×Unit)
abbrev Rj:Type:=((List Int)×(List (Int×Bool×Unit))×Int×Unit)
def qM5 (y:LA)(x:Rj):Vn Rj:=
 let d:=y.2.1
 let g:=x.1
 let h:=x.2.1
 let a:=x.2.2.1
 let e:Bool:=a<y.2.2.1
 let b:=nth d a A9
 let c:=cond (b.2.2.1==y.1) true (getD (Ey Ab .bool b.2.2.1 h) false)
 let f:=([b.1]:List Int)
 (e->A7 a (len d)/\(c->((length g+length f:Nat):Int)<=4294967296)/\A6 (a+1),e,(cond c (g++f) g,cond c (GV Ab .bool b.1 true h) h,a+1,()))
def sC4 y x:=(qM5 y x).1
def qM6 y x:=(qM5 y x).2.1
def tU5 y x:=(qM5 y x).2.2
def rL1 (y:LA)(x:Rj):(List Int):=
 x.1
def qY9:List (Nat×Sh):=[(5,Au)]
def oZ7:=li [(1,vI),(11,Ar),(12,vI)] [(5,Au),(6,(.own (Hq Ab .bool) 1006 true)),(13,vI)] qM6 tU5 sC4 (λy x=>[ex 2 none qY9 ((rL1 y x),())]) [qY9]
def Rk (c:AJ)(d:Int):Prop×(List Int):=
 let a:=(d,c.2.2.2.1,len c.2.2.2.1,())
 let b:=(([]:List Int),([]:List (Int×Bool×Unit)),(0:Int),())
 (AB (qM6 a) (tU5 a) (sC4 a) b,rL1 a (A3 (qM6 a) (tU5 a) b))
def M9 a b:=(Rk a b).1
def CJ a b:=(Rk a b).2
def nX2:=BG Al vI Bg M9 CJ
theorem oZ8:SK 11 (BG Al vI Bg M9 CJ):=fx (λc=>{ c with maps:=maps }) Tryz.func11 37 [] [(4,oZ7)] [(5,[(4,0,9,1006)]),(17,[(4,0,34,1005)]),(21,[(4,0,1005,0)])]
def sM3 (y:LA)(x:Rj):Vn Rj:=
 let d:=y.2.1
 let g:=x.1
 let h:=x.2.1
 let a:=x.2.2.1
 let e:Bool:=a<y.2.2.1
 let b:=nth d a A9
 let c:=cond (b.2.2.1==y.1) true (getD (Ey Ab .bool b.2.2.1 h) false)
 let f:=([b.1]:List Int)
 (e->A7 a (len d)/\(c->((length g+length f:Nat):Int)<=4294967296)/\A6 (a+1),e,(cond c (g++f) g,cond c (GV Ab .bool b.1 true h) h,a+1,()))
def sV5 y x:=(sM3 y x).1
def YV y x:=(sM3 y x).2.1
def UC y x:=(sM3 y x).2.2
def rY6 (y:LA)(x:Rj):(List Int):=
 x.1
def oZ9 (c:AJ)(d:Int):Prop×(List Int):=
 let a:=(d,c.2.2.2.1,len c.2.2.2.1,())
 let b:=(([]:List Int),([]:List (Int×Bool×Unit)),(0:Int),())
 (AB (YV a) (UC a) (sV5 a) b,rY6 a (A3 (YV a) (UC a) b))
def rL2 a b:=(oZ9 a b).1
def nA a b:=(oZ9 a b).2
abbrev UD:Type:=((List Int)×Int×Int×Unit)
def UE (y:UD)(x:AD):Vm AD:=
 let d:=y.1
 let b:=x.1
 let c:Bool:=b<y.2.2.1
 let a:=y.2.1==nth d b 0
 (c->A7 b (len d)/\(!a->A6 (b+1)),c&&(!a),(b+1,()),c&&a,!c)
def sC6 y x:=(UE y x).1
def UF y x:=(UE y x).2.1
def UG y x:=(UE y x).2.2.1
def rL3 y x:=(UE y x).2.2.2.1
def nA0 y x:=(UE y x).2.2.2.2
def tU6 (y:UD)(x:AD):Int:=
 x.1
def nA1:=li [(0,Ak),(1,vI),(7,vI)] [(8,vI)] UF UG sC6 (λy x=>[ex 1 (some (rL3 y x)) [(4,vI)] ((tU6 y x),()),ex 2 (some (nA0 y x)) [] ()]) [[(4,vI)],[]]
def Rl (d:List Int)(e:Int):Prop×Int:=
 let a:=(d,e,len d,())
 let c:=((0:Int),())
 let b:=A3 (UF a) (UG a) c
 (AB (UF a) (UG a) (sC6 a) c,cond (rL3 a b) (tU6 a b) (-1:Int))
def pV9 a b:=(Rl a b).1
def f45 a b:=(Rl a b).2
theorem lX:SK 45 (BG Ak vI vI pV9 f45):=fb Tryz.func45 19 [] [(2,nA1)]
def Rm (a:List Int)(b:Int):Prop×Bool:=
 (pV9 a b,decide (f45 a b≥0))
def UH a b:=(Rm a b).1
def MA a b:=(Rm a b).2
def nX3:=BG Ak vI vB UH MA
theorem lX0:SK 12 (BG Ak vI vB UH MA):=fb Tryz.func12 9 [kb lX]
def mY9 (a:Unit):Prop×(List Int):=
 ((!true)->((length ([]:List Int)+length ([]:List Int):Nat):Int)<=4294967296,cond true [] (([]:List Int)++[]))
def pL9 a:=(mY9 a).1
def f47a a:=(mY9 a).2
instance (a):Decidable (pL9 a):=by unfold pL9 mY9;dsimp only;infer_instance
theorem mZ:SK 47 (AU (.nn true) Bg pL9 f47a):=fb Tryz.func47 8 [] [] [(7,[(4,0,7,0)])]
def mZ0 (a:Unit):Prop×(List Int):=
 ((!false)->((length ([]:List Int)+length ([]:List Int):Nat):Int)<=4294967296,cond false [] (([]:List Int)++[]))
def pM a:=(mZ0 a).1
def f47b a:=(mZ0 a).2
instance (a):Decidable (pM a):=by unfold pM mZ0;dsimp only;infer_instance
theorem mZ1:SK 47 (AU (.nn false) Bg pM f47b):=fb Tryz.func47 8 [] [] [(7,[(4,0,7,0)])]
def mZ2 (a:List Int):Prop×(List Int):=
 (0<length a/\((!false)->((length ([]:List Int)+length a:Nat):Int)<=4294967296),cond false [] (([]:List Int)++a))
def pM0 a:=(mZ2 a).1
def f47c a:=(mZ2 a).2
instance (a):Decidable (pM0 a):=by unfold pM0 mZ2;dsimp only;infer_instance
theorem mZ3:SK 47 (AU Ak Bg pM0 f47c):=fb Tryz.func47 8 [] [] [(7,[(4,0,7,0)])]
def YW (a:List Int):List Int:=a
def O8 (a:List Int):Prop:=(length a:Int)<=4294967296
def lX1:List (Nat×Sh):=[(0,Ak)]
def mJ5:Sh:=Bg
def lX2:List (Nat×Sh):=[]
def nX4:Am.Spec:=fnSpec lX1 mJ5 lX2 (λx=>O8 x.1) (λx=>YW x.1) (λ_=>())
theorem mJ6:SpecOk Tryz.prog 47 nX4:=PD (rs:=mJ5) (F:=YW) (ok:=O8) mZ mZ1 mZ3 (jF (by kernel_rfl)) (jF (by kernel_rfl)) (λl h hp=>⟨hp,λ_=>by simpa[O8] using h⟩) rfl rfl (λ_=>rfl)
def mZ4 (a:Unit):Prop×(List CP):=
 ((!true)->((length ([]:List CP)+length ([]:List CP):Nat):Int)<=4294967296,cond true [] (([]:List CP)++[]))
def pM1 a:=(mZ4 a).1
def f50a a:=(mZ4 a).2
instance (a):Decidable (pM1 a):=by unfold pM1 mZ4;dsimp only;infer_instance
theorem mZ5:SK 50 (AU (.nn true) Db pM1 f50a):=fb Tryz.func50 8 [] [] [(7,[(4,0,7,0)])]
def mZ6 (a:Unit):Prop×(List CP):=
 ((!false)->((length ([]:List CP)+length ([]:List CP):Nat):Int)<=4294967296,cond false [] (([]:List CP)++[]))
def pM2 a:=(mZ6 a).1
def f50b a:=(mZ6 a).2
instance (a):Decidable (pM2 a):=by unfold pM2 mZ6;dsimp only;infer_instance
theorem mZ7:SK 50 (AU (.nn false) Db pM2 f50b):=fb Tryz.func50 8 [] [] [(7,[(4,0,7,0)])]
def mZ8 (a:List CP):Prop×(List CP):=
 (0<length a/\((!false)->((length ([]:List CP)+length a:Nat):Int)<=4294967296),cond false [] (([]:List CP)++a))
def pM3 a:=(mZ8 a).1
def f50c a:=(mZ8 a).2
instance (a):Decidable (pM3 a):=by unfold pM3 mZ8;dsimp only;infer_instance
theorem mZ9:SK 50 (AU Dz Db pM3 f50c):=fb Tryz.func50 8 [] [] [(7,[(4,0,7,0)])]
def f50 (a:List CP):List CP:=a
def Rn (a:List CP):Prop:=(length a:Int)<=4294967296
def lX3:List (Nat×Sh):=[(0,Dz)]
def mJ7:Sh:=Db
def lX4:List (Nat×Sh):=[]
def nX5:Am.Spec:=fnSpec lX3 mJ7 lX4 (λx=>Rn x.1) (λx=>f50 x.1) (λ_=>())
theorem mJ8:SpecOk Tryz.prog 50 nX5:=PD (rs:=mJ7) (F:=f50) (ok:=Rn) mZ5 mZ7 mZ9 (jF (by kernel_rfl)) (jF (by kernel_rfl)) (λl h hp=>⟨hp,λ_=>by simpa[Rn] using h⟩) rfl rfl (λ_=>rfl)
def nA2 (a:Unit):Prop×(List B4):=
 ((!true)->((length ([]:List B4)+length ([]:List B4):Nat):Int)<=4294967296,cond true [] (([]:List B4)++[]))
def qM7 a:=(nA2 a).1
def kL5 a:=(nA2 a).2
instance (a):Decidable (qM7 a):=by unfold qM7 nA2;dsimp only;infer_instance
theorem nX6:SK 106 (AU (.nn true) Cw qM7 kL5):=fb Tryz.func106 8 [] [] [(7,[(4,0,7,0)])]
def nA3 (a:Unit):Prop×(List B4):=
 ((!false)->((length ([]:List B4)+length ([]:List B4):Nat):Int)<=4294967296,cond false [] (([]:List B4)++[]))
def qM8 a:=(nA3 a).1
def kL6 a:=(nA3 a).2
instance (a):Decidable (qM8 a):=by unfold qM8 nA3;dsimp only;infer_instance
theorem nX7:SK 106 (AU (.nn false) Cw qM8 kL6):=fb Tryz.func106 8 [] [] [(7,[(4,0,7,0)])]
def nA4 (a:List B4):Prop×(List B4):=
 (0<length a/\((!false)->((length ([]:List B4)+length a:Nat):Int)<=4294967296),cond false [] (([]:List B4)++a))
def qM9 a:=(nA4 a).1
def kL7 a:=(nA4 a).2
instance (a):Decidable (qM9 a):=by unfold qM9 nA4;dsimp only;infer_instance
theorem nX8:SK 106 (AU Ao Cw qM9 kL7):=fb Tryz.func106 8 [] [] [(7,[(4,0,7,0)])]
def Ro (a:List B4):List B4:=a
def UI (a:List B4):Prop:=(length a:Int)<=4294967296
def lA:List (Nat×Sh):=[(0,Ao)]
def nA5:Sh:=Cw
def lA0:List (Nat×Sh):=[]
def nA6:Am.Spec:=fnSpec lA nA5 lA0 (λx=>UI x.1) (λx=>Ro x.1) (λ_=>())
theorem lA1:SpecOk Tryz.prog 106 nA6:=PD (rs:=nA5) (F:=Ro) (ok:=UI) nX6 nX7 nX8 (jF (by kernel_rfl)) (jF (by kernel_rfl)) (λl h hp=>⟨hp,λ_=>by simpa[UI] using h⟩) rfl rfl (λ_=>rfl)
end Go.Proofs.YtkmmjpnfhaecdaaGreatDoor.Am
