/- Printed by program, part 5. No condition. -/
import Derived.Test.YtgjdonlgingdeaaGreatDoorDckP4
set_option linter.unusedVariables false
set_option synthInstance.maxSize 4000
set_option synthInstance.maxHeartbeats 400000
namespace Go.Proofs.YtgjdonlgingdeaaGreatDoor.Am
open Go Go.Am Go.Proofs
open Go.IntKind (wrap)
open _root_.List (length set take)
abbrev uL1:Type:=(Int×A7×(List (List UInt8))×(List (List A0))×Int×(List Int)×(List Int)×Int×(List (List A0))×Int×Unit)
def rI8 (y:uL1)(x:CW):Prop×Bool×CW:=
 let u:=y.1
 let e:=y.2.1
 let l:=y.2.2.2.2.1
 let m:=(Q3 y).1
 let n:=(Q0 y).1
 let b:=(Q5 y).1
 let c:=(Q4 y).1
 let o:=x.1
 let a:=x.2.1
 let q:=decide (a<len (nth b c ([]:List A0)))
 let r:=nth b c ([]:List A0)
 let d:=nth r a A1
 let s:=nth m n (0:Int)
 let t:=s+d.1
 let f:=t*u
 let g:=l*e.2.2.1
 let h:=e.2.1+g
 let i:=h-d.2.1
 let j:=i*u
 let k:=([(AZ f e.1,AZ j e.1,())]:List A0)
 (A6 c (len b)/\(q=true->A6 c (len b)/\A6 a (len r)/\A6 n (len m)/\A5 (s+d.1)/\A5 (t*u)/\En f e.1/\A5 (l*e.2.2.1)/\A5 (e.2.1+g)/\A5 (h-d.2.1)/\A5 (i*u)/\En j e.1/\((length o+length k:Nat):Int)<=4294967296/\A5 (a+1)),q,(o++k,a+1,()))
def tR5 y x:=(rI8 y x).1
def Ll y x:=(rI8 y x).2.1
def Lm y x:=(rI8 y x).2.2
def sA8 (y:uL1)(x:CW):(List A0):=
 x.1
def rI9:List (Nat×Sh):=[(2,vI),(4,Ah),(10,Bv),(12,Ax),(13,vI),(14,Ck),(15,Cl),(16,vI),(17,Aj),(19,vI),(20,(.own AN 1020 false))]
def pH5:=li [(2,vI),(4,Ah),(10,Bv),(12,Ax),(13,vI),(14,Ck),(15,Cl),(16,vI),(17,Aj),(19,vI)] [(20,(.own AN 1020 false)),(21,vI)] Ll Lm tR5 (λy x=>[ex 8 none rI9 (y.1,y.2.1,y.2.2.1,y.2.2.2.1,y.2.2.2.2.1,(Q1 y).1,(Q3 y).1,(Q0 y).1,(Q5 y).1,(Q4 y).1,(sA8 y x),())]) [rI9]
abbrev uL2:Type:=(Int×A7×(List (List UInt8))×Int×(List Int)×(List Int)×Int×(List (List A0))×Unit)
def rJ (y:uL2)(x:CH):Prop×Bool×CH:=
 let e:=(Q0 y).1
 let d:=x.1
 let b:=x.2.1
 let f:=decide (b<len e)
 let a:=(y.1,y.2.1,y.2.2.1,d,y.2.2.2.1,y.2.2.2.2.1,(Q1 y).1,(Q3 y).1,e,b,())
 let g:=(([]:List A0),(0:Int),())
 let c:=([sA8 a (A3 (Ll a) (Lm a) g)]:List (List A0))
 (f=true->Am.Ends (Ll a) (Lm a) (tR5 a) g/\((length d+length c:Nat):Int)<=4294967296/\A5 (b+1),f,(d++c,b+1,()))
def uQ6 y x:=(rJ y x).1
def Jp y x:=(rJ y x).2.1
def Jq y x:=(rJ y x).2.2
def sA9 (y:uL2)(x:CH):(List (List A0)):=
 x.1
def rJ0:List (Nat×Sh):=[(2,vI),(4,Ah),(10,Bv),(12,Ax),(13,vI),(14,Ck),(15,Cl),(16,vI)]
def pH6:=li [(2,vI),(4,Ah),(10,Bv),(13,vI),(14,Ck),(15,Cl),(16,vI),(17,Aj)] [(12,Ax),(19,vI)] Jp Jq uQ6 (λy x=>[ex 6 none rJ0 (y.1,y.2.1,y.2.2.1,(sA9 y x),y.2.2.2.1,y.2.2.2.2.1,(Q1 y).1,(Q3 y).1,())]) [rJ0]
abbrev uL3:Type:=(Int×A7×(List (List UInt8))×Int×(List Int)×(List Int)×Unit)
def rJ1 (y:uL3)(x:CH):Prop×Bool×CH:=
 let h:=y.2.1
 let c:=y.2.2.2.2.1
 let a:=x.2.1
 let d:=decide (a<len c)
 let e:=nth c a (0:Int)
 let f:=nth h.2.2.2.1 e BC
 let b:=(y.1,h,y.2.2.1,y.2.2.2.1,c,(Q1 y).1,a,(CP f.2.2.1).1,())
 let g:=(x.1,(0:Int),())
 (d=true->A6 a (len c)/\A6 e (len h.2.2.2.1)/\YJ f.2.2.1/\Am.Ends (Jp b) (Jq b) (uQ6 b) g/\A5 (a+1),d,(sA9 b (A3 (Jp b) (Jq b) g),a+1,()))
def tR6 y x:=(rJ1 y x).1
def Kv y x:=(rJ1 y x).2.1
def Kw y x:=(rJ1 y x).2.2
def sB (y:uL3)(x:CH):(List (List A0)):=
 x.1
def rJ2:List (Nat×Sh):=[(2,vI),(4,Ah),(10,Bv),(12,Ax),(13,vI)]
def pH7:=li [(2,vI),(4,Ah),(10,Bv),(13,vI),(14,Ck),(15,Cl)] [(12,Ax),(16,vI)] Kv Kw tR6 (λy x=>[ex 4 none rJ2 (y.1,y.2.1,y.2.2.1,(sB y x),y.2.2.2.1,())]) [rJ2]
abbrev tE2:Type:=(Int×A7×(List (List UInt8))×Unit)
def qH4 (y:tE2)(x:CH):Prop×Bool×CH:=
 let e:=y.2.1
 let c:=y.2.2.1
 let a:=x.2.1
 let f:=decide (a<len c)
 let g:=nth c a ([]:List UInt8)
 let d:=AO e g
 let b:=(y.1,e,c,a,d,BP e d,())
 let h:=(x.1,(0:Int),())
 (f=true->A6 a (len c)/\qH0 e g/\Za e d/\Am.Ends (Kv b) (Kw b) (tR6 b) h/\A5 (a+1),f,(sB b (A3 (Kv b) (Kw b) h),a+1,()))
def sL0 y x:=(qH4 y x).1
def Ln y x:=(qH4 y x).2.1
def Lo y x:=(qH4 y x).2.2
def sT1 (y:tE2)(x:CH):(List (List A0)):=
 x.1
def rY6:List (Nat×Sh):=[(12,Ax)]
def oF3:=li [(2,vI),(4,Ah),(10,Bv)] [(12,Ax),(13,vI)] Ln Lo sL0 (λy x=>[ex 2 none rY6 ((sT1 y x),())]) [rY6]
def oU (g:A7)(h:List UInt8)(i j:Int):Prop×((List (List A0))×Int×Unit):=
 let c:=Mu g h i j
 let d:=c.2.1 !=0
 let e:=(i,g,c.1,())
 let f:=(([]:List (List A0)),(0:Int),())
 let a:=sT1 e (A3 (Ln e) (Lo e) f)
 let b:=decide (f224 a>4096)
 (qH2 g h i j/\((!d)=true->Am.Ends (Ln e) (Lo e) (sL0 e) f/\sL a),(cond d [] (cond b [] a),cond d c.2.1 (cond b (3:Int) (0:Int)),()))
def Oi a b c d:=(oU a b c d).1
def Gv a b c d:=(oU a b c d).2
def oU0:=Fw Bm vS vI vI (.tup (.cons At (.cons vI .nl))) Oi Gv
theorem mR1:SK 185 (Fw Bm vS vI vI (.tup (.cons At (.cons vI .nl))) Oi Gv):=fb Tryz.func185 131 [kb Iz,kb oS9,kb mR0,kb oT7,kb oT8,kb oT9] [(6,oF3),(11,pH7),(15,pH6),(19,pH5)] [(3,[(4,0,28,1010)]),(9,[(4,0,34,1012)]),(17,[(4,0,46,1014)]),(19,[(4,0,49,1015)]),(35,[(4,0,75,1020)]),(45,[(4,0,122,1020)]),(47,[(4,0,126,1012)]),(53,[(4,0,1012,0)])]
def mR2 :Prop×(List UInt8):=
 (True,wC9)
def Zb :Prop:=(mR2).1
def QZ :List UInt8:=(mR2).2
instance:Decidable Zb:=by unfold Zb mR2;dsimp only;infer_instance
def oU1:Am.Spec:=fnSpec [] vS [] (λx=>Zb ) (λx=>QZ ) (λ_=>())
theorem mR3:SK 263 (fnSpec [] vS [] (λx=>Zb ) (λx=>QZ ) (λ_=>())):=fb Tryz.func263 1
def mR4 (c:Int):Prop×Int:=
 let b:=decide (c<=57)
 let a:=wrap .i64 (wrap .u8 (c-97))
 ((!b)=true->A5 (a+10),cond b (wrap .i64 (wrap .u8 (c-48))) (a+10))
def U7 a:=(mR4 a).1
def Mv a:=(mR4 a).2
instance (a):Decidable (U7 a):=by unfold U7 mR4;dsimp only;infer_instance
def oU2:=AP Ba vI U7 Mv
theorem mR5:SK 264 (AP Ba vI U7 Mv):=fb Tryz.func264 12
def mR6 (a b c:Int):Prop×A8:=
 (True,(a,([(b,c,()),A1,A1]:List A0),()))
def Oj a b c:=(mR6 a b c).1
def I4 a b c:=(mR6 a b c).2
instance (a b c):Decidable (Oj a b c):=by unfold Oj mR6;dsimp only;infer_instance
def oU3:=DN vI vI vI Dd Oj I4
theorem mR7:SK 265 (DN vI vI vI Dd Oj I4):=fb Tryz.func265 13
abbrev Ok:Type:=(Int×(List UInt8)×(List A8)×Int×Int×Int×Unit)
def sB0 (y:Ok)(x:AA):Prop×Bool×AA:=
 let c:=x.1
 let a:=c+1
 let b:=Fu .i64 (ER y.2.2.2.2.1 a 64) (1:Int)==1
 (A5 (c+1)/\0<=a/\(b=true->A5 (c+1)),b,(c+1,()))
def uQ7 y x:=(sB0 y x).1
def sL2 y x:=(sB0 y x).2.1
def uQ8 y x:=(sB0 y x).2.2
instance (y x):Decidable (uQ7 y x):=by unfold uQ7 sB0;dsimp only;infer_instance
def sB1 (y:Ok)(x:AA):Int:=
 x.1
def rJ4:List (Nat×Sh):=[(0,vI),(3,vS),(4,Bw),(5,vI),(6,vI),(7,vI),(8,vI)]
def sB2:St->Option Out:=Ih [(0,vI),(3,vS),(4,Bw),(5,vI),(6,vI),(7,vI)] [(8,vI)] sL2 uQ8 uQ7 λy x=>[ex 6 none rJ4 (y.1,y.2.1,y.2.2.1,y.2.2.2.1,y.2.2.2.2.1,(Q1 y).1,(sB1 y x),())]
def sX5 (y:HK)(x:Ok):Prop×Bool×Ok:=
 let J:=x.1
 let K:=x.2.1
 let H:=x.2.2.1
 let f:=x.2.2.2.1
 let i:=x.2.2.2.2.1
 let d:=(Q1 x).1
 let j:=decide (d<7)
 let k:=Fu .i64 (ER i d 64) (1:Int)==0
 let h:=decide (d>0)
 let g:=!k
 let l:=d-1
 let b:=cond k true (cond h (Fu .i64 (ER i l 64) (1:Int)==1) false)
 let e:=(J,K,H,f,i,d,())
 let F:=(d,())
 let a:=sB1 e (A3 (sL2 e) (uQ8 e) F)
 let m:=100*f
 let n:=100*d
 let o:=700-n
 let q:=100*f
 let r:=q+100
 let s:=100*d
 let t:=700-s
 let u:=100*f
 let v:=u+100
 let w:=100*a
 let z:=600-w
 let A:=100*f
 let B:=100*a
 let C:=600-B
 let E:=([I4 (1:Int) m o,I4 (2:Int) r t,I4 (2:Int) v z,I4 (2:Int) A C,((5:Int),List.replicate 3 A1,())]:List A8)
 let c:=b||(!b)
 let L:=cond b d d
 (j=true->0<=d/\((g&&h)=true->A5 (d-1))/\((g&&h)=true->0<=l)/\((!b)=true->Am.Ends (sL2 e) (uQ8 e) (uQ7 e) F/\A5 (100*f)/\A5 (100*d)/\A5 (700-n)/\Oj (1:Int) m o/\A5 (100*f)/\A5 (q+100)/\A5 (100*d)/\A5 (700-s)/\Oj (2:Int) r t/\A5 (100*f)/\A5 (u+100)/\A5 (100*a)/\A5 (600-w)/\Oj (2:Int) v z/\A5 (100*f)/\A5 (100*a)/\A5 (600-B)/\Oj (2:Int) A C/\((length H+length E:Nat):Int)<=4294967296)/\(c=true->A5 (L+1)),j&&c,(cond b J J,cond b K K,cond b H (H++E),cond b f f,cond b i i,L+1,()))
def tK8 y x:=(sX5 y x).1
def rJ5 y x:=(sX5 y x).2.1
def tE5 y x:=(sX5 y x).2.2
instance (y x):Decidable (tK8 y x):=by unfold tK8 sX5;dsimp only;infer_instance
def sT2 (y:HK)(x:Ok):Int:=
 x.1
def sT3 (y:HK)(x:Ok):(List UInt8):=
 x.2.1
def sT4 (y:HK)(x:Ok):(List A8):=
 x.2.2.1
def sT5 (y:HK)(x:Ok):Int:=
 x.2.2.2.1
def rY7:List (Nat×Sh):=[(0,vI),(3,vS),(4,Bw),(5,vI)]
def sT6:St->Option Out:=Ih [] [(0,vI),(3,vS),(4,Bw),(5,vI),(6,vI),(7,vI)] rJ5 tE5 tK8 λy x=>[ex 4 none rY7 ((sT2 y x),(sT3 y x),(sT4 y x),(sT5 y x),())]
abbrev uB9:Type:=(Int×(List UInt8)×(List A8)×Int×Unit)
def sX6 (y:HK)(x:uB9):Prop×Bool×uB9:=
 let c:=x.1
 let d:=x.2.1
 let b:=x.2.2.2.1
 let e:=decide (b<5)
 let f:=10*c
 let g:=2*b
 let h:=f+g
 let i:=BN d h
 let j:=Mv i
 let k:=16*j
 let l:=10*c
 let m:=2*b
 let n:=l+m
 let o:=n+1
 let q:=BN d o
 let r:=Mv q
 let t:=(c,d,x.2.2.1,b,k+r,(0:Int),())
 let s:=A3 (rJ5 ()) (tE5 ()) t
 let a:=sT5 () s
 (e=true->A5 (10*c)/\A5 (2*b)/\A5 (f+g)/\A6 h (len d)/\U7 i/\A5 (16*j)/\A5 (10*c)/\A5 (2*b)/\A5 (l+m)/\A5 (n+1)/\A6 o (len d)/\U7 q/\A5 (k+r)/\Am.Ends (rJ5 ()) (tE5 ()) (tK8 ()) t/\A5 (a+1),e,(sT2 () s,sT3 () s,sT4 () s,a+1,()))
def tK9 y x:=(sX6 y x).1
def rJ6 y x:=(sX6 y x).2.1
def tE7 y x:=(sX6 y x).2.2
instance (y x):Decidable (tK9 y x):=by unfold tK9 sX6;dsimp only;infer_instance
def sT7 (y:HK)(x:uB9):(List A8):=
 x.2.2.1
def sT8:St->Option Out:=Ih [] [(0,vI),(3,vS),(4,Bw),(5,vI)] rJ6 tE7 tK9 λy x=>[ex 2 none [(4,Bw)] ((sT7 y x),())]
def mR8 (b:Int):Prop×(List A8):=
 let a:=(b,QZ,([]:List A8),(0:Int),())
 (Zb/\Am.Ends (rJ6 ()) (tE7 ()) (tK9 ()) a,sT7 () (A3 (rJ6 ()) (tE7 ()) a))
def qH5 a:=(mR8 a).1
def f225 a:=(mR8 a).2
instance (a):Decidable (qH5 a):=by unfold qH5 mR8;dsimp only;infer_instance
def oU4:=AP vI Bj qH5 f225
def sX7:=Cy [(263,oU1),(264,oU2),(265,oU3)] [(12,sB2),(8,sT6),(4,sT8)] [(5,[(4,0,10,1004)]),(29,[(4,0,93,1004)]),(31,[(4,0,1004,0)])] 95
theorem sX8:CtxOk Tryz.prog sX7:=cq ⟨mR3,mR5,mR7,trivial⟩
noncomputable def oU5:Code:=Tryz.f225.body.getD .skip
noncomputable def pH8:Code:=S6 oU5 0
noncomputable def pH9:Code:=S6 pH8 0
noncomputable def pO1:Code:=S6 pH9 0
theorem pI:JD Tryz.prog sX7 pO1:=lq sX8 (sp:=sB2) rfl [rJ4]
theorem oF4:JD Tryz.prog sX7 pH9:=lm sX8 (sp:=sT6) rfl [rY7] (bs:=[pO1]) ⟨pI,trivial⟩
theorem oF5:JD Tryz.prog sX7 pH8:=lm sX8 (sp:=sT8) rfl [[(4,Bw)]] (bs:=[pH9]) ⟨oF4,trivial⟩
theorem mR9:SK 225 oU4:=fl sX8 Tryz.func225 (bs:=[pH8]) ⟨oF5,trivial⟩
def sX9 (y:HK)(x:NH):Prop×Bool×NH:=
 let c:=x.1
 let b:=x.2.1
 let a:=x.2.2.1
 let d:=decide (a<95)
 let e:=([(wrap .u8 (32+a),(600:Int),f225 a,())]:List C5)
 (d=true->A5 (32+a)/\qH5 a/\((length b.2.2.2.1+length e:Nat):Int)<=4294967296/\A5 (a+1),d,(c,(b.1,b.2.1,b.2.2.1,b.2.2.2.1++e,b.2.2.2.2.1,()),a+1,()))
def tL y x:=(sX9 y x).1
def rJ7 y x:=(sX9 y x).2.1
def tE8 y x:=(sX9 y x).2.2
instance (y x):Decidable (tL y x):=by unfold tL sX9;dsimp only;infer_instance
def qS6 (y:HK)(x:NH):(Int×Int×Int×(List C5)×(List DB)×Unit):=
 let a:=x.1
 a
def sT9 (y:HK)(x:NH):(Int×Int×Int×(List C5)×(List DB)×Unit):=
 let a:=x.2.1
 a
def rY8:List (Nat×Sh):=[(0,Ae),(1,Af)]
def oF6:=li [] [(0,Ae),(1,Af),(2,vI)] rJ7 tE8 tL (λy x=>[ex 2 none rY8 ((qS6 y x),(sT9 y x),())]) [rY8]
def mS :Prop×A7:=
 let b:=((1000:Int),(800:Int),(1200:Int),([]:List C5),([((65:Int),(86:Int),(-100:Int),()),((76:Int),(84:Int),(-100:Int),()),((84:Int),(97:Int),(-100:Int),()),((86:Int),(65:Int),(-100:Int),())]:List DB),())
 let c:=(((0:Int),(0:Int),(0:Int),([]:List C5),([]:List DB),()),b,(0:Int),())
 let a:=sT9 () (A3 (rJ7 ()) (tE8 ()) c)
 (Am.Ends (rJ7 ()) (tE8 ()) (tL ()) c,a)
def U8 :Prop:=(mS).1
def Hr :A7:=(mS).2
instance:Decidable U8:=by unfold U8 mS;dsimp only;infer_instance
theorem mS0:SK 186 (fnSpec [] Bm [] (λx=>U8 ) (λx=>Hr ) (λ_=>())):=fb Tryz.func186 25 [kb mR9] [(3,oF6)] [(3,[(4,0,7,400101)]),(11,[(4,0,22,400100)]),(13,[(4,0,400100,400000),(4,0,400101,400001)])]
def Zc (y:PE)(x:CW):Prop×Bool×CW×Bool×Bool:=
 let e:=y.1
 let o:=y.2.1
 let f:=y.2.2.2.1
 let q:=x.1
 let a:=x.2.1
 let c:=decide (a<len (nth e f ([]:List A0)))
 let g:=nth e f ([]:List A0)
 let h:=nth g a A1
 let b:=!(DU h)
 let i:=nth e f ([]:List A0)
 let j:=nth i a A1
 let k:=DP o j
 let d:=cond b true (!(DU k))
 let l:=nth e f ([]:List A0)
 let m:=nth l a A1
 let n:=([DP o m]:List A0)
 (A6 f (len e)/\(c=true->A6 f (len e)/\A6 a (len g)/\Y5 h/\((!b)=true->A6 f (len e))/\((!b)=true->A6 a (len i))/\((!b)=true->Y7 o j)/\((!b)=true->Y5 k)/\((!d)=true->A6 f (len e)/\A6 a (len l)/\Y7 o m/\((length q+length n:Nat):Int)<=4294967296)/\((!d)=true->A5 (a+1))),c&&(!d),(q++n,a+1,()),c&&d,!c)
def uQ9 y x:=(Zc y x).1
def Ht y x:=(Zc y x).2.1
def Hu y x:=(Zc y x).2.2.1
def uR y x:=(Zc y x).2.2.2.1
def uR0 y x:=(Zc y x).2.2.2.2
def sB3 (y:PE)(x:CW):(List (List A0)):=
 ([]:List (List A0))
def sB4 (y:PE)(x:CW):Int:=
 (2:Int)
def rJ8:List (Nat×Sh):=[(4,At),(5,vI)]
def sB5 (y:PE)(x:CW):(List A0):=
 x.1
def rJ9:List (Nat×Sh):=[(0,Aj),(3,Bp),(7,Cr),(8,vI),(9,(.own AN 1009 false))]
def pI0:=li [(0,Aj),(3,Bp),(7,Cr),(8,vI)] [(9,(.own AN 1009 false)),(10,vI)] Ht Hu uQ9 (λy x=>[ex 1 (some (uR y x)) rJ8 ((sB3 y x),(sB4 y x),()),ex 4 (some (uR0 y x)) rJ9 (y.1,y.2.1,y.2.2.1,y.2.2.2.1,(sB5 y x),())]) [rJ8,rJ9]
abbrev vF7:Type:=((List (List A0))×C4×Unit)
def Zd (y:vF7)(x:CH):Prop×Bool×CH×Bool×Bool:=
 let i:=y.1
 let h:=x.1
 let g:=x.2.1
 let c:=decide (g<len i)
 let a:=(i,y.2.1,h,g,())
 let f:=(([]:List A0),(0:Int),())
 let d:=A3 (Ht a) (Hu a) f
 let b:=uR0 a d
 let e:=([sB5 a d]:List (List A0))
 (c=true->Am.Ends (Ht a) (Hu a) (uQ9 a) f/\(b=true->((length h+length e:Nat):Int)<=4294967296)/\(b=true->A5 (g+1)),c&&b,(h++e,g+1,()),c&&uR a d,!c)
def sL4 y x:=(Zd y x).1
def Ol y x:=(Zd y x).2.1
def Om y x:=(Zd y x).2.2.1
def Ze y x:=(Zd y x).2.2.2.1
def oF7 y x:=(Zd y x).2.2.2.2
def sU (y:vF7)(x:CH):(List (List A0)):=
 let a:=(y.1,y.2.1,x.1,x.2.1,())
 (sB3 a (A3 (Ht a) (Hu a) (([]:List A0),(0:Int),())))
def sU0 (y:vF7)(x:CH):Int:=
 let a:=(y.1,y.2.1,x.1,x.2.1,())
 (sB4 a (A3 (Ht a) (Hu a) (([]:List A0),(0:Int),())))
def rY9:List (Nat×Sh):=[(4,At),(5,vI)]
def sU1 (y:vF7)(x:CH):(List (List A0)):=
 x.1
def rZ:List (Nat×Sh):=[(7,Cr)]
def oF8:=li [(0,Aj),(3,Bp)] [(7,Cr),(8,vI)] Ol Om sL4 (λy x=>[ex 1 (some (Ze y x)) rY9 ((sU y x),(sU0 y x),()),ex 2 (some (oF7 y x)) rZ ((sU1 y x),())]) [rY9,rZ]
def lN8 (h:(List (List A0)))(i:C4):Prop×((List (List A0))×Int×Unit):=
 let e:=Gn i
 let c:=e !=0
 let d:=decide (f224 h>4096)
 let a:=(h,i,())
 let g:=(([]:List (List A0)),(0:Int),())
 let f:=A3 (Ol a) (Om a) g
 let b:=Ze a f
 (NT i/\((!c)=true->sL h/\((!d)=true->Am.Ends (Ol a) (Om a) (sL4 a) g)),(cond c [] (cond d [] (cond b (sU a f) (sU1 a f))),cond c e (cond d (3:Int) (cond b (sU0 a f) (0:Int))),()))
def qH6 a b:=(lN8 a b).1
def Kx a b:=(lN8 a b).2
def oU6:=BG Aj Ay (.tup (.cons Aj (.cons vI .nl))) qH6 Kx
theorem mS1:SK 187 (BG Aj Ay (.tup (.cons Aj (.cons vI .nl))) qH6 Kx):=fb Tryz.func187 75 [kb pN5,kb oS7,kb pF4,kb oT9] [(8,oF8),(12,pI0)] [(13,[(4,0,19,1007)]),(21,[(4,0,26,1009)]),(33,[(4,0,69,1009)]),(35,[(4,0,73,1007)]),(37,[(4,0,1007,0)])]
def pO2 (k:A7)(g:AK):Prop×Int:=
 let a:=Gv k (Qj g).1 (Ql g).1 (Qm g).1
 let c:=a.2.1 !=0
 let b:=Kx a.1 (Q2 g).1
 let d:=b.2.1 !=0
 let e:=Eg b.1 (0:Int)
 let f:=e !=0
 (U8/\Oi k (Qj g).1 (Ql g).1 (Qm g).1/\((!c)=true->qH6 a.1 (Q2 g).1/\((!d)=true->Oa b.1 (0:Int)/\((!f)=true->NU (Q9 g).1))),cond c a.2.1 (cond d b.2.1 (cond f e (f138 (Q9 g).1))))
def mS2 (a:AK):Prop×Int:=pO2 Hr a
def qH7 a:=(mS2 a).1
def f141 a:=(mS2 a).2
def oU7:Am.Spec:=fnSpec [(0,Bb)] vI [] (λx=>qH7 x.1) (λx=>f141 x.1) (λ_=>())
def pO3 (k:A7):Ctx:=Cx tys [(138,oS4),(182,oT),(185,oU0),(186,fnSpec [] Bm [] (λ_=>U8) (λ_=>k) (λ_=>())),(187,oU6)] [] [(3,[(4,0,15,1003)])] false 39 [] []
theorem nN4:CtxOk Tryz.prog (pO3 Hr):=cq ⟨pF1,pG0,mR1,mS0,mS1,trivial⟩
theorem nN5:∀(k:A7) x,Ii (pO3 k) (Tryz.f141.body.getD .skip) Tryz.f141.results.toList [(0,Bb)] vI [] x=some ((pO2 k x.1).1,(pO2 k x.1).2,()):=λk x=>by kernel_rfl
theorem mS3:SpecOk Tryz.prog 141 oU7:=Wn nN4 mixed Tryz.func141 (by kernel_rfl) (bs:=[]) (by kernel_rfl) trivial (nN5 Hr)
def lN9 (c:Int):Prop×(Int×Int×Unit):=
 let a:=([(0:Int),(0:Int),(5:Int),(4:Int),(2:Int),(3:Int),(1:Int),(1:Int),(9:Int),(3:Int),(0:Int),(2:Int)]:List Int)
 let b:=c==3
 ((!b)=true->A6 c (len a)/\A6 c (len a),(cond b (4:Int) (nth a c (0:Int)),cond b (16:Int) (nth a c (0:Int)),()))
def pI1 a:=(lN9 a).1
def EZ a:=(lN9 a).2
theorem mS4:SK 188 (AP vI (.tup (.cons vI (.cons vI .nl))) pI1 EZ):=fb Tryz.func188 16 [] [] [(3,[(4,0,5,1004)])]
def mS5 (i j:Int):Prop×(Int×Int×Unit):=
 let c:=cond (i==2) (j==2) false
 let d:=cond (cond (i==4) true (cond (i==5) (decide (j>0)) false)) true (cond (i==11) (j==1) false)
 let e:=i==5
 let f:=i==7
 let g:=i==8
 let h:=i==11
 let a:=cond c (1:Int) (cond d (-65535:Int) (cond e (-32768:Int) (cond f (2:Int) (cond g (-262140:Int) (cond h (-128:Int) (0:Int))))))
 let b:=cond c (256:Int) (cond d (65535:Int) (cond e (32768:Int) (cond f (256:Int) (cond g (262140:Int) (cond h (128:Int) (65535:Int))))))
 (True,(a,b,()))
def oU8 a b:=(mS5 a b).1
def Mw a b:=(mS5 a b).2
theorem mS6:SK 189 (BG vI vI (.tup (.cons vI (.cons vI .nl))) oU8 Mw):=fb Tryz.func189 38
abbrev uC:Type:=(Int×(List Int)×(List AW)×Unit)
def Ra (y:uC)(x:AA):Prop×Bool×AA×Bool×Bool:=
 let g:=y.1
 let d:=y.2.1
 let a:=x.1
 let b:=decide (a<len d)
 let e:=Mw g a
 let f:=decide (nth d a (0:Int)<e.1)
 let c:=cond f true (decide (nth d a (0:Int)>e.2.1))
 (b=true->oU8 g a/\A6 a (len d)/\((!f)=true->A6 a (len d))/\((!c)=true->A5 (a+1)),b&&(!c),(a+1,()),b&&c,!b)
def sL5 y x:=(Ra y x).1
def Mx y x:=(Ra y x).2.1
def Oo y x:=(Ra y x).2.2.1
def Zf y x:=(Ra y x).2.2.2.1
def tL0 y x:=(Ra y x).2.2.2.2
def sU2 (y:uC)(x:AA):Int:=
 (2:Int)
def rZ0:List (Nat×Sh):=[(0,vI),(1,Ak),(2,An)]
def oF9:=li [(0,vI),(1,Ak),(2,An)] [(9,vI)] Mx Oo sL5 (λy x=>[ex 1 (some (Zf y x)) [(6,vI)] ((sU2 y x),()),ex 2 (some (tL0 y x)) rZ0 (y.1,y.2.1,y.2.2.1,())]) [[(6,vI)],rZ0]
def Rb (y:uC)(x:AA):Prop×Bool×AA×Bool×Bool:=
 let g:=y.2.2.1
 let a:=x.1
 let b:=decide (a<len g)
 let e:=decide ((nth g a CO).1<0)
 let c:=cond e true (decide ((nth g a CO).1>65535))
 let f:=nth g a CO
 let d:=cond c true (!(Gp f.2.1))
 (b=true->A6 a (len g)/\((!e)=true->A6 a (len g))/\((!c)=true->A6 a (len g))/\((!c)=true->Uf f.2.1)/\((!d)=true->A5 (a+1)),b&&(!d),(a+1,()),b&&d,!b)
def tR7 y x:=(Rb y x).1
def Rd y x:=(Rb y x).2.1
def U9 y x:=(Rb y x).2.2.1
def Zg y x:=(Rb y x).2.2.2.1
def rK y x:=(Rb y x).2.2.2.2
def sB7 (y:uC)(x:AA):Int:=
 (2:Int)
def rK0:List (Nat×Sh):=[(0,vI),(1,Ak),(2,An)]
def pI2:=li [(0,vI),(1,Ak),(2,An)] [(12,vI)] Rd U9 tR7 (λy x=>[ex 1 (some (Zg y x)) [(6,vI)] ((sB7 y x),()),ex 4 (some (rK y x)) rK0 (y.1,y.2.1,y.2.2.1,())]) [[(6,vI)],rK0]
def vG (y:uC)(x:AA):Prop×Bool×AA×Bool×Bool:=
 let e:=y.2.1
 let a:=x.1
 let b:=cond (y.1==3) (decide (a<len e)) false
 let d:=a-2
 let c:=decide (nth e a (0:Int)<=nth e d (0:Int))
 (b=true->A6 a (len e)/\A5 (a-2)/\A6 d (len e)/\((!c)=true->A5 (a+2)),b&&(!c),(a+2,()),b&&c,!b)
def uR2 y x:=(vG y x).1
def wS y x:=(vG y x).2.1
def wR y x:=(vG y x).2.2.1
def UA y x:=(vG y x).2.2.2.1
def rK1 y x:=(vG y x).2.2.2.2
def sB8 (y:uC)(x:AA):Int:=
 (24:Int)
def pI3:=li [(0,vI),(1,Ak),(2,An)] [(13,vI)] wS wR uR2 (λy x=>[ex 1 (some (UA y x)) [(6,vI)] ((sB8 y x),()),ex 6 (some (rK1 y x)) [(2,An)] (y.2.2.1,())]) [[(6,vI)],[(2,An)]]
def tF (y:vI1)(x:AA):Prop×Bool×AA×Bool×Bool:=
 let e:=y.1
 let a:=x.1
 let b:=decide (a<len e)
 let d:=a-1
 let c:=decide ((nth e a CO).1<=(nth e d CO).1)
 (b=true->A6 a (len e)/\A5 (a-1)/\A6 d (len e)/\((!c)=true->A5 (a+1)),b&&(!c),(a+1,()),b&&c,!b)
def tR8 y x:=(tF y x).1
def vV y x:=(tF y x).2.1
def UB y x:=(tF y x).2.2.1
def uR3 y x:=(tF y x).2.2.2.1
def pI4 y x:=(tF y x).2.2.2.2
def sB9 (y:vI1)(x:AA):Int:=
 (24:Int)
def pI5:=li [(2,An)] [(14,vI)] vV UB tR8 (λy x=>[ex 1 (some (uR3 y x)) [(6,vI)] ((sB9 y x),()),ex 8 (some (pI4 y x)) [] ()]) [[(6,vI)],[]]
def nN6 (p:Int)(A:List Int)(B:List AW):Prop×Int:=
 let l:=cond (decide (p<1)) true (decide (p>11))
 let m:=EZ p
 let n:=cond (cond (cond (decide (len A<m.1)) true (decide (len A>m.2.1))) true (cond (p==3) (Int.tmod (len A) (2:Int)==1) false)) true (!(Ty.eqb .bool (decide (len B>0)) (p==10)))
 let o:=decide (len B>16)
 let g:=(p,A,B,())
 let z:=((0:Int),())
 let w:=A3 (Mx g) (Oo g) z
 let q:=p==9
 let r:=cond q (nth A (0:Int) (0:Int)==0) false
 let s:=cond r (nth A (1:Int) (0:Int)==0) false
 let e:=cond s (nth A (2:Int) (0:Int)==0) false
 let a:=(p,A,B,())
 let t:=((0:Int),())
 let h:=A3 (Rd a) (U9 a) t
 let d:=p==2
 let f:=cond d (decide (nth A (1:Int) (0:Int)<=nth A (0:Int) (0:Int))) false
 let b:=(p,A,B,())
 let u:=((2:Int),())
 let i:=A3 (wS b) (wR b) u
 let c:=(B,())
 let v:=((1:Int),())
 let j:=A3 (vV c) (UB c) v
 let k:=cond (Zg a h) (sB7 a h) (cond f (24:Int) (cond (UA b i) (sB8 b i) (cond (uR3 c j) (sB9 c j) (0:Int))))
 ((!l)=true->pI1 p/\((!n)=true->(!o)=true->Am.Ends (Mx g) (Oo g) (sL5 g) z/\(tL0 g w=true->(q=true->A6 (0:Int) (len A))/\(r=true->A6 (1:Int) (len A))/\(s=true->A6 (2:Int) (len A))/\((!e)=true->Am.Ends (Rd a) (U9 a) (tR7 a) t/\(rK a h=true->(d=true->A6 (1:Int) (len A))/\(d=true->A6 (0:Int) (len A))/\((!f)=true->Am.Ends (wS b) (wR b) (uR2 b) u/\(rK1 b i=true->Am.Ends (vV c) (UB c) (tR8 c) v)))))),cond l (8:Int) (cond n (1:Int) (cond o (3:Int) (cond (Zf g w) (sU2 g w) (cond e (2:Int) k)))))
def pI6 a b c:=(nN6 a b c).1
def Hv a b c:=(nN6 a b c).2
theorem mS7:SK 142 (DN vI Ak An vI pI6 Hv):=fb Tryz.func142 181 [kb qF1,kb mS4,kb mS6] [(9,oF9),(17,pI2),(24,pI3),(29,pI5)]
def lO (a b c:Int):Prop×Bool:=
 (True,cond (decide (a≥b)) (decide (a<=c)) false)
def uI a b c:=(lO a b c).1
def CQ a b c:=(lO a b c).2
theorem mS8:SK 190 (DN vI vI vI vB uI CQ):=fb Tryz.func190 15
def lO0 (d:Int):Prop×Int:=
 let b:=d==5
 let a:=cond b b (d==6)
 let c:=d==3
 (True,cond (cond a true (cond c c (d==9))) (cond a (0:Int) (2:Int)) (1:Int))
def oU9 a:=(lO0 a).1
def Fa a:=(lO0 a).2
theorem mS9:SK 191 (AP vI vI oU9 Fa):=fb Tryz.func191 10
def mT (p:Int)(z:List Int):Prop×Int:=
 let w:=!(CQ p (1:Int) (10:Int))
 let j:=len z !=Fa p
 let k:=p==1
 let l:=p==7
 let a:=cond k k (cond l l (p==8))
 let m:=nth z (0:Int) (0:Int)
 let b:=p==2
 let n:=nth z (0:Int) (0:Int)
 let c:=p==4
 let o:=nth z (0:Int) (0:Int)
 let d:=p==3
 let q:=nth z (0:Int) (0:Int)
 let e:=CQ q (0:Int) (16:Int)
 let r:=nth z (1:Int) (0:Int)
 let f:=p==9
 let s:=nth z (0:Int) (0:Int)
 let g:=CQ s (-16:Int) (16:Int)
 let t:=nth z (1:Int) (0:Int)
 let u:=p==10
 let v:=nth z (0:Int) (0:Int)
 let i:=cond d (cond e (CQ r (0:Int) (262140:Int)) false) (cond f (cond g (CQ t (-16:Int) (16:Int)) false) (cond u (CQ v (1:Int) (16:Int)) true))
 let h:=cond j (1:Int) (cond (!(cond a (CQ m (0:Int) (16:Int)) (cond b (CQ n (0:Int) (7:Int)) (cond c (CQ o (0:Int) (4:Int)) i)))) (2:Int) (0:Int))
 (uI p (1:Int) (10:Int)/\((!w)=true->oU9 p/\((!j)=true->(a=true->A6 (0:Int) (len z)/\uI m (0:Int) (16:Int))/\(a=false->(b=true->A6 (0:Int) (len z)/\uI n (0:Int) (7:Int))/\(b=false->(c=true->A6 (0:Int) (len z)/\uI o (0:Int) (4:Int))/\(c=false->(d=true->A6 (0:Int) (len z)/\uI q (0:Int) (16:Int)/\(e=true->A6 (1:Int) (len z))/\(e=true->uI r (0:Int) (262140:Int)))/\(d=false->(f=true->A6 (0:Int) (len z)/\uI s (-16:Int) (16:Int)/\(g=true->A6 (1:Int) (len z))/\(g=true->uI t (-16:Int) (16:Int)))/\(f=false->u=true->A6 (0:Int) (len z)/\uI v (1:Int) (16:Int)))))))),cond w (8:Int) h)
def pI7 a b:=(mT a b).1
def f143 a b:=(mT a b).2
theorem mT0:SK 143 (BG vI Ak vI pI7 f143):=fb Tryz.func143 67 [kb mS8,kb mS9]
abbrev uC2:Type:=(Jd×Int×Unit)
def sC (y:uC2)(x:AA):Prop×Bool×AA×Bool×Bool:=
 let c:=y.1
 let a:=x.1
 let b:=decide (a<y.2.1)
 let e:=decide ((nth c.2.2.2.1 a A1).1<(-1048576))
 let f:=cond e true (decide ((nth c.2.2.2.1 a A1).1>1048576))
 let g:=cond f true (decide ((nth c.2.2.2.1 a A1).2.1<(-1048576)))
 let d:=cond g true (decide ((nth c.2.2.2.1 a A1).2.1>1048576))
 (b=true->A6 a (len c.2.2.2.1)/\((!e)=true->A6 a (len c.2.2.2.1))/\((!f)=true->A6 a (len c.2.2.2.1))/\((!g)=true->A6 a (len c.2.2.2.1))/\((!d)=true->A5 (a+1)),b&&(!d),(a+1,()),b&&d,!b)
def sL6 y x:=(sC y x).1
def Zh y x:=(sC y x).2.1
def Zi y x:=(sC y x).2.2.1
def sL7 y x:=(sC y x).2.2.2.1
def oG y x:=(sC y x).2.2.2.2
def sU3 (y:uC2)(x:AA):Int:=
 (2:Int)
def oG0:=li [(1,(.box S9 Da)),(45,vI)] [(46,vI)] Zh Zi sL6 (λy x=>[ex 1 (some (sL7 y x)) [(2,vI)] ((sU3 y x),()),ex 2 (some (oG y x)) [] ()]) [[(2,vI)],[]]
def lO1 (f:Jd):Prop×Int:=
 let b:=cond (cond (cond (cond (cond (decide (f.1<2)) true (decide (f.1>8))) true (decide (f.2.1<2))) true (decide (f.2.1>8))) true (decide (f.2.2.1<1))) true (decide (f.2.2.1>256))
 let c:=cond b true (len f.2.2.2.1!=(f.1*f.2.1))
 let a:=(f,len f.2.2.2.1,())
 let e:=((0:Int),())
 let d:=A3 (Zh a) (Zi a) e
 (((!b)=true->A5 (f.1*f.2.1))/\((!c)=true->Am.Ends (Zh a) (Zi a) (sL6 a) e),cond c (15:Int) (cond (sL7 a d) (sU3 a d) (0:Int)))
def qH8 a:=(lO1 a).1
def Ky a:=(lO1 a).2
theorem mT1:SK 144 (AP Da vI qH8 Ky):=fb Tryz.func144 84 [] [(4,oG0)]
def mT2 (o:AK):Prop×Int:=
 let m:=o.2.1==2
 let b:=o.2.1==3
 let c:=o.2.1==4
 let d:=o.2.1==5
 let e:=o.2.1==6
 let f:=o.2.1==7
 let g:=o.2.1==8
 let k:=o.2.1==9
 let a:=cond k k (o.2.1==10)
 let l:=o.2.1==11
 let h:=cond f (Hv (Qc o).1 (Qa o).1 (Qd o).1) (cond g (f143 (Qc o).1 (Qa o).1) (cond a (2:Int) (Ky (Qk o).1)))
 let n:=cond d true (cond e true (cond f true (cond g true (cond a (!(EY (Qh o).1 (1:Int) (1073741824:Int))) l))))
 let i:=cond c (Mk (Qc o).1 (Qa o).1 (Qe o).1 (Qd o).1) (cond d (Kr o) (cond e (f141 o) h))
 let j:=cond (cond m true (cond b true (cond c true n))) (cond m (Le (Q6 o).1) (cond b (f138 (Q9 o).1) i)) (0:Int)
 ((m=true->Ug (Q6 o).1)/\(m=false->(b=true->NU (Q9 o).1)/\(b=false->(c=true->pF3 (Qc o).1 (Qa o).1 (Qe o).1 (Qd o).1)/\(c=false->(d=true->pG8 o)/\(d=false->(e=true->qH7 o)/\(e=false->(f=true->pI6 (Qc o).1 (Qa o).1 (Qd o).1)/\(f=false->(g=true->pI7 (Qc o).1 (Qa o).1)/\(g=false->(a=true->NS (Qh o).1 (1:Int) (1073741824:Int))/\(a=false->l=true->qH8 (Qk o).1)))))))),j)
def pI8 a:=(mT2 a).1
def I5 a:=(mT2 a).2
theorem mT3:SK 100 (AP Bb vI pI8 I5):=fb Tryz.func100 62 [kb nY8,kb oQ9,kb pF1,kb mO1,kb mQ5,kb mS3,kb mS7,kb mT0,kb mT1]
def lO2 (p:AK):Prop×AK:=
 let q:=((0:Int),(0:Int),([]:List Int),())
 let d:=((0:Int),(0:Int),(0:Int),([]:List UInt8),false,false,false,(0:Int),(0:Int),q,(Q2 p))
 let e:=((0:Int),(0:Int),(0:Int),([]:List UInt8),false,false,false,(0:Int),(0:Int),q,((0:Int),(0:Int),(0:Int),(0:Int),(0:Int),(0:Int),()),(Q7 p))
 let b:=cond (QB p.2.1) e d
 let f:=(Vb b (0:Int) (Q6 b))
 let a:=cond (QH p.2.1) f b
 let g:=(Vc a ((0:Int),(0:Int),([]:List CE),()) (Q9 a))
 let h:=(Vd a ((0:Int),(0:Int),(0:Int),(0:Int),()) (Qc a))
 let i:=(Ve a (0:Int) (([]:List Int),(0:Int),([]:List AW),(Q8 a)))
 let j:=(Vd a ((0:Int),(0:Int),(0:Int),(0:Int),()) ((Qc a).1,(Qa a).1,(Qe a).1,(Qd a).1,([]:List A8),(0:Int),(0:Int),(0:Int),(0:Int),(Qj a)))
 let k:=(Vd a ((0:Int),(0:Int),(0:Int),(0:Int),()) ((Qc a).1,(Qa a).1,(Qe a).1,(Qd a).1,(Q8 a).1,(Qi a).1,(Qb a).1,(Qf a).1,(Qg a).1,([]:List UInt8),(0:Int),(0:Int),(Qh a)))
 let l:=(Ve a (0:Int) (([]:List Int),(Qe a).1,([]:List AW),(Q8 a)))
 let m:=(Ve a (0:Int) (([]:List Int),(Qe a)))
 let r:=p.2.1==9
 let n:=(Vf a (0:Int) ((Qk a).1,()))
 let o:=(Vg a ((0:Int),(0:Int),(0:Int),([]:List A0),()) ())
 let c:=cond (p.2.1==6) k (cond (p.2.1==7) l (cond (p.2.1==8) m (cond (cond r r (p.2.1==10)) n (cond (p.2.1==11) o a))))
 (oR2 p.2.1/\oS0 p.2.1,cond (p.2.1==2) g (cond (p.2.1==3) h (cond (p.2.1==4) i (cond (p.2.1==5) j c))))
def pI9 a:=(lO2 a).1
def I6 a:=(lO2 a).2
theorem mT4:SK 101 (AP Bb Bb pI9 I6):=fb Tryz.func101 75 [kb nY5,kb nY6]
def Zj (o:AK)(p q:Int):Prop×Int:=
 let e:=Uc o p q
 let f:=e !=0
 let b:=QB o.2.1
 let g:=Gn (Q2 o).1
 let a:=g !=0
 let h:=Ue (Q2 o).1
 let i:=h.2.1 !=0
 let j:=QH o.2.1
 let k:=cond j (!(f99 (Q7 o).1)) false
 let l:=I5 o
 let m:=l !=0
 let n:=I6 o
 let d:=((0:Int),(0:Int),(0:Int),([]:List UInt8),false,false,false,(0:Int),(0:Int),((0:Int),(0:Int),([]:List Int),()),KU,(0:Int),((0:Int),(0:Int),([]:List CE),()),Ik,(0:Int),([]:List Int),(0:Int),([]:List AW),([]:List A8),(0:Int),(0:Int),(0:Int),(0:Int),([]:List UInt8),(0:Int),(0:Int),(0:Int),((0:Int),(0:Int),(0:Int),([]:List A0),()),())
 let c:=cond f e (cond ((a||((!a)&&i))&&b) (cond a g h.2.1) (cond k (8:Int) (cond m l (cond (!(Qx n d)) (1:Int) (0:Int)))))
 (oR1 o p q/\((!f)=true->oR2 o.2.1/\(b=true->NT (Q2 o).1/\((!a)=true->oS (Q2 o).1))/\((cond b ((!a)&&(!i)) true)=true->oS0 o.2.1/\(j=true->nY7 (Q7 o).1)/\((!k)=true->pI8 o/\((!m)=true->pI9 o/\Yp n d)))),c)
def oV a b c:=(Zj a b c).1
def Lp a b c:=(Zj a b c).2
theorem lO3:SK 59 (DN Bb vI vI vI oV Lp):=fb Tryz.func59 56 [kb nY3,kb lJ8,kb nY5,kb pN5,kb lK2,kb nY6,kb lK3,kb mT3,kb mT4]
abbrev uR4:Type:=(Int×AS×Unit)
def Zk (y:uR4)(x:vC):Prop×Bool×vC×Bool×Bool:=
 let a:=y.2.1
 let e:=x.1
 let h:=x.2.1
 let b:=cond (decide (e≥0)) (decide (h<=len a.2.2.2.1)) false
 let d:=(nth a.2.2.2.1 e A9).1==y.1
 let f:=(nth a.2.2.2.1 e A9).2.2.1==0
 let g:=nth a.2.2.2.1 e A9
 let c:=(!d)&&(!f)
 (b=true->A6 e (len a.2.2.2.1)/\((!d)=true->A6 e (len a.2.2.2.1)/\((!f)=true->A6 e (len a.2.2.2.1)/\Qw a g.2.2.1))/\(c=true->A5 (h+1)),b&&c,(Md a g.2.2.1,h+1,()),b&&(d||((!d)&&f)),!b)
def rK3 y x:=(Zk y x).1
def Re y x:=(Zk y x).2.1
def Oq y x:=(Zk y x).2.2.1
def sC0 y x:=(Zk y x).2.2.2.1
def oV0 y x:=(Zk y x).2.2.2.2
def uR6 (y:uR4)(x:vC):Bool:=
 let a:=y.1
 (cond ((nth y.2.1.2.2.2.1 x.1 A9).1==a) true (a==0))
def oV1:=li [(1,vI),(3,Ag)] [(2,vI),(7,vI)] Re Oq rK3 (λy x=>[ex 1 (some (sC0 y x)) [(6,vB)] ((uR6 y x),()),ex 2 (some (oV0 y x)) [(1,vI)] (y.1,())]) [[(6,vB)],[(1,vI)]]
def Zl (d:AS)(e f:Int):Prop×Bool:=
 let a:=(e,d,())
 let c:=(f,(0:Int),())
 let b:=A3 (Re a) (Oq a) c
 (Am.Ends (Re a) (Oq a) (rK3 a) c,cond (sC0 a b) (uR6 a b) (e==0))
def oV2 a b c:=(Zl a b c).1
def My a b c:=(Zl a b c).2
theorem lO4:SK 60 (DN Ao vI vI vB oV2 My):=fb Tryz.func60 46 [kb pN2] [(2,oV1)]
def Zm (y:uO)(x:AA):Prop×Bool×AA×Bool×Bool:=
 let c:=y.1
 let q:=y.2.1
 let a:=x.1
 let d:=decide (a<y.2.2.1)
 let b:=nth q a A9
 let e:=Lp b c.1 c.2.1!=0
 let f:=cond (decide (b.1<1)) true (decide (b.1≥c.2.2.2.2.1))
 let g:=decide (Md c b.1<a)
 let h:=Md c b.2.2.1
 let l:=b.2.2.1 !=0
 let m:=cond (decide (h<0)) true (decide (h≥a))
 let i:=cond l (cond m true ((nth c.2.2.2.1 h A9).2.1 !=1)) false
 let n:=a-1
 let j:=!(My c b.2.2.1 n)
 let o:=decide (NR c a>8)
 let k:=(!e)&&((!f)&&((!g)&&((!i)&&((!j)&&(!o)))))
 (d=true->A6 a (len q)/\oV b c.1 c.2.1/\((!e)=true->(!f)=true->Qw c b.1/\((!g)=true->Qw c b.2.2.1/\((l&&(!m))=true->A6 h (len c.2.2.2.1))/\((!i)=true->A5 (a-1)/\oV2 c b.2.2.1 n/\((!j)=true->pN3 c a))))/\(k=true->A5 (a+1)),d&&k,(a+1,()),d&&(e||((!e)&&(f||((!f)&&(g||((!g)&&(i||((!i)&&(j||((!j)&&o)))))))))),!d)
def sC1 y x:=(Zm y x).1
def Ot y x:=(Zm y x).2.1
def vK y x:=(Zm y x).2.2.1
def Zn y x:=(Zm y x).2.2.2.1
def oV3 y x:=(Zm y x).2.2.2.2
def Zo (y:uO)(x:AA):Int:=
 let c:=y.1
 let b:=x.1
 let a:=nth y.2.1 b A9
 let f:=Lp a c.1 c.2.1
 let d:=Md c a.2.2.1
 let e:=cond (cond (a.2.2.1 !=0) (cond (cond (decide (d<0)) true (decide (d≥b))) true ((nth c.2.2.2.1 d A9).2.1 !=1)) false) (9:Int) (cond (!(My c a.2.2.1 (b-1))) (24:Int) (12:Int))
 (cond (f !=0) f (cond (cond (decide (a.1<1)) true (decide (a.1≥c.2.2.2.2.1))) (2:Int) (cond (decide (Md c a.1<b)) (10:Int) e)))
def oV4:=li [(1,Ag),(8,Au),(9,vI)] [(10,vI)] Ot vK sC1 (λy x=>[ex 1 (some (Zn y x)) [(2,vI)] ((Zo y x),()),ex 2 (some (oV3 y x)) [] ()]) [[(2,vI)],[]]
def Zp (d:AS):Prop×Int:=
 let a:=(d,d.2.2.2.1,len d.2.2.2.1,())
 let c:=((0:Int),())
 let b:=A3 (Ot a) (vK a) c
 (Am.Ends (Ot a) (vK a) (sC1 a) c,cond (Zn a b) (Zo a b) (0:Int))
def oV5 a:=(Zp a).1
def EG a:=(Zp a).2
theorem lO5:SK 31 (AP Ao vI oV5 EG):=fb Tryz.func31 77 [kb pN2,kb lI8,kb lO3,kb lO4] [(2,oV4)]
def Zq (y:uR4)(x:AA):Prop×Bool×AA×Bool×Bool:=
 let f:=y.1
 let c:=y.2.1
 let a:=x.1
 let e:=decide (a≥0)
 let d:=(nth c.2.2.2.1 a A9).2.2.1==(nth c.2.2.2.1 f A9).2.2.1
 let b:=cond d (!(nth c.2.2.2.1 a A9).2.2.2.2.2.2.1) false
 (e=true->A6 a (len c.2.2.2.1)/\A6 f (len c.2.2.2.1)/\(d=true->A6 a (len c.2.2.2.1))/\((!b)=true->A5 (a-1)),e&&(!b),(a-1,()),e&&b,!e)
def rK6 y x:=(Zq y x).1
def UC y x:=(Zq y x).2.1
def UD y x:=(Zq y x).2.2.1
def rK7 y x:=(Zq y x).2.2.2.1
def oV6 y x:=(Zq y x).2.2.2.2
def tR9 (y:uR4)(x:AA):Int:=
 x.1
def oV7:=li [(1,vI),(2,Ag)] [(5,vI)] UC UD rK6 (λy x=>[ex 1 (some (rK7 y x)) [(4,vI)] ((tR9 y x),()),ex 2 (some (oV6 y x)) [] ()]) [[(4,vI)],[]]
def Zr (d:AS)(e:Int):Prop×Int:=
 let a:=(e,d,())
 let c:=(e-1,())
 let b:=A3 (UC a) (UD a) c
 (A5 (e-1)/\Am.Ends (UC a) (UD a) (rK6 a) c,cond (rK7 a b) (tR9 a b) (-1:Int))
def pO4 a b:=(Zr a b).1
def HP a b:=(Zr a b).2
theorem lO6:SK 61 (BG Ao vI vI pO4 HP):=fb Tryz.func61 35 [] [(2,oV7)]
def Zs (a:Int):Prop×Bool:=
 (True,cond (cond (cond (decide (a≥1)) (decide (a<=6)) false) true (a==9)) true (a==10))
def oV8 a:=(Zs a).1
def Lq a:=(Zs a).2
theorem nY9:SK 62 (AP vI vB oV8 Lq):=fb Tryz.func62 17
def Zt (y:uO)(x:AA):Prop×Bool×AA×Bool×Bool:=
 let i:=y.1
 let j:=y.2.1
 let d:=x.1
 let a:=decide (d<y.2.2.1)
 let b:=!(nth j d A9).2.2.2.2.2.2.1
 let e:=HP i d
 let c:=decide (e<0)
 let g:=nth i.2.2.2.1 e A9
 let h:=!(Lq g.2.1)
 let f:=b||((!b)&&((!c)&&(!h)))
 (a=true->A6 d (len j)/\((!b)=true->pO4 i d/\((!c)=true->A6 e (len i.2.2.2.1)/\oV8 g.2.1))/\(f=true->A5 (d+1)),a&&f,(d+1,()),a&&((!b)&&(c||((!c)&&h))),!a)
def rK9 y x:=(Zt y x).1
def Mz y x:=(Zt y x).2.1
def Rf y x:=(Zt y x).2.2.1
def Zu y x:=(Zt y x).2.2.2.1
def oV9 y x:=(Zt y x).2.2.2.2
def Zv (y:uO)(x:AA):Int:=
 (cond (decide (HP y.1 x.1<0)) (14:Int) (8:Int))
def oW:=li [(1,Ag),(7,Au),(8,vI)] [(9,vI)] Mz Rf rK9 (λy x=>[ex 1 (some (Zu y x)) [(2,vI)] ((Zv y x),()),ex 2 (some (oV9 y x)) [] ()]) [[(2,vI)],[]]
def Zw (d:AS):Prop×Int:=
 let a:=(d,d.2.2.2.1,len d.2.2.2.1,())
 let c:=((0:Int),())
 let b:=A3 (Mz a) (Rf a) c
 (Am.Ends (Mz a) (Rf a) (rK9 a) c,cond (Zu a b) (Zv a b) (0:Int))
def oW0 a:=(Zw a).1
def Kz a:=(Zw a).2
theorem lO7:SK 32 (AP Ao vI oW0 Kz):=fb Tryz.func32 31 [kb lO6,kb nY9] [(2,oW)]
def rL (y:Nt)(x:AA):Prop×Bool×AA×Bool×Bool:=
 let e:=y.1
 let a:=x.1
 let b:=decide (a<y.2.1)
 let d:=decide (BN e a<33)
 let c:=cond d true (decide (BN e a>126))
 (b=true->A6 a (len e)/\((!d)=true->A6 a (len e))/\((!c)=true->A5 (a+1)),b&&(!c),(a+1,()),b&&c,!b)
def qS7 y x:=(rL y x).1
def qH9 y x:=(rL y x).2.1
def tS y x:=(rL y x).2.2.1
def qS8 y x:=(rL y x).2.2.2.1
def oW1 y x:=(rL y x).2.2.2.2
def rL0 (y:Nt)(x:AA):Bool:=
 false
def oW2:=li [(0,vS),(13,vI)] [(14,vI)] qH9 tS qS7 (λy x=>[ex 1 (some (qS8 y x)) [(2,vB)] ((rL0 y x),()),ex 2 (some (oW1 y x)) [] ()]) [[(2,vB)],[]]
def Zx (e:List UInt8):Prop×Bool:=
 let b:=cond (decide (len e<1)) true (decide (len e>32))
 let a:=(e,len e,())
 let d:=((0:Int),())
 let c:=A3 (qH9 a) (tS a) d
 ((!b)=true->Am.Ends (qH9 a) (tS a) (qS7 a) d,cond b false (cond (qS8 a c) (rL0 a c) true))
def nZ a:=(Zx a).1
def f63 a:=(Zx a).2
theorem lO8:SK 63 (AP vS vB nZ f63):=fb Tryz.func63 28 [] [(4,oW2)]
def Zy (y:XF)(x:AA):Prop×Bool×AA×Bool×Bool:=
 let f:=y.2.1
 let d:=(Q1 y).1
 let a:=x.1
 let b:=decide (a<(Q3 y).1)
 let e:=nth d a Fj
 let c:=cond (e.1==f.1) true (e.2.1==f.2.1)
 (b=true->A6 a (len d)/\((!c)=true->A5 (a+1)),b&&(!c),(a+1,()),b&&c,!b)
def qS9 y x:=(Zy y x).1
def sY y x:=(Zy y x).2.1
def uS1 y x:=(Zy y x).2.2.1
def rL2 y x:=(Zy y x).2.2.2.1
def qT y x:=(Zy y x).2.2.2.2
def rL3 (y:XF)(x:AA):Int:=
 (10:Int)
def qT0:List (Nat×Sh):=[(1,Ag),(4,Cq),(9,Be),(10,vI),(11,vI)]
def oW3:=li [(1,Ag),(4,Cq),(9,Be),(10,vI),(11,vI),(53,Be),(54,vI)] [(55,vI)] sY uS1 qS9 (λy x=>[ex 1 (some (rL2 y x)) [(2,vI)] ((rL3 y x),()),ex 4 (some (qT y x)) qT0 (y.1,y.2.1,y.2.2.1,y.2.2.2.1,y.2.2.2.2.1,())]) [[(2,vI)],qT0]
def Zz (y:uO3)(x:AA):Prop×Bool×AA×Bool×Bool:=
 let l:=y.1
 let m:=y.2.1
 let h:=y.2.2.1
 let b:=x.1
 let d:=decide (b<h)
 let a:=nth m b Fj
 let e:=!(f63 a.2.1)
 let n:=cond (cond (cond (cond (decide (a.1<1)) true (decide (a.1≥l.2.2.2.2.1))) true (decide (a.2.2.1<0))) true (decide (a.2.2.1>2))) true (decide (a.2.2.2.1<1))
 let f:=cond n true (decide (a.2.2.2.1>1073741824))
 let j:=take (Int.toNat b) (Q0 l).1
 let g:=(l,a,m,h,b,j,len j,())
 let q:=((0:Int),())
 let o:=A3 (sY g) (uS1 g) q
 let c:=qT g o
 let k:=Le a.2.2.2.2.1!=0
 let i:=(!e)&&((!f)&&(c&&(!k)))
 (d=true->A6 b (len m)/\nZ a.2.1/\((!e)=true->(!f)=true->(0<=b/\b<=len (Q0 l).1)/\Am.Ends (sY g) (uS1 g) (qS9 g) q/\(c=true->Ug a.2.2.2.2.1))/\(i=true->A5 (b+1)),d&&i,(b+1,()),d&&(e||((!e)&&(f||((!f)&&(rL2 g o||(c&&k)))))),!d)
def rL5 y x:=(Zz y x).1
def Ou y x:=(Zz y x).2.1
def UE y x:=(Zz y x).2.2.1
def sC2 y x:=(Zz y x).2.2.2.1
def oW4 y x:=(Zz y x).2.2.2.2
def uS3 (y:uO3)(x:AA):Int:=
 let f:=y.1
 let h:=y.2.1
 let b:=x.1
 let a:=nth h b Fj
 let g:=cond (cond (cond (cond (decide (a.1<1)) true (decide (a.1≥f.2.2.2.2.1))) true (decide (a.2.2.1<0))) true (decide (a.2.2.1>2))) true (decide (a.2.2.2.1<1))
 let d:=take (Int.toNat b) (Q0 f).1
 let e:=(f,a,h,y.2.2.1,b,d,len d,())
 let i:=A3 (sY e) (uS1 e) ((0:Int),())
 let c:=cond (!(f63 a.2.1)) (13:Int) (cond (cond g true (decide (a.2.2.2.1>1073741824))) (2:Int) (cond (rL2 e i) (rL3 e i) (Le a.2.2.2.2.1)))
 c
def oW5:=li [(1,Ag),(9,Be),(10,vI)] [(11,vI)] Ou UE rL5 (λy x=>[ex 1 (some (sC2 y x)) [(2,vI)] ((uS3 y x),()),ex 2 (some (oW4 y x)) [] ()]) [[(2,vI)],[]]
def ZA (d:AS):Prop×Int:=
 let a:=(d,(Q0 d).1,len (Q0 d).1,())
 let c:=((0:Int),())
 let b:=A3 (Ou a) (UE a) c
 (Am.Ends (Ou a) (UE a) (rL5 a) c,cond (sC2 a b) (uS3 a b) (0:Int))
def oW6 a:=(ZA a).1
def Rh a:=(ZA a).2
theorem lO9:SK 33 (AP Ao vI oW6 Rh):=fb Tryz.func33 79 [kb lO8,kb nY8] [(2,oW5),(9,oW3)]
abbrev uS4:Type:=(Int×(List C0)×Int×Unit)
def ZB (y:uS4)(x:AA):Prop×Bool×AA×Bool×Bool:=
 let d:=y.2.1
 let a:=x.1
 let b:=decide (a<y.2.2.1)
 let c:=(nth d a Fj).1==y.1
 (b=true->A6 a (len d)/\((!c)=true->A5 (a+1)),b&&(!c),(a+1,()),b&&c,!b)
def qT1 y x:=(ZB y x).1
def qI y x:=(ZB y x).2.1
def tS0 y x:=(ZB y x).2.2.1
def qT2 y x:=(ZB y x).2.2.2.1
def oW7 y x:=(ZB y x).2.2.2.2
def rL7 (y:uS4)(x:AA):Int:=
 x.1
def oW8:=li [(1,vI),(8,Be),(9,vI)] [(10,vI)] qI tS0 qT1 (λy x=>[ex 1 (some (qT2 y x)) [(4,vI)] ((rL7 y x),()),ex 2 (some (oW7 y x)) [] ()]) [[(4,vI)],[]]
def ZC (d:AS)(e:Int):Prop×Int:=
 let a:=(e,(Q0 d).1,len (Q0 d).1,())
 let c:=((0:Int),())
 let b:=A3 (qI a) (tS0 a) c
 (Am.Ends (qI a) (tS0 a) (qT1 a) c,cond (qT2 a b) (rL7 a b) (-1:Int))
def oW9 a b:=(ZC a b).1
def f65 a b:=(ZC a b).2
theorem lP:SK 65 (BG Ao vI vI oW9 f65):=fb Tryz.func65 21 [] [(2,oW8)]
def ZD (y:uO)(x:AA):Prop×Bool×AA×Bool×Bool:=
 let g:=y.1
 let m:=y.2.1
 let h:=x.1
 let b:=decide (h<y.2.2.1)
 let a:=nth m h A9
 let j:=a.2.1==9
 let c:=cond j (decide (f65 g (Qh a).1<0)) false
 let e:=a.2.1==10
 let f:=Md g (Qh a).1
 let d:=decide (f<0)
 let k:=nth g.2.2.2.1 f A9
 let l:=!(Lq k.2.1)
 let i:=(!c)&&(cond e ((!d)&&(!l)) true)
 (b=true->A6 h (len m)/\(j=true->oW9 g (Qh a).1)/\((!c)=true->e=true->Qw g (Qh a).1/\((!d)=true->A6 f (len g.2.2.2.1)/\oV8 k.2.1))/\(i=true->A5 (h+1)),b&&i,(h+1,()),b&&(c||((!c)&&((d||((!d)&&l))&&e))),!b)
def rL9 y x:=(ZD y x).1
def Ov y x:=(ZD y x).2.1
def UF y x:=(ZD y x).2.2.1
def ZE y x:=(ZD y x).2.2.2.1
def oX y x:=(ZD y x).2.2.2.2
def ZF (y:uO)(x:AA):Int:=
 let c:=y.1
 let a:=nth y.2.1 x.1 A9
 let b:=cond (cond (a.2.1==9) (decide (f65 c (Qh a).1<0)) false) (9:Int) (cond (decide (Md c (Qh a).1<0)) (9:Int) (8:Int))
 b
def oX0:=li [(1,Ag),(7,Au),(8,vI)] [(9,vI)] Ov UF rL9 (λy x=>[ex 1 (some (ZE y x)) [(2,vI)] ((ZF y x),()),ex 2 (some (oX y x)) [] ()]) [[(2,vI)],[]]
def ZG (d:AS):Prop×Int:=
 let a:=(d,d.2.2.2.1,len d.2.2.2.1,())
 let c:=((0:Int),())
 let b:=A3 (Ov a) (UF a) c
 (Am.Ends (Ov a) (UF a) (rL9 a) c,cond (ZE a b) (ZF a b) (0:Int))
def oX1 a:=(ZG a).1
def ZH a:=(ZG a).2
theorem lP0:SK 34 (AP Ao vI oX1 ZH):=fb Tryz.func34 41 [kb pN2,kb nY9,kb lP] [(2,oX0)]
abbrev sC3:Type:=(AS×(List Bool)×Int×AK×Int×Int×(List AK)×Int×Int×(List AK)×Int×Unit)
abbrev uS6:Type:=(Bool×Int×Unit)
def pJ (y:sC3)(x:uS6):Prop×Bool×uS6:=
 let f:=y.2.1
 let e:=y.2.2.2.1
 let b:=(Q4 y).1
 let a:=x.2.1
 let c:=decide (a<(Q2 y).1)
 let d:=nth b a A9
 let g:=cond (!(nth f a false)) (cond (cond (e.2.1==1) (d.2.2.1==e.1) false) true (cond (e.2.1==10) (d.1==(Qh e).1) false)) false
 (c=true->A6 a (len b)/\A6 a (len f)/\a<len f/\A5 (a+1),c,(cond g false x.1,a+1,()))
def sC4 y x:=(pJ y x).1
def M0 y x:=(pJ y x).2.1
def M1 y x:=(pJ y x).2.2
def rM (y:sC3)(x:uS6):Bool:=
 x.1
def qT3:List (Nat×Sh):=[(1,Ag),(3,Br),(4,vI),(6,vB),(17,vI),(18,vI),(21,Au),(22,vI),(23,vI)]
def oX2:=li [(1,Ag),(3,Br),(4,vI),(5,(.box Fv Bb)),(17,vI),(18,vI),(21,Au),(22,vI),(23,vI),(29,Au),(30,vI)] [(6,vB),(31,vI)] M0 M1 sC4 (λy x=>[ex 6 none qT3 (y.1,y.2.1,y.2.2.1,(rM y x),y.2.2.2.2.1,(Q1 y).1,(Q3 y).1,(Q0 y).1,(Q5 y).1,())]) [qT3]
abbrev sC5:Type:=(AS×Int×Int×(List AK)×Int×Unit)
def pJ0 (y:sC5)(x:FP):Prop×Bool×FP:=
 let h:=y.1
 let c:=y.2.2.2.1
 let e:=y.2.2.2.2.1
 let f:=x.1
 let a:=x.2.1
 let g:=decide (a<e)
 let d:=(h,f,a,nth c a A9,y.2.1,y.2.2.1,c,e,a,h.2.2.2.1,len h.2.2.2.1,())
 let i:=(true,(0:Int),())
 let b:=rM d (A3 (M0 d) (M1 d) i)
 (g=true->A6 a (len c)/\Am.Ends (M0 d) (M1 d) (sC4 d) i/\(b=true->A6 a (len f)/\a<len f)/\A5 (a+1),g,(cond b (set f (Int.toNat a) true) f,a+1,()))
def sC6 y x:=(pJ0 y x).1
def Ri y x:=(pJ0 y x).2.1
def Ow y x:=(pJ0 y x).2.2
def rM0 (y:sC5)(x:FP):(List Bool):=
 x.1
def qT4:List (Nat×Sh):=[(1,Ag),(3,Br),(17,vI),(18,vI)]
def oX3:=li [(1,Ag),(17,vI),(18,vI),(21,Au),(22,vI)] [(3,Br),(23,vI)] Ri Ow sC6 (λy x=>[ex 4 none qT4 (y.1,(rM0 y x),y.2.1,y.2.2.1,())]) [qT4]
abbrev sC7:Type:=(AS×Int×Unit)
def pJ1 (y:sC7)(x:FP):Prop×Bool×FP:=
 let e:=y.1
 let c:=y.2.1
 let a:=x.2.1
 let d:=decide (a<c)
 let b:=(e,c,a,e.2.2.2.1,len e.2.2.2.1,())
 let f:=(x.1,(0:Int),())
 (d=true->Am.Ends (Ri b) (Ow b) (sC6 b) f/\A5 (a+1),d,(rM0 b (A3 (Ri b) (Ow b) f),a+1,()))
def sC8 y x:=(pJ1 y x).1
def FE y x:=(pJ1 y x).2.1
def Fl y x:=(pJ1 y x).2.2
def rM1 (y:sC7)(x:FP):(List Bool):=
 x.1
def oX4:=li [(1,Ag),(17,vI)] [(3,Br),(18,vI)] FE Fl sC8 (λy x=>[ex 2 none [(3,Br)] ((rM1 y x),())]) [[(3,Br)]]
def ZI (y:FP)(x:AA):Prop×Bool×AA×Bool×Bool:=
 let c:=y.1
 let a:=x.1
 let b:=decide (a<y.2.1)
 let d:=!(nth c a false)
 (b=true->A6 a (len c)/\a<len c/\((!d)=true->A5 (a+1)),b&&(!d),(a+1,()),b&&d,!b)
def sL8 y x:=(ZI y x).1
def K0 y x:=(ZI y x).2.1
def K1 y x:=(ZI y x).2.2.1
def tL2 y x:=(ZI y x).2.2.2.1
def oG1 y x:=(ZI y x).2.2.2.2
def sU4 (y:FP)(x:AA):Bool:=
 true
def oG2:=li [(72,Br),(73,vI)] [(74,vI)] K0 K1 sL8 (λy x=>[ex 1 (some (tL2 y x)) [(2,vB)] ((sU4 y x),()),ex 8 (some (oG1 y x)) [] ()]) [[(2,vB)],[]]
def ZJ (h:AS):Prop×Bool:=
 let c:=len h.2.2.2.1
 let d:=(h,len h.2.2.2.1,())
 let g:=(List.replicate (Int.toNat c) false,(0:Int),())
 let b:=rM1 d (A3 (FE d) (Fl d) g)
 let a:=(b,len b,())
 let f:=((0:Int),())
 let e:=A3 (K0 a) (K1 a) f
 ((0<=c/\c<=c/\c<=4294967296)/\Am.Ends (FE d) (Fl d) (sC8 d) g/\Am.Ends (K0 a) (K1 a) (sL8 a) f,cond (tL2 a e) (sU4 a e) false)
def pO5 a:=(ZJ a).1
def f35 a:=(ZJ a).2
theorem lP1:SK 35 (AP Ao vB pO5 f35):=fb Tryz.func35 81 [] [(3,oX4),(5,oX3),(9,oX2),(19,oG2)] [(3,[(4,0,14,1003)])] false [] [14]
def ZK (y:TZ)(x:AA):Prop×Bool×AA×Bool×Bool:=
 let c:=y.1
 let a:=x.1
 let e:=decide (a<len c)
 let d:=decide (BN c a<33)
 let b:=cond d true (decide (BN c a>126))
 (e=true->A6 a (len c)/\((!d)=true->A6 a (len c))/\((!b)=true->A5 (a+1)),e&&(!b),(a+1,()),e&&b,!e)
def qT5 y x:=(ZK y x).1
def sY0 y x:=(ZK y x).2.1
def uT0 y x:=(ZK y x).2.2.1
def qT6 y x:=(ZK y x).2.2.2.1
def oX5 y x:=(ZK y x).2.2.2.2
def rM3 (y:TZ)(x:AA):Bool:=
 false
def oX6:=li [(0,vS)] [(3,vI)] sY0 uT0 qT5 (λy x=>[ex 1 (some (qT6 y x)) [(2,vB)] ((rM3 y x),()),ex 2 (some (oX5 y x)) [(0,vS)] (y.1,())]) [[(2,vB)],[(0,vS)]]
def ZL (d:List UInt8):Prop×Bool:=
 let a:=(d,())
 let c:=((0:Int),())
 let b:=A3 (sY0 a) (uT0 a) c
 (Am.Ends (sY0 a) (uT0 a) (qT5 a) c,cond (qT6 a b) (rM3 a b) (cond (decide (len d≥1)) (decide (len d<=32)) false))
def oX7 a:=(ZL a).1
def UG a:=(ZL a).2
theorem lP2:SK 66 (AP vS vB oX7 UG):=fb Tryz.func66 28 [] [(2,oX6)]
def ZM (y:TZ)(x:AA):Prop×Bool×AA×Bool×Bool:=
 let c:=y.1
 let a:=x.1
 let e:=decide (a<len c)
 let d:=decide (BN c a<32)
 let b:=cond d true (decide (BN c a>126))
 (e=true->A6 a (len c)/\((!d)=true->A6 a (len c))/\((!b)=true->A5 (a+1)),e&&(!b),(a+1,()),e&&b,!e)
def qT7 y x:=(ZM y x).1
def sY1 y x:=(ZM y x).2.1
def uT2 y x:=(ZM y x).2.2.1
def qT8 y x:=(ZM y x).2.2.2.1
def oX8 y x:=(ZM y x).2.2.2.2
def rM5 (y:TZ)(x:AA):Bool:=
 false
def oX9:=li [(0,vS)] [(3,vI)] sY1 uT2 qT7 (λy x=>[ex 1 (some (qT8 y x)) [(2,vB)] ((rM5 y x),()),ex 2 (some (oX8 y x)) [(0,vS)] (y.1,())]) [[(2,vB)],[(0,vS)]]
def ZN (d:List UInt8):Prop×Bool:=
 let a:=(d,())
 let c:=((0:Int),())
 let b:=A3 (sY1 a) (uT2 a) c
 (Am.Ends (sY1 a) (uT2 a) (qT7 a) c,cond (qT8 a b) (rM5 a b) (cond (decide (len d≥1)) (decide (len d<=256)) false))
def oY a:=(ZN a).1
def UH a:=(ZN a).2
theorem lP3:SK 67 (AP vS vB oY UH):=fb Tryz.func67 28 [] [(2,oX9)]
abbrev uT3:Type:=((List BZ)×Int×Unit)
def ZO (y:uT3)(x:AA):Prop×Bool×AA×Bool×Bool:=
 let f:=y.1
 let a:=x.1
 let b:=decide (a<y.2.1)
 let h:=nth f a DI
 let c:=!(UG h.1)
 let i:=nth f a DI
 let d:=!(UH i.2.1)
 let e:=decide (a>0)
 let j:=nth f a DI
 let k:=a-1
 let l:=nth f k DI
 let m:=cond e (Op.bytesLess j.1 l.1||j.1==l.1) false
 let g:=(!c)&&((!d)&&(!m))
 (b=true->A6 a (len f)/\oX7 h.1/\((!c)=true->A6 a (len f)/\oY i.2.1/\((!d)=true->(e=true->A6 a (len f))/\(e=true->A5 (a-1))/\(e=true->A6 k (len f))))/\(g=true->A5 (a+1)),b&&g,(a+1,()),b&&(c||((!c)&&(d||((!d)&&m)))),!b)
def rM7 y x:=(ZO y x).1
def UI y x:=(ZO y x).2.1
def UJ y x:=(ZO y x).2.2.1
def rM8 y x:=(ZO y x).2.2.2.1
def oY0 y x:=(ZO y x).2.2.2.2
def uT4 (y:uT3)(x:AA):Int:=
 let a:=y.1
 let b:=x.1
 (cond (!(UG (nth a b DI).1)) (13:Int) (cond (!(UH (nth a b DI).2.1)) (4:Int) (24:Int)))
def oY1:=li [(0,Bn),(8,vI)] [(9,vI)] UI UJ rM7 (λy x=>[ex 1 (some (rM8 y x)) [(2,vI)] ((uT4 y x),()),ex 2 (some (oY0 y x)) [] ()]) [[(2,vI)],[]]
def ZP (e:List BZ):Prop×Int:=
 let c:=decide (len e>16)
 let a:=(e,len e,())
 let d:=((0:Int),())
 let b:=A3 (UI a) (UJ a) d
 ((!c)=true->Am.Ends (UI a) (UJ a) (rM7 a) d,cond c (3:Int) (cond (rM8 a b) (uT4 a b) (0:Int)))
def oY2 a:=(ZP a).1
def f37 a:=(ZP a).2
theorem lP4:SK 37 (AP Bn vI oY2 f37):=fb Tryz.func37 43 [kb lP2,kb lP3] [(4,oY1)]
def f8t (p:AS):Prop×Int:=
 let d:=f6 p.1 p.2.1 p.2.2.1
 let e:=d.2.1 !=0
 let f:=cond (decide (len p.2.2.2.1>64)) true (decide (len (Q0 p).1>8))
 let g:=cond (decide (p.2.2.2.2.1<1)) true (decide (p.2.2.2.2.1>1073741824))
 let h:=EG p
 let i:=h==0
 let r:=cond i (Kz p) h
 let j:=r==0
 let a:=cond j (Rh p) r
 let k:=a==0
 let b:=cond k (ZH p) a
 let l:=b !=0
 let m:=f35 p
 let n:=TY (Q1 p).1
 let o:=n !=0
 let q:=cond ((Q1 p).1.1 !=0) (cond ((Q1 p).1.1 !=p.1) true ((Q1 p).1.2.1 !=p.2.1)) false
 let c:=cond e d.2.1 (cond f (3:Int) (cond g (2:Int) (cond l b (cond m (11:Int) (cond o n (cond q (15:Int) (f37 (Q3 p).1)))))))
 (fY p.1 p.2.1 p.2.2.1/\((!e)=true->(!f)=true->(!g)=true->oV5 p/\(i=true->oW0 p)/\(j=true->oW6 p)/\(k=true->oX1 p)/\((!l)=true->pO5 p/\((!m)=true->pN4 (Q1 p).1/\((!o)=true->(!q)=true->oY2 (Q3 p).1)))),c)
def nN7 a:=(f8t a).1
def f8 a:=(f8t a).2
def mT5:=AP Ao vI nN7 f8
theorem lU9:SK 8 (AP Ao vI nN7 f8):=fb Tryz.func8 84 [kb lE4,kb lO5,kb lO7,kb lO9,kb lP0,kb lP1,kb nY4,kb lP4]
abbrev uT5:Type:=(Ge×Ge×Int×Unit)
def ZQ (y:uT5)(x:AA):Prop×Bool×AA×Bool×Bool:=
 let d:=y.1
 let e:=y.2.1
 let a:=x.1
 let b:=decide (a<y.2.2.1)
 let c:=nth d.2.2.1 a (0:Int)!=nth e.2.2.1 a (0:Int)
 (b=true->A6 a (len d.2.2.1)/\A6 a (len e.2.2.1)/\((!c)=true->A5 (a+1)),b&&(!c),(a+1,()),b&&c,!b)
def rN y x:=(ZQ y x).1
def sD y x:=(ZQ y x).2.1
def ZR y x:=(ZQ y x).2.2.1
def rN0 y x:=(ZQ y x).2.2.2.1
def oY3 y x:=(ZQ y x).2.2.2.2
def rN1 (y:uT5)(x:AA):Bool:=
 false
def oY4:=li [(2,(.box Ij Ca)),(3,(.box Ij Ca)),(29,vI)] [(30,vI)] sD ZR rN (λy x=>[ex 1 (some (rN0 y x)) [(4,vB)] ((rN1 y x),()),ex 2 (some (oY3 y x)) [] ()]) [[(4,vB)],[]]
def ZS (e f:Ge):Prop×Bool:=
 let b:=cond (cond (e.1 !=f.1) true (e.2.1 !=f.2.1)) true (len e.2.2.1!=len f.2.2.1)
 let a:=(e,f,len e.2.2.1,())
 let d:=((0:Int),())
 let c:=A3 (sD a) (ZR a) d
 ((!b)=true->Am.Ends (sD a) (ZR a) (rN a) d,cond b false (cond (rN0 a c) (rN1 a c) true))
def oY5 a b:=(ZS a b).1
def ZT a b:=(ZS a b).2
theorem lP5:SK 68 (BG Ca Ca vB oY5 ZT):=fb Tryz.func68 45 [] [(4,oY4)]
def ZU (y:vZ0)(x:AA):Prop×Bool×AA×Bool×Bool:=
 let d:=y.1
 let e:=y.2.1
 let b:=x.1
 let a:=decide (b<len d.2.2.1)
 let c:=!(Ty.eqb Gf (nth d.2.2.1 b Ik) (nth e.2.2.1 b Ik))
 (a=true->A6 b (len d.2.2.1)/\A6 b (len e.2.2.1)/\((!c)=true->A5 (b+1)),a&&(!c),(b+1,()),a&&c,!a)
def qT9 y x:=(ZU y x).1
def qI0 y x:=(ZU y x).2.1
def tS1 y x:=(ZU y x).2.2.1
def qU y x:=(ZU y x).2.2.2.1
def oY6 y x:=(ZU y x).2.2.2.2
def rN3 (y:vZ0)(x:AA):Bool:=
 false
def oY7:=li [(2,Dg),(3,Dg)] [(5,vI)] qI0 tS1 qT9 (λy x=>[ex 1 (some (qU y x)) [(4,vB)] ((rN3 y x),()),ex 2 (some (oY6 y x)) [] ()]) [[(4,vB)],[]]
def ZV (e f:HD):Prop×Bool:=
 let b:=cond (cond (e.1 !=f.1) true (e.2.1 !=f.2.1)) true (len e.2.2.1!=len f.2.2.1)
 let a:=(e,f,())
 let d:=((0:Int),())
 let c:=A3 (qI0 a) (tS1 a) d
 ((!b)=true->Am.Ends (qI0 a) (tS1 a) (qT9 a) d,cond b false (cond (qU a c) (rN3 a c) true))
def nZ0 a b:=(ZV a b).1
def f70 a b:=(ZV a b).2
theorem lP6:SK 70 (BG Cd Cd vB nZ0 f70):=fb Tryz.func70 45 [] [(4,oY7)]
abbrev UK:Type:=(AS×AS×Int×Unit)
def ZW (y:UK)(x:AA):Prop×Bool×AA×Bool×Bool:=
 let f:=y.1
 let g:=y.2.1
 let a:=x.1
 let b:=decide (a<y.2.2.1)
 let d:=nth f.2.2.2.1 a A9
 let e:=nth g.2.2.2.1 a A9
 let c:=!(Qx d e)
 (b=true->A6 a (len f.2.2.2.1)/\A6 a (len g.2.2.2.1)/\Yp d e/\((!c)=true->A5 (a+1)),b&&(!c),(a+1,()),b&&c,!b)
def rN5 y x:=(ZW y x).1
def ZX y x:=(ZW y x).2.1
def ZY y x:=(ZW y x).2.2.1
def rN6 y x:=(ZW y x).2.2.2.1
def qU0 y x:=(ZW y x).2.2.2.2
def rN7 (y:UK)(x:AA):Bool:=
 false
def qU1:List (Nat×Sh):=[(2,Ag),(3,Ag)]
def oY8:=li [(2,Ag),(3,Ag),(73,vI)] [(74,vI)] ZX ZY rN5 (λy x=>[ex 1 (some (rN6 y x)) [(4,vB)] ((rN7 y x),()),ex 2 (some (qU0 y x)) qU1 (y.1,y.2.1,())]) [[(4,vB)],qU1]
def ZZ (y:UK)(x:AA):Prop×Bool×AA×Bool×Bool:=
 let d:=y.1
 let e:=y.2.1
 let a:=x.1
 let c:=decide (a<y.2.2.1)
 let b:=!(Ty.eqb OU (nth (Q3 d).1 a DI) (nth (Q3 e).1 a DI))
 (c=true->A6 a (len (Q3 d).1)/\A6 a (len (Q3 e).1)/\((!b)=true->A5 (a+1)),c&&(!b),(a+1,()),c&&b,!c)
def sL9 y x:=(ZZ y x).1
def aA y x:=(ZZ y x).2.1
def aB y x:=(ZZ y x).2.2.1
def sM y x:=(ZZ y x).2.2.2.1
def rZ1 y x:=(ZZ y x).2.2.2.2
def sU5 (y:UK)(x:AA):Bool:=
 false
def rZ2:List (Nat×Sh):=[(2,Ag),(3,Ag)]
def oG3:=li [(2,Ag),(3,Ag),(92,vI)] [(93,vI)] aA aB sL9 (λy x=>[ex 1 (some (sM y x)) [(4,vB)] ((sU5 y x),()),ex 4 (some (rZ1 y x)) rZ2 (y.1,y.2.1,())]) [[(4,vB)],rZ2]
def aC (y:UK)(x:AA):Prop×Bool×AA×Bool×Bool:=
 let g:=y.1
 let h:=y.2.1
 let a:=x.1
 let d:=decide (a<y.2.2.1)
 let b:=nth (Q0 g).1 a Fj
 let c:=nth (Q0 h).1 a Fj
 let f:=cond (cond (cond (b.1 !=c.1) true (!(b.2.1==c.2.1))) true (b.2.2.1 !=c.2.2.1)) true (b.2.2.2.1 !=c.2.2.2.1)
 let e:=cond f true (!(f70 b.2.2.2.2.1 c.2.2.2.2.1))
 (d=true->A6 a (len (Q0 g).1)/\A6 a (len (Q0 h).1)/\((!f)=true->nZ0 b.2.2.2.2.1 c.2.2.2.2.1)/\((!e)=true->A5 (a+1)),d&&(!e),(a+1,()),d&&e,!d)
def sM0 y x:=(aC y x).1
def aD y x:=(aC y x).2.1
def aE y x:=(aC y x).2.2.1
def sM1 y x:=(aC y x).2.2.2.1
def oG4 y x:=(aC y x).2.2.2.2
def sU6 (y:UK)(x:AA):Bool:=
 false
def oG5:=li [(2,Ag),(3,Ag),(110,vI)] [(111,vI)] aD aE sM0 (λy x=>[ex 1 (some (sM1 y x)) [(4,vB)] ((sU6 y x),()),ex 6 (some (oG4 y x)) [] ()]) [[(4,vB)],[]]
def aF (n o:AS):Prop×Bool:=
 let l:=cond (cond (cond (cond (n.1 !=o.1) true (n.2.1 !=o.2.1)) true (n.2.2.1 !=o.2.2.1)) true (n.2.2.2.2.1 !=o.2.2.2.2.1)) true (len n.2.2.2.1!=len o.2.2.2.1)
 let g:=cond (cond l true (len (Q3 n).1!=len (Q3 o).1)) true (len (Q0 n).1!=len (Q0 o).1)
 let h:=cond g true (!(ZT (Q1 n).1 (Q1 o).1))
 let c:=(n,o,len n.2.2.2.1,())
 let m:=((0:Int),())
 let k:=A3 (ZX c) (ZY c) m
 let a:=(n,o,len (Q3 n).1,())
 let i:=((0:Int),())
 let d:=A3 (aA a) (aB a) i
 let b:=(n,o,len (Q0 n).1,())
 let j:=((0:Int),())
 let e:=A3 (aD b) (aE b) j
 let f:=cond h false (cond (rN6 c k) (rN7 c k) (cond (sM a d) (sU5 a d) (cond (sM1 b e) (sU6 b e) true)))
 (((!g)=true->oY5 (Q1 n).1 (Q1 o).1)/\((!h)=true->Am.Ends (ZX c) (ZY c) (rN5 c) m/\(qU0 c k=true->Am.Ends (aA a) (aB a) (sL9 a) i/\(rZ1 a d=true->Am.Ends (aD b) (aE b) (sM0 b) j))),f)
def pO6 a b:=(aF a b).1
def UL a b:=(aF a b).2
theorem lP7:SK 38 (BG Ao Ao vB pO6 UL):=fb Tryz.func38 159 [kb lP5,kb nY3,kb lP6] [(4,oY8),(10,oG3),(16,oG5)]
def f9t (b:AS)(c:Int)(d:AS)(e:Int):Prop×Bool:=
 let a:=c==e
 (a=true->pO6 b d,cond a (UL b d) false)
def aG a b c d:=(f9t a b c d).1
def f9 a b c d:=(f9t a b c d).2
def mT6:=Fw Ao vI Ao vI vB aG f9
theorem lV:SK 9 (Fw Ao vI Ao vI vB aG f9):=fb Tryz.func9 17 [kb lP7]
abbrev uT8:Type:=((List Int)×(List Int)×Int×Unit)
def UM (y:uT8)(x:AA):Prop×Bool×AA×Bool×Bool:=
 let d:=y.1
 let e:=y.2.1
 let a:=x.1
 let b:=decide (a<y.2.2.1)
 let c:=nth d a (0:Int)!=nth e a (0:Int)
 (b=true->A6 a (len d)/\A6 a (len e)/\((!c)=true->A5 (a+1)),b&&(!c),(a+1,()),b&&c,!b)
def sD3 y x:=(UM y x).1
def qI1 y x:=(UM y x).2.1
def tS2 y x:=(UM y x).2.2.1
def qU2 y x:=(UM y x).2.2.2.1
def oZ y x:=(UM y x).2.2.2.2
def rN8 (y:uT8)(x:AA):Bool:=
 false
def oZ0:=li [(0,Ak),(1,Ak),(12,vI)] [(13,vI)] qI1 tS2 sD3 (λy x=>[ex 1 (some (qU2 y x)) [(4,vB)] ((rN8 y x),()),ex 2 (some (oZ y x)) [] ()]) [[(4,vB)],[]]
def Rj (e f:List Int):Prop×Bool:=
 let b:=len e !=len f
 let a:=(e,f,len e,())
 let d:=((0:Int),())
 let c:=A3 (qI1 a) (tS2 a) d
 ((!b)=true->Am.Ends (qI1 a) (tS2 a) (sD3 a) d,cond b false (cond (qU2 a c) (rN8 a c) true))
def Rk a b:=(Rj a b).1
def aH a b:=(Rj a b).2
theorem lP8:SK 13 (BG Ak Ak vB Rk aH):=fb Tryz.func13 26 [] [(4,oZ0)]
def qI2 (y:uP)(x:Gi):Prop×Bool×Gi:=
 let g:=y.2.1
 let f:=x.1
 let a:=x.2.1
 let b:=decide (a<y.2.2.1)
 let c:=nth g a A9
 let d:=c.2.2.1==y.1
 let e:=([c.1]:List Int)
 (b=true->A6 a (len g)/\(d=true->((length f+length e:Nat):Int)<=4294967296)/\A5 (a+1),b,(cond d (f++e) f,a+1,()))
def sD5 y x:=(qI2 y x).1
def qI3 y x:=(qI2 y x).2.1
def tS3 y x:=(qI2 y x).2.2
def rO (y:uP)(x:Gi):(List Int):=
 x.1
def qU3:List (Nat×Sh):=[(5,Bg)]
def oZ1:=li [(1,vI),(9,Au),(10,vI)] [(5,Bg),(11,vI)] qI3 tS3 sD5 (λy x=>[ex 2 none qU3 ((rO y x),())]) [qU3]
def Rl (c:AS)(d:Int):Prop×(List Int):=
 let a:=(d,c.2.2.2.1,len c.2.2.2.1,())
 let b:=(([]:List Int),(0:Int),())
 (Am.Ends (qI3 a) (tS3 a) (sD5 a) b,rO a (A3 (qI3 a) (tS3 a) b))
def UN a b:=(Rl a b).1
def f14 a b:=(Rl a b).2
def nN8:=BG Ao vI Bk UN f14
theorem nZ1:SK 14 (BG Ao vI Bk UN f14):=fb Tryz.func14 26 [] [(3,oZ1)] [(13,[(4,0,23,1005)]),(17,[(4,0,1005,0)])]
def tL4 (y:uP)(x:Gi):Prop×Bool×Gi:=
 let g:=y.2.1
 let f:=x.1
 let a:=x.2.1
 let b:=decide (a<y.2.2.1)
 let c:=nth g a A9
 let d:=c.2.2.1==y.1
 let e:=([c.1]:List Int)
 (b=true->A6 a (len g)/\(d=true->((length f+length e:Nat):Int)<=4294967296)/\A5 (a+1),b,(cond d (f++e) f,a+1,()))
def uH3 y x:=(tL4 y x).1
def tS4 y x:=(tL4 y x).2.1
def uI0 y x:=(tL4 y x).2.2
def tO1 (y:uP)(x:Gi):(List Int):=
 x.1
def sU7:List (Nat×Sh):=[(5,Bg)]
def qU4:=li [(1,vI),(9,Au),(10,vI)] [(5,Bg),(11,vI)] tS4 uI0 uH3 (λy x=>[ex 2 none sU7 ((tO1 y x),())]) [sU7]
def pJ2 (c:AS)(d:Int):Prop×(List Int):=
 let a:=(d,c.2.2.2.1,len c.2.2.2.1,())
 let b:=(([]:List Int),(0:Int),())
 (Am.Ends (tS4 a) (uI0 a) (uH3 a) b,tO1 a (A3 (tS4 a) (uI0 a) b))
def aI a b:=(pJ2 a b).1
def oZ2 a b:=(pJ2 a b).2
theorem qU5:SK 14 (BG Ao vI Ak aI oZ2):=fb Tryz.func14 26 [] [(3,qU4)] [(13,[(4,0,23,1005)]),(17,[(4,0,1005,0)])]
def qI4 (y:Ye)(x:vC):Prop×Bool×vC:=
 let a:=y.1
 let d:=x.1
 let e:=x.2.1
 let b:=(nth a.2.2.2.1 d A9).2.2.1 !=0
 let c:=nth a.2.2.2.1 d A9
 (A6 d (len a.2.2.2.1)/\(b=true->A6 d (len a.2.2.2.1)/\HN a c.2.2.1/\A5 (e+1)),b,(BU a c.2.2.1,e+1,()))
def sD7 y x:=(qI4 y x).1
def qI5 y x:=(qI4 y x).2.1
def tS5 y x:=(qI4 y x).2.2
def rO0 (y:Ye)(x:vC):Int:=
 x.2.1
def oZ3:=li [(2,Ag)] [(5,vI),(6,vI)] qI5 tS5 sD7 (λy x=>[ex 2 none [(6,vI)] ((rO0 y x),())]) [[(6,vI)]]
def Rm (f:AS)(g:Int):Prop×Int:=
 let d:=BU f g
 let b:=decide (d<0)
 let c:=cond b true (f7 f !=0)
 let a:=(f,())
 let e:=(d,(1:Int),())
 (HN f g/\((!b)=true->Jl f)/\((!c)=true->Am.Ends (qI5 a) (tS5 a) (sD7 a) e),cond c (0:Int) (rO0 a (A3 (qI5 a) (tS5 a) e)))
def pO7 a b:=(Rm a b).1
def f20 a b:=(Rm a b).2
theorem lP9:SK 20 (BG Ao vI vI pO7 f20):=fb Tryz.func20 35 [kb Qv,kb PV] [(5,oZ3)]
def Rn (d:AS)(e:Int):Prop×Int:=
 let c:=e==0
 let a:=BU d e
 let b:=decide (a<0)
 ((!c)=true->HN d e/\((!b)=true->A6 a (len d.2.2.2.1)),cond c (0:Int) (cond b (9:Int) (cond ((nth d.2.2.2.1 a A9).2.1 !=1) (8:Int) (0:Int))))
def UO a b:=(Rn a b).1
def f71 a b:=(Rn a b).2
def nN9:=BG Ao vI vI UO f71
theorem nZ2:SK 71 (BG Ao vI vI UO f71):=fb Tryz.func71 20 [kb PV]
def oZ4 (a:Unit):Prop×(List Int):=
 ((!true)=true->((length ([]:List Int)+length ([]:List Int):Nat):Int)<=4294967296,cond true [] (([]:List Int)++([]:List Int)))
def qI6 a:=(oZ4 a).1
def lV0 a:=(oZ4 a).2
instance (a):Decidable (qI6 a):=by unfold qI6 oZ4;dsimp only;infer_instance
theorem nO:SK 105 (AP (.nn true) Bk qI6 lV0):=fb Tryz.func105 8 [] [] [(7,[(4,0,7,0)])]
def oZ5 (a:Unit):Prop×(List Int):=
 ((!false)=true->((length ([]:List Int)+length ([]:List Int):Nat):Int)<=4294967296,cond false [] (([]:List Int)++([]:List Int)))
def qI7 a:=(oZ5 a).1
def lV1 a:=(oZ5 a).2
instance (a):Decidable (qI7 a):=by unfold qI7 oZ5;dsimp only;infer_instance
theorem nO0:SK 105 (AP (.nn false) Bk qI7 lV1):=fb Tryz.func105 8 [] [] [(7,[(4,0,7,0)])]
def oZ6 (a:List Int):Prop×(List Int):=
 (0<length a/\((!false)=true->((length ([]:List Int)+length a:Nat):Int)<=4294967296),cond false [] (([]:List Int)++a))
def qI8 a:=(oZ6 a).1
def lV2 a:=(oZ6 a).2
instance (a):Decidable (qI8 a):=by unfold qI8 oZ6;dsimp only;infer_instance
theorem nO1:SK 105 (AP Ak Bk qI8 lV2):=fb Tryz.func105 8 [] [] [(7,[(4,0,7,0)])]
def K4 (a:List Int):List Int:=a
def Ox (a:List Int):Prop:=(length a:Int)<=4294967296
def mT7:List (Nat×Sh):=[(0,Ak)]
def oZ7:Sh:=Bk
def mT8:List (Nat×Sh):=[]
def oZ8:Am.Spec:=fnSpec mT7 oZ7 mT8 (λx=>Ox x.1) (λx=>K4 x.1) (λ_=>())
theorem oZ9:SpecOk Tryz.prog 105 oZ8:=OS (rs:=oZ7) (F:=K4) (ok:=Ox) nO nO0 nO1 (jF (by kernel_rfl)) (jF (by kernel_rfl)) (λl h hp=>⟨hp,λ_=>by simpa[Ox] using h⟩) rfl rfl (λ_=>rfl)
def nA (a:Unit):Prop×(List CE):=
 ((!true)=true->((length ([]:List CE)+length ([]:List CE):Nat):Int)<=4294967296,cond true [] (([]:List CE)++([]:List CE)))
def qI9 a:=(nA a).1
def lV3 a:=(nA a).2
instance (a):Decidable (qI9 a):=by unfold qI9 nA;dsimp only;infer_instance
theorem nO2:SK 108 (AP (.nn true) Db qI9 lV3):=fb Tryz.func108 8 [] [] [(7,[(4,0,7,0)])]
def nA0 (a:Unit):Prop×(List CE):=
 ((!false)=true->((length ([]:List CE)+length ([]:List CE):Nat):Int)<=4294967296,cond false [] (([]:List CE)++([]:List CE)))
def qJ a:=(nA0 a).1
def lV4 a:=(nA0 a).2
instance (a):Decidable (qJ a):=by unfold qJ nA0;dsimp only;infer_instance
theorem nO3:SK 108 (AP (.nn false) Db qJ lV4):=fb Tryz.func108 8 [] [] [(7,[(4,0,7,0)])]
def nA1 (a:List CE):Prop×(List CE):=
 (0<length a/\((!false)=true->((length ([]:List CE)+length a:Nat):Int)<=4294967296),cond false [] (([]:List CE)++a))
def qJ0 a:=(nA1 a).1
def lV5 a:=(nA1 a).2
instance (a):Decidable (qJ0 a):=by unfold qJ0 nA1;dsimp only;infer_instance
theorem nO4:SK 108 (AP Dy Db qJ0 lV5):=fb Tryz.func108 8 [] [] [(7,[(4,0,7,0)])]
def M3 (a:List CE):List CE:=a
def Ro (a:List CE):Prop:=(length a:Int)<=4294967296
def mT9:List (Nat×Sh):=[(0,Dy)]
def nA2:Sh:=Db
def mU:List (Nat×Sh):=[]
def nA3:Am.Spec:=fnSpec mT9 nA2 mU (λx=>Ro x.1) (λx=>M3 x.1) (λ_=>())
theorem nA4:SpecOk Tryz.prog 108 nA3:=OS (rs:=nA2) (F:=M3) (ok:=Ro) nO2 nO3 nO4 (jF (by kernel_rfl)) (jF (by kernel_rfl)) (λl h hp=>⟨hp,λ_=>by simpa[Ro] using h⟩) rfl rfl (λ_=>rfl)
def nA5 (a:Unit):Prop×(List AW):=
 ((!true)=true->((length ([]:List AW)+length ([]:List AW):Nat):Int)<=4294967296,cond true [] (([]:List AW)++([]:List AW)))
def qJ1 a:=(nA5 a).1
def lV6 a:=(nA5 a).2
instance (a):Decidable (qJ1 a):=by unfold qJ1 nA5;dsimp only;infer_instance
theorem nO5:SK 151 (AP (.nn true) Ct qJ1 lV6):=fb Tryz.func151 8 [] [] [(7,[(4,0,7,0)])]
def nA6 (a:Unit):Prop×(List AW):=
 ((!false)=true->((length ([]:List AW)+length ([]:List AW):Nat):Int)<=4294967296,cond false [] (([]:List AW)++([]:List AW)))
def qJ2 a:=(nA6 a).1
def lV7 a:=(nA6 a).2
instance (a):Decidable (qJ2 a):=by unfold qJ2 nA6;dsimp only;infer_instance
theorem nO6:SK 151 (AP (.nn false) Ct qJ2 lV7):=fb Tryz.func151 8 [] [] [(7,[(4,0,7,0)])]
def nA7 (a:List AW):Prop×(List AW):=
 (0<length a/\((!false)=true->((length ([]:List AW)+length a:Nat):Int)<=4294967296),cond false [] (([]:List AW)++a))
def qJ3 a:=(nA7 a).1
def lV8 a:=(nA7 a).2
instance (a):Decidable (qJ3 a):=by unfold qJ3 nA7;dsimp only;infer_instance
theorem nO7:SK 151 (AP An Ct qJ3 lV8):=fb Tryz.func151 8 [] [] [(7,[(4,0,7,0)])]
def Rp (a:List AW):List AW:=a
def UP (a:List AW):Prop:=(length a:Int)<=4294967296
def mU0:List (Nat×Sh):=[(0,An)]
def nA8:Sh:=Ct
def mU1:List (Nat×Sh):=[]
def nA9:Am.Spec:=fnSpec mU0 nA8 mU1 (λx=>UP x.1) (λx=>Rp x.1) (λ_=>())
theorem mU2:SpecOk Tryz.prog 151 nA9:=OS (rs:=nA8) (F:=Rp) (ok:=UP) nO5 nO6 nO7 (jF (by kernel_rfl)) (jF (by kernel_rfl)) (λl h hp=>⟨hp,λ_=>by simpa[UP] using h⟩) rfl rfl (λ_=>rfl)
def nB (a:Unit):Prop×(List A8):=
 ((!true)=true->((length ([]:List A8)+length ([]:List A8):Nat):Int)<=4294967296,cond true [] (([]:List A8)++([]:List A8)))
def qJ4 a:=(nB a).1
def lV9 a:=(nB a).2
instance (a):Decidable (qJ4 a):=by unfold qJ4 nB;dsimp only;infer_instance
theorem nO8:SK 152 (AP (.nn true) Bj qJ4 lV9):=fb Tryz.func152 8 [] [] [(7,[(4,0,7,0)])]
def nB0 (a:Unit):Prop×(List A8):=
 ((!false)=true->((length ([]:List A8)+length ([]:List A8):Nat):Int)<=4294967296,cond false [] (([]:List A8)++([]:List A8)))
def qJ5 a:=(nB0 a).1
def lW a:=(nB0 a).2
instance (a):Decidable (qJ5 a):=by unfold qJ5 nB0;dsimp only;infer_instance
theorem nO9:SK 152 (AP (.nn false) Bj qJ5 lW):=fb Tryz.func152 8 [] [] [(7,[(4,0,7,0)])]
def nB1 (a:List A8):Prop×(List A8):=
 (0<length a/\((!false)=true->((length ([]:List A8)+length a:Nat):Int)<=4294967296),cond false [] (([]:List A8)++a))
def qJ6 a:=(nB1 a).1
def lW0 a:=(nB1 a).2
instance (a):Decidable (qJ6 a):=by unfold qJ6 nB1;dsimp only;infer_instance
theorem nP:SK 152 (AP Ai Bj qJ6 lW0):=fb Tryz.func152 8 [] [] [(7,[(4,0,7,0)])]
def Rq (a:List A8):List A8:=a
def UQ (a:List A8):Prop:=(length a:Int)<=4294967296
def mU3:List (Nat×Sh):=[(0,Ai)]
def nB2:Sh:=Bj
def mU4:List (Nat×Sh):=[]
def nB3:Am.Spec:=fnSpec mU3 nB2 mU4 (λx=>UQ x.1) (λx=>Rq x.1) (λ_=>())
theorem mU5:SpecOk Tryz.prog 152 nB3:=OS (rs:=nB2) (F:=Rq) (ok:=UQ) nO8 nO9 nP (jF (by kernel_rfl)) (jF (by kernel_rfl)) (λl h hp=>⟨hp,λ_=>by simpa[UQ] using h⟩) rfl rfl (λ_=>rfl)
def nB4 (a:Unit):Prop×(List A0):=
 ((!true)=true->((length ([]:List A0)+length ([]:List A0):Nat):Int)<=4294967296,cond true [] (([]:List A0)++([]:List A0)))
def qJ7 a:=(nB4 a).1
def lW1 a:=(nB4 a).2
instance (a):Decidable (qJ7 a):=by unfold qJ7 nB4;dsimp only;infer_instance
theorem nP0:SK 153 (AP (.nn true) Bx qJ7 lW1):=fb Tryz.func153 8 [] [] [(7,[(4,0,7,0)])]
def nB5 (a:Unit):Prop×(List A0):=
 ((!false)=true->((length ([]:List A0)+length ([]:List A0):Nat):Int)<=4294967296,cond false [] (([]:List A0)++([]:List A0)))
def qJ8 a:=(nB5 a).1
def lW2 a:=(nB5 a).2
instance (a):Decidable (qJ8 a):=by unfold qJ8 nB5;dsimp only;infer_instance
theorem nP1:SK 153 (AP (.nn false) Bx qJ8 lW2):=fb Tryz.func153 8 [] [] [(7,[(4,0,7,0)])]
def nB6 (a:List A0):Prop×(List A0):=
 (0<length a/\((!false)=true->((length ([]:List A0)+length a:Nat):Int)<=4294967296),cond false [] (([]:List A0)++a))
def qJ9 a:=(nB6 a).1
def lW3 a:=(nB6 a).2
instance (a):Decidable (qJ9 a):=by unfold qJ9 nB6;dsimp only;infer_instance
theorem nP2:SK 153 (AP Bc Bx qJ9 lW3):=fb Tryz.func153 8 [] [] [(7,[(4,0,7,0)])]
def Rr (a:List A0):List A0:=a
def UR (a:List A0):Prop:=(length a:Int)<=4294967296
def mU6:List (Nat×Sh):=[(0,Bc)]
def nB7:Sh:=Bx
def mU7:List (Nat×Sh):=[]
def nB8:Am.Spec:=fnSpec mU6 nB7 mU7 (λx=>UR x.1) (λx=>Rr x.1) (λ_=>())
theorem mU8:SpecOk Tryz.prog 153 nB8:=OS (rs:=nB7) (F:=Rr) (ok:=UR) nP0 nP1 nP2 (jF (by kernel_rfl)) (jF (by kernel_rfl)) (λl h hp=>⟨hp,λ_=>by simpa[UR] using h⟩) rfl rfl (λ_=>rfl)
def mU9 (e f:AK):Prop×(AK×Int×Unit):=
 let a:=e.2.1 !=f.2.1
 let b:=((Qk f).1.1,(Qk f).1.2.1,(Qk f).1.2.2.1,Rr (Qk f).1.2.2.2.1,())
 let c:=(e.1,e.2.1,e.2.2.1,e.2.2.2.1,e.2.2.2.2.1,(Q1 e).1,(Q3 e).1,(Q0 e).1,(Q5 e).1,((Q4 e).1.1,(Q4 e).1.2.1,K4 (Q4 e).1.2.2.1,()),(Q2 e).1,(Q7 e).1,((Q6 f).1.1,(Q6 f).1.2.1,M3 (Q6 f).1.2.2.1,()),(Q9 f).1,(Qc f).1,K4 (Qa f).1,(Qe f).1,Rp (Qd f).1,Rq (Q8 f).1,(Qi f).1,(Qb f).1,(Qf f).1,(Qg f).1,(Qj f).1,(Ql f).1,(Qm f).1,(Qh f).1,b,())
 let d:=((0:Int),(0:Int),(0:Int),([]:List UInt8),false,false,false,(0:Int),(0:Int),((0:Int),(0:Int),([]:List Int),()),KU,(0:Int),((0:Int),(0:Int),([]:List CE),()),Ik,(0:Int),([]:List Int),(0:Int),([]:List AW),([]:List A8),(0:Int),(0:Int),(0:Int),(0:Int),([]:List UInt8),(0:Int),(0:Int),(0:Int),((0:Int),(0:Int),(0:Int),([]:List A0),()),())
 ((!a)=true->Ox (Q4 e).1.2.2.1/\Ro (Q6 f).1.2.2.1/\Ox (Qa f).1/\UP (Qd f).1/\UQ (Q8 f).1/\UR (Qk f).1.2.2.2.1,(cond a d c,cond a (8:Int) (0:Int),()))
def qK a b:=(mU9 a b).1
def aJ a b:=(mU9 a b).2
theorem mV:SK 109 (BG Bb Bb (.tup (.cons Bb (.cons vI .nl))) qK aJ):=fb Tryz.func109 82 [kb oZ9,kb nA4,kb mU2,kb mU5,kb mU8]
def Rs (a:AK):Prop×AK:=
 (qK a a,(aJ a a).1)
def US a:=(Rs a).1
def f73 a:=(Rs a).2
theorem nB9:SK 73 (AP Bb Bb US f73):=fb Tryz.func73 12 [kb mV]
def nC (a:Unit):Prop×(List BZ):=
 ((!true)=true->((length ([]:List BZ)+length ([]:List BZ):Nat):Int)<=4294967296,cond true [] (([]:List BZ)++([]:List BZ)))
def qK0 a:=(nC a).1
def lW4 a:=(nC a).2
instance (a):Decidable (qK0 a):=by unfold qK0 nC;dsimp only;infer_instance
theorem nP3:SK 106 (AP (.nn true) Dc qK0 lW4):=fb Tryz.func106 8 [] [] [(7,[(4,0,7,0)])]
def nC0 (a:Unit):Prop×(List BZ):=
 ((!false)=true->((length ([]:List BZ)+length ([]:List BZ):Nat):Int)<=4294967296,cond false [] (([]:List BZ)++([]:List BZ)))
def qK1 a:=(nC0 a).1
def lW5 a:=(nC0 a).2
instance (a):Decidable (qK1 a):=by unfold qK1 nC0;dsimp only;infer_instance
theorem nP4:SK 106 (AP (.nn false) Dc qK1 lW5):=fb Tryz.func106 8 [] [] [(7,[(4,0,7,0)])]
def nC1 (a:List BZ):Prop×(List BZ):=
 (0<length a/\((!false)=true->((length ([]:List BZ)+length a:Nat):Int)<=4294967296),cond false [] (([]:List BZ)++a))
def qK2 a:=(nC1 a).1
def lW6 a:=(nC1 a).2
instance (a):Decidable (qK2 a):=by unfold qK2 nC1;dsimp only;infer_instance
theorem nP5:SK 106 (AP Bn Dc qK2 lW6):=fb Tryz.func106 8 [] [] [(7,[(4,0,7,0)])]
def Rt (a:List BZ):List BZ:=a
def UT (a:List BZ):Prop:=(length a:Int)<=4294967296
def mV0:List (Nat×Sh):=[(0,Bn)]
def nC2:Sh:=Dc
def mV1:List (Nat×Sh):=[]
def nC3:Am.Spec:=fnSpec mV0 nC2 mV1 (λx=>UT x.1) (λx=>Rt x.1) (λ_=>())
theorem mV2:SpecOk Tryz.prog 106 nC3:=OS (rs:=nC2) (F:=Rt) (ok:=UT) nP3 nP4 nP5 (jF (by kernel_rfl)) (jF (by kernel_rfl)) (λl h hp=>⟨hp,λ_=>by simpa[UT] using h⟩) rfl rfl (λ_=>rfl)
end Go.Proofs.YtgjdonlgingdeaaGreatDoor.Am
