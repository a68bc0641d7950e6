/- Printed by program, part 4. No condition. -/
import Derived.Test.YtgjdonlgingdeaaGreatDoorDckP3
set_option linter.unusedVariables false
set_option synthInstance.maxSize 4000
set_option synthInstance.maxHeartbeats 400000
namespace Go.Proofs.YtgjdonlgingdeaaGreatDoor.Am
open Go Go.Am Go.Proofs
open Go.IntKind (wrap)
open _root_.Int (sub toNat)
open _root_.List (drop length set take)
open _root_.Option (getD isSome)
def oU9 (a:Unit):Prop×(List A8):=
 ((!true)->((length ([]:List A8)+length ([]:List A8):Nat):Int)<=4294967296,cond true [] (([]:List A8)++([]:List A8)))
def qI8 a:=(oU9 a).1
def kA3 a:=(oU9 a).2
instance (a):Decidable (qI8 a):=by unfold qI8 oU9;dsimp only;infer_instance
theorem nR6:SK 152 (AS (.nn true) Bk qI8 kA3):=fb Tryz.func152 8 [] [] [(7,[(4,0,7,0)])]
def oV (a:Unit):Prop×(List A8):=
 ((!false)->((length ([]:List A8)+length ([]:List A8):Nat):Int)<=4294967296,cond false [] (([]:List A8)++([]:List A8)))
def qI9 a:=(oV a).1
def kA4 a:=(oV a).2
instance (a):Decidable (qI9 a):=by unfold qI9 oV;dsimp only;infer_instance
theorem nR7:SK 152 (AS (.nn false) Bk qI9 kA4):=fb Tryz.func152 8 [] [] [(7,[(4,0,7,0)])]
def oV0 (a:List A8):Prop×(List A8):=
 (0<length a/\((!false)->((length ([]:List A8)+length a:Nat):Int)<=4294967296),cond false [] (([]:List A8)++a))
def qJ a:=(oV0 a).1
def kA5 a:=(oV0 a).2
instance (a):Decidable (qJ a):=by unfold qJ oV0;dsimp only;infer_instance
theorem nR8:SK 152 (AS Aj Bk qJ kA5):=fb Tryz.func152 8 [] [] [(7,[(4,0,7,0)])]
def QQ (a:List A8):List A8:=a
def Ux (a:List A8):Prop:=(length a:Int)<=4294967296
def mR0:List (Nat×Sh):=[(0,Aj)]
def oV1:Sh:=Bk
def mR1:List (Nat×Sh):=[]
def oV2:Am.Spec:=fnSpec mR0 oV1 mR1 (λx=>Ux x.1) (λx=>QQ x.1) (λ_=>())
theorem mR2:SpecOk Tryz.prog 152 oV2:=Pl (rs:=oV1) (F:=QQ) (ok:=Ux) nR6 nR7 nR8 (jF (by kernel_rfl)) (jF (by kernel_rfl)) (λl h hp=>⟨hp,λ_=>by simpa[Ux] using h⟩) rfl rfl (λ_=>rfl)
def oV3 (a:Unit):Prop×(List A0):=
 ((!true)->((length ([]:List A0)+length ([]:List A0):Nat):Int)<=4294967296,cond true [] (([]:List A0)++([]:List A0)))
def qJ0 a:=(oV3 a).1
def kA6 a:=(oV3 a).2
instance (a):Decidable (qJ0 a):=by unfold qJ0 oV3;dsimp only;infer_instance
theorem nR9:SK 153 (AS (.nn true) Bx qJ0 kA6):=fb Tryz.func153 8 [] [] [(7,[(4,0,7,0)])]
def oV4 (a:Unit):Prop×(List A0):=
 ((!false)->((length ([]:List A0)+length ([]:List A0):Nat):Int)<=4294967296,cond false [] (([]:List A0)++([]:List A0)))
def qJ1 a:=(oV4 a).1
def kA7 a:=(oV4 a).2
instance (a):Decidable (qJ1 a):=by unfold qJ1 oV4;dsimp only;infer_instance
theorem nS:SK 153 (AS (.nn false) Bx qJ1 kA7):=fb Tryz.func153 8 [] [] [(7,[(4,0,7,0)])]
def oV5 (a:List A0):Prop×(List A0):=
 (0<length a/\((!false)->((length ([]:List A0)+length a:Nat):Int)<=4294967296),cond false [] (([]:List A0)++a))
def qJ2 a:=(oV5 a).1
def kA8 a:=(oV5 a).2
instance (a):Decidable (qJ2 a):=by unfold qJ2 oV5;dsimp only;infer_instance
theorem nS0:SK 153 (AS Bd Bx qJ2 kA8):=fb Tryz.func153 8 [] [] [(7,[(4,0,7,0)])]
def QR (a:List A0):List A0:=a
def Uy (a:List A0):Prop:=(length a:Int)<=4294967296
def mR3:List (Nat×Sh):=[(0,Bd)]
def oV6:Sh:=Bx
def mR4:List (Nat×Sh):=[]
def oV7:Am.Spec:=fnSpec mR3 oV6 mR4 (λx=>Uy x.1) (λx=>QR x.1) (λ_=>())
theorem mR5:SpecOk Tryz.prog 153 oV7:=Pl (rs:=oV6) (F:=QR) (ok:=Uy) nR9 nS nS0 (jF (by kernel_rfl)) (jF (by kernel_rfl)) (λl h hp=>⟨hp,λ_=>by simpa[Uy] using h⟩) rfl rfl (λ_=>rfl)
def mR6 (e f:AK):Prop×(AK×Int×Unit):=
 let a:=e.2.1 !=f.2.1
 let b:=((Qk f).1.1,(Qk f).1.2.1,(Qk f).1.2.2.1,QR (Qk f).1.2.2.2.1,())
 let c:=(e.1,e.2.1,e.2.2.1,e.2.2.2.1,e.2.2.2.2.1,(Q1 e).1,(Q3 e).1,(Q0 e).1,(Q5 e).1,((Q4 e).1.1,(Q4 e).1.2.1,Kl (Q4 e).1.2.2.1,()),(Q2 e).1,(Q7 e).1,((Q6 f).1.1,(Q6 f).1.2.1,Mx (Q6 f).1.2.2.1,()),(Q9 f).1,(Qc f).1,Kl (Qa f).1,(Qe f).1,QP (Qd f).1,QQ (Q8 f).1,(Qi f).1,(Qb f).1,(Qf f).1,(Qg f).1,(Qj f).1,(Ql f).1,(Qm f).1,(Qh f).1,b,())
 let d:=((0:Int),(0:Int),(0:Int),([]:List UInt8),false,false,false,(0:Int),(0:Int),((0:Int),(0:Int),([]:List Int),()),La,(0:Int),((0:Int),(0:Int),([]:List CE),()),JK,(0:Int),([]:List Int),(0:Int),([]:List AX),([]:List A8),(0:Int),(0:Int),(0:Int),(0:Int),([]:List UInt8),(0:Int),(0:Int),(0:Int),((0:Int),(0:Int),(0:Int),([]:List A0),()),())
 (!a->Ok (Q4 e).1.2.2.1/\tT (Q6 f).1.2.2.1/\Ok (Qa f).1/\Uw (Qd f).1/\Ux (Q8 f).1/\Uy (Qk f).1.2.2.2.1,(cond a d c,cond a (8:Int) (0:Int),()))
def qJ3 a b:=(mR6 a b).1
def Yz a b:=(mR6 a b).2
theorem mR7:SK 109 (BD Bc Bc (.tup (.cons Bc (.cons vI .nl))) qJ3 Yz):=fb Tryz.func109 82 [kb oT8,kb oU3,kb mR,kb mR2,kb mR5]
def QS (a:AK):Prop×AK:=
 (qJ3 a a,(Yz a a).1)
def Uz a:=(QS a).1
def f73 a:=(QS a).2
theorem oV8:SK 73 (AS Bc Bc Uz f73):=fb Tryz.func73 12 [kb mR7]
def oV9 (a:Unit):Prop×(List C4):=
 ((!true)->((length ([]:List C4)+length ([]:List C4):Nat):Int)<=4294967296,cond true [] (([]:List C4)++([]:List C4)))
def qJ4 a:=(oV9 a).1
def kA9 a:=(oV9 a).2
instance (a):Decidable (qJ4 a):=by unfold qJ4 oV9;dsimp only;infer_instance
theorem nS1:SK 106 (AS (.nn true) Dc qJ4 kA9):=fb Tryz.func106 8 [] [] [(7,[(4,0,7,0)])]
def oW (a:Unit):Prop×(List C4):=
 ((!false)->((length ([]:List C4)+length ([]:List C4):Nat):Int)<=4294967296,cond false [] (([]:List C4)++([]:List C4)))
def qJ5 a:=(oW a).1
def kB a:=(oW a).2
instance (a):Decidable (qJ5 a):=by unfold qJ5 oW;dsimp only;infer_instance
theorem nS2:SK 106 (AS (.nn false) Dc qJ5 kB):=fb Tryz.func106 8 [] [] [(7,[(4,0,7,0)])]
def oW0 (a:List C4):Prop×(List C4):=
 (0<length a/\((!false)->((length ([]:List C4)+length a:Nat):Int)<=4294967296),cond false [] (([]:List C4)++a))
def qJ6 a:=(oW0 a).1
def kB0 a:=(oW0 a).2
instance (a):Decidable (qJ6 a):=by unfold qJ6 oW0;dsimp only;infer_instance
theorem nS3:SK 106 (AS Bn Dc qJ6 kB0):=fb Tryz.func106 8 [] [] [(7,[(4,0,7,0)])]
def QT (a:List C4):List C4:=a
def sL (a:List C4):Prop:=(length a:Int)<=4294967296
def mR8:List (Nat×Sh):=[(0,Bn)]
def oW1:Sh:=Dc
def mR9:List (Nat×Sh):=[]
def oW2:Am.Spec:=fnSpec mR8 oW1 mR9 (λx=>sL x.1) (λx=>QT x.1) (λ_=>())
theorem mS:SpecOk Tryz.prog 106 oW2:=Pl (rs:=oW1) (F:=QT) (ok:=sL) nS1 nS2 nS3 (jF (by kernel_rfl)) (jF (by kernel_rfl)) (λl h hp=>⟨hp,λ_=>by simpa[sL] using h⟩) rfl rfl (λ_=>rfl)
def oW3 (a:Unit):Prop×(List C5):=
 ((!true)->((length ([]:List C5)+length ([]:List C5):Nat):Int)<=4294967296,cond true [] (([]:List C5)++([]:List C5)))
def qJ7 a:=(oW3 a).1
def kB1 a:=(oW3 a).2
instance (a):Decidable (qJ7 a):=by unfold qJ7 oW3;dsimp only;infer_instance
theorem nS4:SK 107 (AS (.nn true) Df qJ7 kB1):=fb Tryz.func107 8 [] [] [(7,[(4,0,7,0)])] false [] [5,7]
def oW4 (a:Unit):Prop×(List C5):=
 ((!false)->((length ([]:List C5)+length ([]:List C5):Nat):Int)<=4294967296,cond false [] (([]:List C5)++([]:List C5)))
def qJ8 a:=(oW4 a).1
def kB2 a:=(oW4 a).2
instance (a):Decidable (qJ8 a):=by unfold qJ8 oW4;dsimp only;infer_instance
theorem nS5:SK 107 (AS (.nn false) Df qJ8 kB2):=fb Tryz.func107 8 [] [] [(7,[(4,0,7,0)])] false [] [5,7]
def oW5 (a:List C5):Prop×(List C5):=
 (0<length a/\((!false)->((length ([]:List C5)+length a:Nat):Int)<=4294967296),cond false [] (([]:List C5)++a))
def qJ9 a:=(oW5 a).1
def kB3 a:=(oW5 a).2
instance (a):Decidable (qJ9 a):=by unfold qJ9 oW5;dsimp only;infer_instance
theorem nS6:SK 107 (AS Bf Df qJ9 kB3):=fb Tryz.func107 8 [] [] [(7,[(4,0,7,0)])] false [] [5,7]
def QU (a:List C5):List C5:=a
def U0 (a:List C5):Prop:=(length a:Int)<=4294967296
def mS0:List (Nat×Sh):=[(0,Bf)]
def oW6:Sh:=Df
def mS1:List (Nat×Sh):=[]
def oW7:Am.Spec:=fnSpec mS0 oW6 mS1 (λx=>U0 x.1) (λx=>QU x.1) (λ_=>())
theorem mS2:SpecOk Tryz.prog 107 oW7:=Pl (rs:=oW6) (F:=QU) (ok:=U0) nS4 nS5 nS6 (jF (by kernel_rfl)) (jF (by kernel_rfl)) (λl h hp=>⟨hp,λ_=>by simpa[U0] using h⟩) rfl rfl (λ_=>rfl)
abbrev sB2:Type:=(AN×(Int×Int×Int×(List AK)×Int×(Int×Int×(List Int)×Unit)×(List C4)×(List C5)×Unit)×(List AK)×Int×Unit)
abbrev U1:Type:=((Int×Int×Int×(List AK)×Int×HG×(List C4)×(List C5)×Unit)×Int×Unit)
def qK (y:sB2)(x:U1):Vn U1:=
 let c:=y.2.2.1
 let b:=x.1
 let a:=x.2.1
 let d:Bool:=a<y.2.2.2.1
 let e:=nth c a A9
 (d->A6 a (len c)/\Uz e/\A6 a (len b.2.2.2.1)/\a<len b.2.2.2.1/\A5 (a+1),d,((b.1,b.2.1,b.2.2.1,set b.2.2.2.1 (toNat a) (f73 e),b.2.2.2.2),a+1,()))
def sB3 y x:=(qK y x).1
def qK0 y x:=(qK y x).2.1
def tT0 y x:=(qK y x).2.2
def rJ4 (y:sB2)(x:U1):(Int×Int×Int×(List AK)×Int×HG×(List C4)×(List C5)×Unit):=
 let a:=x.1
 (a.1,a.2.1,a.2.2.1,a.2.2.2.1,a.2.2.2.2.1,(Q1 a).1,(Q3 a).1,(Q0 a).1,())
def qV2:List (Nat×Sh):=[(1,An),(2,Ab),(3,Ax)]
def oW8:=li [(1,An),(2,Ab),(15,As),(16,vI)] [(3,Ax),(17,vI)] qK0 tT0 sB3 (λy x=>[ex 2 none qV2 (y.1,y.2.1,(rJ4 y x),())]) [qV2]
abbrev tC7:Type:=((Int×Int×Int×(List AK)×Int×(Int×Int×(List Int)×Unit)×(List C4)×(List C5)×Unit)×(List C5)×Int×Unit)
def rA5 (y:tC7)(x:U1):Vn U1:=
 let c:=y.2.1
 let b:=x.1
 let a:=x.2.1
 let d:Bool:=a<y.2.2.1
 let e:=nth c a FR
 let f:=((nth (Q0 b).1 a FR).1,(nth (Q0 b).1 a FR).2.1,(nth (Q0 b).1 a FR).2.2.1,(nth (Q0 b).1 a FR).2.2.2.1,((nth (Q0 b).1 a FR).2.2.2.2.1.1,(nth (Q0 b).1 a FR).2.2.2.2.1.2.1,Mx e.2.2.2.2.1.2.2.1,()),())
 (d->A6 a (len c)/\tT e.2.2.2.2.1.2.2.1/\A6 a (len (Q0 b).1)/\a<len (Q0 b).1/\A5 (a+1),d,((b.1,b.2.1,b.2.2.1,b.2.2.2.1,b.2.2.2.2.1,(Q1 b).1,(Q3 b).1,set (Q0 b).1 (toNat a) f,()),a+1,()))
def tL3 y x:=(rA5 y x).1
def rJ5 y x:=(rA5 y x).2.1
def tC8 y x:=(rA5 y x).2.2
def sT8 (y:tC7)(x:U1):(Int×Int×Int×(List AK)×Int×HG×(List C4)×(List C5)×Unit):=
 let a:=x.1
 (a.1,a.2.1,a.2.2.1,a.2.2.2.1,a.2.2.2.2.1,(Q1 a).1,(Q3 a).1,(Q0 a).1,())
def rY9:List (Nat×Sh):=[(2,Ab),(3,Aw)]
def oE3:=li [(2,Ab),(44,Bf),(45,vI)] [(3,Aw),(46,vI)] rJ5 tC8 tL3 (λy x=>[ex 4 none rY9 (y.1,(sT8 y x),())]) [rY9]
def QV (i:AN):Prop×(Int×Int×Int×(List AK)×Int×HG×(List C4)×(List C5)×Unit):=
 let d:=len i.2.2.2.1
 let e:=(i,((0:Int),(0:Int),(0:Int),([]:List AK),(0:Int),((0:Int),(0:Int),([]:List Int),()),([]:List C4),([]:List C5),()),i.2.2.2.1,len i.2.2.2.1,())
 let h:=((i.1,i.2.1,i.2.2.1,List.replicate (toNat d) A9,i.2.2.2.2),(0:Int),())
 let b:=rJ4 e (A3 (qK0 e) (tT0 e) h)
 let g:=(b.1,b.2.1,b.2.2.1,b.2.2.2.1,b.2.2.2.2.1,((Q1 b).1.1,(Q1 b).1.2.1,Kl (Q1 i).1.2.2.1,()),QT (Q3 i).1,QU (Q0 i).1,())
 let c:=(((0:Int),(0:Int),(0:Int),([]:List AK),(0:Int),((0:Int),(0:Int),([]:List Int),()),([]:List C4),([]:List C5),()),(Q0 i).1,len (Q0 i).1,())
 let f:=(g,(0:Int),())
 let a:=sT8 c (A3 (rJ5 c) (tC8 c) f)
 ((0<=d/\d<=d/\d<=4294967296)/\AA (qK0 e) (tT0 e) (sB3 e) h/\Ok (Q1 i).1.2.2.1/\sL (Q3 i).1/\U0 (Q0 i).1/\AA (rJ5 c) (tC8 c) (tL3 c) f,(a.1,a.2.1,a.2.2.1,a.2.2.2.1,a.2.2.2.2.1,(Q1 a).1,(Q3 a).1,(Q0 a).1,()))
def QW a:=(QV a).1
def Y0 a:=(QV a).2
def nS7:=AS Ag (.agg (.cons Aa (.cons Aa (.cons Aa (.cons Ct (.cons Aa (.cons JJ (.cons Cu (.cons Cv .nl)))))))) (.cons vI (.cons vI (.cons vI (.cons Cn (.cons vI (.cons Ch (.cons Bn (.cons Dv .nl))))))))) QW Y0
theorem oW9:SK 72 (AS Ag (.agg (.cons Aa (.cons Aa (.cons Aa (.cons Ct (.cons Aa (.cons JJ (.cons Cu (.cons Cv .nl)))))))) (.cons vI (.cons vI (.cons vI (.cons Cn (.cons vI (.cons Ch (.cons Bn (.cons Dv .nl))))))))) QW Y0):=fb Tryz.func72 63 [kb oV8,kb oT8,kb mS,kb mS2,kb oU3] [(4,oW8),(12,oE3)] [(5,[(4,0,12,400300)]),(19,[(4,0,37,400302)]),(21,[(4,0,41,400303)]),(33,[(4,0,400300,0),(4,0,400302,2),(4,0,400303,3)])] false [] [12]
def f74 (a:List AK)(b:Int)(c:List AK):List AK:=take (toNat b) a++(c++drop (toNat b) a)
def rZ (a:List AK)(b:Int)(c:List AK):Prop:=0<=b/\b<=(length a:Int)/\0<length c/\((length a+length c:Nat):Int)<=4294967296
def lN:List (Nat×Sh):=[(0,(.own Ff 400000 true)),(1,Dx),(2,(.own Ff 400200 true))]
def lN0:Sh:=Cn
def lN1:List (Nat×Sh):=[]
def pQ7:Am.Spec:=fnSpec lN lN0 lN1 (λx=>rZ x.1 x.2.1 x.2.2.1) (λx=>f74 x.1 x.2.1 x.2.2.1) (λ_=>())
theorem oX:SpecOk Tryz.prog 74 pQ7:=nO3 rfl ⟨_,Tryz.func74,by kernel_rfl,by decide⟩ lI1
abbrev QX:Type:=((List Int)×(List (Int×Bool×Unit))×Int×Unit)
def qK1 (y:sB)(x:QX):Vn QX:=
 let d:=y.2.1
 let g:=x.1
 let h:=x.2.1
 let a:=x.2.2.1
 let e:Bool:=a<y.2.2.1
 let b:=nth d a A9
 let c:=cond (b.2.2.1==y.1) true (getD (Es Aa .bool b.2.2.1 h) false)
 let f:=([b.1]:List Int)
 (e->A6 a (len d)/\(c->((length g+length f:Nat):Int)<=4294967296)/\A5 (a+1),e,(cond c (g++f) g,cond c (G7 Aa .bool b.1 true h) h,a+1,()))
def sB5 y x:=(qK1 y x).1
def qK2 y x:=(qK1 y x).2.1
def tT1 y x:=(qK1 y x).2.2
def rJ7 (y:sB)(x:QX):(List Int):=
 x.1
def qV3:List (Nat×Sh):=[(5,Ao)]
def oX0:=li [(1,vI),(11,As),(12,vI)] [(5,Ao),(6,Dw),(13,vI)] qK2 tT1 sB5 (λy x=>[ex 2 none qV3 ((rJ7 y x),())]) [qV3]
def QY (c:AN)(d:Int):Prop×(List Int):=
 let a:=(d,c.2.2.2.1,len c.2.2.2.1,())
 let b:=(([]:List Int),([]:List (Int×Bool×Unit)),(0:Int),())
 (AA (qK2 a) (tT1 a) (sB5 a) b,rJ7 a (A3 (qK2 a) (tT1 a) b))
def QZ a b:=(QY a b).1
def Y1 a b:=(QY a b).2
def nS8:=BD Ag vI Bh QZ Y1
theorem oX1:SK 16 (BD Ag vI Bh QZ Y1):=fx (λc=>{ c with maps:=maps }) Tryz.func16 37 [] [(4,oX0)] [(5,[(4,0,9,1006)]),(17,[(4,0,34,1005)]),(21,[(4,0,1005,0)])]
def sL1 (y:sB)(x:QX):Vn QX:=
 let d:=y.2.1
 let g:=x.1
 let h:=x.2.1
 let a:=x.2.2.1
 let e:Bool:=a<y.2.2.1
 let b:=nth d a A9
 let c:=cond (b.2.2.1==y.1) true (getD (Es Aa .bool b.2.2.1 h) false)
 let f:=([b.1]:List Int)
 (e->A6 a (len d)/\(c->((length g+length f:Nat):Int)<=4294967296)/\A5 (a+1),e,(cond c (g++f) g,cond c (G7 Aa .bool b.1 true h) h,a+1,()))
def tC9 y x:=(sL1 y x).1
def U4 y x:=(sL1 y x).2.1
def Ra y x:=(sL1 y x).2.2
def tP9 (y:sB)(x:QX):(List Int):=
 x.1
def sT9:List (Nat×Sh):=[(5,Ao)]
def qV4:=li [(1,vI),(11,As),(12,vI)] [(5,Ao),(6,Dw),(13,vI)] U4 Ra tC9 (λy x=>[ex 2 none sT9 ((tP9 y x),())]) [sT9]
def oX2 (c:AN)(d:Int):Prop×(List Int):=
 let a:=(d,c.2.2.2.1,len c.2.2.2.1,())
 let b:=(([]:List Int),([]:List (Int×Bool×Unit)),(0:Int),())
 (AA (U4 a) (Ra a) (tC9 a) b,tP9 a (A3 (U4 a) (Ra a) b))
def sB6 a b:=(oX2 a b).1
def sU a b:=(oX2 a b).2
def pH3:=BD Ag vI Ah sB6 sU
theorem oX3:SK 16 (BD Ag vI Ah sB6 sU):=fx (λc=>{ c with maps:=maps }) Tryz.func16 37 [] [(4,qV4)] [(5,[(4,0,9,1006)]),(17,[(4,0,34,1005)]),(21,[(4,0,1005,0)])]
def Rb (h:AN)(i j:Int):Prop×Int:=
 let a:=f14 h i
 let b:Bool:=j<len a
 let c:=nth a j (0:Int)
 let d:=i==0
 let e:=BM h i
 let f:=e+1
 let g:=len (Y1 h i)
 (Uu h i/\(b->A6 j (len a)/\Ho h c)/\(!b->!d->Ho h i/\A5 (e+1)/\QZ h i/\A5 (f+g)),cond b (BM h c) (cond d (len h.2.2.2.1) (f+g)))
def U5 a b c:=(Rb a b c).1
def f75 a b c:=(Rb a b c).2
def nS9:=DR Ag vI vI vI U5 f75
theorem mC6:SK 75 (DR Ag vI vI vI U5 f75):=fb Tryz.func75 35 [kb Oi,kb mC3,kb oX1] [] [(3,[(4,0,10,1007)])]
def Rd (c:AN):Prop×(AN×Int×Unit):=
 let a:=f7 c
 let b:=a !=0
 (Kj c,(cond b ((0:Int),(0:Int),(0:Int),([]:List AK),(0:Int),((0:Int),(0:Int),([]:List Int),()),([]:List C4),([]:List C5),()) c,cond b a (0:Int),()))
def U6 a:=(Rd a).1
def f76 a:=(Rd a).2
def nT:=AS Ag (.tup (.cons Ag (.cons vI .nl))) U6 f76
theorem mC7:SK 76 (AS Ag (.tup (.cons Ag (.cons vI .nl))) U6 f76):=fb Tryz.func76 12 [kb Uq]
def Re (p:AN)(s:AK)(t u:Int):Prop×(AN×Int×Int×Unit):=
 let k:=f7 p
 let b:=k !=0
 let l:=f71 p t
 let c:=l !=0
 let m:Bool:=u<0
 let d:=cond m true (u>len (Lq p t))
 let e:=cond (len p.2.2.2.1≥64) true (p.2.2.2.2.1==1073741824)
 let a:=Y0 p
 let n:=f73 s
 let r:=(p.2.2.2.2.1,n.2.1,t,n.2.2.2)
 let o:=f75 p t u
 let q:=([r]:List AK)
 let j:=(a.1,a.2.1,a.2.2.1,f74 a.2.2.2.1 o q,a.2.2.2.2.1+1,(Q1 a))
 let f:=f76 j
 let g:=f.2.1 !=0
 let h:=cond e ((0:Int),(0:Int),(0:Int),([]:List AK),(0:Int),((0:Int),(0:Int),([]:List Int),()),([]:List C4),([]:List C5),()) (cond g ((0:Int),(0:Int),(0:Int),([]:List AK),(0:Int),((0:Int),(0:Int),([]:List Int),()),([]:List C4),([]:List C5),()) f.1)
 let i:=cond c ((0:Int),(0:Int),(0:Int),([]:List AK),(0:Int),((0:Int),(0:Int),([]:List Int),()),([]:List C4),([]:List C5),()) (cond d ((0:Int),(0:Int),(0:Int),([]:List AK),(0:Int),((0:Int),(0:Int),([]:List Int),()),([]:List C4),([]:List C5),()) h)
 (Kj p/\(!b->Uv p t/\(!c->(!m->Oj p t)/\(!d->!e->QW p/\Uz s/\U5 p t u/\rZ a.2.2.2.1 o q/\A5 (a.2.2.2.2.1+1)/\U6 j))),(cond b ((0:Int),(0:Int),(0:Int),([]:List AK),(0:Int),((0:Int),(0:Int),([]:List Int),()),([]:List C4),([]:List C5),()) i,cond b (0:Int) (cond c (0:Int) (cond d (0:Int) (cond e (0:Int) (cond g (0:Int) p.2.2.2.2.1)))),cond b k (cond c l (cond d (2:Int) (cond e (3:Int) (cond g f.2.1 (0:Int))))),()))
def Rf a b c d:=(Re a b c d).1
def Y2 a b c d:=(Re a b c d).2
theorem lN2:SK 39 (Gi Ag Bc vI vI (.tup (.cons Ag (.cons vI (.cons vI .nl)))) Rf Y2):=fx (λc=>{ c with wants:=[(74,[0,2])] }) Tryz.func39 84 [kb Uq,kb rJ1,kb mC5,kb oW9,kb oV8,kb oX,kb mC6,kb mC7] [] [(23,[(4,0,50,401300),(4,0,300050,401303)]),(31,[(4,0,66,401300)]),(34,[(1,13,3,0),(1,13,7,0)])] false [] [65]
abbrev Y3:Type:=((List AK)×Int×Unit)
def qK3 (y:Y3)(x:Ed):Vn Ed:=
 let e:=y.1
 let d:=x.1
 let a:=x.2.1
 let b:Bool:=a<y.2.1
 let c:=([(nth e a A9).1]:List Int)
 (b->A6 a (len e)/\((length d+length c:Nat):Int)<=4294967296/\A5 (a+1),b,(d++c,a+1,()))
def sB8 y x:=(qK3 y x).1
def qK4 y x:=(qK3 y x).2.1
def tT2 y x:=(qK3 y x).2.2
def rK (y:Y3)(x:Ed):(List Int):=
 x.1
def qV5:List (Nat×Sh):=[(3,(.own Aa 1003 false))]
def oX4:=li [(7,As),(8,vI)] [(3,(.own Aa 1003 false)),(9,vI)] qK4 tT2 sB8 (λy x=>[ex 2 none qV5 ((rK y x),())]) [qV5]
def Rh (c:AN):Prop×(List Int):=
 let a:=(c.2.2.2.1,len c.2.2.2.1,())
 let b:=(([]:List Int),(0:Int),())
 (AA (qK4 a) (tT2 a) (sB8 a) b,rK a (A3 (qK4 a) (tT2 a) b))
def U7 a:=(Rh a).1
def f40 a:=(Rh a).2
theorem lN3:SK 40 (AS Ag Bh U7 f40):=fb Tryz.func40 20 [] [(3,oX4)] [(11,[(4,0,17,1003)]),(15,[(4,0,1003,0)])]
abbrev U8:Type:=((List Int)×Int×Int×Unit)
def U9 (y:U8)(x:AF):Vm AF:=
 let d:=y.1
 let b:=x.1
 let c:Bool:=b<y.2.2.1
 let a:=y.2.1==nth d b (0:Int)
 (c->A6 b (len d)/\(!a->A5 (b+1)),c&&(!a),(b+1,()),c&&a,!c)
def tL5 y x:=(U9 y x).1
def rK0 y x:=(U9 y x).2.1
def tD y x:=(U9 y x).2.2.1
def rZ3 y x:=(U9 y x).2.2.2.1
def oE4 y x:=(U9 y x).2.2.2.2
def sU0 (y:U8)(x:AF):Int:=
 x.1
def oE5:=li [(0,Ah),(1,vI),(7,vI)] [(8,vI)] rK0 tD tL5 (λy x=>[ex 1 (some (rZ3 y x)) [(4,vI)] ((sU0 y x),()),ex 2 (some (oE4 y x)) [] ()]) [[(4,vI)],[]]
def mS3 (d:List Int)(e:Int):Prop×Int:=
 let a:=(d,e,len d,())
 let c:=((0:Int),())
 let b:=A3 (rK0 a) (tD a) c
 (AA (rK0 a) (tD a) (tL5 a) c,cond (rZ3 a b) (sU0 a b) (-1:Int))
def qK5 a b:=(mS3 a b).1
def Y4 a b:=(mS3 a b).2
theorem mS4:SK 112 (BD Ah vI vI qK5 Y4):=fb Tryz.func112 19 [] [(2,oE5)]
def Ri (a:List Int)(b:Int):Prop×Bool:=
 (qK5 a b,decide (Y4 a b≥0))
def Y5 a b:=(Ri a b).1
def f77 a b:=(Ri a b).2
def nT0:=BD Ah vI vB Y5 f77
theorem lN4:SK 77 (BD Ah vI vB Y5 f77):=fb Tryz.func77 9 [kb mS4]
def f79 (a:List AK)(b c:Int):List AK:=take (toNat b) a++drop (toNat c) a
def pQ8 (a:List AK)(b c:Int):Prop:=0<=b/\b<c/\c<=(length a:Int)
def lN5:List (Nat×Sh):=[(0,(.own Ff 400000 true)),(1,Dx),(2,Dx)]
def lN6:Sh:=Cn
def lN7:List (Nat×Sh):=[]
def pQ9:Am.Spec:=fnSpec lN5 lN6 lN7 (λx=>pQ8 x.1 x.2.1 x.2.2.1) (λx=>f79 x.1 x.2.1 x.2.2.1) (λ_=>())
theorem lN8:SpecOk Tryz.prog 79 pQ9:=nO4 rfl ⟨_,Tryz.func79,by kernel_rfl,by decide⟩ lI0
def Rj (p:AN)(D E F:Int):Prop×(AN×Int×Unit):=
 let t:=f7 p
 let g:=t !=0
 let b:=BM p D
 let h:Bool:=b<0
 let u:=f71 p E
 let i:=u !=0
 let j:=Y1 p D
 let v:=E==D
 let k:=cond v true (f77 j E)
 let a:=Y0 p
 let w:=b+1
 let z:=len j
 let e:=w+z
 let c:=drop (toNat b) (take (toNat e) a.2.2.2.1)
 let s:=((nth c (0:Int) A9).1,(nth c (0:Int) A9).2.1,E,(nth c (0:Int) A9).2.2.2)
 let d:=set c (toNat (0:Int)) s
 let f:=f79 a.2.2.2.1 b e
 let A:Bool:=F<0
 let o:=(a.1,a.2.1,a.2.2.1,f,a.2.2.2.2)
 let l:=cond A true (F>len (f14 o E))
 let q:=(a.1,a.2.1,a.2.2.1,f,a.2.2.2.2)
 let B:=f75 q E F
 let r:=(a.1,a.2.1,a.2.2.1,f74 f B d,a.2.2.2.2)
 let C:=f76 r
 let m:=cond k ((0:Int),(0:Int),(0:Int),([]:List AK),(0:Int),((0:Int),(0:Int),([]:List Int),()),([]:List C4),([]:List C5),()) (cond l ((0:Int),(0:Int),(0:Int),([]:List AK),(0:Int),((0:Int),(0:Int),([]:List Int),()),([]:List C4),([]:List C5),()) C.1)
 let n:=cond h ((0:Int),(0:Int),(0:Int),([]:List AK),(0:Int),((0:Int),(0:Int),([]:List Int),()),([]:List C4),([]:List C5),()) (cond i ((0:Int),(0:Int),(0:Int),([]:List AK),(0:Int),((0:Int),(0:Int),([]:List Int),()),([]:List C4),([]:List C5),()) m)
 (Kj p/\(!g->Ho p D/\(!h->Uv p E/\(!i->QZ p D/\(!v->Y5 j E)/\(!k->QW p/\A5 (b+1)/\A5 (w+z)/\(0<=b/\b<=e/\e<=len a.2.2.2.1)/\(0<length c/\(length c:Int)<=4294967296)/\A6 (0:Int) (len c)/\(0:Int)<len c/\pQ8 a.2.2.2.1 b e/\((!A)->Uu o E)/\(!l->U5 q E F/\rZ f B d/\U6 r))))),(cond g ((0:Int),(0:Int),(0:Int),([]:List AK),(0:Int),((0:Int),(0:Int),([]:List Int),()),([]:List C4),([]:List C5),()) n,cond g t (cond h (9:Int) (cond i u (cond k (11:Int) (cond l (2:Int) C.2.1)))),()))
def Y7 a b c d:=(Rj a b c d).1
def f41 a b c d:=(Rj a b c d).2
def nT1:=Gi Ag vI vI vI (.tup (.cons Ag (.cons vI .nl))) Y7 f41
def mS5:Ctx:={ Cx tys [(7,mQ3),(11,pQ4),(14,nQ5),(16,nS8),(71,nQ7),(72,nS7),(74,pQ7),(75,nS9),(76,nT),(77,nT0),(79,pQ9)] [] [(21,[(4,0,38,1013)]),(27,[(4,0,49,401400),(4,0,300049,401403)]),(31,[(4,0,60,1016)]),(35,[(4,0,69,401400)]),(41,[(4,0,89,401400)]),(42,[(1,14,3,0),(1,14,7,0)])] false 95 [] [] with wants:=[(74,[0,2]),(79,[0])],clones:=[(78,43)] }
theorem mS6:CtxOk Tryz.prog mS5:=xZ9 Pn rfl ⟨Uq,Oi,mC3,oX1,mC5,oW9,oX,mC6,mC7,lN4,lN8,trivial⟩ rfl (by kernel_rfl) rfl nP
theorem lN9:SK 41 nT1:=fl mS6 Tryz.func41 (bs:=[]) trivial
abbrev tD0:Type:=(AN×(Int×Int×Int×(List AK)×Int×(Int×Int×(List Int)×Unit)×(List C4)×(List C5)×Unit)×Int×Int×Int×Unit)
abbrev uA7:Type:=((List (Int×Int×Unit))×Int×Unit)
def rA6 (y:tD0)(x:uA7):Vn uA7:=
 let d:=y.1
 let e:=y.2.2.1
 let a:=x.2.1
 let b:Bool:=a<y.2.2.2.2.1
 let c:=e+a
 (b->A5 (e+a)/\A6 c (len d.2.2.2.1)/\A5 (d.2.2.2.2.1+a)/\A5 (a+1),b,(G7 Aa Aa (nth d.2.2.2.1 c A9).1 (d.2.2.2.2.1+a) x.1,a+1,()))
def tL6 y x:=(rA6 y x).1
def rK1 y x:=(rA6 y x).2.1
def tD1 y x:=(rA6 y x).2.2
def sU1 (y:tD0)(x:uA7):(List (Int×Int×Unit)):=
 x.1
def rZ4:List (Nat×Sh):=[(2,An),(4,Ab),(8,vI),(9,vI),(10,Cr)]
def oE6:=li [(2,An),(4,Ab),(8,vI),(9,vI),(52,vI)] [(10,Cr),(53,vI)] rK1 tD1 tL6 (λy x=>[ex 2 none rZ4 (y.1,y.2.1,y.2.2.1,y.2.2.2.1,(sU1 y x),())]) [rZ4]
abbrev tD2:Type:=(AN×(Int×Int×Int×(List AK)×Int×(Int×Int×(List Int)×Unit)×(List C4)×(List C5)×Unit)×Int×Int×(List (Int×Int×Unit))×Int×Unit)
def rA7 (y:tD2)(x:Y3):Vn Y3:=
 let m:=y.1
 let n:=y.2.2.1
 let d:=y.2.2.2.2.1
 let e:=x.1
 let b:=x.2.1
 let g:Bool:=b<(Q1 y).1
 let h:=n+b
 let i:=nth m.2.2.2.1 h A9
 let c:=f73 i
 let j:=getD (Es Aa Aa c.1 d) (0:Int)
 let s:=(j,c.2)
 let k:=(j,c.2.1,getD (Es Aa Aa c.2.2.1 d) (0:Int),c.2.2.2)
 let a:=cond (isSome (Es Aa Aa c.2.2.1 d)) k s
 let l:=(Vf a (getD (Es Aa Aa (Qh a).1 d) (0:Int)) ((Qk a).1,()))
 let f:=set e (toNat b) (cond (cond (isSome (Es Aa Aa (Qh a).1 d)) (a.2.1==10) false) l a)
 (g->A5 (n+b)/\A6 h (len m.2.2.2.1)/\Uz i/\A6 b (len e)/\b<len e/\A5 (b+1),g,(f,b+1,()))
def tL7 y x:=(rA7 y x).1
def rK2 y x:=(rA7 y x).2.1
def tD3 y x:=(rA7 y x).2.2
def sU2 (y:tD2)(x:Y3):(List AK):=
 x.1
def rZ5:List (Nat×Sh):=[(2,An),(4,Ab),(8,vI),(9,vI),(12,(.own Ff 1012 true))]
def oE7:=li [(2,An),(4,Ab),(8,vI),(9,vI),(10,Cr),(73,vI)] [(12,(.own Ff 1012 true)),(74,vI)] rK2 tD3 tL7 (λy x=>[ex 4 none rZ5 (y.1,y.2.1,y.2.2.1,y.2.2.2.1,(sU2 y x),())]) [rZ5]
def Rk (p:AN)(u:Int):Prop×((Int×Int×Int×(List AK)×Int×HG×(List C4)×(List C5)×Unit)×Int×Int×Unit):=
 let l:=f7 p
 let c:=l !=0
 let i:=BM p u
 let d:Bool:=i<0
 let m:=len (Y1 p u)
 let a:=1+m
 let n:=len p.2.2.2.1
 let o:Bool:=(n+a)>64
 let e:=cond o true ((p.2.2.2.2.1+a)>1073741824)
 let g:=(p,((0:Int),(0:Int),(0:Int),([]:List AK),(0:Int),((0:Int),(0:Int),([]:List Int),()),([]:List C4),([]:List C5),()),i,a,a,())
 let r:=(([]:List (Int×Int×Unit)),(0:Int),())
 let q:=List.replicate (toNat a) A9
 let h:=(p,((0:Int),(0:Int),(0:Int),([]:List AK),(0:Int),((0:Int),(0:Int),([]:List Int),()),([]:List C4),([]:List C5),()),i,a,sU1 g (A3 (rK1 g) (tD1 g) r),len q,())
 let s:=(q,(0:Int),())
 let f:=sU2 h (A3 (rK2 h) (tD3 h) s)
 let b:=Y0 p
 let j:=i+a
 let k:=cond c ((0:Int),(0:Int),([]:List Int),()) (cond d ((0:Int),(0:Int),([]:List Int),()) (cond e ((0:Int),(0:Int),([]:List Int),()) (Q1 b).1))
 let t:=(cond c (0:Int) (cond d (0:Int) (cond e (0:Int) b.1)),cond c (0:Int) (cond d (0:Int) (cond e (0:Int) b.2.1)),cond c (0:Int) (cond d (0:Int) (cond e (0:Int) b.2.2.1)),cond c [] (cond d [] (cond e [] (f74 b.2.2.2.1 j f))),cond c (0:Int) (cond d (0:Int) (cond e (0:Int) (b.2.2.2.2.1+a))),k,cond c [] (cond d [] (cond e [] (Q3 b).1)),cond c [] (cond d [] (cond e [] (Q0 b).1)),())
 (Kj p/\(!c->Ho p u/\(!d->QZ p u/\A5 (1+m)/\A5 (n+a)/\(!o->A5 (p.2.2.2.2.1+a))/\(!e->AA (rK1 g) (tD1 g) (tL6 g) r/\(0<=a/\a<=a/\a<=4294967296)/\AA (rK2 h) (tD3 h) (tL7 h) s/\QW p/\A5 (i+a)/\rZ b.2.2.2.1 j f/\A5 (b.2.2.2.2.1+a)))),(t,cond c (0:Int) (cond d (0:Int) (cond e (0:Int) p.2.2.2.2.1)),cond c l (cond d (9:Int) (cond e (3:Int) (0:Int))),()))
def pR a b:=(Rk a b).1
def f42 a b:=(Rk a b).2
theorem lO:SK 42 (BD Ag vI (.tup (.cons (.agg (.cons Aa (.cons Aa (.cons Aa (.cons Ct (.cons Aa (.cons JJ (.cons Cu (.cons Cv .nl)))))))) (.cons vI (.cons vI (.cons vI (.cons Cn (.cons vI (.cons Ch (.cons Bn (.cons Dv .nl))))))))) (.cons vI (.cons vI .nl)))) pR f42):=fx (λc=>{ c with wants:=[(74,[0,2])],maps:=maps }) Tryz.func42 138 [kb Uq,kb Oi,kb oX1,kb oW9,kb oV8,kb oX] [(12,oE6),(18,oE7)] [(21,[(4,0,51,1010)]),(33,[(4,0,71,1012)]),(61,[(4,0,121,401900),(4,0,300121,401903)]),(63,[(4,0,128,401900)]),(67,[(4,0,401900,0),(4,0,401903,3)])] false [] [71]
def Rl :Prop×Bool:=
 let s:=((5:Int),(0:Int),(0:Int),(9:Int),())
 let c:=f5 (4:Int) (4:Int) (0:Int)
 let C:=cond (cond (cond (c.2.1 !=0) true (c.1.1 !=4)) true (c.1.2.1 !=4)) true (c.1.2.2.2.2.1 !=1)
 let A:=((0:Int),(1:Int),(0:Int),([103]:List UInt8),false,false,false,(65535:Int),(0:Int),((0:Int),(0:Int),([]:List Int),()),La,(0:Int),((0:Int),(0:Int),([]:List CE),()),JK,(0:Int),([]:List Int),(0:Int),([]:List AX),([]:List A8),(0:Int),(0:Int),(0:Int),(0:Int),([]:List UInt8),(0:Int),(0:Int),(0:Int),((0:Int),(0:Int),(0:Int),([]:List A0),()),())
 let h:=Y2 c.1 A (0:Int) (0:Int)
 let E:=cond (h.2.2.1 !=0) true (h.2.1 !=1)
 let B:=((0:Int),(3:Int),(0:Int),([102]:List UInt8),false,false,false,(65535:Int),(0:Int),((0:Int),(0:Int),([]:List Int),()),La,(0:Int),((0:Int),(0:Int),([]:List CE),()),s,(0:Int),([]:List Int),(0:Int),([]:List AX),([]:List A8),(0:Int),(0:Int),(0:Int),(0:Int),([]:List UInt8),(0:Int),(0:Int),(0:Int),((0:Int),(0:Int),(0:Int),([]:List A0),()),())
 let i:=Y2 h.1 B (1:Int) (0:Int)
 let F:=cond (i.2.2.1 !=0) true (i.2.1 !=2)
 let j:=((0:Int),(3:Int),(0:Int),([102]:List UInt8),false,false,false,(65535:Int),(0:Int),((0:Int),(0:Int),([]:List Int),()),La,(0:Int),((0:Int),(0:Int),([]:List CE),()),s,(0:Int),([]:List Int),(0:Int),([]:List AX),([]:List A8),(0:Int),(0:Int),(0:Int),(0:Int),([]:List UInt8),(0:Int),(0:Int),(0:Int),((0:Int),(0:Int),(0:Int),([]:List A0),()),())
 let b:=Y2 i.1 j (0:Int) (0:Int)
 let v:=cond (b.2.2.1 !=0) true (b.2.1 !=3)
 let H:=f40 b.1
 let J:=([(3:Int),(1:Int),(2:Int)]:List Int)
 let w:=cond v true (!(HQ H J))
 let K:=Lq b.1 (0:Int)
 let L:=([(3:Int),(1:Int)]:List Int)
 let M:=cond w true (!(HQ K L))
 let N:=cond M true (QN b.1 (2:Int)!=2)
 let O:=cond N true (f7 b.1!=0)
 let d:=f41 b.1 (3:Int) (1:Int) (1:Int)
 let e:=d.2.1 !=0
 let m:=f40 d.1
 let n:=([(1:Int),(2:Int),(3:Int)]:List Int)
 let o:=cond e true (!(HQ m n))
 let q:=(f41 b.1 (1:Int) (1:Int) (0:Int)).2.1 !=11
 let k:=((0:Int),(3:Int),(0:Int),([102]:List UInt8),false,false,true,(65535:Int),(0:Int),((0:Int),(0:Int),([]:List Int),()),La,(0:Int),((0:Int),(0:Int),([]:List CE),()),s,(0:Int),([]:List Int),(0:Int),([]:List AX),([]:List A8),(0:Int),(0:Int),(0:Int),(0:Int),([]:List UInt8),(0:Int),(0:Int),(0:Int),((0:Int),(0:Int),(0:Int),([]:List A0),()),())
 let r:=(Y2 b.1 k (0:Int) (0:Int)).2.2.1 !=14
 let a:=f42 b.1 (1:Int)
 let f:=cond (a.2.2.1==0) (a.2.1==4) false
 let l:=(a.1.1,a.1.2.1,a.1.2.2.1,a.1.2.2.2.1,a.1.2.2.2.2.1,(Q1 a.1).1,(Q3 a.1).1,(Q0 a.1).1,())
 let t:=f40 l
 let u:=([(3:Int),(1:Int),(2:Int),(4:Int),(5:Int)]:List Int)
 let g:=cond (cond f (HQ t u) false) (a.1.2.2.2.2.1==6) false
 let z:=cond F false (cond O false (cond o false (cond q false (cond r false (cond g ((nth a.1.2.2.2.1 (4:Int) A9).2.2.1==4) false)))))
 (jX (4:Int) (4:Int) (0:Int)/\((!C)->Rf c.1 A (0:Int) (0:Int)/\((!E)->Rf h.1 B (1:Int) (0:Int)/\((!F)->Rf i.1 j (0:Int) (0:Int)/\(!v->U7 b.1)/\(!v->Jo H J)/\(!w->Oj b.1 (0:Int))/\(!w->Jo K L)/\((!M)->QM b.1 (2:Int))/\((!N)->Kj b.1)/\((!O)->Y7 b.1 (3:Int) (1:Int) (1:Int)/\(!e->U7 d.1)/\(!e->Jo m n)/\(!o->Y7 b.1 (1:Int) (1:Int) (0:Int)/\(!q->Rf b.1 k (0:Int) (0:Int)/\(!r->pR b.1 (1:Int)/\(f->U7 l)/\(f->Jo t u)/\(g->A6 (4:Int) (len a.1.2.2.2.1))/\(g->(4:Int)<len a.1.2.2.2.1)))))))),cond C false (cond E false z))
def UA :Prop:=(Rl).1
def Y8 :Bool:=(Rl).2
def nT2:Am.Spec:=fnSpec [] vB [] (λx=>UA ) (λx=>Y8 ) (λ_=>())
theorem lO0:SK 10 (fnSpec [] vB [] (λx=>UA ) (λx=>Y8 ) (λ_=>())):=fb Tryz.func10 160 [kb lZ4,kb Uq,kb mC2,kb rJ1,kb mC4,kb lN2,kb lN3,kb lN9,kb lO] [] [(51,[(4,0,131,400900),(4,0,300131,400903)])]
def Y9 (y:sB)(x:AF):Vm AF:=
 let d:=y.2.1
 let a:=x.1
 let b:Bool:=a<y.2.2.1
 let c:=(nth d a A9).1==y.1
 (b->A6 a (len d)/\(!c->A5 (a+1)),b&&(!c),(a+1,()),b&&c,!b)
def qV8 y x:=(Y9 y x).1
def qK6 y x:=(Y9 y x).2.1
def tT3 y x:=(Y9 y x).2.2.1
def qV9 y x:=(Y9 y x).2.2.2.1
def oX5 y x:=(Y9 y x).2.2.2.2
def rK4 (y:sB)(x:AF):Int:=
 x.1
def oX6:=li [(1,vI),(8,As),(9,vI)] [(10,vI)] qK6 tT3 qV8 (λy x=>[ex 1 (some (qV9 y x)) [(4,vI)] ((rK4 y x),()),ex 2 (some (oX5 y x)) [] ()]) [[(4,vI)],[]]
def YA (d:AN)(e:Int):Prop×Int:=
 let a:=(e,d.2.2.2.1,len d.2.2.2.1,())
 let c:=((0:Int),())
 let b:=A3 (qK6 a) (tT3 a) c
 (AA (qK6 a) (tT3 a) (qV8 a) c,cond (qV9 a b) (rK4 a b) (-1:Int))
def tQ a b:=(YA a b).1
def Jp a b:=(YA a b).2
def nT3:=BD Ag vI vI tQ Jp
theorem UB:SK 12 (BD Ag vI vI tQ Jp):=fb Tryz.func12 21 [] [(2,oX6)]
def sL2 (y:sB)(x:Ed):Vn Ed:=
 let g:=y.2.1
 let f:=x.1
 let a:=x.2.1
 let b:Bool:=a<y.2.2.1
 let c:=nth g a A9
 let d:=c.2.2.1==y.1
 let e:=([c.1]:List Int)
 (b->A6 a (len g)/\(d->((length f+length e:Nat):Int)<=4294967296)/\A5 (a+1),b,(cond d (f++e) f,a+1,()))
def sU3 y x:=(sL2 y x).1
def tT4 y x:=(sL2 y x).2.1
def uJ2 y x:=(sL2 y x).2.2
def tQ0 (y:sB)(x:Ed):(List Int):=
 x.1
def sU4:List (Nat×Sh):=[(5,Ao)]
def qW:=li [(1,vI),(9,As),(10,vI)] [(5,Ao),(11,vI)] tT4 uJ2 sU3 (λy x=>[ex 2 none sU4 ((tQ0 y x),())]) [sU4]
def oX7 (c:AN)(d:Int):Prop×(List Int):=
 let a:=(d,c.2.2.2.1,len c.2.2.2.1,())
 let b:=(([]:List Int),(0:Int),())
 (AA (tT4 a) (uJ2 a) (sU3 a) b,tQ0 a (A3 (tT4 a) (uJ2 a) b))
def rK5 a b:=(oX7 a b).1
def oX8 a b:=(oX7 a b).2
def pH4:=BD Ag vI Ah rK5 oX8
theorem oX9:SK 15 (BD Ag vI Ah rK5 oX8):=fb Tryz.func15 26 [] [(3,qW)] [(13,[(4,0,23,1005)]),(17,[(4,0,1005,0)])]
abbrev sB9:Type:=(Int×AN×(List Int)×Int×AK×(List AK)×Int×Int×(List Int)×Int×Unit)
abbrev UC:Type:=(Bool×Int×Unit)
def pH5 (y:sB9)(x:UC):Vn UC:=
 let e:=y.2.1
 let b:=(Q5 y).1
 let a:=x.2.1
 let c:Bool:=a<(Q4 y).1
 let d:=nth b a (0:Int)
 (c->A6 a (len b)/\A6 d (len e.2.2.2.1)/\A5 (a+1),c,(cond ((nth e.2.2.2.1 d A9).1==y.2.2.2.2.1.2.2.1) true x.1,a+1,()))
def sC y x:=(pH5 y x).1
def Jq y x:=(pH5 y x).2.1
def wK y x:=(pH5 y x).2.2
def rK6 (y:sB9)(x:UC):Bool:=
 x.1
def qW0:List (Nat×Sh):=[(1,vI),(2,An),(5,Ao),(6,vI),(8,vB),(12,As),(13,vI),(14,vI)]
def oY:=li [(1,vI),(2,An),(5,Ao),(6,vI),(7,(.box Ff Bc)),(12,As),(13,vI),(14,vI),(23,Ao),(24,vI)] [(8,vB),(25,vI)] Jq wK sC (λy x=>[ex 4 none qW0 (y.1,y.2.1,y.2.2.1,y.2.2.2.1,(rK6 y x),(Q1 y).1,(Q3 y).1,(Q0 y).1,())]) [qW0]
def pH6 (y:sA5)(x:Ed):Vn Ed:=
 let j:=y.1
 let c:=y.2.2.1
 let f:=y.2.2.2.1
 let d:=x.1
 let a:=x.2.1
 let g:Bool:=a<f
 let h:=nth c a A9
 let e:=(j,y.2.1,d,a,h,c,f,a,d,len d,())
 let k:=(h.2.2.1==j,(0:Int),())
 let b:=rK6 e (A3 (Jq e) (wK e) k)
 let i:=([a]:List Int)
 (g->A6 a (len c)/\AA (Jq e) (wK e) (sC e) k/\(b->((length d+length i:Nat):Int)<=4294967296)/\A5 (a+1),g,(cond b (d++i) d,a+1,()))
def rK7 y x:=(pH6 y x).1
def UD y x:=(pH6 y x).2.1
def UE y x:=(pH6 y x).2.2
def rK8 (y:sA5)(x:Ed):(List Int):=
 x.1
def qW1:List (Nat×Sh):=[(5,Ao)]
def oY0:=li [(1,vI),(2,An),(12,As),(13,vI)] [(5,Ao),(14,vI)] UD UE rK7 (λy x=>[ex 2 none qW1 ((rK8 y x),())]) [qW1]
def YB (c:AN)(d:Int):Prop×(List Int):=
 let a:=(d,c,c.2.2.2.1,len c.2.2.2.1,())
 let b:=(([]:List Int),(0:Int),())
 (AA (UD a) (UE a) (rK7 a) b,rK8 a (A3 (UD a) (UE a) b))
def oY1 a b:=(YB a b).1
def Gn a b:=(YB a b).2
theorem lO1:SK 45 (BD Ag vI Bh oY1 Gn):=fb Tryz.func45 46 [] [(3,oY0),(7,oY)] [(27,[(4,0,43,1005)]),(31,[(4,0,1005,0)])]
abbrev uB:Type:=(AN×(List Int)×Int×Unit)
def sL3 (y:uB)(x:Ed):Vn Ed:=
 let f:=y.1
 let b:=y.2.1
 let g:=x.1
 let a:=x.2.1
 let c:Bool:=a<y.2.2.1
 let d:=nth b a (0:Int)
 let e:=([(nth f.2.2.2.1 d A9).1]:List Int)
 (c->A6 a (len b)/\A6 d (len f.2.2.2.1)/\((length g+length e:Nat):Int)<=4294967296/\A5 (a+1),c,(g++e,a+1,()))
def tD4 y x:=(sL3 y x).1
def YC y x:=(sL3 y x).2.1
def YD y x:=(sL3 y x).2.2
def tQ1 (y:uB)(x:Ed):(List Int):=
 x.1
def sU5:List (Nat×Sh):=[(5,Ao)]
def qW2:=li [(2,An),(10,(.own Aa 10 false)),(11,vI)] [(5,Ao),(12,vI)] YC YD tD4 (λy x=>[ex 2 none sU5 ((tQ1 y x),())]) [sU5]
def oY2 (d:AN)(e:Int):Prop×(List Int):=
 let b:=Gn d e
 let a:=(d,b,len b,())
 let c:=(([]:List Int),(0:Int),())
 (oY1 d e/\AA (YC a) (YD a) (tD4 a) c,tQ1 a (A3 (YC a) (YD a) c))
def sC1 a b:=(oY2 a b).1
def UF a b:=(oY2 a b).2
def pH7:=BD Ag vI Ah sC1 UF
theorem oY3:SK 17 (BD Ag vI Ah sC1 UF):=fb Tryz.func17 27 [kb lO1] [(3,qW2)] [(11,[(4,0,24,1005)]),(15,[(4,0,1005,0)])]
def sL4 (y:sB)(x:Ed):Vn Ed:=
 let g:=y.2.1
 let f:=x.1
 let a:=x.2.1
 let c:Bool:=a<y.2.2.1
 let b:=nth g a A9
 let d:=cond (b.2.1==10) ((Qh b).1==y.1) false
 let e:=([b.1]:List Int)
 (c->A6 a (len g)/\(d->((length f+length e:Nat):Int)<=4294967296)/\A5 (a+1),c,(cond d (f++e) f,a+1,()))
def tD5 y x:=(sL4 y x).1
def uR3 y x:=(sL4 y x).2.1
def vM6 y x:=(sL4 y x).2.2
def tQ2 (y:sB)(x:Ed):(List Int):=
 x.1
def sU6:List (Nat×Sh):=[(5,Ao)]
def qW3:=li [(1,vI),(9,As),(10,vI)] [(5,Ao),(11,vI)] uR3 vM6 tD5 (λy x=>[ex 2 none sU6 ((tQ2 y x),())]) [sU6]
def oY4 (c:AN)(d:Int):Prop×(List Int):=
 let a:=(d,c.2.2.2.1,len c.2.2.2.1,())
 let b:=(([]:List Int),(0:Int),())
 (AA (uR3 a) (vM6 a) (tD5 a) b,tQ2 a (A3 (uR3 a) (vM6 a) b))
def sC2 a b:=(oY4 a b).1
def Ol a b:=(oY4 a b).2
def pH8:=BD Ag vI Ah sC2 Ol
theorem oY5:SK 18 (BD Ag vI Ah sC2 Ol):=fb Tryz.func18 31 [] [(3,qW3)] [(13,[(4,0,28,1005)]),(17,[(4,0,1005,0)])]
def sL5 (y:sB)(x:Ed):Vn Ed:=
 let g:=y.2.1
 let f:=x.1
 let a:=x.2.1
 let c:Bool:=a<y.2.2.1
 let b:=nth g a A9
 let d:=cond (b.2.1==10) ((Qh b).1==y.1) false
 let e:=([b.1]:List Int)
 (c->A6 a (len g)/\(d->((length f+length e:Nat):Int)<=4294967296)/\A5 (a+1),c,(cond d (f++e) f,a+1,()))
def sU8 y x:=(sL5 y x).1
def tT5 y x:=(sL5 y x).2.1
def uJ3 y x:=(sL5 y x).2.2
def tQ3 (y:sB)(x:Ed):(List Int):=
 x.1
def sU9:List (Nat×Sh):=[(5,Ao)]
def qW4:=li [(1,vI),(9,As),(10,vI)] [(5,Ao),(11,vI)] tT5 uJ3 sU8 (λy x=>[ex 2 none sU9 ((tQ3 y x),())]) [sU9]
def oY6 (c:AN)(d:Int):Prop×(List Int):=
 let a:=(d,c.2.2.2.1,len c.2.2.2.1,())
 let b:=(([]:List Int),(0:Int),())
 (AA (tT5 a) (uJ3 a) (sU8 a) b,tQ3 a (A3 (tT5 a) (uJ3 a) b))
def rK9 a b:=(oY6 a b).1
def oY7 a b:=(oY6 a b).2
def pH9:=BD Ag vI Ah rK9 oY7
theorem oY8:SK 19 (BD Ag vI Ah rK9 oY7):=fb Tryz.func19 31 [] [(3,qW4)] [(13,[(4,0,28,1005)]),(17,[(4,0,1005,0)])]
def YE :Prop×Int:=
 (True,(4:Int))
def oY9 :Prop:=(YE).1
def f23 :Int:=(YE).2
def nT4:Am.Spec:=fnSpec [] vI [] (λx=>oY9 ) (λx=>f23 ) (λ_=>())
theorem lO2:SK 23 (fnSpec [] vI [] (λx=>oY9 ) (λx=>f23 ) (λ_=>())):=fb Tryz.func23 1
def f6t (e f g:Int):Prop×(AN×Int×Unit):=
 let a:=cond (cond (cond (e<1) true (e>256)) true (f<1)) true (f>256)
 let c:Bool:=g<0
 let b:=cond c true (g≥f23)
 let d:=(cond a (0:Int) (cond b (0:Int) e),cond a (0:Int) (cond b (0:Int) f),cond a (0:Int) (cond b (0:Int) g),([]:List AK),cond a (0:Int) (cond b (0:Int) (1:Int)),(cond a (0:Int) (cond b (0:Int) (0:Int)),cond a (0:Int) (cond b (0:Int) (0:Int)),([]:List Int),()),([]:List C4),([]:List C5),())
 (!a->!c->oY9,(d,cond a (15:Int) (cond b (2:Int) (0:Int)),()))
def lO3 a b c:=(f6t a b c).1
def f6 a b c:=(f6t a b c).2
def mS7:=DR vI vI vI (.tup (.cons Ag (.cons vI .nl))) lO3 f6
def lO4:=Cy [(23,nT4)] [] [] 35
theorem kB4:SK 6 mS7:=fq (c:=lO4) Tryz.func6 ⟨lO2,trivial⟩
def rL (y:Yy)(x:vD):Vm vD:=
 let b:=y.1
 let f:=x.1
 let g:=x.2.1
 let a:=cond ((nth b.2.2.2.1 f A9).2.2.1 !=0) (decide (g<=len b.2.2.2.1)) false
 let d:=nth b.2.2.2.1 f A9
 let e:=Jp b d.2.2.1
 let c:Bool:=e<0
 (A6 f (len b.2.2.2.1)/\(a->A6 f (len b.2.2.2.1)/\tQ b d.2.2.1/\(!c->A5 (g+1))),a&&(!c),(e,g+1,()),a&&c,!a)
def rL0 y x:=(rL y x).1
def uH y x:=(rL y x).2.1
def wR y x:=(rL y x).2.2.1
def rL1 y x:=(rL y x).2.2.2.1
def oZ y x:=(rL y x).2.2.2.2
def rL2 (y:Yy)(x:vD):Int:=
 x.2.1
def rL3 (y:Yy)(x:vD):Int:=
 x.2.1
def oZ0:=li [(2,An)] [(1,vI),(5,vI)] uH wR rL0 (λy x=>[ex 1 (some (rL1 y x)) [(4,vI)] ((rL2 y x),()),ex 2 (some (oZ y x)) [(5,vI)] ((rL3 y x),())]) [[(4,vI)],[(5,vI)]]
def YF (d:AN)(e:Int):Prop×Int:=
 let a:=(d,())
 let c:=(e,(1:Int),())
 let b:=A3 (uH a) (wR a) c
 (AA (uH a) (wR a) (rL0 a) c,cond (rL1 a b) (rL2 a b) (rL3 a b))
def Rm a b:=(YF a b).1
def Jr a b:=(YF a b).2
theorem mC8:SK 46 (BD Ag vI vI Rm Jr):=fb Tryz.func46 34 [kb UB] [(2,oZ0)]
abbrev uB3:Type:=((List Int)×(List Int)×Unit)
def YG (y:uB3)(x:AF):Vm AF:=
 let d:=y.1
 let e:=y.2.1
 let b:=x.1
 let a:Bool:=b<len d
 let c:=nth d b (0:Int)!=nth e b (0:Int)
 (a->A6 b (len d)/\A6 b (len e)/\(!c->A5 (b+1)),a&&(!c),(b+1,()),a&&c,!a)
def sL6 y x:=(YG y x).1
def sC4 y x:=(YG y x).2.1
def uH0 y x:=(YG y x).2.2.1
def rZ9 y x:=(YG y x).2.2.2.1
def oE8 y x:=(YG y x).2.2.2.2
def sV (y:uB3)(x:AF):Bool:=
 false
def oE9:=li [(0,Ah),(1,Ah)] [(5,vI)] sC4 uH0 sL6 (λy x=>[ex 1 (some (rZ9 y x)) [(4,vB)] ((sV y x),()),ex 2 (some (oE8 y x)) [] ()]) [[(4,vB)],[]]
def lO5 (e f:List Int):Prop×Bool:=
 let b:=len e !=len f
 let a:=(e,f,())
 let d:=((0:Int),())
 let c:=A3 (sC4 a) (uH0 a) d
 (!b->AA (sC4 a) (uH0 a) (sL6 a) d,cond b false (cond (rZ9 a c) (sV a c) true))
def qK7 a b:=(lO5 a b).1
def Km a b:=(lO5 a b).2
theorem oZ1:SK 146 (BD Ah Ah vB qK7 Km):=fb Tryz.func146 26 [] [(4,oE9)]
def lO6 (b c:HG):Prop×Bool:=
 let a:=cond (b.1==c.1) (b.2.1==c.2.1) false
 (a->qK7 b.2.2.1 c.2.2.1,cond a (Km b.2.2.1 c.2.2.1) false)
def pI a b:=(lO6 a b).1
def My a b:=(lO6 a b).2
theorem mS8:SK 103 (BD Ch Ch vB pI My):=fb Tryz.func103 24 [kb oZ1]
abbrev uB4:Type:=(Im×Im×Unit)
def YH (y:uB4)(x:AF):Vm AF:=
 let d:=y.1
 let e:=y.2.1
 let b:=x.1
 let a:Bool:=b<len d.2.2.1
 let c:=!(Ty.eqb GM (nth d.2.2.1 b JK) (nth e.2.2.1 b JK))
 (a->A6 b (len d.2.2.1)/\A6 b (len e.2.2.1)/\(!c->A5 (b+1)),a&&(!c),(b+1,()),a&&c,!a)
def sL7 y x:=(YH y x).1
def YI y x:=(YH y x).2.1
def YJ y x:=(YH y x).2.2.1
def tL9 y x:=(YH y x).2.2.2.1
def oF y x:=(YH y x).2.2.2.2
def sV0 (y:uB4)(x:AF):Bool:=
 false
def oF0:=li [(2,(.box Pm Cw)),(3,(.box Pm Cw))] [(5,vI)] YI YJ sL7 (λy x=>[ex 1 (some (tL9 y x)) [(4,vB)] ((sV0 y x),()),ex 2 (some (oF y x)) [] ()]) [[(4,vB)],[]]
def lO7 (e f:Im):Prop×Bool:=
 let b:=cond (cond (e.1 !=f.1) true (e.2.1 !=f.2.1)) true (len e.2.2.1!=len f.2.2.1)
 let a:=(e,f,())
 let d:=((0:Int),())
 let c:=A3 (YI a) (YJ a) d
 (!b->AA (YI a) (YJ a) (sL7 a) d,cond b false (cond (tL9 a c) (sV0 a c) true))
def pI0 a b:=(lO7 a b).1
def Kn a b:=(lO7 a b).2
theorem mS9:SK 147 (BD Cw Cw vB pI0 Kn):=fb Tryz.func147 45 [] [(4,oF0)]
abbrev uB5:Type:=((List AX)×(List AX)×Unit)
def YK (y:uB5)(x:AF):Vm AF:=
 let d:=y.1
 let e:=y.2.1
 let b:=x.1
 let a:Bool:=b<len d
 let c:=!(Ty.eqb Io (nth d b CO) (nth e b CO))
 (a->A6 b (len d)/\A6 b (len e)/\(!c->A5 (b+1)),a&&(!c),(b+1,()),a&&c,!a)
def sL8 y x:=(YK y x).1
def sC7 y x:=(YK y x).2.1
def uH1 y x:=(YK y x).2.2.1
def qA y x:=(YK y x).2.2.2.1
def oF1 y x:=(YK y x).2.2.2.2
def sV1 (y:uB5)(x:AF):Bool:=
 false
def oF2:=li [(0,Ap),(1,Ap)] [(5,vI)] sC7 uH1 sL8 (λy x=>[ex 1 (some (qA y x)) [(4,vB)] ((sV1 y x),()),ex 2 (some (oF1 y x)) [] ()]) [[(4,vB)],[]]
def lO8 (e f:List AX):Prop×Bool:=
 let b:=len e !=len f
 let a:=(e,f,())
 let d:=((0:Int),())
 let c:=A3 (sC7 a) (uH1 a) d
 (!b->AA (sC7 a) (uH1 a) (sL8 a) d,cond b false (cond (qA a c) (sV1 a c) true))
def pI1 a b:=(lO8 a b).1
def Mz a b:=(lO8 a b).2
theorem mT:SK 148 (BD Ap Ap vB pI1 Mz):=fb Tryz.func148 26 [] [(4,oF2)]
abbrev uB6:Type:=((List A8)×(List A8)×Unit)
def YL (y:uB6)(x:AF):Vm AF:=
 let d:=y.1
 let e:=y.2.1
 let b:=x.1
 let a:Bool:=b<len d
 let c:=!(Ty.eqb Ef (nth d b A4) (nth e b A4))
 (a->A6 b (len d)/\A6 b (len e)/\(!c->A5 (b+1)),a&&(!c),(b+1,()),a&&c,!a)
def sL9 y x:=(YL y x).1
def sC9 y x:=(YL y x).2.1
def uH2 y x:=(YL y x).2.2.1
def qA0 y x:=(YL y x).2.2.2.1
def oF3 y x:=(YL y x).2.2.2.2
def sV2 (y:uB6)(x:AF):Bool:=
 false
def oF4:=li [(0,Aj),(1,Aj)] [(5,vI)] sC9 uH2 sL9 (λy x=>[ex 1 (some (qA0 y x)) [(4,vB)] ((sV2 y x),()),ex 2 (some (oF3 y x)) [] ()]) [[(4,vB)],[]]
def lO9 (e f:List A8):Prop×Bool:=
 let b:=len e !=len f
 let a:=(e,f,())
 let d:=((0:Int),())
 let c:=A3 (sC9 a) (uH2 a) d
 (!b->AA (sC9 a) (uH2 a) (sL9 a) d,cond b false (cond (qA0 a c) (sV2 a c) true))
def pI2 a b:=(lO9 a b).1
def M0 a b:=(lO9 a b).2
theorem mT0:SK 149 (BD Aj Aj vB pI2 M0):=fb Tryz.func149 26 [] [(4,oF4)]
abbrev uB7:Type:=(Jd×Jd×Unit)
def sD (y:uB7)(x:AF):Vm AF:=
 let d:=y.1
 let e:=y.2.1
 let b:=x.1
 let a:Bool:=b<len d.2.2.2.1
 let c:=!(Ty.eqb AQ (nth d.2.2.2.1 b A1) (nth e.2.2.2.1 b A1))
 (a->A6 b (len d.2.2.2.1)/\A6 b (len e.2.2.2.1)/\(!c->A5 (b+1)),a&&(!c),(b+1,()),a&&c,!a)
def sM y x:=(sD y x).1
def YM y x:=(sD y x).2.1
def YN y x:=(sD y x).2.2.1
def tM y x:=(sD y x).2.2.2.1
def oF5 y x:=(sD y x).2.2.2.2
def sV3 (y:uB7)(x:AF):Bool:=
 false
def oF6:=li [(2,(.box SU Da)),(3,(.box SU Da))] [(5,vI)] YM YN sM (λy x=>[ex 1 (some (tM y x)) [(4,vB)] ((sV3 y x),()),ex 2 (some (oF5 y x)) [] ()]) [[(4,vB)],[]]
def lP (e f:Jd):Prop×Bool:=
 let b:=cond (cond (cond (e.1 !=f.1) true (e.2.1 !=f.2.1)) true (e.2.2.1 !=f.2.2.1)) true (len e.2.2.2.1!=len f.2.2.2.1)
 let a:=(e,f,())
 let d:=((0:Int),())
 let c:=A3 (YM a) (YN a) d
 (!b->AA (YM a) (YN a) (sM a) d,cond b false (cond (tM a c) (sV3 a c) true))
def pI3 a b:=(lP a b).1
def Ko a b:=(lP a b).2
theorem mT1:SK 150 (BD Da Da vB pI3 Ko):=fb Tryz.func150 52 [] [(4,oF6)]
def mT2 (i j:AK):Prop×Bool:=
 let c:=cond (cond (Kn (Q6 i).1 (Q6 j).1) (Ty.eqb GM (Q9 i).1 (Q9 j).1) false) ((Qc i).1==(Qc j).1) false
 let d:=cond (cond c (Km (Qa i).1 (Qa j).1) false) ((Qe i).1==(Qe j).1) false
 let e:=cond d (Mz (Qd i).1 (Qd j).1) false
 let f:=cond (cond e (M0 (Q8 i).1 (Q8 j).1) false) ((Qi i).1==(Qi j).1) false
 let g:=cond (cond f ((Qb i).1==(Qb j).1) false) ((Qf i).1==(Qf j).1) false
 let h:=cond (cond g ((Qg i).1==(Qg j).1) false) ((Qj i).1==(Qj j).1) false
 let b:=cond (cond h ((Ql i).1==(Ql j).1) false) ((Qm i).1==(Qm j).1) false
 let a:=cond b ((Qh i).1==(Qh j).1) false
 (pI0 (Q6 i).1 (Q6 j).1/\(c->qK7 (Qa i).1 (Qa j).1)/\(d->pI1 (Qd i).1 (Qd j).1)/\(e->pI2 (Q8 i).1 (Q8 j).1)/\(a->pI3 (Qk i).1 (Qk j).1),cond a (Ko (Qk i).1 (Qk j).1) false)
def pI4 a b:=(mT2 a b).1
def I0 a b:=(mT2 a b).2
theorem mT3:SK 104 (BD Bc Bc vB pI4 I0):=fb Tryz.func104 115 [kb oZ1,kb mS9,kb mT,kb mT0,kb mT1]
def YO (e f:AK):Prop×Bool:=
 let c:=cond (cond (cond (cond (e.1==f.1) (e.2.1==f.2.1) false) (e.2.2.1==f.2.2.1) false) (e.2.2.2.1==f.2.2.2.1) false) (Ty.eqb .bool e.2.2.2.2.1 f.2.2.2.2.1) false
 let d:=cond (cond (cond c (Ty.eqb .bool (Q1 e).1 (Q1 f).1) false) (Ty.eqb .bool (Q3 e).1 (Q3 f).1) false) ((Q0 e).1==(Q0 f).1) false
 let a:=cond d ((Q5 e).1==(Q5 f).1) false
 let b:=cond (cond (cond a (My (Q4 e).1 (Q4 f).1) false) (Ty.eqb HH (Q2 e).1 (Q2 f).1) false) ((Q7 e).1==(Q7 f).1) false
 ((a->pI (Q4 e).1 (Q4 f).1)/\(b->pI4 e f),cond b (I0 e f) false)
def pR0 a b:=(YO a b).1
def UG a b:=(YO a b).2
theorem lP0:SK 69 (BD Bc Bc vB pR0 UG):=fb Tryz.func69 92 [kb mS8,kb mT3]
abbrev uR4:Type:=(HG×Unit)
def YP (y:uR4)(x:AF):Vm AF:=
 let d:=y.1
 let b:=x.1
 let a:Bool:=b<len d.2.2.1
 let e:Bool:=nth d.2.2.1 b (0:Int)<0
 let c:=cond e true (nth d.2.2.1 b (0:Int)>65535)
 (a->A6 b (len d.2.2.1)/\(!e->A6 b (len d.2.2.1))/\(!c->A5 (b+1)),a&&(!c),(b+1,()),a&&c,!a)
def rL6 y x:=(YP y x).1
def rA8 y x:=(YP y x).2.1
def uR5 y x:=(YP y x).2.2.1
def qW5 y x:=(YP y x).2.2.2.1
def oZ2 y x:=(YP y x).2.2.2.2
def rL7 (y:uR4)(x:AF):Int:=
 (2:Int)
def oZ3:=li [(1,(.box JJ Ch))] [(3,vI)] rA8 uR5 rL6 (λy x=>[ex 1 (some (qW5 y x)) [(2,vI)] ((rL7 y x),()),ex 2 (some (oZ2 y x)) [] ()]) [[(2,vI)],[]]
def YQ (g:HG):Prop×Int:=
 let b:=cond (cond (cond (g.1<0) true (g.1>256)) true (g.2.1<0)) true (g.2.1>256)
 let c:=!(Ty.eqb .bool (g.1==0) (g.2.1==0))
 let d:=cond c true (len g.2.2.1!=(g.1*g.2.1))
 let a:=(g,())
 let f:=((0:Int),())
 let e:=A3 (rA8 a) (uR5 a) f
 (!b->(!c->A5 (g.1*g.2.1))/\(!d->AA (rA8 a) (uR5 a) (rL6 a) f),cond b (15:Int) (cond d (15:Int) (cond (qW5 a e) (rL7 a e) (0:Int))))
def pR1 a:=(YQ a).1
def UH a:=(YQ a).2
theorem mC9:SK 36 (AS Ch vI pR1 UH):=fb Tryz.func36 61 [] [(6,oZ3)]
def lP1 (a b c:Int):Prop×Bool:=
 (True,cond (a≥b) (decide (a<=c)) false)
def Om a b c:=(lP1 a b c).1
def Fg a b c:=(lP1 a b c).2
theorem oZ4:SK 130 (DR vI vI vI vB Om Fg):=fb Tryz.func130 15
def mT4 (d:Int):Prop×(List UInt8):=
 let b:=cond (d<1) true (d>11)
 let c:=([([103,114,111,117,112]:List UInt8),([105,109,97,103,101]:List UInt8),([102,105,108,108]:List UInt8),([103,114,97,100,105,101,110,116]:List UInt8),([112,97,116,104]:List UInt8),([116,101,120,116]:List UInt8),([97,100,106,117,115,116]:List UInt8),([102,105,108,116,101,114]:List UInt8),([108,105,110,107]:List UInt8),([99,108,111,110,101]:List UInt8),([119,97,114,112]:List UInt8)]:List (List UInt8))
 let a:=d-1
 (!b->A5 (d-1)/\A6 a (len c),cond b ([]:List UInt8) (nth c a ([]:List UInt8)))
def pI5 a:=(mT4 a).1
def M1 a:=(mT4 a).2
theorem mT5:SK 131 (AS vI vS pI5 M1):=fb Tryz.func131 14
abbrev UI:Type:=((List UInt8)×Unit)
def YR (y:UI)(x:AF):Vm AF:=
 let c:=y.1
 let a:=x.1
 let e:Bool:=a<len c
 let d:Bool:=BP c a<33
 let b:=cond d true (BP c a>126)
 (e->A6 a (len c)/\(!d->A6 a (len c))/\(!b->A5 (a+1)),e&&(!b),(a+1,()),e&&b,!e)
def qA1 y x:=(YR y x).1
def UJ y x:=(YR y x).2.1
def UK y x:=(YR y x).2.2.1
def qA2 y x:=(YR y x).2.2.2.1
def oF7 y x:=(YR y x).2.2.2.2
def sV4 (y:UI)(x:AF):Bool:=
 false
def oF8:=li [(0,vS)] [(3,vI)] UJ UK qA1 (λy x=>[ex 1 (some (qA2 y x)) [(2,vB)] ((sV4 y x),()),ex 2 (some (oF7 y x)) [(0,vS)] (y.1,())]) [[(2,vB)],[(0,vS)]]
def lP2 (d:List UInt8):Prop×Bool:=
 let a:=(d,())
 let c:=((0:Int),())
 let b:=A3 (UJ a) (UK a) c
 (AA (UJ a) (UK a) (qA1 a) c,cond (qA2 a b) (sV4 a b) (cond (len d>0) (decide (len d<=32)) false))
def pI6 a:=(lP2 a).1
def M3 a:=(lP2 a).2
theorem mT6:SK 132 (AS vS vB pI6 M3):=fb Tryz.func132 28 [] [(2,oF8)]
def lP3 (a:Int):Prop×Bool:=
 (True,cond (a≥0) (decide (a<=17)) false)
def oZ5 a:=(lP3 a).1
def Rn a:=(lP3 a).2
theorem mT7:SK 133 (AS vI vB oZ5 Rn):=fb Tryz.func133 9
def lP4 (a:AK):Prop×Bool:=
 (True,cond (cond (a.2.1==7) true (a.2.1==8)) true (a.2.1==11))
def oZ6 a:=(lP4 a).1
def YS a:=(lP4 a).2
theorem mT8:SK 134 (AS Bc vB oZ6 YS):=fb Tryz.func134 16
def Ro (l:AK)(m n:Int):Prop×Int:=
 let b:=!(Fg m (1:Int) (256:Int))
 let c:=cond b true (!(Fg n (1:Int) (256:Int)))
 let d:=M1 l.2.1==([]:List UInt8)
 let e:=!(M3 l.2.2.2.1)
 let f:=!(Fg l.1 (0:Int) (1073741824:Int))
 let g:=cond f true (!(Fg l.2.2.1 (0:Int) (1073741824:Int)))
 let h:=cond g true (!(Fg (Q0 l).1 (0:Int) (65535:Int)))
 let i:=!(Rn (Q5 l).1)
 let j:=cond i true (cond (YS l) ((Q5 l).1 !=0) false)
 let k:=UH (Q4 l).1
 let a:=cond (k !=0) k (cond (cond ((Q4 l).1.1 !=0) (cond ((Q4 l).1.1 !=m) true ((Q4 l).1.2.1 !=n)) false) (15:Int) (0:Int))
 (Om m (1:Int) (256:Int)/\(!b->Om n (1:Int) (256:Int))/\(!c->pI5 l.2.1/\(!d->pI6 l.2.2.2.1/\(!e->Om l.1 (0:Int) (1073741824:Int)/\(!f->Om l.2.2.1 (0:Int) (1073741824:Int))/\(!g->Om (Q0 l).1 (0:Int) (65535:Int))/\(!h->oZ5 (Q5 l).1/\(!i->oZ6 l)/\(!j->pR1 (Q4 l).1))))),cond c (15:Int) (cond d (8:Int) (cond e (13:Int) (cond h (2:Int) (cond j (8:Int) a)))))
def oZ7 a b c:=(Ro a b c).1
def UL a b c:=(Ro a b c).2
theorem lP5:SK 94 (DR Bc vI vI vI oZ7 UL):=fb Tryz.func94 77 [kb mC9,kb oZ4,kb mT5,kb mT6,kb mT7,kb mT8]
def Rp (a:Int):Prop×Bool:=
 (True,cond (cond (cond (cond (a==2) true (a==5)) true (a==6)) true (a==9)) true (a==10))
def oZ8 a:=(Rp a).1
def Rq a:=(Rp a).2
theorem mD:SK 95 (AS vI vB oZ8 Rq):=fb Tryz.func95 21
def lP6 (a b c:Int):Prop×Int:=
 (True,G9 c (G8 a b))
def YT a b c:=(lP6 a b c).1
def Kp a b c:=(lP6 a b c).2
theorem qK8:SK 211 (DR vI vI vI vI YT Kp):=fb Tryz.func211 12
def lP7 (a:Int):Prop×Int:=
 (YT a (-16777216:Int) (16777216:Int),Kp a (-16777216:Int) (16777216:Int))
def YU a:=(lP7 a).1
def Kq a:=(lP7 a).2
theorem mT9:SK 173 (AS vI vI YU Kq):=fb Tryz.func173 5 [kb qK8]
def lP8 (a:Int):Prop×Int:=
 (YT a (-1099511627776:Int) (1099511627776:Int),Kp a (-1099511627776:Int) (1099511627776:Int))
def Rr a:=(lP8 a).1
def Hp a:=(lP8 a).2
theorem oZ9:SK 174 (AS vI vI Rr Hp):=fb Tryz.func174 5 [kb qK8]
def lP9 (a:C3):Prop×C3:=
 (YU a.1/\YU a.2.1/\YU a.2.2.1/\YU a.2.2.2.1/\Rr a.2.2.2.2.1/\Rr (Q1 a).1,(Kq a.1,Kq a.2.1,Kq a.2.2.1,Kq a.2.2.2.1,Hp a.2.2.2.2.1,Hp (Q1 a).1,()))
def qK9 a:=(lP9 a).1
def Kr a:=(lP9 a).2
theorem nA:SK 135 (AS Az Az qK9 Kr):=fb Tryz.func135 22 [kb mT9,kb oZ9]
def YV (a:C3):Prop×Int:=
 (qK9 a,cond (!(Ty.eqb HH (Kr a) a)) (2:Int) (0:Int))
def Oo a:=(YV a).1
def Gp a:=(YV a).2
theorem pR2:SK 96 (AS Az vI Oo Gp):=fb Tryz.func96 7 [kb nA]
def nT5 (f g:Int):Prop×Int:=
 let e:=g==0
 let b:=cond (f==(-9223372036854775808)) (g==(-1)) false
 let c:=wrap .i64 (Int.tdiv f g)
 let d:=Int.tmod f g
 let a:=cond e (0:Int) (cond b (9223372036854775807:Int) (cond (cond (d !=0) (!(Ty.eqb .bool (decide (d<0)) (decide (g<0)))) false) (wrap .i64 (c-1)) c))
 (!e->!b->g≠0/\g≠0,a)
def Rs a b:=(nT5 a b).1
def EX a b:=(nT5 a b).2
theorem nA0:SK 175 (BD vI vI vI Rs EX):=fb Tryz.func175 33 [] [] [] true
def YW (a:Int):Prop×Int:=
 (True,cond (a<0) (wrap .u64 (0-(wrap .u64 a))) (wrap .u64 a))
def Rt a:=(YW a).1
def BF a:=(YW a).2
theorem nA2:SK 176 (AS vI Aq Rt BF):=fb Tryz.func176 10 [] [] [] true
def nT6 (f g:Int):Prop×Int:=
 let e:=g==0
 let a:=EX f g
 let b:=cond (f==(-9223372036854775808)) (g==(-1)) false
 let c:=wrap .i64 (f-(wrap .i64 (g*a)))
 let d:=BF c
 (!e->Rs f g/\(!b->Rt c/\Rt g),cond e (0:Int) (cond b a (cond (d≥wrap .u64 (BF g-d)) (wrap .i64 (a+1)) a)))
def Eu a b:=(nT6 a b).1
def B4 a b:=(nT6 a b).2
def nA3:=BD vI vI vI Eu B4
theorem vK:SK 136 (BD vI vI vI Eu B4):=fb Tryz.func136 34 [kb nA0,kb nA2] [] [] true
def mU (d e f g:Int):Prop×Int:=
 let a:=EX f (65536:Int)
 let b:=EX g (65536:Int)
 let c:=wrap .i64 (wrap .i64 (d*wrap .i64 (f-(wrap .i64 (a*65536))))+wrap .i64 (e*wrap .i64 (g-(wrap .i64 (b*65536)))))
 (Rs f (65536:Int)/\Rs g (65536:Int)/\Eu c (65536:Int),wrap .i64 (wrap .i64 (wrap .i64 (d*a)+wrap .i64 (e*b))+B4 c (65536:Int)))
def UM a b c d:=(mU a b c d).1
def Hq a b c d:=(mU a b c d).2
theorem nA4:SK 137 (Gi vI vI vI vI vI UM Hq):=fb Tryz.func137 41 [kb vK,kb nA0] [] [] true
def Ru (p:C3):Prop×(C3×Int×Unit):=
 let v:=Gp p
 let c:=v !=0
 let a:=wrap .i64 (wrap .i64 (p.1*p.2.2.2.1)-(wrap .i64 (p.2.1*p.2.2.1)))
 let d:=a==0
 let l:=wrap .i64 (p.2.2.2.1*4294967296)
 let e:=B4 l a
 let m:=wrap .i64 (wrap .i64 (sub 0 p.2.1)*4294967296)
 let f:=B4 m a
 let n:=wrap .i64 (wrap .i64 (sub 0 p.2.2.1)*4294967296)
 let g:=B4 n a
 let o:=wrap .i64 (p.1*4294967296)
 let h:=B4 o a
 let k:=(e,f,g,h,(0:Int),(0:Int),())
 let i:=Gp k !=0
 let q:=wrap .i64 (sub 0 e)
 let r:=wrap .i64 (sub 0 g)
 let s:=wrap .i64 (sub 0 f)
 let t:=wrap .i64 (sub 0 h)
 let b:=(e,f,g,h,Hq q r p.2.2.2.2.1 (Q1 p).1,Hq s t p.2.2.2.2.1 (Q1 p).1,())
 let u:=Gp b !=0
 let j:=cond d ((0:Int),(0:Int),(0:Int),(0:Int),(0:Int),(0:Int),()) (cond i ((0:Int),(0:Int),(0:Int),(0:Int),(0:Int),(0:Int),()) (cond u ((0:Int),(0:Int),(0:Int),(0:Int),(0:Int),(0:Int),()) b))
 (Oo p/\(!c->!d->Eu l a/\Eu m a/\Eu n a/\Eu o a/\Oo k/\(!i->UM q r p.2.2.2.2.1 (Q1 p).1/\UM s t p.2.2.2.2.1 (Q1 p).1/\Oo b)),(cond c ((0:Int),(0:Int),(0:Int),(0:Int),(0:Int),(0:Int),()) j,cond c v (cond d (17:Int) (cond i (17:Int) (cond u (17:Int) (0:Int)))),()))
def nA5 a:=(Ru a).1
def UN a:=(Ru a).2
theorem lQ:SK 97 (AS Az (.tup (.cons Az (.cons vI .nl))) nA5 UN):=fb Tryz.func97 88 [kb pR2,kb vK,kb nA4] [] [] true
def Rv (a:Int):Prop×Bool:=
 (True,cond (cond (cond (a==2) true (a==9)) true (a==10)) true (a==11))
def nA6 a:=(Rv a).1
def Rw a:=(Rv a).2
theorem mD0:SK 98 (AS vI vB nA6 Rw):=fb Tryz.func98 17
def YX (a:Int):Prop×Bool:=
 (True,cond (a≥0) (decide (a<=4)) false)
def mD1 a:=(YX a).1
def f99 a:=(YX a).2
theorem lQ0:SK 99 (AS vI vB mD1 f99):=fb Tryz.func99 9
def lQ1 (a:Int):Prop×Int:=
 (YT a (0:Int) (65535:Int),Kp a (0:Int) (65535:Int))
def rM a:=(lQ1 a).1
def Ks a:=(lQ1 a).2
theorem mU0:SK 192 (AS vI vI rM Ks):=fb Tryz.func192 5 [kb qK8]
def lQ2 (a:CE):Prop×CE:=
 (rM a.1/\rM a.2.1/\rM a.2.2.1/\rM a.2.2.2.1,(Ks a.1,Ks a.2.1,Ks a.2.2.1,Ks a.2.2.2.1,()))
def nA7 a:=(lQ2 a).1
def YY a:=(lQ2 a).2
theorem mU1:SK 145 (AS Ci Ci nA7 YY):=fb Tryz.func145 16 [kb mU0]
def lQ3 (a:CE):Prop×Bool:=
 (nA7 a,Ty.eqb GM (YY a) a)
def UO a:=(lQ3 a).1
def Gq a:=(lQ3 a).2
theorem qL:SK 102 (AS Ci vB UO Gq):=fb Tryz.func102 7 [kb mU1]
abbrev uR6:Type:=(Im×Unit)
def YZ (y:uR6)(x:AF):Vm AF:=
 let e:=y.1
 let c:=x.1
 let a:Bool:=c<len e.2.2.1
 let d:=nth e.2.2.1 c JK
 let b:=!(Gq d)
 (a->A6 c (len e.2.2.1)/\UO d/\(!b->A5 (c+1)),a&&(!b),(c+1,()),a&&b,!a)
def rM1 y x:=(YZ y x).1
def rA9 y x:=(YZ y x).2.1
def uR7 y x:=(YZ y x).2.2.1
def qW6 y x:=(YZ y x).2.2.2.1
def nA8 y x:=(YZ y x).2.2.2.2
def rM2 (y:uR6)(x:AF):Int:=
 (2:Int)
def nA9:=li [(1,(.box Pm Cw))] [(3,vI)] rA9 uR7 rM1 (λy x=>[ex 1 (some (qW6 y x)) [(2,vI)] ((rM2 y x),()),ex 2 (some (nA8 y x)) [] ()]) [[(2,vI)],[]]
def Za (g:Im):Prop×Int:=
 let b:=cond (cond (cond (g.1<0) true (g.1>256)) true (g.2.1<0)) true (g.2.1>256)
 let c:=!(Ty.eqb .bool (g.1==0) (g.2.1==0))
 let d:=cond c true (len g.2.2.1!=(g.1*g.2.1))
 let a:=(g,())
 let f:=((0:Int),())
 let e:=A3 (rA9 a) (uR7 a) f
 (!b->(!c->A5 (g.1*g.2.1))/\(!d->AA (rA9 a) (uR7 a) (rM1 a) f),cond b (15:Int) (cond d (15:Int) (cond (qW6 a e) (rM2 a e) (0:Int))))
def UP a:=(Za a).1
def Ls a:=(Za a).2
theorem mD2:SK 64 (AS Cw vI UP Ls):=fb Tryz.func64 54 [kb qL] [(6,nA9)]
def lQ4 (a:CE):Prop×Int:=
 (UO a,cond (!(Gq a)) (2:Int) (0:Int))
def Oq a:=(lQ4 a).1
def f138 a:=(lQ4 a).2
def nB:=AS Ci vI Oq f138
theorem pI7:SK 138 (AS Ci vI Oq f138):=fb Tryz.func138 6 [kb qL]
def lQ5 (b:Int)(c:List Int)(d:Int):Prop×Int:=
 let a:=cond (cond (cond (cond (b<1) true (b>4)) true (d<0)) true (d>2)) (8:Int) (cond (cond (cond (b==1) (len c !=4) false) true (cond (b !=1) (len c !=3) false)) (1:Int) (0:Int))
 (True,a)
def nB0 a b c:=(lQ5 a b c).1
def I1 a b c:=(lQ5 a b c).2
theorem mU2:SK 177 (DR vI Ah vI vI nB0 I1):=fb Tryz.func177 37
abbrev uB9:Type:=(Int×(List Int)×Int×Unit)
def Zb (y:uB9)(x:AF):Vm AF:=
 let d:=y.2.1
 let a:=x.1
 let e:Bool:=a<y.2.2.1
 let c:Bool:=nth d a (0:Int)<(-1048576)
 let b:=cond c true (nth d a (0:Int)>1048576)
 (e->A6 a (len d)/\(!c->A6 a (len d))/\(!b->A5 (a+1)),e&&(!b),(a+1,()),e&&b,!e)
def qA4 y x:=(Zb y x).1
def sD2 y x:=(Zb y x).2.1
def uH3 y x:=(Zb y x).2.2.1
def qA5 y x:=(Zb y x).2.2.2.1
def qA6 y x:=(Zb y x).2.2.2.2
def sV6 (y:uB9)(x:AF):Int:=
 (2:Int)
def qA7:List (Nat×Sh):=[(0,vI),(1,Ah)]
def oF9:=li [(0,vI),(1,Ah),(7,vI)] [(8,vI)] sD2 uH3 qA4 (λy x=>[ex 1 (some (qA5 y x)) [(4,vI)] ((sV6 y x),()),ex 2 (some (qA6 y x)) qA7 (y.1,y.2.1,())]) [[(4,vI)],qA7]
def lQ6 (e:Int)(f:List Int):Prop×Int:=
 let a:=(e,f,len f,())
 let d:=((0:Int),())
 let c:=A3 (sD2 a) (uH3 a) d
 let b:=cond (e==2) true (e==4)
 (AA (sD2 a) (uH3 a) (qA4 a) d/\(qA6 a c->b->A6 (2:Int) (len f)),cond (qA5 a c) (sV6 a c) (cond (cond b (decide (nth f (2:Int) (0:Int)<0)) false) (2:Int) (0:Int)))
def nB1 a b:=(lQ6 a b).1
def Kt a b:=(lQ6 a b).2
theorem mU3:SK 178 (BD vI Ah vI nB1 Kt):=fb Tryz.func178 36 [] [(2,oF9)]
def Rx (y:vJ)(x:AF):Vm AF:=
 let b:=y.1
 let a:=x.1
 let c:Bool:=a<y.2.1
 let h:Bool:=(nth b a CO).1<0
 let f:=cond h true ((nth b a CO).1>65535)
 let i:=nth b a CO
 let d:=cond f true (!(Gq i.2.1))
 let e:Bool:=a>0
 let j:=a-1
 let k:=cond e (decide ((nth b a CO).1<=(nth b j CO).1)) false
 let g:=(!d)&&(!k)
 (c->A6 a (len b)/\(!h->A6 a (len b))/\(!f->A6 a (len b))/\(!f->UO i.2.1)/\(!d->(e->A6 a (len b))/\(e->A5 (a-1))/\(e->A6 j (len b)))/\(g->A5 (a+1)),c&&g,(a+1,()),c&&(d||((!d)&&k)),!c)
def sM2 y x:=(Rx y x).1
def tE y x:=(Rx y x).2.1
def uH4 y x:=(Rx y x).2.2.1
def sM3 y x:=(Rx y x).2.2.2.1
def oG y x:=(Rx y x).2.2.2.2
def tE0 (y:vJ)(x:AF):Int:=
 let b:=y.1
 let a:=x.1
 (cond (cond (cond ((nth b a CO).1<0) true ((nth b a CO).1>65535)) true (!(Gq (nth b a CO).2.1))) (2:Int) (24:Int))
def oG0:=li [(0,Ap),(11,vI)] [(12,vI)] tE uH4 sM2 (λy x=>[ex 1 (some (sM3 y x)) [(2,vI)] ((tE0 y x),()),ex 2 (some (oG y x)) [] ()]) [[(2,vI)],[]]
def mU4 (f:List AX):Prop×Int:=
 let c:=len f==0
 let d:Bool:=len f>16
 let a:=(f,len f,())
 let e:=((0:Int),())
 let b:=A3 (tE a) (uH4 a) e
 (!c->!d->AA (tE a) (uH4 a) (sM2 a) e,cond c (1:Int) (cond d (3:Int) (cond (sM3 a b) (tE0 a b) (0:Int))))
def pI8 a:=(mU4 a).1
def Ku a:=(mU4 a).2
theorem mU5:SK 179 (AS Ap vI pI8 Ku):=fb Tryz.func179 55 [kb qL] [(6,oG0)]
def lQ7 (g:Int)(h:List Int)(i:Int)(j:List AX):Prop×Int:=
 let a:=I1 g h i
 let b:=a !=0
 let c:=len j==0
 let d:Bool:=len j>16
 let e:=Kt g h
 let f:=e !=0
 (nB0 g h i/\(!b->!c->!d->nB1 g h/\(!f->pI8 j)),cond b a (cond c (1:Int) (cond d (3:Int) (cond f e (Ku j)))))
def pI9 a b c d:=(lQ7 a b c d).1
def M4 a b c d:=(lQ7 a b c d).2
theorem mU6:SK 139 (Gi vI Ah vI Ap vI pI9 M4):=fb Tryz.func139 31 [kb mU2,kb mU3,kb mU5]
def mU7 (f:Int):Prop×Int:=
 let d:=f==1
 let c:=cond d d (f==2)
 let e:=f==3
 let b:=f==4
 let a:=cond (cond c true (cond e true (cond b true (f==5)))) (cond c (1:Int) (cond e (2:Int) (cond b (3:Int) (0:Int)))) (-1:Int)
 (True,a)
def Ry a:=(mU7 a).1
def B9 a:=(mU7 a).2
theorem Zc:SK 213 (AS vI vI Ry B9):=fb Tryz.func213 13
def mU8 (a:A0):Prop×Bool:=
 (True,cond (cond (cond (a.1≥(-16777216)) (decide (a.1<=16777216)) false) (decide (a.2.1≥(-16777216))) false) (decide (a.2.1<=16777216)) false)
def Zd a:=(mU8 a).1
def DX a:=(mU8 a).2
theorem pJ:SK 215 (AS Ar vB Zd DX):=fb Tryz.func215 21
abbrev uC0:Type:=(A8×Unit)
def UQ (y:uC0)(x:AF):Vm AF:=
 let e:=y.1
 let a:=x.1
 let h:Bool:=a<3
 let b:Bool:=a<B9 e.1
 let f:=nth e.2.1 a A1
 let c:=cond b (!(DX f)) false
 let g:Bool:=a≥B9 e.1
 let d:=cond c true (cond g (!(Ty.eqb AQ (nth e.2.1 a A1) ((0:Int),(0:Int),()))) false)
 (h->Ry e.1/\(b->A6 a 3)/\(b->Zd f)/\(!c->Ry e.1)/\(((!c)&&g)->A6 a 3)/\(!d->A5 (a+1)),h&&(!d),(a+1,()),h&&d,!h)
def qA8 y x:=(UQ y x).1
def vP y x:=(UQ y x).2.1
def Rz y x:=(UQ y x).2.2.1
def sM4 y x:=(UQ y x).2.2.2.1
def oG1 y x:=(UQ y x).2.2.2.2
def sV7 (y:uC0)(x:AF):Bool:=
 false
def oG2:=li [(1,Bi)] [(3,vI)] vP Rz qA8 (λy x=>[ex 1 (some (sM4 y x)) [(2,vB)] ((sV7 y x),()),ex 2 (some (oG1 y x)) [] ()]) [[(2,vB)],[]]
def lQ8 (d:A8):Prop×Bool:=
 let a:=(d,())
 let c:=((0:Int),())
 let b:=A3 (vP a) (Rz a) c
 (AA (vP a) (Rz a) (qA8 a) c,cond (sM4 a b) (sV7 a b) true)
def pJ0 a:=(lQ8 a).1
def Hr a:=(lQ8 a).2
theorem mU9:SK 246 (AS Dd vB pJ0 Hr):=fb Tryz.func246 36 [kb Zc,kb pJ] [(2,oG2)]
abbrev Ot:Type:=((List A8)×Unit)
def Ou (y:Ot)(x:AF):Vm AF:=
 let b:=y.1
 let a:=x.1
 let c:Bool:=a<len b
 let i:=nth b a A4
 let d:Bool:=B9 i.1<0
 let j:=nth b a A4
 let e:=!(Hr j)
 let f:=(nth b a A4).1 !=1
 let g:=a==0
 let k:=a-1
 let l:=cond f (cond g true ((nth b k A4).1==5)) false
 let h:=(!d)&&((!e)&&(!l))
 (c->A6 a (len b)/\Ry i.1/\(!d->A6 a (len b)/\pJ0 j/\(!e->A6 a (len b)/\((f&&(!g))->A5 (a-1))/\((f&&(!g))->A6 k (len b))))/\(h->A5 (a+1)),c&&h,(a+1,()),c&&(d||((!d)&&(e||((!e)&&l)))),!c)
def qA9 y x:=(Ou y x).1
def UR y x:=(Ou y x).2.1
def uH6 y x:=(Ou y x).2.2.1
def tM1 y x:=(Ou y x).2.2.2.1
def oG3 y x:=(Ou y x).2.2.2.2
def uH7 (y:Ot)(x:AF):Int:=
 let a:=y.1
 let b:=x.1
 (cond (B9 (nth a b A4).1<0) (8:Int) (cond (!(Hr (nth a b A4))) (2:Int) (24:Int)))
def oG4:=li [(0,Aj)] [(3,vI)] UR uH6 qA9 (λy x=>[ex 1 (some (tM1 y x)) [(2,vI)] ((uH7 y x),()),ex 2 (some (oG3 y x)) [] ()]) [[(2,vI)],[]]
def lQ9 (e:List A8):Prop×Int:=
 let c:Bool:=len e>128
 let a:=(e,())
 let d:=((0:Int),())
 let b:=A3 (UR a) (uH6 a) d
 (!c->AA (UR a) (uH6 a) (qA9 a) d,cond c (3:Int) (cond (tM1 a b) (uH7 a b) (0:Int)))
def US a:=(lQ9 a).1
def CB a:=(lQ9 a).2
theorem qL0:SK 212 (AS Aj vI US CB):=fb Tryz.func212 45 [kb Zc,kb mU9] [(4,oG4)]
def mV (f:C3)(g:A0):Prop×A0:=
 let a:=Kr f
 let b:=Hp g.1
 let c:=Hp g.2.1
 let d:=wrap .i64 (Hq a.1 a.2.2.1 b c+a.2.2.2.2.1)
 let e:=wrap .i64 (Hq a.2.1 a.2.2.2.1 b c+(Q1 a).1)
 (qK9 f/\Rr g.1/\Rr g.2.1/\UM a.1 a.2.2.1 b c/\Rr d/\UM a.2.1 a.2.2.2.1 b c/\Rr e,(Hp d,Hp e,()))
def pJ1 a b:=(mV a b).1
def M5 a b:=(mV a b).2
theorem mV0:SK 247 (BD Az Ar Ar pJ1 M5):=fb Tryz.func247 38 [kb nA,kb nA4,kb oZ9] [] [] true
def mV1 (b:C3)(c:A0):Prop×A0:=
 let s:=(wrap .i64 (4096*c.1),wrap .i64 (4096*c.2.1),())
 let a:=M5 b s
 (pJ1 b s/\Eu a.1 (4096:Int)/\Eu a.2.1 (4096:Int),(B4 a.1 (4096:Int),B4 a.2.1 (4096:Int),()))
def Ze a b:=(mV1 a b).1
def DQ a b:=(mV1 a b).2
theorem nB2:SK 214 (BD Az Ar Ar Ze DQ):=fb Tryz.func214 22 [kb vK,kb mV0] [] [] true
abbrev wV8:Type:=((List A8)×C3×(List A8)×Int×Unit)
abbrev R1:Type:=(A8×Int×Unit)
def Zf (y:wV8)(x:R1):Vm R1:=
 let g:=y.2.1
 let b:=x.1
 let a:=x.2.1
 let c:Bool:=a<B9 b.1
 let e:=nth b.2.1 a A1
 let s:=set b.2.1 (toNat a) (DQ g e)
 let f:=nth s a A1
 let d:=!(DX f)
 (Ry b.1/\(c->A6 a 3/\Ze g e/\A6 a 3/\A6 a 3/\Zd f/\(!d->A5 (a+1))),c&&(!d),((b.1,s,()),a+1,()),c&&d,!c)
def uR9 y x:=(Zf y x).1
def FD y x:=(Zf y x).2.1
def FE y x:=(Zf y x).2.2.1
def uS y x:=(Zf y x).2.2.2.1
def uS0 y x:=(Zf y x).2.2.2.2
def sD3 (y:wV8)(x:R1):(List A8):=
 ([]:List A8)
def sD4 (y:wV8)(x:R1):Int:=
 (2:Int)
def rM6:List (Nat×Sh):=[(4,Bk),(5,vI)]
def sD5 (y:wV8)(x:R1):A8:=
 x.1
def rM7:List (Nat×Sh):=[(0,Aj),(3,Bp),(8,Ce),(9,vI),(10,Bi)]
def pJ2:=li [(0,Aj),(3,Bp),(8,Ce),(9,vI)] [(10,Bi),(11,vI)] FD FE uR9 (λy x=>[ex 1 (some (uS y x)) rM6 ((sD3 y x),(sD4 y x),()),ex 4 (some (uS0 y x)) rM7 (y.1,y.2.1,y.2.2.1,y.2.2.2.1,(sD5 y x),())]) [rM6,rM7]
abbrev Zg:Type:=((List A8)×C3×Unit)
def Zh (y:Zg)(x:Ei):Vm Ei:=
 let h:=y.1
 let i:=x.1
 let e:=x.2.1
 let c:Bool:=e<len h
 let a:=(h,y.2.1,i,e,())
 let g:=(nth h e A4,(0:Int),())
 let d:=A3 (FD a) (FE a) g
 let b:=uS0 a d
 let f:=([sD5 a d]:List A8)
 (c->A6 e (len h)/\AA (FD a) (FE a) (uR9 a) g/\(b->((length i+length f:Nat):Int)<=4294967296)/\(b->A5 (e+1)),c&&b,(i++f,e+1,()),c&&uS a d,!c)
def tM2 y x:=(Zh y x).1
def Kv y x:=(Zh y x).2.1
def Js y x:=(Zh y x).2.2.1
def sM6 y x:=(Zh y x).2.2.2.1
def oG5 y x:=(Zh y x).2.2.2.2
def tE2 (y:Zg)(x:Ei):(List A8):=
 let b:=y.1
 let c:=x.2.1
 let a:=(b,y.2.1,x.1,c,())
 (sD3 a (A3 (FD a) (FE a) (nth b c A4,(0:Int),())))
def tE3 (y:Zg)(x:Ei):Int:=
 let b:=y.1
 let c:=x.2.1
 let a:=(b,y.2.1,x.1,c,())
 (sD4 a (A3 (FD a) (FE a) (nth b c A4,(0:Int),())))
def qB:List (Nat×Sh):=[(4,Bk),(5,vI)]
def tE4 (y:Zg)(x:Ei):(List A8):=
 x.1
def oG6:=li [(0,Aj),(3,Bp)] [(8,Ce),(9,vI)] Kv Js tM2 (λy x=>[ex 1 (some (sM6 y x)) qB ((tE2 y x),(tE3 y x),()),ex 2 (some (oG5 y x)) [(8,Ce)] ((tE4 y x),())]) [qB,[(8,Ce)]]
def Zi (i:List A8)(j:C3):Prop×((List A8)×Int×Unit):=
 let e:=CB i
 let c:=e !=0
 let f:=Gp j
 let d:=f !=0
 let a:=(i,j,())
 let h:=(([]:List A8),(0:Int),())
 let g:=A3 (Kv a) (Js a) h
 let b:=sM6 a g
 (US i/\(!c->Oo j/\(!d->AA (Kv a) (Js a) (tM2 a) h)),(cond c [] (cond d [] (cond b (tE2 a g) (tE4 a g))),cond c e (cond d f (cond b (tE3 a g) (0:Int))),()))
def qL1 a b:=(Zi a b).1
def CZ a b:=(Zi a b).2
theorem mV2:SK 180 (BD Aj Az (.tup (.cons Bk (.cons vI .nl))) qL1 CZ):=fb Tryz.func180 60 [kb pR2,kb qL0,kb Zc,kb nB2,kb pJ] [(9,oG6),(13,pJ2)] [(15,[(4,0,22,1008)]),(37,[(4,0,58,1008)]),(39,[(4,0,1008,0)])]
def lR (m n o p:Int):Prop×Int:=
 let a:=8-p
 let b:=8-p
 let c:=a*b
 let d:=c*m
 let e:=2*p
 let f:=8-p
 let g:=e*f
 let h:=g*n
 let i:=d+h
 let j:=p*p
 let k:=j*o
 let l:=i+k
 (A5 (8-p)/\A5 (8-p)/\A5 (a*b)/\A5 (c*m)/\A5 (2*p)/\A5 (8-p)/\A5 (e*f)/\A5 (g*n)/\A5 (d+h)/\A5 (p*p)/\A5 (j*o)/\A5 (i+k)/\Eu l (64:Int),B4 l (64:Int))
def UT a b c d:=(lR a b c d).1
def Gr a b c d:=(lR a b c d).2
theorem mV3:SK 249 (Gi vI vI vI vI vI UT Gr):=fb Tryz.func249 31 [kb vK]
def lR0 (p t u v w:Int):Prop×Int:=
 let a:=16-w
 let b:=a*a
 let c:=b*a
 let d:=c*p
 let e:=3*w
 let f:=e*a
 let g:=f*a
 let h:=g*t
 let i:=d+h
 let j:=3*w
 let k:=j*w
 let l:=k*a
 let m:=l*u
 let n:=i+m
 let o:=w*w
 let q:=o*w
 let r:=q*v
 let s:=n+r
 (A5 (16-w)/\A5 (a*a)/\A5 (b*a)/\A5 (c*p)/\A5 (3*w)/\A5 (e*a)/\A5 (f*a)/\A5 (g*t)/\A5 (d+h)/\A5 (3*w)/\A5 (j*w)/\A5 (k*a)/\A5 (l*u)/\A5 (i+m)/\A5 (w*w)/\A5 (o*w)/\A5 (q*v)/\A5 (n+r)/\Eu s (4096:Int),B4 s (4096:Int))
def UU a b c d e:=(lR0 a b c d e).1
def Gs a b c d e:=(lR0 a b c d e).2
theorem mV4:SK 250 (sp5 vI vI vI vI vI vI UU Gs):=fb Tryz.func250 48 [kb vK]
end Go.Proofs.YtgjdonlgingdeaaGreatDoor.Am
