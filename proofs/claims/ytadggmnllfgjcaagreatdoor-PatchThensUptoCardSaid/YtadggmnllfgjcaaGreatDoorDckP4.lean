/- Printed by program, part 4. No condition. -/
import Derived.Test.YtadggmnllfgjcaaGreatDoorDckP3
set_option linter.unusedVariables false
set_option synthInstance.maxSize 4000
set_option synthInstance.maxHeartbeats 400000
namespace Go.Proofs.YtadggmnllfgjcaaGreatDoor.Am
open Go Go.Am Go.Proofs
open Go.IntKind (wrap)
open _root_.Int (sub tdiv tmod toNat)
open _root_.List (drop length set take)
def lH0 (a:Unit):Prop×(List Int):=
 ((!true)->((length ([]:List Int)+length ([]:List Int):Nat):Int)<=4294967296,cond true [] (([]:List Int)++[]))
def pS0 a:=(lH0 a).1
def f52a a:=(lH0 a).2
instance (a):Decidable (pS0 a):=by unfold pS0 lH0;dsimp only;infer_instance
theorem lH1:SK 52 (AR (.nn true) Ce pS0 f52a):=fb Tryz.func52 8 [] [] [(7,[(4,0,7,0)])]
def lH2 (a:Unit):Prop×(List Int):=
 ((!false)->((length ([]:List Int)+length ([]:List Int):Nat):Int)<=4294967296,cond false [] (([]:List Int)++[]))
def pS1 a:=(lH2 a).1
def f52b a:=(lH2 a).2
instance (a):Decidable (pS1 a):=by unfold pS1 lH2;dsimp only;infer_instance
theorem lH3:SK 52 (AR (.nn false) Ce pS1 f52b):=fb Tryz.func52 8 [] [] [(7,[(4,0,7,0)])]
def lH4 (a:List Int):Prop×(List Int):=
 (0<length a/\((!false)->((length ([]:List Int)+length a:Nat):Int)<=4294967296),cond false [] (([]:List Int)++a))
def pS2 a:=(lH4 a).1
def f52c a:=(lH4 a).2
instance (a):Decidable (pS2 a):=by unfold pS2 lH4;dsimp only;infer_instance
theorem lH5:SK 52 (AR Ao Ce pS2 f52c):=fb Tryz.func52 8 [] [] [(7,[(4,0,7,0)])]
def ZO (a:List Int):List Int:=a
def rC1 (a:List Int):Prop:=(length a:Int)<=4294967296
def kG8:List (Nat×Sh):=[(0,Ao)]
def mR0:Sh:=Ce
def kG9:List (Nat×Sh):=[]
def mF2:Am.Spec:=fnSpec kG8 mR0 kG9 (λx=>rC1 x.1) (λx=>ZO x.1) (λ_=>())
theorem mR1:SpecOk Tryz.prog 52 mF2:=PX (rs:=mR0) (F:=ZO) (ok:=rC1) lH1 lH3 lH5 (jF (by kernel_rfl)) (jF (by kernel_rfl)) (λl h hp=>⟨hp,λ_=>by simpa[rC1] using h⟩) rfl rfl (λ_=>rfl)
def lH6 (a:Unit):Prop×(List BY):=
 ((!true)->((length ([]:List BY)+length ([]:List BY):Nat):Int)<=4294967296,cond true [] (([]:List BY)++[]))
def pS3 a:=(lH6 a).1
def f57a a:=(lH6 a).2
instance (a):Decidable (pS3 a):=by unfold pS3 lH6;dsimp only;infer_instance
theorem lH7:SK 57 (AR (.nn true) Df pS3 f57a):=fb Tryz.func57 8 [] [] [(7,[(4,0,7,0)])]
def lH8 (a:Unit):Prop×(List BY):=
 ((!false)->((length ([]:List BY)+length ([]:List BY):Nat):Int)<=4294967296,cond false [] (([]:List BY)++[]))
def pS4 a:=(lH8 a).1
def f57b a:=(lH8 a).2
instance (a):Decidable (pS4 a):=by unfold pS4 lH8;dsimp only;infer_instance
theorem lH9:SK 57 (AR (.nn false) Df pS4 f57b):=fb Tryz.func57 8 [] [] [(7,[(4,0,7,0)])]
def lI (a:List BY):Prop×(List BY):=
 (0<length a/\((!false)->((length ([]:List BY)+length a:Nat):Int)<=4294967296),cond false [] (([]:List BY)++a))
def pS5 a:=(lI a).1
def f57c a:=(lI a).2
instance (a):Decidable (pS5 a):=by unfold pS5 lI;dsimp only;infer_instance
theorem lI0:SK 57 (AR Cj Df pS5 f57c):=fb Tryz.func57 8 [] [] [(7,[(4,0,7,0)])]
def f57 (a:List BY):List BY:=a
def rS0 (a:List BY):Prop:=(length a:Int)<=4294967296
def kH:List (Nat×Sh):=[(0,Cj)]
def mR2:Sh:=Df
def kH0:List (Nat×Sh):=[]
def mF3:Am.Spec:=fnSpec kH mR2 kH0 (λx=>rS0 x.1) (λx=>f57 x.1) (λ_=>())
theorem mR3:SpecOk Tryz.prog 57 mF3:=PX (rs:=mR2) (F:=f57) (ok:=rS0) lH7 lH9 lI0 (jF (by kernel_rfl)) (jF (by kernel_rfl)) (λl h hp=>⟨hp,λ_=>by simpa[rS0] using h⟩) rfl rfl (λ_=>rfl)
def lI1 (a:Unit):Prop×(List B4):=
 ((!true)->((length ([]:List B4)+length ([]:List B4):Nat):Int)<=4294967296,cond true [] (([]:List B4)++[]))
def pS6 a:=(lI1 a).1
def f86a a:=(lI1 a).2
instance (a):Decidable (pS6 a):=by unfold pS6 lI1;dsimp only;infer_instance
theorem lI2:SK 86 (AR (.nn true) Dd pS6 f86a):=fb Tryz.func86 8 [] [] [(7,[(4,0,7,0)])]
def lI3 (a:Unit):Prop×(List B4):=
 ((!false)->((length ([]:List B4)+length ([]:List B4):Nat):Int)<=4294967296,cond false [] (([]:List B4)++[]))
def pS7 a:=(lI3 a).1
def f86b a:=(lI3 a).2
instance (a):Decidable (pS7 a):=by unfold pS7 lI3;dsimp only;infer_instance
theorem lI4:SK 86 (AR (.nn false) Dd pS7 f86b):=fb Tryz.func86 8 [] [] [(7,[(4,0,7,0)])]
def lI5 (a:List B4):Prop×(List B4):=
 (0<length a/\((!false)->((length ([]:List B4)+length a:Nat):Int)<=4294967296),cond false [] (([]:List B4)++a))
def pS8 a:=(lI5 a).1
def f86c a:=(lI5 a).2
instance (a):Decidable (pS8 a):=by unfold pS8 lI5;dsimp only;infer_instance
theorem lI6:SK 86 (AR Aq Dd pS8 f86c):=fb Tryz.func86 8 [] [] [(7,[(4,0,7,0)])]
def f86 (a:List B4):List B4:=a
def qI4 (a:List B4):Prop:=(length a:Int)<=4294967296
def kH1:List (Nat×Sh):=[(0,Aq)]
def mR4:Sh:=Dd
def kH2:List (Nat×Sh):=[]
def mF4:Am.Spec:=fnSpec kH1 mR4 kH2 (λx=>qI4 x.1) (λx=>f86 x.1) (λ_=>())
theorem kH3:SpecOk Tryz.prog 86 mF4:=PX (rs:=mR4) (F:=f86) (ok:=qI4) lI2 lI4 lI6 (jF (by kernel_rfl)) (jF (by kernel_rfl)) (λl h hp=>⟨hp,λ_=>by simpa[qI4] using h⟩) rfl rfl (λ_=>rfl)
def lI7 (a:Unit):Prop×(List A8):=
 ((!true)->((length ([]:List A8)+length ([]:List A8):Nat):Int)<=4294967296,cond true [] (([]:List A8)++[]))
def pS9 a:=(lI7 a).1
def f87a a:=(lI7 a).2
instance (a):Decidable (pS9 a):=by unfold pS9 lI7;dsimp only;infer_instance
theorem lI8:SK 87 (AR (.nn true) Bm pS9 f87a):=fb Tryz.func87 8 [] [] [(7,[(4,0,7,0)])]
def lI9 (a:Unit):Prop×(List A8):=
 ((!false)->((length ([]:List A8)+length ([]:List A8):Nat):Int)<=4294967296,cond false [] (([]:List A8)++[]))
def pT a:=(lI9 a).1
def f87b a:=(lI9 a).2
instance (a):Decidable (pT a):=by unfold pT lI9;dsimp only;infer_instance
theorem lJ:SK 87 (AR (.nn false) Bm pT f87b):=fb Tryz.func87 8 [] [] [(7,[(4,0,7,0)])]
def lJ0 (a:List A8):Prop×(List A8):=
 (0<length a/\((!false)->((length ([]:List A8)+length a:Nat):Int)<=4294967296),cond false [] (([]:List A8)++a))
def pT0 a:=(lJ0 a).1
def f87c a:=(lJ0 a).2
instance (a):Decidable (pT0 a):=by unfold pT0 lJ0;dsimp only;infer_instance
theorem lJ1:SK 87 (AR Ak Bm pT0 f87c):=fb Tryz.func87 8 [] [] [(7,[(4,0,7,0)])]
def f87 (a:List A8):List A8:=a
def qI5 (a:List A8):Prop:=(length a:Int)<=4294967296
def kH4:List (Nat×Sh):=[(0,Ak)]
def mR5:Sh:=Bm
def kH5:List (Nat×Sh):=[]
def mF5:Am.Spec:=fnSpec kH4 mR5 kH5 (λx=>qI5 x.1) (λx=>f87 x.1) (λ_=>())
theorem kH6:SpecOk Tryz.prog 87 mF5:=PX (rs:=mR5) (F:=f87) (ok:=qI5) lI8 lJ lJ1 (jF (by kernel_rfl)) (jF (by kernel_rfl)) (λl h hp=>⟨hp,λ_=>by simpa[qI5] using h⟩) rfl rfl (λ_=>rfl)
def lJ2 (a:Unit):Prop×(List A0):=
 ((!true)->((length ([]:List A0)+length ([]:List A0):Nat):Int)<=4294967296,cond true [] (([]:List A0)++[]))
def pT1 a:=(lJ2 a).1
def f88a a:=(lJ2 a).2
instance (a):Decidable (pT1 a):=by unfold pT1 lJ2;dsimp only;infer_instance
theorem lJ3:SK 88 (AR (.nn true) Ca pT1 f88a):=fb Tryz.func88 8 [] [] [(7,[(4,0,7,0)])]
def lJ4 (a:Unit):Prop×(List A0):=
 ((!false)->((length ([]:List A0)+length ([]:List A0):Nat):Int)<=4294967296,cond false [] (([]:List A0)++[]))
def pT2 a:=(lJ4 a).1
def f88b a:=(lJ4 a).2
instance (a):Decidable (pT2 a):=by unfold pT2 lJ4;dsimp only;infer_instance
theorem lJ5:SK 88 (AR (.nn false) Ca pT2 f88b):=fb Tryz.func88 8 [] [] [(7,[(4,0,7,0)])]
def lJ6 (a:List A0):Prop×(List A0):=
 (0<length a/\((!false)->((length ([]:List A0)+length a:Nat):Int)<=4294967296),cond false [] (([]:List A0)++a))
def pT3 a:=(lJ6 a).1
def f88c a:=(lJ6 a).2
instance (a):Decidable (pT3 a):=by unfold pT3 lJ6;dsimp only;infer_instance
theorem lJ7:SK 88 (AR Bc Ca pT3 f88c):=fb Tryz.func88 8 [] [] [(7,[(4,0,7,0)])]
def f88 (a:List A0):List A0:=a
def qI6 (a:List A0):Prop:=(length a:Int)<=4294967296
def kH7:List (Nat×Sh):=[(0,Bc)]
def mR6:Sh:=Ca
def kH8:List (Nat×Sh):=[]
def mF6:Am.Spec:=fnSpec kH7 mR6 kH8 (λx=>qI6 x.1) (λx=>f88 x.1) (λ_=>())
theorem kH9:SpecOk Tryz.prog 88 mF6:=PX (rs:=mR6) (F:=f88) (ok:=qI6) lJ3 lJ5 lJ7 (jF (by kernel_rfl)) (jF (by kernel_rfl)) (λl h hp=>⟨hp,λ_=>by simpa[qI6] using h⟩) rfl rfl (λ_=>rfl)
def MQ (e f:AD):Prop×(AD×Int×Unit):=
 let a:=e.2.1 !=f.2.1
 let b:=((Qe f).1.1,(Qe f).1.2.1,(Qe f).1.2.2.1,f88 (Qe f).1.2.2.2.1,())
 let c:=(e.1,e.2.1,e.2.2.1,e.2.2.2.1,e.2.2.2.2.1,(Q1 e).1,(Q2 e).1,(Q0 e).1,(Q5 e).1,((Q4 e).1.1,(Q4 e).1.2.1,ZO (Q4 e).1.2.2.1,()),(Q3 e).1,(Q7 e).1,((Q6 f).1.1,(Q6 f).1.2.1,f57 (Q6 f).1.2.2.1,()),(Q9 f).1,(Qc f).1,ZO (Qa f).1,(Qf f).1,f86 (Qb f).1,f87 (Q8 f).1,(Qi f).1,(Qd f).1,(Qg f).1,(Qh f).1,(Qk f).1,(Ql f).1,(Qm f).1,(Qj f).1,b,())
 let d:=((0:Int),(0:Int),(0:Int),([]:List UInt8),false,false,false,(0:Int),(0:Int),((0:Int),(0:Int),([]:List Int),()),PY,(0:Int),((0:Int),(0:Int),([]:List BY),()),C4,(0:Int),([]:List Int),(0:Int),([]:List B4),([]:List A8),(0:Int),(0:Int),(0:Int),(0:Int),([]:List UInt8),(0:Int),(0:Int),(0:Int),((0:Int),(0:Int),(0:Int),([]:List A0),()),())
 (!a->rC1 (Q4 e).1.2.2.1/\rS0 (Q6 f).1.2.2.1/\rC1 (Qa f).1/\qI4 (Qb f).1/\qI5 (Q8 f).1/\qI6 (Qe f).1.2.2.2.1,(cond a d c,cond a 8 0,()))
def eY a b:=(MQ a b).1
def f51 a b:=(MQ a b).2
theorem kI:SK 51 (BC Bg Bg (.tup (.cons Bg (.cons vI .nl))) eY f51):=fb Tryz.func51 82 [kb mR1,kb mR3,kb kH3,kb kH6,kb kH9]
abbrev sI1:Type:=((List AD)×Int×Unit)
def qS7 (y x:sI1):Vn sI1:=
 let e:=y.1
 let d:=x.1
 let a:=x.2.1
 let c:Bool:=a<y.2.1
 let b:=nth e a A9
 (c->A6 a (len e)/\eY b b/\A6 a (len d)/\a<len d/\A5 (a+1),c,(set d (toNat a) (f51 b b).1,a+1,()))
def tJ3 y x:=(qS7 y x).1
def W3 y x:=(qS7 y x).2.1
def Ou y x:=(qS7 y x).2.2
def rS1 (y x:sI1):(List AD):=
 x.1
def nJ2:=li [(9,An),(10,vI)] [(3,Dv),(11,vI)] W3 Ou tJ3 (λy x=>[ex 2 none [(3,Dv)] ((rS1 y x),())]) [[(3,Dv)]]
def Rz (d:List AD):Prop×(List AD):=
 let b:=len d
 let a:=(d,len d,())
 let c:=(List.replicate (toNat b) A9,(0:Int),())
 ((0<=b/\b<=b/\b<=4294967296)/\AB (W3 a) (Ou a) (tJ3 a) c,rS1 a (A3 (W3 a) (Ou a) c))
def sI2 a:=(Rz a).1
def R1 a:=(Rz a).2
theorem nJ3:SK 18 (AR An An sI2 R1):=fb Tryz.func18 27 [kb kI] [(3,nJ2)] [(3,[(4,0,8,1003)]),(15,[(1,2,0,0),(4,0,1003,0)])] false [] [8]
def MS (b c:EO):Prop×Bool:=
 let a:=cond (b.1==c.1) (b.2.1==c.2.1) false
 (a->rR6 b.2.2.1 c.2.2.1,cond a (ZA b.2.2.1 c.2.2.1) false)
def sI3 a b:=(MS a b).1
def OU a b:=(MS a b).2
theorem oD3:SK 19 (BC Bu Bu vB sI3 OU):=fb Tryz.func19 24 [kb nI4]
def R2 (a:EO):Prop×EO:=
 (rC1 a.2.2.1,(a.1,a.2.1,ZO a.2.2.1,()))
def sI4 a:=(R2 a).1
def OV a:=(R2 a).2
theorem nJ4:SK 20 (AR Bu Bu sI4 OV):=fb Tryz.func20 8 [kb mR1]
def sT (y:Ni)(x:CW):Vm CW:=
 let d:=y.1
 let e:=y.2.1
 let a:=x.1
 let b:Bool:=a<y.2.2.1
 let c:=!(Ty.eqb Er (nth d a CO) (nth e a CO))
 (b->A6 a (len d)/\A6 a (len e)/\(!c->A5 (a+1)),b&&(!c),(a+1,()),b&&c,!b)
def sI5 y x:=(sT y x).1
def sI6 y x:=(sT y x).2.1
def V5 y x:=(sT y x).2.2.1
def pF y x:=(sT y x).2.2.2.1
def nJ5 y x:=(sT y x).2.2.2.2
def rS2 (y:Ni)(x:CW):Bool:=
 false
def nJ6:=li [(0,Bh),(1,Bh),(12,vI)] [(13,vI)] sI6 V5 sI5 (λy x=>[ex 1 (some (pF y x)) [(4,vB)] ((rS2 y x),()),ex 2 (some (nJ5 y x)) [] ()]) [[(4,vB)],[]]
def R3 (e f:List B0):Prop×Bool:=
 let b:=len e !=len f
 let a:=(e,f,len e,())
 let d:=((0:Int),())
 let c:=A3 (sI6 a) (V5 a) d
 (!b->AB (sI6 a) (V5 a) (sI5 a) d,cond b false (cond (pF a c) (rS2 a c) true))
def sI7 a b:=(R3 a b).1
def OW a b:=(R3 a b).2
theorem oD4:SK 21 (BC Bh Bh vB sI7 OW):=fb Tryz.func21 26 [] [(4,nJ6)]
def lJ8 (a:Unit):Prop×(List B0):=
 ((!true)->((length ([]:List B0)+length ([]:List B0):Nat):Int)<=4294967296,cond true [] (([]:List B0)++[]))
def pT4 a:=(lJ8 a).1
def f22a a:=(lJ8 a).2
instance (a):Decidable (pT4 a):=by unfold pT4 lJ8;dsimp only;infer_instance
theorem lJ9:SK 22 (AR (.nn true) Dg pT4 f22a):=fb Tryz.func22 8 [] [] [(7,[(4,0,7,0)])]
def lK (a:Unit):Prop×(List B0):=
 ((!false)->((length ([]:List B0)+length ([]:List B0):Nat):Int)<=4294967296,cond false [] (([]:List B0)++[]))
def pT5 a:=(lK a).1
def f22b a:=(lK a).2
instance (a):Decidable (pT5 a):=by unfold pT5 lK;dsimp only;infer_instance
theorem lK0:SK 22 (AR (.nn false) Dg pT5 f22b):=fb Tryz.func22 8 [] [] [(7,[(4,0,7,0)])]
def lK1 (a:List B0):Prop×(List B0):=
 (0<length a/\((!false)->((length ([]:List B0)+length a:Nat):Int)<=4294967296),cond false [] (([]:List B0)++a))
def pT6 a:=(lK1 a).1
def f22c a:=(lK1 a).2
instance (a):Decidable (pT6 a):=by unfold pT6 lK1;dsimp only;infer_instance
theorem lK2:SK 22 (AR Bh Dg pT6 f22c):=fb Tryz.func22 8 [] [] [(7,[(4,0,7,0)])]
def MW (a:List B0):List B0:=a
def tJ4 (a:List B0):Prop:=(length a:Int)<=4294967296
def kI0:List (Nat×Sh):=[(0,Bh)]
def mR7:Sh:=Dg
def kI1:List (Nat×Sh):=[]
def mF7:Am.Spec:=fnSpec kI0 mR7 kI1 (λx=>tJ4 x.1) (λx=>MW x.1) (λ_=>())
theorem nJ7:SpecOk Tryz.prog 22 mF7:=PX (rs:=mR7) (F:=MW) (ok:=tJ4) lJ9 lK0 lK2 (jF (by kernel_rfl)) (jF (by kernel_rfl)) (λl h hp=>⟨hp,λ_=>by simpa[tJ4] using h⟩) rfl rfl (λ_=>rfl)
def MX (b c:AQ):Prop×Bool:=
 let a:=cond (cond (cond (b.1==c.1) (b.2.1==c.2.1) false) (b.2.2.1==c.2.2.1) false) (b.2.2.2.1==c.2.2.2.1) false
 (a->qI3 b.2.2.2.2.1 c.2.2.2.2.1,cond a (ZE b.2.2.2.2.1 c.2.2.2.2.1) false)
def pF0 a b:=(MX a b).1
def R4 a b:=(MX a b).2
theorem kI2:SK 54 (BC Eg Eg vB pF0 R4):=fb Tryz.func54 38 [kb mQ9]
abbrev Ov:Type:=((List AQ)×(Unit)×(List AQ)×Int×Unit)
def Wg (y:Ov)(x:CW):Vm CW:=
 let g:=y.1
 let d:=y.2.2.1
 let a:=x.1
 let b:Bool:=a<y.2.2.2.1
 let e:=nth d a CE
 let f:=nth g a CE
 let c:=!(R4 e f)
 (b->A6 a (len d)/\A6 a (len g)/\pF0 e f/\(!c->A5 (a+1)),b&&(!c),(a+1,()),b&&c,!b)
def Px y x:=(Wg y x).1
def uE2 y x:=(Wg y x).2.1
def LY y x:=(Wg y x).2.2.1
def rC2 y x:=(Wg y x).2.2.2.1
def pF1 y x:=(Wg y x).2.2.2.2
def tX (y:Ov)(x:CW):Bool:=
 false
def pF2:=li [(1,At),(2,(.fn 54 .nl)),(15,At),(16,vI)] [(17,vI)] uE2 LY Px (λy x=>[ex 1 (some (rC2 y x)) [(6,vB)] ((tX y x),()),ex 2 (some (pF1 y x)) [] ()]) [[(6,vB)],[]]
def pT7 (e f:List AQ)(g:(Unit)):Prop×Bool:=
 let b:=len e !=len f
 let a:=(f,(),e,len e,())
 let d:=((0:Int),())
 let c:=A3 (uE2 a) (LY a) d
 (!b->AB (uE2 a) (LY a) (Px a) d,cond b false (cond (rC2 a c) (tX a c) true))
def sI8 a b c:=(pT7 a b c).1
def mR8 a b c:=(pT7 a b c).2
theorem nJ8:SK 53 (DZ At At (.fn 54 .nl) vB sI8 mR8):=fb Tryz.func53 32 [kb kI2] [(4,pF2)]
def R5 (a b:List AQ):Prop×Bool:=
 (sI8 a b (),mR8 a b ())
def sI9 a b:=(R5 a b).1
def MZ a b:=(R5 a b).2
theorem oD5:SK 23 (BC At At vB sI9 MZ):=fb Tryz.func23 8 [kb nJ8]
def lK3 (a:Unit):Prop×(List AQ):=
 ((!true)->((length ([]:List AQ)+length ([]:List AQ):Nat):Int)<=4294967296,cond true [] (([]:List AQ)++[]))
def pT8 a:=(lK3 a).1
def f56a a:=(lK3 a).2
instance (a):Decidable (pT8 a):=by unfold pT8 lK3;dsimp only;infer_instance
theorem lK4:SK 56 (AR (.nn true) Dj pT8 f56a):=fb Tryz.func56 8 [] [] [(7,[(4,0,7,0)])] false [] [5,7]
def lK5 (a:Unit):Prop×(List AQ):=
 ((!false)->((length ([]:List AQ)+length ([]:List AQ):Nat):Int)<=4294967296,cond false [] (([]:List AQ)++[]))
def pT9 a:=(lK5 a).1
def f56b a:=(lK5 a).2
instance (a):Decidable (pT9 a):=by unfold pT9 lK5;dsimp only;infer_instance
theorem lK6:SK 56 (AR (.nn false) Dj pT9 f56b):=fb Tryz.func56 8 [] [] [(7,[(4,0,7,0)])] false [] [5,7]
def lK7 (a:List AQ):Prop×(List AQ):=
 (0<length a/\((!false)->((length ([]:List AQ)+length a:Nat):Int)<=4294967296),cond false [] (([]:List AQ)++a))
def pU a:=(lK7 a).1
def f56c a:=(lK7 a).2
instance (a):Decidable (pU a):=by unfold pU lK7;dsimp only;infer_instance
theorem lK8:SK 56 (AR At Dj pU f56c):=fb Tryz.func56 8 [] [] [(7,[(4,0,7,0)])] false [] [5,7]
def f56 (a:List AQ):List AQ:=a
def qI7 (a:List AQ):Prop:=(length a:Int)<=4294967296
def kI3:List (Nat×Sh):=[(0,At)]
def mR9:Sh:=Dj
def kI4:List (Nat×Sh):=[]
def mF8:Am.Spec:=fnSpec kI3 mR9 kI4 (λx=>qI7 x.1) (λx=>f56 x.1) (λ_=>())
theorem kI5:SpecOk Tryz.prog 56 mF8:=PX (rs:=mR9) (F:=f56) (ok:=qI7) lK4 lK6 lK8 (jF (by kernel_rfl)) (jF (by kernel_rfl)) (λl h hp=>⟨hp,λ_=>by simpa[qI7] using h⟩) rfl rfl (λ_=>rfl)
abbrev sJ:Type:=((List AQ)×Int×Unit)
def qS8 (y x:sJ):Vn sJ:=
 let f:=y.1
 let b:=x.1
 let a:=x.2.1
 let d:Bool:=a<y.2.1
 let e:=nth f a CE
 let c:=set b (toNat a) ((nth b a CE).1,(nth b a CE).2.1,(nth b a CE).2.2.1,(nth b a CE).2.2.2.1,((nth b a CE).2.2.2.2.1.1,(nth b a CE).2.2.2.2.1.2.1,f57 e.2.2.2.2.1.2.2.1,()),())
 (d->A6 a (len f)/\rS0 e.2.2.2.2.1.2.2.1/\A6 a (len b)/\a<len b/\A5 (a+1),d,(c,a+1,()))
def bS y x:=(qS8 y x).1
def sJ0 y x:=(qS8 y x).2.1
def uE3 y x:=(qS8 y x).2.2
def rS3 (y x:sJ):(List AQ):=
 x.1
def nJ9:=li [(0,At),(8,vI)] [(3,Dw),(9,vI)] sJ0 uE3 bS (λy x=>[ex 2 none [(3,Dw)] ((rS3 y x),())]) [[(3,Dw)]]
def R7 (d:List AQ):Prop×(List AQ):=
 let b:=f56 d
 let a:=(d,len b,())
 let c:=(b,(0:Int),())
 (qI7 d/\AB (sJ0 a) (uE3 a) (bS a) c,rS3 a (A3 (sJ0 a) (uE3 a) c))
def tX0 a:=(R7 a).1
def OX a:=(R7 a).2
theorem nK:SK 24 (AR At At tX0 OX):=fb Tryz.func24 26 [kb kI5,kb mR3] [(3,nJ9)] [(3,[(4,0,6,1003)]),(15,[(1,2,0,0),(4,0,1003,0)])]
abbrev rS4:Type:=(AS×AS×(BY×BY×Int×(List AD)×(List AD)×(Int×Int×(List Int)×Unit)×(Int×Int×(List Int)×Unit)×(List B0)×(List B0)×(List AQ)×(List AQ)×Unit)×(List AD)×(List AD)×Unit)
abbrev vT:Type:=((BY×BY×Int×(List AD)×(List AD)×(Int×Int×(List Int)×Unit)×(Int×Int×(List Int)×Unit)×(List B0)×(List B0)×(List AQ)×(List AQ)×Unit)×Unit)
def oD6 (y:rS4)(x:vT):Vn vT:=
 let g:=y.2.2.2.1
 let c:=y.2.2.2.2.1
 let a:=x.1
 let b:=cond (a.2.2.1<len g) (decide (a.2.2.1<len c)) false
 let d:=nth g a.2.2.1 A9
 let e:=nth c a.2.2.1 A9
 let f:=cond b (KO d e) false
 let h:=(a.1,a.2.1,a.2.2.1+1,a.2.2.2.1,a.2.2.2.2.1,((Q1 a).1.1,(Q1 a).1.2.1,(Q1 a).1.2.2.1,()),((Q2 a).1.1,(Q2 a).1.2.1,(Q2 a).1.2.2.1,()),(Q0 a).1,(Q5 a).1,(Q4 a).1,(Q3 a).1,())
 ((b->A6 a.2.2.1 (len g))/\(b->A6 a.2.2.1 (len c))/\(b->tW9 d e)/\(f->A5 (a.2.2.1+1)),f,(h,()))
def sJ1 y x:=(oD6 y x).1
def sT0 y x:=(oD6 y x).2.1
def Wr y x:=(oD6 y x).2.2
def sT1 (y:rS4)(x:vT):(BY×BY×Int×(List AD)×(List AD)×(Int×Int×(List Int)×Unit)×(Int×Int×(List Int)×Unit)×(List B0)×(List B0)×(List AQ)×(List AQ)×Unit):=
 let a:=x.1
 let b:=(a.1,a.2.1,a.2.2.1,a.2.2.2.1,a.2.2.2.2.1,((Q1 a).1.1,(Q1 a).1.2.1,(Q1 a).1.2.2.1,()),((Q2 a).1.1,(Q2 a).1.2.1,(Q2 a).1.2.2.1,()),(Q0 a).1,(Q5 a).1,(Q4 a).1,(Q3 a).1,())
 b
def oD7:List (Nat×Sh):=[(2,Ag),(3,Ag),(4,Aa),(8,Ad),(9,An),(10,An)]
def mF9:=li [(2,Ag),(3,Ag),(4,Aa),(9,An),(10,An)] [(8,Ad)] sT0 Wr sJ1 (λy x=>[ex 2 none oD7 (y.1,y.2.1,y.2.2.1,(sT1 y x),y.2.2.2.1,y.2.2.2.2.1,())]) [oD7]
abbrev tS2:Type:=(AS×AS×(BY×BY×Int×(List AD)×(List AD)×(Int×Int×(List Int)×Unit)×(Int×Int×(List Int)×Unit)×(List B0)×(List B0)×(List AQ)×(List AQ)×Unit)×(BY×BY×Int×(List AD)×(List AD)×(Int×Int×(List Int)×Unit)×(Int×Int×(List Int)×Unit)×(List B0)×(List B0)×(List AQ)×(List AQ)×Unit)×Unit)
abbrev QB:Type:=((List AD)×(List AD)×Unit)
def qS9 (y:tS2)(x:QB):Vn QB:=
 let d:=x.1
 let a:=x.2.1
 let b:=cond (len d>0) (decide (len a>0)) false
 let f:=len d
 let g:=f-1
 let h:=nth d g A9
 let i:=len a
 let j:=i-1
 let k:=nth a j A9
 let l:=cond b (KO h k) false
 let m:=len d
 let e:=m-1
 let n:=len a
 let c:=n-1
 ((b->A5 (f-1))/\(b->A6 g (len d))/\(b->A5 (i-1))/\(b->A6 j (len a))/\(b->tW9 h k)/\(l->A5 (m-1)/\(0<=e/\e<=len d)/\A5 (n-1)/\0<=c/\c<=len a),l,(take (toNat e) d,take (toNat c) a,()))
def tJ6 y x:=(qS9 y x).1
def sJ2 y x:=(qS9 y x).2.1
def uE4 y x:=(qS9 y x).2.2
def tZ4 (y:tS2)(x:QB):(List AD):=
 x.1
def tZ5 (y:tS2)(x:QB):(List AD):=
 x.2.1
def pF3:List (Nat×Sh):=[(2,Ag),(3,Ag),(4,Aa),(8,Ad),(9,An),(10,An)]
def nK0:=li [(2,Ag),(3,Ag),(4,Aa),(8,Ad)] [(9,An),(10,An)] sJ2 uE4 tJ6 (λy x=>[ex 4 none pF3 (y.1,y.2.1,y.2.2.1,y.2.2.2.1,(tZ4 y x),(tZ5 y x),())]) [pF3]
def Vt (p D:AS):Prop×(Hy×Int×Unit):=
 let M:=Hh p
 let e:=M !=0
 let N:=Hh D
 let f:=N !=0
 let Q:=(C4,C4,(0:Int),([]:List AD),([]:List AD),((0:Int),(0:Int),([]:List Int),()),((0:Int),(0:Int),([]:List Int),()),([]:List B0),([]:List B0),([]:List AQ),([]:List AQ),())
 let R:=(Ej p,Ej D,(0:Int),([]:List AD),([]:List AD),((0:Int),(0:Int),([]:List Int),()),((0:Int),(0:Int),([]:List Int),()),([]:List B0),([]:List B0),([]:List AQ),([]:List AQ),())
 let H:=(p,D,Q,p.2.2.2.1,D.2.2.2.1,())
 let W:=(R,())
 let a:=sT1 H (A3 (sT0 H) (Wr H) W)
 let U:=(C4,C4,(0:Int),([]:List AD),([]:List AD),((0:Int),(0:Int),([]:List Int),()),((0:Int),(0:Int),([]:List Int),()),([]:List B0),([]:List B0),([]:List AQ),([]:List AQ),())
 let K:=(a.1,a.2.1,a.2.2.1,a.2.2.2.1,a.2.2.2.2.1,((Q1 a).1.1,(Q1 a).1.2.1,(Q1 a).1.2.2.1,()),((Q2 a).1.1,(Q2 a).1.2.1,(Q2 a).1.2.2.1,()),(Q0 a).1,(Q5 a).1,(Q4 a).1,(Q3 a).1,())
 let i:=(p,D,U,K,())
 let O:=(drop (toNat a.2.2.1) p.2.2.2.1,drop (toNat a.2.2.1) D.2.2.2.1,())
 let J:=A3 (sJ2 i) (uE4 i) O
 let g:=tZ4 i J
 let h:=tZ5 i J
 let E:=R1 g
 let F:=R1 h
 let b:=!(OU (Q1 p).1 (Q1 D).1)
 let V:=cond b a.1 a.1
 let u:=cond b a.2.1 a.2.1
 let v:=cond b a.2.2.1 a.2.2.1
 let w:=cond b E E
 let z:=cond b F F
 let A:=cond b (OV (Q1 p).1) ((Q1 a).1.1,(Q1 a).1.2.1,(Q1 a).1.2.2.1,())
 let B:=cond b (OV (Q1 D).1) ((Q2 a).1.1,(Q2 a).1.2.1,(Q2 a).1.2.2.1,())
 let C:=cond b (Q4 a).1 (Q4 a).1
 let j:=cond b (Q3 a).1 (Q3 a).1
 let c:=!(OW (Q2 p).1 (Q2 D).1)
 let k:=cond c V V
 let l:=cond c u u
 let m:=cond c v v
 let n:=cond c w w
 let o:=cond c z z
 let q:=cond c A A
 let r:=cond c B B
 let s:=cond c (MW (Q2 p).1) (cond b (Q0 a).1 (Q0 a).1)
 let t:=cond c (MW (Q2 D).1) (cond b (Q5 a).1 (Q5 a).1)
 let d:=!(MZ (Q0 p).1 (Q0 D).1)
 let L:=(cond e C4 (cond f C4 (cond d k k)),cond e C4 (cond f C4 (cond d l l)),cond e 0 (cond f 0 (cond d m m)),cond e [] (cond f [] (cond d n n)),cond e [] (cond f [] (cond d o o)),cond e (0,0,[],()) (cond f (0,0,[],()) (cond d q q)),cond e (0,0,[],()) (cond f (0,0,[],()) (cond d r r)),cond e [] (cond f [] (cond d s s)),cond e [] (cond f [] (cond d t t)),cond e [] (cond f [] (cond d (OX (Q0 p).1) (cond c C C))),cond e [] (cond f [] (cond d (OX (Q0 D).1) (cond c j j))),())
 (aA p/\(!e->aA D/\(!f->qI2 p/\qI2 D/\AB (sT0 H) (Wr H) (sJ1 H) W/\(0<=a.2.2.1/\a.2.2.1<=len p.2.2.2.1)/\(0<=a.2.2.1/\a.2.2.1<=len D.2.2.2.1)/\AB (sJ2 i) (uE4 i) (tJ6 i) O/\sI2 g/\sI2 h/\sI3 (Q1 p).1 (Q1 D).1/\(b->sI4 (Q1 p).1/\sI4 (Q1 D).1)/\sI7 (Q2 p).1 (Q2 D).1/\(c->tJ4 (Q2 p).1/\tJ4 (Q2 D).1)/\sI9 (Q0 p).1 (Q0 D).1/\(d->tX0 (Q0 p).1/\tX0 (Q0 D).1))),(L,cond e M (cond f N 0),()))
def sT2 a b:=(Vt a b).1
def f6 a b:=(Vt a b).2
def lK9:=BC Ar Ar (.tup (.cons Be (.cons vI .nl))) sT2 f6
theorem lL:SK 6 (BC Ar Ar (.tup (.cons Be (.cons vI .nl))) sT2 f6):=fb Tryz.func6 151 [kb mQ7,kb mQ8,kb mR,kb nJ3,kb oD3,kb nJ4,kb oD4,kb nJ7,kb oD5,kb nK] [(9,mF9),(12,nK0)] [(37,[(4,0,130,400804),(4,0,133,400805)]),(43,[(4,0,400804,400404),(4,0,400805,400405)])]
def aD :Prop×Int:=
 (True,4)
def nK1 :Prop:=(aD).1
def f90 :Int:=(aD).2
def mG:Am.Spec:=fnSpec [] vI [] (λx=>nK1 ) (λx=>f90 ) (λ_=>())
theorem kI6:SK 90 (fnSpec [] vI [] (λx=>nK1 ) (λx=>f90 ) (λ_=>())):=fb Tryz.func90 1
def aE (e f g:Int):Prop×(AS×Int×Unit):=
 let a:=cond (cond (cond (e<1) true (e>256)) true (f<1)) true (f>256)
 let c:Bool:=g<0
 let b:=cond c true (g≥f90)
 let d:=(cond a 0 (cond b 0 e),cond a 0 (cond b 0 f),cond a 0 (cond b 0 g),([]:List AD),cond a (0:Int) (cond b 0 1),(cond a 0 (cond b 0 0),cond a (0:Int) (cond b 0 0),([]:List Int),()),([]:List B0),([]:List AQ),())
 (!a->!c->nK1,(d,cond a (15:Int) (cond b 2 0),()))
def mS a b c:=(aE a b c).1
def aF a b c:=(aE a b c).2
def mG0:=DZ vI vI vI (.tup (.cons Ar (.cons vI .nl))) mS aF
def lL0:=Cy [(90,mG)] [] [] 35
theorem kI7:SK 58 mG0:=fq (c:=lL0) Tryz.func58 ⟨kI6,trivial⟩
abbrev Pg:Type:=((List Int)×(List Int)×Unit)
def tS3 (y:Pg)(x:CW):Vm CW:=
 let d:=y.1
 let e:=y.2.1
 let b:=x.1
 let a:Bool:=b<len d
 let c:=nth d b 0!=nth e b 0
 (a->A6 b (len d)/\A6 b (len e)/\(!c->A5 (b+1)),a&&(!c),(b+1,()),a&&c,!a)
def Wv y x:=(tS3 y x).1
def uE6 y x:=(tS3 y x).2.1
def wU y x:=(tS3 y x).2.2.1
def sT3 y x:=(tS3 y x).2.2.2.1
def oT3 y x:=(tS3 y x).2.2.2.2
def rC3 (y:Pg)(x:CW):Bool:=
 false
def oT4:=li [(0,Ao),(1,Ao)] [(5,vI)] uE6 wU Wv (λy x=>[ex 1 (some (sT3 y x)) [(4,vB)] ((rC3 y x),()),ex 2 (some (oT3 y x)) [] ()]) [[(4,vB)],[]]
def lL1 (e f:List Int):Prop×Bool:=
 let b:=len e !=len f
 let a:=(e,f,())
 let d:=((0:Int),())
 let c:=A3 (uE6 a) (wU a) d
 (!b->AB (uE6 a) (wU a) (Wv a) d,cond b false (cond (sT3 a c) (rC3 a c) true))
def tJ7 a b:=(lL1 a b).1
def HF a b:=(lL1 a b).2
theorem nK2:SK 102 (BC Ao Ao vB tJ7 HF):=fb Tryz.func102 26 [] [(4,oT4)]
def IU (b c:EO):Prop×Bool:=
 let a:=cond (b.1==c.1) (b.2.1==c.2.1) false
 (a->tJ7 b.2.2.1 c.2.2.1,cond a (HF b.2.2.1 c.2.2.1) false)
def rC4 a b:=(IU a b).1
def RA a b:=(IU a b).2
theorem kI8:SK 66 (BC Bu Bu vB rC4 RA):=fb Tryz.func66 24 [kb nK2]
abbrev uE7:Type:=(Gn×Gn×Unit)
def W8 (y:uE7)(x:CW):Vm CW:=
 let d:=y.1
 let e:=y.2.1
 let b:=x.1
 let a:Bool:=b<len d.2.2.1
 let c:=!(Ty.eqb CC (nth d.2.2.1 b C4) (nth e.2.2.1 b C4))
 (a->A6 b (len d.2.2.1)/\A6 b (len e.2.2.1)/\(!c->A5 (b+1)),a&&(!c),(b+1,()),a&&c,!a)
def W9 y x:=(W8 y x).1
def bU y x:=(W8 y x).2.1
def JV y x:=(W8 y x).2.2.1
def vL5 y x:=(W8 y x).2.2.2.1
def oT5 y x:=(W8 y x).2.2.2.2
def rC5 (y:uE7)(x:CW):Bool:=
 false
def oT6:=li [(2,Dk),(3,Dk)] [(5,vI)] bU JV W9 (λy x=>[ex 1 (some (vL5 y x)) [(4,vB)] ((rC5 y x),()),ex 2 (some (oT5 y x)) [] ()]) [[(4,vB)],[]]
def lL2 (e f:Gn):Prop×Bool:=
 let b:=cond (cond (e.1 !=f.1) true (e.2.1 !=f.2.1)) true (len e.2.2.1!=len f.2.2.1)
 let a:=(e,f,())
 let d:=((0:Int),())
 let c:=A3 (bU a) (JV a) d
 (!b->AB (bU a) (JV a) (W9 a) d,cond b false (cond (vL5 a c) (rC5 a c) true))
def tZ6 a b:=(lL2 a b).1
def HG a b:=(lL2 a b).2
theorem lL3:SK 103 (BC Cf Cf vB tZ6 HG):=fb Tryz.func103 45 [] [(4,oT6)]
abbrev RR:Type:=((List B4)×(List B4)×Unit)
def tS5 (y:RR)(x:CW):Vm CW:=
 let d:=y.1
 let e:=y.2.1
 let b:=x.1
 let a:Bool:=b<len d
 let c:=!(Ty.eqb Ep (nth d b BZ) (nth e b BZ))
 (a->A6 b (len d)/\A6 b (len e)/\(!c->A5 (b+1)),a&&(!c),(b+1,()),a&&c,!a)
def WC y x:=(tS5 y x).1
def uE9 y x:=(tS5 y x).2.1
def wU0 y x:=(tS5 y x).2.2.1
def VR y x:=(tS5 y x).2.2.2.1
def oT7 y x:=(tS5 y x).2.2.2.2
def rC6 (y:RR)(x:CW):Bool:=
 false
def oT8:=li [(0,Aq),(1,Aq)] [(5,vI)] uE9 wU0 WC (λy x=>[ex 1 (some (VR y x)) [(4,vB)] ((rC6 y x),()),ex 2 (some (oT7 y x)) [] ()]) [[(4,vB)],[]]
def lL4 (e f:List B4):Prop×Bool:=
 let b:=len e !=len f
 let a:=(e,f,())
 let d:=((0:Int),())
 let c:=A3 (uE9 a) (wU0 a) d
 (!b->AB (uE9 a) (wU0 a) (WC a) d,cond b false (cond (VR a c) (rC6 a c) true))
def tZ7 a b:=(lL4 a b).1
def IV a b:=(lL4 a b).2
theorem lL5:SK 104 (BC Aq Aq vB tZ7 IV):=fb Tryz.func104 26 [] [(4,oT8)]
abbrev uF:Type:=((List A8)×(List A8)×Unit)
def WB (y:uF)(x:CW):Vm CW:=
 let d:=y.1
 let e:=y.2.1
 let b:=x.1
 let a:Bool:=b<len d
 let c:=!(Ty.eqb CM (nth d b Z116) (nth e b Z116))
 (a->A6 b (len d)/\A6 b (len e)/\(!c->A5 (b+1)),a&&(!c),(b+1,()),a&&c,!a)
def WD y x:=(WB y x).1
def RX y x:=(WB y x).2.1
def bD y x:=(WB y x).2.2.1
def sT5 y x:=(WB y x).2.2.2.1
def oT9 y x:=(WB y x).2.2.2.2
def rC7 (y:uF)(x:CW):Bool:=
 false
def oU:=li [(0,Ak),(1,Ak)] [(5,vI)] RX bD WD (λy x=>[ex 1 (some (sT5 y x)) [(4,vB)] ((rC7 y x),()),ex 2 (some (oT9 y x)) [] ()]) [[(4,vB)],[]]
def lL6 (e f:List A8):Prop×Bool:=
 let b:=len e !=len f
 let a:=(e,f,())
 let d:=((0:Int),())
 let c:=A3 (RX a) (bD a) d
 (!b->AB (RX a) (bD a) (WD a) d,cond b false (cond (sT5 a c) (rC7 a c) true))
def tZ8 a b:=(lL6 a b).1
def IW a b:=(lL6 a b).2
theorem lL7:SK 105 (BC Ak Ak vB tZ8 IW):=fb Tryz.func105 26 [] [(4,oU)]
abbrev uF1:Type:=(Hw×Hw×Unit)
def WI (y:uF1)(x:CW):Vm CW:=
 let d:=y.1
 let e:=y.2.1
 let b:=x.1
 let a:Bool:=b<len d.2.2.2.1
 let c:=!(Ty.eqb AL (nth d.2.2.2.1 b A1) (nth e.2.2.2.1 b A1))
 (a->A6 b (len d.2.2.2.1)/\A6 b (len e.2.2.2.1)/\(!c->A5 (b+1)),a&&(!c),(b+1,()),a&&c,!a)
def K6 y x:=(WI y x).1
def Y2 y x:=(WI y x).2.1
def JW y x:=(WI y x).2.2.1
def vL6 y x:=(WI y x).2.2.2.1
def oU0 y x:=(WI y x).2.2.2.2
def rC8 (y:uF1)(x:CW):Bool:=
 false
def oU1:=li [(2,(.box TD De)),(3,(.box TD De))] [(5,vI)] Y2 JW K6 (λy x=>[ex 1 (some (vL6 y x)) [(4,vB)] ((rC8 y x),()),ex 2 (some (oU0 y x)) [] ()]) [[(4,vB)],[]]
def lL8 (e f:Hw):Prop×Bool:=
 let b:=cond (cond (cond (e.1 !=f.1) true (e.2.1 !=f.2.1)) true (e.2.2.1 !=f.2.2.1)) true (len e.2.2.2.1!=len f.2.2.2.1)
 let a:=(e,f,())
 let d:=((0:Int),())
 let c:=A3 (Y2 a) (JW a) d
 (!b->AB (Y2 a) (JW a) (K6 a) d,cond b false (cond (vL6 a c) (rC8 a c) true))
def tZ9 a b:=(lL8 a b).1
def HH a b:=(lL8 a b).2
theorem lL9:SK 106 (BC De De vB tZ9 HH):=fb Tryz.func106 52 [] [(4,oU1)]
def HK (i j:AD):Prop×Bool:=
 let c:=cond (cond (HG (Q6 i).1 (Q6 j).1) (Ty.eqb CC (Q9 i).1 (Q9 j).1) false) ((Qc i).1==(Qc j).1) false
 let d:=cond (cond c (HF (Qa i).1 (Qa j).1) false) ((Qf i).1==(Qf j).1) false
 let e:=cond d (IV (Qb i).1 (Qb j).1) false
 let f:=cond (cond e (IW (Q8 i).1 (Q8 j).1) false) ((Qi i).1==(Qi j).1) false
 let g:=cond (cond f ((Qd i).1==(Qd j).1) false) ((Qg i).1==(Qg j).1) false
 let h:=cond (cond g ((Qh i).1==(Qh j).1) false) ((Qk i).1==(Qk j).1) false
 let b:=cond (cond h ((Ql i).1==(Ql j).1) false) ((Qm i).1==(Qm j).1) false
 let a:=cond b ((Qj i).1==(Qj j).1) false
 (tZ6 (Q6 i).1 (Q6 j).1/\(c->tJ7 (Qa i).1 (Qa j).1)/\(d->tZ7 (Qb i).1 (Qb j).1)/\(e->tZ8 (Q8 i).1 (Q8 j).1)/\(a->tZ9 (Qe i).1 (Qe j).1),cond a (HH (Qe i).1 (Qe j).1) false)
def rC9 a b:=(HK a b).1
def Na a b:=(HK a b).2
theorem kI9:SK 67 (BC Bg Bg vB rC9 Na):=fb Tryz.func67 115 [kb nK2,kb lL3,kb lL5,kb lL7,kb lL9]
def IX (e f:AD):Prop×Bool:=
 let c:=cond (cond (cond (cond (e.1==f.1) (e.2.1==f.2.1) false) (e.2.2.1==f.2.2.1) false) (e.2.2.2.1==f.2.2.2.1) false) (Ty.eqb .bool e.2.2.2.2.1 f.2.2.2.2.1) false
 let d:=cond (cond (cond c (Ty.eqb .bool (Q1 e).1 (Q1 f).1) false) (Ty.eqb .bool (Q2 e).1 (Q2 f).1) false) ((Q0 e).1==(Q0 f).1) false
 let a:=cond d ((Q5 e).1==(Q5 f).1) false
 let b:=cond (cond (cond a (RA (Q4 e).1 (Q4 f).1) false) (Ty.eqb He (Q3 e).1 (Q3 f).1) false) ((Q7 e).1==(Q7 f).1) false
 ((a->rC4 (Q4 e).1 (Q4 f).1)/\(b->rC9 e f),cond b (Na e f) false)
def vQ4 a b:=(IX a b).1
def Fk a b:=(IX a b).2
theorem oD8:SK 27 (BC Bg Bg vB vQ4 Fk):=fb Tryz.func27 92 [kb kI8,kb kI9]
abbrev uW6:Type:=(EO×Unit)
def rS5 (y:uW6)(x:CW):Vm CW:=
 let d:=y.1
 let b:=x.1
 let a:Bool:=b<len d.2.2.1
 let e:Bool:=nth d.2.2.1 b 0<0
 let c:=cond e true (nth d.2.2.1 b 0>65535)
 (a->A6 b (len d.2.2.1)/\(!e->A6 b (len d.2.2.1))/\(!c->A5 (b+1)),a&&(!c),(b+1,()),a&&c,!a)
def rS6 y x:=(rS5 y x).1
def rI9 y x:=(rS5 y x).2.1
def uW7 y x:=(rS5 y x).2.2.1
def pF4 y x:=(rS5 y x).2.2.2.1
def nK3 y x:=(rS5 y x).2.2.2.2
def rS7 (y:uW6)(x:CW):Int:=
 2
def nK4:=li [(1,Dl)] [(3,vI)] rI9 uW7 rS6 (λy x=>[ex 1 (some (pF4 y x)) [(2,vI)] ((rS7 y x),()),ex 2 (some (nK3 y x)) [] ()]) [[(2,vI)],[]]
def aH (g:EO):Prop×Int:=
 let b:=cond (cond (cond (g.1<0) true (g.1>256)) true (g.2.1<0)) true (g.2.1>256)
 let c:=!(Ty.eqb .bool (g.1==0) (g.2.1==0))
 let d:=cond c true (len g.2.2.1!=(g.1*g.2.1))
 let a:=(g,())
 let f:=((0:Int),())
 let e:=A3 (rI9 a) (uW7 a) f
 (!b->(!c->A5 (g.1*g.2.1))/\(!d->AB (rI9 a) (uW7 a) (rS6 a) f),cond b 15 (cond d 15 (cond (pF4 a e) (rS7 a e) 0)))
def oD9 a:=(aH a).1
def V4 a:=(aH a).2
theorem mS0:SK 64 (AR Bu vI oD9 V4):=fb Tryz.func64 61 [] [(6,nK4)]
def kJ (a b c:Int):Prop×Bool:=
 (True,cond (a≥b) (decide (a<=c)) false)
def tJ8 a b c:=(kJ a b c).1
def F3 a b c:=(kJ a b c).2
theorem nK5:SK 149 (DZ vI vI vI vB tJ8 F3):=fb Tryz.func149 15
def mG1 (d:Int):Prop×(List UInt8):=
 let b:=cond (d<1) true (d>11)
 let c:=([([103,114,111,117,112]:List UInt8),([105,109,97,103,101]:List UInt8),([102,105,108,108]:List UInt8),([103,114,97,100,105,101,110,116]:List UInt8),([112,97,116,104]:List UInt8),([116,101,120,116]:List UInt8),([97,100,106,117,115,116]:List UInt8),([102,105,108,116,101,114]:List UInt8),([108,105,110,107]:List UInt8),([99,108,111,110,101]:List UInt8),([119,97,114,112]:List UInt8)]:List (List UInt8))
 let a:=d-1
 (!b->A5 (d-1)/\A6 a (len c),cond b [] (nth c a []))
def cC a:=(mG1 a).1
def Nb a:=(mG1 a).2
theorem lM:SK 150 (AR vI vS cC Nb):=fb Tryz.func150 14
abbrev uF2:Type:=((List UInt8)×Unit)
def sJ3 (y:uF2)(x:CW):Vm CW:=
 let c:=y.1
 let a:=x.1
 let e:Bool:=a<len c
 let d:Bool:=BU c a<33
 let b:=cond d true (BU c a>126)
 (e->A6 a (len c)/\(!d->A6 a (len c))/\(!b->A5 (a+1)),e&&(!b),(a+1,()),e&&b,!e)
def qI8 y x:=(sJ3 y x).1
def cF y x:=(sJ3 y x).2.1
def AA y x:=(sJ3 y x).2.2.1
def qI9 y x:=(sJ3 y x).2.2.2.1
def oU2 y x:=(sJ3 y x).2.2.2.2
def rD (y:uF2)(x:CW):Bool:=
 false
def Wu:=li [(0,vS)] [(3,vI)] cF AA qI8 (λy x=>[ex 1 (some (qI9 y x)) [(2,vB)] ((rD y x),()),ex 2 (some (oU2 y x)) [(0,vS)] (y.1,())]) [[(2,vB)],[(0,vS)]]
def kJ0 (d:List UInt8):Prop×Bool:=
 let a:=(d,())
 let c:=((0:Int),())
 let b:=A3 (cF a) (AA a) c
 (AB (cF a) (AA a) (qI8 a) c,cond (qI9 a b) (rD a b) (cond (len d>0) (decide (len d<=32)) false))
def pU0 a:=(kJ0 a).1
def Nc a:=(kJ0 a).2
theorem lM0:SK 151 (AR vS vB pU0 Nc):=fb Tryz.func151 28 [] [(2,Wu)]
def kJ1 (a:Int):Prop×Bool:=
 (True,cond (a≥0) (decide (a<=17)) false)
def nK6 a:=(kJ1 a).1
def RL a:=(kJ1 a).2
theorem lM1:SK 152 (AR vI vB nK6 RL):=fb Tryz.func152 9
def kJ2 (a:AD):Prop×Bool:=
 (True,cond (cond (a.2.1==7) true (a.2.1==8)) true (a.2.1==11))
def nK7 a:=(kJ2 a).1
def aK a:=(kJ2 a).2
theorem lM2:SK 153 (AR Bg vB nK7 aK):=fb Tryz.func153 16
def lM3 (l:AD)(m n:Int):Prop×Int:=
 let b:=!(F3 m 1 256)
 let c:=cond b true (!(F3 n 1 256))
 let d:=Nb l.2.1==[]
 let e:=!(Nc l.2.2.2.1)
 let f:=!(F3 l.1 0 1073741824)
 let g:=cond f true (!(F3 l.2.2.1 0 1073741824))
 let h:=cond g true (!(F3 (Q0 l).1 0 65535))
 let i:=!(RL (Q5 l).1)
 let j:=cond i true (cond (aK l) ((Q5 l).1 !=0) false)
 let k:=V4 (Q4 l).1
 let a:=cond (k !=0) k (cond (cond ((Q4 l).1.1 !=0) (cond ((Q4 l).1.1 !=m) true ((Q4 l).1.2.1 !=n)) false) 15 0)
 (tJ8 m 1 256/\(!b->tJ8 n 1 256)/\(!c->cC l.2.1/\(!d->pU0 l.2.2.2.1/\(!e->tJ8 l.1 0 1073741824/\(!f->tJ8 l.2.2.1 0 1073741824)/\(!g->tJ8 (Q0 l).1 0 65535)/\(!h->nK6 (Q5 l).1/\(!i->nK7 l)/\(!j->oD9 (Q4 l).1))))),cond c 15 (cond d 8 (cond e 13 (cond h 2 (cond j 8 a)))))
def pU1 a b c:=(lM3 a b c).1
def IY a b c:=(lM3 a b c).2
theorem lM4:SK 123 (DZ Bg vI vI vI pU1 IY):=fb Tryz.func123 77 [kb mS0,kb nK5,kb lM,kb lM0,kb lM1,kb lM2]
def lM5 (a:Int):Prop×Bool:=
 (True,cond (cond (cond (cond (a==2) true (a==5)) true (a==6)) true (a==9)) true (a==10))
def pU2 a:=(lM5 a).1
def HL a:=(lM5 a).2
theorem nK8:SK 124 (AR vI vB pU2 HL):=fb Tryz.func124 21
def kJ3 (a b c:Int):Prop×Int:=
 (True,GX c (GW a b))
def rS9 a b c:=(kJ3 a b c).1
def KR a b c:=(kJ3 a b c).2
theorem qT:SK 220 (DZ vI vI vI vI rS9 KR):=fb Tryz.func220 12
def kJ4 (a:Int):Prop×Int:=
 (rS9 a (-16777216:Int) 16777216,KR a (-16777216:Int) 16777216)
def rT a:=(kJ4 a).1
def KS a:=(kJ4 a).2
theorem lM6:SK 183 (AR vI vI rT KS):=fb Tryz.func183 5 [kb qT]
def kJ5 (a:Int):Prop×Int:=
 (rS9 a (-1099511627776:Int) 1099511627776,KR a (-1099511627776:Int) 1099511627776)
def sA a:=(kJ5 a).1
def HM a:=(kJ5 a).2
theorem nK9:SK 184 (AR vI vI sA HM):=fb Tryz.func184 5 [kb qT]
def kJ6 (a:C8):Prop×C8:=
 (rT a.1/\rT a.2.1/\rT a.2.2.1/\rT a.2.2.2.1/\sA a.2.2.2.2.1/\sA (Q1 a).1,(KS a.1,KS a.2.1,KS a.2.2.1,KS a.2.2.2.1,HM a.2.2.2.2.1,HM (Q1 a).1,()))
def qT0 a:=(kJ6 a).1
def KU a:=(kJ6 a).2
theorem nL:SK 154 (AR Bb Bb qT0 KU):=fb Tryz.func154 22 [kb lM6,kb nK9]
def kJ7 (a:C8):Prop×Int:=
 (qT0 a,cond (!(Ty.eqb He (KU a) a)) (2:Int) 0)
def tJ9 a:=(kJ7 a).1
def Ek a:=(kJ7 a).2
theorem qT1:SK 125 (AR Bb vI tJ9 Ek):=fb Tryz.func125 7 [kb nL]
def nL0 (f g:Int):Prop×Int:=
 let e:=g==0
 let b:=cond (f==(-9223372036854775808)) (g==(-1)) false
 let c:=wrap .i64 (tdiv f g)
 let d:=tmod f g
 let a:=cond e 0 (cond b 9223372036854775807 (cond (cond (d !=0) (!(Ty.eqb .bool (decide (d<0)) (decide (g<0)))) false) (wrap .i64 (c-1)) c))
 (!e->!b->g≠0/\g≠0,a)
def uW8 a b:=(nL0 a b).1
def Fl a b:=(nL0 a b).2
theorem nL1:SK 185 (BC vI vI vI uW8 Fl):=fb Tryz.func185 33 [] [] [] true
def oU4 (a:Int):Prop×Int:=
 (True,cond (a<0) (wrap .u64 (0-(wrap .u64 a))) (wrap .u64 a))
def uW9 a:=(oU4 a).1
def BE a:=(oU4 a).2
theorem nL2:SK 186 (AR vI As uW9 BE):=fb Tryz.func186 10 [] [] [] true
def nL3 (f g:Int):Prop×Int:=
 let e:=g==0
 let a:=Fl f g
 let b:=cond (f==(-9223372036854775808)) (g==(-1)) false
 let c:=wrap .i64 (f-(wrap .i64 (g*a)))
 let d:=BE c
 (!e->uW8 f g/\(!b->uW9 c/\uW9 g),cond e 0 (cond b a (cond (d≥wrap .u64 (BE g-d)) (wrap .i64 (a+1)) a)))
def IP a b:=(nL3 a b).1
def B5 a b:=(nL3 a b).2
def nL4:=BC vI vI vI IP B5
theorem vL7:SK 155 (BC vI vI vI IP B5):=fb Tryz.func155 34 [kb nL1,kb nL2] [] [] true
def lM7 (d e f g:Int):Prop×Int:=
 let a:=Fl f 65536
 let b:=Fl g 65536
 let c:=wrap .i64 (wrap .i64 (d*wrap .i64 (f-(wrap .i64 (a*65536))))+wrap .i64 (e*wrap .i64 (g-(wrap .i64 (b*65536)))))
 (uW8 f 65536/\uW8 g 65536/\IP c 65536,wrap .i64 (wrap .i64 (wrap .i64 (d*a)+wrap .i64 (e*b))+B5 c 65536))
def sT6 a b c d:=(lM7 a b c d).1
def HN a b c d:=(lM7 a b c d).2
theorem nL5:SK 156 (H4 vI vI vI vI vI sT6 HN):=fb Tryz.func156 41 [kb vL7,kb nL1] [] [] true
def lM8 (p:C8):Prop×(C8×Int×Unit):=
 let v:=Ek p
 let c:=v !=0
 let a:=wrap .i64 (wrap .i64 (p.1*p.2.2.2.1)-(wrap .i64 (p.2.1*p.2.2.1)))
 let d:=a==0
 let l:=wrap .i64 (p.2.2.2.1*4294967296)
 let e:=B5 l a
 let m:=wrap .i64 (wrap .i64 (sub 0 p.2.1)*4294967296)
 let f:=B5 m a
 let n:=wrap .i64 (wrap .i64 (sub 0 p.2.2.1)*4294967296)
 let g:=B5 n a
 let o:=wrap .i64 (p.1*4294967296)
 let h:=B5 o a
 let k:=(e,f,g,h,(0:Int),(0:Int),())
 let i:=Ek k !=0
 let q:=wrap .i64 (sub 0 e)
 let r:=wrap .i64 (sub 0 g)
 let s:=wrap .i64 (sub 0 f)
 let t:=wrap .i64 (sub 0 h)
 let b:=(e,f,g,h,HN q r p.2.2.2.2.1 (Q1 p).1,HN s t p.2.2.2.2.1 (Q1 p).1,())
 let u:=Ek b !=0
 let j:=cond d (0,0,0,0,0,0,()) (cond i (0,0,0,0,0,0,()) (cond u (0,0,0,0,0,0,()) b))
 (tJ9 p/\(!c->!d->IP l a/\IP m a/\IP n a/\IP o a/\tJ9 k/\(!i->sT6 q r p.2.2.2.2.1 (Q1 p).1/\sT6 s t p.2.2.2.2.1 (Q1 p).1/\tJ9 b)),(cond c (0,0,0,0,0,0,()) j,cond c v (cond d 17 (cond i 17 (cond u 17 0))),()))
def pU3 a:=(lM8 a).1
def Ja a:=(lM8 a).2
theorem lM9:SK 126 (AR Bb (.tup (.cons Bb (.cons vI .nl))) pU3 Ja):=fb Tryz.func126 88 [kb qT1,kb vL7,kb nL5] [] [] true
def lN (a:Int):Prop×Bool:=
 (True,cond (cond (cond (a==2) true (a==9)) true (a==10)) true (a==11))
def pU4 a:=(lN a).1
def HO a:=(lN a).2
theorem nL6:SK 127 (AR vI vB pU4 HO):=fb Tryz.func127 17
def kJ8 (a:Int):Prop×Bool:=
 (True,cond (a≥0) (decide (a<=4)) false)
def nL7 a:=(kJ8 a).1
def Nf a:=(kJ8 a).2
theorem lN0:SK 128 (AR vI vB nL7 Nf):=fb Tryz.func128 9
def kJ9 (a:Int):Prop×Int:=
 (rS9 a 0 65535,KR a 0 65535)
def rT0 a:=(kJ9 a).1
def KV a:=(kJ9 a).2
theorem lN1:SK 202 (AR vI vI rT0 KV):=fb Tryz.func202 5 [kb qT]
def kK (a:BY):Prop×BY:=
 (rT0 a.1/\rT0 a.2.1/\rT0 a.2.2.1/\rT0 a.2.2.2.1,(KV a.1,KV a.2.1,KV a.2.2.1,KV a.2.2.2.1,()))
def nL8 a:=(kK a).1
def aP a:=(kK a).2
theorem lN2:SK 164 (AR Bt Bt nL8 aP):=fb Tryz.func164 16 [kb lN1]
def kK0 (a:BY):Prop×Bool:=
 (nL8 a,Ty.eqb CC (aP a) a)
def VY a:=(kK0 a).1
def GG a:=(kK0 a).2
theorem qT2:SK 131 (AR Bt vB VY GG):=fb Tryz.func131 7 [kb lN2]
abbrev uX:Type:=(Gn×Unit)
def rT1 (y:uX)(x:CW):Vm CW:=
 let e:=y.1
 let c:=x.1
 let a:Bool:=c<len e.2.2.1
 let d:=nth e.2.2.1 c C4
 let b:=!(GG d)
 (a->A6 c (len e.2.2.1)/\VY d/\(!b->A5 (c+1)),a&&(!b),(c+1,()),a&&b,!a)
def rT2 y x:=(rT1 y x).1
def rJ y x:=(rT1 y x).2.1
def uX0 y x:=(rT1 y x).2.2.1
def pF5 y x:=(rT1 y x).2.2.2.1
def nL9 y x:=(rT1 y x).2.2.2.2
def rT3 (y:uX)(x:CW):Int:=
 2
def nM:=li [(1,Dk)] [(3,vI)] rJ uX0 rT2 (λy x=>[ex 1 (some (pF5 y x)) [(2,vI)] ((rT3 y x),()),ex 2 (some (nL9 y x)) [] ()]) [[(2,vI)],[]]
def aR (g:Gn):Prop×Int:=
 let b:=cond (cond (cond (g.1<0) true (g.1>256)) true (g.2.1<0)) true (g.2.1>256)
 let c:=!(Ty.eqb .bool (g.1==0) (g.2.1==0))
 let d:=cond c true (len g.2.2.1!=(g.1*g.2.1))
 let a:=(g,())
 let f:=((0:Int),())
 let e:=A3 (rJ a) (uX0 a) f
 (!b->(!c->A5 (g.1*g.2.1))/\(!d->AB (rJ a) (uX0 a) (rT2 a) f),cond b 15 (cond d 15 (cond (pF5 a e) (rT3 a e) 0)))
def qJ a:=(aR a).1
def LU a:=(aR a).2
theorem mS1:SK 98 (AR Cf vI qJ LU):=fb Tryz.func98 54 [kb qT2] [(6,nM)]
def kK1 (a:BY):Prop×Int:=
 (VY a,cond (!(GG a)) (2:Int) 0)
def tK a:=(kK1 a).1
def f157 a:=(kK1 a).2
def nM0:=AR Bt vI tK f157
theorem pU5:SK 157 (AR Bt vI tK f157):=fb Tryz.func157 6 [kb qT2]
def kK2 (b:Int)(c:List Int)(d:Int):Prop×Int:=
 let a:=cond (cond (cond (cond (b<1) true (b>4)) true (d<0)) true (d>2)) (8:Int) (cond (cond (cond (b==1) (len c !=4) false) true (cond (b !=1) (len c !=3) false)) 1 0)
 (True,a)
def nM1 a b c:=(kK2 a b c).1
def Jb a b c:=(kK2 a b c).2
theorem lN3:SK 187 (DZ vI Ao vI vI nM1 Jb):=fb Tryz.func187 37
abbrev uF3:Type:=(Int×(List Int)×Int×Unit)
def sJ4 (y:uF3)(x:CW):Vm CW:=
 let d:=y.2.1
 let a:=x.1
 let e:Bool:=a<y.2.2.1
 let c:Bool:=nth d a 0<(-1048576)
 let b:=cond c true (nth d a 0>1048576)
 (e->A6 a (len d)/\(!c->A6 a (len d))/\(!b->A5 (a+1)),e&&(!b),(a+1,()),e&&b,!e)
def qJ0 y x:=(sJ4 y x).1
def sJ5 y x:=(sJ4 y x).2.1
def Pz y x:=(sJ4 y x).2.2.1
def qJ1 y x:=(sJ4 y x).2.2.2.1
def qJ2 y x:=(sJ4 y x).2.2.2.2
def rD0 (y:uF3)(x:CW):Int:=
 2
def qJ3:List (Nat×Sh):=[(0,vI),(1,Ao)]
def oU5:=li [(0,vI),(1,Ao),(7,vI)] [(8,vI)] sJ5 Pz qJ0 (λy x=>[ex 1 (some (qJ1 y x)) [(4,vI)] ((rD0 y x),()),ex 2 (some (qJ2 y x)) qJ3 (y.1,y.2.1,())]) [[(4,vI)],qJ3]
def kK3 (e:Int)(f:List Int):Prop×Int:=
 let a:=(e,f,len f,())
 let d:=((0:Int),())
 let c:=A3 (sJ5 a) (Pz a) d
 let b:=cond (e==2) true (e==4)
 (AB (sJ5 a) (Pz a) (qJ0 a) d/\(qJ2 a c->b->A6 2 (len f)),cond (qJ1 a c) (rD0 a c) (cond (cond b (decide (nth f 2 0<0)) false) 2 0))
def nM2 a b:=(kK3 a b).1
def KW a b:=(kK3 a b).2
theorem lN4:SK 188 (BC vI Ao vI nM2 KW):=fb Tryz.func188 36 [] [(2,oU5)]
def uX1 (y:RB)(x:CW):Vm CW:=
 let b:=y.1
 let a:=x.1
 let c:Bool:=a<y.2.1
 let h:Bool:=(nth b a BZ).1<0
 let f:=cond h true ((nth b a BZ).1>65535)
 let i:=nth b a BZ
 let d:=cond f true (!(GG i.2.1))
 let e:Bool:=a>0
 let j:=a-1
 let k:=cond e (decide ((nth b a BZ).1<=(nth b j BZ).1)) false
 let g:=(!d)&&(!k)
 (c->A6 a (len b)/\(!h->A6 a (len b))/\(!f->A6 a (len b))/\(!f->VY i.2.1)/\(!d->(e->A6 a (len b))/\(e->A5 (a-1))/\(e->A6 j (len b)))/\(g->A5 (a+1)),c&&g,(a+1,()),c&&(d||((!d)&&k)),!c)
def sT8 y x:=(uX1 y x).1
def tK0 y x:=(uX1 y x).2.1
def P0 y x:=(uX1 y x).2.2.1
def sT9 y x:=(uX1 y x).2.2.2.1
def oU6 y x:=(uX1 y x).2.2.2.2
def tK1 (y:RB)(x:CW):Int:=
 let b:=y.1
 let a:=x.1
 (cond (cond (cond ((nth b a BZ).1<0) true ((nth b a BZ).1>65535)) true (!(GG (nth b a BZ).2.1))) (2:Int) 24)
def oU7:=li [(0,Aq),(11,vI)] [(12,vI)] tK0 P0 sT8 (λy x=>[ex 1 (some (sT9 y x)) [(2,vI)] ((tK1 y x),()),ex 2 (some (oU6 y x)) [] ()]) [[(2,vI)],[]]
def lN5 (f:List B4):Prop×Int:=
 let c:=len f==0
 let d:Bool:=len f>16
 let a:=(f,len f,())
 let e:=((0:Int),())
 let b:=A3 (tK0 a) (P0 a) e
 (!c->!d->AB (tK0 a) (P0 a) (sT8 a) e,cond c 1 (cond d 3 (cond (sT9 a b) (tK1 a b) 0)))
def pU6 a:=(lN5 a).1
def KX a:=(lN5 a).2
theorem lN6:SK 189 (AR Aq vI pU6 KX):=fb Tryz.func189 55 [kb qT2] [(6,oU7)]
def kK4 (g:Int)(h:List Int)(i:Int)(j:List B4):Prop×Int:=
 let a:=Jb g h i
 let b:=a !=0
 let c:=len j==0
 let d:Bool:=len j>16
 let e:=KW g h
 let f:=e !=0
 (nM1 g h i/\(!b->!c->!d->nM2 g h/\(!f->pU6 j)),cond b a (cond c 1 (cond d 3 (cond f e (KX j)))))
def pU7 a b c d:=(kK4 a b c d).1
def Ng a b c d:=(kK4 a b c d).2
theorem lN7:SK 158 (H4 vI Ao vI Aq vI pU7 Ng):=fb Tryz.func158 31 [kb lN3,kb lN4,kb lN6]
def lN8 (f:Int):Prop×Int:=
 let d:=f==1
 let c:=cond d d (f==2)
 let e:=f==3
 let b:=f==4
 let a:=cond (cond c true (cond e true (cond b true (f==5)))) (cond c 1 (cond e 2 (cond b 3 0))) (-1:Int)
 (True,a)
def Ic a:=(lN8 a).1
def B8 a:=(lN8 a).2
theorem cG:SK 222 (AR vI vI Ic B8):=fb Tryz.func222 13
def lN9 (a:A0):Prop×Bool:=
 (True,cond (cond (cond (a.1≥(-16777216)) (decide (a.1<=16777216)) false) (decide (a.2.1≥(-16777216))) false) (decide (a.2.1<=16777216)) false)
def rT5 a:=(lN9 a).1
def f224 a:=(lN9 a).2
theorem pU8:SK 224 (AR Au vB rT5 f224):=fb Tryz.func224 21
abbrev RZ:Type:=(A8×Unit)
def WJ (y:RZ)(x:CW):Vm CW:=
 let e:=y.1
 let a:=x.1
 let h:Bool:=a<3
 let b:Bool:=a<B8 e.1
 let f:=nth e.2.1 a A1
 let c:=cond b (!(f224 f)) false
 let g:Bool:=a≥B8 e.1
 let d:=cond c true (cond g (!(Ty.eqb AL (nth e.2.1 a A1) (0,0,()))) false)
 (h->Ic e.1/\(b->A6 a 3)/\(b->rT5 f)/\(!c->Ic e.1)/\(((!c)&&g)->A6 a 3)/\(!d->A5 (a+1)),h&&(!d),(a+1,()),h&&d,!h)
def qJ4 y x:=(WJ y x).1
def bZ y x:=(WJ y x).2.1
def RS y x:=(WJ y x).2.2.1
def sU y x:=(WJ y x).2.2.2.1
def W6 y x:=(WJ y x).2.2.2.2
def rD1 (y:RZ)(x:CW):Bool:=
 false
def W7:=li [(1,Bk)] [(3,vI)] bZ RS qJ4 (λy x=>[ex 1 (some (sU y x)) [(2,vB)] ((rD1 y x),()),ex 2 (some (W6 y x)) [] ()]) [[(2,vB)],[]]
def kK5 (d:A8):Prop×Bool:=
 let a:=(d,())
 let c:=((0:Int),())
 let b:=A3 (bZ a) (RS a) c
 (AB (bZ a) (RS a) (qJ4 a) c,cond (sU a b) (rD1 a b) true)
def pU9 a:=(kK5 a).1
def HP a:=(kK5 a).2
theorem lO:SK 255 (AR Dh vB pU9 HP):=fb Tryz.func255 36 [kb cG,kb pU8] [(2,W7)]
abbrev uF6:Type:=((List A8)×Unit)
def P1 (y:uF6)(x:CW):Vm CW:=
 let b:=y.1
 let a:=x.1
 let c:Bool:=a<len b
 let i:=nth b a Z116
 let d:Bool:=B8 i.1<0
 let j:=nth b a Z116
 let e:=!(HP j)
 let f:=(nth b a Z116).1 !=1
 let g:=a==0
 let k:=a-1
 let l:=cond f (cond g true ((nth b k Z116).1==5)) false
 let h:=(!d)&&((!e)&&(!l))
 (c->A6 a (len b)/\Ic i.1/\(!d->A6 a (len b)/\pU9 j/\(!e->A6 a (len b)/\((f&&(!g))->A5 (a-1))/\((f&&(!g))->A6 k (len b))))/\(h->A5 (a+1)),c&&h,(a+1,()),c&&(d||((!d)&&(e||((!e)&&l)))),!c)
def qJ5 y x:=(P1 y x).1
def cH y x:=(P1 y x).2.1
def uM y x:=(P1 y x).2.2.1
def WO y x:=(P1 y x).2.2.2.1
def oV y x:=(P1 y x).2.2.2.2
def uM0 (y:uF6)(x:CW):Int:=
 let a:=y.1
 let b:=x.1
 (cond (B8 (nth a b Z116).1<0) (8:Int) (cond (!(HP (nth a b Z116))) 2 24))
def oV0:=li [(0,Ak)] [(3,vI)] cH uM qJ5 (λy x=>[ex 1 (some (WO y x)) [(2,vI)] ((uM0 y x),()),ex 2 (some (oV y x)) [] ()]) [[(2,vI)],[]]
def kK6 (e:List A8):Prop×Int:=
 let c:Bool:=len e>128
 let a:=(e,())
 let d:=((0:Int),())
 let b:=A3 (cH a) (uM a) d
 (!c->AB (cH a) (uM a) (qJ5 a) d,cond c 3 (cond (WO a b) (uM0 a b) 0))
def Wb a:=(kK6 a).1
def CI a:=(kK6 a).2
theorem qT3:SK 221 (AR Ak vI Wb CI):=fb Tryz.func221 45 [kb cG,kb lO] [(4,oV0)]
def lO0 (f:C8)(g:A0):Prop×A0:=
 let a:=KU f
 let b:=HM g.1
 let c:=HM g.2.1
 let d:=wrap .i64 (HN a.1 a.2.2.1 b c+a.2.2.2.2.1)
 let e:=wrap .i64 (HN a.2.1 a.2.2.2.1 b c+(Q1 a).1)
 (qT0 f/\sA g.1/\sA g.2.1/\sT6 a.1 a.2.2.1 b c/\sA d/\sT6 a.2.1 a.2.2.2.1 b c/\sA e,(HM d,HM e,()))
def pV a b:=(lO0 a b).1
def Nh a b:=(lO0 a b).2
theorem lO1:SK 256 (BC Bb Au Au pV Nh):=fb Tryz.func256 38 [kb nL,kb nL5,kb nK9] [] [] true
def lO2 (b:C8)(c:A0):Prop×A0:=
 let s:=(wrap .i64 (4096*c.1),wrap .i64 (4096*c.2.1),())
 let a:=Nh b s
 (pV b s/\IP a.1 4096/\IP a.2.1 4096,(B5 a.1 4096,B5 a.2.1 4096,()))
def rT6 a b:=(lO2 a b).1
def DW a b:=(lO2 a b).2
theorem nM3:SK 223 (BC Bb Au Au rT6 DW):=fb Tryz.func223 22 [kb vL7,kb lO1] [] [] true
abbrev wX0:Type:=((List A8)×C8×(List A8)×Int×Unit)
abbrev Je:Type:=(A8×Int×Unit)
def tK2 (y:wX0)(x:Je):Vm Je:=
 let g:=y.2.1
 let b:=x.1
 let a:=x.2.1
 let c:Bool:=a<B8 b.1
 let e:=nth b.2.1 a A1
 let s:=set b.2.1 (toNat a) (DW g e)
 let f:=nth s a A1
 let d:=!(f224 f)
 (Ic b.1/\(c->A6 a 3/\rT6 g e/\A6 a 3/\A6 a 3/\rT5 f/\(!d->A5 (a+1))),c&&(!d),((b.1,s,()),a+1,()),c&&d,!c)
def uX2 y x:=(tK2 y x).1
def K5 y x:=(tK2 y x).2.1
def GI y x:=(tK2 y x).2.2.1
def uX3 y x:=(tK2 y x).2.2.2.1
def Sp y x:=(tK2 y x).2.2.2.2
def sJ6 (y:wX0)(x:Je):(List A8):=
 []
def sJ7 (y:wX0)(x:Je):Int:=
 2
def rT7:List (Nat×Sh):=[(4,Bm),(5,vI)]
def cE (y:wX0)(x:Je):A8:=
 x.1
def cN:List (Nat×Sh):=[(0,Ak),(3,Bq),(8,Cn),(9,vI),(10,Bk)]
def pV0:=li [(0,Ak),(3,Bq),(8,Cn),(9,vI)] [(10,Bk),(11,vI)] K5 GI uX2 (λy x=>[ex 1 (some (uX3 y x)) rT7 ((sJ6 y x),(sJ7 y x),()),ex 4 (some (Sp y x)) cN (y.1,y.2.1,y.2.2.1,y.2.2.2.1,(cE y x),())]) [rT7,cN]
abbrev wZ3:Type:=((List A8)×C8×Unit)
def sJ9 (y:wZ3)(x:OK):Vm OK:=
 let h:=y.1
 let i:=x.1
 let e:=x.2.1
 let c:Bool:=e<len h
 let a:=(h,y.2.1,i,e,())
 let g:=(nth h e Z116,(0:Int),())
 let d:=A3 (K5 a) (GI a) g
 let b:=Sp a d
 let f:=([cE a d]:List A8)
 (c->A6 e (len h)/\AB (K5 a) (GI a) (uX2 a) g/\(b->((length i+length f:Nat):Int)<=4294967296)/\(b->A5 (e+1)),c&&b,(i++f,e+1,()),c&&uX3 a d,!c)
def tT y x:=(sJ9 y x).1
def RY y x:=(sJ9 y x).2.1
def wI6 y x:=(sJ9 y x).2.2.1
def sU1 y x:=(sJ9 y x).2.2.2.1
def oV1 y x:=(sJ9 y x).2.2.2.2
def tK3 (y:wZ3)(x:OK):(List A8):=
 let b:=y.1
 let c:=x.2.1
 let a:=(b,y.2.1,x.1,c,())
 (sJ6 a (A3 (K5 a) (GI a) (nth b c Z116,0,())))
def tK4 (y:wZ3)(x:OK):Int:=
 let b:=y.1
 let c:=x.2.1
 let a:=(b,y.2.1,x.1,c,())
 (sJ7 a (A3 (K5 a) (GI a) (nth b c Z116,0,())))
def qJ6:List (Nat×Sh):=[(4,Bm),(5,vI)]
def Pq (y:wZ3)(x:OK):(List A8):=
 x.1
def oV2:=li [(0,Ak),(3,Bq)] [(8,Cn),(9,vI)] RY wI6 tT (λy x=>[ex 1 (some (sU1 y x)) qJ6 ((tK3 y x),(tK4 y x),()),ex 2 (some (oV1 y x)) [(8,Cn)] ((Pq y x),())]) [qJ6,[(8,Cn)]]
def nM4 (i:List A8)(j:C8):Prop×((List A8)×Int×Unit):=
 let e:=CI i
 let c:=e !=0
 let f:=Ek j
 let d:=f !=0
 let a:=(i,j,())
 let h:=(([]:List A8),(0:Int),())
 let g:=A3 (RY a) (wI6 a) h
 let b:=sU1 a g
 (Wb i/\(!c->tJ9 j/\(!d->AB (RY a) (wI6 a) (tT a) h)),(cond c [] (cond d [] (cond b (tK3 a g) (Pq a g))),cond c e (cond d f (cond b (tK4 a g) 0)),()))
def qT4 a b:=(nM4 a b).1
def El a b:=(nM4 a b).2
theorem lO3:SK 190 (BC Ak Bb (.tup (.cons Bm (.cons vI .nl))) qT4 El):=fb Tryz.func190 60 [kb qT1,kb qT3,kb cG,kb nM3,kb pU8] [(9,oV2),(13,pV0)] [(15,[(4,0,22,1008)]),(37,[(4,0,58,1008)]),(39,[(4,0,1008,0)])]
def kK7 (m n o p:Int):Prop×Int:=
 let a:=8-p
 let b:=8-p
 let c:=a*b
 let d:=c*m
 let e:=2*p
 let f:=8-p
 let g:=e*f
 let h:=g*n
 let i:=d+h
 let j:=p*p
 let k:=j*o
 let l:=i+k
 (A5 (8-p)/\A5 (8-p)/\A5 (a*b)/\A5 (c*m)/\A5 (2*p)/\A5 (8-p)/\A5 (e*f)/\A5 (g*n)/\A5 (d+h)/\A5 (p*p)/\A5 (j*o)/\A5 (i+k)/\IP l 64,B5 l 64)
def Wc a b c d:=(kK7 a b c d).1
def GJ a b c d:=(kK7 a b c d).2
theorem lO4:SK 258 (H4 vI vI vI vI vI Wc GJ):=fb Tryz.func258 31 [kb vL7]
def kK8 (p t u v w:Int):Prop×Int:=
 let a:=16-w
 let b:=a*a
 let c:=b*a
 let d:=c*p
 let e:=3*w
 let f:=e*a
 let g:=f*a
 let h:=g*t
 let i:=d+h
 let j:=3*w
 let k:=j*w
 let l:=k*a
 let m:=l*u
 let n:=i+m
 let o:=w*w
 let q:=o*w
 let r:=q*v
 let s:=n+r
 (A5 (16-w)/\A5 (a*a)/\A5 (b*a)/\A5 (c*p)/\A5 (3*w)/\A5 (e*a)/\A5 (f*a)/\A5 (g*t)/\A5 (d+h)/\A5 (3*w)/\A5 (j*w)/\A5 (k*a)/\A5 (l*u)/\A5 (i+m)/\A5 (w*w)/\A5 (o*w)/\A5 (q*v)/\A5 (n+r)/\IP s 4096,B5 s 4096)
def sU3 a b c d e:=(kK8 a b c d e).1
def GK a b c d e:=(kK8 a b c d e).2
theorem lO5:SK 259 (sp5 vI vI vI vI vI vI sU3 GK):=fb Tryz.func259 48 [kb vL7]
def oE (f:List A0)(g:A0):Prop×(List A0):=
 let e:Bool:=len f>0
 let b:=len f
 let a:=b-1
 let c:=cond e (Ty.eqb AL (nth f a A1) g) false
 let d:=([g]:List A0)
 ((e->A5 (b-1))/\(e->A6 a (len f))/\(e->a<len f)/\(!c->((length f+length d:Nat):Int)<=4294967296),cond c f (f++d))
def Wp a b:=(oE a b).1
def uX5 a b:=(oE a b).2
theorem oV3:SK 257 (BC Bl Au Ec Wp uX5):=fb Tryz.func257 23 [] [] [(5,[(4,0,400000,0)]),(7,[(4,0,22,0)])] false [] [22]
abbrev vQ6:Type:=(A0×A8×Unit)
def Ih (y:vQ6)(x:Zj):Vn Zj:=
 let g:=y.1
 let h:=y.2.1
 let i:=x.1
 let a:=x.2.1
 let b:Bool:=a<=8
 let c:=(nth h.2.1 0 A1).1
 let d:=(nth h.2.1 1 A1).1
 let e:=(nth h.2.1 0 A1).2.1
 let f:=(nth h.2.1 1 A1).2.1
 let s:=(GJ g.1 c d a,GJ g.2.1 e f a,())
 (b->A6 0 3/\A6 1 3/\Wc g.1 c d a/\A6 0 3/\A6 1 3/\Wc g.2.1 e f a/\Wp i s/\A5 (a+1),b,(uX5 i s,a+1,()))
def sK y x:=(Ih y x).1
def cA y x:=(Ih y x).2.1
def Lh y x:=(Ih y x).2.2
def Pr (y:vQ6)(x:Zj):(List A0):=
 x.1
def qT5:=li [(4,Cb),(5,Bk)] [(0,Bl),(7,vI)] cA Lh sK (λy x=>[ex 3 none [(0,Bl)] ((Pr y x),())]) [[(0,Bl)]]
def tK7 (y:vQ6)(x:Zj):Vn Zj:=
 let j:=y.1
 let b:=y.2.1
 let k:=x.1
 let a:=x.2.1
 let c:Bool:=a<=16
 let d:=(nth b.2.1 0 A1).1
 let e:=(nth b.2.1 1 A1).1
 let f:=(nth b.2.1 2 A1).1
 let g:=(nth b.2.1 0 A1).2.1
 let h:=(nth b.2.1 1 A1).2.1
 let i:=(nth b.2.1 2 A1).2.1
 let s:=(GK j.1 d e f a,GK j.2.1 g h i a,())
 (c->A6 0 3/\A6 1 3/\A6 2 3/\sU3 j.1 d e f a/\A6 0 3/\A6 1 3/\A6 2 3/\sU3 j.2.1 g h i a/\Wp k s/\A5 (a+1),c,(uX5 k s,a+1,()))
def RC y x:=(tK7 y x).1
def vH0 y x:=(tK7 y x).2.1
def Y4 y x:=(tK7 y x).2.2
def tD4 (y:vQ6)(x:Zj):(List A0):=
 x.1
def qD4:=li [(4,Cb),(5,Bk)] [(0,Bl),(8,vI)] vH0 Y4 RC (λy x=>[ex 5 none [(0,Bl)] ((tD4 y x),())]) [[(0,Bl)]]
def oE0 (k:List A0)(l:A0)(m:A8):Prop×(List A0):=
 let f:=m.1==1
 let b:=cond f f (m.1==2)
 let g:=nth m.2.1 0 A1
 let c:=m.1==3
 let d:=(l,m,())
 let j:=(k,(1:Int),())
 let h:=m.1==4
 let a:=(l,m,())
 let i:=(k,(1:Int),())
 let e:=cond b (uX5 k g) (cond c (Pr d (A3 (cA d) (Lh d) j)) (cond h (tD4 a (A3 (vH0 a) (Y4 a) i)) k))
 ((b->A6 0 3/\Wp k g)/\(b=false->(c->AB (cA d) (Lh d) (sK d) j)/\(c=false->h->AB (vH0 a) (Y4 a) (RC a) i)),e)
def vY8 a b c:=(oE0 a b c).1
def Wd a b c:=(oE0 a b c).2
theorem oV4:SK 225 (DZ Bl Au Dh Ec vY8 Wd):=fx (λc=>{ c with wants:=[(257,[0])] }) Tryz.func225 94 [kb oV3,kb lO4,kb lO5] [(7,qT5),(12,qD4)] [(9,[(4,0,18,400000)]),(19,[(4,0,51,400000)]),(29,[(4,0,92,400000)]),(31,[(4,0,400000,0)])]
abbrev Sb:Type:=(((List (List A0))×Nat)×A0×Int×Unit)
def qT6 (y:uF6)(x:Sb):Vn Sb:=
 let d:=y.1
 let i:=x.1
 let s:=x.2.1
 let c:=x.2.2.1
 let j:Bool:=c<len d
 let f:=(nth d c Z116).1==1
 let e:=cond f (i.1++[[]]) i.1
 let b:=cond f (length i.1) i.2
 let k:=len e
 let a:=k-1
 let l:=len e
 let g:=l-1
 let m:=List.getD e b []
 let n:=nth d c Z116
 let o:=nth d c Z116
 let h:=B8 o.1
 let q:Bool:=h>0
 let r:=h-1
 (j->A6 c (len d)/\(f->((length i.1+1:Nat):Int)<=4294967296)/\A5 (k-1)/\A5 (l-1)/\A6 g (len e)/\(toNat g=b/\g<len e)/\A6 c (len d)/\vY8 m s n/\A6 a (len e)/\(toNat a=b/\a<len e)/\(toNat a=b/\a<len e)/\A6 c (len d)/\Ic o.1/\(q->A5 (h-1)/\A6 c (len d)/\A6 r 3)/\A5 (c+1),j,((set e (toNat a) (Wd m s n),toNat a),cond q (nth (nth d c Z116).2.1 r A1) s,c+1,()))
def W4 y x:=(qT6 y x).1
def tK9 y x:=(qT6 y x).2.1
def vQ8 y x:=(qT6 y x).2.2
def tL (y:uF6)(x:Sb):((List (List A0))×Nat):=
 let a:=x.1
 (a.1,a.2)
def W5:List (Nat×Sh):=[(5,(.ownh AL 1005 9000005 true))]
def WH:=li [(0,Ak)] [(5,(.ownh AL 1005 9000005 true)),(6,Cb),(7,vI)] tK9 vQ8 W4 (λy x=>[ex 2 none W5 ((tL y x),())]) [W5]
def kK9 (e:List A8):Prop×((List (List A0))×Int×Unit):=
 let c:=CI e
 let a:=c !=0
 let b:=(e,())
 let d:=((([]:List (List A0)),length ([]:List (List A0))),((0:Int),(0:Int),()),(0:Int),())
 (Wb e/\(!a->AB (tK9 b) (vQ8 b) (W4 b) d),(cond a [] (tL b (A3 (tK9 b) (vQ8 b) d)).1,cond a c 0,()))
def rT9 a:=(kK9 a).1
def DD a:=(kK9 a).2
theorem nM5:SK 191 (AR Ak (.tup (.cons Al (.cons vI .nl))) rT9 DD):=fx (λc=>{ c with wants:=[(225,[0])] }) Tryz.func191 65 [kb qT3,kb cG,kb oV4] [(7,WH)] [(9,[(4,0,14,1005)]),(20,[(1,5,0,0)]),(21,[(4,0,30,1005),(4,0,100029,9000005)]),(23,[(4,0,46,9000005)]),(31,[(1,2,0,0),(1,2,0,0),(4,0,1005,0)])] false [] [5,14,29,30]
abbrev uF8:Type:=((List (List A0))×Unit)
def sK0 (y:uF8)(x:Y0):Vm Y0:=
 let f:=y.1
 let g:=x.1
 let c:=x.2.1
 let a:Bool:=c<len f
 let d:=len (nth f c [])
 let e:=g+d
 let b:Bool:=e>4096
 (a->A6 c (len f)/\A5 (g+d)/\(!b->A5 (c+1)),a&&(!b),(e,c+1,()),a&&b,!a)
def sU5 y x:=(sK0 y x).1
def uF9 y x:=(sK0 y x).2.1
def Sf y x:=(sK0 y x).2.2.1
def Hk y x:=(sK0 y x).2.2.2.1
def sU6 y x:=(sK0 y x).2.2.2.2
def rD2 (y:uF8)(x:Y0):Int:=
 3
def oV6:=li [(0,Al)] [(5,vI),(6,vI)] uF9 Sf sU5 (λy x=>[ex 1 (some (Hk y x)) [(4,vI)] ((rD2 y x),()),ex 2 (some (sU6 y x)) [(0,Al)] (y.1,())]) [[(4,vI)],[(0,Al)]]
def cD (y:wL9)(x:CW):Vm CW:=
 let h:=y.1
 let d:=y.2.1
 let i:=y.2.2.1
 let e:=x.1
 let a:Bool:=e<len (nth h i [])
 let f:=nth h i []
 let b:=nth f e A1
 let g:=cond (b.1<sub 0 d) true (b.1>d)
 let c:=cond (cond g true (b.2.1<sub 0 d)) true (b.2.1>d)
 (A6 i (len h)/\(a->A6 i (len h)/\A6 e (len f)/\A5 (sub 0 d)/\(!g->A5 (sub 0 d))/\(!c->A5 (e+1))),a&&(!c),(e+1,()),a&&c,!a)
def uX6 y x:=(cD y x).1
def vL9 y x:=(cD y x).2.1
def Sn y x:=(cD y x).2.2.1
def rU y x:=(cD y x).2.2.2.1
def cQ y x:=(cD y x).2.2.2.2
def cJ (y:wL9)(x:CW):Int:=
 2
def rU1:List (Nat×Sh):=[(0,Al),(7,vI),(8,vI)]
def pV1:=li [(0,Al),(7,vI),(8,vI)] [(9,vI)] vL9 Sn uX6 (λy x=>[ex 1 (some (rU y x)) [(4,vI)] ((cJ y x),()),ex 6 (some (cQ y x)) rU1 (y.1,y.2.1,y.2.2.1,())]) [[(4,vI)],rU1]
def cI (y:QY)(x:CW):Vm CW:=
 let g:=y.1
 let f:=x.1
 let c:Bool:=f<len g
 let a:=(g,y.2.1,f,())
 let e:=((0:Int),())
 let d:=A3 (vL9 a) (Sn a) e
 let b:=cQ a d
 (c->AB (vL9 a) (Sn a) (uX6 a) e/\(b->A5 (f+1)),c&&b,(f+1,()),c&&rU a d,!c)
def sA2 y x:=(cI y x).1
def Oy y x:=(cI y x).2.1
def wX3 y x:=(cI y x).2.2.1
def uX7 y x:=(cI y x).2.2.2.1
def pV2 y x:=(cI y x).2.2.2.2
def sK2 (y:QY)(x:CW):Int:=
 let a:=(y.1,y.2.1,x.1,())
 (cJ a (A3 (vL9 a) (Sn a) (0,())))
def pV3:=li [(0,Al),(7,vI)] [(8,vI)] Oy wX3 sA2 (λy x=>[ex 1 (some (uX7 y x)) [(4,vI)] ((sK2 y x),()),ex 4 (some (pV2 y x)) [] ()]) [[(4,vI)],[]]
def lO6 (h:(List (List A0)))(i:Int):Prop×Int:=
 let d:=cond (i !=0) (i !=1) false
 let b:=(h,())
 let g:=((0:Int),(0:Int),())
 let f:=A3 (uF9 b) (Sf b) g
 let a:=(h,(16777216:Int),())
 let e:=((0:Int),())
 let c:=A3 (Oy a) (wX3 a) e
 (!d->AB (uF9 b) (Sf b) (sU5 b) g/\(sU6 b f->AB (Oy a) (wX3 a) (sA2 a) e),cond d 8 (cond (Hk b f) (rD2 b f) (cond (uX7 a c) (sK2 a c) 0)))
def cK a b:=(lO6 a b).1
def E8 a b:=(lO6 a b).2
def nM6:=BC Al vI vI cK E8
theorem pV4:SK 192 (BC Al vI vI cK E8):=fb Tryz.func192 78 [] [(5,oV6),(12,pV3),(15,pV1)]
def qT7 (y:uF6)(x:Yy):Vn Yy:=
 let c:=y.1
 let j:=x.1
 let a:=x.2.1
 let e:Bool:=a<len c
 let f:=(nth c a Z116).1==1
 let g:=([true]:List Bool)
 let d:=cond f (j++g) j
 let h:=(nth c a Z116).1==5
 let i:=len d
 let b:=i-1
 (e->A6 a (len c)/\(f->((length j+length g:Nat):Int)<=4294967296)/\A6 a (len c)/\(h->A5 (i-1)/\A6 b (len d)/\b<len d)/\A5 (a+1),e,(cond h (set d (toNat b) false) d,a+1,()))
def sU7 y x:=(qT7 y x).1
def c6 y x:=(qT7 y x).2.1
def vC9 y x:=(qT7 y x).2.2
def rD3 (y:uF6)(x:Yy):(List Bool):=
 x.1
def oV7:=li [(0,Ak)] [(5,Do),(6,vI)] c6 vC9 sU7 (λy x=>[ex 2 none [(5,Do)] ((rD3 y x),())]) [[(5,Do)]]
def kL (e:List A8):Prop×((List Bool)×Int×Unit):=
 let c:=CI e
 let a:=c !=0
 let b:=(e,())
 let d:=(([]:List Bool),(0:Int),())
 (Wb e/\(!a->AB (c6 b) (vC9 b) (sU7 b) d),(cond a [] (rD3 b (A3 (c6 b) (vC9 b) d)),cond a c 0,()))
def qT8 a:=(kL a).1
def HQ a:=(kL a).2
theorem lO7:SK 193 (AR Ak (.tup (.cons Ee (.cons vI .nl))) qT8 HQ):=fb Tryz.func193 40 [kb qT3] [(6,oV7)] [(9,[(4,0,12,1005)]),(19,[(4,0,27,1005)]),(25,[(1,2,0,0),(4,0,1005,0)])] false [] [12,26,27]
def kL0 (b c d:Int):Prop×Int:=
 let a:=cond (cond (b<1) true (b>4096)) (2:Int) (cond (cond (cond (cond (c<0) true (c>2)) true (d<0)) true (d>2)) 8 0)
 (True,a)
def nM7 a b c:=(kL0 a b c).1
def Jc a b c:=(kL0 a b c).2
theorem lO8:SK 226 (DZ vI vI vI vI nM7 Jc):=fb Tryz.func226 27
def qT9 (y:Zj)(x:Y0):Vn Y0:=
 let a:=y.1
 let c:=x.2.1
 let e:Bool:=c<y.2.1
 let d:=len a
 let b:=tmod (wrap .i64 (c+1)) d
 (e->d≠0/\A6 c (len a)/\A6 b (len a)/\A6 c (len a)/\A6 b (len a),e,(wrap .i64 (x.1+wrap .i64 (wrap .i64 ((nth a c A1).1*(nth a b A1).2.1)-(wrap .i64 ((nth a c A1).2.1*(nth a b A1).1)))),wrap .i64 (c+1),()))
def sU8 y x:=(qT9 y x).1
def tL6 y x:=(qT9 y x).2.1
def Pp y x:=(qT9 y x).2.2
def rD4 (y:Zj)(x:Y0):Int:=
 x.1
def oV8:=li [(0,Bc),(7,vI)] [(3,vI),(8,vI)] tL6 Pp sU8 (λy x=>[ex 2 none [(3,vI)] ((rD4 y x),())]) [[(3,vI)]]
def kL1 (c:List A0):Prop×Int:=
 let a:=(c,len c,())
 let b:=((0:Int),(0:Int),())
 (AB (tL6 a) (Pp a) (sU8 a) b,rD4 a (A3 (tL6 a) (Pp a) b))
def pV5 a:=(kL1 a).1
def GL a:=(kL1 a).2
theorem lO9:SK 287 (AR Bc vI pV5 GL):=fb Tryz.func287 43 [] [(3,oV8)] [] true
def lP :Prop×(List Int):=
 let a:=([(0:Int),(1608:Int),(3216:Int),(4821:Int),(6424:Int),(8022:Int),(9616:Int),(11204:Int),(12785:Int),(14359:Int),(15924:Int),(17479:Int),(19024:Int),(20557:Int),(22078:Int),(23586:Int),(25080:Int),(26558:Int),(28020:Int),(29466:Int),(30893:Int),(32303:Int),(33692:Int),(35062:Int),(36410:Int),(37736:Int),(39040:Int),(40320:Int),(41576:Int),(42806:Int),(44011:Int),(45190:Int),(46341:Int),(47464:Int),(48559:Int),(49624:Int),(50660:Int),(51665:Int),(52639:Int),(53581:Int),(54491:Int),(55368:Int),(56212:Int),(57022:Int),(57798:Int),(58538:Int),(59244:Int),(59914:Int),(60547:Int),(61145:Int),(61705:Int),(62228:Int),(62714:Int),(63162:Int),(63572:Int),(63944:Int),(64277:Int),(64571:Int),(64827:Int),(65043:Int),(65220:Int),(65358:Int),(65457:Int),(65516:Int),(65536:Int)]:List Int)
 (True,a)
def cS :Prop:=(lP).1
def f314 :List Int:=(lP).2
def nM8:Am.Spec:=fnSpec [] (.val Ed) [] (λx=>cS ) (λx=>f314 ) (λ_=>())
theorem lP0:SK 314 (fnSpec [] (.val Ed) [] (λx=>cS ) (λx=>f314 ) (λ_=>())):=fb Tryz.func314 2
def lP1 (e:Int):Prop×Int:=
 let d:=e==16384
 let a:=wrap .i64 (tdiv e 256)
 let b:=wrap .i64 (a+1)
 let c:=wrap .i64 (wrap .i64 (nth f314 b 0-(nth f314 a 0))*wrap .i64 (e-(wrap .i64 (256*a))))
 (cS/\(d->A6 64 65)/\(!d->A6 a 65/\A6 b 65/\A6 a 65/\IP c 256),cond d (nth f314 64 0) (wrap .i64 (nth f314 a 0+B5 c 256)))
def sA3 a:=(lP1 a).1
def KY a:=(lP1 a).2
def nM9:=AR vI vI sA3 KY
def mG2:=Cz [(155,nL4),(314,nM8)] [] [] 30
theorem lP2:SK 309 nM9:=fq (c:=mG2) Tryz.func309 ⟨vL7,lP0,trivial⟩
def lP3 (h:Int):Prop×Int:=
 let g:=wrap .i64 (tdiv h 16384)
 let a:=wrap .i64 (h-(wrap .i64 (16384*g)))
 let b:=g==0
 let c:=g==1
 let e:=wrap .i64 (16384-a)
 let d:=g==2
 let f:=wrap .i64 (16384-a)
 ((b->sA3 a)/\(!b->(c->sA3 e)/\(!c->(d->sA3 a)/\(!d->sA3 f))),cond b (KY a) (cond c (KY e) (cond d (wrap .i64 (sub 0 (KY a))) (wrap .i64 (sub 0 (KY f))))))
def rU3 a:=(lP3 a).1
def RV a:=(lP3 a).2
theorem lP4:SK 303 (AR vI vI rU3 RV):=fb Tryz.func303 29 [kb lP2] [] [] true
def lP5 (d:Int):Prop×(Int×Int×Unit):=
 let c:=tmod d 65536
 let b:=cond (c<0) (wrap .i64 (c+65536)) c
 let a:=tmod (wrap .i64 (b+16384)) 65536
 (rU3 b/\rU3 a,(RV b,RV a,()))
def sU9 a:=(lP5 a).1
def Jd a:=(lP5 a).2
theorem lP6:SK 288 (AR vI (.tup (.cons vI (.cons vI .nl))) sU9 Jd):=fb Tryz.func288 17 [kb lP4] [] [] true
abbrev eV:Type:=(Int×A0×Unit)
def qU (y:eV)(x:Zj):Vn Zj:=
 let h:=y.1
 let i:=y.2.1
 let j:=x.1
 let g:=x.2.1
 let a:Bool:=g<16
 let b:=wrap .i64 (4096*g)
 let c:=Jd b
 let d:=wrap .i64 (h*c.2.1)
 let e:=wrap .i64 (h*c.1)
 let f:=([(wrap .i64 (i.1+B5 d 131072),wrap .i64 (i.2.1+B5 e 131072),())]:List A0)
 (a->sU9 b/\IP d 131072/\IP e 131072/\((length j+length f:Nat):Int)<=4294967296,a,(j++f,wrap .i64 (g+1),()))
def sV y x:=(qU y x).1
def tL8 y x:=(qU y x).2.1
def vD y x:=(qU y x).2.2
def tL9 (y:eV)(x:Zj):(List A0):=
 x.1
def oV9:=li [(1,vI),(2,Cb)] [(5,Br),(6,vI)] tL8 vD sV (λy x=>[ex 2 none [(5,Br)] ((tL9 y x),())]) [[(5,Br)]]
def lP7 (c:A0)(d:Int):Prop×(List A0):=
 let a:=(d,c,())
 let b:=(([]:List A0),(0:Int),())
 (AB (tL8 a) (vD a) (sV a) b,tL9 a (A3 (tL8 a) (vD a) b))
def sV0 a b:=(lP7 a b).1
def Et a b:=(lP7 a b).2
theorem S9:SK 265 (BC Au vI Ca sV0 Et):=fb Tryz.func265 38 [kb vL7,kb lP6] [(3,oV9)] [(13,[(4,0,36,1005)]),(15,[(4,0,1005,0)])] true
def lP8 (g h:Int):Prop×(Int×Int×Unit):=
 let a:=FP .u64 g 4294967295
 let b:=wE g 32 64
 let c:=FP .u64 h 4294967295
 let d:=wE h 32 64
 let e:=wrap .u64 (wrap .u64 (b*c)+wE (wrap .u64 (a*c)) 32 64)
 let f:=wrap .u64 (wrap .u64 (wrap .u64 (b*d)+wE e 32 64)+wE (wrap .u64 (wrap .u64 (a*d)+FP .u64 e 4294967295)) 32 64)
 (True,(f,wrap .u64 (g*h),()))
def rU4 a b:=(lP8 a b).1
def CG a b:=(lP8 a b).2
theorem lP9:SK 301 (BC As As (.tup (.cons As (.cons As .nl))) rU4 CG):=fb Tryz.func301 48 [] [] [] true
def kL2 (c d:Int)(e:Bool):Prop×Int:=
 let a:=cond (c>0) true (d>9223372036854775808)
 let b:=cond ((a||(!a))&&e) (cond a (-9223372036854775808:Int) (wrap .i64 (wrap .u64 (0-d)))) (cond (cond (c>0) true (d>9223372036854775807)) 9223372036854775807 (wrap .i64 d))
 (True,b)
def nN a b c:=(kL2 a b c).1
def RW a b c:=(kL2 a b c).2
theorem lQ:SK 302 (DZ As As vB vI nN RW):=fb Tryz.func302 25 [] [] [] true
def qU0 (y x:Y0):Vn Y0:=
 let d:=y.2.1
 let b:=x.1
 let a:=x.2.1
 let e:Bool:=a>0
 let f:=ior .u64 b a
 let g:=ior .u64 b a
 let c:=CG f g
 (e->rU4 f g,e,(cond (cond (c.1<d) true (cond (c.1==d) (decide (c.2.1<=y.1)) false)) (ior .u64 b a) b,wE a 1 64,()))
def Hl y x:=(qU0 y x).1
def Sd y x:=(qU0 y x).2.1
def Si y x:=(qU0 y x).2.2
def rD5 (y x:Y0):Int:=
 x.1
def oW:=li [(9,As),(10,As)] [(11,As),(12,As)] Sd Si Hl (λy x=>[ex 2 none [(11,As)] ((rD5 y x),())]) [[(11,As)]]
def kL3 (l m:Int):Prop×Int:=
 let d:=BE l
 let e:=BE l
 let b:=CG d e
 let f:=BE m
 let g:=BE m
 let h:=CG f g
 let i:=wrap .u64 (b.2.1+h.2.1)
 let j:=wrap .u64 (b.1+h.1)
 let c:=(i,cond (i<b.2.1) (wrap .u64 (j+1)) j,())
 let k:=((0:Int),(9223372036854775808:Int),())
 let a:=rD5 c (A3 (Sd c) (Si c) k)
 (uW9 l/\uW9 l/\rU4 d e/\uW9 m/\uW9 m/\rU4 f g/\AB (Sd c) (Si c) (Hl c) k/\nN 0 a false,RW 0 a false)
def rU5 a b:=(kL3 a b).1
def Fm a b:=(kL3 a b).2
theorem pV7:SK 286 (BC vI vI vI rU5 Fm):=fb Tryz.func286 74 [kb nL2,kb lP9,kb lQ] [(9,oW)] [] true
end Go.Proofs.YtadggmnllfgjcaaGreatDoor.Am
