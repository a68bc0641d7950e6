/- Printed by program, part 4. No condition. -/
import Derived.Test.YtkmmjpnfhaecdaaGreatDoorDckP3
set_option linter.unusedVariables false
set_option synthInstance.maxSize 4000
set_option synthInstance.maxHeartbeats 400000
namespace Go.Proofs.YtkmmjpnfhaecdaaGreatDoor.Am
open Go Go.Am Go.Proofs
open Go.IntKind (wrap)
open _root_.Int (sub tdiv tmod toNat)
open _root_.List (drop length set take)
def nA7 (a:Unit):Prop×(List AA):=
 ((!true)->((length ([]:List AA)+length ([]:List AA):Nat):Int)<=4294967296,cond true [] (([]:List AA)++[]))
def qN a:=(nA7 a).1
def kL8 a:=(nA7 a).2
instance (a):Decidable (qN a):=by unfold qN nA7;dsimp only;infer_instance
theorem nX9:SK 107 (AU (.nn true) Bk qN kL8):=fb Tryz.func107 8 [] [] [(7,[(4,0,7,0)])]
def nA8 (a:Unit):Prop×(List AA):=
 ((!false)->((length ([]:List AA)+length ([]:List AA):Nat):Int)<=4294967296,cond false [] (([]:List AA)++[]))
def qN0 a:=(nA8 a).1
def kL9 a:=(nA8 a).2
instance (a):Decidable (qN0 a):=by unfold qN0 nA8;dsimp only;infer_instance
theorem nY:SK 107 (AU (.nn false) Bk qN0 kL9):=fb Tryz.func107 8 [] [] [(7,[(4,0,7,0)])]
def nA9 (a:List AA):Prop×(List AA):=
 (0<length a/\((!false)->((length ([]:List AA)+length a:Nat):Int)<=4294967296),cond false [] (([]:List AA)++a))
def qN1 a:=(nA9 a).1
def kM a:=(nA9 a).2
instance (a):Decidable (qN1 a):=by unfold qN1 nA9;dsimp only;infer_instance
theorem nY0:SK 107 (AU Ai Bk qN1 kM):=fb Tryz.func107 8 [] [] [(7,[(4,0,7,0)])]
def Rp (a:List AA):List AA:=a
def UJ (a:List AA):Prop:=(length a:Int)<=4294967296
def lA2:List (Nat×Sh):=[(0,Ai)]
def nB:Sh:=Bk
def lA3:List (Nat×Sh):=[]
def nB0:Am.Spec:=fnSpec lA2 nB lA3 (λx=>UJ x.1) (λx=>Rp x.1) (λ_=>())
theorem lA4:SpecOk Tryz.prog 107 nB0:=PD (rs:=nB) (F:=Rp) (ok:=UJ) nX9 nY nY0 (jF (by kernel_rfl)) (jF (by kernel_rfl)) (λl h hp=>⟨hp,λ_=>by simpa[UJ] using h⟩) rfl rfl (λ_=>rfl)
def nB1 (a:Unit):Prop×(List A0):=
 ((!true)->((length ([]:List A0)+length ([]:List A0):Nat):Int)<=4294967296,cond true [] (([]:List A0)++[]))
def qN2 a:=(nB1 a).1
def kM0 a:=(nB1 a).2
instance (a):Decidable (qN2 a):=by unfold qN2 nB1;dsimp only;infer_instance
theorem nY1:SK 108 (AU (.nn true) Bx qN2 kM0):=fb Tryz.func108 8 [] [] [(7,[(4,0,7,0)])]
def nB2 (a:Unit):Prop×(List A0):=
 ((!false)->((length ([]:List A0)+length ([]:List A0):Nat):Int)<=4294967296,cond false [] (([]:List A0)++[]))
def qN3 a:=(nB2 a).1
def kM1 a:=(nB2 a).2
instance (a):Decidable (qN3 a):=by unfold qN3 nB2;dsimp only;infer_instance
theorem nY2:SK 108 (AU (.nn false) Bx qN3 kM1):=fb Tryz.func108 8 [] [] [(7,[(4,0,7,0)])]
def nB3 (a:List A0):Prop×(List A0):=
 (0<length a/\((!false)->((length ([]:List A0)+length a:Nat):Int)<=4294967296),cond false [] (([]:List A0)++a))
def qN4 a:=(nB3 a).1
def kM2 a:=(nB3 a).2
instance (a):Decidable (qN4 a):=by unfold qN4 nB3;dsimp only;infer_instance
theorem nY3:SK 108 (AU Bd Bx qN4 kM2):=fb Tryz.func108 8 [] [] [(7,[(4,0,7,0)])]
def Rq (a:List A0):List A0:=a
def UK (a:List A0):Prop:=(length a:Int)<=4294967296
def lA5:List (Nat×Sh):=[(0,Bd)]
def nB4:Sh:=Bx
def lA6:List (Nat×Sh):=[]
def nB5:Am.Spec:=fnSpec lA5 nB4 lA6 (λx=>UK x.1) (λx=>Rq x.1) (λ_=>())
theorem lA7:SpecOk Tryz.prog 108 nB5:=PD (rs:=nB4) (F:=Rq) (ok:=UK) nY1 nY2 nY3 (jF (by kernel_rfl)) (jF (by kernel_rfl)) (λl h hp=>⟨hp,λ_=>by simpa[UK] using h⟩) rfl rfl (λ_=>rfl)
def MB (e f:AI):Prop×(AI×Int×Unit):=
 let a:=e.2.1 !=f.2.1
 let b:=((Qj f).1.1,(Qj f).1.2.1,(Qj f).1.2.2.1,Rq (Qj f).1.2.2.2.1,())
 let c:=(e.1,e.2.1,e.2.2.1,e.2.2.2.1,e.2.2.2.2.1,(Q1 e).1,(Q3 e).1,(Q0 e).1,(Q5 e).1,((Q4 e).1.1,(Q4 e).1.2.1,YW (Q4 e).1.2.2.1,()),(Q2 e).1,(Q7 e).1,((Q6 f).1.1,(Q6 f).1.2.1,f50 (Q6 f).1.2.2.1,()),(Q9 f).1,(Qb f).1,YW (Qa f).1,(Qe f).1,Ro (Qd f).1,Rp (Q8 f).1,(Qi f).1,(Qc f).1,(Qf f).1,(Qg f).1,(Qk f).1,(Ql f).1,(Qm f).1,(Qh f).1,b,())
 let d:=((0:Int),(0:Int),(0:Int),([]:List UInt8),false,false,false,(0:Int),(0:Int),((0:Int),(0:Int),([]:List Int),()),Lv,(0:Int),((0:Int),(0:Int),([]:List CP),()),G6,(0:Int),([]:List Int),(0:Int),([]:List B4),([]:List AA),(0:Int),(0:Int),(0:Int),(0:Int),([]:List UInt8),(0:Int),(0:Int),(0:Int),((0:Int),(0:Int),(0:Int),([]:List A0),()),())
 (!a->O8 (Q4 e).1.2.2.1/\Rn (Q6 f).1.2.2.1/\O8 (Qa f).1/\UI (Qd f).1/\UJ (Q8 f).1/\UK (Qj f).1.2.2.2.1,(cond a d c,cond a 8 0,()))
def qZ a b:=(MB a b).1
def YX a b:=(MB a b).2
theorem lX5:SK 77 (BG Bc Bc (.tup (.cons Bc (.cons vI .nl))) qZ YX):=fb Tryz.func77 82 [kb mJ6,kb mJ8,kb lA1,kb lA4,kb lA7]
def Rr (a:AI):Prop×AI:=
 (qZ a a,(YX a a).1)
def Rs a:=(Rr a).1
def UL a:=(Rr a).2
theorem nB6:SK 46 (AU Bc Bc Rs UL):=fb Tryz.func46 12 [kb lX5]
def lA8 (a:Unit):Prop×(List C3):=
 ((!true)->((length ([]:List C3)+length ([]:List C3):Nat):Int)<=4294967296,cond true [] (([]:List C3)++[]))
def pM4 a:=(lA8 a).1
def f48a a:=(lA8 a).2
instance (a):Decidable (pM4 a):=by unfold pM4 lA8;dsimp only;infer_instance
theorem lA9:SK 48 (AU (.nn true) Dc pM4 f48a):=fb Tryz.func48 8 [] [] [(7,[(4,0,7,0)])]
def lB (a:Unit):Prop×(List C3):=
 ((!false)->((length ([]:List C3)+length ([]:List C3):Nat):Int)<=4294967296,cond false [] (([]:List C3)++[]))
def pM5 a:=(lB a).1
def f48b a:=(lB a).2
instance (a):Decidable (pM5 a):=by unfold pM5 lB;dsimp only;infer_instance
theorem lB0:SK 48 (AU (.nn false) Dc pM5 f48b):=fb Tryz.func48 8 [] [] [(7,[(4,0,7,0)])]
def lB1 (a:List C3):Prop×(List C3):=
 (0<length a/\((!false)->((length ([]:List C3)+length a:Nat):Int)<=4294967296),cond false [] (([]:List C3)++a))
def pM6 a:=(lB1 a).1
def f48c a:=(lB1 a).2
instance (a):Decidable (pM6 a):=by unfold pM6 lB1;dsimp only;infer_instance
theorem lB2:SK 48 (AU Bn Dc pM6 f48c):=fb Tryz.func48 8 [] [] [(7,[(4,0,7,0)])]
def f48 (a:List C3):List C3:=a
def UM (a:List C3):Prop:=(length a:Int)<=4294967296
def lX6:List (Nat×Sh):=[(0,Bn)]
def mJ9:Sh:=Dc
def lX7:List (Nat×Sh):=[]
def nY4:Am.Spec:=fnSpec lX6 mJ9 lX7 (λx=>UM x.1) (λx=>f48 x.1) (λ_=>())
theorem lX8:SpecOk Tryz.prog 48 nY4:=PD (rs:=mJ9) (F:=f48) (ok:=UM) lA9 lB0 lB2 (jF (by kernel_rfl)) (jF (by kernel_rfl)) (λl h hp=>⟨hp,λ_=>by simpa[UM] using h⟩) rfl rfl (λ_=>rfl)
def lB3 (a:Unit):Prop×(List C4):=
 ((!true)->((length ([]:List C4)+length ([]:List C4):Nat):Int)<=4294967296,cond true [] (([]:List C4)++[]))
def pM7 a:=(lB3 a).1
def f49a a:=(lB3 a).2
instance (a):Decidable (pM7 a):=by unfold pM7 lB3;dsimp only;infer_instance
theorem lB4:SK 49 (AU (.nn true) Df pM7 f49a):=fb Tryz.func49 8 [] [] [(7,[(4,0,7,0)])] false [] [5,7]
def lB5 (a:Unit):Prop×(List C4):=
 ((!false)->((length ([]:List C4)+length ([]:List C4):Nat):Int)<=4294967296,cond false [] (([]:List C4)++[]))
def pM8 a:=(lB5 a).1
def f49b a:=(lB5 a).2
instance (a):Decidable (pM8 a):=by unfold pM8 lB5;dsimp only;infer_instance
theorem lB6:SK 49 (AU (.nn false) Df pM8 f49b):=fb Tryz.func49 8 [] [] [(7,[(4,0,7,0)])] false [] [5,7]
def lB7 (a:List C4):Prop×(List C4):=
 (0<length a/\((!false)->((length ([]:List C4)+length a:Nat):Int)<=4294967296),cond false [] (([]:List C4)++a))
def pM9 a:=(lB7 a).1
def f49c a:=(lB7 a).2
instance (a):Decidable (pM9 a):=by unfold pM9 lB7;dsimp only;infer_instance
theorem lB8:SK 49 (AU Bf Df pM9 f49c):=fb Tryz.func49 8 [] [] [(7,[(4,0,7,0)])] false [] [5,7]
def f49 (a:List C4):List C4:=a
def UN (a:List C4):Prop:=(length a:Int)<=4294967296
def lX9:List (Nat×Sh):=[(0,Bf)]
def mK:Sh:=Df
def lY:List (Nat×Sh):=[]
def nY5:Am.Spec:=fnSpec lX9 mK lY (λx=>UN x.1) (λx=>f49 x.1) (λ_=>())
theorem lY0:SpecOk Tryz.prog 49 nY5:=PD (rs:=mK) (F:=f49) (ok:=UN) lB4 lB6 lB8 (jF (by kernel_rfl)) (jF (by kernel_rfl)) (λl h hp=>⟨hp,λ_=>by simpa[UN] using h⟩) rfl rfl (λ_=>rfl)
abbrev sC7:Type:=(AJ×(Int×Int×Int×(List AI)×Int×(Int×Int×(List Int)×Unit)×(List C3)×(List C4)×Unit)×(List AI)×Int×Unit)
abbrev Rt:Type:=((Int×Int×Int×(List AI)×Int×FN×(List C3)×(List C4)×Unit)×Int×Unit)
def qN5 (y:sC7)(x:Rt):Vn Rt:=
 let c:=y.2.2.1
 let b:=x.1
 let a:=x.2.1
 let d:Bool:=a<y.2.2.2.1
 let e:=nth c a A9
 (d->A7 a (len c)/\Rs e/\A7 a (len b.2.2.2.1)/\a<len b.2.2.2.1/\A6 (a+1),d,((b.1,b.2.1,b.2.2.1,set b.2.2.2.1 (toNat a) (UL e),b.2.2.2.2),a+1,()))
def YY y x:=(qN5 y x).1
def O9 y x:=(qN5 y x).2.1
def MC y x:=(qN5 y x).2.2
def tU7 (y:sC7)(x:Rt):(Int×Int×Int×(List AI)×Int×FN×(List C3)×(List C4)×Unit):=
 let a:=x.1
 (a.1,a.2.1,a.2.2.1,a.2.2.2.1,a.2.2.2.2.1,(Q1 a).1,(Q3 a).1,(Q0 a).1,())
def qZ0:List (Nat×Sh):=[(1,Ae),(2,Aa),(3,Ax)]
def nB7:=li [(1,Ae),(2,Aa),(15,Ar),(16,vI)] [(3,Ax),(17,vI)] O9 MC YY (λy x=>[ex 2 none qZ0 (y.1,y.2.1,(tU7 y x),())]) [qZ0]
abbrev tE6:Type:=((Int×Int×Int×(List AI)×Int×(Int×Int×(List Int)×Unit)×(List C3)×(List C4)×Unit)×(List C4)×Int×Unit)
def rC1 (y:tE6)(x:Rt):Vn Rt:=
 let c:=y.2.1
 let b:=x.1
 let a:=x.2.1
 let d:Bool:=a<y.2.2.1
 let e:=nth c a CS
 let f:=((nth (Q0 b).1 a CS).1,(nth (Q0 b).1 a CS).2.1,(nth (Q0 b).1 a CS).2.2.1,(nth (Q0 b).1 a CS).2.2.2.1,((nth (Q0 b).1 a CS).2.2.2.2.1.1,(nth (Q0 b).1 a CS).2.2.2.2.1.2.1,f50 e.2.2.2.2.1.2.2.1,()),())
 (d->A7 a (len c)/\Rn e.2.2.2.2.1.2.2.1/\A7 a (len (Q0 b).1)/\a<len (Q0 b).1/\A6 (a+1),d,((b.1,b.2.1,b.2.2.1,b.2.2.2.1,b.2.2.2.2.1,(Q1 b).1,(Q3 b).1,set (Q0 b).1 (toNat a) f,()),a+1,()))
def tN4 y x:=(rC1 y x).1
def YZ y x:=(rC1 y x).2.1
def Za y x:=(rC1 y x).2.2
def sV7 (y:tE6)(x:Rt):(Int×Int×Int×(List AI)×Int×FN×(List C3)×(List C4)×Unit):=
 let a:=x.1
 (a.1,a.2.1,a.2.2.1,a.2.2.2.1,a.2.2.2.2.1,(Q1 a).1,(Q3 a).1,(Q0 a).1,())
def qD7:List (Nat×Sh):=[(2,Aa),(3,Aw)]
def oK4:=li [(2,Aa),(44,Bf),(45,vI)] [(3,Aw),(46,vI)] YZ Za tN4 (λy x=>[ex 4 none qD7 (y.1,(sV7 y x),())]) [qD7]
def MD (i:AJ):Prop×(Int×Int×Int×(List AI)×Int×FN×(List C3)×(List C4)×Unit):=
 let d:=len i.2.2.2.1
 let e:=(i,((0:Int),(0:Int),(0:Int),([]:List AI),(0:Int),((0:Int),(0:Int),([]:List Int),()),([]:List C3),([]:List C4),()),i.2.2.2.1,len i.2.2.2.1,())
 let h:=((i.1,i.2.1,i.2.2.1,List.replicate (toNat d) A9,i.2.2.2.2),(0:Int),())
 let b:=tU7 e (A3 (O9 e) (MC e) h)
 let g:=(b.1,b.2.1,b.2.2.1,b.2.2.2.1,b.2.2.2.2.1,((Q1 b).1.1,(Q1 b).1.2.1,YW (Q1 i).1.2.2.1,()),f48 (Q3 i).1,f49 (Q0 i).1,())
 let c:=(((0:Int),(0:Int),(0:Int),([]:List AI),(0:Int),((0:Int),(0:Int),([]:List Int),()),([]:List C3),([]:List C4),()),(Q0 i).1,len (Q0 i).1,())
 let f:=(g,(0:Int),())
 let a:=sV7 c (A3 (YZ c) (Za c) f)
 ((0<=d/\d<=d/\d<=4294967296)/\AB (O9 e) (MC e) (YY e) h/\O8 (Q1 i).1.2.2.1/\UM (Q3 i).1/\UN (Q0 i).1/\AB (YZ c) (Za c) (tN4 c) f,(a.1,a.2.1,a.2.2.1,a.2.2.2.1,a.2.2.2.2.1,(Q1 a).1,(Q3 a).1,(Q0 a).1,()))
def OA a:=(MD a).1
def E3 a:=(MD a).2
def nY6:=AU Al (.agg (.cons Ab (.cons Ab (.cons Ab (.cons Cr (.cons Ab (.cons Hy (.cons Cs (.cons Ct .nl)))))))) (.cons vI (.cons vI (.cons vI (.cons Co (.cons vI (.cons Ca (.cons Bn (.cons Dx .nl))))))))) OA E3
theorem nB8:SK 13 (AU Al (.agg (.cons Ab (.cons Ab (.cons Ab (.cons Cr (.cons Ab (.cons Hy (.cons Cs (.cons Ct .nl)))))))) (.cons vI (.cons vI (.cons vI (.cons Co (.cons vI (.cons Ca (.cons Bn (.cons Dx .nl))))))))) OA E3):=fb Tryz.func13 63 [kb nB6,kb mJ6,kb lX8,kb lY0,kb mJ8] [(4,nB7),(12,oK4)] [(5,[(4,0,12,400300)]),(19,[(4,0,37,400302)]),(21,[(4,0,41,400303)]),(33,[(4,0,400300,0),(4,0,400302,2),(4,0,400303,3)])] false [] [12]
def ME (a:List AI)(b c:Int):List AI:=take (toNat b) a++drop (toNat c) a
def Zb (a:List AI)(b c:Int):Prop:=0<=b/\b<c/\c<=(length a:Int)
def lY1:List (Nat×Sh):=[(0,(.own DD 400000 true)),(1,Dy),(2,Dy)]
def lY2:Sh:=Co
def lY3:List (Nat×Sh):=[]
def pW:Am.Spec:=fnSpec lY1 lY2 lY3 (λx=>Zb x.1 x.2.1 x.2.2.1) (λx=>ME x.1 x.2.1 x.2.2.1) (λ_=>())
theorem lY4:SpecOk Tryz.prog 15 pW:=nV1 rfl ⟨_,Tryz.func15,by kernel_rfl,by decide⟩ lS3
def qN6 (y:LA)(x:Fj):Vn Fj:=
 let g:=y.2.1
 let f:=x.1
 let a:=x.2.1
 let b:Bool:=a<y.2.2.1
 let c:=nth g a A9
 let d:=c.2.2.1==y.1
 let e:=([c.1]:List Int)
 (b->A7 a (len g)/\(d->((length f+length e:Nat):Int)<=4294967296)/\A6 (a+1),b,(cond d (f++e) f,a+1,()))
def sC9 y x:=(qN6 y x).1
def qN7 y x:=(qN6 y x).2.1
def tU8 y x:=(qN6 y x).2.2
def rL6 (y:LA)(x:Fj):(List Int):=
 x.1
def qZ2:List (Nat×Sh):=[(5,Au)]
def nB9:=li [(1,vI),(9,Ar),(10,vI)] [(5,Au),(11,vI)] qN7 tU8 sC9 (λy x=>[ex 2 none qZ2 ((rL6 y x),())]) [qZ2]
def Ru (c:AJ)(d:Int):Prop×(List Int):=
 let a:=(d,c.2.2.2.1,len c.2.2.2.1,())
 let b:=(([]:List Int),(0:Int),())
 (AB (qN7 a) (tU8 a) (sC9 a) b,rL6 a (A3 (qN7 a) (tU8 a) b))
def sD a b:=(Ru a b).1
def FY a b:=(Ru a b).2
def nY7:=BG Al vI Bg sD FY
theorem mK0:SK 16 (BG Al vI Bg sD FY):=fb Tryz.func16 26 [] [(3,nB9)] [(13,[(4,0,23,1005)]),(17,[(4,0,1005,0)])]
def tN5 (y:LA)(x:Fj):Vn Fj:=
 let g:=y.2.1
 let f:=x.1
 let a:=x.2.1
 let b:Bool:=a<y.2.2.1
 let c:=nth g a A9
 let d:=c.2.2.1==y.1
 let e:=([c.1]:List Int)
 (b->A7 a (len g)/\(d->((length f+length e:Nat):Int)<=4294967296)/\A6 (a+1),b,(cond d (f++e) f,a+1,()))
def Zc y x:=(tN5 y x).1
def uS y x:=(tN5 y x).2.1
def vM5 y x:=(tN5 y x).2.2
def tS0 (y:LA)(x:Fj):(List Int):=
 x.1
def sV9:List (Nat×Sh):=[(5,Au)]
def qZ3:=li [(1,vI),(9,Ar),(10,vI)] [(5,Au),(11,vI)] uS vM5 Zc (λy x=>[ex 2 none sV9 ((tS0 y x),())]) [sV9]
def pN (c:AJ)(d:Int):Prop×(List Int):=
 let a:=(d,c.2.2.2.1,len c.2.2.2.1,())
 let b:=(([]:List Int),(0:Int),())
 (AB (uS a) (vM5 a) (Zc a) b,tS0 a (A3 (uS a) (vM5 a) b))
def UO a b:=(pN a b).1
def pW0 a b:=(pN a b).2
theorem qZ4:SK 16 (BG Al vI Ak UO pW0):=fb Tryz.func16 26 [] [(3,qZ3)] [(13,[(4,0,23,1005)]),(17,[(4,0,1005,0)])]
def UP (a:List AI)(b:Int)(c:List AI):List AI:=take (toNat b) a++(c++drop (toNat b) a)
def sW (a:List AI)(b:Int)(c:List AI):Prop:=0<=b/\b<=(length a:Int)/\0<length c/\((length a+length c:Nat):Int)<=4294967296
def lY5:List (Nat×Sh):=[(0,(.own DD 400000 true)),(1,Dy),(2,Dj)]
def lY6:Sh:=Co
def lY7:List (Nat×Sh):=[]
def pW1:Am.Spec:=fnSpec lY5 lY6 lY7 (λx=>sW x.1 x.2.1 x.2.2.1) (λx=>UP x.1 x.2.1 x.2.2.1) (λ_=>())
theorem nC:SpecOk Tryz.prog 17 pW1:=nV0 rfl ⟨_,Tryz.func17,by kernel_rfl,by decide⟩ lS4
def Rv (h:AJ)(i j:Int):Prop×Int:=
 let a:=FY h i
 let b:Bool:=j<len a
 let c:=nth a j 0
 let d:=i==0
 let e:=f9 h i
 let f:=e+1
 let g:=len (CJ h i)
 (sD h i/\(b->A7 j (len a)/\Io h c)/\(!b->!d->Io h i/\A6 (e+1)/\M9 h i/\A6 (f+g)),cond b (f9 h c) (cond d (len h.2.2.2.1) (f+g)))
def Rw a b c:=(Rv a b c).1
def OB a b c:=(Rv a b c).2
def nY8:=DT Al vI vI vI Rw OB
theorem mK1:SK 18 (DT Al vI vI vI Rw OB):=fb Tryz.func18 35 [kb QV,kb oZ8,kb mK0] [] [(3,[(4,0,10,1007)])]
def Rx (c:AJ):Prop×(AJ×Int×Unit):=
 let a:=f8 c
 let b:=a !=0
 (rL c,(cond b (0,0,0,[],0,(0,0,[],()),[],[],()) c,cond b a 0,()))
def Ry a:=(Rx a).1
def UQ a:=(Rx a).2
def nY9:=AU Al (.tup (.cons Al (.cons vI .nl))) Ry UQ
theorem mK2:SK 19 (AU Al (.tup (.cons Al (.cons vI .nl))) Ry UQ):=fb Tryz.func19 12 [kb UB]
def MF (p:AJ)(D E F:Int):Prop×(AJ×Int×Unit):=
 let t:=f8 p
 let g:=t !=0
 let b:=f9 p D
 let h:Bool:=b<0
 let u:=Iq p E
 let i:=u !=0
 let j:=CJ p D
 let v:=E==D
 let k:=cond v true (MA j E)
 let a:=E3 p
 let w:=b+1
 let z:=len j
 let e:=w+z
 let c:=drop (toNat b) (take (toNat e) a.2.2.2.1)
 let s:=((nth c 0 A9).1,(nth c 0 A9).2.1,E,(nth c 0 A9).2.2.2)
 let d:=set c (toNat 0) s
 let f:=ME a.2.2.2.1 b e
 let A:Bool:=F<0
 let o:=(a.1,a.2.1,a.2.2.1,f,a.2.2.2.2)
 let l:=cond A true (F>len (FY o E))
 let q:=(a.1,a.2.1,a.2.2.1,f,a.2.2.2.2)
 let B:=OB q E F
 let r:=(a.1,a.2.1,a.2.2.1,UP f B d,a.2.2.2.2)
 let C:=UQ r
 let m:=cond k (0,0,0,[],0,(0,0,[],()),[],[],()) (cond l (0,0,0,[],0,(0,0,[],()),[],[],()) C.1)
 let n:=cond h (0,0,0,[],0,(0,0,[],()),[],[],()) (cond i (0,0,0,[],0,(0,0,[],()),[],[],()) m)
 (rL p/\(!g->Io p D/\(!h->Ri p E/\(!i->M9 p D/\(!v->UH j E)/\(!k->OA p/\A6 (b+1)/\A6 (w+z)/\(0<=b/\b<=e/\e<=len a.2.2.2.1)/\(0<length c/\(length c:Int)<=4294967296)/\A7 0 (len c)/\(0:Int)<len c/\Zb a.2.2.2.1 b e/\((!A)->sD o E)/\(!l->Rw q E F/\sW f B d/\Ry r))))),(cond g (0,0,0,[],0,(0,0,[],()),[],[],()) n,cond g t (cond h 9 (cond i u (cond k 11 (cond l 2 C.2.1)))),()))
def Rz a b c d:=(MF a b c d).1
def f4 a b c d:=(MF a b c d).2
def nC0:=Fy Al vI vI vI (.tup (.cons Al (.cons vI .nl))) Rz f4
def lY8:Ctx:={ Cx tys [(8,mY8),(9,mY2),(10,nX1),(11,nX2),(12,nX3),(13,nY6),(15,pW),(16,nY7),(17,pW1),(18,nY8),(19,nY9)] [] [(21,[(4,0,38,1013)]),(27,[(4,0,49,401400),(4,0,300049,401403)]),(31,[(4,0,60,1016)]),(35,[(4,0,69,401400)]),(41,[(4,0,89,401400)]),(42,[(1,14,3,0),(1,14,7,0)])] false 95 [] [] with wants:=[(15,[0]),(17,[0,2])],clones:=[(14,43)] }
theorem lY9:CtxOk Tryz.prog lY8:=xZ9 PE rfl ⟨UB,QV,mJ4,oZ8,lX0,nB8,lY4,mK0,nC,mK1,mK2,trivial⟩ rfl (by kernel_rfl) rfl nV7
theorem lZ:SK 4 nC0:=fl lY9 Tryz.func4 (bs:=[]) trivial
def Zd :Prop×Int:=
 (True,4)
def nC1 :Prop:=(Zd).1
def f79 :Int:=(Zd).2
def nZ:Am.Spec:=fnSpec [] vI [] (λx=>nC1 ) (λx=>f79 ) (λ_=>())
theorem lZ0:SK 79 (fnSpec [] vI [] (λx=>nC1 ) (λx=>f79 ) (λ_=>())):=fb Tryz.func79 1
def Ze (e f g:Int):Prop×(AJ×Int×Unit):=
 let a:=cond (cond (cond (e<1) true (e>256)) true (f<1)) true (f>256)
 let c:Bool:=g<0
 let b:=cond c true (g≥f79)
 let d:=(cond a 0 (cond b 0 e),cond a 0 (cond b 0 f),cond a 0 (cond b 0 g),([]:List AI),cond a (0:Int) (cond b 0 1),(cond a 0 (cond b 0 0),cond a (0:Int) (cond b 0 0),([]:List Int),()),([]:List C3),([]:List C4),())
 (!a->!c->nC1,(d,cond a (15:Int) (cond b 2 0),()))
def mK3 a b c:=(Ze a b c).1
def Zf a b c:=(Ze a b c).2
def nZ0:=DT vI vI vI (.tup (.cons Al (.cons vI .nl))) mK3 Zf
def lB9:=Cy [(79,nZ)] [] [] 35
theorem lZ1:SK 53 nZ0:=fq (c:=lB9) Tryz.func53 ⟨lZ0,trivial⟩
def Zg (y:LA)(x:AD):Vm AD:=
 let d:=y.2.1
 let a:=x.1
 let b:Bool:=a<y.2.2.1
 let c:=(nth d a A9).1==y.1
 (b->A7 a (len d)/\(!c->A6 (a+1)),b&&(!c),(a+1,()),b&&c,!b)
def qZ5 y x:=(Zg y x).1
def qN8 y x:=(Zg y x).2.1
def tU9 y x:=(Zg y x).2.2.1
def qZ6 y x:=(Zg y x).2.2.2.1
def nC2 y x:=(Zg y x).2.2.2.2
def rM (y:LA)(x:AD):Int:=
 x.1
def nC3:=li [(1,vI),(8,Ar),(9,vI)] [(10,vI)] qN8 tU9 qZ5 (λy x=>[ex 1 (some (qZ6 y x)) [(4,vI)] ((rM y x),()),ex 2 (some (nC2 y x)) [] ()]) [[(4,vI)],[]]
def Zh (d:AJ)(e:Int):Prop×Int:=
 let a:=(e,d.2.2.2.1,len d.2.2.2.1,())
 let c:=((0:Int),())
 let b:=A3 (qN8 a) (tU9 a) c
 (AB (qN8 a) (tU9 a) (qZ5 a) c,cond (qZ6 a b) (rM a b) (-1:Int))
def LB a b:=(Zh a b).1
def DU a b:=(Zh a b).2
theorem R1:SK 21 (BG Al vI vI LB DU):=fb Tryz.func21 21 [] [(2,nC3)]
abbrev uB3:Type:=((List Int)×(List Int)×Unit)
def Zi (y:uB3)(x:AD):Vm AD:=
 let d:=y.1
 let e:=y.2.1
 let b:=x.1
 let a:Bool:=b<len d
 let c:=nth d b 0!=nth e b 0
 (a->A7 b (len d)/\A7 b (len e)/\(!c->A6 (b+1)),a&&(!c),(b+1,()),a&&c,!a)
def tN6 y x:=(Zi y x).1
def Zj y x:=(Zi y x).2.1
def Zk y x:=(Zi y x).2.2.1
def sM8 y x:=(Zi y x).2.2.2.1
def oK5 y x:=(Zi y x).2.2.2.2
def sW0 (y:uB3)(x:AD):Bool:=
 false
def oK6:=li [(0,Ak),(1,Ak)] [(5,vI)] Zj Zk tN6 (λy x=>[ex 1 (some (sM8 y x)) [(4,vB)] ((sW0 y x),()),ex 2 (some (oK5 y x)) [] ()]) [[(4,vB)],[]]
def lZ2 (e f:List Int):Prop×Bool:=
 let b:=len e !=len f
 let a:=(e,f,())
 let d:=((0:Int),())
 let c:=A3 (Zj a) (Zk a) d
 (!b->AB (Zj a) (Zk a) (tN6 a) d,cond b false (cond (sM8 a c) (sW0 a c) true))
def Zl a b:=(lZ2 a b).1
def IL a b:=(lZ2 a b).2
theorem nC4:SK 119 (BG Ak Ak vB Zl IL):=fb Tryz.func119 26 [] [(4,oK6)]
def R2 (b c:FN):Prop×Bool:=
 let a:=cond (b.1==c.1) (b.2.1==c.2.1) false
 (a->Zl b.2.2.1 c.2.2.1,cond a (IL b.2.2.1 c.2.2.1) false)
def Zm a b:=(R2 a b).1
def UR a b:=(R2 a b).2
theorem lZ3:SK 90 (BG Ca Ca vB Zm UR):=fb Tryz.func90 24 [kb nC4]
abbrev uB4:Type:=(Hg×Hg×Unit)
def Zn (y:uB4)(x:AD):Vm AD:=
 let d:=y.1
 let e:=y.2.1
 let b:=x.1
 let a:Bool:=b<len d.2.2.1
 let c:=!(Ty.eqb EP (nth d.2.2.1 b G6) (nth e.2.2.1 b G6))
 (a->A7 b (len d.2.2.1)/\A7 b (len e.2.2.1)/\(!c->A6 (b+1)),a&&(!c),(b+1,()),a&&c,!a)
def tN7 y x:=(Zn y x).1
def US y x:=(Zn y x).2.1
def UT y x:=(Zn y x).2.2.1
def Zo y x:=(Zn y x).2.2.2.1
def oK7 y x:=(Zn y x).2.2.2.2
def sW1 (y:uB4)(x:AD):Bool:=
 false
def oK8:=li [(2,Dg),(3,Dg)] [(5,vI)] US UT tN7 (λy x=>[ex 1 (some (Zo y x)) [(4,vB)] ((sW1 y x),()),ex 2 (some (oK7 y x)) [] ()]) [[(4,vB)],[]]
def lZ4 (e f:Hg):Prop×Bool:=
 let b:=cond (cond (e.1 !=f.1) true (e.2.1 !=f.2.1)) true (len e.2.2.1!=len f.2.2.1)
 let a:=(e,f,())
 let d:=((0:Int),())
 let c:=A3 (US a) (UT a) d
 (!b->AB (US a) (UT a) (tN7 a) d,cond b false (cond (Zo a c) (sW1 a c) true))
def qN9 a b:=(lZ4 a b).1
def IM a b:=(lZ4 a b).2
theorem lC:SK 120 (BG Cd Cd vB qN9 IM):=fb Tryz.func120 45 [] [(4,oK8)]
abbrev uB5:Type:=((List B4)×(List B4)×Unit)
def Zp (y:uB5)(x:AD):Vm AD:=
 let d:=y.1
 let e:=y.2.1
 let b:=x.1
 let a:Bool:=b<len d
 let c:=!(Ty.eqb FO (nth d b CG) (nth e b CG))
 (a->A7 b (len d)/\A7 b (len e)/\(!c->A6 (b+1)),a&&(!c),(b+1,()),a&&c,!a)
def tN8 y x:=(Zp y x).1
def Zq y x:=(Zp y x).2.1
def Zr y x:=(Zp y x).2.2.1
def sM9 y x:=(Zp y x).2.2.2.1
def oK9 y x:=(Zp y x).2.2.2.2
def sW2 (y:uB5)(x:AD):Bool:=
 false
def oL:=li [(0,Ao),(1,Ao)] [(5,vI)] Zq Zr tN8 (λy x=>[ex 1 (some (sM9 y x)) [(4,vB)] ((sW2 y x),()),ex 2 (some (oK9 y x)) [] ()]) [[(4,vB)],[]]
def lZ5 (e f:List B4):Prop×Bool:=
 let b:=len e !=len f
 let a:=(e,f,())
 let d:=((0:Int),())
 let c:=A3 (Zq a) (Zr a) d
 (!b->AB (Zq a) (Zr a) (tN8 a) d,cond b false (cond (sM9 a c) (sW2 a c) true))
def qO a b:=(lZ5 a b).1
def K4 a b:=(lZ5 a b).2
theorem lC0:SK 121 (BG Ao Ao vB qO K4):=fb Tryz.func121 26 [] [(4,oL)]
abbrev uB6:Type:=((List AA)×(List AA)×Unit)
def Zs (y:uB6)(x:AD):Vm AD:=
 let d:=y.1
 let e:=y.2.1
 let b:=x.1
 let a:Bool:=b<len d
 let c:=!(Ty.eqb DS (nth d b A5) (nth e b A5))
 (a->A7 b (len d)/\A7 b (len e)/\(!c->A6 (b+1)),a&&(!c),(b+1,()),a&&c,!a)
def tN9 y x:=(Zs y x).1
def tF y x:=(Zs y x).2.1
def vP y x:=(Zs y x).2.2.1
def sN y x:=(Zs y x).2.2.2.1
def oL0 y x:=(Zs y x).2.2.2.2
def sW3 (y:uB6)(x:AD):Bool:=
 false
def oL1:=li [(0,Ai),(1,Ai)] [(5,vI)] tF vP tN9 (λy x=>[ex 1 (some (sN y x)) [(4,vB)] ((sW3 y x),()),ex 2 (some (oL0 y x)) [] ()]) [[(4,vB)],[]]
def lZ6 (e f:List AA):Prop×Bool:=
 let b:=len e !=len f
 let a:=(e,f,())
 let d:=((0:Int),())
 let c:=A3 (tF a) (vP a) d
 (!b->AB (tF a) (vP a) (tN9 a) d,cond b false (cond (sN a c) (sW3 a c) true))
def qO0 a b:=(lZ6 a b).1
def K5 a b:=(lZ6 a b).2
theorem lC1:SK 122 (BG Ai Ai vB qO0 K5):=fb Tryz.func122 26 [] [(4,oL1)]
abbrev uB7:Type:=(I8×I8×Unit)
def Zt (y:uB7)(x:AD):Vm AD:=
 let d:=y.1
 let e:=y.2.1
 let b:=x.1
 let a:Bool:=b<len d.2.2.2.1
 let c:=!(Ty.eqb AQ (nth d.2.2.2.1 b A1) (nth e.2.2.2.1 b A1))
 (a->A7 b (len d.2.2.2.1)/\A7 b (len e.2.2.2.1)/\(!c->A6 (b+1)),a&&(!c),(b+1,()),a&&c,!a)
def tO y x:=(Zt y x).1
def UU y x:=(Zt y x).2.1
def UW y x:=(Zt y x).2.2.1
def Zu y x:=(Zt y x).2.2.2.1
def oL2 y x:=(Zt y x).2.2.2.2
def sW4 (y:uB7)(x:AD):Bool:=
 false
def oL3:=li [(2,(.box Tn Da)),(3,(.box Tn Da))] [(5,vI)] UU UW tO (λy x=>[ex 1 (some (Zu y x)) [(4,vB)] ((sW4 y x),()),ex 2 (some (oL2 y x)) [] ()]) [[(4,vB)],[]]
def lZ7 (e f:I8):Prop×Bool:=
 let b:=cond (cond (cond (e.1 !=f.1) true (e.2.1 !=f.2.1)) true (e.2.2.1 !=f.2.2.1)) true (len e.2.2.2.1!=len f.2.2.2.1)
 let a:=(e,f,())
 let d:=((0:Int),())
 let c:=A3 (UU a) (UW a) d
 (!b->AB (UU a) (UW a) (tO a) d,cond b false (cond (Zu a c) (sW4 a c) true))
def qO1 a b:=(lZ7 a b).1
def IP a b:=(lZ7 a b).2
theorem lC2:SK 123 (BG Da Da vB qO1 IP):=fb Tryz.func123 52 [] [(4,oL3)]
def MG (i j:AI):Prop×Bool:=
 let c:=cond (cond (IM (Q6 i).1 (Q6 j).1) (Ty.eqb EP (Q9 i).1 (Q9 j).1) false) ((Qb i).1==(Qb j).1) false
 let d:=cond (cond c (IL (Qa i).1 (Qa j).1) false) ((Qe i).1==(Qe j).1) false
 let e:=cond d (K4 (Qd i).1 (Qd j).1) false
 let f:=cond (cond e (K5 (Q8 i).1 (Q8 j).1) false) ((Qi i).1==(Qi j).1) false
 let g:=cond (cond f ((Qc i).1==(Qc j).1) false) ((Qf i).1==(Qf j).1) false
 let h:=cond (cond g ((Qg i).1==(Qg j).1) false) ((Qk i).1==(Qk j).1) false
 let b:=cond (cond h ((Ql i).1==(Ql j).1) false) ((Qm i).1==(Qm j).1) false
 let a:=cond b ((Qh i).1==(Qh j).1) false
 (qN9 (Q6 i).1 (Q6 j).1/\(c->Zl (Qa i).1 (Qa j).1)/\(d->qO (Qd i).1 (Qd j).1)/\(e->qO0 (Q8 i).1 (Q8 j).1)/\(a->qO1 (Qj i).1 (Qj j).1),cond a (IP (Qj i).1 (Qj j).1) false)
def Zv a b:=(MG a b).1
def OC a b:=(MG a b).2
theorem lZ8:SK 91 (BG Bc Bc vB Zv OC):=fb Tryz.func91 115 [kb nC4,kb lC,kb lC0,kb lC1,kb lC2]
def R3 (e f:AI):Prop×Bool:=
 let c:=cond (cond (cond (cond (e.1==f.1) (e.2.1==f.2.1) false) (e.2.2.1==f.2.2.1) false) (e.2.2.2.1==f.2.2.2.1) false) (Ty.eqb .bool e.2.2.2.2.1 f.2.2.2.2.1) false
 let d:=cond (cond (cond c (Ty.eqb .bool (Q1 e).1 (Q1 f).1) false) (Ty.eqb .bool (Q3 e).1 (Q3 f).1) false) ((Q0 e).1==(Q0 f).1) false
 let a:=cond d ((Q5 e).1==(Q5 f).1) false
 let b:=cond (cond (cond a (UR (Q4 e).1 (Q4 f).1) false) (Ty.eqb Hz (Q2 e).1 (Q2 f).1) false) ((Q7 e).1==(Q7 f).1) false
 ((a->Zm (Q4 e).1 (Q4 f).1)/\(b->Zv e f),cond b (OC e f) false)
def OD a b:=(R3 a b).1
def JG a b:=(R3 a b).2
theorem mK4:SK 63 (BG Bc Bc vB OD JG):=fb Tryz.func63 92 [kb lZ3,kb lZ8]
abbrev uS1:Type:=(FN×Unit)
def Zw (y:uS1)(x:AD):Vm AD:=
 let d:=y.1
 let b:=x.1
 let a:Bool:=b<len d.2.2.1
 let e:Bool:=nth d.2.2.1 b 0<0
 let c:=cond e true (nth d.2.2.1 b 0>65535)
 (a->A7 b (len d.2.2.1)/\(!e->A7 b (len d.2.2.1))/\(!c->A6 (b+1)),a&&(!c),(b+1,()),a&&c,!a)
def rM3 y x:=(Zw y x).1
def rC2 y x:=(Zw y x).2.1
def uS2 y x:=(Zw y x).2.2.1
def qZ9 y x:=(Zw y x).2.2.2.1
def nC5 y x:=(Zw y x).2.2.2.2
def rM4 (y:uS1)(x:AD):Int:=
 2
def nC6:=li [(1,(.box Hy Ca))] [(3,vI)] rC2 uS2 rM3 (λy x=>[ex 1 (some (qZ9 y x)) [(2,vI)] ((rM4 y x),()),ex 2 (some (nC5 y x)) [] ()]) [[(2,vI)],[]]
def Zx (g:FN):Prop×Int:=
 let b:=cond (cond (cond (g.1<0) true (g.1>256)) true (g.2.1<0)) true (g.2.1>256)
 let c:=!(Ty.eqb .bool (g.1==0) (g.2.1==0))
 let d:=cond c true (len g.2.2.1!=(g.1*g.2.1))
 let a:=(g,())
 let f:=((0:Int),())
 let e:=A3 (rC2 a) (uS2 a) f
 (!b->(!c->A6 (g.1*g.2.1))/\(!d->AB (rC2 a) (uS2 a) (rM3 a) f),cond b 15 (cond d 15 (cond (qZ9 a e) (rM4 a e) 0)))
def pW2 a:=(Zx a).1
def UX a:=(Zx a).2
theorem mK5:SK 59 (AU Ca vI pW2 UX):=fb Tryz.func59 61 [] [(6,nC6)]
def lZ9 (a b c:Int):Prop×Bool:=
 (True,cond (a≥b) (decide (a<=c)) false)
def OE a b c:=(lZ9 a b c).1
def Fz a b c:=(lZ9 a b c).2
theorem nC7:SK 141 (DT vI vI vI vB OE Fz):=fb Tryz.func141 15
def nZ1 (d:Int):Prop×(List UInt8):=
 let b:=cond (d<1) true (d>11)
 let c:=([([103,114,111,117,112]:List UInt8),([105,109,97,103,101]:List UInt8),([102,105,108,108]:List UInt8),([103,114,97,100,105,101,110,116]:List UInt8),([112,97,116,104]:List UInt8),([116,101,120,116]:List UInt8),([97,100,106,117,115,116]:List UInt8),([102,105,108,116,101,114]:List UInt8),([108,105,110,107]:List UInt8),([99,108,111,110,101]:List UInt8),([119,97,114,112]:List UInt8)]:List (List UInt8))
 let a:=d-1
 (!b->A6 (d-1)/\A7 a (len c),cond b [] (nth c a []))
def Zy a:=(nZ1 a).1
def MH a:=(nZ1 a).2
theorem lC3:SK 142 (AU vI vS Zy MH):=fb Tryz.func142 14
abbrev UY:Type:=((List UInt8)×Unit)
def Zz (y:UY)(x:AD):Vm AD:=
 let c:=y.1
 let a:=x.1
 let e:Bool:=a<len c
 let d:Bool:=wD c a<33
 let b:=cond d true (wD c a>126)
 (e->A7 a (len c)/\(!d->A7 a (len c))/\(!b->A6 (a+1)),e&&(!b),(a+1,()),e&&b,!e)
def qD8 y x:=(Zz y x).1
def UZ y x:=(Zz y x).2.1
def Vh y x:=(Zz y x).2.2.1
def qD9 y x:=(Zz y x).2.2.2.1
def oL4 y x:=(Zz y x).2.2.2.2
def sW6 (y:UY)(x:AD):Bool:=
 false
def oL5:=li [(0,vS)] [(3,vI)] UZ Vh qD8 (λy x=>[ex 1 (some (qD9 y x)) [(2,vB)] ((sW6 y x),()),ex 2 (some (oL4 y x)) [(0,vS)] (y.1,())]) [[(2,vB)],[(0,vS)]]
def kA (d:List UInt8):Prop×Bool:=
 let a:=(d,())
 let c:=((0:Int),())
 let b:=A3 (UZ a) (Vh a) c
 (AB (UZ a) (Vh a) (qD8 a) c,cond (qD9 a b) (sW6 a b) (cond (len d>0) (decide (len d<=32)) false))
def pN1 a:=(kA a).1
def f143 a:=(kA a).2
theorem lC4:SK 143 (AU vS vB pN1 f143):=fb Tryz.func143 28 [] [(2,oL5)]
def kA0 (a:Int):Prop×Bool:=
 (True,cond (a≥0) (decide (a<=17)) false)
def nC8 a:=(kA0 a).1
def R4 a:=(kA0 a).2
theorem lC5:SK 144 (AU vI vB nC8 R4):=fb Tryz.func144 9
def kA1 (a:AI):Prop×Bool:=
 (True,cond (cond (a.2.1==7) true (a.2.1==8)) true (a.2.1==11))
def nC9 a:=(kA1 a).1
def ZA a:=(kA1 a).2
theorem lC6:SK 145 (AU Bc vB nC9 ZA):=fb Tryz.func145 16
def lC7 (l:AI)(m n:Int):Prop×Int:=
 let b:=!(Fz m 1 256)
 let c:=cond b true (!(Fz n 1 256))
 let d:=MH l.2.1==[]
 let e:=!(f143 l.2.2.2.1)
 let f:=!(Fz l.1 0 1073741824)
 let g:=cond f true (!(Fz l.2.2.1 0 1073741824))
 let h:=cond g true (!(Fz (Q0 l).1 0 65535))
 let i:=!(R4 (Q5 l).1)
 let j:=cond i true (cond (ZA l) ((Q5 l).1 !=0) false)
 let k:=UX (Q4 l).1
 let a:=cond (k !=0) k (cond (cond ((Q4 l).1.1 !=0) (cond ((Q4 l).1.1 !=m) true ((Q4 l).1.2.1 !=n)) false) 15 0)
 (OE m 1 256/\(!b->OE n 1 256)/\(!c->Zy l.2.1/\(!d->pN1 l.2.2.2.1/\(!e->OE l.1 0 1073741824/\(!f->OE l.2.2.1 0 1073741824)/\(!g->OE (Q0 l).1 0 65535)/\(!h->nC8 (Q5 l).1/\(!i->nC9 l)/\(!j->pW2 (Q4 l).1))))),cond c 15 (cond d 8 (cond e 13 (cond h 2 (cond j 8 a)))))
def pN2 a b c:=(lC7 a b c).1
def IQ a b c:=(lC7 a b c).2
theorem lC8:SK 110 (DT Bc vI vI vI pN2 IQ):=fb Tryz.func110 77 [kb mK5,kb nC7,kb lC3,kb lC4,kb lC5,kb lC6]
def lC9 (a:Int):Prop×Bool:=
 (True,cond (cond (cond (cond (a==2) true (a==5)) true (a==6)) true (a==9)) true (a==10))
def pN3 a:=(lC9 a).1
def HG a:=(lC9 a).2
theorem nD:SK 111 (AU vI vB pN3 HG):=fb Tryz.func111 21
def kA2 (a b c:Int):Prop×Int:=
 (True,GX c (GW a b))
def ZB a b c:=(kA2 a b c).1
def K6 a b c:=(kA2 a b c).2
theorem qO2:SK 212 (DT vI vI vI vI ZB K6):=fb Tryz.func212 12
def kA3 (a:Int):Prop×Int:=
 (ZB a (-16777216:Int) 16777216,K6 a (-16777216:Int) 16777216)
def ZC a:=(kA3 a).1
def K7 a:=(kA3 a).2
theorem lD:SK 175 (AU vI vI ZC K7):=fb Tryz.func175 5 [kb qO2]
def kA4 (a:Int):Prop×Int:=
 (ZB a (-1099511627776:Int) 1099511627776,K6 a (-1099511627776:Int) 1099511627776)
def tV a:=(kA4 a).1
def HH a:=(kA4 a).2
theorem nD0:SK 176 (AU vI vI tV HH):=fb Tryz.func176 5 [kb qO2]
def kA5 (a:C1):Prop×C1:=
 (ZC a.1/\ZC a.2.1/\ZC a.2.2.1/\ZC a.2.2.2.1/\tV a.2.2.2.2.1/\tV (Q1 a).1,(K7 a.1,K7 a.2.1,K7 a.2.2.1,K7 a.2.2.2.1,HH a.2.2.2.2.1,HH (Q1 a).1,()))
def qO3 a:=(kA5 a).1
def K8 a:=(kA5 a).2
theorem nD1:SK 146 (AU Az Az qO3 K8):=fb Tryz.func146 22 [kb lD,kb nD0]
def kA6 (a:C1):Prop×Int:=
 (qO3 a,cond (!(Ty.eqb Hz (K8 a) a)) (2:Int) 0)
def OF a:=(kA6 a).1
def Ec a:=(kA6 a).2
theorem qO4:SK 112 (AU Az vI OF Ec):=fb Tryz.func112 7 [kb nD1]
def ZD (f g:Int):Prop×Int:=
 let e:=g==0
 let b:=cond (f==(-9223372036854775808)) (g==(-1)) false
 let c:=wrap .i64 (tdiv f g)
 let d:=tmod f g
 let a:=cond e 0 (cond b 9223372036854775807 (cond (cond (d !=0) (!(Ty.eqb .bool (decide (d<0)) (decide (g<0)))) false) (wrap .i64 (c-1)) c))
 (!e->!b->g≠0/\g≠0,a)
def MI a b:=(ZD a b).1
def Fk a b:=(ZD a b).2
theorem nD3:SK 177 (BG vI vI vI MI Fk):=fb Tryz.func177 33 [] [] [] true
def Vi (a:Int):Prop×Int:=
 (True,cond (a<0) (wrap .u64 (0-(wrap .u64 a))) (wrap .u64 a))
def MJ a:=(Vi a).1
def BD a:=(Vi a).2
theorem nD4:SK 178 (AU vI Ap MJ BD):=fb Tryz.func178 10 [] [] [] true
def ZE (f g:Int):Prop×Int:=
 let e:=g==0
 let a:=Fk f g
 let b:=cond (f==(-9223372036854775808)) (g==(-1)) false
 let c:=wrap .i64 (f-(wrap .i64 (g*a)))
 let d:=BD c
 (!e->MI f g/\(!b->MJ c/\MJ g),cond e 0 (cond b a (cond (d≥wrap .u64 (BD g-d)) (wrap .i64 (a+1)) a)))
def Es a b:=(ZE a b).1
def B3 a b:=(ZE a b).2
def nD6:=BG vI vI vI Es B3
theorem vK:SK 147 (BG vI vI vI Es B3):=fb Tryz.func147 34 [kb nD3,kb nD4] [] [] true
def lD0 (d e f g:Int):Prop×Int:=
 let a:=Fk f 65536
 let b:=Fk g 65536
 let c:=wrap .i64 (wrap .i64 (d*wrap .i64 (f-(wrap .i64 (a*65536))))+wrap .i64 (e*wrap .i64 (g-(wrap .i64 (b*65536)))))
 (MI f 65536/\MI g 65536/\Es c 65536,wrap .i64 (wrap .i64 (wrap .i64 (d*a)+wrap .i64 (e*b))+B3 c 65536))
def Vj a b c d:=(lD0 a b c d).1
def HK a b c d:=(lD0 a b c d).2
theorem nD7:SK 148 (Fy vI vI vI vI vI Vj HK):=fb Tryz.func148 41 [kb vK,kb nD3] [] [] true
def lD1 (p:C1):Prop×(C1×Int×Unit):=
 let v:=Ec p
 let c:=v !=0
 let a:=wrap .i64 (wrap .i64 (p.1*p.2.2.2.1)-(wrap .i64 (p.2.1*p.2.2.1)))
 let d:=a==0
 let l:=wrap .i64 (p.2.2.2.1*4294967296)
 let e:=B3 l a
 let m:=wrap .i64 (wrap .i64 (sub 0 p.2.1)*4294967296)
 let f:=B3 m a
 let n:=wrap .i64 (wrap .i64 (sub 0 p.2.2.1)*4294967296)
 let g:=B3 n a
 let o:=wrap .i64 (p.1*4294967296)
 let h:=B3 o a
 let k:=(e,f,g,h,(0:Int),(0:Int),())
 let i:=Ec k !=0
 let q:=wrap .i64 (sub 0 e)
 let r:=wrap .i64 (sub 0 g)
 let s:=wrap .i64 (sub 0 f)
 let t:=wrap .i64 (sub 0 h)
 let b:=(e,f,g,h,HK q r p.2.2.2.2.1 (Q1 p).1,HK s t p.2.2.2.2.1 (Q1 p).1,())
 let u:=Ec b !=0
 let j:=cond d (0,0,0,0,0,0,()) (cond i (0,0,0,0,0,0,()) (cond u (0,0,0,0,0,0,()) b))
 (OF p/\(!c->!d->Es l a/\Es m a/\Es n a/\Es o a/\OF k/\(!i->Vj q r p.2.2.2.2.1 (Q1 p).1/\Vj s t p.2.2.2.2.1 (Q1 p).1/\OF b)),(cond c (0,0,0,0,0,0,()) j,cond c v (cond d 17 (cond i 17 (cond u 17 0))),()))
def pN4 a:=(lD1 a).1
def IS a:=(lD1 a).2
theorem lD2:SK 113 (AU Az (.tup (.cons Az (.cons vI .nl))) pN4 IS):=fb Tryz.func113 88 [kb qO4,kb vK,kb nD7] [] [] true
def lD3 (a:Int):Prop×Bool:=
 (True,cond (cond (cond (a==2) true (a==9)) true (a==10)) true (a==11))
def pN5 a:=(lD3 a).1
def HL a:=(lD3 a).2
theorem nD8:SK 114 (AU vI vB pN5 HL):=fb Tryz.func114 17
def kA7 (a:Int):Prop×Bool:=
 (True,cond (a≥0) (decide (a<=4)) false)
def nD9 a:=(kA7 a).1
def MK a:=(kA7 a).2
theorem lD4:SK 115 (AU vI vB nD9 MK):=fb Tryz.func115 9
def kA8 (a:Int):Prop×Int:=
 (ZB a 0 65535,K6 a 0 65535)
def ZF a:=(kA8 a).1
def K9 a:=(kA8 a).2
theorem lD5:SK 194 (AU vI vI ZF K9):=fb Tryz.func194 5 [kb qO2]
def kA9 (a:CP):Prop×CP:=
 (ZF a.1/\ZF a.2.1/\ZF a.2.2.1/\ZF a.2.2.2.1,(K9 a.1,K9 a.2.1,K9 a.2.2.1,K9 a.2.2.2.1,()))
def nE a:=(kA9 a).1
def ZG a:=(kA9 a).2
theorem lD6:SK 156 (AU Cj Cj nE ZG):=fb Tryz.func156 16 [kb lD5]
def kB (a:CP):Prop×Bool:=
 (nE a,Ty.eqb EP (ZG a) a)
def Vk a:=(kB a).1
def GF a:=(kB a).2
theorem qO5:SK 118 (AU Cj vB Vk GF):=fb Tryz.func118 7 [kb lD6]
abbrev uS5:Type:=(Hg×Unit)
def ZH (y:uS5)(x:AD):Vm AD:=
 let e:=y.1
 let c:=x.1
 let a:Bool:=c<len e.2.2.1
 let d:=nth e.2.2.1 c G6
 let b:=!(GF d)
 (a->A7 c (len e.2.2.1)/\Vk d/\(!b->A6 (c+1)),a&&(!b),(c+1,()),a&&b,!a)
def rN y x:=(ZH y x).1
def rC3 y x:=(ZH y x).2.1
def uS6 y x:=(ZH y x).2.2.1
def pA0 y x:=(ZH y x).2.2.2.1
def nE0 y x:=(ZH y x).2.2.2.2
def rN0 (y:uS5)(x:AD):Int:=
 2
def nE1:=li [(1,Dg)] [(3,vI)] rC3 uS6 rN (λy x=>[ex 1 (some (pA0 y x)) [(2,vI)] ((rN0 y x),()),ex 2 (some (nE0 y x)) [] ()]) [[(2,vI)],[]]
def ZI (g:Hg):Prop×Int:=
 let b:=cond (cond (cond (g.1<0) true (g.1>256)) true (g.2.1<0)) true (g.2.1>256)
 let c:=!(Ty.eqb .bool (g.1==0) (g.2.1==0))
 let d:=cond c true (len g.2.2.1!=(g.1*g.2.1))
 let a:=(g,())
 let f:=((0:Int),())
 let e:=A3 (rC3 a) (uS6 a) f
 (!b->(!c->A6 (g.1*g.2.1))/\(!d->AB (rC3 a) (uS6 a) (rN a) f),cond b 15 (cond d 15 (cond (pA0 a e) (rN0 a e) 0)))
def qE a:=(ZI a).1
def LC a:=(ZI a).2
theorem mK6:SK 86 (AU Cd vI qE LC):=fb Tryz.func86 54 [kb qO5] [(6,nE1)]
def kB0 (a:CP):Prop×Int:=
 (Vk a,cond (!(GF a)) (2:Int) 0)
def OG a:=(kB0 a).1
def GG a:=(kB0 a).2
def nE2:=AU Cj vI OG GG
theorem pN6:SK 149 (AU Cj vI OG GG):=fb Tryz.func149 6 [kb qO5]
def kB1 (b:Int)(c:List Int)(d:Int):Prop×Int:=
 let a:=cond (cond (cond (cond (b<1) true (b>4)) true (d<0)) true (d>2)) (8:Int) (cond (cond (cond (b==1) (len c !=4) false) true (cond (b !=1) (len c !=3) false)) 1 0)
 (True,a)
def nE3 a b c:=(kB1 a b c).1
def IT a b c:=(kB1 a b c).2
theorem lD7:SK 179 (DT vI Ak vI vI nE3 IT):=fb Tryz.func179 37
abbrev uB9:Type:=(Int×(List Int)×Int×Unit)
def ZJ (y:uB9)(x:AD):Vm AD:=
 let d:=y.2.1
 let a:=x.1
 let e:Bool:=a<y.2.2.1
 let c:Bool:=nth d a 0<(-1048576)
 let b:=cond c true (nth d a 0>1048576)
 (e->A7 a (len d)/\(!c->A7 a (len d))/\(!b->A6 (a+1)),e&&(!b),(a+1,()),e&&b,!e)
def qE0 y x:=(ZJ y x).1
def sD7 y x:=(ZJ y x).2.1
def uH9 y x:=(ZJ y x).2.2.1
def qE1 y x:=(ZJ y x).2.2.2.1
def qE2 y x:=(ZJ y x).2.2.2.2
def sW7 (y:uB9)(x:AD):Int:=
 2
def qE3:List (Nat×Sh):=[(0,vI),(1,Ak)]
def oL7:=li [(0,vI),(1,Ak),(7,vI)] [(8,vI)] sD7 uH9 qE0 (λy x=>[ex 1 (some (qE1 y x)) [(4,vI)] ((sW7 y x),()),ex 2 (some (qE2 y x)) qE3 (y.1,y.2.1,())]) [[(4,vI)],qE3]
def kB2 (e:Int)(f:List Int):Prop×Int:=
 let a:=(e,f,len f,())
 let d:=((0:Int),())
 let c:=A3 (sD7 a) (uH9 a) d
 let b:=cond (e==2) true (e==4)
 (AB (sD7 a) (uH9 a) (qE0 a) d/\(qE2 a c->b->A7 2 (len f)),cond (qE1 a c) (sW7 a c) (cond (cond b (decide (nth f 2 0<0)) false) 2 0))
def nE4 a b:=(kB2 a b).1
def KA a b:=(kB2 a b).2
theorem lD8:SK 180 (BG vI Ak vI nE4 KA):=fb Tryz.func180 36 [] [(2,oL7)]
def R5 (y:vJ0)(x:AD):Vm AD:=
 let b:=y.1
 let a:=x.1
 let c:Bool:=a<y.2.1
 let h:Bool:=(nth b a CG).1<0
 let f:=cond h true ((nth b a CG).1>65535)
 let i:=nth b a CG
 let d:=cond f true (!(GF i.2.1))
 let e:Bool:=a>0
 let j:=a-1
 let k:=cond e (decide ((nth b a CG).1<=(nth b j CG).1)) false
 let g:=(!d)&&(!k)
 (c->A7 a (len b)/\(!h->A7 a (len b))/\(!f->A7 a (len b))/\(!f->Vk i.2.1)/\(!d->(e->A7 a (len b))/\(e->A6 (a-1))/\(e->A7 j (len b)))/\(g->A6 (a+1)),c&&g,(a+1,()),c&&(d||((!d)&&k)),!c)
def sN2 y x:=(R5 y x).1
def ZK y x:=(R5 y x).2.1
def uI y x:=(R5 y x).2.2.1
def sN3 y x:=(R5 y x).2.2.2.1
def oL8 y x:=(R5 y x).2.2.2.2
def tF4 (y:vJ0)(x:AD):Int:=
 let b:=y.1
 let a:=x.1
 (cond (cond (cond ((nth b a CG).1<0) true ((nth b a CG).1>65535)) true (!(GF (nth b a CG).2.1))) (2:Int) 24)
def oL9:=li [(0,Ao),(11,vI)] [(12,vI)] ZK uI sN2 (λy x=>[ex 1 (some (sN3 y x)) [(2,vI)] ((tF4 y x),()),ex 2 (some (oL8 y x)) [] ()]) [[(2,vI)],[]]
def lD9 (f:List B4):Prop×Int:=
 let c:=len f==0
 let d:Bool:=len f>16
 let a:=(f,len f,())
 let e:=((0:Int),())
 let b:=A3 (ZK a) (uI a) e
 (!c->!d->AB (ZK a) (uI a) (sN2 a) e,cond c 1 (cond d 3 (cond (sN3 a b) (tF4 a b) 0)))
def pN7 a:=(lD9 a).1
def KB a:=(lD9 a).2
theorem lE:SK 181 (AU Ao vI pN7 KB):=fb Tryz.func181 55 [kb qO5] [(6,oL9)]
def kB3 (g:Int)(h:List Int)(i:Int)(j:List B4):Prop×Int:=
 let a:=IT g h i
 let b:=a !=0
 let c:=len j==0
 let d:Bool:=len j>16
 let e:=KA g h
 let f:=e !=0
 (nE3 g h i/\(!b->!c->!d->nE4 g h/\(!f->pN7 j)),cond b a (cond c 1 (cond d 3 (cond f e (KB j)))))
def pN8 a b c d:=(kB3 a b c d).1
def ML a b c d:=(kB3 a b c d).2
theorem lE0:SK 150 (Fy vI Ak vI Ao vI pN8 ML):=fb Tryz.func150 31 [kb lD7,kb lD8,kb lE]
def lE1 (f:Int):Prop×Int:=
 let d:=f==1
 let c:=cond d d (f==2)
 let e:=f==3
 let b:=f==4
 let a:=cond (cond c true (cond e true (cond b true (f==5)))) (cond c 1 (cond e 2 (cond b 3 0))) (-1:Int)
 (True,a)
def R7 a:=(lE1 a).1
def B8 a:=(lE1 a).2
theorem ZL:SK 214 (AU vI vI R7 B8):=fb Tryz.func214 13
def lE2 (a:A0):Prop×Bool:=
 (True,cond (cond (cond (a.1≥(-16777216)) (decide (a.1<=16777216)) false) (decide (a.2.1≥(-16777216))) false) (decide (a.2.1<=16777216)) false)
def ZM a:=(lE2 a).1
def Ed a:=(lE2 a).2
theorem pN9:SK 216 (AU Aq vB ZM Ed):=fb Tryz.func216 21
abbrev uC0:Type:=(AA×Unit)
def Vl (y:uC0)(x:AD):Vm AD:=
 let e:=y.1
 let a:=x.1
 let h:Bool:=a<3
 let b:Bool:=a<B8 e.1
 let f:=nth e.2.1 a A1
 let c:=cond b (!(Ed f)) false
 let g:Bool:=a≥B8 e.1
 let d:=cond c true (cond g (!(Ty.eqb AQ (nth e.2.1 a A1) (0,0,()))) false)
 (h->R7 e.1/\(b->A7 a 3)/\(b->ZM f)/\(!c->R7 e.1)/\(((!c)&&g)->A7 a 3)/\(!d->A6 (a+1)),h&&(!d),(a+1,()),h&&d,!h)
def qE4 y x:=(Vl y x).1
def OH y x:=(Vl y x).2.1
def R8 y x:=(Vl y x).2.2.1
def sN4 y x:=(Vl y x).2.2.2.1
def oM y x:=(Vl y x).2.2.2.2
def sW8 (y:uC0)(x:AD):Bool:=
 false
def oM0:=li [(1,Bi)] [(3,vI)] OH R8 qE4 (λy x=>[ex 1 (some (sN4 y x)) [(2,vB)] ((sW8 y x),()),ex 2 (some (oM y x)) [] ()]) [[(2,vB)],[]]
def kB4 (d:AA):Prop×Bool:=
 let a:=(d,())
 let c:=((0:Int),())
 let b:=A3 (OH a) (R8 a) c
 (AB (OH a) (R8 a) (qE4 a) c,cond (sN4 a b) (sW8 a b) true)
def pO a:=(kB4 a).1
def HM a:=(kB4 a).2
theorem lE3:SK 247 (AU Dd vB pO HM):=fb Tryz.func247 36 [kb ZL,kb pN9] [(2,oM0)]
abbrev OI:Type:=((List AA)×Unit)
def OJ (y:OI)(x:AD):Vm AD:=
 let b:=y.1
 let a:=x.1
 let c:Bool:=a<len b
 let i:=nth b a A5
 let d:Bool:=B8 i.1<0
 let j:=nth b a A5
 let e:=!(HM j)
 let f:=(nth b a A5).1 !=1
 let g:=a==0
 let k:=a-1
 let l:=cond f (cond g true ((nth b k A5).1==5)) false
 let h:=(!d)&&((!e)&&(!l))
 (c->A7 a (len b)/\R7 i.1/\(!d->A7 a (len b)/\pO j/\(!e->A7 a (len b)/\((f&&(!g))->A6 (a-1))/\((f&&(!g))->A7 k (len b))))/\(h->A6 (a+1)),c&&h,(a+1,()),c&&(d||((!d)&&(e||((!e)&&l)))),!c)
def qE5 y x:=(OJ y x).1
def uN y x:=(OJ y x).2.1
def uI1 y x:=(OJ y x).2.2.1
def tO1 y x:=(OJ y x).2.2.2.1
def oM1 y x:=(OJ y x).2.2.2.2
def uI2 (y:OI)(x:AD):Int:=
 let a:=y.1
 let b:=x.1
 (cond (B8 (nth a b A5).1<0) (8:Int) (cond (!(HM (nth a b A5))) 2 24))
def oM2:=li [(0,Ai)] [(3,vI)] uN uI1 qE5 (λy x=>[ex 1 (some (tO1 y x)) [(2,vI)] ((uI2 y x),()),ex 2 (some (oM1 y x)) [] ()]) [[(2,vI)],[]]
def kB5 (e:List AA):Prop×Int:=
 let c:Bool:=len e>128
 let a:=(e,())
 let d:=((0:Int),())
 let b:=A3 (uN a) (uI1 a) d
 (!c->AB (uN a) (uI1 a) (qE5 a) d,cond c 3 (cond (tO1 a b) (uI2 a b) 0))
def Vo a:=(kB5 a).1
def CD a:=(kB5 a).2
theorem qO6:SK 213 (AU Ai vI Vo CD):=fb Tryz.func213 45 [kb ZL,kb lE3] [(4,oM2)]
def lE4 (f:C1)(g:A0):Prop×A0:=
 let a:=K8 f
 let b:=HH g.1
 let c:=HH g.2.1
 let d:=wrap .i64 (HK a.1 a.2.2.1 b c+a.2.2.2.2.1)
 let e:=wrap .i64 (HK a.2.1 a.2.2.2.1 b c+(Q1 a).1)
 (qO3 f/\tV g.1/\tV g.2.1/\Vj a.1 a.2.2.1 b c/\tV d/\Vj a.2.1 a.2.2.2.1 b c/\tV e,(HH d,HH e,()))
def pO0 a b:=(lE4 a b).1
def MM a b:=(lE4 a b).2
theorem lE5:SK 248 (BG Az Aq Aq pO0 MM):=fb Tryz.func248 38 [kb nD1,kb nD7,kb nD0] [] [] true
def lE6 (b:C1)(c:A0):Prop×A0:=
 let s:=(wrap .i64 (4096*c.1),wrap .i64 (4096*c.2.1),())
 let a:=MM b s
 (pO0 b s/\Es a.1 4096/\Es a.2.1 4096,(B3 a.1 4096,B3 a.2.1 4096,()))
def ZN a b:=(lE6 a b).1
def DV a b:=(lE6 a b).2
theorem nE5:SK 215 (BG Az Aq Aq ZN DV):=fb Tryz.func215 22 [kb vK,kb lE5] [] [] true
abbrev wV9:Type:=((List AA)×C1×(List AA)×Int×Unit)
abbrev R9:Type:=(AA×Int×Unit)
def ZO (y:wV9)(x:R9):Vm R9:=
 let g:=y.2.1
 let b:=x.1
 let a:=x.2.1
 let c:Bool:=a<B8 b.1
 let e:=nth b.2.1 a A1
 let s:=set b.2.1 (toNat a) (DV g e)
 let f:=nth s a A1
 let d:=!(Ed f)
 (R7 b.1/\(c->A7 a 3/\ZN g e/\A7 a 3/\A7 a 3/\ZM f/\(!d->A6 (a+1))),c&&(!d),((b.1,s,()),a+1,()),c&&d,!c)
def uS8 y x:=(ZO y x).1
def GH y x:=(ZO y x).2.1
def wF y x:=(ZO y x).2.2.1
def uS9 y x:=(ZO y x).2.2.2.1
def uT y x:=(ZO y x).2.2.2.2
def sD8 (y:wV9)(x:R9):(List AA):=
 []
def sD9 (y:wV9)(x:R9):Int:=
 2
def rN4:List (Nat×Sh):=[(4,Bk),(5,vI)]
def sE (y:wV9)(x:R9):AA:=
 x.1
def rN5:List (Nat×Sh):=[(0,Ai),(3,Bp),(8,Cg),(9,vI),(10,Bi)]
def pO1:=li [(0,Ai),(3,Bp),(8,Cg),(9,vI)] [(10,Bi),(11,vI)] GH wF uS8 (λy x=>[ex 1 (some (uS9 y x)) rN4 ((sD8 y x),(sD9 y x),()),ex 4 (some (uT y x)) rN5 (y.1,y.2.1,y.2.2.1,y.2.2.2.1,(sE y x),())]) [rN4,rN5]
abbrev ZP:Type:=((List AA)×C1×Unit)
def ZQ (y:ZP)(x:Er):Vm Er:=
 let h:=y.1
 let i:=x.1
 let e:=x.2.1
 let c:Bool:=e<len h
 let a:=(h,y.2.1,i,e,())
 let g:=(nth h e A5,(0:Int),())
 let d:=A3 (GH a) (wF a) g
 let b:=uT a d
 let f:=([sE a d]:List AA)
 (c->A7 e (len h)/\AB (GH a) (wF a) (uS8 a) g/\(b->((length i+length f:Nat):Int)<=4294967296)/\(b->A6 (e+1)),c&&b,(i++f,e+1,()),c&&uS9 a d,!c)
def tO2 y x:=(ZQ y x).1
def KC y x:=(ZQ y x).2.1
def JH y x:=(ZQ y x).2.2.1
def sN6 y x:=(ZQ y x).2.2.2.1
def oM3 y x:=(ZQ y x).2.2.2.2
def tF6 (y:ZP)(x:Er):(List AA):=
 let b:=y.1
 let c:=x.2.1
 let a:=(b,y.2.1,x.1,c,())
 (sD8 a (A3 (GH a) (wF a) (nth b c A5,0,())))
def tF7 (y:ZP)(x:Er):Int:=
 let b:=y.1
 let c:=x.2.1
 let a:=(b,y.2.1,x.1,c,())
 (sD9 a (A3 (GH a) (wF a) (nth b c A5,0,())))
def qE6:List (Nat×Sh):=[(4,Bk),(5,vI)]
def tF8 (y:ZP)(x:Er):(List AA):=
 x.1
def oM4:=li [(0,Ai),(3,Bp)] [(8,Cg),(9,vI)] KC JH tO2 (λy x=>[ex 1 (some (sN6 y x)) qE6 ((tF6 y x),(tF7 y x),()),ex 2 (some (oM3 y x)) [(8,Cg)] ((tF8 y x),())]) [qE6,[(8,Cg)]]
def ZR (i:List AA)(j:C1):Prop×((List AA)×Int×Unit):=
 let e:=CD i
 let c:=e !=0
 let f:=Ec j
 let d:=f !=0
 let a:=(i,j,())
 let h:=(([]:List AA),(0:Int),())
 let g:=A3 (KC a) (JH a) h
 let b:=sN6 a g
 (Vo i/\(!c->OF j/\(!d->AB (KC a) (JH a) (tO2 a) h)),(cond c [] (cond d [] (cond b (tF6 a g) (tF8 a g))),cond c e (cond d f (cond b (tF7 a g) 0)),()))
def qO7 a b:=(ZR a b).1
def Ee a b:=(ZR a b).2
theorem lE7:SK 182 (BG Ai Az (.tup (.cons Bk (.cons vI .nl))) qO7 Ee):=fb Tryz.func182 60 [kb qO4,kb qO6,kb ZL,kb nE5,kb pN9] [(9,oM4),(13,pO1)] [(15,[(4,0,22,1008)]),(37,[(4,0,58,1008)]),(39,[(4,0,1008,0)])]
def kB6 (m n o p:Int):Prop×Int:=
 let a:=8-p
 let b:=8-p
 let c:=a*b
 let d:=c*m
 let e:=2*p
 let f:=8-p
 let g:=e*f
 let h:=g*n
 let i:=d+h
 let j:=p*p
 let k:=j*o
 let l:=i+k
 (A6 (8-p)/\A6 (8-p)/\A6 (a*b)/\A6 (c*m)/\A6 (2*p)/\A6 (8-p)/\A6 (e*f)/\A6 (g*n)/\A6 (d+h)/\A6 (p*p)/\A6 (j*o)/\A6 (i+k)/\Es l 64,B3 l 64)
def Vp a b c d:=(kB6 a b c d).1
def GI a b c d:=(kB6 a b c d).2
theorem lE8:SK 250 (Fy vI vI vI vI vI Vp GI):=fb Tryz.func250 31 [kb vK]
def kB7 (p t u v w:Int):Prop×Int:=
 let a:=16-w
 let b:=a*a
 let c:=b*a
 let d:=c*p
 let e:=3*w
 let f:=e*a
 let g:=f*a
 let h:=g*t
 let i:=d+h
 let j:=3*w
 let k:=j*w
 let l:=k*a
 let m:=l*u
 let n:=i+m
 let o:=w*w
 let q:=o*w
 let r:=q*v
 let s:=n+r
 (A6 (16-w)/\A6 (a*a)/\A6 (b*a)/\A6 (c*p)/\A6 (3*w)/\A6 (e*a)/\A6 (f*a)/\A6 (g*t)/\A6 (d+h)/\A6 (3*w)/\A6 (j*w)/\A6 (k*a)/\A6 (l*u)/\A6 (i+m)/\A6 (w*w)/\A6 (o*w)/\A6 (q*v)/\A6 (n+r)/\Es s 4096,B3 s 4096)
def Vq a b c d e:=(kB7 a b c d e).1
def GJ a b c d e:=(kB7 a b c d e).2
theorem lE9:SK 251 (sp5 vI vI vI vI vI vI Vq GJ):=fb Tryz.func251 48 [kb vK]
def pW3 (f:List A0)(g:A0):Prop×(List A0):=
 let e:Bool:=len f>0
 let b:=len f
 let a:=b-1
 let c:=cond e (Ty.eqb AQ (nth f a A1) g) false
 let d:=([g]:List A0)
 ((e->A6 (b-1))/\(e->A7 a (len f))/\(e->a<len f)/\(!c->((length f+length d:Nat):Int)<=4294967296),cond c f (f++d))
def ZS a b:=(pW3 a b).1
def MN a b:=(pW3 a b).2
theorem oM5:SK 249 (BG Bj Aq Dv ZS MN):=fb Tryz.func249 23 [] [] [(5,[(4,0,400000,0)]),(7,[(4,0,22,0)])] false [] [22]
abbrev vP1:Type:=(A0×AA×Unit)
def tV1 (y:vP1)(x:DA):Vn DA:=
 let g:=y.1
 let h:=y.2.1
 let i:=x.1
 let a:=x.2.1
 let b:Bool:=a<=8
 let c:=(nth h.2.1 0 A1).1
 let d:=(nth h.2.1 1 A1).1
 let e:=(nth h.2.1 0 A1).2.1
 let f:=(nth h.2.1 1 A1).2.1
 let s:=(GI g.1 c d a,GI g.2.1 e f a,())
 (b->A7 0 3/\A7 1 3/\Vp g.1 c d a/\A7 0 3/\A7 1 3/\Vp g.2.1 e f a/\ZS i s/\A6 (a+1),b,(MN i s,a+1,()))
def sE1 y x:=(tV1 y x).1
def ZT y x:=(tV1 y x).2.1
def ZU y x:=(tV1 y x).2.2
def tF9 (y:vP1)(x:DA):(List A0):=
 x.1
def qO8:=li [(4,Bz),(5,Bi)] [(0,Bj),(7,vI)] ZT ZU sE1 (λy x=>[ex 3 none [(0,Bj)] ((tF9 y x),())]) [[(0,Bj)]]
def tG (y:vP1)(x:DA):Vn DA:=
 let j:=y.1
 let b:=y.2.1
 let k:=x.1
 let a:=x.2.1
 let c:Bool:=a<=16
 let d:=(nth b.2.1 0 A1).1
 let e:=(nth b.2.1 1 A1).1
 let f:=(nth b.2.1 2 A1).1
 let g:=(nth b.2.1 0 A1).2.1
 let h:=(nth b.2.1 1 A1).2.1
 let i:=(nth b.2.1 2 A1).2.1
 let s:=(GJ j.1 d e f a,GJ j.2.1 g h i a,())
 (c->A7 0 3/\A7 1 3/\A7 2 3/\Vq j.1 d e f a/\A7 0 3/\A7 1 3/\A7 2 3/\Vq j.2.1 g h i a/\ZS k s/\A6 (a+1),c,(MN k s,a+1,()))
def tS2 y x:=(tG y x).1
def ZV y x:=(tG y x).2.1
def ZW y x:=(tG y x).2.2
def uY6 (y:vP1)(x:DA):(List A0):=
 x.1
def rY7:=li [(4,Bz),(5,Bi)] [(0,Bj),(8,vI)] ZV ZW tS2 (λy x=>[ex 5 none [(0,Bj)] ((uY6 y x),())]) [[(0,Bj)]]
def pW4 (k:List A0)(l:A0)(m:AA):Prop×(List A0):=
 let f:=m.1==1
 let b:=cond f f (m.1==2)
 let g:=nth m.2.1 0 A1
 let c:=m.1==3
 let d:=(l,m,())
 let j:=(k,(1:Int),())
 let h:=m.1==4
 let a:=(l,m,())
 let i:=(k,(1:Int),())
 let e:=cond b (MN k g) (cond c (tF9 d (A3 (ZT d) (ZU d) j)) (cond h (uY6 a (A3 (ZV a) (ZW a) i)) k))
 ((b->A7 0 3/\ZS k g)/\(b=false->(c->AB (ZT d) (ZU d) (sE1 d) j)/\(c=false->h->AB (ZV a) (ZW a) (tS2 a) i)),e)
def Vr a b c:=(pW4 a b c).1
def Vs a b c:=(pW4 a b c).2
theorem oM6:SK 217 (DT Bj Aq Dd Dv Vr Vs):=fx (λc=>{ c with wants:=[(249,[0])] }) Tryz.func217 94 [kb oM5,kb lE8,kb lE9] [(7,qO8),(12,rY7)] [(9,[(4,0,18,400000)]),(19,[(4,0,51,400000)]),(29,[(4,0,92,400000)]),(31,[(4,0,400000,0)])]
abbrev uC2:Type:=(((List (List A0))×Nat)×A0×Int×Unit)
def qO9 (y:OI)(x:uC2):Vn uC2:=
 let d:=y.1
 let i:=x.1
 let s:=x.2.1
 let c:=x.2.2.1
 let j:Bool:=c<len d
 let f:=(nth d c A5).1==1
 let e:=cond f (i.1++[[]]) i.1
 let b:=cond f (length i.1) i.2
 let k:=len e
 let a:=k-1
 let l:=len e
 let g:=l-1
 let m:=List.getD e b []
 let n:=nth d c A5
 let o:=nth d c A5
 let h:=B8 o.1
 let q:Bool:=h>0
 let r:=h-1
 (j->A7 c (len d)/\(f->((length i.1+1:Nat):Int)<=4294967296)/\A6 (k-1)/\A6 (l-1)/\A7 g (len e)/\(toNat g=b/\g<len e)/\A7 c (len d)/\Vr m s n/\A7 a (len e)/\(toNat a=b/\a<len e)/\(toNat a=b/\a<len e)/\A7 c (len d)/\R7 o.1/\(q->A6 (h-1)/\A7 c (len d)/\A7 r 3)/\A6 (c+1),j,((set e (toNat a) (Vs m s n),toNat a),cond q (nth (nth d c A5).2.1 r A1) s,c+1,()))
def qE7 y x:=(qO9 y x).1
def ZX y x:=(qO9 y x).2.1
def ZY y x:=(qO9 y x).2.2
def tG2 (y:OI)(x:uC2):((List (List A0))×Nat):=
 let a:=x.1
 (a.1,a.2)
def qE8:List (Nat×Sh):=[(5,(.ownh AQ 1005 9000005 true))]
def oM7:=li [(0,Ai)] [(5,(.ownh AQ 1005 9000005 true)),(6,Bz),(7,vI)] ZX ZY qE7 (λy x=>[ex 2 none qE8 ((tG2 y x),())]) [qE8]
def kB8 (e:List AA):Prop×((List (List A0))×Int×Unit):=
 let c:=CD e
 let a:=c !=0
 let b:=(e,())
 let d:=((([]:List (List A0)),length ([]:List (List A0))),((0:Int),(0:Int),()),(0:Int),())
 (Vo e/\(!a->AB (ZX b) (ZY b) (qE7 b) d),(cond a [] (tG2 b (A3 (ZX b) (ZY b) d)).1,cond a c 0,()))
def ZZ a:=(kB8 a).1
def DC a:=(kB8 a).2
theorem nE7:SK 183 (AU Ai (.tup (.cons Aj (.cons vI .nl))) ZZ DC):=fx (λc=>{ c with wants:=[(217,[0])] }) Tryz.func183 65 [kb qO6,kb ZL,kb oM6] [(7,oM7)] [(9,[(4,0,14,1005)]),(20,[(1,5,0,0)]),(21,[(4,0,30,1005),(4,0,100029,9000005)]),(23,[(4,0,46,9000005)]),(31,[(1,2,0,0),(1,2,0,0),(4,0,1005,0)])] false [] [5,14,29,30]
abbrev uC3:Type:=((List (List A0))×Unit)
def aA (y:uC3)(x:CT):Vm CT:=
 let f:=y.1
 let g:=x.1
 let c:=x.2.1
 let a:Bool:=c<len f
 let d:=len (nth f c [])
 let e:=g+d
 let b:Bool:=e>4096
 (a->A7 c (len f)/\A6 (g+d)/\(!b->A6 (c+1)),a&&(!b),(e,c+1,()),a&&b,!a)
def sO y x:=(aA y x).1
def RA y x:=(aA y x).2.1
def RB y x:=(aA y x).2.2.1
def tO3 y x:=(aA y x).2.2.2.1
def sO0 y x:=(aA y x).2.2.2.2
def sW9 (y:uC3)(x:CT):Int:=
 3
def oM8:=li [(0,Aj)] [(5,vI),(6,vI)] RA RB sO (λy x=>[ex 1 (some (tO3 y x)) [(4,vI)] ((sW9 y x),()),ex 2 (some (sO0 y x)) [(0,Aj)] (y.1,())]) [[(4,vI)],[(0,Aj)]]
def aB (y:FE)(x:AD):Vm AD:=
 let h:=y.1
 let d:=y.2.1
 let i:=y.2.2.1
 let e:=x.1
 let a:Bool:=e<len (nth h i [])
 let f:=nth h i []
 let b:=nth f e A1
 let g:=cond (b.1<sub 0 d) true (b.1>d)
 let c:=cond (cond g true (b.2.1<sub 0 d)) true (b.2.1>d)
 (A7 i (len h)/\(a->A7 i (len h)/\A7 e (len f)/\A6 (sub 0 d)/\(!g->A6 (sub 0 d))/\(!c->A6 (e+1))),a&&(!c),(e+1,()),a&&c,!a)
def uT1 y x:=(aB y x).1
def RC y x:=(aB y x).2.1
def RD y x:=(aB y x).2.2.1
def rN7 y x:=(aB y x).2.2.2.1
def rN8 y x:=(aB y x).2.2.2.2
def sE3 (y:FE)(x:AD):Int:=
 2
def rN9:List (Nat×Sh):=[(0,Aj),(7,vI),(8,vI)]
def pO2:=li [(0,Aj),(7,vI),(8,vI)] [(9,vI)] RC RD uT1 (λy x=>[ex 1 (some (rN7 y x)) [(4,vI)] ((sE3 y x),()),ex 6 (some (rN8 y x)) rN9 (y.1,y.2.1,y.2.2.1,())]) [[(4,vI)],rN9]
def aC (y:CM)(x:AD):Vm AD:=
 let g:=y.1
 let f:=x.1
 let c:Bool:=f<len g
 let a:=(g,y.2.1,f,())
 let e:=((0:Int),())
 let d:=A3 (RC a) (RD a) e
 let b:=rN8 a d
 (c->AB (RC a) (RD a) (uT1 a) e/\(b->A6 (f+1)),c&&b,(f+1,()),c&&rN7 a d,!c)
def tV2 y x:=(aC y x).1
def Vt y x:=(aC y x).2.1
def Vu y x:=(aC y x).2.2.1
def uT2 y x:=(aC y x).2.2.2.1
def pO3 y x:=(aC y x).2.2.2.2
def sE4 (y:CM)(x:AD):Int:=
 let a:=(y.1,y.2.1,x.1,())
 (sE3 a (A3 (RC a) (RD a) (0,())))
def pO4:=li [(0,Aj),(7,vI)] [(8,vI)] Vt Vu tV2 (λy x=>[ex 1 (some (uT2 y x)) [(4,vI)] ((sE4 y x),()),ex 4 (some (pO3 y x)) [] ()]) [[(4,vI)],[]]
def lF (h:(List (List A0)))(i:Int):Prop×Int:=
 let d:=cond (i !=0) (i !=1) false
 let b:=(h,())
 let g:=((0:Int),(0:Int),())
 let f:=A3 (RA b) (RB b) g
 let a:=(h,(16777216:Int),())
 let e:=((0:Int),())
 let c:=A3 (Vt a) (Vu a) e
 (!d->AB (RA b) (RB b) (sO b) g/\(sO0 b f->AB (Vt a) (Vu a) (tV2 a) e),cond d 8 (cond (tO3 b f) (sW9 b f) (cond (uT2 a c) (sE4 a c) 0)))
def OK a b:=(lF a b).1
def E5 a b:=(lF a b).2
def nE8:=BG Aj vI vI OK E5
theorem pO5:SK 184 (BG Aj vI vI OK E5):=fb Tryz.func184 78 [] [(5,oM8),(12,pO4),(15,pO2)]
def qP (y:OI)(x:Gq):Vn Gq:=
 let c:=y.1
 let j:=x.1
 let a:=x.2.1
 let e:Bool:=a<len c
 let f:=(nth c a A5).1==1
 let g:=([true]:List Bool)
 let d:=cond f (j++g) j
 let h:=(nth c a A5).1==5
 let i:=len d
 let b:=i-1
 (e->A7 a (len c)/\(f->((length j+length g:Nat):Int)<=4294967296)/\A7 a (len c)/\(h->A6 (i-1)/\A7 b (len d)/\b<len d)/\A6 (a+1),e,(cond h (set d (toNat b) false) d,a+1,()))
def sO1 y x:=(qP y x).1
def aD y x:=(qP y x).2.1
def Vv y x:=(qP y x).2.2
def sX (y:OI)(x:Gq):(List Bool):=
 x.1
def oM9:=li [(0,Ai)] [(5,Dk),(6,vI)] aD Vv sO1 (λy x=>[ex 2 none [(5,Dk)] ((sX y x),())]) [[(5,Dk)]]
def kB9 (e:List AA):Prop×((List Bool)×Int×Unit):=
 let c:=CD e
 let a:=c !=0
 let b:=(e,())
 let d:=(([]:List Bool),(0:Int),())
 (Vo e/\(!a->AB (aD b) (Vv b) (sO1 b) d),(cond a [] (sX b (A3 (aD b) (Vv b) d)),cond a c 0,()))
def qP0 a:=(kB9 a).1
def HN a:=(kB9 a).2
theorem lF0:SK 185 (AU Ai (.tup (.cons Ea (.cons vI .nl))) qP0 HN):=fb Tryz.func185 40 [kb qO6] [(6,oM9)] [(9,[(4,0,12,1005)]),(19,[(4,0,27,1005)]),(25,[(1,2,0,0),(4,0,1005,0)])] false [] [12,26,27]
def kC (b c d:Int):Prop×Int:=
 let a:=cond (cond (b<1) true (b>4096)) (2:Int) (cond (cond (cond (cond (c<0) true (c>2)) true (d<0)) true (d>2)) 8 0)
 (True,a)
def nE9 a b c:=(kC a b c).1
def f218 a b c:=(kC a b c).2
theorem lF1:SK 218 (DT vI vI vI vI nE9 f218):=fb Tryz.func218 27
def qP1 (y:DA)(x:CT):Vn CT:=
 let a:=y.1
 let c:=x.2.1
 let e:Bool:=c<y.2.1
 let d:=len a
 let b:=tmod (wrap .i64 (c+1)) d
 (e->d≠0/\A7 c (len a)/\A7 b (len a)/\A7 c (len a)/\A7 b (len a),e,(wrap .i64 (x.1+wrap .i64 (wrap .i64 ((nth a c A1).1*(nth a b A1).2.1)-(wrap .i64 ((nth a c A1).2.1*(nth a b A1).1)))),wrap .i64 (c+1),()))
def sO2 y x:=(qP1 y x).1
def aE y x:=(qP1 y x).2.1
def aF y x:=(qP1 y x).2.2
def sX0 (y:DA)(x:CT):Int:=
 x.1
def oN:=li [(0,Bd),(7,vI)] [(3,vI),(8,vI)] aE aF sO2 (λy x=>[ex 2 none [(3,vI)] ((sX0 y x),())]) [[(3,vI)]]
def kC0 (c:List A0):Prop×Int:=
 let a:=(c,len c,())
 let b:=((0:Int),(0:Int),())
 (AB (aE a) (aF a) (sO2 a) b,sX0 a (A3 (aE a) (aF a) b))
def pO6 a:=(kC0 a).1
def GK a:=(kC0 a).2
theorem lF2:SK 279 (AU Bd vI pO6 GK):=fb Tryz.func279 43 [] [(3,oN)] [] true
def lF3 :Prop×(List Int):=
 let a:=([(0:Int),(1608:Int),(3216:Int),(4821:Int),(6424:Int),(8022:Int),(9616:Int),(11204:Int),(12785:Int),(14359:Int),(15924:Int),(17479:Int),(19024:Int),(20557:Int),(22078:Int),(23586:Int),(25080:Int),(26558:Int),(28020:Int),(29466:Int),(30893:Int),(32303:Int),(33692:Int),(35062:Int),(36410:Int),(37736:Int),(39040:Int),(40320:Int),(41576:Int),(42806:Int),(44011:Int),(45190:Int),(46341:Int),(47464:Int),(48559:Int),(49624:Int),(50660:Int),(51665:Int),(52639:Int),(53581:Int),(54491:Int),(55368:Int),(56212:Int),(57022:Int),(57798:Int),(58538:Int),(59244:Int),(59914:Int),(60547:Int),(61145:Int),(61705:Int),(62228:Int),(62714:Int),(63162:Int),(63572:Int),(63944:Int),(64277:Int),(64571:Int),(64827:Int),(65043:Int),(65220:Int),(65358:Int),(65457:Int),(65516:Int),(65536:Int)]:List Int)
 (True,a)
def rO :Prop:=(lF3).1
def IU :List Int:=(lF3).2
def nF:Am.Spec:=fnSpec [] (.val Dw) [] (λx=>rO ) (λx=>IU ) (λ_=>())
theorem lF4:SK 306 (fnSpec [] (.val Dw) [] (λx=>rO ) (λx=>IU ) (λ_=>())):=fb Tryz.func306 2
def lF5 (e:Int):Prop×Int:=
 let d:=e==16384
 let a:=wrap .i64 (tdiv e 256)
 let b:=wrap .i64 (a+1)
 let c:=wrap .i64 (wrap .i64 (nth IU b 0-(nth IU a 0))*wrap .i64 (e-(wrap .i64 (256*a))))
 (rO/\(d->A7 64 65)/\(!d->A7 a 65/\A7 b 65/\A7 a 65/\Es c 256),cond d (nth IU 64 0) (wrap .i64 (nth IU a 0+B3 c 256)))
def RE a:=(lF5 a).1
def KD a:=(lF5 a).2
def nF0:=AU vI vI RE KD
def nZ2:=Cz [(147,nD6),(306,nF)] [] [] 30
theorem lF6:SK 301 nF0:=fq (c:=nZ2) Tryz.func301 ⟨vK,lF4,trivial⟩
def lF7 (h:Int):Prop×Int:=
 let g:=wrap .i64 (tdiv h 16384)
 let a:=wrap .i64 (h-(wrap .i64 (16384*g)))
 let b:=g==0
 let c:=g==1
 let e:=wrap .i64 (16384-a)
 let d:=g==2
 let f:=wrap .i64 (16384-a)
 ((b->RE a)/\(!b->(c->RE e)/\(!c->(d->RE a)/\(!d->RE f))),cond b (KD a) (cond c (KD e) (cond d (wrap .i64 (sub 0 (KD a))) (wrap .i64 (sub 0 (KD f))))))
def aG a:=(lF7 a).1
def RF a:=(lF7 a).2
theorem lF8:SK 295 (AU vI vI aG RF):=fb Tryz.func295 29 [kb lF6] [] [] true
def lF9 (d:Int):Prop×(Int×Int×Unit):=
 let c:=tmod d 65536
 let b:=cond (c<0) (wrap .i64 (c+65536)) c
 let a:=tmod (wrap .i64 (b+16384)) 65536
 (aG b/\aG a,(RF b,RF a,()))
def Vw a:=(lF9 a).1
def IV a:=(lF9 a).2
theorem lG:SK 280 (AU vI (.tup (.cons vI (.cons vI .nl))) Vw IV):=fb Tryz.func280 17 [kb lF8] [] [] true
abbrev tH:Type:=(Int×A0×Unit)
def qP2 (y:tH)(x:DA):Vn DA:=
 let h:=y.1
 let i:=y.2.1
 let j:=x.1
 let g:=x.2.1
 let a:Bool:=g<16
 let b:=wrap .i64 (4096*g)
 let c:=IV b
 let d:=wrap .i64 (h*c.2.1)
 let e:=wrap .i64 (h*c.1)
 let f:=([(wrap .i64 (i.1+B3 d 131072),wrap .i64 (i.2.1+B3 e 131072),())]:List A0)
 (a->Vw b/\Es d 131072/\Es e 131072/\((length j+length f:Nat):Int)<=4294967296,a,(j++f,wrap .i64 (g+1),()))
def sO4 y x:=(qP2 y x).1
def aH y x:=(qP2 y x).2.1
def Vx y x:=(qP2 y x).2.2
def tH1 (y:tH)(x:DA):(List A0):=
 x.1
def oN0:=li [(1,vI),(2,Bz)] [(5,Bq),(6,vI)] aH Vx sO4 (λy x=>[ex 2 none [(5,Bq)] ((tH1 y x),())]) [[(5,Bq)]]
def lG0 (c:A0)(d:Int):Prop×(List A0):=
 let a:=(d,c,())
 let b:=(([]:List A0),(0:Int),())
 (AB (aH a) (Vx a) (sO4 a) b,tH1 a (A3 (aH a) (Vx a) b))
def Vy a b:=(lG0 a b).1
def Ek a b:=(lG0 a b).2
theorem pO7:SK 257 (BG Aq vI Bx Vy Ek):=fb Tryz.func257 38 [kb vK,kb lG] [(3,oN0)] [(13,[(4,0,36,1005)]),(15,[(4,0,1005,0)])] true
def lG1 (g h:Int):Prop×(Int×Int×Unit):=
 let a:=FM .u64 g 4294967295
 let b:=Fi g 32 64
 let c:=FM .u64 h 4294967295
 let d:=Fi h 32 64
 let e:=wrap .u64 (wrap .u64 (b*c)+Fi (wrap .u64 (a*c)) 32 64)
 let f:=wrap .u64 (wrap .u64 (wrap .u64 (b*d)+Fi e 32 64)+Fi (wrap .u64 (wrap .u64 (a*d)+FM .u64 e 4294967295)) 32 64)
 (True,(f,wrap .u64 (g*h),()))
def aI a b:=(lG1 a b).1
def CB a b:=(lG1 a b).2
theorem lG2:SK 293 (BG Ap Ap (.tup (.cons Ap (.cons Ap .nl))) aI CB):=fb Tryz.func293 48 [] [] [] true
def kC1 (c d:Int)(e:Bool):Prop×Int:=
 let a:=cond (c>0) true (d>9223372036854775808)
 let b:=cond ((a||(!a))&&e) (cond a (-9223372036854775808:Int) (wrap .i64 (wrap .u64 (0-d)))) (cond (cond (c>0) true (d>9223372036854775807)) 9223372036854775807 (wrap .i64 d))
 (True,b)
def nF1 a b c:=(kC1 a b c).1
def RG a b c:=(kC1 a b c).2
theorem lG3:SK 294 (DT Ap Ap vB vI nF1 RG):=fb Tryz.func294 25 [] [] [] true
def qP3 (y x:CT):Vn CT:=
 let d:=y.2.1
 let b:=x.1
 let a:=x.2.1
 let e:Bool:=a>0
 let f:=ior .u64 b a
 let g:=ior .u64 b a
 let c:=CB f g
 (e->aI f g,e,(cond (cond (c.1<d) true (cond (c.1==d) (decide (c.2.1<=y.1)) false)) (ior .u64 b a) b,Fi a 1 64,()))
def tO4 y x:=(qP3 y x).1
def RH y x:=(qP3 y x).2.1
def RI y x:=(qP3 y x).2.2
def sX1 (y x:CT):Int:=
 x.1
def oN1:=li [(9,Ap),(10,Ap)] [(11,Ap),(12,Ap)] RH RI tO4 (λy x=>[ex 2 none [(11,Ap)] ((sX1 y x),())]) [[(11,Ap)]]
def kC2 (l m:Int):Prop×Int:=
 let d:=BD l
 let e:=BD l
 let b:=CB d e
 let f:=BD m
 let g:=BD m
 let h:=CB f g
 let i:=wrap .u64 (b.2.1+h.2.1)
 let j:=wrap .u64 (b.1+h.1)
 let c:=(i,cond (i<b.2.1) (wrap .u64 (j+1)) j,())
 let k:=((0:Int),(9223372036854775808:Int),())
 let a:=sX1 c (A3 (RH c) (RI c) k)
 (MJ l/\MJ l/\aI d e/\MJ m/\MJ m/\aI f g/\AB (RH c) (RI c) (tO4 c) k/\nF1 0 a false,RG 0 a false)
def aJ a b:=(kC2 a b).1
def Fl a b:=(kC2 a b).2
theorem pO8:SK 278 (BG vI vI vI aJ Fl):=fb Tryz.func278 74 [kb nD4,kb lG2,kb lG3] [(9,oN1)] [] true
def kC3 (f g:A0)(h:Int):Prop×A0:=
 let b:=wrap .i64 (16*wrap .i64 (g.1-f.1))
 let c:=wrap .i64 (16*wrap .i64 (g.2.1-f.2.1))
 let a:=Fl b c
 let d:=wrap .i64 (wrap .i64 ((-8)*h)*wrap .i64 (g.2.1-f.2.1))
 let e:=wrap .i64 (wrap .i64 (8*h)*wrap .i64 (g.1-f.1))
 (aJ b c/\Es d a/\Es e a,(B3 d a,B3 e a,()))
def RJ a b c:=(kC3 a b c).1
def B5 a b c:=(kC3 a b c).2
theorem nF2:SK 253 (DT Aq Aq vI Aq RJ B5):=fb Tryz.func253 42 [kb vK,kb pO8] [] [] true
def kC4 (a b:A0)(c:Int):Prop×A0:=
 (True,(wrap .i64 (a.1+wrap .i64 (c*b.1)),wrap .i64 (a.2.1+wrap .i64 (c*b.2.1)),()))
def Fe a b c:=(kC4 a b c).1
def AZ a b c:=(kC4 a b c).2
theorem nF3:SK 255 (DT Aq Aq vI Aq Fe AZ):=fb Tryz.func255 22 [] [] [] true
def kC5 (f g:A0)(h:Int):Prop×A0:=
 let b:=wrap .i64 (16*wrap .i64 (g.1-f.1))
 let c:=wrap .i64 (16*wrap .i64 (g.2.1-f.2.1))
 let a:=Fl b c
 let d:=wrap .i64 (wrap .i64 (8*h)*wrap .i64 (g.1-f.1))
 let e:=wrap .i64 (wrap .i64 (8*h)*wrap .i64 (g.2.1-f.2.1))
 (aJ b c/\Es d a/\Es e a,(B3 d a,B3 e a,()))
def qP4 a b c:=(kC5 a b c).1
def FZ a b c:=(kC5 a b c).2
theorem lG4:SK 258 (DT Aq Aq vI Aq qP4 FZ):=fb Tryz.func258 42 [kb vK,kb pO8] [] [] true
def qP5 (y:tB3)(x:DA):Vn DA:=
 let i:=y.1
 let b:=x.1
 let c:=x.2.1
 let d:Bool:=c<y.2.2.1
 let a:=len b==0
 let e:=len b
 let f:=e-1
 let g:=cond a true (!(Ty.eqb AQ (nth b f A1) (nth i c A1)))
 let h:=([nth i c A1]:List A0)
 (d->(!a->A6 (e-1))/\(!a->A7 f (len b))/\(!a->A7 c (len i))/\(g->A7 c (len i)/\((length b+length h:Nat):Int)<=4294967296)/\A6 (c+1),d,(cond g (b++h) b,c+1,()))
def sO6 y x:=(qP5 y x).1
def aK y x:=(qP5 y x).2.1
def aL y x:=(qP5 y x).2.2
def sX2 (y:tB3)(x:DA):(List A0):=
 x.1
def qE9:List (Nat×Sh):=[(1,vB),(5,Bq)]
def oN2:=li [(0,Bd),(1,vB),(8,vI)] [(5,Bq),(9,vI)] aK aL sO6 (λy x=>[ex 2 none qE9 (y.2.1,(sX2 y x),())]) [qE9]
def qP6 (y:tB2)(x:Oq):Vn Oq:=
 let a:=x.1
 let b:=cond (!y.1) (decide (len a>1)) false
 let d:=len a
 let e:=d-1
 let f:=cond b (Ty.eqb AQ (nth a e A1) (nth a 0 A1)) false
 let g:=len a
 let c:=g-1
 ((b->A6 (d-1))/\(b->A7 e (len a))/\(b->A7 0 (len a))/\(f->A6 (g-1)/\0<=c/\c<=len a),f,(take (toNat c) a,()))
def qF y x:=(qP6 y x).1
def sE5 y x:=(qP6 y x).2.1
def uI3 y x:=(qP6 y x).2.2
def sX3 (y:tB2)(x:Oq):(List A0):=
 x.1
def oN3:=li [(1,vB)] [(5,Bd)] sE5 uI3 qF (λy x=>[ex 4 none [(5,Bd)] ((sX3 y x),())]) [[(5,Bd)]]
def kC6 (e:List A0)(f:Bool):Prop×(List A0):=
 let a:=(e,f,len e,())
 let c:=(([]:List A0),(0:Int),())
 let b:=(f,())
 let d:=(sX2 a (A3 (aK a) (aL a) c),())
 (AB (aK a) (aL a) (sO6 a) c/\AB (sE5 b) (uI3 b) (qF b) d,sX3 b (A3 (sE5 b) (uI3 b) d))
def qP7 a b:=(kC6 a b).1
def F3 a b:=(kC6 a b).2
theorem lG5:SK 220 (BG Bd vB Bd qP7 F3):=fb Tryz.func220 61 [] [(3,oN2),(8,oN3)] [(13,[(4,0,34,1005)])]
def qP8 (y:CM)(x:CT):Vn CT:=
 let b:=y.1
 let a:=x.2.1
 let c:Bool:=a<y.2.1
 (c->A7 a (len b),c,(wrap .i64 (x.1+len (nth b a [])),wrap .i64 (a+1),()))
def sO7 y x:=(qP8 y x).1
def V0 y x:=(qP8 y x).2.1
def V1 y x:=(qP8 y x).2.2
def sX4 (y:CM)(x:CT):Int:=
 x.1
def oN4:=li [(0,Aj),(6,vI)] [(3,vI),(7,vI)] V0 V1 sO7 (λy x=>[ex 2 none [(3,vI)] ((sX4 y x),())]) [[(3,vI)]]
def kC7 (c:(List (List A0))):Prop×Int:=
 let a:=(c,len c,())
 let b:=((0:Int),(0:Int),())
 (AB (V0 a) (V1 a) (sO7 a) b,sX4 a (A3 (V0 a) (V1 a) b))
def qP9 a:=(kC7 a).1
def HO a:=(kC7 a).2
theorem lG6:SK 221 (AU Aj vI qP9 HO):=fb Tryz.func221 19 [] [(3,oN4)] [] true
abbrev vP7:Type:=((List (List A0))×(List A0)×Unit)
def tV5 (y:vP7)(x:DA):Vn DA:=
 let d:=y.2.1
 let e:=x.1
 let a:=x.2.1
 let b:Bool:=a≥0
 let c:=([nth d a A1]:List A0)
 (b->A7 a (len d)/\((length e+length c:Nat):Int)<=4294967296/\A6 (a-1),b,(e++c,a-1,()))
def vT0 y x:=(tV5 y x).1
def MO y x:=(tV5 y x).2.1
def MP y x:=(tV5 y x).2.2
def tH7 (y:vP7)(x:DA):(List A0):=
 x.1
def sE6:List (Nat×Sh):=[(0,Bh),(6,Cc)]
def qQ:=li [(0,Bh),(1,Bd)] [(6,Cc),(7,vI)] MO MP vT0 (λy x=>[ex 2 none sE6 (y.1,(tH7 y x),())]) [sE6]
def pW5 (i:(List (List A0)))(j:List A0):Prop×(List (List A0)):=
 let g:=GK j
 let c:=g==0
 let a:Bool:=g<0
 let d:=len j
 let b:=(i,j,())
 let h:=(([]:List A0),d-1,())
 let f:=cond a i i
 let e:=([cond a (tH7 b (A3 (MO b) (MP b) h)) j]:List (List A0))
 (pO6 j/\(!c->(a->A6 (d-1)/\AB (MO b) (MP b) (vT0 b) h)/\((length f+length e:Nat):Int)<=4294967296),cond c i (f++e))
def IW a b:=(pW5 a b).1
def CU a b:=(pW5 a b).2
theorem sO8:SK 254 (BG Bh Bd Av IW CU):=fb Tryz.func254 34 [kb lF2] [(7,qQ)] [(7,[(4,0,400000,0)]),(19,[(4,0,28,1006)]),(21,[(4,0,1006,400100)]),(23,[(4,0,33,0)])]
end Go.Proofs.YtkmmjpnfhaecdaaGreatDoor.Am
