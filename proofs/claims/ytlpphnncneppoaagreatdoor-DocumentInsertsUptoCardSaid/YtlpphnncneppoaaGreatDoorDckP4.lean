/- Printed by program, part 4. No condition. -/
import Derived.Test.YtlpphnncneppoaaGreatDoorDckP3
set_option linter.unusedVariables false
set_option synthInstance.maxSize 4000
set_option synthInstance.maxHeartbeats 400000
namespace Go.Proofs.YtlpphnncneppoaaGreatDoor.Am
open Go Go.Am Go.Proofs
open Go.IntKind (wrap)
open _root_.Int (sub toNat)
open _root_.List (drop length set take)
open _root_.Option (getD isSome)
def QJ (p:AM):Prop×Int:=
 let b:=Jx p
 let c:=b !=0
 let d:=cond (len p.2.2.2.1>64) true (len (Q0 p).1>8)
 let e:=cond (p.2.2.2.2.1<1) true (p.2.2.2.2.1>1073741824)
 let f:=Kw p
 let g:=f !=0
 let h:=Lt p
 let i:=h !=0
 let j:=Lu p
 let k:=j !=0
 let l:=Lv p
 let m:=l !=0
 let n:=Mt p
 let o:=Kk (Q1 p).1
 let q:=o !=0
 let r:=cond ((Q1 p).1.1 !=0) (cond ((Q1 p).1.1 !=p.1) true ((Q1 p).1.2.1 !=p.2.1)) false
 let a:=cond g f (cond i h (cond k j (cond m l (cond n 11 (cond q o (cond r 15 (QI (Q3 p).1)))))))
 (Pz p/\(!c->!d->!e->XU p/\(!g->XY p/\(!i->Ye p/\(!k->Yj p/\(!m->Yo p/\(!n->NK (Q1 p).1/\(!q->!r->Yt (Q3 p).1))))))),cond c b (cond d 3 (cond e 2 a)))
def J7 a:=(QJ a).1
def GZ a:=(QJ a).2
def nN1:=AU Al vI J7 GZ
theorem QK:SK 14 (AU Al vI J7 GZ):=fb Tryz.func14 83 [kb nY1,kb lM2,kb lM3,kb lM5,kb lM6,kb lM8,kb nY2,kb lN]
def mP (a:Unit):Prop×(List Int):=
 ((!true)->((length ([]:List Int)+length ([]:List Int):Nat):Int)<=4294967296,cond true [] (([]:List Int)++[]))
def pF6 a:=(mP a).1
def f50a a:=(mP a).2
instance (a):Decidable (pF6 a):=by unfold pF6 mP;dsimp only;infer_instance
theorem mP0:SK 50 (AU (.nn true) Bh pF6 f50a):=fb Tryz.func50 8 [] [] [(7,[(4,0,7,0)])]
def mP1 (a:Unit):Prop×(List Int):=
 ((!false)->((length ([]:List Int)+length ([]:List Int):Nat):Int)<=4294967296,cond false [] (([]:List Int)++[]))
def pF7 a:=(mP1 a).1
def f50b a:=(mP1 a).2
instance (a):Decidable (pF7 a):=by unfold pF7 mP1;dsimp only;infer_instance
theorem mP2:SK 50 (AU (.nn false) Bh pF7 f50b):=fb Tryz.func50 8 [] [] [(7,[(4,0,7,0)])]
def mP3 (a:List Int):Prop×(List Int):=
 (0<length a/\((!false)->((length ([]:List Int)+length a:Nat):Int)<=4294967296),cond false [] (([]:List Int)++a))
def pF8 a:=(mP3 a).1
def f50c a:=(mP3 a).2
instance (a):Decidable (pF8 a):=by unfold pF8 mP3;dsimp only;infer_instance
theorem mP4:SK 50 (AU Ak Bh pF8 f50c):=fb Tryz.func50 8 [] [] [(7,[(4,0,7,0)])]
def Yu (a:List Int):List Int:=a
def Oo (a:List Int):Prop:=(length a:Int)<=4294967296
def lN0:List (Nat×Sh):=[(0,Ak)]
def nY8:Sh:=Bh
def lN1:List (Nat×Sh):=[]
def nN2:Am.Spec:=fnSpec lN0 nY8 lN1 (λx=>Oo x.1) (λx=>Yu x.1) (λ_=>())
theorem nY9:SpecOk Tryz.prog 50 nN2:=Pt (rs:=nY8) (F:=Yu) (ok:=Oo) mP0 mP2 mP4 (jF (by kernel_rfl)) (jF (by kernel_rfl)) (λl h hp=>⟨hp,λ_=>by simpa[Oo] using h⟩) rfl rfl (λ_=>rfl)
def mP5 (a:Unit):Prop×(List CP):=
 ((!true)->((length ([]:List CP)+length ([]:List CP):Nat):Int)<=4294967296,cond true [] (([]:List CP)++[]))
def pF9 a:=(mP5 a).1
def f53a a:=(mP5 a).2
instance (a):Decidable (pF9 a):=by unfold pF9 mP5;dsimp only;infer_instance
theorem mP6:SK 53 (AU (.nn true) Db pF9 f53a):=fb Tryz.func53 8 [] [] [(7,[(4,0,7,0)])]
def mP7 (a:Unit):Prop×(List CP):=
 ((!false)->((length ([]:List CP)+length ([]:List CP):Nat):Int)<=4294967296,cond false [] (([]:List CP)++[]))
def pG a:=(mP7 a).1
def f53b a:=(mP7 a).2
instance (a):Decidable (pG a):=by unfold pG mP7;dsimp only;infer_instance
theorem mP8:SK 53 (AU (.nn false) Db pG f53b):=fb Tryz.func53 8 [] [] [(7,[(4,0,7,0)])]
def mP9 (a:List CP):Prop×(List CP):=
 (0<length a/\((!false)->((length ([]:List CP)+length a:Nat):Int)<=4294967296),cond false [] (([]:List CP)++a))
def pG0 a:=(mP9 a).1
def f53c a:=(mP9 a).2
instance (a):Decidable (pG0 a):=by unfold pG0 mP9;dsimp only;infer_instance
theorem mQ:SK 53 (AU Dy Db pG0 f53c):=fb Tryz.func53 8 [] [] [(7,[(4,0,7,0)])]
def f53 (a:List CP):List CP:=a
def QL (a:List CP):Prop:=(length a:Int)<=4294967296
def lN2:List (Nat×Sh):=[(0,Dy)]
def nZ:Sh:=Db
def lN3:List (Nat×Sh):=[]
def nN3:Am.Spec:=fnSpec lN2 nZ lN3 (λx=>QL x.1) (λx=>f53 x.1) (λ_=>())
theorem nZ0:SpecOk Tryz.prog 53 nN3:=Pt (rs:=nZ) (F:=f53) (ok:=QL) mP6 mP8 mQ (jF (by kernel_rfl)) (jF (by kernel_rfl)) (λl h hp=>⟨hp,λ_=>by simpa[QL] using h⟩) rfl rfl (λ_=>rfl)
def mQ0 (a:Unit):Prop×(List B0):=
 ((!true)->((length ([]:List B0)+length ([]:List B0):Nat):Int)<=4294967296,cond true [] (([]:List B0)++[]))
def pG1 a:=(mQ0 a).1
def f83a a:=(mQ0 a).2
instance (a):Decidable (pG1 a):=by unfold pG1 mQ0;dsimp only;infer_instance
theorem mQ1:SK 83 (AU (.nn true) Ct pG1 f83a):=fb Tryz.func83 8 [] [] [(7,[(4,0,7,0)])]
def mQ2 (a:Unit):Prop×(List B0):=
 ((!false)->((length ([]:List B0)+length ([]:List B0):Nat):Int)<=4294967296,cond false [] (([]:List B0)++[]))
def pG2 a:=(mQ2 a).1
def f83b a:=(mQ2 a).2
instance (a):Decidable (pG2 a):=by unfold pG2 mQ2;dsimp only;infer_instance
theorem mQ3:SK 83 (AU (.nn false) Ct pG2 f83b):=fb Tryz.func83 8 [] [] [(7,[(4,0,7,0)])]
def mQ4 (a:List B0):Prop×(List B0):=
 (0<length a/\((!false)->((length ([]:List B0)+length a:Nat):Int)<=4294967296),cond false [] (([]:List B0)++a))
def pG3 a:=(mQ4 a).1
def f83c a:=(mQ4 a).2
instance (a):Decidable (pG3 a):=by unfold pG3 mQ4;dsimp only;infer_instance
theorem mQ5:SK 83 (AU Ao Ct pG3 f83c):=fb Tryz.func83 8 [] [] [(7,[(4,0,7,0)])]
def f83 (a:List B0):List B0:=a
def Uo (a:List B0):Prop:=(length a:Int)<=4294967296
def lN4:List (Nat×Sh):=[(0,Ao)]
def nZ1:Sh:=Ct
def lN5:List (Nat×Sh):=[]
def nN4:Am.Spec:=fnSpec lN4 nZ1 lN5 (λx=>Uo x.1) (λx=>f83 x.1) (λ_=>())
theorem lN6:SpecOk Tryz.prog 83 nN4:=Pt (rs:=nZ1) (F:=f83) (ok:=Uo) mQ1 mQ3 mQ5 (jF (by kernel_rfl)) (jF (by kernel_rfl)) (λl h hp=>⟨hp,λ_=>by simpa[Uo] using h⟩) rfl rfl (λ_=>rfl)
def mQ6 (a:Unit):Prop×(List A9):=
 ((!true)->((length ([]:List A9)+length ([]:List A9):Nat):Int)<=4294967296,cond true [] (([]:List A9)++[]))
def pG4 a:=(mQ6 a).1
def f84a a:=(mQ6 a).2
instance (a):Decidable (pG4 a):=by unfold pG4 mQ6;dsimp only;infer_instance
theorem mQ7:SK 84 (AU (.nn true) Bk pG4 f84a):=fb Tryz.func84 8 [] [] [(7,[(4,0,7,0)])]
def mQ8 (a:Unit):Prop×(List A9):=
 ((!false)->((length ([]:List A9)+length ([]:List A9):Nat):Int)<=4294967296,cond false [] (([]:List A9)++[]))
def pG5 a:=(mQ8 a).1
def f84b a:=(mQ8 a).2
instance (a):Decidable (pG5 a):=by unfold pG5 mQ8;dsimp only;infer_instance
theorem mQ9:SK 84 (AU (.nn false) Bk pG5 f84b):=fb Tryz.func84 8 [] [] [(7,[(4,0,7,0)])]
def mR (a:List A9):Prop×(List A9):=
 (0<length a/\((!false)->((length ([]:List A9)+length a:Nat):Int)<=4294967296),cond false [] (([]:List A9)++a))
def pG6 a:=(mR a).1
def f84c a:=(mR a).2
instance (a):Decidable (pG6 a):=by unfold pG6 mR;dsimp only;infer_instance
theorem mR0:SK 84 (AU Ai Bk pG6 f84c):=fb Tryz.func84 8 [] [] [(7,[(4,0,7,0)])]
def f84 (a:List A9):List A9:=a
def Up (a:List A9):Prop:=(length a:Int)<=4294967296
def lN7:List (Nat×Sh):=[(0,Ai)]
def nZ2:Sh:=Bk
def lN8:List (Nat×Sh):=[]
def nN5:Am.Spec:=fnSpec lN7 nZ2 lN8 (λx=>Up x.1) (λx=>f84 x.1) (λ_=>())
theorem lN9:SpecOk Tryz.prog 84 nN5:=Pt (rs:=nZ2) (F:=f84) (ok:=Up) mQ7 mQ9 mR0 (jF (by kernel_rfl)) (jF (by kernel_rfl)) (λl h hp=>⟨hp,λ_=>by simpa[Up] using h⟩) rfl rfl (λ_=>rfl)
def mR1 (a:Unit):Prop×(List A0):=
 ((!true)->((length ([]:List A0)+length ([]:List A0):Nat):Int)<=4294967296,cond true [] (([]:List A0)++[]))
def pG7 a:=(mR1 a).1
def f85a a:=(mR1 a).2
instance (a):Decidable (pG7 a):=by unfold pG7 mR1;dsimp only;infer_instance
theorem mR2:SK 85 (AU (.nn true) Bx pG7 f85a):=fb Tryz.func85 8 [] [] [(7,[(4,0,7,0)])]
def mR3 (a:Unit):Prop×(List A0):=
 ((!false)->((length ([]:List A0)+length ([]:List A0):Nat):Int)<=4294967296,cond false [] (([]:List A0)++[]))
def pG8 a:=(mR3 a).1
def f85b a:=(mR3 a).2
instance (a):Decidable (pG8 a):=by unfold pG8 mR3;dsimp only;infer_instance
theorem mR4:SK 85 (AU (.nn false) Bx pG8 f85b):=fb Tryz.func85 8 [] [] [(7,[(4,0,7,0)])]
def mR5 (a:List A0):Prop×(List A0):=
 (0<length a/\((!false)->((length ([]:List A0)+length a:Nat):Int)<=4294967296),cond false [] (([]:List A0)++a))
def pG9 a:=(mR5 a).1
def f85c a:=(mR5 a).2
instance (a):Decidable (pG9 a):=by unfold pG9 mR5;dsimp only;infer_instance
theorem mR6:SK 85 (AU Bd Bx pG9 f85c):=fb Tryz.func85 8 [] [] [(7,[(4,0,7,0)])]
def f85 (a:List A0):List A0:=a
def Uq (a:List A0):Prop:=(length a:Int)<=4294967296
def lO:List (Nat×Sh):=[(0,Bd)]
def nZ3:Sh:=Bx
def lO0:List (Nat×Sh):=[]
def nN6:Am.Spec:=fnSpec lO nZ3 lO0 (λx=>Uq x.1) (λx=>f85 x.1) (λ_=>())
theorem lO1:SpecOk Tryz.prog 85 nN6:=Pt (rs:=nZ3) (F:=f85) (ok:=Uq) mR2 mR4 mR6 (jF (by kernel_rfl)) (jF (by kernel_rfl)) (λl h hp=>⟨hp,λ_=>by simpa[Uq] using h⟩) rfl rfl (λ_=>rfl)
def Mx (e f:AJ):Prop×(AJ×Int×Unit):=
 let a:=e.2.1 !=f.2.1
 let b:=((Qj f).1.1,(Qj f).1.2.1,(Qj f).1.2.2.1,f85 (Qj f).1.2.2.2.1,())
 let c:=(e.1,e.2.1,e.2.2.1,e.2.2.2.1,e.2.2.2.2.1,(Q1 e).1,(Q3 e).1,(Q0 e).1,(Q5 e).1,((Q4 e).1.1,(Q4 e).1.2.1,Yu (Q4 e).1.2.2.1,()),(Q2 e).1,(Q7 e).1,((Q6 f).1.1,(Q6 f).1.2.1,f53 (Q6 f).1.2.2.1,()),(Q9 f).1,(Qb f).1,Yu (Qa f).1,(Qe f).1,f83 (Qd f).1,f84 (Q8 f).1,(Qi f).1,(Qc f).1,(Qf f).1,(Qg f).1,(Qk f).1,(Ql f).1,(Qm f).1,(Qh f).1,b,())
 let d:=((0:Int),(0:Int),(0:Int),([]:List UInt8),false,false,false,(0:Int),(0:Int),((0:Int),(0:Int),([]:List Int),()),Lk,(0:Int),((0:Int),(0:Int),([]:List CP),()),Gn,(0:Int),([]:List Int),(0:Int),([]:List B0),([]:List A9),(0:Int),(0:Int),(0:Int),(0:Int),([]:List UInt8),(0:Int),(0:Int),(0:Int),((0:Int),(0:Int),(0:Int),([]:List A0),()),())
 (!a->Oo (Q4 e).1.2.2.1/\QL (Q6 f).1.2.2.1/\Oo (Qa f).1/\Uo (Qd f).1/\Up (Q8 f).1/\Uq (Qj f).1.2.2.2.1,(cond a d c,cond a 8 0,()))
def qT a b:=(Mx a b).1
def Yv a b:=(Mx a b).2
theorem lO2:SK 54 (BF Ay Ay (.tup (.cons Ay (.cons vI .nl))) qT Yv):=fb Tryz.func54 82 [kb nY9,kb nZ0,kb lN6,kb lN9,kb lO1]
def QM (a:AJ):Prop×AJ:=
 (qT a a,(Yv a a).1)
def sS a:=(QM a).1
def Oq a:=(QM a).2
theorem pP4:SK 17 (AU Ay Ay sS Oq):=fb Tryz.func17 12 [kb lO2]
def mR7 (a:Unit):Prop×(List C8):=
 ((!true)->((length ([]:List C8)+length ([]:List C8):Nat):Int)<=4294967296,cond true [] (([]:List C8)++[]))
def pH a:=(mR7 a).1
def f51a a:=(mR7 a).2
instance (a):Decidable (pH a):=by unfold pH mR7;dsimp only;infer_instance
theorem mR8:SK 51 (AU (.nn true) Dc pH f51a):=fb Tryz.func51 8 [] [] [(7,[(4,0,7,0)])]
def mR9 (a:Unit):Prop×(List C8):=
 ((!false)->((length ([]:List C8)+length ([]:List C8):Nat):Int)<=4294967296,cond false [] (([]:List C8)++[]))
def pH0 a:=(mR9 a).1
def f51b a:=(mR9 a).2
instance (a):Decidable (pH0 a):=by unfold pH0 mR9;dsimp only;infer_instance
theorem mS:SK 51 (AU (.nn false) Dc pH0 f51b):=fb Tryz.func51 8 [] [] [(7,[(4,0,7,0)])]
def mS0 (a:List C8):Prop×(List C8):=
 (0<length a/\((!false)->((length ([]:List C8)+length a:Nat):Int)<=4294967296),cond false [] (([]:List C8)++a))
def pH1 a:=(mS0 a).1
def f51c a:=(mS0 a).2
instance (a):Decidable (pH1 a):=by unfold pH1 mS0;dsimp only;infer_instance
theorem mS1:SK 51 (AU Bn Dc pH1 f51c):=fb Tryz.func51 8 [] [] [(7,[(4,0,7,0)])]
def f51 (a:List C8):List C8:=a
def Ur (a:List C8):Prop:=(length a:Int)<=4294967296
def lO3:List (Nat×Sh):=[(0,Bn)]
def nZ4:Sh:=Dc
def lO4:List (Nat×Sh):=[]
def nN7:Am.Spec:=fnSpec lO3 nZ4 lO4 (λx=>Ur x.1) (λx=>f51 x.1) (λ_=>())
theorem lO5:SpecOk Tryz.prog 51 nN7:=Pt (rs:=nZ4) (F:=f51) (ok:=Ur) mR8 mS mS1 (jF (by kernel_rfl)) (jF (by kernel_rfl)) (λl h hp=>⟨hp,λ_=>by simpa[Ur] using h⟩) rfl rfl (λ_=>rfl)
def mS2 (a:Unit):Prop×(List C9):=
 ((!true)->((length ([]:List C9)+length ([]:List C9):Nat):Int)<=4294967296,cond true [] (([]:List C9)++[]))
def pH2 a:=(mS2 a).1
def f52a a:=(mS2 a).2
instance (a):Decidable (pH2 a):=by unfold pH2 mS2;dsimp only;infer_instance
theorem mS3:SK 52 (AU (.nn true) Df pH2 f52a):=fb Tryz.func52 8 [] [] [(7,[(4,0,7,0)])] false [] [5,7]
def mS4 (a:Unit):Prop×(List C9):=
 ((!false)->((length ([]:List C9)+length ([]:List C9):Nat):Int)<=4294967296,cond false [] (([]:List C9)++[]))
def pH3 a:=(mS4 a).1
def f52b a:=(mS4 a).2
instance (a):Decidable (pH3 a):=by unfold pH3 mS4;dsimp only;infer_instance
theorem mS5:SK 52 (AU (.nn false) Df pH3 f52b):=fb Tryz.func52 8 [] [] [(7,[(4,0,7,0)])] false [] [5,7]
def mS6 (a:List C9):Prop×(List C9):=
 (0<length a/\((!false)->((length ([]:List C9)+length a:Nat):Int)<=4294967296),cond false [] (([]:List C9)++a))
def pH4 a:=(mS6 a).1
def f52c a:=(mS6 a).2
instance (a):Decidable (pH4 a):=by unfold pH4 mS6;dsimp only;infer_instance
theorem mS7:SK 52 (AU Bf Df pH4 f52c):=fb Tryz.func52 8 [] [] [(7,[(4,0,7,0)])] false [] [5,7]
def f52 (a:List C9):List C9:=a
def Us (a:List C9):Prop:=(length a:Int)<=4294967296
def lO6:List (Nat×Sh):=[(0,Bf)]
def nZ5:Sh:=Df
def lO7:List (Nat×Sh):=[]
def nN8:Am.Spec:=fnSpec lO6 nZ5 lO7 (λx=>Us x.1) (λx=>f52 x.1) (λ_=>())
theorem lO8:SpecOk Tryz.prog 52 nN8:=Pt (rs:=nZ5) (F:=f52) (ok:=Us) mS3 mS5 mS7 (jF (by kernel_rfl)) (jF (by kernel_rfl)) (λl h hp=>⟨hp,λ_=>by simpa[Us] using h⟩) rfl rfl (λ_=>rfl)
abbrev tZ7:Type:=(AM×(Int×Int×Int×(List AJ)×Int×(Int×Int×(List Int)×Unit)×(List C8)×(List C9)×Unit)×(List AJ)×Int×Unit)
abbrev uG:Type:=((Int×Int×Int×(List AJ)×Int×Fs×(List C8)×(List C9)×Unit)×Int×Unit)
def qH8 (y:tZ7)(x:uG):Vn uG:=
 let c:=y.2.2.1
 let b:=x.1
 let a:=x.2.1
 let d:Bool:=a<y.2.2.2.1
 let e:=nth c a AA
 (d->A7 a (len c)/\sS e/\A7 a (len b.2.2.2.1)/\a<len b.2.2.2.1/\A6 (a+1),d,((b.1,b.2.1,b.2.2.1,set b.2.2.2.1 (toNat a) (Oq e),b.2.2.2.2),a+1,()))
def Yw y x:=(qH8 y x).1
def My y x:=(qH8 y x).2.1
def Lx y x:=(qH8 y x).2.2
def tR9 (y:tZ7)(x:uG):(Int×Int×Int×(List AJ)×Int×Fs×(List C8)×(List C9)×Unit):=
 let a:=x.1
 (a.1,a.2.1,a.2.2.1,a.2.2.2.1,a.2.2.2.2.1,(Q1 a).1,(Q3 a).1,(Q0 a).1,())
def qT0:List (Nat×Sh):=[(1,Ae),(2,Ab),(3,Ax)]
def oT:=li [(1,Ae),(2,Ab),(15,Ar),(16,vI)] [(3,Ax),(17,vI)] My Lx Yw (λy x=>[ex 2 none qT0 (y.1,y.2.1,(tR9 y x),())]) [qT0]
abbrev tC6:Type:=((Int×Int×Int×(List AJ)×Int×(Int×Int×(List Int)×Unit)×(List C8)×(List C9)×Unit)×(List C9)×Int×Unit)
def sY6 (y:tC6)(x:uG):Vn uG:=
 let c:=y.2.1
 let b:=x.1
 let a:=x.2.1
 let d:Bool:=a<y.2.2.1
 let e:=nth c a CT
 let f:=((nth (Q0 b).1 a CT).1,(nth (Q0 b).1 a CT).2.1,(nth (Q0 b).1 a CT).2.2.1,(nth (Q0 b).1 a CT).2.2.2.1,((nth (Q0 b).1 a CT).2.2.2.2.1.1,(nth (Q0 b).1 a CT).2.2.2.2.1.2.1,f53 e.2.2.2.2.1.2.2.1,()),())
 (d->A7 a (len c)/\QL e.2.2.2.2.1.2.2.1/\A7 a (len (Q0 b).1)/\a<len (Q0 b).1/\A6 (a+1),d,((b.1,b.2.1,b.2.2.1,b.2.2.2.1,b.2.2.2.2.1,(Q1 b).1,(Q3 b).1,set (Q0 b).1 (toNat a) f,()),a+1,()))
def Yx y x:=(sY6 y x).1
def Ut y x:=(sY6 y x).2.1
def Uu y x:=(sY6 y x).2.2
def sS0 (y:tC6)(x:uG):(Int×Int×Int×(List AJ)×Int×Fs×(List C8)×(List C9)×Unit):=
 let a:=x.1
 (a.1,a.2.1,a.2.2.1,a.2.2.2.1,a.2.2.2.2.1,(Q1 a).1,(Q3 a).1,(Q0 a).1,())
def rY5:List (Nat×Sh):=[(2,Ab),(3,Av)]
def oE1:=li [(2,Ab),(44,Bf),(45,vI)] [(3,Av),(46,vI)] Ut Uu Yx (λy x=>[ex 4 none rY5 (y.1,(sS0 y x),())]) [rY5]
def Mz (i:AM):Prop×(Int×Int×Int×(List AJ)×Int×Fs×(List C8)×(List C9)×Unit):=
 let d:=len i.2.2.2.1
 let e:=(i,((0:Int),(0:Int),(0:Int),([]:List AJ),(0:Int),((0:Int),(0:Int),([]:List Int),()),([]:List C8),([]:List C9),()),i.2.2.2.1,len i.2.2.2.1,())
 let h:=((i.1,i.2.1,i.2.2.1,List.replicate (toNat d) AA,i.2.2.2.2),(0:Int),())
 let b:=tR9 e (A3 (My e) (Lx e) h)
 let g:=(b.1,b.2.1,b.2.2.1,b.2.2.2.1,b.2.2.2.2.1,((Q1 b).1.1,(Q1 b).1.2.1,Yu (Q1 i).1.2.2.1,()),f51 (Q3 i).1,f52 (Q0 i).1,())
 let c:=(((0:Int),(0:Int),(0:Int),([]:List AJ),(0:Int),((0:Int),(0:Int),([]:List Int),()),([]:List C8),([]:List C9),()),(Q0 i).1,len (Q0 i).1,())
 let f:=(g,(0:Int),())
 let a:=sS0 c (A3 (Ut c) (Uu c) f)
 ((0<=d/\d<=d/\d<=4294967296)/\AB (My e) (Lx e) (Yw e) h/\Oo (Q1 i).1.2.2.1/\Ur (Q3 i).1/\Us (Q0 i).1/\AB (Ut c) (Uu c) (Yx c) f,(a.1,a.2.1,a.2.2.1,a.2.2.2.1,a.2.2.2.2.1,(Q1 a).1,(Q3 a).1,(Q0 a).1,()))
def M0 a:=(Mz a).1
def Ic a:=(Mz a).2
def nN9:=AU Al (.agg (.cons Aa (.cons Aa (.cons Aa (.cons Cu (.cons Aa (.cons Hj (.cons Cv (.cons Cw .nl)))))))) (.cons vI (.cons vI (.cons vI (.cons Co (.cons vI (.cons Ca (.cons Bn (.cons Dw .nl))))))))) M0 Ic
theorem pP5:SK 16 (AU Al (.agg (.cons Aa (.cons Aa (.cons Aa (.cons Cu (.cons Aa (.cons Hj (.cons Cv (.cons Cw .nl)))))))) (.cons vI (.cons vI (.cons vI (.cons Co (.cons vI (.cons Ca (.cons Bn (.cons Dw .nl))))))))) M0 Ic):=fb Tryz.func16 63 [kb pP4,kb nY9,kb lO5,kb lO8,kb nZ0] [(4,oT),(12,oE1)] [(5,[(4,0,12,400300)]),(19,[(4,0,37,400302)]),(21,[(4,0,41,400303)]),(33,[(4,0,400300,0),(4,0,400302,2),(4,0,400303,3)])] false [] [12]
def QN (c:AM):Prop×(AM×Int×Unit):=
 let a:=GZ c
 let b:=a !=0
 (J7 c,(cond b (0,0,0,[],0,(0,0,[],()),[],[],()) c,cond b a 0,()))
def Ot a:=(QN a).1
def QO a:=(QN a).2
def nO:=AU Al (.tup (.cons Al (.cons vI .nl))) Ot QO
theorem oT0:SK 18 (AU Al (.tup (.cons Al (.cons vI .nl))) Ot QO):=fb Tryz.func18 12 [kb QK]
abbrev sE2:Type:=(Int×(List AJ)×Int×Unit)
def qL4 (y:sE2)(x:Gq):Vn Gq:=
 let g:=y.2.1
 let f:=x.1
 let a:=x.2.1
 let b:Bool:=a<y.2.2.1
 let c:=nth g a AA
 let d:=c.2.2.1==y.1
 let e:=([c.1]:List Int)
 (b->A7 a (len g)/\(d->((length f+length e:Nat):Int)<=4294967296)/\A6 (a+1),b,(cond d (f++e) f,a+1,()))
def sE3 y x:=(qL4 y x).1
def qL5 y x:=(qL4 y x).2.1
def tT5 y x:=(qL4 y x).2.2
def rQ3 (y:sE2)(x:Gq):(List Int):=
 x.1
def qV2:List (Nat×Sh):=[(5,Aw)]
def nC:=li [(1,vI),(9,Ar),(10,vI)] [(5,Aw),(11,vI)] qL5 tT5 sE3 (λy x=>[ex 2 none qV2 ((rQ3 y x),())]) [qV2]
def R5 (c:AM)(d:Int):Prop×(List Int):=
 let a:=(d,c.2.2.2.1,len c.2.2.2.1,())
 let b:=(([]:List Int),(0:Int),())
 (AB (qL5 a) (tT5 a) (sE3 a) b,rQ3 a (A3 (qL5 a) (tT5 a) b))
def V4 a b:=(R5 a b).1
def f27 a b:=(R5 a b).2
def nP:=BF Al vI Bh V4 f27
theorem mA3:SK 27 (BF Al vI Bh V4 f27):=fb Tryz.func27 26 [] [(3,nC)] [(13,[(4,0,23,1005)]),(17,[(4,0,1005,0)])]
def tN2 (y:sE2)(x:Gq):Vn Gq:=
 let g:=y.2.1
 let f:=x.1
 let a:=x.2.1
 let b:Bool:=a<y.2.2.1
 let c:=nth g a AA
 let d:=c.2.2.1==y.1
 let e:=([c.1]:List Int)
 (b->A7 a (len g)/\(d->((length f+length e:Nat):Int)<=4294967296)/\A6 (a+1),b,(cond d (f++e) f,a+1,()))
def uH6 y x:=(tN2 y x).1
def tT6 y x:=(tN2 y x).2.1
def uI1 y x:=(tN2 y x).2.2
def tP8 (y:sE2)(x:Gq):(List Int):=
 x.1
def sW1:List (Nat×Sh):=[(5,Aw)]
def qV3:=li [(1,vI),(9,Ar),(10,vI)] [(5,Aw),(11,vI)] tT6 uI1 uH6 (λy x=>[ex 2 none sW1 ((tP8 y x),())]) [sW1]
def pL8 (c:AM)(d:Int):Prop×(List Int):=
 let a:=(d,c.2.2.2.1,len c.2.2.2.1,())
 let b:=(([]:List Int),(0:Int),())
 (AB (tT6 a) (uI1 a) (uH6 a) b,tP8 a (A3 (tT6 a) (uI1 a) b))
def bP a b:=(pL8 a b).1
def nC0 a b:=(pL8 a b).2
theorem qV4:SK 27 (BF Al vI Ak bP nC0):=fb Tryz.func27 26 [] [(3,qV3)] [(13,[(4,0,23,1005)]),(17,[(4,0,1005,0)])]
def R7 (d:AM)(e:Int):Prop×Int:=
 let c:=e==0
 let a:=BN d e
 let b:Bool:=a<0
 (!c->Hy d e/\(!b->A7 a (len d.2.2.2.1)),cond c (0:Int) (cond b 9 (cond ((nth d.2.2.2.1 a AA).2.1 !=1) 8 0)))
def qC a b:=(R7 a b).1
def f34 a b:=(R7 a b).2
def nP0:=BF Al vI vI qC f34
theorem mA4:SK 34 (BF Al vI vI qC f34):=fb Tryz.func34 20 [kb Ok]
def f35 (a:List AJ)(b:Int)(c:List AJ):List AJ:=take (toNat b) a++(c++drop (toNat b) a)
def V5 (a:List AJ)(b:Int)(c:List AJ):Prop:=0<=b/\b<=(length a:Int)/\0<length c/\((length a+length c:Nat):Int)<=4294967296
def lV8:List (Nat×Sh):=[(0,(.own T42 400000 true)),(1,Dx),(2,(.own T42 400200 true))]
def lV9:Sh:=Co
def lW:List (Nat×Sh):=[]
def pR:Am.Spec:=fnSpec lV8 lV9 lW (λx=>V5 x.1 x.2.1 x.2.2.1) (λx=>f35 x.1 x.2.1 x.2.2.1) (λ_=>())
theorem nC1:SpecOk Tryz.prog 35 pR:=nL rfl ⟨_,Tryz.func35,by kernel_rfl,by decide⟩ lI8
abbrev uV:Type:=((List Int)×(List (Int×Bool×Unit))×Int×Unit)
def qL6 (y:sE2)(x:uV):Vn uV:=
 let d:=y.2.1
 let g:=x.1
 let h:=x.2.1
 let a:=x.2.2.1
 let e:Bool:=a<y.2.2.1
 let b:=nth d a AA
 let c:=cond (b.2.2.1==y.1) true (getD (E7 Aa .bool b.2.2.1 h) false)
 let f:=([b.1]:List Int)
 (e->A7 a (len d)/\(c->((length g+length f:Nat):Int)<=4294967296)/\A6 (a+1),e,(cond c (g++f) g,cond c (He Aa .bool b.1 true h) h,a+1,()))
def sE5 y x:=(qL6 y x).1
def qL7 y x:=(qL6 y x).2.1
def tT7 y x:=(qL6 y x).2.2
def rQ4 (y:sE2)(x:uV):(List Int):=
 x.1
def qV5:List (Nat×Sh):=[(5,Aw)]
def nC2:=li [(1,vI),(11,Ar),(12,vI)] [(5,Aw),(6,(.own (Hd Aa .bool) 1006 true)),(13,vI)] qL7 tT7 sE5 (λy x=>[ex 2 none qV5 ((rQ4 y x),())]) [qV5]
def R8 (c:AM)(d:Int):Prop×(List Int):=
 let a:=(d,c.2.2.2.1,len c.2.2.2.1,())
 let b:=(([]:List Int),([]:List (Int×Bool×Unit)),(0:Int),())
 (AB (qL7 a) (tT7 a) (sE5 a) b,rQ4 a (A3 (qL7 a) (tT7 a) b))
def R9 a b:=(R8 a b).1
def bQ a b:=(R8 a b).2
def nP1:=BF Al vI Bh R9 bQ
theorem nC3:SK 32 (BF Al vI Bh R9 bQ):=fx (λc=>{ c with maps:=maps }) Tryz.func32 37 [] [(4,nC2)] [(5,[(4,0,9,1006)]),(17,[(4,0,34,1005)]),(21,[(4,0,1005,0)])]
def hG0 (y:sE2)(x:uV):Vn uV:=
 let d:=y.2.1
 let g:=x.1
 let h:=x.2.1
 let a:=x.2.2.1
 let e:Bool:=a<y.2.2.1
 let b:=nth d a AA
 let c:=cond (b.2.2.1==y.1) true (getD (E7 Aa .bool b.2.2.1 h) false)
 let f:=([b.1]:List Int)
 (e->A7 a (len d)/\(c->((length g+length f:Nat):Int)<=4294967296)/\A6 (a+1),e,(cond c (g++f) g,cond c (He Aa .bool b.1 true h) h,a+1,()))
def hG4 y x:=(hG0 y x).1
def hF9 y x:=(hG0 y x).2.1
def hF6 y x:=(hG0 y x).2.2
def hG5 (y:sE2)(x:uV):(List Int):=
 x.1
def hG7 (c:AM)(d:Int):Prop×(List Int):=
 let a:=(d,c.2.2.2.1,len c.2.2.2.1,())
 let b:=(([]:List Int),([]:List (Int×Bool×Unit)),(0:Int),())
 (AB (hF9 a) (hF6 a) (hG4 a) b,hG5 a (A3 (hF9 a) (hF6 a) b))
def hG6 a b:=(hG7 a b).1
def hG8 a b:=(hG7 a b).2
def RA (h:AM)(i j:Int):Prop×Int:=
 let a:=f27 h i
 let b:Bool:=j<len a
 let c:=nth a j 0
 let d:=i==0
 let e:=BN h i
 let f:=e+1
 let g:=len (bQ h i)
 (V4 h i/\(b->A7 j (len a)/\Hy h c)/\(!b->!d->Hy h i/\A6 (e+1)/\R9 h i/\A6 (f+g)),cond b (BN h c) (cond d (len h.2.2.2.1) (f+g)))
def V6 a b c:=(RA a b c).1
def f36 a b c:=(RA a b c).2
def nP2:=DU Al vI vI vI V6 f36
theorem mA5:SK 36 (DU Al vI vI vI V6 f36):=fb Tryz.func36 35 [kb Ok,kb mA3,kb nC3] [] [(3,[(4,0,10,1007)])]
def RB (p:AM)(s:AJ)(t u:Int):Prop×(AM×Int×Int×Unit):=
 let k:=GZ p
 let b:=k !=0
 let l:=f34 p t
 let c:=l !=0
 let m:Bool:=u<0
 let d:=cond m true (u>len (nC0 p t))
 let e:=cond (len p.2.2.2.1≥64) true (p.2.2.2.2.1==1073741824)
 let a:=Ic p
 let n:=Oq s
 let r:=(p.2.2.2.2.1,n.2.1,t,n.2.2.2)
 let o:=f36 p t u
 let q:=([r]:List AJ)
 let j:=(a.1,a.2.1,a.2.2.1,f35 a.2.2.2.1 o q,a.2.2.2.2.1+1,(Q1 a))
 let f:=QO j
 let g:=f.2.1 !=0
 let h:=cond e (0,0,0,[],0,(0,0,[],()),[],[],()) (cond g (0,0,0,[],0,(0,0,[],()),[],[],()) f.1)
 let i:=cond c (0,0,0,[],0,(0,0,[],()),[],[],()) (cond d (0,0,0,[],0,(0,0,[],()),[],[],()) h)
 (J7 p/\(!b->qC p t/\(!c->(!m->bP p t)/\(!d->!e->M0 p/\sS s/\V6 p t u/\V5 a.2.2.2.1 o q/\A6 (a.2.2.2.2.1+1)/\Ot j))),(cond b (0,0,0,[],0,(0,0,[],()),[],[],()) i,cond b 0 (cond c 0 (cond d 0 (cond e 0 (cond g 0 p.2.2.2.2.1)))),cond b k (cond c l (cond d 2 (cond e 3 (cond g f.2.1 0)))),()))
def RC a b c d:=(RB a b c d).1
def bR a b c d:=(RB a b c d).2
def hJ8:=FA Al Ay vI vI (.tup (.cons Al (.cons vI (.cons vI .nl)))) RC bR
theorem lW0:SK 12 (FA Al Ay vI vI (.tup (.cons Al (.cons vI (.cons vI .nl)))) RC bR):=fx (λc=>{ c with wants:=[(35,[0,2])] }) Tryz.func12 84 [kb QK,kb pP5,kb pP4,kb oT0,kb qV4,kb mA4,kb nC1,kb mA5] [] [(23,[(4,0,50,401300),(4,0,300050,401303)]),(31,[(4,0,66,401300)]),(34,[(1,13,3,0),(1,13,7,0)])] false [] [65]
def RD (e f g:Int):Prop×(AM×Int×Unit):=
 let b:=(e,f,g,([]:List AJ),(1:Int),((0:Int),(0:Int),([]:List Int),()),([]:List C8),([]:List C9),())
 let c:=Jx b
 let a:=c !=0
 let d:=(cond a 0 e,cond a 0 f,cond a 0 g,([]:List AJ),cond a 0 1,(cond a 0 0,cond a 0 0,([]:List Int),()),([]:List C8),([]:List C9),())
 (Pz b,(d,cond a c 0,()))
def pR0 a b c:=(RD a b c).1
def f24 a b c:=(RD a b c).2
theorem lW1:SK 24 (DU vI vI vI (.tup (.cons Al (.cons vI .nl))) pR0 f24):=fb Tryz.func24 21 [kb nY1]
abbrev uV0:Type:=((List Int)×(List Int)×Int×Unit)
def V7 (y:uV0)(x:AD):Vm AD:=
 let d:=y.1
 let e:=y.2.1
 let a:=x.1
 let b:Bool:=a<y.2.2.1
 let c:=nth d a 0!=nth e a 0
 (b->A7 a (len d)/\A7 a (len e)/\(!c->A6 (a+1)),b&&(!c),(a+1,()),b&&c,!b)
def sE6 y x:=(V7 y x).1
def qL8 y x:=(V7 y x).2.1
def tT8 y x:=(V7 y x).2.2.1
def qV6 y x:=(V7 y x).2.2.2.1
def nC4 y x:=(V7 y x).2.2.2.2
def rQ7 (y:uV0)(x:AD):Bool:=
 false
def nC5:=li [(0,Ak),(1,Ak),(12,vI)] [(13,vI)] qL8 tT8 sE6 (λy x=>[ex 1 (some (qV6 y x)) [(4,vB)] ((rQ7 y x),()),ex 2 (some (nC4 y x)) [] ()]) [[(4,vB)],[]]
def RE (e f:List Int):Prop×Bool:=
 let b:=len e !=len f
 let a:=(e,f,len e,())
 let d:=((0:Int),())
 let c:=A3 (qL8 a) (tT8 a) d
 (!b->AB (qL8 a) (tT8 a) (sE6 a) d,cond b false (cond (qV6 a c) (rQ7 a c) true))
def RF a b:=(RE a b).1
def bS a b:=(RE a b).2
theorem lW2:SK 25 (BF Ak Ak vB RF bS):=fb Tryz.func25 26 [] [(4,nC5)]
abbrev bT:Type:=((List AJ)×Int×Unit)
def qL9 (y:bT)(x:Gq):Vn Gq:=
 let e:=y.1
 let d:=x.1
 let a:=x.2.1
 let b:Bool:=a<y.2.1
 let c:=([(nth e a AA).1]:List Int)
 (b->A7 a (len e)/\((length d+length c:Nat):Int)<=4294967296/\A6 (a+1),b,(d++c,a+1,()))
def sE8 y x:=(qL9 y x).1
def qM y x:=(qL9 y x).2.1
def tT9 y x:=(qL9 y x).2.2
def rQ9 (y:bT)(x:Gq):(List Int):=
 x.1
def qV7:List (Nat×Sh):=[(3,(.own Aa 1003 false))]
def nC6:=li [(7,Ar),(8,vI)] [(3,(.own Aa 1003 false)),(9,vI)] qM tT9 sE8 (λy x=>[ex 2 none qV7 ((rQ9 y x),())]) [qV7]
def RG (c:AM):Prop×(List Int):=
 let a:=(c.2.2.2.1,len c.2.2.2.1,())
 let b:=(([]:List Int),(0:Int),())
 (AB (qM a) (tT9 a) (sE8 a) b,rQ9 a (A3 (qM a) (tT9 a) b))
def V8 a:=(RG a).1
def f26 a:=(RG a).2
theorem lW3:SK 26 (AU Al Bh V8 f26):=fb Tryz.func26 20 [] [(3,nC6)] [(11,[(4,0,17,1003)]),(15,[(4,0,1003,0)])]
abbrev sE9:Type:=(AM×Unit)
def qM0 (y:sE9)(x:CU):Vn CU:=
 let a:=y.1
 let d:=x.1
 let e:=x.2.1
 let b:=(nth a.2.2.2.1 d AA).2.2.1 !=0
 let c:=nth a.2.2.2.1 d AA
 (A7 d (len a.2.2.2.1)/\(b->A7 d (len a.2.2.2.1)/\Hy a c.2.2.1/\A6 (e+1)),b,(BN a c.2.2.1,e+1,()))
def sF y x:=(qM0 y x).1
def qM1 y x:=(qM0 y x).2.1
def tU y x:=(qM0 y x).2.2
def rR (y:sE9)(x:CU):Int:=
 x.2.1
def nC7:=li [(2,Ae)] [(5,vI),(6,vI)] qM1 tU sF (λy x=>[ex 2 none [(6,vI)] ((rR y x),())]) [[(6,vI)]]
def RH (f:AM)(g:Int):Prop×Int:=
 let d:=BN f g
 let b:Bool:=d<0
 let c:=cond b true (GZ f !=0)
 let a:=(f,())
 let e:=(d,(1:Int),())
 (Hy f g/\(!b->J7 f)/\(!c->AB (qM1 a) (tU a) (sF a) e),cond c 0 (rR a (A3 (qM1 a) (tU a) e)))
def pR1 a b:=(RH a b).1
def f28 a b:=(RH a b).2
theorem lW4:SK 28 (BF Al vI vI pR1 f28):=fb Tryz.func28 35 [kb QK,kb Ok] [(5,nC7)]
def f31 (a:List AJ)(b c:Int):List AJ:=take (toNat b) a++drop (toNat c) a
def pR2 (a:List AJ)(b c:Int):Prop:=0<=b/\b<c/\c<=(length a:Int)
def lW5:List (Nat×Sh):=[(0,(.own T42 400000 true)),(1,Dx),(2,Dx)]
def lW6:Sh:=Co
def lW7:List (Nat×Sh):=[]
def pR3:Am.Spec:=fnSpec lW5 lW6 lW7 (λx=>pR2 x.1 x.2.1 x.2.2.1) (λx=>f31 x.1 x.2.1 x.2.2.1) (λ_=>())
theorem lW8:SpecOk Tryz.prog 31 pR3:=nL0 rfl ⟨_,Tryz.func31,by kernel_rfl,by decide⟩ lI7
abbrev uV3:Type:=((List Int)×Int×Int×Unit)
def V9 (y:uV3)(x:AD):Vm AD:=
 let d:=y.1
 let b:=x.1
 let c:Bool:=b<y.2.2.1
 let a:=y.2.1==nth d b 0
 (c->A7 b (len d)/\(!a->A6 (b+1)),c&&(!a),(b+1,()),c&&a,!c)
def sF0 y x:=(V9 y x).1
def qM2 y x:=(V9 y x).2.1
def tU0 y x:=(V9 y x).2.2.1
def qV8 y x:=(V9 y x).2.2.2.1
def nC8 y x:=(V9 y x).2.2.2.2
def rR0 (y:uV3)(x:AD):Int:=
 x.1
def nC9:=li [(0,Ak),(1,vI),(7,vI)] [(8,vI)] qM2 tU0 sF0 (λy x=>[ex 1 (some (qV8 y x)) [(4,vI)] ((rR0 y x),()),ex 2 (some (nC8 y x)) [] ()]) [[(4,vI)],[]]
def RI (d:List Int)(e:Int):Prop×Int:=
 let a:=(d,e,len d,())
 let c:=((0:Int),())
 let b:=A3 (qM2 a) (tU0 a) c
 (AB (qM2 a) (tU0 a) (sF0 a) c,cond (qV8 a b) (rR0 a b) (-1:Int))
def pR4 a b:=(RI a b).1
def f99 a b:=(RI a b).2
theorem lW9:SK 99 (BF Ak vI vI pR4 f99):=fb Tryz.func99 19 [] [(2,nC9)]
def RJ (a:List Int)(b:Int):Prop×Bool:=
 (pR4 a b,decide (f99 a b≥0))
def bU a b:=(RJ a b).1
def f66 a b:=(RJ a b).2
def nP3:=BF Ak vI vB bU f66
theorem lX:SK 66 (BF Ak vI vB bU f66):=fb Tryz.func66 9 [kb lW9]
def RL (p:AM)(D E F:Int):Prop×(AM×Int×Unit):=
 let t:=GZ p
 let g:=t !=0
 let b:=BN p D
 let h:Bool:=b<0
 let u:=f34 p E
 let i:=u !=0
 let j:=bQ p D
 let v:=E==D
 let k:=cond v true (f66 j E)
 let a:=Ic p
 let w:=b+1
 let z:=len j
 let e:=w+z
 let c:=drop (toNat b) (take (toNat e) a.2.2.2.1)
 let s:=((nth c 0 AA).1,(nth c 0 AA).2.1,E,(nth c 0 AA).2.2.2)
 let d:=set c (toNat 0) s
 let f:=f31 a.2.2.2.1 b e
 let A:Bool:=F<0
 let o:=(a.1,a.2.1,a.2.2.1,f,a.2.2.2.2)
 let l:=cond A true (F>len (f27 o E))
 let q:=(a.1,a.2.1,a.2.2.1,f,a.2.2.2.2)
 let B:=f36 q E F
 let r:=(a.1,a.2.1,a.2.2.1,f35 f B d,a.2.2.2.2)
 let C:=QO r
 let m:=cond k (0,0,0,[],0,(0,0,[],()),[],[],()) (cond l (0,0,0,[],0,(0,0,[],()),[],[],()) C.1)
 let n:=cond h (0,0,0,[],0,(0,0,[],()),[],[],()) (cond i (0,0,0,[],0,(0,0,[],()),[],[],()) m)
 (J7 p/\(!g->Hy p D/\(!h->qC p E/\(!i->R9 p D/\(!v->bU j E)/\(!k->M0 p/\A6 (b+1)/\A6 (w+z)/\(0<=b/\b<=e/\e<=len a.2.2.2.1)/\(0<length c/\(length c:Int)<=4294967296)/\A7 0 (len c)/\(0:Int)<len c/\pR2 a.2.2.2.1 b e/\((!A)->V4 o E)/\(!l->V6 q E F/\V5 f B d/\Ot r))))),(cond g (0,0,0,[],0,(0,0,[],()),[],[],()) n,cond g t (cond h 9 (cond i u (cond k 11 (cond l 2 C.2.1)))),()))
def qW a b c d:=(RL a b c d).1
def f29 a b c d:=(RL a b c d).2
def nP4:=FA Al vI vI vI (.tup (.cons Al (.cons vI .nl))) qW f29
def lB0:Ctx:={ Cx tys [(14,nN1),(15,nN),(16,nN9),(18,nO),(27,nP),(31,pR3),(32,nP1),(34,nP0),(35,pR),(36,nP2),(66,nP3)] [] [(21,[(4,0,38,1013)]),(27,[(4,0,49,401400),(4,0,300049,401403)]),(31,[(4,0,60,1016)]),(35,[(4,0,69,401400)]),(41,[(4,0,89,401400)]),(42,[(1,14,3,0),(1,14,7,0)])] false 95 [] [] with wants:=[(31,[0]),(35,[0,2])],clones:=[(67,43)] }
theorem lB1:CtxOk Tryz.prog lB0:=wA Pu rfl ⟨QK,Ok,pP5,oT0,mA3,lW8,nC3,mA4,nC1,mA5,lX,trivial⟩ rfl (by kernel_rfl) rfl nL6
theorem lX0:SK 29 nP4:=fl lB1 Tryz.func29 (bs:=[]) trivial
abbrev tH7:Type:=(AM×(Int×Int×Int×(List AJ)×Int×(Int×Int×(List Int)×Unit)×(List C8)×(List C9)×Unit)×Int×Int×Int×Unit)
abbrev uD8:Type:=((List (Int×Int×Unit))×Int×Unit)
def sZ9 (y:tH7)(x:uD8):Vn uD8:=
 let d:=y.1
 let e:=y.2.2.1
 let a:=x.2.1
 let b:Bool:=a<y.2.2.2.2.1
 let c:=e+a
 (b->A6 (e+a)/\A7 c (len d.2.2.2.1)/\A6 (d.2.2.2.2.1+a)/\A6 (a+1),b,(He Aa Aa (nth d.2.2.2.1 c AA).1 (d.2.2.2.2.1+a) x.1,a+1,()))
def tN3 y x:=(sZ9 y x).1
def rR1 y x:=(sZ9 y x).2.1
def tH8 y x:=(sZ9 y x).2.2
def sW2 (y:tH7)(x:uD8):(List (Int×Int×Unit)):=
 x.1
def qC3:List (Nat×Sh):=[(2,Ae),(4,Ab),(8,vI),(9,vI),(10,Cs)]
def oK0:=li [(2,Ae),(4,Ab),(8,vI),(9,vI),(52,vI)] [(10,Cs),(53,vI)] rR1 tH8 tN3 (λy x=>[ex 2 none qC3 (y.1,y.2.1,y.2.2.1,y.2.2.2.1,(sW2 y x),())]) [qC3]
abbrev tH9:Type:=(AM×(Int×Int×Int×(List AJ)×Int×(Int×Int×(List Int)×Unit)×(List C8)×(List C9)×Unit)×Int×Int×(List (Int×Int×Unit))×Int×Unit)
def rA (y:tH9)(x:bT):Vn bT:=
 let m:=y.1
 let n:=y.2.2.1
 let d:=y.2.2.2.2.1
 let e:=x.1
 let b:=x.2.1
 let g:Bool:=b<(Q1 y).1
 let h:=n+b
 let i:=nth m.2.2.2.1 h AA
 let c:=Oq i
 let j:=getD (E7 Aa Aa c.1 d) 0
 let s:=(j,c.2)
 let k:=(j,c.2.1,getD (E7 Aa Aa c.2.2.1 d) 0,c.2.2.2)
 let a:=cond (isSome (E7 Aa Aa c.2.2.1 d)) k s
 let l:=(Vf a (getD (E7 Aa Aa (Qh a).1 d) 0) ((Qj a).1,()))
 let f:=set e (toNat b) (cond (cond (isSome (E7 Aa Aa (Qh a).1 d)) (a.2.1==10) false) l a)
 (g->A6 (n+b)/\A7 h (len m.2.2.2.1)/\sS i/\A7 b (len e)/\b<len e/\A6 (b+1),g,(f,b+1,()))
def tN4 y x:=(rA y x).1
def rR2 y x:=(rA y x).2.1
def tI y x:=(rA y x).2.2
def sW3 (y:tH9)(x:bT):(List AJ):=
 x.1
def qC4:List (Nat×Sh):=[(2,Ae),(4,Ab),(8,vI),(9,vI),(12,(.own T42 1012 true))]
def oK1:=li [(2,Ae),(4,Ab),(8,vI),(9,vI),(10,Cs),(73,vI)] [(12,(.own T42 1012 true)),(74,vI)] rR2 tI tN4 (λy x=>[ex 4 none qC4 (y.1,y.2.1,y.2.2.1,y.2.2.2.1,(sW3 y x),())]) [qC4]
def RM (p:AM)(u:Int):Prop×((Int×Int×Int×(List AJ)×Int×Fs×(List C8)×(List C9)×Unit)×Int×Int×Unit):=
 let l:=GZ p
 let c:=l !=0
 let i:=BN p u
 let d:Bool:=i<0
 let m:=len (bQ p u)
 let a:=1+m
 let n:=len p.2.2.2.1
 let o:Bool:=(n+a)>64
 let e:=cond o true ((p.2.2.2.2.1+a)>1073741824)
 let g:=(p,((0:Int),(0:Int),(0:Int),([]:List AJ),(0:Int),((0:Int),(0:Int),([]:List Int),()),([]:List C8),([]:List C9),()),i,a,a,())
 let r:=(([]:List (Int×Int×Unit)),(0:Int),())
 let q:=List.replicate (toNat a) AA
 let h:=(p,((0:Int),(0:Int),(0:Int),([]:List AJ),(0:Int),((0:Int),(0:Int),([]:List Int),()),([]:List C8),([]:List C9),()),i,a,sW2 g (A3 (rR1 g) (tH8 g) r),len q,())
 let s:=(q,(0:Int),())
 let f:=sW3 h (A3 (rR2 h) (tI h) s)
 let b:=Ic p
 let j:=i+a
 let k:=cond c (0,0,[],()) (cond d (0,0,[],()) (cond e (0,0,[],()) (Q1 b).1))
 let t:=(cond c 0 (cond d 0 (cond e 0 b.1)),cond c 0 (cond d 0 (cond e 0 b.2.1)),cond c 0 (cond d 0 (cond e 0 b.2.2.1)),cond c [] (cond d [] (cond e [] (f35 b.2.2.2.1 j f))),cond c 0 (cond d 0 (cond e 0 (b.2.2.2.2.1+a))),k,cond c [] (cond d [] (cond e [] (Q3 b).1)),cond c [] (cond d [] (cond e [] (Q0 b).1)),())
 (J7 p/\(!c->Hy p u/\(!d->R9 p u/\A6 (1+m)/\A6 (n+a)/\(!o->A6 (p.2.2.2.2.1+a))/\(!e->AB (rR1 g) (tH8 g) (tN3 g) r/\(0<=a/\a<=a/\a<=4294967296)/\AB (rR2 h) (tI h) (tN4 h) s/\M0 p/\A6 (i+a)/\V5 b.2.2.2.1 j f/\A6 (b.2.2.2.2.1+a)))),(t,cond c 0 (cond d 0 (cond e 0 p.2.2.2.2.1)),cond c l (cond d 9 (cond e 3 0)),()))
def pR5 a b:=(RM a b).1
def f30 a b:=(RM a b).2
theorem lX1:SK 30 (BF Al vI (.tup (.cons (.agg (.cons Aa (.cons Aa (.cons Aa (.cons Cu (.cons Aa (.cons Hj (.cons Cv (.cons Cw .nl)))))))) (.cons vI (.cons vI (.cons vI (.cons Co (.cons vI (.cons Ca (.cons Bn (.cons Dw .nl))))))))) (.cons vI (.cons vI .nl)))) pR5 f30):=fx (λc=>{ c with wants:=[(35,[0,2])],maps:=maps }) Tryz.func30 138 [kb QK,kb Ok,kb pP5,kb pP4,kb nC3,kb nC1] [(12,oK0),(18,oK1)] [(21,[(4,0,51,1010)]),(33,[(4,0,71,1012)]),(61,[(4,0,121,401900),(4,0,300121,401903)]),(63,[(4,0,128,401900)]),(67,[(4,0,401900,0),(4,0,401903,3)])] false [] [71]
def f9t :Prop×Bool:=
 let s:=((5:Int),(0:Int),(0:Int),(9:Int),())
 let c:=f24 4 4 0
 let C:=cond (cond (cond (c.2.1 !=0) true (c.1.1 !=4)) true (c.1.2.1 !=4)) true (c.1.2.2.2.2.1 !=1)
 let A:=((0:Int),(1:Int),(0:Int),([103]:List UInt8),false,false,false,(65535:Int),(0:Int),((0:Int),(0:Int),([]:List Int),()),Lk,(0:Int),((0:Int),(0:Int),([]:List CP),()),Gn,(0:Int),([]:List Int),(0:Int),([]:List B0),([]:List A9),(0:Int),(0:Int),(0:Int),(0:Int),([]:List UInt8),(0:Int),(0:Int),(0:Int),((0:Int),(0:Int),(0:Int),([]:List A0),()),())
 let h:=bR c.1 A 0 0
 let E:=cond (h.2.2.1 !=0) true (h.2.1 !=1)
 let B:=((0:Int),(3:Int),(0:Int),([102]:List UInt8),false,false,false,(65535:Int),(0:Int),((0:Int),(0:Int),([]:List Int),()),Lk,(0:Int),((0:Int),(0:Int),([]:List CP),()),s,(0:Int),([]:List Int),(0:Int),([]:List B0),([]:List A9),(0:Int),(0:Int),(0:Int),(0:Int),([]:List UInt8),(0:Int),(0:Int),(0:Int),((0:Int),(0:Int),(0:Int),([]:List A0),()),())
 let i:=bR h.1 B 1 0
 let F:=cond (i.2.2.1 !=0) true (i.2.1 !=2)
 let j:=((0:Int),(3:Int),(0:Int),([102]:List UInt8),false,false,false,(65535:Int),(0:Int),((0:Int),(0:Int),([]:List Int),()),Lk,(0:Int),((0:Int),(0:Int),([]:List CP),()),s,(0:Int),([]:List Int),(0:Int),([]:List B0),([]:List A9),(0:Int),(0:Int),(0:Int),(0:Int),([]:List UInt8),(0:Int),(0:Int),(0:Int),((0:Int),(0:Int),(0:Int),([]:List A0),()),())
 let b:=bR i.1 j 0 0
 let v:=cond (b.2.2.1 !=0) true (b.2.1 !=3)
 let H:=f26 b.1
 let J:=([(3:Int),(1:Int),(2:Int)]:List Int)
 let w:=cond v true (!(bS H J))
 let K:=nC0 b.1 0
 let L:=([(3:Int),(1:Int)]:List Int)
 let M:=cond w true (!(bS K L))
 let N:=cond M true (f28 b.1 2!=2)
 let O:=cond N true (GZ b.1!=0)
 let d:=f29 b.1 3 1 1
 let e:=d.2.1 !=0
 let m:=f26 d.1
 let n:=([(1:Int),(2:Int),(3:Int)]:List Int)
 let o:=cond e true (!(bS m n))
 let q:=(f29 b.1 1 1 0).2.1 !=11
 let k:=((0:Int),(3:Int),(0:Int),([102]:List UInt8),false,false,true,(65535:Int),(0:Int),((0:Int),(0:Int),([]:List Int),()),Lk,(0:Int),((0:Int),(0:Int),([]:List CP),()),s,(0:Int),([]:List Int),(0:Int),([]:List B0),([]:List A9),(0:Int),(0:Int),(0:Int),(0:Int),([]:List UInt8),(0:Int),(0:Int),(0:Int),((0:Int),(0:Int),(0:Int),([]:List A0),()),())
 let r:=(bR b.1 k 0 0).2.2.1 !=14
 let a:=f30 b.1 1
 let f:=cond (a.2.2.1==0) (a.2.1==4) false
 let l:=(a.1.1,a.1.2.1,a.1.2.2.1,a.1.2.2.2.1,a.1.2.2.2.2.1,(Q1 a.1).1,(Q3 a.1).1,(Q0 a.1).1,())
 let t:=f26 l
 let u:=([(3:Int),(1:Int),(2:Int),(4:Int),(5:Int)]:List Int)
 let g:=cond (cond f (bS t u) false) (a.1.2.2.2.2.1==6) false
 let z:=cond F false (cond O false (cond o false (cond q false (cond r false (cond g ((nth a.1.2.2.2.1 4 AA).2.2.1==4) false)))))
 (pR0 4 4 0/\((!C)->RC c.1 A 0 0/\((!E)->RC h.1 B 1 0/\((!F)->RC i.1 j 0 0/\(!v->V8 b.1)/\(!v->RF H J)/\(!w->bP b.1 0)/\(!w->RF K L)/\((!M)->pR1 b.1 2)/\((!N)->J7 b.1)/\((!O)->qW b.1 3 1 1/\(!e->V8 d.1)/\(!e->RF m n)/\(!o->qW b.1 1 1 0/\(!q->RC b.1 k 0 0/\(!r->pR5 b.1 1/\(f->V8 l)/\(f->RF t u)/\(g->A7 4 (len a.1.2.2.2.1))/\(g->4<len a.1.2.2.2.1)))))))),cond C false (cond E false z))
def VA :Prop:=(f9t).1
def f9 :Bool:=(f9t).2
def lB2:Am.Spec:=fnSpec [] vB [] (λx=>VA ) (λx=>f9 ) (λ_=>())
theorem kB7:SK 9 (fnSpec [] vB [] (λx=>VA ) (λx=>f9 ) (λ_=>())):=fb Tryz.func9 160 [kb lW0,kb QK,kb lW1,kb lW2,kb lW3,kb qV4,kb lW4,kb lX0,kb lX1] [] [(51,[(4,0,131,400900),(4,0,300131,400903)])]
def Yy :Prop×Int:=
 (True,4)
def oT1 :Prop:=(Yy).1
def f86 :Int:=(Yy).2
def nO1:Am.Spec:=fnSpec [] vI [] (λx=>oT1 ) (λx=>f86 ) (λ_=>())
theorem lO9:SK 86 (fnSpec [] vI [] (λx=>oT1 ) (λx=>f86 ) (λ_=>())):=fb Tryz.func86 1
def Yz (e f g:Int):Prop×(AM×Int×Unit):=
 let a:=cond (cond (cond (e<1) true (e>256)) true (f<1)) true (f>256)
 let c:Bool:=g<0
 let b:=cond c true (g≥f86)
 let d:=(cond a 0 (cond b 0 e),cond a 0 (cond b 0 f),cond a 0 (cond b 0 g),([]:List AJ),cond a (0:Int) (cond b 0 1),(cond a 0 (cond b 0 0),cond a (0:Int) (cond b 0 0),([]:List Int),()),([]:List C8),([]:List C9),())
 (!a->!c->oT1,(d,cond a (15:Int) (cond b 2 0),()))
def nZ6 a b c:=(Yz a b c).1
def Y0 a b c:=(Yz a b c).2
def nO2:=DU vI vI vI (.tup (.cons Al (.cons vI .nl))) nZ6 Y0
def mS9:=Cy [(86,nO1)] [] [] 35
theorem lP:SK 55 nO2:=fq (c:=mS9) Tryz.func55 ⟨lO9,trivial⟩
def Y1 (y:sE2)(x:AD):Vm AD:=
 let d:=y.2.1
 let a:=x.1
 let b:Bool:=a<y.2.2.1
 let c:=(nth d a AA).1==y.1
 (b->A7 a (len d)/\(!c->A6 (a+1)),b&&(!c),(a+1,()),b&&c,!b)
def qT1 y x:=(Y1 y x).1
def qH9 y x:=(Y1 y x).2.1
def tS y x:=(Y1 y x).2.2.1
def qT2 y x:=(Y1 y x).2.2.2.1
def oT2 y x:=(Y1 y x).2.2.2.2
def rH7 (y:sE2)(x:AD):Int:=
 x.1
def oT3:=li [(1,vI),(8,Ar),(9,vI)] [(10,vI)] qH9 tS qT1 (λy x=>[ex 1 (some (qT2 y x)) [(4,vI)] ((rH7 y x),()),ex 2 (some (oT2 y x)) [] ()]) [[(4,vI)],[]]
def Y2 (d:AM)(e:Int):Prop×Int:=
 let a:=(e,d.2.2.2.1,len d.2.2.2.1,())
 let c:=((0:Int),())
 let b:=A3 (qH9 a) (tS a) c
 (AB (qH9 a) (tS a) (qT1 a) c,cond (qT2 a b) (rH7 a b) (-1:Int))
def Ov a b:=(Y2 a b).1
def Fu a b:=(Y2 a b).2
theorem Y3:SK 20 (BF Al vI vI Ov Fu):=fb Tryz.func20 21 [] [(2,oT3)]
abbrev uP9:Type:=(Fs×Unit)
def YK (y:uP9)(x:AD):Vm AD:=
 let d:=y.1
 let b:=x.1
 let a:Bool:=b<len d.2.2.1
 let e:Bool:=nth d.2.2.1 b 0<0
 let c:=cond e true (nth d.2.2.1 b 0>65535)
 (a->A7 b (len d.2.2.1)/\(!e->A7 b (len d.2.2.1))/\(!c->A6 (b+1)),a&&(!c),(b+1,()),a&&c,!a)
def rI y x:=(YK y x).1
def sY7 y x:=(YK y x).2.1
def uQ y x:=(YK y x).2.2.1
def qT6 y x:=(YK y x).2.2.2.1
def oT5 y x:=(YK y x).2.2.2.2
def rI0 (y:uP9)(x:AD):Int:=
 2
def oT6:=li [(1,(.box Hj Ca))] [(3,vI)] sY7 uQ rI (λy x=>[ex 1 (some (qT6 y x)) [(2,vI)] ((rI0 y x),()),ex 2 (some (oT5 y x)) [] ()]) [[(2,vI)],[]]
def YL (g:Fs):Prop×Int:=
 let b:=cond (cond (cond (g.1<0) true (g.1>256)) true (g.2.1<0)) true (g.2.1>256)
 let c:=!(Ty.eqb .bool (g.1==0) (g.2.1==0))
 let d:=cond c true (len g.2.2.1!=(g.1*g.2.1))
 let a:=(g,())
 let f:=((0:Int),())
 let e:=A3 (sY7 a) (uQ a) f
 (!b->(!c->A6 (g.1*g.2.1))/\(!d->AB (sY7 a) (uQ a) (rI a) f),cond b 15 (cond d 15 (cond (qT6 a e) (rI0 a e) 0)))
def pP6 a:=(YL a).1
def Uz a:=(YL a).2
theorem nZ8:SK 61 (AU Ca vI pP6 Uz):=fb Tryz.func61 61 [] [(6,oT6)]
def lP7 (a b c:Int):Prop×Bool:=
 (True,cond (a≥b) (decide (a<=c)) false)
def tD a b c:=(lP7 a b c).1
def Fi a b c:=(lP7 a b c).2
theorem oT7:SK 147 (DU vI vI vI vB tD Fi):=fb Tryz.func147 15
def nO3 (d:Int):Prop×(List UInt8):=
 let b:=cond (d<1) true (d>11)
 let c:=([([103,114,111,117,112]:List UInt8),([105,109,97,103,101]:List UInt8),([102,105,108,108]:List UInt8),([103,114,97,100,105,101,110,116]:List UInt8),([112,97,116,104]:List UInt8),([116,101,120,116]:List UInt8),([97,100,106,117,115,116]:List UInt8),([102,105,108,116,101,114]:List UInt8),([108,105,110,107]:List UInt8),([99,108,111,110,101]:List UInt8),([119,97,114,112]:List UInt8)]:List (List UInt8))
 let a:=d-1
 (!b->A6 (d-1)/\A7 a (len c),cond b [] (nth c a []))
def YM a:=(nO3 a).1
def M3 a:=(nO3 a).2
theorem mT3:SK 148 (AU vI vS YM M3):=fb Tryz.func148 14
abbrev U0:Type:=((List UInt8)×Unit)
def YN (y:U0)(x:AD):Vm AD:=
 let c:=y.1
 let a:=x.1
 let e:Bool:=a<len c
 let d:Bool:=wD c a<33
 let b:=cond d true (wD c a>126)
 (e->A7 a (len c)/\(!d->A7 a (len c))/\(!b->A6 (a+1)),e&&(!b),(a+1,()),e&&b,!e)
def rY6 y x:=(YN y x).1
def U1 y x:=(YN y x).2.1
def U4 y x:=(YN y x).2.2.1
def rY7 y x:=(YN y x).2.2.2.1
def oF1 y x:=(YN y x).2.2.2.2
def sS9 (y:U0)(x:AD):Bool:=
 false
def oF2:=li [(0,vS)] [(3,vI)] U1 U4 rY6 (λy x=>[ex 1 (some (rY7 y x)) [(2,vB)] ((sS9 y x),()),ex 2 (some (oF1 y x)) [(0,vS)] (y.1,())]) [[(2,vB)],[(0,vS)]]
def lP8 (d:List UInt8):Prop×Bool:=
 let a:=(d,())
 let c:=((0:Int),())
 let b:=A3 (U1 a) (U4 a) c
 (AB (U1 a) (U4 a) (rY6 a) c,cond (rY7 a b) (sS9 a b) (cond (len d>0) (decide (len d<=32)) false))
def pH5 a:=(lP8 a).1
def M4 a:=(lP8 a).2
theorem mT4:SK 149 (AU vS vB pH5 M4):=fb Tryz.func149 28 [] [(2,oF2)]
def lP9 (a:Int):Prop×Bool:=
 (True,cond (a≥0) (decide (a<=17)) false)
def oT8 a:=(lP9 a).1
def QS a:=(lP9 a).2
theorem mT5:SK 150 (AU vI vB oT8 QS):=fb Tryz.func150 9
def lQ (a:AJ):Prop×Bool:=
 (True,cond (cond (a.2.1==7) true (a.2.1==8)) true (a.2.1==11))
def oT9 a:=(lQ a).1
def YO a:=(lQ a).2
theorem mT6:SK 151 (AU Ay vB oT9 YO):=fb Tryz.func151 16
def mT7 (l:AJ)(m n:Int):Prop×Int:=
 let b:=!(Fi m 1 256)
 let c:=cond b true (!(Fi n 1 256))
 let d:=M3 l.2.1==[]
 let e:=!(M4 l.2.2.2.1)
 let f:=!(Fi l.1 0 1073741824)
 let g:=cond f true (!(Fi l.2.2.1 0 1073741824))
 let h:=cond g true (!(Fi (Q0 l).1 0 65535))
 let i:=!(QS (Q5 l).1)
 let j:=cond i true (cond (YO l) ((Q5 l).1 !=0) false)
 let k:=Uz (Q4 l).1
 let a:=cond (k !=0) k (cond (cond ((Q4 l).1.1 !=0) (cond ((Q4 l).1.1 !=m) true ((Q4 l).1.2.1 !=n)) false) 15 0)
 (tD m 1 256/\(!b->tD n 1 256)/\(!c->YM l.2.1/\(!d->pH5 l.2.2.2.1/\(!e->tD l.1 0 1073741824/\(!f->tD l.2.2.1 0 1073741824)/\(!g->tD (Q0 l).1 0 65535)/\(!h->oT8 (Q5 l).1/\(!i->oT9 l)/\(!j->pP6 (Q4 l).1))))),cond c 15 (cond d 8 (cond e 13 (cond h 2 (cond j 8 a)))))
def pH6 a b c:=(mT7 a b c).1
def IC a b c:=(mT7 a b c).2
theorem mT8:SK 115 (DU Ay vI vI vI pH6 IC):=fb Tryz.func115 77 [kb nZ8,kb oT7,kb mT3,kb mT4,kb mT5,kb mT6]
def mT9 (a:Int):Prop×Bool:=
 (True,cond (cond (cond (cond (a==2) true (a==5)) true (a==6)) true (a==9)) true (a==10))
def pH7 a:=(mT9 a).1
def H0 a:=(mT9 a).2
theorem oU:SK 116 (AU vI vB pH7 H0):=fb Tryz.func116 21
def lQ0 (a b c:Int):Prop×Int:=
 (True,GJ c (GI a b))
def YP a b c:=(lQ0 a b c).1
def f218 a b c:=(lQ0 a b c).2
theorem qI3:SK 218 (DU vI vI vI vI YP f218):=fb Tryz.func218 12
def lQ1 (a:Int):Prop×Int:=
 (YP a (-16777216:Int) 16777216,f218 a (-16777216:Int) 16777216)
def YQ a:=(lQ1 a).1
def K0 a:=(lQ1 a).2
theorem mU:SK 181 (AU vI vI YQ K0):=fb Tryz.func181 5 [kb qI3]
def lQ2 (a:Int):Prop×Int:=
 (YP a (-1099511627776:Int) 1099511627776,f218 a (-1099511627776:Int) 1099511627776)
def QT a:=(lQ2 a).1
def H2 a:=(lQ2 a).2
theorem oU0:SK 182 (AU vI vI QT H2):=fb Tryz.func182 5 [kb qI3]
def lQ3 (a:C3):Prop×C3:=
 (YQ a.1/\YQ a.2.1/\YQ a.2.2.1/\YQ a.2.2.2.1/\QT a.2.2.2.2.1/\QT (Q1 a).1,(K0 a.1,K0 a.2.1,K0 a.2.2.1,K0 a.2.2.2.1,H2 a.2.2.2.2.1,H2 (Q1 a).1,()))
def qI4 a:=(lQ3 a).1
def K1 a:=(lQ3 a).2
theorem oU1:SK 152 (AU Ba Ba qI4 K1):=fb Tryz.func152 22 [kb mU,kb oU0]
def lQ4 (a:C3):Prop×Int:=
 (qI4 a,cond (!(Ty.eqb Hk (K1 a) a)) (2:Int) 0)
def Oy a:=(lQ4 a).1
def DX a:=(lQ4 a).2
theorem qI5:SK 117 (AU Ba vI Oy DX):=fb Tryz.func117 7 [kb oU1]
def YR (f g:Int):Prop×Int:=
 let e:=g==0
 let b:=cond (f==(-9223372036854775808)) (g==(-1)) false
 let c:=wrap .i64 (Int.tdiv f g)
 let d:=Int.tmod f g
 let a:=cond e 0 (cond b 9223372036854775807 (cond (cond (d !=0) (!(Ty.eqb .bool (decide (d<0)) (decide (g<0)))) false) (wrap .i64 (c-1)) c))
 (!e->!b->g≠0/\g≠0,a)
def M5 a b:=(YR a b).1
def EX a b:=(YR a b).2
theorem oU3:SK 183 (BF vI vI vI M5 EX):=fb Tryz.func183 33 [] [] [] true
def U5 (a:Int):Prop×Int:=
 (True,cond (a<0) (wrap .u64 (0-(wrap .u64 a))) (wrap .u64 a))
def M6 a:=(U5 a).1
def BB a:=(U5 a).2
theorem oU4:SK 184 (AU vI Ap M6 BB):=fb Tryz.func184 10 [] [] [] true
def YS (f g:Int):Prop×Int:=
 let e:=g==0
 let a:=EX f g
 let b:=cond (f==(-9223372036854775808)) (g==(-1)) false
 let c:=wrap .i64 (f-(wrap .i64 (g*a)))
 let d:=BB c
 (!e->M5 f g/\(!b->M6 c/\M6 g),cond e 0 (cond b a (cond (d≥wrap .u64 (BB g-d)) (wrap .i64 (a+1)) a)))
def wH a b:=(YS a b).1
def AZ a b:=(YS a b).2
def oU6:=BF vI vI vI wH AZ
theorem ID:SK 153 (BF vI vI vI wH AZ):=fb Tryz.func153 34 [kb oU3,kb oU4] [] [] true
def mU0 (d e f g:Int):Prop×Int:=
 let a:=EX f 65536
 let b:=EX g 65536
 let c:=wrap .i64 (wrap .i64 (d*wrap .i64 (f-(wrap .i64 (a*65536))))+wrap .i64 (e*wrap .i64 (g-(wrap .i64 (b*65536)))))
 (M5 f 65536/\M5 g 65536/\wH c 65536,wrap .i64 (wrap .i64 (wrap .i64 (d*a)+wrap .i64 (e*b))+AZ c 65536))
def U6 a b c d:=(mU0 a b c d).1
def H3 a b c d:=(mU0 a b c d).2
theorem oU7:SK 154 (FA vI vI vI vI vI U6 H3):=fb Tryz.func154 41 [kb ID,kb oU3] [] [] true
def mU1 (p:C3):Prop×(C3×Int×Unit):=
 let v:=DX p
 let c:=v !=0
 let a:=wrap .i64 (wrap .i64 (p.1*p.2.2.2.1)-(wrap .i64 (p.2.1*p.2.2.1)))
 let d:=a==0
 let l:=wrap .i64 (p.2.2.2.1*4294967296)
 let e:=AZ l a
 let m:=wrap .i64 (wrap .i64 (sub 0 p.2.1)*4294967296)
 let f:=AZ m a
 let n:=wrap .i64 (wrap .i64 (sub 0 p.2.2.1)*4294967296)
 let g:=AZ n a
 let o:=wrap .i64 (p.1*4294967296)
 let h:=AZ o a
 let k:=(e,f,g,h,(0:Int),(0:Int),())
 let i:=DX k !=0
 let q:=wrap .i64 (sub 0 e)
 let r:=wrap .i64 (sub 0 g)
 let s:=wrap .i64 (sub 0 f)
 let t:=wrap .i64 (sub 0 h)
 let b:=(e,f,g,h,H3 q r p.2.2.2.2.1 (Q1 p).1,H3 s t p.2.2.2.2.1 (Q1 p).1,())
 let u:=DX b !=0
 let j:=cond d (0,0,0,0,0,0,()) (cond i (0,0,0,0,0,0,()) (cond u (0,0,0,0,0,0,()) b))
 (Oy p/\(!c->!d->wH l a/\wH m a/\wH n a/\wH o a/\Oy k/\(!i->U6 q r p.2.2.2.2.1 (Q1 p).1/\U6 s t p.2.2.2.2.1 (Q1 p).1/\Oy b)),(cond c (0,0,0,0,0,0,()) j,cond c v (cond d 17 (cond i 17 (cond u 17 0))),()))
def pH8 a:=(mU1 a).1
def IE a:=(mU1 a).2
theorem mU2:SK 118 (AU Ba (.tup (.cons Ba (.cons vI .nl))) pH8 IE):=fb Tryz.func118 88 [kb qI5,kb ID,kb oU7] [] [] true
def mU3 (a:Int):Prop×Bool:=
 (True,cond (cond (cond (a==2) true (a==9)) true (a==10)) true (a==11))
def pH9 a:=(mU3 a).1
def H4 a:=(mU3 a).2
theorem oU8:SK 119 (AU vI vB pH9 H4):=fb Tryz.func119 17
def lQ5 (a:Int):Prop×Bool:=
 (True,cond (a≥0) (decide (a<=4)) false)
def oU9 a:=(lQ5 a).1
def M7 a:=(lQ5 a).2
theorem mU4:SK 120 (AU vI vB oU9 M7):=fb Tryz.func120 9
def lQ6 (a:Int):Prop×Int:=
 (YP a 0 65535,f218 a 0 65535)
def YT a:=(lQ6 a).1
def K4 a:=(lQ6 a).2
theorem mU5:SK 200 (AU vI vI YT K4):=fb Tryz.func200 5 [kb qI3]
def lQ7 (a:CP):Prop×CP:=
 (YT a.1/\YT a.2.1/\YT a.2.2.1/\YT a.2.2.2.1,(K4 a.1,K4 a.2.1,K4 a.2.2.1,K4 a.2.2.2.1,()))
def oV a:=(lQ7 a).1
def YU a:=(lQ7 a).2
theorem mU6:SK 162 (AU Cj Cj oV YU):=fb Tryz.func162 16 [kb mU5]
def lQ8 (a:CP):Prop×Bool:=
 (oV a,Ty.eqb EG (YU a) a)
def U7 a:=(lQ8 a).1
def Gz a:=(lQ8 a).2
theorem qI6:SK 123 (AU Cj vB U7 Gz):=fb Tryz.func123 7 [kb mU6]
abbrev uQ2:Type:=(GV×Unit)
def YV (y:uQ2)(x:AD):Vm AD:=
 let e:=y.1
 let c:=x.1
 let a:Bool:=c<len e.2.2.1
 let d:=nth e.2.2.1 c Gn
 let b:=!(Gz d)
 (a->A7 c (len e.2.2.1)/\U7 d/\(!b->A6 (c+1)),a&&(!b),(c+1,()),a&&b,!a)
def rI6 y x:=(YV y x).1
def sY8 y x:=(YV y x).2.1
def uQ3 y x:=(YV y x).2.2.1
def qT7 y x:=(YV y x).2.2.2.1
def oV0 y x:=(YV y x).2.2.2.2
def rI7 (y:uQ2)(x:AD):Int:=
 2
def oV1:=li [(1,Dg)] [(3,vI)] sY8 uQ3 rI6 (λy x=>[ex 1 (some (qT7 y x)) [(2,vI)] ((rI7 y x),()),ex 2 (some (oV0 y x)) [] ()]) [[(2,vI)],[]]
def YW (g:GV):Prop×Int:=
 let b:=cond (cond (cond (g.1<0) true (g.1>256)) true (g.2.1<0)) true (g.2.1>256)
 let c:=!(Ty.eqb .bool (g.1==0) (g.2.1==0))
 let d:=cond c true (len g.2.2.1!=(g.1*g.2.1))
 let a:=(g,())
 let f:=((0:Int),())
 let e:=A3 (sY8 a) (uQ3 a) f
 (!b->(!c->A6 (g.1*g.2.1))/\(!d->AB (sY8 a) (uQ3 a) (rI6 a) f),cond b 15 (cond d 15 (cond (qT7 a e) (rI7 a e) 0)))
def U8 a:=(YW a).1
def Ly a:=(YW a).2
theorem nZ9:SK 93 (AU Cd vI U8 Ly):=fb Tryz.func93 54 [kb qI6] [(6,oV1)]
def lQ9 (a:CP):Prop×Int:=
 (U7 a,cond (!(Gz a)) (2:Int) 0)
def Oz a:=(lQ9 a).1
def G3 a:=(lQ9 a).2
def oV2:=AU Cj vI Oz G3
theorem pI:SK 155 (AU Cj vI Oz G3):=fb Tryz.func155 6 [kb qI6]
def lR (b:Int)(c:List Int)(d:Int):Prop×Int:=
 let a:=cond (cond (cond (cond (b<1) true (b>4)) true (d<0)) true (d>2)) (8:Int) (cond (cond (cond (b==1) (len c !=4) false) true (cond (b !=1) (len c !=3) false)) 1 0)
 (True,a)
def oV3 a b c:=(lR a b c).1
def IF a b c:=(lR a b c).2
theorem mU7:SK 185 (DU vI Ak vI vI oV3 IF):=fb Tryz.func185 37
abbrev uA1:Type:=(Int×(List Int)×Int×Unit)
def YX (y:uA1)(x:AD):Vm AD:=
 let d:=y.2.1
 let a:=x.1
 let e:Bool:=a<y.2.2.1
 let c:Bool:=nth d a 0<(-1048576)
 let b:=cond c true (nth d a 0>1048576)
 (e->A7 a (len d)/\(!c->A7 a (len d))/\(!b->A6 (a+1)),e&&(!b),(a+1,()),e&&b,!e)
def rY9 y x:=(YX y x).1
def sA5 y x:=(YX y x).2.1
def uG0 y x:=(YX y x).2.2.1
def rZ y x:=(YX y x).2.2.2.1
def rZ0 y x:=(YX y x).2.2.2.2
def sT0 (y:uA1)(x:AD):Int:=
 2
def rZ1:List (Nat×Sh):=[(0,vI),(1,Ak)]
def oF4:=li [(0,vI),(1,Ak),(7,vI)] [(8,vI)] sA5 uG0 rY9 (λy x=>[ex 1 (some (rZ y x)) [(4,vI)] ((sT0 y x),()),ex 2 (some (rZ0 y x)) rZ1 (y.1,y.2.1,())]) [[(4,vI)],rZ1]
def lR0 (e:Int)(f:List Int):Prop×Int:=
 let a:=(e,f,len f,())
 let d:=((0:Int),())
 let c:=A3 (sA5 a) (uG0 a) d
 let b:=cond (e==2) true (e==4)
 (AB (sA5 a) (uG0 a) (rY9 a) d/\(rZ0 a c->b->A7 2 (len f)),cond (rZ a c) (sT0 a c) (cond (cond b (decide (nth f 2 0<0)) false) 2 0))
def oV4 a b:=(lR0 a b).1
def K5 a b:=(lR0 a b).2
theorem mU8:SK 186 (BF vI Ak vI oV4 K5):=fb Tryz.func186 36 [] [(2,oF4)]
def QU (y:vH8)(x:AD):Vm AD:=
 let b:=y.1
 let a:=x.1
 let c:Bool:=a<y.2.1
 let h:Bool:=(nth b a CG).1<0
 let f:=cond h true ((nth b a CG).1>65535)
 let i:=nth b a CG
 let d:=cond f true (!(Gz i.2.1))
 let e:Bool:=a>0
 let j:=a-1
 let k:=cond e (decide ((nth b a CG).1<=(nth b j CG).1)) false
 let g:=(!d)&&(!k)
 (c->A7 a (len b)/\(!h->A7 a (len b))/\(!f->A7 a (len b))/\(!f->U7 i.2.1)/\(!d->(e->A7 a (len b))/\(e->A6 (a-1))/\(e->A7 j (len b)))/\(g->A6 (a+1)),c&&g,(a+1,()),c&&(d||((!d)&&k)),!c)
def sJ7 y x:=(QU y x).1
def YY y x:=(QU y x).2.1
def uG1 y x:=(QU y x).2.2.1
def sJ8 y x:=(QU y x).2.2.2.1
def oF5 y x:=(QU y x).2.2.2.2
def tD3 (y:vH8)(x:AD):Int:=
 let b:=y.1
 let a:=x.1
 (cond (cond (cond ((nth b a CG).1<0) true ((nth b a CG).1>65535)) true (!(Gz (nth b a CG).2.1))) (2:Int) 24)
def oF6:=li [(0,Ao),(11,vI)] [(12,vI)] YY uG1 sJ7 (λy x=>[ex 1 (some (sJ8 y x)) [(2,vI)] ((tD3 y x),()),ex 2 (some (oF5 y x)) [] ()]) [[(2,vI)],[]]
def mU9 (f:List B0):Prop×Int:=
 let c:=len f==0
 let d:Bool:=len f>16
 let a:=(f,len f,())
 let e:=((0:Int),())
 let b:=A3 (YY a) (uG1 a) e
 (!c->!d->AB (YY a) (uG1 a) (sJ7 a) e,cond c 1 (cond d 3 (cond (sJ8 a b) (tD3 a b) 0)))
def pI0 a:=(mU9 a).1
def K6 a:=(mU9 a).2
theorem mV:SK 187 (AU Ao vI pI0 K6):=fb Tryz.func187 55 [kb qI6] [(6,oF6)]
def lR1 (g:Int)(h:List Int)(i:Int)(j:List B0):Prop×Int:=
 let a:=IF g h i
 let b:=a !=0
 let c:=len j==0
 let d:Bool:=len j>16
 let e:=K5 g h
 let f:=e !=0
 (oV3 g h i/\(!b->!c->!d->oV4 g h/\(!f->pI0 j)),cond b a (cond c 1 (cond d 3 (cond f e (K6 j)))))
def pI1 a b c d:=(lR1 a b c d).1
def M8 a b c d:=(lR1 a b c d).2
theorem mV0:SK 156 (FA vI Ak vI Ao vI pI1 M8):=fb Tryz.func156 31 [kb mU7,kb mU8,kb mV]
def mV1 (f:Int):Prop×Int:=
 let d:=f==1
 let c:=cond d d (f==2)
 let e:=f==3
 let b:=f==4
 let a:=cond (cond c true (cond e true (cond b true (f==5)))) (cond c 1 (cond e 2 (cond b 3 0))) (-1:Int)
 (True,a)
def QV a:=(mV1 a).1
def B6 a:=(mV1 a).2
theorem YZ:SK 220 (AU vI vI QV B6):=fb Tryz.func220 13
def mV2 (a:A0):Prop×Bool:=
 (True,cond (cond (cond (a.1≥(-16777216)) (decide (a.1<=16777216)) false) (decide (a.2.1≥(-16777216))) false) (decide (a.2.1<=16777216)) false)
def Za a:=(mV2 a).1
def DY a:=(mV2 a).2
theorem pI2:SK 222 (AU Aq vB Za DY):=fb Tryz.func222 21
abbrev uA3:Type:=(A9×Unit)
def U9 (y:uA3)(x:AD):Vm AD:=
 let e:=y.1
 let a:=x.1
 let h:Bool:=a<3
 let b:Bool:=a<B6 e.1
 let f:=nth e.2.1 a A1
 let c:=cond b (!(DY f)) false
 let g:Bool:=a≥B6 e.1
 let d:=cond c true (cond g (!(Ty.eqb AQ (nth e.2.1 a A1) (0,0,()))) false)
 (h->QV e.1/\(b->A7 a 3)/\(b->Za f)/\(!c->QV e.1)/\(((!c)&&g)->A7 a 3)/\(!d->A6 (a+1)),h&&(!d),(a+1,()),h&&d,!h)
def rZ2 y x:=(U9 y x).1
def O0 y x:=(U9 y x).2.1
def QW y x:=(U9 y x).2.2.1
def sJ9 y x:=(U9 y x).2.2.2.1
def oF7 y x:=(U9 y x).2.2.2.2
def sT1 (y:uA3)(x:AD):Bool:=
 false
def oF8:=li [(1,Bi)] [(3,vI)] O0 QW rZ2 (λy x=>[ex 1 (some (sJ9 y x)) [(2,vB)] ((sT1 y x),()),ex 2 (some (oF7 y x)) [] ()]) [[(2,vB)],[]]
def lR2 (d:A9):Prop×Bool:=
 let a:=(d,())
 let c:=((0:Int),())
 let b:=A3 (O0 a) (QW a) c
 (AB (O0 a) (QW a) (rZ2 a) c,cond (sJ9 a b) (sT1 a b) true)
def pI3 a:=(lR2 a).1
def H5 a:=(lR2 a).2
theorem mV3:SK 253 (AU Dd vB pI3 H5):=fb Tryz.func253 36 [kb YZ,kb pI2] [(2,oF8)]
abbrev O1:Type:=((List A9)×Unit)
def O2 (y:O1)(x:AD):Vm AD:=
 let b:=y.1
 let a:=x.1
 let c:Bool:=a<len b
 let i:=nth b a A5
 let d:Bool:=B6 i.1<0
 let j:=nth b a A5
 let e:=!(H5 j)
 let f:=(nth b a A5).1 !=1
 let g:=a==0
 let k:=a-1
 let l:=cond f (cond g true ((nth b k A5).1==5)) false
 let h:=(!d)&&((!e)&&(!l))
 (c->A7 a (len b)/\QV i.1/\(!d->A7 a (len b)/\pI3 j/\(!e->A7 a (len b)/\((f&&(!g))->A6 (a-1))/\((f&&(!g))->A7 k (len b))))/\(h->A6 (a+1)),c&&h,(a+1,()),c&&(d||((!d)&&(e||((!e)&&l)))),!c)
def rZ3 y x:=(O2 y x).1
def UA y x:=(O2 y x).2.1
def uG3 y x:=(O2 y x).2.2.1
def tL6 y x:=(O2 y x).2.2.2.1
def oF9 y x:=(O2 y x).2.2.2.2
def uG4 (y:O1)(x:AD):Int:=
 let a:=y.1
 let b:=x.1
 (cond (B6 (nth a b A5).1<0) (8:Int) (cond (!(H5 (nth a b A5))) 2 24))
def oG:=li [(0,Ai)] [(3,vI)] UA uG3 rZ3 (λy x=>[ex 1 (some (tL6 y x)) [(2,vI)] ((uG4 y x),()),ex 2 (some (oF9 y x)) [] ()]) [[(2,vI)],[]]
def lR3 (e:List A9):Prop×Int:=
 let c:Bool:=len e>128
 let a:=(e,())
 let d:=((0:Int),())
 let b:=A3 (UA a) (uG3 a) d
 (!c->AB (UA a) (uG3 a) (rZ3 a) d,cond c 3 (cond (tL6 a b) (uG4 a b) 0))
def sK a:=(lR3 a).1
def f219 a:=(lR3 a).2
theorem qI7:SK 219 (AU Ai vI sK f219):=fb Tryz.func219 45 [kb YZ,kb mV3] [(4,oG)]
def mV4 (f:C3)(g:A0):Prop×A0:=
 let a:=K1 f
 let b:=H2 g.1
 let c:=H2 g.2.1
 let d:=wrap .i64 (H3 a.1 a.2.2.1 b c+a.2.2.2.2.1)
 let e:=wrap .i64 (H3 a.2.1 a.2.2.2.1 b c+(Q1 a).1)
 (qI4 f/\QT g.1/\QT g.2.1/\U6 a.1 a.2.2.1 b c/\QT d/\U6 a.2.1 a.2.2.2.1 b c/\QT e,(H2 d,H2 e,()))
def pI4 a b:=(mV4 a b).1
def M9 a b:=(mV4 a b).2
theorem mV5:SK 254 (BF Ba Aq Aq pI4 M9):=fb Tryz.func254 38 [kb oU1,kb oU7,kb oU0] [] [] true
def mV6 (b:C3)(c:A0):Prop×A0:=
 let s:=(wrap .i64 (4096*c.1),wrap .i64 (4096*c.2.1),())
 let a:=M9 b s
 (pI4 b s/\wH a.1 4096/\wH a.2.1 4096,(AZ a.1 4096,AZ a.2.1 4096,()))
def rJ a b:=(mV6 a b).1
def DR a b:=(mV6 a b).2
theorem oV5:SK 221 (BF Ba Aq Aq rJ DR):=fb Tryz.func221 22 [kb ID,kb mV5] [] [] true
abbrev wV0:Type:=((List A9)×C3×(List A9)×Int×Unit)
abbrev QX:Type:=(A9×Int×Unit)
def Zb (y:wV0)(x:QX):Vm QX:=
 let g:=y.2.1
 let b:=x.1
 let a:=x.2.1
 let c:Bool:=a<B6 b.1
 let e:=nth b.2.1 a A1
 let s:=set b.2.1 (toNat a) (DR g e)
 let f:=nth s a A1
 let d:=!(DY f)
 (QV b.1/\(c->A7 a 3/\rJ g e/\A7 a 3/\A7 a 3/\Za f/\(!d->A6 (a+1))),c&&(!d),((b.1,s,()),a+1,()),c&&d,!c)
def uQ5 y x:=(Zb y x).1
def G4 y x:=(Zb y x).2.1
def wF y x:=(Zb y x).2.2.1
def uQ6 y x:=(Zb y x).2.2.2.1
def uQ7 y x:=(Zb y x).2.2.2.2
def sA6 (y:wV0)(x:QX):(List A9):=
 []
def sA7 (y:wV0)(x:QX):Int:=
 2
def rJ0:List (Nat×Sh):=[(4,Bk),(5,vI)]
def sA8 (y:wV0)(x:QX):A9:=
 x.1
def rJ1:List (Nat×Sh):=[(0,Ai),(3,Bp),(8,Cg),(9,vI),(10,Bi)]
def pI5:=li [(0,Ai),(3,Bp),(8,Cg),(9,vI)] [(10,Bi),(11,vI)] G4 wF uQ5 (λy x=>[ex 1 (some (uQ6 y x)) rJ0 ((sA6 y x),(sA7 y x),()),ex 4 (some (uQ7 y x)) rJ1 (y.1,y.2.1,y.2.2.1,y.2.2.2.1,(sA8 y x),())]) [rJ0,rJ1]
abbrev Zc:Type:=((List A9)×C3×Unit)
def Zd (y:Zc)(x:Ek):Vm Ek:=
 let h:=y.1
 let i:=x.1
 let e:=x.2.1
 let c:Bool:=e<len h
 let a:=(h,y.2.1,i,e,())
 let g:=(nth h e A5,(0:Int),())
 let d:=A3 (G4 a) (wF a) g
 let b:=uQ7 a d
 let f:=([sA8 a d]:List A9)
 (c->A7 e (len h)/\AB (G4 a) (wF a) (uQ5 a) g/\(b->((length i+length f:Nat):Int)<=4294967296)/\(b->A6 (e+1)),c&&b,(i++f,e+1,()),c&&uQ6 a d,!c)
def tL7 y x:=(Zd y x).1
def K7 y x:=(Zd y x).2.1
def J9 y x:=(Zd y x).2.2.1
def sK0 y x:=(Zd y x).2.2.2.1
def oG0 y x:=(Zd y x).2.2.2.2
def tD5 (y:Zc)(x:Ek):(List A9):=
 let b:=y.1
 let c:=x.2.1
 let a:=(b,y.2.1,x.1,c,())
 (sA6 a (A3 (G4 a) (wF a) (nth b c A5,0,())))
def tD6 (y:Zc)(x:Ek):Int:=
 let b:=y.1
 let c:=x.2.1
 let a:=(b,y.2.1,x.1,c,())
 (sA7 a (A3 (G4 a) (wF a) (nth b c A5,0,())))
def rZ4:List (Nat×Sh):=[(4,Bk),(5,vI)]
def tD7 (y:Zc)(x:Ek):(List A9):=
 x.1
def oG1:=li [(0,Ai),(3,Bp)] [(8,Cg),(9,vI)] K7 J9 tL7 (λy x=>[ex 1 (some (sK0 y x)) rZ4 ((tD5 y x),(tD6 y x),()),ex 2 (some (oG0 y x)) [(8,Cg)] ((tD7 y x),())]) [rZ4,[(8,Cg)]]
def Ze (i:List A9)(j:C3):Prop×((List A9)×Int×Unit):=
 let e:=f219 i
 let c:=e !=0
 let f:=DX j
 let d:=f !=0
 let a:=(i,j,())
 let h:=(([]:List A9),(0:Int),())
 let g:=A3 (K7 a) (J9 a) h
 let b:=sK0 a g
 (sK i/\(!c->Oy j/\(!d->AB (K7 a) (J9 a) (tL7 a) h)),(cond c [] (cond d [] (cond b (tD5 a g) (tD7 a g))),cond c e (cond d f (cond b (tD6 a g) 0)),()))
def qI8 a b:=(Ze a b).1
def DZ a b:=(Ze a b).2
theorem mV7:SK 188 (BF Ai Ba (.tup (.cons Bk (.cons vI .nl))) qI8 DZ):=fb Tryz.func188 60 [kb qI5,kb qI7,kb YZ,kb oV5,kb pI2] [(9,oG1),(13,pI5)] [(15,[(4,0,22,1008)]),(37,[(4,0,58,1008)]),(39,[(4,0,1008,0)])]
def lR4 (m n o p:Int):Prop×Int:=
 let a:=8-p
 let b:=8-p
 let c:=a*b
 let d:=c*m
 let e:=2*p
 let f:=8-p
 let g:=e*f
 let h:=g*n
 let i:=d+h
 let j:=p*p
 let k:=j*o
 let l:=i+k
 (A6 (8-p)/\A6 (8-p)/\A6 (a*b)/\A6 (c*m)/\A6 (2*p)/\A6 (8-p)/\A6 (e*f)/\A6 (g*n)/\A6 (d+h)/\A6 (p*p)/\A6 (j*o)/\A6 (i+k)/\wH l 64,AZ l 64)
def UB a b c d:=(lR4 a b c d).1
def G6 a b c d:=(lR4 a b c d).2
theorem mV8:SK 256 (FA vI vI vI vI vI UB G6):=fb Tryz.func256 31 [kb ID]
def lR5 (p t u v w:Int):Prop×Int:=
 let a:=16-w
 let b:=a*a
 let c:=b*a
 let d:=c*p
 let e:=3*w
 let f:=e*a
 let g:=f*a
 let h:=g*t
 let i:=d+h
 let j:=3*w
 let k:=j*w
 let l:=k*a
 let m:=l*u
 let n:=i+m
 let o:=w*w
 let q:=o*w
 let r:=q*v
 let s:=n+r
 (A6 (16-w)/\A6 (a*a)/\A6 (b*a)/\A6 (c*p)/\A6 (3*w)/\A6 (e*a)/\A6 (f*a)/\A6 (g*t)/\A6 (d+h)/\A6 (3*w)/\A6 (j*w)/\A6 (k*a)/\A6 (l*u)/\A6 (i+m)/\A6 (w*w)/\A6 (o*w)/\A6 (q*v)/\A6 (n+r)/\wH s 4096,AZ s 4096)
def UC a b c d e:=(lR5 a b c d e).1
def G7 a b c d e:=(lR5 a b c d e).2
theorem mV9:SK 257 (sp5 vI vI vI vI vI vI UC G7):=fb Tryz.func257 48 [kb ID]
def pP7 (f:List A0)(g:A0):Prop×(List A0):=
 let e:Bool:=len f>0
 let b:=len f
 let a:=b-1
 let c:=cond e (Ty.eqb AQ (nth f a A1) g) false
 let d:=([g]:List A0)
 ((e->A6 (b-1))/\(e->A7 a (len f))/\(e->a<len f)/\(!c->((length f+length d:Nat):Int)<=4294967296),cond c f (f++d))
def Zf a b:=(pP7 a b).1
def MA a b:=(pP7 a b).2
theorem oG2:SK 255 (BF Bj Aq Du Zf MA):=fb Tryz.func255 23 [] [] [(5,[(4,0,400000,0)]),(7,[(4,0,22,0)])] false [] [22]
abbrev vN7:Type:=(A0×A9×Unit)
def tS2 (y:vN7)(x:CZ):Vn CZ:=
 let g:=y.1
 let h:=y.2.1
 let i:=x.1
 let a:=x.2.1
 let b:Bool:=a<=8
 let c:=(nth h.2.1 0 A1).1
 let d:=(nth h.2.1 1 A1).1
 let e:=(nth h.2.1 0 A1).2.1
 let f:=(nth h.2.1 1 A1).2.1
 let s:=(G6 g.1 c d a,G6 g.2.1 e f a,())
 (b->A7 0 3/\A7 1 3/\UB g.1 c d a/\A7 0 3/\A7 1 3/\UB g.2.1 e f a/\Zf i s/\A6 (a+1),b,(MA i s,a+1,()))
def sB y x:=(tS2 y x).1
def Zg y x:=(tS2 y x).2.1
def Zh y x:=(tS2 y x).2.2
def tD8 (y:vN7)(x:CZ):(List A0):=
 x.1
def qI9:=li [(4,Bz),(5,Bi)] [(0,Bj),(7,vI)] Zg Zh sB (λy x=>[ex 3 none [(0,Bj)] ((tD8 y x),())]) [[(0,Bj)]]
def tD9 (y:vN7)(x:CZ):Vn CZ:=
 let j:=y.1
 let b:=y.2.1
 let k:=x.1
 let a:=x.2.1
 let c:Bool:=a<=16
 let d:=(nth b.2.1 0 A1).1
 let e:=(nth b.2.1 1 A1).1
 let f:=(nth b.2.1 2 A1).1
 let g:=(nth b.2.1 0 A1).2.1
 let h:=(nth b.2.1 1 A1).2.1
 let i:=(nth b.2.1 2 A1).2.1
 let s:=(G7 j.1 d e f a,G7 j.2.1 g h i a,())
 (c->A7 0 3/\A7 1 3/\A7 2 3/\UC j.1 d e f a/\A7 0 3/\A7 1 3/\A7 2 3/\UC j.2.1 g h i a/\Zf k s/\A6 (a+1),c,(MA k s,a+1,()))
def tP5 y x:=(tD9 y x).1
def Zi y x:=(tD9 y x).2.1
def Zj y x:=(tD9 y x).2.2
def uW5 (y:vN7)(x:CZ):(List A0):=
 x.1
def rT3:=li [(4,Bz),(5,Bi)] [(0,Bj),(8,vI)] Zi Zj tP5 (λy x=>[ex 5 none [(0,Bj)] ((uW5 y x),())]) [[(0,Bj)]]
def pP8 (k:List A0)(l:A0)(m:A9):Prop×(List A0):=
 let f:=m.1==1
 let b:=cond f f (m.1==2)
 let g:=nth m.2.1 0 A1
 let c:=m.1==3
 let d:=(l,m,())
 let j:=(k,(1:Int),())
 let h:=m.1==4
 let a:=(l,m,())
 let i:=(k,(1:Int),())
 let e:=cond b (MA k g) (cond c (tD8 d (A3 (Zg d) (Zh d) j)) (cond h (uW5 a (A3 (Zi a) (Zj a) i)) k))
 ((b->A7 0 3/\Zf k g)/\(b=false->(c->AB (Zg d) (Zh d) (sB d) j)/\(c=false->h->AB (Zi a) (Zj a) (tP5 a) i)),e)
def UD a b c:=(pP8 a b c).1
def UE a b c:=(pP8 a b c).2
theorem oG3:SK 223 (DU Bj Aq Dd Du UD UE):=fx (λc=>{ c with wants:=[(255,[0])] }) Tryz.func223 94 [kb oG2,kb mV8,kb mV9] [(7,qI9),(12,rT3)] [(9,[(4,0,18,400000)]),(19,[(4,0,51,400000)]),(29,[(4,0,92,400000)]),(31,[(4,0,400000,0)])]
abbrev uA5:Type:=(((List (List A0))×Nat)×A0×Int×Unit)
def qJ (y:O1)(x:uA5):Vn uA5:=
 let d:=y.1
 let i:=x.1
 let s:=x.2.1
 let c:=x.2.2.1
 let j:Bool:=c<len d
 let f:=(nth d c A5).1==1
 let e:=cond f (i.1++[[]]) i.1
 let b:=cond f (length i.1) i.2
 let k:=len e
 let a:=k-1
 let l:=len e
 let g:=l-1
 let m:=List.getD e b []
 let n:=nth d c A5
 let o:=nth d c A5
 let h:=B6 o.1
 let q:Bool:=h>0
 let r:=h-1
 (j->A7 c (len d)/\(f->((length i.1+1:Nat):Int)<=4294967296)/\A6 (k-1)/\A6 (l-1)/\A7 g (len e)/\(toNat g=b/\g<len e)/\A7 c (len d)/\UD m s n/\A7 a (len e)/\(toNat a=b/\a<len e)/\(toNat a=b/\a<len e)/\A7 c (len d)/\QV o.1/\(q->A6 (h-1)/\A7 c (len d)/\A7 r 3)/\A6 (c+1),j,((set e (toNat a) (UE m s n),toNat a),cond q (nth (nth d c A5).2.1 r A1) s,c+1,()))
def rZ5 y x:=(qJ y x).1
def Zk y x:=(qJ y x).2.1
def Zl y x:=(qJ y x).2.2
def tE1 (y:O1)(x:uA5):((List (List A0))×Nat):=
 let a:=x.1
 (a.1,a.2)
def rZ6:List (Nat×Sh):=[(5,(.ownh AQ 1005 9000005 true))]
def oG4:=li [(0,Ai)] [(5,(.ownh AQ 1005 9000005 true)),(6,Bz),(7,vI)] Zk Zl rZ5 (λy x=>[ex 2 none rZ6 ((tE1 y x),())]) [rZ6]
def lR6 (e:List A9):Prop×((List (List A0))×Int×Unit):=
 let c:=f219 e
 let a:=c !=0
 let b:=(e,())
 let d:=((([]:List (List A0)),length ([]:List (List A0))),((0:Int),(0:Int),()),(0:Int),())
 (sK e/\(!a->AB (Zk b) (Zl b) (rZ5 b) d),(cond a [] (tE1 b (A3 (Zk b) (Zl b) d)).1,cond a c 0,()))
def Zm a:=(lR6 a).1
def DB a:=(lR6 a).2
theorem oV7:SK 189 (AU Ai (.tup (.cons Aj (.cons vI .nl))) Zm DB):=fx (λc=>{ c with wants:=[(223,[0])] }) Tryz.func189 65 [kb qI7,kb YZ,kb oG3] [(7,oG4)] [(9,[(4,0,14,1005)]),(20,[(1,5,0,0)]),(21,[(4,0,30,1005),(4,0,100029,9000005)]),(23,[(4,0,46,9000005)]),(31,[(1,2,0,0),(1,2,0,0),(4,0,1005,0)])] false [] [5,14,29,30]
end Go.Proofs.YtlpphnncneppoaaGreatDoor.Am
