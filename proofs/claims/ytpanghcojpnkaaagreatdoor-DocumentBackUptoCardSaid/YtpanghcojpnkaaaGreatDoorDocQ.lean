/- Equality of nodes: the program's and the document's, each just where two nodes are the same. Condition: the value a Go value can be. -/
import Derived.Test.YtpanghcojpnkaaaGreatDoorDocV
import Derived.Test.YtpanghcojpnkaaaGreatDoorMach4
set_option linter.unusedVariables false
set_option synthInstance.maxSize 4000
set_option synthInstance.maxHeartbeats 400000
namespace Go.Proofs.YtpanghcojpnkaaaGreatDoor.Am
open Go Go.Am
def hA2 (n:Int)(c:Int→Bool):Bool:=(List.range n.toNat).any fun i=>c (i:Int)
theorem hA1 {g:Int×Unit→Bool}{next:Int×Unit→Int×Unit}{n:Int}{c:Int→Bool}(hn0:0≤n)(hn:n<9223372036854775808)(hg:∀ x,g x=(decide (x.1<n)&&!(c x.1)))(hx:∀ x,next x=(x.1+1,())) :
  (decide ((zC3 g next (0,())).1<n)&&c (zC3 g next (0,())).1)=hA2 n c:=by
 obtain⟨j,h1,h2,h3,h4,h5⟩:=xY2 hn0 hn hg hx
 rw[h3]
 rw[Bool.eq_iff_iff]
 simp only[jB,decide_eq_true_eq,hA2,List.any_eq_true,List.mem_range]
 constructor
 ·rintro⟨h,h'⟩;exact⟨j.toNat,by omega,by rw[Int.toNat_of_nonneg h1];exact h'⟩
 ·rintro⟨i,hi,hc⟩
  by_cases hj:j<n
  ·exact⟨hj,h5 hj⟩
  ·have:=h4 (i:Int) (by omega) (by omega)
   rw[this] at hc;cases hc
def hJ7 y x:=(tM1 y x).2.2.2.2
def hD7:St→Option Out:=xP4 [(0,(.val (.sl (.int .i64)))),(1,(.val (.sl (.int .i64)))),(12,vI)] [(13,vI)] rJ6 tM3 tM2 fun y x=>[ex 1 (some (qI y x)) [(4,vB)] ((sY0 y x),()),ex 2 (some (hJ7 y x)) [] ()]
def hD6:Am.Spec:=fnSpec [(0,(.val (.sl (.int .i64)))),(1,(.val (.sl (.int .i64))))] vB [] (fun x=>rJ7 x.1 x.2.1) (fun x=>f44 x.1 x.2.1) (fun _=>())
def hJ8:Ctx:=Cx tys [] [(4,hD7)] [] false 26 [] []
theorem hJ9:CtxOk Tryz.prog hJ8:=cq trivial
noncomputable def hN8:Code:=Tryz.f44.body.getD .skip
noncomputable def hP5:Code:=xX1 hN8 0
theorem hK0:yU8 Tryz.prog hJ8 hP5:=lq hJ9 (sp:=hD7) rfl [[(4,vB)],[]]
theorem hK2:SpecOk Tryz.prog 44 hD6:=fl hJ9 Tryz.func44 (bs:=[hP5]) ⟨hK0,trivial⟩
def hK3 y x:=(tM4 y x).2.2.2.2
def hD8:St→Option Out:=xP4 [(0,(.val (.sl T42))),(1,(.val (.sl T42))),(12,vI)] [(13,vI)] rJ8 tM6 tM5 fun y x=>[ex 1 (some (qI0 y x)) [(4,vB)] ((sY1 y x),()),ex 2 (some (hK3 y x)) [] ()]
def hH9:Am.Spec:=fnSpec [(0,(.val (.sl T42))),(1,(.val (.sl T42)))] vB [] (fun x=>qI1 x.1 x.2.1) (fun x=>f96 x.1 x.2.1) (fun _=>())
def hK4:Ctx:=Cx tys [] [(4,hD8)] [] false 26 [] []
theorem hK5:CtxOk Tryz.prog hK4:=cq trivial
noncomputable def hN9:Code:=Tryz.f96.body.getD .skip
noncomputable def hP6:Code:=xX1 hN9 0
theorem hK6:yU8 Tryz.prog hK4 hP6:=lq hK5 (sp:=hD8) rfl [[(4,vB)],[]]
theorem hS4:SpecOk Tryz.prog 96 hH9:=fl hK5 Tryz.func96 (bs:=[hP6]) ⟨hK6,trivial⟩
def hF5:Am.Spec:=fnSpec [(0,(.val T40)),(1,(.val T40))] vB [] (fun x=>qI2 x.1 x.2.1) (fun x=>f72 x.1 x.2.1) (fun _=>())
def hQ3:Ctx:=Cx tys [(96,hH9)] [] [] false 24 [] []
theorem hP7:SpecOk Tryz.prog 72 hF5:=fq (c:=hQ3) Tryz.func72 ⟨hS4,trivial⟩
def hK7 y x:=(tM7 y x).2.2.2.2
def hD9:St→Option Out:=xP4 [(0,(.val (.sl T122))),(1,(.val (.sl T122))),(12,vI)] [(13,vI)] rJ9 tM9 tM8 fun y x=>[ex 1 (some (qI3 y x)) [(4,vB)] ((sY2 y x),()),ex 2 (some (hK7 y x)) [] ()]
def hI0:Am.Spec:=fnSpec [(0,(.val (.sl T122))),(1,(.val (.sl T122)))] vB [] (fun x=>qI4 x.1 x.2.1) (fun x=>f93 x.1 x.2.1) (fun _=>())
def hK8:Ctx:=Cx tys [] [(4,hD9)] [] false 26 [] []
theorem hK9:CtxOk Tryz.prog hK8:=cq trivial
noncomputable def hO0:Code:=Tryz.f93.body.getD .skip
noncomputable def hP8:Code:=xX1 hO0 0
theorem hL0:yU8 Tryz.prog hK8 hP8:=lq hK9 (sp:=hD9) rfl [[(4,vB)],[]]
theorem hS5:SpecOk Tryz.prog 93 hI0:=fl hK9 Tryz.func93 (bs:=[hP8]) ⟨hL0,trivial⟩
def hL3 y x:=(tN y x).2.2.2.2
def hE0:St→Option Out:=xP4 [(0,(.val (.sl T128))),(1,(.val (.sl T128))),(12,vI)] [(13,vI)] rK tN1 tN0 fun y x=>[ex 1 (some (qI5 y x)) [(4,vB)] ((sY3 y x),()),ex 2 (some (hL3 y x)) [] ()]
def hI1:Am.Spec:=fnSpec [(0,(.val (.sl T128))),(1,(.val (.sl T128)))] vB [] (fun x=>qI6 x.1 x.2.1) (fun x=>f94 x.1 x.2.1) (fun _=>())
def hL4:Ctx:=Cx tys [] [(4,hE0)] [] false 26 [] []
theorem hL5:CtxOk Tryz.prog hL4:=cq trivial
noncomputable def hO1:Code:=Tryz.f94.body.getD .skip
noncomputable def hP9:Code:=xX1 hO1 0
theorem hL6:yU8 Tryz.prog hL4 hP9:=lq hL5 (sp:=hE0) rfl [[(4,vB)],[]]
theorem hS6:SpecOk Tryz.prog 94 hI1:=fl hL5 Tryz.func94 (bs:=[hP9]) ⟨hL6,trivial⟩
def hL7 y x:=(tN2 y x).2.2.2.2
def hE1:St→Option Out:=xP4 [(0,(.val (.sl T125))),(1,(.val (.sl T125))),(12,vI)] [(13,vI)] rK0 tN4 tN3 fun y x=>[ex 1 (some (qI7 y x)) [(4,vB)] ((sY4 y x),()),ex 2 (some (hL7 y x)) [] ()]
def hI2:Am.Spec:=fnSpec [(0,(.val (.sl T125))),(1,(.val (.sl T125)))] vB [] (fun x=>qI8 x.1 x.2.1) (fun x=>f95 x.1 x.2.1) (fun _=>())
def hL8:Ctx:=Cx tys [] [(4,hE1)] [] false 26 [] []
theorem hL9:CtxOk Tryz.prog hL8:=cq trivial
noncomputable def hO2:Code:=Tryz.f95.body.getD .skip
noncomputable def hQ0:Code:=xX1 hO2 0
theorem hM1:yU8 Tryz.prog hL8 hQ0:=lq hL9 (sp:=hE1) rfl [[(4,vB)],[]]
theorem hS7:SpecOk Tryz.prog 95 hI2:=fl hL9 Tryz.func95 (bs:=[hQ0]) ⟨hM1,trivial⟩
def hI3:Am.Spec:=fnSpec [(0,(.val T49)),(1,(.val T49))] vB [] (fun x=>qI9 x.1 x.2.1) (fun x=>f71 x.1 x.2.1) (fun _=>())
def hQ4:Ctx:=Cx tys [(44,hD6),(72,hF5),(93,hI0),(94,hI1),(95,hI2)] [] [] false 136 [] []
theorem hS8:SpecOk Tryz.prog 71 hI3:=fq (c:=hQ4) Tryz.func71 ⟨hK2,hP7,hS5,hS6,hS7,trivial⟩
def f43 p0 p1:=(f43t p0 p1).2
def hI4:Am.Spec:=fnSpec [(0,(.val T49)),(1,(.val T49))] vB [] (fun x=>pI1 x.1 x.2.1) (fun x=>f43 x.1 x.2.1) (fun _=>())
def hQ5:Ctx:=Cx tys [(44,hD6),(71,hI3)] [] [] false 105 [] []
theorem hS9:SpecOk Tryz.prog 43 hI4:=fq (c:=hQ5) Tryz.func43 ⟨hK2,hS8,trivial⟩
abbrev hB5:Type:=((List D87)×(List D87)×Int×Unit)
abbrev hA9:Type:=(Int×Unit)
def hD0 (y:hB5)(x:hA9):Prop×Bool×hA9×Bool×Bool:=
 let a0:=y.1
 let a1:=y.2.1
 let a13:=x.1
 let v14:=(decide (a13<y.2.2.1))
 let v24:=(!(Ty.eqb T87 (nth a0 a13 Z87) (nth a1 a13 Z87)))
 ((v14=true→(InB a13 (len a0)∧(InB a13 (len a1)∧((!v24)=true→InR (a13+1))))),(v14&&(!v24)),((a13+1),()),(v14&&v24),(!v14))
def hC7 y x:=(hD0 y x).1
def hC8 y x:=(hD0 y x).2.1
def hB2 y x:=(hD0 y x).2.2.1
def hF7 y x:=(hD0 y x).2.2.2.1
def hM3 y x:=(hD0 y x).2.2.2.2
def hE3 (y:hB5)(x:hA9):Bool:=
 false
def hE4:St→Option Out:=xP4 [(0,(.val (.sl T87))),(1,(.val (.sl T87))),(12,vI)] [(13,vI)] hC8 hB2 hC7 fun y x=>[ex 1 (some (hF7 y x)) [(4,vB)] ((hE3 y x),()),ex 2 (some (hM3 y x)) [] ()]
def f45t (p0:List D87)(p1:List D87):Prop×Bool:=
 let v10:=((len p0)!=(len p1))
 let y4:=(p0,p1,(len p0),())
 let x4:=((0:Int),())
 let e4:=(zC3 (hC8 y4) (hB2 y4) x4)
 (((!v10)=true→(Am.Ends (hC8 y4) (hB2 y4) (hC7 y4) x4)),(bif v10 then false else (bif (hF7 y4 e4) then (hE3 y4 e4) else true)))
def hF8 p0 p1:=(f45t p0 p1).1
def f45 p0 p1:=(f45t p0 p1).2
def hI5:Am.Spec:=fnSpec [(0,(.val (.sl T87))),(1,(.val (.sl T87)))] vB [] (fun x=>hF8 x.1 x.2.1) (fun x=>f45 x.1 x.2.1) (fun _=>())
def hM4:Ctx:=Cx tys [] [(4,hE4)] [] false 26 [] []
theorem hM5:CtxOk Tryz.prog hM4:=cq trivial
noncomputable def hO3:Code:=Tryz.f45.body.getD .skip
noncomputable def hQ1:Code:=xX1 hO3 0
theorem hM6:yU8 Tryz.prog hM4 hQ1:=lq hM5 (sp:=hE4) rfl [[(4,vB)],[]]
theorem hT4:SpecOk Tryz.prog 45 hI5:=fl hM5 Tryz.func45 (bs:=[hQ1]) ⟨hM6,trivial⟩
def f47t (p0:D90)(p1:D90):Prop×Bool:=
 let v30:=(bif (bif (bif (p0.1 !=p1.1) then true else (!(p0.2.1==p1.2.1))) then true else (p0.2.2.1 !=p1.2.2.1)) then true else (p0.2.2.2.1 !=p1.2.2.2.1))
 (((!v30)=true→(qI2 p0.2.2.2.2.1 p1.2.2.2.2.1)),(bif v30 then false else (f72 p0.2.2.2.2.1 p1.2.2.2.2.1)))
def hF9 p0 p1:=(f47t p0 p1).1
def f47 p0 p1:=(f47t p0 p1).2
def hI6:Am.Spec:=fnSpec [(0,(.val T90)),(1,(.val T90))] vB [] (fun x=>hF9 x.1 x.2.1) (fun x=>f47 x.1 x.2.1) (fun _=>())
def hQ6:Ctx:=Cx tys [(72,hF5)] [] [] false 36 [] []
theorem hT5:SpecOk Tryz.prog 47 hI6:=fq (c:=hQ6) Tryz.func47 ⟨hP7,trivial⟩
abbrev hA5:Type:=((List D49)×(Unit)×(List D49)×Int×Unit)
abbrev hA3:Type:=(Int×Unit)
def hB0 (y:hA5)(x:hA3):Prop×Bool×hA3×Bool×Bool:=
 let a1:=y.1
 let a15:=y.2.2.1
 let a17:=x.1
 let v18:=(decide (a17<y.2.2.2.1))
 let v20:=(nth a15 a17 Z49)
 let v24:=(nth a1 a17 Z49)
 let v30:=(!(f43 v20 v24))
 ((v18=true→(InB a17 (len a15)∧(InB a17 (len a1)∧((pI1 v20 v24)∧((!v30)=true→InR (a17+1)))))),(v18&&(!v30)),((a17+1),()),(v18&&v30),(!v18))
def hB6 y x:=(hB0 y x).1
def hB3 y x:=(hB0 y x).2.1
def hA7 y x:=(hB0 y x).2.2.1
def hD3 y x:=(hB0 y x).2.2.2.1
def hG0 y x:=(hB0 y x).2.2.2.2
def hC3 (y:hA5)(x:hA3):Bool:=
 false
def hC4:St→Option Out:=xP4 [(1,(.val (.sl T49))),(2,(.fn 43 .nl)),(15,(.val (.sl T49))),(16,vI)] [(17,vI)] hB3 hA7 hB6 fun y x=>[ex 1 (some (hD3 y x)) [(6,vB)] ((hC3 y x),()),ex 2 (some (hG0 y x)) [] ()]
def hH0 (p0:List D49)(p1:List D49)(p2:(Unit)):Prop×Bool:=
 let v14:=((len p0)!=(len p1))
 let y4:=(p1,(),p0,(len p0),())
 let x4:=((0:Int),())
 let e4:=(zC3 (hB3 y4) (hA7 y4) x4)
 (((!v14)=true→(Am.Ends (hB3 y4) (hA7 y4) (hB6 y4) x4)),(bif v14 then false else (bif (hD3 y4 e4) then (hC3 y4 e4) else true)))
def hC0 p0 p1 p2:=(hH0 p0 p1 p2).1
def hI7 p0 p1 p2:=(hH0 p0 p1 p2).2
def hE5:Am.Spec:=fnSpec [(0,(.val (.sl T49))),(1,(.val (.sl T49))),(2,(.fn 43 .nl))] vB [] (fun x=>hC0 x.1 x.2.1 x.2.2.1) (fun x=>hI7 x.1 x.2.1 x.2.2.1) (fun _=>())
def hE7:Ctx:=Cx tys [(43,hI4)] [(4,hC4)] [] false 32 [] []
theorem hE8:CtxOk Tryz.prog hE7:=cq ⟨hS9,trivial⟩
noncomputable def hH1:Code:=Tryz.f42.body.getD .skip
noncomputable def hG4:Code:=xX1 hH1 0
theorem hG5:yU8 Tryz.prog hE7 hG4:=lq hE8 (sp:=hC4) rfl [[(6,vB)],[]]
theorem hM7:SpecOk Tryz.prog 42 hE5:=fl hE8 Tryz.func42 (bs:=[hG4]) ⟨hG5,trivial⟩
abbrev hA6:Type:=((List D90)×(Unit)×(List D90)×Int×Unit)
abbrev hA4:Type:=(Int×Unit)
def hB1 (y:hA6)(x:hA4):Prop×Bool×hA4×Bool×Bool:=
 let a1:=y.1
 let a15:=y.2.2.1
 let a17:=x.1
 let v18:=(decide (a17<y.2.2.2.1))
 let v20:=(nth a15 a17 Z90)
 let v24:=(nth a1 a17 Z90)
 let v30:=(!(f47 v20 v24))
 ((v18=true→(InB a17 (len a15)∧(InB a17 (len a1)∧((hF9 v20 v24)∧((!v30)=true→InR (a17+1)))))),(v18&&(!v30)),((a17+1),()),(v18&&v30),(!v18))
def hB7 y x:=(hB1 y x).1
def hB4 y x:=(hB1 y x).2.1
def hA8 y x:=(hB1 y x).2.2.1
def hD4 y x:=(hB1 y x).2.2.2.1
def hG6 y x:=(hB1 y x).2.2.2.2
def hC5 (y:hA6)(x:hA4):Bool:=
 false
def hC6:St→Option Out:=xP4 [(1,(.val (.sl T90))),(2,(.fn 47 .nl)),(15,(.val (.sl T90))),(16,vI)] [(17,vI)] hB4 hA8 hB7 fun y x=>[ex 1 (some (hD4 y x)) [(6,vB)] ((hC5 y x),()),ex 2 (some (hG6 y x)) [] ()]
def hH2 (p0:List D90)(p1:List D90)(p2:(Unit)):Prop×Bool:=
 let v14:=((len p0)!=(len p1))
 let y4:=(p1,(),p0,(len p0),())
 let x4:=((0:Int),())
 let e4:=(zC3 (hB4 y4) (hA8 y4) x4)
 (((!v14)=true→(Am.Ends (hB4 y4) (hA8 y4) (hB7 y4) x4)),(bif v14 then false else (bif (hD4 y4 e4) then (hC5 y4 e4) else true)))
def hC1 p0 p1 p2:=(hH2 p0 p1 p2).1
def hI8 p0 p1 p2:=(hH2 p0 p1 p2).2
def hE6:Am.Spec:=fnSpec [(0,(.val (.sl T90))),(1,(.val (.sl T90))),(2,(.fn 47 .nl))] vB [] (fun x=>hC1 x.1 x.2.1 x.2.2.1) (fun x=>hI8 x.1 x.2.1 x.2.2.1) (fun _=>())
def hE9:Ctx:=Cx tys [(47,hI6)] [(4,hC6)] [] false 32 [] []
theorem hF0:CtxOk Tryz.prog hE9:=cq ⟨hT5,trivial⟩
noncomputable def hH3:Code:=Tryz.f46.body.getD .skip
noncomputable def hG7:Code:=xX1 hH3 0
theorem hG8:yU8 Tryz.prog hE9 hG7:=lq hF0 (sp:=hC6) rfl [[(6,vB)],[]]
theorem hM8:SpecOk Tryz.prog 46 hE6:=fl hF0 Tryz.func46 (bs:=[hG7]) ⟨hG8,trivial⟩
def f18t (p0:D28)(p1:D28):Prop×Bool:=
 let v30:=(bif (bif (bif (p0.1 !=p1.1) then true else (p0.2.1 !=p1.2.1)) then true else (p0.2.2.1 !=p1.2.2.1)) then true else (p0.2.2.2.2.1 !=p1.2.2.2.2.1))
 let v36:=(!(hI7 p0.2.2.2.1 p1.2.2.2.1 ()))
 let v52:=(bif (p0.2.2.2.2.2.1.1 !=p1.2.2.2.2.2.1.1) then true else (p0.2.2.2.2.2.1.2.1 !=p1.2.2.2.2.2.1.2.1))
 let v62:=(bif v52 then true else (!(f44 p0.2.2.2.2.2.1.2.2.1 p1.2.2.2.2.2.1.2.2.1)))
 let v67:=(f45 p0.2.2.2.2.2.2.1 p1.2.2.2.2.2.2.1)
 (((!v30)=true→((hC0 p0.2.2.2.1 p1.2.2.2.1 ())∧((!v36)=true→(((!v52)=true→(rJ7 p0.2.2.2.2.2.1.2.2.1 p1.2.2.2.2.2.1.2.2.1))∧((!v62)=true→((hF8 p0.2.2.2.2.2.2.1 p1.2.2.2.2.2.2.1)∧(v67=true→(hC1 p0.2.2.2.2.2.2.2.1 p1.2.2.2.2.2.2.2.1 ())))))))),(bif v30 then false else (bif v36 then false else (bif v62 then false else (bif v67 then (hI8 p0.2.2.2.2.2.2.2.1 p1.2.2.2.2.2.2.2.1 ()) else false)))))
def hF2 p0 p1:=(f18t p0 p1).1
def f18 p0 p1:=(f18t p0 p1).2
def hI9:Am.Spec:=fnSpec [(0,(.val T28)),(1,(.val T28))] vB [] (fun x=>hF2 x.1 x.2.1) (fun x=>f18 x.1 x.2.1) (fun _=>())
def hQ7:Ctx:=Cx tys [(42,hE5),(44,hD6),(45,hI5),(46,hE6)] [] [] false 75 [] []
theorem hT6:SpecOk Tryz.prog 18 hI9:=fq (c:=hQ7) Tryz.func18 ⟨hM7,hK2,hT4,hM8,trivial⟩
def f7t (p0:D28)(p1:D52)(p2:Int):Prop×Bool:=
 let v21:=(f14 p0 p1.1 p1.2.1 p1.2.2.1)
 let v26:=(v21.2.2.1==0)
 let v30:=(f15 v21.1 v21.2.1)
 let s:=(v30.1.1,v30.1.2.1,v30.1.2.2.1,v30.1.2.2.2.1,p0.2.2.2.2.1,v30.1.2.2.2.2.2)
 let v37:=(v30.2.1 !=0)
 let v43:=(bif v37 then true else (!(f18 s p0)))
 let v47:=(f17 p0 p2)
 let v52:=(v47.2.2.1==0)
 let s_1:=(v47.1.1,v47.1.2.1,v47.1.2.2.1,v47.1.2.2.2.1,v47.1.2.2.2.2.1,v47.1.2.2.2.2.2.1,v47.1.2.2.2.2.2.2.1,v47.1.2.2.2.2.2.2.2.1,())
 let v56:=(f15 s_1 v47.2.1)
 let s_2:=(v56.1.1,v56.1.2.1,v56.1.2.2.1,v56.1.2.2.2.1,p0.2.2.2.2.1,v56.1.2.2.2.2.2)
 let v63:=(v56.2.1 !=0)
 let v69:=(bif v63 then true else (!(f18 s_2 p0)))
 (((uJ2 p0 p1.1 p1.2.1 p1.2.2.1)∧((v26=true→((sO8 v21.1 v21.2.1)∧((!v37)=true→(hF2 s p0))))∧((bif v26 then (!v43) else true)=true→((uJ4 p0 p2)∧((v52=true→((sO8 s_1 v47.2.1)∧((!v63)=true→(hF2 s_2 p0))))∧((bif v52 then (!v69) else true)=true→tV3)))))),(bif (v43&&v26) then false else (bif (v69&&v52) then false else f10)))
def f7_ok p0 p1 p2:=(f7t p0 p1 p2).1
def f7 p0 p1 p2:=(f7t p0 p1 p2).2
def hQ8:Am.Spec:=fnSpec [(0,(.val T28)),(1,(.val T52)),(2,vI)] vB [] (fun x=>f7_ok x.1 x.2.1 x.2.2.1) (fun x=>f7 x.1 x.2.1 x.2.2.1) (fun _=>())
def hT7:Ctx:=Cx tys [(10,rJ4),(14,sB2),(15,rJ5),(17,sB5),(18,hI9)] [] [(15,[(4,0,47,401000),(4,0,300047,401003)]),(18,[(1,10,3,0),(1,10,7,0)])] false 71 [] []
theorem f7_is:SpecOk Tryz.prog 7 hQ8:=fq (c:=hT7) Tryz.func7 ⟨oN8,pH6,oN9,pI,hT6,trivial⟩
def f49 p0 p1:=(f49t p0 p1).2
def ne0 (a b:List Int)(i:Int):Bool:=nth a i 0 !=nth b i 0
def neT (τ:Ty)(z:τ.den)(a b:List τ.den)(i:Int):Bool:=!(Ty.eqb τ (nth a i z) (nth b i z))
def eqC (n m:Int)(c:Int→Bool):Bool:=(n==m)&&!(hA2 n c)
theorem hB9 {g:Int×Unit→Bool}{next:Int×Unit→Int×Unit}{n m:Int}{c:Int→Bool}(hn0:0≤n)(hn:n<9223372036854775808)(hg:∀ x,g x=(decide (x.1<n)&&!(c x.1)))(hx:∀ x,next x=(x.1+1,())) :
  (bif (n !=m) then false else (bif (decide ((zC3 g next (0,())).1<n)&&c (zC3 g next (0,())).1) then false else true))=eqC n m c:=by
 rw[hA1 hn0 hn hg hx]
 unfold eqC
 cases h:(n==m)<;>cases hA2 n c<;>simp_all
theorem hD5 {g:Int×Unit→Bool}{next:Int×Unit→Int×Unit}{ok:Int×Unit→Prop}{n m:Int}{c:Int→Bool}(hn0:0≤n)(hn:n<9223372036854775808)(hg:∀ x,g x=(decide (x.1<n)&&!(c x.1)))(hx:∀ x,next x=(x.1+1,()))
  (hok:∀ x:Int×Unit,n=m→0≤x.1→(x.1<n→InB x.1 n∧InB x.1 m∧InR (x.1+1))→ok x):(!(n !=m))=true→Am.Ends g next ok (0,()):=by
 intro h
 have e:n=m:=by simpa using h
 refine xV4 hn0 hn (fun x h=>?_) hx fun x h1 h2=>hok x e h1 fun h3=>⟨⟨h1,h3⟩,⟨h1,by omega⟩,?_⟩
 ·rw[hg] at h;simp only[jB,decide_eq_true_eq] at h;exact h.1
 ·unfold InR;omega
theorem hF3 (a b:List Int)(ha:len a<9223372036854775808):f97 a b=eqC (len a) (len b) (ne0 a b):=
 hB9 (g:=rK1 (a,b,())) (next:=tN7 (a,b,())) (c:=ne0 a b) (xT7 a) ha (fun _=>rfl) (fun _=>rfl)
theorem hM9 (a b:List Int)(ha:len a<9223372036854775808):f44 a b=eqC (len a) (len b) (ne0 a b):=
 hB9 (g:=rJ6 (a,b,len a,())) (next:=tM3 (a,b,len a,())) (c:=ne0 a b) (xT7 a) ha (fun _=>rfl) (fun _=>rfl)
theorem hH4 (a b:List Int)(ha:len a<9223372036854775808):rJ7 a b:=
 hD5 (g:=rJ6 (a,b,len a,())) (next:=tM3 (a,b,len a,())) (c:=ne0 a b) (xT7 a) ha (fun _=>rfl) (fun _=>rfl) fun x _ _ hx h=>by
  have h:=hx (jF h)
  exact⟨h.1,h.2.1,fun _=>h.2.2⟩
theorem hN0 (a b:List D122)(ha:len a<9223372036854775808):f99 a b=eqC (len a) (len b) (neT T122 Z122 a b):=
 hB9 (g:=rK4 (a,b,())) (next:=tO2 (a,b,())) (c:=neT T122 Z122 a b) (xT7 a) ha (fun _=>rfl) (fun _=>rfl)
theorem hT8 (a b:List D122)(ha:len a<9223372036854775808):f93 a b=eqC (len a) (len b) (neT T122 Z122 a b):=
 hB9 (g:=rJ9 (a,b,len a,())) (next:=tM9 (a,b,len a,())) (c:=neT T122 Z122 a b) (xT7 a) ha (fun _=>rfl) (fun _=>rfl)
theorem hQ9 (a b:List D122)(ha:len a<9223372036854775808):qI4 a b:=
 hD5 (g:=rJ9 (a,b,len a,())) (next:=tM9 (a,b,len a,())) (c:=neT T122 Z122 a b) (xT7 a) ha (fun _=>rfl) (fun _=>rfl) fun x _ _ hx h=>by
  have h:=hx (jF h)
  exact⟨h.1,h.2.1,fun _=>h.2.2⟩
theorem hH5 (a b:List D128)(ha:len a<9223372036854775808):f100 a b=eqC (len a) (len b) (neT T128 Z128 a b):=
 hB9 (g:=sO9 (a,b,())) (next:=uV0 (a,b,())) (c:=neT T128 Z128 a b) (xT7 a) ha (fun _=>rfl) (fun _=>rfl)
theorem hT9 (a b:List D128)(ha:len a<9223372036854775808):f94 a b=eqC (len a) (len b) (neT T128 Z128 a b):=
 hB9 (g:=rK (a,b,len a,())) (next:=tN1 (a,b,len a,())) (c:=neT T128 Z128 a b) (xT7 a) ha (fun _=>rfl) (fun _=>rfl)
theorem hR3 (a b:List D128)(ha:len a<9223372036854775808):qI6 a b:=
 hD5 (g:=rK (a,b,len a,())) (next:=tN1 (a,b,len a,())) (c:=neT T128 Z128 a b) (xT7 a) ha (fun _=>rfl) (fun _=>rfl) fun x _ _ hx h=>by
  have h:=hx (jF h)
  exact⟨h.1,h.2.1,fun _=>h.2.2⟩
theorem hQ2 (a b:List D42)(ha:len a<9223372036854775808):f96 a b=eqC (len a) (len b) (neT T42 Z42 a b):=
 hB9 (g:=rJ8 (a,b,len a,())) (next:=tM6 (a,b,len a,())) (c:=neT T42 Z42 a b) (xT7 a) ha (fun _=>rfl) (fun _=>rfl)
theorem hN3 (a b:List D42)(ha:len a<9223372036854775808):qI1 a b:=
 hD5 (g:=rJ8 (a,b,len a,())) (next:=tM6 (a,b,len a,())) (c:=neT T42 Z42 a b) (xT7 a) ha (fun _=>rfl) (fun _=>rfl) fun x _ _ hx h=>by
  have h:=hx (jF h)
  exact⟨h.1,h.2.1,fun _=>h.2.2⟩
theorem hU0 (a b:List D125)(ha:len a<9223372036854775808):f95 a b=eqC (len a) (len b) (neT T125 Z125 a b):=
 hB9 (g:=rK0 (a,b,len a,())) (next:=tN4 (a,b,len a,())) (c:=neT T125 Z125 a b) (xT7 a) ha (fun _=>rfl) (fun _=>rfl)
theorem hR4 (a b:List D125)(ha:len a<9223372036854775808):qI8 a b:=
 hD5 (g:=rK0 (a,b,len a,())) (next:=tN4 (a,b,len a,())) (c:=neT T125 Z125 a b) (xT7 a) ha (fun _=>rfl) (fun _=>rfl) fun x _ _ hx h=>by
  have h:=hx (jF h)
  exact⟨h.1,h.2.1,fun _=>h.2.2⟩
theorem hN4 (p q:D40)(ha:len p.2.2.1<9223372036854775808):f98 p q=((p.1==q.1)&&(p.2.1==q.2.1)&&eqC (len p.2.2.1) (len q.2.2.1) (neT T42 Z42 p.2.2.1 q.2.2.1)):=by
 rw[← hB9 (g:=rK3 (p,q,())) (next:=tO (p,q,())) (c:=neT T42 Z42 p.2.2.1 q.2.2.1) (xT7 _) ha (fun _=>rfl) (fun _=>rfl)]
 show (bif (bif (bif (p.1 !=q.1) then true else (p.2.1 !=q.2.1)) then true else (len p.2.2.1 !=len q.2.2.1)) then false else (bif qJ1 (p,q,()) (zC3 (rK3 (p,q,())) (tO (p,q,())) (0,())) then false else true))=_
 generalize hB:(bif (decide ((zC3 (rK3 (p,q,())) (tO (p,q,())) (0,())).1<len p.2.2.1)&&neT T42 Z42 p.2.2.1 q.2.2.1 (zC3 (rK3 (p,q,())) (tO (p,q,())) (0,())).1) then false else true)=B
 have hB':(bif qJ1 (p,q,()) (zC3 (rK3 (p,q,())) (tO (p,q,())) (0,())) then false else true)=B:=hB
 rw[hB']
 unfold bne
 cases (p.1==q.1)<;>cases (p.2.1==q.2.1)<;>cases (len p.2.2.1==len q.2.2.1)<;>cases B<;>rfl
theorem hH6 (p q:D47)(ha:len p.2.2.2.1<9223372036854775808):f101 p q=((p.1==q.1)&&(p.2.1==q.2.1)&&(p.2.2.1==q.2.2.1)&&eqC (len p.2.2.2.1) (len q.2.2.2.1) (neT T125 Z125 p.2.2.2.1 q.2.2.2.1)):=by
 rw[← hB9 (g:=sP0 (p,q,())) (next:=uV1 (p,q,())) (c:=neT T125 Z125 p.2.2.2.1 q.2.2.2.1) (xT7 _) ha (fun _=>rfl) (fun _=>rfl)]
 show (bif (bif (bif (bif (p.1 !=q.1) then true else (p.2.1 !=q.2.1)) then true else (p.2.2.1 !=q.2.2.1)) then true else (len p.2.2.2.1 !=len q.2.2.2.1)) then false else (bif rS6 (p,q,()) (zC3 (sP0 (p,q,())) (uV1 (p,q,())) (0,())) then false else true))=_
 generalize hB:(bif (decide ((zC3 (sP0 (p,q,())) (uV1 (p,q,())) (0,())).1<len p.2.2.2.1)&&neT T125 Z125 p.2.2.2.1 q.2.2.2.1 (zC3 (sP0 (p,q,())) (uV1 (p,q,())) (0,())).1) then false else true)=B
 have hB':(bif rS6 (p,q,()) (zC3 (sP0 (p,q,())) (uV1 (p,q,())) (0,())) then false else true)=B:=hB
 rw[hB']
 unfold bne
 cases (p.1==q.1)<;>cases (p.2.1==q.2.1)<;>cases (p.2.2.1==q.2.2.1)<;>cases (len p.2.2.2.1==len q.2.2.2.1)<;>cases B<;>rfl
structure Lens (n:D49):Prop where
 mask:len n.2.2.2.2.2.2.2.2.2.1.2.2.1<9223372036854775808
 pix:len n.2.2.2.2.2.2.2.2.2.2.2.2.1.2.2.1<9223372036854775808
 params:len n.2.2.2.2.2.2.2.2.2.2.2.2.2.2.2.1<9223372036854775808
 stops:len n.2.2.2.2.2.2.2.2.2.2.2.2.2.2.2.2.2.1<9223372036854775808
 segs:len n.2.2.2.2.2.2.2.2.2.2.2.2.2.2.2.2.2.2.1<9223372036854775808
 warp:len n.2.2.2.2.2.2.2.2.2.2.2.2.2.2.2.2.2.2.2.2.2.2.2.2.2.2.2.1.2.2.2.1<9223372036854775808
theorem vI5 {α:Type}{l:List α}(h:l.length≤maxLen):len l<9223372036854775808:=by
 unfold len
 have:maxLen=9223372036854775807:=rfl
 omega
theorem hH7 {n:D49}(h:Ty.wf T49 n):Lens n:=by
 obtain⟨_,_,_,_,_,_,_,_,_,⟨_,_,⟨h1,_⟩,_⟩,_,_,⟨_,_,⟨h2,_⟩,_⟩,_,_,⟨h3,_⟩,_,⟨h4,_⟩,⟨h5,_⟩,_,_,_,_,_,_,_,_,⟨_,_,_,⟨h6,_⟩,_⟩,_⟩:=h
 exact⟨vI5 h1,vI5 h2,vI5 h3,vI5 h4,vI5 h5,vI5 h6⟩
theorem hR5 {a b:D49}(ha:Lens a):f43 a b=f49 a b:=by
 simp only[f43,f43t,f49,f49t,f71,f71t,f74,f74t,f73,f73t,f72,f72t]
 simp only[hM9 _ _ ha.mask,hF3 _ _ ha.mask,hN4 _ _ ha.pix,hQ2 _ _ ha.pix,hM9 _ _ ha.params,hF3 _ _ ha.params,hN0 _ _ ha.stops,hT8 _ _ ha.stops,hH5 _ _ ha.segs,hT9 _ _ ha.segs,hH6 _ _ ha.warp,hU0 _ _ ha.warp,bne,Bool.cond_false_right,Bool.cond_true_left,Bool.cond_false_left,Bool.not_or,Bool.not_and,Bool.not_not]
 ac_rfl
theorem hR6 {a b:D49}(ha:Lens a):pI1 a b:=by
 simp only[pI1,f43t,qI9,f71t,qI2,f72t]
 simp only[hH4 _ _ ha.mask,hH4 _ _ ha.params,hN3 _ _ ha.pix,hQ9 _ _ ha.stops,hR3 _ _ ha.segs,hR4 _ _ ha.warp,implies_true,and_self]
theorem hO4 (b:Bool):Ty.eqb .bool b b=true:=by cases b<;>rfl
theorem hN5 {n:Int}{c:Int→Bool}(h:∀ i,c i=false):hA2 n c=false:=by
 unfold hA2
 rw[List.any_eq_false]
 intro x _
 simp[h]
theorem hF6:∀ (τ:Ty),τ.cmp=true→∀ x:τ.den,τ.eqb x x=true:=by
 intro τ
 induction τ with
 |int k=>intro _ x;simp[Ty.eqb]
 |bool=>intro _ x;simp[Ty.eqb]
 |str=>intro _ x;simp[Ty.eqb]
 |nl=>intro _ x;simp[Ty.eqb]
 |cons a b iha ihb=>intro h x;simp only[Ty.cmp,jB] at h;simp[Ty.eqb,iha h.1,ihb h.2]
 |st f ih=>intro h x;simp only[Ty.cmp] at h;simp only[Ty.eqb];exact ih h x
 |arr n t ih=>intro h x;simp only[Ty.cmp] at h;simp only[Ty.eqb];rw[List.all_eq_true];intro i _;exact ih h _
 |sl t _=>intro h;simp[Ty.cmp] at h
 |ptr t _=>intro h;simp[Ty.cmp] at h
theorem hB8 {n:Int}{c:Int→Bool}(h:∀ i,c i=false):eqC n n c=true:=by simp[eqC,hN5 h]
theorem hJ0 (a:List Int)(i:Int):ne0 a a i=false:=by simp[ne0]
theorem hC2 {τ:Ty}{z:τ.den}(h:τ.cmp=true)(a:List τ.den)(i:Int):neT τ z a a i=false:=by simp[neT,hF6 τ h]
theorem hO5 {a:D49}(ha:Lens a):f49 a a=true:=by
 simp only[f49,f49t,f74,f74t,f73,f73t]
 simp only[hF3 _ _ ha.mask,hN4 _ _ ha.pix,hF3 _ _ ha.params,hN0 _ _ ha.stops,hH5 _ _ ha.segs,hH6 _ _ ha.warp,hB8 (hJ0 _),hB8 (hC2 (τ:=T42) (by rfl) _),hB8 (hC2 (τ:=T122) (by rfl) _),hB8 (hC2 (τ:=T128) (by rfl) _),hB8 (hC2 (τ:=T125) (by rfl) _),hO4,hF6 T37 rfl,hF6 T42 rfl,beq_self_eq_true,jE,Bool.and_true]
theorem pB4 {α:Type}{a b:List α}{z:α}(hl:a.length=b.length)(h:∀ i:Nat,i<a.length→a.getD i z=b.getD i z):a=b:=by
 apply List.ext_getElem hl
 intro i h1 h2
 have:=h i h1
 rw[jM,jM,jL h1,jL h2] at this
 exact this
theorem hN6:∀ (τ:Ty),τ.cmp=true→∀ x y:τ.den,τ.wf x→τ.wf y→τ.eqb x y=true→x=y:=by
 intro τ
 induction τ with
 |int k=>intro _ x y _ _ h;exact eq_of_beq h
 |bool=>intro _ x y _ _ h;exact eq_of_beq h
 |str=>intro _ x y _ _ h;exact eq_of_beq (α:=List UInt8) h
 |nl=>intro _ x y _ _ _;rfl
 |cons a b iha ihb =>
  intro hc x y hx hy h
  simp only[Ty.cmp,jB] at hc
  simp only[Ty.eqb,jB] at h
  exact Prod.ext (iha hc.1 _ _ hx.1 hy.1 h.1) (ihb hc.2 _ _ hx.2 hy.2 h.2)
 |st f ih=>intro hc x y hx hy h;exact ih hc x y hx hy h
 |arr n t ih =>
  intro hc x y hx hy h
  have hx1:List.length (α:=t.den) x=n:=hx.1
  have hy1:List.length (α:=t.den) y=n:=hy.1
  refine pB4 (α:=t.den) (z:=t.dflt) (hx1.trans hy1.symm) fun i hi=>?_
  have h1:=List.all_eq_true.1 h i (List.mem_range.2 (by omega))
  refine ih hc _ _ (hx.2 _ ?_) (hy.2 _ ?_) h1
  ·rw[jM,jL hi];exact List.getElem_mem hi
  ·rw[jM,jL (by omega)];exact List.getElem_mem _
 |sl t _=>intro h;simp[Ty.cmp] at h
 |ptr t _=>intro h;simp[Ty.cmp] at h
theorem hN7 {n:Int}{c:Int→Bool}(h:hA2 n c=false){i:Nat}(hi:(i:Int)<n):c i=false:=by
 unfold hA2 at h
 rw[List.any_eq_false] at h
 simpa using h i (List.mem_range.2 (by omega))
theorem hH8 {a b:List Int}(h:eqC (len a) (len b) (ne0 a b)=true):a=b:=by
 simp only[eqC,jB,beq_iff_eq,jK] at h
 have hl:a.length=b.length:=by have:=h.1;unfold len at this;omega
 refine pB4 (z:=0) hl fun i hi=>?_
 have h1:=hN7 h.2 (i:=i) (by unfold len;omega)
 simpa[ne0,nth] using h1
theorem hD1 {τ:Ty}{z:τ.den}(hc:τ.cmp=true){a b:List τ.den}(ha:∀ x∈a,τ.wf x)(hb:∀ x∈b,τ.wf x)(h:eqC (len a) (len b) (neT τ z a b)=true):a=b:=by
 simp only[eqC,jB,beq_iff_eq,jK] at h
 have hl:a.length=b.length:=by have:=h.1;unfold len at this;omega
 refine pB4 (z:=z) hl fun i hi=>?_
 have h1:=hN7 h.2 (i:=i) (by unfold len;omega)
 have hia:InB (i:Int) (len a):=⟨by omega,by unfold len;omega⟩
 have hib:InB (i:Int) (len b):=⟨by omega,by unfold len;omega⟩
 have h2:τ.eqb (nth a i z) (nth b i z)=true:=by simpa[neT] using h1
 exact hN6 τ hc _ _ (ha _ (wA3 hia)) (hb _ (wA3 hib)) h2
set_option maxHeartbeats 1000000 in
theorem hU1 {a b:D49}(wa:Ty.wf T49 a)(wb:Ty.wf T49 b)(h:f49 a b=true):a=b:=by
 have ha:=hH7 wa
 obtain⟨_,_,_,_,_,_,_,_,_,⟨_,_,_,_⟩,wa10,_,⟨_,_,⟨_,wa12⟩,_⟩,wa13,_,_,_,⟨_,wa17⟩,⟨_,wa18⟩,_,_,_,_,_,_,_,_,⟨_,_,_,⟨_,wa27⟩,_⟩,_⟩:=wa
 obtain⟨_,_,_,_,_,_,_,_,_,⟨_,_,_,_⟩,wb10,_,⟨_,_,⟨_,wb12⟩,_⟩,wb13,_,_,_,⟨_,wb17⟩,⟨_,wb18⟩,_,_,_,_,_,_,_,_,⟨_,_,_,⟨_,wb27⟩,_⟩,_⟩:=wb
 simp only[f49,f49t,f74,f74t,f73,f73t] at h
 simp only[hF3 _ _ ha.mask,hN4 _ _ ha.pix,hF3 _ _ ha.params,hN0 _ _ ha.stops,hH5 _ _ ha.segs,hH6 _ _ ha.warp,Bool.cond_false_right,jB,and_assoc] at h
 obtain⟨a0,a1,a2,a3,a4,a5,a6,a7,a8,⟨a90,a91,a92,⟨⟩⟩,a10,a11,⟨a120,a121,a122,⟨⟩⟩,a13,a14,a15,a16,a17,a18,a19,a20,a21,a22,a23,a24,a25,a26,⟨a270,a271,a272,a273,⟨⟩⟩,⟨⟩⟩:=a
 obtain⟨b0,b1,b2,b3,b4,b5,b6,b7,b8,⟨b90,b91,b92,⟨⟩⟩,b10,b11,⟨b120,b121,b122,⟨⟩⟩,b13,b14,b15,b16,b17,b18,b19,b20,b21,b22,b23,b24,b25,b26,⟨b270,b271,b272,b273,⟨⟩⟩,⟨⟩⟩:=b
 obtain⟨h0,h1,h2,h3,h4,h5,h6,h7,h8,h90,h91,h92,h10,h11,h120,h121,h122,h13,h14,h15,h16,h17,h18,h19,h20,h21,h22,h23,h24,h25,h26,h270,h271,h272,h273⟩:=h
 have e0:a0=b0:=eq_of_beq h0
 have e1:a1=b1:=eq_of_beq h1
 have e2:a2=b2:=eq_of_beq h2
 have e3:a3=b3:=eq_of_beq h3
 have e4:a4=b4:=eq_of_beq h4
 have e5:a5=b5:=eq_of_beq h5
 have e6:a6=b6:=eq_of_beq h6
 have e7:a7=b7:=eq_of_beq h7
 have e8:a8=b8:=eq_of_beq h8
 have e90:a90=b90:=eq_of_beq h90
 have e91:a91=b91:=eq_of_beq h91
 have e92:a92=b92:=hH8 h92
 have e10:a10=b10:=hN6 T37 rfl _ _ wa10 wb10 h10
 have e11:a11=b11:=eq_of_beq h11
 have e120:a120=b120:=eq_of_beq h120
 have e121:a121=b121:=eq_of_beq h121
 have e122:a122=b122:=hD1 (τ:=T42) rfl wa12 wb12 h122
 have e13:a13=b13:=hN6 T42 rfl _ _ wa13 wb13 h13
 have e14:a14=b14:=eq_of_beq h14
 have e15:a15=b15:=hH8 h15
 have e16:a16=b16:=eq_of_beq h16
 have e17:a17=b17:=hD1 (τ:=T122) rfl wa17 wb17 h17
 have e18:a18=b18:=hD1 (τ:=T128) rfl wa18 wb18 h18
 have e19:a19=b19:=eq_of_beq h19
 have e20:a20=b20:=eq_of_beq h20
 have e21:a21=b21:=eq_of_beq h21
 have e22:a22=b22:=eq_of_beq h22
 have e23:a23=b23:=eq_of_beq h23
 have e24:a24=b24:=eq_of_beq h24
 have e25:a25=b25:=eq_of_beq h25
 have e26:a26=b26:=eq_of_beq h26
 have e270:a270=b270:=eq_of_beq h270
 have e271:a271=b271:=eq_of_beq h271
 have e272:a272=b272:=eq_of_beq h272
 have e273:a273=b273:=hD1 (τ:=T125) rfl wa27 wb27 h273
 rw[e0,e1,e2,e3,e4,e5,e6,e7,e8,e90,e91,e92,e10,e11,e120,e121,e122,e13,e14,e15,e16,e17,e18,e19,e20,e21,e22,e23,e24,e25,e26,e270,e271,e272,e273]
theorem pI5 {n:D49}(h:Ty.wf T49 n):wJ8 n:=by
 obtain⟨_,_,_,h0,_,_,_,_,_,⟨_,_,⟨h1,_⟩,_⟩,_,_,⟨_,_,⟨h2,_⟩,_⟩,_,_,⟨h3,_⟩,_,⟨h4,_⟩,⟨h5,_⟩,_,_,_,_,h7,_,_,_,⟨_,_,_,⟨h6,_⟩,_⟩,_⟩:=h
 exact⟨vI5 h0,vI5 h1,vI5 h2,vI5 h3,vI5 h4,vI5 h5,vI5 h7,vI5 h6⟩
end Go.Proofs.YtpanghcojpnkaaaGreatDoor.Am
