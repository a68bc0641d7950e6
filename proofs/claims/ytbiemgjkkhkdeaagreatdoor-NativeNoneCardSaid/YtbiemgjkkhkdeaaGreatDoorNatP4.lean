/- NativeNone: readers that are nil or were not made, run through. No condition. -/
import Derived.Test.YtbiemgjkkhkdeaaGreatDoorNatP3
import Derived.Test.YtbiemgjkkhkdeaaGreatDoorMach5
set_option linter.unusedVariables false
set_option synthInstance.maxSize 4000
set_option synthInstance.maxHeartbeats 400000
namespace Go.Proofs.YtbiemgjkkhkdeaaGreatDoor.Am
open Go Go.Am Go.Proofs
noncomputable def uM8 (ps:List (Nat×Sh))(rs:Sh)(os:List (Nat×Sh))(ok:zB5 ps→Prop) [DecidablePred ok] (f:zB5 ps→rs.den)(o:zB5 ps→yC7 os):Am.Spec:=fun args =>
 bif Nat.beq args.length (nps ps)&&Nat.ble (nps ps) 5000 then
  match zE4 ps (yG7 0 args) with
  |some x=>bif decide (ok x) then some ⟨[],rs.mk (f x),wM5 os (o x),[]⟩ else none
  |none=>none
 else none
theorem tV5 {P:Program}{f:Nat}{ps:List (Nat×Sh)}{rs:Sh}{os:List (Nat×Sh)}{ok:zB5 ps→Prop}[DecidablePred ok]{F:zB5 ps→rs.den}{o:zB5 ps→yC7 os}(h:SpecOk P f (xI2 ps rs os ok F o)):SpecOk P f (uM8 ps rs os ok F o):=by
 refine⟨h.1,fun args co hsp _=>?_⟩;unfold uM8 at hsp;generalize hb:(Nat.beq args.length (nps ps)&&Nat.ble (nps ps) 5000)=b at hsp;cases b with
 |false=>cases hsp
 |true =>
  simp only[cond_true] at hsp;split at hsp
  ·rename_i x hx;generalize hd:decide (ok x)=d at hsp;cases d with
   |false=>cases hsp
   |true =>
    simp only[cond_true,Option.some.injEq] at hsp;subst hsp;exact h.2 args ⟨[ok x],rs.mk (F x),wM5 os (o x),[]⟩ (by unfold xI2;rw[hb,cond_true,hx]) (fun q hq=>by rw[List.mem_singleton.1 hq];exact of_decide_eq_true hd)
  ·cases hsp
noncomputable def kh {n:Nat}{ps:List (Nat×Sh)}{rs:Sh}{os:List (Nat×Sh)}{ok:zB5 ps→Prop}[DecidablePred ok]{F:zB5 ps→rs.den}{o:zB5 ps→yC7 os}(h:SpecOk Tryz.prog n (xI2 ps rs os ok F o)):Fb Tryz.prog:=⟨n,uM8 ps rs os ok F o,tV5 h⟩
noncomputable def khd {n:Nat}{ps:List (Nat×Sh)}{rs:Sh}{os:List (Nat×Sh)}{ok:zB5 ps→Prop}(d:DecidablePred ok){F:zB5 ps→rs.den}{o:zB5 ps→yC7 os}(h:SpecOk Tryz.prog n (xI2 ps rs os ok F o)):Fb Tryz.prog:=kh h
noncomputable def tH9:List (Fb Tryz.prog):=[]
noncomputable def tN2:Ctx:={ Cx tys (Fb.l tH9) [] [] true 18 [] [] with skip:=true,closed:=true }
theorem tN3:CtxOk Tryz.prog tN2:=wI7 wU5 (by kernel_rfl) (Fb.all tH9) rfl (by kernel_rfl)
theorem uF3:SK 84 (fnSpec [(0,.nilp)] vB [] (fun _=>True) (fun _=>false) (fun _=>())):=wQ0 (lv:=[(0,[0]),(1,[2])]) tN3 mixed Tryz.func84 (p:=[]) trivial (by kernel_rfl) (fun x=>by kernel_rfl)
noncomputable def tI:List (Fb Tryz.prog):=[kd uF3]
noncomputable def tN4:Ctx:={ Cx tys (Fb.l tI) [] [] true 68 [] [] with skip:=true,closed:=true }
theorem tN5:CtxOk Tryz.prog tN4:=wI7 wU5 (by kernel_rfl) (Fb.all tI) rfl (by kernel_rfl)
theorem uT8:SK 83 (fnSpec [(0,.nilp)] (.val (.int .u64)) [] (fun _=>True) (fun _=>(0:Int)) (fun _=>())):=wQ0 (lv:=[(0,[0]),(1,[0,8]),(2,[2]),(3,[0,3]),(4,[0,3,4]),(5,[0,3,4]),(6,[0,3,4,20]),(7,[]),(8,[2]),(9,[0,3,4,5]),(10,[0,3,4,5,46]),(11,[]),(12,[2]),(13,[0,3,4,5]),(14,[0,3,4,5]),(15,[0,3,4,66]),(16,[2])]) tN5 mixed Tryz.func83 (p:=[]) trivial (by kernel_rfl) (fun x=>by kernel_rfl)
noncomputable def tI0:List (Fb Tryz.prog):=[kd uT8]
noncomputable def tN6:Ctx:={ Cx tys (Fb.l tI0) [] [] true 16 [] [] with skip:=true,closed:=true }
theorem tN7:CtxOk Tryz.prog tN6:=wI7 wU5 (by kernel_rfl) (Fb.all tI0) rfl (by kernel_rfl)
theorem vS6:SK 96 (fnSpec [(0,.nilp)] vI [] (fun _=>True) (fun _=>(0:Int)) (fun _=>())):=wQ0 (lv:=[(0,[0]),(1,[3]),(2,[3,8]),(3,[2]),(4,[2])]) tN7 mixed Tryz.func96 (p:=[]) trivial (by kernel_rfl) (fun x=>by kernel_rfl)
noncomputable def tI1:List (Fb Tryz.prog):=[kd uF3,kd uT8]
noncomputable def tN8:Ctx:={ Cx tys (Fb.l tI1) [] [] true 21 [] [] with skip:=true }
theorem tN9:CtxOk Tryz.prog tN8:=wI7 wU5 (by kernel_rfl) (Fb.all tI1) rfl (by kernel_rfl)
theorem vW8:SK 36 (fnSpec [(0,.nilp),(1,vI)] vI [] (fun _=>True) (fun _=>(0:Int)) (fun _=>())):=wQ0 (lv:=[(0,[0,1]),(1,[0,1,5]),(2,[0,1,5,10]),(3,[4]),(4,[0,5,15]),(5,[]),(6,[4]),(7,[4])]) tN9 mixed Tryz.func36 (p:=[]) trivial (by kernel_rfl) (fun x=>by kernel_rfl)
noncomputable def tI2:List (Fb Tryz.prog):=[kd uF3,kd vW8]
noncomputable def tO:Ctx:={ Cx tys (Fb.l tI2) [] [] true 44 [] [] with skip:=true }
theorem tO0:CtxOk Tryz.prog tO:=wI7 wU5 (by kernel_rfl) (Fb.all tI2) rfl (by kernel_rfl)
theorem tV6:SK 64 (fnSpec [(0,.nilp),(1,vI)] vS [] (fun _=>True) (fun _=>([]:List UInt8)) (fun _=>())):=wQ0 (lv:=[(0,[0,1]),(1,[0,5]),(2,[0,5,12]),(3,[4]),(4,[0,5,16]),(5,[]),(6,[4]),(7,[0,5,6]),(8,[6]),(9,[4])]) tO0 mixed Tryz.func64 (p:=[]) trivial (by kernel_rfl) (fun x=>by kernel_rfl)
noncomputable def tI3:List (Fb Tryz.prog):=[kd uF3,kd vW8]
noncomputable def tO1:Ctx:={ Cx tys (Fb.l tI3) [] [] true 25 [] [] with skip:=true }
theorem tO2:CtxOk Tryz.prog tO1:=wI7 wU5 (by kernel_rfl) (Fb.all tI3) rfl (by kernel_rfl)
theorem tV7:SK 66 (fnSpec [(0,.nilp),(1,vI)] (.val (.sl (.int .i64))) [] (fun _=>True) (fun _=>([]:List Int)) (fun _=>())):=wQ0 (lv:=[(0,[0,1]),(1,[0,5]),(2,[0,5,6]),(3,[0,6,11,12]),(4,[0,6,11,12,13]),(5,[0,6,7,11,12]),(6,[0,6,7,11,12,18]),(7,[4]),(8,[0,6,11,12]),(9,[0,6,11,12]),(10,[4])]) tO2 mixed Tryz.func66 (p:=[]) trivial (by kernel_rfl) (fun x=>by kernel_rfl)
noncomputable def tI4:List (Fb Tryz.prog):=[kd uF3]
noncomputable def tO3:Ctx:={ Cx tys (Fb.l tI4) [] [] true 10 [] [] with skip:=true }
theorem tO4:CtxOk Tryz.prog tO3:=wI7 wU5 (by kernel_rfl) (Fb.all tI4) rfl (by kernel_rfl)
theorem uT9:SK 82 (fnSpec [(0,.nilp),(1,vI)] (.tup .nl) [] (fun _=>True) (fun _=>()) (fun _=>())):=wQ0 (lv:=[(0,[0,1,5]),(1,[])]) tO4 mixed Tryz.func82 (p:=[]) trivial (by kernel_rfl) (fun x=>by kernel_rfl)
noncomputable def tI5:List (Fb Tryz.prog):=[]
noncomputable def tO5:Ctx:={ Cx tys (Fb.l tI5) [] [] true 16 [] [] with skip:=true,closed:=true }
theorem tO6:CtxOk Tryz.prog tO5:=wI7 wU5 (by kernel_rfl) (Fb.all tI5) rfl (by kernel_rfl)
theorem uU:SK 44 (fnSpec [(0,.nilp)] vI [] (fun _=>True) (fun _=>(14:Int)) (fun _=>())):=wQ0 (lv:=[(0,[0]),(1,[0,11]),(2,[2]),(3,[2])]) tO6 mixed Tryz.func44 (p:=[]) trivial (by kernel_rfl) (fun x=>by kernel_rfl)
def tO7 (p2:D52):D52:=
 let s_2:=(p2.2.2.2.2.2.2.2.2.2.2.2.2.2.2.2.2.2.2.2.2.2.2.2.2.2.2.2.1.1,p2.2.2.2.2.2.2.2.2.2.2.2.2.2.2.2.2.2.2.2.2.2.2.2.2.2.2.2.1.2.1,p2.2.2.2.2.2.2.2.2.2.2.2.2.2.2.2.2.2.2.2.2.2.2.2.2.2.2.2.1.2.2.1,p2.2.2.2.2.2.2.2.2.2.2.2.2.2.2.2.2.2.2.2.2.2.2.2.2.2.2.2.1.2.2.2.1,())
 let s_3:=((0:Int),(0:Int),(0:Int),p2.2.2.2.1,p2.2.2.2.2.1,p2.2.2.2.2.2.1,p2.2.2.2.2.2.2.1,p2.2.2.2.2.2.2.2.1,p2.2.2.2.2.2.2.2.2.1,(p2.2.2.2.2.2.2.2.2.2.1.1,p2.2.2.2.2.2.2.2.2.2.1.2.1,p2.2.2.2.2.2.2.2.2.2.1.2.2.1,()),p2.2.2.2.2.2.2.2.2.2.2.1,p2.2.2.2.2.2.2.2.2.2.2.2.1,(p2.2.2.2.2.2.2.2.2.2.2.2.2.1.1,p2.2.2.2.2.2.2.2.2.2.2.2.2.1.2.1,p2.2.2.2.2.2.2.2.2.2.2.2.2.1.2.2.1,()),p2.2.2.2.2.2.2.2.2.2.2.2.2.2.1,p2.2.2.2.2.2.2.2.2.2.2.2.2.2.2.1,p2.2.2.2.2.2.2.2.2.2.2.2.2.2.2.2.1,p2.2.2.2.2.2.2.2.2.2.2.2.2.2.2.2.2.1,p2.2.2.2.2.2.2.2.2.2.2.2.2.2.2.2.2.2.1,p2.2.2.2.2.2.2.2.2.2.2.2.2.2.2.2.2.2.2.1,p2.2.2.2.2.2.2.2.2.2.2.2.2.2.2.2.2.2.2.2.1,p2.2.2.2.2.2.2.2.2.2.2.2.2.2.2.2.2.2.2.2.2.1,p2.2.2.2.2.2.2.2.2.2.2.2.2.2.2.2.2.2.2.2.2.2.1,p2.2.2.2.2.2.2.2.2.2.2.2.2.2.2.2.2.2.2.2.2.2.2.1,p2.2.2.2.2.2.2.2.2.2.2.2.2.2.2.2.2.2.2.2.2.2.2.2.1,p2.2.2.2.2.2.2.2.2.2.2.2.2.2.2.2.2.2.2.2.2.2.2.2.2.1,p2.2.2.2.2.2.2.2.2.2.2.2.2.2.2.2.2.2.2.2.2.2.2.2.2.2.1,p2.2.2.2.2.2.2.2.2.2.2.2.2.2.2.2.2.2.2.2.2.2.2.2.2.2.2.1,s_2,())
 s_3
@[reducible] def uH1:List (Nat×Sh):=[(0,.nilp),(1,(.ptrs false [some (990001,T52,[.inl 0]),some (990001,T52,[.inl 1]),some (990001,T52,[.inl 2])])),(990001,(.box T52 (.val T52)))]
@[reducible] def uH2:List (Nat×Sh):=[(1,(.ptrs false [some (990001,T52,[.inl 0]),some (990001,T52,[.inl 1]),some (990001,T52,[.inl 2])])),(990001,(.box T52 (.val T52)))]
noncomputable def uH3:List (Fb Tryz.prog):=[kd vS6]
noncomputable def uU0:Ctx:={ Cx tys (Fb.l uH3) [] [] true 17 [0,1] [] with skip:=true }
theorem uU1:CtxOk Tryz.prog uU0:=wI7 wU5 (by kernel_rfl) (Fb.all uH3) rfl (by kernel_rfl)
theorem tB8:SK 63 (xI2 uH1 (.tup .nl) uH2 (fun _=>True) (fun _=>()) (fun x=>((),tO7 x.2.2.1,()))):=wP3 (ps:=uH1) (os:=uH2) (p:=fun _=>[InB (0:Int) 3,InB (1:Int) 3,InB (2:Int) 3]) (lv:=[(0,[0,1,6,7,8,990001]),(1,[0,1,6,7,8,9,990001]),(2,[0,1,5,6,7,8,990001]),(3,[0,1,6,7,8,990001]),(4,[0,1,6,7,8,990001])]) uU1 mixed Tryz.func63 (fun _ _=>⟨⟨by decide,by decide⟩,⟨by decide,by decide⟩,⟨by decide,by decide⟩⟩) (by kernel_rfl) (fun x=>by kernel_rfl)
def tO8 (p2:D52):D52:=
 let s_2:=(p2.2.2.2.2.2.2.2.2.2.2.2.2.2.2.2.2.2.2.2.2.2.2.2.2.2.2.2.1.1,p2.2.2.2.2.2.2.2.2.2.2.2.2.2.2.2.2.2.2.2.2.2.2.2.2.2.2.2.1.2.1,p2.2.2.2.2.2.2.2.2.2.2.2.2.2.2.2.2.2.2.2.2.2.2.2.2.2.2.2.1.2.2.1,p2.2.2.2.2.2.2.2.2.2.2.2.2.2.2.2.2.2.2.2.2.2.2.2.2.2.2.2.1.2.2.2.1,())
 let s_3:=(p2.1,p2.2.1,p2.2.2.1,p2.2.2.2.1,p2.2.2.2.2.1,p2.2.2.2.2.2.1,p2.2.2.2.2.2.2.1,(0:Int),(0:Int),(p2.2.2.2.2.2.2.2.2.2.1.1,p2.2.2.2.2.2.2.2.2.2.1.2.1,p2.2.2.2.2.2.2.2.2.2.1.2.2.1,()),p2.2.2.2.2.2.2.2.2.2.2.1,p2.2.2.2.2.2.2.2.2.2.2.2.1,(p2.2.2.2.2.2.2.2.2.2.2.2.2.1.1,p2.2.2.2.2.2.2.2.2.2.2.2.2.1.2.1,p2.2.2.2.2.2.2.2.2.2.2.2.2.1.2.2.1,()),p2.2.2.2.2.2.2.2.2.2.2.2.2.2.1,p2.2.2.2.2.2.2.2.2.2.2.2.2.2.2.1,p2.2.2.2.2.2.2.2.2.2.2.2.2.2.2.2.1,p2.2.2.2.2.2.2.2.2.2.2.2.2.2.2.2.2.1,p2.2.2.2.2.2.2.2.2.2.2.2.2.2.2.2.2.2.1,p2.2.2.2.2.2.2.2.2.2.2.2.2.2.2.2.2.2.2.1,p2.2.2.2.2.2.2.2.2.2.2.2.2.2.2.2.2.2.2.2.1,p2.2.2.2.2.2.2.2.2.2.2.2.2.2.2.2.2.2.2.2.2.1,p2.2.2.2.2.2.2.2.2.2.2.2.2.2.2.2.2.2.2.2.2.2.1,p2.2.2.2.2.2.2.2.2.2.2.2.2.2.2.2.2.2.2.2.2.2.2.1,p2.2.2.2.2.2.2.2.2.2.2.2.2.2.2.2.2.2.2.2.2.2.2.2.1,p2.2.2.2.2.2.2.2.2.2.2.2.2.2.2.2.2.2.2.2.2.2.2.2.2.1,p2.2.2.2.2.2.2.2.2.2.2.2.2.2.2.2.2.2.2.2.2.2.2.2.2.2.1,p2.2.2.2.2.2.2.2.2.2.2.2.2.2.2.2.2.2.2.2.2.2.2.2.2.2.2.1,s_2,())
 s_3
@[reducible] def uH4:List (Nat×Sh):=[(0,.nilp),(1,(.ptrs false [some (990001,T52,[.inl 7]),some (990001,T52,[.inl 8])])),(990001,(.box T52 (.val T52)))]
@[reducible] def uH5:List (Nat×Sh):=[(1,(.ptrs false [some (990001,T52,[.inl 7]),some (990001,T52,[.inl 8])])),(990001,(.box T52 (.val T52)))]
noncomputable def uH6:List (Fb Tryz.prog):=[kd vS6]
noncomputable def uU2:Ctx:={ Cx tys (Fb.l uH6) [] [] true 17 [0,1] [] with skip:=true }
theorem uU3:CtxOk Tryz.prog uU2:=wI7 wU5 (by kernel_rfl) (Fb.all uH6) rfl (by kernel_rfl)
theorem tB9:SK 63 (xI2 uH4 (.tup .nl) uH5 (fun _=>True) (fun _=>()) (fun x=>((),tO8 x.2.2.1,()))):=wP3 (ps:=uH4) (os:=uH5) (p:=fun _=>[InB (0:Int) 2,InB (1:Int) 2]) (lv:=[(0,[0,1,6,7,8,990001]),(1,[0,1,6,7,8,9,990001]),(2,[0,1,5,6,7,8,990001]),(3,[0,1,6,7,8,990001]),(4,[0,1,6,7,8,990001])]) uU3 mixed Tryz.func63 (fun _ _=>⟨⟨by decide,by decide⟩,⟨by decide,by decide⟩⟩) (by kernel_rfl) (fun x=>by kernel_rfl)
def tO9 (p2:D52):D52:=
 let s_7:=(p2.2.2.2.2.2.2.2.2.2.2.2.2.2.2.2.2.2.2.2.2.2.2.2.2.2.2.2.1.1,p2.2.2.2.2.2.2.2.2.2.2.2.2.2.2.2.2.2.2.2.2.2.2.2.2.2.2.2.1.2.1,p2.2.2.2.2.2.2.2.2.2.2.2.2.2.2.2.2.2.2.2.2.2.2.2.2.2.2.2.1.2.2.1,p2.2.2.2.2.2.2.2.2.2.2.2.2.2.2.2.2.2.2.2.2.2.2.2.2.2.2.2.1.2.2.2.1,())
 let s_8:=(p2.1,p2.2.1,p2.2.2.1,p2.2.2.2.1,p2.2.2.2.2.1,p2.2.2.2.2.2.1,p2.2.2.2.2.2.2.1,p2.2.2.2.2.2.2.2.1,p2.2.2.2.2.2.2.2.2.1,p2.2.2.2.2.2.2.2.2.2.1,((0:Int),(0:Int),(0:Int),(0:Int),(0:Int),(0:Int),()),(0:Int),(p2.2.2.2.2.2.2.2.2.2.2.2.2.1.1,p2.2.2.2.2.2.2.2.2.2.2.2.2.1.2.1,p2.2.2.2.2.2.2.2.2.2.2.2.2.1.2.2.1,()),p2.2.2.2.2.2.2.2.2.2.2.2.2.2.1,p2.2.2.2.2.2.2.2.2.2.2.2.2.2.2.1,p2.2.2.2.2.2.2.2.2.2.2.2.2.2.2.2.1,p2.2.2.2.2.2.2.2.2.2.2.2.2.2.2.2.2.1,p2.2.2.2.2.2.2.2.2.2.2.2.2.2.2.2.2.2.1,p2.2.2.2.2.2.2.2.2.2.2.2.2.2.2.2.2.2.2.1,p2.2.2.2.2.2.2.2.2.2.2.2.2.2.2.2.2.2.2.2.1,p2.2.2.2.2.2.2.2.2.2.2.2.2.2.2.2.2.2.2.2.2.1,p2.2.2.2.2.2.2.2.2.2.2.2.2.2.2.2.2.2.2.2.2.2.1,p2.2.2.2.2.2.2.2.2.2.2.2.2.2.2.2.2.2.2.2.2.2.2.1,p2.2.2.2.2.2.2.2.2.2.2.2.2.2.2.2.2.2.2.2.2.2.2.2.1,p2.2.2.2.2.2.2.2.2.2.2.2.2.2.2.2.2.2.2.2.2.2.2.2.2.1,p2.2.2.2.2.2.2.2.2.2.2.2.2.2.2.2.2.2.2.2.2.2.2.2.2.2.1,p2.2.2.2.2.2.2.2.2.2.2.2.2.2.2.2.2.2.2.2.2.2.2.2.2.2.2.1,s_7,())
 s_8
@[reducible] def uH7:List (Nat×Sh):=[(0,.nilp),(1,(.ptrs false [some (990001,T52,[.inl 10,.inl 0]),some (990001,T52,[.inl 10,.inl 1]),some (990001,T52,[.inl 10,.inl 2]),some (990001,T52,[.inl 10,.inl 3]),some (990001,T52,[.inl 10,.inl 4]),some (990001,T52,[.inl 10,.inl 5]),some (990001,T52,[.inl 11])])),(990001,(.box T52 (.val T52)))]
@[reducible] def uH8:List (Nat×Sh):=[(1,(.ptrs false [some (990001,T52,[.inl 10,.inl 0]),some (990001,T52,[.inl 10,.inl 1]),some (990001,T52,[.inl 10,.inl 2]),some (990001,T52,[.inl 10,.inl 3]),some (990001,T52,[.inl 10,.inl 4]),some (990001,T52,[.inl 10,.inl 5]),some (990001,T52,[.inl 11])])),(990001,(.box T52 (.val T52)))]
noncomputable def uH9:List (Fb Tryz.prog):=[kd vS6]
noncomputable def uU4:Ctx:={ Cx tys (Fb.l uH9) [] [] true 17 [0,1] [] with skip:=true }
theorem uU5:CtxOk Tryz.prog uU4:=wI7 wU5 (by kernel_rfl) (Fb.all uH9) rfl (by kernel_rfl)
theorem tC:SK 63 (xI2 uH7 (.tup .nl) uH8 (fun _=>True) (fun _=>()) (fun x=>((),tO9 x.2.2.1,()))):=wP3 (ps:=uH7) (os:=uH8) (p:=fun _=>[InB (0:Int) 7,InB (1:Int) 7,InB (2:Int) 7,InB (3:Int) 7,InB (4:Int) 7,InB (5:Int) 7,InB (6:Int) 7]) (lv:=[(0,[0,1,6,7,8,990001]),(1,[0,1,6,7,8,9,990001]),(2,[0,1,5,6,7,8,990001]),(3,[0,1,6,7,8,990001]),(4,[0,1,6,7,8,990001])]) uU5 mixed Tryz.func63 (fun _ _=>⟨⟨by decide,by decide⟩,⟨by decide,by decide⟩,⟨by decide,by decide⟩,⟨by decide,by decide⟩,⟨by decide,by decide⟩,⟨by decide,by decide⟩,⟨by decide,by decide⟩⟩) (by kernel_rfl) (fun x=>by kernel_rfl)
def tP (p2:D52):D52:=
 let s_4:=(p2.2.2.2.2.2.2.2.2.2.2.2.2.2.2.2.2.2.2.2.2.2.2.2.2.2.2.2.1.1,p2.2.2.2.2.2.2.2.2.2.2.2.2.2.2.2.2.2.2.2.2.2.2.2.2.2.2.2.1.2.1,p2.2.2.2.2.2.2.2.2.2.2.2.2.2.2.2.2.2.2.2.2.2.2.2.2.2.2.2.1.2.2.1,p2.2.2.2.2.2.2.2.2.2.2.2.2.2.2.2.2.2.2.2.2.2.2.2.2.2.2.2.1.2.2.2.1,())
 let s_5:=(p2.1,p2.2.1,p2.2.2.1,p2.2.2.2.1,p2.2.2.2.2.1,p2.2.2.2.2.2.1,p2.2.2.2.2.2.2.1,p2.2.2.2.2.2.2.2.1,p2.2.2.2.2.2.2.2.2.1,p2.2.2.2.2.2.2.2.2.2.1,p2.2.2.2.2.2.2.2.2.2.2.1,p2.2.2.2.2.2.2.2.2.2.2.2.1,p2.2.2.2.2.2.2.2.2.2.2.2.2.1,((0:Int),(0:Int),(0:Int),(0:Int),()),(0:Int),p2.2.2.2.2.2.2.2.2.2.2.2.2.2.2.2.1,p2.2.2.2.2.2.2.2.2.2.2.2.2.2.2.2.2.1,p2.2.2.2.2.2.2.2.2.2.2.2.2.2.2.2.2.2.1,p2.2.2.2.2.2.2.2.2.2.2.2.2.2.2.2.2.2.2.1,p2.2.2.2.2.2.2.2.2.2.2.2.2.2.2.2.2.2.2.2.1,p2.2.2.2.2.2.2.2.2.2.2.2.2.2.2.2.2.2.2.2.2.1,p2.2.2.2.2.2.2.2.2.2.2.2.2.2.2.2.2.2.2.2.2.2.1,p2.2.2.2.2.2.2.2.2.2.2.2.2.2.2.2.2.2.2.2.2.2.2.1,p2.2.2.2.2.2.2.2.2.2.2.2.2.2.2.2.2.2.2.2.2.2.2.2.1,p2.2.2.2.2.2.2.2.2.2.2.2.2.2.2.2.2.2.2.2.2.2.2.2.2.1,p2.2.2.2.2.2.2.2.2.2.2.2.2.2.2.2.2.2.2.2.2.2.2.2.2.2.1,p2.2.2.2.2.2.2.2.2.2.2.2.2.2.2.2.2.2.2.2.2.2.2.2.2.2.2.1,s_4,())
 s_5
@[reducible] def uI:List (Nat×Sh):=[(0,.nilp),(1,(.ptrs false [some (990001,T52,[.inl 13,.inl 0]),some (990001,T52,[.inl 13,.inl 1]),some (990001,T52,[.inl 13,.inl 2]),some (990001,T52,[.inl 13,.inl 3]),some (990001,T52,[.inl 14])])),(990001,(.box T52 (.val T52)))]
@[reducible] def uI0:List (Nat×Sh):=[(1,(.ptrs false [some (990001,T52,[.inl 13,.inl 0]),some (990001,T52,[.inl 13,.inl 1]),some (990001,T52,[.inl 13,.inl 2]),some (990001,T52,[.inl 13,.inl 3]),some (990001,T52,[.inl 14])])),(990001,(.box T52 (.val T52)))]
noncomputable def uI1:List (Fb Tryz.prog):=[kd vS6]
noncomputable def uU6:Ctx:={ Cx tys (Fb.l uI1) [] [] true 17 [0,1] [] with skip:=true }
theorem uU7:CtxOk Tryz.prog uU6:=wI7 wU5 (by kernel_rfl) (Fb.all uI1) rfl (by kernel_rfl)
theorem tC0:SK 63 (xI2 uI (.tup .nl) uI0 (fun _=>True) (fun _=>()) (fun x=>((),tP x.2.2.1,()))):=wP3 (ps:=uI) (os:=uI0) (p:=fun _=>[InB (0:Int) 5,InB (1:Int) 5,InB (2:Int) 5,InB (3:Int) 5,InB (4:Int) 5]) (lv:=[(0,[0,1,6,7,8,990001]),(1,[0,1,6,7,8,9,990001]),(2,[0,1,5,6,7,8,990001]),(3,[0,1,6,7,8,990001]),(4,[0,1,6,7,8,990001])]) uU7 mixed Tryz.func63 (fun _ _=>⟨⟨by decide,by decide⟩,⟨by decide,by decide⟩,⟨by decide,by decide⟩,⟨by decide,by decide⟩,⟨by decide,by decide⟩⟩) (by kernel_rfl) (fun x=>by kernel_rfl)
def tP0 (p2:D52):D52:=
 let s:=(p2.2.2.2.2.2.2.2.2.2.2.2.2.2.2.2.2.2.2.2.2.2.2.2.2.2.2.2.1.1,p2.2.2.2.2.2.2.2.2.2.2.2.2.2.2.2.2.2.2.2.2.2.2.2.2.2.2.2.1.2.1,p2.2.2.2.2.2.2.2.2.2.2.2.2.2.2.2.2.2.2.2.2.2.2.2.2.2.2.2.1.2.2.1,p2.2.2.2.2.2.2.2.2.2.2.2.2.2.2.2.2.2.2.2.2.2.2.2.2.2.2.2.1.2.2.2.1,())
 let s_1:=(p2.1,p2.2.1,p2.2.2.1,p2.2.2.2.1,p2.2.2.2.2.1,p2.2.2.2.2.2.1,p2.2.2.2.2.2.2.1,p2.2.2.2.2.2.2.2.1,p2.2.2.2.2.2.2.2.2.1,p2.2.2.2.2.2.2.2.2.2.1,p2.2.2.2.2.2.2.2.2.2.2.1,p2.2.2.2.2.2.2.2.2.2.2.2.1,p2.2.2.2.2.2.2.2.2.2.2.2.2.1,p2.2.2.2.2.2.2.2.2.2.2.2.2.2.1,p2.2.2.2.2.2.2.2.2.2.2.2.2.2.2.1,p2.2.2.2.2.2.2.2.2.2.2.2.2.2.2.2.1,(0:Int),p2.2.2.2.2.2.2.2.2.2.2.2.2.2.2.2.2.2.1,p2.2.2.2.2.2.2.2.2.2.2.2.2.2.2.2.2.2.2.1,p2.2.2.2.2.2.2.2.2.2.2.2.2.2.2.2.2.2.2.2.1,p2.2.2.2.2.2.2.2.2.2.2.2.2.2.2.2.2.2.2.2.2.1,p2.2.2.2.2.2.2.2.2.2.2.2.2.2.2.2.2.2.2.2.2.2.1,p2.2.2.2.2.2.2.2.2.2.2.2.2.2.2.2.2.2.2.2.2.2.2.1,p2.2.2.2.2.2.2.2.2.2.2.2.2.2.2.2.2.2.2.2.2.2.2.2.1,p2.2.2.2.2.2.2.2.2.2.2.2.2.2.2.2.2.2.2.2.2.2.2.2.2.1,p2.2.2.2.2.2.2.2.2.2.2.2.2.2.2.2.2.2.2.2.2.2.2.2.2.2.1,p2.2.2.2.2.2.2.2.2.2.2.2.2.2.2.2.2.2.2.2.2.2.2.2.2.2.2.1,s,())
 s_1
@[reducible] def uI2:List (Nat×Sh):=[(0,.nilp),(1,(.ptrs false [some (990001,T52,[.inl 16])])),(990001,(.box T52 (.val T52)))]
@[reducible] def uI3:List (Nat×Sh):=[(1,(.ptrs false [some (990001,T52,[.inl 16])])),(990001,(.box T52 (.val T52)))]
noncomputable def uI4:List (Fb Tryz.prog):=[kd vS6]
noncomputable def uU8:Ctx:={ Cx tys (Fb.l uI4) [] [] true 17 [0,1] [] with skip:=true }
theorem uU9:CtxOk Tryz.prog uU8:=wI7 wU5 (by kernel_rfl) (Fb.all uI4) rfl (by kernel_rfl)
theorem tC1:SK 63 (xI2 uI2 (.tup .nl) uI3 (fun _=>True) (fun _=>()) (fun x=>((),tP0 x.2.2.1,()))):=wP3 (ps:=uI2) (os:=uI3) (p:=fun _=>[InB (0:Int) 1]) (lv:=[(0,[0,1,6,7,8,990001]),(1,[0,1,6,7,8,9,990001]),(2,[0,1,5,6,7,8,990001]),(3,[0,1,6,7,8,990001]),(4,[0,1,6,7,8,990001])]) uU9 mixed Tryz.func63 (fun _ _=>⟨by decide,by decide⟩) (by kernel_rfl) (fun x=>by kernel_rfl)
def tP1 (p2:D52):D52:=
 let s:=(p2.2.2.2.2.2.2.2.2.2.2.2.2.2.2.2.2.2.2.2.2.2.2.2.2.2.2.2.1.1,p2.2.2.2.2.2.2.2.2.2.2.2.2.2.2.2.2.2.2.2.2.2.2.2.2.2.2.2.1.2.1,p2.2.2.2.2.2.2.2.2.2.2.2.2.2.2.2.2.2.2.2.2.2.2.2.2.2.2.2.1.2.2.1,p2.2.2.2.2.2.2.2.2.2.2.2.2.2.2.2.2.2.2.2.2.2.2.2.2.2.2.2.1.2.2.2.1,())
 let s_1:=(p2.1,p2.2.1,p2.2.2.1,p2.2.2.2.1,p2.2.2.2.2.1,p2.2.2.2.2.2.1,p2.2.2.2.2.2.2.1,p2.2.2.2.2.2.2.2.1,p2.2.2.2.2.2.2.2.2.1,p2.2.2.2.2.2.2.2.2.2.1,p2.2.2.2.2.2.2.2.2.2.2.1,p2.2.2.2.2.2.2.2.2.2.2.2.1,p2.2.2.2.2.2.2.2.2.2.2.2.2.1,p2.2.2.2.2.2.2.2.2.2.2.2.2.2.1,p2.2.2.2.2.2.2.2.2.2.2.2.2.2.2.1,p2.2.2.2.2.2.2.2.2.2.2.2.2.2.2.2.1,p2.2.2.2.2.2.2.2.2.2.2.2.2.2.2.2.2.1,p2.2.2.2.2.2.2.2.2.2.2.2.2.2.2.2.2.2.1,p2.2.2.2.2.2.2.2.2.2.2.2.2.2.2.2.2.2.2.1,(0:Int),(0:Int),(0:Int),(0:Int),p2.2.2.2.2.2.2.2.2.2.2.2.2.2.2.2.2.2.2.2.2.2.2.2.1,p2.2.2.2.2.2.2.2.2.2.2.2.2.2.2.2.2.2.2.2.2.2.2.2.2.1,p2.2.2.2.2.2.2.2.2.2.2.2.2.2.2.2.2.2.2.2.2.2.2.2.2.2.1,p2.2.2.2.2.2.2.2.2.2.2.2.2.2.2.2.2.2.2.2.2.2.2.2.2.2.2.1,s,())
 s_1
@[reducible] def uI5:List (Nat×Sh):=[(0,.nilp),(1,(.ptrs false [some (990001,T52,[.inl 19]),some (990001,T52,[.inl 20]),some (990001,T52,[.inl 21]),some (990001,T52,[.inl 22])])),(990001,(.box T52 (.val T52)))]
@[reducible] def uI6:List (Nat×Sh):=[(1,(.ptrs false [some (990001,T52,[.inl 19]),some (990001,T52,[.inl 20]),some (990001,T52,[.inl 21]),some (990001,T52,[.inl 22])])),(990001,(.box T52 (.val T52)))]
noncomputable def uI7:List (Fb Tryz.prog):=[kd vS6]
noncomputable def uV:Ctx:={ Cx tys (Fb.l uI7) [] [] true 17 [0,1] [] with skip:=true }
theorem uV0:CtxOk Tryz.prog uV:=wI7 wU5 (by kernel_rfl) (Fb.all uI7) rfl (by kernel_rfl)
theorem tC2:SK 63 (xI2 uI5 (.tup .nl) uI6 (fun _=>True) (fun _=>()) (fun x=>((),tP1 x.2.2.1,()))):=wP3 (ps:=uI5) (os:=uI6) (p:=fun _=>[InB (0:Int) 4,InB (1:Int) 4,InB (2:Int) 4,InB (3:Int) 4]) (lv:=[(0,[0,1,6,7,8,990001]),(1,[0,1,6,7,8,9,990001]),(2,[0,1,5,6,7,8,990001]),(3,[0,1,6,7,8,990001]),(4,[0,1,6,7,8,990001])]) uV0 mixed Tryz.func63 (fun _ _=>⟨⟨by decide,by decide⟩,⟨by decide,by decide⟩,⟨by decide,by decide⟩,⟨by decide,by decide⟩⟩) (by kernel_rfl) (fun x=>by kernel_rfl)
def tI6 (p2:D52):D52:=
 let s_1:=(p2.1,p2.2.1,p2.2.2.1,p2.2.2.2.1,p2.2.2.2.2.1,p2.2.2.2.2.2.1,p2.2.2.2.2.2.2.1,p2.2.2.2.2.2.2.2.1,p2.2.2.2.2.2.2.2.2.1,p2.2.2.2.2.2.2.2.2.2.1,p2.2.2.2.2.2.2.2.2.2.2.1,p2.2.2.2.2.2.2.2.2.2.2.2.1,p2.2.2.2.2.2.2.2.2.2.2.2.2.1,p2.2.2.2.2.2.2.2.2.2.2.2.2.2.1,p2.2.2.2.2.2.2.2.2.2.2.2.2.2.2.1,p2.2.2.2.2.2.2.2.2.2.2.2.2.2.2.2.1,p2.2.2.2.2.2.2.2.2.2.2.2.2.2.2.2.2.1,p2.2.2.2.2.2.2.2.2.2.2.2.2.2.2.2.2.2.1,p2.2.2.2.2.2.2.2.2.2.2.2.2.2.2.2.2.2.2.1,p2.2.2.2.2.2.2.2.2.2.2.2.2.2.2.2.2.2.2.2.1,p2.2.2.2.2.2.2.2.2.2.2.2.2.2.2.2.2.2.2.2.2.1,p2.2.2.2.2.2.2.2.2.2.2.2.2.2.2.2.2.2.2.2.2.2.1,p2.2.2.2.2.2.2.2.2.2.2.2.2.2.2.2.2.2.2.2.2.2.2.1,p2.2.2.2.2.2.2.2.2.2.2.2.2.2.2.2.2.2.2.2.2.2.2.2.1,(0:Int),(0:Int),(0:Int),((0:Int),(0:Int),(0:Int),p2.2.2.2.2.2.2.2.2.2.2.2.2.2.2.2.2.2.2.2.2.2.2.2.2.2.2.2.1.2.2.2.1,()),())
 s_1
@[reducible] def uF4:List (Nat×Sh):=[(0,.nilp),(1,(.ptrs false [some (990001,T52,[.inl 24]),some (990001,T52,[.inl 25]),some (990001,T52,[.inl 26]),some (990001,T52,[.inl 27,.inl 0]),some (990001,T52,[.inl 27,.inl 1]),some (990001,T52,[.inl 27,.inl 2])])),(990001,(.box T52 (.val T52)))]
@[reducible] def uF5:List (Nat×Sh):=[(1,(.ptrs false [some (990001,T52,[.inl 24]),some (990001,T52,[.inl 25]),some (990001,T52,[.inl 26]),some (990001,T52,[.inl 27,.inl 0]),some (990001,T52,[.inl 27,.inl 1]),some (990001,T52,[.inl 27,.inl 2])])),(990001,(.box T52 (.val T52)))]
noncomputable def uF6:List (Fb Tryz.prog):=[kd vS6]
noncomputable def uS7:Ctx:={ Cx tys (Fb.l uF6) [] [] true 17 [0,1] [] with skip:=true }
theorem uS8:CtxOk Tryz.prog uS7:=wI7 wU5 (by kernel_rfl) (Fb.all uF6) rfl (by kernel_rfl)
theorem uV1:SK 63 (xI2 uF4 (.tup .nl) uF5 (fun _=>True) (fun _=>()) (fun x=>((),tI6 x.2.2.1,()))):=wP3 (ps:=uF4) (os:=uF5) (p:=fun _=>[InB (0:Int) 6,InB (1:Int) 6,InB (2:Int) 6,InB (3:Int) 6,InB (4:Int) 6,InB (5:Int) 6]) (lv:=[(0,[0,1,6,7,8,990001]),(1,[0,1,6,7,8,9,990001]),(2,[0,1,5,6,7,8,990001]),(3,[0,1,6,7,8,990001]),(4,[0,1,6,7,8,990001])]) uS8 mixed Tryz.func63 (fun _ _=>⟨⟨by decide,by decide⟩,⟨by decide,by decide⟩,⟨by decide,by decide⟩,⟨by decide,by decide⟩,⟨by decide,by decide⟩,⟨by decide,by decide⟩⟩) (by kernel_rfl) (fun x=>by kernel_rfl)
def tP2 (p2:D52):D52:=
 let s_2:=(p2.2.2.2.2.2.2.2.2.2.2.2.2.2.2.2.2.2.2.2.2.2.2.2.2.2.2.2.1.1,p2.2.2.2.2.2.2.2.2.2.2.2.2.2.2.2.2.2.2.2.2.2.2.2.2.2.2.2.1.2.1,p2.2.2.2.2.2.2.2.2.2.2.2.2.2.2.2.2.2.2.2.2.2.2.2.2.2.2.2.1.2.2.1,p2.2.2.2.2.2.2.2.2.2.2.2.2.2.2.2.2.2.2.2.2.2.2.2.2.2.2.2.1.2.2.2.1,())
 let s_3:=(p2.1,p2.2.1,p2.2.2.1,p2.2.2.2.1,false,false,false,p2.2.2.2.2.2.2.2.1,p2.2.2.2.2.2.2.2.2.1,(p2.2.2.2.2.2.2.2.2.2.1.1,p2.2.2.2.2.2.2.2.2.2.1.2.1,p2.2.2.2.2.2.2.2.2.2.1.2.2.1,()),p2.2.2.2.2.2.2.2.2.2.2.1,p2.2.2.2.2.2.2.2.2.2.2.2.1,(p2.2.2.2.2.2.2.2.2.2.2.2.2.1.1,p2.2.2.2.2.2.2.2.2.2.2.2.2.1.2.1,p2.2.2.2.2.2.2.2.2.2.2.2.2.1.2.2.1,()),p2.2.2.2.2.2.2.2.2.2.2.2.2.2.1,p2.2.2.2.2.2.2.2.2.2.2.2.2.2.2.1,p2.2.2.2.2.2.2.2.2.2.2.2.2.2.2.2.1,p2.2.2.2.2.2.2.2.2.2.2.2.2.2.2.2.2.1,p2.2.2.2.2.2.2.2.2.2.2.2.2.2.2.2.2.2.1,p2.2.2.2.2.2.2.2.2.2.2.2.2.2.2.2.2.2.2.1,p2.2.2.2.2.2.2.2.2.2.2.2.2.2.2.2.2.2.2.2.1,p2.2.2.2.2.2.2.2.2.2.2.2.2.2.2.2.2.2.2.2.2.1,p2.2.2.2.2.2.2.2.2.2.2.2.2.2.2.2.2.2.2.2.2.2.1,p2.2.2.2.2.2.2.2.2.2.2.2.2.2.2.2.2.2.2.2.2.2.2.1,p2.2.2.2.2.2.2.2.2.2.2.2.2.2.2.2.2.2.2.2.2.2.2.2.1,p2.2.2.2.2.2.2.2.2.2.2.2.2.2.2.2.2.2.2.2.2.2.2.2.2.1,p2.2.2.2.2.2.2.2.2.2.2.2.2.2.2.2.2.2.2.2.2.2.2.2.2.2.1,p2.2.2.2.2.2.2.2.2.2.2.2.2.2.2.2.2.2.2.2.2.2.2.2.2.2.2.1,s_2,())
 s_3
@[reducible] def uI8:List (Nat×Sh):=[(0,.nilp),(1,(.ptrs false [some (990001,T52,[.inl 4]),some (990001,T52,[.inl 5]),some (990001,T52,[.inl 6])])),(990001,(.box T52 (.val T52)))]
@[reducible] def uI9:List (Nat×Sh):=[(1,(.ptrs false [some (990001,T52,[.inl 4]),some (990001,T52,[.inl 5]),some (990001,T52,[.inl 6])])),(990001,(.box T52 (.val T52)))]
noncomputable def uJ:List (Fb Tryz.prog):=[kd uT8,kd uT9]
noncomputable def uV2:Ctx:={ Cx tys (Fb.l uJ) [] [] true 24 [0,1] [] with skip:=true }
theorem uV3:CtxOk Tryz.prog uV2:=wI7 wU5 (by kernel_rfl) (Fb.all uJ) rfl (by kernel_rfl)
theorem tC3:SK 65 (xI2 uI8 (.tup .nl) uI9 (fun _=>True) (fun _=>()) (fun x=>((),tP2 x.2.2.1,()))):=wP3 (ps:=uI8) (os:=uI9) (p:=fun _=>[InB (0:Int) 3,InB (1:Int) 3,InB (2:Int) 3]) (lv:=[(0,[0,1,7,8,9,990001]),(1,[0,1,7,8,9,10,990001]),(2,[0,1,5,7,8,9,990001]),(3,[0,1,5,6,7,8,9,990001]),(4,[0,1,5,6,7,8,9,16,990001]),(5,[0,1,5,6,7,8,9,990001]),(6,[0,1,7,8,9,990001]),(7,[0,1,7,8,9,990001])]) uV3 mixed Tryz.func65 (fun _ _=>⟨⟨by decide,by decide⟩,⟨by decide,by decide⟩,⟨by decide,by decide⟩⟩) (by kernel_rfl) (fun x=>by kernel_rfl)
noncomputable def tI7:List (Fb Tryz.prog):=[kd vW8,kd uT9,kd uU]
noncomputable def tP3:Ctx:={ Cx tys (Fb.l tI7) [] [] true 75 [] [] with skip:=true,closed:=true }
theorem tP4:CtxOk Tryz.prog tP3:=wI7 wU5 (by kernel_rfl) (Fb.all tI7) rfl (by kernel_rfl)
theorem tV8:SK 34 (fnSpec [(0,.nilp),(1,(.fn 35 (.cons (.ptrs true [none]) .nl)))] (.tup (.cons vI (.cons vI (.cons (.val (.sl T45)) .nl)))) [] (fun _=>True) (fun _=>(0,0,([]:List D45),())) (fun _=>())):=wQ0 (lv:=[(0,[0,1,6]),(1,[0,1,4,6]),(2,[0,1,4,5,6]),(3,[0,1,4,5,6,17]),(4,[0,1,4,5,6]),(5,[0,1,4,5,6,30]),(6,[0,1,4,5,6,7]),(7,[0,1,4,5,6,7,8]),(8,[0,1,4,5,6,7,8,54]),(9,[0,1,4,5,6,7,8]),(10,[0,1,4,5,6,7,8,59]),(11,[0,1,4,5,6,8,61,62]),(12,[0,1,4,5,6,8,61,62,63]),(13,[0,1,4,5,6,8,61,62]),(14,[0,1,4,5,6,8,61,62]),(15,[4,5,6,71]),(16,[4,5,6]),(17,[4,5,6])]) tP4 mixed Tryz.func34 (p:=[]) trivial (by kernel_rfl) (fun x=>by kernel_rfl)
noncomputable def tI8:List (Fb Tryz.prog):=[kd tV8]
noncomputable def tP5:Ctx:={ Cx tys (Fb.l tI8) [] [] true 17 [] [] with skip:=true,closed:=true }
theorem tP6:CtxOk Tryz.prog tP5:=wI7 wU5 (by kernel_rfl) (Fb.all tI8) rfl (by kernel_rfl)
theorem tI9:SK 12 (fnSpec [(0,.nilp)] (.val T23) [] (fun _=>True) (fun _=>(0,0,([]:List D45),())) (fun _=>())):=wQ0 (lv:=[(0,[1,2]),(1,[2,3,4,5]),(2,[2])]) tP6 mixed Tryz.func12 (p:=[]) trivial (by kernel_rfl) (fun x=>by kernel_rfl)
noncomputable def tJ:List (Fb Tryz.prog):=[kd vW8,kd uT9,kd uU]
noncomputable def tP7:Ctx:={ Cx tys (Fb.l tJ) [] [] true 75 [] [] with skip:=true,closed:=true }
theorem tP8:CtxOk Tryz.prog tP7:=wI7 wU5 (by kernel_rfl) (Fb.all tJ) rfl (by kernel_rfl)
theorem tV9:SK 41 (fnSpec [(0,.nilp),(1,(.fn 42 (.cons (.ptrs true [none]) .nl)))] (.tup (.cons vI (.cons vI (.cons (.val (.sl (.int .i64))) .nl)))) [] (fun _=>True) (fun _=>(0,0,([]:List Int),())) (fun _=>())):=wQ0 (lv:=[(0,[0,1,6]),(1,[0,1,4,6]),(2,[0,1,4,5,6]),(3,[0,1,4,5,6,17]),(4,[0,1,4,5,6]),(5,[0,1,4,5,6,30]),(6,[0,1,4,5,6,7]),(7,[0,1,4,5,6,7,8]),(8,[0,1,4,5,6,7,8,54]),(9,[0,1,4,5,6,7,8]),(10,[0,1,4,5,6,7,8,59]),(11,[0,1,4,5,6,8,61,62]),(12,[0,1,4,5,6,8,61,62,63]),(13,[0,1,4,5,6,8,61,62]),(14,[0,1,4,5,6,8,61,62]),(15,[4,5,6,71]),(16,[4,5,6]),(17,[4,5,6])]) tP8 mixed Tryz.func41 (p:=[]) trivial (by kernel_rfl) (fun x=>by kernel_rfl)
noncomputable def tJ0:List (Fb Tryz.prog):=[kd tV9]
noncomputable def tP9:Ctx:={ Cx tys (Fb.l tJ0) [] [] true 17 [] [] with skip:=true,closed:=true }
theorem tQ:CtxOk Tryz.prog tP9:=wI7 wU5 (by kernel_rfl) (Fb.all tJ0) rfl (by kernel_rfl)
theorem tJ1:SK 14 (fnSpec [(0,.nilp)] (.val T26) [] (fun _=>True) (fun _=>(0,0,([]:List Int),())) (fun _=>())):=wQ0 (lv:=[(0,[1,2]),(1,[2,3,4,5]),(2,[2])]) tQ mixed Tryz.func14 (p:=[]) trivial (by kernel_rfl) (fun x=>by kernel_rfl)
def zN:D52:=Ty.dflt T52
noncomputable def tJ2:List (Fb Tryz.prog):=[kd vW8]
noncomputable def tQ0:Ctx:={ Cx tys (Fb.l tJ2) [] [] true 68 [1] [] with skip:=true }
theorem tQ1:CtxOk Tryz.prog tQ0:=wI7 wU5 (by kernel_rfl) (Fb.all tJ2) rfl (by kernel_rfl)
theorem tW:SK 67 (fnSpec [(0,.nilp),(1,(.box T52 (.val T52)))] (.tup .nl) [(1,(.box T52 (.val T52)))] (fun _=>True) (fun _=>()) (fun x=>(x.2.1,()))):=wQ0 (ps:=[(0,.nilp),(1,(.box T52 (.val T52)))]) (os:=[(1,(.box T52 (.val T52)))]) (lv:=[(0,[0,1,8,9]),(1,[0,1,8,9,10]),(2,[0,1,4,8,9]),(3,[0,1,4,8,9]),(4,[0,1,8,9]),(5,[0,1,8,9]),(6,[0,1,35,36]),(7,[0,1,35,36,37]),(8,[0,1,5,35,36]),(9,[0,1,5,35,36]),(10,[0,1,5,35,36,42]),(11,[0,1,5,35,36,42,43]),(12,[0,1,5,6,35,36,42]),(13,[0,1,5,35,36,42]),(14,[0,1,5,35,36,42]),(15,[0,1,35,36]),(16,[0,1,35,36])]) tQ1 mixed Tryz.func67 (p:=[]) trivial (by kernel_rfl) (fun x=>by kernel_rfl)
@[reducible] noncomputable def hA2:DecidablePred (fun x:zB5 uC5=>uC4 x.1 x.2.1 x.2.2.1):=fun x=>(fun p0 p1 p2=>(inferInstance:Decidable (uC4 p0 p1 p2))) x.1 x.2.1 x.2.2.1
@[reducible] noncomputable def hA3:DecidablePred (fun x:zB5 uD0=>uD x.1 x.2.1 x.2.2.1):=fun x=>(fun p0 p1 p2=>(inferInstance:Decidable (uD p0 p1 p2))) x.1 x.2.1 x.2.2.1
@[reducible] noncomputable def hA4:DecidablePred (fun x:zB5 uD3=>uD2 x.1 x.2.1 x.2.2.1):=fun x=>(fun p0 p1 p2=>(inferInstance:Decidable (uD2 p0 p1 p2))) x.1 x.2.1 x.2.2.1
@[reducible] noncomputable def hA5:DecidablePred (fun x:zB5 uD6=>uD5 x.1 x.2.1 x.2.2.1):=fun x=>(fun p0 p1 p2=>(inferInstance:Decidable (uD5 p0 p1 p2))) x.1 x.2.1 x.2.2.1
@[reducible] noncomputable def hA6:DecidablePred (fun x:zB5 uD9=>uD8 x.1 x.2.1 x.2.2.1):=fun x=>(fun p0 p1 p2=>(inferInstance:Decidable (uD8 p0 p1 p2))) x.1 x.2.1 x.2.2.1
@[reducible] noncomputable def hA7:DecidablePred (fun x:zB5 uE8=>uE7 x.1 x.2.1 x.2.2.1):=fun x=>(fun p0 p1 p2=>(inferInstance:Decidable (uE7 p0 p1 p2))) x.1 x.2.1 x.2.2.1
@[reducible] noncomputable def hA1:DecidablePred (fun x:zB5 vW2=>vW1 x.1 x.2.1 x.2.2.1):=fun x=>(fun p0 p1 p2=>(inferInstance:Decidable (vW1 p0 p1 p2))) x.1 x.2.1 x.2.2.1
@[reducible] noncomputable def hA8:DecidablePred (fun x:zB5 uC8=>uC7 x.1 x.2.1 x.2.2.1):=fun x=>(fun p0 p1 p2=>(inferInstance:Decidable (uC7 p0 p1 p2))) x.1 x.2.1 x.2.2.1
noncomputable def tJ3:List (Fb Tryz.prog):=[kh tB8,kh tB9,kh tC,kh tC0,kh tC1,kh tC2,kh uV1,kh tC3,kd tV6,kd tV7,kd vW8,kd uU,kd tI9,kd tJ1,kd tW]
noncomputable def tQ2:Ctx:={ Cx tys (Fb.l tJ3) [] [] true 113 [] [] with skip:=true,closed:=true,wants:=[(63,[]),(65,[]),(67,[])] }
theorem tQ3:CtxOk Tryz.prog tQ2:=wI7 wU5 (by kernel_rfl) (Fb.all tJ3) rfl (by kernel_rfl)
theorem tW0:SK 22 (fnSpec [(0,.nilp)] (.val T52) [] (fun _=>True) (fun _=>zN) (fun _=>())):=wQ0 (lv:=[(0,[0,2]),(1,[0,2,3]),(2,[0,2,3]),(3,[0,2,3]),(4,[0,2,3]),(5,[0,2,3]),(6,[0,2,3]),(7,[0,2,3]),(8,[0,2,3]),(9,[0,2,3]),(10,[0,2,3]),(11,[0,2,3]),(12,[0,2,3]),(13,[0,2,3]),(14,[0,2,3]),(15,[0,2,3]),(16,[0,2,3,91,92]),(17,[0,2,3,91,92,93]),(18,[0,2,3,4,91,92]),(19,[0,2,3,4,91,92]),(20,[0,2,3,91,92]),(21,[0,2,3,91,92]),(22,[2,3,110]),(23,[2]),(24,[2])]) tQ3 mixed Tryz.func22 (p:=[]) trivial (by kernel_rfl) (fun x=>by kernel_rfl)
def zR:D60:=(false,([]:List UInt8),(0:Int),(0:Int),())
noncomputable def tJ4:List (Fb Tryz.prog):=[khd hA2 tF4,khd hA3 tF6,khd hA4 tF7,khd hA5 tF8,khd hA6 tF9,khd hA7 tG3,khd hA1 tB7,khd hA8 tF5,kd uN7,kd tF3,kd vB2,kd vN,kd uB8,kd uC1,kd tG2]
noncomputable def tQ4:Ctx:={ Cx tys (Fb.l tJ4) [] [] true 113 [0] [] with skip:=true,closed:=true,wants:=[(12,[]),(14,[]),(36,[]),(44,[]),(63,[]),(64,[]),(65,[]),(66,[]),(67,[])] }
theorem tQ5:CtxOk Tryz.prog tQ4:=wI7 wU5 (by kernel_rfl) (Fb.all tJ4) rfl (by kernel_rfl)
theorem tW1:SK 22 (fnSpec [(0,(.box T60 (.val T60)))] (.val T52) [(0,(.box T60 (.val T60)))] (fun x=>x=(zR,())) (fun _=>zN) (fun _=>(zR,()))):=wQ1 (ps:=[(0,(.box T60 (.val T60)))]) (os:=[(0,(.box T60 (.val T60)))]) (lv:=[(0,[0,2]),(1,[0,2,3]),(2,[0,2,3]),(3,[0,2,3]),(4,[0,2,3]),(5,[0,2,3]),(6,[0,2,3]),(7,[0,2,3]),(8,[0,2,3]),(9,[0,2,3]),(10,[0,2,3]),(11,[0,2,3]),(12,[0,2,3]),(13,[0,2,3]),(14,[0,2,3]),(15,[0,2,3]),(16,[0,2,3,91,92]),(17,[0,2,3,91,92,93]),(18,[0,2,3,4,91,92]),(19,[0,2,3,4,91,92]),(20,[0,2,3,91,92]),(21,[0,2,3,91,92]),(22,[0,2,3,110]),(23,[0,2]),(24,[0,2])]) tQ5 mixed Tryz.func22 (zR,()) (p:=[]) trivial (by kernel_rfl) (by kernel_rfl)
def kN (p0:Int):D52:=(0,p0,zN.2.2)
def f5t (p0:Int):Prop×Bool:=(yW [((0:Int)≤0∧(0:Int)<2),(true=true→((0:Int)≤0∧(0:Int)<2)),(true=true→((0:Int)≤0∧(0:Int)<2)),((0:Int)≤1∧(1:Int)<2),(true=true→((0:Int)≤1∧(1:Int)<2)),(true=true→((0:Int)≤1∧(1:Int)<2)),(vX7 (kN p0)),(vX9 (kN p0))],(bif ((f20 (kN p0))==(f21 (kN p0))) then f19 else false))
def f5_ok p0:=(f5t p0).1
def f5 p0:=(f5t p0).2
def tW2:Am.Spec:=sp1 vI vB f5_ok f5
noncomputable def tW3:List (Fb Tryz.prog):=[kd tI9,kd tJ1,kd tW0,kd uB8,kd uC1,kd tW1,kd tS,kd tS1,kd sC,kd sC0,kb tZ4,kb sA1]
noncomputable def tS5:Ctx:={ Cx tys (Fb.l tW3) [] [] true 52 [] [] with skip:=true,wants:=[(12,[]),(14,[]),(22,[])] }
theorem sC1:CtxOk Tryz.prog tS5:=wI7 wU5 (by kernel_rfl) (Fb.all tW3) rfl (by kernel_rfl)
theorem tW4:CtxOk Tryz.prog { tS5 with skip:=false }:=wI7 wU5 (by kernel_rfl) (Fb.all tW3) rfl (by kernel_rfl)
theorem f5_is:SK 5 tW2:=wQ2 (ps:=[(0,vI)]) (os:=[]) (rs:=vB) (ok:=fun x=>f5_ok x.1) (F:=fun x=>f5 x.1) (o:=fun _=>()) (n:=3) (lv:=[(0,[0]),(1,[0,3]),(2,[0,3,4]),(3,[0,3,4,11]),(4,[0,3,4]),(5,[0,3,4,41]),(6,[2]),(7,[2])]) sC1 tW4 mixed rfl rfl Tryz.func5 (by kernel_rfl) (fun x=>by kernel_rfl)
end Go.Proofs.YtbiemgjkkhkdeaaGreatDoor.Am
