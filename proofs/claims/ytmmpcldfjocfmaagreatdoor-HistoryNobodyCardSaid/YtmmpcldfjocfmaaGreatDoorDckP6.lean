/- Printed by program, part 4. No condition. -/
import Derived.Test.YtmmpcldfjocfmaaGreatDoorDckP5
import Derived.Test.YtmmpcldfjocfmaaGreatDoorMach5
set_option linter.unusedVariables false
set_option synthInstance.maxSize 4000
set_option synthInstance.maxHeartbeats 400000
namespace Go.Proofs.YtmmpcldfjocfmaaGreatDoor.Am
open Go Go.Am Go.Proofs
instance:Decidable rE4:=isTrue trivial
noncomputable def sX4:List (Fb Tryz.prog):=[]
noncomputable def rA1:Ctx:={ Cx tys (Fb.l sX4) [] [] false 13 [] [] with skip:=true }
theorem rA2:CtxOk Tryz.prog rA1:=wJ wQ3 (by kernel_rfl) (Fb.all sX4) rfl (by kernel_rfl) rfl
theorem vA6:SK 18 (fnSpec [(0,.nilp)] vB [] (fun _=>True) (fun _=>false) (fun _=>())):=wJ0 (lv:=[(0,[0]),(1,[2])]) rA2 mixed Tryz.func18 (p:=[]) trivial (by kernel_rfl) (fun x=>by kernel_rfl)
noncomputable def rE8:List (Fb Tryz.prog):=[kd vA6]
noncomputable def rW7:Ctx:={ Cx tys (Fb.l rE8) [] [] false 39 [] [] with skip:=true }
theorem rW8:CtxOk Tryz.prog rW7:=wJ wQ3 (by kernel_rfl) (Fb.all rE8) rfl (by kernel_rfl) rfl
theorem qF2:SK 4 (fnSpec [(0,.nilp),(1,vS),(2,(.val T28))] (.tup (.cons vI (.cons vI .nl))) [] (fun _=>True) (fun _=>((0:Int),(14:Int),())) (fun _=>())):=wJ0 (lv:=[(0,[0,1,5]),(1,[0,1,5,11]),(2,[6,7]),(3,[0,1,5,14]),(4,[6,7]),(5,[0,1,5,8]),(6,[0,1,5,8,18]),(7,[6,7]),(8,[0,1,5,25]),(9,[6,7]),(10,[0,1,5,30]),(11,[6,7]),(12,[0]),(13,[6,7])]) rW8 mixed Tryz.func4 (p:=[]) trivial (by kernel_rfl) (fun x=>by kernel_rfl)
noncomputable def rE9:List (Fb Tryz.prog):=[kd vA6]
noncomputable def rW9:Ctx:={ Cx tys (Fb.l rE9) [] [] false 31 [] [] with skip:=true }
theorem rX:CtxOk Tryz.prog rW9:=wJ wQ3 (by kernel_rfl) (Fb.all rE9) rfl (by kernel_rfl) rfl
theorem qF3:SK 5 (fnSpec [(0,.nilp),(1,vI)] (.tup (.cons (.val T30) (.cons vI .nl))) [] (fun _=>True) (fun _=>((Ty.dflt T30),(14:Int),())) (fun _=>())):=wJ0 (lv:=[(0,[0,1,4]),(1,[0,1,4,10]),(2,[4,5]),(3,[0,4,6]),(4,[0,4,6,16]),(5,[4,5]),(6,[4,7]),(7,[4,7]),(8,[4,5])]) rX mixed Tryz.func5 (p:=[]) trivial (by kernel_rfl) (fun x=>by kernel_rfl)
noncomputable def rF:List (Fb Tryz.prog):=[kd vA6]
noncomputable def rX0:Ctx:={ Cx tys (Fb.l rF) [] [] false 77 [] [] with skip:=true }
theorem rX1:CtxOk Tryz.prog rX0:=wJ wQ3 (by kernel_rfl) (Fb.all rF) rfl (by kernel_rfl) rfl
theorem qF4:SK 6 (fnSpec [(0,.nilp),(1,vI)] (.tup (.cons (.val (.sl (.int .i64))) (.cons vI .nl))) [] (fun _=>True) (fun _=>((Ty.dflt (.sl (.int .i64))),(14:Int),())) (fun _=>())):=wJ0 (lv:=[(0,[0,1]),(1,[0,1,12]),(2,[4,5]),(3,[0,1,14]),(4,[4,5]),(5,[0,1,6]),(6,[0,1,6,21]),(7,[0,1,6,7]),(8,[0,1,6,7,8]),(9,[0,1,6,8]),(10,[0,1,6,8,48,49]),(11,[0,1,6,8,48,49,50]),(12,[0,1,6,8,9,48,49]),(13,[0,1,6,8,9,48,49,62]),(14,[0,1,6,8,48,49]),(15,[0,1,6,8,48,49]),(16,[0,1,6]),(17,[4,5])]) rX1 mixed Tryz.func6 (p:=[]) trivial (by kernel_rfl) (fun x=>by kernel_rfl)
noncomputable def rF0:List (Fb Tryz.prog):=[kd vA6]
noncomputable def rX2:Ctx:={ Cx tys (Fb.l rF0) [] [] false 26 [] [] with skip:=true }
theorem rX3:CtxOk Tryz.prog rX2:=wJ wQ3 (by kernel_rfl) (Fb.all rF0) rfl (by kernel_rfl) rfl
theorem qF5:SK 8 (fnSpec [(0,.nilp)] vI [] (fun _=>True) (fun _=>(14:Int)) (fun _=>())):=wJ0 (lv:=[(0,[0]),(1,[0,6]),(2,[2]),(3,[0,3]),(4,[0,3,22]),(5,[2]),(6,[]),(7,[2])]) rX3 mixed Tryz.func8 (p:=[]) trivial (by kernel_rfl) (fun x=>by kernel_rfl)
noncomputable def rF1:List (Fb Tryz.prog):=[kd vA6]
noncomputable def rX4:Ctx:={ Cx tys (Fb.l rF1) [] [] false 44 [] [] with skip:=true }
theorem rX5:CtxOk Tryz.prog rX4:=wJ wQ3 (by kernel_rfl) (Fb.all rF1) rfl (by kernel_rfl) rfl
theorem qF6:SK 9 (fnSpec [(0,.nilp)] vI [] (fun _=>True) (fun _=>(14:Int)) (fun _=>())):=wJ0 (lv:=[(0,[0]),(1,[0,9]),(2,[2]),(3,[0,3,4]),(4,[0,3,4,13,14,15]),(5,[0,3,4,13,14,15,16]),(6,[0,3,4,6,13,14,15]),(7,[0,3,4,6,13,14,15,32]),(8,[0,3,4,13,14,15]),(9,[0,3,4,13,14,15]),(10,[0,3,40]),(11,[2]),(12,[]),(13,[2])]) rX5 mixed Tryz.func9 (p:=[]) trivial (by kernel_rfl) (fun x=>by kernel_rfl)
noncomputable def sX5:List (Fb Tryz.prog):=[kd vA6]
noncomputable def rA3:Ctx:={ Cx tys (Fb.l sX5) [] [] false 15 [] [] with skip:=true }
theorem rA4:CtxOk Tryz.prog rA3:=wJ wQ3 (by kernel_rfl) (Fb.all sX5) rfl (by kernel_rfl) rfl
theorem rX6:SK 10 (fnSpec [(0,.nilp),(1,vI)] vI [] (fun _=>True) (fun _=>(14:Int)) (fun _=>())):=wJ0 (lv:=[(0,[0,1]),(1,[0,1,7]),(2,[4]),(3,[0,1,11]),(4,[4]),(5,[]),(6,[4])]) rA4 mixed Tryz.func10 (p:=[]) trivial (by kernel_rfl) (fun x=>by kernel_rfl)
noncomputable def sX6:List (Fb Tryz.prog):=[kd vA6]
noncomputable def rA5:Ctx:={ Cx tys (Fb.l sX6) [] [] false 10 [] [] with skip:=true }
theorem rA6:CtxOk Tryz.prog rA5:=wJ wQ3 (by kernel_rfl) (Fb.all sX6) rfl (by kernel_rfl) rfl
theorem rX7:SK 11 (fnSpec [(0,.nilp)] vI [] (fun _=>True) (fun _=>(0:Int)) (fun _=>())):=wJ0 (lv:=[(0,[0]),(1,[0,5]),(2,[2]),(3,[2])]) rA6 mixed Tryz.func11 (p:=[]) trivial (by kernel_rfl) (fun x=>by kernel_rfl)
noncomputable def sX7:List (Fb Tryz.prog):=[kd vA6]
noncomputable def rA7:Ctx:={ Cx tys (Fb.l sX7) [] [] false 26 [] [] with skip:=true }
theorem rA8:CtxOk Tryz.prog rA7:=wJ wQ3 (by kernel_rfl) (Fb.all sX7) rfl (by kernel_rfl) rfl
theorem rX8:SK 12 (fnSpec [(0,.nilp)] (.val (.sl (.int .i64))) [] (fun _=>True) (fun _=>(Ty.dflt (.sl (.int .i64)))) (fun _=>())):=wJ0 (lv:=[(0,[0]),(1,[0,8]),(2,[2]),(3,[0,3]),(4,[3,12,13,14]),(5,[3,12,13,14,15]),(6,[3,5,12,13,14]),(7,[3,12,13,14]),(8,[3,12,13,14]),(9,[2])]) rA8 mixed Tryz.func12 (p:=[]) trivial (by kernel_rfl) (fun x=>by kernel_rfl)
noncomputable def sX8:List (Fb Tryz.prog):=[kd vA6]
noncomputable def rA9:Ctx:={ Cx tys (Fb.l sX8) [] [] false 39 [] [] with skip:=true }
theorem rB:CtxOk Tryz.prog rA9:=wJ wQ3 (by kernel_rfl) (Fb.all sX8) rfl (by kernel_rfl) rfl
theorem rX9:SK 13 (fnSpec [(0,.nilp),(1,vI)] (.val (.sl (.int .i64))) [] (fun _=>True) (fun _=>(Ty.dflt (.sl (.int .i64)))) (fun _=>())):=wJ0 (lv:=[(0,[0,1]),(1,[0,1,16]),(2,[4]),(3,[0,1,5]),(4,[1,5,20,21,22]),(5,[1,5,20,21,22,23]),(6,[1,5,7,20,21,22]),(7,[1,5,7,20,21,22,30]),(8,[1,5,20,21,22]),(9,[1,5,20,21,22]),(10,[4])]) rB mixed Tryz.func13 (p:=[]) trivial (by kernel_rfl) (fun x=>by kernel_rfl)
noncomputable def sX9:List (Fb Tryz.prog):=[kd vA6]
noncomputable def rB0:Ctx:={ Cx tys (Fb.l sX9) [] [] false 16 [] [] with skip:=true }
theorem rB1:CtxOk Tryz.prog rB0:=wJ wQ3 (by kernel_rfl) (Fb.all sX9) rfl (by kernel_rfl) rfl
theorem rY:SK 14 (fnSpec [(0,.nilp)] .nilp [] (fun _=>True) (fun _=>()) (fun _=>())):=wJ0 (lv:=[(0,[0]),(1,[0,6]),(2,[2]),(3,[0,3]),(4,[3]),(5,[2])]) rB1 mixed Tryz.func14 (p:=[]) trivial (by kernel_rfl) (fun x=>by kernel_rfl)
noncomputable def sY:List (Fb Tryz.prog):=[kd vA6]
noncomputable def rB2:Ctx:={ Cx tys (Fb.l sY) [] [] false 22 [] [] with skip:=true }
theorem rB3:CtxOk Tryz.prog rB2:=wJ wQ3 (by kernel_rfl) (Fb.all sY) rfl (by kernel_rfl) rfl
theorem rY0:SK 16 (fnSpec [(0,.nilp)] (.val T28) [] (fun _=>True) (fun _=>(Ty.dflt T28)) (fun _=>())):=wJ0 (lv:=[(0,[0,2]),(1,[0,2,5]),(2,[2]),(3,[2])]) rB3 mixed Tryz.func16 (p:=[]) trivial (by kernel_rfl) (fun x=>by kernel_rfl)
theorem rY1:SK 14 (fnSpec [(0,(.box T34 (.agg (.cons (.sl T61) (.cons (.int .i64) (.cons (.int .i64) (.cons (.int .i64) .nl)))) (.cons (.own T61 400000 true) (.cons vI (.cons vI (.cons vI .nl)))))))] .nilp [(0,(.box T34 (.agg (.cons (.sl T61) (.cons (.int .i64) (.cons (.int .i64) (.cons (.int .i64) .nl)))) (.cons (.own T61 400000 true) (.cons vI (.cons vI (.cons vI .nl)))))))] (fun x=>uJ1 x.1∧rE7 x.1=true) (fun _=>()) (fun x=>((sJ3 x.1).1,()))):=wH9 sX3 (fun _=>rfl) (fun _=>rfl)
def f3_ok (_:D30):Prop:=True
def f3 (_:D30):Bool:=true
noncomputable def qF7:List (Fb Tryz.prog):=[kd qF2,kd sI4,kd qF3,kd sJ,kd qF4,kd sJ1,kd qF5,kd sI6,kd qF6,kd sI8,kd rX6,kd tX5,kd rX7,kd rE2,kd rX8,kd rE3,kd rX9,kd sU7,kd rY,kd rY1,kd rY0,kd tX6,kd qE3,kd sW3,kd qF1]
noncomputable def qF8:Ctx:={ Cx tys (Fb.l qF7) [] [] true 115 [] [] with wants:=[(4,[]),(5,[]),(6,[]),(8,[]),(9,[]),(10,[]),(16,[]),(14,[])],skip:=true }
theorem qF9:CtxOk Tryz.prog qF8:=wJ wQ3 (by kernel_rfl) (Fb.all qF7) rfl (by kernel_rfl) rfl
def rY2:Am.Spec:=sp1 (.val T30) vB f3_ok f3
theorem f3_is:SK 3 rY2:=wJ0 (ps:=[(0,(.val T30))]) (os:=[]) (rs:=vB) (F:=fun _=>true) (o:=fun _=>()) (lv:=[(0,[1]),(1,[1,13,14,15]),(2,[1,13,14,15,16]),(3,[1,4,13,14,15]),(4,[1,4,5,6,13,14,15]),(5,[1,4,5,6,7,8,13,14,15]),(6,[1,4,5,6,7,8,9,10,13,14,15]),(7,[1,4,13,14,15,66]),(8,[2]),(9,[1,13,14,15,112]),(10,[2]),(11,[1,13,14,15]),(12,[2])]) qF9 mixed Tryz.func3 (p:=[((0:Int)≤0∧(0:Int)<2),((0:Int)≤1∧(1:Int)<2)]) ⟨⟨by decide,by decide⟩,by decide,by decide⟩ (by kernel_rfl) (fun x=>by kernel_rfl)
theorem historyNobody_law:∀ x,wfL 0 [T30] x→f3_ok x.1∧f3 x.1=true:=fun _ _=>⟨trivial,rfl⟩
end Go.Proofs.YtmmpcldfjocfmaaGreatDoor.Am
