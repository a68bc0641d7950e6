/- Printed by program, part 4. No condition. -/
import Derived.Test.YtmmpcldfjocfmaaGreatDoorDckP4
import Derived.Test.YtmmpcldfjocfmaaGreatDoorMach4
set_option linter.unusedVariables false
set_option synthInstance.maxSize 4000
set_option synthInstance.maxHeartbeats 400000
namespace Go.Proofs.YtmmpcldfjocfmaaGreatDoor.Am
open Go Go.Am Go.Proofs
def rE4:Prop:=True
def f17:Bool:=true
noncomputable def kd {n:Nat}{ps:List (Nat×Sh)}{rs:Sh}{os:List (Nat×Sh)}{ok:zB3 ps→Prop}[DecidablePred ok]{F:zB3 ps→rs.den}{o:zB3 ps→zT8 os}(h:SpecOk Tryz.prog n (fnSpec ps rs os ok F o)):Fb Tryz.prog:=⟨n,xV5 ps rs os ok F o,wK8 h⟩
noncomputable def rE5:List (Fb Tryz.prog):=[kd sI4,kd sJ,kd sJ1,kd qE3,kd sI6,kd sI8,kd tX5,kd rE2,kd rE3,kd sU7,kd sW3,kd tX6,kd qE6,kd qE7,kd qE8]
noncomputable def sX1:Ctx:={ Cx tys (Fb.l rE5) [] [(3,[(4,0,13,90405600)]),(8,[(8,1,0,0),(7,900056,0,0)]),(33,[(4,0,143,1008)]),(35,[(4,0,148,1009)])] false 203 [] [] with wants:=[(4,[]),(5,[]),(6,[]),(8,[]),(9,[]),(10,[]),(16,[]),(34,[])],closed:=true }
theorem rW5:CtxOk Tryz.prog sX1:=wJ wQ3 (by kernel_rfl) (Fb.all rE5) rfl (by kernel_rfl) rfl
def qF0:List (Nat×List Nat):=[(0,[]),(1,[1,2]),(2,[1,21]),(3,[0]),(4,[1,2,3]),(5,[1,2,3,4,5]),(6,[1,47]),(7,[0]),(8,[1,75]),(9,[0]),(10,[1,2,6]),(11,[1,2,5,6,7]),(12,[1,110]),(13,[0]),(14,[1,140]),(15,[0]),(16,[1,2,8]),(17,[1,2,5,8,9]),(18,[1,175]),(19,[0]),(20,[1,2,10]),(21,[1,2,5,10]),(22,[0])]
theorem rW6:wK6 sX1 qF0 Tryz.f17 vB=some ([(false=false),(true=true)],f17):=by kernel_rfl
theorem qF1:SK 17 (fnSpec [] vB [] (fun x=>rE4 ) (fun x=>f17 ) (fun _=>())):=wH8 rW5 mixed Tryz.func17 (by kernel_rfl) rW6 ⟨rfl,rfl⟩
def tR6 (p0:List D61):Prop×(List D61)×((List D61)×Unit):=
 ((0<List.length p0∧((!false)=true→((List.length ([]:List D61)+List.length p0:Nat):Int)≤4294967296)),(bif false then [] else (([]:List D61)++p0)),(p0,()))
def uJ0 p0:=(tR6 p0).1
def rE6 p0:=(tR6 p0).2.1
def sJ2 p0:=(tR6 p0).2.2
instance (p0):Decidable (uJ0 p0):=by unfold uJ0 tR6;dsimp only;infer_instance
theorem sX2:SK 27 (fnSpec [(0,(.own T61 400000 true))] (.own T61 0 true) [(0,(.own T61 400000 true))] (fun x=>uJ0 x.1) (fun x=>rE6 x.1) (fun x=>sJ2 x.1)):=fb Tryz.func27 8 [] [] [(7,[(4,0,7,0)])] false [0] [5,7]
def tR7 (p0:((List D61)×Int×Int×Int×Unit)):Prop×Bool×(((List D61)×Int×Int×Int×Unit)×(Bool×((List D61)×Int×Int×Int×Unit))×Unit):=
 let s:=(p0.1,p0.2.1,p0.2.2.1,p0.2.2.2.1,())
 let v6:=(!(f18 s))
 (((vA8 s)∧((!v6)=true→((uJ0 p0.1)∧(0<List.length p0.1∧(List.length p0.1=List.length p0.1∧(List.length p0.1=List.length p0.1∧(List.length p0.1=List.length p0.1∧List.length p0.1=List.length p0.1))))))),v6,(((bif v6 then p0.1 else (sJ2 p0.1).1),(bif v6 then p0.2.1 else p0.2.1),(bif v6 then p0.2.2.1 else p0.2.2.1),(bif v6 then p0.2.2.2.1 else p0.2.2.2.1),()),((!v6),((rE6 p0.1),p0.2.1,p0.2.2.1,p0.2.2.2.1,())),()))
def uJ1 p0:=(tR7 p0).1
def rE7 p0:=(tR7 p0).2.1
def sJ3 p0:=(tR7 p0).2.2
instance (p0):Decidable (uJ1 p0):=by unfold uJ1 tR7;dsimp only;infer_instance
theorem sX3:SK 14 (fnSpec [(0,(.box T34 (.agg (.cons (.sl T61) (.cons (.int .i64) (.cons (.int .i64) (.cons (.int .i64) .nl)))) (.cons (.own T61 400000 true) (.cons vI (.cons vI (.cons vI .nl)))))))] (.pn 900000 T34) [(0,(.box T34 (.agg (.cons (.sl T61) (.cons (.int .i64) (.cons (.int .i64) (.cons (.int .i64) .nl)))) (.cons (.own T61 400000 true) (.cons vI (.cons vI (.cons vI .nl))))))),(900000,(.may T34 (.agg (.cons (.sl T61) (.cons (.int .i64) (.cons (.int .i64) (.cons (.int .i64) .nl)))) (.cons (.own T61 0 true) (.cons vI (.cons vI (.cons vI .nl)))))))] (fun x=>uJ1 x.1) (fun x=>rE7 x.1) (fun x=>sJ3 x.1)):=fx (fun c=>{ c with wants:=[(27,[0])] }) Tryz.func14 16 [kb vL5,kb sX2] [] [(7,[(4,0,400000,400300)]),(9,[(4,0,400300,400000),(4,0,14,400300)]),(11,[(6,3,0,900000),(4,0,400300,0)])] false [0,900000]
end Go.Proofs.YtmmpcldfjocfmaaGreatDoor.Am
