/- Plain laws of documents and patches: equality of documents; what Apply zU0. Condition: the value a Go value can be. -/
import Derived.Test.YtpanghcojpnkaaaGreatDoorDocY
namespace Go.Proofs.YtpanghcojpnkaaaGreatDoor.Am
open Go Go.Am
theorem rM1 {d:D28}(h:Ty.wf T28 d):WfN d.2.2.2.1:=h.2.2.2.1
theorem pB8 {d:D28}(h:Ty.wf T28 d):Ty.wf (.sl T90) d.2.2.2.2.2.2.2.1:=h.2.2.2.2.2.2.2.1
theorem oF4 {d:D28}(h:Ty.wf T28 d):Ty.wf (.sl T87) d.2.2.2.2.2.2.1:=h.2.2.2.2.2.2.1
theorem oF5 {d:D28}(h:Ty.wf T28 d):len d.2.2.2.2.2.1.2.2.1<9223372036854775808:=vI5 h.2.2.2.2.2.1.2.2.1.1
theorem oF6 {d:D28}(h:Ty.wf T28 d):qL2 d:=by
 refine⟨⟨vI5 (rM1 h).1,fun n hn=>pI5 ((rM1 h).2 n hn)⟩,oF5 h,fun m hm=>?_,fun m hm=>?_⟩
 ·have:=(oF4 h).2 m hm
  exact⟨vI5 this.1,vI5 this.2.1⟩
 ·have:=(pB8 h).2 m hm
  exact vI5 this.2.2.2.2.1.2.2.1.1
end Go.Proofs.YtpanghcojpnkaaaGreatDoor.Am
