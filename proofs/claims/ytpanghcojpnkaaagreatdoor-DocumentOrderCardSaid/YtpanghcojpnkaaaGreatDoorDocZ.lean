/- Plain laws of documents and patches: equality of documents; what Apply zU0. Condition: the value a Go value can be. -/
import Derived.Test.YtpanghcojpnkaaaGreatDoorDocY
namespace Go.Proofs.YtpanghcojpnkaaaGreatDoor.Am
open Go Go.Am
theorem nodes_wf {d:D28} (h:Ty.wf T28 d):WfN d.2.2.2.1:=h.2.2.2.1
theorem links_wf {d:D28} (h:Ty.wf T28 d):Ty.wf (.sl T90) d.2.2.2.2.2.2.2.1:=h.2.2.2.2.2.2.2.1
theorem meta_wf {d:D28} (h:Ty.wf T28 d):Ty.wf (.sl T87) d.2.2.2.2.2.2.1:=h.2.2.2.2.2.2.1
theorem sel_fit {d:D28} (h:Ty.wf T28 d):len d.2.2.2.2.2.1.2.2.1 < 9223372036854775808:=len_lt h.2.2.2.2.2.1.2.2.1.1
theorem doc_fit {d:D28} (h:Ty.wf T28 d):DocFit d:=by
 refine ⟨⟨len_lt (nodes_wf h).1,fun n hn=>fit_of ((nodes_wf h).2 n hn)⟩,sel_fit h,fun m hm=>?_,fun m hm=>?_⟩
 ·have:=(meta_wf h).2 m hm
  exact ⟨len_lt this.1,len_lt this.2.1⟩
 ·have:=(links_wf h).2 m hm
  exact len_lt this.2.2.2.2.1.2.2.1.1
end Go.Proofs.YtpanghcojpnkaaaGreatDoor.Am
