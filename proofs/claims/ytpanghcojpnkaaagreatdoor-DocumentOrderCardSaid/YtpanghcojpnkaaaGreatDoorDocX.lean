/- Plain laws of documents and patches: what is found equal is the same; copies are what was copied. Condition: the value a Go value can be. -/
import Derived.Test.YtpanghcojpnkaaaGreatDoorDocQ
import Derived.Test.YtpanghcojpnkaaaGreatDoorDocE
namespace Go.Proofs.YtpanghcojpnkaaaGreatDoor.Am
open Go Go.Am
def WfN (l:List D49):Prop:=l.length ≤ maxLen ∧ ∀ n ∈ l,Ty.wf T49 n
end Go.Proofs.YtpanghcojpnkaaaGreatDoor.Am
