/- Equality of nodes: the program's and the document's, each just where two nodes are the same. Condition: the value a Go value can be. -/
import Derived.Test.YtpanghcojpnkaaaGreatDoorDocV
import Derived.Test.YtpanghcojpnkaaaGreatDoorMach4
namespace Go.Proofs.YtpanghcojpnkaaaGreatDoor.Am
open Go Go.Am
theorem vI5 {α:Type}{l:List α}(h:l.length≤maxLen):len l<9223372036854775808:=by
 unfold len
 have:maxLen=9223372036854775807:=rfl
 omega
theorem pB4 {α:Type}{a b:List α}{z:α}(hl:a.length=b.length)(h:∀ i:Nat,i<a.length→a.getD i z=b.getD i z):a=b:=by
 apply List.ext_getElem hl
 intro i h1 h2
 have:=h i h1
 rw[jM,jM,jL h1,jL h2] at this
 exact this
theorem pI5 {n:D49}(h:Ty.wf T49 n):wJ8 n:=by
 obtain⟨_,_,_,h0,_,_,_,_,_,⟨_,_,⟨h1,_⟩,_⟩,_,_,⟨_,_,⟨h2,_⟩,_⟩,_,_,⟨h3,_⟩,_,⟨h4,_⟩,⟨h5,_⟩,_,_,_,_,h7,_,_,_,⟨_,_,_,⟨h6,_⟩,_⟩,_⟩:=h
 exact⟨vI5 h0,vI5 h1,vI5 h2,vI5 h3,vI5 h4,vI5 h5,vI5 h7,vI5 h6⟩
end Go.Proofs.YtpanghcojpnkaaaGreatDoor.Am
