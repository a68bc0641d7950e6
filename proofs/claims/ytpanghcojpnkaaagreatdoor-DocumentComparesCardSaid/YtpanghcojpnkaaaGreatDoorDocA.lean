/- node.Check answers for every node: the simple parts. Condition: lengths of Go slices. -/
import Derived.Test.YtpanghcojpnkaaaGreatDoorDocP4
import Derived.Test.YtpanghcojpnkaaaGreatDoorMach4
namespace Go.Proofs.YtpanghcojpnkaaaGreatDoor.Am
open Go Go.Am
theorem whole {X:Type} {g:X → Bool} {next:X → X} {ok:X → Prop} (inv:X → Prop) (m:X → Nat) (hok:∀ x,inv x → ok x) (hstep:∀ x,inv x → g x = true → inv (next x) ∧ m (next x) < m x) {x:X} (hx:inv x) (hm:m x < zI1) :
  Am.Ends g next ok x ∧ inv (zC1 g next x) ∧ g (zC1 g next x) = false :=
 ⟨xQ2 inv m hok hstep hx hm,xQ1 inv m hstep hx hm⟩
theorem nth_mem {α:Type} {l:List α} {i:Int} {d:α} (h:InB i (len l)):nth l i d ∈ l:=by
 obtain ⟨h1,h2⟩:=h
 have h3:i.toNat < l.length:=by simp only [len] at h2; omega
 show l.getD i.toNat d ∈ l
 rw [List.getD_eq_getElem?_getD,List.getElem?_eq_getElem h3]
 exact List.getElem_mem h3
end Go.Proofs.YtpanghcojpnkaaaGreatDoor.Am
