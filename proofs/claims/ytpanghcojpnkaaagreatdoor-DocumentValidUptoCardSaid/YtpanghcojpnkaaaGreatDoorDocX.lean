/- Plain laws of documents and patches: what is found equal is the same; copies are what was copied. Condition: the value a Go value can be. -/
import Derived.Test.YtpanghcojpnkaaaGreatDoorDocQ
import Derived.Test.YtpanghcojpnkaaaGreatDoorDocE
namespace Go.Proofs.YtpanghcojpnkaaaGreatDoor.Am
open Go Go.Am
def WfN (l:List D49):Prop:=l.length≤maxLen∧∀ n∈l,Ty.wf T49 n
theorem qL3 (n:D49):f67 n n=(n,0,()):=by
 simp only[f67,f67t]
 rw[show (n.2.1 !=n.2.1)=false by simp]
 rfl
theorem pB5 {α:Type}(l:List α)(i:Int)(z:α):List.set l i.toNat (nth l i z)=l:=by
 unfold nth
 by_cases h:i.toNat<l.length
 ·rw[jM,jL h,Option.getD_some]
  exact List.set_getElem_self h
 ·exact List.set_eq_of_length_le (by omega)
def pB6 {α:Type}(l m:List α)(i:Int):Prop:=m.length=l.length∧∀ (j:Nat) (z:α),(j:Int)<i→m.getD j z=l.getD j z
theorem sP4 {α:Type}{l m:List α}{i:Int}(z:α)(h:pB6 l m i)(h0:0≤i)(h1:i<len l):pB6 l (List.set m i.toNat (nth l i z)) (i+1):=by
 refine⟨by rw[List.length_set];exact h.1,fun j z' hj=>?_⟩
 have hi:i.toNat<m.length:=by rw[h.1];unfold len at h1;omega
 by_cases hji:j=i.toNat
 ·subst hji
  rw[jM,List.getElem?_set_self hi,Option.getD_some]
  unfold nth
  have hl:i.toNat<l.length:=by rw[← h.1];exact hi
  rw[jM,jM,jL hl,Option.getD_some,Option.getD_some]
 ·rw[jM,List.getElem?_set_ne (fun e=>hji e.symm),← jM]
  exact h.2 j z' (by omega)
theorem pB7 {α:Type}{l m:List α}{i:Int}(z:α)(h:pB6 l m i)(h1:len l≤i):m=l:=
 pB4 (z:=z) h.1 fun j hj=>h.2 j z (by rw[h.1] at hj;unfold len at h1;omega)
end Go.Proofs.YtpanghcojpnkaaaGreatDoor.Am
