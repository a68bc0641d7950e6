/- Equality of nodes: the program's and the document's, each just where two nodes are the same. Condition: the value a Go value can be. -/
import Derived.Test.YtpanghcojpnkaaaGreatDoorDocV
import Derived.Test.YtpanghcojpnkaaaGreatDoorMach4
namespace Go.Proofs.YtpanghcojpnkaaaGreatDoor.Am
open Go Go.Am
def ne0 (a b:List Int) (i:Int):Bool:=nth a i 0 != nth b i 0
def eqC (n m:Int) (c:Int → Bool):Bool:=(n == m) && !(xX7 n c)
theorem eqScan {g:Int × Unit → Bool} {next:Int × Unit → Int × Unit} {n m:Int} {c:Int → Bool} (hn0:0 ≤ n) (hn:n < 9223372036854775808) (hg:∀ x,g x = (decide (x.1 < n) && !(c x.1))) (hx:∀ x,next x = (x.1 + 1,())) :
  (bif (n != m) then false else (bif (decide ((zC1 g next (0,())).1 < n) && c (zC1 g next (0,())).1) then false else true)) = eqC n m c:=by
 rw [xW5 hn0 hn hg hx]
 unfold eqC
 cases h:(n == m) <;> cases xX7 n c <;> simp_all
theorem okScan {g:Int × Unit → Bool} {next:Int × Unit → Int × Unit} {ok:Int × Unit → Prop} {n m:Int} {c:Int → Bool} (hn0:0 ≤ n) (hn:n < 9223372036854775808) (hg:∀ x,g x = (decide (x.1 < n) && !(c x.1))) (hx:∀ x,next x = (x.1 + 1,()))
  (hok:∀ x:Int × Unit,n = m → 0 ≤ x.1 → (x.1 < n → InB x.1 n ∧ InB x.1 m ∧ InR (x.1 + 1)) → ok x):(!(n != m)) = true → Am.Ends g next ok (0,()):=by
 intro h
 have e:n = m:=by simpa using h
 refine xV4 hn0 hn (fun x h=>?_) hx fun x h1 h2=>hok x e h1 fun h3=>⟨⟨h1,h3⟩,⟨h1,by omega⟩,?_⟩
 ·rw [hg] at h; simp only [Bool.and_eq_true,decide_eq_true_eq] at h; exact h.1
 ·unfold InR; omega
theorem len_lt {α:Type} {l:List α} (h:l.length ≤ maxLen):len l < 9223372036854775808:=by
 unfold len
 have:maxLen = 9223372036854775807:=rfl
 omega
theorem anyI_none {n:Int} {c:Int → Bool} (h:∀ i,c i = false):xX7 n c = false:=by
 unfold xX7
 rw [List.any_eq_false]
 intro x _
 simp [h]
theorem eqC_self {n:Int} {c:Int → Bool} (h:∀ i,c i = false):eqC n n c = true:=by simp [eqC,anyI_none h]
theorem ne0_self (a:List Int) (i:Int):ne0 a a i = false:=by simp [ne0]
theorem fit_of {n:D49} (h:Ty.wf T49 n):NodeFit n:=by
 obtain ⟨_,_,_,h0,_,_,_,_,_,⟨_,_,⟨h1,_⟩,_⟩,_,_,⟨_,_,⟨h2,_⟩,_⟩,_,_,⟨h3,_⟩,_,⟨h4,_⟩,⟨h5,_⟩,_,_,_,_,h7,_,_,_,⟨_,_,_,⟨h6,_⟩,_⟩,_⟩:=h
 exact ⟨len_lt h0,len_lt h1,len_lt h2,len_lt h3,len_lt h4,len_lt h5,len_lt h7,len_lt h6⟩
end Go.Proofs.YtpanghcojpnkaaaGreatDoor.Am
