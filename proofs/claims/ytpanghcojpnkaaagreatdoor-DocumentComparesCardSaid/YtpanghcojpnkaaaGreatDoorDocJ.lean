/- DocumentCompares, in plain words: both equalities are equality. No condition. -/
import Derived.Test.YtpanghcojpnkaaaGreatDoorDocZ
import Derived.Test.YtpanghcojpnkaaaGreatDoorDocF1
import Derived.Test.YtpanghcojpnkaaaGreatDoorDocF2
namespace Go.Proofs.YtpanghcojpnkaaaGreatDoor.Am
open Go Go.Am
theorem documentCompares_law:∀ x,wfL 0 [T28,T28] x → f5_ok x.1 x.2.1 ∧ f5 x.1 x.2.1 = true:=by
 rintro ⟨a,b,⟨⟩⟩ ⟨wa,wb,_⟩
 simp only at wa wb ⊢
 have e:f18 a b = f19 a b:=bool_iff ((rP6 wa wb).trans (pG9 wa wb).symm)
 have e1:Ty.eqb .bool (f18 a b) (f19 a b) = true:=by rw [e]; exact eqb_self _
 have e2:f18 a a = true:=(rP6 wa wa).2 rfl
 refine ⟨⟨qQ6 b wa,oM8 b wa,fun _=>qQ6 a wa,fun _=>oM9⟩,?_⟩
 simp only [f5,f5t,e1,e2,cond_true,pH]
end Go.Proofs.YtpanghcojpnkaaaGreatDoor.Am
