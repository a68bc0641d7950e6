/- Plain law of NodeEquals. No condition. -/
import Derived.Test.YthjoefjcljbapaaGreatDoorChkQ
import Derived.Test.YthjoefjcljbapaaGreatDoorChkE1
import Derived.Test.YthjoefjcljbapaaGreatDoorChkE2
namespace Go.Proofs.YthjoefjcljbapaaGreatDoor.Am
open Go Go.Am

theorem eqbB_self (b : Bool) : Ty.eqb .bool b b = true := by cases b <;> rfl
theorem nodeEquals_at (a b : D37) (w h : Int) (h1 : Ty.wf T37 a) (h2 : Ty.wf T37 b) : f5_ok (a, b, ()) w h ∧ f5 (a, b, ()) w h = true := by
  have la := lens_of h1
  have lb := lens_of h2
  have hs : f14 a b = f14 b a := by
    rw [same_eq la, same_eq lb, Bool.eq_iff_iff]
    constructor
    · intro h; have := f8_eq h1 h2 h; subst this; exact h
    · intro h; have := f8_eq h2 h1 h; subst this; exact h
  have h0 : f14 a a = true := by rw [same_eq la]; exact f8_self la
  refine ⟨⟨f14_all la, fun _ => f14_all la, fun _ => f14_all lb, fun _ => ⟨f14_all la, fun _ => f11_all _ _ _ (fit_of h1), fun _ => f11_all _ _ _ (fit_of h2), fun _ => f12_okd⟩⟩, ?_⟩
  simp only [f5, f5t, h0, ← hs, eqbB_self, Bool.not_true, cond_false, f12_true]
  cases hq : f14 a b with
  | false => rfl
  | true =>
    rw [same_eq la] at hq
    have := f8_eq h1 h2 hq
    subst this
    simp
theorem nodeEquals_law : ∀ x, wfL 0 [T47, .int .i64, .int .i64] x → f5_ok x.1 x.2.1 x.2.2.1 ∧ f5 x.1 x.2.1 x.2.2.1 = true :=
  fun x hx => nodeEquals_at x.1.1 x.1.2.1 x.2.1 x.2.2.1 hx.1.1 hx.1.2.1
end Go.Proofs.YthjoefjcljbapaaGreatDoor.Am
