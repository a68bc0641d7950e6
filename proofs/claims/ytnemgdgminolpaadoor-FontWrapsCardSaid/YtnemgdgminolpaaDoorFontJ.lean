/- Font: every line of a text lies in it, in order, and fits: the law. No condition. -/
import Derived.Test.YtnemgdgminolpaaDoorFontO
import Derived.Test.YtnemgdgminolpaaDoorFontX
namespace Go.Proofs.YtnemgdgminolpaaDoor.Am
open Go Go.Am
theorem fontWraps_law : ∀ x, wfL 0 [T31] x → f7_ok x.1 ∧ f7 x.1 = true := by
  intro x hx
  obtain ⟨⟨h1, h2, _⟩, _⟩ := hx
  exact wraps_eq (known_of h1) (len_lt h2) f13_true f13_isok
end Go.Proofs.YtnemgdgminolpaaDoor.Am
