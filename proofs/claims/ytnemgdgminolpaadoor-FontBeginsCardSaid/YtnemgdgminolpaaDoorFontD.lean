/- Font: the outline of a text begins with that of its first line: the law. No condition. -/
import Derived.Test.YtnemgdgminolpaaDoorFontA
import Derived.Test.YtnemgdgminolpaaDoorFontX
namespace Go.Proofs.YtnemgdgminolpaaDoor.Am
open Go Go.Am
theorem fontBegins_law : ∀ x, wfL 0 [T31] x → f8_ok x.1 ∧ f8 x.1 = true := by
  intro x hx
  obtain ⟨⟨h1, h2, _⟩, _⟩ := hx
  exact begins_eq (known_of h1) (len_lt h2) f13_true f13_isok
end Go.Proofs.YtnemgdgminolpaaDoor.Am
