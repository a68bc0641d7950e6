/- Font: the error of any font, and the width of any text in it: the law. No condition. -/
import Derived.Test.YtnemgdgminolpaaDoorFontT
import Derived.Test.YtnemgdgminolpaaDoorFontX
namespace Go.Proofs.YtnemgdgminolpaaDoor.Am
open Go Go.Am

theorem fontWidths_law : ∀ x, wfL 0 [T31] x → f4_ok x.1 ∧ f4 x.1 = true := by
  intro x hx
  obtain ⟨⟨h1, _⟩, _⟩ := hx
  have hp := known_of h1
  have hck := check_eq x.1.1 hp.gs hp.ks hp.segs
  obtain ⟨he, o1, o2⟩ := width_eq hp x.1.2.1 x.1.2.2.1
  refine ⟨⟨f12_all _, f14_all _, fun _ => o1, fun _ => o2, fun _ => f13_isok⟩, ?_⟩
  show (bif (bif f12 x.1.1 == f14 x.1.1 then f15 x.1.1 x.1.2.1 x.1.2.2.1 == f16 x.1.1 x.1.2.1 x.1.2.2.1 else false) then f13 else false) = true
  rw [hck, he, f13_true]
  simp
end Go.Proofs.YtnemgdgminolpaaDoor.Am
