/- Font: the lines of any text in any font: the law. No condition. -/
import Derived.Test.YtnemgdgminolpaaDoorFontQ
import Derived.Test.YtnemgdgminolpaaDoorFontX
namespace Go.Proofs.YtnemgdgminolpaaDoor.Am
open Go Go.Am

theorem fontLines_law : ∀ x, wfL 0 [T31] x → f5_ok x.1 ∧ f5 x.1 = true := by
  intro x hx
  obtain ⟨⟨h1, h2, _⟩, _⟩ := hx
  have hp := known_of h1
  have hs : len x.1.2.1 < 9223372036854775808 := len_lt h2
  have hck := check_eq x.1.1 hp.gs hp.ks hp.segs
  obtain ⟨e17, o17, o18⟩ := f17_eq hp x.1.2.1 x.1.2.2.1 x.1.2.2.2.1 hs
  have e18 := f18_eq hck x.1.2.1 x.1.2.2.1 x.1.2.2.2.1 hs
  have hl := same_self _ (lines_short x.1.1 x.1.2.1 x.1.2.2.1 x.1.2.2.2.1 (fitR x.1.1 x.1.2.2.1 x.1.2.2.2.1))
  refine ⟨?_, ?_⟩
  · refine ⟨o17, o18, fun _ => ?_, fun _ => f13_isok⟩
    rw [e17, e18]
    exact hl.2
  · simp only [f5, e17, e18, hl.1, f13_true]
    simp
end Go.Proofs.YtnemgdgminolpaaDoor.Am
