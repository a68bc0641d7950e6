/- The standard font: the law. No condition. -/
import Derived.Test.YtnemgdgminolpaaDoorFontX
import Derived.Test.YtnemgdgminolpaaDoorFontC2
import Derived.Test.YtnemgdgminolpaaDoorFontC3
namespace Go.Proofs.YtnemgdgminolpaaDoor.Am
open Go Go.Am
theorem fontStandard_law : ∀ x, wfL 0 [] x → f3_ok ∧ f3 = true := by
  intro _ _
  have h9 : f9 f10 f11 = true := by rw [f10_std, f11_std]; exact f9_std
  have h12 : f12 f10 = 0 := by rw [f10_std]; exact f12_std
  have h12o : f12_ok f10 := by rw [f10_std]; exact f12_okd
  have h9o : f9_ok f10 f11 := by rw [f10_std, f11_std]; exact f9_okd
  refine ⟨⟨f10_okd, f11_okd, h9o, fun _ => f10_okd, fun _ => h12o, fun _ => f13_isok⟩, ?_⟩
  show (bif (bif f9 f10 f11 then f12 f10 == 0 else false) then f13 else false) = true
  rw [h9, h12, f13_true]
  rfl
end Go.Proofs.YtnemgdgminolpaaDoor.Am
