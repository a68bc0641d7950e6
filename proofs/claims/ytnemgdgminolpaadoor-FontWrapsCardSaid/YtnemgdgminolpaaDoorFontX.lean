/- The standard font: the chapter's examples. No condition. -/
import Derived.Test.YtnemgdgminolpaaDoorFontC1
import Derived.Test.YtnemgdgminolpaaDoorFontC4
import Derived.Test.YtnemgdgminolpaaDoorFontC5
namespace Go.Proofs.YtnemgdgminolpaaDoor.Am
open Go Go.Am
theorem f13_true : f13 = true := by
  unfold f13
  rw [f10_std]
  exact f13_std
theorem f13_isok : f13_ok := by
  unfold f13_ok
  rw [f10_std]
  exact f13_okd
end Go.Proofs.YtnemgdgminolpaaDoor.Am
