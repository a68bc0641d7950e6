/- The standard font: the chapter's examples. No condition. -/
import Derived.Test.YtdgfchmfajmkiaaDoorOutC1
import Derived.Test.YtdgfchmfajmkiaaDoorOutC4
import Derived.Test.YtdgfchmfajmkiaaDoorOutC5
namespace Go.Proofs.YtdgfchmfajmkiaaDoor.Am
open Go Go.Am
theorem f7_true : f7 = true := by
  unfold f7
  rw [f20_std]
  exact f7_std
theorem f7_isok : f7_ok := by
  unfold f7_ok
  rw [f20_std]
  exact f7_okd
end Go.Proofs.YtdgfchmfajmkiaaDoor.Am
