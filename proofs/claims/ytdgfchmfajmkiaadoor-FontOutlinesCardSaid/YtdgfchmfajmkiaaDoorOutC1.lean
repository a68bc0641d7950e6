/- The standard font: closed facts. No condition. -/
import Derived.Test.YtdgfchmfajmkiaaDoorOutStd
namespace Go.Proofs.YtdgfchmfajmkiaaDoor.Am
open Go Go.Am
theorem f20_std : f20 = std := by kernel_rfl
end Go.Proofs.YtdgfchmfajmkiaaDoor.Am
