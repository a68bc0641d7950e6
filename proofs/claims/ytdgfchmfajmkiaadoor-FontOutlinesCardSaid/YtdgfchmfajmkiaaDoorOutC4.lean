/- The standard font: closed facts. No condition. -/
import Derived.Test.YtdgfchmfajmkiaaDoorOutStd
namespace Go.Proofs.YtdgfchmfajmkiaaDoor.Am
open Go Go.Am
theorem f7_std : f7k std = true := by kernel_rfl
end Go.Proofs.YtdgfchmfajmkiaaDoor.Am
