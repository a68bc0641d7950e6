/- The standard font: closed facts. No condition. -/
import Derived.Test.YtnemgdgminolpaaDoorFontStd
namespace Go.Proofs.YtnemgdgminolpaaDoor.Am
open Go Go.Am
theorem f13_std : f13k std = true := by kernel_rfl
end Go.Proofs.YtnemgdgminolpaaDoor.Am
