/- The standard font: closed facts. No condition. -/
import Derived.Test.YtnemgdgminolpaaDoorFontStd
namespace Go.Proofs.YtnemgdgminolpaaDoor.Am
open Go Go.Am
theorem f11_std : f11 = std := by kernel_rfl
theorem f11_okd : f11_ok := of_decide_eq_true (by kernel_rfl)
end Go.Proofs.YtnemgdgminolpaaDoor.Am
