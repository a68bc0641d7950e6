/- The standard font: closed facts. No condition. -/
import Derived.Test.YtnemgdgminolpaaDoorFontStd
namespace Go.Proofs.YtnemgdgminolpaaDoor.Am
open Go Go.Am
theorem f10_std : f10 = std := by kernel_rfl
theorem f10_okd : f10_ok := of_decide_eq_true (by kernel_rfl)
theorem f9_std : f9 std std = true := by kernel_rfl
theorem f9_okd : f9_ok std std := of_decide_eq_true (by kernel_rfl)
end Go.Proofs.YtnemgdgminolpaaDoor.Am
