/- The standard font: closed facts. No condition. -/
import Derived.Test.YtnemgdgminolpaaDoorFontStd
namespace Go.Proofs.YtnemgdgminolpaaDoor.Am
open Go Go.Am
theorem f12_std : f12 std = 0 := by kernel_rfl
theorem f12_okd : f12_ok std := of_decide_eq_true (by kernel_rfl)
end Go.Proofs.YtnemgdgminolpaaDoor.Am
