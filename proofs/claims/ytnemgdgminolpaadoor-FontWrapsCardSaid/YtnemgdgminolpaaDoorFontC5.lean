/- The standard font: closed facts. No condition. -/
import Derived.Test.YtnemgdgminolpaaDoorFontStd
namespace Go.Proofs.YtnemgdgminolpaaDoor.Am
open Go Go.Am
theorem f13_okd : f13k_ok std := of_decide_eq_true (by kernel_rfl)
end Go.Proofs.YtnemgdgminolpaaDoor.Am
