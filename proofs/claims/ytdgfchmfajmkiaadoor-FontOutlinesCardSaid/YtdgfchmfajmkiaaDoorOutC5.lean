/- The standard font: closed facts. No condition. -/
import Derived.Test.YtdgfchmfajmkiaaDoorOutStd
namespace Go.Proofs.YtdgfchmfajmkiaaDoor.Am
open Go Go.Am
theorem f7_okd : f7k_ok std := of_decide_eq_true (by kernel_rfl)
end Go.Proofs.YtdgfchmfajmkiaaDoor.Am
