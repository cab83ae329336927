/-
  What is proved: a part of the laws of this seat, in plain Lean.
-/
import Derived.Test.YtchhfojblmceiaaN3
import Derived.Test.YtchhfojblmceiaaVcE
namespace Go.Proofs.Ytchhfojblmceiaa
open Go Go.Vc Go.RowKit
set_option maxRecDepth 100000
theorem law3 : g3 = true := by
  kernel_rfl
end Go.Proofs.Ytchhfojblmceiaa
