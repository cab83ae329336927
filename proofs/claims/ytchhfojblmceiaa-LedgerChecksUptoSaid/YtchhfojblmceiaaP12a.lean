/-
  What is proved: a part of the laws of this seat, in plain Lean.
-/
import Derived.Test.YtchhfojblmceiaaN12
import Derived.Test.YtchhfojblmceiaaP12
namespace Go.Proofs.Ytchhfojblmceiaa
open Go Go.Vc Go.RowKit
theorem law12 (x0 x1 : Int) (x2 : Sl T68) (h0 : -9223372036854775808 ≤ x0 ∧ x0 ≤ 9223372036854775807) (_ : -9223372036854775808 ≤ x1 ∧ x1 ≤ 9223372036854775807) (hc : Canon x2) (hm : x2.n ≤ 1048576) : g12 x0 x1 x2 = true := by
  have hn : x2.n ≤ 549755813888 := by omega
  simp only [g12, g54_0, g54_1, copy54 x2 hc hn, g53_eq x0 x1 x2 hn h0, beq_self_eq_true]
end Go.Proofs.Ytchhfojblmceiaa
