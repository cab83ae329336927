/-
  What is proved: a part of the laws of this seat, in plain Lean.
-/
import Derived.Test.YtchhfojblmceiaaV6
import Derived.Test.YtchhfojblmceiaaP24
namespace Go.Proofs.Ytchhfojblmceiaa
open Go Go.Vc Go.RowKit
set_option maxRecDepth 100000
theorem g153_eq (x : Int) : g153 x = g120 x := by
  unfold g153 g120
  rw [g112_eq]
  first | rfl | (unfold g153_m1; cases decide (x ≥ 1) <;> rfl)
theorem g87_eq (x0 x1 x2 : Int) (s3 : Sl T175) (x4 : Int) (s5 : Sl T137) (h1 : s3.n ≤ 549755813888) (w1 : ∀ i, i < s3.n → W175 (s3.at' i)) (h3 : s5.n ≤ 549755813888) (w3 : ∀ i, i < s5.n → W137 (s5.at' i)) : g87 x0 x1 x2 s3 x4 s5 = g89 x0 x1 x2 s3 x4 s5 := by
  unfold g87 g89 g87_m1 g89_m1
  rw [g153_eq, g153_eq, g84_eq x2 s3 x4 s5 h1 w1 h3 w3]
theorem law25 (x0 x1 x2 : Int) (s3 : Sl T175) (x4 : Int) (s5 : Sl T137) (_ : -9223372036854775808 ≤ x0 ∧ x0 ≤ 9223372036854775807) (_ : -9223372036854775808 ≤ x1 ∧ x1 ≤ 9223372036854775807) (_ : -9223372036854775808 ≤ x2 ∧ x2 ≤ 9223372036854775807) (c1 : Canon s3) (n1 : s3.n ≤ 1048576) (w1 : ∀ i, i < s3.n → W175 (s3.at' i)) (_ : -9223372036854775808 ≤ x4 ∧ x4 ≤ 9223372036854775807) (c3 : Canon s5) (n3 : s5.n ≤ 1048576) (w3 : ∀ i, i < s5.n → W137 (s5.at' i)) : g25 x0 x1 x2 s3 x4 s5 = true := by
  unfold g25
  simp only [g88_0, g88_1, g88_2, g88_3, g88_4, g88_5, g85_0, g85_1, g85_2, g79_0]
  rw [copy85 s5 c3 (by omega) w3, copy79 s3 c1 (by omega) w1, g87_eq x0 x1 x2 s3 x4 s5 (by omega) w1 (by omega) w3]
  simp
end Go.Proofs.Ytchhfojblmceiaa
