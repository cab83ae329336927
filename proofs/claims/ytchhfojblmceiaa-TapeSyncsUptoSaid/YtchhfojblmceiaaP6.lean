/-
  What is proved: a part of the laws of this seat, in plain Lean.
-/
import Derived.Test.YtchhfojblmceiaaN6
import Derived.Test.YtchhfojblmceiaaVcE
namespace Go.Proofs.Ytchhfojblmceiaa
open Go Go.Vc Go.RowKit
set_option maxRecDepth 100000
theorem copy109 (x0 : Sl Int) (h : Canon x0) (hn : x0.n ≤ 549755813888) : g109 x0 nilSl = x0 := by
  have h1 : g109_r1 x0 = x0 := copy_id (g109_l1 x0) x0 h hn fun _ _ _ => rfl
  simp only [g109, g109_r2, h1]
  rfl
theorem law6 (x0 : Sl Int) (x1 : Int) (h : Canon x0) (hm : x0.n ≤ 1048576) (_ : -9223372036854775808 ≤ x1 ∧ x1 ≤ 9223372036854775807) : g6 x0 x1 = true := by
  have hn : x0.n ≤ 549755813888 := by omega
  have e : g108 x0 x1 = g107_1 x0 x1 := by
    simp only [g108, g108_m1, g107_1, g107_m1, g112, g112_m1]
    by_cases h1 : x1 < 0 <;> by_cases h2 : x1 > (x0.n : Int) <;> by_cases h3 : (x0.n : Int) > 400000 <;> simp [h1, h2, h3] <;> omega
  have hs : g41 x0 x1 x0 x1 = true := by simp [g41, g41_m1]
  simp only [g6, g6_m1, g38_0, g38_1, g82, g39_0_0, g39_0_1, g39_1, g40_0_0, g40_0_1, g40_1, e, hs, copy109 x0 h hn]
  cases hb : g107_1 x0 x1 with
  | false => simp [g41, g41_m1]
  | true =>
    have hm : g107_m1 x0 x1 = false := by
      unfold g107_1 at hb
      cases hm : g107_m1 x0 x1 with
      | false => rfl
      | true => rw [hm] at hb; cases hb
    simp [g107_0_0, hm, g41, g41_m1]
end Go.Proofs.Ytchhfojblmceiaa
