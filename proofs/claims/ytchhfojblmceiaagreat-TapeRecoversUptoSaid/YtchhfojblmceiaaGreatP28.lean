/-
  What is proved: a part of the laws of this seat, in plain Lean.
-/
import Derived.Test.YtchhfojblmceiaaGreatZB
import Derived.Test.YtchhfojblmceiaaGreatPA
namespace Go.Proofs.YtchhfojblmceiaaGreat
open Go Go.Vc Go.RowKit
set_option maxRecDepth 100000
set_option maxHeartbeats 4000000
theorem g175_eq (x0 x1 x2 : Int) (x3 : Sl T175) (x4 : Int) (x5 : Sl T137) : g175 x0 x1 x2 x3 x4 x5 = g176 x0 x1 x2 x3 x4 x5 := by
  unfold g175 g176 g175_m1 g176_m1
  cases x0 == 0 <;> cases x1 == 0 <;> cases x4 == 0 <;> cases (x5.n : Int) == 0 <;> cases x2 == 0 <;> cases (x3.n : Int) == 0 <;> rfl
theorem g94_eq (x0 x1 x2 x3 x4 x5 : Int) (x6 : Bool) (x7 x8 x9 : Int) (x10 x11 x12 : ByteArray) (x13 x14 x15 x16 : Int) (x17 : Sl T175) (x18 : Int) (x19 : Sl T137) (h1 : x17.n ≤ 549755813888) (w1 : ∀ i, i < x17.n → W175 (x17.at' i)) (h3 : x19.n ≤ 549755813888) (w3 : ∀ i, i < x19.n → W137 (x19.at' i)) :
    g94 x0 x1 x2 x3 x4 x5 x6 x7 x8 x9 x10 x11 x12 x13 x14 x15 x16 x17 x18 x19 = g96 x0 x1 x2 x3 x4 x5 x6 x7 x8 x9 x10 x11 x12 x13 x14 x15 x16 x17 x18 x19 := by
  unfold g94 g96
  have hm : g94_m1 x0 = !(g112 x0 1 3) := by
    rw [in_not]; unfold g94_m1
    cases decide (x0 < 1) <;> rfl
  rw [hm]
  cases hr : g112 x0 1 3 with
  | false => rfl
  | true =>
    have hr : 1 ≤ x0 ∧ x0 ≤ 3 := by simpa [g112_eq] using hr
    have e2 : g94_m2 x0 x1 x2 x3 x4 x5 x6 x7 x8 x9 x10 x11 x12 x13 x14 x15 x16 x17 x18 x19 = g96_m1 x0 x1 x2 x3 x4 x5 x6 x7 x8 x9 x10 x11 x12 x13 x14 x15 x16 x17 x18 x19 := by
      unfold g94_m2 g96_m1
      rw [g175_eq]
    have e3 : g94_m3 x1 x2 = g96_m2 x1 x2 := by
      unfold g94_m3 g96_m2
      rw [g153_eq, in_not]
      have : decide (x2 ≥ 3) = decide (x2 > 2) := by
        rw [Bool.eq_iff_iff]; simp only [decide_eq_true_eq]; omega
      rw [this]
      cases decide (x2 < -1) <;> rfl
    simp only [Bool.not_true, cond_false]
    rw [e2, e3, g153_eq, g51_eq, g87_eq x14 x15 x16 x17 x18 x19 h1 w1 h3 w3]
    cases g96_m1 x0 x1 x2 x3 x4 x5 x6 x7 x8 x9 x10 x11 x12 x13 x14 x15 x16 x17 x18 x19
    · have hx : x0 = 1 ∨ x0 = 2 ∨ x0 = 3 := by omega
      rcases hx with rfl | rfl | rfl <;> rfl
    · rfl
theorem law28 (x0 x1 x2 x3 x4 x5 : Int) (x6 : Bool) (x7 x8 x9 : Int) (x10 x11 x12 : ByteArray) (x13 x14 x15 x16 : Int) (x17 : Sl T175) (x18 : Int) (x19 : Sl T137)
    (_ : -9223372036854775808 ≤ x0 ∧ x0 ≤ 9223372036854775807) (_ : -9223372036854775808 ≤ x1 ∧ x1 ≤ 9223372036854775807) (_ : -9223372036854775808 ≤ x2 ∧ x2 ≤ 9223372036854775807) (_ : -9223372036854775808 ≤ x3 ∧ x3 ≤ 9223372036854775807) (_ : -9223372036854775808 ≤ x4 ∧ x4 ≤ 9223372036854775807) (_ : -9223372036854775808 ≤ x5 ∧ x5 ≤ 9223372036854775807)
    (_ : -9223372036854775808 ≤ x7 ∧ x7 ≤ 9223372036854775807) (_ : -9223372036854775808 ≤ x8 ∧ x8 ≤ 9223372036854775807) (_ : -9223372036854775808 ≤ x9 ∧ x9 ≤ 9223372036854775807) (_ : x10.size ≤ 1048576) (_ : x11.size ≤ 1048576) (_ : x12.size ≤ 1048576)
    (_ : -9223372036854775808 ≤ x13 ∧ x13 ≤ 9223372036854775807) (_ : -9223372036854775808 ≤ x14 ∧ x14 ≤ 9223372036854775807) (_ : -9223372036854775808 ≤ x15 ∧ x15 ≤ 9223372036854775807) (_ : -9223372036854775808 ≤ x16 ∧ x16 ≤ 9223372036854775807)
    (c1 : Canon x17) (n1 : x17.n ≤ 1048576) (w1 : ∀ i, i < x17.n → W175 (x17.at' i)) (_ : -9223372036854775808 ≤ x18 ∧ x18 ≤ 9223372036854775807) (c3 : Canon x19) (n3 : x19.n ≤ 1048576) (w3 : ∀ i, i < x19.n → W137 (x19.at' i)) :
    g28 x0 x1 x2 x3 x4 x5 x6 x7 x8 x9 x10 x11 x12 x13 x14 x15 x16 x17 x18 x19 = true := by
  unfold g28
  simp only [g95_0, g95_1, g95_2, g95_3, g95_4, g95_5, g95_6, g95_7, g95_8, g95_9, g95_10, g95_11, g95_12, g95_13, g95_14, g95_15, g95_16, g95_17, g95_18, g95_19, g88_0, g88_1, g88_2, g88_3, g88_4, g88_5, g85_0, g85_1, g85_2, g79_0]
  rw [copy85 x19 c3 (by omega) w3, copy79 x17 c1 (by omega) w1, g94_eq _ _ _ _ _ _ _ _ _ _ _ _ _ _ _ _ _ _ _ _ (by omega) w1 (by omega) w3]
  simp
end Go.Proofs.YtchhfojblmceiaaGreat
