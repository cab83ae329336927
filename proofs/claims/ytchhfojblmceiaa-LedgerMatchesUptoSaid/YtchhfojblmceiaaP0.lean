/-
  What is proved: a part of the laws of this seat, in plain Lean.
-/
import Derived.Test.YtchhfojblmceiaaY1
import Derived.Test.YtchhfojblmceiaaP00
namespace Go.Proofs.Ytchhfojblmceiaa
open Go Go.Vc Go.RowKit
set_option maxRecDepth 100000
theorem e47 (x0 : Int) (x1 x2 x3 : ByteArray) (x4 : Int) : (g47 x0 x1 x2 x3 x4 == g48 x0 x1 x2 x3 x4) = true := by
  by_cases h : 1 ≤ x0 ∧ x0 ≤ 22
  · have hx : x0 = 1 ∨ x0 = 2 ∨ x0 = 3 ∨ x0 = 4 ∨ x0 = 5 ∨ x0 = 6 ∨ x0 = 7 ∨ x0 = 8 ∨ x0 = 9 ∨ x0 = 10 ∨ x0 = 11 ∨ x0 = 12 ∨ x0 = 13 ∨ x0 = 14 ∨ x0 = 15 ∨ x0 = 16 ∨ x0 = 17 ∨ x0 = 18 ∨ x0 = 19 ∨ x0 = 20 ∨ x0 = 21 ∨ x0 = 22 := by omega
    unfold g47 g48 g47_m9 g47_m8 g47_m7 g47_m6 g47_m5 g47_m4 g47_m3 g47_m2 g47_m1 g48_m4 g48_m3 g48_m2 g48_m1
    simp only [g118_eq, g116_eq, g117_eq, g112_eq]
    generalize g118 x1 = b1
    generalize g118 x2 = b2
    generalize g113 x3 = b3
    generalize g114 x4 = b4
    rcases hx with rfl | rfl | rfl | rfl | rfl | rfl | rfl | rfl | rfl | rfl | rfl | rfl | rfl | rfl | rfl | rfl | rfl | rfl | rfl | rfl | rfl | rfl <;>
    simp only [Int.reduceBEq, Int.reduceLE, Int.reduceLT, ge_iff_le, gt_iff_lt, decide_true, decide_false, Bool.and_true, Bool.true_and, Bool.and_false, cond_true, cond_false, Bool.not_true, Bool.not_false, beq_self_eq_true, bne] <;>
    (generalize (x1.toList == ByteArray.toList ⟨#[]⟩) = e1; generalize (x2.toList == ByteArray.toList ⟨#[]⟩) = e2; generalize (x3.toList == ByteArray.toList ⟨#[]⟩) = e3; generalize (x4 == 0) = e4
     revert e1 e2 e3 e4 b1 b2 b3 b4; decide)
  · unfold g47 g48 g47_m1
    have h1 : g112 x0 1 22 = false := by rw [g112_eq]; simp; omega
    have h2 : (bif decide (x0 < 1) then true else decide (x0 > 22)) = true := by
      by_cases h3 : x0 < 1
      · simp [h3]
      · simp [h3]; omega
    rw [h1, h2]; rfl
theorem g47_eq (x0 : Int) (x1 x2 x3 : ByteArray) (x4 : Int) : g47 x0 x1 x2 x3 x4 = g48 x0 x1 x2 x3 x4 := eq_of_beq (e47 x0 x1 x2 x3 x4)
theorem g49_eq (x0 x1 x2 : Int) (x3 x4 x5 : ByteArray) (x6 : Int) : g49 x0 x1 x2 x3 x4 x5 x6 = g50 x0 x1 x2 x3 x4 x5 x6 := by
  unfold g49 g50 g49_m1 g50_m1 g50_m2
  rw [g47_eq]
  simp only [g119_eq, bne]
  cases x0 == 0
  · rfl
  · simp only [cond_true, Bool.true_and]
    cases x1 == 0 <;> simp
theorem g51_eq (x0 x1 : Int) (x2 : Bool) (x3 x4 x5 : Int) (x6 x7 x8 : ByteArray) (x9 : Int) : g51 x0 x1 x2 x3 x4 x5 x6 x7 x8 x9 = g52 x0 x1 x2 x3 x4 x5 x6 x7 x8 x9 := by
  unfold g51 g52
  have h : g51_m1 x0 x1 = g52_m1 x0 x1 := by
    unfold g51_m1 g52_m1 g120
    simp only [g112_eq]
    by_cases a : x0 < 1
    · have : ¬ (1 ≤ x0) := by omega
      simp [a, this]
    · have a' : 1 ≤ x0 := by omega
      by_cases b : x0 > 1048576
      · have : ¬ (x0 ≤ 1048576) := by omega
        simp [b, this]
      · have b' : x0 ≤ 1048576 := by omega
        by_cases c : x1 < 0
        · have : ¬ (0 ≤ x1) := by omega
          simp [a, b, c, a', b', this]
        · have c' : 0 ≤ x1 := by omega
          by_cases d : x1 > 1073741824
          · have : ¬ (x1 ≤ 1073741824) := by omega
            simp [a, b, c, d, a', b', c', this]
          · have d' : x1 ≤ 1073741824 := by omega
            simp [a, b, c, d, a', b', c', d']
  rw [h, g49_eq]
  cases g52_m1 x0 x1 <;> cases x2 <;> rfl
end Go.Proofs.Ytchhfojblmceiaa
