/-
  What is proved: a part of the laws of this seat, in plain Lean.
-/
import Derived.Test.YtchhfojblmceiaaZ5
import Derived.Test.YtchhfojblmceiaaP22
import Derived.Test.YtchhfojblmceiaaPr
namespace Go.Proofs.Ytchhfojblmceiaa
open Go Go.Vc Go.RowKit
set_option maxRecDepth 100000
set_option maxHeartbeats 4000000
theorem copy152 (s : Sl ByteArray) (h : Canon s) (hn : s.n ≤ 549755813888) : g152_3 s = s := copy_id (g152_l1 s) s h hn fun _ _ _ => rfl
theorem copy85 (s : Sl T137) (h : Canon s) (hn : s.n ≤ 549755813888) (hw : ∀ i, i < s.n → W137 (s.at' i)) : g85_3 s = s := by
  refine copy_idc (g85_l1 s) s (fun i => ⟨(s.at' (Int.toNat i)).c0, (s.at' (Int.toNat i)).c1, (s.at' (Int.toNat i)).c2, g152_0 (s.at' (Int.toNat i)).c3, g152_1 (s.at' (Int.toNat i)).c4, g152_2 (s.at' (Int.toNat i)).c5, g152_3 (s.at' (Int.toNat i)).c6⟩) h hn (fun i hi => ?_) fun _ _ _ => rfl
  obtain ⟨a1, a2⟩ := hw i hi
  simp only [Int.toNat_natCast, g152_0, g152_1, g152_2]
  rw [copy152 _ a1 (by omega)]
theorem in_not (n l h : Int) : (!(g112 n l h)) = (decide (n < l) || decide (n > h)) := by
  rw [g112_eq]
  by_cases h1 : n < l
  · have : ¬ (n ≥ l) := by omega
    simp [h1, this]
  · by_cases h2 : n > h
    · have : ¬ (n ≤ h) := by omega
      simp [h2, this]
    · have h3 : n ≥ l := by omega
      have h4 : n ≤ h := by omega
      simp [h1, h2, h3, h4]
theorem e84 (x0 x2 : Int) (s : Sl T137) (hx : x2 ≤ 1048577) (hn : s.n ≤ 549755813888) (hw : ∀ i, i < s.n → W137 (s.at' i)) : g84_r14 x0 x2 s = g86_r12 x0 x2 s := by
  have hl : g84_r14 x0 x2 s = scan (fun i => g84_m5 x2 s i || g84_m13 x0 s i) (fun _ => 13) s.n 0 := scan0 (g84_l6 x0 x2 s) s.n _ _ hn fun k i => by
    show (bif decide (i < (s.n : Int)) then (bif (g84_m5 x2 s i) then (true, 13) else (bif (g84_m13 x0 s i) then (true, 13) else g84_l6 x0 x2 s k (IntKind.i64.wrap (i + 1)))) else (false, default)) = _
    rw [bif_or]
  have hr : g86_r12 x0 x2 s = scan (fun i => g86_m11 x0 x2 s i) (fun _ => 13) s.n 0 := scan0 (g86_l5 x0 x2 s) s.n _ _ hn fun k i => rfl
  rw [hl, hr]
  refine scan_congr _ _ (fun j j0 j1 => ?_) fun _ _ _ => rfl
  obtain ⟨_, a2⟩ := hw (Int.toNat j) (by omega)
  simp only [g86_m11, g84_m5, g84_m13, g120, in_not, g42_eq _ _ _ _ a2]
  generalize (s.at' (Int.toNat j)).c0 = a
  generalize (s.at' (Int.toNat j)).c1 = b
  generalize (s.at' (Int.toNat j)).c2 = c
  generalize (s.at' (Int.toNat (IntKind.i64.wrap (j - 1)))).c0 = d
  generalize (g44 _ _ _ _ != 0) = e
  have h1 : (decide (a < 1) || decide (a > 1048576) || decide (a ≥ x2)) = (decide (a < 1) || decide (a ≥ x2)) := by
    by_cases h : a > 1048576
    · have : a ≥ x2 := by omega
      simp [h, this]
    · simp [h]
  revert h1
  generalize decide (a < 1) = p1
  generalize decide (a > 1048576) = p2
  generalize decide (a ≥ x2) = p3
  generalize decide (b < 0) = p4
  generalize decide (b > 1048576) = p5
  generalize decide (c < 0) = p6
  generalize decide (c > x0) = p7
  generalize decide (j > 0) = p8
  generalize decide (d ≥ a) = p9
  cases p1 <;> cases p2 <;> cases p3 <;> intro h1 <;> first | (cases h1; done) | skip
  all_goals cases p4 <;> cases p5 <;> cases p6 <;> cases p7 <;> cases p8 <;> cases p9 <;> cases e <;> rfl
theorem g84_eq (x0 : Int) (s1 : Sl T175) (x2 : Int) (s3 : Sl T137) (h1 : s1.n ≤ 549755813888) (w1 : ∀ i, i < s1.n → W175 (s1.at' i)) (h3 : s3.n ≤ 549755813888) (w3 : ∀ i, i < s3.n → W137 (s3.at' i)) : g84 x0 s1 x2 s3 = g86 x0 s1 x2 s3 := by
  unfold g84 g86
  have hm : g84_m1 x0 s1 x2 s3 = g86_m1 x0 s1 x2 s3 := by
    simp only [g84_m1, g86_m1, g78_eq x0 s1 h1 w1, in_not]
    cases decide (x2 < 1) <;> cases decide (x2 > 1048577) <;> rfl
  rw [hm]
  cases h : g86_m1 x0 s1 x2 s3 with
  | true => rfl
  | false =>
    have hx : x2 ≤ 1048577 := by
      simp only [g86_m1, in_not] at h
      by_cases h3 : x2 > 1048577
      · simp [h3] at h
      · omega
    simp only [g84_p15, g86_p13, e84 x0 x2 s3 hx h3 w3]
theorem law24 (x0 : Int) (s1 : Sl T175) (x2 : Int) (s3 : Sl T137) (_ : -9223372036854775808 ≤ x0 ∧ x0 ≤ 9223372036854775807) (c1 : Canon s1) (n1 : s1.n ≤ 1048576) (w1 : ∀ i, i < s1.n → W175 (s1.at' i)) (_ : -9223372036854775808 ≤ x2 ∧ x2 ≤ 9223372036854775807) (c3 : Canon s3) (n3 : s3.n ≤ 1048576) (w3 : ∀ i, i < s3.n → W137 (s3.at' i)) : g24 x0 s1 x2 s3 = true := by
  unfold g24
  simp only [g85_0, g85_1, g85_2, g79_0]
  rw [copy85 s3 c3 (by omega) w3, copy79 s1 c1 (by omega) w1, g84_eq x0 s1 x2 s3 (by omega) w1 (by omega) w3]
  simp
end Go.Proofs.Ytchhfojblmceiaa
