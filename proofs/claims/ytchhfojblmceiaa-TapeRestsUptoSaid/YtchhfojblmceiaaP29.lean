/-
  What is proved: a part of the laws of this seat, in plain Lean.
-/
import Derived.Test.YtchhfojblmceiaaV8
import Derived.Test.YtchhfojblmceiaaP18
import Derived.Test.YtchhfojblmceiaaP25
namespace Go.Proofs.Ytchhfojblmceiaa
open Go Go.Vc Go.RowKit
set_option maxRecDepth 100000
set_option maxHeartbeats 4000000
theorem cut67 (x0 x1 : Int) (x2 : Sl T68) (x3 : Int) (hz : g55 x0 x1 x2 = 0) (ha : g126 x0 x1 x2 x3 ≠ -1) (hb : g126 x0 x1 x2 x3 ≠ -2) (t : Int) : g68 x3 t (Sl.part x2 (IntKind.i64.wrap (x3 - x0)) ((x2.n : Nat) : Int)) x3 t (g67_r1 x0 x2 x3) = true := by
  have c := chk55 x0 x1 x2 hz
  have k := chk126 x0 x1 x2 x3 ⟨⟨ha, hb⟩, by omega, by omega⟩
  have w := wrap64 (x := x3 - x0) (by omega) (by omega)
  rw [rest67 x0 x2 x3 (by omega) (by omega) (by omega) k.2, w]
  refine same68 _ _ _ _ (by simp only [Sl.part_n]; omega) (by simp only [Sl.part_n, tab]; omega) fun i hi => ?_
  simp only [Sl.part_n] at hi
  simp only [Sl.part, tab, blt_t (show i < (x0 + (x2.n : Int) - x3).toNat by omega), cond_true]
  rw [wrap64 (x := x3 + 1 + (i : Int) - x0) (by omega) (by omega), wrap64 (x := x3 + 1 + (i : Int) - x0 - 1) (by omega) (by omega)]
  congr 1; omega
theorem snap0 {x3 x4 x5 : Int} {x6 : Sl T175} {x7 : Int} {x8 : Sl T137} (h : g89 x3 x4 x5 x6 x7 x8 = 0) : (1 ≤ x3 ∧ x3 ≤ 1048576) ∧ 1 ≤ x4 := by
  unfold g89 at h
  cases hm : g89_m1 x3 x4 with
  | true => rw [hm] at h; simp at h
  | false =>
    simp only [g89_m1, g120, in_not] at hm
    simp at hm
    omega
theorem law29 (x0 x1 : Int) (x2 : Sl T68) (x3 x4 x5 : Int) (x6 : Sl T175) (x7 : Int) (x8 : Sl T137) (h0 : -9223372036854775808 ≤ x0 ∧ x0 ≤ 9223372036854775807) (_ : -9223372036854775808 ≤ x1 ∧ x1 ≤ 9223372036854775807) (hc : Canon x2) (hm : x2.n ≤ 1048576)
    (h3 : -9223372036854775808 ≤ x3 ∧ x3 ≤ 9223372036854775807) (_ : -9223372036854775808 ≤ x4 ∧ x4 ≤ 9223372036854775807) (_ : -9223372036854775808 ≤ x5 ∧ x5 ≤ 9223372036854775807) (c1 : Canon x6) (n1 : x6.n ≤ 1048576) (w1 : ∀ i, i < x6.n → W175 (x6.at' i)) (_ : -9223372036854775808 ≤ x7 ∧ x7 ≤ 9223372036854775807) (c2 : Canon x8) (n2 : x8.n ≤ 1048576) (w2 : ∀ i, i < x8.n → W137 (x8.at' i)) :
    g29 x0 x1 x2 x3 x4 x5 x6 x7 x8 = true := by
  have hn : x2.n ≤ 549755813888 := by omega
  have hnil : g68 0 0 nilSl 0 0 nilSl = true := same68 0 0 _ _ (Nat.zero_le _) rfl (fun _ _ => rfl)
  have hsn : g68 x3 x4 nilSl x3 x4 nilSl = true := same68 x3 x4 _ _ (Nat.zero_le _) rfl (fun _ _ => rfl)
  simp only [g29, g29_m1, g54_0, g54_1, copy54 x2 hc hn, g88_0, g88_1, g88_2, g88_3, g88_4, g88_5, g85_0, g85_1, g85_2, g79_0, copy85 x8 c2 (by omega) w2, copy79 x6 c1 (by omega) w1]
  simp only [g97_0_0, g97_0_1, g97_0_2, g97_1, g98_0_0, g98_0_1, g98_0_2, g98_1, g98_m1, g53_eq x0 x1 x2 hn h0, g87_eq x3 x4 x5 x6 x7 x8 (by omega) w1 (by omega) w2]
  cases h : (g55 x0 x1 x2 != 0) with
  | true =>
    have h' : (g55 x0 x1 x2 == 0) = false := by simpa [bne] using h
    simp [h, h', hnil]
  | false =>
    have hz := bne_eq_false_iff_eq.1 h
    have h' : (g55 x0 x1 x2 == 0) = true := by simp [hz]
    simp only [h', cond_true, cond_false]
    cases hs : (g89 x3 x4 x5 x6 x7 x8 != 0) with
    | true => simp [hs, hnil]
    | false =>
      have b := snap0 (bne_eq_false_iff_eq.1 hs)
      simp only [cond_false, beq_self_eq_true, cond_true]
      obtain ⟨t1, t2⟩ := terms x0 x1 x2 x3 hz (by omega)
      have hm62 : g62_m1 x3 = false := by
        simp [g62_m1]; omega
      simp only [g177_0, g177_1, g177_2, g178_0, g178_1, g178_2, g177_m1, g62_0, g62_1, hm62, g66_0_0, g66_0_1, g66_0_2, g67_0_0, g67_0_1, g67_0_2, g53_eq x0 x1 x2 hn h0, h, cond_false]
      cases ha : (g126 x0 x1 x2 x3 == -1) with
      | true =>
        have e := eq_of_beq ha
        rw [ha] at t2; simp only [cond_true] at t2
        have : ((-1 : Int) == x4) = false := by simp; omega
        simp [t2, e, this, hsn]
      | false =>
        cases hb : (g126 x0 x1 x2 x3 == -2) with
        | true =>
          have e := eq_of_beq hb
          rw [ha, hb] at t2; simp only [cond_true, cond_false] at t2
          have : ((-2 : Int) == x4) = false := by simp; omega
          simp [t2, e, this, hsn]
        | false =>
          rw [ha, hb] at t1 t2
          simp only [cond_false] at t1 t2
          have hs := cut67 x0 x1 x2 x3 hz (ne_of_beq_false ha) (ne_of_beq_false hb) (g126 x0 x1 x2 x3)
          simp only [t1, t2, beq_self_eq_true, bne_self_eq_false, cond_true, cond_false]
          cases g126 x0 x1 x2 x3 == x4
          · exact hsn
          · exact hs
end Go.Proofs.Ytchhfojblmceiaa
