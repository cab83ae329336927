/-
  What is proved: a part of the laws of this seat, in plain Lean.
-/
import Derived.Test.YtchhfojblmceiaaN14
import Derived.Test.YtchhfojblmceiaaP12
namespace Go.Proofs.Ytchhfojblmceiaa
open Go Go.Vc Go.RowKit
theorem last0 (x0 : Int) (x2 : Sl T68) (h1 : 0 ≤ x0) (h2 : x0 ≤ 1048576) (h3 : x2.n ≤ 200) : g124_0 x0 x2 = x0 + (x2.n : Int) ∧ g125 x0 x2 = x0 + (x2.n : Int) := by
  refine ⟨?_, e125 x0 x2 h1 h2 (by omega)⟩
  unfold g124_0
  by_cases h : (x2.n : Int) > 0
  · simp only [h, decide_true, cond_true]
    exact wrap64 (by omega) (by omega)
  · simp only [h, decide_false, cond_false]
    omega
theorem last1 (x0 x1 : Int) (x2 : Sl T68) (h1 : 0 ≤ x0) (h2 : x0 ≤ 1048576) (h3 : x2.n ≤ 200) : g126 x0 x1 x2 (x0 + (x2.n : Int)) = g124_1 x1 x2 := by
  simp only [g126, g124_1, (last0 x0 x2 h1 h2 h3).2]
  have a1 : ¬ x0 + (x2.n : Int) < x0 := by omega
  have a2 : ¬ x0 + (x2.n : Int) > x0 + (x2.n : Int) := by omega
  simp only [a1, a2, decide_false, cond_false]
  by_cases h : (x2.n : Int) > 0
  · have a3 : (x0 + (x2.n : Int) == x0) = false := by simp; omega
    simp only [a3, cond_false, h, decide_true, cond_true]
    rw [wrap64 (x := x0 + (x2.n : Int) - x0) (by omega) (by omega), show x0 + (x2.n : Int) - x0 = (x2.n : Int) by omega]
  · have a3 : (x0 + (x2.n : Int) == x0) = true := by simp; omega
    simp only [a3, cond_true, h, decide_false, cond_false]
theorem law14 (x0 x1 : Int) (x2 : Sl T68) (h0 : -9223372036854775808 ≤ x0 ∧ x0 ≤ 9223372036854775807) (_ : -9223372036854775808 ≤ x1 ∧ x1 ≤ 9223372036854775807) (hc : Canon x2) (hm : x2.n ≤ 1048576) : g14 x0 x1 x2 = true := by
  have hn : x2.n ≤ 549755813888 := by omega
  simp only [g14, g14_m1, g54_0, g54_1, copy54 x2 hc hn, g58_0, g58_1, g58_2, g59_0, g59_1, g59_2, g53_eq x0 x1 x2 hn h0]
  cases h : (g55 x0 x1 x2 != 0) with
  | true => simp
  | false =>
    have c := chk55 x0 x1 x2 (bne_eq_false_iff_eq.1 h)
    obtain ⟨e1, e2⟩ := last0 x0 x2 (by omega) (by omega) (by omega)
    have e3 := last1 x0 x1 x2 (by omega) (by omega) (by omega)
    simp [e1, e2, e3]
theorem law15 (x0 x1 : Int) (x2 : Sl T68) (x3 x4 : Int) (h0 : -9223372036854775808 ≤ x0 ∧ x0 ≤ 9223372036854775807) (_ : -9223372036854775808 ≤ x1 ∧ x1 ≤ 9223372036854775807) (hc : Canon x2) (hm : x2.n ≤ 1048576)
    (_ : -9223372036854775808 ≤ x3 ∧ x3 ≤ 9223372036854775807) (_ : -9223372036854775808 ≤ x4 ∧ x4 ≤ 9223372036854775807) : g15 x0 x1 x2 x3 x4 = true := by
  have hn : x2.n ≤ 549755813888 := by omega
  simp only [g15, g15_m1, g54_0, g54_1, copy54 x2 hc hn, g60_0, g60_1, g61_0, g61_1, g53_eq x0 x1 x2 hn h0]
  cases h : (g55 x0 x1 x2 != 0) with
  | true => simp
  | false =>
    have c := chk55 x0 x1 x2 (bne_eq_false_iff_eq.1 h)
    obtain ⟨e1, e2⟩ := last0 x0 x2 (by omega) (by omega) (by omega)
    have e3 := last1 x0 x1 x2 (by omega) (by omega) (by omega)
    simp only [g60_m1, e1, e2, e3, cond_false]
    by_cases a : x4 > g124_1 x1 x2
    · have b : (x4 != g124_1 x1 x2) = true := by simp; omega
      simp [a, b]
    · by_cases b : x4 = g124_1 x1 x2
      · simp [b]
      · have b' : (x4 != g124_1 x1 x2) = true := by simp [b]
        simp [a, b, b']
theorem chk52a {x0 x1 : Int} {x2 : Bool} {x3 x4 x5 : Int} {x6 x7 x8 : ByteArray} {x9 : Int} (h : (g52 x0 x1 x2 x3 x4 x5 x6 x7 x8 x9 != 0) = false) : 1 ≤ x0 := by
  have h := bne_eq_false_iff_eq.1 h
  unfold g52 at h
  cases hm : g52_m1 x0 x1 with
  | true => rw [hm] at h; simp at h
  | false =>
    simp [g52_m1, g120, g112, g112_m1] at hm
    omega
theorem scan55 (x1 : Int) (x2 : Sl T68) (hn : x2.n ≤ 549755813888) : g55_r6 x1 x2 = scan (fun i => bif g55_m3 x1 x2 i then true else g55_m5 x2 i) (fun _ => 13) x2.n 0 := scan0 (g55_l6 x1 x2) x2.n _ _ hn fun k i => by
  rw [g55_l6]
  cases g55_m3 x1 x2 i <;> rfl
theorem items55 (x0 x1 : Int) (x2 : Sl T68) (h : g55 x0 x1 x2 = 0) (i : Nat) (hi : i < x2.n) : 1 ≤ (x2.at' i).c0 := by
  have c := chk55 x0 x1 x2 h
  have hs := scan55 x1 x2 (by omega)
  unfold g55 at h
  cases hm : g55_m1 x0 x1 x2 with
  | true => rw [hm] at h; simp at h
  | false =>
    rw [hm] at h
    cases hr : (g55_r6 x1 x2).1 with
    | true =>
      have h2 : (g55_r6 x1 x2).2 = 13 := by
        rw [hs] at hr ⊢
        obtain ⟨_, _, _, _, h4⟩ := scan_snd _ _ hr
        exact h4
      simp [g55_p7, hr, h2] at h
    | false =>
      rw [hs] at hr
      have this : (bif g55_m3 x1 x2 (i : Int) then true else g55_m5 x2 (i : Int)) = false := scan_none _ _ hr (i : Int) (by omega) (by omega)
      cases h3 : g55_m3 x1 x2 (i : Int) with
      | true => rw [h3] at this; cases this
      | false =>
        simp only [g55_m3, Int.toNat_natCast] at h3
        cases hg : (g52 (x2.at' i).c0 (x2.at' i).c1 (x2.at' i).c2 (x2.at' i).c3 (x2.at' i).c4 (x2.at' i).c5 (x2.at' i).c6 (x2.at' i).c7 (x2.at' i).c8 (x2.at' i).c9 != 0) with
        | true => rw [hg] at h3; cases h3
        | false => exact chk52a hg
/-- The term of a place: both ways to tell it. -/
theorem terms (x0 x1 : Int) (x2 : Sl T68) (x3 : Int) (h : g55 x0 x1 x2 = 0) (hx : x3 ≤ 9223372036854775807) :
    g127_0 x0 x1 x2 x3 = (bif (g126 x0 x1 x2 x3 == -1) then 0 else bif (g126 x0 x1 x2 x3 == -2) then 0 else g126 x0 x1 x2 x3) ∧ g127_1 x0 x2 x3 = (bif (g126 x0 x1 x2 x3 == -1) then 11 else bif (g126 x0 x1 x2 x3 == -2) then 5 else 0) := by
  have c := chk55 x0 x1 x2 h
  have e := (last0 x0 x2 (by omega) (by omega) (by omega)).2
  simp only [g127_0, g127_1, g126, e]
  by_cases a : x3 < x0
  · simp [a]
  · simp only [a, decide_false, cond_false]
    have w : IntKind.i64.wrap (x3 - x0) = x3 - x0 := wrap64 (by omega) (by omega)
    rw [w]
    by_cases b : x3 = x0
    · have b1 : (x3 == x0) = true := by simp [b]
      have b2 : ¬ x3 > x0 + (x2.n : Int) := by omega
      have b3 : (x1 == -1) = false := by simp; omega
      have b4 : (x1 == -2) = false := by simp; omega
      simp only [b1, b2, b3, b4, decide_false, cond_true, cond_false, and_self]
    · have b1 : (x3 == x0) = false := by simp [b]
      by_cases d : x3 - x0 > (x2.n : Int)
      · have d1 : x3 > x0 + (x2.n : Int) := by omega
        simp [b1, d, d1]
      · have d1 : ¬ x3 > x0 + (x2.n : Int) := by omega
        have w2 : IntKind.i64.wrap (x3 - x0 - 1) = x3 - x0 - 1 := wrap64 (by omega) (by omega)
        have h1 := items55 x0 x1 x2 h (x3 - x0 - 1).toNat (by omega)
        have d2 : ((x2.at' (x3 - x0 - 1).toNat).c0 == -1) = false := by rw [beq_eq_false_iff_ne]; omega
        have d3 : ((x2.at' (x3 - x0 - 1).toNat).c0 == -2) = false := by rw [beq_eq_false_iff_ne]; omega
        simp only [w2, b1, d, d1, d2, d3, decide_false, cond_false, and_self]
theorem law16 (x0 x1 : Int) (x2 : Sl T68) (x3 : Int) (h0 : -9223372036854775808 ≤ x0 ∧ x0 ≤ 9223372036854775807) (_ : -9223372036854775808 ≤ x1 ∧ x1 ≤ 9223372036854775807) (hc : Canon x2) (hm : x2.n ≤ 1048576)
    (_ : -9223372036854775808 ≤ x3 ∧ x3 ≤ 9223372036854775807) : g16 x0 x1 x2 x3 = true := by
  have hn : x2.n ≤ 549755813888 := by omega
  simp only [g16, g16_m1, g54_0, g54_1, copy54 x2 hc hn, g62_0, g62_1, g63_0, g63_1, g63_m2, g63_m1, g53_eq x0 x1 x2 hn h0]
  cases h : (g55 x0 x1 x2 != 0) with
  | true =>
    have h' : (g55 x0 x1 x2 == 0) = false := by simpa [bne] using h
    simp [h, h']
  | false =>
    have hz := bne_eq_false_iff_eq.1 h
    have c := chk55 x0 x1 x2 hz
    have h' : (g55 x0 x1 x2 == 0) = true := by simp [hz]
    have hr : g62_m1 x3 = !(g112 x3 0 1048576) := by
      simp only [g62_m1, g112, g112_m1]
      by_cases a : x3 < 0
      · have a' : ¬ 0 ≤ x3 := by omega
        simp [a, a']
      · have a' : 0 ≤ x3 := by omega
        by_cases b : x3 > 1048576
        · have b' : ¬ x3 ≤ 1048576 := by omega
          simp [a, a', b, b']
        · have b' : x3 ≤ 1048576 := by omega
          simp [a, a', b, b']
    simp only [h', hr, cond_true, cond_false]
    cases hb : !(g112 x3 0 1048576) with
    | true => simp
    | false =>
      obtain ⟨t1, t2⟩ := terms x0 x1 x2 x3 hz (by omega)
      simp only [hz, t1, t2, cond_false, bne_self_eq_false]
      simp
end Go.Proofs.Ytchhfojblmceiaa
