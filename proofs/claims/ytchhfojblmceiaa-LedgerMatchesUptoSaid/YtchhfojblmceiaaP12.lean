/-
  What is proved: a part of the laws of this seat, in plain Lean.
-/
import Derived.Test.YtchhfojblmceiaaM1
import Derived.Test.YtchhfojblmceiaaP0
import Derived.Test.YtchhfojblmceiaaVcH
namespace Go.Proofs.Ytchhfojblmceiaa
open Go Go.Vc Go.RowKit
set_option maxRecDepth 100000
theorem copy54 (x2 : Sl T68) (h : Canon x2) (hn : x2.n ≤ 549755813888) : g54_2 x2 = x2 := copy_id (g54_l1 x2) x2 h hn fun _ _ _ => rfl
theorem chk52 {x0 x1 : Int} {x2 : Bool} {x3 x4 x5 : Int} {x6 x7 x8 : ByteArray} {x9 : Int} (h : (g52 x0 x1 x2 x3 x4 x5 x6 x7 x8 x9 != 0) = false) : 0 ≤ x1 := by
  have h := bne_eq_false_iff_eq.1 h
  unfold g52 at h
  cases hm : g52_m1 x0 x1 with
  | true => rw [hm] at h; simp at h
  | false =>
    simp [g52_m1, g120, g112, g112_m1] at hm
    omega
/-- The two loops over a log's items come to the same. -/
theorem loops (x1 : Int) (x2 : Sl T68) (hn : x2.n ≤ 549755813888) : ∀ (m k : Nat) (i t u : Int), 0 ≤ i → i + (m : Int) = x2.n → m ≤ k → (i = 0 → t = x1 ∧ u = 0) → (0 < i → t = (x2.at' (Int.toNat (i - 1))).c0 ∧ u = (x2.at' (Int.toNat (i - 1))).c1 ∧ x1 ≤ t) →
    g53_l8 x2 (k + 1) t u i = g55_l7 x1 x2 (k + 1) i
  | 0, k, i, t, u, h0, hi, hk, _, _ => by
    have e : decide (i < (x2.n : Int)) = false := by simp; omega
    simp only [g53_l8, g55_l7, e, cond_false]
  | m + 1, k, i, t, u, h0, hi, hk, hs, hp => by
    obtain ⟨k, rfl⟩ : ∃ k', k = k' + 1 := ⟨k - 1, by omega⟩
    have e : decide (i < (x2.n : Int)) = true := by simp; omega
    have w1 : IntKind.i64.wrap (i + 1) = i + 1 := wrap64 (by omega) (by omega)
    have w2 : IntKind.i64.wrap (i - 1) = i - 1 := wrap64 (by omega) (by omega)
    rw [g53_l8, g55_l7, e]
    simp only [cond_true]
    have hb : g53_m5 x2 t u i = (bif g55_m3 x1 x2 i then true else g55_m5 x2 i) := by
      simp only [g53_m5, g55_m3, g55_m5, g51_eq, w2]
      cases hg : (g52 (x2.at' i.toNat).c0 (x2.at' i.toNat).c1 (x2.at' i.toNat).c2 (x2.at' i.toNat).c3 (x2.at' i.toNat).c4 (x2.at' i.toNat).c5 (x2.at' i.toNat).c6 (x2.at' i.toNat).c7 (x2.at' i.toNat).c8 (x2.at' i.toNat).c9 != 0) with
      | true => rfl
      | false =>
        have h52 := chk52 hg
        simp only [cond_false]
        by_cases hi0 : i = 0
        · obtain ⟨rfl, rfl⟩ := hs hi0
          have hd : decide (i > 0) = false := by simp; omega
          rw [hd]
          have h6 : ¬ (x2.at' i.toNat).c1 < 0 := by omega
          by_cases ha : (x2.at' i.toNat).c0 < t <;> simp [ha, h6]
        · obtain ⟨h1, h2, h3⟩ := hp (by omega)
          have hd : decide (i > 0) = true := by simp; omega
          rw [hd, ← h1, ← h2]
          simp only [cond_true]
          by_cases ha : (x2.at' i.toNat).c0 < t <;> by_cases hc : (x2.at' i.toNat).c0 < x1 <;> simp [ha, hc] <;> omega
    rw [hb]
    cases hm3 : g55_m3 x1 x2 i with
    | true => rfl
    | false =>
      simp only [cond_false]
      cases hm5 : g55_m5 x2 i with
      | true => rfl
      | false =>
        simp only [cond_false]
        rw [w1]
        have h3 : x1 ≤ (x2.at' i.toNat).c0 := by
          simp only [g55_m3] at hm3
          generalize (g52 _ _ _ _ _ _ _ _ _ _ != 0) = b at hm3
          cases b with
          | true => cases hm3
          | false =>
            have := of_decide_eq_false hm3
            omega
        refine loops x1 x2 hn m k (i + 1) _ _ (by omega) (by omega) (by omega) (fun h => by omega) fun _ => ?_
        rw [show i + 1 - 1 = i by omega]
        exact ⟨rfl, rfl, h3⟩
theorem g53_eq (x0 x1 : Int) (x2 : Sl T68) (hn : x2.n ≤ 549755813888) (h0 : -9223372036854775808 ≤ x0 ∧ x0 ≤ 9223372036854775807) : g53 x0 x1 x2 = g55 x0 x1 x2 := by
  have hr : g53_r6 x1 x2 = g55_r6 x1 x2 := loops x1 x2 hn x2.n _ 0 x1 0 (Int.le_refl _) (by omega) (by omega) (fun _ => ⟨rfl, rfl⟩) (fun h => by omega)
  have hm : g53_m1 x0 x1 x2 = g55_m1 x0 x1 x2 := by
    simp only [g53_m1, g55_m1, g112, g112_m1]
    by_cases a : x0 < 0
    · have a' : ¬ 0 ≤ x0 := by omega
      simp [a, a']
    · have a' : 0 ≤ x0 := by omega
      by_cases b : x1 < 0
      · have b' : ¬ 0 ≤ x1 := by omega
        simp [a, a', b, b']
      · have b' : 0 ≤ x1 := by omega
        by_cases c : x1 > 1048576
        · have c' : ¬ x1 ≤ 1048576 := by omega
          simp [a, b, c, c', a', b']
        · have c' : x1 ≤ 1048576 := by omega
          by_cases d : (x2.n : Int) > 200
          · simp [a, a', b, b', c, c', d]
          · rw [wrap64 (x := 1048576 - (x2.n : Int)) (by omega) (by omega)]
            by_cases e : x0 ≤ 1048576
            · rw [wrap64 (x := x0 + (x2.n : Int)) (by omega) (by omega)]
              by_cases f : x0 > 1048576 - (x2.n : Int)
              · have f' : x0 + (x2.n : Int) > 1048576 := by omega
                simp [a, a', b, b', c, c', d, e, f, f']
              · have f' : ¬ x0 + (x2.n : Int) > 1048576 := by omega
                simp [a, a', b, b', c, c', d, e, f, f']
            · have f : x0 > 1048576 - (x2.n : Int) := by omega
              simp [a, a', b, b', c, c', d, e, f]
  simp only [g53, g55, g53_p7, g55_p7, hm, hr]
end Go.Proofs.Ytchhfojblmceiaa
