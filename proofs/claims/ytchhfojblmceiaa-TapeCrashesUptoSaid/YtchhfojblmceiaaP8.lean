/-
  What is proved: a part of the laws of this seat, in plain Lean.
-/
import Derived.Test.YtchhfojblmceiaaT2
import Derived.Test.YtchhfojblmceiaaVcE
namespace Go.Proofs.Ytchhfojblmceiaa
open Go Go.Vc Go.RowKit
set_option maxRecDepth 100000
theorem str109 (s : Sl Int) (hn : s.n ≤ 549755813888) : Sl.toStr (g109 s nilSl) = Sl.toStr s := by
  have h1 : g109_r1 s = tab (fun i => s.at' (Int.toNat i)) 0 s.n := by
    have := copyL (g109_l1 s) s.n (fun i => s.at' (Int.toNat i)) hn (fun _ _ _ => rfl) s.n (Int.toNat ((s.n : Int) - 0)) 0 nilSl Canon.nil (Int.le_refl _) (by omega) (by omega)
    rw [nil_app] at this
    exact this
  have h2 : g109 s nilSl = tab (fun i => s.at' (Int.toNat i)) 0 s.n := by
    simp only [g109, g109_r2, h1]; rfl
  rw [h2]
  refine toStr_congr rfl fun i hi => ?_
  have hi : i < s.n := hi
  simp only [tab, blt_t hi, cond_true]
  congr 1; omega
theorem law8 (x0 : Sl Int) (x1 x2 : Int) (_ : Canon x0) (hm : x0.n ≤ 1048576) (_ : -9223372036854775808 ≤ x1 ∧ x1 ≤ 9223372036854775807) (_ : -9223372036854775808 ≤ x2 ∧ x2 ≤ 9223372036854775807) : g8 x0 x1 x2 = true := by
  have e : g108 x0 x1 = g107_1 x0 x1 := by
    simp only [g108, g108_m1, g107_1, g107_m1, g112, g112_m1]
    by_cases h1 : x1 < 0 <;> by_cases h2 : x1 > (x0.n : Int) <;> by_cases h3 : (x0.n : Int) > 400000 <;> simp [h1, h2, h3] <;> omega
  have hs : g41 x0 x1 x0 x1 = true := by simp [g41, g41_m1]
  simp only [g8, g8_m1, g38_0, g38_1, g82, g45_0_0, g45_0_1, g45_1, g46_0_0, g46_0_1, g46_1, e, hs]
  cases hb : g107_1 x0 x1 with
  | false => simp [g41, g41_m1]
  | true =>
    have hm : g107_m1 x0 x1 = false := by
      unfold g107_1 at hb
      cases hm : g107_m1 x0 x1 with
      | false => rfl
      | true => rw [hm] at hb; cases hb
    have h8 := h108 x0 x1 (by rw [e]; exact hb)
    simp only [g107_0_0, g107_0_1, hm, cond_false, Bool.not_true]
    by_cases a : x2 < 0
    · simp [a, g41, g41_m1]
    · simp only [a, decide_false, cond_false]
      have hn : IntKind.i64.wrap (x1 + imin x2 (IntKind.i64.wrap ((x0.n : Int) - x1))) = g46_m1 x0 x1 x2 := by
        unfold g46_m1 imin
        rw [wrap64 (x := (x0.n : Int) - x1) (by omega) (by omega)]
        by_cases b : x2 < (x0.n : Int) - x1
        · have c : ¬ (x0.n : Int) - x1 < x2 := by omega
          simp [b, c]
        · simp only [b, decide_false, cond_false]
          by_cases c : (x0.n : Int) - x1 < x2
          · simp only [c, decide_true, cond_true]
            rw [wrap64 (by omega) (by omega)]; omega
          · simp only [c, decide_false, cond_false]
            rw [wrap64 (by omega) (by omega)]; omega
      have hr := f46 x0 x1 x2 ⟨h8, by omega⟩
      rw [hn]
      simp [g41, g41_m1, str109 (Sl.part x0 0 (g46_m1 x0 x1 x2)) (by simp only [Sl.part_n]; omega)]
end Go.Proofs.Ytchhfojblmceiaa
