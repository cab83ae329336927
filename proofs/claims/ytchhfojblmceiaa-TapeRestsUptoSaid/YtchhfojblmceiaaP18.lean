/-
  What is proved: a part of the laws of this seat, in plain Lean.
-/
import Derived.Test.YtchhfojblmceiaaL2
import Derived.Test.YtchhfojblmceiaaP14
namespace Go.Proofs.Ytchhfojblmceiaa
open Go Go.Vc Go.RowKit
set_option maxRecDepth 100000
theorem same71 (x y : Sl T68) (hn : x.n ≤ 549755813888) (h1 : x.n = y.n) (h2 : ∀ i, i < x.n → x.at' i = y.at' i) : g71 x y = true := by
  have hs : g71_r1 x y = (false, default) := by
    rw [g71_r1, scan0 (g71_l2 x y) x.n _ (fun _ => false) hn (fun k i => rfl)]
    refine scan_clean _ _ fun j h3 h4 => ?_
    rw [h2 j.toNat (by omega)]
    simp
  simp [g71, g71_p2, hs, h1]
theorem same68 (a b : Int) (x y : Sl T68) (hn : x.n ≤ 549755813888) (h1 : x.n = y.n) (h2 : ∀ i, i < x.n → x.at' i = y.at' i) : g68 a b x a b y = true := by
  simp [g68, g68_m1, same71 x y hn h1 h2]
/-- What stands behind a place, copied one by one. -/
theorem rest67 (x0 : Int) (x2 : Sl T68) (x3 : Int) (h0 : 0 ≤ x0 ∧ x0 ≤ 1048576) (hn : x2.n ≤ 200) (h3 : x0 ≤ x3 ∧ x3 ≤ x0 + (x2.n : Int)) (e : g125 x0 x2 = x0 + (x2.n : Int)) :
    g67_r1 x0 x2 x3 = tab (fun i => x2.at' (Int.toNat (IntKind.i64.wrap (IntKind.i64.wrap (i - x0) - 1)))) (x3 + 1) (x0 + (x2.n : Int) - x3).toNat := by
  rw [g67_r1, wrap64 (x := x3 + 1) (by omega) (by omega)]
  have := copyLe (g67_l4 x0 x2) (g125 x0 x2) (fun i => x2.at' (Int.toNat (IntKind.i64.wrap (IntKind.i64.wrap (i - x0) - 1)))) (by omega) (fun _ _ _ => rfl) (x0 + (x2.n : Int) - x3).toNat (Int.toNat (g125 x0 x2 + 1 - (x3 + 1))) (x3 + 1) nilSl Canon.nil (by omega) (by omega) (by omega)
  rw [nil_app] at this
  exact this
theorem law18 (x0 x1 : Int) (x2 : Sl T68) (x3 : Int) (h0 : -9223372036854775808 ≤ x0 ∧ x0 ≤ 9223372036854775807) (_ : -9223372036854775808 ≤ x1 ∧ x1 ≤ 9223372036854775807) (hc : Canon x2) (hm : x2.n ≤ 1048576)
    (h3 : -9223372036854775808 ≤ x3 ∧ x3 ≤ 9223372036854775807) : g18 x0 x1 x2 x3 = true := by
  have hn : x2.n ≤ 549755813888 := by omega
  have hl := same68 x0 x1 x2 x2 hn rfl (fun _ _ => rfl)
  have hnil : g68 0 0 nilSl 0 0 nilSl = true := same68 0 0 _ _ (Nat.zero_le _) rfl (fun _ _ => rfl)
  simp only [g18, g18_m1, g54_0, g54_1, copy54 x2 hc hn, g66_0_0, g66_0_1, g66_0_2, g66_1, g67_0_0, g67_0_1, g67_0_2, g67_1, g53_eq x0 x1 x2 hn h0]
  cases h : (g55 x0 x1 x2 != 0) with
  | true => simp [hnil, hl]
  | false =>
    have hz := bne_eq_false_iff_eq.1 h
    have c := chk55 x0 x1 x2 hz
    obtain ⟨t1, t2⟩ := terms x0 x1 x2 x3 hz (by omega)
    simp only [cond_false]
    cases ha : (g126 x0 x1 x2 x3 == -1) with
    | true => rw [ha] at t2; simp only [cond_true] at t2; simp [t2, hnil, hl]
    | false =>
      cases hb : (g126 x0 x1 x2 x3 == -2) with
      | true => rw [ha, hb] at t2; simp only [cond_true, cond_false] at t2; simp [t2, hnil, hl]
      | false =>
        rw [ha, hb] at t1 t2
        simp only [cond_false] at t1 t2
        have k := chk126 x0 x1 x2 x3 ⟨⟨ne_of_beq_false ha, ne_of_beq_false hb⟩, by omega, by omega⟩
        have hs : g68 x3 (g126 x0 x1 x2 x3) (Sl.part x2 (IntKind.i64.wrap (x3 - x0)) ((x2.n : Nat) : Int)) x3 (g126 x0 x1 x2 x3) (g67_r1 x0 x2 x3) = true := by
          have w := wrap64 (x := x3 - x0) (by omega) (by omega)
          rw [rest67 x0 x2 x3 (by omega) (by omega) (by omega) k.2, w]
          refine same68 _ _ _ _ (by simp only [Sl.part_n]; omega) (by simp only [Sl.part_n, tab]; omega) fun i hi => ?_
          simp only [Sl.part_n] at hi
          simp only [Sl.part, tab, blt_t (show i < (x0 + (x2.n : Int) - x3).toNat by omega), cond_true]
          rw [wrap64 (x := x3 + 1 + (i : Int) - x0) (by omega) (by omega), wrap64 (x := x3 + 1 + (i : Int) - x0 - 1) (by omega) (by omega)]
          congr 1; omega
        simp [t1, t2, hs, hl]
end Go.Proofs.Ytchhfojblmceiaa
