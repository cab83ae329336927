/-
  What is proved: a part of the laws of this seat, in plain Lean.
-/
import Derived.Test.YtchhfojblmceiaaL3
import Derived.Test.YtchhfojblmceiaaP18
namespace Go.Proofs.Ytchhfojblmceiaa
open Go Go.Vc Go.RowKit
set_option maxRecDepth 100000
theorem behind (x0 : Int) (x2 : Sl T68) (x3 x4 : Int) (h0 : 0 ≤ x0 ∧ x0 ≤ 1048576) (hn : x2.n ≤ 200) (h3 : x0 ≤ x3 ∧ x3 ≤ x0 + (x2.n : Int)) (h4 : 0 ≤ x4) (e : g125 x0 x2 = x0 + (x2.n : Int)) :
    ∀ (m k : Nat) (i : Int) (s : Sl T68), Canon s → i = x3 + 1 + (s.n : Int) → ((s.n : Int) + m = x0 + (x2.n : Int) - x3 ∧ (s.n : Int) + m ≤ x4 ∨ (s.n : Int) + m = x4 ∧ (s.n : Int) + m ≤ x0 + (x2.n : Int) - x3) → m ≤ k →
      g70_l8 x0 x2 x4 (k + 1) i s = s.app (tab (fun i => x2.at' (Int.toNat (IntKind.i64.wrap (IntKind.i64.wrap (i - x0) - 1)))) i m)
  | 0, k, i, s, hs, hi, hm, hk => by
    rw [g70_l8]
    have : g70_m5 x0 x2 x4 i s = false := by
      simp only [g70_m5, e]
      by_cases a : i ≤ x0 + (x2.n : Int)
      · simp only [a, decide_true, cond_true]
        simp; omega
      · simp [a]
    rw [this, app_nil hs]; rfl
  | m + 1, k, i, s, hs, hi, hm, hk => by
    obtain ⟨k, rfl⟩ : ∃ k', k = k' + 1 := ⟨k - 1, by omega⟩
    rw [g70_l8]
    have : g70_m5 x0 x2 x4 i s = true := by
      simp only [g70_m5, e]
      have a : i ≤ x0 + (x2.n : Int) := by omega
      have b : (s.n : Int) < x4 := by omega
      simp [a, b]
    rw [this]
    simp only [cond_true]
    rw [wrap64 (x := i + 1) (by omega) (by omega), behind x0 x2 x3 x4 h0 hn h3 h4 e m k (i + 1) _ (Canon.app (Canon.lit _)) (by simp only [Sl.app_n, Sl.lit_n, List.length_cons, List.length_nil]; omega) (by simp only [Sl.app_n, Sl.lit_n, List.length_cons, List.length_nil]; omega) (by omega)]
    exact app_tab s (fun i => x2.at' (Int.toNat (IntKind.i64.wrap (IntKind.i64.wrap (i - x0) - 1)))) i m
theorem law19 (x0 x1 : Int) (x2 : Sl T68) (x3 x4 : Int) (h0 : -9223372036854775808 ≤ x0 ∧ x0 ≤ 9223372036854775807) (_ : -9223372036854775808 ≤ x1 ∧ x1 ≤ 9223372036854775807) (hc : Canon x2) (hm : x2.n ≤ 1048576)
    (h3 : -9223372036854775808 ≤ x3 ∧ x3 ≤ 9223372036854775807) (h4 : -9223372036854775808 ≤ x4 ∧ x4 ≤ 9223372036854775807) : g19 x0 x1 x2 x3 x4 = true := by
  have hn : x2.n ≤ 549755813888 := by omega
  have hnil : g71 nilSl nilSl = true := same71 _ _ (Nat.zero_le _) rfl (fun _ _ => rfl)
  simp only [g19, g19_m1, g54_0, g54_1, copy54 x2 hc hn, g69_0, g69_1, g70_0, g70_1, g53_eq x0 x1 x2 hn h0]
  cases h : (g55 x0 x1 x2 != 0) with
  | true =>
    have h' : (g55 x0 x1 x2 == 0) = false := by simpa [bne] using h
    have e1 : g70_m2 x0 x1 x2 x3 x4 = g55 x0 x1 x2 := by simp [g70_m2, g70_m1, h']
    have e2 : g70_m3 x0 x1 x2 x3 x4 = g55 x0 x1 x2 := by simp [g70_m3, e1, h']
    simp [e2, h, hnil]
  | false =>
    have hz := bne_eq_false_iff_eq.1 h
    have c := chk55 x0 x1 x2 hz
    have h' : (g55 x0 x1 x2 == 0) = true := by simp [hz]
    have hr : g70_m1 x0 x1 x2 x3 x4 = g69_m1 x3 x4 := by
      simp only [g69_m1, g70_m1, h', cond_true, g112, g112_m1]
      by_cases a : x3 < 0
      · have a' : ¬ 0 ≤ x3 := by omega
        simp [a, a']
      · have a' : 0 ≤ x3 := by omega
        by_cases b : x3 > 1048576
        · have b' : ¬ x3 ≤ 1048576 := by omega
          simp [a, a', b, b']
        · have b' : x3 ≤ 1048576 := by omega
          simp [a, a', b, b']
    have e1 : g70_m2 x0 x1 x2 x3 x4 = bif g69_m1 x3 x4 then 2 else 0 := by simp [g70_m2, hr, hz]
    cases hb : g69_m1 x3 x4 with
    | true =>
      have e2 : g70_m3 x0 x1 x2 x3 x4 = 2 := by simp [g70_m3, e1, hb]
      simp [e2, hnil]
    | false =>
      have hx : 0 ≤ x3 ∧ x3 ≤ 1048576 ∧ 0 ≤ x4 := by
        simp [g69_m1] at hb
        omega
      obtain ⟨t1, t2⟩ := terms x0 x1 x2 x3 hz (by omega)
      have e63 : g63_1 x0 x1 x2 x3 = g127_1 x0 x2 x3 := by
        have a1 : 0 ≤ x3 := hx.1
        have a2 : x3 ≤ 1048576 := hx.2.1
        have q1 : g63_m1 x0 x1 x2 x3 = false := by simp [g63_m1, g112, g112_m1, a1, a2]
        have q2 : g63_m2 x0 x1 x2 x3 = 0 := by simp [g63_m2, q1, hz]
        simp only [g63_1, q2, t2]
        rfl
      have e2 : g70_m3 x0 x1 x2 x3 x4 = g127_1 x0 x2 x3 := by simp [g70_m3, e1, hb, e63]
      simp only [e2, cond_false]
      cases hd : (g127_1 x0 x2 x3 != 0) with
      | true => simp [hnil]
      | false =>
        have k := chk127 x0 x2 x3 ⟨bne_eq_false_iff_eq.1 hd, by omega, by omega, by omega⟩
        have e := e125i x0 x2 ⟨by omega, by omega⟩
        have w := wrap64 (x := x3 - x0) (by omega) (by omega)
        have hN : (Int.toNat (((x2.n : Nat) : Int) - (x3 - x0)) : Int) = (x2.n : Int) - (x3 - x0) := by omega
        have hi := imin_spec ((x2.n : Int) - (x3 - x0)) x4
        simp only [cond_false, beq_self_eq_true, cond_true]
        rw [w, hN]
        generalize hM : imin ((x2.n : Int) - (x3 - x0)) x4 = M at hi ⊢
        have hl := behind x0 x2 x3 x4 (by omega) (by omega) k hx.2.2 e M.toNat (Int.toNat (g125 x0 x2 + 1 - (x3 + 1))) (x3 + 1) nilSl Canon.nil (by simp [nilSl]) (by simp only [nilSl_n]; omega) (by omega)
        rw [nil_app] at hl
        have hr6 : g70_r6 x0 x2 x3 x4 = tab (fun i => x2.at' (Int.toNat (IntKind.i64.wrap (IntKind.i64.wrap (i - x0) - 1)))) (x3 + 1) M.toNat := by
          rw [g70_r6, wrap64 (x := x3 + 1) (by omega) (by omega)]; exact hl
        rw [hr6]
        refine same71 _ _ (by simp only [Sl.part_n]; omega) (by simp only [Sl.part_n, tab]; omega) fun i hi' => ?_
        simp only [Sl.part_n] at hi'
        simp only [Sl.part, tab, blt_t (show i < M.toNat by omega), cond_true]
        rw [wrap64 (x := x3 + 1 + (i : Int) - x0) (by omega) (by omega), wrap64 (x := x3 + 1 + (i : Int) - x0 - 1) (by omega) (by omega)]
        congr 1; omega
end Go.Proofs.Ytchhfojblmceiaa
