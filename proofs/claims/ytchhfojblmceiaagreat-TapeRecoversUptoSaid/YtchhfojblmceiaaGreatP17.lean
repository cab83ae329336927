/-
  What is proved: a part of the laws of this seat, in plain Lean.
-/
import Derived.Test.YtchhfojblmceiaaGreatHA
import Derived.Test.YtchhfojblmceiaaGreatPA
import Derived.Test.YtchhfojblmceiaaGreatVcH
namespace Go.Proofs.YtchhfojblmceiaaGreat
open Go Go.Vc Go.RowKit
set_option maxRecDepth 100000
/-- A byte of a number: how the program and the document reckon it. -/
def pb (x : Int) (s : Nat) : Int := IntKind.u8.wrap ((IntKind.u64.wrap (IntKind.i64.wrap (x + 4611686018427387904))) / 2 ^ s)
theorem B154 (x0 : Int) (x1 : Sl Int) : (g154 x0 x1).B = x1.B ++ [pb x0 56, pb x0 48, pb x0 40, pb x0 32, pb x0 24, pb x0 16, pb x0 8, pb x0 0] := by
  have h : g154 x0 x1 = Sl.app (Sl.app (Sl.app (Sl.app (Sl.app (Sl.app (Sl.app (Sl.app x1 (Sl.lit [pb x0 56])) (Sl.lit [pb x0 48])) (Sl.lit [pb x0 40])) (Sl.lit [pb x0 32])) (Sl.lit [pb x0 24])) (Sl.lit [pb x0 16])) (Sl.lit [pb x0 8])) (Sl.lit [pb x0 0]) := by kernel_rfl
  rw [h]
  simp only [B_app, B_lit, List.append_assoc, List.cons_append, List.nil_append]
/-- What is left of a number, byte by byte. -/
def q256 (y : Int) : Nat → Int
  | 0 => y
  | k + 1 => IntKind.i64.wrap ((q256 y k).tdiv 256)
def rb (y : Int) (k : Nat) : Int := IntKind.u8.wrap ((q256 y k).tmod 256)
theorem B194 (x0 : Int) : (g194 x0).B = [rb (IntKind.i64.wrap (x0 + 4611686018427387904)) 7, rb (IntKind.i64.wrap (x0 + 4611686018427387904)) 6, rb (IntKind.i64.wrap (x0 + 4611686018427387904)) 5, rb (IntKind.i64.wrap (x0 + 4611686018427387904)) 4, rb (IntKind.i64.wrap (x0 + 4611686018427387904)) 3, rb (IntKind.i64.wrap (x0 + 4611686018427387904)) 2, rb (IntKind.i64.wrap (x0 + 4611686018427387904)) 1, rb (IntKind.i64.wrap (x0 + 4611686018427387904)) 0] := by
  generalize hy : IntKind.i64.wrap (x0 + 4611686018427387904) = y
  have h : g194 x0 = Sl.upd (Sl.upd (Sl.upd (Sl.upd (Sl.upd (Sl.upd (Sl.upd (Sl.upd (Sl.rep 8 0) 7 (rb (IntKind.i64.wrap (x0 + 4611686018427387904)) 0)) 6 (rb (IntKind.i64.wrap (x0 + 4611686018427387904)) 1)) 5 (rb (IntKind.i64.wrap (x0 + 4611686018427387904)) 2)) 4 (rb (IntKind.i64.wrap (x0 + 4611686018427387904)) 3)) 3 (rb (IntKind.i64.wrap (x0 + 4611686018427387904)) 4)) 2 (rb (IntKind.i64.wrap (x0 + 4611686018427387904)) 5)) 1 (rb (IntKind.i64.wrap (x0 + 4611686018427387904)) 6)) 0 (rb (IntKind.i64.wrap (x0 + 4611686018427387904)) 7) := by kernel_rfl
  rw [h, hy]
  simp only [B_upd, B_rep]
  rfl
theorem q256_eq (y : Int) (h0 : 0 ≤ y) (h1 : y < 9223372036854775808) : ∀ k, 0 ≤ q256 y k ∧ q256 y k ≤ y ∧ q256 y k = y / 2 ^ (8 * k)
  | 0 => ⟨h0, Int.le_refl _, by simp [q256]⟩
  | k + 1 => by
    obtain ⟨a, b, c⟩ := q256_eq y h0 h1 k
    have e1 : (q256 y k).tdiv 256 = q256 y k / 256 := Int.tdiv_eq_ediv_of_nonneg a
    have e2 : 0 ≤ q256 y k / 256 := by omega
    have e3 : q256 y k / 256 ≤ q256 y k := by omega
    have e4 : q256 y (k + 1) = q256 y k / 256 := by
      simp only [q256, e1]
      exact wrap64 (by omega) (by omega)
    refine ⟨by omega, by omega, ?_⟩
    rw [e4, c, Int.ediv_ediv_of_nonneg (Int.pow_nonneg (by omega)), show (256 : Int) = 2 ^ 8 by decide, ← Int.pow_add, show 8 * k + 8 = 8 * (k + 1) by omega]
theorem byte_eq (x : Int) (k : Nat) (h0 : 0 ≤ x + 4611686018427387904) (h1 : x + 4611686018427387904 < 9223372036854775808) : rb (IntKind.i64.wrap (x + 4611686018427387904)) k = pb x (8 * k) := by
  have hw : IntKind.i64.wrap (x + 4611686018427387904) = x + 4611686018427387904 := wrap64 (by omega) (by omega)
  have hu : IntKind.u64.wrap (x + 4611686018427387904) = x + 4611686018427387904 := by
    rw [IntKind.wrap_u64]; omega
  unfold rb pb
  rw [hw, hu]
  obtain ⟨a, b, c⟩ := q256_eq _ h0 h1 k
  rw [c] at a ⊢
  rw [IntKind.wrap_u8, IntKind.wrap_u8, Int.tmod_eq_emod_of_nonneg a]
  omega
theorem B194_eq (x0 : Int) (x1 : Sl Int) (h0 : 0 ≤ x0 + 4611686018427387904) (h1 : x0 + 4611686018427387904 < 9223372036854775808) : (g154 x0 x1).B = x1.B ++ (g194 x0).B := by
  rw [B154, B194]
  rw [byte_eq x0 7 h0 h1, byte_eq x0 6 h0 h1, byte_eq x0 5 h0 h1, byte_eq x0 4 h0 h1, byte_eq x0 3 h0 h1, byte_eq x0 2 h0 h1, byte_eq x0 1 h0 h1, byte_eq x0 0 h0 h1]
theorem B109 (x0 x1 : Sl Int) (h : x0.n + x1.n ≤ 549755813888) : (g109 x0 x1).B = x0.B ++ x1.B := by
  have h1 : (g109_r1 x0).B = [] ++ x0.B.drop 0 := copyB (g109_l1 x0) x0 (by omega) (fun _ _ _ => rfl) _ 0 nilSl (by omega) (by omega)
  have h2 : (g109_r2 x0 x1).B = (g109_r1 x0).B ++ x1.B.drop 0 := copyB (g109_l7 x1) x1 (by omega) (fun _ _ _ => rfl) _ 0 _ (by omega) (by omega)
  show (g109_r2 x0 x1).B = _
  rw [h2, h1]; rfl
theorem t119 (x : Int) : g119 x = true → 1 ≤ x ∧ x ≤ 1048576 := by
  intro h
  simp only [g119, g119_m1] at h
  by_cases a : x ≥ 1
  · simp [a] at h; omega
  · simp [a] at h
theorem t117 (x : Int) : g117 x = true → -1099511627776 ≤ x ∧ x ≤ 1099511627776 := by
  intro h
  simp only [g117, g117_m1] at h
  by_cases a : x ≥ -1099511627776
  · simp [a] at h; omega
  · simp [a] at h
theorem t47 (x0 : Int) (x1 x2 x3 : ByteArray) (x4 : Int) (h : g47 x0 x1 x2 x3 x4 = 0) : -1099511627776 ≤ x4 ∧ x4 ≤ 1099511627776 := by
  unfold g47 at h
  cases h1 : g47_m1 x0 with
  | true => rw [h1] at h; cases h
  | false =>
    rw [h1] at h
    simp only [cond_false] at h
    generalize (!((x0 == x0) && ((x1.toList == (g47_m5 x0 x1).toList) && ((x2.toList == (g47_m6 x0 x2).toList) && ((x3.toList == (g47_m7 x0 x3).toList) && ((x4 == g47_m8 x0 x4) && true)))))) = b at h
    cases b with
    | true => cases h
    | false =>
      simp only [cond_false] at h
      cases h2 : g47_m9 x0 x1 x2 x3 with
      | true => rw [h2] at h; cases h
      | false =>
        rw [h2] at h
        simp only [cond_false] at h
        cases h3 : g117 x4 with
        | true => exact t117 x4 h3
        | false => rw [h3] at h; cases h
theorem t49 (x0 x1 x2 : Int) (x3 x4 x5 : ByteArray) (x6 : Int) (h : g49 x0 x1 x2 x3 x4 x5 x6 = 0) : x0 = 0 ∨ ((1 ≤ x0 ∧ x0 ≤ 1048576) ∧ (1 ≤ x1 ∧ x1 ≤ 1048576) ∧ -1099511627776 ≤ x6 ∧ x6 ≤ 1099511627776) := by
  unfold g49 at h
  by_cases a : x0 = 0
  · exact .inl a
  · rw [beq_eq_false_iff_ne.2 a] at h
    simp only [cond_false, g49_m1] at h
    cases h1 : g119 x0 with
    | false => rw [h1] at h; cases h
    | true =>
      cases h2 : g119 x1 with
      | false => rw [h1, h2] at h; cases h
      | true =>
        rw [h1, h2] at h
        exact .inr ⟨t119 _ h1, t119 _ h2, t47 _ _ _ _ _ h⟩
theorem t51 (x0 x1 : Int) (x2 : Bool) (x3 x4 x5 : Int) (x6 x7 x8 : ByteArray) (x9 : Int) (h : g51 x0 x1 x2 x3 x4 x5 x6 x7 x8 x9 = 0) : ((1 ≤ x0 ∧ x0 ≤ 1048576) ∧ 0 ≤ x1 ∧ x1 ≤ 1073741824) ∧ (x2 = false → g49 x3 x4 x5 x6 x7 x8 x9 = 0) := by
  unfold g51 at h
  cases h1 : g51_m1 x0 x1 with
  | true => rw [h1] at h; cases h
  | false =>
    rw [h1] at h
    simp only [cond_false] at h
    refine ⟨?_, fun e => by rw [e] at h; exact h⟩
    unfold g51_m1 at h1
    by_cases a : x0 < 1
    · simp [a] at h1
    · by_cases b : x0 > 1048576
      · simp [a, b] at h1
      · by_cases c : x1 < 0
        · simp [a, b, c] at h1
        · simp [a, b, c] at h1
          omega
theorem B195 (x : ByteArray) (h : x.size ≤ 10000000000) (w : Sl Int) : (g156 x w).B = w.B ++ (g195 x).B := by
  have h1 : (g195 x).B = [IntKind.u8.wrap (x.size : Int)] ++ (Sl.ofStr x).B := by
    unfold g195
    rw [B109 _ _ (by simp only [Sl.lit_n, Sl.ofStr, List.length_cons, List.length_nil]; omega), B_lit]
  rw [h1]
  unfold g156 g155
  rw [B_app, B_app, B_lit, List.append_assoc]
theorem item_bytes (x0 x1 : Int) (x2 : Bool) (x3 x4 x5 : Int) (x6 x7 x8 : ByteArray) (x9 : Int) (h6 : x6.size ≤ 10000000000) (h7 : x7.size ≤ 10000000000) (h8 : x8.size ≤ 10000000000) (h : g51 x0 x1 x2 x3 x4 x5 x6 x7 x8 x9 = 0) :
    (g128 x0 x1 x2 x3 x4 x5 x6 x7 x8 x9 nilSl).B = (g129 x0 x1 x2 x3 x4 x5 x6 x7 x8 x9).B := by
  obtain ⟨⟨r0, r1⟩, hc⟩ := t51 _ _ _ _ _ _ _ _ _ _ h
  have n194 : ∀ x, (g194 x).n = 8 := len194
  have e1 : (g154 x1 (g154 x0 (nilSl : Sl Int))).B = (g194 x0).B ++ (g194 x1).B := by
    rw [B194_eq x1 _ (by omega) (by omega), B194_eq x0 _ (by omega) (by omega), B_nil, List.nil_append]
  have l1 : (g109 (g194 x0) (g194 x1)).n = 16 := by rw [len109 _ _ (by rw [n194, n194]; omega), n194, n194]
  have e2 : (g109 (g194 x0) (g194 x1)).B = (g194 x0).B ++ (g194 x1).B := B109 _ _ (by rw [n194, n194]; omega)
  unfold g128 g129
  cases x2 with
  | true =>
    simp only [cond_true]
    unfold g155
    rw [B_app, B_app, e1, e2]; rfl
  | false =>
    simp only [cond_false]
    have hz : (g155 0 (g154 x1 (g154 x0 (nilSl : Sl Int)))).B = (Sl.app (g109 (g194 x0) (g194 x1)) (Sl.lit [0])).B := by
      unfold g155
      rw [B_app, B_app, e1, e2]; rfl
    have l2 : (Sl.app (g109 (g194 x0) (g194 x1)) (Sl.lit [(0 : Int)])).n = 17 := by simp only [Sl.app_n, Sl.lit_n, l1, List.length_cons, List.length_nil]
    generalize Sl.app (g109 (g194 x0) (g194 x1)) (Sl.lit [(0 : Int)]) = Y at *
    generalize g155 0 (g154 x1 (g154 x0 (nilSl : Sl Int))) = X at *
    unfold g193
    rcases t49 _ _ _ _ _ _ _ (hc rfl) with e | ⟨r3, r4, r9⟩
    · subst e
      simp only [Int.lt_irrefl, gt_iff_lt, decide_false, cond_false, beq_self_eq_true, cond_true]
      rw [B194_eq 0 _ (by omega) (by omega), B109 _ _ (by rw [n194, l2]; omega), hz]
    · have a1 : x3 > 0 := by omega
      have a2 : (x3 == 0) = false := beq_eq_false_iff_ne.2 (by omega)
      simp only [a1, decide_true, cond_true, a2, cond_false]
      have l3 : (g109 Y (g194 x3)).n = 25 := by rw [len109 _ _ (by rw [n194, l2]; omega), n194, l2]
      have l4 : (g109 (g109 Y (g194 x3)) (g194 x4)).n = 33 := by rw [len109 _ _ (by rw [n194, l3]; omega), n194, l3]
      have l5 : (Sl.app (g109 (g109 Y (g194 x3)) (g194 x4)) (Sl.lit [(IntKind.u8.wrap x5)])).n = 34 := by simp only [Sl.app_n, Sl.lit_n, l4, List.length_cons, List.length_nil]
      have l6 := len109 (Sl.app (g109 (g109 Y (g194 x3)) (g194 x4)) (Sl.lit [(IntKind.u8.wrap x5)])) (g195 x6) (by rw [l5, len195 x6 h6]; omega)
      rw [l5, len195 x6 h6] at l6
      have l7 := len109 (g109 (Sl.app (g109 (g109 Y (g194 x3)) (g194 x4)) (Sl.lit [(IntKind.u8.wrap x5)])) (g195 x6)) (g195 x7) (by rw [l6, len195 x7 h7]; omega)
      rw [l6, len195 x7 h7] at l7
      have l8 := len109 (g109 (g109 (Sl.app (g109 (g109 Y (g194 x3)) (g194 x4)) (Sl.lit [(IntKind.u8.wrap x5)])) (g195 x6)) (g195 x7)) (g195 x8) (by rw [l7, len195 x8 h8]; omega)
      rw [l7, len195 x8 h8] at l8
      rw [B109 _ (g194 x9) (by rw [l8, n194]; omega), B109 _ (g195 x8) (by rw [l7, len195 x8 h8]; omega), B109 _ (g195 x7) (by rw [l6, len195 x7 h7]; omega), B109 _ (g195 x6) (by rw [l5, len195 x6 h6]; omega), B_app, B109 _ (g194 x4) (by rw [l3, n194]; omega), B109 _ (g194 x3) (by rw [l2, n194]; omega)]
      unfold g224
      rw [B194_eq x9 _ (by omega) (by omega), B195 x8 h8, B195 x7 h7, B195 x6 h6]
      unfold g155
      rw [B_app, B194_eq x4 _ (by omega) (by omega), B194_eq x3 _ (by omega) (by omega), hz]
theorem law17 (x0 x1 : Int) (x2 : Bool) (x3 x4 x5 : Int) (x6 x7 x8 : ByteArray) (x9 : Int) (_ : -9223372036854775808 ≤ x0 ∧ x0 ≤ 9223372036854775807) (_ : -9223372036854775808 ≤ x1 ∧ x1 ≤ 9223372036854775807) (_ : -9223372036854775808 ≤ x3 ∧ x3 ≤ 9223372036854775807) (_ : -9223372036854775808 ≤ x4 ∧ x4 ≤ 9223372036854775807) (_ : -9223372036854775808 ≤ x5 ∧ x5 ≤ 9223372036854775807) (h6 : x6.size ≤ 1048576) (h7 : x7.size ≤ 1048576) (h8 : x8.size ≤ 1048576) (_ : -9223372036854775808 ≤ x9 ∧ x9 ≤ 9223372036854775807) : g17 x0 x1 x2 x3 x4 x5 x6 x7 x8 x9 = true := by
  unfold g17 g17_m1 g64_0 g64_1 g65_0 g65_1
  rw [← g51_eq]
  by_cases h : g51 x0 x1 x2 x3 x4 x5 x6 x7 x8 x9 = 0
  · have e : (g51 x0 x1 x2 x3 x4 x5 x6 x7 x8 x9 != 0) = false := by simp [h]
    simp only [e, cond_false]
    rw [toStr_B, toStr_B, item_bytes x0 x1 x2 x3 x4 x5 x6 x7 x8 x9 (by omega) (by omega) (by omega) h]
    simp
  · have e : (g51 x0 x1 x2 x3 x4 x5 x6 x7 x8 x9 != 0) = true := by simp [h]
    simp [e]
end Go.Proofs.YtchhfojblmceiaaGreat
