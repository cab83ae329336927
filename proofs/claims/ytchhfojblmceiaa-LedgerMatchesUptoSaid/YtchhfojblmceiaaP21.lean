/-
  What is proved: a part of the laws of this seat, in plain Lean.
-/
import Derived.Test.YtchhfojblmceiaaN3x
import Derived.Test.YtchhfojblmceiaaP12
import Derived.Test.YtchhfojblmceiaaP21a
namespace Go.Proofs.Ytchhfojblmceiaa
open Go Go.Vc Go.RowKit
set_option maxRecDepth 100000
set_option maxHeartbeats 1000000
theorem same71m (x y : Sl T68) (hn : x.n ≤ 549755813888) (h1 : x.n = y.n) (h2 : ∀ i, i < x.n → x.at' i = y.at' i) : g71 x y = true := by
  have hs : g71_r1 x y = (false, default) := by
    rw [g71_r1, scan0 (g71_l2 x y) x.n _ (fun _ => false) hn (fun k i => rfl)]
    refine scan_clean _ _ fun j h3 h4 => ?_
    rw [h2 j.toNat (by omega)]
    simp
  simp [g71, g71_p2, hs, h1]
theorem same68m (a b : Int) (x y : Sl T68) (hn : x.n ≤ 549755813888) (h1 : x.n = y.n) (h2 : ∀ i, i < x.n → x.at' i = y.at' i) : g68 a b x a b y = true := by
  simp [g68, g68_m1, same71m x y hn h1 h2]
theorem g126_at (x0 x1 : Int) (x2 : Sl T68) (x3 : Int) (h0 : 0 ≤ x0 ∧ x0 ≤ 1048576) (hn : x2.n ≤ 200) (h : x0 < x3) (h3 : x3 ≤ 9000000) :
    g126 x0 x1 x2 x3 = bif decide (x3 - x0 - 1 < (x2.n : Int)) then (x2.at' (Int.toNat (x3 - x0 - 1))).c0 else -2 := by
  unfold g126 g125
  rw [wrap64 (x := x0 + (x2.n : Int)) (by omega) (by omega), wrap64 (x := x3 - x0) (by omega) (by omega), wrap64 (x := x3 - x0 - 1) (by omega) (by omega), show decide (x3 < x0) = false by simp; omega, show (x3 == x0) = false by simp; omega]
  simp only [cond_false]
  by_cases c : x3 - x0 - 1 < (x2.n : Int)
  · rw [decide_eq_true c, show decide (x3 > x0 + (x2.n : Int)) = false by simp; omega]; rfl
  · rw [decide_eq_false c, show decide (x3 > x0 + (x2.n : Int)) = true by simp; omega]; rfl
/-- What both sides know, where they come to compare. -/
structure Q21 (x0 x1 : Int) (x2 : Sl T68) (x3 : Int) (x5 : Sl T68) : Prop where
  h0 : 0 ≤ x0 ∧ x0 ≤ 1048576
  n2 : x2.n ≤ 200
  h2 : x0 + x2.n ≤ 1048576
  h3 : 0 ≤ x3 ∧ x3 ≤ 1048576
  n5 : x5.n ≤ 200
  h5 : x3 + x5.n ≤ 1048576
  c2 : Canon x2
  c5 : Canon x5
  t5 : ∀ i : Nat, i < x5.n → 1 ≤ (x5.at' i).c0
section
variable {x0 x1 : Int} {x2 : Sl T68} {x3 : Int} {x5 : Sl T68}
theorem Q21.skip (q : Q21 x0 x1 x2 x3 x5) (k : Nat) (hk : k ≤ x5.n) (hx : k = 0 ∨ x3 + k ≤ x0) : ∀ (a v : Nat), v + a = k → ∀ f, g77_l9 x0 x1 x2 x3 x5 (f + a) (v : Int) = g77_l9 x0 x1 x2 x3 x5 f (k : Int)
  | 0, v, h, f => by rw [show v = k by omega, Nat.add_zero]
  | a + 1, v, h, f => by
    have h0 := q.h0; have h3 := q.h3; have n5 := q.n5
    rw [← Nat.add_assoc, g77_l9, show decide ((v : Int) < (x5.n : Int)) = true by simp; omega]
    have e : g77_m5 x0 x1 x2 x3 x5 v = true := by
      unfold g77_m5
      rw [wrap64 (x := x3 + 1) (by omega) (by omega), wrap64 (x := x3 + 1 + v) (by omega) (by omega), show decide (x3 + 1 + (v : Int) ≤ x0) = true by simp; omega]; rfl
    rw [e, wrap64 (x := (v : Int) + 1) (by omega) (by omega)]
    simp only [cond_true]
    exact q.skip k hk hx a (v + 1) (by omega) f
/-- The list that the document puts together. -/
theorem Q21.list (q : Q21 x0 x1 x2 x3 x5) (v : Nat) (hv : v ≤ x5.n) (hx : x0 ≤ x3 + v) :
    (g77_r7 x0 x2 x3 x5 v).2.1 = (tab (fun i => x2.at' (Int.toNat (IntKind.i64.wrap ((IntKind.i64.wrap (i - x0)) - 1)))) (x0 + 1) (x3 + v - x0).toNat).app (tab (fun i => x5.at' (Int.toNat i)) v (x5.n - v)) := by
  have h0 := q.h0; have h3 := q.h3; have n5 := q.n5
  have r6 : (g77_r6 x0 x2 x3 v).2.1 = tab (fun i => x2.at' (Int.toNat (IntKind.i64.wrap ((IntKind.i64.wrap (i - x0)) - 1)))) (x0 + 1) (x3 + v - x0).toNat := by
    unfold g77_r6
    rw [wrap64 (x := x3 + 1) (by omega) (by omega), wrap64 (x := x3 + 1 + v) (by omega) (by omega), wrap64 (x := x0 + 1) (by omega) (by omega)]
    have := copyL (fun f i s => (g77_l30 x0 x2 x3 v f i s).2.1) (x3 + 1 + v).toNat (fun i => x2.at' (Int.toNat (IntKind.i64.wrap ((IntKind.i64.wrap (i - x0)) - 1)))) (by omega) (fun f i s => by
      simp only [g77_l30]
      rw [wrap64 (x := x3 + 1) (by omega) (by omega), wrap64 (x := x3 + 1 + v) (by omega) (by omega), show ((x3 + 1 + v).toNat : Int) = x3 + 1 + v by omega]
      cases decide (i < x3 + 1 + v) <;> rfl) (x3 + v - x0).toNat (Int.toNat (x3 + 1 + v - (x0 + 1))) (x0 + 1) nilSl Canon.nil (by omega) (by omega) (by omega)
    rw [nil_app] at this
    exact this
  unfold g77_r7
  rw [r6]
  exact copyL (fun f i s => (g77_l36 x5 f i s).2.1) x5.n (fun i => x5.at' (Int.toNat i)) (by omega) (fun f i s => by
    simp only [g77_l36]
    cases decide (i < (x5.n : Int)) <;> rfl) (x5.n - v) _ v _ (Canon.tab _ _ _) (by omega) (by omega) (by omega)
/-- The two loops over the items that are left. -/
theorem Q21.loop (q : Q21 x0 x1 x2 x3 x5) (k : Nat) (hm2 : g75_m2 x0 x3 x5 = x3 + k) (hn : (g75_m3 x0 x3 x5).n + k = x5.n) (ha : ∀ i, (g75_m3 x0 x3 x5).at' i = x5.at' (k + i)) (hx : x0 ≤ x3 + k) :
    ∀ (m f f' j : Nat), j + m = (g75_m3 x0 x3 x5).n → m ≤ f → m ≤ f' → x3 + k + j ≤ x0 + x2.n →
      g75_l9 x0 x1 x2 x3 x5 (f + 1) (j : Int) = g77_l9 x0 x1 x2 x3 x5 (f' + 1) ((k + j : Nat) : Int) ∧ (g77_l9 x0 x1 x2 x3 x5 (f' + 1) ((k + j : Nat) : Int)).2.2.2.1.n ≤ 400
  | 0, f, f', j, hj, _, _, hb => by
    rw [g75_l9, g77_l9, show decide ((j : Int) < ((g75_m3 x0 x3 x5).n : Int)) = false by simp; omega, show decide (((k + j : Nat) : Int) < (x5.n : Int)) = false by simp; omega]
    exact ⟨rfl, Nat.zero_le _⟩
  | m + 1, f, f', j, hj, hf, hf', hb => by
    have h0 := q.h0; have h3 := q.h3; have n5 := q.n5; have n2 := q.n2; have h5 := q.h5; have h2 := q.h2
    obtain ⟨f, rfl⟩ : ∃ k', f = k' + 1 := ⟨f - 1, by omega⟩
    obtain ⟨f', rfl⟩ : ∃ k', f' = k' + 1 := ⟨f' - 1, by omega⟩
    have w1 : IntKind.i64.wrap (x3 + k - x0) = x3 + k - x0 := wrap64 (by omega) (by omega)
    have w2 : IntKind.i64.wrap (x3 + k - x0 + j) = x3 + k - x0 + j := wrap64 (by omega) (by omega)
    have w3 : IntKind.i64.wrap (x3 + 1) = x3 + 1 := wrap64 (by omega) (by omega)
    have w4 : IntKind.i64.wrap (x3 + 1 + ((k + j : Nat) : Int)) = x3 + 1 + ((k + j : Nat) : Int) := wrap64 (by omega) (by omega)
    have w5 : IntKind.i64.wrap ((j : Int) + 1) = ((j + 1 : Nat) : Int) := wrap64 (by omega) (by omega)
    have w6 : IntKind.i64.wrap (((k + j : Nat) : Int) + 1) = ((k + (j + 1) : Nat) : Int) := wrap64 (by omega) (by omega)
    have w7 : IntKind.i64.wrap (x3 + k + j) = x3 + k + j := wrap64 (by omega) (by omega)
    have w8 : IntKind.i64.wrap (x3 + k + j + 1) = x3 + 1 + ((k + j : Nat) : Int) := by rw [wrap64 (by omega) (by omega)]; omega
    have g := g126_at x0 x1 x2 (x3 + 1 + ((k + j : Nat) : Int)) h0 n2 (by omega) (by omega)
    have e5 : g77_m5 x0 x1 x2 x3 x5 ((k + j : Nat) : Int) = (g126 x0 x1 x2 (x3 + 1 + ((k + j : Nat) : Int)) == (x5.at' (k + j)).c0) := by
      unfold g77_m5
      rw [w3, w4, show decide (x3 + 1 + ((k + j : Nat) : Int) ≤ x0) = false by simp; omega]; rfl
    have e6 : g75_m6 x0 x2 x3 x5 (j : Int) = (bif decide (x3 + k - x0 + j < (x2.n : Int)) then ((x2.at' (Int.toNat (x3 + k - x0 + j))).c0 == (x5.at' (k + j)).c0) else false) := by
      unfold g75_m6
      rw [hm2, w1, w2, Int.toNat_natCast, ha]
    have em : g75_m6 x0 x2 x3 x5 (j : Int) = g77_m5 x0 x1 x2 x3 x5 ((k + j : Nat) : Int) := by
      rw [e5, e6, g, show x3 + 1 + ((k + j : Nat) : Int) - x0 - 1 = x3 + k - x0 + j by omega]
      have t := q.t5 (k + j) (by omega)
      cases decide (x3 + k - x0 + j < (x2.n : Int)) with
      | true => rfl
      | false =>
        simp only [cond_false]
        symm
        simp only [beq_eq_false_iff_ne]
        omega
    rw [g75_l9, g77_l9, show decide ((j : Int) < ((g75_m3 x0 x3 x5).n : Int)) = true by simp; omega, show decide (((k + j : Nat) : Int) < (x5.n : Int)) = true by simp; omega, em, w5, w6, hm2, w1, w2, w3, w4, w7, w8]
    simp only [cond_true]
    cases hc : g77_m5 x0 x1 x2 x3 x5 ((k + j : Nat) : Int) with
    | true =>
      simp only [cond_true]
      refine q.loop k hm2 hn ha hx m f f' (j + 1) (by omega) (by omega) (by omega) ?_
      rw [← em, e6] at hc
      by_cases c : x3 + k - x0 + j < (x2.n : Int)
      · omega
      · rw [decide_eq_false c] at hc; cases hc
    | false =>
      simp only [cond_false]
      have hl : (g77_r7 x0 x2 x3 x5 ((k + j : Nat) : Int)).2.1 = Sl.app (Sl.part x2 0 (x3 + k - x0 + j)) (Sl.part (g75_m3 x0 x3 x5) (j : Int) (((g75_m3 x0 x3 x5).n : Nat) : Int)) := by
        rw [q.list (k + j) (by omega) (by omega)]
        refine Canon.eq (Canon.app (Canon.tab _ _ _)) (Canon.app ?_) ?_ fun i hi => ?_
        · intro i hi
          simp only [Sl.part] at hi ⊢
          rw [ha]
          exact q.c5 _ (by omega)
        · simp only [Sl.app, tab, Sl.part]; omega
        · simp only [Sl.app, tab] at hi
          simp only [Sl.app, tab, Sl.part]
          rw [show (x3 + k - x0 + (j : Int) - 0).toNat = (x3 + ((k + j : Nat) : Int) - x0).toNat by omega]
          rcases Nat.lt_or_ge i (x3 + ((k + j : Nat) : Int) - x0).toNat with h | h
          · rw [blt_t h]
            simp only [cond_true]
            rw [wrap64 (x := x0 + 1 + (i : Int) - x0) (by omega) (by omega), wrap64 (x := x0 + 1 + (i : Int) - x0 - 1) (by omega) (by omega)]
            congr 1; omega
          · rw [blt_f h, blt_t (show i - (x3 + ((k + j : Nat) : Int) - x0).toNat < x5.n - (k + j) by omega)]
            simp only [cond_true, cond_false]
            rw [ha]
            congr 1; omega
      have nl : (Sl.app (Sl.part x2 0 (x3 + k - x0 + j)) (Sl.part (g75_m3 x0 x3 x5) (j : Int) (((g75_m3 x0 x3 x5).n : Nat) : Int))).n ≤ 400 := by
        simp only [Sl.app, Sl.part]; omega
      rw [hl]
      generalize Sl.app (Sl.part x2 0 (x3 + k - x0 + j)) (Sl.part (g75_m3 x0 x3 x5) (j : Int) (((g75_m3 x0 x3 x5).n : Nat) : Int)) = L at nl
      rw [g53_eq x0 x1 L (by omega) (by omega)]
      simp only [g54_0, g54_1]
      cases (g55 x0 x1 L != 0)
      · exact ⟨trivial, nl⟩
      · exact ⟨trivial, Nat.zero_le _⟩
end
/-- The two functions answer alike. -/
theorem same75 {x0 x1 : Int} {x2 : Sl T68} {x3 x4 : Int} {x5 : Sl T68} (q : Q21 x0 x1 x2 x3 x5) (r4 : 0 ≤ x4) (z1 : g55 x0 x1 x2 = 0) (z2 : g55 x3 x4 x5 = 0) (r3 : -9223372036854775808 ≤ x3 ∧ x3 ≤ 9223372036854775807) :
    (g75_0_0 x0 x1 x2 x3 x4 x5 = g77_0_0 x0 x1 x2 x3 x4 x5 ∧ g75_0_1 x0 x1 x2 x3 x4 x5 = g77_0_1 x0 x1 x2 x3 x4 x5 ∧ g75_0_2 x0 x1 x2 x3 x4 x5 = g77_0_2 x0 x1 x2 x3 x4 x5) ∧ (g75_1 x0 x1 x2 x3 x4 x5 = g77_1 x0 x1 x2 x3 x4 x5 ∧ g75_2 x0 x1 x2 x3 x4 x5 = g77_2 x0 x1 x2 x3 x4 x5 ∧ g75_3 x0 x1 x2 x3 x4 x5 = g77_3 x0 x1 x2 x3 x4 x5) ∧ (g77_0_2 x0 x1 x2 x3 x4 x5).n ≤ 400 := by
  have h0 := q.h0; have h3 := q.h3; have n5 := q.n5; have n2 := q.n2; have h5 := q.h5; have h2 := q.h2
  have m2 : g77_m2 x0 x1 x2 x3 x4 x5 = 0 := by
    unfold g77_m2 g77_m1
    rw [z1, z2]; rfl
  have e1 : (g53 x0 x1 x2 != 0) = false := by rw [g53_eq x0 x1 x2 (by omega) (by omega), z1]; rfl
  have e2 : (g53 x3 x4 x5 != 0) = false := by rw [g53_eq x3 x4 x5 (by omega) r3, z2]; rfl
  have e3 : (g77_m2 x0 x1 x2 x3 x4 x5 != 0) = false := by rw [m2]; rfl
  have cp := copy54 x2 q.c2 (by omega)
  unfold g75_0_0 g75_0_1 g75_0_2 g75_1 g75_2 g75_3 g77_0_0 g77_0_1 g77_0_2 g77_1 g77_2 g77_3
  rw [e1, e2, e3, cp]
  simp only [cond_false, g54_0, g54_1]
  /- how both come to compare -/
  have key : ∀ k : Nat, g75_m2 x0 x3 x5 = x3 + k → (g75_m3 x0 x3 x5).n + k = x5.n → (∀ i, (g75_m3 x0 x3 x5).at' i = x5.at' (k + i)) → x0 ≤ x3 + k → (k = 0 ∨ x3 + k ≤ x0) → x3 + k ≤ x0 + x2.n → g75_r7 x0 x1 x2 x3 x5 = g77_r8 x0 x1 x2 x3 x5 ∧ (g77_r8 x0 x1 x2 x3 x5).2.2.2.1.n ≤ 400 := by
    intro k k1 k2 k3 k4 k5 k6
    have l := q.loop k k1 k2 k3 k4 (g75_m3 x0 x3 x5).n (g75_m3 x0 x3 x5).n (g75_m3 x0 x3 x5).n 0 (by omega) (Nat.le_refl _) (Nat.le_refl _) (by omega)
    have s := q.skip k (by omega) k5 k 0 (by omega) ((g75_m3 x0 x3 x5).n + 1)
    unfold g75_r7 g77_r8
    rw [show Int.toNat ((x5.n : Int) - 0) + 1 = (g75_m3 x0 x3 x5).n + 1 + k by omega, show Int.toNat (((g75_m3 x0 x3 x5).n : Int) - 0) + 1 = (g75_m3 x0 x3 x5).n + 1 by omega]
    rw [show (0 : Int) = ((0 : Nat) : Int) by rfl, s]
    exact l
  by_cases c : x3 < x0
  · have m3 : g77_m3 x0 x1 x2 x3 x4 = false := by
      unfold g77_m3
      rw [show decide (x3 ≥ x0) = false by simp; omega]; rfl
    have ki := imin_spec (IntKind.i64.wrap (x0 - x3)) (x5.n : Int)
    rw [wrap64 (x := x0 - x3) (by omega) (by omega)] at ki
    have w1 : IntKind.i64.wrap (x3 + imin (x0 - x3) (x5.n : Int)) = x3 + imin (x0 - x3) (x5.n : Int) := wrap64 (by omega) (by omega)
    rw [m3]
    unfold g75_p4
    rw [decide_eq_true c, wrap64 (x := x0 - x3) (by omega) (by omega), w1]
    simp only [cond_true, cond_false]
    by_cases d : x3 + (x5.n : Int) < x0
    · have im : imin (x0 - x3) (x5.n : Int) = x5.n := by omega
      have s := q.skip x5.n (Nat.le_refl _) (by omega) x5.n 0 (by omega) 1
      have r8 : g77_r8 x0 x1 x2 x3 x5 = (false, default, default, default, default, default, default) := by
        unfold g77_r8
        rw [show Int.toNat ((x5.n : Int) - 0) + 1 = 1 + x5.n by omega, show (0 : Int) = ((0 : Nat) : Int) by rfl, s, g77_l9, show decide (((x5.n : Nat) : Int) < ((x5.n : Nat) : Int)) = false by simp]
        rfl
      rw [im, decide_eq_true d]
      unfold g77_p9
      rw [r8]
      simp only [cond_true, cond_false]
      exact ⟨⟨trivial, trivial, trivial⟩, ⟨trivial, trivial, trivial⟩, by omega⟩
    · have im : imin (x0 - x3) (x5.n : Int) = x0 - x3 := by omega
      have b2 : g75_m2 x0 x3 x5 = x3 + ((x0 - x3).toNat : Nat) := by
        unfold g75_m2
        rw [decide_eq_true c, wrap64 (x := x0 - x3) (by omega) (by omega), w1, im]
        simp only [cond_true]
        omega
      have b3 : g75_m3 x0 x3 x5 = Sl.part x5 (x0 - x3) ((x5.n : Nat) : Int) := by
        unfold g75_m3
        rw [decide_eq_true c, wrap64 (x := x0 - x3) (by omega) (by omega), im]
        rfl
      obtain ⟨k1, k2⟩ := key (x0 - x3).toNat b2 (by rw [b3, Sl.part_n]; omega) (fun i => by rw [b3]; rfl) (by omega) (Or.inr (by omega)) (by omega)
      rw [im, show decide (x3 + (x0 - x3) < x0) = false by simp; omega]
      unfold g75_p8 g77_p9
      rw [k1]
      simp only [cond_true, cond_false]
      cases (g77_r8 x0 x1 x2 x3 x5).1
      · exact ⟨⟨by first | trivial | rfl, by first | trivial | rfl, by first | trivial | rfl⟩, ⟨by first | trivial | rfl, by first | trivial | rfl, by first | trivial | rfl⟩, by first | omega | (show x2.n ≤ 400; omega)⟩
      · exact ⟨⟨by first | trivial | rfl, by first | trivial | rfl, by first | trivial | rfl⟩, ⟨by first | trivial | rfl, by first | trivial | rfl, by first | trivial | rfl⟩, k2⟩
  · have m1 : g75_m1 x0 x1 x2 x3 x4 = (g126 x0 x1 x2 x3 != x4) := by
      unfold g75_m1 g127_0 g127_1
      rw [decide_eq_false c]
      by_cases e : x3 = x0
      · subst e
        have : g126 x3 x1 x2 x3 = x1 := by
          unfold g126 g125
          rw [wrap64 (x := x3 + (x2.n : Int)) (by omega) (by omega), show decide (x3 > x3 + (x2.n : Int)) = false by simp; omega]
          simp
        rw [this]
        simp
      · rw [g126_at x0 x1 x2 x3 (by omega) n2 (by omega) (by omega), show (x3 == x0) = false by simp; omega, wrap64 (x := x3 - x0) (by omega) (by omega), wrap64 (x := x3 - x0 - 1) (by omega) (by omega)]
        by_cases d : x3 - x0 - 1 < (x2.n : Int)
        · rw [decide_eq_true d, show decide (x3 - x0 > (x2.n : Int)) = false by simp; omega]
          rfl
        · rw [decide_eq_false d, show decide (x3 - x0 > (x2.n : Int)) = true by simp; omega]
          have : ((-2 : Int) != x4) = true := by simp; omega
          simp [this]
    have m3 : g77_m3 x0 x1 x2 x3 x4 = (g126 x0 x1 x2 x3 != x4) := by
      unfold g77_m3
      rw [show decide (x3 ≥ x0) = true by simp; omega]; rfl
    unfold g75_p4
    rw [decide_eq_false c, m1, m3]
    cases hb : (g126 x0 x1 x2 x3 != x4) with
    | true =>
      simp only [cond_true, cond_false]
      exact ⟨⟨trivial, trivial, trivial⟩, ⟨trivial, trivial, trivial⟩, by omega⟩
    | false =>
      rw [hb] at m3
      have hr := f77t x0 x1 x2 x3 x4 m3 (by omega)
      have b2 : g75_m2 x0 x3 x5 = x3 + ((0 : Nat) : Int) := by
        unfold g75_m2
        rw [decide_eq_false c]
        simp
      have b3 : g75_m3 x0 x3 x5 = x5 := by
        unfold g75_m3
        rw [decide_eq_false c]; rfl
      obtain ⟨k1, k2⟩ := key 0 b2 (by rw [b3]; omega) (fun i => by rw [b3, Nat.zero_add]) (by omega) (Or.inl rfl) (by omega)
      unfold g75_p8 g77_p9
      rw [k1]
      simp only [cond_true, cond_false]
      cases (g77_r8 x0 x1 x2 x3 x5).1
      · exact ⟨⟨by first | trivial | rfl, by first | trivial | rfl, by first | trivial | rfl⟩, ⟨by first | trivial | rfl, by first | trivial | rfl, by first | trivial | rfl⟩, by first | omega | (show x2.n ≤ 400; omega)⟩
      · exact ⟨⟨by first | trivial | rfl, by first | trivial | rfl, by first | trivial | rfl⟩, ⟨by first | trivial | rfl, by first | trivial | rfl, by first | trivial | rfl⟩, k2⟩
theorem law21 (x0 x1 : Int) (x2 : Sl T68) (x3 x4 : Int) (x5 : Sl T68) (r0 : -9223372036854775808 ≤ x0 ∧ x0 ≤ 9223372036854775807) (_ : -9223372036854775808 ≤ x1 ∧ x1 ≤ 9223372036854775807) (c2 : Canon x2) (b2 : x2.n ≤ 1048576)
    (r3 : -9223372036854775808 ≤ x3 ∧ x3 ≤ 9223372036854775807) (_ : -9223372036854775808 ≤ x4 ∧ x4 ≤ 9223372036854775807) (c5 : Canon x5) (b5 : x5.n ≤ 1048576) : g21 x0 x1 x2 x3 x4 x5 = true := by
  have hl := same68m x0 x1 x2 x2 (by omega) rfl (fun _ _ => rfl)
  have hn := same68m 0 0 (nilSl : Sl T68) nilSl (Nat.zero_le _) rfl (fun _ _ => rfl)
  unfold g21 g21_m1
  rw [copy54 x2 c2 (by omega)]
  simp only [g54_0, g54_1, g76]
  by_cases z1 : g55 x0 x1 x2 = 0
  · by_cases z2 : g55 x3 x4 x5 = 0
    · have a1 := chk55 x0 x1 x2 z1
      have a2 := chk55 x3 x4 x5 z2
      obtain ⟨⟨p1, p2, p3⟩, ⟨p4, p5, p6⟩, p7⟩ := same75 (x4 := x4) ⟨by omega, by omega, by omega, by omega, by omega, by omega, c2, c5, c55 z2 (by omega)⟩ (by omega) z1 z2 r3
      rw [p1, p2, p3, p4, p5, p6, hl, same68m _ _ (g77_0_2 x0 x1 x2 x3 x4 x5) _ (by omega) rfl (fun _ _ => rfl)]
      simp
    · have e1 : (g53 x0 x1 x2 != 0) = false := by rw [g53_eq x0 x1 x2 (by omega) r0, z1]; rfl
      have e2 : (g53 x3 x4 x5 != 0) = true := by rw [g53_eq x3 x4 x5 (by omega) r3]; simpa using z2
      have m2 : g77_m2 x0 x1 x2 x3 x4 x5 = 10 := by
        unfold g77_m2 g77_m1
        rw [z1, show (g55 x3 x4 x5 != 0) = true by simpa using z2]; rfl
      have e3 : (g77_m2 x0 x1 x2 x3 x4 x5 != 0) = true := by rw [m2]; rfl
      unfold g75_0_0 g75_0_1 g75_0_2 g75_1 g75_2 g75_3 g77_0_0 g77_0_1 g77_0_2 g77_1 g77_2 g77_3
      rw [e1, e2, e3, m2]
      simp [hn, hl]
  · have e1 : (g53 x0 x1 x2 != 0) = true := by rw [g53_eq x0 x1 x2 (by omega) r0]; simpa using z1
    have m2 : g77_m2 x0 x1 x2 x3 x4 x5 = g55 x0 x1 x2 := by
      unfold g77_m2 g77_m1
      rw [show (g55 x0 x1 x2 == 0) = false by simpa using z1]; rfl
    have e3 : (g77_m2 x0 x1 x2 x3 x4 x5 != 0) = true := by rw [m2]; simpa using z1
    unfold g75_0_0 g75_0_1 g75_0_2 g75_1 g75_2 g75_3 g77_0_0 g77_0_1 g77_0_2 g77_1 g77_2 g77_3
    rw [e1, e3, m2, g53_eq x0 x1 x2 (by omega) r0]
    simp [hn, hl]
end Go.Proofs.Ytchhfojblmceiaa
