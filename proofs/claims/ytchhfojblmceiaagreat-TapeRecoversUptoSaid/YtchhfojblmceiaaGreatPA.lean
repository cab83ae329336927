/-
  What is proved: a part of the laws of this seat, in plain Lean.
-/
import Derived.Test.YtchhfojblmceiaaGreatYA
import Derived.Test.YtchhfojblmceiaaGreatZA
import Derived.Test.YtchhfojblmceiaaGreatVcH
import Derived.Test.YtchhfojblmceiaaGreatWd
import Derived.Test.YtchhfojblmceiaaGreatZB
namespace Go.Proofs.YtchhfojblmceiaaGreat
open Go Go.Vc Go.RowKit
set_option maxRecDepth 100000
theorem g112_eq (n l h : Int) : g112 n l h = (decide (n ≥ l) && decide (n ≤ h)) := by
  unfold g112 g112_m1; cases decide (n ≥ l) <;> rfl
theorem g118_eq (x : ByteArray) : g115 x = g118 x := by
  unfold g118 g115 g115_m1; rw [g112_eq]; cases decide ((x.size : Int) ≥ 1) <;> rfl
theorem g116_eq (x : ByteArray) : g116 x = g113 x := rfl
theorem g117_eq (x : Int) : g117 x = g114 x := by
  unfold g117 g117_m1 g114; rw [g112_eq]; cases decide (x ≥ (-1099511627776)) <;> rfl
theorem g119_eq (x : Int) : g119 x = g120 x := by
  unfold g119 g119_m1 g120; rw [g112_eq]; cases decide (x ≥ 1) <;> rfl
end Go.Proofs.YtchhfojblmceiaaGreat
namespace Go.Proofs.YtchhfojblmceiaaGreat
open Go Go.Vc Go.RowKit
set_option maxRecDepth 100000
theorem e47 (x0 : Int) (x1 x2 x3 : ByteArray) (x4 : Int) : (g47 x0 x1 x2 x3 x4 == g48 x0 x1 x2 x3 x4) = true := by
  by_cases h : 1 ≤ x0 ∧ x0 ≤ 22
  · have hx : x0 = 1 ∨ x0 = 2 ∨ x0 = 3 ∨ x0 = 4 ∨ x0 = 5 ∨ x0 = 6 ∨ x0 = 7 ∨ x0 = 8 ∨ x0 = 9 ∨ x0 = 10 ∨ x0 = 11 ∨ x0 = 12 ∨ x0 = 13 ∨ x0 = 14 ∨ x0 = 15 ∨ x0 = 16 ∨ x0 = 17 ∨ x0 = 18 ∨ x0 = 19 ∨ x0 = 20 ∨ x0 = 21 ∨ x0 = 22 := by omega
    unfold g47 g48 g47_m9 g47_m8 g47_m7 g47_m6 g47_m5 g47_m4 g47_m3 g47_m2 g47_m1 g48_m4 g48_m3 g48_m2 g48_m1
    simp only [g118_eq, g116_eq, g117_eq, g112_eq]
    generalize g118 x1 = b1
    generalize g118 x2 = b2
    generalize g113 x3 = b3
    generalize g114 x4 = b4
    rcases hx with rfl | rfl | rfl | rfl | rfl | rfl | rfl | rfl | rfl | rfl | rfl | rfl | rfl | rfl | rfl | rfl | rfl | rfl | rfl | rfl | rfl | rfl <;>
    simp only [Int.reduceBEq, Int.reduceLE, Int.reduceLT, ge_iff_le, gt_iff_lt, decide_true, decide_false, Bool.and_true, Bool.true_and, Bool.and_false, cond_true, cond_false, Bool.not_true, Bool.not_false, beq_self_eq_true, bne] <;>
    (generalize (x1.toList == ByteArray.toList ⟨#[]⟩) = e1; generalize (x2.toList == ByteArray.toList ⟨#[]⟩) = e2; generalize (x3.toList == ByteArray.toList ⟨#[]⟩) = e3; generalize (x4 == 0) = e4
     revert e1 e2 e3 e4 b1 b2 b3 b4; decide)
  · unfold g47 g48 g47_m1
    have h1 : g112 x0 1 22 = false := by rw [g112_eq]; simp; omega
    have h2 : (bif decide (x0 < 1) then true else decide (x0 > 22)) = true := by
      by_cases h3 : x0 < 1
      · simp [h3]
      · simp [h3]; omega
    rw [h1, h2]; rfl
theorem g47_eq (x0 : Int) (x1 x2 x3 : ByteArray) (x4 : Int) : g47 x0 x1 x2 x3 x4 = g48 x0 x1 x2 x3 x4 := eq_of_beq (e47 x0 x1 x2 x3 x4)
theorem g49_eq (x0 x1 x2 : Int) (x3 x4 x5 : ByteArray) (x6 : Int) : g49 x0 x1 x2 x3 x4 x5 x6 = g50 x0 x1 x2 x3 x4 x5 x6 := by
  unfold g49 g50 g49_m1 g50_m1 g50_m2
  rw [g47_eq]
  simp only [g119_eq, bne]
  cases x0 == 0
  · rfl
  · simp only [cond_true, Bool.true_and]
    cases x1 == 0 <;> simp
theorem g51_eq (x0 x1 : Int) (x2 : Bool) (x3 x4 x5 : Int) (x6 x7 x8 : ByteArray) (x9 : Int) : g51 x0 x1 x2 x3 x4 x5 x6 x7 x8 x9 = g52 x0 x1 x2 x3 x4 x5 x6 x7 x8 x9 := by
  unfold g51 g52
  have h : g51_m1 x0 x1 = g52_m1 x0 x1 := by
    unfold g51_m1 g52_m1 g120
    simp only [g112_eq]
    by_cases a : x0 < 1
    · have : ¬ (1 ≤ x0) := by omega
      simp [a, this]
    · have a' : 1 ≤ x0 := by omega
      by_cases b : x0 > 1048576
      · have : ¬ (x0 ≤ 1048576) := by omega
        simp [b, this]
      · have b' : x0 ≤ 1048576 := by omega
        by_cases c : x1 < 0
        · have : ¬ (0 ≤ x1) := by omega
          simp [a, b, c, a', b', this]
        · have c' : 0 ≤ x1 := by omega
          by_cases d : x1 > 1073741824
          · have : ¬ (x1 ≤ 1073741824) := by omega
            simp [a, b, c, d, a', b', c', this]
          · have d' : x1 ≤ 1073741824 := by omega
            simp [a, b, c, d, a', b', c', d']
  rw [h, g49_eq]
  cases g52_m1 x0 x1 <;> cases x2 <;> rfl
end Go.Proofs.YtchhfojblmceiaaGreat
namespace Go.Proofs.YtchhfojblmceiaaGreat
open Go Go.Vc Go.RowKit
set_option maxRecDepth 100000
set_option maxHeartbeats 4000000
theorem copy73_3 (s : Sl T160) (h : Canon s) (hn : s.n ≤ 549755813888) : g73_3 s = s := copy_id (g73_l1 s) s h hn fun _ _ _ => rfl
theorem copy73_4 (s : Sl ByteArray) (h : Canon s) (hn : s.n ≤ 549755813888) : g73_4 s = s := copy_id (g73_l7 s) s h hn fun _ _ _ => rfl
theorem copy73_5 (s : Sl T164) (h : Canon s) (hn : s.n ≤ 549755813888) : g73_5 s = s := copy_id (g73_l13 s) s h hn fun _ _ _ => rfl
-- the program's
theorem a110 (s : Sl ByteArray) (hn : s.n ≤ 549755813888) : g110_132 s = hit (fun i => !(g113 (s.at' (Int.toNat i)))) s.n 0 :=
  idx_hit _ _ _ (scan0 (g192_132_l1 s) s.n (fun i => !(g113 (s.at' (Int.toNat i)))) (fun i => i) hn fun _ _ => rfl)
theorem a133 (s : Sl T160) (hn : s.n ≤ 549755813888) : g133_134 s = hit (fun i => g134 (s.at' (Int.toNat i)).c0 (s.at' (Int.toNat i)).c1) s.n 0 :=
  idx_hit _ _ _ (scan0 (g196_134_l1 s) s.n (fun i => g134 (s.at' (Int.toNat i)).c0 (s.at' (Int.toNat i)).c1) (fun i => i) hn fun _ _ => rfl)
theorem a135 (s : Sl T164) (hn : s.n ≤ 549755813888) : g135_136 s = hit (fun i => !(g113 (s.at' (Int.toNat i)).c0)) s.n 0 :=
  idx_hit _ _ _ (scan0 (g197_136_l1 s) s.n (fun i => !(g113 (s.at' (Int.toNat i)).c0)) (fun i => i) hn fun _ _ => rfl)
theorem a137 (s : Sl T164) (hn : s.n ≤ 549755813888) : g135_137 s = hit (fun i => !(g117 (s.at' (Int.toNat i)).c1)) s.n 0 :=
  idx_hit _ _ _ (scan0 (g197_137_l1 s) s.n (fun i => !(g117 (s.at' (Int.toNat i)).c1)) (fun i => i) hn fun _ _ => rfl)
theorem a144 (s : Sl T164) (x : ByteArray) (hn : s.n ≤ 549755813888) : decide (g144 s x ≥ 0) = hit (fun i => (s.at' (Int.toNat i)).c0.toList == x.toList) s.n 0 :=
  idx_hit _ _ _ (scan0 (g197_201s_l1 s x) s.n (fun i => (s.at' (Int.toNat i)).c0.toList == x.toList) (fun i => i) hn fun _ _ => rfl)
theorem a147 (s : Sl T164) (x : ByteArray) (hn : s.n ≤ 549755813888) : decide (g147 s x ≥ 0) = hit (fun i => (s.at' (Int.toNat i)).c0.toList == x.toList) s.n 0 :=
  idx_hit _ _ _ (scan0 (g147_l1 s x) s.n (fun i => (s.at' (Int.toNat i)).c0.toList == x.toList) (fun i => i) hn fun _ _ => rfl)
noncomputable def o3 (s : Sl T160) : Bool := hit (fun i => !(Op.bytesLess (s.at' (Int.toNat (IntKind.i64.wrap (i - 1)))).c0.toList (s.at' (Int.toNat i)).c0.toList)) (s.n - 1) 1
noncomputable def o4 (s : Sl ByteArray) : Bool := hit (fun i => !(Op.bytesLess (s.at' (Int.toNat (IntKind.i64.wrap (i - 1)))).toList (s.at' (Int.toNat i)).toList)) (s.n - 1) 1
noncomputable def o5 (s : Sl T164) : Bool := hit (fun i => !(g146 (s.at' (Int.toNat (IntKind.i64.wrap (i - 1)))).c0 (s.at' (Int.toNat (IntKind.i64.wrap (i - 1)))).c1 (s.at' (Int.toNat i)).c0 (s.at' (Int.toNat i)).c1)) (s.n - 1) 1
noncomputable def same (s : Sl T164) (i : Int) : Bool := hit (fun j => ((Sl.part s 0 i).at' (Int.toNat j)).c0.toList == (s.at' (Int.toNat i)).c0.toList) (Sl.part s 0 i).n 0
theorem rise {F : Bool × Bool} {bad : Int → Bool} {m : Nat} (h : F = scan bad (fun _ => false) m 1) : (bif (bif F.1 then false else true) then true else F.2) = !(hit bad m 1) := by
  rw [h, scan_const]
  cases hit bad m 1 <;> rfl
theorem c139 (a b : ByteArray) : decide (g139 a b ≥ 0) = !(Op.bytesLess a.toList b.toList) := cmp_less a b
theorem a138 (s : Sl T160) (hn : s.n ≤ 549755813888) : g138_139 s = !(o3 s) := by
  refine (rise (scanG (g138_139_l1 s) s.n (fun i => decide (g139 (s.at' (Int.toNat (IntKind.i64.wrap (i - 1)))).c0 (s.at' (Int.toNat i)).c0 ≥ 0)) (fun _ => false) hn fun _ _ => rfl)).trans ?_
  congr 1
  exact hit_congr _ _ fun j _ _ => c139 _ _
theorem a142 (s : Sl ByteArray) (hn : s.n ≤ 549755813888) : g142_143 s = !(o4 s) := by
  refine (rise (scanG (g142_143_l1 s) s.n (fun i => decide (g143 (s.at' (Int.toNat (IntKind.i64.wrap (i - 1)))) (s.at' (Int.toNat i)) ≥ 0)) (fun _ => false) hn fun _ _ => rfl)).trans ?_
  congr 1
  exact hit_congr _ _ fun j _ _ => cmp_less _ _
theorem e198 (a b : Int) : g198 (Sl.lit [a, b]) = bif a != 0 then a else b := by
  have h : g198_r1 (Sl.lit [a, b]) = scan (fun i => (Sl.lit [a, b]).at' (Int.toNat i) != 0) (fun i => (Sl.lit [a, b]).at' (Int.toNat i)) 2 0 :=
    scan0 (g198_l1 (Sl.lit [a, b])) 2 _ _ (by omega) fun _ _ => rfl
  have e0 : (Sl.lit [a, b]).at' (Int.toNat 0) = a := rfl
  have e1 : (Sl.lit [a, b]).at' (Int.toNat (0 + 1)) = b := rfl
  simp only [g198, g198_p2, h, scan, e0, e1]
  cases h1 : (a != 0)
  · cases h2 : (b != 0)
    · have : b = 0 := by simpa [bne] using h2
      subst this; rfl
    · rfl
  · rfl
theorem e199 (a b : Int) : g199 a b = bif decide (a < b) then -1 else bif decide (a > b) then 1 else 0 := by
  simp [g199, g225]
theorem c141 (a : ByteArray) (x : Int) (b : ByteArray) (y : Int) : decide (g141 a x b y ≥ 0) = !(g146 a x b y) := by
  simp only [g141, e198, e199, g146]
  by_cases h1 : x < y
  · have h2 : x ≠ y := by omega
    simp [h1, h2]
  · by_cases h2 : x > y
    · have h3 : x ≠ y := by omega
      simp [h1, h2, h3]
    · have h3 : x = y := by omega
      subst h3
      have e1 : decide (x < x) = false := by simp
      have e2 : decide (x > x) = false := by simp
      have e3 : (x != x) = false := by simp
      rw [e1, e3]
      exact cmp_less a b
theorem a140 (s : Sl T164) (hn : s.n ≤ 549755813888) : g140_141 s = !(o5 s) := by
  refine (rise (scanG (g140_141_l1 s) s.n (fun i => decide (g141 (s.at' (Int.toNat (IntKind.i64.wrap (i - 1)))).c0 (s.at' (Int.toNat (IntKind.i64.wrap (i - 1)))).c1 (s.at' (Int.toNat i)).c0 (s.at' (Int.toNat i)).c1 ≥ 0)) (fun _ => false) hn fun _ _ => rfl)).trans ?_
  congr 1
  exact hit_congr _ _ fun j _ _ => c141 _ _ _ _
theorem fall {F : Bool × Int} {bad : Int → Bool} {c : Int} {m : Nat} {i : Int} (h : F = scan bad (fun _ => c) m i) (X : Int) : (bif (bif F.1 then false else true) then X else F.2) = bif hit bad m i then c else X := by
  rw [h, scan_const]
  cases hit bad m i <;> rfl
theorem u4 (s : Sl ByteArray) (hn : s.n ≤ 549755813888) : g74_r4 s = scan (fun i => !(g113 (s.at' (Int.toNat i)))) (fun _ => 1) s.n 0 :=
  scan0 (g74_l56 s) s.n _ _ hn fun _ _ => rfl
theorem u8 (s : Sl T160) (hn : s.n ≤ 549755813888) : g74_r8 s = scan (fun i => g134 (s.at' (Int.toNat i)).c0 (s.at' (Int.toNat i)).c1) (fun _ => 1) s.n 0 :=
  scan0 (g74_l63 s) s.n _ _ hn fun k i => by
    have : g74_m7 s i = g134 (s.at' (Int.toNat i)).c0 (s.at' (Int.toNat i)).c1 := by
      simp only [g74_m7, g134, g134_m1, g118_eq, g116_eq]
    show (bif decide (i < (s.n : Int)) then (bif (g74_m7 s i) then (true, 1) else _) else _) = _
    rw [this]
theorem u10 (s : Sl T164) (hn : s.n ≤ 549755813888) : g74_r10 s = scan (fun i => !(g113 (s.at' (Int.toNat i)).c0)) (fun _ => 1) s.n 0 :=
  scan0 (g74_l74 s) s.n _ _ hn fun _ _ => rfl
theorem u12 (s : Sl T164) (hn : s.n ≤ 549755813888) : g74_r12 s = scan (fun i => !(g117 (s.at' (Int.toNat i)).c1)) (fun _ => 2) s.n 0 :=
  scan0 (g74_l82 s) s.n _ _ hn fun k i => by
    simp only [g117_eq]; rfl
theorem u14 (s : Sl T160) (hn : s.n ≤ 549755813888) : g74_r14 s = scan (fun i => !(Op.bytesLess (s.at' (Int.toNat (IntKind.i64.wrap (i - 1)))).c0.toList (s.at' (Int.toNat i)).c0.toList)) (fun _ => 10) (s.n - 1) 1 :=
  scanG (g74_l89 s) s.n _ _ hn fun _ _ => rfl
theorem u18 (x : Int) (s : Sl ByteArray) (hn : s.n ≤ 549755813888) (X : Int) : (bif g74_p19 x s then X else (g74_r18 x s).2) = bif (x == 5 && o4 s) then 10 else X := by
  cases hx : (x == 5) with
  | false =>
    have : g74_r18 x s = (false, default) := by
      show (bif (bif decide ((1 : Int) < (s.n : Int)) then (x == 5) else false) then _ else _) = _
      rw [hx]; cases decide ((1 : Int) < (s.n : Int)) <;> rfl
    simp only [g74_p19, this]; rfl
  | true =>
    have : g74_r18 x s = scan (fun i => !(Op.bytesLess (s.at' (Int.toNat (IntKind.i64.wrap (i - 1)))).toList (s.at' (Int.toNat i)).toList)) (fun _ => 10) (s.n - 1) 1 :=
      scanG (g74_l96 x s) s.n _ _ hn fun k i => by
        have : g74_m17 x s i = decide (i < (s.n : Int)) := by
          simp only [g74_m17, hx]; cases decide (i < (s.n : Int)) <;> rfl
        show (bif g74_m17 x s i then _ else _) = _
        rw [this]
    exact fall this X
theorem part_n {α : Type} [Inhabited α] (s : Sl α) (i : Int) (h0 : 0 ≤ i) (h1 : i ≤ s.n) : ((Sl.part s 0 i).n : Int) = i := by
  simp [Sl.part]; omega
theorem u22 (s : Sl T164) (hn : s.n ≤ 1048576) : g74_r22 s = scan (fun i => !(g146 (s.at' (Int.toNat (IntKind.i64.wrap (i - 1)))).c0 (s.at' (Int.toNat (IntKind.i64.wrap (i - 1)))).c1 (s.at' (Int.toNat i)).c0 (s.at' (Int.toNat i)).c1) || decide (g147 (Sl.part s 0 i) (s.at' (Int.toNat i)).c0 ≥ 0)) (fun _ => 10) (s.n - 1) 1 :=
  scanG (g74_l107 s) s.n _ _ (by omega) fun k i => by
    have : g74_m21 s i = (!(g146 (s.at' (Int.toNat (IntKind.i64.wrap (i - 1)))).c0 (s.at' (Int.toNat (IntKind.i64.wrap (i - 1)))).c1 (s.at' (Int.toNat i)).c0 (s.at' (Int.toNat i)).c1) || decide (g147 (Sl.part s 0 i) (s.at' (Int.toNat i)).c0 ≥ 0)) := by
      simp only [g74_m21]
      cases g146 (s.at' (Int.toNat (IntKind.i64.wrap (i - 1)))).c0 (s.at' (Int.toNat (IntKind.i64.wrap (i - 1)))).c1 (s.at' (Int.toNat i)).c0 (s.at' (Int.toNat i)).c1 <;> rfl
    show (bif decide (i < (s.n : Int)) then (bif (g74_m21 s i) then (true, 10) else _) else _) = _
    rw [this]
theorem same147 (s : Sl T164) (i : Int) (h0 : 0 ≤ i) (h1 : i < s.n) (hn : s.n ≤ 1048576) : decide (g147 (Sl.part s 0 i) (s.at' (Int.toNat i)).c0 ≥ 0) = same s i := by
  have := part_n s i h0 (by omega)
  exact a147 _ _ (by omega)
theorem same144 (s : Sl T164) (i : Int) (h0 : 0 ≤ i) (h1 : i < s.n) (hn : s.n ≤ 1048576) : decide (g144 (Sl.part s 0 i) (s.at' (Int.toNat i)).c0 ≥ 0) = same s i := by
  have := part_n s i h0 (by omega)
  exact a144 _ _ (by omega)
theorem o22 (s : Sl T164) (hn : s.n ≤ 1048576) (X : Int) : (bif g74_p23 s then X else (g74_r22 s).2) = bif (o5 s || hit (same s) (s.n - 1) 1) then 10 else X := by
  refine (fall (u22 s hn) X).trans ?_
  rw [hit_or]
  rw [show hit (fun i => decide (g147 (Sl.part s 0 i) (s.at' (Int.toNat i)).c0 ≥ 0)) (s.n - 1) 1 = hit (same s) (s.n - 1) 1 from hit_congr _ _ fun j h1 h2 => same147 s j (by omega) (by omega) hn]
  rfl
theorem l23 (s : Sl T164) (hn : s.n ≤ 1048576) : ∀ (m k : Nat) (b : Bool) (i : Int), 0 ≤ i → i + (m : Int) = s.n → m ≤ k → g72_l29 s (k + 1) b i = (b && !(hit (same s) m i))
  | 0, k, b, i, h0, hi, hk => by
    show (bif decide (i < (s.n : Int)) then _ else b) = _
    rw [show decide (i < (s.n : Int)) = false by simp; omega]
    simp [hit]
  | m + 1, k, b, i, h0, hi, hk => by
    obtain ⟨k, rfl⟩ : ∃ k', k = k' + 1 := ⟨k - 1, by omega⟩
    show (bif decide (i < (s.n : Int)) then g72_l29 s (k + 1) (g72_m12 s b i) (IntKind.i64.wrap (i + 1)) else b) = _
    rw [show decide (i < (s.n : Int)) = true by simp; omega]
    simp only [cond_true]
    rw [wrap64 (by omega) (by omega), l23 s hn m k _ (i + 1) (by omega) (by omega) (by omega)]
    have e : decide (g144 (Sl.part s 0 i) (s.at' (Int.toNat i)).c0 < 0) = !(same s i) := by
      rw [← same144 s i h0 (by omega) hn]
      by_cases h : g144 (Sl.part s 0 i) (s.at' (Int.toNat i)).c0 < 0
      · have : ¬ (0 ≤ g144 (Sl.part s 0 i) (s.at' (Int.toNat i)).c0) := by omega
        simp [h, this]
      · have : 0 ≤ g144 (Sl.part s 0 i) (s.at' (Int.toNat i)).c0 := by omega
        simp [h, this]
    simp only [g72_m12, e, hit]
    cases b <;> cases same s i <;> simp
theorem l23z (s : Sl T164) (hn : s.n ≤ 1048576) : hit (same s) s.n 0 = hit (same s) (s.n - 1) 1 := by
  rcases Nat.eq_zero_or_pos s.n with h | h
  · rw [h]; rfl
  · obtain ⟨m, hm⟩ : ∃ m, s.n = m + 1 := ⟨s.n - 1, by omega⟩
    rw [hm]
    show (same s 0 || hit (same s) m (0 + 1)) = hit (same s) (m + 1 - 1) 1
    have : same s 0 = false := by
      have h := part_n s 0 (Int.le_refl _) (by omega)
      have h : (Sl.part s 0 0).n = 0 := by omega
      simp only [same]
      rw [h]; rfl
    rw [this]; rfl
theorem e15 (x : Int) (s3 : Sl T160) (s4 : Sl ByteArray) (s5 : Sl T164) (h3 : s3.n ≤ 1048576) (h4 : s4.n ≤ 1048576) (h5 : s5.n ≤ 1048576) : g72_r15 x s3 s4 s5 = (!(o3 s3) && !(o5 s5) && (!(x == 5) || !(o4 s4)) && !(hit (same s5) (s5.n - 1) 1)) := by
  rw [← l23z s5 h5]
  unfold g72_r15
  rw [l23 s5 h5 s5.n _ _ 0 (Int.le_refl _) (by omega) (by omega)]
  simp only [g72_m11, a138 s3 (by omega), a140 s5 (by omega), a142 s4 (by omega), bne]
  cases o3 s3 <;> cases o5 s5 <;> cases x == 5 <;> cases o4 s4 <;> rfl
theorem sum_eq (s3 : Sl T160) (s4 : Sl ByteArray) (s5 : Sl T164) (h3 : s3.n ≤ 1048576) (h4 : s4.n ≤ 1048576) (h5 : s5.n ≤ 1048576) : g131 s3 s4 s5 = (s3.n : Int) + s4.n + s5.n := by
  unfold g131
  rw [wrap64 (x := (s3.n : Int) + s4.n) (by omega) (by omega), wrap64 (by omega) (by omega)]
theorem sum_eq' (s3 : Sl T160) (s4 : Sl ByteArray) (s5 : Sl T164) (h3 : s3.n ≤ 1048576) (h4 : s4.n ≤ 1048576) (h5 : s5.n ≤ 1048576) : g145 s3 s4 s5 = (s3.n : Int) + s4.n + s5.n := sum_eq s3 s4 s5 h3 h4 h5
theorem sum_pos (s3 : Sl T160) (s4 : Sl ByteArray) (s5 : Sl T164) (h3 : s3.n ≤ 1048576) (h4 : s4.n ≤ 1048576) (h5 : s5.n ≤ 1048576) : decide (g131 s3 s4 s5 > 0) = (decide ((s3.n : Int) > 0) || decide ((s4.n : Int) > 0) || decide ((s5.n : Int) > 0)) := by
  rw [sum_eq _ _ _ h3 h4 h5, Bool.eq_iff_iff]
  simp only [Bool.or_eq_true, decide_eq_true_eq]
  omega
theorem forms (x0 : Int) (x1 : ByteArray) (x2 : Int) (s3 : Sl T160) (s4 : Sl ByteArray) (s5 : Sl T164) (h3 : s3.n ≤ 1048576) (h4 : s4.n ≤ 1048576) (h5 : s5.n ≤ 1048576) (h : 1 ≤ x0 ∧ x0 ≤ 6) : g72_m7 x0 x1 x2 s3 s4 s5 = g74_m2 x0 x1 x2 s3 s4 s5 := by
  have hx : x0 = 1 ∨ x0 = 2 ∨ x0 = 3 ∨ x0 = 4 ∨ x0 = 5 ∨ x0 = 6 := by omega
  unfold g72_m7 g74_m2
  have hz {α : Type} [Inhabited α] : decide ((((nilSl : Sl α).n : Nat) : Int) > 0) = false := rfl
  have b3 : (g72_m4 x0 s3).n ≤ 1048576 := by
    unfold g72_m4; cases x0 == 1 <;> cases x0 == 2 <;> cases x0 == 3 <;> simp [nilSl, h3]
  have b4 : (g72_m5 x0 s4).n ≤ 1048576 := by
    unfold g72_m5; cases x0 == 1 <;> cases x0 == 2 <;> cases x0 == 3 <;> cases x0 == 6 <;> simp [nilSl, h4]
  have b5 : (g72_m6 x0 s5).n ≤ 1048576 := by
    unfold g72_m6; cases x0 == 1 <;> cases x0 == 2 <;> cases x0 == 3 <;> cases x0 == 6 <;> simp [nilSl, h5]
  rw [sum_pos _ _ _ b3 b4 b5]
  unfold g72_m2 g72_m3 g72_m4 g72_m5 g72_m6 g74_m1
  clear b3 b4 b5
  have he : (ByteArray.toList ⟨#[]⟩ == ByteArray.toList ⟨#[]⟩) = true := by simp
  rcases hx with rfl | rfl | rfl | rfl | rfl | rfl <;>
    simp only [Int.reduceBEq, beq_self_eq_true, bne, cond_true, cond_false, Bool.not_true, Bool.not_false, he, hz] <;>
    (generalize decide ((s3.n : Int) > 0) = a3; generalize decide ((s4.n : Int) > 0) = a4; generalize decide ((s5.n : Int) > 0) = a5
     generalize (x1.toList == ByteArray.toList ⟨#[]⟩) = e1; generalize (x2 == 0) = e2
     revert a3 a4 a5 e1 e2; decide)
theorem g72_eq (x0 : Int) (x1 : ByteArray) (x2 : Int) (s3 : Sl T160) (s4 : Sl ByteArray) (s5 : Sl T164) (h3 : s3.n ≤ 1048576) (h4 : s4.n ≤ 1048576) (h5 : s5.n ≤ 1048576) : g72 x0 x1 x2 s3 s4 s5 = g74 x0 x1 x2 s3 s4 s5 := by
  unfold g72 g74
  have hm : g72_m1 x0 = !(g112 x0 1 6) := by
    rw [g112_eq]; unfold g72_m1
    by_cases h1 : x0 < 1
    · have : ¬ (x0 ≥ 1) := by omega
      simp [h1, this]
    · by_cases h2 : x0 > 6
      · have : ¬ (x0 ≤ 6) := by omega
        simp [h2, this]
      · have : x0 ≥ 1 := by omega
        have : x0 ≤ 6 := by omega
        simp [*]
  rw [hm]
  cases hr : g112 x0 1 6 with
  | false => rfl
  | true =>
    simp only [Bool.not_true, cond_false]
    have hr : 1 ≤ x0 ∧ x0 ≤ 6 := by simpa [g112_eq] using hr
    rw [forms x0 x1 x2 s3 s4 s5 h3 h4 h5 hr]
    cases g74_m2 x0 x1 x2 s3 s4 s5
    · simp only [cond_false]
      have f4 := fun X => fall (u4 s4 (by omega)) X
      have f8 := fun X => fall (u8 s3 (by omega)) X
      have f10 := fun X => fall (u10 s5 (by omega)) X
      have f12 := fun X => fall (u12 s5 (by omega)) X
      have f14 := fun X => fall (u14 s3 (by omega)) X
      have f18 := fun X => u18 x0 s4 (by omega) X
      have f22 := fun X => o22 s5 h5 X
      simp only [g74_p5, g74_p9, g74_p11, g74_p13, g74_p15, f4, f8, f10, f12, f14, f18, f22]
      have hs : g112 (g145 s3 s4 s5) 1 20 = !(bif decide (g131 s3 s4 s5 < 1) then true else decide (g131 s3 s4 s5 > 20)) := by
        rw [sum_eq _ _ _ h3 h4 h5, sum_eq' _ _ _ h3 h4 h5, g112_eq]
        generalize (s3.n : Int) + s4.n + s5.n = t
        by_cases h1 : t < 1
        · have : ¬ (t ≥ 1) := by omega
          simp [h1, this]
        · by_cases h2 : t > 20
          · have : ¬ (t ≤ 20) := by omega
            simp [h2, this]
          · have : t ≥ 1 := by omega
            have : t ≤ 20 := by omega
            simp [*]
      simp only [g74_m3, g72_m8, g72_m9, g72_m10, hs, a110 s4 (by omega), a133 s3 (by omega), a135 s5 (by omega), a137 s5 (by omega), e15 x0 s3 s4 s5 h3 h4 h5, g116_eq, g117_eq]
      have ho : hit (fun i => !(Op.bytesLess (s3.at' (Int.toNat (IntKind.i64.wrap (i - 1)))).c0.toList (s3.at' (Int.toNat i)).c0.toList)) (s3.n - 1) 1 = o3 s3 := rfl
      rw [ho]
      generalize (bif decide (g131 s3 s4 s5 < 1) then true else decide (g131 s3 s4 s5 > 20)) = b1
      generalize g113 x1 = b2
      generalize g114 x2 = b3
      generalize hit _ s4.n 0 = b4
      generalize hit _ s3.n 0 = b5
      generalize hit (fun i => !(g113 _)) s5.n 0 = b6
      generalize hit _ s5.n 0 = b7
      generalize o3 s3 = b8
      generalize o4 s4 = b9
      generalize o5 s5 = b10
      generalize hit _ (s5.n - 1) 1 = b11
      generalize (x0 == 5) = b12
      cases decide (x0 ≥ 3) <;> cases b1 <;> cases b2 <;> try rfl
      all_goals (cases b4 <;> cases b5 <;> cases b6 <;> cases b3 <;> cases b7 <;> try rfl)
      all_goals (cases b8 <;> cases b9 <;> cases b10 <;> cases b11 <;> cases b12 <;> rfl)
    · rfl
theorem law20 (x0 : Int) (x1 : ByteArray) (x2 : Int) (s3 : Sl T160) (s4 : Sl ByteArray) (s5 : Sl T164) (_ : -9223372036854775808 ≤ x0 ∧ x0 ≤ 9223372036854775807) (_ : x1.size ≤ 1048576) (_ : -9223372036854775808 ≤ x2 ∧ x2 ≤ 9223372036854775807) (c3 : Canon s3) (h3 : s3.n ≤ 1048576) (c4 : Canon s4) (h4 : s4.n ≤ 1048576) (c5 : Canon s5) (h5 : s5.n ≤ 1048576) : g20 x0 x1 x2 s3 s4 s5 = true := by
  unfold g20
  rw [copy73_3 s3 c3 (by omega), copy73_4 s4 c4 (by omega), copy73_5 s5 c5 (by omega)]
  simp only [g73_0, g73_1, g73_2]
  rw [g72_eq x0 x1 x2 s3 s4 s5 h3 h4 h5]
  simp
end Go.Proofs.YtchhfojblmceiaaGreat
namespace Go.Vc
open Go Go.RowKit
theorem copy_idc {α : Type} [Inhabited α] (F : Nat → Int → Sl α → Sl α) (s : Sl α) (f : Int → α) (hs : Canon s) (hn : s.n ≤ 549755813888) (hf : ∀ i : Nat, i < s.n → f (i : Int) = s.at' i) (hF : ∀ k i t, F (k + 1) i t = bif decide (i < (s.n : Int)) then F k (IntKind.i64.wrap (i + 1)) (Sl.app t (Sl.lit [f i])) else t) :
    F (Int.toNat ((s.n : Int) - 0) + 1) 0 nilSl = s := by
  rw [copyL F s.n f hn hF s.n _ 0 nilSl Canon.nil (Int.le_refl _) (by omega) (by omega), nil_app]
  refine Canon.eq (Canon.tab _ _ _) hs rfl fun i hi => ?_
  have hi : i < s.n := hi
  simp only [tab, blt_t hi, cond_true]
  rw [show (0 : Int) + (i : Int) = (i : Int) by omega]
  exact hf i hi
theorem bif_or {α : Type} (a b : Bool) (x y : α) : (bif a then x else bif b then x else y) = bif (a || b) then x else y := by cases a <;> rfl
end Go.Vc
namespace Go.Proofs.YtchhfojblmceiaaGreat
open Go Go.Vc Go.RowKit
set_option maxRecDepth 100000
set_option maxHeartbeats 4000000
theorem copy79 (s : Sl T175) (h : Canon s) (hn : s.n ≤ 549755813888) (hw : ∀ i, i < s.n → W175 (s.at' i)) : g79_1 s = s := by
  refine copy_idc (g79_l1 s) s (fun i => ⟨(s.at' (Int.toNat i)).c0, g73_0 (s.at' (Int.toNat i)).c1, g73_1 (s.at' (Int.toNat i)).c2, g73_2 (s.at' (Int.toNat i)).c3, g73_3 (s.at' (Int.toNat i)).c4, g73_4 (s.at' (Int.toNat i)).c5, g73_5 (s.at' (Int.toNat i)).c6, (s.at' (Int.toNat i)).c7⟩) h hn (fun i hi => ?_) fun _ _ _ => rfl
  obtain ⟨⟨a1, a2⟩, ⟨b1, b2⟩, c1, c2⟩ := hw i hi
  simp only [Int.toNat_natCast, g73_0, g73_1, g73_2]
  rw [copy73_3 _ a1 (by omega), copy73_4 _ b1 (by omega), copy73_5 _ c1 (by omega)]
theorem n118 (x : ByteArray) (b : Bool) : (bif !(g118 x) then true else b) = (bif decide ((x.size : Int) < 1) then true else bif decide ((x.size : Int) > 12) then true else b) := by
  have : (!(g118 x)) = (decide ((x.size : Int) < 1) || decide ((x.size : Int) > 12)) := by
    unfold g118
    rw [g112_eq]
    by_cases h1 : (x.size : Int) < 1
    · have : ¬ ((x.size : Int) ≥ 1) := by omega
      simp only [h1, this, decide_true, decide_false, Bool.false_and, Bool.not_false, Bool.true_or]
    · by_cases h2 : (x.size : Int) > 12
      · have : ¬ ((x.size : Int) ≤ 12) := by omega
        simp only [h2, this, decide_true, decide_false, Bool.and_false, Bool.not_false, Bool.or_true]
      · have h3 : (x.size : Int) ≥ 1 := by omega
        have h4 : (x.size : Int) ≤ 12 := by omega
        simp only [h1, h2, h3, h4, decide_true, decide_false, Bool.and_true, Bool.not_true, Bool.or_false]
  rw [this]
  cases decide ((x.size : Int) < 1) <;> cases decide ((x.size : Int) > 12) <;> rfl
theorem until_eq (x u : Int) (h : 0 ≤ x) : (bif (!(g112 u 0 1073741824)) then true else decide (u ≤ x)) = (bif decide (u ≤ x) then true else decide (u > 1073741824)) := by
  rw [g112_eq]
  by_cases h1 : u ≤ x
  · simp [h1]
  · have h2 : u ≥ 0 := by omega
    by_cases h3 : u > 1073741824
    · have : ¬ (u ≤ 1073741824) := by omega
      simp [h1, h3, this]
    · have : u ≤ 1073741824 := by omega
      simp [h1, h2, h3, this]
theorem e78 (x0 : Int) (s : Sl T175) (h0 : 0 ≤ x0) (hn : s.n ≤ 549755813888) (hw : ∀ i, i < s.n → W175 (s.at' i)) : g78_r10 x0 s = g80_r8 x0 s := by
  have hl : g78_r10 x0 s = scan (fun i => g78_m7 s i || g78_m9 x0 s i) (fun _ => 13) s.n 0 := scan0 (g78_l5 x0 s) s.n _ _ hn fun k i => by
    show (bif decide (i < (s.n : Int)) then (bif (g78_m7 s i) then (true, 13) else (bif (g78_m9 x0 s i) then (true, 13) else g78_l5 x0 s k (IntKind.i64.wrap (i + 1)))) else (false, default)) = _
    rw [bif_or]
  have hr : g80_r8 x0 s = scan (fun i => g80_m5 s i || g80_m7 x0 s i) (fun _ => 13) s.n 0 := scan0 (g80_l4 x0 s) s.n _ _ hn fun k i => by
    show (bif decide (i < (s.n : Int)) then (bif (g80_m5 s i) then (true, 13) else (bif (g80_m7 x0 s i) then (true, 13) else g80_l4 x0 s k (IntKind.i64.wrap (i + 1)))) else (false, default)) = _
    rw [bif_or]
  rw [hl, hr]
  refine scan_congr _ _ (fun j j0 j1 => ?_) fun _ _ _ => rfl
  obtain ⟨⟨_, a2⟩, ⟨_, b2⟩, _, c2⟩ := hw (Int.toNat j) (by omega)
  have e5 : g80_m5 s j = g78_m7 s j := by
    simp only [g80_m5, g78_m7]
    rw [g72_eq _ _ _ _ _ _ a2 b2 c2]
    exact n118 _ _
  have e7 : g80_m7 x0 s j = g78_m9 x0 s j := by
    simp only [g80_m7, g78_m9]
    rw [until_eq _ _ h0]
  rw [e5, e7]
theorem g78_eq (x0 : Int) (s : Sl T175) (hn : s.n ≤ 549755813888) (hw : ∀ i, i < s.n → W175 (s.at' i)) : g78 x0 s = g80 x0 s := by
  unfold g78 g80
  have hm : g78_m1 x0 s = g80_m1 x0 s := by
    unfold g78_m1 g80_m1
    rw [g112_eq]
    by_cases h1 : x0 < 0
    · have : ¬ (x0 ≥ 0) := by omega
      simp [h1, this]
    · have h3 : x0 ≥ 0 := by omega
      by_cases h2 : x0 > 1073741824
      · have : ¬ (x0 ≤ 1073741824) := by omega
        simp [h2, this]
      · have : x0 ≤ 1073741824 := by omega
        simp [h1, h2, h3, this]
  rw [hm]
  cases h : g80_m1 x0 s with
  | true => rfl
  | false =>
    have h0 : 0 ≤ x0 := by
      unfold g80_m1 at h
      rw [g112_eq] at h
      by_cases h3 : x0 ≥ 0
      · exact h3
      · simp [h3] at h
    simp only [g78_p11, g80_p9, e78 x0 s h0 hn hw]
theorem law22 (x0 : Int) (s : Sl T175) (_ : -9223372036854775808 ≤ x0 ∧ x0 ≤ 9223372036854775807) (c : Canon s) (hn : s.n ≤ 1048576) (hw : ∀ i, i < s.n → W175 (s.at' i)) : g22 x0 s = true := by
  unfold g22
  rw [copy79 s c (by omega) hw]
  simp only [g79_0]
  rw [g78_eq x0 s (by omega) hw]
  simp
end Go.Proofs.YtchhfojblmceiaaGreat
namespace Go.Proofs.YtchhfojblmceiaaGreat
open Go Go.Vc Go.RowKit
set_option maxRecDepth 100000
theorem scan192 (s : Sl ByteArray) (hn : s.n ≤ 549755813888) : g192_111_r1 s = scan (fun i => g111 (s.at' (Int.toNat i))) (fun i => i) s.n 0 := scan0 (g192_111_l1 s) s.n _ _ hn fun _ _ => rfl
theorem scan44 (s : Sl ByteArray) (hn : s.n ≤ 549755813888) : g44_r2 s = scan (fun i => !(g113 (s.at' (Int.toNat i)))) (fun _ => 1) s.n 0 := scan0 (g44_l5 s) s.n _ _ hn fun _ _ => rfl
theorem t111 (s : ByteArray) : g111 s = !(g113 s) := by
  simp only [g111, g113]
  by_cases h : (s.size : Int) > 20 <;> simp [h] <;> omega
theorem g42_eq (x0 : Int) (x1 : ByteArray) (x2 : Int) (x3 : Sl ByteArray) (hm : x3.n ≤ 1048576) : g42 x0 x1 x2 x3 = g44 x0 x1 x2 x3 := by
  have hn : x3.n ≤ 549755813888 := by omega
  have h1 : g110_111 x3 = (g44_r2 x3).1 := by
    simp only [g110_111, g192_111, g192_111_p2]
    have e : (g192_111_r1 x3).1 = (g44_r2 x3).1 := by
      rw [scan192 x3 hn, scan44 x3 hn, scan_fst _ _ (fun _ => (1 : Int))]
      congr 1
      exact scan_congr _ _ (fun j _ _ => t111 _) (fun _ _ _ => rfl)
    rw [← e]
    rcases Bool.eq_false_or_eq_true (g192_111_r1 x3).1 with h | h
    · have h4 : 0 ≤ (g192_111_r1 x3).2 := by
        rw [scan192 x3 hn] at h ⊢
        obtain ⟨j, h1, h2, _, h4⟩ := scan_snd _ _ h
        rw [h4]; exact h1
      simp [h, h4]
    · simp [h]
  have h2 : (g44_r2 x3).1 = true → (g44_r2 x3).2 = 1 := fun h => by
    rw [scan44 x3 hn] at h ⊢
    obtain ⟨j, _, _, _, h4⟩ := scan_snd _ _ h
    exact h4
  simp only [g42, g44, h1, g44_p3]
  have e0 : g42_m1 x0 = !(g112 x0 0 13) := by
    simp only [g42_m1, g112, g112_m1]
    by_cases h1 : x0 < 0 <;> by_cases h2 : x0 > 13 <;> simp [h1, h2] <;> omega
  have e1 : g42_m2 x1 x3 = g44_m1 x1 x3 := by
    simp only [g42_m2, g44_m1, ← t111]
    rfl
  have e2 : g42_m3 x2 = !(g114 x2) := by
    simp only [g42_m3, g114, g112, g112_m1]
    by_cases h1 : x2 < -1099511627776 <;> by_cases h2 : x2 > 1099511627776 <;> simp [h1, h2] <;> omega
  rw [e0, e1, e2]
  cases g112 x0 0 13 <;> cases g44_m1 x1 x3 <;> cases h3 : (g44_r2 x3).1 <;> cases g114 x2 <;> simp <;> exact (h2 h3).symm
end Go.Proofs.YtchhfojblmceiaaGreat
namespace Go.Proofs.YtchhfojblmceiaaGreat
open Go Go.Vc Go.RowKit
set_option maxRecDepth 100000
set_option maxHeartbeats 4000000
theorem copy152 (s : Sl ByteArray) (h : Canon s) (hn : s.n ≤ 549755813888) : g152_3 s = s := copy_id (g152_l1 s) s h hn fun _ _ _ => rfl
theorem copy85 (s : Sl T137) (h : Canon s) (hn : s.n ≤ 549755813888) (hw : ∀ i, i < s.n → W137 (s.at' i)) : g85_3 s = s := by
  refine copy_idc (g85_l1 s) s (fun i => ⟨(s.at' (Int.toNat i)).c0, (s.at' (Int.toNat i)).c1, (s.at' (Int.toNat i)).c2, g152_0 (s.at' (Int.toNat i)).c3, g152_1 (s.at' (Int.toNat i)).c4, g152_2 (s.at' (Int.toNat i)).c5, g152_3 (s.at' (Int.toNat i)).c6⟩) h hn (fun i hi => ?_) fun _ _ _ => rfl
  obtain ⟨a1, a2⟩ := hw i hi
  simp only [Int.toNat_natCast, g152_0, g152_1, g152_2]
  rw [copy152 _ a1 (by omega)]
theorem in_not (n l h : Int) : (!(g112 n l h)) = (decide (n < l) || decide (n > h)) := by
  rw [g112_eq]
  by_cases h1 : n < l
  · have : ¬ (n ≥ l) := by omega
    simp [h1, this]
  · by_cases h2 : n > h
    · have : ¬ (n ≤ h) := by omega
      simp [h2, this]
    · have h3 : n ≥ l := by omega
      have h4 : n ≤ h := by omega
      simp [h1, h2, h3, h4]
theorem e84 (x0 x2 : Int) (s : Sl T137) (hx : x2 ≤ 1048577) (hn : s.n ≤ 549755813888) (hw : ∀ i, i < s.n → W137 (s.at' i)) : g84_r14 x0 x2 s = g86_r12 x0 x2 s := by
  have hl : g84_r14 x0 x2 s = scan (fun i => g84_m5 x2 s i || g84_m13 x0 s i) (fun _ => 13) s.n 0 := scan0 (g84_l6 x0 x2 s) s.n _ _ hn fun k i => by
    show (bif decide (i < (s.n : Int)) then (bif (g84_m5 x2 s i) then (true, 13) else (bif (g84_m13 x0 s i) then (true, 13) else g84_l6 x0 x2 s k (IntKind.i64.wrap (i + 1)))) else (false, default)) = _
    rw [bif_or]
  have hr : g86_r12 x0 x2 s = scan (fun i => g86_m11 x0 x2 s i) (fun _ => 13) s.n 0 := scan0 (g86_l5 x0 x2 s) s.n _ _ hn fun k i => rfl
  rw [hl, hr]
  refine scan_congr _ _ (fun j j0 j1 => ?_) fun _ _ _ => rfl
  obtain ⟨_, a2⟩ := hw (Int.toNat j) (by omega)
  simp only [g86_m11, g84_m5, g84_m13, g120, in_not, g42_eq _ _ _ _ a2]
  generalize (s.at' (Int.toNat j)).c0 = a
  generalize (s.at' (Int.toNat j)).c1 = b
  generalize (s.at' (Int.toNat j)).c2 = c
  generalize (s.at' (Int.toNat (IntKind.i64.wrap (j - 1)))).c0 = d
  generalize (g44 _ _ _ _ != 0) = e
  have h1 : (decide (a < 1) || decide (a > 1048576) || decide (a ≥ x2)) = (decide (a < 1) || decide (a ≥ x2)) := by
    by_cases h : a > 1048576
    · have : a ≥ x2 := by omega
      simp [h, this]
    · simp [h]
  revert h1
  generalize decide (a < 1) = p1
  generalize decide (a > 1048576) = p2
  generalize decide (a ≥ x2) = p3
  generalize decide (b < 0) = p4
  generalize decide (b > 1048576) = p5
  generalize decide (c < 0) = p6
  generalize decide (c > x0) = p7
  generalize decide (j > 0) = p8
  generalize decide (d ≥ a) = p9
  cases p1 <;> cases p2 <;> cases p3 <;> intro h1 <;> first | (cases h1; done) | skip
  all_goals cases p4 <;> cases p5 <;> cases p6 <;> cases p7 <;> cases p8 <;> cases p9 <;> cases e <;> rfl
theorem g84_eq (x0 : Int) (s1 : Sl T175) (x2 : Int) (s3 : Sl T137) (h1 : s1.n ≤ 549755813888) (w1 : ∀ i, i < s1.n → W175 (s1.at' i)) (h3 : s3.n ≤ 549755813888) (w3 : ∀ i, i < s3.n → W137 (s3.at' i)) : g84 x0 s1 x2 s3 = g86 x0 s1 x2 s3 := by
  unfold g84 g86
  have hm : g84_m1 x0 s1 x2 s3 = g86_m1 x0 s1 x2 s3 := by
    simp only [g84_m1, g86_m1, g78_eq x0 s1 h1 w1, in_not]
    cases decide (x2 < 1) <;> cases decide (x2 > 1048577) <;> rfl
  rw [hm]
  cases h : g86_m1 x0 s1 x2 s3 with
  | true => rfl
  | false =>
    have hx : x2 ≤ 1048577 := by
      simp only [g86_m1, in_not] at h
      by_cases h3 : x2 > 1048577
      · simp [h3] at h
      · omega
    simp only [g84_p15, g86_p13, e84 x0 x2 s3 hx h3 w3]
theorem law24 (x0 : Int) (s1 : Sl T175) (x2 : Int) (s3 : Sl T137) (_ : -9223372036854775808 ≤ x0 ∧ x0 ≤ 9223372036854775807) (c1 : Canon s1) (n1 : s1.n ≤ 1048576) (w1 : ∀ i, i < s1.n → W175 (s1.at' i)) (_ : -9223372036854775808 ≤ x2 ∧ x2 ≤ 9223372036854775807) (c3 : Canon s3) (n3 : s3.n ≤ 1048576) (w3 : ∀ i, i < s3.n → W137 (s3.at' i)) : g24 x0 s1 x2 s3 = true := by
  unfold g24
  simp only [g85_0, g85_1, g85_2, g79_0]
  rw [copy85 s3 c3 (by omega) w3, copy79 s1 c1 (by omega) w1, g84_eq x0 s1 x2 s3 (by omega) w1 (by omega) w3]
  simp
end Go.Proofs.YtchhfojblmceiaaGreat
namespace Go.Proofs.YtchhfojblmceiaaGreat
open Go Go.Vc Go.RowKit
set_option maxRecDepth 100000
theorem g153_eq (x : Int) : g153 x = g120 x := by
  unfold g153 g120
  rw [g112_eq]
  first | rfl | (unfold g153_m1; cases decide (x ≥ 1) <;> rfl)
theorem g87_eq (x0 x1 x2 : Int) (s3 : Sl T175) (x4 : Int) (s5 : Sl T137) (h1 : s3.n ≤ 549755813888) (w1 : ∀ i, i < s3.n → W175 (s3.at' i)) (h3 : s5.n ≤ 549755813888) (w3 : ∀ i, i < s5.n → W137 (s5.at' i)) : g87 x0 x1 x2 s3 x4 s5 = g89 x0 x1 x2 s3 x4 s5 := by
  unfold g87 g89 g87_m1 g89_m1
  rw [g153_eq, g153_eq, g84_eq x2 s3 x4 s5 h1 w1 h3 w3]
theorem law25 (x0 x1 x2 : Int) (s3 : Sl T175) (x4 : Int) (s5 : Sl T137) (_ : -9223372036854775808 ≤ x0 ∧ x0 ≤ 9223372036854775807) (_ : -9223372036854775808 ≤ x1 ∧ x1 ≤ 9223372036854775807) (_ : -9223372036854775808 ≤ x2 ∧ x2 ≤ 9223372036854775807) (c1 : Canon s3) (n1 : s3.n ≤ 1048576) (w1 : ∀ i, i < s3.n → W175 (s3.at' i)) (_ : -9223372036854775808 ≤ x4 ∧ x4 ≤ 9223372036854775807) (c3 : Canon s5) (n3 : s5.n ≤ 1048576) (w3 : ∀ i, i < s5.n → W137 (s5.at' i)) : g25 x0 x1 x2 s3 x4 s5 = true := by
  unfold g25
  simp only [g88_0, g88_1, g88_2, g88_3, g88_4, g88_5, g85_0, g85_1, g85_2, g79_0]
  rw [copy85 s5 c3 (by omega) w3, copy79 s3 c1 (by omega) w1, g87_eq x0 x1 x2 s3 x4 s5 (by omega) w1 (by omega) w3]
  simp
end Go.Proofs.YtchhfojblmceiaaGreat
