/-
  What is proved: a part of the laws of this seat, in plain Lean.
-/
import Derived.Test.YtchhfojblmceiaaYA
import Derived.Test.YtchhfojblmceiaaZA
import Derived.Test.YtchhfojblmceiaaVcH
import Derived.Test.YtchhfojblmceiaaWd
namespace Go.Proofs.Ytchhfojblmceiaa
open Go Go.Vc Go.RowKit
set_option maxRecDepth 100000
theorem g112_eq (n l h : Int) : g112 n l h = (decide (n ≥ l) && decide (n ≤ h)) := by
  unfold g112 g112_m1; cases decide (n ≥ l) <;> rfl
theorem g118_eq (x : ByteArray) : g115 x = g118 x := by
  unfold g118 g115 g115_m1; rw [g112_eq]; cases decide ((x.size : Int) ≥ 1) <;> rfl
theorem g116_eq (x : ByteArray) : g116 x = g113 x := rfl
theorem g117_eq (x : Int) : g117 x = g114 x := by
  unfold g117 g117_m1 g114; rw [g112_eq]; cases decide (x ≥ (-1099511627776)) <;> rfl
end Go.Proofs.Ytchhfojblmceiaa
namespace Go.Proofs.Ytchhfojblmceiaa
open Go Go.Vc Go.RowKit
set_option maxRecDepth 100000
set_option maxHeartbeats 4000000
theorem copy73_3 (s : Sl T160) (h : Canon s) (hn : s.n ≤ 549755813888) : g73_3 s = s := copy_id (g73_l1 s) s h hn fun _ _ _ => rfl
theorem copy73_4 (s : Sl ByteArray) (h : Canon s) (hn : s.n ≤ 549755813888) : g73_4 s = s := copy_id (g73_l7 s) s h hn fun _ _ _ => rfl
theorem copy73_5 (s : Sl T164) (h : Canon s) (hn : s.n ≤ 549755813888) : g73_5 s = s := copy_id (g73_l13 s) s h hn fun _ _ _ => rfl
-- the program's
theorem a110 (s : Sl ByteArray) (hn : s.n ≤ 549755813888) : g110_132 s = hit (fun i => !(g113 (s.at' (Int.toNat i)))) s.n 0 :=
  idx_hit _ _ _ (scan0 (g192_132_l1 s) s.n (fun i => !(g113 (s.at' (Int.toNat i)))) (fun i => i) hn fun _ _ => rfl)
theorem a133 (s : Sl T160) (hn : s.n ≤ 549755813888) : g133_134 s = hit (fun i => g134 (s.at' (Int.toNat i)).c0 (s.at' (Int.toNat i)).c1) s.n 0 :=
  idx_hit _ _ _ (scan0 (g196_134_l1 s) s.n (fun i => g134 (s.at' (Int.toNat i)).c0 (s.at' (Int.toNat i)).c1) (fun i => i) hn fun _ _ => rfl)
theorem a135 (s : Sl T164) (hn : s.n ≤ 549755813888) : g135_136 s = hit (fun i => !(g113 (s.at' (Int.toNat i)).c0)) s.n 0 :=
  idx_hit _ _ _ (scan0 (g197_136_l1 s) s.n (fun i => !(g113 (s.at' (Int.toNat i)).c0)) (fun i => i) hn fun _ _ => rfl)
theorem a137 (s : Sl T164) (hn : s.n ≤ 549755813888) : g135_137 s = hit (fun i => !(g117 (s.at' (Int.toNat i)).c1)) s.n 0 :=
  idx_hit _ _ _ (scan0 (g197_137_l1 s) s.n (fun i => !(g117 (s.at' (Int.toNat i)).c1)) (fun i => i) hn fun _ _ => rfl)
theorem a144 (s : Sl T164) (x : ByteArray) (hn : s.n ≤ 549755813888) : decide (g144 s x ≥ 0) = hit (fun i => (s.at' (Int.toNat i)).c0.toList == x.toList) s.n 0 :=
  idx_hit _ _ _ (scan0 (g197_201s_l1 s x) s.n (fun i => (s.at' (Int.toNat i)).c0.toList == x.toList) (fun i => i) hn fun _ _ => rfl)
theorem a147 (s : Sl T164) (x : ByteArray) (hn : s.n ≤ 549755813888) : decide (g147 s x ≥ 0) = hit (fun i => (s.at' (Int.toNat i)).c0.toList == x.toList) s.n 0 :=
  idx_hit _ _ _ (scan0 (g147_l1 s x) s.n (fun i => (s.at' (Int.toNat i)).c0.toList == x.toList) (fun i => i) hn fun _ _ => rfl)
noncomputable def o3 (s : Sl T160) : Bool := hit (fun i => !(Op.bytesLess (s.at' (Int.toNat (IntKind.i64.wrap (i - 1)))).c0.toList (s.at' (Int.toNat i)).c0.toList)) (s.n - 1) 1
noncomputable def o4 (s : Sl ByteArray) : Bool := hit (fun i => !(Op.bytesLess (s.at' (Int.toNat (IntKind.i64.wrap (i - 1)))).toList (s.at' (Int.toNat i)).toList)) (s.n - 1) 1
noncomputable def o5 (s : Sl T164) : Bool := hit (fun i => !(g146 (s.at' (Int.toNat (IntKind.i64.wrap (i - 1)))).c0 (s.at' (Int.toNat (IntKind.i64.wrap (i - 1)))).c1 (s.at' (Int.toNat i)).c0 (s.at' (Int.toNat i)).c1)) (s.n - 1) 1
noncomputable def same (s : Sl T164) (i : Int) : Bool := hit (fun j => ((Sl.part s 0 i).at' (Int.toNat j)).c0.toList == (s.at' (Int.toNat i)).c0.toList) (Sl.part s 0 i).n 0
theorem rise {F : Bool × Bool} {bad : Int → Bool} {m : Nat} (h : F = scan bad (fun _ => false) m 1) : (bif (bif F.1 then false else true) then true else F.2) = !(hit bad m 1) := by
  rw [h, scan_const]
  cases hit bad m 1 <;> rfl
theorem c139 (a b : ByteArray) : decide (g139 a b ≥ 0) = !(Op.bytesLess a.toList b.toList) := cmp_less a b
theorem a138 (s : Sl T160) (hn : s.n ≤ 549755813888) : g138_139 s = !(o3 s) := by
  refine (rise (scanG (g138_139_l1 s) s.n (fun i => decide (g139 (s.at' (Int.toNat (IntKind.i64.wrap (i - 1)))).c0 (s.at' (Int.toNat i)).c0 ≥ 0)) (fun _ => false) hn fun _ _ => rfl)).trans ?_
  congr 1
  exact hit_congr _ _ fun j _ _ => c139 _ _
theorem a142 (s : Sl ByteArray) (hn : s.n ≤ 549755813888) : g142_143 s = !(o4 s) := by
  refine (rise (scanG (g142_143_l1 s) s.n (fun i => decide (g143 (s.at' (Int.toNat (IntKind.i64.wrap (i - 1)))) (s.at' (Int.toNat i)) ≥ 0)) (fun _ => false) hn fun _ _ => rfl)).trans ?_
  congr 1
  exact hit_congr _ _ fun j _ _ => cmp_less _ _
theorem e198 (a b : Int) : g198 (Sl.lit [a, b]) = bif a != 0 then a else b := by
  have h : g198_r1 (Sl.lit [a, b]) = scan (fun i => (Sl.lit [a, b]).at' (Int.toNat i) != 0) (fun i => (Sl.lit [a, b]).at' (Int.toNat i)) 2 0 :=
    scan0 (g198_l1 (Sl.lit [a, b])) 2 _ _ (by omega) fun _ _ => rfl
  have e0 : (Sl.lit [a, b]).at' (Int.toNat 0) = a := rfl
  have e1 : (Sl.lit [a, b]).at' (Int.toNat (0 + 1)) = b := rfl
  simp only [g198, g198_p2, h, scan, e0, e1]
  cases h1 : (a != 0)
  · cases h2 : (b != 0)
    · have : b = 0 := by simpa [bne] using h2
      subst this; rfl
    · rfl
  · rfl
theorem e199 (a b : Int) : g199 a b = bif decide (a < b) then -1 else bif decide (a > b) then 1 else 0 := by
  simp [g199, g225]
theorem c141 (a : ByteArray) (x : Int) (b : ByteArray) (y : Int) : decide (g141 a x b y ≥ 0) = !(g146 a x b y) := by
  simp only [g141, e198, e199, g146]
  by_cases h1 : x < y
  · have h2 : x ≠ y := by omega
    simp [h1, h2]
  · by_cases h2 : x > y
    · have h3 : x ≠ y := by omega
      simp [h1, h2, h3]
    · have h3 : x = y := by omega
      subst h3
      have e1 : decide (x < x) = false := by simp
      have e2 : decide (x > x) = false := by simp
      have e3 : (x != x) = false := by simp
      rw [e1, e3]
      exact cmp_less a b
theorem a140 (s : Sl T164) (hn : s.n ≤ 549755813888) : g140_141 s = !(o5 s) := by
  refine (rise (scanG (g140_141_l1 s) s.n (fun i => decide (g141 (s.at' (Int.toNat (IntKind.i64.wrap (i - 1)))).c0 (s.at' (Int.toNat (IntKind.i64.wrap (i - 1)))).c1 (s.at' (Int.toNat i)).c0 (s.at' (Int.toNat i)).c1 ≥ 0)) (fun _ => false) hn fun _ _ => rfl)).trans ?_
  congr 1
  exact hit_congr _ _ fun j _ _ => c141 _ _ _ _
theorem fall {F : Bool × Int} {bad : Int → Bool} {c : Int} {m : Nat} {i : Int} (h : F = scan bad (fun _ => c) m i) (X : Int) : (bif (bif F.1 then false else true) then X else F.2) = bif hit bad m i then c else X := by
  rw [h, scan_const]
  cases hit bad m i <;> rfl
theorem u4 (s : Sl ByteArray) (hn : s.n ≤ 549755813888) : g74_r4 s = scan (fun i => !(g113 (s.at' (Int.toNat i)))) (fun _ => 1) s.n 0 :=
  scan0 (g74_l56 s) s.n _ _ hn fun _ _ => rfl
theorem u8 (s : Sl T160) (hn : s.n ≤ 549755813888) : g74_r8 s = scan (fun i => g134 (s.at' (Int.toNat i)).c0 (s.at' (Int.toNat i)).c1) (fun _ => 1) s.n 0 :=
  scan0 (g74_l63 s) s.n _ _ hn fun k i => by
    have : g74_m7 s i = g134 (s.at' (Int.toNat i)).c0 (s.at' (Int.toNat i)).c1 := by
      simp only [g74_m7, g134, g134_m1, g118_eq, g116_eq]
    show (bif decide (i < (s.n : Int)) then (bif (g74_m7 s i) then (true, 1) else _) else _) = _
    rw [this]
theorem u10 (s : Sl T164) (hn : s.n ≤ 549755813888) : g74_r10 s = scan (fun i => !(g113 (s.at' (Int.toNat i)).c0)) (fun _ => 1) s.n 0 :=
  scan0 (g74_l74 s) s.n _ _ hn fun _ _ => rfl
theorem u12 (s : Sl T164) (hn : s.n ≤ 549755813888) : g74_r12 s = scan (fun i => !(g117 (s.at' (Int.toNat i)).c1)) (fun _ => 2) s.n 0 :=
  scan0 (g74_l82 s) s.n _ _ hn fun k i => by
    simp only [g117_eq]; rfl
theorem u14 (s : Sl T160) (hn : s.n ≤ 549755813888) : g74_r14 s = scan (fun i => !(Op.bytesLess (s.at' (Int.toNat (IntKind.i64.wrap (i - 1)))).c0.toList (s.at' (Int.toNat i)).c0.toList)) (fun _ => 10) (s.n - 1) 1 :=
  scanG (g74_l89 s) s.n _ _ hn fun _ _ => rfl
theorem u18 (x : Int) (s : Sl ByteArray) (hn : s.n ≤ 549755813888) (X : Int) : (bif g74_p19 x s then X else (g74_r18 x s).2) = bif (x == 5 && o4 s) then 10 else X := by
  cases hx : (x == 5) with
  | false =>
    have : g74_r18 x s = (false, default) := by
      show (bif (bif decide ((1 : Int) < (s.n : Int)) then (x == 5) else false) then _ else _) = _
      rw [hx]; cases decide ((1 : Int) < (s.n : Int)) <;> rfl
    simp only [g74_p19, this]; rfl
  | true =>
    have : g74_r18 x s = scan (fun i => !(Op.bytesLess (s.at' (Int.toNat (IntKind.i64.wrap (i - 1)))).toList (s.at' (Int.toNat i)).toList)) (fun _ => 10) (s.n - 1) 1 :=
      scanG (g74_l96 x s) s.n _ _ hn fun k i => by
        have : g74_m17 x s i = decide (i < (s.n : Int)) := by
          simp only [g74_m17, hx]; cases decide (i < (s.n : Int)) <;> rfl
        show (bif g74_m17 x s i then _ else _) = _
        rw [this]
    exact fall this X
theorem part_n {α : Type} [Inhabited α] (s : Sl α) (i : Int) (h0 : 0 ≤ i) (h1 : i ≤ s.n) : ((Sl.part s 0 i).n : Int) = i := by
  simp [Sl.part]; omega
theorem u22 (s : Sl T164) (hn : s.n ≤ 1048576) : g74_r22 s = scan (fun i => !(g146 (s.at' (Int.toNat (IntKind.i64.wrap (i - 1)))).c0 (s.at' (Int.toNat (IntKind.i64.wrap (i - 1)))).c1 (s.at' (Int.toNat i)).c0 (s.at' (Int.toNat i)).c1) || decide (g147 (Sl.part s 0 i) (s.at' (Int.toNat i)).c0 ≥ 0)) (fun _ => 10) (s.n - 1) 1 :=
  scanG (g74_l107 s) s.n _ _ (by omega) fun k i => by
    have : g74_m21 s i = (!(g146 (s.at' (Int.toNat (IntKind.i64.wrap (i - 1)))).c0 (s.at' (Int.toNat (IntKind.i64.wrap (i - 1)))).c1 (s.at' (Int.toNat i)).c0 (s.at' (Int.toNat i)).c1) || decide (g147 (Sl.part s 0 i) (s.at' (Int.toNat i)).c0 ≥ 0)) := by
      simp only [g74_m21]
      cases g146 (s.at' (Int.toNat (IntKind.i64.wrap (i - 1)))).c0 (s.at' (Int.toNat (IntKind.i64.wrap (i - 1)))).c1 (s.at' (Int.toNat i)).c0 (s.at' (Int.toNat i)).c1 <;> rfl
    show (bif decide (i < (s.n : Int)) then (bif (g74_m21 s i) then (true, 10) else _) else _) = _
    rw [this]
theorem same147 (s : Sl T164) (i : Int) (h0 : 0 ≤ i) (h1 : i < s.n) (hn : s.n ≤ 1048576) : decide (g147 (Sl.part s 0 i) (s.at' (Int.toNat i)).c0 ≥ 0) = same s i := by
  have := part_n s i h0 (by omega)
  exact a147 _ _ (by omega)
theorem same144 (s : Sl T164) (i : Int) (h0 : 0 ≤ i) (h1 : i < s.n) (hn : s.n ≤ 1048576) : decide (g144 (Sl.part s 0 i) (s.at' (Int.toNat i)).c0 ≥ 0) = same s i := by
  have := part_n s i h0 (by omega)
  exact a144 _ _ (by omega)
theorem o22 (s : Sl T164) (hn : s.n ≤ 1048576) (X : Int) : (bif g74_p23 s then X else (g74_r22 s).2) = bif (o5 s || hit (same s) (s.n - 1) 1) then 10 else X := by
  refine (fall (u22 s hn) X).trans ?_
  rw [hit_or]
  rw [show hit (fun i => decide (g147 (Sl.part s 0 i) (s.at' (Int.toNat i)).c0 ≥ 0)) (s.n - 1) 1 = hit (same s) (s.n - 1) 1 from hit_congr _ _ fun j h1 h2 => same147 s j (by omega) (by omega) hn]
  rfl
theorem l23 (s : Sl T164) (hn : s.n ≤ 1048576) : ∀ (m k : Nat) (b : Bool) (i : Int), 0 ≤ i → i + (m : Int) = s.n → m ≤ k → g72_l29 s (k + 1) b i = (b && !(hit (same s) m i))
  | 0, k, b, i, h0, hi, hk => by
    show (bif decide (i < (s.n : Int)) then _ else b) = _
    rw [show decide (i < (s.n : Int)) = false by simp; omega]
    simp [hit]
  | m + 1, k, b, i, h0, hi, hk => by
    obtain ⟨k, rfl⟩ : ∃ k', k = k' + 1 := ⟨k - 1, by omega⟩
    show (bif decide (i < (s.n : Int)) then g72_l29 s (k + 1) (g72_m12 s b i) (IntKind.i64.wrap (i + 1)) else b) = _
    rw [show decide (i < (s.n : Int)) = true by simp; omega]
    simp only [cond_true]
    rw [wrap64 (by omega) (by omega), l23 s hn m k _ (i + 1) (by omega) (by omega) (by omega)]
    have e : decide (g144 (Sl.part s 0 i) (s.at' (Int.toNat i)).c0 < 0) = !(same s i) := by
      rw [← same144 s i h0 (by omega) hn]
      by_cases h : g144 (Sl.part s 0 i) (s.at' (Int.toNat i)).c0 < 0
      · have : ¬ (0 ≤ g144 (Sl.part s 0 i) (s.at' (Int.toNat i)).c0) := by omega
        simp [h, this]
      · have : 0 ≤ g144 (Sl.part s 0 i) (s.at' (Int.toNat i)).c0 := by omega
        simp [h, this]
    simp only [g72_m12, e, hit]
    cases b <;> cases same s i <;> simp
theorem l23z (s : Sl T164) (hn : s.n ≤ 1048576) : hit (same s) s.n 0 = hit (same s) (s.n - 1) 1 := by
  rcases Nat.eq_zero_or_pos s.n with h | h
  · rw [h]; rfl
  · obtain ⟨m, hm⟩ : ∃ m, s.n = m + 1 := ⟨s.n - 1, by omega⟩
    rw [hm]
    show (same s 0 || hit (same s) m (0 + 1)) = hit (same s) (m + 1 - 1) 1
    have : same s 0 = false := by
      have h := part_n s 0 (Int.le_refl _) (by omega)
      have h : (Sl.part s 0 0).n = 0 := by omega
      simp only [same]
      rw [h]; rfl
    rw [this]; rfl
theorem e15 (x : Int) (s3 : Sl T160) (s4 : Sl ByteArray) (s5 : Sl T164) (h3 : s3.n ≤ 1048576) (h4 : s4.n ≤ 1048576) (h5 : s5.n ≤ 1048576) : g72_r15 x s3 s4 s5 = (!(o3 s3) && !(o5 s5) && (!(x == 5) || !(o4 s4)) && !(hit (same s5) (s5.n - 1) 1)) := by
  rw [← l23z s5 h5]
  unfold g72_r15
  rw [l23 s5 h5 s5.n _ _ 0 (Int.le_refl _) (by omega) (by omega)]
  simp only [g72_m11, a138 s3 (by omega), a140 s5 (by omega), a142 s4 (by omega), bne]
  cases o3 s3 <;> cases o5 s5 <;> cases x == 5 <;> cases o4 s4 <;> rfl
theorem sum_eq (s3 : Sl T160) (s4 : Sl ByteArray) (s5 : Sl T164) (h3 : s3.n ≤ 1048576) (h4 : s4.n ≤ 1048576) (h5 : s5.n ≤ 1048576) : g131 s3 s4 s5 = (s3.n : Int) + s4.n + s5.n := by
  unfold g131
  rw [wrap64 (x := (s3.n : Int) + s4.n) (by omega) (by omega), wrap64 (by omega) (by omega)]
theorem sum_eq' (s3 : Sl T160) (s4 : Sl ByteArray) (s5 : Sl T164) (h3 : s3.n ≤ 1048576) (h4 : s4.n ≤ 1048576) (h5 : s5.n ≤ 1048576) : g145 s3 s4 s5 = (s3.n : Int) + s4.n + s5.n := sum_eq s3 s4 s5 h3 h4 h5
theorem sum_pos (s3 : Sl T160) (s4 : Sl ByteArray) (s5 : Sl T164) (h3 : s3.n ≤ 1048576) (h4 : s4.n ≤ 1048576) (h5 : s5.n ≤ 1048576) : decide (g131 s3 s4 s5 > 0) = (decide ((s3.n : Int) > 0) || decide ((s4.n : Int) > 0) || decide ((s5.n : Int) > 0)) := by
  rw [sum_eq _ _ _ h3 h4 h5, Bool.eq_iff_iff]
  simp only [Bool.or_eq_true, decide_eq_true_eq]
  omega
theorem forms (x0 : Int) (x1 : ByteArray) (x2 : Int) (s3 : Sl T160) (s4 : Sl ByteArray) (s5 : Sl T164) (h3 : s3.n ≤ 1048576) (h4 : s4.n ≤ 1048576) (h5 : s5.n ≤ 1048576) (h : 1 ≤ x0 ∧ x0 ≤ 6) : g72_m7 x0 x1 x2 s3 s4 s5 = g74_m2 x0 x1 x2 s3 s4 s5 := by
  have hx : x0 = 1 ∨ x0 = 2 ∨ x0 = 3 ∨ x0 = 4 ∨ x0 = 5 ∨ x0 = 6 := by omega
  unfold g72_m7 g74_m2
  have hz {α : Type} [Inhabited α] : decide ((((nilSl : Sl α).n : Nat) : Int) > 0) = false := rfl
  have b3 : (g72_m4 x0 s3).n ≤ 1048576 := by
    unfold g72_m4; cases x0 == 1 <;> cases x0 == 2 <;> cases x0 == 3 <;> simp [nilSl, h3]
  have b4 : (g72_m5 x0 s4).n ≤ 1048576 := by
    unfold g72_m5; cases x0 == 1 <;> cases x0 == 2 <;> cases x0 == 3 <;> cases x0 == 6 <;> simp [nilSl, h4]
  have b5 : (g72_m6 x0 s5).n ≤ 1048576 := by
    unfold g72_m6; cases x0 == 1 <;> cases x0 == 2 <;> cases x0 == 3 <;> cases x0 == 6 <;> simp [nilSl, h5]
  rw [sum_pos _ _ _ b3 b4 b5]
  unfold g72_m2 g72_m3 g72_m4 g72_m5 g72_m6 g74_m1
  clear b3 b4 b5
  have he : (ByteArray.toList ⟨#[]⟩ == ByteArray.toList ⟨#[]⟩) = true := by simp
  rcases hx with rfl | rfl | rfl | rfl | rfl | rfl <;>
    simp only [Int.reduceBEq, beq_self_eq_true, bne, cond_true, cond_false, Bool.not_true, Bool.not_false, he, hz] <;>
    (generalize decide ((s3.n : Int) > 0) = a3; generalize decide ((s4.n : Int) > 0) = a4; generalize decide ((s5.n : Int) > 0) = a5
     generalize (x1.toList == ByteArray.toList ⟨#[]⟩) = e1; generalize (x2 == 0) = e2
     revert a3 a4 a5 e1 e2; decide)
theorem g72_eq (x0 : Int) (x1 : ByteArray) (x2 : Int) (s3 : Sl T160) (s4 : Sl ByteArray) (s5 : Sl T164) (h3 : s3.n ≤ 1048576) (h4 : s4.n ≤ 1048576) (h5 : s5.n ≤ 1048576) : g72 x0 x1 x2 s3 s4 s5 = g74 x0 x1 x2 s3 s4 s5 := by
  unfold g72 g74
  have hm : g72_m1 x0 = !(g112 x0 1 6) := by
    rw [g112_eq]; unfold g72_m1
    by_cases h1 : x0 < 1
    · have : ¬ (x0 ≥ 1) := by omega
      simp [h1, this]
    · by_cases h2 : x0 > 6
      · have : ¬ (x0 ≤ 6) := by omega
        simp [h2, this]
      · have : x0 ≥ 1 := by omega
        have : x0 ≤ 6 := by omega
        simp [*]
  rw [hm]
  cases hr : g112 x0 1 6 with
  | false => rfl
  | true =>
    simp only [Bool.not_true, cond_false]
    have hr : 1 ≤ x0 ∧ x0 ≤ 6 := by simpa [g112_eq] using hr
    rw [forms x0 x1 x2 s3 s4 s5 h3 h4 h5 hr]
    cases g74_m2 x0 x1 x2 s3 s4 s5
    · simp only [cond_false]
      have f4 := fun X => fall (u4 s4 (by omega)) X
      have f8 := fun X => fall (u8 s3 (by omega)) X
      have f10 := fun X => fall (u10 s5 (by omega)) X
      have f12 := fun X => fall (u12 s5 (by omega)) X
      have f14 := fun X => fall (u14 s3 (by omega)) X
      have f18 := fun X => u18 x0 s4 (by omega) X
      have f22 := fun X => o22 s5 h5 X
      simp only [g74_p5, g74_p9, g74_p11, g74_p13, g74_p15, f4, f8, f10, f12, f14, f18, f22]
      have hs : g112 (g145 s3 s4 s5) 1 20 = !(bif decide (g131 s3 s4 s5 < 1) then true else decide (g131 s3 s4 s5 > 20)) := by
        rw [sum_eq _ _ _ h3 h4 h5, sum_eq' _ _ _ h3 h4 h5, g112_eq]
        generalize (s3.n : Int) + s4.n + s5.n = t
        by_cases h1 : t < 1
        · have : ¬ (t ≥ 1) := by omega
          simp [h1, this]
        · by_cases h2 : t > 20
          · have : ¬ (t ≤ 20) := by omega
            simp [h2, this]
          · have : t ≥ 1 := by omega
            have : t ≤ 20 := by omega
            simp [*]
      simp only [g74_m3, g72_m8, g72_m9, g72_m10, hs, a110 s4 (by omega), a133 s3 (by omega), a135 s5 (by omega), a137 s5 (by omega), e15 x0 s3 s4 s5 h3 h4 h5, g116_eq, g117_eq]
      have ho : hit (fun i => !(Op.bytesLess (s3.at' (Int.toNat (IntKind.i64.wrap (i - 1)))).c0.toList (s3.at' (Int.toNat i)).c0.toList)) (s3.n - 1) 1 = o3 s3 := rfl
      rw [ho]
      generalize (bif decide (g131 s3 s4 s5 < 1) then true else decide (g131 s3 s4 s5 > 20)) = b1
      generalize g113 x1 = b2
      generalize g114 x2 = b3
      generalize hit _ s4.n 0 = b4
      generalize hit _ s3.n 0 = b5
      generalize hit (fun i => !(g113 _)) s5.n 0 = b6
      generalize hit _ s5.n 0 = b7
      generalize o3 s3 = b8
      generalize o4 s4 = b9
      generalize o5 s5 = b10
      generalize hit _ (s5.n - 1) 1 = b11
      generalize (x0 == 5) = b12
      cases decide (x0 ≥ 3) <;> cases b1 <;> cases b2 <;> try rfl
      all_goals (cases b4 <;> cases b5 <;> cases b6 <;> cases b3 <;> cases b7 <;> try rfl)
      all_goals (cases b8 <;> cases b9 <;> cases b10 <;> cases b11 <;> cases b12 <;> rfl)
    · rfl
end Go.Proofs.Ytchhfojblmceiaa
namespace Go.Vc
open Go Go.RowKit
end Go.Vc
namespace Go.Proofs.Ytchhfojblmceiaa
open Go Go.Vc Go.RowKit
set_option maxRecDepth 100000
set_option maxHeartbeats 4000000
end Go.Proofs.Ytchhfojblmceiaa
namespace Go.Proofs.Ytchhfojblmceiaa
open Go Go.Vc Go.RowKit
set_option maxRecDepth 100000
end Go.Proofs.Ytchhfojblmceiaa
namespace Go.Proofs.Ytchhfojblmceiaa
open Go Go.Vc Go.RowKit
set_option maxRecDepth 100000
set_option maxHeartbeats 4000000
end Go.Proofs.Ytchhfojblmceiaa
namespace Go.Proofs.Ytchhfojblmceiaa
open Go Go.Vc Go.RowKit
set_option maxRecDepth 100000
set_option maxHeartbeats 4000000
theorem hit_no {bad : Int → Bool} : ∀ (m : Nat) (i : Int), hit bad m i = false → ∀ j : Int, i ≤ j → j < i + m → bad j = false
  | 0, i, _, j, h1, h2 => by omega
  | m + 1, i, h, j, h1, h2 => by
    simp only [hit, Bool.or_eq_false_iff] at h
    by_cases e : j = i
    · rw [e]; exact h.1
    · exact hit_no m (i + 1) h.2 j (by omega) (by omega)
theorem hit_nat {bad : Int → Bool} {n : Nat} (h : hit bad n 0 = false) (i : Nat) (hi : i < n) : bad (i : Int) = false := hit_no n 0 h i (by omega) (by omega)
theorem bz {b : Bool} {c X : Int} (h : (bif b then c else X) = 0) (hc : c ≠ 0) : b = false ∧ X = 0 := by
  cases b with
  | true => exact absurd h hc
  | false => exact ⟨rfl, h⟩
theorem bt {a b : Bool} (h : (bif a then true else b) = false) : a = false ∧ b = false := by
  cases a with
  | true => simp at h
  | false => exact ⟨rfl, h⟩
theorem df {p : Prop} [Decidable p] (h : decide p = false) : ¬ p := of_decide_eq_false h
def VOK (x1 : ByteArray) (x2 : Int) (x3 : Sl T160) (x4 : Sl ByteArray) (x5 : Sl T164) : Prop :=
  (x1.size ≤ 20 ∧ -1099511627776 ≤ x2 ∧ x2 ≤ 1099511627776) ∧ (x3.n ≤ 20 ∧ x4.n ≤ 20 ∧ x5.n ≤ 20) ∧ (∀ i, i < x3.n → (x3.at' i).c0.size ≤ 20 ∧ (x3.at' i).c1.size ≤ 20) ∧ (∀ i, i < x4.n → (x4.at' i).size ≤ 20) ∧ (∀ i, i < x5.n → (x5.at' i).c0.size ≤ 20 ∧ -1099511627776 ≤ (x5.at' i).c1 ∧ (x5.at' i).c1 ≤ 1099511627776)
theorem s113 {x : ByteArray} (h : (!(g113 x)) = false) : x.size ≤ 20 := by
  unfold g113 at h
  by_cases a : (x.size : Int) ≤ 20
  · omega
  · simp [a] at h
theorem s115 {x : ByteArray} (h : (!(g115 x)) = false) : x.size ≤ 20 := by
  unfold g115 g115_m1 at h
  by_cases a : (x.size : Int) ≤ 12
  · omega
  · simp [a] at h
theorem s117 {x : Int} (h : (!(g117 x)) = false) : -1099511627776 ≤ x ∧ x ≤ 1099511627776 := by
  unfold g117 g117_m1 at h
  by_cases a : x ≥ -1099511627776
  · by_cases b : x ≤ 1099511627776
    · omega
    · simp [b] at h
  · simp [a] at h
theorem chk72 (x0 : Int) (x1 : ByteArray) (x2 : Int) (s3 : Sl T160) (s4 : Sl ByteArray) (s5 : Sl T164) (h3 : s3.n ≤ 1048576) (h4 : s4.n ≤ 1048576) (h5 : s5.n ≤ 1048576) (h : g72 x0 x1 x2 s3 s4 s5 = 0) : VOK x1 x2 s3 s4 s5 := by
  unfold g72 at h
  obtain ⟨a1, h⟩ := bz h (by decide)
  obtain ⟨a2, h⟩ := bz h (by decide)
  obtain ⟨a3, h⟩ := bz h (by decide)
  obtain ⟨a4, h⟩ := bz h (by decide)
  obtain ⟨a5, h⟩ := bz h (by decide)
  obtain ⟨a6, h⟩ := bz h (by decide)
  obtain ⟨a7, _⟩ := bz h (by decide)
  have hs : s3.n ≤ 20 ∧ s4.n ≤ 20 ∧ s5.n ≤ 20 := by
    unfold g72_m1 at a1
    obtain ⟨b1, b2⟩ := bt a1
    have c1 := df b1
    have c2 := df b2
    by_cases e1 : x0 = 1
    · subst e1
      unfold g72_m7 g72_m4 g72_m5 g72_m6 at a2
      simp only [beq_self_eq_true, cond_true] at a2
      obtain ⟨_, a2⟩ := bt a2
      obtain ⟨_, a2⟩ := bt a2
      rw [sum_eq _ _ _ h3 h4 h5] at a2
      have := df a2
      omega
    · by_cases e2 : x0 = 2
      · subst e2
        unfold g72_m7 g72_m4 g72_m5 g72_m6 at a2
        simp only [beq_self_eq_true, Int.reduceBEq, cond_true, cond_false] at a2
        obtain ⟨_, a2⟩ := bt a2
        obtain ⟨_, a2⟩ := bt a2
        rw [sum_eq _ _ _ h3 h4 h5] at a2
        have := df a2
        omega
      · unfold g72_m8 at a3
        rw [decide_eq_true (show x0 ≥ 3 by omega)] at a3
        simp only [cond_true] at a3
        obtain ⟨_, a3⟩ := bt a3
        rw [sum_eq _ _ _ h3 h4 h5] at a3
        have := df a3
        omega
  unfold g72_m9 at a4
  obtain ⟨b1, b2⟩ := bt a4
  unfold g72_m10 at a7
  obtain ⟨b3, b4⟩ := bt a7
  rw [a110 _ (by omega)] at b2
  rw [a133 _ (by omega)] at a5
  rw [a135 _ (by omega)] at a6
  rw [a137 _ (by omega)] at b4
  refine ⟨⟨s113 b1, s117 b3⟩, hs, fun i hi => ?_, fun i hi => ?_, fun i hi => ?_⟩
  · have := hit_nat a5 i hi
    simp only [Int.toNat_natCast, g134, g134_m1] at this
    obtain ⟨c1, c2⟩ := bt this
    exact ⟨s115 c1, s113 c2⟩
  · have := hit_nat b2 i hi
    simp only [Int.toNat_natCast] at this
    exact s113 this
  · have t1 := hit_nat a6 i hi
    have t2 := hit_nat b4 i hi
    simp only [Int.toNat_natCast] at t1 t2
    exact ⟨s113 t1, s117 t2⟩
end Go.Proofs.Ytchhfojblmceiaa
namespace Go.Proofs.Ytchhfojblmceiaa
open Go Go.Vc Go.RowKit
set_option maxRecDepth 100000
theorem e47 (x0 : Int) (x1 x2 x3 : ByteArray) (x4 : Int) : (g47 x0 x1 x2 x3 x4 == g48 x0 x1 x2 x3 x4) = true := by
  by_cases h : 1 ≤ x0 ∧ x0 ≤ 22
  · have hx : x0 = 1 ∨ x0 = 2 ∨ x0 = 3 ∨ x0 = 4 ∨ x0 = 5 ∨ x0 = 6 ∨ x0 = 7 ∨ x0 = 8 ∨ x0 = 9 ∨ x0 = 10 ∨ x0 = 11 ∨ x0 = 12 ∨ x0 = 13 ∨ x0 = 14 ∨ x0 = 15 ∨ x0 = 16 ∨ x0 = 17 ∨ x0 = 18 ∨ x0 = 19 ∨ x0 = 20 ∨ x0 = 21 ∨ x0 = 22 := by omega
    unfold g47 g48 g47_m9 g47_m8 g47_m7 g47_m6 g47_m5 g47_m4 g47_m3 g47_m2 g47_m1 g48_m4 g48_m3 g48_m2 g48_m1
    simp only [g118_eq, g116_eq, g117_eq, g112_eq]
    generalize g118 x1 = b1
    generalize g118 x2 = b2
    generalize g113 x3 = b3
    generalize g114 x4 = b4
    rcases hx with rfl | rfl | rfl | rfl | rfl | rfl | rfl | rfl | rfl | rfl | rfl | rfl | rfl | rfl | rfl | rfl | rfl | rfl | rfl | rfl | rfl | rfl <;>
    simp only [Int.reduceBEq, Int.reduceLE, Int.reduceLT, ge_iff_le, gt_iff_lt, decide_true, decide_false, Bool.and_true, Bool.true_and, Bool.and_false, cond_true, cond_false, Bool.not_true, Bool.not_false, beq_self_eq_true, bne] <;>
    (generalize (x1.toList == ByteArray.toList ⟨#[]⟩) = e1; generalize (x2.toList == ByteArray.toList ⟨#[]⟩) = e2; generalize (x3.toList == ByteArray.toList ⟨#[]⟩) = e3; generalize (x4 == 0) = e4
     revert e1 e2 e3 e4 b1 b2 b3 b4; decide)
  · unfold g47 g48 g47_m1
    have h1 : g112 x0 1 22 = false := by rw [g112_eq]; simp; omega
    have h2 : (bif decide (x0 < 1) then true else decide (x0 > 22)) = true := by
      by_cases h3 : x0 < 1
      · simp [h3]
      · simp [h3]; omega
    rw [h1, h2]; rfl
theorem g47_eq (x0 : Int) (x1 x2 x3 : ByteArray) (x4 : Int) : g47 x0 x1 x2 x3 x4 = g48 x0 x1 x2 x3 x4 := eq_of_beq (e47 x0 x1 x2 x3 x4)
end Go.Proofs.Ytchhfojblmceiaa
