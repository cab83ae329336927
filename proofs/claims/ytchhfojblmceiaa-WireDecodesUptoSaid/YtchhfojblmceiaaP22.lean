/-
  What is proved: a part of the laws of this seat, in plain Lean.
-/
import Derived.Test.YtchhfojblmceiaaZ4
import Derived.Test.YtchhfojblmceiaaP20
import Derived.Test.YtchhfojblmceiaaWd
namespace Go.Vc
open Go Go.RowKit
theorem copy_idc {α : Type} [Inhabited α] (F : Nat → Int → Sl α → Sl α) (s : Sl α) (f : Int → α) (hs : Canon s) (hn : s.n ≤ 549755813888) (hf : ∀ i : Nat, i < s.n → f (i : Int) = s.at' i) (hF : ∀ k i t, F (k + 1) i t = bif decide (i < (s.n : Int)) then F k (IntKind.i64.wrap (i + 1)) (Sl.app t (Sl.lit [f i])) else t) :
    F (Int.toNat ((s.n : Int) - 0) + 1) 0 nilSl = s := by
  rw [copyL F s.n f hn hF s.n _ 0 nilSl Canon.nil (Int.le_refl _) (by omega) (by omega), nil_app]
  refine Canon.eq (Canon.tab _ _ _) hs rfl fun i hi => ?_
  have hi : i < s.n := hi
  simp only [tab, blt_t hi, cond_true]
  rw [show (0 : Int) + (i : Int) = (i : Int) by omega]
  exact hf i hi
theorem bif_or {α : Type} (a b : Bool) (x y : α) : (bif a then x else bif b then x else y) = bif (a || b) then x else y := by cases a <;> rfl
end Go.Vc
namespace Go.Proofs.Ytchhfojblmceiaa
open Go Go.Vc Go.RowKit
set_option maxRecDepth 100000
set_option maxHeartbeats 4000000
theorem copy79 (s : Sl T175) (h : Canon s) (hn : s.n ≤ 549755813888) (hw : ∀ i, i < s.n → W175 (s.at' i)) : g79_1 s = s := by
  refine copy_idc (g79_l1 s) s (fun i => ⟨(s.at' (Int.toNat i)).c0, g73_0 (s.at' (Int.toNat i)).c1, g73_1 (s.at' (Int.toNat i)).c2, g73_2 (s.at' (Int.toNat i)).c3, g73_3 (s.at' (Int.toNat i)).c4, g73_4 (s.at' (Int.toNat i)).c5, g73_5 (s.at' (Int.toNat i)).c6, (s.at' (Int.toNat i)).c7⟩) h hn (fun i hi => ?_) fun _ _ _ => rfl
  obtain ⟨⟨a1, a2⟩, ⟨b1, b2⟩, c1, c2⟩ := hw i hi
  simp only [Int.toNat_natCast, g73_0, g73_1, g73_2]
  rw [copy73_3 _ a1 (by omega), copy73_4 _ b1 (by omega), copy73_5 _ c1 (by omega)]
theorem n118 (x : ByteArray) (b : Bool) : (bif !(g118 x) then true else b) = (bif decide ((x.size : Int) < 1) then true else bif decide ((x.size : Int) > 12) then true else b) := by
  have : (!(g118 x)) = (decide ((x.size : Int) < 1) || decide ((x.size : Int) > 12)) := by
    unfold g118
    rw [g112_eq]
    by_cases h1 : (x.size : Int) < 1
    · have : ¬ ((x.size : Int) ≥ 1) := by omega
      simp only [h1, this, decide_true, decide_false, Bool.false_and, Bool.not_false, Bool.true_or]
    · by_cases h2 : (x.size : Int) > 12
      · have : ¬ ((x.size : Int) ≤ 12) := by omega
        simp only [h2, this, decide_true, decide_false, Bool.and_false, Bool.not_false, Bool.or_true]
      · have h3 : (x.size : Int) ≥ 1 := by omega
        have h4 : (x.size : Int) ≤ 12 := by omega
        simp only [h1, h2, h3, h4, decide_true, decide_false, Bool.and_true, Bool.not_true, Bool.or_false]
  rw [this]
  cases decide ((x.size : Int) < 1) <;> cases decide ((x.size : Int) > 12) <;> rfl
theorem until_eq (x u : Int) (h : 0 ≤ x) : (bif (!(g112 u 0 1073741824)) then true else decide (u ≤ x)) = (bif decide (u ≤ x) then true else decide (u > 1073741824)) := by
  rw [g112_eq]
  by_cases h1 : u ≤ x
  · simp [h1]
  · have h2 : u ≥ 0 := by omega
    by_cases h3 : u > 1073741824
    · have : ¬ (u ≤ 1073741824) := by omega
      simp [h1, h3, this]
    · have : u ≤ 1073741824 := by omega
      simp [h1, h2, h3, this]
theorem e78 (x0 : Int) (s : Sl T175) (h0 : 0 ≤ x0) (hn : s.n ≤ 549755813888) (hw : ∀ i, i < s.n → W175 (s.at' i)) : g78_r10 x0 s = g80_r8 x0 s := by
  have hl : g78_r10 x0 s = scan (fun i => g78_m7 s i || g78_m9 x0 s i) (fun _ => 13) s.n 0 := scan0 (g78_l5 x0 s) s.n _ _ hn fun k i => by
    show (bif decide (i < (s.n : Int)) then (bif (g78_m7 s i) then (true, 13) else (bif (g78_m9 x0 s i) then (true, 13) else g78_l5 x0 s k (IntKind.i64.wrap (i + 1)))) else (false, default)) = _
    rw [bif_or]
  have hr : g80_r8 x0 s = scan (fun i => g80_m5 s i || g80_m7 x0 s i) (fun _ => 13) s.n 0 := scan0 (g80_l4 x0 s) s.n _ _ hn fun k i => by
    show (bif decide (i < (s.n : Int)) then (bif (g80_m5 s i) then (true, 13) else (bif (g80_m7 x0 s i) then (true, 13) else g80_l4 x0 s k (IntKind.i64.wrap (i + 1)))) else (false, default)) = _
    rw [bif_or]
  rw [hl, hr]
  refine scan_congr _ _ (fun j j0 j1 => ?_) fun _ _ _ => rfl
  obtain ⟨⟨_, a2⟩, ⟨_, b2⟩, _, c2⟩ := hw (Int.toNat j) (by omega)
  have e5 : g80_m5 s j = g78_m7 s j := by
    simp only [g80_m5, g78_m7]
    rw [g72_eq _ _ _ _ _ _ a2 b2 c2]
    exact n118 _ _
  have e7 : g80_m7 x0 s j = g78_m9 x0 s j := by
    simp only [g80_m7, g78_m9]
    rw [until_eq _ _ h0]
  rw [e5, e7]
theorem g78_eq (x0 : Int) (s : Sl T175) (hn : s.n ≤ 549755813888) (hw : ∀ i, i < s.n → W175 (s.at' i)) : g78 x0 s = g80 x0 s := by
  unfold g78 g80
  have hm : g78_m1 x0 s = g80_m1 x0 s := by
    unfold g78_m1 g80_m1
    rw [g112_eq]
    by_cases h1 : x0 < 0
    · have : ¬ (x0 ≥ 0) := by omega
      simp [h1, this]
    · have h3 : x0 ≥ 0 := by omega
      by_cases h2 : x0 > 1073741824
      · have : ¬ (x0 ≤ 1073741824) := by omega
        simp [h2, this]
      · have : x0 ≤ 1073741824 := by omega
        simp [h1, h2, h3, this]
  rw [hm]
  cases h : g80_m1 x0 s with
  | true => rfl
  | false =>
    have h0 : 0 ≤ x0 := by
      unfold g80_m1 at h
      rw [g112_eq] at h
      by_cases h3 : x0 ≥ 0
      · exact h3
      · simp [h3] at h
    simp only [g78_p11, g80_p9, e78 x0 s h0 hn hw]
theorem law22 (x0 : Int) (s : Sl T175) (_ : -9223372036854775808 ≤ x0 ∧ x0 ≤ 9223372036854775807) (c : Canon s) (hn : s.n ≤ 1048576) (hw : ∀ i, i < s.n → W175 (s.at' i)) : g22 x0 s = true := by
  unfold g22
  rw [copy79 s c (by omega) hw]
  simp only [g79_0]
  rw [g78_eq x0 s (by omega) hw]
  simp
end Go.Proofs.Ytchhfojblmceiaa
