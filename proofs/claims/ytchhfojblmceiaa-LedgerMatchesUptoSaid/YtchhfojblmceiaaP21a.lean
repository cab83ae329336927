/-
  What is proved: a part of the laws of this seat, in plain Lean.
-/
import Derived.Test.YtchhfojblmceiaaM1
import Derived.Test.YtchhfojblmceiaaVcH
namespace Go.Proofs.Ytchhfojblmceiaa
open Go Go.Vc Go.RowKit
set_option maxRecDepth 100000
theorem hit1 {bad : Int → Bool} : ∀ (m : Nat) (i : Int), hit bad m i = false → ∀ j : Int, i ≤ j → j < i + m → bad j = false
  | 0, i, _, j, h1, h2 => by omega
  | m + 1, i, h, j, h1, h2 => by
    simp only [hit, Bool.or_eq_false_iff] at h
    by_cases e : j = i
    · rw [e]; exact h.1
    · exact hit1 m (i + 1) h.2 j (by omega) (by omega)
theorem bz1 {b : Bool} {c X : Int} (h : (bif b then c else X) = 0) (hc : c ≠ 0) : b = false ∧ X = 0 := by
  cases b with
  | true => exact absurd h hc
  | false => exact ⟨rfl, h⟩
/-- The terms of a log's items that may be. -/
theorem c55 {x0 x1 : Int} {x2 : Sl T68} (h : g55 x0 x1 x2 = 0) (hn : x2.n ≤ 549755813888) : ∀ i : Nat, i < x2.n → 1 ≤ (x2.at' i).c0 := by
  intro i hi
  unfold g55 at h
  obtain ⟨_, h⟩ := bz1 h (by decide)
  have hl : g55_r6 x1 x2 = scan (fun i => g55_m3 x1 x2 i || g55_m5 x2 i) (fun _ => 13) x2.n 0 := scan0 (g55_l7 x1 x2) x2.n _ _ hn fun k i => by
    show (bif decide (i < (x2.n : Int)) then (bif (g55_m3 x1 x2 i) then (true, 13) else (bif (g55_m5 x2 i) then (true, 13) else g55_l7 x1 x2 k (IntKind.i64.wrap (i + 1)))) else (false, default)) = _
    cases g55_m3 x1 x2 i <;> rfl
  have hh : hit (fun i => g55_m3 x1 x2 i || g55_m5 x2 i) x2.n 0 = false := by
    unfold g55_p7 at h
    rw [hl, scan_const] at h
    cases e : hit (fun i => g55_m3 x1 x2 i || g55_m5 x2 i) x2.n 0 with
    | false => rfl
    | true => rw [e] at h; simp at h
  have q := hit1 _ _ hh (i : Int) (by omega) (by omega)
  simp only [Bool.or_eq_false_iff] at q
  have q := q.1
  unfold g55_m3 at q
  simp only [Int.toNat_natCast] at q
  have z : g52 (x2.at' i).c0 (x2.at' i).c1 (x2.at' i).c2 (x2.at' i).c3 (x2.at' i).c4 (x2.at' i).c5 (x2.at' i).c6 (x2.at' i).c7 (x2.at' i).c8 (x2.at' i).c9 = 0 := by
    cases e : (g52 (x2.at' i).c0 (x2.at' i).c1 (x2.at' i).c2 (x2.at' i).c3 (x2.at' i).c4 (x2.at' i).c5 (x2.at' i).c6 (x2.at' i).c7 (x2.at' i).c8 (x2.at' i).c9 != 0) with
    | true => rw [e] at q; cases q
    | false => exact bne_eq_false_iff_eq.1 e
  unfold g52 at z
  obtain ⟨m, _⟩ := bz1 z (by decide)
  unfold g52_m1 g120 g112 g112_m1 at m
  by_cases a : (x2.at' i).c0 ≥ 1
  · exact a
  · rw [decide_eq_false a] at m
    simp at m
end Go.Proofs.Ytchhfojblmceiaa
