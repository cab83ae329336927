/-
  What is proved: a part of the laws of this seat, in plain Lean.
-/
import Derived.Test.YtchhfojblmceiaaGreatH12
namespace Go.Vc
open Go Go.RowKit
/-- A scan's loop: so many readings, none of them long. -/
theorem scanAt {α : Type} (F : Nat → Int → Int → Sl α → Int × Sl α) (N : Int) (ov : Int → Bool) (g : Int → Int) (h : Int → Sl α → Sl α) (lo hi D : Int) (hN : N ≤ 255) (hD : 0 ≤ D)
    (hF : ∀ k i a s, F (k + 1) i a s = bif (bif decide (i < N) then !(ov a) else false) then F k (IntKind.i64.wrap (i + 1)) (g a) (h a s) else (a, s))
    (hg : ∀ a, lo ≤ a → a ≤ hi → a ≤ g a ∧ g a ≤ a + D) :
    ∀ (m : Nat) (i a : Int) (s : Sl α), 0 ≤ i → Int.toNat (N - i) ≤ m → lo ≤ a → a + (m : Int) * D ≤ hi → a ≤ (F (m + 1) i a s).1 ∧ (F (m + 1) i a s).1 ≤ a + (m : Int) * D
  | 0, i, a, s, h0, hm, h1, h2 => by
    rw [hF, decide_eq_false (show ¬ i < N by omega)]
    simp
  | m + 1, i, a, s, h0, hm, h1, h2 => by
    have e : ((m + 1 : Nat) : Int) * D = (m : Int) * D + D := by rw [Int.natCast_succ, Int.add_mul]; omega
    have p : 0 ≤ (m : Int) * D := Int.mul_nonneg (by omega) hD
    rw [hF]
    cases c : (bif decide (i < N) then !(ov a) else false) with
    | false =>
      simp only [cond_false]; omega
    | true =>
      have hi' : i < N := by
        by_cases q : i < N
        · exact q
        · simp [q] at c
      obtain ⟨g1, g2⟩ := hg a h1 (by omega)
      simp only [cond_true]
      rw [wrap64 (by omega) (by omega)]
      obtain ⟨k1, k2⟩ := scanAt F N ov g h lo hi D hN hD hF hg m (i + 1) (g a) (h a s) (by omega) (by omega) (by omega) (by omega)
      omega
end Go.Vc
namespace Go.Proofs.YtchhfojblmceiaaGreat
open Go Go.Vc Go.RowKit
set_option maxRecDepth 100000
theorem q173a (x0 : Sl Int) (x1 : Int) (hU : U8 x0) (h : 0 ≤ x1 ∧ x1 ≤ 100000000000) : x1 ≤ (g173_r3 x0 x1).1 ∧ (g173_r3 x0 x1).1 ≤ x1 + 266 + 255 * 512 := by
  have a1 := q170 x1 (by omega)
  have a2 := q172 x0 (g170_h0_1 x1) hU (by omega)
  have a3 := q169 x0 (g172_h0_1 x0 (g170_h0_1 x1)) (by omega)
  have a4 := q170 (g169_h0_1 x0 (g172_h0_1 x0 (g170_h0_1 x1))) (by omega)
  have r := r170 x0 (g169_h0_1 x0 (g172_h0_1 x0 (g170_h0_1 x1))) hU
  have := scanAt (g173_l1 x0 x1) (g170 x0 (g169_h0_1 x0 (g172_h0_1 x0 (g170_h0_1 x1)))) (g171 x0) (fun a => g172_h0_1 x0 (g172_h0_1 x0 a)) (fun a s => Sl.app s (Sl.lit [(⟨(g172 x0 a), (g172 x0 (g172_h0_1 x0 a))⟩ : T160)])) 0 1000000000000 512 (by omega) (by omega) (fun _ _ _ _ => rfl) (fun a h0 h1 => by
    have b1 := q172 x0 a hU (by omega)
    have b2 := q172 x0 (g172_h0_1 x0 a) hU (by omega)
    omega) (Int.toNat ((g170 x0 (g169_h0_1 x0 (g172_h0_1 x0 (g170_h0_1 x1)))) - 0)) 0 (g170_h0_1 (g169_h0_1 x0 (g172_h0_1 x0 (g170_h0_1 x1)))) nilSl (by omega) (by omega) (by omega) (by omega)
  unfold g173_r3
  omega
theorem q173 (x0 : Sl Int) (x1 : Int) (hU : U8 x0) : 0 ≤ x1 ∧ x1 ≤ 100000000000 → x1 ≤ g173_h0_1 x0 x1 ∧ g173_h0_1 x0 x1 ≤ x1 + 1000000 := fun h => by
  have a0 := q173a x0 x1 hU h
  have a1 := q174 x0 (g173_r3 x0 x1).1 hU (by omega)
  have a4 := q170 (g174_h0_1 x0 (g173_r3 x0 x1).1) (by omega)
  have r := r170 x0 (g174_h0_1 x0 (g173_r3 x0 x1).1) hU
  have := scanAt (g173_l13 x0 x1) (g170 x0 (g174_h0_1 x0 (g173_r3 x0 x1).1)) (g171 x0) (fun a => g169_h0_1 x0 (g172_h0_1 x0 a)) (fun a s => Sl.app s (Sl.lit [(⟨(g172 x0 a), (g169 x0 (g172_h0_1 x0 a))⟩ : T164)])) 0 1000000000000 264 (by omega) (by omega) (fun _ _ _ _ => rfl) (fun a h0 h1 => by
    have b1 := q172 x0 a hU (by omega)
    have b2 := q169 x0 (g172_h0_1 x0 a) (by omega)
    omega) (Int.toNat ((g170 x0 (g174_h0_1 x0 (g173_r3 x0 x1).1)) - 0)) 0 (g170_h0_1 (g174_h0_1 x0 (g173_r3 x0 x1).1)) nilSl (by omega) (by omega) (by omega) (by omega)
  unfold g173_h0_1 g173_r6
  omega
end Go.Proofs.YtchhfojblmceiaaGreat
