/-
  What is proved: a part of the laws of this seat, in plain Lean.
-/
import Derived.Test.YtchhfojblmceiaaP17
namespace Go.Vc
open Go Go.RowKit
/-- Lists of places, one behind the other. -/
def cat {β : Type} (f : Nat → List β) : Nat → Nat → List β
  | 0, _ => []
  | m + 1, i => f i ++ cat f m (i + 1)
theorem cat_congr {β : Type} {f g : Nat → List β} : ∀ m i, (∀ j, i ≤ j → j < i + m → f j = g j) → cat f m i = cat g m i
  | 0, _, _ => rfl
  | m + 1, i, h => by
    simp only [cat]
    rw [h i (Nat.le_refl _) (by omega), cat_congr m (i + 1) fun j h1 h2 => h j (by omega) (by omega)]
theorem cat_len {β : Type} {f : Nat → List β} {D : Nat} : ∀ m i, (∀ j, i ≤ j → j < i + m → (f j).length ≤ D) → (cat f m i).length ≤ m * D
  | 0, _, _ => by simp [cat]
  | m + 1, i, h => by
    simp only [cat, List.length_append]
    have h1 := h i (Nat.le_refl _) (by omega)
    have h2 := cat_len m (i + 1) fun j h1 h2 => h j (by omega) (by omega)
    rw [Nat.succ_mul]; omega
/-- A loop that lays lists behind what stands there. -/
theorem loopB {α : Type} (F : Nat → Int → Sl α → Sl α) (n D L : Nat) (step : Int → Sl α → Sl α) (f : Nat → List α) (hn : n ≤ 549755813888)
    (hF : ∀ k i s, F (k + 1) i s = bif decide (i < (n : Int)) then F k (IntKind.i64.wrap (i + 1)) (step i s) else s)
    (hs : ∀ (i : Nat) (s : Sl α), i < n → s.n ≤ L + i * D → (step (i : Int) s).B = s.B ++ f i ∧ (f i).length ≤ D) :
    ∀ (m i : Nat) (s : Sl α), i + m = n → s.n ≤ L + i * D → (F (m + 1) (i : Int) s).B = s.B ++ cat f m i
  | 0, i, s, hm, hl => by
    rw [hF, decide_eq_false (show ¬ ((i : Int) < (n : Int)) by omega)]
    simp only [cond_false, cat, List.append_nil]
  | m + 1, i, s, hm, hl => by
    obtain ⟨h1, h2⟩ := hs i s (by omega) hl
    rw [hF, decide_eq_true (show (i : Int) < (n : Int) by omega)]
    simp only [cond_true]
    have hl' : (step (i : Int) s).n ≤ L + (i + 1) * D := by
      rw [← B_len, h1, List.length_append, B_len, Nat.succ_mul]; omega
    rw [wrap64 (by omega) (by omega), show (i : Int) + 1 = ((i + 1 : Nat) : Int) by omega, loopB F n D L step f hn hF hs m (i + 1) _ (by omega) hl', h1, List.append_assoc]
    rfl
/-- The whole loop, from the start. -/
theorem loopB0 {α : Type} (F : Nat → Int → Sl α → Sl α) (n D L : Nat) (step : Int → Sl α → Sl α) (f : Nat → List α) (hn : n ≤ 549755813888)
    (hF : ∀ k i s, F (k + 1) i s = bif decide (i < (n : Int)) then F k (IntKind.i64.wrap (i + 1)) (step i s) else s)
    (hs : ∀ (i : Nat) (s : Sl α), i < n → s.n ≤ L + i * D → (step (i : Int) s).B = s.B ++ f i ∧ (f i).length ≤ D) (s : Sl α) (hl : s.n ≤ L) :
    (F (Int.toNat ((n : Int) - 0) + 1) 0 s).B = s.B ++ cat f n 0 := by
  have := loopB F n D L step f hn hF hs n 0 s (by omega) (by omega)
  rw [show Int.toNat ((n : Int) - 0) = n by omega]
  exact this
end Go.Vc
namespace Go.Proofs.Ytchhfojblmceiaa
open Go Go.Vc Go.RowKit
/-- The bytes of a number, a text, a small number. -/
noncomputable def nb (x : Int) : List Int := (g194 x).B
noncomputable def tb (x : ByteArray) : List Int := (g195 x).B
def sb (x : Int) : List Int := [IntKind.u8.wrap x]
theorem nb_len (x : Int) : (nb x).length = 8 := by unfold nb; rw [B_len, len194]
theorem tb_len (x : ByteArray) (h : x.size ≤ 10000000000) : (tb x).length = x.size + 1 := by unfold tb; rw [B_len, len195 x h]
theorem sb_len (x : Int) : (sb x).length = 1 := rfl
theorem w_nb {x : Int} (w : Sl Int) (h0 : -4611686018427387904 ≤ x) (h1 : x < 4611686018427387904) : (g154 x w).B = w.B ++ nb x := B194_eq x w (by omega) (by omega)
theorem w_tb {x : ByteArray} (w : Sl Int) (h : x.size ≤ 10000000000) : (g156 x w).B = w.B ++ tb x := B195 x h w
theorem w_sb (x : Int) (w : Sl Int) : (g155 x w).B = w.B ++ sb x := by unfold g155; rw [B_app, B_lit]; rfl
theorem r_nb (x : Int) (w : Sl Int) (h : w.n ≤ 500000000000) : (g109 w (g194 x)).B = w.B ++ nb x := B109 _ _ (by rw [len194]; omega)
theorem r_tb {x : ByteArray} (w : Sl Int) (h : x.size ≤ 10000000000) (h2 : w.n ≤ 500000000000) : (g109 w (g195 x)).B = w.B ++ tb x := B109 _ _ (by rw [len195 x h]; omega)
theorem r_sb (x : Int) (w : Sl Int) : (Sl.app w (Sl.lit [IntKind.u8.wrap x])).B = w.B ++ sb x := by rw [B_app, B_lit]; rfl
theorem r_app (w v : Sl Int) (h : w.n + v.n ≤ 549755813888) : (g109 w v).B = w.B ++ v.B := B109 _ _ h
end Go.Proofs.Ytchhfojblmceiaa
