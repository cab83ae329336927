/-
  What is proved: a part of the laws of this seat, in plain Lean.
-/
import Derived.Test.YtchhfojblmceiaaPA
import Derived.Test.YtchhfojblmceiaaKA
namespace Go.Proofs.Ytchhfojblmceiaa
open Go Go.Vc Go.RowKit
set_option maxRecDepth 100000
set_option maxHeartbeats 4000000
structure VSep (x0 : Int) (x1 : ByteArray) (x2 : Int) (s3 : Sl T160) (s4 : Sl ByteArray) (s5 : Sl T164) : Prop where
  k : 1 ≤ x0 ∧ x0 ≤ 6
  t : x0 ≠ 1 → x1 = ⟨#[]⟩
  i : x0 ≠ 2 → x2 = 0
  a3 : x0 ≠ 3 → s3.n = 0
  a4 : x0 ≠ 4 → x0 ≠ 5 → s4.n = 0
  a5 : x0 ≠ 6 → s5.n = 0
  b3 : x0 = 3 → 1 ≤ s3.n ∧ s3.n ≤ 20
  b4 : x0 = 4 ∨ x0 = 5 → 1 ≤ s4.n ∧ s4.n ≤ 20
  b5 : x0 = 6 → 1 ≤ s5.n ∧ s5.n ≤ 20
theorem ba_nil {x : ByteArray} (h : (!(x.toList == (⟨#[]⟩ : ByteArray).toList)) = false) : x = ⟨#[]⟩ := by
  have h : x.toList = (⟨#[]⟩ : ByteArray).toList := by simpa using h
  have h2 : x.data.toList = [] := by
    have e : ∀ y : ByteArray, y.toList = y.data.toList := fun y => ByteArray.toList_eq y
    rw [e, e] at h; exact h
  cases x with
  | mk d => cases d with
    | mk l => simp at h2; subst h2; rfl
theorem sep72 (x0 : Int) (x1 : ByteArray) (x2 : Int) (s3 : Sl T160) (s4 : Sl ByteArray) (s5 : Sl T164) (h3 : s3.n ≤ 1048576) (h4 : s4.n ≤ 1048576) (h5 : s5.n ≤ 1048576) (h : g72 x0 x1 x2 s3 s4 s5 = 0) : VSep x0 x1 x2 s3 s4 s5 := by
  unfold g72 at h
  obtain ⟨a1, h⟩ := bz h (by decide)
  obtain ⟨a2, h⟩ := bz h (by decide)
  obtain ⟨a3, _⟩ := bz h (by decide)
  unfold g72_m1 at a1
  obtain ⟨b1, b2⟩ := bt a1
  have c1 := df b1
  have c2 := df b2
  unfold g72_m7 g72_m2 g72_m3 g72_m4 g72_m5 g72_m6 at a2
  obtain ⟨d1, a2⟩ := bt a2
  obtain ⟨d2, a2⟩ := bt a2
  unfold g72_m8 at a3
  have k : x0 = 1 ∨ x0 = 2 ∨ x0 = 3 ∨ x0 = 4 ∨ x0 = 5 ∨ x0 = 6 := by omega
  have z3 : (nilSl : Sl T160).n = 0 := rfl
  have z4 : (nilSl : Sl ByteArray).n = 0 := rfl
  have z5 : (nilSl : Sl T164).n = 0 := rfl
  have a2 := df a2
  have c3 : 3 ≤ x0 → ¬ (g131 s3 s4 s5 < 1) ∧ ¬ (g131 s3 s4 s5 > 20) := fun hx => by
    rw [decide_eq_true (show x0 ≥ 3 by omega)] at a3
    obtain ⟨e1, e2⟩ := bt a3
    exact ⟨df e1, df e2⟩
  rw [sum_eq _ _ _ h3 h4 h5] at c3
  have t1 : x0 ≠ 1 → x1 = ⟨#[]⟩ := fun hx => by
    rw [show (x0 == 1) = false from beq_eq_false_iff_ne.2 hx] at d1
    exact ba_nil d1
  have t2 : x0 ≠ 2 → x2 = 0 := fun hx => by
    rw [show (x0 == 2) = false from beq_eq_false_iff_ne.2 hx] at d2
    have d2 := bne_eq_false_iff_eq.1 d2
    revert d2
    cases (x0 == 1) <;> exact id
  rcases k with e | e | e | e | e | e <;> subst e <;>
  simp only [beq_self_eq_true, Int.reduceBEq, cond_true, cond_false] at a2 <;>
  rw [sum_eq _ _ _ (by omega) (by omega) (by omega)] at a2 <;>
  exact ⟨by omega, t1, t2, by omega, by omega, by omega, by omega, by omega, by omega⟩
