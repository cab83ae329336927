/-
  What is proved: a part of the laws of this seat, in plain Lean.
-/
import Derived.Test.YtchhfojblmceiaaJ1
import Derived.Test.YtchhfojblmceiaaCk
import Derived.Test.YtchhfojblmceiaaJ2
namespace Go.Proofs.Ytchhfojblmceiaa
open Go Go.Vc Go.RowKit
set_option maxRecDepth 100000
theorem B180 (s : Sl (Sl Int)) (h : CK s) : (g180 s).B = cat (fun i => (s.at' i).B) s.n 0 := by
  have h1 : (g180_r2 s).B = (nilSl : Sl Int).B ++ cat (fun i => (s.at' i).B) s.n 0 :=
    loopB0 (g180_l8 s) s.n 1000000 0 (fun i t => Sl.app t (s.at' (Int.toNat i))) (fun i => (s.at' i).B) (by have := h.1; omega) (fun _ _ _ => rfl) (fun i t hi _ => by
      have := h.2 i hi
      simp only [Int.toNat_natCast]
      exact ⟨B_app _ _, by rw [B_len]; omega⟩) _ (Nat.le_refl _)
  show (g180_r2 s).B = _
  rw [h1, B_nil, List.nil_append]
theorem B180_3 {a b c : Sl Int} (ha : a.n ≤ 1000000) (hb : b.n ≤ 1000000) (hc : c.n ≤ 1000000) : (g180 (Sl.lit [a, b, c])).B = a.B ++ (b.B ++ c.B) := by
  rw [B180 _ (ck3 ha hb hc)]
  show a.B ++ (b.B ++ (c.B ++ [])) = _
  rw [List.append_nil]
theorem B180_4 {a b c d : Sl Int} (ha : a.n ≤ 1000000) (hb : b.n ≤ 1000000) (hc : c.n ≤ 1000000) (hd : d.n ≤ 1000000) : (g180 (Sl.lit [a, b, c, d])).B = a.B ++ (b.B ++ (c.B ++ d.B)) := by
  rw [B180 _ (ck4 ha hb hc hd)]
  show a.B ++ (b.B ++ (c.B ++ (d.B ++ []))) = _
  rw [List.append_nil]
end Go.Proofs.Ytchhfojblmceiaa
namespace Go.Proofs.Ytchhfojblmceiaa
open Go Go.Vc Go.RowKit
set_option maxRecDepth 100000
theorem len179 (x0 x1 x2 x3 x4 x5 : Int) (x6 : Bool) (x7 x8 x9 : Int) (x10 x11 x12 : ByteArray) (x13 x14 x15 x16 : Int) (x17 : Sl T175) (x18 : Int) (x19 : Sl T137) (h : CE x17 ∧ CC x19) :
    x10.size ≤ 10000000000 ∧ x11.size ≤ 10000000000 ∧ x12.size ≤ 10000000000 → (g179 x0 x1 x2 x3 x4 x5 x6 x7 x8 x9 x10 x11 x12 x13 x14 x15 x16 x17 x18 x19).n ≤ 50000000000 := fun hs => by
  unfold g179
  cases (x0 == 1)
  · simp only [cond_false]
    cases (x0 == 2)
    · simp only [cond_false]
      have l := len90 x16 x17 x18 x19 h
      rw [← B_len, B180_4 (by show 1 ≤ _; omega) (by rw [len181]; omega) (by rw [len181]; omega) (by omega)]
      simp only [List.length_append, B_len, len181, Sl.lit_n, List.length_cons, List.length_nil]
      omega
    · have l := len64 x4 x5 x6 x7 x8 x9 x10 x11 x12 x13 hs
      simp only [cond_true, Sl.app_n, Sl.lit_n, len181, List.length_cons, List.length_nil]
      omega
  · simp only [cond_true, Sl.app_n, Sl.lit_n, len181, List.length_cons, List.length_nil]
    omega
theorem n109 (a b : Sl Int) (h : a.n + b.n ≤ 549755813888) : (g109 a b).n = a.n + b.n := len109 a b h
theorem len182 (x0 x1 x2 x3 x4 x5 : Int) (x6 : Bool) (x7 x8 x9 : Int) (x10 x11 x12 : ByteArray) (x13 x14 x15 x16 : Int) (x17 : Sl T175) (x18 : Int) (x19 : Sl T137) (h : RMOK x0 x16 x17 x18 x19) :
    x10.size ≤ 10000000000 ∧ x11.size ≤ 10000000000 ∧ x12.size ≤ 10000000000 → (g182 x0 x1 x2 x3 x4 x5 x6 x7 x8 x9 x10 x11 x12 x13 x14 x15 x16 x17 x18 x19).n ≤ 50000000000 := fun hs => by
  have k1 : ∀ (z y : Int), (g109 (Sl.lit [z]) (g183 y)).n = 4 := fun z y => by
    rw [n109 _ _ (by rw [len183]; show 1 + 3 ≤ _; omega), len183]; rfl
  unfold g182
  by_cases e1 : x0 = 1
  · rw [e1]
    simp only [beq_self_eq_true, cond_true, Sl.app_n, k1, Sl.lit_n, List.length_cons, List.length_nil]
    omega
  · rw [beq_eq_false_iff_ne.2 e1]
    simp only [cond_false]
    by_cases e2 : x0 = 2
    · rw [e2]
      simp only [beq_self_eq_true, cond_true]
      have l := len129 x4 x5 x6 x7 x8 x9 x10 x11 x12 x13 hs
      rw [n109 _ _ (by rw [k1]; omega), k1]
      omega
    · rw [beq_eq_false_iff_ne.2 e2]
      simp only [cond_false]
      have l := len159 x16 x17 x18 x19 (h e1 e2)
      have k2 : (g109 (g109 (Sl.lit [3]) (g183 x14)) (g183 x15)).n = 7 := by rw [n109 _ _ (by rw [k1, len183]; omega), k1, len183]
      rw [n109 _ _ (by rw [k2]; omega), k2]
      omega
end Go.Proofs.Ytchhfojblmceiaa
