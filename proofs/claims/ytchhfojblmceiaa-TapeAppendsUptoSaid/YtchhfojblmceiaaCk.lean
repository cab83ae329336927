/-
  What is proved: a part of the laws of this seat, in plain Lean.
-/
import Derived.Test.YtchhfojblmceiaaP26
import Derived.Test.YtchhfojblmceiaaPB
import Derived.Test.YtchhfojblmceiaaGr
namespace Go.Proofs.Ytchhfojblmceiaa
open Go Go.Vc Go.RowKit
set_option maxRecDepth 100000
/-- Few slices of bytes, none of them long. -/
def CK (s : Sl (Sl Int)) : Prop := s.n ≤ 10 ∧ ∀ i, i < s.n → (s.at' i).n ≤ 1000000
theorem ck3 {a b c : Sl Int} (ha : a.n ≤ 1000000) (hb : b.n ≤ 1000000) (hc : c.n ≤ 1000000) : CK (Sl.lit [a, b, c]) := by
  refine ⟨by show 3 ≤ 10; omega, fun i hi => ?_⟩
  have hi : i < 3 := hi
  have : i = 0 ∨ i = 1 ∨ i = 2 := by omega
  rcases this with rfl | rfl | rfl
  · exact ha
  · exact hb
  · exact hc
theorem ck4 {a b c d : Sl Int} (ha : a.n ≤ 1000000) (hb : b.n ≤ 1000000) (hc : c.n ≤ 1000000) (hd : d.n ≤ 1000000) : CK (Sl.lit [a, b, c, d]) := by
  refine ⟨by show 4 ≤ 10; omega, fun i hi => ?_⟩
  have hi : i < 4 := hi
  have : i = 0 ∨ i = 1 ∨ i = 2 ∨ i = 3 := by omega
  rcases this with rfl | rfl | rfl | rfl
  · exact ha
  · exact hb
  · exact hc
  · exact hd
/-- A record's machine may be, where it bears one. -/
def RMOK (x0 x16 : Int) (x17 : Sl T175) (x18 : Int) (x19 : Sl T137) : Prop := x0 ≠ 1 → x0 ≠ 2 → MOK x16 x17 x18 x19
theorem rmok {x0 x16 : Int} {x17 : Sl T175} {x18 : Int} {x19 : Sl T137} (h : RMOK x0 x16 x17 x18 x19) (h1 : x0 ≠ 1) (h2 : x0 ≠ 2) : MOK x16 x17 x18 x19 := h h1 h2
theorem t153 {x : Int} (h : (!(g153 x)) = false) : 1 ≤ x ∧ x ≤ 1048576 := by
  unfold g153 g153_m1 at h
  by_cases a : x ≥ 1
  · by_cases b : x ≤ 1048576
    · omega
    · simp [b] at h
  · simp [a] at h
theorem rec_ok {x0 x1 x2 x3 x4 x5 : Int} {x6 : Bool} {x7 x8 x9 : Int} {x10 x11 x12 : ByteArray} {x13 x14 x15 x16 : Int} {x17 : Sl T175} {x18 : Int} {x19 : Sl T137} (h : g94 x0 x1 x2 x3 x4 x5 x6 x7 x8 x9 x10 x11 x12 x13 x14 x15 x16 x17 x18 x19 = 0) :
    (x0 = 1 ∧ (1 ≤ x1 ∧ x1 ≤ 1048576) ∧ -1 ≤ x2 ∧ x2 < 3) ∨ (x0 = 2 ∧ (1 ≤ x3 ∧ x3 ≤ 1048576) ∧ g51 x4 x5 x6 x7 x8 x9 x10 x11 x12 x13 = 0) ∨ (x0 = 3 ∧ (1 ≤ x14 ∧ x14 ≤ 1048576) ∧ (1 ≤ x15 ∧ x15 ≤ 1048576) ∧ g84 x16 x17 x18 x19 = 0) := by
  unfold g94 at h
  obtain ⟨a1, h⟩ := bz h (by decide)
  obtain ⟨_, h⟩ := bz h (by decide)
  unfold g94_m1 at a1
  obtain ⟨b1, b2⟩ := bt a1
  have c1 := df b1; have c2 := df b2
  by_cases e1 : x0 = 1
  · left
    rw [e1] at h
    simp only [beq_self_eq_true, cond_true] at h
    obtain ⟨m, _⟩ := bz h (by decide)
    unfold g94_m3 at m
    obtain ⟨m1, m⟩ := bt m
    obtain ⟨m2, m3⟩ := bt m
    have d2 := df m2; have d3 := df m3
    exact ⟨e1, t153 m1, by omega, by omega⟩
  · rw [beq_eq_false_iff_ne.2 e1] at h
    simp only [cond_false] at h
    by_cases e2 : x0 = 2
    · right; left
      rw [e2] at h
      simp only [beq_self_eq_true, cond_true] at h
      obtain ⟨m1, h⟩ := bz h (by decide)
      exact ⟨e2, t153 m1, h⟩
    · right; right
      rw [beq_eq_false_iff_ne.2 e2] at h
      simp only [cond_false] at h
      unfold g87 at h
      obtain ⟨m1, h⟩ := bz h (by decide)
      unfold g87_m1 at m1
      obtain ⟨m2, m3⟩ := bt m1
      exact ⟨by omega, t153 m2, t153 m3, h⟩
theorem chk94 {x0 x1 x2 x3 x4 x5 : Int} {x6 : Bool} {x7 x8 x9 : Int} {x10 x11 x12 : ByteArray} {x13 x14 x15 x16 : Int} {x17 : Sl T175} {x18 : Int} {x19 : Sl T137} (hE : CE x17) (hC : CC x19) (h : g94 x0 x1 x2 x3 x4 x5 x6 x7 x8 x9 x10 x11 x12 x13 x14 x15 x16 x17 x18 x19 = 0) : RMOK x0 x16 x17 x18 x19 := fun h1 h2 => by
  rcases rec_ok h with ⟨e, _⟩ | ⟨e, _⟩ | ⟨_, _, _, e⟩
  · exact absurd e h1
  · exact absurd e h2
  · exact chk84 _ _ _ _ hE hC e
theorem eq94 {x0 x1 x2 x3 x4 x5 : Int} {x6 : Bool} {x7 x8 x9 : Int} {x10 x11 x12 : ByteArray} {x13 x14 x15 x16 : Int} {x17 : Sl T175} {x18 : Int} {x19 : Sl T137} (hE : CE x17) (hC : CC x19) : g94 x0 x1 x2 x3 x4 x5 x6 x7 x8 x9 x10 x11 x12 x13 x14 x15 x16 x17 x18 x19 = g96 x0 x1 x2 x3 x4 x5 x6 x7 x8 x9 x10 x11 x12 x13 x14 x15 x16 x17 x18 x19 :=
  g94_eq _ _ _ _ _ _ _ _ _ _ _ _ _ _ _ _ _ _ _ _ (by have := hE.2.1; omega) hE.2.2 (by have := hC.2.1; omega) hC.2.2
theorem chk96 {x0 x1 x2 x3 x4 x5 : Int} {x6 : Bool} {x7 x8 x9 : Int} {x10 x11 x12 : ByteArray} {x13 x14 x15 x16 : Int} {x17 : Sl T175} {x18 : Int} {x19 : Sl T137} (hE : CE x17) (hC : CC x19) (h : g96 x0 x1 x2 x3 x4 x5 x6 x7 x8 x9 x10 x11 x12 x13 x14 x15 x16 x17 x18 x19 = 0) : RMOK x0 x16 x17 x18 x19 :=
  chk94 hE hC ((eq94 hE hC).trans h)
theorem ce95 {s : Sl T175} (h : CE s) : CE (g95_17 s) := by
  show CE (g85_1 s)
  exact ce85 h
theorem cc95 {s : Sl T137} (h : CC s) : CC (g95_19 s) := by
  show CC (g85_3 s)
  exact cc85' h
theorem len64 (x0 x1 : Int) (x2 : Bool) (x3 x4 x5 : Int) (x6 x7 x8 : ByteArray) (x9 : Int) : x6.size ≤ 10000000000 ∧ x7.size ≤ 10000000000 ∧ x8.size ≤ 10000000000 → (g64_0 x0 x1 x2 x3 x4 x5 x6 x7 x8 x9).n ≤ 40000000000 := fun h => by
  unfold g64_0
  cases (g51 x0 x1 x2 x3 x4 x5 x6 x7 x8 x9 != 0)
  · simp only [cond_false]
    unfold g128 g193 g224
    cases x2
    · simp only [cond_false]
      cases decide (x3 > 0)
      · simp only [cond_false, len154, len155, nilSl_n]; omega
      · simp only [cond_true, len154, len155, len156, nilSl_n]; omega
    · simp only [cond_true, len154, len155, nilSl_n]; omega
  · simp only [cond_true, nilSl_n]; omega
theorem len90 (x0 : Int) (x1 : Sl T175) (x2 : Int) (x3 : Sl T137) (h : CE x1 ∧ CC x3) : (g90_0 x0 x1 x2 x3).n ≤ 28000 := by
  unfold g90_0
  by_cases e : g84 x0 x1 x2 x3 = 0
  · have hM := chk84 x0 x1 x2 x3 h.1 h.2 e
    rw [show (g84 x0 x1 x2 x3 != 0) = false by simp [e]]
    simp only [cond_false]
    rw [← B_len, B90 hM]
    exact mb_len hM
  · rw [show (g84 x0 x1 x2 x3 != 0) = true by simp [e]]
    simp only [cond_true, nilSl_n]; omega
theorem len159 (x0 : Int) (x1 : Sl T175) (x2 : Int) (x3 : Sl T137) (h : MOK x0 x1 x2 x3) : (g159 x0 x1 x2 x3).n ≤ 28000 := by
  rw [← B_len, B159 h]
  exact mb_len h
theorem len129 (x0 x1 : Int) (x2 : Bool) (x3 x4 x5 : Int) (x6 x7 x8 : ByteArray) (x9 : Int) : x6.size ≤ 10000000000 ∧ x7.size ≤ 10000000000 ∧ x8.size ≤ 10000000000 → (g129 x0 x1 x2 x3 x4 x5 x6 x7 x8 x9).n ≤ 40000000000 := fun ⟨h6, h7, h8⟩ => by
  have n194 : ∀ x, (g194 x).n = 8 := len194
  have l1 : (g109 (g194 x0) (g194 x1)).n = 16 := by rw [len109 _ _ (by rw [n194, n194]; omega), n194, n194]
  unfold g129
  cases x2 with
  | true =>
    simp only [cond_true, Sl.app_n, Sl.lit_n, List.length_cons, List.length_nil, l1]; omega
  | false =>
    have l2 : (Sl.app (g109 (g194 x0) (g194 x1)) (Sl.lit [(0 : Int)])).n = 17 := by simp only [Sl.app_n, Sl.lit_n, l1, List.length_cons, List.length_nil]
    simp only [cond_false]
    generalize Sl.app (g109 (g194 x0) (g194 x1)) (Sl.lit [(0 : Int)]) = Y at *
    have l3 : (g109 Y (g194 x3)).n = 25 := by rw [len109 _ _ (by rw [n194, l2]; omega), n194, l2]
    cases (x3 == 0) with
    | true => simp only [cond_true, l3]; omega
    | false =>
      have l4 : (g109 (g109 Y (g194 x3)) (g194 x4)).n = 33 := by rw [len109 _ _ (by rw [n194, l3]; omega), n194, l3]
      have l5 : (Sl.app (g109 (g109 Y (g194 x3)) (g194 x4)) (Sl.lit [(IntKind.u8.wrap x5)])).n = 34 := by simp only [Sl.app_n, Sl.lit_n, l4, List.length_cons, List.length_nil]
      have l6 := len109 (Sl.app (g109 (g109 Y (g194 x3)) (g194 x4)) (Sl.lit [(IntKind.u8.wrap x5)])) (g195 x6) (by rw [l5, len195 x6 h6]; omega)
      rw [l5, len195 x6 h6] at l6
      have l7 := len109 (g109 (Sl.app (g109 (g109 Y (g194 x3)) (g194 x4)) (Sl.lit [(IntKind.u8.wrap x5)])) (g195 x6)) (g195 x7) (by rw [l6, len195 x7 h7]; omega)
      rw [l6, len195 x7 h7] at l7
      have l8 := len109 (g109 (g109 (Sl.app (g109 (g109 Y (g194 x3)) (g194 x4)) (Sl.lit [(IntKind.u8.wrap x5)])) (g195 x6)) (g195 x7)) (g195 x8) (by rw [l7, len195 x8 h8]; omega)
      rw [l7, len195 x8 h8] at l8
      have l9 := len109 (g109 (g109 (g109 (Sl.app (g109 (g109 Y (g194 x3)) (g194 x4)) (Sl.lit [(IntKind.u8.wrap x5)])) (g195 x6)) (g195 x7)) (g195 x8)) (g194 x9) (by rw [l8, n194]; omega)
      rw [l8, n194] at l9
      simp only [cond_false, l9]; omega
end Go.Proofs.Ytchhfojblmceiaa
