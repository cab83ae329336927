/-
  What is proved: a part of the laws of this seat, in plain Lean.
-/
import Derived.Test.YtchhfojblmceiaaGreatYA
import Derived.Test.YtchhfojblmceiaaGreatVcH
namespace Go.Vc
open Go Go.RowKit
/-- Slices of as many, each like the other's. -/
def SlE {α : Type} (R : α → α → Prop) (a b : Sl α) : Prop := a.n = b.n ∧ ∀ i, i < a.n → R (a.at' i) (b.at' i)
theorem SlE.rfl' {α : Type} {R : α → α → Prop} (h : ∀ x, R x x) (a : Sl α) : SlE R a a := ⟨rfl, fun _ _ => h _⟩
theorem clean0 {β : Type} [Inhabited β] (F : Nat → Int → Bool × β) (n : Nat) (bad : Int → Bool) (c : Int → β) (hn : n ≤ 549755813888) (hF : ∀ k i, F (k + 1) i = bif decide (i < (n : Int)) then (bif bad i then (true, c i) else F k (IntKind.i64.wrap (i + 1))) else (false, default)) (h : ∀ i : Nat, i < n → bad (i : Int) = false) :
    F (Int.toNat ((n : Int) - 0) + 1) 0 = (false, default) :=
  (scan0 F n bad c hn hF).trans (scan_clean n 0 fun j h1 h2 => by
    obtain ⟨k, rfl⟩ := Int.eq_ofNat_of_zero_le h1
    exact h k (by omega))
end Go.Vc
namespace Go.Proofs.YtchhfojblmceiaaGreat
open Go Go.Vc Go.RowKit
set_option maxRecDepth 100000
theorem ne_self (x : Int) : (x != x) = false := by simp
theorem t191 {a b : Sl ByteArray} (h : SlE Eq a b) (hn : a.n ≤ 549755813888) : g191 a b = true := by
  have c : g191_r1 a b = (false, default) := clean0 (g191_l2 a b) a.n _ (fun _ => false) hn (fun _ _ => rfl) fun i hi => by
    simp only [Int.toNat_natCast]
    rw [h.2 i hi]; simp
  unfold g191 g191_p2
  rw [c, h.1, ne_self]; rfl
theorem t103 {x0 : Int} {x1 : ByteArray} {x2 : Int} {a3 b3 : Sl T160} {a4 b4 : Sl ByteArray} {a5 b5 : Sl T164} (h3 : SlE Eq a3 b3) (h4 : SlE Eq a4 b4) (h5 : SlE Eq a5 b5) (n3 : a3.n ≤ 549755813888) (n4 : a4.n ≤ 549755813888) (n5 : a5.n ≤ 549755813888) : g103 x0 x1 x2 a3 a4 a5 x0 x1 x2 b3 b4 b5 = true := by
  have c1 : g103_r2 a3 b3 = (false, default) := clean0 (g103_l8 a3 b3) a3.n _ (fun _ => false) n3 (fun _ _ => rfl) fun i hi => by
    simp only [Int.toNat_natCast]
    rw [h3.2 i hi]; simp
  have c2 : g103_r4 a5 b5 = (false, default) := clean0 (g103_l15 a5 b5) a5.n _ (fun _ => false) n5 (fun _ _ => rfl) fun i hi => by
    simp only [Int.toNat_natCast]
    rw [h5.2 i hi]; simp
  have m : g103_m1 x0 x1 x2 a3 a4 a5 x0 x1 x2 b3 b4 b5 = false := by
    unfold g103_m1
    rw [t191 h4 n4, h3.1, h5.1]
    simp only [ne_self, beq_self_eq_true, Bool.not_true, cond_false]
  unfold g103 g103_p3 g103_p5
  rw [m, c1, c2]; rfl
theorem t104 {x0 : Int} {x1 : ByteArray} {x2 : Int} {a b : Sl ByteArray} (h : SlE Eq a b) (hn : a.n ≤ 549755813888) : g104 x0 x1 x2 a x0 x1 x2 b = true := by
  unfold g104 g104_m1
  rw [t191 h hn]
  simp only [beq_self_eq_true, cond_true]
/-- Entries alike; their slices are of no great bulk. -/
def R175 (x y : T175) : Prop := (x.c0 = y.c0 ∧ x.c1 = y.c1 ∧ x.c2 = y.c2 ∧ x.c3 = y.c3 ∧ x.c7 = y.c7) ∧ (SlE Eq x.c4 y.c4 ∧ SlE Eq x.c5 y.c5 ∧ SlE Eq x.c6 y.c6) ∧ (x.c4.n ≤ 549755813888 ∧ x.c5.n ≤ 549755813888 ∧ x.c6.n ≤ 549755813888)
def R137 (x y : T137) : Prop := (x.c0 = y.c0 ∧ x.c1 = y.c1 ∧ x.c2 = y.c2 ∧ x.c3 = y.c3 ∧ x.c4 = y.c4 ∧ x.c5 = y.c5) ∧ SlE Eq x.c6 y.c6 ∧ x.c6.n ≤ 549755813888
theorem t105 {x0 : Int} {a b : Sl T175} (h : SlE R175 a b) (hn : a.n ≤ 549755813888) : g105 x0 a x0 b = true := by
  have c : g105_r6 a b = (false, default) := clean0 (g105_l4 a b) a.n (fun i => g105_m5 a b i) (fun _ => false) hn (fun _ _ => rfl) fun i hi => by
    show g105_m5 a b (i : Int) = false
    unfold g105_m5
    simp only [Int.toNat_natCast]
    obtain ⟨⟨e0, e1, e2, e3, e7⟩, ⟨s4, s5, s6⟩, n4, n5, n6⟩ := h.2 i hi
    rw [← e0, ← e1, ← e2, ← e3, ← e7, t103 s4 s5 s6 n4 n5 n6]
    simp only [ne_self, beq_self_eq_true, Bool.not_true, cond_false]
  have m : g105_m1 x0 a x0 b = false := by
    unfold g105_m1
    rw [h.1]
    simp only [ne_self, cond_false]
  unfold g105 g105_p7
  rw [m, c]; rfl
theorem t34 {x0 x2 : Int} {a b : Sl T175} {c d : Sl T137} (h : SlE R175 a b) (hn : a.n ≤ 549755813888) (k : SlE R137 c d) (kn : c.n ≤ 549755813888) : g34 x0 a x2 c x0 b x2 d = true := by
  have cl : g34_r8 c d = (false, default) := clean0 (g34_l5 c d) c.n (fun i => g34_m7 c d i) (fun _ => false) kn (fun _ _ => rfl) fun i hi => by
    show g34_m7 c d (i : Int) = false
    unfold g34_m7
    simp only [Int.toNat_natCast]
    obtain ⟨⟨e0, e1, e2, e3, e4, e5⟩, s6, n6⟩ := k.2 i hi
    rw [← e0, ← e1, ← e2, ← e3, ← e4, ← e5, t104 s6 n6]
    simp only [ne_self, Bool.not_true, cond_false]
  have m : g34_m1 x0 a x2 c x0 b x2 d = false := by
    unfold g34_m1
    rw [t105 h hn, k.1]
    simp only [ne_self, Bool.not_true, cond_false]
  unfold g34 g34_p9
  rw [m, cl]; rfl
end Go.Proofs.YtchhfojblmceiaaGreat
