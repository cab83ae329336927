/-
  What is proved: a part of the laws of this seat, in plain Lean.
-/
import Derived.Test.YtchhfojblmceiaaPA
namespace Go.Proofs.Ytchhfojblmceiaa
open Go Go.Vc Go.RowKit
set_option maxRecDepth 100000
set_option maxHeartbeats 4000000
theorem hit_no {bad : Int → Bool} : ∀ (m : Nat) (i : Int), hit bad m i = false → ∀ j : Int, i ≤ j → j < i + m → bad j = false
  | 0, i, _, j, h1, h2 => by omega
  | m + 1, i, h, j, h1, h2 => by
    simp only [hit, Bool.or_eq_false_iff] at h
    by_cases e : j = i
    · rw [e]; exact h.1
    · exact hit_no m (i + 1) h.2 j (by omega) (by omega)
theorem hit_nat {bad : Int → Bool} {n : Nat} (h : hit bad n 0 = false) (i : Nat) (hi : i < n) : bad (i : Int) = false := hit_no n 0 h i (by omega) (by omega)
theorem bz {b : Bool} {c X : Int} (h : (bif b then c else X) = 0) (hc : c ≠ 0) : b = false ∧ X = 0 := by
  cases b with
  | true => exact absurd h hc
  | false => exact ⟨rfl, h⟩
theorem bt {a b : Bool} (h : (bif a then true else b) = false) : a = false ∧ b = false := by
  cases a with
  | true => simp at h
  | false => exact ⟨rfl, h⟩
theorem df {p : Prop} [Decidable p] (h : decide p = false) : ¬ p := of_decide_eq_false h
/-- What a value that may be comes to in size. -/
def VOK (x1 : ByteArray) (x2 : Int) (x3 : Sl T160) (x4 : Sl ByteArray) (x5 : Sl T164) : Prop :=
  (x1.size ≤ 20 ∧ -1099511627776 ≤ x2 ∧ x2 ≤ 1099511627776) ∧ (x3.n ≤ 20 ∧ x4.n ≤ 20 ∧ x5.n ≤ 20) ∧ (∀ i, i < x3.n → (x3.at' i).c0.size ≤ 20 ∧ (x3.at' i).c1.size ≤ 20) ∧ (∀ i, i < x4.n → (x4.at' i).size ≤ 20) ∧ (∀ i, i < x5.n → (x5.at' i).c0.size ≤ 20 ∧ -1099511627776 ≤ (x5.at' i).c1 ∧ (x5.at' i).c1 ≤ 1099511627776)
def TOK (x : Sl ByteArray) : Prop := x.n ≤ 20 ∧ ∀ i, i < x.n → (x.at' i).size ≤ 20
def EOK (x : T175) : Prop := x.c0.size ≤ 20 ∧ VOK x.c2 x.c3 x.c4 x.c5 x.c6 ∧ 0 ≤ x.c7 ∧ x.c7 ≤ 1073741824
def KOK (x : T137) : Prop := ((0 ≤ x.c0 ∧ x.c0 ≤ 1048577) ∧ (0 ≤ x.c1 ∧ x.c1 ≤ 1048576) ∧ (0 ≤ x.c2 ∧ x.c2 ≤ 1073741824)) ∧ ((0 ≤ x.c3 ∧ x.c3 ≤ 13) ∧ x.c4.size ≤ 20 ∧ -1099511627776 ≤ x.c5 ∧ x.c5 ≤ 1099511627776) ∧ TOK x.c6
def MOK (x0 : Int) (x1 : Sl T175) (x2 : Int) (x3 : Sl T137) : Prop := ((0 ≤ x0 ∧ x0 ≤ 1073741824) ∧ (1 ≤ x2 ∧ x2 ≤ 1048577) ∧ x1.n ≤ 12 ∧ x3.n ≤ 4) ∧ (∀ i, i < x1.n → EOK (x1.at' i)) ∧ (∀ i, i < x3.n → KOK (x3.at' i))
theorem vok_t {x1 : ByteArray} {x2 : Int} {x3 : Sl T160} {x4 : Sl ByteArray} {x5 : Sl T164} (h : VOK x1 x2 x3 x4 x5) : TOK x4 := ⟨h.2.1.2.1, h.2.2.2.1⟩
/-- A store's entries, a machine's clients, as arguments bring them. -/
def CE (s : Sl T175) : Prop := Canon s ∧ s.n ≤ 1048576 ∧ ∀ i, i < s.n → W175 (s.at' i)
def CC (s : Sl T137) : Prop := Canon s ∧ s.n ≤ 1048576 ∧ ∀ i, i < s.n → W137 (s.at' i)
theorem ce79 {s : Sl T175} (h : CE s) : g79_1 s = s := copy79 s h.1 (by have := h.2.1; omega) h.2.2
theorem cc85 {s : Sl T137} (h : CC s) : g85_3 s = s := copy85 s h.1 (by have := h.2.1; omega) h.2.2
theorem ce85 {s : Sl T175} (h : CE s) : CE (g85_1 s) := by
  show CE (g79_1 s)
  rw [ce79 h]; exact h
theorem cc85' {s : Sl T137} (h : CC s) : CC (g85_3 s) := by rw [cc85 h]; exact h
theorem s113 {x : ByteArray} (h : (!(g113 x)) = false) : x.size ≤ 20 := by
  unfold g113 at h
  by_cases a : (x.size : Int) ≤ 20
  · omega
  · simp [a] at h
theorem s115 {x : ByteArray} (h : (!(g115 x)) = false) : x.size ≤ 20 := by
  unfold g115 g115_m1 at h
  by_cases a : (x.size : Int) ≤ 12
  · omega
  · simp [a] at h
theorem s117 {x : Int} (h : (!(g117 x)) = false) : -1099511627776 ≤ x ∧ x ≤ 1099511627776 := by
  unfold g117 g117_m1 at h
  by_cases a : x ≥ -1099511627776
  · by_cases b : x ≤ 1099511627776
    · omega
    · simp [b] at h
  · simp [a] at h
theorem a111 (s : Sl ByteArray) (hn : s.n ≤ 549755813888) : g110_111 s = hit (fun i => g111 (s.at' (Int.toNat i))) s.n 0 := idx_hit _ _ _ (scan192 s hn)
theorem chk42 (x0 : Int) (x1 : ByteArray) (x2 : Int) (x3 : Sl ByteArray) (hn : x3.n ≤ 1048576) (h : g42 x0 x1 x2 x3 = 0) : ((0 ≤ x0 ∧ x0 ≤ 13) ∧ x1.size ≤ 20 ∧ -1099511627776 ≤ x2 ∧ x2 ≤ 1099511627776) ∧ TOK x3 := by
  unfold g42 at h
  obtain ⟨a1, h⟩ := bz h (by decide)
  obtain ⟨a2, h⟩ := bz h (by decide)
  obtain ⟨a3, h⟩ := bz h (by decide)
  obtain ⟨a4, _⟩ := bz h (by decide)
  unfold g42_m1 at a1; unfold g42_m2 at a2; unfold g42_m3 at a4
  obtain ⟨b1, b2⟩ := bt a1
  obtain ⟨b3, b4⟩ := bt a2
  obtain ⟨b5, b6⟩ := bt a4
  have c1 := df b1; have c2 := df b2; have c3 := df b3; have c4 := df b4; have c5 := df b5; have c6 := df b6
  refine ⟨⟨⟨by omega, by omega⟩, by omega, by omega, by omega⟩, by omega, fun i hi => ?_⟩
  rw [a111 _ (by omega)] at a3
  have := hit_nat a3 i hi
  simp only [Int.toNat_natCast, g111] at this
  have := df this
  omega
theorem chk72 (x0 : Int) (x1 : ByteArray) (x2 : Int) (s3 : Sl T160) (s4 : Sl ByteArray) (s5 : Sl T164) (h3 : s3.n ≤ 1048576) (h4 : s4.n ≤ 1048576) (h5 : s5.n ≤ 1048576) (h : g72 x0 x1 x2 s3 s4 s5 = 0) : VOK x1 x2 s3 s4 s5 := by
  unfold g72 at h
  obtain ⟨a1, h⟩ := bz h (by decide)
  obtain ⟨a2, h⟩ := bz h (by decide)
  obtain ⟨a3, h⟩ := bz h (by decide)
  obtain ⟨a4, h⟩ := bz h (by decide)
  obtain ⟨a5, h⟩ := bz h (by decide)
  obtain ⟨a6, h⟩ := bz h (by decide)
  obtain ⟨a7, _⟩ := bz h (by decide)
  have hs : s3.n ≤ 20 ∧ s4.n ≤ 20 ∧ s5.n ≤ 20 := by
    unfold g72_m1 at a1
    obtain ⟨b1, b2⟩ := bt a1
    have c1 := df b1
    have c2 := df b2
    by_cases e1 : x0 = 1
    · subst e1
      unfold g72_m7 g72_m4 g72_m5 g72_m6 at a2
      simp only [beq_self_eq_true, cond_true] at a2
      obtain ⟨_, a2⟩ := bt a2
      obtain ⟨_, a2⟩ := bt a2
      rw [sum_eq _ _ _ h3 h4 h5] at a2
      have := df a2
      omega
    · by_cases e2 : x0 = 2
      · subst e2
        unfold g72_m7 g72_m4 g72_m5 g72_m6 at a2
        simp only [beq_self_eq_true, Int.reduceBEq, cond_true, cond_false] at a2
        obtain ⟨_, a2⟩ := bt a2
        obtain ⟨_, a2⟩ := bt a2
        rw [sum_eq _ _ _ h3 h4 h5] at a2
        have := df a2
        omega
      · unfold g72_m8 at a3
        rw [decide_eq_true (show x0 ≥ 3 by omega)] at a3
        simp only [cond_true] at a3
        obtain ⟨_, a3⟩ := bt a3
        rw [sum_eq _ _ _ h3 h4 h5] at a3
        have := df a3
        omega
  unfold g72_m9 at a4
  obtain ⟨b1, b2⟩ := bt a4
  unfold g72_m10 at a7
  obtain ⟨b3, b4⟩ := bt a7
  rw [a110 _ (by omega)] at b2
  rw [a133 _ (by omega)] at a5
  rw [a135 _ (by omega)] at a6
  rw [a137 _ (by omega)] at b4
  refine ⟨⟨s113 b1, s117 b3⟩, hs, fun i hi => ?_, fun i hi => ?_, fun i hi => ?_⟩
  · have := hit_nat a5 i hi
    simp only [Int.toNat_natCast, g134, g134_m1] at this
    obtain ⟨c1, c2⟩ := bt this
    exact ⟨s115 c1, s113 c2⟩
  · have := hit_nat b2 i hi
    simp only [Int.toNat_natCast] at this
    exact s113 this
  · have t1 := hit_nat a6 i hi
    have t2 := hit_nat b4 i hi
    simp only [Int.toNat_natCast] at t1 t2
    exact ⟨s113 t1, s117 t2⟩
theorem chk78 (x0 : Int) (s : Sl T175) (hc : CE s) (h : g78 x0 s = 0) : ((0 ≤ x0 ∧ x0 ≤ 1073741824) ∧ s.n ≤ 12) ∧ ∀ i, i < s.n → EOK (s.at' i) := by
  have hn := hc.2.1
  unfold g78 at h
  obtain ⟨a1, h⟩ := bz h (by decide)
  unfold g78_m1 at a1
  obtain ⟨b1, a1⟩ := bt a1
  obtain ⟨b2, b3⟩ := bt a1
  have c1 := df b1; have c2 := df b2; have c3 := df b3
  have hl : g78_r10 x0 s = scan (fun i => g78_m7 s i || g78_m9 x0 s i) (fun _ => 13) s.n 0 := scan0 (g78_l5 x0 s) s.n _ _ (by omega) fun k i => by
    show (bif decide (i < (s.n : Int)) then (bif (g78_m7 s i) then (true, 13) else (bif (g78_m9 x0 s i) then (true, 13) else g78_l5 x0 s k (IntKind.i64.wrap (i + 1)))) else (false, default)) = _
    rw [bif_or]
  unfold g78_p11 at h
  rw [fall hl] at h
  obtain ⟨hh, _⟩ := bz h (by decide)
  refine ⟨⟨⟨by omega, by omega⟩, by omega⟩, fun i hi => ?_⟩
  have q := hit_nat hh i hi
  simp only [Bool.or_eq_false_iff] at q
  obtain ⟨q1, q2⟩ := q
  obtain ⟨⟨_, w1⟩, ⟨_, w2⟩, _, w3⟩ := hc.2.2 i hi
  unfold g78_m7 at q1
  unfold g78_m9 at q2
  simp only [Int.toNat_natCast] at q1 q2
  obtain ⟨d1, q1⟩ := bt q1
  obtain ⟨d2, q1⟩ := bt q1
  obtain ⟨d3, q1⟩ := bt q1
  have e2 := df d2
  refine ⟨by omega, chk72 _ _ _ _ _ _ w1 w2 w3 (bne_eq_false_iff_eq.1 d3), ?_⟩
  by_cases z : (s.at' i).c7 = 0
  · rw [z]; omega
  · rw [show ((s.at' i).c7 != 0) = true by simp [z]] at q2
    simp only [cond_true] at q2
    obtain ⟨d4, d5⟩ := bt q2
    have := df d4
    have := df d5
    omega
theorem chk84 (x0 : Int) (x1 : Sl T175) (x2 : Int) (x3 : Sl T137) (hc : CE x1) (hk : CC x3) (h : g84 x0 x1 x2 x3 = 0) : MOK x0 x1 x2 x3 := by
  have hn := hk.2.1
  unfold g84 at h
  obtain ⟨a1, h⟩ := bz h (by decide)
  unfold g84_m1 at a1
  obtain ⟨b1, a1⟩ := bt a1
  obtain ⟨b2, a1⟩ := bt a1
  obtain ⟨b3, b4⟩ := bt a1
  have c2 := df b2; have c3 := df b3; have c4 := df b4
  obtain ⟨⟨m1, m2⟩, m3⟩ := chk78 x0 x1 hc (bne_eq_false_iff_eq.1 b1)
  have hl : g84_r14 x0 x2 x3 = scan (fun i => g84_m5 x2 x3 i || g84_m13 x0 x3 i) (fun _ => 13) x3.n 0 := scan0 (g84_l6 x0 x2 x3) x3.n _ _ (by omega) fun k i => by
    show (bif decide (i < (x3.n : Int)) then (bif (g84_m5 x2 x3 i) then (true, 13) else (bif (g84_m13 x0 x3 i) then (true, 13) else g84_l6 x0 x2 x3 k (IntKind.i64.wrap (i + 1)))) else (false, default)) = _
    rw [bif_or]
  unfold g84_p15 at h
  rw [fall hl] at h
  obtain ⟨hh, _⟩ := bz h (by decide)
  refine ⟨⟨m1, ⟨by omega, by omega⟩, m2, by omega⟩, m3, fun i hi => ?_⟩
  have q := hit_nat hh i hi
  simp only [Bool.or_eq_false_iff] at q
  obtain ⟨q1, q2⟩ := q
  unfold g84_m5 at q1
  unfold g84_m13 at q2
  simp only [Int.toNat_natCast] at q1 q2
  obtain ⟨d1, q1⟩ := bt q1
  obtain ⟨d2, _⟩ := bt q1
  obtain ⟨d3, q2⟩ := bt q2
  obtain ⟨d4, q2⟩ := bt q2
  obtain ⟨d5, q2⟩ := bt q2
  obtain ⟨d6, q2⟩ := bt q2
  have e1 := df d1; have e2 := df d2; have e3 := df d3; have e4 := df d4; have e5 := df d5; have e6 := df d6
  obtain ⟨k1, k2⟩ := chk42 _ _ _ _ (hk.2.2 i hi).2 (bne_eq_false_iff_eq.1 q2)
  exact ⟨⟨⟨by omega, by omega⟩, ⟨by omega, by omega⟩, ⟨by omega, by omega⟩⟩, k1, k2⟩
theorem chk86 (x0 : Int) (x1 : Sl T175) (x2 : Int) (x3 : Sl T137) (hc : CE x1) (hk : CC x3) (h : g86 x0 x1 x2 x3 = 0) : MOK x0 x1 x2 x3 :=
  chk84 x0 x1 x2 x3 hc hk (by rw [g84_eq x0 x1 x2 x3 (by have := hc.2.1; omega) hc.2.2 (by have := hk.2.1; omega) hk.2.2]; exact h)
end Go.Proofs.Ytchhfojblmceiaa
