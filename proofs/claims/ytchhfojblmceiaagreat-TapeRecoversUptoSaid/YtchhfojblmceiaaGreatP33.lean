/-
  What is proved: a part of the laws of this seat, in plain Lean.
-/
import Derived.Test.YtchhfojblmceiaaGreatRA
import Derived.Test.YtchhfojblmceiaaGreatPB
import Derived.Test.YtchhfojblmceiaaGreatP28
import Derived.Test.YtchhfojblmceiaaGreatP17
import Derived.Test.YtchhfojblmceiaaGreatPsm
namespace Go.Proofs.YtchhfojblmceiaaGreat
open Go Go.Vc Go.RowKit
set_option maxRecDepth 100000
set_option maxHeartbeats 4000000
/-- Of a record: its lists are of no great bulk, and so are theirs. -/
def WOK (r : T122) : Prop := (r.c17.n ≤ 255 ∧ ∀ i, i < r.c17.n → W175 (r.c17.at' i)) ∧ (r.c19.n ≤ 255 ∧ ∀ i, i < r.c19.n → W137 (r.c19.at' i))
theorem WOK.nil {c0 c1 c2 c3 c4 c5 : Int} {c6 : Bool} {c7 c8 c9 : Int} {c10 c11 c12 : ByteArray} {c13 c14 c15 c16 c18 : Int} : WOK ⟨c0, c1, c2, c3, c4, c5, c6, c7, c8, c9, c10, c11, c12, c13, c14, c15, c16, nilSl, c18, nilSl⟩ :=
  ⟨⟨Nat.zero_le _, fun i h => absurd h (Nat.not_lt_zero i)⟩, Nat.zero_le _, fun i h => absurd h (Nat.not_lt_zero i)⟩
theorem self175 {s : Sl T175} (h : ∀ i, i < s.n → W175 (s.at' i)) : SlE R175 s s := ⟨rfl, fun i hi => by
  obtain ⟨⟨_, a⟩, ⟨_, b⟩, _, c⟩ := h i hi
  exact ⟨⟨rfl, rfl, rfl, rfl, rfl⟩, ⟨SlE.rfl' (fun _ => rfl) _, SlE.rfl' (fun _ => rfl) _, SlE.rfl' (fun _ => rfl) _⟩, by omega, by omega, by omega⟩⟩
theorem self137 {s : Sl T137} (h : ∀ i, i < s.n → W137 (s.at' i)) : SlE R137 s s := ⟨rfl, fun i hi => by
  obtain ⟨_, a⟩ := h i hi
  exact ⟨⟨rfl, rfl, rfl, rfl, rfl, rfl⟩, SlE.rfl' (fun _ => rfl) _, by omega⟩⟩
theorem same106 (a b c d : Int) (s : Sl T175) (t : Sl T137) (h1 : s.n ≤ 549755813888) (w1 : ∀ i, i < s.n → W175 (s.at' i)) (h2 : t.n ≤ 549755813888) (w2 : ∀ i, i < t.n → W137 (t.at' i)) : g106 a b c s d t a b c s d t = true := by
  unfold g106 g106_m1
  rw [t34 (self175 w1) h1 (self137 w2) h2]
  simp
theorem same1009 (l : Sl T122) (hn : l.n ≤ 549755813888) (h : ∀ i, i < l.n → WOK (l.at' i)) : g1009 l l = true := by
  have c : g1009_r1 l l = (false, default) := clean0 (g1009_l2 l l) l.n _ (fun _ => false) hn (fun _ _ => rfl) fun i hi => by
    simp only [Int.toNat_natCast]
    obtain ⟨⟨n1, w1⟩, n2, w2⟩ := h i hi
    unfold g1028 g1028_m1
    rw [same106 _ _ _ _ _ _ (by omega) w1 (by omega) w2]
    simp
  unfold g1009 g1009_p2
  rw [c]
  simp
/-- What the decoders make of bytes. -/
noncomputable def dA (x : Sl Int) : T122 := ⟨g1023_0_0 x, g1023_0_1 x, g1023_0_2 x, g1023_0_3 x, g1023_0_4 x, g1023_0_5 x, g1023_0_6 x, g1023_0_7 x, g1023_0_8 x, g1023_0_9 x, g1023_0_10 x, g1023_0_11 x, g1023_0_12 x, g1023_0_13 x, g1023_0_14 x, g1023_0_15 x, g1023_0_16 x, g1023_0_17 x, g1023_0_18 x, g1023_0_19 x⟩
noncomputable def dB (x : Sl Int) : T122 := ⟨g1026_0_0 x, g1026_0_1 x, g1026_0_2 x, g1026_0_3 x, g1026_0_4 x, g1026_0_5 x, g1026_0_6 x, g1026_0_7 x, g1026_0_8 x, g1026_0_9 x, g1026_0_10 x, g1026_0_11 x, g1026_0_12 x, g1026_0_13 x, g1026_0_14 x, g1026_0_15 x, g1026_0_16 x, g1026_0_17 x, g1026_0_18 x, g1026_0_19 x⟩
theorem wE27 (x : Sl Int) (hU : U8 x) : (g93_0_1 x).n ≤ 255 ∧ ∀ i, i < (g93_0_1 x).n → W175 ((g93_0_1 x).at' i) := by
  unfold g93_0_1
  exact fit (P := fun s => s.n ≤ 255 ∧ ∀ i, i < s.n → W175 (s.at' i)) ⟨Nat.zero_le _, fun i h => absurd h (Nat.not_lt_zero i)⟩ fun c z => ((all27 x hU c).2 (m7z x hU c z)).2.2.2.2.2.1
theorem wC27 (x : Sl Int) (hU : U8 x) : (g93_0_3 x).n ≤ 255 ∧ ∀ i, i < (g93_0_3 x).n → W137 ((g93_0_3 x).at' i) := by
  unfold g93_0_3
  exact fit (P := fun s => s.n ≤ 255 ∧ ∀ i, i < s.n → W137 (s.at' i)) ⟨Nat.zero_le _, fun i h => absurd h (Nat.not_lt_zero i)⟩ fun c z => ((all27 x hU c).2 (m7z x hU c z)).2.2.2.2.2.2
theorem tri (x : Sl Int) (hU : U8 x) (k : Int) (h0 : 0 ≤ k ∧ k ≤ 1000000) (m : Int) : g1022 (Sl.part x k m) = g1025 x k := by
  rw [e1022 _ (u8part hU), e1025 x k hU (by omega)]
  simp only [Sl.part]
  rfl
theorem dec_eq (x : Sl Int) (hU : U8 x) : g1023_1 x = g1026_1 x ∧ (g1026_1 x = true → dA x = dB x ∧ WOK (dB x)) := by
  have b0 := hU 0
  have t1 := tri x hU 1 (by omega) ((x.n : Nat) : Int)
  have t4 := tri x hU 4 (by omega) ((x.n : Nat) : Int)
  by_cases hn : (x.n : Int) < 5
  · have d1 : g1023_1 x = false := by
      unfold g1023_1 g1023_p25 g1023_m1 g1023_m2 g1023_m3
      rw [show ((x.n : Int) == 5) = false by simp; omega, show decide ((x.n : Int) > 4) = false by simp; omega, show decide ((x.n : Int) > 7) = false by simp; omega]
      rfl
    have d2 : g1026_1 x = false := by
      unfold g1026_1 g1026_m1
      rw [decide_eq_true hn]; rfl
    rw [d1, d2]
    exact ⟨rfl, fun h => by cases h⟩
  · have n4 : decide ((x.n : Int) > 4) = true := by simp; omega
    have n5 : decide ((x.n : Int) < 5) = false := decide_eq_false hn
    by_cases h1 : x.at' (Int.toNat 0) = 1
    · have w : IntKind.i64.wrap 1 = 1 := rfl
      have m1 : g1026_m1 x = false := by
        unfold g1026_m1
        rw [n5, h1]; rfl
      have m2 : g1023_m2 x = false := by
        unfold g1023_m2
        rw [n4, h1]; rfl
      have m3 : g1023_m3 x = false := by
        unfold g1023_m3
        rw [h1]
        cases decide ((x.n : Int) > 7) <;> rfl
      by_cases c : (x.n : Int) = 5
      · have c5t : ((x.n : Int) == 5) = true := by simpa using c
        have k1 : g1023_m1 x = true := by
          unfold g1023_m1
          rw [c, h1]; rfl
        have e : dA x = dB x ∧ g1023_1 x = g1026_1 x := by
          constructor
          · simp only [dA, dB, g1023_0_0, g1023_0_1, g1023_0_2, g1023_0_3, g1023_0_4, g1023_0_5, g1023_0_6, g1023_0_7, g1023_0_8, g1023_0_9, g1023_0_10, g1023_0_11, g1023_0_12, g1023_0_13, g1023_0_14, g1023_0_15, g1023_0_16, g1023_0_17, g1023_0_18, g1023_0_19, g1026_0_0, g1026_0_1, g1026_0_2, g1026_0_3, g1026_0_4, g1026_0_5, g1026_0_6, g1026_0_7, g1026_0_8, g1026_0_9, g1026_0_10, g1026_0_11, g1026_0_12, g1026_0_13, g1026_0_14, g1026_0_15, g1026_0_16, g1026_0_17, g1026_0_18, g1026_0_19, g1023_p25, g1023_m4, g1023_m5, g1023_m6, g1023_m7, g1023_m8, g1023_m9, g1023_m10, g1023_m11, g1023_m12, g1023_m13, g1023_m14, g1023_m15, g1023_m16, g1023_m17, g1023_m18, g1023_m19, g1023_m20, g1023_m21, g1023_m22, g1023_m23, k1, m1, h1, w, t1, beq_self_eq_true, cond_true, cond_false]
          · simp only [g1023_1, g1026_1, g1026_m2, g1023_m26, g1023_m24, g1023_p25, g1023_m4, g1023_m5, g1023_m6, g1023_m7, g1023_m8, g1023_m9, g1023_m10, g1023_m11, g1023_m12, g1023_m13, g1023_m14, g1023_m15, g1023_m16, g1023_m17, g1023_m18, g1023_m19, g1023_m20, g1023_m21, g1023_m22, g1023_m23, k1, m1, h1, w, t1, c5t, cond_true, cond_false, beq_self_eq_true]
            rw [g94_eq _ _ _ _ _ _ _ _ _ _ _ _ _ _ _ _ _ nilSl _ nilSl (Nat.zero_le _) (fun i h => absurd h (Nat.not_lt_zero i)) (Nat.zero_le _) (fun i h => absurd h (Nat.not_lt_zero i))]
        refine ⟨e.2, fun _ => ⟨e.1, ?_⟩⟩
        simp only [dB, g1026_0_17, g1026_0_19, m1, h1, w, beq_self_eq_true, cond_true, cond_false]
        exact WOK.nil
      · have c5 : ((x.n : Int) == 5) = false := by simp; omega
        have d1 : g1023_1 x = false := by
          unfold g1023_1 g1023_p25 g1023_m1
          rw [c5, m2, m3]; rfl
        have d2 : g1026_1 x = false := by
          unfold g1026_1 g1026_m2
          rw [m1, h1, c5]; rfl
        rw [d1, d2]
        exact ⟨rfl, fun h => by cases h⟩
    · have k1 : g1023_m1 x = false := by
        unfold g1023_m1
        rw [show (x.at' (Int.toNat 0) == 1) = false by simpa using h1]
        cases ((x.n : Int) == 5) <;> rfl
      by_cases h2 : x.at' (Int.toNat 0) = 2
      · have w : IntKind.i64.wrap 2 = 2 := rfl
        have z : ((2 : Int) == 1) = false := rfl
        have m1 : g1026_m1 x = false := by
          unfold g1026_m1
          rw [n5, h2]; rfl
        have m2 : g1023_m2 x = true := by
          unfold g1023_m2
          rw [n4, h2]; rfl
        have u := u8part (l := 4) (h := ((x.n : Nat) : Int)) hU
        have e : dA x = dB x ∧ g1023_1 x = g1026_1 x := by
          constructor
          · simp only [dA, dB, g1023_0_0, g1023_0_1, g1023_0_2, g1023_0_3, g1023_0_4, g1023_0_5, g1023_0_6, g1023_0_7, g1023_0_8, g1023_0_9, g1023_0_10, g1023_0_11, g1023_0_12, g1023_0_13, g1023_0_14, g1023_0_15, g1023_0_16, g1023_0_17, g1023_0_18, g1023_0_19, g1026_0_0, g1026_0_1, g1026_0_2, g1026_0_3, g1026_0_4, g1026_0_5, g1026_0_6, g1026_0_7, g1026_0_8, g1026_0_9, g1026_0_10, g1026_0_11, g1026_0_12, g1026_0_13, g1026_0_14, g1026_0_15, g1026_0_16, g1026_0_17, g1026_0_18, g1026_0_19, g1023_p25, g1023_m4, g1023_m5, g1023_m6, g1023_m7, g1023_m8, g1023_m9, g1023_m10, g1023_m11, g1023_m12, g1023_m13, g1023_m14, g1023_m15, g1023_m16, g1023_m17, g1023_m18, g1023_m19, g1023_m20, g1023_m21, g1023_m22, g1023_m23, k1, m1, m2, h2, w, z, t1, beq_self_eq_true, cond_true, cond_false, e23_0 _ u, e23_1 _ u, e23_2 _ u, e23_3 _ u, e23_4 _ u, e23_5 _ u, e23_6 _ u, e23_7 _ u, e23_8 _ u, e23_9 _ u]
          · simp only [g1023_1, g1026_1, g1026_m3, g1023_m26, g1023_m24, g1023_p25, g1023_m4, g1023_m5, g1023_m6, g1023_m7, g1023_m8, g1023_m9, g1023_m10, g1023_m11, g1023_m12, g1023_m13, g1023_m14, g1023_m15, g1023_m16, g1023_m17, g1023_m18, g1023_m19, g1023_m20, g1023_m21, g1023_m22, g1023_m23, k1, m1, m2, h2, w, z, t1, beq_self_eq_true, cond_true, cond_false, e23_0 _ u, e23_1 _ u, e23_2 _ u, e23_3 _ u, e23_4 _ u, e23_5 _ u, e23_6 _ u, e23_7 _ u, e23_8 _ u, e23_9 _ u, e23_c _ u]
            rw [g94_eq _ _ _ _ _ _ _ _ _ _ _ _ _ _ _ _ _ nilSl _ nilSl (Nat.zero_le _) (fun i h => absurd h (Nat.not_lt_zero i)) (Nat.zero_le _) (fun i h => absurd h (Nat.not_lt_zero i))]
        refine ⟨e.2, fun _ => ⟨e.1, ?_⟩⟩
        simp only [dB, g1026_0_17, g1026_0_19, m1, h2, w, z, beq_self_eq_true, cond_true, cond_false]
        exact WOK.nil
      · have m2 : g1023_m2 x = false := by
          unfold g1023_m2
          rw [n4, show (x.at' (Int.toNat 0) == 2) = false by simpa using h2]; rfl
        by_cases h3 : x.at' (Int.toNat 0) = 3
        · have w : IntKind.i64.wrap 3 = 3 := rfl
          have z : ((3 : Int) == 1) = false := rfl
          have z2 : ((3 : Int) == 2) = false := rfl
          have m1 : g1026_m1 x = false := by
            unfold g1026_m1
            rw [n5, h3]; rfl
          by_cases c : (x.n : Int) < 8
          · have m3 : g1023_m3 x = false := by
              unfold g1023_m3
              rw [show decide ((x.n : Int) > 7) = false by simp; omega]; rfl
            have d1 : g1023_1 x = false := by
              unfold g1023_1 g1023_p25
              rw [k1, m2, m3]; rfl
            have d2 : g1026_1 x = false := by
              unfold g1026_1
              rw [m1, h3, decide_eq_true c]; rfl
            rw [d1, d2]
            exact ⟨rfl, fun h => by cases h⟩
          · have m3 : g1023_m3 x = true := by
              unfold g1023_m3
              rw [show decide ((x.n : Int) > 7) = true by simp; omega, h3]; rfl
            have c8 : decide ((x.n : Int) < 8) = false := decide_eq_false c
            have u := u8part (l := 7) (h := ((x.n : Nat) : Int)) hU
            have e : dA x = dB x ∧ g1023_1 x = g1026_1 x := by
              constructor
              · simp only [dA, dB, g1023_0_0, g1023_0_1, g1023_0_2, g1023_0_3, g1023_0_4, g1023_0_5, g1023_0_6, g1023_0_7, g1023_0_8, g1023_0_9, g1023_0_10, g1023_0_11, g1023_0_12, g1023_0_13, g1023_0_14, g1023_0_15, g1023_0_16, g1023_0_17, g1023_0_18, g1023_0_19, g1026_0_0, g1026_0_1, g1026_0_2, g1026_0_3, g1026_0_4, g1026_0_5, g1026_0_6, g1026_0_7, g1026_0_8, g1026_0_9, g1026_0_10, g1026_0_11, g1026_0_12, g1026_0_13, g1026_0_14, g1026_0_15, g1026_0_16, g1026_0_17, g1026_0_18, g1026_0_19, g1023_p25, g1023_m4, g1023_m5, g1023_m6, g1023_m7, g1023_m8, g1023_m9, g1023_m10, g1023_m11, g1023_m12, g1023_m13, g1023_m14, g1023_m15, g1023_m16, g1023_m17, g1023_m18, g1023_m19, g1023_m20, g1023_m21, g1023_m22, g1023_m23, k1, m1, m2, m3, h3, w, z, z2, c8, t1, t4, cond_true, cond_false, e27_0 _ u, e27_1 _ u, e27_2 _ u, e27_3 _ u]
              · simp only [g1023_1, g1026_1, g1026_m4, g1023_m26, g1023_m24, g1023_p25, g1023_m4, g1023_m5, g1023_m6, g1023_m7, g1023_m8, g1023_m9, g1023_m10, g1023_m11, g1023_m12, g1023_m13, g1023_m14, g1023_m15, g1023_m16, g1023_m17, g1023_m18, g1023_m19, g1023_m20, g1023_m21, g1023_m22, g1023_m23, k1, m1, m2, m3, h3, w, z, z2, c8, t1, t4, cond_true, cond_false, e27_0 _ u, e27_1 _ u, e27_2 _ u, e27_3 _ u, e27_c _ u]
                rw [g94_eq _ _ _ _ _ _ _ _ _ _ _ _ _ _ _ _ _ _ _ _ (by have := (wE27 _ u).1; omega) (wE27 _ u).2 (by have := (wC27 _ u).1; omega) (wC27 _ u).2]
            refine ⟨e.2, fun _ => ⟨e.1, ?_⟩⟩
            simp only [WOK, dB, g1026_0_17, g1026_0_19, m1, h3, w, z, z2, c8, cond_true, cond_false]
            exact ⟨wE27 _ u, wC27 _ u⟩
        · have m3 : g1023_m3 x = false := by
            unfold g1023_m3
            rw [show (x.at' (Int.toNat 0) == 3) = false by simpa using h3]
            cases decide ((x.n : Int) > 7) <;> rfl
          have d1 : g1023_1 x = false := by
            unfold g1023_1 g1023_p25
            rw [k1, m2, m3]; rfl
          have d2 : g1026_1 x = false := by
            have : g1026_m1 x = true := by
              unfold g1026_m1
              have b0 : 0 ≤ x.at' (Int.toNat 0) ∧ x.at' (Int.toNat 0) ≤ 255 := b0
              rw [n5, wrap64 (by omega) (by omega), g112_eq]
              generalize x.at' (Int.toNat 0) = q at *
              simp
              omega
            unfold g1026_1
            rw [this]; rfl
          rw [d1, d2]
          exact ⟨rfl, fun h => by cases h⟩
/-- The loops over a tape's records. -/
theorem loop33 (x : Sl Int) (y : Int) (hU : U8 x) (hn : x.n ≤ 400000) (hx : g107_0_0 x y = x) : ∀ (k : Nat) (a : Int) (l : Sl T122), 0 ≤ a → a ≤ x.n → (l.n : Int) ≤ a → (∀ i, i < l.n → WOK (l.at' i)) →
    g1007_l2 x y k a l = g1008_l2 x k a l ∧ ((0 ≤ (g1008_l2 x k a l).1 ∧ (g1008_l2 x k a l).1 ≤ x.n) ∧ (g1008_l2 x k a l).2.n ≤ 400000 ∧ ∀ i, i < (g1008_l2 x k a l).2.n → WOK ((g1008_l2 x k a l).2.at' i))
  | 0, a, l, h0, h1, h2, h3 => ⟨rfl, ⟨Int.le_refl 0, by show (0 : Int) ≤ x.n; omega⟩, Nat.zero_le _, fun i h => absurd h (Nat.not_lt_zero i)⟩
  | k + 1, a, l, h0, h1, h2, h3 => by
    have same : (a, l) = (a, l) ∧ ((0 ≤ (a, l).1 ∧ (a, l).1 ≤ (x.n : Int)) ∧ (a, l).2.n ≤ 400000 ∧ ∀ i, i < (a, l).2.n → WOK ((a, l).2.at' i)) := ⟨rfl, ⟨h0, h1⟩, by show l.n ≤ 400000; omega, h3⟩
    have w1 : IntKind.i64.wrap (a + 3) = a + 3 := wrap64 (by omega) (by omega)
    have hg := tri x hU a (by omega) ((x.n : Nat) : Int)
    have rg := r1025 x a hU (by omega)
    have w2 : IntKind.i64.wrap (a + 3 + g1025 x a) = a + 3 + g1025 x a := wrap64 (by omega) (by omega)
    have w3 : IntKind.i64.wrap (a + IntKind.i64.wrap (3 + g1025 x a)) = a + 3 + g1025 x a := by
      rw [wrap64 (x := 3 + g1025 x a) (by omega) (by omega), wrap64 (by omega) (by omega)]; omega
    simp only [g1007_l2, g1008_l2, hx, w1, hg, w2, w3]
    cases c1 : decide (a + 3 ≤ (x.n : Int)) with
    | false => exact same
    | true =>
      cases c2 : decide (a + 3 + g1025 x a > (x.n : Int)) with
      | true => exact same
      | false =>
        have c2 := of_decide_eq_false c2
        obtain ⟨e1, e2⟩ := dec_eq (Sl.part x (a + 3) (a + 3 + g1025 x a)) (u8part hU)
        simp only [cond_true, cond_false]
        rw [e1]
        cases c3 : g1026_1 (Sl.part x (a + 3) (a + 3 + g1025 x a)) with
        | false => exact same
        | true =>
          obtain ⟨e3, e4⟩ := e2 c3
          simp only [Bool.not_true, cond_false]
          have r := loop33 x y hU hn hx k (a + 3 + g1025 x a) (Sl.app l (Sl.lit [dB (Sl.part x (a + 3) (a + 3 + g1025 x a))])) (by omega) (by omega) (by
            have : (Sl.app l (Sl.lit [dB (Sl.part x (a + 3) (a + 3 + g1025 x a))])).n = l.n + 1 := rfl
            omega) (fun i hi => by
            have hi : i < l.n + 1 := hi
            simp only [Sl.app]
            rcases Nat.lt_or_ge i l.n with h | h
            · rw [blt_t h]; exact h3 i h
            · rw [blt_f h, show i - l.n = 0 by omega]; exact e4)
          refine ⟨Eq.trans ?_ r.1, r.2⟩
          show g1007_l2 x y k _ (Sl.app l (Sl.lit [dA (Sl.part x (a + 3) (a + 3 + g1025 x a))])) = _
          rw [e3]
theorem o107z (x0 : Sl Int) (x1 : Int) : g107_1 x0 x1 = g108 x0 x1 := by
  unfold g107_1 g107_m1 g108 g108_m1 g112 g112_m1
  by_cases a : x1 < 0
  · rw [decide_eq_true a, decide_eq_false (show ¬ x1 ≥ 0 by omega)]
    cases decide ((x0.n : Int) ≤ 400000) <;> rfl
  · rw [decide_eq_false a, decide_eq_true (show x1 ≥ 0 by omega)]
    by_cases b : x1 > (x0.n : Int)
    · rw [decide_eq_true b, decide_eq_false (show ¬ x1 ≤ (x0.n : Int) by omega)]
      cases decide ((x0.n : Int) ≤ 400000) <;> rfl
    · rw [decide_eq_false b, decide_eq_true (show x1 ≤ (x0.n : Int) by omega)]
      by_cases c : (x0.n : Int) > 400000
      · rw [decide_eq_true c, decide_eq_false (show ¬ (x0.n : Int) ≤ 400000 by omega)]; rfl
      · rw [decide_eq_false c, decide_eq_true (show (x0.n : Int) ≤ 400000 by omega)]; rfl
theorem same41 (a b : Sl Int) (y : Int) (h : a.B = b.B) : g41 a y b y = true := by
  unfold g41 g41_m1
  rw [toStr_B, toStr_B, h]
  simp
theorem law1003 (x : Sl Int) (y : Int) (_ : Canon x) (hm : x.n ≤ 1048576) (hU : U8 x) (_ : -9223372036854775808 ≤ y ∧ y ≤ 9223372036854775807) : g1003 x y = true := by
  show g1003_m1 x y = true
  unfold g1003_m1
  rw [show g38_0 x = x from rfl, show g38_1 y = y from rfl, same41 x x y rfl]
  unfold g1007_0 g1007_1_0 g1007_1_1 g1007_2 g1008_0 g1008_1_0 g1008_1_1 g1008_2
  rw [← o107z]
  cases h : g107_1 x y with
  | false =>
    simp only [Bool.not_false, cond_true]
    rw [same1009 _ (Nat.zero_le _) (fun i h => absurd h (Nat.not_lt_zero i)), same41 _ _ _ rfl]
    rfl
  | true =>
    have hm1 : g107_m1 x y = false := by
      unfold g107_1 at h
      cases e : g107_m1 x y with
      | false => rfl
      | true => rw [e] at h; cases h
    have hx : g107_0_0 x y = x := by
      unfold g107_0_0
      rw [hm1]; rfl
    have hy : g107_0_1 x y = y := by
      unfold g107_0_1
      rw [hm1]; rfl
    have hb := h107 x y h
    rw [hx, hy] at hb
    have L := loop33 x y hU hb.2 hx (Int.toNat ((x.n : Int) - 0) + 1) 0 nilSl (Int.le_refl _) (by omega) (Int.le_refl _) (fun i h => absurd h (Nat.not_lt_zero i))
    have e : g1007_r1 x y = g1008_r1 x := by
      unfold g1007_r1 g1008_r1
      rw [hx]; exact L.1
    have L2 := L.2
    rw [show g1008_l2 x (Int.toNat ((x.n : Int) - 0) + 1) 0 nilSl = g1008_r1 x from rfl] at L2
    obtain ⟨⟨a0, a1⟩, n1, w1⟩ := L2
    have ki := imin_spec y (g1008_r1 x).1
    have em : imin y (g1008_r1 x).1 = g1008_m2 x y := by
      unfold g1008_m2
      by_cases c : y > (g1008_r1 x).1
      · rw [decide_eq_true c]; simp only [cond_true]; omega
      · rw [decide_eq_false c]; simp only [cond_false]; omega
    have eB : (Sl.part x 0 (g1008_r1 x).1).B = (g109 (Sl.part x 0 (g1008_r1 x).1) nilSl).B := by
      rw [B109 _ _ (by simp only [Sl.part_n]; show _ + 0 ≤ _; omega), B_nil, List.append_nil]
    simp only [Bool.not_true, cond_false]
    rw [e, hx, hy, em, same1009 _ (by omega) w1, same41 _ _ _ eB]
    rfl
end Go.Proofs.YtchhfojblmceiaaGreat
