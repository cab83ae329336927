/-
  What is proved: a part of the laws of this seat, in plain Lean.
-/
import Derived.Test.YtchhfojblmceiaaGreatGD
import Derived.Test.YtchhfojblmceiaaGreatGB
import Derived.Test.YtchhfojblmceiaaGreatGC
import Derived.Test.YtchhfojblmceiaaGreatCl
import Derived.Test.YtchhfojblmceiaaGreatEc
import Derived.Test.YtchhfojblmceiaaGreatGA
import Derived.Test.YtchhfojblmceiaaGreatVcH
namespace Go.Proofs.YtchhfojblmceiaaGreat
open Go Go.Vc Go.RowKit
set_option maxRecDepth 100000
theorem g153_eq (x : Int) : g153 x = g120 x := by
  unfold g153 g120
  rw [g112_eq]
  first | rfl | (unfold g153_m1; cases decide (x ≥ 1) <;> rfl)
theorem g87_eq (x0 x1 x2 : Int) (s3 : Sl T175) (x4 : Int) (s5 : Sl T137) (h1 : s3.n ≤ 549755813888) (w1 : ∀ i, i < s3.n → W175 (s3.at' i)) (h3 : s5.n ≤ 549755813888) (w3 : ∀ i, i < s5.n → W137 (s5.at' i)) : g87 x0 x1 x2 s3 x4 s5 = g89 x0 x1 x2 s3 x4 s5 := by
  unfold g87 g89 g87_m1 g89_m1
  rw [g153_eq, g153_eq, g84_eq x2 s3 x4 s5 h1 w1 h3 w3]
end Go.Proofs.YtchhfojblmceiaaGreat
namespace Go.Proofs.YtchhfojblmceiaaGreat
open Go Go.Vc Go.RowKit
set_option maxRecDepth 100000
set_option maxHeartbeats 4000000
theorem g175_eq (x0 x1 x2 : Int) (x3 : Sl T175) (x4 : Int) (x5 : Sl T137) : g175 x0 x1 x2 x3 x4 x5 = g176 x0 x1 x2 x3 x4 x5 := by
  unfold g175 g176 g175_m1 g176_m1
  cases x0 == 0 <;> cases x1 == 0 <;> cases x4 == 0 <;> cases (x5.n : Int) == 0 <;> cases x2 == 0 <;> cases (x3.n : Int) == 0 <;> rfl
theorem g94_eq (x0 x1 x2 x3 x4 x5 : Int) (x6 : Bool) (x7 x8 x9 : Int) (x10 x11 x12 : ByteArray) (x13 x14 x15 x16 : Int) (x17 : Sl T175) (x18 : Int) (x19 : Sl T137) (h1 : x17.n ≤ 549755813888) (w1 : ∀ i, i < x17.n → W175 (x17.at' i)) (h3 : x19.n ≤ 549755813888) (w3 : ∀ i, i < x19.n → W137 (x19.at' i)) :
    g94 x0 x1 x2 x3 x4 x5 x6 x7 x8 x9 x10 x11 x12 x13 x14 x15 x16 x17 x18 x19 = g96 x0 x1 x2 x3 x4 x5 x6 x7 x8 x9 x10 x11 x12 x13 x14 x15 x16 x17 x18 x19 := by
  unfold g94 g96
  have hm : g94_m1 x0 = !(g112 x0 1 3) := by
    rw [in_not]; unfold g94_m1
    cases decide (x0 < 1) <;> rfl
  rw [hm]
  cases hr : g112 x0 1 3 with
  | false => rfl
  | true =>
    have hr : 1 ≤ x0 ∧ x0 ≤ 3 := by simpa [g112_eq] using hr
    have e2 : g94_m2 x0 x1 x2 x3 x4 x5 x6 x7 x8 x9 x10 x11 x12 x13 x14 x15 x16 x17 x18 x19 = g96_m1 x0 x1 x2 x3 x4 x5 x6 x7 x8 x9 x10 x11 x12 x13 x14 x15 x16 x17 x18 x19 := by
      unfold g94_m2 g96_m1
      rw [g175_eq]
    have e3 : g94_m3 x1 x2 = g96_m2 x1 x2 := by
      unfold g94_m3 g96_m2
      rw [g153_eq, in_not]
      have : decide (x2 ≥ 3) = decide (x2 > 2) := by
        rw [Bool.eq_iff_iff]; simp only [decide_eq_true_eq]; omega
      rw [this]
      cases decide (x2 < -1) <;> rfl
    simp only [Bool.not_true, cond_false]
    rw [e2, e3, g153_eq, g51_eq, g87_eq x14 x15 x16 x17 x18 x19 h1 w1 h3 w3]
    cases g96_m1 x0 x1 x2 x3 x4 x5 x6 x7 x8 x9 x10 x11 x12 x13 x14 x15 x16 x17 x18 x19
    · have hx : x0 = 1 ∨ x0 = 2 ∨ x0 = 3 := by omega
      rcases hx with rfl | rfl | rfl <;> rfl
    · rfl
end Go.Proofs.YtchhfojblmceiaaGreat
/-
  What tape.Check says of a record; the bytes of a writer are bytes.
-/
namespace Go.Proofs.YtchhfojblmceiaaGreat
open Go Go.Vc Go.RowKit
set_option maxRecDepth 100000
def RMOK (x0 x16 : Int) (x17 : Sl T175) (x18 : Int) (x19 : Sl T137) : Prop := x0 ≠ 1 → x0 ≠ 2 → MOK x16 x17 x18 x19
theorem rmok {x0 x16 : Int} {x17 : Sl T175} {x18 : Int} {x19 : Sl T137} (h : RMOK x0 x16 x17 x18 x19) (h1 : x0 ≠ 1) (h2 : x0 ≠ 2) : MOK x16 x17 x18 x19 := h h1 h2
theorem t153 {x : Int} (h : (!(g153 x)) = false) : 1 ≤ x ∧ x ≤ 1048576 := by
  unfold g153 g153_m1 at h
  by_cases a : x ≥ 1
  · by_cases b : x ≤ 1048576
    · omega
    · simp [b] at h
  · simp [a] at h
theorem rec_ok {x0 x1 x2 x3 x4 x5 : Int} {x6 : Bool} {x7 x8 x9 : Int} {x10 x11 x12 : ByteArray} {x13 x14 x15 x16 : Int} {x17 : Sl T175} {x18 : Int} {x19 : Sl T137} (h : g94 x0 x1 x2 x3 x4 x5 x6 x7 x8 x9 x10 x11 x12 x13 x14 x15 x16 x17 x18 x19 = 0) :
    (x0 = 1 ∧ (1 ≤ x1 ∧ x1 ≤ 1048576) ∧ -1 ≤ x2 ∧ x2 < 3) ∨ (x0 = 2 ∧ (1 ≤ x3 ∧ x3 ≤ 1048576) ∧ g51 x4 x5 x6 x7 x8 x9 x10 x11 x12 x13 = 0) ∨ (x0 = 3 ∧ (1 ≤ x14 ∧ x14 ≤ 1048576) ∧ (1 ≤ x15 ∧ x15 ≤ 1048576) ∧ g84 x16 x17 x18 x19 = 0) := by
  unfold g94 at h
  obtain ⟨a1, h⟩ := bz h (by decide)
  obtain ⟨_, h⟩ := bz h (by decide)
  unfold g94_m1 at a1
  obtain ⟨b1, b2⟩ := bt a1
  have c1 := df b1; have c2 := df b2
  by_cases e1 : x0 = 1
  · left
    rw [e1] at h
    simp only [beq_self_eq_true, cond_true] at h
    obtain ⟨m, _⟩ := bz h (by decide)
    unfold g94_m3 at m
    obtain ⟨m1, m⟩ := bt m
    obtain ⟨m2, m3⟩ := bt m
    have d2 := df m2; have d3 := df m3
    exact ⟨e1, t153 m1, by omega, by omega⟩
  · rw [beq_eq_false_iff_ne.2 e1] at h
    simp only [cond_false] at h
    by_cases e2 : x0 = 2
    · right; left
      rw [e2] at h
      simp only [beq_self_eq_true, cond_true] at h
      obtain ⟨m1, h⟩ := bz h (by decide)
      exact ⟨e2, t153 m1, h⟩
    · right; right
      rw [beq_eq_false_iff_ne.2 e2] at h
      simp only [cond_false] at h
      unfold g87 at h
      obtain ⟨m1, h⟩ := bz h (by decide)
      unfold g87_m1 at m1
      obtain ⟨m2, m3⟩ := bt m1
      exact ⟨by omega, t153 m2, t153 m3, h⟩
theorem eq94 {x0 x1 x2 x3 x4 x5 : Int} {x6 : Bool} {x7 x8 x9 : Int} {x10 x11 x12 : ByteArray} {x13 x14 x15 x16 : Int} {x17 : Sl T175} {x18 : Int} {x19 : Sl T137} (hE : CE x17) (hC : CC x19) : g94 x0 x1 x2 x3 x4 x5 x6 x7 x8 x9 x10 x11 x12 x13 x14 x15 x16 x17 x18 x19 = g96 x0 x1 x2 x3 x4 x5 x6 x7 x8 x9 x10 x11 x12 x13 x14 x15 x16 x17 x18 x19 :=
  g94_eq _ _ _ _ _ _ _ _ _ _ _ _ _ _ _ _ _ _ _ _ (by have := hE.2.1; omega) hE.2.2 (by have := hC.2.1; omega) hC.2.2
theorem z255 : (0 : Int) ≤ 0 ∧ (0 : Int) ≤ 255 := by decide
theorem u8_nil : U8 (nilSl : Sl Int) := fun _ => z255
theorem u8_dflt : U8 (default : Sl Int) := fun _ => z255
theorem u8_app {a b : Sl Int} (ha : U8 a) (hb : U8 b) : U8 (Sl.app a b) := fun i => by
  show 0 ≤ (bif Nat.blt i a.n then a.at' i else b.at' (i - a.n)) ∧ (bif Nat.blt i a.n then a.at' i else b.at' (i - a.n)) ≤ 255
  cases Nat.blt i a.n
  · exact hb _
  · exact ha _
theorem u8_wrap (x : Int) : 0 ≤ IntKind.u8.wrap x ∧ IntKind.u8.wrap x ≤ 255 := by
  have h : IntKind.u8.wrap x = x % 256 := rfl
  rw [h]; omega
theorem u8_one (x : Int) : U8 (Sl.lit [IntKind.u8.wrap x]) := fun i => by
  cases i with
  | zero => exact u8_wrap x
  | succ i => exact z255
theorem u8_str (s : ByteArray) : U8 (Sl.ofStr s) := fun i => by
  show 0 ≤ ((s.data.toList.getD i 0).toNat : Int) ∧ ((s.data.toList.getD i 0).toNat : Int) ≤ 255
  have := (s.data.toList.getD i 0).toNat_lt
  omega
theorem u8_loop {F : Nat → Int → Sl Int → Sl Int} {c : Int → Bool} {nx : Int → Int} {st : Int → Sl Int → Sl Int} (h0 : ∀ i t, F 0 i t = default) (hF : ∀ k i t, F (k + 1) i t = bif c i then F k (nx i) (st i t) else t) (hs : ∀ i t, U8 t → U8 (st i t)) : ∀ k i t, U8 t → U8 (F k i t)
  | 0, i, t, _ => by rw [h0]; exact u8_dflt
  | k + 1, i, t, h => by
    rw [hF]
    cases c i
    · exact h
    · exact u8_loop h0 hF hs k _ _ (hs i t h)
theorem u155 (x : Int) {s : Sl Int} (h : U8 s) : U8 (g155 x s) := u8_app h (u8_one x)
theorem u154 (x : Int) {s : Sl Int} (h : U8 s) : U8 (g154 x s) := by
  unfold g154 g154_r1
  exact u8_loop (fun _ _ => rfl) (fun _ _ _ => rfl) (fun i t ht => u8_app ht (u8_one _)) _ _ _ h
theorem u156 (x : ByteArray) {s : Sl Int} (h : U8 s) : U8 (g156 x s) := u8_app (u155 _ h) (u8_str x)
theorem u158 (x : Sl ByteArray) {s : Sl Int} (h : U8 s) : U8 (g158 x s) := by
  unfold g158 g158_r1
  exact u8_loop (fun _ _ => rfl) (fun _ _ _ => rfl) (fun i t ht => u156 _ ht) _ _ _ (u155 _ h)
theorem u157 (x0 : Int) (x1 : ByteArray) (x2 : Int) (x3 : Sl T160) (x4 : Sl ByteArray) (x5 : Sl T164) {s : Sl Int} (h : U8 s) : U8 (g157 x0 x1 x2 x3 x4 x5 s) := by
  have h1 : U8 (g157_r1 x0 x1 x2 x3 s) := by
    unfold g157_r1
    exact u8_loop (fun _ _ => rfl) (fun _ _ _ => rfl) (fun i t ht => u156 _ (u156 _ ht)) _ _ _ (u155 _ (u154 _ (u156 _ (u155 _ h))))
  unfold g157 g157_r2
  exact u8_loop (fun _ _ => rfl) (fun _ _ _ => rfl) (fun i t ht => u154 _ (u156 _ ht)) _ _ _ (u155 _ (u158 _ h1))
theorem u90 (x0 : Int) (x1 : Sl T175) (x2 : Int) (x3 : Sl T137) : U8 (g90_0 x0 x1 x2 x3) := by
  have h1 : U8 (g90_r1 x0 x1) := by
    unfold g90_r1
    exact u8_loop (fun _ _ => rfl) (fun _ _ _ => rfl) (fun i t ht => u154 _ (u157 _ _ _ _ _ _ (u156 _ ht))) _ _ _ (u155 _ (u154 _ u8_nil))
  have h2 : U8 (g90_r2 x0 x1 x2 x3) := by
    unfold g90_r2
    exact u8_loop (fun _ _ => rfl) (fun _ _ _ => rfl) (fun i t ht => u158 _ (u154 _ (u156 _ (u155 _ (u154 _ (u154 _ (u154 _ ht))))))) _ _ _ (u155 _ (u154 _ h1))
  unfold g90_0
  cases (g84 x0 x1 x2 x3 != 0)
  · exact h2
  · exact u8_nil
end Go.Proofs.YtchhfojblmceiaaGreat
/-
  What a writer laid, a reader takes back: numbers, texts, lists.
-/
namespace Go.Proofs.YtchhfojblmceiaaGreat
open Go Go.Vc Go.RowKit
set_option maxRecDepth 100000
set_option maxHeartbeats 4000000
structure Rb (s : Sl Int) (b : Bool) (l : List Int) : Prop where
  b : b = false
  u : U8 s
  B : s.B = l
section
variable {s : Sl Int} {b : Bool} {p r : List Int}
theorem Rb.take {k : Int} (h : Rb s b (p ++ r)) (hk : (p.length : Int) = k) : (g205 k s b).B = p ∧ Rb (g205_h0_0 k s b) (g205_h0_1 k s b) r := by
  obtain ⟨rfl, hu, hB⟩ := h
  have hn : s.n = p.length + r.length := by rw [← B_len s, hB, List.length_append]
  have m : g205_m1 k s false = false := decide_eq_false (by omega)
  refine ⟨?_, ?_, u205 hu, ?_⟩
  · unfold g205; rw [m]
    show (Sl.part s 0 k).B = p
    rw [B_part s 0 k (Int.le_refl _) (by omega) (by omega), hB]
    rw [show Int.toNat 0 = 0 from rfl, List.drop_zero, show Int.toNat (k - 0) = p.length by omega, List.take_left]
  · unfold g205_h0_1; rw [m]; rfl
  · unfold g205_h0_0; rw [m]
    show (Sl.part s k ((s.n : Nat) : Int)).B = r
    rw [B_part s k _ (by omega) (by omega) (Int.le_refl _), hB, show Int.toNat k = p.length by omega, List.drop_left, List.take_of_length_le (by omega)]
theorem u8w {x : Int} (h : 0 ≤ x ∧ x ≤ 255) : IntKind.u8.wrap x = x := by
  have e : IntKind.u8.wrap x = x % 256 := rfl
  rw [e]; omega
theorem at_B {α : Type} {t : Sl α} {l : List α} (h : t.B = l) {i : Nat} {x : α} (hi : l[i]? = some x) : t.at' i = x := by
  rw [← h, B_some] at hi
  split at hi
  · exact Option.some.inj hi
  · cases hi
theorem Rb.small {x : Int} (h : Rb s b (sb x ++ r)) (hx : 0 ≤ x ∧ x ≤ 255) : g167 s b = x ∧ Rb (g167_h0_0 s b) (g167_h0_1 s b) r := by
  obtain ⟨h1, h2⟩ := h.take (k := 1) rfl
  refine ⟨?_, h2⟩
  have hn : (g205 1 s b).n = 1 := by rw [← B_len, h1]; rfl
  have e : (g205 1 s b).at' 0 = IntKind.u8.wrap x := at_B h1 rfl
  unfold g167
  rw [hn]
  show IntKind.i64.wrap ((g205 1 s b).at' (Int.toNat 0)) = x
  rw [show Int.toNat 0 = 0 from rfl, e, u8w hx, wrap64 (by omega) (by omega)]
theorem nb_eq (x : Int) (h0 : -4611686018427387904 ≤ x) (h1 : x < 4611686018427387904) : nb x = [pb x 56, pb x 48, pb x 40, pb x 32, pb x 24, pb x 16, pb x 8, pb x 0] := by
  have h := B154 x (nilSl : Sl Int)
  rw [B194_eq x (nilSl : Sl Int) (by omega) (by omega), B_nil, List.nil_append, List.nil_append] at h
  exact h
theorem pb_eq (x : Int) (k : Nat) (h0 : -4611686018427387904 ≤ x) (h1 : x < 4611686018427387904) : pb x k = ((x + 4611686018427387904) / 2 ^ k) % 256 := by
  unfold pb
  rw [wrap64 (by omega) (by omega)]
  have e : IntKind.u64.wrap (x + 4611686018427387904) = x + 4611686018427387904 := wrapu64 (by omega) (by omega)
  rw [e]; rfl
theorem digits (z : Int) (h0 : 0 ≤ z) (h1 : z < 9223372036854775808) : ((((((((z / 2 ^ 56) % 256) * 256 + (z / 2 ^ 48) % 256) * 256 + (z / 2 ^ 40) % 256) * 256 + (z / 2 ^ 32) % 256) * 256 + (z / 2 ^ 24) % 256) * 256 + (z / 2 ^ 16) % 256) * 256 + (z / 2 ^ 8) % 256) * 256 + (z / 2 ^ 0) % 256 = z := by
  have e : ∀ k : Nat, z / 2 ^ (k + 8) = z / 2 ^ k / 256 := fun k => by
    rw [Int.ediv_ediv_of_nonneg (by exact Int.pow_nonneg (by decide)), Int.pow_add]; rfl
  have e0 := e 0
  have e8 := e 8
  have e16 := e 16
  have e24 := e 24
  have e32 := e 32
  have e40 := e 40
  have e48 := e 48
  have z0 : z / 2 ^ 0 = z := by simp
  rw [z0] at e0 ⊢
  simp only [Nat.reduceAdd] at e0 e8 e16 e24 e32 e40 e48
  have top : z / 2 ^ 56 < 256 := by
    have : (2 : Int) ^ 56 = 72057594037927936 := rfl
    rw [this]; omega
  have top0 : 0 ≤ z / 2 ^ 56 := Int.ediv_nonneg h0 (Int.pow_nonneg (by decide))
  generalize z / 2 ^ 56 = a7 at *
  generalize z / 2 ^ 48 = a6 at *
  generalize z / 2 ^ 40 = a5 at *
  generalize z / 2 ^ 32 = a4 at *
  generalize z / 2 ^ 24 = a3 at *
  generalize z / 2 ^ 16 = a2 at *
  generalize z / 2 ^ 8 = a1 at *
  omega
theorem Rb.number {x : Int} (h : Rb s b (nb x ++ r)) (h0 : -4611686018427387904 ≤ x) (h1 : x < 4611686018427387904) : g161 s b = x ∧ Rb (g161_h0_0 s b) (g161_h0_1 s b) r := by
  obtain ⟨k1, k2⟩ := h.take (k := 8) (by rw [nb_len]; rfl)
  refine ⟨?_, k2⟩
  have hn : (g205 8 s b).n = 8 := by rw [← B_len, k1, nb_len]
  have hl := l161 (g205 8 s b) s b 0 (v205 h.u) hn (fun i => by rw [Nat.zero_add]) 8 0 rfl
  have hN : Nb (g205 8 s b) 0 8 = x + 4611686018427387904 := by
    rw [nb_eq x h0 h1] at k1
    simp only [Nb, Nat.zero_add]
    rw [at_B k1 (i := 0) rfl, at_B k1 (i := 1) rfl, at_B k1 (i := 2) rfl, at_B k1 (i := 3) rfl, at_B k1 (i := 4) rfl, at_B k1 (i := 5) rfl, at_B k1 (i := 6) rfl, at_B k1 (i := 7) rfl]
    simp only [pb_eq x _ h0 h1]
    have := digits (x + 4611686018427387904) (by omega) (by omega)
    rw [Int.zero_mul, Int.zero_add]
    exact this
  unfold g161 g161_r1
  rw [hn]
  have e : g161_l1 s b (Int.toNat (((8 : Nat) : Int) - 0) + 1) 0 0 = x + 4611686018427387904 := by rw [← hN]; exact hl
  rw [e]
  have e2 : x + 4611686018427387904 - 4611686018427387904 = x := by omega
  rw [e2]
  have e3 : IntKind.u64.wrap x = x % 18446744073709551616 := rfl
  have e4 : ∀ y : Int, IntKind.i64.wrap y = (if y % 18446744073709551616 ≥ 9223372036854775808 then y % 18446744073709551616 - 18446744073709551616 else y % 18446744073709551616) := fun y => by
    unfold IntKind.wrap
    have p64 : (2 : Int) ^ 64 = 18446744073709551616 := rfl
    have p63 : (2 : Int) ^ (64 - 1) = 9223372036854775808 := rfl
    simp only [IntKind.signed, IntKind.bits, Bool.true_and, decide_eq_true_eq, p64, p63]
  rw [e3, e4]
  split <;> omega
theorem strB_of (t : ByteArray) : strB (Sl.ofStr t).B = t := by
  have e : (Sl.ofStr t).B = t.data.toList.map fun c => (c.toNat : Int) := by
    apply List.ext_getElem?
    intro i
    rw [B_some, List.getElem?_map]
    by_cases h : i < t.size
    · have h' : i < t.data.toList.length := by simpa using h
      rw [if_pos (show i < (Sl.ofStr t).n from h), List.getElem?_eq_getElem h']
      show some ((t.data.toList.getD i 0).toNat : Int) = _
      rw [List.getD_eq_getElem?_getD, List.getElem?_eq_getElem h']; rfl
    · have h' : t.data.toList.length ≤ i := by
        have : t.data.toList.length = t.size := rfl
        omega
      rw [if_neg (show ¬ i < (Sl.ofStr t).n from h), List.getElem?_eq_none h']; rfl
  rw [e]
  unfold strB
  rw [List.map_map]
  have : ((fun z : Int => UInt8.ofNat z.toNat) ∘ fun c : UInt8 => (c.toNat : Int)) = id := by
    funext c; simp
  rw [this, List.map_id]
theorem tb_eq (t : ByteArray) (h : t.size ≤ 10000000000) : tb t = sb (t.size : Int) ++ (Sl.ofStr t).B := by
  have h1 := w_tb (x := t) (nilSl : Sl Int) h
  rw [B_nil, List.nil_append] at h1
  rw [← h1]
  unfold g156
  rw [B_app, w_sb, B_nil, List.nil_append]
theorem Rb.text {t : ByteArray} (h : Rb s b (tb t ++ r)) (ht : t.size ≤ 255) : g164 s b = t ∧ Rb (g164_h0_0 s b) (g164_h0_1 s b) r := by
  rw [tb_eq t (by omega), List.append_assoc] at h
  obtain ⟨e1, k1⟩ := h.small (by omega)
  obtain ⟨e2, k2⟩ := k1.take (k := (t.size : Int)) (by rw [B_len]; rfl)
  unfold g164 g164_h0_0 g164_h0_1
  rw [e1]
  exact ⟨by rw [toStr_B, e2, strB_of], k2⟩
end
theorem rb_each {α : Type} [Inhabited α] (P : Nat → Int → Sl Int → Bool → Sl α → Sl Int × Bool × Sl α) (nr : Sl Int → Bool → Sl Int) (ns : Sl Int → Bool → Bool) (el : Sl Int → Bool → α)
    (hP : ∀ k v s b acc, P (k + 1) v s b acc = bif (bif decide (v > 0) then !b else false) then P k (IntKind.i64.wrap (v - 1)) (nr s b) (ns s b) (Sl.app acc (Sl.lit [el s b])) else (s, b, acc))
    (f : Nat → List Int) (o : Nat → α) (n : Nat) (hn : n ≤ 1000)
    (hs : ∀ i s b r, i < n → Rb s b (f i ++ r) → el s b = o i ∧ Rb (nr s b) (ns s b) r) :
    ∀ (m fu i : Nat) (s : Sl Int) (b : Bool) (acc : Sl α) (r : List Int), i + m = n → m ≤ fu → Canon acc → Rb s b (cat f m i ++ r) →
      Rb (P (fu + 1) (m : Int) s b acc).1 (P (fu + 1) (m : Int) s b acc).2.1 r ∧ (P (fu + 1) (m : Int) s b acc).2.2.B = acc.B ++ (List.range' i m).map o ∧ Canon (P (fu + 1) (m : Int) s b acc).2.2
  | 0, fu, i, s, b, acc, r, hi, hf, hc, h => by
    rw [hP, decide_eq_false (show ¬ ((0 : Nat) : Int) > 0 by omega)]
    exact ⟨h, by simp, hc⟩
  | m + 1, fu, i, s, b, acc, r, hi, hf, hc, h => by
    obtain ⟨fu, rfl⟩ : ∃ q, fu = q + 1 := ⟨fu - 1, by omega⟩
    have hb := h.b
    subst hb
    simp only [cat, List.append_assoc] at h
    obtain ⟨h1, h2⟩ := hs i s false _ (by omega) h
    rw [hP, decide_eq_true (show ((m + 1 : Nat) : Int) > 0 by omega)]
    simp only [cond_true, Bool.not_false]
    rw [show IntKind.i64.wrap (((m + 1 : Nat) : Int) - 1) = (m : Int) by rw [wrap64 (by omega) (by omega)]; omega]
    obtain ⟨h3, h4, h5⟩ := rb_each P nr ns el hP f o n hn hs m fu (i + 1) _ _ (Sl.app acc (Sl.lit [el s false])) r (by omega) (by omega) (Canon.app (Canon.lit _)) h2
    refine ⟨h3, ?_, h5⟩
    rw [h4, B_app, B_lit, List.append_assoc, List.range'_succ]
    simp [h1]
theorem rb_all {α : Type} [Inhabited α] (P : Nat → Int → Sl Int → Bool → Sl α → Sl Int × Bool × Sl α) (nr : Sl Int → Bool → Sl Int) (ns : Sl Int → Bool → Bool) (el : Sl Int → Bool → α)
    (hP : ∀ k v s b acc, P (k + 1) v s b acc = bif (bif decide (v > 0) then !b else false) then P k (IntKind.i64.wrap (v - 1)) (nr s b) (ns s b) (Sl.app acc (Sl.lit [el s b])) else (s, b, acc))
    (f : Nat → List Int) (o : Sl α) (hn : o.n ≤ 255) (ho : Canon o)
    (hs : ∀ i s b r, i < o.n → Rb s b (f i ++ r) → el s b = o.at' i ∧ Rb (nr s b) (ns s b) r) {s : Sl Int} {b : Bool} {r : List Int} (h : Rb s b (sb (o.n : Int) ++ (cat f o.n 0 ++ r))) :
      P (Int.toNat (g167 s b) + 1) (g167 s b) (g167_h0_0 s b) (g167_h0_1 s b) nilSl = ((P (Int.toNat (g167 s b) + 1) (g167 s b) (g167_h0_0 s b) (g167_h0_1 s b) nilSl).1, (P (Int.toNat (g167 s b) + 1) (g167 s b) (g167_h0_0 s b) (g167_h0_1 s b) nilSl).2.1, o) ∧ Rb (P (Int.toNat (g167 s b) + 1) (g167 s b) (g167_h0_0 s b) (g167_h0_1 s b) nilSl).1 (P (Int.toNat (g167 s b) + 1) (g167 s b) (g167_h0_0 s b) (g167_h0_1 s b) nilSl).2.1 r := by
  obtain ⟨e1, k1⟩ := h.small (by omega)
  rw [e1, Int.toNat_natCast]
  obtain ⟨h1, h2, h3⟩ := rb_each P nr ns el hP f (fun i => o.at' i) o.n (by omega) hs o.n o.n 0 _ _ (nilSl : Sl α) r (by omega) (Nat.le_refl _) Canon.nil k1
  refine ⟨?_, h1⟩
  have e : (P (o.n + 1) (o.n : Int) (g167_h0_0 s b) (g167_h0_1 s b) nilSl).2.2 = o := by
    refine Go.Vc.B_ext h3 ho ?_
    rw [h2, B_nil, List.nil_append, ← List.range_eq_range']
    simp [Sl.B]
  exact Prod.ext rfl (Prod.ext rfl e)
section
variable {s : Sl Int} {b : Bool} {r : List Int}
theorem rb_texts {o : Sl ByteArray} (ho : Canon o) (hk : TOK o) (h : Rb s b (tsb o ++ r)) : g168 s b = o ∧ Rb (g168_h0_0 s b) (g168_h0_1 s b) r := by
  unfold tsb at h
  rw [List.append_assoc] at h
  obtain ⟨h1, h2⟩ := rb_all g162_208pp_l1 g208pp_h2_0 g208pp_h2_1 (fun s b => g164 s b) (fun _ _ _ _ _ => rfl) (fun i => tb (o.at' i)) o (by have := hk.1; omega) ho (fun i s b r hi h => h.text (by have := hk.2 i hi; omega)) h
  exact ⟨congrArg (fun q => q.2.2) h1, h2⟩
theorem rb_pairs {o : Sl T160} (ho : Canon o) (hn : o.n ≤ 20) (hk : ∀ i, i < o.n → (o.at' i).c0.size ≤ 20 ∧ (o.at' i).c1.size ≤ 20) (h : Rb s b (sb (o.n : Int) ++ (cat (pf o) o.n 0 ++ r))) : g162_206pp_h3_0 s b nilSl = o ∧ Rb (g162_206pp_h2_0 s b nilSl) (g162_206pp_h2_1 s b nilSl) r := by
  obtain ⟨h1, h2⟩ := rb_all g162_206pp_l1 g206pp_h2_0 g206pp_h2_1 (fun s b => (⟨g164 s b, g164 (g164_h0_0 s b) (g164_h0_1 s b)⟩ : T160)) (fun _ _ _ _ _ => rfl) (pf o) o (by omega) ho (fun i s b r hi h => by
    unfold pf at h
    rw [List.append_assoc] at h
    obtain ⟨a1, a2⟩ := h.text (by have := (hk i hi).1; omega)
    obtain ⟨b1, b2⟩ := a2.text (by have := (hk i hi).2; omega)
    exact ⟨by rw [a1, b1], b2⟩) h
  exact ⟨congrArg (fun q => q.2.2) h1, h2⟩
theorem rb_scores {o : Sl T164} (ho : Canon o) (hn : o.n ≤ 20) (hk : ∀ i, i < o.n → (o.at' i).c0.size ≤ 20 ∧ -1099511627776 ≤ (o.at' i).c1 ∧ (o.at' i).c1 ≤ 1099511627776) (h : Rb s b (sb (o.n : Int) ++ (cat (sf o) o.n 0 ++ r))) : g162_207pp_h4_0 s b nilSl = o ∧ Rb (g162_207pp_h2_0 s b nilSl) (g162_207pp_h2_1 s b nilSl) r := by
  obtain ⟨h1, h2⟩ := rb_all g162_207pp_l1 g207pp_h2_0 g207pp_h2_1 (fun s b => (⟨g164 s b, g161 (g164_h0_0 s b) (g164_h0_1 s b)⟩ : T164)) (fun _ _ _ _ _ => rfl) (sf o) o (by omega) ho (fun i s b r hi h => by
    unfold sf at h
    rw [List.append_assoc] at h
    have := hk i hi
    obtain ⟨a1, a2⟩ := h.text (by omega)
    obtain ⟨b1, b2⟩ := a2.number (by omega) (by omega)
    exact ⟨by rw [a1, b1], b2⟩) h
  exact ⟨congrArg (fun q => q.2.2) h1, h2⟩
theorem rb_value {x0 : Int} {x1 : ByteArray} {x2 : Int} {x3 : Sl T160} {x4 : Sl ByteArray} {x5 : Sl T164} (h0 : 0 ≤ x0 ∧ x0 ≤ 255) (hv : VOK x1 x2 x3 x4 x5) (c3 : Canon x3) (c4 : Canon x4) (c5 : Canon x5) (h : Rb s b (vb x0 x1 x2 x3 x4 x5 ++ r)) :
    (g165_0 s b = x0 ∧ g165_1 s b = x1 ∧ g165_2 s b = x2 ∧ g165_3 s b = x3 ∧ g165_4 s b = x4 ∧ g165_5 s b = x5) ∧ Rb (g165_h0_0 s b) (g165_h0_1 s b) r := by
  unfold vb at h
  simp only [List.append_assoc] at h
  obtain ⟨a1, a2⟩ := h.small h0
  obtain ⟨b1, b2⟩ := a2.text (by have := hv.1.1; omega)
  obtain ⟨d1, d2⟩ := b2.number (by have := hv.1; omega) (by have := hv.1; omega)
  obtain ⟨e1, e2⟩ := rb_pairs c3 hv.2.1.1 hv.2.2.1 d2
  obtain ⟨f1, f2⟩ := rb_texts c4 (vok_t hv) e2
  have f3 := f2
  rw [show ∀ l : List Int, l ++ r = l ++ r from fun _ => rfl] at f3
  obtain ⟨k1, k2⟩ := rb_scores c5 hv.2.1.2.2 hv.2.2.2.2 f2
  exact ⟨⟨a1, b1, d1, e1, f1, k1⟩, k2⟩
end
end Go.Proofs.YtchhfojblmceiaaGreat
/-
  What Encode laid, Decode takes back.
-/
namespace Go.Proofs.YtchhfojblmceiaaGreat
open Go Go.Vc Go.RowKit
set_option maxRecDepth 100000
set_option maxHeartbeats 4000000
section
variable {s : Sl Int} {b : Bool} {r : List Int}
theorem rb_entries {o : Sl T175} (ho : CE o) (hn : o.n ≤ 12) (hk : ∀ i, i < o.n → EOK (o.at' i)) (hv : ∀ i, i < o.n → 0 ≤ (o.at' i).c1 ∧ (o.at' i).c1 ≤ 255) (h : Rb s b (sb (o.n : Int) ++ (cat (ef o) o.n 0 ++ r))) : g162_163pp_h3_0 s b nilSl = o ∧ Rb (g162_163pp_h2_0 s b nilSl) (g162_163pp_h2_1 s b nilSl) r := by
  obtain ⟨h1, h2⟩ := rb_all g162_163pp_l1 g163pp_h2_0 g163pp_h2_1 (fun s b => (⟨(g164 s b), (g165_0 (g164_h0_0 s b) (g164_h0_1 s b)), (g165_1 (g164_h0_0 s b) (g164_h0_1 s b)), (g165_2 (g164_h0_0 s b) (g164_h0_1 s b)), (g165_3 (g164_h0_0 s b) (g164_h0_1 s b)), (g165_4 (g164_h0_0 s b) (g164_h0_1 s b)), (g165_5 (g164_h0_0 s b) (g164_h0_1 s b)), (g161 (g165_h0_0 (g164_h0_0 s b) (g164_h0_1 s b)) (g165_h0_1 (g164_h0_0 s b) (g164_h0_1 s b)))⟩ : T175)) (fun _ _ _ _ _ => rfl) (ef o) o (by omega) ho.1 (fun i s b r hi h => by
    unfold ef at h
    simp only [List.append_assoc] at h
    have hz := hk i hi
    obtain ⟨⟨c4, _⟩, ⟨c5, _⟩, c6, _⟩ := ho.2.2 i hi
    obtain ⟨a1, a2⟩ := h.text (by have := hz.1; omega)
    obtain ⟨⟨v0, v1, v2, v3, v4, v5⟩, v6⟩ := rb_value (hv i hi) hz.2.1 c4 c5 c6 a2
    obtain ⟨u1, u2⟩ := v6.number (by have := hz.2.2; omega) (by have := hz.2.2; omega)
    exact ⟨by rw [a1, v0, v1, v2, v3, v4, v5, u1], u2⟩) h
  exact ⟨congrArg (fun q => q.2.2) h1, h2⟩
theorem rb_client {x : T137} (hk : KOK x) (hc : Canon x.c6) {r : List Int} {s : Sl Int} {b : Bool} (h : Rb s b (nb x.c0 ++ (nb x.c1 ++ (nb x.c2 ++ (sb x.c3 ++ (tb x.c4 ++ (nb x.c5 ++ (tsb x.c6 ++ r)))))))) : g166pp_h4_0 s b (nilSl : Sl T137) = Sl.app nilSl (Sl.lit [x]) ∧ Rb (g166pp_h2_0 s b) (g166pp_h2_1 s b) r := by
  have k0 := hk.1
  have k1 := hk.2.1
  obtain ⟨a1, a2⟩ := h.number (by omega) (by omega)
  obtain ⟨b1, b2⟩ := a2.number (by omega) (by omega)
  obtain ⟨c1, c2⟩ := b2.number (by omega) (by omega)
  obtain ⟨d1, d2⟩ := c2.small (by omega)
  obtain ⟨e1, e2⟩ := d2.text (by omega)
  obtain ⟨f1, f2⟩ := e2.number (by omega) (by omega)
  obtain ⟨q1, q2⟩ := rb_texts hc hk.2.2 f2
  unfold g166pp_h4_0
  rw [a1, b1, c1, d1, e1, f1, q1]
  exact ⟨rfl, q2⟩
theorem rb_clients {o : Sl T137} (ho : CC o) (hn : o.n ≤ 4) (hk : ∀ i, i < o.n → KOK (o.at' i)) (h : Rb s b (sb (o.n : Int) ++ (cat (kf o) o.n 0 ++ r))) : g162_166pp_h4_0 s b nilSl = o ∧ Rb (g162_166pp_h2_0 s b nilSl) (g162_166pp_h2_1 s b nilSl) r := by
  obtain ⟨h1, h2⟩ := rb_all g162_166pp_l1 g166pp_h2_0 g166pp_h2_1 (fun s b => (g166pp_h4_0 s b (nilSl : Sl T137)).at' 0) (fun _ _ _ _ _ => rfl) (kf o) o (by omega) ho.1 (fun i s b r hi h => by
    unfold kf at h
    simp only [List.append_assoc] at h
    obtain ⟨a1, a2⟩ := rb_client (hk i hi) (ho.2.2 i hi).1 h
    exact ⟨by rw [a1]; rfl, a2⟩) h
  exact ⟨congrArg (fun q => q.2.2) h1, h2⟩
end
theorem ok72 {x0 : Int} {s : Sl T175} (hc : CE s) (h : g78 x0 s = 0) : ∀ i, i < s.n → g72 (s.at' i).c1 (s.at' i).c2 (s.at' i).c3 (s.at' i).c4 (s.at' i).c5 (s.at' i).c6 = 0 := by
  have hn := hc.2.1
  unfold g78 at h
  obtain ⟨_, h⟩ := bz h (by decide)
  have hl : g78_r10 x0 s = scan (fun i => g78_m7 s i || g78_m9 x0 s i) (fun _ => 13) s.n 0 := scan0 (g78_l5 x0 s) s.n _ _ (by omega) fun k i => by
    show (bif decide (i < (s.n : Int)) then (bif (g78_m7 s i) then (true, 13) else (bif (g78_m9 x0 s i) then (true, 13) else g78_l5 x0 s k (IntKind.i64.wrap (i + 1)))) else (false, default)) = _
    rw [bif_or]
  unfold g78_p11 at h
  rw [fall hl] at h
  obtain ⟨hh, _⟩ := bz h (by decide)
  intro i hi
  have q := hit_nat hh i hi
  simp only [Bool.or_eq_false_iff] at q
  have q1 := q.1
  unfold g78_m7 at q1
  simp only [Int.toNat_natCast] at q1
  obtain ⟨_, q1⟩ := bt q1
  obtain ⟨_, q1⟩ := bt q1
  obtain ⟨d3, _⟩ := bt q1
  exact bne_eq_false_iff_eq.1 d3
theorem vb_len2 {x0 : Int} {x1 : ByteArray} {x2 : Int} {x3 : Sl T160} {x4 : Sl ByteArray} {x5 : Sl T164} (h : VOK x1 x2 x3 x4 x5) (hs : VSep x0 x1 x2 x3 x4 x5) : (vb x0 x1 x2 x3 x4 x5).length ≤ 900 := by
  have a := tb_le h.1.1
  have b0 := cat_len (f := fun i => tb (x4.at' i)) (D := 21) x4.n 0 fun j _ hj => tb_le (h.2.2.2.1 j (by omega))
  have c := cat_len (f := pf x3) (D := 42) x3.n 0 fun j _ hj => pf_len (h.2.2.1 j (by omega))
  have d := cat_len (f := sf x5) (D := 29) x5.n 0 fun j _ hj => sf_len (h.2.2.2.2 j (by omega)).1
  have e := h.2.1
  have a3 := hs.a3
  have a4 := hs.a4
  have a5 := hs.a5
  unfold vb tsb
  simp only [List.length_append, sb_len, nb_len]
  by_cases k3 : x0 = 3
  · have := a4 (by omega) (by omega)
    have := a5 (by omega)
    omega
  · have := a3 k3
    by_cases k6 : x0 = 6
    · have := a4 (by omega) (by omega)
      omega
    · have := a5 k6
      omega
theorem round_trip {x0 : Int} {x1 : Sl T175} {x2 : Int} {x3 : Sl T137} (hE : CE x1) (hC : CC x3) (h84 : g84 x0 x1 x2 x3 = 0) :
    g92_0_0 (g90_0 x0 x1 x2 x3) = x0 ∧ g92_0_1 (g90_0 x0 x1 x2 x3) = x1 ∧ g92_0_2 (g90_0 x0 x1 x2 x3) = x2 ∧ g92_0_3 (g90_0 x0 x1 x2 x3) = x3 := by
  have hM := chk84 _ _ _ _ hE hC h84
  have h78 : g78 x0 x1 = 0 := by
    have h := h84
    unfold g84 at h
    obtain ⟨h, _⟩ := bz h (by decide)
    unfold g84_m1 at h
    obtain ⟨h, _⟩ := bt h
    exact bne_eq_false_iff_eq.1 h
  have h72 := ok72 hE h78
  have sep : ∀ i, i < x1.n → VSep (x1.at' i).c1 (x1.at' i).c2 (x1.at' i).c3 (x1.at' i).c4 (x1.at' i).c5 (x1.at' i).c6 := fun i hi => by
    obtain ⟨⟨_, w1⟩, ⟨_, w2⟩, _, w3⟩ := hE.2.2 i hi
    exact sep72 _ _ _ _ _ _ w1 w2 w3 (h72 i hi)
  have m0 := hM.1
  have eb : (g90_0 x0 x1 x2 x3).B = mb x0 x1 x2 x3 := by
    unfold g90_0
    rw [h84]
    exact B90 hM
  have len : (mb x0 x1 x2 x3).length ≤ 20000 := by
    have c := cat_len (f := ef x1) (D := 929) x1.n 0 fun j _ hj => by
      have hz := hM.2.1 j (by omega)
      have a := tb_le hz.1
      have v := vb_len2 hz.2.1 (sep j (by omega))
      unfold ef
      simp only [List.length_append, nb_len]
      omega
    have d := cat_len (f := kf x3) (D := 500) x3.n 0 fun j _ hj => kf_len (hM.2.2 j (by omega))
    unfold mb
    simp only [List.length_append, nb_len, sb_len]
    omega
  obtain ⟨y, hy⟩ : ∃ y, y = g90_0 x0 x1 x2 x3 := ⟨_, rfl⟩
  rw [← hy]
  rw [← hy] at eb
  have hn : decide ((y.n : Int) > 20000) = false := by
    rw [← B_len y, eb]
    exact decide_eq_false (by omega)
  have st : Rb y false (nb x0 ++ (sb (x1.n : Int) ++ (cat (ef x1) x1.n 0 ++ (nb x2 ++ (sb (x3.n : Int) ++ (cat (kf x3) x3.n 0 ++ [])))))) := ⟨rfl, by rw [hy]; exact u90 _ _ _ _, by rw [eb, List.append_nil]; rfl⟩
  obtain ⟨a1, a2⟩ := st.number (by omega) (by omega)
  obtain ⟨b1, b2⟩ := rb_entries hE (by omega) hM.2.1 (fun i hi => by have := (sep i hi).k; omega) a2
  obtain ⟨c1, c2⟩ := b2.number (by omega) (by omega)
  obtain ⟨d1, d2⟩ := rb_clients hC (by omega) hM.2.2 c2
  have e1 := d2.b
  have e2 : (g162_166pp_h2_0 (g161_h0_0 (g162_163pp_h2_0 (g161_h0_0 y false) (g161_h0_1 y false) nilSl) (g162_163pp_h2_1 (g161_h0_0 y false) (g161_h0_1 y false) nilSl)) (g161_h0_1 (g162_163pp_h2_0 (g161_h0_0 y false) (g161_h0_1 y false) nilSl) (g162_163pp_h2_1 (g161_h0_0 y false) (g161_h0_1 y false) nilSl)) nilSl).n = 0 := by rw [← B_len, d2.B]; rfl
  have f : ∀ (u : Sl Int), u.n = 0 → g149 true u false = 0 := fun u hu => by
    unfold g149 g149_m1
    rw [hu]; rfl
  unfold g92_0_0 g92_0_1 g92_0_2 g92_0_3
  rw [hn, e1, f _ e2, a1, b1, c1, d1, h84]
  exact ⟨rfl, rfl, rfl, rfl⟩
end Go.Proofs.YtchhfojblmceiaaGreat
/-
  Walks: what functions of the program answer, as functions.
-/
namespace Go.Proofs.YtchhfojblmceiaaGreat
open Go Go.Vc Go.RowKit
set_option maxRecDepth 100000
set_option maxHeartbeats 4000000
noncomputable def g53_m1 (x0 : Int) (x1 : Int) (x2 : Sl T68) : Bool := (bif (decide (x0 < 0)) then true else (bif (decide (x1 < 0)) then true else (bif (decide (x1 > 1048576)) then true else (bif (!((x0 == 0) == (x1 == 0))) then true else (bif (decide ((x2.n : Int) > 200)) then true else (decide (x0 > (IntKind.i64.wrap (1048576 - (x2.n : Int))))))))))
noncomputable def g53_m5 (x2 : Sl T68) (v8_0 : Int) (v8_1 : Int) (v8_2 : Int) : Bool := (bif ((g51 (x2.at' (Int.toNat v8_2)).c0 (x2.at' (Int.toNat v8_2)).c1 (x2.at' (Int.toNat v8_2)).c2 (x2.at' (Int.toNat v8_2)).c3 (x2.at' (Int.toNat v8_2)).c4 (x2.at' (Int.toNat v8_2)).c5 (x2.at' (Int.toNat v8_2)).c6 (x2.at' (Int.toNat v8_2)).c7 (x2.at' (Int.toNat v8_2)).c8 (x2.at' (Int.toNat v8_2)).c9) != 0) then true else (bif (decide ((x2.at' (Int.toNat v8_2)).c0 < v8_0)) then true else (decide ((x2.at' (Int.toNat v8_2)).c1 < v8_1))))
noncomputable def g53_l8 (x2 : Sl T68) : Nat → Int → Int → Int → Bool × Int
  | 0, _, _, _ => default
  | k + 1, v8_0, v8_1, v8_2 => (bif (decide (v8_2 < (x2.n : Int))) then (bif (g53_m5 x2 v8_0 v8_1 v8_2) then (true, 13) else (g53_l8 x2 k (x2.at' (Int.toNat v8_2)).c0 (x2.at' (Int.toNat v8_2)).c1 (IntKind.i64.wrap (v8_2 + 1)))) else (false, default))
noncomputable def g53_r6 (x1 : Int) (x2 : Sl T68) : Bool × Int := g53_l8 x2 ((Int.toNat ((x2.n : Int) - 0)) + 1) x1 0 0
noncomputable def g53_p7 (x1 : Int) (x2 : Sl T68) : Bool := (bif (g53_r6 x1 x2).1 then false else true)
noncomputable def g53 (x0 : Int) (x1 : Int) (x2 : Sl T68) : Int := (bif (g53_m1 x0 x1 x2) then 13 else (bif (g53_p7 x1 x2) then 0 else (g53_r6 x1 x2).2))
noncomputable def F53 : Fq := ⟨[.g [kI, kI, .sl E68]], fun x0 x1 x2 => ⟨⟨none, .int .i64 (g53 x0 x1 x2)⟩⟩⟩
theorem pc53 : FnOk Tryz.prog 70 F53.sh _ (F53.sh.flatMap Sh.bs) F53.f [] :=
  fun (x0 : Int) (x1 : Int) x2 n2 _ => pure_of_exec (X := (mkX [(67, F51.ans)])) (R := ⟨.pure, [.tmp 2], [(.t 0, kI)], ⟨[U], []⟩⟩) (h := (.s .z (.s (.j ⟨8796093022214, [], [(.t 43, kB)], [], .f⟩ .z .z) (.s .z (.j ⟨4, [], [], [], .f⟩ (.s .z (.lp ⟨985162418487324, [.b 0], [], [(.t 3, kI), (.t 4, kI), (.t 49, kI)], some 0, true, 4, [], [], fun k (s : Int × Int × Int) => g53_l8 x2 k s.1 s.2.1 s.2.2, .f, fun (s : Int × Int × Int) => (0 ≤ s.2.2 ∧ s.2.2 ≤ (x2.n : Int)), fun (s : Int × Int × Int) => (Int.toNat ((x2.n : Int) - s.2.2)), none⟩ (.s .z (.s .z (.s (.s .z (.s (.j ⟨154635456067904995420, [], [(.t 56, kB), (.t 61, kB), (.t 62, kB), (.t 67, kB)], [(.b .f .l), (.b .f .l), .f, .f], .f⟩ .z .z) .z)) .z))))) .z))))) (ms := []) (p := ((g53_m1 x0 x1 x2) = false → (((0 ≤ (0 : Int) ∧ (0 : Int) ≤ (x2.n : Int))) ∧ (∀ (v8_0 : Int) (v8_1 : Int) (v8_2 : Int), (0 ≤ v8_2 ∧ v8_2 ≤ (x2.n : Int)) → (((decide (v8_2 < (x2.n : Int))) = true → (0 ≤ v8_2 ∧ v8_2 < ((x2.n : Nat) : Int))) ∧ ((decide (v8_2 < (x2.n : Int))) = true → ((g53_m5 x2 v8_0 v8_1 v8_2) = false → ((0 ≤ (IntKind.i64.wrap (v8_2 + 1)) ∧ (IntKind.i64.wrap (v8_2 + 1)) ≤ (x2.n : Int)) ∧ (Int.toNat ((x2.n : Int) - (IntKind.i64.wrap (v8_2 + 1)))) < (Int.toNat ((x2.n : Int) - v8_2)))))))))) (mkX_ok ⟨k51, trivial⟩) Tryz.func70 rfl rfl (by kernel_rfl) ((fun h1 => ⟨(by have := h1; simp [g53_m1] at this; omega), (fun v8_0 v8_1 v8_2 hI2 => ⟨(fun h3 => (by have := h1; simp [g53_m1] at this; have := of_decide_eq_true h3; omega)), (fun h4 => (fun h5 => (by have := h1; simp [g53_m1] at this; have := of_decide_eq_true h4; have := h5; simp [g53_m5] at this; first | omega | (have := wrap64 (x := (v8_2 + 1)) (by omega) (by omega); omega))))⟩)⟩))
theorem k53 : XOk Tryz.prog 70 F53.ans := Fq.ok ⟨_, _, Tryz.func70, rfl, by kernel_rfl⟩ pc53
theorem chk53 (x0 x1 : Int) (x2 : Sl T68) (h : g53 x0 x1 x2 = 0) : (0 ≤ x0 ∧ x0 ≤ 1048576) ∧ (0 ≤ x1 ∧ x1 ≤ 1048576) ∧ x2.n ≤ 200 ∧ x0 + x2.n ≤ 1048576 := by
  unfold g53 at h
  cases hm : g53_m1 x0 x1 x2 with
  | true => rw [hm] at h; simp at h
  | false =>
    simp [g53_m1] at hm
    have := wrap64 (x := 1048576 - (x2.n : Int)) (by omega) (by omega)
    omega
noncomputable def g124_0 (x0 : Int) (x2 : Sl T68) : Int := (bif (decide ((x2.n : Int) > 0)) then (IntKind.i64.wrap (x0 + (x2.n : Int))) else x0)
noncomputable def g124_1 (x1 : Int) (x2 : Sl T68) : Int := (bif (decide ((x2.n : Int) > 0)) then (x2.at' (Int.toNat (IntKind.i64.wrap ((x2.n : Int) - 1)))).c0 else x1)
noncomputable def F124 : Fq := ⟨[.g [kI, kI, .sl E68]], fun x0 x1 x2 => ⟨⟨none, .tup [.int .i64 (g124_0 x0 x2), .int .i64 (g124_1 x1 x2)]⟩⟩⟩
theorem pc124 : FnOk Tryz.prog 127 F124.sh _ (F124.sh.flatMap Sh.bs) F124.f [] :=
  fun (x0 : Int) (x1 : Int) x2 n2 _ => pure_of_exec (X := X0) (R := ⟨.pure, [.tmp 2, .tmp 3], [(.t 0, kI), (.t 1, kI)], ⟨[U, U], []⟩⟩) (h := .z) (ms := []) (p := ((decide ((x2.n : Int) > 0)) = true → (0 ≤ (IntKind.i64.wrap ((x2.n : Int) - 1)) ∧ (IntKind.i64.wrap ((x2.n : Int) - 1)) < ((x2.n : Nat) : Int)))) X0_ok Tryz.func127 rfl rfl (by kernel_rfl) ((fun h1 => (by have := of_decide_eq_true h1; first | omega | (have := wrap64 (x := ((x2.n : Int) - 1)) (by omega) (by omega); omega))))
theorem k124 : XOk Tryz.prog 127 F124.ans := Fq.ok ⟨_, _, Tryz.func127, rfl, by kernel_rfl⟩ pc124
noncomputable def g58_0 (x0 : Int) (x1 : Int) (x2 : Sl T68) : Int := (bif ((g53 x0 x1 x2) != 0) then 0 else (g124_0 x0 x2))
noncomputable def g58_1 (x0 : Int) (x1 : Int) (x2 : Sl T68) : Int := (bif ((g53 x0 x1 x2) != 0) then 0 else (g124_1 x1 x2))
noncomputable def g58_2 (x0 : Int) (x1 : Int) (x2 : Sl T68) : Int := (bif ((g53 x0 x1 x2) != 0) then (g53 x0 x1 x2) else 0)
noncomputable def F58 : Fq := ⟨[.g [kI, kI, .sl E68]], fun x0 x1 x2 => ⟨⟨none, .tup [.int .i64 (g58_0 x0 x1 x2), .int .i64 (g58_1 x0 x1 x2), .int .i64 (g58_2 x0 x1 x2)]⟩⟩⟩
theorem pc58 : FnOk Tryz.prog 69 F58.sh _ (F58.sh.flatMap Sh.bs) F58.f [] :=
  fun (x0 : Int) (x1 : Int) x2 _ _ => pure_of_exec (X := (mkX [(70, F53.ans), (127, F124.ans)])) (R := ⟨.pure, [.tmp 2, .tmp 3, .tmp 4], [(.t 0, kI), (.t 1, kI), (.t 2, kI)], ⟨[U, U, U], []⟩⟩) (h := .z) (ms := []) (p := True) (mkX_ok ⟨k53, k124, trivial⟩) Tryz.func69 rfl rfl (by kernel_rfl) (trivial)
theorem k58 : XOk Tryz.prog 69 F58.ans := Fq.ok ⟨_, _, Tryz.func69, rfl, by kernel_rfl⟩ pc58
noncomputable def g125 (x0 : Int) (x2 : Sl T68) : Int := (IntKind.i64.wrap (x0 + (x2.n : Int)))
noncomputable def F125 : Fq := ⟨[.g [kI, kI, .sl E68]], fun x0 _ x2 => ⟨⟨none, .int .i64 (g125 x0 x2)⟩⟩⟩
theorem pc125 : FnOk Tryz.prog 39 F125.sh _ (F125.sh.flatMap Sh.bs) F125.f [] :=
  fun (x0 : Int) (x1 : Int) x2 _ _ => pure_of_exec (X := X0) (R := ⟨.pure, [.tmp 2], [(.t 0, kI)], ⟨[U], []⟩⟩) (h := .z) (ms := []) (p := True) X0_ok Tryz.func39 rfl rfl (by kernel_rfl) (trivial)
theorem k125 : XOk Tryz.prog 39 F125.ans := Fq.ok ⟨_, _, Tryz.func39, rfl, by kernel_rfl⟩ pc125
theorem e125 (x0 : Int) (x2 : Sl T68) (h1 : 0 ≤ x0) (h2 : x0 ≤ 1048576) (h3 : x2.n ≤ 549755813888) : g125 x0 x2 = x0 + (x2.n : Int) := by
  unfold g125; exact wrap64 (by omega) (by omega)
noncomputable def g126 (x0 : Int) (x1 : Int) (x2 : Sl T68) (x3 : Int) : Int := (bif (decide (x3 < x0)) then (-1) else (bif (decide (x3 > (g125 x0 x2))) then (-2) else (bif (x3 == x0) then x1 else (x2.at' (Int.toNat (IntKind.i64.wrap ((IntKind.i64.wrap (x3 - x0)) - 1)))).c0)))
noncomputable def F126 : Fq := ⟨[.g [kI, kI, .sl E68], .v kI], fun (x0 : Int) (x1 : Int) x2 (x3 : Int) => ⟨⟨some (0 ≤ x0 ∧ x0 ≤ 1048576), .int .i64 (g126 x0 x1 x2 x3)⟩⟩⟩
theorem pc126 : FnOk Tryz.prog 93 F126.sh _ (F126.sh.flatMap Sh.bs) F126.f [] :=
  fun (x0 : Int) (x1 : Int) x2 n2 _ (x3 : Int) hp => pure_of_exec (X := (mkX [(39, F125.ans)])) (R := ⟨.pure, [.tmp 4], [(.t 0, kI)], ⟨[U], []⟩⟩) (h := .z) (ms := []) (p := ((decide (x3 < x0)) = false → ((decide (x3 > (g125 x0 x2))) = false → ((x3 == x0) = false → (0 ≤ (IntKind.i64.wrap ((IntKind.i64.wrap (x3 - x0)) - 1)) ∧ (IntKind.i64.wrap ((IntKind.i64.wrap (x3 - x0)) - 1)) < ((x2.n : Nat) : Int)))))) (mkX_ok ⟨k125, trivial⟩) Tryz.func93 rfl rfl (by kernel_rfl) (have ⟨hq0, hq1⟩ := hp; (fun h1 => (fun h2 => (fun h3 => (by have := of_decide_eq_false h1; have := of_decide_eq_false h2; have := ne_of_beq_false h3; have := e125 x0 x2 (by omega) (by omega) (by omega); first | omega | (have := wrap64 (x := (x3 - x0)) (by omega) (by omega); have := wrap64 (x := ((IntKind.i64.wrap (x3 - x0)) - 1)) (by omega) (by omega); omega))))))
theorem k126 : XOk Tryz.prog 93 F126.ans := Fq.ok ⟨_, _, Tryz.func93, rfl, by kernel_rfl⟩ pc126
theorem chk126 (x0 x1 : Int) (x2 : Sl T68) (x3 : Int) : (g126 x0 x1 x2 x3 ≠ -1 ∧ g126 x0 x1 x2 x3 ≠ -2) ∧ (0 ≤ x0 ∧ x0 ≤ 1048576) ∧ x2.n ≤ 549755813888 → (x0 ≤ x3 ∧ x3 ≤ x0 + (x2.n : Int)) ∧ g125 x0 x2 = x0 + (x2.n : Int) := fun ⟨⟨h1, h2⟩, h3, h4⟩ => by
  have e := e125 x0 x2 h3.1 h3.2 h4
  simp only [g126, e] at h1 h2
  refine ⟨?_, e⟩
  by_cases a : x3 < x0
  · simp [a] at h1
  · by_cases b : x3 > x0 + (x2.n : Int)
    · simp [a, b] at h2
    · omega
noncomputable def g127_0 (x0 : Int) (x1 : Int) (x2 : Sl T68) (x3 : Int) : Int := (bif (decide (x3 < x0)) then 0 else (bif (x3 == x0) then x1 else (bif (decide ((IntKind.i64.wrap (x3 - x0)) > (x2.n : Int))) then 0 else (x2.at' (Int.toNat (IntKind.i64.wrap ((IntKind.i64.wrap (x3 - x0)) - 1)))).c0)))
noncomputable def g127_1 (x0 : Int) (x2 : Sl T68) (x3 : Int) : Int := (bif (decide (x3 < x0)) then 11 else (bif (x3 == x0) then 0 else (bif (decide ((IntKind.i64.wrap (x3 - x0)) > (x2.n : Int))) then 5 else 0)))
noncomputable def F127 : Fq := ⟨[.g [kI, kI, .sl E68], .v kI], fun (x0 : Int) (x1 : Int) x2 (x3 : Int) => ⟨⟨some (0 ≤ x0 ∧ x0 ≤ 1048576 ∧ x3 ≤ 9223372036854775807), .tup [.int .i64 (g127_0 x0 x1 x2 x3), .int .i64 (g127_1 x0 x2 x3)]⟩⟩⟩
theorem pc127 : FnOk Tryz.prog 128 F127.sh _ (F127.sh.flatMap Sh.bs) F127.f [] :=
  fun (x0 : Int) (x1 : Int) x2 n2 _ (x3 : Int) hp => pure_of_exec (X := X0) (R := ⟨.pure, [.tmp 4, .tmp 5], [(.t 0, kI), (.t 1, kI)], ⟨[U, U], []⟩⟩) (h := .z) (ms := []) (p := ((decide (x3 < x0)) = false → ((x3 == x0) = false → ((decide ((IntKind.i64.wrap (x3 - x0)) > (x2.n : Int))) = false → (0 ≤ (IntKind.i64.wrap ((IntKind.i64.wrap (x3 - x0)) - 1)) ∧ (IntKind.i64.wrap ((IntKind.i64.wrap (x3 - x0)) - 1)) < ((x2.n : Nat) : Int)))))) X0_ok Tryz.func128 rfl rfl (by kernel_rfl) (have ⟨hq0, hq1, hq2⟩ := hp; (fun h1 => (fun h2 => (fun h3 => (by have := of_decide_eq_false h1; have := ne_of_beq_false h2; have := of_decide_eq_false h3; first | omega | (have := wrap64 (x := (x3 - x0)) (by omega) (by omega); have := wrap64 (x := ((IntKind.i64.wrap (x3 - x0)) - 1)) (by omega) (by omega); omega))))))
theorem k127 : XOk Tryz.prog 128 F127.ans := Fq.ok ⟨_, _, Tryz.func128, rfl, by kernel_rfl⟩ pc127
theorem chk127 (x0 : Int) (x2 : Sl T68) (x3 : Int) : g127_1 x0 x2 x3 = 0 ∧ (0 ≤ x0 ∧ x0 ≤ 1048576) ∧ x2.n ≤ 549755813888 ∧ x3 ≤ 9223372036854775807 → x0 ≤ x3 ∧ x3 ≤ x0 + (x2.n : Int) := fun ⟨h1, h3, h4, h5⟩ => by
  simp only [g127_1] at h1
  by_cases a : x3 < x0
  · simp [a] at h1
  · rw [wrap64 (x := x3 - x0) (by omega) (by omega)] at h1
    by_cases b : x3 = x0
    · omega
    · by_cases c : x3 - x0 > (x2.n : Int)
      · rw [beq_eq_false_iff_ne.2 b] at h1
        simp [a, c] at h1
      · omega
noncomputable def g62_m1 (x3 : Int) : Bool := (bif (decide (x3 < 0)) then true else (decide (x3 > 1048576)))
noncomputable def g62_0 (x0 : Int) (x1 : Int) (x2 : Sl T68) (x3 : Int) : Int := (bif ((g53 x0 x1 x2) != 0) then 0 else (bif (g62_m1 x3) then 0 else (g127_0 x0 x1 x2 x3)))
noncomputable def g62_1 (x0 : Int) (x1 : Int) (x2 : Sl T68) (x3 : Int) : Int := (bif ((g53 x0 x1 x2) != 0) then (g53 x0 x1 x2) else (bif (g62_m1 x3) then 2 else (g127_1 x0 x2 x3)))
noncomputable def F62 : Fq := ⟨[.g [kI, kI, .sl E68], .v kI], fun x0 x1 x2 x3 => ⟨⟨none, .tup [.int .i64 (g62_0 x0 x1 x2 x3), .int .i64 (g62_1 x0 x1 x2 x3)]⟩⟩⟩
theorem pc62 : FnOk Tryz.prog 71 F62.sh _ (F62.sh.flatMap Sh.bs) F62.f [] :=
  fun (x0 : Int) (x1 : Int) x2 n2 _ (x3 : Int) => pure_of_exec (X := (mkX [(70, F53.ans), (128, F127.ans)])) (R := ⟨.pure, [.tmp 4, .tmp 5], [(.t 0, kI), (.t 1, kI)], ⟨[U, U], []⟩⟩) (h := (.s .z (.s .z (.s (.j ⟨131126, [], [(.t 17, kB)], [], .f⟩ .z .z) .z)))) (ms := []) (p := (((g53 x0 x1 x2) != 0) = false → ((g62_m1 x3) = false → (0 ≤ x0 ∧ x0 ≤ 1048576 ∧ x3 ≤ 9223372036854775807)))) (mkX_ok ⟨k53, k127, trivial⟩) Tryz.func71 rfl rfl (by kernel_rfl) ((fun h1 => (fun h2 => (by have := chk53 _ _ _ (bne_eq_false_iff_eq.1 h1); have := h2; simp [g62_m1] at this; omega))))
theorem k62 : XOk Tryz.prog 71 F62.ans := Fq.ok ⟨_, _, Tryz.func71, rfl, by kernel_rfl⟩ pc62
end Go.Proofs.YtchhfojblmceiaaGreat
namespace Go.Proofs.YtchhfojblmceiaaGreat
open Go Go.Vc Go.RowKit
set_option maxRecDepth 100000
theorem chk52 {x0 x1 : Int} {x2 : Bool} {x3 x4 x5 : Int} {x6 x7 x8 : ByteArray} {x9 : Int} (h : (g52 x0 x1 x2 x3 x4 x5 x6 x7 x8 x9 != 0) = false) : 0 ≤ x1 := by
  have h := bne_eq_false_iff_eq.1 h
  unfold g52 at h
  cases hm : g52_m1 x0 x1 with
  | true => rw [hm] at h; simp at h
  | false =>
    simp [g52_m1, g120, g112, g112_m1] at hm
    omega
theorem loops (x1 : Int) (x2 : Sl T68) (hn : x2.n ≤ 549755813888) : ∀ (m k : Nat) (i t u : Int), 0 ≤ i → i + (m : Int) = x2.n → m ≤ k → (i = 0 → t = x1 ∧ u = 0) → (0 < i → t = (x2.at' (Int.toNat (i - 1))).c0 ∧ u = (x2.at' (Int.toNat (i - 1))).c1 ∧ x1 ≤ t) →
    g53_l8 x2 (k + 1) t u i = g55_l7 x1 x2 (k + 1) i
  | 0, k, i, t, u, h0, hi, hk, _, _ => by
    have e : decide (i < (x2.n : Int)) = false := by simp; omega
    simp only [g53_l8, g55_l7, e, cond_false]
  | m + 1, k, i, t, u, h0, hi, hk, hs, hp => by
    obtain ⟨k, rfl⟩ : ∃ k', k = k' + 1 := ⟨k - 1, by omega⟩
    have e : decide (i < (x2.n : Int)) = true := by simp; omega
    have w1 : IntKind.i64.wrap (i + 1) = i + 1 := wrap64 (by omega) (by omega)
    have w2 : IntKind.i64.wrap (i - 1) = i - 1 := wrap64 (by omega) (by omega)
    rw [g53_l8, g55_l7, e]
    simp only [cond_true]
    have hb : g53_m5 x2 t u i = (bif g55_m3 x1 x2 i then true else g55_m5 x2 i) := by
      simp only [g53_m5, g55_m3, g55_m5, g51_eq, w2]
      cases hg : (g52 (x2.at' i.toNat).c0 (x2.at' i.toNat).c1 (x2.at' i.toNat).c2 (x2.at' i.toNat).c3 (x2.at' i.toNat).c4 (x2.at' i.toNat).c5 (x2.at' i.toNat).c6 (x2.at' i.toNat).c7 (x2.at' i.toNat).c8 (x2.at' i.toNat).c9 != 0) with
      | true => rfl
      | false =>
        have h52 := chk52 hg
        simp only [cond_false]
        by_cases hi0 : i = 0
        · obtain ⟨rfl, rfl⟩ := hs hi0
          have hd : decide (i > 0) = false := by simp; omega
          rw [hd]
          have h6 : ¬ (x2.at' i.toNat).c1 < 0 := by omega
          by_cases ha : (x2.at' i.toNat).c0 < t <;> simp [ha, h6]
        · obtain ⟨h1, h2, h3⟩ := hp (by omega)
          have hd : decide (i > 0) = true := by simp; omega
          rw [hd, ← h1, ← h2]
          simp only [cond_true]
          by_cases ha : (x2.at' i.toNat).c0 < t <;> by_cases hc : (x2.at' i.toNat).c0 < x1 <;> simp [ha, hc] <;> omega
    rw [hb]
    cases hm3 : g55_m3 x1 x2 i with
    | true => rfl
    | false =>
      simp only [cond_false]
      cases hm5 : g55_m5 x2 i with
      | true => rfl
      | false =>
        simp only [cond_false]
        rw [w1]
        have h3 : x1 ≤ (x2.at' i.toNat).c0 := by
          simp only [g55_m3] at hm3
          generalize (g52 _ _ _ _ _ _ _ _ _ _ != 0) = b at hm3
          cases b with
          | true => cases hm3
          | false =>
            have := of_decide_eq_false hm3
            omega
        refine loops x1 x2 hn m k (i + 1) _ _ (by omega) (by omega) (by omega) (fun h => by omega) fun _ => ?_
        rw [show i + 1 - 1 = i by omega]
        exact ⟨rfl, rfl, h3⟩
theorem g53_eq (x0 x1 : Int) (x2 : Sl T68) (hn : x2.n ≤ 549755813888) (h0 : -9223372036854775808 ≤ x0 ∧ x0 ≤ 9223372036854775807) : g53 x0 x1 x2 = g55 x0 x1 x2 := by
  have hr : g53_r6 x1 x2 = g55_r6 x1 x2 := loops x1 x2 hn x2.n _ 0 x1 0 (Int.le_refl _) (by omega) (by omega) (fun _ => ⟨rfl, rfl⟩) (fun h => by omega)
  have hm : g53_m1 x0 x1 x2 = g55_m1 x0 x1 x2 := by
    simp only [g53_m1, g55_m1, g112, g112_m1]
    by_cases a : x0 < 0
    · have a' : ¬ 0 ≤ x0 := by omega
      simp [a, a']
    · have a' : 0 ≤ x0 := by omega
      by_cases b : x1 < 0
      · have b' : ¬ 0 ≤ x1 := by omega
        simp [a, a', b, b']
      · have b' : 0 ≤ x1 := by omega
        by_cases c : x1 > 1048576
        · have c' : ¬ x1 ≤ 1048576 := by omega
          simp [a, b, c, c', a', b']
        · have c' : x1 ≤ 1048576 := by omega
          by_cases d : (x2.n : Int) > 200
          · simp [a, a', b, b', c, c', d]
          · rw [wrap64 (x := 1048576 - (x2.n : Int)) (by omega) (by omega)]
            by_cases e : x0 ≤ 1048576
            · rw [wrap64 (x := x0 + (x2.n : Int)) (by omega) (by omega)]
              by_cases f : x0 > 1048576 - (x2.n : Int)
              · have f' : x0 + (x2.n : Int) > 1048576 := by omega
                simp [a, a', b, b', c, c', d, e, f, f']
              · have f' : ¬ x0 + (x2.n : Int) > 1048576 := by omega
                simp [a, a', b, b', c, c', d, e, f, f']
            · have f : x0 > 1048576 - (x2.n : Int) := by omega
              simp [a, a', b, b', c, c', d, e, f]
  simp only [g53, g55, g53_p7, g55_p7, hm, hr]
end Go.Proofs.YtchhfojblmceiaaGreat
/-
  Walks: what functions of the program answer, as functions.
-/
namespace Go.Proofs.YtchhfojblmceiaaGreat
open Go Go.Vc Go.RowKit
set_option maxRecDepth 100000
set_option maxHeartbeats 4000000
noncomputable def g71_l2 (x0 : Sl T68) (x1 : Sl T68) : Nat → Int → Bool × Bool
  | 0, _ => default
  | k + 1, v2_0 => (bif (decide (v2_0 < (x0.n : Int))) then (bif (!(((x0.at' (Int.toNat v2_0)).c0 == (x1.at' (Int.toNat v2_0)).c0) && (((x0.at' (Int.toNat v2_0)).c1 == (x1.at' (Int.toNat v2_0)).c1) && (((x0.at' (Int.toNat v2_0)).c2 == (x1.at' (Int.toNat v2_0)).c2) && (((x0.at' (Int.toNat v2_0)).c3 == (x1.at' (Int.toNat v2_0)).c3) && (((x0.at' (Int.toNat v2_0)).c4 == (x1.at' (Int.toNat v2_0)).c4) && (((x0.at' (Int.toNat v2_0)).c5 == (x1.at' (Int.toNat v2_0)).c5) && ((((x0.at' (Int.toNat v2_0)).c6 : ByteArray).toList == ((x1.at' (Int.toNat v2_0)).c6 : ByteArray).toList) && ((((x0.at' (Int.toNat v2_0)).c7 : ByteArray).toList == ((x1.at' (Int.toNat v2_0)).c7 : ByteArray).toList) && ((((x0.at' (Int.toNat v2_0)).c8 : ByteArray).toList == ((x1.at' (Int.toNat v2_0)).c8 : ByteArray).toList) && (((x0.at' (Int.toNat v2_0)).c9 == (x1.at' (Int.toNat v2_0)).c9) && true))))))))))) then (true, false) else (g71_l2 x0 x1 k (IntKind.i64.wrap (v2_0 + 1)))) else (false, default))
noncomputable def g71_r1 (x0 : Sl T68) (x1 : Sl T68) : Bool × Bool := g71_l2 x0 x1 ((Int.toNat ((x0.n : Int) - 0)) + 1) 0
noncomputable def g71_p2 (x0 : Sl T68) (x1 : Sl T68) : Bool := (bif (g71_r1 x0 x1).1 then false else true)
noncomputable def g71 (x0 : Sl T68) (x1 : Sl T68) : Bool := (bif ((x0.n : Int) != (x1.n : Int)) then false else (bif (g71_p2 x0 x1) then true else (g71_r1 x0 x1).2))
noncomputable def F71 : Fq := ⟨[.v (.sl E68), .v (.sl E68)], fun x0 x1 => ⟨⟨none, .bool (g71 x0 x1)⟩⟩⟩
theorem pc71 : FnOk Tryz.prog 97 F71.sh _ (F71.sh.flatMap Sh.bs) F71.f [] :=
  fun x0 n0 _ x1 n1 _ => pure_of_exec (X := X0) (R := ⟨.pure, [.tmp 4], [(.t 0, kB)], ⟨[U], []⟩⟩) (h := (.s .z (.s .z (.j ⟨16, [], [], [], .f⟩ (.s .z (.lp ⟨51, [], [], [(.t 5, kI)], some 0, true, 16, [], [], fun k (s : Int) => g71_l2 x0 x1 k s, .f, fun (s : Int) => (0 ≤ s ∧ s ≤ (x0.n : Int)), fun (s : Int) => (Int.toNat ((x0.n : Int) - s)), none⟩ .z)) .z)))) (ms := []) (p := (((x0.n : Int) != (x1.n : Int)) = false → (((0 ≤ (0 : Int) ∧ (0 : Int) ≤ (x0.n : Int))) ∧ (∀ (v2_0 : Int), (0 ≤ v2_0 ∧ v2_0 ≤ (x0.n : Int)) → (((decide (v2_0 < (x0.n : Int))) = true → ((0 ≤ v2_0 ∧ v2_0 < ((x0.n : Nat) : Int)) ∧ (0 ≤ v2_0 ∧ v2_0 < ((x1.n : Nat) : Int)))) ∧ ((decide (v2_0 < (x0.n : Int))) = true → ((!(((x0.at' (Int.toNat v2_0)).c0 == (x1.at' (Int.toNat v2_0)).c0) && (((x0.at' (Int.toNat v2_0)).c1 == (x1.at' (Int.toNat v2_0)).c1) && (((x0.at' (Int.toNat v2_0)).c2 == (x1.at' (Int.toNat v2_0)).c2) && (((x0.at' (Int.toNat v2_0)).c3 == (x1.at' (Int.toNat v2_0)).c3) && (((x0.at' (Int.toNat v2_0)).c4 == (x1.at' (Int.toNat v2_0)).c4) && (((x0.at' (Int.toNat v2_0)).c5 == (x1.at' (Int.toNat v2_0)).c5) && ((((x0.at' (Int.toNat v2_0)).c6 : ByteArray).toList == ((x1.at' (Int.toNat v2_0)).c6 : ByteArray).toList) && ((((x0.at' (Int.toNat v2_0)).c7 : ByteArray).toList == ((x1.at' (Int.toNat v2_0)).c7 : ByteArray).toList) && ((((x0.at' (Int.toNat v2_0)).c8 : ByteArray).toList == ((x1.at' (Int.toNat v2_0)).c8 : ByteArray).toList) && (((x0.at' (Int.toNat v2_0)).c9 == (x1.at' (Int.toNat v2_0)).c9) && true))))))))))) = false → ((0 ≤ (IntKind.i64.wrap (v2_0 + 1)) ∧ (IntKind.i64.wrap (v2_0 + 1)) ≤ (x0.n : Int)) ∧ (Int.toNat ((x0.n : Int) - (IntKind.i64.wrap (v2_0 + 1)))) < (Int.toNat ((x0.n : Int) - v2_0)))))))))) X0_ok Tryz.func97 rfl rfl (by kernel_rfl) ((fun h1 => ⟨(by have := bne_eq_false_iff_eq.1 h1; omega), (fun v2_0 hI2 => ⟨(fun h3 => ⟨(by have := bne_eq_false_iff_eq.1 h1; have := of_decide_eq_true h3; omega), (by have := bne_eq_false_iff_eq.1 h1; have := of_decide_eq_true h3; omega)⟩), (fun h4 => (fun h5 => (by have := bne_eq_false_iff_eq.1 h1; have := of_decide_eq_true h4; first | omega | (have := wrap64 (x := (v2_0 + 1)) (by omega) (by omega); omega))))⟩)⟩))
theorem k71 : XOk Tryz.prog 97 F71.ans := Fq.ok ⟨_, _, Tryz.func97, rfl, by kernel_rfl⟩ pc71
noncomputable def g68_m1 (x0 : Int) (x1 : Int) (x2 : Sl T68) (x3 : Int) (x4 : Int) (x5 : Sl T68) : Bool := (bif (x0 == x3) then (bif (x1 == x4) then (g71 x2 x5) else false) else false)
noncomputable def g68 (x0 : Int) (x1 : Int) (x2 : Sl T68) (x3 : Int) (x4 : Int) (x5 : Sl T68) : Bool := (g68_m1 x0 x1 x2 x3 x4 x5)
noncomputable def F68 : Fq := ⟨[.g [kI, kI, .sl E68], .g [kI, kI, .sl E68]], fun x0 x1 x2 x3 x4 x5 => ⟨⟨none, .bool (g68 x0 x1 x2 x3 x4 x5)⟩⟩⟩
theorem pc68 : FnOk Tryz.prog 45 F68.sh _ (F68.sh.flatMap Sh.bs) F68.f [] :=
  fun (x0 : Int) (x1 : Int) x2 _ _ (x3 : Int) (x4 : Int) x5 _ _ => pure_of_exec (X := (mkX [(97, F71.ans)])) (R := ⟨.pure, [.tmp 4], [(.t 0, kB)], ⟨[U], []⟩⟩) (h := (.s .z (.j ⟨16, [.b 0, .b 1], [(.t 4, kB)], [], .f⟩ .z .z))) (ms := []) (p := True) (mkX_ok ⟨k71, trivial⟩) Tryz.func45 rfl rfl (by kernel_rfl) (trivial)
theorem k68 : XOk Tryz.prog 45 F68.ans := Fq.ok ⟨_, _, Tryz.func45, rfl, by kernel_rfl⟩ pc68
noncomputable def g66_0_0 (x0 : Int) (x1 : Int) (x2 : Sl T68) (x3 : Int) : Int := (bif ((g53 x0 x1 x2) != 0) then 0 else (bif ((g127_1 x0 x2 x3) != 0) then 0 else x3))
noncomputable def g66_0_1 (x0 : Int) (x1 : Int) (x2 : Sl T68) (x3 : Int) : Int := (bif ((g53 x0 x1 x2) != 0) then 0 else (bif ((g127_1 x0 x2 x3) != 0) then 0 else (g127_0 x0 x1 x2 x3)))
noncomputable def g66_0_2 (x0 : Int) (x1 : Int) (x2 : Sl T68) (x3 : Int) : Sl T68 := (bif ((g53 x0 x1 x2) != 0) then (nilSl : Sl T68) else (bif ((g127_1 x0 x2 x3) != 0) then (nilSl : Sl T68) else (Sl.part x2 (IntKind.i64.wrap (x3 - x0)) ((x2.n : Nat) : Int))))
noncomputable def g66_1 (x0 : Int) (x1 : Int) (x2 : Sl T68) (x3 : Int) : Int := (bif ((g53 x0 x1 x2) != 0) then (g53 x0 x1 x2) else (bif ((g127_1 x0 x2 x3) != 0) then (g127_1 x0 x2 x3) else 0))
noncomputable def F66 : Fq := ⟨[.g [kI, kI, .sl E68], .v kI], fun (x0 : Int) (x1 : Int) x2 (x3 : Int) => ⟨⟨some (x3 ≤ 9223372036854775807), .tup [.agg [.int .i64 (g66_0_0 x0 x1 x2 x3), .int .i64 (g66_0_1 x0 x1 x2 x3), ofSl 10 e68 (g66_0_2 x0 x1 x2 x3)], .int .i64 (g66_1 x0 x1 x2 x3)]⟩⟩⟩
theorem pc66 : FnOk Tryz.prog 72 F66.sh _ (F66.sh.flatMap Sh.bs) F66.f [] :=
  fun (x0 : Int) (x1 : Int) x2 n2 _ (x3 : Int) hp => pure_of_exec (X := (mkX [(70, F53.ans), (128, F127.ans), (36, F130.ans)])) (R := ⟨.pure, [.cell 4 44, .tmp 5], [(.c 0 0, kI), (.c 0 1, kI), (.c 0 2, .sl E68), (.t 1, kI)], ⟨[.agg (us 3 []), U], []⟩⟩) (h := .z) (ms := []) (p := (((g53 x0 x1 x2) != 0) = false → ((0 ≤ x0 ∧ x0 ≤ 1048576 ∧ x3 ≤ 9223372036854775807) ∧ (((g127_1 x0 x2 x3) != 0) = false → (((0 : Int) ≤ (IntKind.i64.wrap (x3 - x0))) ∧ (((IntKind.i64.wrap (x3 - x0)) : Int) ≤ ((x2.n : Nat) : Int)) ∧ ((((x2.n : Nat) : Int) : Int) ≤ ((x2.n : Nat) : Int)) ∧ ((((x2.n : Nat) : Int) : Int) ≤ ((x2.n : Nat) : Int))))))) (mkX_ok ⟨k53, k127, k130, trivial⟩) Tryz.func72 rfl rfl (by kernel_rfl) ((fun h1 => ⟨(by have := chk53 _ _ _ (bne_eq_false_iff_eq.1 h1); have := chk127 x0 x2 x3; omega), (fun h2 => (by have := chk53 _ _ _ (bne_eq_false_iff_eq.1 h1); have := bne_eq_false_iff_eq.1 h2; have := chk127 x0 x2 x3; first | omega | (have := wrap64 (x := (x3 - x0)) (by omega) (by omega); omega)))⟩))
theorem k66 : XOk Tryz.prog 72 F66.ans := Fq.ok ⟨_, _, Tryz.func72, rfl, by kernel_rfl⟩ pc66
noncomputable def g67_l4 (x0 : Int) (x2 : Sl T68) : Nat → Int → Sl T68 → Sl T68
  | 0, _, _ => default
  | k + 1, v4_0, v4_1 => (bif (decide (v4_0 ≤ (g125 x0 x2))) then (g67_l4 x0 x2 k (IntKind.i64.wrap (v4_0 + 1)) (Sl.app v4_1 (Sl.lit ([(x2.at' (Int.toNat (IntKind.i64.wrap ((IntKind.i64.wrap (v4_0 - x0)) - 1))))] : List T68)))) else v4_1)
noncomputable def g67_r1 (x0 : Int) (x2 : Sl T68) (x3 : Int) : Sl T68 := g67_l4 x0 x2 ((Int.toNat ((g125 x0 x2) + 1 - (IntKind.i64.wrap (x3 + 1)))) + 1) (IntKind.i64.wrap (x3 + 1)) (nilSl : Sl T68)
noncomputable def g67_0_0 (x0 : Int) (x1 : Int) (x2 : Sl T68) (x3 : Int) : Int := (bif ((g55 x0 x1 x2) != 0) then 0 else (bif ((g126 x0 x1 x2 x3) == (-1)) then 0 else (bif ((g126 x0 x1 x2 x3) == (-2)) then 0 else x3)))
noncomputable def g67_0_1 (x0 : Int) (x1 : Int) (x2 : Sl T68) (x3 : Int) : Int := (bif ((g55 x0 x1 x2) != 0) then 0 else (bif ((g126 x0 x1 x2 x3) == (-1)) then 0 else (bif ((g126 x0 x1 x2 x3) == (-2)) then 0 else (g126 x0 x1 x2 x3))))
noncomputable def g67_0_2 (x0 : Int) (x1 : Int) (x2 : Sl T68) (x3 : Int) : Sl T68 := (bif ((g55 x0 x1 x2) != 0) then (nilSl : Sl T68) else (bif ((g126 x0 x1 x2 x3) == (-1)) then (nilSl : Sl T68) else (bif ((g126 x0 x1 x2 x3) == (-2)) then (nilSl : Sl T68) else (g67_r1 x0 x2 x3))))
noncomputable def g67_1 (x0 : Int) (x1 : Int) (x2 : Sl T68) (x3 : Int) : Int := (bif ((g55 x0 x1 x2) != 0) then (g55 x0 x1 x2) else (bif ((g126 x0 x1 x2 x3) == (-1)) then 11 else (bif ((g126 x0 x1 x2 x3) == (-2)) then 5 else 0)))
noncomputable def F67 : Fq := ⟨[.g [kI, kI, .sl E68], .v kI], fun (x0 : Int) (x1 : Int) x2 (x3 : Int) => ⟨⟨some (x3 ≤ 9223372036854775807), .tup [.agg [.int .i64 (g67_0_0 x0 x1 x2 x3), .int .i64 (g67_0_1 x0 x1 x2 x3), ofSl 10 e68 (g67_0_2 x0 x1 x2 x3)], .int .i64 (g67_1 x0 x1 x2 x3)]⟩⟩⟩
theorem pc67 : FnOk Tryz.prog 94 F67.sh _ (F67.sh.flatMap Sh.bs) F67.f [] :=
  fun (x0 : Int) (x1 : Int) x2 n2 _ (x3 : Int) hp => pure_of_exec (X := (mkX [(40, F55.ans), (39, F125.ans), (93, F126.ans)])) (R := ⟨.pure, [.cell 4 44, .tmp 5], [(.c 0 0, kI), (.c 0 1, kI), (.c 0 2, .sl E68), (.t 1, kI)], ⟨[.agg (us 3 []), U], []⟩⟩) (h := (.s .z (.s .z (.s .z (.s .z (.s .z (.s .z (.s .z (.j ⟨304, [], [], [], .f⟩ (.s .z (.lp ⟨820, [], [(.h 2 2, E68)], [(.t 9, kI), (.h 3 0, .blk E68)], some 0, false, 304, [.b 0], [(.h 3 0, .blk E68)], fun k (s : Int × Sl T68) => g67_l4 x0 x2 k s.1 s.2, .f, fun (s : Int × Sl T68) => (((IntKind.i64.wrap (x3 + 1)) ≤ s.1 ∧ (s.1 ≤ (g125 x0 x2) + 1 ∨ s.1 = (IntKind.i64.wrap (x3 + 1)))) ∧ ((s.2.n : Nat) : Int) ≤ 0 + (s.1 - (IntKind.i64.wrap (x3 + 1)))), fun (s : Int × Sl T68) => (Int.toNat ((g125 x0 x2) + 1 - s.1)), none⟩ .z)) .z))))))))) (ms := []) (p := (((g55 x0 x1 x2) != 0) = false → ((0 ≤ x0 ∧ x0 ≤ 1048576) ∧ (((g126 x0 x1 x2 x3) == (-1)) = false → (((g126 x0 x1 x2 x3) == (-2)) = false → (((((IntKind.i64.wrap (x3 + 1)) ≤ (IntKind.i64.wrap (x3 + 1)) ∧ ((IntKind.i64.wrap (x3 + 1)) ≤ (g125 x0 x2) + 1 ∨ (IntKind.i64.wrap (x3 + 1)) = (IntKind.i64.wrap (x3 + 1)))) ∧ ((0 : Nat) : Int) ≤ 0 + ((IntKind.i64.wrap (x3 + 1)) - (IntKind.i64.wrap (x3 + 1))))) ∧ (∀ (v4_0 : Int) (v4_1 : Sl T68), (((IntKind.i64.wrap (x3 + 1)) ≤ v4_0 ∧ (v4_0 ≤ (g125 x0 x2) + 1 ∨ v4_0 = (IntKind.i64.wrap (x3 + 1)))) ∧ ((v4_1.n : Nat) : Int) ≤ 0 + (v4_0 - (IntKind.i64.wrap (x3 + 1)))) → (((decide (v4_0 ≤ (g125 x0 x2))) = true → ((0 ≤ (IntKind.i64.wrap ((IntKind.i64.wrap (v4_0 - x0)) - 1)) ∧ (IntKind.i64.wrap ((IntKind.i64.wrap (v4_0 - x0)) - 1)) < ((x2.n : Nat) : Int)) ∧ (v4_1.n + 1 ≤ 549755813888))) ∧ ((decide (v4_0 ≤ (g125 x0 x2))) = true → ((((IntKind.i64.wrap (x3 + 1)) ≤ (IntKind.i64.wrap (v4_0 + 1)) ∧ ((IntKind.i64.wrap (v4_0 + 1)) ≤ (g125 x0 x2) + 1 ∨ (IntKind.i64.wrap (v4_0 + 1)) = (IntKind.i64.wrap (x3 + 1)))) ∧ (((v4_1.n + 1) : Nat) : Int) ≤ 0 + ((IntKind.i64.wrap (v4_0 + 1)) - (IntKind.i64.wrap (x3 + 1)))) ∧ (Int.toNat ((g125 x0 x2) + 1 - (IntKind.i64.wrap (v4_0 + 1)))) < (Int.toNat ((g125 x0 x2) + 1 - v4_0)))))))))))) (mkX_ok ⟨k55, k125, k126, trivial⟩) Tryz.func94 rfl rfl (by kernel_rfl) ((fun h1 => ⟨(by have := chk55 _ _ _ (bne_eq_false_iff_eq.1 h1); have := chk126 x0 x1 x2 x3; omega), (fun h2 => (fun h3 => ⟨(by have := chk55 _ _ _ (bne_eq_false_iff_eq.1 h1); have := ne_of_beq_false h2; have := ne_of_beq_false h3; have := chk126 x0 x1 x2 x3; first | omega | (have := wrap64 (x := (x3 + 1)) (by omega) (by omega); omega)), (fun v4_0 v4_1 hI4 => ⟨(fun h5 => ⟨(by have := chk55 _ _ _ (bne_eq_false_iff_eq.1 h1); have := ne_of_beq_false h2; have := ne_of_beq_false h3; have := of_decide_eq_true h5; have := chk126 x0 x1 x2 x3; first | omega | (have := wrap64 (x := (x3 + 1)) (by omega) (by omega); have := wrap64 (x := (v4_0 - x0)) (by omega) (by omega); have := wrap64 (x := ((IntKind.i64.wrap (v4_0 - x0)) - 1)) (by omega) (by omega); omega)), (by have := chk55 _ _ _ (bne_eq_false_iff_eq.1 h1); have := ne_of_beq_false h2; have := ne_of_beq_false h3; have := of_decide_eq_true h5; have := chk126 x0 x1 x2 x3; first | omega | (have := wrap64 (x := (x3 + 1)) (by omega) (by omega); omega))⟩), (fun h6 => (by have := chk55 _ _ _ (bne_eq_false_iff_eq.1 h1); have := ne_of_beq_false h2; have := ne_of_beq_false h3; have := of_decide_eq_true h6; have := chk126 x0 x1 x2 x3; first | omega | (have := wrap64 (x := (x3 + 1)) (by omega) (by omega); have := wrap64 (x := (v4_0 + 1)) (by omega) (by omega); omega)))⟩)⟩))⟩))
theorem k67 : XOk Tryz.prog 94 F67.ans := Fq.ok ⟨_, _, Tryz.func94, rfl, by kernel_rfl⟩ pc67
end Go.Proofs.YtchhfojblmceiaaGreat
/-
  Walks: what functions of the program answer, as functions.
-/
namespace Go.Proofs.YtchhfojblmceiaaGreat
open Go Go.Vc Go.RowKit
set_option maxRecDepth 100000
set_option maxHeartbeats 4000000
noncomputable def g177_m1 (x0 : Int) (x1 : Int) (x2 : Sl T68) (x3 : Int) (x4 : Int) : Bool := (bif ((g62_1 x0 x1 x2 x3) == 0) then ((g62_0 x0 x1 x2 x3) == x4) else false)
noncomputable def g177_0 (x0 : Int) (x1 : Int) (x2 : Sl T68) (x3 : Int) (x4 : Int) : Int := (bif (g177_m1 x0 x1 x2 x3 x4) then (g66_0_0 x0 x1 x2 x3) else x3)
noncomputable def g177_1 (x0 : Int) (x1 : Int) (x2 : Sl T68) (x3 : Int) (x4 : Int) : Int := (bif (g177_m1 x0 x1 x2 x3 x4) then (g66_0_1 x0 x1 x2 x3) else x4)
noncomputable def g177_2 (x0 : Int) (x1 : Int) (x2 : Sl T68) (x3 : Int) (x4 : Int) : Sl T68 := (bif (g177_m1 x0 x1 x2 x3 x4) then (g66_0_2 x0 x1 x2 x3) else (nilSl : Sl T68))
noncomputable def F177 : Fq := ⟨[.g [kI, kI, .sl E68], .g [kI, kI, kI, .sl E175, kI, .sl E137]], fun (x0 : Int) (x1 : Int) x2 (x3 : Int) (x4 : Int) _ _ _ _ => ⟨⟨some (x3 ≤ 9223372036854775807), .agg [.int .i64 (g177_0 x0 x1 x2 x3 x4), .int .i64 (g177_1 x0 x1 x2 x3 x4), ofSl 10 e68 (g177_2 x0 x1 x2 x3 x4)]⟩⟩⟩
theorem pc177 : FnOk Tryz.prog 33 F177.sh _ (F177.sh.flatMap Sh.bs) F177.f [] :=
  fun (x0 : Int) (x1 : Int) x2 n2 _ (x3 : Int) (x4 : Int) (x5 : Int) x6 n6 _ (x7 : Int) x8 n8 _ hp => pure_of_exec (X := (mkX [(71, F62.ans), (72, F66.ans)])) (R := ⟨.pure, [.cell 4 44], [(.c 0 0, kI), (.c 0 1, kI), (.c 0 2, .sl E68)], ⟨[.agg (us 3 [])], []⟩⟩) (h := (.s .z (.s (.s .z (.j ⟨8388636, [], [(.t 23, kB)], [], .f⟩ .z .z)) .z))) (ms := []) (p := ((g177_m1 x0 x1 x2 x3 x4) = true → (x3 ≤ 9223372036854775807))) (mkX_ok ⟨k62, k66, trivial⟩) Tryz.func33 rfl rfl (by kernel_rfl) ((fun h1 => (by have := h1; (try simp [g177_m1] at this); omega)))
theorem k177 : XOk Tryz.prog 33 F177.ans := Fq.ok ⟨_, _, Tryz.func33, rfl, by kernel_rfl⟩ pc177
noncomputable def g178_0 (x0 : Int) (x1 : Int) (x2 : Sl T68) (x3 : Int) (x4 : Int) : Int := (bif ((g126 x0 x1 x2 x3) == x4) then (g67_0_0 x0 x1 x2 x3) else x3)
noncomputable def g178_1 (x0 : Int) (x1 : Int) (x2 : Sl T68) (x3 : Int) (x4 : Int) : Int := (bif ((g126 x0 x1 x2 x3) == x4) then (g67_0_1 x0 x1 x2 x3) else x4)
noncomputable def g178_2 (x0 : Int) (x1 : Int) (x2 : Sl T68) (x3 : Int) (x4 : Int) : Sl T68 := (bif ((g126 x0 x1 x2 x3) == x4) then (g67_0_2 x0 x1 x2 x3) else (nilSl : Sl T68))
noncomputable def F178 : Fq := ⟨[.g [kI, kI, .sl E68], .g [kI, kI, kI, .sl E175, kI, .sl E137]], fun (x0 : Int) (x1 : Int) x2 (x3 : Int) (x4 : Int) _ _ _ _ => ⟨⟨some (0 ≤ x0 ∧ x0 ≤ 1048576 ∧ x3 ≤ 9223372036854775807), .agg [.int .i64 (g178_0 x0 x1 x2 x3 x4), .int .i64 (g178_1 x0 x1 x2 x3 x4), ofSl 10 e68 (g178_2 x0 x1 x2 x3 x4)]⟩⟩⟩
theorem pc178 : FnOk Tryz.prog 41 F178.sh _ (F178.sh.flatMap Sh.bs) F178.f [] :=
  fun (x0 : Int) (x1 : Int) x2 n2 _ (x3 : Int) (x4 : Int) (x5 : Int) x6 n6 _ (x7 : Int) x8 n8 _ hp => pure_of_exec (X := (mkX [(94, F67.ans), (93, F126.ans)])) (R := ⟨.pure, [.cell 4 44], [(.c 0 0, kI), (.c 0 1, kI), (.c 0 2, .sl E68)], ⟨[.agg (us 3 [])], []⟩⟩) (h := .z) (ms := []) (p := ((0 ≤ x0 ∧ x0 ≤ 1048576) ∧ (((g126 x0 x1 x2 x3) == x4) = true → (x3 ≤ 9223372036854775807)))) (mkX_ok ⟨k67, k126, trivial⟩) Tryz.func41 rfl rfl (by kernel_rfl) (have ⟨hq0, hq1, hq2⟩ := hp; ⟨(by omega), (fun h1 => (by have := eq_of_beq h1; omega))⟩)
theorem k178 : XOk Tryz.prog 41 F178.ans := Fq.ok ⟨_, _, Tryz.func41, rfl, by kernel_rfl⟩ pc178
end Go.Proofs.YtchhfojblmceiaaGreat
/-
  What Check says of a log.
-/
namespace Go.Proofs.YtchhfojblmceiaaGreat
open Go Go.Vc Go.RowKit
set_option maxRecDepth 100000
set_option maxHeartbeats 4000000
noncomputable def it52 (e : T68) : Int := g52 e.c0 e.c1 e.c2 e.c3 e.c4 e.c5 e.c6 e.c7 e.c8 e.c9
structure LV (b t : Int) (s : Sl T68) : Prop where
  b0 : 0 ≤ b ∧ b ≤ 1048576
  t0 : 0 ≤ t ∧ t ≤ 1048576
  z : b = 0 ↔ t = 0
  n : s.n ≤ 200
  top : b + (s.n : Int) ≤ 1048576
  ok : ∀ i, i < s.n → it52 (s.at' i) = 0 ∧ t ≤ (s.at' i).c0
  rise : ∀ i, i + 1 < s.n → (s.at' i).c0 ≤ (s.at' (i + 1)).c0 ∧ (s.at' i).c1 ≤ (s.at' (i + 1)).c1
theorem lv_of {b t : Int} {s : Sl T68} (h : g55 b t s = 0) : LV b t s := by
  have hc := chk55 b t s h
  obtain ⟨hb, ht, hn, htop⟩ := hc
  unfold g55 at h
  obtain ⟨m1, h⟩ := bz h (by decide)
  have hl : g55_r6 t s = scan (fun i => g55_m3 t s i || g55_m5 s i) (fun _ => 13) s.n 0 := scan0 (g55_l7 t s) s.n _ _ (by omega) fun k i => by
    show (bif decide (i < (s.n : Int)) then (bif (g55_m3 t s i) then (true, 13) else (bif (g55_m5 s i) then (true, 13) else g55_l7 t s k (IntKind.i64.wrap (i + 1)))) else (false, default)) = _
    rw [bif_or]
  unfold g55_p7 at h
  rw [fall hl] at h
  obtain ⟨hh, _⟩ := bz h (by decide)
  have q : ∀ i, i < s.n → g55_m3 t s (i : Int) = false ∧ g55_m5 s (i : Int) = false := fun i hi => by
    have := hit_nat hh i hi
    simpa only [Bool.or_eq_false_iff] using this
  refine ⟨hb, ht, ?_, hn, htop, fun i hi => ?_, fun i hi => ?_⟩
  · unfold g55_m1 at m1
    obtain ⟨_, m1⟩ := bt m1
    obtain ⟨_, m1⟩ := bt m1
    obtain ⟨m1, _⟩ := bt m1
    have m1 : ((b == 0) == (t == 0)) = true := by simpa using m1
    have e : (b == 0) = (t == 0) := eq_of_beq m1
    constructor
    · intro hb0
      rw [hb0] at e
      have e : (t == 0) = true := e.symm
      exact eq_of_beq e
    · intro ht0
      rw [ht0] at e
      have e : (b == 0) = true := e
      exact eq_of_beq e
  · have q1 := (q i hi).1
    unfold g55_m3 at q1
    rw [Int.toNat_natCast] at q1
    obtain ⟨a, c⟩ := bt q1
    have c := df c
    exact ⟨bne_eq_false_iff_eq.1 a, by omega⟩
  · have q2 := (q (i + 1) hi).2
    unfold g55_m5 at q2
    rw [decide_eq_true (show ((i + 1 : Nat) : Int) > 0 by omega), Int.toNat_natCast, show IntKind.i64.wrap (((i + 1 : Nat) : Int) - 1) = (i : Int) by rw [wrap64 (by omega) (by omega)]; omega, Int.toNat_natCast] at q2
    obtain ⟨a, c⟩ := bt q2
    have a := df a
    have c := df c
    exact ⟨by omega, by omega⟩
theorem lv_to {b t : Int} {s : Sl T68} (h : LV b t s) : g55 b t s = 0 := by
  have hn := h.n
  have htop := h.top
  obtain ⟨b0, b1⟩ := h.b0
  obtain ⟨t0, t1⟩ := h.t0
  have m1 : g55_m1 b t s = false := by
    unfold g55_m1
    rw [g112_eq, g112_eq, decide_eq_true (show b ≥ 0 from b0), decide_eq_true b1, decide_eq_true (show t ≥ 0 from t0), decide_eq_true t1, decide_eq_false (show ¬ (s.n : Int) > 200 by omega), wrap64 (by omega) (by omega), decide_eq_false (show ¬ b + (s.n : Int) > 1048576 by omega)]
    have e : ((b == 0) == (t == 0)) = true := by
      by_cases hb : b = 0
      · have ht := h.z.1 hb
        subst hb; subst ht; rfl
      · have ht : t ≠ 0 := fun e => hb (h.z.2 e)
        rw [beq_eq_false_iff_ne.2 hb, beq_eq_false_iff_ne.2 ht]; rfl
    rw [e]; rfl
  have hl : g55_r6 t s = scan (fun i => g55_m3 t s i || g55_m5 s i) (fun _ => 13) s.n 0 := scan0 (g55_l7 t s) s.n _ _ (by omega) fun k i => by
    show (bif decide (i < (s.n : Int)) then (bif (g55_m3 t s i) then (true, 13) else (bif (g55_m5 s i) then (true, 13) else g55_l7 t s k (IntKind.i64.wrap (i + 1)))) else (false, default)) = _
    rw [bif_or]
  have hc : g55_r6 t s = (false, default) := by
    rw [hl]
    refine scan_clean s.n 0 fun j h1 h2 => ?_
    obtain ⟨i, rfl⟩ := Int.eq_ofNat_of_zero_le h1
    have hi : i < s.n := by omega
    obtain ⟨o1, o2⟩ := h.ok i hi
    show (g55_m3 t s (i : Int) || g55_m5 s (i : Int)) = false
    have e3 : g55_m3 t s (i : Int) = false := by
      unfold g55_m3
      rw [Int.toNat_natCast]
      unfold it52 at o1
      rw [o1]
      show decide _ = false
      exact decide_eq_false (by omega)
    have e5 : g55_m5 s (i : Int) = false := by
      unfold g55_m5
      by_cases hp : i = 0
      · subst hp; rfl
      · obtain ⟨k, rfl⟩ : ∃ k, i = k + 1 := ⟨i - 1, by omega⟩
        obtain ⟨r1, r2⟩ := h.rise k hi
        rw [decide_eq_true (show ((k + 1 : Nat) : Int) > 0 by omega), Int.toNat_natCast, show IntKind.i64.wrap (((k + 1 : Nat) : Int) - 1) = (k : Int) by rw [wrap64 (by omega) (by omega)]; omega, Int.toNat_natCast, decide_eq_false (by omega), decide_eq_false (by omega)]
        rfl
    rw [e3, e5]; rfl
  unfold g55 g55_p7
  rw [m1, hc]; rfl
theorem lv53 {b t : Int} {s : Sl T68} (h : g53 b t s = 0) : LV b t s := by
  have hc := chk53 b t s h
  rw [g53_eq b t s (by omega) (by omega)] at h
  exact lv_of h
theorem lv53' {b t : Int} {s : Sl T68} (h : LV b t s) : g53 b t s = 0 := by
  have := h.n
  have := h.b0
  rw [g53_eq b t s (by omega) (by omega)]
  exact lv_to h
theorem lv_trim {b t : Int} {s : Sl T68} (h : LV b t s) {p : Int} (h1 : b ≤ p) (h2 : p ≤ b + (s.n : Int)) (h3 : 1 ≤ p) : LV p (g127_0 b t s p) (Sl.part s (IntKind.i64.wrap (p - b)) ((s.n : Nat) : Int)) := by
  have hn := h.n
  have hb := h.b0
  have ht := h.t0
  have htop := h.top
  have w : IntKind.i64.wrap (p - b) = p - b := wrap64 (by omega) (by omega)
  rw [w]
  obtain ⟨k, hk⟩ : ∃ k : Nat, p - b = (k : Int) := ⟨(p - b).toNat, by omega⟩
  have hpn : (Sl.part s (p - b) ((s.n : Nat) : Int)).n = s.n - k := by
    rw [Sl.part_n, hk]; omega
  have hat : ∀ i, (Sl.part s (p - b) ((s.n : Nat) : Int)).at' i = s.at' (k + i) := fun i => by
    show s.at' (Int.toNat (p - b) + i) = _
    rw [hk, Int.toNat_natCast]
  have e : g127_0 b t s p = if k = 0 then t else (s.at' (k - 1)).c0 := by
    unfold g127_0
    rw [decide_eq_false (show ¬ p < b by omega)]
    by_cases h0 : k = 0
    · rw [show p = b by omega, if_pos h0]; simp
    · rw [beq_eq_false_iff_ne.2 (show p ≠ b by omega), w, decide_eq_false (show ¬ p - b > (s.n : Int) by omega), if_neg h0, wrap64 (by omega) (by omega), show Int.toNat (p - b - 1) = k - 1 by omega]; rfl
  have tk : 0 < k → t ≤ (s.at' (k - 1)).c0 := fun h0 => (h.ok (k - 1) (by omega)).2
  have i52 : ∀ x : T68, it52 x = 0 → 1 ≤ x.c0 ∧ x.c0 ≤ 1048576 := fun x hx => by
    unfold it52 g52 at hx
    obtain ⟨a, _⟩ := bz hx (by decide)
    unfold g52_m1 at a
    obtain ⟨a, _⟩ := bt a
    have a : g120 x.c0 = true := by simpa using a
    unfold g120 at a
    rw [g112_eq, Bool.and_eq_true] at a
    exact ⟨of_decide_eq_true a.1, of_decide_eq_true a.2⟩
  have tr : 0 ≤ g127_0 b t s p ∧ g127_0 b t s p ≤ 1048576 ∧ 1 ≤ g127_0 b t s p := by
    rw [e]
    by_cases h0 : k = 0
    · rw [if_pos h0]
      have : t ≠ 0 := fun e => by have := h.z.2 e; omega
      omega
    · rw [if_neg h0]
      have := i52 _ (h.ok (k - 1) (by omega)).1
      omega
  refine ⟨by omega, ⟨tr.1, tr.2.1⟩, ⟨fun e => by omega, fun e => by omega⟩, by omega, by omega, fun i hi => ?_, fun i hi => ?_⟩
  · rw [hat]
    refine ⟨(h.ok (k + i) (by omega)).1, ?_⟩
    rw [e]
    by_cases h0 : k = 0
    · rw [if_pos h0]; exact (h.ok (k + i) (by omega)).2
    · rw [if_neg h0]
      have key : ∀ j, k - 1 + j < s.n → (s.at' (k - 1)).c0 ≤ (s.at' (k - 1 + j)).c0 := by
        intro j
        induction j with
        | zero => intro _; exact Int.le_refl _
        | succ j ih =>
          intro hj
          have := ih (by omega)
          have r := (h.rise (k - 1 + j) (by omega)).1
          rw [show k - 1 + (j + 1) = k - 1 + j + 1 by omega]
          omega
      have := key (i + 1) (by omega)
      rwa [show k - 1 + (i + 1) = k + i by omega] at this
  · rw [hat, hat, show k + (i + 1) = k + i + 1 by omega]
    exact h.rise (k + i) (by omega)
theorem lv_rest {b t : Int} {s : Sl T68} (h : LV b t s) {p u : Int} (hp : 1 ≤ p ∧ p ≤ 1048576) (hu : 1 ≤ u ∧ u ≤ 1048576) : LV (g177_0 b t s p u) (g177_1 b t s p u) (g177_2 b t s p u) := by
  have hn := h.n
  have hb := h.b0
  have htop := h.top
  unfold g177_0 g177_1 g177_2
  cases m : g177_m1 b t s p u with
  | false =>
    exact ⟨by simp only [cond_false]; omega, by simp only [cond_false]; omega, ⟨fun e => by simp only [cond_false] at e; omega, fun e => by simp only [cond_false] at e; omega⟩, Nat.zero_le _, by show p + 0 ≤ _; omega, fun i hi => absurd hi (Nat.not_lt_zero i), fun i hi => absurd hi (Nat.not_lt_zero _)⟩
  | true =>
    simp only [cond_true]
    unfold g177_m1 at m
    have z := lv53' h
    cases c : (g62_1 b t s p == 0) with
    | false => rw [c] at m; cases m
    | true =>
      have c := eq_of_beq c
      unfold g62_1 at c
      rw [z] at c
      have c : (bif g62_m1 p then 2 else g127_1 b s p) = 0 := c
      obtain ⟨_, c⟩ := bz c (by decide)
      have hr : b ≤ p ∧ p ≤ b + (s.n : Int) := by
        unfold g127_1 at c
        obtain ⟨c1, c⟩ := bz c (by decide)
        have c1 := df c1
        by_cases hpb : p = b
        · omega
        · rw [beq_eq_false_iff_ne.2 hpb] at c
          simp only [cond_false] at c
          obtain ⟨c2, _⟩ := bz c (by decide)
          rw [wrap64 (by omega) (by omega)] at c2
          have c2 := df c2
          omega
      unfold g66_0_0 g66_0_1 g66_0_2
      rw [z, c]
      exact lv_trim h hr.1 hr.2 hp.1
end Go.Proofs.YtchhfojblmceiaaGreat
/-
  What holds of a disk while records are folded.
-/
namespace Go.Proofs.YtchhfojblmceiaaGreat
open Go Go.Vc Go.RowKit
def GL (b t : Int) (s : Sl T68) : Prop := g53 b t s = 0
def RCS (s : Sl T122) : Prop := (Canon s ∧ s.n ≤ 1048576) ∧ ∀ i, CE (s.at' i).c17 ∧ CC (s.at' i).c19
def FD (es : Sl T175) (cs : Sl T137) (b t : Int) (s : Sl T68) : Prop := CE es ∧ CC cs ∧ GL b t s
theorem fd_gl {es : Sl T175} {cs : Sl T137} {b t : Int} {s : Sl T68} (h : FD es cs b t s) : GL b t s := h.2.2
theorem rcs94 {s : Sl T122} {i : Nat} (hp : RCS s) (h : (g94 (s.at' i).c0 (s.at' i).c1 (s.at' i).c2 (s.at' i).c3 (s.at' i).c4 (s.at' i).c5 (s.at' i).c6 (s.at' i).c7 (s.at' i).c8 (s.at' i).c9 (s.at' i).c10 (s.at' i).c11 (s.at' i).c12 (s.at' i).c13 (s.at' i).c14 (s.at' i).c15 (s.at' i).c16 (s.at' i).c17 (s.at' i).c18 (s.at' i).c19 != 0) = false) :
    ((s.at' i).c0 = 3 ∧ (1 ≤ (s.at' i).c14 ∧ (s.at' i).c14 ≤ 1048576) ∧ (1 ≤ (s.at' i).c15 ∧ (s.at' i).c15 ≤ 1048576)) ∨ ((s.at' i).c0 = 2 ∧ (1 ≤ (s.at' i).c3 ∧ (s.at' i).c3 ≤ 1048576)) ∨ (s.at' i).c0 = 1 := by
  have := hp.2 i
  rcases rec_ok (bne_eq_false_iff_eq.1 h) with ⟨e, _⟩ | ⟨e, q, _⟩ | ⟨e, q, r, _⟩
  · exact .inr (.inr e)
  · exact .inr (.inl ⟨e, q⟩)
  · exact .inl ⟨e, q, r⟩
end Go.Proofs.YtchhfojblmceiaaGreat
namespace Go.Proofs.YtchhfojblmceiaaGreat
open Go Go.Vc Go.RowKit
theorem last0 (x0 : Int) (x2 : Sl T68) (h1 : 0 ≤ x0) (h2 : x0 ≤ 1048576) (h3 : x2.n ≤ 200) : g124_0 x0 x2 = x0 + (x2.n : Int) ∧ g125 x0 x2 = x0 + (x2.n : Int) := by
  refine ⟨?_, e125 x0 x2 h1 h2 (by omega)⟩
  unfold g124_0
  by_cases h : (x2.n : Int) > 0
  · simp only [h, decide_true, cond_true]
    exact wrap64 (by omega) (by omega)
  · simp only [h, decide_false, cond_false]
    omega
theorem chk52a {x0 x1 : Int} {x2 : Bool} {x3 x4 x5 : Int} {x6 x7 x8 : ByteArray} {x9 : Int} (h : (g52 x0 x1 x2 x3 x4 x5 x6 x7 x8 x9 != 0) = false) : 1 ≤ x0 := by
  have h := bne_eq_false_iff_eq.1 h
  unfold g52 at h
  cases hm : g52_m1 x0 x1 with
  | true => rw [hm] at h; simp at h
  | false =>
    simp [g52_m1, g120, g112, g112_m1] at hm
    omega
theorem scan55 (x1 : Int) (x2 : Sl T68) (hn : x2.n ≤ 549755813888) : g55_r6 x1 x2 = scan (fun i => bif g55_m3 x1 x2 i then true else g55_m5 x2 i) (fun _ => 13) x2.n 0 := scan0 (g55_l7 x1 x2) x2.n _ _ hn fun k i => by
  rw [g55_l7]
  cases g55_m3 x1 x2 i <;> rfl
theorem items55 (x0 x1 : Int) (x2 : Sl T68) (h : g55 x0 x1 x2 = 0) (i : Nat) (hi : i < x2.n) : 1 ≤ (x2.at' i).c0 := by
  have c := chk55 x0 x1 x2 h
  have hs := scan55 x1 x2 (by omega)
  unfold g55 at h
  cases hm : g55_m1 x0 x1 x2 with
  | true => rw [hm] at h; simp at h
  | false =>
    rw [hm] at h
    cases hr : (g55_r6 x1 x2).1 with
    | true =>
      have h2 : (g55_r6 x1 x2).2 = 13 := by
        rw [hs] at hr ⊢
        obtain ⟨_, _, _, _, h4⟩ := scan_snd _ _ hr
        exact h4
      simp [g55_p7, hr, h2] at h
    | false =>
      rw [hs] at hr
      have this : (bif g55_m3 x1 x2 (i : Int) then true else g55_m5 x2 (i : Int)) = false := scan_none _ _ hr (i : Int) (by omega) (by omega)
      cases h3 : g55_m3 x1 x2 (i : Int) with
      | true => rw [h3] at this; cases this
      | false =>
        simp only [g55_m3, Int.toNat_natCast] at h3
        cases hg : (g52 (x2.at' i).c0 (x2.at' i).c1 (x2.at' i).c2 (x2.at' i).c3 (x2.at' i).c4 (x2.at' i).c5 (x2.at' i).c6 (x2.at' i).c7 (x2.at' i).c8 (x2.at' i).c9 != 0) with
        | true => rw [hg] at h3; cases h3
        | false => exact chk52a hg
theorem terms (x0 x1 : Int) (x2 : Sl T68) (x3 : Int) (h : g55 x0 x1 x2 = 0) (hx : x3 ≤ 9223372036854775807) :
    g127_0 x0 x1 x2 x3 = (bif (g126 x0 x1 x2 x3 == -1) then 0 else bif (g126 x0 x1 x2 x3 == -2) then 0 else g126 x0 x1 x2 x3) ∧ g127_1 x0 x2 x3 = (bif (g126 x0 x1 x2 x3 == -1) then 11 else bif (g126 x0 x1 x2 x3 == -2) then 5 else 0) := by
  have c := chk55 x0 x1 x2 h
  have e := (last0 x0 x2 (by omega) (by omega) (by omega)).2
  simp only [g127_0, g127_1, g126, e]
  by_cases a : x3 < x0
  · simp [a]
  · simp only [a, decide_false, cond_false]
    have w : IntKind.i64.wrap (x3 - x0) = x3 - x0 := wrap64 (by omega) (by omega)
    rw [w]
    by_cases b : x3 = x0
    · have b1 : (x3 == x0) = true := by simp [b]
      have b2 : ¬ x3 > x0 + (x2.n : Int) := by omega
      have b3 : (x1 == -1) = false := by simp; omega
      have b4 : (x1 == -2) = false := by simp; omega
      simp only [b1, b2, b3, b4, decide_false, cond_true, cond_false, and_self]
    · have b1 : (x3 == x0) = false := by simp [b]
      by_cases d : x3 - x0 > (x2.n : Int)
      · have d1 : x3 > x0 + (x2.n : Int) := by omega
        simp [b1, d, d1]
      · have d1 : ¬ x3 > x0 + (x2.n : Int) := by omega
        have w2 : IntKind.i64.wrap (x3 - x0 - 1) = x3 - x0 - 1 := wrap64 (by omega) (by omega)
        have h1 := items55 x0 x1 x2 h (x3 - x0 - 1).toNat (by omega)
        have d2 : ((x2.at' (x3 - x0 - 1).toNat).c0 == -1) = false := by rw [beq_eq_false_iff_ne]; omega
        have d3 : ((x2.at' (x3 - x0 - 1).toNat).c0 == -2) = false := by rw [beq_eq_false_iff_ne]; omega
        simp only [w2, b1, d, d1, d2, d3, decide_false, cond_false, and_self]
end Go.Proofs.YtchhfojblmceiaaGreat
namespace Go.Proofs.YtchhfojblmceiaaGreat
open Go Go.Vc Go.RowKit
set_option maxRecDepth 100000
theorem same71 (x y : Sl T68) (hn : x.n ≤ 549755813888) (h1 : x.n = y.n) (h2 : ∀ i, i < x.n → x.at' i = y.at' i) : g71 x y = true := by
  have hs : g71_r1 x y = (false, default) := by
    rw [g71_r1, scan0 (g71_l2 x y) x.n _ (fun _ => false) hn (fun k i => rfl)]
    refine scan_clean _ _ fun j h3 h4 => ?_
    rw [h2 j.toNat (by omega)]
    simp
  simp [g71, g71_p2, hs, h1]
theorem same68 (a b : Int) (x y : Sl T68) (hn : x.n ≤ 549755813888) (h1 : x.n = y.n) (h2 : ∀ i, i < x.n → x.at' i = y.at' i) : g68 a b x a b y = true := by
  simp [g68, g68_m1, same71 x y hn h1 h2]
theorem rest67 (x0 : Int) (x2 : Sl T68) (x3 : Int) (h0 : 0 ≤ x0 ∧ x0 ≤ 1048576) (hn : x2.n ≤ 200) (h3 : x0 ≤ x3 ∧ x3 ≤ x0 + (x2.n : Int)) (e : g125 x0 x2 = x0 + (x2.n : Int)) :
    g67_r1 x0 x2 x3 = tab (fun i => x2.at' (Int.toNat (IntKind.i64.wrap (IntKind.i64.wrap (i - x0) - 1)))) (x3 + 1) (x0 + (x2.n : Int) - x3).toNat := by
  rw [g67_r1, wrap64 (x := x3 + 1) (by omega) (by omega)]
  have := copyLe (g67_l4 x0 x2) (g125 x0 x2) (fun i => x2.at' (Int.toNat (IntKind.i64.wrap (IntKind.i64.wrap (i - x0) - 1)))) (by omega) (fun _ _ _ => rfl) (x0 + (x2.n : Int) - x3).toNat (Int.toNat (g125 x0 x2 + 1 - (x3 + 1))) (x3 + 1) nilSl Canon.nil (by omega) (by omega) (by omega)
  rw [nil_app] at this
  exact this
end Go.Proofs.YtchhfojblmceiaaGreat
/-
  What is left of a log behind a snap: the reference's is the program's.
-/
namespace Go.Proofs.YtchhfojblmceiaaGreat
open Go Go.Vc Go.RowKit
set_option maxRecDepth 100000
set_option maxHeartbeats 4000000
theorem B_ext {α : Type} {a b : Sl α} (h1 : a.n = b.n) (h2 : ∀ i, i < a.n → a.at' i = b.at' i) : a.B = b.B := by
  apply List.ext_getElem?
  intro i
  rw [B_some, B_some]
  by_cases h : i < a.n
  · rw [if_pos h, if_pos (by omega), h2 i h]
  · rw [if_neg h, if_neg (by omega)]
theorem part67 (x0 x1 : Int) (x2 : Sl T68) (x3 : Int) (hz : g55 x0 x1 x2 = 0) (ha : g126 x0 x1 x2 x3 ≠ -1) (hb : g126 x0 x1 x2 x3 ≠ -2) : (g67_r1 x0 x2 x3).B = (Sl.part x2 (IntKind.i64.wrap (x3 - x0)) ((x2.n : Nat) : Int)).B := by
  have c := chk55 x0 x1 x2 hz
  have k := chk126 x0 x1 x2 x3 ⟨⟨ha, hb⟩, by omega, by omega⟩
  have w := wrap64 (x := x3 - x0) (by omega) (by omega)
  rw [rest67 x0 x2 x3 (by omega) (by omega) (by omega) k.2, w]
  refine (B_ext (by simp only [Sl.part_n, tab]; omega) fun i hi => ?_).symm
  simp only [Sl.part_n] at hi
  simp only [Sl.part, tab, blt_t (show i < (x0 + (x2.n : Int) - x3).toNat by omega), cond_true]
  rw [wrap64 (x := x3 + 1 + (i : Int) - x0) (by omega) (by omega), wrap64 (x := x3 + 1 + (i : Int) - x0 - 1) (by omega) (by omega)]
  congr 1; omega
theorem rest_eq {x0 x1 : Int} {x2 : Sl T68} (h : LV x0 x1 x2) {x3 x4 : Int} (h3 : 1 ≤ x3 ∧ x3 ≤ 1048576) (h4 : 1 ≤ x4 ∧ x4 ≤ 1048576) : g178_0 x0 x1 x2 x3 x4 = g177_0 x0 x1 x2 x3 x4 ∧ g178_1 x0 x1 x2 x3 x4 = g177_1 x0 x1 x2 x3 x4 ∧ (g178_2 x0 x1 x2 x3 x4).B = (g177_2 x0 x1 x2 x3 x4).B := by
  have hz := lv_to h
  have hn := h.n
  have hb0 := h.b0
  have h53 := lv53' h
  obtain ⟨t1, t2⟩ := terms x0 x1 x2 x3 hz (by omega)
  have hm62 : g62_m1 x3 = false := by
    simp [g62_m1]; omega
  have h55 : (g55 x0 x1 x2 != 0) = false := by rw [hz]; rfl
  have h53' : (g53 x0 x1 x2 != 0) = false := by rw [h53]; rfl
  simp only [g177_0, g177_1, g177_2, g178_0, g178_1, g178_2, g177_m1, g62_0, g62_1, hm62, g66_0_0, g66_0_1, g66_0_2, g67_0_0, g67_0_1, g67_0_2, h53', h55, cond_false]
  cases ha : (g126 x0 x1 x2 x3 == -1) with
  | true =>
    have e := eq_of_beq ha
    rw [ha] at t2; simp only [cond_true] at t2
    have : ((-1 : Int) == x4) = false := by simp; omega
    simp [t2, e, this]
  | false =>
    cases hb : (g126 x0 x1 x2 x3 == -2) with
    | true =>
      have e := eq_of_beq hb
      rw [ha, hb] at t2; simp only [cond_true, cond_false] at t2
      have : ((-2 : Int) == x4) = false := by simp; omega
      simp [t2, e, this]
    | false =>
      rw [ha, hb] at t1 t2
      simp only [cond_false] at t1 t2
      have hs := part67 x0 x1 x2 x3 hz (ne_of_beq_false ha) (ne_of_beq_false hb)
      simp only [t1, t2, beq_self_eq_true, bne_self_eq_false, cond_true, cond_false]
      cases g126 x0 x1 x2 x3 == x4
      · simp only [cond_false, and_self]
      · simp only [cond_true, true_and]; exact hs
theorem lv_congr {b t : Int} {s u : Sl T68} (h : LV b t s) (e : u.B = s.B) : LV b t u := by
  have hn : u.n = s.n := by rw [← B_len u, ← B_len s, e]
  have hat : ∀ i, i < u.n → u.at' i = s.at' i := fun i hi => by
    have h1 := B_some u i
    rw [e, B_some, if_pos hi, if_pos (by omega)] at h1
    exact (Option.some.inj h1).symm
  exact ⟨h.b0, h.t0, h.z, by rw [hn]; exact h.n, by rw [hn]; exact h.top, fun i hi => by rw [hat i hi]; exact h.ok i (by omega), fun i hi => by rw [hat i (by omega), hat (i + 1) hi]; exact h.rise i (by omega)⟩
theorem gl178 {b t : Int} {s : Sl T68} (h : GL b t s) {p u : Int} (hp : 1 ≤ p ∧ p ≤ 1048576) (hu : 1 ≤ u ∧ u ≤ 1048576) : GL (g178_0 b t s p u) (g178_1 b t s p u) (g178_2 b t s p u) := by
  have hv := lv53 h
  obtain ⟨e0, e1, e2⟩ := rest_eq hv hp hu
  rw [e0, e1]
  exact lv53' (lv_congr (lv_rest hv hp hu) e2)
theorem rcs96 {s : Sl T122} {i : Nat} (hp : RCS s) (h : (g96 (s.at' i).c0 (s.at' i).c1 (s.at' i).c2 (s.at' i).c3 (s.at' i).c4 (s.at' i).c5 (s.at' i).c6 (s.at' i).c7 (s.at' i).c8 (s.at' i).c9 (s.at' i).c10 (s.at' i).c11 (s.at' i).c12 (s.at' i).c13 (s.at' i).c14 (s.at' i).c15 (s.at' i).c16 (s.at' i).c17 (s.at' i).c18 (s.at' i).c19 != 0) = false) :
    ((s.at' i).c0 = 3 ∧ (1 ≤ (s.at' i).c14 ∧ (s.at' i).c14 ≤ 1048576) ∧ (1 ≤ (s.at' i).c15 ∧ (s.at' i).c15 ≤ 1048576)) ∨ ((s.at' i).c0 = 2 ∧ (1 ≤ (s.at' i).c3 ∧ (s.at' i).c3 ≤ 1048576)) ∨ (s.at' i).c0 = 1 := by
  obtain ⟨q1, q2⟩ := hp.2 i
  rw [← eq94 q1 q2] at h
  exact rcs94 hp h
end Go.Proofs.YtchhfojblmceiaaGreat
/-
  Walks: what functions of the program answer, as functions.
-/
namespace Go.Proofs.YtchhfojblmceiaaGreat
open Go Go.Vc Go.RowKit
set_option maxRecDepth 100000
set_option maxHeartbeats 4000000
end Go.Proofs.YtchhfojblmceiaaGreat
namespace Go.Vc
open Go Go.RowKit
end Go.Vc
namespace Go.Proofs.YtchhfojblmceiaaGreat
open Go Go.Vc Go.RowKit
set_option maxRecDepth 100000
end Go.Proofs.YtchhfojblmceiaaGreat
/-
  Walks: what functions of the program answer, as functions.
-/
namespace Go.Proofs.YtchhfojblmceiaaGreat
open Go Go.Vc Go.RowKit
set_option maxRecDepth 100000
set_option maxHeartbeats 4000000
end Go.Proofs.YtchhfojblmceiaaGreat
