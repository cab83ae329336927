/-
  What is proved: a part of the laws of this seat, in plain Lean.
-/
import Derived.Test.YtchhfojblmceiaaJ3
import Derived.Test.YtchhfojblmceiaaPD
namespace Go.Proofs.Ytchhfojblmceiaa
open Go Go.Vc Go.RowKit
set_option maxRecDepth 100000
theorem three_eq (n : Int) (h0 : 0 ≤ n) (h1 : n ≤ 1099511627776) : (g181 n).B = (g183 n).B := by
  unfold g181 g183
  rw [B_lit, B_lit, Int.tdiv_eq_ediv_of_nonneg h0, Int.tdiv_eq_ediv_of_nonneg h0, Int.tmod_eq_emod_of_nonneg h0, wrap64 (x := n / 65536) (by omega) (by omega), wrap64 (x := n / 256) (by omega) (by omega), Int.tmod_eq_emod_of_nonneg (show 0 ≤ n / 256 by omega)]
  show [IntKind.u8.wrap (n / 65536), IntKind.u8.wrap (n / 256), IntKind.u8.wrap n] = _
  simp only [IntKind.wrap_u8]
  rw [show n / 256 % 256 % 256 = n / 256 % 256 by omega, show n % 256 % 256 = n % 256 by omega]
theorem enc_eq (x2 x3 x4 x5 x6 x7 : Int) (x8 : Bool) (x9 x10 x11 : Int) (x12 x13 x14 : ByteArray) (x15 x16 x17 x18 : Int) (x19 : Sl T175) (x20 : Int) (x21 : Sl T137) (hE : CE x19) (hC : CC x21) (s12 : x12.size ≤ 10000000000) (s13 : x13.size ≤ 10000000000) (s14 : x14.size ≤ 10000000000) (h : g94 x2 x3 x4 x5 x6 x7 x8 x9 x10 x11 x12 x13 x14 x15 x16 x17 x18 x19 x20 x21 = 0) : (g179 x2 x3 x4 x5 x6 x7 x8 x9 x10 x11 x12 x13 x14 x15 x16 x17 x18 x19 x20 x21).B = (g182 x2 x3 x4 x5 x6 x7 x8 x9 x10 x11 x12 x13 x14 x15 x16 x17 x18 x19 x20 x21).B := by
  have k1 : ∀ (z y : Int), (g109 (Sl.lit [z]) (g183 y)).n = 4 := fun z y => by
    rw [n109 _ _ (by rw [len183]; show 1 + 3 ≤ _; omega), len183]; rfl
  have k2 : ∀ (z y : Int), (g109 (Sl.lit [z]) (g183 y)).B = [z] ++ (g183 y).B := fun z y => by
    rw [r_app _ _ (by rw [len183]; show 1 + 3 ≤ _; omega), B_lit]
  unfold g179 g182
  rcases rec_ok h with ⟨e, r1, _⟩ | ⟨e, r3, hi⟩ | ⟨e, r14, r15, hm⟩
  · rw [e]
    simp only [beq_self_eq_true, cond_true]
    rw [B_app, B_app, B_app, B_lit, k2, three_eq x3 (by omega) (by omega)]
  · rw [e]
    simp only [beq_self_eq_true, Int.reduceBEq, cond_true, cond_false]
    have l := len129 x6 x7 x8 x9 x10 x11 x12 x13 x14 x15 ⟨s12, s13, s14⟩
    have ib : (g64_0 x6 x7 x8 x9 x10 x11 x12 x13 x14 x15).B = (g129 x6 x7 x8 x9 x10 x11 x12 x13 x14 x15).B := by
      unfold g64_0
      rw [show (g51 x6 x7 x8 x9 x10 x11 x12 x13 x14 x15 != 0) = false by simp [hi]]
      exact item_bytes _ _ _ _ _ _ _ _ _ _ s12 s13 s14 hi
    rw [B_app, B_app, B_lit, r_app _ _ (by rw [k1]; omega), k2, three_eq x5 (by omega) (by omega), ib]
  · rw [e]
    simp only [Int.reduceBEq, cond_false]
    have hM := chk84 _ _ _ _ hE hC hm
    have l := len90 x18 x19 x20 x21 ⟨hE, hC⟩
    have l2 := len159 x18 x19 x20 x21 hM
    have k3 : (g109 (g109 (Sl.lit [3]) (g183 x16)) (g183 x17)).n = 7 := by rw [n109 _ _ (by rw [k1, len183]; omega), k1, len183]
    have mbq : (g90_0 x18 x19 x20 x21).B = (g159 x18 x19 x20 x21).B := by
      unfold g90_0
      rw [show (g84 x18 x19 x20 x21 != 0) = false by simp [hm]]
      simp only [cond_false]
      rw [B90 hM, B159 hM]
    rw [B180_4 (by show 1 ≤ _; omega) (by rw [len181]; omega) (by rw [len181]; omega) (by omega), r_app _ _ (by rw [k3]; omega), r_app _ _ (by rw [k1, len183]; omega), k2, B_lit, three_eq x16 (by omega) (by omega), three_eq x17 (by omega) (by omega), mbq]
    simp only [List.append_assoc]
theorem o107 (x0 : Sl Int) (x1 : Int) : g107_1 x0 x1 = g108 x0 x1 := by
  unfold g107_1 g107_m1 g108 g108_m1 g112 g112_m1
  by_cases a : x1 < 0
  · rw [decide_eq_true a, decide_eq_false (show ¬ x1 ≥ 0 by omega)]
    cases decide ((x0.n : Int) ≤ 400000) <;> rfl
  · rw [decide_eq_false a, decide_eq_true (show x1 ≥ 0 by omega)]
    by_cases b : x1 > (x0.n : Int)
    · rw [decide_eq_true b, decide_eq_false (show ¬ x1 ≤ (x0.n : Int) by omega)]
      cases decide ((x0.n : Int) ≤ 400000) <;> rfl
    · rw [decide_eq_false b, decide_eq_true (show x1 ≤ (x0.n : Int) by omega)]
      by_cases c : (x0.n : Int) > 400000
      · rw [decide_eq_true c, decide_eq_false (show ¬ (x0.n : Int) ≤ 400000 by omega)]; rfl
      · rw [decide_eq_false c, decide_eq_true (show (x0.n : Int) ≤ 400000 by omega)]; rfl
theorem tail_eq (x0 : Sl Int) (x1 : Int) (b b' : Sl Int) (hB : b.B = b'.B) (h0 : x0.n ≤ 400000) (hb : b.n ≤ 50000000000) :
    decide (IntKind.i64.wrap (IntKind.i64.wrap ((x0.n : Int) + 3) + ((b.n : Nat) : Int)) > 400000) = decide (IntKind.i64.wrap ((x0.n : Int) + (((g109 (g183 ((b'.n : Nat) : Int)) b').n : Nat) : Int)) > 400000) ∧
    (decide (IntKind.i64.wrap (IntKind.i64.wrap ((x0.n : Int) + 3) + ((b.n : Nat) : Int)) > 400000) = false → (g180 (Sl.lit [x0, g181 ((b.n : Nat) : Int), b])).B = (g109 x0 (g109 (g183 ((b'.n : Nat) : Int)) b')).B) := by
  have hn : b.n = b'.n := by rw [← B_len, ← B_len, hB]
  have l : (g109 (g183 ((b'.n : Nat) : Int)) b').n = 3 + b'.n := by rw [n109 _ _ (by rw [len183]; omega), len183]
  rw [l, wrap64 (x := (x0.n : Int) + 3) (by omega) (by omega), wrap64 (by omega) (by omega), wrap64 (by omega) (by omega), hn]
  refine ⟨by rw [show (x0.n : Int) + 3 + ((b'.n : Nat) : Int) = (x0.n : Int) + ((3 + b'.n : Nat) : Int) by omega], fun c => ?_⟩
  have c := of_decide_eq_false c
  rw [B180_3 (by omega) (by rw [len181]; omega) (by omega), r_app _ _ (by rw [l]; omega), r_app _ _ (by rw [len183]; omega), three_eq _ (by omega) (by omega), hB]
theorem main30 (x0 : Sl Int) (x1 : Int) (x2 x3 x4 x5 x6 x7 : Int) (x8 : Bool) (x9 x10 x11 : Int) (x12 x13 x14 : ByteArray) (x15 x16 x17 x18 : Int) (x19 : Sl T175) (x20 : Int) (x21 : Sl T137) (hE : CE x19) (hC : CC x21) (s12 : x12.size ≤ 10000000000) (s13 : x13.size ≤ 10000000000) (s14 : x14.size ≤ 10000000000) :
    g99_1 x0 x1 x2 x3 x4 x5 x6 x7 x8 x9 x10 x11 x12 x13 x14 x15 x16 x17 x18 x19 x20 x21 = g100_1 x0 x1 x2 x3 x4 x5 x6 x7 x8 x9 x10 x11 x12 x13 x14 x15 x16 x17 x18 x19 x20 x21 ∧ (g99_0_0 x0 x1 x2 x3 x4 x5 x6 x7 x8 x9 x10 x11 x12 x13 x14 x15 x16 x17 x18 x19 x20 x21).B = (g100_0_0 x0 x1 x2 x3 x4 x5 x6 x7 x8 x9 x10 x11 x12 x13 x14 x15 x16 x17 x18 x19 x20 x21).B ∧ g99_0_1 x0 x1 x2 x3 x4 x5 x6 x7 x8 x9 x10 x11 x12 x13 x14 x15 x16 x17 x18 x19 x20 x21 = g100_0_1 x0 x1 x2 x3 x4 x5 x6 x7 x8 x9 x10 x11 x12 x13 x14 x15 x16 x17 x18 x19 x20 x21 := by
  unfold g99_1 g99_0_0 g99_0_1 g100_1 g100_0_0 g100_0_1
  rw [o107 x0 x1]
  cases h1 : g108 x0 x1 with
  | false =>
    simp only [Bool.not_false, cond_true]
    exact ⟨trivial, trivial, trivial⟩
  | true =>
    have hb := h108 x0 x1 h1
    have hm : g107_m1 x0 x1 = false := by
      have := (o107 x0 x1).trans h1
      unfold g107_1 at this
      cases e : g107_m1 x0 x1 with
      | false => rfl
      | true => rw [e] at this; cases this
    have e1 : g107_0_0 x0 x1 = x0 := by unfold g107_0_0; rw [hm]; rfl
    have e2 : g107_0_1 x0 x1 = x1 := by unfold g107_0_1; rw [hm]; rfl
    have e94 : g94 x2 x3 x4 x5 x6 x7 x8 x9 x10 x11 x12 x13 x14 x15 x16 x17 x18 x19 x20 x21 = g96 x2 x3 x4 x5 x6 x7 x8 x9 x10 x11 x12 x13 x14 x15 x16 x17 x18 x19 x20 x21 := eq94 hE hC
    rw [e1, e2, e94]
    simp only [Bool.not_true, cond_false]
    by_cases z : g96 x2 x3 x4 x5 x6 x7 x8 x9 x10 x11 x12 x13 x14 x15 x16 x17 x18 x19 x20 x21 = 0
    · have z1 : (g96 x2 x3 x4 x5 x6 x7 x8 x9 x10 x11 x12 x13 x14 x15 x16 x17 x18 x19 x20 x21 != 0) = false := by simp [z]
      simp only [z1, cond_false]
      have q := tail_eq x0 x1 _ _ (enc_eq x2 x3 x4 x5 x6 x7 x8 x9 x10 x11 x12 x13 x14 x15 x16 x17 x18 x19 x20 x21 hE hC s12 s13 s14 (e94.trans z)) (by omega) (len179 x2 x3 x4 x5 x6 x7 x8 x9 x10 x11 x12 x13 x14 x15 x16 x17 x18 x19 x20 x21 ⟨hE, hC⟩ ⟨s12, s13, s14⟩)
      rw [← q.1]
      cases c : decide (IntKind.i64.wrap (IntKind.i64.wrap ((x0.n : Int) + 3) + (((g179 x2 x3 x4 x5 x6 x7 x8 x9 x10 x11 x12 x13 x14 x15 x16 x17 x18 x19 x20 x21).n : Nat) : Int)) > 400000) with
      | true => simp only [cond_true]; exact ⟨trivial, trivial, trivial⟩
      | false => simp only [cond_false]; exact ⟨trivial, q.2 c, trivial⟩
    · have z1 : (g96 x2 x3 x4 x5 x6 x7 x8 x9 x10 x11 x12 x13 x14 x15 x16 x17 x18 x19 x20 x21 != 0) = true := by simp [z]
      simp only [z1, cond_true]
      exact ⟨trivial, trivial, trivial⟩
end Go.Proofs.Ytchhfojblmceiaa
namespace Go.Vc
theorem wf8 {x : Int} (h : (Go.Lit.int .u8 x).wf = true) : 0 ≤ x ∧ x ≤ 255 := by
  simp only [Go.Lit.wf, Bool.and_eq_true, decide_eq_true_eq] at h
  exact h
end Go.Vc
namespace Go.Proofs.Ytchhfojblmceiaa
open Go Go.Vc Go.RowKit
set_option maxRecDepth 100000
theorem g41_same (a b : Sl Int) (y : Int) (h : a.B = b.B) : g41 a y b y = true := by
  unfold g41 g41_m1
  rw [toStr_B, toStr_B, h]
  simp
theorem law30 (x0 : Sl Int) (x1 : Int) (x2 x3 x4 x5 x6 x7 : Int) (x8 : Bool) (x9 x10 x11 : Int) (x12 x13 x14 : ByteArray) (x15 x16 x17 x18 : Int) (x19 : Sl T175) (x20 : Int) (x21 : Sl T137) (_ : Canon x0) (_ : x0.n ≤ 1048576) (_ : U8 x0) (_ : -9223372036854775808 ≤ x1 ∧ x1 ≤ 9223372036854775807) (_ : -9223372036854775808 ≤ x2 ∧ x2 ≤ 9223372036854775807) (_ : -9223372036854775808 ≤ x3 ∧ x3 ≤ 9223372036854775807) (_ : -9223372036854775808 ≤ x4 ∧ x4 ≤ 9223372036854775807) (_ : -9223372036854775808 ≤ x5 ∧ x5 ≤ 9223372036854775807) (_ : -9223372036854775808 ≤ x6 ∧ x6 ≤ 9223372036854775807) (_ : -9223372036854775808 ≤ x7 ∧ x7 ≤ 9223372036854775807) (_ : -9223372036854775808 ≤ x9 ∧ x9 ≤ 9223372036854775807) (_ : -9223372036854775808 ≤ x10 ∧ x10 ≤ 9223372036854775807) (_ : -9223372036854775808 ≤ x11 ∧ x11 ≤ 9223372036854775807) (s12 : x12.size ≤ 1048576) (s13 : x13.size ≤ 1048576) (s14 : x14.size ≤ 1048576) (_ : -9223372036854775808 ≤ x15 ∧ x15 ≤ 9223372036854775807) (_ : -9223372036854775808 ≤ x16 ∧ x16 ≤ 9223372036854775807) (_ : -9223372036854775808 ≤ x17 ∧ x17 ≤ 9223372036854775807) (_ : -9223372036854775808 ≤ x18 ∧ x18 ≤ 9223372036854775807) (c19 : Canon x19) (n19 : x19.n ≤ 1048576) (w19 : ∀ i, i < x19.n → W175 (x19.at' i)) (_ : -9223372036854775808 ≤ x20 ∧ x20 ≤ 9223372036854775807) (c21 : Canon x21) (n21 : x21.n ≤ 1048576) (w21 : ∀ i, i < x21.n → W137 (x21.at' i)) : g30 x0 x1 x2 x3 x4 x5 x6 x7 x8 x9 x10 x11 x12 x13 x14 x15 x16 x17 x18 x19 x20 x21 = true := by
  have hE : CE x19 := ⟨c19, n19, w19⟩
  have hC : CC x21 := ⟨c21, n21, w21⟩
  have e17 : g95_17 x19 = x19 := ce79 hE
  have e19 : g95_19 x21 = x21 := cc85 hC
  obtain ⟨h1, h2, h3⟩ := main30 x0 x1 x2 x3 x4 x5 x6 x7 x8 x9 x10 x11 x12 x13 x14 x15 x16 x17 x18 x19 x20 x21 hE hC (by omega) (by omega) (by omega)
  show g30_m1 x0 x1 x2 x3 x4 x5 x6 x7 x8 x9 x10 x11 x12 x13 x14 x15 x16 x17 x18 x19 x20 x21 = true
  unfold g30_m1
  rw [e17, e19]
  show (bif (g99_1 x0 x1 x2 x3 x4 x5 x6 x7 x8 x9 x10 x11 x12 x13 x14 x15 x16 x17 x18 x19 x20 x21 == g100_1 x0 x1 x2 x3 x4 x5 x6 x7 x8 x9 x10 x11 x12 x13 x14 x15 x16 x17 x18 x19 x20 x21) then (bif g41 (g99_0_0 x0 x1 x2 x3 x4 x5 x6 x7 x8 x9 x10 x11 x12 x13 x14 x15 x16 x17 x18 x19 x20 x21) (g99_0_1 x0 x1 x2 x3 x4 x5 x6 x7 x8 x9 x10 x11 x12 x13 x14 x15 x16 x17 x18 x19 x20 x21) (g100_0_0 x0 x1 x2 x3 x4 x5 x6 x7 x8 x9 x10 x11 x12 x13 x14 x15 x16 x17 x18 x19 x20 x21) (g100_0_1 x0 x1 x2 x3 x4 x5 x6 x7 x8 x9 x10 x11 x12 x13 x14 x15 x16 x17 x18 x19 x20 x21) then g41 x0 x1 x0 x1 else false) else false) = true
  rw [h1, h3, g41_same _ _ _ h2, g41_same _ _ _ rfl]
  simp
end Go.Proofs.Ytchhfojblmceiaa
