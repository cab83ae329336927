/-
  What is proved: a part of the laws of this seat, in plain Lean.
-/
import Derived.Test.YtchhfojblmceiaaGreatH13
import Derived.Test.YtchhfojblmceiaaGreatP23
import Derived.Test.YtchhfojblmceiaaGreatPA
import Derived.Test.YtchhfojblmceiaaGreatPsm
namespace Go.Proofs.YtchhfojblmceiaaGreat
open Go Go.Vc Go.RowKit
set_option maxRecDepth 100000
/-- A reading: bytes stay bytes, the place goes on by no more than so much, both sides stand alike; where it is good, it was good and something holds. -/
def Ok (x s : Sl Int) (b : Bool) (a : Int) (s' : Sl Int) (b' : Bool) (a' D : Int) (e : Prop) : Prop :=
  U8 s' ∧ a ≤ a' ∧ a' ≤ a + D ∧ Rd x s' b' a' ∧ (b' = false → b = false ∧ e)
theorem Ok.trans {x s s1 s2 : Sl Int} {b b1 b2 : Bool} {a a1 a2 D1 D2 : Int} {e1 e2 : Prop} (h : Ok x s b a s1 b1 a1 D1 e1) (k : Ok x s1 b1 a1 s2 b2 a2 D2 e2) : Ok x s b a s2 b2 a2 (D1 + D2) (e1 ∧ e2) := by
  obtain ⟨_, h2, h3, _, h5⟩ := h
  obtain ⟨k1, k2, k3, k4, k5⟩ := k
  exact ⟨k1, by omega, by omega, k4, fun g => ⟨(h5 (k5 g).1).1, (h5 (k5 g).1).2, (k5 g).2⟩⟩
theorem Ok.weaken {x s s1 : Sl Int} {b b1 : Bool} {a a1 D1 D2 : Int} {e1 e2 : Prop} (h : Ok x s b a s1 b1 a1 D1 e1) (hD : D1 ≤ D2) (he : e1 → e2) : Ok x s b a s1 b1 a1 D2 e2 := by
  obtain ⟨h1, h2, h3, h4, h5⟩ := h
  exact ⟨h1, h2, by omega, h4, fun g => ⟨(h5 g).1, he (h5 g).2⟩⟩
section
variable {x s : Sl Int} {b : Bool} {a : Int}
theorem ok_byte (hn : x.n ≤ 20000) (hS : U8 s) (h0 : 0 ≤ a) (h1 : a ≤ 5000000000000) (h : Rd x s b a) : Ok x s b a (g167_h0_0 s b) (g167_h0_1 s b) (g170_h0_1 a) 1 (g167 s b = g170 x a) := by
  have q := q170 a (by omega)
  obtain ⟨r1, r2⟩ := h.byte h0 hn
  rw [q]
  exact ⟨u167 hS, by omega, by omega, r1, fun g => ⟨(r2 g).1, (r2 g).2.2⟩⟩
theorem ok_word (hn : x.n ≤ 20000) (hU : U8 x) (hS : U8 s) (h0 : 0 ≤ a) (h1 : a ≤ 5000000000000) (h : Rd x s b a) : Ok x s b a (g161_h0_0 s b) (g161_h0_1 s b) (g169_h0_1 x a) 8 (g161 s b = g169 x a) := by
  have q := q169 x a (by omega)
  obtain ⟨r1, r2⟩ := h.word h0 hn hU
  rw [q]
  exact ⟨u161 hS, by omega, by omega, r1, fun g => ⟨(r2 g).1, (r2 g).2.2⟩⟩
theorem ok_text (hn : x.n ≤ 20000) (hU : U8 x) (hS : U8 s) (h0 : 0 ≤ a) (h1 : a ≤ 5000000000000) (h : Rd x s b a) : Ok x s b a (g164_h0_0 s b) (g164_h0_1 s b) (g172_h0_1 x a) 256 (g164 s b = g172 x a) := by
  have q := q172 x a hU (by omega)
  cases b with
  | true =>
    rw [bad164]
    exact ⟨u164 hS, by omega, by omega, h.bad (by omega) _, fun g => by simp at g⟩
  | false =>
    have hg := h.good
    obtain ⟨r1, r2⟩ := h.text h0 (by omega) hn hU hS
    exact ⟨u164 hS, by omega, by omega, r1, fun g => ⟨rfl, (r2 g).2.2⟩⟩
end
/-- The same on both sides, few, and each of its kind. -/
def Good {α : Type} [Inhabited α] (W : α → Prop) (i : Int) (l l' : Sl α) : Prop := l = l' ∧ Canon l ∧ (l.n : Int) ≤ i ∧ ∀ j, j < l.n → W (l.at' j)
theorem Good.nil {α : Type} [Inhabited α] {W : α → Prop} : Good W 0 (nilSl : Sl α) nilSl := ⟨rfl, Canon.nil, Int.le_refl _, fun j h => absurd h (Nat.not_lt_zero j)⟩
theorem Good.one {α : Type} [Inhabited α] {W : α → Prop} {i : Int} {l l' : Sl α} {u v : α} (h : Good W i l l') (e : u = v) (w : W u) : Good W (i + 1) (l.app (Sl.lit [u])) (l'.app (Sl.lit [v])) := by
  obtain ⟨h1, h2, h3, h4⟩ := h
  subst h1 e
  have n1 : (l.app (Sl.lit [u])).n = l.n + 1 := rfl
  refine ⟨rfl, Canon.app (Canon.lit _), by omega, fun j hj => ?_⟩
  by_cases c : j < l.n
  · have : (l.app (Sl.lit [u])).at' j = l.at' j := by simp only [Sl.app, blt_t c, cond_true]
    rw [this]; exact h4 j c
  · have hj' : j = l.n := by omega
    subst hj'
    have : (l.app (Sl.lit [u])).at' l.n = u := by
      simp only [Sl.app, blt_f (Nat.le_refl _), cond_false, Nat.sub_self]; rfl
    rw [this]; exact w
/-- Readings again and again, as long as there are bytes. -/
theorem eachL {α : Type} [Inhabited α] (W : α → Prop) (x : Sl Int) (P : Nat → Int → Sl Int → Bool → Sl α → Sl Int × Bool × Sl α) (G : Nat → Int → Int → Sl α → Int × Sl α)
    (p0 : Sl Int → Bool → Sl Int) (p1 : Sl Int → Bool → Bool) (pv : Sl Int → Bool → α) (A : Int → Int) (gv : Int → α) (N L D : Int) (hN : N ≤ 255) (hD : 0 ≤ D)
    (hP : ∀ k n s b l, P (k + 1) n s b l = bif (bif decide (n > 0) then !b else false) then P k (IntKind.i64.wrap (n - 1)) (p0 s b) (p1 s b) (Sl.app l (Sl.lit [pv s b])) else (s, b, l))
    (hG : ∀ k i a l, G (k + 1) i a l = bif (bif decide (i < N) then !(g171 x a) else false) then G k (IntKind.i64.wrap (i + 1)) (A a) (Sl.app l (Sl.lit [gv a])) else (a, l))
    (hS : ∀ s b a, U8 s → 0 ≤ a → a ≤ L → Rd x s b a → Ok x s b a (p0 s b) (p1 s b) (A a) D (pv s b = gv a ∧ W (pv s b))) :
    ∀ (m : Nat) (n i : Int) (s : Sl Int) (b : Bool) (a : Int) (l l' : Sl α), 0 ≤ i → n + i = N → Int.toNat n ≤ m → U8 s → 0 ≤ a → a + (m : Int) * D ≤ L → Rd x s b a → (b = false → Good W i l l') → i ≤ N →
      Ok x s b a (P (m + 1) n s b l).1 (P (m + 1) n s b l).2.1 (G (m + 1) i a l').1 ((m : Int) * D) (Good W N (P (m + 1) n s b l).2.2 (G (m + 1) i a l').2)
  | m, n, i, s, true, a, l, l', hi, hni, hm, hU, ha, haL, hR, hg, hiN => by
    have p : 0 ≤ (m : Int) * D := Int.mul_nonneg (by omega) hD
    have hb : (x.n : Int) < a := by
      rcases hR with hR | hR
      · simp at hR
      · exact hR.2
    have c1 : (bif decide (n > 0) then !true else false) = false := by cases decide (n > 0) <;> rfl
    have c2 : (bif decide (i < N) then !(g171 x a) else false) = false := by
      unfold g171; rw [decide_eq_true (show a > (x.n : Int) by omega)]; cases decide (i < N) <;> rfl
    rw [hP, hG, c1, c2]
    exact ⟨hU, Int.le_refl _, by show a ≤ _; omega, hR, fun g => by simp at g⟩
  | 0, n, i, s, false, a, l, l', hi, hni, hm, hU, ha, haL, hR, hg, hiN => by
    have c1 : (bif decide (n > 0) then !false else false) = false := by rw [decide_eq_false (show ¬ n > 0 by omega)]; rfl
    have c2 : (bif decide (i < N) then !(g171 x a) else false) = false := by rw [decide_eq_false (show ¬ i < N by omega)]; rfl
    rw [hP, hG, c1, c2]
    obtain ⟨q1, q2, q3, q4⟩ := hg rfl
    exact ⟨hU, Int.le_refl _, by show a ≤ _; omega, hR, fun _ => ⟨rfl, q1, q2, by show (l.n : Int) ≤ N; omega, q4⟩⟩
  | m + 1, n, i, s, false, a, l, l', hi, hni, hm, hU, ha, haL, hR, hg, hiN => by
    have e : ((m + 1 : Nat) : Int) * D = (m : Int) * D + D := by rw [Int.natCast_succ, Int.add_mul]; omega
    have p : 0 ≤ (m : Int) * D := Int.mul_nonneg (by omega) hD
    have hgd := hR.good
    by_cases hn : n > 0
    · have c1 : (bif decide (n > 0) then !false else false) = true := by rw [decide_eq_true hn]; rfl
      have c2 : (bif decide (i < N) then !(g171 x a) else false) = true := by
        unfold g171; rw [decide_eq_true (show i < N by omega), decide_eq_false (show ¬ a > (x.n : Int) by omega)]; rfl
      rw [hP, hG, c1, c2]
      simp only [cond_true]
      have k := hS s false a hU ha (by omega) hR
      have hk := k
      obtain ⟨k1, k2, k3, k4, k5⟩ := hk
      rw [wrap64 (x := n - 1) (by omega) (by omega), wrap64 (x := i + 1) (by omega) (by omega)]
      have r := eachL W x P G p0 p1 pv A gv N L D hN hD hP hG hS m (n - 1) (i + 1) (p0 s false) (p1 s false) (A a) (Sl.app l (Sl.lit [pv s false])) (Sl.app l' (Sl.lit [gv a])) (by omega) (by omega) (by omega) k1 (by omega) (by omega) k4
        (fun g => (hg rfl).one (k5 g).2.1 (k5 g).2.2) (by omega)
      exact (k.trans r).weaken (by omega) fun q => q.2
    · have c1 : (bif decide (n > 0) then !false else false) = false := by rw [decide_eq_false hn]; rfl
      have c2 : (bif decide (i < N) then !(g171 x a) else false) = false := by rw [decide_eq_false (show ¬ i < N by omega)]; rfl
      rw [hP, hG, c1, c2]
      obtain ⟨q1, q2, q3, q4⟩ := hg rfl
      exact ⟨hU, Int.le_refl _, by show a ≤ _; omega, hR, fun _ => ⟨rfl, q1, q2, by show (l.n : Int) ≤ N; omega, q4⟩⟩
/-- So many of them, behind how many they are. -/
theorem ok_each {α : Type} [Inhabited α] (W : α → Prop) {x s : Sl Int} {b : Bool} {a : Int} (P : Nat → Int → Sl Int → Bool → Sl α → Sl Int × Bool × Sl α) (G : Nat → Int → Int → Sl α → Int × Sl α)
    (p0 : Sl Int → Bool → Sl Int) (p1 : Sl Int → Bool → Bool) (pv : Sl Int → Bool → α) (A : Int → Int) (gv : Int → α) (D L : Int) (hD : 0 ≤ D)
    (hP : ∀ k n s b l, P (k + 1) n s b l = bif (bif decide (n > 0) then !b else false) then P k (IntKind.i64.wrap (n - 1)) (p0 s b) (p1 s b) (Sl.app l (Sl.lit [pv s b])) else (s, b, l))
    (hG : ∀ k i a' l, G (k + 1) i a' l = bif (bif decide (i < g170 x a) then !(g171 x a') else false) then G k (IntKind.i64.wrap (i + 1)) (A a') (Sl.app l (Sl.lit [gv a'])) else (a', l))
    (hS : ∀ s b a, U8 s → 0 ≤ a → a ≤ L → Rd x s b a → Ok x s b a (p0 s b) (p1 s b) (A a) D (pv s b = gv a ∧ W (pv s b)))
    (hn : x.n ≤ 20000) (hU : U8 x) (hs : U8 s) (h0 : 0 ≤ a) (h1 : a + 1 + 255 * D ≤ L) (h2 : a ≤ 4000000000000) (h : Rd x s b a) :
    Ok x s b a (P (Int.toNat (g167 s b) + 1) (g167 s b) (g167_h0_0 s b) (g167_h0_1 s b) nilSl).1 (P (Int.toNat (g167 s b) + 1) (g167 s b) (g167_h0_0 s b) (g167_h0_1 s b) nilSl).2.1 (G (Int.toNat (g170 x a - 0) + 1) 0 (g170_h0_1 a) nilSl).1 (1 + 255 * D)
      (Good W 255 (P (Int.toNat (g167 s b) + 1) (g167 s b) (g167_h0_0 s b) (g167_h0_1 s b) nilSl).2.2 (G (Int.toNat (g170 x a - 0) + 1) 0 (g170_h0_1 a) nilSl).2) := by
  have k := ok_byte hn hs h0 (by omega) h
  have q := q170 a (by omega)
  have r := r170 x a hU
  obtain ⟨k1, k2, k3, k4, k5⟩ := k
  cases hb : g167_h0_1 s b with
  | true =>
    rw [hb] at k4
    have ha : (x.n : Int) < g170_h0_1 a := by
      rcases k4 with k4 | k4
      · simp at k4
      · exact k4.2
    have c1 : (bif decide (g167 s b > 0) then !true else false) = false := by cases decide (g167 s b > 0) <;> rfl
    have c2 : (bif decide ((0 : Int) < g170 x a) then !(g171 x (g170_h0_1 a)) else false) = false := by
      unfold g171; rw [decide_eq_true (show g170_h0_1 a > (x.n : Int) by omega)]; cases decide ((0 : Int) < g170 x a) <;> rfl
    rw [hP, hG, c1, c2]
    exact ⟨k1, k2, by show g170_h0_1 a ≤ _; omega, k4, fun g => by simp at g⟩
  | false =>
    have ev := (k5 hb).2
    have kk : Ok x s b a (g167_h0_0 s b) (g167_h0_1 s b) (g170_h0_1 a) 1 (g167 s b = g170 x a) := ⟨k1, k2, k3, k4, k5⟩
    rw [hb] at kk k4
    rw [ev, Int.sub_zero]
    have t := eachL W x P G p0 p1 pv A gv (g170 x a) L D (by omega) hD hP hG hS (Int.toNat (g170 x a)) (g170 x a) 0 (g167_h0_0 s b) false (g170_h0_1 a) nilSl nilSl (by omega) (by omega) (Nat.le_refl _) k1 (by omega) (by
      have : ((Int.toNat (g170 x a) : Nat) : Int) * D ≤ 255 * D := Int.mul_le_mul_of_nonneg_right (by omega) hD
      omega) k4 (fun _ => Good.nil) (by omega)
    refine (kk.trans t).weaken ?_ fun z => ?_
    · have : ((Int.toNat (g170 x a) : Nat) : Int) * D ≤ 255 * D := Int.mul_le_mul_of_nonneg_right (by omega) hD
      omega
    · obtain ⟨_, z1, z2, z3, z4⟩ := z
      exact ⟨z1, z2, by omega, z4⟩
end Go.Proofs.YtchhfojblmceiaaGreat
namespace Go.Proofs.YtchhfojblmceiaaGreat
open Go Go.Vc Go.RowKit
set_option maxRecDepth 100000
abbrev Any {α : Type} : α → Prop := fun _ => True
section
variable {x : Sl Int} (hn : x.n ≤ 20000) (hU : U8 x)
include hn hU
theorem ok_texts {s : Sl Int} {b : Bool} {a : Int} (hs : U8 s) (h0 : 0 ≤ a) (h1 : a ≤ 900000000000) (h : Rd x s b a) :
    Ok x s b a (g168_h0_0 s b) (g168_h0_1 s b) (g174_h0_1 x a) 65281 (Good Any 255 (g168 s b) (g174 x a)) :=
  (ok_each Any g162_208pp_l1 (g174_l1 x a) g208pp_h2_0 g208pp_h2_1 g164 (g172_h0_1 x) (g172 x) 256 1000000000000 (by omega) (fun _ _ _ _ _ => rfl) (fun _ _ _ _ => rfl)
    (fun s b a hs h0 h1 h => (ok_text hn hU hs h0 (by omega) h).weaken (Int.le_refl _) fun e => ⟨e, trivial⟩) hn hU hs h0 (by omega) (by omega) h).weaken (by omega) id
theorem ok_206 (x1 : Int) {s : Sl Int} {b : Bool} (hs : U8 s) (h0 : 0 ≤ g169_h0_1 x (g172_h0_1 x (g170_h0_1 x1))) (h1 : g169_h0_1 x (g172_h0_1 x (g170_h0_1 x1)) ≤ 900000000000) (h : Rd x s b (g169_h0_1 x (g172_h0_1 x (g170_h0_1 x1)))) :
    Ok x s b (g169_h0_1 x (g172_h0_1 x (g170_h0_1 x1))) (g162_206pp_h2_0 s b nilSl) (g162_206pp_h2_1 s b nilSl) (g173_r3 x x1).1 130561 (Good Any 255 (g162_206pp_h3_0 s b nilSl) (g173_r3 x x1).2) :=
  (ok_each Any g162_206pp_l1 (g173_l1 x x1) g206pp_h2_0 g206pp_h2_1 (fun s b => (⟨g164 s b, g164 (g164_h0_0 s b) (g164_h0_1 s b)⟩ : T160)) (fun a => g172_h0_1 x (g172_h0_1 x a)) (fun a => ⟨g172 x a, g172 x (g172_h0_1 x a)⟩) 512 1000000000000 (by omega) (fun _ _ _ _ _ => rfl) (fun _ _ _ _ => rfl)
    (fun s b a hs h0 h1 h => by
      have k1 := ok_text hn hU hs h0 (by omega) h
      have k2 := ok_text hn hU k1.1 (by have := k1.2.1; omega) (by have := k1.2.2.1; omega) k1.2.2.2.1
      exact (k1.trans k2).weaken (by omega) fun ⟨e1, e2⟩ => ⟨by rw [e1, e2], trivial⟩) hn hU hs h0 (by omega) (by omega) h).weaken (by omega) id
theorem ok_207 (x1 : Int) {s : Sl Int} {b : Bool} (hs : U8 s) (h0 : 0 ≤ g174_h0_1 x (g173_r3 x x1).1) (h1 : g174_h0_1 x (g173_r3 x x1).1 ≤ 900000000000) (h : Rd x s b (g174_h0_1 x (g173_r3 x x1).1)) :
    Ok x s b (g174_h0_1 x (g173_r3 x x1).1) (g162_207pp_h2_0 s b nilSl) (g162_207pp_h2_1 s b nilSl) (g173_h0_1 x x1) 67321 (Good Any 255 (g162_207pp_h4_0 s b nilSl) (g173_5 x x1)) :=
  (ok_each Any g162_207pp_l1 (g173_l13 x x1) g207pp_h2_0 g207pp_h2_1 (fun s b => (⟨g164 s b, g161 (g164_h0_0 s b) (g164_h0_1 s b)⟩ : T164)) (fun a => g169_h0_1 x (g172_h0_1 x a)) (fun a => ⟨g172 x a, g169 x (g172_h0_1 x a)⟩) 264 1000000000000 (by omega) (fun _ _ _ _ _ => rfl) (fun _ _ _ _ => rfl)
    (fun s b a hs h0 h1 h => by
      have k1 := ok_text hn hU hs h0 (by omega) h
      have k2 := ok_word hn hU k1.1 (by have := k1.2.1; omega) (by have := k1.2.2.1; omega) k1.2.2.2.1
      exact (k1.trans k2).weaken (by omega) fun ⟨e1, e2⟩ => ⟨by rw [e1, e2], trivial⟩) hn hU hs h0 (by omega) (by omega) h).weaken (by omega) id
theorem ok_value {s : Sl Int} {b : Bool} {a : Int} (hs : U8 s) (h0 : 0 ≤ a) (h1 : a ≤ 800000000000) (h : Rd x s b a) :
    Ok x s b a (g165_h0_0 s b) (g165_h0_1 s b) (g173_h0_1 x a) 1000000 ((g165_0 s b = g173_0 x a ∧ g165_1 s b = g173_1 x a ∧ g165_2 s b = g173_2 x a) ∧ Good Any 255 (g165_3 s b) (g173_3 x a) ∧ Good Any 255 (g165_4 s b) (g173_4 x a) ∧ Good Any 255 (g165_5 s b) (g173_5 x a)) := by
  have k1 := ok_byte hn hs h0 (by omega) h
  have b1 := k1.2.1; have c1 := k1.2.2.1
  have k2 := ok_text hn hU k1.1 (by omega) (by omega) k1.2.2.2.1
  have b2 := k2.2.1; have c2 := k2.2.2.1
  have k3 := ok_word hn hU k2.1 (by omega) (by omega) k2.2.2.2.1
  have b3 := k3.2.1; have c3 := k3.2.2.1
  have k4 := ok_206 hn hU a k3.1 (by omega) (by omega) k3.2.2.2.1
  have b4 := k4.2.1; have c4 := k4.2.2.1
  have k5 := ok_texts hn hU k4.1 (by omega) (by omega) k4.2.2.2.1
  have b5 := k5.2.1; have c5 := k5.2.2.1
  have k6 := ok_207 hn hU a k5.1 (by omega) (by omega) k5.2.2.2.1
  have K := k1.trans (k2.trans (k3.trans (k4.trans (k5.trans k6))))
  exact K.weaken (by omega) fun ⟨e1, e2, e3, e4, e5, e6⟩ => ⟨⟨e1, e2, e3⟩, e4, e5, e6⟩
end
end Go.Proofs.YtchhfojblmceiaaGreat
namespace Go.Proofs.YtchhfojblmceiaaGreat
open Go Go.Vc Go.RowKit
set_option maxRecDepth 100000
set_option maxHeartbeats 1000000
section
variable {x : Sl Int} (hn : x.n ≤ 20000) (hU : U8 x)
include hn hU
theorem ok_entry {s : Sl Int} {b : Bool} {a : Int} (hs : U8 s) (h0 : 0 ≤ a) (h1 : a ≤ 700000000000) (h : Rd x s b a) :
    Ok x s b a (g163pp_h2_0 s b) (g163pp_h2_1 s b) (g169_h0_1 x (g173_h0_1 x (g172_h0_1 x a))) 1000264
      ((⟨(g164 s b), (g165_0 (g164_h0_0 s b) (g164_h0_1 s b)), (g165_1 (g164_h0_0 s b) (g164_h0_1 s b)), (g165_2 (g164_h0_0 s b) (g164_h0_1 s b)), (g165_3 (g164_h0_0 s b) (g164_h0_1 s b)), (g165_4 (g164_h0_0 s b) (g164_h0_1 s b)), (g165_5 (g164_h0_0 s b) (g164_h0_1 s b)), (g161 (g165_h0_0 (g164_h0_0 s b) (g164_h0_1 s b)) (g165_h0_1 (g164_h0_0 s b) (g164_h0_1 s b)))⟩ : T175) =
        ⟨(g172 x a), (g173_0 x (g172_h0_1 x a)), (g173_1 x (g172_h0_1 x a)), (g173_2 x (g172_h0_1 x a)), (g173_3 x (g172_h0_1 x a)), (g173_4 x (g172_h0_1 x a)), (g173_5 x (g172_h0_1 x a)), (g169 x (g173_h0_1 x (g172_h0_1 x a)))⟩ ∧
       W175 (⟨(g164 s b), (g165_0 (g164_h0_0 s b) (g164_h0_1 s b)), (g165_1 (g164_h0_0 s b) (g164_h0_1 s b)), (g165_2 (g164_h0_0 s b) (g164_h0_1 s b)), (g165_3 (g164_h0_0 s b) (g164_h0_1 s b)), (g165_4 (g164_h0_0 s b) (g164_h0_1 s b)), (g165_5 (g164_h0_0 s b) (g164_h0_1 s b)), (g161 (g165_h0_0 (g164_h0_0 s b) (g164_h0_1 s b)) (g165_h0_1 (g164_h0_0 s b) (g164_h0_1 s b)))⟩ : T175)) := by
  have k1 := ok_text hn hU hs h0 (by omega) h
  have b1 := k1.2.1; have c1 := k1.2.2.1
  have k2 := ok_value hn hU k1.1 (by omega) (by omega) k1.2.2.2.1
  have b2 := k2.2.1; have c2 := k2.2.2.1
  have k3 := ok_word hn hU k2.1 (by omega) (by omega) k2.2.2.2.1
  refine (k1.trans (k2.trans k3)).weaken (by omega) fun ⟨e1, ⟨⟨v0, v1, v2⟩, ⟨v3, w3, n3, _⟩, ⟨v4, w4, n4, _⟩, v5, w5, n5, _⟩, e3⟩ => ?_
  refine ⟨?_, ⟨w3, ?_⟩, ⟨w4, ?_⟩, w5, ?_⟩
  · rw [e1, v0, v1, v2, v3, v4, v5, e3]
  · show (g165_3 _ _).n ≤ _; omega
  · show (g165_4 _ _).n ≤ _; omega
  · show (g165_5 _ _).n ≤ _; omega
theorem ok_entries {s : Sl Int} {b : Bool} (hs : U8 s) (h0 : 0 ≤ g169_h0_1 x 0) (h1 : g169_h0_1 x 0 ≤ 100) (h : Rd x s b (g169_h0_1 x 0)) :
    Ok x s b (g169_h0_1 x 0) (g162_163pp_h2_0 s b nilSl) (g162_163pp_h2_1 s b nilSl) (g93_r3 x).1 255067321 (Good W175 255 (g162_163pp_h3_0 s b nilSl) (g93_r3 x).2) :=
  (ok_each W175 g162_163pp_l1 (g93_l2 x) g163pp_h2_0 g163pp_h2_1 _ _ _ 1000264 700000000000 (by omega) (fun _ _ _ _ _ => rfl) (fun _ _ _ _ => rfl)
    (fun s b a hs h0 h1 h => ok_entry hn hU hs h0 h1 h) hn hU hs h0 (by omega) (by omega) h).weaken (by omega) id
theorem ok_client {s : Sl Int} {b : Bool} {a : Int} (hs : U8 s) (h0 : 0 ≤ a) (h1 : a ≤ 700000000000) (h : Rd x s b a) :
    ∃ u : T137, g166pp_h4_0 s b nilSl = Sl.app nilSl (Sl.lit [u]) ∧ (∀ l, g166pp_h4_0 s b l = Sl.app l (Sl.lit [u])) ∧
    Ok x s b a (g166pp_h2_0 s b) (g166pp_h2_1 s b) (g174_h0_1 x (g169_h0_1 x (g172_h0_1 x (g170_h0_1 (g169_h0_1 x (g169_h0_1 x (g169_h0_1 x a))))))) 65570
      (u = ⟨(g169 x a), (g169 x (g169_h0_1 x a)), (g169 x (g169_h0_1 x (g169_h0_1 x a))), (g170 x (g169_h0_1 x (g169_h0_1 x (g169_h0_1 x a)))), (g172 x (g170_h0_1 (g169_h0_1 x (g169_h0_1 x (g169_h0_1 x a))))), (g169 x (g172_h0_1 x (g170_h0_1 (g169_h0_1 x (g169_h0_1 x (g169_h0_1 x a)))))), (g174 x (g169_h0_1 x (g172_h0_1 x (g170_h0_1 (g169_h0_1 x (g169_h0_1 x (g169_h0_1 x a)))))))⟩ ∧ W137 u) := by
  have k1 := ok_word hn hU hs h0 (by omega) h
  have b1 := k1.2.1; have c1 := k1.2.2.1
  have k2 := ok_word hn hU k1.1 (by omega) (by omega) k1.2.2.2.1
  have b2 := k2.2.1; have c2 := k2.2.2.1
  have k3 := ok_word hn hU k2.1 (by omega) (by omega) k2.2.2.2.1
  have b3 := k3.2.1; have c3 := k3.2.2.1
  have k4 := ok_byte hn k3.1 (by omega) (by omega) k3.2.2.2.1
  have b4 := k4.2.1; have c4 := k4.2.2.1
  have k5 := ok_text hn hU k4.1 (by omega) (by omega) k4.2.2.2.1
  have b5 := k5.2.1; have c5 := k5.2.2.1
  have k6 := ok_word hn hU k5.1 (by omega) (by omega) k5.2.2.2.1
  have b6 := k6.2.1; have c6 := k6.2.2.1
  have k7 := ok_texts hn hU k6.1 (by omega) (by omega) k6.2.2.2.1
  refine ⟨_, rfl, fun _ => rfl, (k1.trans (k2.trans (k3.trans (k4.trans (k5.trans (k6.trans k7)))))).weaken (by omega) fun ⟨e1, e2, e3, e4, e5, e6, ⟨e7, w7, n7, _⟩⟩ => ?_⟩
  refine ⟨by rw [e1, e2, e3, e4, e5, e6, e7], w7, ?_⟩
  show (g168 _ _).n ≤ _; omega
end
end Go.Proofs.YtchhfojblmceiaaGreat
namespace Go.Proofs.YtchhfojblmceiaaGreat
open Go Go.Vc Go.RowKit
set_option maxRecDepth 100000
set_option maxHeartbeats 1000000
section
variable {x : Sl Int} (hn : x.n ≤ 20000) (hU : U8 x)
include hn hU
theorem ok_clients {s : Sl Int} {b : Bool} (hs : U8 s) (h0 : 0 ≤ g169_h0_1 x (g93_r3 x).1) (h1 : g169_h0_1 x (g93_r3 x).1 ≤ 300000000) (h : Rd x s b (g169_h0_1 x (g93_r3 x).1)) :
    Ok x s b (g169_h0_1 x (g93_r3 x).1) (g162_166pp_h2_0 s b nilSl) (g162_166pp_h2_1 s b nilSl) (g93_r6 x).1 16720351 (Good W137 255 (g162_166pp_h4_0 s b nilSl) (g93_r6 x).2) :=
  (ok_each W137 g162_166pp_l1 (g93_l14 x) g166pp_h2_0 g166pp_h2_1 (fun s b => (g166pp_h4_0 s b nilSl).at' 0) _ _ 65570 700000000000 (by omega) (fun _ _ _ _ _ => rfl) (fun _ _ _ _ => rfl)
    (fun s b a hs h0 h1 h => by
      obtain ⟨u, e1, _, k⟩ := ok_client hn hU hs h0 h1 h
      have e : (g166pp_h4_0 s b nilSl).at' 0 = u := by rw [e1]; rfl
      show Ok x s b a _ _ _ _ ((g166pp_h4_0 s b nilSl).at' 0 = _ ∧ W137 ((g166pp_h4_0 s b nilSl).at' 0))
      rw [e]; exact k) hn hU hs h0 (by omega) (by omega) h).weaken (by omega) id
end
theorem end_eq (ok : Bool) {x s : Sl Int} {b : Bool} {a : Int} (h : Rd x s b a) : g149 ok s b = g151 ok x a := by
  unfold g149 g151 g171
  cases b with
  | true =>
    rcases h with h | h
    · simp at h
    · rw [decide_eq_true (show a > (x.n : Int) by omega)]; rfl
  | false =>
    obtain ⟨r0, r1, r2, _⟩ := h.good
    rw [decide_eq_false (show ¬ (a > (x.n : Int)) by omega)]
    unfold g149_m1 g151_m1
    rw [show decide (((s.n : Nat) : Int) > 0) = decide (a < (x.n : Int)) from decide_eq_decide.mpr (by omega)]
noncomputable abbrev sA (x : Sl Int) : Sl Int := g161_h0_0 x false
noncomputable abbrev bA (x : Sl Int) : Bool := g161_h0_1 x false
noncomputable abbrev sB (x : Sl Int) : Sl Int := g162_163pp_h2_0 (sA x) (bA x) nilSl
noncomputable abbrev bB (x : Sl Int) : Bool := g162_163pp_h2_1 (sA x) (bA x) nilSl
noncomputable abbrev sC (x : Sl Int) : Sl Int := g161_h0_0 (sB x) (bB x)
noncomputable abbrev bC (x : Sl Int) : Bool := g161_h0_1 (sB x) (bB x)
noncomputable abbrev sD (x : Sl Int) : Sl Int := g162_166pp_h2_0 (sC x) (bC x) nilSl
noncomputable abbrev bD (x : Sl Int) : Bool := g162_166pp_h2_1 (sC x) (bC x) nilSl
theorem all27 (x : Sl Int) (hU : U8 x) (c : decide ((x.n : Int) > 20000) = false) :
    g149 true (sD x) (bD x) = g151 true x (g93_r6 x).1 ∧ (g149 true (sD x) (bD x) = 0 →
      g84 (g161 x false) (g162_163pp_h3_0 (sA x) (bA x) nilSl) (g161 (sB x) (bB x)) (g162_166pp_h4_0 (sC x) (bC x) nilSl) = g86 (g169 x 0) (g93_r3 x).2 (g169 x (g93_r3 x).1) (g93_r6 x).2 ∧
      g161 x false = g169 x 0 ∧ g162_163pp_h3_0 (sA x) (bA x) nilSl = (g93_r3 x).2 ∧ g161 (sB x) (bB x) = g169 x (g93_r3 x).1 ∧ g162_166pp_h4_0 (sC x) (bC x) nilSl = (g93_r6 x).2 ∧
      ((g93_r3 x).2.n ≤ 255 ∧ ∀ i, i < (g93_r3 x).2.n → W175 ((g93_r3 x).2.at' i)) ∧ ((g93_r6 x).2.n ≤ 255 ∧ ∀ i, i < (g93_r6 x).2.n → W137 ((g93_r6 x).2.at' i))) := by
  have hn : x.n ≤ 20000 := by have := of_decide_eq_false c; omega
  have q := q169 x 0 (by omega)
  have k1 := ok_word hn hU hU (Int.le_refl 0) (by omega) (Rd.start x)
  have b1 := k1.2.1; have c1 := k1.2.2.1
  have k2 := ok_entries hn hU k1.1 (by omega) (by omega) k1.2.2.2.1
  have b2 := k2.2.1; have c2 := k2.2.2.1
  have k3 := ok_word hn hU k2.1 (by omega) (by omega) k2.2.2.2.1
  have b3 := k3.2.1; have c3 := k3.2.2.1
  have k4 := ok_clients hn hU k3.1 (by omega) (by omega) k3.2.2.2.1
  have K := k1.trans (k2.trans (k3.trans k4))
  refine ⟨end_eq true K.2.2.2.1, fun z => ?_⟩
  have hb : bD x = false := by
    cases hb : bD x with
    | false => rfl
    | true =>
      rw [hb] at z
      unfold g149 at z
      simp at z
  obtain ⟨_, e1, ⟨e2, w2, n2, v2⟩, e3, e4, w4, n4, v4⟩ := K.2.2.2.2 hb
  rw [← e2, ← e4]
  refine ⟨?_, e1, rfl, e3, rfl, ⟨by omega, v2⟩, by omega, v4⟩
  rw [← e1, ← e3]
  exact g84_eq _ _ _ _ (Nat.le_trans (Int.ofNat_le.1 n2) (by decide)) v2 (Nat.le_trans (Int.ofNat_le.1 n4) (by decide)) v4
theorem e27_0 (x : Sl Int) (hU : U8 x) : g92_0_0 x = g93_0_0 x := by
  unfold g92_0_0 g93_0_0 g93_m7
  exact sel (fun c => ⟨(all27 x hU c).1, fun h0 => ⟨((all27 x hU c).2 h0).1, ((all27 x hU c).2 h0).2.1⟩⟩)
theorem e27_1 (x : Sl Int) (hU : U8 x) : g92_0_1 x = g93_0_1 x := by
  unfold g92_0_1 g93_0_1 g93_m7
  exact sel (fun c => ⟨(all27 x hU c).1, fun h0 => ⟨((all27 x hU c).2 h0).1, ((all27 x hU c).2 h0).2.2.1⟩⟩)
theorem e27_2 (x : Sl Int) (hU : U8 x) : g92_0_2 x = g93_0_2 x := by
  unfold g92_0_2 g93_0_2 g93_m7
  exact sel (fun c => ⟨(all27 x hU c).1, fun h0 => ⟨((all27 x hU c).2 h0).1, ((all27 x hU c).2 h0).2.2.2.1⟩⟩)
theorem e27_3 (x : Sl Int) (hU : U8 x) : g92_0_3 x = g93_0_3 x := by
  unfold g92_0_3 g93_0_3 g93_m7
  exact sel (fun c => ⟨(all27 x hU c).1, fun h0 => ⟨((all27 x hU c).2 h0).1, ((all27 x hU c).2 h0).2.2.2.2.1⟩⟩)
theorem e27_c (x : Sl Int) (hU : U8 x) : g92_1 x = g93_1 x := by
  unfold g92_1 g93_1 g93_m7
  exact selc (fun c => ⟨(all27 x hU c).1, fun h0 => ((all27 x hU c).2 h0).1⟩)
theorem fit {α : Type} [Inhabited α] {P : Sl α → Prop} {c : Bool} {m : Int} {v : Sl α} (h0 : P nilSl) (h : c = false → m = 0 → P v) : P (bif c then nilSl else bif m != 0 then nilSl else v) := by
  cases c with
  | true => exact h0
  | false =>
    by_cases z : m = 0
    · rw [z]; exact h rfl z
    · have : (m != 0) = true := by simp [z]
      rw [this]; exact h0
theorem m7z (x : Sl Int) (hU : U8 x) (c : decide ((x.n : Int) > 20000) = false) (h : g93_m7 x = 0) : g149 true (sD x) (bD x) = 0 := by
  rw [(all27 x hU c).1]
  unfold g93_m7 at h
  by_cases z : g151 true x (g93_r6 x).1 = 0
  · exact z
  · have : (g151 true x (g93_r6 x).1 == 0) = false := beq_eq_false_iff_ne.2 z
    rw [this] at h
    exact h
theorem law27 (x : Sl Int) (_ : Canon x) (_ : x.n ≤ 1048576) (hU : U8 x) : g27 x = true := by
  show g27_m1 x = true
  have wE : (g93_0_1 x).n ≤ 255 ∧ ∀ i, i < (g93_0_1 x).n → W175 ((g93_0_1 x).at' i) := by
    unfold g93_0_1
    exact fit (P := fun s => s.n ≤ 255 ∧ ∀ i, i < s.n → W175 (s.at' i)) ⟨Nat.zero_le _, fun i h => absurd h (Nat.not_lt_zero i)⟩ fun c z => ((all27 x hU c).2 (m7z x hU c z)).2.2.2.2.2.1
  have wC : (g93_0_3 x).n ≤ 255 ∧ ∀ i, i < (g93_0_3 x).n → W137 ((g93_0_3 x).at' i) := by
    unfold g93_0_3
    exact fit (P := fun s => s.n ≤ 255 ∧ ∀ i, i < s.n → W137 (s.at' i)) ⟨Nat.zero_le _, fun i h => absurd h (Nat.not_lt_zero i)⟩ fun c z => ((all27 x hU c).2 (m7z x hU c z)).2.2.2.2.2.2
  have s1 : SlE R175 (g93_0_1 x) (g93_0_1 x) := ⟨rfl, fun i hi => by
    obtain ⟨⟨_, a⟩, ⟨_, b⟩, _, c⟩ := wE.2 i hi
    exact ⟨⟨rfl, rfl, rfl, rfl, rfl⟩, ⟨SlE.rfl' (fun _ => rfl) _, SlE.rfl' (fun _ => rfl) _, SlE.rfl' (fun _ => rfl) _⟩, by omega, by omega, by omega⟩⟩
  have s3 : SlE R137 (g93_0_3 x) (g93_0_3 x) := ⟨rfl, fun i hi => by
    obtain ⟨_, a⟩ := wC.2 i hi
    exact ⟨⟨rfl, rfl, rfl, rfl, rfl, rfl⟩, SlE.rfl' (fun _ => rfl) _, by omega⟩⟩
  unfold g27_m1
  rw [show g82 x = x from rfl, e27_c x hU, e27_0 x hU, e27_1 x hU, e27_2 x hU, e27_3 x hU, t34 s1 (by have := wE.1; omega) s3 (by have := wC.1; omega)]
  simp
end Go.Proofs.YtchhfojblmceiaaGreat
