/-
  What is proved: a part of the laws of this seat, in plain Lean.
-/
import Derived.Test.YtchhfojblmceiaaH13
import Derived.Test.YtchhfojblmceiaaP23
import Derived.Test.YtchhfojblmceiaaP24
namespace Go.Proofs.Ytchhfojblmceiaa
open Go Go.Vc Go.RowKit
set_option maxRecDepth 100000
/-- A reading: bytes stay bytes, the place goes on by no more than so much, both sides stand alike; where it is good, it was good and something holds. -/
def Ok (x s : Sl Int) (b : Bool) (a : Int) (s' : Sl Int) (b' : Bool) (a' D : Int) (e : Prop) : Prop :=
  U8 s' ∧ a ≤ a' ∧ a' ≤ a + D ∧ Rd x s' b' a' ∧ (b' = false → b = false ∧ e)
theorem Ok.trans {x s s1 s2 : Sl Int} {b b1 b2 : Bool} {a a1 a2 D1 D2 : Int} {e1 e2 : Prop} (h : Ok x s b a s1 b1 a1 D1 e1) (k : Ok x s1 b1 a1 s2 b2 a2 D2 e2) : Ok x s b a s2 b2 a2 (D1 + D2) (e1 ∧ e2) := by
  obtain ⟨_, h2, h3, _, h5⟩ := h
  obtain ⟨k1, k2, k3, k4, k5⟩ := k
  exact ⟨k1, by omega, by omega, k4, fun g => ⟨(h5 (k5 g).1).1, (h5 (k5 g).1).2, (k5 g).2⟩⟩
theorem Ok.weaken {x s s1 : Sl Int} {b b1 : Bool} {a a1 D1 D2 : Int} {e1 e2 : Prop} (h : Ok x s b a s1 b1 a1 D1 e1) (hD : D1 ≤ D2) (he : e1 → e2) : Ok x s b a s1 b1 a1 D2 e2 := by
  obtain ⟨h1, h2, h3, h4, h5⟩ := h
  exact ⟨h1, h2, by omega, h4, fun g => ⟨(h5 g).1, he (h5 g).2⟩⟩
section
variable {x s : Sl Int} {b : Bool} {a : Int}
theorem ok_byte (hn : x.n ≤ 20000) (hS : U8 s) (h0 : 0 ≤ a) (h1 : a ≤ 5000000000000) (h : Rd x s b a) : Ok x s b a (g167_h0_0 s b) (g167_h0_1 s b) (g170_h0_1 a) 1 (g167 s b = g170 x a) := by
  have q := q170 a (by omega)
  obtain ⟨r1, r2⟩ := h.byte h0 hn
  rw [q]
  exact ⟨u167 hS, by omega, by omega, r1, fun g => ⟨(r2 g).1, (r2 g).2.2⟩⟩
theorem ok_word (hn : x.n ≤ 20000) (hU : U8 x) (hS : U8 s) (h0 : 0 ≤ a) (h1 : a ≤ 5000000000000) (h : Rd x s b a) : Ok x s b a (g161_h0_0 s b) (g161_h0_1 s b) (g169_h0_1 x a) 8 (g161 s b = g169 x a) := by
  have q := q169 x a (by omega)
  obtain ⟨r1, r2⟩ := h.word h0 hn hU
  rw [q]
  exact ⟨u161 hS, by omega, by omega, r1, fun g => ⟨(r2 g).1, (r2 g).2.2⟩⟩
theorem ok_text (hn : x.n ≤ 20000) (hU : U8 x) (hS : U8 s) (h0 : 0 ≤ a) (h1 : a ≤ 5000000000000) (h : Rd x s b a) : Ok x s b a (g164_h0_0 s b) (g164_h0_1 s b) (g172_h0_1 x a) 256 (g164 s b = g172 x a) := by
  have q := q172 x a hU (by omega)
  cases b with
  | true =>
    rw [bad164]
    exact ⟨u164 hS, by omega, by omega, h.bad (by omega) _, fun g => by simp at g⟩
  | false =>
    have hg := h.good
    obtain ⟨r1, r2⟩ := h.text h0 (by omega) hn hU hS
    exact ⟨u164 hS, by omega, by omega, r1, fun g => ⟨rfl, (r2 g).2.2⟩⟩
end
/-- The same on both sides, few, and each of its kind. -/
def Good {α : Type} [Inhabited α] (W : α → Prop) (i : Int) (l l' : Sl α) : Prop := l = l' ∧ Canon l ∧ (l.n : Int) ≤ i ∧ ∀ j, j < l.n → W (l.at' j)
theorem Good.nil {α : Type} [Inhabited α] {W : α → Prop} : Good W 0 (nilSl : Sl α) nilSl := ⟨rfl, Canon.nil, Int.le_refl _, fun j h => absurd h (Nat.not_lt_zero j)⟩
theorem Good.one {α : Type} [Inhabited α] {W : α → Prop} {i : Int} {l l' : Sl α} {u v : α} (h : Good W i l l') (e : u = v) (w : W u) : Good W (i + 1) (l.app (Sl.lit [u])) (l'.app (Sl.lit [v])) := by
  obtain ⟨h1, h2, h3, h4⟩ := h
  subst h1 e
  have n1 : (l.app (Sl.lit [u])).n = l.n + 1 := rfl
  refine ⟨rfl, Canon.app (Canon.lit _), by omega, fun j hj => ?_⟩
  by_cases c : j < l.n
  · have : (l.app (Sl.lit [u])).at' j = l.at' j := by simp only [Sl.app, blt_t c, cond_true]
    rw [this]; exact h4 j c
  · have hj' : j = l.n := by omega
    subst hj'
    have : (l.app (Sl.lit [u])).at' l.n = u := by
      simp only [Sl.app, blt_f (Nat.le_refl _), cond_false, Nat.sub_self]; rfl
    rw [this]; exact w
/-- Readings again and again, as long as there are bytes. -/
theorem eachL {α : Type} [Inhabited α] (W : α → Prop) (x : Sl Int) (P : Nat → Int → Sl Int → Bool → Sl α → Sl Int × Bool × Sl α) (G : Nat → Int → Int → Sl α → Int × Sl α)
    (p0 : Sl Int → Bool → Sl Int) (p1 : Sl Int → Bool → Bool) (pv : Sl Int → Bool → α) (A : Int → Int) (gv : Int → α) (N L D : Int) (hN : N ≤ 255) (hD : 0 ≤ D)
    (hP : ∀ k n s b l, P (k + 1) n s b l = bif (bif decide (n > 0) then !b else false) then P k (IntKind.i64.wrap (n - 1)) (p0 s b) (p1 s b) (Sl.app l (Sl.lit [pv s b])) else (s, b, l))
    (hG : ∀ k i a l, G (k + 1) i a l = bif (bif decide (i < N) then !(g171 x a) else false) then G k (IntKind.i64.wrap (i + 1)) (A a) (Sl.app l (Sl.lit [gv a])) else (a, l))
    (hS : ∀ s b a, U8 s → 0 ≤ a → a ≤ L → Rd x s b a → Ok x s b a (p0 s b) (p1 s b) (A a) D (pv s b = gv a ∧ W (pv s b))) :
    ∀ (m : Nat) (n i : Int) (s : Sl Int) (b : Bool) (a : Int) (l l' : Sl α), 0 ≤ i → n + i = N → Int.toNat n ≤ m → U8 s → 0 ≤ a → a + (m : Int) * D ≤ L → Rd x s b a → (b = false → Good W i l l') → i ≤ N →
      Ok x s b a (P (m + 1) n s b l).1 (P (m + 1) n s b l).2.1 (G (m + 1) i a l').1 ((m : Int) * D) (Good W N (P (m + 1) n s b l).2.2 (G (m + 1) i a l').2)
  | m, n, i, s, true, a, l, l', hi, hni, hm, hU, ha, haL, hR, hg, hiN => by
    have p : 0 ≤ (m : Int) * D := Int.mul_nonneg (by omega) hD
    have hb : (x.n : Int) < a := by
      rcases hR with hR | hR
      · simp at hR
      · exact hR.2
    have c1 : (bif decide (n > 0) then !true else false) = false := by cases decide (n > 0) <;> rfl
    have c2 : (bif decide (i < N) then !(g171 x a) else false) = false := by
      unfold g171; rw [decide_eq_true (show a > (x.n : Int) by omega)]; cases decide (i < N) <;> rfl
    rw [hP, hG, c1, c2]
    exact ⟨hU, Int.le_refl _, by show a ≤ _; omega, hR, fun g => by simp at g⟩
  | 0, n, i, s, false, a, l, l', hi, hni, hm, hU, ha, haL, hR, hg, hiN => by
    have c1 : (bif decide (n > 0) then !false else false) = false := by rw [decide_eq_false (show ¬ n > 0 by omega)]; rfl
    have c2 : (bif decide (i < N) then !(g171 x a) else false) = false := by rw [decide_eq_false (show ¬ i < N by omega)]; rfl
    rw [hP, hG, c1, c2]
    obtain ⟨q1, q2, q3, q4⟩ := hg rfl
    exact ⟨hU, Int.le_refl _, by show a ≤ _; omega, hR, fun _ => ⟨rfl, q1, q2, by show (l.n : Int) ≤ N; omega, q4⟩⟩
  | m + 1, n, i, s, false, a, l, l', hi, hni, hm, hU, ha, haL, hR, hg, hiN => by
    have e : ((m + 1 : Nat) : Int) * D = (m : Int) * D + D := by rw [Int.natCast_succ, Int.add_mul]; omega
    have p : 0 ≤ (m : Int) * D := Int.mul_nonneg (by omega) hD
    have hgd := hR.good
    by_cases hn : n > 0
    · have c1 : (bif decide (n > 0) then !false else false) = true := by rw [decide_eq_true hn]; rfl
      have c2 : (bif decide (i < N) then !(g171 x a) else false) = true := by
        unfold g171; rw [decide_eq_true (show i < N by omega), decide_eq_false (show ¬ a > (x.n : Int) by omega)]; rfl
      rw [hP, hG, c1, c2]
      simp only [cond_true]
      have k := hS s false a hU ha (by omega) hR
      have hk := k
      obtain ⟨k1, k2, k3, k4, k5⟩ := hk
      rw [wrap64 (x := n - 1) (by omega) (by omega), wrap64 (x := i + 1) (by omega) (by omega)]
      have r := eachL W x P G p0 p1 pv A gv N L D hN hD hP hG hS m (n - 1) (i + 1) (p0 s false) (p1 s false) (A a) (Sl.app l (Sl.lit [pv s false])) (Sl.app l' (Sl.lit [gv a])) (by omega) (by omega) (by omega) k1 (by omega) (by omega) k4
        (fun g => (hg rfl).one (k5 g).2.1 (k5 g).2.2) (by omega)
      exact (k.trans r).weaken (by omega) fun q => q.2
    · have c1 : (bif decide (n > 0) then !false else false) = false := by rw [decide_eq_false hn]; rfl
      have c2 : (bif decide (i < N) then !(g171 x a) else false) = false := by rw [decide_eq_false (show ¬ i < N by omega)]; rfl
      rw [hP, hG, c1, c2]
      obtain ⟨q1, q2, q3, q4⟩ := hg rfl
      exact ⟨hU, Int.le_refl _, by show a ≤ _; omega, hR, fun _ => ⟨rfl, q1, q2, by show (l.n : Int) ≤ N; omega, q4⟩⟩
/-- So many of them, behind how many they are. -/
theorem ok_each {α : Type} [Inhabited α] (W : α → Prop) {x s : Sl Int} {b : Bool} {a : Int} (P : Nat → Int → Sl Int → Bool → Sl α → Sl Int × Bool × Sl α) (G : Nat → Int → Int → Sl α → Int × Sl α)
    (p0 : Sl Int → Bool → Sl Int) (p1 : Sl Int → Bool → Bool) (pv : Sl Int → Bool → α) (A : Int → Int) (gv : Int → α) (D L : Int) (hD : 0 ≤ D)
    (hP : ∀ k n s b l, P (k + 1) n s b l = bif (bif decide (n > 0) then !b else false) then P k (IntKind.i64.wrap (n - 1)) (p0 s b) (p1 s b) (Sl.app l (Sl.lit [pv s b])) else (s, b, l))
    (hG : ∀ k i a' l, G (k + 1) i a' l = bif (bif decide (i < g170 x a) then !(g171 x a') else false) then G k (IntKind.i64.wrap (i + 1)) (A a') (Sl.app l (Sl.lit [gv a'])) else (a', l))
    (hS : ∀ s b a, U8 s → 0 ≤ a → a ≤ L → Rd x s b a → Ok x s b a (p0 s b) (p1 s b) (A a) D (pv s b = gv a ∧ W (pv s b)))
    (hn : x.n ≤ 20000) (hU : U8 x) (hs : U8 s) (h0 : 0 ≤ a) (h1 : a + 1 + 255 * D ≤ L) (h2 : a ≤ 4000000000000) (h : Rd x s b a) :
    Ok x s b a (P (Int.toNat (g167 s b) + 1) (g167 s b) (g167_h0_0 s b) (g167_h0_1 s b) nilSl).1 (P (Int.toNat (g167 s b) + 1) (g167 s b) (g167_h0_0 s b) (g167_h0_1 s b) nilSl).2.1 (G (Int.toNat (g170 x a - 0) + 1) 0 (g170_h0_1 a) nilSl).1 (1 + 255 * D)
      (Good W 255 (P (Int.toNat (g167 s b) + 1) (g167 s b) (g167_h0_0 s b) (g167_h0_1 s b) nilSl).2.2 (G (Int.toNat (g170 x a - 0) + 1) 0 (g170_h0_1 a) nilSl).2) := by
  have k := ok_byte hn hs h0 (by omega) h
  have q := q170 a (by omega)
  have r := r170 x a hU
  obtain ⟨k1, k2, k3, k4, k5⟩ := k
  cases hb : g167_h0_1 s b with
  | true =>
    rw [hb] at k4
    have ha : (x.n : Int) < g170_h0_1 a := by
      rcases k4 with k4 | k4
      · simp at k4
      · exact k4.2
    have c1 : (bif decide (g167 s b > 0) then !true else false) = false := by cases decide (g167 s b > 0) <;> rfl
    have c2 : (bif decide ((0 : Int) < g170 x a) then !(g171 x (g170_h0_1 a)) else false) = false := by
      unfold g171; rw [decide_eq_true (show g170_h0_1 a > (x.n : Int) by omega)]; cases decide ((0 : Int) < g170 x a) <;> rfl
    rw [hP, hG, c1, c2]
    exact ⟨k1, k2, by show g170_h0_1 a ≤ _; omega, k4, fun g => by simp at g⟩
  | false =>
    have ev := (k5 hb).2
    have kk : Ok x s b a (g167_h0_0 s b) (g167_h0_1 s b) (g170_h0_1 a) 1 (g167 s b = g170 x a) := ⟨k1, k2, k3, k4, k5⟩
    rw [hb] at kk k4
    rw [ev, Int.sub_zero]
    have t := eachL W x P G p0 p1 pv A gv (g170 x a) L D (by omega) hD hP hG hS (Int.toNat (g170 x a)) (g170 x a) 0 (g167_h0_0 s b) false (g170_h0_1 a) nilSl nilSl (by omega) (by omega) (Nat.le_refl _) k1 (by omega) (by
      have : ((Int.toNat (g170 x a) : Nat) : Int) * D ≤ 255 * D := Int.mul_le_mul_of_nonneg_right (by omega) hD
      omega) k4 (fun _ => Good.nil) (by omega)
    refine (kk.trans t).weaken ?_ fun z => ?_
    · have : ((Int.toNat (g170 x a) : Nat) : Int) * D ≤ 255 * D := Int.mul_le_mul_of_nonneg_right (by omega) hD
      omega
    · obtain ⟨_, z1, z2, z3, z4⟩ := z
      exact ⟨z1, z2, by omega, z4⟩
end Go.Proofs.Ytchhfojblmceiaa
