/-
  What is proved: a part of the laws of this seat, in plain Lean.
-/
import Derived.Test.YtchhfojblmceiaaYA
import Derived.Test.YtchhfojblmceiaaVcH
import Derived.Test.YtchhfojblmceiaaP31a
import Derived.Test.YtchhfojblmceiaaVcN
import Derived.Test.YtchhfojblmceiaaKB
namespace Go.Vc
open Go Go.RowKit
def SlE {α : Type} (R : α → α → Prop) (a b : Sl α) : Prop := a.n = b.n ∧ ∀ i, i < a.n → R (a.at' i) (b.at' i)
theorem SlE.rfl' {α : Type} {R : α → α → Prop} (h : ∀ x, R x x) (a : Sl α) : SlE R a a := ⟨rfl, fun _ _ => h _⟩
theorem clean0 {β : Type} [Inhabited β] (F : Nat → Int → Bool × β) (n : Nat) (bad : Int → Bool) (c : Int → β) (hn : n ≤ 549755813888) (hF : ∀ k i, F (k + 1) i = bif decide (i < (n : Int)) then (bif bad i then (true, c i) else F k (IntKind.i64.wrap (i + 1))) else (false, default)) (h : ∀ i : Nat, i < n → bad (i : Int) = false) :
    F (Int.toNat ((n : Int) - 0) + 1) 0 = (false, default) :=
  (scan0 F n bad c hn hF).trans (scan_clean n 0 fun j h1 h2 => by
    obtain ⟨k, rfl⟩ := Int.eq_ofNat_of_zero_le h1
    exact h k (by omega))
end Go.Vc
namespace Go.Proofs.Ytchhfojblmceiaa
open Go Go.Vc Go.RowKit
set_option maxRecDepth 100000
theorem ne_self (x : Int) : (x != x) = false := by simp
theorem t191 {a b : Sl ByteArray} (h : SlE Eq a b) (hn : a.n ≤ 549755813888) : g191 a b = true := by
  have c : g191_r1 a b = (false, default) := clean0 (g191_l2 a b) a.n _ (fun _ => false) hn (fun _ _ => rfl) fun i hi => by
    simp only [Int.toNat_natCast]
    rw [h.2 i hi]; simp
  unfold g191 g191_p2
  rw [c, h.1, ne_self]; rfl
theorem t103 {x0 : Int} {x1 : ByteArray} {x2 : Int} {a3 b3 : Sl T160} {a4 b4 : Sl ByteArray} {a5 b5 : Sl T164} (h3 : SlE Eq a3 b3) (h4 : SlE Eq a4 b4) (h5 : SlE Eq a5 b5) (n3 : a3.n ≤ 549755813888) (n4 : a4.n ≤ 549755813888) (n5 : a5.n ≤ 549755813888) : g103 x0 x1 x2 a3 a4 a5 x0 x1 x2 b3 b4 b5 = true := by
  have c1 : g103_r2 a3 b3 = (false, default) := clean0 (g103_l8 a3 b3) a3.n _ (fun _ => false) n3 (fun _ _ => rfl) fun i hi => by
    simp only [Int.toNat_natCast]
    rw [h3.2 i hi]; simp
  have c2 : g103_r4 a5 b5 = (false, default) := clean0 (g103_l15 a5 b5) a5.n _ (fun _ => false) n5 (fun _ _ => rfl) fun i hi => by
    simp only [Int.toNat_natCast]
    rw [h5.2 i hi]; simp
  have m : g103_m1 x0 x1 x2 a3 a4 a5 x0 x1 x2 b3 b4 b5 = false := by
    unfold g103_m1
    rw [t191 h4 n4, h3.1, h5.1]
    simp only [ne_self, beq_self_eq_true, Bool.not_true, cond_false]
  unfold g103 g103_p3 g103_p5
  rw [m, c1, c2]; rfl
theorem t104 {x0 : Int} {x1 : ByteArray} {x2 : Int} {a b : Sl ByteArray} (h : SlE Eq a b) (hn : a.n ≤ 549755813888) : g104 x0 x1 x2 a x0 x1 x2 b = true := by
  unfold g104 g104_m1
  rw [t191 h hn]
  simp only [beq_self_eq_true, cond_true]
end Go.Proofs.Ytchhfojblmceiaa
/-
  Lists with one value put in, taken out; the order of texts; loops as folds.
-/
namespace Go.Vc
open Go
set_option maxRecDepth 100000
theorem less_irr : ∀ a : List UInt8, Op.bytesLess a a = false
  | [] => rfl
  | x :: a => by
    simp only [Op.bytesLess, Bool.or_eq_false_iff, decide_eq_false_iff_not]
    exact ⟨UInt8.lt_irrefl x, by simp [less_irr a]⟩
theorem less_cons {x y : UInt8} {a b : List UInt8} : Op.bytesLess (x :: a) (y :: b) = true ↔ x < y ∨ (x = y ∧ Op.bytesLess a b = true) := by
  simp only [Op.bytesLess, Bool.or_eq_true, Bool.and_eq_true, decide_eq_true_eq, beq_iff_eq]
theorem less_trans : ∀ {a b c : List UInt8}, Op.bytesLess a b = true → Op.bytesLess b c = true → Op.bytesLess a c = true
  | _, _, [], _, h => by simp [Op.bytesLess] at h
  | [], _, _ :: _, _, _ => rfl
  | _ :: _, [], _ :: _, h, _ => by simp [Op.bytesLess] at h
  | x :: a, y :: b, z :: c, h1, h2 => by
    rw [less_cons] at h1 h2 ⊢
    rcases h1 with h1 | ⟨e1, h1⟩
    · rcases h2 with h2 | ⟨e2, h2⟩
      · exact .inl (UInt8.lt_trans h1 h2)
      · subst e2; exact .inl h1
    · subst e1
      rcases h2 with h2 | ⟨e2, h2⟩
      · exact .inl h2
      · exact .inr ⟨e2, less_trans h1 h2⟩
theorem less_tri : ∀ {a b : List UInt8}, Op.bytesLess a b = false → Op.bytesLess b a = false → a = b
  | [], [], _, _ => rfl
  | [], _ :: _, h, _ => by simp [Op.bytesLess] at h
  | _ :: _, [], _, h => by simp [Op.bytesLess] at h
  | x :: a, y :: b, h1, h2 => by
    have n1 : ¬ (x < y ∨ (x = y ∧ Op.bytesLess a b = true)) := fun h => by rw [less_cons.2 h] at h1; cases h1
    have n2 : ¬ (y < x ∨ (y = x ∧ Op.bytesLess b a = true)) := fun h => by rw [less_cons.2 h] at h2; cases h2
    have e : x = y := UInt8.le_antisymm (UInt8.not_lt.1 fun h => n2 (.inl h)) (UInt8.not_lt.1 fun h => n1 (.inl h))
    subst e
    have e1 : Op.bytesLess a b = false := by
      cases h : Op.bytesLess a b with
      | false => rfl
      | true => exact absurd (.inr ⟨rfl, h⟩) n1
    have e2 : Op.bytesLess b a = false := by
      cases h : Op.bytesLess b a with
      | false => rfl
      | true => exact absurd (.inr ⟨rfl, h⟩) n2
    rw [less_tri e1 e2]
theorem cutAt (p : Nat → Bool) : ∀ n : Nat, (∀ i j, i < j → j < n → p j = true → p i = true) → ∃ t, t ≤ n ∧ ∀ m, m < n → p m = decide (m < t)
  | 0, _ => ⟨0, Nat.le_refl _, fun m h => by omega⟩
  | n + 1, h => by
    obtain ⟨t, h1, h2⟩ := cutAt p n fun i j a b c => h i j a (by omega) c
    cases e : p n with
    | true =>
      refine ⟨n + 1, Nat.le_refl _, fun m hm => ?_⟩
      rw [show decide (m < n + 1) = true from decide_eq_true hm]
      rcases Nat.lt_or_ge m n with g | g
      · exact h m n g (by omega) e
      · rw [show m = n by omega, e]
    | false =>
      refine ⟨t, by omega, fun m hm => ?_⟩
      rcases Nat.lt_or_ge m n with g | g
      · exact h2 m g
      · rw [show m = n by omega, e]
        exact (decide_eq_false (by omega)).symm
theorem chain {R : Nat → Nat → Prop} (n : Nat) (h1 : ∀ i, i + 1 < n → R i (i + 1)) (ht : ∀ i j k, i < j → j < k → k < n → R i j → R j k → R i k) : ∀ (d i : Nat), i + d + 1 < n → R i (i + d + 1)
  | 0, i, h => h1 i h
  | d + 1, i, h => ht i (i + d + 1) (i + (d + 1) + 1) (by omega) (by omega) h (chain n h1 ht d i (by omega)) (h1 (i + d + 1) h)
theorem chain' {R : Nat → Nat → Prop} (n : Nat) (h1 : ∀ i, i + 1 < n → R i (i + 1)) (ht : ∀ i j k, i < j → j < k → k < n → R i j → R j k → R i k) (i j : Nat) (hij : i < j) (hj : j < n) : R i j := by
  have := chain n h1 ht (j - i - 1) i (by omega)
  rwa [show i + (j - i - 1) + 1 = j by omega] at this
theorem foldF {σ ρ : Type} (F : Nat → Int → σ → ρ) (n : Nat) (step : Nat → σ → σ) (out : σ → ρ) (hn : n ≤ 549755813888) (hF : ∀ k i s, F (k + 1) i s = bif decide (i < (n : Int)) then F k (IntKind.i64.wrap (i + 1)) (step (Int.toNat i) s) else out s) :
    ∀ (m k i : Nat) (s : σ), i + m = n → m ≤ k → F (k + 1) (i : Int) s = out ((List.range' i m).foldl (fun s j => step j s) s)
  | 0, k, i, s, hi, _ => by
    rw [hF, show decide ((i : Int) < (n : Int)) = false by simp; omega]; rfl
  | m + 1, k, i, s, hi, hk => by
    obtain ⟨k, rfl⟩ : ∃ k', k = k' + 1 := ⟨k - 1, by omega⟩
    rw [hF, show decide ((i : Int) < (n : Int)) = true by simp; omega]
    simp only [cond_true]
    rw [wrap64 (x := (i : Int) + 1) (by omega) (by omega)]
    have := foldF F n step out hn hF m k (i + 1) (step i s) (by omega) (by omega)
    rw [show (((i + 1 : Nat)) : Int) = (i : Int) + 1 by omega] at this
    rw [show Int.toNat (i : Int) = i from Int.toNat_natCast i, this]
    rfl
theorem fold0 {σ ρ : Type} (F : Nat → Int → σ → ρ) (n : Nat) (step : Nat → σ → σ) (out : σ → ρ) (hn : n ≤ 549755813888) (hF : ∀ k i s, F (k + 1) i s = bif decide (i < (n : Int)) then F k (IntKind.i64.wrap (i + 1)) (step (Int.toNat i) s) else out s) (s : σ) :
    F (Int.toNat ((n : Int) - 0) + 1) 0 s = out ((List.range n).foldl (fun s j => step j s) s) := by
  have := foldF F n step out hn hF n (Int.toNat ((n : Int) - 0)) 0 s (by omega) (by omega)
  rw [List.range_eq_range']; exact this
section
variable {α : Type}
theorem foldB {σ : Type} (s : Sl α) (step : α → σ → σ) (st : σ) : (List.range s.n).foldl (fun st j => step (s.at' j) st) st = s.B.foldl (fun st a => step a st) st := by
  unfold Sl.B
  rw [List.foldl_map]
theorem SlE_of {s t : Sl α} (h : s.B = t.B) : SlE Eq s t := by
  have hn : s.n = t.n := by rw [← B_len s, ← B_len t, h]
  refine ⟨hn, fun i hi => ?_⟩
  have h1 := B_get s hi
  rw [h, B_get t (by omega)] at h1
  exact (Option.some.inj h1).symm
theorem nbeq_f {a b : Nat} (h : a ≠ b) : Nat.beq a b = false := by
  cases e : Nat.beq a b with
  | false => rfl
  | true => exact absurd (Nat.eq_of_beq_eq_true e) h
theorem B_ins (s : Sl α) (i : Nat) (x : α) (hi : i ≤ s.n) : (s.ins i x).B = s.B.take i ++ x :: s.B.drop i := by
  apply List.ext_getElem
  · simp only [B_len, List.length_append, List.length_take, List.length_cons, List.length_drop]
    show s.n + 1 = _
    omega
  · intro j h1 h2
    have hj : j < s.n + 1 := by rw [B_len] at h1; exact h1
    have e : (s.ins i x).B[j] = (s.ins i x).at' j := by simp [Sl.B]
    rw [e]
    simp only [Sl.ins]
    rcases Nat.lt_trichotomy j i with g | g | g
    · rw [blt_t g, List.getElem_append_left (by simp [B_len]; omega)]
      simp [Sl.B]
    · subst g
      rw [blt_f (Nat.le_refl _), show Nat.beq j j = true from Nat.beq_refl j, List.getElem_append_right (by simp [B_len]; omega)]
      simp [B_len, Nat.min_eq_left hi]
    · rw [blt_f (by omega), show Nat.beq j i = false from nbeq_f (by omega), List.getElem_append_right (by simp [B_len]; omega)]
      simp only [B_len, List.length_take, Nat.min_eq_left hi, cond_false]
      obtain ⟨d, hd⟩ : ∃ d, j - i = d + 1 := ⟨j - i - 1, by omega⟩
      simp only [hd, List.getElem_cons_succ, List.getElem_drop]
      simp only [Sl.B, List.getElem_map, List.getElem_range]
      congr 1; omega
theorem B_del (s : Sl α) (i : Nat) (hi : i < s.n) : (s.del i (i + 1)).B = s.B.take i ++ s.B.drop (i + 1) := by
  apply List.ext_getElem
  · simp only [B_len, List.length_append, List.length_take, List.length_drop]
    show s.n - (i + 1 - i) = _
    omega
  · intro j h1 h2
    have hj : j < s.n - (i + 1 - i) := by rw [B_len] at h1; exact h1
    have e : (s.del i (i + 1)).B[j] = (s.del i (i + 1)).at' j := by simp [Sl.B]
    rw [e]
    simp only [Sl.del]
    rcases Nat.lt_or_ge j i with g | g
    · rw [blt_t g, List.getElem_append_left (by simp [B_len]; omega)]
      simp [Sl.B]
    · rw [blt_f g, List.getElem_append_right (by simp [B_len]; omega)]
      simp only [List.getElem_drop, Sl.B, List.getElem_map, List.getElem_range, cond_false, List.length_take, List.length_map, List.length_range]
      congr 1; omega
theorem B_at (s : Sl α) {i : Nat} (h : i < s.n) : s.B.drop i = s.at' i :: s.B.drop (i + 1) := by
  rw [List.drop_eq_getElem_cons (by rw [B_len]; exact h)]
  simp [Sl.B]
end
end Go.Vc
/-
  What the reference's loops over sorted lists come to.
-/
namespace Go.Proofs.Ytchhfojblmceiaa
open Go Go.Vc Go.RowKit
set_option maxRecDepth 100000
set_option maxHeartbeats 4000000
section
variable {α β : Type}
def lstep (op : Bool) (new : α) (lt eq : α → Bool) (val : α → β) (a : α) (s : Bool × β × Bool × List α) : Bool × β × Bool × List α :=
  (s.1 || eq a, (bif eq a then val a else s.2.1), s.2.2.1 || (op && !s.2.2.1 && !lt a), (bif op && !s.2.2.1 && !lt a then s.2.2.2 ++ [new] else s.2.2.2) ++ (bif eq a then [] else [a]))
theorem lrun1 {op : Bool} {new : α} {lt eq : α → Bool} {val : α → β} : ∀ (l : List α) (f : Bool) (v : β) (p : Bool) (acc : List α), (∀ a ∈ l, lt a = true ∧ eq a = false) → l.foldl (fun s a => lstep op new lt eq val a s) (f, v, p, acc) = (f, v, p, acc ++ l)
  | [], f, v, p, acc, _ => by simp
  | a :: l, f, v, p, acc, h => by
    obtain ⟨h1, h2⟩ := h a (List.mem_cons_self ..)
    rw [List.foldl_cons, show lstep op new lt eq val a (f, v, p, acc) = (f, v, p, acc ++ [a]) by simp [lstep, h1, h2], lrun1 l f v p _ fun b hb => h b (List.mem_cons_of_mem _ hb)]
    simp
theorem lrun2 {op : Bool} {new : α} {lt eq : α → Bool} {val : α → β} : ∀ (l : List α) (f : Bool) (v : β) (p : Bool) (acc : List α), (op = false ∨ p = true) → (∀ a ∈ l, eq a = false) → l.foldl (fun s a => lstep op new lt eq val a s) (f, v, p, acc) = (f, v, p, acc ++ l)
  | [], f, v, p, acc, _, _ => by simp
  | a :: l, f, v, p, acc, hp, h => by
    have h2 := h a (List.mem_cons_self ..)
    have hq : (op && !p && !lt a) = false := by rcases hp with e | e <;> simp [e]
    rw [List.foldl_cons, show lstep op new lt eq val a (f, v, p, acc) = (f, v, p, acc ++ [a]) by simp [lstep, hq, h2], lrun2 l f v p _ hp fun b hb => h b (List.mem_cons_of_mem _ hb)]
    simp
theorem lres0 {op : Bool} {new : α} {lt eq : α → Bool} {val : α → β} (l : List α) (v : β) (h : ∀ a ∈ l, lt a = true ∧ eq a = false) : l.foldl (fun s a => lstep op new lt eq val a s) (false, v, false, []) = (false, v, false, l) := by
  rw [lrun1 l false v false [] h]; rfl
theorem lres1 {op : Bool} {new : α} {lt eq : α → Bool} {val : α → β} (l : List α) (y : α) (t : List α) (v : β) (h : ∀ a ∈ l, lt a = true ∧ eq a = false) (hy : lt y = false) (ht : ∀ a ∈ t, eq a = false) :
    (l ++ y :: t).foldl (fun s a => lstep op new lt eq val a s) (false, v, false, []) = (eq y, (bif eq y then val y else v), op, (bif op then l ++ [new] else l) ++ (bif eq y then [] else [y]) ++ t) := by
  rw [List.foldl_append, lrun1 l false v false [] h, List.foldl_cons, show lstep op new lt eq val y (false, v, false, [] ++ l) = (eq y, (bif eq y then val y else v), op, (bif op then l ++ [new] else l) ++ (bif eq y then [] else [y])) by simp [lstep, hy]]
  rw [lrun2 t _ _ op _ (by cases op <;> simp) ht]
end
theorem cmp_zero (a b : ByteArray) : (Lib.compareBytes a.data.toList b.data.toList == 0) = (a.toList == b.toList) := by
  rw [ByteArray.toList_eq, ByteArray.toList_eq]
  generalize a.data.toList = l
  generalize b.data.toList = m
  induction l generalizing m with
  | nil => cases m <;> rfl
  | cons x l ih =>
    cases m with
    | nil => rfl
    | cons y m =>
      simp only [Lib.compareBytes]
      by_cases h1 : x < y
      · have : x ≠ y := fun e => by subst e; exact UInt8.lt_irrefl x h1
        simp [h1, this]
      · by_cases h2 : y < x
        · have : x ≠ y := fun e => by subst e; exact UInt8.lt_irrefl x h2
          simp [h1, h2, this]
        · have h3 : x = y := UInt8.le_antisymm (UInt8.not_lt.1 h2) (UInt8.not_lt.1 h1)
          subst h3
          simp [ih m]
theorem neg_of {x : Int} {b : Bool} (h : decide (x ≥ 0) = !b) : decide (x < 0) = b := by
  cases b with
  | true => have := of_decide_eq_false h; exact decide_eq_true (by omega)
  | false => have := of_decide_eq_true h; exact decide_eq_false (by omega)
theorem z139 (a b : ByteArray) : (g139 a b == 0) = (a.toList == b.toList) := cmp_zero a b
theorem ba_ext {a b : ByteArray} (h : a.toList = b.toList) : a = b := by
  rw [ByteArray.toList_eq, ByteArray.toList_eq] at h
  cases a with
  | mk a => cases b with
    | mk b => congr 1; exact Array.toList_inj.1 h
def Rise (n : Nat) (key : Nat → ByteArray) : Prop := ∀ i j, i < j → j < n → Op.bytesLess (key i).toList (key j).toList = true
theorem rise_of {n : Nat} {key : Nat → ByteArray} (hn : n ≤ 1048576) (h : hit (fun i => !(Op.bytesLess (key (Int.toNat (IntKind.i64.wrap (i - 1)))).toList (key (Int.toNat i)).toList)) (n - 1) 1 = false) : Rise n key := fun i j hij hj =>
  chain' (R := fun i j => Op.bytesLess (key i).toList (key j).toList = true) n (fun i hi => by
    have := hit_no (n - 1) 1 h ((i + 1 : Nat) : Int) (by omega) (by omega)
    rw [show IntKind.i64.wrap (((i + 1 : Nat) : Int) - 1) = (i : Int) by rw [wrap64 (by omega) (by omega)]; omega] at this
    simpa using this) (fun _ _ _ _ _ _ => less_trans) i j hij hj
structure Spot (n : Nat) (key : Nat → ByteArray) (k : ByteArray) (t : Nat) : Prop where
  le : t ≤ n
  lt : ∀ m, m < n → Op.bytesLess (key m).toList k.toList = decide (m < t)
  ne : ∀ m, m < n → m ≠ t → ((key m).toList == k.toList) = false
theorem spot {n : Nat} {key : Nat → ByteArray} (h : Rise n key) (k : ByteArray) : ∃ t, Spot n key k t := by
  obtain ⟨t, h1, h2⟩ := cutAt (fun m => Op.bytesLess (key m).toList k.toList) n fun i j a b c => less_trans (h i j a b) c
  refine ⟨t, h1, h2, fun m hm hne => beq_eq_false_iff_ne.2 fun e => ?_⟩
  have g := h2 m hm
  simp only [e, less_irr] at g
  have g := of_decide_eq_false g.symm
  have g2 := h2 t (by omega)
  have g3 := h t m (by omega) hm
  rw [e] at g3
  simp only [g3] at g2
  have := of_decide_eq_true g2.symm
  omega
theorem bs_all {p : Nat → Bool} {n t : Nat} (hn : n ≤ 1048576) (hp : ∀ m, m < n → p m = decide (m < t)) (ht : t ≤ n) : bsG p ((Int.toNat ((n : Int) - 0)) + 1) 0 (n : Int) = (t : Int) :=
  bs_at (by omega) hp ht _ _ _ (Int.le_refl _) (by omega) (by omega) (Int.le_refl _) (by omega)
theorem find3 {s : Sl T160} {k : ByteArray} {t : Nat} (hn : s.n ≤ 1048576) (h : Spot s.n (fun i => (s.at' i).c0) k t) : g228_139_0 s k = t ∧ g228_139_1 s k = (decide (t < s.n) && ((s.at' t).c0.toList == k.toList)) := by
  have e : g228_139_r1 s k = t := by
    unfold g228_139_r1
    rw [b228_139]
    exact bs_all hn (fun m hm => (neg_of (c139 _ _)).trans (h.lt m hm)) h.le
  refine ⟨e, ?_⟩
  unfold g228_139_1 g228_139_m2
  rw [e, Int.toNat_natCast, z139]
  rw [show decide ((t : Int) < (s.n : Int)) = decide (t < s.n) by simp]
  cases decide (t < s.n) <;> rfl
theorem l243 (a b : ByteArray) : g243 a b = Op.bytesLess a.toList b.toList := by
  unfold g243 g243_m1 g249
  simp
theorem find4 {s : Sl ByteArray} {k : ByteArray} {t : Nat} (hn : s.n ≤ 1048576) (h : Spot s.n s.at' k t) : g233_0 s k = t ∧ g233_1 s k = (decide (t < s.n) && ((s.at' t).toList == k.toList)) := by
  have e : g233_r1 s k = t := by
    unfold g233_r1
    rw [b233]
    exact bs_all hn (fun m hm => (l243 _ _).trans (h.lt m hm)) h.le
  refine ⟨e, ?_⟩
  unfold g233_1 g233_m2 g244
  rw [e, Int.toNat_natCast]
  rw [show decide ((t : Int) < (s.n : Int)) = decide (t < s.n) by simp]
  cases decide (t < s.n) <;> simp
theorem run3 (s : Sl T160) (x6 : Int) (k v : ByteArray) (hn : s.n ≤ 1048576) : ((g220_r10 s x6 k v).1, (g220_r10 s x6 k v).2.1, (g220_r10 s x6 k v).2.2.1, (g220_r10 s x6 k v).2.2.2.B) =
    s.B.foldl (fun st a => lstep (x6 == 4) (⟨k, v⟩ : T160) (fun a => Op.bytesLess a.c0.toList k.toList) (fun a => a.c0.toList == k.toList) (fun a => a.c1) a st) (false, ⟨#[]⟩, false, []) := by
  have h := fold0 (fun n i (st : Bool × ByteArray × Bool × Sl T160) => g220_l1 s x6 k v n st.1 st.2.1 st.2.2.1 i st.2.2.2) s.n (fun j st => (g220_m8 s k st.1 (j : Int), g220_m9 s k st.2.1 (j : Int), g220_m6 s x6 k st.2.2.1 (j : Int), g220_m7 s x6 k v st.2.2.1 (j : Int) st.2.2.2)) id (by omega) (fun n i st => by
    show (bif decide (i < (s.n : Int)) then _ else _) = _
    cases e : decide (i < (s.n : Int)) with
    | false => rfl
    | true =>
      simp only [cond_true, g220_m8, g220_m9, g220_m6, g220_m7, g220_m5, g220_m4, Int.toNat_natCast]) (false, ⟨#[]⟩, false, nilSl)
  rw [← foldB s]
  have h2 : g220_r10 s x6 k v = _ := h
  rw [h2]
  exact (List.foldl_hom (fun st : Bool × ByteArray × Bool × Sl T160 => (st.1, st.2.1, st.2.2.1, st.2.2.2.B)) (fun st j => by
    simp only [lstep, g220_m8, g220_m9, g220_m6, g220_m7, g220_m5, g220_m4, Int.toNat_natCast]
    cases (x6 == 4) <;> cases st.2.2.1 <;> cases Op.bytesLess (s.at' j).c0.toList k.toList <;> cases ((s.at' j).c0.toList == k.toList) <;> cases st.1 <;> simp [B_app, B_lit])).symm
theorem run4 (s : Sl ByteArray) (x6 : Int) (v : ByteArray) (hn : s.n ≤ 1048576) : ((g222_r9 s x6 v).1, (), (g222_r9 s x6 v).2.1, (g222_r9 s x6 v).2.2.B) =
    s.B.foldl (fun st a => lstep (x6 == 11) v (fun a => Op.bytesLess a.toList v.toList) (fun a => a.toList == v.toList) (fun _ => ()) a st) (false, (), false, []) := by
  have h := fold0 (fun n i (st : Bool × Bool × Sl ByteArray) => g222_l1 s x6 v n st.1 st.2.1 i st.2.2) s.n (fun j st => (g222_m8 s v st.1 (j : Int), g222_m6 s x6 v st.2.1 (j : Int), g222_m7 s x6 v st.2.1 (j : Int) st.2.2)) id (by omega) (fun n i st => by
    show (bif decide (i < (s.n : Int)) then _ else _) = _
    cases e : decide (i < (s.n : Int)) with
    | false => rfl
    | true =>
      simp only [cond_true, g222_m8, g222_m6, g222_m7, g222_m5, g222_m4, Int.toNat_natCast]) (false, false, nilSl)
  rw [← foldB s]
  have h2 : g222_r9 s x6 v = _ := h
  rw [h2]
  exact (List.foldl_hom (fun st : Bool × Bool × Sl ByteArray => (st.1, (), st.2.1, st.2.2.B)) (fun st j => by
    simp only [lstep, g222_m8, g222_m6, g222_m7, g222_m5, g222_m4, Int.toNat_natCast]
    cases (x6 == 11) <;> cases st.2.1 <;> cases Op.bytesLess (s.at' j).toList v.toList <;> cases ((s.at' j).toList == v.toList) <;> cases st.1 <;> simp [B_app, B_lit])).symm
end Go.Proofs.Ytchhfojblmceiaa
/-
  Hash and set: the reference's loops against the search.
-/
namespace Go.Proofs.Ytchhfojblmceiaa
open Go Go.Vc Go.RowKit
set_option maxRecDepth 100000
set_option maxHeartbeats 4000000
section
variable {α β : Type}
theorem finL {op : Bool} {new : α} {lt eq : α → Bool} {val : α → β} (l : List α) (t : Nat) (v0 : β) (f : Bool) (r : Bool × β × Bool × List α) (hr : r = l.foldl (fun s a => lstep op new lt eq val a s) (false, v0, false, []))
    (ht : t ≤ l.length) (h1 : ∀ a ∈ l.take t, lt a = true ∧ eq a = false) (h2 : ∀ a ∈ l.drop (t + 1), eq a = false) (h3 : ∀ y, l[t]? = some y → lt y = false) (hf : f = (l[t]?).any eq) :
    r.1 = f ∧ (∀ y, l[t]? = some y → f = true → r.2.1 = val y) ∧ (op = false → r.2.2.2 = bif f then l.take t ++ l.drop (t + 1) else l) ∧ (op = true → (bif !r.2.2.1 then r.2.2.2 ++ [new] else r.2.2.2) = l.take t ++ new :: l.drop (bif f then t + 1 else t)) := by
  rcases Nat.lt_or_ge t l.length with g | g
  · have e : l[t]? = some l[t] := List.getElem?_eq_getElem g
    rw [e] at hf h3
    have hd : l.drop t = l[t] :: l.drop (t + 1) := List.drop_eq_getElem_cons g
    have hl : l = l.take t ++ l[t] :: l.drop (t + 1) := by rw [← hd, List.take_append_drop]
    have h4 := lres1 (op := op) (new := new) (lt := lt) (eq := eq) (val := val) (l.take t) l[t] (l.drop (t + 1)) v0 h1 (h3 _ rfl) h2
    rw [← hl] at h4
    rw [h4] at hr
    subst hr
    simp only [Option.any_some] at hf
    refine ⟨hf.symm, fun y hy hf' => ?_, fun ho => ?_, fun ho => ?_⟩
    · rw [e] at hy; cases hy
      simp only
      rw [← hf, hf']; rfl
    · subst ho
      simp only [cond_false]
      rw [← hf]
      cases f with
      | true => simp
      | false => simp only [cond_false]; rw [List.append_assoc]; exact hl.symm
    · subst ho
      simp only [Bool.not_true, cond_false, cond_true]
      rw [← hf]
      cases f with
      | true => simp
      | false => simp only [cond_false, hd]; simp
  · have e : l[t]? = none := List.getElem?_eq_none g
    rw [e] at hf
    have hl : l.take t = l := List.take_of_length_le g
    rw [hl] at h1
    rw [lres0 l v0 h1] at hr
    have hf : f = false := hf
    subst hr hf
    refine ⟨rfl, fun y hy => (by rw [e] at hy; cases hy), fun _ => rfl, fun _ => ?_⟩
    simp only [Bool.not_false, cond_true, cond_false, hl]
    rw [List.drop_eq_nil_of_le g]
end
theorem mem_take {α : Type} (s : Sl α) {t : Nat} {a : α} (h : a ∈ s.B.take t) : ∃ i, i < s.n ∧ i < t ∧ s.at' i = a := by
  obtain ⟨i, hi, he⟩ := List.mem_take_iff_getElem.1 h
  rw [B_len] at hi
  refine ⟨i, by omega, by omega, ?_⟩
  rw [← he]; simp [Sl.B]
theorem mem_drop {α : Type} (s : Sl α) {t : Nat} {a : α} (h : a ∈ s.B.drop t) : ∃ i, i < s.n ∧ t ≤ i ∧ s.at' i = a := by
  obtain ⟨i, hi, he⟩ := List.mem_drop_iff_getElem.1 h
  rw [B_len] at hi
  refine ⟨t + i, by omega, by omega, ?_⟩
  rw [← he]; simp [Sl.B]
theorem B_some {α : Type} (s : Sl α) (t : Nat) : s.B[t]? = if t < s.n then some (s.at' t) else none := by
  by_cases h : t < s.n
  · rw [if_pos h, B_get s h]
  · rw [if_neg h]; exact List.getElem?_eq_none (by rw [B_len]; omega)
theorem hash (s : Sl T160) (x6 : Int) (k v : ByteArray) (hn : s.n ≤ 1048576) (hr : Rise s.n (fun i => (s.at' i).c0)) :
    ∃ t : Nat, t ≤ s.n ∧ g228_139_0 s k = t ∧ (g228_139_1 s k = true → t < s.n ∧ (s.at' t).c0 = k) ∧ (g220_r10 s x6 k v).1 = g228_139_1 s k ∧ (g228_139_1 s k = true → (g220_r10 s x6 k v).2.1 = (s.at' t).c1) ∧
      (x6 ≠ 4 → (g220_r10 s x6 k v).2.2.2.B = bif g228_139_1 s k then s.B.take t ++ s.B.drop (t + 1) else s.B) ∧
      (x6 = 4 → (g220_m11 s x6 k v).B = s.B.take t ++ ⟨k, v⟩ :: s.B.drop (bif g228_139_1 s k then t + 1 else t)) := by
  obtain ⟨t, hs⟩ := spot hr k
  obtain ⟨e0, e1⟩ := find3 hn hs
  have hf : g228_139_1 s k = (s.B[t]?).any (fun a => a.c0.toList == k.toList) := by
    rw [e1, B_some]
    by_cases h : t < s.n
    · simp [h]
    · simp [h]
  have h := finL (op := x6 == 4) (new := (⟨k, v⟩ : T160)) (lt := fun a => Op.bytesLess a.c0.toList k.toList) (eq := fun a => a.c0.toList == k.toList) (val := fun a => a.c1) s.B t ⟨#[]⟩ (g228_139_1 s k) _ (run3 s x6 k v hn)
    (by rw [B_len]; exact hs.le) (fun a ha => by
      obtain ⟨i, h1, h2, rfl⟩ := mem_take s ha
      exact ⟨(hs.lt i h1).trans (decide_eq_true h2), hs.ne i h1 (by omega)⟩) (fun a ha => by
      obtain ⟨i, h1, h2, rfl⟩ := mem_drop s ha
      exact hs.ne i h1 (by omega)) (fun y hy => by
      rw [B_some] at hy
      split at hy
      · rename_i ht
        cases hy
        exact (hs.lt t ht).trans (decide_eq_false (by omega))
      · cases hy) hf
  refine ⟨t, hs.le, e0, fun hh => ?_, h.1, fun hh => ?_, fun hx => ?_, fun hx => ?_⟩
  · rw [e1, Bool.and_eq_true] at hh
    exact ⟨of_decide_eq_true hh.1, ba_ext (eq_of_beq hh.2)⟩
  · refine h.2.1 (s.at' t) ?_ hh
    rw [e1, Bool.and_eq_true] at hh
    rw [B_some, if_pos (of_decide_eq_true hh.1)]
  · exact h.2.2.1 (beq_eq_false_iff_ne.2 hx)
  · rw [← h.2.2.2 (beq_iff_eq.2 hx)]
    unfold g220_m11
    cases (g220_r10 s x6 k v).2.2.1
    · simp [B_app, B_lit]
    · rfl
theorem sets (s : Sl ByteArray) (x6 : Int) (k : ByteArray) (hn : s.n ≤ 1048576) (hr : Rise s.n s.at') :
    ∃ t : Nat, t ≤ s.n ∧ g233_0 s k = t ∧ (g233_1 s k = true → t < s.n ∧ s.at' t = k) ∧ (g222_r9 s x6 k).1 = g233_1 s k ∧
      (x6 ≠ 11 → (g222_r9 s x6 k).2.2.B = bif g233_1 s k then s.B.take t ++ s.B.drop (t + 1) else s.B) ∧
      (x6 = 11 → (g222_m10 s x6 k).B = s.B.take t ++ k :: s.B.drop (bif g233_1 s k then t + 1 else t)) := by
  obtain ⟨t, hs⟩ := spot hr k
  obtain ⟨e0, e1⟩ := find4 hn hs
  have hf : g233_1 s k = (s.B[t]?).any (fun a => a.toList == k.toList) := by
    rw [e1, B_some]
    by_cases h : t < s.n
    · simp [h]
    · simp [h]
  have h := finL (op := x6 == 11) (new := k) (lt := fun a => Op.bytesLess a.toList k.toList) (eq := fun a => a.toList == k.toList) (val := fun _ => ()) s.B t () (g233_1 s k) _ (run4 s x6 k hn)
    (by rw [B_len]; exact hs.le) (fun a ha => by
      obtain ⟨i, h1, h2, rfl⟩ := mem_take s ha
      exact ⟨(hs.lt i h1).trans (decide_eq_true h2), hs.ne i h1 (by omega)⟩) (fun a ha => by
      obtain ⟨i, h1, h2, rfl⟩ := mem_drop s ha
      exact hs.ne i h1 (by omega)) (fun y hy => by
      rw [B_some] at hy
      split at hy
      · rename_i ht
        cases hy
        exact (hs.lt t ht).trans (decide_eq_false (by omega))
      · cases hy) hf
  refine ⟨t, hs.le, e0, fun hh => ?_, h.1, fun hx => ?_, fun hx => ?_⟩
  · rw [e1, Bool.and_eq_true] at hh
    exact ⟨of_decide_eq_true hh.1, ba_ext (eq_of_beq hh.2)⟩
  · exact h.2.2.1 (beq_eq_false_iff_ne.2 hx)
  · rw [← h.2.2.2 (beq_iff_eq.2 hx)]
    unfold g222_m10
    cases (g222_r9 s x6 k).2.1
    · simp [B_app, B_lit]
    · rfl
end Go.Proofs.Ytchhfojblmceiaa
/-
  Lists and ranks: the reference's loops against the program's steps.
-/
namespace Go.Proofs.Ytchhfojblmceiaa
open Go Go.Vc Go.RowKit
set_option maxRecDepth 100000
set_option maxHeartbeats 4000000
theorem foldN {σ ρ : Type} (F : Nat → Int → σ → ρ) (n : Nat) (step : Nat → σ → σ) (out : σ → ρ) (hn : n ≤ 549755813888) (hF : ∀ k (i : Nat) s, F (k + 1) (i : Int) s = bif decide ((i : Int) < (n : Int)) then F k (IntKind.i64.wrap ((i : Int) + 1)) (step i s) else out s) :
    ∀ (m k i : Nat) (s : σ), i + m = n → m ≤ k → F (k + 1) (i : Int) s = out ((List.range' i m).foldl (fun s j => step j s) s)
  | 0, k, i, s, hi, _ => by
    rw [hF, show decide ((i : Int) < (n : Int)) = false by simp; omega]; rfl
  | m + 1, k, i, s, hi, hk => by
    obtain ⟨k, rfl⟩ : ∃ k', k = k' + 1 := ⟨k - 1, by omega⟩
    rw [hF, show decide ((i : Int) < (n : Int)) = true by simp; omega]
    simp only [cond_true]
    rw [wrap64 (x := (i : Int) + 1) (by omega) (by omega)]
    have := foldN F n step out hn hF m k (i + 1) (step i s) (by omega) (by omega)
    rw [show (((i + 1 : Nat)) : Int) = (i : Int) + 1 by omega] at this
    rw [this]
    rfl
theorem foldN0 {σ ρ : Type} (F : Nat → Int → σ → ρ) (n : Nat) (step : Nat → σ → σ) (out : σ → ρ) (hn : n ≤ 549755813888) (hF : ∀ k (i : Nat) s, F (k + 1) (i : Int) s = bif decide ((i : Int) < (n : Int)) then F k (IntKind.i64.wrap ((i : Int) + 1)) (step i s) else out s) (s : σ) :
    F (Int.toNat ((n : Int) - 0) + 1) 0 s = out ((List.range n).foldl (fun s j => step j s) s) := by
  have := foldN F n step out hn hF n (Int.toNat ((n : Int) - 0)) 0 s (by omega) (by omega)
  rw [List.range_eq_range']; exact this
section
variable {α γ : Type}
theorem foldMap (f : α → γ) : ∀ (l : List α) (a : List γ), l.foldl (fun b x => b ++ [f x]) a = a ++ l.map f
  | [], a => by simp
  | x :: l, a => by rw [List.foldl_cons, foldMap f l]; simp
theorem mapB [Inhabited γ] (F : Nat → Int → Sl γ → Sl γ) (s : Sl α) (f : α → γ) (hn : s.n ≤ 549755813888) (hF : ∀ k i a, F (k + 1) i a = bif decide (i < (s.n : Int)) then F k (IntKind.i64.wrap (i + 1)) (Sl.app a (Sl.lit [f (s.at' (Int.toNat i))])) else a) (a : Sl γ) :
    (F (Int.toNat ((s.n : Int) - 0) + 1) 0 a).B = a.B ++ s.B.map f := by
  rw [fold0 F s.n (fun j a => Sl.app a (Sl.lit [f (s.at' j)])) id hn (fun k i a => hF k i a) a]
  rw [← foldMap f s.B a.B, ← foldB s (fun x b => b ++ [f x])]
  exact (List.foldl_hom Sl.B fun st j => by rw [B_app, B_lit]).symm
theorem foldSkip (f : Nat → α) (m : Int) : ∀ (l : List Nat) (a : List α), (∀ j ∈ l, (j : Int) ≠ m) → l.foldl (fun b (j : Nat) => bif ((j : Int) != m) then b ++ [f j] else b) a = a ++ l.map f
  | [], a, _ => by simp
  | x :: l, a, h => by
    have e : ((x : Int) != m) = true := by simpa [bne_iff_ne] using h x (List.mem_cons_self ..)
    rw [List.foldl_cons, e]
    simp only [cond_true]
    rw [foldSkip f m l _ fun j hj => h j (List.mem_cons_of_mem _ hj)]; simp
theorem range_cut {n m : Nat} (h : m < n) : List.range n = (List.range n).take m ++ m :: (List.range n).drop (m + 1) := by
  have h1 : m < (List.range n).length := by simpa using h
  have h2 := List.drop_eq_getElem_cons h1
  rw [List.getElem_range] at h2
  rw [← h2, List.take_append_drop]
theorem range_take {n m j : Nat} (h : j ∈ (List.range n).take m) : j < m := by
  obtain ⟨i, hi, he⟩ := List.mem_take_iff_getElem.1 h
  rw [List.getElem_range] at he
  simp at hi
  omega
theorem range_drop {n m j : Nat} (h : j ∈ (List.range n).drop m) : m ≤ j := by
  obtain ⟨i, hi, he⟩ := List.mem_drop_iff_getElem.1 h
  rw [List.getElem_range] at he
  omega
theorem B_take (s : Sl α) (m : Nat) : s.B.take m = ((List.range s.n).take m).map s.at' := by
  unfold Sl.B; rw [List.map_take]
theorem B_drop (s : Sl α) (m : Nat) : s.B.drop m = ((List.range s.n).drop m).map s.at' := by
  unfold Sl.B; rw [List.map_drop]
theorem skipB [Inhabited α] (F : Nat → Int → Sl α → Sl α) (s : Sl α) (m : Nat) (hm : m < s.n) (hn : s.n ≤ 549755813888) (hF : ∀ k i a, F (k + 1) i a = bif decide (i < (s.n : Int)) then F k (IntKind.i64.wrap (i + 1)) (bif (i != (m : Int)) then (Sl.app a (Sl.lit [s.at' (Int.toNat i)])) else a) else a) :
    (F (Int.toNat ((s.n : Int) - 0) + 1) 0 nilSl).B = s.B.take m ++ s.B.drop (m + 1) := by
  rw [foldN0 F s.n (fun j a => bif ((j : Int) != (m : Int)) then Sl.app a (Sl.lit [s.at' j]) else a) id hn (fun k i a => by
    rw [hF, Int.toNat_natCast]; rfl) nilSl]
  have h := (List.foldl_hom (l := List.range s.n) (init := (nilSl : Sl α)) (g₁ := fun a (j : Nat) => bif ((j : Int) != (m : Int)) then Sl.app a (Sl.lit [s.at' j]) else a) (g₂ := fun b (j : Nat) => bif ((j : Int) != (m : Int)) then b ++ [s.at' j] else b) Sl.B fun st j => by
    cases ((j : Int) != (m : Int)) <;> simp [B_app, B_lit]).symm
  refine h.trans ?_
  rw [range_cut hm, List.foldl_append, foldSkip s.at' m ((List.range s.n).take m) _ fun j hj => by have := range_take hj; omega]
  rw [List.foldl_cons, show (((m : Nat) : Int) != (m : Int)) = false by simp]
  simp only [cond_false]
  rw [foldSkip s.at' m ((List.range s.n).drop (m + 1)) _ fun j hj => by have := range_drop hj; omega]
  rw [← B_take, ← B_drop, B_nil]; rfl
end
theorem s221 (s : Sl ByteArray) (x6 : Int) (v : ByteArray) (hn : s.n ≤ 1048576) : (g221_r3 s x6 v).B = (g221_m2 x6 v).B ++ s.B := by
  have := mapB (g221_l6 s) s (fun x => x) (by omega) (fun _ _ _ => rfl) (g221_m2 x6 v)
  rw [List.map_id'] at this; exact this
theorem push7 (s : Sl ByteArray) (v : ByteArray) (hn : s.n ≤ 1048576) : (g221_m4 s 7 v).B = s.B ++ [v] := by
  show ((g221_r3 s 7 v).app (Sl.lit [v])).B = _
  rw [B_app, B_lit, s221 s 7 v hn]
  show [] ++ s.B ++ [v] = _
  simp
theorem push8 (s : Sl ByteArray) (v : ByteArray) (hn : s.n ≤ 1048576) : (g221_m4 s 8 v).B = v :: s.B := by
  show (g221_r3 s 8 v).B = _
  rw [s221 s 8 v hn]
  show (Sl.lit [v]).B ++ s.B = _
  rw [B_lit]; rfl
theorem pop (s : Sl ByteArray) (x6 : Int) (m : Nat) (hm : m < s.n) (hn : s.n ≤ 1048576) (e : g221_m5 s x6 = m) : (g221_r7 s x6).B = s.B.take m ++ s.B.drop (m + 1) := by
  refine skipB (g221_l16 s x6) s m hm (by omega) fun k i a => ?_
  show (bif decide (i < (s.n : Int)) then g221_l16 s x6 k (IntKind.i64.wrap (i + 1)) (g221_m6 s x6 i a) else a) = _
  unfold g221_m6
  rw [e]
theorem show18 (x3 : Sl T160) (x4 : Sl ByteArray) (x5 : Sl T164) (h3 : x3.n ≤ 1048576) (h4 : x4.n ≤ 1048576) (h5 : x5.n ≤ 1048576) : (g214 x3 x4 x5).B = (g190_r7 x3 x4 x5).B := by
  have a1 := mapB (g214_l1 x3) x3 (fun x => x.c0) (by omega) (fun _ _ _ => rfl) x4
  have a2 := mapB (g214_l6 x5) x5 (fun x => x.c0) (by omega) (fun _ _ _ => rfl) (g214_r1 x3 x4)
  have b0 := mapB (g190_l20 x4) x4 (fun x => x) (by omega) (fun _ _ _ => rfl) (nilSl : Sl ByteArray)
  have b1 := mapB (g190_l26 x3) x3 (fun x => x.c0) (by omega) (fun _ _ _ => rfl) (g190_r5 x4)
  have b2 := mapB (g190_l31 x5) x5 (fun x => x.c0) (by omega) (fun _ _ _ => rfl) (g190_r6 x3 x4)
  refine a2.trans (Eq.trans ?_ b2.symm)
  rw [show (g190_r6 x3 x4).B = _ from b1, show (g190_r5 x4).B = _ from b0, show (g214_r1 x3 x4).B = _ from a1]
  simp [B_nil]
-- ranks
theorem above_trans {a : ByteArray} {x : Int} {b : ByteArray} {y : Int} {c : ByteArray} {z : Int} (h1 : g146 a x b y = true) (h2 : g146 b y c z = true) : g146 a x c z = true := by
  unfold g146 at h1 h2 ⊢
  by_cases e1 : x = y
  · subst e1
    rw [show (x != x) = false by simp] at h1
    by_cases e2 : x = z
    · subst e2
      rw [show (x != x) = false by simp] at h2 ⊢
      exact less_trans h1 h2
    · rw [show (x != z) = true by simpa using e2] at h2 ⊢
      exact h2
  · rw [show (x != y) = true by simpa using e1] at h1
    have h1 := of_decide_eq_true h1
    by_cases e2 : y = z
    · subst e2
      rw [show (x != y) = true by simpa using e1]
      exact decide_eq_true h1
    · rw [show (y != z) = true by simpa using e2] at h2
      have h2 := of_decide_eq_true h2
      rw [show (x != z) = true by simp; omega]
      exact decide_eq_true (show x < z by omega)
theorem above_tot {a : ByteArray} {x : Int} {b : ByteArray} {y : Int} (h : (a.toList == b.toList) = false) : g146 a x b y = !(g146 b y a x) := by
  unfold g146
  by_cases e1 : x = y
  · subst e1
    rw [show (x != x) = false by simp]
    simp only [cond_false]
    cases h1 : Op.bytesLess a.toList b.toList with
    | true =>
      cases h2 : Op.bytesLess b.toList a.toList with
      | true => have := less_trans h1 h2; rw [less_irr] at this; cases this
      | false => rfl
    | false =>
      cases h2 : Op.bytesLess b.toList a.toList with
      | true => rfl
      | false => rw [less_tri h1 h2] at h; simp at h
  · rw [show (x != y) = true by simpa using e1, show (y != x) = true by simpa using fun e => e1 e.symm]
    simp only [cond_true]
    by_cases h1 : x < y
    · have : ¬ (y < x) := by omega
      simp [h1, this]
    · have : y < x := by omega
      simp [h1, this]
theorem eq144 (s : Sl T164) (k : ByteArray) (hn : s.n ≤ 1048576) : g144 s k = g147 s k := by
  have e1 : g197_201s_r1 s k = scan (fun i => (s.at' (Int.toNat i)).c0.toList == k.toList) (fun i => i) s.n 0 := scan0 (fun n i => g197_201s_l1 s k n i) s.n _ _ (by omega) fun _ _ => rfl
  have e2 : g147_r1 s k = scan (fun i => (s.at' (Int.toNat i)).c0.toList == k.toList) (fun i => i) s.n 0 := scan0 (fun n i => g147_l1 s k n i) s.n _ _ (by omega) fun _ _ => rfl
  unfold g144 g197_201s g197_201s_p2 g147 g147_p2
  rw [e1, e2]
theorem at147 (s : Sl T164) (k : ByteArray) (hn : s.n ≤ 1048576) (hu : ∀ i j, i < j → j < s.n → ((s.at' i).c0.toList == (s.at' j).c0.toList) = false) :
    (g147 s k = -1 ∧ ∀ i, i < s.n → ((s.at' i).c0.toList == k.toList) = false) ∨ ∃ j : Nat, g147 s k = j ∧ j < s.n ∧ ∀ i, i < s.n → i ≠ j → ((s.at' i).c0.toList == k.toList) = false := by
  have e2 : g147_r1 s k = scan (fun i => (s.at' (Int.toNat i)).c0.toList == k.toList) (fun i => i) s.n 0 := scan0 (fun n i => g147_l1 s k n i) s.n _ _ (by omega) fun _ _ => rfl
  unfold g147 g147_p2
  rw [e2]
  cases h : (scan (fun i => (s.at' (Int.toNat i)).c0.toList == k.toList) (fun i => i) s.n 0).1 with
  | false =>
    refine .inl ⟨rfl, fun i hi => ?_⟩
    have := scan_none _ _ h (i : Int) (by omega) (by omega)
    simpa using this
  | true =>
    obtain ⟨j, h1, h2, h3, h4⟩ := scan_snd _ _ h
    refine .inr ⟨j.toNat, ?_, by omega, fun i hi hne => ?_⟩
    · show (scan _ _ _ _).2 = _
      rw [h4]; omega
    · have h3 := eq_of_beq h3
      rw [← h3]
      rcases Nat.lt_or_ge i j.toNat with g | g
      · exact hu i j.toNat g (by omega)
      · have := hu j.toNat i (by omega) hi
        rw [beq_eq_false_iff_ne] at this ⊢
        exact fun e => this e.symm
end Go.Proofs.Ytchhfojblmceiaa
/-
  Ranks.
-/
namespace Go.Proofs.Ytchhfojblmceiaa
open Go Go.Vc Go.RowKit
set_option maxRecDepth 100000
set_option maxHeartbeats 4000000
theorem foldRel {α σ τ : Type} (f : Nat → α) (g : Nat → σ → σ) (abs : σ → τ) (h : α → τ → τ) : ∀ (l : List Nat) (st : σ), (∀ j ∈ l, ∀ st, abs (g j st) = h (f j) (abs st)) → abs (l.foldl (fun st j => g j st) st) = (l.map f).foldl (fun t a => h a t) (abs st)
  | [], _, _ => rfl
  | j :: l, st, hs => by
    rw [List.foldl_cons, foldRel f g abs h l _ fun i hi => hs i (List.mem_cons_of_mem _ hi), hs j (List.mem_cons_self ..)]
    rfl
noncomputable def without (s : Sl T164) (k : ByteArray) : List T164 := bif decide (g147 s k ≥ 0) then s.B.take (g147 s k).toNat ++ s.B.drop ((g147 s k).toNat + 1) else s.B
def Uniq (s : Sl T164) : Prop := ∀ i j, i < j → j < s.n → ((s.at' i).c0.toList == (s.at' j).c0.toList) = false
theorem wo218 (s : Sl T164) (k : ByteArray) (hn : s.n ≤ 1048576) (hu : Uniq s) : (g218_m3 k s).B = without s k := by
  unfold g218_m3 without
  rw [eq144 s k hn]
  rcases at147 s k hn hu with ⟨e, _⟩ | ⟨j, e, hj, _⟩
  · rw [e]; rfl
  · rw [e, show decide ((j : Int) ≥ 0) = true from decide_eq_true (by omega)]
    simp only [cond_true]
    rw [wrap64 (x := (j : Int) + 1) (by omega) (by omega), show Int.toNat ((j : Int) + 1) = j + 1 by omega, Int.toNat_natCast, B_del s j hj]
noncomputable abbrev rstep (k : ByteArray) (v : Int) (a : T164) (st : Bool × Unit × Bool × List T164) := lstep true (⟨k, v⟩ : T164) (fun a => !(g146 k v a.c0 a.c1)) (fun _ => false) (fun _ => ()) a st
theorem run5 (s : Sl T164) (x6 : Int) (k : ByteArray) (v : Int) (hn : s.n ≤ 1048576) (hu : Uniq s) :
    (false, (), (g223_r7 s x6 k v).1, (g223_r7 s x6 k v).2.B) = (without s k).foldl (fun st a => rstep k v a st) (false, (), (x6 == 15), []) := by
  have h := foldN0 (fun n i (st : Bool × Sl T164) => g223_l3 s k v n st.1 i st.2) s.n (fun j st => (g223_m6 s k v st.1 (j : Int), g223_m5 s k v st.1 (j : Int) st.2)) id (by omega) (fun n i st => rfl) ((x6 == 15), nilSl)
  have h2 : g223_r7 s x6 k v = _ := h
  rw [h2]
  have hstep : ∀ j : Nat, (j : Int) ≠ g147 s k → ∀ st : Bool × Sl T164, (fun st : Bool × Sl T164 => (false, (), st.1, st.2.B)) (g223_m6 s k v st.1 (j : Int), g223_m5 s k v st.1 (j : Int) st.2) = rstep k v (s.at' j) ((fun st : Bool × Sl T164 => (false, (), st.1, st.2.B)) st) := fun j hj st => by
    have e : ((j : Int) == g147 s k) = false := beq_eq_false_iff_ne.2 hj
    simp only [lstep, g223_m6, g223_m5, g223_m4, g223_m3, g223_m2, e, cond_false, Int.toNat_natCast]
    cases st.1 <;> cases g146 k v (s.at' j).c0 (s.at' j).c1 <;> simp [B_app, B_lit]
  simp only [id]
  rcases at147 s k hn hu with ⟨e, _⟩ | ⟨j, e, hj, _⟩
  · have := foldRel s.at' (fun j st => (g223_m6 s k v st.1 (j : Int), g223_m5 s k v st.1 (j : Int) st.2)) (fun st : Bool × Sl T164 => (false, (), st.1, st.2.B)) (rstep k v) (List.range s.n) ((x6 == 15), nilSl) fun j _ => hstep j (by omega)
    refine this.trans ?_
    unfold without
    rw [e]
    rfl
  · rw [range_cut hj, List.foldl_append, List.foldl_cons]
    have h1 := foldRel s.at' (fun j st => (g223_m6 s k v st.1 (j : Int), g223_m5 s k v st.1 (j : Int) st.2)) (fun st : Bool × Sl T164 => (false, (), st.1, st.2.B)) (rstep k v) ((List.range s.n).take j) ((x6 == 15), nilSl) fun i hi => hstep i (by have := range_take hi; omega)
    generalize hA : ((List.range s.n).take j).foldl (fun (st : Bool × Sl T164) (j : Nat) => (g223_m6 s k v st.1 (j : Int), g223_m5 s k v st.1 (j : Int) st.2)) ((x6 == 15), nilSl) = A at h1 ⊢
    have e6 : (g223_m6 s k v A.1 (j : Int), g223_m5 s k v A.1 (j : Int) A.2) = A := by
      simp only [g223_m6, g223_m5]
      rw [show ((j : Int) == g147 s k) = true from beq_iff_eq.2 e.symm]
      rfl
    rw [e6]
    have h3 := foldRel s.at' (fun j st => (g223_m6 s k v st.1 (j : Int), g223_m5 s k v st.1 (j : Int) st.2)) (fun st : Bool × Sl T164 => (false, (), st.1, st.2.B)) (rstep k v) ((List.range s.n).drop (j + 1)) A fun i hi => hstep i (by have := range_drop hi; omega)
    refine h3.trans ?_
    rw [h1]
    unfold without
    rw [e, show decide ((j : Int) ≥ 0) = true from decide_eq_true (by omega)]
    simp only [cond_true]
    rw [Int.toNat_natCast, List.foldl_append, B_take, B_drop]
    rfl
theorem wo_mem {s : Sl T164} {k : ByteArray} (hn : s.n ≤ 1048576) (hu : Uniq s) {a : T164} (h : a ∈ without s k) : (a.c0.toList == k.toList) = false := by
  unfold without at h
  rcases at147 s k hn hu with ⟨e, hk⟩ | ⟨j, e, hj, hk⟩
  · rw [e] at h
    have h : a ∈ s.B := h
    obtain ⟨i, hi, rfl⟩ : ∃ i, i < s.n ∧ s.at' i = a := by
      simpa [Sl.B] using h
    exact hk i hi
  · rw [e, show decide ((j : Int) ≥ 0) = true from decide_eq_true (by omega), Int.toNat_natCast] at h
    simp only [cond_true] at h
    rcases List.mem_append.1 h with h | h
    · obtain ⟨i, h1, h2, rfl⟩ := mem_take s h
      exact hk i h1 (by omega)
    · obtain ⟨i, h1, h2, rfl⟩ := mem_drop s h
      exact hk i h1 (by omega)
theorem wo_pair {s : Sl T164} {k : ByteArray} (hp : s.B.Pairwise fun a b => g146 a.c0 a.c1 b.c0 b.c1 = true) : (without s k).Pairwise fun a b => g146 a.c0 a.c1 b.c0 b.c1 = true := by
  unfold without
  cases decide (g147 s k ≥ 0)
  · exact hp
  · refine hp.sublist ?_
    simp only [cond_true]
    have := List.take_append_drop (g147 s k).toNat s.B
    conv => rhs; rw [← this]
    refine List.Sublist.append (List.Sublist.refl _) ?_
    rw [← List.drop_drop]
    exact List.drop_sublist _ _
theorem wo_len (s : Sl T164) (k : ByteArray) : (without s k).length ≤ s.n := by
  unfold without
  cases decide (g147 s k ≥ 0)
  · simp [B_len]
  · simp [B_len]; omega
theorem rank (s : Sl T164) (k : ByteArray) (v : Int) (hn : s.n ≤ 1048576) (hu : Uniq s) (hp : s.B.Pairwise fun a b => g146 a.c0 a.c1 b.c0 b.c1 = true) :
    (g223_r7 s 15 k v).2.B = (g218_m3 k s).B ∧
    ∃ t : Nat, t ≤ (g218_m3 k s).n ∧ g236_141_0 (g218_m3 k s) k v = t ∧ (g223_m8 s 14 k v).B = (g218_m3 k s).B.take t ++ ⟨k, v⟩ :: (g218_m3 k s).B.drop t := by
  have hw := wo218 s k hn hu
  have hq : ∀ a ∈ without s k, g146 a.c0 a.c1 k v = !(g146 k v a.c0 a.c1) := fun a ha => above_tot (wo_mem hn hu ha)
  have hpw := wo_pair (k := k) hp
  have hlen := wo_len s k
  rw [← hw] at hq hpw hlen
  generalize hM : g218_m3 k s = M at hw hq hpw hlen ⊢
  have hl : M.n ≤ 1048576 := by rw [B_len] at hlen; omega
  constructor
  · have h1 := run5 s 15 k v hn hu
    rw [← hw, show ((15 : Int) == 15) = true from rfl, lrun2 M.B _ _ _ _ (.inr rfl) (fun _ _ => rfl)] at h1
    exact (Prod.mk.inj (Prod.mk.inj (Prod.mk.inj h1).2).2).2
  · have hat : ∀ i, i < M.n → M.at' i ∈ M.B := fun i hi => by
      simp only [Sl.B, List.mem_map, List.mem_range]; exact ⟨i, hi, rfl⟩
    obtain ⟨t, h1, h2⟩ := cutAt (fun m => g146 (M.at' m).c0 (M.at' m).c1 k v) M.n fun i j a b c => by
      have := List.pairwise_iff_getElem.1 hpw i j (by rw [B_len]; omega) (by rw [B_len]; omega) a
      simp only [Sl.B, List.getElem_map, List.getElem_range] at this
      exact above_trans this c
    refine ⟨t, h1, ?_, ?_⟩
    · show g236_141_r1 M k v = t
      unfold g236_141_r1
      rw [b236_141]
      exact bs_all hl (fun m hm => (neg_of (c141 _ _ _ _)).trans (h2 m hm)) h1
    · have hr := run5 s 14 k v hn hu
      rw [← hw] at hr
      have h := finL (op := true) (new := (⟨k, v⟩ : T164)) (lt := fun a => !(g146 k v a.c0 a.c1)) (eq := fun _ => false) (val := fun _ => ()) M.B t () false _ hr
        (by rw [B_len]; exact h1) (fun a ha => by
          obtain ⟨i, g1, g2, rfl⟩ := mem_take M ha
          refine ⟨?_, rfl⟩
          rw [← hq _ (hat i g1)]
          exact (h2 i g1).trans (decide_eq_true g2)) (fun a _ => rfl) (fun y hy => by
          rw [B_some] at hy
          split at hy
          · rename_i ht
            cases hy
            show (!(g146 k v (M.at' t).c0 (M.at' t).c1)) = false
            rw [← hq _ (hat t ht)]
            exact (h2 t ht).trans (decide_eq_false (by omega))
          · cases hy) (by cases M.B[t]? <;> rfl)
      have h4 := h.2.2.2 rfl
      simp only [cond_false] at h4
      rw [← h4]
      unfold g223_m8
      cases (g223_r7 s 14 k v).1
      · simp [B_app, B_lit]
      · rfl
end Go.Proofs.Ytchhfojblmceiaa
/-
  One command on one value: the program's step against the reference's.
-/
namespace Go.Proofs.Ytchhfojblmceiaa
open Go Go.Vc Go.RowKit
set_option maxRecDepth 100000
set_option maxHeartbeats 4000000
structure Eqv (x0 : Int) (x1 : ByteArray) (x2 : Int) (x3 : Sl T160) (x4 : Sl ByteArray) (x5 : Sl T164) (x6 : Int) (x8 x9 : ByteArray) (x10 : Int) (K : Int) : Prop where
  e0 : g188_0 x6 x8 x9 x10 K x2 x3 x4 x5 = g190_m14 x2 x3 x4 x5 x6 x8 x9 x10
  e1 : g188_1 x6 x8 x9 x10 K x1 x2 x3 x4 x5 = g190_m15 x1 x3 x4 x6 x8 x9
  e2 : g188_2 x6 x8 x9 x10 K x2 x3 x4 x5 = g190_m16 x2 x3 x4 x5 x6 x8 x9 x10
  e3 : (g188_3 x6 x8 x9 x10 K x2 x3 x4 x5).B = (g190_m17 x3 x4 x5 x6).B
  k0 : g190_m14 x2 x3 x4 x5 x6 x8 x9 x10 = 0 → g188_h0_0 x6 K = g190_m8 x0 x1 x2 x3 x4 x5 x6 x8 x9 x10
  k1 : g190_m14 x2 x3 x4 x5 x6 x8 x9 x10 = 0 → g188_h0_1 x6 x9 x1 = g190_m9 x1 x3 x4 x5 x6 x8 x9 x10
  k2 : g190_m14 x2 x3 x4 x5 x6 x8 x9 x10 = 0 → g188_h0_2 x6 x10 x2 = g190_m10 x2 x3 x4 x5 x6 x8 x9 x10
  k3 : g190_m14 x2 x3 x4 x5 x6 x8 x9 x10 = 0 → (g188_h0_3 x6 x8 x9 K x3).B = (g190_m11 x3 x4 x5 x6 x8 x9 x10).B
  k4 : g190_m14 x2 x3 x4 x5 x6 x8 x9 x10 = 0 → (g188_h0_4 x6 x9 K x4).B = (g190_m12 x3 x4 x5 x6 x8 x9 x10).B
  k5 : g190_m14 x2 x3 x4 x5 x6 x8 x9 x10 = 0 → (g188_h0_5 x6 x9 x10 K x5).B = (g190_m13 x3 x4 x5 x6 x8 x9 x10).B
structure Good (K : Int) (x1 : ByteArray) (x2 : Int) (x3 : Sl T160) (x4 : Sl ByteArray) (x5 : Sl T164) : Prop where
  t : K ≠ 1 → x1 = ⟨#[]⟩
  i : K ≠ 2 → x2 = 0
  a3 : K ≠ 3 → x3.n = 0
  a4 : K ≠ 4 → K ≠ 5 → x4.n = 0
  a5 : K ≠ 6 → x5.n = 0
  n3 : x3.n ≤ 20
  n4 : x4.n ≤ 20
  n5 : x5.n ≤ 20
  r3 : Rise x3.n (fun i => (x3.at' i).c0)
  r4 : K ≠ 4 → Rise x4.n x4.at'
  u5 : Uniq x5
  p5 : x5.B.Pairwise fun a b => g146 a.c0 a.c1 b.c0 b.c1 = true
theorem B_z {α : Type} {s : Sl α} (h : s.n = 0) : s.B = [] := by
  unfold Sl.B; rw [h]; rfl
section
variable {x0 : Int} {x1 : ByteArray} {x2 : Int} {x3 : Sl T160} {x4 : Sl ByteArray} {x5 : Sl T164} {x8 x9 : ByteArray} {x10 : Int} {K : Int}
theorem ev1 (_ : g190_m3 x0 x1 x2 x3 x4 x5 1 = K) : Eqv x0 x1 x2 x3 x4 x5 1 x8 x9 x10 K :=
  ⟨rfl, rfl, rfl, rfl, fun _ => rfl, fun _ => rfl, fun _ => rfl, fun _ => rfl, fun _ => rfl, fun _ => rfl⟩
theorem ev2 (hm : g190_m3 x0 x1 x2 x3 x4 x5 2 = K) : Eqv x0 x1 x2 x3 x4 x5 2 x8 x9 x10 K :=
  ⟨rfl, rfl, rfl, rfl, fun _ => hm.symm, fun _ => rfl, fun _ => rfl, fun _ => rfl, fun _ => rfl, fun _ => rfl⟩
theorem ev3 (hm : g190_m3 x0 x1 x2 x3 x4 x5 3 = K) : Eqv x0 x1 x2 x3 x4 x5 3 x8 x9 x10 K := by
  have e : g117 (IntKind.i64.wrap (x2 + x10)) = g114 (IntKind.i64.wrap (x2 + x10)) := g117_eq _
  refine ⟨?_, ?_, ?_, ?_, fun _ => hm.symm, fun _ => rfl, fun _ => ?_, fun _ => rfl, fun _ => rfl, fun _ => rfl⟩
  · show (bif (!(g117 (IntKind.i64.wrap (x2 + x10)))) then (g187_0 7) else g213_0) = (bif (!(g114 (IntKind.i64.wrap (x2 + x10)))) then 7 else 0)
    rw [e]; rfl
  · show (bif (!(g117 (IntKind.i64.wrap (x2 + x10)))) then g187_1 else g213_1) = _
    cases (!(g117 (IntKind.i64.wrap (x2 + x10)))) <;> rfl
  · show (bif (!(g117 (IntKind.i64.wrap (x2 + x10)))) then g187_2 else (g213_2 (IntKind.i64.wrap (x2 + x10)))) = (bif (!(g114 (IntKind.i64.wrap (x2 + x10)))) then 0 else (IntKind.i64.wrap (x2 + x10)))
    rw [e]; rfl
  · show (bif (!(g117 (IntKind.i64.wrap (x2 + x10)))) then g187_3 else g213_3).B = (nilSl : Sl ByteArray).B
    cases (!(g117 (IntKind.i64.wrap (x2 + x10)))) <;> rfl
  · show (bif (!(g117 (IntKind.i64.wrap (x2 + x10)))) then x2 else (IntKind.i64.wrap (x2 + x10))) = (bif (!(g114 (IntKind.i64.wrap (x2 + x10)))) then x2 else (IntKind.i64.wrap (x2 + x10)))
    rw [e]
theorem ev17 (hm : g190_m3 x0 x1 x2 x3 x4 x5 17 = K) : Eqv x0 x1 x2 x3 x4 x5 17 x8 x9 x10 K :=
  ⟨rfl, rfl, rfl, rfl, fun _ => hm.symm, fun _ => rfl, fun _ => rfl, fun _ => rfl, fun _ => rfl, fun _ => rfl⟩
theorem ev18 (hm : g190_m3 x0 x1 x2 x3 x4 x5 18 = K) (h : Good K x1 x2 x3 x4 x5) : Eqv x0 x1 x2 x3 x4 x5 18 x8 x9 x10 K :=
  ⟨rfl, rfl, rfl, show18 x3 x4 x5 (by have := h.n3; omega) (by have := h.n4; omega) (by have := h.n5; omega), fun _ => hm.symm, fun _ => rfl, fun _ => rfl, fun _ => rfl, fun _ => rfl, fun _ => rfl⟩
-- the hash
theorem ev4 (_ : g190_m3 x0 x1 x2 x3 x4 x5 4 = 3) (h : Good 3 x1 x2 x3 x4 x5) : Eqv x0 x1 x2 x3 x4 x5 4 x8 x9 x10 3 := by
  obtain ⟨t, ht, h0, hf, hr, hv, _, hm11⟩ := hash x3 4 x8 x9 (by have := h.n3; omega) h.r3
  have hm11 := hm11 rfl
  have hn : (g220_m11 x3 4 x8 x9).n = bif g228_139_1 x3 x8 then x3.n else x3.n + 1 := by
    rw [← B_len, hm11]
    cases hF : g228_139_1 x3 x8
    · simp [B_len]; omega
    · have := (hf hF).1; simp [B_len]; omega
  have z1 := h.t (by decide)
  have z2 := h.i (by decide)
  have z4 := B_z (h.a4 (by decide) (by decide))
  have z5 := B_z (h.a5 (by decide))
  have n3 := h.n3
  have q0 : g215_0 4 x8 x3 = bif g228_139_1 x3 x8 then 0 else bif ((x3.n : Int) == 20) then 6 else 0 := by
    cases hF : g228_139_1 x3 x8 <;> simp [g215_0, g215_p5, g215_m1, g215_m2, hF, g187_0, g213_0]
  have q1 : decide ((((g220_m11 x3 4 x8 x9).n : Nat) : Int) > 20) = (!(g228_139_1 x3 x8) && ((x3.n : Int) == 20)) := by
    rw [hn]
    cases g228_139_1 x3 x8
    · show decide (((x3.n + 1 : Nat) : Int) > 20) = (true && ((x3.n : Int) == 20))
      by_cases e : x3.n = 20
      · rw [e]; rfl
      · rw [decide_eq_false (by omega), show ((x3.n : Int) == 20) = false from beq_eq_false_iff_ne.2 (by omega)]; rfl
    · show decide (((x3.n : Nat) : Int) > 20) = false
      exact decide_eq_false (by omega)
  have qe : g190_m14 x2 x3 x4 x5 4 x8 x9 x10 = bif (!(g228_139_1 x3 x8) && ((x3.n : Int) == 20)) then 6 else 0 := by
    show (bif decide ((((g220_m11 x3 4 x8 x9).n : Nat) : Int) > 20) then 6 else 0) = _
    rw [q1]
  have qz : g190_m14 x2 x3 x4 x5 4 x8 x9 x10 = 0 → (!(g228_139_1 x3 x8) && ((x3.n : Int) == 20)) = false := fun h => by
    rw [qe] at h
    cases e : (!(g228_139_1 x3 x8) && ((x3.n : Int) == 20)) with
    | false => rfl
    | true => rw [e] at h; cases h
  refine ⟨?_, ?_, ?_, ?_, fun g => ?_, fun g => ?_, fun g => ?_, fun g => ?_, fun g => ?_, fun g => ?_⟩
  · show g215_0 4 x8 x3 = _
    rw [q0, qe]
    cases g228_139_1 x3 x8 <;> rfl
  · show g215_1 4 x8 x3 = ⟨#[]⟩
    cases hF : g228_139_1 x3 x8 <;> cases hN : ((x3.n : Int) == 20) <;> simp [g215_1, g215_p5, g215_m1, g215_m2, hF, hN, g187_1, g213_1]
  · show g215_2 4 x8 x3 = (bif decide ((((g220_m11 x3 4 x8 x9).n : Nat) : Int) > 20) then 0 else (g238 (!(g220_r10 x3 4 x8 x9).1)))
    rw [q1, hr]
    cases hF : g228_139_1 x3 x8 <;> cases hN : ((x3.n : Int) == 20) <;> simp [g215_2, g215_p5, g215_m1, g215_m2, hF, hN, g187_2, g213_2, g238]
  · show (g215_3 4 x8 x3).B = (nilSl : Sl ByteArray).B
    cases hF : g228_139_1 x3 x8 <;> cases hN : ((x3.n : Int) == 20) <;> simp [g215_3, g215_p5, g215_m1, g215_m2, hF, hN, g187_3, g213_3]
  · show (3 : Int) = (bif decide ((((g220_m11 x3 4 x8 x9).n : Nat) : Int) > 20) then (g190_m3 x0 x1 x2 x3 x4 x5 4) else 3)
    rw [q1, qz g]; rfl
  · show x1 = (bif decide ((((g220_m11 x3 4 x8 x9).n : Nat) : Int) > 20) then x1 else ⟨#[]⟩)
    rw [q1, qz g]; exact z1
  · show x2 = (bif decide ((((g220_m11 x3 4 x8 x9).n : Nat) : Int) > 20) then x2 else 0)
    rw [q1, qz g]; exact z2
  · show (g215_h0_3 4 x8 x9 x3).B = (bif decide ((((g220_m11 x3 4 x8 x9).n : Nat) : Int) > 20) then x3 else (g220_m11 x3 4 x8 x9)).B
    have g := qz g
    rw [q1, g]
    show _ = (g220_m11 x3 4 x8 x9).B
    rw [hm11]
    cases hF : g228_139_1 x3 x8 with
    | true =>
      obtain ⟨f1, f2⟩ := hf hF
      have : g215_h0_3 4 x8 x9 x3 = Sl.upd x3 t ⟨x8, x9⟩ := by
        simp [g215_h0_3, g215_p5, g215_m1, hF, h0, f2]
      rw [this, B_upd]
      simp only [cond_true]
      rw [List.set_eq_take_append_cons_drop, if_pos (by rw [B_len]; exact f1)]
    | false =>
      rw [hF] at g
      have hN : ((x3.n : Int) == 20) = false := by simpa using g
      have : g215_h0_3 4 x8 x9 x3 = Sl.ins x3 t ⟨x8, x9⟩ := by
        simp [g215_h0_3, g215_p5, g215_m1, g215_m2, hF, hN, h0]
      rw [this, B_ins _ _ _ ht]
      rfl
  · show x4.B = (bif decide ((((g220_m11 x3 4 x8 x9).n : Nat) : Int) > 20) then x4 else (nilSl : Sl ByteArray)).B
    rw [q1, qz g]; exact z4
  · show x5.B = (bif decide ((((g220_m11 x3 4 x8 x9).n : Nat) : Int) > 20) then x5 else (nilSl : Sl T164)).B
    rw [q1, qz g]; exact z5
end
end Go.Proofs.Ytchhfojblmceiaa
/-
  One command on one value: the other kinds.
-/
namespace Go.Proofs.Ytchhfojblmceiaa
open Go Go.Vc Go.RowKit
set_option maxRecDepth 100000
set_option maxHeartbeats 4000000
section
variable {x0 : Int} {x1 : ByteArray} {x2 : Int} {x3 : Sl T160} {x4 : Sl ByteArray} {x5 : Sl T164} {x8 x9 : ByteArray} {x10 : Int} {K : Int}
theorem ev5 (hm : g190_m3 x0 x1 x2 x3 x4 x5 5 = 3) (h : Good 3 x1 x2 x3 x4 x5) : Eqv x0 x1 x2 x3 x4 x5 5 x8 x9 x10 3 := by
  obtain ⟨t, ht, h0, hf, hr, hv, _, _⟩ := hash x3 5 x8 x9 (by have := h.n3; omega) h.r3
  have p : g215_p5 5 x8 x3 = false := by
    cases hF : g228_139_1 x3 x8 <;> simp [g215_p5, g215_m1, g215_m2, g215_m3, hF]
  refine ⟨?_, ?_, ?_, ?_, fun g => hm.symm, fun g => rfl, fun g => rfl, fun g => ?_, fun g => rfl, fun g => rfl⟩
  · show g215_0 5 x8 x3 = (bif (!(g220_r10 x3 5 x8 x9).1) then 5 else 0)
    rw [hr]
    cases hF : g228_139_1 x3 x8 <;> simp [g215_0, p, g215_m1, g215_m2, g215_m3, hF, g187_0]
  · show g215_1 5 x8 x3 = (bif (!(g220_r10 x3 5 x8 x9).1) then ⟨#[]⟩ else (g220_r10 x3 5 x8 x9).2.1)
    rw [hr]
    cases hF : g228_139_1 x3 x8 with
    | true => rw [hv hF]; simp [g215_1, p, g215_m1, g215_m2, g215_m3, hF, h0]
    | false => simp [g215_1, p, g215_m1, g215_m2, g215_m3, hF, g187_1]
  · show g215_2 5 x8 x3 = 0
    cases hF : g228_139_1 x3 x8 <;> simp [g215_2, p, g215_m1, g215_m2, g215_m3, hF, g187_2]
  · show (g215_3 5 x8 x3).B = (nilSl : Sl ByteArray).B
    cases hF : g228_139_1 x3 x8 <;> simp [g215_3, p, g215_m1, g215_m2, g215_m3, hF, g187_3]
  · show (g215_h0_3 5 x8 x9 x3).B = x3.B
    simp [g215_h0_3, p, g215_m1, g215_m2]
theorem ev6 (_ : g190_m3 x0 x1 x2 x3 x4 x5 6 = 3) (h : Good 3 x1 x2 x3 x4 x5) : Eqv x0 x1 x2 x3 x4 x5 6 x8 x9 x10 3 := by
  obtain ⟨t, ht, h0, hf, hr, hv, hd, _⟩ := hash x3 6 x8 x9 (by have := h.n3; omega) h.r3
  have n3 := h.n3
  refine ⟨rfl, rfl, ?_, rfl, fun g => rfl, fun g => h.t (by decide), fun g => h.i (by decide), fun g => ?_, fun g => B_z (h.a4 (by decide) (by decide)), fun g => B_z (h.a5 (by decide))⟩
  · show g213_2 (g231 (g228_139_1 x3 x8)) = g238 (g220_r10 x3 6 x8 x9).1
    rw [hr]; rfl
  · show (g215_m4 x8 x3).B = (g220_r10 x3 6 x8 x9).2.2.2.B
    rw [hd (by decide)]
    unfold g215_m4
    cases hF : g228_139_1 x3 x8 with
    | true =>
      have f1 := (hf hF).1
      simp only [cond_true]
      rw [h0, wrap64 (by omega) (by omega), Int.toNat_natCast, show Int.toNat ((t : Int) + 1) = t + 1 by omega, B_del _ _ f1]
    | false => rfl
-- the list
theorem ge20 {n : Nat} (h : n ≤ 20) : decide ((n : Int) ≥ 20) = ((n : Int) == 20) := by
  by_cases e : n = 20
  · rw [e]; rfl
  · rw [decide_eq_false (by omega), show ((n : Int) == 20) = false from beq_eq_false_iff_ne.2 (by omega)]
theorem ev78 (x6 : Int) (hx : x6 = 7 ∨ x6 = 8) (_ : g190_m3 x0 x1 x2 x3 x4 x5 x6 = 4) (h : Good 4 x1 x2 x3 x4 x5) : Eqv x0 x1 x2 x3 x4 x5 x6 x8 x9 x10 4 := by
  have n4 := h.n4
  have z1 := h.t (by decide)
  have z2 := h.i (by decide)
  have z3 := B_z (h.a3 (by decide))
  have z5 := B_z (h.a5 (by decide))
  have q := ge20 n4
  have qe : g190_m14 x2 x3 x4 x5 x6 x8 x9 x10 = bif ((x4.n : Int) == 20) then 6 else 0 := by
    rw [← q]
    rcases hx with e | e <;> subst e <;> rfl
  have qz : g190_m14 x2 x3 x4 x5 x6 x8 x9 x10 = 0 → ((x4.n : Int) == 20) = false := fun h => by
    rw [qe] at h
    cases e : ((x4.n : Int) == 20) with
    | false => rfl
    | true => rw [e] at h; cases h
  have p : g216_p4 x6 x4 = false := by
    rcases hx with e | e <;> subst e <;> cases hN : ((x4.n : Int) == 20) <;> simp [g216_p4, g216_m1, hN]
  have m : g216_m1 x6 x4 = ((x4.n : Int) == 20) := by
    rcases hx with e | e <;> subst e <;> rfl
  have a0 : g188_0 x6 x8 x9 x10 4 x2 x3 x4 x5 = g216_0 x6 x4 := by rcases hx with e | e <;> subst e <;> rfl
  have a1 : g188_1 x6 x8 x9 x10 4 x1 x2 x3 x4 x5 = g216_1 x6 x4 := by rcases hx with e | e <;> subst e <;> rfl
  have a2 : g188_2 x6 x8 x9 x10 4 x2 x3 x4 x5 = g216_2 x6 x4 := by rcases hx with e | e <;> subst e <;> rfl
  have a3 : g188_3 x6 x8 x9 x10 4 x2 x3 x4 x5 = g216_3 x6 x4 := by rcases hx with e | e <;> subst e <;> rfl
  have b1 : g190_m15 x1 x3 x4 x6 x8 x9 = ⟨#[]⟩ := by rcases hx with e | e <;> subst e <;> rfl
  have b2 : g190_m16 x2 x3 x4 x5 x6 x8 x9 x10 = bif decide ((x4.n : Int) ≥ 20) then 0 else (IntKind.i64.wrap ((x4.n : Int) + 1)) := by rcases hx with e | e <;> subst e <;> rfl
  have b3 : g190_m17 x3 x4 x5 x6 = nilSl := by rcases hx with e | e <;> subst e <;> rfl
  have c0 : g190_m8 x0 x1 x2 x3 x4 x5 x6 x8 x9 x10 = bif decide ((x4.n : Int) ≥ 20) then (g190_m3 x0 x1 x2 x3 x4 x5 x6) else 4 := by rcases hx with e | e <;> subst e <;> rfl
  have c1 : g190_m9 x1 x3 x4 x5 x6 x8 x9 x10 = bif decide ((x4.n : Int) ≥ 20) then x1 else ⟨#[]⟩ := by rcases hx with e | e <;> subst e <;> rfl
  have c2 : g190_m10 x2 x3 x4 x5 x6 x8 x9 x10 = bif decide ((x4.n : Int) ≥ 20) then x2 else 0 := by rcases hx with e | e <;> subst e <;> rfl
  have c3 : g190_m11 x3 x4 x5 x6 x8 x9 x10 = bif decide ((x4.n : Int) ≥ 20) then x3 else nilSl := by rcases hx with e | e <;> subst e <;> rfl
  have c4 : g190_m12 x3 x4 x5 x6 x8 x9 x10 = bif decide ((x4.n : Int) ≥ 20) then x4 else g221_m4 x4 x6 x9 := by rcases hx with e | e <;> subst e <;> rfl
  have c5 : g190_m13 x3 x4 x5 x6 x8 x9 x10 = bif decide ((x4.n : Int) ≥ 20) then x5 else nilSl := by rcases hx with e | e <;> subst e <;> rfl
  have d0 : g188_h0_0 x6 4 = 4 := by rcases hx with e | e <;> subst e <;> rfl
  have d1 : g188_h0_1 x6 x9 x1 = x1 := by rcases hx with e | e <;> subst e <;> rfl
  have d2 : g188_h0_2 x6 x10 x2 = x2 := by rcases hx with e | e <;> subst e <;> rfl
  have d3 : g188_h0_3 x6 x8 x9 4 x3 = x3 := by rcases hx with e | e <;> subst e <;> rfl
  have d4 : g188_h0_4 x6 x9 4 x4 = g216_h0_4 x6 x9 x4 := by rcases hx with e | e <;> subst e <;> rfl
  have d5 : g188_h0_5 x6 x9 x10 4 x5 = x5 := by rcases hx with e | e <;> subst e <;> rfl
  refine ⟨?_, ?_, ?_, ?_, fun g => ?_, fun g => ?_, fun g => ?_, fun g => ?_, fun g => ?_, fun g => ?_⟩
  · rw [a0, qe]; unfold g216_0; rw [p, m]; rfl
  · rw [a1, b1]; unfold g216_1; rw [p, m]; cases ((x4.n : Int) == 20) <;> rfl
  · rw [a2, b2, q]; unfold g216_2; rw [p, m]; rfl
  · rw [a3, b3]; unfold g216_3; rw [p, m]; cases ((x4.n : Int) == 20) <;> rfl
  · rw [d0, c0, q, qz g]; rfl
  · rw [d1, c1, q, qz g]; exact z1
  · rw [d2, c2, q, qz g]; exact z2
  · rw [d3, c3, q, qz g]; exact z3
  · rw [d4, c4, q, qz g]
    unfold g216_h0_4
    rw [p, m, qz g]
    simp only [cond_false]
    rcases hx with e | e <;> subst e
    · rw [push7 _ _ (by omega)]
      show (Sl.app x4 (Sl.lit [x9])).B = _
      rw [B_app, B_lit]
    · rw [push8 _ _ (by omega)]
      show (Sl.ins x4 0 x9).B = _
      rw [B_ins _ _ _ (Nat.zero_le _)]; rfl
  · rw [d5, c5, q, qz g]; exact z5
theorem ev9 (h : Good 4 x1 x2 x3 x4 x5) (hl : 1 ≤ x4.n) : Eqv x0 x1 x2 x3 x4 x5 9 x8 x9 x10 4 := by
  have n4 := h.n4
  have w : IntKind.i64.wrap (((x4.n : Nat) : Int) - 1) = ((x4.n - 1 : Nat) : Int) := by rw [wrap64 (by omega) (by omega)]; omega
  refine ⟨rfl, rfl, rfl, rfl, fun g => rfl, fun g => h.t (by decide), fun g => h.i (by decide), fun g => B_z (h.a3 (by decide)), fun g => ?_, fun g => B_z (h.a5 (by decide))⟩
  show (Sl.part x4 0 (IntKind.i64.wrap (((x4.n : Nat) : Int) - 1))).B = (g221_r7 x4 9).B
  rw [pop x4 9 (x4.n - 1) (by omega) (by omega) w, w, B_part _ _ _ (Int.le_refl _) (by omega) (by omega)]
  rw [show x4.B.drop (x4.n - 1 + 1) = [] from List.drop_eq_nil_of_le (by rw [B_len]; omega), List.append_nil]
  simp
theorem ev10 (h : Good 4 x1 x2 x3 x4 x5) (hl : 1 ≤ x4.n) : Eqv x0 x1 x2 x3 x4 x5 10 x8 x9 x10 4 := by
  have n4 := h.n4
  refine ⟨rfl, rfl, rfl, rfl, fun g => rfl, fun g => h.t (by decide), fun g => h.i (by decide), fun g => B_z (h.a3 (by decide)), fun g => ?_, fun g => B_z (h.a5 (by decide))⟩
  show (Sl.part x4 1 ((x4.n : Nat) : Int)).B = (g221_r7 x4 10).B
  rw [pop x4 10 0 (by omega) (by omega) rfl, B_part _ _ _ (by omega) (by omega) (by omega)]
  rw [List.take_of_length_le (by simp [B_len])]
  rfl
-- the set
theorem ev11 (_ : g190_m3 x0 x1 x2 x3 x4 x5 11 = 5) (h : Good 5 x1 x2 x3 x4 x5) : Eqv x0 x1 x2 x3 x4 x5 11 x8 x9 x10 5 := by
  obtain ⟨t, ht, h0, hf, hr, _, hm10⟩ := sets x4 11 x9 (by have := h.n4; omega) (h.r4 (by decide))
  have hm10 := hm10 rfl
  have n4 := h.n4
  have hn : (g222_m10 x4 11 x9).n = bif g233_1 x4 x9 then x4.n else x4.n + 1 := by
    rw [← B_len, hm10]
    cases hF : g233_1 x4 x9
    · simp [B_len]; omega
    · have := (hf hF).1; simp [B_len]; omega
  have q1 : decide ((((g222_m10 x4 11 x9).n : Nat) : Int) > 20) = (!(g233_1 x4 x9) && ((x4.n : Int) == 20)) := by
    rw [hn]
    cases g233_1 x4 x9
    · show decide (((x4.n + 1 : Nat) : Int) > 20) = (true && ((x4.n : Int) == 20))
      by_cases e : x4.n = 20
      · rw [e]; rfl
      · rw [decide_eq_false (by omega), show ((x4.n : Int) == 20) = false from beq_eq_false_iff_ne.2 (by omega)]; rfl
    · show decide (((x4.n : Nat) : Int) > 20) = false
      exact decide_eq_false (by omega)
  have qe : g190_m14 x2 x3 x4 x5 11 x8 x9 x10 = bif (!(g233_1 x4 x9) && ((x4.n : Int) == 20)) then 6 else 0 := by
    show (bif decide ((((g222_m10 x4 11 x9).n : Nat) : Int) > 20) then 6 else 0) = _
    rw [q1]
  have qz : g190_m14 x2 x3 x4 x5 11 x8 x9 x10 = 0 → (!(g233_1 x4 x9) && ((x4.n : Int) == 20)) = false := fun h => by
    rw [qe] at h
    cases e : (!(g233_1 x4 x9) && ((x4.n : Int) == 20)) with
    | false => rfl
    | true => rw [e] at h; cases h
  refine ⟨?_, ?_, ?_, ?_, fun g => ?_, fun g => ?_, fun g => ?_, fun g => ?_, fun g => ?_, fun g => ?_⟩
  · rw [qe]
    show g217_0 11 x9 x4 = _
    cases hF : g233_1 x4 x9 <;> cases hN : ((x4.n : Int) == 20) <;> simp [g217_0, g217_p5, g217_m1, g217_m2, hF, hN, g187_0, g213_0]
  · show g217_1 11 x9 x4 = ⟨#[]⟩
    cases hF : g233_1 x4 x9 <;> cases hN : ((x4.n : Int) == 20) <;> simp [g217_1, g217_p5, g217_m1, g217_m2, hF, hN, g187_1, g213_1]
  · show g217_2 11 x9 x4 = (bif decide ((((g222_m10 x4 11 x9).n : Nat) : Int) > 20) then 0 else (g238 (!(g222_r9 x4 11 x9).1)))
    rw [q1, hr]
    cases hF : g233_1 x4 x9 <;> cases hN : ((x4.n : Int) == 20) <;> simp [g217_2, g217_p5, g217_m1, g217_m2, hF, hN, g187_2, g213_2, g238]
  · show (g217_3 11 x9 x4).B = (nilSl : Sl ByteArray).B
    cases hF : g233_1 x4 x9 <;> cases hN : ((x4.n : Int) == 20) <;> simp [g217_3, g217_p5, g217_m1, g217_m2, hF, hN, g187_3, g213_3]
  · show (5 : Int) = (bif decide ((((g222_m10 x4 11 x9).n : Nat) : Int) > 20) then (g190_m3 x0 x1 x2 x3 x4 x5 11) else 5)
    rw [q1, qz g]; rfl
  · show x1 = (bif decide ((((g222_m10 x4 11 x9).n : Nat) : Int) > 20) then x1 else ⟨#[]⟩)
    rw [q1, qz g]; exact h.t (by decide)
  · show x2 = (bif decide ((((g222_m10 x4 11 x9).n : Nat) : Int) > 20) then x2 else 0)
    rw [q1, qz g]; exact h.i (by decide)
  · show x3.B = (bif decide ((((g222_m10 x4 11 x9).n : Nat) : Int) > 20) then x3 else (nilSl : Sl T160)).B
    rw [q1, qz g]; exact B_z (h.a3 (by decide))
  · show (g217_h0_4 11 x9 x4).B = (bif decide ((((g222_m10 x4 11 x9).n : Nat) : Int) > 20) then x4 else (g222_m10 x4 11 x9)).B
    have g := qz g
    rw [q1, g]
    show _ = (g222_m10 x4 11 x9).B
    rw [hm10]
    cases hF : g233_1 x4 x9 with
    | true =>
      obtain ⟨f1, f2⟩ := hf hF
      have : g217_h0_4 11 x9 x4 = x4 := by simp [g217_h0_4, g217_p5, g217_m1, g217_m2, hF]
      rw [this]
      simp only [cond_true]
      have := B_at x4 f1
      rw [f2] at this
      rw [← this, List.take_append_drop]
    | false =>
      rw [hF] at g
      have hN : ((x4.n : Int) == 20) = false := by simpa using g
      have : g217_h0_4 11 x9 x4 = Sl.ins x4 t x9 := by
        simp [g217_h0_4, g217_p5, g217_m1, g217_m2, hF, hN, h0]
      rw [this, B_ins _ _ _ ht]
      rfl
  · show x5.B = (bif decide ((((g222_m10 x4 11 x9).n : Nat) : Int) > 20) then x5 else (nilSl : Sl T164)).B
    rw [q1, qz g]; exact B_z (h.a5 (by decide))
theorem ev12 (h : Good 5 x1 x2 x3 x4 x5) : Eqv x0 x1 x2 x3 x4 x5 12 x8 x9 x10 5 := by
  obtain ⟨t, ht, h0, hf, hr, hd, _⟩ := sets x4 12 x9 (by have := h.n4; omega) (h.r4 (by decide))
  have n4 := h.n4
  refine ⟨rfl, rfl, ?_, rfl, fun g => rfl, fun g => h.t (by decide), fun g => h.i (by decide), fun g => B_z (h.a3 (by decide)), fun g => ?_, fun g => B_z (h.a5 (by decide))⟩
  · show g213_2 (g231 (g233_1 x4 x9)) = g238 (g222_r9 x4 12 x9).1
    rw [hr]; rfl
  · show (g217_m4 12 x9 x4).B = (g222_r9 x4 12 x9).2.2.B
    rw [hd (by decide)]
    have : g217_m3 12 x9 x4 = g233_1 x4 x9 := rfl
    unfold g217_m4
    rw [this]
    cases hF : g233_1 x4 x9 with
    | true =>
      have f1 := (hf hF).1
      simp only [cond_true]
      rw [h0, wrap64 (by omega) (by omega), Int.toNat_natCast, show Int.toNat ((t : Int) + 1) = t + 1 by omega, B_del _ _ f1]
    | false => rfl
theorem ev13 (hm : g190_m3 x0 x1 x2 x3 x4 x5 13 = 5) (h : Good 5 x1 x2 x3 x4 x5) : Eqv x0 x1 x2 x3 x4 x5 13 x8 x9 x10 5 := by
  obtain ⟨t, ht, h0, hf, hr, hd, _⟩ := sets x4 13 x9 (by have := h.n4; omega) (h.r4 (by decide))
  refine ⟨rfl, rfl, ?_, rfl, fun g => hm.symm, fun g => rfl, fun g => rfl, fun g => rfl, fun g => rfl, fun g => rfl⟩
  show g213_2 (g231 (g233_1 x4 x9)) = g238 (g222_r9 x4 13 x9).1
  rw [hr]; rfl
-- the rank
theorem ev14 (_ : g190_m3 x0 x1 x2 x3 x4 x5 14 = 6) (h : Good 6 x1 x2 x3 x4 x5) : Eqv x0 x1 x2 x3 x4 x5 14 x8 x9 x10 6 := by
  have n5 := h.n5
  have e44 := eq144 x5 x9 (by omega)
  obtain ⟨_, t, ht, h0, hB⟩ := rank x5 x9 x10 (by omega) h.u5 h.p5
  have hn : (g223_m8 x5 14 x9 x10).n = (bif decide (g147 x5 x9 < 0) then x5.n else x5.n - 1) + 1 := by
    rw [← B_len, hB]
    have : (g218_m3 x9 x5).B.length = bif decide (g147 x5 x9 < 0) then x5.n else x5.n - 1 := by
      rw [wo218 x5 x9 (by omega) h.u5]
      unfold without
      rcases at147 x5 x9 (by omega) h.u5 with ⟨e, _⟩ | ⟨j, e, hj, _⟩
      · rw [e]; exact B_len _
      · rw [e, show decide ((j : Int) ≥ 0) = true from decide_eq_true (by omega), show decide ((j : Int) < 0) = false from decide_eq_false (by omega)]
        simp [B_len]; omega
    rw [← B_len] at ht
    simp only [List.length_append, List.length_cons, List.length_take, List.length_drop]
    omega
  have q1 : decide ((((g223_m8 x5 14 x9 x10).n : Nat) : Int) > 20) = (decide (g147 x5 x9 < 0) && ((x5.n : Int) == 20)) := by
    rw [hn]
    cases decide (g147 x5 x9 < 0)
    · show decide (((x5.n - 1 + 1 : Nat) : Int) > 20) = false
      exact decide_eq_false (by omega)
    · show decide (((x5.n + 1 : Nat) : Int) > 20) = (true && ((x5.n : Int) == 20))
      by_cases e : x5.n = 20
      · rw [e]; rfl
      · rw [decide_eq_false (by omega), show ((x5.n : Int) == 20) = false from beq_eq_false_iff_ne.2 (by omega)]; rfl
  have qm : g218_m2 14 x9 x5 = (decide (g147 x5 x9 < 0) && ((x5.n : Int) == 20)) := by
    show (bif decide (g144 x5 x9 < 0) then ((x5.n : Int) == 20) else false) = _
    rw [e44]
    cases decide (g147 x5 x9 < 0) <;> rfl
  have qe : g190_m14 x2 x3 x4 x5 14 x8 x9 x10 = bif (decide (g147 x5 x9 < 0) && ((x5.n : Int) == 20)) then 6 else 0 := by
    show (bif decide ((((g223_m8 x5 14 x9 x10).n : Nat) : Int) > 20) then 6 else 0) = _
    rw [q1]
  have qz : g190_m14 x2 x3 x4 x5 14 x8 x9 x10 = 0 → (decide (g147 x5 x9 < 0) && ((x5.n : Int) == 20)) = false := fun h => by
    rw [qe] at h
    cases e : (decide (g147 x5 x9 < 0) && ((x5.n : Int) == 20)) with
    | false => rfl
    | true => rw [e] at h; cases h
  refine ⟨?_, ?_, ?_, ?_, fun g => ?_, fun g => ?_, fun g => ?_, fun g => ?_, fun g => ?_, fun g => ?_⟩
  · rw [qe]
    show (bif g218_m2 14 x9 x5 then (g187_0 6) else g213_0) = _
    rw [qm]; rfl
  · show (bif g218_m2 14 x9 x5 then g187_1 else g213_1) = ⟨#[]⟩
    cases g218_m2 14 x9 x5 <;> rfl
  · show (bif g218_m2 14 x9 x5 then g187_2 else (g213_2 (g231 (decide ((g144 x5 x9) < 0))))) = (bif decide ((((g223_m8 x5 14 x9 x10).n : Nat) : Int) > 20) then 0 else (g238 (decide ((g147 x5 x9) < 0))))
    rw [q1, qm, e44]; rfl
  · show (bif g218_m2 14 x9 x5 then g187_3 else g213_3).B = (nilSl : Sl ByteArray).B
    cases g218_m2 14 x9 x5 <;> rfl
  · show (6 : Int) = (bif decide ((((g223_m8 x5 14 x9 x10).n : Nat) : Int) > 20) then (g190_m3 x0 x1 x2 x3 x4 x5 14) else 6)
    rw [q1, qz g]; rfl
  · show x1 = (bif decide ((((g223_m8 x5 14 x9 x10).n : Nat) : Int) > 20) then x1 else ⟨#[]⟩)
    rw [q1, qz g]; exact h.t (by decide)
  · show x2 = (bif decide ((((g223_m8 x5 14 x9 x10).n : Nat) : Int) > 20) then x2 else 0)
    rw [q1, qz g]; exact h.i (by decide)
  · show x3.B = (bif decide ((((g223_m8 x5 14 x9 x10).n : Nat) : Int) > 20) then x3 else (nilSl : Sl T160)).B
    rw [q1, qz g]; exact B_z (h.a3 (by decide))
  · show x4.B = (bif decide ((((g223_m8 x5 14 x9 x10).n : Nat) : Int) > 20) then x4 else (nilSl : Sl ByteArray)).B
    rw [q1, qz g]; exact B_z (h.a4 (by decide) (by decide))
  · show (bif g218_m2 14 x9 x5 then x5 else (Sl.ins (g218_m3 x9 x5) (Int.toNat (g236_141_0 (g218_m3 x9 x5) x9 x10)) (⟨x9, x10⟩ : T164))).B = (bif decide ((((g223_m8 x5 14 x9 x10).n : Nat) : Int) > 20) then x5 else (g223_m8 x5 14 x9 x10)).B
    rw [q1, qm, qz g]
    simp only [cond_false]
    rw [hB, h0, Int.toNat_natCast, B_ins _ _ _ ht]
theorem ev15 (h : Good 6 x1 x2 x3 x4 x5) : Eqv x0 x1 x2 x3 x4 x5 15 x8 x9 x10 6 := by
  have n5 := h.n5
  have e44 := eq144 x5 x9 (by omega)
  obtain ⟨hB, _⟩ := rank x5 x9 x10 (by omega) h.u5 h.p5
  refine ⟨rfl, rfl, ?_, rfl, fun g => rfl, fun g => h.t (by decide), fun g => h.i (by decide), fun g => B_z (h.a3 (by decide)), fun g => B_z (h.a4 (by decide) (by decide)), fun g => ?_⟩
  · show g213_2 (g231 (decide (g144 x5 x9 ≥ 0))) = g238 (decide (g147 x5 x9 ≥ 0))
    rw [e44]; rfl
  · show (g218_m3 x9 x5).B = (g223_r7 x5 15 x9 x10).2.B
    exact hB.symm
theorem ev16 (hm : g190_m3 x0 x1 x2 x3 x4 x5 16 = 6) (h : Good 6 x1 x2 x3 x4 x5) : Eqv x0 x1 x2 x3 x4 x5 16 x8 x9 x10 6 := by
  have n5 := h.n5
  have e44 := eq144 x5 x9 (by omega)
  have m : g218_m1 16 x9 x5 = decide (g147 x5 x9 < 0) := by
    show decide (g144 x5 x9 < 0) = _
    rw [e44]
  refine ⟨?_, ?_, ?_, ?_, fun g => hm.symm, fun g => rfl, fun g => rfl, fun g => rfl, fun g => rfl, fun g => ?_⟩
  · show (bif g218_m1 16 x9 x5 then (g187_0 5) else g213_0) = (bif (decide ((g147 x5 x9) < 0)) then 5 else 0)
    rw [m]; rfl
  · show (bif g218_m1 16 x9 x5 then g187_1 else g213_1) = ⟨#[]⟩
    cases g218_m1 16 x9 x5 <;> rfl
  · show (bif g218_m1 16 x9 x5 then g187_2 else (g213_2 (g144 x5 x9))) = (bif (decide ((g147 x5 x9) < 0)) then 0 else (g147 x5 x9))
    rw [m, e44]; rfl
  · show (bif g218_m1 16 x9 x5 then g187_3 else g213_3).B = (nilSl : Sl ByteArray).B
    cases g218_m1 16 x9 x5 <;> rfl
  · show (bif g218_m1 16 x9 x5 then x5 else x5).B = x5.B
    cases g218_m1 16 x9 x5 <;> rfl
end
end Go.Proofs.Ytchhfojblmceiaa
