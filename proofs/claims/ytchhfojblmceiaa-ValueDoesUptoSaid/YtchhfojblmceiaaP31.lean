/-
  Law 31: what a value answers to a command is what the reference says.
-/
import Derived.Test.YtchhfojblmceiaaPB
import Derived.Test.YtchhfojblmceiaaPA
namespace Go.Proofs.Ytchhfojblmceiaa
open Go Go.Vc Go.RowKit
set_option maxRecDepth 100000
set_option maxHeartbeats 4000000
theorem B73_3 (s : Sl T160) (hn : s.n ≤ 549755813888) : (g73_3 s).B = s.B := by
  have := mapB (g73_l1 s) s (fun x => x) hn (fun _ _ _ => rfl) nilSl
  rw [List.map_id', B_nil, List.nil_append] at this; exact this
theorem B73_4 (s : Sl ByteArray) (hn : s.n ≤ 549755813888) : (g73_4 s).B = s.B := by
  have := mapB (g73_l7 s) s (fun x => x) hn (fun _ _ _ => rfl) nilSl
  rw [List.map_id', B_nil, List.nil_append] at this; exact this
theorem B73_5 (s : Sl T164) (hn : s.n ≤ 549755813888) : (g73_5 s).B = s.B := by
  have := mapB (g73_l13 s) s (fun x => x) hn (fun _ _ _ => rfl) nilSl
  rw [List.map_id', B_nil, List.nil_append] at this; exact this
theorem nB {α : Type} {s t : Sl α} (h : s.B = t.B) : s.n = t.n := by rw [← B_len s, ← B_len t, h]
theorem srt72 (x0 : Int) (x1 : ByteArray) (x2 : Int) (s3 : Sl T160) (s4 : Sl ByteArray) (s5 : Sl T164) (h3 : s3.n ≤ 1048576) (h4 : s4.n ≤ 1048576) (h5 : s5.n ≤ 1048576) (h : g72 x0 x1 x2 s3 s4 s5 = 0) :
    Rise s3.n (fun i => (s3.at' i).c0) ∧ (x0 = 5 → Rise s4.n s4.at') ∧ Uniq s5 ∧ s5.B.Pairwise fun a b => g146 a.c0 a.c1 b.c0 b.c1 = true := by
  unfold g72 at h
  obtain ⟨_, h⟩ := bz h (by decide)
  obtain ⟨_, h⟩ := bz h (by decide)
  obtain ⟨_, h⟩ := bz h (by decide)
  obtain ⟨_, h⟩ := bz h (by decide)
  obtain ⟨_, h⟩ := bz h (by decide)
  obtain ⟨_, h⟩ := bz h (by decide)
  obtain ⟨_, h⟩ := bz h (by decide)
  obtain ⟨a, _⟩ := bz h (by decide)
  have a : g72_r15 x0 s3 s4 s5 = true := by
    cases e : g72_r15 x0 s3 s4 s5 with
    | true => rfl
    | false => rw [e] at a; cases a
  have e : g72_r15 x0 s3 s4 s5 = (g72_m11 x0 s3 s4 s5 && !(hit (same s5) s5.n 0)) := l23 s5 h5 s5.n (Int.toNat ((s5.n : Int) - 0)) _ 0 (Int.le_refl _) (by omega) (by omega)
  rw [e, Bool.and_eq_true] at a
  obtain ⟨a, au⟩ := a
  unfold g72_m11 at a
  rw [a138 _ (by omega), a140 _ (by omega), a142 _ (by omega)] at a
  have r3 : o3 s3 = false := by
    cases e : o3 s3 with
    | false => rfl
    | true => rw [e] at a; cases a
  have r5 : o5 s5 = false := by
    cases e : o5 s5 with
    | false => rfl
    | true => rw [r3, e] at a; cases a
  refine ⟨rise_of h3 r3, fun hx => rise_of h4 ?_, ?_, ?_⟩
  · cases e : o4 s4 with
    | false => exact e
    | true =>
      rw [r3, r5, e, hx] at a
      cases a
  · intro i j hij hj
    have au : hit (same s5) s5.n 0 = false := by
      cases e : hit (same s5) s5.n 0 with
      | false => rfl
      | true => rw [e] at au; cases au
    have := hit_nat au j hj
    unfold same at this
    have hp := part_n s5 (j : Int) (by omega) (by omega)
    have := hit_nat this i (by omega)
    rw [Int.toNat_natCast, Int.toNat_natCast] at this
    have e2 : (Sl.part s5 0 (j : Int)).at' i = s5.at' i := by simp [Sl.part]
    rw [e2] at this
    exact this
  · rw [List.pairwise_iff_getElem]
    intro i j hi hj hij
    rw [B_len] at hi hj
    simp only [Sl.B, List.getElem_map, List.getElem_range]
    refine chain' (R := fun i j => g146 (s5.at' i).c0 (s5.at' i).c1 (s5.at' j).c0 (s5.at' j).c1 = true) s5.n (fun i hi => ?_) (fun _ _ _ _ _ _ => above_trans) i j hij hj
    have := hit_no (s5.n - 1) 1 r5 ((i + 1 : Nat) : Int) (by omega) (by omega)
    rw [show IntKind.i64.wrap (((i + 1 : Nat) : Int) - 1) = (i : Int) by rw [wrap64 (by omega) (by omega)]; omega] at this
    simpa using this
theorem good_none {x0 : Int} {x1 : ByteArray} {x2 : Int} {x3 : Sl T160} {x4 : Sl ByteArray} {x5 : Sl T164} (h : x0 = 0 ∧ x1 = ⟨#[]⟩ ∧ x2 = 0 ∧ x3.n = 0 ∧ x4.n = 0 ∧ x5.n = 0) (K : Int) : Good K x1 x2 x3 x4 x5 := by
  obtain ⟨_, h1, h2, h3, h4, h5⟩ := h
  refine ⟨fun _ => h1, fun _ => h2, fun _ => h3, fun _ _ => h4, fun _ => h5, by omega, by omega, by omega, fun i j _ hj => by omega, fun _ i j _ hj => by omega, fun i j _ hj => by omega, ?_⟩
  rw [B_z h5]; exact List.Pairwise.nil
theorem good_chk {x0 : Int} {x1 : ByteArray} {x2 : Int} {x3 : Sl T160} {x4 : Sl ByteArray} {x5 : Sl T164} (h3 : x3.n ≤ 1048576) (h4 : x4.n ≤ 1048576) (h5 : x5.n ≤ 1048576) (h : g72 x0 x1 x2 x3 x4 x5 = 0) : Good x0 x1 x2 x3 x4 x5 := by
  have v := (chk72 _ _ _ _ _ _ h3 h4 h5 h).2.1
  have s := sep72 _ _ _ _ _ _ h3 h4 h5 h
  obtain ⟨r3, r4, u5, p5⟩ := srt72 _ _ _ _ _ _ h3 h4 h5 h
  refine ⟨s.t, s.i, s.a3, s.a4, s.a5, v.1, v.2.1, v.2.2, r3, fun hx => ?_, u5, p5⟩
  by_cases e : x0 = 5
  · exact r4 e
  · have := s.a4 hx e
    exact fun i j _ hj => by omega
theorem eqv {x0 : Int} {x1 : ByteArray} {x2 : Int} {x3 : Sl T160} {x4 : Sl ByteArray} {x5 : Sl T164} {x6 : Int} {x8 x9 : ByteArray} {x10 : Int} {K : Int} (hx : 1 ≤ x6 ∧ x6 ≤ 18) (hm : g190_m3 x0 x1 x2 x3 x4 x5 x6 = K) (hk : g219 x6 ≠ 0 → K = g219 x6) (hl : K ≠ 4 ∨ (7 ≤ x6 ∧ x6 ≤ 8) ∨ 1 ≤ x4.n) (h : Good K x1 x2 x3 x4 x5) : Eqv x0 x1 x2 x3 x4 x5 x6 x8 x9 x10 K := by
  have c : x6 = 1 ∨ x6 = 2 ∨ x6 = 3 ∨ x6 = 4 ∨ x6 = 5 ∨ x6 = 6 ∨ x6 = 7 ∨ x6 = 8 ∨ x6 = 9 ∨ x6 = 10 ∨ x6 = 11 ∨ x6 = 12 ∨ x6 = 13 ∨ x6 = 14 ∨ x6 = 15 ∨ x6 = 16 ∨ x6 = 17 ∨ x6 = 18 := by omega
  rcases c with e | e | e | e | e | e | e | e | e | e | e | e | e | e | e | e | e | e <;> subst e
  · exact ev1 hm
  · exact ev2 hm
  · exact ev3 hm
  · have k : K = 3 := hk (by decide +kernel)
    subst k; exact ev4 hm h
  · have k : K = 3 := hk (by decide +kernel)
    subst k; exact ev5 hm h
  · have k : K = 3 := hk (by decide +kernel)
    subst k; exact ev6 hm h
  · have k : K = 4 := hk (by decide +kernel)
    subst k; exact ev78 7 (.inl rfl) hm h
  · have k : K = 4 := hk (by decide +kernel)
    subst k; exact ev78 8 (.inr rfl) hm h
  · have k : K = 4 := hk (by decide +kernel)
    subst k; exact ev9 h (by omega)
  · have k : K = 4 := hk (by decide +kernel)
    subst k; exact ev10 h (by omega)
  · have k : K = 5 := hk (by decide +kernel)
    subst k; exact ev11 hm h
  · have k : K = 5 := hk (by decide +kernel)
    subst k; exact ev12 h
  · have k : K = 5 := hk (by decide +kernel)
    subst k; exact ev13 hm h
  · have k : K = 6 := hk (by decide +kernel)
    subst k; exact ev14 hm h
  · have k : K = 6 := hk (by decide +kernel)
    subst k; exact ev15 h
  · have k : K = 6 := hk (by decide +kernel)
    subst k; exact ev16 hm h
  · exact ev17 hm
  · exact ev18 hm h
theorem bif_le {α : Type} {b : Bool} {s t : Sl α} {N : Nat} (h1 : s.n ≤ N) (h2 : t.n ≤ N) : (bif b then s else t).n ≤ N := by cases b <;> assumption
theorem len3 (x6 : Int) (x8 x9 : ByteArray) (K : Int) (s : Sl T160) (N : Nat) (h : s.n + 1 ≤ N) : (g188_h0_3 x6 x8 x9 K s).n ≤ N := by
  have z : (nilSl : Sl T160).n ≤ N := Nat.zero_le _
  have a : s.n ≤ N := by omega
  have q : (g215_h0_3 x6 x8 x9 s).n ≤ N := by
    refine bif_le (bif_le ?_ a) (bif_le a (bif_le a (bif_le h a)))
    show s.n - _ ≤ N
    omega
  exact bif_le z (bif_le a (bif_le a (bif_le a (bif_le a (bif_le q a)))))
theorem len4 (x6 : Int) (x9 : ByteArray) (K : Int) (s : Sl ByteArray) (N : Nat) (hs : s.n ≤ 1000000) (h : s.n + 1 ≤ N) : (g188_h0_4 x6 x9 K s).n ≤ N := by
  have z : (nilSl : Sl ByteArray).n ≤ N := Nat.zero_le _
  have a : s.n ≤ N := by omega
  have q : (g216_h0_4 x6 x9 s).n ≤ N := by
    refine bif_le (bif_le ?_ ?_) (bif_le a (bif_le h h))
    · show Int.toNat (_ - 0) ≤ N
      rw [wrap64 (by omega) (by omega)]; omega
    · show Int.toNat (_ - 1) ≤ N
      omega
  have r : (g217_h0_4 x6 x9 s).n ≤ N := by
    refine bif_le (bif_le ?_ a) (bif_le a (bif_le h a))
    show s.n - _ ≤ N
    omega
  exact bif_le z (bif_le a (bif_le a (bif_le a (bif_le a (bif_le a (bif_le q (bif_le r a)))))))
theorem len5 (x6 : Int) (x9 : ByteArray) (x10 : Int) (K : Int) (s : Sl T164) (N : Nat) (hs : s.n ≤ 1000000) (h : s.n + 1 ≤ N) : (g188_h0_5 x6 x9 x10 K s).n ≤ N := by
  have z : (nilSl : Sl T164).n ≤ N := Nat.zero_le _
  have a : s.n ≤ N := by omega
  have m : (g218_m3 x9 s).n ≤ s.n := by
    have := f218m x9 s (by omega); omega
  have q : (g218_h0_5 x6 x9 x10 s).n ≤ N := by
    refine bif_le a (bif_le a (bif_le a (bif_le (by omega) ?_)))
    show (g218_m3 x9 s).n + 1 ≤ N
    omega
  exact bif_le z (bif_le a (bif_le a (bif_le a (bif_le a (bif_le a (bif_le a (bif_le a q)))))))
theorem n214 (x3 : Sl T160) (x4 : Sl ByteArray) (x5 : Sl T164) (h3 : x3.n ≤ 20) (h4 : x4.n ≤ 20) (h5 : x5.n ≤ 20) : (g214 x3 x4 x5).n ≤ 60 := by
  have a1 := mapB (g214_l1 x3) x3 (fun x => x.c0) (by omega) (fun _ _ _ => rfl) x4
  have a2 := mapB (g214_l6 x5) x5 (fun x => x.c0) (by omega) (fun _ _ _ => rfl) (g214_r1 x3 x4)
  have e : (g214 x3 x4 x5).B.length = _ := congrArg List.length a2
  rw [List.length_append, show (g214_r1 x3 x4).B = _ from a1] at e
  simp only [B_len, List.length_append, List.length_map] at e
  omega
theorem lenR (x6 : Int) (x8 x9 : ByteArray) (x10 K x2 : Int) (x3 : Sl T160) (x4 : Sl ByteArray) (x5 : Sl T164) (h3 : x3.n ≤ 20) (h4 : x4.n ≤ 20) (h5 : x5.n ≤ 20) : (g188_3 x6 x8 x9 x10 K x2 x3 x4 x5).n ≤ 60 := by
  have z : (nilSl : Sl ByteArray).n ≤ 60 := Nat.zero_le _
  exact bif_le z (bif_le z (bif_le (bif_le z z) (bif_le z (bif_le (n214 x3 x4 x5 h3 h4 h5) (bif_le (bif_le z (bif_le z (bif_le z (bif_le z (bif_le z z))))) (bif_le (bif_le z (bif_le z z)) (bif_le (bif_le z (bif_le z z)) (bif_le z (bif_le z (bif_le z z)))))))))) 
theorem creators {x6 : Int} : g186 x6 = g190_m1 x6 := by
  unfold g186 g186_m1 g190_m1
  cases (x6 == 1) <;> cases (x6 == 3) <;> cases (x6 == 4) <;> cases (x6 == 7) <;> cases (x6 == 8) <;> cases (x6 == 11) <;> cases (x6 == 14) <;> rfl
theorem kinds {x6 : Int} (h : 1 ≤ x6 ∧ x6 ≤ 18) : g185 x6 = g219 x6 := by
  have c : x6 = 1 ∨ x6 = 2 ∨ x6 = 3 ∨ x6 = 4 ∨ x6 = 5 ∨ x6 = 6 ∨ x6 = 7 ∨ x6 = 8 ∨ x6 = 9 ∨ x6 = 10 ∨ x6 = 11 ∨ x6 = 12 ∨ x6 = 13 ∨ x6 = 14 ∨ x6 = 15 ∨ x6 = 16 ∨ x6 = 17 ∨ x6 = 18 := by omega
  rcases c with e | e | e | e | e | e | e | e | e | e | e | e | e | e | e | e | e | e <;> subst e <;> decide +kernel
theorem nneg {x6 : Int} (h : 1 ≤ x6 ∧ x6 ≤ 18) : decide (g219 x6 > 0) = (g219 x6 != 0) := by
  have c : x6 = 1 ∨ x6 = 2 ∨ x6 = 3 ∨ x6 = 4 ∨ x6 = 5 ∨ x6 = 6 ∨ x6 = 7 ∨ x6 = 8 ∨ x6 = 9 ∨ x6 = 10 ∨ x6 = 11 ∨ x6 = 12 ∨ x6 = 13 ∨ x6 = 14 ∨ x6 = 15 ∨ x6 = 16 ∨ x6 = 17 ∨ x6 = 18 := by omega
  rcases c with e | e | e | e | e | e | e | e | e | e | e | e | e | e | e | e | e | e <;> subst e <;> decide +kernel
theorem wrongs {x0 x6 : Int} (h : 1 ≤ x6 ∧ x6 ≤ 18) : g101_m6 x0 x6 = g190_m2 x0 x6 := by
  unfold g101_m6 g101_m4 g101_m5 g190_m2
  rw [kinds h, nneg h, show decide (x6 ≥ 17) = ((x6 == 17) || (x6 == 18)) by
    by_cases a : x6 = 17
    · subst a; rfl
    · by_cases b : x6 = 18
      · subst b; rfl
      · rw [decide_eq_false (by omega), beq_eq_false_iff_ne.2 a, beq_eq_false_iff_ne.2 b]; rfl]
  cases (g219 x6 != 0) <;> cases (g219 x6 != x0) <;> cases (x6 == 17) <;> cases (x6 == 18) <;> cases decide (x0 < 3) <;> rfl
theorem sumB {a a' : Sl T160} {b b' : Sl ByteArray} {c c' : Sl T164} (h1 : a.B = a'.B) (h2 : b.B = b'.B) (h3 : c.B = c'.B) : g131 a b c = g145 a' b' c' := by
  unfold g131 g145
  rw [nB h1, nB h2, nB h3]
structure Same (x0 : Int) (x1 : ByteArray) (x2 : Int) (x3 : Sl T160) (x4 : Sl ByteArray) (x5 : Sl T164) (x6 : Int) (x7 x8 x9 : ByteArray) (x10 : Int) : Prop where
  a2 : g101_2 x0 x1 x2 x3 x4 x5 x6 x7 x8 x9 x10 = g102_2 x0 x1 x2 x3 x4 x5 x6 x7 x8 x9 x10
  b0 : g101_0_0 x0 x1 x2 x3 x4 x5 x6 x7 x8 x9 x10 = g102_0_0 x0 x1 x2 x3 x4 x5 x6 x7 x8 x9 x10
  b1 : g101_0_1 x0 x1 x2 x3 x4 x5 x6 x7 x8 x9 x10 = g102_0_1 x0 x1 x2 x3 x4 x5 x6 x7 x8 x9 x10
  b2 : g101_0_2 x0 x1 x2 x3 x4 x5 x6 x7 x8 x9 x10 = g102_0_2 x0 x1 x2 x3 x4 x5 x6 x7 x8 x9 x10
  b3 : (g101_0_3 x0 x1 x2 x3 x4 x5 x6 x7 x8 x9 x10).B = (g102_0_3 x0 x1 x2 x3 x4 x5 x6 x7 x8 x9 x10).B
  b4 : (g101_0_4 x0 x1 x2 x3 x4 x5 x6 x7 x8 x9 x10).B = (g102_0_4 x0 x1 x2 x3 x4 x5 x6 x7 x8 x9 x10).B
  b5 : (g101_0_5 x0 x1 x2 x3 x4 x5 x6 x7 x8 x9 x10).B = (g102_0_5 x0 x1 x2 x3 x4 x5 x6 x7 x8 x9 x10).B
  c0 : g101_1_0 x0 x1 x2 x3 x4 x5 x6 x7 x8 x9 x10 = g102_1_0 x0 x1 x2 x3 x4 x5 x6 x7 x8 x9 x10
  c1 : g101_1_1 x0 x1 x2 x3 x4 x5 x6 x7 x8 x9 x10 = g102_1_1 x0 x1 x2 x3 x4 x5 x6 x7 x8 x9 x10
  c2 : g101_1_2 x0 x1 x2 x3 x4 x5 x6 x7 x8 x9 x10 = g102_1_2 x0 x1 x2 x3 x4 x5 x6 x7 x8 x9 x10
  c3 : (g101_1_3 x0 x1 x2 x3 x4 x5 x6 x7 x8 x9 x10).B = (g102_1_3 x0 x1 x2 x3 x4 x5 x6 x7 x8 x9 x10).B
  l3 : (g101_0_3 x0 x1 x2 x3 x4 x5 x6 x7 x8 x9 x10).n ≤ 1048577
  l4 : (g101_0_4 x0 x1 x2 x3 x4 x5 x6 x7 x8 x9 x10).n ≤ 1048577
  l5 : (g101_0_5 x0 x1 x2 x3 x4 x5 x6 x7 x8 x9 x10).n ≤ 1048577
  lr : (g101_1_3 x0 x1 x2 x3 x4 x5 x6 x7 x8 x9 x10).n ≤ 60
section
variable {x0 : Int} {x1 : ByteArray} {x2 : Int} {x3 : Sl T160} {x4 : Sl ByteArray} {x5 : Sl T164} {x6 : Int} {x7 x8 x9 : ByteArray} {x10 : Int}
theorem sameDo (h3 : x3.n ≤ 20) (h4 : x4.n ≤ 20) (h5 : x5.n ≤ 20) (m2 : g101_m2 x0 x1 x2 x3 x4 x5 = false) (p1 : g102_p1 x0 x1 x2 x3 x4 x5 = true) (e47 : (g47 x6 x7 x8 x9 x10 != 0) = false) (e3 : (g102_m3 x6 x7 x8 x9 x10 != 0) = false) (hx : decide (x6 > 18) = false)
    (hp : g101_p8 x0 x1 x2 x3 x4 x5 x6 = g190_p4 x0 x1 x2 x3 x4 x5 x6) (hn : g101_p8 x0 x1 x2 x3 x4 x5 x6 = false → g101_m3 x0 x1 x2 x3 x4 x5 x6 = g189 x0 x1 x2 x3 x4 x5)
    (hv : g101_p8 x0 x1 x2 x3 x4 x5 x6 = true → Eqv x0 x1 x2 x3 x4 x5 x6 x8 x9 x10 (g101_m7 x0 x1 x2 x3 x4 x5 x6)) : Same x0 x1 x2 x3 x4 x5 x6 x7 x8 x9 x10 := by
  cases p : g101_p8 x0 x1 x2 x3 x4 x5 x6 with
  | false =>
    have q := hn p
    have p' := p
    rw [hp] at p'
    refine ⟨?_, ?_, ?_, ?_, ?_, ?_, ?_, ?_, ?_, ?_, ?_, ?_, ?_, ?_, ?_⟩
    · unfold g101_2 g102_2; rw [m2, p1, e47, e3, hx]; rfl
    · unfold g101_0_0 g102_0_0 g102_m4 g190_0_0; rw [m2, p1, e47, e3, hx, p, p']; simp only [cond_true, cond_false, Bool.cond_self]; rfl
    · unfold g101_0_1 g102_0_1 g102_m5 g190_0_1; rw [m2, p1, e47, e3, hx, p, p']; simp only [cond_true, cond_false, Bool.cond_self]; rfl
    · unfold g101_0_2 g102_0_2 g102_m6 g190_0_2; rw [m2, p1, e47, e3, hx, p, p']; simp only [cond_true, cond_false, Bool.cond_self]; rfl
    · unfold g101_0_3 g102_0_3 g102_m7 g190_0_3; rw [m2, p1, e47, e3, hx, p, p']; simp only [cond_true, cond_false, Bool.cond_self]; rw [B73_3 _ (by omega)]
    · unfold g101_0_4 g102_0_4 g102_m8 g190_0_4; rw [m2, p1, e47, e3, hx, p, p']; simp only [cond_true, cond_false, Bool.cond_self]; rw [B73_4 _ (by omega)]
    · unfold g101_0_5 g102_0_5 g102_m9 g190_0_5; rw [m2, p1, e47, e3, hx, p, p']; simp only [cond_true, cond_false, Bool.cond_self]; rw [B73_5 _ (by omega)]
    · unfold g101_1_0 g102_1_0 g190_1_0; rw [m2, p1, e47, e3, hx, p, p', q]; rfl
    · unfold g101_1_1 g102_1_1 g190_1_1; rw [m2, p1, e47, e3, hx, p, p']; rfl
    · unfold g101_1_2 g102_1_2 g190_1_2; rw [m2, p1, e47, e3, hx, p, p']; rfl
    · unfold g101_1_3 g102_1_3 g190_1_3; rw [m2, p1, e47, e3, hx, p, p']; rfl
    · unfold g101_0_3; rw [m2, e47, hx, p]; simp only [cond_false]; omega
    · unfold g101_0_4; rw [m2, e47, hx, p]; simp only [cond_false]; omega
    · unfold g101_0_5; rw [m2, e47, hx, p]; simp only [cond_false]; omega
    · unfold g101_1_3; rw [m2, e47, hx, p]; exact Nat.zero_le _
  | true =>
    have v := hv p
    have p' := p
    rw [hp] at p'
    have e0 : g188_0 x6 x8 x9 x10 (g101_m7 x0 x1 x2 x3 x4 x5 x6) (g184_2 x2) x3 x4 x5 = g190_m14 x2 x3 x4 x5 x6 x8 x9 x10 := v.e0
    have t0 : g190_1_0 x0 x1 x2 x3 x4 x5 x6 x8 x9 x10 = g190_m14 x2 x3 x4 x5 x6 x8 x9 x10 := by unfold g190_1_0; rw [p']; rfl
    cases z : (g190_m14 x2 x3 x4 x5 x6 x8 x9 x10 != 0) with
    | true =>
      refine ⟨?_, ?_, ?_, ?_, ?_, ?_, ?_, ?_, ?_, ?_, ?_, ?_, ?_, ?_, ?_⟩
      · unfold g101_2 g102_2; rw [m2, p1, e47, e3, hx]; rfl
      · unfold g101_0_0 g102_0_0 g102_m4; rw [m2, p1, e47, e3, hx, p, t0, e0, z]; rfl
      · unfold g101_0_1 g102_0_1 g102_m5; rw [m2, p1, e47, e3, hx, p, t0, e0, z]; rfl
      · unfold g101_0_2 g102_0_2 g102_m6; rw [m2, p1, e47, e3, hx, p, t0, e0, z]; rfl
      · unfold g101_0_3 g102_0_3 g102_m7; rw [m2, p1, e47, e3, hx, p, t0, e0, z]; simp only [cond_true, cond_false]; rw [B73_3 _ (by omega)]
      · unfold g101_0_4 g102_0_4 g102_m8; rw [m2, p1, e47, e3, hx, p, t0, e0, z]; simp only [cond_true, cond_false]; rw [B73_4 _ (by omega)]
      · unfold g101_0_5 g102_0_5 g102_m9; rw [m2, p1, e47, e3, hx, p, t0, e0, z]; simp only [cond_true, cond_false]; rw [B73_5 _ (by omega)]
      · unfold g101_1_0 g102_1_0; rw [m2, p1, e47, e3, hx, p, t0, e0]; rfl
      · unfold g101_1_1 g102_1_1 g190_1_1; rw [m2, p1, e47, e3, hx, p, p']; exact v.e1
      · unfold g101_1_2 g102_1_2 g190_1_2; rw [m2, p1, e47, e3, hx, p, p']; exact v.e2
      · unfold g101_1_3 g102_1_3 g190_1_3; rw [m2, p1, e47, e3, hx, p, p']; exact v.e3
      · unfold g101_0_3; rw [m2, e47, hx, p, e0, z]; simp only [cond_false, cond_true]; omega
      · unfold g101_0_4; rw [m2, e47, hx, p, e0, z]; simp only [cond_false, cond_true]; omega
      · unfold g101_0_5; rw [m2, e47, hx, p, e0, z]; simp only [cond_false, cond_true]; omega
      · unfold g101_1_3; rw [m2, e47, hx, p]; exact lenR _ _ _ _ _ _ _ _ _ h3 h4 h5
    | false =>
      have z0 := bne_eq_false_iff_eq.1 z
      have k0 := v.k0 z0
      have k1 := v.k1 z0
      have k2 := v.k2 z0
      have k3 := v.k3 z0
      have k4 := v.k4 z0
      have k5 := v.k5 z0
      have n3 := len3 x6 x8 x9 (g101_m7 x0 x1 x2 x3 x4 x5 x6) x3 1048577 (by omega)
      have n4 := len4 x6 x9 (g101_m7 x0 x1 x2 x3 x4 x5 x6) x4 1048577 (by omega) (by omega)
      have n5 := len5 x6 x9 x10 (g101_m7 x0 x1 x2 x3 x4 x5 x6) x5 1048577 (by omega) (by omega)
      have n3' := nB k3
      have n4' := nB k4
      have n5' := nB k5
      have em : g101_m9 x0 x1 x2 x3 x4 x5 x6 x8 x9 x10 = g190_m18 x0 x1 x2 x3 x4 x5 x6 x8 x9 x10 := by
        unfold g101_m9 g190_m18
        rw [k0, sumB k3 k4 k5]
      refine ⟨?_, ?_, ?_, ?_, ?_, ?_, ?_, ?_, ?_, ?_, ?_, ?_, ?_, ?_, ?_⟩
      · unfold g101_2 g102_2; rw [m2, p1, e47, e3, hx]; rfl
      · unfold g101_0_0 g102_0_0 g102_m4 g190_0_0 g101_m10 g190_m19; rw [m2, p1, e47, e3, hx, p, t0, e0, z, p', em, k0]; rfl
      · unfold g101_0_1 g102_0_1 g102_m5 g190_0_1 g101_m11 g190_m20; rw [m2, p1, e47, e3, hx, p, t0, e0, z, p', em, show g188_h0_1 x6 x9 (g184_1 x1) = _ from k1]; rfl
      · unfold g101_0_2 g102_0_2 g102_m6 g190_0_2 g101_m12 g190_m21; rw [m2, p1, e47, e3, hx, p, t0, e0, z, p', em, show g188_h0_2 x6 x10 (g184_2 x2) = _ from k2]; rfl
      · unfold g101_0_3 g102_0_3 g102_m7 g190_0_3 g101_m13 g190_m22; rw [m2, p1, e47, e3, hx, p, t0, e0, z, p', em]; simp only [cond_true, cond_false]
        rw [B73_3 _ (bif_le (Nat.zero_le _) (by omega))]
        cases g190_m18 x0 x1 x2 x3 x4 x5 x6 x8 x9 x10
        · exact k3
        · rfl
      · unfold g101_0_4 g102_0_4 g102_m8 g190_0_4 g101_m14 g190_m23; rw [m2, p1, e47, e3, hx, p, t0, e0, z, p', em]; simp only [cond_true, cond_false]
        rw [B73_4 _ (bif_le (Nat.zero_le _) (by omega))]
        cases g190_m18 x0 x1 x2 x3 x4 x5 x6 x8 x9 x10
        · exact k4
        · rfl
      · unfold g101_0_5 g102_0_5 g102_m9 g190_0_5 g101_m15 g190_m24; rw [m2, p1, e47, e3, hx, p, t0, e0, z, p', em]; simp only [cond_true, cond_false]
        rw [B73_5 _ (bif_le (Nat.zero_le _) (by omega))]
        cases g190_m18 x0 x1 x2 x3 x4 x5 x6 x8 x9 x10
        · exact k5
        · rfl
      · unfold g101_1_0 g102_1_0; rw [m2, p1, e47, e3, hx, p, t0, e0]; rfl
      · unfold g101_1_1 g102_1_1 g190_1_1; rw [m2, p1, e47, e3, hx, p, p']; exact v.e1
      · unfold g101_1_2 g102_1_2 g190_1_2; rw [m2, p1, e47, e3, hx, p, p']; exact v.e2
      · unfold g101_1_3 g102_1_3 g190_1_3; rw [m2, p1, e47, e3, hx, p, p']; exact v.e3
      · unfold g101_0_3 g101_m13; rw [m2, e47, hx, p, e0, z]; simp only [cond_false, cond_true]; exact bif_le (Nat.zero_le _) n3
      · unfold g101_0_4 g101_m14; rw [m2, e47, hx, p, e0, z]; simp only [cond_false, cond_true]; exact bif_le (Nat.zero_le _) n4
      · unfold g101_0_5 g101_m15; rw [m2, e47, hx, p, e0, z]; simp only [cond_false, cond_true]; exact bif_le (Nat.zero_le _) n5
      · unfold g101_1_3; rw [m2, e47, hx, p]; exact lenR _ _ _ _ _ _ _ _ _ h3 h4 h5
theorem sameAll (h3 : x3.n ≤ 1048576) (h4 : x4.n ≤ 1048576) (h5 : x5.n ≤ 1048576) : Same x0 x1 x2 x3 x4 x5 x6 x7 x8 x9 x10 := by
  have e72 := g72_eq x0 x1 x2 x3 x4 x5 h3 h4 h5
  have e1 : g101_m1 x0 x1 x2 x3 x4 x5 = g189 x0 x1 x2 x3 x4 x5 := rfl
  have ep : g102_p1 x0 x1 x2 x3 x4 x5 = !(g101_m2 x0 x1 x2 x3 x4 x5) := by
    unfold g102_p1 g101_m2
    rw [e72, e1]
    cases g189 x0 x1 x2 x3 x4 x5 <;> cases (g74 x0 x1 x2 x3 x4 x5 != 0) <;> rfl
  have e47 := g47_eq x6 x7 x8 x9 x10
  cases m2 : g101_m2 x0 x1 x2 x3 x4 x5 with
  | true =>
    rw [m2] at ep
    refine ⟨?_, ?_, ?_, ?_, ?_, ?_, ?_, ?_, ?_, ?_, ?_, ?_, ?_, ?_, ?_⟩
    · unfold g101_2 g102_2; rw [m2, ep, e72]; rfl
    · unfold g101_0_0 g102_0_0; rw [m2, ep]; rfl
    · unfold g101_0_1 g102_0_1; rw [m2, ep]; rfl
    · unfold g101_0_2 g102_0_2; rw [m2, ep]; rfl
    · unfold g101_0_3 g102_0_3; rw [m2, ep]; rfl
    · unfold g101_0_4 g102_0_4; rw [m2, ep]; rfl
    · unfold g101_0_5 g102_0_5; rw [m2, ep]; rfl
    · unfold g101_1_0 g102_1_0; rw [m2, ep]; rfl
    · unfold g101_1_1 g102_1_1; rw [m2, ep]; rfl
    · unfold g101_1_2 g102_1_2; rw [m2, ep]; rfl
    · unfold g101_1_3 g102_1_3; rw [m2, ep]; rfl
    · unfold g101_0_3; rw [m2]; exact Nat.zero_le _
    · unfold g101_0_4; rw [m2]; exact Nat.zero_le _
    · unfold g101_0_5; rw [m2]; exact Nat.zero_le _
    · unfold g101_1_3; rw [m2]; exact Nat.zero_le _
  | false =>
    have ep : g102_p1 x0 x1 x2 x3 x4 x5 = true := by rw [ep, m2]; rfl
    cases ec : (bif (g47 x6 x7 x8 x9 x10 != 0) then true else decide (x6 > 18)) with
    | true =>
      have em : g102_m3 x6 x7 x8 x9 x10 = bif (g47 x6 x7 x8 x9 x10 != 0) then g47 x6 x7 x8 x9 x10 else 3 := by
        unfold g102_m3 g102_m2
        rw [← e47]
        cases a : (g47 x6 x7 x8 x9 x10 != 0) with
        | true =>
          have : (g47 x6 x7 x8 x9 x10 == 0) = false := by simpa [bne] using a
          rw [this]; rfl
        | false =>
          rw [a] at ec
          have : (g47 x6 x7 x8 x9 x10 == 0) = true := by simpa [bne] using a
          rw [this, show decide (x6 > 18) = true from ec]; rfl
      have en : (g102_m3 x6 x7 x8 x9 x10 != 0) = true := by
        rw [em]
        cases a : (g47 x6 x7 x8 x9 x10 != 0) with
        | true => exact a
        | false => rfl
      refine ⟨?_, ?_, ?_, ?_, ?_, ?_, ?_, ?_, ?_, ?_, ?_, ?_, ?_, ?_, ?_⟩
      · unfold g101_2 g102_2; rw [m2, ep, en, em]
        cases a : (g47 x6 x7 x8 x9 x10 != 0) with
        | true => rfl
        | false => rw [a] at ec; rw [show decide (x6 > 18) = true from ec]; rfl
      all_goals (try unfold g101_0_0 g102_0_0)
      all_goals (try unfold g101_0_1 g102_0_1)
      all_goals (try unfold g101_0_2 g102_0_2)
      all_goals (try unfold g101_0_3)
      all_goals (try unfold g102_0_3)
      all_goals (try unfold g101_0_4)
      all_goals (try unfold g102_0_4)
      all_goals (try unfold g101_0_5)
      all_goals (try unfold g102_0_5)
      all_goals (try unfold g101_1_0 g102_1_0)
      all_goals (try unfold g101_1_1 g102_1_1)
      all_goals (try unfold g101_1_2 g102_1_2)
      all_goals (try unfold g101_1_3)
      all_goals (try unfold g102_1_3)
      all_goals rw [m2]
      all_goals (try rw [ep, en])
      all_goals (cases a : (g47 x6 x7 x8 x9 x10 != 0) with
        | true => first | rfl | exact Nat.zero_le _
        | false => rw [a] at ec; rw [show decide (x6 > 18) = true from ec]; first | rfl | exact Nat.zero_le _)
    | false =>
      have a : (g47 x6 x7 x8 x9 x10 != 0) = false := by
        cases a : (g47 x6 x7 x8 x9 x10 != 0) with
        | false => rfl
        | true => rw [a] at ec; cases ec
      rw [a] at ec
      have hx : decide (x6 > 18) = false := ec
      have hx' := of_decide_eq_false hx
      have em : (g102_m3 x6 x7 x8 x9 x10 != 0) = false := by
        unfold g102_m3 g102_m2
        rw [← e47, hx]
        have a' := bne_eq_false_iff_eq.1 a
        rw [a']; rfl
      have hlo : 1 ≤ x6 := by
        have a' := bne_eq_false_iff_eq.1 a
        rw [e47] at a'
        unfold g48 at a'
        obtain ⟨b, _⟩ := bz a' (by decide)
        have b : g112 x6 1 22 = true := by simpa using b
        unfold g112 g112_m1 at b
        cases c : decide (x6 ≥ 1) with
        | true => exact of_decide_eq_true c
        | false => rw [c] at b; cases b
      have hr : 1 ≤ x6 ∧ x6 ≤ 18 := ⟨hlo, by omega⟩
      have hs := d102 _ _ _ _ _ _ ep h3 h4 h5
      have hw := wrongs (x0 := x0) hr
      have hc := creators (x6 := x6)
      have hk := kinds hr
      have hp : g101_p8 x0 x1 x2 x3 x4 x5 x6 = g190_p4 x0 x1 x2 x3 x4 x5 x6 := by
        unfold g101_p8 g101_m3 g190_p4
        rw [e1, hw, hc]
        cases g189 x0 x1 x2 x3 x4 x5 <;> cases g190_m1 x6 <;> cases g190_m2 x0 x6 <;> rfl
      refine sameDo hs.1 hs.2.1 hs.2.2.1 m2 ep a em hx hp ?_ ?_
      · intro p
        unfold g101_p8 at p
        unfold g101_m3 at p ⊢
        rw [e1] at p ⊢
        cases c : g189 x0 x1 x2 x3 x4 x5 with
        | false => rfl
        | true =>
          rw [c] at p
          cases d : g186 x6 with
          | false => rfl
          | true => rw [d] at p; cases p
      · intro p
        have hl := (d101 _ _ _ _ _ _ _ m2 p h3 h4 h5).2.2.2
        unfold g101_p8 g101_m3 at p
        unfold g101_m2 at m2
        rw [e1] at p m2
        refine eqv hr ?_ ?_ hl ?_
        · unfold g190_m3 g101_m7
          rw [e1, hk]; rfl
        · intro hz
          unfold g101_m7
          rw [e1]
          cases c : g189 x0 x1 x2 x3 x4 x5 with
          | true => exact hk
          | false =>
            rw [c] at p
            rw [hw] at p
            unfold g190_m2 at p
            rw [nneg hr, show (g219 x6 != 0) = true from bne_iff_ne.2 hz] at p
            cases d : (g219 x6 != x0) with
            | true => rw [d] at p; cases p
            | false => exact (bne_eq_false_iff_eq.1 d).symm
        · cases c : g189 x0 x1 x2 x3 x4 x5 with
          | true => exact good_none (none_ok c h3 h4 h5) _
          | false =>
            rw [c] at m2
            have g : g72 x0 x1 x2 x3 x4 x5 = 0 := by
              cases d : (g72 x0 x1 x2 x3 x4 x5 != 0) with
              | false => exact bne_eq_false_iff_eq.1 d
              | true => rw [d] at m2; cases m2
            have := good_chk h3 h4 h5 g
            unfold g101_m7
            rw [e1, c]
            exact this
end
theorem law31 (x0 : Int) (x1 : ByteArray) (x2 : Int) (x3 : Sl T160) (x4 : Sl ByteArray) (x5 : Sl T164) (x6 : Int) (x7 x8 x9 : ByteArray) (x10 : Int) (_ : -9223372036854775808 ≤ x0 ∧ x0 ≤ 9223372036854775807) (_ : x1.size ≤ 1048576) (_ : -9223372036854775808 ≤ x2 ∧ x2 ≤ 9223372036854775807) (c3 : Canon x3) (h3 : x3.n ≤ 1048576) (c4 : Canon x4) (h4 : x4.n ≤ 1048576) (c5 : Canon x5) (h5 : x5.n ≤ 1048576) (_ : -9223372036854775808 ≤ x6 ∧ x6 ≤ 9223372036854775807) (_ : x7.size ≤ 1048576) (_ : x8.size ≤ 1048576) (_ : x9.size ≤ 1048576) (_ : -9223372036854775808 ≤ x10 ∧ x10 ≤ 9223372036854775807) : g31 x0 x1 x2 x3 x4 x5 x6 x7 x8 x9 x10 = true := by
  have s := sameAll (x0 := x0) (x1 := x1) (x2 := x2) (x6 := x6) (x7 := x7) (x8 := x8) (x9 := x9) (x10 := x10) h3 h4 h5
  unfold g31 g31_m1
  rw [copy73_3 x3 c3 (by omega), copy73_4 x4 c4 (by omega), copy73_5 x5 c5 (by omega)]
  show (bif (g101_2 x0 x1 x2 x3 x4 x5 x6 x7 x8 x9 x10 == g102_2 x0 x1 x2 x3 x4 x5 x6 x7 x8 x9 x10) then (bif g103 (g101_0_0 x0 x1 x2 x3 x4 x5 x6 x7 x8 x9 x10) (g101_0_1 x0 x1 x2 x3 x4 x5 x6 x7 x8 x9 x10) (g101_0_2 x0 x1 x2 x3 x4 x5 x6 x7 x8 x9 x10) (g101_0_3 x0 x1 x2 x3 x4 x5 x6 x7 x8 x9 x10) (g101_0_4 x0 x1 x2 x3 x4 x5 x6 x7 x8 x9 x10) (g101_0_5 x0 x1 x2 x3 x4 x5 x6 x7 x8 x9 x10) (g102_0_0 x0 x1 x2 x3 x4 x5 x6 x7 x8 x9 x10) (g102_0_1 x0 x1 x2 x3 x4 x5 x6 x7 x8 x9 x10) (g102_0_2 x0 x1 x2 x3 x4 x5 x6 x7 x8 x9 x10) (g102_0_3 x0 x1 x2 x3 x4 x5 x6 x7 x8 x9 x10) (g102_0_4 x0 x1 x2 x3 x4 x5 x6 x7 x8 x9 x10) (g102_0_5 x0 x1 x2 x3 x4 x5 x6 x7 x8 x9 x10) then
    (bif g104 (g101_1_0 x0 x1 x2 x3 x4 x5 x6 x7 x8 x9 x10) (g101_1_1 x0 x1 x2 x3 x4 x5 x6 x7 x8 x9 x10) (g101_1_2 x0 x1 x2 x3 x4 x5 x6 x7 x8 x9 x10) (g101_1_3 x0 x1 x2 x3 x4 x5 x6 x7 x8 x9 x10) (g102_1_0 x0 x1 x2 x3 x4 x5 x6 x7 x8 x9 x10) (g102_1_1 x0 x1 x2 x3 x4 x5 x6 x7 x8 x9 x10) (g102_1_2 x0 x1 x2 x3 x4 x5 x6 x7 x8 x9 x10) (g102_1_3 x0 x1 x2 x3 x4 x5 x6 x7 x8 x9 x10) then g103 x0 x1 x2 x3 x4 x5 x0 x1 x2 x3 x4 x5 else false) else false) else false) = true
  rw [s.a2, s.b0, s.b1, s.b2, s.c0, s.c1, s.c2]
  have l3 := s.l3
  have l4 := s.l4
  have l5 := s.l5
  rw [t103 (SlE_of s.b3) (SlE_of s.b4) (SlE_of s.b5) (by omega) (by omega) (by omega), t103 (SlE.rfl' (fun _ => rfl) _) (SlE.rfl' (fun _ => rfl) _) (SlE.rfl' (fun _ => rfl) _) (by omega) (by omega) (by omega)]
  rw [t104 (SlE_of s.c3) (by have := s.lr; omega)]
  simp
end Go.Proofs.Ytchhfojblmceiaa
