/-
  Walks: what functions of the program answer, as functions.
-/
import Derived.Test.YtchhfojblmceiaaCl
import Derived.Test.YtchhfojblmceiaaEc
import Derived.Test.YtchhfojblmceiaaY0
import Derived.Test.YtchhfojblmceiaaY1
import Derived.Test.YtchhfojblmceiaaY2
import Derived.Test.YtchhfojblmceiaaH1
import Derived.Test.YtchhfojblmceiaaH3
namespace Go.Proofs.Ytchhfojblmceiaa
open Go Go.Vc Go.RowKit
set_option maxRecDepth 100000
set_option maxHeartbeats 4000000
noncomputable def g170 (x0 : Sl Int) (x1 : Int) : Int := (bif (decide ((IntKind.i64.wrap (x1 + 1)) > (x0.n : Int))) then 0 else (IntKind.i64.wrap (x0.at' (Int.toNat (IntKind.i64.wrap ((IntKind.i64.wrap (x1 + 1)) - 1))))))
noncomputable def g170_h0_1 (x1 : Int) : Int := (IntKind.i64.wrap (x1 + 1))
noncomputable def F170 : Hq := ⟨[.p 0], [(.h 0 0, .sl E5), (.h 0 1, kI)], [[U, U]], fun x0 (x1 : Int) => ⟨⟨some (0 ≤ x1 ∧ x1 ≤ 9000000000000000000), [.int .i64 (g170 x0 x1)], [[ofSl 1 e5 x0, .int .i64 (g170_h0_1 x1)]]⟩⟩⟩
theorem pc170 : HqOk Try.prog 170 F170 _ (F170.sh.flatMap Sh.bs) F170.f [] :=
  fun x0 n0 (x1 : Int) hp => heap_of_exec (X := (mkXh 1 [] [])) (R := ⟨.heap, [.tmp 2], [(.t 0, kI), (.h 0 0, .sl E5), (.h 0 1, kI)], ⟨[U], [[U, U]]⟩⟩) (h := .z) (ms := [.f, .l, .l]) (p := ((decide ((IntKind.i64.wrap (x1 + 1)) > (x0.n : Int))) = false → ((0 : Int) ≤ (IntKind.i64.wrap ((IntKind.i64.wrap (x1 + 1)) - 1)) ∧ (IntKind.i64.wrap ((IntKind.i64.wrap (x1 + 1)) - 1)) < ((x0.n : Nat) : Int)))) (mkXh_ok trivial trivial) Try.func170 rfl rfl rfl (by kernel_rfl) (have ⟨hq0, hq1⟩ := hp; (fun h1 => (by have := of_decide_eq_false h1; first | omega | (have := wrap64 (x := (x1 + 1)) (by omega) (by omega); have := wrap64 (x := ((IntKind.i64.wrap (x1 + 1)) - 1)) (by omega) (by omega); omega))))
theorem k170 : XHOk Try.prog 170 F170.ans := Hq.ok ⟨_, _, Try.func170, rfl, by kernel_rfl⟩ (by kernel_rfl) pc170
theorem q170 (x1 : Int) : 0 ≤ x1 ∧ x1 ≤ 9000000000000000000 → g170_h0_1 x1 = x1 + 1 := fun h => wrap64 (by omega) (by omega)
theorem r170 (x0 : Sl Int) (x1 : Int) (h : U8 x0) : 0 ≤ g170 x0 x1 ∧ g170 x0 x1 ≤ 255 := by
  unfold g170
  generalize Int.toNat (IntKind.i64.wrap ((IntKind.i64.wrap (x1 + 1)) - 1)) = i
  have h2 := h i
  cases decide ((IntKind.i64.wrap (x1 + 1)) > (x0.n : Int))
  · simp only [cond_false]; rw [wrap64 (by omega) (by omega)]; exact h2
  · simp only [cond_true]; omega
noncomputable def g171 (x0 : Sl Int) (x1 : Int) : Bool := (decide (x1 > (x0.n : Int)))
noncomputable def F171 : Hq := ⟨[.p 0], [(.h 0 0, .sl E5), (.h 0 1, kI)], [[U, U]], fun x0 (x1 : Int) => ⟨⟨some (0 ≤ x1), [.bool (g171 x0 x1)], [[ofSl 1 e5 x0, .int .i64 x1]]⟩⟩⟩
theorem pc171 : HqOk Try.prog 171 F171 _ (F171.sh.flatMap Sh.bs) F171.f [] :=
  fun x0 _ (x1 : Int) hp => heap_of_exec (X := (mkXh 1 [] [])) (R := ⟨.heap, [.tmp 2], [(.t 0, kB), (.h 0 0, .sl E5), (.h 0 1, kI)], ⟨[U], [[U, U]]⟩⟩) (h := .z) (ms := []) (p := True) (mkXh_ok trivial trivial) Try.func171 rfl rfl rfl (by kernel_rfl) (trivial)
theorem k171 : XHOk Try.prog 171 F171.ans := Hq.ok ⟨_, _, Try.func171, rfl, by kernel_rfl⟩ (by kernel_rfl) pc171
noncomputable def g169_l1 (x0 : Sl Int) : Nat → Int → Int → Int → Int × Int
  | 0, _, _, _ => default
  | k + 1, v1_0, v1_1, v1_2 => (bif (decide (v1_1 < 8)) then (g169_l1 x0 k (IntKind.i64.wrap ((IntKind.i64.wrap (v1_0 * 256)) + (g170 x0 v1_2))) (IntKind.i64.wrap (v1_1 + 1)) (g170_h0_1 v1_2)) else (v1_0, v1_2))
noncomputable def g169_r1 (x0 : Sl Int) (x1 : Int) : Int × Int := g169_l1 x0 ((Int.toNat (8 - 0)) + 1) 0 0 x1
noncomputable def g169 (x0 : Sl Int) (x1 : Int) : Int := (IntKind.i64.wrap ((g169_r1 x0 x1).1 - 4611686018427387904))
noncomputable def g169_h0_1 (x0 : Sl Int) (x1 : Int) : Int := (g169_r1 x0 x1).2
noncomputable def F169 : Hq := ⟨[.p 0], [(.h 0 0, .sl E5), (.h 0 1, kI)], [[U, U]], fun x0 (x1 : Int) => ⟨⟨some (0 ≤ x1 ∧ x1 ≤ 8000000000000000000), [.int .i64 (g169 x0 x1)], [[ofSl 1 e5 x0, .int .i64 (g169_h0_1 x0 x1)]]⟩⟩⟩
theorem pc169 : HqOk Try.prog 169 F169 _ (F169.sh.flatMap Sh.bs) F169.f [] :=
  fun x0 n0 (x1 : Int) hp => heap_of_exec (X := (mkXh 1 [] [(170, F170.ans)])) (R := ⟨.heap, [.tmp 2], [(.t 0, kI), (.h 0 0, .sl E5), (.h 0 1, kI)], ⟨[U], [[U, U]]⟩⟩) (h := (.s .z (.s .z (.j ⟨12, [], [], [], .f⟩ (.s .z (.lp ⟨29, [], [], [(.t 3, kI), (.t 4, kI), (.h 0 1, kI)], some 0, false, 12, [], [(.t 3, kI), (.h 0 1, kI)], fun k (s : Int × Int × Int) => g169_l1 x0 k s.1 s.2.1 s.2.2, .f, fun (s : Int × Int × Int) => (0 ≤ s.2.1 ∧ s.2.1 ≤ 8 ∧ s.2.2 = x1 + s.2.1), fun (s : Int × Int × Int) => (Int.toNat (8 - s.2.1)), none⟩ .z)) .z)))) (ms := []) (p := (((0 ≤ (0 : Int) ∧ (0 : Int) ≤ 8 ∧ x1 = x1 + (0 : Int))) ∧ (∀ (v1_0 : Int) (v1_1 : Int) (v1_2 : Int), (0 ≤ v1_1 ∧ v1_1 ≤ 8 ∧ v1_2 = x1 + v1_1) → (((decide (v1_1 < 8)) = true → (0 ≤ v1_2 ∧ v1_2 ≤ 9000000000000000000)) ∧ ((decide (v1_1 < 8)) = true → ((0 ≤ (IntKind.i64.wrap (v1_1 + 1)) ∧ (IntKind.i64.wrap (v1_1 + 1)) ≤ 8 ∧ (g170_h0_1 v1_2) = x1 + (IntKind.i64.wrap (v1_1 + 1))) ∧ (Int.toNat (8 - (IntKind.i64.wrap (v1_1 + 1)))) < (Int.toNat (8 - v1_1)))))))) (mkXh_ok trivial ⟨k170, trivial⟩) Try.func169 rfl rfl rfl (by kernel_rfl) (have ⟨hq0, hq1⟩ := hp; ⟨(by omega), (fun v1_0 v1_1 v1_2 hI1 => ⟨(fun h2 => (by have := of_decide_eq_true h2; omega)), (fun h3 => (by have := of_decide_eq_true h3; have := q170 v1_2; first | omega | (have := wrap64 (x := (v1_1 + 1)) (by omega) (by omega); omega)))⟩)⟩)
theorem k169 : XHOk Try.prog 169 F169.ans := Hq.ok ⟨_, _, Try.func169, rfl, by kernel_rfl⟩ (by kernel_rfl) pc169
theorem q169 (x0 : Sl Int) (x1 : Int) : 0 ≤ x1 ∧ x1 ≤ 8000000000000000000 → g169_h0_1 x0 x1 = x1 + 8 := fun h => by
  have e : g169_h0_1 x0 x1 = g170_h0_1 (g170_h0_1 (g170_h0_1 (g170_h0_1 (g170_h0_1 (g170_h0_1 (g170_h0_1 (g170_h0_1 x1))))))) := by kernel_rfl
  rw [e]
  have a1 := q170 x1 (by omega)
  have a2 := q170 (x1 + 1) (by omega)
  have a3 := q170 (x1 + 1 + 1) (by omega)
  have a4 := q170 (x1 + 1 + 1 + 1) (by omega)
  have a5 := q170 (x1 + 1 + 1 + 1 + 1) (by omega)
  have a6 := q170 (x1 + 1 + 1 + 1 + 1 + 1) (by omega)
  have a7 := q170 (x1 + 1 + 1 + 1 + 1 + 1 + 1) (by omega)
  have a8 := q170 (x1 + 1 + 1 + 1 + 1 + 1 + 1 + 1) (by omega)
  rw [a1, a2, a3, a4, a5, a6, a7, a8]; omega
noncomputable def g172_m1 (x0 : Sl Int) (x1 : Int) (v1_0 : Int) : Bool := (bif (decide (v1_0 < (g170 x0 x1))) then true else false)
noncomputable def g172_m2 (x0 : Sl Int) (x1 : Int) (v1_0 : Int) (v1_1 : Int) : Bool := (bif (decide (v1_0 < (g170 x0 x1))) then (!(g171 x0 v1_1)) else false)
noncomputable def g172_l1 (x0 : Sl Int) (x1 : Int) : Nat → Int → Int → Sl Int → Int × Sl Int
  | 0, _, _, _ => default
  | k + 1, v1_0, v1_1, v1_2 => (bif (g172_m2 x0 x1 v1_0 v1_1) then (g172_l1 x0 x1 k (IntKind.i64.wrap (v1_0 + 1)) (g170_h0_1 v1_1) (Sl.app v1_2 (Sl.lit ([(IntKind.u8.wrap (g170 x0 v1_1))] : List Int)))) else (v1_1, v1_2))
noncomputable def g172_r3 (x0 : Sl Int) (x1 : Int) : Int × Sl Int := g172_l1 x0 x1 ((Int.toNat ((g170 x0 x1) - 0)) + 1) 0 (g170_h0_1 x1) (nilSl : Sl Int)
noncomputable def g172 (x0 : Sl Int) (x1 : Int) : ByteArray := (Sl.toStr (g172_r3 x0 x1).2)
noncomputable def g172_h0_1 (x0 : Sl Int) (x1 : Int) : Int := (g172_r3 x0 x1).1
noncomputable def F172 : Hq := ⟨[.p 0], [(.h 0 0, .sl E5), (.h 0 1, kI)], [[U, U]], fun x0 (x1 : Int) => ⟨⟨some (U8 x0 ∧ 0 ≤ x1 ∧ x1 ≤ 7000000000000000000), [.str (g172 x0 x1)], [[ofSl 1 e5 x0, .int .i64 (g172_h0_1 x0 x1)]]⟩⟩⟩
theorem pc172 : HqOk Try.prog 172 F172 _ (F172.sh.flatMap Sh.bs) F172.f [] :=
  fun x0 n0 (x1 : Int) hp => heap_of_exec (X := (mkXh 1 [] [(170, F170.ans), (171, F171.ans)])) (R := ⟨.heap, [.tmp 2], [(.t 0, kS), (.h 0 0, .sl E5), (.h 0 1, kI)], ⟨[U], [[U, U]]⟩⟩) (h := (.s .z (.s .z (.s .z (.j ⟨20, [], [], [], .f⟩ (.s .z (.lp ⟨61, [], [(.t 4, E5)], [(.t 5, kI), (.h 0 1, kI), (.h 1 0, .blk E5)], some 0, false, 20, [], [(.h 0 1, kI), (.h 1 0, .blk E5)], fun k (s : Int × Int × Sl Int) => g172_l1 x0 x1 k s.1 s.2.1 s.2.2, .f, fun (s : Int × Int × Sl Int) => (0 ≤ s.1 ∧ (s.1 ≤ (g170 x0 x1) ∨ s.1 = 0) ∧ s.2.1 = x1 + 1 + s.1 ∧ ((s.2.2.n : Nat) : Int) = s.1), fun (s : Int × Int × Sl Int) => (Int.toNat ((g170 x0 x1) - s.1)), none⟩ (.s (.j ⟨73277, [], [(.t 12, kB), (.t 16, kB)], [], .f⟩ .z .z) .z))) .z))))) (ms := []) (p := ((0 ≤ x1 ∧ x1 ≤ 9000000000000000000) ∧ (((0 ≤ (0 : Int) ∧ ((0 : Int) ≤ (g170 x0 x1) ∨ (0 : Int) = 0) ∧ (g170_h0_1 x1) = x1 + 1 + (0 : Int) ∧ ((0 : Nat) : Int) = (0 : Int))) ∧ (∀ (v1_0 : Int) (v1_1 : Int) (v1_2 : Sl Int), (0 ≤ v1_0 ∧ (v1_0 ≤ (g170 x0 x1) ∨ v1_0 = 0) ∧ v1_1 = x1 + 1 + v1_0 ∧ ((v1_2.n : Nat) : Int) = v1_0) → ((((decide (v1_0 < (g170 x0 x1))) = true → (0 ≤ v1_1)) ∧ ((g172_m2 x0 x1 v1_0 v1_1) = true → ((0 ≤ v1_1 ∧ v1_1 ≤ 9000000000000000000) ∧ (v1_2.n + 1 ≤ 549755813888)))) ∧ ((g172_m2 x0 x1 v1_0 v1_1) = true → ((0 ≤ (IntKind.i64.wrap (v1_0 + 1)) ∧ ((IntKind.i64.wrap (v1_0 + 1)) ≤ (g170 x0 x1) ∨ (IntKind.i64.wrap (v1_0 + 1)) = 0) ∧ (g170_h0_1 v1_1) = x1 + 1 + (IntKind.i64.wrap (v1_0 + 1)) ∧ (((v1_2.n + 1) : Nat) : Int) = (IntKind.i64.wrap (v1_0 + 1))) ∧ (Int.toNat ((g170 x0 x1) - (IntKind.i64.wrap (v1_0 + 1)))) < (Int.toNat ((g170 x0 x1) - v1_0))))))))) (mkXh_ok trivial ⟨k170, k171, trivial⟩) Try.func172 rfl rfl rfl (by kernel_rfl) (have ⟨hq0, hq1, hq2⟩ := hp; ⟨(by omega), ⟨(by have := r170 x0 x1 (by repeat first | assumption | apply u205 | apply u161 | apply u167 | apply u164 | apply u227 | apply u202); have := q170 x1; omega), (fun v1_0 v1_1 v1_2 hI1 => ⟨⟨(fun h2 => (by have := of_decide_eq_true h2; have := r170 x0 x1 (by repeat first | assumption | apply u205 | apply u161 | apply u167 | apply u164 | apply u227 | apply u202); omega)), (fun h3 => ⟨(by have := h3; (try simp [g172_m2] at this); have := r170 x0 x1 (by repeat first | assumption | apply u205 | apply u161 | apply u167 | apply u164 | apply u227 | apply u202); omega), (by have := h3; (try simp [g172_m2] at this); have := r170 x0 x1 (by repeat first | assumption | apply u205 | apply u161 | apply u167 | apply u164 | apply u227 | apply u202); omega)⟩)⟩, (fun h4 => (by have := h4; (try simp [g172_m2] at this); have := r170 x0 x1 (by repeat first | assumption | apply u205 | apply u161 | apply u167 | apply u164 | apply u227 | apply u202); have := q170 v1_1; first | omega | (have := wrap64 (x := (v1_0 + 1)) (by omega) (by omega); omega)))⟩)⟩⟩)
theorem k172 : XHOk Try.prog 172 F172.ans := Hq.ok ⟨_, _, Try.func172, rfl, by kernel_rfl⟩ (by kernel_rfl) pc172
theorem q172l (x0 : Sl Int) (x1 : Int) (hU : U8 x0) (h : 0 ≤ x1 ∧ x1 ≤ 7000000000000000000) : ∀ (m : Nat) (i : Int) (s : Sl Int), 0 ≤ i → (i ≤ g170 x0 x1 ∨ i = 0) → Int.toNat (g170 x0 x1 - i) ≤ m → x1 + 1 ≤ (g172_l1 x0 x1 (m + 1) i (x1 + 1 + i) s).1 ∧ (g172_l1 x0 x1 (m + 1) i (x1 + 1 + i) s).1 ≤ x1 + 256 := by
  intro m
  have hr := r170 x0 x1 hU
  induction m with
  | zero =>
    intro i s h0 h1 hm
    have : ¬ i < g170 x0 x1 := by omega
    have e : g172_m2 x0 x1 i (x1 + 1 + i) = false := by simp [g172_m2, this]
    rw [g172_l1, e]
    simp only [cond_false]; omega
  | succ m ih =>
    intro i s h0 h1 hm
    cases e : g172_m2 x0 x1 i (x1 + 1 + i) with
    | false =>
      rw [g172_l1, e]
      simp only [cond_false]; omega
    | true =>
      rw [g172_l1, e]
      simp only [cond_true]
      have hi : i < g170 x0 x1 := by
        simp only [g172_m2] at e
        by_cases a : i < g170 x0 x1
        · exact a
        · simp [a] at e
      rw [wrap64 (x := i + 1) (by omega) (by omega), q170 (x1 + 1 + i) (by omega), show x1 + 1 + i + 1 = x1 + 1 + (i + 1) by omega]
      exact ih (i + 1) _ (by omega) (by omega) (by omega)
theorem q172 (x0 : Sl Int) (x1 : Int) (hU : U8 x0) : 0 ≤ x1 ∧ x1 ≤ 7000000000000000000 → x1 + 1 ≤ g172_h0_1 x0 x1 ∧ g172_h0_1 x0 x1 ≤ x1 + 256 := fun h => by
  have := q172l x0 x1 hU h (Int.toNat (g170 x0 x1 - 0)) 0 nilSl (by omega) (by omega) (Nat.le_refl _)
  rw [Int.add_zero, ← q170 x1 (by omega)] at this
  have e := q170 x1 (by omega)
  unfold g172_h0_1 g172_r3
  omega
noncomputable def g150_m1 (x0 : Sl Int) (x1 : Int) : Bool := (bif ((g170 x0 (g169_h0_1 x0 (g169_h0_1 x0 x1))) == 1) then true else false)
noncomputable def g150_0_0 (x0 : Sl Int) (x1 : Int) : Int := (g169 x0 x1)
noncomputable def g150_0_1 (x0 : Sl Int) (x1 : Int) : Int := (g169 x0 (g169_h0_1 x0 x1))
noncomputable def g150_0_2 (x0 : Sl Int) (x1 : Int) : Bool := (g150_m1 x0 x1)
noncomputable def g150_0_3 (x0 : Sl Int) (x1 : Int) : Int := (bif ((g170 x0 (g169_h0_1 x0 (g169_h0_1 x0 x1))) != 0) then 0 else (g169 x0 (g170_h0_1 (g169_h0_1 x0 (g169_h0_1 x0 x1)))))
noncomputable def g150_0_4 (x0 : Sl Int) (x1 : Int) : Int := (bif ((g170 x0 (g169_h0_1 x0 (g169_h0_1 x0 x1))) != 0) then 0 else (bif ((g169 x0 (g170_h0_1 (g169_h0_1 x0 (g169_h0_1 x0 x1)))) == 0) then 0 else (g169 x0 (g169_h0_1 x0 (g170_h0_1 (g169_h0_1 x0 (g169_h0_1 x0 x1)))))))
noncomputable def g150_0_5 (x0 : Sl Int) (x1 : Int) : Int := (bif ((g170 x0 (g169_h0_1 x0 (g169_h0_1 x0 x1))) != 0) then 0 else (bif ((g169 x0 (g170_h0_1 (g169_h0_1 x0 (g169_h0_1 x0 x1)))) == 0) then 0 else (g170 x0 (g169_h0_1 x0 (g169_h0_1 x0 (g170_h0_1 (g169_h0_1 x0 (g169_h0_1 x0 x1))))))))
noncomputable def g150_0_6 (x0 : Sl Int) (x1 : Int) : ByteArray := (bif ((g170 x0 (g169_h0_1 x0 (g169_h0_1 x0 x1))) != 0) then ⟨#[]⟩ else (bif ((g169 x0 (g170_h0_1 (g169_h0_1 x0 (g169_h0_1 x0 x1)))) == 0) then ⟨#[]⟩ else (g172 x0 (g170_h0_1 (g169_h0_1 x0 (g169_h0_1 x0 (g170_h0_1 (g169_h0_1 x0 (g169_h0_1 x0 x1)))))))))
noncomputable def g150_0_7 (x0 : Sl Int) (x1 : Int) : ByteArray := (bif ((g170 x0 (g169_h0_1 x0 (g169_h0_1 x0 x1))) != 0) then ⟨#[]⟩ else (bif ((g169 x0 (g170_h0_1 (g169_h0_1 x0 (g169_h0_1 x0 x1)))) == 0) then ⟨#[]⟩ else (g172 x0 (g172_h0_1 x0 (g170_h0_1 (g169_h0_1 x0 (g169_h0_1 x0 (g170_h0_1 (g169_h0_1 x0 (g169_h0_1 x0 x1))))))))))
noncomputable def g150_0_8 (x0 : Sl Int) (x1 : Int) : ByteArray := (bif ((g170 x0 (g169_h0_1 x0 (g169_h0_1 x0 x1))) != 0) then ⟨#[]⟩ else (bif ((g169 x0 (g170_h0_1 (g169_h0_1 x0 (g169_h0_1 x0 x1)))) == 0) then ⟨#[]⟩ else (g172 x0 (g172_h0_1 x0 (g172_h0_1 x0 (g170_h0_1 (g169_h0_1 x0 (g169_h0_1 x0 (g170_h0_1 (g169_h0_1 x0 (g169_h0_1 x0 x1)))))))))))
noncomputable def g150_0_9 (x0 : Sl Int) (x1 : Int) : Int := (bif ((g170 x0 (g169_h0_1 x0 (g169_h0_1 x0 x1))) != 0) then 0 else (bif ((g169 x0 (g170_h0_1 (g169_h0_1 x0 (g169_h0_1 x0 x1)))) == 0) then 0 else (g169 x0 (g172_h0_1 x0 (g172_h0_1 x0 (g172_h0_1 x0 (g170_h0_1 (g169_h0_1 x0 (g169_h0_1 x0 (g170_h0_1 (g169_h0_1 x0 (g169_h0_1 x0 x1))))))))))))
noncomputable def g150_1 (x0 : Sl Int) (x1 : Int) : Bool := (bif ((g170 x0 (g169_h0_1 x0 (g169_h0_1 x0 x1))) != 0) then ((g170 x0 (g169_h0_1 x0 (g169_h0_1 x0 x1))) == 1) else true)
noncomputable def g150_h0_1 (x0 : Sl Int) (x1 : Int) : Int := (bif ((g170 x0 (g169_h0_1 x0 (g169_h0_1 x0 x1))) != 0) then (g170_h0_1 (g169_h0_1 x0 (g169_h0_1 x0 x1))) else (bif ((g169 x0 (g170_h0_1 (g169_h0_1 x0 (g169_h0_1 x0 x1)))) == 0) then (g169_h0_1 x0 (g170_h0_1 (g169_h0_1 x0 (g169_h0_1 x0 x1)))) else (g169_h0_1 x0 (g172_h0_1 x0 (g172_h0_1 x0 (g172_h0_1 x0 (g170_h0_1 (g169_h0_1 x0 (g169_h0_1 x0 (g170_h0_1 (g169_h0_1 x0 (g169_h0_1 x0 x1))))))))))))
noncomputable def F150 : Hq := ⟨[.p 0], [(.h 0 0, .sl E5), (.h 0 1, kI)], [[U, U]], fun x0 (x1 : Int) => ⟨⟨some (U8 x0 ∧ 0 ≤ x1 ∧ x1 ≤ 1000000000000000000), [.agg [.int .i64 (g150_0_0 x0 x1), .int .i64 (g150_0_1 x0 x1), .bool (g150_0_2 x0 x1), .int .i64 (g150_0_3 x0 x1), .int .i64 (g150_0_4 x0 x1), .int .i64 (g150_0_5 x0 x1), .str (g150_0_6 x0 x1), .str (g150_0_7 x0 x1), .str (g150_0_8 x0 x1), .int .i64 (g150_0_9 x0 x1)], .bool (g150_1 x0 x1)], [[ofSl 1 e5 x0, .int .i64 (g150_h0_1 x0 x1)]]⟩⟩⟩
theorem pc150 : HqOk Try.prog 150 F150 _ (F150.sh.flatMap Sh.bs) F150.f [] :=
  fun x0 n0 (x1 : Int) hp => heap_of_exec (X := (mkXh 1 [] [(169, F169.ans), (170, F170.ans), (172, F172.ans)])) (R := ⟨.heap, [.cell 2 68, .tmp 3], [(.c 0 0, kI), (.c 0 1, kI), (.c 0 2, kB), (.c 0 3, kI), (.c 0 4, kI), (.c 0 5, kI), (.c 0 6, kS), (.c 0 7, kS), (.c 0 8, kS), (.c 0 9, kI), (.t 1, kB), (.h 0 0, .sl E5), (.h 0 1, kI)], ⟨[.agg (us 10 []), U], [[U, U]]⟩⟩) (h := (.s .z (.s .z (.s .z (.s .z (.s .z (.j ⟨61, [], [(.h 2 2, kB)], [], .f⟩ .z .z))))))) (ms := [.l, .l, .l, (.b .f .l), .f, .f, .f, .f, .f, .f, (.b .f .l), .l, .f]) (p := ((0 ≤ x1 ∧ x1 ≤ 8000000000000000000) ∧ ((0 ≤ (g169_h0_1 x0 x1) ∧ (g169_h0_1 x0 x1) ≤ 8000000000000000000) ∧ ((0 ≤ (g169_h0_1 x0 (g169_h0_1 x0 x1)) ∧ (g169_h0_1 x0 (g169_h0_1 x0 x1)) ≤ 9000000000000000000) ∧ (((g170 x0 (g169_h0_1 x0 (g169_h0_1 x0 x1))) != 0) = false → ((0 ≤ (g170_h0_1 (g169_h0_1 x0 (g169_h0_1 x0 x1))) ∧ (g170_h0_1 (g169_h0_1 x0 (g169_h0_1 x0 x1))) ≤ 8000000000000000000) ∧ (((g169 x0 (g170_h0_1 (g169_h0_1 x0 (g169_h0_1 x0 x1)))) == 0) = false → ((0 ≤ (g169_h0_1 x0 (g170_h0_1 (g169_h0_1 x0 (g169_h0_1 x0 x1)))) ∧ (g169_h0_1 x0 (g170_h0_1 (g169_h0_1 x0 (g169_h0_1 x0 x1)))) ≤ 8000000000000000000) ∧ ((0 ≤ (g169_h0_1 x0 (g169_h0_1 x0 (g170_h0_1 (g169_h0_1 x0 (g169_h0_1 x0 x1))))) ∧ (g169_h0_1 x0 (g169_h0_1 x0 (g170_h0_1 (g169_h0_1 x0 (g169_h0_1 x0 x1))))) ≤ 9000000000000000000) ∧ ((U8 x0 ∧ 0 ≤ (g170_h0_1 (g169_h0_1 x0 (g169_h0_1 x0 (g170_h0_1 (g169_h0_1 x0 (g169_h0_1 x0 x1)))))) ∧ (g170_h0_1 (g169_h0_1 x0 (g169_h0_1 x0 (g170_h0_1 (g169_h0_1 x0 (g169_h0_1 x0 x1)))))) ≤ 7000000000000000000) ∧ ((U8 x0 ∧ 0 ≤ (g172_h0_1 x0 (g170_h0_1 (g169_h0_1 x0 (g169_h0_1 x0 (g170_h0_1 (g169_h0_1 x0 (g169_h0_1 x0 x1))))))) ∧ (g172_h0_1 x0 (g170_h0_1 (g169_h0_1 x0 (g169_h0_1 x0 (g170_h0_1 (g169_h0_1 x0 (g169_h0_1 x0 x1))))))) ≤ 7000000000000000000) ∧ ((U8 x0 ∧ 0 ≤ (g172_h0_1 x0 (g172_h0_1 x0 (g170_h0_1 (g169_h0_1 x0 (g169_h0_1 x0 (g170_h0_1 (g169_h0_1 x0 (g169_h0_1 x0 x1)))))))) ∧ (g172_h0_1 x0 (g172_h0_1 x0 (g170_h0_1 (g169_h0_1 x0 (g169_h0_1 x0 (g170_h0_1 (g169_h0_1 x0 (g169_h0_1 x0 x1)))))))) ≤ 7000000000000000000) ∧ (0 ≤ (g172_h0_1 x0 (g172_h0_1 x0 (g172_h0_1 x0 (g170_h0_1 (g169_h0_1 x0 (g169_h0_1 x0 (g170_h0_1 (g169_h0_1 x0 (g169_h0_1 x0 x1))))))))) ∧ (g172_h0_1 x0 (g172_h0_1 x0 (g172_h0_1 x0 (g170_h0_1 (g169_h0_1 x0 (g169_h0_1 x0 (g170_h0_1 (g169_h0_1 x0 (g169_h0_1 x0 x1))))))))) ≤ 8000000000000000000))))))))))))) (mkXh_ok trivial ⟨k169, k170, k172, trivial⟩) Try.func150 rfl rfl rfl (by kernel_rfl) (have ⟨hq0, hq1, hq2⟩ := hp; ⟨(by omega), ⟨(by have := q169 x0 x1; omega), ⟨(by have := q169 x0 (g169_h0_1 x0 x1); have := q169 x0 x1; omega), (fun h1 => ⟨(by have := bne_eq_false_iff_eq.1 h1; have := q170 (g169_h0_1 x0 (g169_h0_1 x0 x1)); have := q169 x0 (g169_h0_1 x0 x1); have := q169 x0 x1; omega), (fun h2 => ⟨(by have := bne_eq_false_iff_eq.1 h1; have := ne_of_beq_false h2; have := q169 x0 (g170_h0_1 (g169_h0_1 x0 (g169_h0_1 x0 x1))); have := q170 (g169_h0_1 x0 (g169_h0_1 x0 x1)); have := q169 x0 (g169_h0_1 x0 x1); have := q169 x0 x1; omega), ⟨(by have := bne_eq_false_iff_eq.1 h1; have := ne_of_beq_false h2; have := q169 x0 (g169_h0_1 x0 (g170_h0_1 (g169_h0_1 x0 (g169_h0_1 x0 x1)))); have := q169 x0 (g170_h0_1 (g169_h0_1 x0 (g169_h0_1 x0 x1))); have := q170 (g169_h0_1 x0 (g169_h0_1 x0 x1)); have := q169 x0 (g169_h0_1 x0 x1); have := q169 x0 x1; omega), ⟨⟨(by repeat first | assumption | apply u205 | apply u161 | apply u167 | apply u164 | apply u227 | apply u202), (by have := bne_eq_false_iff_eq.1 h1; have := ne_of_beq_false h2; have := q170 (g169_h0_1 x0 (g169_h0_1 x0 (g170_h0_1 (g169_h0_1 x0 (g169_h0_1 x0 x1))))); have := q169 x0 (g169_h0_1 x0 (g170_h0_1 (g169_h0_1 x0 (g169_h0_1 x0 x1)))); have := q169 x0 (g170_h0_1 (g169_h0_1 x0 (g169_h0_1 x0 x1))); have := q170 (g169_h0_1 x0 (g169_h0_1 x0 x1)); have := q169 x0 (g169_h0_1 x0 x1); have := q169 x0 x1; omega)⟩, ⟨⟨(by repeat first | assumption | apply u205 | apply u161 | apply u167 | apply u164 | apply u227 | apply u202), (by have := bne_eq_false_iff_eq.1 h1; have := ne_of_beq_false h2; have := q172 x0 (g170_h0_1 (g169_h0_1 x0 (g169_h0_1 x0 (g170_h0_1 (g169_h0_1 x0 (g169_h0_1 x0 x1)))))) (by repeat first | assumption | apply u205 | apply u161 | apply u167 | apply u164 | apply u227 | apply u202); have := q170 (g169_h0_1 x0 (g169_h0_1 x0 (g170_h0_1 (g169_h0_1 x0 (g169_h0_1 x0 x1))))); have := q169 x0 (g169_h0_1 x0 (g170_h0_1 (g169_h0_1 x0 (g169_h0_1 x0 x1)))); have := q169 x0 (g170_h0_1 (g169_h0_1 x0 (g169_h0_1 x0 x1))); have := q170 (g169_h0_1 x0 (g169_h0_1 x0 x1)); have := q169 x0 (g169_h0_1 x0 x1); have := q169 x0 x1; omega)⟩, ⟨⟨(by repeat first | assumption | apply u205 | apply u161 | apply u167 | apply u164 | apply u227 | apply u202), (by have := bne_eq_false_iff_eq.1 h1; have := ne_of_beq_false h2; have := q172 x0 (g172_h0_1 x0 (g170_h0_1 (g169_h0_1 x0 (g169_h0_1 x0 (g170_h0_1 (g169_h0_1 x0 (g169_h0_1 x0 x1))))))) (by repeat first | assumption | apply u205 | apply u161 | apply u167 | apply u164 | apply u227 | apply u202); have := q172 x0 (g170_h0_1 (g169_h0_1 x0 (g169_h0_1 x0 (g170_h0_1 (g169_h0_1 x0 (g169_h0_1 x0 x1)))))) (by repeat first | assumption | apply u205 | apply u161 | apply u167 | apply u164 | apply u227 | apply u202); have := q170 (g169_h0_1 x0 (g169_h0_1 x0 (g170_h0_1 (g169_h0_1 x0 (g169_h0_1 x0 x1))))); have := q169 x0 (g169_h0_1 x0 (g170_h0_1 (g169_h0_1 x0 (g169_h0_1 x0 x1)))); have := q169 x0 (g170_h0_1 (g169_h0_1 x0 (g169_h0_1 x0 x1))); have := q170 (g169_h0_1 x0 (g169_h0_1 x0 x1)); have := q169 x0 (g169_h0_1 x0 x1); have := q169 x0 x1; omega)⟩, (by have := bne_eq_false_iff_eq.1 h1; have := ne_of_beq_false h2; have := q172 x0 (g172_h0_1 x0 (g172_h0_1 x0 (g170_h0_1 (g169_h0_1 x0 (g169_h0_1 x0 (g170_h0_1 (g169_h0_1 x0 (g169_h0_1 x0 x1)))))))) (by repeat first | assumption | apply u205 | apply u161 | apply u167 | apply u164 | apply u227 | apply u202); have := q172 x0 (g172_h0_1 x0 (g170_h0_1 (g169_h0_1 x0 (g169_h0_1 x0 (g170_h0_1 (g169_h0_1 x0 (g169_h0_1 x0 x1))))))) (by repeat first | assumption | apply u205 | apply u161 | apply u167 | apply u164 | apply u227 | apply u202); have := q172 x0 (g170_h0_1 (g169_h0_1 x0 (g169_h0_1 x0 (g170_h0_1 (g169_h0_1 x0 (g169_h0_1 x0 x1)))))) (by repeat first | assumption | apply u205 | apply u161 | apply u167 | apply u164 | apply u227 | apply u202); have := q170 (g169_h0_1 x0 (g169_h0_1 x0 (g170_h0_1 (g169_h0_1 x0 (g169_h0_1 x0 x1))))); have := q169 x0 (g169_h0_1 x0 (g170_h0_1 (g169_h0_1 x0 (g169_h0_1 x0 x1)))); have := q169 x0 (g170_h0_1 (g169_h0_1 x0 (g169_h0_1 x0 x1))); have := q170 (g169_h0_1 x0 (g169_h0_1 x0 x1)); have := q169 x0 (g169_h0_1 x0 x1); have := q169 x0 x1; omega)⟩⟩⟩⟩⟩)⟩)⟩⟩⟩)
theorem k150 : XHOk Try.prog 150 F150.ans := Hq.ok ⟨_, _, Try.func150, rfl, by kernel_rfl⟩ (by kernel_rfl) pc150
theorem q150 (x0 : Sl Int) (x1 : Int) (hU : U8 x0) : 0 ≤ x1 ∧ x1 ≤ 1000000000000000000 → 0 ≤ g150_h0_1 x0 x1 := fun h => by
  have a1 := q169 x0 x1 (by omega)
  have a2 := q169 x0 (g169_h0_1 x0 x1) (by omega)
  have a3 := q170 (g169_h0_1 x0 (g169_h0_1 x0 x1)) (by omega)
  have a4 := q169 x0 (g170_h0_1 (g169_h0_1 x0 (g169_h0_1 x0 x1))) (by omega)
  have a5 := q169 x0 (g169_h0_1 x0 (g170_h0_1 (g169_h0_1 x0 (g169_h0_1 x0 x1)))) (by omega)
  have a6 := q170 (g169_h0_1 x0 (g169_h0_1 x0 (g170_h0_1 (g169_h0_1 x0 (g169_h0_1 x0 x1))))) (by omega)
  unfold g150_h0_1
  cases ((g170 x0 (g169_h0_1 x0 (g169_h0_1 x0 x1))) != 0)
  · simp only [cond_false]
    cases ((g169 x0 (g170_h0_1 (g169_h0_1 x0 (g169_h0_1 x0 x1)))) == 0)
    · simp only [cond_false]
      generalize hp : g170_h0_1 (g169_h0_1 x0 (g169_h0_1 x0 (g170_h0_1 (g169_h0_1 x0 (g169_h0_1 x0 x1))))) = b at *
      have b1 := q172 x0 b hU (by omega)
      have b2 := q172 x0 (g172_h0_1 x0 b) hU (by omega)
      have b3 := q172 x0 (g172_h0_1 x0 (g172_h0_1 x0 b)) hU (by omega)
      have b4 := q169 x0 (g172_h0_1 x0 (g172_h0_1 x0 (g172_h0_1 x0 b))) (by omega)
      omega
    · simp only [cond_true]; omega
  · simp only [cond_true]; omega
noncomputable def g151_m1 (x0 : Bool) (x1 : Sl Int) (x2 : Int) : Bool := (bif (!x0) then true else (decide (x2 < (x1.n : Int))))
noncomputable def g151 (x0 : Bool) (x1 : Sl Int) (x2 : Int) : Int := (bif (g171 x1 x2) then 9 else (bif (g151_m1 x0 x1 x2) then 8 else 0))
noncomputable def F151 : Hq := ⟨[.p 0, .v kB], [(.h 0 0, .sl E5), (.h 0 1, kI)], [[U, U]], fun x0 x1 (x2 : Int) => ⟨⟨some (0 ≤ x2), [.int .i64 (g151 x0 x1 x2)], [[ofSl 1 e5 x1, .int .i64 x2]]⟩⟩⟩
theorem pc151 : HqOk Try.prog 151 F151 _ (F151.sh.flatMap Sh.bs) F151.f [] :=
  fun x0 x1 n1 (x2 : Int) hp => heap_of_exec (X := (mkXh 1 [] [(171, F171.ans)])) (R := ⟨.heap, [.tmp 4], [(.t 0, kI), (.h 0 0, .sl E5), (.h 0 1, kI)], ⟨[U], [[U, U]]⟩⟩) (h := (.s .z (.s .z (.s (.j ⟨1048592, [], [(.t 20, kB)], [], .f⟩ .z .z) .z)))) (ms := [.f, .l, .l]) (p := (0 ≤ x2)) (mkXh_ok trivial ⟨k171, trivial⟩) Try.func151 rfl rfl rfl (by kernel_rfl) ((by omega))
theorem k151 : XHOk Try.prog 151 F151.ans := Hq.ok ⟨_, _, Try.func151, rfl, by kernel_rfl⟩ (by kernel_rfl) pc151
noncomputable def g83_m1 (x0 : Sl Int) : Int := (bif ((g151 (g150_1 x0 0) x0 (g150_h0_1 x0 0)) == 0) then (g52 (g150_0_0 x0 0) (g150_0_1 x0 0) (g150_0_2 x0 0) (g150_0_3 x0 0) (g150_0_4 x0 0) (g150_0_5 x0 0) (g150_0_6 x0 0) (g150_0_7 x0 0) (g150_0_8 x0 0) (g150_0_9 x0 0)) else (g151 (g150_1 x0 0) x0 (g150_h0_1 x0 0)))
noncomputable def g83_0_0 (x0 : Sl Int) : Int := (bif (decide ((x0.n : Int) > 20000)) then 0 else (bif ((g83_m1 x0) != 0) then 0 else (g150_0_0 x0 0)))
noncomputable def g83_0_1 (x0 : Sl Int) : Int := (bif (decide ((x0.n : Int) > 20000)) then 0 else (bif ((g83_m1 x0) != 0) then 0 else (g150_0_1 x0 0)))
noncomputable def g83_0_2 (x0 : Sl Int) : Bool := (bif (decide ((x0.n : Int) > 20000)) then false else (bif ((g83_m1 x0) != 0) then false else (g150_0_2 x0 0)))
noncomputable def g83_0_3 (x0 : Sl Int) : Int := (bif (decide ((x0.n : Int) > 20000)) then 0 else (bif ((g83_m1 x0) != 0) then 0 else (g150_0_3 x0 0)))
noncomputable def g83_0_4 (x0 : Sl Int) : Int := (bif (decide ((x0.n : Int) > 20000)) then 0 else (bif ((g83_m1 x0) != 0) then 0 else (g150_0_4 x0 0)))
noncomputable def g83_0_5 (x0 : Sl Int) : Int := (bif (decide ((x0.n : Int) > 20000)) then 0 else (bif ((g83_m1 x0) != 0) then 0 else (g150_0_5 x0 0)))
noncomputable def g83_0_6 (x0 : Sl Int) : ByteArray := (bif (decide ((x0.n : Int) > 20000)) then ⟨#[]⟩ else (bif ((g83_m1 x0) != 0) then ⟨#[]⟩ else (g150_0_6 x0 0)))
noncomputable def g83_0_7 (x0 : Sl Int) : ByteArray := (bif (decide ((x0.n : Int) > 20000)) then ⟨#[]⟩ else (bif ((g83_m1 x0) != 0) then ⟨#[]⟩ else (g150_0_7 x0 0)))
noncomputable def g83_0_8 (x0 : Sl Int) : ByteArray := (bif (decide ((x0.n : Int) > 20000)) then ⟨#[]⟩ else (bif ((g83_m1 x0) != 0) then ⟨#[]⟩ else (g150_0_8 x0 0)))
noncomputable def g83_0_9 (x0 : Sl Int) : Int := (bif (decide ((x0.n : Int) > 20000)) then 0 else (bif ((g83_m1 x0) != 0) then 0 else (g150_0_9 x0 0)))
noncomputable def g83_1 (x0 : Sl Int) : Int := (bif (decide ((x0.n : Int) > 20000)) then 1 else (bif ((g83_m1 x0) != 0) then (g83_m1 x0) else 0))
noncomputable def F83 : Fq := ⟨[.v (.sl E5)], fun x0 => ⟨⟨some (U8 x0), .tup [.agg [.int .i64 (g83_0_0 x0), .int .i64 (g83_0_1 x0), .bool (g83_0_2 x0), .int .i64 (g83_0_3 x0), .int .i64 (g83_0_4 x0), .int .i64 (g83_0_5 x0), .str (g83_0_6 x0), .str (g83_0_7 x0), .str (g83_0_8 x0), .int .i64 (g83_0_9 x0)], .int .i64 (g83_1 x0)]⟩⟩⟩
theorem pc83 : FnOk Try.prog 83 F83.sh _ (F83.sh.flatMap Sh.bs) F83.f [] :=
  fun x0 n0 _ hp => pure_of_exec (X := (mkXh 0 [(52, F52.ans)] [(150, F150.ans), (151, F151.ans)])) (R := ⟨.pure, [.cell 2 68, .tmp 3], [(.c 0 0, kI), (.c 0 1, kI), (.c 0 2, kB), (.c 0 3, kI), (.c 0 4, kI), (.c 0 5, kI), (.c 0 6, kS), (.c 0 7, kS), (.c 0 8, kS), (.c 0 9, kI), (.t 1, kI)], ⟨[.agg (us 10 []), U], []⟩⟩) (h := (.s .z (.s .z (.s .z (.s .z (.s .z (.j ⟨172, [.b 1], [(.t 7, kI)], [], .f⟩ .z .z))))))) (ms := []) (p := ((decide ((x0.n : Int) > 20000)) = false → ((U8 x0 ∧ 0 ≤ (0 : Int) ∧ (0 : Int) ≤ 1000000000000000000) ∧ (0 ≤ (g150_h0_1 x0 0))))) (mkXh_ok ⟨k52, trivial⟩ ⟨k150, k151, trivial⟩) Try.func83 rfl rfl (by kernel_rfl) ((fun h1 => ⟨⟨(by repeat first | assumption | apply u205 | apply u161 | apply u167 | apply u164 | apply u227 | apply u202), (by have := of_decide_eq_false h1; omega)⟩, (by have := of_decide_eq_false h1; have := q150 x0 0 (by repeat first | assumption | apply u205 | apply u161 | apply u167 | apply u164 | apply u227 | apply u202); omega)⟩))
theorem k83 : XOk Try.prog 83 F83.ans := Fq.ok ⟨_, _, Try.func83, rfl, by kernel_rfl⟩ pc83
noncomputable def g82 (x0 : Sl Int) : Sl Int := x0
noncomputable def F82 : Fq := ⟨[.v (.sl E5)], fun x0 => ⟨⟨none, (Kd.blk E5).av (g82 x0)⟩⟩⟩
theorem pc82 : FnOk Try.prog 82 F82.sh _ (F82.sh.flatMap Sh.bs) F82.f [] :=
  fun x0 n0 _ => pure_of_exec (X := X0) (R := ⟨.own E5, [.tmp 2], [(.h 0 0, .blk E5)], ⟨[], []⟩⟩) (h := .z) (ms := []) (p := (x0.n ≤ 549755813888)) X0_ok Try.func82 rfl rfl (by kernel_rfl) ((by omega))
theorem k82 : XOk Try.prog 82 F82.ans := Fq.ok ⟨_, _, Try.func82, rfl, by kernel_rfl⟩ pc82
noncomputable def g23_m1 (x0 : Sl Int) : Bool := (bif ((g81_1 (g82 x0)) == (g83_1 x0)) then (((g81_0_0 (g82 x0)) == (g83_0_0 x0)) && (((g81_0_1 (g82 x0)) == (g83_0_1 x0)) && (((g81_0_2 (g82 x0)) == (g83_0_2 x0)) && (((g81_0_3 (g82 x0)) == (g83_0_3 x0)) && (((g81_0_4 (g82 x0)) == (g83_0_4 x0)) && (((g81_0_5 (g82 x0)) == (g83_0_5 x0)) && ((((g81_0_6 (g82 x0)) : ByteArray).toList == ((g83_0_6 x0) : ByteArray).toList) && ((((g81_0_7 (g82 x0)) : ByteArray).toList == ((g83_0_7 x0) : ByteArray).toList) && ((((g81_0_8 (g82 x0)) : ByteArray).toList == ((g83_0_8 x0) : ByteArray).toList) && (((g81_0_9 (g82 x0)) == (g83_0_9 x0)) && true)))))))))) else false)
noncomputable def g23 (x0 : Sl Int) : Bool := (g23_m1 x0)
noncomputable def F23 : Fq := ⟨[.v (.sl E5)], fun x0 => ⟨⟨some (U8 x0), .bool (g23 x0)⟩⟩⟩
theorem pc23 : FnOk Try.prog 23 F23.sh _ (F23.sh.flatMap Sh.bs) F23.f [] :=
  fun x0 _ _ hp => pure_of_exec (X := (mkX [(81, F81.ans), (82, F82.ans), (83, F83.ans)])) (R := ⟨.pure, [.tmp 2], [(.t 0, kB)], ⟨[U], []⟩⟩) (h := (.s .z (.s .z (.s .z (.j ⟨4, [.b 0, .b 1, .b 2], [(.t 2, kB)], [], .f⟩ .z .z))))) (ms := []) (p := ((U8 (g82 x0)) ∧ (U8 x0))) (mkX_ok ⟨k81, k82, k83, trivial⟩) Try.func23 rfl rfl (by kernel_rfl) (⟨(by repeat first | assumption | apply u205 | apply u161 | apply u167 | apply u164 | apply u227 | apply u202), (by repeat first | assumption | apply u205 | apply u161 | apply u167 | apply u164 | apply u227 | apply u202)⟩)
theorem k23 : XOk Try.prog 23 F23.ans := Fq.ok ⟨_, _, Try.func23, rfl, by kernel_rfl⟩ pc23
end Go.Proofs.Ytchhfojblmceiaa
