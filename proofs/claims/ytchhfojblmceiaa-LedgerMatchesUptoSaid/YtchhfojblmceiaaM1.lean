/-
  Walks: what functions of the program answer, as functions.
-/
import Derived.Test.YtchhfojblmceiaaCl
import Derived.Test.YtchhfojblmceiaaEc
import Derived.Test.YtchhfojblmceiaaY0
import Derived.Test.YtchhfojblmceiaaY1
import Derived.Test.YtchhfojblmceiaaYr
import Derived.Test.YtchhfojblmceiaaY2
namespace Go.Proofs.Ytchhfojblmceiaa
open Go Go.Vc Go.RowKit
set_option maxRecDepth 100000
set_option maxHeartbeats 4000000
noncomputable def g53_m1 (x0 : Int) (x1 : Int) (x2 : Sl T68) : Bool := (bif (decide (x0 < 0)) then true else (bif (decide (x1 < 0)) then true else (bif (decide (x1 > 1048576)) then true else (bif (!((x0 == 0) == (x1 == 0))) then true else (bif (decide ((x2.n : Int) > 200)) then true else (decide (x0 > (IntKind.i64.wrap (1048576 - (x2.n : Int))))))))))
noncomputable def g53_m2 (x2 : Sl T68) (v8_2 : Int) : Bool := (bif ((g51 (x2.at' (Int.toNat v8_2)).c0 (x2.at' (Int.toNat v8_2)).c1 (x2.at' (Int.toNat v8_2)).c2 (x2.at' (Int.toNat v8_2)).c3 (x2.at' (Int.toNat v8_2)).c4 (x2.at' (Int.toNat v8_2)).c5 (x2.at' (Int.toNat v8_2)).c6 (x2.at' (Int.toNat v8_2)).c7 (x2.at' (Int.toNat v8_2)).c8 (x2.at' (Int.toNat v8_2)).c9) != 0) then true else false)
noncomputable def g53_m3 (x2 : Sl T68) (v8_0 : Int) (v8_2 : Int) : Bool := (bif ((g51 (x2.at' (Int.toNat v8_2)).c0 (x2.at' (Int.toNat v8_2)).c1 (x2.at' (Int.toNat v8_2)).c2 (x2.at' (Int.toNat v8_2)).c3 (x2.at' (Int.toNat v8_2)).c4 (x2.at' (Int.toNat v8_2)).c5 (x2.at' (Int.toNat v8_2)).c6 (x2.at' (Int.toNat v8_2)).c7 (x2.at' (Int.toNat v8_2)).c8 (x2.at' (Int.toNat v8_2)).c9) != 0) then true else (decide ((x2.at' (Int.toNat v8_2)).c0 < v8_0)))
noncomputable def g53_m4 (x2 : Sl T68) (v8_0 : Int) (v8_2 : Int) : Bool := (bif ((g51 (x2.at' (Int.toNat v8_2)).c0 (x2.at' (Int.toNat v8_2)).c1 (x2.at' (Int.toNat v8_2)).c2 (x2.at' (Int.toNat v8_2)).c3 (x2.at' (Int.toNat v8_2)).c4 (x2.at' (Int.toNat v8_2)).c5 (x2.at' (Int.toNat v8_2)).c6 (x2.at' (Int.toNat v8_2)).c7 (x2.at' (Int.toNat v8_2)).c8 (x2.at' (Int.toNat v8_2)).c9) != 0) then true else (bif (decide ((x2.at' (Int.toNat v8_2)).c0 < v8_0)) then true else false))
noncomputable def g53_m5 (x2 : Sl T68) (v8_0 : Int) (v8_1 : Int) (v8_2 : Int) : Bool := (bif ((g51 (x2.at' (Int.toNat v8_2)).c0 (x2.at' (Int.toNat v8_2)).c1 (x2.at' (Int.toNat v8_2)).c2 (x2.at' (Int.toNat v8_2)).c3 (x2.at' (Int.toNat v8_2)).c4 (x2.at' (Int.toNat v8_2)).c5 (x2.at' (Int.toNat v8_2)).c6 (x2.at' (Int.toNat v8_2)).c7 (x2.at' (Int.toNat v8_2)).c8 (x2.at' (Int.toNat v8_2)).c9) != 0) then true else (bif (decide ((x2.at' (Int.toNat v8_2)).c0 < v8_0)) then true else (decide ((x2.at' (Int.toNat v8_2)).c1 < v8_1))))
noncomputable def g53_l8 (x2 : Sl T68) : Nat → Int → Int → Int → Bool × Int
  | 0, _, _, _ => default
  | k + 1, v8_0, v8_1, v8_2 => (bif (decide (v8_2 < (x2.n : Int))) then (bif (g53_m5 x2 v8_0 v8_1 v8_2) then (true, 13) else (g53_l8 x2 k (x2.at' (Int.toNat v8_2)).c0 (x2.at' (Int.toNat v8_2)).c1 (IntKind.i64.wrap (v8_2 + 1)))) else (false, default))
noncomputable def g53_r6 (x1 : Int) (x2 : Sl T68) : Bool × Int := g53_l8 x2 ((Int.toNat ((x2.n : Int) - 0)) + 1) x1 0 0
noncomputable def g53_p7 (x1 : Int) (x2 : Sl T68) : Bool := (bif (g53_r6 x1 x2).1 then false else true)
noncomputable def g53 (x0 : Int) (x1 : Int) (x2 : Sl T68) : Int := (bif (g53_m1 x0 x1 x2) then 13 else (bif (g53_p7 x1 x2) then 0 else (g53_r6 x1 x2).2))
noncomputable def F53 : Fq := ⟨[.g [kI, kI, .sl E68]], fun x0 x1 x2 => ⟨⟨none, .int .i64 (g53 x0 x1 x2)⟩⟩⟩
theorem pc53 : FnOk Try.prog 53 F53.sh _ (F53.sh.flatMap Sh.bs) F53.f [] :=
  fun (x0 : Int) (x1 : Int) x2 n2 _ => pure_of_exec (X := (mkX [(51, F51.ans)])) (R := ⟨.pure, [.tmp 2], [(.t 0, kI)], ⟨[U], []⟩⟩) (h := (.s .z (.s (.j ⟨8796093022214, [], [(.t 43, kB)], [], .f⟩ .z .z) (.s .z (.j ⟨4, [], [], [], .f⟩ (.s .z (.lp ⟨985162418487324, [.b 0], [], [(.t 3, kI), (.t 4, kI), (.t 49, kI)], some 0, true, 4, [], [], fun k (s : Int × Int × Int) => g53_l8 x2 k s.1 s.2.1 s.2.2, .f, fun (s : Int × Int × Int) => (0 ≤ s.2.2 ∧ s.2.2 ≤ (x2.n : Int)), fun (s : Int × Int × Int) => (Int.toNat ((x2.n : Int) - s.2.2)), none⟩ (.s .z (.s .z (.s (.s .z (.s (.j ⟨154635456067904995420, [], [(.t 56, kB), (.t 61, kB), (.t 62, kB), (.t 67, kB)], [(.b .f .l), (.b .f .l), .f, .f], .f⟩ .z .z) .z)) .z))))) .z))))) (ms := []) (p := ((g53_m1 x0 x1 x2) = false → (((0 ≤ (0 : Int) ∧ (0 : Int) ≤ (x2.n : Int))) ∧ (∀ (v8_0 : Int) (v8_1 : Int) (v8_2 : Int), (0 ≤ v8_2 ∧ v8_2 ≤ (x2.n : Int)) → (((decide (v8_2 < (x2.n : Int))) = true → (0 ≤ v8_2 ∧ v8_2 < ((x2.n : Nat) : Int))) ∧ ((decide (v8_2 < (x2.n : Int))) = true → ((g53_m5 x2 v8_0 v8_1 v8_2) = false → ((0 ≤ (IntKind.i64.wrap (v8_2 + 1)) ∧ (IntKind.i64.wrap (v8_2 + 1)) ≤ (x2.n : Int)) ∧ (Int.toNat ((x2.n : Int) - (IntKind.i64.wrap (v8_2 + 1)))) < (Int.toNat ((x2.n : Int) - v8_2)))))))))) (mkX_ok ⟨k51, trivial⟩) Try.func53 rfl rfl (by kernel_rfl) ((fun h1 => ⟨(by have := h1; simp [g53_m1] at this; omega), (fun v8_0 v8_1 v8_2 hI2 => ⟨(fun h3 => (by have := h1; simp [g53_m1] at this; have := of_decide_eq_true h3; omega)), (fun h4 => (fun h5 => (by have := h1; simp [g53_m1] at this; have := of_decide_eq_true h4; have := h5; simp [g53_m5] at this; first | omega | (have := wrap64 (x := (v8_2 + 1)) (by omega) (by omega); omega))))⟩)⟩))
theorem k53 : XOk Try.prog 53 F53.ans := Fq.ok ⟨_, _, Try.func53, rfl, by kernel_rfl⟩ pc53
theorem chk53 (x0 x1 : Int) (x2 : Sl T68) (h : g53 x0 x1 x2 = 0) : (0 ≤ x0 ∧ x0 ≤ 1048576) ∧ (0 ≤ x1 ∧ x1 ≤ 1048576) ∧ x2.n ≤ 200 ∧ x0 + x2.n ≤ 1048576 := by
  unfold g53 at h
  cases hm : g53_m1 x0 x1 x2 with
  | true => rw [hm] at h; simp at h
  | false =>
    simp [g53_m1] at hm
    have := wrap64 (x := 1048576 - (x2.n : Int)) (by omega) (by omega)
    omega
noncomputable def g124_0 (x0 : Int) (x2 : Sl T68) : Int := (bif (decide ((x2.n : Int) > 0)) then (IntKind.i64.wrap (x0 + (x2.n : Int))) else x0)
noncomputable def g124_1 (x1 : Int) (x2 : Sl T68) : Int := (bif (decide ((x2.n : Int) > 0)) then (x2.at' (Int.toNat (IntKind.i64.wrap ((x2.n : Int) - 1)))).c0 else x1)
noncomputable def F124 : Fq := ⟨[.g [kI, kI, .sl E68]], fun x0 x1 x2 => ⟨⟨none, .tup [.int .i64 (g124_0 x0 x2), .int .i64 (g124_1 x1 x2)]⟩⟩⟩
theorem pc124 : FnOk Try.prog 124 F124.sh _ (F124.sh.flatMap Sh.bs) F124.f [] :=
  fun (x0 : Int) (x1 : Int) x2 n2 _ => pure_of_exec (X := X0) (R := ⟨.pure, [.tmp 2, .tmp 3], [(.t 0, kI), (.t 1, kI)], ⟨[U, U], []⟩⟩) (h := .z) (ms := []) (p := ((decide ((x2.n : Int) > 0)) = true → (0 ≤ (IntKind.i64.wrap ((x2.n : Int) - 1)) ∧ (IntKind.i64.wrap ((x2.n : Int) - 1)) < ((x2.n : Nat) : Int)))) X0_ok Try.func124 rfl rfl (by kernel_rfl) ((fun h1 => (by have := of_decide_eq_true h1; first | omega | (have := wrap64 (x := ((x2.n : Int) - 1)) (by omega) (by omega); omega))))
theorem k124 : XOk Try.prog 124 F124.ans := Fq.ok ⟨_, _, Try.func124, rfl, by kernel_rfl⟩ pc124
noncomputable def g58_0 (x0 : Int) (x1 : Int) (x2 : Sl T68) : Int := (bif ((g53 x0 x1 x2) != 0) then 0 else (g124_0 x0 x2))
noncomputable def g58_1 (x0 : Int) (x1 : Int) (x2 : Sl T68) : Int := (bif ((g53 x0 x1 x2) != 0) then 0 else (g124_1 x1 x2))
noncomputable def g58_2 (x0 : Int) (x1 : Int) (x2 : Sl T68) : Int := (bif ((g53 x0 x1 x2) != 0) then (g53 x0 x1 x2) else 0)
noncomputable def F58 : Fq := ⟨[.g [kI, kI, .sl E68]], fun x0 x1 x2 => ⟨⟨none, .tup [.int .i64 (g58_0 x0 x1 x2), .int .i64 (g58_1 x0 x1 x2), .int .i64 (g58_2 x0 x1 x2)]⟩⟩⟩
theorem pc58 : FnOk Try.prog 58 F58.sh _ (F58.sh.flatMap Sh.bs) F58.f [] :=
  fun (x0 : Int) (x1 : Int) x2 _ _ => pure_of_exec (X := (mkX [(53, F53.ans), (124, F124.ans)])) (R := ⟨.pure, [.tmp 2, .tmp 3, .tmp 4], [(.t 0, kI), (.t 1, kI), (.t 2, kI)], ⟨[U, U, U], []⟩⟩) (h := .z) (ms := []) (p := True) (mkX_ok ⟨k53, k124, trivial⟩) Try.func58 rfl rfl (by kernel_rfl) (trivial)
theorem k58 : XOk Try.prog 58 F58.ans := Fq.ok ⟨_, _, Try.func58, rfl, by kernel_rfl⟩ pc58
noncomputable def g125 (x0 : Int) (x2 : Sl T68) : Int := (IntKind.i64.wrap (x0 + (x2.n : Int)))
noncomputable def F125 : Fq := ⟨[.g [kI, kI, .sl E68]], fun x0 _ x2 => ⟨⟨none, .int .i64 (g125 x0 x2)⟩⟩⟩
theorem pc125 : FnOk Try.prog 125 F125.sh _ (F125.sh.flatMap Sh.bs) F125.f [] :=
  fun (x0 : Int) (x1 : Int) x2 _ _ => pure_of_exec (X := X0) (R := ⟨.pure, [.tmp 2], [(.t 0, kI)], ⟨[U], []⟩⟩) (h := .z) (ms := []) (p := True) X0_ok Try.func125 rfl rfl (by kernel_rfl) (trivial)
theorem k125 : XOk Try.prog 125 F125.ans := Fq.ok ⟨_, _, Try.func125, rfl, by kernel_rfl⟩ pc125
theorem e125i (x0 : Int) (x2 : Sl T68) : (0 ≤ x0 ∧ x0 ≤ 1048576) ∧ x2.n ≤ 549755813888 → g125 x0 x2 = x0 + (x2.n : Int) := fun h => by
  unfold g125; exact wrap64 (by omega) (by omega)
theorem e125 (x0 : Int) (x2 : Sl T68) (h1 : 0 ≤ x0) (h2 : x0 ≤ 1048576) (h3 : x2.n ≤ 549755813888) : g125 x0 x2 = x0 + (x2.n : Int) := by
  unfold g125; exact wrap64 (by omega) (by omega)
noncomputable def g126 (x0 : Int) (x1 : Int) (x2 : Sl T68) (x3 : Int) : Int := (bif (decide (x3 < x0)) then (-1) else (bif (decide (x3 > (g125 x0 x2))) then (-2) else (bif (x3 == x0) then x1 else (x2.at' (Int.toNat (IntKind.i64.wrap ((IntKind.i64.wrap (x3 - x0)) - 1)))).c0)))
noncomputable def F126 : Fq := ⟨[.g [kI, kI, .sl E68], .v kI], fun (x0 : Int) (x1 : Int) x2 (x3 : Int) => ⟨⟨some (0 ≤ x0 ∧ x0 ≤ 1048576), .int .i64 (g126 x0 x1 x2 x3)⟩⟩⟩
theorem pc126 : FnOk Try.prog 126 F126.sh _ (F126.sh.flatMap Sh.bs) F126.f [] :=
  fun (x0 : Int) (x1 : Int) x2 n2 _ (x3 : Int) hp => pure_of_exec (X := (mkX [(125, F125.ans)])) (R := ⟨.pure, [.tmp 4], [(.t 0, kI)], ⟨[U], []⟩⟩) (h := .z) (ms := []) (p := ((decide (x3 < x0)) = false → ((decide (x3 > (g125 x0 x2))) = false → ((x3 == x0) = false → (0 ≤ (IntKind.i64.wrap ((IntKind.i64.wrap (x3 - x0)) - 1)) ∧ (IntKind.i64.wrap ((IntKind.i64.wrap (x3 - x0)) - 1)) < ((x2.n : Nat) : Int)))))) (mkX_ok ⟨k125, trivial⟩) Try.func126 rfl rfl (by kernel_rfl) (have ⟨hq0, hq1⟩ := hp; (fun h1 => (fun h2 => (fun h3 => (by have := of_decide_eq_false h1; have := of_decide_eq_false h2; have := ne_of_beq_false h3; have := e125 x0 x2 (by omega) (by omega) (by omega); first | omega | (have := wrap64 (x := (x3 - x0)) (by omega) (by omega); have := wrap64 (x := ((IntKind.i64.wrap (x3 - x0)) - 1)) (by omega) (by omega); omega))))))
theorem k126 : XOk Try.prog 126 F126.ans := Fq.ok ⟨_, _, Try.func126, rfl, by kernel_rfl⟩ pc126
theorem chk126 (x0 x1 : Int) (x2 : Sl T68) (x3 : Int) : (g126 x0 x1 x2 x3 ≠ -1 ∧ g126 x0 x1 x2 x3 ≠ -2) ∧ (0 ≤ x0 ∧ x0 ≤ 1048576) ∧ x2.n ≤ 549755813888 → (x0 ≤ x3 ∧ x3 ≤ x0 + (x2.n : Int)) ∧ g125 x0 x2 = x0 + (x2.n : Int) := fun ⟨⟨h1, h2⟩, h3, h4⟩ => by
  have e := e125 x0 x2 h3.1 h3.2 h4
  simp only [g126, e] at h1 h2
  refine ⟨?_, e⟩
  by_cases a : x3 < x0
  · simp [a] at h1
  · by_cases b : x3 > x0 + (x2.n : Int)
    · simp [a, b] at h2
    · omega
noncomputable def g59_0 (x0 : Int) (x1 : Int) (x2 : Sl T68) : Int := (bif ((g55 x0 x1 x2) != 0) then 0 else (g125 x0 x2))
noncomputable def g59_1 (x0 : Int) (x1 : Int) (x2 : Sl T68) : Int := (bif ((g55 x0 x1 x2) != 0) then 0 else (g126 x0 x1 x2 (g125 x0 x2)))
noncomputable def g59_2 (x0 : Int) (x1 : Int) (x2 : Sl T68) : Int := (bif ((g55 x0 x1 x2) != 0) then (g55 x0 x1 x2) else 0)
noncomputable def F59 : Fq := ⟨[.g [kI, kI, .sl E68]], fun x0 x1 x2 => ⟨⟨none, .tup [.int .i64 (g59_0 x0 x1 x2), .int .i64 (g59_1 x0 x1 x2), .int .i64 (g59_2 x0 x1 x2)]⟩⟩⟩
theorem pc59 : FnOk Try.prog 59 F59.sh _ (F59.sh.flatMap Sh.bs) F59.f [] :=
  fun (x0 : Int) (x1 : Int) x2 n2 _ => pure_of_exec (X := (mkX [(55, F55.ans), (125, F125.ans), (126, F126.ans)])) (R := ⟨.pure, [.tmp 2, .tmp 3, .tmp 4], [(.t 0, kI), (.t 1, kI), (.t 2, kI)], ⟨[U, U, U], []⟩⟩) (h := .z) (ms := []) (p := (((g55 x0 x1 x2) != 0) = false → (0 ≤ x0 ∧ x0 ≤ 1048576))) (mkX_ok ⟨k55, k125, k126, trivial⟩) Try.func59 rfl rfl (by kernel_rfl) ((fun h1 => (by have := chk55 _ _ _ (bne_eq_false_iff_eq.1 h1); omega)))
theorem k59 : XOk Try.prog 59 F59.ans := Fq.ok ⟨_, _, Try.func59, rfl, by kernel_rfl⟩ pc59
noncomputable def g60_m1 (x0 : Int) (x1 : Int) (x2 : Sl T68) (x3 : Int) (x4 : Int) : Bool := (bif (decide (x4 > (g124_1 x1 x2))) then true else (bif (x4 == (g124_1 x1 x2)) then (decide (x3 ≥ (g124_0 x0 x2))) else false))
noncomputable def g60_0 (x0 : Int) (x1 : Int) (x2 : Sl T68) (x3 : Int) (x4 : Int) : Bool := (bif ((g53 x0 x1 x2) != 0) then false else (g60_m1 x0 x1 x2 x3 x4))
noncomputable def g60_1 (x0 : Int) (x1 : Int) (x2 : Sl T68) : Int := (bif ((g53 x0 x1 x2) != 0) then (g53 x0 x1 x2) else 0)
noncomputable def F60 : Fq := ⟨[.g [kI, kI, .sl E68], .v kI, .v kI], fun x0 x1 x2 x3 x4 => ⟨⟨none, .tup [.bool (g60_0 x0 x1 x2 x3 x4), .int .i64 (g60_1 x0 x1 x2)]⟩⟩⟩
theorem pc60 : FnOk Try.prog 60 F60.sh _ (F60.sh.flatMap Sh.bs) F60.f [] :=
  fun (x0 : Int) (x1 : Int) x2 _ _ (x3 : Int) (x4 : Int) => pure_of_exec (X := (mkX [(53, F53.ans), (124, F124.ans)])) (R := ⟨.pure, [.tmp 6, .tmp 7], [(.t 0, kB), (.t 1, kI)], ⟨[U, U], []⟩⟩) (h := (.s .z (.s .z (.s .z (.j ⟨192, [.b 0], [(.t 6, kB)], [], .f⟩ .z .z))))) (ms := []) (p := True) (mkX_ok ⟨k53, k124, trivial⟩) Try.func60 rfl rfl (by kernel_rfl) (trivial)
theorem k60 : XOk Try.prog 60 F60.ans := Fq.ok ⟨_, _, Try.func60, rfl, by kernel_rfl⟩ pc60
noncomputable def g61_0 (x0 : Int) (x1 : Int) (x2 : Sl T68) (x3 : Int) (x4 : Int) : Bool := (bif ((g55 x0 x1 x2) != 0) then false else (bif (x4 != (g126 x0 x1 x2 (g125 x0 x2))) then (decide (x4 > (g126 x0 x1 x2 (g125 x0 x2)))) else (decide (x3 ≥ (g125 x0 x2)))))
noncomputable def g61_1 (x0 : Int) (x1 : Int) (x2 : Sl T68) : Int := (bif ((g55 x0 x1 x2) != 0) then (g55 x0 x1 x2) else 0)
noncomputable def F61 : Fq := ⟨[.g [kI, kI, .sl E68], .v kI, .v kI], fun x0 x1 x2 x3 x4 => ⟨⟨none, .tup [.bool (g61_0 x0 x1 x2 x3 x4), .int .i64 (g61_1 x0 x1 x2)]⟩⟩⟩
theorem pc61 : FnOk Try.prog 61 F61.sh _ (F61.sh.flatMap Sh.bs) F61.f [] :=
  fun (x0 : Int) (x1 : Int) x2 n2 _ (x3 : Int) (x4 : Int) => pure_of_exec (X := (mkX [(55, F55.ans), (125, F125.ans), (126, F126.ans)])) (R := ⟨.pure, [.tmp 6, .tmp 7], [(.t 0, kB), (.t 1, kI)], ⟨[U, U], []⟩⟩) (h := .z) (ms := [.f, (.b .f .l)]) (p := (((g55 x0 x1 x2) != 0) = false → (0 ≤ x0 ∧ x0 ≤ 1048576))) (mkX_ok ⟨k55, k125, k126, trivial⟩) Try.func61 rfl rfl (by kernel_rfl) ((fun h1 => (by have := chk55 _ _ _ (bne_eq_false_iff_eq.1 h1); omega)))
theorem k61 : XOk Try.prog 61 F61.ans := Fq.ok ⟨_, _, Try.func61, rfl, by kernel_rfl⟩ pc61
noncomputable def g127_0 (x0 : Int) (x1 : Int) (x2 : Sl T68) (x3 : Int) : Int := (bif (decide (x3 < x0)) then 0 else (bif (x3 == x0) then x1 else (bif (decide ((IntKind.i64.wrap (x3 - x0)) > (x2.n : Int))) then 0 else (x2.at' (Int.toNat (IntKind.i64.wrap ((IntKind.i64.wrap (x3 - x0)) - 1)))).c0)))
noncomputable def g127_1 (x0 : Int) (x2 : Sl T68) (x3 : Int) : Int := (bif (decide (x3 < x0)) then 11 else (bif (x3 == x0) then 0 else (bif (decide ((IntKind.i64.wrap (x3 - x0)) > (x2.n : Int))) then 5 else 0)))
noncomputable def F127 : Fq := ⟨[.g [kI, kI, .sl E68], .v kI], fun (x0 : Int) (x1 : Int) x2 (x3 : Int) => ⟨⟨some (0 ≤ x0 ∧ x0 ≤ 1048576 ∧ x3 ≤ 9223372036854775807), .tup [.int .i64 (g127_0 x0 x1 x2 x3), .int .i64 (g127_1 x0 x2 x3)]⟩⟩⟩
theorem pc127 : FnOk Try.prog 127 F127.sh _ (F127.sh.flatMap Sh.bs) F127.f [] :=
  fun (x0 : Int) (x1 : Int) x2 n2 _ (x3 : Int) hp => pure_of_exec (X := X0) (R := ⟨.pure, [.tmp 4, .tmp 5], [(.t 0, kI), (.t 1, kI)], ⟨[U, U], []⟩⟩) (h := .z) (ms := []) (p := ((decide (x3 < x0)) = false → ((x3 == x0) = false → ((decide ((IntKind.i64.wrap (x3 - x0)) > (x2.n : Int))) = false → (0 ≤ (IntKind.i64.wrap ((IntKind.i64.wrap (x3 - x0)) - 1)) ∧ (IntKind.i64.wrap ((IntKind.i64.wrap (x3 - x0)) - 1)) < ((x2.n : Nat) : Int)))))) X0_ok Try.func127 rfl rfl (by kernel_rfl) (have ⟨hq0, hq1, hq2⟩ := hp; (fun h1 => (fun h2 => (fun h3 => (by have := of_decide_eq_false h1; have := ne_of_beq_false h2; have := of_decide_eq_false h3; first | omega | (have := wrap64 (x := (x3 - x0)) (by omega) (by omega); have := wrap64 (x := ((IntKind.i64.wrap (x3 - x0)) - 1)) (by omega) (by omega); omega))))))
theorem k127 : XOk Try.prog 127 F127.ans := Fq.ok ⟨_, _, Try.func127, rfl, by kernel_rfl⟩ pc127
theorem chk127 (x0 : Int) (x2 : Sl T68) (x3 : Int) : g127_1 x0 x2 x3 = 0 ∧ (0 ≤ x0 ∧ x0 ≤ 1048576) ∧ x2.n ≤ 549755813888 ∧ x3 ≤ 9223372036854775807 → x0 ≤ x3 ∧ x3 ≤ x0 + (x2.n : Int) := fun ⟨h1, h3, h4, h5⟩ => by
  simp only [g127_1] at h1
  by_cases a : x3 < x0
  · simp [a] at h1
  · rw [wrap64 (x := x3 - x0) (by omega) (by omega)] at h1
    by_cases b : x3 = x0
    · omega
    · by_cases c : x3 - x0 > (x2.n : Int)
      · rw [beq_eq_false_iff_ne.2 b] at h1
        simp [a, c] at h1
      · omega
noncomputable def g62_m1 (x3 : Int) : Bool := (bif (decide (x3 < 0)) then true else (decide (x3 > 1048576)))
noncomputable def g62_0 (x0 : Int) (x1 : Int) (x2 : Sl T68) (x3 : Int) : Int := (bif ((g53 x0 x1 x2) != 0) then 0 else (bif (g62_m1 x3) then 0 else (g127_0 x0 x1 x2 x3)))
noncomputable def g62_1 (x0 : Int) (x1 : Int) (x2 : Sl T68) (x3 : Int) : Int := (bif ((g53 x0 x1 x2) != 0) then (g53 x0 x1 x2) else (bif (g62_m1 x3) then 2 else (g127_1 x0 x2 x3)))
noncomputable def F62 : Fq := ⟨[.g [kI, kI, .sl E68], .v kI], fun x0 x1 x2 x3 => ⟨⟨none, .tup [.int .i64 (g62_0 x0 x1 x2 x3), .int .i64 (g62_1 x0 x1 x2 x3)]⟩⟩⟩
theorem pc62 : FnOk Try.prog 62 F62.sh _ (F62.sh.flatMap Sh.bs) F62.f [] :=
  fun (x0 : Int) (x1 : Int) x2 n2 _ (x3 : Int) => pure_of_exec (X := (mkX [(53, F53.ans), (127, F127.ans)])) (R := ⟨.pure, [.tmp 4, .tmp 5], [(.t 0, kI), (.t 1, kI)], ⟨[U, U], []⟩⟩) (h := (.s .z (.s .z (.s (.j ⟨131126, [], [(.t 17, kB)], [], .f⟩ .z .z) .z)))) (ms := []) (p := (((g53 x0 x1 x2) != 0) = false → ((g62_m1 x3) = false → (0 ≤ x0 ∧ x0 ≤ 1048576 ∧ x3 ≤ 9223372036854775807)))) (mkX_ok ⟨k53, k127, trivial⟩) Try.func62 rfl rfl (by kernel_rfl) ((fun h1 => (fun h2 => (by have := chk53 _ _ _ (bne_eq_false_iff_eq.1 h1); have := h2; simp [g62_m1] at this; omega))))
theorem k62 : XOk Try.prog 62 F62.ans := Fq.ok ⟨_, _, Try.func62, rfl, by kernel_rfl⟩ pc62
noncomputable def g63_m1 (x0 : Int) (x1 : Int) (x2 : Sl T68) (x3 : Int) : Bool := (bif ((g55 x0 x1 x2) == 0) then (!(g112 x3 0 1048576)) else false)
noncomputable def g63_m2 (x0 : Int) (x1 : Int) (x2 : Sl T68) (x3 : Int) : Int := (bif (g63_m1 x0 x1 x2 x3) then 2 else (g55 x0 x1 x2))
noncomputable def g63_0 (x0 : Int) (x1 : Int) (x2 : Sl T68) (x3 : Int) : Int := (bif ((g63_m2 x0 x1 x2 x3) != 0) then 0 else (bif ((g126 x0 x1 x2 x3) == (-1)) then 0 else (bif ((g126 x0 x1 x2 x3) == (-2)) then 0 else (g126 x0 x1 x2 x3))))
noncomputable def g63_1 (x0 : Int) (x1 : Int) (x2 : Sl T68) (x3 : Int) : Int := (bif ((g63_m2 x0 x1 x2 x3) != 0) then (g63_m2 x0 x1 x2 x3) else (bif ((g126 x0 x1 x2 x3) == (-1)) then 11 else (bif ((g126 x0 x1 x2 x3) == (-2)) then 5 else 0)))
theorem f63 (x0 x1 : Int) (x2 : Sl T68) (x3 : Int) (h : g63_m2 x0 x1 x2 x3 = 0) : (0 ≤ x0 ∧ x0 ≤ 1048576) ∧ x2.n ≤ 200 ∧ 0 ≤ x3 ∧ x3 ≤ 1048576 := by
  unfold g63_m2 at h
  cases hm : g63_m1 x0 x1 x2 x3 with
  | true => rw [hm] at h; simp at h
  | false =>
    rw [hm] at h
    have h55 : g55 x0 x1 x2 = 0 := h
    have := chk55 x0 x1 x2 h55
    unfold g63_m1 at hm
    simp [h55, g112, g112_m1] at hm
    omega
noncomputable def F63 : Fq := ⟨[.g [kI, kI, .sl E68], .v kI], fun x0 x1 x2 x3 => ⟨⟨none, .tup [.int .i64 (g63_0 x0 x1 x2 x3), .int .i64 (g63_1 x0 x1 x2 x3)]⟩⟩⟩
theorem pc63 : FnOk Try.prog 63 F63.sh _ (F63.sh.flatMap Sh.bs) F63.f [] :=
  fun (x0 : Int) (x1 : Int) x2 n2 _ (x3 : Int) => pure_of_exec (X := (mkX [(55, F55.ans), (112, F112.ans), (126, F126.ans)])) (R := ⟨.pure, [.tmp 4, .tmp 5], [(.t 0, kI), (.t 1, kI)], ⟨[U, U], []⟩⟩) (h := (.s .z (.s .z (.j ⟨118, [], [(.t 6, kI)], [], .f⟩ (.j ⟨65654, [], [(.t 16, kB)], [], .f⟩ .z .z) .z)))) (ms := []) (p := (((g63_m2 x0 x1 x2 x3) != 0) = false → (0 ≤ x0 ∧ x0 ≤ 1048576))) (mkX_ok ⟨k55, k112, k126, trivial⟩) Try.func63 rfl rfl (by kernel_rfl) ((fun h1 => (by have := f63 _ _ _ _ (bne_eq_false_iff_eq.1 h1); omega)))
theorem k63 : XOk Try.prog 63 F63.ans := Fq.ok ⟨_, _, Try.func63, rfl, by kernel_rfl⟩ pc63
theorem f63_1 (x0 x1 : Int) (x2 : Sl T68) (x3 : Int) : g63_1 x0 x1 x2 x3 = 0 → ((0 ≤ x0 ∧ x0 ≤ 1048576) ∧ x2.n ≤ 200 ∧ x0 + (x2.n : Int) ≤ 1048576) ∧ x0 ≤ x3 ∧ x3 ≤ x0 + (x2.n : Int) := fun h => by
  simp only [g63_1] at h
  cases hm : (g63_m2 x0 x1 x2 x3 != 0) with
  | true =>
    rw [hm] at h
    simp only [cond_true] at h
    rw [h] at hm; simp at hm
  | false =>
    have hz := bne_eq_false_iff_eq.1 hm
    have c := f63 x0 x1 x2 x3 hz
    have h55 : g55 x0 x1 x2 = 0 := by
      unfold g63_m2 at hz
      cases hb : g63_m1 x0 x1 x2 x3 with
      | true => rw [hb] at hz; simp at hz
      | false => rw [hb] at hz; exact hz
    have k := chk55 x0 x1 x2 h55
    rw [hm] at h
    simp only [cond_false] at h
    cases ha : (g126 x0 x1 x2 x3 == -1) with
    | true => rw [ha] at h; simp at h
    | false =>
      cases hb : (g126 x0 x1 x2 x3 == -2) with
      | true => rw [ha, hb] at h; simp at h
      | false =>
        have q := chk126 x0 x1 x2 x3 ⟨⟨ne_of_beq_false ha, ne_of_beq_false hb⟩, by omega, by omega⟩
        omega
end Go.Proofs.Ytchhfojblmceiaa
