/-
  Walks: what functions of the program answer, as functions.
-/
import Derived.Test.YtchhfojblmceiaaCl
import Derived.Test.YtchhfojblmceiaaEc
import Derived.Test.YtchhfojblmceiaaY0
import Derived.Test.YtchhfojblmceiaaY1
import Derived.Test.YtchhfojblmceiaaYr
namespace Go.Proofs.Ytchhfojblmceiaa
open Go Go.Vc Go.RowKit
set_option maxRecDepth 100000
set_option maxHeartbeats 4000000
noncomputable def g55_m1 (x0 : Int) (x1 : Int) (x2 : Sl T68) : Bool := (bif (!(g112 x0 0 1048576)) then true else (bif (!(g112 x1 0 1048576)) then true else (bif (!((x0 == 0) == (x1 == 0))) then true else (bif (decide ((x2.n : Int) > 200)) then true else (decide ((IntKind.i64.wrap (x0 + (x2.n : Int))) > 1048576))))))
noncomputable def g55_m2 (x2 : Sl T68) (v7_0 : Int) : Bool := (bif ((g52 (x2.at' (Int.toNat v7_0)).c0 (x2.at' (Int.toNat v7_0)).c1 (x2.at' (Int.toNat v7_0)).c2 (x2.at' (Int.toNat v7_0)).c3 (x2.at' (Int.toNat v7_0)).c4 (x2.at' (Int.toNat v7_0)).c5 (x2.at' (Int.toNat v7_0)).c6 (x2.at' (Int.toNat v7_0)).c7 (x2.at' (Int.toNat v7_0)).c8 (x2.at' (Int.toNat v7_0)).c9) != 0) then true else false)
noncomputable def g55_m3 (x1 : Int) (x2 : Sl T68) (v7_0 : Int) : Bool := (bif ((g52 (x2.at' (Int.toNat v7_0)).c0 (x2.at' (Int.toNat v7_0)).c1 (x2.at' (Int.toNat v7_0)).c2 (x2.at' (Int.toNat v7_0)).c3 (x2.at' (Int.toNat v7_0)).c4 (x2.at' (Int.toNat v7_0)).c5 (x2.at' (Int.toNat v7_0)).c6 (x2.at' (Int.toNat v7_0)).c7 (x2.at' (Int.toNat v7_0)).c8 (x2.at' (Int.toNat v7_0)).c9) != 0) then true else (decide ((x2.at' (Int.toNat v7_0)).c0 < x1)))
noncomputable def g55_m4 (v7_0 : Int) : Bool := (bif (decide (v7_0 > 0)) then true else false)
noncomputable def g55_m5 (x2 : Sl T68) (v7_0 : Int) : Bool := (bif (decide (v7_0 > 0)) then (bif (decide ((x2.at' (Int.toNat v7_0)).c0 < (x2.at' (Int.toNat (IntKind.i64.wrap (v7_0 - 1)))).c0)) then true else (decide ((x2.at' (Int.toNat v7_0)).c1 < (x2.at' (Int.toNat (IntKind.i64.wrap (v7_0 - 1)))).c1))) else false)
noncomputable def g55_l7 (x1 : Int) (x2 : Sl T68) : Nat → Int → Bool × Int
  | 0, _ => default
  | k + 1, v7_0 => (bif (decide (v7_0 < (x2.n : Int))) then (bif (g55_m3 x1 x2 v7_0) then (true, 13) else (bif (g55_m5 x2 v7_0) then (true, 13) else (g55_l7 x1 x2 k (IntKind.i64.wrap (v7_0 + 1))))) else (false, default))
noncomputable def g55_r6 (x1 : Int) (x2 : Sl T68) : Bool × Int := g55_l7 x1 x2 ((Int.toNat ((x2.n : Int) - 0)) + 1) 0
noncomputable def g55_p7 (x1 : Int) (x2 : Sl T68) : Bool := (bif (g55_r6 x1 x2).1 then false else true)
noncomputable def g55 (x0 : Int) (x1 : Int) (x2 : Sl T68) : Int := (bif (g55_m1 x0 x1 x2) then 13 else (bif (g55_p7 x1 x2) then 0 else (g55_r6 x1 x2).2))
noncomputable def F55 : Fq := ⟨[.g [kI, kI, .sl E68]], fun x0 x1 x2 => ⟨⟨none, .int .i64 (g55 x0 x1 x2)⟩⟩⟩
theorem pc55 : FnOk Try.prog 55 F55.sh _ (F55.sh.flatMap Sh.bs) F55.f [] :=
  fun (x0 : Int) (x1 : Int) x2 n2 _ => pure_of_exec (X := (mkX [(52, F52.ans), (112, F112.ans)])) (R := ⟨.pure, [.tmp 2], [(.t 0, kI)], ⟨[U], []⟩⟩) (h := (.s .z (.s (.j ⟨137438953478, [], [(.t 37, kB)], [], .f⟩ .z .z) (.j ⟨4, [], [], [], .f⟩ (.s .z (.lp ⟨14, [], [], [(.t 3, kI)], some 0, true, 4, [.b 0], [], fun k (s : Int) => g55_l7 x1 x2 k s, .f, fun (s : Int) => (0 ≤ s ∧ s ≤ (x2.n : Int)), fun (s : Int) => (Int.toNat ((x2.n : Int) - s)), none⟩ (.s .z (.s (.s (.j ⟨4620666554525155342, [], [(.t 52, kB), (.t 62, kB)], [], .f⟩ .z .z) (.j ⟨79228162583448608406052536334, [], [(.t 65, kB), (.t 96, kB)], [(.b .l .f), .f], .f⟩ .z .z)) .z)))) .z)))) (ms := []) (p := ((g55_m1 x0 x1 x2) = false → (((0 ≤ (0 : Int) ∧ (0 : Int) ≤ (x2.n : Int))) ∧ (∀ (v7_0 : Int), (0 ≤ v7_0 ∧ v7_0 ≤ (x2.n : Int)) → (((decide (v7_0 < (x2.n : Int))) = true → ((((0 : Int) ≤ v7_0 ∧ v7_0 < ((x2.n : Nat) : Int)) ∧ (((g52 (x2.at' (Int.toNat v7_0)).c0 (x2.at' (Int.toNat v7_0)).c1 (x2.at' (Int.toNat v7_0)).c2 (x2.at' (Int.toNat v7_0)).c3 (x2.at' (Int.toNat v7_0)).c4 (x2.at' (Int.toNat v7_0)).c5 (x2.at' (Int.toNat v7_0)).c6 (x2.at' (Int.toNat v7_0)).c7 (x2.at' (Int.toNat v7_0)).c8 (x2.at' (Int.toNat v7_0)).c9) != 0) = false → ((0 : Int) ≤ v7_0 ∧ v7_0 < ((x2.n : Nat) : Int)))) ∧ ((g55_m3 x1 x2 v7_0) = false → ((decide (v7_0 > 0)) = true → (((0 : Int) ≤ v7_0 ∧ v7_0 < ((x2.n : Nat) : Int)) ∧ (((0 : Int) ≤ (IntKind.i64.wrap (v7_0 - 1)) ∧ (IntKind.i64.wrap (v7_0 - 1)) < ((x2.n : Nat) : Int)) ∧ ((decide ((x2.at' (Int.toNat v7_0)).c0 < (x2.at' (Int.toNat (IntKind.i64.wrap (v7_0 - 1)))).c0)) = false → (((0 : Int) ≤ v7_0 ∧ v7_0 < ((x2.n : Nat) : Int)) ∧ ((0 : Int) ≤ (IntKind.i64.wrap (v7_0 - 1)) ∧ (IntKind.i64.wrap (v7_0 - 1)) < ((x2.n : Nat) : Int)))))))))) ∧ ((decide (v7_0 < (x2.n : Int))) = true → ((g55_m3 x1 x2 v7_0) = false → ((g55_m5 x2 v7_0) = false → ((0 ≤ (IntKind.i64.wrap (v7_0 + 1)) ∧ (IntKind.i64.wrap (v7_0 + 1)) ≤ (x2.n : Int)) ∧ (Int.toNat ((x2.n : Int) - (IntKind.i64.wrap (v7_0 + 1)))) < (Int.toNat ((x2.n : Int) - v7_0))))))))))) (mkX_ok ⟨k52, k112, trivial⟩) Try.func55 rfl rfl (by kernel_rfl) ((fun h1 => ⟨(by have := h1; simp [g55_m1] at this; omega), (fun v7_0 hI2 => ⟨(fun h3 => ⟨⟨(by have := h1; simp [g55_m1] at this; have := of_decide_eq_true h3; omega), (fun h4 => (by have := h1; simp [g55_m1] at this; have := of_decide_eq_true h3; have := bne_eq_false_iff_eq.1 h4; omega))⟩, (fun h5 => (fun h6 => ⟨(by have := h1; simp [g55_m1] at this; have := of_decide_eq_true h3; have := h5; simp [g55_m3] at this; have := of_decide_eq_true h6; omega), ⟨(by have := h1; simp [g55_m1] at this; have := of_decide_eq_true h3; have := h5; simp [g55_m3] at this; have := of_decide_eq_true h6; first | omega | (have := wrap64 (x := (v7_0 - 1)) (by omega) (by omega); omega)), (fun h7 => ⟨(by have := h1; simp [g55_m1] at this; have := of_decide_eq_true h3; have := h5; simp [g55_m3] at this; have := of_decide_eq_true h6; have := of_decide_eq_false h7; omega), (by have := h1; simp [g55_m1] at this; have := of_decide_eq_true h3; have := h5; simp [g55_m3] at this; have := of_decide_eq_true h6; have := of_decide_eq_false h7; first | omega | (have := wrap64 (x := (v7_0 - 1)) (by omega) (by omega); omega))⟩)⟩⟩))⟩), (fun h8 => (fun h9 => (fun h10 => (by have := h1; simp [g55_m1] at this; have := of_decide_eq_true h8; have := h9; simp [g55_m3] at this; have := h10; simp [g55_m5] at this; first | omega | (have := wrap64 (x := (v7_0 + 1)) (by omega) (by omega); omega)))))⟩)⟩))
theorem k55 : XOk Try.prog 55 F55.ans := Fq.ok ⟨_, _, Try.func55, rfl, by kernel_rfl⟩ pc55
theorem chk55 (x0 x1 : Int) (x2 : Sl T68) (h : g55 x0 x1 x2 = 0) : (0 ≤ x0 ∧ x0 ≤ 1048576) ∧ (0 ≤ x1 ∧ x1 ≤ 1048576) ∧ x2.n ≤ 200 ∧ x0 + x2.n ≤ 1048576 := by
  unfold g55 at h
  cases hm : g55_m1 x0 x1 x2 with
  | true => rw [hm] at h; simp at h
  | false =>
    simp [g55_m1, g112, g112_m1] at hm
    have := wrap64 (x := x0 + (x2.n : Int)) (by omega) (by omega)
    omega
noncomputable def g54_l1 (x2 : Sl T68) : Nat → Int → Sl T68 → Sl T68
  | 0, _, _ => default
  | k + 1, v1_0, v1_1 => (bif (decide (v1_0 < (x2.n : Int))) then (g54_l1 x2 k (IntKind.i64.wrap (v1_0 + 1)) (Sl.app v1_1 (Sl.lit ([(x2.at' (Int.toNat v1_0))] : List T68)))) else v1_1)
noncomputable def g54_r1 (x2 : Sl T68) : Sl T68 := g54_l1 x2 ((Int.toNat ((x2.n : Int) - 0)) + 1) 0 (nilSl : Sl T68)
noncomputable def g54_0 (x0 : Int) : Int := x0
noncomputable def g54_1 (x1 : Int) : Int := x1
noncomputable def g54_2 (x2 : Sl T68) : Sl T68 := (g54_r1 x2)
noncomputable def F54 : Fq := ⟨[.g [kI, kI, .sl E68]], fun x0 x1 x2 => ⟨⟨none, .agg [.int .i64 (g54_0 x0), .int .i64 (g54_1 x1), ofSl 10 e68 (g54_2 x2)]⟩⟩⟩
theorem pc54 : FnOk Try.prog 54 F54.sh _ (F54.sh.flatMap Sh.bs) F54.f [] :=
  fun (x0 : Int) (x1 : Int) x2 n2 _ => pure_of_exec (X := X0) (R := ⟨.pure, [.cell 2 38], [(.c 0 0, kI), (.c 0 1, kI), (.c 0 2, .sl E68)], ⟨[.agg (us 3 [])], []⟩⟩) (h := (.s .z (.s .z (.j ⟨12, [], [], [], .f⟩ (.s .z (.lp ⟨30, [], [(.h 2 2, E68)], [(.t 4, kI), (.h 3 0, .blk E68)], some 0, false, 12, [.b 0], [(.h 3 0, .blk E68)], fun k (s : Int × Sl T68) => g54_l1 x2 k s.1 s.2, .f, fun (s : Int × Sl T68) => ((0 ≤ s.1 ∧ s.1 ≤ (x2.n : Int)) ∧ ((s.2.n : Nat) : Int) ≤ 0 + (s.1 - 0)), fun (s : Int × Sl T68) => (Int.toNat ((x2.n : Int) - s.1)), some fun (r : Sl T68) => ((r.n : Nat) : Int) ≤ 0 + max ((x2.n : Int) - 0) 0⟩ .z)) .z)))) (ms := []) (p := ((((0 ≤ (0 : Int) ∧ (0 : Int) ≤ (x2.n : Int)) ∧ ((0 : Nat) : Int) ≤ 0 + ((0 : Int) - 0))) ∧ (∀ (v1_0 : Int) (v1_1 : Sl T68), ((0 ≤ v1_0 ∧ v1_0 ≤ (x2.n : Int)) ∧ ((v1_1.n : Nat) : Int) ≤ 0 + (v1_0 - 0)) → (((decide (v1_0 < (x2.n : Int))) = true → (((0 : Int) ≤ v1_0 ∧ v1_0 < ((x2.n : Nat) : Int)) ∧ (v1_1.n + 1 ≤ 549755813888))) ∧ (((decide (v1_0 < (x2.n : Int))) = true → (((0 ≤ (IntKind.i64.wrap (v1_0 + 1)) ∧ (IntKind.i64.wrap (v1_0 + 1)) ≤ (x2.n : Int)) ∧ (((v1_1.n + 1) : Nat) : Int) ≤ 0 + ((IntKind.i64.wrap (v1_0 + 1)) - 0)) ∧ (Int.toNat ((x2.n : Int) - (IntKind.i64.wrap (v1_0 + 1)))) < (Int.toNat ((x2.n : Int) - v1_0)))) ∧ ((decide (v1_0 < (x2.n : Int))) = false → (((v1_1.n : Nat) : Int) ≤ 0 + max ((x2.n : Int) - 0) 0))))))) X0_ok Try.func54 rfl rfl (by kernel_rfl) (⟨(by omega), (fun v1_0 v1_1 hI1 => ⟨(fun h2 => ⟨(by have := of_decide_eq_true h2; omega), (by have := of_decide_eq_true h2; omega)⟩), ⟨(fun h3 => (by have := of_decide_eq_true h3; first | omega | (have := wrap64 (x := (v1_0 + 1)) (by omega) (by omega); omega))), (fun h4 => (by have := of_decide_eq_false h4; omega))⟩⟩)⟩)
theorem k54 : XOk Try.prog 54 F54.ans := Fq.ok ⟨_, _, Try.func54, rfl, by kernel_rfl⟩ pc54
noncomputable def g109_l1 (x0 : Sl Int) : Nat → Int → Sl Int → Sl Int
  | 0, _, _ => default
  | k + 1, v1_0, v1_1 => (bif (decide (v1_0 < (x0.n : Int))) then (g109_l1 x0 k (IntKind.i64.wrap (v1_0 + 1)) (Sl.app v1_1 (Sl.lit ([(x0.at' (Int.toNat v1_0))] : List Int)))) else v1_1)
noncomputable def g109_r1 (x0 : Sl Int) : Sl Int := g109_l1 x0 ((Int.toNat ((x0.n : Int) - 0)) + 1) 0 (nilSl : Sl Int)
noncomputable def g109_l7 (x1 : Sl Int) : Nat → Int → Sl Int → Sl Int
  | 0, _, _ => default
  | k + 1, v7_0, v7_1 => (bif (decide (v7_0 < (x1.n : Int))) then (g109_l7 x1 k (IntKind.i64.wrap (v7_0 + 1)) (Sl.app v7_1 (Sl.lit ([(x1.at' (Int.toNat v7_0))] : List Int)))) else v7_1)
noncomputable def g109_r2 (x0 : Sl Int) (x1 : Sl Int) : Sl Int := g109_l7 x1 ((Int.toNat ((x1.n : Int) - 0)) + 1) 0 (g109_r1 x0)
noncomputable def g109 (x0 : Sl Int) (x1 : Sl Int) : Sl Int := (g109_r2 x0 x1)
noncomputable def F109 : Fq := ⟨[.v (.sl E5), .v (.sl E5)], fun x0 x1 => ⟨⟨some (x0.n + x1.n ≤ 549755813888), (Kd.blk E5).av (g109 x0 x1)⟩⟩⟩
theorem pc109 : FnOk Try.prog 109 F109.sh _ (F109.sh.flatMap Sh.bs) F109.f [] :=
  fun x0 n0 _ x1 n1 _ hp => pure_of_exec (X := X0) (R := ⟨.own E5, [.tmp 4], [(.h 0 0, .blk E5)], ⟨[], []⟩⟩) (h := (.s .z (.s .z (.j ⟨50, [], [], [], .f⟩ (.s .z (.lp ⟨115, [], [(.t 5, E5)], [(.t 6, kI), (.h 0 0, .blk E5)], some 0, false, 50, [], [(.h 0 0, .blk E5)], fun k (s : Int × Sl Int) => g109_l1 x0 k s.1 s.2, .f, fun (s : Int × Sl Int) => ((0 ≤ s.1 ∧ s.1 ≤ (x0.n : Int)) ∧ ((s.2.n : Nat) : Int) ≤ 0 + (s.1 - 0)), fun (s : Int × Sl Int) => (Int.toNat ((x0.n : Int) - s.1)), some fun (r : Sl Int) => ((r.n : Nat) : Int) ≤ 0 + max ((x0.n : Int) - 0) 0⟩ .z)) (.j ⟨48, [], [], [], .f⟩ (.s .z (.lp ⟨178, [], [], [(.t 7, kI), (.h 0 0, .blk E5)], some 2, false, 48, [], [(.h 0 0, .blk E5)], fun k (s : Int × Sl Int) => g109_l7 x1 k s.1 s.2, .f, fun (s : Int × Sl Int) => ((0 ≤ s.1 ∧ s.1 ≤ (x1.n : Int)) ∧ ((s.2.n : Nat) : Int) ≤ (g109_r1 x0).n + (s.1 - 0)), fun (s : Int × Sl Int) => (Int.toNat ((x1.n : Int) - s.1)), some fun (r : Sl Int) => ((r.n : Nat) : Int) ≤ (g109_r1 x0).n + max ((x1.n : Int) - 0) 0⟩ .z)) .z))))) (ms := []) (p := (((((0 ≤ (0 : Int) ∧ (0 : Int) ≤ (x0.n : Int)) ∧ ((0 : Nat) : Int) ≤ 0 + ((0 : Int) - 0))) ∧ (∀ (v1_0 : Int) (v1_1 : Sl Int), ((0 ≤ v1_0 ∧ v1_0 ≤ (x0.n : Int)) ∧ ((v1_1.n : Nat) : Int) ≤ 0 + (v1_0 - 0)) → (((decide (v1_0 < (x0.n : Int))) = true → (((0 : Int) ≤ v1_0 ∧ v1_0 < ((x0.n : Nat) : Int)) ∧ (v1_1.n + 1 ≤ 549755813888))) ∧ (((decide (v1_0 < (x0.n : Int))) = true → (((0 ≤ (IntKind.i64.wrap (v1_0 + 1)) ∧ (IntKind.i64.wrap (v1_0 + 1)) ≤ (x0.n : Int)) ∧ (((v1_1.n + 1) : Nat) : Int) ≤ 0 + ((IntKind.i64.wrap (v1_0 + 1)) - 0)) ∧ (Int.toNat ((x0.n : Int) - (IntKind.i64.wrap (v1_0 + 1)))) < (Int.toNat ((x0.n : Int) - v1_0)))) ∧ ((decide (v1_0 < (x0.n : Int))) = false → (((v1_1.n : Nat) : Int) ≤ 0 + max ((x0.n : Int) - 0) 0)))))) ∧ (((((g109_r1 x0).n : Nat) : Int) ≤ 0 + max ((x0.n : Int) - 0) 0) → ((((0 ≤ (0 : Int) ∧ (0 : Int) ≤ (x1.n : Int)) ∧ (((g109_r1 x0).n : Nat) : Int) ≤ (g109_r1 x0).n + ((0 : Int) - 0))) ∧ (∀ (v7_0 : Int) (v7_1 : Sl Int), ((0 ≤ v7_0 ∧ v7_0 ≤ (x1.n : Int)) ∧ ((v7_1.n : Nat) : Int) ≤ (g109_r1 x0).n + (v7_0 - 0)) → (((decide (v7_0 < (x1.n : Int))) = true → (((0 : Int) ≤ v7_0 ∧ v7_0 < ((x1.n : Nat) : Int)) ∧ (v7_1.n + 1 ≤ 549755813888))) ∧ (((decide (v7_0 < (x1.n : Int))) = true → (((0 ≤ (IntKind.i64.wrap (v7_0 + 1)) ∧ (IntKind.i64.wrap (v7_0 + 1)) ≤ (x1.n : Int)) ∧ (((v7_1.n + 1) : Nat) : Int) ≤ (g109_r1 x0).n + ((IntKind.i64.wrap (v7_0 + 1)) - 0)) ∧ (Int.toNat ((x1.n : Int) - (IntKind.i64.wrap (v7_0 + 1)))) < (Int.toNat ((x1.n : Int) - v7_0)))) ∧ ((decide (v7_0 < (x1.n : Int))) = false → (((v7_1.n : Nat) : Int) ≤ (g109_r1 x0).n + max ((x1.n : Int) - 0) 0))))))))) X0_ok Try.func109 rfl rfl (by kernel_rfl) (⟨⟨(by omega), (fun v1_0 v1_1 hI1 => ⟨(fun h2 => ⟨(by have := of_decide_eq_true h2; omega), (by have := of_decide_eq_true h2; omega)⟩), ⟨(fun h3 => (by have := of_decide_eq_true h3; first | omega | (have := wrap64 (x := (v1_0 + 1)) (by omega) (by omega); omega))), (fun h4 => (by have := of_decide_eq_false h4; omega))⟩⟩)⟩, (fun hF5 => ⟨(by omega), (fun v7_0 v7_1 hI6 => ⟨(fun h7 => ⟨(by have := of_decide_eq_true h7; omega), (by have := of_decide_eq_true h7; omega)⟩), ⟨(fun h8 => (by have := of_decide_eq_true h8; first | omega | (have := wrap64 (x := (v7_0 + 1)) (by omega) (by omega); omega))), (fun h9 => (by have := of_decide_eq_false h9; omega))⟩⟩)⟩)⟩)
theorem k109 : XOk Try.prog 109 F109.ans := Fq.ok ⟨_, _, Try.func109, rfl, by kernel_rfl⟩ pc109
theorem lenl109 (x0 : Sl Int) (hn : x0.n ≤ 549755813888) : ∀ (m : Nat) (v : Int) (s : Sl Int), 0 ≤ v → v ≤ x0.n → m = Int.toNat ((x0.n : Int) - v) → ((g109_l1 x0 (m + 1) v s).n : Int) = s.n + ((x0.n : Int) - v)
  | 0, v, s, h0, h1, hm => by
    have : ¬ v < (x0.n : Int) := by omega
    simp only [g109_l1, this, decide_false, cond_false]; omega
  | m + 1, v, s, h0, h1, hm => by
    have hv : v < (x0.n : Int) := by omega
    have hw := wrap64 (x := v + 1) (by omega) (by omega)
    rw [g109_l1]
    simp only [hv, decide_true, cond_true]
    rw [hw, lenl109 x0 hn m (v + 1) _ (by omega) (by omega) (by omega)]
    simp only [Sl.app_n, Sl.lit_n, List.length_cons, List.length_nil]; omega
theorem lenm109 (x0 : Sl Int) (hn : x0.n ≤ 549755813888) : ∀ (m : Nat) (v : Int) (s : Sl Int), 0 ≤ v → v ≤ x0.n → m = Int.toNat ((x0.n : Int) - v) → ((g109_l7 x0 (m + 1) v s).n : Int) = s.n + ((x0.n : Int) - v)
  | 0, v, s, h0, h1, hm => by
    have : ¬ v < (x0.n : Int) := by omega
    simp only [g109_l7, this, decide_false, cond_false]; omega
  | m + 1, v, s, h0, h1, hm => by
    have hv : v < (x0.n : Int) := by omega
    have hw := wrap64 (x := v + 1) (by omega) (by omega)
    rw [g109_l7]
    simp only [hv, decide_true, cond_true]
    rw [hw, lenm109 x0 hn m (v + 1) _ (by omega) (by omega) (by omega)]
    simp only [Sl.app_n, Sl.lit_n, List.length_cons, List.length_nil]; omega
theorem len109 (x0 x1 : Sl Int) : x0.n + x1.n ≤ 549755813888 → (g109 x0 x1).n = x0.n + x1.n := fun h => by
  have h1 : ((g109_r1 x0).n : Int) = 0 + ((x0.n : Int) - 0) := lenl109 x0 (by omega) _ 0 nilSl (by omega) (by omega) rfl
  have h2 : ((g109_r2 x0 x1).n : Int) = (g109_r1 x0).n + ((x1.n : Int) - 0) := lenm109 x1 (by omega) _ 0 _ (by omega) (by omega) rfl
  show (g109_r2 x0 x1).n = _
  omega
noncomputable def g108_m1 (x0 : Sl Int) (x1 : Int) : Bool := (bif (decide ((x0.n : Int) ≤ 400000)) then (g112 x1 0 (x0.n : Int)) else false)
noncomputable def g108 (x0 : Sl Int) (x1 : Int) : Bool := (g108_m1 x0 x1)
noncomputable def F108 : Fq := ⟨[.g [.sl E5, kI]], fun x0 x1 => ⟨⟨none, .bool (g108 x0 x1)⟩⟩⟩
theorem pc108 : FnOk Try.prog 108 F108.sh _ (F108.sh.flatMap Sh.bs) F108.f [] :=
  fun x0 _ _ (x1 : Int) => pure_of_exec (X := (mkX [(112, F112.ans)])) (R := ⟨.pure, [.tmp 2], [(.t 0, kB)], ⟨[U], []⟩⟩) (h := (.s .z (.j ⟨4, [.b 0], [(.t 2, kB)], [], .f⟩ .z .z))) (ms := []) (p := True) (mkX_ok ⟨k112, trivial⟩) Try.func108 rfl rfl (by kernel_rfl) (trivial)
theorem k108 : XOk Try.prog 108 F108.ans := Fq.ok ⟨_, _, Try.func108, rfl, by kernel_rfl⟩ pc108
theorem h108 (x0 : Sl Int) (x1 : Int) (h : g108 x0 x1 = true) : (0 ≤ x1 ∧ x1 ≤ (x0.n : Int)) ∧ x0.n ≤ 400000 := by
  simp [g108, g108_m1, g112, g112_m1] at h
  omega
end Go.Proofs.Ytchhfojblmceiaa
