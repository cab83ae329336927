/-
  Walks: what functions of the program answer, as functions.
-/
import Derived.Test.YtchhfojblmceiaaGreatCl
import Derived.Test.YtchhfojblmceiaaGreatEc
import Derived.Test.YtchhfojblmceiaaGreatYA
namespace Go.Proofs.YtchhfojblmceiaaGreat
open Go Go.Vc Go.RowKit
set_option maxRecDepth 100000
set_option maxHeartbeats 4000000
noncomputable def g155 (x0 : Int) (x1 : Sl Int) : Sl Int := (Sl.app x1 (Sl.lit ([(IntKind.u8.wrap x0)] : List Int)))
noncomputable def F155 : Hq := ⟨[.p 0, .v kI], [(.h 1 0, .blk E5)], [[.own 1 0], [U]], fun (x0 : Int) x1 => ⟨⟨some (x1.n ≤ 400000000000), [], [[.own 1 ((g155 x0 x1)).n], [(Kd.blk E5).av (g155 x0 x1)]]⟩⟩⟩
theorem pc155 : HqOk Tryz.prog 75 F155 _ (F155.sh.flatMap Sh.bs) F155.f [] :=
  fun (x0 : Int) x1 n1 hp => heap_of_exec (X := (mkXh 2 [] [])) (R := ⟨.heap, [], [(.h 1 0, .blk E5)], ⟨[], [[.own 1 0], [U]]⟩⟩) (h := .z) (ms := []) (p := (x1.n + 1 ≤ 549755813888)) (mkXh_ok trivial trivial) Tryz.func75 rfl rfl rfl (by kernel_rfl) ((by omega))
theorem k155 : XHOk Tryz.prog 75 F155.ans := Hq.ok ⟨_, _, Tryz.func75, rfl, by kernel_rfl⟩ (by kernel_rfl) pc155
theorem len155 (x0 : Int) (x1 : Sl Int) : (g155 x0 x1).n = x1.n + 1 := rfl
noncomputable def g154_l1 (x0 : Int) : Nat → Int → Sl Int → Sl Int
  | 0, _, _ => default
  | k + 1, v1_0, v1_1 => (bif (decide (v1_0 ≥ 0)) then (g154_l1 x0 k (IntKind.i64.wrap (v1_0 - 8)) (Sl.app v1_1 (Sl.lit ([(IntKind.u8.wrap ((IntKind.u64.wrap (IntKind.i64.wrap (x0 + 4611686018427387904))) / 2 ^ (Int.toNat v1_0)))] : List Int)))) else v1_1)
noncomputable def g154_r1 (x0 : Int) (x1 : Sl Int) : Sl Int := g154_l1 x0 ((Int.toNat (56 + 8)) + 1) 56 x1
noncomputable def g154 (x0 : Int) (x1 : Sl Int) : Sl Int := (g154_r1 x0 x1)
noncomputable def F154 : Hq := ⟨[.p 0, .v kI], [(.h 1 0, .blk E5)], [[.own 1 0], [U]], fun (x0 : Int) x1 => ⟨⟨some (x1.n ≤ 400000000000), [], [[.own 1 ((g154 x0 x1)).n], [(Kd.blk E5).av (g154 x0 x1)]]⟩⟩⟩
theorem pc154 : HqOk Tryz.prog 74 F154 _ (F154.sh.flatMap Sh.bs) F154.f [] :=
  fun (x0 : Int) x1 n1 hp => heap_of_exec (X := (mkXh 2 [] [])) (R := ⟨.heap, [], [(.h 1 0, .blk E5)], ⟨[], [[.own 1 0], [U]]⟩⟩) (h := (.s .z (.s .z (.lp ⟨49, [], [], [(.t 5, kI), (.h 1 0, .blk E5)], some 0, false, 0, [], [(.h 1 0, .blk E5)], fun k (s : Int × Sl Int) => g154_l1 x0 k s.1 s.2, .f, fun (s : Int × Sl Int) => (s.1 % 8 = 0 ∧ -8 ≤ s.1 ∧ s.1 ≤ 56 ∧ ((s.2.n : Nat) : Int) * 8 = ((x1.n : Nat) : Int) * 8 + 56 - s.1), fun (s : Int × Sl Int) => (Int.toNat (s.1 + 8)), none⟩ .z)))) (ms := []) (p := ((((56 : Int) % 8 = 0 ∧ -8 ≤ (56 : Int) ∧ (56 : Int) ≤ 56 ∧ ((x1.n : Nat) : Int) * 8 = ((x1.n : Nat) : Int) * 8 + 56 - (56 : Int))) ∧ (∀ (v1_0 : Int) (v1_1 : Sl Int), (v1_0 % 8 = 0 ∧ -8 ≤ v1_0 ∧ v1_0 ≤ 56 ∧ ((v1_1.n : Nat) : Int) * 8 = ((x1.n : Nat) : Int) * 8 + 56 - v1_0) → (((decide (v1_0 ≥ 0)) = true → (((0 : Int) ≤ v1_0 ∧ (v1_0 : Int) ≤ 64) ∧ (v1_1.n + 1 ≤ 549755813888))) ∧ ((decide (v1_0 ≥ 0)) = true → (((IntKind.i64.wrap (v1_0 - 8)) % 8 = 0 ∧ -8 ≤ (IntKind.i64.wrap (v1_0 - 8)) ∧ (IntKind.i64.wrap (v1_0 - 8)) ≤ 56 ∧ (((v1_1.n + 1) : Nat) : Int) * 8 = ((x1.n : Nat) : Int) * 8 + 56 - (IntKind.i64.wrap (v1_0 - 8))) ∧ (Int.toNat ((IntKind.i64.wrap (v1_0 - 8)) + 8)) < (Int.toNat (v1_0 + 8)))))))) (mkXh_ok trivial trivial) Tryz.func74 rfl rfl rfl (by kernel_rfl) (⟨(by omega), (fun v1_0 v1_1 hI1 => ⟨(fun h2 => ⟨(by have := of_decide_eq_true h2; omega), (by have := of_decide_eq_true h2; omega)⟩), (fun h3 => (by have := of_decide_eq_true h3; first | omega | (have := wrap64 (x := (v1_0 - 8)) (by omega) (by omega); omega)))⟩)⟩)
theorem k154 : XHOk Tryz.prog 74 F154.ans := Hq.ok ⟨_, _, Tryz.func74, rfl, by kernel_rfl⟩ (by kernel_rfl) pc154
theorem len154 (x0 : Int) (x1 : Sl Int) : (g154 x0 x1).n = x1.n + 8 := by kernel_rfl
noncomputable def g156 (x0 : ByteArray) (x1 : Sl Int) : Sl Int := (Sl.app (g155 ((x0 : ByteArray).size : Int) x1) (Sl.ofStr x0))
noncomputable def F156 : Hq := ⟨[.p 0, .v kS], [(.h 1 0, .blk E5)], [[.own 1 0], [U]], fun x0 x1 => ⟨⟨some (x1.n ≤ 300000000000 ∧ x0.size ≤ 10000000000), [], [[.own 1 ((g156 x0 x1)).n], [(Kd.blk E5).av (g156 x0 x1)]]⟩⟩⟩
theorem pc156 : HqOk Tryz.prog 76 F156 _ (F156.sh.flatMap Sh.bs) F156.f [] :=
  fun x0 n0 x1 n1 hp => heap_of_exec (X := (mkXh 2 [] [(75, F155.ans)])) (R := ⟨.heap, [], [(.h 1 0, .blk E5)], ⟨[], [[.own 1 0], [U]]⟩⟩) (h := .z) (ms := []) (p := ((x1.n ≤ 400000000000) ∧ ((g155 ((x0 : ByteArray).size : Int) x1).n + (x0 : ByteArray).size ≤ 549755813888))) (mkXh_ok trivial ⟨k155, trivial⟩) Tryz.func76 rfl rfl rfl (by kernel_rfl) (have ⟨hq0, hq1⟩ := hp; ⟨(by omega), (by have := len155 ((x0 : ByteArray).size : Int) x1; omega)⟩)
theorem k156 : XHOk Tryz.prog 76 F156.ans := Hq.ok ⟨_, _, Tryz.func76, rfl, by kernel_rfl⟩ (by kernel_rfl) pc156
theorem len156 (x0 : ByteArray) (x1 : Sl Int) : (g156 x0 x1).n = x1.n + 1 + x0.size := rfl
noncomputable def g224 (x0 : Int) (x1 : ByteArray) (x2 : ByteArray) (x3 : ByteArray) (x4 : Int) (x5 : Sl Int) : Sl Int := (g154 x4 (g156 x3 (g156 x2 (g156 x1 (g155 x0 x5)))))
noncomputable def F224 : Hq := ⟨[.p 0, .g [kI, kS, kS, kS, kI]], [(.h 1 0, .blk E5)], [[.own 1 0], [U]], fun (x0 : Int) x1 x2 x3 (x4 : Int) x5 => ⟨⟨some (x5.n ≤ 200000000000 ∧ x1.size ≤ 10000000000 ∧ x2.size ≤ 10000000000 ∧ x3.size ≤ 10000000000), [], [[.own 1 ((g224 x0 x1 x2 x3 x4 x5)).n], [(Kd.blk E5).av (g224 x0 x1 x2 x3 x4 x5)]]⟩⟩⟩
noncomputable def g193 (x0 : Int) (x1 : Int) (x2 : Int) (x3 : ByteArray) (x4 : ByteArray) (x5 : ByteArray) (x6 : Int) (x7 : Sl Int) : Sl Int := (bif (decide (x0 > 0)) then (g224 x2 x3 x4 x5 x6 (g154 x1 (g154 x0 x7))) else (g154 x0 x7))
noncomputable def F193 : Hq := ⟨[.p 0, .g [kI, kI, kI, kS, kS, kS, kI]], [(.h 1 0, .blk E5)], [[.own 1 0], [U]], fun (x0 : Int) (x1 : Int) (x2 : Int) x3 x4 x5 (x6 : Int) x7 => ⟨⟨some (x7.n ≤ 150000000000 ∧ x3.size ≤ 10000000000 ∧ x4.size ≤ 10000000000 ∧ x5.size ≤ 10000000000), [], [[.own 1 ((g193 x0 x1 x2 x3 x4 x5 x6 x7)).n], [(Kd.blk E5).av (g193 x0 x1 x2 x3 x4 x5 x6 x7)]]⟩⟩⟩
noncomputable def g128 (x0 : Int) (x1 : Int) (x2 : Bool) (x3 : Int) (x4 : Int) (x5 : Int) (x6 : ByteArray) (x7 : ByteArray) (x8 : ByteArray) (x9 : Int) (x10 : Sl Int) : Sl Int := (bif x2 then (g155 1 (g154 x1 (g154 x0 x10))) else (g193 x3 x4 x5 x6 x7 x8 x9 (g155 0 (g154 x1 (g154 x0 x10)))))
noncomputable def F128 : Hq := ⟨[.p 0, .g [kI, kI, kB, kI, kI, kI, kS, kS, kS, kI]], [(.h 1 0, .blk E5)], [[.own 1 0], [U]], fun (x0 : Int) (x1 : Int) x2 (x3 : Int) (x4 : Int) (x5 : Int) x6 x7 x8 (x9 : Int) x10 => ⟨⟨some (x10.n ≤ 100000000000 ∧ x6.size ≤ 10000000000 ∧ x7.size ≤ 10000000000 ∧ x8.size ≤ 10000000000), [], [[.own 1 ((g128 x0 x1 x2 x3 x4 x5 x6 x7 x8 x9 x10)).n], [(Kd.blk E5).av (g128 x0 x1 x2 x3 x4 x5 x6 x7 x8 x9 x10)]]⟩⟩⟩
noncomputable def g64_0 (x0 : Int) (x1 : Int) (x2 : Bool) (x3 : Int) (x4 : Int) (x5 : Int) (x6 : ByteArray) (x7 : ByteArray) (x8 : ByteArray) (x9 : Int) : Sl Int := (bif ((g51 x0 x1 x2 x3 x4 x5 x6 x7 x8 x9) != 0) then (nilSl : Sl Int) else (g128 x0 x1 x2 x3 x4 x5 x6 x7 x8 x9 (nilSl : Sl Int)))
noncomputable def g64_1 (x0 : Int) (x1 : Int) (x2 : Bool) (x3 : Int) (x4 : Int) (x5 : Int) (x6 : ByteArray) (x7 : ByteArray) (x8 : ByteArray) (x9 : Int) : Int := (bif ((g51 x0 x1 x2 x3 x4 x5 x6 x7 x8 x9) != 0) then (g51 x0 x1 x2 x3 x4 x5 x6 x7 x8 x9) else 0)
noncomputable def F64 : Fq := ⟨[.g [kI, kI, kB, kI, kI, kI, kS, kS, kS, kI]], fun (x0 : Int) (x1 : Int) x2 (x3 : Int) (x4 : Int) (x5 : Int) x6 x7 x8 (x9 : Int) => ⟨⟨some (x6.size ≤ 10000000000 ∧ x7.size ≤ 10000000000 ∧ x8.size ≤ 10000000000), .tup [ofSl 1 e5 (g64_0 x0 x1 x2 x3 x4 x5 x6 x7 x8 x9), .int .i64 (g64_1 x0 x1 x2 x3 x4 x5 x6 x7 x8 x9)]⟩⟩⟩
end Go.Proofs.YtchhfojblmceiaaGreat
/-
  Walks: what functions of the program answer, as functions.
-/
namespace Go.Proofs.YtchhfojblmceiaaGreat
open Go Go.Vc Go.RowKit
set_option maxRecDepth 100000
set_option maxHeartbeats 4000000
noncomputable def g194_l1 : Nat → Int → Int → Sl Int → Sl Int
  | 0, _, _, _ => default
  | k + 1, v1_0, v1_1, v1_2 => (bif (decide (v1_1 ≥ 0)) then (g194_l1 k (IntKind.i64.wrap (v1_0.tdiv 256)) (IntKind.i64.wrap (v1_1 - 1)) (Sl.upd v1_2 (Int.toNat v1_1) (IntKind.u8.wrap (v1_0.tmod 256)))) else v1_2)
noncomputable def g194_r1 (x0 : Int) : Sl Int := g194_l1 ((Int.toNat (7 + 1)) + 1) (IntKind.i64.wrap (x0 + 4611686018427387904)) 7 (Sl.rep (Int.toNat 8) (0 : Int))
noncomputable def g194 (x0 : Int) : Sl Int := (g194_r1 x0)
noncomputable def F194 : Fq := ⟨[.v kI], fun x0 => ⟨⟨none, (Kd.blk E5).av (g194 x0)⟩⟩⟩
theorem len194 (x0 : Int) : (g194 x0).n = 8 := by kernel_rfl
noncomputable def g195 (x0 : ByteArray) : Sl Int := (g109 (Sl.lit ([(IntKind.u8.wrap ((x0 : ByteArray).size : Int))] : List Int)) (Sl.ofStr x0))
noncomputable def F195 : Fq := ⟨[.v kS], fun x0 => ⟨⟨some (x0.size ≤ 10000000000), (Kd.blk E5).av (g195 x0)⟩⟩⟩
theorem len195 (x0 : ByteArray) : x0.size ≤ 10000000000 → (g195 x0).n = x0.size + 1 := fun h => by
  unfold g195
  rw [len109 _ _ (by simp only [Sl.lit_n, Sl.ofStr, List.length_cons, List.length_nil]; omega)]
  simp only [Sl.lit_n, Sl.ofStr, List.length_cons, List.length_nil]; omega
noncomputable def g129 (x0 : Int) (x1 : Int) (x2 : Bool) (x3 : Int) (x4 : Int) (x5 : Int) (x6 : ByteArray) (x7 : ByteArray) (x8 : ByteArray) (x9 : Int) : Sl Int := (bif x2 then (Sl.app (g109 (g194 x0) (g194 x1)) (Sl.lit ([1] : List Int))) else (bif (x3 == 0) then (g109 (Sl.app (g109 (g194 x0) (g194 x1)) (Sl.lit ([0] : List Int))) (g194 x3)) else (g109 (g109 (g109 (g109 (Sl.app (g109 (g109 (Sl.app (g109 (g194 x0) (g194 x1)) (Sl.lit ([0] : List Int))) (g194 x3)) (g194 x4)) (Sl.lit ([(IntKind.u8.wrap x5)] : List Int))) (g195 x6)) (g195 x7)) (g195 x8)) (g194 x9))))
noncomputable def F129 : Fq := ⟨[.g [kI, kI, kB, kI, kI, kI, kS, kS, kS, kI]], fun (x0 : Int) (x1 : Int) x2 (x3 : Int) (x4 : Int) (x5 : Int) x6 x7 x8 (x9 : Int) => ⟨⟨some (x6.size ≤ 10000000000 ∧ x7.size ≤ 10000000000 ∧ x8.size ≤ 10000000000), (Kd.blk E5).av (g129 x0 x1 x2 x3 x4 x5 x6 x7 x8 x9)⟩⟩⟩
noncomputable def g65_0 (x0 : Int) (x1 : Int) (x2 : Bool) (x3 : Int) (x4 : Int) (x5 : Int) (x6 : ByteArray) (x7 : ByteArray) (x8 : ByteArray) (x9 : Int) : Sl Int := (bif ((g52 x0 x1 x2 x3 x4 x5 x6 x7 x8 x9) != 0) then (nilSl : Sl Int) else (g129 x0 x1 x2 x3 x4 x5 x6 x7 x8 x9))
noncomputable def g65_1 (x0 : Int) (x1 : Int) (x2 : Bool) (x3 : Int) (x4 : Int) (x5 : Int) (x6 : ByteArray) (x7 : ByteArray) (x8 : ByteArray) (x9 : Int) : Int := (bif ((g52 x0 x1 x2 x3 x4 x5 x6 x7 x8 x9) != 0) then (g52 x0 x1 x2 x3 x4 x5 x6 x7 x8 x9) else 0)
noncomputable def F65 : Fq := ⟨[.g [kI, kI, kB, kI, kI, kI, kS, kS, kS, kI]], fun (x0 : Int) (x1 : Int) x2 (x3 : Int) (x4 : Int) (x5 : Int) x6 x7 x8 (x9 : Int) => ⟨⟨some (x6.size ≤ 10000000000 ∧ x7.size ≤ 10000000000 ∧ x8.size ≤ 10000000000), .tup [ofSl 1 e5 (g65_0 x0 x1 x2 x3 x4 x5 x6 x7 x8 x9), .int .i64 (g65_1 x0 x1 x2 x3 x4 x5 x6 x7 x8 x9)]⟩⟩⟩
noncomputable def g17_m1 (x0 : Int) (x1 : Int) (x2 : Bool) (x3 : Int) (x4 : Int) (x5 : Int) (x6 : ByteArray) (x7 : ByteArray) (x8 : ByteArray) (x9 : Int) : Bool := (bif ((g64_1 x0 x1 x2 x3 x4 x5 x6 x7 x8 x9) == (g65_1 x0 x1 x2 x3 x4 x5 x6 x7 x8 x9)) then (((Sl.toStr (g64_0 x0 x1 x2 x3 x4 x5 x6 x7 x8 x9)) : ByteArray).toList == ((Sl.toStr (g65_0 x0 x1 x2 x3 x4 x5 x6 x7 x8 x9)) : ByteArray).toList) else false)
noncomputable def g17 (x0 : Int) (x1 : Int) (x2 : Bool) (x3 : Int) (x4 : Int) (x5 : Int) (x6 : ByteArray) (x7 : ByteArray) (x8 : ByteArray) (x9 : Int) : Bool := (g17_m1 x0 x1 x2 x3 x4 x5 x6 x7 x8 x9)
noncomputable def F17 : Fq := ⟨[.g [kI, kI, kB, kI, kI, kI, kS, kS, kS, kI]], fun (x0 : Int) (x1 : Int) x2 (x3 : Int) (x4 : Int) (x5 : Int) x6 x7 x8 (x9 : Int) => ⟨⟨some (x6.size ≤ 10000000000 ∧ x7.size ≤ 10000000000 ∧ x8.size ≤ 10000000000), .bool (g17 x0 x1 x2 x3 x4 x5 x6 x7 x8 x9)⟩⟩⟩
end Go.Proofs.YtchhfojblmceiaaGreat
/-
  Walks: what functions of the program answer, as functions.
-/
namespace Go.Proofs.YtchhfojblmceiaaGreat
open Go Go.Vc Go.RowKit
set_option maxRecDepth 100000
set_option maxHeartbeats 4000000
noncomputable def g205_m1 (x0 : Int) (x1 : Sl Int) (x2 : Bool) : Bool := (bif x2 then true else (decide ((x1.n : Int) < x0)))
noncomputable def g205 (x0 : Int) (x1 : Sl Int) (x2 : Bool) : Sl Int := (bif (g205_m1 x0 x1 x2) then (nilSl : Sl Int) else (Sl.part x1 0 x0))
noncomputable def g205_h0_0 (x0 : Int) (x1 : Sl Int) (x2 : Bool) : Sl Int := (bif (g205_m1 x0 x1 x2) then x1 else (Sl.part x1 x0 ((x1.n : Nat) : Int)))
noncomputable def g205_h0_1 (x0 : Int) (x1 : Sl Int) (x2 : Bool) : Bool := (bif (g205_m1 x0 x1 x2) then true else x2)
noncomputable def F205 : Hq := ⟨[.p 0, .v kI], [(.h 0 0, .sl E5), (.h 0 1, kB)], [[U, U]], fun (x0 : Int) x1 x2 => ⟨⟨some (0 ≤ x0), [ofSl 1 e5 (g205 x0 x1 x2)], [[ofSl 1 e5 (g205_h0_0 x0 x1 x2), .bool (g205_h0_1 x0 x1 x2)]]⟩⟩⟩
theorem pc205 : HqOk Tryz.prog 130 F205 _ (F205.sh.flatMap Sh.bs) F205.f [] :=
  fun (x0 : Int) x1 n1 x2 hp => heap_of_exec (X := (mkXh 1 [] [])) (R := ⟨.heap, [.tmp 4], [(.t 0, .sl E5), (.h 0 0, .sl E5), (.h 0 1, kB)], ⟨[U], [[U, U]]⟩⟩) (h := (.s .z (.s (.j ⟨262163, [], [(.t 18, kB)], [], .f⟩ .z .z) .z))) (ms := []) (p := ((g205_m1 x0 x1 x2) = false → ((((0 : Int) ≤ 0) ∧ ((0 : Int) ≤ x0) ∧ ((x0 : Int) ≤ x0) ∧ ((x0 : Int) ≤ ((x1.n : Nat) : Int))) ∧ (((0 : Int) ≤ x0) ∧ ((x0 : Int) ≤ ((x1.n : Nat) : Int)) ∧ ((((x1.n : Nat) : Int) : Int) ≤ ((x1.n : Nat) : Int)) ∧ ((((x1.n : Nat) : Int) : Int) ≤ ((x1.n : Nat) : Int)))))) (mkXh_ok trivial trivial) Tryz.func130 rfl rfl rfl (by kernel_rfl) ((fun h1 => ⟨(by have := h1; simp [g205_m1] at this; omega), (by have := h1; simp [g205_m1] at this; omega)⟩))
theorem k205 : XHOk Tryz.prog 130 F205.ans := Hq.ok ⟨_, _, Tryz.func130, rfl, by kernel_rfl⟩ (by kernel_rfl) pc205
theorem u205 {x0 : Int} {x1 : Sl Int} {x2 : Bool} (h : U8 x1) : U8 (g205_h0_0 x0 x1 x2) := by
  unfold g205_h0_0
  cases g205_m1 x0 x1 x2
  · exact fun i => h _
  · exact h
theorem v205 {x0 : Int} {x1 : Sl Int} {x2 : Bool} (h : U8 x1) : U8 (g205 x0 x1 x2) := by
  unfold g205
  cases g205_m1 x0 x1 x2
  · exact fun i => h _
  · exact fun i => ⟨by show (0 : Int) ≤ default; decide, by show (default : Int) ≤ 255; decide⟩
theorem len205 (x0 : Int) (x1 : Sl Int) (x2 : Bool) : (g205 x0 x1 x2).n ≤ Int.toNat x0 := by
  unfold g205
  cases g205_m1 x0 x1 x2
  · simp only [cond_false, Sl.part_n]; omega
  · simp only [cond_true, nilSl_n]; omega
noncomputable def g161_l1 (x0 : Sl Int) (x1 : Bool) : Nat → Int → Int → Int
  | 0, _, _ => default
  | k + 1, v1_0, v1_1 => (bif (decide (v1_1 < ((g205 8 x0 x1).n : Int))) then (g161_l1 x0 x1 k (bits .or .u64 (IntKind.u64.wrap (v1_0 * 2 ^ (Int.toNat 8))) (IntKind.u64.wrap ((g205 8 x0 x1).at' (Int.toNat v1_1)))) (IntKind.i64.wrap (v1_1 + 1))) else v1_0)
noncomputable def g161_r1 (x0 : Sl Int) (x1 : Bool) : Int := g161_l1 x0 x1 ((Int.toNat (((g205 8 x0 x1).n : Int) - 0)) + 1) 0 0
noncomputable def g161 (x0 : Sl Int) (x1 : Bool) : Int := (IntKind.i64.wrap (IntKind.u64.wrap ((g161_r1 x0 x1) - 4611686018427387904)))
noncomputable def g161_h0_0 (x0 : Sl Int) (x1 : Bool) : Sl Int := (g205_h0_0 8 x0 x1)
noncomputable def g161_h0_1 (x0 : Sl Int) (x1 : Bool) : Bool := (g205_h0_1 8 x0 x1)
noncomputable def F161 : Hq := ⟨[.p 0], [(.h 0 0, .sl E5), (.h 0 1, kB)], [[U, U]], fun x0 x1 => ⟨⟨none, [.int .i64 (g161 x0 x1)], [[ofSl 1 e5 (g161_h0_0 x0 x1), .bool (g161_h0_1 x0 x1)]]⟩⟩⟩
theorem pc161 : HqOk Tryz.prog 79 F161 _ (F161.sh.flatMap Sh.bs) F161.f [] :=
  fun x0 n0 x1 => heap_of_exec (X := (mkXh 1 [] [(130, F205.ans)])) (R := ⟨.heap, [.tmp 2], [(.t 0, kI), (.h 0 0, .sl E5), (.h 0 1, kB)], ⟨[U], [[U, U]]⟩⟩) (h := (.s .z (.s .z (.j ⟨12, [], [], [], .f⟩ (.s .z (.lp ⟨908, [], [], [(.t 3, .int .u64), (.t 9, kI)], some 0, false, 12, [], [(.t 3, .int .u64)], fun k (s : Int × Int) => g161_l1 x0 x1 k s.1 s.2, .f, fun (s : Int × Int) => (0 ≤ s.2 ∧ s.2 ≤ ((g205 8 x0 x1).n : Int)), fun (s : Int × Int) => (Int.toNat (((g205 8 x0 x1).n : Int) - s.2)), none⟩ .z)) .z)))) (ms := []) (p := ((0 ≤ (8 : Int)) ∧ (((0 ≤ (0 : Int) ∧ (0 : Int) ≤ ((g205 8 x0 x1).n : Int))) ∧ (∀ (v1_0 : Int) (v1_1 : Int), (0 ≤ v1_1 ∧ v1_1 ≤ ((g205 8 x0 x1).n : Int)) → (((decide (v1_1 < ((g205 8 x0 x1).n : Int))) = true → (((0 : Int) ≤ v1_1 ∧ v1_1 < (((g205 8 x0 x1).n : Nat) : Int)) ∧ ((0 : Int) ≤ 8 ∧ (8 : Int) ≤ 64))) ∧ ((decide (v1_1 < ((g205 8 x0 x1).n : Int))) = true → ((0 ≤ (IntKind.i64.wrap (v1_1 + 1)) ∧ (IntKind.i64.wrap (v1_1 + 1)) ≤ ((g205 8 x0 x1).n : Int)) ∧ (Int.toNat (((g205 8 x0 x1).n : Int) - (IntKind.i64.wrap (v1_1 + 1)))) < (Int.toNat (((g205 8 x0 x1).n : Int) - v1_1))))))))) (mkXh_ok trivial ⟨k205, trivial⟩) Tryz.func79 rfl rfl rfl (by kernel_rfl) (⟨(by omega), ⟨(by have := len205 8 x0 x1; omega), (fun v1_0 v1_1 hI1 => ⟨(fun h2 => ⟨(by have := of_decide_eq_true h2; have := len205 8 x0 x1; omega), (by have := of_decide_eq_true h2; have := len205 8 x0 x1; omega)⟩), (fun h3 => (by have := of_decide_eq_true h3; have := len205 8 x0 x1; first | omega | (have := wrap64 (x := (v1_1 + 1)) (by omega) (by omega); omega)))⟩)⟩⟩)
theorem k161 : XHOk Tryz.prog 79 F161.ans := Hq.ok ⟨_, _, Tryz.func79, rfl, by kernel_rfl⟩ (by kernel_rfl) pc161
theorem u161 {x0 : Sl Int} {x1 : Bool} (h : U8 x0) : U8 (g161_h0_0 x0 x1) := u205 h
noncomputable def g167 (x0 : Sl Int) (x1 : Bool) : Int := (bif (decide (0 < ((g205 1 x0 x1).n : Int))) then (IntKind.i64.wrap ((g205 1 x0 x1).at' (Int.toNat 0))) else 0)
noncomputable def g167_h0_0 (x0 : Sl Int) (x1 : Bool) : Sl Int := (g205_h0_0 1 x0 x1)
noncomputable def g167_h0_1 (x0 : Sl Int) (x1 : Bool) : Bool := (g205_h0_1 1 x0 x1)
noncomputable def F167 : Hq := ⟨[.p 0], [(.h 0 0, .sl E5), (.h 0 1, kB)], [[U, U]], fun x0 x1 => ⟨⟨none, [.int .i64 (g167 x0 x1)], [[ofSl 1 e5 (g167_h0_0 x0 x1), .bool (g167_h0_1 x0 x1)]]⟩⟩⟩
theorem pc167 : HqOk Tryz.prog 85 F167 _ (F167.sh.flatMap Sh.bs) F167.f [] :=
  fun x0 n0 x1 => heap_of_exec (X := (mkXh 1 [] [(130, F205.ans)])) (R := ⟨.heap, [.tmp 2], [(.t 0, kI), (.h 0 0, .sl E5), (.h 0 1, kB)], ⟨[U], [[U, U]]⟩⟩) (h := (.s .z (.s (.s .z (.l1 .z)) .z))) (ms := [.f, .l, .l]) (p := ((0 ≤ (1 : Int)) ∧ ((decide (0 < ((g205 1 x0 x1).n : Int))) = true → ((0 : Int) ≤ 0 ∧ 0 < (((g205 1 x0 x1).n : Nat) : Int))))) (mkXh_ok trivial ⟨k205, trivial⟩) Tryz.func85 rfl rfl rfl (by kernel_rfl) (⟨(by omega), (fun h1 => (by have := of_decide_eq_true h1; have := len205 1 x0 x1; omega))⟩)
theorem k167 : XHOk Tryz.prog 85 F167.ans := Hq.ok ⟨_, _, Tryz.func85, rfl, by kernel_rfl⟩ (by kernel_rfl) pc167
theorem u167 {x0 : Sl Int} {x1 : Bool} (h : U8 x0) : U8 (g167_h0_0 x0 x1) := u205 h
theorem r167 (x0 : Sl Int) (x1 : Bool) (h : U8 x0) : 0 ≤ g167 x0 x1 ∧ g167 x0 x1 ≤ 255 := by
  unfold g167
  have h2 : 0 ≤ (g205 1 x0 x1).at' (Int.toNat 0) ∧ (g205 1 x0 x1).at' (Int.toNat 0) ≤ 255 := v205 h _
  cases decide (0 < ((g205 1 x0 x1).n : Int))
  · simp
  · simp only [cond_true]; rw [wrap64 (by omega) (by omega)]; exact h2
noncomputable def g164 (x0 : Sl Int) (x1 : Bool) : ByteArray := (Sl.toStr (g205 (g167 x0 x1) (g167_h0_0 x0 x1) (g167_h0_1 x0 x1)))
noncomputable def g164_h0_0 (x0 : Sl Int) (x1 : Bool) : Sl Int := (g205_h0_0 (g167 x0 x1) (g167_h0_0 x0 x1) (g167_h0_1 x0 x1))
noncomputable def g164_h0_1 (x0 : Sl Int) (x1 : Bool) : Bool := (g205_h0_1 (g167 x0 x1) (g167_h0_0 x0 x1) (g167_h0_1 x0 x1))
noncomputable def F164 : Hq := ⟨[.p 0], [(.h 0 0, .sl E5), (.h 0 1, kB)], [[U, U]], fun x0 x1 => ⟨⟨some (U8 x0), [.str (g164 x0 x1)], [[ofSl 1 e5 (g164_h0_0 x0 x1), .bool (g164_h0_1 x0 x1)]]⟩⟩⟩
theorem pc164 : HqOk Tryz.prog 82 F164 _ (F164.sh.flatMap Sh.bs) F164.f [] :=
  fun x0 n0 x1 hp => heap_of_exec (X := (mkXh 1 [] [(85, F167.ans), (130, F205.ans)])) (R := ⟨.heap, [.tmp 2], [(.t 0, kS), (.h 0 0, .sl E5), (.h 0 1, kB)], ⟨[U], [[U, U]]⟩⟩) (h := .z) (ms := []) (p := (0 ≤ (g167 x0 x1))) (mkXh_ok trivial ⟨k167, k205, trivial⟩) Tryz.func82 rfl rfl rfl (by kernel_rfl) ((by have := r167 x0 x1 (by repeat first | assumption | apply u205 | apply u161 | apply u167 | apply u164 | apply u227 | apply u202); omega))
theorem k164 : XHOk Tryz.prog 82 F164.ans := Hq.ok ⟨_, _, Tryz.func82, rfl, by kernel_rfl⟩ (by kernel_rfl) pc164
theorem u164 {x0 : Sl Int} {x1 : Bool} (h : U8 x0) : U8 (g164_h0_0 x0 x1) := u205 (u167 h)
noncomputable def g227_0 (x0 : Sl Int) (x1 : Bool) : Int := (g167 x0 x1)
noncomputable def g227_1 (x0 : Sl Int) (x1 : Bool) : ByteArray := (g164 (g167_h0_0 x0 x1) (g167_h0_1 x0 x1))
noncomputable def g227_2 (x0 : Sl Int) (x1 : Bool) : ByteArray := (g164 (g164_h0_0 (g167_h0_0 x0 x1) (g167_h0_1 x0 x1)) (g164_h0_1 (g167_h0_0 x0 x1) (g167_h0_1 x0 x1)))
noncomputable def g227_3 (x0 : Sl Int) (x1 : Bool) : ByteArray := (g164 (g164_h0_0 (g164_h0_0 (g167_h0_0 x0 x1) (g167_h0_1 x0 x1)) (g164_h0_1 (g167_h0_0 x0 x1) (g167_h0_1 x0 x1))) (g164_h0_1 (g164_h0_0 (g167_h0_0 x0 x1) (g167_h0_1 x0 x1)) (g164_h0_1 (g167_h0_0 x0 x1) (g167_h0_1 x0 x1))))
noncomputable def g227_4 (x0 : Sl Int) (x1 : Bool) : Int := (g161 (g164_h0_0 (g164_h0_0 (g164_h0_0 (g167_h0_0 x0 x1) (g167_h0_1 x0 x1)) (g164_h0_1 (g167_h0_0 x0 x1) (g167_h0_1 x0 x1))) (g164_h0_1 (g164_h0_0 (g167_h0_0 x0 x1) (g167_h0_1 x0 x1)) (g164_h0_1 (g167_h0_0 x0 x1) (g167_h0_1 x0 x1)))) (g164_h0_1 (g164_h0_0 (g164_h0_0 (g167_h0_0 x0 x1) (g167_h0_1 x0 x1)) (g164_h0_1 (g167_h0_0 x0 x1) (g167_h0_1 x0 x1))) (g164_h0_1 (g164_h0_0 (g167_h0_0 x0 x1) (g167_h0_1 x0 x1)) (g164_h0_1 (g167_h0_0 x0 x1) (g167_h0_1 x0 x1)))))
noncomputable def g227_h0_0 (x0 : Sl Int) (x1 : Bool) : Sl Int := (g161_h0_0 (g164_h0_0 (g164_h0_0 (g164_h0_0 (g167_h0_0 x0 x1) (g167_h0_1 x0 x1)) (g164_h0_1 (g167_h0_0 x0 x1) (g167_h0_1 x0 x1))) (g164_h0_1 (g164_h0_0 (g167_h0_0 x0 x1) (g167_h0_1 x0 x1)) (g164_h0_1 (g167_h0_0 x0 x1) (g167_h0_1 x0 x1)))) (g164_h0_1 (g164_h0_0 (g164_h0_0 (g167_h0_0 x0 x1) (g167_h0_1 x0 x1)) (g164_h0_1 (g167_h0_0 x0 x1) (g167_h0_1 x0 x1))) (g164_h0_1 (g164_h0_0 (g167_h0_0 x0 x1) (g167_h0_1 x0 x1)) (g164_h0_1 (g167_h0_0 x0 x1) (g167_h0_1 x0 x1)))))
noncomputable def g227_h0_1 (x0 : Sl Int) (x1 : Bool) : Bool := (g161_h0_1 (g164_h0_0 (g164_h0_0 (g164_h0_0 (g167_h0_0 x0 x1) (g167_h0_1 x0 x1)) (g164_h0_1 (g167_h0_0 x0 x1) (g167_h0_1 x0 x1))) (g164_h0_1 (g164_h0_0 (g167_h0_0 x0 x1) (g167_h0_1 x0 x1)) (g164_h0_1 (g167_h0_0 x0 x1) (g167_h0_1 x0 x1)))) (g164_h0_1 (g164_h0_0 (g164_h0_0 (g167_h0_0 x0 x1) (g167_h0_1 x0 x1)) (g164_h0_1 (g167_h0_0 x0 x1) (g167_h0_1 x0 x1))) (g164_h0_1 (g164_h0_0 (g167_h0_0 x0 x1) (g167_h0_1 x0 x1)) (g164_h0_1 (g167_h0_0 x0 x1) (g167_h0_1 x0 x1)))))
noncomputable def F227 : Hq := ⟨[.p 0], [(.h 0 0, .sl E5), (.h 0 1, kB)], [[U, U]], fun x0 x1 => ⟨⟨some (U8 x0), [.agg [.int .i64 (g227_0 x0 x1), .str (g227_1 x0 x1), .str (g227_2 x0 x1), .str (g227_3 x0 x1), .int .i64 (g227_4 x0 x1)]], [[ofSl 1 e5 (g227_h0_0 x0 x1), .bool (g227_h0_1 x0 x1)]]⟩⟩⟩
theorem pc227 : HqOk Tryz.prog 191 F227 _ (F227.sh.flatMap Sh.bs) F227.f [] :=
  fun x0 _ x1 hp => heap_of_exec (X := (mkXh 1 [] [(79, F161.ans), (82, F164.ans), (85, F167.ans)])) (R := ⟨.heap, [.cell 2 52], [(.c 0 0, kI), (.c 0 1, kS), (.c 0 2, kS), (.c 0 3, kS), (.c 0 4, kI), (.h 0 0, .sl E5), (.h 0 1, kB)], ⟨[.agg (us 5 [])], [[U, U]]⟩⟩) (h := .z) (ms := []) (p := ((U8 (g167_h0_0 x0 x1)) ∧ ((U8 (g164_h0_0 (g167_h0_0 x0 x1) (g167_h0_1 x0 x1))) ∧ (U8 (g164_h0_0 (g164_h0_0 (g167_h0_0 x0 x1) (g167_h0_1 x0 x1)) (g164_h0_1 (g167_h0_0 x0 x1) (g167_h0_1 x0 x1))))))) (mkXh_ok trivial ⟨k161, k164, k167, trivial⟩) Tryz.func191 rfl rfl rfl (by kernel_rfl) (⟨(by repeat first | assumption | apply u205 | apply u161 | apply u167 | apply u164 | apply u227 | apply u202), ⟨(by repeat first | assumption | apply u205 | apply u161 | apply u167 | apply u164 | apply u227 | apply u202), (by repeat first | assumption | apply u205 | apply u161 | apply u167 | apply u164 | apply u227 | apply u202)⟩⟩)
theorem k227 : XHOk Tryz.prog 191 F227.ans := Hq.ok ⟨_, _, Tryz.func191, rfl, by kernel_rfl⟩ (by kernel_rfl) pc227
theorem u227 {x0 : Sl Int} {x1 : Bool} (h : U8 x0) : U8 (g227_h0_0 x0 x1) := u161 (u164 (u164 (u164 (u167 h))))
noncomputable def g202_m1 (x0 : Sl Int) (x1 : Bool) : Sl Int := (bif ((g161 x0 x1) != 0) then (g227_h0_0 (g161_h0_0 (g161_h0_0 x0 x1) (g161_h0_1 x0 x1)) (g161_h0_1 (g161_h0_0 x0 x1) (g161_h0_1 x0 x1))) else (g161_h0_0 x0 x1))
noncomputable def g202_m2 (x0 : Sl Int) (x1 : Bool) : Bool := (bif ((g161 x0 x1) != 0) then (g227_h0_1 (g161_h0_0 (g161_h0_0 x0 x1) (g161_h0_1 x0 x1)) (g161_h0_1 (g161_h0_0 x0 x1) (g161_h0_1 x0 x1))) else (g161_h0_1 x0 x1))
noncomputable def g202_m3 (x0 : Sl Int) (x1 : Bool) : Int := (bif ((g161 x0 x1) != 0) then (g161 (g161_h0_0 x0 x1) (g161_h0_1 x0 x1)) else 0)
noncomputable def g202_m4 (x0 : Sl Int) (x1 : Bool) : Int := (bif ((g161 x0 x1) != 0) then (g227_0 (g161_h0_0 (g161_h0_0 x0 x1) (g161_h0_1 x0 x1)) (g161_h0_1 (g161_h0_0 x0 x1) (g161_h0_1 x0 x1))) else 0)
noncomputable def g202_m5 (x0 : Sl Int) (x1 : Bool) : ByteArray := (bif ((g161 x0 x1) != 0) then (g227_1 (g161_h0_0 (g161_h0_0 x0 x1) (g161_h0_1 x0 x1)) (g161_h0_1 (g161_h0_0 x0 x1) (g161_h0_1 x0 x1))) else ⟨#[]⟩)
noncomputable def g202_m6 (x0 : Sl Int) (x1 : Bool) : ByteArray := (bif ((g161 x0 x1) != 0) then (g227_2 (g161_h0_0 (g161_h0_0 x0 x1) (g161_h0_1 x0 x1)) (g161_h0_1 (g161_h0_0 x0 x1) (g161_h0_1 x0 x1))) else ⟨#[]⟩)
noncomputable def g202_m7 (x0 : Sl Int) (x1 : Bool) : ByteArray := (bif ((g161 x0 x1) != 0) then (g227_3 (g161_h0_0 (g161_h0_0 x0 x1) (g161_h0_1 x0 x1)) (g161_h0_1 (g161_h0_0 x0 x1) (g161_h0_1 x0 x1))) else ⟨#[]⟩)
noncomputable def g202_m8 (x0 : Sl Int) (x1 : Bool) : Int := (bif ((g161 x0 x1) != 0) then (g227_4 (g161_h0_0 (g161_h0_0 x0 x1) (g161_h0_1 x0 x1)) (g161_h0_1 (g161_h0_0 x0 x1) (g161_h0_1 x0 x1))) else 0)
noncomputable def g202_0 (x0 : Sl Int) (x1 : Bool) : Int := (g161 x0 x1)
noncomputable def g202_1 (x0 : Sl Int) (x1 : Bool) : Int := (g202_m3 x0 x1)
noncomputable def g202_2 (x0 : Sl Int) (x1 : Bool) : Int := (g202_m4 x0 x1)
noncomputable def g202_3 (x0 : Sl Int) (x1 : Bool) : ByteArray := (g202_m5 x0 x1)
noncomputable def g202_4 (x0 : Sl Int) (x1 : Bool) : ByteArray := (g202_m6 x0 x1)
noncomputable def g202_5 (x0 : Sl Int) (x1 : Bool) : ByteArray := (g202_m7 x0 x1)
noncomputable def g202_6 (x0 : Sl Int) (x1 : Bool) : Int := (g202_m8 x0 x1)
noncomputable def g202_h0_0 (x0 : Sl Int) (x1 : Bool) : Sl Int := (g202_m1 x0 x1)
noncomputable def g202_h0_1 (x0 : Sl Int) (x1 : Bool) : Bool := (g202_m2 x0 x1)
noncomputable def F202 : Hq := ⟨[.p 0], [(.h 0 0, .sl E5), (.h 0 1, kB)], [[U, U]], fun x0 x1 => ⟨⟨some (U8 x0), [.agg [.int .i64 (g202_0 x0 x1), .int .i64 (g202_1 x0 x1), .int .i64 (g202_2 x0 x1), .str (g202_3 x0 x1), .str (g202_4 x0 x1), .str (g202_5 x0 x1), .int .i64 (g202_6 x0 x1)]], [[ofSl 1 e5 (g202_h0_0 x0 x1), .bool (g202_h0_1 x0 x1)]]⟩⟩⟩
theorem pc202 : HqOk Tryz.prog 166 F202 _ (F202.sh.flatMap Sh.bs) F202.f [] :=
  fun x0 _ x1 hp => heap_of_exec (X := (mkXh 1 [] [(79, F161.ans), (191, F227.ans)])) (R := ⟨.heap, [.cell 2 67], [(.c 0 0, kI), (.c 0 1, kI), (.c 0 2, kI), (.c 0 3, kS), (.c 0 4, kS), (.c 0 5, kS), (.c 0 6, kI), (.h 0 0, .sl E5), (.h 0 1, kB)], ⟨[.agg (us 7 [])], [[U, U]]⟩⟩) (h := (.s .z (.s .z (.j ⟨12, [], [(.h 0 0, .sl E5), (.h 0 1, kB), (.h 2 1, kI), (.h 2 2, kI), (.h 2 3, kS), (.h 2 4, kS), (.h 2 5, kS), (.h 2 6, kI)], [], .f⟩ .z .z)))) (ms := []) (p := (((g161 x0 x1) != 0) = true → (U8 (g161_h0_0 (g161_h0_0 x0 x1) (g161_h0_1 x0 x1))))) (mkXh_ok trivial ⟨k161, k227, trivial⟩) Tryz.func166 rfl rfl rfl (by kernel_rfl) ((fun h1 => (by repeat first | assumption | apply u205 | apply u161 | apply u167 | apply u164 | apply u227 | apply u202)))
theorem k202 : XHOk Tryz.prog 166 F202.ans := Hq.ok ⟨_, _, Tryz.func166, rfl, by kernel_rfl⟩ (by kernel_rfl) pc202
noncomputable def g148_m1 (x0 : Sl Int) (x1 : Bool) : Sl Int := (bif ((g167 (g161_h0_0 (g161_h0_0 x0 x1) (g161_h0_1 x0 x1)) (g161_h0_1 (g161_h0_0 x0 x1) (g161_h0_1 x0 x1))) == 0) then (g202_h0_0 (g167_h0_0 (g161_h0_0 (g161_h0_0 x0 x1) (g161_h0_1 x0 x1)) (g161_h0_1 (g161_h0_0 x0 x1) (g161_h0_1 x0 x1))) (g167_h0_1 (g161_h0_0 (g161_h0_0 x0 x1) (g161_h0_1 x0 x1)) (g161_h0_1 (g161_h0_0 x0 x1) (g161_h0_1 x0 x1)))) else (g167_h0_0 (g161_h0_0 (g161_h0_0 x0 x1) (g161_h0_1 x0 x1)) (g161_h0_1 (g161_h0_0 x0 x1) (g161_h0_1 x0 x1))))
noncomputable def g148_m2 (x0 : Sl Int) (x1 : Bool) : Bool := (bif ((g167 (g161_h0_0 (g161_h0_0 x0 x1) (g161_h0_1 x0 x1)) (g161_h0_1 (g161_h0_0 x0 x1) (g161_h0_1 x0 x1))) == 0) then (g202_h0_1 (g167_h0_0 (g161_h0_0 (g161_h0_0 x0 x1) (g161_h0_1 x0 x1)) (g161_h0_1 (g161_h0_0 x0 x1) (g161_h0_1 x0 x1))) (g167_h0_1 (g161_h0_0 (g161_h0_0 x0 x1) (g161_h0_1 x0 x1)) (g161_h0_1 (g161_h0_0 x0 x1) (g161_h0_1 x0 x1)))) else (g167_h0_1 (g161_h0_0 (g161_h0_0 x0 x1) (g161_h0_1 x0 x1)) (g161_h0_1 (g161_h0_0 x0 x1) (g161_h0_1 x0 x1))))
noncomputable def g148_m3 (x0 : Sl Int) (x1 : Bool) : Bool := (bif ((g167 (g161_h0_0 (g161_h0_0 x0 x1) (g161_h0_1 x0 x1)) (g161_h0_1 (g161_h0_0 x0 x1) (g161_h0_1 x0 x1))) == 0) then false else true)
noncomputable def g148_m4 (x0 : Sl Int) (x1 : Bool) : Int := (bif ((g167 (g161_h0_0 (g161_h0_0 x0 x1) (g161_h0_1 x0 x1)) (g161_h0_1 (g161_h0_0 x0 x1) (g161_h0_1 x0 x1))) == 0) then (g202_0 (g167_h0_0 (g161_h0_0 (g161_h0_0 x0 x1) (g161_h0_1 x0 x1)) (g161_h0_1 (g161_h0_0 x0 x1) (g161_h0_1 x0 x1))) (g167_h0_1 (g161_h0_0 (g161_h0_0 x0 x1) (g161_h0_1 x0 x1)) (g161_h0_1 (g161_h0_0 x0 x1) (g161_h0_1 x0 x1)))) else 0)
noncomputable def g148_m5 (x0 : Sl Int) (x1 : Bool) : Int := (bif ((g167 (g161_h0_0 (g161_h0_0 x0 x1) (g161_h0_1 x0 x1)) (g161_h0_1 (g161_h0_0 x0 x1) (g161_h0_1 x0 x1))) == 0) then (g202_1 (g167_h0_0 (g161_h0_0 (g161_h0_0 x0 x1) (g161_h0_1 x0 x1)) (g161_h0_1 (g161_h0_0 x0 x1) (g161_h0_1 x0 x1))) (g167_h0_1 (g161_h0_0 (g161_h0_0 x0 x1) (g161_h0_1 x0 x1)) (g161_h0_1 (g161_h0_0 x0 x1) (g161_h0_1 x0 x1)))) else 0)
noncomputable def g148_m6 (x0 : Sl Int) (x1 : Bool) : Int := (bif ((g167 (g161_h0_0 (g161_h0_0 x0 x1) (g161_h0_1 x0 x1)) (g161_h0_1 (g161_h0_0 x0 x1) (g161_h0_1 x0 x1))) == 0) then (g202_2 (g167_h0_0 (g161_h0_0 (g161_h0_0 x0 x1) (g161_h0_1 x0 x1)) (g161_h0_1 (g161_h0_0 x0 x1) (g161_h0_1 x0 x1))) (g167_h0_1 (g161_h0_0 (g161_h0_0 x0 x1) (g161_h0_1 x0 x1)) (g161_h0_1 (g161_h0_0 x0 x1) (g161_h0_1 x0 x1)))) else 0)
noncomputable def g148_m7 (x0 : Sl Int) (x1 : Bool) : ByteArray := (bif ((g167 (g161_h0_0 (g161_h0_0 x0 x1) (g161_h0_1 x0 x1)) (g161_h0_1 (g161_h0_0 x0 x1) (g161_h0_1 x0 x1))) == 0) then (g202_3 (g167_h0_0 (g161_h0_0 (g161_h0_0 x0 x1) (g161_h0_1 x0 x1)) (g161_h0_1 (g161_h0_0 x0 x1) (g161_h0_1 x0 x1))) (g167_h0_1 (g161_h0_0 (g161_h0_0 x0 x1) (g161_h0_1 x0 x1)) (g161_h0_1 (g161_h0_0 x0 x1) (g161_h0_1 x0 x1)))) else ⟨#[]⟩)
noncomputable def g148_m8 (x0 : Sl Int) (x1 : Bool) : ByteArray := (bif ((g167 (g161_h0_0 (g161_h0_0 x0 x1) (g161_h0_1 x0 x1)) (g161_h0_1 (g161_h0_0 x0 x1) (g161_h0_1 x0 x1))) == 0) then (g202_4 (g167_h0_0 (g161_h0_0 (g161_h0_0 x0 x1) (g161_h0_1 x0 x1)) (g161_h0_1 (g161_h0_0 x0 x1) (g161_h0_1 x0 x1))) (g167_h0_1 (g161_h0_0 (g161_h0_0 x0 x1) (g161_h0_1 x0 x1)) (g161_h0_1 (g161_h0_0 x0 x1) (g161_h0_1 x0 x1)))) else ⟨#[]⟩)
noncomputable def g148_m9 (x0 : Sl Int) (x1 : Bool) : ByteArray := (bif ((g167 (g161_h0_0 (g161_h0_0 x0 x1) (g161_h0_1 x0 x1)) (g161_h0_1 (g161_h0_0 x0 x1) (g161_h0_1 x0 x1))) == 0) then (g202_5 (g167_h0_0 (g161_h0_0 (g161_h0_0 x0 x1) (g161_h0_1 x0 x1)) (g161_h0_1 (g161_h0_0 x0 x1) (g161_h0_1 x0 x1))) (g167_h0_1 (g161_h0_0 (g161_h0_0 x0 x1) (g161_h0_1 x0 x1)) (g161_h0_1 (g161_h0_0 x0 x1) (g161_h0_1 x0 x1)))) else ⟨#[]⟩)
noncomputable def g148_m10 (x0 : Sl Int) (x1 : Bool) : Int := (bif ((g167 (g161_h0_0 (g161_h0_0 x0 x1) (g161_h0_1 x0 x1)) (g161_h0_1 (g161_h0_0 x0 x1) (g161_h0_1 x0 x1))) == 0) then (g202_6 (g167_h0_0 (g161_h0_0 (g161_h0_0 x0 x1) (g161_h0_1 x0 x1)) (g161_h0_1 (g161_h0_0 x0 x1) (g161_h0_1 x0 x1))) (g167_h0_1 (g161_h0_0 (g161_h0_0 x0 x1) (g161_h0_1 x0 x1)) (g161_h0_1 (g161_h0_0 x0 x1) (g161_h0_1 x0 x1)))) else 0)
noncomputable def g148_p11 (x0 : Sl Int) (x1 : Bool) : Bool := (bif ((g167 (g161_h0_0 (g161_h0_0 x0 x1) (g161_h0_1 x0 x1)) (g161_h0_1 (g161_h0_0 x0 x1) (g161_h0_1 x0 x1))) == 0) then true else (bif ((g167 (g161_h0_0 (g161_h0_0 x0 x1) (g161_h0_1 x0 x1)) (g161_h0_1 (g161_h0_0 x0 x1) (g161_h0_1 x0 x1))) == 1) then true else false))
noncomputable def g148_0_0 (x0 : Sl Int) (x1 : Bool) : Int := (g161 x0 x1)
noncomputable def g148_0_1 (x0 : Sl Int) (x1 : Bool) : Int := (g161 (g161_h0_0 x0 x1) (g161_h0_1 x0 x1))
noncomputable def g148_0_2 (x0 : Sl Int) (x1 : Bool) : Bool := (bif (g148_p11 x0 x1) then (g148_m3 x0 x1) else false)
noncomputable def g148_0_3 (x0 : Sl Int) (x1 : Bool) : Int := (bif (g148_p11 x0 x1) then (g148_m4 x0 x1) else 0)
noncomputable def g148_0_4 (x0 : Sl Int) (x1 : Bool) : Int := (bif (g148_p11 x0 x1) then (g148_m5 x0 x1) else 0)
noncomputable def g148_0_5 (x0 : Sl Int) (x1 : Bool) : Int := (bif (g148_p11 x0 x1) then (g148_m6 x0 x1) else 0)
noncomputable def g148_0_6 (x0 : Sl Int) (x1 : Bool) : ByteArray := (bif (g148_p11 x0 x1) then (g148_m7 x0 x1) else ⟨#[]⟩)
noncomputable def g148_0_7 (x0 : Sl Int) (x1 : Bool) : ByteArray := (bif (g148_p11 x0 x1) then (g148_m8 x0 x1) else ⟨#[]⟩)
noncomputable def g148_0_8 (x0 : Sl Int) (x1 : Bool) : ByteArray := (bif (g148_p11 x0 x1) then (g148_m9 x0 x1) else ⟨#[]⟩)
noncomputable def g148_0_9 (x0 : Sl Int) (x1 : Bool) : Int := (bif (g148_p11 x0 x1) then (g148_m10 x0 x1) else 0)
noncomputable def g148_1 (x0 : Sl Int) (x1 : Bool) : Bool := (bif (g148_p11 x0 x1) then true else false)
noncomputable def g148_h0_0 (x0 : Sl Int) (x1 : Bool) : Sl Int := (bif (g148_p11 x0 x1) then (g148_m1 x0 x1) else (g167_h0_0 (g161_h0_0 (g161_h0_0 x0 x1) (g161_h0_1 x0 x1)) (g161_h0_1 (g161_h0_0 x0 x1) (g161_h0_1 x0 x1))))
noncomputable def g148_h0_1 (x0 : Sl Int) (x1 : Bool) : Bool := (bif (g148_p11 x0 x1) then (g148_m2 x0 x1) else (g167_h0_1 (g161_h0_0 (g161_h0_0 x0 x1) (g161_h0_1 x0 x1)) (g161_h0_1 (g161_h0_0 x0 x1) (g161_h0_1 x0 x1))))
noncomputable def F148 : Hq := ⟨[.p 0], [(.h 0 0, .sl E5), (.h 0 1, kB)], [[U, U]], fun x0 x1 => ⟨⟨some (U8 x0), [.agg [.int .i64 (g148_0_0 x0 x1), .int .i64 (g148_0_1 x0 x1), .bool (g148_0_2 x0 x1), .int .i64 (g148_0_3 x0 x1), .int .i64 (g148_0_4 x0 x1), .int .i64 (g148_0_5 x0 x1), .str (g148_0_6 x0 x1), .str (g148_0_7 x0 x1), .str (g148_0_8 x0 x1), .int .i64 (g148_0_9 x0 x1)], .bool (g148_1 x0 x1)], [[ofSl 1 e5 (g148_h0_0 x0 x1), .bool (g148_h0_1 x0 x1)]]⟩⟩⟩
theorem pc148 : HqOk Tryz.prog 116 F148 _ (F148.sh.flatMap Sh.bs) F148.f [] :=
  fun x0 _ x1 hp => heap_of_exec (X := (mkXh 1 [] [(79, F161.ans), (85, F167.ans), (166, F202.ans)])) (R := ⟨.heap, [.cell 2 69, .tmp 3], [(.c 0 0, kI), (.c 0 1, kI), (.c 0 2, kB), (.c 0 3, kI), (.c 0 4, kI), (.c 0 5, kI), (.c 0 6, kS), (.c 0 7, kS), (.c 0 8, kS), (.c 0 9, kI), (.t 1, kB), (.h 0 0, .sl E5), (.h 0 1, kB)], ⟨[.agg (us 10 []), U], [[U, U]]⟩⟩) (h := (.s .z (.s .z (.j ⟨28, [], [(.h 0 0, .sl E5), (.h 0 1, kB), (.h 2 2, kB), (.h 2 3, kI), (.h 2 4, kI), (.h 2 5, kI), (.h 2 6, kS), (.h 2 7, kS), (.h 2 8, kS), (.h 2 9, kI)], [], .f⟩ .z .z)))) (ms := [.l, .l, .f, .f, .f, .f, .f, .f, .f, .f, .f, .f, .f]) (p := (((g167 (g161_h0_0 (g161_h0_0 x0 x1) (g161_h0_1 x0 x1)) (g161_h0_1 (g161_h0_0 x0 x1) (g161_h0_1 x0 x1))) == 0) = true → (U8 (g167_h0_0 (g161_h0_0 (g161_h0_0 x0 x1) (g161_h0_1 x0 x1)) (g161_h0_1 (g161_h0_0 x0 x1) (g161_h0_1 x0 x1)))))) (mkXh_ok trivial ⟨k161, k167, k202, trivial⟩) Tryz.func116 rfl rfl rfl (by kernel_rfl) ((fun h1 => (by repeat first | assumption | apply u205 | apply u161 | apply u167 | apply u164 | apply u227 | apply u202)))
theorem k148 : XHOk Tryz.prog 116 F148.ans := Hq.ok ⟨_, _, Tryz.func116, rfl, by kernel_rfl⟩ (by kernel_rfl) pc148
noncomputable def g149_m1 (x0 : Bool) (x1 : Sl Int) : Bool := (bif (!x0) then true else (decide ((x1.n : Int) > 0)))
noncomputable def g149 (x0 : Bool) (x1 : Sl Int) (x2 : Bool) : Int := (bif x2 then 9 else (bif (g149_m1 x0 x1) then 8 else 0))
noncomputable def F149 : Hq := ⟨[.p 0, .v kB], [(.h 0 0, .sl E5), (.h 0 1, kB)], [[U, U]], fun x0 x1 x2 => ⟨⟨none, [.int .i64 (g149 x0 x1 x2)], [[ofSl 1 e5 x1, .bool x2]]⟩⟩⟩
theorem pc149 : HqOk Tryz.prog 87 F149 _ (F149.sh.flatMap Sh.bs) F149.f [] :=
  fun x0 x1 _ x2 => heap_of_exec (X := (mkXh 1 [] [])) (R := ⟨.heap, [.tmp 4], [(.t 0, kI), (.h 0 0, .sl E5), (.h 0 1, kB)], ⟨[U], [[U, U]]⟩⟩) (h := (.s .z (.s (.s .z (.s .z (.j ⟨1040, [], [(.t 10, kB)], [], .f⟩ .z .z))) .z))) (ms := [.f, .l, .l]) (p := True) (mkXh_ok trivial trivial) Tryz.func87 rfl rfl rfl (by kernel_rfl) (trivial)
theorem k149 : XHOk Tryz.prog 87 F149.ans := Hq.ok ⟨_, _, Tryz.func87, rfl, by kernel_rfl⟩ (by kernel_rfl) pc149
noncomputable def g81_0_0 (x0 : Sl Int) : Int := (bif (decide ((x0.n : Int) > 20000)) then 0 else (bif ((g149 (g148_1 x0 false) (g148_h0_0 x0 false) (g148_h0_1 x0 false)) != 0) then 0 else (bif ((g51 (g148_0_0 x0 false) (g148_0_1 x0 false) (g148_0_2 x0 false) (g148_0_3 x0 false) (g148_0_4 x0 false) (g148_0_5 x0 false) (g148_0_6 x0 false) (g148_0_7 x0 false) (g148_0_8 x0 false) (g148_0_9 x0 false)) != 0) then 0 else (g148_0_0 x0 false))))
noncomputable def g81_0_1 (x0 : Sl Int) : Int := (bif (decide ((x0.n : Int) > 20000)) then 0 else (bif ((g149 (g148_1 x0 false) (g148_h0_0 x0 false) (g148_h0_1 x0 false)) != 0) then 0 else (bif ((g51 (g148_0_0 x0 false) (g148_0_1 x0 false) (g148_0_2 x0 false) (g148_0_3 x0 false) (g148_0_4 x0 false) (g148_0_5 x0 false) (g148_0_6 x0 false) (g148_0_7 x0 false) (g148_0_8 x0 false) (g148_0_9 x0 false)) != 0) then 0 else (g148_0_1 x0 false))))
noncomputable def g81_0_2 (x0 : Sl Int) : Bool := (bif (decide ((x0.n : Int) > 20000)) then false else (bif ((g149 (g148_1 x0 false) (g148_h0_0 x0 false) (g148_h0_1 x0 false)) != 0) then false else (bif ((g51 (g148_0_0 x0 false) (g148_0_1 x0 false) (g148_0_2 x0 false) (g148_0_3 x0 false) (g148_0_4 x0 false) (g148_0_5 x0 false) (g148_0_6 x0 false) (g148_0_7 x0 false) (g148_0_8 x0 false) (g148_0_9 x0 false)) != 0) then false else (g148_0_2 x0 false))))
noncomputable def g81_0_3 (x0 : Sl Int) : Int := (bif (decide ((x0.n : Int) > 20000)) then 0 else (bif ((g149 (g148_1 x0 false) (g148_h0_0 x0 false) (g148_h0_1 x0 false)) != 0) then 0 else (bif ((g51 (g148_0_0 x0 false) (g148_0_1 x0 false) (g148_0_2 x0 false) (g148_0_3 x0 false) (g148_0_4 x0 false) (g148_0_5 x0 false) (g148_0_6 x0 false) (g148_0_7 x0 false) (g148_0_8 x0 false) (g148_0_9 x0 false)) != 0) then 0 else (g148_0_3 x0 false))))
noncomputable def g81_0_4 (x0 : Sl Int) : Int := (bif (decide ((x0.n : Int) > 20000)) then 0 else (bif ((g149 (g148_1 x0 false) (g148_h0_0 x0 false) (g148_h0_1 x0 false)) != 0) then 0 else (bif ((g51 (g148_0_0 x0 false) (g148_0_1 x0 false) (g148_0_2 x0 false) (g148_0_3 x0 false) (g148_0_4 x0 false) (g148_0_5 x0 false) (g148_0_6 x0 false) (g148_0_7 x0 false) (g148_0_8 x0 false) (g148_0_9 x0 false)) != 0) then 0 else (g148_0_4 x0 false))))
noncomputable def g81_0_5 (x0 : Sl Int) : Int := (bif (decide ((x0.n : Int) > 20000)) then 0 else (bif ((g149 (g148_1 x0 false) (g148_h0_0 x0 false) (g148_h0_1 x0 false)) != 0) then 0 else (bif ((g51 (g148_0_0 x0 false) (g148_0_1 x0 false) (g148_0_2 x0 false) (g148_0_3 x0 false) (g148_0_4 x0 false) (g148_0_5 x0 false) (g148_0_6 x0 false) (g148_0_7 x0 false) (g148_0_8 x0 false) (g148_0_9 x0 false)) != 0) then 0 else (g148_0_5 x0 false))))
noncomputable def g81_0_6 (x0 : Sl Int) : ByteArray := (bif (decide ((x0.n : Int) > 20000)) then ⟨#[]⟩ else (bif ((g149 (g148_1 x0 false) (g148_h0_0 x0 false) (g148_h0_1 x0 false)) != 0) then ⟨#[]⟩ else (bif ((g51 (g148_0_0 x0 false) (g148_0_1 x0 false) (g148_0_2 x0 false) (g148_0_3 x0 false) (g148_0_4 x0 false) (g148_0_5 x0 false) (g148_0_6 x0 false) (g148_0_7 x0 false) (g148_0_8 x0 false) (g148_0_9 x0 false)) != 0) then ⟨#[]⟩ else (g148_0_6 x0 false))))
noncomputable def g81_0_7 (x0 : Sl Int) : ByteArray := (bif (decide ((x0.n : Int) > 20000)) then ⟨#[]⟩ else (bif ((g149 (g148_1 x0 false) (g148_h0_0 x0 false) (g148_h0_1 x0 false)) != 0) then ⟨#[]⟩ else (bif ((g51 (g148_0_0 x0 false) (g148_0_1 x0 false) (g148_0_2 x0 false) (g148_0_3 x0 false) (g148_0_4 x0 false) (g148_0_5 x0 false) (g148_0_6 x0 false) (g148_0_7 x0 false) (g148_0_8 x0 false) (g148_0_9 x0 false)) != 0) then ⟨#[]⟩ else (g148_0_7 x0 false))))
noncomputable def g81_0_8 (x0 : Sl Int) : ByteArray := (bif (decide ((x0.n : Int) > 20000)) then ⟨#[]⟩ else (bif ((g149 (g148_1 x0 false) (g148_h0_0 x0 false) (g148_h0_1 x0 false)) != 0) then ⟨#[]⟩ else (bif ((g51 (g148_0_0 x0 false) (g148_0_1 x0 false) (g148_0_2 x0 false) (g148_0_3 x0 false) (g148_0_4 x0 false) (g148_0_5 x0 false) (g148_0_6 x0 false) (g148_0_7 x0 false) (g148_0_8 x0 false) (g148_0_9 x0 false)) != 0) then ⟨#[]⟩ else (g148_0_8 x0 false))))
noncomputable def g81_0_9 (x0 : Sl Int) : Int := (bif (decide ((x0.n : Int) > 20000)) then 0 else (bif ((g149 (g148_1 x0 false) (g148_h0_0 x0 false) (g148_h0_1 x0 false)) != 0) then 0 else (bif ((g51 (g148_0_0 x0 false) (g148_0_1 x0 false) (g148_0_2 x0 false) (g148_0_3 x0 false) (g148_0_4 x0 false) (g148_0_5 x0 false) (g148_0_6 x0 false) (g148_0_7 x0 false) (g148_0_8 x0 false) (g148_0_9 x0 false)) != 0) then 0 else (g148_0_9 x0 false))))
noncomputable def g81_1 (x0 : Sl Int) : Int := (bif (decide ((x0.n : Int) > 20000)) then 1 else (bif ((g149 (g148_1 x0 false) (g148_h0_0 x0 false) (g148_h0_1 x0 false)) != 0) then (g149 (g148_1 x0 false) (g148_h0_0 x0 false) (g148_h0_1 x0 false)) else (bif ((g51 (g148_0_0 x0 false) (g148_0_1 x0 false) (g148_0_2 x0 false) (g148_0_3 x0 false) (g148_0_4 x0 false) (g148_0_5 x0 false) (g148_0_6 x0 false) (g148_0_7 x0 false) (g148_0_8 x0 false) (g148_0_9 x0 false)) != 0) then (g51 (g148_0_0 x0 false) (g148_0_1 x0 false) (g148_0_2 x0 false) (g148_0_3 x0 false) (g148_0_4 x0 false) (g148_0_5 x0 false) (g148_0_6 x0 false) (g148_0_7 x0 false) (g148_0_8 x0 false) (g148_0_9 x0 false)) else 0)))
noncomputable def F81 : Fq := ⟨[.v (.sl E5)], fun x0 => ⟨⟨some (U8 x0), .tup [.agg [.int .i64 (g81_0_0 x0), .int .i64 (g81_0_1 x0), .bool (g81_0_2 x0), .int .i64 (g81_0_3 x0), .int .i64 (g81_0_4 x0), .int .i64 (g81_0_5 x0), .str (g81_0_6 x0), .str (g81_0_7 x0), .str (g81_0_8 x0), .int .i64 (g81_0_9 x0)], .int .i64 (g81_1 x0)]⟩⟩⟩
theorem pc81 : FnOk Tryz.prog 60 F81.sh _ (F81.sh.flatMap Sh.bs) F81.f [] :=
  fun x0 _ _ hp => pure_of_exec (X := (mkXh 0 [(67, F51.ans)] [(116, F148.ans), (87, F149.ans)])) (R := ⟨.pure, [.cell 2 69, .tmp 3], [(.c 0 0, kI), (.c 0 1, kI), (.c 0 2, kB), (.c 0 3, kI), (.c 0 4, kI), (.c 0 5, kI), (.c 0 6, kS), (.c 0 7, kS), (.c 0 8, kS), (.c 0 9, kI), (.t 1, kI)], ⟨[.agg (us 10 []), U], []⟩⟩) (h := .z) (ms := []) (p := ((decide ((x0.n : Int) > 20000)) = false → (U8 x0))) (mkXh_ok ⟨k51, trivial⟩ ⟨k148, k149, trivial⟩) Tryz.func60 rfl rfl (by kernel_rfl) ((fun h1 => (by repeat first | assumption | apply u205 | apply u161 | apply u167 | apply u164 | apply u227 | apply u202)))
theorem k81 : XOk Tryz.prog 60 F81.ans := Fq.ok ⟨_, _, Tryz.func60, rfl, by kernel_rfl⟩ pc81
end Go.Proofs.YtchhfojblmceiaaGreat
/-
  Walks: what functions of the program answer, as functions.
-/
namespace Go.Proofs.YtchhfojblmceiaaGreat
open Go Go.Vc Go.RowKit
set_option maxRecDepth 100000
set_option maxHeartbeats 4000000
noncomputable def g170 (x0 : Sl Int) (x1 : Int) : Int := (bif (decide ((IntKind.i64.wrap (x1 + 1)) > (x0.n : Int))) then 0 else (IntKind.i64.wrap (x0.at' (Int.toNat (IntKind.i64.wrap ((IntKind.i64.wrap (x1 + 1)) - 1))))))
noncomputable def g170_h0_1 (x1 : Int) : Int := (IntKind.i64.wrap (x1 + 1))
noncomputable def F170 : Hq := ⟨[.p 0], [(.h 0 0, .sl E5), (.h 0 1, kI)], [[U, U]], fun x0 (x1 : Int) => ⟨⟨some (0 ≤ x1 ∧ x1 ≤ 9000000000000000000), [.int .i64 (g170 x0 x1)], [[ofSl 1 e5 x0, .int .i64 (g170_h0_1 x1)]]⟩⟩⟩
theorem pc170 : HqOk Tryz.prog 120 F170 _ (F170.sh.flatMap Sh.bs) F170.f [] :=
  fun x0 n0 (x1 : Int) hp => heap_of_exec (X := (mkXh 1 [] [])) (R := ⟨.heap, [.tmp 2], [(.t 0, kI), (.h 0 0, .sl E5), (.h 0 1, kI)], ⟨[U], [[U, U]]⟩⟩) (h := .z) (ms := [.f, .l, .l]) (p := ((decide ((IntKind.i64.wrap (x1 + 1)) > (x0.n : Int))) = false → ((0 : Int) ≤ (IntKind.i64.wrap ((IntKind.i64.wrap (x1 + 1)) - 1)) ∧ (IntKind.i64.wrap ((IntKind.i64.wrap (x1 + 1)) - 1)) < ((x0.n : Nat) : Int)))) (mkXh_ok trivial trivial) Tryz.func120 rfl rfl rfl (by kernel_rfl) (have ⟨hq0, hq1⟩ := hp; (fun h1 => (by have := of_decide_eq_false h1; first | omega | (have := wrap64 (x := (x1 + 1)) (by omega) (by omega); have := wrap64 (x := ((IntKind.i64.wrap (x1 + 1)) - 1)) (by omega) (by omega); omega))))
theorem k170 : XHOk Tryz.prog 120 F170.ans := Hq.ok ⟨_, _, Tryz.func120, rfl, by kernel_rfl⟩ (by kernel_rfl) pc170
theorem q170 (x1 : Int) : 0 ≤ x1 ∧ x1 ≤ 9000000000000000000 → g170_h0_1 x1 = x1 + 1 := fun h => wrap64 (by omega) (by omega)
theorem r170 (x0 : Sl Int) (x1 : Int) (h : U8 x0) : 0 ≤ g170 x0 x1 ∧ g170 x0 x1 ≤ 255 := by
  unfold g170
  generalize Int.toNat (IntKind.i64.wrap ((IntKind.i64.wrap (x1 + 1)) - 1)) = i
  have h2 := h i
  cases decide ((IntKind.i64.wrap (x1 + 1)) > (x0.n : Int))
  · simp only [cond_false]; rw [wrap64 (by omega) (by omega)]; exact h2
  · simp only [cond_true]; omega
noncomputable def g171 (x0 : Sl Int) (x1 : Int) : Bool := (decide (x1 > (x0.n : Int)))
noncomputable def F171 : Hq := ⟨[.p 0], [(.h 0 0, .sl E5), (.h 0 1, kI)], [[U, U]], fun x0 (x1 : Int) => ⟨⟨some (0 ≤ x1), [.bool (g171 x0 x1)], [[ofSl 1 e5 x0, .int .i64 x1]]⟩⟩⟩
theorem pc171 : HqOk Tryz.prog 121 F171 _ (F171.sh.flatMap Sh.bs) F171.f [] :=
  fun x0 _ (x1 : Int) hp => heap_of_exec (X := (mkXh 1 [] [])) (R := ⟨.heap, [.tmp 2], [(.t 0, kB), (.h 0 0, .sl E5), (.h 0 1, kI)], ⟨[U], [[U, U]]⟩⟩) (h := .z) (ms := []) (p := True) (mkXh_ok trivial trivial) Tryz.func121 rfl rfl rfl (by kernel_rfl) (trivial)
theorem k171 : XHOk Tryz.prog 121 F171.ans := Hq.ok ⟨_, _, Tryz.func121, rfl, by kernel_rfl⟩ (by kernel_rfl) pc171
noncomputable def g169_l1 (x0 : Sl Int) : Nat → Int → Int → Int → Int × Int
  | 0, _, _, _ => default
  | k + 1, v1_0, v1_1, v1_2 => (bif (decide (v1_1 < 8)) then (g169_l1 x0 k (IntKind.i64.wrap ((IntKind.i64.wrap (v1_0 * 256)) + (g170 x0 v1_2))) (IntKind.i64.wrap (v1_1 + 1)) (g170_h0_1 v1_2)) else (v1_0, v1_2))
noncomputable def g169_r1 (x0 : Sl Int) (x1 : Int) : Int × Int := g169_l1 x0 ((Int.toNat (8 - 0)) + 1) 0 0 x1
noncomputable def g169 (x0 : Sl Int) (x1 : Int) : Int := (IntKind.i64.wrap ((g169_r1 x0 x1).1 - 4611686018427387904))
noncomputable def g169_h0_1 (x0 : Sl Int) (x1 : Int) : Int := (g169_r1 x0 x1).2
noncomputable def F169 : Hq := ⟨[.p 0], [(.h 0 0, .sl E5), (.h 0 1, kI)], [[U, U]], fun x0 (x1 : Int) => ⟨⟨some (0 ≤ x1 ∧ x1 ≤ 8000000000000000000), [.int .i64 (g169 x0 x1)], [[ofSl 1 e5 x0, .int .i64 (g169_h0_1 x0 x1)]]⟩⟩⟩
theorem pc169 : HqOk Tryz.prog 119 F169 _ (F169.sh.flatMap Sh.bs) F169.f [] :=
  fun x0 n0 (x1 : Int) hp => heap_of_exec (X := (mkXh 1 [] [(120, F170.ans)])) (R := ⟨.heap, [.tmp 2], [(.t 0, kI), (.h 0 0, .sl E5), (.h 0 1, kI)], ⟨[U], [[U, U]]⟩⟩) (h := (.s .z (.s .z (.j ⟨12, [], [], [], .f⟩ (.s .z (.lp ⟨29, [], [], [(.t 3, kI), (.t 4, kI), (.h 0 1, kI)], some 0, false, 12, [], [(.t 3, kI), (.h 0 1, kI)], fun k (s : Int × Int × Int) => g169_l1 x0 k s.1 s.2.1 s.2.2, .f, fun (s : Int × Int × Int) => (0 ≤ s.2.1 ∧ s.2.1 ≤ 8 ∧ s.2.2 = x1 + s.2.1), fun (s : Int × Int × Int) => (Int.toNat (8 - s.2.1)), none⟩ .z)) .z)))) (ms := []) (p := (((0 ≤ (0 : Int) ∧ (0 : Int) ≤ 8 ∧ x1 = x1 + (0 : Int))) ∧ (∀ (v1_0 : Int) (v1_1 : Int) (v1_2 : Int), (0 ≤ v1_1 ∧ v1_1 ≤ 8 ∧ v1_2 = x1 + v1_1) → (((decide (v1_1 < 8)) = true → (0 ≤ v1_2 ∧ v1_2 ≤ 9000000000000000000)) ∧ ((decide (v1_1 < 8)) = true → ((0 ≤ (IntKind.i64.wrap (v1_1 + 1)) ∧ (IntKind.i64.wrap (v1_1 + 1)) ≤ 8 ∧ (g170_h0_1 v1_2) = x1 + (IntKind.i64.wrap (v1_1 + 1))) ∧ (Int.toNat (8 - (IntKind.i64.wrap (v1_1 + 1)))) < (Int.toNat (8 - v1_1)))))))) (mkXh_ok trivial ⟨k170, trivial⟩) Tryz.func119 rfl rfl rfl (by kernel_rfl) (have ⟨hq0, hq1⟩ := hp; ⟨(by omega), (fun v1_0 v1_1 v1_2 hI1 => ⟨(fun h2 => (by have := of_decide_eq_true h2; omega)), (fun h3 => (by have := of_decide_eq_true h3; have := q170 v1_2; first | omega | (have := wrap64 (x := (v1_1 + 1)) (by omega) (by omega); omega)))⟩)⟩)
theorem k169 : XHOk Tryz.prog 119 F169.ans := Hq.ok ⟨_, _, Tryz.func119, rfl, by kernel_rfl⟩ (by kernel_rfl) pc169
theorem q169 (x0 : Sl Int) (x1 : Int) : 0 ≤ x1 ∧ x1 ≤ 8000000000000000000 → g169_h0_1 x0 x1 = x1 + 8 := fun h => by
  have e : g169_h0_1 x0 x1 = g170_h0_1 (g170_h0_1 (g170_h0_1 (g170_h0_1 (g170_h0_1 (g170_h0_1 (g170_h0_1 (g170_h0_1 x1))))))) := by kernel_rfl
  rw [e]
  have a1 := q170 x1 (by omega)
  have a2 := q170 (x1 + 1) (by omega)
  have a3 := q170 (x1 + 1 + 1) (by omega)
  have a4 := q170 (x1 + 1 + 1 + 1) (by omega)
  have a5 := q170 (x1 + 1 + 1 + 1 + 1) (by omega)
  have a6 := q170 (x1 + 1 + 1 + 1 + 1 + 1) (by omega)
  have a7 := q170 (x1 + 1 + 1 + 1 + 1 + 1 + 1) (by omega)
  have a8 := q170 (x1 + 1 + 1 + 1 + 1 + 1 + 1 + 1) (by omega)
  rw [a1, a2, a3, a4, a5, a6, a7, a8]; omega
noncomputable def g172_m1 (x0 : Sl Int) (x1 : Int) (v1_0 : Int) : Bool := (bif (decide (v1_0 < (g170 x0 x1))) then true else false)
noncomputable def g172_m2 (x0 : Sl Int) (x1 : Int) (v1_0 : Int) (v1_1 : Int) : Bool := (bif (decide (v1_0 < (g170 x0 x1))) then (!(g171 x0 v1_1)) else false)
noncomputable def g172_l1 (x0 : Sl Int) (x1 : Int) : Nat → Int → Int → Sl Int → Int × Sl Int
  | 0, _, _, _ => default
  | k + 1, v1_0, v1_1, v1_2 => (bif (g172_m2 x0 x1 v1_0 v1_1) then (g172_l1 x0 x1 k (IntKind.i64.wrap (v1_0 + 1)) (g170_h0_1 v1_1) (Sl.app v1_2 (Sl.lit ([(IntKind.u8.wrap (g170 x0 v1_1))] : List Int)))) else (v1_1, v1_2))
noncomputable def g172_r3 (x0 : Sl Int) (x1 : Int) : Int × Sl Int := g172_l1 x0 x1 ((Int.toNat ((g170 x0 x1) - 0)) + 1) 0 (g170_h0_1 x1) (nilSl : Sl Int)
noncomputable def g172 (x0 : Sl Int) (x1 : Int) : ByteArray := (Sl.toStr (g172_r3 x0 x1).2)
noncomputable def g172_h0_1 (x0 : Sl Int) (x1 : Int) : Int := (g172_r3 x0 x1).1
noncomputable def F172 : Hq := ⟨[.p 0], [(.h 0 0, .sl E5), (.h 0 1, kI)], [[U, U]], fun x0 (x1 : Int) => ⟨⟨some (U8 x0 ∧ 0 ≤ x1 ∧ x1 ≤ 7000000000000000000), [.str (g172 x0 x1)], [[ofSl 1 e5 x0, .int .i64 (g172_h0_1 x0 x1)]]⟩⟩⟩
theorem pc172 : HqOk Tryz.prog 122 F172 _ (F172.sh.flatMap Sh.bs) F172.f [] :=
  fun x0 n0 (x1 : Int) hp => heap_of_exec (X := (mkXh 1 [] [(120, F170.ans), (121, F171.ans)])) (R := ⟨.heap, [.tmp 2], [(.t 0, kS), (.h 0 0, .sl E5), (.h 0 1, kI)], ⟨[U], [[U, U]]⟩⟩) (h := (.s .z (.s .z (.s .z (.j ⟨20, [], [], [], .f⟩ (.s .z (.lp ⟨61, [], [(.t 4, E5)], [(.t 5, kI), (.h 0 1, kI), (.h 1 0, .blk E5)], some 0, false, 20, [], [(.h 0 1, kI), (.h 1 0, .blk E5)], fun k (s : Int × Int × Sl Int) => g172_l1 x0 x1 k s.1 s.2.1 s.2.2, .f, fun (s : Int × Int × Sl Int) => (0 ≤ s.1 ∧ (s.1 ≤ (g170 x0 x1) ∨ s.1 = 0) ∧ s.2.1 = x1 + 1 + s.1 ∧ ((s.2.2.n : Nat) : Int) = s.1), fun (s : Int × Int × Sl Int) => (Int.toNat ((g170 x0 x1) - s.1)), none⟩ (.s (.j ⟨73277, [], [(.t 12, kB), (.t 16, kB)], [], .f⟩ .z .z) .z))) .z))))) (ms := []) (p := ((0 ≤ x1 ∧ x1 ≤ 9000000000000000000) ∧ (((0 ≤ (0 : Int) ∧ ((0 : Int) ≤ (g170 x0 x1) ∨ (0 : Int) = 0) ∧ (g170_h0_1 x1) = x1 + 1 + (0 : Int) ∧ ((0 : Nat) : Int) = (0 : Int))) ∧ (∀ (v1_0 : Int) (v1_1 : Int) (v1_2 : Sl Int), (0 ≤ v1_0 ∧ (v1_0 ≤ (g170 x0 x1) ∨ v1_0 = 0) ∧ v1_1 = x1 + 1 + v1_0 ∧ ((v1_2.n : Nat) : Int) = v1_0) → ((((decide (v1_0 < (g170 x0 x1))) = true → (0 ≤ v1_1)) ∧ ((g172_m2 x0 x1 v1_0 v1_1) = true → ((0 ≤ v1_1 ∧ v1_1 ≤ 9000000000000000000) ∧ (v1_2.n + 1 ≤ 549755813888)))) ∧ ((g172_m2 x0 x1 v1_0 v1_1) = true → ((0 ≤ (IntKind.i64.wrap (v1_0 + 1)) ∧ ((IntKind.i64.wrap (v1_0 + 1)) ≤ (g170 x0 x1) ∨ (IntKind.i64.wrap (v1_0 + 1)) = 0) ∧ (g170_h0_1 v1_1) = x1 + 1 + (IntKind.i64.wrap (v1_0 + 1)) ∧ (((v1_2.n + 1) : Nat) : Int) = (IntKind.i64.wrap (v1_0 + 1))) ∧ (Int.toNat ((g170 x0 x1) - (IntKind.i64.wrap (v1_0 + 1)))) < (Int.toNat ((g170 x0 x1) - v1_0))))))))) (mkXh_ok trivial ⟨k170, k171, trivial⟩) Tryz.func122 rfl rfl rfl (by kernel_rfl) (have ⟨hq0, hq1, hq2⟩ := hp; ⟨(by omega), ⟨(by have := r170 x0 x1 (by repeat first | assumption | apply u205 | apply u161 | apply u167 | apply u164 | apply u227 | apply u202); have := q170 x1; omega), (fun v1_0 v1_1 v1_2 hI1 => ⟨⟨(fun h2 => (by have := of_decide_eq_true h2; have := r170 x0 x1 (by repeat first | assumption | apply u205 | apply u161 | apply u167 | apply u164 | apply u227 | apply u202); omega)), (fun h3 => ⟨(by have := h3; (try simp [g172_m2] at this); have := r170 x0 x1 (by repeat first | assumption | apply u205 | apply u161 | apply u167 | apply u164 | apply u227 | apply u202); omega), (by have := h3; (try simp [g172_m2] at this); have := r170 x0 x1 (by repeat first | assumption | apply u205 | apply u161 | apply u167 | apply u164 | apply u227 | apply u202); omega)⟩)⟩, (fun h4 => (by have := h4; (try simp [g172_m2] at this); have := r170 x0 x1 (by repeat first | assumption | apply u205 | apply u161 | apply u167 | apply u164 | apply u227 | apply u202); have := q170 v1_1; first | omega | (have := wrap64 (x := (v1_0 + 1)) (by omega) (by omega); omega)))⟩)⟩⟩)
theorem k172 : XHOk Tryz.prog 122 F172.ans := Hq.ok ⟨_, _, Tryz.func122, rfl, by kernel_rfl⟩ (by kernel_rfl) pc172
theorem q172l (x0 : Sl Int) (x1 : Int) (hU : U8 x0) (h : 0 ≤ x1 ∧ x1 ≤ 7000000000000000000) : ∀ (m : Nat) (i : Int) (s : Sl Int), 0 ≤ i → (i ≤ g170 x0 x1 ∨ i = 0) → Int.toNat (g170 x0 x1 - i) ≤ m → x1 + 1 ≤ (g172_l1 x0 x1 (m + 1) i (x1 + 1 + i) s).1 ∧ (g172_l1 x0 x1 (m + 1) i (x1 + 1 + i) s).1 ≤ x1 + 256 := by
  intro m
  have hr := r170 x0 x1 hU
  induction m with
  | zero =>
    intro i s h0 h1 hm
    have : ¬ i < g170 x0 x1 := by omega
    have e : g172_m2 x0 x1 i (x1 + 1 + i) = false := by simp [g172_m2, this]
    rw [g172_l1, e]
    simp only [cond_false]; omega
  | succ m ih =>
    intro i s h0 h1 hm
    cases e : g172_m2 x0 x1 i (x1 + 1 + i) with
    | false =>
      rw [g172_l1, e]
      simp only [cond_false]; omega
    | true =>
      rw [g172_l1, e]
      simp only [cond_true]
      have hi : i < g170 x0 x1 := by
        simp only [g172_m2] at e
        by_cases a : i < g170 x0 x1
        · exact a
        · simp [a] at e
      rw [wrap64 (x := i + 1) (by omega) (by omega), q170 (x1 + 1 + i) (by omega), show x1 + 1 + i + 1 = x1 + 1 + (i + 1) by omega]
      exact ih (i + 1) _ (by omega) (by omega) (by omega)
theorem q172 (x0 : Sl Int) (x1 : Int) (hU : U8 x0) : 0 ≤ x1 ∧ x1 ≤ 7000000000000000000 → x1 + 1 ≤ g172_h0_1 x0 x1 ∧ g172_h0_1 x0 x1 ≤ x1 + 256 := fun h => by
  have := q172l x0 x1 hU h (Int.toNat (g170 x0 x1 - 0)) 0 nilSl (by omega) (by omega) (Nat.le_refl _)
  rw [Int.add_zero, ← q170 x1 (by omega)] at this
  have e := q170 x1 (by omega)
  unfold g172_h0_1 g172_r3
  omega
noncomputable def g150_m1 (x0 : Sl Int) (x1 : Int) : Bool := (bif ((g170 x0 (g169_h0_1 x0 (g169_h0_1 x0 x1))) == 1) then true else false)
noncomputable def g150_0_0 (x0 : Sl Int) (x1 : Int) : Int := (g169 x0 x1)
noncomputable def g150_0_1 (x0 : Sl Int) (x1 : Int) : Int := (g169 x0 (g169_h0_1 x0 x1))
noncomputable def g150_0_2 (x0 : Sl Int) (x1 : Int) : Bool := (g150_m1 x0 x1)
noncomputable def g150_0_3 (x0 : Sl Int) (x1 : Int) : Int := (bif ((g170 x0 (g169_h0_1 x0 (g169_h0_1 x0 x1))) != 0) then 0 else (g169 x0 (g170_h0_1 (g169_h0_1 x0 (g169_h0_1 x0 x1)))))
noncomputable def g150_0_4 (x0 : Sl Int) (x1 : Int) : Int := (bif ((g170 x0 (g169_h0_1 x0 (g169_h0_1 x0 x1))) != 0) then 0 else (bif ((g169 x0 (g170_h0_1 (g169_h0_1 x0 (g169_h0_1 x0 x1)))) == 0) then 0 else (g169 x0 (g169_h0_1 x0 (g170_h0_1 (g169_h0_1 x0 (g169_h0_1 x0 x1)))))))
noncomputable def g150_0_5 (x0 : Sl Int) (x1 : Int) : Int := (bif ((g170 x0 (g169_h0_1 x0 (g169_h0_1 x0 x1))) != 0) then 0 else (bif ((g169 x0 (g170_h0_1 (g169_h0_1 x0 (g169_h0_1 x0 x1)))) == 0) then 0 else (g170 x0 (g169_h0_1 x0 (g169_h0_1 x0 (g170_h0_1 (g169_h0_1 x0 (g169_h0_1 x0 x1))))))))
noncomputable def g150_0_6 (x0 : Sl Int) (x1 : Int) : ByteArray := (bif ((g170 x0 (g169_h0_1 x0 (g169_h0_1 x0 x1))) != 0) then ⟨#[]⟩ else (bif ((g169 x0 (g170_h0_1 (g169_h0_1 x0 (g169_h0_1 x0 x1)))) == 0) then ⟨#[]⟩ else (g172 x0 (g170_h0_1 (g169_h0_1 x0 (g169_h0_1 x0 (g170_h0_1 (g169_h0_1 x0 (g169_h0_1 x0 x1)))))))))
noncomputable def g150_0_7 (x0 : Sl Int) (x1 : Int) : ByteArray := (bif ((g170 x0 (g169_h0_1 x0 (g169_h0_1 x0 x1))) != 0) then ⟨#[]⟩ else (bif ((g169 x0 (g170_h0_1 (g169_h0_1 x0 (g169_h0_1 x0 x1)))) == 0) then ⟨#[]⟩ else (g172 x0 (g172_h0_1 x0 (g170_h0_1 (g169_h0_1 x0 (g169_h0_1 x0 (g170_h0_1 (g169_h0_1 x0 (g169_h0_1 x0 x1))))))))))
noncomputable def g150_0_8 (x0 : Sl Int) (x1 : Int) : ByteArray := (bif ((g170 x0 (g169_h0_1 x0 (g169_h0_1 x0 x1))) != 0) then ⟨#[]⟩ else (bif ((g169 x0 (g170_h0_1 (g169_h0_1 x0 (g169_h0_1 x0 x1)))) == 0) then ⟨#[]⟩ else (g172 x0 (g172_h0_1 x0 (g172_h0_1 x0 (g170_h0_1 (g169_h0_1 x0 (g169_h0_1 x0 (g170_h0_1 (g169_h0_1 x0 (g169_h0_1 x0 x1)))))))))))
noncomputable def g150_0_9 (x0 : Sl Int) (x1 : Int) : Int := (bif ((g170 x0 (g169_h0_1 x0 (g169_h0_1 x0 x1))) != 0) then 0 else (bif ((g169 x0 (g170_h0_1 (g169_h0_1 x0 (g169_h0_1 x0 x1)))) == 0) then 0 else (g169 x0 (g172_h0_1 x0 (g172_h0_1 x0 (g172_h0_1 x0 (g170_h0_1 (g169_h0_1 x0 (g169_h0_1 x0 (g170_h0_1 (g169_h0_1 x0 (g169_h0_1 x0 x1))))))))))))
noncomputable def g150_1 (x0 : Sl Int) (x1 : Int) : Bool := (bif ((g170 x0 (g169_h0_1 x0 (g169_h0_1 x0 x1))) != 0) then ((g170 x0 (g169_h0_1 x0 (g169_h0_1 x0 x1))) == 1) else true)
noncomputable def g150_h0_1 (x0 : Sl Int) (x1 : Int) : Int := (bif ((g170 x0 (g169_h0_1 x0 (g169_h0_1 x0 x1))) != 0) then (g170_h0_1 (g169_h0_1 x0 (g169_h0_1 x0 x1))) else (bif ((g169 x0 (g170_h0_1 (g169_h0_1 x0 (g169_h0_1 x0 x1)))) == 0) then (g169_h0_1 x0 (g170_h0_1 (g169_h0_1 x0 (g169_h0_1 x0 x1)))) else (g169_h0_1 x0 (g172_h0_1 x0 (g172_h0_1 x0 (g172_h0_1 x0 (g170_h0_1 (g169_h0_1 x0 (g169_h0_1 x0 (g170_h0_1 (g169_h0_1 x0 (g169_h0_1 x0 x1))))))))))))
noncomputable def F150 : Hq := ⟨[.p 0], [(.h 0 0, .sl E5), (.h 0 1, kI)], [[U, U]], fun x0 (x1 : Int) => ⟨⟨some (U8 x0 ∧ 0 ≤ x1 ∧ x1 ≤ 1000000000000000000), [.agg [.int .i64 (g150_0_0 x0 x1), .int .i64 (g150_0_1 x0 x1), .bool (g150_0_2 x0 x1), .int .i64 (g150_0_3 x0 x1), .int .i64 (g150_0_4 x0 x1), .int .i64 (g150_0_5 x0 x1), .str (g150_0_6 x0 x1), .str (g150_0_7 x0 x1), .str (g150_0_8 x0 x1), .int .i64 (g150_0_9 x0 x1)], .bool (g150_1 x0 x1)], [[ofSl 1 e5 x0, .int .i64 (g150_h0_1 x0 x1)]]⟩⟩⟩
theorem pc150 : HqOk Tryz.prog 117 F150 _ (F150.sh.flatMap Sh.bs) F150.f [] :=
  fun x0 n0 (x1 : Int) hp => heap_of_exec (X := (mkXh 1 [] [(119, F169.ans), (120, F170.ans), (122, F172.ans)])) (R := ⟨.heap, [.cell 2 69, .tmp 3], [(.c 0 0, kI), (.c 0 1, kI), (.c 0 2, kB), (.c 0 3, kI), (.c 0 4, kI), (.c 0 5, kI), (.c 0 6, kS), (.c 0 7, kS), (.c 0 8, kS), (.c 0 9, kI), (.t 1, kB), (.h 0 0, .sl E5), (.h 0 1, kI)], ⟨[.agg (us 10 []), U], [[U, U]]⟩⟩) (h := (.s .z (.s .z (.s .z (.s .z (.s .z (.j ⟨61, [], [(.h 2 2, kB)], [], .f⟩ .z .z))))))) (ms := [.l, .l, .l, (.b .f .l), .f, .f, .f, .f, .f, .f, (.b .f .l), .l, .f]) (p := ((0 ≤ x1 ∧ x1 ≤ 8000000000000000000) ∧ ((0 ≤ (g169_h0_1 x0 x1) ∧ (g169_h0_1 x0 x1) ≤ 8000000000000000000) ∧ ((0 ≤ (g169_h0_1 x0 (g169_h0_1 x0 x1)) ∧ (g169_h0_1 x0 (g169_h0_1 x0 x1)) ≤ 9000000000000000000) ∧ (((g170 x0 (g169_h0_1 x0 (g169_h0_1 x0 x1))) != 0) = false → ((0 ≤ (g170_h0_1 (g169_h0_1 x0 (g169_h0_1 x0 x1))) ∧ (g170_h0_1 (g169_h0_1 x0 (g169_h0_1 x0 x1))) ≤ 8000000000000000000) ∧ (((g169 x0 (g170_h0_1 (g169_h0_1 x0 (g169_h0_1 x0 x1)))) == 0) = false → ((0 ≤ (g169_h0_1 x0 (g170_h0_1 (g169_h0_1 x0 (g169_h0_1 x0 x1)))) ∧ (g169_h0_1 x0 (g170_h0_1 (g169_h0_1 x0 (g169_h0_1 x0 x1)))) ≤ 8000000000000000000) ∧ ((0 ≤ (g169_h0_1 x0 (g169_h0_1 x0 (g170_h0_1 (g169_h0_1 x0 (g169_h0_1 x0 x1))))) ∧ (g169_h0_1 x0 (g169_h0_1 x0 (g170_h0_1 (g169_h0_1 x0 (g169_h0_1 x0 x1))))) ≤ 9000000000000000000) ∧ ((U8 x0 ∧ 0 ≤ (g170_h0_1 (g169_h0_1 x0 (g169_h0_1 x0 (g170_h0_1 (g169_h0_1 x0 (g169_h0_1 x0 x1)))))) ∧ (g170_h0_1 (g169_h0_1 x0 (g169_h0_1 x0 (g170_h0_1 (g169_h0_1 x0 (g169_h0_1 x0 x1)))))) ≤ 7000000000000000000) ∧ ((U8 x0 ∧ 0 ≤ (g172_h0_1 x0 (g170_h0_1 (g169_h0_1 x0 (g169_h0_1 x0 (g170_h0_1 (g169_h0_1 x0 (g169_h0_1 x0 x1))))))) ∧ (g172_h0_1 x0 (g170_h0_1 (g169_h0_1 x0 (g169_h0_1 x0 (g170_h0_1 (g169_h0_1 x0 (g169_h0_1 x0 x1))))))) ≤ 7000000000000000000) ∧ ((U8 x0 ∧ 0 ≤ (g172_h0_1 x0 (g172_h0_1 x0 (g170_h0_1 (g169_h0_1 x0 (g169_h0_1 x0 (g170_h0_1 (g169_h0_1 x0 (g169_h0_1 x0 x1)))))))) ∧ (g172_h0_1 x0 (g172_h0_1 x0 (g170_h0_1 (g169_h0_1 x0 (g169_h0_1 x0 (g170_h0_1 (g169_h0_1 x0 (g169_h0_1 x0 x1)))))))) ≤ 7000000000000000000) ∧ (0 ≤ (g172_h0_1 x0 (g172_h0_1 x0 (g172_h0_1 x0 (g170_h0_1 (g169_h0_1 x0 (g169_h0_1 x0 (g170_h0_1 (g169_h0_1 x0 (g169_h0_1 x0 x1))))))))) ∧ (g172_h0_1 x0 (g172_h0_1 x0 (g172_h0_1 x0 (g170_h0_1 (g169_h0_1 x0 (g169_h0_1 x0 (g170_h0_1 (g169_h0_1 x0 (g169_h0_1 x0 x1))))))))) ≤ 8000000000000000000))))))))))))) (mkXh_ok trivial ⟨k169, k170, k172, trivial⟩) Tryz.func117 rfl rfl rfl (by kernel_rfl) (have ⟨hq0, hq1, hq2⟩ := hp; ⟨(by omega), ⟨(by have := q169 x0 x1; omega), ⟨(by have := q169 x0 (g169_h0_1 x0 x1); have := q169 x0 x1; omega), (fun h1 => ⟨(by have := bne_eq_false_iff_eq.1 h1; have := q170 (g169_h0_1 x0 (g169_h0_1 x0 x1)); have := q169 x0 (g169_h0_1 x0 x1); have := q169 x0 x1; omega), (fun h2 => ⟨(by have := bne_eq_false_iff_eq.1 h1; have := ne_of_beq_false h2; have := q169 x0 (g170_h0_1 (g169_h0_1 x0 (g169_h0_1 x0 x1))); have := q170 (g169_h0_1 x0 (g169_h0_1 x0 x1)); have := q169 x0 (g169_h0_1 x0 x1); have := q169 x0 x1; omega), ⟨(by have := bne_eq_false_iff_eq.1 h1; have := ne_of_beq_false h2; have := q169 x0 (g169_h0_1 x0 (g170_h0_1 (g169_h0_1 x0 (g169_h0_1 x0 x1)))); have := q169 x0 (g170_h0_1 (g169_h0_1 x0 (g169_h0_1 x0 x1))); have := q170 (g169_h0_1 x0 (g169_h0_1 x0 x1)); have := q169 x0 (g169_h0_1 x0 x1); have := q169 x0 x1; omega), ⟨⟨(by repeat first | assumption | apply u205 | apply u161 | apply u167 | apply u164 | apply u227 | apply u202), (by have := bne_eq_false_iff_eq.1 h1; have := ne_of_beq_false h2; have := q170 (g169_h0_1 x0 (g169_h0_1 x0 (g170_h0_1 (g169_h0_1 x0 (g169_h0_1 x0 x1))))); have := q169 x0 (g169_h0_1 x0 (g170_h0_1 (g169_h0_1 x0 (g169_h0_1 x0 x1)))); have := q169 x0 (g170_h0_1 (g169_h0_1 x0 (g169_h0_1 x0 x1))); have := q170 (g169_h0_1 x0 (g169_h0_1 x0 x1)); have := q169 x0 (g169_h0_1 x0 x1); have := q169 x0 x1; omega)⟩, ⟨⟨(by repeat first | assumption | apply u205 | apply u161 | apply u167 | apply u164 | apply u227 | apply u202), (by have := bne_eq_false_iff_eq.1 h1; have := ne_of_beq_false h2; have := q172 x0 (g170_h0_1 (g169_h0_1 x0 (g169_h0_1 x0 (g170_h0_1 (g169_h0_1 x0 (g169_h0_1 x0 x1)))))) (by repeat first | assumption | apply u205 | apply u161 | apply u167 | apply u164 | apply u227 | apply u202); have := q170 (g169_h0_1 x0 (g169_h0_1 x0 (g170_h0_1 (g169_h0_1 x0 (g169_h0_1 x0 x1))))); have := q169 x0 (g169_h0_1 x0 (g170_h0_1 (g169_h0_1 x0 (g169_h0_1 x0 x1)))); have := q169 x0 (g170_h0_1 (g169_h0_1 x0 (g169_h0_1 x0 x1))); have := q170 (g169_h0_1 x0 (g169_h0_1 x0 x1)); have := q169 x0 (g169_h0_1 x0 x1); have := q169 x0 x1; omega)⟩, ⟨⟨(by repeat first | assumption | apply u205 | apply u161 | apply u167 | apply u164 | apply u227 | apply u202), (by have := bne_eq_false_iff_eq.1 h1; have := ne_of_beq_false h2; have := q172 x0 (g172_h0_1 x0 (g170_h0_1 (g169_h0_1 x0 (g169_h0_1 x0 (g170_h0_1 (g169_h0_1 x0 (g169_h0_1 x0 x1))))))) (by repeat first | assumption | apply u205 | apply u161 | apply u167 | apply u164 | apply u227 | apply u202); have := q172 x0 (g170_h0_1 (g169_h0_1 x0 (g169_h0_1 x0 (g170_h0_1 (g169_h0_1 x0 (g169_h0_1 x0 x1)))))) (by repeat first | assumption | apply u205 | apply u161 | apply u167 | apply u164 | apply u227 | apply u202); have := q170 (g169_h0_1 x0 (g169_h0_1 x0 (g170_h0_1 (g169_h0_1 x0 (g169_h0_1 x0 x1))))); have := q169 x0 (g169_h0_1 x0 (g170_h0_1 (g169_h0_1 x0 (g169_h0_1 x0 x1)))); have := q169 x0 (g170_h0_1 (g169_h0_1 x0 (g169_h0_1 x0 x1))); have := q170 (g169_h0_1 x0 (g169_h0_1 x0 x1)); have := q169 x0 (g169_h0_1 x0 x1); have := q169 x0 x1; omega)⟩, (by have := bne_eq_false_iff_eq.1 h1; have := ne_of_beq_false h2; have := q172 x0 (g172_h0_1 x0 (g172_h0_1 x0 (g170_h0_1 (g169_h0_1 x0 (g169_h0_1 x0 (g170_h0_1 (g169_h0_1 x0 (g169_h0_1 x0 x1)))))))) (by repeat first | assumption | apply u205 | apply u161 | apply u167 | apply u164 | apply u227 | apply u202); have := q172 x0 (g172_h0_1 x0 (g170_h0_1 (g169_h0_1 x0 (g169_h0_1 x0 (g170_h0_1 (g169_h0_1 x0 (g169_h0_1 x0 x1))))))) (by repeat first | assumption | apply u205 | apply u161 | apply u167 | apply u164 | apply u227 | apply u202); have := q172 x0 (g170_h0_1 (g169_h0_1 x0 (g169_h0_1 x0 (g170_h0_1 (g169_h0_1 x0 (g169_h0_1 x0 x1)))))) (by repeat first | assumption | apply u205 | apply u161 | apply u167 | apply u164 | apply u227 | apply u202); have := q170 (g169_h0_1 x0 (g169_h0_1 x0 (g170_h0_1 (g169_h0_1 x0 (g169_h0_1 x0 x1))))); have := q169 x0 (g169_h0_1 x0 (g170_h0_1 (g169_h0_1 x0 (g169_h0_1 x0 x1)))); have := q169 x0 (g170_h0_1 (g169_h0_1 x0 (g169_h0_1 x0 x1))); have := q170 (g169_h0_1 x0 (g169_h0_1 x0 x1)); have := q169 x0 (g169_h0_1 x0 x1); have := q169 x0 x1; omega)⟩⟩⟩⟩⟩)⟩)⟩⟩⟩)
theorem k150 : XHOk Tryz.prog 117 F150.ans := Hq.ok ⟨_, _, Tryz.func117, rfl, by kernel_rfl⟩ (by kernel_rfl) pc150
theorem q150 (x0 : Sl Int) (x1 : Int) (hU : U8 x0) : 0 ≤ x1 ∧ x1 ≤ 1000000000000000000 → 0 ≤ g150_h0_1 x0 x1 := fun h => by
  have a1 := q169 x0 x1 (by omega)
  have a2 := q169 x0 (g169_h0_1 x0 x1) (by omega)
  have a3 := q170 (g169_h0_1 x0 (g169_h0_1 x0 x1)) (by omega)
  have a4 := q169 x0 (g170_h0_1 (g169_h0_1 x0 (g169_h0_1 x0 x1))) (by omega)
  have a5 := q169 x0 (g169_h0_1 x0 (g170_h0_1 (g169_h0_1 x0 (g169_h0_1 x0 x1)))) (by omega)
  have a6 := q170 (g169_h0_1 x0 (g169_h0_1 x0 (g170_h0_1 (g169_h0_1 x0 (g169_h0_1 x0 x1))))) (by omega)
  unfold g150_h0_1
  cases ((g170 x0 (g169_h0_1 x0 (g169_h0_1 x0 x1))) != 0)
  · simp only [cond_false]
    cases ((g169 x0 (g170_h0_1 (g169_h0_1 x0 (g169_h0_1 x0 x1)))) == 0)
    · simp only [cond_false]
      generalize hp : g170_h0_1 (g169_h0_1 x0 (g169_h0_1 x0 (g170_h0_1 (g169_h0_1 x0 (g169_h0_1 x0 x1))))) = b at *
      have b1 := q172 x0 b hU (by omega)
      have b2 := q172 x0 (g172_h0_1 x0 b) hU (by omega)
      have b3 := q172 x0 (g172_h0_1 x0 (g172_h0_1 x0 b)) hU (by omega)
      have b4 := q169 x0 (g172_h0_1 x0 (g172_h0_1 x0 (g172_h0_1 x0 b))) (by omega)
      omega
    · simp only [cond_true]; omega
  · simp only [cond_true]; omega
noncomputable def g151_m1 (x0 : Bool) (x1 : Sl Int) (x2 : Int) : Bool := (bif (!x0) then true else (decide (x2 < (x1.n : Int))))
noncomputable def g151 (x0 : Bool) (x1 : Sl Int) (x2 : Int) : Int := (bif (g171 x1 x2) then 9 else (bif (g151_m1 x0 x1 x2) then 8 else 0))
noncomputable def F151 : Hq := ⟨[.p 0, .v kB], [(.h 0 0, .sl E5), (.h 0 1, kI)], [[U, U]], fun x0 x1 (x2 : Int) => ⟨⟨some (0 ≤ x2), [.int .i64 (g151 x0 x1 x2)], [[ofSl 1 e5 x1, .int .i64 x2]]⟩⟩⟩
theorem pc151 : HqOk Tryz.prog 118 F151 _ (F151.sh.flatMap Sh.bs) F151.f [] :=
  fun x0 x1 n1 (x2 : Int) hp => heap_of_exec (X := (mkXh 1 [] [(121, F171.ans)])) (R := ⟨.heap, [.tmp 4], [(.t 0, kI), (.h 0 0, .sl E5), (.h 0 1, kI)], ⟨[U], [[U, U]]⟩⟩) (h := (.s .z (.s .z (.s (.j ⟨1048592, [], [(.t 20, kB)], [], .f⟩ .z .z) .z)))) (ms := [.f, .l, .l]) (p := (0 ≤ x2)) (mkXh_ok trivial ⟨k171, trivial⟩) Tryz.func118 rfl rfl rfl (by kernel_rfl) ((by omega))
theorem k151 : XHOk Tryz.prog 118 F151.ans := Hq.ok ⟨_, _, Tryz.func118, rfl, by kernel_rfl⟩ (by kernel_rfl) pc151
noncomputable def g83_m1 (x0 : Sl Int) : Int := (bif ((g151 (g150_1 x0 0) x0 (g150_h0_1 x0 0)) == 0) then (g52 (g150_0_0 x0 0) (g150_0_1 x0 0) (g150_0_2 x0 0) (g150_0_3 x0 0) (g150_0_4 x0 0) (g150_0_5 x0 0) (g150_0_6 x0 0) (g150_0_7 x0 0) (g150_0_8 x0 0) (g150_0_9 x0 0)) else (g151 (g150_1 x0 0) x0 (g150_h0_1 x0 0)))
noncomputable def g83_0_0 (x0 : Sl Int) : Int := (bif (decide ((x0.n : Int) > 20000)) then 0 else (bif ((g83_m1 x0) != 0) then 0 else (g150_0_0 x0 0)))
noncomputable def g83_0_1 (x0 : Sl Int) : Int := (bif (decide ((x0.n : Int) > 20000)) then 0 else (bif ((g83_m1 x0) != 0) then 0 else (g150_0_1 x0 0)))
noncomputable def g83_0_2 (x0 : Sl Int) : Bool := (bif (decide ((x0.n : Int) > 20000)) then false else (bif ((g83_m1 x0) != 0) then false else (g150_0_2 x0 0)))
noncomputable def g83_0_3 (x0 : Sl Int) : Int := (bif (decide ((x0.n : Int) > 20000)) then 0 else (bif ((g83_m1 x0) != 0) then 0 else (g150_0_3 x0 0)))
noncomputable def g83_0_4 (x0 : Sl Int) : Int := (bif (decide ((x0.n : Int) > 20000)) then 0 else (bif ((g83_m1 x0) != 0) then 0 else (g150_0_4 x0 0)))
noncomputable def g83_0_5 (x0 : Sl Int) : Int := (bif (decide ((x0.n : Int) > 20000)) then 0 else (bif ((g83_m1 x0) != 0) then 0 else (g150_0_5 x0 0)))
noncomputable def g83_0_6 (x0 : Sl Int) : ByteArray := (bif (decide ((x0.n : Int) > 20000)) then ⟨#[]⟩ else (bif ((g83_m1 x0) != 0) then ⟨#[]⟩ else (g150_0_6 x0 0)))
noncomputable def g83_0_7 (x0 : Sl Int) : ByteArray := (bif (decide ((x0.n : Int) > 20000)) then ⟨#[]⟩ else (bif ((g83_m1 x0) != 0) then ⟨#[]⟩ else (g150_0_7 x0 0)))
noncomputable def g83_0_8 (x0 : Sl Int) : ByteArray := (bif (decide ((x0.n : Int) > 20000)) then ⟨#[]⟩ else (bif ((g83_m1 x0) != 0) then ⟨#[]⟩ else (g150_0_8 x0 0)))
noncomputable def g83_0_9 (x0 : Sl Int) : Int := (bif (decide ((x0.n : Int) > 20000)) then 0 else (bif ((g83_m1 x0) != 0) then 0 else (g150_0_9 x0 0)))
noncomputable def g83_1 (x0 : Sl Int) : Int := (bif (decide ((x0.n : Int) > 20000)) then 1 else (bif ((g83_m1 x0) != 0) then (g83_m1 x0) else 0))
noncomputable def F83 : Fq := ⟨[.v (.sl E5)], fun x0 => ⟨⟨some (U8 x0), .tup [.agg [.int .i64 (g83_0_0 x0), .int .i64 (g83_0_1 x0), .bool (g83_0_2 x0), .int .i64 (g83_0_3 x0), .int .i64 (g83_0_4 x0), .int .i64 (g83_0_5 x0), .str (g83_0_6 x0), .str (g83_0_7 x0), .str (g83_0_8 x0), .int .i64 (g83_0_9 x0)], .int .i64 (g83_1 x0)]⟩⟩⟩
theorem pc83 : FnOk Tryz.prog 61 F83.sh _ (F83.sh.flatMap Sh.bs) F83.f [] :=
  fun x0 n0 _ hp => pure_of_exec (X := (mkXh 0 [(92, F52.ans)] [(117, F150.ans), (118, F151.ans)])) (R := ⟨.pure, [.cell 2 69, .tmp 3], [(.c 0 0, kI), (.c 0 1, kI), (.c 0 2, kB), (.c 0 3, kI), (.c 0 4, kI), (.c 0 5, kI), (.c 0 6, kS), (.c 0 7, kS), (.c 0 8, kS), (.c 0 9, kI), (.t 1, kI)], ⟨[.agg (us 10 []), U], []⟩⟩) (h := (.s .z (.s .z (.s .z (.s .z (.s .z (.j ⟨172, [.b 1], [(.t 7, kI)], [], .f⟩ .z .z))))))) (ms := []) (p := ((decide ((x0.n : Int) > 20000)) = false → ((U8 x0 ∧ 0 ≤ (0 : Int) ∧ (0 : Int) ≤ 1000000000000000000) ∧ (0 ≤ (g150_h0_1 x0 0))))) (mkXh_ok ⟨k52, trivial⟩ ⟨k150, k151, trivial⟩) Tryz.func61 rfl rfl (by kernel_rfl) ((fun h1 => ⟨⟨(by repeat first | assumption | apply u205 | apply u161 | apply u167 | apply u164 | apply u227 | apply u202), (by have := of_decide_eq_false h1; omega)⟩, (by have := of_decide_eq_false h1; have := q150 x0 0 (by repeat first | assumption | apply u205 | apply u161 | apply u167 | apply u164 | apply u227 | apply u202); omega)⟩))
theorem k83 : XOk Tryz.prog 61 F83.ans := Fq.ok ⟨_, _, Tryz.func61, rfl, by kernel_rfl⟩ pc83
noncomputable def g82 (x0 : Sl Int) : Sl Int := x0
noncomputable def F82 : Fq := ⟨[.v (.sl E5)], fun x0 => ⟨⟨none, (Kd.blk E5).av (g82 x0)⟩⟩⟩
theorem pc82 : FnOk Tryz.prog 20 F82.sh _ (F82.sh.flatMap Sh.bs) F82.f [] :=
  fun x0 n0 _ => pure_of_exec (X := X0) (R := ⟨.own E5, [.tmp 2], [(.h 0 0, .blk E5)], ⟨[], []⟩⟩) (h := .z) (ms := []) (p := (x0.n ≤ 549755813888)) X0_ok Tryz.func20 rfl rfl (by kernel_rfl) ((by omega))
theorem k82 : XOk Tryz.prog 20 F82.ans := Fq.ok ⟨_, _, Tryz.func20, rfl, by kernel_rfl⟩ pc82
noncomputable def g23_m1 (x0 : Sl Int) : Bool := (bif ((g81_1 (g82 x0)) == (g83_1 x0)) then (((g81_0_0 (g82 x0)) == (g83_0_0 x0)) && (((g81_0_1 (g82 x0)) == (g83_0_1 x0)) && (((g81_0_2 (g82 x0)) == (g83_0_2 x0)) && (((g81_0_3 (g82 x0)) == (g83_0_3 x0)) && (((g81_0_4 (g82 x0)) == (g83_0_4 x0)) && (((g81_0_5 (g82 x0)) == (g83_0_5 x0)) && ((((g81_0_6 (g82 x0)) : ByteArray).toList == ((g83_0_6 x0) : ByteArray).toList) && ((((g81_0_7 (g82 x0)) : ByteArray).toList == ((g83_0_7 x0) : ByteArray).toList) && ((((g81_0_8 (g82 x0)) : ByteArray).toList == ((g83_0_8 x0) : ByteArray).toList) && (((g81_0_9 (g82 x0)) == (g83_0_9 x0)) && true)))))))))) else false)
noncomputable def g23 (x0 : Sl Int) : Bool := (g23_m1 x0)
noncomputable def F23 : Fq := ⟨[.v (.sl E5)], fun x0 => ⟨⟨some (U8 x0), .bool (g23 x0)⟩⟩⟩
end Go.Proofs.YtchhfojblmceiaaGreat
