/-
  Walks: what functions of the program answer, as functions.
-/
import Derived.Test.YtchhfojblmceiaaCl
import Derived.Test.YtchhfojblmceiaaEc
import Derived.Test.YtchhfojblmceiaaYs
import Derived.Test.YtchhfojblmceiaaY0
import Derived.Test.YtchhfojblmceiaaY1
import Derived.Test.YtchhfojblmceiaaYr
import Derived.Test.YtchhfojblmceiaaY2
import Derived.Test.YtchhfojblmceiaaZ1
import Derived.Test.YtchhfojblmceiaaZ2
import Derived.Test.YtchhfojblmceiaaZ3
import Derived.Test.YtchhfojblmceiaaZ4
import Derived.Test.YtchhfojblmceiaaZ5
import Derived.Test.YtchhfojblmceiaaZ6
import Derived.Test.YtchhfojblmceiaaZ7
import Derived.Test.YtchhfojblmceiaaH1
import Derived.Test.YtchhfojblmceiaaH2
import Derived.Test.YtchhfojblmceiaaH5
import Derived.Test.YtchhfojblmceiaaH6
import Derived.Test.YtchhfojblmceiaaH7
import Derived.Test.YtchhfojblmceiaaGr
import Derived.Test.YtchhfojblmceiaaCk
namespace Go.Proofs.Ytchhfojblmceiaa
open Go Go.Vc Go.RowKit
set_option maxRecDepth 100000
set_option maxHeartbeats 4000000
noncomputable def g180_l1 (x0 : Sl (Sl Int)) : Nat → Int → Int → Int
  | 0, _, _ => default
  | k + 1, v1_0, v1_1 => (bif (decide (v1_1 < (x0.n : Int))) then (g180_l1 x0 k (IntKind.i64.wrap (v1_0 + ((x0.at' (Int.toNat v1_1)).n : Int))) (IntKind.i64.wrap (v1_1 + 1))) else v1_0)
noncomputable def g180_r1 (x0 : Sl (Sl Int)) : Int := g180_l1 x0 ((Int.toNat ((x0.n : Int) - 0)) + 1) 0 0
noncomputable def g180_l8 (x0 : Sl (Sl Int)) : Nat → Int → Sl Int → Sl Int
  | 0, _, _ => default
  | k + 1, v8_0, v8_1 => (bif (decide (v8_0 < (x0.n : Int))) then (g180_l8 x0 k (IntKind.i64.wrap (v8_0 + 1)) (Sl.app v8_1 (x0.at' (Int.toNat v8_0)))) else v8_1)
noncomputable def g180_r2 (x0 : Sl (Sl Int)) : Sl Int := g180_l8 x0 ((Int.toNat ((x0.n : Int) - 0)) + 1) 0 (nilSl : Sl Int)
noncomputable def g180 (x0 : Sl (Sl Int)) : Sl Int := (g180_r2 x0)
noncomputable def F180 : Fq := ⟨[.v (.sl E43)], fun x0 => ⟨⟨some (CK x0), (Kd.blk E5).av (g180 x0)⟩⟩⟩
theorem pc180 : FnOk Try.prog 180 F180.sh _ (F180.sh.flatMap Sh.bs) F180.f [] :=
  fun x0 n0 _ hp => pure_of_exec (X := (mkX [(209, F209.ans)])) (R := ⟨.own E5, [.tmp 2], [(.h 0 0, .blk E5)], ⟨[], []⟩⟩) (h := (.s .z (.s .z (.j ⟨13, [], [], [], .f⟩ (.s .z (.lp ⟨3597, [], [], [(.t 3, kI), (.t 11, kI)], some 0, false, 13, [], [(.t 3, kI)], fun k (s : Int × Int) => g180_l1 x0 k s.1 s.2, .f, fun (s : Int × Int) => (0 ≤ s.2 ∧ s.2 ≤ (x0.n : Int) ∧ 0 ≤ s.1 ∧ s.1 ≤ s.2 * 1000000), fun (s : Int × Int) => (Int.toNat ((x0.n : Int) - s.2)), some fun (r : Int) => (0 ≤ r ∧ r ≤ 10000000)⟩ .z)) (.s .z (.j ⟨68, [], [], [], .f⟩ (.s .z (.lp ⟨234881092, [], [], [(.t 27, kI), (.h 0 0, .blk E5)], some 2, false, 68, [], [(.h 0 0, .blk E5)], fun k (s : Int × Sl Int) => g180_l8 x0 k s.1 s.2, .f, fun (s : Int × Sl Int) => (0 ≤ s.1 ∧ s.1 ≤ (x0.n : Int) ∧ ((s.2.n : Nat) : Int) ≤ s.1 * 1000000), fun (s : Int × Sl Int) => (Int.toNat ((x0.n : Int) - s.1)), none⟩ .z)) .z)))))) (ms := []) (p := ((((0 ≤ (0 : Int) ∧ (0 : Int) ≤ (x0.n : Int) ∧ 0 ≤ (0 : Int) ∧ (0 : Int) ≤ (0 : Int) * 1000000)) ∧ (∀ (v1_0 : Int) (v1_1 : Int), (0 ≤ v1_1 ∧ v1_1 ≤ (x0.n : Int) ∧ 0 ≤ v1_0 ∧ v1_0 ≤ v1_1 * 1000000) → (((decide (v1_1 < (x0.n : Int))) = true → (((0 : Int) ≤ v1_1 ∧ v1_1 < ((x0.n : Nat) : Int)) ∧ ((decide ((IntKind.i64.wrap (v1_0 + ((x0.at' (Int.toNat v1_1)).n : Int))) < 0)) = true → False))) ∧ (((decide (v1_1 < (x0.n : Int))) = true → ((decide ((IntKind.i64.wrap (v1_0 + ((x0.at' (Int.toNat v1_1)).n : Int))) < 0)) = false → ((0 ≤ (IntKind.i64.wrap (v1_1 + 1)) ∧ (IntKind.i64.wrap (v1_1 + 1)) ≤ (x0.n : Int) ∧ 0 ≤ (IntKind.i64.wrap (v1_0 + ((x0.at' (Int.toNat v1_1)).n : Int))) ∧ (IntKind.i64.wrap (v1_0 + ((x0.at' (Int.toNat v1_1)).n : Int))) ≤ (IntKind.i64.wrap (v1_1 + 1)) * 1000000) ∧ (Int.toNat ((x0.n : Int) - (IntKind.i64.wrap (v1_1 + 1)))) < (Int.toNat ((x0.n : Int) - v1_1))))) ∧ ((decide (v1_1 < (x0.n : Int))) = false → ((0 ≤ v1_0 ∧ v1_0 ≤ 10000000))))))) ∧ (((0 ≤ (g180_r1 x0) ∧ (g180_r1 x0) ≤ 10000000)) → ((0 ≤ (g180_r1 x0) ∧ (g180_r1 x0) ≤ 549755813888) ∧ (((0 ≤ (0 : Int) ∧ (0 : Int) ≤ (x0.n : Int) ∧ ((0 : Nat) : Int) ≤ (0 : Int) * 1000000)) ∧ (∀ (v8_0 : Int) (v8_1 : Sl Int), (0 ≤ v8_0 ∧ v8_0 ≤ (x0.n : Int) ∧ ((v8_1.n : Nat) : Int) ≤ v8_0 * 1000000) → (((decide (v8_0 < (x0.n : Int))) = true → (((0 : Int) ≤ v8_0 ∧ v8_0 < ((x0.n : Nat) : Int)) ∧ (v8_1.n + (x0.at' (Int.toNat v8_0)).n ≤ 549755813888))) ∧ ((decide (v8_0 < (x0.n : Int))) = true → ((0 ≤ (IntKind.i64.wrap (v8_0 + 1)) ∧ (IntKind.i64.wrap (v8_0 + 1)) ≤ (x0.n : Int) ∧ (((v8_1.n + (x0.at' (Int.toNat v8_0)).n) : Nat) : Int) ≤ (IntKind.i64.wrap (v8_0 + 1)) * 1000000) ∧ (Int.toNat ((x0.n : Int) - (IntKind.i64.wrap (v8_0 + 1)))) < (Int.toNat ((x0.n : Int) - v8_0))))))))))) (mkX_ok ⟨k209, trivial⟩) Try.func180 rfl rfl (by kernel_rfl) (⟨⟨(by have := hp.1; omega), (fun v1_0 v1_1 hI1 => ⟨(fun h2 => ⟨(by have := of_decide_eq_true h2; have := hp.1; omega), (fun h3 => (by have := of_decide_eq_true h2; have := of_decide_eq_true h3; have := hp.1; have := hp.2 (Int.toNat v1_1) (by omega); first | omega | (have := wrap64 (x := (v1_0 + ((x0.at' (Int.toNat v1_1)).n : Int))) (by omega) (by omega); omega)))⟩), ⟨(fun h4 => (fun h5 => (by have := of_decide_eq_true h4; have := of_decide_eq_false h5; have := hp.1; have := hp.2 (Int.toNat v1_1) (by omega); first | omega | (have := wrap64 (x := (v1_1 + 1)) (by omega) (by omega); have := wrap64 (x := (v1_0 + ((x0.at' (Int.toNat v1_1)).n : Int))) (by omega) (by omega); omega)))), (fun h6 => (by have := of_decide_eq_false h6; have := hp.1; omega))⟩⟩)⟩, (fun hF7 => ⟨(by have := hp.1; omega), ⟨(by have := hp.1; omega), (fun v8_0 v8_1 hI8 => ⟨(fun h9 => ⟨(by have := of_decide_eq_true h9; have := hp.1; omega), (by have := of_decide_eq_true h9; have := hp.1; have := hp.2 (Int.toNat v8_0) (by omega); omega)⟩), (fun h10 => (by have := of_decide_eq_true h10; have := hp.1; have := hp.2 (Int.toNat v8_0) (by omega); first | omega | (have := wrap64 (x := (v8_0 + 1)) (by omega) (by omega); omega)))⟩)⟩⟩)⟩)
theorem k180 : XOk Try.prog 180 F180.ans := Fq.ok ⟨_, _, Try.func180, rfl, by kernel_rfl⟩ pc180
noncomputable def g181 (x0 : Int) : Sl Int := (Sl.lit ([(IntKind.u8.wrap (x0 / 2 ^ (Int.toNat 16))), (IntKind.u8.wrap (x0 / 2 ^ (Int.toNat 8))), (IntKind.u8.wrap x0)] : List Int))
noncomputable def F181 : Fq := ⟨[.v kI], fun x0 => ⟨⟨none, (Kd.blk E5).av (g181 x0)⟩⟩⟩
theorem pc181 : FnOk Try.prog 181 F181.sh _ (F181.sh.flatMap Sh.bs) F181.f [] :=
  fun (x0 : Int) => pure_of_exec (X := X0) (R := ⟨.own E5, [.tmp 2], [(.h 0 0, .blk E5)], ⟨[], []⟩⟩) (h := .z) (ms := []) (p := (((0 : Int) ≤ 16 ∧ (16 : Int) ≤ 64) ∧ ((0 : Int) ≤ 8 ∧ (8 : Int) ≤ 64))) X0_ok Try.func181 rfl rfl (by kernel_rfl) (⟨(by omega), (by omega)⟩)
theorem k181 : XOk Try.prog 181 F181.ans := Fq.ok ⟨_, _, Try.func181, rfl, by kernel_rfl⟩ pc181
theorem len181 (x0 : Int) : (g181 x0).n = 3 := rfl
noncomputable def g183 (x0 : Int) : Sl Int := (Sl.lit ([(IntKind.u8.wrap (IntKind.i64.wrap (x0.tdiv 65536))), (IntKind.u8.wrap ((IntKind.i64.wrap (x0.tdiv 256)).tmod 256)), (IntKind.u8.wrap (x0.tmod 256))] : List Int))
noncomputable def F183 : Fq := ⟨[.v kI], fun x0 => ⟨⟨none, (Kd.blk E5).av (g183 x0)⟩⟩⟩
theorem pc183 : FnOk Try.prog 183 F183.sh _ (F183.sh.flatMap Sh.bs) F183.f [] :=
  fun (x0 : Int) => pure_of_exec (X := X0) (R := ⟨.own E5, [.tmp 2], [(.h 0 0, .blk E5)], ⟨[], []⟩⟩) (h := .z) (ms := []) (p := (((65536 : Int) ≠ 0) ∧ (((256 : Int) ≠ 0) ∧ (((256 : Int) ≠ 0) ∧ ((256 : Int) ≠ 0))))) X0_ok Try.func183 rfl rfl (by kernel_rfl) (⟨(by omega), ⟨(by omega), ⟨(by omega), (by omega)⟩⟩⟩)
theorem k183 : XOk Try.prog 183 F183.ans := Fq.ok ⟨_, _, Try.func183, rfl, by kernel_rfl⟩ pc183
theorem len183 (x0 : Int) : (g183 x0).n = 3 := rfl
end Go.Proofs.Ytchhfojblmceiaa
