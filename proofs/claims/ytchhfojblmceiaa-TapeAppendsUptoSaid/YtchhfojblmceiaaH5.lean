/-
  Walks: what functions of the program answer, as functions.
-/
import Derived.Test.YtchhfojblmceiaaCl
import Derived.Test.YtchhfojblmceiaaEc
import Derived.Test.YtchhfojblmceiaaY0
import Derived.Test.YtchhfojblmceiaaY1
import Derived.Test.YtchhfojblmceiaaYr
import Derived.Test.YtchhfojblmceiaaY2
import Derived.Test.YtchhfojblmceiaaZ1
import Derived.Test.YtchhfojblmceiaaZ2
import Derived.Test.YtchhfojblmceiaaZ3
import Derived.Test.YtchhfojblmceiaaZ4
import Derived.Test.YtchhfojblmceiaaZ5
import Derived.Test.YtchhfojblmceiaaH1
import Derived.Test.YtchhfojblmceiaaH2
import Derived.Test.YtchhfojblmceiaaPc
import Derived.Test.YtchhfojblmceiaaPd
namespace Go.Proofs.Ytchhfojblmceiaa
open Go Go.Vc Go.RowKit
set_option maxRecDepth 100000
set_option maxHeartbeats 4000000
noncomputable def g158_l1 (x0 : Sl ByteArray) : Nat → Int → Sl Int → Sl Int
  | 0, _, _ => default
  | k + 1, v1_0, v1_1 => (bif (decide (v1_0 < (x0.n : Int))) then (g158_l1 x0 k (IntKind.i64.wrap (v1_0 + 1)) (g156 (x0.at' (Int.toNat v1_0)) v1_1)) else v1_1)
noncomputable def g158_r1 (x0 : Sl ByteArray) (x1 : Sl Int) : Sl Int := g158_l1 x0 ((Int.toNat ((x0.n : Int) - 0)) + 1) 0 (g155 (x0.n : Int) x1)
noncomputable def g158 (x0 : Sl ByteArray) (x1 : Sl Int) : Sl Int := (g158_r1 x0 x1)
noncomputable def F158 : Hq := ⟨[.p 0, .v (.sl E9)], [(.h 1 0, .blk E5)], [[.own 1 0], [U]], fun x0 x1 => ⟨⟨some (TOK x0 ∧ x1.n ≤ 250000000000), [], [[.own 1 ((g158 x0 x1)).n], [(Kd.blk E5).av (g158 x0 x1)]]⟩⟩⟩
theorem pc158 : HqOk Try.prog 158 F158 _ (F158.sh.flatMap Sh.bs) F158.f [] :=
  fun x0 n0 x1 n1 hp => heap_of_exec (X := (mkXh 2 [] [(155, F155.ans), (156, F156.ans)])) (R := ⟨.heap, [], [(.h 1 0, .blk E5)], ⟨[], [[.own 1 0], [U]]⟩⟩) (h := (.s .z (.s .z (.lp ⟨7169, [], [], [(.t 12, kI), (.h 1 0, .blk E5)], some 0, false, 0, [], [(.h 1 0, .blk E5)], fun k (s : Int × Sl Int) => g158_l1 x0 k s.1 s.2, .f, fun (s : Int × Sl Int) => (0 ≤ s.1 ∧ s.1 ≤ (x0.n : Int) ∧ ((s.2.n : Nat) : Int) ≤ ((x1.n : Nat) : Int) + 1 + s.1 * 21), fun (s : Int × Sl Int) => (Int.toNat ((x0.n : Int) - s.1)), none⟩ .z)))) (ms := []) (p := ((x1.n ≤ 400000000000) ∧ (((0 ≤ (0 : Int) ∧ (0 : Int) ≤ (x0.n : Int) ∧ (((g155 (x0.n : Int) x1).n : Nat) : Int) ≤ ((x1.n : Nat) : Int) + 1 + (0 : Int) * 21)) ∧ (∀ (v1_0 : Int) (v1_1 : Sl Int), (0 ≤ v1_0 ∧ v1_0 ≤ (x0.n : Int) ∧ ((v1_1.n : Nat) : Int) ≤ ((x1.n : Nat) : Int) + 1 + v1_0 * 21) → (((decide (v1_0 < (x0.n : Int))) = true → (((0 : Int) ≤ v1_0 ∧ v1_0 < ((x0.n : Nat) : Int)) ∧ (v1_1.n ≤ 300000000000 ∧ (x0.at' (Int.toNat v1_0)).size ≤ 10000000000))) ∧ ((decide (v1_0 < (x0.n : Int))) = true → ((0 ≤ (IntKind.i64.wrap (v1_0 + 1)) ∧ (IntKind.i64.wrap (v1_0 + 1)) ≤ (x0.n : Int) ∧ (((g156 (x0.at' (Int.toNat v1_0)) v1_1).n : Nat) : Int) ≤ ((x1.n : Nat) : Int) + 1 + (IntKind.i64.wrap (v1_0 + 1)) * 21) ∧ (Int.toNat ((x0.n : Int) - (IntKind.i64.wrap (v1_0 + 1)))) < (Int.toNat ((x0.n : Int) - v1_0))))))))) (mkXh_ok trivial ⟨k155, k156, trivial⟩) Try.func158 rfl rfl rfl (by kernel_rfl) (have ⟨hq0, hq1⟩ := hp; ⟨(by have := hq0.1; omega), ⟨(by have := hq0.1; have := len155 (x0.n : Int) x1; omega), (fun v1_0 v1_1 hI1 => ⟨(fun h2 => ⟨(by have := of_decide_eq_true h2; have := hq0.1; omega), (by have := of_decide_eq_true h2; have := hq0.1; have := hq0.2 (Int.toNat v1_0) (by omega); omega)⟩), (fun h3 => (by have := of_decide_eq_true h3; have := hq0.1; have := hq0.2 (Int.toNat v1_0) (by omega); have := len156 (x0.at' (Int.toNat v1_0)) v1_1; first | omega | (have := wrap64 (x := (v1_0 + 1)) (by omega) (by omega); omega)))⟩)⟩⟩)
theorem k158 : XHOk Try.prog 158 F158.ans := Hq.ok ⟨_, _, Try.func158, rfl, by kernel_rfl⟩ (by kernel_rfl) pc158
noncomputable def g204_l1 (x0 : Sl ByteArray) : Nat → Sl Int → Int → Sl Int
  | 0, _, _ => default
  | k + 1, v1_0, v1_1 => (bif (decide (v1_1 < (x0.n : Int))) then (g204_l1 x0 k (g109 v1_0 (g195 (x0.at' (Int.toNat v1_1)))) (IntKind.i64.wrap (v1_1 + 1))) else v1_0)
noncomputable def g204_r1 (x0 : Sl ByteArray) : Sl Int := g204_l1 x0 ((Int.toNat ((x0.n : Int) - 0)) + 1) (Sl.lit ([(IntKind.u8.wrap (x0.n : Int))] : List Int)) 0
noncomputable def g204 (x0 : Sl ByteArray) : Sl Int := (g204_r1 x0)
noncomputable def F204 : Fq := ⟨[.v (.sl E9)], fun x0 => ⟨⟨some (TOK x0), ofSl 1 e5 (g204 x0)⟩⟩⟩
theorem pc204 : FnOk Try.prog 204 F204.sh _ (F204.sh.flatMap Sh.bs) F204.f [] :=
  fun x0 n0 _ hp => pure_of_exec (X := (mkX [(109, F109.ans), (195, F195.ans)])) (R := ⟨.pure, [.tmp 2], [(.t 0, .sl E5)], ⟨[U], []⟩⟩) (h := (.s .z (.s .z (.j ⟨12, [], [], [], .f⟩ (.s .z (.lp ⟨29, [.b 0], [(.t 3, E5)], [(.t 3, .sl E5), (.t 4, kI)], some 0, false, 12, [], [(.t 3, .sl E5)], fun k (s : Sl Int × Int) => g204_l1 x0 k s.1 s.2, .f, fun (s : Sl Int × Int) => (0 ≤ s.2 ∧ s.2 ≤ (x0.n : Int) ∧ ((s.1.n : Nat) : Int) ≤ 1 + s.2 * 21), fun (s : Sl Int × Int) => (Int.toNat ((x0.n : Int) - s.2)), none⟩ (.s .z (.s .z (.cv [(.t 3, E5)]))))) .z)))) (ms := []) (p := (((0 ≤ (0 : Int) ∧ (0 : Int) ≤ (x0.n : Int) ∧ ((1 : Nat) : Int) ≤ 1 + (0 : Int) * 21)) ∧ (∀ (v1_0 : Sl Int) (v1_1 : Int), (0 ≤ v1_1 ∧ v1_1 ≤ (x0.n : Int) ∧ ((v1_0.n : Nat) : Int) ≤ 1 + v1_1 * 21) → (((decide (v1_1 < (x0.n : Int))) = true → (((0 : Int) ≤ v1_1 ∧ v1_1 < ((x0.n : Nat) : Int)) ∧ (((x0.at' (Int.toNat v1_1)).size ≤ 10000000000) ∧ (v1_0.n + (g195 (x0.at' (Int.toNat v1_1))).n ≤ 549755813888)))) ∧ ((decide (v1_1 < (x0.n : Int))) = true → ((0 ≤ (IntKind.i64.wrap (v1_1 + 1)) ∧ (IntKind.i64.wrap (v1_1 + 1)) ≤ (x0.n : Int) ∧ (((g109 v1_0 (g195 (x0.at' (Int.toNat v1_1)))).n : Nat) : Int) ≤ 1 + (IntKind.i64.wrap (v1_1 + 1)) * 21) ∧ (Int.toNat ((x0.n : Int) - (IntKind.i64.wrap (v1_1 + 1)))) < (Int.toNat ((x0.n : Int) - v1_1)))))))) (mkX_ok ⟨k109, k195, trivial⟩) Try.func204 rfl rfl (by kernel_rfl) (⟨(by have := hp.1; omega), (fun v1_0 v1_1 hI1 => ⟨(fun h2 => ⟨(by have := of_decide_eq_true h2; have := hp.1; omega), ⟨(by have := of_decide_eq_true h2; have := hp.1; have := hp.2 (Int.toNat v1_1) (by omega); omega), (by have := of_decide_eq_true h2; have := hp.1; have := hp.2 (Int.toNat v1_1) (by omega); have := len195 (x0.at' (Int.toNat v1_1)); omega)⟩⟩), (fun h3 => (by have := of_decide_eq_true h3; have := hp.1; have := hp.2 (Int.toNat v1_1) (by omega); have := len109 v1_0 (g195 (x0.at' (Int.toNat v1_1))); have := len195 (x0.at' (Int.toNat v1_1)); first | omega | (have := wrap64 (x := (v1_1 + 1)) (by omega) (by omega); omega)))⟩)⟩)
theorem k204 : XOk Try.prog 204 F204.ans := Fq.ok ⟨_, _, Try.func204, rfl, by kernel_rfl⟩ pc204
end Go.Proofs.Ytchhfojblmceiaa
