/-
  Walks: what functions of the program answer, as functions.
-/
import Derived.Test.YtchhfojblmceiaaCl
import Derived.Test.YtchhfojblmceiaaEc
import Derived.Test.YtchhfojblmceiaaY0
namespace Go.Proofs.Ytchhfojblmceiaa
open Go Go.Vc Go.RowKit
set_option maxRecDepth 100000
set_option maxHeartbeats 4000000
noncomputable def g143 (x0 : ByteArray) (x1 : ByteArray) : Int := (g200 x0 x1)
noncomputable def F143 : Fq := ⟨[.v kS, .v kS], fun x0 x1 => ⟨⟨none, .int .i64 (g143 x0 x1)⟩⟩⟩
theorem pc143 : FnOk Try.prog 143 F143.sh _ (F143.sh.flatMap Sh.bs) F143.f [] :=
  fun x0 _ x1 _ => pure_of_exec (X := (mkX [(200, F200.ans)])) (R := ⟨.pure, [.tmp 4], [(.t 0, kI)], ⟨[U], []⟩⟩) (h := .z) (ms := []) (p := True) (mkX_ok ⟨k200, trivial⟩) Try.func143 rfl rfl (by kernel_rfl) (trivial)
theorem k143 : XOk Try.prog 143 F143.ans := Fq.ok ⟨_, _, Try.func143, rfl, by kernel_rfl⟩ pc143
noncomputable def g139 (x0 : ByteArray) (x2 : ByteArray) : Int := (g143 x0 x2)
noncomputable def F139 : Fq := ⟨[.g [kS, kS], .g [kS, kS]], fun x0 _ x2 _ => ⟨⟨none, .int .i64 (g139 x0 x2)⟩⟩⟩
theorem pc139 : FnOk Try.prog 139 F139.sh _ (F139.sh.flatMap Sh.bs) F139.f [] :=
  fun x0 _ x1 _ x2 _ x3 _ => pure_of_exec (X := (mkX [(143, F143.ans)])) (R := ⟨.pure, [.tmp 4], [(.t 0, kI)], ⟨[U], []⟩⟩) (h := .z) (ms := []) (p := True) (mkX_ok ⟨k143, trivial⟩) Try.func139 rfl rfl (by kernel_rfl) (trivial)
theorem k139 : XOk Try.prog 139 F139.ans := Fq.ok ⟨_, _, Try.func139, rfl, by kernel_rfl⟩ pc139
noncomputable def g138_139_l1 (x0 : Sl T160) : Nat → Int → Bool × Bool
  | 0, _ => default
  | k + 1, v1_0 => (bif (decide (v1_0 < (x0.n : Int))) then (bif (decide ((g139 (x0.at' (Int.toNat (IntKind.i64.wrap (v1_0 - 1)))).c0 (x0.at' (Int.toNat v1_0)).c0) ≥ 0)) then (true, false) else (g138_139_l1 x0 k (IntKind.i64.wrap (v1_0 + 1)))) else (false, default))
noncomputable def g138_139_r1 (x0 : Sl T160) : Bool × Bool := g138_139_l1 x0 ((Int.toNat ((x0.n : Int) - 1)) + 1) 1
noncomputable def g138_139_p2 (x0 : Sl T160) : Bool := (bif (g138_139_r1 x0).1 then false else true)
noncomputable def g138_139 (x0 : Sl T160) : Bool := (bif (g138_139_p2 x0) then true else (g138_139_r1 x0).2)
noncomputable def F138_139 : Fq := ⟨[.v (.sl E160), .fn 139 []], fun x0 => ⟨⟨none, .bool (g138_139 x0)⟩⟩⟩
theorem pc138_139 : FnOk Try.prog 138 F138_139.sh _ (F138_139.sh.flatMap Sh.bs) F138_139.f [] :=
  fun x0 n0 _ => pure_of_exec (X := (mkX [(139, F139.ans)])) (R := ⟨.pure, [.tmp 4], [(.t 0, kB)], ⟨[U], []⟩⟩) (h := (.s .z (.j ⟨16, [], [], [], .f⟩ (.s .z (.lp ⟨51, [], [], [(.t 5, kI)], some 0, true, 16, [], [], fun k (s : Int) => g138_139_l1 x0 k s, .f, fun (s : Int) => (1 ≤ s ∧ (s ≤ (x0.n : Int) ∨ s = 1)), fun (s : Int) => (Int.toNat ((x0.n : Int) - s)), none⟩ .z)) .z))) (ms := []) (p := (((1 ≤ (1 : Int) ∧ ((1 : Int) ≤ (x0.n : Int) ∨ (1 : Int) = 1))) ∧ (∀ (v1_0 : Int), (1 ≤ v1_0 ∧ (v1_0 ≤ (x0.n : Int) ∨ v1_0 = 1)) → (((decide (v1_0 < (x0.n : Int))) = true → ((0 ≤ (IntKind.i64.wrap (v1_0 - 1)) ∧ (IntKind.i64.wrap (v1_0 - 1)) < ((x0.n : Nat) : Int)) ∧ (0 ≤ v1_0 ∧ v1_0 < ((x0.n : Nat) : Int)))) ∧ ((decide (v1_0 < (x0.n : Int))) = true → ((decide ((g139 (x0.at' (Int.toNat (IntKind.i64.wrap (v1_0 - 1)))).c0 (x0.at' (Int.toNat v1_0)).c0) ≥ 0)) = false → ((1 ≤ (IntKind.i64.wrap (v1_0 + 1)) ∧ ((IntKind.i64.wrap (v1_0 + 1)) ≤ (x0.n : Int) ∨ (IntKind.i64.wrap (v1_0 + 1)) = 1)) ∧ (Int.toNat ((x0.n : Int) - (IntKind.i64.wrap (v1_0 + 1)))) < (Int.toNat ((x0.n : Int) - v1_0))))))))) (mkX_ok ⟨k139, trivial⟩) Try.func138 rfl rfl (by kernel_rfl) (⟨(by omega), (fun v1_0 hI1 => ⟨(fun h2 => ⟨(by have := of_decide_eq_true h2; first | omega | (have := wrap64 (x := (v1_0 - 1)) (by omega) (by omega); omega)), (by have := of_decide_eq_true h2; omega)⟩), (fun h3 => (fun h4 => (by have := of_decide_eq_true h3; have := of_decide_eq_false h4; first | omega | (have := wrap64 (x := (v1_0 + 1)) (by omega) (by omega); omega))))⟩)⟩)
theorem k138_139 : XOk Try.prog 138 F138_139.ans := Fq.ok ⟨_, _, Try.func138, rfl, by kernel_rfl⟩ pc138_139
noncomputable def g198_l1 (x0 : Sl Int) : Nat → Int → Bool × Int
  | 0, _ => default
  | k + 1, v1_0 => (bif (decide (v1_0 < (x0.n : Int))) then (bif ((x0.at' (Int.toNat v1_0)) != 0) then (true, (x0.at' (Int.toNat v1_0))) else (g198_l1 x0 k (IntKind.i64.wrap (v1_0 + 1)))) else (false, default))
noncomputable def g198_r1 (x0 : Sl Int) : Bool × Int := g198_l1 x0 ((Int.toNat ((x0.n : Int) - 0)) + 1) 0
noncomputable def g198_p2 (x0 : Sl Int) : Bool := (bif (g198_r1 x0).1 then false else true)
noncomputable def g198 (x0 : Sl Int) : Int := (bif (g198_p2 x0) then 0 else (g198_r1 x0).2)
noncomputable def F198 : Fq := ⟨[.v (.sl E3)], fun x0 => ⟨⟨none, .int .i64 (g198 x0)⟩⟩⟩
theorem pc198 : FnOk Try.prog 198 F198.sh _ (F198.sh.flatMap Sh.bs) F198.f [] :=
  fun x0 n0 _ => pure_of_exec (X := X0) (R := ⟨.pure, [.tmp 2], [(.t 0, kI)], ⟨[U], []⟩⟩) (h := (.s .z (.s .z (.j ⟨12, [], [], [], .f⟩ (.s .z (.lp ⟨460, [], [], [(.t 8, kI)], some 0, true, 12, [], [], fun k (s : Int) => g198_l1 x0 k s, .f, fun (s : Int) => (0 ≤ s ∧ s ≤ (x0.n : Int)), fun (s : Int) => (Int.toNat ((x0.n : Int) - s)), none⟩ .z)) .z)))) (ms := []) (p := (((0 ≤ (0 : Int) ∧ (0 : Int) ≤ (x0.n : Int))) ∧ (∀ (v1_0 : Int), (0 ≤ v1_0 ∧ v1_0 ≤ (x0.n : Int)) → (((decide (v1_0 < (x0.n : Int))) = true → (0 ≤ v1_0 ∧ v1_0 < ((x0.n : Nat) : Int))) ∧ ((decide (v1_0 < (x0.n : Int))) = true → (((x0.at' (Int.toNat v1_0)) != 0) = false → ((0 ≤ (IntKind.i64.wrap (v1_0 + 1)) ∧ (IntKind.i64.wrap (v1_0 + 1)) ≤ (x0.n : Int)) ∧ (Int.toNat ((x0.n : Int) - (IntKind.i64.wrap (v1_0 + 1)))) < (Int.toNat ((x0.n : Int) - v1_0))))))))) X0_ok Try.func198 rfl rfl (by kernel_rfl) (⟨(by omega), (fun v1_0 hI1 => ⟨(fun h2 => (by have := of_decide_eq_true h2; omega)), (fun h3 => (fun h4 => (by have := of_decide_eq_true h3; have := bne_eq_false_iff_eq.1 h4; first | omega | (have := wrap64 (x := (v1_0 + 1)) (by omega) (by omega); omega))))⟩)⟩)
theorem k198 : XOk Try.prog 198 F198.ans := Fq.ok ⟨_, _, Try.func198, rfl, by kernel_rfl⟩ pc198
noncomputable def g225 (x0 : Int) : Bool := (x0 != x0)
noncomputable def F225 : Fq := ⟨[.v kI], fun x0 => ⟨⟨none, .bool (g225 x0)⟩⟩⟩
theorem pc225 : FnOk Try.prog 225 F225.sh _ (F225.sh.flatMap Sh.bs) F225.f [] :=
  fun (x0 : Int) => pure_of_exec (X := X0) (R := ⟨.pure, [.tmp 2], [(.t 0, kB)], ⟨[U], []⟩⟩) (h := .z) (ms := []) (p := True) X0_ok Try.func225 rfl rfl (by kernel_rfl) (trivial)
theorem k225 : XOk Try.prog 225 F225.ans := Fq.ok ⟨_, _, Try.func225, rfl, by kernel_rfl⟩ pc225
noncomputable def g199 (x0 : Int) (x1 : Int) : Int := (bif (g225 x0) then (bif (g225 x1) then 0 else (-1)) else (bif (g225 x1) then 1 else (bif (decide (x0 < x1)) then (-1) else (bif (decide (x0 > x1)) then 1 else 0))))
noncomputable def F199 : Fq := ⟨[.v kI, .v kI], fun x0 x1 => ⟨⟨none, .int .i64 (g199 x0 x1)⟩⟩⟩
theorem pc199 : FnOk Try.prog 199 F199.sh _ (F199.sh.flatMap Sh.bs) F199.f [] :=
  fun (x0 : Int) (x1 : Int) => pure_of_exec (X := (mkX [(225, F225.ans)])) (R := ⟨.pure, [.tmp 4], [(.t 0, kI)], ⟨[U], []⟩⟩) (h := .z) (ms := []) (p := True) (mkX_ok ⟨k225, trivial⟩) Try.func199 rfl rfl (by kernel_rfl) (trivial)
theorem k199 : XOk Try.prog 199 F199.ans := Fq.ok ⟨_, _, Try.func199, rfl, by kernel_rfl⟩ pc199
noncomputable def g141 (x0 : ByteArray) (x1 : Int) (x2 : ByteArray) (x3 : Int) : Int := (g198 (Sl.lit ([(g199 x1 x3), (g143 x0 x2)] : List Int)))
noncomputable def F141 : Fq := ⟨[.g [kS, kI], .g [kS, kI]], fun x0 x1 x2 x3 => ⟨⟨none, .int .i64 (g141 x0 x1 x2 x3)⟩⟩⟩
theorem pc141 : FnOk Try.prog 141 F141.sh _ (F141.sh.flatMap Sh.bs) F141.f [] :=
  fun x0 _ (x1 : Int) x2 _ (x3 : Int) => pure_of_exec (X := (mkX [(143, F143.ans), (198, F198.ans), (199, F199.ans)])) (R := ⟨.pure, [.tmp 4], [(.t 0, kI)], ⟨[U], []⟩⟩) (h := .z) (ms := []) (p := True) (mkX_ok ⟨k143, k198, k199, trivial⟩) Try.func141 rfl rfl (by kernel_rfl) (trivial)
theorem k141 : XOk Try.prog 141 F141.ans := Fq.ok ⟨_, _, Try.func141, rfl, by kernel_rfl⟩ pc141
noncomputable def g140_141_l1 (x0 : Sl T164) : Nat → Int → Bool × Bool
  | 0, _ => default
  | k + 1, v1_0 => (bif (decide (v1_0 < (x0.n : Int))) then (bif (decide ((g141 (x0.at' (Int.toNat (IntKind.i64.wrap (v1_0 - 1)))).c0 (x0.at' (Int.toNat (IntKind.i64.wrap (v1_0 - 1)))).c1 (x0.at' (Int.toNat v1_0)).c0 (x0.at' (Int.toNat v1_0)).c1) ≥ 0)) then (true, false) else (g140_141_l1 x0 k (IntKind.i64.wrap (v1_0 + 1)))) else (false, default))
noncomputable def g140_141_r1 (x0 : Sl T164) : Bool × Bool := g140_141_l1 x0 ((Int.toNat ((x0.n : Int) - 1)) + 1) 1
noncomputable def g140_141_p2 (x0 : Sl T164) : Bool := (bif (g140_141_r1 x0).1 then false else true)
noncomputable def g140_141 (x0 : Sl T164) : Bool := (bif (g140_141_p2 x0) then true else (g140_141_r1 x0).2)
noncomputable def F140_141 : Fq := ⟨[.v (.sl E164), .fn 141 []], fun x0 => ⟨⟨none, .bool (g140_141 x0)⟩⟩⟩
theorem pc140_141 : FnOk Try.prog 140 F140_141.sh _ (F140_141.sh.flatMap Sh.bs) F140_141.f [] :=
  fun x0 n0 _ => pure_of_exec (X := (mkX [(141, F141.ans)])) (R := ⟨.pure, [.tmp 4], [(.t 0, kB)], ⟨[U], []⟩⟩) (h := (.s .z (.j ⟨16, [], [], [], .f⟩ (.s .z (.lp ⟨51, [], [], [(.t 5, kI)], some 0, true, 16, [], [], fun k (s : Int) => g140_141_l1 x0 k s, .f, fun (s : Int) => (1 ≤ s ∧ (s ≤ (x0.n : Int) ∨ s = 1)), fun (s : Int) => (Int.toNat ((x0.n : Int) - s)), none⟩ .z)) .z))) (ms := []) (p := (((1 ≤ (1 : Int) ∧ ((1 : Int) ≤ (x0.n : Int) ∨ (1 : Int) = 1))) ∧ (∀ (v1_0 : Int), (1 ≤ v1_0 ∧ (v1_0 ≤ (x0.n : Int) ∨ v1_0 = 1)) → (((decide (v1_0 < (x0.n : Int))) = true → ((0 ≤ (IntKind.i64.wrap (v1_0 - 1)) ∧ (IntKind.i64.wrap (v1_0 - 1)) < ((x0.n : Nat) : Int)) ∧ (0 ≤ v1_0 ∧ v1_0 < ((x0.n : Nat) : Int)))) ∧ ((decide (v1_0 < (x0.n : Int))) = true → ((decide ((g141 (x0.at' (Int.toNat (IntKind.i64.wrap (v1_0 - 1)))).c0 (x0.at' (Int.toNat (IntKind.i64.wrap (v1_0 - 1)))).c1 (x0.at' (Int.toNat v1_0)).c0 (x0.at' (Int.toNat v1_0)).c1) ≥ 0)) = false → ((1 ≤ (IntKind.i64.wrap (v1_0 + 1)) ∧ ((IntKind.i64.wrap (v1_0 + 1)) ≤ (x0.n : Int) ∨ (IntKind.i64.wrap (v1_0 + 1)) = 1)) ∧ (Int.toNat ((x0.n : Int) - (IntKind.i64.wrap (v1_0 + 1)))) < (Int.toNat ((x0.n : Int) - v1_0))))))))) (mkX_ok ⟨k141, trivial⟩) Try.func140 rfl rfl (by kernel_rfl) (⟨(by omega), (fun v1_0 hI1 => ⟨(fun h2 => ⟨(by have := of_decide_eq_true h2; first | omega | (have := wrap64 (x := (v1_0 - 1)) (by omega) (by omega); omega)), (by have := of_decide_eq_true h2; omega)⟩), (fun h3 => (fun h4 => (by have := of_decide_eq_true h3; have := of_decide_eq_false h4; first | omega | (have := wrap64 (x := (v1_0 + 1)) (by omega) (by omega); omega))))⟩)⟩)
theorem k140_141 : XOk Try.prog 140 F140_141.ans := Fq.ok ⟨_, _, Try.func140, rfl, by kernel_rfl⟩ pc140_141
noncomputable def g142_143_l1 (x0 : Sl ByteArray) : Nat → Int → Bool × Bool
  | 0, _ => default
  | k + 1, v1_0 => (bif (decide (v1_0 < (x0.n : Int))) then (bif (decide ((g143 (x0.at' (Int.toNat (IntKind.i64.wrap (v1_0 - 1)))) (x0.at' (Int.toNat v1_0))) ≥ 0)) then (true, false) else (g142_143_l1 x0 k (IntKind.i64.wrap (v1_0 + 1)))) else (false, default))
noncomputable def g142_143_r1 (x0 : Sl ByteArray) : Bool × Bool := g142_143_l1 x0 ((Int.toNat ((x0.n : Int) - 1)) + 1) 1
noncomputable def g142_143_p2 (x0 : Sl ByteArray) : Bool := (bif (g142_143_r1 x0).1 then false else true)
noncomputable def g142_143 (x0 : Sl ByteArray) : Bool := (bif (g142_143_p2 x0) then true else (g142_143_r1 x0).2)
noncomputable def F142_143 : Fq := ⟨[.v (.sl E9), .fn 143 []], fun x0 => ⟨⟨none, .bool (g142_143 x0)⟩⟩⟩
theorem pc142_143 : FnOk Try.prog 142 F142_143.sh _ (F142_143.sh.flatMap Sh.bs) F142_143.f [] :=
  fun x0 n0 _ => pure_of_exec (X := (mkX [(143, F143.ans)])) (R := ⟨.pure, [.tmp 4], [(.t 0, kB)], ⟨[U], []⟩⟩) (h := (.s .z (.j ⟨16, [], [], [], .f⟩ (.s .z (.lp ⟨51, [], [], [(.t 5, kI)], some 0, true, 16, [], [], fun k (s : Int) => g142_143_l1 x0 k s, .f, fun (s : Int) => (1 ≤ s ∧ (s ≤ (x0.n : Int) ∨ s = 1)), fun (s : Int) => (Int.toNat ((x0.n : Int) - s)), none⟩ .z)) .z))) (ms := []) (p := (((1 ≤ (1 : Int) ∧ ((1 : Int) ≤ (x0.n : Int) ∨ (1 : Int) = 1))) ∧ (∀ (v1_0 : Int), (1 ≤ v1_0 ∧ (v1_0 ≤ (x0.n : Int) ∨ v1_0 = 1)) → (((decide (v1_0 < (x0.n : Int))) = true → ((0 ≤ (IntKind.i64.wrap (v1_0 - 1)) ∧ (IntKind.i64.wrap (v1_0 - 1)) < ((x0.n : Nat) : Int)) ∧ (0 ≤ v1_0 ∧ v1_0 < ((x0.n : Nat) : Int)))) ∧ ((decide (v1_0 < (x0.n : Int))) = true → ((decide ((g143 (x0.at' (Int.toNat (IntKind.i64.wrap (v1_0 - 1)))) (x0.at' (Int.toNat v1_0))) ≥ 0)) = false → ((1 ≤ (IntKind.i64.wrap (v1_0 + 1)) ∧ ((IntKind.i64.wrap (v1_0 + 1)) ≤ (x0.n : Int) ∨ (IntKind.i64.wrap (v1_0 + 1)) = 1)) ∧ (Int.toNat ((x0.n : Int) - (IntKind.i64.wrap (v1_0 + 1)))) < (Int.toNat ((x0.n : Int) - v1_0))))))))) (mkX_ok ⟨k143, trivial⟩) Try.func142 rfl rfl (by kernel_rfl) (⟨(by omega), (fun v1_0 hI1 => ⟨(fun h2 => ⟨(by have := of_decide_eq_true h2; first | omega | (have := wrap64 (x := (v1_0 - 1)) (by omega) (by omega); omega)), (by have := of_decide_eq_true h2; omega)⟩), (fun h3 => (fun h4 => (by have := of_decide_eq_true h3; have := of_decide_eq_false h4; first | omega | (have := wrap64 (x := (v1_0 + 1)) (by omega) (by omega); omega))))⟩)⟩)
theorem k142_143 : XOk Try.prog 142 F142_143.ans := Fq.ok ⟨_, _, Try.func142, rfl, by kernel_rfl⟩ pc142_143
noncomputable def g132 (x0 : ByteArray) : Bool := (!(g116 x0))
noncomputable def F132 : Fq := ⟨[.v kS], fun x0 => ⟨⟨none, .bool (g132 x0)⟩⟩⟩
theorem pc132 : FnOk Try.prog 132 F132.sh _ (F132.sh.flatMap Sh.bs) F132.f [] :=
  fun x0 _ => pure_of_exec (X := (mkX [(116, F116.ans)])) (R := ⟨.pure, [.tmp 2], [(.t 0, kB)], ⟨[U], []⟩⟩) (h := .z) (ms := []) (p := True) (mkX_ok ⟨k116, trivial⟩) Try.func132 rfl rfl (by kernel_rfl) (trivial)
theorem k132 : XOk Try.prog 132 F132.ans := Fq.ok ⟨_, _, Try.func132, rfl, by kernel_rfl⟩ pc132
noncomputable def g192_132_l1 (x0 : Sl ByteArray) : Nat → Int → Bool × Int
  | 0, _ => default
  | k + 1, v1_0 => (bif (decide (v1_0 < (x0.n : Int))) then (bif (g132 (x0.at' (Int.toNat v1_0))) then (true, v1_0) else (g192_132_l1 x0 k (IntKind.i64.wrap (v1_0 + 1)))) else (false, default))
noncomputable def g192_132_r1 (x0 : Sl ByteArray) : Bool × Int := g192_132_l1 x0 ((Int.toNat ((x0.n : Int) - 0)) + 1) 0
noncomputable def g192_132_p2 (x0 : Sl ByteArray) : Bool := (bif (g192_132_r1 x0).1 then false else true)
noncomputable def g192_132 (x0 : Sl ByteArray) : Int := (bif (g192_132_p2 x0) then (-1) else (g192_132_r1 x0).2)
noncomputable def F192_132 : Fq := ⟨[.v (.sl E9), .fn 132 []], fun x0 => ⟨⟨none, .int .i64 (g192_132 x0)⟩⟩⟩
theorem pc192_132 : FnOk Try.prog 192 F192_132.sh _ (F192_132.sh.flatMap Sh.bs) F192_132.f [] :=
  fun x0 n0 _ => pure_of_exec (X := (mkX [(132, F132.ans)])) (R := ⟨.pure, [.tmp 4], [(.t 0, kI)], ⟨[U], []⟩⟩) (h := (.s .z (.j ⟨16, [], [], [], .f⟩ (.s .z (.lp ⟨403, [], [], [(.t 8, kI)], some 0, true, 16, [], [], fun k (s : Int) => g192_132_l1 x0 k s, .f, fun (s : Int) => (0 ≤ s ∧ s ≤ (x0.n : Int)), fun (s : Int) => (Int.toNat ((x0.n : Int) - s)), none⟩ .z)) .z))) (ms := []) (p := (((0 ≤ (0 : Int) ∧ (0 : Int) ≤ (x0.n : Int))) ∧ (∀ (v1_0 : Int), (0 ≤ v1_0 ∧ v1_0 ≤ (x0.n : Int)) → (((decide (v1_0 < (x0.n : Int))) = true → (0 ≤ v1_0 ∧ v1_0 < ((x0.n : Nat) : Int))) ∧ ((decide (v1_0 < (x0.n : Int))) = true → ((g132 (x0.at' (Int.toNat v1_0))) = false → ((0 ≤ (IntKind.i64.wrap (v1_0 + 1)) ∧ (IntKind.i64.wrap (v1_0 + 1)) ≤ (x0.n : Int)) ∧ (Int.toNat ((x0.n : Int) - (IntKind.i64.wrap (v1_0 + 1)))) < (Int.toNat ((x0.n : Int) - v1_0))))))))) (mkX_ok ⟨k132, trivial⟩) Try.func192 rfl rfl (by kernel_rfl) (⟨(by omega), (fun v1_0 hI1 => ⟨(fun h2 => (by have := of_decide_eq_true h2; omega)), (fun h3 => (fun h4 => (by have := of_decide_eq_true h3; first | omega | (have := wrap64 (x := (v1_0 + 1)) (by omega) (by omega); omega))))⟩)⟩)
theorem k192_132 : XOk Try.prog 192 F192_132.ans := Fq.ok ⟨_, _, Try.func192, rfl, by kernel_rfl⟩ pc192_132
noncomputable def g110_132 (x0 : Sl ByteArray) : Bool := (decide ((g192_132 x0) ≥ 0))
noncomputable def F110_132 : Fq := ⟨[.v (.sl E9), .fn 132 []], fun x0 => ⟨⟨none, .bool (g110_132 x0)⟩⟩⟩
theorem pc110_132 : FnOk Try.prog 110 F110_132.sh _ (F110_132.sh.flatMap Sh.bs) F110_132.f [] :=
  fun x0 _ _ => pure_of_exec (X := (mkX [(192, F192_132.ans)])) (R := ⟨.pure, [.tmp 4], [(.t 0, kB)], ⟨[U], []⟩⟩) (h := .z) (ms := []) (p := True) (mkX_ok ⟨k192_132, trivial⟩) Try.func110 rfl rfl (by kernel_rfl) (trivial)
theorem k110_132 : XOk Try.prog 110 F110_132.ans := Fq.ok ⟨_, _, Try.func110, rfl, by kernel_rfl⟩ pc110_132
noncomputable def g134_m1 (x0 : ByteArray) (x1 : ByteArray) : Bool := (bif (!(g115 x0)) then true else (!(g116 x1)))
noncomputable def g134 (x0 : ByteArray) (x1 : ByteArray) : Bool := (g134_m1 x0 x1)
noncomputable def F134 : Fq := ⟨[.g [kS, kS]], fun x0 x1 => ⟨⟨none, .bool (g134 x0 x1)⟩⟩⟩
theorem pc134 : FnOk Try.prog 134 F134.sh _ (F134.sh.flatMap Sh.bs) F134.f [] :=
  fun x0 _ x1 _ => pure_of_exec (X := (mkX [(115, F115.ans), (116, F116.ans)])) (R := ⟨.pure, [.tmp 2], [(.t 0, kB)], ⟨[U], []⟩⟩) (h := (.s .z (.j ⟨4, [.b 0], [(.t 2, kB)], [], .f⟩ .z .z))) (ms := []) (p := True) (mkX_ok ⟨k115, k116, trivial⟩) Try.func134 rfl rfl (by kernel_rfl) (trivial)
theorem k134 : XOk Try.prog 134 F134.ans := Fq.ok ⟨_, _, Try.func134, rfl, by kernel_rfl⟩ pc134
noncomputable def g196_134_l1 (x0 : Sl T160) : Nat → Int → Bool × Int
  | 0, _ => default
  | k + 1, v1_0 => (bif (decide (v1_0 < (x0.n : Int))) then (bif (g134 (x0.at' (Int.toNat v1_0)).c0 (x0.at' (Int.toNat v1_0)).c1) then (true, v1_0) else (g196_134_l1 x0 k (IntKind.i64.wrap (v1_0 + 1)))) else (false, default))
noncomputable def g196_134_r1 (x0 : Sl T160) : Bool × Int := g196_134_l1 x0 ((Int.toNat ((x0.n : Int) - 0)) + 1) 0
noncomputable def g196_134_p2 (x0 : Sl T160) : Bool := (bif (g196_134_r1 x0).1 then false else true)
noncomputable def g196_134 (x0 : Sl T160) : Int := (bif (g196_134_p2 x0) then (-1) else (g196_134_r1 x0).2)
noncomputable def F196_134 : Fq := ⟨[.v (.sl E160), .fn 134 []], fun x0 => ⟨⟨none, .int .i64 (g196_134 x0)⟩⟩⟩
theorem pc196_134 : FnOk Try.prog 196 F196_134.sh _ (F196_134.sh.flatMap Sh.bs) F196_134.f [] :=
  fun x0 n0 _ => pure_of_exec (X := (mkX [(134, F134.ans)])) (R := ⟨.pure, [.tmp 4], [(.t 0, kI)], ⟨[U], []⟩⟩) (h := (.s .z (.j ⟨16, [], [], [], .f⟩ (.s .z (.lp ⟨403, [], [], [(.t 8, kI)], some 0, true, 16, [], [], fun k (s : Int) => g196_134_l1 x0 k s, .f, fun (s : Int) => (0 ≤ s ∧ s ≤ (x0.n : Int)), fun (s : Int) => (Int.toNat ((x0.n : Int) - s)), none⟩ .z)) .z))) (ms := []) (p := (((0 ≤ (0 : Int) ∧ (0 : Int) ≤ (x0.n : Int))) ∧ (∀ (v1_0 : Int), (0 ≤ v1_0 ∧ v1_0 ≤ (x0.n : Int)) → (((decide (v1_0 < (x0.n : Int))) = true → (0 ≤ v1_0 ∧ v1_0 < ((x0.n : Nat) : Int))) ∧ ((decide (v1_0 < (x0.n : Int))) = true → ((g134 (x0.at' (Int.toNat v1_0)).c0 (x0.at' (Int.toNat v1_0)).c1) = false → ((0 ≤ (IntKind.i64.wrap (v1_0 + 1)) ∧ (IntKind.i64.wrap (v1_0 + 1)) ≤ (x0.n : Int)) ∧ (Int.toNat ((x0.n : Int) - (IntKind.i64.wrap (v1_0 + 1)))) < (Int.toNat ((x0.n : Int) - v1_0))))))))) (mkX_ok ⟨k134, trivial⟩) Try.func196 rfl rfl (by kernel_rfl) (⟨(by omega), (fun v1_0 hI1 => ⟨(fun h2 => (by have := of_decide_eq_true h2; omega)), (fun h3 => (fun h4 => (by have := of_decide_eq_true h3; first | omega | (have := wrap64 (x := (v1_0 + 1)) (by omega) (by omega); omega))))⟩)⟩)
theorem k196_134 : XOk Try.prog 196 F196_134.ans := Fq.ok ⟨_, _, Try.func196, rfl, by kernel_rfl⟩ pc196_134
noncomputable def g133_134 (x0 : Sl T160) : Bool := (decide ((g196_134 x0) ≥ 0))
noncomputable def F133_134 : Fq := ⟨[.v (.sl E160), .fn 134 []], fun x0 => ⟨⟨none, .bool (g133_134 x0)⟩⟩⟩
theorem pc133_134 : FnOk Try.prog 133 F133_134.sh _ (F133_134.sh.flatMap Sh.bs) F133_134.f [] :=
  fun x0 _ _ => pure_of_exec (X := (mkX [(196, F196_134.ans)])) (R := ⟨.pure, [.tmp 4], [(.t 0, kB)], ⟨[U], []⟩⟩) (h := .z) (ms := []) (p := True) (mkX_ok ⟨k196_134, trivial⟩) Try.func133 rfl rfl (by kernel_rfl) (trivial)
theorem k133_134 : XOk Try.prog 133 F133_134.ans := Fq.ok ⟨_, _, Try.func133, rfl, by kernel_rfl⟩ pc133_134
noncomputable def g136 (x0 : ByteArray) : Bool := (!(g116 x0))
noncomputable def F136 : Fq := ⟨[.g [kS, kI]], fun x0 _ => ⟨⟨none, .bool (g136 x0)⟩⟩⟩
theorem pc136 : FnOk Try.prog 136 F136.sh _ (F136.sh.flatMap Sh.bs) F136.f [] :=
  fun x0 _ (x1 : Int) => pure_of_exec (X := (mkX [(116, F116.ans)])) (R := ⟨.pure, [.tmp 2], [(.t 0, kB)], ⟨[U], []⟩⟩) (h := .z) (ms := []) (p := True) (mkX_ok ⟨k116, trivial⟩) Try.func136 rfl rfl (by kernel_rfl) (trivial)
theorem k136 : XOk Try.prog 136 F136.ans := Fq.ok ⟨_, _, Try.func136, rfl, by kernel_rfl⟩ pc136
noncomputable def g197_136_l1 (x0 : Sl T164) : Nat → Int → Bool × Int
  | 0, _ => default
  | k + 1, v1_0 => (bif (decide (v1_0 < (x0.n : Int))) then (bif (g136 (x0.at' (Int.toNat v1_0)).c0) then (true, v1_0) else (g197_136_l1 x0 k (IntKind.i64.wrap (v1_0 + 1)))) else (false, default))
noncomputable def g197_136_r1 (x0 : Sl T164) : Bool × Int := g197_136_l1 x0 ((Int.toNat ((x0.n : Int) - 0)) + 1) 0
noncomputable def g197_136_p2 (x0 : Sl T164) : Bool := (bif (g197_136_r1 x0).1 then false else true)
noncomputable def g197_136 (x0 : Sl T164) : Int := (bif (g197_136_p2 x0) then (-1) else (g197_136_r1 x0).2)
noncomputable def F197_136 : Fq := ⟨[.v (.sl E164), .fn 136 []], fun x0 => ⟨⟨none, .int .i64 (g197_136 x0)⟩⟩⟩
theorem pc197_136 : FnOk Try.prog 197 F197_136.sh _ (F197_136.sh.flatMap Sh.bs) F197_136.f [] :=
  fun x0 n0 _ => pure_of_exec (X := (mkX [(136, F136.ans)])) (R := ⟨.pure, [.tmp 4], [(.t 0, kI)], ⟨[U], []⟩⟩) (h := (.s .z (.j ⟨16, [], [], [], .f⟩ (.s .z (.lp ⟨403, [], [], [(.t 8, kI)], some 0, true, 16, [], [], fun k (s : Int) => g197_136_l1 x0 k s, .f, fun (s : Int) => (0 ≤ s ∧ s ≤ (x0.n : Int)), fun (s : Int) => (Int.toNat ((x0.n : Int) - s)), none⟩ .z)) .z))) (ms := []) (p := (((0 ≤ (0 : Int) ∧ (0 : Int) ≤ (x0.n : Int))) ∧ (∀ (v1_0 : Int), (0 ≤ v1_0 ∧ v1_0 ≤ (x0.n : Int)) → (((decide (v1_0 < (x0.n : Int))) = true → (0 ≤ v1_0 ∧ v1_0 < ((x0.n : Nat) : Int))) ∧ ((decide (v1_0 < (x0.n : Int))) = true → ((g136 (x0.at' (Int.toNat v1_0)).c0) = false → ((0 ≤ (IntKind.i64.wrap (v1_0 + 1)) ∧ (IntKind.i64.wrap (v1_0 + 1)) ≤ (x0.n : Int)) ∧ (Int.toNat ((x0.n : Int) - (IntKind.i64.wrap (v1_0 + 1)))) < (Int.toNat ((x0.n : Int) - v1_0))))))))) (mkX_ok ⟨k136, trivial⟩) Try.func197 rfl rfl (by kernel_rfl) (⟨(by omega), (fun v1_0 hI1 => ⟨(fun h2 => (by have := of_decide_eq_true h2; omega)), (fun h3 => (fun h4 => (by have := of_decide_eq_true h3; first | omega | (have := wrap64 (x := (v1_0 + 1)) (by omega) (by omega); omega))))⟩)⟩)
theorem k197_136 : XOk Try.prog 197 F197_136.ans := Fq.ok ⟨_, _, Try.func197, rfl, by kernel_rfl⟩ pc197_136
noncomputable def g135_136 (x0 : Sl T164) : Bool := (decide ((g197_136 x0) ≥ 0))
noncomputable def F135_136 : Fq := ⟨[.v (.sl E164), .fn 136 []], fun x0 => ⟨⟨none, .bool (g135_136 x0)⟩⟩⟩
theorem pc135_136 : FnOk Try.prog 135 F135_136.sh _ (F135_136.sh.flatMap Sh.bs) F135_136.f [] :=
  fun x0 _ _ => pure_of_exec (X := (mkX [(197, F197_136.ans)])) (R := ⟨.pure, [.tmp 4], [(.t 0, kB)], ⟨[U], []⟩⟩) (h := .z) (ms := []) (p := True) (mkX_ok ⟨k197_136, trivial⟩) Try.func135 rfl rfl (by kernel_rfl) (trivial)
theorem k135_136 : XOk Try.prog 135 F135_136.ans := Fq.ok ⟨_, _, Try.func135, rfl, by kernel_rfl⟩ pc135_136
noncomputable def g137 (x1 : Int) : Bool := (!(g117 x1))
noncomputable def F137 : Fq := ⟨[.g [kS, kI]], fun _ x1 => ⟨⟨none, .bool (g137 x1)⟩⟩⟩
theorem pc137 : FnOk Try.prog 137 F137.sh _ (F137.sh.flatMap Sh.bs) F137.f [] :=
  fun x0 _ (x1 : Int) => pure_of_exec (X := (mkX [(117, F117.ans)])) (R := ⟨.pure, [.tmp 2], [(.t 0, kB)], ⟨[U], []⟩⟩) (h := .z) (ms := []) (p := True) (mkX_ok ⟨k117, trivial⟩) Try.func137 rfl rfl (by kernel_rfl) (trivial)
theorem k137 : XOk Try.prog 137 F137.ans := Fq.ok ⟨_, _, Try.func137, rfl, by kernel_rfl⟩ pc137
noncomputable def g197_137_l1 (x0 : Sl T164) : Nat → Int → Bool × Int
  | 0, _ => default
  | k + 1, v1_0 => (bif (decide (v1_0 < (x0.n : Int))) then (bif (g137 (x0.at' (Int.toNat v1_0)).c1) then (true, v1_0) else (g197_137_l1 x0 k (IntKind.i64.wrap (v1_0 + 1)))) else (false, default))
noncomputable def g197_137_r1 (x0 : Sl T164) : Bool × Int := g197_137_l1 x0 ((Int.toNat ((x0.n : Int) - 0)) + 1) 0
noncomputable def g197_137_p2 (x0 : Sl T164) : Bool := (bif (g197_137_r1 x0).1 then false else true)
noncomputable def g197_137 (x0 : Sl T164) : Int := (bif (g197_137_p2 x0) then (-1) else (g197_137_r1 x0).2)
noncomputable def F197_137 : Fq := ⟨[.v (.sl E164), .fn 137 []], fun x0 => ⟨⟨none, .int .i64 (g197_137 x0)⟩⟩⟩
theorem pc197_137 : FnOk Try.prog 197 F197_137.sh _ (F197_137.sh.flatMap Sh.bs) F197_137.f [] :=
  fun x0 n0 _ => pure_of_exec (X := (mkX [(137, F137.ans)])) (R := ⟨.pure, [.tmp 4], [(.t 0, kI)], ⟨[U], []⟩⟩) (h := (.s .z (.j ⟨16, [], [], [], .f⟩ (.s .z (.lp ⟨403, [], [], [(.t 8, kI)], some 0, true, 16, [], [], fun k (s : Int) => g197_137_l1 x0 k s, .f, fun (s : Int) => (0 ≤ s ∧ s ≤ (x0.n : Int)), fun (s : Int) => (Int.toNat ((x0.n : Int) - s)), none⟩ .z)) .z))) (ms := []) (p := (((0 ≤ (0 : Int) ∧ (0 : Int) ≤ (x0.n : Int))) ∧ (∀ (v1_0 : Int), (0 ≤ v1_0 ∧ v1_0 ≤ (x0.n : Int)) → (((decide (v1_0 < (x0.n : Int))) = true → (0 ≤ v1_0 ∧ v1_0 < ((x0.n : Nat) : Int))) ∧ ((decide (v1_0 < (x0.n : Int))) = true → ((g137 (x0.at' (Int.toNat v1_0)).c1) = false → ((0 ≤ (IntKind.i64.wrap (v1_0 + 1)) ∧ (IntKind.i64.wrap (v1_0 + 1)) ≤ (x0.n : Int)) ∧ (Int.toNat ((x0.n : Int) - (IntKind.i64.wrap (v1_0 + 1)))) < (Int.toNat ((x0.n : Int) - v1_0))))))))) (mkX_ok ⟨k137, trivial⟩) Try.func197 rfl rfl (by kernel_rfl) (⟨(by omega), (fun v1_0 hI1 => ⟨(fun h2 => (by have := of_decide_eq_true h2; omega)), (fun h3 => (fun h4 => (by have := of_decide_eq_true h3; first | omega | (have := wrap64 (x := (v1_0 + 1)) (by omega) (by omega); omega))))⟩)⟩)
theorem k197_137 : XOk Try.prog 197 F197_137.ans := Fq.ok ⟨_, _, Try.func197, rfl, by kernel_rfl⟩ pc197_137
noncomputable def g135_137 (x0 : Sl T164) : Bool := (decide ((g197_137 x0) ≥ 0))
noncomputable def F135_137 : Fq := ⟨[.v (.sl E164), .fn 137 []], fun x0 => ⟨⟨none, .bool (g135_137 x0)⟩⟩⟩
theorem pc135_137 : FnOk Try.prog 135 F135_137.sh _ (F135_137.sh.flatMap Sh.bs) F135_137.f [] :=
  fun x0 _ _ => pure_of_exec (X := (mkX [(197, F197_137.ans)])) (R := ⟨.pure, [.tmp 4], [(.t 0, kB)], ⟨[U], []⟩⟩) (h := .z) (ms := []) (p := True) (mkX_ok ⟨k197_137, trivial⟩) Try.func135 rfl rfl (by kernel_rfl) (trivial)
theorem k135_137 : XOk Try.prog 135 F135_137.ans := Fq.ok ⟨_, _, Try.func135, rfl, by kernel_rfl⟩ pc135_137
noncomputable def g131 (x3 : Sl T160) (x4 : Sl ByteArray) (x5 : Sl T164) : Int := (IntKind.i64.wrap ((IntKind.i64.wrap ((x3.n : Int) + (x4.n : Int))) + (x5.n : Int)))
noncomputable def F131 : Fq := ⟨[.g [kI, kS, kI, .sl E160, .sl E9, .sl E164]], fun _ _ _ x3 x4 x5 => ⟨⟨none, .int .i64 (g131 x3 x4 x5)⟩⟩⟩
theorem pc131 : FnOk Try.prog 131 F131.sh _ (F131.sh.flatMap Sh.bs) F131.f [] :=
  fun (x0 : Int) x1 _ (x2 : Int) x3 _ _ x4 _ _ x5 _ _ => pure_of_exec (X := X0) (R := ⟨.pure, [.tmp 2], [(.t 0, kI)], ⟨[U], []⟩⟩) (h := .z) (ms := []) (p := True) X0_ok Try.func131 rfl rfl (by kernel_rfl) (trivial)
theorem k131 : XOk Try.prog 131 F131.ans := Fq.ok ⟨_, _, Try.func131, rfl, by kernel_rfl⟩ pc131
noncomputable def g201s (x0 : ByteArray) (x2 : ByteArray) : Bool := ((x0 : ByteArray).toList == (x2 : ByteArray).toList)
noncomputable def F201s : Fq := ⟨[.g [kS, kI], .r [kS]], fun x0 _ x2 => ⟨⟨none, .bool (g201s x0 x2)⟩⟩⟩
theorem pc201s : FnOk Try.prog 201 F201s.sh _ (F201s.sh.flatMap Sh.bs) F201s.f [] :=
  fun x0 _ (x1 : Int) x2 => pure_of_exec (X := X0) (R := ⟨.pure, [.tmp 3], [(.t 0, kB)], ⟨[U], []⟩⟩) (h := .z) (ms := []) (p := True) X0_ok Try.func201 rfl rfl (by kernel_rfl) (trivial)
theorem k201s : XOk Try.prog 201 F201s.ans := Fq.ok ⟨_, _, Try.func201, rfl, by kernel_rfl⟩ pc201s
noncomputable def g197_201s_l1 (x0 : Sl T164) (x1 : ByteArray) : Nat → Int → Bool × Int
  | 0, _ => default
  | k + 1, v1_0 => (bif (decide (v1_0 < (x0.n : Int))) then (bif (g201s (x0.at' (Int.toNat v1_0)).c0 x1) then (true, v1_0) else (g197_201s_l1 x0 x1 k (IntKind.i64.wrap (v1_0 + 1)))) else (false, default))
noncomputable def g197_201s_r1 (x0 : Sl T164) (x1 : ByteArray) : Bool × Int := g197_201s_l1 x0 x1 ((Int.toNat ((x0.n : Int) - 0)) + 1) 0
noncomputable def g197_201s_p2 (x0 : Sl T164) (x1 : ByteArray) : Bool := (bif (g197_201s_r1 x0 x1).1 then false else true)
noncomputable def g197_201s (x0 : Sl T164) (x1 : ByteArray) : Int := (bif (g197_201s_p2 x0 x1) then (-1) else (g197_201s_r1 x0 x1).2)
noncomputable def F197_201s : Fq := ⟨[.v (.sl E164), .fn 201 [[kS]]], fun x0 x1 => ⟨⟨none, .int .i64 (g197_201s x0 x1)⟩⟩⟩
theorem pc197_201s : FnOk Try.prog 197 F197_201s.sh _ (F197_201s.sh.flatMap Sh.bs) F197_201s.f [] :=
  fun x0 n0 _ x1 => pure_of_exec (X := (mkX [(201, F201s.ans)])) (R := ⟨.pure, [.tmp 4], [(.t 0, kI)], ⟨[U], []⟩⟩) (h := (.s .z (.j ⟨16, [], [], [], .f⟩ (.s .z (.lp ⟨403, [], [], [(.t 8, kI)], some 0, true, 16, [], [], fun k (s : Int) => g197_201s_l1 x0 x1 k s, .f, fun (s : Int) => (0 ≤ s ∧ s ≤ (x0.n : Int)), fun (s : Int) => (Int.toNat ((x0.n : Int) - s)), none⟩ .z)) .z))) (ms := []) (p := (((0 ≤ (0 : Int) ∧ (0 : Int) ≤ (x0.n : Int))) ∧ (∀ (v1_0 : Int), (0 ≤ v1_0 ∧ v1_0 ≤ (x0.n : Int)) → (((decide (v1_0 < (x0.n : Int))) = true → (0 ≤ v1_0 ∧ v1_0 < ((x0.n : Nat) : Int))) ∧ ((decide (v1_0 < (x0.n : Int))) = true → ((g201s (x0.at' (Int.toNat v1_0)).c0 x1) = false → ((0 ≤ (IntKind.i64.wrap (v1_0 + 1)) ∧ (IntKind.i64.wrap (v1_0 + 1)) ≤ (x0.n : Int)) ∧ (Int.toNat ((x0.n : Int) - (IntKind.i64.wrap (v1_0 + 1)))) < (Int.toNat ((x0.n : Int) - v1_0))))))))) (mkX_ok ⟨k201s, trivial⟩) Try.func197 rfl rfl (by kernel_rfl) (⟨(by omega), (fun v1_0 hI1 => ⟨(fun h2 => (by have := of_decide_eq_true h2; omega)), (fun h3 => (fun h4 => (by have := of_decide_eq_true h3; first | omega | (have := wrap64 (x := (v1_0 + 1)) (by omega) (by omega); omega))))⟩)⟩)
theorem k197_201s : XOk Try.prog 197 F197_201s.ans := Fq.ok ⟨_, _, Try.func197, rfl, by kernel_rfl⟩ pc197_201s
noncomputable def g144 (x0 : Sl T164) (x1 : ByteArray) : Int := (g197_201s x0 x1)
noncomputable def F144 : Fq := ⟨[.v (.sl E164), .v kS], fun x0 x1 => ⟨⟨none, .int .i64 (g144 x0 x1)⟩⟩⟩
theorem pc144 : FnOk Try.prog 144 F144.sh _ (F144.sh.flatMap Sh.bs) F144.f [] :=
  fun x0 _ _ x1 _ => pure_of_exec (X := (mkX [(197, F197_201s.ans)])) (R := ⟨.pure, [.tmp 4], [(.t 0, kI)], ⟨[U], []⟩⟩) (h := (.s .z (.s (.fz 3 0 .z) .z))) (ms := []) (p := True) (mkX_ok ⟨k197_201s, trivial⟩) Try.func144 rfl rfl (by kernel_rfl) (trivial)
theorem k144 : XOk Try.prog 144 F144.ans := Fq.ok ⟨_, _, Try.func144, rfl, by kernel_rfl⟩ pc144
noncomputable def g72_m1 (x0 : Int) : Bool := (bif (decide (x0 < 1)) then true else (decide (x0 > 6)))
noncomputable def g72_m2 (x0 : Int) (x1 : ByteArray) : ByteArray := (bif (x0 == 1) then ⟨#[]⟩ else x1)
noncomputable def g72_m3 (x0 : Int) (x2 : Int) : Int := (bif (x0 == 1) then x2 else (bif (x0 == 2) then 0 else x2))
noncomputable def g72_m4 (x0 : Int) (x3 : Sl T160) : Sl T160 := (bif (x0 == 1) then x3 else (bif (x0 == 2) then x3 else (bif (x0 == 3) then (nilSl : Sl T160) else x3)))
noncomputable def g72_m5 (x0 : Int) (x4 : Sl ByteArray) : Sl ByteArray := (bif (x0 == 1) then x4 else (bif (x0 == 2) then x4 else (bif (x0 == 3) then x4 else (bif (x0 == 6) then x4 else (nilSl : Sl ByteArray)))))
noncomputable def g72_m6 (x0 : Int) (x5 : Sl T164) : Sl T164 := (bif (x0 == 1) then x5 else (bif (x0 == 2) then x5 else (bif (x0 == 3) then x5 else (bif (x0 == 6) then (nilSl : Sl T164) else x5))))
noncomputable def g72_m7 (x0 : Int) (x1 : ByteArray) (x2 : Int) (x3 : Sl T160) (x4 : Sl ByteArray) (x5 : Sl T164) : Bool := (bif (!(((g72_m2 x0 x1) : ByteArray).toList == (⟨#[]⟩ : ByteArray).toList)) then true else (bif ((g72_m3 x0 x2) != 0) then true else (decide ((g131 (g72_m4 x0 x3) (g72_m5 x0 x4) (g72_m6 x0 x5)) > 0))))
noncomputable def g72_m8 (x0 : Int) (x3 : Sl T160) (x4 : Sl ByteArray) (x5 : Sl T164) : Bool := (bif (decide (x0 ≥ 3)) then (bif (decide ((g131 x3 x4 x5) < 1)) then true else (decide ((g131 x3 x4 x5) > 20))) else false)
noncomputable def g72_m9 (x1 : ByteArray) (x4 : Sl ByteArray) : Bool := (bif (!(g116 x1)) then true else (g110_132 x4))
noncomputable def g72_m10 (x2 : Int) (x5 : Sl T164) : Bool := (bif (!(g117 x2)) then true else (g135_137 x5))
noncomputable def g72_m11 (x0 : Int) (x3 : Sl T160) (x4 : Sl ByteArray) (x5 : Sl T164) : Bool := (bif (g138_139 x3) then (bif (g140_141 x5) then (bif (x0 != 5) then true else (g142_143 x4)) else false) else false)
noncomputable def g72_m12 (x5 : Sl T164) (v29_0 : Bool) (v29_1 : Int) : Bool := (bif v29_0 then (decide ((g144 (Sl.part x5 0 v29_1) (x5.at' (Int.toNat v29_1)).c0) < 0)) else false)
noncomputable def g72_m13 (v29_0 : Bool) : Bool := (bif v29_0 then true else false)
noncomputable def g72_m14 (x5 : Sl T164) (v29_0 : Bool) (v29_1 : Int) : Bool := (bif v29_0 then (decide ((g144 (Sl.part x5 0 v29_1) (x5.at' (Int.toNat v29_1)).c0) < 0)) else false)
noncomputable def g72_l29 (x5 : Sl T164) : Nat → Bool → Int → Bool
  | 0, _, _ => default
  | k + 1, v29_0, v29_1 => (bif (decide (v29_1 < (x5.n : Int))) then (g72_l29 x5 k (g72_m12 x5 v29_0 v29_1) (IntKind.i64.wrap (v29_1 + 1))) else v29_0)
noncomputable def g72_r15 (x0 : Int) (x3 : Sl T160) (x4 : Sl ByteArray) (x5 : Sl T164) : Bool := g72_l29 x5 ((Int.toNat ((x5.n : Int) - 0)) + 1) (g72_m11 x0 x3 x4 x5) 0
noncomputable def g72 (x0 : Int) (x1 : ByteArray) (x2 : Int) (x3 : Sl T160) (x4 : Sl ByteArray) (x5 : Sl T164) : Int := (bif (g72_m1 x0) then 3 else (bif (g72_m7 x0 x1 x2 x3 x4 x5) then 8 else (bif (g72_m8 x0 x3 x4 x5) then 1 else (bif (g72_m9 x1 x4) then 1 else (bif (g133_134 x3) then 1 else (bif (g135_136 x5) then 1 else (bif (g72_m10 x2 x5) then 2 else (bif (!(g72_r15 x0 x3 x4 x5)) then 10 else 0))))))))
noncomputable def F72 : Fq := ⟨[.g [kI, kS, kI, .sl E160, .sl E9, .sl E164]], fun x0 x1 x2 x3 x4 x5 => ⟨⟨none, .int .i64 (g72 x0 x1 x2 x3 x4 x5)⟩⟩⟩
theorem pc72 : FnOk Try.prog 72 F72.sh _ (F72.sh.flatMap Sh.bs) F72.f [] :=
  fun (x0 : Int) x1 n1 (x2 : Int) x3 n3 _ x4 n4 _ x5 n5 _ => pure_of_exec (X := (mkX [(110, F110_132.ans), (116, F116.ans), (117, F117.ans), (131, F131.ans), (133, F133_134.ans), (135, F135_136.ans), (135, F135_137.ans), (138, F138_139.ans), (140, F140_141.ans), (142, F142_143.ans), (144, F144.ans)])) (R := ⟨.pure, [.tmp 2], [(.t 0, kI)], ⟨[U], []⟩⟩) (h := (.s .z (.s (.j ⟨16390, [], [(.t 14, kB)], [], .f⟩ .z .z) (.s .z (.j ⟨14, [], [(.h 1 1, kS), (.h 1 2, kI), (.h 1 3, .sl E160), (.h 1 4, .sl E9), (.h 1 5, .sl E164)], [(.b .f .l), (.b .f (.b .f .l)), (.b .f (.b .f (.b .f .l))), .f, .f], .f⟩ .z (.s (.j ⟨8796093022214, [.b 1], [(.t 43, kB)], [], .f⟩ .z .z) (.s (.j ⟨72057594037927942, [], [(.t 56, kB)], [], .f⟩ .z .z) (.s (.j ⟨36893488147419103238, [], [(.t 65, kB)], [], .f⟩ .z .z) (.s .z (.s .z (.s (.j ⟨1208925819614629174706182, [], [(.t 80, kB)], [], .f⟩ .z .z) (.j ⟨22, [], [(.t 4, kB)], [], .f⟩ .z (.j ⟨20, [], [], [], .f⟩ (.s .z (.lp ⟨8873554201597605810476922437654, [], [], [(.t 4, kB), (.t 102, kI)], some 1, false, 20, [.b 0], [(.t 4, kB)], fun k (s : Bool × Int) => g72_l29 x5 k s.1 s.2, .f, fun (s : Bool × Int) => (0 ≤ s.2 ∧ s.2 ≤ (x5.n : Int)), fun (s : Bool × Int) => (Int.toNat ((x5.n : Int) - s.2)), none⟩ (.s .z (.s .z (.s (.s .z (.j ⟨166801268929831109337140697872990326, [], [(.t 4, kB), (.t 108, kB), (.t 117, kB)], [], .f⟩ .z .z)) .z))))) .z))))))))))))) (ms := []) (p := ((g72_m1 x0) = false → ((g72_m7 x0 x1 x2 x3 x4 x5) = false → ((g72_m8 x0 x3 x4 x5) = false → ((g72_m9 x1 x4) = false → ((g133_134 x3) = false → ((g135_136 x5) = false → ((g72_m10 x2 x5) = false → (((0 ≤ (0 : Int) ∧ (0 : Int) ≤ (x5.n : Int))) ∧ (∀ (v29_0 : Bool) (v29_1 : Int), (0 ≤ v29_1 ∧ v29_1 ≤ (x5.n : Int)) → (((decide (v29_1 < (x5.n : Int))) = true → ((0 ≤ v29_1 ∧ v29_1 < ((x5.n : Nat) : Int)) ∧ (v29_0 = true → (((0 : Int) ≤ 0) ∧ ((0 : Int) ≤ v29_1) ∧ ((v29_1 : Int) ≤ v29_1) ∧ ((v29_1 : Int) ≤ ((x5.n : Nat) : Int)))))) ∧ ((decide (v29_1 < (x5.n : Int))) = true → ((0 ≤ (IntKind.i64.wrap (v29_1 + 1)) ∧ (IntKind.i64.wrap (v29_1 + 1)) ≤ (x5.n : Int)) ∧ (Int.toNat ((x5.n : Int) - (IntKind.i64.wrap (v29_1 + 1)))) < (Int.toNat ((x5.n : Int) - v29_1))))))))))))))) (mkX_ok ⟨k110_132, k116, k117, k131, k133_134, k135_136, k135_137, k138_139, k140_141, k142_143, k144, trivial⟩) Try.func72 rfl rfl (by kernel_rfl) ((fun h1 => (fun h2 => (fun h3 => (fun h4 => (fun h5 => (fun h6 => (fun h7 => ⟨(by have := h1; simp [g72_m1] at this; have := h2; simp [g72_m7] at this; have := h3; simp [g72_m8] at this; have := h4; simp [g72_m9] at this; have := h7; simp [g72_m10] at this; omega), (fun v29_0 v29_1 hI8 => ⟨(fun h9 => ⟨(by have := h1; simp [g72_m1] at this; have := h2; simp [g72_m7] at this; have := h3; simp [g72_m8] at this; have := h4; simp [g72_m9] at this; have := h7; simp [g72_m10] at this; have := of_decide_eq_true h9; omega), (fun h10 => (by have := h1; simp [g72_m1] at this; have := h2; simp [g72_m7] at this; have := h3; simp [g72_m8] at this; have := h4; simp [g72_m9] at this; have := h7; simp [g72_m10] at this; have := of_decide_eq_true h9; omega))⟩), (fun h11 => (by have := h1; simp [g72_m1] at this; have := h2; simp [g72_m7] at this; have := h3; simp [g72_m8] at this; have := h4; simp [g72_m9] at this; have := h7; simp [g72_m10] at this; have := of_decide_eq_true h11; first | omega | (have := wrap64 (x := (v29_1 + 1)) (by omega) (by omega); omega)))⟩)⟩))))))))
theorem k72 : XOk Try.prog 72 F72.ans := Fq.ok ⟨_, _, Try.func72, rfl, by kernel_rfl⟩ pc72
end Go.Proofs.Ytchhfojblmceiaa
