/-
  Walks: what functions of the program answer, as functions.
-/
import Derived.Test.YtchhfojblmceiaaCl
import Derived.Test.YtchhfojblmceiaaEc
import Derived.Test.YtchhfojblmceiaaY0
namespace Go.Proofs.Ytchhfojblmceiaa
open Go Go.Vc Go.RowKit
set_option maxRecDepth 100000
set_option maxHeartbeats 4000000
noncomputable def g111 (x0 : ByteArray) : Bool := (decide (((x0 : ByteArray).size : Int) > 20))
noncomputable def F111 : Fq := ⟨[.v kS], fun x0 => ⟨⟨none, .bool (g111 x0)⟩⟩⟩
theorem pc111 : FnOk Try.prog 111 F111.sh _ (F111.sh.flatMap Sh.bs) F111.f [] :=
  fun x0 _ => pure_of_exec (X := X0) (R := ⟨.pure, [.tmp 2], [(.t 0, kB)], ⟨[U], []⟩⟩) (h := .z) (ms := []) (p := True) X0_ok Try.func111 rfl rfl (by kernel_rfl) (trivial)
theorem k111 : XOk Try.prog 111 F111.ans := Fq.ok ⟨_, _, Try.func111, rfl, by kernel_rfl⟩ pc111
noncomputable def g192_111_l1 (x0 : Sl ByteArray) : Nat → Int → Bool × Int
  | 0, _ => default
  | k + 1, v1_0 => (bif (decide (v1_0 < (x0.n : Int))) then (bif (g111 (x0.at' (Int.toNat v1_0))) then (true, v1_0) else (g192_111_l1 x0 k (IntKind.i64.wrap (v1_0 + 1)))) else (false, default))
noncomputable def g192_111_r1 (x0 : Sl ByteArray) : Bool × Int := g192_111_l1 x0 ((Int.toNat ((x0.n : Int) - 0)) + 1) 0
noncomputable def g192_111_p2 (x0 : Sl ByteArray) : Bool := (bif (g192_111_r1 x0).1 then false else true)
noncomputable def g192_111 (x0 : Sl ByteArray) : Int := (bif (g192_111_p2 x0) then (-1) else (g192_111_r1 x0).2)
noncomputable def F192_111 : Fq := ⟨[.v (.sl E9), .fn 111 []], fun x0 => ⟨⟨none, .int .i64 (g192_111 x0)⟩⟩⟩
theorem pc192_111 : FnOk Try.prog 192 F192_111.sh _ (F192_111.sh.flatMap Sh.bs) F192_111.f [] :=
  fun x0 n0 _ => pure_of_exec (X := (mkX [(111, F111.ans)])) (R := ⟨.pure, [.tmp 4], [(.t 0, kI)], ⟨[U], []⟩⟩) (h := (.s .z (.j ⟨16, [], [], [], .f⟩ (.s .z (.lp ⟨403, [], [], [(.t 8, kI)], some 0, true, 16, [], [], fun k (s : Int) => g192_111_l1 x0 k s, .f, fun (s : Int) => (0 ≤ s ∧ s ≤ (x0.n : Int)), fun (s : Int) => (Int.toNat ((x0.n : Int) - s)), none⟩ .z)) .z))) (ms := []) (p := (((0 ≤ (0 : Int) ∧ (0 : Int) ≤ (x0.n : Int))) ∧ (∀ (v1_0 : Int), (0 ≤ v1_0 ∧ v1_0 ≤ (x0.n : Int)) → (((decide (v1_0 < (x0.n : Int))) = true → ((0 : Int) ≤ v1_0 ∧ v1_0 < ((x0.n : Nat) : Int))) ∧ ((decide (v1_0 < (x0.n : Int))) = true → ((g111 (x0.at' (Int.toNat v1_0))) = false → ((0 ≤ (IntKind.i64.wrap (v1_0 + 1)) ∧ (IntKind.i64.wrap (v1_0 + 1)) ≤ (x0.n : Int)) ∧ (Int.toNat ((x0.n : Int) - (IntKind.i64.wrap (v1_0 + 1)))) < (Int.toNat ((x0.n : Int) - v1_0))))))))) (mkX_ok ⟨k111, trivial⟩) Try.func192 rfl rfl (by kernel_rfl) (⟨(by omega), (fun v1_0 hI1 => ⟨(fun h2 => (by have := of_decide_eq_true h2; omega)), (fun h3 => (fun h4 => (by have := of_decide_eq_true h3; first | omega | (have := wrap64 (x := (v1_0 + 1)) (by omega) (by omega); omega))))⟩)⟩)
theorem k192_111 : XOk Try.prog 192 F192_111.ans := Fq.ok ⟨_, _, Try.func192, rfl, by kernel_rfl⟩ pc192_111
noncomputable def g110_111 (x0 : Sl ByteArray) : Bool := (decide ((g192_111 x0) ≥ 0))
noncomputable def F110_111 : Fq := ⟨[.v (.sl E9), .fn 111 []], fun x0 => ⟨⟨none, .bool (g110_111 x0)⟩⟩⟩
theorem pc110_111 : FnOk Try.prog 110 F110_111.sh _ (F110_111.sh.flatMap Sh.bs) F110_111.f [] :=
  fun x0 _ _ => pure_of_exec (X := (mkX [(192, F192_111.ans)])) (R := ⟨.pure, [.tmp 4], [(.t 0, kB)], ⟨[U], []⟩⟩) (h := .z) (ms := []) (p := True) (mkX_ok ⟨k192_111, trivial⟩) Try.func110 rfl rfl (by kernel_rfl) (trivial)
theorem k110_111 : XOk Try.prog 110 F110_111.ans := Fq.ok ⟨_, _, Try.func110, rfl, by kernel_rfl⟩ pc110_111
noncomputable def g42_m1 (x0 : Int) : Bool := (bif (decide (x0 < 0)) then true else (decide (x0 > 13)))
noncomputable def g42_m2 (x1 : ByteArray) (x3 : Sl ByteArray) : Bool := (bif (decide (((x1 : ByteArray).size : Int) > 20)) then true else (decide ((x3.n : Int) > 20)))
noncomputable def g42_m3 (x2 : Int) : Bool := (bif (decide (x2 < (-1099511627776))) then true else (decide (x2 > 1099511627776)))
noncomputable def g42 (x0 : Int) (x1 : ByteArray) (x2 : Int) (x3 : Sl ByteArray) : Int := (bif (g42_m1 x0) then 3 else (bif (g42_m2 x1 x3) then 1 else (bif (g110_111 x3) then 1 else (bif (g42_m3 x2) then 2 else 0))))
noncomputable def F42 : Fq := ⟨[.g [kI, kS, kI, .sl E9]], fun x0 x1 x2 x3 => ⟨⟨none, .int .i64 (g42 x0 x1 x2 x3)⟩⟩⟩
theorem pc42 : FnOk Try.prog 42 F42.sh _ (F42.sh.flatMap Sh.bs) F42.f [] :=
  fun (x0 : Int) x1 _ (x2 : Int) x3 _ _ => pure_of_exec (X := (mkX [(110, F110_111.ans)])) (R := ⟨.pure, [.tmp 2], [(.t 0, kI)], ⟨[U], []⟩⟩) (h := (.s .z (.s (.j ⟨1030, [], [(.t 10, kB)], [], .f⟩ .z .z) (.s (.j ⟨1048582, [], [(.t 20, kB)], [], .f⟩ .z .z) (.s .z (.s (.j ⟨2147483652, [.b 0], [(.t 31, kB)], [], .f⟩ .z .z) .z)))))) (ms := []) (p := True) (mkX_ok ⟨k110_111, trivial⟩) Try.func42 rfl rfl (by kernel_rfl) (trivial)
theorem k42 : XOk Try.prog 42 F42.ans := Fq.ok ⟨_, _, Try.func42, rfl, by kernel_rfl⟩ pc42
noncomputable def g43_0 (x0 : Int) : Int := x0
noncomputable def g43_1 (x1 : ByteArray) : ByteArray := x1
noncomputable def g43_2 (x2 : Int) : Int := x2
noncomputable def g43_3 (x3 : Sl ByteArray) : Sl ByteArray := x3
noncomputable def F43 : Fq := ⟨[.g [kI, kS, kI, .sl E9]], fun x0 x1 x2 x3 => ⟨⟨none, .agg [.int .i64 (g43_0 x0), .str (g43_1 x1), .int .i64 (g43_2 x2), ofSl 1 e9 (g43_3 x3)]⟩⟩⟩
theorem pc43 : FnOk Try.prog 43 F43.sh _ (F43.sh.flatMap Sh.bs) F43.f [] :=
  fun (x0 : Int) x1 n1 (x2 : Int) x3 n3 _ => pure_of_exec (X := X0) (R := ⟨.pure, [.cell 2 53], [(.c 0 0, kI), (.c 0 1, kS), (.c 0 2, kI), (.c 0 3, .sl E9)], ⟨[.agg (us 4 [])], []⟩⟩) (h := .z) (ms := []) (p := (x3.n ≤ 549755813888)) X0_ok Try.func43 rfl rfl (by kernel_rfl) ((by omega))
theorem k43 : XOk Try.prog 43 F43.ans := Fq.ok ⟨_, _, Try.func43, rfl, by kernel_rfl⟩ pc43
noncomputable def g44_m1 (x1 : ByteArray) (x3 : Sl ByteArray) : Bool := (bif (!(g113 x1)) then true else (decide ((x3.n : Int) > 20)))
noncomputable def g44_l5 (x3 : Sl ByteArray) : Nat → Int → Bool × Int
  | 0, _ => default
  | k + 1, v5_0 => (bif (decide (v5_0 < (x3.n : Int))) then (bif (!(g113 (x3.at' (Int.toNat v5_0)))) then (true, 1) else (g44_l5 x3 k (IntKind.i64.wrap (v5_0 + 1)))) else (false, default))
noncomputable def g44_r2 (x3 : Sl ByteArray) : Bool × Int := g44_l5 x3 ((Int.toNat ((x3.n : Int) - 0)) + 1) 0
noncomputable def g44_p3 (x3 : Sl ByteArray) : Bool := (bif (g44_r2 x3).1 then false else true)
noncomputable def g44 (x0 : Int) (x1 : ByteArray) (x2 : Int) (x3 : Sl ByteArray) : Int := (bif (!(g112 x0 0 13)) then 3 else (bif (g44_m1 x1 x3) then 1 else (bif (g44_p3 x3) then (bif (!(g114 x2)) then 2 else 0) else (g44_r2 x3).2)))
noncomputable def F44 : Fq := ⟨[.g [kI, kS, kI, .sl E9]], fun x0 x1 x2 x3 => ⟨⟨none, .int .i64 (g44 x0 x1 x2 x3)⟩⟩⟩
theorem pc44 : FnOk Try.prog 44 F44.sh _ (F44.sh.flatMap Sh.bs) F44.f [] :=
  fun (x0 : Int) x1 n1 (x2 : Int) x3 n3 _ => pure_of_exec (X := (mkX [(112, F112.ans), (113, F113.ans), (114, F114.ans)])) (R := ⟨.pure, [.tmp 2], [(.t 0, kI)], ⟨[U], []⟩⟩) (h := (.s .z (.s .z (.s (.j ⟨131078, [], [(.t 17, kB)], [], .f⟩ .z .z) (.j ⟨6, [], [], [], .f⟩ (.s .z (.lp ⟨14, [], [], [(.t 3, kI)], some 0, true, 6, [], [], fun k (s : Int) => g44_l5 x3 k s, .f, fun (s : Int) => (0 ≤ s ∧ s ≤ (x3.n : Int)), fun (s : Int) => (Int.toNat ((x3.n : Int) - s)), none⟩ .z)) .z))))) (ms := []) (p := ((!(g112 x0 0 13)) = false → ((g44_m1 x1 x3) = false → (((0 ≤ (0 : Int) ∧ (0 : Int) ≤ (x3.n : Int))) ∧ (∀ (v5_0 : Int), (0 ≤ v5_0 ∧ v5_0 ≤ (x3.n : Int)) → (((decide (v5_0 < (x3.n : Int))) = true → ((0 : Int) ≤ v5_0 ∧ v5_0 < ((x3.n : Nat) : Int))) ∧ ((decide (v5_0 < (x3.n : Int))) = true → ((!(g113 (x3.at' (Int.toNat v5_0)))) = false → ((0 ≤ (IntKind.i64.wrap (v5_0 + 1)) ∧ (IntKind.i64.wrap (v5_0 + 1)) ≤ (x3.n : Int)) ∧ (Int.toNat ((x3.n : Int) - (IntKind.i64.wrap (v5_0 + 1)))) < (Int.toNat ((x3.n : Int) - v5_0))))))))))) (mkX_ok ⟨k112, k113, k114, trivial⟩) Try.func44 rfl rfl (by kernel_rfl) ((fun h1 => (fun h2 => ⟨(by have := h2; simp [g44_m1] at this; omega), (fun v5_0 hI3 => ⟨(fun h4 => (by have := h2; simp [g44_m1] at this; have := of_decide_eq_true h4; omega)), (fun h5 => (fun h6 => (by have := h2; simp [g44_m1] at this; have := of_decide_eq_true h5; first | omega | (have := wrap64 (x := (v5_0 + 1)) (by omega) (by omega); omega))))⟩)⟩)))
theorem k44 : XOk Try.prog 44 F44.ans := Fq.ok ⟨_, _, Try.func44, rfl, by kernel_rfl⟩ pc44
end Go.Proofs.Ytchhfojblmceiaa
