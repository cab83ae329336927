/-
  Walks: what functions of the program answer, as functions.
-/
import Derived.Test.YtchhfojblmceiaaCl
import Derived.Test.YtchhfojblmceiaaEc
namespace Go.Proofs.Ytchhfojblmceiaa
open Go Go.Vc Go.RowKit
set_option maxRecDepth 100000
set_option maxHeartbeats 4000000
noncomputable def g112_m1 (x0 : Int) (x1 : Int) (x2 : Int) : Bool := (bif (decide (x0 ≥ x1)) then (decide (x0 ≤ x2)) else false)
noncomputable def g112 (x0 : Int) (x1 : Int) (x2 : Int) : Bool := (g112_m1 x0 x1 x2)
noncomputable def F112 : Fq := ⟨[.v kI, .v kI, .v kI], fun x0 x1 x2 => ⟨⟨none, .bool (g112 x0 x1 x2)⟩⟩⟩
theorem pc112 : FnOk Try.prog 112 F112.sh _ (F112.sh.flatMap Sh.bs) F112.f [] :=
  fun (x0 : Int) (x1 : Int) (x2 : Int) => pure_of_exec (X := X0) (R := ⟨.pure, [.tmp 6], [(.t 0, kB)], ⟨[U], []⟩⟩) (h := (.s .z (.j ⟨64, [], [(.t 6, kB)], [], .f⟩ .z .z))) (ms := []) (p := True) X0_ok Try.func112 rfl rfl (by kernel_rfl) (trivial)
theorem k112 : XOk Try.prog 112 F112.ans := Fq.ok ⟨_, _, Try.func112, rfl, by kernel_rfl⟩ pc112
noncomputable def g113 (x0 : ByteArray) : Bool := (decide (((x0 : ByteArray).size : Int) ≤ 20))
noncomputable def F113 : Fq := ⟨[.v kS], fun x0 => ⟨⟨none, .bool (g113 x0)⟩⟩⟩
theorem pc113 : FnOk Try.prog 113 F113.sh _ (F113.sh.flatMap Sh.bs) F113.f [] :=
  fun x0 _ => pure_of_exec (X := X0) (R := ⟨.pure, [.tmp 2], [(.t 0, kB)], ⟨[U], []⟩⟩) (h := .z) (ms := []) (p := True) X0_ok Try.func113 rfl rfl (by kernel_rfl) (trivial)
theorem k113 : XOk Try.prog 113 F113.ans := Fq.ok ⟨_, _, Try.func113, rfl, by kernel_rfl⟩ pc113
noncomputable def g114 (x0 : Int) : Bool := (g112 x0 (-1099511627776) 1099511627776)
noncomputable def F114 : Fq := ⟨[.v kI], fun x0 => ⟨⟨none, .bool (g114 x0)⟩⟩⟩
theorem pc114 : FnOk Try.prog 114 F114.sh _ (F114.sh.flatMap Sh.bs) F114.f [] :=
  fun (x0 : Int) => pure_of_exec (X := (mkX [(112, F112.ans)])) (R := ⟨.pure, [.tmp 2], [(.t 0, kB)], ⟨[U], []⟩⟩) (h := .z) (ms := []) (p := True) (mkX_ok ⟨k112, trivial⟩) Try.func114 rfl rfl (by kernel_rfl) (trivial)
theorem k114 : XOk Try.prog 114 F114.ans := Fq.ok ⟨_, _, Try.func114, rfl, by kernel_rfl⟩ pc114
noncomputable def g118 (x0 : ByteArray) : Bool := (g112 ((x0 : ByteArray).size : Int) 1 12)
noncomputable def F118 : Fq := ⟨[.v kS], fun x0 => ⟨⟨none, .bool (g118 x0)⟩⟩⟩
theorem pc118 : FnOk Try.prog 118 F118.sh _ (F118.sh.flatMap Sh.bs) F118.f [] :=
  fun x0 _ => pure_of_exec (X := (mkX [(112, F112.ans)])) (R := ⟨.pure, [.tmp 2], [(.t 0, kB)], ⟨[U], []⟩⟩) (h := .z) (ms := []) (p := True) (mkX_ok ⟨k112, trivial⟩) Try.func118 rfl rfl (by kernel_rfl) (trivial)
theorem k118 : XOk Try.prog 118 F118.ans := Fq.ok ⟨_, _, Try.func118, rfl, by kernel_rfl⟩ pc118
noncomputable def g115_m1 (x0 : ByteArray) : Bool := (bif (decide (((x0 : ByteArray).size : Int) ≥ 1)) then (decide (((x0 : ByteArray).size : Int) ≤ 12)) else false)
noncomputable def g115 (x0 : ByteArray) : Bool := (g115_m1 x0)
noncomputable def F115 : Fq := ⟨[.v kS], fun x0 => ⟨⟨none, .bool (g115 x0)⟩⟩⟩
theorem pc115 : FnOk Try.prog 115 F115.sh _ (F115.sh.flatMap Sh.bs) F115.f [] :=
  fun x0 _ => pure_of_exec (X := X0) (R := ⟨.pure, [.tmp 2], [(.t 0, kB)], ⟨[U], []⟩⟩) (h := (.s .z (.j ⟨4, [], [(.t 2, kB)], [], .f⟩ .z .z))) (ms := []) (p := True) X0_ok Try.func115 rfl rfl (by kernel_rfl) (trivial)
theorem k115 : XOk Try.prog 115 F115.ans := Fq.ok ⟨_, _, Try.func115, rfl, by kernel_rfl⟩ pc115
noncomputable def g116 (x0 : ByteArray) : Bool := (decide (((x0 : ByteArray).size : Int) ≤ 20))
noncomputable def F116 : Fq := ⟨[.v kS], fun x0 => ⟨⟨none, .bool (g116 x0)⟩⟩⟩
theorem pc116 : FnOk Try.prog 116 F116.sh _ (F116.sh.flatMap Sh.bs) F116.f [] :=
  fun x0 _ => pure_of_exec (X := X0) (R := ⟨.pure, [.tmp 2], [(.t 0, kB)], ⟨[U], []⟩⟩) (h := .z) (ms := []) (p := True) X0_ok Try.func116 rfl rfl (by kernel_rfl) (trivial)
theorem k116 : XOk Try.prog 116 F116.ans := Fq.ok ⟨_, _, Try.func116, rfl, by kernel_rfl⟩ pc116
noncomputable def g117_m1 (x0 : Int) : Bool := (bif (decide (x0 ≥ (-1099511627776))) then (decide (x0 ≤ 1099511627776)) else false)
noncomputable def g117 (x0 : Int) : Bool := (g117_m1 x0)
noncomputable def F117 : Fq := ⟨[.v kI], fun x0 => ⟨⟨none, .bool (g117 x0)⟩⟩⟩
theorem pc117 : FnOk Try.prog 117 F117.sh _ (F117.sh.flatMap Sh.bs) F117.f [] :=
  fun (x0 : Int) => pure_of_exec (X := X0) (R := ⟨.pure, [.tmp 2], [(.t 0, kB)], ⟨[U], []⟩⟩) (h := (.s .z (.j ⟨4, [], [(.t 2, kB)], [], .f⟩ .z .z))) (ms := []) (p := True) X0_ok Try.func117 rfl rfl (by kernel_rfl) (trivial)
theorem k117 : XOk Try.prog 117 F117.ans := Fq.ok ⟨_, _, Try.func117, rfl, by kernel_rfl⟩ pc117
end Go.Proofs.Ytchhfojblmceiaa
/-
  Walks: what functions of the program answer, as functions.
-/
namespace Go.Proofs.Ytchhfojblmceiaa
open Go Go.Vc Go.RowKit
set_option maxRecDepth 100000
set_option maxHeartbeats 4000000
end Go.Proofs.Ytchhfojblmceiaa
/-
  Walks: what functions of the program answer, as functions.
-/
namespace Go.Proofs.Ytchhfojblmceiaa
open Go Go.Vc Go.RowKit
set_option maxRecDepth 100000
set_option maxHeartbeats 4000000
noncomputable def g48_m1 (x0 : Int) : Bool := (bif (x0 == 1) then true else (bif (x0 == 4) then true else (bif (x0 == 7) then true else (bif (x0 == 8) then true else (g112 x0 11 16)))))
noncomputable def g48_m2 (x0 : Int) : Bool := (bif (x0 == 3) then true else (bif (x0 == 14) then true else (x0 == 20)))
noncomputable def g48_m3 (x0 : Int) (x1 : ByteArray) (x2 : ByteArray) (x3 : ByteArray) (x4 : Int) : Bool := (bif (!(g48_m1 x0)) then (bif (!((x3 : ByteArray).toList == (⟨#[]⟩ : ByteArray).toList)) then true else (bif (!(g112 x0 4 6)) then (bif (!((x2 : ByteArray).toList == (⟨#[]⟩ : ByteArray).toList)) then true else (bif (!(g48_m2 x0)) then (bif (x4 != 0) then true else (bif (!(x0 != 22)) then (!((x1 : ByteArray).toList == (⟨#[]⟩ : ByteArray).toList)) else false)) else (bif (!(x0 != 22)) then (!((x1 : ByteArray).toList == (⟨#[]⟩ : ByteArray).toList)) else false))) else (bif (!(g48_m2 x0)) then (bif (x4 != 0) then true else (bif (!(x0 != 22)) then (!((x1 : ByteArray).toList == (⟨#[]⟩ : ByteArray).toList)) else false)) else (bif (!(x0 != 22)) then (!((x1 : ByteArray).toList == (⟨#[]⟩ : ByteArray).toList)) else false)))) else (bif (!(g112 x0 4 6)) then (bif (!((x2 : ByteArray).toList == (⟨#[]⟩ : ByteArray).toList)) then true else (bif (!(g48_m2 x0)) then (bif (x4 != 0) then true else (bif (!(x0 != 22)) then (!((x1 : ByteArray).toList == (⟨#[]⟩ : ByteArray).toList)) else false)) else (bif (!(x0 != 22)) then (!((x1 : ByteArray).toList == (⟨#[]⟩ : ByteArray).toList)) else false))) else (bif (!(g48_m2 x0)) then (bif (x4 != 0) then true else (bif (!(x0 != 22)) then (!((x1 : ByteArray).toList == (⟨#[]⟩ : ByteArray).toList)) else false)) else (bif (!(x0 != 22)) then (!((x1 : ByteArray).toList == (⟨#[]⟩ : ByteArray).toList)) else false))))
noncomputable def g48_m4 (x0 : Int) (x1 : ByteArray) (x2 : ByteArray) (x3 : ByteArray) : Bool := (bif (x0 != 22) then (bif (!(g118 x1)) then true else (bif (g112 x0 4 6) then (bif (!(g118 x2)) then true else (!(g113 x3))) else (!(g113 x3)))) else (bif (g112 x0 4 6) then (bif (!(g118 x2)) then true else (!(g113 x3))) else (!(g113 x3))))
noncomputable def g48 (x0 : Int) (x1 : ByteArray) (x2 : ByteArray) (x3 : ByteArray) (x4 : Int) : Int := (bif (!(g112 x0 1 22)) then 3 else (bif (g48_m3 x0 x1 x2 x3 x4) then 8 else (bif (g48_m4 x0 x1 x2 x3) then 1 else (bif (!(g114 x4)) then 2 else 0))))
noncomputable def F48 : Fq := ⟨[.g [kI, kS, kS, kS, kI]], fun x0 x1 x2 x3 x4 => ⟨⟨none, .int .i64 (g48 x0 x1 x2 x3 x4)⟩⟩⟩
theorem pc48 : FnOk Try.prog 48 F48.sh _ (F48.sh.flatMap Sh.bs) F48.f [] :=
  fun (x0 : Int) x1 _ x2 _ x3 _ (x4 : Int) => pure_of_exec (X := (mkX [(112, F112.ans), (113, F113.ans), (114, F114.ans), (118, F118.ans)])) (R := ⟨.pure, [.tmp 2], [(.t 0, kI)], ⟨[U], []⟩⟩) (h := (.s .z (.s .z (.j ⟨14, [], [(.t 3, kB)], [], .f⟩ .z (.s .z (.j ⟨62, [], [(.t 5, kB)], [], .f⟩ .z (.s .z (.s (.j ⟨77371252455336267181195350, [], [(.t 86, kB)], [], .f⟩ .z .z) (.s (.j ⟨324518553658426726783156020576262, [], [(.t 108, kB)], [], .f⟩ .z .z) .z))))))))) (ms := []) (p := True) (mkX_ok ⟨k112, k113, k114, k118, trivial⟩) Try.func48 rfl rfl (by kernel_rfl) (trivial)
theorem k48 : XOk Try.prog 48 F48.ans := Fq.ok ⟨_, _, Try.func48, rfl, by kernel_rfl⟩ pc48
noncomputable def g47_m1 (x0 : Int) : Bool := (bif (decide (x0 < 1)) then true else (decide (x0 > 22)))
noncomputable def g47_m2 (x0 : Int) : Bool := (bif (x0 == 1) then (x0 == 1) else (bif (x0 == 7) then (x0 == 7) else (bif (x0 == 8) then (x0 == 8) else (bif (x0 == 11) then (x0 == 11) else (bif (x0 == 12) then (x0 == 12) else (bif (x0 == 13) then (x0 == 13) else (bif (x0 == 15) then (x0 == 15) else (x0 == 16))))))))
noncomputable def g47_m3 (x0 : Int) : Bool := (bif (x0 == 3) then (x0 == 3) else (x0 == 20))
noncomputable def g47_m4 (x0 : Int) : Bool := (bif (x0 == 5) then (x0 == 5) else (x0 == 6))
noncomputable def g47_m5 (x0 : Int) (x1 : ByteArray) : ByteArray := (bif (g47_m2 x0) then x1 else (bif (g47_m3 x0) then x1 else (bif (x0 == 4) then x1 else (bif (g47_m4 x0) then x1 else (bif (x0 == 14) then x1 else (bif (x0 == 22) then ⟨#[]⟩ else x1))))))
noncomputable def g47_m6 (x0 : Int) (x2 : ByteArray) : ByteArray := (bif (g47_m2 x0) then ⟨#[]⟩ else (bif (g47_m3 x0) then ⟨#[]⟩ else (bif (x0 == 4) then x2 else (bif (g47_m4 x0) then x2 else ⟨#[]⟩))))
noncomputable def g47_m7 (x0 : Int) (x3 : ByteArray) : ByteArray := (bif (g47_m2 x0) then x3 else (bif (g47_m3 x0) then ⟨#[]⟩ else (bif (x0 == 4) then x3 else (bif (g47_m4 x0) then ⟨#[]⟩ else (bif (x0 == 14) then x3 else ⟨#[]⟩)))))
noncomputable def g47_m8 (x0 : Int) (x4 : Int) : Int := (bif (g47_m2 x0) then 0 else (bif (g47_m3 x0) then x4 else (bif (x0 == 4) then 0 else (bif (g47_m4 x0) then 0 else (bif (x0 == 14) then x4 else 0)))))
noncomputable def g47_m9 (x0 : Int) (x1 : ByteArray) (x2 : ByteArray) (x3 : ByteArray) : Bool := (bif (x0 != 22) then (bif (!(g115 x1)) then true else (bif (decide (x0 ≥ 4)) then (bif (decide (x0 ≤ 6)) then (bif (!(g115 x2)) then true else (!(g116 x3))) else (!(g116 x3))) else (!(g116 x3)))) else (bif (decide (x0 ≥ 4)) then (bif (decide (x0 ≤ 6)) then (bif (!(g115 x2)) then true else (!(g116 x3))) else (!(g116 x3))) else (!(g116 x3))))
noncomputable def g47 (x0 : Int) (x1 : ByteArray) (x2 : ByteArray) (x3 : ByteArray) (x4 : Int) : Int := (bif (g47_m1 x0) then 3 else (bif (!((x0 == x0) && (((x1 : ByteArray).toList == ((g47_m5 x0 x1) : ByteArray).toList) && (((x2 : ByteArray).toList == ((g47_m6 x0 x2) : ByteArray).toList) && (((x3 : ByteArray).toList == ((g47_m7 x0 x3) : ByteArray).toList) && ((x4 == (g47_m8 x0 x4)) && true)))))) then 8 else (bif (g47_m9 x0 x1 x2 x3) then 1 else (bif (!(g117 x4)) then 2 else 0))))
noncomputable def F47 : Fq := ⟨[.g [kI, kS, kS, kS, kI]], fun x0 x1 x2 x3 x4 => ⟨⟨none, .int .i64 (g47 x0 x1 x2 x3 x4)⟩⟩⟩
theorem pc47 : FnOk Try.prog 47 F47.sh _ (F47.sh.flatMap Sh.bs) F47.f [] :=
  fun (x0 : Int) x1 _ x2 _ x3 _ (x4 : Int) => pure_of_exec (X := (mkX [(115, F115.ans), (116, F116.ans), (117, F117.ans)])) (R := ⟨.pure, [.tmp 2], [(.t 0, kI)], ⟨[U], []⟩⟩) (h := (.s .z (.s (.j ⟨2054, [], [(.t 11, kB)], [], .f⟩ .z .z) (.s .z (.j ⟨14, [], [(.h 1 1, kS), (.h 1 2, kS), (.h 1 3, kS), (.h 1 4, kI)], [.f, (.b .f (.b .f (.b .f (.b .f .l)))), (.b .f (.b .f (.b .f (.b .f (.b .f .l))))), (.b .f (.b .f (.b .f (.b .f (.b .f .l)))))], .f⟩ (.s .z (.j ⟨786446, [], [(.t 19, kB)], [], .f⟩ .z (.s .z (.j ⟨2147745806, [], [(.t 31, kB)], [], .f⟩ .z (.s .z (.s .z (.s .z (.j ⟨35184372350990, [], [(.t 45, kB)], [], .f⟩ .z .z)))))))) (.s .z (.s (.j ⟨39614081257132168796771975174, [.b 1], [(.t 95, kB)], [], .f⟩ .z .z) .z))))))) (ms := []) (p := True) (mkX_ok ⟨k115, k116, k117, trivial⟩) Try.func47 rfl rfl (by kernel_rfl) (trivial)
theorem k47 : XOk Try.prog 47 F47.ans := Fq.ok ⟨_, _, Try.func47, rfl, by kernel_rfl⟩ pc47
end Go.Proofs.Ytchhfojblmceiaa
/-
  Walks: what functions of the program answer, as functions.
-/
namespace Go.Proofs.Ytchhfojblmceiaa
open Go Go.Vc Go.RowKit
set_option maxRecDepth 100000
set_option maxHeartbeats 4000000
end Go.Proofs.Ytchhfojblmceiaa
/-
  Walks: what functions of the program answer, as functions.
-/
namespace Go.Proofs.Ytchhfojblmceiaa
open Go Go.Vc Go.RowKit
set_option maxRecDepth 100000
set_option maxHeartbeats 4000000
noncomputable def g191_l2 (x0 : Sl ByteArray) (x1 : Sl ByteArray) : Nat → Int → Bool × Bool
  | 0, _ => default
  | k + 1, v2_0 => (bif (decide (v2_0 < (x0.n : Int))) then (bif (!(((x0.at' (Int.toNat v2_0)) : ByteArray).toList == ((x1.at' (Int.toNat v2_0)) : ByteArray).toList)) then (true, false) else (g191_l2 x0 x1 k (IntKind.i64.wrap (v2_0 + 1)))) else (false, default))
noncomputable def g191_r1 (x0 : Sl ByteArray) (x1 : Sl ByteArray) : Bool × Bool := g191_l2 x0 x1 ((Int.toNat ((x0.n : Int) - 0)) + 1) 0
noncomputable def g191_p2 (x0 : Sl ByteArray) (x1 : Sl ByteArray) : Bool := (bif (g191_r1 x0 x1).1 then false else true)
noncomputable def g191 (x0 : Sl ByteArray) (x1 : Sl ByteArray) : Bool := (bif ((x0.n : Int) != (x1.n : Int)) then false else (bif (g191_p2 x0 x1) then true else (g191_r1 x0 x1).2))
noncomputable def F191 : Fq := ⟨[.v (.sl E9), .v (.sl E9)], fun x0 x1 => ⟨⟨none, .bool (g191 x0 x1)⟩⟩⟩
theorem pc191 : FnOk Try.prog 191 F191.sh _ (F191.sh.flatMap Sh.bs) F191.f [] :=
  fun x0 n0 _ x1 n1 _ => pure_of_exec (X := X0) (R := ⟨.pure, [.tmp 4], [(.t 0, kB)], ⟨[U], []⟩⟩) (h := (.s .z (.s .z (.j ⟨16, [], [], [], .f⟩ (.s .z (.lp ⟨51, [], [], [(.t 5, kI)], some 0, true, 16, [], [], fun k (s : Int) => g191_l2 x0 x1 k s, .f, fun (s : Int) => (0 ≤ s ∧ s ≤ (x0.n : Int)), fun (s : Int) => (Int.toNat ((x0.n : Int) - s)), none⟩ .z)) .z)))) (ms := []) (p := (((x0.n : Int) != (x1.n : Int)) = false → (((0 ≤ (0 : Int) ∧ (0 : Int) ≤ (x0.n : Int))) ∧ (∀ (v2_0 : Int), (0 ≤ v2_0 ∧ v2_0 ≤ (x0.n : Int)) → (((decide (v2_0 < (x0.n : Int))) = true → (((0 : Int) ≤ v2_0 ∧ v2_0 < ((x0.n : Nat) : Int)) ∧ ((0 : Int) ≤ v2_0 ∧ v2_0 < ((x1.n : Nat) : Int)))) ∧ ((decide (v2_0 < (x0.n : Int))) = true → ((!(((x0.at' (Int.toNat v2_0)) : ByteArray).toList == ((x1.at' (Int.toNat v2_0)) : ByteArray).toList)) = false → ((0 ≤ (IntKind.i64.wrap (v2_0 + 1)) ∧ (IntKind.i64.wrap (v2_0 + 1)) ≤ (x0.n : Int)) ∧ (Int.toNat ((x0.n : Int) - (IntKind.i64.wrap (v2_0 + 1)))) < (Int.toNat ((x0.n : Int) - v2_0)))))))))) X0_ok Try.func191 rfl rfl (by kernel_rfl) ((fun h1 => ⟨(by have := bne_eq_false_iff_eq.1 h1; omega), (fun v2_0 hI2 => ⟨(fun h3 => ⟨(by have := bne_eq_false_iff_eq.1 h1; have := of_decide_eq_true h3; omega), (by have := bne_eq_false_iff_eq.1 h1; have := of_decide_eq_true h3; omega)⟩), (fun h4 => (fun h5 => (by have := bne_eq_false_iff_eq.1 h1; have := of_decide_eq_true h4; first | omega | (have := wrap64 (x := (v2_0 + 1)) (by omega) (by omega); omega))))⟩)⟩))
theorem k191 : XOk Try.prog 191 F191.ans := Fq.ok ⟨_, _, Try.func191, rfl, by kernel_rfl⟩ pc191
noncomputable def g103_m1 (x0 : Int) (x1 : ByteArray) (x2 : Int) (x3 : Sl T160) (x4 : Sl ByteArray) (x5 : Sl T164) (x6 : Int) (x7 : ByteArray) (x8 : Int) (x9 : Sl T160) (x10 : Sl ByteArray) (x11 : Sl T164) : Bool := (bif (x0 != x6) then true else (bif (!((x1 : ByteArray).toList == (x7 : ByteArray).toList)) then true else (bif (x2 != x8) then true else (bif ((x3.n : Int) != (x9.n : Int)) then true else (bif ((x5.n : Int) != (x11.n : Int)) then true else (!(g191 x4 x10)))))))
noncomputable def g103_l8 (x3 : Sl T160) (x9 : Sl T160) : Nat → Int → Bool × Bool
  | 0, _ => default
  | k + 1, v8_0 => (bif (decide (v8_0 < (x3.n : Int))) then (bif (!((((x3.at' (Int.toNat v8_0)).c0 : ByteArray).toList == ((x9.at' (Int.toNat v8_0)).c0 : ByteArray).toList) && ((((x3.at' (Int.toNat v8_0)).c1 : ByteArray).toList == ((x9.at' (Int.toNat v8_0)).c1 : ByteArray).toList) && true))) then (true, false) else (g103_l8 x3 x9 k (IntKind.i64.wrap (v8_0 + 1)))) else (false, default))
noncomputable def g103_r2 (x3 : Sl T160) (x9 : Sl T160) : Bool × Bool := g103_l8 x3 x9 ((Int.toNat ((x3.n : Int) - 0)) + 1) 0
noncomputable def g103_p3 (x3 : Sl T160) (x9 : Sl T160) : Bool := (bif (g103_r2 x3 x9).1 then false else true)
noncomputable def g103_l15 (x5 : Sl T164) (x11 : Sl T164) : Nat → Int → Bool × Bool
  | 0, _ => default
  | k + 1, v15_0 => (bif (decide (v15_0 < (x5.n : Int))) then (bif (!((((x5.at' (Int.toNat v15_0)).c0 : ByteArray).toList == ((x11.at' (Int.toNat v15_0)).c0 : ByteArray).toList) && (((x5.at' (Int.toNat v15_0)).c1 == (x11.at' (Int.toNat v15_0)).c1) && true))) then (true, false) else (g103_l15 x5 x11 k (IntKind.i64.wrap (v15_0 + 1)))) else (false, default))
noncomputable def g103_r4 (x5 : Sl T164) (x11 : Sl T164) : Bool × Bool := g103_l15 x5 x11 ((Int.toNat ((x5.n : Int) - 0)) + 1) 0
noncomputable def g103_p5 (x5 : Sl T164) (x11 : Sl T164) : Bool := (bif (g103_r4 x5 x11).1 then false else true)
noncomputable def g103 (x0 : Int) (x1 : ByteArray) (x2 : Int) (x3 : Sl T160) (x4 : Sl ByteArray) (x5 : Sl T164) (x6 : Int) (x7 : ByteArray) (x8 : Int) (x9 : Sl T160) (x10 : Sl ByteArray) (x11 : Sl T164) : Bool := (bif (g103_m1 x0 x1 x2 x3 x4 x5 x6 x7 x8 x9 x10 x11) then false else (bif (g103_p3 x3 x9) then (bif (g103_p5 x5 x11) then true else (g103_r4 x5 x11).2) else (g103_r2 x3 x9).2))
noncomputable def F103 : Fq := ⟨[.g [kI, kS, kI, .sl E160, .sl E9, .sl E164], .g [kI, kS, kI, .sl E160, .sl E9, .sl E164]], fun x0 x1 x2 x3 x4 x5 x6 x7 x8 x9 x10 x11 => ⟨⟨none, .bool (g103 x0 x1 x2 x3 x4 x5 x6 x7 x8 x9 x10 x11)⟩⟩⟩
theorem pc103 : FnOk Try.prog 103 F103.sh _ (F103.sh.flatMap Sh.bs) F103.f [] :=
  fun (x0 : Int) x1 n1 (x2 : Int) x3 n3 _ x4 n4 _ x5 n5 _ (x6 : Int) x7 n7 (x8 : Int) x9 n9 _ x10 n10 _ x11 n11 _ => pure_of_exec (X := (mkX [(191, F191.ans)])) (R := ⟨.pure, [.tmp 4], [(.t 0, kB)], ⟨[U], []⟩⟩) (h := (.s .z (.s (.j ⟨2251799813685276, [], [(.t 51, kB)], [], .f⟩ .z .z) (.j ⟨28, [], [], [], .f⟩ (.s .z (.lp ⟨60, [], [], [(.t 5, kI)], some 0, true, 28, [], [], fun k (s : Int) => g103_l8 x3 x9 k s, .f, fun (s : Int) => (0 ≤ s ∧ s ≤ (x3.n : Int)), fun (s : Int) => (Int.toNat ((x3.n : Int) - s)), none⟩ .z)) (.j ⟨16, [], [], [], .f⟩ (.s .z (.lp ⟨92, [], [], [(.t 6, kI)], some 2, true, 16, [.b 0, .b 1], [], fun k (s : Int) => g103_l15 x5 x11 k s, .f, fun (s : Int) => (0 ≤ s ∧ s ≤ (x5.n : Int)), fun (s : Int) => (Int.toNat ((x5.n : Int) - s)), none⟩ .z)) .z))))) (ms := []) (p := ((g103_m1 x0 x1 x2 x3 x4 x5 x6 x7 x8 x9 x10 x11) = false → ((((0 ≤ (0 : Int) ∧ (0 : Int) ≤ (x3.n : Int))) ∧ (∀ (v8_0 : Int), (0 ≤ v8_0 ∧ v8_0 ≤ (x3.n : Int)) → (((decide (v8_0 < (x3.n : Int))) = true → (((0 : Int) ≤ v8_0 ∧ v8_0 < ((x3.n : Nat) : Int)) ∧ ((0 : Int) ≤ v8_0 ∧ v8_0 < ((x9.n : Nat) : Int)))) ∧ ((decide (v8_0 < (x3.n : Int))) = true → ((!((((x3.at' (Int.toNat v8_0)).c0 : ByteArray).toList == ((x9.at' (Int.toNat v8_0)).c0 : ByteArray).toList) && ((((x3.at' (Int.toNat v8_0)).c1 : ByteArray).toList == ((x9.at' (Int.toNat v8_0)).c1 : ByteArray).toList) && true))) = false → ((0 ≤ (IntKind.i64.wrap (v8_0 + 1)) ∧ (IntKind.i64.wrap (v8_0 + 1)) ≤ (x3.n : Int)) ∧ (Int.toNat ((x3.n : Int) - (IntKind.i64.wrap (v8_0 + 1)))) < (Int.toNat ((x3.n : Int) - v8_0)))))))) ∧ ((g103_p3 x3 x9) = true → (((0 ≤ (0 : Int) ∧ (0 : Int) ≤ (x5.n : Int))) ∧ (∀ (v15_0 : Int), (0 ≤ v15_0 ∧ v15_0 ≤ (x5.n : Int)) → (((decide (v15_0 < (x5.n : Int))) = true → (((0 : Int) ≤ v15_0 ∧ v15_0 < ((x5.n : Nat) : Int)) ∧ ((0 : Int) ≤ v15_0 ∧ v15_0 < ((x11.n : Nat) : Int)))) ∧ ((decide (v15_0 < (x5.n : Int))) = true → ((!((((x5.at' (Int.toNat v15_0)).c0 : ByteArray).toList == ((x11.at' (Int.toNat v15_0)).c0 : ByteArray).toList) && (((x5.at' (Int.toNat v15_0)).c1 == (x11.at' (Int.toNat v15_0)).c1) && true))) = false → ((0 ≤ (IntKind.i64.wrap (v15_0 + 1)) ∧ (IntKind.i64.wrap (v15_0 + 1)) ≤ (x5.n : Int)) ∧ (Int.toNat ((x5.n : Int) - (IntKind.i64.wrap (v15_0 + 1)))) < (Int.toNat ((x5.n : Int) - v15_0)))))))))))) (mkX_ok ⟨k191, trivial⟩) Try.func103 rfl rfl (by kernel_rfl) ((fun h1 => ⟨⟨(by have := h1; simp [g103_m1] at this; omega), (fun v8_0 hI2 => ⟨(fun h3 => ⟨(by have := h1; simp [g103_m1] at this; have := of_decide_eq_true h3; omega), (by have := h1; simp [g103_m1] at this; have := of_decide_eq_true h3; omega)⟩), (fun h4 => (fun h5 => (by have := h1; simp [g103_m1] at this; have := of_decide_eq_true h4; first | omega | (have := wrap64 (x := (v8_0 + 1)) (by omega) (by omega); omega))))⟩)⟩, (fun h6 => ⟨(by have := h1; simp [g103_m1] at this; omega), (fun v15_0 hI7 => ⟨(fun h8 => ⟨(by have := h1; simp [g103_m1] at this; have := of_decide_eq_true h8; omega), (by have := h1; simp [g103_m1] at this; have := of_decide_eq_true h8; omega)⟩), (fun h9 => (fun h10 => (by have := h1; simp [g103_m1] at this; have := of_decide_eq_true h9; first | omega | (have := wrap64 (x := (v15_0 + 1)) (by omega) (by omega); omega))))⟩)⟩)⟩))
theorem k103 : XOk Try.prog 103 F103.ans := Fq.ok ⟨_, _, Try.func103, rfl, by kernel_rfl⟩ pc103
noncomputable def g104_m1 (x0 : Int) (x1 : ByteArray) (x2 : Int) (x3 : Sl ByteArray) (x4 : Int) (x5 : ByteArray) (x6 : Int) (x7 : Sl ByteArray) : Bool := (bif (x0 == x4) then (bif ((x1 : ByteArray).toList == (x5 : ByteArray).toList) then (bif (x2 == x6) then (g191 x3 x7) else false) else false) else false)
noncomputable def g104 (x0 : Int) (x1 : ByteArray) (x2 : Int) (x3 : Sl ByteArray) (x4 : Int) (x5 : ByteArray) (x6 : Int) (x7 : Sl ByteArray) : Bool := (g104_m1 x0 x1 x2 x3 x4 x5 x6 x7)
noncomputable def F104 : Fq := ⟨[.g [kI, kS, kI, .sl E9], .g [kI, kS, kI, .sl E9]], fun x0 x1 x2 x3 x4 x5 x6 x7 => ⟨⟨none, .bool (g104 x0 x1 x2 x3 x4 x5 x6 x7)⟩⟩⟩
theorem pc104 : FnOk Try.prog 104 F104.sh _ (F104.sh.flatMap Sh.bs) F104.f [] :=
  fun (x0 : Int) x1 _ (x2 : Int) x3 _ _ (x4 : Int) x5 _ (x6 : Int) x7 _ _ => pure_of_exec (X := (mkX [(191, F191.ans)])) (R := ⟨.pure, [.tmp 4], [(.t 0, kB)], ⟨[U], []⟩⟩) (h := (.s .z (.j ⟨16, [.b 0, .b 1], [(.t 4, kB)], [], .f⟩ .z .z))) (ms := []) (p := True) (mkX_ok ⟨k191, trivial⟩) Try.func104 rfl rfl (by kernel_rfl) (trivial)
theorem k104 : XOk Try.prog 104 F104.ans := Fq.ok ⟨_, _, Try.func104, rfl, by kernel_rfl⟩ pc104
end Go.Proofs.Ytchhfojblmceiaa
