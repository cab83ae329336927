/-
  Walks: what functions of the program answer, as functions.
-/
import Derived.Test.YtchhfojblmceiaaCl
import Derived.Test.YtchhfojblmceiaaEc
namespace Go.Proofs.Ytchhfojblmceiaa
open Go Go.Vc Go.RowKit
set_option maxRecDepth 100000
set_option maxHeartbeats 4000000
noncomputable def g112_m1 (x0 : Int) (x1 : Int) (x2 : Int) : Bool := (bif (decide (x0 ≥ x1)) then (decide (x0 ≤ x2)) else false)
noncomputable def g112 (x0 : Int) (x1 : Int) (x2 : Int) : Bool := (g112_m1 x0 x1 x2)
noncomputable def F112 : Fq := ⟨[.v kI, .v kI, .v kI], fun x0 x1 x2 => ⟨⟨none, .bool (g112 x0 x1 x2)⟩⟩⟩
theorem pc112 : FnOk Try.prog 112 F112.sh _ (F112.sh.flatMap Sh.bs) F112.f [] :=
  fun (x0 : Int) (x1 : Int) (x2 : Int) => pure_of_exec (X := X0) (R := ⟨.pure, [.tmp 6], [(.t 0, kB)], ⟨[U], []⟩⟩) (h := (.s .z (.j ⟨64, [], [(.t 6, kB)], [], .f⟩ .z .z))) (ms := []) (p := True) X0_ok Try.func112 rfl rfl (by kernel_rfl) (trivial)
theorem k112 : XOk Try.prog 112 F112.ans := Fq.ok ⟨_, _, Try.func112, rfl, by kernel_rfl⟩ pc112
noncomputable def g113 (x0 : ByteArray) : Bool := (decide (((x0 : ByteArray).size : Int) ≤ 20))
noncomputable def F113 : Fq := ⟨[.v kS], fun x0 => ⟨⟨none, .bool (g113 x0)⟩⟩⟩
theorem pc113 : FnOk Try.prog 113 F113.sh _ (F113.sh.flatMap Sh.bs) F113.f [] :=
  fun x0 _ => pure_of_exec (X := X0) (R := ⟨.pure, [.tmp 2], [(.t 0, kB)], ⟨[U], []⟩⟩) (h := .z) (ms := []) (p := True) X0_ok Try.func113 rfl rfl (by kernel_rfl) (trivial)
theorem k113 : XOk Try.prog 113 F113.ans := Fq.ok ⟨_, _, Try.func113, rfl, by kernel_rfl⟩ pc113
noncomputable def g114 (x0 : Int) : Bool := (g112 x0 (-1099511627776) 1099511627776)
noncomputable def F114 : Fq := ⟨[.v kI], fun x0 => ⟨⟨none, .bool (g114 x0)⟩⟩⟩
theorem pc114 : FnOk Try.prog 114 F114.sh _ (F114.sh.flatMap Sh.bs) F114.f [] :=
  fun (x0 : Int) => pure_of_exec (X := (mkX [(112, F112.ans)])) (R := ⟨.pure, [.tmp 2], [(.t 0, kB)], ⟨[U], []⟩⟩) (h := .z) (ms := []) (p := True) (mkX_ok ⟨k112, trivial⟩) Try.func114 rfl rfl (by kernel_rfl) (trivial)
theorem k114 : XOk Try.prog 114 F114.ans := Fq.ok ⟨_, _, Try.func114, rfl, by kernel_rfl⟩ pc114
noncomputable def g118 (x0 : ByteArray) : Bool := (g112 ((x0 : ByteArray).size : Int) 1 12)
noncomputable def F118 : Fq := ⟨[.v kS], fun x0 => ⟨⟨none, .bool (g118 x0)⟩⟩⟩
theorem pc118 : FnOk Try.prog 118 F118.sh _ (F118.sh.flatMap Sh.bs) F118.f [] :=
  fun x0 _ => pure_of_exec (X := (mkX [(112, F112.ans)])) (R := ⟨.pure, [.tmp 2], [(.t 0, kB)], ⟨[U], []⟩⟩) (h := .z) (ms := []) (p := True) (mkX_ok ⟨k112, trivial⟩) Try.func118 rfl rfl (by kernel_rfl) (trivial)
theorem k118 : XOk Try.prog 118 F118.ans := Fq.ok ⟨_, _, Try.func118, rfl, by kernel_rfl⟩ pc118
noncomputable def g115_m1 (x0 : ByteArray) : Bool := (bif (decide (((x0 : ByteArray).size : Int) ≥ 1)) then (decide (((x0 : ByteArray).size : Int) ≤ 12)) else false)
noncomputable def g115 (x0 : ByteArray) : Bool := (g115_m1 x0)
noncomputable def F115 : Fq := ⟨[.v kS], fun x0 => ⟨⟨none, .bool (g115 x0)⟩⟩⟩
theorem pc115 : FnOk Try.prog 115 F115.sh _ (F115.sh.flatMap Sh.bs) F115.f [] :=
  fun x0 _ => pure_of_exec (X := X0) (R := ⟨.pure, [.tmp 2], [(.t 0, kB)], ⟨[U], []⟩⟩) (h := (.s .z (.j ⟨4, [], [(.t 2, kB)], [], .f⟩ .z .z))) (ms := []) (p := True) X0_ok Try.func115 rfl rfl (by kernel_rfl) (trivial)
theorem k115 : XOk Try.prog 115 F115.ans := Fq.ok ⟨_, _, Try.func115, rfl, by kernel_rfl⟩ pc115
noncomputable def g116 (x0 : ByteArray) : Bool := (decide (((x0 : ByteArray).size : Int) ≤ 20))
noncomputable def F116 : Fq := ⟨[.v kS], fun x0 => ⟨⟨none, .bool (g116 x0)⟩⟩⟩
theorem pc116 : FnOk Try.prog 116 F116.sh _ (F116.sh.flatMap Sh.bs) F116.f [] :=
  fun x0 _ => pure_of_exec (X := X0) (R := ⟨.pure, [.tmp 2], [(.t 0, kB)], ⟨[U], []⟩⟩) (h := .z) (ms := []) (p := True) X0_ok Try.func116 rfl rfl (by kernel_rfl) (trivial)
theorem k116 : XOk Try.prog 116 F116.ans := Fq.ok ⟨_, _, Try.func116, rfl, by kernel_rfl⟩ pc116
noncomputable def g117_m1 (x0 : Int) : Bool := (bif (decide (x0 ≥ (-1099511627776))) then (decide (x0 ≤ 1099511627776)) else false)
noncomputable def g117 (x0 : Int) : Bool := (g117_m1 x0)
noncomputable def F117 : Fq := ⟨[.v kI], fun x0 => ⟨⟨none, .bool (g117 x0)⟩⟩⟩
theorem pc117 : FnOk Try.prog 117 F117.sh _ (F117.sh.flatMap Sh.bs) F117.f [] :=
  fun (x0 : Int) => pure_of_exec (X := X0) (R := ⟨.pure, [.tmp 2], [(.t 0, kB)], ⟨[U], []⟩⟩) (h := (.s .z (.j ⟨4, [], [(.t 2, kB)], [], .f⟩ .z .z))) (ms := []) (p := True) X0_ok Try.func117 rfl rfl (by kernel_rfl) (trivial)
theorem k117 : XOk Try.prog 117 F117.ans := Fq.ok ⟨_, _, Try.func117, rfl, by kernel_rfl⟩ pc117
noncomputable def g119_m1 (x0 : Int) : Bool := (bif (decide (x0 ≥ 1)) then (decide (x0 ≤ 1048576)) else false)
noncomputable def g119 (x0 : Int) : Bool := (g119_m1 x0)
noncomputable def F119 : Fq := ⟨[.v kI], fun x0 => ⟨⟨none, .bool (g119 x0)⟩⟩⟩
theorem pc119 : FnOk Try.prog 119 F119.sh _ (F119.sh.flatMap Sh.bs) F119.f [] :=
  fun (x0 : Int) => pure_of_exec (X := X0) (R := ⟨.pure, [.tmp 2], [(.t 0, kB)], ⟨[U], []⟩⟩) (h := (.s .z (.j ⟨4, [], [(.t 2, kB)], [], .f⟩ .z .z))) (ms := []) (p := True) X0_ok Try.func119 rfl rfl (by kernel_rfl) (trivial)
theorem k119 : XOk Try.prog 119 F119.ans := Fq.ok ⟨_, _, Try.func119, rfl, by kernel_rfl⟩ pc119
noncomputable def g120 (x0 : Int) : Bool := (g112 x0 1 1048576)
noncomputable def F120 : Fq := ⟨[.v kI], fun x0 => ⟨⟨none, .bool (g120 x0)⟩⟩⟩
theorem pc120 : FnOk Try.prog 120 F120.sh _ (F120.sh.flatMap Sh.bs) F120.f [] :=
  fun (x0 : Int) => pure_of_exec (X := (mkX [(112, F112.ans)])) (R := ⟨.pure, [.tmp 2], [(.t 0, kB)], ⟨[U], []⟩⟩) (h := .z) (ms := []) (p := True) (mkX_ok ⟨k112, trivial⟩) Try.func120 rfl rfl (by kernel_rfl) (trivial)
theorem k120 : XOk Try.prog 120 F120.ans := Fq.ok ⟨_, _, Try.func120, rfl, by kernel_rfl⟩ pc120
end Go.Proofs.Ytchhfojblmceiaa
