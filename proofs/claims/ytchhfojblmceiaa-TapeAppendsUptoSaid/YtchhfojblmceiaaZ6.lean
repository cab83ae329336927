/-
  Walks: what functions of the program answer, as functions.
-/
import Derived.Test.YtchhfojblmceiaaCl
import Derived.Test.YtchhfojblmceiaaEc
import Derived.Test.YtchhfojblmceiaaY0
import Derived.Test.YtchhfojblmceiaaYr
import Derived.Test.YtchhfojblmceiaaZ1
import Derived.Test.YtchhfojblmceiaaZ2
import Derived.Test.YtchhfojblmceiaaZ3
import Derived.Test.YtchhfojblmceiaaZ4
import Derived.Test.YtchhfojblmceiaaZ5
namespace Go.Proofs.Ytchhfojblmceiaa
open Go Go.Vc Go.RowKit
set_option maxRecDepth 100000
set_option maxHeartbeats 4000000
noncomputable def g153_m1 (x0 : Int) : Bool := (bif (decide (x0 ≥ 1)) then (decide (x0 ≤ 1048576)) else false)
noncomputable def g153 (x0 : Int) : Bool := (g153_m1 x0)
noncomputable def F153 : Fq := ⟨[.v kI], fun x0 => ⟨⟨none, .bool (g153 x0)⟩⟩⟩
theorem pc153 : FnOk Try.prog 153 F153.sh _ (F153.sh.flatMap Sh.bs) F153.f [] :=
  fun (x0 : Int) => pure_of_exec (X := X0) (R := ⟨.pure, [.tmp 2], [(.t 0, kB)], ⟨[U], []⟩⟩) (h := (.s .z (.j ⟨4, [], [(.t 2, kB)], [], .f⟩ .z .z))) (ms := []) (p := True) X0_ok Try.func153 rfl rfl (by kernel_rfl) (trivial)
theorem k153 : XOk Try.prog 153 F153.ans := Fq.ok ⟨_, _, Try.func153, rfl, by kernel_rfl⟩ pc153
noncomputable def g87_m1 (x0 : Int) (x1 : Int) : Bool := (bif (!(g153 x0)) then true else (!(g153 x1)))
noncomputable def g87 (x0 : Int) (x1 : Int) (x2 : Int) (x3 : Sl T175) (x4 : Int) (x5 : Sl T137) : Int := (bif (g87_m1 x0 x1) then 2 else (g84 x2 x3 x4 x5))
noncomputable def F87 : Fq := ⟨[.g [kI, kI, kI, .sl E175, kI, .sl E137]], fun x0 x1 x2 x3 x4 x5 => ⟨⟨none, .int .i64 (g87 x0 x1 x2 x3 x4 x5)⟩⟩⟩
theorem pc87 : FnOk Try.prog 87 F87.sh _ (F87.sh.flatMap Sh.bs) F87.f [] :=
  fun (x0 : Int) (x1 : Int) (x2 : Int) x3 _ _ (x4 : Int) x5 _ _ => pure_of_exec (X := (mkX [(84, F84.ans), (153, F153.ans)])) (R := ⟨.pure, [.tmp 2], [(.t 0, kI)], ⟨[U], []⟩⟩) (h := (.s .z (.s (.j ⟨4102, [], [(.t 12, kB)], [], .f⟩ .z .z) .z))) (ms := []) (p := True) (mkX_ok ⟨k84, k153, trivial⟩) Try.func87 rfl rfl (by kernel_rfl) (trivial)
theorem k87 : XOk Try.prog 87 F87.ans := Fq.ok ⟨_, _, Try.func87, rfl, by kernel_rfl⟩ pc87
noncomputable def g88_0 (x0 : Int) : Int := x0
noncomputable def g88_1 (x1 : Int) : Int := x1
noncomputable def g88_2 (x2 : Int) : Int := (g85_0 x2)
noncomputable def g88_3 (x3 : Sl T175) : Sl T175 := (g85_1 x3)
noncomputable def g88_4 (x4 : Int) : Int := (g85_2 x4)
noncomputable def g88_5 (x5 : Sl T137) : Sl T137 := (g85_3 x5)
noncomputable def F88 : Fq := ⟨[.g [kI, kI, kI, .sl E175, kI, .sl E137]], fun x0 x1 x2 x3 x4 x5 => ⟨⟨none, .agg [.int .i64 (g88_0 x0), .int .i64 (g88_1 x1), .int .i64 (g88_2 x2), ofSl 8 e175 (g88_3 x3), .int .i64 (g88_4 x4), ofSl 7 e137 (g88_5 x5)]⟩⟩⟩
theorem pc88 : FnOk Try.prog 88 F88.sh _ (F88.sh.flatMap Sh.bs) F88.f [] :=
  fun (x0 : Int) (x1 : Int) (x2 : Int) x3 _ _ (x4 : Int) x5 _ _ => pure_of_exec (X := (mkX [(85, F85.ans)])) (R := ⟨.pure, [.cell 2 35], [(.c 0 0, kI), (.c 0 1, kI), (.c 0 2, kI), (.c 0 3, .sl E175), (.c 0 4, kI), (.c 0 5, .sl E137)], ⟨[.agg (us 6 [])], []⟩⟩) (h := .z) (ms := []) (p := True) (mkX_ok ⟨k85, trivial⟩) Try.func88 rfl rfl (by kernel_rfl) (trivial)
theorem k88 : XOk Try.prog 88 F88.ans := Fq.ok ⟨_, _, Try.func88, rfl, by kernel_rfl⟩ pc88
noncomputable def g89_m1 (x0 : Int) (x1 : Int) : Bool := (bif (!(g120 x0)) then true else (!(g120 x1)))
noncomputable def g89 (x0 : Int) (x1 : Int) (x2 : Int) (x3 : Sl T175) (x4 : Int) (x5 : Sl T137) : Int := (bif (g89_m1 x0 x1) then 2 else (g86 x2 x3 x4 x5))
noncomputable def F89 : Fq := ⟨[.g [kI, kI, kI, .sl E175, kI, .sl E137]], fun x0 x1 x2 x3 x4 x5 => ⟨⟨none, .int .i64 (g89 x0 x1 x2 x3 x4 x5)⟩⟩⟩
theorem pc89 : FnOk Try.prog 89 F89.sh _ (F89.sh.flatMap Sh.bs) F89.f [] :=
  fun (x0 : Int) (x1 : Int) (x2 : Int) x3 _ _ (x4 : Int) x5 _ _ => pure_of_exec (X := (mkX [(86, F86.ans), (120, F120.ans)])) (R := ⟨.pure, [.tmp 2], [(.t 0, kI)], ⟨[U], []⟩⟩) (h := (.s .z (.s (.j ⟨4102, [], [(.t 12, kB)], [], .f⟩ .z .z) .z))) (ms := []) (p := True) (mkX_ok ⟨k86, k120, trivial⟩) Try.func89 rfl rfl (by kernel_rfl) (trivial)
theorem k89 : XOk Try.prog 89 F89.ans := Fq.ok ⟨_, _, Try.func89, rfl, by kernel_rfl⟩ pc89
noncomputable def g25 (x0 : Int) (x1 : Int) (x2 : Int) (x3 : Sl T175) (x4 : Int) (x5 : Sl T137) : Bool := ((g87 (g88_0 x0) (g88_1 x1) (g88_2 x2) (g88_3 x3) (g88_4 x4) (g88_5 x5)) == (g89 x0 x1 x2 x3 x4 x5))
noncomputable def F25 : Fq := ⟨[.g [kI, kI, kI, .sl E175, kI, .sl E137]], fun x0 x1 x2 x3 x4 x5 => ⟨⟨none, .bool (g25 x0 x1 x2 x3 x4 x5)⟩⟩⟩
theorem pc25 : FnOk Try.prog 25 F25.sh _ (F25.sh.flatMap Sh.bs) F25.f [] :=
  fun (x0 : Int) (x1 : Int) (x2 : Int) x3 _ _ (x4 : Int) x5 _ _ => pure_of_exec (X := (mkX [(87, F87.ans), (88, F88.ans), (89, F89.ans)])) (R := ⟨.pure, [.tmp 2], [(.t 0, kB)], ⟨[U], []⟩⟩) (h := .z) (ms := []) (p := True) (mkX_ok ⟨k87, k88, k89, trivial⟩) Try.func25 rfl rfl (by kernel_rfl) (trivial)
theorem k25 : XOk Try.prog 25 F25.ans := Fq.ok ⟨_, _, Try.func25, rfl, by kernel_rfl⟩ pc25
end Go.Proofs.Ytchhfojblmceiaa
