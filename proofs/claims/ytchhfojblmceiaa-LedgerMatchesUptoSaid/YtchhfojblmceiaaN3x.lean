/-
  Walks: what functions of the program answer, as functions.
-/
import Derived.Test.YtchhfojblmceiaaCl
import Derived.Test.YtchhfojblmceiaaEc
import Derived.Test.YtchhfojblmceiaaY0
import Derived.Test.YtchhfojblmceiaaY1
import Derived.Test.YtchhfojblmceiaaYr
import Derived.Test.YtchhfojblmceiaaY2
import Derived.Test.YtchhfojblmceiaaM1
import Derived.Test.YtchhfojblmceiaaM2
import Derived.Test.YtchhfojblmceiaaN1
import Derived.Test.YtchhfojblmceiaaP21a
import Derived.Test.YtchhfojblmceiaaN2x
namespace Go.Proofs.Ytchhfojblmceiaa
open Go Go.Vc Go.RowKit
set_option maxRecDepth 100000
set_option maxHeartbeats 4000000
noncomputable def g21_m1 (x0 : Int) (x1 : Int) (x2 : Sl T68) (x3 : Int) (x4 : Int) (x5 : Sl T68) : Bool := (bif ((g75_3 (g54_0 x0) (g54_1 x1) (g54_2 x2) x3 x4 (g76 x5)) == (g77_3 x0 x1 x2 x3 x4 x5)) then (bif ((g75_1 (g54_0 x0) (g54_1 x1) (g54_2 x2) x3 x4 (g76 x5)) == (g77_1 x0 x1 x2 x3 x4 x5)) then (bif ((g75_2 (g54_0 x0) (g54_1 x1) (g54_2 x2) x3 x4 (g76 x5)) == (g77_2 x0 x1 x2 x3 x4 x5)) then (bif (g68 (g75_0_0 (g54_0 x0) (g54_1 x1) (g54_2 x2) x3 x4 (g76 x5)) (g75_0_1 (g54_0 x0) (g54_1 x1) (g54_2 x2) x3 x4 (g76 x5)) (g75_0_2 (g54_0 x0) (g54_1 x1) (g54_2 x2) x3 x4 (g76 x5)) (g77_0_0 x0 x1 x2 x3 x4 x5) (g77_0_1 x0 x1 x2 x3 x4 x5) (g77_0_2 x0 x1 x2 x3 x4 x5)) then (g68 (g54_0 x0) (g54_1 x1) (g54_2 x2) x0 x1 x2) else false) else false) else false) else false)
noncomputable def g21 (x0 : Int) (x1 : Int) (x2 : Sl T68) (x3 : Int) (x4 : Int) (x5 : Sl T68) : Bool := (g21_m1 x0 x1 x2 x3 x4 x5)
noncomputable def F21 : Fq := ⟨[.g [kI, kI, .sl E68], .v kI, .v kI, .v (.sl E68)], fun x0 x1 x2 x3 x4 x5 => ⟨⟨none, .bool (g21 x0 x1 x2 x3 x4 x5)⟩⟩⟩
theorem pc21 : FnOk Try.prog 21 F21.sh _ (F21.sh.flatMap Sh.bs) F21.f [] :=
  fun (x0 : Int) (x1 : Int) x2 _ _ (x3 : Int) (x4 : Int) x5 _ _ => pure_of_exec (X := (mkX [(54, F54.ans), (68, F68.ans), (75, F75.ans), (76, F76.ans), (77, F77.ans)])) (R := ⟨.pure, [.tmp 8], [(.t 0, kB)], ⟨[U], []⟩⟩) (h := (.s .z (.s .z (.s .z (.s .z (.j ⟨256, [.b 0, .b 1, .b 2, .b 3], [(.t 8, kB)], [], .f⟩ .z .z)))))) (ms := []) (p := True) (mkX_ok ⟨k54, k68, k75, k76, k77, trivial⟩) Try.func21 rfl rfl (by kernel_rfl) (trivial)
theorem k21 : XOk Try.prog 21 F21.ans := Fq.ok ⟨_, _, Try.func21, rfl, by kernel_rfl⟩ pc21
end Go.Proofs.Ytchhfojblmceiaa
