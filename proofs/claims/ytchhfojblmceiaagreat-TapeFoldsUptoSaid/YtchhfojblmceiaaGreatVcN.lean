/-
  slices.Insert and slices.Delete as what their callers lean on.
-/
import Derived.Test.YtchhfojblmceiaaGreatVcM
import Derived.Test.YtchhfojblmceiaaGreatVcG
namespace Go.Vc
open Go Go.Proofs Go.Shelf Go.RowKit
variable {P : Program} {ρ : Ren}
theorem wrapu64 {x : Int} (h1 : 0 ≤ x) (h2 : x ≤ 18446744073709551615) : IntKind.u64.wrap x = x := by
  have h : IntKind.u64.wrap x = x % 18446744073709551616 := by simp [IntKind.wrap, IntKind.bits, IntKind.signed]
  rw [h]; omega
noncomputable def Sl.ins {α : Type} (s : Sl α) (i : Nat) (x : α) : Sl α := ⟨s.n + 1, fun t => bif Nat.blt t i then s.at' t else bif Nat.beq t i then x else s.at' (t - 1)⟩
noncomputable def Sl.del {α : Type} (s : Sl α) (i j : Nat) : Sl α := ⟨s.n - (j - i), fun t => bif Nat.blt t i then s.at' t else s.at' (t + (j - i))⟩
end Go.Vc
/-
  A search by halves: where it ends.
-/
namespace Go.Vc
open Go
end Go.Vc
