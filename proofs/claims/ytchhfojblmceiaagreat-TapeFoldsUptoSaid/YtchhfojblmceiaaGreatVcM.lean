/-
  slices.Insert of one element of several cells.
-/
import Derived.Test.YtchhfojblmceiaaGreatVcL
import Derived.Shelf.Spec.SlicesInsertGrow
import Derived.Shelf.SlGeneric
import Derived.Shelf.SlBodiesN
import Derived.Shelf.RegionOpenPlain
import Derived.WalkKit
import Derived.Deep.LoopGhost
import Derived.Deep.RegionLaw
import Derived.Lib.Walk
import Derived.Sort.WalkB12
import Derived.Lib.SliceRun
import Derived.Lib.SlicesDelete
namespace Go.Vc
open Go Go.Proofs Go.Shelf Go.RowKit Go.Lib
variable {P : Program} {ρ : Ren}
structure InsF (P : Program) (ρ : Ren) (k bytes : Nat) (z : Value) : Prop where
  mixed : P.follows .mixedOrders = true
  F : Bears P (ρ.f 22) (Body2.n22 ρ)
  t3 : P.underlying (ρ.t 3) = some (TypeDesc.int IntKind.i64)
  t24 : P.underlying (ρ.t 24) = some (TypeDesc.slice (ρ.t 9))
  z9 : ∀ w, (Go.sizeOf (ρ.t 9)).run P w = .ok k w
  i9 : (P.info? (ρ.t 9)).map (fun i => (i.zero, i.size, i.bytes)) = some (some z, k, bytes)
  ov : ∀ (w : World) (vb b o m vc lb cb : Nat) (tA tB : TypeId) (kA kB : Nat), vb ≠ b → w.shape? vb = some (tA, kA) → w.shape? b = some (tB, kB) → kB ≠ 0 → w.frozen? ⟨vb, 0, none⟩ = false → w.frozen? ⟨vb, kA, none⟩ = false →
    (callFunc (ρ.f 29) #[.slice (some ⟨vb, 0, none⟩) m vc, .slice (some ⟨b, o, none⟩) lb cb]).run P w = .ok (.value (.bool false)) w
end Go.Vc
namespace Go.Vc
open Go Go.Proofs Go.Shelf Go.RowKit
variable {P : Program} {ρ : Ren}
end Go.Vc
