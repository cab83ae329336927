/-
  What is known of elements that have slices themselves.
-/
import Derived.Test.YtchhfojblmceiaaVcH
import Derived.Test.YtchhfojblmceiaaTy
namespace Go.Vc
open Go Go.RowKit
theorem c2 {α : Type} {a b : α} {l m : List α} (h : a = b) (k : l = m) : a :: l = b :: m := by subst h; subst k; rfl
end Go.Vc
namespace Go.Proofs.Ytchhfojblmceiaa
open Go Go.Vc
end Go.Proofs.Ytchhfojblmceiaa
