/-
  What is known of elements that have slices themselves.
-/
import Derived.Test.YtfbpilmhnpkfhaaGreatDoorVcH
import Derived.Test.YtfbpilmhnpkfhaaGreatDoorTy
set_option linter.all false
namespace Go.Vc
open Go Go.RowKit
theorem nest{α:Type}[Inhabited α]{sz m:Nat}{f:Nat→List AV}{e:α→List AV}{d:List AV→α}(hd: ∀i,m≤i→f i=e (d (f i)))(he: ∀i,i<m→f i=e (d (f i))):AV.arr sz m f=ofSl sz e (toSl d (.arr sz m f)):=by
 have:f=fun i=>e (d (f i)):=funext fun i=>by
  rcases Nat.lt_or_ge i m with h|h
  ·exact he i h
  ·exact hd i h
 unfold ofSl toSl
 simp only
 rw[←this]
theorem c2{α:Type}{a b:α}{l m:List α}(h:a=b)(k:l=m):a::l=b::m:=by subst h;subst k;rfl
end Go.Vc
namespace Go.Proofs.YtfbpilmhnpkfhaaGreatDoor
open Go Go.Vc
def W175(x:T175):Prop:=(Canon x.c4∧x.c4.n≤1048576)∧(Canon x.c5∧x.c5.n≤1048576)∧(Canon x.c6∧x.c6.n≤1048576)
def W137(x:T137):Prop:=Canon x.c6∧x.c6.n≤1048576
end Go.Proofs.YtfbpilmhnpkfhaaGreatDoor
