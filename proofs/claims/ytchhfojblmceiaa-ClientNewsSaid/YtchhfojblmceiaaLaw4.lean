/-
  rostrumlaw.ClientNews: client.New answers the empty machine of rostrumref. No condition.
-/
import Derived.Test.YtchhfojblmceiaaRows
import Derived.Test.YtchhfojblmceiaaHead
import Derived.Test.YtchhfojblmceiaaN5
import Derived.ProofKit
namespace Go.Proofs.Ytchhfojblmceiaa
open Go Go.Vc Go.RowKit Go.ChangeShapes Go.WideShapes Go.ChangeAt
set_option maxRecDepth 100000
theorem law4 : g4 = true := by
  simp [g4, g34, g34_m1, g105, g105_m1, g32_0, g32_2, g33_0, g33_2]
theorem pure4 : shArgs Try.prog 9 [] fun xs => PureCall Try.prog 4 xs (.bool true) := by
  refine Eq.mpr (β := PureCall Try.prog 4 [] (.bool true)) (by kernel_rfl) ?_
  rw [← law4]
  exact pc4
theorem clientNews_lifted (os : Os) (started : os.Started) (H : Type) (enc : TypeId × Value → H) :
    ReturnsInHanded {} Try.checked os 4 .any (Rows.clientNewsSpec.pre6 enc Try.prog Try.f4 Rows.clientNewsRow.domain false) (Rows.clientNewsSpec.post enc Try.prog Try.f4 false true false false) := by
  refine returnsInHanded_of_change (C := Try.checked) Try.own started (by kernel_rfl) Try.func4
    (ChangeSpec.witness6 (enc := enc) (C := Try.checked) false ⟨#[], #[], []⟩ 8 (by kernel_rfl) (by kernel_rfl) (by kernel_rfl) (by kernel_rfl)) ?_
  intro W base args ds gs before hval hW _ _
  exact law_contract (P := Try.prog) (fn := Try.f4) (s := Rows.clientNewsSpec) (n := 9) (tb := 4) (ts := []) rfl jf2 (by kernel_rfl) (by kernel_rfl) rfl (by kernel_rfl) rfl (fun ds h => by
    match ds, h with
    | [], _ => rfl) pure4 W base args ds gs before hval hW
theorem joined4 : joinedFacts Try.prog 4 Try.f4 Rows.clientNewsSpec Rows.clientNewsRow = true :=
  joined_of (by kernel_rfl) jf2 jf3 (by kernel_rfl) (by kernel_rfl) rfl jf7 rfl jf9 (by kernel_rfl) (by kernel_rfl) (by kernel_rfl) (by kernel_rfl) (by kernel_rfl) (by kernel_rfl) (by kernel_rfl) (by kernel_rfl) (by kernel_rfl)
    (by kernel_rfl) (by kernel_rfl) (by kernel_rfl) (by kernel_rfl) (by rw [jf23]; rfl) rfl jf25 jf26 (by rw [jf27]; rfl) (by rw [jf28]; rfl) (by kernel_rfl) (by kernel_rfl) (by kernel_rfl) (by kernel_rfl)
theorem clientNews_holds : Rows.ClientNewsSaid :=
  OpenClaim.holds_of_wide 4 Try.f4 rfl rfl rfl rfl rfl rfl rfl ⟨rfl, rfl, rfl, rfl, rfl⟩ rfl rfl rfl rfl rfl (by kernel_rfl) Try.func4 joined4
    (of_decide_eq_true (by kernel_rfl)) (by unfold Func.isWrapper; first | (rw [if_pos (by decide +kernel)]; kernel_rfl) | (rw [if_neg (by decide +kernel)]; exact ⟨rfl, rfl⟩))
    (fun os started H enc _ => clientNews_lifted os started H enc)
end Go.Proofs.Ytchhfojblmceiaa
