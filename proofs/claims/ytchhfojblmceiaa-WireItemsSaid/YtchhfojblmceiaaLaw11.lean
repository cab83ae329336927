/-
  rostrumlaw.WireItems: for every item, wire.CheckItem answers as rostrumref.ItemFault does. No condition.
-/
import Derived.Test.YtchhfojblmceiaaRows
import Derived.Test.YtchhfojblmceiaaHead
import Derived.Test.YtchhfojblmceiaaW3
import Derived.Test.YtchhfojblmceiaaLaw10
import Derived.ProofKit
namespace Go.Proofs.Ytchhfojblmceiaa
open Go Go.Vc Go.RowKit Go.ChangeShapes Go.WideShapes Go.ChangeAt
set_option maxRecDepth 100000
theorem g51_eq (x0 x1 : Int) (x2 : Bool) (x3 x4 x5 : Int) (x6 x7 x8 : ByteArray) (x9 : Int) : g51 x0 x1 x2 x3 x4 x5 x6 x7 x8 x9 = g52 x0 x1 x2 x3 x4 x5 x6 x7 x8 x9 := by
  unfold g51 g52
  have h : g51_m1 x0 x1 = g52_m1 x0 x1 := by
    unfold g51_m1 g52_m1 g120
    simp only [g112_eq]
    by_cases a : x0 < 1
    · have : ¬ (1 ≤ x0) := by omega
      simp [a, this]
    · have a' : 1 ≤ x0 := by omega
      by_cases b : x0 > 1048576
      · have : ¬ (x0 ≤ 1048576) := by omega
        simp [b, this]
      · have b' : x0 ≤ 1048576 := by omega
        by_cases c : x1 < 0
        · have : ¬ (0 ≤ x1) := by omega
          simp [a, b, c, a', b', this]
        · have c' : 0 ≤ x1 := by omega
          by_cases d : x1 > 1073741824
          · have : ¬ (x1 ≤ 1073741824) := by omega
            simp [a, b, c, d, a', b', c', this]
          · have d' : x1 ≤ 1073741824 := by omega
            simp [a, b, c, d, a', b', c', d']
  rw [h, g49_eq]
  cases g52_m1 x0 x1 <;> cases x2 <;> rfl
theorem law11 (x0 x1 : Int) (x2 : Bool) (x3 x4 x5 : Int) (x6 x7 x8 : ByteArray) (x9 : Int) : g11 x0 x1 x2 x3 x4 x5 x6 x7 x8 x9 = true := by
  unfold g11
  rw [g51_eq]
  exact beq_self_eq_true _
theorem pure11 : shArgs Try.prog 9 [68] fun xs => PureCall Try.prog 11 xs (.bool true) := by
  refine Eq.mpr (β := ∀ x0 : Int, (Lit.int .i64 x0).wf = true → ∀ x1 : Int, (Lit.int .i64 x1).wf = true → ∀ x2 : Bool, ∀ x3 : Int, (Lit.int .i64 x3).wf = true → ∀ x4 : Int, (Lit.int .i64 x4).wf = true → ∀ x5 : Int, (Lit.int .i64 x5).wf = true → ∀ x6 : ByteArray, x6.size ≤ maxLen → ∀ x7 : ByteArray, x7.size ≤ maxLen → ∀ x8 : ByteArray, x8.size ≤ maxLen → ∀ x9 : Int, (Lit.int .i64 x9).wf = true →
    PureCall Try.prog 11 [.agg [.int .i64 x0, .int .i64 x1, .bool x2, .int .i64 x3, .int .i64 x4, .int .i64 x5, .str x6, .str x7, .str x8, .int .i64 x9]] (.bool true)) (by kernel_rfl) ?_
  intro x0 _ x1 _ x2 x3 _ x4 _ x5 _ x6 _ x7 _ x8 _ x9 _
  rw [← law11 x0 x1 x2 x3 x4 x5 x6 x7 x8 x9]
  exact pc11 _ _ _ _ _ _ _ _ _ _
theorem wireItems_lifted (os : Os) (started : os.Started) (H : Type) (enc : TypeId × Value → H) :
    ReturnsInHanded {} Try.checked os 11 .any (Rows.wireItemsSpec.pre6 enc Try.prog Try.f11 Rows.wireItemsRow.domain false) (Rows.wireItemsSpec.post enc Try.prog Try.f11 false true false false) := by
  refine returnsInHanded_of_change (C := Try.checked) Try.own started (by kernel_rfl) Try.func11
    (ChangeSpec.witness6 (enc := enc) (C := Try.checked) false ⟨#[], #[.agg #[.int .i64 0, .int .i64 0, .bool false, .int .i64 0, .int .i64 0, .int .i64 0, .string ⟨#[]⟩, .string ⟨#[]⟩, .string ⟨#[]⟩, .int .i64 0]], []⟩ 8 (by kernel_rfl) (by kernel_rfl) (by kernel_rfl) (by kernel_rfl)) ?_
  intro W base args ds gs before hval hW _ _
  exact law_contract (P := Try.prog) (fn := Try.f11) (s := Rows.wireItemsSpec) (n := 9) (tb := 4) (ts := [68]) rfl jf2 (by kernel_rfl) (by kernel_rfl) rfl (by kernel_rfl) rfl (fun ds h => by
    match ds, h with
    | [d], _ => rfl) pure11 W base args ds gs before hval hW
theorem joined11 : joinedFacts Try.prog 11 Try.f11 Rows.wireItemsSpec Rows.wireItemsRow = true :=
  joined_of (by kernel_rfl) jf2 jf3 (by kernel_rfl) (by kernel_rfl) rfl jf7 rfl jf9 (by kernel_rfl) (by kernel_rfl) (by kernel_rfl) (by kernel_rfl) (by kernel_rfl) (by kernel_rfl) (by kernel_rfl) (by kernel_rfl) (by kernel_rfl)
    (by kernel_rfl) (by kernel_rfl) (by kernel_rfl) (by kernel_rfl) (by rw [jf23]; rfl) rfl jf25 jf26 (by rw [jf27]; rfl) (by rw [jf28]; rfl) (by kernel_rfl) (by kernel_rfl) (by kernel_rfl) (by kernel_rfl)
theorem wireItems_holds : Rows.WireItemsSaid :=
  OpenClaim.holds_of_wide 11 Try.f11 rfl rfl rfl rfl rfl rfl rfl ⟨rfl, rfl, rfl, rfl, rfl⟩ rfl rfl rfl rfl rfl (by kernel_rfl) Try.func11 joined11
    (of_decide_eq_true (by kernel_rfl)) (by unfold Func.isWrapper; first | (rw [if_pos (by decide +kernel)]; kernel_rfl) | (rw [if_neg (by decide +kernel)]; exact ⟨rfl, rfl⟩))
    (fun os started H enc _ => wireItems_lifted os started H enc)
end Go.Proofs.Ytchhfojblmceiaa
