/-
  rostrumlaw.ValueCommands: for every command, value.CheckCommand answers as rostrumref.CommandFault does. No condition.
-/
import Derived.Test.YtchhfojblmceiaaRows
import Derived.Test.YtchhfojblmceiaaHead
import Derived.Test.YtchhfojblmceiaaW1
import Derived.ProofKit
namespace Go.Proofs.Ytchhfojblmceiaa
open Go Go.Vc Go.RowKit Go.ChangeShapes Go.WideShapes Go.ChangeAt
set_option maxRecDepth 100000
theorem g112_eq (n l h : Int) : g112 n l h = (decide (n ≥ l) && decide (n ≤ h)) := by
  unfold g112 g112_m1; cases decide (n ≥ l) <;> rfl
theorem g118_eq (x : ByteArray) : g115 x = g118 x := by
  unfold g118 g115 g115_m1; rw [g112_eq]; cases decide ((x.size : Int) ≥ 1) <;> rfl
theorem g116_eq (x : ByteArray) : g116 x = g113 x := rfl
theorem g117_eq (x : Int) : g117 x = g114 x := by
  unfold g117 g117_m1 g114; rw [g112_eq]; cases decide (x ≥ (-1099511627776)) <;> rfl
theorem law9 (x0 : Int) (x1 x2 x3 : ByteArray) (x4 : Int) : g9 x0 x1 x2 x3 x4 = true := by
  unfold g9
  by_cases h : 1 ≤ x0 ∧ x0 ≤ 22
  · have hx : x0 = 1 ∨ x0 = 2 ∨ x0 = 3 ∨ x0 = 4 ∨ x0 = 5 ∨ x0 = 6 ∨ x0 = 7 ∨ x0 = 8 ∨ x0 = 9 ∨ x0 = 10 ∨ x0 = 11 ∨ x0 = 12 ∨ x0 = 13 ∨ x0 = 14 ∨ x0 = 15 ∨ x0 = 16 ∨ x0 = 17 ∨ x0 = 18 ∨ x0 = 19 ∨ x0 = 20 ∨ x0 = 21 ∨ x0 = 22 := by omega
    unfold g47 g48 g47_m9 g47_m8 g47_m7 g47_m6 g47_m5 g47_m4 g47_m3 g47_m2 g47_m1 g48_m4 g48_m3 g48_m2 g48_m1
    simp only [g118_eq, g116_eq, g117_eq, g112_eq]
    generalize g118 x1 = b1
    generalize g118 x2 = b2
    generalize g113 x3 = b3
    generalize g114 x4 = b4
    rcases hx with rfl | rfl | rfl | rfl | rfl | rfl | rfl | rfl | rfl | rfl | rfl | rfl | rfl | rfl | rfl | rfl | rfl | rfl | rfl | rfl | rfl | rfl <;>
    simp only [Int.reduceBEq, Int.reduceLE, Int.reduceLT, ge_iff_le, gt_iff_lt, decide_true, decide_false, Bool.and_true, Bool.true_and, Bool.and_false, cond_true, cond_false, Bool.not_true, Bool.not_false, beq_self_eq_true, bne] <;>
    (generalize (x1.toList == ByteArray.toList ⟨#[]⟩) = e1; generalize (x2.toList == ByteArray.toList ⟨#[]⟩) = e2; generalize (x3.toList == ByteArray.toList ⟨#[]⟩) = e3; generalize (x4 == 0) = e4
     revert e1 e2 e3 e4 b1 b2 b3 b4; decide)
  · unfold g47 g48 g47_m1
    have h1 : g112 x0 1 22 = false := by rw [g112_eq]; simp; omega
    have h2 : (bif decide (x0 < 1) then true else decide (x0 > 22)) = true := by
      by_cases h3 : x0 < 1
      · simp [h3]
      · simp [h3]; omega
    rw [h1, h2]; rfl
theorem pure9 : shArgs Try.prog 9 [60] fun xs => PureCall Try.prog 9 xs (.bool true) := by
  refine Eq.mpr (β := ∀ x0 : Int, (Lit.int .i64 x0).wf = true → ∀ x1 : ByteArray, x1.size ≤ maxLen → ∀ x2 : ByteArray, x2.size ≤ maxLen → ∀ x3 : ByteArray, x3.size ≤ maxLen → ∀ x4 : Int, (Lit.int .i64 x4).wf = true →
    PureCall Try.prog 9 [.agg [.int .i64 x0, .str x1, .str x2, .str x3, .int .i64 x4]] (.bool true)) (by kernel_rfl) ?_
  intro x0 _ x1 _ x2 _ x3 _ x4 _
  rw [← law9 x0 x1 x2 x3 x4]
  exact pc9 _ _ _ _ _
theorem valueCommands_lifted (os : Os) (started : os.Started) (H : Type) (enc : TypeId × Value → H) :
    ReturnsInHanded {} Try.checked os 9 .any (Rows.valueCommandsSpec.pre6 enc Try.prog Try.f9 Rows.valueCommandsRow.domain false) (Rows.valueCommandsSpec.post enc Try.prog Try.f9 false true false false) := by
  refine returnsInHanded_of_change (C := Try.checked) Try.own started (by kernel_rfl) Try.func9
    (ChangeSpec.witness6 (enc := enc) (C := Try.checked) false ⟨#[], #[.agg #[.int .i64 0, .string ⟨#[]⟩, .string ⟨#[]⟩, .string ⟨#[]⟩, .int .i64 0]], []⟩ 8 (by kernel_rfl) (by kernel_rfl) (by kernel_rfl) (by kernel_rfl)) ?_
  intro W base args ds gs before hval hW _ _
  exact law_contract (P := Try.prog) (fn := Try.f9) (s := Rows.valueCommandsSpec) (n := 9) (tb := 4) (ts := [60]) rfl jf2 (by kernel_rfl) (by kernel_rfl) rfl (by kernel_rfl) rfl (fun ds h => by
    match ds, h with
    | [d], _ => rfl) pure9 W base args ds gs before hval hW
theorem joined9 : joinedFacts Try.prog 9 Try.f9 Rows.valueCommandsSpec Rows.valueCommandsRow = true :=
  joined_of (by kernel_rfl) jf2 jf3 (by kernel_rfl) (by kernel_rfl) rfl jf7 rfl jf9 (by kernel_rfl) (by kernel_rfl) (by kernel_rfl) (by kernel_rfl) (by kernel_rfl) (by kernel_rfl) (by kernel_rfl) (by kernel_rfl) (by kernel_rfl)
    (by kernel_rfl) (by kernel_rfl) (by kernel_rfl) (by kernel_rfl) (by rw [jf23]; rfl) rfl jf25 jf26 (by rw [jf27]; rfl) (by rw [jf28]; rfl) (by kernel_rfl) (by kernel_rfl) (by kernel_rfl) (by kernel_rfl)
theorem valueCommands_holds : Rows.ValueCommandsSaid :=
  OpenClaim.holds_of_wide 9 Try.f9 rfl rfl rfl rfl rfl rfl rfl ⟨rfl, rfl, rfl, rfl, rfl⟩ rfl rfl rfl rfl rfl (by kernel_rfl) Try.func9 joined9
    (of_decide_eq_true (by kernel_rfl)) (by unfold Func.isWrapper; first | (rw [if_pos (by decide +kernel)]; kernel_rfl) | (rw [if_neg (by decide +kernel)]; exact ⟨rfl, rfl⟩))
    (fun os started H enc _ => valueCommands_lifted os started H enc)
end Go.Proofs.Ytchhfojblmceiaa
