/-
  rostrumlaw.ClientCalls: for every call, client.CheckCall answers as rostrumref.CallFault does. No condition.
-/
import Derived.Test.YtchhfojblmceiaaRows
import Derived.Test.YtchhfojblmceiaaHead
import Derived.Test.YtchhfojblmceiaaW2
import Derived.Test.YtchhfojblmceiaaLaw9
import Derived.ProofKit
namespace Go.Proofs.Ytchhfojblmceiaa
open Go Go.Vc Go.RowKit Go.ChangeShapes Go.WideShapes Go.ChangeAt
set_option maxRecDepth 100000
theorem g119_eq (x : Int) : g119 x = g120 x := by
  unfold g119 g119_m1 g120; rw [g112_eq]; cases decide (x ≥ 1) <;> rfl
theorem g47_eq (x0 : Int) (x1 x2 x3 : ByteArray) (x4 : Int) : g47 x0 x1 x2 x3 x4 = g48 x0 x1 x2 x3 x4 := by
  have h := law9 x0 x1 x2 x3 x4
  unfold g9 at h
  exact eq_of_beq h
theorem g49_eq (x0 x1 x2 : Int) (x3 x4 x5 : ByteArray) (x6 : Int) : g49 x0 x1 x2 x3 x4 x5 x6 = g50 x0 x1 x2 x3 x4 x5 x6 := by
  unfold g49 g50 g49_m1 g50_m1 g50_m2
  rw [g47_eq]
  simp only [g119_eq, bne]
  cases x0 == 0
  · rfl
  · simp only [cond_true, Bool.true_and]
    cases x1 == 0 <;> simp
theorem law10 (x0 x1 x2 : Int) (x3 x4 x5 : ByteArray) (x6 : Int) : g10 x0 x1 x2 x3 x4 x5 x6 = true := by
  unfold g10
  rw [g49_eq]
  exact beq_self_eq_true _
theorem pure10 : shArgs Try.prog 9 [64] fun xs => PureCall Try.prog 10 xs (.bool true) := by
  refine Eq.mpr (β := ∀ x0 : Int, (Lit.int .i64 x0).wf = true → ∀ x1 : Int, (Lit.int .i64 x1).wf = true → ∀ x2 : Int, (Lit.int .i64 x2).wf = true → ∀ x3 : ByteArray, x3.size ≤ maxLen → ∀ x4 : ByteArray, x4.size ≤ maxLen → ∀ x5 : ByteArray, x5.size ≤ maxLen → ∀ x6 : Int, (Lit.int .i64 x6).wf = true →
    PureCall Try.prog 10 [.agg [.int .i64 x0, .int .i64 x1, .int .i64 x2, .str x3, .str x4, .str x5, .int .i64 x6]] (.bool true)) (by kernel_rfl) ?_
  intro x0 _ x1 _ x2 _ x3 _ x4 _ x5 _ x6 _
  rw [← law10 x0 x1 x2 x3 x4 x5 x6]
  exact pc10 _ _ _ _ _ _ _
theorem clientCalls_lifted (os : Os) (started : os.Started) (H : Type) (enc : TypeId × Value → H) :
    ReturnsInHanded {} Try.checked os 10 .any (Rows.clientCallsSpec.pre6 enc Try.prog Try.f10 Rows.clientCallsRow.domain false) (Rows.clientCallsSpec.post enc Try.prog Try.f10 false true false false) := by
  refine returnsInHanded_of_change (C := Try.checked) Try.own started (by kernel_rfl) Try.func10
    (ChangeSpec.witness6 (enc := enc) (C := Try.checked) false ⟨#[], #[.agg #[.int .i64 0, .int .i64 0, .int .i64 0, .string ⟨#[]⟩, .string ⟨#[]⟩, .string ⟨#[]⟩, .int .i64 0]], []⟩ 8 (by kernel_rfl) (by kernel_rfl) (by kernel_rfl) (by kernel_rfl)) ?_
  intro W base args ds gs before hval hW _ _
  exact law_contract (P := Try.prog) (fn := Try.f10) (s := Rows.clientCallsSpec) (n := 9) (tb := 4) (ts := [64]) rfl jf2 (by kernel_rfl) (by kernel_rfl) rfl (by kernel_rfl) rfl (fun ds h => by
    match ds, h with
    | [d], _ => rfl) pure10 W base args ds gs before hval hW
theorem joined10 : joinedFacts Try.prog 10 Try.f10 Rows.clientCallsSpec Rows.clientCallsRow = true :=
  joined_of (by kernel_rfl) jf2 jf3 (by kernel_rfl) (by kernel_rfl) rfl jf7 rfl jf9 (by kernel_rfl) (by kernel_rfl) (by kernel_rfl) (by kernel_rfl) (by kernel_rfl) (by kernel_rfl) (by kernel_rfl) (by kernel_rfl) (by kernel_rfl)
    (by kernel_rfl) (by kernel_rfl) (by kernel_rfl) (by kernel_rfl) (by rw [jf23]; rfl) rfl jf25 jf26 (by rw [jf27]; rfl) (by rw [jf28]; rfl) (by kernel_rfl) (by kernel_rfl) (by kernel_rfl) (by kernel_rfl)
theorem clientCalls_holds : Rows.ClientCallsSaid :=
  OpenClaim.holds_of_wide 10 Try.f10 rfl rfl rfl rfl rfl rfl rfl ⟨rfl, rfl, rfl, rfl, rfl⟩ rfl rfl rfl rfl rfl (by kernel_rfl) Try.func10 joined10
    (of_decide_eq_true (by kernel_rfl)) (by unfold Func.isWrapper; first | (rw [if_pos (by decide +kernel)]; kernel_rfl) | (rw [if_neg (by decide +kernel)]; exact ⟨rfl, rfl⟩))
    (fun os started H enc _ => clientCalls_lifted os started H enc)
end Go.Proofs.Ytchhfojblmceiaa
