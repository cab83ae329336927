/-
  rostrumlaw.LinesChecks: for every act, lines.Check answers as rostrumref.ActFault does. No condition.
-/
import Derived.Test.YtchhfojblmceiaaRows
import Derived.Test.YtchhfojblmceiaaHead
import Derived.Test.YtchhfojblmceiaaW4
import Derived.Test.YtchhfojblmceiaaLaw10
import Derived.ProofKit
namespace Go.Proofs.Ytchhfojblmceiaa
open Go Go.Vc Go.RowKit Go.ChangeShapes Go.WideShapes Go.ChangeAt
set_option maxRecDepth 100000
theorem has_eq (x : Int) (h1 : 1 ≤ x) (h2 : x ≤ 12) : g121_0 x = g122 x ∧ g121_1 x = g123 x := by
  have hx : x = 1 ∨ x = 2 ∨ x = 3 ∨ x = 4 ∨ x = 5 ∨ x = 6 ∨ x = 7 ∨ x = 8 ∨ x = 9 ∨ x = 10 ∨ x = 11 ∨ x = 12 := by omega
  rcases hx with rfl | rfl | rfl | rfl | rfl | rfl | rfl | rfl | rfl | rfl | rfl | rfl <;> exact ⟨rfl, rfl⟩
theorem node_eq (x : Int) (C : Bool) : (bif decide (x < 0) then true else bif decide (x ≥ 3) then true else C) = bif !(g112 x 0 2) then true else C := by
  rw [g112_eq]
  by_cases a : x < 0
  · have : ¬ (0 ≤ x) := by omega
    simp [a, this]
  · have a' : 0 ≤ x := by omega
    by_cases b : x ≥ 3
    · have : ¬ (x ≤ 2) := by omega
      simp [a', b, this]
    · have b' : x ≤ 2 := by omega
      have : ¬ (3 ≤ x) := by omega
      simp [a, a', b', this]
theorem pick_eq (x : Int) : (bif decide (x < 0) then true else decide (x > 400000)) = !(g112 x 0 400000) := by
  rw [g112_eq]
  by_cases a : x < 0
  · have : ¬ (0 ≤ x) := by omega
    simp [a, this]
  · have a' : 0 ≤ x := by omega
    by_cases b : x > 400000
    · have : ¬ (x ≤ 400000) := by omega
      simp [a, a', b, this]
    · have b' : x ≤ 400000 := by omega
      simp [a, a', b, b']
theorem g56_eq (x0 x1 x2 x3 x4 x5 : Int) (x6 x7 x8 : ByteArray) (x9 : Int) : g56 x0 x1 x2 x3 x4 x5 x6 x7 x8 x9 = g57 x0 x1 x2 x3 x4 x5 x6 x7 x8 x9 := by
  unfold g56 g57
  by_cases h : 1 ≤ x0 ∧ x0 ≤ 12
  · obtain ⟨e1, e2⟩ := has_eq x0 h.1 h.2
    have a1 : g56_m1 x0 = false := by
      unfold g56_m1
      have : ¬ x0 < 1 := by omega
      have : ¬ x0 > 12 := by omega
      simp [*]
    have a2 : g112 x0 1 12 = true := by rw [g112_eq]; simp [h.1, h.2]
    have a3 : g56_m2 x0 x1 x2 = g57_m1 x0 x1 x2 := by
      unfold g56_m2 g57_m1
      rw [e1, e2, node_eq, pick_eq]
    have a4 : g56_m3 x0 x1 x2 x3 x4 x5 x6 x7 x8 x9 = g57_m2 x0 x1 x2 x3 x4 x5 x6 x7 x8 x9 := by
      unfold g56_m3 g57_m2
      rw [e1, e2]
    rw [a1, a2, a3, a4, g49_eq]; rfl
  · have a1 : g56_m1 x0 = true := by
      unfold g56_m1
      by_cases b : x0 < 1
      · simp [b]
      · have : x0 > 12 := by omega
        simp [b, this]
    have a2 : g112 x0 1 12 = false := by rw [g112_eq]; simp; omega
    rw [a1, a2]; rfl
theorem law13 (x0 x1 x2 x3 x4 x5 : Int) (x6 x7 x8 : ByteArray) (x9 : Int) : g13 x0 x1 x2 x3 x4 x5 x6 x7 x8 x9 = true := by
  unfold g13
  rw [g56_eq]
  exact beq_self_eq_true _
theorem pure13 : shArgs Try.prog 9 [75] fun xs => PureCall Try.prog 13 xs (.bool true) := by
  refine Eq.mpr (β := ∀ x0 : Int, (Lit.int .i64 x0).wf = true → ∀ x1 : Int, (Lit.int .i64 x1).wf = true → ∀ x2 : Int, (Lit.int .i64 x2).wf = true → ∀ x3 : Int, (Lit.int .i64 x3).wf = true → ∀ x4 : Int, (Lit.int .i64 x4).wf = true → ∀ x5 : Int, (Lit.int .i64 x5).wf = true → ∀ x6 : ByteArray, x6.size ≤ maxLen → ∀ x7 : ByteArray, x7.size ≤ maxLen → ∀ x8 : ByteArray, x8.size ≤ maxLen → ∀ x9 : Int, (Lit.int .i64 x9).wf = true →
    PureCall Try.prog 13 [.agg [.int .i64 x0, .int .i64 x1, .int .i64 x2, .int .i64 x3, .int .i64 x4, .int .i64 x5, .str x6, .str x7, .str x8, .int .i64 x9]] (.bool true)) (by kernel_rfl) ?_
  intro x0 _ x1 _ x2 _ x3 _ x4 _ x5 _ x6 _ x7 _ x8 _ x9 _
  rw [← law13 x0 x1 x2 x3 x4 x5 x6 x7 x8 x9]
  exact pc13 _ _ _ _ _ _ _ _ _ _
theorem linesChecks_lifted (os : Os) (started : os.Started) (H : Type) (enc : TypeId × Value → H) :
    ReturnsInHanded {} Try.checked os 13 .any (Rows.linesChecksSpec.pre6 enc Try.prog Try.f13 Rows.linesChecksRow.domain false) (Rows.linesChecksSpec.post enc Try.prog Try.f13 false true false false) := by
  refine returnsInHanded_of_change (C := Try.checked) Try.own started (by kernel_rfl) Try.func13
    (ChangeSpec.witness6 (enc := enc) (C := Try.checked) false ⟨#[], #[.agg #[.int .i64 0, .int .i64 0, .int .i64 0, .int .i64 0, .int .i64 0, .int .i64 0, .string ⟨#[]⟩, .string ⟨#[]⟩, .string ⟨#[]⟩, .int .i64 0]], []⟩ 8 (by kernel_rfl) (by kernel_rfl) (by kernel_rfl) (by kernel_rfl)) ?_
  intro W base args ds gs before hval hW _ _
  exact law_contract (P := Try.prog) (fn := Try.f13) (s := Rows.linesChecksSpec) (n := 9) (tb := 4) (ts := [75]) rfl jf2 (by kernel_rfl) (by kernel_rfl) rfl (by kernel_rfl) rfl (fun ds h => by
    match ds, h with
    | [d], _ => rfl) pure13 W base args ds gs before hval hW
theorem joined13 : joinedFacts Try.prog 13 Try.f13 Rows.linesChecksSpec Rows.linesChecksRow = true :=
  joined_of (by kernel_rfl) jf2 jf3 (by kernel_rfl) (by kernel_rfl) rfl jf7 rfl jf9 (by kernel_rfl) (by kernel_rfl) (by kernel_rfl) (by kernel_rfl) (by kernel_rfl) (by kernel_rfl) (by kernel_rfl) (by kernel_rfl) (by kernel_rfl)
    (by kernel_rfl) (by kernel_rfl) (by kernel_rfl) (by kernel_rfl) (by rw [jf23]; rfl) rfl jf25 jf26 (by rw [jf27]; rfl) (by rw [jf28]; rfl) (by kernel_rfl) (by kernel_rfl) (by kernel_rfl) (by kernel_rfl)
theorem linesChecks_holds : Rows.LinesChecksSaid :=
  OpenClaim.holds_of_wide 13 Try.f13 rfl rfl rfl rfl rfl rfl rfl ⟨rfl, rfl, rfl, rfl, rfl⟩ rfl rfl rfl rfl rfl (by kernel_rfl) Try.func13 joined13
    (of_decide_eq_true (by kernel_rfl)) (by unfold Func.isWrapper; first | (rw [if_pos (by decide +kernel)]; kernel_rfl) | (rw [if_neg (by decide +kernel)]; exact ⟨rfl, rfl⟩))
    (fun os started H enc _ => linesChecks_lifted os started H enc)
end Go.Proofs.Ytchhfojblmceiaa
