/-
  rostrum/rostrumlaw.LedgerTerms: answers as the document does, where all that comes in is of bulk at most 1048576. No condition but the bulk.
-/
import Derived.Test.YtchhfojblmceiaaRows
import Derived.Test.YtchhfojblmceiaaHead
import Derived.Test.YtchhfojblmceiaaP14
import Derived.ProofKit
namespace Go.Proofs.Ytchhfojblmceiaa
open Go Go.Vc Go.RowKit Go.ChangeShapes Go.WideShapes Go.ChangeAt
set_option maxRecDepth 100000
theorem pure16 : shArgs Try.prog 1048576 9 [38, 3] fun xs => PureCall Try.prog 16 xs (.bool true) := by
  refine Eq.mpr (β := ∀ x0 : Int, (Lit.int .i64 x0).wf = true → ∀ x1 : Int, (Lit.int .i64 x1).wf = true → ∀ (m2 : Nat) (f2 : Nat → List AV), m2 ≤ 1048576 → (∀ i, i < m2 → ∀ K : List AV → Prop, (∀ x0 : Int, (Lit.int .i64 x0).wf = true → ∀ x1 : Int, (Lit.int .i64 x1).wf = true → ∀ x2 : Bool, ∀ x3 : Int, (Lit.int .i64 x3).wf = true → ∀ x4 : Int, (Lit.int .i64 x4).wf = true → ∀ x5 : Int, (Lit.int .i64 x5).wf = true → ∀ x6 : ByteArray, x6.size ≤ 1048576 → ∀ x7 : ByteArray, x7.size ≤ 1048576 → ∀ x8 : ByteArray, x8.size ≤ 1048576 → ∀ x9 : Int, (Lit.int .i64 x9).wf = true → K [.int .i64 x0, .int .i64 x1, .bool x2, .int .i64 x3, .int .i64 x4, .int .i64 x5, .str x6, .str x7, .str x8, .int .i64 x9]) → K (f2 i)) → ∀ x3 : Int, (Lit.int .i64 x3).wf = true → PureCall Try.prog 16 [.agg [.int .i64 x0, .int .i64 x1, .arr 10 m2 f2], .int .i64 x3] (.bool true)) (by kernel_rfl) ?_
  intro x0 r0 x1 r1 m2 f2 hm2 he2 x3 r3
  have w0 := wf64 r0
  have w1 := wf64 r1
  have w3 := wf64 r3
  have e2 : ∀ i, i < m2 → f2 i = e68 (d68 (f2 i)) := fun i hi => he2 i hi (fun l => l = e68 (d68 l)) (fun _ _ _ _ _ _ _ _ _ _ _ _ _ _ _ _ _ _ _ => rfl)
  have h := (pc16 x0 x1 (canonOf d68 m2 f2) x3).weak (l1 (aG (l1 cI (l1 cI (l1 (canonLe e2) l0)))) (l1 aI l0))
  rw [law16 x0 x1 (canonOf d68 m2 f2) x3 (wf64 r0) (wf64 r1) (canonOf_ok d68 m2 f2) hm2 (wf64 r3)] at h
  exact h
theorem ledgerTerms_lifted (os : Os) (started : os.Started) (H : Type) (enc : TypeId × Value → H) (F : Stop.Interp) :
    ReturnsInHanded {} Try.checked os 16 .any ((Rows.OpenSpec.upto Rows.ledgerTermsSpec).pre6 enc Try.prog Try.f16 Rows.ledgerTermsUptoRow.domain false) (((Rows.OpenSpec.upto Rows.ledgerTermsSpec).at F).post enc Try.prog Try.f16 false true false false) := by
  refine returnsInHanded_of_cond (C := Try.checked) (s := Rows.OpenSpec.upto Rows.ledgerTermsSpec) (k := Rows.uptoSmall) rfl Try.own started (by kernel_rfl) Try.func16
    (OpenSpec.witness (enc := enc) (C := Try.checked) (s := Rows.OpenSpec.upto Rows.ledgerTermsSpec) (k := Rows.uptoSmall) rfl false ⟨#[], #[.agg #[.int .i64 0, .int .i64 0, .slice none 0 0], .int .i64 0], []⟩ 8 (by kernel_rfl) (by kernel_rfl) (by kernel_rfl)
      (x := ([.agg [.lit (.int .i64 0), .lit (.int .i64 0), .nil], .lit (.int .i64 0)], [], [])) (by kernel_rfl) rfl (by kernel_rfl)) ?_
  intro W base args ds gs before hval hW _ hk _
  exact law_contract (P := Try.prog) (fn := Try.f16) (s := Rows.ledgerTermsSpec) (n := 9) (B := 1048576) (bulk := Rows.uptoBulk) (tb := 4) (ts := [38, 3]) (by decide) (bulk_ok H) rfl jf2 (by kernel_rfl) (by kernel_rfl) rfl (by kernel_rfl) rfl (fun ds h => by
    match ds, h with
    | [d1, d2], _ => rfl) pure16 W base args ds gs before hval hW (fun d hd => bulk_small hk d (by simp [hd]))
theorem joined16 : joinedFacts Try.prog 16 Try.f16 Rows.ledgerTermsSpec Rows.ledgerTermsUptoRow = true :=
  joined_of (by kernel_rfl) jf2 jf3 (by kernel_rfl) (by kernel_rfl) rfl jf7 rfl jf9 (by kernel_rfl) (by kernel_rfl) (by kernel_rfl) (by kernel_rfl) (by kernel_rfl) (by kernel_rfl) (by kernel_rfl) (by kernel_rfl) (by kernel_rfl)
    (by kernel_rfl) (by kernel_rfl) (by kernel_rfl) (by kernel_rfl) (by rw [jf23]; rfl) rfl jf25 jf26 (by rw [jf27]; rfl) (by rw [jf28]; rfl) (by kernel_rfl) (by kernel_rfl) (by kernel_rfl) (by kernel_rfl)
theorem ledgerTerms_holds : Rows.LedgerTermsUptoSaid :=
  OpenClaim.holds_of_cond 16 Try.f16 rfl rfl rfl rfl rfl rfl rfl ⟨rfl, rfl, rfl, rfl, rfl⟩ rfl rfl rfl rfl rfl (by kernel_rfl) Try.func16 joined16
    (of_decide_eq_true (by kernel_rfl)) (by unfold Func.isWrapper; first | (rw [if_pos (by decide +kernel)]; kernel_rfl) | (rw [if_neg (by decide +kernel)]; exact ⟨rfl, rfl⟩))
    (fun os started H enc _ F => ledgerTerms_lifted os started H enc F)
end Go.Proofs.Ytchhfojblmceiaa
