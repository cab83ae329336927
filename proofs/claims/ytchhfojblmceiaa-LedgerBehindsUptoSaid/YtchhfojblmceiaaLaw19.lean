/-
  rostrum/rostrumlaw.LedgerBehinds: answers as the document does, where all that comes in is of bulk at most 1048576. No condition but the bulk.
-/
import Derived.Test.YtchhfojblmceiaaRows
import Derived.Test.YtchhfojblmceiaaHead
import Derived.Test.YtchhfojblmceiaaWd
import Derived.Test.YtchhfojblmceiaaP19
import Derived.ProofKit
namespace Go.Proofs.Ytchhfojblmceiaa
open Go Go.Vc Go.RowKit Go.ChangeShapes Go.WideShapes Go.ChangeAt
set_option maxRecDepth 100000
theorem pure19 : shArgs Try.prog 1048576 9 [38, 3, 3] fun xs => PureCall Try.prog 19 xs (.bool true) := by
  refine Eq.mpr (β := ∀ x0 : Int, (Lit.int .i64 x0).wf = true → ∀ x1 : Int, (Lit.int .i64 x1).wf = true → ∀ (m2 : Nat) (f2 : Nat → List AV), m2 ≤ 1048576 → (∀ i, m2 ≤ i → f2 i = [.int .i64 0, .int .i64 0, .bool false, .int .i64 0, .int .i64 0, .int .i64 0, .str ⟨#[]⟩, .str ⟨#[]⟩, .str ⟨#[]⟩, .int .i64 0]) → (∀ i, i < m2 → ∀ K : List AV → Prop, (∀ x0 : Int, (Lit.int .i64 x0).wf = true → ∀ x1 : Int, (Lit.int .i64 x1).wf = true → ∀ x2 : Bool, ∀ x3 : Int, (Lit.int .i64 x3).wf = true → ∀ x4 : Int, (Lit.int .i64 x4).wf = true → ∀ x5 : Int, (Lit.int .i64 x5).wf = true → ∀ x6 : ByteArray, x6.size ≤ 1048576 → ∀ x7 : ByteArray, x7.size ≤ 1048576 → ∀ x8 : ByteArray, x8.size ≤ 1048576 → ∀ x9 : Int, (Lit.int .i64 x9).wf = true → K [.int .i64 x0, .int .i64 x1, .bool x2, .int .i64 x3, .int .i64 x4, .int .i64 x5, .str x6, .str x7, .str x8, .int .i64 x9]) → K (f2 i)) → ∀ x3 : Int, (Lit.int .i64 x3).wf = true → ∀ x4 : Int, (Lit.int .i64 x4).wf = true → PureCall Try.prog 19 [.agg [.int .i64 x0, .int .i64 x1, .arr 10 m2 f2], .int .i64 x3, .int .i64 x4] (.bool true)) (by kernel_rfl) ?_
  intro x0 r0 x1 r1 m2 f2 hm2 hd2 he2 x3 r3 x4 r4
  have w0 := wf64 r0
  have w1 := wf64 r1
  have w3 := wf64 r3
  have w4 := wf64 r4
  have q2 : ∀ i, i < m2 → f2 i = e68 (d68 (f2 i)) := fun i hi => he2 i hi (fun l => l = e68 (d68 l)) (fun _ _ _ _ _ _ _ _ _ _ _ _ _ _ _ _ _ _ _ => rfl)
  have e2 : ∀ i, i < m2 → f2 i = e68 (d68 (f2 i)) := fun i hi => q2 i hi
  have c2 : Canon (toSl d68 (.arr 10 m2 f2)) := fun i hi => by
    show d68 (f2 i) = default
    rw [hd2 i hi]; rfl
  have h := (pc19 x0 x1 (toSl d68 (.arr 10 m2 f2)) x3 x4 (by omega) (by omega) (by omega) (by omega)).weak (l1 (aG (l1 cI (l1 cI (l1 (slLe rfl e2) l0)))) (l1 aI (l1 aI l0)))
  rw [law19 x0 x1 (toSl d68 (.arr 10 m2 f2)) x3 x4 (wf64 r0) (wf64 r1) c2 hm2 (wf64 r3) (wf64 r4)] at h
  exact h
theorem ledgerBehinds_lifted (os : Os) (started : os.Started) (H : Type) (enc : TypeId × Value → H) (F : Stop.Interp) :
    ReturnsInHanded {} Try.checked os 19 .any ((Rows.OpenSpec.upto Rows.ledgerBehindsSpec).pre6 enc Try.prog Try.f19 Rows.ledgerBehindsUptoRow.domain false) (((Rows.OpenSpec.upto Rows.ledgerBehindsSpec).at F).post enc Try.prog Try.f19 false true false false) := by
  refine returnsInHanded_of_cond (C := Try.checked) (s := Rows.OpenSpec.upto Rows.ledgerBehindsSpec) (k := Rows.uptoSmall) rfl Try.own started (by kernel_rfl) Try.func19
    (OpenSpec.witness (enc := enc) (C := Try.checked) (s := Rows.OpenSpec.upto Rows.ledgerBehindsSpec) (k := Rows.uptoSmall) rfl false ⟨#[], #[.agg #[.int .i64 0, .int .i64 0, .slice none 0 0], .int .i64 0, .int .i64 0], []⟩ 8 (by kernel_rfl) (by kernel_rfl) (by kernel_rfl)
      (x := ([.agg [.lit (.int .i64 0), .lit (.int .i64 0), .nil], .lit (.int .i64 0), .lit (.int .i64 0)], [], [])) (by kernel_rfl) rfl (by kernel_rfl)) ?_
  intro W base args ds gs before hval hW _ hk _
  exact law_contract (P := Try.prog) (fn := Try.f19) (s := Rows.ledgerBehindsSpec) (n := 9) (B := 1048576) (bulk := Rows.uptoBulk) (tb := 4) (ts := [38, 3, 3]) (by decide) (bulk_ok H) rfl jf2 (by kernel_rfl) (by kernel_rfl) rfl (by kernel_rfl) rfl (fun ds h => by
    match ds, h with
    | [d1, d2, d3], _ => rfl) pure19 W base args ds gs before hval hW (fun d hd => bulk_small hk d (by simp [hd]))
theorem joined19 : joinedFacts Try.prog 19 Try.f19 Rows.ledgerBehindsSpec Rows.ledgerBehindsUptoRow = true :=
  joined_of (by kernel_rfl) jf2 jf3 (by kernel_rfl) (by kernel_rfl) rfl jf7 rfl jf9 (by kernel_rfl) (by kernel_rfl) (by kernel_rfl) (by kernel_rfl) (by kernel_rfl) (by kernel_rfl) (by kernel_rfl) (by kernel_rfl) (by kernel_rfl)
    (by kernel_rfl) (by kernel_rfl) (by kernel_rfl) (by kernel_rfl) (by rw [jf23]; rfl) rfl jf25 jf26 (by rw [jf27]; rfl) (by rw [jf28]; rfl) (by kernel_rfl) (by kernel_rfl) (by kernel_rfl) (by kernel_rfl)
theorem ledgerBehinds_holds : Rows.LedgerBehindsUptoSaid :=
  OpenClaim.holds_of_cond 19 Try.f19 rfl rfl rfl rfl rfl rfl rfl ⟨rfl, rfl, rfl, rfl, rfl⟩ rfl rfl rfl rfl rfl (by kernel_rfl) Try.func19 joined19
    (of_decide_eq_true (by kernel_rfl)) (by unfold Func.isWrapper; first | (rw [if_pos (by decide +kernel)]; kernel_rfl) | (rw [if_neg (by decide +kernel)]; exact ⟨rfl, rfl⟩))
    (fun os started H enc _ F => ledgerBehinds_lifted os started H enc F)
end Go.Proofs.Ytchhfojblmceiaa
