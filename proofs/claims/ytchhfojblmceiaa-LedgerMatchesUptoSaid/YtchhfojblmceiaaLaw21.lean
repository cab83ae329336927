/-
  rostrum/rostrumlaw.LedgerMatches: answers as the document does, where all that comes in is of bulk at most 1048576. No condition but the bulk.
-/
import Derived.Test.YtchhfojblmceiaaRows
import Derived.Test.YtchhfojblmceiaaHead
import Derived.Test.YtchhfojblmceiaaWd
import Derived.Test.YtchhfojblmceiaaP21
import Derived.ProofKit
namespace Go.Proofs.Ytchhfojblmceiaa
open Go Go.Vc Go.RowKit Go.ChangeShapes Go.WideShapes Go.ChangeAt
set_option maxRecDepth 100000
theorem pure21 : shArgs Try.prog 1048576 9 [38, 3, 3, 36] fun xs => PureCall Try.prog 21 xs (.bool true) := by
  refine Eq.mpr (β := ∀ x0 : Int, (Lit.int .i64 x0).wf = true → ∀ x1 : Int, (Lit.int .i64 x1).wf = true → ∀ (m2 : Nat) (f2 : Nat → List AV), m2 ≤ 1048576 → (∀ i, m2 ≤ i → f2 i = [.int .i64 0, .int .i64 0, .bool false, .int .i64 0, .int .i64 0, .int .i64 0, .str ⟨#[]⟩, .str ⟨#[]⟩, .str ⟨#[]⟩, .int .i64 0]) → (∀ i, i < m2 → ∀ K : List AV → Prop, (∀ x0 : Int, (Lit.int .i64 x0).wf = true → ∀ x1 : Int, (Lit.int .i64 x1).wf = true → ∀ x2 : Bool, ∀ x3 : Int, (Lit.int .i64 x3).wf = true → ∀ x4 : Int, (Lit.int .i64 x4).wf = true → ∀ x5 : Int, (Lit.int .i64 x5).wf = true → ∀ x6 : ByteArray, x6.size ≤ 1048576 → ∀ x7 : ByteArray, x7.size ≤ 1048576 → ∀ x8 : ByteArray, x8.size ≤ 1048576 → ∀ x9 : Int, (Lit.int .i64 x9).wf = true → K [.int .i64 x0, .int .i64 x1, .bool x2, .int .i64 x3, .int .i64 x4, .int .i64 x5, .str x6, .str x7, .str x8, .int .i64 x9]) → K (f2 i)) → ∀ x3 : Int, (Lit.int .i64 x3).wf = true → ∀ x4 : Int, (Lit.int .i64 x4).wf = true → ∀ (m5 : Nat) (f5 : Nat → List AV), m5 ≤ 1048576 → (∀ i, m5 ≤ i → f5 i = [.int .i64 0, .int .i64 0, .bool false, .int .i64 0, .int .i64 0, .int .i64 0, .str ⟨#[]⟩, .str ⟨#[]⟩, .str ⟨#[]⟩, .int .i64 0]) → (∀ i, i < m5 → ∀ K : List AV → Prop, (∀ x0 : Int, (Lit.int .i64 x0).wf = true → ∀ x1 : Int, (Lit.int .i64 x1).wf = true → ∀ x2 : Bool, ∀ x3 : Int, (Lit.int .i64 x3).wf = true → ∀ x4 : Int, (Lit.int .i64 x4).wf = true → ∀ x5 : Int, (Lit.int .i64 x5).wf = true → ∀ x6 : ByteArray, x6.size ≤ 1048576 → ∀ x7 : ByteArray, x7.size ≤ 1048576 → ∀ x8 : ByteArray, x8.size ≤ 1048576 → ∀ x9 : Int, (Lit.int .i64 x9).wf = true → K [.int .i64 x0, .int .i64 x1, .bool x2, .int .i64 x3, .int .i64 x4, .int .i64 x5, .str x6, .str x7, .str x8, .int .i64 x9]) → K (f5 i)) → PureCall Try.prog 21 [.agg [.int .i64 x0, .int .i64 x1, .arr 10 m2 f2], .int .i64 x3, .int .i64 x4, .arr 10 m5 f5] (.bool true)) (by kernel_rfl) ?_
  intro x0 r0 x1 r1 m2 f2 hm2 hd2 he2 x3 r3 x4 r4 m5 f5 hm5 hd5 he5
  have w0 := wf64 r0
  have w1 := wf64 r1
  have w3 := wf64 r3
  have w4 := wf64 r4
  have q2 : ∀ i, i < m2 → f2 i = e68 (d68 (f2 i)) := fun i hi => he2 i hi (fun l => l = e68 (d68 l)) (fun _ _ _ _ _ _ _ _ _ _ _ _ _ _ _ _ _ _ _ => rfl)
  have e2 : ∀ i, i < m2 → f2 i = e68 (d68 (f2 i)) := fun i hi => q2 i hi
  have c2 : Canon (toSl d68 (.arr 10 m2 f2)) := fun i hi => by
    show d68 (f2 i) = default
    rw [hd2 i hi]; rfl
  have q5 : ∀ i, i < m5 → f5 i = e68 (d68 (f5 i)) := fun i hi => he5 i hi (fun l => l = e68 (d68 l)) (fun _ _ _ _ _ _ _ _ _ _ _ _ _ _ _ _ _ _ _ => rfl)
  have e5 : ∀ i, i < m5 → f5 i = e68 (d68 (f5 i)) := fun i hi => q5 i hi
  have c5 : Canon (toSl d68 (.arr 10 m5 f5)) := fun i hi => by
    show d68 (f5 i) = default
    rw [hd5 i hi]; rfl
  have h0 : PureCall Try.prog 21 [.agg [.int .i64 x0, .int .i64 x1, ofSl 10 e68 (toSl d68 (.arr 10 m2 f2))], .int .i64 x3, .int .i64 x4, ofSl 10 e68 (toSl d68 (.arr 10 m5 f5))] (.bool (g21 x0 x1 (toSl d68 (.arr 10 m2 f2)) x3 x4 (toSl d68 (.arr 10 m5 f5)))) := PureCall.fine fun hf => pc21 x0 x1 (toSl d68 (.arr 10 m2 f2)) (by show _ ≤ _; simp only [toSl]; omega) hf.1.2.2.1 x3 x4 (toSl d68 (.arr 10 m5 f5)) (by show _ ≤ _; simp only [toSl]; omega) hf.2.2.2.1
  have h := h0.weak (l1 (aG (l1 cI (l1 cI (l1 (slLe rfl e2) l0)))) (l1 aI (l1 aI (l1 (slLeA rfl e5) l0))))
  rw [law21 x0 x1 (toSl d68 (.arr 10 m2 f2)) x3 x4 (toSl d68 (.arr 10 m5 f5)) (wf64 r0) (wf64 r1) c2 hm2 (wf64 r3) (wf64 r4) c5 hm5] at h
  exact h
theorem ledgerMatches_lifted (os : Os) (started : os.Started) (H : Type) (enc : TypeId × Value → H) (F : Stop.Interp) :
    ReturnsInHanded {} Try.checked os 21 .any ((Rows.OpenSpec.upto Rows.ledgerMatchesSpec).pre6 enc Try.prog Try.f21 Rows.ledgerMatchesUptoRow.domain false) (((Rows.OpenSpec.upto Rows.ledgerMatchesSpec).at F).post enc Try.prog Try.f21 false true false false) := by
  refine returnsInHanded_of_cond (C := Try.checked) (s := Rows.OpenSpec.upto Rows.ledgerMatchesSpec) (k := Rows.uptoSmall) rfl Try.own started (by kernel_rfl) Try.func21
    (OpenSpec.witness (enc := enc) (C := Try.checked) (s := Rows.OpenSpec.upto Rows.ledgerMatchesSpec) (k := Rows.uptoSmall) rfl false ⟨#[], #[.agg #[.int .i64 0, .int .i64 0, .slice none 0 0], .int .i64 0, .int .i64 0, .slice none 0 0], []⟩ 8 (by kernel_rfl) (by kernel_rfl) (by kernel_rfl)
      (x := ([.agg [.lit (.int .i64 0), .lit (.int .i64 0), .nil], .lit (.int .i64 0), .lit (.int .i64 0), .nil], [], [])) (by kernel_rfl) rfl (by kernel_rfl)) ?_
  intro W base args ds gs before hval hW _ hk _
  exact law_contract (P := Try.prog) (fn := Try.f21) (s := Rows.ledgerMatchesSpec) (n := 9) (B := 1048576) (bulk := Rows.uptoBulk) (tb := 4) (ts := [38, 3, 3, 36]) (by decide) (bulk_ok H) rfl jf2 (by kernel_rfl) (by kernel_rfl) rfl (by kernel_rfl) rfl (fun ds h => by
    match ds, h with
    | [d1, d2, d3, d4], _ => rfl) pure21 W base args ds gs before hval hW (fun d hd => bulk_small hk d (by simp [hd]))
theorem joined21 : joinedFacts Try.prog 21 Try.f21 Rows.ledgerMatchesSpec Rows.ledgerMatchesUptoRow = true :=
  joined_of (by kernel_rfl) jf2 jf3 (by kernel_rfl) (by kernel_rfl) rfl jf7 rfl jf9 (by kernel_rfl) (by kernel_rfl) (by kernel_rfl) (by kernel_rfl) (by kernel_rfl) (by kernel_rfl) (by kernel_rfl) (by kernel_rfl) (by kernel_rfl)
    (by kernel_rfl) (by kernel_rfl) (by kernel_rfl) (by kernel_rfl) (by rw [jf23]; rfl) rfl jf25 jf26 (by rw [jf27]; rfl) (by rw [jf28]; rfl) (by kernel_rfl) (by kernel_rfl) (by kernel_rfl) (by kernel_rfl)
theorem ledgerMatches_holds : Rows.LedgerMatchesUptoSaid :=
  OpenClaim.holds_of_cond 21 Try.f21 rfl rfl rfl rfl rfl rfl rfl ⟨rfl, rfl, rfl, rfl, rfl⟩ rfl rfl rfl rfl rfl (by kernel_rfl) Try.func21 joined21
    (of_decide_eq_true (by kernel_rfl)) (by unfold Func.isWrapper; first | (rw [if_pos (by decide +kernel)]; kernel_rfl) | (rw [if_neg (by decide +kernel)]; exact ⟨rfl, rfl⟩))
    (fun os started H enc _ F => ledgerMatches_lifted os started H enc F)
end Go.Proofs.Ytchhfojblmceiaa
