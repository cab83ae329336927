/-
  rostrum/rostrumlaw.TapeSyncs: answers as the document does, where all that comes in is of bulk at most 1048576. No condition but the bulk.
-/
import Derived.Test.YtchhfojblmceiaaRows
import Derived.Test.YtchhfojblmceiaaHead
import Derived.Test.YtchhfojblmceiaaP6
import Derived.ProofKit
namespace Go.Proofs.Ytchhfojblmceiaa
open Go Go.Vc Go.RowKit Go.ChangeShapes Go.WideShapes Go.ChangeAt
set_option maxRecDepth 100000
theorem pure6 : shArgs Try.prog 1048576 9 [45] fun xs => PureCall Try.prog 6 xs (.bool true) := by
  refine Eq.mpr (β := ∀ (m0 : Nat) (f0 : Nat → List AV), m0 ≤ 1048576 → (∀ i, i < m0 → ∀ K : List AV → Prop, (∀ x0 : Int, (Lit.int .u8 x0).wf = true → K [.int .u8 x0]) → K (f0 i)) → ∀ x1 : Int, (Lit.int .i64 x1).wf = true → PureCall Try.prog 6 [.agg [.arr 1 m0 f0, .int .i64 x1]] (.bool true)) (by kernel_rfl) ?_
  intro m0 f0 hm0 he0 x1 r1
  have w1 := wf64 r1
  have e0 : ∀ i, i < m0 → f0 i = e5 (d5 (f0 i)) := fun i hi => he0 i hi (fun l => l = e5 (d5 l)) (fun _ _ => rfl)
  have h := (pc6 (canonOf d5 m0 f0) x1).weak (l1 (aG (l1 (canonLe e0) (l1 cI l0))) l0)
  rw [law6 (canonOf d5 m0 f0) x1 (canonOf_ok d5 m0 f0) hm0 (wf64 r1)] at h
  exact h
theorem tapeSyncs_lifted (os : Os) (started : os.Started) (H : Type) (enc : TypeId × Value → H) (F : Stop.Interp) :
    ReturnsInHanded {} Try.checked os 6 .any ((Rows.OpenSpec.upto Rows.tapeSyncsSpec).pre6 enc Try.prog Try.f6 Rows.tapeSyncsUptoRow.domain false) (((Rows.OpenSpec.upto Rows.tapeSyncsSpec).at F).post enc Try.prog Try.f6 false true false false) := by
  refine returnsInHanded_of_cond (C := Try.checked) (s := Rows.OpenSpec.upto Rows.tapeSyncsSpec) (k := Rows.uptoSmall) rfl Try.own started (by kernel_rfl) Try.func6
    (OpenSpec.witness (enc := enc) (C := Try.checked) (s := Rows.OpenSpec.upto Rows.tapeSyncsSpec) (k := Rows.uptoSmall) rfl false ⟨#[], #[.agg #[.slice none 0 0, .int .i64 0]], []⟩ 8 (by kernel_rfl) (by kernel_rfl) (by kernel_rfl)
      (x := ([.agg [.nil, .lit (.int .i64 0)]], [], [])) (by kernel_rfl) rfl (by kernel_rfl)) ?_
  intro W base args ds gs before hval hW _ hk _
  exact law_contract (P := Try.prog) (fn := Try.f6) (s := Rows.tapeSyncsSpec) (n := 9) (B := 1048576) (bulk := Rows.uptoBulk) (tb := 4) (ts := [45]) (by decide) (bulk_ok H) rfl jf2 (by kernel_rfl) (by kernel_rfl) rfl (by kernel_rfl) rfl (fun ds h => by
    match ds, h with
    | [d], _ => rfl) pure6 W base args ds gs before hval hW (fun d hd => bulk_small hk d (by simp [hd]))
theorem joined6 : joinedFacts Try.prog 6 Try.f6 Rows.tapeSyncsSpec Rows.tapeSyncsUptoRow = true :=
  joined_of (by kernel_rfl) jf2 jf3 (by kernel_rfl) (by kernel_rfl) rfl jf7 rfl jf9 (by kernel_rfl) (by kernel_rfl) (by kernel_rfl) (by kernel_rfl) (by kernel_rfl) (by kernel_rfl) (by kernel_rfl) (by kernel_rfl) (by kernel_rfl)
    (by kernel_rfl) (by kernel_rfl) (by kernel_rfl) (by kernel_rfl) (by rw [jf23]; rfl) rfl jf25 jf26 (by rw [jf27]; rfl) (by rw [jf28]; rfl) (by kernel_rfl) (by kernel_rfl) (by kernel_rfl) (by kernel_rfl)
theorem tapeSyncs_holds : Rows.TapeSyncsUptoSaid :=
  OpenClaim.holds_of_cond 6 Try.f6 rfl rfl rfl rfl rfl rfl rfl ⟨rfl, rfl, rfl, rfl, rfl⟩ rfl rfl rfl rfl rfl (by kernel_rfl) Try.func6 joined6
    (of_decide_eq_true (by kernel_rfl)) (by unfold Func.isWrapper; first | (rw [if_pos (by decide +kernel)]; kernel_rfl) | (rw [if_neg (by decide +kernel)]; exact ⟨rfl, rfl⟩))
    (fun os started H enc _ F => tapeSyncs_lifted os started H enc F)
end Go.Proofs.Ytchhfojblmceiaa
