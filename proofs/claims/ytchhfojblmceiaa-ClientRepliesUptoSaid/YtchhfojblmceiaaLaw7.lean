/-
  rostrum/rostrumlaw.ClientReplies: answers as the document does, where all that comes in is of bulk at most 1048576. No condition but the bulk.
-/
import Derived.Test.YtchhfojblmceiaaRows
import Derived.Test.YtchhfojblmceiaaHead
import Derived.Test.YtchhfojblmceiaaP7
import Derived.ProofKit
namespace Go.Proofs.Ytchhfojblmceiaa
open Go Go.Vc Go.RowKit Go.ChangeShapes Go.WideShapes Go.ChangeAt
set_option maxRecDepth 100000
theorem pure7 : shArgs Try.prog 1048576 9 [53] fun xs => PureCall Try.prog 7 xs (.bool true) := by
  refine Eq.mpr (β := ∀ x0 : Int, (Lit.int .i64 x0).wf = true → ∀ x1 : ByteArray, x1.size ≤ 1048576 → ∀ x2 : Int, (Lit.int .i64 x2).wf = true → ∀ (m3 : Nat) (f3 : Nat → List AV), m3 ≤ 1048576 → (∀ i, i < m3 → ∀ K : List AV → Prop, (∀ x0 : ByteArray, x0.size ≤ 1048576 → K [.str x0]) → K (f3 i)) → PureCall Try.prog 7 [.agg [.int .i64 x0, .str x1, .int .i64 x2, .arr 1 m3 f3]] (.bool true)) (by kernel_rfl) ?_
  intro x0 r0 x1 r1 x2 r2 m3 f3 hm3 he3
  have w0 := wf64 r0
  have w2 := wf64 r2
  have e3 : ∀ i, i < m3 → f3 i = e9 (d9 (f3 i)) := fun i hi => he3 i hi (fun l => l = e9 (d9 l)) (fun _ _ => rfl)
  have h := (pc7 x0 x1 x2 (canonOf d9 m3 f3)).weak (l1 (aG (l1 cI (l1 cS (l1 cI (l1 (canonLe e3) l0))))) l0)
  rw [law7 x0 x1 x2 (canonOf d9 m3 f3) (wf64 r0) r1 (wf64 r2) (canonOf_ok d9 m3 f3) hm3] at h
  exact h
theorem clientReplies_lifted (os : Os) (started : os.Started) (H : Type) (enc : TypeId × Value → H) (F : Stop.Interp) :
    ReturnsInHanded {} Try.checked os 7 .any ((Rows.OpenSpec.upto Rows.clientRepliesSpec).pre6 enc Try.prog Try.f7 Rows.clientRepliesUptoRow.domain false) (((Rows.OpenSpec.upto Rows.clientRepliesSpec).at F).post enc Try.prog Try.f7 false true false false) := by
  refine returnsInHanded_of_cond (C := Try.checked) (s := Rows.OpenSpec.upto Rows.clientRepliesSpec) (k := Rows.uptoSmall) rfl Try.own started (by kernel_rfl) Try.func7
    (OpenSpec.witness (enc := enc) (C := Try.checked) (s := Rows.OpenSpec.upto Rows.clientRepliesSpec) (k := Rows.uptoSmall) rfl false ⟨#[], #[.agg #[.int .i64 0, .string ⟨#[]⟩, .int .i64 0, .slice none 0 0]], []⟩ 8 (by kernel_rfl) (by kernel_rfl) (by kernel_rfl)
      (x := ([.agg [.lit (.int .i64 0), .lit (.string []), .lit (.int .i64 0), .nil]], [], [])) (by kernel_rfl) rfl (by kernel_rfl)) ?_
  intro W base args ds gs before hval hW _ hk _
  exact law_contract (P := Try.prog) (fn := Try.f7) (s := Rows.clientRepliesSpec) (n := 9) (B := 1048576) (bulk := Rows.uptoBulk) (tb := 4) (ts := [53]) (by decide) (bulk_ok H) rfl jf2 (by kernel_rfl) (by kernel_rfl) rfl (by kernel_rfl) rfl (fun ds h => by
    match ds, h with
    | [d], _ => rfl) pure7 W base args ds gs before hval hW (fun d hd => bulk_small hk d (by simp [hd]))
theorem joined7 : joinedFacts Try.prog 7 Try.f7 Rows.clientRepliesSpec Rows.clientRepliesUptoRow = true :=
  joined_of (by kernel_rfl) jf2 jf3 (by kernel_rfl) (by kernel_rfl) rfl jf7 rfl jf9 (by kernel_rfl) (by kernel_rfl) (by kernel_rfl) (by kernel_rfl) (by kernel_rfl) (by kernel_rfl) (by kernel_rfl) (by kernel_rfl) (by kernel_rfl)
    (by kernel_rfl) (by kernel_rfl) (by kernel_rfl) (by kernel_rfl) (by rw [jf23]; rfl) rfl jf25 jf26 (by rw [jf27]; rfl) (by rw [jf28]; rfl) (by kernel_rfl) (by kernel_rfl) (by kernel_rfl) (by kernel_rfl)
theorem clientReplies_holds : Rows.ClientRepliesUptoSaid :=
  OpenClaim.holds_of_cond 7 Try.f7 rfl rfl rfl rfl rfl rfl rfl ⟨rfl, rfl, rfl, rfl, rfl⟩ rfl rfl rfl rfl rfl (by kernel_rfl) Try.func7 joined7
    (of_decide_eq_true (by kernel_rfl)) (by unfold Func.isWrapper; first | (rw [if_pos (by decide +kernel)]; kernel_rfl) | (rw [if_neg (by decide +kernel)]; exact ⟨rfl, rfl⟩))
    (fun os started H enc _ F => clientReplies_lifted os started H enc F)
end Go.Proofs.Ytchhfojblmceiaa
