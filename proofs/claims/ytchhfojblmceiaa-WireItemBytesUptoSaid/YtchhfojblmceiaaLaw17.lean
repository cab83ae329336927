/-
  rostrum/rostrumlaw.WireItemBytes: answers as the document does, where all that comes in is of bulk at most 1048576. No condition but the bulk.
-/
import Derived.Test.YtchhfojblmceiaaRows
import Derived.Test.YtchhfojblmceiaaHead
import Derived.Test.YtchhfojblmceiaaWd
import Derived.Test.YtchhfojblmceiaaP17
import Derived.ProofKit
namespace Go.Proofs.Ytchhfojblmceiaa
open Go Go.Vc Go.RowKit Go.ChangeShapes Go.WideShapes Go.ChangeAt
set_option maxRecDepth 100000
theorem pure17 : shArgs Try.prog 1048576 9 [68] fun xs => PureCall Try.prog 17 xs (.bool true) := by
  refine Eq.mpr (β := ∀ x0 : Int, (Lit.int .i64 x0).wf = true → ∀ x1 : Int, (Lit.int .i64 x1).wf = true → ∀ x2 : Bool, ∀ x3 : Int, (Lit.int .i64 x3).wf = true → ∀ x4 : Int, (Lit.int .i64 x4).wf = true → ∀ x5 : Int, (Lit.int .i64 x5).wf = true → ∀ x6 : ByteArray, x6.size ≤ 1048576 → ∀ x7 : ByteArray, x7.size ≤ 1048576 → ∀ x8 : ByteArray, x8.size ≤ 1048576 → ∀ x9 : Int, (Lit.int .i64 x9).wf = true → PureCall Try.prog 17 [.agg [.int .i64 x0, .int .i64 x1, .bool x2, .int .i64 x3, .int .i64 x4, .int .i64 x5, .str x6, .str x7, .str x8, .int .i64 x9]] (.bool true)) (by kernel_rfl) ?_
  intro x0 r0 x1 r1 x2 x3 r3 x4 r4 x5 r5 x6 r6 x7 r7 x8 r8 x9 r9
  have w0 := wf64 r0
  have w1 := wf64 r1
  have w3 := wf64 r3
  have w4 := wf64 r4
  have w5 := wf64 r5
  have w9 := wf64 r9
  have h0 : PureCall Try.prog 17 [.agg [.int .i64 x0, .int .i64 x1, .bool x2, .int .i64 x3, .int .i64 x4, .int .i64 x5, .str x6, .str x7, .str x8, .int .i64 x9]] (.bool (g17 x0 x1 x2 x3 x4 x5 x6 x7 x8 x9)) := PureCall.fine fun hf => pc17 x0 x1 x2 x3 x4 x5 x6 (by omega) x7 (by omega) x8 (by omega) x9 (by omega)
  have h := h0.weak (l1 (aG (l1 cI (l1 cI (l1 cB (l1 cI (l1 cI (l1 cI (l1 cS (l1 cS (l1 cS (l1 cI l0))))))))))) l0)
  rw [law17 x0 x1 x2 x3 x4 x5 x6 x7 x8 x9 (wf64 r0) (wf64 r1) (wf64 r3) (wf64 r4) (wf64 r5) r6 r7 r8 (wf64 r9)] at h
  exact h
theorem wireItemBytes_lifted (os : Os) (started : os.Started) (H : Type) (enc : TypeId × Value → H) (F : Stop.Interp) :
    ReturnsInHanded {} Try.checked os 17 .any ((Rows.OpenSpec.upto Rows.wireItemBytesSpec).pre6 enc Try.prog Try.f17 Rows.wireItemBytesUptoRow.domain false) (((Rows.OpenSpec.upto Rows.wireItemBytesSpec).at F).post enc Try.prog Try.f17 false true false false) := by
  refine returnsInHanded_of_cond (C := Try.checked) (s := Rows.OpenSpec.upto Rows.wireItemBytesSpec) (k := Rows.uptoSmall) rfl Try.own started (by kernel_rfl) Try.func17
    (OpenSpec.witness (enc := enc) (C := Try.checked) (s := Rows.OpenSpec.upto Rows.wireItemBytesSpec) (k := Rows.uptoSmall) rfl false ⟨#[], #[.agg #[.int .i64 0, .int .i64 0, .bool false, .int .i64 0, .int .i64 0, .int .i64 0, .string ⟨#[]⟩, .string ⟨#[]⟩, .string ⟨#[]⟩, .int .i64 0]], []⟩ 8 (by kernel_rfl) (by kernel_rfl) (by kernel_rfl)
      (x := ([.agg [.lit (.int .i64 0), .lit (.int .i64 0), .lit (.bool false), .agg [.lit (.int .i64 0), .lit (.int .i64 0), .agg [.lit (.int .i64 0), .lit (.string []), .lit (.string []), .lit (.string []), .lit (.int .i64 0)]]]], [], [])) (by kernel_rfl) rfl (by kernel_rfl)) ?_
  intro W base args ds gs before hval hW _ hk _
  exact law_contract (P := Try.prog) (fn := Try.f17) (s := Rows.wireItemBytesSpec) (n := 9) (B := 1048576) (bulk := Rows.uptoBulk) (tb := 4) (ts := [68]) (by decide) (bulk_ok H) rfl jf2 (by kernel_rfl) (by kernel_rfl) rfl (by kernel_rfl) rfl (fun ds h => by
    match ds, h with
    | [d], _ => rfl) pure17 W base args ds gs before hval hW (fun d hd => bulk_small hk d (by simp [hd]))
theorem joined17 : joinedFacts Try.prog 17 Try.f17 Rows.wireItemBytesSpec Rows.wireItemBytesUptoRow = true :=
  joined_of (by kernel_rfl) jf2 jf3 (by kernel_rfl) (by kernel_rfl) rfl jf7 rfl jf9 (by kernel_rfl) (by kernel_rfl) (by kernel_rfl) (by kernel_rfl) (by kernel_rfl) (by kernel_rfl) (by kernel_rfl) (by kernel_rfl) (by kernel_rfl)
    (by kernel_rfl) (by kernel_rfl) (by kernel_rfl) (by kernel_rfl) (by rw [jf23]; rfl) rfl jf25 jf26 (by rw [jf27]; rfl) (by rw [jf28]; rfl) (by kernel_rfl) (by kernel_rfl) (by kernel_rfl) (by kernel_rfl)
theorem wireItemBytes_holds : Rows.WireItemBytesUptoSaid :=
  OpenClaim.holds_of_cond 17 Try.f17 rfl rfl rfl rfl rfl rfl rfl ⟨rfl, rfl, rfl, rfl, rfl⟩ rfl rfl rfl rfl rfl (by kernel_rfl) Try.func17 joined17
    (of_decide_eq_true (by kernel_rfl)) (by unfold Func.isWrapper; first | (rw [if_pos (by decide +kernel)]; kernel_rfl) | (rw [if_neg (by decide +kernel)]; exact ⟨rfl, rfl⟩))
    (fun os started H enc _ F => wireItemBytes_lifted os started H enc F)
end Go.Proofs.Ytchhfojblmceiaa
