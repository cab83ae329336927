/-
  rostrum/rostrumlaw.ValueDoes: answers as the document does, where all that comes in is of bulk at most 1048576. No condition but the bulk.
-/
import Derived.Test.YtchhfojblmceiaaRows
import Derived.Test.YtchhfojblmceiaaHead
import Derived.Test.YtchhfojblmceiaaWd
import Derived.Test.YtchhfojblmceiaaP31
import Derived.ProofKit
namespace Go.Proofs.Ytchhfojblmceiaa
open Go Go.Vc Go.RowKit Go.ChangeShapes Go.WideShapes Go.ChangeAt
set_option maxRecDepth 100000
theorem pure31 : shArgs Try.prog 1048576 9 [97, 60] fun xs => PureCall Try.prog 31 xs (.bool true) := by
  refine Eq.mpr (β := ∀ x0 : Int, (Lit.int .i64 x0).wf = true → ∀ x1 : ByteArray, x1.size ≤ 1048576 → ∀ x2 : Int, (Lit.int .i64 x2).wf = true → ∀ (m3 : Nat) (f3 : Nat → List AV), m3 ≤ 1048576 → (∀ i, m3 ≤ i → f3 i = [.str ⟨#[]⟩, .str ⟨#[]⟩]) → (∀ i, i < m3 → ∀ K : List AV → Prop, (∀ x0 : ByteArray, x0.size ≤ 1048576 → ∀ x1 : ByteArray, x1.size ≤ 1048576 → K [.str x0, .str x1]) → K (f3 i)) → ∀ (m4 : Nat) (f4 : Nat → List AV), m4 ≤ 1048576 → (∀ i, m4 ≤ i → f4 i = [.str ⟨#[]⟩]) → (∀ i, i < m4 → ∀ K : List AV → Prop, (∀ x0 : ByteArray, x0.size ≤ 1048576 → K [.str x0]) → K (f4 i)) → ∀ (m5 : Nat) (f5 : Nat → List AV), m5 ≤ 1048576 → (∀ i, m5 ≤ i → f5 i = [.str ⟨#[]⟩, .int .i64 0]) → (∀ i, i < m5 → ∀ K : List AV → Prop, (∀ x0 : ByteArray, x0.size ≤ 1048576 → ∀ x1 : Int, (Lit.int .i64 x1).wf = true → K [.str x0, .int .i64 x1]) → K (f5 i)) → ∀ x6 : Int, (Lit.int .i64 x6).wf = true → ∀ x7 : ByteArray, x7.size ≤ 1048576 → ∀ x8 : ByteArray, x8.size ≤ 1048576 → ∀ x9 : ByteArray, x9.size ≤ 1048576 → ∀ x10 : Int, (Lit.int .i64 x10).wf = true → PureCall Try.prog 31 [.agg [.int .i64 x0, .str x1, .int .i64 x2, .arr 2 m3 f3, .arr 1 m4 f4, .arr 2 m5 f5], .agg [.int .i64 x6, .str x7, .str x8, .str x9, .int .i64 x10]] (.bool true)) (by kernel_rfl) ?_
  intro x0 r0 x1 r1 x2 r2 m3 f3 hm3 hd3 he3 m4 f4 hm4 hd4 he4 m5 f5 hm5 hd5 he5 x6 r6 x7 r7 x8 r8 x9 r9 x10 r10
  have w0 := wf64 r0
  have w2 := wf64 r2
  have w6 := wf64 r6
  have w10 := wf64 r10
  have q3 : ∀ i, i < m3 → f3 i = e160 (d160 (f3 i)) := fun i hi => he3 i hi (fun l => l = e160 (d160 l)) (fun _ _ _ _ => rfl)
  have e3 : ∀ i, i < m3 → f3 i = e160 (d160 (f3 i)) := fun i hi => q3 i hi
  have c3 : Canon (toSl d160 (.arr 2 m3 f3)) := fun i hi => by
    show d160 (f3 i) = default
    rw [hd3 i hi]; rfl
  have q4 : ∀ i, i < m4 → f4 i = e9 (d9 (f4 i)) := fun i hi => he4 i hi (fun l => l = e9 (d9 l)) (fun _ _ => rfl)
  have e4 : ∀ i, i < m4 → f4 i = e9 (d9 (f4 i)) := fun i hi => q4 i hi
  have c4 : Canon (toSl d9 (.arr 1 m4 f4)) := fun i hi => by
    show d9 (f4 i) = default
    rw [hd4 i hi]; rfl
  have q5 : ∀ i, i < m5 → f5 i = e164 (d164 (f5 i)) := fun i hi => he5 i hi (fun l => l = e164 (d164 l)) (fun _ _ _ _ => rfl)
  have e5 : ∀ i, i < m5 → f5 i = e164 (d164 (f5 i)) := fun i hi => q5 i hi
  have c5 : Canon (toSl d164 (.arr 2 m5 f5)) := fun i hi => by
    show d164 (f5 i) = default
    rw [hd5 i hi]; rfl
  have h0 : PureCall Try.prog 31 [.agg [.int .i64 x0, .str x1, .int .i64 x2, ofSl 2 e160 (toSl d160 (.arr 2 m3 f3)), ofSl 1 e9 (toSl d9 (.arr 1 m4 f4)), ofSl 2 e164 (toSl d164 (.arr 2 m5 f5))], .agg [.int .i64 x6, .str x7, .str x8, .str x9, .int .i64 x10]] (.bool (g31 x0 x1 x2 (toSl d160 (.arr 2 m3 f3)) (toSl d9 (.arr 1 m4 f4)) (toSl d164 (.arr 2 m5 f5)) x6 x7 x8 x9 x10)) := PureCall.fine fun hf => pc31 x0 x1 (by omega) x2 (toSl d160 (.arr 2 m3 f3)) (by show _ ≤ _; simp only [toSl]; omega) hf.1.2.2.2.1 (toSl d9 (.arr 1 m4 f4)) (by show _ ≤ _; simp only [toSl]; omega) hf.1.2.2.2.2.1 (toSl d164 (.arr 2 m5 f5)) (by show _ ≤ _; simp only [toSl]; omega) hf.1.2.2.2.2.2.1 x6 x7 (by omega) x8 (by omega) x9 (by omega) x10 ⟨(by show _ ≤ _; simp only [toSl]; omega), (by show _ ≤ _; simp only [toSl]; omega), (by show _ ≤ _; simp only [toSl]; omega)⟩
  have h := h0.weak (l1 (aG (l1 cI (l1 cS (l1 cI (l1 (slLe rfl e3) (l1 (slLe rfl e4) (l1 (slLe rfl e5) l0))))))) (l1 (aG (l1 cI (l1 cS (l1 cS (l1 cS (l1 cI l0)))))) l0))
  rw [law31 x0 x1 x2 (toSl d160 (.arr 2 m3 f3)) (toSl d9 (.arr 1 m4 f4)) (toSl d164 (.arr 2 m5 f5)) x6 x7 x8 x9 x10 (wf64 r0) r1 (wf64 r2) c3 hm3 c4 hm4 c5 hm5 (wf64 r6) r7 r8 r9 (wf64 r10)] at h
  exact h
theorem valueDoes_lifted (os : Os) (started : os.Started) (H : Type) (enc : TypeId × Value → H) (F : Stop.Interp) :
    ReturnsInHanded {} Try.checked os 31 .any ((Rows.OpenSpec.upto Rows.valueDoesSpec).pre6 enc Try.prog Try.f31 Rows.valueDoesUptoRow.domain false) (((Rows.OpenSpec.upto Rows.valueDoesSpec).at F).post enc Try.prog Try.f31 false true false false) := by
  refine returnsInHanded_of_cond (C := Try.checked) (s := Rows.OpenSpec.upto Rows.valueDoesSpec) (k := Rows.uptoSmall) rfl Try.own started (by kernel_rfl) Try.func31
    (OpenSpec.witness (enc := enc) (C := Try.checked) (s := Rows.OpenSpec.upto Rows.valueDoesSpec) (k := Rows.uptoSmall) rfl false ⟨#[], #[.agg #[.int .i64 0, .string ⟨#[]⟩, .int .i64 0, .slice none 0 0, .slice none 0 0, .slice none 0 0], .agg #[.int .i64 0, .string ⟨#[]⟩, .string ⟨#[]⟩, .string ⟨#[]⟩, .int .i64 0]], []⟩ 8 (by kernel_rfl) (by kernel_rfl) (by kernel_rfl)
      (x := ([.agg [.lit (.int .i64 0), .lit (.string []), .lit (.int .i64 0), .nil, .nil, .nil], .agg [.lit (.int .i64 0), .lit (.string []), .lit (.string []), .lit (.string []), .lit (.int .i64 0)]], [], [])) (by kernel_rfl) rfl (by kernel_rfl)) ?_
  intro W base args ds gs before hval hW _ hk _
  exact law_contract (P := Try.prog) (fn := Try.f31) (s := Rows.valueDoesSpec) (n := 9) (B := 1048576) (bulk := Rows.uptoBulk) (tb := 4) (ts := [97, 60]) (by decide) (bulk_ok H) rfl jf2 (by kernel_rfl) (by kernel_rfl) rfl (by kernel_rfl) rfl (fun ds h => by
    match ds, h with
    | [d1, d2], _ => rfl) pure31 W base args ds gs before hval hW (fun d hd => bulk_small hk d (by simp [hd]))
theorem joined31 : joinedFacts Try.prog 31 Try.f31 Rows.valueDoesSpec Rows.valueDoesUptoRow = true :=
  joined_of (by kernel_rfl) jf2 jf3 (by kernel_rfl) (by kernel_rfl) rfl jf7 rfl jf9 (by kernel_rfl) (by kernel_rfl) (by kernel_rfl) (by kernel_rfl) (by kernel_rfl) (by kernel_rfl) (by kernel_rfl) (by kernel_rfl) (by kernel_rfl)
    (by kernel_rfl) (by kernel_rfl) (by kernel_rfl) (by kernel_rfl) (by rw [jf23]; rfl) rfl jf25 jf26 (by rw [jf27]; rfl) (by rw [jf28]; rfl) (by kernel_rfl) (by kernel_rfl) (by kernel_rfl) (by kernel_rfl)
theorem valueDoes_holds : Rows.ValueDoesUptoSaid :=
  OpenClaim.holds_of_cond 31 Try.f31 rfl rfl rfl rfl rfl rfl rfl ⟨rfl, rfl, rfl, rfl, rfl⟩ rfl rfl rfl rfl rfl (by kernel_rfl) Try.func31 joined31
    (of_decide_eq_true (by kernel_rfl)) (by unfold Func.isWrapper; first | (rw [if_pos (by decide +kernel)]; kernel_rfl) | (rw [if_neg (by decide +kernel)]; exact ⟨rfl, rfl⟩))
    (fun os started H enc _ F => valueDoes_lifted os started H enc F)
end Go.Proofs.Ytchhfojblmceiaa
