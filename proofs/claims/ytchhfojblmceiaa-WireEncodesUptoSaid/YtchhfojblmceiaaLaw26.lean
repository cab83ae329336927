/-
  rostrum/rostrumlaw.WireEncodes: answers as the document does, where all that comes in is of bulk at most 1048576. No condition but the bulk.
-/
import Derived.Test.YtchhfojblmceiaaRows
import Derived.Test.YtchhfojblmceiaaHead
import Derived.Test.YtchhfojblmceiaaWd
import Derived.Test.YtchhfojblmceiaaP26
import Derived.ProofKit
namespace Go.Proofs.Ytchhfojblmceiaa
open Go Go.Vc Go.RowKit Go.ChangeShapes Go.WideShapes Go.ChangeAt
set_option maxRecDepth 100000
theorem pure26 : shArgs Try.prog 1048576 9 [31] fun xs => PureCall Try.prog 26 xs (.bool true) := by
  refine Eq.mpr (β := ∀ x0 : Int, (Lit.int .i64 x0).wf = true → ∀ (m1 : Nat) (f1 : Nat → List AV), m1 ≤ 1048576 → (∀ i, m1 ≤ i → f1 i = [.str ⟨#[]⟩, .int .i64 0, .str ⟨#[]⟩, .int .i64 0, .arr 2 0 fun _ => [.str ⟨#[]⟩, .str ⟨#[]⟩], .arr 1 0 fun _ => [.str ⟨#[]⟩], .arr 2 0 fun _ => [.str ⟨#[]⟩, .int .i64 0], .int .i64 0]) → (∀ i, i < m1 → ∀ K : List AV → Prop, (∀ x0 : ByteArray, x0.size ≤ 1048576 → ∀ x1 : Int, (Lit.int .i64 x1).wf = true → ∀ x2 : ByteArray, x2.size ≤ 1048576 → ∀ x3 : Int, (Lit.int .i64 x3).wf = true → ∀ (m4 : Nat) (f4 : Nat → List AV), m4 ≤ 1048576 → (∀ i, m4 ≤ i → f4 i = [.str ⟨#[]⟩, .str ⟨#[]⟩]) → (∀ i, i < m4 → ∀ K : List AV → Prop, (∀ x0 : ByteArray, x0.size ≤ 1048576 → ∀ x1 : ByteArray, x1.size ≤ 1048576 → K [.str x0, .str x1]) → K (f4 i)) → ∀ (m5 : Nat) (f5 : Nat → List AV), m5 ≤ 1048576 → (∀ i, m5 ≤ i → f5 i = [.str ⟨#[]⟩]) → (∀ i, i < m5 → ∀ K : List AV → Prop, (∀ x0 : ByteArray, x0.size ≤ 1048576 → K [.str x0]) → K (f5 i)) → ∀ (m6 : Nat) (f6 : Nat → List AV), m6 ≤ 1048576 → (∀ i, m6 ≤ i → f6 i = [.str ⟨#[]⟩, .int .i64 0]) → (∀ i, i < m6 → ∀ K : List AV → Prop, (∀ x0 : ByteArray, x0.size ≤ 1048576 → ∀ x1 : Int, (Lit.int .i64 x1).wf = true → K [.str x0, .int .i64 x1]) → K (f6 i)) → ∀ x7 : Int, (Lit.int .i64 x7).wf = true → K [.str x0, .int .i64 x1, .str x2, .int .i64 x3, .arr 2 m4 f4, .arr 1 m5 f5, .arr 2 m6 f6, .int .i64 x7]) → K (f1 i)) → ∀ x2 : Int, (Lit.int .i64 x2).wf = true → ∀ (m3 : Nat) (f3 : Nat → List AV), m3 ≤ 1048576 → (∀ i, m3 ≤ i → f3 i = [.int .i64 0, .int .i64 0, .int .i64 0, .int .i64 0, .str ⟨#[]⟩, .int .i64 0, .arr 1 0 fun _ => [.str ⟨#[]⟩]]) → (∀ i, i < m3 → ∀ K : List AV → Prop, (∀ x0 : Int, (Lit.int .i64 x0).wf = true → ∀ x1 : Int, (Lit.int .i64 x1).wf = true → ∀ x2 : Int, (Lit.int .i64 x2).wf = true → ∀ x3 : Int, (Lit.int .i64 x3).wf = true → ∀ x4 : ByteArray, x4.size ≤ 1048576 → ∀ x5 : Int, (Lit.int .i64 x5).wf = true → ∀ (m6 : Nat) (f6 : Nat → List AV), m6 ≤ 1048576 → (∀ i, m6 ≤ i → f6 i = [.str ⟨#[]⟩]) → (∀ i, i < m6 → ∀ K : List AV → Prop, (∀ x0 : ByteArray, x0.size ≤ 1048576 → K [.str x0]) → K (f6 i)) → K [.int .i64 x0, .int .i64 x1, .int .i64 x2, .int .i64 x3, .str x4, .int .i64 x5, .arr 1 m6 f6]) → K (f3 i)) → PureCall Try.prog 26 [.agg [.int .i64 x0, .arr 8 m1 f1, .int .i64 x2, .arr 7 m3 f3]] (.bool true)) (by kernel_rfl) ?_
  intro x0 r0 m1 f1 hm1 hd1 he1 x2 r2 m3 f3 hm3 hd3 he3
  have w0 := wf64 r0
  have w2 := wf64 r2
  have q1 : ∀ i, i < m1 → f1 i = e175 (d175 (f1 i)) ∧ W175 (d175 (f1 i)) := fun i hi => he1 i hi (fun l => l = e175 (d175 l) ∧ W175 (d175 l)) (fun _ _ _ _ _ _ _ _ m_1 f_1 h_1 d_1 e_1 m_2 f_2 h_2 d_2 e_2 m_3 f_3 h_3 d_3 e_3 _ _ => ⟨(Go.Vc.c2 rfl (Go.Vc.c2 rfl (Go.Vc.c2 rfl (Go.Vc.c2 rfl (Go.Vc.c2 (nest (e := e160) (d := d160) (fun i hi => by rw [d_1 i hi]; rfl) (fun i hi => e_1 i hi (fun l => l = e160 (d160 l)) (fun _ _ _ _ => rfl))) (Go.Vc.c2 (nest (e := e9) (d := d9) (fun i hi => by rw [d_2 i hi]; rfl) (fun i hi => e_2 i hi (fun l => l = e9 (d9 l)) (fun _ _ => rfl))) (Go.Vc.c2 (nest (e := e164) (d := d164) (fun i hi => by rw [d_3 i hi]; rfl) (fun i hi => e_3 i hi (fun l => l = e164 (d164 l)) (fun _ _ _ _ => rfl))) (Go.Vc.c2 rfl rfl)))))))), ⟨⟨(fun i hi => by show d160 (f_1 i) = default; rw [d_1 i hi]; rfl), h_1⟩, ⟨(fun i hi => by show d9 (f_2 i) = default; rw [d_2 i hi]; rfl), h_2⟩, ⟨(fun i hi => by show d164 (f_3 i) = default; rw [d_3 i hi]; rfl), h_3⟩⟩⟩)
  have e1 : ∀ i, i < m1 → f1 i = e175 (d175 (f1 i)) := fun i hi => (q1 i hi).1
  have c1 : Canon (toSl d175 (.arr 8 m1 f1)) := fun i hi => by
    show d175 (f1 i) = default
    rw [hd1 i hi]; rfl
  have q3 : ∀ i, i < m3 → f3 i = e137 (d137 (f3 i)) ∧ W137 (d137 (f3 i)) := fun i hi => he3 i hi (fun l => l = e137 (d137 l) ∧ W137 (d137 l)) (fun _ _ _ _ _ _ _ _ _ _ _ _ m_4 f_4 h_4 d_4 e_4 => ⟨(Go.Vc.c2 rfl (Go.Vc.c2 rfl (Go.Vc.c2 rfl (Go.Vc.c2 rfl (Go.Vc.c2 rfl (Go.Vc.c2 rfl (Go.Vc.c2 (nest (e := e9) (d := d9) (fun i hi => by rw [d_4 i hi]; rfl) (fun i hi => e_4 i hi (fun l => l = e9 (d9 l)) (fun _ _ => rfl))) rfl))))))), ⟨(fun i hi => by show d9 (f_4 i) = default; rw [d_4 i hi]; rfl), h_4⟩⟩)
  have e3 : ∀ i, i < m3 → f3 i = e137 (d137 (f3 i)) := fun i hi => (q3 i hi).1
  have c3 : Canon (toSl d137 (.arr 7 m3 f3)) := fun i hi => by
    show d137 (f3 i) = default
    rw [hd3 i hi]; rfl
  have h0 : PureCall Try.prog 26 [.agg [.int .i64 x0, ofSl 8 e175 (toSl d175 (.arr 8 m1 f1)), .int .i64 x2, ofSl 7 e137 (toSl d137 (.arr 7 m3 f3))]] (.bool (g26 x0 (toSl d175 (.arr 8 m1 f1)) x2 (toSl d137 (.arr 7 m3 f3)))) := PureCall.fine fun hf => pc26 x0 (toSl d175 (.arr 8 m1 f1)) (by show _ ≤ _; simp only [toSl]; omega) hf.1.2.1 x2 (toSl d137 (.arr 7 m3 f3)) (by show _ ≤ _; simp only [toSl]; omega) hf.1.2.2.2.1 ⟨⟨c1, hm1, (fun i hi => (q1 i hi).2)⟩, ⟨c3, hm3, (fun i hi => (q3 i hi).2)⟩⟩
  have h := h0.weak (l1 (aG (l1 cI (l1 (slLe rfl e1) (l1 cI (l1 (slLe rfl e3) l0))))) l0)
  rw [law26 x0 (toSl d175 (.arr 8 m1 f1)) x2 (toSl d137 (.arr 7 m3 f3)) (wf64 r0) c1 hm1 (fun i hi => (q1 i hi).2) (wf64 r2) c3 hm3 (fun i hi => (q3 i hi).2)] at h
  exact h
theorem wireEncodes_lifted (os : Os) (started : os.Started) (H : Type) (enc : TypeId × Value → H) (F : Stop.Interp) :
    ReturnsInHanded {} Try.checked os 26 .any ((Rows.OpenSpec.upto Rows.wireEncodesSpec).pre6 enc Try.prog Try.f26 Rows.wireEncodesUptoRow.domain false) (((Rows.OpenSpec.upto Rows.wireEncodesSpec).at F).post enc Try.prog Try.f26 false true false false) := by
  refine returnsInHanded_of_cond (C := Try.checked) (s := Rows.OpenSpec.upto Rows.wireEncodesSpec) (k := Rows.uptoSmall) rfl Try.own started (by kernel_rfl) Try.func26
    (OpenSpec.witness (enc := enc) (C := Try.checked) (s := Rows.OpenSpec.upto Rows.wireEncodesSpec) (k := Rows.uptoSmall) rfl false ⟨#[], #[.agg #[.int .i64 0, .slice none 0 0, .int .i64 0, .slice none 0 0]], []⟩ 8 (by kernel_rfl) (by kernel_rfl) (by kernel_rfl)
      (x := ([.agg [.agg [.lit (.int .i64 0), .nil], .lit (.int .i64 0), .nil]], [], [])) (by kernel_rfl) rfl (by kernel_rfl)) ?_
  intro W base args ds gs before hval hW _ hk _
  exact law_contract (P := Try.prog) (fn := Try.f26) (s := Rows.wireEncodesSpec) (n := 9) (B := 1048576) (bulk := Rows.uptoBulk) (tb := 4) (ts := [31]) (by decide) (bulk_ok H) rfl jf2 (by kernel_rfl) (by kernel_rfl) rfl (by kernel_rfl) rfl (fun ds h => by
    match ds, h with
    | [d], _ => rfl) pure26 W base args ds gs before hval hW (fun d hd => bulk_small hk d (by simp [hd]))
theorem joined26 : joinedFacts Try.prog 26 Try.f26 Rows.wireEncodesSpec Rows.wireEncodesUptoRow = true :=
  joined_of (by kernel_rfl) jf2 jf3 (by kernel_rfl) (by kernel_rfl) rfl jf7 rfl jf9 (by kernel_rfl) (by kernel_rfl) (by kernel_rfl) (by kernel_rfl) (by kernel_rfl) (by kernel_rfl) (by kernel_rfl) (by kernel_rfl) (by kernel_rfl)
    (by kernel_rfl) (by kernel_rfl) (by kernel_rfl) (by kernel_rfl) (by rw [jf23]; rfl) rfl jf25 jf26 (by rw [jf27]; rfl) (by rw [jf28]; rfl) (by kernel_rfl) (by kernel_rfl) (by kernel_rfl) (by kernel_rfl)
theorem wireEncodes_holds : Rows.WireEncodesUptoSaid :=
  OpenClaim.holds_of_cond 26 Try.f26 rfl rfl rfl rfl rfl rfl rfl ⟨rfl, rfl, rfl, rfl, rfl⟩ rfl rfl rfl rfl rfl (by kernel_rfl) Try.func26 joined26
    (of_decide_eq_true (by kernel_rfl)) (by unfold Func.isWrapper; first | (rw [if_pos (by decide +kernel)]; kernel_rfl) | (rw [if_neg (by decide +kernel)]; exact ⟨rfl, rfl⟩))
    (fun os started H enc _ F => wireEncodes_lifted os started H enc F)
end Go.Proofs.Ytchhfojblmceiaa
