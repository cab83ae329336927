/-
  rostrum/rostrumlaw.TapeChecks: answers as the document does, where all that comes in is of bulk at most 1048576. No condition but the bulk.
-/
import Derived.Test.YtchhfojblmceiaaRows
import Derived.Test.YtchhfojblmceiaaHead
import Derived.Test.YtchhfojblmceiaaWd
import Derived.Test.YtchhfojblmceiaaP28
import Derived.ProofKit
namespace Go.Proofs.Ytchhfojblmceiaa
open Go Go.Vc Go.RowKit Go.ChangeShapes Go.WideShapes Go.ChangeAt
set_option maxRecDepth 100000
theorem pure28 : shArgs Try.prog 1048576 12 [122] fun xs => PureCall Try.prog 28 xs (.bool true) := by
  refine Eq.mpr (β := ∀ x0 : Int, (Lit.int .i64 x0).wf = true → ∀ x1 : Int, (Lit.int .i64 x1).wf = true → ∀ x2 : Int, (Lit.int .i64 x2).wf = true → ∀ x3 : Int, (Lit.int .i64 x3).wf = true → ∀ x4 : Int, (Lit.int .i64 x4).wf = true → ∀ x5 : Int, (Lit.int .i64 x5).wf = true → ∀ x6 : Bool, ∀ x7 : Int, (Lit.int .i64 x7).wf = true → ∀ x8 : Int, (Lit.int .i64 x8).wf = true → ∀ x9 : Int, (Lit.int .i64 x9).wf = true → ∀ x10 : ByteArray, x10.size ≤ 1048576 → ∀ x11 : ByteArray, x11.size ≤ 1048576 → ∀ x12 : ByteArray, x12.size ≤ 1048576 → ∀ x13 : Int, (Lit.int .i64 x13).wf = true → ∀ x14 : Int, (Lit.int .i64 x14).wf = true → ∀ x15 : Int, (Lit.int .i64 x15).wf = true → ∀ x16 : Int, (Lit.int .i64 x16).wf = true → ∀ (m17 : Nat) (f17 : Nat → List AV), m17 ≤ 1048576 → (∀ i, m17 ≤ i → f17 i = [.str ⟨#[]⟩, .int .i64 0, .str ⟨#[]⟩, .int .i64 0, .arr 2 0 fun _ => [.str ⟨#[]⟩, .str ⟨#[]⟩], .arr 1 0 fun _ => [.str ⟨#[]⟩], .arr 2 0 fun _ => [.str ⟨#[]⟩, .int .i64 0], .int .i64 0]) → (∀ i, i < m17 → ∀ K : List AV → Prop, (∀ x0 : ByteArray, x0.size ≤ 1048576 → ∀ x1 : Int, (Lit.int .i64 x1).wf = true → ∀ x2 : ByteArray, x2.size ≤ 1048576 → ∀ x3 : Int, (Lit.int .i64 x3).wf = true → ∀ (m4 : Nat) (f4 : Nat → List AV), m4 ≤ 1048576 → (∀ i, m4 ≤ i → f4 i = [.str ⟨#[]⟩, .str ⟨#[]⟩]) → (∀ i, i < m4 → ∀ K : List AV → Prop, (∀ x0 : ByteArray, x0.size ≤ 1048576 → ∀ x1 : ByteArray, x1.size ≤ 1048576 → K [.str x0, .str x1]) → K (f4 i)) → ∀ (m5 : Nat) (f5 : Nat → List AV), m5 ≤ 1048576 → (∀ i, m5 ≤ i → f5 i = [.str ⟨#[]⟩]) → (∀ i, i < m5 → ∀ K : List AV → Prop, (∀ x0 : ByteArray, x0.size ≤ 1048576 → K [.str x0]) → K (f5 i)) → ∀ (m6 : Nat) (f6 : Nat → List AV), m6 ≤ 1048576 → (∀ i, m6 ≤ i → f6 i = [.str ⟨#[]⟩, .int .i64 0]) → (∀ i, i < m6 → ∀ K : List AV → Prop, (∀ x0 : ByteArray, x0.size ≤ 1048576 → ∀ x1 : Int, (Lit.int .i64 x1).wf = true → K [.str x0, .int .i64 x1]) → K (f6 i)) → ∀ x7 : Int, (Lit.int .i64 x7).wf = true → K [.str x0, .int .i64 x1, .str x2, .int .i64 x3, .arr 2 m4 f4, .arr 1 m5 f5, .arr 2 m6 f6, .int .i64 x7]) → K (f17 i)) → ∀ x18 : Int, (Lit.int .i64 x18).wf = true → ∀ (m19 : Nat) (f19 : Nat → List AV), m19 ≤ 1048576 → (∀ i, m19 ≤ i → f19 i = [.int .i64 0, .int .i64 0, .int .i64 0, .int .i64 0, .str ⟨#[]⟩, .int .i64 0, .arr 1 0 fun _ => [.str ⟨#[]⟩]]) → (∀ i, i < m19 → ∀ K : List AV → Prop, (∀ x0 : Int, (Lit.int .i64 x0).wf = true → ∀ x1 : Int, (Lit.int .i64 x1).wf = true → ∀ x2 : Int, (Lit.int .i64 x2).wf = true → ∀ x3 : Int, (Lit.int .i64 x3).wf = true → ∀ x4 : ByteArray, x4.size ≤ 1048576 → ∀ x5 : Int, (Lit.int .i64 x5).wf = true → ∀ (m6 : Nat) (f6 : Nat → List AV), m6 ≤ 1048576 → (∀ i, m6 ≤ i → f6 i = [.str ⟨#[]⟩]) → (∀ i, i < m6 → ∀ K : List AV → Prop, (∀ x0 : ByteArray, x0.size ≤ 1048576 → K [.str x0]) → K (f6 i)) → K [.int .i64 x0, .int .i64 x1, .int .i64 x2, .int .i64 x3, .str x4, .int .i64 x5, .arr 1 m6 f6]) → K (f19 i)) → PureCall Try.prog 28 [.agg [.int .i64 x0, .int .i64 x1, .int .i64 x2, .int .i64 x3, .int .i64 x4, .int .i64 x5, .bool x6, .int .i64 x7, .int .i64 x8, .int .i64 x9, .str x10, .str x11, .str x12, .int .i64 x13, .int .i64 x14, .int .i64 x15, .int .i64 x16, .arr 8 m17 f17, .int .i64 x18, .arr 7 m19 f19]] (.bool true)) (by kernel_rfl) ?_
  intro x0 r0 x1 r1 x2 r2 x3 r3 x4 r4 x5 r5 x6 x7 r7 x8 r8 x9 r9 x10 r10 x11 r11 x12 r12 x13 r13 x14 r14 x15 r15 x16 r16 m17 f17 hm17 hd17 he17 x18 r18 m19 f19 hm19 hd19 he19
  have w0 := wf64 r0
  have w1 := wf64 r1
  have w2 := wf64 r2
  have w3 := wf64 r3
  have w4 := wf64 r4
  have w5 := wf64 r5
  have w7 := wf64 r7
  have w8 := wf64 r8
  have w9 := wf64 r9
  have w13 := wf64 r13
  have w14 := wf64 r14
  have w15 := wf64 r15
  have w16 := wf64 r16
  have w18 := wf64 r18
  have q17 : ∀ i, i < m17 → f17 i = e175 (d175 (f17 i)) ∧ W175 (d175 (f17 i)) := fun i hi => he17 i hi (fun l => l = e175 (d175 l) ∧ W175 (d175 l)) (fun _ _ _ _ _ _ _ _ m_1 f_1 h_1 d_1 e_1 m_2 f_2 h_2 d_2 e_2 m_3 f_3 h_3 d_3 e_3 _ _ => ⟨(c2 rfl (c2 rfl (c2 rfl (c2 rfl (c2 (nest (e := e160) (d := d160) (fun i hi => by rw [d_1 i hi]; rfl) (fun i hi => e_1 i hi (fun l => l = e160 (d160 l)) (fun _ _ _ _ => rfl))) (c2 (nest (e := e9) (d := d9) (fun i hi => by rw [d_2 i hi]; rfl) (fun i hi => e_2 i hi (fun l => l = e9 (d9 l)) (fun _ _ => rfl))) (c2 (nest (e := e164) (d := d164) (fun i hi => by rw [d_3 i hi]; rfl) (fun i hi => e_3 i hi (fun l => l = e164 (d164 l)) (fun _ _ _ _ => rfl))) (c2 rfl rfl)))))))), ⟨⟨(fun i hi => by show d160 (f_1 i) = default; rw [d_1 i hi]; rfl), h_1⟩, ⟨(fun i hi => by show d9 (f_2 i) = default; rw [d_2 i hi]; rfl), h_2⟩, ⟨(fun i hi => by show d164 (f_3 i) = default; rw [d_3 i hi]; rfl), h_3⟩⟩⟩)
  have e17 : ∀ i, i < m17 → f17 i = e175 (d175 (f17 i)) := fun i hi => (q17 i hi).1
  have c17 : Canon (toSl d175 (.arr 8 m17 f17)) := fun i hi => by
    show d175 (f17 i) = default
    rw [hd17 i hi]; rfl
  have q19 : ∀ i, i < m19 → f19 i = e137 (d137 (f19 i)) ∧ W137 (d137 (f19 i)) := fun i hi => he19 i hi (fun l => l = e137 (d137 l) ∧ W137 (d137 l)) (fun _ _ _ _ _ _ _ _ _ _ _ _ m_4 f_4 h_4 d_4 e_4 => ⟨(c2 rfl (c2 rfl (c2 rfl (c2 rfl (c2 rfl (c2 rfl (c2 (nest (e := e9) (d := d9) (fun i hi => by rw [d_4 i hi]; rfl) (fun i hi => e_4 i hi (fun l => l = e9 (d9 l)) (fun _ _ => rfl))) rfl))))))), ⟨(fun i hi => by show d9 (f_4 i) = default; rw [d_4 i hi]; rfl), h_4⟩⟩)
  have e19 : ∀ i, i < m19 → f19 i = e137 (d137 (f19 i)) := fun i hi => (q19 i hi).1
  have c19 : Canon (toSl d137 (.arr 7 m19 f19)) := fun i hi => by
    show d137 (f19 i) = default
    rw [hd19 i hi]; rfl
  have h := (pc28 x0 x1 x2 x3 x4 x5 x6 x7 x8 x9 x10 x11 x12 x13 x14 x15 x16 (toSl d175 (.arr 8 m17 f17)) x18 (toSl d137 (.arr 7 m19 f19))).weak (l1 (aG (l1 cI (l1 cI (l1 cI (l1 cI (l1 cI (l1 cI (l1 cB (l1 cI (l1 cI (l1 cI (l1 cS (l1 cS (l1 cS (l1 cI (l1 cI (l1 cI (l1 cI (l1 (slLe rfl e17) (l1 cI (l1 (slLe rfl e19) l0))))))))))))))))))))) l0)
  rw [law28 x0 x1 x2 x3 x4 x5 x6 x7 x8 x9 x10 x11 x12 x13 x14 x15 x16 (toSl d175 (.arr 8 m17 f17)) x18 (toSl d137 (.arr 7 m19 f19)) (wf64 r0) (wf64 r1) (wf64 r2) (wf64 r3) (wf64 r4) (wf64 r5) (wf64 r7) (wf64 r8) (wf64 r9) r10 r11 r12 (wf64 r13) (wf64 r14) (wf64 r15) (wf64 r16) c17 hm17 (fun i hi => (q17 i hi).2) (wf64 r18) c19 hm19 (fun i hi => (q19 i hi).2)] at h
  exact h
theorem tapeChecks_lifted (os : Os) (started : os.Started) (H : Type) (enc : TypeId × Value → H) (F : Stop.Interp) :
    ReturnsInHanded {} Try.checked os 28 .any ((Rows.OpenSpec.upto Rows.tapeChecksSpec).pre6 enc Try.prog Try.f28 Rows.tapeChecksUptoRow.domain false) (((Rows.OpenSpec.upto Rows.tapeChecksSpec).at F).post enc Try.prog Try.f28 false true false false) := by
  refine returnsInHanded_of_cond (C := Try.checked) (s := Rows.OpenSpec.upto Rows.tapeChecksSpec) (k := Rows.uptoSmall) rfl Try.own started (by kernel_rfl) Try.func28
    (OpenSpec.witness (enc := enc) (C := Try.checked) (s := Rows.OpenSpec.upto Rows.tapeChecksSpec) (k := Rows.uptoSmall) rfl false ⟨#[], #[.agg #[.int .i64 0, .int .i64 0, .int .i64 0, .int .i64 0, .int .i64 0, .int .i64 0, .bool false, .int .i64 0, .int .i64 0, .int .i64 0, .string ⟨#[]⟩, .string ⟨#[]⟩, .string ⟨#[]⟩, .int .i64 0, .int .i64 0, .int .i64 0, .int .i64 0, .slice none 0 0, .int .i64 0, .slice none 0 0]], []⟩ 8 (by kernel_rfl) (by kernel_rfl) (by kernel_rfl)
      (x := ([.agg [.lit (.int .i64 0), .lit (.int .i64 0), .lit (.int .i64 0), .lit (.int .i64 0), .agg [.lit (.int .i64 0), .lit (.int .i64 0), .lit (.bool false), .agg [.lit (.int .i64 0), .lit (.int .i64 0), .agg [.lit (.int .i64 0), .lit (.string []), .lit (.string []), .lit (.string []), .lit (.int .i64 0)]]], .agg [.lit (.int .i64 0), .lit (.int .i64 0), .agg [.agg [.lit (.int .i64 0), .nil], .lit (.int .i64 0), .nil]]]], [], [])) (by kernel_rfl) rfl (by kernel_rfl)) ?_
  intro W base args ds gs before hval hW _ hk _
  exact law_contract (P := Try.prog) (fn := Try.f28) (s := Rows.tapeChecksSpec) (n := 12) (B := 1048576) (bulk := Rows.uptoBulk) (tb := 4) (ts := [122]) (by decide) (bulk_ok H) rfl jf2 (by kernel_rfl) (by kernel_rfl) rfl (by kernel_rfl) rfl (fun ds h => by
    match ds, h with
    | [d], _ => rfl) pure28 W base args ds gs before hval hW (fun d hd => bulk_small hk d (by simp [hd]))
theorem joined28 : joinedFacts Try.prog 28 Try.f28 Rows.tapeChecksSpec Rows.tapeChecksUptoRow = true :=
  joined_of (by kernel_rfl) jf2 jf3 (by kernel_rfl) (by kernel_rfl) rfl jf7 rfl jf9 (by kernel_rfl) (by kernel_rfl) (by kernel_rfl) (by kernel_rfl) (by kernel_rfl) (by kernel_rfl) (by kernel_rfl) (by kernel_rfl) (by kernel_rfl)
    (by kernel_rfl) (by kernel_rfl) (by kernel_rfl) (by kernel_rfl) (by rw [jf23]; rfl) rfl jf25 jf26 (by rw [jf27]; rfl) (by rw [jf28]; rfl) (by kernel_rfl) (by kernel_rfl) (by kernel_rfl) (by kernel_rfl)
theorem tapeChecks_holds : Rows.TapeChecksUptoSaid :=
  OpenClaim.holds_of_cond 28 Try.f28 rfl rfl rfl rfl rfl rfl rfl ⟨rfl, rfl, rfl, rfl, rfl⟩ rfl rfl rfl rfl rfl (by kernel_rfl) Try.func28 joined28
    (of_decide_eq_true (by kernel_rfl)) (by unfold Func.isWrapper; first | (rw [if_pos (by decide +kernel)]; kernel_rfl) | (rw [if_neg (by decide +kernel)]; exact ⟨rfl, rfl⟩))
    (fun os started H enc _ F => tapeChecks_lifted os started H enc F)
end Go.Proofs.Ytchhfojblmceiaa
