/-
  rostrum/rostrumlaw.TapeAppends: answers as the document does, where all that comes in is of bulk at most 1048576. No condition but the bulk.
-/
import Derived.Test.YtchhfojblmceiaaRows
import Derived.Test.YtchhfojblmceiaaHead
import Derived.Test.YtchhfojblmceiaaWd
import Derived.Test.YtchhfojblmceiaaPE
import Derived.ProofKit
namespace Go.Proofs.Ytchhfojblmceiaa
open Go Go.Vc Go.RowKit Go.ChangeShapes Go.WideShapes Go.ChangeAt
set_option maxRecDepth 100000
theorem p30 : ∀ (x0 : Sl Int), x0.n ≤ 549755813888 → Fine (ofSl 1 e5 x0) → ∀ (x1 : Int), ∀ (x2 : Int), ∀ (x3 : Int), ∀ (x4 : Int), ∀ (x5 : Int), ∀ (x6 : Int), ∀ (x7 : Int), ∀ (x8 : Bool), ∀ (x9 : Int), ∀ (x10 : Int), ∀ (x11 : Int), ∀ (x12 : ByteArray), x12.size ≤ 549755813888 → ∀ (x13 : ByteArray), x13.size ≤ 549755813888 → ∀ (x14 : ByteArray), x14.size ≤ 549755813888 → ∀ (x15 : Int), ∀ (x16 : Int), ∀ (x17 : Int), ∀ (x18 : Int), ∀ (x19 : Sl T175), x19.n ≤ 549755813888 → Fine (ofSl 8 e175 x19) → ∀ (x20 : Int), ∀ (x21 : Sl T137), x21.n ≤ 549755813888 → Fine (ofSl 7 e137 x21) → (CE x19 ∧ CC x21 ∧ x12.size ≤ 10000000000 ∧ x13.size ≤ 10000000000 ∧ x14.size ≤ 10000000000) → PureCall Try.prog 30 [.agg [ofSl 1 e5 x0, .int .i64 x1], .agg [.int .i64 x2, .int .i64 x3, .int .i64 x4, .int .i64 x5, .int .i64 x6, .int .i64 x7, .bool x8, .int .i64 x9, .int .i64 x10, .int .i64 x11, .str x12, .str x13, .str x14, .int .i64 x15, .int .i64 x16, .int .i64 x17, .int .i64 x18, ofSl 8 e175 x19, .int .i64 x20, ofSl 7 e137 x21]] (.bool (g30 x0 x1 x2 x3 x4 x5 x6 x7 x8 x9 x10 x11 x12 x13 x14 x15 x16 x17 x18 x19 x20 x21)) := cast (by kernel_rfl) pc30
theorem pure30 : shArgs Try.prog 1048576 12 [45, 122] fun xs => PureCall Try.prog 30 xs (.bool true) := by
  refine Eq.mpr (β := ∀ (m0 : Nat) (f0 : Nat → List AV), m0 ≤ 1048576 → (∀ i, m0 ≤ i → f0 i = [.int .u8 0]) → (∀ i, i < m0 → ∀ K : List AV → Prop, (∀ x0 : Int, (Lit.int .u8 x0).wf = true → K [.int .u8 x0]) → K (f0 i)) → ∀ x1 : Int, (Lit.int .i64 x1).wf = true → ∀ x2 : Int, (Lit.int .i64 x2).wf = true → ∀ x3 : Int, (Lit.int .i64 x3).wf = true → ∀ x4 : Int, (Lit.int .i64 x4).wf = true → ∀ x5 : Int, (Lit.int .i64 x5).wf = true → ∀ x6 : Int, (Lit.int .i64 x6).wf = true → ∀ x7 : Int, (Lit.int .i64 x7).wf = true → ∀ x8 : Bool, ∀ x9 : Int, (Lit.int .i64 x9).wf = true → ∀ x10 : Int, (Lit.int .i64 x10).wf = true → ∀ x11 : Int, (Lit.int .i64 x11).wf = true → ∀ x12 : ByteArray, x12.size ≤ 1048576 → ∀ x13 : ByteArray, x13.size ≤ 1048576 → ∀ x14 : ByteArray, x14.size ≤ 1048576 → ∀ x15 : Int, (Lit.int .i64 x15).wf = true → ∀ x16 : Int, (Lit.int .i64 x16).wf = true → ∀ x17 : Int, (Lit.int .i64 x17).wf = true → ∀ x18 : Int, (Lit.int .i64 x18).wf = true → ∀ (m19 : Nat) (f19 : Nat → List AV), m19 ≤ 1048576 → (∀ i, m19 ≤ i → f19 i = [.str ⟨#[]⟩, .int .i64 0, .str ⟨#[]⟩, .int .i64 0, .arr 2 0 fun _ => [.str ⟨#[]⟩, .str ⟨#[]⟩], .arr 1 0 fun _ => [.str ⟨#[]⟩], .arr 2 0 fun _ => [.str ⟨#[]⟩, .int .i64 0], .int .i64 0]) → (∀ i, i < m19 → ∀ K : List AV → Prop, (∀ x0 : ByteArray, x0.size ≤ 1048576 → ∀ x1 : Int, (Lit.int .i64 x1).wf = true → ∀ x2 : ByteArray, x2.size ≤ 1048576 → ∀ x3 : Int, (Lit.int .i64 x3).wf = true → ∀ (m4 : Nat) (f4 : Nat → List AV), m4 ≤ 1048576 → (∀ i, m4 ≤ i → f4 i = [.str ⟨#[]⟩, .str ⟨#[]⟩]) → (∀ i, i < m4 → ∀ K : List AV → Prop, (∀ x0 : ByteArray, x0.size ≤ 1048576 → ∀ x1 : ByteArray, x1.size ≤ 1048576 → K [.str x0, .str x1]) → K (f4 i)) → ∀ (m5 : Nat) (f5 : Nat → List AV), m5 ≤ 1048576 → (∀ i, m5 ≤ i → f5 i = [.str ⟨#[]⟩]) → (∀ i, i < m5 → ∀ K : List AV → Prop, (∀ x0 : ByteArray, x0.size ≤ 1048576 → K [.str x0]) → K (f5 i)) → ∀ (m6 : Nat) (f6 : Nat → List AV), m6 ≤ 1048576 → (∀ i, m6 ≤ i → f6 i = [.str ⟨#[]⟩, .int .i64 0]) → (∀ i, i < m6 → ∀ K : List AV → Prop, (∀ x0 : ByteArray, x0.size ≤ 1048576 → ∀ x1 : Int, (Lit.int .i64 x1).wf = true → K [.str x0, .int .i64 x1]) → K (f6 i)) → ∀ x7 : Int, (Lit.int .i64 x7).wf = true → K [.str x0, .int .i64 x1, .str x2, .int .i64 x3, .arr 2 m4 f4, .arr 1 m5 f5, .arr 2 m6 f6, .int .i64 x7]) → K (f19 i)) → ∀ x20 : Int, (Lit.int .i64 x20).wf = true → ∀ (m21 : Nat) (f21 : Nat → List AV), m21 ≤ 1048576 → (∀ i, m21 ≤ i → f21 i = [.int .i64 0, .int .i64 0, .int .i64 0, .int .i64 0, .str ⟨#[]⟩, .int .i64 0, .arr 1 0 fun _ => [.str ⟨#[]⟩]]) → (∀ i, i < m21 → ∀ K : List AV → Prop, (∀ x0 : Int, (Lit.int .i64 x0).wf = true → ∀ x1 : Int, (Lit.int .i64 x1).wf = true → ∀ x2 : Int, (Lit.int .i64 x2).wf = true → ∀ x3 : Int, (Lit.int .i64 x3).wf = true → ∀ x4 : ByteArray, x4.size ≤ 1048576 → ∀ x5 : Int, (Lit.int .i64 x5).wf = true → ∀ (m6 : Nat) (f6 : Nat → List AV), m6 ≤ 1048576 → (∀ i, m6 ≤ i → f6 i = [.str ⟨#[]⟩]) → (∀ i, i < m6 → ∀ K : List AV → Prop, (∀ x0 : ByteArray, x0.size ≤ 1048576 → K [.str x0]) → K (f6 i)) → K [.int .i64 x0, .int .i64 x1, .int .i64 x2, .int .i64 x3, .str x4, .int .i64 x5, .arr 1 m6 f6]) → K (f21 i)) → PureCall Try.prog 30 [.agg [.arr 1 m0 f0, .int .i64 x1], .agg [.int .i64 x2, .int .i64 x3, .int .i64 x4, .int .i64 x5, .int .i64 x6, .int .i64 x7, .bool x8, .int .i64 x9, .int .i64 x10, .int .i64 x11, .str x12, .str x13, .str x14, .int .i64 x15, .int .i64 x16, .int .i64 x17, .int .i64 x18, .arr 8 m19 f19, .int .i64 x20, .arr 7 m21 f21]] (.bool true)) (by kernel_rfl) ?_
  intro m0 f0 hm0 hd0 he0 x1 r1 x2 r2 x3 r3 x4 r4 x5 r5 x6 r6 x7 r7 x8 x9 r9 x10 r10 x11 r11 x12 r12 x13 r13 x14 r14 x15 r15 x16 r16 x17 r17 x18 r18 m19 f19 hm19 hd19 he19 x20 r20 m21 f21 hm21 hd21 he21
  have w1 := wf64 r1
  have w2 := wf64 r2
  have w3 := wf64 r3
  have w4 := wf64 r4
  have w5 := wf64 r5
  have w6 := wf64 r6
  have w7 := wf64 r7
  have w9 := wf64 r9
  have w10 := wf64 r10
  have w11 := wf64 r11
  have w15 := wf64 r15
  have w16 := wf64 r16
  have w17 := wf64 r17
  have w18 := wf64 r18
  have w20 := wf64 r20
  have q0 : ∀ i, i < m0 → f0 i = e5 (d5 (f0 i)) := fun i hi => he0 i hi (fun l => l = e5 (d5 l)) (fun _ _ => rfl)
  have e0 : ∀ i, i < m0 → f0 i = e5 (d5 (f0 i)) := fun i hi => q0 i hi
  have c0 : Canon (toSl d5 (.arr 1 m0 f0)) := fun i hi => by
    show d5 (f0 i) = default
    rw [hd0 i hi]; rfl
  have u0 : U8 (toSl d5 (.arr 1 m0 f0)) := fun i => by
    show 0 ≤ d5 (f0 i) ∧ d5 (f0 i) ≤ 255
    rcases Nat.lt_or_ge i m0 with h | h
    · exact he0 i h (fun l => 0 ≤ d5 l ∧ d5 l ≤ 255) (fun x r => wf8 r)
    · rw [hd0 i h]; decide
  have q19 : ∀ i, i < m19 → f19 i = e175 (d175 (f19 i)) ∧ W175 (d175 (f19 i)) := fun i hi => he19 i hi (fun l => l = e175 (d175 l) ∧ W175 (d175 l)) (fun _ _ _ _ _ _ _ _ m_1 f_1 h_1 d_1 e_1 m_2 f_2 h_2 d_2 e_2 m_3 f_3 h_3 d_3 e_3 _ _ => ⟨(Go.Vc.c2 rfl (Go.Vc.c2 rfl (Go.Vc.c2 rfl (Go.Vc.c2 rfl (Go.Vc.c2 (nest (e := e160) (d := d160) (fun i hi => by rw [d_1 i hi]; rfl) (fun i hi => e_1 i hi (fun l => l = e160 (d160 l)) (fun _ _ _ _ => rfl))) (Go.Vc.c2 (nest (e := e9) (d := d9) (fun i hi => by rw [d_2 i hi]; rfl) (fun i hi => e_2 i hi (fun l => l = e9 (d9 l)) (fun _ _ => rfl))) (Go.Vc.c2 (nest (e := e164) (d := d164) (fun i hi => by rw [d_3 i hi]; rfl) (fun i hi => e_3 i hi (fun l => l = e164 (d164 l)) (fun _ _ _ _ => rfl))) (Go.Vc.c2 rfl rfl)))))))), ⟨⟨(fun i hi => by show d160 (f_1 i) = default; rw [d_1 i hi]; rfl), h_1⟩, ⟨(fun i hi => by show d9 (f_2 i) = default; rw [d_2 i hi]; rfl), h_2⟩, ⟨(fun i hi => by show d164 (f_3 i) = default; rw [d_3 i hi]; rfl), h_3⟩⟩⟩)
  have e19 : ∀ i, i < m19 → f19 i = e175 (d175 (f19 i)) := fun i hi => (q19 i hi).1
  have c19 : Canon (toSl d175 (.arr 8 m19 f19)) := fun i hi => by
    show d175 (f19 i) = default
    rw [hd19 i hi]; rfl
  have q21 : ∀ i, i < m21 → f21 i = e137 (d137 (f21 i)) ∧ W137 (d137 (f21 i)) := fun i hi => he21 i hi (fun l => l = e137 (d137 l) ∧ W137 (d137 l)) (fun _ _ _ _ _ _ _ _ _ _ _ _ m_4 f_4 h_4 d_4 e_4 => ⟨(Go.Vc.c2 rfl (Go.Vc.c2 rfl (Go.Vc.c2 rfl (Go.Vc.c2 rfl (Go.Vc.c2 rfl (Go.Vc.c2 rfl (Go.Vc.c2 (nest (e := e9) (d := d9) (fun i hi => by rw [d_4 i hi]; rfl) (fun i hi => e_4 i hi (fun l => l = e9 (d9 l)) (fun _ _ => rfl))) rfl))))))), ⟨(fun i hi => by show d9 (f_4 i) = default; rw [d_4 i hi]; rfl), h_4⟩⟩)
  have e21 : ∀ i, i < m21 → f21 i = e137 (d137 (f21 i)) := fun i hi => (q21 i hi).1
  have c21 : Canon (toSl d137 (.arr 7 m21 f21)) := fun i hi => by
    show d137 (f21 i) = default
    rw [hd21 i hi]; rfl
  have h0 : PureCall Try.prog 30 [.agg [ofSl 1 e5 (toSl d5 (.arr 1 m0 f0)), .int .i64 x1], .agg [.int .i64 x2, .int .i64 x3, .int .i64 x4, .int .i64 x5, .int .i64 x6, .int .i64 x7, .bool x8, .int .i64 x9, .int .i64 x10, .int .i64 x11, .str x12, .str x13, .str x14, .int .i64 x15, .int .i64 x16, .int .i64 x17, .int .i64 x18, ofSl 8 e175 (toSl d175 (.arr 8 m19 f19)), .int .i64 x20, ofSl 7 e137 (toSl d137 (.arr 7 m21 f21))]] (.bool (g30 (toSl d5 (.arr 1 m0 f0)) x1 x2 x3 x4 x5 x6 x7 x8 x9 x10 x11 x12 x13 x14 x15 x16 x17 x18 (toSl d175 (.arr 8 m19 f19)) x20 (toSl d137 (.arr 7 m21 f21)))) := PureCall.fine fun hf => p30 (toSl d5 (.arr 1 m0 f0)) (by show _ ≤ _; simp only [toSl]; omega) hf.1.1 x1 x2 x3 x4 x5 x6 x7 x8 x9 x10 x11 x12 (by omega) x13 (by omega) x14 (by omega) x15 x16 x17 x18 (toSl d175 (.arr 8 m19 f19)) (by show _ ≤ _; simp only [toSl]; omega) hf.2.1.2.2.2.2.2.2.2.2.2.2.2.2.2.2.2.2.2.1 x20 (toSl d137 (.arr 7 m21 f21)) (by show _ ≤ _; simp only [toSl]; omega) hf.2.1.2.2.2.2.2.2.2.2.2.2.2.2.2.2.2.2.2.2.2.1 ⟨⟨c19, hm19, (fun i hi => (q19 i hi).2)⟩, ⟨c21, hm21, (fun i hi => (q21 i hi).2)⟩, (by omega), (by omega), (by omega)⟩
  have h := h0.weak (l1 (aG (l1 (slLe rfl e0) (l1 cI l0))) (l1 (aG (l1 cI (l1 cI (l1 cI (l1 cI (l1 cI (l1 cI (l1 cB (l1 cI (l1 cI (l1 cI (l1 cS (l1 cS (l1 cS (l1 cI (l1 cI (l1 cI (l1 cI (l1 (slLe rfl e19) (l1 cI (l1 (slLe rfl e21) l0))))))))))))))))))))) l0))
  rw [law30 (toSl d5 (.arr 1 m0 f0)) x1 x2 x3 x4 x5 x6 x7 x8 x9 x10 x11 x12 x13 x14 x15 x16 x17 x18 (toSl d175 (.arr 8 m19 f19)) x20 (toSl d137 (.arr 7 m21 f21)) c0 hm0 u0 (wf64 r1) (wf64 r2) (wf64 r3) (wf64 r4) (wf64 r5) (wf64 r6) (wf64 r7) (wf64 r9) (wf64 r10) (wf64 r11) r12 r13 r14 (wf64 r15) (wf64 r16) (wf64 r17) (wf64 r18) c19 hm19 (fun i hi => (q19 i hi).2) (wf64 r20) c21 hm21 (fun i hi => (q21 i hi).2)] at h
  exact h
theorem tapeAppends_lifted (os : Os) (started : os.Started) (H : Type) (enc : TypeId × Value → H) (F : Stop.Interp) :
    ReturnsInHanded {} Try.checked os 30 .any ((Rows.OpenSpec.upto Rows.tapeAppendsSpec).pre6 enc Try.prog Try.f30 Rows.tapeAppendsUptoRow.domain false) (((Rows.OpenSpec.upto Rows.tapeAppendsSpec).at F).post enc Try.prog Try.f30 false true false false) := by
  refine returnsInHanded_of_cond (C := Try.checked) (s := Rows.OpenSpec.upto Rows.tapeAppendsSpec) (k := Rows.uptoSmall) rfl Try.own started (by kernel_rfl) Try.func30
    (OpenSpec.witness (enc := enc) (C := Try.checked) (s := Rows.OpenSpec.upto Rows.tapeAppendsSpec) (k := Rows.uptoSmall) rfl false ⟨#[], #[.agg #[.slice none 0 0, .int .i64 0], .agg #[.int .i64 0, .int .i64 0, .int .i64 0, .int .i64 0, .int .i64 0, .int .i64 0, .bool false, .int .i64 0, .int .i64 0, .int .i64 0, .string ⟨#[]⟩, .string ⟨#[]⟩, .string ⟨#[]⟩, .int .i64 0, .int .i64 0, .int .i64 0, .int .i64 0, .slice none 0 0, .int .i64 0, .slice none 0 0]], []⟩ 8 (by kernel_rfl) (by kernel_rfl) (by kernel_rfl)
      (x := ([.agg [.nil, .lit (.int .i64 0)], .agg [.lit (.int .i64 0), .lit (.int .i64 0), .lit (.int .i64 0), .lit (.int .i64 0), .agg [.lit (.int .i64 0), .lit (.int .i64 0), .lit (.bool false), .agg [.lit (.int .i64 0), .lit (.int .i64 0), .agg [.lit (.int .i64 0), .lit (.string []), .lit (.string []), .lit (.string []), .lit (.int .i64 0)]]], .agg [.lit (.int .i64 0), .lit (.int .i64 0), .agg [.agg [.lit (.int .i64 0), .nil], .lit (.int .i64 0), .nil]]]], [], [])) (by kernel_rfl) rfl (by kernel_rfl)) ?_
  intro W base args ds gs before hval hW _ hk _
  exact law_contract (P := Try.prog) (fn := Try.f30) (s := Rows.tapeAppendsSpec) (n := 12) (B := 1048576) (bulk := Rows.uptoBulk) (tb := 4) (ts := [45, 122]) (by decide) (bulk_ok H) rfl jf2 (by kernel_rfl) (by kernel_rfl) rfl (by kernel_rfl) rfl (fun ds h => by
    match ds, h with
    | [d1, d2], _ => rfl) pure30 W base args ds gs before hval hW (fun d hd => bulk_small hk d (by simp [hd]))
theorem joined30 : joinedFacts Try.prog 30 Try.f30 Rows.tapeAppendsSpec Rows.tapeAppendsUptoRow = true :=
  joined_of (by kernel_rfl) jf2 jf3 (by kernel_rfl) (by kernel_rfl) rfl jf7 rfl jf9 (by kernel_rfl) (by kernel_rfl) (by kernel_rfl) (by kernel_rfl) (by kernel_rfl) (by kernel_rfl) (by kernel_rfl) (by kernel_rfl) (by kernel_rfl)
    (by kernel_rfl) (by kernel_rfl) (by kernel_rfl) (by kernel_rfl) (by rw [jf23]; rfl) rfl jf25 jf26 (by rw [jf27]; rfl) (by rw [jf28]; rfl) (by kernel_rfl) (by kernel_rfl) (by kernel_rfl) (by kernel_rfl)
theorem tapeAppends_holds : Rows.TapeAppendsUptoSaid :=
  OpenClaim.holds_of_cond 30 Try.f30 rfl rfl rfl rfl rfl rfl rfl ⟨rfl, rfl, rfl, rfl, rfl⟩ rfl rfl rfl rfl rfl (by kernel_rfl) Try.func30 joined30
    (of_decide_eq_true (by kernel_rfl)) (by unfold Func.isWrapper; first | (rw [if_pos (by decide +kernel)]; kernel_rfl) | (rw [if_neg (by decide +kernel)]; exact ⟨rfl, rfl⟩))
    (fun os started H enc _ F => tapeAppends_lifted os started H enc F)
end Go.Proofs.Ytchhfojblmceiaa
