/-
  rostrum/rostrumlaw.StoreApplies: answers as the document does, where all that comes in is of bulk at most 1048576. No condition but the bulk.
-/
import Derived.Test.YtchhfojblmceiaaGreatRows
import Derived.Test.YtchhfojblmceiaaGreatHead
import Derived.Test.YtchhfojblmceiaaGreatWd
import Derived.Test.YtchhfojblmceiaaGreatGE
import Derived.ProofKit
namespace Go.Proofs.YtchhfojblmceiaaGreat
open Go Go.Vc Go.RowKit Go.ChangeShapes Go.WideShapes Go.ChangeAt
set_option maxRecDepth 100000
theorem pure1005 : shArgs Tryz.prog 1048576 12 [36, 3, 52] fun xs => PureCall Tryz.prog 5 xs (.bool true) := by
  refine Eq.mpr (β := ∀ x0 : Int, (Lit.int .i64 x0).wf = true → ∀ (m1 : Nat) (f1 : Nat → List AV), m1 ≤ 1048576 → (∀ i, m1 ≤ i → f1 i = [.str ⟨#[]⟩, .int .i64 0, .str ⟨#[]⟩, .int .i64 0, .arr 2 0 fun _ => [.str ⟨#[]⟩, .str ⟨#[]⟩], .arr 1 0 fun _ => [.str ⟨#[]⟩], .arr 2 0 fun _ => [.str ⟨#[]⟩, .int .i64 0], .int .i64 0]) → (∀ i, i < m1 → ∀ K : List AV → Prop, (∀ x0 : ByteArray, x0.size ≤ 1048576 → ∀ x1 : Int, (Lit.int .i64 x1).wf = true → ∀ x2 : ByteArray, x2.size ≤ 1048576 → ∀ x3 : Int, (Lit.int .i64 x3).wf = true → ∀ (m4 : Nat) (f4 : Nat → List AV), m4 ≤ 1048576 → (∀ i, m4 ≤ i → f4 i = [.str ⟨#[]⟩, .str ⟨#[]⟩]) → (∀ i, i < m4 → ∀ K : List AV → Prop, (∀ x0 : ByteArray, x0.size ≤ 1048576 → ∀ x1 : ByteArray, x1.size ≤ 1048576 → K [.str x0, .str x1]) → K (f4 i)) → ∀ (m5 : Nat) (f5 : Nat → List AV), m5 ≤ 1048576 → (∀ i, m5 ≤ i → f5 i = [.str ⟨#[]⟩]) → (∀ i, i < m5 → ∀ K : List AV → Prop, (∀ x0 : ByteArray, x0.size ≤ 1048576 → K [.str x0]) → K (f5 i)) → ∀ (m6 : Nat) (f6 : Nat → List AV), m6 ≤ 1048576 → (∀ i, m6 ≤ i → f6 i = [.str ⟨#[]⟩, .int .i64 0]) → (∀ i, i < m6 → ∀ K : List AV → Prop, (∀ x0 : ByteArray, x0.size ≤ 1048576 → ∀ x1 : Int, (Lit.int .i64 x1).wf = true → K [.str x0, .int .i64 x1]) → K (f6 i)) → ∀ x7 : Int, (Lit.int .i64 x7).wf = true → K [.str x0, .int .i64 x1, .str x2, .int .i64 x3, .arr 2 m4 f4, .arr 1 m5 f5, .arr 2 m6 f6, .int .i64 x7]) → K (f1 i)) → ∀ x2 : Int, (Lit.int .i64 x2).wf = true → ∀ x3 : Int, (Lit.int .i64 x3).wf = true → ∀ x4 : ByteArray, x4.size ≤ 1048576 → ∀ x5 : ByteArray, x5.size ≤ 1048576 → ∀ x6 : ByteArray, x6.size ≤ 1048576 → ∀ x7 : Int, (Lit.int .i64 x7).wf = true → PureCall Tryz.prog 5 [.agg [.int .i64 x0, .arr 8 m1 f1], .int .i64 x2, .agg [.int .i64 x3, .str x4, .str x5, .str x6, .int .i64 x7]] (.bool true)) (by kernel_rfl) ?_
  intro x0 r0 m1 f1 hm1 hd1 he1 x2 r2 x3 r3 x4 r4 x5 r5 x6 r6 x7 r7
  have w0 := wf64 r0
  have w2 := wf64 r2
  have w3 := wf64 r3
  have w7 := wf64 r7
  have q1 : ∀ i, i < m1 → f1 i = e175 (d175 (f1 i)) ∧ W175 (d175 (f1 i)) := fun i hi => he1 i hi (fun l => l = e175 (d175 l) ∧ W175 (d175 l)) (fun _ _ _ _ _ _ _ _ m_1 f_1 h_1 d_1 e_1 m_2 f_2 h_2 d_2 e_2 m_3 f_3 h_3 d_3 e_3 _ _ => ⟨(Go.Vc.c2 rfl (Go.Vc.c2 rfl (Go.Vc.c2 rfl (Go.Vc.c2 rfl (Go.Vc.c2 (nest (e := e160) (d := d160) (fun i hi => by rw [d_1 i hi]; rfl) (fun i hi => e_1 i hi (fun l => l = e160 (d160 l)) (fun _ _ _ _ => rfl))) (Go.Vc.c2 (nest (e := e9) (d := d9) (fun i hi => by rw [d_2 i hi]; rfl) (fun i hi => e_2 i hi (fun l => l = e9 (d9 l)) (fun _ _ => rfl))) (Go.Vc.c2 (nest (e := e164) (d := d164) (fun i hi => by rw [d_3 i hi]; rfl) (fun i hi => e_3 i hi (fun l => l = e164 (d164 l)) (fun _ _ _ _ => rfl))) (Go.Vc.c2 rfl rfl)))))))), ⟨⟨(fun i hi => by show d160 (f_1 i) = default; rw [d_1 i hi]; rfl), h_1⟩, ⟨(fun i hi => by show d9 (f_2 i) = default; rw [d_2 i hi]; rfl), h_2⟩, ⟨(fun i hi => by show d164 (f_3 i) = default; rw [d_3 i hi]; rfl), h_3⟩⟩⟩)
  have e1 : ∀ i, i < m1 → f1 i = e175 (d175 (f1 i)) := fun i hi => (q1 i hi).1
  have c1 : Canon (toSl d175 (.arr 8 m1 f1)) := fun i hi => by
    show d175 (f1 i) = default
    rw [hd1 i hi]; rfl
  have h0 : PureCall Tryz.prog 5 [.agg [.int .i64 x0, ofSl 8 e175 (toSl d175 (.arr 8 m1 f1))], .int .i64 x2, .agg [.int .i64 x3, .str x4, .str x5, .str x6, .int .i64 x7]] (.bool (g1005 x0 (toSl d175 (.arr 8 m1 f1)) x2 x3 x4 x5 x6 x7)) := PureCall.fine fun hf => pc1005 x0 (toSl d175 (.arr 8 m1 f1)) (by show _ ≤ _; simp only [toSl]; omega) hf.1.2.1 x2 x3 x4 (by omega) x5 (by omega) x6 (by omega) x7 ⟨c1, hm1, (fun i hi => (q1 i hi).2)⟩
  have h := h0.weak (l1 (aG (l1 cI (l1 (slLe rfl e1) l0))) (l1 aI (l1 (aG (l1 cI (l1 cS (l1 cS (l1 cS (l1 cI l0)))))) l0)))
  rw [law1005 x0 (toSl d175 (.arr 8 m1 f1)) x2 x3 x4 x5 x6 x7 (wf64 r0) c1 hm1 (fun i hi => (q1 i hi).2) (wf64 r2) (wf64 r3) r4 r5 r6 (wf64 r7)] at h
  exact h
theorem storeApplies_lifted (os : Os) (started : os.Started) (H : Type) (enc : TypeId × Value → H) (F : Stop.Interp) :
    ReturnsInHanded {} Tryz.checked os 5 .any ((Rows.OpenSpec.upto Rows.storeAppliesSpec).pre6 enc Tryz.prog Tryz.f5 Rows.storeAppliesUptoRow.domain false) (((Rows.OpenSpec.upto Rows.storeAppliesSpec).at F).post enc Tryz.prog Tryz.f5 false true false false) := by
  refine returnsInHanded_of_cond (C := Tryz.checked) (s := Rows.OpenSpec.upto Rows.storeAppliesSpec) (k := Rows.uptoSmall) rfl Tryz.own started (by kernel_rfl) Tryz.func5
    (OpenSpec.witness (enc := enc) (C := Tryz.checked) (s := Rows.OpenSpec.upto Rows.storeAppliesSpec) (k := Rows.uptoSmall) rfl false ⟨#[], #[.agg #[.int .i64 0, .slice none 0 0], .int .i64 0, .agg #[.int .i64 0, .string ⟨#[]⟩, .string ⟨#[]⟩, .string ⟨#[]⟩, .int .i64 0]], []⟩ 8 (by kernel_rfl) (by kernel_rfl) (by kernel_rfl)
      (x := ([.agg [.lit (.int .i64 0), .nil], .lit (.int .i64 0), .agg [.lit (.int .i64 0), .lit (.string []), .lit (.string []), .lit (.string []), .lit (.int .i64 0)]], [], [])) (by kernel_rfl) rfl (by kernel_rfl)) ?_
  intro W base args ds gs before hval hW _ hk _
  exact law_contract (P := Tryz.prog) (fn := Tryz.f5) (s := Rows.storeAppliesSpec) (n := 12) (B := 1048576) (bulk := Rows.uptoBulk) (tb := 4) (ts := [36, 3, 52]) (by decide) (bulk_ok H) rfl jf2 (by kernel_rfl) (by kernel_rfl) rfl (by kernel_rfl) rfl (fun ds h => by
    match ds, h with
    | [d1, d2, d3], _ => rfl) pure1005 W base args ds gs before hval hW (fun d hd => bulk_small hk d (by simp [hd])) ⟨fun _ h => h, fun _ => .inl rfl⟩
theorem joined1005 : joinedFacts Tryz.prog 5 Tryz.f5 Rows.storeAppliesSpec Rows.storeAppliesUptoRow = true :=
  joined_of (by kernel_rfl) jf2 jf3 (by kernel_rfl) (by kernel_rfl) rfl jf7 rfl jf9 (by kernel_rfl) (by kernel_rfl) (by kernel_rfl) (by kernel_rfl) (by kernel_rfl) (by kernel_rfl) (by kernel_rfl) (by kernel_rfl) (by kernel_rfl)
    (by kernel_rfl) (by kernel_rfl) (by kernel_rfl) (by kernel_rfl) (by rw [jf23]; rfl) rfl jf25 jf26 (by rw [jf27]; rfl) (by rw [jf28]; rfl) (by kernel_rfl) (by kernel_rfl) (by kernel_rfl) (by kernel_rfl)
theorem storeApplies_holds : Rows.StoreAppliesUptoSaid :=
  OpenClaim.holds_of_cond 5 Tryz.f5 rfl rfl rfl rfl rfl rfl rfl ⟨rfl, rfl, rfl, rfl, rfl⟩ rfl rfl rfl rfl rfl (by kernel_rfl) Tryz.func5 joined1005
    (of_decide_eq_true (by kernel_rfl)) (by unfold Func.isWrapper; first | (rw [if_pos (by decide +kernel)]; kernel_rfl) | (rw [if_neg (by decide +kernel)]; exact ⟨rfl, rfl⟩))
    (fun os started H enc _ F => storeApplies_lifted os started H enc F)
end Go.Proofs.YtchhfojblmceiaaGreat
