/-
  rostrum/rostrumlaw.TapeRests: answers as the document does, where all that comes in is of bulk at most 1048576. No condition but the bulk.
-/
import Derived.Test.YtchhfojblmceiaaRows
import Derived.Test.YtchhfojblmceiaaHead
import Derived.Test.YtchhfojblmceiaaWd
import Derived.Test.YtchhfojblmceiaaP29
import Derived.ProofKit
namespace Go.Proofs.Ytchhfojblmceiaa
open Go Go.Vc Go.RowKit Go.ChangeShapes Go.WideShapes Go.ChangeAt
set_option maxRecDepth 100000
theorem pure29 : shArgs Try.prog 1048576 9 [38, 35] fun xs => PureCall Try.prog 29 xs (.bool true) := by
  refine Eq.mpr (β := ∀ x0 : Int, (Lit.int .i64 x0).wf = true → ∀ x1 : Int, (Lit.int .i64 x1).wf = true → ∀ (m2 : Nat) (f2 : Nat → List AV), m2 ≤ 1048576 → (∀ i, m2 ≤ i → f2 i = [.int .i64 0, .int .i64 0, .bool false, .int .i64 0, .int .i64 0, .int .i64 0, .str ⟨#[]⟩, .str ⟨#[]⟩, .str ⟨#[]⟩, .int .i64 0]) → (∀ i, i < m2 → ∀ K : List AV → Prop, (∀ x0 : Int, (Lit.int .i64 x0).wf = true → ∀ x1 : Int, (Lit.int .i64 x1).wf = true → ∀ x2 : Bool, ∀ x3 : Int, (Lit.int .i64 x3).wf = true → ∀ x4 : Int, (Lit.int .i64 x4).wf = true → ∀ x5 : Int, (Lit.int .i64 x5).wf = true → ∀ x6 : ByteArray, x6.size ≤ 1048576 → ∀ x7 : ByteArray, x7.size ≤ 1048576 → ∀ x8 : ByteArray, x8.size ≤ 1048576 → ∀ x9 : Int, (Lit.int .i64 x9).wf = true → K [.int .i64 x0, .int .i64 x1, .bool x2, .int .i64 x3, .int .i64 x4, .int .i64 x5, .str x6, .str x7, .str x8, .int .i64 x9]) → K (f2 i)) → ∀ x3 : Int, (Lit.int .i64 x3).wf = true → ∀ x4 : Int, (Lit.int .i64 x4).wf = true → ∀ x5 : Int, (Lit.int .i64 x5).wf = true → ∀ (m6 : Nat) (f6 : Nat → List AV), m6 ≤ 1048576 → (∀ i, m6 ≤ i → f6 i = [.str ⟨#[]⟩, .int .i64 0, .str ⟨#[]⟩, .int .i64 0, .arr 2 0 fun _ => [.str ⟨#[]⟩, .str ⟨#[]⟩], .arr 1 0 fun _ => [.str ⟨#[]⟩], .arr 2 0 fun _ => [.str ⟨#[]⟩, .int .i64 0], .int .i64 0]) → (∀ i, i < m6 → ∀ K : List AV → Prop, (∀ x0 : ByteArray, x0.size ≤ 1048576 → ∀ x1 : Int, (Lit.int .i64 x1).wf = true → ∀ x2 : ByteArray, x2.size ≤ 1048576 → ∀ x3 : Int, (Lit.int .i64 x3).wf = true → ∀ (m4 : Nat) (f4 : Nat → List AV), m4 ≤ 1048576 → (∀ i, m4 ≤ i → f4 i = [.str ⟨#[]⟩, .str ⟨#[]⟩]) → (∀ i, i < m4 → ∀ K : List AV → Prop, (∀ x0 : ByteArray, x0.size ≤ 1048576 → ∀ x1 : ByteArray, x1.size ≤ 1048576 → K [.str x0, .str x1]) → K (f4 i)) → ∀ (m5 : Nat) (f5 : Nat → List AV), m5 ≤ 1048576 → (∀ i, m5 ≤ i → f5 i = [.str ⟨#[]⟩]) → (∀ i, i < m5 → ∀ K : List AV → Prop, (∀ x0 : ByteArray, x0.size ≤ 1048576 → K [.str x0]) → K (f5 i)) → ∀ (m6 : Nat) (f6 : Nat → List AV), m6 ≤ 1048576 → (∀ i, m6 ≤ i → f6 i = [.str ⟨#[]⟩, .int .i64 0]) → (∀ i, i < m6 → ∀ K : List AV → Prop, (∀ x0 : ByteArray, x0.size ≤ 1048576 → ∀ x1 : Int, (Lit.int .i64 x1).wf = true → K [.str x0, .int .i64 x1]) → K (f6 i)) → ∀ x7 : Int, (Lit.int .i64 x7).wf = true → K [.str x0, .int .i64 x1, .str x2, .int .i64 x3, .arr 2 m4 f4, .arr 1 m5 f5, .arr 2 m6 f6, .int .i64 x7]) → K (f6 i)) → ∀ x7 : Int, (Lit.int .i64 x7).wf = true → ∀ (m8 : Nat) (f8 : Nat → List AV), m8 ≤ 1048576 → (∀ i, m8 ≤ i → f8 i = [.int .i64 0, .int .i64 0, .int .i64 0, .int .i64 0, .str ⟨#[]⟩, .int .i64 0, .arr 1 0 fun _ => [.str ⟨#[]⟩]]) → (∀ i, i < m8 → ∀ K : List AV → Prop, (∀ x0 : Int, (Lit.int .i64 x0).wf = true → ∀ x1 : Int, (Lit.int .i64 x1).wf = true → ∀ x2 : Int, (Lit.int .i64 x2).wf = true → ∀ x3 : Int, (Lit.int .i64 x3).wf = true → ∀ x4 : ByteArray, x4.size ≤ 1048576 → ∀ x5 : Int, (Lit.int .i64 x5).wf = true → ∀ (m6 : Nat) (f6 : Nat → List AV), m6 ≤ 1048576 → (∀ i, m6 ≤ i → f6 i = [.str ⟨#[]⟩]) → (∀ i, i < m6 → ∀ K : List AV → Prop, (∀ x0 : ByteArray, x0.size ≤ 1048576 → K [.str x0]) → K (f6 i)) → K [.int .i64 x0, .int .i64 x1, .int .i64 x2, .int .i64 x3, .str x4, .int .i64 x5, .arr 1 m6 f6]) → K (f8 i)) → PureCall Try.prog 29 [.agg [.int .i64 x0, .int .i64 x1, .arr 10 m2 f2], .agg [.int .i64 x3, .int .i64 x4, .int .i64 x5, .arr 8 m6 f6, .int .i64 x7, .arr 7 m8 f8]] (.bool true)) (by kernel_rfl) ?_
  intro x0 r0 x1 r1 m2 f2 hm2 hd2 he2 x3 r3 x4 r4 x5 r5 m6 f6 hm6 hd6 he6 x7 r7 m8 f8 hm8 hd8 he8
  have w0 := wf64 r0
  have w1 := wf64 r1
  have w3 := wf64 r3
  have w4 := wf64 r4
  have w5 := wf64 r5
  have w7 := wf64 r7
  have q2 : ∀ i, i < m2 → f2 i = e68 (d68 (f2 i)) := fun i hi => he2 i hi (fun l => l = e68 (d68 l)) (fun _ _ _ _ _ _ _ _ _ _ _ _ _ _ _ _ _ _ _ => rfl)
  have e2 : ∀ i, i < m2 → f2 i = e68 (d68 (f2 i)) := fun i hi => q2 i hi
  have c2 : Canon (toSl d68 (.arr 10 m2 f2)) := fun i hi => by
    show d68 (f2 i) = default
    rw [hd2 i hi]; rfl
  have q6 : ∀ i, i < m6 → f6 i = e175 (d175 (f6 i)) ∧ W175 (d175 (f6 i)) := fun i hi => he6 i hi (fun l => l = e175 (d175 l) ∧ W175 (d175 l)) (fun _ _ _ _ _ _ _ _ m_1 f_1 h_1 d_1 e_1 m_2 f_2 h_2 d_2 e_2 m_3 f_3 h_3 d_3 e_3 _ _ => ⟨(Go.Vc.c2 rfl (Go.Vc.c2 rfl (Go.Vc.c2 rfl (Go.Vc.c2 rfl (Go.Vc.c2 (nest (e := e160) (d := d160) (fun i hi => by rw [d_1 i hi]; rfl) (fun i hi => e_1 i hi (fun l => l = e160 (d160 l)) (fun _ _ _ _ => rfl))) (Go.Vc.c2 (nest (e := e9) (d := d9) (fun i hi => by rw [d_2 i hi]; rfl) (fun i hi => e_2 i hi (fun l => l = e9 (d9 l)) (fun _ _ => rfl))) (Go.Vc.c2 (nest (e := e164) (d := d164) (fun i hi => by rw [d_3 i hi]; rfl) (fun i hi => e_3 i hi (fun l => l = e164 (d164 l)) (fun _ _ _ _ => rfl))) (Go.Vc.c2 rfl rfl)))))))), ⟨⟨(fun i hi => by show d160 (f_1 i) = default; rw [d_1 i hi]; rfl), h_1⟩, ⟨(fun i hi => by show d9 (f_2 i) = default; rw [d_2 i hi]; rfl), h_2⟩, ⟨(fun i hi => by show d164 (f_3 i) = default; rw [d_3 i hi]; rfl), h_3⟩⟩⟩)
  have e6 : ∀ i, i < m6 → f6 i = e175 (d175 (f6 i)) := fun i hi => (q6 i hi).1
  have c6 : Canon (toSl d175 (.arr 8 m6 f6)) := fun i hi => by
    show d175 (f6 i) = default
    rw [hd6 i hi]; rfl
  have q8 : ∀ i, i < m8 → f8 i = e137 (d137 (f8 i)) ∧ W137 (d137 (f8 i)) := fun i hi => he8 i hi (fun l => l = e137 (d137 l) ∧ W137 (d137 l)) (fun _ _ _ _ _ _ _ _ _ _ _ _ m_4 f_4 h_4 d_4 e_4 => ⟨(Go.Vc.c2 rfl (Go.Vc.c2 rfl (Go.Vc.c2 rfl (Go.Vc.c2 rfl (Go.Vc.c2 rfl (Go.Vc.c2 rfl (Go.Vc.c2 (nest (e := e9) (d := d9) (fun i hi => by rw [d_4 i hi]; rfl) (fun i hi => e_4 i hi (fun l => l = e9 (d9 l)) (fun _ _ => rfl))) rfl))))))), ⟨(fun i hi => by show d9 (f_4 i) = default; rw [d_4 i hi]; rfl), h_4⟩⟩)
  have e8 : ∀ i, i < m8 → f8 i = e137 (d137 (f8 i)) := fun i hi => (q8 i hi).1
  have c8 : Canon (toSl d137 (.arr 7 m8 f8)) := fun i hi => by
    show d137 (f8 i) = default
    rw [hd8 i hi]; rfl
  have h := (pc29 x0 x1 (toSl d68 (.arr 10 m2 f2)) x3 x4 x5 (toSl d175 (.arr 8 m6 f6)) x7 (toSl d137 (.arr 7 m8 f8)) (by omega)).weak (l1 (aG (l1 cI (l1 cI (l1 (slLe rfl e2) l0)))) (l1 (aG (l1 cI (l1 cI (l1 cI (l1 (slLe rfl e6) (l1 cI (l1 (slLe rfl e8) l0))))))) l0))
  rw [law29 x0 x1 (toSl d68 (.arr 10 m2 f2)) x3 x4 x5 (toSl d175 (.arr 8 m6 f6)) x7 (toSl d137 (.arr 7 m8 f8)) (wf64 r0) (wf64 r1) c2 hm2 (wf64 r3) (wf64 r4) (wf64 r5) c6 hm6 (fun i hi => (q6 i hi).2) (wf64 r7) c8 hm8 (fun i hi => (q8 i hi).2)] at h
  exact h
theorem tapeRests_lifted (os : Os) (started : os.Started) (H : Type) (enc : TypeId × Value → H) (F : Stop.Interp) :
    ReturnsInHanded {} Try.checked os 29 .any ((Rows.OpenSpec.upto Rows.tapeRestsSpec).pre6 enc Try.prog Try.f29 Rows.tapeRestsUptoRow.domain false) (((Rows.OpenSpec.upto Rows.tapeRestsSpec).at F).post enc Try.prog Try.f29 false true false false) := by
  refine returnsInHanded_of_cond (C := Try.checked) (s := Rows.OpenSpec.upto Rows.tapeRestsSpec) (k := Rows.uptoSmall) rfl Try.own started (by kernel_rfl) Try.func29
    (OpenSpec.witness (enc := enc) (C := Try.checked) (s := Rows.OpenSpec.upto Rows.tapeRestsSpec) (k := Rows.uptoSmall) rfl false ⟨#[], #[.agg #[.int .i64 0, .int .i64 0, .slice none 0 0], .agg #[.int .i64 0, .int .i64 0, .int .i64 0, .slice none 0 0, .int .i64 0, .slice none 0 0]], []⟩ 8 (by kernel_rfl) (by kernel_rfl) (by kernel_rfl)
      (x := ([.agg [.lit (.int .i64 0), .lit (.int .i64 0), .nil], .agg [.lit (.int .i64 0), .lit (.int .i64 0), .agg [.agg [.lit (.int .i64 0), .nil], .lit (.int .i64 0), .nil]]], [], [])) (by kernel_rfl) rfl (by kernel_rfl)) ?_
  intro W base args ds gs before hval hW _ hk _
  exact law_contract (P := Try.prog) (fn := Try.f29) (s := Rows.tapeRestsSpec) (n := 9) (B := 1048576) (bulk := Rows.uptoBulk) (tb := 4) (ts := [38, 35]) (by decide) (bulk_ok H) rfl jf2 (by kernel_rfl) (by kernel_rfl) rfl (by kernel_rfl) rfl (fun ds h => by
    match ds, h with
    | [d1, d2], _ => rfl) pure29 W base args ds gs before hval hW (fun d hd => bulk_small hk d (by simp [hd]))
theorem joined29 : joinedFacts Try.prog 29 Try.f29 Rows.tapeRestsSpec Rows.tapeRestsUptoRow = true :=
  joined_of (by kernel_rfl) jf2 jf3 (by kernel_rfl) (by kernel_rfl) rfl jf7 rfl jf9 (by kernel_rfl) (by kernel_rfl) (by kernel_rfl) (by kernel_rfl) (by kernel_rfl) (by kernel_rfl) (by kernel_rfl) (by kernel_rfl) (by kernel_rfl)
    (by kernel_rfl) (by kernel_rfl) (by kernel_rfl) (by kernel_rfl) (by rw [jf23]; rfl) rfl jf25 jf26 (by rw [jf27]; rfl) (by rw [jf28]; rfl) (by kernel_rfl) (by kernel_rfl) (by kernel_rfl) (by kernel_rfl)
theorem tapeRests_holds : Rows.TapeRestsUptoSaid :=
  OpenClaim.holds_of_cond 29 Try.f29 rfl rfl rfl rfl rfl rfl rfl ⟨rfl, rfl, rfl, rfl, rfl⟩ rfl rfl rfl rfl rfl (by kernel_rfl) Try.func29 joined29
    (of_decide_eq_true (by kernel_rfl)) (by unfold Func.isWrapper; first | (rw [if_pos (by decide +kernel)]; kernel_rfl) | (rw [if_neg (by decide +kernel)]; exact ⟨rfl, rfl⟩))
    (fun os started H enc _ F => tapeRests_lifted os started H enc F)
end Go.Proofs.Ytchhfojblmceiaa
