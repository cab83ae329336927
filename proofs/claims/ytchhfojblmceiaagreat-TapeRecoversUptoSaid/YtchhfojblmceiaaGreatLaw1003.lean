/-
  rostrum/rostrumlaw.TapeRecovers: answers as the document does, where all that comes in is of bulk at most 1048576. No condition but the bulk.
-/
import Derived.Test.YtchhfojblmceiaaGreatRows
import Derived.Test.YtchhfojblmceiaaGreatHead
import Derived.Test.YtchhfojblmceiaaGreatWd
import Derived.Test.YtchhfojblmceiaaGreatP33
import Derived.ProofKit
namespace Go.Proofs.YtchhfojblmceiaaGreat
open Go Go.Vc Go.RowKit Go.ChangeShapes Go.WideShapes Go.ChangeAt
set_option maxRecDepth 100000
theorem pure1003 : shArgs Tryz.prog 1048576 9 [24] fun xs => PureCall Tryz.prog 3 xs (.bool true) := by
  refine Eq.mpr (β := ∀ (m0 : Nat) (f0 : Nat → List AV), m0 ≤ 1048576 → (∀ i, m0 ≤ i → f0 i = [.int .u8 0]) → (∀ i, i < m0 → ∀ K : List AV → Prop, (∀ x0 : Int, (Lit.int .u8 x0).wf = true → K [.int .u8 x0]) → K (f0 i)) → ∀ x1 : Int, (Lit.int .i64 x1).wf = true → PureCall Tryz.prog 3 [.agg [.arr 1 m0 f0, .int .i64 x1]] (.bool true)) (by kernel_rfl) ?_
  intro m0 f0 hm0 hd0 he0 x1 r1
  have w1 := wf64 r1
  have q0 : ∀ i, i < m0 → f0 i = e5 (d5 (f0 i)) := fun i hi => he0 i hi (fun l => l = e5 (d5 l)) (fun _ _ => rfl)
  have e0 : ∀ i, i < m0 → f0 i = e5 (d5 (f0 i)) := fun i hi => q0 i hi
  have c0 : Canon (toSl d5 (.arr 1 m0 f0)) := fun i hi => by
    show d5 (f0 i) = default
    rw [hd0 i hi]; rfl
  have u0 : U8 (toSl d5 (.arr 1 m0 f0)) := fun i => by
    show 0 ≤ d5 (f0 i) ∧ d5 (f0 i) ≤ 255
    rcases Nat.lt_or_ge i m0 with h | h
    · exact he0 i h (fun l => 0 ≤ d5 l ∧ d5 l ≤ 255) (fun x r => wf8 r)
    · rw [hd0 i h]; decide
  have h0 : PureCall Tryz.prog 3 [.agg [ofSl 1 e5 (toSl d5 (.arr 1 m0 f0)), .int .i64 x1]] (.bool (g1003 (toSl d5 (.arr 1 m0 f0)) x1)) := PureCall.fine fun hf => pc1003 (toSl d5 (.arr 1 m0 f0)) (by show _ ≤ _; simp only [toSl]; omega) hf.1.1 x1 u0
  have h := h0.weak (l1 (aG (l1 (slLe rfl e0) (l1 cI l0))) l0)
  rw [law1003 (toSl d5 (.arr 1 m0 f0)) x1 c0 hm0 u0 (wf64 r1)] at h
  exact h
theorem tapeRecovers_lifted (os : Os) (started : os.Started) (H : Type) (enc : TypeId × Value → H) (F : Stop.Interp) :
    ReturnsInHanded {} Tryz.checked os 3 .any ((Rows.OpenSpec.upto Rows.tapeRecoversSpec).pre6 enc Tryz.prog Tryz.f3 Rows.tapeRecoversUptoRow.domain false) (((Rows.OpenSpec.upto Rows.tapeRecoversSpec).at F).post enc Tryz.prog Tryz.f3 false true false false) := by
  refine returnsInHanded_of_cond (C := Tryz.checked) (s := Rows.OpenSpec.upto Rows.tapeRecoversSpec) (k := Rows.uptoSmall) rfl Tryz.own started (by kernel_rfl) Tryz.func3
    (OpenSpec.witness (enc := enc) (C := Tryz.checked) (s := Rows.OpenSpec.upto Rows.tapeRecoversSpec) (k := Rows.uptoSmall) rfl false ⟨#[], #[.agg #[.slice none 0 0, .int .i64 0]], []⟩ 8 (by kernel_rfl) (by kernel_rfl) (by kernel_rfl)
      (x := ([.agg [.nil, .lit (.int .i64 0)]], [], [])) (by kernel_rfl) rfl (by kernel_rfl)) ?_
  intro W base args ds gs before hval hW _ hk _
  exact law_contract (P := Tryz.prog) (fn := Tryz.f3) (s := Rows.tapeRecoversSpec) (n := 9) (B := 1048576) (bulk := Rows.uptoBulk) (tb := 4) (ts := [24]) (by decide) (bulk_ok H) rfl jf2 (by kernel_rfl) (by kernel_rfl) rfl (by kernel_rfl) rfl (fun ds h => by
    match ds, h with
    | [d], _ => rfl) pure1003 W base args ds gs before hval hW (fun d hd => bulk_small hk d (by simp [hd]))
theorem joined1003 : joinedFacts Tryz.prog 3 Tryz.f3 Rows.tapeRecoversSpec Rows.tapeRecoversUptoRow = true :=
  joined_of (by kernel_rfl) jf2 jf3 (by kernel_rfl) (by kernel_rfl) rfl jf7 rfl jf9 (by kernel_rfl) (by kernel_rfl) (by kernel_rfl) (by kernel_rfl) (by kernel_rfl) (by kernel_rfl) (by kernel_rfl) (by kernel_rfl) (by kernel_rfl)
    (by kernel_rfl) (by kernel_rfl) (by kernel_rfl) (by kernel_rfl) (by rw [jf23]; rfl) rfl jf25 jf26 (by rw [jf27]; rfl) (by rw [jf28]; rfl) (by kernel_rfl) (by kernel_rfl) (by kernel_rfl) (by kernel_rfl)
theorem tapeRecovers_holds : Rows.TapeRecoversUptoSaid :=
  OpenClaim.holds_of_cond 3 Tryz.f3 rfl rfl rfl rfl rfl rfl rfl ⟨rfl, rfl, rfl, rfl, rfl⟩ rfl rfl rfl rfl rfl (by kernel_rfl) Tryz.func3 joined1003
    (of_decide_eq_true (by kernel_rfl)) (by unfold Func.isWrapper; first | (rw [if_pos (by decide +kernel)]; kernel_rfl) | (rw [if_neg (by decide +kernel)]; exact ⟨rfl, rfl⟩))
    (fun os started H enc _ F => tapeRecovers_lifted os started H enc F)
end Go.Proofs.YtchhfojblmceiaaGreat
