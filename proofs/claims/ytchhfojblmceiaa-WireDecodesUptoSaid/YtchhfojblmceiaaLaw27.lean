/-
  rostrum/rostrumlaw.WireDecodes: answers as the document does, where all that comes in is of bulk at most 1048576. No condition but the bulk.
-/
import Derived.Test.YtchhfojblmceiaaRows
import Derived.Test.YtchhfojblmceiaaHead
import Derived.Test.YtchhfojblmceiaaWd
import Derived.Test.YtchhfojblmceiaaP27d
import Derived.ProofKit
namespace Go.Proofs.Ytchhfojblmceiaa
open Go Go.Vc Go.RowKit Go.ChangeShapes Go.WideShapes Go.ChangeAt
set_option maxRecDepth 100000
theorem pure27 : shArgs Try.prog 1048576 9 [43] fun xs => PureCall Try.prog 27 xs (.bool true) := by
  refine Eq.mpr (β := ∀ (m0 : Nat) (f0 : Nat → List AV), m0 ≤ 1048576 → (∀ i, m0 ≤ i → f0 i = [.int .u8 0]) → (∀ i, i < m0 → ∀ K : List AV → Prop, (∀ x0 : Int, (Lit.int .u8 x0).wf = true → K [.int .u8 x0]) → K (f0 i)) → PureCall Try.prog 27 [.arr 1 m0 f0] (.bool true)) (by kernel_rfl) ?_
  intro m0 f0 hm0 hd0 he0
  have q0 : ∀ i, i < m0 → f0 i = e5 (d5 (f0 i)) := fun i hi => he0 i hi (fun l => l = e5 (d5 l)) (fun _ _ => rfl)
  have e0 : ∀ i, i < m0 → f0 i = e5 (d5 (f0 i)) := fun i hi => q0 i hi
  have c0 : Canon (toSl d5 (.arr 1 m0 f0)) := fun i hi => by
    show d5 (f0 i) = default
    rw [hd0 i hi]; rfl
  have u0 : U8 (toSl d5 (.arr 1 m0 f0)) := fun i => by
    show 0 ≤ d5 (f0 i) ∧ d5 (f0 i) ≤ 255
    rcases Nat.lt_or_ge i m0 with h | h
    · exact he0 i h (fun l => 0 ≤ d5 l ∧ d5 l ≤ 255) (fun x r => wf8 r)
    · rw [hd0 i h]; decide
  have h0 : PureCall Try.prog 27 [ofSl 1 e5 (toSl d5 (.arr 1 m0 f0))] (.bool (g27 (toSl d5 (.arr 1 m0 f0)))) := PureCall.fine fun hf => pc27 (toSl d5 (.arr 1 m0 f0)) (by show _ ≤ _; simp only [toSl]; omega) hf.1 u0
  have h := h0.weak (l1 (slLeA rfl e0) l0)
  rw [law27 (toSl d5 (.arr 1 m0 f0)) c0 hm0 u0] at h
  exact h
theorem wireDecodes_lifted (os : Os) (started : os.Started) (H : Type) (enc : TypeId × Value → H) (F : Stop.Interp) :
    ReturnsInHanded {} Try.checked os 27 .any ((Rows.OpenSpec.upto Rows.wireDecodesSpec).pre6 enc Try.prog Try.f27 Rows.wireDecodesUptoRow.domain false) (((Rows.OpenSpec.upto Rows.wireDecodesSpec).at F).post enc Try.prog Try.f27 false true false false) := by
  refine returnsInHanded_of_cond (C := Try.checked) (s := Rows.OpenSpec.upto Rows.wireDecodesSpec) (k := Rows.uptoSmall) rfl Try.own started (by kernel_rfl) Try.func27
    (OpenSpec.witness (enc := enc) (C := Try.checked) (s := Rows.OpenSpec.upto Rows.wireDecodesSpec) (k := Rows.uptoSmall) rfl false ⟨#[], #[.slice none 0 0], []⟩ 8 (by kernel_rfl) (by kernel_rfl) (by kernel_rfl)
      (x := ([.nil], [], [])) (by kernel_rfl) rfl (by kernel_rfl)) ?_
  intro W base args ds gs before hval hW _ hk _
  exact law_contract (P := Try.prog) (fn := Try.f27) (s := Rows.wireDecodesSpec) (n := 9) (B := 1048576) (bulk := Rows.uptoBulk) (tb := 4) (ts := [43]) (by decide) (bulk_ok H) rfl jf2 (by kernel_rfl) (by kernel_rfl) rfl (by kernel_rfl) rfl (fun ds h => by
    match ds, h with
    | [d], _ => rfl) pure27 W base args ds gs before hval hW (fun d hd => bulk_small hk d (by simp [hd]))
theorem joined27 : joinedFacts Try.prog 27 Try.f27 Rows.wireDecodesSpec Rows.wireDecodesUptoRow = true :=
  joined_of (by kernel_rfl) jf2 jf3 (by kernel_rfl) (by kernel_rfl) rfl jf7 rfl jf9 (by kernel_rfl) (by kernel_rfl) (by kernel_rfl) (by kernel_rfl) (by kernel_rfl) (by kernel_rfl) (by kernel_rfl) (by kernel_rfl) (by kernel_rfl)
    (by kernel_rfl) (by kernel_rfl) (by kernel_rfl) (by kernel_rfl) (by rw [jf23]; rfl) rfl jf25 jf26 (by rw [jf27]; rfl) (by rw [jf28]; rfl) (by kernel_rfl) (by kernel_rfl) (by kernel_rfl) (by kernel_rfl)
theorem wireDecodes_holds : Rows.WireDecodesUptoSaid :=
  OpenClaim.holds_of_cond 27 Try.f27 rfl rfl rfl rfl rfl rfl rfl ⟨rfl, rfl, rfl, rfl, rfl⟩ rfl rfl rfl rfl rfl (by kernel_rfl) Try.func27 joined27
    (of_decide_eq_true (by kernel_rfl)) (by unfold Func.isWrapper; first | (rw [if_pos (by decide +kernel)]; kernel_rfl) | (rw [if_neg (by decide +kernel)]; exact ⟨rfl, rfl⟩))
    (fun os started H enc _ F => wireDecodes_lifted os started H enc F)
end Go.Proofs.Ytchhfojblmceiaa
