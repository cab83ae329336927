/-
  rostrum/rostrumlaw.TapeCrashes: answers as the document does, where all that comes in is of bulk at most 1048576. No condition but the bulk.
-/
import Derived.Test.YtchhfojblmceiaaRows
import Derived.Test.YtchhfojblmceiaaHead
import Derived.Test.YtchhfojblmceiaaWd
import Derived.Test.YtchhfojblmceiaaP8
import Derived.ProofKit
namespace Go.Proofs.Ytchhfojblmceiaa
open Go Go.Vc Go.RowKit Go.ChangeShapes Go.WideShapes Go.ChangeAt
set_option maxRecDepth 100000
theorem pure8 : shArgs Try.prog 1048576 9 [45, 3] fun xs => PureCall Try.prog 8 xs (.bool true) := by
  refine Eq.mpr (β := ∀ (m0 : Nat) (f0 : Nat → List AV), m0 ≤ 1048576 → (∀ i, m0 ≤ i → f0 i = [.int .u8 0]) → (∀ i, i < m0 → ∀ K : List AV → Prop, (∀ x0 : Int, (Lit.int .u8 x0).wf = true → K [.int .u8 x0]) → K (f0 i)) → ∀ x1 : Int, (Lit.int .i64 x1).wf = true → ∀ x2 : Int, (Lit.int .i64 x2).wf = true → PureCall Try.prog 8 [.agg [.arr 1 m0 f0, .int .i64 x1], .int .i64 x2] (.bool true)) (by kernel_rfl) ?_
  intro m0 f0 hm0 hd0 he0 x1 r1 x2 r2
  have w1 := wf64 r1
  have w2 := wf64 r2
  have q0 : ∀ i, i < m0 → f0 i = e5 (d5 (f0 i)) := fun i hi => he0 i hi (fun l => l = e5 (d5 l)) (fun _ _ => rfl)
  have e0 : ∀ i, i < m0 → f0 i = e5 (d5 (f0 i)) := fun i hi => q0 i hi
  have c0 : Canon (toSl d5 (.arr 1 m0 f0)) := fun i hi => by
    show d5 (f0 i) = default
    rw [hd0 i hi]; rfl
  have h := (pc8 (toSl d5 (.arr 1 m0 f0)) x1 x2).weak (l1 (aG (l1 (slLe rfl e0) (l1 cI l0))) (l1 aI l0))
  rw [law8 (toSl d5 (.arr 1 m0 f0)) x1 x2 c0 hm0 (wf64 r1) (wf64 r2)] at h
  exact h
theorem tapeCrashes_lifted (os : Os) (started : os.Started) (H : Type) (enc : TypeId × Value → H) (F : Stop.Interp) :
    ReturnsInHanded {} Try.checked os 8 .any ((Rows.OpenSpec.upto Rows.tapeCrashesSpec).pre6 enc Try.prog Try.f8 Rows.tapeCrashesUptoRow.domain false) (((Rows.OpenSpec.upto Rows.tapeCrashesSpec).at F).post enc Try.prog Try.f8 false true false false) := by
  refine returnsInHanded_of_cond (C := Try.checked) (s := Rows.OpenSpec.upto Rows.tapeCrashesSpec) (k := Rows.uptoSmall) rfl Try.own started (by kernel_rfl) Try.func8
    (OpenSpec.witness (enc := enc) (C := Try.checked) (s := Rows.OpenSpec.upto Rows.tapeCrashesSpec) (k := Rows.uptoSmall) rfl false ⟨#[], #[.agg #[.slice none 0 0, .int .i64 0], .int .i64 0], []⟩ 8 (by kernel_rfl) (by kernel_rfl) (by kernel_rfl)
      (x := ([.agg [.nil, .lit (.int .i64 0)], .lit (.int .i64 0)], [], [])) (by kernel_rfl) rfl (by kernel_rfl)) ?_
  intro W base args ds gs before hval hW _ hk _
  exact law_contract (P := Try.prog) (fn := Try.f8) (s := Rows.tapeCrashesSpec) (n := 9) (B := 1048576) (bulk := Rows.uptoBulk) (tb := 4) (ts := [45, 3]) (by decide) (bulk_ok H) rfl jf2 (by kernel_rfl) (by kernel_rfl) rfl (by kernel_rfl) rfl (fun ds h => by
    match ds, h with
    | [d1, d2], _ => rfl) pure8 W base args ds gs before hval hW (fun d hd => bulk_small hk d (by simp [hd]))
theorem joined8 : joinedFacts Try.prog 8 Try.f8 Rows.tapeCrashesSpec Rows.tapeCrashesUptoRow = true :=
  joined_of (by kernel_rfl) jf2 jf3 (by kernel_rfl) (by kernel_rfl) rfl jf7 rfl jf9 (by kernel_rfl) (by kernel_rfl) (by kernel_rfl) (by kernel_rfl) (by kernel_rfl) (by kernel_rfl) (by kernel_rfl) (by kernel_rfl) (by kernel_rfl)
    (by kernel_rfl) (by kernel_rfl) (by kernel_rfl) (by kernel_rfl) (by rw [jf23]; rfl) rfl jf25 jf26 (by rw [jf27]; rfl) (by rw [jf28]; rfl) (by kernel_rfl) (by kernel_rfl) (by kernel_rfl) (by kernel_rfl)
theorem tapeCrashes_holds : Rows.TapeCrashesUptoSaid :=
  OpenClaim.holds_of_cond 8 Try.f8 rfl rfl rfl rfl rfl rfl rfl ⟨rfl, rfl, rfl, rfl, rfl⟩ rfl rfl rfl rfl rfl (by kernel_rfl) Try.func8 joined8
    (of_decide_eq_true (by kernel_rfl)) (by unfold Func.isWrapper; first | (rw [if_pos (by decide +kernel)]; kernel_rfl) | (rw [if_neg (by decide +kernel)]; exact ⟨rfl, rfl⟩))
    (fun os started H enc _ F => tapeCrashes_lifted os started H enc F)
end Go.Proofs.Ytchhfojblmceiaa
