/-
  slices.Clone, at the types of the program: new memory with the same data.
-/
import Derived.Test.YtchhfojblmceiaaGreatTy
namespace Go.Proofs.YtchhfojblmceiaaGreat
open Go Go.Vc Go.RowKit
set_option maxRecDepth 100000
theorem pc130 (x0 : Sl T68) : PureCall Tryz.prog 36 [ofSl 10 e68 x0] (.blk false 10 x0.n (fun i => e68 (x0.at' i))) := by
  refine PureCall.fine fun hf => ?_
  have hf_x0 : Fine (ofSl 10 e68 x0) := hf.1
  have hn_x0 : x0.n ≤ 549755813888 := hf_x0.len
  refine pure_of_WP (E := mkE []) (mkE_ok trivial) Tryz.func36 rfl _ _ ?_
  refine WP.step (mkE_ok trivial) ⟨[ofSl 10 e68 x0, U, .nils, U, U, U, U, U], []⟩ (((x0.n = x0.n ∧ ∀ i, i < x0.n → e68 (x0.at' i) = e68 (x0.at' i)) ∧ ((.nils : AV) = .nils) ∧ True) ∧ True ∧ true = true) (by kernel_rfl) ⟨⟨⟨rfl, fun _ _ => rfl⟩, rfl, trivial⟩, trivial, rfl⟩ ?_
  refine WP.joinB ⟨[ofSl 10 e68 x0, U, .nils, U, U, U, U, U], []⟩ ?_ ?_
  · refine WP.eqNil (T := 42) (mkE_ok (l := []) trivial) rfl rfl rfl rfl rfl rfl rfl rfl rfl (by show 3 < 8; omega) fun q hq => ?_
    refine WP.condR q rfl (fun h => ?_) (fun h => ?_)
    · refine WP.step (mkE_ok trivial) ⟨[ofSl 10 e68 x0, U, .nils, U, U, U, U, U], []⟩ (((x0.n = x0.n ∧ ∀ i, i < x0.n → e68 (x0.at' i) = e68 (x0.at' i)) ∧ ((.nils : AV) = .nils) ∧ True) ∧ True ∧ true = true) (by kernel_rfl) ⟨⟨⟨rfl, fun _ _ => rfl⟩, rfl, trivial⟩, trivial, rfl⟩ ?_
      exact WP.retP (True ∧ (x0.n = 0)) (by kernel_rfl) ⟨trivial, hq h⟩
    · exact WP.skipP (((x0.n = x0.n ∧ ∀ i, i < x0.n → e68 (x0.at' i) = e68 (x0.at' i)) ∧ ((.nils : AV) = .nils) ∧ True) ∧ True ∧ true = true) (by kernel_rfl) ⟨⟨⟨rfl, fun _ _ => rfl⟩, rfl, trivial⟩, trivial, rfl⟩
  · refine WP.step (mkE_ok trivial) ⟨[ofSl 10 e68 x0, U, .own 0 x0.n, U, U, U, U, U], [[.blk false 10 x0.n (fun i => e68 (x0.at' i))]]⟩ (∃ h : Nat → List AV, (∀ i, i < 0 → nzL (([] : List (List AV)).getD i []) (h i)) ∧ ((0 : Nat) = 0) ∧ (0 + x0.n ≤ 549755813888) ∧ ∃ h' : Nat → List AV, (∀ i, i < 0 + x0.n → appF 0 h (fun i => e68 (x0.at' i)) i = h' i) ∧ (((x0.n = x0.n ∧ ∀ i, i < x0.n → e68 (x0.at' i) = e68 (x0.at' i)) ∧ ((.own 0 (0 + x0.n) : AV) = .own 0 x0.n) ∧ True) ∧ (((0 + x0.n = x0.n ∧ ∀ i, i < x0.n → nzL (h' i) (e68 (x0.at' i))) ∧ True) ∧ True) ∧ true = true)) (by kernel_rfl)
      ⟨fun _ => [], fun i h => absurd h (Nat.not_lt_zero i), rfl, by omega, fun i => e68 (x0.at' i), fun i _ => appNil _ _ i, ⟨⟨rfl, fun _ _ => rfl⟩, (by rw [Nat.zero_add]), trivial⟩, ⟨⟨⟨Nat.zero_add _, fun _ _ => nzL_refl _⟩, trivial⟩, trivial⟩, rfl⟩ ?_
    exact WP.retP (True ∧ ((x0.n : Nat) = x0.n ∧ x0.n = x0.n ∧ ∀ i, i < x0.n → e68 (x0.at' i) = e68 (x0.at' i))) (by kernel_rfl) ⟨trivial, rfl, rfl, fun _ _ => rfl⟩
theorem pc160 (x0 : Sl Int) : PureCall Tryz.prog 59 [ofSl 1 e5 x0] (.blk false 1 x0.n (fun i => e5 (x0.at' i))) := by
  refine PureCall.fine fun hf => ?_
  have hf_x0 : Fine (ofSl 1 e5 x0) := hf.1
  have hn_x0 : x0.n ≤ 549755813888 := hf_x0.len
  refine pure_of_WP (E := mkE []) (mkE_ok trivial) Tryz.func59 rfl _ _ ?_
  refine WP.step (mkE_ok trivial) ⟨[ofSl 1 e5 x0, U, .nils, U, U, U, U, U], []⟩ (((x0.n = x0.n ∧ ∀ i, i < x0.n → e5 (x0.at' i) = e5 (x0.at' i)) ∧ ((.nils : AV) = .nils) ∧ True) ∧ True ∧ true = true) (by kernel_rfl) ⟨⟨⟨rfl, fun _ _ => rfl⟩, rfl, trivial⟩, trivial, rfl⟩ ?_
  refine WP.joinB ⟨[ofSl 1 e5 x0, U, .nils, U, U, U, U, U], []⟩ ?_ ?_
  · refine WP.eqNil (T := 22) (mkE_ok (l := []) trivial) rfl rfl rfl rfl rfl rfl rfl rfl rfl (by show 3 < 8; omega) fun q hq => ?_
    refine WP.condR q rfl (fun h => ?_) (fun h => ?_)
    · refine WP.step (mkE_ok trivial) ⟨[ofSl 1 e5 x0, U, .nils, U, U, U, U, U], []⟩ (((x0.n = x0.n ∧ ∀ i, i < x0.n → e5 (x0.at' i) = e5 (x0.at' i)) ∧ ((.nils : AV) = .nils) ∧ True) ∧ True ∧ true = true) (by kernel_rfl) ⟨⟨⟨rfl, fun _ _ => rfl⟩, rfl, trivial⟩, trivial, rfl⟩ ?_
      exact WP.retP (True ∧ (x0.n = 0)) (by kernel_rfl) ⟨trivial, hq h⟩
    · exact WP.skipP (((x0.n = x0.n ∧ ∀ i, i < x0.n → e5 (x0.at' i) = e5 (x0.at' i)) ∧ ((.nils : AV) = .nils) ∧ True) ∧ True ∧ true = true) (by kernel_rfl) ⟨⟨⟨rfl, fun _ _ => rfl⟩, rfl, trivial⟩, trivial, rfl⟩
  · refine WP.step (mkE_ok trivial) ⟨[ofSl 1 e5 x0, U, .own 0 x0.n, U, U, U, U, U], [[.blk false 1 x0.n (fun i => e5 (x0.at' i))]]⟩ (∃ h : Nat → List AV, (∀ i, i < 0 → nzL (([] : List (List AV)).getD i []) (h i)) ∧ ((0 : Nat) = 0) ∧ (0 + x0.n ≤ 549755813888) ∧ ∃ h' : Nat → List AV, (∀ i, i < 0 + x0.n → appF 0 h (fun i => e5 (x0.at' i)) i = h' i) ∧ (((x0.n = x0.n ∧ ∀ i, i < x0.n → e5 (x0.at' i) = e5 (x0.at' i)) ∧ ((.own 0 (0 + x0.n) : AV) = .own 0 x0.n) ∧ True) ∧ (((0 + x0.n = x0.n ∧ ∀ i, i < x0.n → nzL (h' i) (e5 (x0.at' i))) ∧ True) ∧ True) ∧ true = true)) (by kernel_rfl)
      ⟨fun _ => [], fun i h => absurd h (Nat.not_lt_zero i), rfl, by omega, fun i => e5 (x0.at' i), fun i _ => appNil _ _ i, ⟨⟨rfl, fun _ _ => rfl⟩, (by rw [Nat.zero_add]), trivial⟩, ⟨⟨⟨Nat.zero_add _, fun _ _ => nzL_refl _⟩, trivial⟩, trivial⟩, rfl⟩ ?_
    exact WP.retP (True ∧ ((x0.n : Nat) = x0.n ∧ x0.n = x0.n ∧ ∀ i, i < x0.n → e5 (x0.at' i) = e5 (x0.at' i))) (by kernel_rfl) ⟨trivial, rfl, rfl, fun _ _ => rfl⟩
noncomputable def F130 : Fq := ⟨[.v (.sl E68)], fun x0 => ⟨⟨none, (Kd.blk E68).av x0⟩⟩⟩
theorem k130 : XOk Tryz.prog 36 F130.ans := Fq.ok ⟨_, _, Tryz.func36, rfl, by kernel_rfl⟩ fun x0 _ _ => pc130 x0
noncomputable def F160 : Fq := ⟨[.v (.sl E5)], fun x0 => ⟨⟨none, (Kd.blk E5).av x0⟩⟩⟩
theorem k160 : XOk Tryz.prog 59 F160.ans := Fq.ok ⟨_, _, Tryz.func59, rfl, by kernel_rfl⟩ fun x0 _ _ => pc160 x0
end Go.Proofs.YtchhfojblmceiaaGreat
