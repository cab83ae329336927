/-
  Walks: what functions of the program answer, as functions.
-/
import Derived.Test.YtchhfojblmceiaaCl
import Derived.Test.YtchhfojblmceiaaU1
import Derived.Test.YtchhfojblmceiaaU2
import Derived.Test.YtchhfojblmceiaaL1
namespace Go.Proofs.Ytchhfojblmceiaa
open Go Go.Vc Go.RowKit
set_option maxRecDepth 100000
set_option maxHeartbeats 4000000
noncomputable def g12 (x0 : Int) (x1 : Int) (x2 : Sl T68) : Bool := ((g53 (g54_0 x0) (g54_1 x1) (g54_2 x2)) == (g55 x0 x1 x2))
noncomputable abbrev g12_e : Env := mkE [(53, s53), (54, s54), (55, s55)]
theorem g12_e_ok : g12_e.Ok := mkE_ok ⟨k53, k54, k55, trivial⟩
theorem pc12 (x0 : Int) (x1 : Int) (x2 : Sl T68) : PureCall Try.prog 12 [.agg [.int .i64 x0, .int .i64 x1, ofSl 10 e68 x2]] (.bool (g12 x0 x1 x2)) := by
  refine PureCall.fine fun hf => ?_
  have hf_x2 : Fine (ofSl 10 e68 x2) := hf.1.2.2.1
  have hn_x2 : x2.n ≤ 549755813888 := hf_x2.len
  refine pure_of_WP (E := g12_e) g12_e_ok Try.func12 rfl _ _ ?_
  refine WP.step g12_e_ok ⟨[U, .ptr 0 0, .bool false, U, U, U, U, U, U, U, U, U, U], [[.int .i64 x0, .int .i64 x1, ofSl 10 e68 x2]]⟩ ((((.ptr 0 0 : AV) = .ptr 0 0) ∧ (false = false) ∧ True) ∧ ((((x0 : Int) = x0) ∧ ((x1 : Int) = x1) ∧ (x2.n = x2.n ∧ ∀ i, i < x2.n → e68 (x2.at' i) = e68 (x2.at' i)) ∧ True) ∧ True) ∧ true = true) (by kernel_rfl) ⟨⟨rfl, rfl, trivial⟩, ⟨⟨rfl, rfl, ⟨rfl, fun _ _ => rfl⟩, trivial⟩, trivial⟩, rfl⟩ ?_
  refine WP.step g12_e_ok ⟨[U, .ptr 0 0, .bool false, .int .i64 (g53 (g54_0 x0) (g54_1 x1) (g54_2 x2)), U, U, U, U, U, U, U, U, U], [[.int .i64 x0, .int .i64 x1, ofSl 10 e68 x2]]⟩ (okSl e68 d68 (ofSl 10 e68 x2) ∧ (okSl e68 d68 (ofSl 10 e68 (g54_2 x2)) ∧ ((((.ptr 0 0 : AV) = .ptr 0 0) ∧ (false = false) ∧ (((g53 (g54_0 x0) (g54_1 x1) (g54_2 x2)) : Int) = (g53 (g54_0 x0) (g54_1 x1) (g54_2 x2))) ∧ True) ∧ ((((x0 : Int) = x0) ∧ ((x1 : Int) = x1) ∧ (x2.n = x2.n ∧ ∀ i, i < x2.n → e68 (x2.at' i) = e68 (x2.at' i)) ∧ True) ∧ True) ∧ true = true))) (by kernel_rfl) ⟨(okOf ed68 10 x2), ⟨(okOf ed68 10 (g54_2 x2)), ⟨⟨rfl, rfl, rfl, trivial⟩, ⟨⟨rfl, rfl, ⟨rfl, fun _ _ => rfl⟩, trivial⟩, trivial⟩, rfl⟩⟩⟩ ?_
  refine WP.step g12_e_ok ⟨[U, U, .bool false, .int .i64 (g53 (g54_0 x0) (g54_1 x1) (g54_2 x2)), .int .i64 (g55 x0 x1 x2), U, U, U, U, U, U, U, U], []⟩ (okSl e68 d68 (ofSl 10 e68 x2) ∧ (((false = false) ∧ (((g53 (g54_0 x0) (g54_1 x1) (g54_2 x2)) : Int) = (g53 (g54_0 x0) (g54_1 x1) (g54_2 x2))) ∧ (((g55 x0 x1 x2) : Int) = (g55 x0 x1 x2)) ∧ True) ∧ True ∧ true = true)) (by kernel_rfl) ⟨(okOf ed68 10 x2), ⟨⟨rfl, rfl, rfl, trivial⟩, trivial, rfl⟩⟩ ?_
  refine WP.step g12_e_ok ⟨[U, U, .bool ((g53 (g54_0 x0) (g54_1 x1) (g54_2 x2)) == (g55 x0 x1 x2)), U, U, U, U, U, U, U, U, U, U], []⟩ (((((g53 (g54_0 x0) (g54_1 x1) (g54_2 x2)) == (g55 x0 x1 x2)) = ((g53 (g54_0 x0) (g54_1 x1) (g54_2 x2)) == (g55 x0 x1 x2))) ∧ True) ∧ True ∧ true = true) (by kernel_rfl) ⟨⟨rfl, trivial⟩, trivial, rfl⟩ ?_
  exact WP.retP (True ∧ ((.bool ((g53 (g54_0 x0) (g54_1 x1) (g54_2 x2)) == (g55 x0 x1 x2)) : AV) = .bool (g12 x0 x1 x2))) (by kernel_rfl) ⟨trivial, rfl⟩
noncomputable def s12 : Ans := fun xs => match xs with
  | [.agg [.int .i64 x0, .int .i64 x1, y2]] => bif isSl 10 y2 then some (some (okSl e68 d68 y2), .bool (g12 x0 x1 (toSl d68 y2))) else none
  | _ => none
theorem k12 : SOk Try.prog 12 s12 := ⟨⟨_, _, Try.func12, rfl, by kernel_rfl⟩, fun args pre r h hp => by
  unfold s12 at h
  split at h
  · obtain ⟨b0, h⟩ := cond_some h
    cases h
    exact (pc12 _ _ _).weak (l1 (aG (l1 cI (l1 cI (l1 (slLe b0 hp.1) l0)))) l0)
  · cases h⟩
end Go.Proofs.Ytchhfojblmceiaa
