/-
  Walks: what functions of the program answer, as functions.
-/
import Derived.Test.YtchhfojblmceiaaCl
import Derived.Test.YtchhfojblmceiaaU1
import Derived.Test.YtchhfojblmceiaaU2
namespace Go.Proofs.Ytchhfojblmceiaa
open Go Go.Vc Go.RowKit
set_option maxRecDepth 100000
set_option maxHeartbeats 4000000
noncomputable def g7 (x0 : Int) (x1 : ByteArray) (x2 : Int) (x3 : Sl ByteArray) : Bool := ((g42 (g43_0 x0) (g43_1 x1) (g43_2 x2) (g43_3 x3)) == (g44 x0 x1 x2 x3))
noncomputable abbrev g7_e : Env := mkE [(42, s42), (43, s43), (44, s44)]
theorem g7_e_ok : g7_e.Ok := mkE_ok ⟨k42, k43, k44, trivial⟩
theorem pc7 (x0 : Int) (x1 : ByteArray) (x2 : Int) (x3 : Sl ByteArray) : PureCall Try.prog 7 [.agg [.int .i64 x0, .str x1, .int .i64 x2, ofSl 1 e9 x3]] (.bool (g7 x0 x1 x2 x3)) := by
  refine PureCall.fine fun hf => ?_
  have hf_x3 : Fine (ofSl 1 e9 x3) := hf.1.2.2.2.1
  have hn_x3 : x3.n ≤ 549755813888 := hf_x3.len
  refine pure_of_WP (E := g7_e) g7_e_ok Try.func7 rfl _ _ ?_
  refine WP.step g7_e_ok ⟨[U, .ptr 0 0, .bool false, U, U, U, U, U, U, U, U, U, U], [[.int .i64 x0, .str x1, .int .i64 x2, ofSl 1 e9 x3]]⟩ ((((.ptr 0 0 : AV) = .ptr 0 0) ∧ (false = false) ∧ True) ∧ ((((x0 : Int) = x0) ∧ ((x1 : ByteArray) = x1) ∧ ((x2 : Int) = x2) ∧ (x3.n = x3.n ∧ ∀ i, i < x3.n → e9 (x3.at' i) = e9 (x3.at' i)) ∧ True) ∧ True) ∧ true = true) (by kernel_rfl) ⟨⟨rfl, rfl, trivial⟩, ⟨⟨rfl, rfl, rfl, ⟨rfl, fun _ _ => rfl⟩, trivial⟩, trivial⟩, rfl⟩ ?_
  refine WP.step g7_e_ok ⟨[U, .ptr 0 0, .bool false, .int .i64 (g42 (g43_0 x0) (g43_1 x1) (g43_2 x2) (g43_3 x3)), U, U, U, U, U, U, U, U, U], [[.int .i64 x0, .str x1, .int .i64 x2, ofSl 1 e9 x3]]⟩ (okSl e9 d9 (ofSl 1 e9 x3) ∧ (okSl e9 d9 (ofSl 1 e9 (g43_3 x3)) ∧ ((((.ptr 0 0 : AV) = .ptr 0 0) ∧ (false = false) ∧ (((g42 (g43_0 x0) (g43_1 x1) (g43_2 x2) (g43_3 x3)) : Int) = (g42 (g43_0 x0) (g43_1 x1) (g43_2 x2) (g43_3 x3))) ∧ True) ∧ ((((x0 : Int) = x0) ∧ ((x1 : ByteArray) = x1) ∧ ((x2 : Int) = x2) ∧ (x3.n = x3.n ∧ ∀ i, i < x3.n → e9 (x3.at' i) = e9 (x3.at' i)) ∧ True) ∧ True) ∧ true = true))) (by kernel_rfl) ⟨(okOf ed9 1 x3), ⟨(okOf ed9 1 (g43_3 x3)), ⟨⟨rfl, rfl, rfl, trivial⟩, ⟨⟨rfl, rfl, rfl, ⟨rfl, fun _ _ => rfl⟩, trivial⟩, trivial⟩, rfl⟩⟩⟩ ?_
  refine WP.step g7_e_ok ⟨[U, U, .bool false, .int .i64 (g42 (g43_0 x0) (g43_1 x1) (g43_2 x2) (g43_3 x3)), .int .i64 (g44 x0 x1 x2 x3), U, U, U, U, U, U, U, U], []⟩ (okSl e9 d9 (ofSl 1 e9 x3) ∧ (((false = false) ∧ (((g42 (g43_0 x0) (g43_1 x1) (g43_2 x2) (g43_3 x3)) : Int) = (g42 (g43_0 x0) (g43_1 x1) (g43_2 x2) (g43_3 x3))) ∧ (((g44 x0 x1 x2 x3) : Int) = (g44 x0 x1 x2 x3)) ∧ True) ∧ True ∧ true = true)) (by kernel_rfl) ⟨(okOf ed9 1 x3), ⟨⟨rfl, rfl, rfl, trivial⟩, trivial, rfl⟩⟩ ?_
  refine WP.step g7_e_ok ⟨[U, U, .bool ((g42 (g43_0 x0) (g43_1 x1) (g43_2 x2) (g43_3 x3)) == (g44 x0 x1 x2 x3)), U, U, U, U, U, U, U, U, U, U], []⟩ (((((g42 (g43_0 x0) (g43_1 x1) (g43_2 x2) (g43_3 x3)) == (g44 x0 x1 x2 x3)) = ((g42 (g43_0 x0) (g43_1 x1) (g43_2 x2) (g43_3 x3)) == (g44 x0 x1 x2 x3))) ∧ True) ∧ True ∧ true = true) (by kernel_rfl) ⟨⟨rfl, trivial⟩, trivial, rfl⟩ ?_
  exact WP.retP (True ∧ ((.bool ((g42 (g43_0 x0) (g43_1 x1) (g43_2 x2) (g43_3 x3)) == (g44 x0 x1 x2 x3)) : AV) = .bool (g7 x0 x1 x2 x3))) (by kernel_rfl) ⟨trivial, rfl⟩
noncomputable def s7 : Ans := fun xs => match xs with
  | [.agg [.int .i64 x0, .str x1, .int .i64 x2, y3]] => bif isSl 1 y3 then some (some (okSl e9 d9 y3), .bool (g7 x0 x1 x2 (toSl d9 y3))) else none
  | _ => none
theorem k7 : SOk Try.prog 7 s7 := ⟨⟨_, _, Try.func7, rfl, by kernel_rfl⟩, fun args pre r h hp => by
  unfold s7 at h
  split at h
  · obtain ⟨b0, h⟩ := cond_some h
    cases h
    exact (pc7 _ _ _ _).weak (l1 (aG (l1 cI (l1 cS (l1 cI (l1 (slLe b0 hp.1) l0))))) l0)
  · cases h⟩
end Go.Proofs.Ytchhfojblmceiaa
