/-
  Walks: what functions of the program answer, as functions.
-/
import Derived.Test.YtchhfojblmceiaaCl
import Derived.Test.YtchhfojblmceiaaU1
import Derived.Test.YtchhfojblmceiaaU2
import Derived.Test.YtchhfojblmceiaaT1
namespace Go.Proofs.Ytchhfojblmceiaa
open Go Go.Vc Go.RowKit
set_option maxRecDepth 100000
set_option maxHeartbeats 4000000
noncomputable def g6_m1 (x0 : Sl Int) (x1 : Int) : Bool := (bif ((g39_1 (g38_0 x0) (g38_1 x1)) == (g40_1 x0 x1)) then (bif (g41 (g39_0_0 (g38_0 x0) (g38_1 x1)) (g39_0_1 (g38_0 x0) (g38_1 x1)) (g40_0_0 x0 x1) (g40_0_1 x0 x1)) then (g41 (g38_0 x0) (g38_1 x1) x0 x1) else false) else false)
noncomputable def g6 (x0 : Sl Int) (x1 : Int) : Bool := (g6_m1 x0 x1)
noncomputable abbrev g6_e : Env := mkE [(38, s38), (39, s39), (40, s40), (41, s41)]
theorem g6_e_ok : g6_e.Ok := mkE_ok ⟨k38, k39, k40, k41, trivial⟩
theorem pc6 (x0 : Sl Int) (x1 : Int) : PureCall Try.prog 6 [.agg [ofSl 1 e5 x0, .int .i64 x1]] (.bool (g6 x0 x1)) := by
  refine PureCall.fine fun hf => ?_
  have hf_x0 : Fine (ofSl 1 e5 x0) := hf.1.1
  have hn_x0 : x0.n ≤ 549755813888 := hf_x0.len
  refine pure_of_WP (E := g6_e) g6_e_ok Try.func6 rfl _ _ ?_
  refine WP.step g6_e_ok ⟨[U, .ptr 0 0, .bool false, U, U, U, U, U, U, U, U, U, U, U, U, U, U, U, U, U, U, U, U, U, U, U, U, U, U, U, U, U, U], [[ofSl 1 e5 x0, .int .i64 x1]]⟩ ((((.ptr 0 0 : AV) = .ptr 0 0) ∧ (false = false) ∧ True) ∧ (((x0.n = x0.n ∧ ∀ i, i < x0.n → e5 (x0.at' i) = e5 (x0.at' i)) ∧ ((x1 : Int) = x1) ∧ True) ∧ True) ∧ true = true) (by kernel_rfl) ⟨⟨rfl, rfl, trivial⟩, ⟨⟨⟨rfl, fun _ _ => rfl⟩, rfl, trivial⟩, trivial⟩, rfl⟩ ?_
  refine WP.step g6_e_ok ⟨[U, .ptr 0 0, .bool false, .ptr 1 0, U, U, U, U, U, U, U, U, U, U, U, U, U, U, U, U, U, U, U, U, U, U, U, U, U, U, U, U, U], [[ofSl 1 e5 x0, .int .i64 x1], [ofSl 1 e5 (g38_0 x0), .int .i64 (g38_1 x1)]]⟩ (okSl e5 d5 (ofSl 1 e5 x0) ∧ ((((.ptr 0 0 : AV) = .ptr 0 0) ∧ (false = false) ∧ ((.ptr 1 0 : AV) = .ptr 1 0) ∧ True) ∧ (((x0.n = x0.n ∧ ∀ i, i < x0.n → e5 (x0.at' i) = e5 (x0.at' i)) ∧ ((x1 : Int) = x1) ∧ True) ∧ (((g38_0 x0).n = (g38_0 x0).n ∧ ∀ i, i < (g38_0 x0).n → e5 ((g38_0 x0).at' i) = e5 ((g38_0 x0).at' i)) ∧ (((g38_1 x1) : Int) = (g38_1 x1)) ∧ True) ∧ True) ∧ true = true)) (by kernel_rfl) ⟨(okOf ed5 1 x0), ⟨⟨rfl, rfl, rfl, trivial⟩, ⟨⟨⟨rfl, fun _ _ => rfl⟩, rfl, trivial⟩, ⟨⟨rfl, fun _ _ => rfl⟩, rfl, trivial⟩, trivial⟩, rfl⟩⟩ ?_
  refine WP.step g6_e_ok ⟨[U, .ptr 0 0, .bool false, .ptr 1 0, .ptr 2 0, .int .i64 (g39_1 (g38_0 x0) (g38_1 x1)), U, U, U, U, U, U, U, U, U, U, U, U, U, U, U, U, U, U, U, U, U, U, U, U, U, U, U], [[ofSl 1 e5 x0, .int .i64 x1], [ofSl 1 e5 (g38_0 x0), .int .i64 (g38_1 x1)], [ofSl 1 e5 (g39_0_0 (g38_0 x0) (g38_1 x1)), .int .i64 (g39_0_1 (g38_0 x0) (g38_1 x1))]]⟩ (okSl e5 d5 (ofSl 1 e5 (g38_0 x0)) ∧ ((((.ptr 0 0 : AV) = .ptr 0 0) ∧ (false = false) ∧ ((.ptr 1 0 : AV) = .ptr 1 0) ∧ ((.ptr 2 0 : AV) = .ptr 2 0) ∧ (((g39_1 (g38_0 x0) (g38_1 x1)) : Int) = (g39_1 (g38_0 x0) (g38_1 x1))) ∧ True) ∧ (((x0.n = x0.n ∧ ∀ i, i < x0.n → e5 (x0.at' i) = e5 (x0.at' i)) ∧ ((x1 : Int) = x1) ∧ True) ∧ (((g38_0 x0).n = (g38_0 x0).n ∧ ∀ i, i < (g38_0 x0).n → e5 ((g38_0 x0).at' i) = e5 ((g38_0 x0).at' i)) ∧ (((g38_1 x1) : Int) = (g38_1 x1)) ∧ True) ∧ (((g39_0_0 (g38_0 x0) (g38_1 x1)).n = (g39_0_0 (g38_0 x0) (g38_1 x1)).n ∧ ∀ i, i < (g39_0_0 (g38_0 x0) (g38_1 x1)).n → e5 ((g39_0_0 (g38_0 x0) (g38_1 x1)).at' i) = e5 ((g39_0_0 (g38_0 x0) (g38_1 x1)).at' i)) ∧ (((g39_0_1 (g38_0 x0) (g38_1 x1)) : Int) = (g39_0_1 (g38_0 x0) (g38_1 x1))) ∧ True) ∧ True) ∧ true = true)) (by kernel_rfl) ⟨(okOf ed5 1 (g38_0 x0)), ⟨⟨rfl, rfl, rfl, rfl, rfl, trivial⟩, ⟨⟨⟨rfl, fun _ _ => rfl⟩, rfl, trivial⟩, ⟨⟨rfl, fun _ _ => rfl⟩, rfl, trivial⟩, ⟨⟨rfl, fun _ _ => rfl⟩, rfl, trivial⟩, trivial⟩, rfl⟩⟩ ?_
  refine WP.step g6_e_ok ⟨[U, .ptr 0 0, .bool false, .ptr 1 0, .ptr 2 0, .int .i64 (g39_1 (g38_0 x0) (g38_1 x1)), .ptr 3 0, .int .i64 (g40_1 x0 x1), U, U, U, U, U, U, U, U, U, U, U, U, U, U, U, U, U, U, U, U, U, U, U, U, U], [[ofSl 1 e5 x0, .int .i64 x1], [ofSl 1 e5 (g38_0 x0), .int .i64 (g38_1 x1)], [ofSl 1 e5 (g39_0_0 (g38_0 x0) (g38_1 x1)), .int .i64 (g39_0_1 (g38_0 x0) (g38_1 x1))], [ofSl 1 e5 (g40_0_0 x0 x1), .int .i64 (g40_0_1 x0 x1)]]⟩ (okSl e5 d5 (ofSl 1 e5 x0) ∧ ((((.ptr 0 0 : AV) = .ptr 0 0) ∧ (false = false) ∧ ((.ptr 1 0 : AV) = .ptr 1 0) ∧ ((.ptr 2 0 : AV) = .ptr 2 0) ∧ (((g39_1 (g38_0 x0) (g38_1 x1)) : Int) = (g39_1 (g38_0 x0) (g38_1 x1))) ∧ ((.ptr 3 0 : AV) = .ptr 3 0) ∧ (((g40_1 x0 x1) : Int) = (g40_1 x0 x1)) ∧ True) ∧ (((x0.n = x0.n ∧ ∀ i, i < x0.n → e5 (x0.at' i) = e5 (x0.at' i)) ∧ ((x1 : Int) = x1) ∧ True) ∧ (((g38_0 x0).n = (g38_0 x0).n ∧ ∀ i, i < (g38_0 x0).n → e5 ((g38_0 x0).at' i) = e5 ((g38_0 x0).at' i)) ∧ (((g38_1 x1) : Int) = (g38_1 x1)) ∧ True) ∧ (((g39_0_0 (g38_0 x0) (g38_1 x1)).n = (g39_0_0 (g38_0 x0) (g38_1 x1)).n ∧ ∀ i, i < (g39_0_0 (g38_0 x0) (g38_1 x1)).n → e5 ((g39_0_0 (g38_0 x0) (g38_1 x1)).at' i) = e5 ((g39_0_0 (g38_0 x0) (g38_1 x1)).at' i)) ∧ (((g39_0_1 (g38_0 x0) (g38_1 x1)) : Int) = (g39_0_1 (g38_0 x0) (g38_1 x1))) ∧ True) ∧ (((g40_0_0 x0 x1).n = (g40_0_0 x0 x1).n ∧ ∀ i, i < (g40_0_0 x0 x1).n → e5 ((g40_0_0 x0 x1).at' i) = e5 ((g40_0_0 x0 x1).at' i)) ∧ (((g40_0_1 x0 x1) : Int) = (g40_0_1 x0 x1)) ∧ True) ∧ True) ∧ true = true)) (by kernel_rfl) ⟨(okOf ed5 1 x0), ⟨⟨rfl, rfl, rfl, rfl, rfl, rfl, rfl, trivial⟩, ⟨⟨⟨rfl, fun _ _ => rfl⟩, rfl, trivial⟩, ⟨⟨rfl, fun _ _ => rfl⟩, rfl, trivial⟩, ⟨⟨rfl, fun _ _ => rfl⟩, rfl, trivial⟩, ⟨⟨rfl, fun _ _ => rfl⟩, rfl, trivial⟩, trivial⟩, rfl⟩⟩ ?_
  refine WP.step g6_e_ok ⟨[U, U, .bool (g6_m1 x0 x1), U, U, U, U, U, U, U, U, U, U, U, U, U, U, U, U, U, U, U, U, U, U, U, U, U, U, U, U, U, U], []⟩ ((((g39_1 (g38_0 x0) (g38_1 x1)) == (g40_1 x0 x1)) = true → ((okSl e5 d5 (ofSl 1 e5 (g39_0_0 (g38_0 x0) (g38_1 x1))) ∧ okSl e5 d5 (ofSl 1 e5 (g40_0_0 x0 x1))) ∧ (((g41 (g39_0_0 (g38_0 x0) (g38_1 x1)) (g39_0_1 (g38_0 x0) (g38_1 x1)) (g40_0_0 x0 x1) (g40_0_1 x0 x1)) = true → ((okSl e5 d5 (ofSl 1 e5 (g38_0 x0)) ∧ okSl e5 d5 (ofSl 1 e5 x0)) ∧ ((((g41 (g38_0 x0) (g38_1 x1) x0 x1) = (g6_m1 x0 x1)) ∧ True) ∧ True ∧ true = true))) ∧ ((g41 (g39_0_0 (g38_0 x0) (g38_1 x1)) (g39_0_1 (g38_0 x0) (g38_1 x1)) (g40_0_0 x0 x1) (g40_0_1 x0 x1)) = false → (((false = (g6_m1 x0 x1)) ∧ True) ∧ True ∧ true = true))))) ∧ (((g39_1 (g38_0 x0) (g38_1 x1)) == (g40_1 x0 x1)) = false → (((false = (g6_m1 x0 x1)) ∧ True) ∧ True ∧ true = true))) (by kernel_rfl) ⟨fun h1 => ⟨⟨(okOf ed5 1 (g39_0_0 (g38_0 x0) (g38_1 x1))), (okOf ed5 1 (g40_0_0 x0 x1))⟩, ⟨fun h2 => ⟨⟨(okOf ed5 1 (g38_0 x0)), (okOf ed5 1 x0)⟩, ⟨⟨(eqT h1 (eqT h2 rfl)), trivial⟩, trivial, rfl⟩⟩, fun h2 => ⟨⟨(eqT h1 (eqF h2 rfl)), trivial⟩, trivial, rfl⟩⟩⟩, fun h1 => ⟨⟨(eqF h1 rfl), trivial⟩, trivial, rfl⟩⟩ ?_
  exact WP.retP (True ∧ ((.bool (g6_m1 x0 x1) : AV) = .bool (g6 x0 x1))) (by kernel_rfl) ⟨trivial, rfl⟩
noncomputable def s6 : Ans := fun xs => match xs with
  | [.agg [y0, .int .i64 x1]] => bif isSl 1 y0 then some (some (okSl e5 d5 y0), .bool (g6 (toSl d5 y0) x1)) else none
  | _ => none
theorem k6 : SOk Try.prog 6 s6 := ⟨⟨_, _, Try.func6, rfl, by kernel_rfl⟩, fun args pre r h hp => by
  unfold s6 at h
  split at h
  · obtain ⟨b0, h⟩ := cond_some h
    cases h
    exact (pc6 _ _).weak (l1 (aG (l1 (slLe b0 hp.1) (l1 cI l0))) l0)
  · cases h⟩
end Go.Proofs.Ytchhfojblmceiaa
