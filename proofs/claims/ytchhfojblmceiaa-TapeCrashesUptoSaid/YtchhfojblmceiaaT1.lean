/-
  Walks: what functions of the program answer, as functions.
-/
import Derived.Test.YtchhfojblmceiaaCl
import Derived.Test.YtchhfojblmceiaaU1
import Derived.Test.YtchhfojblmceiaaU2
namespace Go.Proofs.Ytchhfojblmceiaa
open Go Go.Vc Go.RowKit
set_option maxRecDepth 100000
set_option maxHeartbeats 4000000
noncomputable def g82 (x0 : Sl Int) : Sl Int := x0
noncomputable abbrev g82_e : Env := mkE []
theorem g82_e_ok : g82_e.Ok := mkE_ok trivial
theorem pc82 (x0 : Sl Int) : PureCall Try.prog 82 [ofSl 1 e5 x0] (.blk false 1 (g82 x0).n (fun i => e5 ((g82 x0).at' i))) := by
  refine PureCall.fine fun hf => ?_
  have hf_x0 : Fine (ofSl 1 e5 x0) := hf.1
  have hn_x0 : x0.n ≤ 549755813888 := hf_x0.len
  refine pure_of_WP (E := g82_e) g82_e_ok Try.func82 rfl _ _ ?_
  refine WP.step g82_e_ok ⟨[ofSl 1 e5 x0, U, .nils, U, U], []⟩ (((x0.n = x0.n ∧ ∀ i, i < x0.n → e5 (x0.at' i) = e5 (x0.at' i)) ∧ ((.nils : AV) = .nils) ∧ True) ∧ True ∧ true = true) (by kernel_rfl) ⟨⟨⟨rfl, fun _ _ => rfl⟩, rfl, trivial⟩, trivial, rfl⟩ ?_
  refine WP.step g82_e_ok ⟨[U, U, .own 0 x0.n, U, U], [[.blk false 1 x0.n (fun i => e5 (x0.at' i))]]⟩ ((x0.n ≤ 549755813888) ∧ ((((.own 0 x0.n : AV) = .own 0 x0.n) ∧ True) ∧ (((x0.n = x0.n ∧ ∀ i, i < x0.n → (fun i => e5 (x0.at' i)) i = e5 (x0.at' i)) ∧ True) ∧ True) ∧ true = true)) (by kernel_rfl) ⟨(by omega), ⟨⟨rfl, trivial⟩, ⟨⟨⟨rfl, fun _ _ => rfl⟩, trivial⟩, trivial⟩, rfl⟩⟩ ?_
  exact WP.retP (True ∧ (x0.n = x0.n ∧ x0.n = (g82 x0).n ∧ ∀ i, i < (g82 x0).n → (fun i => e5 (x0.at' i)) i = (fun i => e5 ((g82 x0).at' i)) i)) (by kernel_rfl) ⟨trivial, ⟨rfl, ⟨rfl, fun _ _ => rfl⟩⟩⟩
noncomputable def s82 : Ans := fun xs => match xs with
  | [y0] => bif isSl 1 y0 then some (some (okSl e5 d5 y0), .blk false 1 (g82 (toSl d5 y0)).n (fun i => e5 ((g82 (toSl d5 y0)).at' i))) else none
  | _ => none
theorem k82 : SOk Try.prog 82 s82 := ⟨⟨_, _, Try.func82, rfl, by kernel_rfl⟩, fun args pre r h hp => by
  unfold s82 at h
  split at h
  · obtain ⟨b0, h⟩ := cond_some h
    cases h
    exact (pc82 _).weak (l1 (slLeA b0 hp.1) l0)
  · cases h⟩
noncomputable def g38_0 (x0 : Sl Int) : Sl Int := (g82 x0)
noncomputable def g38_1 (x1 : Int) : Int := x1
noncomputable abbrev g38_e : Env := mkE [(82, s82)]
theorem g38_e_ok : g38_e.Ok := mkE_ok ⟨k82, trivial⟩
theorem pc38 (x0 : Sl Int) (x1 : Int) : PureCall Try.prog 38 [.agg [ofSl 1 e5 x0, .int .i64 x1]] (.agg [ofSl 1 e5 (g38_0 x0), .int .i64 (g38_1 x1)]) := by
  refine PureCall.fine fun hf => ?_
  have hf_x0 : Fine (ofSl 1 e5 x0) := hf.1.1
  have hn_x0 : x0.n ≤ 549755813888 := hf_x0.len
  refine pure_of_WP (E := g38_e) g38_e_ok Try.func38 rfl _ _ ?_
  refine WP.step g38_e_ok ⟨[U, .ptr 0 0, .ptr 1 0, U, U, U, U, U, U], [[ofSl 1 e5 x0, .int .i64 x1], [.nils, .int .i64 0]]⟩ ((((.ptr 0 0 : AV) = .ptr 0 0) ∧ ((.ptr 1 0 : AV) = .ptr 1 0) ∧ True) ∧ (((x0.n = x0.n ∧ ∀ i, i < x0.n → e5 (x0.at' i) = e5 (x0.at' i)) ∧ ((x1 : Int) = x1) ∧ True) ∧ (((.nils : AV) = .nils) ∧ ((0 : Int) = 0) ∧ True) ∧ True) ∧ true = true) (by kernel_rfl) ⟨⟨rfl, rfl, trivial⟩, ⟨⟨⟨rfl, fun _ _ => rfl⟩, rfl, trivial⟩, ⟨rfl, rfl, trivial⟩, trivial⟩, rfl⟩ ?_
  refine WP.step g38_e_ok ⟨[U, U, .ptr 1 0, U, U, U, U, U, U], [[], [.own 2 (g82 x0).n, .int .i64 x1], [.blk false 1 (g82 x0).n (fun i => e5 ((g82 x0).at' i))]]⟩ (okSl e5 d5 (ofSl 1 e5 x0) ∧ (true = true ∧ ((((.ptr 1 0 : AV) = .ptr 1 0) ∧ True) ∧ ((((.own 2 (g82 x0).n : AV) = .own 2 (g82 x0).n) ∧ ((x1 : Int) = x1) ∧ True) ∧ (((g82 x0).n = (g82 x0).n ∧ ∀ i, i < (g82 x0).n → (fun i => e5 ((g82 x0).at' i)) i = e5 ((g82 x0).at' i)) ∧ True) ∧ True) ∧ true = true))) (by kernel_rfl) ⟨(okOf ed5 1 x0), ⟨rfl, ⟨⟨rfl, trivial⟩, ⟨⟨rfl, rfl, trivial⟩, ⟨⟨rfl, fun _ _ => rfl⟩, trivial⟩, trivial⟩, rfl⟩⟩⟩ ?_
  exact WP.retP (True ∧ ((((g82 x0).n : Nat) = (g82 x0).n) ∧ ((1 = 1 ∧ (g82 x0).n = (g38_0 x0).n ∧ ∀ i, i < (g82 x0).n → e5 ((g82 x0).at' i) = e5 ((g38_0 x0).at' i)) ∧ ((.int .i64 x1 : AV) = .int .i64 (g38_1 x1)) ∧ True))) (by kernel_rfl) ⟨trivial, ⟨rfl, ⟨(slEq (sz := 1) (enc := e5) rfl), rfl, trivial⟩⟩⟩
noncomputable def s38 : Ans := fun xs => match xs with
  | [.agg [y0, .int .i64 x1]] => bif isSl 1 y0 then some (some (okSl e5 d5 y0), .agg [ofSl 1 e5 (g38_0 (toSl d5 y0)), .int .i64 (g38_1 x1)]) else none
  | _ => none
theorem k38 : SOk Try.prog 38 s38 := ⟨⟨_, _, Try.func38, rfl, by kernel_rfl⟩, fun args pre r h hp => by
  unfold s38 at h
  split at h
  · obtain ⟨b0, h⟩ := cond_some h
    cases h
    exact (pc38 _ _).weak (l1 (aG (l1 (slLe b0 hp.1) (l1 cI l0))) l0)
  · cases h⟩
noncomputable def g107_m1 (x0 : Sl Int) (x1 : Int) : Bool := (bif (decide (x1 < 0)) then true else (bif (decide (x1 > (x0.n : Int))) then true else (decide ((x0.n : Int) > 400000))))
noncomputable def g107_0_0 (x0 : Sl Int) (x1 : Int) : Sl Int := (bif (g107_m1 x0 x1) then (nilSl : Sl Int) else x0)
noncomputable def g107_0_1 (x0 : Sl Int) (x1 : Int) : Int := (bif (g107_m1 x0 x1) then 0 else x1)
noncomputable def g107_1 (x0 : Sl Int) (x1 : Int) : Bool := (bif (g107_m1 x0 x1) then false else true)
noncomputable abbrev g107_e : Env := mkE [(160, s160)]
theorem g107_e_ok : g107_e.Ok := mkE_ok ⟨k160, trivial⟩
theorem pc107 (x0 : Sl Int) (x1 : Int) : PureCall Try.prog 107 [.agg [ofSl 1 e5 x0, .int .i64 x1]] (.tup [.agg [ofSl 1 e5 (g107_0_0 x0 x1), .int .i64 (g107_0_1 x0 x1)], .bool (g107_1 x0 x1)]) := by
  refine PureCall.fine fun hf => ?_
  have hf_x0 : Fine (ofSl 1 e5 x0) := hf.1.1
  have hn_x0 : x0.n ≤ 549755813888 := hf_x0.len
  refine pure_of_WP (E := g107_e) g107_e_ok Try.func107 rfl _ _ ?_
  refine WP.step g107_e_ok ⟨[U, .ptr 0 0, .ptr 1 0, .bool false, U, U, U, U, U, U, U, U, U, U, U, U, U, U, U, U, U, U, U, U, U, U, U, U], [[ofSl 1 e5 x0, .int .i64 x1], [.nils, .int .i64 0]]⟩ ((((.ptr 0 0 : AV) = .ptr 0 0) ∧ ((.ptr 1 0 : AV) = .ptr 1 0) ∧ (false = false) ∧ True) ∧ (((x0.n = x0.n ∧ ∀ i, i < x0.n → e5 (x0.at' i) = e5 (x0.at' i)) ∧ ((x1 : Int) = x1) ∧ True) ∧ (((.nils : AV) = .nils) ∧ ((0 : Int) = 0) ∧ True) ∧ True) ∧ true = true) (by kernel_rfl) ⟨⟨rfl, rfl, rfl, trivial⟩, ⟨⟨⟨rfl, fun _ _ => rfl⟩, rfl, trivial⟩, ⟨rfl, rfl, trivial⟩, trivial⟩, rfl⟩ ?_
  refine WP.seq ?_
  refine WP.step g107_e_ok ⟨[U, .ptr 0 0, .ptr 1 0, .bool false, U, U, U, U, U, U, U, U, U, U, U, U, U, U, U, U, .bool (g107_m1 x0 x1), U, U, U, U, U, U, U], [[ofSl 1 e5 x0, .int .i64 x1], [.nils, .int .i64 0]]⟩ (((decide (x1 < 0)) = true → ((((.ptr 0 0 : AV) = .ptr 0 0) ∧ ((.ptr 1 0 : AV) = .ptr 1 0) ∧ (false = false) ∧ (true = (g107_m1 x0 x1)) ∧ True) ∧ (((x0.n = x0.n ∧ ∀ i, i < x0.n → e5 (x0.at' i) = e5 (x0.at' i)) ∧ ((x1 : Int) = x1) ∧ True) ∧ (((.nils : AV) = .nils) ∧ ((0 : Int) = 0) ∧ True) ∧ True) ∧ true = true)) ∧ ((decide (x1 < 0)) = false → (((decide (x1 > (x0.n : Int))) = true → ((((.ptr 0 0 : AV) = .ptr 0 0) ∧ ((.ptr 1 0 : AV) = .ptr 1 0) ∧ (false = false) ∧ (true = (g107_m1 x0 x1)) ∧ True) ∧ (((x0.n = x0.n ∧ ∀ i, i < x0.n → e5 (x0.at' i) = e5 (x0.at' i)) ∧ ((x1 : Int) = x1) ∧ True) ∧ (((.nils : AV) = .nils) ∧ ((0 : Int) = 0) ∧ True) ∧ True) ∧ true = true)) ∧ ((decide (x1 > (x0.n : Int))) = false → ((((.ptr 0 0 : AV) = .ptr 0 0) ∧ ((.ptr 1 0 : AV) = .ptr 1 0) ∧ (false = false) ∧ ((decide ((x0.n : Int) > 400000)) = (g107_m1 x0 x1)) ∧ True) ∧ (((x0.n = x0.n ∧ ∀ i, i < x0.n → e5 (x0.at' i) = e5 (x0.at' i)) ∧ ((x1 : Int) = x1) ∧ True) ∧ (((.nils : AV) = .nils) ∧ ((0 : Int) = 0) ∧ True) ∧ True) ∧ true = true))))) (by kernel_rfl) ⟨fun h1 => ⟨⟨rfl, rfl, rfl, (eqT h1 rfl), trivial⟩, ⟨⟨⟨rfl, fun _ _ => rfl⟩, rfl, trivial⟩, ⟨rfl, rfl, trivial⟩, trivial⟩, rfl⟩, fun h1 => ⟨fun h2 => ⟨⟨rfl, rfl, rfl, (eqF h1 (eqT h2 rfl)), trivial⟩, ⟨⟨⟨rfl, fun _ _ => rfl⟩, rfl, trivial⟩, ⟨rfl, rfl, trivial⟩, trivial⟩, rfl⟩, fun h2 => ⟨⟨rfl, rfl, rfl, (eqF h1 (eqF h2 rfl)), trivial⟩, ⟨⟨⟨rfl, fun _ _ => rfl⟩, rfl, trivial⟩, ⟨rfl, rfl, trivial⟩, trivial⟩, rfl⟩⟩⟩ ?_
  refine WP.condR (g107_m1 x0 x1) rfl (fun h3 => ?_) (fun h3 => ?_)
  · skip
    refine WP.step g107_e_ok ⟨[U, .ptr 0 0, .ptr 1 0, .bool false, U, U, U, U, U, U, U, U, U, U, U, U, U, U, U, U, U, U, U, U, U, U, U, U], [[ofSl 1 e5 x0, .int .i64 x1], [.nils, .int .i64 0]]⟩ ((((.ptr 0 0 : AV) = .ptr 0 0) ∧ ((.ptr 1 0 : AV) = .ptr 1 0) ∧ (false = false) ∧ True) ∧ (((x0.n = x0.n ∧ ∀ i, i < x0.n → e5 (x0.at' i) = e5 (x0.at' i)) ∧ ((x1 : Int) = x1) ∧ True) ∧ (((.nils : AV) = .nils) ∧ ((0 : Int) = 0) ∧ True) ∧ True) ∧ true = true) (by kernel_rfl) ⟨⟨rfl, rfl, rfl, trivial⟩, ⟨⟨⟨rfl, fun _ _ => rfl⟩, rfl, trivial⟩, ⟨rfl, rfl, trivial⟩, trivial⟩, rfl⟩ ?_
    exact WP.retP (True ∧ ((((g107_0_0 x0 x1).n = 0) ∧ ((.int .i64 0 : AV) = .int .i64 (g107_0_1 x0 x1)) ∧ True) ∧ ((.bool false : AV) = .bool (g107_1 x0 x1)) ∧ True)) (by kernel_rfl) ⟨trivial, ⟨⟨((congrArg Sl.n (eqT h3 rfl)).symm), (congrArg (AV.int .i64) (eqT h3 rfl)), trivial⟩, (congrArg AV.bool (eqT h3 rfl)), trivial⟩⟩
  · skip
    refine WP.skip ?_
    refine WP.step g107_e_ok ⟨[U, U, .ptr 1 0, .bool true, U, U, U, U, U, U, U, U, U, U, U, U, U, U, U, U, U, U, U, U, U, U, U, U], [[], [.own 2 x0.n, .int .i64 x1], [.blk false 1 x0.n (fun i => e5 (x0.at' i))]]⟩ (okSl e5 d5 (ofSl 1 e5 x0) ∧ (true = true ∧ ((((.ptr 1 0 : AV) = .ptr 1 0) ∧ (true = true) ∧ True) ∧ ((((.own 2 x0.n : AV) = .own 2 x0.n) ∧ ((x1 : Int) = x1) ∧ True) ∧ ((x0.n = x0.n ∧ ∀ i, i < x0.n → (fun i => e5 (x0.at' i)) i = e5 (x0.at' i)) ∧ True) ∧ True) ∧ true = true))) (by kernel_rfl) ⟨(okOf ed5 1 x0), ⟨rfl, ⟨⟨rfl, rfl, trivial⟩, ⟨⟨rfl, rfl, trivial⟩, ⟨⟨rfl, fun _ _ => rfl⟩, trivial⟩, trivial⟩, rfl⟩⟩⟩ ?_
    exact WP.retP (True ∧ (((x0.n : Nat) = x0.n) ∧ (((1 = 1 ∧ x0.n = (g107_0_0 x0 x1).n ∧ ∀ i, i < x0.n → e5 (x0.at' i) = e5 ((g107_0_0 x0 x1).at' i)) ∧ ((.int .i64 x1 : AV) = .int .i64 (g107_0_1 x0 x1)) ∧ True) ∧ ((.bool true : AV) = .bool (g107_1 x0 x1)) ∧ True))) (by kernel_rfl) ⟨trivial, ⟨rfl, ⟨⟨(slEq (sz := 1) (enc := e5) (eqF h3 rfl)), (congrArg (AV.int .i64) (eqF h3 rfl)), trivial⟩, (congrArg AV.bool (eqF h3 rfl)), trivial⟩⟩⟩
noncomputable def s107 : Ans := fun xs => match xs with
  | [.agg [y0, .int .i64 x1]] => bif isSl 1 y0 then some (some (okSl e5 d5 y0), .tup [.agg [ofSl 1 e5 (g107_0_0 (toSl d5 y0) x1), .int .i64 (g107_0_1 (toSl d5 y0) x1)], .bool (g107_1 (toSl d5 y0) x1)]) else none
  | _ => none
theorem k107 : SOk Try.prog 107 s107 := ⟨⟨_, _, Try.func107, rfl, by kernel_rfl⟩, fun args pre r h hp => by
  unfold s107 at h
  split at h
  · obtain ⟨b0, h⟩ := cond_some h
    cases h
    exact (pc107 _ _).weak (l1 (aG (l1 (slLe b0 hp.1) (l1 cI l0))) l0)
  · cases h⟩
theorem h107 (x0 : Sl Int) (x1 : Int) (h : g107_1 x0 x1 = true) : (0 ≤ g107_0_1 x0 x1 ∧ g107_0_1 x0 x1 ≤ ((g107_0_0 x0 x1).n : Int)) ∧ (g107_0_0 x0 x1).n ≤ 400000 := by
  unfold g107_1 at h
  cases hm : g107_m1 x0 x1 with
  | true => rw [hm] at h; simp at h
  | false =>
    simp only [g107_0_1, g107_0_0, hm, cond_false]
    simp [g107_m1] at hm
    omega
noncomputable def g39_0_0 (x0 : Sl Int) (x1 : Int) : Sl Int := (bif (!(g107_1 x0 x1)) then (nilSl : Sl Int) else (g107_0_0 x0 x1))
noncomputable def g39_0_1 (x0 : Sl Int) (x1 : Int) : Int := (bif (!(g107_1 x0 x1)) then 0 else ((g107_0_0 x0 x1).n : Int))
noncomputable def g39_1 (x0 : Sl Int) (x1 : Int) : Int := (bif (!(g107_1 x0 x1)) then 13 else 0)
noncomputable abbrev g39_e : Env := mkE [(107, s107)]
theorem g39_e_ok : g39_e.Ok := mkE_ok ⟨k107, trivial⟩
theorem pc39 (x0 : Sl Int) (x1 : Int) : PureCall Try.prog 39 [.agg [ofSl 1 e5 x0, .int .i64 x1]] (.tup [.agg [ofSl 1 e5 (g39_0_0 x0 x1), .int .i64 (g39_0_1 x0 x1)], .int .i64 (g39_1 x0 x1)]) := by
  refine PureCall.fine fun hf => ?_
  have hf_x0 : Fine (ofSl 1 e5 x0) := hf.1.1
  have hn_x0 : x0.n ≤ 549755813888 := hf_x0.len
  refine pure_of_WP (E := g39_e) g39_e_ok Try.func39 rfl _ _ ?_
  refine WP.step g39_e_ok ⟨[U, .ptr 0 0, .ptr 1 0, .int .i64 0, U, U, U, U, U, U, U, U, U, U, U, U, U, U, U], [[ofSl 1 e5 x0, .int .i64 x1], [.nils, .int .i64 0]]⟩ ((((.ptr 0 0 : AV) = .ptr 0 0) ∧ ((.ptr 1 0 : AV) = .ptr 1 0) ∧ ((0 : Int) = 0) ∧ True) ∧ (((x0.n = x0.n ∧ ∀ i, i < x0.n → e5 (x0.at' i) = e5 (x0.at' i)) ∧ ((x1 : Int) = x1) ∧ True) ∧ (((.nils : AV) = .nils) ∧ ((0 : Int) = 0) ∧ True) ∧ True) ∧ true = true) (by kernel_rfl) ⟨⟨rfl, rfl, rfl, trivial⟩, ⟨⟨⟨rfl, fun _ _ => rfl⟩, rfl, trivial⟩, ⟨rfl, rfl, trivial⟩, trivial⟩, rfl⟩ ?_
  refine WP.step g39_e_ok ⟨[U, U, .ptr 1 0, .int .i64 0, .ptr 2 0, .bool (g107_1 x0 x1), U, U, U, U, U, U, U, U, U, U, U, U, U], [[], [.nils, .int .i64 0], [ofSl 1 e5 (g107_0_0 x0 x1), .int .i64 (g107_0_1 x0 x1)]]⟩ (okSl e5 d5 (ofSl 1 e5 x0) ∧ ((((.ptr 1 0 : AV) = .ptr 1 0) ∧ ((0 : Int) = 0) ∧ ((.ptr 2 0 : AV) = .ptr 2 0) ∧ ((g107_1 x0 x1) = (g107_1 x0 x1)) ∧ True) ∧ ((((.nils : AV) = .nils) ∧ ((0 : Int) = 0) ∧ True) ∧ (((g107_0_0 x0 x1).n = (g107_0_0 x0 x1).n ∧ ∀ i, i < (g107_0_0 x0 x1).n → e5 ((g107_0_0 x0 x1).at' i) = e5 ((g107_0_0 x0 x1).at' i)) ∧ (((g107_0_1 x0 x1) : Int) = (g107_0_1 x0 x1)) ∧ True) ∧ True) ∧ true = true)) (by kernel_rfl) ⟨(okOf ed5 1 x0), ⟨⟨rfl, rfl, rfl, rfl, trivial⟩, ⟨⟨rfl, rfl, trivial⟩, ⟨⟨rfl, fun _ _ => rfl⟩, rfl, trivial⟩, trivial⟩, rfl⟩⟩ ?_
  refine WP.seq ?_
  refine WP.step g39_e_ok ⟨[U, U, .ptr 1 0, .int .i64 0, .ptr 2 0, U, U, U, U, U, U, U, .bool (!(g107_1 x0 x1)), U, U, U, U, U, U], [[], [.nils, .int .i64 0], [ofSl 1 e5 (g107_0_0 x0 x1), .int .i64 (g107_0_1 x0 x1)]]⟩ ((((.ptr 1 0 : AV) = .ptr 1 0) ∧ ((0 : Int) = 0) ∧ ((.ptr 2 0 : AV) = .ptr 2 0) ∧ ((!(g107_1 x0 x1)) = (!(g107_1 x0 x1))) ∧ True) ∧ ((((.nils : AV) = .nils) ∧ ((0 : Int) = 0) ∧ True) ∧ (((g107_0_0 x0 x1).n = (g107_0_0 x0 x1).n ∧ ∀ i, i < (g107_0_0 x0 x1).n → e5 ((g107_0_0 x0 x1).at' i) = e5 ((g107_0_0 x0 x1).at' i)) ∧ (((g107_0_1 x0 x1) : Int) = (g107_0_1 x0 x1)) ∧ True) ∧ True) ∧ true = true) (by kernel_rfl) ⟨⟨rfl, rfl, rfl, rfl, trivial⟩, ⟨⟨rfl, rfl, trivial⟩, ⟨⟨rfl, fun _ _ => rfl⟩, rfl, trivial⟩, trivial⟩, rfl⟩ ?_
  refine WP.condR (!(g107_1 x0 x1)) rfl (fun h1 => ?_) (fun h1 => ?_)
  · skip
    refine WP.step g39_e_ok ⟨[U, U, .ptr 1 0, .int .i64 13, .ptr 2 0, U, U, U, U, U, U, U, U, U, U, U, U, U, U], [[], [.nils, .int .i64 0], [ofSl 1 e5 (g107_0_0 x0 x1), .int .i64 (g107_0_1 x0 x1)]]⟩ ((((.ptr 1 0 : AV) = .ptr 1 0) ∧ ((13 : Int) = 13) ∧ ((.ptr 2 0 : AV) = .ptr 2 0) ∧ True) ∧ ((((.nils : AV) = .nils) ∧ ((0 : Int) = 0) ∧ True) ∧ (((g107_0_0 x0 x1).n = (g107_0_0 x0 x1).n ∧ ∀ i, i < (g107_0_0 x0 x1).n → e5 ((g107_0_0 x0 x1).at' i) = e5 ((g107_0_0 x0 x1).at' i)) ∧ (((g107_0_1 x0 x1) : Int) = (g107_0_1 x0 x1)) ∧ True) ∧ True) ∧ true = true) (by kernel_rfl) ⟨⟨rfl, rfl, rfl, trivial⟩, ⟨⟨rfl, rfl, trivial⟩, ⟨⟨rfl, fun _ _ => rfl⟩, rfl, trivial⟩, trivial⟩, rfl⟩ ?_
    exact WP.retP (True ∧ ((((g39_0_0 x0 x1).n = 0) ∧ ((.int .i64 0 : AV) = .int .i64 (g39_0_1 x0 x1)) ∧ True) ∧ ((.int .i64 13 : AV) = .int .i64 (g39_1 x0 x1)) ∧ True)) (by kernel_rfl) ⟨trivial, ⟨⟨((congrArg Sl.n (eqT h1 rfl)).symm), (congrArg (AV.int .i64) (eqT h1 rfl)), trivial⟩, (congrArg (AV.int .i64) (eqT h1 rfl)), trivial⟩⟩
  · skip
    refine WP.skip ?_
    refine WP.step g39_e_ok ⟨[U, U, .ptr 1 0, .int .i64 0, .ptr 2 0, U, U, U, U, U, U, U, U, U, U, U, U, U, U], [[], [.nils, .int .i64 0], [ofSl 1 e5 (g107_0_0 x0 x1), .int .i64 ((g107_0_0 x0 x1).n : Int)]]⟩ ((((.ptr 1 0 : AV) = .ptr 1 0) ∧ ((0 : Int) = 0) ∧ ((.ptr 2 0 : AV) = .ptr 2 0) ∧ True) ∧ ((((.nils : AV) = .nils) ∧ ((0 : Int) = 0) ∧ True) ∧ (((g107_0_0 x0 x1).n = (g107_0_0 x0 x1).n ∧ ∀ i, i < (g107_0_0 x0 x1).n → e5 ((g107_0_0 x0 x1).at' i) = e5 ((g107_0_0 x0 x1).at' i)) ∧ ((((g107_0_0 x0 x1).n : Int) : Int) = ((g107_0_0 x0 x1).n : Int)) ∧ True) ∧ True) ∧ true = true) (by kernel_rfl) ⟨⟨rfl, rfl, rfl, trivial⟩, ⟨⟨rfl, rfl, trivial⟩, ⟨⟨rfl, fun _ _ => rfl⟩, rfl, trivial⟩, trivial⟩, rfl⟩ ?_
    refine WP.step g39_e_ok ⟨[U, U, .ptr 1 0, .int .i64 0, U, U, U, U, U, U, U, U, U, U, U, U, U, U, U], [[], [ofSl 1 e5 (g107_0_0 x0 x1), .int .i64 ((g107_0_0 x0 x1).n : Int)]]⟩ ((((.ptr 1 0 : AV) = .ptr 1 0) ∧ ((0 : Int) = 0) ∧ True) ∧ ((((g107_0_0 x0 x1).n = (g107_0_0 x0 x1).n ∧ ∀ i, i < (g107_0_0 x0 x1).n → e5 ((g107_0_0 x0 x1).at' i) = e5 ((g107_0_0 x0 x1).at' i)) ∧ ((((g107_0_0 x0 x1).n : Int) : Int) = ((g107_0_0 x0 x1).n : Int)) ∧ True) ∧ True) ∧ true = true) (by kernel_rfl) ⟨⟨rfl, rfl, trivial⟩, ⟨⟨⟨rfl, fun _ _ => rfl⟩, rfl, trivial⟩, trivial⟩, rfl⟩ ?_
    exact WP.retP (True ∧ (((1 = 1 ∧ (g107_0_0 x0 x1).n = (g39_0_0 x0 x1).n ∧ ∀ i, i < (g107_0_0 x0 x1).n → e5 ((g107_0_0 x0 x1).at' i) = e5 ((g39_0_0 x0 x1).at' i)) ∧ ((.int .i64 ((g107_0_0 x0 x1).n : Int) : AV) = .int .i64 (g39_0_1 x0 x1)) ∧ True) ∧ ((.int .i64 0 : AV) = .int .i64 (g39_1 x0 x1)) ∧ True)) (by kernel_rfl) ⟨trivial, ⟨⟨(slEq (sz := 1) (enc := e5) (eqF h1 rfl)), (congrArg (AV.int .i64) (eqF h1 rfl)), trivial⟩, (congrArg (AV.int .i64) (eqF h1 rfl)), trivial⟩⟩
noncomputable def s39 : Ans := fun xs => match xs with
  | [.agg [y0, .int .i64 x1]] => bif isSl 1 y0 then some (some (okSl e5 d5 y0), .tup [.agg [ofSl 1 e5 (g39_0_0 (toSl d5 y0) x1), .int .i64 (g39_0_1 (toSl d5 y0) x1)], .int .i64 (g39_1 (toSl d5 y0) x1)]) else none
  | _ => none
theorem k39 : SOk Try.prog 39 s39 := ⟨⟨_, _, Try.func39, rfl, by kernel_rfl⟩, fun args pre r h hp => by
  unfold s39 at h
  split at h
  · obtain ⟨b0, h⟩ := cond_some h
    cases h
    exact (pc39 _ _).weak (l1 (aG (l1 (slLe b0 hp.1) (l1 cI l0))) l0)
  · cases h⟩
noncomputable def g40_0_0 (x0 : Sl Int) (x1 : Int) : Sl Int := (bif (!(g108 x0 x1)) then (nilSl : Sl Int) else (g109 x0 (nilSl : Sl Int)))
noncomputable def g40_0_1 (x0 : Sl Int) (x1 : Int) : Int := (bif (!(g108 x0 x1)) then 0 else (x0.n : Int))
noncomputable def g40_1 (x0 : Sl Int) (x1 : Int) : Int := (bif (!(g108 x0 x1)) then 13 else 0)
noncomputable abbrev g40_e : Env := mkE [(108, s108), (109, s109)]
theorem g40_e_ok : g40_e.Ok := mkE_ok ⟨k108, k109, trivial⟩
theorem pc40 (x0 : Sl Int) (x1 : Int) : PureCall Try.prog 40 [.agg [ofSl 1 e5 x0, .int .i64 x1]] (.tup [.agg [ofSl 1 e5 (g40_0_0 x0 x1), .int .i64 (g40_0_1 x0 x1)], .int .i64 (g40_1 x0 x1)]) := by
  refine PureCall.fine fun hf => ?_
  have hf_x0 : Fine (ofSl 1 e5 x0) := hf.1.1
  have hn_x0 : x0.n ≤ 549755813888 := hf_x0.len
  refine pure_of_WP (E := g40_e) g40_e_ok Try.func40 rfl _ _ ?_
  refine WP.step g40_e_ok ⟨[U, .ptr 0 0, .ptr 1 0, .int .i64 0, U, U, U, U, U, U, U, U, U, U, U], [[ofSl 1 e5 x0, .int .i64 x1], [.nils, .int .i64 0]]⟩ ((((.ptr 0 0 : AV) = .ptr 0 0) ∧ ((.ptr 1 0 : AV) = .ptr 1 0) ∧ ((0 : Int) = 0) ∧ True) ∧ (((x0.n = x0.n ∧ ∀ i, i < x0.n → e5 (x0.at' i) = e5 (x0.at' i)) ∧ ((x1 : Int) = x1) ∧ True) ∧ (((.nils : AV) = .nils) ∧ ((0 : Int) = 0) ∧ True) ∧ True) ∧ true = true) (by kernel_rfl) ⟨⟨rfl, rfl, rfl, trivial⟩, ⟨⟨⟨rfl, fun _ _ => rfl⟩, rfl, trivial⟩, ⟨rfl, rfl, trivial⟩, trivial⟩, rfl⟩ ?_
  refine WP.seq ?_
  refine WP.step g40_e_ok ⟨[U, .ptr 0 0, .ptr 1 0, .int .i64 0, U, U, .bool (!(g108 x0 x1)), U, U, U, U, U, U, U, U], [[ofSl 1 e5 x0, .int .i64 x1], [.nils, .int .i64 0]]⟩ (okSl e5 d5 (ofSl 1 e5 x0) ∧ ((((.ptr 0 0 : AV) = .ptr 0 0) ∧ ((.ptr 1 0 : AV) = .ptr 1 0) ∧ ((0 : Int) = 0) ∧ ((!(g108 x0 x1)) = (!(g108 x0 x1))) ∧ True) ∧ (((x0.n = x0.n ∧ ∀ i, i < x0.n → e5 (x0.at' i) = e5 (x0.at' i)) ∧ ((x1 : Int) = x1) ∧ True) ∧ (((.nils : AV) = .nils) ∧ ((0 : Int) = 0) ∧ True) ∧ True) ∧ true = true)) (by kernel_rfl) ⟨(okOf ed5 1 x0), ⟨⟨rfl, rfl, rfl, rfl, trivial⟩, ⟨⟨⟨rfl, fun _ _ => rfl⟩, rfl, trivial⟩, ⟨rfl, rfl, trivial⟩, trivial⟩, rfl⟩⟩ ?_
  refine WP.condR (!(g108 x0 x1)) rfl (fun h1 => ?_) (fun h1 => ?_)
  · skip
    refine WP.step g40_e_ok ⟨[U, .ptr 0 0, .ptr 1 0, .int .i64 13, U, U, U, U, U, U, U, U, U, U, U], [[ofSl 1 e5 x0, .int .i64 x1], [.nils, .int .i64 0]]⟩ ((((.ptr 0 0 : AV) = .ptr 0 0) ∧ ((.ptr 1 0 : AV) = .ptr 1 0) ∧ ((13 : Int) = 13) ∧ True) ∧ (((x0.n = x0.n ∧ ∀ i, i < x0.n → e5 (x0.at' i) = e5 (x0.at' i)) ∧ ((x1 : Int) = x1) ∧ True) ∧ (((.nils : AV) = .nils) ∧ ((0 : Int) = 0) ∧ True) ∧ True) ∧ true = true) (by kernel_rfl) ⟨⟨rfl, rfl, rfl, trivial⟩, ⟨⟨⟨rfl, fun _ _ => rfl⟩, rfl, trivial⟩, ⟨rfl, rfl, trivial⟩, trivial⟩, rfl⟩ ?_
    exact WP.retP (True ∧ ((((g40_0_0 x0 x1).n = 0) ∧ ((.int .i64 0 : AV) = .int .i64 (g40_0_1 x0 x1)) ∧ True) ∧ ((.int .i64 13 : AV) = .int .i64 (g40_1 x0 x1)) ∧ True)) (by kernel_rfl) ⟨trivial, ⟨⟨((congrArg Sl.n (eqT h1 rfl)).symm), (congrArg (AV.int .i64) (eqT h1 rfl)), trivial⟩, (congrArg (AV.int .i64) (eqT h1 rfl)), trivial⟩⟩
  · skip
    refine WP.skip ?_
    refine WP.step g40_e_ok ⟨[U, U, .ptr 1 0, .int .i64 0, U, U, U, U, U, U, U, U, U, U, U], [[], [.own 2 (g109 x0 (nilSl : Sl Int)).n, .int .i64 (x0.n : Int)], [.blk false 1 (g109 x0 (nilSl : Sl Int)).n (fun i => e5 ((g109 x0 (nilSl : Sl Int)).at' i))]]⟩ ((okSl e5 d5 (ofSl 1 e5 x0) ∧ okSl e5 d5 (.nils) ∧ (x0.n + 0 ≤ 549755813888)) ∧ (true = true ∧ ((((.ptr 1 0 : AV) = .ptr 1 0) ∧ ((0 : Int) = 0) ∧ True) ∧ ((((.own 2 (g109 x0 (nilSl : Sl Int)).n : AV) = .own 2 (g109 x0 (nilSl : Sl Int)).n) ∧ (((x0.n : Int) : Int) = (x0.n : Int)) ∧ True) ∧ (((g109 x0 (nilSl : Sl Int)).n = (g109 x0 (nilSl : Sl Int)).n ∧ ∀ i, i < (g109 x0 (nilSl : Sl Int)).n → (fun i => e5 ((g109 x0 (nilSl : Sl Int)).at' i)) i = e5 ((g109 x0 (nilSl : Sl Int)).at' i)) ∧ True) ∧ True) ∧ true = true))) (by kernel_rfl) ⟨⟨(okOf ed5 1 x0), (okNil _ _), (by have := h108 _ _ (by simpa using h1); omega)⟩, ⟨rfl, ⟨⟨rfl, rfl, trivial⟩, ⟨⟨rfl, rfl, trivial⟩, ⟨⟨rfl, fun _ _ => rfl⟩, trivial⟩, trivial⟩, rfl⟩⟩⟩ ?_
    exact WP.retP (True ∧ ((((g109 x0 (nilSl : Sl Int)).n : Nat) = (g109 x0 (nilSl : Sl Int)).n) ∧ (((1 = 1 ∧ (g109 x0 (nilSl : Sl Int)).n = (g40_0_0 x0 x1).n ∧ ∀ i, i < (g109 x0 (nilSl : Sl Int)).n → e5 ((g109 x0 (nilSl : Sl Int)).at' i) = e5 ((g40_0_0 x0 x1).at' i)) ∧ ((.int .i64 (x0.n : Int) : AV) = .int .i64 (g40_0_1 x0 x1)) ∧ True) ∧ ((.int .i64 0 : AV) = .int .i64 (g40_1 x0 x1)) ∧ True))) (by kernel_rfl) ⟨trivial, ⟨rfl, ⟨⟨(slEq (sz := 1) (enc := e5) (eqF h1 rfl)), (congrArg (AV.int .i64) (eqF h1 rfl)), trivial⟩, (congrArg (AV.int .i64) (eqF h1 rfl)), trivial⟩⟩⟩
noncomputable def s40 : Ans := fun xs => match xs with
  | [.agg [y0, .int .i64 x1]] => bif isSl 1 y0 then some (some (okSl e5 d5 y0), .tup [.agg [ofSl 1 e5 (g40_0_0 (toSl d5 y0) x1), .int .i64 (g40_0_1 (toSl d5 y0) x1)], .int .i64 (g40_1 (toSl d5 y0) x1)]) else none
  | _ => none
theorem k40 : SOk Try.prog 40 s40 := ⟨⟨_, _, Try.func40, rfl, by kernel_rfl⟩, fun args pre r h hp => by
  unfold s40 at h
  split at h
  · obtain ⟨b0, h⟩ := cond_some h
    cases h
    exact (pc40 _ _).weak (l1 (aG (l1 (slLe b0 hp.1) (l1 cI l0))) l0)
  · cases h⟩
noncomputable def g41_m1 (x0 : Sl Int) (x1 : Int) (x2 : Sl Int) (x3 : Int) : Bool := (bif (x1 == x3) then (((Sl.toStr x0) : ByteArray).toList == ((Sl.toStr x2) : ByteArray).toList) else false)
noncomputable def g41 (x0 : Sl Int) (x1 : Int) (x2 : Sl Int) (x3 : Int) : Bool := (g41_m1 x0 x1 x2 x3)
noncomputable abbrev g41_e : Env := mkE []
theorem g41_e_ok : g41_e.Ok := mkE_ok trivial
theorem pc41 (x0 : Sl Int) (x1 : Int) (x2 : Sl Int) (x3 : Int) : PureCall Try.prog 41 [.agg [ofSl 1 e5 x0, .int .i64 x1], .agg [ofSl 1 e5 x2, .int .i64 x3]] (.bool (g41 x0 x1 x2 x3)) := by
  refine PureCall.fine fun hf => ?_
  have hf_x0 : Fine (ofSl 1 e5 x0) := hf.1.1
  have hn_x0 : x0.n ≤ 549755813888 := hf_x0.len
  have hf_x2 : Fine (ofSl 1 e5 x2) := hf.2.1.1
  have hn_x2 : x2.n ≤ 549755813888 := hf_x2.len
  refine pure_of_WP (E := g41_e) g41_e_ok Try.func41 rfl _ _ ?_
  refine WP.step g41_e_ok ⟨[U, U, .ptr 0 0, .ptr 1 0, .bool false, U, U, U, U, U, U, U, U, U, U, U, U, U, U], [[ofSl 1 e5 x0, .int .i64 x1], [ofSl 1 e5 x2, .int .i64 x3]]⟩ ((((.ptr 0 0 : AV) = .ptr 0 0) ∧ ((.ptr 1 0 : AV) = .ptr 1 0) ∧ (false = false) ∧ True) ∧ (((x0.n = x0.n ∧ ∀ i, i < x0.n → e5 (x0.at' i) = e5 (x0.at' i)) ∧ ((x1 : Int) = x1) ∧ True) ∧ ((x2.n = x2.n ∧ ∀ i, i < x2.n → e5 (x2.at' i) = e5 (x2.at' i)) ∧ ((x3 : Int) = x3) ∧ True) ∧ True) ∧ true = true) (by kernel_rfl) ⟨⟨rfl, rfl, rfl, trivial⟩, ⟨⟨⟨rfl, fun _ _ => rfl⟩, rfl, trivial⟩, ⟨⟨rfl, fun _ _ => rfl⟩, rfl, trivial⟩, trivial⟩, rfl⟩ ?_
  refine WP.step g41_e_ok ⟨[U, U, U, U, .bool (g41_m1 x0 x1 x2 x3), U, U, U, U, U, U, U, U, U, U, U, U, U, U], []⟩ (((x1 == x3) = true → ((∀ i, i < x0.n → isU8 (((fun i => e5 (x0.at' i)) i).getD 0 .undef) = true) ∧ ((∀ i, i < x2.n → isU8 (((fun i => e5 (x2.at' i)) i).getD 0 .undef) = true) ∧ ((((((Sl.toStr x0) : ByteArray).toList == ((Sl.toStr x2) : ByteArray).toList) = (g41_m1 x0 x1 x2 x3)) ∧ True) ∧ True ∧ true = true)))) ∧ ((x1 == x3) = false → (((false = (g41_m1 x0 x1 x2 x3)) ∧ True) ∧ True ∧ true = true))) (by kernel_rfl) ⟨fun h1 => ⟨fun _ _ => rfl, ⟨fun _ _ => rfl, ⟨⟨(eqT h1 rfl), trivial⟩, trivial, rfl⟩⟩⟩, fun h1 => ⟨⟨(eqF h1 rfl), trivial⟩, trivial, rfl⟩⟩ ?_
  exact WP.retP (True ∧ ((.bool (g41_m1 x0 x1 x2 x3) : AV) = .bool (g41 x0 x1 x2 x3))) (by kernel_rfl) ⟨trivial, rfl⟩
noncomputable def s41 : Ans := fun xs => match xs with
  | [.agg [y0, .int .i64 x1], .agg [y2, .int .i64 x3]] => bif isSl 1 y0 then bif isSl 1 y2 then some (some (okSl e5 d5 y0 ∧ okSl e5 d5 y2), .bool (g41 (toSl d5 y0) x1 (toSl d5 y2) x3)) else none else none
  | _ => none
theorem k41 : SOk Try.prog 41 s41 := ⟨⟨_, _, Try.func41, rfl, by kernel_rfl⟩, fun args pre r h hp => by
  unfold s41 at h
  split at h
  · obtain ⟨b0, h⟩ := cond_some h
    obtain ⟨b1, h⟩ := cond_some h
    cases h
    exact (pc41 _ _ _ _).weak (l1 (aG (l1 (slLe b0 hp.1.1) (l1 cI l0))) (l1 (aG (l1 (slLe b1 hp.1.2) (l1 cI l0))) l0))
  · cases h⟩
noncomputable def g45_0_0 (x0 : Sl Int) (x1 : Int) (x2 : Int) : Sl Int := (bif (!(g107_1 x0 x1)) then (nilSl : Sl Int) else (bif (decide (x2 < 0)) then (nilSl : Sl Int) else (Sl.part (g107_0_0 x0 x1) 0 (IntKind.i64.wrap ((g107_0_1 x0 x1) + (imin x2 (IntKind.i64.wrap (((g107_0_0 x0 x1).n : Int) - (g107_0_1 x0 x1)))))))))
noncomputable def g45_0_1 (x0 : Sl Int) (x1 : Int) (x2 : Int) : Int := (bif (!(g107_1 x0 x1)) then 0 else (bif (decide (x2 < 0)) then 0 else (IntKind.i64.wrap ((g107_0_1 x0 x1) + (imin x2 (IntKind.i64.wrap (((g107_0_0 x0 x1).n : Int) - (g107_0_1 x0 x1))))))))
noncomputable def g45_1 (x0 : Sl Int) (x1 : Int) (x2 : Int) : Int := (bif (!(g107_1 x0 x1)) then 13 else (bif (decide (x2 < 0)) then 2 else 0))
noncomputable abbrev g45_e : Env := mkE [(107, s107)]
theorem g45_e_ok : g45_e.Ok := mkE_ok ⟨k107, trivial⟩
theorem pc45 (x0 : Sl Int) (x1 : Int) (x2 : Int) : PureCall Try.prog 45 [.agg [ofSl 1 e5 x0, .int .i64 x1], .int .i64 x2] (.tup [.agg [ofSl 1 e5 (g45_0_0 x0 x1 x2), .int .i64 (g45_0_1 x0 x1 x2)], .int .i64 (g45_1 x0 x1 x2)]) := by
  refine PureCall.fine fun hf => ?_
  have hf_x0 : Fine (ofSl 1 e5 x0) := hf.1.1
  have hn_x0 : x0.n ≤ 549755813888 := hf_x0.len
  refine pure_of_WP (E := g45_e) g45_e_ok Try.func45 rfl _ _ ?_
  refine WP.step g45_e_ok ⟨[U, .int .i64 x2, .ptr 0 0, U, .ptr 1 0, .int .i64 0, U, U, U, U, U, U, U, U, U, U, U, U, U, U, U, U, U, U, U, U, U, U, U, U, U, U, U, U, U, U, U, U, U, U], [[ofSl 1 e5 x0, .int .i64 x1], [.nils, .int .i64 0]]⟩ ((((x2 : Int) = x2) ∧ ((.ptr 0 0 : AV) = .ptr 0 0) ∧ ((.ptr 1 0 : AV) = .ptr 1 0) ∧ ((0 : Int) = 0) ∧ True) ∧ (((x0.n = x0.n ∧ ∀ i, i < x0.n → e5 (x0.at' i) = e5 (x0.at' i)) ∧ ((x1 : Int) = x1) ∧ True) ∧ (((.nils : AV) = .nils) ∧ ((0 : Int) = 0) ∧ True) ∧ True) ∧ true = true) (by kernel_rfl) ⟨⟨rfl, rfl, rfl, rfl, trivial⟩, ⟨⟨⟨rfl, fun _ _ => rfl⟩, rfl, trivial⟩, ⟨rfl, rfl, trivial⟩, trivial⟩, rfl⟩ ?_
  refine WP.step g45_e_ok ⟨[U, .int .i64 x2, U, U, .ptr 1 0, .int .i64 0, .ptr 2 0, .bool (g107_1 x0 x1), U, U, U, U, U, U, U, U, U, U, U, U, U, U, U, U, U, U, U, U, U, U, U, U, U, U, U, U, U, U, U, U], [[], [.nils, .int .i64 0], [ofSl 1 e5 (g107_0_0 x0 x1), .int .i64 (g107_0_1 x0 x1)]]⟩ (okSl e5 d5 (ofSl 1 e5 x0) ∧ ((((x2 : Int) = x2) ∧ ((.ptr 1 0 : AV) = .ptr 1 0) ∧ ((0 : Int) = 0) ∧ ((.ptr 2 0 : AV) = .ptr 2 0) ∧ ((g107_1 x0 x1) = (g107_1 x0 x1)) ∧ True) ∧ ((((.nils : AV) = .nils) ∧ ((0 : Int) = 0) ∧ True) ∧ (((g107_0_0 x0 x1).n = (g107_0_0 x0 x1).n ∧ ∀ i, i < (g107_0_0 x0 x1).n → e5 ((g107_0_0 x0 x1).at' i) = e5 ((g107_0_0 x0 x1).at' i)) ∧ (((g107_0_1 x0 x1) : Int) = (g107_0_1 x0 x1)) ∧ True) ∧ True) ∧ true = true)) (by kernel_rfl) ⟨(okOf ed5 1 x0), ⟨⟨rfl, rfl, rfl, rfl, rfl, trivial⟩, ⟨⟨rfl, rfl, trivial⟩, ⟨⟨rfl, fun _ _ => rfl⟩, rfl, trivial⟩, trivial⟩, rfl⟩⟩ ?_
  refine WP.seq ?_
  refine WP.block ?_
  refine WP.step g45_e_ok ⟨[U, .int .i64 x2, U, U, .ptr 1 0, .int .i64 0, .ptr 2 0, U, U, U, U, U, U, U, .bool (!(g107_1 x0 x1)), U, U, U, U, U, U, U, U, U, U, U, U, U, U, U, U, U, U, U, U, U, U, U, U, U], [[], [.nils, .int .i64 0], [ofSl 1 e5 (g107_0_0 x0 x1), .int .i64 (g107_0_1 x0 x1)]]⟩ ((((x2 : Int) = x2) ∧ ((.ptr 1 0 : AV) = .ptr 1 0) ∧ ((0 : Int) = 0) ∧ ((.ptr 2 0 : AV) = .ptr 2 0) ∧ ((!(g107_1 x0 x1)) = (!(g107_1 x0 x1))) ∧ True) ∧ ((((.nils : AV) = .nils) ∧ ((0 : Int) = 0) ∧ True) ∧ (((g107_0_0 x0 x1).n = (g107_0_0 x0 x1).n ∧ ∀ i, i < (g107_0_0 x0 x1).n → e5 ((g107_0_0 x0 x1).at' i) = e5 ((g107_0_0 x0 x1).at' i)) ∧ (((g107_0_1 x0 x1) : Int) = (g107_0_1 x0 x1)) ∧ True) ∧ True) ∧ true = true) (by kernel_rfl) ⟨⟨rfl, rfl, rfl, rfl, rfl, trivial⟩, ⟨⟨rfl, rfl, trivial⟩, ⟨⟨rfl, fun _ _ => rfl⟩, rfl, trivial⟩, trivial⟩, rfl⟩ ?_
  refine WP.condR (!(g107_1 x0 x1)) rfl (fun h1 => ?_) (fun h1 => ?_)
  · skip
    refine WP.step g45_e_ok ⟨[U, .int .i64 x2, U, U, .ptr 1 0, .int .i64 13, .ptr 2 0, U, U, U, U, U, U, U, U, U, U, U, U, U, U, U, U, U, U, U, U, U, U, U, U, U, U, U, U, U, U, U, U, U], [[], [.nils, .int .i64 0], [ofSl 1 e5 (g107_0_0 x0 x1), .int .i64 (g107_0_1 x0 x1)]]⟩ ((((x2 : Int) = x2) ∧ ((.ptr 1 0 : AV) = .ptr 1 0) ∧ ((13 : Int) = 13) ∧ ((.ptr 2 0 : AV) = .ptr 2 0) ∧ True) ∧ ((((.nils : AV) = .nils) ∧ ((0 : Int) = 0) ∧ True) ∧ (((g107_0_0 x0 x1).n = (g107_0_0 x0 x1).n ∧ ∀ i, i < (g107_0_0 x0 x1).n → e5 ((g107_0_0 x0 x1).at' i) = e5 ((g107_0_0 x0 x1).at' i)) ∧ (((g107_0_1 x0 x1) : Int) = (g107_0_1 x0 x1)) ∧ True) ∧ True) ∧ true = true) (by kernel_rfl) ⟨⟨rfl, rfl, rfl, rfl, trivial⟩, ⟨⟨rfl, rfl, trivial⟩, ⟨⟨rfl, fun _ _ => rfl⟩, rfl, trivial⟩, trivial⟩, rfl⟩ ?_
    exact WP.retP (True ∧ ((((g45_0_0 x0 x1 x2).n = 0) ∧ ((.int .i64 0 : AV) = .int .i64 (g45_0_1 x0 x1 x2)) ∧ True) ∧ ((.int .i64 13 : AV) = .int .i64 (g45_1 x0 x1 x2)) ∧ True)) (by kernel_rfl) ⟨trivial, ⟨⟨((congrArg Sl.n (eqT h1 rfl)).symm), (congrArg (AV.int .i64) (eqT h1 rfl)), trivial⟩, (congrArg (AV.int .i64) (eqT h1 rfl)), trivial⟩⟩
  · skip
    refine WP.step g45_e_ok ⟨[U, .int .i64 x2, U, U, .ptr 1 0, .int .i64 0, .ptr 2 0, U, U, U, U, U, U, U, U, U, U, U, .bool (decide (x2 < 0)), U, U, U, U, U, U, U, U, U, U, U, U, U, U, U, U, U, U, U, U, U], [[], [.nils, .int .i64 0], [ofSl 1 e5 (g107_0_0 x0 x1), .int .i64 (g107_0_1 x0 x1)]]⟩ ((((x2 : Int) = x2) ∧ ((.ptr 1 0 : AV) = .ptr 1 0) ∧ ((0 : Int) = 0) ∧ ((.ptr 2 0 : AV) = .ptr 2 0) ∧ ((decide (x2 < 0)) = (decide (x2 < 0))) ∧ True) ∧ ((((.nils : AV) = .nils) ∧ ((0 : Int) = 0) ∧ True) ∧ (((g107_0_0 x0 x1).n = (g107_0_0 x0 x1).n ∧ ∀ i, i < (g107_0_0 x0 x1).n → e5 ((g107_0_0 x0 x1).at' i) = e5 ((g107_0_0 x0 x1).at' i)) ∧ (((g107_0_1 x0 x1) : Int) = (g107_0_1 x0 x1)) ∧ True) ∧ True) ∧ true = true) (by kernel_rfl) ⟨⟨rfl, rfl, rfl, rfl, rfl, trivial⟩, ⟨⟨rfl, rfl, trivial⟩, ⟨⟨rfl, fun _ _ => rfl⟩, rfl, trivial⟩, trivial⟩, rfl⟩ ?_
    refine WP.condR (decide (x2 < 0)) rfl (fun h2 => ?_) (fun h2 => ?_)
    · skip
      refine WP.step g45_e_ok ⟨[U, .int .i64 x2, U, U, .ptr 1 0, .int .i64 2, .ptr 2 0, U, U, U, U, U, U, U, U, U, U, U, U, U, U, U, U, U, U, U, U, U, U, U, U, U, U, U, U, U, U, U, U, U], [[], [.nils, .int .i64 0], [ofSl 1 e5 (g107_0_0 x0 x1), .int .i64 (g107_0_1 x0 x1)]]⟩ ((((x2 : Int) = x2) ∧ ((.ptr 1 0 : AV) = .ptr 1 0) ∧ ((2 : Int) = 2) ∧ ((.ptr 2 0 : AV) = .ptr 2 0) ∧ True) ∧ ((((.nils : AV) = .nils) ∧ ((0 : Int) = 0) ∧ True) ∧ (((g107_0_0 x0 x1).n = (g107_0_0 x0 x1).n ∧ ∀ i, i < (g107_0_0 x0 x1).n → e5 ((g107_0_0 x0 x1).at' i) = e5 ((g107_0_0 x0 x1).at' i)) ∧ (((g107_0_1 x0 x1) : Int) = (g107_0_1 x0 x1)) ∧ True) ∧ True) ∧ true = true) (by kernel_rfl) ⟨⟨rfl, rfl, rfl, rfl, trivial⟩, ⟨⟨rfl, rfl, trivial⟩, ⟨⟨rfl, fun _ _ => rfl⟩, rfl, trivial⟩, trivial⟩, rfl⟩ ?_
      exact WP.retP (True ∧ ((((g45_0_0 x0 x1 x2).n = 0) ∧ ((.int .i64 0 : AV) = .int .i64 (g45_0_1 x0 x1 x2)) ∧ True) ∧ ((.int .i64 2 : AV) = .int .i64 (g45_1 x0 x1 x2)) ∧ True)) (by kernel_rfl) ⟨trivial, ⟨⟨((congrArg Sl.n (eqF h1 (eqT h2 rfl))).symm), (congrArg (AV.int .i64) (eqF h1 (eqT h2 rfl))), trivial⟩, (congrArg (AV.int .i64) (eqF h1 (eqT h2 rfl))), trivial⟩⟩
    · skip
      refine WP.skip ?_
      refine WP.step g45_e_ok ⟨[U, U, U, U, .ptr 1 0, .int .i64 0, .ptr 2 0, U, .int .i64 (IntKind.i64.wrap ((g107_0_1 x0 x1) + (imin x2 (IntKind.i64.wrap (((g107_0_0 x0 x1).n : Int) - (g107_0_1 x0 x1)))))), U, U, U, U, U, U, U, U, U, U, U, U, U, U, U, U, U, U, U, U, U, U, U, U, U, U, U, U, U, U, U], [[], [.nils, .int .i64 0], [ofSl 1 e5 (g107_0_0 x0 x1), .int .i64 (g107_0_1 x0 x1)]]⟩ ((((.ptr 1 0 : AV) = .ptr 1 0) ∧ ((0 : Int) = 0) ∧ ((.ptr 2 0 : AV) = .ptr 2 0) ∧ (((IntKind.i64.wrap ((g107_0_1 x0 x1) + (imin x2 (IntKind.i64.wrap (((g107_0_0 x0 x1).n : Int) - (g107_0_1 x0 x1)))))) : Int) = (IntKind.i64.wrap ((g107_0_1 x0 x1) + (imin x2 (IntKind.i64.wrap (((g107_0_0 x0 x1).n : Int) - (g107_0_1 x0 x1))))))) ∧ True) ∧ ((((.nils : AV) = .nils) ∧ ((0 : Int) = 0) ∧ True) ∧ (((g107_0_0 x0 x1).n = (g107_0_0 x0 x1).n ∧ ∀ i, i < (g107_0_0 x0 x1).n → e5 ((g107_0_0 x0 x1).at' i) = e5 ((g107_0_0 x0 x1).at' i)) ∧ (((g107_0_1 x0 x1) : Int) = (g107_0_1 x0 x1)) ∧ True) ∧ True) ∧ true = true) (by kernel_rfl) ⟨⟨rfl, rfl, rfl, rfl, trivial⟩, ⟨⟨rfl, rfl, trivial⟩, ⟨⟨rfl, fun _ _ => rfl⟩, rfl, trivial⟩, trivial⟩, rfl⟩ ?_
      refine WP.step g45_e_ok ⟨[U, U, U, U, .ptr 1 0, .int .i64 0, U, U, U, U, U, U, U, U, U, U, U, U, U, U, U, U, U, U, U, U, U, U, U, U, U, U, U, U, U, U, U, U, U, U], [[], [ofSl 1 e5 (Sl.part (g107_0_0 x0 x1) 0 (IntKind.i64.wrap ((g107_0_1 x0 x1) + (imin x2 (IntKind.i64.wrap (((g107_0_0 x0 x1).n : Int) - (g107_0_1 x0 x1))))))), .int .i64 (IntKind.i64.wrap ((g107_0_1 x0 x1) + (imin x2 (IntKind.i64.wrap (((g107_0_0 x0 x1).n : Int) - (g107_0_1 x0 x1))))))]]⟩ ((((0 : Int) ≤ 0) ∧ ((0 : Int) ≤ (IntKind.i64.wrap ((g107_0_1 x0 x1) + (imin x2 (IntKind.i64.wrap (((g107_0_0 x0 x1).n : Int) - (g107_0_1 x0 x1))))))) ∧ (((IntKind.i64.wrap ((g107_0_1 x0 x1) + (imin x2 (IntKind.i64.wrap (((g107_0_0 x0 x1).n : Int) - (g107_0_1 x0 x1)))))) : Int) ≤ (IntKind.i64.wrap ((g107_0_1 x0 x1) + (imin x2 (IntKind.i64.wrap (((g107_0_0 x0 x1).n : Int) - (g107_0_1 x0 x1))))))) ∧ (((IntKind.i64.wrap ((g107_0_1 x0 x1) + (imin x2 (IntKind.i64.wrap (((g107_0_0 x0 x1).n : Int) - (g107_0_1 x0 x1)))))) : Int) ≤ (((g107_0_0 x0 x1).n : Nat) : Int))) ∧ ((((.ptr 1 0 : AV) = .ptr 1 0) ∧ ((0 : Int) = 0) ∧ True) ∧ ((((Sl.part (g107_0_0 x0 x1) 0 (IntKind.i64.wrap ((g107_0_1 x0 x1) + (imin x2 (IntKind.i64.wrap (((g107_0_0 x0 x1).n : Int) - (g107_0_1 x0 x1))))))).n = (Sl.part (g107_0_0 x0 x1) 0 (IntKind.i64.wrap ((g107_0_1 x0 x1) + (imin x2 (IntKind.i64.wrap (((g107_0_0 x0 x1).n : Int) - (g107_0_1 x0 x1))))))).n ∧ ∀ i, i < (Sl.part (g107_0_0 x0 x1) 0 (IntKind.i64.wrap ((g107_0_1 x0 x1) + (imin x2 (IntKind.i64.wrap (((g107_0_0 x0 x1).n : Int) - (g107_0_1 x0 x1))))))).n → e5 ((Sl.part (g107_0_0 x0 x1) 0 (IntKind.i64.wrap ((g107_0_1 x0 x1) + (imin x2 (IntKind.i64.wrap (((g107_0_0 x0 x1).n : Int) - (g107_0_1 x0 x1))))))).at' i) = e5 ((Sl.part (g107_0_0 x0 x1) 0 (IntKind.i64.wrap ((g107_0_1 x0 x1) + (imin x2 (IntKind.i64.wrap (((g107_0_0 x0 x1).n : Int) - (g107_0_1 x0 x1))))))).at' i)) ∧ (((IntKind.i64.wrap ((g107_0_1 x0 x1) + (imin x2 (IntKind.i64.wrap (((g107_0_0 x0 x1).n : Int) - (g107_0_1 x0 x1)))))) : Int) = (IntKind.i64.wrap ((g107_0_1 x0 x1) + (imin x2 (IntKind.i64.wrap (((g107_0_0 x0 x1).n : Int) - (g107_0_1 x0 x1))))))) ∧ True) ∧ True) ∧ true = true)) (by kernel_rfl) ⟨(by have := h107 _ _ (by simpa using h1); have := of_decide_eq_false h2; have := imin_spec x2 (IntKind.i64.wrap (((g107_0_0 x0 x1).n : Int) - (g107_0_1 x0 x1))); first | omega | (have := wrap64 (x := (((g107_0_0 x0 x1).n : Int) - (g107_0_1 x0 x1))) (by omega) (by omega); have := wrap64 (x := ((g107_0_1 x0 x1) + (imin x2 (IntKind.i64.wrap (((g107_0_0 x0 x1).n : Int) - (g107_0_1 x0 x1)))))) (by omega) (by omega); omega)), ⟨⟨rfl, rfl, trivial⟩, ⟨⟨⟨rfl, fun _ _ => rfl⟩, rfl, trivial⟩, trivial⟩, rfl⟩⟩ ?_
      exact WP.retP (True ∧ (((1 = 1 ∧ (Sl.part (g107_0_0 x0 x1) 0 (IntKind.i64.wrap ((g107_0_1 x0 x1) + (imin x2 (IntKind.i64.wrap (((g107_0_0 x0 x1).n : Int) - (g107_0_1 x0 x1))))))).n = (g45_0_0 x0 x1 x2).n ∧ ∀ i, i < (Sl.part (g107_0_0 x0 x1) 0 (IntKind.i64.wrap ((g107_0_1 x0 x1) + (imin x2 (IntKind.i64.wrap (((g107_0_0 x0 x1).n : Int) - (g107_0_1 x0 x1))))))).n → e5 ((Sl.part (g107_0_0 x0 x1) 0 (IntKind.i64.wrap ((g107_0_1 x0 x1) + (imin x2 (IntKind.i64.wrap (((g107_0_0 x0 x1).n : Int) - (g107_0_1 x0 x1))))))).at' i) = e5 ((g45_0_0 x0 x1 x2).at' i)) ∧ ((.int .i64 (IntKind.i64.wrap ((g107_0_1 x0 x1) + (imin x2 (IntKind.i64.wrap (((g107_0_0 x0 x1).n : Int) - (g107_0_1 x0 x1)))))) : AV) = .int .i64 (g45_0_1 x0 x1 x2)) ∧ True) ∧ ((.int .i64 0 : AV) = .int .i64 (g45_1 x0 x1 x2)) ∧ True)) (by kernel_rfl) ⟨trivial, ⟨⟨(slEq (sz := 1) (enc := e5) (eqF h1 (eqF h2 rfl))), (congrArg (AV.int .i64) (eqF h1 (eqF h2 rfl))), trivial⟩, (congrArg (AV.int .i64) (eqF h1 (eqF h2 rfl))), trivial⟩⟩
noncomputable def s45 : Ans := fun xs => match xs with
  | [.agg [y0, .int .i64 x1], .int .i64 x2] => bif isSl 1 y0 then some (some (okSl e5 d5 y0), .tup [.agg [ofSl 1 e5 (g45_0_0 (toSl d5 y0) x1 x2), .int .i64 (g45_0_1 (toSl d5 y0) x1 x2)], .int .i64 (g45_1 (toSl d5 y0) x1 x2)]) else none
  | _ => none
theorem k45 : SOk Try.prog 45 s45 := ⟨⟨_, _, Try.func45, rfl, by kernel_rfl⟩, fun args pre r h hp => by
  unfold s45 at h
  split at h
  · obtain ⟨b0, h⟩ := cond_some h
    cases h
    exact (pc45 _ _ _).weak (l1 (aG (l1 (slLe b0 hp.1) (l1 cI l0))) (l1 aI l0))
  · cases h⟩
end Go.Proofs.Ytchhfojblmceiaa
