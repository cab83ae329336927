/-
  Walks: what functions of the program answer, as functions.
-/
import Derived.Test.YtchhfojblmceiaaCl
import Derived.Test.YtchhfojblmceiaaU0
namespace Go.Proofs.Ytchhfojblmceiaa
open Go Go.Vc Go.RowKit
set_option maxRecDepth 100000
set_option maxHeartbeats 4000000
noncomputable def g111 (x0 : ByteArray) : Bool := (decide (((x0 : ByteArray).size : Int) > 20))
noncomputable abbrev g111_e : Env := mkE []
theorem g111_e_ok : g111_e.Ok := mkE_ok trivial
theorem pc111 (x0 : ByteArray) : PureCall Try.prog 111 [.str x0] (.bool (g111 x0)) := by
  refine pure_of_WP (E := g111_e) g111_e_ok Try.func111 rfl _ _ ?_
  refine WP.step0 g111_e_ok ⟨[.str x0, U, .bool false, U, U, U], []⟩ (by kernel_rfl) ?_
  refine WP.step0 g111_e_ok ⟨[U, U, .bool (decide (((x0 : ByteArray).size : Int) > 20)), U, U, U], []⟩ (by kernel_rfl) ?_
  exact WP.retP (True ∧ ((.bool (decide (((x0 : ByteArray).size : Int) > 20)) : AV) = .bool (g111 x0))) (by kernel_rfl) ⟨trivial, rfl⟩
noncomputable def s111 : Ans := fun xs => match xs with
  | [.str x0] => some (none, .bool (g111 x0))
  | _ => none
theorem k111 : SOk Try.prog 111 s111 := ⟨⟨_, _, Try.func111, rfl, by kernel_rfl⟩, fun args pre r h _ => by
  unfold s111 at h; split at h <;> cases h; exact pc111 _⟩
noncomputable def g192_111_l1 (x0 : Sl ByteArray) : Nat → Int → Bool × Int
  | 0, _ => default
  | k + 1, v1_0 => (bif (decide (v1_0 < (x0.n : Int))) then (bif (g111 (x0.at' (Int.toNat v1_0))) then (true, v1_0) else (g192_111_l1 x0 k (IntKind.i64.wrap (v1_0 + 1)))) else (false, default))
noncomputable def g192_111_r1 (x0 : Sl ByteArray) : Bool × Int := g192_111_l1 x0 ((Int.toNat ((x0.n : Int) - 0)) + 1) 0
noncomputable def g192_111_p2 (x0 : Sl ByteArray) : Bool := (bif (g192_111_r1 x0).1 then false else true)
noncomputable def g192_111 (x0 : Sl ByteArray) : Int := (bif (g192_111_p2 x0) then (-1) else (g192_111_r1 x0).2)
noncomputable abbrev g192_111_e : Env := mkE [(111, s111)]
theorem g192_111_e_ok : g192_111_e.Ok := mkE_ok ⟨k111, trivial⟩
theorem pc192_111 (x0 : Sl ByteArray) : PureCall Try.prog 192 [ofSl 1 e9 x0, .fn 111 []] (.int .i64 (g192_111 x0)) := by
  refine PureCall.fine fun hf => ?_
  have hf_x0 : Fine (ofSl 1 e9 x0) := hf.1
  have hn_x0 : x0.n ≤ 549755813888 := hf_x0.len
  refine pure_of_WP (E := g192_111_e) g192_111_e_ok Try.func192 rfl _ _ ?_
  refine WP.step0 g192_111_e_ok ⟨ofSl 1 e9 x0 :: .fn 111 [] :: U :: U :: .int .i64 0 :: us 14 [], []⟩ (by kernel_rfl) ?_
  refine WP.joinP ⟨us 4 (.int .i64 0 :: us 14 []), []⟩ (g192_111_p2 x0) ?_ ?_
  · skip
    refine WP.step0 g192_111_e_ok ⟨ofSl 1 e9 x0 :: .fn 111 [] :: U :: U :: .int .i64 0 :: U :: U :: .int .i64 (x0.n : Int) :: .int .i64 0 :: us 10 [], []⟩ (by kernel_rfl) ?_
    refine WP.block ?_
    refine WP.loopK (σ := Int) (R := Bool × Int) (fun s => ⟨ofSl 1 e9 x0 :: .fn 111 [] :: U :: U :: .int .i64 0 :: U :: U :: .int .i64 (x0.n : Int) :: .int .i64 s :: us 10 [], []⟩) (fun s => (0 ≤ s ∧ s ≤ (x0.n : Int))) (fun s => (Int.toNat ((x0.n : Int) - s))) (fun k s => g192_111_l1 x0 k s) 0 (by first | omega | ((try dsimp only); omega) | ((try dsimp only); (try simp only [Sl.app_n]); (try simp only [Sl.lit_n]); (try simp only [Sl.part_n]); (try simp only [nilSl_n]); (try simp only [List.length_cons]); (try simp only [List.length_nil]); first | omega | (omega) | (simp only [wrap64 (by omega) (by omega)]; omega))) (leE (by kernel_rfl)) (fun k s hI1 hk1 hR1 => ?_)
    obtain ⟨v1_0, hs1⟩ : ∃ x, x = s := ⟨s, rfl⟩
    subst hs1
    have hI1 : (0 ≤ v1_0 ∧ v1_0 ≤ (x0.n : Int)) := hI1
    have hR1 : g192_111_l1 x0 (k + 1) v1_0 = (g192_111_r1 x0) := hR1
    refine WP.step0 g192_111_e_ok ⟨ofSl 1 e9 x0 :: .fn 111 [] :: U :: U :: .int .i64 0 :: U :: U :: .int .i64 (x0.n : Int) :: .int .i64 v1_0 :: .bool (decide (v1_0 < (x0.n : Int))) :: us 9 [], []⟩ (by kernel_rfl) ?_
    refine WP.seq ?_
    refine WP.condR (decide (v1_0 < (x0.n : Int))) rfl (fun h1 => ?_) (fun h1 => ?_)
    · skip
      refine WP.skip ?_
      refine WP.seq ?_
      refine WP.block ?_
      refine WP.step0 g192_111_e_ok ⟨ofSl 1 e9 x0 :: .fn 111 [] :: U :: U :: .int .i64 0 :: .int .i64 v1_0 :: U :: .int .i64 (x0.n : Int) :: .int .i64 v1_0 :: .bool (decide (v1_0 < (x0.n : Int))) :: .int .i64 v1_0 :: us 8 [], []⟩ (by kernel_rfl) ?_
      refine WP.stepE g192_111_e_ok ⟨[ofSl 1 e9 x0, .fn 111 [], U, U, .int .i64 0, .int .i64 v1_0, U, .int .i64 (x0.n : Int), .int .i64 v1_0, .bool (decide (v1_0 < (x0.n : Int))), .int .i64 v1_0, .fn 111 [], ofSl 1 e9 x0, .int .i64 v1_0, .ref [.str (x0.at' (Int.toNat v1_0))], .str (x0.at' (Int.toNat v1_0)), .bool (g111 (x0.at' (Int.toNat v1_0))), U, U], []⟩ (fun q => ((0 ≤ v1_0 ∧ v1_0 < (x0.n : Int)) ∧ q)) (by kernel_rfl) ⟨(by have := of_decide_eq_true h1; omega), rfl⟩ ?_
      refine WP.condR (g111 (x0.at' (Int.toNat v1_0))) rfl (fun h2 => ?_) (fun h2 => ?_)
      · skip
        refine WP.step0 g192_111_e_ok ⟨[ofSl 1 e9 x0, .fn 111 [], U, U, .int .i64 v1_0, .int .i64 v1_0, U, .int .i64 (x0.n : Int), .int .i64 v1_0, .bool (decide (v1_0 < (x0.n : Int))), .int .i64 v1_0, .fn 111 [], ofSl 1 e9 x0, .int .i64 v1_0, .ref [.str (x0.at' (Int.toNat v1_0))], .str (x0.at' (Int.toNat v1_0)), .bool (g111 (x0.at' (Int.toNat v1_0))), .int .i64 v1_0, U], []⟩ (by kernel_rfl) ?_
        have hv3 : ((true, v1_0) : Bool × Int) = (g192_111_r1 x0) := ((eqT h1 (eqT h2 rfl))).trans hR1
        exact WP.retP (True ∧ ((.int .i64 v1_0 : AV) = .int .i64 (g192_111 x0))) (by kernel_rfl) ⟨trivial, (congrArg (AV.int .i64) ((congrArg (fun r : Bool × Int => r.2) hv3).trans (eqF ((eqT (congrArg (fun r : Bool × Int => r.1) hv3).symm rfl)).symm rfl)))⟩
      · skip
        refine WP.skip ?_
        refine WP.fin0 g192_111_e_ok ⟨[ofSl 1 e9 x0, .fn 111 [], U, U, .int .i64 0, .int .i64 v1_0, U, .int .i64 (x0.n : Int), .int .i64 (IntKind.i64.wrap (v1_0 + 1)), .bool (decide (v1_0 < (x0.n : Int))), .int .i64 v1_0, .fn 111 [], ofSl 1 e9 x0, .int .i64 v1_0, .ref [.str (x0.at' (Int.toNat v1_0))], .str (x0.at' (Int.toNat v1_0)), .bool (g111 (x0.at' (Int.toNat v1_0))), U, .int .i64 (IntKind.i64.wrap (v1_0 + 1))], []⟩ (by kernel_rfl) ?_
        exact loopR_nextE ((IntKind.i64.wrap (v1_0 + 1))) (by have := of_decide_eq_true h1; first | omega | (have := wrap64 (x := (v1_0 + 1)) (by omega) (by omega); omega) | (simp only [wrap64 (x := (v1_0 + 1)) (by omega) (by omega)]; omega)) (by have := of_decide_eq_true h1; first | omega | (have := wrap64 (x := (v1_0 + 1)) (by omega) (by omega); omega) | (simp only [wrap64 (x := (v1_0 + 1)) (by omega) (by omega)]; omega)) ((eqT h1 (eqF h2 rfl)).trans hR1) (by kernel_rfl)
    · skip
      have hv4 : ((false, default) : Bool × Int) = (g192_111_r1 x0) := ((eqF h1 rfl)).trans hR1
      exact WP.exitP ((g192_111_p2 x0) = true ∧ ((((0 : Int) = 0) ∧ True) ∧ True ∧ true = true)) (by kernel_rfl) ⟨((eqF (congrArg (fun r : Bool × Int => r.1) hv4).symm rfl)).symm, ⟨⟨rfl, trivial⟩, trivial, rfl⟩⟩
  · skip
    intro h5
    refine WP.step0 g192_111_e_ok ⟨us 4 (.int .i64 (-1) :: us 14 []), []⟩ (by kernel_rfl) ?_
    exact WP.retP (True ∧ ((.int .i64 (-1) : AV) = .int .i64 (g192_111 x0))) (by kernel_rfl) ⟨trivial, (congrArg (AV.int .i64) (eqT h5 rfl))⟩
noncomputable def s192_111 : Ans := fun xs => match xs with
  | [y0, .fn 111 []] => bif isSl 1 y0 then some (some (okSl e9 d9 y0), .int .i64 (g192_111 (toSl d9 y0))) else none
  | _ => none
theorem k192_111 : SOk Try.prog 192 s192_111 := ⟨⟨_, _, Try.func192, rfl, by kernel_rfl⟩, fun args pre r h hp => by
  unfold s192_111 at h
  split at h
  · obtain ⟨b0, h⟩ := cond_some h
    cases h
    exact (pc192_111 _).weak (l1 (slLeA b0 hp.1) (l1 aF l0))
  · cases h⟩
noncomputable def g110_111 (x0 : Sl ByteArray) : Bool := (decide ((g192_111 x0) ≥ 0))
noncomputable abbrev g110_111_e : Env := mkE [(192, s192_111)]
theorem g110_111_e_ok : g110_111_e.Ok := mkE_ok ⟨k192_111, trivial⟩
theorem pc110_111 (x0 : Sl ByteArray) : PureCall Try.prog 110 [ofSl 1 e9 x0, .fn 111 []] (.bool (g110_111 x0)) := by
  refine PureCall.fine fun hf => ?_
  have hf_x0 : Fine (ofSl 1 e9 x0) := hf.1
  have hn_x0 : x0.n ≤ 549755813888 := hf_x0.len
  refine pure_of_WP (E := g110_111_e) g110_111_e_ok Try.func110 rfl _ _ ?_
  refine WP.step0 g110_111_e_ok ⟨ofSl 1 e9 x0 :: .fn 111 [] :: U :: U :: .bool false :: us 4 [], []⟩ (by kernel_rfl) ?_
  refine WP.stepE g110_111_e_ok ⟨us 4 (.bool (decide ((g192_111 x0) ≥ 0)) :: us 4 []), []⟩ (fun q => (okSl e9 d9 (ofSl 1 e9 x0) ∧ q)) (by kernel_rfl) ⟨(okOf ed9 1 x0), rfl⟩ ?_
  exact WP.retP (True ∧ ((.bool (decide ((g192_111 x0) ≥ 0)) : AV) = .bool (g110_111 x0))) (by kernel_rfl) ⟨trivial, rfl⟩
noncomputable def s110_111 : Ans := fun xs => match xs with
  | [y0, .fn 111 []] => bif isSl 1 y0 then some (some (okSl e9 d9 y0), .bool (g110_111 (toSl d9 y0))) else none
  | _ => none
theorem k110_111 : SOk Try.prog 110 s110_111 := ⟨⟨_, _, Try.func110, rfl, by kernel_rfl⟩, fun args pre r h hp => by
  unfold s110_111 at h
  split at h
  · obtain ⟨b0, h⟩ := cond_some h
    cases h
    exact (pc110_111 _).weak (l1 (slLeA b0 hp.1) (l1 aF l0))
  · cases h⟩
noncomputable def g42_m1 (x0 : Int) : Bool := (bif (decide (x0 < 0)) then true else (decide (x0 > 13)))
noncomputable def g42_m2 (x1 : ByteArray) (x3 : Sl ByteArray) : Bool := (bif (decide (((x1 : ByteArray).size : Int) > 20)) then true else (decide ((x3.n : Int) > 20)))
noncomputable def g42_m3 (x2 : Int) : Bool := (bif (decide (x2 < (-1099511627776))) then true else (decide (x2 > 1099511627776)))
noncomputable def g42 (x0 : Int) (x1 : ByteArray) (x2 : Int) (x3 : Sl ByteArray) : Int := (bif (g42_m1 x0) then 3 else (bif (g42_m2 x1 x3) then 1 else (bif (g110_111 x3) then 1 else (bif (g42_m3 x2) then 2 else 0))))
noncomputable abbrev g42_e : Env := mkE [(110, s110_111)]
theorem g42_e_ok : g42_e.Ok := mkE_ok ⟨k110_111, trivial⟩
theorem pc42 (x0 : Int) (x1 : ByteArray) (x2 : Int) (x3 : Sl ByteArray) : PureCall Try.prog 42 [.agg [.int .i64 x0, .str x1, .int .i64 x2, ofSl 1 e9 x3]] (.int .i64 (g42 x0 x1 x2 x3)) := by
  refine PureCall.fine fun hf => ?_
  have hf_x3 : Fine (ofSl 1 e9 x3) := hf.1.2.2.2.1
  have hn_x3 : x3.n ≤ 549755813888 := hf_x3.len
  refine pure_of_WP (E := g42_e) g42_e_ok Try.func42 rfl _ _ ?_
  refine WP.step0 g42_e_ok ⟨U :: .ptr 0 0 :: .int .i64 0 :: us 29 [], [[.int .i64 x0, .str x1, .int .i64 x2, ofSl 1 e9 x3]]⟩ (by kernel_rfl) ?_
  refine WP.seq ?_
  refine WP.stepM g42_e_ok (fun a : Bool => ⟨U :: .ptr 0 0 :: .int .i64 0 :: us 7 (.bool a :: us 21 []), [[.int .i64 x0, .str x1, .int .i64 x2, ofSl 1 e9 x3]]⟩) (g42_m1 x0) (fun K => (((decide (x0 < 0)) = true → K true) ∧ ((decide (x0 < 0)) = false → K (decide (x0 > 13))))) (by kernel_rfl) ⟨fun h1 => (KM.mk (eqT h1 rfl)), fun h1 => (KM.mk (eqF h1 rfl))⟩ ?_
  refine WP.condR (g42_m1 x0) rfl (fun h2 => ?_) (fun h2 => ?_)
  · skip
    refine WP.step0 g42_e_ok ⟨U :: .ptr 0 0 :: .int .i64 3 :: us 29 [], [[.int .i64 x0, .str x1, .int .i64 x2, ofSl 1 e9 x3]]⟩ (by kernel_rfl) ?_
    exact WP.retP (True ∧ ((.int .i64 3 : AV) = .int .i64 (g42 x0 x1 x2 x3))) (by kernel_rfl) ⟨trivial, (congrArg (AV.int .i64) (eqT h2 rfl))⟩
  · skip
    refine WP.skip ?_
    refine WP.seq ?_
    refine WP.stepM g42_e_ok (fun a : Bool => ⟨U :: .ptr 0 0 :: .int .i64 0 :: us 17 (.bool a :: us 11 []), [[.int .i64 x0, .str x1, .int .i64 x2, ofSl 1 e9 x3]]⟩) (g42_m2 x1 x3) (fun K => (((decide (((x1 : ByteArray).size : Int) > 20)) = true → K true) ∧ ((decide (((x1 : ByteArray).size : Int) > 20)) = false → K (decide ((x3.n : Int) > 20))))) (by kernel_rfl) ⟨fun h3 => (KM.mk (eqT h3 rfl)), fun h3 => (KM.mk (eqF h3 rfl))⟩ ?_
    refine WP.condR (g42_m2 x1 x3) rfl (fun h4 => ?_) (fun h4 => ?_)
    · skip
      refine WP.step0 g42_e_ok ⟨U :: .ptr 0 0 :: .int .i64 1 :: us 29 [], [[.int .i64 x0, .str x1, .int .i64 x2, ofSl 1 e9 x3]]⟩ (by kernel_rfl) ?_
      exact WP.retP (True ∧ ((.int .i64 1 : AV) = .int .i64 (g42 x0 x1 x2 x3))) (by kernel_rfl) ⟨trivial, (congrArg (AV.int .i64) (eqF h2 (eqT h4 rfl)))⟩
    · skip
      refine WP.skip ?_
      refine WP.seq ?_
      refine WP.stepE g42_e_ok ⟨U :: .ptr 0 0 :: .int .i64 0 :: us 20 (.bool (g110_111 x3) :: us 8 []), [[.int .i64 x0, .str x1, .int .i64 x2, ofSl 1 e9 x3]]⟩ (fun q => (okSl e9 d9 (ofSl 1 e9 x3) ∧ q)) (by kernel_rfl) ⟨(okOf ed9 1 x3), rfl⟩ ?_
      refine WP.condR (g110_111 x3) rfl (fun h5 => ?_) (fun h5 => ?_)
      · skip
        refine WP.step0 g42_e_ok ⟨U :: .ptr 0 0 :: .int .i64 1 :: us 29 [], [[.int .i64 x0, .str x1, .int .i64 x2, ofSl 1 e9 x3]]⟩ (by kernel_rfl) ?_
        exact WP.retP (True ∧ ((.int .i64 1 : AV) = .int .i64 (g42 x0 x1 x2 x3))) (by kernel_rfl) ⟨trivial, (congrArg (AV.int .i64) (eqF h2 (eqF h4 (eqT h5 rfl))))⟩
      · skip
        refine WP.skip ?_
        refine WP.seq ?_
        refine WP.stepM g42_e_ok (fun a : Bool => ⟨U :: U :: .int .i64 0 :: us 28 ([.bool a]), []⟩) (g42_m3 x2) (fun K => (((decide (x2 < (-1099511627776))) = true → K true) ∧ ((decide (x2 < (-1099511627776))) = false → K (decide (x2 > 1099511627776))))) (by kernel_rfl) ⟨fun h6 => (KM.mk (eqT h6 rfl)), fun h6 => (KM.mk (eqF h6 rfl))⟩ ?_
        refine WP.condR (g42_m3 x2) rfl (fun h7 => ?_) (fun h7 => ?_)
        · skip
          refine WP.step0 g42_e_ok ⟨U :: U :: .int .i64 2 :: us 29 [], []⟩ (by kernel_rfl) ?_
          exact WP.retP (True ∧ ((.int .i64 2 : AV) = .int .i64 (g42 x0 x1 x2 x3))) (by kernel_rfl) ⟨trivial, (congrArg (AV.int .i64) (eqF h2 (eqF h4 (eqF h5 (eqT h7 rfl)))))⟩
        · skip
          refine WP.skip ?_
          refine WP.step0 g42_e_ok ⟨U :: U :: .int .i64 0 :: us 29 [], []⟩ (by kernel_rfl) ?_
          exact WP.retP (True ∧ ((.int .i64 0 : AV) = .int .i64 (g42 x0 x1 x2 x3))) (by kernel_rfl) ⟨trivial, (congrArg (AV.int .i64) (eqF h2 (eqF h4 (eqF h5 (eqF h7 rfl)))))⟩
noncomputable def s42 : Ans := fun xs => match xs with
  | [.agg [.int .i64 x0, .str x1, .int .i64 x2, y3]] => bif isSl 1 y3 then some (some (okSl e9 d9 y3), .int .i64 (g42 x0 x1 x2 (toSl d9 y3))) else none
  | _ => none
theorem k42 : SOk Try.prog 42 s42 := ⟨⟨_, _, Try.func42, rfl, by kernel_rfl⟩, fun args pre r h hp => by
  unfold s42 at h
  split at h
  · obtain ⟨b0, h⟩ := cond_some h
    cases h
    exact (pc42 _ _ _ _).weak (l1 (aG (l1 cI (l1 cS (l1 cI (l1 (slLe b0 hp.1) l0))))) l0)
  · cases h⟩
noncomputable def g43_0 (x0 : Int) : Int := x0
noncomputable def g43_1 (x1 : ByteArray) : ByteArray := x1
noncomputable def g43_2 (x2 : Int) : Int := x2
noncomputable def g43_3 (x3 : Sl ByteArray) : Sl ByteArray := x3
noncomputable abbrev g43_e : Env := mkE []
theorem g43_e_ok : g43_e.Ok := mkE_ok trivial
theorem pc43 (x0 : Int) (x1 : ByteArray) (x2 : Int) (x3 : Sl ByteArray) : PureCall Try.prog 43 [.agg [.int .i64 x0, .str x1, .int .i64 x2, ofSl 1 e9 x3]] (.agg [.int .i64 (g43_0 x0), .str (g43_1 x1), .int .i64 (g43_2 x2), ofSl 1 e9 (g43_3 x3)]) := by
  refine PureCall.fine fun hf => ?_
  have hf_x3 : Fine (ofSl 1 e9 x3) := hf.1.2.2.2.1
  have hn_x3 : x3.n ≤ 549755813888 := hf_x3.len
  refine pure_of_WP (E := g43_e) g43_e_ok Try.func43 rfl _ _ ?_
  refine WP.step0 g43_e_ok ⟨U :: .ptr 0 0 :: .ptr 1 0 :: us 5 [], [[.int .i64 x0, .str x1, .int .i64 x2, ofSl 1 e9 x3], [.int .i64 0, .str ⟨#[]⟩, .int .i64 0, .nils]]⟩ (by kernel_rfl) ?_
  refine WP.stepE g43_e_ok ⟨U :: .ptr 0 0 :: .ptr 1 0 :: us 5 [], [[.int .i64 x0, .str x1, .int .i64 x2, .own 2 x3.n], [.int .i64 0, .str ⟨#[]⟩, .int .i64 0, .nils], [.blk false 1 x3.n (fun i => e9 (x3.at' i))]]⟩ (fun q => ((x3.n ≤ 549755813888) ∧ q)) (by kernel_rfl) ⟨(by omega), rfl⟩ ?_
  refine WP.step0 g43_e_ok ⟨U :: U :: .ptr 1 0 :: us 5 [], [[], [.int .i64 x0, .str x1, .int .i64 x2, .own 2 x3.n], [.blk false 1 x3.n (fun i => e9 (x3.at' i))]]⟩ (by kernel_rfl) ?_
  exact WP.retP (True ∧ (((x3.n : Nat) = x3.n) ∧ (((.int .i64 x0 : AV) = .int .i64 (g43_0 x0)) ∧ ((.str x1 : AV) = .str (g43_1 x1)) ∧ ((.int .i64 x2 : AV) = .int .i64 (g43_2 x2)) ∧ (1 = 1 ∧ x3.n = (g43_3 x3).n ∧ ∀ i, i < x3.n → e9 (x3.at' i) = e9 ((g43_3 x3).at' i)) ∧ True))) (by kernel_rfl) ⟨trivial, ⟨rfl, ⟨rfl, rfl, rfl, (slEq (sz := 1) (enc := e9) rfl), trivial⟩⟩⟩
noncomputable def s43 : Ans := fun xs => match xs with
  | [.agg [.int .i64 x0, .str x1, .int .i64 x2, y3]] => bif isSl 1 y3 then some (some (okSl e9 d9 y3), .agg [.int .i64 (g43_0 x0), .str (g43_1 x1), .int .i64 (g43_2 x2), ofSl 1 e9 (g43_3 (toSl d9 y3))]) else none
  | _ => none
theorem k43 : SOk Try.prog 43 s43 := ⟨⟨_, _, Try.func43, rfl, by kernel_rfl⟩, fun args pre r h hp => by
  unfold s43 at h
  split at h
  · obtain ⟨b0, h⟩ := cond_some h
    cases h
    exact (pc43 _ _ _ _).weak (l1 (aG (l1 cI (l1 cS (l1 cI (l1 (slLe b0 hp.1) l0))))) l0)
  · cases h⟩
noncomputable def g44_m1 (x1 : ByteArray) (x3 : Sl ByteArray) : Bool := (bif (!(g113 x1)) then true else (decide ((x3.n : Int) > 20)))
noncomputable def g44_l4 (x3 : Sl ByteArray) : Nat → Int → Bool × Int
  | 0, _ => default
  | k + 1, v4_0 => (bif (decide (v4_0 < (x3.n : Int))) then (bif (!(g113 (x3.at' (Int.toNat v4_0)))) then (true, 1) else (g44_l4 x3 k (IntKind.i64.wrap (v4_0 + 1)))) else (false, default))
noncomputable def g44_r2 (x3 : Sl ByteArray) : Bool × Int := g44_l4 x3 ((Int.toNat ((x3.n : Int) - 0)) + 1) 0
noncomputable def g44_p3 (x3 : Sl ByteArray) : Bool := (bif (g44_r2 x3).1 then false else true)
noncomputable def g44 (x0 : Int) (x1 : ByteArray) (x2 : Int) (x3 : Sl ByteArray) : Int := (bif (!(g112 x0 0 13)) then 3 else (bif (g44_m1 x1 x3) then 1 else (bif (g44_p3 x3) then (bif (!(g114 x2)) then 2 else 0) else (g44_r2 x3).2)))
noncomputable abbrev g44_e : Env := mkE [(112, s112), (113, s113), (114, s114)]
theorem g44_e_ok : g44_e.Ok := mkE_ok ⟨k112, k113, k114, trivial⟩
theorem pc44 (x0 : Int) (x1 : ByteArray) (x2 : Int) (x3 : Sl ByteArray) : PureCall Try.prog 44 [.agg [.int .i64 x0, .str x1, .int .i64 x2, ofSl 1 e9 x3]] (.int .i64 (g44 x0 x1 x2 x3)) := by
  refine PureCall.fine fun hf => ?_
  have hf_x3 : Fine (ofSl 1 e9 x3) := hf.1.2.2.2.1
  have hn_x3 : x3.n ≤ 549755813888 := hf_x3.len
  refine pure_of_WP (E := g44_e) g44_e_ok Try.func44 rfl _ _ ?_
  refine WP.step0 g44_e_ok ⟨U :: .ptr 0 0 :: .int .i64 0 :: us 33 [], [[.int .i64 x0, .str x1, .int .i64 x2, ofSl 1 e9 x3]]⟩ (by kernel_rfl) ?_
  refine WP.seq ?_
  refine WP.step0 g44_e_ok ⟨U :: .ptr 0 0 :: .int .i64 0 :: us 4 (.bool (!(g112 x0 0 13)) :: us 28 []), [[.int .i64 x0, .str x1, .int .i64 x2, ofSl 1 e9 x3]]⟩ (by kernel_rfl) ?_
  refine WP.condR (!(g112 x0 0 13)) rfl (fun h1 => ?_) (fun h1 => ?_)
  · skip
    refine WP.step0 g44_e_ok ⟨U :: .ptr 0 0 :: .int .i64 3 :: us 33 [], [[.int .i64 x0, .str x1, .int .i64 x2, ofSl 1 e9 x3]]⟩ (by kernel_rfl) ?_
    exact WP.retP (True ∧ ((.int .i64 3 : AV) = .int .i64 (g44 x0 x1 x2 x3))) (by kernel_rfl) ⟨trivial, (congrArg (AV.int .i64) (eqT h1 rfl))⟩
  · skip
    refine WP.skip ?_
    refine WP.seq ?_
    refine WP.stepM g44_e_ok (fun a : Bool => ⟨U :: .ptr 0 0 :: .int .i64 0 :: us 14 (.bool a :: us 18 []), [[.int .i64 x0, .str x1, .int .i64 x2, ofSl 1 e9 x3]]⟩) (g44_m1 x1 x3) (fun K => (((!(g113 x1)) = true → K true) ∧ ((!(g113 x1)) = false → K (decide ((x3.n : Int) > 20))))) (by kernel_rfl) ⟨fun h2 => (KM.mk (eqT h2 rfl)), fun h2 => (KM.mk (eqF h2 rfl))⟩ ?_
    refine WP.condR (g44_m1 x1 x3) rfl (fun h3 => ?_) (fun h3 => ?_)
    · skip
      refine WP.step0 g44_e_ok ⟨U :: .ptr 0 0 :: .int .i64 1 :: us 33 [], [[.int .i64 x0, .str x1, .int .i64 x2, ofSl 1 e9 x3]]⟩ (by kernel_rfl) ?_
      exact WP.retP (True ∧ ((.int .i64 1 : AV) = .int .i64 (g44 x0 x1 x2 x3))) (by kernel_rfl) ⟨trivial, (congrArg (AV.int .i64) (eqF h1 (eqT h3 rfl)))⟩
    · skip
      refine WP.skip ?_
      refine WP.joinP ⟨U :: .ptr 0 0 :: .int .i64 0 :: us 33 [], [[.int .i64 x0, .str x1, .int .i64 x2, ofSl 1 e9 x3]]⟩ (g44_p3 x3) ?_ ?_
      · skip
        refine WP.step0 g44_e_ok ⟨U :: .ptr 0 0 :: .int .i64 0 :: .int .i64 0 :: us 32 [], [[.int .i64 x0, .str x1, .int .i64 x2, ofSl 1 e9 x3]]⟩ (by kernel_rfl) ?_
        refine WP.block ?_
        refine WP.loopK (σ := Int) (R := Bool × Int) (fun s => ⟨U :: .ptr 0 0 :: .int .i64 0 :: .int .i64 s :: us 32 [], [[.int .i64 x0, .str x1, .int .i64 x2, ofSl 1 e9 x3]]⟩) (fun s => (0 ≤ s ∧ s ≤ (x3.n : Int))) (fun s => (Int.toNat ((x3.n : Int) - s))) (fun k s => g44_l4 x3 k s) 0 (by have := h3; simp [g44_m1] at this; first | omega | ((try dsimp only); omega) | ((try dsimp only); (try simp only [Sl.app_n]); (try simp only [Sl.lit_n]); (try simp only [Sl.part_n]); (try simp only [nilSl_n]); (try simp only [List.length_cons]); (try simp only [List.length_nil]); first | omega | (omega) | (simp only [wrap64 (by omega) (by omega)]; omega))) (leE (by kernel_rfl)) (fun k s hI4 hk4 hR4 => ?_)
        obtain ⟨v4_0, hs4⟩ : ∃ x, x = s := ⟨s, rfl⟩
        subst hs4
        have hI4 : (0 ≤ v4_0 ∧ v4_0 ≤ (x3.n : Int)) := hI4
        have hR4 : g44_l4 x3 (k + 1) v4_0 = (g44_r2 x3) := hR4
        refine WP.seq ?_
        refine WP.step0 g44_e_ok ⟨U :: .ptr 0 0 :: .int .i64 0 :: .int .i64 v4_0 :: us 14 (.int .i64 v4_0 :: .ptr 0 3 :: ofSl 1 e9 x3 :: .int .i64 (x3.n : Int) :: .bool (decide (v4_0 < (x3.n : Int))) :: us 13 []), [[.int .i64 x0, .str x1, .int .i64 x2, ofSl 1 e9 x3]]⟩ (by kernel_rfl) ?_
        refine WP.condR (decide (v4_0 < (x3.n : Int))) rfl (fun h4 => ?_) (fun h4 => ?_)
        · skip
          refine WP.skip ?_
          refine WP.seq ?_
          refine WP.block ?_
          refine WP.stepE g44_e_ok ⟨U :: .ptr 0 0 :: .int .i64 0 :: .int .i64 v4_0 :: us 14 (.int .i64 v4_0 :: .ptr 0 3 :: ofSl 1 e9 x3 :: .int .i64 (x3.n : Int) :: .bool (decide (v4_0 < (x3.n : Int))) :: U :: U :: .ptr 0 3 :: ofSl 1 e9 x3 :: .int .i64 v4_0 :: .ref [.str (x3.at' (Int.toNat v4_0))] :: .str (x3.at' (Int.toNat v4_0)) :: .bool (g113 (x3.at' (Int.toNat v4_0))) :: .bool (!(g113 (x3.at' (Int.toNat v4_0)))) :: us 4 []), [[.int .i64 x0, .str x1, .int .i64 x2, ofSl 1 e9 x3]]⟩ (fun q => ((0 ≤ v4_0 ∧ v4_0 < (x3.n : Int)) ∧ q)) (by kernel_rfl) ⟨(by have := h3; simp [g44_m1] at this; have := of_decide_eq_true h4; omega), rfl⟩ ?_
          refine WP.condR (!(g113 (x3.at' (Int.toNat v4_0)))) rfl (fun h5 => ?_) (fun h5 => ?_)
          · skip
            refine WP.step0 g44_e_ok ⟨U :: .ptr 0 0 :: .int .i64 1 :: .int .i64 v4_0 :: us 14 (.int .i64 v4_0 :: .ptr 0 3 :: ofSl 1 e9 x3 :: .int .i64 (x3.n : Int) :: .bool (decide (v4_0 < (x3.n : Int))) :: U :: U :: .ptr 0 3 :: ofSl 1 e9 x3 :: .int .i64 v4_0 :: .ref [.str (x3.at' (Int.toNat v4_0))] :: .str (x3.at' (Int.toNat v4_0)) :: .bool (g113 (x3.at' (Int.toNat v4_0))) :: .bool (!(g113 (x3.at' (Int.toNat v4_0)))) :: us 4 []), [[.int .i64 x0, .str x1, .int .i64 x2, ofSl 1 e9 x3]]⟩ (by kernel_rfl) ?_
            have hv6 : ((true, 1) : Bool × Int) = (g44_r2 x3) := ((eqT h4 (eqT h5 rfl))).trans hR4
            exact WP.retP (True ∧ ((.int .i64 1 : AV) = .int .i64 (g44 x0 x1 x2 x3))) (by kernel_rfl) ⟨trivial, (congrArg (AV.int .i64) ((congrArg (fun r : Bool × Int => r.2) hv6).trans (eqF h1 (eqF h3 (eqF ((eqT (congrArg (fun r : Bool × Int => r.1) hv6).symm rfl)).symm rfl)))))⟩
          · skip
            refine WP.skip ?_
            refine WP.fin0 g44_e_ok ⟨U :: .ptr 0 0 :: .int .i64 0 :: .int .i64 (IntKind.i64.wrap (v4_0 + 1)) :: us 14 (.int .i64 v4_0 :: .ptr 0 3 :: ofSl 1 e9 x3 :: .int .i64 (x3.n : Int) :: .bool (decide (v4_0 < (x3.n : Int))) :: .int .i64 v4_0 :: .int .i64 (IntKind.i64.wrap (v4_0 + 1)) :: .ptr 0 3 :: ofSl 1 e9 x3 :: .int .i64 v4_0 :: .ref [.str (x3.at' (Int.toNat v4_0))] :: .str (x3.at' (Int.toNat v4_0)) :: .bool (g113 (x3.at' (Int.toNat v4_0))) :: .bool (!(g113 (x3.at' (Int.toNat v4_0)))) :: us 4 []), [[.int .i64 x0, .str x1, .int .i64 x2, ofSl 1 e9 x3]]⟩ (by kernel_rfl) ?_
            exact loopR_nextE ((IntKind.i64.wrap (v4_0 + 1))) (by have := h3; simp [g44_m1] at this; have := of_decide_eq_true h4; first | omega | (have := wrap64 (x := (v4_0 + 1)) (by omega) (by omega); omega) | (simp only [wrap64 (x := (v4_0 + 1)) (by omega) (by omega)]; omega)) (by have := h3; simp [g44_m1] at this; have := of_decide_eq_true h4; first | omega | (have := wrap64 (x := (v4_0 + 1)) (by omega) (by omega); omega) | (simp only [wrap64 (x := (v4_0 + 1)) (by omega) (by omega)]; omega)) ((eqT h4 (eqF h5 rfl)).trans hR4) (by kernel_rfl)
        · skip
          have hv7 : ((false, default) : Bool × Int) = (g44_r2 x3) := ((eqF h4 rfl)).trans hR4
          exact WP.exitP ((g44_p3 x3) = true ∧ ((((.ptr 0 0 : AV) = .ptr 0 0) ∧ ((0 : Int) = 0) ∧ True) ∧ ((((x0 : Int) = x0) ∧ ((x1 : ByteArray) = x1) ∧ ((x2 : Int) = x2) ∧ (x3.n = x3.n ∧ ∀ i, i < x3.n → e9 (x3.at' i) = e9 (x3.at' i)) ∧ True) ∧ True) ∧ true = true)) (by kernel_rfl) ⟨((eqF (congrArg (fun r : Bool × Int => r.1) hv7).symm rfl)).symm, ⟨⟨rfl, rfl, trivial⟩, ⟨⟨rfl, rfl, rfl, ⟨rfl, fun _ _ => rfl⟩, trivial⟩, trivial⟩, rfl⟩⟩
      · skip
        intro h8
        refine WP.seq ?_
        refine WP.step0 g44_e_ok ⟨U :: U :: .int .i64 0 :: us 32 ([.bool (!(g114 x2))]), []⟩ (by kernel_rfl) ?_
        refine WP.condR (!(g114 x2)) rfl (fun h9 => ?_) (fun h9 => ?_)
        · skip
          refine WP.step0 g44_e_ok ⟨U :: U :: .int .i64 2 :: us 33 [], []⟩ (by kernel_rfl) ?_
          exact WP.retP (True ∧ ((.int .i64 2 : AV) = .int .i64 (g44 x0 x1 x2 x3))) (by kernel_rfl) ⟨trivial, (congrArg (AV.int .i64) (eqF h1 (eqF h3 (eqT h8 (eqT h9 rfl)))))⟩
        · skip
          refine WP.skip ?_
          refine WP.step0 g44_e_ok ⟨U :: U :: .int .i64 0 :: us 33 [], []⟩ (by kernel_rfl) ?_
          exact WP.retP (True ∧ ((.int .i64 0 : AV) = .int .i64 (g44 x0 x1 x2 x3))) (by kernel_rfl) ⟨trivial, (congrArg (AV.int .i64) (eqF h1 (eqF h3 (eqT h8 (eqF h9 rfl)))))⟩
noncomputable def s44 : Ans := fun xs => match xs with
  | [.agg [.int .i64 x0, .str x1, .int .i64 x2, y3]] => bif isSl 1 y3 then some (some (okSl e9 d9 y3), .int .i64 (g44 x0 x1 x2 (toSl d9 y3))) else none
  | _ => none
theorem k44 : SOk Try.prog 44 s44 := ⟨⟨_, _, Try.func44, rfl, by kernel_rfl⟩, fun args pre r h hp => by
  unfold s44 at h
  split at h
  · obtain ⟨b0, h⟩ := cond_some h
    cases h
    exact (pc44 _ _ _ _).weak (l1 (aG (l1 cI (l1 cS (l1 cI (l1 (slLe b0 hp.1) l0))))) l0)
  · cases h⟩
end Go.Proofs.Ytchhfojblmceiaa
