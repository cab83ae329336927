/-
  Walks: what functions of the program answer, as functions.
-/
import Derived.Test.YtchhfojblmceiaaCl
import Derived.Test.YtchhfojblmceiaaU0
import Derived.Test.YtchhfojblmceiaaUr
import Derived.Test.YtchhfojblmceiaaEc
import Derived.Test.YtchhfojblmceiaaV1
import Derived.Test.YtchhfojblmceiaaV2
import Derived.Test.YtchhfojblmceiaaV3
import Derived.Test.YtchhfojblmceiaaV4
import Derived.Test.YtchhfojblmceiaaV5
namespace Go.Proofs.Ytchhfojblmceiaa
open Go Go.Vc Go.RowKit
set_option maxRecDepth 100000
set_option maxHeartbeats 4000000
noncomputable def g153_m1 (x0 : Int) : Bool := (bif (decide (x0 ≥ 1)) then (decide (x0 ≤ 1048576)) else false)
noncomputable def g153 (x0 : Int) : Bool := (g153_m1 x0)
noncomputable abbrev g153_e : Env := mkE []
theorem g153_e_ok : g153_e.Ok := mkE_ok trivial
theorem pc153 (x0 : Int) : PureCall Try.prog 153 [.int .i64 x0] (.bool (g153 x0)) := by
  refine pure_of_WP (E := g153_e) g153_e_ok Try.func153 rfl _ _ ?_
  refine WP.step0 g153_e_ok ⟨.int .i64 x0 :: U :: .bool false :: us 6 [], []⟩ (by kernel_rfl) ?_
  refine WP.stepM g153_e_ok (fun a : Bool => ⟨U :: U :: .bool a :: us 6 [], []⟩) (g153_m1 x0) (fun K => (((decide (x0 ≥ 1)) = true → K (decide (x0 ≤ 1048576))) ∧ ((decide (x0 ≥ 1)) = false → K false))) (by kernel_rfl) ⟨fun h1 => (KM.mk (eqT h1 rfl)), fun h1 => (KM.mk (eqF h1 rfl))⟩ ?_
  exact WP.retP (True ∧ ((.bool (g153_m1 x0) : AV) = .bool (g153 x0))) (by kernel_rfl) ⟨trivial, rfl⟩
noncomputable def s153 : Ans := fun xs => match xs with
  | [.int .i64 x0] => some (none, .bool (g153 x0))
  | _ => none
theorem k153 : SOk Try.prog 153 s153 := ⟨⟨_, _, Try.func153, rfl, by kernel_rfl⟩, fun args pre r h _ => by
  unfold s153 at h; split at h <;> cases h; exact pc153 _⟩
noncomputable def g87_m1 (x0 : Int) (x1 : Int) : Bool := (bif (!(g153 x0)) then true else (!(g153 x1)))
noncomputable def g87 (x0 : Int) (x1 : Int) (x2 : Int) (x3 : Sl T175) (x4 : Int) (x5 : Sl T137) : Int := (bif (g87_m1 x0 x1) then 2 else (g84 x2 x3 x4 x5))
noncomputable abbrev g87_e : Env := mkE [(84, s84), (153, s153)]
theorem g87_e_ok : g87_e.Ok := mkE_ok ⟨k84, k153, trivial⟩
theorem pc87 (x0 : Int) (x1 : Int) (x2 : Int) (x3 : Sl T175) (x4 : Int) (x5 : Sl T137) : PureCall Try.prog 87 [.agg [.int .i64 x0, .int .i64 x1, .int .i64 x2, ofSl 8 e175 x3, .int .i64 x4, ofSl 7 e137 x5]] (.int .i64 (g87 x0 x1 x2 x3 x4 x5)) := by
  refine PureCall.fine fun hf => ?_
  have hf_x3 : Fine (ofSl 8 e175 x3) := hf.1.2.2.2.1
  have hn_x3 : x3.n ≤ 549755813888 := hf_x3.len
  have hf_x5 : Fine (ofSl 7 e137 x5) := hf.1.2.2.2.2.2.1
  have hn_x5 : x5.n ≤ 549755813888 := hf_x5.len
  refine pure_of_WP (E := g87_e) g87_e_ok Try.func87 rfl _ _ ?_
  refine WP.step0 g87_e_ok ⟨U :: .ptr 0 0 :: .int .i64 0 :: us 13 [], [[.int .i64 x0, .int .i64 x1, .int .i64 x2, ofSl 8 e175 x3, .int .i64 x4, ofSl 7 e137 x5]]⟩ (by kernel_rfl) ?_
  refine WP.seq ?_
  refine WP.stepM g87_e_ok (fun a : Bool => ⟨U :: .ptr 0 0 :: .int .i64 0 :: us 9 ([.bool a, U, U, U]), [[.int .i64 x0, .int .i64 x1, .int .i64 x2, ofSl 8 e175 x3, .int .i64 x4, ofSl 7 e137 x5]]⟩) (g87_m1 x0 x1) (fun K => (((!(g153 x0)) = true → K true) ∧ ((!(g153 x0)) = false → K (!(g153 x1))))) (by kernel_rfl) ⟨fun h1 => (KM.mk (eqT h1 rfl)), fun h1 => (KM.mk (eqF h1 rfl))⟩ ?_
  refine WP.condR (g87_m1 x0 x1) rfl (fun h2 => ?_) (fun h2 => ?_)
  · skip
    refine WP.step0 g87_e_ok ⟨U :: .ptr 0 0 :: .int .i64 2 :: us 13 [], [[.int .i64 x0, .int .i64 x1, .int .i64 x2, ofSl 8 e175 x3, .int .i64 x4, ofSl 7 e137 x5]]⟩ (by kernel_rfl) ?_
    exact WP.retP (True ∧ ((.int .i64 2 : AV) = .int .i64 (g87 x0 x1 x2 x3 x4 x5))) (by kernel_rfl) ⟨trivial, (congrArg (AV.int .i64) (eqT h2 rfl))⟩
  · skip
    refine WP.skip ?_
    refine WP.stepE g87_e_ok ⟨U :: U :: .int .i64 (g84 x2 x3 x4 x5) :: us 13 [], []⟩ (fun q => ((okSl e175 d175 (ofSl 8 e175 x3) ∧ okSl e137 d137 (ofSl 7 e137 x5)) ∧ q)) (by kernel_rfl) ⟨⟨(okOf ed175 8 x3), (okOf ed137 7 x5)⟩, rfl⟩ ?_
    exact WP.retP (True ∧ ((.int .i64 (g84 x2 x3 x4 x5) : AV) = .int .i64 (g87 x0 x1 x2 x3 x4 x5))) (by kernel_rfl) ⟨trivial, (congrArg (AV.int .i64) (eqF h2 rfl))⟩
noncomputable def s87 : Ans := fun xs => match xs with
  | [.agg [.int .i64 x0, .int .i64 x1, .int .i64 x2, y3, .int .i64 x4, y5]] => bif isSl 8 y3 then bif isSl 7 y5 then some (some (okSl e175 d175 y3 ∧ okSl e137 d137 y5), .int .i64 (g87 x0 x1 x2 (toSl d175 y3) x4 (toSl d137 y5))) else none else none
  | _ => none
theorem k87 : SOk Try.prog 87 s87 := ⟨⟨_, _, Try.func87, rfl, by kernel_rfl⟩, fun args pre r h hp => by
  unfold s87 at h
  split at h
  · obtain ⟨b0, h⟩ := cond_some h
    obtain ⟨b1, h⟩ := cond_some h
    cases h
    exact (pc87 _ _ _ _ _ _).weak (l1 (aG (l1 cI (l1 cI (l1 cI (l1 (slLe b0 hp.1.1) (l1 cI (l1 (slLe b1 hp.1.2) l0))))))) l0)
  · cases h⟩
noncomputable def g88_0 (x0 : Int) : Int := x0
noncomputable def g88_1 (x1 : Int) : Int := x1
noncomputable def g88_2 (x2 : Int) : Int := (g85_0 x2)
noncomputable def g88_3 (x3 : Sl T175) : Sl T175 := (g85_1 x3)
noncomputable def g88_4 (x4 : Int) : Int := (g85_2 x4)
noncomputable def g88_5 (x5 : Sl T137) : Sl T137 := (g85_3 x5)
noncomputable abbrev g88_e : Env := mkE [(85, s85)]
theorem g88_e_ok : g88_e.Ok := mkE_ok ⟨k85, trivial⟩
theorem pc88 (x0 : Int) (x1 : Int) (x2 : Int) (x3 : Sl T175) (x4 : Int) (x5 : Sl T137) : PureCall Try.prog 88 [.agg [.int .i64 x0, .int .i64 x1, .int .i64 x2, ofSl 8 e175 x3, .int .i64 x4, ofSl 7 e137 x5]] (.agg [.int .i64 (g88_0 x0), .int .i64 (g88_1 x1), .int .i64 (g88_2 x2), ofSl 8 e175 (g88_3 x3), .int .i64 (g88_4 x4), ofSl 7 e137 (g88_5 x5)]) := by
  refine PureCall.fine fun hf => ?_
  have hf_x3 : Fine (ofSl 8 e175 x3) := hf.1.2.2.2.1
  have hn_x3 : x3.n ≤ 549755813888 := hf_x3.len
  have hf_x5 : Fine (ofSl 7 e137 x5) := hf.1.2.2.2.2.2.1
  have hn_x5 : x5.n ≤ 549755813888 := hf_x5.len
  refine pure_of_WP (E := g88_e) g88_e_ok Try.func88 rfl _ _ ?_
  refine WP.step0 g88_e_ok ⟨U :: .ptr 0 0 :: .ptr 1 0 :: us 8 [], [[.int .i64 x0, .int .i64 x1, .int .i64 x2, ofSl 8 e175 x3, .int .i64 x4, ofSl 7 e137 x5], [.int .i64 0, .int .i64 0, .int .i64 0, .nils, .int .i64 0, .nils]]⟩ (by kernel_rfl) ?_
  refine WP.stepE g88_e_ok ⟨U :: U :: .ptr 1 0 :: us 8 [], [[], [.int .i64 x0, .int .i64 x1, .int .i64 (g85_0 x2), ofSl 8 e175 (g85_1 x3), .int .i64 (g85_2 x4), ofSl 7 e137 (g85_3 x5)]]⟩ (fun q => ((okSl e175 d175 (ofSl 8 e175 x3) ∧ okSl e137 d137 (ofSl 7 e137 x5)) ∧ (true = true ∧ q))) (by kernel_rfl) ⟨⟨(okOf ed175 8 x3), (okOf ed137 7 x5)⟩, ⟨rfl, rfl⟩⟩ ?_
  exact WP.retP (True ∧ (((.int .i64 x0 : AV) = .int .i64 (g88_0 x0)) ∧ ((.int .i64 x1 : AV) = .int .i64 (g88_1 x1)) ∧ ((.int .i64 (g85_0 x2) : AV) = .int .i64 (g88_2 x2)) ∧ (8 = 8 ∧ (g85_1 x3).n = (g88_3 x3).n ∧ ∀ i, i < (g85_1 x3).n → e175 ((g85_1 x3).at' i) = e175 ((g88_3 x3).at' i)) ∧ ((.int .i64 (g85_2 x4) : AV) = .int .i64 (g88_4 x4)) ∧ (7 = 7 ∧ (g85_3 x5).n = (g88_5 x5).n ∧ ∀ i, i < (g85_3 x5).n → e137 ((g85_3 x5).at' i) = e137 ((g88_5 x5).at' i)) ∧ True)) (by kernel_rfl) ⟨trivial, ⟨rfl, rfl, rfl, (slEq (sz := 8) (enc := e175) rfl), rfl, (slEq (sz := 7) (enc := e137) rfl), trivial⟩⟩
noncomputable def s88 : Ans := fun xs => match xs with
  | [.agg [.int .i64 x0, .int .i64 x1, .int .i64 x2, y3, .int .i64 x4, y5]] => bif isSl 8 y3 then bif isSl 7 y5 then some (some (okSl e175 d175 y3 ∧ okSl e137 d137 y5), .agg [.int .i64 (g88_0 x0), .int .i64 (g88_1 x1), .int .i64 (g88_2 x2), ofSl 8 e175 (g88_3 (toSl d175 y3)), .int .i64 (g88_4 x4), ofSl 7 e137 (g88_5 (toSl d137 y5))]) else none else none
  | _ => none
theorem k88 : SOk Try.prog 88 s88 := ⟨⟨_, _, Try.func88, rfl, by kernel_rfl⟩, fun args pre r h hp => by
  unfold s88 at h
  split at h
  · obtain ⟨b0, h⟩ := cond_some h
    obtain ⟨b1, h⟩ := cond_some h
    cases h
    exact (pc88 _ _ _ _ _ _).weak (l1 (aG (l1 cI (l1 cI (l1 cI (l1 (slLe b0 hp.1.1) (l1 cI (l1 (slLe b1 hp.1.2) l0))))))) l0)
  · cases h⟩
noncomputable def g89_m1 (x0 : Int) (x1 : Int) : Bool := (bif (!(g120 x0)) then true else (!(g120 x1)))
noncomputable def g89 (x0 : Int) (x1 : Int) (x2 : Int) (x3 : Sl T175) (x4 : Int) (x5 : Sl T137) : Int := (bif (g89_m1 x0 x1) then 2 else (g86 x2 x3 x4 x5))
noncomputable abbrev g89_e : Env := mkE [(86, s86), (120, s120)]
theorem g89_e_ok : g89_e.Ok := mkE_ok ⟨k86, k120, trivial⟩
theorem pc89 (x0 : Int) (x1 : Int) (x2 : Int) (x3 : Sl T175) (x4 : Int) (x5 : Sl T137) : PureCall Try.prog 89 [.agg [.int .i64 x0, .int .i64 x1, .int .i64 x2, ofSl 8 e175 x3, .int .i64 x4, ofSl 7 e137 x5]] (.int .i64 (g89 x0 x1 x2 x3 x4 x5)) := by
  refine PureCall.fine fun hf => ?_
  have hf_x3 : Fine (ofSl 8 e175 x3) := hf.1.2.2.2.1
  have hn_x3 : x3.n ≤ 549755813888 := hf_x3.len
  have hf_x5 : Fine (ofSl 7 e137 x5) := hf.1.2.2.2.2.2.1
  have hn_x5 : x5.n ≤ 549755813888 := hf_x5.len
  refine pure_of_WP (E := g89_e) g89_e_ok Try.func89 rfl _ _ ?_
  refine WP.step0 g89_e_ok ⟨U :: .ptr 0 0 :: .int .i64 0 :: us 13 [], [[.int .i64 x0, .int .i64 x1, .int .i64 x2, ofSl 8 e175 x3, .int .i64 x4, ofSl 7 e137 x5]]⟩ (by kernel_rfl) ?_
  refine WP.seq ?_
  refine WP.stepM g89_e_ok (fun a : Bool => ⟨U :: .ptr 0 0 :: .int .i64 0 :: us 9 ([.bool a, U, U, U]), [[.int .i64 x0, .int .i64 x1, .int .i64 x2, ofSl 8 e175 x3, .int .i64 x4, ofSl 7 e137 x5]]⟩) (g89_m1 x0 x1) (fun K => (((!(g120 x0)) = true → K true) ∧ ((!(g120 x0)) = false → K (!(g120 x1))))) (by kernel_rfl) ⟨fun h1 => (KM.mk (eqT h1 rfl)), fun h1 => (KM.mk (eqF h1 rfl))⟩ ?_
  refine WP.condR (g89_m1 x0 x1) rfl (fun h2 => ?_) (fun h2 => ?_)
  · skip
    refine WP.step0 g89_e_ok ⟨U :: .ptr 0 0 :: .int .i64 2 :: us 13 [], [[.int .i64 x0, .int .i64 x1, .int .i64 x2, ofSl 8 e175 x3, .int .i64 x4, ofSl 7 e137 x5]]⟩ (by kernel_rfl) ?_
    exact WP.retP (True ∧ ((.int .i64 2 : AV) = .int .i64 (g89 x0 x1 x2 x3 x4 x5))) (by kernel_rfl) ⟨trivial, (congrArg (AV.int .i64) (eqT h2 rfl))⟩
  · skip
    refine WP.skip ?_
    refine WP.stepE g89_e_ok ⟨U :: U :: .int .i64 (g86 x2 x3 x4 x5) :: us 13 [], []⟩ (fun q => ((okSl e175 d175 (ofSl 8 e175 x3) ∧ okSl e137 d137 (ofSl 7 e137 x5)) ∧ q)) (by kernel_rfl) ⟨⟨(okOf ed175 8 x3), (okOf ed137 7 x5)⟩, rfl⟩ ?_
    exact WP.retP (True ∧ ((.int .i64 (g86 x2 x3 x4 x5) : AV) = .int .i64 (g89 x0 x1 x2 x3 x4 x5))) (by kernel_rfl) ⟨trivial, (congrArg (AV.int .i64) (eqF h2 rfl))⟩
noncomputable def s89 : Ans := fun xs => match xs with
  | [.agg [.int .i64 x0, .int .i64 x1, .int .i64 x2, y3, .int .i64 x4, y5]] => bif isSl 8 y3 then bif isSl 7 y5 then some (some (okSl e175 d175 y3 ∧ okSl e137 d137 y5), .int .i64 (g89 x0 x1 x2 (toSl d175 y3) x4 (toSl d137 y5))) else none else none
  | _ => none
theorem k89 : SOk Try.prog 89 s89 := ⟨⟨_, _, Try.func89, rfl, by kernel_rfl⟩, fun args pre r h hp => by
  unfold s89 at h
  split at h
  · obtain ⟨b0, h⟩ := cond_some h
    obtain ⟨b1, h⟩ := cond_some h
    cases h
    exact (pc89 _ _ _ _ _ _).weak (l1 (aG (l1 cI (l1 cI (l1 cI (l1 (slLe b0 hp.1.1) (l1 cI (l1 (slLe b1 hp.1.2) l0))))))) l0)
  · cases h⟩
noncomputable def g25 (x0 : Int) (x1 : Int) (x2 : Int) (x3 : Sl T175) (x4 : Int) (x5 : Sl T137) : Bool := ((g87 (g88_0 x0) (g88_1 x1) (g88_2 x2) (g88_3 x3) (g88_4 x4) (g88_5 x5)) == (g89 x0 x1 x2 x3 x4 x5))
noncomputable abbrev g25_e : Env := mkE [(87, s87), (88, s88), (89, s89)]
theorem g25_e_ok : g25_e.Ok := mkE_ok ⟨k87, k88, k89, trivial⟩
theorem pc25 (x0 : Int) (x1 : Int) (x2 : Int) (x3 : Sl T175) (x4 : Int) (x5 : Sl T137) : PureCall Try.prog 25 [.agg [.int .i64 x0, .int .i64 x1, .int .i64 x2, ofSl 8 e175 x3, .int .i64 x4, ofSl 7 e137 x5]] (.bool (g25 x0 x1 x2 x3 x4 x5)) := by
  refine PureCall.fine fun hf => ?_
  have hf_x3 : Fine (ofSl 8 e175 x3) := hf.1.2.2.2.1
  have hn_x3 : x3.n ≤ 549755813888 := hf_x3.len
  have hf_x5 : Fine (ofSl 7 e137 x5) := hf.1.2.2.2.2.2.1
  have hn_x5 : x5.n ≤ 549755813888 := hf_x5.len
  refine pure_of_WP (E := g25_e) g25_e_ok Try.func25 rfl _ _ ?_
  refine WP.step0 g25_e_ok ⟨U :: .ptr 0 0 :: .bool false :: us 10 [], [[.int .i64 x0, .int .i64 x1, .int .i64 x2, ofSl 8 e175 x3, .int .i64 x4, ofSl 7 e137 x5]]⟩ (by kernel_rfl) ?_
  refine WP.stepE g25_e_ok ⟨U :: .ptr 0 0 :: .bool false :: .int .i64 (g87 (g88_0 x0) (g88_1 x1) (g88_2 x2) (g88_3 x3) (g88_4 x4) (g88_5 x5)) :: us 9 [], [[.int .i64 x0, .int .i64 x1, .int .i64 x2, ofSl 8 e175 x3, .int .i64 x4, ofSl 7 e137 x5]]⟩ (fun q => ((okSl e175 d175 (ofSl 8 e175 x3) ∧ okSl e137 d137 (ofSl 7 e137 x5)) ∧ ((okSl e175 d175 (ofSl 8 e175 (g88_3 x3)) ∧ okSl e137 d137 (ofSl 7 e137 (g88_5 x5))) ∧ q))) (by kernel_rfl) ⟨⟨(okOf ed175 8 x3), (okOf ed137 7 x5)⟩, ⟨⟨(okOf ed175 8 (g88_3 x3)), (okOf ed137 7 (g88_5 x5))⟩, rfl⟩⟩ ?_
  refine WP.stepE g25_e_ok ⟨U :: U :: .bool false :: .int .i64 (g87 (g88_0 x0) (g88_1 x1) (g88_2 x2) (g88_3 x3) (g88_4 x4) (g88_5 x5)) :: .int .i64 (g89 x0 x1 x2 x3 x4 x5) :: us 8 [], []⟩ (fun q => ((okSl e175 d175 (ofSl 8 e175 x3) ∧ okSl e137 d137 (ofSl 7 e137 x5)) ∧ q)) (by kernel_rfl) ⟨⟨(okOf ed175 8 x3), (okOf ed137 7 x5)⟩, rfl⟩ ?_
  refine WP.step0 g25_e_ok ⟨U :: U :: .bool ((g87 (g88_0 x0) (g88_1 x1) (g88_2 x2) (g88_3 x3) (g88_4 x4) (g88_5 x5)) == (g89 x0 x1 x2 x3 x4 x5)) :: us 10 [], []⟩ (by kernel_rfl) ?_
  exact WP.retP (True ∧ ((.bool ((g87 (g88_0 x0) (g88_1 x1) (g88_2 x2) (g88_3 x3) (g88_4 x4) (g88_5 x5)) == (g89 x0 x1 x2 x3 x4 x5)) : AV) = .bool (g25 x0 x1 x2 x3 x4 x5))) (by kernel_rfl) ⟨trivial, rfl⟩
noncomputable def s25 : Ans := fun xs => match xs with
  | [.agg [.int .i64 x0, .int .i64 x1, .int .i64 x2, y3, .int .i64 x4, y5]] => bif isSl 8 y3 then bif isSl 7 y5 then some (some (okSl e175 d175 y3 ∧ okSl e137 d137 y5), .bool (g25 x0 x1 x2 (toSl d175 y3) x4 (toSl d137 y5))) else none else none
  | _ => none
theorem k25 : SOk Try.prog 25 s25 := ⟨⟨_, _, Try.func25, rfl, by kernel_rfl⟩, fun args pre r h hp => by
  unfold s25 at h
  split at h
  · obtain ⟨b0, h⟩ := cond_some h
    obtain ⟨b1, h⟩ := cond_some h
    cases h
    exact (pc25 _ _ _ _ _ _).weak (l1 (aG (l1 cI (l1 cI (l1 cI (l1 (slLe b0 hp.1.1) (l1 cI (l1 (slLe b1 hp.1.2) l0))))))) l0)
  · cases h⟩
end Go.Proofs.Ytchhfojblmceiaa
