/-
  Walks: what functions of the program answer, as functions.
-/
import Derived.Test.YtchhfojblmceiaaCl
import Derived.Test.YtchhfojblmceiaaU0
import Derived.Test.YtchhfojblmceiaaU1
import Derived.Test.YtchhfojblmceiaaUr
import Derived.Test.YtchhfojblmceiaaU2
import Derived.Test.YtchhfojblmceiaaEc
import Derived.Test.YtchhfojblmceiaaL1
import Derived.Test.YtchhfojblmceiaaL2
import Derived.Test.YtchhfojblmceiaaV1
import Derived.Test.YtchhfojblmceiaaV2
import Derived.Test.YtchhfojblmceiaaV3
import Derived.Test.YtchhfojblmceiaaV4
import Derived.Test.YtchhfojblmceiaaV5
import Derived.Test.YtchhfojblmceiaaV6
namespace Go.Proofs.Ytchhfojblmceiaa
open Go Go.Vc Go.RowKit
set_option maxRecDepth 100000
set_option maxHeartbeats 4000000
noncomputable def g177_m1 (x0 : Int) (x1 : Int) (x2 : Sl T68) (x3 : Int) (x4 : Int) : Bool := (bif ((g62_1 x0 x1 x2 x3) == 0) then ((g62_0 x0 x1 x2 x3) == x4) else false)
noncomputable def g177_0 (x0 : Int) (x1 : Int) (x2 : Sl T68) (x3 : Int) (x4 : Int) : Int := (bif (g177_m1 x0 x1 x2 x3 x4) then (g66_0_0 x0 x1 x2 x3) else x3)
noncomputable def g177_1 (x0 : Int) (x1 : Int) (x2 : Sl T68) (x3 : Int) (x4 : Int) : Int := (bif (g177_m1 x0 x1 x2 x3 x4) then (g66_0_1 x0 x1 x2 x3) else x4)
noncomputable def g177_2 (x0 : Int) (x1 : Int) (x2 : Sl T68) (x3 : Int) (x4 : Int) : Sl T68 := (bif (g177_m1 x0 x1 x2 x3 x4) then (g66_0_2 x0 x1 x2 x3) else (nilSl : Sl T68))
noncomputable abbrev g177_e : Env := mkE [(62, s62), (66, s66)]
theorem g177_e_ok : g177_e.Ok := mkE_ok ⟨k62, k66, trivial⟩
theorem pc177 (x0 : Int) (x1 : Int) (x2 : Sl T68) (x3 : Int) (x4 : Int) (x5 : Int) (x6 : Sl T175) (x7 : Int) (x8 : Sl T137) (hq0 : x3 ≤ 9223372036854775807) : PureCall Try.prog 177 [.agg [.int .i64 x0, .int .i64 x1, ofSl 10 e68 x2], .agg [.int .i64 x3, .int .i64 x4, .int .i64 x5, ofSl 8 e175 x6, .int .i64 x7, ofSl 7 e137 x8]] (.agg [.int .i64 (g177_0 x0 x1 x2 x3 x4), .int .i64 (g177_1 x0 x1 x2 x3 x4), ofSl 10 e68 (g177_2 x0 x1 x2 x3 x4)]) := by
  refine PureCall.fine fun hf => ?_
  have hf_x2 : Fine (ofSl 10 e68 x2) := hf.1.2.2.1
  have hn_x2 : x2.n ≤ 549755813888 := hf_x2.len
  have hf_x6 : Fine (ofSl 8 e175 x6) := hf.2.1.2.2.2.1
  have hn_x6 : x6.n ≤ 549755813888 := hf_x6.len
  have hf_x8 : Fine (ofSl 7 e137 x8) := hf.2.1.2.2.2.2.2.1
  have hn_x8 : x8.n ≤ 549755813888 := hf_x8.len
  refine pure_of_WP (E := g177_e) g177_e_ok Try.func177 rfl _ _ ?_
  refine WP.step0 g177_e_ok ⟨U :: U :: .ptr 0 0 :: .ptr 1 0 :: .ptr 2 0 :: us 32 [], [[.int .i64 x0, .int .i64 x1, ofSl 10 e68 x2], [.int .i64 x3, .int .i64 x4, .int .i64 x5, ofSl 8 e175 x6, .int .i64 x7, ofSl 7 e137 x8], [.int .i64 0, .int .i64 0, .nils]]⟩ (by kernel_rfl) ?_
  refine WP.seq ?_
  refine WP.stepE g177_e_ok ⟨U :: U :: .ptr 0 0 :: .ptr 1 0 :: .ptr 2 0 :: .int .i64 (g62_0 x0 x1 x2 x3) :: .int .i64 (g62_1 x0 x1 x2 x3) :: us 30 [], [[.int .i64 x0, .int .i64 x1, ofSl 10 e68 x2], [.int .i64 x3, .int .i64 x4, .int .i64 x5, ofSl 8 e175 x6, .int .i64 x7, ofSl 7 e137 x8], [.int .i64 0, .int .i64 0, .nils]]⟩ (fun q => (okSl e68 d68 (ofSl 10 e68 x2) ∧ q)) (by kernel_rfl) ⟨(okOf ed68 10 x2), rfl⟩ ?_
  refine WP.stepM g177_e_ok (fun a : Bool => ⟨U :: U :: .ptr 0 0 :: .ptr 1 0 :: .ptr 2 0 :: us 18 (.bool a :: us 13 []), [[.int .i64 x0, .int .i64 x1, ofSl 10 e68 x2], [.int .i64 x3, .int .i64 x4, .int .i64 x5, ofSl 8 e175 x6, .int .i64 x7, ofSl 7 e137 x8], [.int .i64 0, .int .i64 0, .nils]]⟩) (g177_m1 x0 x1 x2 x3 x4) (fun K => ((((g62_1 x0 x1 x2 x3) == 0) = true → K ((g62_0 x0 x1 x2 x3) == x4)) ∧ (((g62_1 x0 x1 x2 x3) == 0) = false → K false))) (by kernel_rfl) ⟨fun h1 => (KM.mk (eqT h1 rfl)), fun h1 => (KM.mk (eqF h1 rfl))⟩ ?_
  refine WP.condR (g177_m1 x0 x1 x2 x3 x4) rfl (fun h2 => ?_) (fun h2 => ?_)
  · skip
    refine WP.stepE g177_e_ok ⟨U :: U :: U :: .ptr 1 0 :: .ptr 2 0 :: U :: U :: .ptr 3 0 :: us 29 [], [[], [.int .i64 x3, .int .i64 x4, .int .i64 x5, ofSl 8 e175 x6, .int .i64 x7, ofSl 7 e137 x8], [.int .i64 0, .int .i64 0, .nils], [.int .i64 (g66_0_0 x0 x1 x2 x3), .int .i64 (g66_0_1 x0 x1 x2 x3), ofSl 10 e68 (g66_0_2 x0 x1 x2 x3)]]⟩ (fun q => ((okSl e68 d68 (ofSl 10 e68 x2) ∧ (x3 ≤ 9223372036854775807)) ∧ q)) (by kernel_rfl) ⟨⟨(okOf ed68 10 x2), (by have := h2; (try simp [g177_m1] at this); omega)⟩, rfl⟩ ?_
    refine WP.step0 g177_e_ok ⟨U :: U :: U :: .ptr 1 0 :: .ptr 2 0 :: us 32 [], [[], [.int .i64 x3, .int .i64 x4, .int .i64 x5, ofSl 8 e175 x6, .int .i64 x7, ofSl 7 e137 x8], [.int .i64 (g66_0_0 x0 x1 x2 x3), .int .i64 (g66_0_1 x0 x1 x2 x3), ofSl 10 e68 (g66_0_2 x0 x1 x2 x3)]]⟩ (by kernel_rfl) ?_
    exact WP.retP (True ∧ (((.int .i64 (g66_0_0 x0 x1 x2 x3) : AV) = .int .i64 (g177_0 x0 x1 x2 x3 x4)) ∧ ((.int .i64 (g66_0_1 x0 x1 x2 x3) : AV) = .int .i64 (g177_1 x0 x1 x2 x3 x4)) ∧ (10 = 10 ∧ (g66_0_2 x0 x1 x2 x3).n = (g177_2 x0 x1 x2 x3 x4).n ∧ ∀ i, i < (g66_0_2 x0 x1 x2 x3).n → e68 ((g66_0_2 x0 x1 x2 x3).at' i) = e68 ((g177_2 x0 x1 x2 x3 x4).at' i)) ∧ True)) (by kernel_rfl) ⟨trivial, ⟨(congrArg (AV.int .i64) (eqT h2 rfl)), (congrArg (AV.int .i64) (eqT h2 rfl)), (slEq (sz := 10) (enc := e68) (eqT h2 rfl)), trivial⟩⟩
  · skip
    refine WP.skip ?_
    refine WP.step0 g177_e_ok ⟨us 4 (.ptr 2 0 :: us 32 []), [[], [], [.int .i64 x3, .int .i64 x4, .nils]]⟩ (by kernel_rfl) ?_
    exact WP.retP (True ∧ (((.int .i64 x3 : AV) = .int .i64 (g177_0 x0 x1 x2 x3 x4)) ∧ ((.int .i64 x4 : AV) = .int .i64 (g177_1 x0 x1 x2 x3 x4)) ∧ ((g177_2 x0 x1 x2 x3 x4).n = 0) ∧ True)) (by kernel_rfl) ⟨trivial, ⟨(congrArg (AV.int .i64) (eqF h2 rfl)), (congrArg (AV.int .i64) (eqF h2 rfl)), ((congrArg Sl.n (eqF h2 rfl)).symm), trivial⟩⟩
noncomputable def s177 : Ans := fun xs => match xs with
  | [.agg [.int .i64 x0, .int .i64 x1, y2], .agg [.int .i64 x3, .int .i64 x4, .int .i64 _, y6, .int .i64 _, y8]] => bif isSl 10 y2 then bif isSl 8 y6 then bif isSl 7 y8 then some (some (okSl e68 d68 y2 ∧ okSl e175 d175 y6 ∧ okSl e137 d137 y8 ∧ x3 ≤ 9223372036854775807), .agg [.int .i64 (g177_0 x0 x1 (toSl d68 y2) x3 x4), .int .i64 (g177_1 x0 x1 (toSl d68 y2) x3 x4), ofSl 10 e68 (g177_2 x0 x1 (toSl d68 y2) x3 x4)]) else none else none else none
  | _ => none
theorem k177 : SOk Try.prog 177 s177 := ⟨⟨_, _, Try.func177, rfl, by kernel_rfl⟩, fun args pre r h hp => by
  unfold s177 at h
  split at h
  · obtain ⟨b0, h⟩ := cond_some h
    obtain ⟨b1, h⟩ := cond_some h
    obtain ⟨b2, h⟩ := cond_some h
    cases h
    exact (pc177 _ _ _ _ _ _ _ _ _ hp.1.2.2.2).weak (l1 (aG (l1 cI (l1 cI (l1 (slLe b0 hp.1.1) l0)))) (l1 (aG (l1 cI (l1 cI (l1 cI (l1 (slLe b1 hp.1.2.1) (l1 cI (l1 (slLe b2 hp.1.2.2.1) l0))))))) l0))
  · cases h⟩
noncomputable def g178_0 (x0 : Int) (x1 : Int) (x2 : Sl T68) (x3 : Int) (x4 : Int) : Int := (bif ((g126 x0 x1 x2 x3) == x4) then (g67_0_0 x0 x1 x2 x3) else x3)
noncomputable def g178_1 (x0 : Int) (x1 : Int) (x2 : Sl T68) (x3 : Int) (x4 : Int) : Int := (bif ((g126 x0 x1 x2 x3) == x4) then (g67_0_1 x0 x1 x2 x3) else x4)
noncomputable def g178_2 (x0 : Int) (x1 : Int) (x2 : Sl T68) (x3 : Int) (x4 : Int) : Sl T68 := (bif ((g126 x0 x1 x2 x3) == x4) then (g67_0_2 x0 x1 x2 x3) else (nilSl : Sl T68))
noncomputable abbrev g178_e : Env := mkE [(67, s67), (126, s126)]
theorem g178_e_ok : g178_e.Ok := mkE_ok ⟨k67, k126, trivial⟩
theorem pc178 (x0 : Int) (x1 : Int) (x2 : Sl T68) (x3 : Int) (x4 : Int) (x5 : Int) (x6 : Sl T175) (x7 : Int) (x8 : Sl T137) (hq0 : 0 ≤ x0) (hq1 : x0 ≤ 1048576) (hq2 : x3 ≤ 9223372036854775807) : PureCall Try.prog 178 [.agg [.int .i64 x0, .int .i64 x1, ofSl 10 e68 x2], .agg [.int .i64 x3, .int .i64 x4, .int .i64 x5, ofSl 8 e175 x6, .int .i64 x7, ofSl 7 e137 x8]] (.agg [.int .i64 (g178_0 x0 x1 x2 x3 x4), .int .i64 (g178_1 x0 x1 x2 x3 x4), ofSl 10 e68 (g178_2 x0 x1 x2 x3 x4)]) := by
  refine PureCall.fine fun hf => ?_
  have hf_x2 : Fine (ofSl 10 e68 x2) := hf.1.2.2.1
  have hn_x2 : x2.n ≤ 549755813888 := hf_x2.len
  have hf_x6 : Fine (ofSl 8 e175 x6) := hf.2.1.2.2.2.1
  have hn_x6 : x6.n ≤ 549755813888 := hf_x6.len
  have hf_x8 : Fine (ofSl 7 e137 x8) := hf.2.1.2.2.2.2.2.1
  have hn_x8 : x8.n ≤ 549755813888 := hf_x8.len
  refine pure_of_WP (E := g178_e) g178_e_ok Try.func178 rfl _ _ ?_
  refine WP.step0 g178_e_ok ⟨U :: U :: .ptr 0 0 :: .ptr 1 0 :: .ptr 2 0 :: us 22 [], [[.int .i64 x0, .int .i64 x1, ofSl 10 e68 x2], [.int .i64 x3, .int .i64 x4, .int .i64 x5, ofSl 8 e175 x6, .int .i64 x7, ofSl 7 e137 x8], [.int .i64 0, .int .i64 0, .nils]]⟩ (by kernel_rfl) ?_
  refine WP.seq ?_
  refine WP.stepE g178_e_ok ⟨U :: U :: .ptr 0 0 :: .ptr 1 0 :: .ptr 2 0 :: us 8 (.bool ((g126 x0 x1 x2 x3) == x4) :: us 13 []), [[.int .i64 x0, .int .i64 x1, ofSl 10 e68 x2], [.int .i64 x3, .int .i64 x4, .int .i64 x5, ofSl 8 e175 x6, .int .i64 x7, ofSl 7 e137 x8], [.int .i64 0, .int .i64 0, .nils]]⟩ (fun q => ((okSl e68 d68 (ofSl 10 e68 x2) ∧ (0 ≤ x0) ∧ (x0 ≤ 1048576)) ∧ (true = true ∧ q))) (by kernel_rfl) ⟨⟨(okOf ed68 10 x2), (by omega), (by omega)⟩, ⟨rfl, rfl⟩⟩ ?_
  refine WP.condR ((g126 x0 x1 x2 x3) == x4) rfl (fun h1 => ?_) (fun h1 => ?_)
  · skip
    refine WP.stepE g178_e_ok ⟨U :: U :: U :: .ptr 1 0 :: .ptr 2 0 :: .ptr 3 0 :: us 21 [], [[], [.int .i64 x3, .int .i64 x4, .int .i64 x5, ofSl 8 e175 x6, .int .i64 x7, ofSl 7 e137 x8], [.int .i64 0, .int .i64 0, .nils], [.int .i64 (g67_0_0 x0 x1 x2 x3), .int .i64 (g67_0_1 x0 x1 x2 x3), ofSl 10 e68 (g67_0_2 x0 x1 x2 x3)]]⟩ (fun q => ((okSl e68 d68 (ofSl 10 e68 x2) ∧ (x3 ≤ 9223372036854775807)) ∧ q)) (by kernel_rfl) ⟨⟨(okOf ed68 10 x2), (by have := eq_of_beq h1; omega)⟩, rfl⟩ ?_
    refine WP.step0 g178_e_ok ⟨U :: U :: U :: .ptr 1 0 :: .ptr 2 0 :: us 22 [], [[], [.int .i64 x3, .int .i64 x4, .int .i64 x5, ofSl 8 e175 x6, .int .i64 x7, ofSl 7 e137 x8], [.int .i64 (g67_0_0 x0 x1 x2 x3), .int .i64 (g67_0_1 x0 x1 x2 x3), ofSl 10 e68 (g67_0_2 x0 x1 x2 x3)]]⟩ (by kernel_rfl) ?_
    exact WP.retP (True ∧ (((.int .i64 (g67_0_0 x0 x1 x2 x3) : AV) = .int .i64 (g178_0 x0 x1 x2 x3 x4)) ∧ ((.int .i64 (g67_0_1 x0 x1 x2 x3) : AV) = .int .i64 (g178_1 x0 x1 x2 x3 x4)) ∧ (10 = 10 ∧ (g67_0_2 x0 x1 x2 x3).n = (g178_2 x0 x1 x2 x3 x4).n ∧ ∀ i, i < (g67_0_2 x0 x1 x2 x3).n → e68 ((g67_0_2 x0 x1 x2 x3).at' i) = e68 ((g178_2 x0 x1 x2 x3 x4).at' i)) ∧ True)) (by kernel_rfl) ⟨trivial, ⟨(congrArg (AV.int .i64) (eqT h1 rfl)), (congrArg (AV.int .i64) (eqT h1 rfl)), (slEq (sz := 10) (enc := e68) (eqT h1 rfl)), trivial⟩⟩
  · skip
    refine WP.skip ?_
    refine WP.step0 g178_e_ok ⟨us 4 (.ptr 2 0 :: us 22 []), [[], [], [.int .i64 x3, .int .i64 x4, .nils]]⟩ (by kernel_rfl) ?_
    exact WP.retP (True ∧ (((.int .i64 x3 : AV) = .int .i64 (g178_0 x0 x1 x2 x3 x4)) ∧ ((.int .i64 x4 : AV) = .int .i64 (g178_1 x0 x1 x2 x3 x4)) ∧ ((g178_2 x0 x1 x2 x3 x4).n = 0) ∧ True)) (by kernel_rfl) ⟨trivial, ⟨(congrArg (AV.int .i64) (eqF h1 rfl)), (congrArg (AV.int .i64) (eqF h1 rfl)), ((congrArg Sl.n (eqF h1 rfl)).symm), trivial⟩⟩
noncomputable def s178 : Ans := fun xs => match xs with
  | [.agg [.int .i64 x0, .int .i64 x1, y2], .agg [.int .i64 x3, .int .i64 x4, .int .i64 _, y6, .int .i64 _, y8]] => bif isSl 10 y2 then bif isSl 8 y6 then bif isSl 7 y8 then some (some (okSl e68 d68 y2 ∧ okSl e175 d175 y6 ∧ okSl e137 d137 y8 ∧ 0 ≤ x0 ∧ x0 ≤ 1048576 ∧ x3 ≤ 9223372036854775807), .agg [.int .i64 (g178_0 x0 x1 (toSl d68 y2) x3 x4), .int .i64 (g178_1 x0 x1 (toSl d68 y2) x3 x4), ofSl 10 e68 (g178_2 x0 x1 (toSl d68 y2) x3 x4)]) else none else none else none
  | _ => none
theorem k178 : SOk Try.prog 178 s178 := ⟨⟨_, _, Try.func178, rfl, by kernel_rfl⟩, fun args pre r h hp => by
  unfold s178 at h
  split at h
  · obtain ⟨b0, h⟩ := cond_some h
    obtain ⟨b1, h⟩ := cond_some h
    obtain ⟨b2, h⟩ := cond_some h
    cases h
    exact (pc178 _ _ _ _ _ _ _ _ _ hp.1.2.2.2.1 hp.1.2.2.2.2.1 hp.1.2.2.2.2.2).weak (l1 (aG (l1 cI (l1 cI (l1 (slLe b0 hp.1.1) l0)))) (l1 (aG (l1 cI (l1 cI (l1 cI (l1 (slLe b1 hp.1.2.1) (l1 cI (l1 (slLe b2 hp.1.2.2.1) l0))))))) l0))
  · cases h⟩
noncomputable def g97_0_0 (x0 : Int) (x1 : Int) (x2 : Sl T68) (x3 : Int) (x4 : Int) (x5 : Int) (x6 : Sl T175) (x7 : Int) (x8 : Sl T137) : Int := (bif ((g53 x0 x1 x2) != 0) then 0 else (bif ((g87 x3 x4 x5 x6 x7 x8) != 0) then 0 else (g177_0 x0 x1 x2 x3 x4)))
noncomputable def g97_0_1 (x0 : Int) (x1 : Int) (x2 : Sl T68) (x3 : Int) (x4 : Int) (x5 : Int) (x6 : Sl T175) (x7 : Int) (x8 : Sl T137) : Int := (bif ((g53 x0 x1 x2) != 0) then 0 else (bif ((g87 x3 x4 x5 x6 x7 x8) != 0) then 0 else (g177_1 x0 x1 x2 x3 x4)))
noncomputable def g97_0_2 (x0 : Int) (x1 : Int) (x2 : Sl T68) (x3 : Int) (x4 : Int) (x5 : Int) (x6 : Sl T175) (x7 : Int) (x8 : Sl T137) : Sl T68 := (bif ((g53 x0 x1 x2) != 0) then (nilSl : Sl T68) else (bif ((g87 x3 x4 x5 x6 x7 x8) != 0) then (nilSl : Sl T68) else (g177_2 x0 x1 x2 x3 x4)))
noncomputable def g97_1 (x0 : Int) (x1 : Int) (x2 : Sl T68) (x3 : Int) (x4 : Int) (x5 : Int) (x6 : Sl T175) (x7 : Int) (x8 : Sl T137) : Int := (bif ((g53 x0 x1 x2) != 0) then (g53 x0 x1 x2) else (bif ((g87 x3 x4 x5 x6 x7 x8) != 0) then (g87 x3 x4 x5 x6 x7 x8) else 0))
noncomputable abbrev g97_e : Env := mkE [(53, s53), (87, s87), (177, s177)]
theorem g97_e_ok : g97_e.Ok := mkE_ok ⟨k53, k87, k177, trivial⟩
theorem pc97 (x0 : Int) (x1 : Int) (x2 : Sl T68) (x3 : Int) (x4 : Int) (x5 : Int) (x6 : Sl T175) (x7 : Int) (x8 : Sl T137) (hq0 : x3 ≤ 9223372036854775807) : PureCall Try.prog 97 [.agg [.int .i64 x0, .int .i64 x1, ofSl 10 e68 x2], .agg [.int .i64 x3, .int .i64 x4, .int .i64 x5, ofSl 8 e175 x6, .int .i64 x7, ofSl 7 e137 x8]] (.tup [.agg [.int .i64 (g97_0_0 x0 x1 x2 x3 x4 x5 x6 x7 x8), .int .i64 (g97_0_1 x0 x1 x2 x3 x4 x5 x6 x7 x8), ofSl 10 e68 (g97_0_2 x0 x1 x2 x3 x4 x5 x6 x7 x8)], .int .i64 (g97_1 x0 x1 x2 x3 x4 x5 x6 x7 x8)]) := by
  refine PureCall.fine fun hf => ?_
  have hf_x2 : Fine (ofSl 10 e68 x2) := hf.1.2.2.1
  have hn_x2 : x2.n ≤ 549755813888 := hf_x2.len
  have hf_x6 : Fine (ofSl 8 e175 x6) := hf.2.1.2.2.2.1
  have hn_x6 : x6.n ≤ 549755813888 := hf_x6.len
  have hf_x8 : Fine (ofSl 7 e137 x8) := hf.2.1.2.2.2.2.2.1
  have hn_x8 : x8.n ≤ 549755813888 := hf_x8.len
  refine pure_of_WP (E := g97_e) g97_e_ok Try.func97 rfl _ _ ?_
  refine WP.step0 g97_e_ok ⟨U :: U :: .ptr 0 0 :: .ptr 1 0 :: .ptr 2 0 :: .int .i64 0 :: us 17 [], [[.int .i64 x0, .int .i64 x1, ofSl 10 e68 x2], [.int .i64 x3, .int .i64 x4, .int .i64 x5, ofSl 8 e175 x6, .int .i64 x7, ofSl 7 e137 x8], [.int .i64 0, .int .i64 0, .nils]]⟩ (by kernel_rfl) ?_
  refine WP.seq ?_
  refine WP.stepE g97_e_ok ⟨U :: U :: .ptr 0 0 :: .ptr 1 0 :: .ptr 2 0 :: .int .i64 0 :: .int .i64 (g53 x0 x1 x2) :: us 16 [], [[.int .i64 x0, .int .i64 x1, ofSl 10 e68 x2], [.int .i64 x3, .int .i64 x4, .int .i64 x5, ofSl 8 e175 x6, .int .i64 x7, ofSl 7 e137 x8], [.int .i64 0, .int .i64 0, .nils]]⟩ (fun q => (okSl e68 d68 (ofSl 10 e68 x2) ∧ q)) (by kernel_rfl) ⟨(okOf ed68 10 x2), rfl⟩ ?_
  refine WP.step0 g97_e_ok ⟨U :: U :: .ptr 0 0 :: .ptr 1 0 :: .ptr 2 0 :: .int .i64 0 :: .int .i64 (g53 x0 x1 x2) :: us 4 (.bool ((g53 x0 x1 x2) != 0) :: us 11 []), [[.int .i64 x0, .int .i64 x1, ofSl 10 e68 x2], [.int .i64 x3, .int .i64 x4, .int .i64 x5, ofSl 8 e175 x6, .int .i64 x7, ofSl 7 e137 x8], [.int .i64 0, .int .i64 0, .nils]]⟩ (by kernel_rfl) ?_
  refine WP.condR ((g53 x0 x1 x2) != 0) rfl (fun h1 => ?_) (fun h1 => ?_)
  · skip
    refine WP.step0 g97_e_ok ⟨U :: U :: .ptr 0 0 :: .ptr 1 0 :: .ptr 2 0 :: .int .i64 (g53 x0 x1 x2) :: us 17 [], [[.int .i64 x0, .int .i64 x1, ofSl 10 e68 x2], [.int .i64 x3, .int .i64 x4, .int .i64 x5, ofSl 8 e175 x6, .int .i64 x7, ofSl 7 e137 x8], [.int .i64 0, .int .i64 0, .nils]]⟩ (by kernel_rfl) ?_
    exact WP.retP (True ∧ ((((.int .i64 0 : AV) = .int .i64 (g97_0_0 x0 x1 x2 x3 x4 x5 x6 x7 x8)) ∧ ((.int .i64 0 : AV) = .int .i64 (g97_0_1 x0 x1 x2 x3 x4 x5 x6 x7 x8)) ∧ ((g97_0_2 x0 x1 x2 x3 x4 x5 x6 x7 x8).n = 0) ∧ True) ∧ ((.int .i64 (g53 x0 x1 x2) : AV) = .int .i64 (g97_1 x0 x1 x2 x3 x4 x5 x6 x7 x8)) ∧ True)) (by kernel_rfl) ⟨trivial, ⟨⟨(congrArg (AV.int .i64) (eqT h1 rfl)), (congrArg (AV.int .i64) (eqT h1 rfl)), ((congrArg Sl.n (eqT h1 rfl)).symm), trivial⟩, (congrArg (AV.int .i64) (eqT h1 rfl)), trivial⟩⟩
  · skip
    refine WP.skip ?_
    refine WP.seq ?_
    refine WP.stepE g97_e_ok ⟨U :: U :: .ptr 0 0 :: .ptr 1 0 :: .ptr 2 0 :: .int .i64 0 :: U :: .int .i64 (g87 x3 x4 x5 x6 x7 x8) :: us 15 [], [[.int .i64 x0, .int .i64 x1, ofSl 10 e68 x2], [.int .i64 x3, .int .i64 x4, .int .i64 x5, ofSl 8 e175 x6, .int .i64 x7, ofSl 7 e137 x8], [.int .i64 0, .int .i64 0, .nils]]⟩ (fun q => ((okSl e175 d175 (ofSl 8 e175 x6) ∧ okSl e137 d137 (ofSl 7 e137 x8)) ∧ q)) (by kernel_rfl) ⟨⟨(okOf ed175 8 x6), (okOf ed137 7 x8)⟩, rfl⟩ ?_
    refine WP.step0 g97_e_ok ⟨U :: U :: .ptr 0 0 :: .ptr 1 0 :: .ptr 2 0 :: .int .i64 0 :: U :: .int .i64 (g87 x3 x4 x5 x6 x7 x8) :: us 9 (.bool ((g87 x3 x4 x5 x6 x7 x8) != 0) :: us 5 []), [[.int .i64 x0, .int .i64 x1, ofSl 10 e68 x2], [.int .i64 x3, .int .i64 x4, .int .i64 x5, ofSl 8 e175 x6, .int .i64 x7, ofSl 7 e137 x8], [.int .i64 0, .int .i64 0, .nils]]⟩ (by kernel_rfl) ?_
    refine WP.condR ((g87 x3 x4 x5 x6 x7 x8) != 0) rfl (fun h2 => ?_) (fun h2 => ?_)
    · skip
      refine WP.step0 g97_e_ok ⟨U :: U :: .ptr 0 0 :: .ptr 1 0 :: .ptr 2 0 :: .int .i64 (g87 x3 x4 x5 x6 x7 x8) :: us 17 [], [[.int .i64 x0, .int .i64 x1, ofSl 10 e68 x2], [.int .i64 x3, .int .i64 x4, .int .i64 x5, ofSl 8 e175 x6, .int .i64 x7, ofSl 7 e137 x8], [.int .i64 0, .int .i64 0, .nils]]⟩ (by kernel_rfl) ?_
      exact WP.retP (True ∧ ((((.int .i64 0 : AV) = .int .i64 (g97_0_0 x0 x1 x2 x3 x4 x5 x6 x7 x8)) ∧ ((.int .i64 0 : AV) = .int .i64 (g97_0_1 x0 x1 x2 x3 x4 x5 x6 x7 x8)) ∧ ((g97_0_2 x0 x1 x2 x3 x4 x5 x6 x7 x8).n = 0) ∧ True) ∧ ((.int .i64 (g87 x3 x4 x5 x6 x7 x8) : AV) = .int .i64 (g97_1 x0 x1 x2 x3 x4 x5 x6 x7 x8)) ∧ True)) (by kernel_rfl) ⟨trivial, ⟨⟨(congrArg (AV.int .i64) (eqF h1 (eqT h2 rfl))), (congrArg (AV.int .i64) (eqF h1 (eqT h2 rfl))), ((congrArg Sl.n (eqF h1 (eqT h2 rfl))).symm), trivial⟩, (congrArg (AV.int .i64) (eqF h1 (eqT h2 rfl))), trivial⟩⟩
    · skip
      refine WP.skip ?_
      refine WP.stepE g97_e_ok ⟨us 4 (.ptr 2 0 :: .int .i64 0 :: us 17 []), [[], [], [.int .i64 (g177_0 x0 x1 x2 x3 x4), .int .i64 (g177_1 x0 x1 x2 x3 x4), ofSl 10 e68 (g177_2 x0 x1 x2 x3 x4)]]⟩ (fun q => ((okSl e68 d68 (ofSl 10 e68 x2) ∧ okSl e175 d175 (ofSl 8 e175 x6) ∧ okSl e137 d137 (ofSl 7 e137 x8) ∧ (x3 ≤ 9223372036854775807)) ∧ q)) (by kernel_rfl) ⟨⟨(okOf ed68 10 x2), (okOf ed175 8 x6), (okOf ed137 7 x8), (by have := chk53 _ _ _ (bne_eq_false_iff_eq.1 h1); have := bne_eq_false_iff_eq.1 h2; omega)⟩, rfl⟩ ?_
      exact WP.retP (True ∧ ((((.int .i64 (g177_0 x0 x1 x2 x3 x4) : AV) = .int .i64 (g97_0_0 x0 x1 x2 x3 x4 x5 x6 x7 x8)) ∧ ((.int .i64 (g177_1 x0 x1 x2 x3 x4) : AV) = .int .i64 (g97_0_1 x0 x1 x2 x3 x4 x5 x6 x7 x8)) ∧ (10 = 10 ∧ (g177_2 x0 x1 x2 x3 x4).n = (g97_0_2 x0 x1 x2 x3 x4 x5 x6 x7 x8).n ∧ ∀ i, i < (g177_2 x0 x1 x2 x3 x4).n → e68 ((g177_2 x0 x1 x2 x3 x4).at' i) = e68 ((g97_0_2 x0 x1 x2 x3 x4 x5 x6 x7 x8).at' i)) ∧ True) ∧ ((.int .i64 0 : AV) = .int .i64 (g97_1 x0 x1 x2 x3 x4 x5 x6 x7 x8)) ∧ True)) (by kernel_rfl) ⟨trivial, ⟨⟨(congrArg (AV.int .i64) (eqF h1 (eqF h2 rfl))), (congrArg (AV.int .i64) (eqF h1 (eqF h2 rfl))), (slEq (sz := 10) (enc := e68) (eqF h1 (eqF h2 rfl))), trivial⟩, (congrArg (AV.int .i64) (eqF h1 (eqF h2 rfl))), trivial⟩⟩
noncomputable def s97 : Ans := fun xs => match xs with
  | [.agg [.int .i64 x0, .int .i64 x1, y2], .agg [.int .i64 x3, .int .i64 x4, .int .i64 x5, y6, .int .i64 x7, y8]] => bif isSl 10 y2 then bif isSl 8 y6 then bif isSl 7 y8 then some (some (okSl e68 d68 y2 ∧ okSl e175 d175 y6 ∧ okSl e137 d137 y8 ∧ x3 ≤ 9223372036854775807), .tup [.agg [.int .i64 (g97_0_0 x0 x1 (toSl d68 y2) x3 x4 x5 (toSl d175 y6) x7 (toSl d137 y8)), .int .i64 (g97_0_1 x0 x1 (toSl d68 y2) x3 x4 x5 (toSl d175 y6) x7 (toSl d137 y8)), ofSl 10 e68 (g97_0_2 x0 x1 (toSl d68 y2) x3 x4 x5 (toSl d175 y6) x7 (toSl d137 y8))], .int .i64 (g97_1 x0 x1 (toSl d68 y2) x3 x4 x5 (toSl d175 y6) x7 (toSl d137 y8))]) else none else none else none
  | _ => none
theorem k97 : SOk Try.prog 97 s97 := ⟨⟨_, _, Try.func97, rfl, by kernel_rfl⟩, fun args pre r h hp => by
  unfold s97 at h
  split at h
  · obtain ⟨b0, h⟩ := cond_some h
    obtain ⟨b1, h⟩ := cond_some h
    obtain ⟨b2, h⟩ := cond_some h
    cases h
    exact (pc97 _ _ _ _ _ _ _ _ _ hp.1.2.2.2).weak (l1 (aG (l1 cI (l1 cI (l1 (slLe b0 hp.1.1) l0)))) (l1 (aG (l1 cI (l1 cI (l1 cI (l1 (slLe b1 hp.1.2.1) (l1 cI (l1 (slLe b2 hp.1.2.2.1) l0))))))) l0))
  · cases h⟩
noncomputable def g98_m1 (x0 : Int) (x1 : Int) (x2 : Sl T68) (x3 : Int) (x4 : Int) (x5 : Int) (x6 : Sl T175) (x7 : Int) (x8 : Sl T137) : Int := (bif ((g55 x0 x1 x2) == 0) then (g89 x3 x4 x5 x6 x7 x8) else (g55 x0 x1 x2))
noncomputable def g98_0_0 (x0 : Int) (x1 : Int) (x2 : Sl T68) (x3 : Int) (x4 : Int) (x5 : Int) (x6 : Sl T175) (x7 : Int) (x8 : Sl T137) : Int := (bif ((g98_m1 x0 x1 x2 x3 x4 x5 x6 x7 x8) != 0) then 0 else (g178_0 x0 x1 x2 x3 x4))
noncomputable def g98_0_1 (x0 : Int) (x1 : Int) (x2 : Sl T68) (x3 : Int) (x4 : Int) (x5 : Int) (x6 : Sl T175) (x7 : Int) (x8 : Sl T137) : Int := (bif ((g98_m1 x0 x1 x2 x3 x4 x5 x6 x7 x8) != 0) then 0 else (g178_1 x0 x1 x2 x3 x4))
noncomputable def g98_0_2 (x0 : Int) (x1 : Int) (x2 : Sl T68) (x3 : Int) (x4 : Int) (x5 : Int) (x6 : Sl T175) (x7 : Int) (x8 : Sl T137) : Sl T68 := (bif ((g98_m1 x0 x1 x2 x3 x4 x5 x6 x7 x8) != 0) then (nilSl : Sl T68) else (g178_2 x0 x1 x2 x3 x4))
noncomputable def g98_1 (x0 : Int) (x1 : Int) (x2 : Sl T68) (x3 : Int) (x4 : Int) (x5 : Int) (x6 : Sl T175) (x7 : Int) (x8 : Sl T137) : Int := (bif ((g98_m1 x0 x1 x2 x3 x4 x5 x6 x7 x8) != 0) then (g98_m1 x0 x1 x2 x3 x4 x5 x6 x7 x8) else 0)
theorem f98 (x0 x1 : Int) (x2 : Sl T68) (x3 x4 x5 : Int) (x6 : Sl T175) (x7 : Int) (x8 : Sl T137) (h : g98_m1 x0 x1 x2 x3 x4 x5 x6 x7 x8 = 0) : 0 ≤ x0 ∧ x0 ≤ 1048576 := by
  unfold g98_m1 at h
  cases hm : (g55 x0 x1 x2 == 0) with
  | true => exact (chk55 x0 x1 x2 (eq_of_beq hm)).1
  | false =>
    rw [hm] at h
    have h : g55 x0 x1 x2 = 0 := h
    exact (chk55 x0 x1 x2 h).1
noncomputable abbrev g98_e : Env := mkE [(55, s55), (89, s89), (178, s178)]
theorem g98_e_ok : g98_e.Ok := mkE_ok ⟨k55, k89, k178, trivial⟩
theorem pc98 (x0 : Int) (x1 : Int) (x2 : Sl T68) (x3 : Int) (x4 : Int) (x5 : Int) (x6 : Sl T175) (x7 : Int) (x8 : Sl T137) (hq0 : x3 ≤ 9223372036854775807) : PureCall Try.prog 98 [.agg [.int .i64 x0, .int .i64 x1, ofSl 10 e68 x2], .agg [.int .i64 x3, .int .i64 x4, .int .i64 x5, ofSl 8 e175 x6, .int .i64 x7, ofSl 7 e137 x8]] (.tup [.agg [.int .i64 (g98_0_0 x0 x1 x2 x3 x4 x5 x6 x7 x8), .int .i64 (g98_0_1 x0 x1 x2 x3 x4 x5 x6 x7 x8), ofSl 10 e68 (g98_0_2 x0 x1 x2 x3 x4 x5 x6 x7 x8)], .int .i64 (g98_1 x0 x1 x2 x3 x4 x5 x6 x7 x8)]) := by
  refine PureCall.fine fun hf => ?_
  have hf_x2 : Fine (ofSl 10 e68 x2) := hf.1.2.2.1
  have hn_x2 : x2.n ≤ 549755813888 := hf_x2.len
  have hf_x6 : Fine (ofSl 8 e175 x6) := hf.2.1.2.2.2.1
  have hn_x6 : x6.n ≤ 549755813888 := hf_x6.len
  have hf_x8 : Fine (ofSl 7 e137 x8) := hf.2.1.2.2.2.2.2.1
  have hn_x8 : x8.n ≤ 549755813888 := hf_x8.len
  refine pure_of_WP (E := g98_e) g98_e_ok Try.func98 rfl _ _ ?_
  refine WP.step0 g98_e_ok ⟨U :: U :: .ptr 0 0 :: .ptr 1 0 :: .ptr 2 0 :: .int .i64 0 :: us 14 [], [[.int .i64 x0, .int .i64 x1, ofSl 10 e68 x2], [.int .i64 x3, .int .i64 x4, .int .i64 x5, ofSl 8 e175 x6, .int .i64 x7, ofSl 7 e137 x8], [.int .i64 0, .int .i64 0, .nils]]⟩ (by kernel_rfl) ?_
  refine WP.stepE g98_e_ok ⟨U :: U :: .ptr 0 0 :: .ptr 1 0 :: .ptr 2 0 :: .int .i64 0 :: .int .i64 (g55 x0 x1 x2) :: us 13 [], [[.int .i64 x0, .int .i64 x1, ofSl 10 e68 x2], [.int .i64 x3, .int .i64 x4, .int .i64 x5, ofSl 8 e175 x6, .int .i64 x7, ofSl 7 e137 x8], [.int .i64 0, .int .i64 0, .nils]]⟩ (fun q => (okSl e68 d68 (ofSl 10 e68 x2) ∧ q)) (by kernel_rfl) ⟨(okOf ed68 10 x2), rfl⟩ ?_
  refine WP.join ⟨U :: U :: .ptr 0 0 :: .ptr 1 0 :: .ptr 2 0 :: .int .i64 0 :: .int .i64 (g98_m1 x0 x1 x2 x3 x4 x5 x6 x7 x8) :: us 13 [], [[.int .i64 x0, .int .i64 x1, ofSl 10 e68 x2], [.int .i64 x3, .int .i64 x4, .int .i64 x5, ofSl 8 e175 x6, .int .i64 x7, ofSl 7 e137 x8], [.int .i64 0, .int .i64 0, .nils]]⟩ ?_ ?_
  · skip
    refine WP.step0 g98_e_ok ⟨U :: U :: .ptr 0 0 :: .ptr 1 0 :: .ptr 2 0 :: .int .i64 0 :: .int .i64 (g55 x0 x1 x2) :: U :: U :: U :: .bool ((g55 x0 x1 x2) == 0) :: us 9 [], [[.int .i64 x0, .int .i64 x1, ofSl 10 e68 x2], [.int .i64 x3, .int .i64 x4, .int .i64 x5, ofSl 8 e175 x6, .int .i64 x7, ofSl 7 e137 x8], [.int .i64 0, .int .i64 0, .nils]]⟩ (by kernel_rfl) ?_
    refine WP.condR ((g55 x0 x1 x2) == 0) rfl (fun h1 => ?_) (fun h1 => ?_)
    · skip
      refine WP.finE g98_e_ok ⟨U :: U :: .ptr 0 0 :: .ptr 1 0 :: .ptr 2 0 :: .int .i64 0 :: .int .i64 (g89 x3 x4 x5 x6 x7 x8) :: us 13 [], [[.int .i64 x0, .int .i64 x1, ofSl 10 e68 x2], [.int .i64 x3, .int .i64 x4, .int .i64 x5, ofSl 8 e175 x6, .int .i64 x7, ofSl 7 e137 x8], [.int .i64 0, .int .i64 0, .nils]]⟩ (fun q => ((okSl e175 d175 (ofSl 8 e175 x6) ∧ okSl e137 d137 (ofSl 7 e137 x8)) ∧ q)) (by kernel_rfl) ⟨⟨(okOf ed175 8 x6), (okOf ed137 7 x8)⟩, rfl⟩ ?_
      exact Eq.mpr (β := ((((.ptr 0 0 : AV) = .ptr 0 0) ∧ ((.ptr 1 0 : AV) = .ptr 1 0) ∧ ((.ptr 2 0 : AV) = .ptr 2 0) ∧ ((0 : Int) = 0) ∧ (((g89 x3 x4 x5 x6 x7 x8) : Int) = (g98_m1 x0 x1 x2 x3 x4 x5 x6 x7 x8)) ∧ True) ∧ ((((x0 : Int) = x0) ∧ ((x1 : Int) = x1) ∧ (x2.n = x2.n ∧ ∀ i, i < x2.n → e68 (x2.at' i) = e68 (x2.at' i)) ∧ True) ∧ (((x3 : Int) = x3) ∧ ((x4 : Int) = x4) ∧ ((x5 : Int) = x5) ∧ (x6.n = x6.n ∧ ∀ i, i < x6.n → e175 (x6.at' i) = e175 (x6.at' i)) ∧ ((x7 : Int) = x7) ∧ (x8.n = x8.n ∧ ∀ i, i < x8.n → e137 (x8.at' i) = e137 (x8.at' i)) ∧ True) ∧ (((0 : Int) = 0) ∧ ((0 : Int) = 0) ∧ ((.nils : AV) = .nils) ∧ True) ∧ True) ∧ true = true)) (by kernel_rfl) ⟨⟨rfl, rfl, rfl, rfl, (eqT h1 rfl), trivial⟩, ⟨⟨rfl, rfl, ⟨rfl, fun _ _ => rfl⟩, trivial⟩, ⟨rfl, rfl, rfl, ⟨rfl, fun _ _ => rfl⟩, rfl, ⟨rfl, fun _ _ => rfl⟩, trivial⟩, ⟨rfl, rfl, rfl, trivial⟩, trivial⟩, rfl⟩
    · skip
      exact WP.skipP ((((.ptr 0 0 : AV) = .ptr 0 0) ∧ ((.ptr 1 0 : AV) = .ptr 1 0) ∧ ((.ptr 2 0 : AV) = .ptr 2 0) ∧ ((0 : Int) = 0) ∧ (((g55 x0 x1 x2) : Int) = (g98_m1 x0 x1 x2 x3 x4 x5 x6 x7 x8)) ∧ True) ∧ ((((x0 : Int) = x0) ∧ ((x1 : Int) = x1) ∧ (x2.n = x2.n ∧ ∀ i, i < x2.n → e68 (x2.at' i) = e68 (x2.at' i)) ∧ True) ∧ (((x3 : Int) = x3) ∧ ((x4 : Int) = x4) ∧ ((x5 : Int) = x5) ∧ (x6.n = x6.n ∧ ∀ i, i < x6.n → e175 (x6.at' i) = e175 (x6.at' i)) ∧ ((x7 : Int) = x7) ∧ (x8.n = x8.n ∧ ∀ i, i < x8.n → e137 (x8.at' i) = e137 (x8.at' i)) ∧ True) ∧ (((0 : Int) = 0) ∧ ((0 : Int) = 0) ∧ ((.nils : AV) = .nils) ∧ True) ∧ True) ∧ true = true) (by kernel_rfl) ⟨⟨rfl, rfl, rfl, rfl, (eqF h1 rfl), trivial⟩, ⟨⟨rfl, rfl, ⟨rfl, fun _ _ => rfl⟩, trivial⟩, ⟨rfl, rfl, rfl, ⟨rfl, fun _ _ => rfl⟩, rfl, ⟨rfl, fun _ _ => rfl⟩, trivial⟩, ⟨rfl, rfl, rfl, trivial⟩, trivial⟩, rfl⟩
  · skip
    refine WP.seq ?_
    refine WP.step0 g98_e_ok ⟨U :: U :: .ptr 0 0 :: .ptr 1 0 :: .ptr 2 0 :: .int .i64 0 :: .int .i64 (g98_m1 x0 x1 x2 x3 x4 x5 x6 x7 x8) :: us 7 (.bool ((g98_m1 x0 x1 x2 x3 x4 x5 x6 x7 x8) != 0) :: us 5 []), [[.int .i64 x0, .int .i64 x1, ofSl 10 e68 x2], [.int .i64 x3, .int .i64 x4, .int .i64 x5, ofSl 8 e175 x6, .int .i64 x7, ofSl 7 e137 x8], [.int .i64 0, .int .i64 0, .nils]]⟩ (by kernel_rfl) ?_
    refine WP.condR ((g98_m1 x0 x1 x2 x3 x4 x5 x6 x7 x8) != 0) rfl (fun h2 => ?_) (fun h2 => ?_)
    · skip
      refine WP.step0 g98_e_ok ⟨U :: U :: .ptr 0 0 :: .ptr 1 0 :: .ptr 2 0 :: .int .i64 (g98_m1 x0 x1 x2 x3 x4 x5 x6 x7 x8) :: us 14 [], [[.int .i64 x0, .int .i64 x1, ofSl 10 e68 x2], [.int .i64 x3, .int .i64 x4, .int .i64 x5, ofSl 8 e175 x6, .int .i64 x7, ofSl 7 e137 x8], [.int .i64 0, .int .i64 0, .nils]]⟩ (by kernel_rfl) ?_
      exact WP.retP (True ∧ ((((.int .i64 0 : AV) = .int .i64 (g98_0_0 x0 x1 x2 x3 x4 x5 x6 x7 x8)) ∧ ((.int .i64 0 : AV) = .int .i64 (g98_0_1 x0 x1 x2 x3 x4 x5 x6 x7 x8)) ∧ ((g98_0_2 x0 x1 x2 x3 x4 x5 x6 x7 x8).n = 0) ∧ True) ∧ ((.int .i64 (g98_m1 x0 x1 x2 x3 x4 x5 x6 x7 x8) : AV) = .int .i64 (g98_1 x0 x1 x2 x3 x4 x5 x6 x7 x8)) ∧ True)) (by kernel_rfl) ⟨trivial, ⟨⟨(congrArg (AV.int .i64) (eqT h2 rfl)), (congrArg (AV.int .i64) (eqT h2 rfl)), ((congrArg Sl.n (eqT h2 rfl)).symm), trivial⟩, (congrArg (AV.int .i64) (eqT h2 rfl)), trivial⟩⟩
    · skip
      refine WP.skip ?_
      refine WP.stepE g98_e_ok ⟨us 4 (.ptr 2 0 :: .int .i64 0 :: us 14 []), [[], [], [.int .i64 (g178_0 x0 x1 x2 x3 x4), .int .i64 (g178_1 x0 x1 x2 x3 x4), ofSl 10 e68 (g178_2 x0 x1 x2 x3 x4)]]⟩ (fun q => ((okSl e68 d68 (ofSl 10 e68 x2) ∧ okSl e175 d175 (ofSl 8 e175 x6) ∧ okSl e137 d137 (ofSl 7 e137 x8) ∧ (0 ≤ x0) ∧ (x0 ≤ 1048576) ∧ (x3 ≤ 9223372036854775807)) ∧ q)) (by kernel_rfl) ⟨⟨(okOf ed68 10 x2), (okOf ed175 8 x6), (okOf ed137 7 x8), (by have := f98 _ _ _ _ _ _ _ _ _ (bne_eq_false_iff_eq.1 h2); omega), (by have := f98 _ _ _ _ _ _ _ _ _ (bne_eq_false_iff_eq.1 h2); omega), (by have := f98 _ _ _ _ _ _ _ _ _ (bne_eq_false_iff_eq.1 h2); omega)⟩, rfl⟩ ?_
      exact WP.retP (True ∧ ((((.int .i64 (g178_0 x0 x1 x2 x3 x4) : AV) = .int .i64 (g98_0_0 x0 x1 x2 x3 x4 x5 x6 x7 x8)) ∧ ((.int .i64 (g178_1 x0 x1 x2 x3 x4) : AV) = .int .i64 (g98_0_1 x0 x1 x2 x3 x4 x5 x6 x7 x8)) ∧ (10 = 10 ∧ (g178_2 x0 x1 x2 x3 x4).n = (g98_0_2 x0 x1 x2 x3 x4 x5 x6 x7 x8).n ∧ ∀ i, i < (g178_2 x0 x1 x2 x3 x4).n → e68 ((g178_2 x0 x1 x2 x3 x4).at' i) = e68 ((g98_0_2 x0 x1 x2 x3 x4 x5 x6 x7 x8).at' i)) ∧ True) ∧ ((.int .i64 0 : AV) = .int .i64 (g98_1 x0 x1 x2 x3 x4 x5 x6 x7 x8)) ∧ True)) (by kernel_rfl) ⟨trivial, ⟨⟨(congrArg (AV.int .i64) (eqF h2 rfl)), (congrArg (AV.int .i64) (eqF h2 rfl)), (slEq (sz := 10) (enc := e68) (eqF h2 rfl)), trivial⟩, (congrArg (AV.int .i64) (eqF h2 rfl)), trivial⟩⟩
noncomputable def s98 : Ans := fun xs => match xs with
  | [.agg [.int .i64 x0, .int .i64 x1, y2], .agg [.int .i64 x3, .int .i64 x4, .int .i64 x5, y6, .int .i64 x7, y8]] => bif isSl 10 y2 then bif isSl 8 y6 then bif isSl 7 y8 then some (some (okSl e68 d68 y2 ∧ okSl e175 d175 y6 ∧ okSl e137 d137 y8 ∧ x3 ≤ 9223372036854775807), .tup [.agg [.int .i64 (g98_0_0 x0 x1 (toSl d68 y2) x3 x4 x5 (toSl d175 y6) x7 (toSl d137 y8)), .int .i64 (g98_0_1 x0 x1 (toSl d68 y2) x3 x4 x5 (toSl d175 y6) x7 (toSl d137 y8)), ofSl 10 e68 (g98_0_2 x0 x1 (toSl d68 y2) x3 x4 x5 (toSl d175 y6) x7 (toSl d137 y8))], .int .i64 (g98_1 x0 x1 (toSl d68 y2) x3 x4 x5 (toSl d175 y6) x7 (toSl d137 y8))]) else none else none else none
  | _ => none
theorem k98 : SOk Try.prog 98 s98 := ⟨⟨_, _, Try.func98, rfl, by kernel_rfl⟩, fun args pre r h hp => by
  unfold s98 at h
  split at h
  · obtain ⟨b0, h⟩ := cond_some h
    obtain ⟨b1, h⟩ := cond_some h
    obtain ⟨b2, h⟩ := cond_some h
    cases h
    exact (pc98 _ _ _ _ _ _ _ _ _ hp.1.2.2.2).weak (l1 (aG (l1 cI (l1 cI (l1 (slLe b0 hp.1.1) l0)))) (l1 (aG (l1 cI (l1 cI (l1 cI (l1 (slLe b1 hp.1.2.1) (l1 cI (l1 (slLe b2 hp.1.2.2.1) l0))))))) l0))
  · cases h⟩
noncomputable def g29_m1 (x0 : Int) (x1 : Int) (x2 : Sl T68) (x3 : Int) (x4 : Int) (x5 : Int) (x6 : Sl T175) (x7 : Int) (x8 : Sl T137) : Bool := (bif ((g97_1 (g54_0 x0) (g54_1 x1) (g54_2 x2) (g88_0 x3) (g88_1 x4) (g88_2 x5) (g88_3 x6) (g88_4 x7) (g88_5 x8)) == (g98_1 x0 x1 x2 x3 x4 x5 x6 x7 x8)) then (g68 (g97_0_0 (g54_0 x0) (g54_1 x1) (g54_2 x2) (g88_0 x3) (g88_1 x4) (g88_2 x5) (g88_3 x6) (g88_4 x7) (g88_5 x8)) (g97_0_1 (g54_0 x0) (g54_1 x1) (g54_2 x2) (g88_0 x3) (g88_1 x4) (g88_2 x5) (g88_3 x6) (g88_4 x7) (g88_5 x8)) (g97_0_2 (g54_0 x0) (g54_1 x1) (g54_2 x2) (g88_0 x3) (g88_1 x4) (g88_2 x5) (g88_3 x6) (g88_4 x7) (g88_5 x8)) (g98_0_0 x0 x1 x2 x3 x4 x5 x6 x7 x8) (g98_0_1 x0 x1 x2 x3 x4 x5 x6 x7 x8) (g98_0_2 x0 x1 x2 x3 x4 x5 x6 x7 x8)) else false)
noncomputable def g29 (x0 : Int) (x1 : Int) (x2 : Sl T68) (x3 : Int) (x4 : Int) (x5 : Int) (x6 : Sl T175) (x7 : Int) (x8 : Sl T137) : Bool := (g29_m1 x0 x1 x2 x3 x4 x5 x6 x7 x8)
noncomputable abbrev g29_e : Env := mkE [(54, s54), (68, s68), (88, s88), (97, s97), (98, s98)]
theorem g29_e_ok : g29_e.Ok := mkE_ok ⟨k54, k68, k88, k97, k98, trivial⟩
theorem pc29 (x0 : Int) (x1 : Int) (x2 : Sl T68) (x3 : Int) (x4 : Int) (x5 : Int) (x6 : Sl T175) (x7 : Int) (x8 : Sl T137) (hq0 : x3 ≤ 9223372036854775807) : PureCall Try.prog 29 [.agg [.int .i64 x0, .int .i64 x1, ofSl 10 e68 x2], .agg [.int .i64 x3, .int .i64 x4, .int .i64 x5, ofSl 8 e175 x6, .int .i64 x7, ofSl 7 e137 x8]] (.bool (g29 x0 x1 x2 x3 x4 x5 x6 x7 x8)) := by
  refine PureCall.fine fun hf => ?_
  have hf_x2 : Fine (ofSl 10 e68 x2) := hf.1.2.2.1
  have hn_x2 : x2.n ≤ 549755813888 := hf_x2.len
  have hf_x6 : Fine (ofSl 8 e175 x6) := hf.2.1.2.2.2.1
  have hn_x6 : x6.n ≤ 549755813888 := hf_x6.len
  have hf_x8 : Fine (ofSl 7 e137 x8) := hf.2.1.2.2.2.2.2.1
  have hn_x8 : x8.n ≤ 549755813888 := hf_x8.len
  refine pure_of_WP (E := g29_e) g29_e_ok Try.func29 rfl _ _ ?_
  refine WP.step0 g29_e_ok ⟨U :: U :: .ptr 0 0 :: .ptr 1 0 :: .bool false :: us 26 [], [[.int .i64 x0, .int .i64 x1, ofSl 10 e68 x2], [.int .i64 x3, .int .i64 x4, .int .i64 x5, ofSl 8 e175 x6, .int .i64 x7, ofSl 7 e137 x8]]⟩ (by kernel_rfl) ?_
  refine WP.stepE g29_e_ok ⟨U :: U :: .ptr 0 0 :: .ptr 1 0 :: .bool false :: .ptr 2 0 :: .int .i64 (g97_1 (g54_0 x0) (g54_1 x1) (g54_2 x2) (g88_0 x3) (g88_1 x4) (g88_2 x5) (g88_3 x6) (g88_4 x7) (g88_5 x8)) :: us 24 [], [[.int .i64 x0, .int .i64 x1, ofSl 10 e68 x2], [.int .i64 x3, .int .i64 x4, .int .i64 x5, ofSl 8 e175 x6, .int .i64 x7, ofSl 7 e137 x8], [.int .i64 (g97_0_0 (g54_0 x0) (g54_1 x1) (g54_2 x2) (g88_0 x3) (g88_1 x4) (g88_2 x5) (g88_3 x6) (g88_4 x7) (g88_5 x8)), .int .i64 (g97_0_1 (g54_0 x0) (g54_1 x1) (g54_2 x2) (g88_0 x3) (g88_1 x4) (g88_2 x5) (g88_3 x6) (g88_4 x7) (g88_5 x8)), ofSl 10 e68 (g97_0_2 (g54_0 x0) (g54_1 x1) (g54_2 x2) (g88_0 x3) (g88_1 x4) (g88_2 x5) (g88_3 x6) (g88_4 x7) (g88_5 x8))]]⟩ (fun q => (okSl e68 d68 (ofSl 10 e68 x2) ∧ ((okSl e175 d175 (ofSl 8 e175 x6) ∧ okSl e137 d137 (ofSl 7 e137 x8)) ∧ ((okSl e68 d68 (ofSl 10 e68 (g54_2 x2)) ∧ okSl e175 d175 (ofSl 8 e175 (g88_3 x6)) ∧ okSl e137 d137 (ofSl 7 e137 (g88_5 x8)) ∧ ((g88_0 x3) ≤ 9223372036854775807)) ∧ (true = true ∧ q))))) (by kernel_rfl) ⟨(okOf ed68 10 x2), ⟨⟨(okOf ed175 8 x6), (okOf ed137 7 x8)⟩, ⟨⟨(okOf ed68 10 (g54_2 x2)), (okOf ed175 8 (g88_3 x6)), (okOf ed137 7 (g88_5 x8)), (by have := (show g88_0 x3 = x3 from rfl); omega)⟩, ⟨rfl, rfl⟩⟩⟩⟩ ?_
  refine WP.stepE g29_e_ok ⟨us 4 (.bool false :: .ptr 2 0 :: .int .i64 (g97_1 (g54_0 x0) (g54_1 x1) (g54_2 x2) (g88_0 x3) (g88_1 x4) (g88_2 x5) (g88_3 x6) (g88_4 x7) (g88_5 x8)) :: .ptr 3 0 :: .int .i64 (g98_1 x0 x1 x2 x3 x4 x5 x6 x7 x8) :: us 22 []), [[], [], [.int .i64 (g97_0_0 (g54_0 x0) (g54_1 x1) (g54_2 x2) (g88_0 x3) (g88_1 x4) (g88_2 x5) (g88_3 x6) (g88_4 x7) (g88_5 x8)), .int .i64 (g97_0_1 (g54_0 x0) (g54_1 x1) (g54_2 x2) (g88_0 x3) (g88_1 x4) (g88_2 x5) (g88_3 x6) (g88_4 x7) (g88_5 x8)), ofSl 10 e68 (g97_0_2 (g54_0 x0) (g54_1 x1) (g54_2 x2) (g88_0 x3) (g88_1 x4) (g88_2 x5) (g88_3 x6) (g88_4 x7) (g88_5 x8))], [.int .i64 (g98_0_0 x0 x1 x2 x3 x4 x5 x6 x7 x8), .int .i64 (g98_0_1 x0 x1 x2 x3 x4 x5 x6 x7 x8), ofSl 10 e68 (g98_0_2 x0 x1 x2 x3 x4 x5 x6 x7 x8)]]⟩ (fun q => ((okSl e68 d68 (ofSl 10 e68 x2) ∧ okSl e175 d175 (ofSl 8 e175 x6) ∧ okSl e137 d137 (ofSl 7 e137 x8) ∧ (x3 ≤ 9223372036854775807)) ∧ q)) (by kernel_rfl) ⟨⟨(okOf ed68 10 x2), (okOf ed175 8 x6), (okOf ed137 7 x8), (by have := (show g88_0 x3 = x3 from rfl); omega)⟩, rfl⟩ ?_
  refine WP.stepM g29_e_ok (fun a : Bool => ⟨us 4 (.bool a :: us 26 []), []⟩) (g29_m1 x0 x1 x2 x3 x4 x5 x6 x7 x8) (fun K => ((((g97_1 (g54_0 x0) (g54_1 x1) (g54_2 x2) (g88_0 x3) (g88_1 x4) (g88_2 x5) (g88_3 x6) (g88_4 x7) (g88_5 x8)) == (g98_1 x0 x1 x2 x3 x4 x5 x6 x7 x8)) = true → ((okSl e68 d68 (ofSl 10 e68 (g97_0_2 (g54_0 x0) (g54_1 x1) (g54_2 x2) (g88_0 x3) (g88_1 x4) (g88_2 x5) (g88_3 x6) (g88_4 x7) (g88_5 x8))) ∧ okSl e68 d68 (ofSl 10 e68 (g98_0_2 x0 x1 x2 x3 x4 x5 x6 x7 x8))) ∧ K (g68 (g97_0_0 (g54_0 x0) (g54_1 x1) (g54_2 x2) (g88_0 x3) (g88_1 x4) (g88_2 x5) (g88_3 x6) (g88_4 x7) (g88_5 x8)) (g97_0_1 (g54_0 x0) (g54_1 x1) (g54_2 x2) (g88_0 x3) (g88_1 x4) (g88_2 x5) (g88_3 x6) (g88_4 x7) (g88_5 x8)) (g97_0_2 (g54_0 x0) (g54_1 x1) (g54_2 x2) (g88_0 x3) (g88_1 x4) (g88_2 x5) (g88_3 x6) (g88_4 x7) (g88_5 x8)) (g98_0_0 x0 x1 x2 x3 x4 x5 x6 x7 x8) (g98_0_1 x0 x1 x2 x3 x4 x5 x6 x7 x8) (g98_0_2 x0 x1 x2 x3 x4 x5 x6 x7 x8)))) ∧ (((g97_1 (g54_0 x0) (g54_1 x1) (g54_2 x2) (g88_0 x3) (g88_1 x4) (g88_2 x5) (g88_3 x6) (g88_4 x7) (g88_5 x8)) == (g98_1 x0 x1 x2 x3 x4 x5 x6 x7 x8)) = false → K false))) (by kernel_rfl) ⟨fun h1 => ⟨⟨(okOf ed68 10 (g97_0_2 (g54_0 x0) (g54_1 x1) (g54_2 x2) (g88_0 x3) (g88_1 x4) (g88_2 x5) (g88_3 x6) (g88_4 x7) (g88_5 x8))), (okOf ed68 10 (g98_0_2 x0 x1 x2 x3 x4 x5 x6 x7 x8))⟩, (KM.mk (eqT h1 rfl))⟩, fun h1 => (KM.mk (eqF h1 rfl))⟩ ?_
  exact WP.retP (True ∧ ((.bool (g29_m1 x0 x1 x2 x3 x4 x5 x6 x7 x8) : AV) = .bool (g29 x0 x1 x2 x3 x4 x5 x6 x7 x8))) (by kernel_rfl) ⟨trivial, rfl⟩
noncomputable def s29 : Ans := fun xs => match xs with
  | [.agg [.int .i64 x0, .int .i64 x1, y2], .agg [.int .i64 x3, .int .i64 x4, .int .i64 x5, y6, .int .i64 x7, y8]] => bif isSl 10 y2 then bif isSl 8 y6 then bif isSl 7 y8 then some (some (okSl e68 d68 y2 ∧ okSl e175 d175 y6 ∧ okSl e137 d137 y8 ∧ x3 ≤ 9223372036854775807), .bool (g29 x0 x1 (toSl d68 y2) x3 x4 x5 (toSl d175 y6) x7 (toSl d137 y8))) else none else none else none
  | _ => none
theorem k29 : SOk Try.prog 29 s29 := ⟨⟨_, _, Try.func29, rfl, by kernel_rfl⟩, fun args pre r h hp => by
  unfold s29 at h
  split at h
  · obtain ⟨b0, h⟩ := cond_some h
    obtain ⟨b1, h⟩ := cond_some h
    obtain ⟨b2, h⟩ := cond_some h
    cases h
    exact (pc29 _ _ _ _ _ _ _ _ _ hp.1.2.2.2).weak (l1 (aG (l1 cI (l1 cI (l1 (slLe b0 hp.1.1) l0)))) (l1 (aG (l1 cI (l1 cI (l1 cI (l1 (slLe b1 hp.1.2.1) (l1 cI (l1 (slLe b2 hp.1.2.2.1) l0))))))) l0))
  · cases h⟩
end Go.Proofs.Ytchhfojblmceiaa
