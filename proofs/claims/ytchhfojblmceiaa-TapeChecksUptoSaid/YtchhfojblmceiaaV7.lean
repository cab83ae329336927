/-
  Walks: what functions of the program answer, as functions.
-/
import Derived.Test.YtchhfojblmceiaaCl
import Derived.Test.YtchhfojblmceiaaU0
import Derived.Test.YtchhfojblmceiaaU1
import Derived.Test.YtchhfojblmceiaaUr
import Derived.Test.YtchhfojblmceiaaEc
import Derived.Test.YtchhfojblmceiaaV1
import Derived.Test.YtchhfojblmceiaaV2
import Derived.Test.YtchhfojblmceiaaV3
import Derived.Test.YtchhfojblmceiaaV4
import Derived.Test.YtchhfojblmceiaaV5
import Derived.Test.YtchhfojblmceiaaV6
namespace Go.Proofs.Ytchhfojblmceiaa
open Go Go.Vc Go.RowKit
set_option maxRecDepth 100000
set_option maxHeartbeats 4000000
noncomputable def g175_m1 (x0 : Int) (x1 : Int) (x2 : Int) (x3 : Sl T175) (x4 : Int) (x5 : Sl T137) : Bool := (bif (x0 == 0) then (bif (x1 == 0) then (bif (x4 == 0) then (bif ((x5.n : Int) == 0) then (bif (x2 == 0) then ((x3.n : Int) == 0) else false) else false) else false) else false) else false)
noncomputable def g175 (x0 : Int) (x1 : Int) (x2 : Int) (x3 : Sl T175) (x4 : Int) (x5 : Sl T137) : Bool := (g175_m1 x0 x1 x2 x3 x4 x5)
noncomputable abbrev g175_e : Env := mkE []
theorem g175_e_ok : g175_e.Ok := mkE_ok trivial
theorem pc175 (x0 : Int) (x1 : Int) (x2 : Int) (x3 : Sl T175) (x4 : Int) (x5 : Sl T137) : PureCall Try.prog 175 [.agg [.int .i64 x0, .int .i64 x1, .int .i64 x2, ofSl 8 e175 x3, .int .i64 x4, ofSl 7 e137 x5]] (.bool (g175 x0 x1 x2 x3 x4 x5)) := by
  refine PureCall.fine fun hf => ?_
  have hf_x3 : Fine (ofSl 8 e175 x3) := hf.1.2.2.2.1
  have hn_x3 : x3.n ≤ 549755813888 := hf_x3.len
  have hf_x5 : Fine (ofSl 7 e137 x5) := hf.1.2.2.2.2.2.1
  have hn_x5 : x5.n ≤ 549755813888 := hf_x5.len
  refine pure_of_WP (E := g175_e) g175_e_ok Try.func175 rfl _ _ ?_
  refine WP.step0 g175_e_ok ⟨U :: .ptr 0 0 :: .bool false :: us 35 [], [[.int .i64 x0, .int .i64 x1, .int .i64 x2, ofSl 8 e175 x3, .int .i64 x4, ofSl 7 e137 x5]]⟩ (by kernel_rfl) ?_
  refine WP.step0 g175_e_ok ⟨U :: .ptr 0 0 :: .bool false :: .ptr 1 0 :: us 34 [], [[.int .i64 x0, .int .i64 x1, .int .i64 x2, ofSl 8 e175 x3, .int .i64 x4, ofSl 7 e137 x5], [.int .i64 x2, ofSl 8 e175 x3, .int .i64 x4, ofSl 7 e137 x5]]⟩ (by kernel_rfl) ?_
  refine WP.stepM g175_e_ok (fun a : Bool => ⟨U :: U :: .bool a :: us 35 [], []⟩) (g175_m1 x0 x1 x2 x3 x4 x5) (fun K => (((x0 == 0) = true → (((x1 == 0) = true → (((x4 == 0) = true → ((((x5.n : Int) == 0) = true → (((x2 == 0) = true → K ((x3.n : Int) == 0)) ∧ ((x2 == 0) = false → K false))) ∧ (((x5.n : Int) == 0) = false → K false))) ∧ ((x4 == 0) = false → K false))) ∧ ((x1 == 0) = false → K false))) ∧ ((x0 == 0) = false → K false))) (by kernel_rfl) ⟨fun h1 => ⟨fun h2 => ⟨fun h3 => ⟨fun h4 => ⟨fun h5 => (KM.mk (eqT h1 (eqT h2 (eqT h3 (eqT h4 (eqT h5 rfl)))))), fun h5 => (KM.mk (eqT h1 (eqT h2 (eqT h3 (eqT h4 (eqF h5 rfl))))))⟩, fun h4 => (KM.mk (eqT h1 (eqT h2 (eqT h3 (eqF h4 rfl)))))⟩, fun h3 => (KM.mk (eqT h1 (eqT h2 (eqF h3 rfl))))⟩, fun h2 => (KM.mk (eqT h1 (eqF h2 rfl)))⟩, fun h1 => (KM.mk (eqF h1 rfl))⟩ ?_
  exact WP.retP (True ∧ ((.bool (g175_m1 x0 x1 x2 x3 x4 x5) : AV) = .bool (g175 x0 x1 x2 x3 x4 x5))) (by kernel_rfl) ⟨trivial, rfl⟩
noncomputable def s175 : Ans := fun xs => match xs with
  | [.agg [.int .i64 x0, .int .i64 x1, .int .i64 x2, y3, .int .i64 x4, y5]] => bif isSl 8 y3 then bif isSl 7 y5 then some (some (okSl e175 d175 y3 ∧ okSl e137 d137 y5), .bool (g175 x0 x1 x2 (toSl d175 y3) x4 (toSl d137 y5))) else none else none
  | _ => none
theorem k175 : SOk Try.prog 175 s175 := ⟨⟨_, _, Try.func175, rfl, by kernel_rfl⟩, fun args pre r h hp => by
  unfold s175 at h
  split at h
  · obtain ⟨b0, h⟩ := cond_some h
    obtain ⟨b1, h⟩ := cond_some h
    cases h
    exact (pc175 _ _ _ _ _ _).weak (l1 (aG (l1 cI (l1 cI (l1 cI (l1 (slLe b0 hp.1.1) (l1 cI (l1 (slLe b1 hp.1.2) l0))))))) l0)
  · cases h⟩
noncomputable def g176_m1 (x0 : Int) (x1 : Int) (x2 : Int) (x3 : Sl T175) (x4 : Int) (x5 : Sl T137) : Bool := (bif (x0 == 0) then (bif (x1 == 0) then (bif (x4 == 0) then (bif (x2 == 0) then (bif ((x3.n : Int) == 0) then ((x5.n : Int) == 0) else false) else false) else false) else false) else false)
noncomputable def g176 (x0 : Int) (x1 : Int) (x2 : Int) (x3 : Sl T175) (x4 : Int) (x5 : Sl T137) : Bool := (g176_m1 x0 x1 x2 x3 x4 x5)
noncomputable abbrev g176_e : Env := mkE []
theorem g176_e_ok : g176_e.Ok := mkE_ok trivial
theorem pc176 (x0 : Int) (x1 : Int) (x2 : Int) (x3 : Sl T175) (x4 : Int) (x5 : Sl T137) : PureCall Try.prog 176 [.agg [.int .i64 x0, .int .i64 x1, .int .i64 x2, ofSl 8 e175 x3, .int .i64 x4, ofSl 7 e137 x5]] (.bool (g176 x0 x1 x2 x3 x4 x5)) := by
  refine PureCall.fine fun hf => ?_
  have hf_x3 : Fine (ofSl 8 e175 x3) := hf.1.2.2.2.1
  have hn_x3 : x3.n ≤ 549755813888 := hf_x3.len
  have hf_x5 : Fine (ofSl 7 e137 x5) := hf.1.2.2.2.2.2.1
  have hn_x5 : x5.n ≤ 549755813888 := hf_x5.len
  refine pure_of_WP (E := g176_e) g176_e_ok Try.func176 rfl _ _ ?_
  refine WP.step0 g176_e_ok ⟨U :: .ptr 0 0 :: .bool false :: us 36 [], [[.int .i64 x0, .int .i64 x1, .int .i64 x2, ofSl 8 e175 x3, .int .i64 x4, ofSl 7 e137 x5]]⟩ (by kernel_rfl) ?_
  refine WP.stepM g176_e_ok (fun a : Bool => ⟨U :: U :: .bool a :: us 36 [], []⟩) (g176_m1 x0 x1 x2 x3 x4 x5) (fun K => (((x0 == 0) = true → (((x1 == 0) = true → (((x4 == 0) = true → (((x2 == 0) = true → ((((x3.n : Int) == 0) = true → K ((x5.n : Int) == 0)) ∧ (((x3.n : Int) == 0) = false → K false))) ∧ ((x2 == 0) = false → K false))) ∧ ((x4 == 0) = false → K false))) ∧ ((x1 == 0) = false → K false))) ∧ ((x0 == 0) = false → K false))) (by kernel_rfl) ⟨fun h1 => ⟨fun h2 => ⟨fun h3 => ⟨fun h4 => ⟨fun h5 => (KM.mk (eqT h1 (eqT h2 (eqT h3 (eqT h4 (eqT h5 rfl)))))), fun h5 => (KM.mk (eqT h1 (eqT h2 (eqT h3 (eqT h4 (eqF h5 rfl))))))⟩, fun h4 => (KM.mk (eqT h1 (eqT h2 (eqT h3 (eqF h4 rfl)))))⟩, fun h3 => (KM.mk (eqT h1 (eqT h2 (eqF h3 rfl))))⟩, fun h2 => (KM.mk (eqT h1 (eqF h2 rfl)))⟩, fun h1 => (KM.mk (eqF h1 rfl))⟩ ?_
  exact WP.retP (True ∧ ((.bool (g176_m1 x0 x1 x2 x3 x4 x5) : AV) = .bool (g176 x0 x1 x2 x3 x4 x5))) (by kernel_rfl) ⟨trivial, rfl⟩
noncomputable def s176 : Ans := fun xs => match xs with
  | [.agg [.int .i64 x0, .int .i64 x1, .int .i64 x2, y3, .int .i64 x4, y5]] => bif isSl 8 y3 then bif isSl 7 y5 then some (some (okSl e175 d175 y3 ∧ okSl e137 d137 y5), .bool (g176 x0 x1 x2 (toSl d175 y3) x4 (toSl d137 y5))) else none else none
  | _ => none
theorem k176 : SOk Try.prog 176 s176 := ⟨⟨_, _, Try.func176, rfl, by kernel_rfl⟩, fun args pre r h hp => by
  unfold s176 at h
  split at h
  · obtain ⟨b0, h⟩ := cond_some h
    obtain ⟨b1, h⟩ := cond_some h
    cases h
    exact (pc176 _ _ _ _ _ _).weak (l1 (aG (l1 cI (l1 cI (l1 cI (l1 (slLe b0 hp.1.1) (l1 cI (l1 (slLe b1 hp.1.2) l0))))))) l0)
  · cases h⟩
noncomputable def g94_m1 (x0 : Int) : Bool := (bif (decide (x0 < 1)) then true else (decide (x0 > 3)))
noncomputable def g94_m2 (x0 : Int) (x1 : Int) (x2 : Int) (x3 : Int) (x4 : Int) (x5 : Int) (x6 : Bool) (x7 : Int) (x8 : Int) (x9 : Int) (x10 : ByteArray) (x11 : ByteArray) (x12 : ByteArray) (x13 : Int) (x14 : Int) (x15 : Int) (x16 : Int) (x17 : Sl T175) (x18 : Int) (x19 : Sl T137) : Bool := (bif (x0 != 1) then (bif (x1 != 0) then true else (bif (x2 != 0) then true else (bif (x0 != 2) then (bif (x3 != 0) then true else (bif (!((x4 == 0) && ((x5 == 0) && ((x6 == false) && ((x7 == 0) && ((x8 == 0) && ((x9 == 0) && (((x10 : ByteArray).toList == (⟨#[]⟩ : ByteArray).toList) && (((x11 : ByteArray).toList == (⟨#[]⟩ : ByteArray).toList) && (((x12 : ByteArray).toList == (⟨#[]⟩ : ByteArray).toList) && ((x13 == 0) && true))))))))))) then true else (bif (x0 != 3) then (!(g175 x14 x15 x16 x17 x18 x19)) else false))) else (bif (x0 != 3) then (!(g175 x14 x15 x16 x17 x18 x19)) else false)))) else (bif (x0 != 2) then (bif (x3 != 0) then true else (bif (!((x4 == 0) && ((x5 == 0) && ((x6 == false) && ((x7 == 0) && ((x8 == 0) && ((x9 == 0) && (((x10 : ByteArray).toList == (⟨#[]⟩ : ByteArray).toList) && (((x11 : ByteArray).toList == (⟨#[]⟩ : ByteArray).toList) && (((x12 : ByteArray).toList == (⟨#[]⟩ : ByteArray).toList) && ((x13 == 0) && true))))))))))) then true else (bif (x0 != 3) then (!(g175 x14 x15 x16 x17 x18 x19)) else false))) else (bif (x0 != 3) then (!(g175 x14 x15 x16 x17 x18 x19)) else false)))
noncomputable def g94_m3 (x1 : Int) (x2 : Int) : Bool := (bif (!(g153 x1)) then true else (bif (decide (x2 < (-1))) then true else (decide (x2 ≥ 3))))
noncomputable def g94 (x0 : Int) (x1 : Int) (x2 : Int) (x3 : Int) (x4 : Int) (x5 : Int) (x6 : Bool) (x7 : Int) (x8 : Int) (x9 : Int) (x10 : ByteArray) (x11 : ByteArray) (x12 : ByteArray) (x13 : Int) (x14 : Int) (x15 : Int) (x16 : Int) (x17 : Sl T175) (x18 : Int) (x19 : Sl T137) : Int := (bif (g94_m1 x0) then 3 else (bif (g94_m2 x0 x1 x2 x3 x4 x5 x6 x7 x8 x9 x10 x11 x12 x13 x14 x15 x16 x17 x18 x19) then 8 else (bif (x0 == 1) then (bif (g94_m3 x1 x2) then 2 else 0) else (bif (x0 == 2) then (bif (!(g153 x3)) then 2 else (g51 x4 x5 x6 x7 x8 x9 x10 x11 x12 x13)) else (g87 x14 x15 x16 x17 x18 x19)))))
noncomputable abbrev g94_e : Env := mkE [(51, s51), (87, s87), (153, s153), (175, s175)]
theorem g94_e_ok : g94_e.Ok := mkE_ok ⟨k51, k87, k153, k175, trivial⟩
theorem pc94 (x0 : Int) (x1 : Int) (x2 : Int) (x3 : Int) (x4 : Int) (x5 : Int) (x6 : Bool) (x7 : Int) (x8 : Int) (x9 : Int) (x10 : ByteArray) (x11 : ByteArray) (x12 : ByteArray) (x13 : Int) (x14 : Int) (x15 : Int) (x16 : Int) (x17 : Sl T175) (x18 : Int) (x19 : Sl T137) : PureCall Try.prog 94 [.agg [.int .i64 x0, .int .i64 x1, .int .i64 x2, .int .i64 x3, .int .i64 x4, .int .i64 x5, .bool x6, .int .i64 x7, .int .i64 x8, .int .i64 x9, .str x10, .str x11, .str x12, .int .i64 x13, .int .i64 x14, .int .i64 x15, .int .i64 x16, ofSl 8 e175 x17, .int .i64 x18, ofSl 7 e137 x19]] (.int .i64 (g94 x0 x1 x2 x3 x4 x5 x6 x7 x8 x9 x10 x11 x12 x13 x14 x15 x16 x17 x18 x19)) := by
  refine PureCall.fine fun hf => ?_
  have hf_x17 : Fine (ofSl 8 e175 x17) := hf.1.2.2.2.2.2.2.2.2.2.2.2.2.2.2.2.2.2.1
  have hn_x17 : x17.n ≤ 549755813888 := hf_x17.len
  have hf_x19 : Fine (ofSl 7 e137 x19) := hf.1.2.2.2.2.2.2.2.2.2.2.2.2.2.2.2.2.2.2.2.1
  have hn_x19 : x19.n ≤ 549755813888 := hf_x19.len
  refine pure_of_WP (E := g94_e) g94_e_ok Try.func94 rfl _ _ ?_
  refine WP.step0 g94_e_ok ⟨U :: .ptr 0 0 :: .int .i64 0 :: us 80 [], [[.int .i64 x0, .int .i64 x1, .int .i64 x2, .int .i64 x3, .int .i64 x4, .int .i64 x5, .bool x6, .int .i64 x7, .int .i64 x8, .int .i64 x9, .str x10, .str x11, .str x12, .int .i64 x13, .int .i64 x14, .int .i64 x15, .int .i64 x16, ofSl 8 e175 x17, .int .i64 x18, ofSl 7 e137 x19]]⟩ (by kernel_rfl) ?_
  refine WP.seq ?_
  refine WP.stepM g94_e_ok (fun a : Bool => ⟨U :: .ptr 0 0 :: .int .i64 0 :: us 8 (.bool a :: us 71 []), [[.int .i64 x0, .int .i64 x1, .int .i64 x2, .int .i64 x3, .int .i64 x4, .int .i64 x5, .bool x6, .int .i64 x7, .int .i64 x8, .int .i64 x9, .str x10, .str x11, .str x12, .int .i64 x13, .int .i64 x14, .int .i64 x15, .int .i64 x16, ofSl 8 e175 x17, .int .i64 x18, ofSl 7 e137 x19]]⟩) (g94_m1 x0) (fun K => (((decide (x0 < 1)) = true → K true) ∧ ((decide (x0 < 1)) = false → K (decide (x0 > 3))))) (by kernel_rfl) ⟨fun h1 => (KM.mk (eqT h1 rfl)), fun h1 => (KM.mk (eqF h1 rfl))⟩ ?_
  refine WP.condR (g94_m1 x0) rfl (fun h2 => ?_) (fun h2 => ?_)
  · skip
    refine WP.step0 g94_e_ok ⟨U :: .ptr 0 0 :: .int .i64 3 :: us 80 [], [[.int .i64 x0, .int .i64 x1, .int .i64 x2, .int .i64 x3, .int .i64 x4, .int .i64 x5, .bool x6, .int .i64 x7, .int .i64 x8, .int .i64 x9, .str x10, .str x11, .str x12, .int .i64 x13, .int .i64 x14, .int .i64 x15, .int .i64 x16, ofSl 8 e175 x17, .int .i64 x18, ofSl 7 e137 x19]]⟩ (by kernel_rfl) ?_
    exact WP.retP (True ∧ ((.int .i64 3 : AV) = .int .i64 (g94 x0 x1 x2 x3 x4 x5 x6 x7 x8 x9 x10 x11 x12 x13 x14 x15 x16 x17 x18 x19))) (by kernel_rfl) ⟨trivial, (congrArg (AV.int .i64) (eqT h2 rfl))⟩
  · skip
    refine WP.skip ?_
    refine WP.step0 g94_e_ok ⟨U :: .ptr 0 0 :: .int .i64 0 :: .ptr 1 0 :: us 79 [], [[.int .i64 x0, .int .i64 x1, .int .i64 x2, .int .i64 x3, .int .i64 x4, .int .i64 x5, .bool x6, .int .i64 x7, .int .i64 x8, .int .i64 x9, .str x10, .str x11, .str x12, .int .i64 x13, .int .i64 x14, .int .i64 x15, .int .i64 x16, ofSl 8 e175 x17, .int .i64 x18, ofSl 7 e137 x19], [.int .i64 0, .int .i64 0, .bool false, .int .i64 0, .int .i64 0, .int .i64 0, .str ⟨#[]⟩, .str ⟨#[]⟩, .str ⟨#[]⟩, .int .i64 0]]⟩ (by kernel_rfl) ?_
    refine WP.seq ?_
    refine WP.stepM g94_e_ok (fun a : Bool => ⟨U :: .ptr 0 0 :: .int .i64 0 :: us 49 (.bool a :: us 30 []), [[.int .i64 x0, .int .i64 x1, .int .i64 x2, .int .i64 x3, .int .i64 x4, .int .i64 x5, .bool x6, .int .i64 x7, .int .i64 x8, .int .i64 x9, .str x10, .str x11, .str x12, .int .i64 x13, .int .i64 x14, .int .i64 x15, .int .i64 x16, ofSl 8 e175 x17, .int .i64 x18, ofSl 7 e137 x19]]⟩) (g94_m2 x0 x1 x2 x3 x4 x5 x6 x7 x8 x9 x10 x11 x12 x13 x14 x15 x16 x17 x18 x19) (fun K => (((x0 != 1) = true → (((x1 != 0) = true → K true) ∧ ((x1 != 0) = false → (((x2 != 0) = true → K true) ∧ ((x2 != 0) = false → (((x0 != 2) = true → (((x3 != 0) = true → K true) ∧ ((x3 != 0) = false → (((!((x4 == 0) && ((x5 == 0) && ((x6 == false) && ((x7 == 0) && ((x8 == 0) && ((x9 == 0) && (((x10 : ByteArray).toList == (⟨#[]⟩ : ByteArray).toList) && (((x11 : ByteArray).toList == (⟨#[]⟩ : ByteArray).toList) && (((x12 : ByteArray).toList == (⟨#[]⟩ : ByteArray).toList) && ((x13 == 0) && true))))))))))) = true → K true) ∧ ((!((x4 == 0) && ((x5 == 0) && ((x6 == false) && ((x7 == 0) && ((x8 == 0) && ((x9 == 0) && (((x10 : ByteArray).toList == (⟨#[]⟩ : ByteArray).toList) && (((x11 : ByteArray).toList == (⟨#[]⟩ : ByteArray).toList) && (((x12 : ByteArray).toList == (⟨#[]⟩ : ByteArray).toList) && ((x13 == 0) && true))))))))))) = false → (((x0 != 3) = true → ((okSl e175 d175 (ofSl 8 e175 x17) ∧ okSl e137 d137 (ofSl 7 e137 x19)) ∧ K (!(g175 x14 x15 x16 x17 x18 x19)))) ∧ ((x0 != 3) = false → K false))))))) ∧ ((x0 != 2) = false → (((x0 != 3) = true → ((okSl e175 d175 (ofSl 8 e175 x17) ∧ okSl e137 d137 (ofSl 7 e137 x19)) ∧ K (!(g175 x14 x15 x16 x17 x18 x19)))) ∧ ((x0 != 3) = false → K false))))))))) ∧ ((x0 != 1) = false → (((x0 != 2) = true → (((x3 != 0) = true → K true) ∧ ((x3 != 0) = false → (((!((x4 == 0) && ((x5 == 0) && ((x6 == false) && ((x7 == 0) && ((x8 == 0) && ((x9 == 0) && (((x10 : ByteArray).toList == (⟨#[]⟩ : ByteArray).toList) && (((x11 : ByteArray).toList == (⟨#[]⟩ : ByteArray).toList) && (((x12 : ByteArray).toList == (⟨#[]⟩ : ByteArray).toList) && ((x13 == 0) && true))))))))))) = true → K true) ∧ ((!((x4 == 0) && ((x5 == 0) && ((x6 == false) && ((x7 == 0) && ((x8 == 0) && ((x9 == 0) && (((x10 : ByteArray).toList == (⟨#[]⟩ : ByteArray).toList) && (((x11 : ByteArray).toList == (⟨#[]⟩ : ByteArray).toList) && (((x12 : ByteArray).toList == (⟨#[]⟩ : ByteArray).toList) && ((x13 == 0) && true))))))))))) = false → (((x0 != 3) = true → ((okSl e175 d175 (ofSl 8 e175 x17) ∧ okSl e137 d137 (ofSl 7 e137 x19)) ∧ K (!(g175 x14 x15 x16 x17 x18 x19)))) ∧ ((x0 != 3) = false → K false))))))) ∧ ((x0 != 2) = false → (((x0 != 3) = true → ((okSl e175 d175 (ofSl 8 e175 x17) ∧ okSl e137 d137 (ofSl 7 e137 x19)) ∧ K (!(g175 x14 x15 x16 x17 x18 x19)))) ∧ ((x0 != 3) = false → K false))))))) (by kernel_rfl) ⟨fun h3 => ⟨fun h4 => (KM.mk (eqT h3 (eqT h4 rfl))), fun h4 => ⟨fun h5 => (KM.mk (eqT h3 (eqF h4 (eqT h5 rfl)))), fun h5 => ⟨fun h6 => ⟨fun h7 => (KM.mk (eqT h3 (eqF h4 (eqF h5 (eqT h6 (eqT h7 rfl)))))), fun h7 => ⟨fun h8 => (KM.mk (eqT h3 (eqF h4 (eqF h5 (eqT h6 (eqF h7 (eqT h8 rfl))))))), fun h8 => ⟨fun h9 => ⟨⟨(okOf ed175 8 x17), (okOf ed137 7 x19)⟩, (KM.mk (eqT h3 (eqF h4 (eqF h5 (eqT h6 (eqF h7 (eqF h8 (eqT h9 rfl))))))))⟩, fun h9 => (KM.mk (eqT h3 (eqF h4 (eqF h5 (eqT h6 (eqF h7 (eqF h8 (eqF h9 rfl))))))))⟩⟩⟩, fun h6 => ⟨fun h10 => ⟨⟨(okOf ed175 8 x17), (okOf ed137 7 x19)⟩, (KM.mk (eqT h3 (eqF h4 (eqF h5 (eqF h6 (eqT h10 rfl))))))⟩, fun h10 => (KM.mk (eqT h3 (eqF h4 (eqF h5 (eqF h6 (eqF h10 rfl))))))⟩⟩⟩⟩, fun h3 => ⟨fun h11 => ⟨fun h12 => (KM.mk (eqF h3 (eqT h11 (eqT h12 rfl)))), fun h12 => ⟨fun h13 => (KM.mk (eqF h3 (eqT h11 (eqF h12 (eqT h13 rfl))))), fun h13 => ⟨fun h14 => ⟨⟨(okOf ed175 8 x17), (okOf ed137 7 x19)⟩, (KM.mk (eqF h3 (eqT h11 (eqF h12 (eqF h13 (eqT h14 rfl))))))⟩, fun h14 => (KM.mk (eqF h3 (eqT h11 (eqF h12 (eqF h13 (eqF h14 rfl))))))⟩⟩⟩, fun h11 => ⟨fun h15 => ⟨⟨(okOf ed175 8 x17), (okOf ed137 7 x19)⟩, (KM.mk (eqF h3 (eqF h11 (eqT h15 rfl))))⟩, fun h15 => (KM.mk (eqF h3 (eqF h11 (eqF h15 rfl))))⟩⟩⟩ ?_
    refine WP.condR (g94_m2 x0 x1 x2 x3 x4 x5 x6 x7 x8 x9 x10 x11 x12 x13 x14 x15 x16 x17 x18 x19) rfl (fun h16 => ?_) (fun h16 => ?_)
    · skip
      refine WP.step0 g94_e_ok ⟨U :: .ptr 0 0 :: .int .i64 8 :: us 80 [], [[.int .i64 x0, .int .i64 x1, .int .i64 x2, .int .i64 x3, .int .i64 x4, .int .i64 x5, .bool x6, .int .i64 x7, .int .i64 x8, .int .i64 x9, .str x10, .str x11, .str x12, .int .i64 x13, .int .i64 x14, .int .i64 x15, .int .i64 x16, ofSl 8 e175 x17, .int .i64 x18, ofSl 7 e137 x19]]⟩ (by kernel_rfl) ?_
      exact WP.retP (True ∧ ((.int .i64 8 : AV) = .int .i64 (g94 x0 x1 x2 x3 x4 x5 x6 x7 x8 x9 x10 x11 x12 x13 x14 x15 x16 x17 x18 x19))) (by kernel_rfl) ⟨trivial, (congrArg (AV.int .i64) (eqF h2 (eqT h16 rfl)))⟩
    · skip
      refine WP.skip ?_
      refine WP.seq ?_
      refine WP.step0 g94_e_ok ⟨U :: .ptr 0 0 :: .int .i64 0 :: us 51 (.int .i64 x0 :: us 28 []), [[.int .i64 x0, .int .i64 x1, .int .i64 x2, .int .i64 x3, .int .i64 x4, .int .i64 x5, .bool x6, .int .i64 x7, .int .i64 x8, .int .i64 x9, .str x10, .str x11, .str x12, .int .i64 x13, .int .i64 x14, .int .i64 x15, .int .i64 x16, ofSl 8 e175 x17, .int .i64 x18, ofSl 7 e137 x19]]⟩ (by kernel_rfl) ?_
      refine WP.block ?_
      refine WP.step0 g94_e_ok ⟨U :: .ptr 0 0 :: .int .i64 0 :: us 51 (.int .i64 x0 :: .bool (x0 == 1) :: us 27 []), [[.int .i64 x0, .int .i64 x1, .int .i64 x2, .int .i64 x3, .int .i64 x4, .int .i64 x5, .bool x6, .int .i64 x7, .int .i64 x8, .int .i64 x9, .str x10, .str x11, .str x12, .int .i64 x13, .int .i64 x14, .int .i64 x15, .int .i64 x16, ofSl 8 e175 x17, .int .i64 x18, ofSl 7 e137 x19]]⟩ (by kernel_rfl) ?_
      refine WP.condR (x0 == 1) rfl (fun h17 => ?_) (fun h17 => ?_)
      · skip
        refine WP.seq ?_
        refine WP.stepM g94_e_ok (fun a : Bool => ⟨U :: .ptr 0 0 :: .int .i64 0 :: us 67 (.bool a :: us 12 []), [[.int .i64 x0, .int .i64 x1, .int .i64 x2, .int .i64 x3, .int .i64 x4, .int .i64 x5, .bool x6, .int .i64 x7, .int .i64 x8, .int .i64 x9, .str x10, .str x11, .str x12, .int .i64 x13, .int .i64 x14, .int .i64 x15, .int .i64 x16, ofSl 8 e175 x17, .int .i64 x18, ofSl 7 e137 x19]]⟩) (g94_m3 x1 x2) (fun K => (((!(g153 x1)) = true → K true) ∧ ((!(g153 x1)) = false → (((decide (x2 < (-1))) = true → K true) ∧ ((decide (x2 < (-1))) = false → K (decide (x2 ≥ 3))))))) (by kernel_rfl) ⟨fun h18 => (KM.mk (eqT h18 rfl)), fun h18 => ⟨fun h19 => (KM.mk (eqF h18 (eqT h19 rfl))), fun h19 => (KM.mk (eqF h18 (eqF h19 rfl)))⟩⟩ ?_
        refine WP.condR (g94_m3 x1 x2) rfl (fun h20 => ?_) (fun h20 => ?_)
        · skip
          refine WP.step0 g94_e_ok ⟨U :: .ptr 0 0 :: .int .i64 2 :: us 80 [], [[.int .i64 x0, .int .i64 x1, .int .i64 x2, .int .i64 x3, .int .i64 x4, .int .i64 x5, .bool x6, .int .i64 x7, .int .i64 x8, .int .i64 x9, .str x10, .str x11, .str x12, .int .i64 x13, .int .i64 x14, .int .i64 x15, .int .i64 x16, ofSl 8 e175 x17, .int .i64 x18, ofSl 7 e137 x19]]⟩ (by kernel_rfl) ?_
          exact WP.retP (True ∧ ((.int .i64 2 : AV) = .int .i64 (g94 x0 x1 x2 x3 x4 x5 x6 x7 x8 x9 x10 x11 x12 x13 x14 x15 x16 x17 x18 x19))) (by kernel_rfl) ⟨trivial, (congrArg (AV.int .i64) (eqF h2 (eqF h16 (eqT h17 (eqT h20 rfl)))))⟩
        · skip
          refine WP.skip ?_
          refine WP.step0 g94_e_ok ⟨U :: .ptr 0 0 :: .int .i64 0 :: us 80 [], [[.int .i64 x0, .int .i64 x1, .int .i64 x2, .int .i64 x3, .int .i64 x4, .int .i64 x5, .bool x6, .int .i64 x7, .int .i64 x8, .int .i64 x9, .str x10, .str x11, .str x12, .int .i64 x13, .int .i64 x14, .int .i64 x15, .int .i64 x16, ofSl 8 e175 x17, .int .i64 x18, ofSl 7 e137 x19]]⟩ (by kernel_rfl) ?_
          exact WP.retP (True ∧ ((.int .i64 0 : AV) = .int .i64 (g94 x0 x1 x2 x3 x4 x5 x6 x7 x8 x9 x10 x11 x12 x13 x14 x15 x16 x17 x18 x19))) (by kernel_rfl) ⟨trivial, (congrArg (AV.int .i64) (eqF h2 (eqF h16 (eqT h17 (eqF h20 rfl)))))⟩
      · skip
        refine WP.step0 g94_e_ok ⟨U :: .ptr 0 0 :: .int .i64 0 :: us 68 (.bool (x0 == 2) :: us 11 []), [[.int .i64 x0, .int .i64 x1, .int .i64 x2, .int .i64 x3, .int .i64 x4, .int .i64 x5, .bool x6, .int .i64 x7, .int .i64 x8, .int .i64 x9, .str x10, .str x11, .str x12, .int .i64 x13, .int .i64 x14, .int .i64 x15, .int .i64 x16, ofSl 8 e175 x17, .int .i64 x18, ofSl 7 e137 x19]]⟩ (by kernel_rfl) ?_
        refine WP.condR (x0 == 2) rfl (fun h21 => ?_) (fun h21 => ?_)
        · skip
          refine WP.seq ?_
          refine WP.step0 g94_e_ok ⟨U :: .ptr 0 0 :: .int .i64 0 :: us 73 (.bool (!(g153 x3)) :: us 6 []), [[.int .i64 x0, .int .i64 x1, .int .i64 x2, .int .i64 x3, .int .i64 x4, .int .i64 x5, .bool x6, .int .i64 x7, .int .i64 x8, .int .i64 x9, .str x10, .str x11, .str x12, .int .i64 x13, .int .i64 x14, .int .i64 x15, .int .i64 x16, ofSl 8 e175 x17, .int .i64 x18, ofSl 7 e137 x19]]⟩ (by kernel_rfl) ?_
          refine WP.condR (!(g153 x3)) rfl (fun h22 => ?_) (fun h22 => ?_)
          · skip
            refine WP.step0 g94_e_ok ⟨U :: .ptr 0 0 :: .int .i64 2 :: us 80 [], [[.int .i64 x0, .int .i64 x1, .int .i64 x2, .int .i64 x3, .int .i64 x4, .int .i64 x5, .bool x6, .int .i64 x7, .int .i64 x8, .int .i64 x9, .str x10, .str x11, .str x12, .int .i64 x13, .int .i64 x14, .int .i64 x15, .int .i64 x16, ofSl 8 e175 x17, .int .i64 x18, ofSl 7 e137 x19]]⟩ (by kernel_rfl) ?_
            exact WP.retP (True ∧ ((.int .i64 2 : AV) = .int .i64 (g94 x0 x1 x2 x3 x4 x5 x6 x7 x8 x9 x10 x11 x12 x13 x14 x15 x16 x17 x18 x19))) (by kernel_rfl) ⟨trivial, (congrArg (AV.int .i64) (eqF h2 (eqF h16 (eqF h17 (eqT h21 (eqT h22 rfl))))))⟩
          · skip
            refine WP.skip ?_
            refine WP.step0 g94_e_ok ⟨U :: .ptr 0 0 :: .int .i64 (g51 x4 x5 x6 x7 x8 x9 x10 x11 x12 x13) :: us 80 [], [[.int .i64 x0, .int .i64 x1, .int .i64 x2, .int .i64 x3, .int .i64 x4, .int .i64 x5, .bool x6, .int .i64 x7, .int .i64 x8, .int .i64 x9, .str x10, .str x11, .str x12, .int .i64 x13, .int .i64 x14, .int .i64 x15, .int .i64 x16, ofSl 8 e175 x17, .int .i64 x18, ofSl 7 e137 x19]]⟩ (by kernel_rfl) ?_
            exact WP.retP (True ∧ ((.int .i64 (g51 x4 x5 x6 x7 x8 x9 x10 x11 x12 x13) : AV) = .int .i64 (g94 x0 x1 x2 x3 x4 x5 x6 x7 x8 x9 x10 x11 x12 x13 x14 x15 x16 x17 x18 x19))) (by kernel_rfl) ⟨trivial, (congrArg (AV.int .i64) (eqF h2 (eqF h16 (eqF h17 (eqT h21 (eqF h22 rfl))))))⟩
        · skip
          refine WP.skip ?_
          refine WP.stepE g94_e_ok ⟨U :: U :: .int .i64 (g87 x14 x15 x16 x17 x18 x19) :: us 80 [], []⟩ (fun q => ((okSl e175 d175 (ofSl 8 e175 x17) ∧ okSl e137 d137 (ofSl 7 e137 x19)) ∧ q)) (by kernel_rfl) ⟨⟨(okOf ed175 8 x17), (okOf ed137 7 x19)⟩, rfl⟩ ?_
          exact WP.retP (True ∧ ((.int .i64 (g87 x14 x15 x16 x17 x18 x19) : AV) = .int .i64 (g94 x0 x1 x2 x3 x4 x5 x6 x7 x8 x9 x10 x11 x12 x13 x14 x15 x16 x17 x18 x19))) (by kernel_rfl) ⟨trivial, (congrArg (AV.int .i64) (eqF h2 (eqF h16 (eqF h17 (eqF h21 rfl)))))⟩
noncomputable def s94 : Ans := fun xs => match xs with
  | [.agg [.int .i64 x0, .int .i64 x1, .int .i64 x2, .int .i64 x3, .int .i64 x4, .int .i64 x5, .bool x6, .int .i64 x7, .int .i64 x8, .int .i64 x9, .str x10, .str x11, .str x12, .int .i64 x13, .int .i64 x14, .int .i64 x15, .int .i64 x16, y17, .int .i64 x18, y19]] => bif isSl 8 y17 then bif isSl 7 y19 then some (some (okSl e175 d175 y17 ∧ okSl e137 d137 y19), .int .i64 (g94 x0 x1 x2 x3 x4 x5 x6 x7 x8 x9 x10 x11 x12 x13 x14 x15 x16 (toSl d175 y17) x18 (toSl d137 y19))) else none else none
  | _ => none
theorem k94 : SOk Try.prog 94 s94 := ⟨⟨_, _, Try.func94, rfl, by kernel_rfl⟩, fun args pre r h hp => by
  unfold s94 at h
  split at h
  · obtain ⟨b0, h⟩ := cond_some h
    obtain ⟨b1, h⟩ := cond_some h
    cases h
    exact (pc94 _ _ _ _ _ _ _ _ _ _ _ _ _ _ _ _ _ _ _ _).weak (l1 (aG (l1 cI (l1 cI (l1 cI (l1 cI (l1 cI (l1 cI (l1 cB (l1 cI (l1 cI (l1 cI (l1 cS (l1 cS (l1 cS (l1 cI (l1 cI (l1 cI (l1 cI (l1 (slLe b0 hp.1.1) (l1 cI (l1 (slLe b1 hp.1.2) l0))))))))))))))))))))) l0)
  · cases h⟩
noncomputable def g95_0 (x0 : Int) : Int := x0
noncomputable def g95_1 (x1 : Int) : Int := x1
noncomputable def g95_2 (x2 : Int) : Int := x2
noncomputable def g95_3 (x3 : Int) : Int := x3
noncomputable def g95_4 (x4 : Int) : Int := x4
noncomputable def g95_5 (x5 : Int) : Int := x5
noncomputable def g95_6 (x6 : Bool) : Bool := x6
noncomputable def g95_7 (x7 : Int) : Int := x7
noncomputable def g95_8 (x8 : Int) : Int := x8
noncomputable def g95_9 (x9 : Int) : Int := x9
noncomputable def g95_10 (x10 : ByteArray) : ByteArray := x10
noncomputable def g95_11 (x11 : ByteArray) : ByteArray := x11
noncomputable def g95_12 (x12 : ByteArray) : ByteArray := x12
noncomputable def g95_13 (x13 : Int) : Int := x13
noncomputable def g95_14 (x14 : Int) : Int := (g88_0 x14)
noncomputable def g95_15 (x15 : Int) : Int := (g88_1 x15)
noncomputable def g95_16 (x16 : Int) : Int := (g88_2 x16)
noncomputable def g95_17 (x17 : Sl T175) : Sl T175 := (g88_3 x17)
noncomputable def g95_18 (x18 : Int) : Int := (g88_4 x18)
noncomputable def g95_19 (x19 : Sl T137) : Sl T137 := (g88_5 x19)
noncomputable abbrev g95_e : Env := mkE [(88, s88)]
theorem g95_e_ok : g95_e.Ok := mkE_ok ⟨k88, trivial⟩
theorem pc95 (x0 : Int) (x1 : Int) (x2 : Int) (x3 : Int) (x4 : Int) (x5 : Int) (x6 : Bool) (x7 : Int) (x8 : Int) (x9 : Int) (x10 : ByteArray) (x11 : ByteArray) (x12 : ByteArray) (x13 : Int) (x14 : Int) (x15 : Int) (x16 : Int) (x17 : Sl T175) (x18 : Int) (x19 : Sl T137) : PureCall Try.prog 95 [.agg [.int .i64 x0, .int .i64 x1, .int .i64 x2, .int .i64 x3, .int .i64 x4, .int .i64 x5, .bool x6, .int .i64 x7, .int .i64 x8, .int .i64 x9, .str x10, .str x11, .str x12, .int .i64 x13, .int .i64 x14, .int .i64 x15, .int .i64 x16, ofSl 8 e175 x17, .int .i64 x18, ofSl 7 e137 x19]] (.agg [.int .i64 (g95_0 x0), .int .i64 (g95_1 x1), .int .i64 (g95_2 x2), .int .i64 (g95_3 x3), .int .i64 (g95_4 x4), .int .i64 (g95_5 x5), .bool (g95_6 x6), .int .i64 (g95_7 x7), .int .i64 (g95_8 x8), .int .i64 (g95_9 x9), .str (g95_10 x10), .str (g95_11 x11), .str (g95_12 x12), .int .i64 (g95_13 x13), .int .i64 (g95_14 x14), .int .i64 (g95_15 x15), .int .i64 (g95_16 x16), ofSl 8 e175 (g95_17 x17), .int .i64 (g95_18 x18), ofSl 7 e137 (g95_19 x19)]) := by
  refine PureCall.fine fun hf => ?_
  have hf_x17 : Fine (ofSl 8 e175 x17) := hf.1.2.2.2.2.2.2.2.2.2.2.2.2.2.2.2.2.2.1
  have hn_x17 : x17.n ≤ 549755813888 := hf_x17.len
  have hf_x19 : Fine (ofSl 7 e137 x19) := hf.1.2.2.2.2.2.2.2.2.2.2.2.2.2.2.2.2.2.2.2.1
  have hn_x19 : x19.n ≤ 549755813888 := hf_x19.len
  refine pure_of_WP (E := g95_e) g95_e_ok Try.func95 rfl _ _ ?_
  refine WP.step0 g95_e_ok ⟨U :: .ptr 0 0 :: .ptr 1 0 :: us 5 [], [[.int .i64 x0, .int .i64 x1, .int .i64 x2, .int .i64 x3, .int .i64 x4, .int .i64 x5, .bool x6, .int .i64 x7, .int .i64 x8, .int .i64 x9, .str x10, .str x11, .str x12, .int .i64 x13, .int .i64 x14, .int .i64 x15, .int .i64 x16, ofSl 8 e175 x17, .int .i64 x18, ofSl 7 e137 x19], [.int .i64 0, .int .i64 0, .int .i64 0, .int .i64 0, .int .i64 0, .int .i64 0, .bool false, .int .i64 0, .int .i64 0, .int .i64 0, .str ⟨#[]⟩, .str ⟨#[]⟩, .str ⟨#[]⟩, .int .i64 0, .int .i64 0, .int .i64 0, .int .i64 0, .nils, .int .i64 0, .nils]]⟩ (by kernel_rfl) ?_
  refine WP.stepE g95_e_ok ⟨U :: .ptr 0 0 :: .ptr 1 0 :: us 5 [], [[.int .i64 x0, .int .i64 x1, .int .i64 x2, .int .i64 x3, .int .i64 x4, .int .i64 x5, .bool x6, .int .i64 x7, .int .i64 x8, .int .i64 x9, .str x10, .str x11, .str x12, .int .i64 x13, .int .i64 (g88_0 x14), .int .i64 (g88_1 x15), .int .i64 (g88_2 x16), ofSl 8 e175 (g88_3 x17), .int .i64 (g88_4 x18), ofSl 7 e137 (g88_5 x19)], [.int .i64 0, .int .i64 0, .int .i64 0, .int .i64 0, .int .i64 0, .int .i64 0, .bool false, .int .i64 0, .int .i64 0, .int .i64 0, .str ⟨#[]⟩, .str ⟨#[]⟩, .str ⟨#[]⟩, .int .i64 0, .int .i64 0, .int .i64 0, .int .i64 0, .nils, .int .i64 0, .nils]]⟩ (fun q => ((okSl e175 d175 (ofSl 8 e175 x17) ∧ okSl e137 d137 (ofSl 7 e137 x19)) ∧ q)) (by kernel_rfl) ⟨⟨(okOf ed175 8 x17), (okOf ed137 7 x19)⟩, rfl⟩ ?_
  refine WP.step0 g95_e_ok ⟨U :: U :: .ptr 1 0 :: us 5 [], [[], [.int .i64 x0, .int .i64 x1, .int .i64 x2, .int .i64 x3, .int .i64 x4, .int .i64 x5, .bool x6, .int .i64 x7, .int .i64 x8, .int .i64 x9, .str x10, .str x11, .str x12, .int .i64 x13, .int .i64 (g88_0 x14), .int .i64 (g88_1 x15), .int .i64 (g88_2 x16), ofSl 8 e175 (g88_3 x17), .int .i64 (g88_4 x18), ofSl 7 e137 (g88_5 x19)]]⟩ (by kernel_rfl) ?_
  exact WP.retP (True ∧ (((.int .i64 x0 : AV) = .int .i64 (g95_0 x0)) ∧ ((.int .i64 x1 : AV) = .int .i64 (g95_1 x1)) ∧ ((.int .i64 x2 : AV) = .int .i64 (g95_2 x2)) ∧ ((.int .i64 x3 : AV) = .int .i64 (g95_3 x3)) ∧ ((.int .i64 x4 : AV) = .int .i64 (g95_4 x4)) ∧ ((.int .i64 x5 : AV) = .int .i64 (g95_5 x5)) ∧ ((.bool x6 : AV) = .bool (g95_6 x6)) ∧ ((.int .i64 x7 : AV) = .int .i64 (g95_7 x7)) ∧ ((.int .i64 x8 : AV) = .int .i64 (g95_8 x8)) ∧ ((.int .i64 x9 : AV) = .int .i64 (g95_9 x9)) ∧ ((.str x10 : AV) = .str (g95_10 x10)) ∧ ((.str x11 : AV) = .str (g95_11 x11)) ∧ ((.str x12 : AV) = .str (g95_12 x12)) ∧ ((.int .i64 x13 : AV) = .int .i64 (g95_13 x13)) ∧ ((.int .i64 (g88_0 x14) : AV) = .int .i64 (g95_14 x14)) ∧ ((.int .i64 (g88_1 x15) : AV) = .int .i64 (g95_15 x15)) ∧ ((.int .i64 (g88_2 x16) : AV) = .int .i64 (g95_16 x16)) ∧ (8 = 8 ∧ (g88_3 x17).n = (g95_17 x17).n ∧ ∀ i, i < (g88_3 x17).n → e175 ((g88_3 x17).at' i) = e175 ((g95_17 x17).at' i)) ∧ ((.int .i64 (g88_4 x18) : AV) = .int .i64 (g95_18 x18)) ∧ (7 = 7 ∧ (g88_5 x19).n = (g95_19 x19).n ∧ ∀ i, i < (g88_5 x19).n → e137 ((g88_5 x19).at' i) = e137 ((g95_19 x19).at' i)) ∧ True)) (by kernel_rfl) ⟨trivial, ⟨rfl, rfl, rfl, rfl, rfl, rfl, rfl, rfl, rfl, rfl, rfl, rfl, rfl, rfl, rfl, rfl, rfl, (slEq (sz := 8) (enc := e175) rfl), rfl, (slEq (sz := 7) (enc := e137) rfl), trivial⟩⟩
noncomputable def s95 : Ans := fun xs => match xs with
  | [.agg [.int .i64 x0, .int .i64 x1, .int .i64 x2, .int .i64 x3, .int .i64 x4, .int .i64 x5, .bool x6, .int .i64 x7, .int .i64 x8, .int .i64 x9, .str x10, .str x11, .str x12, .int .i64 x13, .int .i64 x14, .int .i64 x15, .int .i64 x16, y17, .int .i64 x18, y19]] => bif isSl 8 y17 then bif isSl 7 y19 then some (some (okSl e175 d175 y17 ∧ okSl e137 d137 y19), .agg [.int .i64 (g95_0 x0), .int .i64 (g95_1 x1), .int .i64 (g95_2 x2), .int .i64 (g95_3 x3), .int .i64 (g95_4 x4), .int .i64 (g95_5 x5), .bool (g95_6 x6), .int .i64 (g95_7 x7), .int .i64 (g95_8 x8), .int .i64 (g95_9 x9), .str (g95_10 x10), .str (g95_11 x11), .str (g95_12 x12), .int .i64 (g95_13 x13), .int .i64 (g95_14 x14), .int .i64 (g95_15 x15), .int .i64 (g95_16 x16), ofSl 8 e175 (g95_17 (toSl d175 y17)), .int .i64 (g95_18 x18), ofSl 7 e137 (g95_19 (toSl d137 y19))]) else none else none
  | _ => none
theorem k95 : SOk Try.prog 95 s95 := ⟨⟨_, _, Try.func95, rfl, by kernel_rfl⟩, fun args pre r h hp => by
  unfold s95 at h
  split at h
  · obtain ⟨b0, h⟩ := cond_some h
    obtain ⟨b1, h⟩ := cond_some h
    cases h
    exact (pc95 _ _ _ _ _ _ _ _ _ _ _ _ _ _ _ _ _ _ _ _).weak (l1 (aG (l1 cI (l1 cI (l1 cI (l1 cI (l1 cI (l1 cI (l1 cB (l1 cI (l1 cI (l1 cI (l1 cS (l1 cS (l1 cS (l1 cI (l1 cI (l1 cI (l1 cI (l1 (slLe b0 hp.1.1) (l1 cI (l1 (slLe b1 hp.1.2) l0))))))))))))))))))))) l0)
  · cases h⟩
noncomputable def g96_m1 (x0 : Int) (x1 : Int) (x2 : Int) (x3 : Int) (x4 : Int) (x5 : Int) (x6 : Bool) (x7 : Int) (x8 : Int) (x9 : Int) (x10 : ByteArray) (x11 : ByteArray) (x12 : ByteArray) (x13 : Int) (x14 : Int) (x15 : Int) (x16 : Int) (x17 : Sl T175) (x18 : Int) (x19 : Sl T137) : Bool := (bif (x0 != 1) then (bif (x1 != 0) then true else (bif (x2 != 0) then true else (bif (x0 != 2) then (bif (x3 != 0) then true else (bif (!((x4 == 0) && ((x5 == 0) && ((x6 == false) && ((x7 == 0) && ((x8 == 0) && ((x9 == 0) && (((x10 : ByteArray).toList == (⟨#[]⟩ : ByteArray).toList) && (((x11 : ByteArray).toList == (⟨#[]⟩ : ByteArray).toList) && (((x12 : ByteArray).toList == (⟨#[]⟩ : ByteArray).toList) && ((x13 == 0) && true))))))))))) then true else (bif (x0 != 3) then (!(g176 x14 x15 x16 x17 x18 x19)) else false))) else (bif (x0 != 3) then (!(g176 x14 x15 x16 x17 x18 x19)) else false)))) else (bif (x0 != 2) then (bif (x3 != 0) then true else (bif (!((x4 == 0) && ((x5 == 0) && ((x6 == false) && ((x7 == 0) && ((x8 == 0) && ((x9 == 0) && (((x10 : ByteArray).toList == (⟨#[]⟩ : ByteArray).toList) && (((x11 : ByteArray).toList == (⟨#[]⟩ : ByteArray).toList) && (((x12 : ByteArray).toList == (⟨#[]⟩ : ByteArray).toList) && ((x13 == 0) && true))))))))))) then true else (bif (x0 != 3) then (!(g176 x14 x15 x16 x17 x18 x19)) else false))) else (bif (x0 != 3) then (!(g176 x14 x15 x16 x17 x18 x19)) else false)))
noncomputable def g96_m2 (x1 : Int) (x2 : Int) : Bool := (bif (!(g120 x1)) then true else (!(g112 x2 (-1) 2)))
noncomputable def g96 (x0 : Int) (x1 : Int) (x2 : Int) (x3 : Int) (x4 : Int) (x5 : Int) (x6 : Bool) (x7 : Int) (x8 : Int) (x9 : Int) (x10 : ByteArray) (x11 : ByteArray) (x12 : ByteArray) (x13 : Int) (x14 : Int) (x15 : Int) (x16 : Int) (x17 : Sl T175) (x18 : Int) (x19 : Sl T137) : Int := (bif (!(g112 x0 1 3)) then 3 else (bif (g96_m1 x0 x1 x2 x3 x4 x5 x6 x7 x8 x9 x10 x11 x12 x13 x14 x15 x16 x17 x18 x19) then 8 else (bif (x0 == 3) then (g89 x14 x15 x16 x17 x18 x19) else (bif (x0 == 1) then (bif (g96_m2 x1 x2) then 2 else 0) else (bif (!(g120 x3)) then 2 else (g52 x4 x5 x6 x7 x8 x9 x10 x11 x12 x13))))))
noncomputable abbrev g96_e : Env := mkE [(52, s52), (89, s89), (112, s112), (120, s120), (176, s176)]
theorem g96_e_ok : g96_e.Ok := mkE_ok ⟨k52, k89, k112, k120, k176, trivial⟩
theorem pc96 (x0 : Int) (x1 : Int) (x2 : Int) (x3 : Int) (x4 : Int) (x5 : Int) (x6 : Bool) (x7 : Int) (x8 : Int) (x9 : Int) (x10 : ByteArray) (x11 : ByteArray) (x12 : ByteArray) (x13 : Int) (x14 : Int) (x15 : Int) (x16 : Int) (x17 : Sl T175) (x18 : Int) (x19 : Sl T137) : PureCall Try.prog 96 [.agg [.int .i64 x0, .int .i64 x1, .int .i64 x2, .int .i64 x3, .int .i64 x4, .int .i64 x5, .bool x6, .int .i64 x7, .int .i64 x8, .int .i64 x9, .str x10, .str x11, .str x12, .int .i64 x13, .int .i64 x14, .int .i64 x15, .int .i64 x16, ofSl 8 e175 x17, .int .i64 x18, ofSl 7 e137 x19]] (.int .i64 (g96 x0 x1 x2 x3 x4 x5 x6 x7 x8 x9 x10 x11 x12 x13 x14 x15 x16 x17 x18 x19)) := by
  refine PureCall.fine fun hf => ?_
  have hf_x17 : Fine (ofSl 8 e175 x17) := hf.1.2.2.2.2.2.2.2.2.2.2.2.2.2.2.2.2.2.1
  have hn_x17 : x17.n ≤ 549755813888 := hf_x17.len
  have hf_x19 : Fine (ofSl 7 e137 x19) := hf.1.2.2.2.2.2.2.2.2.2.2.2.2.2.2.2.2.2.2.2.1
  have hn_x19 : x19.n ≤ 549755813888 := hf_x19.len
  refine pure_of_WP (E := g96_e) g96_e_ok Try.func96 rfl _ _ ?_
  refine WP.step0 g96_e_ok ⟨U :: .ptr 0 0 :: .int .i64 0 :: us 70 [], [[.int .i64 x0, .int .i64 x1, .int .i64 x2, .int .i64 x3, .int .i64 x4, .int .i64 x5, .bool x6, .int .i64 x7, .int .i64 x8, .int .i64 x9, .str x10, .str x11, .str x12, .int .i64 x13, .int .i64 x14, .int .i64 x15, .int .i64 x16, ofSl 8 e175 x17, .int .i64 x18, ofSl 7 e137 x19]]⟩ (by kernel_rfl) ?_
  refine WP.seq ?_
  refine WP.step0 g96_e_ok ⟨U :: .ptr 0 0 :: .int .i64 0 :: U :: U :: U :: .bool (!(g112 x0 1 3)) :: us 66 [], [[.int .i64 x0, .int .i64 x1, .int .i64 x2, .int .i64 x3, .int .i64 x4, .int .i64 x5, .bool x6, .int .i64 x7, .int .i64 x8, .int .i64 x9, .str x10, .str x11, .str x12, .int .i64 x13, .int .i64 x14, .int .i64 x15, .int .i64 x16, ofSl 8 e175 x17, .int .i64 x18, ofSl 7 e137 x19]]⟩ (by kernel_rfl) ?_
  refine WP.condR (!(g112 x0 1 3)) rfl (fun h1 => ?_) (fun h1 => ?_)
  · skip
    refine WP.step0 g96_e_ok ⟨U :: .ptr 0 0 :: .int .i64 3 :: us 70 [], [[.int .i64 x0, .int .i64 x1, .int .i64 x2, .int .i64 x3, .int .i64 x4, .int .i64 x5, .bool x6, .int .i64 x7, .int .i64 x8, .int .i64 x9, .str x10, .str x11, .str x12, .int .i64 x13, .int .i64 x14, .int .i64 x15, .int .i64 x16, ofSl 8 e175 x17, .int .i64 x18, ofSl 7 e137 x19]]⟩ (by kernel_rfl) ?_
    exact WP.retP (True ∧ ((.int .i64 3 : AV) = .int .i64 (g96 x0 x1 x2 x3 x4 x5 x6 x7 x8 x9 x10 x11 x12 x13 x14 x15 x16 x17 x18 x19))) (by kernel_rfl) ⟨trivial, (congrArg (AV.int .i64) (eqT h1 rfl))⟩
  · skip
    refine WP.skip ?_
    refine WP.seq ?_
    refine WP.stepM g96_e_ok (fun a : Bool => ⟨U :: .ptr 0 0 :: .int .i64 0 :: us 43 (.bool a :: us 26 []), [[.int .i64 x0, .int .i64 x1, .int .i64 x2, .int .i64 x3, .int .i64 x4, .int .i64 x5, .bool x6, .int .i64 x7, .int .i64 x8, .int .i64 x9, .str x10, .str x11, .str x12, .int .i64 x13, .int .i64 x14, .int .i64 x15, .int .i64 x16, ofSl 8 e175 x17, .int .i64 x18, ofSl 7 e137 x19]]⟩) (g96_m1 x0 x1 x2 x3 x4 x5 x6 x7 x8 x9 x10 x11 x12 x13 x14 x15 x16 x17 x18 x19) (fun K => (((x0 != 1) = true → (((x1 != 0) = true → K true) ∧ ((x1 != 0) = false → (((x2 != 0) = true → K true) ∧ ((x2 != 0) = false → (((x0 != 2) = true → (((x3 != 0) = true → K true) ∧ ((x3 != 0) = false → (((!((x4 == 0) && ((x5 == 0) && ((x6 == false) && ((x7 == 0) && ((x8 == 0) && ((x9 == 0) && (((x10 : ByteArray).toList == (⟨#[]⟩ : ByteArray).toList) && (((x11 : ByteArray).toList == (⟨#[]⟩ : ByteArray).toList) && (((x12 : ByteArray).toList == (⟨#[]⟩ : ByteArray).toList) && ((x13 == 0) && true))))))))))) = true → K true) ∧ ((!((x4 == 0) && ((x5 == 0) && ((x6 == false) && ((x7 == 0) && ((x8 == 0) && ((x9 == 0) && (((x10 : ByteArray).toList == (⟨#[]⟩ : ByteArray).toList) && (((x11 : ByteArray).toList == (⟨#[]⟩ : ByteArray).toList) && (((x12 : ByteArray).toList == (⟨#[]⟩ : ByteArray).toList) && ((x13 == 0) && true))))))))))) = false → (((x0 != 3) = true → ((okSl e175 d175 (ofSl 8 e175 x17) ∧ okSl e137 d137 (ofSl 7 e137 x19)) ∧ K (!(g176 x14 x15 x16 x17 x18 x19)))) ∧ ((x0 != 3) = false → K false))))))) ∧ ((x0 != 2) = false → (((x0 != 3) = true → ((okSl e175 d175 (ofSl 8 e175 x17) ∧ okSl e137 d137 (ofSl 7 e137 x19)) ∧ K (!(g176 x14 x15 x16 x17 x18 x19)))) ∧ ((x0 != 3) = false → K false))))))))) ∧ ((x0 != 1) = false → (((x0 != 2) = true → (((x3 != 0) = true → K true) ∧ ((x3 != 0) = false → (((!((x4 == 0) && ((x5 == 0) && ((x6 == false) && ((x7 == 0) && ((x8 == 0) && ((x9 == 0) && (((x10 : ByteArray).toList == (⟨#[]⟩ : ByteArray).toList) && (((x11 : ByteArray).toList == (⟨#[]⟩ : ByteArray).toList) && (((x12 : ByteArray).toList == (⟨#[]⟩ : ByteArray).toList) && ((x13 == 0) && true))))))))))) = true → K true) ∧ ((!((x4 == 0) && ((x5 == 0) && ((x6 == false) && ((x7 == 0) && ((x8 == 0) && ((x9 == 0) && (((x10 : ByteArray).toList == (⟨#[]⟩ : ByteArray).toList) && (((x11 : ByteArray).toList == (⟨#[]⟩ : ByteArray).toList) && (((x12 : ByteArray).toList == (⟨#[]⟩ : ByteArray).toList) && ((x13 == 0) && true))))))))))) = false → (((x0 != 3) = true → ((okSl e175 d175 (ofSl 8 e175 x17) ∧ okSl e137 d137 (ofSl 7 e137 x19)) ∧ K (!(g176 x14 x15 x16 x17 x18 x19)))) ∧ ((x0 != 3) = false → K false))))))) ∧ ((x0 != 2) = false → (((x0 != 3) = true → ((okSl e175 d175 (ofSl 8 e175 x17) ∧ okSl e137 d137 (ofSl 7 e137 x19)) ∧ K (!(g176 x14 x15 x16 x17 x18 x19)))) ∧ ((x0 != 3) = false → K false))))))) (by kernel_rfl) ⟨fun h2 => ⟨fun h3 => (KM.mk (eqT h2 (eqT h3 rfl))), fun h3 => ⟨fun h4 => (KM.mk (eqT h2 (eqF h3 (eqT h4 rfl)))), fun h4 => ⟨fun h5 => ⟨fun h6 => (KM.mk (eqT h2 (eqF h3 (eqF h4 (eqT h5 (eqT h6 rfl)))))), fun h6 => ⟨fun h7 => (KM.mk (eqT h2 (eqF h3 (eqF h4 (eqT h5 (eqF h6 (eqT h7 rfl))))))), fun h7 => ⟨fun h8 => ⟨⟨(okOf ed175 8 x17), (okOf ed137 7 x19)⟩, (KM.mk (eqT h2 (eqF h3 (eqF h4 (eqT h5 (eqF h6 (eqF h7 (eqT h8 rfl))))))))⟩, fun h8 => (KM.mk (eqT h2 (eqF h3 (eqF h4 (eqT h5 (eqF h6 (eqF h7 (eqF h8 rfl))))))))⟩⟩⟩, fun h5 => ⟨fun h9 => ⟨⟨(okOf ed175 8 x17), (okOf ed137 7 x19)⟩, (KM.mk (eqT h2 (eqF h3 (eqF h4 (eqF h5 (eqT h9 rfl))))))⟩, fun h9 => (KM.mk (eqT h2 (eqF h3 (eqF h4 (eqF h5 (eqF h9 rfl))))))⟩⟩⟩⟩, fun h2 => ⟨fun h10 => ⟨fun h11 => (KM.mk (eqF h2 (eqT h10 (eqT h11 rfl)))), fun h11 => ⟨fun h12 => (KM.mk (eqF h2 (eqT h10 (eqF h11 (eqT h12 rfl))))), fun h12 => ⟨fun h13 => ⟨⟨(okOf ed175 8 x17), (okOf ed137 7 x19)⟩, (KM.mk (eqF h2 (eqT h10 (eqF h11 (eqF h12 (eqT h13 rfl))))))⟩, fun h13 => (KM.mk (eqF h2 (eqT h10 (eqF h11 (eqF h12 (eqF h13 rfl))))))⟩⟩⟩, fun h10 => ⟨fun h14 => ⟨⟨(okOf ed175 8 x17), (okOf ed137 7 x19)⟩, (KM.mk (eqF h2 (eqF h10 (eqT h14 rfl))))⟩, fun h14 => (KM.mk (eqF h2 (eqF h10 (eqF h14 rfl))))⟩⟩⟩ ?_
    refine WP.condR (g96_m1 x0 x1 x2 x3 x4 x5 x6 x7 x8 x9 x10 x11 x12 x13 x14 x15 x16 x17 x18 x19) rfl (fun h15 => ?_) (fun h15 => ?_)
    · skip
      refine WP.step0 g96_e_ok ⟨U :: .ptr 0 0 :: .int .i64 8 :: us 70 [], [[.int .i64 x0, .int .i64 x1, .int .i64 x2, .int .i64 x3, .int .i64 x4, .int .i64 x5, .bool x6, .int .i64 x7, .int .i64 x8, .int .i64 x9, .str x10, .str x11, .str x12, .int .i64 x13, .int .i64 x14, .int .i64 x15, .int .i64 x16, ofSl 8 e175 x17, .int .i64 x18, ofSl 7 e137 x19]]⟩ (by kernel_rfl) ?_
      exact WP.retP (True ∧ ((.int .i64 8 : AV) = .int .i64 (g96 x0 x1 x2 x3 x4 x5 x6 x7 x8 x9 x10 x11 x12 x13 x14 x15 x16 x17 x18 x19))) (by kernel_rfl) ⟨trivial, (congrArg (AV.int .i64) (eqF h1 (eqT h15 rfl)))⟩
    · skip
      refine WP.skip ?_
      refine WP.seq ?_
      refine WP.step0 g96_e_ok ⟨U :: .ptr 0 0 :: .int .i64 0 :: us 46 (.bool (x0 == 3) :: us 23 []), [[.int .i64 x0, .int .i64 x1, .int .i64 x2, .int .i64 x3, .int .i64 x4, .int .i64 x5, .bool x6, .int .i64 x7, .int .i64 x8, .int .i64 x9, .str x10, .str x11, .str x12, .int .i64 x13, .int .i64 x14, .int .i64 x15, .int .i64 x16, ofSl 8 e175 x17, .int .i64 x18, ofSl 7 e137 x19]]⟩ (by kernel_rfl) ?_
      refine WP.condR (x0 == 3) rfl (fun h16 => ?_) (fun h16 => ?_)
      · skip
        refine WP.stepE g96_e_ok ⟨U :: .ptr 0 0 :: .int .i64 (g89 x14 x15 x16 x17 x18 x19) :: us 70 [], [[.int .i64 x0, .int .i64 x1, .int .i64 x2, .int .i64 x3, .int .i64 x4, .int .i64 x5, .bool x6, .int .i64 x7, .int .i64 x8, .int .i64 x9, .str x10, .str x11, .str x12, .int .i64 x13, .int .i64 x14, .int .i64 x15, .int .i64 x16, ofSl 8 e175 x17, .int .i64 x18, ofSl 7 e137 x19]]⟩ (fun q => ((okSl e175 d175 (ofSl 8 e175 x17) ∧ okSl e137 d137 (ofSl 7 e137 x19)) ∧ q)) (by kernel_rfl) ⟨⟨(okOf ed175 8 x17), (okOf ed137 7 x19)⟩, rfl⟩ ?_
        exact WP.retP (True ∧ ((.int .i64 (g89 x14 x15 x16 x17 x18 x19) : AV) = .int .i64 (g96 x0 x1 x2 x3 x4 x5 x6 x7 x8 x9 x10 x11 x12 x13 x14 x15 x16 x17 x18 x19))) (by kernel_rfl) ⟨trivial, (congrArg (AV.int .i64) (eqF h1 (eqF h15 (eqT h16 rfl))))⟩
      · skip
        refine WP.skip ?_
        refine WP.seq ?_
        refine WP.step0 g96_e_ok ⟨U :: .ptr 0 0 :: .int .i64 0 :: us 52 (.bool (x0 == 1) :: us 17 []), [[.int .i64 x0, .int .i64 x1, .int .i64 x2, .int .i64 x3, .int .i64 x4, .int .i64 x5, .bool x6, .int .i64 x7, .int .i64 x8, .int .i64 x9, .str x10, .str x11, .str x12, .int .i64 x13, .int .i64 x14, .int .i64 x15, .int .i64 x16, ofSl 8 e175 x17, .int .i64 x18, ofSl 7 e137 x19]]⟩ (by kernel_rfl) ?_
        refine WP.condR (x0 == 1) rfl (fun h17 => ?_) (fun h17 => ?_)
        · skip
          refine WP.seq ?_
          refine WP.stepM g96_e_ok (fun a : Bool => ⟨U :: .ptr 0 0 :: .int .i64 0 :: us 62 (.bool a :: us 7 []), [[.int .i64 x0, .int .i64 x1, .int .i64 x2, .int .i64 x3, .int .i64 x4, .int .i64 x5, .bool x6, .int .i64 x7, .int .i64 x8, .int .i64 x9, .str x10, .str x11, .str x12, .int .i64 x13, .int .i64 x14, .int .i64 x15, .int .i64 x16, ofSl 8 e175 x17, .int .i64 x18, ofSl 7 e137 x19]]⟩) (g96_m2 x1 x2) (fun K => (((!(g120 x1)) = true → K true) ∧ ((!(g120 x1)) = false → K (!(g112 x2 (-1) 2))))) (by kernel_rfl) ⟨fun h18 => (KM.mk (eqT h18 rfl)), fun h18 => (KM.mk (eqF h18 rfl))⟩ ?_
          refine WP.condR (g96_m2 x1 x2) rfl (fun h19 => ?_) (fun h19 => ?_)
          · skip
            refine WP.step0 g96_e_ok ⟨U :: .ptr 0 0 :: .int .i64 2 :: us 70 [], [[.int .i64 x0, .int .i64 x1, .int .i64 x2, .int .i64 x3, .int .i64 x4, .int .i64 x5, .bool x6, .int .i64 x7, .int .i64 x8, .int .i64 x9, .str x10, .str x11, .str x12, .int .i64 x13, .int .i64 x14, .int .i64 x15, .int .i64 x16, ofSl 8 e175 x17, .int .i64 x18, ofSl 7 e137 x19]]⟩ (by kernel_rfl) ?_
            exact WP.retP (True ∧ ((.int .i64 2 : AV) = .int .i64 (g96 x0 x1 x2 x3 x4 x5 x6 x7 x8 x9 x10 x11 x12 x13 x14 x15 x16 x17 x18 x19))) (by kernel_rfl) ⟨trivial, (congrArg (AV.int .i64) (eqF h1 (eqF h15 (eqF h16 (eqT h17 (eqT h19 rfl))))))⟩
          · skip
            refine WP.skip ?_
            refine WP.step0 g96_e_ok ⟨U :: .ptr 0 0 :: .int .i64 0 :: us 70 [], [[.int .i64 x0, .int .i64 x1, .int .i64 x2, .int .i64 x3, .int .i64 x4, .int .i64 x5, .bool x6, .int .i64 x7, .int .i64 x8, .int .i64 x9, .str x10, .str x11, .str x12, .int .i64 x13, .int .i64 x14, .int .i64 x15, .int .i64 x16, ofSl 8 e175 x17, .int .i64 x18, ofSl 7 e137 x19]]⟩ (by kernel_rfl) ?_
            exact WP.retP (True ∧ ((.int .i64 0 : AV) = .int .i64 (g96 x0 x1 x2 x3 x4 x5 x6 x7 x8 x9 x10 x11 x12 x13 x14 x15 x16 x17 x18 x19))) (by kernel_rfl) ⟨trivial, (congrArg (AV.int .i64) (eqF h1 (eqF h15 (eqF h16 (eqT h17 (eqF h19 rfl))))))⟩
        · skip
          refine WP.skip ?_
          refine WP.seq ?_
          refine WP.step0 g96_e_ok ⟨U :: .ptr 0 0 :: .int .i64 0 :: us 66 ([.bool (!(g120 x3)), U, U, U]), [[.int .i64 x0, .int .i64 x1, .int .i64 x2, .int .i64 x3, .int .i64 x4, .int .i64 x5, .bool x6, .int .i64 x7, .int .i64 x8, .int .i64 x9, .str x10, .str x11, .str x12, .int .i64 x13, .int .i64 x14, .int .i64 x15, .int .i64 x16, ofSl 8 e175 x17, .int .i64 x18, ofSl 7 e137 x19]]⟩ (by kernel_rfl) ?_
          refine WP.condR (!(g120 x3)) rfl (fun h20 => ?_) (fun h20 => ?_)
          · skip
            refine WP.step0 g96_e_ok ⟨U :: .ptr 0 0 :: .int .i64 2 :: us 70 [], [[.int .i64 x0, .int .i64 x1, .int .i64 x2, .int .i64 x3, .int .i64 x4, .int .i64 x5, .bool x6, .int .i64 x7, .int .i64 x8, .int .i64 x9, .str x10, .str x11, .str x12, .int .i64 x13, .int .i64 x14, .int .i64 x15, .int .i64 x16, ofSl 8 e175 x17, .int .i64 x18, ofSl 7 e137 x19]]⟩ (by kernel_rfl) ?_
            exact WP.retP (True ∧ ((.int .i64 2 : AV) = .int .i64 (g96 x0 x1 x2 x3 x4 x5 x6 x7 x8 x9 x10 x11 x12 x13 x14 x15 x16 x17 x18 x19))) (by kernel_rfl) ⟨trivial, (congrArg (AV.int .i64) (eqF h1 (eqF h15 (eqF h16 (eqF h17 (eqT h20 rfl))))))⟩
          · skip
            refine WP.skip ?_
            refine WP.step0 g96_e_ok ⟨U :: U :: .int .i64 (g52 x4 x5 x6 x7 x8 x9 x10 x11 x12 x13) :: us 70 [], []⟩ (by kernel_rfl) ?_
            exact WP.retP (True ∧ ((.int .i64 (g52 x4 x5 x6 x7 x8 x9 x10 x11 x12 x13) : AV) = .int .i64 (g96 x0 x1 x2 x3 x4 x5 x6 x7 x8 x9 x10 x11 x12 x13 x14 x15 x16 x17 x18 x19))) (by kernel_rfl) ⟨trivial, (congrArg (AV.int .i64) (eqF h1 (eqF h15 (eqF h16 (eqF h17 (eqF h20 rfl))))))⟩
noncomputable def s96 : Ans := fun xs => match xs with
  | [.agg [.int .i64 x0, .int .i64 x1, .int .i64 x2, .int .i64 x3, .int .i64 x4, .int .i64 x5, .bool x6, .int .i64 x7, .int .i64 x8, .int .i64 x9, .str x10, .str x11, .str x12, .int .i64 x13, .int .i64 x14, .int .i64 x15, .int .i64 x16, y17, .int .i64 x18, y19]] => bif isSl 8 y17 then bif isSl 7 y19 then some (some (okSl e175 d175 y17 ∧ okSl e137 d137 y19), .int .i64 (g96 x0 x1 x2 x3 x4 x5 x6 x7 x8 x9 x10 x11 x12 x13 x14 x15 x16 (toSl d175 y17) x18 (toSl d137 y19))) else none else none
  | _ => none
theorem k96 : SOk Try.prog 96 s96 := ⟨⟨_, _, Try.func96, rfl, by kernel_rfl⟩, fun args pre r h hp => by
  unfold s96 at h
  split at h
  · obtain ⟨b0, h⟩ := cond_some h
    obtain ⟨b1, h⟩ := cond_some h
    cases h
    exact (pc96 _ _ _ _ _ _ _ _ _ _ _ _ _ _ _ _ _ _ _ _).weak (l1 (aG (l1 cI (l1 cI (l1 cI (l1 cI (l1 cI (l1 cI (l1 cB (l1 cI (l1 cI (l1 cI (l1 cS (l1 cS (l1 cS (l1 cI (l1 cI (l1 cI (l1 cI (l1 (slLe b0 hp.1.1) (l1 cI (l1 (slLe b1 hp.1.2) l0))))))))))))))))))))) l0)
  · cases h⟩
noncomputable def g28 (x0 : Int) (x1 : Int) (x2 : Int) (x3 : Int) (x4 : Int) (x5 : Int) (x6 : Bool) (x7 : Int) (x8 : Int) (x9 : Int) (x10 : ByteArray) (x11 : ByteArray) (x12 : ByteArray) (x13 : Int) (x14 : Int) (x15 : Int) (x16 : Int) (x17 : Sl T175) (x18 : Int) (x19 : Sl T137) : Bool := ((g94 (g95_0 x0) (g95_1 x1) (g95_2 x2) (g95_3 x3) (g95_4 x4) (g95_5 x5) (g95_6 x6) (g95_7 x7) (g95_8 x8) (g95_9 x9) (g95_10 x10) (g95_11 x11) (g95_12 x12) (g95_13 x13) (g95_14 x14) (g95_15 x15) (g95_16 x16) (g95_17 x17) (g95_18 x18) (g95_19 x19)) == (g96 x0 x1 x2 x3 x4 x5 x6 x7 x8 x9 x10 x11 x12 x13 x14 x15 x16 x17 x18 x19))
noncomputable abbrev g28_e : Env := mkE [(94, s94), (95, s95), (96, s96)]
theorem g28_e_ok : g28_e.Ok := mkE_ok ⟨k94, k95, k96, trivial⟩
theorem pc28 (x0 : Int) (x1 : Int) (x2 : Int) (x3 : Int) (x4 : Int) (x5 : Int) (x6 : Bool) (x7 : Int) (x8 : Int) (x9 : Int) (x10 : ByteArray) (x11 : ByteArray) (x12 : ByteArray) (x13 : Int) (x14 : Int) (x15 : Int) (x16 : Int) (x17 : Sl T175) (x18 : Int) (x19 : Sl T137) : PureCall Try.prog 28 [.agg [.int .i64 x0, .int .i64 x1, .int .i64 x2, .int .i64 x3, .int .i64 x4, .int .i64 x5, .bool x6, .int .i64 x7, .int .i64 x8, .int .i64 x9, .str x10, .str x11, .str x12, .int .i64 x13, .int .i64 x14, .int .i64 x15, .int .i64 x16, ofSl 8 e175 x17, .int .i64 x18, ofSl 7 e137 x19]] (.bool (g28 x0 x1 x2 x3 x4 x5 x6 x7 x8 x9 x10 x11 x12 x13 x14 x15 x16 x17 x18 x19)) := by
  refine PureCall.fine fun hf => ?_
  have hf_x17 : Fine (ofSl 8 e175 x17) := hf.1.2.2.2.2.2.2.2.2.2.2.2.2.2.2.2.2.2.1
  have hn_x17 : x17.n ≤ 549755813888 := hf_x17.len
  have hf_x19 : Fine (ofSl 7 e137 x19) := hf.1.2.2.2.2.2.2.2.2.2.2.2.2.2.2.2.2.2.2.2.1
  have hn_x19 : x19.n ≤ 549755813888 := hf_x19.len
  refine pure_of_WP (E := g28_e) g28_e_ok Try.func28 rfl _ _ ?_
  refine WP.step0 g28_e_ok ⟨U :: .ptr 0 0 :: .bool false :: us 10 [], [[.int .i64 x0, .int .i64 x1, .int .i64 x2, .int .i64 x3, .int .i64 x4, .int .i64 x5, .bool x6, .int .i64 x7, .int .i64 x8, .int .i64 x9, .str x10, .str x11, .str x12, .int .i64 x13, .int .i64 x14, .int .i64 x15, .int .i64 x16, ofSl 8 e175 x17, .int .i64 x18, ofSl 7 e137 x19]]⟩ (by kernel_rfl) ?_
  refine WP.stepE g28_e_ok ⟨U :: .ptr 0 0 :: .bool false :: .int .i64 (g94 (g95_0 x0) (g95_1 x1) (g95_2 x2) (g95_3 x3) (g95_4 x4) (g95_5 x5) (g95_6 x6) (g95_7 x7) (g95_8 x8) (g95_9 x9) (g95_10 x10) (g95_11 x11) (g95_12 x12) (g95_13 x13) (g95_14 x14) (g95_15 x15) (g95_16 x16) (g95_17 x17) (g95_18 x18) (g95_19 x19)) :: us 9 [], [[.int .i64 x0, .int .i64 x1, .int .i64 x2, .int .i64 x3, .int .i64 x4, .int .i64 x5, .bool x6, .int .i64 x7, .int .i64 x8, .int .i64 x9, .str x10, .str x11, .str x12, .int .i64 x13, .int .i64 x14, .int .i64 x15, .int .i64 x16, ofSl 8 e175 x17, .int .i64 x18, ofSl 7 e137 x19]]⟩ (fun q => ((okSl e175 d175 (ofSl 8 e175 x17) ∧ okSl e137 d137 (ofSl 7 e137 x19)) ∧ ((okSl e175 d175 (ofSl 8 e175 (g95_17 x17)) ∧ okSl e137 d137 (ofSl 7 e137 (g95_19 x19))) ∧ q))) (by kernel_rfl) ⟨⟨(okOf ed175 8 x17), (okOf ed137 7 x19)⟩, ⟨⟨(okOf ed175 8 (g95_17 x17)), (okOf ed137 7 (g95_19 x19))⟩, rfl⟩⟩ ?_
  refine WP.stepE g28_e_ok ⟨U :: U :: .bool false :: .int .i64 (g94 (g95_0 x0) (g95_1 x1) (g95_2 x2) (g95_3 x3) (g95_4 x4) (g95_5 x5) (g95_6 x6) (g95_7 x7) (g95_8 x8) (g95_9 x9) (g95_10 x10) (g95_11 x11) (g95_12 x12) (g95_13 x13) (g95_14 x14) (g95_15 x15) (g95_16 x16) (g95_17 x17) (g95_18 x18) (g95_19 x19)) :: .int .i64 (g96 x0 x1 x2 x3 x4 x5 x6 x7 x8 x9 x10 x11 x12 x13 x14 x15 x16 x17 x18 x19) :: us 8 [], []⟩ (fun q => ((okSl e175 d175 (ofSl 8 e175 x17) ∧ okSl e137 d137 (ofSl 7 e137 x19)) ∧ q)) (by kernel_rfl) ⟨⟨(okOf ed175 8 x17), (okOf ed137 7 x19)⟩, rfl⟩ ?_
  refine WP.step0 g28_e_ok ⟨U :: U :: .bool ((g94 (g95_0 x0) (g95_1 x1) (g95_2 x2) (g95_3 x3) (g95_4 x4) (g95_5 x5) (g95_6 x6) (g95_7 x7) (g95_8 x8) (g95_9 x9) (g95_10 x10) (g95_11 x11) (g95_12 x12) (g95_13 x13) (g95_14 x14) (g95_15 x15) (g95_16 x16) (g95_17 x17) (g95_18 x18) (g95_19 x19)) == (g96 x0 x1 x2 x3 x4 x5 x6 x7 x8 x9 x10 x11 x12 x13 x14 x15 x16 x17 x18 x19)) :: us 10 [], []⟩ (by kernel_rfl) ?_
  exact WP.retP (True ∧ ((.bool ((g94 (g95_0 x0) (g95_1 x1) (g95_2 x2) (g95_3 x3) (g95_4 x4) (g95_5 x5) (g95_6 x6) (g95_7 x7) (g95_8 x8) (g95_9 x9) (g95_10 x10) (g95_11 x11) (g95_12 x12) (g95_13 x13) (g95_14 x14) (g95_15 x15) (g95_16 x16) (g95_17 x17) (g95_18 x18) (g95_19 x19)) == (g96 x0 x1 x2 x3 x4 x5 x6 x7 x8 x9 x10 x11 x12 x13 x14 x15 x16 x17 x18 x19)) : AV) = .bool (g28 x0 x1 x2 x3 x4 x5 x6 x7 x8 x9 x10 x11 x12 x13 x14 x15 x16 x17 x18 x19))) (by kernel_rfl) ⟨trivial, rfl⟩
noncomputable def s28 : Ans := fun xs => match xs with
  | [.agg [.int .i64 x0, .int .i64 x1, .int .i64 x2, .int .i64 x3, .int .i64 x4, .int .i64 x5, .bool x6, .int .i64 x7, .int .i64 x8, .int .i64 x9, .str x10, .str x11, .str x12, .int .i64 x13, .int .i64 x14, .int .i64 x15, .int .i64 x16, y17, .int .i64 x18, y19]] => bif isSl 8 y17 then bif isSl 7 y19 then some (some (okSl e175 d175 y17 ∧ okSl e137 d137 y19), .bool (g28 x0 x1 x2 x3 x4 x5 x6 x7 x8 x9 x10 x11 x12 x13 x14 x15 x16 (toSl d175 y17) x18 (toSl d137 y19))) else none else none
  | _ => none
theorem k28 : SOk Try.prog 28 s28 := ⟨⟨_, _, Try.func28, rfl, by kernel_rfl⟩, fun args pre r h hp => by
  unfold s28 at h
  split at h
  · obtain ⟨b0, h⟩ := cond_some h
    obtain ⟨b1, h⟩ := cond_some h
    cases h
    exact (pc28 _ _ _ _ _ _ _ _ _ _ _ _ _ _ _ _ _ _ _ _).weak (l1 (aG (l1 cI (l1 cI (l1 cI (l1 cI (l1 cI (l1 cI (l1 cB (l1 cI (l1 cI (l1 cI (l1 cS (l1 cS (l1 cS (l1 cI (l1 cI (l1 cI (l1 cI (l1 (slLe b0 hp.1.1) (l1 cI (l1 (slLe b1 hp.1.2) l0))))))))))))))))))))) l0)
  · cases h⟩
end Go.Proofs.Ytchhfojblmceiaa
