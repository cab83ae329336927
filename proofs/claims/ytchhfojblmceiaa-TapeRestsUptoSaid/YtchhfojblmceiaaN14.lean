/-
  Walks: what functions of the program answer, as functions.
-/
import Derived.Test.YtchhfojblmceiaaCl
import Derived.Test.YtchhfojblmceiaaU0
import Derived.Test.YtchhfojblmceiaaU1
import Derived.Test.YtchhfojblmceiaaUr
import Derived.Test.YtchhfojblmceiaaU2
import Derived.Test.YtchhfojblmceiaaL1
namespace Go.Proofs.Ytchhfojblmceiaa
open Go Go.Vc Go.RowKit
set_option maxRecDepth 100000
set_option maxHeartbeats 4000000
noncomputable def g14_m1 (x0 : Int) (x1 : Int) (x2 : Sl T68) : Bool := (bif ((g58_0 (g54_0 x0) (g54_1 x1) (g54_2 x2)) == (g59_0 x0 x1 x2)) then (bif ((g58_1 (g54_0 x0) (g54_1 x1) (g54_2 x2)) == (g59_1 x0 x1 x2)) then ((g58_2 (g54_0 x0) (g54_1 x1) (g54_2 x2)) == (g59_2 x0 x1 x2)) else false) else false)
noncomputable def g14 (x0 : Int) (x1 : Int) (x2 : Sl T68) : Bool := (g14_m1 x0 x1 x2)
noncomputable abbrev g14_e : Env := mkE [(54, s54), (58, s58), (59, s59)]
theorem g14_e_ok : g14_e.Ok := mkE_ok ⟨k54, k58, k59, trivial⟩
theorem pc14 (x0 : Int) (x1 : Int) (x2 : Sl T68) : PureCall Try.prog 14 [.agg [.int .i64 x0, .int .i64 x1, ofSl 10 e68 x2]] (.bool (g14 x0 x1 x2)) := by
  refine PureCall.fine fun hf => ?_
  have hf_x2 : Fine (ofSl 10 e68 x2) := hf.1.2.2.1
  have hn_x2 : x2.n ≤ 549755813888 := hf_x2.len
  refine pure_of_WP (E := g14_e) g14_e_ok Try.func14 rfl _ _ ?_
  refine WP.step0 g14_e_ok ⟨U :: .ptr 0 0 :: .bool false :: us 32 [], [[.int .i64 x0, .int .i64 x1, ofSl 10 e68 x2]]⟩ (by kernel_rfl) ?_
  refine WP.stepE g14_e_ok ⟨U :: .ptr 0 0 :: .bool false :: .int .i64 (g58_0 (g54_0 x0) (g54_1 x1) (g54_2 x2)) :: .int .i64 (g58_1 (g54_0 x0) (g54_1 x1) (g54_2 x2)) :: .int .i64 (g58_2 (g54_0 x0) (g54_1 x1) (g54_2 x2)) :: us 29 [], [[.int .i64 x0, .int .i64 x1, ofSl 10 e68 x2]]⟩ (fun q => (okSl e68 d68 (ofSl 10 e68 x2) ∧ (okSl e68 d68 (ofSl 10 e68 (g54_2 x2)) ∧ q))) (by kernel_rfl) ⟨(okOf ed68 10 x2), ⟨(okOf ed68 10 (g54_2 x2)), rfl⟩⟩ ?_
  refine WP.stepE g14_e_ok ⟨U :: U :: .bool false :: .int .i64 (g58_0 (g54_0 x0) (g54_1 x1) (g54_2 x2)) :: .int .i64 (g58_1 (g54_0 x0) (g54_1 x1) (g54_2 x2)) :: .int .i64 (g58_2 (g54_0 x0) (g54_1 x1) (g54_2 x2)) :: .int .i64 (g59_0 x0 x1 x2) :: .int .i64 (g59_1 x0 x1 x2) :: .int .i64 (g59_2 x0 x1 x2) :: us 26 [], []⟩ (fun q => (okSl e68 d68 (ofSl 10 e68 x2) ∧ q)) (by kernel_rfl) ⟨(okOf ed68 10 x2), rfl⟩ ?_
  refine WP.stepM g14_e_ok (fun a : Bool => ⟨U :: U :: .bool a :: us 32 [], []⟩) (g14_m1 x0 x1 x2) (fun K => ((((g58_0 (g54_0 x0) (g54_1 x1) (g54_2 x2)) == (g59_0 x0 x1 x2)) = true → ((((g58_1 (g54_0 x0) (g54_1 x1) (g54_2 x2)) == (g59_1 x0 x1 x2)) = true → K ((g58_2 (g54_0 x0) (g54_1 x1) (g54_2 x2)) == (g59_2 x0 x1 x2))) ∧ (((g58_1 (g54_0 x0) (g54_1 x1) (g54_2 x2)) == (g59_1 x0 x1 x2)) = false → K false))) ∧ (((g58_0 (g54_0 x0) (g54_1 x1) (g54_2 x2)) == (g59_0 x0 x1 x2)) = false → K false))) (by kernel_rfl) ⟨fun h1 => ⟨fun h2 => (KM.mk (eqT h1 (eqT h2 rfl))), fun h2 => (KM.mk (eqT h1 (eqF h2 rfl)))⟩, fun h1 => (KM.mk (eqF h1 rfl))⟩ ?_
  exact WP.retP (True ∧ ((.bool (g14_m1 x0 x1 x2) : AV) = .bool (g14 x0 x1 x2))) (by kernel_rfl) ⟨trivial, rfl⟩
noncomputable def s14 : Ans := fun xs => match xs with
  | [.agg [.int .i64 x0, .int .i64 x1, y2]] => bif isSl 10 y2 then some (some (okSl e68 d68 y2), .bool (g14 x0 x1 (toSl d68 y2))) else none
  | _ => none
theorem k14 : SOk Try.prog 14 s14 := ⟨⟨_, _, Try.func14, rfl, by kernel_rfl⟩, fun args pre r h hp => by
  unfold s14 at h
  split at h
  · obtain ⟨b0, h⟩ := cond_some h
    cases h
    exact (pc14 _ _ _).weak (l1 (aG (l1 cI (l1 cI (l1 (slLe b0 hp.1) l0)))) l0)
  · cases h⟩
noncomputable def g15_m1 (x0 : Int) (x1 : Int) (x2 : Sl T68) (x3 : Int) (x4 : Int) : Bool := (bif ((g60_0 (g54_0 x0) (g54_1 x1) (g54_2 x2) x3 x4) == (g61_0 x0 x1 x2 x3 x4)) then ((g60_1 (g54_0 x0) (g54_1 x1) (g54_2 x2)) == (g61_1 x0 x1 x2)) else false)
noncomputable def g15 (x0 : Int) (x1 : Int) (x2 : Sl T68) (x3 : Int) (x4 : Int) : Bool := (g15_m1 x0 x1 x2 x3 x4)
noncomputable abbrev g15_e : Env := mkE [(54, s54), (60, s60), (61, s61)]
theorem g15_e_ok : g15_e.Ok := mkE_ok ⟨k54, k60, k61, trivial⟩
theorem pc15 (x0 : Int) (x1 : Int) (x2 : Sl T68) (x3 : Int) (x4 : Int) : PureCall Try.prog 15 [.agg [.int .i64 x0, .int .i64 x1, ofSl 10 e68 x2], .int .i64 x3, .int .i64 x4] (.bool (g15 x0 x1 x2 x3 x4)) := by
  refine PureCall.fine fun hf => ?_
  have hf_x2 : Fine (ofSl 10 e68 x2) := hf.1.2.2.1
  have hn_x2 : x2.n ≤ 549755813888 := hf_x2.len
  refine pure_of_WP (E := g15_e) g15_e_ok Try.func15 rfl _ _ ?_
  refine WP.step0 g15_e_ok ⟨U :: .int .i64 x3 :: .int .i64 x4 :: .ptr 0 0 :: U :: U :: .bool false :: us 27 [], [[.int .i64 x0, .int .i64 x1, ofSl 10 e68 x2]]⟩ (by kernel_rfl) ?_
  refine WP.stepE g15_e_ok ⟨U :: .int .i64 x3 :: .int .i64 x4 :: .ptr 0 0 :: U :: U :: .bool false :: .bool (g60_0 (g54_0 x0) (g54_1 x1) (g54_2 x2) x3 x4) :: .int .i64 (g60_1 (g54_0 x0) (g54_1 x1) (g54_2 x2)) :: us 25 [], [[.int .i64 x0, .int .i64 x1, ofSl 10 e68 x2]]⟩ (fun q => (okSl e68 d68 (ofSl 10 e68 x2) ∧ (okSl e68 d68 (ofSl 10 e68 (g54_2 x2)) ∧ q))) (by kernel_rfl) ⟨(okOf ed68 10 x2), ⟨(okOf ed68 10 (g54_2 x2)), rfl⟩⟩ ?_
  refine WP.stepE g15_e_ok ⟨us 6 (.bool false :: .bool (g60_0 (g54_0 x0) (g54_1 x1) (g54_2 x2) x3 x4) :: .int .i64 (g60_1 (g54_0 x0) (g54_1 x1) (g54_2 x2)) :: .bool (g61_0 x0 x1 x2 x3 x4) :: .int .i64 (g61_1 x0 x1 x2) :: us 23 []), []⟩ (fun q => (okSl e68 d68 (ofSl 10 e68 x2) ∧ q)) (by kernel_rfl) ⟨(okOf ed68 10 x2), rfl⟩ ?_
  refine WP.stepM g15_e_ok (fun a : Bool => ⟨us 6 (.bool a :: us 27 []), []⟩) (g15_m1 x0 x1 x2 x3 x4) (fun K => ((((g60_0 (g54_0 x0) (g54_1 x1) (g54_2 x2) x3 x4) == (g61_0 x0 x1 x2 x3 x4)) = true → K ((g60_1 (g54_0 x0) (g54_1 x1) (g54_2 x2)) == (g61_1 x0 x1 x2))) ∧ (((g60_0 (g54_0 x0) (g54_1 x1) (g54_2 x2) x3 x4) == (g61_0 x0 x1 x2 x3 x4)) = false → K false))) (by kernel_rfl) ⟨fun h1 => (KM.mk (eqT h1 rfl)), fun h1 => (KM.mk (eqF h1 rfl))⟩ ?_
  exact WP.retP (True ∧ ((.bool (g15_m1 x0 x1 x2 x3 x4) : AV) = .bool (g15 x0 x1 x2 x3 x4))) (by kernel_rfl) ⟨trivial, rfl⟩
noncomputable def s15 : Ans := fun xs => match xs with
  | [.agg [.int .i64 x0, .int .i64 x1, y2], .int .i64 x3, .int .i64 x4] => bif isSl 10 y2 then some (some (okSl e68 d68 y2), .bool (g15 x0 x1 (toSl d68 y2) x3 x4)) else none
  | _ => none
theorem k15 : SOk Try.prog 15 s15 := ⟨⟨_, _, Try.func15, rfl, by kernel_rfl⟩, fun args pre r h hp => by
  unfold s15 at h
  split at h
  · obtain ⟨b0, h⟩ := cond_some h
    cases h
    exact (pc15 _ _ _ _ _).weak (l1 (aG (l1 cI (l1 cI (l1 (slLe b0 hp.1) l0)))) (l1 aI (l1 aI l0)))
  · cases h⟩
noncomputable def g16_m1 (x0 : Int) (x1 : Int) (x2 : Sl T68) (x3 : Int) : Bool := (bif ((g62_0 (g54_0 x0) (g54_1 x1) (g54_2 x2) x3) == (g63_0 x0 x1 x2 x3)) then ((g62_1 (g54_0 x0) (g54_1 x1) (g54_2 x2) x3) == (g63_1 x0 x1 x2 x3)) else false)
noncomputable def g16 (x0 : Int) (x1 : Int) (x2 : Sl T68) (x3 : Int) : Bool := (g16_m1 x0 x1 x2 x3)
noncomputable abbrev g16_e : Env := mkE [(54, s54), (62, s62), (63, s63)]
theorem g16_e_ok : g16_e.Ok := mkE_ok ⟨k54, k62, k63, trivial⟩
theorem pc16 (x0 : Int) (x1 : Int) (x2 : Sl T68) (x3 : Int) : PureCall Try.prog 16 [.agg [.int .i64 x0, .int .i64 x1, ofSl 10 e68 x2], .int .i64 x3] (.bool (g16 x0 x1 x2 x3)) := by
  refine PureCall.fine fun hf => ?_
  have hf_x2 : Fine (ofSl 10 e68 x2) := hf.1.2.2.1
  have hn_x2 : x2.n ≤ 549755813888 := hf_x2.len
  refine pure_of_WP (E := g16_e) g16_e_ok Try.func16 rfl _ _ ?_
  refine WP.step0 g16_e_ok ⟨U :: .int .i64 x3 :: .ptr 0 0 :: U :: .bool false :: us 25 [], [[.int .i64 x0, .int .i64 x1, ofSl 10 e68 x2]]⟩ (by kernel_rfl) ?_
  refine WP.stepE g16_e_ok ⟨U :: .int .i64 x3 :: .ptr 0 0 :: U :: .bool false :: .int .i64 (g62_0 (g54_0 x0) (g54_1 x1) (g54_2 x2) x3) :: .int .i64 (g62_1 (g54_0 x0) (g54_1 x1) (g54_2 x2) x3) :: us 23 [], [[.int .i64 x0, .int .i64 x1, ofSl 10 e68 x2]]⟩ (fun q => (okSl e68 d68 (ofSl 10 e68 x2) ∧ (okSl e68 d68 (ofSl 10 e68 (g54_2 x2)) ∧ q))) (by kernel_rfl) ⟨(okOf ed68 10 x2), ⟨(okOf ed68 10 (g54_2 x2)), rfl⟩⟩ ?_
  refine WP.stepE g16_e_ok ⟨us 4 (.bool false :: .int .i64 (g62_0 (g54_0 x0) (g54_1 x1) (g54_2 x2) x3) :: .int .i64 (g62_1 (g54_0 x0) (g54_1 x1) (g54_2 x2) x3) :: .int .i64 (g63_0 x0 x1 x2 x3) :: .int .i64 (g63_1 x0 x1 x2 x3) :: us 21 []), []⟩ (fun q => (okSl e68 d68 (ofSl 10 e68 x2) ∧ q)) (by kernel_rfl) ⟨(okOf ed68 10 x2), rfl⟩ ?_
  refine WP.stepM g16_e_ok (fun a : Bool => ⟨us 4 (.bool a :: us 25 []), []⟩) (g16_m1 x0 x1 x2 x3) (fun K => ((((g62_0 (g54_0 x0) (g54_1 x1) (g54_2 x2) x3) == (g63_0 x0 x1 x2 x3)) = true → K ((g62_1 (g54_0 x0) (g54_1 x1) (g54_2 x2) x3) == (g63_1 x0 x1 x2 x3))) ∧ (((g62_0 (g54_0 x0) (g54_1 x1) (g54_2 x2) x3) == (g63_0 x0 x1 x2 x3)) = false → K false))) (by kernel_rfl) ⟨fun h1 => (KM.mk (eqT h1 rfl)), fun h1 => (KM.mk (eqF h1 rfl))⟩ ?_
  exact WP.retP (True ∧ ((.bool (g16_m1 x0 x1 x2 x3) : AV) = .bool (g16 x0 x1 x2 x3))) (by kernel_rfl) ⟨trivial, rfl⟩
noncomputable def s16 : Ans := fun xs => match xs with
  | [.agg [.int .i64 x0, .int .i64 x1, y2], .int .i64 x3] => bif isSl 10 y2 then some (some (okSl e68 d68 y2), .bool (g16 x0 x1 (toSl d68 y2) x3)) else none
  | _ => none
theorem k16 : SOk Try.prog 16 s16 := ⟨⟨_, _, Try.func16, rfl, by kernel_rfl⟩, fun args pre r h hp => by
  unfold s16 at h
  split at h
  · obtain ⟨b0, h⟩ := cond_some h
    cases h
    exact (pc16 _ _ _ _).weak (l1 (aG (l1 cI (l1 cI (l1 (slLe b0 hp.1) l0)))) (l1 aI l0))
  · cases h⟩
end Go.Proofs.Ytchhfojblmceiaa
