/-
  WALKS of the road of rostrumlaw.ClientNews and rostrumlaw.TapeNews: what each function answers where all slices are nil.
-/
import Derived.Test.YtchhfojblmceiaaTab
namespace Go.Proofs.Ytchhfojblmceiaa
open Go Go.Vc Go.RowKit
set_option maxRecDepth 100000
set_option maxHeartbeats 4000000
noncomputable def g32_0 : Int := 0
noncomputable def g32_2 : Int := 1
noncomputable abbrev g32_e : Env := mkE []
theorem g32_e_ok : g32_e.Ok := mkE_ok trivial
theorem pc32  : PureCall Try.prog 32 [] (.agg [.int .i64 g32_0, .nils, .int .i64 g32_2, .nils]) := by
  refine pure_of_WP (E := g32_e) g32_e_ok Try.func32 rfl _ _ ?_
  refine WP.step g32_e_ok ⟨[.ptr 0 0, U], [[.int .i64 0, .nils, .int .i64 0, .nils]]⟩ ((((.ptr 0 0 : AV) = .ptr 0 0) ∧ True) ∧ ((((0 : Int) = 0) ∧ ((.nils : AV) = .nils) ∧ ((0 : Int) = 0) ∧ ((.nils : AV) = .nils) ∧ True) ∧ True) ∧ true = true) (by kernel_rfl) ⟨⟨rfl, trivial⟩, ⟨⟨rfl, rfl, rfl, rfl, trivial⟩, trivial⟩, rfl⟩ ?_
  refine WP.step g32_e_ok ⟨[.ptr 0 0, U], [[.int .i64 0, .nils, .int .i64 1, .nils]]⟩ ((((.ptr 0 0 : AV) = .ptr 0 0) ∧ True) ∧ ((((0 : Int) = 0) ∧ ((.nils : AV) = .nils) ∧ ((1 : Int) = 1) ∧ ((.nils : AV) = .nils) ∧ True) ∧ True) ∧ true = true) (by kernel_rfl) ⟨⟨rfl, trivial⟩, ⟨⟨rfl, rfl, rfl, rfl, trivial⟩, trivial⟩, rfl⟩ ?_
  exact WP.retP (True ∧ (((.int .i64 0 : AV) = .int .i64 g32_0) ∧ ((.nils : AV) = .nils) ∧ ((.int .i64 1 : AV) = .int .i64 g32_2) ∧ ((.nils : AV) = .nils) ∧ True)) (by kernel_rfl) ⟨trivial, ⟨rfl, rfl, rfl, rfl, trivial⟩⟩
noncomputable def s32 : Ans := fun xs => match xs with
  | [] => some (none, .agg [.int .i64 g32_0, .nils, .int .i64 g32_2, .nils])
  | _ => none
theorem k32 : SOk Try.prog 32 s32 := ⟨⟨_, _, Try.func32, rfl, by kernel_rfl⟩, fun args pre r h _ => by
  unfold s32 at h; split at h <;> cases h; exact pc32⟩
noncomputable def g33_0 : Int := 0
noncomputable def g33_2 : Int := 1
noncomputable abbrev g33_e : Env := mkE []
theorem g33_e_ok : g33_e.Ok := mkE_ok trivial
theorem pc33  : PureCall Try.prog 33 [] (.agg [.int .i64 g33_0, .nils, .int .i64 g33_2, .nils]) := by
  refine pure_of_WP (E := g33_e) g33_e_ok Try.func33 rfl _ _ ?_
  refine WP.step g33_e_ok ⟨[.ptr 0 0, U], [[.int .i64 0, .nils, .int .i64 0, .nils]]⟩ ((((.ptr 0 0 : AV) = .ptr 0 0) ∧ True) ∧ ((((0 : Int) = 0) ∧ ((.nils : AV) = .nils) ∧ ((0 : Int) = 0) ∧ ((.nils : AV) = .nils) ∧ True) ∧ True) ∧ true = true) (by kernel_rfl) ⟨⟨rfl, trivial⟩, ⟨⟨rfl, rfl, rfl, rfl, trivial⟩, trivial⟩, rfl⟩ ?_
  refine WP.step g33_e_ok ⟨[.ptr 0 0, U], [[.int .i64 0, .nils, .int .i64 1, .nils]]⟩ ((((.ptr 0 0 : AV) = .ptr 0 0) ∧ True) ∧ ((((0 : Int) = 0) ∧ ((.nils : AV) = .nils) ∧ ((1 : Int) = 1) ∧ ((.nils : AV) = .nils) ∧ True) ∧ True) ∧ true = true) (by kernel_rfl) ⟨⟨rfl, trivial⟩, ⟨⟨rfl, rfl, rfl, rfl, trivial⟩, trivial⟩, rfl⟩ ?_
  exact WP.retP (True ∧ (((.int .i64 0 : AV) = .int .i64 g33_0) ∧ ((.nils : AV) = .nils) ∧ ((.int .i64 1 : AV) = .int .i64 g33_2) ∧ ((.nils : AV) = .nils) ∧ True)) (by kernel_rfl) ⟨trivial, ⟨rfl, rfl, rfl, rfl, trivial⟩⟩
noncomputable def s33 : Ans := fun xs => match xs with
  | [] => some (none, .agg [.int .i64 g33_0, .nils, .int .i64 g33_2, .nils])
  | _ => none
theorem k33 : SOk Try.prog 33 s33 := ⟨⟨_, _, Try.func33, rfl, by kernel_rfl⟩, fun args pre r h _ => by
  unfold s33 at h; split at h <;> cases h; exact pc33⟩
noncomputable def g105_m1 (x0 : Int) (x1 : Int) : Bool := (bif (x0 != x1) then true else false)
noncomputable def g105 (x0 : Int) (x1 : Int) : Bool := (bif (g105_m1 x0 x1) then false else true)
noncomputable abbrev g105_e : Env := mkE []
theorem g105_e_ok : g105_e.Ok := mkE_ok trivial
theorem pc105 (x0 : Int) (x1 : Int) : PureCall Try.prog 105 [.agg [.int .i64 x0, .nils], .agg [.int .i64 x1, .nils]] (.bool (g105 x0 x1)) := by
  refine pure_of_WP (E := g105_e) g105_e_ok Try.func105 rfl _ _ ?_
  refine WP.step g105_e_ok ⟨[U, U, .ptr 0 0, .ptr 1 0, .bool false, U, U, U, U, U, U, U, U, U, U, U, U, U, U, U, U, U, U, U, U, U, U, U, U, U, U, U, U, U, U, U, U, U, U, U, U, U, U, U, U, U, U, U, U, U, U, U, U, U, U, U, U, U, U], [[.int .i64 x0, .nils], [.int .i64 x1, .nils]]⟩ ((((.ptr 0 0 : AV) = .ptr 0 0) ∧ ((.ptr 1 0 : AV) = .ptr 1 0) ∧ (false = false) ∧ True) ∧ ((((x0 : Int) = x0) ∧ ((.nils : AV) = .nils) ∧ True) ∧ (((x1 : Int) = x1) ∧ ((.nils : AV) = .nils) ∧ True) ∧ True) ∧ true = true) (by kernel_rfl) ⟨⟨rfl, rfl, rfl, trivial⟩, ⟨⟨rfl, rfl, trivial⟩, ⟨rfl, rfl, trivial⟩, trivial⟩, rfl⟩ ?_
  refine WP.seq ?_
  refine WP.step g105_e_ok ⟨[U, U, .ptr 0 0, .ptr 1 0, .bool false, U, U, U, U, U, U, U, U, U, U, U, U, U, U, U, U, .bool (g105_m1 x0 x1), U, U, U, U, U, U, U, U, U, U, U, U, U, U, U, U, U, U, U, U, U, U, U, U, U, U, U, U, U, U, U, U, U, U, U, U, U], [[.int .i64 x0, .nils], [.int .i64 x1, .nils]]⟩ (((x0 != x1) = true → ((((.ptr 0 0 : AV) = .ptr 0 0) ∧ ((.ptr 1 0 : AV) = .ptr 1 0) ∧ (false = false) ∧ (true = (g105_m1 x0 x1)) ∧ True) ∧ ((((x0 : Int) = x0) ∧ ((.nils : AV) = .nils) ∧ True) ∧ (((x1 : Int) = x1) ∧ ((.nils : AV) = .nils) ∧ True) ∧ True) ∧ true = true)) ∧ ((x0 != x1) = false → ((((.ptr 0 0 : AV) = .ptr 0 0) ∧ ((.ptr 1 0 : AV) = .ptr 1 0) ∧ (false = false) ∧ (false = (g105_m1 x0 x1)) ∧ True) ∧ ((((x0 : Int) = x0) ∧ ((.nils : AV) = .nils) ∧ True) ∧ (((x1 : Int) = x1) ∧ ((.nils : AV) = .nils) ∧ True) ∧ True) ∧ true = true))) (by kernel_rfl) ⟨fun h1 => ⟨⟨rfl, rfl, rfl, (eqT h1 rfl), trivial⟩, ⟨⟨rfl, rfl, trivial⟩, ⟨rfl, rfl, trivial⟩, trivial⟩, rfl⟩, fun h1 => ⟨⟨rfl, rfl, rfl, (eqF h1 rfl), trivial⟩, ⟨⟨rfl, rfl, trivial⟩, ⟨rfl, rfl, trivial⟩, trivial⟩, rfl⟩⟩ ?_
  refine WP.condR (g105_m1 x0 x1) rfl (fun h2 => ?_) (fun h2 => ?_)
  · skip
    refine WP.step g105_e_ok ⟨[U, U, .ptr 0 0, .ptr 1 0, .bool false, U, U, U, U, U, U, U, U, U, U, U, U, U, U, U, U, U, U, U, U, U, U, U, U, U, U, U, U, U, U, U, U, U, U, U, U, U, U, U, U, U, U, U, U, U, U, U, U, U, U, U, U, U, U], [[.int .i64 x0, .nils], [.int .i64 x1, .nils]]⟩ ((((.ptr 0 0 : AV) = .ptr 0 0) ∧ ((.ptr 1 0 : AV) = .ptr 1 0) ∧ (false = false) ∧ True) ∧ ((((x0 : Int) = x0) ∧ ((.nils : AV) = .nils) ∧ True) ∧ (((x1 : Int) = x1) ∧ ((.nils : AV) = .nils) ∧ True) ∧ True) ∧ true = true) (by kernel_rfl) ⟨⟨rfl, rfl, rfl, trivial⟩, ⟨⟨rfl, rfl, trivial⟩, ⟨rfl, rfl, trivial⟩, trivial⟩, rfl⟩ ?_
    exact WP.retP (True ∧ ((.bool false : AV) = .bool (g105 x0 x1))) (by kernel_rfl) ⟨trivial, (congrArg AV.bool (eqT h2 rfl))⟩
  · skip
    refine WP.skip ?_
    refine WP.seq ?_
    refine WP.step g105_e_ok ⟨[U, U, .ptr 0 0, .ptr 1 0, .bool false, .int .i64 0, U, U, U, U, U, U, U, U, U, U, U, U, U, U, U, U, U, U, U, U, U, U, U, U, U, U, U, U, U, U, U, U, U, U, U, U, U, U, U, U, U, U, U, U, U, U, U, U, U, U, U, U, U], [[.int .i64 x0, .nils], [.int .i64 x1, .nils]]⟩ ((((.ptr 0 0 : AV) = .ptr 0 0) ∧ ((.ptr 1 0 : AV) = .ptr 1 0) ∧ (false = false) ∧ ((0 : Int) = 0) ∧ True) ∧ ((((x0 : Int) = x0) ∧ ((.nils : AV) = .nils) ∧ True) ∧ (((x1 : Int) = x1) ∧ ((.nils : AV) = .nils) ∧ True) ∧ True) ∧ true = true) (by kernel_rfl) ⟨⟨rfl, rfl, rfl, rfl, trivial⟩, ⟨⟨rfl, rfl, trivial⟩, ⟨rfl, rfl, trivial⟩, trivial⟩, rfl⟩ ?_
    refine WP.block ?_
    refine WP.loop1 ?_
    refine WP.seq ?_
    refine WP.step g105_e_ok ⟨[U, U, .ptr 0 0, .ptr 1 0, .bool false, .int .i64 0, U, U, U, U, U, U, U, U, U, U, U, U, U, U, U, U, .int .i64 0, .ptr 0 1, .nils, .int .i64 0, .bool false, U, U, U, U, U, U, U, U, U, U, U, U, U, U, U, U, U, U, U, U, U, U, U, U, U, U, U, U, U, U, U, U], [[.int .i64 x0, .nils], [.int .i64 x1, .nils]]⟩ ((((.ptr 0 0 : AV) = .ptr 0 0) ∧ ((.ptr 1 0 : AV) = .ptr 1 0) ∧ (false = false) ∧ ((0 : Int) = 0) ∧ ((0 : Int) = 0) ∧ ((.ptr 0 1 : AV) = .ptr 0 1) ∧ ((.nils : AV) = .nils) ∧ ((0 : Int) = 0) ∧ (false = false) ∧ True) ∧ ((((x0 : Int) = x0) ∧ ((.nils : AV) = .nils) ∧ True) ∧ (((x1 : Int) = x1) ∧ ((.nils : AV) = .nils) ∧ True) ∧ True) ∧ true = true) (by kernel_rfl) ⟨⟨rfl, rfl, rfl, rfl, rfl, rfl, rfl, rfl, rfl, trivial⟩, ⟨⟨rfl, rfl, trivial⟩, ⟨rfl, rfl, trivial⟩, trivial⟩, rfl⟩ ?_
    refine WP.condF rfl ?_
    refine WP.exit ?_
    refine WP.step g105_e_ok ⟨[U, U, U, U, .bool true, U, U, U, U, U, U, U, U, U, U, U, U, U, U, U, U, U, U, U, U, U, U, U, U, U, U, U, U, U, U, U, U, U, U, U, U, U, U, U, U, U, U, U, U, U, U, U, U, U, U, U, U, U, U], [[.int .i64 x0, .nils], [.int .i64 x1, .nils]]⟩ (((true = true) ∧ True) ∧ ((((x0 : Int) = x0) ∧ ((.nils : AV) = .nils) ∧ True) ∧ (((x1 : Int) = x1) ∧ ((.nils : AV) = .nils) ∧ True) ∧ True) ∧ true = true) (by kernel_rfl) ⟨⟨rfl, trivial⟩, ⟨⟨rfl, rfl, trivial⟩, ⟨rfl, rfl, trivial⟩, trivial⟩, rfl⟩ ?_
    exact WP.retP (True ∧ ((.bool true : AV) = .bool (g105 x0 x1))) (by kernel_rfl) ⟨trivial, (congrArg AV.bool (eqF h2 rfl))⟩
noncomputable def s105 : Ans := fun xs => match xs with
  | [.agg [.int .i64 x0, .nils], .agg [.int .i64 x1, .nils]] => some (none, .bool (g105 x0 x1))
  | _ => none
theorem k105 : SOk Try.prog 105 s105 := ⟨⟨_, _, Try.func105, rfl, by kernel_rfl⟩, fun args pre r h _ => by
  unfold s105 at h; split at h <;> cases h; exact pc105 _ _⟩
noncomputable def g34_m1 (x0 : Int) (x1 : Int) (x2 : Int) (x3 : Int) : Bool := (bif (x1 != x3) then true else (bif (!(g105 x0 x2)) then true else false))
noncomputable def g34 (x0 : Int) (x1 : Int) (x2 : Int) (x3 : Int) : Bool := (bif (g34_m1 x0 x1 x2 x3) then false else true)
noncomputable abbrev g34_e : Env := mkE [(105, s105)]
theorem g34_e_ok : g34_e.Ok := mkE_ok ⟨k105, trivial⟩
theorem pc34 (x0 : Int) (x1 : Int) (x2 : Int) (x3 : Int) : PureCall Try.prog 34 [.agg [.int .i64 x0, .nils, .int .i64 x1, .nils], .agg [.int .i64 x2, .nils, .int .i64 x3, .nils]] (.bool (g34 x0 x1 x2 x3)) := by
  refine pure_of_WP (E := g34_e) g34_e_ok Try.func34 rfl _ _ ?_
  refine WP.step g34_e_ok ⟨[U, U, .ptr 0 0, .ptr 1 0, .bool false, U, U, U, U, U, U, U, U, U, U, U, U, U, U, U, U, U, U, U, U, U, U, U, U, U, U, U, U, U, U, U, U, U, U, U, U, U, U, U, U, U, U, U, U, U, U, U, U, U, U, U, U, U, U, U, U, U, U, U, U, U, U, U, U, U, U, U, U, U], [[.int .i64 x0, .nils, .int .i64 x1, .nils], [.int .i64 x2, .nils, .int .i64 x3, .nils]]⟩ ((((.ptr 0 0 : AV) = .ptr 0 0) ∧ ((.ptr 1 0 : AV) = .ptr 1 0) ∧ (false = false) ∧ True) ∧ ((((x0 : Int) = x0) ∧ ((.nils : AV) = .nils) ∧ ((x1 : Int) = x1) ∧ ((.nils : AV) = .nils) ∧ True) ∧ (((x2 : Int) = x2) ∧ ((.nils : AV) = .nils) ∧ ((x3 : Int) = x3) ∧ ((.nils : AV) = .nils) ∧ True) ∧ True) ∧ true = true) (by kernel_rfl) ⟨⟨rfl, rfl, rfl, trivial⟩, ⟨⟨rfl, rfl, rfl, rfl, trivial⟩, ⟨rfl, rfl, rfl, rfl, trivial⟩, trivial⟩, rfl⟩ ?_
  refine WP.seq ?_
  refine WP.step g34_e_ok ⟨[U, U, .ptr 0 0, .ptr 1 0, .bool false, U, U, U, U, U, U, U, U, U, U, U, U, U, U, U, U, U, U, U, U, U, U, U, U, .bool (g34_m1 x0 x1 x2 x3), U, U, U, U, U, U, U, U, U, U, U, U, U, U, U, U, U, U, U, U, U, U, U, U, U, U, U, U, U, U, U, U, U, U, U, U, U, U, U, U, U, U, U, U], [[.int .i64 x0, .nils, .int .i64 x1, .nils], [.int .i64 x2, .nils, .int .i64 x3, .nils]]⟩ (((x1 != x3) = true → ((((.ptr 0 0 : AV) = .ptr 0 0) ∧ ((.ptr 1 0 : AV) = .ptr 1 0) ∧ (false = false) ∧ (true = (g34_m1 x0 x1 x2 x3)) ∧ True) ∧ ((((x0 : Int) = x0) ∧ ((.nils : AV) = .nils) ∧ ((x1 : Int) = x1) ∧ ((.nils : AV) = .nils) ∧ True) ∧ (((x2 : Int) = x2) ∧ ((.nils : AV) = .nils) ∧ ((x3 : Int) = x3) ∧ ((.nils : AV) = .nils) ∧ True) ∧ True) ∧ true = true)) ∧ ((x1 != x3) = false → (((!(g105 x0 x2)) = true → ((((.ptr 0 0 : AV) = .ptr 0 0) ∧ ((.ptr 1 0 : AV) = .ptr 1 0) ∧ (false = false) ∧ (true = (g34_m1 x0 x1 x2 x3)) ∧ True) ∧ ((((x0 : Int) = x0) ∧ ((.nils : AV) = .nils) ∧ ((x1 : Int) = x1) ∧ ((.nils : AV) = .nils) ∧ True) ∧ (((x2 : Int) = x2) ∧ ((.nils : AV) = .nils) ∧ ((x3 : Int) = x3) ∧ ((.nils : AV) = .nils) ∧ True) ∧ True) ∧ true = true)) ∧ ((!(g105 x0 x2)) = false → ((((.ptr 0 0 : AV) = .ptr 0 0) ∧ ((.ptr 1 0 : AV) = .ptr 1 0) ∧ (false = false) ∧ (false = (g34_m1 x0 x1 x2 x3)) ∧ True) ∧ ((((x0 : Int) = x0) ∧ ((.nils : AV) = .nils) ∧ ((x1 : Int) = x1) ∧ ((.nils : AV) = .nils) ∧ True) ∧ (((x2 : Int) = x2) ∧ ((.nils : AV) = .nils) ∧ ((x3 : Int) = x3) ∧ ((.nils : AV) = .nils) ∧ True) ∧ True) ∧ true = true))))) (by kernel_rfl) ⟨fun h1 => ⟨⟨rfl, rfl, rfl, (eqT h1 rfl), trivial⟩, ⟨⟨rfl, rfl, rfl, rfl, trivial⟩, ⟨rfl, rfl, rfl, rfl, trivial⟩, trivial⟩, rfl⟩, fun h1 => ⟨fun h2 => ⟨⟨rfl, rfl, rfl, (eqF h1 (eqT h2 rfl)), trivial⟩, ⟨⟨rfl, rfl, rfl, rfl, trivial⟩, ⟨rfl, rfl, rfl, rfl, trivial⟩, trivial⟩, rfl⟩, fun h2 => ⟨⟨rfl, rfl, rfl, (eqF h1 (eqF h2 rfl)), trivial⟩, ⟨⟨rfl, rfl, rfl, rfl, trivial⟩, ⟨rfl, rfl, rfl, rfl, trivial⟩, trivial⟩, rfl⟩⟩⟩ ?_
  refine WP.condR (g34_m1 x0 x1 x2 x3) rfl (fun h3 => ?_) (fun h3 => ?_)
  · skip
    refine WP.step g34_e_ok ⟨[U, U, .ptr 0 0, .ptr 1 0, .bool false, U, U, U, U, U, U, U, U, U, U, U, U, U, U, U, U, U, U, U, U, U, U, U, U, U, U, U, U, U, U, U, U, U, U, U, U, U, U, U, U, U, U, U, U, U, U, U, U, U, U, U, U, U, U, U, U, U, U, U, U, U, U, U, U, U, U, U, U, U], [[.int .i64 x0, .nils, .int .i64 x1, .nils], [.int .i64 x2, .nils, .int .i64 x3, .nils]]⟩ ((((.ptr 0 0 : AV) = .ptr 0 0) ∧ ((.ptr 1 0 : AV) = .ptr 1 0) ∧ (false = false) ∧ True) ∧ ((((x0 : Int) = x0) ∧ ((.nils : AV) = .nils) ∧ ((x1 : Int) = x1) ∧ ((.nils : AV) = .nils) ∧ True) ∧ (((x2 : Int) = x2) ∧ ((.nils : AV) = .nils) ∧ ((x3 : Int) = x3) ∧ ((.nils : AV) = .nils) ∧ True) ∧ True) ∧ true = true) (by kernel_rfl) ⟨⟨rfl, rfl, rfl, trivial⟩, ⟨⟨rfl, rfl, rfl, rfl, trivial⟩, ⟨rfl, rfl, rfl, rfl, trivial⟩, trivial⟩, rfl⟩ ?_
    exact WP.retP (True ∧ ((.bool false : AV) = .bool (g34 x0 x1 x2 x3))) (by kernel_rfl) ⟨trivial, (congrArg AV.bool (eqT h3 rfl))⟩
  · skip
    refine WP.skip ?_
    refine WP.seq ?_
    refine WP.step g34_e_ok ⟨[U, U, .ptr 0 0, .ptr 1 0, .bool false, .int .i64 0, U, U, U, U, U, U, U, U, U, U, U, U, U, U, U, U, U, U, U, U, U, U, U, U, U, U, U, U, U, U, U, U, U, U, U, U, U, U, U, U, U, U, U, U, U, U, U, U, U, U, U, U, U, U, U, U, U, U, U, U, U, U, U, U, U, U, U, U], [[.int .i64 x0, .nils, .int .i64 x1, .nils], [.int .i64 x2, .nils, .int .i64 x3, .nils]]⟩ ((((.ptr 0 0 : AV) = .ptr 0 0) ∧ ((.ptr 1 0 : AV) = .ptr 1 0) ∧ (false = false) ∧ ((0 : Int) = 0) ∧ True) ∧ ((((x0 : Int) = x0) ∧ ((.nils : AV) = .nils) ∧ ((x1 : Int) = x1) ∧ ((.nils : AV) = .nils) ∧ True) ∧ (((x2 : Int) = x2) ∧ ((.nils : AV) = .nils) ∧ ((x3 : Int) = x3) ∧ ((.nils : AV) = .nils) ∧ True) ∧ True) ∧ true = true) (by kernel_rfl) ⟨⟨rfl, rfl, rfl, rfl, trivial⟩, ⟨⟨rfl, rfl, rfl, rfl, trivial⟩, ⟨rfl, rfl, rfl, rfl, trivial⟩, trivial⟩, rfl⟩ ?_
    refine WP.block ?_
    refine WP.loop1 ?_
    refine WP.seq ?_
    refine WP.step g34_e_ok ⟨[U, U, .ptr 0 0, .ptr 1 0, .bool false, .int .i64 0, U, U, U, U, U, U, U, U, U, U, U, U, U, U, U, U, U, U, U, U, U, U, U, U, .int .i64 0, .ptr 0 3, .nils, .int .i64 0, .bool false, U, U, U, U, U, U, U, U, U, U, U, U, U, U, U, U, U, U, U, U, U, U, U, U, U, U, U, U, U, U, U, U, U, U, U, U, U, U, U], [[.int .i64 x0, .nils, .int .i64 x1, .nils], [.int .i64 x2, .nils, .int .i64 x3, .nils]]⟩ ((((.ptr 0 0 : AV) = .ptr 0 0) ∧ ((.ptr 1 0 : AV) = .ptr 1 0) ∧ (false = false) ∧ ((0 : Int) = 0) ∧ ((0 : Int) = 0) ∧ ((.ptr 0 3 : AV) = .ptr 0 3) ∧ ((.nils : AV) = .nils) ∧ ((0 : Int) = 0) ∧ (false = false) ∧ True) ∧ ((((x0 : Int) = x0) ∧ ((.nils : AV) = .nils) ∧ ((x1 : Int) = x1) ∧ ((.nils : AV) = .nils) ∧ True) ∧ (((x2 : Int) = x2) ∧ ((.nils : AV) = .nils) ∧ ((x3 : Int) = x3) ∧ ((.nils : AV) = .nils) ∧ True) ∧ True) ∧ true = true) (by kernel_rfl) ⟨⟨rfl, rfl, rfl, rfl, rfl, rfl, rfl, rfl, rfl, trivial⟩, ⟨⟨rfl, rfl, rfl, rfl, trivial⟩, ⟨rfl, rfl, rfl, rfl, trivial⟩, trivial⟩, rfl⟩ ?_
    refine WP.condF rfl ?_
    refine WP.exit ?_
    refine WP.step g34_e_ok ⟨[U, U, U, U, .bool true, U, U, U, U, U, U, U, U, U, U, U, U, U, U, U, U, U, U, U, U, U, U, U, U, U, U, U, U, U, U, U, U, U, U, U, U, U, U, U, U, U, U, U, U, U, U, U, U, U, U, U, U, U, U, U, U, U, U, U, U, U, U, U, U, U, U, U, U, U], [[.int .i64 x0, .nils, .int .i64 x1, .nils], [.int .i64 x2, .nils, .int .i64 x3, .nils]]⟩ (((true = true) ∧ True) ∧ ((((x0 : Int) = x0) ∧ ((.nils : AV) = .nils) ∧ ((x1 : Int) = x1) ∧ ((.nils : AV) = .nils) ∧ True) ∧ (((x2 : Int) = x2) ∧ ((.nils : AV) = .nils) ∧ ((x3 : Int) = x3) ∧ ((.nils : AV) = .nils) ∧ True) ∧ True) ∧ true = true) (by kernel_rfl) ⟨⟨rfl, trivial⟩, ⟨⟨rfl, rfl, rfl, rfl, trivial⟩, ⟨rfl, rfl, rfl, rfl, trivial⟩, trivial⟩, rfl⟩ ?_
    exact WP.retP (True ∧ ((.bool true : AV) = .bool (g34 x0 x1 x2 x3))) (by kernel_rfl) ⟨trivial, (congrArg AV.bool (eqF h3 rfl))⟩
noncomputable def s34 : Ans := fun xs => match xs with
  | [.agg [.int .i64 x0, .nils, .int .i64 x1, .nils], .agg [.int .i64 x2, .nils, .int .i64 x3, .nils]] => some (none, .bool (g34 x0 x1 x2 x3))
  | _ => none
theorem k34 : SOk Try.prog 34 s34 := ⟨⟨_, _, Try.func34, rfl, by kernel_rfl⟩, fun args pre r h _ => by
  unfold s34 at h; split at h <;> cases h; exact pc34 _ _ _ _⟩
noncomputable def g4 : Bool := (g34 g32_0 g32_2 g33_0 g33_2)
noncomputable abbrev g4_e : Env := mkE [(32, s32), (33, s33), (34, s34)]
theorem g4_e_ok : g4_e.Ok := mkE_ok ⟨k32, k33, k34, trivial⟩
theorem pc4  : PureCall Try.prog 4 [] (.bool g4) := by
  refine pure_of_WP (E := g4_e) g4_e_ok Try.func4 rfl _ _ ?_
  refine WP.step g4_e_ok ⟨[.bool false, U, U, U, U, U, U, U], []⟩ (((false = false) ∧ True) ∧ True ∧ true = true) (by kernel_rfl) ⟨⟨rfl, trivial⟩, trivial, rfl⟩ ?_
  refine WP.step g4_e_ok ⟨[.bool false, .ptr 0 0, U, U, U, U, U, U], [[.int .i64 g32_0, .nils, .int .i64 g32_2, .nils]]⟩ (((false = false) ∧ ((.ptr 0 0 : AV) = .ptr 0 0) ∧ True) ∧ ((((g32_0 : Int) = g32_0) ∧ ((.nils : AV) = .nils) ∧ ((g32_2 : Int) = g32_2) ∧ ((.nils : AV) = .nils) ∧ True) ∧ True) ∧ true = true) (by kernel_rfl) ⟨⟨rfl, rfl, trivial⟩, ⟨⟨rfl, rfl, rfl, rfl, trivial⟩, trivial⟩, rfl⟩ ?_
  refine WP.step g4_e_ok ⟨[.bool false, .ptr 0 0, .ptr 1 0, U, U, U, U, U], [[.int .i64 g32_0, .nils, .int .i64 g32_2, .nils], [.int .i64 g33_0, .nils, .int .i64 g33_2, .nils]]⟩ (((false = false) ∧ ((.ptr 0 0 : AV) = .ptr 0 0) ∧ ((.ptr 1 0 : AV) = .ptr 1 0) ∧ True) ∧ ((((g32_0 : Int) = g32_0) ∧ ((.nils : AV) = .nils) ∧ ((g32_2 : Int) = g32_2) ∧ ((.nils : AV) = .nils) ∧ True) ∧ (((g33_0 : Int) = g33_0) ∧ ((.nils : AV) = .nils) ∧ ((g33_2 : Int) = g33_2) ∧ ((.nils : AV) = .nils) ∧ True) ∧ True) ∧ true = true) (by kernel_rfl) ⟨⟨rfl, rfl, rfl, trivial⟩, ⟨⟨rfl, rfl, rfl, rfl, trivial⟩, ⟨rfl, rfl, rfl, rfl, trivial⟩, trivial⟩, rfl⟩ ?_
  refine WP.step g4_e_ok ⟨[.bool (g34 g32_0 g32_2 g33_0 g33_2), U, U, U, U, U, U, U], [[.int .i64 g32_0, .nils, .int .i64 g32_2, .nils], [.int .i64 g33_0, .nils, .int .i64 g33_2, .nils]]⟩ ((((g34 g32_0 g32_2 g33_0 g33_2) = (g34 g32_0 g32_2 g33_0 g33_2)) ∧ True) ∧ ((((g32_0 : Int) = g32_0) ∧ ((.nils : AV) = .nils) ∧ ((g32_2 : Int) = g32_2) ∧ ((.nils : AV) = .nils) ∧ True) ∧ (((g33_0 : Int) = g33_0) ∧ ((.nils : AV) = .nils) ∧ ((g33_2 : Int) = g33_2) ∧ ((.nils : AV) = .nils) ∧ True) ∧ True) ∧ true = true) (by kernel_rfl) ⟨⟨rfl, trivial⟩, ⟨⟨rfl, rfl, rfl, rfl, trivial⟩, ⟨rfl, rfl, rfl, rfl, trivial⟩, trivial⟩, rfl⟩ ?_
  exact WP.retP (True ∧ ((.bool (g34 g32_0 g32_2 g33_0 g33_2) : AV) = .bool g4)) (by kernel_rfl) ⟨trivial, rfl⟩
noncomputable def s4 : Ans := fun xs => match xs with
  | [] => some (none, .bool g4)
  | _ => none
theorem k4 : SOk Try.prog 4 s4 := ⟨⟨_, _, Try.func4, rfl, by kernel_rfl⟩, fun args pre r h _ => by
  unfold s4 at h; split at h <;> cases h; exact pc4⟩
noncomputable def g35_0 : Int := 0
noncomputable def g35_1 : Int := (-1)
noncomputable def g35_2 : Int := 0
noncomputable def g35_3 : Int := 0
noncomputable def g35_4 : Int := g32_0
noncomputable def g35_6 : Int := g32_2
noncomputable def g35_8 : Int := 0
noncomputable def g35_9 : Int := 0
noncomputable abbrev g35_e : Env := mkE [(32, s32)]
theorem g35_e_ok : g35_e.Ok := mkE_ok ⟨k32, trivial⟩
theorem pc35  : PureCall Try.prog 35 [] (.agg [.int .i64 g35_0, .int .i64 g35_1, .int .i64 g35_2, .int .i64 g35_3, .int .i64 g35_4, .nils, .int .i64 g35_6, .nils, .int .i64 g35_8, .int .i64 g35_9, .nils]) := by
  refine pure_of_WP (E := g35_e) g35_e_ok Try.func35 rfl _ _ ?_
  refine WP.step g35_e_ok ⟨[.ptr 0 0, U, U, U], [[.int .i64 0, .int .i64 0, .int .i64 0, .int .i64 0, .int .i64 0, .nils, .int .i64 0, .nils, .int .i64 0, .int .i64 0, .nils]]⟩ ((((.ptr 0 0 : AV) = .ptr 0 0) ∧ True) ∧ ((((0 : Int) = 0) ∧ ((0 : Int) = 0) ∧ ((0 : Int) = 0) ∧ ((0 : Int) = 0) ∧ ((0 : Int) = 0) ∧ ((.nils : AV) = .nils) ∧ ((0 : Int) = 0) ∧ ((.nils : AV) = .nils) ∧ ((0 : Int) = 0) ∧ ((0 : Int) = 0) ∧ ((.nils : AV) = .nils) ∧ True) ∧ True) ∧ true = true) (by kernel_rfl) ⟨⟨rfl, trivial⟩, ⟨⟨rfl, rfl, rfl, rfl, rfl, rfl, rfl, rfl, rfl, rfl, rfl, trivial⟩, trivial⟩, rfl⟩ ?_
  refine WP.step g35_e_ok ⟨[.ptr 0 0, U, U, U], [[.int .i64 0, .int .i64 (-1), .int .i64 0, .int .i64 0, .int .i64 g32_0, .nils, .int .i64 g32_2, .nils, .int .i64 0, .int .i64 0, .nils]]⟩ ((((.ptr 0 0 : AV) = .ptr 0 0) ∧ True) ∧ ((((0 : Int) = 0) ∧ (((-1) : Int) = (-1)) ∧ ((0 : Int) = 0) ∧ ((0 : Int) = 0) ∧ ((g32_0 : Int) = g32_0) ∧ ((.nils : AV) = .nils) ∧ ((g32_2 : Int) = g32_2) ∧ ((.nils : AV) = .nils) ∧ ((0 : Int) = 0) ∧ ((0 : Int) = 0) ∧ ((.nils : AV) = .nils) ∧ True) ∧ True) ∧ true = true) (by kernel_rfl) ⟨⟨rfl, trivial⟩, ⟨⟨rfl, rfl, rfl, rfl, rfl, rfl, rfl, rfl, rfl, rfl, rfl, trivial⟩, trivial⟩, rfl⟩ ?_
  exact WP.retP (True ∧ (((.int .i64 0 : AV) = .int .i64 g35_0) ∧ ((.int .i64 (-1) : AV) = .int .i64 g35_1) ∧ ((.int .i64 0 : AV) = .int .i64 g35_2) ∧ ((.int .i64 0 : AV) = .int .i64 g35_3) ∧ ((.int .i64 g32_0 : AV) = .int .i64 g35_4) ∧ ((.nils : AV) = .nils) ∧ ((.int .i64 g32_2 : AV) = .int .i64 g35_6) ∧ ((.nils : AV) = .nils) ∧ ((.int .i64 0 : AV) = .int .i64 g35_8) ∧ ((.int .i64 0 : AV) = .int .i64 g35_9) ∧ ((.nils : AV) = .nils) ∧ True)) (by kernel_rfl) ⟨trivial, ⟨rfl, rfl, rfl, rfl, rfl, rfl, rfl, rfl, rfl, rfl, rfl, trivial⟩⟩
noncomputable def s35 : Ans := fun xs => match xs with
  | [] => some (none, .agg [.int .i64 g35_0, .int .i64 g35_1, .int .i64 g35_2, .int .i64 g35_3, .int .i64 g35_4, .nils, .int .i64 g35_6, .nils, .int .i64 g35_8, .int .i64 g35_9, .nils])
  | _ => none
theorem k35 : SOk Try.prog 35 s35 := ⟨⟨_, _, Try.func35, rfl, by kernel_rfl⟩, fun args pre r h _ => by
  unfold s35 at h; split at h <;> cases h; exact pc35⟩
noncomputable def g36_0 : Int := 0
noncomputable def g36_1 : Int := (-1)
noncomputable def g36_2 : Int := 0
noncomputable def g36_3 : Int := 0
noncomputable def g36_4 : Int := g33_0
noncomputable def g36_6 : Int := g33_2
noncomputable def g36_8 : Int := 0
noncomputable def g36_9 : Int := 0
noncomputable abbrev g36_e : Env := mkE [(33, s33)]
theorem g36_e_ok : g36_e.Ok := mkE_ok ⟨k33, trivial⟩
theorem pc36  : PureCall Try.prog 36 [] (.agg [.int .i64 g36_0, .int .i64 g36_1, .int .i64 g36_2, .int .i64 g36_3, .int .i64 g36_4, .nils, .int .i64 g36_6, .nils, .int .i64 g36_8, .int .i64 g36_9, .nils]) := by
  refine pure_of_WP (E := g36_e) g36_e_ok Try.func36 rfl _ _ ?_
  refine WP.step g36_e_ok ⟨[.ptr 0 0, U, U, U], [[.int .i64 0, .int .i64 0, .int .i64 0, .int .i64 0, .int .i64 0, .nils, .int .i64 0, .nils, .int .i64 0, .int .i64 0, .nils]]⟩ ((((.ptr 0 0 : AV) = .ptr 0 0) ∧ True) ∧ ((((0 : Int) = 0) ∧ ((0 : Int) = 0) ∧ ((0 : Int) = 0) ∧ ((0 : Int) = 0) ∧ ((0 : Int) = 0) ∧ ((.nils : AV) = .nils) ∧ ((0 : Int) = 0) ∧ ((.nils : AV) = .nils) ∧ ((0 : Int) = 0) ∧ ((0 : Int) = 0) ∧ ((.nils : AV) = .nils) ∧ True) ∧ True) ∧ true = true) (by kernel_rfl) ⟨⟨rfl, trivial⟩, ⟨⟨rfl, rfl, rfl, rfl, rfl, rfl, rfl, rfl, rfl, rfl, rfl, trivial⟩, trivial⟩, rfl⟩ ?_
  refine WP.step g36_e_ok ⟨[.ptr 0 0, U, U, U], [[.int .i64 0, .int .i64 (-1), .int .i64 0, .int .i64 0, .int .i64 g33_0, .nils, .int .i64 g33_2, .nils, .int .i64 0, .int .i64 0, .nils]]⟩ ((((.ptr 0 0 : AV) = .ptr 0 0) ∧ True) ∧ ((((0 : Int) = 0) ∧ (((-1) : Int) = (-1)) ∧ ((0 : Int) = 0) ∧ ((0 : Int) = 0) ∧ ((g33_0 : Int) = g33_0) ∧ ((.nils : AV) = .nils) ∧ ((g33_2 : Int) = g33_2) ∧ ((.nils : AV) = .nils) ∧ ((0 : Int) = 0) ∧ ((0 : Int) = 0) ∧ ((.nils : AV) = .nils) ∧ True) ∧ True) ∧ true = true) (by kernel_rfl) ⟨⟨rfl, trivial⟩, ⟨⟨rfl, rfl, rfl, rfl, rfl, rfl, rfl, rfl, rfl, rfl, rfl, trivial⟩, trivial⟩, rfl⟩ ?_
  exact WP.retP (True ∧ (((.int .i64 0 : AV) = .int .i64 g36_0) ∧ ((.int .i64 (-1) : AV) = .int .i64 g36_1) ∧ ((.int .i64 0 : AV) = .int .i64 g36_2) ∧ ((.int .i64 0 : AV) = .int .i64 g36_3) ∧ ((.int .i64 g33_0 : AV) = .int .i64 g36_4) ∧ ((.nils : AV) = .nils) ∧ ((.int .i64 g33_2 : AV) = .int .i64 g36_6) ∧ ((.nils : AV) = .nils) ∧ ((.int .i64 0 : AV) = .int .i64 g36_8) ∧ ((.int .i64 0 : AV) = .int .i64 g36_9) ∧ ((.nils : AV) = .nils) ∧ True)) (by kernel_rfl) ⟨trivial, ⟨rfl, rfl, rfl, rfl, rfl, rfl, rfl, rfl, rfl, rfl, rfl, trivial⟩⟩
noncomputable def s36 : Ans := fun xs => match xs with
  | [] => some (none, .agg [.int .i64 g36_0, .int .i64 g36_1, .int .i64 g36_2, .int .i64 g36_3, .int .i64 g36_4, .nils, .int .i64 g36_6, .nils, .int .i64 g36_8, .int .i64 g36_9, .nils])
  | _ => none
theorem k36 : SOk Try.prog 36 s36 := ⟨⟨_, _, Try.func36, rfl, by kernel_rfl⟩, fun args pre r h _ => by
  unfold s36 at h; split at h <;> cases h; exact pc36⟩
noncomputable def g71 : Bool := true
noncomputable abbrev g71_e : Env := mkE []
theorem g71_e_ok : g71_e.Ok := mkE_ok trivial
theorem pc71  : PureCall Try.prog 71 [.nils, .nils] (.bool g71) := by
  refine pure_of_WP (E := g71_e) g71_e_ok Try.func71 rfl _ _ ?_
  refine WP.step g71_e_ok ⟨[.nils, .nils, U, U, .bool false, U, U, U, U, U, U, U, U, U, U, U, U, U, U, U, U, U, U, U, U, U], []⟩ ((((.nils : AV) = .nils) ∧ ((.nils : AV) = .nils) ∧ (false = false) ∧ True) ∧ True ∧ true = true) (by kernel_rfl) ⟨⟨rfl, rfl, rfl, trivial⟩, trivial, rfl⟩ ?_
  refine WP.seq ?_
  refine WP.step g71_e_ok ⟨[.nils, .nils, U, U, .bool false, U, U, U, U, U, .bool false, U, U, U, U, U, U, U, U, U, U, U, U, U, U, U], []⟩ ((((.nils : AV) = .nils) ∧ ((.nils : AV) = .nils) ∧ (false = false) ∧ (false = false) ∧ True) ∧ True ∧ true = true) (by kernel_rfl) ⟨⟨rfl, rfl, rfl, rfl, trivial⟩, trivial, rfl⟩ ?_
  refine WP.condF rfl ?_
  refine WP.skip ?_
  refine WP.seq ?_
  refine WP.step g71_e_ok ⟨[.nils, .nils, U, U, .bool false, .int .i64 0, U, U, U, U, U, U, U, U, U, U, U, U, U, U, U, U, U, U, U, U], []⟩ ((((.nils : AV) = .nils) ∧ ((.nils : AV) = .nils) ∧ (false = false) ∧ ((0 : Int) = 0) ∧ True) ∧ True ∧ true = true) (by kernel_rfl) ⟨⟨rfl, rfl, rfl, rfl, trivial⟩, trivial, rfl⟩ ?_
  refine WP.block ?_
  refine WP.loop1 ?_
  refine WP.seq ?_
  refine WP.step g71_e_ok ⟨[.nils, .nils, U, U, .bool false, .int .i64 0, U, U, U, U, U, .int .i64 0, .nils, .int .i64 0, .bool false, U, U, U, U, U, U, U, U, U, U, U], []⟩ ((((.nils : AV) = .nils) ∧ ((.nils : AV) = .nils) ∧ (false = false) ∧ ((0 : Int) = 0) ∧ ((0 : Int) = 0) ∧ ((.nils : AV) = .nils) ∧ ((0 : Int) = 0) ∧ (false = false) ∧ True) ∧ True ∧ true = true) (by kernel_rfl) ⟨⟨rfl, rfl, rfl, rfl, rfl, rfl, rfl, rfl, trivial⟩, trivial, rfl⟩ ?_
  refine WP.condF rfl ?_
  refine WP.exit ?_
  refine WP.step g71_e_ok ⟨[U, U, U, U, .bool true, U, U, U, U, U, U, U, U, U, U, U, U, U, U, U, U, U, U, U, U, U], []⟩ (((true = true) ∧ True) ∧ True ∧ true = true) (by kernel_rfl) ⟨⟨rfl, trivial⟩, trivial, rfl⟩ ?_
  exact WP.retP (True ∧ ((.bool true : AV) = .bool g71)) (by kernel_rfl) ⟨trivial, rfl⟩
noncomputable def s71 : Ans := fun xs => match xs with
  | [.nils, .nils] => some (none, .bool g71)
  | _ => none
theorem k71 : SOk Try.prog 71 s71 := ⟨⟨_, _, Try.func71, rfl, by kernel_rfl⟩, fun args pre r h _ => by
  unfold s71 at h; split at h <;> cases h; exact pc71⟩
noncomputable def g68_m1 (x0 : Int) (x1 : Int) (x2 : Int) (x3 : Int) : Bool := (bif (x0 == x2) then (bif (x1 == x3) then g71 else false) else false)
noncomputable def g68 (x0 : Int) (x1 : Int) (x2 : Int) (x3 : Int) : Bool := (g68_m1 x0 x1 x2 x3)
noncomputable abbrev g68_e : Env := mkE [(71, s71)]
theorem g68_e_ok : g68_e.Ok := mkE_ok ⟨k71, trivial⟩
theorem pc68 (x0 : Int) (x1 : Int) (x2 : Int) (x3 : Int) : PureCall Try.prog 68 [.agg [.int .i64 x0, .int .i64 x1, .nils], .agg [.int .i64 x2, .int .i64 x3, .nils]] (.bool (g68 x0 x1 x2 x3)) := by
  refine pure_of_WP (E := g68_e) g68_e_ok Try.func68 rfl _ _ ?_
  refine WP.step g68_e_ok ⟨[U, U, .ptr 0 0, .ptr 1 0, .bool false, U, U, U, U, U, U, U, U, U, U, U, U, U, U, U, U, U, U, U], [[.int .i64 x0, .int .i64 x1, .nils], [.int .i64 x2, .int .i64 x3, .nils]]⟩ ((((.ptr 0 0 : AV) = .ptr 0 0) ∧ ((.ptr 1 0 : AV) = .ptr 1 0) ∧ (false = false) ∧ True) ∧ ((((x0 : Int) = x0) ∧ ((x1 : Int) = x1) ∧ ((.nils : AV) = .nils) ∧ True) ∧ (((x2 : Int) = x2) ∧ ((x3 : Int) = x3) ∧ ((.nils : AV) = .nils) ∧ True) ∧ True) ∧ true = true) (by kernel_rfl) ⟨⟨rfl, rfl, rfl, trivial⟩, ⟨⟨rfl, rfl, rfl, trivial⟩, ⟨rfl, rfl, rfl, trivial⟩, trivial⟩, rfl⟩ ?_
  refine WP.step g68_e_ok ⟨[U, U, U, U, .bool (g68_m1 x0 x1 x2 x3), U, U, U, U, U, U, U, U, U, U, U, U, U, U, U, U, U, U, U], [[.int .i64 x0, .int .i64 x1, .nils], [.int .i64 x2, .int .i64 x3, .nils]]⟩ (((x0 == x2) = true → (((x1 == x3) = true → (((g71 = (g68_m1 x0 x1 x2 x3)) ∧ True) ∧ ((((x0 : Int) = x0) ∧ ((x1 : Int) = x1) ∧ ((.nils : AV) = .nils) ∧ True) ∧ (((x2 : Int) = x2) ∧ ((x3 : Int) = x3) ∧ ((.nils : AV) = .nils) ∧ True) ∧ True) ∧ true = true)) ∧ ((x1 == x3) = false → (((false = (g68_m1 x0 x1 x2 x3)) ∧ True) ∧ ((((x0 : Int) = x0) ∧ ((x1 : Int) = x1) ∧ ((.nils : AV) = .nils) ∧ True) ∧ (((x2 : Int) = x2) ∧ ((x3 : Int) = x3) ∧ ((.nils : AV) = .nils) ∧ True) ∧ True) ∧ true = true)))) ∧ ((x0 == x2) = false → (((false = (g68_m1 x0 x1 x2 x3)) ∧ True) ∧ ((((x0 : Int) = x0) ∧ ((x1 : Int) = x1) ∧ ((.nils : AV) = .nils) ∧ True) ∧ (((x2 : Int) = x2) ∧ ((x3 : Int) = x3) ∧ ((.nils : AV) = .nils) ∧ True) ∧ True) ∧ true = true))) (by kernel_rfl) ⟨fun h1 => ⟨fun h2 => ⟨⟨(eqT h1 (eqT h2 rfl)), trivial⟩, ⟨⟨rfl, rfl, rfl, trivial⟩, ⟨rfl, rfl, rfl, trivial⟩, trivial⟩, rfl⟩, fun h2 => ⟨⟨(eqT h1 (eqF h2 rfl)), trivial⟩, ⟨⟨rfl, rfl, rfl, trivial⟩, ⟨rfl, rfl, rfl, trivial⟩, trivial⟩, rfl⟩⟩, fun h1 => ⟨⟨(eqF h1 rfl), trivial⟩, ⟨⟨rfl, rfl, rfl, trivial⟩, ⟨rfl, rfl, rfl, trivial⟩, trivial⟩, rfl⟩⟩ ?_
  exact WP.retP (True ∧ ((.bool (g68_m1 x0 x1 x2 x3) : AV) = .bool (g68 x0 x1 x2 x3))) (by kernel_rfl) ⟨trivial, rfl⟩
noncomputable def s68 : Ans := fun xs => match xs with
  | [.agg [.int .i64 x0, .int .i64 x1, .nils], .agg [.int .i64 x2, .int .i64 x3, .nils]] => some (none, .bool (g68 x0 x1 x2 x3))
  | _ => none
theorem k68 : SOk Try.prog 68 s68 := ⟨⟨_, _, Try.func68, rfl, by kernel_rfl⟩, fun args pre r h _ => by
  unfold s68 at h; split at h <;> cases h; exact pc68 _ _ _ _⟩
noncomputable def g106_m1 (x0 : Int) (x1 : Int) (x2 : Int) (x3 : Int) (x4 : Int) (x5 : Int) (x6 : Int) (x7 : Int) : Bool := (bif (x0 == x4) then (bif (x1 == x5) then (g34 x2 x3 x6 x7) else false) else false)
noncomputable def g106 (x0 : Int) (x1 : Int) (x2 : Int) (x3 : Int) (x4 : Int) (x5 : Int) (x6 : Int) (x7 : Int) : Bool := (g106_m1 x0 x1 x2 x3 x4 x5 x6 x7)
noncomputable abbrev g106_e : Env := mkE [(34, s34)]
theorem g106_e_ok : g106_e.Ok := mkE_ok ⟨k34, trivial⟩
theorem pc106 (x0 : Int) (x1 : Int) (x2 : Int) (x3 : Int) (x4 : Int) (x5 : Int) (x6 : Int) (x7 : Int) : PureCall Try.prog 106 [.agg [.int .i64 x0, .int .i64 x1, .int .i64 x2, .nils, .int .i64 x3, .nils], .agg [.int .i64 x4, .int .i64 x5, .int .i64 x6, .nils, .int .i64 x7, .nils]] (.bool (g106 x0 x1 x2 x3 x4 x5 x6 x7)) := by
  refine pure_of_WP (E := g106_e) g106_e_ok Try.func106 rfl _ _ ?_
  refine WP.step g106_e_ok ⟨[U, U, .ptr 0 0, .ptr 1 0, .bool false, U, U, U, U, U, U, U, U, U, U, U, U, U, U, U, U, U, U, U], [[.int .i64 x0, .int .i64 x1, .int .i64 x2, .nils, .int .i64 x3, .nils], [.int .i64 x4, .int .i64 x5, .int .i64 x6, .nils, .int .i64 x7, .nils]]⟩ ((((.ptr 0 0 : AV) = .ptr 0 0) ∧ ((.ptr 1 0 : AV) = .ptr 1 0) ∧ (false = false) ∧ True) ∧ ((((x0 : Int) = x0) ∧ ((x1 : Int) = x1) ∧ ((x2 : Int) = x2) ∧ ((.nils : AV) = .nils) ∧ ((x3 : Int) = x3) ∧ ((.nils : AV) = .nils) ∧ True) ∧ (((x4 : Int) = x4) ∧ ((x5 : Int) = x5) ∧ ((x6 : Int) = x6) ∧ ((.nils : AV) = .nils) ∧ ((x7 : Int) = x7) ∧ ((.nils : AV) = .nils) ∧ True) ∧ True) ∧ true = true) (by kernel_rfl) ⟨⟨rfl, rfl, rfl, trivial⟩, ⟨⟨rfl, rfl, rfl, rfl, rfl, rfl, trivial⟩, ⟨rfl, rfl, rfl, rfl, rfl, rfl, trivial⟩, trivial⟩, rfl⟩ ?_
  refine WP.step g106_e_ok ⟨[U, U, U, U, .bool (g106_m1 x0 x1 x2 x3 x4 x5 x6 x7), U, U, U, U, U, U, U, U, U, U, U, U, U, U, U, U, U, U, U], [[.int .i64 x0, .int .i64 x1, .int .i64 x2, .nils, .int .i64 x3, .nils], [.int .i64 x4, .int .i64 x5, .int .i64 x6, .nils, .int .i64 x7, .nils]]⟩ (((x0 == x4) = true → (((x1 == x5) = true → ((((g34 x2 x3 x6 x7) = (g106_m1 x0 x1 x2 x3 x4 x5 x6 x7)) ∧ True) ∧ ((((x0 : Int) = x0) ∧ ((x1 : Int) = x1) ∧ ((x2 : Int) = x2) ∧ ((.nils : AV) = .nils) ∧ ((x3 : Int) = x3) ∧ ((.nils : AV) = .nils) ∧ True) ∧ (((x4 : Int) = x4) ∧ ((x5 : Int) = x5) ∧ ((x6 : Int) = x6) ∧ ((.nils : AV) = .nils) ∧ ((x7 : Int) = x7) ∧ ((.nils : AV) = .nils) ∧ True) ∧ True) ∧ true = true)) ∧ ((x1 == x5) = false → (((false = (g106_m1 x0 x1 x2 x3 x4 x5 x6 x7)) ∧ True) ∧ ((((x0 : Int) = x0) ∧ ((x1 : Int) = x1) ∧ ((x2 : Int) = x2) ∧ ((.nils : AV) = .nils) ∧ ((x3 : Int) = x3) ∧ ((.nils : AV) = .nils) ∧ True) ∧ (((x4 : Int) = x4) ∧ ((x5 : Int) = x5) ∧ ((x6 : Int) = x6) ∧ ((.nils : AV) = .nils) ∧ ((x7 : Int) = x7) ∧ ((.nils : AV) = .nils) ∧ True) ∧ True) ∧ true = true)))) ∧ ((x0 == x4) = false → (((false = (g106_m1 x0 x1 x2 x3 x4 x5 x6 x7)) ∧ True) ∧ ((((x0 : Int) = x0) ∧ ((x1 : Int) = x1) ∧ ((x2 : Int) = x2) ∧ ((.nils : AV) = .nils) ∧ ((x3 : Int) = x3) ∧ ((.nils : AV) = .nils) ∧ True) ∧ (((x4 : Int) = x4) ∧ ((x5 : Int) = x5) ∧ ((x6 : Int) = x6) ∧ ((.nils : AV) = .nils) ∧ ((x7 : Int) = x7) ∧ ((.nils : AV) = .nils) ∧ True) ∧ True) ∧ true = true))) (by kernel_rfl) ⟨fun h1 => ⟨fun h2 => ⟨⟨(eqT h1 (eqT h2 rfl)), trivial⟩, ⟨⟨rfl, rfl, rfl, rfl, rfl, rfl, trivial⟩, ⟨rfl, rfl, rfl, rfl, rfl, rfl, trivial⟩, trivial⟩, rfl⟩, fun h2 => ⟨⟨(eqT h1 (eqF h2 rfl)), trivial⟩, ⟨⟨rfl, rfl, rfl, rfl, rfl, rfl, trivial⟩, ⟨rfl, rfl, rfl, rfl, rfl, rfl, trivial⟩, trivial⟩, rfl⟩⟩, fun h1 => ⟨⟨(eqF h1 rfl), trivial⟩, ⟨⟨rfl, rfl, rfl, rfl, rfl, rfl, trivial⟩, ⟨rfl, rfl, rfl, rfl, rfl, rfl, trivial⟩, trivial⟩, rfl⟩⟩ ?_
  exact WP.retP (True ∧ ((.bool (g106_m1 x0 x1 x2 x3 x4 x5 x6 x7) : AV) = .bool (g106 x0 x1 x2 x3 x4 x5 x6 x7))) (by kernel_rfl) ⟨trivial, rfl⟩
noncomputable def s106 : Ans := fun xs => match xs with
  | [.agg [.int .i64 x0, .int .i64 x1, .int .i64 x2, .nils, .int .i64 x3, .nils], .agg [.int .i64 x4, .int .i64 x5, .int .i64 x6, .nils, .int .i64 x7, .nils]] => some (none, .bool (g106 x0 x1 x2 x3 x4 x5 x6 x7))
  | _ => none
theorem k106 : SOk Try.prog 106 s106 := ⟨⟨_, _, Try.func106, rfl, by kernel_rfl⟩, fun args pre r h _ => by
  unfold s106 at h; split at h <;> cases h; exact pc106 _ _ _ _ _ _ _ _⟩
noncomputable def g37_m1 (x0 : Int) (x1 : Int) (x2 : Int) (x3 : Int) (x4 : Int) (x5 : Int) (x6 : Int) (x7 : Int) (x8 : Int) (x9 : Int) (x10 : Int) (x11 : Int) (x12 : Int) (x13 : Int) (x14 : Int) (x15 : Int) : Bool := (bif (x0 == x8) then (bif (x1 == x9) then (bif (g106 x2 x3 x4 x5 x10 x11 x12 x13) then (g68 x6 x7 x14 x15) else false) else false) else false)
noncomputable def g37 (x0 : Int) (x1 : Int) (x2 : Int) (x3 : Int) (x4 : Int) (x5 : Int) (x6 : Int) (x7 : Int) (x8 : Int) (x9 : Int) (x10 : Int) (x11 : Int) (x12 : Int) (x13 : Int) (x14 : Int) (x15 : Int) : Bool := (g37_m1 x0 x1 x2 x3 x4 x5 x6 x7 x8 x9 x10 x11 x12 x13 x14 x15)
noncomputable abbrev g37_e : Env := mkE [(68, s68), (106, s106)]
theorem g37_e_ok : g37_e.Ok := mkE_ok ⟨k68, k106, trivial⟩
theorem pc37 (x0 : Int) (x1 : Int) (x2 : Int) (x3 : Int) (x4 : Int) (x5 : Int) (x6 : Int) (x7 : Int) (x8 : Int) (x9 : Int) (x10 : Int) (x11 : Int) (x12 : Int) (x13 : Int) (x14 : Int) (x15 : Int) : PureCall Try.prog 37 [.agg [.int .i64 x0, .int .i64 x1, .int .i64 x2, .int .i64 x3, .int .i64 x4, .nils, .int .i64 x5, .nils, .int .i64 x6, .int .i64 x7, .nils], .agg [.int .i64 x8, .int .i64 x9, .int .i64 x10, .int .i64 x11, .int .i64 x12, .nils, .int .i64 x13, .nils, .int .i64 x14, .int .i64 x15, .nils]] (.bool (g37 x0 x1 x2 x3 x4 x5 x6 x7 x8 x9 x10 x11 x12 x13 x14 x15)) := by
  refine pure_of_WP (E := g37_e) g37_e_ok Try.func37 rfl _ _ ?_
  refine WP.step g37_e_ok ⟨[U, U, .ptr 0 0, .ptr 1 0, .bool false, U, U, U, U, U, U, U, U, U, U, U, U, U, U, U, U, U, U, U, U, U, U, U, U, U, U], [[.int .i64 x0, .int .i64 x1, .int .i64 x2, .int .i64 x3, .int .i64 x4, .nils, .int .i64 x5, .nils, .int .i64 x6, .int .i64 x7, .nils], [.int .i64 x8, .int .i64 x9, .int .i64 x10, .int .i64 x11, .int .i64 x12, .nils, .int .i64 x13, .nils, .int .i64 x14, .int .i64 x15, .nils]]⟩ ((((.ptr 0 0 : AV) = .ptr 0 0) ∧ ((.ptr 1 0 : AV) = .ptr 1 0) ∧ (false = false) ∧ True) ∧ ((((x0 : Int) = x0) ∧ ((x1 : Int) = x1) ∧ ((x2 : Int) = x2) ∧ ((x3 : Int) = x3) ∧ ((x4 : Int) = x4) ∧ ((.nils : AV) = .nils) ∧ ((x5 : Int) = x5) ∧ ((.nils : AV) = .nils) ∧ ((x6 : Int) = x6) ∧ ((x7 : Int) = x7) ∧ ((.nils : AV) = .nils) ∧ True) ∧ (((x8 : Int) = x8) ∧ ((x9 : Int) = x9) ∧ ((x10 : Int) = x10) ∧ ((x11 : Int) = x11) ∧ ((x12 : Int) = x12) ∧ ((.nils : AV) = .nils) ∧ ((x13 : Int) = x13) ∧ ((.nils : AV) = .nils) ∧ ((x14 : Int) = x14) ∧ ((x15 : Int) = x15) ∧ ((.nils : AV) = .nils) ∧ True) ∧ True) ∧ true = true) (by kernel_rfl) ⟨⟨rfl, rfl, rfl, trivial⟩, ⟨⟨rfl, rfl, rfl, rfl, rfl, rfl, rfl, rfl, rfl, rfl, rfl, trivial⟩, ⟨rfl, rfl, rfl, rfl, rfl, rfl, rfl, rfl, rfl, rfl, rfl, trivial⟩, trivial⟩, rfl⟩ ?_
  refine WP.step g37_e_ok ⟨[U, U, U, U, .bool (g37_m1 x0 x1 x2 x3 x4 x5 x6 x7 x8 x9 x10 x11 x12 x13 x14 x15), U, U, U, U, U, U, U, U, U, U, U, U, U, U, U, U, U, U, U, U, U, U, U, U, U, U], [[.int .i64 x0, .int .i64 x1, .int .i64 x2, .int .i64 x3, .int .i64 x4, .nils, .int .i64 x5, .nils, .int .i64 x6, .int .i64 x7, .nils], [.int .i64 x8, .int .i64 x9, .int .i64 x10, .int .i64 x11, .int .i64 x12, .nils, .int .i64 x13, .nils, .int .i64 x14, .int .i64 x15, .nils]]⟩ (((x0 == x8) = true → (((x1 == x9) = true → (((g106 x2 x3 x4 x5 x10 x11 x12 x13) = true → ((((g68 x6 x7 x14 x15) = (g37_m1 x0 x1 x2 x3 x4 x5 x6 x7 x8 x9 x10 x11 x12 x13 x14 x15)) ∧ True) ∧ ((((x0 : Int) = x0) ∧ ((x1 : Int) = x1) ∧ ((x2 : Int) = x2) ∧ ((x3 : Int) = x3) ∧ ((x4 : Int) = x4) ∧ ((.nils : AV) = .nils) ∧ ((x5 : Int) = x5) ∧ ((.nils : AV) = .nils) ∧ ((x6 : Int) = x6) ∧ ((x7 : Int) = x7) ∧ ((.nils : AV) = .nils) ∧ True) ∧ (((x8 : Int) = x8) ∧ ((x9 : Int) = x9) ∧ ((x10 : Int) = x10) ∧ ((x11 : Int) = x11) ∧ ((x12 : Int) = x12) ∧ ((.nils : AV) = .nils) ∧ ((x13 : Int) = x13) ∧ ((.nils : AV) = .nils) ∧ ((x14 : Int) = x14) ∧ ((x15 : Int) = x15) ∧ ((.nils : AV) = .nils) ∧ True) ∧ True) ∧ true = true)) ∧ ((g106 x2 x3 x4 x5 x10 x11 x12 x13) = false → (((false = (g37_m1 x0 x1 x2 x3 x4 x5 x6 x7 x8 x9 x10 x11 x12 x13 x14 x15)) ∧ True) ∧ ((((x0 : Int) = x0) ∧ ((x1 : Int) = x1) ∧ ((x2 : Int) = x2) ∧ ((x3 : Int) = x3) ∧ ((x4 : Int) = x4) ∧ ((.nils : AV) = .nils) ∧ ((x5 : Int) = x5) ∧ ((.nils : AV) = .nils) ∧ ((x6 : Int) = x6) ∧ ((x7 : Int) = x7) ∧ ((.nils : AV) = .nils) ∧ True) ∧ (((x8 : Int) = x8) ∧ ((x9 : Int) = x9) ∧ ((x10 : Int) = x10) ∧ ((x11 : Int) = x11) ∧ ((x12 : Int) = x12) ∧ ((.nils : AV) = .nils) ∧ ((x13 : Int) = x13) ∧ ((.nils : AV) = .nils) ∧ ((x14 : Int) = x14) ∧ ((x15 : Int) = x15) ∧ ((.nils : AV) = .nils) ∧ True) ∧ True) ∧ true = true)))) ∧ ((x1 == x9) = false → (((false = (g37_m1 x0 x1 x2 x3 x4 x5 x6 x7 x8 x9 x10 x11 x12 x13 x14 x15)) ∧ True) ∧ ((((x0 : Int) = x0) ∧ ((x1 : Int) = x1) ∧ ((x2 : Int) = x2) ∧ ((x3 : Int) = x3) ∧ ((x4 : Int) = x4) ∧ ((.nils : AV) = .nils) ∧ ((x5 : Int) = x5) ∧ ((.nils : AV) = .nils) ∧ ((x6 : Int) = x6) ∧ ((x7 : Int) = x7) ∧ ((.nils : AV) = .nils) ∧ True) ∧ (((x8 : Int) = x8) ∧ ((x9 : Int) = x9) ∧ ((x10 : Int) = x10) ∧ ((x11 : Int) = x11) ∧ ((x12 : Int) = x12) ∧ ((.nils : AV) = .nils) ∧ ((x13 : Int) = x13) ∧ ((.nils : AV) = .nils) ∧ ((x14 : Int) = x14) ∧ ((x15 : Int) = x15) ∧ ((.nils : AV) = .nils) ∧ True) ∧ True) ∧ true = true)))) ∧ ((x0 == x8) = false → (((false = (g37_m1 x0 x1 x2 x3 x4 x5 x6 x7 x8 x9 x10 x11 x12 x13 x14 x15)) ∧ True) ∧ ((((x0 : Int) = x0) ∧ ((x1 : Int) = x1) ∧ ((x2 : Int) = x2) ∧ ((x3 : Int) = x3) ∧ ((x4 : Int) = x4) ∧ ((.nils : AV) = .nils) ∧ ((x5 : Int) = x5) ∧ ((.nils : AV) = .nils) ∧ ((x6 : Int) = x6) ∧ ((x7 : Int) = x7) ∧ ((.nils : AV) = .nils) ∧ True) ∧ (((x8 : Int) = x8) ∧ ((x9 : Int) = x9) ∧ ((x10 : Int) = x10) ∧ ((x11 : Int) = x11) ∧ ((x12 : Int) = x12) ∧ ((.nils : AV) = .nils) ∧ ((x13 : Int) = x13) ∧ ((.nils : AV) = .nils) ∧ ((x14 : Int) = x14) ∧ ((x15 : Int) = x15) ∧ ((.nils : AV) = .nils) ∧ True) ∧ True) ∧ true = true))) (by kernel_rfl) ⟨fun h1 => ⟨fun h2 => ⟨fun h3 => ⟨⟨(eqT h1 (eqT h2 (eqT h3 rfl))), trivial⟩, ⟨⟨rfl, rfl, rfl, rfl, rfl, rfl, rfl, rfl, rfl, rfl, rfl, trivial⟩, ⟨rfl, rfl, rfl, rfl, rfl, rfl, rfl, rfl, rfl, rfl, rfl, trivial⟩, trivial⟩, rfl⟩, fun h3 => ⟨⟨(eqT h1 (eqT h2 (eqF h3 rfl))), trivial⟩, ⟨⟨rfl, rfl, rfl, rfl, rfl, rfl, rfl, rfl, rfl, rfl, rfl, trivial⟩, ⟨rfl, rfl, rfl, rfl, rfl, rfl, rfl, rfl, rfl, rfl, rfl, trivial⟩, trivial⟩, rfl⟩⟩, fun h2 => ⟨⟨(eqT h1 (eqF h2 rfl)), trivial⟩, ⟨⟨rfl, rfl, rfl, rfl, rfl, rfl, rfl, rfl, rfl, rfl, rfl, trivial⟩, ⟨rfl, rfl, rfl, rfl, rfl, rfl, rfl, rfl, rfl, rfl, rfl, trivial⟩, trivial⟩, rfl⟩⟩, fun h1 => ⟨⟨(eqF h1 rfl), trivial⟩, ⟨⟨rfl, rfl, rfl, rfl, rfl, rfl, rfl, rfl, rfl, rfl, rfl, trivial⟩, ⟨rfl, rfl, rfl, rfl, rfl, rfl, rfl, rfl, rfl, rfl, rfl, trivial⟩, trivial⟩, rfl⟩⟩ ?_
  exact WP.retP (True ∧ ((.bool (g37_m1 x0 x1 x2 x3 x4 x5 x6 x7 x8 x9 x10 x11 x12 x13 x14 x15) : AV) = .bool (g37 x0 x1 x2 x3 x4 x5 x6 x7 x8 x9 x10 x11 x12 x13 x14 x15))) (by kernel_rfl) ⟨trivial, rfl⟩
noncomputable def s37 : Ans := fun xs => match xs with
  | [.agg [.int .i64 x0, .int .i64 x1, .int .i64 x2, .int .i64 x3, .int .i64 x4, .nils, .int .i64 x5, .nils, .int .i64 x6, .int .i64 x7, .nils], .agg [.int .i64 x8, .int .i64 x9, .int .i64 x10, .int .i64 x11, .int .i64 x12, .nils, .int .i64 x13, .nils, .int .i64 x14, .int .i64 x15, .nils]] => some (none, .bool (g37 x0 x1 x2 x3 x4 x5 x6 x7 x8 x9 x10 x11 x12 x13 x14 x15))
  | _ => none
theorem k37 : SOk Try.prog 37 s37 := ⟨⟨_, _, Try.func37, rfl, by kernel_rfl⟩, fun args pre r h _ => by
  unfold s37 at h; split at h <;> cases h; exact pc37 _ _ _ _ _ _ _ _ _ _ _ _ _ _ _ _⟩
noncomputable def g5 : Bool := (g37 g35_0 g35_1 g35_2 g35_3 g35_4 g35_6 g35_8 g35_9 g36_0 g36_1 g36_2 g36_3 g36_4 g36_6 g36_8 g36_9)
noncomputable abbrev g5_e : Env := mkE [(35, s35), (36, s36), (37, s37)]
theorem g5_e_ok : g5_e.Ok := mkE_ok ⟨k35, k36, k37, trivial⟩
theorem pc5  : PureCall Try.prog 5 [] (.bool g5) := by
  refine pure_of_WP (E := g5_e) g5_e_ok Try.func5 rfl _ _ ?_
  refine WP.step g5_e_ok ⟨[.bool false, U, U, U, U, U, U, U], []⟩ (((false = false) ∧ True) ∧ True ∧ true = true) (by kernel_rfl) ⟨⟨rfl, trivial⟩, trivial, rfl⟩ ?_
  refine WP.step g5_e_ok ⟨[.bool false, .ptr 0 0, U, U, U, U, U, U], [[.int .i64 g35_0, .int .i64 g35_1, .int .i64 g35_2, .int .i64 g35_3, .int .i64 g35_4, .nils, .int .i64 g35_6, .nils, .int .i64 g35_8, .int .i64 g35_9, .nils]]⟩ (((false = false) ∧ ((.ptr 0 0 : AV) = .ptr 0 0) ∧ True) ∧ ((((g35_0 : Int) = g35_0) ∧ ((g35_1 : Int) = g35_1) ∧ ((g35_2 : Int) = g35_2) ∧ ((g35_3 : Int) = g35_3) ∧ ((g35_4 : Int) = g35_4) ∧ ((.nils : AV) = .nils) ∧ ((g35_6 : Int) = g35_6) ∧ ((.nils : AV) = .nils) ∧ ((g35_8 : Int) = g35_8) ∧ ((g35_9 : Int) = g35_9) ∧ ((.nils : AV) = .nils) ∧ True) ∧ True) ∧ true = true) (by kernel_rfl) ⟨⟨rfl, rfl, trivial⟩, ⟨⟨rfl, rfl, rfl, rfl, rfl, rfl, rfl, rfl, rfl, rfl, rfl, trivial⟩, trivial⟩, rfl⟩ ?_
  refine WP.step g5_e_ok ⟨[.bool false, .ptr 0 0, .ptr 1 0, U, U, U, U, U], [[.int .i64 g35_0, .int .i64 g35_1, .int .i64 g35_2, .int .i64 g35_3, .int .i64 g35_4, .nils, .int .i64 g35_6, .nils, .int .i64 g35_8, .int .i64 g35_9, .nils], [.int .i64 g36_0, .int .i64 g36_1, .int .i64 g36_2, .int .i64 g36_3, .int .i64 g36_4, .nils, .int .i64 g36_6, .nils, .int .i64 g36_8, .int .i64 g36_9, .nils]]⟩ (((false = false) ∧ ((.ptr 0 0 : AV) = .ptr 0 0) ∧ ((.ptr 1 0 : AV) = .ptr 1 0) ∧ True) ∧ ((((g35_0 : Int) = g35_0) ∧ ((g35_1 : Int) = g35_1) ∧ ((g35_2 : Int) = g35_2) ∧ ((g35_3 : Int) = g35_3) ∧ ((g35_4 : Int) = g35_4) ∧ ((.nils : AV) = .nils) ∧ ((g35_6 : Int) = g35_6) ∧ ((.nils : AV) = .nils) ∧ ((g35_8 : Int) = g35_8) ∧ ((g35_9 : Int) = g35_9) ∧ ((.nils : AV) = .nils) ∧ True) ∧ (((g36_0 : Int) = g36_0) ∧ ((g36_1 : Int) = g36_1) ∧ ((g36_2 : Int) = g36_2) ∧ ((g36_3 : Int) = g36_3) ∧ ((g36_4 : Int) = g36_4) ∧ ((.nils : AV) = .nils) ∧ ((g36_6 : Int) = g36_6) ∧ ((.nils : AV) = .nils) ∧ ((g36_8 : Int) = g36_8) ∧ ((g36_9 : Int) = g36_9) ∧ ((.nils : AV) = .nils) ∧ True) ∧ True) ∧ true = true) (by kernel_rfl) ⟨⟨rfl, rfl, rfl, trivial⟩, ⟨⟨rfl, rfl, rfl, rfl, rfl, rfl, rfl, rfl, rfl, rfl, rfl, trivial⟩, ⟨rfl, rfl, rfl, rfl, rfl, rfl, rfl, rfl, rfl, rfl, rfl, trivial⟩, trivial⟩, rfl⟩ ?_
  refine WP.step g5_e_ok ⟨[.bool (g37 g35_0 g35_1 g35_2 g35_3 g35_4 g35_6 g35_8 g35_9 g36_0 g36_1 g36_2 g36_3 g36_4 g36_6 g36_8 g36_9), U, U, U, U, U, U, U], [[.int .i64 g35_0, .int .i64 g35_1, .int .i64 g35_2, .int .i64 g35_3, .int .i64 g35_4, .nils, .int .i64 g35_6, .nils, .int .i64 g35_8, .int .i64 g35_9, .nils], [.int .i64 g36_0, .int .i64 g36_1, .int .i64 g36_2, .int .i64 g36_3, .int .i64 g36_4, .nils, .int .i64 g36_6, .nils, .int .i64 g36_8, .int .i64 g36_9, .nils]]⟩ ((((g37 g35_0 g35_1 g35_2 g35_3 g35_4 g35_6 g35_8 g35_9 g36_0 g36_1 g36_2 g36_3 g36_4 g36_6 g36_8 g36_9) = (g37 g35_0 g35_1 g35_2 g35_3 g35_4 g35_6 g35_8 g35_9 g36_0 g36_1 g36_2 g36_3 g36_4 g36_6 g36_8 g36_9)) ∧ True) ∧ ((((g35_0 : Int) = g35_0) ∧ ((g35_1 : Int) = g35_1) ∧ ((g35_2 : Int) = g35_2) ∧ ((g35_3 : Int) = g35_3) ∧ ((g35_4 : Int) = g35_4) ∧ ((.nils : AV) = .nils) ∧ ((g35_6 : Int) = g35_6) ∧ ((.nils : AV) = .nils) ∧ ((g35_8 : Int) = g35_8) ∧ ((g35_9 : Int) = g35_9) ∧ ((.nils : AV) = .nils) ∧ True) ∧ (((g36_0 : Int) = g36_0) ∧ ((g36_1 : Int) = g36_1) ∧ ((g36_2 : Int) = g36_2) ∧ ((g36_3 : Int) = g36_3) ∧ ((g36_4 : Int) = g36_4) ∧ ((.nils : AV) = .nils) ∧ ((g36_6 : Int) = g36_6) ∧ ((.nils : AV) = .nils) ∧ ((g36_8 : Int) = g36_8) ∧ ((g36_9 : Int) = g36_9) ∧ ((.nils : AV) = .nils) ∧ True) ∧ True) ∧ true = true) (by kernel_rfl) ⟨⟨rfl, trivial⟩, ⟨⟨rfl, rfl, rfl, rfl, rfl, rfl, rfl, rfl, rfl, rfl, rfl, trivial⟩, ⟨rfl, rfl, rfl, rfl, rfl, rfl, rfl, rfl, rfl, rfl, rfl, trivial⟩, trivial⟩, rfl⟩ ?_
  exact WP.retP (True ∧ ((.bool (g37 g35_0 g35_1 g35_2 g35_3 g35_4 g35_6 g35_8 g35_9 g36_0 g36_1 g36_2 g36_3 g36_4 g36_6 g36_8 g36_9) : AV) = .bool g5)) (by kernel_rfl) ⟨trivial, rfl⟩
noncomputable def s5 : Ans := fun xs => match xs with
  | [] => some (none, .bool g5)
  | _ => none
theorem k5 : SOk Try.prog 5 s5 := ⟨⟨_, _, Try.func5, rfl, by kernel_rfl⟩, fun args pre r h _ => by
  unfold s5 at h; split at h <;> cases h; exact pc5⟩
end Go.Proofs.Ytchhfojblmceiaa
