/-
  WALKS of the road of rostrumlaw.ClientCalls.
-/
import Derived.Test.YtchhfojblmceiaaW1
namespace Go.Proofs.Ytchhfojblmceiaa
open Go Go.Vc Go.RowKit
set_option maxRecDepth 100000
set_option maxHeartbeats 4000000
noncomputable def g119_m1 (x0 : Int) : Bool := (bif (decide (x0 ≥ 1)) then (decide (x0 ≤ 1048576)) else false)
noncomputable def g119 (x0 : Int) : Bool := (g119_m1 x0)
noncomputable abbrev g119_e : Env := mkE []
theorem g119_e_ok : g119_e.Ok := mkE_ok trivial
theorem pc119 (x0 : Int) : PureCall Try.prog 119 [.int .i64 x0] (.bool (g119 x0)) := by
  refine pure_of_WP (E := g119_e) g119_e_ok Try.func119 rfl _ _ ?_
  refine WP.step g119_e_ok ⟨[.int .i64 x0, U, .bool false, U, U, U, U, U, U], []⟩ ((((x0 : Int) = x0) ∧ (false = false) ∧ True) ∧ True) (by kernel_rfl) ⟨⟨rfl, rfl, trivial⟩, trivial⟩ ?_
  refine WP.step g119_e_ok ⟨[U, U, .bool (g119_m1 x0), U, U, U, U, U, U], []⟩ (((decide (x0 ≥ 1)) = true → ((((decide (x0 ≤ 1048576)) = (g119_m1 x0)) ∧ True) ∧ True)) ∧ ((decide (x0 ≥ 1)) = false → (((false = (g119_m1 x0)) ∧ True) ∧ True))) (by kernel_rfl) ⟨fun h1 => ⟨⟨(eqT h1 rfl), trivial⟩, trivial⟩, fun h1 => ⟨⟨(eqF h1 rfl), trivial⟩, trivial⟩⟩ ?_
  exact WP.retP (True ∧ ((.bool (g119_m1 x0) : AV) = .bool (g119 x0))) (by kernel_rfl) ⟨trivial, rfl⟩
noncomputable def s119 : Ans := fun xs => match xs with
  | [.int .i64 x0] => some (none, .bool (g119 x0))
  | _ => none
theorem k119 : SOk Try.prog 119 s119 := ⟨⟨_, _, Try.func119, rfl, by kernel_rfl⟩, fun args pre r h _ => by
  unfold s119 at h; split at h <;> cases h; exact pc119 _⟩
noncomputable def g120 (x0 : Int) : Bool := (g112 x0 1 1048576)
noncomputable abbrev g120_e : Env := mkE [(112, s112)]
theorem g120_e_ok : g120_e.Ok := mkE_ok ⟨k112, trivial⟩
theorem pc120 (x0 : Int) : PureCall Try.prog 120 [.int .i64 x0] (.bool (g120 x0)) := by
  refine pure_of_WP (E := g120_e) g120_e_ok Try.func120 rfl _ _ ?_
  refine WP.step g120_e_ok ⟨[.int .i64 x0, U, .bool false, U, U], []⟩ ((((x0 : Int) = x0) ∧ (false = false) ∧ True) ∧ True) (by kernel_rfl) ⟨⟨rfl, rfl, trivial⟩, trivial⟩ ?_
  refine WP.step g120_e_ok ⟨[U, U, .bool (g112 x0 1 1048576), U, U], []⟩ ((((g112 x0 1 1048576) = (g112 x0 1 1048576)) ∧ True) ∧ True) (by kernel_rfl) ⟨⟨rfl, trivial⟩, trivial⟩ ?_
  exact WP.retP (True ∧ ((.bool (g112 x0 1 1048576) : AV) = .bool (g120 x0))) (by kernel_rfl) ⟨trivial, rfl⟩
noncomputable def s120 : Ans := fun xs => match xs with
  | [.int .i64 x0] => some (none, .bool (g120 x0))
  | _ => none
theorem k120 : SOk Try.prog 120 s120 := ⟨⟨_, _, Try.func120, rfl, by kernel_rfl⟩, fun args pre r h _ => by
  unfold s120 at h; split at h <;> cases h; exact pc120 _⟩
noncomputable def g49_m1 (x0 : Int) (x1 : Int) : Bool := (bif (!(g119 x0)) then true else (!(g119 x1)))
noncomputable def g49 (x0 : Int) (x1 : Int) (x2 : Int) (x3 : ByteArray) (x4 : ByteArray) (x5 : ByteArray) (x6 : Int) : Int := (bif (x0 == 0) then (bif (!((x0 == 0) && ((x1 == 0) && ((x2 == 0) && (((x3 : ByteArray).toList == (⟨#[]⟩ : ByteArray).toList) && (((x4 : ByteArray).toList == (⟨#[]⟩ : ByteArray).toList) && (((x5 : ByteArray).toList == (⟨#[]⟩ : ByteArray).toList) && ((x6 == 0) && true)))))))) then 8 else 0) else (bif (g49_m1 x0 x1) then 2 else (g47 x2 x3 x4 x5 x6)))
noncomputable abbrev g49_e : Env := mkE [(47, s47), (119, s119)]
theorem g49_e_ok : g49_e.Ok := mkE_ok ⟨k47, k119, trivial⟩
theorem pc49 (x0 : Int) (x1 : Int) (x2 : Int) (x3 : ByteArray) (x4 : ByteArray) (x5 : ByteArray) (x6 : Int) : PureCall Try.prog 49 [.agg [.int .i64 x0, .int .i64 x1, .int .i64 x2, .str x3, .str x4, .str x5, .int .i64 x6]] (.int .i64 (g49 x0 x1 x2 x3 x4 x5 x6)) := by
  refine pure_of_WP (E := g49_e) g49_e_ok Try.func49 rfl _ _ ?_
  refine WP.step g49_e_ok ⟨[U, .ptr 0 0, .int .i64 0, U, U, U, U, U, U, U, U, U, U, U, U, U, U, U, U, U, U, U], [[.int .i64 x0, .int .i64 x1, .int .i64 x2, .str x3, .str x4, .str x5, .int .i64 x6]]⟩ ((((.ptr 0 0 : AV) = .ptr 0 0) ∧ ((0 : Int) = 0) ∧ True) ∧ ((((x0 : Int) = x0) ∧ ((x1 : Int) = x1) ∧ ((x2 : Int) = x2) ∧ ((x3 : ByteArray) = x3) ∧ ((x4 : ByteArray) = x4) ∧ ((x5 : ByteArray) = x5) ∧ ((x6 : Int) = x6) ∧ True) ∧ True)) (by kernel_rfl) ⟨⟨rfl, rfl, trivial⟩, ⟨⟨rfl, rfl, rfl, rfl, rfl, rfl, rfl, trivial⟩, trivial⟩⟩ ?_
  refine WP.seq ?_
  refine WP.step g49_e_ok ⟨[U, .ptr 0 0, .int .i64 0, U, U, .bool (x0 == 0), U, U, U, U, U, U, U, U, U, U, U, U, U, U, U, U], [[.int .i64 x0, .int .i64 x1, .int .i64 x2, .str x3, .str x4, .str x5, .int .i64 x6]]⟩ ((((.ptr 0 0 : AV) = .ptr 0 0) ∧ ((0 : Int) = 0) ∧ ((x0 == 0) = (x0 == 0)) ∧ True) ∧ ((((x0 : Int) = x0) ∧ ((x1 : Int) = x1) ∧ ((x2 : Int) = x2) ∧ ((x3 : ByteArray) = x3) ∧ ((x4 : ByteArray) = x4) ∧ ((x5 : ByteArray) = x5) ∧ ((x6 : Int) = x6) ∧ True) ∧ True)) (by kernel_rfl) ⟨⟨rfl, rfl, rfl, trivial⟩, ⟨⟨rfl, rfl, rfl, rfl, rfl, rfl, rfl, trivial⟩, trivial⟩⟩ ?_
  refine WP.condR (x0 == 0) rfl (fun h1 => ?_) (fun h1 => ?_)
  · skip
    refine WP.seq ?_
    refine WP.step g49_e_ok ⟨[U, .ptr 0 0, .int .i64 0, U, U, U, U, U, .bool (!((x0 == 0) && ((x1 == 0) && ((x2 == 0) && (((x3 : ByteArray).toList == (⟨#[]⟩ : ByteArray).toList) && (((x4 : ByteArray).toList == (⟨#[]⟩ : ByteArray).toList) && (((x5 : ByteArray).toList == (⟨#[]⟩ : ByteArray).toList) && ((x6 == 0) && true)))))))), U, U, U, U, U, U, U, U, U, U, U, U, U], [[.int .i64 x0, .int .i64 x1, .int .i64 x2, .str x3, .str x4, .str x5, .int .i64 x6]]⟩ ((((.ptr 0 0 : AV) = .ptr 0 0) ∧ ((0 : Int) = 0) ∧ ((!((x0 == 0) && ((x1 == 0) && ((x2 == 0) && (((x3 : ByteArray).toList == (⟨#[]⟩ : ByteArray).toList) && (((x4 : ByteArray).toList == (⟨#[]⟩ : ByteArray).toList) && (((x5 : ByteArray).toList == (⟨#[]⟩ : ByteArray).toList) && ((x6 == 0) && true)))))))) = (!((x0 == 0) && ((x1 == 0) && ((x2 == 0) && (((x3 : ByteArray).toList == (⟨#[]⟩ : ByteArray).toList) && (((x4 : ByteArray).toList == (⟨#[]⟩ : ByteArray).toList) && (((x5 : ByteArray).toList == (⟨#[]⟩ : ByteArray).toList) && ((x6 == 0) && true))))))))) ∧ True) ∧ ((((x0 : Int) = x0) ∧ ((x1 : Int) = x1) ∧ ((x2 : Int) = x2) ∧ ((x3 : ByteArray) = x3) ∧ ((x4 : ByteArray) = x4) ∧ ((x5 : ByteArray) = x5) ∧ ((x6 : Int) = x6) ∧ True) ∧ True)) (by kernel_rfl) ⟨⟨rfl, rfl, rfl, trivial⟩, ⟨⟨rfl, rfl, rfl, rfl, rfl, rfl, rfl, trivial⟩, trivial⟩⟩ ?_
    refine WP.condR (!((x0 == 0) && ((x1 == 0) && ((x2 == 0) && (((x3 : ByteArray).toList == (⟨#[]⟩ : ByteArray).toList) && (((x4 : ByteArray).toList == (⟨#[]⟩ : ByteArray).toList) && (((x5 : ByteArray).toList == (⟨#[]⟩ : ByteArray).toList) && ((x6 == 0) && true)))))))) rfl (fun h2 => ?_) (fun h2 => ?_)
    · skip
      refine WP.step g49_e_ok ⟨[U, .ptr 0 0, .int .i64 8, U, U, U, U, U, U, U, U, U, U, U, U, U, U, U, U, U, U, U], [[.int .i64 x0, .int .i64 x1, .int .i64 x2, .str x3, .str x4, .str x5, .int .i64 x6]]⟩ ((((.ptr 0 0 : AV) = .ptr 0 0) ∧ ((8 : Int) = 8) ∧ True) ∧ ((((x0 : Int) = x0) ∧ ((x1 : Int) = x1) ∧ ((x2 : Int) = x2) ∧ ((x3 : ByteArray) = x3) ∧ ((x4 : ByteArray) = x4) ∧ ((x5 : ByteArray) = x5) ∧ ((x6 : Int) = x6) ∧ True) ∧ True)) (by kernel_rfl) ⟨⟨rfl, rfl, trivial⟩, ⟨⟨rfl, rfl, rfl, rfl, rfl, rfl, rfl, trivial⟩, trivial⟩⟩ ?_
      exact WP.retP (True ∧ ((.int .i64 8 : AV) = .int .i64 (g49 x0 x1 x2 x3 x4 x5 x6))) (by kernel_rfl) ⟨trivial, (congrArg (AV.int .i64) (eqT h1 (eqT h2 rfl)))⟩
    · skip
      refine WP.skip ?_
      refine WP.step g49_e_ok ⟨[U, .ptr 0 0, .int .i64 0, U, U, U, U, U, U, U, U, U, U, U, U, U, U, U, U, U, U, U], [[.int .i64 x0, .int .i64 x1, .int .i64 x2, .str x3, .str x4, .str x5, .int .i64 x6]]⟩ ((((.ptr 0 0 : AV) = .ptr 0 0) ∧ ((0 : Int) = 0) ∧ True) ∧ ((((x0 : Int) = x0) ∧ ((x1 : Int) = x1) ∧ ((x2 : Int) = x2) ∧ ((x3 : ByteArray) = x3) ∧ ((x4 : ByteArray) = x4) ∧ ((x5 : ByteArray) = x5) ∧ ((x6 : Int) = x6) ∧ True) ∧ True)) (by kernel_rfl) ⟨⟨rfl, rfl, trivial⟩, ⟨⟨rfl, rfl, rfl, rfl, rfl, rfl, rfl, trivial⟩, trivial⟩⟩ ?_
      exact WP.retP (True ∧ ((.int .i64 0 : AV) = .int .i64 (g49 x0 x1 x2 x3 x4 x5 x6))) (by kernel_rfl) ⟨trivial, (congrArg (AV.int .i64) (eqT h1 (eqF h2 rfl)))⟩
  · skip
    refine WP.skip ?_
    refine WP.seq ?_
    refine WP.step g49_e_ok ⟨[U, .ptr 0 0, .int .i64 0, U, U, U, U, U, U, U, U, U, U, U, U, U, U, U, .bool (g49_m1 x0 x1), U, U, U], [[.int .i64 x0, .int .i64 x1, .int .i64 x2, .str x3, .str x4, .str x5, .int .i64 x6]]⟩ (((!(g119 x0)) = true → ((((.ptr 0 0 : AV) = .ptr 0 0) ∧ ((0 : Int) = 0) ∧ (true = (g49_m1 x0 x1)) ∧ True) ∧ ((((x0 : Int) = x0) ∧ ((x1 : Int) = x1) ∧ ((x2 : Int) = x2) ∧ ((x3 : ByteArray) = x3) ∧ ((x4 : ByteArray) = x4) ∧ ((x5 : ByteArray) = x5) ∧ ((x6 : Int) = x6) ∧ True) ∧ True))) ∧ ((!(g119 x0)) = false → ((((.ptr 0 0 : AV) = .ptr 0 0) ∧ ((0 : Int) = 0) ∧ ((!(g119 x1)) = (g49_m1 x0 x1)) ∧ True) ∧ ((((x0 : Int) = x0) ∧ ((x1 : Int) = x1) ∧ ((x2 : Int) = x2) ∧ ((x3 : ByteArray) = x3) ∧ ((x4 : ByteArray) = x4) ∧ ((x5 : ByteArray) = x5) ∧ ((x6 : Int) = x6) ∧ True) ∧ True)))) (by kernel_rfl) ⟨fun h3 => ⟨⟨rfl, rfl, (eqT h3 rfl), trivial⟩, ⟨⟨rfl, rfl, rfl, rfl, rfl, rfl, rfl, trivial⟩, trivial⟩⟩, fun h3 => ⟨⟨rfl, rfl, (eqF h3 rfl), trivial⟩, ⟨⟨rfl, rfl, rfl, rfl, rfl, rfl, rfl, trivial⟩, trivial⟩⟩⟩ ?_
    refine WP.condR (g49_m1 x0 x1) rfl (fun h4 => ?_) (fun h4 => ?_)
    · skip
      refine WP.step g49_e_ok ⟨[U, .ptr 0 0, .int .i64 2, U, U, U, U, U, U, U, U, U, U, U, U, U, U, U, U, U, U, U], [[.int .i64 x0, .int .i64 x1, .int .i64 x2, .str x3, .str x4, .str x5, .int .i64 x6]]⟩ ((((.ptr 0 0 : AV) = .ptr 0 0) ∧ ((2 : Int) = 2) ∧ True) ∧ ((((x0 : Int) = x0) ∧ ((x1 : Int) = x1) ∧ ((x2 : Int) = x2) ∧ ((x3 : ByteArray) = x3) ∧ ((x4 : ByteArray) = x4) ∧ ((x5 : ByteArray) = x5) ∧ ((x6 : Int) = x6) ∧ True) ∧ True)) (by kernel_rfl) ⟨⟨rfl, rfl, trivial⟩, ⟨⟨rfl, rfl, rfl, rfl, rfl, rfl, rfl, trivial⟩, trivial⟩⟩ ?_
      exact WP.retP (True ∧ ((.int .i64 2 : AV) = .int .i64 (g49 x0 x1 x2 x3 x4 x5 x6))) (by kernel_rfl) ⟨trivial, (congrArg (AV.int .i64) (eqF h1 (eqT h4 rfl)))⟩
    · skip
      refine WP.skip ?_
      refine WP.step g49_e_ok ⟨[U, U, .int .i64 (g47 x2 x3 x4 x5 x6), U, U, U, U, U, U, U, U, U, U, U, U, U, U, U, U, U, U, U], [[.int .i64 x0, .int .i64 x1, .int .i64 x2, .str x3, .str x4, .str x5, .int .i64 x6]]⟩ (((((g47 x2 x3 x4 x5 x6) : Int) = (g47 x2 x3 x4 x5 x6)) ∧ True) ∧ ((((x0 : Int) = x0) ∧ ((x1 : Int) = x1) ∧ ((x2 : Int) = x2) ∧ ((x3 : ByteArray) = x3) ∧ ((x4 : ByteArray) = x4) ∧ ((x5 : ByteArray) = x5) ∧ ((x6 : Int) = x6) ∧ True) ∧ True)) (by kernel_rfl) ⟨⟨rfl, trivial⟩, ⟨⟨rfl, rfl, rfl, rfl, rfl, rfl, rfl, trivial⟩, trivial⟩⟩ ?_
      exact WP.retP (True ∧ ((.int .i64 (g47 x2 x3 x4 x5 x6) : AV) = .int .i64 (g49 x0 x1 x2 x3 x4 x5 x6))) (by kernel_rfl) ⟨trivial, (congrArg (AV.int .i64) (eqF h1 (eqF h4 rfl)))⟩
noncomputable def s49 : Ans := fun xs => match xs with
  | [.agg [.int .i64 x0, .int .i64 x1, .int .i64 x2, .str x3, .str x4, .str x5, .int .i64 x6]] => some (none, .int .i64 (g49 x0 x1 x2 x3 x4 x5 x6))
  | _ => none
theorem k49 : SOk Try.prog 49 s49 := ⟨⟨_, _, Try.func49, rfl, by kernel_rfl⟩, fun args pre r h _ => by
  unfold s49 at h; split at h <;> cases h; exact pc49 _ _ _ _ _ _ _⟩
noncomputable def g50_m1 (x1 : Int) (x2 : Int) (x3 : ByteArray) (x4 : ByteArray) (x5 : ByteArray) (x6 : Int) : Bool := (bif (x1 != 0) then true else (!((x2 == 0) && (((x3 : ByteArray).toList == (⟨#[]⟩ : ByteArray).toList) && (((x4 : ByteArray).toList == (⟨#[]⟩ : ByteArray).toList) && (((x5 : ByteArray).toList == (⟨#[]⟩ : ByteArray).toList) && ((x6 == 0) && true)))))))
noncomputable def g50_m2 (x0 : Int) (x1 : Int) : Bool := (bif (!(g120 x0)) then true else (!(g120 x1)))
noncomputable def g50 (x0 : Int) (x1 : Int) (x2 : Int) (x3 : ByteArray) (x4 : ByteArray) (x5 : ByteArray) (x6 : Int) : Int := (bif (x0 == 0) then (bif (g50_m1 x1 x2 x3 x4 x5 x6) then 8 else 0) else (bif (g50_m2 x0 x1) then 2 else (g48 x2 x3 x4 x5 x6)))
noncomputable abbrev g50_e : Env := mkE [(48, s48), (120, s120)]
theorem g50_e_ok : g50_e.Ok := mkE_ok ⟨k48, k120, trivial⟩
theorem pc50 (x0 : Int) (x1 : Int) (x2 : Int) (x3 : ByteArray) (x4 : ByteArray) (x5 : ByteArray) (x6 : Int) : PureCall Try.prog 50 [.agg [.int .i64 x0, .int .i64 x1, .int .i64 x2, .str x3, .str x4, .str x5, .int .i64 x6]] (.int .i64 (g50 x0 x1 x2 x3 x4 x5 x6)) := by
  refine pure_of_WP (E := g50_e) g50_e_ok Try.func50 rfl _ _ ?_
  refine WP.step g50_e_ok ⟨[U, .ptr 0 0, .int .i64 0, U, U, U, U, U, U, U, U, U, U, U, U, U, U, U, U, U, U, U, U, U, U, U, U, U], [[.int .i64 x0, .int .i64 x1, .int .i64 x2, .str x3, .str x4, .str x5, .int .i64 x6]]⟩ ((((.ptr 0 0 : AV) = .ptr 0 0) ∧ ((0 : Int) = 0) ∧ True) ∧ ((((x0 : Int) = x0) ∧ ((x1 : Int) = x1) ∧ ((x2 : Int) = x2) ∧ ((x3 : ByteArray) = x3) ∧ ((x4 : ByteArray) = x4) ∧ ((x5 : ByteArray) = x5) ∧ ((x6 : Int) = x6) ∧ True) ∧ True)) (by kernel_rfl) ⟨⟨rfl, rfl, trivial⟩, ⟨⟨rfl, rfl, rfl, rfl, rfl, rfl, rfl, trivial⟩, trivial⟩⟩ ?_
  refine WP.seq ?_
  refine WP.step g50_e_ok ⟨[U, .ptr 0 0, .int .i64 0, U, U, .bool (x0 == 0), U, U, U, U, U, U, U, U, U, U, U, U, U, U, U, U, U, U, U, U, U, U], [[.int .i64 x0, .int .i64 x1, .int .i64 x2, .str x3, .str x4, .str x5, .int .i64 x6]]⟩ ((((.ptr 0 0 : AV) = .ptr 0 0) ∧ ((0 : Int) = 0) ∧ ((x0 == 0) = (x0 == 0)) ∧ True) ∧ ((((x0 : Int) = x0) ∧ ((x1 : Int) = x1) ∧ ((x2 : Int) = x2) ∧ ((x3 : ByteArray) = x3) ∧ ((x4 : ByteArray) = x4) ∧ ((x5 : ByteArray) = x5) ∧ ((x6 : Int) = x6) ∧ True) ∧ True)) (by kernel_rfl) ⟨⟨rfl, rfl, rfl, trivial⟩, ⟨⟨rfl, rfl, rfl, rfl, rfl, rfl, rfl, trivial⟩, trivial⟩⟩ ?_
  refine WP.condR (x0 == 0) rfl (fun h1 => ?_) (fun h1 => ?_)
  · skip
    refine WP.seq ?_
    refine WP.step g50_e_ok ⟨[U, .ptr 0 0, .int .i64 0, U, U, U, U, U, U, U, U, U, U, U, .bool (g50_m1 x1 x2 x3 x4 x5 x6), U, U, U, U, U, U, U, U, U, U, U, U, U], [[.int .i64 x0, .int .i64 x1, .int .i64 x2, .str x3, .str x4, .str x5, .int .i64 x6]]⟩ (((x1 != 0) = true → ((((.ptr 0 0 : AV) = .ptr 0 0) ∧ ((0 : Int) = 0) ∧ (true = (g50_m1 x1 x2 x3 x4 x5 x6)) ∧ True) ∧ ((((x0 : Int) = x0) ∧ ((x1 : Int) = x1) ∧ ((x2 : Int) = x2) ∧ ((x3 : ByteArray) = x3) ∧ ((x4 : ByteArray) = x4) ∧ ((x5 : ByteArray) = x5) ∧ ((x6 : Int) = x6) ∧ True) ∧ True))) ∧ ((x1 != 0) = false → ((((.ptr 0 0 : AV) = .ptr 0 0) ∧ ((0 : Int) = 0) ∧ ((!((x2 == 0) && (((x3 : ByteArray).toList == (⟨#[]⟩ : ByteArray).toList) && (((x4 : ByteArray).toList == (⟨#[]⟩ : ByteArray).toList) && (((x5 : ByteArray).toList == (⟨#[]⟩ : ByteArray).toList) && ((x6 == 0) && true)))))) = (g50_m1 x1 x2 x3 x4 x5 x6)) ∧ True) ∧ ((((x0 : Int) = x0) ∧ ((x1 : Int) = x1) ∧ ((x2 : Int) = x2) ∧ ((x3 : ByteArray) = x3) ∧ ((x4 : ByteArray) = x4) ∧ ((x5 : ByteArray) = x5) ∧ ((x6 : Int) = x6) ∧ True) ∧ True)))) (by kernel_rfl) ⟨fun h2 => ⟨⟨rfl, rfl, (eqT h2 rfl), trivial⟩, ⟨⟨rfl, rfl, rfl, rfl, rfl, rfl, rfl, trivial⟩, trivial⟩⟩, fun h2 => ⟨⟨rfl, rfl, (eqF h2 rfl), trivial⟩, ⟨⟨rfl, rfl, rfl, rfl, rfl, rfl, rfl, trivial⟩, trivial⟩⟩⟩ ?_
    refine WP.condR (g50_m1 x1 x2 x3 x4 x5 x6) rfl (fun h3 => ?_) (fun h3 => ?_)
    · skip
      refine WP.step g50_e_ok ⟨[U, .ptr 0 0, .int .i64 8, U, U, U, U, U, U, U, U, U, U, U, U, U, U, U, U, U, U, U, U, U, U, U, U, U], [[.int .i64 x0, .int .i64 x1, .int .i64 x2, .str x3, .str x4, .str x5, .int .i64 x6]]⟩ ((((.ptr 0 0 : AV) = .ptr 0 0) ∧ ((8 : Int) = 8) ∧ True) ∧ ((((x0 : Int) = x0) ∧ ((x1 : Int) = x1) ∧ ((x2 : Int) = x2) ∧ ((x3 : ByteArray) = x3) ∧ ((x4 : ByteArray) = x4) ∧ ((x5 : ByteArray) = x5) ∧ ((x6 : Int) = x6) ∧ True) ∧ True)) (by kernel_rfl) ⟨⟨rfl, rfl, trivial⟩, ⟨⟨rfl, rfl, rfl, rfl, rfl, rfl, rfl, trivial⟩, trivial⟩⟩ ?_
      exact WP.retP (True ∧ ((.int .i64 8 : AV) = .int .i64 (g50 x0 x1 x2 x3 x4 x5 x6))) (by kernel_rfl) ⟨trivial, (congrArg (AV.int .i64) (eqT h1 (eqT h3 rfl)))⟩
    · skip
      refine WP.skip ?_
      refine WP.step g50_e_ok ⟨[U, .ptr 0 0, .int .i64 0, U, U, U, U, U, U, U, U, U, U, U, U, U, U, U, U, U, U, U, U, U, U, U, U, U], [[.int .i64 x0, .int .i64 x1, .int .i64 x2, .str x3, .str x4, .str x5, .int .i64 x6]]⟩ ((((.ptr 0 0 : AV) = .ptr 0 0) ∧ ((0 : Int) = 0) ∧ True) ∧ ((((x0 : Int) = x0) ∧ ((x1 : Int) = x1) ∧ ((x2 : Int) = x2) ∧ ((x3 : ByteArray) = x3) ∧ ((x4 : ByteArray) = x4) ∧ ((x5 : ByteArray) = x5) ∧ ((x6 : Int) = x6) ∧ True) ∧ True)) (by kernel_rfl) ⟨⟨rfl, rfl, trivial⟩, ⟨⟨rfl, rfl, rfl, rfl, rfl, rfl, rfl, trivial⟩, trivial⟩⟩ ?_
      exact WP.retP (True ∧ ((.int .i64 0 : AV) = .int .i64 (g50 x0 x1 x2 x3 x4 x5 x6))) (by kernel_rfl) ⟨trivial, (congrArg (AV.int .i64) (eqT h1 (eqF h3 rfl)))⟩
  · skip
    refine WP.skip ?_
    refine WP.seq ?_
    refine WP.step g50_e_ok ⟨[U, .ptr 0 0, .int .i64 0, U, U, U, U, U, U, U, U, U, U, U, U, U, U, U, U, U, U, U, U, U, .bool (g50_m2 x0 x1), U, U, U], [[.int .i64 x0, .int .i64 x1, .int .i64 x2, .str x3, .str x4, .str x5, .int .i64 x6]]⟩ (((!(g120 x0)) = true → ((((.ptr 0 0 : AV) = .ptr 0 0) ∧ ((0 : Int) = 0) ∧ (true = (g50_m2 x0 x1)) ∧ True) ∧ ((((x0 : Int) = x0) ∧ ((x1 : Int) = x1) ∧ ((x2 : Int) = x2) ∧ ((x3 : ByteArray) = x3) ∧ ((x4 : ByteArray) = x4) ∧ ((x5 : ByteArray) = x5) ∧ ((x6 : Int) = x6) ∧ True) ∧ True))) ∧ ((!(g120 x0)) = false → ((((.ptr 0 0 : AV) = .ptr 0 0) ∧ ((0 : Int) = 0) ∧ ((!(g120 x1)) = (g50_m2 x0 x1)) ∧ True) ∧ ((((x0 : Int) = x0) ∧ ((x1 : Int) = x1) ∧ ((x2 : Int) = x2) ∧ ((x3 : ByteArray) = x3) ∧ ((x4 : ByteArray) = x4) ∧ ((x5 : ByteArray) = x5) ∧ ((x6 : Int) = x6) ∧ True) ∧ True)))) (by kernel_rfl) ⟨fun h4 => ⟨⟨rfl, rfl, (eqT h4 rfl), trivial⟩, ⟨⟨rfl, rfl, rfl, rfl, rfl, rfl, rfl, trivial⟩, trivial⟩⟩, fun h4 => ⟨⟨rfl, rfl, (eqF h4 rfl), trivial⟩, ⟨⟨rfl, rfl, rfl, rfl, rfl, rfl, rfl, trivial⟩, trivial⟩⟩⟩ ?_
    refine WP.condR (g50_m2 x0 x1) rfl (fun h5 => ?_) (fun h5 => ?_)
    · skip
      refine WP.step g50_e_ok ⟨[U, .ptr 0 0, .int .i64 2, U, U, U, U, U, U, U, U, U, U, U, U, U, U, U, U, U, U, U, U, U, U, U, U, U], [[.int .i64 x0, .int .i64 x1, .int .i64 x2, .str x3, .str x4, .str x5, .int .i64 x6]]⟩ ((((.ptr 0 0 : AV) = .ptr 0 0) ∧ ((2 : Int) = 2) ∧ True) ∧ ((((x0 : Int) = x0) ∧ ((x1 : Int) = x1) ∧ ((x2 : Int) = x2) ∧ ((x3 : ByteArray) = x3) ∧ ((x4 : ByteArray) = x4) ∧ ((x5 : ByteArray) = x5) ∧ ((x6 : Int) = x6) ∧ True) ∧ True)) (by kernel_rfl) ⟨⟨rfl, rfl, trivial⟩, ⟨⟨rfl, rfl, rfl, rfl, rfl, rfl, rfl, trivial⟩, trivial⟩⟩ ?_
      exact WP.retP (True ∧ ((.int .i64 2 : AV) = .int .i64 (g50 x0 x1 x2 x3 x4 x5 x6))) (by kernel_rfl) ⟨trivial, (congrArg (AV.int .i64) (eqF h1 (eqT h5 rfl)))⟩
    · skip
      refine WP.skip ?_
      refine WP.step g50_e_ok ⟨[U, U, .int .i64 (g48 x2 x3 x4 x5 x6), U, U, U, U, U, U, U, U, U, U, U, U, U, U, U, U, U, U, U, U, U, U, U, U, U], [[.int .i64 x0, .int .i64 x1, .int .i64 x2, .str x3, .str x4, .str x5, .int .i64 x6]]⟩ (((((g48 x2 x3 x4 x5 x6) : Int) = (g48 x2 x3 x4 x5 x6)) ∧ True) ∧ ((((x0 : Int) = x0) ∧ ((x1 : Int) = x1) ∧ ((x2 : Int) = x2) ∧ ((x3 : ByteArray) = x3) ∧ ((x4 : ByteArray) = x4) ∧ ((x5 : ByteArray) = x5) ∧ ((x6 : Int) = x6) ∧ True) ∧ True)) (by kernel_rfl) ⟨⟨rfl, trivial⟩, ⟨⟨rfl, rfl, rfl, rfl, rfl, rfl, rfl, trivial⟩, trivial⟩⟩ ?_
      exact WP.retP (True ∧ ((.int .i64 (g48 x2 x3 x4 x5 x6) : AV) = .int .i64 (g50 x0 x1 x2 x3 x4 x5 x6))) (by kernel_rfl) ⟨trivial, (congrArg (AV.int .i64) (eqF h1 (eqF h5 rfl)))⟩
noncomputable def s50 : Ans := fun xs => match xs with
  | [.agg [.int .i64 x0, .int .i64 x1, .int .i64 x2, .str x3, .str x4, .str x5, .int .i64 x6]] => some (none, .int .i64 (g50 x0 x1 x2 x3 x4 x5 x6))
  | _ => none
theorem k50 : SOk Try.prog 50 s50 := ⟨⟨_, _, Try.func50, rfl, by kernel_rfl⟩, fun args pre r h _ => by
  unfold s50 at h; split at h <;> cases h; exact pc50 _ _ _ _ _ _ _⟩
noncomputable def g10 (x0 : Int) (x1 : Int) (x2 : Int) (x3 : ByteArray) (x4 : ByteArray) (x5 : ByteArray) (x6 : Int) : Bool := ((g49 x0 x1 x2 x3 x4 x5 x6) == (g50 x0 x1 x2 x3 x4 x5 x6))
noncomputable abbrev g10_e : Env := mkE [(49, s49), (50, s50)]
theorem g10_e_ok : g10_e.Ok := mkE_ok ⟨k49, k50, trivial⟩
theorem pc10 (x0 : Int) (x1 : Int) (x2 : Int) (x3 : ByteArray) (x4 : ByteArray) (x5 : ByteArray) (x6 : Int) : PureCall Try.prog 10 [.agg [.int .i64 x0, .int .i64 x1, .int .i64 x2, .str x3, .str x4, .str x5, .int .i64 x6]] (.bool (g10 x0 x1 x2 x3 x4 x5 x6)) := by
  refine pure_of_WP (E := g10_e) g10_e_ok Try.func10 rfl _ _ ?_
  refine WP.step g10_e_ok ⟨[U, .ptr 0 0, .bool false, U, U, U, U, U, U, U, U, U], [[.int .i64 x0, .int .i64 x1, .int .i64 x2, .str x3, .str x4, .str x5, .int .i64 x6]]⟩ ((((.ptr 0 0 : AV) = .ptr 0 0) ∧ (false = false) ∧ True) ∧ ((((x0 : Int) = x0) ∧ ((x1 : Int) = x1) ∧ ((x2 : Int) = x2) ∧ ((x3 : ByteArray) = x3) ∧ ((x4 : ByteArray) = x4) ∧ ((x5 : ByteArray) = x5) ∧ ((x6 : Int) = x6) ∧ True) ∧ True)) (by kernel_rfl) ⟨⟨rfl, rfl, trivial⟩, ⟨⟨rfl, rfl, rfl, rfl, rfl, rfl, rfl, trivial⟩, trivial⟩⟩ ?_
  refine WP.step g10_e_ok ⟨[U, .ptr 0 0, .bool false, .int .i64 (g49 x0 x1 x2 x3 x4 x5 x6), U, U, U, U, U, U, U, U], [[.int .i64 x0, .int .i64 x1, .int .i64 x2, .str x3, .str x4, .str x5, .int .i64 x6]]⟩ ((((.ptr 0 0 : AV) = .ptr 0 0) ∧ (false = false) ∧ (((g49 x0 x1 x2 x3 x4 x5 x6) : Int) = (g49 x0 x1 x2 x3 x4 x5 x6)) ∧ True) ∧ ((((x0 : Int) = x0) ∧ ((x1 : Int) = x1) ∧ ((x2 : Int) = x2) ∧ ((x3 : ByteArray) = x3) ∧ ((x4 : ByteArray) = x4) ∧ ((x5 : ByteArray) = x5) ∧ ((x6 : Int) = x6) ∧ True) ∧ True)) (by kernel_rfl) ⟨⟨rfl, rfl, rfl, trivial⟩, ⟨⟨rfl, rfl, rfl, rfl, rfl, rfl, rfl, trivial⟩, trivial⟩⟩ ?_
  refine WP.step g10_e_ok ⟨[U, U, .bool false, .int .i64 (g49 x0 x1 x2 x3 x4 x5 x6), .int .i64 (g50 x0 x1 x2 x3 x4 x5 x6), U, U, U, U, U, U, U], [[.int .i64 x0, .int .i64 x1, .int .i64 x2, .str x3, .str x4, .str x5, .int .i64 x6]]⟩ (((false = false) ∧ (((g49 x0 x1 x2 x3 x4 x5 x6) : Int) = (g49 x0 x1 x2 x3 x4 x5 x6)) ∧ (((g50 x0 x1 x2 x3 x4 x5 x6) : Int) = (g50 x0 x1 x2 x3 x4 x5 x6)) ∧ True) ∧ ((((x0 : Int) = x0) ∧ ((x1 : Int) = x1) ∧ ((x2 : Int) = x2) ∧ ((x3 : ByteArray) = x3) ∧ ((x4 : ByteArray) = x4) ∧ ((x5 : ByteArray) = x5) ∧ ((x6 : Int) = x6) ∧ True) ∧ True)) (by kernel_rfl) ⟨⟨rfl, rfl, rfl, trivial⟩, ⟨⟨rfl, rfl, rfl, rfl, rfl, rfl, rfl, trivial⟩, trivial⟩⟩ ?_
  refine WP.step g10_e_ok ⟨[U, U, .bool ((g49 x0 x1 x2 x3 x4 x5 x6) == (g50 x0 x1 x2 x3 x4 x5 x6)), U, U, U, U, U, U, U, U, U], [[.int .i64 x0, .int .i64 x1, .int .i64 x2, .str x3, .str x4, .str x5, .int .i64 x6]]⟩ (((((g49 x0 x1 x2 x3 x4 x5 x6) == (g50 x0 x1 x2 x3 x4 x5 x6)) = ((g49 x0 x1 x2 x3 x4 x5 x6) == (g50 x0 x1 x2 x3 x4 x5 x6))) ∧ True) ∧ ((((x0 : Int) = x0) ∧ ((x1 : Int) = x1) ∧ ((x2 : Int) = x2) ∧ ((x3 : ByteArray) = x3) ∧ ((x4 : ByteArray) = x4) ∧ ((x5 : ByteArray) = x5) ∧ ((x6 : Int) = x6) ∧ True) ∧ True)) (by kernel_rfl) ⟨⟨rfl, trivial⟩, ⟨⟨rfl, rfl, rfl, rfl, rfl, rfl, rfl, trivial⟩, trivial⟩⟩ ?_
  exact WP.retP (True ∧ ((.bool ((g49 x0 x1 x2 x3 x4 x5 x6) == (g50 x0 x1 x2 x3 x4 x5 x6)) : AV) = .bool (g10 x0 x1 x2 x3 x4 x5 x6))) (by kernel_rfl) ⟨trivial, rfl⟩
noncomputable def s10 : Ans := fun xs => match xs with
  | [.agg [.int .i64 x0, .int .i64 x1, .int .i64 x2, .str x3, .str x4, .str x5, .int .i64 x6]] => some (none, .bool (g10 x0 x1 x2 x3 x4 x5 x6))
  | _ => none
theorem k10 : SOk Try.prog 10 s10 := ⟨⟨_, _, Try.func10, rfl, by kernel_rfl⟩, fun args pre r h _ => by
  unfold s10 at h; split at h <;> cases h; exact pc10 _ _ _ _ _ _ _⟩
end Go.Proofs.Ytchhfojblmceiaa
