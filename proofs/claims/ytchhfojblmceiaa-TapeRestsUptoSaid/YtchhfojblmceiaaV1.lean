/-
  Walks: what functions of the program answer, as functions.
-/
import Derived.Test.YtchhfojblmceiaaCl
import Derived.Test.YtchhfojblmceiaaU0
import Derived.Test.YtchhfojblmceiaaEc
namespace Go.Proofs.Ytchhfojblmceiaa
open Go Go.Vc Go.RowKit
set_option maxRecDepth 100000
set_option maxHeartbeats 4000000
noncomputable def g143 (x0 : ByteArray) (x1 : ByteArray) : Int := (g200 x0 x1)
noncomputable abbrev g143_e : Env := mkE [(200, s200)]
theorem g143_e_ok : g143_e.Ok := mkE_ok ⟨k200, trivial⟩
theorem pc143 (x0 : ByteArray) (x1 : ByteArray) : PureCall Try.prog 143 [.str x0, .str x1] (.int .i64 (g143 x0 x1)) := by
  refine pure_of_WP (E := g143_e) g143_e_ok Try.func143 rfl _ _ ?_
  refine WP.step0 g143_e_ok ⟨[.str x0, .str x1, U, U, .int .i64 0, U, U, U], []⟩ (by kernel_rfl) ?_
  refine WP.step0 g143_e_ok ⟨us 4 ([.int .i64 (g200 x0 x1), U, U, U]), []⟩ (by kernel_rfl) ?_
  exact WP.retP (True ∧ ((.int .i64 (g200 x0 x1) : AV) = .int .i64 (g143 x0 x1))) (by kernel_rfl) ⟨trivial, rfl⟩
noncomputable def s143 : Ans := fun xs => match xs with
  | [.str x0, .str x1] => some (none, .int .i64 (g143 x0 x1))
  | _ => none
theorem k143 : SOk Try.prog 143 s143 := ⟨⟨_, _, Try.func143, rfl, by kernel_rfl⟩, fun args pre r h _ => by
  unfold s143 at h; split at h <;> cases h; exact pc143 _ _⟩
noncomputable def g139 (x0 : ByteArray) (x2 : ByteArray) : Int := (g143 x0 x2)
noncomputable abbrev g139_e : Env := mkE [(143, s143)]
theorem g139_e_ok : g139_e.Ok := mkE_ok ⟨k143, trivial⟩
theorem pc139 (x0 : ByteArray) (x1 : ByteArray) (x2 : ByteArray) (x3 : ByteArray) : PureCall Try.prog 139 [.agg [.str x0, .str x1], .agg [.str x2, .str x3]] (.int .i64 (g139 x0 x2)) := by
  refine pure_of_WP (E := g139_e) g139_e_ok Try.func139 rfl _ _ ?_
  refine WP.step0 g139_e_ok ⟨U :: U :: .ptr 0 0 :: .ptr 1 0 :: .int .i64 0 :: us 5 [], [[.str x0, .str x1], [.str x2, .str x3]]⟩ (by kernel_rfl) ?_
  refine WP.step0 g139_e_ok ⟨us 4 (.int .i64 (g143 x0 x2) :: us 5 []), []⟩ (by kernel_rfl) ?_
  exact WP.retP (True ∧ ((.int .i64 (g143 x0 x2) : AV) = .int .i64 (g139 x0 x2))) (by kernel_rfl) ⟨trivial, rfl⟩
noncomputable def s139 : Ans := fun xs => match xs with
  | [.agg [.str x0, .str _], .agg [.str x2, .str _]] => some (none, .int .i64 (g139 x0 x2))
  | _ => none
theorem k139 : SOk Try.prog 139 s139 := ⟨⟨_, _, Try.func139, rfl, by kernel_rfl⟩, fun args pre r h _ => by
  unfold s139 at h; split at h <;> cases h; exact pc139 _ _ _ _⟩
noncomputable def g138_139_l1 (x0 : Sl T160) : Nat → Int → Bool × Bool
  | 0, _ => default
  | k + 1, v1_0 => (bif (decide (v1_0 < (x0.n : Int))) then (bif (decide ((g139 (x0.at' (Int.toNat (IntKind.i64.wrap (v1_0 - 1)))).c0 (x0.at' (Int.toNat v1_0)).c0) ≥ 0)) then (true, false) else (g138_139_l1 x0 k (IntKind.i64.wrap (v1_0 + 1)))) else (false, default))
noncomputable def g138_139_r1 (x0 : Sl T160) : Bool × Bool := g138_139_l1 x0 ((Int.toNat ((x0.n : Int) - 1)) + 1) 1
noncomputable def g138_139_p2 (x0 : Sl T160) : Bool := (bif (g138_139_r1 x0).1 then false else true)
noncomputable def g138_139 (x0 : Sl T160) : Bool := (bif (g138_139_p2 x0) then true else (g138_139_r1 x0).2)
noncomputable abbrev g138_139_e : Env := mkE [(139, s139)]
theorem g138_139_e_ok : g138_139_e.Ok := mkE_ok ⟨k139, trivial⟩
theorem pc138_139 (x0 : Sl T160) : PureCall Try.prog 138 [ofSl 2 e160 x0, .fn 139 []] (.bool (g138_139 x0)) := by
  refine PureCall.fine fun hf => ?_
  have hf_x0 : Fine (ofSl 2 e160 x0) := hf.1
  have hn_x0 : x0.n ≤ 549755813888 := hf_x0.len
  refine pure_of_WP (E := g138_139_e) g138_139_e_ok Try.func138 rfl _ _ ?_
  refine WP.step0 g138_139_e_ok ⟨ofSl 2 e160 x0 :: .fn 139 [] :: U :: U :: .bool false :: us 19 [], []⟩ (by kernel_rfl) ?_
  refine WP.joinP ⟨us 4 (.bool false :: us 19 []), []⟩ (g138_139_p2 x0) ?_ ?_
  · skip
    refine WP.step0 g138_139_e_ok ⟨ofSl 2 e160 x0 :: .fn 139 [] :: U :: U :: .bool false :: .int .i64 1 :: us 18 [], []⟩ (by kernel_rfl) ?_
    refine WP.block ?_
    refine WP.loopK (σ := Int) (R := Bool × Bool) (fun s => ⟨ofSl 2 e160 x0 :: .fn 139 [] :: U :: U :: .bool false :: .int .i64 s :: us 18 [], []⟩) (fun s => (1 ≤ s ∧ (s ≤ (x0.n : Int) ∨ s = 1))) (fun s => (Int.toNat ((x0.n : Int) - s))) (fun k s => g138_139_l1 x0 k s) 1 (by first | omega | ((try dsimp only); omega) | ((try dsimp only); (try simp only [Sl.app_n]); (try simp only [Sl.lit_n]); (try simp only [Sl.part_n]); (try simp only [nilSl_n]); (try simp only [List.length_cons]); (try simp only [List.length_nil]); first | omega | (omega) | (simp only [wrap64 (by omega) (by omega)]; omega))) (leE (by kernel_rfl)) (fun k s hI1 hk1 hR1 => ?_)
    obtain ⟨v1_0, hs1⟩ : ∃ x, x = s := ⟨s, rfl⟩
    subst hs1
    have hI1 : (1 ≤ v1_0 ∧ (v1_0 ≤ (x0.n : Int) ∨ v1_0 = 1)) := hI1
    have hR1 : g138_139_l1 x0 (k + 1) v1_0 = (g138_139_r1 x0) := hR1
    refine WP.seq ?_
    refine WP.step0 g138_139_e_ok ⟨ofSl 2 e160 x0 :: .fn 139 [] :: U :: U :: .bool false :: .int .i64 v1_0 :: .int .i64 v1_0 :: ofSl 2 e160 x0 :: .int .i64 (x0.n : Int) :: .bool (decide (v1_0 < (x0.n : Int))) :: us 14 [], []⟩ (by kernel_rfl) ?_
    refine WP.condR (decide (v1_0 < (x0.n : Int))) rfl (fun h1 => ?_) (fun h1 => ?_)
    · skip
      refine WP.skip ?_
      refine WP.seq ?_
      refine WP.block ?_
      refine WP.stepE g138_139_e_ok ⟨[ofSl 2 e160 x0, .fn 139 [], U, U, .bool false, .int .i64 v1_0, .int .i64 v1_0, ofSl 2 e160 x0, .int .i64 (x0.n : Int), .bool (decide (v1_0 < (x0.n : Int))), U, U, .fn 139 [], ofSl 2 e160 x0, .int .i64 v1_0, .int .i64 (IntKind.i64.wrap (v1_0 - 1)), .ref [.str (x0.at' (Int.toNat (IntKind.i64.wrap (v1_0 - 1)))).c0, .str (x0.at' (Int.toNat (IntKind.i64.wrap (v1_0 - 1)))).c1], .agg [.str (x0.at' (Int.toNat (IntKind.i64.wrap (v1_0 - 1)))).c0, .str (x0.at' (Int.toNat (IntKind.i64.wrap (v1_0 - 1)))).c1], ofSl 2 e160 x0, .int .i64 v1_0, .ref [.str (x0.at' (Int.toNat v1_0)).c0, .str (x0.at' (Int.toNat v1_0)).c1], .agg [.str (x0.at' (Int.toNat v1_0)).c0, .str (x0.at' (Int.toNat v1_0)).c1], .int .i64 (g139 (x0.at' (Int.toNat (IntKind.i64.wrap (v1_0 - 1)))).c0 (x0.at' (Int.toNat v1_0)).c0), .bool (decide ((g139 (x0.at' (Int.toNat (IntKind.i64.wrap (v1_0 - 1)))).c0 (x0.at' (Int.toNat v1_0)).c0) ≥ 0))], []⟩ (fun q => ((0 ≤ (IntKind.i64.wrap (v1_0 - 1)) ∧ (IntKind.i64.wrap (v1_0 - 1)) < (x0.n : Int)) ∧ ((0 ≤ v1_0 ∧ v1_0 < (x0.n : Int)) ∧ (true = true ∧ q)))) (by kernel_rfl) ⟨(by have := of_decide_eq_true h1; first | omega | (have := wrap64 (x := (v1_0 - 1)) (by omega) (by omega); omega)), ⟨(by have := of_decide_eq_true h1; omega), ⟨rfl, rfl⟩⟩⟩ ?_
      refine WP.condR (decide ((g139 (x0.at' (Int.toNat (IntKind.i64.wrap (v1_0 - 1)))).c0 (x0.at' (Int.toNat v1_0)).c0) ≥ 0)) rfl (fun h2 => ?_) (fun h2 => ?_)
      · skip
        refine WP.step0 g138_139_e_ok ⟨[ofSl 2 e160 x0, .fn 139 [], U, U, .bool false, .int .i64 v1_0, .int .i64 v1_0, ofSl 2 e160 x0, .int .i64 (x0.n : Int), .bool (decide (v1_0 < (x0.n : Int))), U, U, .fn 139 [], ofSl 2 e160 x0, .int .i64 v1_0, .int .i64 (IntKind.i64.wrap (v1_0 - 1)), .ref [.str (x0.at' (Int.toNat (IntKind.i64.wrap (v1_0 - 1)))).c0, .str (x0.at' (Int.toNat (IntKind.i64.wrap (v1_0 - 1)))).c1], .agg [.str (x0.at' (Int.toNat (IntKind.i64.wrap (v1_0 - 1)))).c0, .str (x0.at' (Int.toNat (IntKind.i64.wrap (v1_0 - 1)))).c1], ofSl 2 e160 x0, .int .i64 v1_0, .ref [.str (x0.at' (Int.toNat v1_0)).c0, .str (x0.at' (Int.toNat v1_0)).c1], .agg [.str (x0.at' (Int.toNat v1_0)).c0, .str (x0.at' (Int.toNat v1_0)).c1], .int .i64 (g139 (x0.at' (Int.toNat (IntKind.i64.wrap (v1_0 - 1)))).c0 (x0.at' (Int.toNat v1_0)).c0), .bool (decide ((g139 (x0.at' (Int.toNat (IntKind.i64.wrap (v1_0 - 1)))).c0 (x0.at' (Int.toNat v1_0)).c0) ≥ 0))], []⟩ (by kernel_rfl) ?_
        have hv3 : ((true, false) : Bool × Bool) = (g138_139_r1 x0) := ((eqT h1 (eqT h2 rfl))).trans hR1
        exact WP.retP (True ∧ ((.bool false : AV) = .bool (g138_139 x0))) (by kernel_rfl) ⟨trivial, (congrArg AV.bool ((congrArg (fun r : Bool × Bool => r.2) hv3).trans (eqF ((eqT (congrArg (fun r : Bool × Bool => r.1) hv3).symm rfl)).symm rfl)))⟩
      · skip
        refine WP.skip ?_
        refine WP.fin0 g138_139_e_ok ⟨[ofSl 2 e160 x0, .fn 139 [], U, U, .bool false, .int .i64 (IntKind.i64.wrap (v1_0 + 1)), .int .i64 v1_0, ofSl 2 e160 x0, .int .i64 (x0.n : Int), .bool (decide (v1_0 < (x0.n : Int))), .int .i64 v1_0, .int .i64 (IntKind.i64.wrap (v1_0 + 1)), .fn 139 [], ofSl 2 e160 x0, .int .i64 v1_0, .int .i64 (IntKind.i64.wrap (v1_0 - 1)), .ref [.str (x0.at' (Int.toNat (IntKind.i64.wrap (v1_0 - 1)))).c0, .str (x0.at' (Int.toNat (IntKind.i64.wrap (v1_0 - 1)))).c1], .agg [.str (x0.at' (Int.toNat (IntKind.i64.wrap (v1_0 - 1)))).c0, .str (x0.at' (Int.toNat (IntKind.i64.wrap (v1_0 - 1)))).c1], ofSl 2 e160 x0, .int .i64 v1_0, .ref [.str (x0.at' (Int.toNat v1_0)).c0, .str (x0.at' (Int.toNat v1_0)).c1], .agg [.str (x0.at' (Int.toNat v1_0)).c0, .str (x0.at' (Int.toNat v1_0)).c1], .int .i64 (g139 (x0.at' (Int.toNat (IntKind.i64.wrap (v1_0 - 1)))).c0 (x0.at' (Int.toNat v1_0)).c0), .bool (decide ((g139 (x0.at' (Int.toNat (IntKind.i64.wrap (v1_0 - 1)))).c0 (x0.at' (Int.toNat v1_0)).c0) ≥ 0))], []⟩ (by kernel_rfl) ?_
        exact loopR_nextE ((IntKind.i64.wrap (v1_0 + 1))) (by have := of_decide_eq_true h1; have := of_decide_eq_false h2; first | omega | (have := wrap64 (x := (v1_0 + 1)) (by omega) (by omega); omega) | (simp only [wrap64 (x := (v1_0 + 1)) (by omega) (by omega)]; omega)) (by have := of_decide_eq_true h1; have := of_decide_eq_false h2; first | omega | (have := wrap64 (x := (v1_0 + 1)) (by omega) (by omega); omega) | (simp only [wrap64 (x := (v1_0 + 1)) (by omega) (by omega)]; omega)) ((eqT h1 (eqF h2 rfl)).trans hR1) (by kernel_rfl)
    · skip
      have hv4 : ((false, default) : Bool × Bool) = (g138_139_r1 x0) := ((eqF h1 rfl)).trans hR1
      exact WP.exitP ((g138_139_p2 x0) = true ∧ (((false = false) ∧ True) ∧ True ∧ true = true)) (by kernel_rfl) ⟨((eqF (congrArg (fun r : Bool × Bool => r.1) hv4).symm rfl)).symm, ⟨⟨rfl, trivial⟩, trivial, rfl⟩⟩
  · skip
    intro h5
    refine WP.step0 g138_139_e_ok ⟨us 4 (.bool true :: us 19 []), []⟩ (by kernel_rfl) ?_
    exact WP.retP (True ∧ ((.bool true : AV) = .bool (g138_139 x0))) (by kernel_rfl) ⟨trivial, (congrArg AV.bool (eqT h5 rfl))⟩
noncomputable def s138_139 : Ans := fun xs => match xs with
  | [y0, .fn 139 []] => bif isSl 2 y0 then some (some (okSl e160 d160 y0), .bool (g138_139 (toSl d160 y0))) else none
  | _ => none
theorem k138_139 : SOk Try.prog 138 s138_139 := ⟨⟨_, _, Try.func138, rfl, by kernel_rfl⟩, fun args pre r h hp => by
  unfold s138_139 at h
  split at h
  · obtain ⟨b0, h⟩ := cond_some h
    cases h
    exact (pc138_139 _).weak (l1 (slLeA b0 hp.1) (l1 aF l0))
  · cases h⟩
noncomputable def g198_l1 (x0 : Sl Int) : Nat → Int → Bool × Int
  | 0, _ => default
  | k + 1, v1_0 => (bif (decide (v1_0 < (x0.n : Int))) then (bif ((x0.at' (Int.toNat v1_0)) != 0) then (true, (x0.at' (Int.toNat v1_0))) else (g198_l1 x0 k (IntKind.i64.wrap (v1_0 + 1)))) else (false, default))
noncomputable def g198_r1 (x0 : Sl Int) : Bool × Int := g198_l1 x0 ((Int.toNat ((x0.n : Int) - 0)) + 1) 0
noncomputable def g198_p2 (x0 : Sl Int) : Bool := (bif (g198_r1 x0).1 then false else true)
noncomputable def g198 (x0 : Sl Int) : Int := (bif (g198_p2 x0) then 0 else (g198_r1 x0).2)
noncomputable abbrev g198_e : Env := mkE []
theorem g198_e_ok : g198_e.Ok := mkE_ok trivial
theorem pc198 (x0 : Sl Int) : PureCall Try.prog 198 [ofSl 1 e3 x0] (.int .i64 (g198 x0)) := by
  refine PureCall.fine fun hf => ?_
  have hf_x0 : Fine (ofSl 1 e3 x0) := hf.1
  have hn_x0 : x0.n ≤ 549755813888 := hf_x0.len
  refine pure_of_WP (E := g198_e) g198_e_ok Try.func198 rfl _ _ ?_
  refine WP.step0 g198_e_ok ⟨ofSl 1 e3 x0 :: U :: .int .i64 0 :: us 15 [], []⟩ (by kernel_rfl) ?_
  refine WP.step0 g198_e_ok ⟨ofSl 1 e3 x0 :: U :: .int .i64 0 :: .int .i64 0 :: us 14 [], []⟩ (by kernel_rfl) ?_
  refine WP.joinP ⟨U :: U :: .int .i64 0 :: .int .i64 0 :: us 14 [], []⟩ (g198_p2 x0) ?_ ?_
  · skip
    refine WP.step0 g198_e_ok ⟨U :: U :: .int .i64 0 :: .int .i64 0 :: U :: U :: ofSl 1 e3 x0 :: .int .i64 (x0.n : Int) :: .int .i64 0 :: us 9 [], []⟩ (by kernel_rfl) ?_
    refine WP.block ?_
    refine WP.loopK (σ := Int) (R := Bool × Int) (fun s => ⟨U :: U :: .int .i64 0 :: .int .i64 0 :: U :: U :: ofSl 1 e3 x0 :: .int .i64 (x0.n : Int) :: .int .i64 s :: us 9 [], []⟩) (fun s => (0 ≤ s ∧ s ≤ (x0.n : Int))) (fun s => (Int.toNat ((x0.n : Int) - s))) (fun k s => g198_l1 x0 k s) 0 (by first | omega | ((try dsimp only); omega) | ((try dsimp only); (try simp only [Sl.app_n]); (try simp only [Sl.lit_n]); (try simp only [Sl.part_n]); (try simp only [nilSl_n]); (try simp only [List.length_cons]); (try simp only [List.length_nil]); first | omega | (omega) | (simp only [wrap64 (by omega) (by omega)]; omega))) (leE (by kernel_rfl)) (fun k s hI1 hk1 hR1 => ?_)
    obtain ⟨v1_0, hs1⟩ : ∃ x, x = s := ⟨s, rfl⟩
    subst hs1
    have hI1 : (0 ≤ v1_0 ∧ v1_0 ≤ (x0.n : Int)) := hI1
    have hR1 : g198_l1 x0 (k + 1) v1_0 = (g198_r1 x0) := hR1
    refine WP.step0 g198_e_ok ⟨U :: U :: .int .i64 0 :: .int .i64 0 :: U :: U :: ofSl 1 e3 x0 :: .int .i64 (x0.n : Int) :: .int .i64 v1_0 :: .bool (decide (v1_0 < (x0.n : Int))) :: us 8 [], []⟩ (by kernel_rfl) ?_
    refine WP.seq ?_
    refine WP.condR (decide (v1_0 < (x0.n : Int))) rfl (fun h1 => ?_) (fun h1 => ?_)
    · skip
      refine WP.skip ?_
      refine WP.seq ?_
      refine WP.block ?_
      refine WP.stepE g198_e_ok ⟨U :: U :: .int .i64 0 :: .int .i64 0 :: U :: .int .i64 (x0.at' (Int.toNat v1_0)) :: ofSl 1 e3 x0 :: .int .i64 (x0.n : Int) :: .int .i64 v1_0 :: .bool (decide (v1_0 < (x0.n : Int))) :: .ref [.int .i64 (x0.at' (Int.toNat v1_0))] :: .int .i64 (x0.at' (Int.toNat v1_0)) :: us 6 [], []⟩ (fun q => ((0 ≤ v1_0 ∧ v1_0 < (x0.n : Int)) ∧ q)) (by kernel_rfl) ⟨(by have := of_decide_eq_true h1; omega), rfl⟩ ?_
      refine WP.step0 g198_e_ok ⟨[U, U, .int .i64 0, .int .i64 0, U, .int .i64 (x0.at' (Int.toNat v1_0)), ofSl 1 e3 x0, .int .i64 (x0.n : Int), .int .i64 v1_0, .bool (decide (v1_0 < (x0.n : Int))), .ref [.int .i64 (x0.at' (Int.toNat v1_0))], .int .i64 (x0.at' (Int.toNat v1_0)), .int .i64 (x0.at' (Int.toNat v1_0)), .int .i64 0, .bool ((x0.at' (Int.toNat v1_0)) != 0), U, U, U], []⟩ (by kernel_rfl) ?_
      refine WP.condR ((x0.at' (Int.toNat v1_0)) != 0) rfl (fun h2 => ?_) (fun h2 => ?_)
      · skip
        refine WP.step0 g198_e_ok ⟨[U, U, .int .i64 (x0.at' (Int.toNat v1_0)), .int .i64 0, U, .int .i64 (x0.at' (Int.toNat v1_0)), ofSl 1 e3 x0, .int .i64 (x0.n : Int), .int .i64 v1_0, .bool (decide (v1_0 < (x0.n : Int))), .ref [.int .i64 (x0.at' (Int.toNat v1_0))], .int .i64 (x0.at' (Int.toNat v1_0)), .int .i64 (x0.at' (Int.toNat v1_0)), .int .i64 0, .bool ((x0.at' (Int.toNat v1_0)) != 0), .int .i64 (x0.at' (Int.toNat v1_0)), U, U], []⟩ (by kernel_rfl) ?_
        have hv3 : ((true, (x0.at' (Int.toNat v1_0))) : Bool × Int) = (g198_r1 x0) := ((eqT h1 (eqT h2 rfl))).trans hR1
        exact WP.retP (True ∧ ((.int .i64 (x0.at' (Int.toNat v1_0)) : AV) = .int .i64 (g198 x0))) (by kernel_rfl) ⟨trivial, (congrArg (AV.int .i64) ((congrArg (fun r : Bool × Int => r.2) hv3).trans (eqF ((eqT (congrArg (fun r : Bool × Int => r.1) hv3).symm rfl)).symm rfl)))⟩
      · skip
        refine WP.skip ?_
        refine WP.fin0 g198_e_ok ⟨[U, U, .int .i64 0, .int .i64 0, U, .int .i64 (x0.at' (Int.toNat v1_0)), ofSl 1 e3 x0, .int .i64 (x0.n : Int), .int .i64 (IntKind.i64.wrap (v1_0 + 1)), .bool (decide (v1_0 < (x0.n : Int))), .ref [.int .i64 (x0.at' (Int.toNat v1_0))], .int .i64 (x0.at' (Int.toNat v1_0)), .int .i64 (x0.at' (Int.toNat v1_0)), .int .i64 0, .bool ((x0.at' (Int.toNat v1_0)) != 0), U, .int .i64 (IntKind.i64.wrap (v1_0 + 1)), U], []⟩ (by kernel_rfl) ?_
        exact loopR_nextE ((IntKind.i64.wrap (v1_0 + 1))) (by have := of_decide_eq_true h1; have := bne_eq_false_iff_eq.1 h2; first | omega | (have := wrap64 (x := (v1_0 + 1)) (by omega) (by omega); omega) | (simp only [wrap64 (x := (v1_0 + 1)) (by omega) (by omega)]; omega)) (by have := of_decide_eq_true h1; have := bne_eq_false_iff_eq.1 h2; first | omega | (have := wrap64 (x := (v1_0 + 1)) (by omega) (by omega); omega) | (simp only [wrap64 (x := (v1_0 + 1)) (by omega) (by omega)]; omega)) ((eqT h1 (eqF h2 rfl)).trans hR1) (by kernel_rfl)
    · skip
      have hv4 : ((false, default) : Bool × Int) = (g198_r1 x0) := ((eqF h1 rfl)).trans hR1
      exact WP.exitP ((g198_p2 x0) = true ∧ ((((0 : Int) = 0) ∧ ((0 : Int) = 0) ∧ True) ∧ True ∧ true = true)) (by kernel_rfl) ⟨((eqF (congrArg (fun r : Bool × Int => r.1) hv4).symm rfl)).symm, ⟨⟨rfl, rfl, trivial⟩, trivial, rfl⟩⟩
  · skip
    intro h5
    refine WP.step0 g198_e_ok ⟨U :: U :: .int .i64 0 :: us 15 [], []⟩ (by kernel_rfl) ?_
    exact WP.retP (True ∧ ((.int .i64 0 : AV) = .int .i64 (g198 x0))) (by kernel_rfl) ⟨trivial, (congrArg (AV.int .i64) (eqT h5 rfl))⟩
noncomputable def s198 : Ans := fun xs => match xs with
  | [y0] => bif isSl 1 y0 then some (some (okSl e3 d3 y0), .int .i64 (g198 (toSl d3 y0))) else none
  | _ => none
theorem k198 : SOk Try.prog 198 s198 := ⟨⟨_, _, Try.func198, rfl, by kernel_rfl⟩, fun args pre r h hp => by
  unfold s198 at h
  split at h
  · obtain ⟨b0, h⟩ := cond_some h
    cases h
    exact (pc198 _).weak (l1 (slLeA b0 hp.1) l0)
  · cases h⟩
noncomputable def g225 (x0 : Int) : Bool := (x0 != x0)
noncomputable abbrev g225_e : Env := mkE []
theorem g225_e_ok : g225_e.Ok := mkE_ok trivial
theorem pc225 (x0 : Int) : PureCall Try.prog 225 [.int .i64 x0] (.bool (g225 x0)) := by
  refine pure_of_WP (E := g225_e) g225_e_ok Try.func225 rfl _ _ ?_
  refine WP.step0 g225_e_ok ⟨[.int .i64 x0, U, .bool false, U, U, U], []⟩ (by kernel_rfl) ?_
  refine WP.step0 g225_e_ok ⟨[U, U, .bool (x0 != x0), U, U, U], []⟩ (by kernel_rfl) ?_
  exact WP.retP (True ∧ ((.bool (x0 != x0) : AV) = .bool (g225 x0))) (by kernel_rfl) ⟨trivial, rfl⟩
noncomputable def s225 : Ans := fun xs => match xs with
  | [.int .i64 x0] => some (none, .bool (g225 x0))
  | _ => none
theorem k225 : SOk Try.prog 225 s225 := ⟨⟨_, _, Try.func225, rfl, by kernel_rfl⟩, fun args pre r h _ => by
  unfold s225 at h; split at h <;> cases h; exact pc225 _⟩
noncomputable def g199 (x0 : Int) (x1 : Int) : Int := (bif (g225 x0) then (bif (g225 x1) then 0 else (-1)) else (bif (g225 x1) then 1 else (bif (decide (x0 < x1)) then (-1) else (bif (decide (x0 > x1)) then 1 else 0))))
noncomputable abbrev g199_e : Env := mkE [(225, s225)]
theorem g199_e_ok : g199_e.Ok := mkE_ok ⟨k225, trivial⟩
theorem pc199 (x0 : Int) (x1 : Int) : PureCall Try.prog 199 [.int .i64 x0, .int .i64 x1] (.int .i64 (g199 x0 x1)) := by
  refine pure_of_WP (E := g199_e) g199_e_ok Try.func199 rfl _ _ ?_
  refine WP.step0 g199_e_ok ⟨.int .i64 x0 :: .int .i64 x1 :: U :: U :: .int .i64 0 :: us 15 [], []⟩ (by kernel_rfl) ?_
  refine WP.step0 g199_e_ok ⟨.int .i64 x0 :: .int .i64 x1 :: U :: U :: .int .i64 0 :: .bool (g225 x0) :: us 14 [], []⟩ (by kernel_rfl) ?_
  refine WP.step0 g199_e_ok ⟨.int .i64 x0 :: .int .i64 x1 :: U :: U :: .int .i64 0 :: .bool (g225 x0) :: .bool (g225 x1) :: us 13 [], []⟩ (by kernel_rfl) ?_
  refine WP.seq ?_
  refine WP.step0 g199_e_ok ⟨.int .i64 x0 :: .int .i64 x1 :: U :: U :: .int .i64 0 :: U :: .bool (g225 x1) :: us 4 (.bool (g225 x0) :: us 8 []), []⟩ (by kernel_rfl) ?_
  refine WP.condR (g225 x0) rfl (fun h1 => ?_) (fun h1 => ?_)
  · skip
    refine WP.seq ?_
    refine WP.step0 g199_e_ok ⟨.int .i64 x0 :: .int .i64 x1 :: U :: U :: .int .i64 0 :: U :: .bool (g225 x1) :: us 5 (.bool (g225 x1) :: us 7 []), []⟩ (by kernel_rfl) ?_
    refine WP.condR (g225 x1) rfl (fun h2 => ?_) (fun h2 => ?_)
    · skip
      refine WP.step0 g199_e_ok ⟨.int .i64 x0 :: .int .i64 x1 :: U :: U :: .int .i64 0 :: U :: .bool (g225 x1) :: us 13 [], []⟩ (by kernel_rfl) ?_
      exact WP.retP (True ∧ ((.int .i64 0 : AV) = .int .i64 (g199 x0 x1))) (by kernel_rfl) ⟨trivial, (congrArg (AV.int .i64) (eqT h1 (eqT h2 rfl)))⟩
    · skip
      refine WP.skip ?_
      refine WP.step0 g199_e_ok ⟨.int .i64 x0 :: .int .i64 x1 :: U :: U :: .int .i64 (-1) :: U :: .bool (g225 x1) :: us 13 [], []⟩ (by kernel_rfl) ?_
      exact WP.retP (True ∧ ((.int .i64 (-1) : AV) = .int .i64 (g199 x0 x1))) (by kernel_rfl) ⟨trivial, (congrArg (AV.int .i64) (eqT h1 (eqF h2 rfl)))⟩
  · skip
    refine WP.skip ?_
    refine WP.seq ?_
    refine WP.step0 g199_e_ok ⟨.int .i64 x0 :: .int .i64 x1 :: U :: U :: .int .i64 0 :: us 8 (.bool (g225 x1) :: us 6 []), []⟩ (by kernel_rfl) ?_
    refine WP.condR (g225 x1) rfl (fun h3 => ?_) (fun h3 => ?_)
    · skip
      refine WP.step0 g199_e_ok ⟨.int .i64 x0 :: .int .i64 x1 :: U :: U :: .int .i64 1 :: us 15 [], []⟩ (by kernel_rfl) ?_
      exact WP.retP (True ∧ ((.int .i64 1 : AV) = .int .i64 (g199 x0 x1))) (by kernel_rfl) ⟨trivial, (congrArg (AV.int .i64) (eqF h1 (eqT h3 rfl)))⟩
    · skip
      refine WP.skip ?_
      refine WP.seq ?_
      refine WP.step0 g199_e_ok ⟨.int .i64 x0 :: .int .i64 x1 :: U :: U :: .int .i64 0 :: us 11 ([.bool (decide (x0 < x1)), U, U, U]), []⟩ (by kernel_rfl) ?_
      refine WP.condR (decide (x0 < x1)) rfl (fun h4 => ?_) (fun h4 => ?_)
      · skip
        refine WP.step0 g199_e_ok ⟨.int .i64 x0 :: .int .i64 x1 :: U :: U :: .int .i64 (-1) :: us 15 [], []⟩ (by kernel_rfl) ?_
        exact WP.retP (True ∧ ((.int .i64 (-1) : AV) = .int .i64 (g199 x0 x1))) (by kernel_rfl) ⟨trivial, (congrArg (AV.int .i64) (eqF h1 (eqF h3 (eqT h4 rfl))))⟩
      · skip
        refine WP.skip ?_
        refine WP.seq ?_
        refine WP.step0 g199_e_ok ⟨us 4 (.int .i64 0 :: us 14 ([.bool (decide (x0 > x1))])), []⟩ (by kernel_rfl) ?_
        refine WP.condR (decide (x0 > x1)) rfl (fun h5 => ?_) (fun h5 => ?_)
        · skip
          refine WP.step0 g199_e_ok ⟨us 4 (.int .i64 1 :: us 15 []), []⟩ (by kernel_rfl) ?_
          exact WP.retP (True ∧ ((.int .i64 1 : AV) = .int .i64 (g199 x0 x1))) (by kernel_rfl) ⟨trivial, (congrArg (AV.int .i64) (eqF h1 (eqF h3 (eqF h4 (eqT h5 rfl)))))⟩
        · skip
          refine WP.skip ?_
          refine WP.step0 g199_e_ok ⟨us 4 (.int .i64 0 :: us 15 []), []⟩ (by kernel_rfl) ?_
          exact WP.retP (True ∧ ((.int .i64 0 : AV) = .int .i64 (g199 x0 x1))) (by kernel_rfl) ⟨trivial, (congrArg (AV.int .i64) (eqF h1 (eqF h3 (eqF h4 (eqF h5 rfl)))))⟩
noncomputable def s199 : Ans := fun xs => match xs with
  | [.int .i64 x0, .int .i64 x1] => some (none, .int .i64 (g199 x0 x1))
  | _ => none
theorem k199 : SOk Try.prog 199 s199 := ⟨⟨_, _, Try.func199, rfl, by kernel_rfl⟩, fun args pre r h _ => by
  unfold s199 at h; split at h <;> cases h; exact pc199 _ _⟩
noncomputable def g141 (x0 : ByteArray) (x1 : Int) (x2 : ByteArray) (x3 : Int) : Int := (g198 (Sl.lit ([(g199 x1 x3), (g143 x0 x2)] : List Int)))
noncomputable abbrev g141_e : Env := mkE [(143, s143), (198, s198), (199, s199)]
theorem g141_e_ok : g141_e.Ok := mkE_ok ⟨k143, k198, k199, trivial⟩
theorem pc141 (x0 : ByteArray) (x1 : Int) (x2 : ByteArray) (x3 : Int) : PureCall Try.prog 141 [.agg [.str x0, .int .i64 x1], .agg [.str x2, .int .i64 x3]] (.int .i64 (g141 x0 x1 x2 x3)) := by
  refine pure_of_WP (E := g141_e) g141_e_ok Try.func141 rfl _ _ ?_
  refine WP.step0 g141_e_ok ⟨U :: U :: .ptr 0 0 :: .ptr 1 0 :: .int .i64 0 :: us 12 [], [[.str x0, .int .i64 x1], [.str x2, .int .i64 x3]]⟩ (by kernel_rfl) ?_
  refine WP.stepM g141_e_ok (fun a : Int => ⟨us 4 (.int .i64 a :: us 12 []), []⟩) (g198 (Sl.lit ([(g199 x1 x3), (g143 x0 x2)] : List Int))) (fun K => (∃ hx1 : Nat → List AV, (∀ i, i < 2 → (fun i => ([[.int .i64 (g199 x1 x3)], [.int .i64 (g143 x0 x2)]] : List (List AV)).getD i []) i = hx1 i) ∧ (((2 : Nat) = 2) ∧ okSl e3 d3 (.arr 1 2 hx1) ∧ (true = true ∧ K (g198 (toSl d3 (.arr 1 2 hx1))))))) (by kernel_rfl) ⟨(fun i => e3 ((Sl.lit ([(g199 x1 x3), (g143 x0 x2)] : List Int)).at' i)), litOk e3 [(g199 x1 x3), (g143 x0 x2)], ⟨rfl, (okOf ed3 1 (Sl.lit ([(g199 x1 x3), (g143 x0 x2)] : List Int))), ⟨rfl, (KM.mk rfl)⟩⟩⟩ ?_
  exact WP.retP (True ∧ ((.int .i64 (g198 (Sl.lit ([(g199 x1 x3), (g143 x0 x2)] : List Int))) : AV) = .int .i64 (g141 x0 x1 x2 x3))) (by kernel_rfl) ⟨trivial, rfl⟩
noncomputable def s141 : Ans := fun xs => match xs with
  | [.agg [.str x0, .int .i64 x1], .agg [.str x2, .int .i64 x3]] => some (none, .int .i64 (g141 x0 x1 x2 x3))
  | _ => none
theorem k141 : SOk Try.prog 141 s141 := ⟨⟨_, _, Try.func141, rfl, by kernel_rfl⟩, fun args pre r h _ => by
  unfold s141 at h; split at h <;> cases h; exact pc141 _ _ _ _⟩
noncomputable def g140_141_l1 (x0 : Sl T164) : Nat → Int → Bool × Bool
  | 0, _ => default
  | k + 1, v1_0 => (bif (decide (v1_0 < (x0.n : Int))) then (bif (decide ((g141 (x0.at' (Int.toNat (IntKind.i64.wrap (v1_0 - 1)))).c0 (x0.at' (Int.toNat (IntKind.i64.wrap (v1_0 - 1)))).c1 (x0.at' (Int.toNat v1_0)).c0 (x0.at' (Int.toNat v1_0)).c1) ≥ 0)) then (true, false) else (g140_141_l1 x0 k (IntKind.i64.wrap (v1_0 + 1)))) else (false, default))
noncomputable def g140_141_r1 (x0 : Sl T164) : Bool × Bool := g140_141_l1 x0 ((Int.toNat ((x0.n : Int) - 1)) + 1) 1
noncomputable def g140_141_p2 (x0 : Sl T164) : Bool := (bif (g140_141_r1 x0).1 then false else true)
noncomputable def g140_141 (x0 : Sl T164) : Bool := (bif (g140_141_p2 x0) then true else (g140_141_r1 x0).2)
noncomputable abbrev g140_141_e : Env := mkE [(141, s141)]
theorem g140_141_e_ok : g140_141_e.Ok := mkE_ok ⟨k141, trivial⟩
theorem pc140_141 (x0 : Sl T164) : PureCall Try.prog 140 [ofSl 2 e164 x0, .fn 141 []] (.bool (g140_141 x0)) := by
  refine PureCall.fine fun hf => ?_
  have hf_x0 : Fine (ofSl 2 e164 x0) := hf.1
  have hn_x0 : x0.n ≤ 549755813888 := hf_x0.len
  refine pure_of_WP (E := g140_141_e) g140_141_e_ok Try.func140 rfl _ _ ?_
  refine WP.step0 g140_141_e_ok ⟨ofSl 2 e164 x0 :: .fn 141 [] :: U :: U :: .bool false :: us 19 [], []⟩ (by kernel_rfl) ?_
  refine WP.joinP ⟨us 4 (.bool false :: us 19 []), []⟩ (g140_141_p2 x0) ?_ ?_
  · skip
    refine WP.step0 g140_141_e_ok ⟨ofSl 2 e164 x0 :: .fn 141 [] :: U :: U :: .bool false :: .int .i64 1 :: us 18 [], []⟩ (by kernel_rfl) ?_
    refine WP.block ?_
    refine WP.loopK (σ := Int) (R := Bool × Bool) (fun s => ⟨ofSl 2 e164 x0 :: .fn 141 [] :: U :: U :: .bool false :: .int .i64 s :: us 18 [], []⟩) (fun s => (1 ≤ s ∧ (s ≤ (x0.n : Int) ∨ s = 1))) (fun s => (Int.toNat ((x0.n : Int) - s))) (fun k s => g140_141_l1 x0 k s) 1 (by first | omega | ((try dsimp only); omega) | ((try dsimp only); (try simp only [Sl.app_n]); (try simp only [Sl.lit_n]); (try simp only [Sl.part_n]); (try simp only [nilSl_n]); (try simp only [List.length_cons]); (try simp only [List.length_nil]); first | omega | (omega) | (simp only [wrap64 (by omega) (by omega)]; omega))) (leE (by kernel_rfl)) (fun k s hI1 hk1 hR1 => ?_)
    obtain ⟨v1_0, hs1⟩ : ∃ x, x = s := ⟨s, rfl⟩
    subst hs1
    have hI1 : (1 ≤ v1_0 ∧ (v1_0 ≤ (x0.n : Int) ∨ v1_0 = 1)) := hI1
    have hR1 : g140_141_l1 x0 (k + 1) v1_0 = (g140_141_r1 x0) := hR1
    refine WP.seq ?_
    refine WP.step0 g140_141_e_ok ⟨ofSl 2 e164 x0 :: .fn 141 [] :: U :: U :: .bool false :: .int .i64 v1_0 :: .int .i64 v1_0 :: ofSl 2 e164 x0 :: .int .i64 (x0.n : Int) :: .bool (decide (v1_0 < (x0.n : Int))) :: us 14 [], []⟩ (by kernel_rfl) ?_
    refine WP.condR (decide (v1_0 < (x0.n : Int))) rfl (fun h1 => ?_) (fun h1 => ?_)
    · skip
      refine WP.skip ?_
      refine WP.seq ?_
      refine WP.block ?_
      refine WP.stepE g140_141_e_ok ⟨[ofSl 2 e164 x0, .fn 141 [], U, U, .bool false, .int .i64 v1_0, .int .i64 v1_0, ofSl 2 e164 x0, .int .i64 (x0.n : Int), .bool (decide (v1_0 < (x0.n : Int))), U, U, .fn 141 [], ofSl 2 e164 x0, .int .i64 v1_0, .int .i64 (IntKind.i64.wrap (v1_0 - 1)), .ref [.str (x0.at' (Int.toNat (IntKind.i64.wrap (v1_0 - 1)))).c0, .int .i64 (x0.at' (Int.toNat (IntKind.i64.wrap (v1_0 - 1)))).c1], .agg [.str (x0.at' (Int.toNat (IntKind.i64.wrap (v1_0 - 1)))).c0, .int .i64 (x0.at' (Int.toNat (IntKind.i64.wrap (v1_0 - 1)))).c1], ofSl 2 e164 x0, .int .i64 v1_0, .ref [.str (x0.at' (Int.toNat v1_0)).c0, .int .i64 (x0.at' (Int.toNat v1_0)).c1], .agg [.str (x0.at' (Int.toNat v1_0)).c0, .int .i64 (x0.at' (Int.toNat v1_0)).c1], .int .i64 (g141 (x0.at' (Int.toNat (IntKind.i64.wrap (v1_0 - 1)))).c0 (x0.at' (Int.toNat (IntKind.i64.wrap (v1_0 - 1)))).c1 (x0.at' (Int.toNat v1_0)).c0 (x0.at' (Int.toNat v1_0)).c1), .bool (decide ((g141 (x0.at' (Int.toNat (IntKind.i64.wrap (v1_0 - 1)))).c0 (x0.at' (Int.toNat (IntKind.i64.wrap (v1_0 - 1)))).c1 (x0.at' (Int.toNat v1_0)).c0 (x0.at' (Int.toNat v1_0)).c1) ≥ 0))], []⟩ (fun q => ((0 ≤ (IntKind.i64.wrap (v1_0 - 1)) ∧ (IntKind.i64.wrap (v1_0 - 1)) < (x0.n : Int)) ∧ ((0 ≤ v1_0 ∧ v1_0 < (x0.n : Int)) ∧ (true = true ∧ q)))) (by kernel_rfl) ⟨(by have := of_decide_eq_true h1; first | omega | (have := wrap64 (x := (v1_0 - 1)) (by omega) (by omega); omega)), ⟨(by have := of_decide_eq_true h1; omega), ⟨rfl, rfl⟩⟩⟩ ?_
      refine WP.condR (decide ((g141 (x0.at' (Int.toNat (IntKind.i64.wrap (v1_0 - 1)))).c0 (x0.at' (Int.toNat (IntKind.i64.wrap (v1_0 - 1)))).c1 (x0.at' (Int.toNat v1_0)).c0 (x0.at' (Int.toNat v1_0)).c1) ≥ 0)) rfl (fun h2 => ?_) (fun h2 => ?_)
      · skip
        refine WP.step0 g140_141_e_ok ⟨[ofSl 2 e164 x0, .fn 141 [], U, U, .bool false, .int .i64 v1_0, .int .i64 v1_0, ofSl 2 e164 x0, .int .i64 (x0.n : Int), .bool (decide (v1_0 < (x0.n : Int))), U, U, .fn 141 [], ofSl 2 e164 x0, .int .i64 v1_0, .int .i64 (IntKind.i64.wrap (v1_0 - 1)), .ref [.str (x0.at' (Int.toNat (IntKind.i64.wrap (v1_0 - 1)))).c0, .int .i64 (x0.at' (Int.toNat (IntKind.i64.wrap (v1_0 - 1)))).c1], .agg [.str (x0.at' (Int.toNat (IntKind.i64.wrap (v1_0 - 1)))).c0, .int .i64 (x0.at' (Int.toNat (IntKind.i64.wrap (v1_0 - 1)))).c1], ofSl 2 e164 x0, .int .i64 v1_0, .ref [.str (x0.at' (Int.toNat v1_0)).c0, .int .i64 (x0.at' (Int.toNat v1_0)).c1], .agg [.str (x0.at' (Int.toNat v1_0)).c0, .int .i64 (x0.at' (Int.toNat v1_0)).c1], .int .i64 (g141 (x0.at' (Int.toNat (IntKind.i64.wrap (v1_0 - 1)))).c0 (x0.at' (Int.toNat (IntKind.i64.wrap (v1_0 - 1)))).c1 (x0.at' (Int.toNat v1_0)).c0 (x0.at' (Int.toNat v1_0)).c1), .bool (decide ((g141 (x0.at' (Int.toNat (IntKind.i64.wrap (v1_0 - 1)))).c0 (x0.at' (Int.toNat (IntKind.i64.wrap (v1_0 - 1)))).c1 (x0.at' (Int.toNat v1_0)).c0 (x0.at' (Int.toNat v1_0)).c1) ≥ 0))], []⟩ (by kernel_rfl) ?_
        have hv3 : ((true, false) : Bool × Bool) = (g140_141_r1 x0) := ((eqT h1 (eqT h2 rfl))).trans hR1
        exact WP.retP (True ∧ ((.bool false : AV) = .bool (g140_141 x0))) (by kernel_rfl) ⟨trivial, (congrArg AV.bool ((congrArg (fun r : Bool × Bool => r.2) hv3).trans (eqF ((eqT (congrArg (fun r : Bool × Bool => r.1) hv3).symm rfl)).symm rfl)))⟩
      · skip
        refine WP.skip ?_
        refine WP.fin0 g140_141_e_ok ⟨[ofSl 2 e164 x0, .fn 141 [], U, U, .bool false, .int .i64 (IntKind.i64.wrap (v1_0 + 1)), .int .i64 v1_0, ofSl 2 e164 x0, .int .i64 (x0.n : Int), .bool (decide (v1_0 < (x0.n : Int))), .int .i64 v1_0, .int .i64 (IntKind.i64.wrap (v1_0 + 1)), .fn 141 [], ofSl 2 e164 x0, .int .i64 v1_0, .int .i64 (IntKind.i64.wrap (v1_0 - 1)), .ref [.str (x0.at' (Int.toNat (IntKind.i64.wrap (v1_0 - 1)))).c0, .int .i64 (x0.at' (Int.toNat (IntKind.i64.wrap (v1_0 - 1)))).c1], .agg [.str (x0.at' (Int.toNat (IntKind.i64.wrap (v1_0 - 1)))).c0, .int .i64 (x0.at' (Int.toNat (IntKind.i64.wrap (v1_0 - 1)))).c1], ofSl 2 e164 x0, .int .i64 v1_0, .ref [.str (x0.at' (Int.toNat v1_0)).c0, .int .i64 (x0.at' (Int.toNat v1_0)).c1], .agg [.str (x0.at' (Int.toNat v1_0)).c0, .int .i64 (x0.at' (Int.toNat v1_0)).c1], .int .i64 (g141 (x0.at' (Int.toNat (IntKind.i64.wrap (v1_0 - 1)))).c0 (x0.at' (Int.toNat (IntKind.i64.wrap (v1_0 - 1)))).c1 (x0.at' (Int.toNat v1_0)).c0 (x0.at' (Int.toNat v1_0)).c1), .bool (decide ((g141 (x0.at' (Int.toNat (IntKind.i64.wrap (v1_0 - 1)))).c0 (x0.at' (Int.toNat (IntKind.i64.wrap (v1_0 - 1)))).c1 (x0.at' (Int.toNat v1_0)).c0 (x0.at' (Int.toNat v1_0)).c1) ≥ 0))], []⟩ (by kernel_rfl) ?_
        exact loopR_nextE ((IntKind.i64.wrap (v1_0 + 1))) (by have := of_decide_eq_true h1; have := of_decide_eq_false h2; first | omega | (have := wrap64 (x := (v1_0 + 1)) (by omega) (by omega); omega) | (simp only [wrap64 (x := (v1_0 + 1)) (by omega) (by omega)]; omega)) (by have := of_decide_eq_true h1; have := of_decide_eq_false h2; first | omega | (have := wrap64 (x := (v1_0 + 1)) (by omega) (by omega); omega) | (simp only [wrap64 (x := (v1_0 + 1)) (by omega) (by omega)]; omega)) ((eqT h1 (eqF h2 rfl)).trans hR1) (by kernel_rfl)
    · skip
      have hv4 : ((false, default) : Bool × Bool) = (g140_141_r1 x0) := ((eqF h1 rfl)).trans hR1
      exact WP.exitP ((g140_141_p2 x0) = true ∧ (((false = false) ∧ True) ∧ True ∧ true = true)) (by kernel_rfl) ⟨((eqF (congrArg (fun r : Bool × Bool => r.1) hv4).symm rfl)).symm, ⟨⟨rfl, trivial⟩, trivial, rfl⟩⟩
  · skip
    intro h5
    refine WP.step0 g140_141_e_ok ⟨us 4 (.bool true :: us 19 []), []⟩ (by kernel_rfl) ?_
    exact WP.retP (True ∧ ((.bool true : AV) = .bool (g140_141 x0))) (by kernel_rfl) ⟨trivial, (congrArg AV.bool (eqT h5 rfl))⟩
noncomputable def s140_141 : Ans := fun xs => match xs with
  | [y0, .fn 141 []] => bif isSl 2 y0 then some (some (okSl e164 d164 y0), .bool (g140_141 (toSl d164 y0))) else none
  | _ => none
theorem k140_141 : SOk Try.prog 140 s140_141 := ⟨⟨_, _, Try.func140, rfl, by kernel_rfl⟩, fun args pre r h hp => by
  unfold s140_141 at h
  split at h
  · obtain ⟨b0, h⟩ := cond_some h
    cases h
    exact (pc140_141 _).weak (l1 (slLeA b0 hp.1) (l1 aF l0))
  · cases h⟩
noncomputable def g142_143_l1 (x0 : Sl ByteArray) : Nat → Int → Bool × Bool
  | 0, _ => default
  | k + 1, v1_0 => (bif (decide (v1_0 < (x0.n : Int))) then (bif (decide ((g143 (x0.at' (Int.toNat (IntKind.i64.wrap (v1_0 - 1)))) (x0.at' (Int.toNat v1_0))) ≥ 0)) then (true, false) else (g142_143_l1 x0 k (IntKind.i64.wrap (v1_0 + 1)))) else (false, default))
noncomputable def g142_143_r1 (x0 : Sl ByteArray) : Bool × Bool := g142_143_l1 x0 ((Int.toNat ((x0.n : Int) - 1)) + 1) 1
noncomputable def g142_143_p2 (x0 : Sl ByteArray) : Bool := (bif (g142_143_r1 x0).1 then false else true)
noncomputable def g142_143 (x0 : Sl ByteArray) : Bool := (bif (g142_143_p2 x0) then true else (g142_143_r1 x0).2)
noncomputable abbrev g142_143_e : Env := mkE [(143, s143)]
theorem g142_143_e_ok : g142_143_e.Ok := mkE_ok ⟨k143, trivial⟩
theorem pc142_143 (x0 : Sl ByteArray) : PureCall Try.prog 142 [ofSl 1 e9 x0, .fn 143 []] (.bool (g142_143 x0)) := by
  refine PureCall.fine fun hf => ?_
  have hf_x0 : Fine (ofSl 1 e9 x0) := hf.1
  have hn_x0 : x0.n ≤ 549755813888 := hf_x0.len
  refine pure_of_WP (E := g142_143_e) g142_143_e_ok Try.func142 rfl _ _ ?_
  refine WP.step0 g142_143_e_ok ⟨ofSl 1 e9 x0 :: .fn 143 [] :: U :: U :: .bool false :: us 19 [], []⟩ (by kernel_rfl) ?_
  refine WP.joinP ⟨us 4 (.bool false :: us 19 []), []⟩ (g142_143_p2 x0) ?_ ?_
  · skip
    refine WP.step0 g142_143_e_ok ⟨ofSl 1 e9 x0 :: .fn 143 [] :: U :: U :: .bool false :: .int .i64 1 :: us 18 [], []⟩ (by kernel_rfl) ?_
    refine WP.block ?_
    refine WP.loopK (σ := Int) (R := Bool × Bool) (fun s => ⟨ofSl 1 e9 x0 :: .fn 143 [] :: U :: U :: .bool false :: .int .i64 s :: us 18 [], []⟩) (fun s => (1 ≤ s ∧ (s ≤ (x0.n : Int) ∨ s = 1))) (fun s => (Int.toNat ((x0.n : Int) - s))) (fun k s => g142_143_l1 x0 k s) 1 (by first | omega | ((try dsimp only); omega) | ((try dsimp only); (try simp only [Sl.app_n]); (try simp only [Sl.lit_n]); (try simp only [Sl.part_n]); (try simp only [nilSl_n]); (try simp only [List.length_cons]); (try simp only [List.length_nil]); first | omega | (omega) | (simp only [wrap64 (by omega) (by omega)]; omega))) (leE (by kernel_rfl)) (fun k s hI1 hk1 hR1 => ?_)
    obtain ⟨v1_0, hs1⟩ : ∃ x, x = s := ⟨s, rfl⟩
    subst hs1
    have hI1 : (1 ≤ v1_0 ∧ (v1_0 ≤ (x0.n : Int) ∨ v1_0 = 1)) := hI1
    have hR1 : g142_143_l1 x0 (k + 1) v1_0 = (g142_143_r1 x0) := hR1
    refine WP.seq ?_
    refine WP.step0 g142_143_e_ok ⟨ofSl 1 e9 x0 :: .fn 143 [] :: U :: U :: .bool false :: .int .i64 v1_0 :: .int .i64 v1_0 :: ofSl 1 e9 x0 :: .int .i64 (x0.n : Int) :: .bool (decide (v1_0 < (x0.n : Int))) :: us 14 [], []⟩ (by kernel_rfl) ?_
    refine WP.condR (decide (v1_0 < (x0.n : Int))) rfl (fun h1 => ?_) (fun h1 => ?_)
    · skip
      refine WP.skip ?_
      refine WP.seq ?_
      refine WP.block ?_
      refine WP.stepE g142_143_e_ok ⟨[ofSl 1 e9 x0, .fn 143 [], U, U, .bool false, .int .i64 v1_0, .int .i64 v1_0, ofSl 1 e9 x0, .int .i64 (x0.n : Int), .bool (decide (v1_0 < (x0.n : Int))), U, U, .fn 143 [], ofSl 1 e9 x0, .int .i64 v1_0, .int .i64 (IntKind.i64.wrap (v1_0 - 1)), .ref [.str (x0.at' (Int.toNat (IntKind.i64.wrap (v1_0 - 1))))], .str (x0.at' (Int.toNat (IntKind.i64.wrap (v1_0 - 1)))), ofSl 1 e9 x0, .int .i64 v1_0, .ref [.str (x0.at' (Int.toNat v1_0))], .str (x0.at' (Int.toNat v1_0)), .int .i64 (g143 (x0.at' (Int.toNat (IntKind.i64.wrap (v1_0 - 1)))) (x0.at' (Int.toNat v1_0))), .bool (decide ((g143 (x0.at' (Int.toNat (IntKind.i64.wrap (v1_0 - 1)))) (x0.at' (Int.toNat v1_0))) ≥ 0))], []⟩ (fun q => ((0 ≤ (IntKind.i64.wrap (v1_0 - 1)) ∧ (IntKind.i64.wrap (v1_0 - 1)) < (x0.n : Int)) ∧ ((0 ≤ v1_0 ∧ v1_0 < (x0.n : Int)) ∧ (true = true ∧ q)))) (by kernel_rfl) ⟨(by have := of_decide_eq_true h1; first | omega | (have := wrap64 (x := (v1_0 - 1)) (by omega) (by omega); omega)), ⟨(by have := of_decide_eq_true h1; omega), ⟨rfl, rfl⟩⟩⟩ ?_
      refine WP.condR (decide ((g143 (x0.at' (Int.toNat (IntKind.i64.wrap (v1_0 - 1)))) (x0.at' (Int.toNat v1_0))) ≥ 0)) rfl (fun h2 => ?_) (fun h2 => ?_)
      · skip
        refine WP.step0 g142_143_e_ok ⟨[ofSl 1 e9 x0, .fn 143 [], U, U, .bool false, .int .i64 v1_0, .int .i64 v1_0, ofSl 1 e9 x0, .int .i64 (x0.n : Int), .bool (decide (v1_0 < (x0.n : Int))), U, U, .fn 143 [], ofSl 1 e9 x0, .int .i64 v1_0, .int .i64 (IntKind.i64.wrap (v1_0 - 1)), .ref [.str (x0.at' (Int.toNat (IntKind.i64.wrap (v1_0 - 1))))], .str (x0.at' (Int.toNat (IntKind.i64.wrap (v1_0 - 1)))), ofSl 1 e9 x0, .int .i64 v1_0, .ref [.str (x0.at' (Int.toNat v1_0))], .str (x0.at' (Int.toNat v1_0)), .int .i64 (g143 (x0.at' (Int.toNat (IntKind.i64.wrap (v1_0 - 1)))) (x0.at' (Int.toNat v1_0))), .bool (decide ((g143 (x0.at' (Int.toNat (IntKind.i64.wrap (v1_0 - 1)))) (x0.at' (Int.toNat v1_0))) ≥ 0))], []⟩ (by kernel_rfl) ?_
        have hv3 : ((true, false) : Bool × Bool) = (g142_143_r1 x0) := ((eqT h1 (eqT h2 rfl))).trans hR1
        exact WP.retP (True ∧ ((.bool false : AV) = .bool (g142_143 x0))) (by kernel_rfl) ⟨trivial, (congrArg AV.bool ((congrArg (fun r : Bool × Bool => r.2) hv3).trans (eqF ((eqT (congrArg (fun r : Bool × Bool => r.1) hv3).symm rfl)).symm rfl)))⟩
      · skip
        refine WP.skip ?_
        refine WP.fin0 g142_143_e_ok ⟨[ofSl 1 e9 x0, .fn 143 [], U, U, .bool false, .int .i64 (IntKind.i64.wrap (v1_0 + 1)), .int .i64 v1_0, ofSl 1 e9 x0, .int .i64 (x0.n : Int), .bool (decide (v1_0 < (x0.n : Int))), .int .i64 v1_0, .int .i64 (IntKind.i64.wrap (v1_0 + 1)), .fn 143 [], ofSl 1 e9 x0, .int .i64 v1_0, .int .i64 (IntKind.i64.wrap (v1_0 - 1)), .ref [.str (x0.at' (Int.toNat (IntKind.i64.wrap (v1_0 - 1))))], .str (x0.at' (Int.toNat (IntKind.i64.wrap (v1_0 - 1)))), ofSl 1 e9 x0, .int .i64 v1_0, .ref [.str (x0.at' (Int.toNat v1_0))], .str (x0.at' (Int.toNat v1_0)), .int .i64 (g143 (x0.at' (Int.toNat (IntKind.i64.wrap (v1_0 - 1)))) (x0.at' (Int.toNat v1_0))), .bool (decide ((g143 (x0.at' (Int.toNat (IntKind.i64.wrap (v1_0 - 1)))) (x0.at' (Int.toNat v1_0))) ≥ 0))], []⟩ (by kernel_rfl) ?_
        exact loopR_nextE ((IntKind.i64.wrap (v1_0 + 1))) (by have := of_decide_eq_true h1; have := of_decide_eq_false h2; first | omega | (have := wrap64 (x := (v1_0 + 1)) (by omega) (by omega); omega) | (simp only [wrap64 (x := (v1_0 + 1)) (by omega) (by omega)]; omega)) (by have := of_decide_eq_true h1; have := of_decide_eq_false h2; first | omega | (have := wrap64 (x := (v1_0 + 1)) (by omega) (by omega); omega) | (simp only [wrap64 (x := (v1_0 + 1)) (by omega) (by omega)]; omega)) ((eqT h1 (eqF h2 rfl)).trans hR1) (by kernel_rfl)
    · skip
      have hv4 : ((false, default) : Bool × Bool) = (g142_143_r1 x0) := ((eqF h1 rfl)).trans hR1
      exact WP.exitP ((g142_143_p2 x0) = true ∧ (((false = false) ∧ True) ∧ True ∧ true = true)) (by kernel_rfl) ⟨((eqF (congrArg (fun r : Bool × Bool => r.1) hv4).symm rfl)).symm, ⟨⟨rfl, trivial⟩, trivial, rfl⟩⟩
  · skip
    intro h5
    refine WP.step0 g142_143_e_ok ⟨us 4 (.bool true :: us 19 []), []⟩ (by kernel_rfl) ?_
    exact WP.retP (True ∧ ((.bool true : AV) = .bool (g142_143 x0))) (by kernel_rfl) ⟨trivial, (congrArg AV.bool (eqT h5 rfl))⟩
noncomputable def s142_143 : Ans := fun xs => match xs with
  | [y0, .fn 143 []] => bif isSl 1 y0 then some (some (okSl e9 d9 y0), .bool (g142_143 (toSl d9 y0))) else none
  | _ => none
theorem k142_143 : SOk Try.prog 142 s142_143 := ⟨⟨_, _, Try.func142, rfl, by kernel_rfl⟩, fun args pre r h hp => by
  unfold s142_143 at h
  split at h
  · obtain ⟨b0, h⟩ := cond_some h
    cases h
    exact (pc142_143 _).weak (l1 (slLeA b0 hp.1) (l1 aF l0))
  · cases h⟩
noncomputable def g132 (x0 : ByteArray) : Bool := (!(g116 x0))
noncomputable abbrev g132_e : Env := mkE [(116, s116)]
theorem g132_e_ok : g132_e.Ok := mkE_ok ⟨k116, trivial⟩
theorem pc132 (x0 : ByteArray) : PureCall Try.prog 132 [.str x0] (.bool (g132 x0)) := by
  refine pure_of_WP (E := g132_e) g132_e_ok Try.func132 rfl _ _ ?_
  refine WP.step0 g132_e_ok ⟨[.str x0, U, .bool false, U, U, U], []⟩ (by kernel_rfl) ?_
  refine WP.step0 g132_e_ok ⟨[U, U, .bool (!(g116 x0)), U, U, U], []⟩ (by kernel_rfl) ?_
  exact WP.retP (True ∧ ((.bool (!(g116 x0)) : AV) = .bool (g132 x0))) (by kernel_rfl) ⟨trivial, rfl⟩
noncomputable def s132 : Ans := fun xs => match xs with
  | [.str x0] => some (none, .bool (g132 x0))
  | _ => none
theorem k132 : SOk Try.prog 132 s132 := ⟨⟨_, _, Try.func132, rfl, by kernel_rfl⟩, fun args pre r h _ => by
  unfold s132 at h; split at h <;> cases h; exact pc132 _⟩
noncomputable def g192_132_l1 (x0 : Sl ByteArray) : Nat → Int → Bool × Int
  | 0, _ => default
  | k + 1, v1_0 => (bif (decide (v1_0 < (x0.n : Int))) then (bif (g132 (x0.at' (Int.toNat v1_0))) then (true, v1_0) else (g192_132_l1 x0 k (IntKind.i64.wrap (v1_0 + 1)))) else (false, default))
noncomputable def g192_132_r1 (x0 : Sl ByteArray) : Bool × Int := g192_132_l1 x0 ((Int.toNat ((x0.n : Int) - 0)) + 1) 0
noncomputable def g192_132_p2 (x0 : Sl ByteArray) : Bool := (bif (g192_132_r1 x0).1 then false else true)
noncomputable def g192_132 (x0 : Sl ByteArray) : Int := (bif (g192_132_p2 x0) then (-1) else (g192_132_r1 x0).2)
noncomputable abbrev g192_132_e : Env := mkE [(132, s132)]
theorem g192_132_e_ok : g192_132_e.Ok := mkE_ok ⟨k132, trivial⟩
theorem pc192_132 (x0 : Sl ByteArray) : PureCall Try.prog 192 [ofSl 1 e9 x0, .fn 132 []] (.int .i64 (g192_132 x0)) := by
  refine PureCall.fine fun hf => ?_
  have hf_x0 : Fine (ofSl 1 e9 x0) := hf.1
  have hn_x0 : x0.n ≤ 549755813888 := hf_x0.len
  refine pure_of_WP (E := g192_132_e) g192_132_e_ok Try.func192 rfl _ _ ?_
  refine WP.step0 g192_132_e_ok ⟨ofSl 1 e9 x0 :: .fn 132 [] :: U :: U :: .int .i64 0 :: us 14 [], []⟩ (by kernel_rfl) ?_
  refine WP.joinP ⟨us 4 (.int .i64 0 :: us 14 []), []⟩ (g192_132_p2 x0) ?_ ?_
  · skip
    refine WP.step0 g192_132_e_ok ⟨ofSl 1 e9 x0 :: .fn 132 [] :: U :: U :: .int .i64 0 :: U :: U :: .int .i64 (x0.n : Int) :: .int .i64 0 :: us 10 [], []⟩ (by kernel_rfl) ?_
    refine WP.block ?_
    refine WP.loopK (σ := Int) (R := Bool × Int) (fun s => ⟨ofSl 1 e9 x0 :: .fn 132 [] :: U :: U :: .int .i64 0 :: U :: U :: .int .i64 (x0.n : Int) :: .int .i64 s :: us 10 [], []⟩) (fun s => (0 ≤ s ∧ s ≤ (x0.n : Int))) (fun s => (Int.toNat ((x0.n : Int) - s))) (fun k s => g192_132_l1 x0 k s) 0 (by first | omega | ((try dsimp only); omega) | ((try dsimp only); (try simp only [Sl.app_n]); (try simp only [Sl.lit_n]); (try simp only [Sl.part_n]); (try simp only [nilSl_n]); (try simp only [List.length_cons]); (try simp only [List.length_nil]); first | omega | (omega) | (simp only [wrap64 (by omega) (by omega)]; omega))) (leE (by kernel_rfl)) (fun k s hI1 hk1 hR1 => ?_)
    obtain ⟨v1_0, hs1⟩ : ∃ x, x = s := ⟨s, rfl⟩
    subst hs1
    have hI1 : (0 ≤ v1_0 ∧ v1_0 ≤ (x0.n : Int)) := hI1
    have hR1 : g192_132_l1 x0 (k + 1) v1_0 = (g192_132_r1 x0) := hR1
    refine WP.step0 g192_132_e_ok ⟨ofSl 1 e9 x0 :: .fn 132 [] :: U :: U :: .int .i64 0 :: U :: U :: .int .i64 (x0.n : Int) :: .int .i64 v1_0 :: .bool (decide (v1_0 < (x0.n : Int))) :: us 9 [], []⟩ (by kernel_rfl) ?_
    refine WP.seq ?_
    refine WP.condR (decide (v1_0 < (x0.n : Int))) rfl (fun h1 => ?_) (fun h1 => ?_)
    · skip
      refine WP.skip ?_
      refine WP.seq ?_
      refine WP.block ?_
      refine WP.step0 g192_132_e_ok ⟨ofSl 1 e9 x0 :: .fn 132 [] :: U :: U :: .int .i64 0 :: .int .i64 v1_0 :: U :: .int .i64 (x0.n : Int) :: .int .i64 v1_0 :: .bool (decide (v1_0 < (x0.n : Int))) :: .int .i64 v1_0 :: us 8 [], []⟩ (by kernel_rfl) ?_
      refine WP.stepE g192_132_e_ok ⟨[ofSl 1 e9 x0, .fn 132 [], U, U, .int .i64 0, .int .i64 v1_0, U, .int .i64 (x0.n : Int), .int .i64 v1_0, .bool (decide (v1_0 < (x0.n : Int))), .int .i64 v1_0, .fn 132 [], ofSl 1 e9 x0, .int .i64 v1_0, .ref [.str (x0.at' (Int.toNat v1_0))], .str (x0.at' (Int.toNat v1_0)), .bool (g132 (x0.at' (Int.toNat v1_0))), U, U], []⟩ (fun q => ((0 ≤ v1_0 ∧ v1_0 < (x0.n : Int)) ∧ q)) (by kernel_rfl) ⟨(by have := of_decide_eq_true h1; omega), rfl⟩ ?_
      refine WP.condR (g132 (x0.at' (Int.toNat v1_0))) rfl (fun h2 => ?_) (fun h2 => ?_)
      · skip
        refine WP.step0 g192_132_e_ok ⟨[ofSl 1 e9 x0, .fn 132 [], U, U, .int .i64 v1_0, .int .i64 v1_0, U, .int .i64 (x0.n : Int), .int .i64 v1_0, .bool (decide (v1_0 < (x0.n : Int))), .int .i64 v1_0, .fn 132 [], ofSl 1 e9 x0, .int .i64 v1_0, .ref [.str (x0.at' (Int.toNat v1_0))], .str (x0.at' (Int.toNat v1_0)), .bool (g132 (x0.at' (Int.toNat v1_0))), .int .i64 v1_0, U], []⟩ (by kernel_rfl) ?_
        have hv3 : ((true, v1_0) : Bool × Int) = (g192_132_r1 x0) := ((eqT h1 (eqT h2 rfl))).trans hR1
        exact WP.retP (True ∧ ((.int .i64 v1_0 : AV) = .int .i64 (g192_132 x0))) (by kernel_rfl) ⟨trivial, (congrArg (AV.int .i64) ((congrArg (fun r : Bool × Int => r.2) hv3).trans (eqF ((eqT (congrArg (fun r : Bool × Int => r.1) hv3).symm rfl)).symm rfl)))⟩
      · skip
        refine WP.skip ?_
        refine WP.fin0 g192_132_e_ok ⟨[ofSl 1 e9 x0, .fn 132 [], U, U, .int .i64 0, .int .i64 v1_0, U, .int .i64 (x0.n : Int), .int .i64 (IntKind.i64.wrap (v1_0 + 1)), .bool (decide (v1_0 < (x0.n : Int))), .int .i64 v1_0, .fn 132 [], ofSl 1 e9 x0, .int .i64 v1_0, .ref [.str (x0.at' (Int.toNat v1_0))], .str (x0.at' (Int.toNat v1_0)), .bool (g132 (x0.at' (Int.toNat v1_0))), U, .int .i64 (IntKind.i64.wrap (v1_0 + 1))], []⟩ (by kernel_rfl) ?_
        exact loopR_nextE ((IntKind.i64.wrap (v1_0 + 1))) (by have := of_decide_eq_true h1; first | omega | (have := wrap64 (x := (v1_0 + 1)) (by omega) (by omega); omega) | (simp only [wrap64 (x := (v1_0 + 1)) (by omega) (by omega)]; omega)) (by have := of_decide_eq_true h1; first | omega | (have := wrap64 (x := (v1_0 + 1)) (by omega) (by omega); omega) | (simp only [wrap64 (x := (v1_0 + 1)) (by omega) (by omega)]; omega)) ((eqT h1 (eqF h2 rfl)).trans hR1) (by kernel_rfl)
    · skip
      have hv4 : ((false, default) : Bool × Int) = (g192_132_r1 x0) := ((eqF h1 rfl)).trans hR1
      exact WP.exitP ((g192_132_p2 x0) = true ∧ ((((0 : Int) = 0) ∧ True) ∧ True ∧ true = true)) (by kernel_rfl) ⟨((eqF (congrArg (fun r : Bool × Int => r.1) hv4).symm rfl)).symm, ⟨⟨rfl, trivial⟩, trivial, rfl⟩⟩
  · skip
    intro h5
    refine WP.step0 g192_132_e_ok ⟨us 4 (.int .i64 (-1) :: us 14 []), []⟩ (by kernel_rfl) ?_
    exact WP.retP (True ∧ ((.int .i64 (-1) : AV) = .int .i64 (g192_132 x0))) (by kernel_rfl) ⟨trivial, (congrArg (AV.int .i64) (eqT h5 rfl))⟩
noncomputable def s192_132 : Ans := fun xs => match xs with
  | [y0, .fn 132 []] => bif isSl 1 y0 then some (some (okSl e9 d9 y0), .int .i64 (g192_132 (toSl d9 y0))) else none
  | _ => none
theorem k192_132 : SOk Try.prog 192 s192_132 := ⟨⟨_, _, Try.func192, rfl, by kernel_rfl⟩, fun args pre r h hp => by
  unfold s192_132 at h
  split at h
  · obtain ⟨b0, h⟩ := cond_some h
    cases h
    exact (pc192_132 _).weak (l1 (slLeA b0 hp.1) (l1 aF l0))
  · cases h⟩
noncomputable def g110_132 (x0 : Sl ByteArray) : Bool := (decide ((g192_132 x0) ≥ 0))
noncomputable abbrev g110_132_e : Env := mkE [(192, s192_132)]
theorem g110_132_e_ok : g110_132_e.Ok := mkE_ok ⟨k192_132, trivial⟩
theorem pc110_132 (x0 : Sl ByteArray) : PureCall Try.prog 110 [ofSl 1 e9 x0, .fn 132 []] (.bool (g110_132 x0)) := by
  refine PureCall.fine fun hf => ?_
  have hf_x0 : Fine (ofSl 1 e9 x0) := hf.1
  have hn_x0 : x0.n ≤ 549755813888 := hf_x0.len
  refine pure_of_WP (E := g110_132_e) g110_132_e_ok Try.func110 rfl _ _ ?_
  refine WP.step0 g110_132_e_ok ⟨ofSl 1 e9 x0 :: .fn 132 [] :: U :: U :: .bool false :: us 4 [], []⟩ (by kernel_rfl) ?_
  refine WP.stepE g110_132_e_ok ⟨us 4 (.bool (decide ((g192_132 x0) ≥ 0)) :: us 4 []), []⟩ (fun q => (okSl e9 d9 (ofSl 1 e9 x0) ∧ q)) (by kernel_rfl) ⟨(okOf ed9 1 x0), rfl⟩ ?_
  exact WP.retP (True ∧ ((.bool (decide ((g192_132 x0) ≥ 0)) : AV) = .bool (g110_132 x0))) (by kernel_rfl) ⟨trivial, rfl⟩
noncomputable def s110_132 : Ans := fun xs => match xs with
  | [y0, .fn 132 []] => bif isSl 1 y0 then some (some (okSl e9 d9 y0), .bool (g110_132 (toSl d9 y0))) else none
  | _ => none
theorem k110_132 : SOk Try.prog 110 s110_132 := ⟨⟨_, _, Try.func110, rfl, by kernel_rfl⟩, fun args pre r h hp => by
  unfold s110_132 at h
  split at h
  · obtain ⟨b0, h⟩ := cond_some h
    cases h
    exact (pc110_132 _).weak (l1 (slLeA b0 hp.1) (l1 aF l0))
  · cases h⟩
noncomputable def g134_m1 (x0 : ByteArray) (x1 : ByteArray) : Bool := (bif (!(g115 x0)) then true else (!(g116 x1)))
noncomputable def g134 (x0 : ByteArray) (x1 : ByteArray) : Bool := (g134_m1 x0 x1)
noncomputable abbrev g134_e : Env := mkE [(115, s115), (116, s116)]
theorem g134_e_ok : g134_e.Ok := mkE_ok ⟨k115, k116, trivial⟩
theorem pc134 (x0 : ByteArray) (x1 : ByteArray) : PureCall Try.prog 134 [.agg [.str x0, .str x1]] (.bool (g134 x0 x1)) := by
  refine pure_of_WP (E := g134_e) g134_e_ok Try.func134 rfl _ _ ?_
  refine WP.step0 g134_e_ok ⟨U :: .ptr 0 0 :: .bool false :: us 10 [], [[.str x0, .str x1]]⟩ (by kernel_rfl) ?_
  refine WP.stepM g134_e_ok (fun a : Bool => ⟨U :: U :: .bool a :: us 10 [], []⟩) (g134_m1 x0 x1) (fun K => (((!(g115 x0)) = true → K true) ∧ ((!(g115 x0)) = false → K (!(g116 x1))))) (by kernel_rfl) ⟨fun h1 => (KM.mk (eqT h1 rfl)), fun h1 => (KM.mk (eqF h1 rfl))⟩ ?_
  exact WP.retP (True ∧ ((.bool (g134_m1 x0 x1) : AV) = .bool (g134 x0 x1))) (by kernel_rfl) ⟨trivial, rfl⟩
noncomputable def s134 : Ans := fun xs => match xs with
  | [.agg [.str x0, .str x1]] => some (none, .bool (g134 x0 x1))
  | _ => none
theorem k134 : SOk Try.prog 134 s134 := ⟨⟨_, _, Try.func134, rfl, by kernel_rfl⟩, fun args pre r h _ => by
  unfold s134 at h; split at h <;> cases h; exact pc134 _ _⟩
noncomputable def g196_134_l1 (x0 : Sl T160) : Nat → Int → Bool × Int
  | 0, _ => default
  | k + 1, v1_0 => (bif (decide (v1_0 < (x0.n : Int))) then (bif (g134 (x0.at' (Int.toNat v1_0)).c0 (x0.at' (Int.toNat v1_0)).c1) then (true, v1_0) else (g196_134_l1 x0 k (IntKind.i64.wrap (v1_0 + 1)))) else (false, default))
noncomputable def g196_134_r1 (x0 : Sl T160) : Bool × Int := g196_134_l1 x0 ((Int.toNat ((x0.n : Int) - 0)) + 1) 0
noncomputable def g196_134_p2 (x0 : Sl T160) : Bool := (bif (g196_134_r1 x0).1 then false else true)
noncomputable def g196_134 (x0 : Sl T160) : Int := (bif (g196_134_p2 x0) then (-1) else (g196_134_r1 x0).2)
noncomputable abbrev g196_134_e : Env := mkE [(134, s134)]
theorem g196_134_e_ok : g196_134_e.Ok := mkE_ok ⟨k134, trivial⟩
theorem pc196_134 (x0 : Sl T160) : PureCall Try.prog 196 [ofSl 2 e160 x0, .fn 134 []] (.int .i64 (g196_134 x0)) := by
  refine PureCall.fine fun hf => ?_
  have hf_x0 : Fine (ofSl 2 e160 x0) := hf.1
  have hn_x0 : x0.n ≤ 549755813888 := hf_x0.len
  refine pure_of_WP (E := g196_134_e) g196_134_e_ok Try.func196 rfl _ _ ?_
  refine WP.step0 g196_134_e_ok ⟨ofSl 2 e160 x0 :: .fn 134 [] :: U :: U :: .int .i64 0 :: us 14 [], []⟩ (by kernel_rfl) ?_
  refine WP.joinP ⟨us 4 (.int .i64 0 :: us 14 []), []⟩ (g196_134_p2 x0) ?_ ?_
  · skip
    refine WP.step0 g196_134_e_ok ⟨ofSl 2 e160 x0 :: .fn 134 [] :: U :: U :: .int .i64 0 :: U :: U :: .int .i64 (x0.n : Int) :: .int .i64 0 :: us 10 [], []⟩ (by kernel_rfl) ?_
    refine WP.block ?_
    refine WP.loopK (σ := Int) (R := Bool × Int) (fun s => ⟨ofSl 2 e160 x0 :: .fn 134 [] :: U :: U :: .int .i64 0 :: U :: U :: .int .i64 (x0.n : Int) :: .int .i64 s :: us 10 [], []⟩) (fun s => (0 ≤ s ∧ s ≤ (x0.n : Int))) (fun s => (Int.toNat ((x0.n : Int) - s))) (fun k s => g196_134_l1 x0 k s) 0 (by first | omega | ((try dsimp only); omega) | ((try dsimp only); (try simp only [Sl.app_n]); (try simp only [Sl.lit_n]); (try simp only [Sl.part_n]); (try simp only [nilSl_n]); (try simp only [List.length_cons]); (try simp only [List.length_nil]); first | omega | (omega) | (simp only [wrap64 (by omega) (by omega)]; omega))) (leE (by kernel_rfl)) (fun k s hI1 hk1 hR1 => ?_)
    obtain ⟨v1_0, hs1⟩ : ∃ x, x = s := ⟨s, rfl⟩
    subst hs1
    have hI1 : (0 ≤ v1_0 ∧ v1_0 ≤ (x0.n : Int)) := hI1
    have hR1 : g196_134_l1 x0 (k + 1) v1_0 = (g196_134_r1 x0) := hR1
    refine WP.step0 g196_134_e_ok ⟨ofSl 2 e160 x0 :: .fn 134 [] :: U :: U :: .int .i64 0 :: U :: U :: .int .i64 (x0.n : Int) :: .int .i64 v1_0 :: .bool (decide (v1_0 < (x0.n : Int))) :: us 9 [], []⟩ (by kernel_rfl) ?_
    refine WP.seq ?_
    refine WP.condR (decide (v1_0 < (x0.n : Int))) rfl (fun h1 => ?_) (fun h1 => ?_)
    · skip
      refine WP.skip ?_
      refine WP.seq ?_
      refine WP.block ?_
      refine WP.step0 g196_134_e_ok ⟨ofSl 2 e160 x0 :: .fn 134 [] :: U :: U :: .int .i64 0 :: .int .i64 v1_0 :: U :: .int .i64 (x0.n : Int) :: .int .i64 v1_0 :: .bool (decide (v1_0 < (x0.n : Int))) :: .int .i64 v1_0 :: us 8 [], []⟩ (by kernel_rfl) ?_
      refine WP.stepE g196_134_e_ok ⟨[ofSl 2 e160 x0, .fn 134 [], U, U, .int .i64 0, .int .i64 v1_0, U, .int .i64 (x0.n : Int), .int .i64 v1_0, .bool (decide (v1_0 < (x0.n : Int))), .int .i64 v1_0, .fn 134 [], ofSl 2 e160 x0, .int .i64 v1_0, .ref [.str (x0.at' (Int.toNat v1_0)).c0, .str (x0.at' (Int.toNat v1_0)).c1], .agg [.str (x0.at' (Int.toNat v1_0)).c0, .str (x0.at' (Int.toNat v1_0)).c1], .bool (g134 (x0.at' (Int.toNat v1_0)).c0 (x0.at' (Int.toNat v1_0)).c1), U, U], []⟩ (fun q => ((0 ≤ v1_0 ∧ v1_0 < (x0.n : Int)) ∧ q)) (by kernel_rfl) ⟨(by have := of_decide_eq_true h1; omega), rfl⟩ ?_
      refine WP.condR (g134 (x0.at' (Int.toNat v1_0)).c0 (x0.at' (Int.toNat v1_0)).c1) rfl (fun h2 => ?_) (fun h2 => ?_)
      · skip
        refine WP.step0 g196_134_e_ok ⟨[ofSl 2 e160 x0, .fn 134 [], U, U, .int .i64 v1_0, .int .i64 v1_0, U, .int .i64 (x0.n : Int), .int .i64 v1_0, .bool (decide (v1_0 < (x0.n : Int))), .int .i64 v1_0, .fn 134 [], ofSl 2 e160 x0, .int .i64 v1_0, .ref [.str (x0.at' (Int.toNat v1_0)).c0, .str (x0.at' (Int.toNat v1_0)).c1], .agg [.str (x0.at' (Int.toNat v1_0)).c0, .str (x0.at' (Int.toNat v1_0)).c1], .bool (g134 (x0.at' (Int.toNat v1_0)).c0 (x0.at' (Int.toNat v1_0)).c1), .int .i64 v1_0, U], []⟩ (by kernel_rfl) ?_
        have hv3 : ((true, v1_0) : Bool × Int) = (g196_134_r1 x0) := ((eqT h1 (eqT h2 rfl))).trans hR1
        exact WP.retP (True ∧ ((.int .i64 v1_0 : AV) = .int .i64 (g196_134 x0))) (by kernel_rfl) ⟨trivial, (congrArg (AV.int .i64) ((congrArg (fun r : Bool × Int => r.2) hv3).trans (eqF ((eqT (congrArg (fun r : Bool × Int => r.1) hv3).symm rfl)).symm rfl)))⟩
      · skip
        refine WP.skip ?_
        refine WP.fin0 g196_134_e_ok ⟨[ofSl 2 e160 x0, .fn 134 [], U, U, .int .i64 0, .int .i64 v1_0, U, .int .i64 (x0.n : Int), .int .i64 (IntKind.i64.wrap (v1_0 + 1)), .bool (decide (v1_0 < (x0.n : Int))), .int .i64 v1_0, .fn 134 [], ofSl 2 e160 x0, .int .i64 v1_0, .ref [.str (x0.at' (Int.toNat v1_0)).c0, .str (x0.at' (Int.toNat v1_0)).c1], .agg [.str (x0.at' (Int.toNat v1_0)).c0, .str (x0.at' (Int.toNat v1_0)).c1], .bool (g134 (x0.at' (Int.toNat v1_0)).c0 (x0.at' (Int.toNat v1_0)).c1), U, .int .i64 (IntKind.i64.wrap (v1_0 + 1))], []⟩ (by kernel_rfl) ?_
        exact loopR_nextE ((IntKind.i64.wrap (v1_0 + 1))) (by have := of_decide_eq_true h1; first | omega | (have := wrap64 (x := (v1_0 + 1)) (by omega) (by omega); omega) | (simp only [wrap64 (x := (v1_0 + 1)) (by omega) (by omega)]; omega)) (by have := of_decide_eq_true h1; first | omega | (have := wrap64 (x := (v1_0 + 1)) (by omega) (by omega); omega) | (simp only [wrap64 (x := (v1_0 + 1)) (by omega) (by omega)]; omega)) ((eqT h1 (eqF h2 rfl)).trans hR1) (by kernel_rfl)
    · skip
      have hv4 : ((false, default) : Bool × Int) = (g196_134_r1 x0) := ((eqF h1 rfl)).trans hR1
      exact WP.exitP ((g196_134_p2 x0) = true ∧ ((((0 : Int) = 0) ∧ True) ∧ True ∧ true = true)) (by kernel_rfl) ⟨((eqF (congrArg (fun r : Bool × Int => r.1) hv4).symm rfl)).symm, ⟨⟨rfl, trivial⟩, trivial, rfl⟩⟩
  · skip
    intro h5
    refine WP.step0 g196_134_e_ok ⟨us 4 (.int .i64 (-1) :: us 14 []), []⟩ (by kernel_rfl) ?_
    exact WP.retP (True ∧ ((.int .i64 (-1) : AV) = .int .i64 (g196_134 x0))) (by kernel_rfl) ⟨trivial, (congrArg (AV.int .i64) (eqT h5 rfl))⟩
noncomputable def s196_134 : Ans := fun xs => match xs with
  | [y0, .fn 134 []] => bif isSl 2 y0 then some (some (okSl e160 d160 y0), .int .i64 (g196_134 (toSl d160 y0))) else none
  | _ => none
theorem k196_134 : SOk Try.prog 196 s196_134 := ⟨⟨_, _, Try.func196, rfl, by kernel_rfl⟩, fun args pre r h hp => by
  unfold s196_134 at h
  split at h
  · obtain ⟨b0, h⟩ := cond_some h
    cases h
    exact (pc196_134 _).weak (l1 (slLeA b0 hp.1) (l1 aF l0))
  · cases h⟩
noncomputable def g133_134 (x0 : Sl T160) : Bool := (decide ((g196_134 x0) ≥ 0))
noncomputable abbrev g133_134_e : Env := mkE [(196, s196_134)]
theorem g133_134_e_ok : g133_134_e.Ok := mkE_ok ⟨k196_134, trivial⟩
theorem pc133_134 (x0 : Sl T160) : PureCall Try.prog 133 [ofSl 2 e160 x0, .fn 134 []] (.bool (g133_134 x0)) := by
  refine PureCall.fine fun hf => ?_
  have hf_x0 : Fine (ofSl 2 e160 x0) := hf.1
  have hn_x0 : x0.n ≤ 549755813888 := hf_x0.len
  refine pure_of_WP (E := g133_134_e) g133_134_e_ok Try.func133 rfl _ _ ?_
  refine WP.step0 g133_134_e_ok ⟨ofSl 2 e160 x0 :: .fn 134 [] :: U :: U :: .bool false :: us 4 [], []⟩ (by kernel_rfl) ?_
  refine WP.stepE g133_134_e_ok ⟨us 4 (.bool (decide ((g196_134 x0) ≥ 0)) :: us 4 []), []⟩ (fun q => (okSl e160 d160 (ofSl 2 e160 x0) ∧ q)) (by kernel_rfl) ⟨(okOf ed160 2 x0), rfl⟩ ?_
  exact WP.retP (True ∧ ((.bool (decide ((g196_134 x0) ≥ 0)) : AV) = .bool (g133_134 x0))) (by kernel_rfl) ⟨trivial, rfl⟩
noncomputable def s133_134 : Ans := fun xs => match xs with
  | [y0, .fn 134 []] => bif isSl 2 y0 then some (some (okSl e160 d160 y0), .bool (g133_134 (toSl d160 y0))) else none
  | _ => none
theorem k133_134 : SOk Try.prog 133 s133_134 := ⟨⟨_, _, Try.func133, rfl, by kernel_rfl⟩, fun args pre r h hp => by
  unfold s133_134 at h
  split at h
  · obtain ⟨b0, h⟩ := cond_some h
    cases h
    exact (pc133_134 _).weak (l1 (slLeA b0 hp.1) (l1 aF l0))
  · cases h⟩
noncomputable def g136 (x0 : ByteArray) : Bool := (!(g116 x0))
noncomputable abbrev g136_e : Env := mkE [(116, s116)]
theorem g136_e_ok : g136_e.Ok := mkE_ok ⟨k116, trivial⟩
theorem pc136 (x0 : ByteArray) (x1 : Int) : PureCall Try.prog 136 [.agg [.str x0, .int .i64 x1]] (.bool (g136 x0)) := by
  refine pure_of_WP (E := g136_e) g136_e_ok Try.func136 rfl _ _ ?_
  refine WP.step0 g136_e_ok ⟨U :: .ptr 0 0 :: .bool false :: us 4 [], [[.str x0, .int .i64 x1]]⟩ (by kernel_rfl) ?_
  refine WP.step0 g136_e_ok ⟨U :: U :: .bool (!(g116 x0)) :: us 4 [], []⟩ (by kernel_rfl) ?_
  exact WP.retP (True ∧ ((.bool (!(g116 x0)) : AV) = .bool (g136 x0))) (by kernel_rfl) ⟨trivial, rfl⟩
noncomputable def s136 : Ans := fun xs => match xs with
  | [.agg [.str x0, .int .i64 _]] => some (none, .bool (g136 x0))
  | _ => none
theorem k136 : SOk Try.prog 136 s136 := ⟨⟨_, _, Try.func136, rfl, by kernel_rfl⟩, fun args pre r h _ => by
  unfold s136 at h; split at h <;> cases h; exact pc136 _ _⟩
noncomputable def g197_136_l1 (x0 : Sl T164) : Nat → Int → Bool × Int
  | 0, _ => default
  | k + 1, v1_0 => (bif (decide (v1_0 < (x0.n : Int))) then (bif (g136 (x0.at' (Int.toNat v1_0)).c0) then (true, v1_0) else (g197_136_l1 x0 k (IntKind.i64.wrap (v1_0 + 1)))) else (false, default))
noncomputable def g197_136_r1 (x0 : Sl T164) : Bool × Int := g197_136_l1 x0 ((Int.toNat ((x0.n : Int) - 0)) + 1) 0
noncomputable def g197_136_p2 (x0 : Sl T164) : Bool := (bif (g197_136_r1 x0).1 then false else true)
noncomputable def g197_136 (x0 : Sl T164) : Int := (bif (g197_136_p2 x0) then (-1) else (g197_136_r1 x0).2)
noncomputable abbrev g197_136_e : Env := mkE [(136, s136)]
theorem g197_136_e_ok : g197_136_e.Ok := mkE_ok ⟨k136, trivial⟩
theorem pc197_136 (x0 : Sl T164) : PureCall Try.prog 197 [ofSl 2 e164 x0, .fn 136 []] (.int .i64 (g197_136 x0)) := by
  refine PureCall.fine fun hf => ?_
  have hf_x0 : Fine (ofSl 2 e164 x0) := hf.1
  have hn_x0 : x0.n ≤ 549755813888 := hf_x0.len
  refine pure_of_WP (E := g197_136_e) g197_136_e_ok Try.func197 rfl _ _ ?_
  refine WP.step0 g197_136_e_ok ⟨ofSl 2 e164 x0 :: .fn 136 [] :: U :: U :: .int .i64 0 :: us 14 [], []⟩ (by kernel_rfl) ?_
  refine WP.joinP ⟨us 4 (.int .i64 0 :: us 14 []), []⟩ (g197_136_p2 x0) ?_ ?_
  · skip
    refine WP.step0 g197_136_e_ok ⟨ofSl 2 e164 x0 :: .fn 136 [] :: U :: U :: .int .i64 0 :: U :: U :: .int .i64 (x0.n : Int) :: .int .i64 0 :: us 10 [], []⟩ (by kernel_rfl) ?_
    refine WP.block ?_
    refine WP.loopK (σ := Int) (R := Bool × Int) (fun s => ⟨ofSl 2 e164 x0 :: .fn 136 [] :: U :: U :: .int .i64 0 :: U :: U :: .int .i64 (x0.n : Int) :: .int .i64 s :: us 10 [], []⟩) (fun s => (0 ≤ s ∧ s ≤ (x0.n : Int))) (fun s => (Int.toNat ((x0.n : Int) - s))) (fun k s => g197_136_l1 x0 k s) 0 (by first | omega | ((try dsimp only); omega) | ((try dsimp only); (try simp only [Sl.app_n]); (try simp only [Sl.lit_n]); (try simp only [Sl.part_n]); (try simp only [nilSl_n]); (try simp only [List.length_cons]); (try simp only [List.length_nil]); first | omega | (omega) | (simp only [wrap64 (by omega) (by omega)]; omega))) (leE (by kernel_rfl)) (fun k s hI1 hk1 hR1 => ?_)
    obtain ⟨v1_0, hs1⟩ : ∃ x, x = s := ⟨s, rfl⟩
    subst hs1
    have hI1 : (0 ≤ v1_0 ∧ v1_0 ≤ (x0.n : Int)) := hI1
    have hR1 : g197_136_l1 x0 (k + 1) v1_0 = (g197_136_r1 x0) := hR1
    refine WP.step0 g197_136_e_ok ⟨ofSl 2 e164 x0 :: .fn 136 [] :: U :: U :: .int .i64 0 :: U :: U :: .int .i64 (x0.n : Int) :: .int .i64 v1_0 :: .bool (decide (v1_0 < (x0.n : Int))) :: us 9 [], []⟩ (by kernel_rfl) ?_
    refine WP.seq ?_
    refine WP.condR (decide (v1_0 < (x0.n : Int))) rfl (fun h1 => ?_) (fun h1 => ?_)
    · skip
      refine WP.skip ?_
      refine WP.seq ?_
      refine WP.block ?_
      refine WP.step0 g197_136_e_ok ⟨ofSl 2 e164 x0 :: .fn 136 [] :: U :: U :: .int .i64 0 :: .int .i64 v1_0 :: U :: .int .i64 (x0.n : Int) :: .int .i64 v1_0 :: .bool (decide (v1_0 < (x0.n : Int))) :: .int .i64 v1_0 :: us 8 [], []⟩ (by kernel_rfl) ?_
      refine WP.stepE g197_136_e_ok ⟨[ofSl 2 e164 x0, .fn 136 [], U, U, .int .i64 0, .int .i64 v1_0, U, .int .i64 (x0.n : Int), .int .i64 v1_0, .bool (decide (v1_0 < (x0.n : Int))), .int .i64 v1_0, .fn 136 [], ofSl 2 e164 x0, .int .i64 v1_0, .ref [.str (x0.at' (Int.toNat v1_0)).c0, .int .i64 (x0.at' (Int.toNat v1_0)).c1], .agg [.str (x0.at' (Int.toNat v1_0)).c0, .int .i64 (x0.at' (Int.toNat v1_0)).c1], .bool (g136 (x0.at' (Int.toNat v1_0)).c0), U, U], []⟩ (fun q => ((0 ≤ v1_0 ∧ v1_0 < (x0.n : Int)) ∧ q)) (by kernel_rfl) ⟨(by have := of_decide_eq_true h1; omega), rfl⟩ ?_
      refine WP.condR (g136 (x0.at' (Int.toNat v1_0)).c0) rfl (fun h2 => ?_) (fun h2 => ?_)
      · skip
        refine WP.step0 g197_136_e_ok ⟨[ofSl 2 e164 x0, .fn 136 [], U, U, .int .i64 v1_0, .int .i64 v1_0, U, .int .i64 (x0.n : Int), .int .i64 v1_0, .bool (decide (v1_0 < (x0.n : Int))), .int .i64 v1_0, .fn 136 [], ofSl 2 e164 x0, .int .i64 v1_0, .ref [.str (x0.at' (Int.toNat v1_0)).c0, .int .i64 (x0.at' (Int.toNat v1_0)).c1], .agg [.str (x0.at' (Int.toNat v1_0)).c0, .int .i64 (x0.at' (Int.toNat v1_0)).c1], .bool (g136 (x0.at' (Int.toNat v1_0)).c0), .int .i64 v1_0, U], []⟩ (by kernel_rfl) ?_
        have hv3 : ((true, v1_0) : Bool × Int) = (g197_136_r1 x0) := ((eqT h1 (eqT h2 rfl))).trans hR1
        exact WP.retP (True ∧ ((.int .i64 v1_0 : AV) = .int .i64 (g197_136 x0))) (by kernel_rfl) ⟨trivial, (congrArg (AV.int .i64) ((congrArg (fun r : Bool × Int => r.2) hv3).trans (eqF ((eqT (congrArg (fun r : Bool × Int => r.1) hv3).symm rfl)).symm rfl)))⟩
      · skip
        refine WP.skip ?_
        refine WP.fin0 g197_136_e_ok ⟨[ofSl 2 e164 x0, .fn 136 [], U, U, .int .i64 0, .int .i64 v1_0, U, .int .i64 (x0.n : Int), .int .i64 (IntKind.i64.wrap (v1_0 + 1)), .bool (decide (v1_0 < (x0.n : Int))), .int .i64 v1_0, .fn 136 [], ofSl 2 e164 x0, .int .i64 v1_0, .ref [.str (x0.at' (Int.toNat v1_0)).c0, .int .i64 (x0.at' (Int.toNat v1_0)).c1], .agg [.str (x0.at' (Int.toNat v1_0)).c0, .int .i64 (x0.at' (Int.toNat v1_0)).c1], .bool (g136 (x0.at' (Int.toNat v1_0)).c0), U, .int .i64 (IntKind.i64.wrap (v1_0 + 1))], []⟩ (by kernel_rfl) ?_
        exact loopR_nextE ((IntKind.i64.wrap (v1_0 + 1))) (by have := of_decide_eq_true h1; first | omega | (have := wrap64 (x := (v1_0 + 1)) (by omega) (by omega); omega) | (simp only [wrap64 (x := (v1_0 + 1)) (by omega) (by omega)]; omega)) (by have := of_decide_eq_true h1; first | omega | (have := wrap64 (x := (v1_0 + 1)) (by omega) (by omega); omega) | (simp only [wrap64 (x := (v1_0 + 1)) (by omega) (by omega)]; omega)) ((eqT h1 (eqF h2 rfl)).trans hR1) (by kernel_rfl)
    · skip
      have hv4 : ((false, default) : Bool × Int) = (g197_136_r1 x0) := ((eqF h1 rfl)).trans hR1
      exact WP.exitP ((g197_136_p2 x0) = true ∧ ((((0 : Int) = 0) ∧ True) ∧ True ∧ true = true)) (by kernel_rfl) ⟨((eqF (congrArg (fun r : Bool × Int => r.1) hv4).symm rfl)).symm, ⟨⟨rfl, trivial⟩, trivial, rfl⟩⟩
  · skip
    intro h5
    refine WP.step0 g197_136_e_ok ⟨us 4 (.int .i64 (-1) :: us 14 []), []⟩ (by kernel_rfl) ?_
    exact WP.retP (True ∧ ((.int .i64 (-1) : AV) = .int .i64 (g197_136 x0))) (by kernel_rfl) ⟨trivial, (congrArg (AV.int .i64) (eqT h5 rfl))⟩
noncomputable def s197_136 : Ans := fun xs => match xs with
  | [y0, .fn 136 []] => bif isSl 2 y0 then some (some (okSl e164 d164 y0), .int .i64 (g197_136 (toSl d164 y0))) else none
  | _ => none
theorem k197_136 : SOk Try.prog 197 s197_136 := ⟨⟨_, _, Try.func197, rfl, by kernel_rfl⟩, fun args pre r h hp => by
  unfold s197_136 at h
  split at h
  · obtain ⟨b0, h⟩ := cond_some h
    cases h
    exact (pc197_136 _).weak (l1 (slLeA b0 hp.1) (l1 aF l0))
  · cases h⟩
noncomputable def g135_136 (x0 : Sl T164) : Bool := (decide ((g197_136 x0) ≥ 0))
noncomputable abbrev g135_136_e : Env := mkE [(197, s197_136)]
theorem g135_136_e_ok : g135_136_e.Ok := mkE_ok ⟨k197_136, trivial⟩
theorem pc135_136 (x0 : Sl T164) : PureCall Try.prog 135 [ofSl 2 e164 x0, .fn 136 []] (.bool (g135_136 x0)) := by
  refine PureCall.fine fun hf => ?_
  have hf_x0 : Fine (ofSl 2 e164 x0) := hf.1
  have hn_x0 : x0.n ≤ 549755813888 := hf_x0.len
  refine pure_of_WP (E := g135_136_e) g135_136_e_ok Try.func135 rfl _ _ ?_
  refine WP.step0 g135_136_e_ok ⟨ofSl 2 e164 x0 :: .fn 136 [] :: U :: U :: .bool false :: us 4 [], []⟩ (by kernel_rfl) ?_
  refine WP.stepE g135_136_e_ok ⟨us 4 (.bool (decide ((g197_136 x0) ≥ 0)) :: us 4 []), []⟩ (fun q => (okSl e164 d164 (ofSl 2 e164 x0) ∧ q)) (by kernel_rfl) ⟨(okOf ed164 2 x0), rfl⟩ ?_
  exact WP.retP (True ∧ ((.bool (decide ((g197_136 x0) ≥ 0)) : AV) = .bool (g135_136 x0))) (by kernel_rfl) ⟨trivial, rfl⟩
noncomputable def s135_136 : Ans := fun xs => match xs with
  | [y0, .fn 136 []] => bif isSl 2 y0 then some (some (okSl e164 d164 y0), .bool (g135_136 (toSl d164 y0))) else none
  | _ => none
theorem k135_136 : SOk Try.prog 135 s135_136 := ⟨⟨_, _, Try.func135, rfl, by kernel_rfl⟩, fun args pre r h hp => by
  unfold s135_136 at h
  split at h
  · obtain ⟨b0, h⟩ := cond_some h
    cases h
    exact (pc135_136 _).weak (l1 (slLeA b0 hp.1) (l1 aF l0))
  · cases h⟩
noncomputable def g137 (x1 : Int) : Bool := (!(g117 x1))
noncomputable abbrev g137_e : Env := mkE [(117, s117)]
theorem g137_e_ok : g137_e.Ok := mkE_ok ⟨k117, trivial⟩
theorem pc137 (x0 : ByteArray) (x1 : Int) : PureCall Try.prog 137 [.agg [.str x0, .int .i64 x1]] (.bool (g137 x1)) := by
  refine pure_of_WP (E := g137_e) g137_e_ok Try.func137 rfl _ _ ?_
  refine WP.step0 g137_e_ok ⟨U :: .ptr 0 0 :: .bool false :: us 4 [], [[.str x0, .int .i64 x1]]⟩ (by kernel_rfl) ?_
  refine WP.step0 g137_e_ok ⟨U :: U :: .bool (!(g117 x1)) :: us 4 [], []⟩ (by kernel_rfl) ?_
  exact WP.retP (True ∧ ((.bool (!(g117 x1)) : AV) = .bool (g137 x1))) (by kernel_rfl) ⟨trivial, rfl⟩
noncomputable def s137 : Ans := fun xs => match xs with
  | [.agg [.str _, .int .i64 x1]] => some (none, .bool (g137 x1))
  | _ => none
theorem k137 : SOk Try.prog 137 s137 := ⟨⟨_, _, Try.func137, rfl, by kernel_rfl⟩, fun args pre r h _ => by
  unfold s137 at h; split at h <;> cases h; exact pc137 _ _⟩
noncomputable def g197_137_l1 (x0 : Sl T164) : Nat → Int → Bool × Int
  | 0, _ => default
  | k + 1, v1_0 => (bif (decide (v1_0 < (x0.n : Int))) then (bif (g137 (x0.at' (Int.toNat v1_0)).c1) then (true, v1_0) else (g197_137_l1 x0 k (IntKind.i64.wrap (v1_0 + 1)))) else (false, default))
noncomputable def g197_137_r1 (x0 : Sl T164) : Bool × Int := g197_137_l1 x0 ((Int.toNat ((x0.n : Int) - 0)) + 1) 0
noncomputable def g197_137_p2 (x0 : Sl T164) : Bool := (bif (g197_137_r1 x0).1 then false else true)
noncomputable def g197_137 (x0 : Sl T164) : Int := (bif (g197_137_p2 x0) then (-1) else (g197_137_r1 x0).2)
noncomputable abbrev g197_137_e : Env := mkE [(137, s137)]
theorem g197_137_e_ok : g197_137_e.Ok := mkE_ok ⟨k137, trivial⟩
theorem pc197_137 (x0 : Sl T164) : PureCall Try.prog 197 [ofSl 2 e164 x0, .fn 137 []] (.int .i64 (g197_137 x0)) := by
  refine PureCall.fine fun hf => ?_
  have hf_x0 : Fine (ofSl 2 e164 x0) := hf.1
  have hn_x0 : x0.n ≤ 549755813888 := hf_x0.len
  refine pure_of_WP (E := g197_137_e) g197_137_e_ok Try.func197 rfl _ _ ?_
  refine WP.step0 g197_137_e_ok ⟨ofSl 2 e164 x0 :: .fn 137 [] :: U :: U :: .int .i64 0 :: us 14 [], []⟩ (by kernel_rfl) ?_
  refine WP.joinP ⟨us 4 (.int .i64 0 :: us 14 []), []⟩ (g197_137_p2 x0) ?_ ?_
  · skip
    refine WP.step0 g197_137_e_ok ⟨ofSl 2 e164 x0 :: .fn 137 [] :: U :: U :: .int .i64 0 :: U :: U :: .int .i64 (x0.n : Int) :: .int .i64 0 :: us 10 [], []⟩ (by kernel_rfl) ?_
    refine WP.block ?_
    refine WP.loopK (σ := Int) (R := Bool × Int) (fun s => ⟨ofSl 2 e164 x0 :: .fn 137 [] :: U :: U :: .int .i64 0 :: U :: U :: .int .i64 (x0.n : Int) :: .int .i64 s :: us 10 [], []⟩) (fun s => (0 ≤ s ∧ s ≤ (x0.n : Int))) (fun s => (Int.toNat ((x0.n : Int) - s))) (fun k s => g197_137_l1 x0 k s) 0 (by first | omega | ((try dsimp only); omega) | ((try dsimp only); (try simp only [Sl.app_n]); (try simp only [Sl.lit_n]); (try simp only [Sl.part_n]); (try simp only [nilSl_n]); (try simp only [List.length_cons]); (try simp only [List.length_nil]); first | omega | (omega) | (simp only [wrap64 (by omega) (by omega)]; omega))) (leE (by kernel_rfl)) (fun k s hI1 hk1 hR1 => ?_)
    obtain ⟨v1_0, hs1⟩ : ∃ x, x = s := ⟨s, rfl⟩
    subst hs1
    have hI1 : (0 ≤ v1_0 ∧ v1_0 ≤ (x0.n : Int)) := hI1
    have hR1 : g197_137_l1 x0 (k + 1) v1_0 = (g197_137_r1 x0) := hR1
    refine WP.step0 g197_137_e_ok ⟨ofSl 2 e164 x0 :: .fn 137 [] :: U :: U :: .int .i64 0 :: U :: U :: .int .i64 (x0.n : Int) :: .int .i64 v1_0 :: .bool (decide (v1_0 < (x0.n : Int))) :: us 9 [], []⟩ (by kernel_rfl) ?_
    refine WP.seq ?_
    refine WP.condR (decide (v1_0 < (x0.n : Int))) rfl (fun h1 => ?_) (fun h1 => ?_)
    · skip
      refine WP.skip ?_
      refine WP.seq ?_
      refine WP.block ?_
      refine WP.step0 g197_137_e_ok ⟨ofSl 2 e164 x0 :: .fn 137 [] :: U :: U :: .int .i64 0 :: .int .i64 v1_0 :: U :: .int .i64 (x0.n : Int) :: .int .i64 v1_0 :: .bool (decide (v1_0 < (x0.n : Int))) :: .int .i64 v1_0 :: us 8 [], []⟩ (by kernel_rfl) ?_
      refine WP.stepE g197_137_e_ok ⟨[ofSl 2 e164 x0, .fn 137 [], U, U, .int .i64 0, .int .i64 v1_0, U, .int .i64 (x0.n : Int), .int .i64 v1_0, .bool (decide (v1_0 < (x0.n : Int))), .int .i64 v1_0, .fn 137 [], ofSl 2 e164 x0, .int .i64 v1_0, .ref [.str (x0.at' (Int.toNat v1_0)).c0, .int .i64 (x0.at' (Int.toNat v1_0)).c1], .agg [.str (x0.at' (Int.toNat v1_0)).c0, .int .i64 (x0.at' (Int.toNat v1_0)).c1], .bool (g137 (x0.at' (Int.toNat v1_0)).c1), U, U], []⟩ (fun q => ((0 ≤ v1_0 ∧ v1_0 < (x0.n : Int)) ∧ q)) (by kernel_rfl) ⟨(by have := of_decide_eq_true h1; omega), rfl⟩ ?_
      refine WP.condR (g137 (x0.at' (Int.toNat v1_0)).c1) rfl (fun h2 => ?_) (fun h2 => ?_)
      · skip
        refine WP.step0 g197_137_e_ok ⟨[ofSl 2 e164 x0, .fn 137 [], U, U, .int .i64 v1_0, .int .i64 v1_0, U, .int .i64 (x0.n : Int), .int .i64 v1_0, .bool (decide (v1_0 < (x0.n : Int))), .int .i64 v1_0, .fn 137 [], ofSl 2 e164 x0, .int .i64 v1_0, .ref [.str (x0.at' (Int.toNat v1_0)).c0, .int .i64 (x0.at' (Int.toNat v1_0)).c1], .agg [.str (x0.at' (Int.toNat v1_0)).c0, .int .i64 (x0.at' (Int.toNat v1_0)).c1], .bool (g137 (x0.at' (Int.toNat v1_0)).c1), .int .i64 v1_0, U], []⟩ (by kernel_rfl) ?_
        have hv3 : ((true, v1_0) : Bool × Int) = (g197_137_r1 x0) := ((eqT h1 (eqT h2 rfl))).trans hR1
        exact WP.retP (True ∧ ((.int .i64 v1_0 : AV) = .int .i64 (g197_137 x0))) (by kernel_rfl) ⟨trivial, (congrArg (AV.int .i64) ((congrArg (fun r : Bool × Int => r.2) hv3).trans (eqF ((eqT (congrArg (fun r : Bool × Int => r.1) hv3).symm rfl)).symm rfl)))⟩
      · skip
        refine WP.skip ?_
        refine WP.fin0 g197_137_e_ok ⟨[ofSl 2 e164 x0, .fn 137 [], U, U, .int .i64 0, .int .i64 v1_0, U, .int .i64 (x0.n : Int), .int .i64 (IntKind.i64.wrap (v1_0 + 1)), .bool (decide (v1_0 < (x0.n : Int))), .int .i64 v1_0, .fn 137 [], ofSl 2 e164 x0, .int .i64 v1_0, .ref [.str (x0.at' (Int.toNat v1_0)).c0, .int .i64 (x0.at' (Int.toNat v1_0)).c1], .agg [.str (x0.at' (Int.toNat v1_0)).c0, .int .i64 (x0.at' (Int.toNat v1_0)).c1], .bool (g137 (x0.at' (Int.toNat v1_0)).c1), U, .int .i64 (IntKind.i64.wrap (v1_0 + 1))], []⟩ (by kernel_rfl) ?_
        exact loopR_nextE ((IntKind.i64.wrap (v1_0 + 1))) (by have := of_decide_eq_true h1; first | omega | (have := wrap64 (x := (v1_0 + 1)) (by omega) (by omega); omega) | (simp only [wrap64 (x := (v1_0 + 1)) (by omega) (by omega)]; omega)) (by have := of_decide_eq_true h1; first | omega | (have := wrap64 (x := (v1_0 + 1)) (by omega) (by omega); omega) | (simp only [wrap64 (x := (v1_0 + 1)) (by omega) (by omega)]; omega)) ((eqT h1 (eqF h2 rfl)).trans hR1) (by kernel_rfl)
    · skip
      have hv4 : ((false, default) : Bool × Int) = (g197_137_r1 x0) := ((eqF h1 rfl)).trans hR1
      exact WP.exitP ((g197_137_p2 x0) = true ∧ ((((0 : Int) = 0) ∧ True) ∧ True ∧ true = true)) (by kernel_rfl) ⟨((eqF (congrArg (fun r : Bool × Int => r.1) hv4).symm rfl)).symm, ⟨⟨rfl, trivial⟩, trivial, rfl⟩⟩
  · skip
    intro h5
    refine WP.step0 g197_137_e_ok ⟨us 4 (.int .i64 (-1) :: us 14 []), []⟩ (by kernel_rfl) ?_
    exact WP.retP (True ∧ ((.int .i64 (-1) : AV) = .int .i64 (g197_137 x0))) (by kernel_rfl) ⟨trivial, (congrArg (AV.int .i64) (eqT h5 rfl))⟩
noncomputable def s197_137 : Ans := fun xs => match xs with
  | [y0, .fn 137 []] => bif isSl 2 y0 then some (some (okSl e164 d164 y0), .int .i64 (g197_137 (toSl d164 y0))) else none
  | _ => none
theorem k197_137 : SOk Try.prog 197 s197_137 := ⟨⟨_, _, Try.func197, rfl, by kernel_rfl⟩, fun args pre r h hp => by
  unfold s197_137 at h
  split at h
  · obtain ⟨b0, h⟩ := cond_some h
    cases h
    exact (pc197_137 _).weak (l1 (slLeA b0 hp.1) (l1 aF l0))
  · cases h⟩
noncomputable def g135_137 (x0 : Sl T164) : Bool := (decide ((g197_137 x0) ≥ 0))
noncomputable abbrev g135_137_e : Env := mkE [(197, s197_137)]
theorem g135_137_e_ok : g135_137_e.Ok := mkE_ok ⟨k197_137, trivial⟩
theorem pc135_137 (x0 : Sl T164) : PureCall Try.prog 135 [ofSl 2 e164 x0, .fn 137 []] (.bool (g135_137 x0)) := by
  refine PureCall.fine fun hf => ?_
  have hf_x0 : Fine (ofSl 2 e164 x0) := hf.1
  have hn_x0 : x0.n ≤ 549755813888 := hf_x0.len
  refine pure_of_WP (E := g135_137_e) g135_137_e_ok Try.func135 rfl _ _ ?_
  refine WP.step0 g135_137_e_ok ⟨ofSl 2 e164 x0 :: .fn 137 [] :: U :: U :: .bool false :: us 4 [], []⟩ (by kernel_rfl) ?_
  refine WP.stepE g135_137_e_ok ⟨us 4 (.bool (decide ((g197_137 x0) ≥ 0)) :: us 4 []), []⟩ (fun q => (okSl e164 d164 (ofSl 2 e164 x0) ∧ q)) (by kernel_rfl) ⟨(okOf ed164 2 x0), rfl⟩ ?_
  exact WP.retP (True ∧ ((.bool (decide ((g197_137 x0) ≥ 0)) : AV) = .bool (g135_137 x0))) (by kernel_rfl) ⟨trivial, rfl⟩
noncomputable def s135_137 : Ans := fun xs => match xs with
  | [y0, .fn 137 []] => bif isSl 2 y0 then some (some (okSl e164 d164 y0), .bool (g135_137 (toSl d164 y0))) else none
  | _ => none
theorem k135_137 : SOk Try.prog 135 s135_137 := ⟨⟨_, _, Try.func135, rfl, by kernel_rfl⟩, fun args pre r h hp => by
  unfold s135_137 at h
  split at h
  · obtain ⟨b0, h⟩ := cond_some h
    cases h
    exact (pc135_137 _).weak (l1 (slLeA b0 hp.1) (l1 aF l0))
  · cases h⟩
noncomputable def g131 (x3 : Sl T160) (x4 : Sl ByteArray) (x5 : Sl T164) : Int := (IntKind.i64.wrap ((IntKind.i64.wrap ((x3.n : Int) + (x4.n : Int))) + (x5.n : Int)))
noncomputable abbrev g131_e : Env := mkE []
theorem g131_e_ok : g131_e.Ok := mkE_ok trivial
theorem pc131 (x0 : Int) (x1 : ByteArray) (x2 : Int) (x3 : Sl T160) (x4 : Sl ByteArray) (x5 : Sl T164) : PureCall Try.prog 131 [.agg [.int .i64 x0, .str x1, .int .i64 x2, ofSl 2 e160 x3, ofSl 1 e9 x4, ofSl 2 e164 x5]] (.int .i64 (g131 x3 x4 x5)) := by
  refine PureCall.fine fun hf => ?_
  have hf_x3 : Fine (ofSl 2 e160 x3) := hf.1.2.2.2.1
  have hn_x3 : x3.n ≤ 549755813888 := hf_x3.len
  have hf_x4 : Fine (ofSl 1 e9 x4) := hf.1.2.2.2.2.1
  have hn_x4 : x4.n ≤ 549755813888 := hf_x4.len
  have hf_x5 : Fine (ofSl 2 e164 x5) := hf.1.2.2.2.2.2.1
  have hn_x5 : x5.n ≤ 549755813888 := hf_x5.len
  refine pure_of_WP (E := g131_e) g131_e_ok Try.func131 rfl _ _ ?_
  refine WP.step0 g131_e_ok ⟨U :: .ptr 0 0 :: .int .i64 0 :: us 11 [], [[.int .i64 x0, .str x1, .int .i64 x2, ofSl 2 e160 x3, ofSl 1 e9 x4, ofSl 2 e164 x5]]⟩ (by kernel_rfl) ?_
  refine WP.step0 g131_e_ok ⟨U :: U :: .int .i64 (IntKind.i64.wrap ((IntKind.i64.wrap ((x3.n : Int) + (x4.n : Int))) + (x5.n : Int))) :: us 11 [], []⟩ (by kernel_rfl) ?_
  exact WP.retP (True ∧ ((.int .i64 (IntKind.i64.wrap ((IntKind.i64.wrap ((x3.n : Int) + (x4.n : Int))) + (x5.n : Int))) : AV) = .int .i64 (g131 x3 x4 x5))) (by kernel_rfl) ⟨trivial, rfl⟩
noncomputable def s131 : Ans := fun xs => match xs with
  | [.agg [.int .i64 _, .str _, .int .i64 _, y3, y4, y5]] => bif isSl 2 y3 then bif isSl 1 y4 then bif isSl 2 y5 then some (some (okSl e160 d160 y3 ∧ okSl e9 d9 y4 ∧ okSl e164 d164 y5), .int .i64 (g131 (toSl d160 y3) (toSl d9 y4) (toSl d164 y5))) else none else none else none
  | _ => none
theorem k131 : SOk Try.prog 131 s131 := ⟨⟨_, _, Try.func131, rfl, by kernel_rfl⟩, fun args pre r h hp => by
  unfold s131 at h
  split at h
  · obtain ⟨b0, h⟩ := cond_some h
    obtain ⟨b1, h⟩ := cond_some h
    obtain ⟨b2, h⟩ := cond_some h
    cases h
    exact (pc131 _ _ _ _ _ _).weak (l1 (aG (l1 cI (l1 cS (l1 cI (l1 (slLe b0 hp.1.1) (l1 (slLe b1 hp.1.2.1) (l1 (slLe b2 hp.1.2.2) l0))))))) l0)
  · cases h⟩
noncomputable def g201s (x0 : ByteArray) (x2 : ByteArray) : Bool := ((x0 : ByteArray).toList == (x2 : ByteArray).toList)
noncomputable abbrev g201s_e : Env := mkE []
theorem g201s_e_ok : g201s_e.Ok := mkE_ok trivial
theorem pc201s (x0 : ByteArray) (x1 : Int) (x2 : ByteArray) : PureCall Try.prog 201 [.agg [.str x0, .int .i64 x1], .ref [.str x2]] (.bool (g201s x0 x2)) := by
  refine pure_of_WP (E := g201s_e) g201s_e_ok Try.func201 rfl _ _ ?_
  refine WP.step0 g201s_e_ok ⟨U :: .ref [.str x2] :: .ptr 0 0 :: .bool false :: us 4 [], [[.str x0, .int .i64 x1]]⟩ (by kernel_rfl) ?_
  refine WP.step0 g201s_e_ok ⟨U :: U :: U :: .bool ((x0 : ByteArray).toList == (x2 : ByteArray).toList) :: us 4 [], []⟩ (by kernel_rfl) ?_
  exact WP.retP (True ∧ ((.bool ((x0 : ByteArray).toList == (x2 : ByteArray).toList) : AV) = .bool (g201s x0 x2))) (by kernel_rfl) ⟨trivial, rfl⟩
noncomputable def s201s : Ans := fun xs => match xs with
  | [.agg [.str x0, .int .i64 _], .ref [.str x2]] => some (none, .bool (g201s x0 x2))
  | _ => none
theorem k201s : SOk Try.prog 201 s201s := ⟨⟨_, _, Try.func201, rfl, by kernel_rfl⟩, fun args pre r h _ => by
  unfold s201s at h; split at h <;> cases h; exact pc201s _ _ _⟩
noncomputable def g197_201s_l1 (x0 : Sl T164) (x1 : ByteArray) : Nat → Int → Bool × Int
  | 0, _ => default
  | k + 1, v1_0 => (bif (decide (v1_0 < (x0.n : Int))) then (bif (g201s (x0.at' (Int.toNat v1_0)).c0 x1) then (true, v1_0) else (g197_201s_l1 x0 x1 k (IntKind.i64.wrap (v1_0 + 1)))) else (false, default))
noncomputable def g197_201s_r1 (x0 : Sl T164) (x1 : ByteArray) : Bool × Int := g197_201s_l1 x0 x1 ((Int.toNat ((x0.n : Int) - 0)) + 1) 0
noncomputable def g197_201s_p2 (x0 : Sl T164) (x1 : ByteArray) : Bool := (bif (g197_201s_r1 x0 x1).1 then false else true)
noncomputable def g197_201s (x0 : Sl T164) (x1 : ByteArray) : Int := (bif (g197_201s_p2 x0 x1) then (-1) else (g197_201s_r1 x0 x1).2)
noncomputable abbrev g197_201s_e : Env := mkE [(201, s201s)]
theorem g197_201s_e_ok : g197_201s_e.Ok := mkE_ok ⟨k201s, trivial⟩
theorem pc197_201s (x0 : Sl T164) (x1 : ByteArray) : PureCall Try.prog 197 [ofSl 2 e164 x0, .fn 201 [.ref [.str x1]]] (.int .i64 (g197_201s x0 x1)) := by
  refine PureCall.fine fun hf => ?_
  have hf_x0 : Fine (ofSl 2 e164 x0) := hf.1
  have hn_x0 : x0.n ≤ 549755813888 := hf_x0.len
  refine pure_of_WP (E := g197_201s_e) g197_201s_e_ok Try.func197 rfl _ _ ?_
  refine WP.step0 g197_201s_e_ok ⟨ofSl 2 e164 x0 :: .fn 201 [.ref [.str x1]] :: U :: U :: .int .i64 0 :: us 14 [], []⟩ (by kernel_rfl) ?_
  refine WP.joinP ⟨us 4 (.int .i64 0 :: us 14 []), []⟩ (g197_201s_p2 x0 x1) ?_ ?_
  · skip
    refine WP.step0 g197_201s_e_ok ⟨ofSl 2 e164 x0 :: .fn 201 [.ref [.str x1]] :: U :: U :: .int .i64 0 :: U :: U :: .int .i64 (x0.n : Int) :: .int .i64 0 :: us 10 [], []⟩ (by kernel_rfl) ?_
    refine WP.block ?_
    refine WP.loopK (σ := Int) (R := Bool × Int) (fun s => ⟨ofSl 2 e164 x0 :: .fn 201 [.ref [.str x1]] :: U :: U :: .int .i64 0 :: U :: U :: .int .i64 (x0.n : Int) :: .int .i64 s :: us 10 [], []⟩) (fun s => (0 ≤ s ∧ s ≤ (x0.n : Int))) (fun s => (Int.toNat ((x0.n : Int) - s))) (fun k s => g197_201s_l1 x0 x1 k s) 0 (by first | omega | ((try dsimp only); omega) | ((try dsimp only); (try simp only [Sl.app_n]); (try simp only [Sl.lit_n]); (try simp only [Sl.part_n]); (try simp only [nilSl_n]); (try simp only [List.length_cons]); (try simp only [List.length_nil]); first | omega | (omega) | (simp only [wrap64 (by omega) (by omega)]; omega))) (leE (by kernel_rfl)) (fun k s hI1 hk1 hR1 => ?_)
    obtain ⟨v1_0, hs1⟩ : ∃ x, x = s := ⟨s, rfl⟩
    subst hs1
    have hI1 : (0 ≤ v1_0 ∧ v1_0 ≤ (x0.n : Int)) := hI1
    have hR1 : g197_201s_l1 x0 x1 (k + 1) v1_0 = (g197_201s_r1 x0 x1) := hR1
    refine WP.step0 g197_201s_e_ok ⟨ofSl 2 e164 x0 :: .fn 201 [.ref [.str x1]] :: U :: U :: .int .i64 0 :: U :: U :: .int .i64 (x0.n : Int) :: .int .i64 v1_0 :: .bool (decide (v1_0 < (x0.n : Int))) :: us 9 [], []⟩ (by kernel_rfl) ?_
    refine WP.seq ?_
    refine WP.condR (decide (v1_0 < (x0.n : Int))) rfl (fun h1 => ?_) (fun h1 => ?_)
    · skip
      refine WP.skip ?_
      refine WP.seq ?_
      refine WP.block ?_
      refine WP.step0 g197_201s_e_ok ⟨ofSl 2 e164 x0 :: .fn 201 [.ref [.str x1]] :: U :: U :: .int .i64 0 :: .int .i64 v1_0 :: U :: .int .i64 (x0.n : Int) :: .int .i64 v1_0 :: .bool (decide (v1_0 < (x0.n : Int))) :: .int .i64 v1_0 :: us 8 [], []⟩ (by kernel_rfl) ?_
      refine WP.stepE g197_201s_e_ok ⟨[ofSl 2 e164 x0, .fn 201 [.ref [.str x1]], U, U, .int .i64 0, .int .i64 v1_0, U, .int .i64 (x0.n : Int), .int .i64 v1_0, .bool (decide (v1_0 < (x0.n : Int))), .int .i64 v1_0, .fn 201 [.ref [.str x1]], ofSl 2 e164 x0, .int .i64 v1_0, .ref [.str (x0.at' (Int.toNat v1_0)).c0, .int .i64 (x0.at' (Int.toNat v1_0)).c1], .agg [.str (x0.at' (Int.toNat v1_0)).c0, .int .i64 (x0.at' (Int.toNat v1_0)).c1], .bool (g201s (x0.at' (Int.toNat v1_0)).c0 x1), U, U], []⟩ (fun q => ((0 ≤ v1_0 ∧ v1_0 < (x0.n : Int)) ∧ q)) (by kernel_rfl) ⟨(by have := of_decide_eq_true h1; omega), rfl⟩ ?_
      refine WP.condR (g201s (x0.at' (Int.toNat v1_0)).c0 x1) rfl (fun h2 => ?_) (fun h2 => ?_)
      · skip
        refine WP.step0 g197_201s_e_ok ⟨[ofSl 2 e164 x0, .fn 201 [.ref [.str x1]], U, U, .int .i64 v1_0, .int .i64 v1_0, U, .int .i64 (x0.n : Int), .int .i64 v1_0, .bool (decide (v1_0 < (x0.n : Int))), .int .i64 v1_0, .fn 201 [.ref [.str x1]], ofSl 2 e164 x0, .int .i64 v1_0, .ref [.str (x0.at' (Int.toNat v1_0)).c0, .int .i64 (x0.at' (Int.toNat v1_0)).c1], .agg [.str (x0.at' (Int.toNat v1_0)).c0, .int .i64 (x0.at' (Int.toNat v1_0)).c1], .bool (g201s (x0.at' (Int.toNat v1_0)).c0 x1), .int .i64 v1_0, U], []⟩ (by kernel_rfl) ?_
        have hv3 : ((true, v1_0) : Bool × Int) = (g197_201s_r1 x0 x1) := ((eqT h1 (eqT h2 rfl))).trans hR1
        exact WP.retP (True ∧ ((.int .i64 v1_0 : AV) = .int .i64 (g197_201s x0 x1))) (by kernel_rfl) ⟨trivial, (congrArg (AV.int .i64) ((congrArg (fun r : Bool × Int => r.2) hv3).trans (eqF ((eqT (congrArg (fun r : Bool × Int => r.1) hv3).symm rfl)).symm rfl)))⟩
      · skip
        refine WP.skip ?_
        refine WP.fin0 g197_201s_e_ok ⟨[ofSl 2 e164 x0, .fn 201 [.ref [.str x1]], U, U, .int .i64 0, .int .i64 v1_0, U, .int .i64 (x0.n : Int), .int .i64 (IntKind.i64.wrap (v1_0 + 1)), .bool (decide (v1_0 < (x0.n : Int))), .int .i64 v1_0, .fn 201 [.ref [.str x1]], ofSl 2 e164 x0, .int .i64 v1_0, .ref [.str (x0.at' (Int.toNat v1_0)).c0, .int .i64 (x0.at' (Int.toNat v1_0)).c1], .agg [.str (x0.at' (Int.toNat v1_0)).c0, .int .i64 (x0.at' (Int.toNat v1_0)).c1], .bool (g201s (x0.at' (Int.toNat v1_0)).c0 x1), U, .int .i64 (IntKind.i64.wrap (v1_0 + 1))], []⟩ (by kernel_rfl) ?_
        exact loopR_nextE ((IntKind.i64.wrap (v1_0 + 1))) (by have := of_decide_eq_true h1; first | omega | (have := wrap64 (x := (v1_0 + 1)) (by omega) (by omega); omega) | (simp only [wrap64 (x := (v1_0 + 1)) (by omega) (by omega)]; omega)) (by have := of_decide_eq_true h1; first | omega | (have := wrap64 (x := (v1_0 + 1)) (by omega) (by omega); omega) | (simp only [wrap64 (x := (v1_0 + 1)) (by omega) (by omega)]; omega)) ((eqT h1 (eqF h2 rfl)).trans hR1) (by kernel_rfl)
    · skip
      have hv4 : ((false, default) : Bool × Int) = (g197_201s_r1 x0 x1) := ((eqF h1 rfl)).trans hR1
      exact WP.exitP ((g197_201s_p2 x0 x1) = true ∧ ((((0 : Int) = 0) ∧ True) ∧ True ∧ true = true)) (by kernel_rfl) ⟨((eqF (congrArg (fun r : Bool × Int => r.1) hv4).symm rfl)).symm, ⟨⟨rfl, trivial⟩, trivial, rfl⟩⟩
  · skip
    intro h5
    refine WP.step0 g197_201s_e_ok ⟨us 4 (.int .i64 (-1) :: us 14 []), []⟩ (by kernel_rfl) ?_
    exact WP.retP (True ∧ ((.int .i64 (-1) : AV) = .int .i64 (g197_201s x0 x1))) (by kernel_rfl) ⟨trivial, (congrArg (AV.int .i64) (eqT h5 rfl))⟩
noncomputable def s197_201s : Ans := fun xs => match xs with
  | [y0, .fn 201 [.ref [.str x1]]] => bif isSl 2 y0 then some (some (okSl e164 d164 y0), .int .i64 (g197_201s (toSl d164 y0) x1)) else none
  | _ => none
theorem k197_201s : SOk Try.prog 197 s197_201s := ⟨⟨_, _, Try.func197, rfl, by kernel_rfl⟩, fun args pre r h hp => by
  unfold s197_201s at h
  split at h
  · obtain ⟨b0, h⟩ := cond_some h
    cases h
    exact (pc197_201s _ _).weak (l1 (slLeA b0 hp.1) (l1 aF l0))
  · cases h⟩
noncomputable def g144 (x0 : Sl T164) (x1 : ByteArray) : Int := (g197_201s x0 x1)
noncomputable abbrev g144_e : Env := mkE [(197, s197_201s)]
theorem g144_e_ok : g144_e.Ok := mkE_ok ⟨k197_201s, trivial⟩
theorem pc144 (x0 : Sl T164) (x1 : ByteArray) : PureCall Try.prog 144 [ofSl 2 e164 x0, .str x1] (.int .i64 (g144 x0 x1)) := by
  refine PureCall.fine fun hf => ?_
  have hf_x0 : Fine (ofSl 2 e164 x0) := hf.1
  have hn_x0 : x0.n ≤ 549755813888 := hf_x0.len
  refine pure_of_WP (E := g144_e) g144_e_ok Try.func144 rfl _ _ ?_
  refine WP.step0 g144_e_ok ⟨[ofSl 2 e164 x0, U, U, .ptr 0 0, .int .i64 0, U, U, U], [[.str x1]]⟩ (by kernel_rfl) ?_
  refine WP.freezeT 3 0 (.str x1) rfl rfl rfl (by kernel_rfl) ?_
  refine WP.stepE g144_e_ok ⟨us 4 ([.int .i64 (g197_201s x0 x1), U, U, U]), []⟩ (fun q => (okSl e164 d164 (ofSl 2 e164 x0) ∧ q)) (by kernel_rfl) ⟨(okOf ed164 2 x0), rfl⟩ ?_
  exact WP.retP (True ∧ ((.int .i64 (g197_201s x0 x1) : AV) = .int .i64 (g144 x0 x1))) (by kernel_rfl) ⟨trivial, rfl⟩
noncomputable def s144 : Ans := fun xs => match xs with
  | [y0, .str x1] => bif isSl 2 y0 then some (some (okSl e164 d164 y0), .int .i64 (g144 (toSl d164 y0) x1)) else none
  | _ => none
theorem k144 : SOk Try.prog 144 s144 := ⟨⟨_, _, Try.func144, rfl, by kernel_rfl⟩, fun args pre r h hp => by
  unfold s144 at h
  split at h
  · obtain ⟨b0, h⟩ := cond_some h
    cases h
    exact (pc144 _ _).weak (l1 (slLeA b0 hp.1) (l1 aS l0))
  · cases h⟩
noncomputable def g72_m1 (x0 : Int) : Bool := (bif (decide (x0 < 1)) then true else (decide (x0 > 6)))
noncomputable def g72_m2 (x0 : Int) (x1 : ByteArray) : ByteArray := (bif (x0 == 1) then ⟨#[]⟩ else x1)
noncomputable def g72_m3 (x0 : Int) (x2 : Int) : Int := (bif (x0 == 1) then x2 else (bif (x0 == 2) then 0 else x2))
noncomputable def g72_m4 (x0 : Int) (x3 : Sl T160) : Sl T160 := (bif (x0 == 1) then x3 else (bif (x0 == 2) then x3 else (bif (x0 == 3) then (nilSl : Sl T160) else x3)))
noncomputable def g72_m5 (x0 : Int) (x4 : Sl ByteArray) : Sl ByteArray := (bif (x0 == 1) then x4 else (bif (x0 == 2) then x4 else (bif (x0 == 3) then x4 else (bif (x0 == 6) then x4 else (nilSl : Sl ByteArray)))))
noncomputable def g72_m6 (x0 : Int) (x5 : Sl T164) : Sl T164 := (bif (x0 == 1) then x5 else (bif (x0 == 2) then x5 else (bif (x0 == 3) then x5 else (bif (x0 == 6) then (nilSl : Sl T164) else x5))))
noncomputable def g72_m7 (x0 : Int) (x1 : ByteArray) (x2 : Int) (x3 : Sl T160) (x4 : Sl ByteArray) (x5 : Sl T164) : Bool := (bif (!(((g72_m2 x0 x1) : ByteArray).toList == (⟨#[]⟩ : ByteArray).toList)) then true else (bif ((g72_m3 x0 x2) != 0) then true else (decide ((g131 (g72_m4 x0 x3) (g72_m5 x0 x4) (g72_m6 x0 x5)) > 0))))
noncomputable def g72_m8 (x0 : Int) (x3 : Sl T160) (x4 : Sl ByteArray) (x5 : Sl T164) : Bool := (bif (decide (x0 ≥ 3)) then (bif (decide ((g131 x3 x4 x5) < 1)) then true else (decide ((g131 x3 x4 x5) > 20))) else false)
noncomputable def g72_m9 (x1 : ByteArray) (x4 : Sl ByteArray) : Bool := (bif (!(g116 x1)) then true else (g110_132 x4))
noncomputable def g72_m10 (x2 : Int) (x5 : Sl T164) : Bool := (bif (!(g117 x2)) then true else (g135_137 x5))
noncomputable def g72_m11 (x0 : Int) (x3 : Sl T160) (x4 : Sl ByteArray) (x5 : Sl T164) : Bool := (bif (g138_139 x3) then (bif (g140_141 x5) then (bif (x0 != 5) then true else (g142_143 x4)) else false) else false)
noncomputable def g72_m12 (x5 : Sl T164) (v23_0 : Bool) (v23_1 : Int) : Bool := (bif v23_0 then (decide ((g144 (Sl.part x5 0 v23_1) (x5.at' (Int.toNat v23_1)).c0) < 0)) else false)
noncomputable def g72_m13 (v23_0 : Bool) : Bool := (bif v23_0 then true else false)
noncomputable def g72_m14 (x5 : Sl T164) (v23_0 : Bool) (v23_1 : Int) : Bool := (bif v23_0 then (decide ((g144 (Sl.part x5 0 v23_1) (x5.at' (Int.toNat v23_1)).c0) < 0)) else false)
noncomputable def g72_l23 (x5 : Sl T164) : Nat → Bool → Int → Bool
  | 0, _, _ => default
  | k + 1, v23_0, v23_1 => (bif (decide (v23_1 < (x5.n : Int))) then (g72_l23 x5 k (g72_m12 x5 v23_0 v23_1) (IntKind.i64.wrap (v23_1 + 1))) else v23_0)
noncomputable def g72_r15 (x0 : Int) (x3 : Sl T160) (x4 : Sl ByteArray) (x5 : Sl T164) : Bool := g72_l23 x5 ((Int.toNat ((x5.n : Int) - 0)) + 1) (g72_m11 x0 x3 x4 x5) 0
noncomputable def g72 (x0 : Int) (x1 : ByteArray) (x2 : Int) (x3 : Sl T160) (x4 : Sl ByteArray) (x5 : Sl T164) : Int := (bif (g72_m1 x0) then 3 else (bif (g72_m7 x0 x1 x2 x3 x4 x5) then 8 else (bif (g72_m8 x0 x3 x4 x5) then 1 else (bif (g72_m9 x1 x4) then 1 else (bif (g133_134 x3) then 1 else (bif (g135_136 x5) then 1 else (bif (g72_m10 x2 x5) then 2 else (bif (!(g72_r15 x0 x3 x4 x5)) then 10 else 0))))))))
noncomputable abbrev g72_e : Env := mkE [(110, s110_132), (116, s116), (117, s117), (131, s131), (133, s133_134), (135, s135_136), (135, s135_137), (138, s138_139), (140, s140_141), (142, s142_143), (144, s144)]
theorem g72_e_ok : g72_e.Ok := mkE_ok ⟨k110_132, k116, k117, k131, k133_134, k135_136, k135_137, k138_139, k140_141, k142_143, k144, trivial⟩
theorem pc72 (x0 : Int) (x1 : ByteArray) (x2 : Int) (x3 : Sl T160) (x4 : Sl ByteArray) (x5 : Sl T164) : PureCall Try.prog 72 [.agg [.int .i64 x0, .str x1, .int .i64 x2, ofSl 2 e160 x3, ofSl 1 e9 x4, ofSl 2 e164 x5]] (.int .i64 (g72 x0 x1 x2 x3 x4 x5)) := by
  refine PureCall.fine fun hf => ?_
  have hf_x3 : Fine (ofSl 2 e160 x3) := hf.1.2.2.2.1
  have hn_x3 : x3.n ≤ 549755813888 := hf_x3.len
  have hf_x4 : Fine (ofSl 1 e9 x4) := hf.1.2.2.2.2.1
  have hn_x4 : x4.n ≤ 549755813888 := hf_x4.len
  have hf_x5 : Fine (ofSl 2 e164 x5) := hf.1.2.2.2.2.2.1
  have hn_x5 : x5.n ≤ 549755813888 := hf_x5.len
  refine pure_of_WP (E := g72_e) g72_e_ok Try.func72 rfl _ _ ?_
  refine WP.step0 g72_e_ok ⟨U :: .ptr 0 0 :: .int .i64 0 :: us 118 [], [[.int .i64 x0, .str x1, .int .i64 x2, ofSl 2 e160 x3, ofSl 1 e9 x4, ofSl 2 e164 x5]]⟩ (by kernel_rfl) ?_
  refine WP.seq ?_
  refine WP.stepM g72_e_ok (fun a : Bool => ⟨U :: .ptr 0 0 :: .int .i64 0 :: us 11 (.bool a :: us 106 []), [[.int .i64 x0, .str x1, .int .i64 x2, ofSl 2 e160 x3, ofSl 1 e9 x4, ofSl 2 e164 x5]]⟩) (g72_m1 x0) (fun K => (((decide (x0 < 1)) = true → K true) ∧ ((decide (x0 < 1)) = false → K (decide (x0 > 6))))) (by kernel_rfl) ⟨fun h1 => (KM.mk (eqT h1 rfl)), fun h1 => (KM.mk (eqF h1 rfl))⟩ ?_
  refine WP.condR (g72_m1 x0) rfl (fun h2 => ?_) (fun h2 => ?_)
  · skip
    refine WP.step0 g72_e_ok ⟨U :: .ptr 0 0 :: .int .i64 3 :: us 118 [], [[.int .i64 x0, .str x1, .int .i64 x2, ofSl 2 e160 x3, ofSl 1 e9 x4, ofSl 2 e164 x5]]⟩ (by kernel_rfl) ?_
    exact WP.retP (True ∧ ((.int .i64 3 : AV) = .int .i64 (g72 x0 x1 x2 x3 x4 x5))) (by kernel_rfl) ⟨trivial, (congrArg (AV.int .i64) (eqT h2 rfl))⟩
  · skip
    refine WP.skip ?_
    refine WP.step0 g72_e_ok ⟨U :: .ptr 0 0 :: .int .i64 0 :: .ptr 1 0 :: us 117 [], [[.int .i64 x0, .str x1, .int .i64 x2, ofSl 2 e160 x3, ofSl 1 e9 x4, ofSl 2 e164 x5], [.int .i64 x0, .str x1, .int .i64 x2, ofSl 2 e160 x3, ofSl 1 e9 x4, ofSl 2 e164 x5]]⟩ (by kernel_rfl) ?_
    refine WP.join ⟨U :: .ptr 0 0 :: .int .i64 0 :: .ptr 1 0 :: us 117 [], [[.int .i64 x0, .str x1, .int .i64 x2, ofSl 2 e160 x3, ofSl 1 e9 x4, ofSl 2 e164 x5], [.int .i64 x0, .str (g72_m2 x0 x1), .int .i64 (g72_m3 x0 x2), ofSl 2 e160 (g72_m4 x0 x3), ofSl 1 e9 (g72_m5 x0 x4), ofSl 2 e164 (g72_m6 x0 x5)]]⟩ ?_ ?_
    · skip
      refine WP.step0 g72_e_ok ⟨U :: .ptr 0 0 :: .int .i64 0 :: .ptr 1 0 :: us 13 (.int .i64 x0 :: us 103 []), [[.int .i64 x0, .str x1, .int .i64 x2, ofSl 2 e160 x3, ofSl 1 e9 x4, ofSl 2 e164 x5], [.int .i64 x0, .str x1, .int .i64 x2, ofSl 2 e160 x3, ofSl 1 e9 x4, ofSl 2 e164 x5]]⟩ (by kernel_rfl) ?_
      refine WP.block ?_
      refine WP.step0 g72_e_ok ⟨U :: .ptr 0 0 :: .int .i64 0 :: .ptr 1 0 :: us 13 (.int .i64 x0 :: U :: .bool (x0 == 1) :: us 101 []), [[.int .i64 x0, .str x1, .int .i64 x2, ofSl 2 e160 x3, ofSl 1 e9 x4, ofSl 2 e164 x5], [.int .i64 x0, .str x1, .int .i64 x2, ofSl 2 e160 x3, ofSl 1 e9 x4, ofSl 2 e164 x5]]⟩ (by kernel_rfl) ?_
      refine WP.condR (x0 == 1) rfl (fun h3 => ?_) (fun h3 => ?_)
      · skip
        refine WP.fin0 g72_e_ok ⟨U :: .ptr 0 0 :: .int .i64 0 :: .ptr 1 0 :: us 117 [], [[.int .i64 x0, .str x1, .int .i64 x2, ofSl 2 e160 x3, ofSl 1 e9 x4, ofSl 2 e164 x5], [.int .i64 x0, .str ⟨#[]⟩, .int .i64 x2, ofSl 2 e160 x3, ofSl 1 e9 x4, ofSl 2 e164 x5]]⟩ (by kernel_rfl) ?_
        exact Eq.mpr (β := ((((.ptr 0 0 : AV) = .ptr 0 0) ∧ ((0 : Int) = 0) ∧ ((.ptr 1 0 : AV) = .ptr 1 0) ∧ True) ∧ ((((x0 : Int) = x0) ∧ ((x1 : ByteArray) = x1) ∧ ((x2 : Int) = x2) ∧ (x3.n = x3.n ∧ ∀ i, i < x3.n → e160 (x3.at' i) = e160 (x3.at' i)) ∧ (x4.n = x4.n ∧ ∀ i, i < x4.n → e9 (x4.at' i) = e9 (x4.at' i)) ∧ (x5.n = x5.n ∧ ∀ i, i < x5.n → e164 (x5.at' i) = e164 (x5.at' i)) ∧ True) ∧ (((x0 : Int) = x0) ∧ ((⟨#[]⟩ : ByteArray) = (g72_m2 x0 x1)) ∧ ((x2 : Int) = (g72_m3 x0 x2)) ∧ (x3.n = (g72_m4 x0 x3).n ∧ ∀ i, i < (g72_m4 x0 x3).n → e160 (x3.at' i) = e160 ((g72_m4 x0 x3).at' i)) ∧ (x4.n = (g72_m5 x0 x4).n ∧ ∀ i, i < (g72_m5 x0 x4).n → e9 (x4.at' i) = e9 ((g72_m5 x0 x4).at' i)) ∧ (x5.n = (g72_m6 x0 x5).n ∧ ∀ i, i < (g72_m6 x0 x5).n → e164 (x5.at' i) = e164 ((g72_m6 x0 x5).at' i)) ∧ True) ∧ True) ∧ true = true)) (by kernel_rfl) ⟨⟨rfl, rfl, rfl, trivial⟩, ⟨⟨rfl, rfl, rfl, ⟨rfl, fun _ _ => rfl⟩, ⟨rfl, fun _ _ => rfl⟩, ⟨rfl, fun _ _ => rfl⟩, trivial⟩, ⟨rfl, (eqT h3 rfl), (eqT h3 rfl), (slEq' (enc := e160) (eqT h3 rfl)), (slEq' (enc := e9) (eqT h3 rfl)), (slEq' (enc := e164) (eqT h3 rfl)), trivial⟩, trivial⟩, rfl⟩
      · skip
        refine WP.step0 g72_e_ok ⟨U :: .ptr 0 0 :: .int .i64 0 :: .ptr 1 0 :: us 13 (.int .i64 x0 :: us 4 (.bool (x0 == 2) :: us 98 [])), [[.int .i64 x0, .str x1, .int .i64 x2, ofSl 2 e160 x3, ofSl 1 e9 x4, ofSl 2 e164 x5], [.int .i64 x0, .str x1, .int .i64 x2, ofSl 2 e160 x3, ofSl 1 e9 x4, ofSl 2 e164 x5]]⟩ (by kernel_rfl) ?_
        refine WP.condR (x0 == 2) rfl (fun h4 => ?_) (fun h4 => ?_)
        · skip
          refine WP.fin0 g72_e_ok ⟨U :: .ptr 0 0 :: .int .i64 0 :: .ptr 1 0 :: us 117 [], [[.int .i64 x0, .str x1, .int .i64 x2, ofSl 2 e160 x3, ofSl 1 e9 x4, ofSl 2 e164 x5], [.int .i64 x0, .str x1, .int .i64 0, ofSl 2 e160 x3, ofSl 1 e9 x4, ofSl 2 e164 x5]]⟩ (by kernel_rfl) ?_
          exact Eq.mpr (β := ((((.ptr 0 0 : AV) = .ptr 0 0) ∧ ((0 : Int) = 0) ∧ ((.ptr 1 0 : AV) = .ptr 1 0) ∧ True) ∧ ((((x0 : Int) = x0) ∧ ((x1 : ByteArray) = x1) ∧ ((x2 : Int) = x2) ∧ (x3.n = x3.n ∧ ∀ i, i < x3.n → e160 (x3.at' i) = e160 (x3.at' i)) ∧ (x4.n = x4.n ∧ ∀ i, i < x4.n → e9 (x4.at' i) = e9 (x4.at' i)) ∧ (x5.n = x5.n ∧ ∀ i, i < x5.n → e164 (x5.at' i) = e164 (x5.at' i)) ∧ True) ∧ (((x0 : Int) = x0) ∧ ((x1 : ByteArray) = (g72_m2 x0 x1)) ∧ ((0 : Int) = (g72_m3 x0 x2)) ∧ (x3.n = (g72_m4 x0 x3).n ∧ ∀ i, i < (g72_m4 x0 x3).n → e160 (x3.at' i) = e160 ((g72_m4 x0 x3).at' i)) ∧ (x4.n = (g72_m5 x0 x4).n ∧ ∀ i, i < (g72_m5 x0 x4).n → e9 (x4.at' i) = e9 ((g72_m5 x0 x4).at' i)) ∧ (x5.n = (g72_m6 x0 x5).n ∧ ∀ i, i < (g72_m6 x0 x5).n → e164 (x5.at' i) = e164 ((g72_m6 x0 x5).at' i)) ∧ True) ∧ True) ∧ true = true)) (by kernel_rfl) ⟨⟨rfl, rfl, rfl, trivial⟩, ⟨⟨rfl, rfl, rfl, ⟨rfl, fun _ _ => rfl⟩, ⟨rfl, fun _ _ => rfl⟩, ⟨rfl, fun _ _ => rfl⟩, trivial⟩, ⟨rfl, (eqF h3 rfl), (eqF h3 (eqT h4 rfl)), (slEq' (enc := e160) (eqF h3 (eqT h4 rfl))), (slEq' (enc := e9) (eqF h3 (eqT h4 rfl))), (slEq' (enc := e164) (eqF h3 (eqT h4 rfl))), trivial⟩, trivial⟩, rfl⟩
        · skip
          refine WP.step0 g72_e_ok ⟨U :: .ptr 0 0 :: .int .i64 0 :: .ptr 1 0 :: us 13 (.int .i64 x0 :: us 7 (.bool (x0 == 3) :: us 95 [])), [[.int .i64 x0, .str x1, .int .i64 x2, ofSl 2 e160 x3, ofSl 1 e9 x4, ofSl 2 e164 x5], [.int .i64 x0, .str x1, .int .i64 x2, ofSl 2 e160 x3, ofSl 1 e9 x4, ofSl 2 e164 x5]]⟩ (by kernel_rfl) ?_
          refine WP.condR (x0 == 3) rfl (fun h5 => ?_) (fun h5 => ?_)
          · skip
            refine WP.fin0 g72_e_ok ⟨U :: .ptr 0 0 :: .int .i64 0 :: .ptr 1 0 :: us 117 [], [[.int .i64 x0, .str x1, .int .i64 x2, ofSl 2 e160 x3, ofSl 1 e9 x4, ofSl 2 e164 x5], [.int .i64 x0, .str x1, .int .i64 x2, .nils, ofSl 1 e9 x4, ofSl 2 e164 x5]]⟩ (by kernel_rfl) ?_
            exact Eq.mpr (β := ((((.ptr 0 0 : AV) = .ptr 0 0) ∧ ((0 : Int) = 0) ∧ ((.ptr 1 0 : AV) = .ptr 1 0) ∧ True) ∧ ((((x0 : Int) = x0) ∧ ((x1 : ByteArray) = x1) ∧ ((x2 : Int) = x2) ∧ (x3.n = x3.n ∧ ∀ i, i < x3.n → e160 (x3.at' i) = e160 (x3.at' i)) ∧ (x4.n = x4.n ∧ ∀ i, i < x4.n → e9 (x4.at' i) = e9 (x4.at' i)) ∧ (x5.n = x5.n ∧ ∀ i, i < x5.n → e164 (x5.at' i) = e164 (x5.at' i)) ∧ True) ∧ (((x0 : Int) = x0) ∧ ((x1 : ByteArray) = (g72_m2 x0 x1)) ∧ ((x2 : Int) = (g72_m3 x0 x2)) ∧ ((g72_m4 x0 x3).n = 0) ∧ (x4.n = (g72_m5 x0 x4).n ∧ ∀ i, i < (g72_m5 x0 x4).n → e9 (x4.at' i) = e9 ((g72_m5 x0 x4).at' i)) ∧ (x5.n = (g72_m6 x0 x5).n ∧ ∀ i, i < (g72_m6 x0 x5).n → e164 (x5.at' i) = e164 ((g72_m6 x0 x5).at' i)) ∧ True) ∧ True) ∧ true = true)) (by kernel_rfl) ⟨⟨rfl, rfl, rfl, trivial⟩, ⟨⟨rfl, rfl, rfl, ⟨rfl, fun _ _ => rfl⟩, ⟨rfl, fun _ _ => rfl⟩, ⟨rfl, fun _ _ => rfl⟩, trivial⟩, ⟨rfl, (eqF h3 rfl), (eqF h3 (eqF h4 rfl)), ((congrArg Sl.n (eqF h3 (eqF h4 (eqT h5 rfl)))).symm), (slEq' (enc := e9) (eqF h3 (eqF h4 (eqT h5 rfl)))), (slEq' (enc := e164) (eqF h3 (eqF h4 (eqT h5 rfl)))), trivial⟩, trivial⟩, rfl⟩
          · skip
            refine WP.step0 g72_e_ok ⟨U :: .ptr 0 0 :: .int .i64 0 :: .ptr 1 0 :: us 24 (.bool (x0 == 6) :: us 92 []), [[.int .i64 x0, .str x1, .int .i64 x2, ofSl 2 e160 x3, ofSl 1 e9 x4, ofSl 2 e164 x5], [.int .i64 x0, .str x1, .int .i64 x2, ofSl 2 e160 x3, ofSl 1 e9 x4, ofSl 2 e164 x5]]⟩ (by kernel_rfl) ?_
            refine WP.condR (x0 == 6) rfl (fun h6 => ?_) (fun h6 => ?_)
            · skip
              refine WP.fin0 g72_e_ok ⟨U :: .ptr 0 0 :: .int .i64 0 :: .ptr 1 0 :: us 117 [], [[.int .i64 x0, .str x1, .int .i64 x2, ofSl 2 e160 x3, ofSl 1 e9 x4, ofSl 2 e164 x5], [.int .i64 x0, .str x1, .int .i64 x2, ofSl 2 e160 x3, ofSl 1 e9 x4, .nils]]⟩ (by kernel_rfl) ?_
              exact Eq.mpr (β := ((((.ptr 0 0 : AV) = .ptr 0 0) ∧ ((0 : Int) = 0) ∧ ((.ptr 1 0 : AV) = .ptr 1 0) ∧ True) ∧ ((((x0 : Int) = x0) ∧ ((x1 : ByteArray) = x1) ∧ ((x2 : Int) = x2) ∧ (x3.n = x3.n ∧ ∀ i, i < x3.n → e160 (x3.at' i) = e160 (x3.at' i)) ∧ (x4.n = x4.n ∧ ∀ i, i < x4.n → e9 (x4.at' i) = e9 (x4.at' i)) ∧ (x5.n = x5.n ∧ ∀ i, i < x5.n → e164 (x5.at' i) = e164 (x5.at' i)) ∧ True) ∧ (((x0 : Int) = x0) ∧ ((x1 : ByteArray) = (g72_m2 x0 x1)) ∧ ((x2 : Int) = (g72_m3 x0 x2)) ∧ (x3.n = (g72_m4 x0 x3).n ∧ ∀ i, i < (g72_m4 x0 x3).n → e160 (x3.at' i) = e160 ((g72_m4 x0 x3).at' i)) ∧ (x4.n = (g72_m5 x0 x4).n ∧ ∀ i, i < (g72_m5 x0 x4).n → e9 (x4.at' i) = e9 ((g72_m5 x0 x4).at' i)) ∧ ((g72_m6 x0 x5).n = 0) ∧ True) ∧ True) ∧ true = true)) (by kernel_rfl) ⟨⟨rfl, rfl, rfl, trivial⟩, ⟨⟨rfl, rfl, rfl, ⟨rfl, fun _ _ => rfl⟩, ⟨rfl, fun _ _ => rfl⟩, ⟨rfl, fun _ _ => rfl⟩, trivial⟩, ⟨rfl, (eqF h3 rfl), (eqF h3 (eqF h4 rfl)), (slEq' (enc := e160) (eqF h3 (eqF h4 (eqF h5 rfl)))), (slEq' (enc := e9) (eqF h3 (eqF h4 (eqF h5 (eqT h6 rfl))))), ((congrArg Sl.n (eqF h3 (eqF h4 (eqF h5 (eqT h6 rfl))))).symm), trivial⟩, trivial⟩, rfl⟩
            · skip
              refine WP.fin0 g72_e_ok ⟨U :: .ptr 0 0 :: .int .i64 0 :: .ptr 1 0 :: us 117 [], [[.int .i64 x0, .str x1, .int .i64 x2, ofSl 2 e160 x3, ofSl 1 e9 x4, ofSl 2 e164 x5], [.int .i64 x0, .str x1, .int .i64 x2, ofSl 2 e160 x3, .nils, ofSl 2 e164 x5]]⟩ (by kernel_rfl) ?_
              exact Eq.mpr (β := ((((.ptr 0 0 : AV) = .ptr 0 0) ∧ ((0 : Int) = 0) ∧ ((.ptr 1 0 : AV) = .ptr 1 0) ∧ True) ∧ ((((x0 : Int) = x0) ∧ ((x1 : ByteArray) = x1) ∧ ((x2 : Int) = x2) ∧ (x3.n = x3.n ∧ ∀ i, i < x3.n → e160 (x3.at' i) = e160 (x3.at' i)) ∧ (x4.n = x4.n ∧ ∀ i, i < x4.n → e9 (x4.at' i) = e9 (x4.at' i)) ∧ (x5.n = x5.n ∧ ∀ i, i < x5.n → e164 (x5.at' i) = e164 (x5.at' i)) ∧ True) ∧ (((x0 : Int) = x0) ∧ ((x1 : ByteArray) = (g72_m2 x0 x1)) ∧ ((x2 : Int) = (g72_m3 x0 x2)) ∧ (x3.n = (g72_m4 x0 x3).n ∧ ∀ i, i < (g72_m4 x0 x3).n → e160 (x3.at' i) = e160 ((g72_m4 x0 x3).at' i)) ∧ ((g72_m5 x0 x4).n = 0) ∧ (x5.n = (g72_m6 x0 x5).n ∧ ∀ i, i < (g72_m6 x0 x5).n → e164 (x5.at' i) = e164 ((g72_m6 x0 x5).at' i)) ∧ True) ∧ True) ∧ true = true)) (by kernel_rfl) ⟨⟨rfl, rfl, rfl, trivial⟩, ⟨⟨rfl, rfl, rfl, ⟨rfl, fun _ _ => rfl⟩, ⟨rfl, fun _ _ => rfl⟩, ⟨rfl, fun _ _ => rfl⟩, trivial⟩, ⟨rfl, (eqF h3 rfl), (eqF h3 (eqF h4 rfl)), (slEq' (enc := e160) (eqF h3 (eqF h4 (eqF h5 rfl)))), ((congrArg Sl.n (eqF h3 (eqF h4 (eqF h5 (eqF h6 rfl))))).symm), (slEq' (enc := e164) (eqF h3 (eqF h4 (eqF h5 (eqF h6 rfl))))), trivial⟩, trivial⟩, rfl⟩
    · skip
      refine WP.seq ?_
      refine WP.stepM g72_e_ok (fun a : Bool => ⟨U :: .ptr 0 0 :: .int .i64 0 :: us 40 (.bool a :: us 77 []), [[.int .i64 x0, .str x1, .int .i64 x2, ofSl 2 e160 x3, ofSl 1 e9 x4, ofSl 2 e164 x5]]⟩) (g72_m7 x0 x1 x2 x3 x4 x5) (fun K => (((!(((g72_m2 x0 x1) : ByteArray).toList == (⟨#[]⟩ : ByteArray).toList)) = true → K true) ∧ ((!(((g72_m2 x0 x1) : ByteArray).toList == (⟨#[]⟩ : ByteArray).toList)) = false → ((((g72_m3 x0 x2) != 0) = true → K true) ∧ (((g72_m3 x0 x2) != 0) = false → ((okSl e160 d160 (ofSl 2 e160 (g72_m4 x0 x3)) ∧ okSl e9 d9 (ofSl 1 e9 (g72_m5 x0 x4)) ∧ okSl e164 d164 (ofSl 2 e164 (g72_m6 x0 x5))) ∧ K (decide ((g131 (g72_m4 x0 x3) (g72_m5 x0 x4) (g72_m6 x0 x5)) > 0)))))))) (by kernel_rfl) ⟨fun h7 => (KM.mk (eqT h7 rfl)), fun h7 => ⟨fun h8 => (KM.mk (eqF h7 (eqT h8 rfl))), fun h8 => ⟨⟨(okOf ed160 2 (g72_m4 x0 x3)), (okOf ed9 1 (g72_m5 x0 x4)), (okOf ed164 2 (g72_m6 x0 x5))⟩, (KM.mk (eqF h7 (eqF h8 rfl)))⟩⟩⟩ ?_
      refine WP.condR (g72_m7 x0 x1 x2 x3 x4 x5) rfl (fun h9 => ?_) (fun h9 => ?_)
      · skip
        refine WP.step0 g72_e_ok ⟨U :: .ptr 0 0 :: .int .i64 8 :: us 118 [], [[.int .i64 x0, .str x1, .int .i64 x2, ofSl 2 e160 x3, ofSl 1 e9 x4, ofSl 2 e164 x5]]⟩ (by kernel_rfl) ?_
        exact WP.retP (True ∧ ((.int .i64 8 : AV) = .int .i64 (g72 x0 x1 x2 x3 x4 x5))) (by kernel_rfl) ⟨trivial, (congrArg (AV.int .i64) (eqF h2 (eqT h9 rfl)))⟩
      · skip
        refine WP.skip ?_
        refine WP.seq ?_
        refine WP.stepM g72_e_ok (fun a : Bool => ⟨U :: .ptr 0 0 :: .int .i64 0 :: us 53 (.bool a :: us 64 []), [[.int .i64 x0, .str x1, .int .i64 x2, ofSl 2 e160 x3, ofSl 1 e9 x4, ofSl 2 e164 x5]]⟩) (g72_m8 x0 x3 x4 x5) (fun K => (((decide (x0 ≥ 3)) = true → ((okSl e160 d160 (ofSl 2 e160 x3) ∧ okSl e9 d9 (ofSl 1 e9 x4) ∧ okSl e164 d164 (ofSl 2 e164 x5)) ∧ (((decide ((g131 x3 x4 x5) < 1)) = true → K true) ∧ ((decide ((g131 x3 x4 x5) < 1)) = false → ((okSl e160 d160 (ofSl 2 e160 x3) ∧ okSl e9 d9 (ofSl 1 e9 x4) ∧ okSl e164 d164 (ofSl 2 e164 x5)) ∧ K (decide ((g131 x3 x4 x5) > 20))))))) ∧ ((decide (x0 ≥ 3)) = false → K false))) (by kernel_rfl) ⟨fun h10 => ⟨⟨(okOf ed160 2 x3), (okOf ed9 1 x4), (okOf ed164 2 x5)⟩, ⟨fun h11 => (KM.mk (eqT h10 (eqT h11 rfl))), fun h11 => ⟨⟨(okOf ed160 2 x3), (okOf ed9 1 x4), (okOf ed164 2 x5)⟩, (KM.mk (eqT h10 (eqF h11 rfl)))⟩⟩⟩, fun h10 => (KM.mk (eqF h10 rfl))⟩ ?_
        refine WP.condR (g72_m8 x0 x3 x4 x5) rfl (fun h12 => ?_) (fun h12 => ?_)
        · skip
          refine WP.step0 g72_e_ok ⟨U :: .ptr 0 0 :: .int .i64 1 :: us 118 [], [[.int .i64 x0, .str x1, .int .i64 x2, ofSl 2 e160 x3, ofSl 1 e9 x4, ofSl 2 e164 x5]]⟩ (by kernel_rfl) ?_
          exact WP.retP (True ∧ ((.int .i64 1 : AV) = .int .i64 (g72 x0 x1 x2 x3 x4 x5))) (by kernel_rfl) ⟨trivial, (congrArg (AV.int .i64) (eqF h2 (eqF h9 (eqT h12 rfl))))⟩
        · skip
          refine WP.skip ?_
          refine WP.seq ?_
          refine WP.stepM g72_e_ok (fun a : Bool => ⟨U :: .ptr 0 0 :: .int .i64 0 :: us 62 (.bool a :: us 55 []), [[.int .i64 x0, .str x1, .int .i64 x2, ofSl 2 e160 x3, ofSl 1 e9 x4, ofSl 2 e164 x5]]⟩) (g72_m9 x1 x4) (fun K => (((!(g116 x1)) = true → K true) ∧ ((!(g116 x1)) = false → (okSl e9 d9 (ofSl 1 e9 x4) ∧ K (g110_132 x4))))) (by kernel_rfl) ⟨fun h13 => (KM.mk (eqT h13 rfl)), fun h13 => ⟨(okOf ed9 1 x4), (KM.mk (eqF h13 rfl))⟩⟩ ?_
          refine WP.condR (g72_m9 x1 x4) rfl (fun h14 => ?_) (fun h14 => ?_)
          · skip
            refine WP.step0 g72_e_ok ⟨U :: .ptr 0 0 :: .int .i64 1 :: us 118 [], [[.int .i64 x0, .str x1, .int .i64 x2, ofSl 2 e160 x3, ofSl 1 e9 x4, ofSl 2 e164 x5]]⟩ (by kernel_rfl) ?_
            exact WP.retP (True ∧ ((.int .i64 1 : AV) = .int .i64 (g72 x0 x1 x2 x3 x4 x5))) (by kernel_rfl) ⟨trivial, (congrArg (AV.int .i64) (eqF h2 (eqF h9 (eqF h12 (eqT h14 rfl)))))⟩
          · skip
            refine WP.skip ?_
            refine WP.seq ?_
            refine WP.stepE g72_e_ok ⟨U :: .ptr 0 0 :: .int .i64 0 :: us 65 (.bool (g133_134 x3) :: us 52 []), [[.int .i64 x0, .str x1, .int .i64 x2, ofSl 2 e160 x3, ofSl 1 e9 x4, ofSl 2 e164 x5]]⟩ (fun q => (okSl e160 d160 (ofSl 2 e160 x3) ∧ q)) (by kernel_rfl) ⟨(okOf ed160 2 x3), rfl⟩ ?_
            refine WP.condR (g133_134 x3) rfl (fun h15 => ?_) (fun h15 => ?_)
            · skip
              refine WP.step0 g72_e_ok ⟨U :: .ptr 0 0 :: .int .i64 1 :: us 118 [], [[.int .i64 x0, .str x1, .int .i64 x2, ofSl 2 e160 x3, ofSl 1 e9 x4, ofSl 2 e164 x5]]⟩ (by kernel_rfl) ?_
              exact WP.retP (True ∧ ((.int .i64 1 : AV) = .int .i64 (g72 x0 x1 x2 x3 x4 x5))) (by kernel_rfl) ⟨trivial, (congrArg (AV.int .i64) (eqF h2 (eqF h9 (eqF h12 (eqF h14 (eqT h15 rfl))))))⟩
            · skip
              refine WP.skip ?_
              refine WP.seq ?_
              refine WP.stepE g72_e_ok ⟨U :: .ptr 0 0 :: .int .i64 0 :: us 68 (.bool (g135_136 x5) :: us 49 []), [[.int .i64 x0, .str x1, .int .i64 x2, ofSl 2 e160 x3, ofSl 1 e9 x4, ofSl 2 e164 x5]]⟩ (fun q => (okSl e164 d164 (ofSl 2 e164 x5) ∧ q)) (by kernel_rfl) ⟨(okOf ed164 2 x5), rfl⟩ ?_
              refine WP.condR (g135_136 x5) rfl (fun h16 => ?_) (fun h16 => ?_)
              · skip
                refine WP.step0 g72_e_ok ⟨U :: .ptr 0 0 :: .int .i64 1 :: us 118 [], [[.int .i64 x0, .str x1, .int .i64 x2, ofSl 2 e160 x3, ofSl 1 e9 x4, ofSl 2 e164 x5]]⟩ (by kernel_rfl) ?_
                exact WP.retP (True ∧ ((.int .i64 1 : AV) = .int .i64 (g72 x0 x1 x2 x3 x4 x5))) (by kernel_rfl) ⟨trivial, (congrArg (AV.int .i64) (eqF h2 (eqF h9 (eqF h12 (eqF h14 (eqF h15 (eqT h16 rfl)))))))⟩
              · skip
                refine WP.skip ?_
                refine WP.seq ?_
                refine WP.stepM g72_e_ok (fun a : Bool => ⟨U :: .ptr 0 0 :: .int .i64 0 :: us 77 (.bool a :: us 40 []), [[.int .i64 x0, .str x1, .int .i64 x2, ofSl 2 e160 x3, ofSl 1 e9 x4, ofSl 2 e164 x5]]⟩) (g72_m10 x2 x5) (fun K => (((!(g117 x2)) = true → K true) ∧ ((!(g117 x2)) = false → (okSl e164 d164 (ofSl 2 e164 x5) ∧ K (g135_137 x5))))) (by kernel_rfl) ⟨fun h17 => (KM.mk (eqT h17 rfl)), fun h17 => ⟨(okOf ed164 2 x5), (KM.mk (eqF h17 rfl))⟩⟩ ?_
                refine WP.condR (g72_m10 x2 x5) rfl (fun h18 => ?_) (fun h18 => ?_)
                · skip
                  refine WP.step0 g72_e_ok ⟨U :: .ptr 0 0 :: .int .i64 2 :: us 118 [], [[.int .i64 x0, .str x1, .int .i64 x2, ofSl 2 e160 x3, ofSl 1 e9 x4, ofSl 2 e164 x5]]⟩ (by kernel_rfl) ?_
                  exact WP.retP (True ∧ ((.int .i64 2 : AV) = .int .i64 (g72 x0 x1 x2 x3 x4 x5))) (by kernel_rfl) ⟨trivial, (congrArg (AV.int .i64) (eqF h2 (eqF h9 (eqF h12 (eqF h14 (eqF h15 (eqF h16 (eqT h18 rfl))))))))⟩
                · skip
                  refine WP.skip ?_
                  refine WP.stepM g72_e_ok (fun a : Bool => ⟨U :: .ptr 0 0 :: .int .i64 0 :: U :: .bool a :: us 116 [], [[.int .i64 x0, .str x1, .int .i64 x2, ofSl 2 e160 x3, ofSl 1 e9 x4, ofSl 2 e164 x5]]⟩) (g72_m11 x0 x3 x4 x5) (fun K => (okSl e160 d160 (ofSl 2 e160 x3) ∧ (((g138_139 x3) = true → (okSl e164 d164 (ofSl 2 e164 x5) ∧ (((g140_141 x5) = true → (((x0 != 5) = true → K true) ∧ ((x0 != 5) = false → (okSl e9 d9 (ofSl 1 e9 x4) ∧ K (g142_143 x4))))) ∧ ((g140_141 x5) = false → K false)))) ∧ ((g138_139 x3) = false → K false)))) (by kernel_rfl) ⟨(okOf ed160 2 x3), ⟨fun h19 => ⟨(okOf ed164 2 x5), ⟨fun h20 => ⟨fun h21 => (KM.mk (eqT h19 (eqT h20 (eqT h21 rfl)))), fun h21 => ⟨(okOf ed9 1 x4), (KM.mk (eqT h19 (eqT h20 (eqF h21 rfl))))⟩⟩, fun h20 => (KM.mk (eqT h19 (eqF h20 rfl)))⟩⟩, fun h19 => (KM.mk (eqF h19 rfl))⟩⟩ ?_
                  refine WP.join ⟨U :: U :: .int .i64 0 :: U :: .bool (g72_r15 x0 x3 x4 x5) :: us 116 [], []⟩ ?_ ?_
                  · skip
                    refine WP.step0 g72_e_ok ⟨U :: .ptr 0 0 :: .int .i64 0 :: U :: .bool (g72_m11 x0 x3 x4 x5) :: us 95 (ofSl 2 e164 x5 :: .int .i64 (x5.n : Int) :: .int .i64 0 :: us 18 []), [[.int .i64 x0, .str x1, .int .i64 x2, ofSl 2 e160 x3, ofSl 1 e9 x4, ofSl 2 e164 x5]]⟩ (by kernel_rfl) ?_
                    refine WP.block ?_
                    refine WP.loopK (σ := Bool × Int) (R := Bool) (fun s => ⟨U :: .ptr 0 0 :: .int .i64 0 :: U :: .bool s.1 :: us 95 (ofSl 2 e164 x5 :: .int .i64 (x5.n : Int) :: .int .i64 s.2 :: us 18 []), [[.int .i64 x0, .str x1, .int .i64 x2, ofSl 2 e160 x3, ofSl 1 e9 x4, ofSl 2 e164 x5]]⟩) (fun s => (0 ≤ s.2 ∧ s.2 ≤ (x5.n : Int))) (fun s => (Int.toNat ((x5.n : Int) - s.2))) (fun k s => g72_l23 x5 k (s.1) (s.2)) ((g72_m11 x0 x3 x4 x5), 0) (by have := h2; simp [g72_m1] at this; have := h9; simp [g72_m7] at this; have := h12; simp [g72_m8] at this; have := h14; simp [g72_m9] at this; have := h18; simp [g72_m10] at this; first | omega | ((try dsimp only); omega) | ((try dsimp only); (try simp only [Sl.app_n]); (try simp only [Sl.lit_n]); (try simp only [Sl.part_n]); (try simp only [nilSl_n]); (try simp only [List.length_cons]); (try simp only [List.length_nil]); first | omega | (omega) | (simp only [wrap64 (by omega) (by omega)]; omega))) (leE (by kernel_rfl)) (fun k s hI23 hk23 hR23 => ?_)
                    obtain ⟨v23_0, v23_1⟩ := s
                    have hI23 : (0 ≤ v23_1 ∧ v23_1 ≤ (x5.n : Int)) := hI23
                    have hR23 : g72_l23 x5 (k + 1) v23_0 v23_1 = (g72_r15 x0 x3 x4 x5) := hR23
                    refine WP.step0 g72_e_ok ⟨U :: .ptr 0 0 :: .int .i64 0 :: U :: .bool v23_0 :: us 95 (ofSl 2 e164 x5 :: .int .i64 (x5.n : Int) :: .int .i64 v23_1 :: .bool (decide (v23_1 < (x5.n : Int))) :: us 17 []), [[.int .i64 x0, .str x1, .int .i64 x2, ofSl 2 e160 x3, ofSl 1 e9 x4, ofSl 2 e164 x5]]⟩ (by kernel_rfl) ?_
                    refine WP.seq ?_
                    refine WP.condR (decide (v23_1 < (x5.n : Int))) rfl (fun h22 => ?_) (fun h22 => ?_)
                    · skip
                      refine WP.skip ?_
                      refine WP.seq ?_
                      refine WP.block ?_
                      refine WP.stepE g72_e_ok ⟨U :: .ptr 0 0 :: .int .i64 0 :: U :: .bool v23_0 :: .int .i64 v23_1 :: .ptr 1 0 :: us 93 (ofSl 2 e164 x5 :: .int .i64 (x5.n : Int) :: .int .i64 v23_1 :: .bool (decide (v23_1 < (x5.n : Int))) :: .int .i64 v23_1 :: .ref [.str (x5.at' (Int.toNat v23_1)).c0, .int .i64 (x5.at' (Int.toNat v23_1)).c1] :: .agg [.str (x5.at' (Int.toNat v23_1)).c0, .int .i64 (x5.at' (Int.toNat v23_1)).c1] :: us 14 []), [[.int .i64 x0, .str x1, .int .i64 x2, ofSl 2 e160 x3, ofSl 1 e9 x4, ofSl 2 e164 x5], [.str (x5.at' (Int.toNat v23_1)).c0, .int .i64 (x5.at' (Int.toNat v23_1)).c1]]⟩ (fun q => ((0 ≤ v23_1 ∧ v23_1 < (x5.n : Int)) ∧ q)) (by kernel_rfl) ⟨(by have := h2; simp [g72_m1] at this; have := h9; simp [g72_m7] at this; have := h12; simp [g72_m8] at this; have := h14; simp [g72_m9] at this; have := h18; simp [g72_m10] at this; have := of_decide_eq_true h22; omega), rfl⟩ ?_
                      refine WP.finM g72_e_ok (fun a : Bool × Bool × Bool => ⟨U :: .ptr 0 0 :: .int .i64 0 :: U :: .bool a.1 :: .int .i64 v23_1 :: .ptr 1 0 :: us 93 (ofSl 2 e164 x5 :: .int .i64 (x5.n : Int) :: .int .i64 v23_1 :: .bool (decide (v23_1 < (x5.n : Int))) :: .int .i64 v23_1 :: .ref [.str (x5.at' (Int.toNat v23_1)).c0, .int .i64 (x5.at' (Int.toNat v23_1)).c1] :: .agg [.str (x5.at' (Int.toNat v23_1)).c0, .int .i64 (x5.at' (Int.toNat v23_1)).c1] :: .bool v23_0 :: .bool a.2.1 :: us 8 ([.bool a.2.2, U, U, U])), [[.int .i64 x0, .str x1, .int .i64 x2, ofSl 2 e160 x3, ofSl 1 e9 x4, ofSl 2 e164 x5], [.str (x5.at' (Int.toNat v23_1)).c0, .int .i64 (x5.at' (Int.toNat v23_1)).c1]]⟩) ((g72_m12 x5 v23_0 v23_1), (g72_m13 v23_0), (g72_m14 x5 v23_0 v23_1)) (fun K => ((v23_0 = true → ((((0 : Int) ≤ 0) ∧ ((0 : Int) ≤ v23_1) ∧ ((v23_1 : Int) ≤ v23_1) ∧ ((v23_1 : Int) ≤ ((x5.n : Nat) : Int))) ∧ (okSl e164 d164 (ofSl 2 e164 (Sl.part x5 0 v23_1)) ∧ (true = true ∧ K ((decide ((g144 (Sl.part x5 0 v23_1) (x5.at' (Int.toNat v23_1)).c0) < 0)), true, (decide ((g144 (Sl.part x5 0 v23_1) (x5.at' (Int.toNat v23_1)).c0) < 0))))))) ∧ (v23_0 = false → (true = true ∧ K (false, false, false))))) (by kernel_rfl) ⟨fun h23 => ⟨(by have := h2; simp [g72_m1] at this; have := h9; simp [g72_m7] at this; have := h12; simp [g72_m8] at this; have := h14; simp [g72_m9] at this; have := h18; simp [g72_m10] at this; have := of_decide_eq_true h22; omega), ⟨(okOf ed164 2 (Sl.part x5 0 v23_1)), ⟨rfl, (KM.mk (pr (eqT h23 rfl) (pr (eqT h23 rfl) (eqT h23 rfl))))⟩⟩⟩, fun h23 => ⟨rfl, (KM.mk (pr (eqF h23 rfl) (pr (eqF h23 rfl) (eqF h23 rfl))))⟩⟩ ?_
                      refine WP.fin0 g72_e_ok ⟨U :: .ptr 0 0 :: .int .i64 0 :: U :: .bool (g72_m12 x5 v23_0 v23_1) :: .int .i64 v23_1 :: .ptr 1 0 :: us 93 (ofSl 2 e164 x5 :: .int .i64 (x5.n : Int) :: .int .i64 (IntKind.i64.wrap (v23_1 + 1)) :: .bool (decide (v23_1 < (x5.n : Int))) :: .int .i64 v23_1 :: .ref [.str (x5.at' (Int.toNat v23_1)).c0, .int .i64 (x5.at' (Int.toNat v23_1)).c1] :: .agg [.str (x5.at' (Int.toNat v23_1)).c0, .int .i64 (x5.at' (Int.toNat v23_1)).c1] :: .bool v23_0 :: .bool (g72_m13 v23_0) :: us 8 ([.bool (g72_m14 x5 v23_0 v23_1), .int .i64 (IntKind.i64.wrap (v23_1 + 1)), U, U])), [[.int .i64 x0, .str x1, .int .i64 x2, ofSl 2 e160 x3, ofSl 1 e9 x4, ofSl 2 e164 x5], [.str (x5.at' (Int.toNat v23_1)).c0, .int .i64 (x5.at' (Int.toNat v23_1)).c1]]⟩ (by kernel_rfl) ?_
                      exact loopR_nextE ((g72_m12 x5 v23_0 v23_1), (IntKind.i64.wrap (v23_1 + 1))) (by have := h2; simp [g72_m1] at this; have := h9; simp [g72_m7] at this; have := h12; simp [g72_m8] at this; have := h14; simp [g72_m9] at this; have := h18; simp [g72_m10] at this; have := of_decide_eq_true h22; first | omega | (have := wrap64 (x := (v23_1 + 1)) (by omega) (by omega); omega) | (simp only [wrap64 (x := (v23_1 + 1)) (by omega) (by omega)]; omega)) (by have := h2; simp [g72_m1] at this; have := h9; simp [g72_m7] at this; have := h12; simp [g72_m8] at this; have := h14; simp [g72_m9] at this; have := h18; simp [g72_m10] at this; have := of_decide_eq_true h22; first | omega | (have := wrap64 (x := (v23_1 + 1)) (by omega) (by omega); omega) | (simp only [wrap64 (x := (v23_1 + 1)) (by omega) (by omega)]; omega)) ((eqT h22 rfl).trans hR23) (by kernel_rfl)
                    · skip
                      have hv24 : (v23_0 : Bool) = (g72_r15 x0 x3 x4 x5) := ((eqF h22 rfl)).trans hR23
                      exact WP.exitP ((((0 : Int) = 0) ∧ (v23_0 = (g72_r15 x0 x3 x4 x5)) ∧ True) ∧ True ∧ true = true) (by kernel_rfl) ⟨⟨rfl, (congrArg (fun r : Bool => r) hv24), trivial⟩, trivial, rfl⟩
                  · skip
                    refine WP.seq ?_
                    refine WP.step0 g72_e_ok ⟨U :: U :: .int .i64 0 :: us 117 ([.bool (!(g72_r15 x0 x3 x4 x5))]), []⟩ (by kernel_rfl) ?_
                    refine WP.condR (!(g72_r15 x0 x3 x4 x5)) rfl (fun h25 => ?_) (fun h25 => ?_)
                    · skip
                      refine WP.step0 g72_e_ok ⟨U :: U :: .int .i64 10 :: us 118 [], []⟩ (by kernel_rfl) ?_
                      exact WP.retP (True ∧ ((.int .i64 10 : AV) = .int .i64 (g72 x0 x1 x2 x3 x4 x5))) (by kernel_rfl) ⟨trivial, (congrArg (AV.int .i64) (eqF h2 (eqF h9 (eqF h12 (eqF h14 (eqF h15 (eqF h16 (eqF h18 (eqT h25 rfl)))))))))⟩
                    · skip
                      refine WP.skip ?_
                      refine WP.step0 g72_e_ok ⟨U :: U :: .int .i64 0 :: us 118 [], []⟩ (by kernel_rfl) ?_
                      exact WP.retP (True ∧ ((.int .i64 0 : AV) = .int .i64 (g72 x0 x1 x2 x3 x4 x5))) (by kernel_rfl) ⟨trivial, (congrArg (AV.int .i64) (eqF h2 (eqF h9 (eqF h12 (eqF h14 (eqF h15 (eqF h16 (eqF h18 (eqF h25 rfl)))))))))⟩
noncomputable def s72 : Ans := fun xs => match xs with
  | [.agg [.int .i64 x0, .str x1, .int .i64 x2, y3, y4, y5]] => bif isSl 2 y3 then bif isSl 1 y4 then bif isSl 2 y5 then some (some (okSl e160 d160 y3 ∧ okSl e9 d9 y4 ∧ okSl e164 d164 y5), .int .i64 (g72 x0 x1 x2 (toSl d160 y3) (toSl d9 y4) (toSl d164 y5))) else none else none else none
  | _ => none
theorem k72 : SOk Try.prog 72 s72 := ⟨⟨_, _, Try.func72, rfl, by kernel_rfl⟩, fun args pre r h hp => by
  unfold s72 at h
  split at h
  · obtain ⟨b0, h⟩ := cond_some h
    obtain ⟨b1, h⟩ := cond_some h
    obtain ⟨b2, h⟩ := cond_some h
    cases h
    exact (pc72 _ _ _ _ _ _).weak (l1 (aG (l1 cI (l1 cS (l1 cI (l1 (slLe b0 hp.1.1) (l1 (slLe b1 hp.1.2.1) (l1 (slLe b2 hp.1.2.2) l0))))))) l0)
  · cases h⟩
end Go.Proofs.Ytchhfojblmceiaa
