/-
  Walks: what functions of the program answer, as functions.
-/
import Derived.Test.YtchhfojblmceiaaCl
import Derived.Test.YtchhfojblmceiaaU0
import Derived.Test.YtchhfojblmceiaaU1
import Derived.Test.YtchhfojblmceiaaUr
namespace Go.Proofs.Ytchhfojblmceiaa
open Go Go.Vc Go.RowKit
set_option maxRecDepth 100000
set_option maxHeartbeats 4000000
noncomputable def g55_m1 (x0 : Int) (x1 : Int) (x2 : Sl T68) : Bool := (bif (!(g112 x0 0 1048576)) then true else (bif (!(g112 x1 0 1048576)) then true else (bif (!((x0 == 0) == (x1 == 0))) then true else (bif (decide ((x2.n : Int) > 200)) then true else (decide ((IntKind.i64.wrap (x0 + (x2.n : Int))) > 1048576))))))
noncomputable def g55_m2 (x2 : Sl T68) (v6_0 : Int) : Bool := (bif ((g52 (x2.at' (Int.toNat v6_0)).c0 (x2.at' (Int.toNat v6_0)).c1 (x2.at' (Int.toNat v6_0)).c2 (x2.at' (Int.toNat v6_0)).c3 (x2.at' (Int.toNat v6_0)).c4 (x2.at' (Int.toNat v6_0)).c5 (x2.at' (Int.toNat v6_0)).c6 (x2.at' (Int.toNat v6_0)).c7 (x2.at' (Int.toNat v6_0)).c8 (x2.at' (Int.toNat v6_0)).c9) != 0) then true else false)
noncomputable def g55_m3 (x1 : Int) (x2 : Sl T68) (v6_0 : Int) : Bool := (bif ((g52 (x2.at' (Int.toNat v6_0)).c0 (x2.at' (Int.toNat v6_0)).c1 (x2.at' (Int.toNat v6_0)).c2 (x2.at' (Int.toNat v6_0)).c3 (x2.at' (Int.toNat v6_0)).c4 (x2.at' (Int.toNat v6_0)).c5 (x2.at' (Int.toNat v6_0)).c6 (x2.at' (Int.toNat v6_0)).c7 (x2.at' (Int.toNat v6_0)).c8 (x2.at' (Int.toNat v6_0)).c9) != 0) then true else (decide ((x2.at' (Int.toNat v6_0)).c0 < x1)))
noncomputable def g55_m4 (v6_0 : Int) : Bool := (bif (decide (v6_0 > 0)) then true else false)
noncomputable def g55_m5 (x2 : Sl T68) (v6_0 : Int) : Bool := (bif (decide (v6_0 > 0)) then (bif (decide ((x2.at' (Int.toNat v6_0)).c0 < (x2.at' (Int.toNat (IntKind.i64.wrap (v6_0 - 1)))).c0)) then true else (decide ((x2.at' (Int.toNat v6_0)).c1 < (x2.at' (Int.toNat (IntKind.i64.wrap (v6_0 - 1)))).c1))) else false)
noncomputable def g55_l6 (x1 : Int) (x2 : Sl T68) : Nat → Int → Bool × Int
  | 0, _ => default
  | k + 1, v6_0 => (bif (decide (v6_0 < (x2.n : Int))) then (bif (g55_m3 x1 x2 v6_0) then (true, 13) else (bif (g55_m5 x2 v6_0) then (true, 13) else (g55_l6 x1 x2 k (IntKind.i64.wrap (v6_0 + 1))))) else (false, default))
noncomputable def g55_r6 (x1 : Int) (x2 : Sl T68) : Bool × Int := g55_l6 x1 x2 ((Int.toNat ((x2.n : Int) - 0)) + 1) 0
noncomputable def g55_p7 (x1 : Int) (x2 : Sl T68) : Bool := (bif (g55_r6 x1 x2).1 then false else true)
noncomputable def g55 (x0 : Int) (x1 : Int) (x2 : Sl T68) : Int := (bif (g55_m1 x0 x1 x2) then 13 else (bif (g55_p7 x1 x2) then 0 else (g55_r6 x1 x2).2))
noncomputable abbrev g55_e : Env := mkE [(52, s52), (112, s112)]
theorem g55_e_ok : g55_e.Ok := mkE_ok ⟨k52, k112, trivial⟩
theorem pc55 (x0 : Int) (x1 : Int) (x2 : Sl T68) : PureCall Try.prog 55 [.agg [.int .i64 x0, .int .i64 x1, ofSl 10 e68 x2]] (.int .i64 (g55 x0 x1 x2)) := by
  refine PureCall.fine fun hf => ?_
  have hf_x2 : Fine (ofSl 10 e68 x2) := hf.1.2.2.1
  have hn_x2 : x2.n ≤ 549755813888 := hf_x2.len
  refine pure_of_WP (E := g55_e) g55_e_ok Try.func55 rfl _ _ ?_
  refine WP.step0 g55_e_ok ⟨U :: .ptr 0 0 :: .int .i64 0 :: us 94 [], [[.int .i64 x0, .int .i64 x1, ofSl 10 e68 x2]]⟩ (by kernel_rfl) ?_
  refine WP.seq ?_
  refine WP.stepM g55_e_ok (fun a : Bool => ⟨U :: .ptr 0 0 :: .int .i64 0 :: us 34 (.bool a :: us 59 []), [[.int .i64 x0, .int .i64 x1, ofSl 10 e68 x2]]⟩) (g55_m1 x0 x1 x2) (fun K => (((!(g112 x0 0 1048576)) = true → K true) ∧ ((!(g112 x0 0 1048576)) = false → (((!(g112 x1 0 1048576)) = true → K true) ∧ ((!(g112 x1 0 1048576)) = false → (((!((x0 == 0) == (x1 == 0))) = true → K true) ∧ ((!((x0 == 0) == (x1 == 0))) = false → (((decide ((x2.n : Int) > 200)) = true → K true) ∧ ((decide ((x2.n : Int) > 200)) = false → K (decide ((IntKind.i64.wrap (x0 + (x2.n : Int))) > 1048576))))))))))) (by kernel_rfl) ⟨fun h1 => (KM.mk (eqT h1 rfl)), fun h1 => ⟨fun h2 => (KM.mk (eqF h1 (eqT h2 rfl))), fun h2 => ⟨fun h3 => (KM.mk (eqF h1 (eqF h2 (eqT h3 rfl)))), fun h3 => ⟨fun h4 => (KM.mk (eqF h1 (eqF h2 (eqF h3 (eqT h4 rfl))))), fun h4 => (KM.mk (eqF h1 (eqF h2 (eqF h3 (eqF h4 rfl)))))⟩⟩⟩⟩ ?_
  refine WP.condR (g55_m1 x0 x1 x2) rfl (fun h5 => ?_) (fun h5 => ?_)
  · skip
    refine WP.step0 g55_e_ok ⟨U :: .ptr 0 0 :: .int .i64 13 :: us 94 [], [[.int .i64 x0, .int .i64 x1, ofSl 10 e68 x2]]⟩ (by kernel_rfl) ?_
    exact WP.retP (True ∧ ((.int .i64 13 : AV) = .int .i64 (g55 x0 x1 x2))) (by kernel_rfl) ⟨trivial, (congrArg (AV.int .i64) (eqT h5 rfl))⟩
  · skip
    refine WP.skip ?_
    refine WP.joinP ⟨U :: U :: .int .i64 0 :: us 94 [], []⟩ (g55_p7 x1 x2) ?_ ?_
    · skip
      refine WP.step0 g55_e_ok ⟨U :: .ptr 0 0 :: .int .i64 0 :: .int .i64 0 :: us 93 [], [[.int .i64 x0, .int .i64 x1, ofSl 10 e68 x2]]⟩ (by kernel_rfl) ?_
      refine WP.block ?_
      refine WP.loopK (σ := Int) (R := Bool × Int) (fun s => ⟨U :: .ptr 0 0 :: .int .i64 0 :: .int .i64 s :: us 93 [], [[.int .i64 x0, .int .i64 x1, ofSl 10 e68 x2]]⟩) (fun s => (0 ≤ s ∧ s ≤ (x2.n : Int))) (fun s => (Int.toNat ((x2.n : Int) - s))) (fun k s => g55_l6 x1 x2 k s) 0 (by have := h5; simp [g55_m1] at this; first | omega | ((try dsimp only); omega) | ((try dsimp only); (try simp only [Sl.app_n]); (try simp only [Sl.lit_n]); (try simp only [Sl.part_n]); (try simp only [nilSl_n]); (try simp only [List.length_cons]); (try simp only [List.length_nil]); first | omega | (omega) | (simp only [wrap64 (by omega) (by omega)]; omega))) (leE (by kernel_rfl)) (fun k s hI6 hk6 hR6 => ?_)
      obtain ⟨v6_0, hs6⟩ : ∃ x, x = s := ⟨s, rfl⟩
      subst hs6
      have hI6 : (0 ≤ v6_0 ∧ v6_0 ≤ (x2.n : Int)) := hI6
      have hR6 : g55_l6 x1 x2 (k + 1) v6_0 = (g55_r6 x1 x2) := hR6
      refine WP.seq ?_
      refine WP.step0 g55_e_ok ⟨U :: .ptr 0 0 :: .int .i64 0 :: .int .i64 v6_0 :: us 34 (.int .i64 v6_0 :: .ptr 0 2 :: ofSl 10 e68 x2 :: .int .i64 (x2.n : Int) :: .bool (decide (v6_0 < (x2.n : Int))) :: us 54 []), [[.int .i64 x0, .int .i64 x1, ofSl 10 e68 x2]]⟩ (by kernel_rfl) ?_
      refine WP.condR (decide (v6_0 < (x2.n : Int))) rfl (fun h6 => ?_) (fun h6 => ?_)
      · skip
        refine WP.skip ?_
        refine WP.seq ?_
        refine WP.block ?_
        refine WP.seq ?_
        refine WP.stepM g55_e_ok (fun a : Bool × Bool => ⟨U :: .ptr 0 0 :: .int .i64 0 :: .int .i64 v6_0 :: us 34 (.int .i64 v6_0 :: .ptr 0 2 :: ofSl 10 e68 x2 :: .int .i64 (x2.n : Int) :: .bool (decide (v6_0 < (x2.n : Int))) :: U :: U :: .ptr 0 2 :: ofSl 10 e68 x2 :: .int .i64 v6_0 :: .ref [.int .i64 (x2.at' (Int.toNat v6_0)).c0, .int .i64 (x2.at' (Int.toNat v6_0)).c1, .bool (x2.at' (Int.toNat v6_0)).c2, .int .i64 (x2.at' (Int.toNat v6_0)).c3, .int .i64 (x2.at' (Int.toNat v6_0)).c4, .int .i64 (x2.at' (Int.toNat v6_0)).c5, .str (x2.at' (Int.toNat v6_0)).c6, .str (x2.at' (Int.toNat v6_0)).c7, .str (x2.at' (Int.toNat v6_0)).c8, .int .i64 (x2.at' (Int.toNat v6_0)).c9] :: .agg [.int .i64 (x2.at' (Int.toNat v6_0)).c0, .int .i64 (x2.at' (Int.toNat v6_0)).c1, .bool (x2.at' (Int.toNat v6_0)).c2, .int .i64 (x2.at' (Int.toNat v6_0)).c3, .int .i64 (x2.at' (Int.toNat v6_0)).c4, .int .i64 (x2.at' (Int.toNat v6_0)).c5, .str (x2.at' (Int.toNat v6_0)).c6, .str (x2.at' (Int.toNat v6_0)).c7, .str (x2.at' (Int.toNat v6_0)).c8, .int .i64 (x2.at' (Int.toNat v6_0)).c9] :: .int .i64 (g52 (x2.at' (Int.toNat v6_0)).c0 (x2.at' (Int.toNat v6_0)).c1 (x2.at' (Int.toNat v6_0)).c2 (x2.at' (Int.toNat v6_0)).c3 (x2.at' (Int.toNat v6_0)).c4 (x2.at' (Int.toNat v6_0)).c5 (x2.at' (Int.toNat v6_0)).c6 (x2.at' (Int.toNat v6_0)).c7 (x2.at' (Int.toNat v6_0)).c8 (x2.at' (Int.toNat v6_0)).c9) :: .bool ((g52 (x2.at' (Int.toNat v6_0)).c0 (x2.at' (Int.toNat v6_0)).c1 (x2.at' (Int.toNat v6_0)).c2 (x2.at' (Int.toNat v6_0)).c3 (x2.at' (Int.toNat v6_0)).c4 (x2.at' (Int.toNat v6_0)).c5 (x2.at' (Int.toNat v6_0)).c6 (x2.at' (Int.toNat v6_0)).c7 (x2.at' (Int.toNat v6_0)).c8 (x2.at' (Int.toNat v6_0)).c9) != 0) :: .bool a.1 :: us 9 (.bool a.2 :: us 34 [])), [[.int .i64 x0, .int .i64 x1, ofSl 10 e68 x2]]⟩) ((g55_m2 x2 v6_0), (g55_m3 x1 x2 v6_0)) (fun K => ((0 ≤ v6_0 ∧ v6_0 < (x2.n : Int)) ∧ ((((g52 (x2.at' (Int.toNat v6_0)).c0 (x2.at' (Int.toNat v6_0)).c1 (x2.at' (Int.toNat v6_0)).c2 (x2.at' (Int.toNat v6_0)).c3 (x2.at' (Int.toNat v6_0)).c4 (x2.at' (Int.toNat v6_0)).c5 (x2.at' (Int.toNat v6_0)).c6 (x2.at' (Int.toNat v6_0)).c7 (x2.at' (Int.toNat v6_0)).c8 (x2.at' (Int.toNat v6_0)).c9) != 0) = true → (true = true ∧ K (true, true))) ∧ (((g52 (x2.at' (Int.toNat v6_0)).c0 (x2.at' (Int.toNat v6_0)).c1 (x2.at' (Int.toNat v6_0)).c2 (x2.at' (Int.toNat v6_0)).c3 (x2.at' (Int.toNat v6_0)).c4 (x2.at' (Int.toNat v6_0)).c5 (x2.at' (Int.toNat v6_0)).c6 (x2.at' (Int.toNat v6_0)).c7 (x2.at' (Int.toNat v6_0)).c8 (x2.at' (Int.toNat v6_0)).c9) != 0) = false → ((0 ≤ v6_0 ∧ v6_0 < (x2.n : Int)) ∧ (true = true ∧ K (false, (decide ((x2.at' (Int.toNat v6_0)).c0 < x1))))))))) (by kernel_rfl) ⟨(by have := h5; simp [g55_m1] at this; have := of_decide_eq_true h6; omega), ⟨fun h7 => ⟨rfl, (KM.mk (pr (eqT h7 rfl) (eqT h7 rfl)))⟩, fun h7 => ⟨(by have := h5; simp [g55_m1] at this; have := of_decide_eq_true h6; have := bne_eq_false_iff_eq.1 h7; omega), ⟨rfl, (KM.mk (pr (eqF h7 rfl) (eqF h7 rfl)))⟩⟩⟩⟩ ?_
        refine WP.condR (g55_m3 x1 x2 v6_0) rfl (fun h8 => ?_) (fun h8 => ?_)
        · skip
          refine WP.step0 g55_e_ok ⟨U :: .ptr 0 0 :: .int .i64 13 :: .int .i64 v6_0 :: us 34 (.int .i64 v6_0 :: .ptr 0 2 :: ofSl 10 e68 x2 :: .int .i64 (x2.n : Int) :: .bool (decide (v6_0 < (x2.n : Int))) :: U :: U :: .ptr 0 2 :: ofSl 10 e68 x2 :: .int .i64 v6_0 :: .ref [.int .i64 (x2.at' (Int.toNat v6_0)).c0, .int .i64 (x2.at' (Int.toNat v6_0)).c1, .bool (x2.at' (Int.toNat v6_0)).c2, .int .i64 (x2.at' (Int.toNat v6_0)).c3, .int .i64 (x2.at' (Int.toNat v6_0)).c4, .int .i64 (x2.at' (Int.toNat v6_0)).c5, .str (x2.at' (Int.toNat v6_0)).c6, .str (x2.at' (Int.toNat v6_0)).c7, .str (x2.at' (Int.toNat v6_0)).c8, .int .i64 (x2.at' (Int.toNat v6_0)).c9] :: .agg [.int .i64 (x2.at' (Int.toNat v6_0)).c0, .int .i64 (x2.at' (Int.toNat v6_0)).c1, .bool (x2.at' (Int.toNat v6_0)).c2, .int .i64 (x2.at' (Int.toNat v6_0)).c3, .int .i64 (x2.at' (Int.toNat v6_0)).c4, .int .i64 (x2.at' (Int.toNat v6_0)).c5, .str (x2.at' (Int.toNat v6_0)).c6, .str (x2.at' (Int.toNat v6_0)).c7, .str (x2.at' (Int.toNat v6_0)).c8, .int .i64 (x2.at' (Int.toNat v6_0)).c9] :: .int .i64 (g52 (x2.at' (Int.toNat v6_0)).c0 (x2.at' (Int.toNat v6_0)).c1 (x2.at' (Int.toNat v6_0)).c2 (x2.at' (Int.toNat v6_0)).c3 (x2.at' (Int.toNat v6_0)).c4 (x2.at' (Int.toNat v6_0)).c5 (x2.at' (Int.toNat v6_0)).c6 (x2.at' (Int.toNat v6_0)).c7 (x2.at' (Int.toNat v6_0)).c8 (x2.at' (Int.toNat v6_0)).c9) :: .bool ((g52 (x2.at' (Int.toNat v6_0)).c0 (x2.at' (Int.toNat v6_0)).c1 (x2.at' (Int.toNat v6_0)).c2 (x2.at' (Int.toNat v6_0)).c3 (x2.at' (Int.toNat v6_0)).c4 (x2.at' (Int.toNat v6_0)).c5 (x2.at' (Int.toNat v6_0)).c6 (x2.at' (Int.toNat v6_0)).c7 (x2.at' (Int.toNat v6_0)).c8 (x2.at' (Int.toNat v6_0)).c9) != 0) :: .bool (g55_m2 x2 v6_0) :: us 9 (.bool (g55_m3 x1 x2 v6_0) :: us 34 [])), [[.int .i64 x0, .int .i64 x1, ofSl 10 e68 x2]]⟩ (by kernel_rfl) ?_
          have hv9 : ((true, 13) : Bool × Int) = (g55_r6 x1 x2) := ((eqT h6 (eqT h8 rfl))).trans hR6
          exact WP.retP (True ∧ ((.int .i64 13 : AV) = .int .i64 (g55 x0 x1 x2))) (by kernel_rfl) ⟨trivial, (congrArg (AV.int .i64) ((congrArg (fun r : Bool × Int => r.2) hv9).trans (eqF h5 (eqF ((eqT (congrArg (fun r : Bool × Int => r.1) hv9).symm rfl)).symm rfl))))⟩
        · skip
          refine WP.skip ?_
          refine WP.stepM g55_e_ok (fun a : Bool × Bool => ⟨U :: .ptr 0 0 :: .int .i64 0 :: .int .i64 v6_0 :: us 34 (.int .i64 v6_0 :: .ptr 0 2 :: ofSl 10 e68 x2 :: .int .i64 (x2.n : Int) :: .bool (decide (v6_0 < (x2.n : Int))) :: U :: U :: .ptr 0 2 :: ofSl 10 e68 x2 :: .int .i64 v6_0 :: .ref [.int .i64 (x2.at' (Int.toNat v6_0)).c0, .int .i64 (x2.at' (Int.toNat v6_0)).c1, .bool (x2.at' (Int.toNat v6_0)).c2, .int .i64 (x2.at' (Int.toNat v6_0)).c3, .int .i64 (x2.at' (Int.toNat v6_0)).c4, .int .i64 (x2.at' (Int.toNat v6_0)).c5, .str (x2.at' (Int.toNat v6_0)).c6, .str (x2.at' (Int.toNat v6_0)).c7, .str (x2.at' (Int.toNat v6_0)).c8, .int .i64 (x2.at' (Int.toNat v6_0)).c9] :: .agg [.int .i64 (x2.at' (Int.toNat v6_0)).c0, .int .i64 (x2.at' (Int.toNat v6_0)).c1, .bool (x2.at' (Int.toNat v6_0)).c2, .int .i64 (x2.at' (Int.toNat v6_0)).c3, .int .i64 (x2.at' (Int.toNat v6_0)).c4, .int .i64 (x2.at' (Int.toNat v6_0)).c5, .str (x2.at' (Int.toNat v6_0)).c6, .str (x2.at' (Int.toNat v6_0)).c7, .str (x2.at' (Int.toNat v6_0)).c8, .int .i64 (x2.at' (Int.toNat v6_0)).c9] :: .int .i64 (g52 (x2.at' (Int.toNat v6_0)).c0 (x2.at' (Int.toNat v6_0)).c1 (x2.at' (Int.toNat v6_0)).c2 (x2.at' (Int.toNat v6_0)).c3 (x2.at' (Int.toNat v6_0)).c4 (x2.at' (Int.toNat v6_0)).c5 (x2.at' (Int.toNat v6_0)).c6 (x2.at' (Int.toNat v6_0)).c7 (x2.at' (Int.toNat v6_0)).c8 (x2.at' (Int.toNat v6_0)).c9) :: .bool ((g52 (x2.at' (Int.toNat v6_0)).c0 (x2.at' (Int.toNat v6_0)).c1 (x2.at' (Int.toNat v6_0)).c2 (x2.at' (Int.toNat v6_0)).c3 (x2.at' (Int.toNat v6_0)).c4 (x2.at' (Int.toNat v6_0)).c5 (x2.at' (Int.toNat v6_0)).c6 (x2.at' (Int.toNat v6_0)).c7 (x2.at' (Int.toNat v6_0)).c8 (x2.at' (Int.toNat v6_0)).c9) != 0) :: .bool (g55_m2 x2 v6_0) :: us 9 (.bool (g55_m3 x1 x2 v6_0) :: .int .i64 v6_0 :: .bool (decide (v6_0 > 0)) :: .bool a.1 :: us 30 ([.bool a.2]))), [[.int .i64 x0, .int .i64 x1, ofSl 10 e68 x2]]⟩) ((g55_m4 v6_0), (g55_m5 x2 v6_0)) (fun K => (((decide (v6_0 > 0)) = true → ((0 ≤ v6_0 ∧ v6_0 < (x2.n : Int)) ∧ ((0 ≤ (IntKind.i64.wrap (v6_0 - 1)) ∧ (IntKind.i64.wrap (v6_0 - 1)) < (x2.n : Int)) ∧ (((decide ((x2.at' (Int.toNat v6_0)).c0 < (x2.at' (Int.toNat (IntKind.i64.wrap (v6_0 - 1)))).c0)) = true → (true = true ∧ K (true, true))) ∧ ((decide ((x2.at' (Int.toNat v6_0)).c0 < (x2.at' (Int.toNat (IntKind.i64.wrap (v6_0 - 1)))).c0)) = false → ((0 ≤ v6_0 ∧ v6_0 < (x2.n : Int)) ∧ ((0 ≤ (IntKind.i64.wrap (v6_0 - 1)) ∧ (IntKind.i64.wrap (v6_0 - 1)) < (x2.n : Int)) ∧ (true = true ∧ K (true, (decide ((x2.at' (Int.toNat v6_0)).c1 < (x2.at' (Int.toNat (IntKind.i64.wrap (v6_0 - 1)))).c1))))))))))) ∧ ((decide (v6_0 > 0)) = false → (true = true ∧ K (false, false))))) (by kernel_rfl) ⟨fun h10 => ⟨(by have := h5; simp [g55_m1] at this; have := of_decide_eq_true h6; have := h8; simp [g55_m3] at this; have := of_decide_eq_true h10; omega), ⟨(by have := h5; simp [g55_m1] at this; have := of_decide_eq_true h6; have := h8; simp [g55_m3] at this; have := of_decide_eq_true h10; first | omega | (have := wrap64 (x := (v6_0 - 1)) (by omega) (by omega); omega)), ⟨fun h11 => ⟨rfl, (KM.mk (pr (eqT h10 rfl) (eqT h10 (eqT h11 rfl))))⟩, fun h11 => ⟨(by have := h5; simp [g55_m1] at this; have := of_decide_eq_true h6; have := h8; simp [g55_m3] at this; have := of_decide_eq_true h10; have := of_decide_eq_false h11; omega), ⟨(by have := h5; simp [g55_m1] at this; have := of_decide_eq_true h6; have := h8; simp [g55_m3] at this; have := of_decide_eq_true h10; have := of_decide_eq_false h11; first | omega | (have := wrap64 (x := (v6_0 - 1)) (by omega) (by omega); omega)), ⟨rfl, (KM.mk (pr (eqT h10 rfl) (eqT h10 (eqF h11 rfl))))⟩⟩⟩⟩⟩⟩, fun h10 => ⟨rfl, (KM.mk (pr (eqF h10 rfl) (eqF h10 rfl)))⟩⟩ ?_
          refine WP.condR (g55_m5 x2 v6_0) rfl (fun h12 => ?_) (fun h12 => ?_)
          · skip
            refine WP.step0 g55_e_ok ⟨U :: .ptr 0 0 :: .int .i64 13 :: .int .i64 v6_0 :: us 34 (.int .i64 v6_0 :: .ptr 0 2 :: ofSl 10 e68 x2 :: .int .i64 (x2.n : Int) :: .bool (decide (v6_0 < (x2.n : Int))) :: U :: U :: .ptr 0 2 :: ofSl 10 e68 x2 :: .int .i64 v6_0 :: .ref [.int .i64 (x2.at' (Int.toNat v6_0)).c0, .int .i64 (x2.at' (Int.toNat v6_0)).c1, .bool (x2.at' (Int.toNat v6_0)).c2, .int .i64 (x2.at' (Int.toNat v6_0)).c3, .int .i64 (x2.at' (Int.toNat v6_0)).c4, .int .i64 (x2.at' (Int.toNat v6_0)).c5, .str (x2.at' (Int.toNat v6_0)).c6, .str (x2.at' (Int.toNat v6_0)).c7, .str (x2.at' (Int.toNat v6_0)).c8, .int .i64 (x2.at' (Int.toNat v6_0)).c9] :: .agg [.int .i64 (x2.at' (Int.toNat v6_0)).c0, .int .i64 (x2.at' (Int.toNat v6_0)).c1, .bool (x2.at' (Int.toNat v6_0)).c2, .int .i64 (x2.at' (Int.toNat v6_0)).c3, .int .i64 (x2.at' (Int.toNat v6_0)).c4, .int .i64 (x2.at' (Int.toNat v6_0)).c5, .str (x2.at' (Int.toNat v6_0)).c6, .str (x2.at' (Int.toNat v6_0)).c7, .str (x2.at' (Int.toNat v6_0)).c8, .int .i64 (x2.at' (Int.toNat v6_0)).c9] :: .int .i64 (g52 (x2.at' (Int.toNat v6_0)).c0 (x2.at' (Int.toNat v6_0)).c1 (x2.at' (Int.toNat v6_0)).c2 (x2.at' (Int.toNat v6_0)).c3 (x2.at' (Int.toNat v6_0)).c4 (x2.at' (Int.toNat v6_0)).c5 (x2.at' (Int.toNat v6_0)).c6 (x2.at' (Int.toNat v6_0)).c7 (x2.at' (Int.toNat v6_0)).c8 (x2.at' (Int.toNat v6_0)).c9) :: .bool ((g52 (x2.at' (Int.toNat v6_0)).c0 (x2.at' (Int.toNat v6_0)).c1 (x2.at' (Int.toNat v6_0)).c2 (x2.at' (Int.toNat v6_0)).c3 (x2.at' (Int.toNat v6_0)).c4 (x2.at' (Int.toNat v6_0)).c5 (x2.at' (Int.toNat v6_0)).c6 (x2.at' (Int.toNat v6_0)).c7 (x2.at' (Int.toNat v6_0)).c8 (x2.at' (Int.toNat v6_0)).c9) != 0) :: .bool (g55_m2 x2 v6_0) :: us 9 (.bool (g55_m3 x1 x2 v6_0) :: .int .i64 v6_0 :: .bool (decide (v6_0 > 0)) :: .bool (g55_m4 v6_0) :: us 30 ([.bool (g55_m5 x2 v6_0)]))), [[.int .i64 x0, .int .i64 x1, ofSl 10 e68 x2]]⟩ (by kernel_rfl) ?_
            have hv13 : ((true, 13) : Bool × Int) = (g55_r6 x1 x2) := ((eqT h6 (eqF h8 (eqT h12 rfl)))).trans hR6
            exact WP.retP (True ∧ ((.int .i64 13 : AV) = .int .i64 (g55 x0 x1 x2))) (by kernel_rfl) ⟨trivial, (congrArg (AV.int .i64) ((congrArg (fun r : Bool × Int => r.2) hv13).trans (eqF h5 (eqF ((eqT (congrArg (fun r : Bool × Int => r.1) hv13).symm rfl)).symm rfl))))⟩
          · skip
            refine WP.skip ?_
            refine WP.fin0 g55_e_ok ⟨U :: .ptr 0 0 :: .int .i64 0 :: .int .i64 (IntKind.i64.wrap (v6_0 + 1)) :: us 34 (.int .i64 v6_0 :: .ptr 0 2 :: ofSl 10 e68 x2 :: .int .i64 (x2.n : Int) :: .bool (decide (v6_0 < (x2.n : Int))) :: .int .i64 v6_0 :: .int .i64 (IntKind.i64.wrap (v6_0 + 1)) :: .ptr 0 2 :: ofSl 10 e68 x2 :: .int .i64 v6_0 :: .ref [.int .i64 (x2.at' (Int.toNat v6_0)).c0, .int .i64 (x2.at' (Int.toNat v6_0)).c1, .bool (x2.at' (Int.toNat v6_0)).c2, .int .i64 (x2.at' (Int.toNat v6_0)).c3, .int .i64 (x2.at' (Int.toNat v6_0)).c4, .int .i64 (x2.at' (Int.toNat v6_0)).c5, .str (x2.at' (Int.toNat v6_0)).c6, .str (x2.at' (Int.toNat v6_0)).c7, .str (x2.at' (Int.toNat v6_0)).c8, .int .i64 (x2.at' (Int.toNat v6_0)).c9] :: .agg [.int .i64 (x2.at' (Int.toNat v6_0)).c0, .int .i64 (x2.at' (Int.toNat v6_0)).c1, .bool (x2.at' (Int.toNat v6_0)).c2, .int .i64 (x2.at' (Int.toNat v6_0)).c3, .int .i64 (x2.at' (Int.toNat v6_0)).c4, .int .i64 (x2.at' (Int.toNat v6_0)).c5, .str (x2.at' (Int.toNat v6_0)).c6, .str (x2.at' (Int.toNat v6_0)).c7, .str (x2.at' (Int.toNat v6_0)).c8, .int .i64 (x2.at' (Int.toNat v6_0)).c9] :: .int .i64 (g52 (x2.at' (Int.toNat v6_0)).c0 (x2.at' (Int.toNat v6_0)).c1 (x2.at' (Int.toNat v6_0)).c2 (x2.at' (Int.toNat v6_0)).c3 (x2.at' (Int.toNat v6_0)).c4 (x2.at' (Int.toNat v6_0)).c5 (x2.at' (Int.toNat v6_0)).c6 (x2.at' (Int.toNat v6_0)).c7 (x2.at' (Int.toNat v6_0)).c8 (x2.at' (Int.toNat v6_0)).c9) :: .bool ((g52 (x2.at' (Int.toNat v6_0)).c0 (x2.at' (Int.toNat v6_0)).c1 (x2.at' (Int.toNat v6_0)).c2 (x2.at' (Int.toNat v6_0)).c3 (x2.at' (Int.toNat v6_0)).c4 (x2.at' (Int.toNat v6_0)).c5 (x2.at' (Int.toNat v6_0)).c6 (x2.at' (Int.toNat v6_0)).c7 (x2.at' (Int.toNat v6_0)).c8 (x2.at' (Int.toNat v6_0)).c9) != 0) :: .bool (g55_m2 x2 v6_0) :: us 9 (.bool (g55_m3 x1 x2 v6_0) :: .int .i64 v6_0 :: .bool (decide (v6_0 > 0)) :: .bool (g55_m4 v6_0) :: us 30 ([.bool (g55_m5 x2 v6_0)]))), [[.int .i64 x0, .int .i64 x1, ofSl 10 e68 x2]]⟩ (by kernel_rfl) ?_
            exact loopR_nextE ((IntKind.i64.wrap (v6_0 + 1))) (by have := h5; simp [g55_m1] at this; have := of_decide_eq_true h6; have := h8; simp [g55_m3] at this; have := h12; simp [g55_m5] at this; first | omega | (have := wrap64 (x := (v6_0 + 1)) (by omega) (by omega); omega) | (simp only [wrap64 (x := (v6_0 + 1)) (by omega) (by omega)]; omega)) (by have := h5; simp [g55_m1] at this; have := of_decide_eq_true h6; have := h8; simp [g55_m3] at this; have := h12; simp [g55_m5] at this; first | omega | (have := wrap64 (x := (v6_0 + 1)) (by omega) (by omega); omega) | (simp only [wrap64 (x := (v6_0 + 1)) (by omega) (by omega)]; omega)) ((eqT h6 (eqF h8 (eqF h12 rfl))).trans hR6) (by kernel_rfl)
      · skip
        have hv14 : ((false, default) : Bool × Int) = (g55_r6 x1 x2) := ((eqF h6 rfl)).trans hR6
        exact WP.exitP ((g55_p7 x1 x2) = true ∧ ((((0 : Int) = 0) ∧ True) ∧ True ∧ true = true)) (by kernel_rfl) ⟨((eqF (congrArg (fun r : Bool × Int => r.1) hv14).symm rfl)).symm, ⟨⟨rfl, trivial⟩, trivial, rfl⟩⟩
    · skip
      intro h15
      refine WP.step0 g55_e_ok ⟨U :: U :: .int .i64 0 :: us 94 [], []⟩ (by kernel_rfl) ?_
      exact WP.retP (True ∧ ((.int .i64 0 : AV) = .int .i64 (g55 x0 x1 x2))) (by kernel_rfl) ⟨trivial, (congrArg (AV.int .i64) (eqF h5 (eqT h15 rfl)))⟩
noncomputable def s55 : Ans := fun xs => match xs with
  | [.agg [.int .i64 x0, .int .i64 x1, y2]] => bif isSl 10 y2 then some (some (okSl e68 d68 y2), .int .i64 (g55 x0 x1 (toSl d68 y2))) else none
  | _ => none
theorem k55 : SOk Try.prog 55 s55 := ⟨⟨_, _, Try.func55, rfl, by kernel_rfl⟩, fun args pre r h hp => by
  unfold s55 at h
  split at h
  · obtain ⟨b0, h⟩ := cond_some h
    cases h
    exact (pc55 _ _ _).weak (l1 (aG (l1 cI (l1 cI (l1 (slLe b0 hp.1) l0)))) l0)
  · cases h⟩
theorem chk55 (x0 x1 : Int) (x2 : Sl T68) (h : g55 x0 x1 x2 = 0) : (0 ≤ x0 ∧ x0 ≤ 1048576) ∧ (0 ≤ x1 ∧ x1 ≤ 1048576) ∧ x2.n ≤ 200 ∧ x0 + x2.n ≤ 1048576 := by
  unfold g55 at h
  cases hm : g55_m1 x0 x1 x2 with
  | true => rw [hm] at h; simp at h
  | false =>
    simp [g55_m1, g112, g112_m1] at hm
    have := wrap64 (x := x0 + (x2.n : Int)) (by omega) (by omega)
    omega
noncomputable def g54_l1 (x2 : Sl T68) : Nat → Int → Sl T68 → Sl T68
  | 0, _, _ => default
  | k + 1, v1_0, v1_1 => (bif (decide (v1_0 < (x2.n : Int))) then (g54_l1 x2 k (IntKind.i64.wrap (v1_0 + 1)) (Sl.app v1_1 (Sl.lit ([(x2.at' (Int.toNat v1_0))] : List T68)))) else v1_1)
noncomputable def g54_r1 (x2 : Sl T68) : Sl T68 := g54_l1 x2 ((Int.toNat ((x2.n : Int) - 0)) + 1) 0 (nilSl : Sl T68)
noncomputable def g54_0 (x0 : Int) : Int := x0
noncomputable def g54_1 (x1 : Int) : Int := x1
noncomputable def g54_2 (x2 : Sl T68) : Sl T68 := (g54_r1 x2)
noncomputable abbrev g54_e : Env := mkE []
theorem g54_e_ok : g54_e.Ok := mkE_ok trivial
theorem pc54 (x0 : Int) (x1 : Int) (x2 : Sl T68) : PureCall Try.prog 54 [.agg [.int .i64 x0, .int .i64 x1, ofSl 10 e68 x2]] (.agg [.int .i64 (g54_0 x0), .int .i64 (g54_1 x1), ofSl 10 e68 (g54_2 x2)]) := by
  refine PureCall.fine fun hf => ?_
  have hf_x2 : Fine (ofSl 10 e68 x2) := hf.1.2.2.1
  have hn_x2 : x2.n ≤ 549755813888 := hf_x2.len
  refine pure_of_WP (E := g54_e) g54_e_ok Try.func54 rfl _ _ ?_
  refine WP.step0 g54_e_ok ⟨U :: .ptr 0 0 :: .ptr 1 0 :: us 25 [], [[.int .i64 x0, .int .i64 x1, ofSl 10 e68 x2], [.int .i64 0, .int .i64 0, .nils]]⟩ (by kernel_rfl) ?_
  refine WP.step0 g54_e_ok ⟨U :: .ptr 0 0 :: .ptr 1 0 :: .ptr 2 0 :: us 24 [], [[.int .i64 x0, .int .i64 x1, ofSl 10 e68 x2], [.int .i64 0, .int .i64 0, .nils], [.int .i64 x0, .int .i64 x1, .nils]]⟩ (by kernel_rfl) ?_
  refine WP.joinF ⟨U :: U :: .ptr 1 0 :: .ptr 2 0 :: us 24 [], [[], [.int .i64 0, .int .i64 0, .nils], [.int .i64 x0, .int .i64 x1, .own 3 (g54_r1 x2).n], [.blk false 10 (g54_r1 x2).n (fun i => e68 ((g54_r1 x2).at' i))]]⟩ ((((g54_r1 x2).n : Nat) : Int) ≤ 0 + ((x2.n : Int) - 0)) ?_ ?_
  · skip
    refine WP.step0 g54_e_ok ⟨U :: .ptr 0 0 :: .ptr 1 0 :: .ptr 2 0 :: .int .i64 0 :: us 23 [], [[.int .i64 x0, .int .i64 x1, ofSl 10 e68 x2], [.int .i64 0, .int .i64 0, .nils], [.int .i64 x0, .int .i64 x1, .nils]]⟩ (by kernel_rfl) ?_
    refine WP.block ?_
    refine WP.nilH 2 2 10 rfl rfl ?_
    refine WP.loopK (σ := Int × Sl T68) (R := Sl T68) (fun s => ⟨U :: .ptr 0 0 :: .ptr 1 0 :: .ptr 2 0 :: .int .i64 s.1 :: us 23 [], [[.int .i64 x0, .int .i64 x1, ofSl 10 e68 x2], [.int .i64 0, .int .i64 0, .nils], [.int .i64 x0, .int .i64 x1, .own 3 s.2.n], [.blk false 10 s.2.n (fun i => e68 (s.2.at' i))]]⟩) (fun s => ((0 ≤ s.1 ∧ s.1 ≤ (x2.n : Int)) ∧ ((s.2.n : Nat) : Int) ≤ 0 + (s.1 - 0))) (fun s => (Int.toNat ((x2.n : Int) - s.1))) (fun k s => g54_l1 x2 k (s.1) (s.2)) (0, (nilSl : Sl T68)) (by first | omega | ((try dsimp only); omega) | ((try dsimp only); (try simp only [Sl.app_n]); (try simp only [Sl.lit_n]); (try simp only [Sl.part_n]); (try simp only [nilSl_n]); (try simp only [List.length_cons]); (try simp only [List.length_nil]); first | omega | (omega) | (simp only [wrap64 (by omega) (by omega)]; omega))) (Eq.mpr (β := ((((.ptr 0 0 : AV) = .ptr 0 0) ∧ ((.ptr 1 0 : AV) = .ptr 1 0) ∧ ((.ptr 2 0 : AV) = .ptr 2 0) ∧ ((0 : Int) = 0) ∧ True) ∧ ((((x0 : Int) = x0) ∧ ((x1 : Int) = x1) ∧ (x2.n = x2.n ∧ ∀ i, i < x2.n → e68 (x2.at' i) = e68 (x2.at' i)) ∧ True) ∧ (((0 : Int) = 0) ∧ ((0 : Int) = 0) ∧ ((.nils : AV) = .nils) ∧ True) ∧ (((x0 : Int) = x0) ∧ ((x1 : Int) = x1) ∧ ((.own 3 0 : AV) = .own 3 0) ∧ True) ∧ ((0 = 0 ∧ ∀ i, i < 0 → (fun _ => []) i = e68 ((nilSl : Sl T68).at' i)) ∧ True) ∧ True) ∧ true = true)) (by kernel_rfl) ⟨⟨rfl, rfl, rfl, rfl, trivial⟩, ⟨⟨rfl, rfl, ⟨rfl, fun _ _ => rfl⟩, trivial⟩, ⟨rfl, rfl, rfl, trivial⟩, ⟨rfl, rfl, rfl, trivial⟩, ⟨(nilOk e68), trivial⟩, trivial⟩, rfl⟩) (fun k s hI1 hk1 hR1 => ?_)
    obtain ⟨v1_0, v1_1⟩ := s
    have hI1 : ((0 ≤ v1_0 ∧ v1_0 ≤ (x2.n : Int)) ∧ ((v1_1.n : Nat) : Int) ≤ 0 + (v1_0 - 0)) := hI1
    have hR1 : g54_l1 x2 (k + 1) v1_0 v1_1 = (g54_r1 x2) := hR1
    refine WP.seq ?_
    refine WP.step0 g54_e_ok ⟨U :: .ptr 0 0 :: .ptr 1 0 :: .ptr 2 0 :: .int .i64 v1_0 :: us 5 (.int .i64 v1_0 :: .ptr 0 2 :: ofSl 10 e68 x2 :: .int .i64 (x2.n : Int) :: .bool (decide (v1_0 < (x2.n : Int))) :: us 13 []), [[.int .i64 x0, .int .i64 x1, ofSl 10 e68 x2], [.int .i64 0, .int .i64 0, .nils], [.int .i64 x0, .int .i64 x1, .own 3 v1_1.n], [.blk false 10 v1_1.n (fun i => e68 (v1_1.at' i))]]⟩ (by kernel_rfl) ?_
    refine WP.condR (decide (v1_0 < (x2.n : Int))) rfl (fun h1 => ?_) (fun h1 => ?_)
    · skip
      refine WP.skip ?_
      refine WP.seq ?_
      refine WP.block ?_
      refine WP.finM g54_e_ok (fun a : (Nat → List AV) × (Nat → List AV) => ⟨U :: .ptr 0 0 :: .ptr 1 0 :: .ptr 2 0 :: .int .i64 v1_0 :: us 5 ([.int .i64 v1_0, .ptr 0 2, ofSl 10 e68 x2, .int .i64 (x2.n : Int), .bool (decide (v1_0 < (x2.n : Int))), U, U, .ptr 2 2, U, .ptr 0 2, ofSl 10 e68 x2, .int .i64 v1_0, .ref [.int .i64 (x2.at' (Int.toNat v1_0)).c0, .int .i64 (x2.at' (Int.toNat v1_0)).c1, .bool (x2.at' (Int.toNat v1_0)).c2, .int .i64 (x2.at' (Int.toNat v1_0)).c3, .int .i64 (x2.at' (Int.toNat v1_0)).c4, .int .i64 (x2.at' (Int.toNat v1_0)).c5, .str (x2.at' (Int.toNat v1_0)).c6, .str (x2.at' (Int.toNat v1_0)).c7, .str (x2.at' (Int.toNat v1_0)).c8, .int .i64 (x2.at' (Int.toNat v1_0)).c9], .agg [.int .i64 (x2.at' (Int.toNat v1_0)).c0, .int .i64 (x2.at' (Int.toNat v1_0)).c1, .bool (x2.at' (Int.toNat v1_0)).c2, .int .i64 (x2.at' (Int.toNat v1_0)).c3, .int .i64 (x2.at' (Int.toNat v1_0)).c4, .int .i64 (x2.at' (Int.toNat v1_0)).c5, .str (x2.at' (Int.toNat v1_0)).c6, .str (x2.at' (Int.toNat v1_0)).c7, .str (x2.at' (Int.toNat v1_0)).c8, .int .i64 (x2.at' (Int.toNat v1_0)).c9], .own 4 1, .own 3 (Sl.app v1_1 (Sl.lit ([(x2.at' (Int.toNat v1_0))] : List T68))).n, .ptr 2 2, U]), [[.int .i64 x0, .int .i64 x1, ofSl 10 e68 x2], [.int .i64 0, .int .i64 0, .nils], [.int .i64 x0, .int .i64 x1, .own 3 (Sl.app v1_1 (Sl.lit ([(x2.at' (Int.toNat v1_0))] : List T68))).n], [.blk false 10 (Sl.app v1_1 (Sl.lit ([(x2.at' (Int.toNat v1_0))] : List T68))).n a.1], [.blk false 10 1 a.2]]⟩) ((fun i => e68 ((Sl.app v1_1 (Sl.lit ([(x2.at' (Int.toNat v1_0))] : List T68))).at' i)), (fun i => e68 ((Sl.lit ([(x2.at' (Int.toNat v1_0))] : List T68)).at' i))) (fun K => ((0 ≤ v1_0 ∧ v1_0 < (x2.n : Int)) ∧ (∃ hx4 : Nat → List AV, (∀ i, i < 1 → (fun i => ([[.int .i64 (x2.at' (Int.toNat v1_0)).c0, .int .i64 (x2.at' (Int.toNat v1_0)).c1, .bool (x2.at' (Int.toNat v1_0)).c2, .int .i64 (x2.at' (Int.toNat v1_0)).c3, .int .i64 (x2.at' (Int.toNat v1_0)).c4, .int .i64 (x2.at' (Int.toNat v1_0)).c5, .str (x2.at' (Int.toNat v1_0)).c6, .str (x2.at' (Int.toNat v1_0)).c7, .str (x2.at' (Int.toNat v1_0)).c8, .int .i64 (x2.at' (Int.toNat v1_0)).c9]] : List (List AV)).getD i []) i = hx4 i) ∧ (((1 : Nat) = 1) ∧ ((v1_1.n : Nat) = v1_1.n) ∧ (v1_1.n + 1 ≤ 549755813888) ∧ (∃ hx5 : Nat → List AV, (∀ i, i < (v1_1.n + 1) → (appF v1_1.n (fun i => e68 (v1_1.at' i)) hx4) i = hx5 i) ∧ (true = true ∧ K (hx5, hx4))))))) (by kernel_rfl) ⟨(by have := of_decide_eq_true h1; omega), ⟨(fun i => e68 ((Sl.lit ([(x2.at' (Int.toNat v1_0))] : List T68)).at' i)), litOk e68 [(x2.at' (Int.toNat v1_0))], ⟨rfl, rfl, (by have := of_decide_eq_true h1; omega), ⟨(fun i => e68 ((Sl.app v1_1 (Sl.lit ([(x2.at' (Int.toNat v1_0))] : List T68))).at' i)), appOk' (e := e68) (s := v1_1) (t := (Sl.lit ([(x2.at' (Int.toNat v1_0))] : List T68))) rfl rfl (fun _ _ => rfl) (fun _ _ => rfl), ⟨rfl, (KM.mk rfl)⟩⟩⟩⟩⟩ ?_
      refine WP.fin0 g54_e_ok ⟨U :: .ptr 0 0 :: .ptr 1 0 :: .ptr 2 0 :: .int .i64 (IntKind.i64.wrap (v1_0 + 1)) :: us 5 ([.int .i64 v1_0, .ptr 0 2, ofSl 10 e68 x2, .int .i64 (x2.n : Int), .bool (decide (v1_0 < (x2.n : Int))), .int .i64 v1_0, .int .i64 (IntKind.i64.wrap (v1_0 + 1)), .ptr 2 2, U, .ptr 0 2, ofSl 10 e68 x2, .int .i64 v1_0, .ref [.int .i64 (x2.at' (Int.toNat v1_0)).c0, .int .i64 (x2.at' (Int.toNat v1_0)).c1, .bool (x2.at' (Int.toNat v1_0)).c2, .int .i64 (x2.at' (Int.toNat v1_0)).c3, .int .i64 (x2.at' (Int.toNat v1_0)).c4, .int .i64 (x2.at' (Int.toNat v1_0)).c5, .str (x2.at' (Int.toNat v1_0)).c6, .str (x2.at' (Int.toNat v1_0)).c7, .str (x2.at' (Int.toNat v1_0)).c8, .int .i64 (x2.at' (Int.toNat v1_0)).c9], .agg [.int .i64 (x2.at' (Int.toNat v1_0)).c0, .int .i64 (x2.at' (Int.toNat v1_0)).c1, .bool (x2.at' (Int.toNat v1_0)).c2, .int .i64 (x2.at' (Int.toNat v1_0)).c3, .int .i64 (x2.at' (Int.toNat v1_0)).c4, .int .i64 (x2.at' (Int.toNat v1_0)).c5, .str (x2.at' (Int.toNat v1_0)).c6, .str (x2.at' (Int.toNat v1_0)).c7, .str (x2.at' (Int.toNat v1_0)).c8, .int .i64 (x2.at' (Int.toNat v1_0)).c9], .own 4 1, .own 3 (Sl.app v1_1 (Sl.lit ([(x2.at' (Int.toNat v1_0))] : List T68))).n, .ptr 2 2, U]), [[.int .i64 x0, .int .i64 x1, ofSl 10 e68 x2], [.int .i64 0, .int .i64 0, .nils], [.int .i64 x0, .int .i64 x1, .own 3 (Sl.app v1_1 (Sl.lit ([(x2.at' (Int.toNat v1_0))] : List T68))).n], [.blk false 10 (Sl.app v1_1 (Sl.lit ([(x2.at' (Int.toNat v1_0))] : List T68))).n (fun i => e68 ((Sl.app v1_1 (Sl.lit ([(x2.at' (Int.toNat v1_0))] : List T68))).at' i))], [.blk false 10 1 (fun i => e68 ((Sl.lit ([(x2.at' (Int.toNat v1_0))] : List T68)).at' i))]]⟩ (by kernel_rfl) ?_
      exact loopR_nextE ((IntKind.i64.wrap (v1_0 + 1)), (Sl.app v1_1 (Sl.lit ([(x2.at' (Int.toNat v1_0))] : List T68)))) (by have := of_decide_eq_true h1; (try dsimp only); (try simp only [Sl.app_n]); (try simp only [Sl.lit_n]); (try simp only [Sl.part_n]); (try simp only [nilSl_n]); (try simp only [List.length_cons]); (try simp only [List.length_nil]); first | omega | (have := wrap64 (x := (v1_0 + 1)) (by omega) (by omega); omega) | (simp only [wrap64 (x := (v1_0 + 1)) (by omega) (by omega)]; omega)) (by have := of_decide_eq_true h1; (try dsimp only); (try simp only [Sl.app_n]); (try simp only [Sl.lit_n]); (try simp only [Sl.part_n]); (try simp only [nilSl_n]); (try simp only [List.length_cons]); (try simp only [List.length_nil]); first | omega | (have := wrap64 (x := (v1_0 + 1)) (by omega) (by omega); omega) | (simp only [wrap64 (x := (v1_0 + 1)) (by omega) (by omega)]; omega)) ((eqT h1 rfl).trans hR1) (by kernel_rfl)
    · skip
      have hv2 : (v1_1 : Sl T68) = (g54_r1 x2) := ((eqF h1 rfl)).trans hR1
      exact WP.exitP (((((g54_r1 x2).n : Nat) : Int) ≤ 0 + ((x2.n : Int) - 0)) ∧ ((((.ptr 1 0 : AV) = .ptr 1 0) ∧ ((.ptr 2 0 : AV) = .ptr 2 0) ∧ True) ∧ ((((0 : Int) = 0) ∧ ((0 : Int) = 0) ∧ ((.nils : AV) = .nils) ∧ True) ∧ (((x0 : Int) = x0) ∧ ((x1 : Int) = x1) ∧ ((.own 3 v1_1.n : AV) = .own 3 (g54_r1 x2).n) ∧ True) ∧ ((v1_1.n = (g54_r1 x2).n ∧ ∀ i, i < (g54_r1 x2).n → (fun i => e68 (v1_1.at' i)) i = e68 ((g54_r1 x2).at' i)) ∧ True) ∧ True) ∧ true = true)) (by kernel_rfl) ⟨by have e := (congrArg (fun r : Sl T68 => r) hv2); rw [← e]; have := of_decide_eq_false h1; omega, ⟨⟨rfl, rfl, trivial⟩, ⟨⟨rfl, rfl, rfl, trivial⟩, ⟨rfl, rfl, (congrArg (fun s => AV.own 3 (Sl.n s)) (congrArg (fun r : Sl T68 => r) hv2)), trivial⟩, ⟨(slEq' (enc := e68) (congrArg (fun r : Sl T68 => r) hv2)), trivial⟩, trivial⟩, rfl⟩⟩
  · skip
    intro hF3
    refine WP.step0 g54_e_ok ⟨U :: U :: .ptr 1 0 :: us 25 [], [[], [.int .i64 x0, .int .i64 x1, .own 3 (g54_r1 x2).n], [], [.blk false 10 (g54_r1 x2).n (fun i => e68 ((g54_r1 x2).at' i))]]⟩ (by kernel_rfl) ?_
    exact WP.retP (True ∧ ((((g54_r1 x2).n : Nat) = (g54_r1 x2).n) ∧ (((.int .i64 x0 : AV) = .int .i64 (g54_0 x0)) ∧ ((.int .i64 x1 : AV) = .int .i64 (g54_1 x1)) ∧ (10 = 10 ∧ (g54_r1 x2).n = (g54_2 x2).n ∧ ∀ i, i < (g54_r1 x2).n → e68 ((g54_r1 x2).at' i) = e68 ((g54_2 x2).at' i)) ∧ True))) (by kernel_rfl) ⟨trivial, ⟨rfl, ⟨rfl, rfl, (slEq (sz := 10) (enc := e68) rfl), trivial⟩⟩⟩
noncomputable def s54 : Ans := fun xs => match xs with
  | [.agg [.int .i64 x0, .int .i64 x1, y2]] => bif isSl 10 y2 then some (some (okSl e68 d68 y2), .agg [.int .i64 (g54_0 x0), .int .i64 (g54_1 x1), ofSl 10 e68 (g54_2 (toSl d68 y2))]) else none
  | _ => none
theorem k54 : SOk Try.prog 54 s54 := ⟨⟨_, _, Try.func54, rfl, by kernel_rfl⟩, fun args pre r h hp => by
  unfold s54 at h
  split at h
  · obtain ⟨b0, h⟩ := cond_some h
    cases h
    exact (pc54 _ _ _).weak (l1 (aG (l1 cI (l1 cI (l1 (slLe b0 hp.1) l0)))) l0)
  · cases h⟩
noncomputable def g109_l1 (x0 : Sl Int) : Nat → Int → Sl Int → Sl Int
  | 0, _, _ => default
  | k + 1, v1_0, v1_1 => (bif (decide (v1_0 < (x0.n : Int))) then (g109_l1 x0 k (IntKind.i64.wrap (v1_0 + 1)) (Sl.app v1_1 (Sl.lit ([(x0.at' (Int.toNat v1_0))] : List Int)))) else v1_1)
noncomputable def g109_r1 (x0 : Sl Int) : Sl Int := g109_l1 x0 ((Int.toNat ((x0.n : Int) - 0)) + 1) 0 (nilSl : Sl Int)
noncomputable def g109_l7 (x1 : Sl Int) : Nat → Int → Sl Int → Sl Int
  | 0, _, _ => default
  | k + 1, v7_0, v7_1 => (bif (decide (v7_0 < (x1.n : Int))) then (g109_l7 x1 k (IntKind.i64.wrap (v7_0 + 1)) (Sl.app v7_1 (Sl.lit ([(x1.at' (Int.toNat v7_0))] : List Int)))) else v7_1)
noncomputable def g109_r2 (x0 : Sl Int) (x1 : Sl Int) : Sl Int := g109_l7 x1 ((Int.toNat ((x1.n : Int) - 0)) + 1) 0 (g109_r1 x0)
noncomputable def g109 (x0 : Sl Int) (x1 : Sl Int) : Sl Int := (g109_r2 x0 x1)
noncomputable abbrev g109_e : Env := mkE []
theorem g109_e_ok : g109_e.Ok := mkE_ok trivial
theorem pc109 (x0 : Sl Int) (x1 : Sl Int) (hq0 : x0.n + x1.n ≤ 549755813888) : PureCall Try.prog 109 [ofSl 1 e5 x0, ofSl 1 e5 x1] (.blk false 1 (g109 x0 x1).n (fun i => e5 ((g109 x0 x1).at' i))) := by
  refine PureCall.fine fun hf => ?_
  have hf_x0 : Fine (ofSl 1 e5 x0) := hf.1
  have hn_x0 : x0.n ≤ 549755813888 := hf_x0.len
  have hf_x1 : Fine (ofSl 1 e5 x1) := hf.2.1
  have hn_x1 : x1.n ≤ 549755813888 := hf_x1.len
  refine pure_of_WP (E := g109_e) g109_e_ok Try.func109 rfl _ _ ?_
  refine WP.step0 g109_e_ok ⟨ofSl 1 e5 x0 :: ofSl 1 e5 x1 :: U :: U :: .nils :: us 30 [], []⟩ (by kernel_rfl) ?_
  refine WP.step0 g109_e_ok ⟨ofSl 1 e5 x0 :: ofSl 1 e5 x1 :: U :: U :: .nils :: .nils :: us 29 [], []⟩ (by kernel_rfl) ?_
  refine WP.joinF ⟨U :: ofSl 1 e5 x1 :: U :: U :: .nils :: .own 0 (g109_r1 x0).n :: us 29 [], [[.blk false 1 (g109_r1 x0).n (fun i => e5 ((g109_r1 x0).at' i))]]⟩ ((((g109_r1 x0).n : Nat) : Int) ≤ 0 + ((x0.n : Int) - 0)) ?_ ?_
  · skip
    refine WP.step0 g109_e_ok ⟨ofSl 1 e5 x0 :: ofSl 1 e5 x1 :: U :: U :: .nils :: .nils :: .int .i64 0 :: us 28 [], []⟩ (by kernel_rfl) ?_
    refine WP.block ?_
    refine WP.nilT 5 1 rfl ?_
    refine WP.loopK (σ := Int × Sl Int) (R := Sl Int) (fun s => ⟨ofSl 1 e5 x0 :: ofSl 1 e5 x1 :: U :: U :: .nils :: .own 0 s.2.n :: .int .i64 s.1 :: us 28 [], [[.blk false 1 s.2.n (fun i => e5 (s.2.at' i))]]⟩) (fun s => ((0 ≤ s.1 ∧ s.1 ≤ (x0.n : Int)) ∧ ((s.2.n : Nat) : Int) ≤ 0 + (s.1 - 0))) (fun s => (Int.toNat ((x0.n : Int) - s.1))) (fun k s => g109_l1 x0 k (s.1) (s.2)) (0, (nilSl : Sl Int)) (by first | omega | ((try dsimp only); omega) | ((try dsimp only); (try simp only [Sl.app_n]); (try simp only [Sl.lit_n]); (try simp only [Sl.part_n]); (try simp only [nilSl_n]); (try simp only [List.length_cons]); (try simp only [List.length_nil]); first | omega | (omega) | (simp only [wrap64 (by omega) (by omega)]; omega))) (Eq.mpr (β := (((x0.n = x0.n ∧ ∀ i, i < x0.n → e5 (x0.at' i) = e5 (x0.at' i)) ∧ (x1.n = x1.n ∧ ∀ i, i < x1.n → e5 (x1.at' i) = e5 (x1.at' i)) ∧ ((.nils : AV) = .nils) ∧ ((.own 0 0 : AV) = .own 0 0) ∧ ((0 : Int) = 0) ∧ True) ∧ (((0 = 0 ∧ ∀ i, i < 0 → (fun _ => []) i = e5 ((nilSl : Sl Int).at' i)) ∧ True) ∧ True) ∧ true = true)) (by kernel_rfl) ⟨⟨⟨rfl, fun _ _ => rfl⟩, ⟨rfl, fun _ _ => rfl⟩, rfl, rfl, rfl, trivial⟩, ⟨⟨(nilOk e5), trivial⟩, trivial⟩, rfl⟩) (fun k s hI1 hk1 hR1 => ?_)
    obtain ⟨v1_0, v1_1⟩ := s
    have hI1 : ((0 ≤ v1_0 ∧ v1_0 ≤ (x0.n : Int)) ∧ ((v1_1.n : Nat) : Int) ≤ 0 + (v1_0 - 0)) := hI1
    have hR1 : g109_l1 x0 (k + 1) v1_0 v1_1 = (g109_r1 x0) := hR1
    refine WP.seq ?_
    refine WP.step0 g109_e_ok ⟨ofSl 1 e5 x0 :: ofSl 1 e5 x1 :: U :: U :: .nils :: .own 0 v1_1.n :: .int .i64 v1_0 :: U :: .int .i64 v1_0 :: ofSl 1 e5 x0 :: .int .i64 (x0.n : Int) :: .bool (decide (v1_0 < (x0.n : Int))) :: us 23 [], [[.blk false 1 v1_1.n (fun i => e5 (v1_1.at' i))]]⟩ (by kernel_rfl) ?_
    refine WP.condR (decide (v1_0 < (x0.n : Int))) rfl (fun h1 => ?_) (fun h1 => ?_)
    · skip
      refine WP.skip ?_
      refine WP.seq ?_
      refine WP.block ?_
      refine WP.finM g109_e_ok (fun a : (Nat → List AV) × (Nat → List AV) => ⟨ofSl 1 e5 x0 :: ofSl 1 e5 x1 :: U :: U :: .nils :: .own 0 (Sl.app v1_1 (Sl.lit ([(x0.at' (Int.toNat v1_0))] : List Int))).n :: .int .i64 v1_0 :: U :: .int .i64 v1_0 :: ofSl 1 e5 x0 :: .int .i64 (x0.n : Int) :: .bool (decide (v1_0 < (x0.n : Int))) :: U :: U :: U :: ofSl 1 e5 x0 :: .int .i64 v1_0 :: .ref [.int .u8 (x0.at' (Int.toNat v1_0))] :: .int .u8 (x0.at' (Int.toNat v1_0)) :: .own 1 1 :: .own 0 (Sl.app v1_1 (Sl.lit ([(x0.at' (Int.toNat v1_0))] : List Int))).n :: us 14 [], [[.blk false 1 (Sl.app v1_1 (Sl.lit ([(x0.at' (Int.toNat v1_0))] : List Int))).n a.1], [.blk false 1 1 a.2]]⟩) ((fun i => e5 ((Sl.app v1_1 (Sl.lit ([(x0.at' (Int.toNat v1_0))] : List Int))).at' i)), (fun i => e5 ((Sl.lit ([(x0.at' (Int.toNat v1_0))] : List Int)).at' i))) (fun K => ((0 ≤ v1_0 ∧ v1_0 < (x0.n : Int)) ∧ (∃ hx4 : Nat → List AV, (∀ i, i < 1 → (fun i => ([[.int .u8 (x0.at' (Int.toNat v1_0))]] : List (List AV)).getD i []) i = hx4 i) ∧ (((1 : Nat) = 1) ∧ ((v1_1.n : Nat) = v1_1.n) ∧ (v1_1.n + 1 ≤ 549755813888) ∧ (∃ hx5 : Nat → List AV, (∀ i, i < (v1_1.n + 1) → (appF v1_1.n (fun i => e5 (v1_1.at' i)) hx4) i = hx5 i) ∧ K (hx5, hx4)))))) (by kernel_rfl) ⟨(by have := of_decide_eq_true h1; omega), ⟨(fun i => e5 ((Sl.lit ([(x0.at' (Int.toNat v1_0))] : List Int)).at' i)), litOk e5 [(x0.at' (Int.toNat v1_0))], ⟨rfl, rfl, (by have := of_decide_eq_true h1; omega), ⟨(fun i => e5 ((Sl.app v1_1 (Sl.lit ([(x0.at' (Int.toNat v1_0))] : List Int))).at' i)), appOk' (e := e5) (s := v1_1) (t := (Sl.lit ([(x0.at' (Int.toNat v1_0))] : List Int))) rfl rfl (fun _ _ => rfl) (fun _ _ => rfl), (KM.mk rfl)⟩⟩⟩⟩ ?_
      refine WP.fin0 g109_e_ok ⟨ofSl 1 e5 x0 :: ofSl 1 e5 x1 :: U :: U :: .nils :: .own 0 (Sl.app v1_1 (Sl.lit ([(x0.at' (Int.toNat v1_0))] : List Int))).n :: .int .i64 (IntKind.i64.wrap (v1_0 + 1)) :: U :: .int .i64 v1_0 :: ofSl 1 e5 x0 :: .int .i64 (x0.n : Int) :: .bool (decide (v1_0 < (x0.n : Int))) :: .int .i64 v1_0 :: .int .i64 (IntKind.i64.wrap (v1_0 + 1)) :: U :: ofSl 1 e5 x0 :: .int .i64 v1_0 :: .ref [.int .u8 (x0.at' (Int.toNat v1_0))] :: .int .u8 (x0.at' (Int.toNat v1_0)) :: .own 1 1 :: .own 0 (Sl.app v1_1 (Sl.lit ([(x0.at' (Int.toNat v1_0))] : List Int))).n :: us 14 [], [[.blk false 1 (Sl.app v1_1 (Sl.lit ([(x0.at' (Int.toNat v1_0))] : List Int))).n (fun i => e5 ((Sl.app v1_1 (Sl.lit ([(x0.at' (Int.toNat v1_0))] : List Int))).at' i))], [.blk false 1 1 (fun i => e5 ((Sl.lit ([(x0.at' (Int.toNat v1_0))] : List Int)).at' i))]]⟩ (by kernel_rfl) ?_
      exact loopR_nextE ((IntKind.i64.wrap (v1_0 + 1)), (Sl.app v1_1 (Sl.lit ([(x0.at' (Int.toNat v1_0))] : List Int)))) (by have := of_decide_eq_true h1; (try dsimp only); (try simp only [Sl.app_n]); (try simp only [Sl.lit_n]); (try simp only [Sl.part_n]); (try simp only [nilSl_n]); (try simp only [List.length_cons]); (try simp only [List.length_nil]); first | omega | (have := wrap64 (x := (v1_0 + 1)) (by omega) (by omega); omega) | (simp only [wrap64 (x := (v1_0 + 1)) (by omega) (by omega)]; omega)) (by have := of_decide_eq_true h1; (try dsimp only); (try simp only [Sl.app_n]); (try simp only [Sl.lit_n]); (try simp only [Sl.part_n]); (try simp only [nilSl_n]); (try simp only [List.length_cons]); (try simp only [List.length_nil]); first | omega | (have := wrap64 (x := (v1_0 + 1)) (by omega) (by omega); omega) | (simp only [wrap64 (x := (v1_0 + 1)) (by omega) (by omega)]; omega)) ((eqT h1 rfl).trans hR1) (by kernel_rfl)
    · skip
      have hv2 : (v1_1 : Sl Int) = (g109_r1 x0) := ((eqF h1 rfl)).trans hR1
      exact WP.exitP (((((g109_r1 x0).n : Nat) : Int) ≤ 0 + ((x0.n : Int) - 0)) ∧ (((x1.n = x1.n ∧ ∀ i, i < x1.n → e5 (x1.at' i) = e5 (x1.at' i)) ∧ ((.nils : AV) = .nils) ∧ ((.own 0 v1_1.n : AV) = .own 0 (g109_r1 x0).n) ∧ True) ∧ (((v1_1.n = (g109_r1 x0).n ∧ ∀ i, i < (g109_r1 x0).n → (fun i => e5 (v1_1.at' i)) i = e5 ((g109_r1 x0).at' i)) ∧ True) ∧ True) ∧ true = true)) (by kernel_rfl) ⟨by have e := (congrArg (fun r : Sl Int => r) hv2); rw [← e]; have := of_decide_eq_false h1; omega, ⟨⟨⟨rfl, fun _ _ => rfl⟩, rfl, (congrArg (fun s => AV.own 0 (Sl.n s)) (congrArg (fun r : Sl Int => r) hv2)), trivial⟩, ⟨⟨(slEq' (enc := e5) (congrArg (fun r : Sl Int => r) hv2)), trivial⟩, trivial⟩, rfl⟩⟩
  · skip
    intro hF3
    refine WP.joinF ⟨us 4 (.nils :: .own 0 (g109_r2 x0 x1).n :: us 29 []), [[.blk false 1 (g109_r2 x0 x1).n (fun i => e5 ((g109_r2 x0 x1).at' i))]]⟩ ((((g109_r2 x0 x1).n : Nat) : Int) ≤ (((g109_r1 x0).n : Nat) : Int) + ((x1.n : Int) - 0)) ?_ ?_
    · skip
      refine WP.step0 g109_e_ok ⟨U :: ofSl 1 e5 x1 :: U :: U :: .nils :: .own 0 (g109_r1 x0).n :: U :: .int .i64 0 :: us 27 [], [[.blk false 1 (g109_r1 x0).n (fun i => e5 ((g109_r1 x0).at' i))]]⟩ (by kernel_rfl) ?_
      refine WP.block ?_
      refine WP.loopK (σ := Int × Sl Int) (R := Sl Int) (fun s => ⟨U :: ofSl 1 e5 x1 :: U :: U :: .nils :: .own 0 s.2.n :: U :: .int .i64 s.1 :: us 27 [], [[.blk false 1 s.2.n (fun i => e5 (s.2.at' i))]]⟩) (fun s => ((0 ≤ s.1 ∧ s.1 ≤ (x1.n : Int)) ∧ ((s.2.n : Nat) : Int) ≤ (((g109_r1 x0).n : Nat) : Int) + (s.1 - 0))) (fun s => (Int.toNat ((x1.n : Int) - s.1))) (fun k s => g109_l7 x1 k (s.1) (s.2)) (0, (g109_r1 x0)) (by first | omega | ((try dsimp only); omega) | ((try dsimp only); (try simp only [Sl.app_n]); (try simp only [Sl.lit_n]); (try simp only [Sl.part_n]); (try simp only [nilSl_n]); (try simp only [List.length_cons]); (try simp only [List.length_nil]); first | omega | (omega) | (simp only [wrap64 (by omega) (by omega)]; omega))) (leE (by kernel_rfl)) (fun k s hI7 hk7 hR7 => ?_)
      obtain ⟨v7_0, v7_1⟩ := s
      have hI7 : ((0 ≤ v7_0 ∧ v7_0 ≤ (x1.n : Int)) ∧ ((v7_1.n : Nat) : Int) ≤ (((g109_r1 x0).n : Nat) : Int) + (v7_0 - 0)) := hI7
      have hR7 : g109_l7 x1 (k + 1) v7_0 v7_1 = (g109_r2 x0 x1) := hR7
      refine WP.seq ?_
      refine WP.step0 g109_e_ok ⟨U :: ofSl 1 e5 x1 :: U :: U :: .nils :: .own 0 v7_1.n :: U :: .int .i64 v7_0 :: us 13 (.int .i64 v7_0 :: ofSl 1 e5 x1 :: .int .i64 (x1.n : Int) :: .bool (decide (v7_0 < (x1.n : Int))) :: us 10 []), [[.blk false 1 v7_1.n (fun i => e5 (v7_1.at' i))]]⟩ (by kernel_rfl) ?_
      refine WP.condR (decide (v7_0 < (x1.n : Int))) rfl (fun h4 => ?_) (fun h4 => ?_)
      · skip
        refine WP.skip ?_
        refine WP.seq ?_
        refine WP.block ?_
        refine WP.finM g109_e_ok (fun a : (Nat → List AV) × (Nat → List AV) => ⟨U :: ofSl 1 e5 x1 :: U :: U :: .nils :: .own 0 (Sl.app v7_1 (Sl.lit ([(x1.at' (Int.toNat v7_0))] : List Int))).n :: U :: .int .i64 v7_0 :: us 13 ([.int .i64 v7_0, ofSl 1 e5 x1, .int .i64 (x1.n : Int), .bool (decide (v7_0 < (x1.n : Int))), U, U, U, ofSl 1 e5 x1, .int .i64 v7_0, .ref [.int .u8 (x1.at' (Int.toNat v7_0))], .int .u8 (x1.at' (Int.toNat v7_0)), .own 1 1, .own 0 (Sl.app v7_1 (Sl.lit ([(x1.at' (Int.toNat v7_0))] : List Int))).n, U]), [[.blk false 1 (Sl.app v7_1 (Sl.lit ([(x1.at' (Int.toNat v7_0))] : List Int))).n a.1], [.blk false 1 1 a.2]]⟩) ((fun i => e5 ((Sl.app v7_1 (Sl.lit ([(x1.at' (Int.toNat v7_0))] : List Int))).at' i)), (fun i => e5 ((Sl.lit ([(x1.at' (Int.toNat v7_0))] : List Int)).at' i))) (fun K => ((0 ≤ v7_0 ∧ v7_0 < (x1.n : Int)) ∧ (∃ hx8 : Nat → List AV, (∀ i, i < 1 → (fun i => ([[.int .u8 (x1.at' (Int.toNat v7_0))]] : List (List AV)).getD i []) i = hx8 i) ∧ (((1 : Nat) = 1) ∧ ((v7_1.n : Nat) = v7_1.n) ∧ (v7_1.n + 1 ≤ 549755813888) ∧ (∃ hx9 : Nat → List AV, (∀ i, i < (v7_1.n + 1) → (appF v7_1.n (fun i => e5 (v7_1.at' i)) hx8) i = hx9 i) ∧ K (hx9, hx8)))))) (by kernel_rfl) ⟨(by have := of_decide_eq_true h4; omega), ⟨(fun i => e5 ((Sl.lit ([(x1.at' (Int.toNat v7_0))] : List Int)).at' i)), litOk e5 [(x1.at' (Int.toNat v7_0))], ⟨rfl, rfl, (by have := of_decide_eq_true h4; omega), ⟨(fun i => e5 ((Sl.app v7_1 (Sl.lit ([(x1.at' (Int.toNat v7_0))] : List Int))).at' i)), appOk' (e := e5) (s := v7_1) (t := (Sl.lit ([(x1.at' (Int.toNat v7_0))] : List Int))) rfl rfl (fun _ _ => rfl) (fun _ _ => rfl), (KM.mk rfl)⟩⟩⟩⟩ ?_
        refine WP.fin0 g109_e_ok ⟨U :: ofSl 1 e5 x1 :: U :: U :: .nils :: .own 0 (Sl.app v7_1 (Sl.lit ([(x1.at' (Int.toNat v7_0))] : List Int))).n :: U :: .int .i64 (IntKind.i64.wrap (v7_0 + 1)) :: us 13 ([.int .i64 v7_0, ofSl 1 e5 x1, .int .i64 (x1.n : Int), .bool (decide (v7_0 < (x1.n : Int))), .int .i64 v7_0, .int .i64 (IntKind.i64.wrap (v7_0 + 1)), U, ofSl 1 e5 x1, .int .i64 v7_0, .ref [.int .u8 (x1.at' (Int.toNat v7_0))], .int .u8 (x1.at' (Int.toNat v7_0)), .own 1 1, .own 0 (Sl.app v7_1 (Sl.lit ([(x1.at' (Int.toNat v7_0))] : List Int))).n, U]), [[.blk false 1 (Sl.app v7_1 (Sl.lit ([(x1.at' (Int.toNat v7_0))] : List Int))).n (fun i => e5 ((Sl.app v7_1 (Sl.lit ([(x1.at' (Int.toNat v7_0))] : List Int))).at' i))], [.blk false 1 1 (fun i => e5 ((Sl.lit ([(x1.at' (Int.toNat v7_0))] : List Int)).at' i))]]⟩ (by kernel_rfl) ?_
        exact loopR_nextE ((IntKind.i64.wrap (v7_0 + 1)), (Sl.app v7_1 (Sl.lit ([(x1.at' (Int.toNat v7_0))] : List Int)))) (by have := of_decide_eq_true h4; (try dsimp only); (try simp only [Sl.app_n]); (try simp only [Sl.lit_n]); (try simp only [Sl.part_n]); (try simp only [nilSl_n]); (try simp only [List.length_cons]); (try simp only [List.length_nil]); first | omega | (have := wrap64 (x := (v7_0 + 1)) (by omega) (by omega); omega) | (simp only [wrap64 (x := (v7_0 + 1)) (by omega) (by omega)]; omega)) (by have := of_decide_eq_true h4; (try dsimp only); (try simp only [Sl.app_n]); (try simp only [Sl.lit_n]); (try simp only [Sl.part_n]); (try simp only [nilSl_n]); (try simp only [List.length_cons]); (try simp only [List.length_nil]); first | omega | (have := wrap64 (x := (v7_0 + 1)) (by omega) (by omega); omega) | (simp only [wrap64 (x := (v7_0 + 1)) (by omega) (by omega)]; omega)) ((eqT h4 rfl).trans hR7) (by kernel_rfl)
      · skip
        have hv5 : (v7_1 : Sl Int) = (g109_r2 x0 x1) := ((eqF h4 rfl)).trans hR7
        exact WP.exitP (((((g109_r2 x0 x1).n : Nat) : Int) ≤ (((g109_r1 x0).n : Nat) : Int) + ((x1.n : Int) - 0)) ∧ ((((.nils : AV) = .nils) ∧ ((.own 0 v7_1.n : AV) = .own 0 (g109_r2 x0 x1).n) ∧ True) ∧ (((v7_1.n = (g109_r2 x0 x1).n ∧ ∀ i, i < (g109_r2 x0 x1).n → (fun i => e5 (v7_1.at' i)) i = e5 ((g109_r2 x0 x1).at' i)) ∧ True) ∧ True) ∧ true = true)) (by kernel_rfl) ⟨by have e := (congrArg (fun r : Sl Int => r) hv5); rw [← e]; have := of_decide_eq_false h4; omega, ⟨⟨rfl, (congrArg (fun s => AV.own 0 (Sl.n s)) (congrArg (fun r : Sl Int => r) hv5)), trivial⟩, ⟨⟨(slEq' (enc := e5) (congrArg (fun r : Sl Int => r) hv5)), trivial⟩, trivial⟩, rfl⟩⟩
    · skip
      intro hF6
      refine WP.step0 g109_e_ok ⟨us 4 (.own 0 (g109_r2 x0 x1).n :: us 30 []), [[.blk false 1 (g109_r2 x0 x1).n (fun i => e5 ((g109_r2 x0 x1).at' i))]]⟩ (by kernel_rfl) ?_
      exact WP.retP (True ∧ ((g109_r2 x0 x1).n = (g109_r2 x0 x1).n ∧ (g109_r2 x0 x1).n = (g109 x0 x1).n ∧ ∀ i, i < (g109 x0 x1).n → (fun i => e5 ((g109_r2 x0 x1).at' i)) i = (fun i => e5 ((g109 x0 x1).at' i)) i)) (by kernel_rfl) ⟨trivial, ⟨rfl, ⟨rfl, fun _ _ => rfl⟩⟩⟩
noncomputable def s109 : Ans := fun xs => match xs with
  | [y0, y1] => bif isSl 1 y0 then bif isSl 1 y1 then some (some (okSl e5 d5 y0 ∧ okSl e5 d5 y1 ∧ (toSl d5 y0).n + (toSl d5 y1).n ≤ 549755813888), .blk false 1 (g109 (toSl d5 y0) (toSl d5 y1)).n (fun i => e5 ((g109 (toSl d5 y0) (toSl d5 y1)).at' i))) else none else none
  | _ => none
theorem k109 : SOk Try.prog 109 s109 := ⟨⟨_, _, Try.func109, rfl, by kernel_rfl⟩, fun args pre r h hp => by
  unfold s109 at h
  split at h
  · obtain ⟨b0, h⟩ := cond_some h
    obtain ⟨b1, h⟩ := cond_some h
    cases h
    exact (pc109 _ _ hp.1.2.2).weak (l1 (slLeA b0 hp.1.1) (l1 (slLeA b1 hp.1.2.1) l0))
  · cases h⟩
noncomputable def g108_m1 (x0 : Sl Int) (x1 : Int) : Bool := (bif (decide ((x0.n : Int) ≤ 400000)) then (g112 x1 0 (x0.n : Int)) else false)
noncomputable def g108 (x0 : Sl Int) (x1 : Int) : Bool := (g108_m1 x0 x1)
noncomputable abbrev g108_e : Env := mkE [(112, s112)]
theorem g108_e_ok : g108_e.Ok := mkE_ok ⟨k112, trivial⟩
theorem pc108 (x0 : Sl Int) (x1 : Int) : PureCall Try.prog 108 [.agg [ofSl 1 e5 x0, .int .i64 x1]] (.bool (g108 x0 x1)) := by
  refine PureCall.fine fun hf => ?_
  have hf_x0 : Fine (ofSl 1 e5 x0) := hf.1.1
  have hn_x0 : x0.n ≤ 549755813888 := hf_x0.len
  refine pure_of_WP (E := g108_e) g108_e_ok Try.func108 rfl _ _ ?_
  refine WP.step0 g108_e_ok ⟨U :: .ptr 0 0 :: .bool false :: us 12 [], [[ofSl 1 e5 x0, .int .i64 x1]]⟩ (by kernel_rfl) ?_
  refine WP.stepM g108_e_ok (fun a : Bool => ⟨U :: U :: .bool a :: us 12 [], []⟩) (g108_m1 x0 x1) (fun K => (((decide ((x0.n : Int) ≤ 400000)) = true → K (g112 x1 0 (x0.n : Int))) ∧ ((decide ((x0.n : Int) ≤ 400000)) = false → K false))) (by kernel_rfl) ⟨fun h1 => (KM.mk (eqT h1 rfl)), fun h1 => (KM.mk (eqF h1 rfl))⟩ ?_
  exact WP.retP (True ∧ ((.bool (g108_m1 x0 x1) : AV) = .bool (g108 x0 x1))) (by kernel_rfl) ⟨trivial, rfl⟩
noncomputable def s108 : Ans := fun xs => match xs with
  | [.agg [y0, .int .i64 x1]] => bif isSl 1 y0 then some (some (okSl e5 d5 y0), .bool (g108 (toSl d5 y0) x1)) else none
  | _ => none
theorem k108 : SOk Try.prog 108 s108 := ⟨⟨_, _, Try.func108, rfl, by kernel_rfl⟩, fun args pre r h hp => by
  unfold s108 at h
  split at h
  · obtain ⟨b0, h⟩ := cond_some h
    cases h
    exact (pc108 _ _).weak (l1 (aG (l1 (slLe b0 hp.1) (l1 cI l0))) l0)
  · cases h⟩
theorem h108 (x0 : Sl Int) (x1 : Int) (h : g108 x0 x1 = true) : (0 ≤ x1 ∧ x1 ≤ (x0.n : Int)) ∧ x0.n ≤ 400000 := by
  simp [g108, g108_m1, g112, g112_m1] at h
  omega
end Go.Proofs.Ytchhfojblmceiaa
